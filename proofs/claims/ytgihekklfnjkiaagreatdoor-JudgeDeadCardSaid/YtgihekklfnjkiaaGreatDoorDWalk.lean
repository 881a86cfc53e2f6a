/- awake of the chapter. -/
import Derived.Test.YtgihekklfnjkiaaGreatDoorProg
import Derived.Test.YtgihekklfnjkiaaGreatDoorDEvalE
import Derived.Lib.Hide
import Derived.WalkSmall
import Derived.Shelf.Small.Strs
import Derived.Shelf.Strings.Split
import Derived.Shelf.Strings.Shaped
import Derived.RangeFuncNested
import Derived.RangeFuncBound
import Derived.Shelf.RegionOpen
import Derived.OwnWalkIn
import Derived.LoopNIn
import Derived.LoopIn
set_option linter.all false
set_option linter.unusedSectionVars false
set_option linter.deprecated false
namespace Go.Proofs.YtgihekklfnjkiaaGreatDoor
noncomputable section
set_option maxRecDepth 100000
open Go Go.Ai Go.Proofs
def tt:T TI:=ttOf Go.Proofs.Tryz.prog [7,8,25,26,33,34,39,40,50,51,74,75,76,82,83,85,86,96,97,122,123,133,134,173,174,176,177,212,213,249,250]
def gg:T dV:=ggOf Go.Proofs.Tryz.prog tt
theorem auk:KR Go.Proofs.Tryz.prog (λp=>p) tt=true:=by kernel_rfl
theorem TH:dH Go.Proofs.Tryz.prog tt:=arU auk
theorem TJ:GOk Go.Proofs.Tryz.prog tt gg:=arV (by kernel_rfl)
end
end Go.Proofs.YtgihekklfnjkiaaGreatDoor
section
end
namespace Go.Proofs.YtgihekklfnjkiaaGreatDoor
section
set_option maxRecDepth 1000000
open Go Go.Ai
noncomputable def arI:fc:=vL [(246,FN)]
noncomputable def YY:Go.Ai.Lit:=⟨[(.agg [(kS 684 2 2 7),(kS 688 4 4 9),(kS 689 1 1 3),(kS 690 4 4 1),(kS 681 16 16 6)])],(key 691),
 [((key 681),(.cells [(kU 1),(kI 0),(.str [97,110,110,97]),(.str [98,111,114,105,115]),(.str []),(kI 2),(kU 1),(kI 0),(.str [97,110,110,97]),(.str [99,97,114,108]),(.str []),(kI 2),(kU 2),(kI 0),(.str [98,111,114,105,115]),(.str [99,97,114,108]),(.str []),(kI 0),(kU 3),(kI 0),(.str [97,110,110,97]),(.str [99,97,114,108]),(.str []),(kI 0),(kU 4),(kI 0),(.str [97,110,110,97]),(.str [100,111,114,97]),(.str []),(kI 3),(kU 8),(kI 0),(.str []),(.str []),(.str []),(kI 0),(kU 9),(kI 0),(.str []),(.str []),(.str []),(kI 0),(kU 10),(kI 0),(.str []),(.str []),(.str []),(kI 0),(kU 11),(kI 0),(.str []),(.str []),(.str []),(kI 0),(kU 12),(kI 0),(.str []),(.str []),(.str [114]),(kI 0),(kU 14),(kI 0),(.str []),(.str []),(.str []),(kI 0),(kU 15),(kI 0),(.str []),(.str []),(.str []),(kI 2),(kU 16),(kI 0),(.str []),(.str []),(.str [114]),(kI 2),(kU 5),(kI 0),(.str [97,110,110,97]),(.str [98,111,114,105,115]),(.str []),(kI 0),(kU 6),(kI 0),(.str [100,111,114,97]),(.str []),(.str [114]),(kI 0),(kU 7),(kI 0),(.str [99,97,114,108]),(.str []),(.str [114]),(kI 2)] 0)),
   ((key 690),(.cells [(kI 0),(kI 1),(kI 1),(kI 2)] 0)),
   ((key 689),(.cells [(.str [97,110,110,97]),(.str [98,111,114,105,115]),(kU 2)] 0)),
   ((key 687),(.cells [(.str [108,97,116,105,110])] 0)),
   ((key 686),(.cells [(.str [108,97,116,105,110])] 0)),
   ((key 685),(.cells [(.str [108,97,116,105,110])] 0)),
   ((key 688),(.cells [(.str [97,110,110,97]),(.str []),(.str []),(kI 0),(kI 1),(.str []),(.bool true),(.bool false),(kS 685 1 1 1),(.str [98,111,114,105,115]),(.str []),(.str []),(kI 0),(kI 1),(.str []),(.bool false),(.bool false),(kS 686 1 1 1),(.str [99,97,114,108]),(.str []),(.str []),(kI 0),(kI 2),(.str []),(.bool false),(.bool true),(kS 687 1 1 1),(.str [100,111,114,97]),(.str []),(.str []),(kI 0),(kI 0),(.str []),(.bool false),(.bool false),.af] 0)),
   ((key 683),(.cells [(kI 1)] 0)),
   ((key 684),(.cells [(.str [114]),(kU 1),(kI 6),(kI 0),(kS 683 1 1 1),(kI 0),(kI 0),(.str [119]),(kU 4),(kI 2),(kI 0),.af,(kI 0),(kI 0)] 0))],
 (.tuple [(.ptr (key 1057) 0),(kI 0),(kI 0)]),(key 5270),
 [((key 684),(.cells [(.str [114]),(kU 1),(kI 6),(kI 0),(kS 683 1 1 1),(kI 0),(kI 0),(.str [119]),(kU 4),(kI 2),(kI 0),.af,(kI 0),(kI 0)] 0)),
   ((key 683),(.cells [(kI 1)] 0)),
   ((key 688),(.cells [(.str [97,110,110,97]),(.str []),(.str []),(kI 0),(kI 1),(.str []),(.bool true),(.bool false),(kS 685 1 1 1),(.str [98,111,114,105,115]),(.str []),(.str []),(kI 0),(kI 1),(.str []),(.bool false),(.bool false),(kS 686 1 1 1),(.str [99,97,114,108]),(.str []),(.str []),(kI 0),(kI 2),(.str []),(.bool false),(.bool true),(kS 687 1 1 1),(.str [100,111,114,97]),(.str []),(.str []),(kI 0),(kI 0),(.str []),(.bool false),(.bool false),.af] 0)),
   ((key 685),(.cells [(.str [108,97,116,105,110])] 0)),
   ((key 686),(.cells [(.str [108,97,116,105,110])] 0)),
   ((key 687),(.cells [(.str [108,97,116,105,110])] 0)),
   ((key 689),(.cells [(.str [97,110,110,97]),(.str [98,111,114,105,115]),(kU 2)] 0)),
   ((key 690),(.cells [(kI 0),(kI 1),(kI 1),(kI 2)] 0)),
   ((key 681),(.cells [(kU 1),(kI 0),(.str [97,110,110,97]),(.str [98,111,114,105,115]),(.str []),(kI 2),(kU 1),(kI 0),(.str [97,110,110,97]),(.str [99,97,114,108]),(.str []),(kI 2),(kU 2),(kI 0),(.str [98,111,114,105,115]),(.str [99,97,114,108]),(.str []),(kI 0),(kU 3),(kI 0),(.str [97,110,110,97]),(.str [99,97,114,108]),(.str []),(kI 0),(kU 4),(kI 0),(.str [97,110,110,97]),(.str [100,111,114,97]),(.str []),(kI 3),(kU 8),(kI 0),(.str []),(.str []),(.str []),(kI 0),(kU 9),(kI 0),(.str []),(.str []),(.str []),(kI 0),(kU 10),(kI 0),(.str []),(.str []),(.str []),(kI 0),(kU 11),(kI 0),(.str []),(.str []),(.str []),(kI 0),(kU 12),(kI 0),(.str []),(.str []),(.str [114]),(kI 0),(kU 14),(kI 0),(.str []),(.str []),(.str []),(kI 0),(kU 15),(kI 0),(.str []),(.str []),(.str []),(kI 2),(kU 16),(kI 0),(.str []),(.str []),(.str [114]),(kI 2),(kU 5),(kI 0),(.str [97,110,110,97]),(.str [98,111,114,105,115]),(.str []),(kI 0),(kU 6),(kI 0),(.str [100,111,114,97]),(.str []),(.str [114]),(kI 0),(kU 7),(kI 0),(.str [99,97,114,108]),(.str []),(.str [114]),(kI 2)] 0)),
   ((key 5265),(.cells [(kU 0),(kU 0),(kU 0),(kU 0)] 0)),
   ((key 5186),(.cells [(kU 0),(kU 0),(kU 0),(kU 0)] 0)),
   ((key 5099),(.cells [(kU 2),(kU 0),(kU 0),(kU 0)] 0)),
   ((key 5010),(.cells [(kU 0),(kU 2),(kU 0),(kU 0)] 0)),
   ((key 5269),(.cells [(kN 5010 4 1),(kN 5099 4 1),(kN 5186 4 1),(kN 5265 4 1)] 0)),
   ((key 5259),(.cells [(.bool false),(.bool false),(.bool false),(.bool false)] 0)),
   ((key 5180),(.cells [(.bool true),(.bool true),(.bool true),(.bool false)] 0)),
   ((key 5093),(.cells [(.bool true),(.bool true),(.bool true),(.bool false)] 0)),
   ((key 5004),(.cells [(.bool true),(.bool true),(.bool true),(.bool false)] 0)),
   ((key 5267),(.cells [(kN 5004 4 1),(kN 5093 4 1),(kN 5180 4 1),(kN 5259 4 1)] 0)),
   ((key 4872),(.map [((kI 7),(kI 0),0),((kI 6),(kI 1),1)] 2)),
   ((key 4864),(.map [((kI 6),(kI 0),0),((kI 7),(kI 1),1)] 2)),
   ((key 4844),(.map [((kI 5),(kI 0),0),((kI 0),(kI 1),1),((kI 4),(kI 1),2),((kI 2),(kI 1),3),((kI 1),(kI 2),4),((kI 3),(kI 2),5)] 6)),
   ((key 4824),(.map [((kI 4),(kI 0),0),((kI 3),(kI 1),1),((kI 5),(kI 1),2),((kI 1),(kI 1),3),((kI 2),(kI 2),4),((kI 0),(kI 2),5)] 6)),
   ((key 4804),(.map [((kI 3),(kI 0),0),((kI 2),(kI 1),1),((kI 4),(kI 1),2),((kI 0),(kI 1),3),((kI 1),(kI 2),4),((kI 5),(kI 2),5)] 6)),
   ((key 4784),(.map [((kI 2),(kI 0),0),((kI 1),(kI 1),1),((kI 3),(kI 1),2),((kI 5),(kI 1),3),((kI 0),(kI 2),4),((kI 4),(kI 2),5)] 6)),
   ((key 4764),(.map [((kI 1),(kI 0),0),((kI 0),(kI 1),1),((kI 2),(kI 1),2),((kI 4),(kI 1),3),((kI 5),(kI 2),4),((kI 3),(kI 2),5)] 6)),
   ((key 4744),(.map [((kI 0),(kI 0),0),((kI 1),(kI 1),1),((kI 5),(kI 1),2),((kI 3),(kI 1),3),((kI 2),(kI 2),4),((kI 4),(kI 2),5)] 6)),
   ((key 4879),(.cells [(.map (key 4744)),(.map (key 4764)),(.map (key 4784)),(.map (key 4804)),(.map (key 4824)),(.map (key 4844)),(.map (key 4864)),(.map (key 4872))] 0)),
   ((key 4130),(.cells [(kI 2)] 0)),
   ((key 3569),(.cells [(kI 1)] 0)),
   ((key 3008),(.cells [(kI 0)] 0)),
   ((key 2657),(.cells [(kI 5)] 0)),
   ((key 2096),(.cells [(kI 4)] 0)),
   ((key 1535),(.cells [(kI 3)] 0)),
   ((key 4742),(.cells [(kN 1535 1 1),(kN 2096 1 1),(kN 2657 1 1),(kN 3008 1 1),(kN 3569 1 1),(kN 4130 1 1),.af,.af] 0)),
   ((key 4609),(.cells [(kI 6)] 0)),
   ((key 4414),(.cells [(kI 7)] 0)),
   ((key 3986),(.cells [(kI 0),(kI 4)] 0)),
   ((key 3495),(.cells [(kI 3),(kI 5)] 0)),
   ((key 2934),(.cells [(kI 2),(kI 4)] 0)),
   ((key 2373),(.cells [(kI 1),(kI 3)] 0)),
   ((key 1812),(.cells [(kI 0),(kI 2)] 0)),
   ((key 1391),(.cells [(kI 1),(kI 5)] 0)),
   ((key 4654),(.cells [(kN 1391 2 1),(kN 1812 2 1),(kN 2373 2 1),(kN 2934 2 1),(kN 3495 2 1),(kN 3986 2 1),(kN 4414 1 1),(kN 4609 1 1)] 0)),
   ((key 4564),(.cells [(.bool false),(.bool true),(.bool false),(.bool false),(.bool false),(.bool false),(.bool false),(.bool false)] 0)),
   ((key 4543),(.cells [(kI 0),(kI 1),(kI 2),(kI 1),(kI 2),(kI 1),(kI 1),(kI 0)] 0)),
   ((key 4507),(.cells [(kI 0),(kI 0),(kI 0),(kI 0),(kI 0),(kI 0),(kI 1),(kI 1)] 0)),
   ((key 1056),(.map [((kU 1),(.agg [(.str [97,112,97,114,116]),(kU 103),(.bool true),(kU 0),(.bool true),(kI 0),(.bool false),(.func 90 [] [])]),0),((kU 2),(.agg [(.str [98,101,115,105,100,101]),(kU 103),(.bool true),(kU 0),(.bool false),(kI 0),(.bool false),(.func 91 [] [])]),1),((kU 3),(.agg [(.str [97,99,114,111,115,115]),(kU 103),(.bool true),(kU 0),(.bool false),(kI 0),(.bool false),(.func 92 [] [])]),2),((kU 4),(.agg [(.str [110,101,97,114]),(kU 103),(.bool true),(kU 0),(.bool true),(kI 1),(.bool false),(.func 93 [] [])]),3),((kU 5),(.agg [(.str [116,111,103,101,116,104,101,114]),(kU 103),(.bool true),(kU 0),(.bool false),(kI 0),(.bool false),(.func 94 [] [])]),4),((kU 6),(.agg [(.str [97,116]),(kU 103),(.bool false),(kU 116),(.bool false),(kI 0),(.bool false),(.func 95 [] [])]),5),((kU 7),(.agg [(.str [115,101,97,116]),(kU 103),(.bool false),(kU 116),(.bool true),(kI 0),(.bool true),(.func 96 [] [])]),6),((kU 8),(.agg [(.str [97,108,116,101,114,110,97,116,101]),(kU 0),(.bool false),(kU 101),(.bool false),(kI 0),(.bool false),(.func 97 [] [])]),7),((kU 9),(.agg [(.str [104,111,115,116]),(kU 0),(.bool false),(kU 101),(.bool false),(kI 0),(.bool false),(.func 98 [] [])]),8),((kU 10),(.agg [(.str [114,101,97,99,104]),(kU 101),(.bool false),(kU 0),(.bool false),(kI 0),(.bool false),(.func 99 [] [])]),9),((kU 11),(.agg [(.str [115,112,101,97,107]),(kU 0),(.bool false),(kU 101),(.bool false),(kI 0),(.bool false),(.func 100 [] [])]),10),((kU 12),(.agg [(.str [112,101,97,99,101]),(kU 0),(.bool false),(kU 101),(.bool false),(kI 0),(.bool false),(.func 101 [] [])]),11),((kU 13),(.agg [(.str [99,111,109,112,97,110,121]),(kU 0),(.bool false),(kU 101),(.bool false),(kI 0),(.bool false),(.func 102 [] [])]),12),((kU 14),(.agg [(.str [104,111,110,111,117,114]),(kU 0),(.bool false),(kU 101),(.bool false),(kI 0),(.bool false),(.func 103 [] [])]),13),((kU 15),(.agg [(.str [102,105,108,108]),(kU 0),(.bool false),(kU 101),(.bool true),(kI 0),(.bool false),(.func 104 [] [])]),14),((kU 16),(.agg [(.str [108,105,109,105,116]),(kU 0),(.bool false),(kU 101),(.bool true),(kI 0),(.bool false),(.func 105 [] [])]),15),((kU 17),(.agg [(.str [107,105,116,99,104,101,110]),(kU 100),(.bool false),(kU 116),(.bool false),(kI 0),(.bool false),(.func 106 [] [])]),16),((kU 18),(.agg [(.str [109,105,120]),(kU 0),(.bool false),(kU 101),(.bool false),(kI 0),(.bool false),(.func 107 [] [])]),17)] 18)),
   ((key 1055),(.cells [(kU 1),(kI 0),(.str [97,110,110,97]),(.str [98,111,114,105,115]),(.str []),(kI 2),(kU 1),(kI 0),(.str [97,110,110,97]),(.str [99,97,114,108]),(.str []),(kI 2),(kU 2),(kI 0),(.str [98,111,114,105,115]),(.str [99,97,114,108]),(.str []),(kI 0),(kU 3),(kI 0),(.str [97,110,110,97]),(.str [99,97,114,108]),(.str []),(kI 0),(kU 4),(kI 0),(.str [97,110,110,97]),(.str [100,111,114,97]),(.str []),(kI 3),(kU 8),(kI 0),(.str []),(.str []),(.str []),(kI 0),(kU 9),(kI 0),(.str []),(.str []),(.str []),(kI 0),(kU 10),(kI 0),(.str []),(.str []),(.str []),(kI 0),(kU 11),(kI 0),(.str []),(.str []),(.str []),(kI 0),(kU 12),(kI 0),(.str []),(.str []),(.str [114]),(kI 0),(kU 14),(kI 0),(.str []),(.str []),(.str []),(kI 0),(kU 15),(kI 0),(.str []),(.str []),(.str []),(kI 2),(kU 16),(kI 0),(.str []),(.str []),(.str [114]),(kI 2),(kU 5),(kI 0),(.str [97,110,110,97]),(.str [98,111,114,105,115]),(.str []),(kI 0),(kU 6),(kI 0),(.str [100,111,114,97]),(.str []),(.str [114]),(kI 0),(kU 7),(kI 0),(.str [99,97,114,108]),(.str []),(.str [114]),(kI 2)] 0)),
   ((key 1053),(.cells [(kI 0),(kI 1),(kI 1),(kI 2)] 0)),
   ((key 1051),(.cells [(.str [97,110,110,97]),(.str [98,111,114,105,115]),(kU 2)] 0)),
   ((key 1049),(.cells [(.str [108,97,116,105,110])] 0)),
   ((key 1047),(.cells [(.str [108,97,116,105,110])] 0)),
   ((key 1045),(.cells [(.str [108,97,116,105,110])] 0)),
   ((key 1043),(.cells [(.str [97,110,110,97]),(.str []),(.str []),(kI 0),(kI 1),(.str []),(.bool true),(.bool false),(kN 1045 1 1),(.str [98,111,114,105,115]),(.str []),(.str []),(kI 0),(kI 1),(.str []),(.bool false),(.bool false),(kN 1047 1 1),(.str [99,97,114,108]),(.str []),(.str []),(kI 0),(kI 2),(.str []),(.bool false),(.bool true),(kN 1049 1 1),(.str [100,111,114,97]),(.str []),(.str []),(kI 0),(kI 0),(.str []),(.bool false),(.bool false),.af] 0)),
   ((key 1041),(.cells [(kI 1)] 0)),
   ((key 1039),(.cells [(.str [114]),(kU 1),(kI 6),(kI 0),(kN 1041 1 1),(kI 0),(kI 0),(.str [119]),(kU 4),(kI 2),(kI 0),.af,(kI 0),(kI 0)] 0)),
   ((key 1057),(.cells [(kN 1039 2 7),(kN 1043 4 9),(kN 1051 1 3),(kN 1053 4 1),(kN 1055 16 6),(.map (key 1056)),(kN 4507 8 1),(kN 4543 8 1),(kN 4564 8 1),(kN 4654 8 1),(kN 4742 8 1),(kN 4879 8 1),(kN 5267 4 1),(kN 5269 4 1)] 0))]⟩
theorem au3:ab3 YY arI gg 100000 60 18=true:=by kernel_rfl
theorem aul:ab2 YY.L0 YY.L1=true:=by kernel_rfl
noncomputable def arJ:fc:=vL [(246,FN)]
noncomputable def YZ:Go.Ai.Lit:=⟨[(.agg [(kS 5491 2 2 7),(kS 5495 4 4 9),(kS 5496 1 1 3),(kS 5497 4 4 1),(kS 5488 5 5 6)])],(key 5498),
 [((key 5488),(.cells [(kU 14),(kI 0),(.str []),(.str []),(.str [114]),(kI 0),(kU 11),(kI 0),(.str []),(.str []),(.str [114]),(kI 0),(kU 9),(kI 1),(.str []),(.str []),(.str []),(kI 0),(kU 15),(kI 10),(.str []),(.str []),(.str [119]),(kI 2),(kU 15),(kI 100),(.str []),(.str []),(.str []),(kI 4)] 0)),
   ((key 5497),(.cells [(kI 0),(kI 1),(kI 1),(kI 2)] 0)),
   ((key 5496),(.cells [(.str [97,110,110,97]),(.str [98,111,114,105,115]),(kU 2)] 0)),
   ((key 5494),(.cells [(.str [108,97,116,105,110])] 0)),
   ((key 5493),(.cells [(.str [108,97,116,105,110])] 0)),
   ((key 5492),(.cells [(.str [108,97,116,105,110])] 0)),
   ((key 5495),(.cells [(.str [97,110,110,97]),(.str []),(.str []),(kI 0),(kI 1),(.str []),(.bool true),(.bool false),(kS 5492 1 1 1),(.str [98,111,114,105,115]),(.str []),(.str []),(kI 0),(kI 1),(.str []),(.bool false),(.bool false),(kS 5493 1 1 1),(.str [99,97,114,108]),(.str []),(.str []),(kI 0),(kI 2),(.str []),(.bool false),(.bool true),(kS 5494 1 1 1),(.str [100,111,114,97]),(.str []),(.str []),(kI 0),(kI 0),(.str []),(.bool false),(.bool false),.af] 0)),
   ((key 5490),(.cells [(kI 1)] 0)),
   ((key 5491),(.cells [(.str [114]),(kU 1),(kI 6),(kI 0),(kS 5490 1 1 1),(kI 0),(kI 0),(.str [119]),(kU 4),(kI 2),(kI 0),.af,(kI 0),(kI 0)] 0))],
 (.tuple [(.ptr (key 5684) 0),(kI 0),(kI 0)]),(key 9897),
 [((key 5491),(.cells [(.str [114]),(kU 1),(kI 6),(kI 0),(kS 5490 1 1 1),(kI 0),(kI 0),(.str [119]),(kU 4),(kI 2),(kI 0),.af,(kI 0),(kI 0)] 0)),
   ((key 5490),(.cells [(kI 1)] 0)),
   ((key 5495),(.cells [(.str [97,110,110,97]),(.str []),(.str []),(kI 0),(kI 1),(.str []),(.bool true),(.bool false),(kS 5492 1 1 1),(.str [98,111,114,105,115]),(.str []),(.str []),(kI 0),(kI 1),(.str []),(.bool false),(.bool false),(kS 5493 1 1 1),(.str [99,97,114,108]),(.str []),(.str []),(kI 0),(kI 2),(.str []),(.bool false),(.bool true),(kS 5494 1 1 1),(.str [100,111,114,97]),(.str []),(.str []),(kI 0),(kI 0),(.str []),(.bool false),(.bool false),.af] 0)),
   ((key 5492),(.cells [(.str [108,97,116,105,110])] 0)),
   ((key 5493),(.cells [(.str [108,97,116,105,110])] 0)),
   ((key 5494),(.cells [(.str [108,97,116,105,110])] 0)),
   ((key 5496),(.cells [(.str [97,110,110,97]),(.str [98,111,114,105,115]),(kU 2)] 0)),
   ((key 5497),(.cells [(kI 0),(kI 1),(kI 1),(kI 2)] 0)),
   ((key 5488),(.cells [(kU 14),(kI 0),(.str []),(.str []),(.str [114]),(kI 0),(kU 11),(kI 0),(.str []),(.str []),(.str [114]),(kI 0),(kU 9),(kI 1),(.str []),(.str []),(.str []),(kI 0),(kU 15),(kI 10),(.str []),(.str []),(.str [119]),(kI 2),(kU 15),(kI 100),(.str []),(.str []),(.str []),(kI 4)] 0)),
   ((key 9892),(.cells [(kU 0),(kU 0),(kU 0),(kU 0)] 0)),
   ((key 9813),(.cells [(kU 0),(kU 0),(kU 0),(kU 0)] 0)),
   ((key 9726),(.cells [(kU 2),(kU 0),(kU 0),(kU 0)] 0)),
   ((key 9637),(.cells [(kU 0),(kU 2),(kU 0),(kU 0)] 0)),
   ((key 9896),(.cells [(kN 9637 4 1),(kN 9726 4 1),(kN 9813 4 1),(kN 9892 4 1)] 0)),
   ((key 9886),(.cells [(.bool false),(.bool false),(.bool false),(.bool false)] 0)),
   ((key 9807),(.cells [(.bool true),(.bool true),(.bool true),(.bool false)] 0)),
   ((key 9720),(.cells [(.bool true),(.bool true),(.bool true),(.bool false)] 0)),
   ((key 9631),(.cells [(.bool true),(.bool true),(.bool true),(.bool false)] 0)),
   ((key 9894),(.cells [(kN 9631 4 1),(kN 9720 4 1),(kN 9807 4 1),(kN 9886 4 1)] 0)),
   ((key 9499),(.map [((kI 7),(kI 0),0),((kI 6),(kI 1),1)] 2)),
   ((key 9491),(.map [((kI 6),(kI 0),0),((kI 7),(kI 1),1)] 2)),
   ((key 9471),(.map [((kI 5),(kI 0),0),((kI 0),(kI 1),1),((kI 4),(kI 1),2),((kI 2),(kI 1),3),((kI 1),(kI 2),4),((kI 3),(kI 2),5)] 6)),
   ((key 9451),(.map [((kI 4),(kI 0),0),((kI 3),(kI 1),1),((kI 5),(kI 1),2),((kI 1),(kI 1),3),((kI 2),(kI 2),4),((kI 0),(kI 2),5)] 6)),
   ((key 9431),(.map [((kI 3),(kI 0),0),((kI 2),(kI 1),1),((kI 4),(kI 1),2),((kI 0),(kI 1),3),((kI 1),(kI 2),4),((kI 5),(kI 2),5)] 6)),
   ((key 9411),(.map [((kI 2),(kI 0),0),((kI 1),(kI 1),1),((kI 3),(kI 1),2),((kI 5),(kI 1),3),((kI 0),(kI 2),4),((kI 4),(kI 2),5)] 6)),
   ((key 9391),(.map [((kI 1),(kI 0),0),((kI 0),(kI 1),1),((kI 2),(kI 1),2),((kI 4),(kI 1),3),((kI 5),(kI 2),4),((kI 3),(kI 2),5)] 6)),
   ((key 9371),(.map [((kI 0),(kI 0),0),((kI 1),(kI 1),1),((kI 5),(kI 1),2),((kI 3),(kI 1),3),((kI 2),(kI 2),4),((kI 4),(kI 2),5)] 6)),
   ((key 9506),(.cells [(.map (key 9371)),(.map (key 9391)),(.map (key 9411)),(.map (key 9431)),(.map (key 9451)),(.map (key 9471)),(.map (key 9491)),(.map (key 9499))] 0)),
   ((key 8757),(.cells [(kI 2)] 0)),
   ((key 8196),(.cells [(kI 1)] 0)),
   ((key 7635),(.cells [(kI 0)] 0)),
   ((key 7284),(.cells [(kI 5)] 0)),
   ((key 6723),(.cells [(kI 4)] 0)),
   ((key 6162),(.cells [(kI 3)] 0)),
   ((key 9369),(.cells [(kN 6162 1 1),(kN 6723 1 1),(kN 7284 1 1),(kN 7635 1 1),(kN 8196 1 1),(kN 8757 1 1),.af,.af] 0)),
   ((key 9236),(.cells [(kI 6)] 0)),
   ((key 9041),(.cells [(kI 7)] 0)),
   ((key 8613),(.cells [(kI 0),(kI 4)] 0)),
   ((key 8122),(.cells [(kI 3),(kI 5)] 0)),
   ((key 7561),(.cells [(kI 2),(kI 4)] 0)),
   ((key 7000),(.cells [(kI 1),(kI 3)] 0)),
   ((key 6439),(.cells [(kI 0),(kI 2)] 0)),
   ((key 6018),(.cells [(kI 1),(kI 5)] 0)),
   ((key 9281),(.cells [(kN 6018 2 1),(kN 6439 2 1),(kN 7000 2 1),(kN 7561 2 1),(kN 8122 2 1),(kN 8613 2 1),(kN 9041 1 1),(kN 9236 1 1)] 0)),
   ((key 9191),(.cells [(.bool false),(.bool true),(.bool false),(.bool false),(.bool false),(.bool false),(.bool false),(.bool false)] 0)),
   ((key 9170),(.cells [(kI 0),(kI 1),(kI 2),(kI 1),(kI 2),(kI 1),(kI 1),(kI 0)] 0)),
   ((key 9134),(.cells [(kI 0),(kI 0),(kI 0),(kI 0),(kI 0),(kI 0),(kI 1),(kI 1)] 0)),
   ((key 5683),(.map [((kU 1),(.agg [(.str [97,112,97,114,116]),(kU 103),(.bool true),(kU 0),(.bool true),(kI 0),(.bool false),(.func 90 [] [])]),0),((kU 2),(.agg [(.str [98,101,115,105,100,101]),(kU 103),(.bool true),(kU 0),(.bool false),(kI 0),(.bool false),(.func 91 [] [])]),1),((kU 3),(.agg [(.str [97,99,114,111,115,115]),(kU 103),(.bool true),(kU 0),(.bool false),(kI 0),(.bool false),(.func 92 [] [])]),2),((kU 4),(.agg [(.str [110,101,97,114]),(kU 103),(.bool true),(kU 0),(.bool true),(kI 1),(.bool false),(.func 93 [] [])]),3),((kU 5),(.agg [(.str [116,111,103,101,116,104,101,114]),(kU 103),(.bool true),(kU 0),(.bool false),(kI 0),(.bool false),(.func 94 [] [])]),4),((kU 6),(.agg [(.str [97,116]),(kU 103),(.bool false),(kU 116),(.bool false),(kI 0),(.bool false),(.func 95 [] [])]),5),((kU 7),(.agg [(.str [115,101,97,116]),(kU 103),(.bool false),(kU 116),(.bool true),(kI 0),(.bool true),(.func 96 [] [])]),6),((kU 8),(.agg [(.str [97,108,116,101,114,110,97,116,101]),(kU 0),(.bool false),(kU 101),(.bool false),(kI 0),(.bool false),(.func 97 [] [])]),7),((kU 9),(.agg [(.str [104,111,115,116]),(kU 0),(.bool false),(kU 101),(.bool false),(kI 0),(.bool false),(.func 98 [] [])]),8),((kU 10),(.agg [(.str [114,101,97,99,104]),(kU 101),(.bool false),(kU 0),(.bool false),(kI 0),(.bool false),(.func 99 [] [])]),9),((kU 11),(.agg [(.str [115,112,101,97,107]),(kU 0),(.bool false),(kU 101),(.bool false),(kI 0),(.bool false),(.func 100 [] [])]),10),((kU 12),(.agg [(.str [112,101,97,99,101]),(kU 0),(.bool false),(kU 101),(.bool false),(kI 0),(.bool false),(.func 101 [] [])]),11),((kU 13),(.agg [(.str [99,111,109,112,97,110,121]),(kU 0),(.bool false),(kU 101),(.bool false),(kI 0),(.bool false),(.func 102 [] [])]),12),((kU 14),(.agg [(.str [104,111,110,111,117,114]),(kU 0),(.bool false),(kU 101),(.bool false),(kI 0),(.bool false),(.func 103 [] [])]),13),((kU 15),(.agg [(.str [102,105,108,108]),(kU 0),(.bool false),(kU 101),(.bool true),(kI 0),(.bool false),(.func 104 [] [])]),14),((kU 16),(.agg [(.str [108,105,109,105,116]),(kU 0),(.bool false),(kU 101),(.bool true),(kI 0),(.bool false),(.func 105 [] [])]),15),((kU 17),(.agg [(.str [107,105,116,99,104,101,110]),(kU 100),(.bool false),(kU 116),(.bool false),(kI 0),(.bool false),(.func 106 [] [])]),16),((kU 18),(.agg [(.str [109,105,120]),(kU 0),(.bool false),(kU 101),(.bool false),(kI 0),(.bool false),(.func 107 [] [])]),17)] 18)),
   ((key 5682),(.cells [(kU 14),(kI 0),(.str []),(.str []),(.str [114]),(kI 0),(kU 11),(kI 0),(.str []),(.str []),(.str [114]),(kI 0),(kU 9),(kI 1),(.str []),(.str []),(.str []),(kI 0),(kU 15),(kI 10),(.str []),(.str []),(.str [119]),(kI 2),(kU 15),(kI 100),(.str []),(.str []),(.str []),(kI 4)] 0)),
   ((key 5680),(.cells [(kI 0),(kI 1),(kI 1),(kI 2)] 0)),
   ((key 5678),(.cells [(.str [97,110,110,97]),(.str [98,111,114,105,115]),(kU 2)] 0)),
   ((key 5676),(.cells [(.str [108,97,116,105,110])] 0)),
   ((key 5674),(.cells [(.str [108,97,116,105,110])] 0)),
   ((key 5672),(.cells [(.str [108,97,116,105,110])] 0)),
   ((key 5670),(.cells [(.str [97,110,110,97]),(.str []),(.str []),(kI 0),(kI 1),(.str []),(.bool true),(.bool false),(kN 5672 1 1),(.str [98,111,114,105,115]),(.str []),(.str []),(kI 0),(kI 1),(.str []),(.bool false),(.bool false),(kN 5674 1 1),(.str [99,97,114,108]),(.str []),(.str []),(kI 0),(kI 2),(.str []),(.bool false),(.bool true),(kN 5676 1 1),(.str [100,111,114,97]),(.str []),(.str []),(kI 0),(kI 0),(.str []),(.bool false),(.bool false),.af] 0)),
   ((key 5668),(.cells [(kI 1)] 0)),
   ((key 5666),(.cells [(.str [114]),(kU 1),(kI 6),(kI 0),(kN 5668 1 1),(kI 0),(kI 0),(.str [119]),(kU 4),(kI 2),(kI 0),.af,(kI 0),(kI 0)] 0)),
   ((key 5684),(.cells [(kN 5666 2 7),(kN 5670 4 9),(kN 5678 1 3),(kN 5680 4 1),(kN 5682 5 6),(.map (key 5683)),(kN 9134 8 1),(kN 9170 8 1),(kN 9191 8 1),(kN 9281 8 1),(kN 9369 8 1),(kN 9506 8 1),(kN 9894 4 1),(kN 9896 4 1)] 0))]⟩
theorem au4:ab3 YZ arJ gg 100000 60 18=true:=by kernel_rfl
theorem aum:ab2 YZ.L0 YZ.L1=true:=by kernel_rfl
end
end Go.Proofs.YtgihekklfnjkiaaGreatDoor
namespace Go.Proofs
section
set_option maxRecDepth 1000000
open Go Go.RowKit Go.Shelf Go.Ai Go.Proofs.YtgihekklfnjkiaaGreatDoor
def az.Bt(t:List Nat):ByteArray:=⟨(t.map UInt8.ofNat).toArray⟩
theorem az.BZ{t:List Nat}{bs:ByteArray}(h:bs.data.toList.map UInt8.toNat=t):bs=az.Bt t:=by
 unfold az.Bt;rw[amW h]
structure az.RR where
 k:Nat
 wt:Int
 a:ByteArray
 b:ByteArray
 t:ByteArray
 n:Int
def az.RR.val(r:az.RR):Value:= .agg #[.int .u8 r.k,.int .i64 r.wt,.string r.a,.string r.b,.string r.t,.int .i64 r.n]
def az.valOf:Int ⊕ az.RR->Value
 | .inl e=> .tuple #[.agg #[.int .u8 0,.int .i64 0,.string ⟨#[]⟩,.string ⟨#[]⟩,.string ⟨#[]⟩,.int .i64 0],.int .i64 e]
 | .inr r=> .tuple #[r.val,.int .i64 0]
def az.dec:AV->Option (Int ⊕ az.RR)
 |  .tuple [.agg [.int .u8 (.ofNat k),.int .i64 wt,.str a,.str b,.str t,.int .i64 n],.int .i64 (.ofNat e)]=>match e with
    |0=>some (.inr ⟨k,wt,az.Bt a,az.Bt b,az.Bt t,n⟩)
    |e+1=>match k,wt,a,b,t,n,Nat.blt e 100 with
     |0,.ofNat 0,[],[],[],.ofNat 0,true=>some (.inl ((e+1:Nat):Int))
     |_,_,_,_,_,_,_=>none
 |_=>none
theorem az.ath{v:AV}{r:Int ⊕ az.RR}(h:az.dec v=some r){ρ:Pos->Go.Ai.Loc}{n:Nat}{C:Cells}{y:Value}(hv:aD ρ n C v y):y=az.valOf r:=by
 unfold az.dec at h;split at h<;>first|(cases h;done)|skip
 obtain⟨cs,rfl,hw⟩:=hv.Vv;obtain⟨x,xs,h1,hx,hw⟩:=hw.cons_inv;obtain⟨y,ys,rfl,hy,hw⟩:=hw.cons_inv;have:=hw.qO;subst this;have fh:cs= #[x,y]:=by apply Zm1;simpa using h1
 subst fh;obtain⟨ds,rfl,hz⟩:=hx.FE;obtain⟨x1,xs,g1,hx1,hz⟩:=hz.cons_inv;obtain⟨x2,xs,rfl,ZE,hz⟩:=hz.cons_inv;obtain⟨x3,xs,rfl,hx3,hz⟩:=hz.cons_inv;obtain⟨x4,xs,rfl,hx4,hz⟩:=hz.cons_inv;obtain⟨x5,xs,rfl,hx5,hz⟩:=hz.cons_inv;obtain⟨x6,xs,rfl,hx6,hz⟩:=hz.cons_inv;have:=hz.qO;subst this;have Pk:ds= #[x1,x2,x3,x4,x5,x6]:=by apply Zm1;simpa using g1
 subst Pk;have:=hx1.iI;subst this;have:=ZE.iI;subst this;obtain⟨a,rfl,ha⟩:=hx3.fC;obtain⟨b,rfl,hb⟩:=hx4.fC;obtain⟨t,rfl,ht⟩:=hx5.fC;have:=hx6.iI;subst this;have:=hy.iI;subst this;split at h
 . cases h;rw[<-az.BZ ha, <-az.BZ hb, <-az.BZ ht];rfl
 . (split at h<;>first|(cases h;done)|skip);cases h;rw[az.BZ ha,az.BZ hb,az.BZ ht];rfl
theorem az.ati{v:AV}{e:Int}(h:az.dec v=some (.inl e)):1<=e/\e<=100:=by
 unfold az.dec at h;split at h<;>first|(cases h;done)|skip
 split at h<;>first|(cases h;done)|skip
 split at h<;>first|(cases h;done)|skip
 rename_i aT;cases h;have:=Zb3 aT;omega
noncomputable def az.aqZ:fc:=vL [(157,agb Tryz.prog tt (vL []) gg 100000 60 Tryz.f157),(231,idxS),(250,ak8)]
@[irreducible] noncomputable def az.agp(x:ByteArray):Option (Int ⊕ az.RR):=MZ none az.aqZ gg 100000 60 84 [.str (x.data.toList.map UInt8.toNat)] { heap:= .e,next:= .h } λv _=>az.dec v
noncomputable def az.okL(x:ByteArray):Bool:=(az.agp x).isSome
@[irreducible] noncomputable def az.wJ(x:ByteArray):Int ⊕ az.RR:=(az.agp x).getD (.inl 1)
def az.arK(x:ByteArray)(w:World)(e:Ending)(w':World):Prop:=e= .returned (az.valOf (az.wJ x))/\Below w.heap.size w w'
theorem az.aq0{x:ByteArray}{e:Int}(hq:az.okL x=true)(h:az.wJ x= .inl e):1<=e/\e<=100:=by
 unfold az.wJ at h;obtain⟨r,hr⟩:=Zm7.1 hq;rw[hr]at h;unfold az.agp at hr;rw[FM none az.aqZ gg 100000 60]at hr;unfold uL at hr;split at hr<;>first|(cases hr;done)|skip
 subst h;exact az.ati hr
theorem az.line(x:ByteArray)(hq:az.okL x=true)(w:World):Calls Tryz.prog 84 #[.string x] w (az.arK x w):=by
 unfold az.arK az.wJ;obtain⟨r,hr⟩:=Zm7.1 hq;rw[hr];unfold az.agp at hr;rw[FM none az.aqZ gg 100000 60]at hr;unfold uL at hr;split at hr<;>first|(cases hr;done)|skip
 rename_i y hy;obtain⟨v,bE⟩:=y;have hm:Tryz.prog.follows .mixedOrders=true:=by kernel_rfl
 have h0:=yB (P:=Tryz.prog) (C:=λ_=>none) (l:=[]) (λx hx=>by simp at hx);have ho:=yB (P:=Tryz.prog) (C:=λ_=>none) (l:=[(157,agb Tryz.prog tt (vL []) gg 100000 60 Tryz.f157),(231,idxS),(250,ak8)]) (λx hx=>by
  simp only[Zb0,Zc5,Zf3]at hx;rcases hx with rfl|rfl|rfl
  . exact apm hm TH h0.1 h0.2 TJ Tryz.func157 (by kernel_rfl)
  . exact apk (fn:=Tryz.f231) Tryz.func231 (by kernel_rfl) (by kernel_rfl) (by kernel_rfl) (by kernel_rfl)
  . exact apl (fn:=Tryz.f250) Tryz.func250 (by kernel_rfl) (by kernel_rfl) (by kernel_rfl) (by kernel_rfl))
 have hs:=CY hm TH ho.1 ho.2 TJ 100000 60 (λ_=>⟨0,0,0⟩) { heap:= .e,next:= .h } w 84 _ v bE [.string x] hy (GN (λ_ _ h=>by cases h) (λ_ _ h=>by cases h)) (aL.nil.cons (.str _ x rfl));have dX:(callFunc 84 ([Value.string x]:List Value).toArray).run Tryz.prog w= .ok (.enter 84 #[.string x]) w:=enters_of Tryz.func84 (by kernel_rfl) rfl _ _;rw[dX]at hs;refine Calls.mono hs λe w' he=> ?_
 cases e with
 |returned z=>
  obtain⟨ρ',h1,_,_,_,hE⟩:=he;exact⟨congrArg Ending.returned (az.ath hr h1),hE.os,hE.tape,hE.output,hE.size,λk hk=>hE.block k hk λb x hb=>by rw[T.dW]at hb;cases hb⟩
 |panicked c=>exact he.elim
 |outgrown=>exact he.elim
end
end Go.Proofs
namespace Go.az
section
open Go Go.RowKit
def Is(w:World)(n:Nat)(T:TypeId)(cs:Array Value):Prop:=w.heap[n]? =some (.cells cs T (0,0))
section
variable{w w' : World}{n m o : Nat}{T : TypeId}{cs : Array Value}{v : Value}
theorem Is.cell(h:Is w n T cs)(o:Nat):w.cell? ⟨n,o,none⟩=cs[o]? :=by unfold Is at h;simp[World.cell?,h]
theorem Is.frozen(h:Is w n T cs)(o:Nat):w.frozen? ⟨n,o,none⟩=false:=by unfold Is at h;simp[World.frozen?,h]
theorem Is.lt(h:Is w n T cs):n<w.heap.size:=(Zd2.1 h).1
theorem Is.new(w:World)(T:TypeId)(cs:Array Value):Is (w.alloc (.cells cs T)) w.heap.size T cs:=by show(w.heap.push _)[w.heap.size]? =_;simp
theorem Is.alloc(h:Is w n T cs)(x:Obj):Is (w.alloc x) n T cs:=by
 have:=h.lt;unfold Is at h ⊢;rw[<-h];show(w.heap.push _)[n]? =_;simp[Zp3,Nat.ne_of_lt this]
theorem Is.drew(h:Is w n T cs):Is w.drew n T cs:=h
theorem Is.set(h:Is w n T cs)(o:Nat)(v:Value):Is (w.setCell ⟨n,o,none⟩ v) n T (cs.setIfInBounds o v):=by
 have:=h.lt;unfold Is at h ⊢;have hm:=Zd2.1 h;simp[World.setCell,Zk9,h]
theorem Is.other(h:Is w n T cs)(dP:m≠n)(o:Nat)(v:Value):Is (w.setCell ⟨m,o,none⟩ v) n T cs:=by
 unfold Is at h ⊢;rw[<-h];simp[World.setCell,Zk9,dP]
theorem Is.below{B:Nat}(h:Is w n T cs)(hb:Below B w w')(hn:n<B):Is w' n T cs:=by unfold Is at h ⊢; rw[hb.block n hn];exact h
theorem Is.of_heap(h:Is w n T cs)(e:w'.heap[n]? =w.heap[n]?):Is w' n T cs:=by unfold Is at h ⊢; rw[e];exact h
theorem Is.cast{nu:Array Value}(h:Is w n T cs)(e:cs=nu):Is w n T nu:=e ▸h
theorem Is.one{a:Value}(h:Is w n T #[a]):w.cell? ⟨n,0,none⟩=some a:=h.cell 0
theorem heap_alloc(w:World)(x:Obj)(hn:n<w.heap.size):(w.alloc x).heap[n]? =w.heap[n]? :=by show(w.heap.push _)[n]? =_;simp[Zp3,Nat.ne_of_lt hn]
theorem ajC(dP:m≠n)(o:Nat)(v:Value):(w.setCell ⟨m,o,none⟩ v).heap[n]? =w.heap[n]? :=by simp[World.setCell,Zk9,dP]
end
end
end Go.az
namespace Go.Proofs
section
open Go.Shelf
def Tryz.ajD:Go.Shelf.Ren:=⟨λ|137=>153|217=>198|266=>231|n=>n,λ|9=>9|5=>5|3=>3|n=>n,λ|n=>n⟩
theorem Tryz.atj:Go.Proofs.Lays.n137 Tryz.prog Tryz.ajD:={
 mixed:=by kernel_rfl
 f137:=Tryz.func153.trans (congrArg some (by kernel_rfl))
 f217:=Tryz.func198.trans (congrArg some (by kernel_rfl))
 f266:=Tryz.func231.trans (congrArg some (by kernel_rfl))
 t3:=Tryz.underlying3
 a3:=Tryz.isAgg3
 z3:=Tryz.sizeOf3
 v3:=Tryz.zeroValue3
 t5:=Tryz.underlying5
 a5:=Tryz.isAgg5
 z5:=Tryz.sizeOf5
 v5:=Tryz.zeroValue5
 t9:=Tryz.underlying9
 a9:=Tryz.isAgg9
 z9:=Tryz.sizeOf9
 v9:=Tryz.zeroValue9 }
open Go.RowKit in
theorem Tryz.strings_IndexByte(s:ByteArray)(c:Int)(w:World):
 Calls Tryz.prog 153 #[.string s,.int .u8 c] w λe w'=>e= .returned (.int .i64 (Lib.indexByte s.data.toList c.toNat.toUInt8))/\w'=w:=Any.strings_IndexByte Tryz.atj s c w
open Go.RowKit Go.Lib in
def Tryz.aiX:Go.Shelf.Ren:=⟨λ|219=>251|217=>198|225=>254|224=>255|267=>256|266=>231|314=>257|n=>n,λ|9=>9|3=>3|4=>4|5=>5|46=>139|146=>223|51=>102|n=>n,λ|1=>0|n=>n⟩
theorem Tryz.aq1:Go.Proofs.LaysM.n219 Tryz.prog Tryz.aiX:={
 mixed:=by kernel_rfl
 f217:=Tryz.func198.trans (congrArg some (by kernel_rfl))
 f219:=Tryz.func251.trans (congrArg some (by kernel_rfl))
 f224:=Tryz.func255.trans (congrArg some (by kernel_rfl))
 f225:=Tryz.func254.trans (congrArg some (by kernel_rfl))
 f266:=Tryz.func231.trans (congrArg some (by kernel_rfl))
 f267:=Tryz.func256.trans (congrArg some (by kernel_rfl))
 f314:=Tryz.func257.trans (congrArg some (by kernel_rfl))
 t3:=Tryz.underlying3
 a3:=Tryz.isAgg3
 z3:=Tryz.sizeOf3
 v3:=Tryz.zeroValue3
 t4:=Tryz.underlying4
 a4:=Tryz.isAgg4
 z4:=Tryz.sizeOf4
 v4:=Tryz.zeroValue4
 t5:=Tryz.underlying5
 a5:=Tryz.isAgg5
 z5:=Tryz.sizeOf5
 v5:=Tryz.zeroValue5
 t9:=Tryz.underlying9
 a9:=Tryz.isAgg9
 z9:=Tryz.sizeOf9
 v9:=Tryz.zeroValue9
 t46:=Tryz.underlying139
 a46:=Tryz.isAgg139
 z46:=Tryz.sizeOf139
 v46:=Tryz.zeroValue139
 t51:=Tryz.underlying102
 a51:=Tryz.isAgg102
 z51:=Tryz.sizeOf102
 v51:=Tryz.zeroValue102
 t146:=Tryz.underlying223
 a146:=Tryz.isAgg223
 z146:=Tryz.sizeOf223
 v146:=Tryz.zeroValue223
 g1:=by kernel_rfl
 i3:=by kernel_rfl
 i4:=by kernel_rfl
 i5:=by kernel_rfl
 i9:=by kernel_rfl
 i46:=by kernel_rfl
 i51:=by kernel_rfl
 i146:=by kernel_rfl
 m1:=by kernel_rfl
 s1_3:=λw h=>Go.Proofs.cell_of_shapedOpen_int (zero:= #[.int .i64 0]) (t:=3) h (Zf7 (by kernel_rfl)) (by kernel_rfl) rfl (by kernel_rfl) (by kernel_rfl) Tryz.underlying3 }
end
end Go.Proofs
namespace Go.az
section
open Go Go.RowKit
variable{F : Fence}{n : Nat}{P : Program}
structure UJ(b:Nat)(W W':World):Prop where
 cell:W'.cell? ⟨b,0,none⟩=W.cell? ⟨b,0,none⟩
 eI:W'.frozen? ⟨b,0,none⟩=W.frozen? ⟨b,0,none⟩
theorem UJ.trans{b:Nat}{A B C:World}(h:UJ b A B)(k:UJ b B C):UJ b A C:=⟨k.cell.trans h.cell,k.eI.trans h.eI⟩
theorem UJ.putObj{b l:Nat}{W:World}(o:Obj)(h:b≠l):UJ b W (W.putObj l o):=by
 have:(W.putObj l o).heap[b]? =W.heap[b]? :=World.putObj_heap_other h;exact⟨by simp[World.cell?,this],by simp[World.frozen?,this]⟩
def ER(b:Nat){β:Type}(J:β->World->Prop):Prop:=∀s W v,J s W->J s (W.setCell ⟨b,0,none⟩ v)
def SeqC{α:Type}(F:Fence)(n:Nat)(P:Program)(g b:Nat)(lb:Array Value)(encs:α->Array Value)(xs:List α)(w:World):Prop:=
 ∀  (l:Nat)(J Jx:List α->World->Prop)(W:World),Below w.heap.size w W->AbidesFrom W.heap.size J->AbidesFrom W.heap.size Jx->ER b J->ER b Jx->
    (∀pre x W1,J pre W1->pre++[x] <+: xs->YieldAt F (n - 1) P l (encs x) W1 λe W'=>
     (e= .returned (.bool true)/\J (pre++[x]) W'/\UJ b W1 W')\/(e= .returned (.bool false)/\Jx (pre++[x]) W'))->
    J [] W->
    CallsIn F n P g (#[.func (.yield l) #[] #[]]++lb) W λe W'=>(∃v,e= .returned v)/\(J xs W'\/∃pre,pre <+: xs/\Jx pre W')
def aoD{α:Type}(b B:Nat)(I:List α->World->Prop)(Ix:List α->World->Prop)(xs:List α)(W:World):Exit->Act->World->Prop
 | .normal,_,W'=>KeepsFrom B W W'/\UJ b W W'/\I xs W'
 | .ret,_,W'=>KeepsFrom B W W'/\Ix xs W'
 |_,_,_=>False
theorem ajE{α:Type}{g:Operand}{ps:Array Tmp}{assign body:Code}{Q:Exit->Act->World->Prop}{a:Act}{w:World}
   (ZP:F.round=none) (h1:1<=n) {gf b:Nat} {lb:Array Value} (hg:a.eval g= .func (.func gf) #[] lb) (hFg:F.fn gf) (eg:∀args w,(callFunc gf args).run P w= .ok (.enter gf args) w)
   {encs:α->Array Value} {xs:List α} (hseq:SeqC F (n - 1) P gf b lb encs xs w) (hbw:b<w.heap.size) (hps:∀x,(encs x).size=ps.size)
   (I:List α->World->Prop) (Ix:List α->World->Prop) (hI:OwnFrom w.heap.size I) (hIx:OwnFrom w.heap.size Ix) (hIs:ER b I) (hIxs:ER b Ix) (h0:I [] w) (a₁:α->Act)
   (atk:∀(l:Nat)(x:α)(W:World)(K:Act->World->Prop),K (a₁ x) W->
     assign.wpIn (F.inRound l) (n - 1 - 1) P (Exit.then K (λ_ _ _=>False)) { tmps:=(ps.zip (encs x)).foldl (λt (p,v)=>t.setIfInBounds p v) a.tmps,defers:=[] } W)
   (ak9:∀(l:Nat)(pre:List α)(x:α)(W:World),I pre W->pre++[x] <+: xs->w.heap.size<=W.heap.size->body.wpIn (F.inRound l) (n - 1 - 1) P (aoD b w.heap.size I Ix (pre++[x]) W) (a₁ x) W)
   (ak7:∀(D:Nat)(W:World),w.heap.size<=D->I xs W->W.heap[D]? =some (.deferred (some []))->Q .normal { a with defers:={ target:= .collected D,args:= #[] }::a.defers } W)
   (au5:∀(D:Nat)(pre:List α)(W:World),w.heap.size<=D->pre <+: xs->Ix pre W->W.heap[D]? =some (.deferred (some []))->Code.ret.wpIn F n P Q { a with defers:={ target:= .collected D,args:= #[] }::a.defers } W):
   (Code.rangeFunc g ps assign body).wpIn F n P Q a w:=by
 refine wpIn_rangeFunc λfn GK=> ?_
 rw[ZP]
 let abB:LoopState->Option Code->Loop:=λst pe=>{ state:=st,pending:=pe,fn,tmps:=a.tmps,params:=ps,assign,body,defers:=w.heap.size }
 let L:Nat:=w.heap.size+1
 let W1:World:=(w.alloc (.deferred (some []))).alloc (.loop (abB .ready none))
 have hL1:W1.heap[L]? =some (.loop (abB .ready none)):=by have:=World.alloc_heap_new (w.alloc (.deferred (some []))) (.loop (abB .ready none));rwa [World.size_alloc]at this
 have hK1:W1.heap[w.heap.size]? =some (.deferred (some [])):=(Below.heap_alloc _ _ _ (by simp)).trans (World.alloc_heap_new w _);have hWs:W1.heap.size=w.heap.size+1+1:=by show((w.alloc _).alloc _).heap.size=_;simp
 have lR:Below w.heap.size w W1:=((Below.refl _ w).alloc (Za3 _) _).alloc (by simp) _
 let J:List α->World->Prop:=λpre W=>I pre W/\W.heap[L]? =some (.loop (abB .ready none))/\W.heap[w.heap.size]? =some (.deferred (some []))/\w.heap.size<=W.heap.size
 let Jx:List α->World->Prop:=λpre W=>Ix pre W/\W.heap[L]? =some (.loop (abB .done (some .ret)))/\W.heap[w.heap.size]? =some (.deferred (some []))/\w.heap.size<=W.heap.size
 have up:∀{A:World}{row:Option Nat},(∀r,row=some r->W1.heap.size<=r/\∃o:Obj,A.heap[r]? =some o/\o.isWalk=true)->∀r,row=some r->w.heap.size<=r/\∃o:Obj,A.heap[r]? =some o/\o.isCells=false:=
   λhr r e=>by obtain⟨q,o,ho,hw⟩:=hr r e;exact⟨by omega,o,ho,Obj.not_cells_of_walk hw⟩
 have hJ:AbidesFrom W1.heap.size J:=λs A B row hs CP hr=>
   ⟨hI s A B row hs.1 CP (up hr),(grownBy_keeps CP (λr e=>(hr r e).2) hs.2.1 rfl).trans hs.2.1,(grownBy_keeps CP (λr e=>(hr r e).2) hs.2.2.1 rfl).trans hs.2.2.1,Zb1 hs.2.2.2 CP.size⟩
 have hJx:AbidesFrom W1.heap.size Jx:=λs A B row hs CP hr=>
   ⟨hIx s A B row hs.1 CP (up hr),(grownBy_keeps CP (λr e=>(hr r e).2) hs.2.1 rfl).trans hs.2.1,(grownBy_keeps CP (λr e=>(hr r e).2) hs.2.2.1 rfl).trans hs.2.2.1,Zb1 hs.2.2.2 CP.size⟩
 have Iz:∀(W:World)(v:Value)(k:Nat),w.heap.size<=k->(W.setCell ⟨b,0,none⟩ v).heap[k]? =W.heap[k]? :=λW v k hk=>Below.heap_setCell W _ v k (by show k≠b;omega)
 have hJs:ER b J:=λs W v hs=>⟨hIs s W v hs.1,(Iz _ _ _ (by show w.heap.size<=w.heap.size+1;omega)).trans hs.2.1,(Iz _ _ _ (Za3 _)).trans hs.2.2.1,by rw[World.size_setCell];exact hs.2.2.2⟩
 have hJxs:ER b Jx:=λs W v hs=>⟨hIxs s W v hs.1,(Iz _ _ _ (by show w.heap.size<=w.heap.size+1;omega)).trans hs.2.1,(Iz _ _ _ (Za3 _)).trans hs.2.2.1,by rw[World.size_setCell];exact hs.2.2.2⟩
 refine⟨L,[{ target:= .collected w.heap.size,args:= #[] }],W1,{ target:= .fn (.func gf) lb,args:= #[.func (.yield L) #[] #[]] },W1,gf, #[.func (.yield L) #[] #[]]++lb,W1,run_enterLoop_outer _ _ _ _ _,?_,?_,?_,λ_=>h1,?_⟩
 . simp only[resolve,hg];simp[go_sem]
 . intro f' hf';simp[Target.leads]at hf';subst hf';exact hFg
 . simp[invoke,go_sem,eg]
 refine(hseq L J Jx W1 lR hJ hJx hJs hJxs ?_ ⟨hI.alloc _ (hI.alloc _ h0),hL1,hK1,by omega⟩).mono ?_
 ·
   rintro pre x W ⟨hi,hl,hk,gR⟩ abC;have aT:L<W.heap.size:=(Zd2.1 hl).1;refine⟨fn,_,assign,body,run_yield (P:=P) (args:=encs x) hl (hps x),roundIn_of_wpIn GK (atk _ x W _ ⟨_,run_beginRound hl rfl,?_⟩)⟩;have hneL:b≠L:=by show b≠w.heap.size+1;omega
   let W2:World:=W.putObj L (.loop { abB .ready none with state:= .busy })
   have vr:W2.heap[L]? =some (.loop { abB .ready none with state:= .busy }):=World.putObj_heap_same aT;have ur:W2.heap[w.heap.size]? =some (.deferred (some [])):=(World.putObj_heap_other (by show w.heap.size≠w.heap.size+1;omega)).trans hk;have aq2:w.heap.size<=W2.heap.size:=Zb1 gR (grownBy_putObj' W L _).size;refine wpIn_mono (ak9 L pre x W2 (hI.putObj _ hi (by show w.heap.size<=w.heap.size+1;omega) hl rfl) abC aq2) ?_;rintro e a3 W3 hp;cases e with
   | normal=>
     obtain⟨Dx,hkp3,hi3⟩:=hp;have hl3:=Dx.same _ _ (by show w.heap.size<=w.heap.size+1;omega) vr rfl;have alz:=(Zd2.1 hl3).1;exact⟨_,_,run_endRound (P:=P) none hl3,.inl ⟨rfl,⟨hI.putObj _ hi3 (by show w.heap.size<=w.heap.size+1;omega) hl3 rfl,World.putObj_heap_same alz,(World.putObj_heap_other (by show w.heap.size≠w.heap.size+1;omega)).trans (Dx.same _ _ (Za3 _) ur rfl),Zb1 (Zb1 aq2 Dx.size) (grownBy_putObj' W3 L _).size⟩,
        ((UJ.putObj _ hneL).trans hkp3).trans (UJ.putObj _ hneL)⟩⟩
   | ret=>
     obtain⟨Dx,hi3⟩:=hp;have hl3:=Dx.same _ _ (by show w.heap.size<=w.heap.size+1;omega) vr rfl;have alz:=(Zd2.1 hl3).1;exact⟨_,_,run_endRound (P:=P) (some .ret) hl3,.inr ⟨rfl,hIx.putObj _ hi3 (by show w.heap.size<=w.heap.size+1;omega) hl3 rfl,World.putObj_heap_same alz,(World.putObj_heap_other (by show w.heap.size≠w.heap.size+1;omega)).trans (Dx.same _ _ (Za3 _) ur rfl),Zb1 (Zb1 aq2 Dx.size) (grownBy_putObj' W3 L _).size⟩⟩
   |exit id=>exact hp.elim
   |goto t=>exact hp.elim
   |panic ch=>exact hp.elim
   |outgrown=>exact hp.elim
 ·
   rintro e W2 ⟨⟨v,rfl⟩,(⟨hi,hl,hk,_⟩|⟨pre,abC,hi,hl,hk,_⟩)⟩
   . exact⟨none,_,run_endLoop (P:=P) hl (by show LoopState.ready≠LoopState.busy;simp),ak7 _ _ (Za3 _) (hI.putObj _ hi (by show w.heap.size<=w.heap.size+1;omega) hl rfl) ((World.putObj_heap_other (by show w.heap.size≠w.heap.size+1;omega)).trans hk)⟩
   . exact⟨some .ret,_,run_endLoop (P:=P) hl (by show LoopState.done≠LoopState.busy;simp),au5 _ pre _ (Za3 _) abC (hIx.putObj _ hi (by show w.heap.size<=w.heap.size+1;omega) hl rfl) ((World.putObj_heap_other (by show w.heap.size≠w.heap.size+1;omega)).trans hk)⟩
end
end Go.az
section
namespace Go.az
open Go
def xL(s:ByteArray):Int:=Lib.indexByte s.data.toList 10
def wT:Nat->ByteArray->List ByteArray
 |0,_=>[]
 |f+1,s=>if s.size=0 then []else if xL s<0 then [s]else s.extract 0 ((xL s).toNat+1)::wT f (s.extract ((xL s).toNat+1) s.size)
def gD(s:ByteArray):List ByteArray:=wT s.size s
theorem atl(s:ByteArray): -1<=xL s:=Lib.indexByte_ge _ _
theorem atm(s:ByteArray)(h:0<=xL s):(xL s).toNat<s.size:=by
 have e:xL s=((xL s).toNat:Int):=by omega
 have:=(Lib.indexByte_some (l:=s.data.toList) (c:=10) (o:=(xL s).toNat) e).1;have:=(Za2.1 this).1;simpa using this
theorem aay:∀(f g:Nat)(s:ByteArray),s.size<=f->s.size<=g->wT f s=wT g s
 |0,0,_,_,_=>rfl
 |0,g+1,s,h,_=>by
  have:s.size=0:=by omega
  simp[wT,this]
 |f+1,0,s,_,h=>by
  have:s.size=0:=by omega
  simp[wT,this]
 |f +1,g+1,s,h1,h2=>by
  unfold wT;split
  . rfl
  . split
    . rfl
    . rw[aay f g _ (by simp;omega) (by simp;omega)]
theorem adg{s:ByteArray}(h:s.size=0):gD s=[]:=by unfold gD;rw[h];rfl
theorem ajF{s:ByteArray}(h:s.size≠0)(hi:xL s<0):gD s=[s]:=by
 unfold gD;obtain⟨k,hk⟩:∃k,s.size=k+1:=⟨s.size - 1,by omega⟩
 rw[hk];simp only[wT];rw[Za7 h,Zb2 hi]
theorem amq{s:ByteArray}(h:s.size≠0)(hi:0<=xL s):gD s=s.extract 0 ((xL s).toNat+1)::gD (s.extract ((xL s).toNat+1) s.size):=by
 unfold gD;obtain⟨k,hk⟩:∃k,s.size=k+1:=⟨s.size - 1,by omega⟩
 conv=>lhs;rw[hk]
 simp only[wT];rw[Za7 h,Za7 (by omega)];rw[aay k _ _ (by simp;omega) (Za3 _)]
theorem aaz:∀(f:Nat)(s x:ByteArray),x∈wT f s->x.size<=s.size
 |0,_,_,h=>by simp[wT]at h
 |f +   1,s,x,h=>by
  unfold wT at h;split at h
  . simp at h
  . split at h
    .   simp at h;rw[h];exact Za3 _
    .   rcases Zb0.1 h with rfl|h
        . simp;omega
        . have:=aaz f _ x h;simp at this;omega
theorem ajG(s x:ByteArray)(h:x∈gD s):x.size<=s.size:=aaz _ s x h
def aiY(w:World)(b:Nat):Nat:=match w.cell? ⟨b,0,none⟩with
 |some (.string r)=>r.size
 |_=>0
theorem N9{w:World}{b:Nat}{r:ByteArray}(h:w.cell? ⟨b,0,none⟩=some (.string r)):aiY w b=r.size:=by unfold aiY;rw[h]
end Go.az
namespace Go.Proofs
open Go.RowKit Go.Shelf Go.az
attribute [local go_sem] Oper.semAt_some
theorem az.grown_drewN(w:World)(k:Nat):w.grownBy (w.drewN k) none:=⟨rfl,rfl,rfl,Za3 _,λ_ _ _=>rfl⟩
theorem az.arL(r:ByteArray)(w:World):Calls Tryz.prog 153 #[.string r,.int .u8 10] w λe w'=>e= .returned (.int .i64 (xL r))/\w=w':=(Tryz.strings_IndexByte r 10 w).mono λ_ _ h=>⟨h.1,h.2.symm⟩
set_option maxRecDepth 100000 in
set_option maxHeartbeats 2000000 in
theorem az.atn(n:Nat)(l b:Nat)(s:ByteArray)(hs:s.size<=65536)(J Jx:List ByteArray->World->Prop)(W:World)(B0:Nat)(hJ:AbidesFrom B0 J)(hJx:AbidesFrom B0 Jx)(hJs:ER b J)
  (hY:∀pre x W1,J pre W1->pre++[x] <+: gD s->YieldAt Fence.wide (n - 1) Tryz.prog l #[.string x] W1 λe W'=>
    (e= .returned (.bool true)/\J (pre++[x]) W'/\UJ b W1 W')\/(e= .returned (.bool false)/\Jx (pre++[x]) W'))
  (hn:1<=n) (hb:W.cell? ⟨b,0,none⟩=some (.string s)) (hf:W.frozen? ⟨b,0,none⟩=false) (h0:J [] W):
  CallsIn Fence.wide n Tryz.prog 152 #[.func (.yield l) #[] #[],.pointer (some ⟨b,0,none⟩)] W λe W'=>(∃v,e= .returned v)/\(J (gD s) W'\/∃pre,pre <+: gD s/\Jx pre W'):=by
 have HY:=Lib.hid hY;clear hY;refine callsIn_of_wp Tryz.func152 rfl trivial ?_ rfl;simp only[Tryz.ntmps152,Zn6,Zc6,Zi8,Nat.reduceAdd,Nat.reduceSub,Array.replicate_succ,Array.replicate_zero,List.push_toArray,List.append_toArray,Ze1,Zd7]
 gi_wp2
 gi_loopw [3] (λ_ wr=>∃(pre:List ByteArray) (r:ByteArray),wr.cell? ⟨b,0,none⟩=some (.string r)/\wr.frozen? ⟨b,0,none⟩=false/\gD s=pre++gD r/\r.size<=s.size/\J pre wr) (λ_ wr=>aiY wr b)
 case atStart=>exact⟨[],s,hb,hf,rfl,Za3 _,h0⟩
 case round=>
  obtain⟨pre,r,hc,vq,AH,hrs,hj⟩:=hrel;have HSP:=Lib.hid AH;have HJ0:=Lib.hid hj;clear AH hj;by_cases hr0:r.size=0
  . gi_wp2
    go_end0
    refine⟨⟨_,rfl⟩,.inl ?_⟩;rw[HSP.out,adg hr0,Zd9];exact HJ0.out
  . have hr1:0<r.size:=(by omega);have hge:=atl r;by_cases hi:xL r<0
    .   have HL:=Lib.hid (ajF hr0 hi);have hj1:=hJs _ _ (.string ⟨#[]⟩) HJ0.out;obtain⟨fn,tmps,assign,body,hy,hR⟩:=HY.out pre r _ hj1 (by rw[HSP.out,HL.out];exact List.prefix_refl _)
        gi_wp2_with (first|(refine⟨trivial,?_⟩;gi_at_call 153;refine(callsIn_wide.2 (az.arL r _)).mono ?_;rintro e w' ⟨rfl,rfl⟩))
        refine hR.mono ?_;rintro e W3 (⟨rfl,hJ3,Dx⟩|⟨rfl,aq3⟩)
        . have hc3:W3.cell? ⟨b,0,none⟩=some (.string ⟨#[]⟩):=Dx.cell.trans (World.cell?_setCell_same' _ _ _ (by rw[hc];rfl));have hf3:W3.frozen? ⟨b,0,none⟩=false:=Dx.eI.trans (by rw[World.frozen?_setCell];exact vq)
          gi_wp2
          go_roundw
          case rel=>exact⟨pre++[r],⟨#[]⟩,hc3,hf3,by rw[HSP.out,HL.out,adg (s:=⟨#[]⟩) rfl,Zd9],Zh9 _,hJ3⟩
          case measure=>rw[N9 hc3,N9 hc];exact hr1
        . gi_wp2
          refine bodyPost_ret (results_none rfl _ _ _) rfl ?_;exact⟨⟨_,rfl⟩,.inr ⟨pre++[r],by rw[HSP.out,HL.out];exact List.prefix_refl _,aq3⟩⟩
    .   have aT:=atm r (by omega);obtain⟨i,hie⟩:∃i:Nat,xL r=i:=⟨(xL r).toNat,by omega⟩
        have HH:=Lib.hid (amq hr0 (by omega:0<=xL r));have HIX:=az.arL r;rw[hie]at HIX;have HI:=Lib.hid HIX;clear HIX;have gX:i<r.size:=(by omega);have HIE:=Lib.hid hie;clear hie hge hi aT
        gi_wp2_with (first|(refine⟨trivial,?_⟩;gi_at_call 153;refine(callsIn_wide.2 (HI.out _)).mono ?_;rintro e w' ⟨rfl,rfl⟩))
        gi_region
        have hj1:J pre (wr.setCell ⟨b,0,none⟩ (.string (r.extract (i+1) r.size))).drew:=hJ _ _ _ none (hJs _ _ (.string (r.extract (i+1) r.size)) HJ0.out) (az.grown_drewN _ 1) (λ_ e=>by cases e);obtain⟨fn,tmps,assign,body,hy,hR⟩:=HY.out pre (r.extract 0 (i+1)) _ hj1 (by
          rw[HSP.out,HH.out,HIE.out];exact⟨gD (r.extract (i+1) r.size),by simp⟩)
        gi_wp2
        refine hR.mono ?_;rintro e W3 (⟨rfl,hJ3,Dx⟩|⟨rfl,aq3⟩)
        . have hc3:W3.cell? ⟨b,0,none⟩=some (.string (r.extract (i+1) r.size)):=Dx.cell.trans (World.cell?_setCell_same' _ _ _ (by rw[hc];rfl));have hf3:W3.frozen? ⟨b,0,none⟩=false:=Dx.eI.trans (by show(wr.setCell _ _).frozen? _=false;rw[World.frozen?_setCell];exact vq)
          gi_wp2
          go_roundw
          case rel=>exact⟨pre++[r.extract 0 (i+1)],r.extract (i+1) r.size,hc3,hf3,by rw[HSP.out,HH.out,HIE.out];simp,by simp;omega,hJ3⟩
          case measure=>rw[N9 hc3,N9 hc];simp;omega
        . gi_wp2
          refine bodyPost_ret (results_none rfl _ _ _) rfl ?_;exact⟨⟨_,rfl⟩,.inr ⟨pre++[r.extract 0 (i+1)],by rw[HSP.out,HH.out,HIE.out];exact⟨gD (r.extract (i+1) r.size),by simp⟩,aq3⟩⟩
end Go.Proofs
end
namespace Go.Proofs
section
open Go.RowKit Go.Shelf Go.az
attribute [local go_sem] Oper.semAt_some
def az.RR.cells(r:az.RR):List Value:=[.int .u8 r.k,.int .i64 r.wt,.string r.a,.string r.b,.string r.t,.int .i64 r.n]
def az.cellsOf(rs:List az.RR):List Value:=rs.flatMap az.RR.cells
theorem az.aiZ(rs:List az.RR)(r:az.RR):az.cellsOf (rs++[r])=az.cellsOf rs++r.cells:=by simp[az.cellsOf]
theorem az.aeo(rs:List az.RR):(az.cellsOf rs).length=rs.length*6:=by
 induction rs with
 |nil=>rfl
 |cons r rs ih=>simp[az.cellsOf]at ih ⊢; rw[ih];simp[az.RR.cells];omega
noncomputable def az.TM:List az.RR->List ByteArray->Int×Nat×List az.RR
 |acc,[]=>(0,0,acc)
 |acc,x::xs=>match az.wJ x with
  | .inl e=>(e,acc.length,[])
  | .inr r=>if acc.length=64 then(7,64,[])else az.TM (acc++[r]) xs
noncomputable def az.tT(s:ByteArray):Int×Nat×List az.RR:=if 65536<s.size then(7,0,[])else az.TM [] (gD s)
theorem az.Yj:∀(p:List ByteArray)(rs acc:List az.RR)(ys:List ByteArray),p.map az.wJ=rs.map Sum.inr->(acc++rs).length<=64->az.TM acc (p++ys)=az.TM (acc++rs) ys
 |[],rs,acc,ys,h,_=>by
  cases rs with
  |nil=>simp
  |cons r rs=>simp at h
 |x::p,rs,acc,ys,h,hl=>by
  cases rs with
  |nil=>simp at h
  |cons r rs=>
   simp only[Zd6,Zg3]at h;simp only[Ze3,Zc6]at hl;rw[Zd7,az.TM,h.1];simp only;rw[Za7 (by omega),az.Yj p rs (acc++[r]) ys h.2 (by simp;omega)];simp
set_option maxRecDepth 100000 in
theorem az.ato(s:ByteArray)(w:World):Calls Tryz.prog 83 #[.string s] w λe w'=>e= .returned (.func (.func 152) #[] #[.pointer (some ⟨w.heap.size,0,none⟩)])/\w'=w.alloc (.cells #[.string s] 9):=by
 go_enter Tryz.func83,Tryz.ntmps83
 go_wp2
 go_ret
 exact⟨rfl,rfl⟩
def az.adh(w:World)(pre:List ByteArray)(W:World):Prop:=
 ∃  (rs:List az.RR) (v:Value),pre.map az.wJ=rs.map Sum.inr/\rs.length<=64/\Is W w.heap.size 32 #[.slice none 0 0]/\Is W (w.heap.size+1) 3 #[.int .i64 0]/\Is W (w.heap.size+1+1) 47 #[.int .i64 0]/\
    Is W (w.heap.size+1+1+1) 32 #[v]/\W.ownsRow (w.heap.size+5) 40 6 v rs.length (az.cellsOf rs)/\w.heap.size+5<=W.heap.size/\Below w.heap.size w W/\(rs=[]->v= .slice none 0 0)
def az.adi(w:World)(s:ByteArray)(pre:List ByteArray)(W:World):Prop:=
 ∃(e:Int) (k:Nat),1<=e/\e<=100/\k<=64/\(∀ys,pre++ys=gD s->az.TM [] (gD s)=(e,k,[]))/\Is W w.heap.size 32 #[.slice none 0 0]/\Is W (w.heap.size+1) 3 #[.int .i64 k]/\Is W (w.heap.size+1+1) 47 #[.int .i64 e]/\w.heap.size+5<=W.heap.size/\Below w.heap.size w W
def az.aoE(s:ByteArray)(w:World)(e:Ending)(w':World):Prop:=
 ∃v,e= .returned (.tuple #[v,.int .i64 (az.tT s).2.1,.int .i64 (az.tT s).1])/\w'.ownsRow w.heap.size 40 6 v (az.tT s).2.2.length (az.cellsOf (az.tT s).2.2)/\Below w.heap.size w w'/\((az.tT s).1≠0\/(az.tT s).2.2=[]->v= .slice none 0 0)
theorem az.um{W W':World}{n:Nat}{T:TypeId}{cs:Array Value}{row:Option Nat}(h:Is W n T cs)(hg:W.grownBy W' row)(dP:some n≠row):Is W' n T cs:=h.of_heap (hg.block n h.lt dP)
theorem az.vG{W:World}{n:Nat}{T:TypeId}{cs:Array Value}{row:Option Nat}(h:Is W n T cs)(hr:∀r,row=some r->∃o:Obj,W.heap[r]? =some o/\o.isCells=false):some n≠row:=by
 intro e;obtain⟨o,ho,hc⟩:=hr n e.symm;unfold Is at h;rw[h]at ho;obtain rfl:Obj.cells cs T (0,0)=o:=by injection ho
 cases hc
theorem az.amr{W:World}{base k size:Nat}{e:TypeId}{v:Value}{xs:List Value}{row:Option Nat}(h:W.ownsRow base e size v k xs)(hr:∀r,row=some r->∃o:Obj,W.heap[r]? =some o/\o.isCells=false):v.ownBlock=none\/v.ownBlock≠row:=by
 rcases h.2 with⟨rfl,_⟩|⟨g,cap,cur,rfl,_,hb,_⟩
 . exact .inl rfl
 . right;intro e;obtain⟨o,ho,hc⟩:=hr g (by rw[<-e];rfl);rw[hb]at ho;obtain rfl:Obj.cells cur _ (0,0)=o:=(by injection ho);cases hc
theorem az.afp{W W':World}{base k size:Nat}{e:TypeId}{v:Value}{xs:List Value}(h:W.ownsRow base e size v k xs)(hb:Below W.heap.size W W'):W'.ownsRow base e size v k xs:=
 h.kept (row:=none) ⟨hb.os,hb.tape,hb.output,hb.size,λi hi _=>hb.block i hi⟩ (by
  cases h0:v.ownBlock
  . exact .inl rfl
  . right;simp)
theorem az.aaA{B:Nat}{W W':World}(hb:Below W.heap.size W W'):KeepsFrom B W W':=⟨hb.size,λk o _ hk _=>(hb.block k (Zd2.1 hk).1).trans hk⟩
theorem az.ams(w:World)(B0:Nat)(hB:w.heap.size<=B0):OwnFrom B0 (az.adh w):=by
 rintro pre W W' row ⟨rs,v,h1,h2,i1,i2,i3,i4,gG,gR,hb,hn⟩ hg hr;have nR:∀r,row=some r->∃o:Obj,W.heap[r]? =some o/\o.isCells=false:=λr e=>(hr r e).2
 exact⟨rs,v,h1,h2,az.um i1 hg (az.vG i1 nR),az.um i2 hg (az.vG i2 nR),az.um i3 hg (az.vG i3 nR),az.um i4 hg (az.vG i4 nR),
  gG.kept hg (az.amr gG nR),Zb1 gR hg.size,hb.grown hg (by omega) (λk e=>Zb1 hB (hr k e).1),hn⟩
theorem az.amt(w:World)(s:ByteArray)(B0:Nat)(hB:w.heap.size<=B0):OwnFrom B0 (az.adi w s):=by
 rintro pre W W' row ⟨e,k,h1,h2,h3,h4,i1,i2,i3,gR,hb⟩ hg hr;have nR:∀r,row=some r->∃o:Obj,W.heap[r]? =some o/\o.isCells=false:=λr e=>(hr r e).2
 exact⟨e,k,h1,h2,h3,h4,az.um i1 hg (az.vG i1 nR),az.um i2 hg (az.vG i2 nR),az.um i3 hg (az.vG i3 nR),Zb1 gR hg.size,hb.grown hg (by omega) (λk e=>Zb1 hB (hr k e).1)⟩
theorem az.amu(w:World):ER (w.heap.size+1+1+1+1) (az.adh w):=by
 rintro pre W x ⟨rs,v,h1,h2,i1,i2,i3,i4,gG,gR,hb,hn⟩;exact⟨rs,v,h1,h2,i1.other (by omega) _ _,i2.other (by omega) _ _,i3.other (by omega) _ _,i4.other (by omega) _ _,ownsRow_setCell_below gG (by show w.heap.size+1+1+1+1<w.heap.size+5;omega) _,by rw[World.size_setCell];exact gR,hb.setCell (by show w.heap.size<=w.heap.size+1+1+1+1;omega) _,hn⟩
theorem az.amv(w:World)(s:ByteArray):ER (w.heap.size+1+1+1+1) (az.adi w s):=by
 rintro pre W x ⟨e,k,h1,h2,h3,h4,i1,i2,i3,gR,hb⟩;exact⟨e,k,h1,h2,h3,h4,i1.other (by omega) _ _,i2.other (by omega) _ _,i3.other (by omega) _ _,by rw[World.size_setCell];exact gR,hb.setCell (by show w.heap.size<=w.heap.size+1+1+1+1;omega) _⟩
theorem az.aq4{s:ByteArray}{pre:List ByteArray}{x:ByteArray}{rs:List az.RR}{e:Int}(h:pre.map az.wJ=rs.map Sum.inr)(hl:rs.length<=64)(hx:az.wJ x= .inl e)(ys:List ByteArray)(hy:pre++[x]++ys=gD s):az.TM [] (gD s)=(e,rs.length,[]):=by
 rw[<-hy,Zf1,az.Yj pre rs [] _ h (by simpa using hl)];simp[az.TM,hx]
theorem az.afq{w:World}{base:Nat}{e:TypeId}{size:Nat}{v:Value}{n:Nat}{xs:List Value}(h:w.ownsRow base e size v n xs):∃a c,v= .slice a n c:=by
 rcases h.2 with⟨rfl,rfl⟩|⟨g,cap,cur,rfl,_⟩
 . exact⟨none,0,rfl⟩
 . exact⟨_,_,rfl⟩
theorem az.Gn{W:World}{n:Nat}{T:TypeId}{a v:Value}(h:Is W n T #[a]):Is (W.setCell ⟨n,0,none⟩ v) n T #[v]:=(h.set 0 v).cast rfl
theorem az.aoF{B:Nat}{W W':World}(h:KeepsFrom B W W')(p:Addr)(v:Value):KeepsFrom B W (W'.setCell p v):=h.trans ((KeepsOthers.setCell W' p v).from B)
theorem az.abD{B:Nat}{W W':World}(h:KeepsFrom B W W')(o:Obj):KeepsFrom B W (W'.alloc o):=h.trans ((KeepsOthers.alloc W' o).from B)
theorem az.atp{B:Nat}{W W':World}(h:KeepsFrom B W W'):KeepsFrom B W W'.drew:=h.trans ⟨Za3 _,λ_ _ _ hk _=>hk⟩
theorem az.aoG{w W':World}{s:ByteArray}{pre:List ByteArray}{e:Int}{k:Nat}(h1:1<=e/\e<=100)(h2:k<=64)(h3:∀ys,pre++ys=gD s->az.TM [] (gD s)=(e,k,[]))
  (i1:Is W' w.heap.size 32 #[.slice none 0 0]) (i2:Is W' (w.heap.size+1) 3 #[.int .i64 k]) (i3:Is W' (w.heap.size+1+1) 47 #[.int .i64 e]) (hz:w.heap.size+5<=W'.heap.size) (hb:Below w.heap.size w W'):az.adi w s pre W':=
 ⟨e,k,h1.1,h1.2,h2,h3,i1,i2,i3,hz,hb⟩
theorem az.abE{w:World}{base:Nat}{e:TypeId}{size:Nat}{v:Value}{n:Nat}{xs:List Value}(h:w.ownsRow base e size v n xs)(j:Nat)(hj:v.ownBlock=some j):base<=j:=by
 rcases h.2 with⟨rfl,rfl⟩|⟨g,cap,cur,rfl,hb,_⟩
 . cases hj
 . obtain rfl:g=j:=(by simpa [Value.ownBlock]using hj);exact hb
theorem az.aoH{w:World}{base:Nat}{e:TypeId}{size:Nat}{v:Value}{n:Nat}{xs:List Value}(h:w.ownsRow base e size v n xs)(j:Nat)(o:Obj)(hj:v.ownBlock=some j)(ho:w.heap[j]? =some o):o.isCells=true:=by
 rcases h.2 with⟨rfl,rfl⟩|⟨g,cap,cur,rfl,hb,hg,_⟩
 . cases hj
 . obtain rfl:g=j:=(by simpa [Value.ownBlock]using hj);rw[hg]at ho;cases ho;rfl
theorem az.aoI(r:az.RR):∀u∈r.cells,u.oneCell'=true:=by intro u hu;simp only[az.RR.cells,Zb0,Zc5,Zf3]at hu;rcases hu with rfl|rfl|rfl|rfl|rfl|rfl<;>rfl
theorem az.aoJ(W:World)(T:TypeId)(cs:List Value)(j:Nat)(u:Value)(h:cs[j]? =some u):(W.alloc (.cells cs.toArray T)).cell? ((⟨W.heap.size,0,none⟩:Addr).add j)=some u:=by
 have:(⟨W.heap.size,0,none⟩:Addr).add j=⟨W.heap.size,j,none⟩:=by
  unfold Addr.add;split
  . rename_i h0;subst h0;rfl
  . simp
 rw[this,(Is.new W T cs.toArray).cell];simpa using h
theorem az.aoK{w W w1 w5:World}{n:Nat}{v:Value}{xs:List Value}{A C:Obj}{va:Value}(lR:Below W.heap.size W w1)(gR:w.heap.size+5<=W.heap.size)(j4:Is W (w.heap.size+1+1+1) 32 #[va])
  (gG:W.ownsRow (w.heap.size+5) 40 6 v n xs) (ES:((w1.alloc A).alloc C).grownBy w5 v.ownBlock):Is w5 (w.heap.size+1+1+1) 32 #[va]:=
 az.um (((j4.below lR (by omega)).alloc _).alloc _) ES (λe=>by have:=az.abE gG _ e.symm;omega)
theorem az.amw{w W w1 w5:World}{B:Nat}{pre:List ByteArray}{x:ByteArray}{rs:List az.RR}{r:az.RR}{v v':Value}{A C:Obj}(p1:pre.map az.wJ=rs.map Sum.inr)(p2:rs.length<64)(hx:az.wJ x= .inr r)
   (hb:Below w.heap.size w W) (lR:Below W.heap.size W w1) (gR:w.heap.size+5<=W.heap.size)
   (j1:Is W w.heap.size 32 #[.slice none 0 0]) (j2:Is W (w.heap.size+1) 3 #[.int .i64 0]) (j3:Is W (w.heap.size+1+1) 47 #[.int .i64 0]) (j4:Is W (w.heap.size+1+1+1) 32 #[v])
   (gG:W.ownsRow (w.heap.size+5) 40 6 v rs.length (az.cellsOf rs)) (ai0:w5.ownsRow (w.heap.size+5) 40 6 v' (rs.length+1) (az.cellsOf rs++r.cells)) (ES:((w1.alloc A).alloc C).grownBy w5 v.ownBlock):
   KeepsFrom B W (w5.setCell ⟨w.heap.size+1+1+1,0,none⟩ v')/\UJ (w.heap.size+1+1+1+1) W (w5.setCell ⟨w.heap.size+1+1+1,0,none⟩ v')/\az.adh w (pre++[x]) (w5.setCell ⟨w.heap.size+1+1+1,0,none⟩ v'):=by
 have au6:=((az.afp gG lR).alloc A).alloc C;have dP:∀k,k<w.heap.size+5->some k≠v.ownBlock:=λk hk e=>by have:=az.abE gG _ e.symm;omega
 have is5:∀{k:Nat}{T:TypeId}{cs:Array Value},Is W k T cs->k<w.heap.size+5->Is w5 k T cs:=λh hk=>az.um (((h.below lR (by omega)).alloc _).alloc _) ES (dP _ hk)
 have Ja:w5.heap[w.heap.size+1+1+1+1]? =W.heap[w.heap.size+1+1+1+1]? :=by
   have alD:=lR.size;rw[ES.block _ (by simp;omega) (dP _ (by omega)),Go.az.heap_alloc _ _ (by simp;omega),Go.az.heap_alloc _ _ (by omega)];exact lR.block _ (by omega)
 have hp6:(w5.setCell ⟨w.heap.size+1+1+1,0,none⟩ v').heap[w.heap.size+1+1+1+1]? =W.heap[w.heap.size+1+1+1+1]? :=by rw[Go.az.ajC (by omega)];exact Ja
 refine⟨?_,⟨by simp[World.cell?,hp6],by simp[World.frozen?,hp6]⟩,rs++[r],v',?_,by simp;omega,(is5 j1 (by omega)).other (by omega) _ _,(is5 j2 (by omega)).other (by omega) _ _,(is5 j3 (by omega)).other (by omega) _ _,az.Gn (is5 j4 (by omega)),?_,?_,?_,λh=>by simp at h⟩
 . refine az.aoF ((az.abD (az.abD (az.aaA lR) _) _).trans ((KeepsOthers.of_grownBy ES λj o ej hj=>az.aoH au6 j o ej hj).from B)) _ _
 . simp[p1,hx]
 . rw[az.aiZ];have:=ownsRow_setCell_below ai0 (a:=⟨w.heap.size+1+1+1,0,none⟩) (by show w.heap.size+1+1+1<w.heap.size+5;omega) v';simpa using this
 . have h1:=lR.size;have h2:=ES.size;simp at h2 ⊢; omega
 . have h1:=lR.size;exact((((hb.trans (lR.mono (by omega))).alloc (by omega) A).alloc (by simp;omega) C).grown ES (by simp;omega) (λk e=>by have:=az.abE gG k e;omega)).setCell (by show w.heap.size<=w.heap.size+1+1+1;omega) _
theorem az.CC{W:World}{n D:Nat}{T:TypeId}{cs:Array Value}{o o':Obj}(h:Is W n T cs)(hk:W.heap[D]? =some o)(ho:o.isCells=false):Is (W.putObj D o') n T cs:=
 az.um h (grownBy_putObj' W D o') (az.vG h (λr e=>by cases e;exact⟨o,hk,ho⟩))
theorem az.afr{s:ByteArray}{w w':World}{v:Value}{i:Int}{er:Int}{rs:List az.RR}{k:Nat}(hp:az.tT s=(er,k,rs))(hi:i=k)(gG:w'.ownsRow w.heap.size 40 6 v rs.length (az.cellsOf rs))(hb:Below w.heap.size w w')(Yk:er≠0\/rs=[]->v= .slice none 0 0:=by intro h;rfl):
   az.aoE s w (.returned (.tuple #[v,.int .i64 i,.int .i64 er])) w':=by
 subst hi;refine⟨v,by rw[hp],?_,hb,?_⟩
 . rw[hp];exact gG
 . rw[hp];exact Yk
theorem az.aq5{w:World}{base ak3:Nat}{e:TypeId}{size:Nat}{v:Value}{n:Nat}{xs:List Value}(h:w.ownsRow base e size v n xs)(hb:ak3<=base):w.ownsRow ak3 e size v n xs:=by
 refine⟨h.1,h.2.imp id ?_⟩;rintro⟨g,cap,cur,h1,h2,h3⟩;exact⟨g,cap,cur,h1,Zb1 hb h2,h3⟩
theorem az.ajH{s:ByteArray}{rs:List az.RR}(hs:s.size<=65536)(h:(gD s).map az.wJ=rs.map Sum.inr)(hl:rs.length<=64):az.tT s=(0,0,rs):=by have:=az.Yj (gD s) rs [] [] h (by simpa using hl);rw[Zd9]at this;unfold az.tT;rw[Za7 (by omega),this];rfl
theorem az.aun:∃i0 z,Tryz.prog.info? 40=some i0/\i0.zero=some z/\i0.size=6/\i0.bytes=72/\z.cells.size=6:=by
 have h:(Tryz.prog.info? 40).map (λi=>(i.zero.map (·.cells.size),i.size,i.bytes))=some (some 6,6,72):=by kernel_rfl
 cases hi:Tryz.prog.info? 40 with
 |none=>rw[hi]at h;simp at h
 |some i0=>
  rw[hi]at h;simp only[Ze6,H5,Zd0,Zf4]at h;obtain⟨⟨z,hz,hz2⟩,h2,h3⟩:=h;exact⟨i0,z,rfl,hz,h2,h3,hz2⟩
set_option maxRecDepth 100000 in
set_option maxHeartbeats 4000000 in
theorem az.auo(s:ByteArray)(adj:∀s0∈gD s,az.okL s0=true)(hfew:(gD s).length<64)
   (m:Int) (w:World) (hs:s.size<=65536) (hm:w.cell? ⟨0,0,none⟩=some (.int .i64 m)):
   Calls Tryz.prog 43 #[.string s] w (az.aoE s w):=by
 have hbk:=World.block_lt_of_cell? _ _ hm;refine(callsIn_wide (n:=5)).1 ?_;refine callsIn_of_wp_marks Tryz.func43 rfl trivial ?_ rfl;simp only[Tryz.ntmps43,Zn6,Zc6,Zi8,Nat.reduceAdd,Nat.reduceSub,Array.replicate_succ,Array.replicate_zero,List.push_toArray,List.append_toArray,Ze1,Zd7]
 gi_wp2_with (refine⟨trivial,?_⟩;gi_at_call 83;refine(callsIn_wide.2 (az.ato s _)).mono ?_;rintro e w' ⟨rfl,rfl⟩)
 obtain⟨W0,hW0⟩:∃W0,W0=(((((w.alloc (.cells #[.slice none 0 0] 32)).alloc (.cells #[.int .i64 0] 3)).alloc (.cells #[.int .i64 0] 47)).alloc (.cells #[.slice none 0 0] 32)).alloc (.cells #[.string s] 9)):=⟨_,rfl⟩
 have hz:W0.heap.size=w.heap.size+1+1+1+1+1:=by rw[hW0];simp
 have i1:Is W0 w.heap.size 32 #[.slice none 0 0]:=by rw[hW0];exact((((Is.new w 32 _).alloc _).alloc _).alloc _).alloc _
 have i2:Is W0 (w.heap.size+1) 3 #[.int .i64 0]:=by rw[hW0];have:=(((Is.new (w.alloc (.cells #[.slice none 0 0] 32)) 3 #[.int .i64 0]).alloc (.cells #[.int .i64 0] 47)).alloc (.cells #[.slice none 0 0] 32)).alloc (.cells #[.string s] 9);rwa [World.size_alloc]at this
 have i3:Is W0 (w.heap.size+1+1) 47 #[.int .i64 0]:=by rw[hW0];have:=((Is.new ((w.alloc (.cells #[.slice none 0 0] 32)).alloc (.cells #[.int .i64 0] 3)) 47 #[.int .i64 0]).alloc (.cells #[.slice none 0 0] 32)).alloc (.cells #[.string s] 9);rwa [World.size_alloc,World.size_alloc]at this
 have i4:Is W0 (w.heap.size+1+1+1) 32 #[.slice none 0 0]:=by rw[hW0];have:=(Is.new (((w.alloc (.cells #[.slice none 0 0] 32)).alloc (.cells #[.int .i64 0] 3)).alloc (.cells #[.int .i64 0] 47)) 32 #[.slice none 0 0]).alloc (.cells #[.string s] 9);rwa [World.size_alloc,World.size_alloc,World.size_alloc]at this
 have i5:Is W0 (w.heap.size+1+1+1+1) 9 #[.string s]:=by rw[hW0];have:=Is.new ((((w.alloc (.cells #[.slice none 0 0] 32)).alloc (.cells #[.int .i64 0] 3)).alloc (.cells #[.int .i64 0] 47)).alloc (.cells #[.slice none 0 0] 32)) 9 #[.string s];rwa [World.size_alloc,World.size_alloc,World.size_alloc,World.size_alloc]at this
 have yo:Below w.heap.size w W0:=by rw[hW0];exact(((((Below.refl _ w).alloc (Za3 _) _).alloc (by simp) _).alloc (by simp;omega) _).alloc (by simp;omega) _).alloc (by simp;omega) _
 rw[<-hW0];clear hW0
 refine ajE (n:=5) rfl (by decide) (gf:=152) (b:=w.heap.size+1+1+1+1) (lb:= #[.pointer (some ⟨w.heap.size+1+1+1+1,0,none⟩)]) rfl trivial (enters_of Tryz.func152 (by kernel_rfl) rfl) (encs:=λx=> #[.string x]) (xs:=gD s) ?_ (by omega) (λ_=>rfl)
   (az.adh w) (az.adi w s) (az.ams w _ (by omega)) (az.amt w s _ (by omega)) (az.amu w) (az.amv w s)
   ⟨[],.slice none 0 0,rfl,by simp,i1,i2,i3,i4,⟨rfl,.inl ⟨rfl,rfl⟩⟩,by omega,yo,λ_=>rfl⟩
   (fun x=>{ tmps:= #[.string s,undef,.pointer (some ⟨w.heap.size,0,none⟩),.pointer (some ⟨w.heap.size+1,0,none⟩),.pointer (some ⟨w.heap.size+1+1,0,none⟩),.pointer (some ⟨w.heap.size+1+1+1,0,none⟩),.string x,undef,undef,.string s,
     .int .i64 s.size,.bool (decide (65536<(s.size:Int))),.string s,.func (.func 152) #[] #[.pointer (some ⟨w.heap.size+1+1+1+1,0,none⟩)],.string x,undef,undef,undef,undef,undef,undef,undef,undef,undef,undef,undef,undef,undef,undef,undef,undef,undef,undef,undef,undef,undef,undef],defers:=[] })
   ?assign ?body ?done ?stop
 . exact λl J Jx W hW hJ hJx hJs hJxs hY h0=>az.atn _ l _ s hs J Jx W _ hJ hJx hJs hY (by decide) (by rw[hW.cell (p:=⟨w.heap.size+1+1+1+1,0,none⟩) (by show w.heap.size+1+1+1+1<W0.heap.size;omega)];exact i5.one) (by rw[hW.frozen (p:=⟨w.heap.size+1+1+1+1,0,none⟩) (by show w.heap.size+1+1+1+1<W0.heap.size;omega)];exact i5.frozen 0) h0
 case assign=>
   intro l x W K hK
   gi_wp2
   exact hK
 case body=>
   (rintro l pre x W ⟨rs,v,p1,p2,j1,j2,j3,j4,gG,gR,hb,_⟩ abC hWz;obtain⟨va,vc,rfl⟩:=az.afq gG;obtain⟨ys,zI⟩:=abC;have hx:x.size<=65536:=Zb1 (ajG s x (by rw[<-zI];simp)) hs;have hmW:W.cell? ⟨0,0,none⟩=some (.int .i64 m):=(hb.cell (p:=⟨0,0,none⟩) hbk).trans hm;have cJ:=adj x (by rw[<-zI];simp);have HL:=Lib.hid (az.line x cJ W);have aT:rs.length<64:=by have h1:=congrArg List.length p1;have h2:=congrArg List.length zI;simp at h1 h2;omega);have z1:w.heap.size<W.heap.size:=(by omega);have z2:w.heap.size+1<W.heap.size:=(by omega);have z3:w.heap.size+1+1<W.heap.size:=(by omega);have z4:w.heap.size+1+1+1<W.heap.size:=(by omega);have ai1:=Lib.hid gG;have HB:=Lib.hid hb;have HP1:=Lib.hid p1;have HYS:=Lib.hid zI;have J1:=Lib.hid j1;have J2:=Lib.hid j2;have J3:=Lib.hid j3;have J4:=Lib.hid j4;have HM:=Lib.hid hm;have HH:=Lib.hid adj;have HI5:=Lib.hid i5;clear gG hb p1 zI j1 j2 j3 j4 hmW hm adj i1 i2 i3 i4 i5 yo;rcases aaV:az.wJ x with e0|r
   . have hee:=az.aq0 cJ aaV;have ai2:=Lib.hid aaV;clear aaV
     gi_wp2_with (refine⟨trivial,?_⟩;gi_at_call 84;refine(CallsIn.inRound l (callsIn_wide.2 HL.out)).mono ?_;rintro e w1 ⟨he,lR⟩;rw[show az.wJ x= .inl e0 from ai2.out]at he;obtain rfl:e= .returned (.tuple #[.agg #[.int .u8 0,.int .i64 0,.string ⟨#[]⟩,.string ⟨#[]⟩,.string ⟨#[]⟩,.int .i64 0],.int .i64 e0]):=he;have K1:=J1.out.below lR z1;have K2:=J2.out.below lR z2;have K3:=J3.out.below lR z3;have K4:=J4.out.below lR z4;have k1:=K1.one;have k2:=K2.one;have k3:=K3.one;have k4:=K4.one;have g1:=K1.frozen;have g2:=K2.frozen;have g3:=K3.frozen;have g4:=K4.frozen;have hz1:=lR.size;have y1:=Zc7 z1 hz1;have y2:=Zc7 z2 hz1;have y3:=Zc7 z3 hz1;have y4:=Zc7 z4 hz1;have L1:=Lib.hid K1;have L2:=Lib.hid K2;have L3:=Lib.hid K3;have L4:=Lib.hid K4;clear K1 K2 K3 K4;have HB1:=Lib.hid lR;have HBB:=Lib.hid (HB.out.trans (lR.mono (Zn4 z1)));clear lR)
     gi_region
     all_goals gi_wp2
     all_goals
        refine⟨?_,az.aoG (e:=e0) (k:=rs.length) hee p2 (λys hy=>az.aq4 HP1.out p2 ai2.out ys hy) ?_ ?_ ?_ ?_ ?_⟩
        . (repeat (first|(with_reducible refine az.atp ?_)|(with_reducible refine az.abD ?_ _)|(with_reducible refine az.aoF ?_ _ _)|(with_reducible exact az.aaA HB1.out)))
        . (repeat (first|(with_reducible refine Is.drew ?_)|(with_reducible refine Is.alloc ?_ _)|(with_reducible refine az.Gn (a:= .slice none 0 0) ?_)|(with_reducible refine Is.other ?_ (by omega) _ _)|(with_reducible exact L1.out)))
        . (repeat (first|(with_reducible refine Is.drew ?_)|(with_reducible refine Is.alloc ?_ _)|(with_reducible refine az.Gn (a:= .int .i64 0) ?_)|(with_reducible refine Is.other ?_ (by omega) _ _)|(with_reducible exact L2.out)))
        . (repeat (first|(with_reducible refine Is.drew ?_)|(with_reducible refine Is.alloc ?_ _)|(with_reducible refine az.Gn (a:= .int .i64 0) ?_)|(with_reducible refine Is.other ?_ (by omega) _ _)|(with_reducible exact L3.out)))
        . simp;omega
        . (repeat (first|(with_reducible refine Below.drew ?_)|(with_reducible refine Below.setCell ?_ (by first|(simp;done)|(simp;omega)) _)|(with_reducible refine Below.alloc ?_ (by first|omega|(simp;done)|(simp;omega)) _)|(with_reducible exact HBB.out)))
   . have ai2:=Lib.hid aaV;clear aaV
     .  have hl:¬rs.length=64:=(by omega);have hl64:((rs.length:Int)==64)=false:=(by rw[Zm5];omega);obtain⟨i0,z,tj,hz0,hzs,hzb,EW⟩:=az.aun
        gi_wp2_with (first|(refine⟨trivial,?_⟩;gi_at_call 84;refine(CallsIn.inRound l (callsIn_wide.2 HL.out)).mono ?_;rintro e w1 ⟨he,lR⟩;rw[show az.wJ x= .inr r from ai2.out]at he;obtain rfl:e= .returned (.tuple #[.agg #[.int .u8 r.k,.int .i64 r.wt,.string r.a,.string r.b,.string r.t,.int .i64 r.n],.int .i64 0]):=he;have K1:=J1.out.below lR z1;have K2:=J2.out.below lR z2;have K3:=J3.out.below lR z3;have K4:=J4.out.below lR z4;have k1:=K1.one;have k2:=K2.one;have k3:=K3.one;have k4:=K4.one;have g1:=K1.frozen;have g2:=K2.frozen;have g3:=K3.frozen;have g4:=K4.frozen;have hz1:=lR.size;have y1:=Zc7 z1 hz1;have y2:=Zc7 z2 hz1;have y3:=Zc7 z3 hz1;have y4:=Zc7 z4 hz1;have L1:=Lib.hid K1;have L2:=Lib.hid K2;have L3:=Lib.hid K3;have L4:=Lib.hid K4;clear K1 K2 K3 K4;have HB1:=Lib.hid lR;have HBB:=Lib.hid (HB.out.trans (lR.mono (Zn4 z1)));clear lR)|(gi_at_builtin;refine wpListIn_append_own _ rfl _ _ 32 rfl (w.heap.size+5) 40 i0 z 6 72 Tryz.underlying32 tj hz0 hzs hzb EW (by decide) _ _ _ rfl (((az.afp ai1.out HB1.out).alloc _).alloc _) ⟨w1.heap.size+1,0,none⟩ 1 1 r.cells rfl rfl ?_ ?_ ?_ ?_ ?_ ?_))
        . intro j u hu;have:=az.aoJ (w1.alloc (.cells r.cells.toArray 40)) 40 r.cells j u hu;rw[World.size_alloc]at this;exact this
        . exact az.aoI r
        . unfold maxLen;omega
        . omega
        . have:=HB1.out.size;simp;omega
        . intro v' w5 ai0 ES _;obtain⟨g',bC,rfl⟩:=ownsRow_succ ai0;have hm5:=az.aoK HB1.out gR J4.out ai1.out ES;have k5:=hm5.one;have g5:=hm5.frozen;have HM5:=Lib.hid hm5;have HOWN:=Lib.hid ai0;have au7:=Lib.hid ES;clear hm5 ai0 ES
          gi_wp2
          exact az.amw HP1.out (by omega) ai2.out HB.out HB1.out gR J1.out J2.out J3.out J4.out ai1.out HOWN.out au7.out
 case done=>
   rintro D W hD ⟨rs,v,h1,h2,j1,j2,j3,j4,gG,gR,hb,Yk⟩ hK;obtain⟨va,vc,rfl⟩:=az.afq gG;have HNIL:=Lib.hid Yk;clear Yk;have c1:=j1.one;have c2:=j2.one;have c3:=j3.one;have c4:=j4.one;have f1:=j1.frozen;have f2:=j2.frozen;have f3:=j3.frozen;have f4:=j4.frozen;have ai1:=Lib.hid gG;have HB:=Lib.hid hb;have H1:=Lib.hid h1;have J1:=Lib.hid j1;have J2:=Lib.hid j2;have J3:=Lib.hid j3;have J4:=Lib.hid j4;have HK:=Lib.hid hK;clear gG hb h1 j1 j2 j3 j4 hK hm adj i1 i2 i3 i4 i5 yo
   gi_wp2
   have hK2:(((W.setCell ⟨w.heap.size,0,none⟩ (.slice va rs.length vc)).setCell ⟨w.heap.size+1,0,none⟩ (.int .i64 0)).setCell ⟨w.heap.size+1+1,0,none⟩ (.int .i64 0)).heap[D]? =some (.deferred (some [])):=
     (KeepsOthers.setCell _ _ _).same D _ ((KeepsOthers.setCell _ _ _).same D _ ((KeepsOthers.setCell _ _ _).same D _ HK.out rfl) rfl) rfl
   have q1:=az.CC (o':= .deferred none) (((az.Gn (v:= .slice va rs.length vc) J1.out).other (m:=w.heap.size+1) (by omega) 0 (.int .i64 0)).other (m:=w.heap.size+1+1) (by omega) 0 (.int .i64 0)) hK2 rfl;have q2:=az.CC (o':= .deferred none) ((az.Gn (v:= .int .i64 0) (J2.out.other (m:=w.heap.size) (by omega) 0 (.slice va rs.length vc))).other (m:=w.heap.size+1+1) (by omega) 0 (.int .i64 0)) hK2 rfl;have q3:=az.CC (o':= .deferred none) (az.Gn (v:= .int .i64 0) ((J3.out.other (m:=w.heap.size) (by omega) 0 (.slice va rs.length vc)).other (m:=w.heap.size+1) (by omega) 0 (.int .i64 0))) hK2 rfl;have r1:=q1.one;have r2:=q2.one;have r3:=q3.one;refine⟨by simp,.inl ⟨_,_,rfl,run_takeDeferred hK2,?_⟩⟩;refine⟨.tuple #[.slice va rs.length vc,.int .i64 0,.int .i64 0],by simp[results,Tryz.results43,go_sem,r1,r2,r3],az.afr (k:=0) (rs:=rs) (az.ajH hs H1.out h2) rfl ?_ ?_ (λh=>h.elim (λh=>absurd rfl h) HNIL.out)⟩
   . refine az.aq5 (base:=w.heap.size+5) ?_ (by omega);refine ownsRow_putObj (ownsRow_setCell_below (ownsRow_setCell_below (ownsRow_setCell_below ai1.out ?_ _) ?_ _) ?_ _) _ hK2 rfl
     .  show w.heap.size<w.heap.size+5;omega
     .  show w.heap.size+1<w.heap.size+5;omega
     .  show w.heap.size+1+1<w.heap.size+5;omega
   . exact(((HB.out.setCell (p:=⟨w.heap.size,0,none⟩) (Za3 _) _).setCell (p:=⟨w.heap.size+1,0,none⟩) (by show w.heap.size<=w.heap.size+1;omega) _).setCell (p:=⟨w.heap.size+1+1,0,none⟩) (by show w.heap.size<=w.heap.size+1+1;omega) _).grown (grownBy_putObj' _ D _) (by simp;omega) (λk e=>by cases e;omega)
 case stop=>
   rintro D pre W hD abC ⟨e,k,h1,h2,h3,h4,j1,j2,j3,gR,hb⟩ hK;obtain⟨ys,zI⟩:=abC;have q1:=az.CC (o':= .deferred none) j1 hK rfl;have q2:=az.CC (o':= .deferred none) j2 hK rfl;have q3:=az.CC (o':= .deferred none) j3 hK rfl;have r1:=q1.one;have r2:=q2.one;have r3:=q3.one;have HB:=Lib.hid hb;have H4:=Lib.hid (h4 ys zI);have HK:=Lib.hid hK;have R1:=Lib.hid r1;have R2:=Lib.hid r2;have R3:=Lib.hid r3;clear hb h4 j1 j2 j3 hK hm adj i1 i2 i3 i4 i5 yo zI q1 q2 q3 r1 r2 r3
   gi_wp2
   refine⟨by simp,.inl ⟨_,_,rfl,run_takeDeferred HK.out,?_⟩⟩;refine⟨.tuple #[.slice none 0 0,.int .i64 k,.int .i64 e],by simp[results,Tryz.results43,go_sem,R1.out,R2.out,R3.out],az.afr (k:=k) (rs:=[]) (by unfold az.tT;rw[Za7 (by omega),H4.out]) rfl ⟨rfl,.inl ⟨rfl,rfl⟩⟩ ?_⟩;exact HB.out.grown (grownBy_putObj' _ D _) (by omega) (λk e=>by cases e;omega)
end
end Go.Proofs
section
set_option maxRecDepth 1000000
namespace Go.Ai
open Go Go.RowKit
theorem ai3{P:Program}{tt:TT}{O:fc}{G:T dV}{C:Cells}{m d f:Nat}{n0:Pos}{fn:Func}{c:Code}(hm:P.follows .mixedOrders=true)(hT:dH P tt)(hG:GOk P tt G)
  (hO:vK P C O) (VU:oK O) (hf:P.funcs[f]? =some fn) (qq:¬fn.name= "runtime.NumGoroutine") (hb:fn.body=some c) {b:Bool}
  (h:MZ (R:=Bool) false O G m d f [] { heap:= .e,next:=n0 } (λv _=>eM v (.bool b))=true) (w:World) (hC:∀ad v,C ad=some v->w.cell? ad=some v) (hC2:∀a v,C a=some v->∀o,C ⟨a.block,o,none⟩=none->w.cell? ⟨a.block,o,none⟩=none):
  Calls P f #[] w λe w'=>e= .returned (.bool b)/\Below w.heap.size w w':=by
 rw[FM false O G m d]at h;unfold uL at h;split at h<;>first|(cases h;done)|skip
 rename_i x hx;obtain⟨v,bE⟩:=x;have hv:=yy h;simp only at hv;subst hv;have hr:=CY hm hT hO VU hG m d (λ_=>⟨0,0,0⟩) { heap:= .e,next:=n0 } w f [] (.bool b) bE [] hx (GN hC hC2) aL.nil;have dX:(callFunc f ([]:List Value).toArray).run P w= .ok (.enter f #[]) w:=by simp[callFunc,hf,qq,hb]
 rw[dX]at hr;refine Calls.mono hr λe w' he=> ?_
 cases e with
 |returned x=>
  obtain⟨ρ',h1,_,_,_,hE⟩:=he;have:=h1.kV;subst this;exact⟨rfl,hE.os,hE.tape,hE.output,hE.size,λk hk=>hE.block k hk λb x hb=>by rw[T.dW]at hb;cases hb⟩
 |panicked c=>exact he.elim
 |outgrown=>exact he.elim
section
variable{ρ : Pos -> Go.Ai.Loc}{C : Cells}{st : St}{w w' : World}
theorem cC.later(h:cC ρ C st w)(hb:Below w.heap.size w w'):cC ρ C st w' where
 live b x hx:=by
  obtain⟨h1,h2,h3⟩:=h.live b x hx;exact⟨h1,Zc7 h2 hb.size,h3.of_heap (hb.block _ h2)⟩
 inj:=h.inj
 eI a v ha:=by
  obtain⟨h1,h2⟩:=h.eI a v ha;exact⟨(hb.cell (World.block_lt_of_cell? _ _ h1)).trans h1,h2⟩
 whole a v ha o ho:=by
  have vr:a.block<w.heap.size:=World.block_lt_of_cell? _ _ (h.eI a v ha).1;exact(hb.cell (p:=⟨a.block,o,none⟩) vr).trans (h.whole a v ha o ho)
theorem qI.later(h:cC ρ C st w)(hb:Below w.heap.size w w'):qI ρ st w ρ st w':=⟨hb.os,hb.tape,hb.output,hb.size,λk hk _=>hb.block k hk,λb x hx=> .inl ⟨b,x,hx,rfl⟩⟩
theorem aup(hW:cC ρ C st w){x0:AB}{base size g:Nat}(hb:Below w.heap.size w w')(hg:w.heap.size<=g)(C9:g<w'.heap.size)
   (hB:∀ρ' n',(∀b:Pos,b.toNat<st.next.toNat->ρ' b=ρ b)->st.next.toNat<=n'->tW ρ' n' C ⟨g,base,size⟩ w' x0):
   ∃ρ':Pos->Go.Ai.Loc,(∀b:Pos,b.toNat<st.next.toNat->ρ' b=ρ b)/\ρ' st.next=⟨g,base,size⟩/\cC ρ' C (st.bh none none (some x0)) w'/\qI ρ st w ρ' (st.bh none none (some x0)) w':=by
 let ρ':Pos->Go.Ai.Loc:=λb=>if b=st.next then⟨g,base,size⟩else ρ b
 have bF:∀b:Pos,b.toNat<st.next.toNat->ρ' b=ρ b:=λb hb=>Za7 (λe=>by rw[e]at hb;omega)
 have jf:ρ' st.next=⟨g,base,size⟩:=Zb2 rfl;refine⟨ρ',bF,jf,?_,⟨hb.os,hb.tape,hb.output,hb.size,λk hk _=>hb.block k hk,λb x hx=> ?_⟩⟩;rotate_left
 . by_cases he:b=st.next
   . right;rw[he,jf];exact hg
   . left;simp only[St.bh,Ob,Lb]at hx;rw[T.b9 _ (λe=>he e.symm)]at hx;exact⟨b,x,hx,by rw[bF b (hW.live b x hx).1]⟩
 refine hW.akC (b0:=st.next) (x0:=x0) (by rw[Pos.aF];omega) (by rw[Pos.aF];omega) (by rw[T.gH]) ?_ bF (by rw[jf];exact hB _ _ bF (by rw[Pos.aF];omega)) ?_ (by rw[jf];exact C9) hb.size (λk hk _=>hb.block k hk)
 . intro b x hb hx;simp only[Ob,Lb]at hx;rw[T.b9 _ (λe=>hb e.symm)]at hx;refine⟨hx,?_⟩;rw[jf];have:=(hW.live b x hx).2.1;simp only;omega
 . intro a v ha;have:=World.block_lt_of_cell? _ _ (hW.eI a v ha).1;rw[jf];simp only;omega
end
end Go.Ai
namespace Go.Proofs
open Go Go.Ai Go.RowKit Go.az Go.Proofs.YtgihekklfnjkiaaGreatDoor
def az.parseLit(t0:List Nat)(er i:Int)(n:Nat)(cs:List AV):List AV->St->Option (AV×St):=λargs st=>
 match args with
 |  [.str t]=>match kg t t0 with
    |true=>match n with
     |0=>some (.tuple [.af,.int .i64 i,.int .i64 er],st)
     |n+1=>some (.tuple [.slice st.next 0 (n+1) none 6,.int .i64 i,.int .i64 er],st.bh none none (some (.cells cs 0)))
    |false=>none
 |_=>none
def az.agq:AV->Option Value
 | .int k i=>some (.int k i)
 | .str s=>some (.string (az.Bt s))
 |_=>none
theorem az.Yl{ρ:Pos->Go.Ai.Loc}{n:Nat}{C:Cells}:∀{cs:List AV}{vs:List Value},cs.mapM az.agq=some vs->(∀v∈cs,∃k i,v= .int k i\/∃s,v= .str s/\∀c∈s,c<256)->aL ρ n C cs vs
 |[],vs,h,_=>by simp at h;subst h;exact aL.nil
 |v ::cs,vs,h,hv=>by
  simp only[List.mapM_cons,Option.bind_eq_bind,Option.bind_eq_some_iff,Option.pure_def,H5]at h;obtain⟨y,hy,zs,hz,rfl⟩:=h;refine aL.cons ?_ (az.Yl hz λv hm=>hv v (Za9 _ hm));obtain⟨k,i,rfl|⟨s,rfl,hs⟩⟩:=hv v (Zd5 ..)
  . simp[az.agq]at hy;subst hy;exact .int _ _
  . simp only[az.agq,H5]at hy;subst hy;refine .str _ _ ?_;show(s.map UInt8.ofNat).toArray.toList.map UInt8.toNat=s;simp only[Zh7]
    conv=>rhs;rw[<-Zr9 s]
    (refine Zj3 λc hc=> ?_);have:=hs c hc;simp[UInt8.toNat_ofNat];omega
theorem az.OW{C:Cells}{m:Int}(hC:C ⟨0,0,none⟩=some (.int .i64 m)){t0:List Nat}{er i:Int}{n k:Nat}{cs:List AV}{rs:List az.RR}(gR:t0.length<=65536)(hq:((gD (az.Bt t0)).all az.okL&&Nat.blt (gD (az.Bt t0)).length 64)=true)(hp:az.tT (az.Bt t0)=(er,k,rs))(hi:i=k)(hn:n=rs.length)
  (fh:cs.mapM az.agq=some (az.cellsOf rs)) (hsc:∀v∈cs,∃k i,v= .int k i\/∃s,v= .str s/\∀c∈s,c<256) (hz:n=0->er≠0):tZ Tryz.prog C 43 (az.parseLit t0 er i n cs) where
 mono args st v st' h:=by
  unfold az.parseLit at h;split at h<;>first|(cases h;done)|skip
  split at h<;>first|(cases h;done)|skip
  split at h
  . injection h with h;injection h with h1 h2;subst h2;exact Za3 _
  . injection h with h;injection h with h1 h2;subst h2;exact St.Rr _ _ _ _
 runs ρ st w args v st' cQ h hW hv:=by
  unfold az.parseLit at h;split at h<;>first|(cases h;done)|skip
  rename_i t;split at h<;>first|(cases h;done)|skip
  rename_i hbq;have ht:t=t0:=mI.1 hbq;subst ht;obtain⟨x,xs,rfl,h1,h2⟩:=hv.cons_inv;have:=h2.qO;subst this;obtain⟨bs,rfl,hs⟩:=h1.fC;have GF:=az.BZ hs;have hm:=(hW.eI _ _ hC).1;have akE:bs.size<=65536:=by have:bs.data.toList.length=t.length:=(by rw[<-hs];simp);have h3:bs.size=bs.data.toList.length:=(by simp);omega
  have hc:=az.auo bs (λx hx=>Zg8.1 ((Zb5 _ _).mp hq).1 x (by rw[<-GF];exact hx)) (by rw[GF];exact Zb3 ((Zb5 _ _).mp hq).2) m w akE hm;have dX:(callFunc 43 ([Value.string bs]:List Value).toArray).run Tryz.prog w= .ok (.enter 43 #[.string bs]) w:=enters_of Tryz.func43 (by kernel_rfl) rfl _ _;rw[dX];refine Calls.mono hc λe w' ZH=> ?_
  obtain⟨v',he,gG,hb,Yk⟩:=ZH;rw[GF,hp]at he gG Yk;subst he;subst hi;simp only at gG Yk ⊢;split at h
  . (injection h with h;injection h with e1 e2;subst e1;subst e2);have hv0:=Yk (.inl (hz rfl));subst hv0;exact⟨ρ,.yl (aL.cons .af (aL.cons (.int _ _) (aL.cons (.int _ _) aL.nil))),λ_ _=>rfl,Za3 _,hW.later hb,qI.later hW hb⟩
  . rename_i n';(injection h with h;injection h with e1 e2;subst e1;subst e2);rcases gG.2 with⟨_,h0⟩|⟨g,cap,cur,rfl,hg,hgb,agE,hcm,hcur,au8⟩
    .   omega
    .   have NB:=(Zd2.1 hgb).1;have hlen:cs.length=rs.length*6:=by
         have hvr:=az.Yl (ρ:=ρ) (n:=0) (C:=C) fh hsc;rw[hvr.1,az.aeo]
        obtain⟨ρ',bF,jf,ji,hE⟩:=aup (x0:= .cells cs 0) (base:=0) (size:=cur.size) hW hb hg NB (λρ' n' _ _=>
         B8 hgb (by rw[hlen,hcur];exact Zg9 _ agE) (by rw[hlen,au8];exact az.Yl fh hsc) (λi _=>by simp))
        refine⟨ρ',.yl (aL.cons ?_ (aL.cons (.int _ _) (aL.cons (.int _ _) aL.nil))),bF,St.Rr _ _ _ _,ji,hE⟩;have au9:n'+1<=cap:=(by omega);rw[<-hn];exact Nd (by simp[St.bh,Pos.aF]) jf au9 (λc hc=>by cases hc) (by rw[hcur];exact Za3 _)
noncomputable def az.P1:List AV->St->Option (AV×St):=az.parseLit [104,97,114,100,32,97,112,97,114,116,32,97,110,110,97,32,98,111,114,105,115,32,50,10,119,101,105,103,104,32,53,32,104,111,110,111,117,114,32,45,10] 0 0 2 [.int .u8 1,.int .i64 0,.str [97,110,110,97],.str [98,111,114,105,115],.str [],.int .i64 2,.int .u8 14,.int .i64 5,.str [],.str [],.str [],.int .i64 0]
noncomputable def az.P2:List AV->St->Option (AV×St):=az.parseLit [119,101,105,103,104,32,48,32,109,105,120,32,45,10] 41 0 0 []
noncomputable def az.P3:List AV->St->Option (AV×St):=az.parseLit [104,97,114,100,32,97,116,32,97,110,110,97,32,45,10] 4 0 0 []
theorem az.ava:az.tT (az.Bt [104,97,114,100,32,97,112,97,114,116,32,97,110,110,97,32,98,111,114,105,115,32,50,10,119,101,105,103,104,32,53,32,104,111,110,111,117,114,32,45,10])=(0,0,[⟨1,0,⟨#[97,110,110,97]⟩,⟨#[98,111,114,105,115]⟩,⟨#[]⟩,2⟩,⟨14,5,⟨#[]⟩,⟨#[]⟩,⟨#[]⟩,0⟩]):=by kernel_rfl
theorem az.avb:az.tT (az.Bt [119,101,105,103,104,32,48,32,109,105,120,32,45,10])=(41,0,[]):=by kernel_rfl
theorem az.avc:az.tT (az.Bt [104,97,114,100,32,97,116,32,97,110,110,97,32,45,10])=(4,0,[]):=by kernel_rfl
theorem az.amx{k:IntKind}{i:Int}:∃k' i',(AV.int k i)= .int k' i'\/∃s,(AV.int k i)= .str s/\∀c∈s,c<256:=⟨k,i,.inl rfl⟩
theorem az.amy{s:List Nat}(h:s.all (λc=>decide (c<256))=true):∃k' i',(AV.str s)= .int k' i'\/∃s',(AV.str s)= .str s'/\∀c∈s',c<256:=⟨.i64,0,.inr ⟨s,rfl,λc hc=>by have:=Zg8.1 h c hc;simpa using this⟩⟩
theorem az.avd{C:Cells}{m:Int}(hC:C ⟨0,0,none⟩=some (.int .i64 m)):tZ Tryz.prog C 43 az.P1:=
 az.OW hC (by decide) (by kernel_rfl) az.ava rfl rfl (by rfl) (by
  intro v hv;simp only[Zb0,Zc5,Zf3]at hv;rcases hv with rfl|rfl|rfl|rfl|rfl|rfl|rfl|rfl|rfl|rfl|rfl|rfl<;>first|exact az.amx|exact az.amy (by decide)) (by decide)
theorem az.ave{C:Cells}{m:Int}(hC:C ⟨0,0,none⟩=some (.int .i64 m)):tZ Tryz.prog C 43 az.P2:=az.OW hC (by decide) (by kernel_rfl) az.avb rfl rfl rfl (by simp) (by decide)
theorem az.avf{C:Cells}{m:Int}(hC:C ⟨0,0,none⟩=some (.int .i64 m)):tZ Tryz.prog C 43 az.P3:=az.OW hC (by decide) (by kernel_rfl) az.avc rfl rfl rfl (by simp) (by decide)
noncomputable def az.orcA:fc:=vL [(246,FN),(18,orS (RP YY) (RP YZ)),(43,orS az.P1 (orS az.P2 az.P3))]
noncomputable def az.chkA:Bool:=MZ (R:=Bool) false az.orcA gg 100000 60 14 [] { heap:= .e,next:= .o (.i (.o (.i (.o (.i (.o (.i (.o .h)))))))) } λv _=>eM v (.bool true)
theorem az.aoL:az.chkA=true:=by kernel_rfl
theorem az.Ym{C:Cells}:tZ Tryz.prog C 246 FN:=ape (fn:=Tryz.f246) Tryz.func246 (by kernel_rfl) (by kernel_rfl) (by kernel_rfl) (by kernel_rfl)
theorem az.atq{C:Cells}:tZ Tryz.prog C 18 (RP YY):=by have ho:=yB (P:=Tryz.prog) (C:=C) (l:=[(246,FN)]) (λx hx=>by simp at hx;subst hx;exact az.Ym);exact agY (O:=arI) (G:=gg) (m:=100000) (d:=60) (CY (by kernel_rfl) TH ho.1 ho.2 TJ _ _) (CV ho.2 _ _) aul au3
theorem az.atr{C:Cells}:tZ Tryz.prog C 18 (RP YZ):=by have ho:=yB (P:=Tryz.prog) (C:=C) (l:=[(246,FN)]) (λx hx=>by simp at hx;subst hx;exact az.Ym);exact agY (O:=arJ) (G:=gg) (m:=100000) (d:=60) (CY (by kernel_rfl) TH ho.1 ho.2 TJ _ _) (CV ho.2 _ _) aum au4
theorem az.aoM(m:Int)(w:World)(hm:w.cell? ⟨0,0,none⟩=some (.int .i64 m)):Calls Tryz.prog 14 #[] w λe w'=>e= .returned (.bool true)/\Below w.heap.size w w':=by
 have hC:(λad=>w.cell? ad:Cells) ⟨0,0,none⟩=some (.int .i64 m):=hm;have ho:=yB (P:=Tryz.prog) (C:=λad=>w.cell? ad) (l:=[(246,FN),(18,orS (RP YY) (RP YZ)),(43,orS az.P1 (orS az.P2 az.P3))]) (λx hx=>by
  simp only[Zb0,Zc5,Zf3]at hx;rcases hx with rfl|rfl|rfl
  . exact az.Ym
  . exact agZ az.atq az.atr
  . exact agZ (az.avd hC) (agZ (az.ave hC) (az.avf hC)))
 exact ai3 (by kernel_rfl) TH TJ ho.1 ho.2 (fn:=Tryz.f14) (c:=Tryz.f14.body.get rfl) Tryz.func14 (by decide) rfl az.aoL w (λad v h=>h) λa v _ o h=>h
end Go.Proofs
end
