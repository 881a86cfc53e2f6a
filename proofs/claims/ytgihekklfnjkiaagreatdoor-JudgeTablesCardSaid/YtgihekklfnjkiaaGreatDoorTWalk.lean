/- awake of the chapter. -/
import Derived.Test.YtgihekklfnjkiaaGreatDoorProg
import Derived.Test.YtgihekklfnjkiaaGreatDoorTEvalE
import Derived.Lib.Hide
import Derived.WalkSmall
import Derived.Shelf.Small.Strs
import Derived.Shelf.Strings.Split
import Derived.Shelf.Strings.Shaped
import Derived.RangeFuncNested
import Derived.RangeFuncBound
import Derived.Shelf.RegionOpen
import Derived.OwnWalkIn
import Derived.LoopNIn
import Derived.LoopIn
set_option linter.all false
set_option linter.unusedSectionVars false
set_option linter.deprecated false
namespace Go.Proofs.YtgihekklfnjkiaaGreatDoor
noncomputable section
set_option maxRecDepth 100000
open Go Go.Ai Go.Proofs
def tt:T TI:=ttOf Go.Proofs.Tryz.prog [7,8,25,26,33,34,39,40,50,51,74,75,76,82,83,85,86,96,97,122,123,133,134,173,174,176,177,212,213,249,250]
def gg:T dO:=ggOf Go.Proofs.Tryz.prog tt
theorem aup:Le Go.Proofs.Tryz.prog (λp=>p) tt=true:=by kernel_rfl
theorem Ud:di Go.Proofs.Tryz.prog tt:=ar3 aup
theorem Ue:GOk Go.Proofs.Tryz.prog tt gg:=ar4 (by kernel_rfl)
end
end Go.Proofs.YtgihekklfnjkiaaGreatDoor
section
end
namespace Go.Proofs.YtgihekklfnjkiaaGreatDoor
section
set_option maxRecDepth 1000000
open Go Go.Ai
noncomputable def arR:eV:=vW [(246,F0)]
noncomputable def Zc:Go.Ai.Lit:=⟨[(.agg [(kS 684 2 2 7),(kS 688 4 4 9),(kS 689 1 1 3),(kS 690 4 4 1),(kS 681 16 16 6)])],(key 691),
 [((key 681),(.cells [(kU 1),(kI 0),(.str [97,110,110,97]),(.str [98,111,114,105,115]),(.str []),(kI 2),(kU 1),(kI 0),(.str [97,110,110,97]),(.str [99,97,114,108]),(.str []),(kI 2),(kU 2),(kI 0),(.str [98,111,114,105,115]),(.str [99,97,114,108]),(.str []),(kI 0),(kU 3),(kI 0),(.str [97,110,110,97]),(.str [99,97,114,108]),(.str []),(kI 0),(kU 4),(kI 0),(.str [97,110,110,97]),(.str [100,111,114,97]),(.str []),(kI 3),(kU 8),(kI 0),(.str []),(.str []),(.str []),(kI 0),(kU 9),(kI 0),(.str []),(.str []),(.str []),(kI 0),(kU 10),(kI 0),(.str []),(.str []),(.str []),(kI 0),(kU 11),(kI 0),(.str []),(.str []),(.str []),(kI 0),(kU 12),(kI 0),(.str []),(.str []),(.str [114]),(kI 0),(kU 14),(kI 0),(.str []),(.str []),(.str []),(kI 0),(kU 15),(kI 0),(.str []),(.str []),(.str []),(kI 2),(kU 16),(kI 0),(.str []),(.str []),(.str [114]),(kI 2),(kU 5),(kI 0),(.str [97,110,110,97]),(.str [98,111,114,105,115]),(.str []),(kI 0),(kU 6),(kI 0),(.str [100,111,114,97]),(.str []),(.str [114]),(kI 0),(kU 7),(kI 0),(.str [99,97,114,108]),(.str []),(.str [114]),(kI 2)] 0)),
   ((key 690),(.cells [(kI 0),(kI 1),(kI 1),(kI 2)] 0)),
   ((key 689),(.cells [(.str [97,110,110,97]),(.str [98,111,114,105,115]),(kU 2)] 0)),
   ((key 687),(.cells [(.str [108,97,116,105,110])] 0)),
   ((key 686),(.cells [(.str [108,97,116,105,110])] 0)),
   ((key 685),(.cells [(.str [108,97,116,105,110])] 0)),
   ((key 688),(.cells [(.str [97,110,110,97]),(.str []),(.str []),(kI 0),(kI 1),(.str []),(.bool true),(.bool false),(kS 685 1 1 1),(.str [98,111,114,105,115]),(.str []),(.str []),(kI 0),(kI 1),(.str []),(.bool false),(.bool false),(kS 686 1 1 1),(.str [99,97,114,108]),(.str []),(.str []),(kI 0),(kI 2),(.str []),(.bool false),(.bool true),(kS 687 1 1 1),(.str [100,111,114,97]),(.str []),(.str []),(kI 0),(kI 0),(.str []),(.bool false),(.bool false),.af] 0)),
   ((key 683),(.cells [(kI 1)] 0)),
   ((key 684),(.cells [(.str [114]),(kU 1),(kI 6),(kI 0),(kS 683 1 1 1),(kI 0),(kI 0),(.str [119]),(kU 4),(kI 2),(kI 0),.af,(kI 0),(kI 0)] 0))],
 (.tuple [(.ptr (key 1057) 0),(kI 0),(kI 0)]),(key 5270),
 [((key 684),(.cells [(.str [114]),(kU 1),(kI 6),(kI 0),(kS 683 1 1 1),(kI 0),(kI 0),(.str [119]),(kU 4),(kI 2),(kI 0),.af,(kI 0),(kI 0)] 0)),
   ((key 683),(.cells [(kI 1)] 0)),
   ((key 688),(.cells [(.str [97,110,110,97]),(.str []),(.str []),(kI 0),(kI 1),(.str []),(.bool true),(.bool false),(kS 685 1 1 1),(.str [98,111,114,105,115]),(.str []),(.str []),(kI 0),(kI 1),(.str []),(.bool false),(.bool false),(kS 686 1 1 1),(.str [99,97,114,108]),(.str []),(.str []),(kI 0),(kI 2),(.str []),(.bool false),(.bool true),(kS 687 1 1 1),(.str [100,111,114,97]),(.str []),(.str []),(kI 0),(kI 0),(.str []),(.bool false),(.bool false),.af] 0)),
   ((key 685),(.cells [(.str [108,97,116,105,110])] 0)),
   ((key 686),(.cells [(.str [108,97,116,105,110])] 0)),
   ((key 687),(.cells [(.str [108,97,116,105,110])] 0)),
   ((key 689),(.cells [(.str [97,110,110,97]),(.str [98,111,114,105,115]),(kU 2)] 0)),
   ((key 690),(.cells [(kI 0),(kI 1),(kI 1),(kI 2)] 0)),
   ((key 681),(.cells [(kU 1),(kI 0),(.str [97,110,110,97]),(.str [98,111,114,105,115]),(.str []),(kI 2),(kU 1),(kI 0),(.str [97,110,110,97]),(.str [99,97,114,108]),(.str []),(kI 2),(kU 2),(kI 0),(.str [98,111,114,105,115]),(.str [99,97,114,108]),(.str []),(kI 0),(kU 3),(kI 0),(.str [97,110,110,97]),(.str [99,97,114,108]),(.str []),(kI 0),(kU 4),(kI 0),(.str [97,110,110,97]),(.str [100,111,114,97]),(.str []),(kI 3),(kU 8),(kI 0),(.str []),(.str []),(.str []),(kI 0),(kU 9),(kI 0),(.str []),(.str []),(.str []),(kI 0),(kU 10),(kI 0),(.str []),(.str []),(.str []),(kI 0),(kU 11),(kI 0),(.str []),(.str []),(.str []),(kI 0),(kU 12),(kI 0),(.str []),(.str []),(.str [114]),(kI 0),(kU 14),(kI 0),(.str []),(.str []),(.str []),(kI 0),(kU 15),(kI 0),(.str []),(.str []),(.str []),(kI 2),(kU 16),(kI 0),(.str []),(.str []),(.str [114]),(kI 2),(kU 5),(kI 0),(.str [97,110,110,97]),(.str [98,111,114,105,115]),(.str []),(kI 0),(kU 6),(kI 0),(.str [100,111,114,97]),(.str []),(.str [114]),(kI 0),(kU 7),(kI 0),(.str [99,97,114,108]),(.str []),(.str [114]),(kI 2)] 0)),
   ((key 5265),(.cells [(kU 0),(kU 0),(kU 0),(kU 0)] 0)),
   ((key 5186),(.cells [(kU 0),(kU 0),(kU 0),(kU 0)] 0)),
   ((key 5099),(.cells [(kU 2),(kU 0),(kU 0),(kU 0)] 0)),
   ((key 5010),(.cells [(kU 0),(kU 2),(kU 0),(kU 0)] 0)),
   ((key 5269),(.cells [(kN 5010 4 1),(kN 5099 4 1),(kN 5186 4 1),(kN 5265 4 1)] 0)),
   ((key 5259),(.cells [(.bool false),(.bool false),(.bool false),(.bool false)] 0)),
   ((key 5180),(.cells [(.bool true),(.bool true),(.bool true),(.bool false)] 0)),
   ((key 5093),(.cells [(.bool true),(.bool true),(.bool true),(.bool false)] 0)),
   ((key 5004),(.cells [(.bool true),(.bool true),(.bool true),(.bool false)] 0)),
   ((key 5267),(.cells [(kN 5004 4 1),(kN 5093 4 1),(kN 5180 4 1),(kN 5259 4 1)] 0)),
   ((key 4872),(.map [((kI 7),(kI 0),0),((kI 6),(kI 1),1)] 2)),
   ((key 4864),(.map [((kI 6),(kI 0),0),((kI 7),(kI 1),1)] 2)),
   ((key 4844),(.map [((kI 5),(kI 0),0),((kI 0),(kI 1),1),((kI 4),(kI 1),2),((kI 2),(kI 1),3),((kI 1),(kI 2),4),((kI 3),(kI 2),5)] 6)),
   ((key 4824),(.map [((kI 4),(kI 0),0),((kI 3),(kI 1),1),((kI 5),(kI 1),2),((kI 1),(kI 1),3),((kI 2),(kI 2),4),((kI 0),(kI 2),5)] 6)),
   ((key 4804),(.map [((kI 3),(kI 0),0),((kI 2),(kI 1),1),((kI 4),(kI 1),2),((kI 0),(kI 1),3),((kI 1),(kI 2),4),((kI 5),(kI 2),5)] 6)),
   ((key 4784),(.map [((kI 2),(kI 0),0),((kI 1),(kI 1),1),((kI 3),(kI 1),2),((kI 5),(kI 1),3),((kI 0),(kI 2),4),((kI 4),(kI 2),5)] 6)),
   ((key 4764),(.map [((kI 1),(kI 0),0),((kI 0),(kI 1),1),((kI 2),(kI 1),2),((kI 4),(kI 1),3),((kI 5),(kI 2),4),((kI 3),(kI 2),5)] 6)),
   ((key 4744),(.map [((kI 0),(kI 0),0),((kI 1),(kI 1),1),((kI 5),(kI 1),2),((kI 3),(kI 1),3),((kI 2),(kI 2),4),((kI 4),(kI 2),5)] 6)),
   ((key 4879),(.cells [(.map (key 4744)),(.map (key 4764)),(.map (key 4784)),(.map (key 4804)),(.map (key 4824)),(.map (key 4844)),(.map (key 4864)),(.map (key 4872))] 0)),
   ((key 4130),(.cells [(kI 2)] 0)),
   ((key 3569),(.cells [(kI 1)] 0)),
   ((key 3008),(.cells [(kI 0)] 0)),
   ((key 2657),(.cells [(kI 5)] 0)),
   ((key 2096),(.cells [(kI 4)] 0)),
   ((key 1535),(.cells [(kI 3)] 0)),
   ((key 4742),(.cells [(kN 1535 1 1),(kN 2096 1 1),(kN 2657 1 1),(kN 3008 1 1),(kN 3569 1 1),(kN 4130 1 1),.af,.af] 0)),
   ((key 4609),(.cells [(kI 6)] 0)),
   ((key 4414),(.cells [(kI 7)] 0)),
   ((key 3986),(.cells [(kI 0),(kI 4)] 0)),
   ((key 3495),(.cells [(kI 3),(kI 5)] 0)),
   ((key 2934),(.cells [(kI 2),(kI 4)] 0)),
   ((key 2373),(.cells [(kI 1),(kI 3)] 0)),
   ((key 1812),(.cells [(kI 0),(kI 2)] 0)),
   ((key 1391),(.cells [(kI 1),(kI 5)] 0)),
   ((key 4654),(.cells [(kN 1391 2 1),(kN 1812 2 1),(kN 2373 2 1),(kN 2934 2 1),(kN 3495 2 1),(kN 3986 2 1),(kN 4414 1 1),(kN 4609 1 1)] 0)),
   ((key 4564),(.cells [(.bool false),(.bool true),(.bool false),(.bool false),(.bool false),(.bool false),(.bool false),(.bool false)] 0)),
   ((key 4543),(.cells [(kI 0),(kI 1),(kI 2),(kI 1),(kI 2),(kI 1),(kI 1),(kI 0)] 0)),
   ((key 4507),(.cells [(kI 0),(kI 0),(kI 0),(kI 0),(kI 0),(kI 0),(kI 1),(kI 1)] 0)),
   ((key 1056),(.map [((kU 1),(.agg [(.str [97,112,97,114,116]),(kU 103),(.bool true),(kU 0),(.bool true),(kI 0),(.bool false),(.func 90 [] [])]),0),((kU 2),(.agg [(.str [98,101,115,105,100,101]),(kU 103),(.bool true),(kU 0),(.bool false),(kI 0),(.bool false),(.func 91 [] [])]),1),((kU 3),(.agg [(.str [97,99,114,111,115,115]),(kU 103),(.bool true),(kU 0),(.bool false),(kI 0),(.bool false),(.func 92 [] [])]),2),((kU 4),(.agg [(.str [110,101,97,114]),(kU 103),(.bool true),(kU 0),(.bool true),(kI 1),(.bool false),(.func 93 [] [])]),3),((kU 5),(.agg [(.str [116,111,103,101,116,104,101,114]),(kU 103),(.bool true),(kU 0),(.bool false),(kI 0),(.bool false),(.func 94 [] [])]),4),((kU 6),(.agg [(.str [97,116]),(kU 103),(.bool false),(kU 116),(.bool false),(kI 0),(.bool false),(.func 95 [] [])]),5),((kU 7),(.agg [(.str [115,101,97,116]),(kU 103),(.bool false),(kU 116),(.bool true),(kI 0),(.bool true),(.func 96 [] [])]),6),((kU 8),(.agg [(.str [97,108,116,101,114,110,97,116,101]),(kU 0),(.bool false),(kU 101),(.bool false),(kI 0),(.bool false),(.func 97 [] [])]),7),((kU 9),(.agg [(.str [104,111,115,116]),(kU 0),(.bool false),(kU 101),(.bool false),(kI 0),(.bool false),(.func 98 [] [])]),8),((kU 10),(.agg [(.str [114,101,97,99,104]),(kU 101),(.bool false),(kU 0),(.bool false),(kI 0),(.bool false),(.func 99 [] [])]),9),((kU 11),(.agg [(.str [115,112,101,97,107]),(kU 0),(.bool false),(kU 101),(.bool false),(kI 0),(.bool false),(.func 100 [] [])]),10),((kU 12),(.agg [(.str [112,101,97,99,101]),(kU 0),(.bool false),(kU 101),(.bool false),(kI 0),(.bool false),(.func 101 [] [])]),11),((kU 13),(.agg [(.str [99,111,109,112,97,110,121]),(kU 0),(.bool false),(kU 101),(.bool false),(kI 0),(.bool false),(.func 102 [] [])]),12),((kU 14),(.agg [(.str [104,111,110,111,117,114]),(kU 0),(.bool false),(kU 101),(.bool false),(kI 0),(.bool false),(.func 103 [] [])]),13),((kU 15),(.agg [(.str [102,105,108,108]),(kU 0),(.bool false),(kU 101),(.bool true),(kI 0),(.bool false),(.func 104 [] [])]),14),((kU 16),(.agg [(.str [108,105,109,105,116]),(kU 0),(.bool false),(kU 101),(.bool true),(kI 0),(.bool false),(.func 105 [] [])]),15),((kU 17),(.agg [(.str [107,105,116,99,104,101,110]),(kU 100),(.bool false),(kU 116),(.bool false),(kI 0),(.bool false),(.func 106 [] [])]),16),((kU 18),(.agg [(.str [109,105,120]),(kU 0),(.bool false),(kU 101),(.bool false),(kI 0),(.bool false),(.func 107 [] [])]),17)] 18)),
   ((key 1055),(.cells [(kU 1),(kI 0),(.str [97,110,110,97]),(.str [98,111,114,105,115]),(.str []),(kI 2),(kU 1),(kI 0),(.str [97,110,110,97]),(.str [99,97,114,108]),(.str []),(kI 2),(kU 2),(kI 0),(.str [98,111,114,105,115]),(.str [99,97,114,108]),(.str []),(kI 0),(kU 3),(kI 0),(.str [97,110,110,97]),(.str [99,97,114,108]),(.str []),(kI 0),(kU 4),(kI 0),(.str [97,110,110,97]),(.str [100,111,114,97]),(.str []),(kI 3),(kU 8),(kI 0),(.str []),(.str []),(.str []),(kI 0),(kU 9),(kI 0),(.str []),(.str []),(.str []),(kI 0),(kU 10),(kI 0),(.str []),(.str []),(.str []),(kI 0),(kU 11),(kI 0),(.str []),(.str []),(.str []),(kI 0),(kU 12),(kI 0),(.str []),(.str []),(.str [114]),(kI 0),(kU 14),(kI 0),(.str []),(.str []),(.str []),(kI 0),(kU 15),(kI 0),(.str []),(.str []),(.str []),(kI 2),(kU 16),(kI 0),(.str []),(.str []),(.str [114]),(kI 2),(kU 5),(kI 0),(.str [97,110,110,97]),(.str [98,111,114,105,115]),(.str []),(kI 0),(kU 6),(kI 0),(.str [100,111,114,97]),(.str []),(.str [114]),(kI 0),(kU 7),(kI 0),(.str [99,97,114,108]),(.str []),(.str [114]),(kI 2)] 0)),
   ((key 1053),(.cells [(kI 0),(kI 1),(kI 1),(kI 2)] 0)),
   ((key 1051),(.cells [(.str [97,110,110,97]),(.str [98,111,114,105,115]),(kU 2)] 0)),
   ((key 1049),(.cells [(.str [108,97,116,105,110])] 0)),
   ((key 1047),(.cells [(.str [108,97,116,105,110])] 0)),
   ((key 1045),(.cells [(.str [108,97,116,105,110])] 0)),
   ((key 1043),(.cells [(.str [97,110,110,97]),(.str []),(.str []),(kI 0),(kI 1),(.str []),(.bool true),(.bool false),(kN 1045 1 1),(.str [98,111,114,105,115]),(.str []),(.str []),(kI 0),(kI 1),(.str []),(.bool false),(.bool false),(kN 1047 1 1),(.str [99,97,114,108]),(.str []),(.str []),(kI 0),(kI 2),(.str []),(.bool false),(.bool true),(kN 1049 1 1),(.str [100,111,114,97]),(.str []),(.str []),(kI 0),(kI 0),(.str []),(.bool false),(.bool false),.af] 0)),
   ((key 1041),(.cells [(kI 1)] 0)),
   ((key 1039),(.cells [(.str [114]),(kU 1),(kI 6),(kI 0),(kN 1041 1 1),(kI 0),(kI 0),(.str [119]),(kU 4),(kI 2),(kI 0),.af,(kI 0),(kI 0)] 0)),
   ((key 1057),(.cells [(kN 1039 2 7),(kN 1043 4 9),(kN 1051 1 3),(kN 1053 4 1),(kN 1055 16 6),(.map (key 1056)),(kN 4507 8 1),(kN 4543 8 1),(kN 4564 8 1),(kN 4654 8 1),(kN 4742 8 1),(kN 4879 8 1),(kN 5267 4 1),(kN 5269 4 1)] 0))]⟩
theorem ava:ab7 Zc arR gg 100000 60 18=true:=by kernel_rfl
theorem auq:ab6 Zc.L0 Zc.L1=true:=by kernel_rfl
noncomputable def arS:eV:=vW [(246,F0)]
noncomputable def Zd:Go.Ai.Lit:=⟨[(.agg [(kS 5491 2 2 7),(kS 5495 4 4 9),(kS 5496 1 1 3),(kS 5497 4 4 1),(kS 5488 5 5 6)])],(key 5498),
 [((key 5488),(.cells [(kU 14),(kI 0),(.str []),(.str []),(.str [114]),(kI 0),(kU 11),(kI 0),(.str []),(.str []),(.str [114]),(kI 0),(kU 9),(kI 1),(.str []),(.str []),(.str []),(kI 0),(kU 15),(kI 10),(.str []),(.str []),(.str [119]),(kI 2),(kU 15),(kI 100),(.str []),(.str []),(.str []),(kI 4)] 0)),
   ((key 5497),(.cells [(kI 0),(kI 1),(kI 1),(kI 2)] 0)),
   ((key 5496),(.cells [(.str [97,110,110,97]),(.str [98,111,114,105,115]),(kU 2)] 0)),
   ((key 5494),(.cells [(.str [108,97,116,105,110])] 0)),
   ((key 5493),(.cells [(.str [108,97,116,105,110])] 0)),
   ((key 5492),(.cells [(.str [108,97,116,105,110])] 0)),
   ((key 5495),(.cells [(.str [97,110,110,97]),(.str []),(.str []),(kI 0),(kI 1),(.str []),(.bool true),(.bool false),(kS 5492 1 1 1),(.str [98,111,114,105,115]),(.str []),(.str []),(kI 0),(kI 1),(.str []),(.bool false),(.bool false),(kS 5493 1 1 1),(.str [99,97,114,108]),(.str []),(.str []),(kI 0),(kI 2),(.str []),(.bool false),(.bool true),(kS 5494 1 1 1),(.str [100,111,114,97]),(.str []),(.str []),(kI 0),(kI 0),(.str []),(.bool false),(.bool false),.af] 0)),
   ((key 5490),(.cells [(kI 1)] 0)),
   ((key 5491),(.cells [(.str [114]),(kU 1),(kI 6),(kI 0),(kS 5490 1 1 1),(kI 0),(kI 0),(.str [119]),(kU 4),(kI 2),(kI 0),.af,(kI 0),(kI 0)] 0))],
 (.tuple [(.ptr (key 5684) 0),(kI 0),(kI 0)]),(key 9897),
 [((key 5491),(.cells [(.str [114]),(kU 1),(kI 6),(kI 0),(kS 5490 1 1 1),(kI 0),(kI 0),(.str [119]),(kU 4),(kI 2),(kI 0),.af,(kI 0),(kI 0)] 0)),
   ((key 5490),(.cells [(kI 1)] 0)),
   ((key 5495),(.cells [(.str [97,110,110,97]),(.str []),(.str []),(kI 0),(kI 1),(.str []),(.bool true),(.bool false),(kS 5492 1 1 1),(.str [98,111,114,105,115]),(.str []),(.str []),(kI 0),(kI 1),(.str []),(.bool false),(.bool false),(kS 5493 1 1 1),(.str [99,97,114,108]),(.str []),(.str []),(kI 0),(kI 2),(.str []),(.bool false),(.bool true),(kS 5494 1 1 1),(.str [100,111,114,97]),(.str []),(.str []),(kI 0),(kI 0),(.str []),(.bool false),(.bool false),.af] 0)),
   ((key 5492),(.cells [(.str [108,97,116,105,110])] 0)),
   ((key 5493),(.cells [(.str [108,97,116,105,110])] 0)),
   ((key 5494),(.cells [(.str [108,97,116,105,110])] 0)),
   ((key 5496),(.cells [(.str [97,110,110,97]),(.str [98,111,114,105,115]),(kU 2)] 0)),
   ((key 5497),(.cells [(kI 0),(kI 1),(kI 1),(kI 2)] 0)),
   ((key 5488),(.cells [(kU 14),(kI 0),(.str []),(.str []),(.str [114]),(kI 0),(kU 11),(kI 0),(.str []),(.str []),(.str [114]),(kI 0),(kU 9),(kI 1),(.str []),(.str []),(.str []),(kI 0),(kU 15),(kI 10),(.str []),(.str []),(.str [119]),(kI 2),(kU 15),(kI 100),(.str []),(.str []),(.str []),(kI 4)] 0)),
   ((key 9892),(.cells [(kU 0),(kU 0),(kU 0),(kU 0)] 0)),
   ((key 9813),(.cells [(kU 0),(kU 0),(kU 0),(kU 0)] 0)),
   ((key 9726),(.cells [(kU 2),(kU 0),(kU 0),(kU 0)] 0)),
   ((key 9637),(.cells [(kU 0),(kU 2),(kU 0),(kU 0)] 0)),
   ((key 9896),(.cells [(kN 9637 4 1),(kN 9726 4 1),(kN 9813 4 1),(kN 9892 4 1)] 0)),
   ((key 9886),(.cells [(.bool false),(.bool false),(.bool false),(.bool false)] 0)),
   ((key 9807),(.cells [(.bool true),(.bool true),(.bool true),(.bool false)] 0)),
   ((key 9720),(.cells [(.bool true),(.bool true),(.bool true),(.bool false)] 0)),
   ((key 9631),(.cells [(.bool true),(.bool true),(.bool true),(.bool false)] 0)),
   ((key 9894),(.cells [(kN 9631 4 1),(kN 9720 4 1),(kN 9807 4 1),(kN 9886 4 1)] 0)),
   ((key 9499),(.map [((kI 7),(kI 0),0),((kI 6),(kI 1),1)] 2)),
   ((key 9491),(.map [((kI 6),(kI 0),0),((kI 7),(kI 1),1)] 2)),
   ((key 9471),(.map [((kI 5),(kI 0),0),((kI 0),(kI 1),1),((kI 4),(kI 1),2),((kI 2),(kI 1),3),((kI 1),(kI 2),4),((kI 3),(kI 2),5)] 6)),
   ((key 9451),(.map [((kI 4),(kI 0),0),((kI 3),(kI 1),1),((kI 5),(kI 1),2),((kI 1),(kI 1),3),((kI 2),(kI 2),4),((kI 0),(kI 2),5)] 6)),
   ((key 9431),(.map [((kI 3),(kI 0),0),((kI 2),(kI 1),1),((kI 4),(kI 1),2),((kI 0),(kI 1),3),((kI 1),(kI 2),4),((kI 5),(kI 2),5)] 6)),
   ((key 9411),(.map [((kI 2),(kI 0),0),((kI 1),(kI 1),1),((kI 3),(kI 1),2),((kI 5),(kI 1),3),((kI 0),(kI 2),4),((kI 4),(kI 2),5)] 6)),
   ((key 9391),(.map [((kI 1),(kI 0),0),((kI 0),(kI 1),1),((kI 2),(kI 1),2),((kI 4),(kI 1),3),((kI 5),(kI 2),4),((kI 3),(kI 2),5)] 6)),
   ((key 9371),(.map [((kI 0),(kI 0),0),((kI 1),(kI 1),1),((kI 5),(kI 1),2),((kI 3),(kI 1),3),((kI 2),(kI 2),4),((kI 4),(kI 2),5)] 6)),
   ((key 9506),(.cells [(.map (key 9371)),(.map (key 9391)),(.map (key 9411)),(.map (key 9431)),(.map (key 9451)),(.map (key 9471)),(.map (key 9491)),(.map (key 9499))] 0)),
   ((key 8757),(.cells [(kI 2)] 0)),
   ((key 8196),(.cells [(kI 1)] 0)),
   ((key 7635),(.cells [(kI 0)] 0)),
   ((key 7284),(.cells [(kI 5)] 0)),
   ((key 6723),(.cells [(kI 4)] 0)),
   ((key 6162),(.cells [(kI 3)] 0)),
   ((key 9369),(.cells [(kN 6162 1 1),(kN 6723 1 1),(kN 7284 1 1),(kN 7635 1 1),(kN 8196 1 1),(kN 8757 1 1),.af,.af] 0)),
   ((key 9236),(.cells [(kI 6)] 0)),
   ((key 9041),(.cells [(kI 7)] 0)),
   ((key 8613),(.cells [(kI 0),(kI 4)] 0)),
   ((key 8122),(.cells [(kI 3),(kI 5)] 0)),
   ((key 7561),(.cells [(kI 2),(kI 4)] 0)),
   ((key 7000),(.cells [(kI 1),(kI 3)] 0)),
   ((key 6439),(.cells [(kI 0),(kI 2)] 0)),
   ((key 6018),(.cells [(kI 1),(kI 5)] 0)),
   ((key 9281),(.cells [(kN 6018 2 1),(kN 6439 2 1),(kN 7000 2 1),(kN 7561 2 1),(kN 8122 2 1),(kN 8613 2 1),(kN 9041 1 1),(kN 9236 1 1)] 0)),
   ((key 9191),(.cells [(.bool false),(.bool true),(.bool false),(.bool false),(.bool false),(.bool false),(.bool false),(.bool false)] 0)),
   ((key 9170),(.cells [(kI 0),(kI 1),(kI 2),(kI 1),(kI 2),(kI 1),(kI 1),(kI 0)] 0)),
   ((key 9134),(.cells [(kI 0),(kI 0),(kI 0),(kI 0),(kI 0),(kI 0),(kI 1),(kI 1)] 0)),
   ((key 5683),(.map [((kU 1),(.agg [(.str [97,112,97,114,116]),(kU 103),(.bool true),(kU 0),(.bool true),(kI 0),(.bool false),(.func 90 [] [])]),0),((kU 2),(.agg [(.str [98,101,115,105,100,101]),(kU 103),(.bool true),(kU 0),(.bool false),(kI 0),(.bool false),(.func 91 [] [])]),1),((kU 3),(.agg [(.str [97,99,114,111,115,115]),(kU 103),(.bool true),(kU 0),(.bool false),(kI 0),(.bool false),(.func 92 [] [])]),2),((kU 4),(.agg [(.str [110,101,97,114]),(kU 103),(.bool true),(kU 0),(.bool true),(kI 1),(.bool false),(.func 93 [] [])]),3),((kU 5),(.agg [(.str [116,111,103,101,116,104,101,114]),(kU 103),(.bool true),(kU 0),(.bool false),(kI 0),(.bool false),(.func 94 [] [])]),4),((kU 6),(.agg [(.str [97,116]),(kU 103),(.bool false),(kU 116),(.bool false),(kI 0),(.bool false),(.func 95 [] [])]),5),((kU 7),(.agg [(.str [115,101,97,116]),(kU 103),(.bool false),(kU 116),(.bool true),(kI 0),(.bool true),(.func 96 [] [])]),6),((kU 8),(.agg [(.str [97,108,116,101,114,110,97,116,101]),(kU 0),(.bool false),(kU 101),(.bool false),(kI 0),(.bool false),(.func 97 [] [])]),7),((kU 9),(.agg [(.str [104,111,115,116]),(kU 0),(.bool false),(kU 101),(.bool false),(kI 0),(.bool false),(.func 98 [] [])]),8),((kU 10),(.agg [(.str [114,101,97,99,104]),(kU 101),(.bool false),(kU 0),(.bool false),(kI 0),(.bool false),(.func 99 [] [])]),9),((kU 11),(.agg [(.str [115,112,101,97,107]),(kU 0),(.bool false),(kU 101),(.bool false),(kI 0),(.bool false),(.func 100 [] [])]),10),((kU 12),(.agg [(.str [112,101,97,99,101]),(kU 0),(.bool false),(kU 101),(.bool false),(kI 0),(.bool false),(.func 101 [] [])]),11),((kU 13),(.agg [(.str [99,111,109,112,97,110,121]),(kU 0),(.bool false),(kU 101),(.bool false),(kI 0),(.bool false),(.func 102 [] [])]),12),((kU 14),(.agg [(.str [104,111,110,111,117,114]),(kU 0),(.bool false),(kU 101),(.bool false),(kI 0),(.bool false),(.func 103 [] [])]),13),((kU 15),(.agg [(.str [102,105,108,108]),(kU 0),(.bool false),(kU 101),(.bool true),(kI 0),(.bool false),(.func 104 [] [])]),14),((kU 16),(.agg [(.str [108,105,109,105,116]),(kU 0),(.bool false),(kU 101),(.bool true),(kI 0),(.bool false),(.func 105 [] [])]),15),((kU 17),(.agg [(.str [107,105,116,99,104,101,110]),(kU 100),(.bool false),(kU 116),(.bool false),(kI 0),(.bool false),(.func 106 [] [])]),16),((kU 18),(.agg [(.str [109,105,120]),(kU 0),(.bool false),(kU 101),(.bool false),(kI 0),(.bool false),(.func 107 [] [])]),17)] 18)),
   ((key 5682),(.cells [(kU 14),(kI 0),(.str []),(.str []),(.str [114]),(kI 0),(kU 11),(kI 0),(.str []),(.str []),(.str [114]),(kI 0),(kU 9),(kI 1),(.str []),(.str []),(.str []),(kI 0),(kU 15),(kI 10),(.str []),(.str []),(.str [119]),(kI 2),(kU 15),(kI 100),(.str []),(.str []),(.str []),(kI 4)] 0)),
   ((key 5680),(.cells [(kI 0),(kI 1),(kI 1),(kI 2)] 0)),
   ((key 5678),(.cells [(.str [97,110,110,97]),(.str [98,111,114,105,115]),(kU 2)] 0)),
   ((key 5676),(.cells [(.str [108,97,116,105,110])] 0)),
   ((key 5674),(.cells [(.str [108,97,116,105,110])] 0)),
   ((key 5672),(.cells [(.str [108,97,116,105,110])] 0)),
   ((key 5670),(.cells [(.str [97,110,110,97]),(.str []),(.str []),(kI 0),(kI 1),(.str []),(.bool true),(.bool false),(kN 5672 1 1),(.str [98,111,114,105,115]),(.str []),(.str []),(kI 0),(kI 1),(.str []),(.bool false),(.bool false),(kN 5674 1 1),(.str [99,97,114,108]),(.str []),(.str []),(kI 0),(kI 2),(.str []),(.bool false),(.bool true),(kN 5676 1 1),(.str [100,111,114,97]),(.str []),(.str []),(kI 0),(kI 0),(.str []),(.bool false),(.bool false),.af] 0)),
   ((key 5668),(.cells [(kI 1)] 0)),
   ((key 5666),(.cells [(.str [114]),(kU 1),(kI 6),(kI 0),(kN 5668 1 1),(kI 0),(kI 0),(.str [119]),(kU 4),(kI 2),(kI 0),.af,(kI 0),(kI 0)] 0)),
   ((key 5684),(.cells [(kN 5666 2 7),(kN 5670 4 9),(kN 5678 1 3),(kN 5680 4 1),(kN 5682 5 6),(.map (key 5683)),(kN 9134 8 1),(kN 9170 8 1),(kN 9191 8 1),(kN 9281 8 1),(kN 9369 8 1),(kN 9506 8 1),(kN 9894 4 1),(kN 9896 4 1)] 0))]⟩
theorem avb:ab7 Zd arS gg 100000 60 18=true:=by kernel_rfl
theorem aur:ab6 Zd.L0 Zd.L1=true:=by kernel_rfl
end
end Go.Proofs.YtgihekklfnjkiaaGreatDoor
namespace Go.Proofs
section
set_option maxRecDepth 1000000
open Go Go.RowKit Go.Shelf Go.Ai Go.Proofs.YtgihekklfnjkiaaGreatDoor
def ay.BV(t:List Nat):ByteArray:=⟨(t.map UInt8.ofNat).toArray⟩
theorem ay.Cr{t:List Nat}{bs:ByteArray}(h:bs.data.toList.map UInt8.toNat=t):bs=ay.BV t:=by
 unfold ay.BV;rw[am7 h]
structure ay.RR where
 k:Nat
 wt:Int
 a:ByteArray
 b:ByteArray
 t:ByteArray
 n:Int
def ay.RR.val(r:ay.RR):Value:= .agg #[.int .u8 r.k,.int .i64 r.wt,.string r.a,.string r.b,.string r.t,.int .i64 r.n]
def ay.valOf:Int ⊕ ay.RR->Value
 | .inl e=> .tuple #[.agg #[.int .u8 0,.int .i64 0,.string ⟨#[]⟩,.string ⟨#[]⟩,.string ⟨#[]⟩,.int .i64 0],.int .i64 e]
 | .inr r=> .tuple #[r.val,.int .i64 0]
def ay.dec:AV->Option (Int ⊕ ay.RR)
 |  .tuple [.agg [.int .u8 (.ofNat k),.int .i64 wt,.str a,.str b,.str t,.int .i64 n],.int .i64 (.ofNat e)]=>match e with
    |0=>some (.inr ⟨k,wt,ay.BV a,ay.BV b,ay.BV t,n⟩)
    |e+1=>match k,wt,a,b,t,n,Nat.blt e 100 with
     |0,.ofNat 0,[],[],[],.ofNat 0,true=>some (.inl ((e+1:Nat):Int))
     |_,_,_,_,_,_,_=>none
 |_=>none
theorem ay.ato{v:AV}{r:Int ⊕ ay.RR}(h:ay.dec v=some r){ρ:Pos->Go.Ai.Loc}{n:Nat}{C:Cells}{y:Value}(hv:aD ρ n C v y):y=ay.valOf r:=by
 unfold ay.dec at h;split at h<;>first|(cases h;done)|skip
 obtain⟨cs,rfl,hw⟩:=hv.VV;obtain⟨x,xs,h1,hx,hw⟩:=hw.cons_inv;obtain⟨y,ys,rfl,hy,hw⟩:=hw.cons_inv;have:=hw.qx;subst this;have fC:cs= #[x,y]:=by apply Zl9;simpa using h1
 subst fC;obtain⟨ds,rfl,hz⟩:=hx.FQ;obtain⟨x1,xs,g1,hx1,hz⟩:=hz.cons_inv;obtain⟨x2,xs,rfl,ZQ,hz⟩:=hz.cons_inv;obtain⟨x3,xs,rfl,hx3,hz⟩:=hz.cons_inv;obtain⟨x4,xs,rfl,hx4,hz⟩:=hz.cons_inv;obtain⟨x5,xs,rfl,hx5,hz⟩:=hz.cons_inv;obtain⟨x6,xs,rfl,hx6,hz⟩:=hz.cons_inv;have:=hz.qx;subst this;have Qb:ds= #[x1,x2,x3,x4,x5,x6]:=by apply Zl9;simpa using g1
 subst Qb;have:=hx1.iM;subst this;have:=ZQ.iM;subst this;obtain⟨a,rfl,ha⟩:=hx3.fu;obtain⟨b,rfl,hb⟩:=hx4.fu;obtain⟨t,rfl,ht⟩:=hx5.fu;have:=hx6.iM;subst this;have:=hy.iM;subst this;split at h
 . cases h;rw[<-ay.Cr ha, <-ay.Cr hb, <-ay.Cr ht];rfl
 . (split at h<;>first|(cases h;done)|skip);cases h;rw[ay.Cr ha,ay.Cr hb,ay.Cr ht];rfl
theorem ay.atp{v:AV}{e:Int}(h:ay.dec v=some (.inl e)):1<=e/\e<=100:=by
 unfold ay.dec at h;split at h<;>first|(cases h;done)|skip
 split at h<;>first|(cases h;done)|skip
 split at h<;>first|(cases h;done)|skip
 rename_i aV;cases h;have:=Zb2 aV;omega
noncomputable def ay.aq9:eV:=vW [(157,aga Tryz.prog tt (vW []) gg 100000 60 Tryz.f157),(231,idxS),(250,alg)]
@[irreducible] noncomputable def ay.agp(x:ByteArray):Option (Int ⊕ ay.RR):=NH none ay.aq9 gg 100000 60 84 [.str (x.data.toList.map UInt8.toNat)] { heap:= .e,next:= .h } λv _=>ay.dec v
noncomputable def ay.okL(x:ByteArray):Bool:=(ay.agp x).isSome
@[irreducible] noncomputable def ay.wY(x:ByteArray):Int ⊕ ay.RR:=(ay.agp x).getD (.inl 1)
def ay.arT(x:ByteArray)(w:World)(e:Ending)(w':World):Prop:=e= .returned (ay.valOf (ay.wY x))/\Below w.heap.size w w'
theorem ay.ara{x:ByteArray}{e:Int}(hq:ay.okL x=true)(h:ay.wY x= .inl e):1<=e/\e<=100:=by
 unfold ay.wY at h;obtain⟨r,hr⟩:=Zm5.1 hq;rw[hr]at h;unfold ay.agp at hr;rw[FZ none ay.aq9 gg 100000 60]at hr;unfold uI at hr;split at hr<;>first|(cases hr;done)|skip
 subst h;exact ay.atp hr
theorem ay.line(x:ByteArray)(hq:ay.okL x=true)(w:World):Calls Tryz.prog 84 #[.string x] w (ay.arT x w):=by
 unfold ay.arT ay.wY;obtain⟨r,hr⟩:=Zm5.1 hq;rw[hr];unfold ay.agp at hr;rw[FZ none ay.aq9 gg 100000 60]at hr;unfold uI at hr;split at hr<;>first|(cases hr;done)|skip
 rename_i y hy;obtain⟨v,bw⟩:=y;have hm:Tryz.prog.follows .mixedOrders=true:=by kernel_rfl
 have h0:=yS (P:=Tryz.prog) (C:=λ_=>none) (l:=[]) (λx hx=>by simp at hx);have ho:=yS (P:=Tryz.prog) (C:=λ_=>none) (l:=[(157,aga Tryz.prog tt (vW []) gg 100000 60 Tryz.f157),(231,idxS),(250,alg)]) (λx hx=>by
  simp only[Za8,Zb7,Ze4]at hx;rcases hx with rfl|rfl|rfl
  . exact apy hm Ud h0.1 h0.2 Ue Tryz.func157 (by kernel_rfl)
  . exact apw (fn:=Tryz.f231) Tryz.func231 (by kernel_rfl) (by kernel_rfl) (by kernel_rfl) (by kernel_rfl)
  . exact apx (fn:=Tryz.f250) Tryz.func250 (by kernel_rfl) (by kernel_rfl) (by kernel_rfl) (by kernel_rfl))
 have hs:=Dq hm Ud ho.1 ho.2 Ue 100000 60 (λ_=>⟨0,0,0⟩) { heap:= .e,next:= .h } w 84 _ v bw [.string x] hy (Ho (λ_ _ h=>by cases h) (λ_ _ h=>by cases h)) (aL.nil.cons (.str _ x rfl));have dR:(callFunc 84 ([Value.string x]:List Value).toArray).run Tryz.prog w= .ok (.enter 84 #[.string x]) w:=enters_of Tryz.func84 (by kernel_rfl) rfl _ _;rw[dR]at hs;refine Calls.mono hs λe w' he=> ?_
 cases e with
 |returned z=>
  obtain⟨ρ',h1,_,_,_,hE⟩:=he;exact⟨congrArg Ending.returned (ay.ato hr h1),hE.os,hE.tape,hE.output,hE.size,λk hk=>hE.block k hk λb x hb=>by rw[T.dP]at hb;cases hb⟩
 |panicked c=>exact he.elim
 |outgrown=>exact he.elim
end
end Go.Proofs
namespace Go.ay
section
open Go Go.RowKit
def Is(w:World)(n:Nat)(T:TypeId)(cs:Array Value):Prop:=w.heap[n]? =some (.cells cs T (0,0))
section
variable{w w' : World}{n m o : Nat}{T : TypeId}{cs : Array Value}{v : Value}
theorem Is.cell(h:Is w n T cs)(o:Nat):w.cell? ⟨n,o,none⟩=cs[o]? :=by unfold Is at h;simp[World.cell?,h]
theorem Is.frozen(h:Is w n T cs)(o:Nat):w.frozen? ⟨n,o,none⟩=false:=by unfold Is at h;simp[World.frozen?,h]
theorem Is.lt(h:Is w n T cs):n<w.heap.size:=(Zd3.1 h).1
theorem Is.new(w:World)(T:TypeId)(cs:Array Value):Is (w.alloc (.cells cs T)) w.heap.size T cs:=by show(w.heap.push _)[w.heap.size]? =_;simp
theorem Is.alloc(h:Is w n T cs)(x:Obj):Is (w.alloc x) n T cs:=by
 have:=h.lt;unfold Is at h ⊢;rw[<-h];show(w.heap.push _)[n]? =_;simp[Zp1,Nat.ne_of_lt this]
theorem Is.drew(h:Is w n T cs):Is w.drew n T cs:=h
theorem Is.set(h:Is w n T cs)(o:Nat)(v:Value):Is (w.setCell ⟨n,o,none⟩ v) n T (cs.setIfInBounds o v):=by
 have:=h.lt;unfold Is at h ⊢;have hm:=Zd3.1 h;simp[World.setCell,Zk6,h]
theorem Is.other(h:Is w n T cs)(cZ:m≠n)(o:Nat)(v:Value):Is (w.setCell ⟨m,o,none⟩ v) n T cs:=by
 unfold Is at h ⊢;rw[<-h];simp[World.setCell,Zk6,cZ]
theorem Is.below{B:Nat}(h:Is w n T cs)(hb:Below B w w')(hn:n<B):Is w' n T cs:=by unfold Is at h ⊢; rw[hb.block n hn];exact h
theorem Is.of_heap(h:Is w n T cs)(e:w'.heap[n]? =w.heap[n]?):Is w' n T cs:=by unfold Is at h ⊢; rw[e];exact h
theorem Is.cast{nh:Array Value}(h:Is w n T cs)(e:cs=nh):Is w n T nh:=e ▸h
theorem Is.one{a:Value}(h:Is w n T #[a]):w.cell? ⟨n,0,none⟩=some a:=h.cell 0
theorem heap_alloc(w:World)(x:Obj)(hn:n<w.heap.size):(w.alloc x).heap[n]? =w.heap[n]? :=by show(w.heap.push _)[n]? =_;simp[Zp1,Nat.ne_of_lt hn]
theorem ajI(cZ:m≠n)(o:Nat)(v:Value):(w.setCell ⟨m,o,none⟩ v).heap[n]? =w.heap[n]? :=by simp[World.setCell,Zk6,cZ]
end
end
end Go.ay
namespace Go.Proofs
section
open Go.Shelf
def Tryz.ajJ:Go.Shelf.Ren:=⟨λ|137=>153|217=>198|266=>231|n=>n,λ|9=>9|5=>5|3=>3|n=>n,λ|n=>n⟩
theorem Tryz.atq:Go.Proofs.Lays.n137 Tryz.prog Tryz.ajJ:={
 mixed:=by kernel_rfl
 f137:=Tryz.func153.trans (congrArg some (by kernel_rfl))
 f217:=Tryz.func198.trans (congrArg some (by kernel_rfl))
 f266:=Tryz.func231.trans (congrArg some (by kernel_rfl))
 t3:=Tryz.underlying3
 a3:=Tryz.isAgg3
 z3:=Tryz.sizeOf3
 v3:=Tryz.zeroValue3
 t5:=Tryz.underlying5
 a5:=Tryz.isAgg5
 z5:=Tryz.sizeOf5
 v5:=Tryz.zeroValue5
 t9:=Tryz.underlying9
 a9:=Tryz.isAgg9
 z9:=Tryz.sizeOf9
 v9:=Tryz.zeroValue9 }
open Go.RowKit in
theorem Tryz.strings_IndexByte(s:ByteArray)(c:Int)(w:World):
 Calls Tryz.prog 153 #[.string s,.int .u8 c] w λe w'=>e= .returned (.int .i64 (Lib.indexByte s.data.toList c.toNat.toUInt8))/\w'=w:=Any.strings_IndexByte Tryz.atq s c w
open Go.RowKit Go.Lib in
def Tryz.aiZ:Go.Shelf.Ren:=⟨λ|219=>251|217=>198|225=>254|224=>255|267=>256|266=>231|314=>257|n=>n,λ|9=>9|3=>3|4=>4|5=>5|46=>139|146=>223|51=>102|n=>n,λ|1=>0|n=>n⟩
theorem Tryz.arb:Go.Proofs.LaysM.n219 Tryz.prog Tryz.aiZ:={
 mixed:=by kernel_rfl
 f217:=Tryz.func198.trans (congrArg some (by kernel_rfl))
 f219:=Tryz.func251.trans (congrArg some (by kernel_rfl))
 f224:=Tryz.func255.trans (congrArg some (by kernel_rfl))
 f225:=Tryz.func254.trans (congrArg some (by kernel_rfl))
 f266:=Tryz.func231.trans (congrArg some (by kernel_rfl))
 f267:=Tryz.func256.trans (congrArg some (by kernel_rfl))
 f314:=Tryz.func257.trans (congrArg some (by kernel_rfl))
 t3:=Tryz.underlying3
 a3:=Tryz.isAgg3
 z3:=Tryz.sizeOf3
 v3:=Tryz.zeroValue3
 t4:=Tryz.underlying4
 a4:=Tryz.isAgg4
 z4:=Tryz.sizeOf4
 v4:=Tryz.zeroValue4
 t5:=Tryz.underlying5
 a5:=Tryz.isAgg5
 z5:=Tryz.sizeOf5
 v5:=Tryz.zeroValue5
 t9:=Tryz.underlying9
 a9:=Tryz.isAgg9
 z9:=Tryz.sizeOf9
 v9:=Tryz.zeroValue9
 t46:=Tryz.underlying139
 a46:=Tryz.isAgg139
 z46:=Tryz.sizeOf139
 v46:=Tryz.zeroValue139
 t51:=Tryz.underlying102
 a51:=Tryz.isAgg102
 z51:=Tryz.sizeOf102
 v51:=Tryz.zeroValue102
 t146:=Tryz.underlying223
 a146:=Tryz.isAgg223
 z146:=Tryz.sizeOf223
 v146:=Tryz.zeroValue223
 g1:=by kernel_rfl
 i3:=by kernel_rfl
 i4:=by kernel_rfl
 i5:=by kernel_rfl
 i9:=by kernel_rfl
 i46:=by kernel_rfl
 i51:=by kernel_rfl
 i146:=by kernel_rfl
 m1:=by kernel_rfl
 s1_3:=λw h=>Go.Proofs.cell_of_shapedOpen_int (zero:= #[.int .i64 0]) (t:=3) h (Zg9 (by kernel_rfl)) (by kernel_rfl) rfl (by kernel_rfl) (by kernel_rfl) Tryz.underlying3 }
end
end Go.Proofs
namespace Go.ay
section
open Go Go.RowKit
variable{F : Fence}{n : Nat}{P : Program}
structure Vb(b:Nat)(W W':World):Prop where
 cell:W'.cell? ⟨b,0,none⟩=W.cell? ⟨b,0,none⟩
 eD:W'.frozen? ⟨b,0,none⟩=W.frozen? ⟨b,0,none⟩
theorem Vb.trans{b:Nat}{A B C:World}(h:Vb b A B)(k:Vb b B C):Vb b A C:=⟨k.cell.trans h.cell,k.eD.trans h.eD⟩
theorem Vb.putObj{b l:Nat}{W:World}(o:Obj)(h:b≠l):Vb b W (W.putObj l o):=by
 have:(W.putObj l o).heap[b]? =W.heap[b]? :=World.putObj_heap_other h;exact⟨by simp[World.cell?,this],by simp[World.frozen?,this]⟩
def Fc(b:Nat){β:Type}(J:β->World->Prop):Prop:=∀s W v,J s W->J s (W.setCell ⟨b,0,none⟩ v)
def SeqC{α:Type}(F:Fence)(n:Nat)(P:Program)(g b:Nat)(lb:Array Value)(encs:α->Array Value)(xs:List α)(w:World):Prop:=
 ∀  (l:Nat)(J Jx:List α->World->Prop)(W:World),Below w.heap.size w W->AbidesFrom W.heap.size J->AbidesFrom W.heap.size Jx->Fc b J->Fc b Jx->
    (∀pre x W1,J pre W1->pre++[x] <+: xs->YieldAt F (n - 1) P l (encs x) W1 λe W'=>
     (e= .returned (.bool true)/\J (pre++[x]) W'/\Vb b W1 W')\/(e= .returned (.bool false)/\Jx (pre++[x]) W'))->
    J [] W->
    CallsIn F n P g (#[.func (.yield l) #[] #[]]++lb) W λe W'=>(∃v,e= .returned v)/\(J xs W'\/∃pre,pre <+: xs/\Jx pre W')
def aoN{α:Type}(b B:Nat)(I:List α->World->Prop)(Ix:List α->World->Prop)(xs:List α)(W:World):Exit->Act->World->Prop
 | .normal,_,W'=>KeepsFrom B W W'/\Vb b W W'/\I xs W'
 | .ret,_,W'=>KeepsFrom B W W'/\Ix xs W'
 |_,_,_=>False
theorem ajK{α:Type}{g:Operand}{ps:Array Tmp}{assign body:Code}{Q:Exit->Act->World->Prop}{a:Act}{w:World}
   (Z3:F.round=none) (h1:1<=n) {gf b:Nat} {lb:Array Value} (hg:a.eval g= .func (.func gf) #[] lb) (hFg:F.fn gf) (eg:∀args w,(callFunc gf args).run P w= .ok (.enter gf args) w)
   {encs:α->Array Value} {xs:List α} (hseq:SeqC F (n - 1) P gf b lb encs xs w) (hbw:b<w.heap.size) (hps:∀x,(encs x).size=ps.size)
   (I:List α->World->Prop) (Ix:List α->World->Prop) (hI:OwnFrom w.heap.size I) (hIx:OwnFrom w.heap.size Ix) (hIs:Fc b I) (hIxs:Fc b Ix) (h0:I [] w) (a₁:α->Act)
   (atr:∀(l:Nat)(x:α)(W:World)(K:Act->World->Prop),K (a₁ x) W->
     assign.wpIn (F.inRound l) (n - 1 - 1) P (Exit.then K (λ_ _ _=>False)) { tmps:=(ps.zip (encs x)).foldl (λt (p,v)=>t.setIfInBounds p v) a.tmps,defers:=[] } W)
   (alh:∀(l:Nat)(pre:List α)(x:α)(W:World),I pre W->pre++[x] <+: xs->w.heap.size<=W.heap.size->body.wpIn (F.inRound l) (n - 1 - 1) P (aoN b w.heap.size I Ix (pre++[x]) W) (a₁ x) W)
   (alf:∀(D:Nat)(W:World),w.heap.size<=D->I xs W->W.heap[D]? =some (.deferred (some []))->Q .normal { a with defers:={ target:= .collected D,args:= #[] }::a.defers } W)
   (avc:∀(D:Nat)(pre:List α)(W:World),w.heap.size<=D->pre <+: xs->Ix pre W->W.heap[D]? =some (.deferred (some []))->Code.ret.wpIn F n P Q { a with defers:={ target:= .collected D,args:= #[] }::a.defers } W):
   (Code.rangeFunc g ps assign body).wpIn F n P Q a w:=by
 refine wpIn_rangeFunc λfn Hj=> ?_
 rw[Z3]
 let abF:LoopState->Option Code->Loop:=λst pe=>{ state:=st,pending:=pe,fn,tmps:=a.tmps,params:=ps,assign,body,defers:=w.heap.size }
 let L:Nat:=w.heap.size+1
 let W1:World:=(w.alloc (.deferred (some []))).alloc (.loop (abF .ready none))
 have hL1:W1.heap[L]? =some (.loop (abF .ready none)):=by have:=World.alloc_heap_new (w.alloc (.deferred (some []))) (.loop (abF .ready none));rwa [World.size_alloc]at this
 have hK1:W1.heap[w.heap.size]? =some (.deferred (some [])):=(Below.heap_alloc _ _ _ (by simp)).trans (World.alloc_heap_new w _);have hWs:W1.heap.size=w.heap.size+1+1:=by show((w.alloc _).alloc _).heap.size=_;simp
 have jy:Below w.heap.size w W1:=((Below.refl _ w).alloc (Za3 _) _).alloc (by simp) _
 let J:List α->World->Prop:=λpre W=>I pre W/\W.heap[L]? =some (.loop (abF .ready none))/\W.heap[w.heap.size]? =some (.deferred (some []))/\w.heap.size<=W.heap.size
 let Jx:List α->World->Prop:=λpre W=>Ix pre W/\W.heap[L]? =some (.loop (abF .done (some .ret)))/\W.heap[w.heap.size]? =some (.deferred (some []))/\w.heap.size<=W.heap.size
 have up:∀{A:World}{row:Option Nat},(∀r,row=some r->W1.heap.size<=r/\∃o:Obj,A.heap[r]? =some o/\o.isWalk=true)->∀r,row=some r->w.heap.size<=r/\∃o:Obj,A.heap[r]? =some o/\o.isCells=false:=
   λhr r e=>by obtain⟨q,o,ho,hw⟩:=hr r e;exact⟨by omega,o,ho,Obj.not_cells_of_walk hw⟩
 have hJ:AbidesFrom W1.heap.size J:=λs A B row hs Dh hr=>
   ⟨hI s A B row hs.1 Dh (up hr),(grownBy_keeps Dh (λr e=>(hr r e).2) hs.2.1 rfl).trans hs.2.1,(grownBy_keeps Dh (λr e=>(hr r e).2) hs.2.2.1 rfl).trans hs.2.2.1,Zb0 hs.2.2.2 Dh.size⟩
 have hJx:AbidesFrom W1.heap.size Jx:=λs A B row hs Dh hr=>
   ⟨hIx s A B row hs.1 Dh (up hr),(grownBy_keeps Dh (λr e=>(hr r e).2) hs.2.1 rfl).trans hs.2.1,(grownBy_keeps Dh (λr e=>(hr r e).2) hs.2.2.1 rfl).trans hs.2.2.1,Zb0 hs.2.2.2 Dh.size⟩
 have IG:∀(W:World)(v:Value)(k:Nat),w.heap.size<=k->(W.setCell ⟨b,0,none⟩ v).heap[k]? =W.heap[k]? :=λW v k hk=>Below.heap_setCell W _ v k (by show k≠b;omega)
 have hJs:Fc b J:=λs W v hs=>⟨hIs s W v hs.1,(IG _ _ _ (by show w.heap.size<=w.heap.size+1;omega)).trans hs.2.1,(IG _ _ _ (Za3 _)).trans hs.2.2.1,by rw[World.size_setCell];exact hs.2.2.2⟩
 have hJxs:Fc b Jx:=λs W v hs=>⟨hIxs s W v hs.1,(IG _ _ _ (by show w.heap.size<=w.heap.size+1;omega)).trans hs.2.1,(IG _ _ _ (Za3 _)).trans hs.2.2.1,by rw[World.size_setCell];exact hs.2.2.2⟩
 refine⟨L,[{ target:= .collected w.heap.size,args:= #[] }],W1,{ target:= .fn (.func gf) lb,args:= #[.func (.yield L) #[] #[]] },W1,gf, #[.func (.yield L) #[] #[]]++lb,W1,run_enterLoop_outer _ _ _ _ _,?_,?_,?_,λ_=>h1,?_⟩
 . simp only[resolve,hg];simp[go_sem]
 . intro f' hf';simp[Target.leads]at hf';subst hf';exact hFg
 . simp[invoke,go_sem,eg]
 refine(hseq L J Jx W1 jy hJ hJx hJs hJxs ?_ ⟨hI.alloc _ (hI.alloc _ h0),hL1,hK1,by omega⟩).mono ?_
 ·
   rintro pre x W ⟨hi,hl,hk,gU⟩ abG;have aV:L<W.heap.size:=(Zd3.1 hl).1;refine⟨fn,_,assign,body,run_yield (P:=P) (args:=encs x) hl (hps x),roundIn_of_wpIn Hj (atr _ x W _ ⟨_,run_beginRound hl rfl,?_⟩)⟩;have hneL:b≠L:=by show b≠w.heap.size+1;omega
   let W2:World:=W.putObj L (.loop { abF .ready none with state:= .busy })
   have rI:W2.heap[L]? =some (.loop { abF .ready none with state:= .busy }):=World.putObj_heap_same aV;have uk:W2.heap[w.heap.size]? =some (.deferred (some [])):=(World.putObj_heap_other (by show w.heap.size≠w.heap.size+1;omega)).trans hk;have arc:w.heap.size<=W2.heap.size:=Zb0 gU (grownBy_putObj' W L _).size;refine wpIn_mono (alh L pre x W2 (hI.putObj _ hi (by show w.heap.size<=w.heap.size+1;omega) hl rfl) abG arc) ?_;rintro e a3 W3 hp;cases e with
   | normal=>
     obtain⟨DT,hkp3,hi3⟩:=hp;have hl3:=DT.same _ _ (by show w.heap.size<=w.heap.size+1;omega) rI rfl;have ard:=(Zd3.1 hl3).1;exact⟨_,_,run_endRound (P:=P) none hl3,.inl ⟨rfl,⟨hI.putObj _ hi3 (by show w.heap.size<=w.heap.size+1;omega) hl3 rfl,World.putObj_heap_same ard,(World.putObj_heap_other (by show w.heap.size≠w.heap.size+1;omega)).trans (DT.same _ _ (Za3 _) uk rfl),Zb0 (Zb0 arc DT.size) (grownBy_putObj' W3 L _).size⟩,
        ((Vb.putObj _ hneL).trans hkp3).trans (Vb.putObj _ hneL)⟩⟩
   | ret=>
     obtain⟨DT,hi3⟩:=hp;have hl3:=DT.same _ _ (by show w.heap.size<=w.heap.size+1;omega) rI rfl;have ard:=(Zd3.1 hl3).1;exact⟨_,_,run_endRound (P:=P) (some .ret) hl3,.inr ⟨rfl,hIx.putObj _ hi3 (by show w.heap.size<=w.heap.size+1;omega) hl3 rfl,World.putObj_heap_same ard,(World.putObj_heap_other (by show w.heap.size≠w.heap.size+1;omega)).trans (DT.same _ _ (Za3 _) uk rfl),Zb0 (Zb0 arc DT.size) (grownBy_putObj' W3 L _).size⟩⟩
   |exit id=>exact hp.elim
   |goto t=>exact hp.elim
   |panic ch=>exact hp.elim
   |outgrown=>exact hp.elim
 ·
   rintro e W2 ⟨⟨v,rfl⟩,(⟨hi,hl,hk,_⟩|⟨pre,abG,hi,hl,hk,_⟩)⟩
   . exact⟨none,_,run_endLoop (P:=P) hl (by show LoopState.ready≠LoopState.busy;simp),alf _ _ (Za3 _) (hI.putObj _ hi (by show w.heap.size<=w.heap.size+1;omega) hl rfl) ((World.putObj_heap_other (by show w.heap.size≠w.heap.size+1;omega)).trans hk)⟩
   . exact⟨some .ret,_,run_endLoop (P:=P) hl (by show LoopState.done≠LoopState.busy;simp),avc _ pre _ (Za3 _) abG (hIx.putObj _ hi (by show w.heap.size<=w.heap.size+1;omega) hl rfl) ((World.putObj_heap_other (by show w.heap.size≠w.heap.size+1;omega)).trans hk)⟩
end
end Go.ay
section
namespace Go.ay
open Go
def yc(s:ByteArray):Int:=Lib.indexByte s.data.toList 10
def xB:Nat->ByteArray->List ByteArray
 |0,_=>[]
 |f+1,s=>if s.size=0 then []else if yc s<0 then [s]else s.extract 0 ((yc s).toNat+1)::xB f (s.extract ((yc s).toNat+1) s.size)
def gC(s:ByteArray):List ByteArray:=xB s.size s
theorem att(s:ByteArray): -1<=yc s:=Lib.indexByte_ge _ _
theorem atu(s:ByteArray)(h:0<=yc s):(yc s).toNat<s.size:=by
 have e:yc s=((yc s).toNat:Int):=by omega
 have:=(Lib.indexByte_some (l:=s.data.toList) (c:=10) (o:=(yc s).toNat) e).1;have:=(Za1.1 this).1;simpa using this
theorem aaG:∀(f g:Nat)(s:ByteArray),s.size<=f->s.size<=g->xB f s=xB g s
 |0,0,_,_,_=>rfl
 |0,g+1,s,h,_=>by
  have:s.size=0:=by omega
  simp[xB,this]
 |f+1,0,s,_,h=>by
  have:s.size=0:=by omega
  simp[xB,this]
 |f +1,g+1,s,h1,h2=>by
  unfold xB;split
  . rfl
  . split
    . rfl
    . rw[aaG f g _ (by simp;omega) (by simp;omega)]
theorem adh{s:ByteArray}(h:s.size=0):gC s=[]:=by unfold gC;rw[h];rfl
theorem ajL{s:ByteArray}(h:s.size≠0)(hi:yc s<0):gC s=[s]:=by
 unfold gC;obtain⟨k,hk⟩:∃k,s.size=k+1:=⟨s.size - 1,by omega⟩
 rw[hk];simp only[xB];rw[Za7 h,Zb3 hi]
theorem amB{s:ByteArray}(h:s.size≠0)(hi:0<=yc s):gC s=s.extract 0 ((yc s).toNat+1)::gC (s.extract ((yc s).toNat+1) s.size):=by
 unfold gC;obtain⟨k,hk⟩:∃k,s.size=k+1:=⟨s.size - 1,by omega⟩
 conv=>lhs;rw[hk]
 simp only[xB];rw[Za7 h,Za7 (by omega)];rw[aaG k _ _ (by simp;omega) (Za3 _)]
theorem aaH:∀(f:Nat)(s x:ByteArray),x∈xB f s->x.size<=s.size
 |0,_,_,h=>by simp[xB]at h
 |f +   1,s,x,h=>by
  unfold xB at h;split at h
  . simp at h
  . split at h
    .   simp at h;rw[h];exact Za3 _
    .   rcases Za8.1 h with rfl|h
        . simp;omega
        . have:=aaH f _ x h;simp at this;omega
theorem ajM(s x:ByteArray)(h:x∈gC s):x.size<=s.size:=aaH _ s x h
def ai0(w:World)(b:Nat):Nat:=match w.cell? ⟨b,0,none⟩with
 |some (.string r)=>r.size
 |_=>0
theorem OL{w:World}{b:Nat}{r:ByteArray}(h:w.cell? ⟨b,0,none⟩=some (.string r)):ai0 w b=r.size:=by unfold ai0;rw[h]
end Go.ay
namespace Go.Proofs
open Go.RowKit Go.Shelf Go.ay
attribute [local go_sem] Oper.semAt_some
theorem ay.grown_drewN(w:World)(k:Nat):w.grownBy (w.drewN k) none:=⟨rfl,rfl,rfl,Za3 _,λ_ _ _=>rfl⟩
theorem ay.arU(r:ByteArray)(w:World):Calls Tryz.prog 153 #[.string r,.int .u8 10] w λe w'=>e= .returned (.int .i64 (yc r))/\w=w':=(Tryz.strings_IndexByte r 10 w).mono λ_ _ h=>⟨h.1,h.2.symm⟩
set_option maxRecDepth 100000 in
set_option maxHeartbeats 2000000 in
theorem ay.atv(n:Nat)(l b:Nat)(s:ByteArray)(hs:s.size<=65536)(J Jx:List ByteArray->World->Prop)(W:World)(B0:Nat)(hJ:AbidesFrom B0 J)(hJx:AbidesFrom B0 Jx)(hJs:Fc b J)
  (hY:∀pre x W1,J pre W1->pre++[x] <+: gC s->YieldAt Fence.wide (n - 1) Tryz.prog l #[.string x] W1 λe W'=>
    (e= .returned (.bool true)/\J (pre++[x]) W'/\Vb b W1 W')\/(e= .returned (.bool false)/\Jx (pre++[x]) W'))
  (hn:1<=n) (hb:W.cell? ⟨b,0,none⟩=some (.string s)) (hf:W.frozen? ⟨b,0,none⟩=false) (h0:J [] W):
  CallsIn Fence.wide n Tryz.prog 152 #[.func (.yield l) #[] #[],.pointer (some ⟨b,0,none⟩)] W λe W'=>(∃v,e= .returned v)/\(J (gC s) W'\/∃pre,pre <+: gC s/\Jx pre W'):=by
 have HY:=Lib.hid hY;clear hY;refine callsIn_of_wp Tryz.func152 rfl trivial ?_ rfl;simp only[Tryz.ntmps152,Zn3,Zc9,Zi9,Nat.reduceAdd,Nat.reduceSub,Array.replicate_succ,Array.replicate_zero,List.push_toArray,List.append_toArray,Ze1,Zd7]
 gi_wp2
 gi_loopw [3] (λ_ wr=>∃(pre:List ByteArray) (r:ByteArray),wr.cell? ⟨b,0,none⟩=some (.string r)/\wr.frozen? ⟨b,0,none⟩=false/\gC s=pre++gC r/\r.size<=s.size/\J pre wr) (λ_ wr=>ai0 wr b)
 case atStart=>exact⟨[],s,hb,hf,rfl,Za3 _,h0⟩
 case round=>
  obtain⟨pre,r,hc,Ff,A7,hrs,hj⟩:=hrel;have HSP:=Lib.hid A7;have HJ0:=Lib.hid hj;clear A7 hj;by_cases hr0:r.size=0
  . gi_wp2
    go_end0
    refine⟨⟨_,rfl⟩,.inl ?_⟩;rw[HSP.out,adh hr0,Ze0];exact HJ0.out
  . have hr1:0<r.size:=(by omega);have hge:=att r;by_cases hi:yc r<0
    .   have HL:=Lib.hid (ajL hr0 hi);have hj1:=hJs _ _ (.string ⟨#[]⟩) HJ0.out;obtain⟨fn,tmps,assign,body,hy,hR⟩:=HY.out pre r _ hj1 (by rw[HSP.out,HL.out];exact List.prefix_refl _)
        gi_wp2_with (first|(refine⟨trivial,?_⟩;gi_at_call 153;refine(callsIn_wide.2 (ay.arU r _)).mono ?_;rintro e w' ⟨rfl,rfl⟩))
        refine hR.mono ?_;rintro e W3 (⟨rfl,hJ3,DT⟩|⟨rfl,arf⟩)
        . have hc3:W3.cell? ⟨b,0,none⟩=some (.string ⟨#[]⟩):=DT.cell.trans (World.cell?_setCell_same' _ _ _ (by rw[hc];rfl));have hf3:W3.frozen? ⟨b,0,none⟩=false:=DT.eD.trans (by rw[World.frozen?_setCell];exact Ff)
          gi_wp2
          go_roundw
          case rel=>exact⟨pre++[r],⟨#[]⟩,hc3,hf3,by rw[HSP.out,HL.out,adh (s:=⟨#[]⟩) rfl,Ze0],Zi8 _,hJ3⟩
          case measure=>rw[OL hc3,OL hc];exact hr1
        . gi_wp2
          refine bodyPost_ret (results_none rfl _ _ _) rfl ?_;exact⟨⟨_,rfl⟩,.inr ⟨pre++[r],by rw[HSP.out,HL.out];exact List.prefix_refl _,arf⟩⟩
    .   have aV:=atu r (by omega);obtain⟨i,hie⟩:∃i:Nat,yc r=i:=⟨(yc r).toNat,by omega⟩
        have HH:=Lib.hid (amB hr0 (by omega:0<=yc r));have HIX:=ay.arU r;rw[hie]at HIX;have HI:=Lib.hid HIX;clear HIX;have iH:i<r.size:=(by omega);have HIE:=Lib.hid hie;clear hie hge hi aV
        gi_wp2_with (first|(refine⟨trivial,?_⟩;gi_at_call 153;refine(callsIn_wide.2 (HI.out _)).mono ?_;rintro e w' ⟨rfl,rfl⟩))
        gi_region
        have hj1:J pre (wr.setCell ⟨b,0,none⟩ (.string (r.extract (i+1) r.size))).drew:=hJ _ _ _ none (hJs _ _ (.string (r.extract (i+1) r.size)) HJ0.out) (ay.grown_drewN _ 1) (λ_ e=>by cases e);obtain⟨fn,tmps,assign,body,hy,hR⟩:=HY.out pre (r.extract 0 (i+1)) _ hj1 (by
          rw[HSP.out,HH.out,HIE.out];exact⟨gC (r.extract (i+1) r.size),by simp⟩)
        gi_wp2
        refine hR.mono ?_;rintro e W3 (⟨rfl,hJ3,DT⟩|⟨rfl,arf⟩)
        . have hc3:W3.cell? ⟨b,0,none⟩=some (.string (r.extract (i+1) r.size)):=DT.cell.trans (World.cell?_setCell_same' _ _ _ (by rw[hc];rfl));have hf3:W3.frozen? ⟨b,0,none⟩=false:=DT.eD.trans (by show(wr.setCell _ _).frozen? _=false;rw[World.frozen?_setCell];exact Ff)
          gi_wp2
          go_roundw
          case rel=>exact⟨pre++[r.extract 0 (i+1)],r.extract (i+1) r.size,hc3,hf3,by rw[HSP.out,HH.out,HIE.out];simp,by simp;omega,hJ3⟩
          case measure=>rw[OL hc3,OL hc];simp;omega
        . gi_wp2
          refine bodyPost_ret (results_none rfl _ _ _) rfl ?_;exact⟨⟨_,rfl⟩,.inr ⟨pre++[r.extract 0 (i+1)],by rw[HSP.out,HH.out,HIE.out];exact⟨gC (r.extract (i+1) r.size),by simp⟩,arf⟩⟩
end Go.Proofs
end
namespace Go.Proofs
section
open Go.RowKit Go.Shelf Go.ay
attribute [local go_sem] Oper.semAt_some
def ay.RR.cells(r:ay.RR):List Value:=[.int .u8 r.k,.int .i64 r.wt,.string r.a,.string r.b,.string r.t,.int .i64 r.n]
def ay.cellsOf(rs:List ay.RR):List Value:=rs.flatMap ay.RR.cells
theorem ay.ai1(rs:List ay.RR)(r:ay.RR):ay.cellsOf (rs++[r])=ay.cellsOf rs++r.cells:=by simp[ay.cellsOf]
theorem ay.aer(rs:List ay.RR):(ay.cellsOf rs).length=rs.length*6:=by
 induction rs with
 |nil=>rfl
 |cons r rs ih=>simp[ay.cellsOf]at ih ⊢; rw[ih];simp[ay.RR.cells];omega
noncomputable def ay.Uf:List ay.RR->List ByteArray->Int×Nat×List ay.RR
 |acc,[]=>(0,0,acc)
 |acc,x::xs=>match ay.wY x with
  | .inl e=>(e,acc.length,[])
  | .inr r=>if acc.length=64 then(7,64,[])else ay.Uf (acc++[r]) xs
noncomputable def ay.tK(s:ByteArray):Int×Nat×List ay.RR:=if 65536<s.size then(7,0,[])else ay.Uf [] (gC s)
theorem ay.YE:∀(p:List ByteArray)(rs acc:List ay.RR)(ys:List ByteArray),p.map ay.wY=rs.map Sum.inr->(acc++rs).length<=64->ay.Uf acc (p++ys)=ay.Uf (acc++rs) ys
 |[],rs,acc,ys,h,_=>by
  cases rs with
  |nil=>simp
  |cons r rs=>simp at h
 |x::p,rs,acc,ys,h,hl=>by
  cases rs with
  |nil=>simp at h
  |cons r rs=>
   simp only[Zd2,Zf7]at h;simp only[Ze6,Zc9]at hl;rw[Zd7,ay.Uf,h.1];simp only;rw[Za7 (by omega),ay.YE p rs (acc++[r]) ys h.2 (by simp;omega)];simp
set_option maxRecDepth 100000 in
theorem ay.atw(s:ByteArray)(w:World):Calls Tryz.prog 83 #[.string s] w λe w'=>e= .returned (.func (.func 152) #[] #[.pointer (some ⟨w.heap.size,0,none⟩)])/\w'=w.alloc (.cells #[.string s] 9):=by
 go_enter Tryz.func83,Tryz.ntmps83
 go_wp2
 go_ret
 exact⟨rfl,rfl⟩
def ay.adi(w:World)(pre:List ByteArray)(W:World):Prop:=
 ∃  (rs:List ay.RR) (v:Value),pre.map ay.wY=rs.map Sum.inr/\rs.length<=64/\Is W w.heap.size 32 #[.slice none 0 0]/\Is W (w.heap.size+1) 3 #[.int .i64 0]/\Is W (w.heap.size+1+1) 47 #[.int .i64 0]/\
    Is W (w.heap.size+1+1+1) 32 #[v]/\W.ownsRow (w.heap.size+5) 40 6 v rs.length (ay.cellsOf rs)/\w.heap.size+5<=W.heap.size/\Below w.heap.size w W/\(rs=[]->v= .slice none 0 0)
def ay.adj(w:World)(s:ByteArray)(pre:List ByteArray)(W:World):Prop:=
 ∃(e:Int) (k:Nat),1<=e/\e<=100/\k<=64/\(∀ys,pre++ys=gC s->ay.Uf [] (gC s)=(e,k,[]))/\Is W w.heap.size 32 #[.slice none 0 0]/\Is W (w.heap.size+1) 3 #[.int .i64 k]/\Is W (w.heap.size+1+1) 47 #[.int .i64 e]/\w.heap.size+5<=W.heap.size/\Below w.heap.size w W
def ay.aoO(s:ByteArray)(w:World)(e:Ending)(w':World):Prop:=
 ∃v,e= .returned (.tuple #[v,.int .i64 (ay.tK s).2.1,.int .i64 (ay.tK s).1])/\w'.ownsRow w.heap.size 40 6 v (ay.tK s).2.2.length (ay.cellsOf (ay.tK s).2.2)/\Below w.heap.size w w'/\((ay.tK s).1≠0\/(ay.tK s).2.2=[]->v= .slice none 0 0)
theorem ay.uh{W W':World}{n:Nat}{T:TypeId}{cs:Array Value}{row:Option Nat}(h:Is W n T cs)(hg:W.grownBy W' row)(cZ:some n≠row):Is W' n T cs:=h.of_heap (hg.block n h.lt cZ)
theorem ay.vP{W:World}{n:Nat}{T:TypeId}{cs:Array Value}{row:Option Nat}(h:Is W n T cs)(hr:∀r,row=some r->∃o:Obj,W.heap[r]? =some o/\o.isCells=false):some n≠row:=by
 intro e;obtain⟨o,ho,hc⟩:=hr n e.symm;unfold Is at h;rw[h]at ho;obtain rfl:Obj.cells cs T (0,0)=o:=by injection ho
 cases hc
theorem ay.amC{W:World}{base k size:Nat}{e:TypeId}{v:Value}{xs:List Value}{row:Option Nat}(h:W.ownsRow base e size v k xs)(hr:∀r,row=some r->∃o:Obj,W.heap[r]? =some o/\o.isCells=false):v.ownBlock=none\/v.ownBlock≠row:=by
 rcases h.2 with⟨rfl,_⟩|⟨g,cap,cur,rfl,_,hb,_⟩
 . exact .inl rfl
 . right;intro e;obtain⟨o,ho,hc⟩:=hr g (by rw[<-e];rfl);rw[hb]at ho;obtain rfl:Obj.cells cur _ (0,0)=o:=(by injection ho);cases hc
theorem ay.afl{W W':World}{base k size:Nat}{e:TypeId}{v:Value}{xs:List Value}(h:W.ownsRow base e size v k xs)(hb:Below W.heap.size W W'):W'.ownsRow base e size v k xs:=
 h.kept (row:=none) ⟨hb.os,hb.tape,hb.output,hb.size,λi hi _=>hb.block i hi⟩ (by
  cases h0:v.ownBlock
  . exact .inl rfl
  . right;simp)
theorem ay.aaI{B:Nat}{W W':World}(hb:Below W.heap.size W W'):KeepsFrom B W W':=⟨hb.size,λk o _ hk _=>(hb.block k (Zd3.1 hk).1).trans hk⟩
theorem ay.amD(w:World)(B0:Nat)(hB:w.heap.size<=B0):OwnFrom B0 (ay.adi w):=by
 rintro pre W W' row ⟨rs,v,h1,h2,i1,i2,i3,i4,gF,gU,hb,hn⟩ hg hr;have oC:∀r,row=some r->∃o:Obj,W.heap[r]? =some o/\o.isCells=false:=λr e=>(hr r e).2
 exact⟨rs,v,h1,h2,ay.uh i1 hg (ay.vP i1 oC),ay.uh i2 hg (ay.vP i2 oC),ay.uh i3 hg (ay.vP i3 oC),ay.uh i4 hg (ay.vP i4 oC),
  gF.kept hg (ay.amC gF oC),Zb0 gU hg.size,hb.grown hg (by omega) (λk e=>Zb0 hB (hr k e).1),hn⟩
theorem ay.amE(w:World)(s:ByteArray)(B0:Nat)(hB:w.heap.size<=B0):OwnFrom B0 (ay.adj w s):=by
 rintro pre W W' row ⟨e,k,h1,h2,h3,h4,i1,i2,i3,gU,hb⟩ hg hr;have oC:∀r,row=some r->∃o:Obj,W.heap[r]? =some o/\o.isCells=false:=λr e=>(hr r e).2
 exact⟨e,k,h1,h2,h3,h4,ay.uh i1 hg (ay.vP i1 oC),ay.uh i2 hg (ay.vP i2 oC),ay.uh i3 hg (ay.vP i3 oC),Zb0 gU hg.size,hb.grown hg (by omega) (λk e=>Zb0 hB (hr k e).1)⟩
theorem ay.amF(w:World):Fc (w.heap.size+1+1+1+1) (ay.adi w):=by
 rintro pre W x ⟨rs,v,h1,h2,i1,i2,i3,i4,gF,gU,hb,hn⟩;exact⟨rs,v,h1,h2,i1.other (by omega) _ _,i2.other (by omega) _ _,i3.other (by omega) _ _,i4.other (by omega) _ _,ownsRow_setCell_below gF (by show w.heap.size+1+1+1+1<w.heap.size+5;omega) _,by rw[World.size_setCell];exact gU,hb.setCell (by show w.heap.size<=w.heap.size+1+1+1+1;omega) _,hn⟩
theorem ay.amG(w:World)(s:ByteArray):Fc (w.heap.size+1+1+1+1) (ay.adj w s):=by
 rintro pre W x ⟨e,k,h1,h2,h3,h4,i1,i2,i3,gU,hb⟩;exact⟨e,k,h1,h2,h3,h4,i1.other (by omega) _ _,i2.other (by omega) _ _,i3.other (by omega) _ _,by rw[World.size_setCell];exact gU,hb.setCell (by show w.heap.size<=w.heap.size+1+1+1+1;omega) _⟩
theorem ay.arh{s:ByteArray}{pre:List ByteArray}{x:ByteArray}{rs:List ay.RR}{e:Int}(h:pre.map ay.wY=rs.map Sum.inr)(hl:rs.length<=64)(hx:ay.wY x= .inl e)(ys:List ByteArray)(hy:pre++[x]++ys=gC s):ay.Uf [] (gC s)=(e,rs.length,[]):=by
 rw[<-hy,Zf2,ay.YE pre rs [] _ h (by simpa using hl)];simp[ay.Uf,hx]
theorem ay.afm{w:World}{base:Nat}{e:TypeId}{size:Nat}{v:Value}{n:Nat}{xs:List Value}(h:w.ownsRow base e size v n xs):∃a c,v= .slice a n c:=by
 rcases h.2 with⟨rfl,rfl⟩|⟨g,cap,cur,rfl,_⟩
 . exact⟨none,0,rfl⟩
 . exact⟨_,_,rfl⟩
theorem ay.GM{W:World}{n:Nat}{T:TypeId}{a v:Value}(h:Is W n T #[a]):Is (W.setCell ⟨n,0,none⟩ v) n T #[v]:=(h.set 0 v).cast rfl
theorem ay.aoP{B:Nat}{W W':World}(h:KeepsFrom B W W')(p:Addr)(v:Value):KeepsFrom B W (W'.setCell p v):=h.trans ((KeepsOthers.setCell W' p v).from B)
theorem ay.abH{B:Nat}{W W':World}(h:KeepsFrom B W W')(o:Obj):KeepsFrom B W (W'.alloc o):=h.trans ((KeepsOthers.alloc W' o).from B)
theorem ay.atx{B:Nat}{W W':World}(h:KeepsFrom B W W'):KeepsFrom B W W'.drew:=h.trans ⟨Za3 _,λ_ _ _ hk _=>hk⟩
theorem ay.aoQ{w W':World}{s:ByteArray}{pre:List ByteArray}{e:Int}{k:Nat}(h1:1<=e/\e<=100)(h2:k<=64)(h3:∀ys,pre++ys=gC s->ay.Uf [] (gC s)=(e,k,[]))
  (i1:Is W' w.heap.size 32 #[.slice none 0 0]) (i2:Is W' (w.heap.size+1) 3 #[.int .i64 k]) (i3:Is W' (w.heap.size+1+1) 47 #[.int .i64 e]) (hz:w.heap.size+5<=W'.heap.size) (hb:Below w.heap.size w W'):ay.adj w s pre W':=
 ⟨e,k,h1.1,h1.2,h2,h3,i1,i2,i3,hz,hb⟩
theorem ay.abI{w:World}{base:Nat}{e:TypeId}{size:Nat}{v:Value}{n:Nat}{xs:List Value}(h:w.ownsRow base e size v n xs)(j:Nat)(hj:v.ownBlock=some j):base<=j:=by
 rcases h.2 with⟨rfl,rfl⟩|⟨g,cap,cur,rfl,hb,_⟩
 . cases hj
 . obtain rfl:g=j:=(by simpa [Value.ownBlock]using hj);exact hb
theorem ay.aoR{w:World}{base:Nat}{e:TypeId}{size:Nat}{v:Value}{n:Nat}{xs:List Value}(h:w.ownsRow base e size v n xs)(j:Nat)(o:Obj)(hj:v.ownBlock=some j)(ho:w.heap[j]? =some o):o.isCells=true:=by
 rcases h.2 with⟨rfl,rfl⟩|⟨g,cap,cur,rfl,hb,hg,_⟩
 . cases hj
 . obtain rfl:g=j:=(by simpa [Value.ownBlock]using hj);rw[hg]at ho;cases ho;rfl
theorem ay.aoS(r:ay.RR):∀u∈r.cells,u.oneCell'=true:=by intro u hu;simp only[ay.RR.cells,Za8,Zb7,Ze4]at hu;rcases hu with rfl|rfl|rfl|rfl|rfl|rfl<;>rfl
theorem ay.aoT(W:World)(T:TypeId)(cs:List Value)(j:Nat)(u:Value)(h:cs[j]? =some u):(W.alloc (.cells cs.toArray T)).cell? ((⟨W.heap.size,0,none⟩:Addr).add j)=some u:=by
 have:(⟨W.heap.size,0,none⟩:Addr).add j=⟨W.heap.size,j,none⟩:=by
  unfold Addr.add;split
  . rename_i h0;subst h0;rfl
  . simp
 rw[this,(Is.new W T cs.toArray).cell];simpa using h
theorem ay.aoU{w W w1 w5:World}{n:Nat}{v:Value}{xs:List Value}{A C:Obj}{va:Value}(jy:Below W.heap.size W w1)(gU:w.heap.size+5<=W.heap.size)(j4:Is W (w.heap.size+1+1+1) 32 #[va])
  (gF:W.ownsRow (w.heap.size+5) 40 6 v n xs) (Fe:((w1.alloc A).alloc C).grownBy w5 v.ownBlock):Is w5 (w.heap.size+1+1+1) 32 #[va]:=
 ay.uh (((j4.below jy (by omega)).alloc _).alloc _) Fe (λe=>by have:=ay.abI gF _ e.symm;omega)
theorem ay.amH{w W w1 w5:World}{B:Nat}{pre:List ByteArray}{x:ByteArray}{rs:List ay.RR}{r:ay.RR}{v v':Value}{A C:Obj}(p1:pre.map ay.wY=rs.map Sum.inr)(p2:rs.length<64)(hx:ay.wY x= .inr r)
   (hb:Below w.heap.size w W) (jy:Below W.heap.size W w1) (gU:w.heap.size+5<=W.heap.size)
   (j1:Is W w.heap.size 32 #[.slice none 0 0]) (j2:Is W (w.heap.size+1) 3 #[.int .i64 0]) (j3:Is W (w.heap.size+1+1) 47 #[.int .i64 0]) (j4:Is W (w.heap.size+1+1+1) 32 #[v])
   (gF:W.ownsRow (w.heap.size+5) 40 6 v rs.length (ay.cellsOf rs)) (ai2:w5.ownsRow (w.heap.size+5) 40 6 v' (rs.length+1) (ay.cellsOf rs++r.cells)) (Fe:((w1.alloc A).alloc C).grownBy w5 v.ownBlock):
   KeepsFrom B W (w5.setCell ⟨w.heap.size+1+1+1,0,none⟩ v')/\Vb (w.heap.size+1+1+1+1) W (w5.setCell ⟨w.heap.size+1+1+1,0,none⟩ v')/\ay.adi w (pre++[x]) (w5.setCell ⟨w.heap.size+1+1+1,0,none⟩ v'):=by
 have avd:=((ay.afl gF jy).alloc A).alloc C;have cZ:∀k,k<w.heap.size+5->some k≠v.ownBlock:=λk hk e=>by have:=ay.abI gF _ e.symm;omega
 have is5:∀{k:Nat}{T:TypeId}{cs:Array Value},Is W k T cs->k<w.heap.size+5->Is w5 k T cs:=λh hk=>ay.uh (((h.below jy (by omega)).alloc _).alloc _) Fe (cZ _ hk)
 have Jp:w5.heap[w.heap.size+1+1+1+1]? =W.heap[w.heap.size+1+1+1+1]? :=by
   have alO:=jy.size;rw[Fe.block _ (by simp;omega) (cZ _ (by omega)),Go.ay.heap_alloc _ _ (by simp;omega),Go.ay.heap_alloc _ _ (by omega)];exact jy.block _ (by omega)
 have hp6:(w5.setCell ⟨w.heap.size+1+1+1,0,none⟩ v').heap[w.heap.size+1+1+1+1]? =W.heap[w.heap.size+1+1+1+1]? :=by rw[Go.ay.ajI (by omega)];exact Jp
 refine⟨?_,⟨by simp[World.cell?,hp6],by simp[World.frozen?,hp6]⟩,rs++[r],v',?_,by simp;omega,(is5 j1 (by omega)).other (by omega) _ _,(is5 j2 (by omega)).other (by omega) _ _,(is5 j3 (by omega)).other (by omega) _ _,ay.GM (is5 j4 (by omega)),?_,?_,?_,λh=>by simp at h⟩
 . refine ay.aoP ((ay.abH (ay.abH (ay.aaI jy) _) _).trans ((KeepsOthers.of_grownBy Fe λj o ej hj=>ay.aoR avd j o ej hj).from B)) _ _
 . simp[p1,hx]
 . rw[ay.ai1];have:=ownsRow_setCell_below ai2 (a:=⟨w.heap.size+1+1+1,0,none⟩) (by show w.heap.size+1+1+1<w.heap.size+5;omega) v';simpa using this
 . have h1:=jy.size;have h2:=Fe.size;simp at h2 ⊢; omega
 . have h1:=jy.size;exact((((hb.trans (jy.mono (by omega))).alloc (by omega) A).alloc (by simp;omega) C).grown Fe (by simp;omega) (λk e=>by have:=ay.abI gF k e;omega)).setCell (by show w.heap.size<=w.heap.size+1+1+1;omega) _
theorem ay.C9{W:World}{n D:Nat}{T:TypeId}{cs:Array Value}{o o':Obj}(h:Is W n T cs)(hk:W.heap[D]? =some o)(ho:o.isCells=false):Is (W.putObj D o') n T cs:=
 ay.uh h (grownBy_putObj' W D o') (ay.vP h (λr e=>by cases e;exact⟨o,hk,ho⟩))
theorem ay.afn{s:ByteArray}{w w':World}{v:Value}{i:Int}{er:Int}{rs:List ay.RR}{k:Nat}(hp:ay.tK s=(er,k,rs))(hi:i=k)(gF:w'.ownsRow w.heap.size 40 6 v rs.length (ay.cellsOf rs))(hb:Below w.heap.size w w')(YF:er≠0\/rs=[]->v= .slice none 0 0:=by intro h;rfl):
   ay.aoO s w (.returned (.tuple #[v,.int .i64 i,.int .i64 er])) w':=by
 subst hi;refine⟨v,by rw[hp],?_,hb,?_⟩
 . rw[hp];exact gF
 . rw[hp];exact YF
theorem ay.ari{w:World}{base alb:Nat}{e:TypeId}{size:Nat}{v:Value}{n:Nat}{xs:List Value}(h:w.ownsRow base e size v n xs)(hb:alb<=base):w.ownsRow alb e size v n xs:=by
 refine⟨h.1,h.2.imp id ?_⟩;rintro⟨g,cap,cur,h1,h2,h3⟩;exact⟨g,cap,cur,h1,Zb0 hb h2,h3⟩
theorem ay.ajN{s:ByteArray}{rs:List ay.RR}(hs:s.size<=65536)(h:(gC s).map ay.wY=rs.map Sum.inr)(hl:rs.length<=64):ay.tK s=(0,0,rs):=by have:=ay.YE (gC s) rs [] [] h (by simpa using hl);rw[Ze0]at this;unfold ay.tK;rw[Za7 (by omega),this];rfl
theorem ay.aus:∃i0 z,Tryz.prog.info? 40=some i0/\i0.zero=some z/\i0.size=6/\i0.bytes=72/\z.cells.size=6:=by
 have h:(Tryz.prog.info? 40).map (λi=>(i.zero.map (·.cells.size),i.size,i.bytes))=some (some 6,6,72):=by kernel_rfl
 cases hi:Tryz.prog.info? 40 with
 |none=>rw[hi]at h;simp at h
 |some i0=>
  rw[hi]at h;simp only[Ze2,H5,Zd1,Zf1]at h;obtain⟨⟨z,hz,hz2⟩,h2,h3⟩:=h;exact⟨i0,z,rfl,hz,h2,h3,hz2⟩
set_option maxRecDepth 100000 in
set_option maxHeartbeats 4000000 in
theorem ay.aut(s:ByteArray)(adk:∀s0∈gC s,ay.okL s0=true)(hfew:(gC s).length<64)
   (m:Int) (w:World) (hs:s.size<=65536) (hm:w.cell? ⟨0,0,none⟩=some (.int .i64 m)):
   Calls Tryz.prog 43 #[.string s] w (ay.aoO s w):=by
 have hbk:=World.block_lt_of_cell? _ _ hm;refine(callsIn_wide (n:=5)).1 ?_;refine callsIn_of_wp_marks Tryz.func43 rfl trivial ?_ rfl;simp only[Tryz.ntmps43,Zn3,Zc9,Zi9,Nat.reduceAdd,Nat.reduceSub,Array.replicate_succ,Array.replicate_zero,List.push_toArray,List.append_toArray,Ze1,Zd7]
 gi_wp2_with (refine⟨trivial,?_⟩;gi_at_call 83;refine(callsIn_wide.2 (ay.atw s _)).mono ?_;rintro e w' ⟨rfl,rfl⟩)
 obtain⟨W0,hW0⟩:∃W0,W0=(((((w.alloc (.cells #[.slice none 0 0] 32)).alloc (.cells #[.int .i64 0] 3)).alloc (.cells #[.int .i64 0] 47)).alloc (.cells #[.slice none 0 0] 32)).alloc (.cells #[.string s] 9)):=⟨_,rfl⟩
 have hz:W0.heap.size=w.heap.size+1+1+1+1+1:=by rw[hW0];simp
 have i1:Is W0 w.heap.size 32 #[.slice none 0 0]:=by rw[hW0];exact((((Is.new w 32 _).alloc _).alloc _).alloc _).alloc _
 have i2:Is W0 (w.heap.size+1) 3 #[.int .i64 0]:=by rw[hW0];have:=(((Is.new (w.alloc (.cells #[.slice none 0 0] 32)) 3 #[.int .i64 0]).alloc (.cells #[.int .i64 0] 47)).alloc (.cells #[.slice none 0 0] 32)).alloc (.cells #[.string s] 9);rwa [World.size_alloc]at this
 have i3:Is W0 (w.heap.size+1+1) 47 #[.int .i64 0]:=by rw[hW0];have:=((Is.new ((w.alloc (.cells #[.slice none 0 0] 32)).alloc (.cells #[.int .i64 0] 3)) 47 #[.int .i64 0]).alloc (.cells #[.slice none 0 0] 32)).alloc (.cells #[.string s] 9);rwa [World.size_alloc,World.size_alloc]at this
 have i4:Is W0 (w.heap.size+1+1+1) 32 #[.slice none 0 0]:=by rw[hW0];have:=(Is.new (((w.alloc (.cells #[.slice none 0 0] 32)).alloc (.cells #[.int .i64 0] 3)).alloc (.cells #[.int .i64 0] 47)) 32 #[.slice none 0 0]).alloc (.cells #[.string s] 9);rwa [World.size_alloc,World.size_alloc,World.size_alloc]at this
 have i5:Is W0 (w.heap.size+1+1+1+1) 9 #[.string s]:=by rw[hW0];have:=Is.new ((((w.alloc (.cells #[.slice none 0 0] 32)).alloc (.cells #[.int .i64 0] 3)).alloc (.cells #[.int .i64 0] 47)).alloc (.cells #[.slice none 0 0] 32)) 9 #[.string s];rwa [World.size_alloc,World.size_alloc,World.size_alloc,World.size_alloc]at this
 have yJ:Below w.heap.size w W0:=by rw[hW0];exact(((((Below.refl _ w).alloc (Za3 _) _).alloc (by simp) _).alloc (by simp;omega) _).alloc (by simp;omega) _).alloc (by simp;omega) _
 rw[<-hW0];clear hW0
 refine ajK (n:=5) rfl (by decide) (gf:=152) (b:=w.heap.size+1+1+1+1) (lb:= #[.pointer (some ⟨w.heap.size+1+1+1+1,0,none⟩)]) rfl trivial (enters_of Tryz.func152 (by kernel_rfl) rfl) (encs:=λx=> #[.string x]) (xs:=gC s) ?_ (by omega) (λ_=>rfl)
   (ay.adi w) (ay.adj w s) (ay.amD w _ (by omega)) (ay.amE w s _ (by omega)) (ay.amF w) (ay.amG w s)
   ⟨[],.slice none 0 0,rfl,by simp,i1,i2,i3,i4,⟨rfl,.inl ⟨rfl,rfl⟩⟩,by omega,yJ,λ_=>rfl⟩
   (fun x=>{ tmps:= #[.string s,undef,.pointer (some ⟨w.heap.size,0,none⟩),.pointer (some ⟨w.heap.size+1,0,none⟩),.pointer (some ⟨w.heap.size+1+1,0,none⟩),.pointer (some ⟨w.heap.size+1+1+1,0,none⟩),.string x,undef,undef,.string s,
     .int .i64 s.size,.bool (decide (65536<(s.size:Int))),.string s,.func (.func 152) #[] #[.pointer (some ⟨w.heap.size+1+1+1+1,0,none⟩)],.string x,undef,undef,undef,undef,undef,undef,undef,undef,undef,undef,undef,undef,undef,undef,undef,undef,undef,undef,undef,undef,undef,undef],defers:=[] })
   ?assign ?body ?done ?stop
 . exact λl J Jx W hW hJ hJx hJs hJxs hY h0=>ay.atv _ l _ s hs J Jx W _ hJ hJx hJs hY (by decide) (by rw[hW.cell (p:=⟨w.heap.size+1+1+1+1,0,none⟩) (by show w.heap.size+1+1+1+1<W0.heap.size;omega)];exact i5.one) (by rw[hW.frozen (p:=⟨w.heap.size+1+1+1+1,0,none⟩) (by show w.heap.size+1+1+1+1<W0.heap.size;omega)];exact i5.frozen 0) h0
 case assign=>
   intro l x W K hK
   gi_wp2
   exact hK
 case body=>
   (rintro l pre x W ⟨rs,v,p1,p2,j1,j2,j3,j4,gF,gU,hb,_⟩ abG hWz;obtain⟨va,vc,rfl⟩:=ay.afm gF;obtain⟨ys,Ac⟩:=abG;have hx:x.size<=65536:=Zb0 (ajM s x (by rw[<-Ac];simp)) hs;have hmW:W.cell? ⟨0,0,none⟩=some (.int .i64 m):=(hb.cell (p:=⟨0,0,none⟩) hbk).trans hm;have cF:=adk x (by rw[<-Ac];simp);have HL:=Lib.hid (ay.line x cF W);have aV:rs.length<64:=by have h1:=congrArg List.length p1;have h2:=congrArg List.length Ac;simp at h1 h2;omega);have z1:w.heap.size<W.heap.size:=(by omega);have z2:w.heap.size+1<W.heap.size:=(by omega);have z3:w.heap.size+1+1<W.heap.size:=(by omega);have z4:w.heap.size+1+1+1<W.heap.size:=(by omega);have ai3:=Lib.hid gF;have HB:=Lib.hid hb;have HP1:=Lib.hid p1;have HYS:=Lib.hid Ac;have J1:=Lib.hid j1;have J2:=Lib.hid j2;have J3:=Lib.hid j3;have J4:=Lib.hid j4;have HM:=Lib.hid hm;have HH:=Lib.hid adk;have HI5:=Lib.hid i5;clear gF hb p1 Ac j1 j2 j3 j4 hmW hm adk i1 i2 i3 i4 i5 yJ;rcases aa2:ay.wY x with e0|r
   . have hee:=ay.ara cF aa2;have ai4:=Lib.hid aa2;clear aa2
     gi_wp2_with (refine⟨trivial,?_⟩;gi_at_call 84;refine(CallsIn.inRound l (callsIn_wide.2 HL.out)).mono ?_;rintro e w1 ⟨he,jy⟩;rw[show ay.wY x= .inl e0 from ai4.out]at he;obtain rfl:e= .returned (.tuple #[.agg #[.int .u8 0,.int .i64 0,.string ⟨#[]⟩,.string ⟨#[]⟩,.string ⟨#[]⟩,.int .i64 0],.int .i64 e0]):=he;have K1:=J1.out.below jy z1;have K2:=J2.out.below jy z2;have K3:=J3.out.below jy z3;have K4:=J4.out.below jy z4;have k1:=K1.one;have k2:=K2.one;have k3:=K3.one;have k4:=K4.one;have g1:=K1.frozen;have g2:=K2.frozen;have g3:=K3.frozen;have g4:=K4.frozen;have hz1:=jy.size;have y1:=Zd0 z1 hz1;have y2:=Zd0 z2 hz1;have y3:=Zd0 z3 hz1;have y4:=Zd0 z4 hz1;have L1:=Lib.hid K1;have L2:=Lib.hid K2;have L3:=Lib.hid K3;have L4:=Lib.hid K4;clear K1 K2 K3 K4;have HB1:=Lib.hid jy;have HBB:=Lib.hid (HB.out.trans (jy.mono (Zn1 z1)));clear jy)
     gi_region
     all_goals gi_wp2
     all_goals
        refine⟨?_,ay.aoQ (e:=e0) (k:=rs.length) hee p2 (λys hy=>ay.arh HP1.out p2 ai4.out ys hy) ?_ ?_ ?_ ?_ ?_⟩
        . (repeat (first|(with_reducible refine ay.atx ?_)|(with_reducible refine ay.abH ?_ _)|(with_reducible refine ay.aoP ?_ _ _)|(with_reducible exact ay.aaI HB1.out)))
        . (repeat (first|(with_reducible refine Is.drew ?_)|(with_reducible refine Is.alloc ?_ _)|(with_reducible refine ay.GM (a:= .slice none 0 0) ?_)|(with_reducible refine Is.other ?_ (by omega) _ _)|(with_reducible exact L1.out)))
        . (repeat (first|(with_reducible refine Is.drew ?_)|(with_reducible refine Is.alloc ?_ _)|(with_reducible refine ay.GM (a:= .int .i64 0) ?_)|(with_reducible refine Is.other ?_ (by omega) _ _)|(with_reducible exact L2.out)))
        . (repeat (first|(with_reducible refine Is.drew ?_)|(with_reducible refine Is.alloc ?_ _)|(with_reducible refine ay.GM (a:= .int .i64 0) ?_)|(with_reducible refine Is.other ?_ (by omega) _ _)|(with_reducible exact L3.out)))
        . simp;omega
        . (repeat (first|(with_reducible refine Below.drew ?_)|(with_reducible refine Below.setCell ?_ (by first|(simp;done)|(simp;omega)) _)|(with_reducible refine Below.alloc ?_ (by first|omega|(simp;done)|(simp;omega)) _)|(with_reducible exact HBB.out)))
   . have ai4:=Lib.hid aa2;clear aa2
     .  have hl:¬rs.length=64:=(by omega);have alJ:((rs.length:Int)==64)=false:=(by rw[Zm3];omega);obtain⟨i0,z,sV,hz0,hzs,hzb,Fi⟩:=ay.aus
        gi_wp2_with (first|(refine⟨trivial,?_⟩;gi_at_call 84;refine(CallsIn.inRound l (callsIn_wide.2 HL.out)).mono ?_;rintro e w1 ⟨he,jy⟩;rw[show ay.wY x= .inr r from ai4.out]at he;obtain rfl:e= .returned (.tuple #[.agg #[.int .u8 r.k,.int .i64 r.wt,.string r.a,.string r.b,.string r.t,.int .i64 r.n],.int .i64 0]):=he;have K1:=J1.out.below jy z1;have K2:=J2.out.below jy z2;have K3:=J3.out.below jy z3;have K4:=J4.out.below jy z4;have k1:=K1.one;have k2:=K2.one;have k3:=K3.one;have k4:=K4.one;have g1:=K1.frozen;have g2:=K2.frozen;have g3:=K3.frozen;have g4:=K4.frozen;have hz1:=jy.size;have y1:=Zd0 z1 hz1;have y2:=Zd0 z2 hz1;have y3:=Zd0 z3 hz1;have y4:=Zd0 z4 hz1;have L1:=Lib.hid K1;have L2:=Lib.hid K2;have L3:=Lib.hid K3;have L4:=Lib.hid K4;clear K1 K2 K3 K4;have HB1:=Lib.hid jy;have HBB:=Lib.hid (HB.out.trans (jy.mono (Zn1 z1)));clear jy)|(gi_at_builtin;refine wpListIn_append_own _ rfl _ _ 32 rfl (w.heap.size+5) 40 i0 z 6 72 Tryz.underlying32 sV hz0 hzs hzb Fi (by decide) _ _ _ rfl (((ay.afl ai3.out HB1.out).alloc _).alloc _) ⟨w1.heap.size+1,0,none⟩ 1 1 r.cells rfl rfl ?_ ?_ ?_ ?_ ?_ ?_))
        . intro j u hu;have:=ay.aoT (w1.alloc (.cells r.cells.toArray 40)) 40 r.cells j u hu;rw[World.size_alloc]at this;exact this
        . exact ay.aoS r
        . unfold maxLen;omega
        . omega
        . have:=HB1.out.size;simp;omega
        . intro v' w5 ai2 Fe _;obtain⟨g',bC,rfl⟩:=ownsRow_succ ai2;have hm5:=ay.aoU HB1.out gU J4.out ai3.out Fe;have k5:=hm5.one;have g5:=hm5.frozen;have HM5:=Lib.hid hm5;have HOWN:=Lib.hid ai2;have ave:=Lib.hid Fe;clear hm5 ai2 Fe
          gi_wp2
          exact ay.amH HP1.out (by omega) ai4.out HB.out HB1.out gU J1.out J2.out J3.out J4.out ai3.out HOWN.out ave.out
 case done=>
   rintro D W hD ⟨rs,v,h1,h2,j1,j2,j3,j4,gF,gU,hb,YF⟩ hK;obtain⟨va,vc,rfl⟩:=ay.afm gF;have HNIL:=Lib.hid YF;clear YF;have c1:=j1.one;have c2:=j2.one;have c3:=j3.one;have c4:=j4.one;have f1:=j1.frozen;have f2:=j2.frozen;have f3:=j3.frozen;have f4:=j4.frozen;have ai3:=Lib.hid gF;have HB:=Lib.hid hb;have H1:=Lib.hid h1;have J1:=Lib.hid j1;have J2:=Lib.hid j2;have J3:=Lib.hid j3;have J4:=Lib.hid j4;have HK:=Lib.hid hK;clear gF hb h1 j1 j2 j3 j4 hK hm adk i1 i2 i3 i4 i5 yJ
   gi_wp2
   have hK2:(((W.setCell ⟨w.heap.size,0,none⟩ (.slice va rs.length vc)).setCell ⟨w.heap.size+1,0,none⟩ (.int .i64 0)).setCell ⟨w.heap.size+1+1,0,none⟩ (.int .i64 0)).heap[D]? =some (.deferred (some [])):=
     (KeepsOthers.setCell _ _ _).same D _ ((KeepsOthers.setCell _ _ _).same D _ ((KeepsOthers.setCell _ _ _).same D _ HK.out rfl) rfl) rfl
   have q1:=ay.C9 (o':= .deferred none) (((ay.GM (v:= .slice va rs.length vc) J1.out).other (m:=w.heap.size+1) (by omega) 0 (.int .i64 0)).other (m:=w.heap.size+1+1) (by omega) 0 (.int .i64 0)) hK2 rfl;have q2:=ay.C9 (o':= .deferred none) ((ay.GM (v:= .int .i64 0) (J2.out.other (m:=w.heap.size) (by omega) 0 (.slice va rs.length vc))).other (m:=w.heap.size+1+1) (by omega) 0 (.int .i64 0)) hK2 rfl;have q3:=ay.C9 (o':= .deferred none) (ay.GM (v:= .int .i64 0) ((J3.out.other (m:=w.heap.size) (by omega) 0 (.slice va rs.length vc)).other (m:=w.heap.size+1) (by omega) 0 (.int .i64 0))) hK2 rfl;have r1:=q1.one;have r2:=q2.one;have r3:=q3.one;refine⟨by simp,.inl ⟨_,_,rfl,run_takeDeferred hK2,?_⟩⟩;refine⟨.tuple #[.slice va rs.length vc,.int .i64 0,.int .i64 0],by simp[results,Tryz.results43,go_sem,r1,r2,r3],ay.afn (k:=0) (rs:=rs) (ay.ajN hs H1.out h2) rfl ?_ ?_ (λh=>h.elim (λh=>absurd rfl h) HNIL.out)⟩
   . refine ay.ari (base:=w.heap.size+5) ?_ (by omega);refine ownsRow_putObj (ownsRow_setCell_below (ownsRow_setCell_below (ownsRow_setCell_below ai3.out ?_ _) ?_ _) ?_ _) _ hK2 rfl
     .  show w.heap.size<w.heap.size+5;omega
     .  show w.heap.size+1<w.heap.size+5;omega
     .  show w.heap.size+1+1<w.heap.size+5;omega
   . exact(((HB.out.setCell (p:=⟨w.heap.size,0,none⟩) (Za3 _) _).setCell (p:=⟨w.heap.size+1,0,none⟩) (by show w.heap.size<=w.heap.size+1;omega) _).setCell (p:=⟨w.heap.size+1+1,0,none⟩) (by show w.heap.size<=w.heap.size+1+1;omega) _).grown (grownBy_putObj' _ D _) (by simp;omega) (λk e=>by cases e;omega)
 case stop=>
   rintro D pre W hD abG ⟨e,k,h1,h2,h3,h4,j1,j2,j3,gU,hb⟩ hK;obtain⟨ys,Ac⟩:=abG;have q1:=ay.C9 (o':= .deferred none) j1 hK rfl;have q2:=ay.C9 (o':= .deferred none) j2 hK rfl;have q3:=ay.C9 (o':= .deferred none) j3 hK rfl;have r1:=q1.one;have r2:=q2.one;have r3:=q3.one;have HB:=Lib.hid hb;have H4:=Lib.hid (h4 ys Ac);have HK:=Lib.hid hK;have R1:=Lib.hid r1;have R2:=Lib.hid r2;have R3:=Lib.hid r3;clear hb h4 j1 j2 j3 hK hm adk i1 i2 i3 i4 i5 yJ Ac q1 q2 q3 r1 r2 r3
   gi_wp2
   refine⟨by simp,.inl ⟨_,_,rfl,run_takeDeferred HK.out,?_⟩⟩;refine⟨.tuple #[.slice none 0 0,.int .i64 k,.int .i64 e],by simp[results,Tryz.results43,go_sem,R1.out,R2.out,R3.out],ay.afn (k:=k) (rs:=[]) (by unfold ay.tK;rw[Za7 (by omega),H4.out]) rfl ⟨rfl,.inl ⟨rfl,rfl⟩⟩ ?_⟩;exact HB.out.grown (grownBy_putObj' _ D _) (by omega) (λk e=>by cases e;omega)
end
end Go.Proofs
section
set_option maxRecDepth 1000000
namespace Go.Ai
open Go Go.RowKit
theorem ai5{P:Program}{tt:TT}{O:eV}{G:T dO}{C:Cells}{m d f:Nat}{n0:Pos}{fn:Func}{c:Code}(hm:P.follows .mixedOrders=true)(hT:di P tt)(hG:GOk P tt G)
  (hO:vU P C O) (Ws:oh O) (hf:P.funcs[f]? =some fn) (pX:¬fn.name= "runtime.NumGoroutine") (hb:fn.body=some c) {b:Bool}
  (h:NH (R:=Bool) false O G m d f [] { heap:= .e,next:=n0 } (λv _=>eo v (.bool b))=true) (w:World) (hC:∀ad v,C ad=some v->w.cell? ad=some v) (hC2:∀a v,C a=some v->∀o,C ⟨a.block,o,none⟩=none->w.cell? ⟨a.block,o,none⟩=none):
  Calls P f #[] w λe w'=>e= .returned (.bool b)/\Below w.heap.size w w':=by
 rw[FZ false O G m d]at h;unfold uI at h;split at h<;>first|(cases h;done)|skip
 rename_i x hx;obtain⟨v,bw⟩:=x;have hv:=yQ h;simp only at hv;subst hv;have hr:=Dq hm hT hO Ws hG m d (λ_=>⟨0,0,0⟩) { heap:= .e,next:=n0 } w f [] (.bool b) bw [] hx (Ho hC hC2) aL.nil;have dR:(callFunc f ([]:List Value).toArray).run P w= .ok (.enter f #[]) w:=by simp[callFunc,hf,pX,hb]
 rw[dR]at hr;refine Calls.mono hr λe w' he=> ?_
 cases e with
 |returned x=>
  obtain⟨ρ',h1,_,_,_,hE⟩:=he;have:=h1.kZ;subst this;exact⟨rfl,hE.os,hE.tape,hE.output,hE.size,λk hk=>hE.block k hk λb x hb=>by rw[T.dP]at hb;cases hb⟩
 |panicked c=>exact he.elim
 |outgrown=>exact he.elim
section
variable{ρ : Pos -> Go.Ai.Loc}{C : Cells}{st : St}{w w' : World}
theorem cq.later(h:cq ρ C st w)(hb:Below w.heap.size w w'):cq ρ C st w' where
 live b x hx:=by
  obtain⟨h1,h2,h3⟩:=h.live b x hx;exact⟨h1,Zd0 h2 hb.size,h3.of_heap (hb.block _ h2)⟩
 inj:=h.inj
 eD a v ha:=by
  obtain⟨h1,h2⟩:=h.eD a v ha;exact⟨(hb.cell (World.block_lt_of_cell? _ _ h1)).trans h1,h2⟩
 whole a v ha o ho:=by
  have rI:a.block<w.heap.size:=World.block_lt_of_cell? _ _ (h.eD a v ha).1;exact(hb.cell (p:=⟨a.block,o,none⟩) rI).trans (h.whole a v ha o ho)
theorem qi.later(h:cq ρ C st w)(hb:Below w.heap.size w w'):qi ρ st w ρ st w':=⟨hb.os,hb.tape,hb.output,hb.size,λk hk _=>hb.block k hk,λb x hx=> .inl ⟨b,x,hx,rfl⟩⟩
theorem auu(hW:cq ρ C st w){x0:AB}{base size g:Nat}(hb:Below w.heap.size w w')(hg:w.heap.size<=g)(Aj:g<w'.heap.size)
   (hB:∀ρ' n',(∀b:Pos,b.toNat<st.next.toNat->ρ' b=ρ b)->st.next.toNat<=n'->tO ρ' n' C ⟨g,base,size⟩ w' x0):
   ∃ρ':Pos->Go.Ai.Loc,(∀b:Pos,b.toNat<st.next.toNat->ρ' b=ρ b)/\ρ' st.next=⟨g,base,size⟩/\cq ρ' C (st.bh none none (some x0)) w'/\qi ρ st w ρ' (st.bh none none (some x0)) w':=by
 let ρ':Pos->Go.Ai.Loc:=λb=>if b=st.next then⟨g,base,size⟩else ρ b
 have bF:∀b:Pos,b.toNat<st.next.toNat->ρ' b=ρ b:=λb hb=>Za7 (λe=>by rw[e]at hb;omega)
 have ji:ρ' st.next=⟨g,base,size⟩:=Zb3 rfl;refine⟨ρ',bF,ji,?_,⟨hb.os,hb.tape,hb.output,hb.size,λk hk _=>hb.block k hk,λb x hx=> ?_⟩⟩;rotate_left
 . by_cases he:b=st.next
   . right;rw[he,ji];exact hg
   . left;simp only[St.bh,ON,Lx]at hx;rw[T.bX _ (λe=>he e.symm)]at hx;exact⟨b,x,hx,by rw[bF b (hW.live b x hx).1]⟩
 refine hW.akK (b0:=st.next) (x0:=x0) (by rw[Pos.aC];omega) (by rw[Pos.aC];omega) (by rw[T.gH]) ?_ bF (by rw[ji];exact hB _ _ bF (by rw[Pos.aC];omega)) ?_ (by rw[ji];exact Aj) hb.size (λk hk _=>hb.block k hk)
 . intro b x hb hx;simp only[ON,Lx]at hx;rw[T.bX _ (λe=>hb e.symm)]at hx;refine⟨hx,?_⟩;rw[ji];have:=(hW.live b x hx).2.1;simp only;omega
 . intro a v ha;have:=World.block_lt_of_cell? _ _ (hW.eD a v ha).1;rw[ji];simp only;omega
end
end Go.Ai
namespace Go.Proofs
open Go Go.Ai Go.RowKit Go.ay Go.Proofs.YtgihekklfnjkiaaGreatDoor
def ay.parseLit(t0:List Nat)(er i:Int)(n:Nat)(cs:List AV):List AV->St->Option (AV×St):=λargs st=>
 match args with
 |  [.str t]=>match kA t t0 with
    |true=>match n with
     |0=>some (.tuple [.af,.int .i64 i,.int .i64 er],st)
     |n+1=>some (.tuple [.slice st.next 0 (n+1) none 6,.int .i64 i,.int .i64 er],st.bh none none (some (.cells cs 0)))
    |false=>none
 |_=>none
def ay.agq:AV->Option Value
 | .int k i=>some (.int k i)
 | .str s=>some (.string (ay.BV s))
 |_=>none
theorem ay.YG{ρ:Pos->Go.Ai.Loc}{n:Nat}{C:Cells}:∀{cs:List AV}{vs:List Value},cs.mapM ay.agq=some vs->(∀v∈cs,∃k i,v= .int k i\/∃s,v= .str s/\∀c∈s,c<256)->aL ρ n C cs vs
 |[],vs,h,_=>by simp at h;subst h;exact aL.nil
 |v ::cs,vs,h,hv=>by
  simp only[List.mapM_cons,Option.bind_eq_bind,Option.bind_eq_some_iff,Option.pure_def,H5]at h;obtain⟨y,hy,zs,hz,rfl⟩:=h;refine aL.cons ?_ (ay.YG hz λv hm=>hv v (Za9 _ hm));obtain⟨k,i,rfl|⟨s,rfl,hs⟩⟩:=hv v (Zd6 ..)
  . simp[ay.agq]at hy;subst hy;exact .int _ _
  . simp only[ay.agq,H5]at hy;subst hy;refine .str _ _ ?_;show(s.map UInt8.ofNat).toArray.toList.map UInt8.toNat=s;simp only[Zh4]
    conv=>rhs;rw[<-Zr1 s]
    (refine Zj2 λc hc=> ?_);have:=hs c hc;simp[UInt8.toNat_ofNat];omega
theorem ay.PN{C:Cells}{m:Int}(hC:C ⟨0,0,none⟩=some (.int .i64 m)){t0:List Nat}{er i:Int}{n k:Nat}{cs:List AV}{rs:List ay.RR}(gU:t0.length<=65536)(hq:((gC (ay.BV t0)).all ay.okL&&Nat.blt (gC (ay.BV t0)).length 64)=true)(hp:ay.tK (ay.BV t0)=(er,k,rs))(hi:i=k)(hn:n=rs.length)
  (fC:cs.mapM ay.agq=some (ay.cellsOf rs)) (hsc:∀v∈cs,∃k i,v= .int k i\/∃s,v= .str s/\∀c∈s,c<256) (hz:n=0->er≠0):tR Tryz.prog C 43 (ay.parseLit t0 er i n cs) where
 mono args st v st' h:=by
  unfold ay.parseLit at h;split at h<;>first|(cases h;done)|skip
  split at h<;>first|(cases h;done)|skip
  split at h
  . injection h with h;injection h with h1 h2;subst h2;exact Za3 _
  . injection h with h;injection h with h1 h2;subst h2;exact St.R4 _ _ _ _
 runs ρ st w args v st' cL h hW hv:=by
  unfold ay.parseLit at h;split at h<;>first|(cases h;done)|skip
  rename_i t;split at h<;>first|(cases h;done)|skip
  rename_i hbq;have ht:t=t0:=mH.1 hbq;subst ht;obtain⟨x,xs,rfl,h1,h2⟩:=hv.cons_inv;have:=h2.qx;subst this;obtain⟨bs,rfl,hs⟩:=h1.fu;have Hg:=ay.Cr hs;have hm:=(hW.eD _ _ hC).1;have akM:bs.size<=65536:=by have:bs.data.toList.length=t.length:=(by rw[<-hs];simp);have h3:bs.size=bs.data.toList.length:=(by simp);omega
  have hc:=ay.aut bs (λx hx=>Zg7.1 ((Zb6 _ _).mp hq).1 x (by rw[<-Hg];exact hx)) (by rw[Hg];exact Zb2 ((Zb6 _ _).mp hq).2) m w akM hm;have dR:(callFunc 43 ([Value.string bs]:List Value).toArray).run Tryz.prog w= .ok (.enter 43 #[.string bs]) w:=enters_of Tryz.func43 (by kernel_rfl) rfl _ _;rw[dR];refine Calls.mono hc λe w' ZT=> ?_
  obtain⟨v',he,gF,hb,YF⟩:=ZT;rw[Hg,hp]at he gF YF;subst he;subst hi;simp only at gF YF ⊢;split at h
  . (injection h with h;injection h with e1 e2;subst e1;subst e2);have hv0:=YF (.inl (hz rfl));subst hv0;exact⟨ρ,.yH (aL.cons .af (aL.cons (.int _ _) (aL.cons (.int _ _) aL.nil))),λ_ _=>rfl,Za3 _,hW.later hb,qi.later hW hb⟩
  . rename_i n';(injection h with h;injection h with e1 e2;subst e1;subst e2);rcases gF.2 with⟨_,h0⟩|⟨g,cap,cur,rfl,hg,hgb,agE,hcm,hcur,avf⟩
    .   omega
    .   have hgl:=(Zd3.1 hgb).1;have hlen:cs.length=rs.length*6:=by
         have hvr:=ay.YG (ρ:=ρ) (n:=0) (C:=C) fC hsc;rw[hvr.1,ay.aer]
        obtain⟨ρ',bF,ji,jk,hE⟩:=auu (x0:= .cells cs 0) (base:=0) (size:=cur.size) hW hb hg hgl (λρ' n' _ _=>
         Cw hgb (by rw[hlen,hcur];exact Zg8 _ agE) (by rw[hlen,avf];exact ay.YG fC hsc) (λi _=>by simp))
        refine⟨ρ',.yH (aL.cons ?_ (aL.cons (.int _ _) (aL.cons (.int _ _) aL.nil))),bF,St.R4 _ _ _ _,jk,hE⟩;have avg:n'+1<=cap:=(by omega);rw[<-hn];exact NO (by simp[St.bh,Pos.aC]) ji avg (λc hc=>by cases hc) (by rw[hcur];exact Za3 _)
noncomputable def ay.P1:List AV->St->Option (AV×St):=ay.parseLit [104,97,114,100,32,97,112,97,114,116,32,97,110,110,97,32,98,111,114,105,115,32,50,10,119,101,105,103,104,32,53,32,104,111,110,111,117,114,32,45,10] 0 0 2 [.int .u8 1,.int .i64 0,.str [97,110,110,97],.str [98,111,114,105,115],.str [],.int .i64 2,.int .u8 14,.int .i64 5,.str [],.str [],.str [],.int .i64 0]
noncomputable def ay.P2:List AV->St->Option (AV×St):=ay.parseLit [119,101,105,103,104,32,48,32,109,105,120,32,45,10] 41 0 0 []
noncomputable def ay.P3:List AV->St->Option (AV×St):=ay.parseLit [104,97,114,100,32,97,116,32,97,110,110,97,32,45,10] 4 0 0 []
theorem ay.avh:ay.tK (ay.BV [104,97,114,100,32,97,112,97,114,116,32,97,110,110,97,32,98,111,114,105,115,32,50,10,119,101,105,103,104,32,53,32,104,111,110,111,117,114,32,45,10])=(0,0,[⟨1,0,⟨#[97,110,110,97]⟩,⟨#[98,111,114,105,115]⟩,⟨#[]⟩,2⟩,⟨14,5,⟨#[]⟩,⟨#[]⟩,⟨#[]⟩,0⟩]):=by kernel_rfl
theorem ay.avi:ay.tK (ay.BV [119,101,105,103,104,32,48,32,109,105,120,32,45,10])=(41,0,[]):=by kernel_rfl
theorem ay.avj:ay.tK (ay.BV [104,97,114,100,32,97,116,32,97,110,110,97,32,45,10])=(4,0,[]):=by kernel_rfl
theorem ay.amI{k:IntKind}{i:Int}:∃k' i',(AV.int k i)= .int k' i'\/∃s,(AV.int k i)= .str s/\∀c∈s,c<256:=⟨k,i,.inl rfl⟩
theorem ay.amJ{s:List Nat}(h:s.all (λc=>decide (c<256))=true):∃k' i',(AV.str s)= .int k' i'\/∃s',(AV.str s)= .str s'/\∀c∈s',c<256:=⟨.i64,0,.inr ⟨s,rfl,λc hc=>by have:=Zg7.1 h c hc;simpa using this⟩⟩
theorem ay.avk{C:Cells}{m:Int}(hC:C ⟨0,0,none⟩=some (.int .i64 m)):tR Tryz.prog C 43 ay.P1:=
 ay.PN hC (by decide) (by kernel_rfl) ay.avh rfl rfl (by rfl) (by
  intro v hv;simp only[Za8,Zb7,Ze4]at hv;rcases hv with rfl|rfl|rfl|rfl|rfl|rfl|rfl|rfl|rfl|rfl|rfl|rfl<;>first|exact ay.amI|exact ay.amJ (by decide)) (by decide)
theorem ay.avl{C:Cells}{m:Int}(hC:C ⟨0,0,none⟩=some (.int .i64 m)):tR Tryz.prog C 43 ay.P2:=ay.PN hC (by decide) (by kernel_rfl) ay.avi rfl rfl rfl (by simp) (by decide)
theorem ay.avm{C:Cells}{m:Int}(hC:C ⟨0,0,none⟩=some (.int .i64 m)):tR Tryz.prog C 43 ay.P3:=ay.PN hC (by decide) (by kernel_rfl) ay.avj rfl rfl rfl (by simp) (by decide)
noncomputable def ay.orcA:eV:=vW [(246,F0),(18,orS (Sq Zc) (Sq Zd)),(43,orS ay.P1 (orS ay.P2 ay.P3))]
noncomputable def ay.chkA:Bool:=NH (R:=Bool) false ay.orcA gg 100000 60 14 [] { heap:= .e,next:= .o (.i (.o (.i (.o (.i (.o (.i (.o .h)))))))) } λv _=>eo v (.bool true)
theorem ay.aoV:ay.chkA=true:=by kernel_rfl
theorem ay.YH{C:Cells}:tR Tryz.prog C 246 F0:=apq (fn:=Tryz.f246) Tryz.func246 (by kernel_rfl) (by kernel_rfl) (by kernel_rfl) (by kernel_rfl)
theorem ay.aty{C:Cells}:tR Tryz.prog C 18 (Sq Zc):=by have ho:=yS (P:=Tryz.prog) (C:=C) (l:=[(246,F0)]) (λx hx=>by simp at hx;subst hx;exact ay.YH);exact agY (O:=arR) (G:=gg) (m:=100000) (d:=60) (Dq (by kernel_rfl) Ud ho.1 ho.2 Ue _ _) (Dl ho.2 _ _) auq ava
theorem ay.atz{C:Cells}:tR Tryz.prog C 18 (Sq Zd):=by have ho:=yS (P:=Tryz.prog) (C:=C) (l:=[(246,F0)]) (λx hx=>by simp at hx;subst hx;exact ay.YH);exact agY (O:=arS) (G:=gg) (m:=100000) (d:=60) (Dq (by kernel_rfl) Ud ho.1 ho.2 Ue _ _) (Dl ho.2 _ _) aur avb
theorem ay.aoW(m:Int)(w:World)(hm:w.cell? ⟨0,0,none⟩=some (.int .i64 m)):Calls Tryz.prog 14 #[] w λe w'=>e= .returned (.bool true)/\Below w.heap.size w w':=by
 have hC:(λad=>w.cell? ad:Cells) ⟨0,0,none⟩=some (.int .i64 m):=hm;have ho:=yS (P:=Tryz.prog) (C:=λad=>w.cell? ad) (l:=[(246,F0),(18,orS (Sq Zc) (Sq Zd)),(43,orS ay.P1 (orS ay.P2 ay.P3))]) (λx hx=>by
  simp only[Za8,Zb7,Ze4]at hx;rcases hx with rfl|rfl|rfl
  . exact ay.YH
  . exact agZ ay.aty ay.atz
  . exact agZ (ay.avk hC) (agZ (ay.avl hC) (ay.avm hC)))
 exact ai5 (by kernel_rfl) Ud Ue ho.1 ho.2 (fn:=Tryz.f14) (c:=Tryz.f14.body.get rfl) Tryz.func14 (by decide) rfl ay.aoV w (λad v h=>h) λa v _ o h=>h
end Go.Proofs
end
