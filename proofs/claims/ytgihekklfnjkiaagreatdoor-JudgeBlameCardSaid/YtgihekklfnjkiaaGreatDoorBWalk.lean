/- awake of the chapter. -/
import Derived.Test.YtgihekklfnjkiaaGreatDoorProg
import Derived.Test.YtgihekklfnjkiaaGreatDoorBEvalE
import Derived.Lib.Hide
import Derived.WalkSmall
import Derived.Shelf.Small.Strs
import Derived.Shelf.Strings.Split
import Derived.Shelf.Strings.Shaped
import Derived.RangeFuncNested
import Derived.RangeFuncBound
import Derived.Shelf.RegionOpen
import Derived.OwnWalkIn
import Derived.LoopNIn
import Derived.LoopIn
set_option linter.all false
set_option maxRecDepth 100000
set_option maxHeartbeats 4000000
namespace Go.Proofs.YtgihekklfnjkiaaGreatDoor
noncomputable section
open Go Go.Ai Go.Proofs
def tt:T TI:=ttOf Go.Proofs.Tryz.prog [7,8,25,26,33,34,39,40,50,51,74,75,76,82,83,85,86,96,97,122,123,133,134,173,174,176,177,212,213,249,250]
def gg:T dM:=ggOf Go.Proofs.Tryz.prog tt
theorem auD:Kn Go.Proofs.Tryz.prog (λp=>p) tt=true:=by kernel_rfl
theorem Tn:dh Go.Proofs.Tryz.prog tt:=ase auD
theorem To:GOk Go.Proofs.Tryz.prog tt gg:=asf (by kernel_rfl)
end
end Go.Proofs.YtgihekklfnjkiaaGreatDoor
section
end
namespace Go.Proofs.YtgihekklfnjkiaaGreatDoor
section
set_option maxRecDepth 1000000
open Go Go.Ai
noncomputable def ar1:eP:=vw [(246,Fu)]
noncomputable def YF:Go.Ai.Lit:=⟨[(.agg [(kS 684 2 2 7),(kS 688 4 4 9),(kS 689 1 1 3),(kS 690 4 4 1),(kS 681 16 16 6)])],(key 691),
 [((key 681),(.cells [(kU 1),(kI 0),(.str [97,110,110,97]),(.str [98,111,114,105,115]),(.str []),(kI 2),(kU 1),(kI 0),(.str [97,110,110,97]),(.str [99,97,114,108]),(.str []),(kI 2),(kU 2),(kI 0),(.str [98,111,114,105,115]),(.str [99,97,114,108]),(.str []),(kI 0),(kU 3),(kI 0),(.str [97,110,110,97]),(.str [99,97,114,108]),(.str []),(kI 0),(kU 4),(kI 0),(.str [97,110,110,97]),(.str [100,111,114,97]),(.str []),(kI 3),(kU 8),(kI 0),(.str []),(.str []),(.str []),(kI 0),(kU 9),(kI 0),(.str []),(.str []),(.str []),(kI 0),(kU 10),(kI 0),(.str []),(.str []),(.str []),(kI 0),(kU 11),(kI 0),(.str []),(.str []),(.str []),(kI 0),(kU 12),(kI 0),(.str []),(.str []),(.str [114]),(kI 0),(kU 14),(kI 0),(.str []),(.str []),(.str []),(kI 0),(kU 15),(kI 0),(.str []),(.str []),(.str []),(kI 2),(kU 16),(kI 0),(.str []),(.str []),(.str [114]),(kI 2),(kU 5),(kI 0),(.str [97,110,110,97]),(.str [98,111,114,105,115]),(.str []),(kI 0),(kU 6),(kI 0),(.str [100,111,114,97]),(.str []),(.str [114]),(kI 0),(kU 7),(kI 0),(.str [99,97,114,108]),(.str []),(.str [114]),(kI 2)] 0)),
   ((key 690),(.cells [(kI 0),(kI 1),(kI 1),(kI 2)] 0)),
   ((key 689),(.cells [(.str [97,110,110,97]),(.str [98,111,114,105,115]),(kU 2)] 0)),
   ((key 687),(.cells [(.str [108,97,116,105,110])] 0)),
   ((key 686),(.cells [(.str [108,97,116,105,110])] 0)),
   ((key 685),(.cells [(.str [108,97,116,105,110])] 0)),
   ((key 688),(.cells [(.str [97,110,110,97]),(.str []),(.str []),(kI 0),(kI 1),(.str []),(.bool true),(.bool false),(kS 685 1 1 1),(.str [98,111,114,105,115]),(.str []),(.str []),(kI 0),(kI 1),(.str []),(.bool false),(.bool false),(kS 686 1 1 1),(.str [99,97,114,108]),(.str []),(.str []),(kI 0),(kI 2),(.str []),(.bool false),(.bool true),(kS 687 1 1 1),(.str [100,111,114,97]),(.str []),(.str []),(kI 0),(kI 0),(.str []),(.bool false),(.bool false),.af] 0)),
   ((key 683),(.cells [(kI 1)] 0)),
   ((key 684),(.cells [(.str [114]),(kU 1),(kI 6),(kI 0),(kS 683 1 1 1),(kI 0),(kI 0),(.str [119]),(kU 4),(kI 2),(kI 0),.af,(kI 0),(kI 0)] 0))],
 (.tuple [(.ptr (key 1057) 0),(kI 0),(kI 0)]),(key 5270),
 [((key 684),(.cells [(.str [114]),(kU 1),(kI 6),(kI 0),(kS 683 1 1 1),(kI 0),(kI 0),(.str [119]),(kU 4),(kI 2),(kI 0),.af,(kI 0),(kI 0)] 0)),
   ((key 683),(.cells [(kI 1)] 0)),
   ((key 688),(.cells [(.str [97,110,110,97]),(.str []),(.str []),(kI 0),(kI 1),(.str []),(.bool true),(.bool false),(kS 685 1 1 1),(.str [98,111,114,105,115]),(.str []),(.str []),(kI 0),(kI 1),(.str []),(.bool false),(.bool false),(kS 686 1 1 1),(.str [99,97,114,108]),(.str []),(.str []),(kI 0),(kI 2),(.str []),(.bool false),(.bool true),(kS 687 1 1 1),(.str [100,111,114,97]),(.str []),(.str []),(kI 0),(kI 0),(.str []),(.bool false),(.bool false),.af] 0)),
   ((key 685),(.cells [(.str [108,97,116,105,110])] 0)),
   ((key 686),(.cells [(.str [108,97,116,105,110])] 0)),
   ((key 687),(.cells [(.str [108,97,116,105,110])] 0)),
   ((key 689),(.cells [(.str [97,110,110,97]),(.str [98,111,114,105,115]),(kU 2)] 0)),
   ((key 690),(.cells [(kI 0),(kI 1),(kI 1),(kI 2)] 0)),
   ((key 681),(.cells [(kU 1),(kI 0),(.str [97,110,110,97]),(.str [98,111,114,105,115]),(.str []),(kI 2),(kU 1),(kI 0),(.str [97,110,110,97]),(.str [99,97,114,108]),(.str []),(kI 2),(kU 2),(kI 0),(.str [98,111,114,105,115]),(.str [99,97,114,108]),(.str []),(kI 0),(kU 3),(kI 0),(.str [97,110,110,97]),(.str [99,97,114,108]),(.str []),(kI 0),(kU 4),(kI 0),(.str [97,110,110,97]),(.str [100,111,114,97]),(.str []),(kI 3),(kU 8),(kI 0),(.str []),(.str []),(.str []),(kI 0),(kU 9),(kI 0),(.str []),(.str []),(.str []),(kI 0),(kU 10),(kI 0),(.str []),(.str []),(.str []),(kI 0),(kU 11),(kI 0),(.str []),(.str []),(.str []),(kI 0),(kU 12),(kI 0),(.str []),(.str []),(.str [114]),(kI 0),(kU 14),(kI 0),(.str []),(.str []),(.str []),(kI 0),(kU 15),(kI 0),(.str []),(.str []),(.str []),(kI 2),(kU 16),(kI 0),(.str []),(.str []),(.str [114]),(kI 2),(kU 5),(kI 0),(.str [97,110,110,97]),(.str [98,111,114,105,115]),(.str []),(kI 0),(kU 6),(kI 0),(.str [100,111,114,97]),(.str []),(.str [114]),(kI 0),(kU 7),(kI 0),(.str [99,97,114,108]),(.str []),(.str [114]),(kI 2)] 0)),
   ((key 5265),(.cells [(kU 0),(kU 0),(kU 0),(kU 0)] 0)),
   ((key 5186),(.cells [(kU 0),(kU 0),(kU 0),(kU 0)] 0)),
   ((key 5099),(.cells [(kU 2),(kU 0),(kU 0),(kU 0)] 0)),
   ((key 5010),(.cells [(kU 0),(kU 2),(kU 0),(kU 0)] 0)),
   ((key 5269),(.cells [(kN 5010 4 1),(kN 5099 4 1),(kN 5186 4 1),(kN 5265 4 1)] 0)),
   ((key 5259),(.cells [(.bool false),(.bool false),(.bool false),(.bool false)] 0)),
   ((key 5180),(.cells [(.bool true),(.bool true),(.bool true),(.bool false)] 0)),
   ((key 5093),(.cells [(.bool true),(.bool true),(.bool true),(.bool false)] 0)),
   ((key 5004),(.cells [(.bool true),(.bool true),(.bool true),(.bool false)] 0)),
   ((key 5267),(.cells [(kN 5004 4 1),(kN 5093 4 1),(kN 5180 4 1),(kN 5259 4 1)] 0)),
   ((key 4872),(.map [((kI 7),(kI 0),0),((kI 6),(kI 1),1)] 2)),
   ((key 4864),(.map [((kI 6),(kI 0),0),((kI 7),(kI 1),1)] 2)),
   ((key 4844),(.map [((kI 5),(kI 0),0),((kI 0),(kI 1),1),((kI 4),(kI 1),2),((kI 2),(kI 1),3),((kI 1),(kI 2),4),((kI 3),(kI 2),5)] 6)),
   ((key 4824),(.map [((kI 4),(kI 0),0),((kI 3),(kI 1),1),((kI 5),(kI 1),2),((kI 1),(kI 1),3),((kI 2),(kI 2),4),((kI 0),(kI 2),5)] 6)),
   ((key 4804),(.map [((kI 3),(kI 0),0),((kI 2),(kI 1),1),((kI 4),(kI 1),2),((kI 0),(kI 1),3),((kI 1),(kI 2),4),((kI 5),(kI 2),5)] 6)),
   ((key 4784),(.map [((kI 2),(kI 0),0),((kI 1),(kI 1),1),((kI 3),(kI 1),2),((kI 5),(kI 1),3),((kI 0),(kI 2),4),((kI 4),(kI 2),5)] 6)),
   ((key 4764),(.map [((kI 1),(kI 0),0),((kI 0),(kI 1),1),((kI 2),(kI 1),2),((kI 4),(kI 1),3),((kI 5),(kI 2),4),((kI 3),(kI 2),5)] 6)),
   ((key 4744),(.map [((kI 0),(kI 0),0),((kI 1),(kI 1),1),((kI 5),(kI 1),2),((kI 3),(kI 1),3),((kI 2),(kI 2),4),((kI 4),(kI 2),5)] 6)),
   ((key 4879),(.cells [(.map (key 4744)),(.map (key 4764)),(.map (key 4784)),(.map (key 4804)),(.map (key 4824)),(.map (key 4844)),(.map (key 4864)),(.map (key 4872))] 0)),
   ((key 4130),(.cells [(kI 2)] 0)),
   ((key 3569),(.cells [(kI 1)] 0)),
   ((key 3008),(.cells [(kI 0)] 0)),
   ((key 2657),(.cells [(kI 5)] 0)),
   ((key 2096),(.cells [(kI 4)] 0)),
   ((key 1535),(.cells [(kI 3)] 0)),
   ((key 4742),(.cells [(kN 1535 1 1),(kN 2096 1 1),(kN 2657 1 1),(kN 3008 1 1),(kN 3569 1 1),(kN 4130 1 1),.af,.af] 0)),
   ((key 4609),(.cells [(kI 6)] 0)),
   ((key 4414),(.cells [(kI 7)] 0)),
   ((key 3986),(.cells [(kI 0),(kI 4)] 0)),
   ((key 3495),(.cells [(kI 3),(kI 5)] 0)),
   ((key 2934),(.cells [(kI 2),(kI 4)] 0)),
   ((key 2373),(.cells [(kI 1),(kI 3)] 0)),
   ((key 1812),(.cells [(kI 0),(kI 2)] 0)),
   ((key 1391),(.cells [(kI 1),(kI 5)] 0)),
   ((key 4654),(.cells [(kN 1391 2 1),(kN 1812 2 1),(kN 2373 2 1),(kN 2934 2 1),(kN 3495 2 1),(kN 3986 2 1),(kN 4414 1 1),(kN 4609 1 1)] 0)),
   ((key 4564),(.cells [(.bool false),(.bool true),(.bool false),(.bool false),(.bool false),(.bool false),(.bool false),(.bool false)] 0)),
   ((key 4543),(.cells [(kI 0),(kI 1),(kI 2),(kI 1),(kI 2),(kI 1),(kI 1),(kI 0)] 0)),
   ((key 4507),(.cells [(kI 0),(kI 0),(kI 0),(kI 0),(kI 0),(kI 0),(kI 1),(kI 1)] 0)),
   ((key 1056),(.map [((kU 1),(.agg [(.str [97,112,97,114,116]),(kU 103),(.bool true),(kU 0),(.bool true),(kI 0),(.bool false),(.func 90 [] [])]),0),((kU 2),(.agg [(.str [98,101,115,105,100,101]),(kU 103),(.bool true),(kU 0),(.bool false),(kI 0),(.bool false),(.func 91 [] [])]),1),((kU 3),(.agg [(.str [97,99,114,111,115,115]),(kU 103),(.bool true),(kU 0),(.bool false),(kI 0),(.bool false),(.func 92 [] [])]),2),((kU 4),(.agg [(.str [110,101,97,114]),(kU 103),(.bool true),(kU 0),(.bool true),(kI 1),(.bool false),(.func 93 [] [])]),3),((kU 5),(.agg [(.str [116,111,103,101,116,104,101,114]),(kU 103),(.bool true),(kU 0),(.bool false),(kI 0),(.bool false),(.func 94 [] [])]),4),((kU 6),(.agg [(.str [97,116]),(kU 103),(.bool false),(kU 116),(.bool false),(kI 0),(.bool false),(.func 95 [] [])]),5),((kU 7),(.agg [(.str [115,101,97,116]),(kU 103),(.bool false),(kU 116),(.bool true),(kI 0),(.bool true),(.func 96 [] [])]),6),((kU 8),(.agg [(.str [97,108,116,101,114,110,97,116,101]),(kU 0),(.bool false),(kU 101),(.bool false),(kI 0),(.bool false),(.func 97 [] [])]),7),((kU 9),(.agg [(.str [104,111,115,116]),(kU 0),(.bool false),(kU 101),(.bool false),(kI 0),(.bool false),(.func 98 [] [])]),8),((kU 10),(.agg [(.str [114,101,97,99,104]),(kU 101),(.bool false),(kU 0),(.bool false),(kI 0),(.bool false),(.func 99 [] [])]),9),((kU 11),(.agg [(.str [115,112,101,97,107]),(kU 0),(.bool false),(kU 101),(.bool false),(kI 0),(.bool false),(.func 100 [] [])]),10),((kU 12),(.agg [(.str [112,101,97,99,101]),(kU 0),(.bool false),(kU 101),(.bool false),(kI 0),(.bool false),(.func 101 [] [])]),11),((kU 13),(.agg [(.str [99,111,109,112,97,110,121]),(kU 0),(.bool false),(kU 101),(.bool false),(kI 0),(.bool false),(.func 102 [] [])]),12),((kU 14),(.agg [(.str [104,111,110,111,117,114]),(kU 0),(.bool false),(kU 101),(.bool false),(kI 0),(.bool false),(.func 103 [] [])]),13),((kU 15),(.agg [(.str [102,105,108,108]),(kU 0),(.bool false),(kU 101),(.bool true),(kI 0),(.bool false),(.func 104 [] [])]),14),((kU 16),(.agg [(.str [108,105,109,105,116]),(kU 0),(.bool false),(kU 101),(.bool true),(kI 0),(.bool false),(.func 105 [] [])]),15),((kU 17),(.agg [(.str [107,105,116,99,104,101,110]),(kU 100),(.bool false),(kU 116),(.bool false),(kI 0),(.bool false),(.func 106 [] [])]),16),((kU 18),(.agg [(.str [109,105,120]),(kU 0),(.bool false),(kU 101),(.bool false),(kI 0),(.bool false),(.func 107 [] [])]),17)] 18)),
   ((key 1055),(.cells [(kU 1),(kI 0),(.str [97,110,110,97]),(.str [98,111,114,105,115]),(.str []),(kI 2),(kU 1),(kI 0),(.str [97,110,110,97]),(.str [99,97,114,108]),(.str []),(kI 2),(kU 2),(kI 0),(.str [98,111,114,105,115]),(.str [99,97,114,108]),(.str []),(kI 0),(kU 3),(kI 0),(.str [97,110,110,97]),(.str [99,97,114,108]),(.str []),(kI 0),(kU 4),(kI 0),(.str [97,110,110,97]),(.str [100,111,114,97]),(.str []),(kI 3),(kU 8),(kI 0),(.str []),(.str []),(.str []),(kI 0),(kU 9),(kI 0),(.str []),(.str []),(.str []),(kI 0),(kU 10),(kI 0),(.str []),(.str []),(.str []),(kI 0),(kU 11),(kI 0),(.str []),(.str []),(.str []),(kI 0),(kU 12),(kI 0),(.str []),(.str []),(.str [114]),(kI 0),(kU 14),(kI 0),(.str []),(.str []),(.str []),(kI 0),(kU 15),(kI 0),(.str []),(.str []),(.str []),(kI 2),(kU 16),(kI 0),(.str []),(.str []),(.str [114]),(kI 2),(kU 5),(kI 0),(.str [97,110,110,97]),(.str [98,111,114,105,115]),(.str []),(kI 0),(kU 6),(kI 0),(.str [100,111,114,97]),(.str []),(.str [114]),(kI 0),(kU 7),(kI 0),(.str [99,97,114,108]),(.str []),(.str [114]),(kI 2)] 0)),
   ((key 1053),(.cells [(kI 0),(kI 1),(kI 1),(kI 2)] 0)),
   ((key 1051),(.cells [(.str [97,110,110,97]),(.str [98,111,114,105,115]),(kU 2)] 0)),
   ((key 1049),(.cells [(.str [108,97,116,105,110])] 0)),
   ((key 1047),(.cells [(.str [108,97,116,105,110])] 0)),
   ((key 1045),(.cells [(.str [108,97,116,105,110])] 0)),
   ((key 1043),(.cells [(.str [97,110,110,97]),(.str []),(.str []),(kI 0),(kI 1),(.str []),(.bool true),(.bool false),(kN 1045 1 1),(.str [98,111,114,105,115]),(.str []),(.str []),(kI 0),(kI 1),(.str []),(.bool false),(.bool false),(kN 1047 1 1),(.str [99,97,114,108]),(.str []),(.str []),(kI 0),(kI 2),(.str []),(.bool false),(.bool true),(kN 1049 1 1),(.str [100,111,114,97]),(.str []),(.str []),(kI 0),(kI 0),(.str []),(.bool false),(.bool false),.af] 0)),
   ((key 1041),(.cells [(kI 1)] 0)),
   ((key 1039),(.cells [(.str [114]),(kU 1),(kI 6),(kI 0),(kN 1041 1 1),(kI 0),(kI 0),(.str [119]),(kU 4),(kI 2),(kI 0),.af,(kI 0),(kI 0)] 0)),
   ((key 1057),(.cells [(kN 1039 2 7),(kN 1043 4 9),(kN 1051 1 3),(kN 1053 4 1),(kN 1055 16 6),(.map (key 1056)),(kN 4507 8 1),(kN 4543 8 1),(kN 4564 8 1),(kN 4654 8 1),(kN 4742 8 1),(kN 4879 8 1),(kN 5267 4 1),(kN 5269 4 1)] 0))]⟩
theorem avm:abO YF ar1 gg 100000 60 18=true:=by kernel_rfl
theorem auE:abN YF.L0 YF.L1=true:=by kernel_rfl
noncomputable def ar2:eP:=vw [(246,Fu)]
noncomputable def YG:Go.Ai.Lit:=⟨[(.agg [(kS 5491 2 2 7),(kS 5495 4 4 9),(kS 5496 1 1 3),(kS 5497 4 4 1),(kS 5488 5 5 6)])],(key 5498),
 [((key 5488),(.cells [(kU 14),(kI 0),(.str []),(.str []),(.str [114]),(kI 0),(kU 11),(kI 0),(.str []),(.str []),(.str [114]),(kI 0),(kU 9),(kI 1),(.str []),(.str []),(.str []),(kI 0),(kU 15),(kI 10),(.str []),(.str []),(.str [119]),(kI 2),(kU 15),(kI 100),(.str []),(.str []),(.str []),(kI 4)] 0)),
   ((key 5497),(.cells [(kI 0),(kI 1),(kI 1),(kI 2)] 0)),
   ((key 5496),(.cells [(.str [97,110,110,97]),(.str [98,111,114,105,115]),(kU 2)] 0)),
   ((key 5494),(.cells [(.str [108,97,116,105,110])] 0)),
   ((key 5493),(.cells [(.str [108,97,116,105,110])] 0)),
   ((key 5492),(.cells [(.str [108,97,116,105,110])] 0)),
   ((key 5495),(.cells [(.str [97,110,110,97]),(.str []),(.str []),(kI 0),(kI 1),(.str []),(.bool true),(.bool false),(kS 5492 1 1 1),(.str [98,111,114,105,115]),(.str []),(.str []),(kI 0),(kI 1),(.str []),(.bool false),(.bool false),(kS 5493 1 1 1),(.str [99,97,114,108]),(.str []),(.str []),(kI 0),(kI 2),(.str []),(.bool false),(.bool true),(kS 5494 1 1 1),(.str [100,111,114,97]),(.str []),(.str []),(kI 0),(kI 0),(.str []),(.bool false),(.bool false),.af] 0)),
   ((key 5490),(.cells [(kI 1)] 0)),
   ((key 5491),(.cells [(.str [114]),(kU 1),(kI 6),(kI 0),(kS 5490 1 1 1),(kI 0),(kI 0),(.str [119]),(kU 4),(kI 2),(kI 0),.af,(kI 0),(kI 0)] 0))],
 (.tuple [(.ptr (key 5684) 0),(kI 0),(kI 0)]),(key 9897),
 [((key 5491),(.cells [(.str [114]),(kU 1),(kI 6),(kI 0),(kS 5490 1 1 1),(kI 0),(kI 0),(.str [119]),(kU 4),(kI 2),(kI 0),.af,(kI 0),(kI 0)] 0)),
   ((key 5490),(.cells [(kI 1)] 0)),
   ((key 5495),(.cells [(.str [97,110,110,97]),(.str []),(.str []),(kI 0),(kI 1),(.str []),(.bool true),(.bool false),(kS 5492 1 1 1),(.str [98,111,114,105,115]),(.str []),(.str []),(kI 0),(kI 1),(.str []),(.bool false),(.bool false),(kS 5493 1 1 1),(.str [99,97,114,108]),(.str []),(.str []),(kI 0),(kI 2),(.str []),(.bool false),(.bool true),(kS 5494 1 1 1),(.str [100,111,114,97]),(.str []),(.str []),(kI 0),(kI 0),(.str []),(.bool false),(.bool false),.af] 0)),
   ((key 5492),(.cells [(.str [108,97,116,105,110])] 0)),
   ((key 5493),(.cells [(.str [108,97,116,105,110])] 0)),
   ((key 5494),(.cells [(.str [108,97,116,105,110])] 0)),
   ((key 5496),(.cells [(.str [97,110,110,97]),(.str [98,111,114,105,115]),(kU 2)] 0)),
   ((key 5497),(.cells [(kI 0),(kI 1),(kI 1),(kI 2)] 0)),
   ((key 5488),(.cells [(kU 14),(kI 0),(.str []),(.str []),(.str [114]),(kI 0),(kU 11),(kI 0),(.str []),(.str []),(.str [114]),(kI 0),(kU 9),(kI 1),(.str []),(.str []),(.str []),(kI 0),(kU 15),(kI 10),(.str []),(.str []),(.str [119]),(kI 2),(kU 15),(kI 100),(.str []),(.str []),(.str []),(kI 4)] 0)),
   ((key 9892),(.cells [(kU 0),(kU 0),(kU 0),(kU 0)] 0)),
   ((key 9813),(.cells [(kU 0),(kU 0),(kU 0),(kU 0)] 0)),
   ((key 9726),(.cells [(kU 2),(kU 0),(kU 0),(kU 0)] 0)),
   ((key 9637),(.cells [(kU 0),(kU 2),(kU 0),(kU 0)] 0)),
   ((key 9896),(.cells [(kN 9637 4 1),(kN 9726 4 1),(kN 9813 4 1),(kN 9892 4 1)] 0)),
   ((key 9886),(.cells [(.bool false),(.bool false),(.bool false),(.bool false)] 0)),
   ((key 9807),(.cells [(.bool true),(.bool true),(.bool true),(.bool false)] 0)),
   ((key 9720),(.cells [(.bool true),(.bool true),(.bool true),(.bool false)] 0)),
   ((key 9631),(.cells [(.bool true),(.bool true),(.bool true),(.bool false)] 0)),
   ((key 9894),(.cells [(kN 9631 4 1),(kN 9720 4 1),(kN 9807 4 1),(kN 9886 4 1)] 0)),
   ((key 9499),(.map [((kI 7),(kI 0),0),((kI 6),(kI 1),1)] 2)),
   ((key 9491),(.map [((kI 6),(kI 0),0),((kI 7),(kI 1),1)] 2)),
   ((key 9471),(.map [((kI 5),(kI 0),0),((kI 0),(kI 1),1),((kI 4),(kI 1),2),((kI 2),(kI 1),3),((kI 1),(kI 2),4),((kI 3),(kI 2),5)] 6)),
   ((key 9451),(.map [((kI 4),(kI 0),0),((kI 3),(kI 1),1),((kI 5),(kI 1),2),((kI 1),(kI 1),3),((kI 2),(kI 2),4),((kI 0),(kI 2),5)] 6)),
   ((key 9431),(.map [((kI 3),(kI 0),0),((kI 2),(kI 1),1),((kI 4),(kI 1),2),((kI 0),(kI 1),3),((kI 1),(kI 2),4),((kI 5),(kI 2),5)] 6)),
   ((key 9411),(.map [((kI 2),(kI 0),0),((kI 1),(kI 1),1),((kI 3),(kI 1),2),((kI 5),(kI 1),3),((kI 0),(kI 2),4),((kI 4),(kI 2),5)] 6)),
   ((key 9391),(.map [((kI 1),(kI 0),0),((kI 0),(kI 1),1),((kI 2),(kI 1),2),((kI 4),(kI 1),3),((kI 5),(kI 2),4),((kI 3),(kI 2),5)] 6)),
   ((key 9371),(.map [((kI 0),(kI 0),0),((kI 1),(kI 1),1),((kI 5),(kI 1),2),((kI 3),(kI 1),3),((kI 2),(kI 2),4),((kI 4),(kI 2),5)] 6)),
   ((key 9506),(.cells [(.map (key 9371)),(.map (key 9391)),(.map (key 9411)),(.map (key 9431)),(.map (key 9451)),(.map (key 9471)),(.map (key 9491)),(.map (key 9499))] 0)),
   ((key 8757),(.cells [(kI 2)] 0)),
   ((key 8196),(.cells [(kI 1)] 0)),
   ((key 7635),(.cells [(kI 0)] 0)),
   ((key 7284),(.cells [(kI 5)] 0)),
   ((key 6723),(.cells [(kI 4)] 0)),
   ((key 6162),(.cells [(kI 3)] 0)),
   ((key 9369),(.cells [(kN 6162 1 1),(kN 6723 1 1),(kN 7284 1 1),(kN 7635 1 1),(kN 8196 1 1),(kN 8757 1 1),.af,.af] 0)),
   ((key 9236),(.cells [(kI 6)] 0)),
   ((key 9041),(.cells [(kI 7)] 0)),
   ((key 8613),(.cells [(kI 0),(kI 4)] 0)),
   ((key 8122),(.cells [(kI 3),(kI 5)] 0)),
   ((key 7561),(.cells [(kI 2),(kI 4)] 0)),
   ((key 7000),(.cells [(kI 1),(kI 3)] 0)),
   ((key 6439),(.cells [(kI 0),(kI 2)] 0)),
   ((key 6018),(.cells [(kI 1),(kI 5)] 0)),
   ((key 9281),(.cells [(kN 6018 2 1),(kN 6439 2 1),(kN 7000 2 1),(kN 7561 2 1),(kN 8122 2 1),(kN 8613 2 1),(kN 9041 1 1),(kN 9236 1 1)] 0)),
   ((key 9191),(.cells [(.bool false),(.bool true),(.bool false),(.bool false),(.bool false),(.bool false),(.bool false),(.bool false)] 0)),
   ((key 9170),(.cells [(kI 0),(kI 1),(kI 2),(kI 1),(kI 2),(kI 1),(kI 1),(kI 0)] 0)),
   ((key 9134),(.cells [(kI 0),(kI 0),(kI 0),(kI 0),(kI 0),(kI 0),(kI 1),(kI 1)] 0)),
   ((key 5683),(.map [((kU 1),(.agg [(.str [97,112,97,114,116]),(kU 103),(.bool true),(kU 0),(.bool true),(kI 0),(.bool false),(.func 90 [] [])]),0),((kU 2),(.agg [(.str [98,101,115,105,100,101]),(kU 103),(.bool true),(kU 0),(.bool false),(kI 0),(.bool false),(.func 91 [] [])]),1),((kU 3),(.agg [(.str [97,99,114,111,115,115]),(kU 103),(.bool true),(kU 0),(.bool false),(kI 0),(.bool false),(.func 92 [] [])]),2),((kU 4),(.agg [(.str [110,101,97,114]),(kU 103),(.bool true),(kU 0),(.bool true),(kI 1),(.bool false),(.func 93 [] [])]),3),((kU 5),(.agg [(.str [116,111,103,101,116,104,101,114]),(kU 103),(.bool true),(kU 0),(.bool false),(kI 0),(.bool false),(.func 94 [] [])]),4),((kU 6),(.agg [(.str [97,116]),(kU 103),(.bool false),(kU 116),(.bool false),(kI 0),(.bool false),(.func 95 [] [])]),5),((kU 7),(.agg [(.str [115,101,97,116]),(kU 103),(.bool false),(kU 116),(.bool true),(kI 0),(.bool true),(.func 96 [] [])]),6),((kU 8),(.agg [(.str [97,108,116,101,114,110,97,116,101]),(kU 0),(.bool false),(kU 101),(.bool false),(kI 0),(.bool false),(.func 97 [] [])]),7),((kU 9),(.agg [(.str [104,111,115,116]),(kU 0),(.bool false),(kU 101),(.bool false),(kI 0),(.bool false),(.func 98 [] [])]),8),((kU 10),(.agg [(.str [114,101,97,99,104]),(kU 101),(.bool false),(kU 0),(.bool false),(kI 0),(.bool false),(.func 99 [] [])]),9),((kU 11),(.agg [(.str [115,112,101,97,107]),(kU 0),(.bool false),(kU 101),(.bool false),(kI 0),(.bool false),(.func 100 [] [])]),10),((kU 12),(.agg [(.str [112,101,97,99,101]),(kU 0),(.bool false),(kU 101),(.bool false),(kI 0),(.bool false),(.func 101 [] [])]),11),((kU 13),(.agg [(.str [99,111,109,112,97,110,121]),(kU 0),(.bool false),(kU 101),(.bool false),(kI 0),(.bool false),(.func 102 [] [])]),12),((kU 14),(.agg [(.str [104,111,110,111,117,114]),(kU 0),(.bool false),(kU 101),(.bool false),(kI 0),(.bool false),(.func 103 [] [])]),13),((kU 15),(.agg [(.str [102,105,108,108]),(kU 0),(.bool false),(kU 101),(.bool true),(kI 0),(.bool false),(.func 104 [] [])]),14),((kU 16),(.agg [(.str [108,105,109,105,116]),(kU 0),(.bool false),(kU 101),(.bool true),(kI 0),(.bool false),(.func 105 [] [])]),15),((kU 17),(.agg [(.str [107,105,116,99,104,101,110]),(kU 100),(.bool false),(kU 116),(.bool false),(kI 0),(.bool false),(.func 106 [] [])]),16),((kU 18),(.agg [(.str [109,105,120]),(kU 0),(.bool false),(kU 101),(.bool false),(kI 0),(.bool false),(.func 107 [] [])]),17)] 18)),
   ((key 5682),(.cells [(kU 14),(kI 0),(.str []),(.str []),(.str [114]),(kI 0),(kU 11),(kI 0),(.str []),(.str []),(.str [114]),(kI 0),(kU 9),(kI 1),(.str []),(.str []),(.str []),(kI 0),(kU 15),(kI 10),(.str []),(.str []),(.str [119]),(kI 2),(kU 15),(kI 100),(.str []),(.str []),(.str []),(kI 4)] 0)),
   ((key 5680),(.cells [(kI 0),(kI 1),(kI 1),(kI 2)] 0)),
   ((key 5678),(.cells [(.str [97,110,110,97]),(.str [98,111,114,105,115]),(kU 2)] 0)),
   ((key 5676),(.cells [(.str [108,97,116,105,110])] 0)),
   ((key 5674),(.cells [(.str [108,97,116,105,110])] 0)),
   ((key 5672),(.cells [(.str [108,97,116,105,110])] 0)),
   ((key 5670),(.cells [(.str [97,110,110,97]),(.str []),(.str []),(kI 0),(kI 1),(.str []),(.bool true),(.bool false),(kN 5672 1 1),(.str [98,111,114,105,115]),(.str []),(.str []),(kI 0),(kI 1),(.str []),(.bool false),(.bool false),(kN 5674 1 1),(.str [99,97,114,108]),(.str []),(.str []),(kI 0),(kI 2),(.str []),(.bool false),(.bool true),(kN 5676 1 1),(.str [100,111,114,97]),(.str []),(.str []),(kI 0),(kI 0),(.str []),(.bool false),(.bool false),.af] 0)),
   ((key 5668),(.cells [(kI 1)] 0)),
   ((key 5666),(.cells [(.str [114]),(kU 1),(kI 6),(kI 0),(kN 5668 1 1),(kI 0),(kI 0),(.str [119]),(kU 4),(kI 2),(kI 0),.af,(kI 0),(kI 0)] 0)),
   ((key 5684),(.cells [(kN 5666 2 7),(kN 5670 4 9),(kN 5678 1 3),(kN 5680 4 1),(kN 5682 5 6),(.map (key 5683)),(kN 9134 8 1),(kN 9170 8 1),(kN 9191 8 1),(kN 9281 8 1),(kN 9369 8 1),(kN 9506 8 1),(kN 9894 4 1),(kN 9896 4 1)] 0))]⟩
theorem avn:abO YG ar2 gg 100000 60 18=true:=by kernel_rfl
theorem auF:abN YG.L0 YG.L1=true:=by kernel_rfl
end
end Go.Proofs.YtgihekklfnjkiaaGreatDoor
namespace Go.Proofs
section
set_option maxRecDepth 1000000
open Go Go.RowKit Go.Shelf Go.Ai Go.Proofs.YtgihekklfnjkiaaGreatDoor
def ay.Bg(t:List Nat):ByteArray:=⟨(t.map UInt8.ofNat).toArray⟩
theorem ay.BL{t:List Nat}{bs:ByteArray}(h:bs.data.toList.map UInt8.toNat=t):bs=ay.Bg t:=by
 unfold ay.Bg;rw[amU h]
structure ay.RR where
 k:Nat
 wt:Int
 a:ByteArray
 b:ByteArray
 t:ByteArray
 n:Int
def ay.RR.val(r:ay.RR):Value:= .agg #[.int .u8 r.k,.int .i64 r.wt,.string r.a,.string r.b,.string r.t,.int .i64 r.n]
def ay.valOf:Int ⊕ ay.RR->Value
 |.inl e=>.tuple #[.agg #[.int .u8 0,.int .i64 0,.string ⟨#[]⟩,.string ⟨#[]⟩,.string ⟨#[]⟩,.int .i64 0],.int .i64 e]
 |.inr r=>.tuple #[r.val,.int .i64 0]
def ay.dec:AV->Option (Int ⊕ ay.RR)
 |  .tuple [.agg [.int .u8 (.ofNat k),.int .i64 wt,.str a,.str b,.str t,.int .i64 n],.int .i64 (.ofNat e)]=>match e with
    |0=>some (.inr ⟨k,wt,ay.Bg a,ay.Bg b,ay.Bg t,n⟩)
    |e+1=>match k,wt,a,b,t,n,Nat.blt e 100 with
     |0,.ofNat 0,[],[],[],.ofNat 0,true=>some (.inl ((e+1:Nat):Int))
     |_,_,_,_,_,_,_=>none
 |_=>none
theorem ay.atC{v:AV}{r:Int ⊕ ay.RR}(h:ay.dec v=some r){ρ:Pos->Go.Ai.Loc}{n:Nat}{C:Cells}{y:Value}(hv:aC ρ n C v y):y=ay.valOf r:=by
 unfold ay.dec at h;split at h<;>first|(cases h;done)|skip
 obtain⟨cs,rfl,hw⟩:=hv.Ve;obtain⟨x,xs,h1,hx,hw⟩:=hw.cons_inv;obtain⟨y,ys,rfl,hy,hw⟩:=hw.cons_inv;have:=hw.ku;subst this;have eW:cs= #[x,y]:=by apply Zm6;simpa using h1
 subst eW;obtain⟨ds,rfl,hz⟩:=hx.Fk;obtain⟨x1,xs,g1,hx1,hz⟩:=hz.cons_inv;obtain⟨x2,xs,rfl,Zl,hz⟩:=hz.cons_inv;obtain⟨x3,xs,rfl,hx3,hz⟩:=hz.cons_inv;obtain⟨x4,xs,rfl,hx4,hz⟩:=hz.cons_inv;obtain⟨x5,xs,rfl,hx5,hz⟩:=hz.cons_inv;obtain⟨x6,xs,rfl,hx6,hz⟩:=hz.cons_inv;have:=hz.ku;subst this;have OP:ds= #[x1,x2,x3,x4,x5,x6]:=by apply Zm6;simpa using g1
 subst OP;have:=hx1.iq;subst this;have:=Zl.iq;subst this;obtain⟨a,rfl,ha⟩:=hx3.ff;obtain⟨b,rfl,hb⟩:=hx4.ff;obtain⟨t,rfl,ht⟩:=hx5.ff;have:=hx6.iq;subst this;have:=hy.iq;subst this;split at h
 .cases h;rw[<-ay.BL ha, <-ay.BL hb, <-ay.BL ht];rfl
 . (split at h<;>first|(cases h;done)|skip);cases h;rw[ay.BL ha,ay.BL hb,ay.BL ht];rfl
theorem ay.atD{v:AV}{e:Int}(h:ay.dec v=some (.inl e)):1<=e/\e<=100:=by
 unfold ay.dec at h;split at h<;>first|(cases h;done)|skip
 split at h<;>first|(cases h;done)|skip
 split at h<;>first|(cases h;done)|skip
 rename_i aV;cases h;have:=Zb5 aV;omega
noncomputable def ay.arl:eP:=vw [(157,afR Tryz.prog tt (vw []) gg 100000 60 Tryz.f157),(231,idxS),(250,ak0)]
@[irreducible] noncomputable def ay.af3(x:ByteArray):Option (Int ⊕ ay.RR):=MF none ay.arl gg 100000 60 84 [.str (x.data.toList.map UInt8.toNat)] { heap:= .e,next:= .h } λv _=>ay.dec v
noncomputable def ay.okL(x:ByteArray):Bool:=(ay.af3 x).isSome
@[irreducible] noncomputable def ay.wm(x:ByteArray):Int ⊕ ay.RR:=(ay.af3 x).getD (.inl 1)
def ay.ar3(x:ByteArray)(w:World)(e:Ending)(w':World):Prop:=e= .returned (ay.valOf (ay.wm x))/\Below w.heap.size w w'
theorem ay.arn{x:ByteArray}{e:Int}(hq:ay.okL x=true)(h:ay.wm x= .inl e):1<=e/\e<=100:=by
 unfold ay.wm at h;obtain⟨r,hr⟩:=Zn4.1 hq;rw[hr]at h;unfold ay.af3 at hr;rw[Ft none ay.arl gg 100000 60]at hr;unfold uu at hr;split at hr<;>first|(cases hr;done)|skip
 subst h;exact ay.atD hr
theorem ay.line(x:ByteArray)(hq:ay.okL x=true)(w:World):Calls Tryz.prog 84 #[.string x] w (ay.ar3 x w):=by
 unfold ay.ar3 ay.wm;obtain⟨r,hr⟩:=Zn4.1 hq;rw[hr];unfold ay.af3 at hr;rw[Ft none ay.arl gg 100000 60]at hr;unfold uu at hr;split at hr<;>first|(cases hr;done)|skip
 rename_i y hy;obtain⟨v,bD⟩:=y;have hm:Tryz.prog.follows .mixedOrders=true:=by kernel_rfl
 have h0:=yq (P:=Tryz.prog) (C:=λ_=>none) (l:=[]) (λx hx=>by simp at hx);have ho:=yq (P:=Tryz.prog) (C:=λ_=>none) (l:=[(157,afR Tryz.prog tt (vw []) gg 100000 60 Tryz.f157),(231,idxS),(250,ak0)]) (λx hx=>by
  simp only[Za9,Zc3,Zf0]at hx;rcases hx with rfl|rfl|rfl
  .exact apF hm Tn h0.1 h0.2 To Tryz.func157 (by kernel_rfl)
  .exact apD (fn:=Tryz.f231) Tryz.func231 (by kernel_rfl) (by kernel_rfl) (by kernel_rfl) (by kernel_rfl)
  .exact apE (fn:=Tryz.f250) Tryz.func250 (by kernel_rfl) (by kernel_rfl) (by kernel_rfl) (by kernel_rfl))
 have hs:=CL hm Tn ho.1 ho.2 To 100000 60 (λ_=>⟨0,0,0⟩) { heap:= .e,next:= .h } w 84 _ v bD [.string x] hy (Gp (λ_ _ h=>by cases h) (λ_ _ h=>by cases h)) (aJ.nil.cons (.str _ x rfl));have dJ:(callFunc 84 ([Value.string x]:List Value).toArray).run Tryz.prog w= .ok (.enter 84 #[.string x]) w:=enters_of Tryz.func84 (by kernel_rfl) rfl _ _;rw[dJ]at hs;refine Calls.mono hs λe w' he=> ?_
 cases e with
 |returned z=>
  obtain⟨ρ',h1,_,_,_,hE⟩:=he;exact⟨congrArg Ending.returned (ay.atC hr h1),hE.os,hE.tape,hE.output,hE.size,λk hk=>hE.block k hk λb x hb=>by rw[T.dN]at hb;cases hb⟩
 |panicked c=>exact he.elim
 |outgrown=>exact he.elim
end
end Go.Proofs
namespace Go.ay
section
open Go Go.RowKit
def Is(w:World)(n:Nat)(T:TypeId)(cs:Array Value):Prop:=w.heap[n]? =some (.cells cs T (0,0))
section
variable{w w':World}{n m o:Nat}{T:TypeId}{cs:Array Value}{v:Value}
theorem Is.cell(h:Is w n T cs)(o:Nat):w.cell? ⟨n,o,none⟩=cs[o]? :=by unfold Is at h;simp[World.cell?,h]
theorem Is.frozen(h:Is w n T cs)(o:Nat):w.frozen? ⟨n,o,none⟩=false:=by unfold Is at h;simp[World.frozen?,h]
theorem Is.lt(h:Is w n T cs):n<w.heap.size:=(Zd2.1 h).1
theorem Is.new(w:World)(T:TypeId)(cs:Array Value):Is (w.alloc (.cells cs T)) w.heap.size T cs:=by show(w.heap.push _)[w.heap.size]? =_;simp
theorem Is.alloc(h:Is w n T cs)(x:Obj):Is (w.alloc x) n T cs:=by
 have:=h.lt;unfold Is at h ⊢;rw[<-h];show(w.heap.push _)[n]? =_;simp[Zq0,Nat.ne_of_lt this]
theorem Is.drew(h:Is w n T cs):Is w.drew n T cs:=h
theorem Is.set(h:Is w n T cs)(o:Nat)(v:Value):Is (w.setCell ⟨n,o,none⟩ v) n T (cs.setIfInBounds o v):=by
 have:=h.lt;unfold Is at h ⊢;have hm:=Zd2.1 h;simp[World.setCell,Zj1,h]
theorem Is.other(h:Is w n T cs)(cN:m≠n)(o:Nat)(v:Value):Is (w.setCell ⟨m,o,none⟩ v) n T cs:=by
 unfold Is at h ⊢;rw[<-h];simp[World.setCell,Zj1,cN]
theorem Is.below{B:Nat}(h:Is w n T cs)(hb:Below B w w')(hn:n<B):Is w' n T cs:=by unfold Is at h ⊢; rw[hb.block n hn];exact h
theorem Is.of_heap(h:Is w n T cs)(e:w'.heap[n]? =w.heap[n]?):Is w' n T cs:=by unfold Is at h ⊢; rw[e];exact h
theorem Is.cast{mJ:Array Value}(h:Is w n T cs)(e:cs=mJ):Is w n T mJ:=e ▸h
theorem Is.one{a:Value}(h:Is w n T #[a]):w.cell? ⟨n,0,none⟩=some a:=h.cell 0
theorem WN(e:w'.heap[n]? =w.heap[n]?)(o:Nat):w'.cell? ⟨n,o,none⟩=w.cell? ⟨n,o,none⟩:=by simp[World.cell?,e]
theorem heap_alloc(w:World)(x:Obj)(hn:n<w.heap.size):(w.alloc x).heap[n]? =w.heap[n]? :=by show(w.heap.push _)[n]? =_;simp[Zq0,Nat.ne_of_lt hn]
theorem ajo(cN:m≠n)(o:Nat)(v:Value):(w.setCell ⟨m,o,none⟩ v).heap[n]? =w.heap[n]? :=by simp[World.setCell,Zj1,cN]
end
end
end Go.ay
namespace Go.Proofs
section
open Go.Shelf
def Tryz.ajp:Go.Shelf.Ren:=⟨λ|137=>153|217=>198|266=>231|n=>n,λ|9=>9|5=>5|3=>3|n=>n,λ|n=>n⟩
theorem Tryz.atE:Go.Proofs.Lays.n137 Tryz.prog Tryz.ajp:={
 mixed:=by kernel_rfl
 f137:=Tryz.func153.trans (congrArg some (by kernel_rfl))
 f217:=Tryz.func198.trans (congrArg some (by kernel_rfl))
 f266:=Tryz.func231.trans (congrArg some (by kernel_rfl))
 t3:=Tryz.underlying3
 a3:=Tryz.isAgg3
 z3:=Tryz.sizeOf3
 v3:=Tryz.zeroValue3
 t5:=Tryz.underlying5
 a5:=Tryz.isAgg5
 z5:=Tryz.sizeOf5
 v5:=Tryz.zeroValue5
 t9:=Tryz.underlying9
 a9:=Tryz.isAgg9
 z9:=Tryz.sizeOf9
 v9:=Tryz.zeroValue9 }
open Go.RowKit in
theorem Tryz.strings_IndexByte(s:ByteArray)(c:Int)(w:World):
 Calls Tryz.prog 153 #[.string s,.int .u8 c] w λe w'=>e= .returned (.int .i64 (Lib.indexByte s.data.toList c.toNat.toUInt8))/\w'=w:=Any.strings_IndexByte Tryz.atE s c w
open Go.RowKit Go.Lib in
def Tryz.aiG:Go.Shelf.Ren:=⟨λ|219=>251|217=>198|225=>254|224=>255|267=>256|266=>231|314=>257|n=>n,λ|9=>9|3=>3|4=>4|5=>5|46=>139|146=>223|51=>102|n=>n,λ|1=>0|n=>n⟩
theorem Tryz.aro:Go.Proofs.LaysM.n219 Tryz.prog Tryz.aiG:={
 mixed:=by kernel_rfl
 f217:=Tryz.func198.trans (congrArg some (by kernel_rfl))
 f219:=Tryz.func251.trans (congrArg some (by kernel_rfl))
 f224:=Tryz.func255.trans (congrArg some (by kernel_rfl))
 f225:=Tryz.func254.trans (congrArg some (by kernel_rfl))
 f266:=Tryz.func231.trans (congrArg some (by kernel_rfl))
 f267:=Tryz.func256.trans (congrArg some (by kernel_rfl))
 f314:=Tryz.func257.trans (congrArg some (by kernel_rfl))
 t3:=Tryz.underlying3
 a3:=Tryz.isAgg3
 z3:=Tryz.sizeOf3
 v3:=Tryz.zeroValue3
 t4:=Tryz.underlying4
 a4:=Tryz.isAgg4
 z4:=Tryz.sizeOf4
 v4:=Tryz.zeroValue4
 t5:=Tryz.underlying5
 a5:=Tryz.isAgg5
 z5:=Tryz.sizeOf5
 v5:=Tryz.zeroValue5
 t9:=Tryz.underlying9
 a9:=Tryz.isAgg9
 z9:=Tryz.sizeOf9
 v9:=Tryz.zeroValue9
 t46:=Tryz.underlying139
 a46:=Tryz.isAgg139
 z46:=Tryz.sizeOf139
 v46:=Tryz.zeroValue139
 t51:=Tryz.underlying102
 a51:=Tryz.isAgg102
 z51:=Tryz.sizeOf102
 v51:=Tryz.zeroValue102
 t146:=Tryz.underlying223
 a146:=Tryz.isAgg223
 z146:=Tryz.sizeOf223
 v146:=Tryz.zeroValue223
 g1:=by kernel_rfl
 i3:=by kernel_rfl
 i4:=by kernel_rfl
 i5:=by kernel_rfl
 i9:=by kernel_rfl
 i46:=by kernel_rfl
 i51:=by kernel_rfl
 i146:=by kernel_rfl
 m1:=by kernel_rfl
 s1_3:=λw h=>Go.Proofs.cell_of_shapedOpen_int (zero:= #[.int .i64 0]) (t:=3) h (Zg1 (by kernel_rfl)) (by kernel_rfl) rfl (by kernel_rfl) (by kernel_rfl) Tryz.underlying3 }
end
end Go.Proofs
namespace Go.ay
section
open Go Go.RowKit
variable{F:Fence}{n:Nat}{P:Program}
structure Uv(b:Nat)(W W':World):Prop where
 cell:W'.cell? ⟨b,0,none⟩=W.cell? ⟨b,0,none⟩
 dS:W'.frozen? ⟨b,0,none⟩=W.frozen? ⟨b,0,none⟩
theorem Uv.trans{b:Nat}{A B C:World}(h:Uv b A B)(k:Uv b B C):Uv b A C:=⟨k.cell.trans h.cell,k.dS.trans h.dS⟩
theorem Uv.putObj{b l:Nat}{W:World}(o:Obj)(h:b≠l):Uv b W (W.putObj l o):=by
 have:(W.putObj l o).heap[b]? =W.heap[b]? :=World.putObj_heap_other h;exact⟨by simp[World.cell?,this],by simp[World.frozen?,this]⟩
def ED(b:Nat){β:Type}(J:β->World->Prop):Prop:=∀s W v,J s W->J s (W.setCell ⟨b,0,none⟩ v)
def SeqC{α:Type}(F:Fence)(n:Nat)(P:Program)(g b:Nat)(lb:Array Value)(encs:α->Array Value)(xs:List α)(w:World):Prop:=
 ∀  (l:Nat)(J Jx:List α->World->Prop)(W:World),Below w.heap.size w W->AbidesFrom W.heap.size J->AbidesFrom W.heap.size Jx->ED b J->ED b Jx->
    (∀pre x W1,J pre W1->pre++[x] <+: xs->YieldAt F (n - 1) P l (encs x) W1 λe W'=>
     (e= .returned (.bool true)/\J (pre++[x]) W'/\Uv b W1 W')\/(e= .returned (.bool false)/\Jx (pre++[x]) W'))->
    J [] W->
    CallsIn F n P g (#[.func (.yield l) #[] #[]]++lb) W λe W'=>(∃v,e= .returned v)/\(J xs W'\/∃pre,pre <+: xs/\Jx pre W')
def aoT{α:Type}(b B:Nat)(I:List α->World->Prop)(Ix:List α->World->Prop)(xs:List α)(W:World):Exit->Act->World->Prop
 |.normal,_,W'=>KeepsFrom B W W'/\Uv b W W'/\I xs W'
 |.ret,_,W'=>KeepsFrom B W W'/\Ix xs W'
 |_,_,_=>False
theorem ajq{α:Type}{g:Operand}{ps:Array Tmp}{assign body:Code}{Q:Exit->Act->World->Prop}{a:Act}{w:World}
   (Zw:F.round=none) (h1:1<=n) {gf b:Nat} {lb:Array Value} (hg:a.eval g= .func (.func gf) #[] lb) (hFg:F.fn gf) (eg:∀args w,(callFunc gf args).run P w= .ok (.enter gf args) w)
   {encs:α->Array Value} {xs:List α} (hseq:SeqC F (n - 1) P gf b lb encs xs w) (hbw:b<w.heap.size) (hps:∀x,(encs x).size=ps.size)
   (I:List α->World->Prop) (Ix:List α->World->Prop) (hI:OwnFrom w.heap.size I) (hIx:OwnFrom w.heap.size Ix) (hIs:ED b I) (hIxs:ED b Ix) (h0:I [] w) (a₁:α->Act)
   (atF:∀(l:Nat)(x:α)(W:World)(K:Act->World->Prop),K (a₁ x) W->
     assign.wpIn (F.inRound l) (n - 1 - 1) P (Exit.then K (λ_ _ _=>False)) { tmps:=(ps.zip (encs x)).foldl (λt (p,v)=>t.setIfInBounds p v) a.tmps,defers:=[] } W)
   (ak1:∀(l:Nat)(pre:List α)(x:α)(W:World),I pre W->pre++[x] <+: xs->w.heap.size<=W.heap.size->body.wpIn (F.inRound l) (n - 1 - 1) P (aoT b w.heap.size I Ix (pre++[x]) W) (a₁ x) W)
   (akZ:∀(D:Nat)(W:World),w.heap.size<=D->I xs W->W.heap[D]? =some (.deferred (some []))->Q .normal { a with defers:={ target:= .collected D,args:= #[] }::a.defers } W)
   (avo:∀(D:Nat)(pre:List α)(W:World),w.heap.size<=D->pre <+: xs->Ix pre W->W.heap[D]? =some (.deferred (some []))->Code.ret.wpIn F n P Q { a with defers:={ target:= .collected D,args:= #[] }::a.defers } W):
   (Code.rangeFunc g ps assign body).wpIn F n P Q a w:=by
 refine wpIn_rangeFunc λfn Gm=> ?_
 rw[Zw]
 let abl:LoopState->Option Code->Loop:=λst pe=>{ state:=st,pending:=pe,fn,tmps:=a.tmps,params:=ps,assign,body,defers:=w.heap.size }
 let L:Nat:=w.heap.size+1
 let W1:World:=(w.alloc (.deferred (some []))).alloc (.loop (abl .ready none))
 have hL1:W1.heap[L]? =some (.loop (abl .ready none)):=by have:=World.alloc_heap_new (w.alloc (.deferred (some []))) (.loop (abl .ready none));rwa [World.size_alloc]at this
 have hK1:W1.heap[w.heap.size]? =some (.deferred (some [])):=(Below.heap_alloc _ _ _ (by simp)).trans (World.alloc_heap_new w _);have hWs:W1.heap.size=w.heap.size+1+1:=by show((w.alloc _).alloc _).heap.size=_;simp
 have kg:Below w.heap.size w W1:=((Below.refl _ w).alloc (Za3 _) _).alloc (by simp) _
 let J:List α->World->Prop:=λpre W=>I pre W/\W.heap[L]? =some (.loop (abl .ready none))/\W.heap[w.heap.size]? =some (.deferred (some []))/\w.heap.size<=W.heap.size
 let Jx:List α->World->Prop:=λpre W=>Ix pre W/\W.heap[L]? =some (.loop (abl .done (some .ret)))/\W.heap[w.heap.size]? =some (.deferred (some []))/\w.heap.size<=W.heap.size
 have up:∀{A:World}{row:Option Nat},(∀r,row=some r->W1.heap.size<=r/\∃o:Obj,A.heap[r]? =some o/\o.isWalk=true)->∀r,row=some r->w.heap.size<=r/\∃o:Obj,A.heap[r]? =some o/\o.isCells=false:=
   λhr r e=>by obtain⟨q,o,ho,hw⟩:=hr r e;exact⟨by omega,o,ho,Obj.not_cells_of_walk hw⟩
 have hJ:AbidesFrom W1.heap.size J:=λs A B row hs tR hr=>
   ⟨hI s A B row hs.1 tR (up hr),(grownBy_keeps tR (λr e=>(hr r e).2) hs.2.1 rfl).trans hs.2.1,(grownBy_keeps tR (λr e=>(hr r e).2) hs.2.2.1 rfl).trans hs.2.2.1,Zb3 hs.2.2.2 tR.size⟩
 have hJx:AbidesFrom W1.heap.size Jx:=λs A B row hs tR hr=>
   ⟨hIx s A B row hs.1 tR (up hr),(grownBy_keeps tR (λr e=>(hr r e).2) hs.2.1 rfl).trans hs.2.1,(grownBy_keeps tR (λr e=>(hr r e).2) hs.2.2.1 rfl).trans hs.2.2.1,Zb3 hs.2.2.2 tR.size⟩
 have HZ:∀(W:World)(v:Value)(k:Nat),w.heap.size<=k->(W.setCell ⟨b,0,none⟩ v).heap[k]? =W.heap[k]? :=λW v k hk=>Below.heap_setCell W _ v k (by show k≠b;omega)
 have hJs:ED b J:=λs W v hs=>⟨hIs s W v hs.1,(HZ _ _ _ (by show w.heap.size<=w.heap.size+1;omega)).trans hs.2.1,(HZ _ _ _ (Za3 _)).trans hs.2.2.1,by rw[World.size_setCell];exact hs.2.2.2⟩
 have hJxs:ED b Jx:=λs W v hs=>⟨hIxs s W v hs.1,(HZ _ _ _ (by show w.heap.size<=w.heap.size+1;omega)).trans hs.2.1,(HZ _ _ _ (Za3 _)).trans hs.2.2.1,by rw[World.size_setCell];exact hs.2.2.2⟩
 refine⟨L,[{ target:= .collected w.heap.size,args:= #[] }],W1,{ target:= .fn (.func gf) lb,args:= #[.func (.yield L) #[] #[]] },W1,gf, #[.func (.yield L) #[] #[]]++lb,W1,run_enterLoop_outer _ _ _ _ _,?_,?_,?_,λ_=>h1,?_⟩
 .simp only[resolve,hg];simp[go_sem]
 .intro f' hf';simp[Target.leads]at hf';subst hf';exact hFg
 .simp[invoke,go_sem,eg]
 refine(hseq L J Jx W1 kg hJ hJx hJs hJxs ?_ ⟨hI.alloc _ (hI.alloc _ h0),hL1,hK1,by omega⟩).mono ?_
 ·
   rintro pre x W ⟨hi,hl,hk,fQ⟩ abm;have aV:L<W.heap.size:=(Zd2.1 hl).1;refine⟨fn,_,assign,body,run_yield (P:=P) (args:=encs x) hl (hps x),roundIn_of_wpIn Gm (atF _ x W _ ⟨_,run_beginRound hl rfl,?_⟩)⟩;have hneL:b≠L:=by show b≠w.heap.size+1;omega
   let W2:World:=W.putObj L (.loop { abl .ready none with state:= .busy })
   have ri:W2.heap[L]? =some (.loop { abl .ready none with state:= .busy }):=World.putObj_heap_same aV;have tS:W2.heap[w.heap.size]? =some (.deferred (some [])):=(World.putObj_heap_other (by show w.heap.size≠w.heap.size+1;omega)).trans hk;have arp:w.heap.size<=W2.heap.size:=Zb3 fQ (grownBy_putObj' W L _).size;refine wpIn_mono (ak1 L pre x W2 (hI.putObj _ hi (by show w.heap.size<=w.heap.size+1;omega) hl rfl) abm arp) ?_;rintro e a3 W3 hp;cases e with
   | normal=>
     obtain⟨Dj,hkp3,hi3⟩:=hp;have hl3:=Dj.same _ _ (by show w.heap.size<=w.heap.size+1;omega) ri rfl;have als:=(Zd2.1 hl3).1;exact⟨_,_,run_endRound (P:=P) none hl3,.inl ⟨rfl,⟨hI.putObj _ hi3 (by show w.heap.size<=w.heap.size+1;omega) hl3 rfl,World.putObj_heap_same als,(World.putObj_heap_other (by show w.heap.size≠w.heap.size+1;omega)).trans (Dj.same _ _ (Za3 _) tS rfl),Zb3 (Zb3 arp Dj.size) (grownBy_putObj' W3 L _).size⟩,
        ((Uv.putObj _ hneL).trans hkp3).trans (Uv.putObj _ hneL)⟩⟩
   | ret=>
     obtain⟨Dj,hi3⟩:=hp;have hl3:=Dj.same _ _ (by show w.heap.size<=w.heap.size+1;omega) ri rfl;have als:=(Zd2.1 hl3).1;exact⟨_,_,run_endRound (P:=P) (some .ret) hl3,.inr ⟨rfl,hIx.putObj _ hi3 (by show w.heap.size<=w.heap.size+1;omega) hl3 rfl,World.putObj_heap_same als,(World.putObj_heap_other (by show w.heap.size≠w.heap.size+1;omega)).trans (Dj.same _ _ (Za3 _) tS rfl),Zb3 (Zb3 arp Dj.size) (grownBy_putObj' W3 L _).size⟩⟩
   |exit id=>exact hp.elim
   |goto t=>exact hp.elim
   |panic ch=>exact hp.elim
   |outgrown=>exact hp.elim
 ·
   rintro e W2 ⟨⟨v,rfl⟩,(⟨hi,hl,hk,_⟩|⟨pre,abm,hi,hl,hk,_⟩)⟩
   .exact⟨none,_,run_endLoop (P:=P) hl (by show LoopState.ready≠LoopState.busy;simp),akZ _ _ (Za3 _) (hI.putObj _ hi (by show w.heap.size<=w.heap.size+1;omega) hl rfl) ((World.putObj_heap_other (by show w.heap.size≠w.heap.size+1;omega)).trans hk)⟩
   .exact⟨some .ret,_,run_endLoop (P:=P) hl (by show LoopState.done≠LoopState.busy;simp),avo _ pre _ (Za3 _) abm (hIx.putObj _ hi (by show w.heap.size<=w.heap.size+1;omega) hl rfl) ((World.putObj_heap_other (by show w.heap.size≠w.heap.size+1;omega)).trans hk)⟩
end
end Go.ay
section
namespace Go.ay
open Go
def xE(s:ByteArray):Int:=Lib.indexByte s.data.toList 10
def wL:Nat->ByteArray->List ByteArray
 |0,_=>[]
 |f+1,s=>if s.size=0 then []else if xE s<0 then [s]else s.extract 0 ((xE s).toNat+1)::wL f (s.extract ((xE s).toNat+1) s.size)
def gu(s:ByteArray):List ByteArray:=wL s.size s
theorem atG(s:ByteArray): -1<=xE s:=Lib.indexByte_ge _ _
theorem atH(s:ByteArray)(h:0<=xE s):(xE s).toNat<s.size:=by
 have e:xE s=((xE s).toNat:Int):=by omega
 have:=(Lib.indexByte_some (l:=s.data.toList) (c:=10) (o:=(xE s).toNat) e).1;have:=(Za1.1 this).1;simpa using this
theorem aaj:∀(f g:Nat)(s:ByteArray),s.size<=f->s.size<=g->wL f s=wL g s
 |0,0,_,_,_=>rfl
 |0,g+1,s,h,_=>by
  have:s.size=0:=by omega
  simp[wL,this]
 |f+1,0,s,_,h=>by
  have:s.size=0:=by omega
  simp[wL,this]
 |f +1,g+1,s,h1,h2=>by
  unfold wL;split
  .rfl
  . split
    .rfl
    .rw[aaj f g _ (by simp;omega) (by simp;omega)]
theorem acW{s:ByteArray}(h:s.size=0):gu s=[]:=by unfold gu;rw[h];rfl
theorem ajr{s:ByteArray}(h:s.size≠0)(hi:xE s<0):gu s=[s]:=by
 unfold gu;obtain⟨k,hk⟩:∃k,s.size=k+1:=⟨s.size - 1,by omega⟩
 rw[hk];simp only[wL];rw[Za6 h,Zb4 hi]
theorem amo{s:ByteArray}(h:s.size≠0)(hi:0<=xE s):gu s=s.extract 0 ((xE s).toNat+1)::gu (s.extract ((xE s).toNat+1) s.size):=by
 unfold gu;obtain⟨k,hk⟩:∃k,s.size=k+1:=⟨s.size - 1,by omega⟩
 conv=>lhs;rw[hk]
 simp only[wL];rw[Za6 h,Za6 (by omega)];rw[aaj k _ _ (by simp;omega) (Za3 _)]
theorem aak:∀(f:Nat)(s x:ByteArray),x∈wL f s->x.size<=s.size
 |0,_,_,h=>by simp[wL]at h
 |f +   1,s,x,h=>by
  unfold wL at h;split at h
  .simp at h
  . split at h
    .   simp at h;rw[h];exact Za3 _
    .   rcases Za9.1 h with rfl|h
        .simp;omega
        .have:=aak f _ x h;simp at this;omega
theorem ajs(s x:ByteArray)(h:x∈gu s):x.size<=s.size:=aak _ s x h
def aiH(w:World)(b:Nat):Nat:=match w.cell? ⟨b,0,none⟩with
 |some (.string r)=>r.size
 |_=>0
theorem NG{w:World}{b:Nat}{r:ByteArray}(h:w.cell? ⟨b,0,none⟩=some (.string r)):aiH w b=r.size:=by unfold aiH;rw[h]
end Go.ay
namespace Go.Proofs
open Go.RowKit Go.Shelf Go.ay
attribute [local go_sem] Oper.semAt_some
theorem ay.grown_drewN(w:World)(k:Nat):w.grownBy (w.drewN k) none:=⟨rfl,rfl,rfl,Za3 _,λ_ _ _=>rfl⟩
theorem ay.ar4(r:ByteArray)(w:World):Calls Tryz.prog 153 #[.string r,.int .u8 10] w λe w'=>e= .returned (.int .i64 (xE r))/\w=w':=(Tryz.strings_IndexByte r 10 w).mono λ_ _ h=>⟨h.1,h.2.symm⟩
theorem ay.atI(n:Nat)(l b:Nat)(s:ByteArray)(hs:s.size<=65536)(J Jx:List ByteArray->World->Prop)(W:World)(B0:Nat)(hJ:AbidesFrom B0 J)(hJx:AbidesFrom B0 Jx)(hJs:ED b J)
  (hY:∀pre x W1,J pre W1->pre++[x] <+: gu s->YieldAt Fence.wide (n - 1) Tryz.prog l #[.string x] W1 λe W'=>
    (e= .returned (.bool true)/\J (pre++[x]) W'/\Uv b W1 W')\/(e= .returned (.bool false)/\Jx (pre++[x]) W'))
  (hn:1<=n) (hb:W.cell? ⟨b,0,none⟩=some (.string s)) (hf:W.frozen? ⟨b,0,none⟩=false) (h0:J [] W):
  CallsIn Fence.wide n Tryz.prog 152 #[.func (.yield l) #[] #[],.pointer (some ⟨b,0,none⟩)] W λe W'=>(∃v,e= .returned v)/\(J (gu s) W'\/∃pre,pre <+: gu s/\Jx pre W'):=by
 have HY:=Lib.hid hY;clear hY;refine callsIn_of_wp Tryz.func152 rfl trivial ?_ rfl;simp only[Tryz.ntmps152,Zo3,Zc9,Zi6,Nat.reduceAdd,Nat.reduceSub,Array.replicate_succ,Array.replicate_zero,List.push_toArray,List.append_toArray,Ze0,Zd7]
 gi_wp2
 gi_loopw [3] (λ_ wr=>∃(pre:List ByteArray) (r:ByteArray),wr.cell? ⟨b,0,none⟩=some (.string r)/\wr.frozen? ⟨b,0,none⟩=false/\gu s=pre++gu r/\r.size<=s.size/\J pre wr) (λ_ wr=>aiH wr b)
 case atStart=>exact⟨[],s,hb,hf,rfl,Za3 _,h0⟩
 case round=>
  obtain⟨pre,r,hc,EF,Ao,hrs,hj⟩:=hrel;have HSP:=Lib.hid Ao;have HJ0:=Lib.hid hj;clear Ao hj;by_cases hr0:r.size=0
  . gi_wp2
    go_end0
    refine⟨⟨_,rfl⟩,.inl ?_⟩;rw[HSP.out,acW hr0,Ze1];exact HJ0.out
  . have hr1:0<r.size:=(by omega);have hge:=atG r;by_cases hi:xE r<0
    .   have HL:=Lib.hid (ajr hr0 hi);have hj1:=hJs _ _ (.string ⟨#[]⟩) HJ0.out;obtain⟨fn,tmps,assign,body,hy,hR⟩:=HY.out pre r _ hj1 (by rw[HSP.out,HL.out];exact List.prefix_refl _)
        gi_wp2_with (first|(refine⟨trivial,?_⟩;gi_at_call 153;refine(callsIn_wide.2 (ay.ar4 r _)).mono ?_;rintro e w' ⟨rfl,rfl⟩))
        refine hR.mono ?_;rintro e W3 (⟨rfl,hJ3,Dj⟩|⟨rfl,arq⟩)
        . have hc3:W3.cell? ⟨b,0,none⟩=some (.string ⟨#[]⟩):=Dj.cell.trans (World.cell?_setCell_same' _ _ _ (by rw[hc];rfl));have hf3:W3.frozen? ⟨b,0,none⟩=false:=Dj.dS.trans (by rw[World.frozen?_setCell];exact EF)
          gi_wp2
          go_roundw
          case rel=>exact⟨pre++[r],⟨#[]⟩,hc3,hf3,by rw[HSP.out,HL.out,acW (s:=⟨#[]⟩) rfl,Ze1],Zi1 _,hJ3⟩
          case measure=>rw[NG hc3,NG hc];exact hr1
        . gi_wp2
          refine bodyPost_ret (results_none rfl _ _ _) rfl ?_;exact⟨⟨_,rfl⟩,.inr ⟨pre++[r],by rw[HSP.out,HL.out];exact List.prefix_refl _,arq⟩⟩
    .   have aV:=atH r (by omega);obtain⟨i,hie⟩:∃i:Nat,xE r=i:=⟨(xE r).toNat,by omega⟩
        have HH:=Lib.hid (amo hr0 (by omega:0<=xE r));have HIX:=ay.ar4 r;rw[hie]at HIX;have HI:=Lib.hid HIX;clear HIX;have gJ:i<r.size:=(by omega);have HIE:=Lib.hid hie;clear hie hge hi aV
        gi_wp2_with (first|(refine⟨trivial,?_⟩;gi_at_call 153;refine(callsIn_wide.2 (HI.out _)).mono ?_;rintro e w' ⟨rfl,rfl⟩))
        gi_region
        have hj1:J pre (wr.setCell ⟨b,0,none⟩ (.string (r.extract (i+1) r.size))).drew:=hJ _ _ _ none (hJs _ _ (.string (r.extract (i+1) r.size)) HJ0.out) (ay.grown_drewN _ 1) (λ_ e=>by cases e);obtain⟨fn,tmps,assign,body,hy,hR⟩:=HY.out pre (r.extract 0 (i+1)) _ hj1 (by
          rw[HSP.out,HH.out,HIE.out];exact⟨gu (r.extract (i+1) r.size),by simp⟩)
        gi_wp2
        refine hR.mono ?_;rintro e W3 (⟨rfl,hJ3,Dj⟩|⟨rfl,arq⟩)
        . have hc3:W3.cell? ⟨b,0,none⟩=some (.string (r.extract (i+1) r.size)):=Dj.cell.trans (World.cell?_setCell_same' _ _ _ (by rw[hc];rfl));have hf3:W3.frozen? ⟨b,0,none⟩=false:=Dj.dS.trans (by show(wr.setCell _ _).frozen? _=false;rw[World.frozen?_setCell];exact EF)
          gi_wp2
          go_roundw
          case rel=>exact⟨pre++[r.extract 0 (i+1)],r.extract (i+1) r.size,hc3,hf3,by rw[HSP.out,HH.out,HIE.out];simp,by simp;omega,hJ3⟩
          case measure=>rw[NG hc3,NG hc];simp;omega
        . gi_wp2
          refine bodyPost_ret (results_none rfl _ _ _) rfl ?_;exact⟨⟨_,rfl⟩,.inr ⟨pre++[r.extract 0 (i+1)],by rw[HSP.out,HH.out,HIE.out];exact⟨gu (r.extract (i+1) r.size),by simp⟩,arq⟩⟩
end Go.Proofs
end
namespace Go.Proofs
section
open Go.RowKit Go.Shelf Go.ay
attribute [local go_sem] Oper.semAt_some
def ay.RR.cells(r:ay.RR):List Value:=[.int .u8 r.k,.int .i64 r.wt,.string r.a,.string r.b,.string r.t,.int .i64 r.n]
def ay.cellsOf(rs:List ay.RR):List Value:=rs.flatMap ay.RR.cells
theorem ay.aiI(rs:List ay.RR)(r:ay.RR):ay.cellsOf (rs++[r])=ay.cellsOf rs++r.cells:=by simp[ay.cellsOf]
theorem ay.aea(rs:List ay.RR):(ay.cellsOf rs).length=rs.length*6:=by
 induction rs with
 |nil=>rfl
 |cons r rs ih=>simp[ay.cellsOf]at ih ⊢; rw[ih];simp[ay.RR.cells];omega
noncomputable def ay.Tq:List ay.RR->List ByteArray->Int×Nat×List ay.RR
 |acc,[]=>(0,0,acc)
 |acc,x::xs=>match ay.wm x with
  |.inl e=>(e,acc.length,[])
  |.inr r=>if acc.length=64 then(7,64,[])else ay.Tq (acc++[r]) xs
noncomputable def ay.tr(s:ByteArray):Int×Nat×List ay.RR:=if 65536<s.size then(7,0,[])else ay.Tq [] (gu s)
theorem ay.XY:∀(p:List ByteArray)(rs acc:List ay.RR)(ys:List ByteArray),p.map ay.wm=rs.map Sum.inr->(acc++rs).length<=64->ay.Tq acc (p++ys)=ay.Tq (acc++rs) ys
 |[],rs,acc,ys,h,_=>by
  cases rs with
  |nil=>simp
  |cons r rs=>simp at h
 |x::p,rs,acc,ys,h,hl=>by
  cases rs with
  |nil=>simp at h
  |cons r rs=>
   simp only[Zd3,Zf9]at h;simp only[Zd8,Zc9]at hl;rw[Zd7,ay.Tq,h.1];simp only;rw[Za6 (by omega),ay.XY p rs (acc++[r]) ys h.2 (by simp;omega)];simp
theorem ay.atJ(s:ByteArray)(w:World):Calls Tryz.prog 83 #[.string s] w λe w'=>e= .returned (.func (.func 152) #[] #[.pointer (some ⟨w.heap.size,0,none⟩)])/\w'=w.alloc (.cells #[.string s] 9):=by
 go_enter Tryz.func83,Tryz.ntmps83
 go_wp2
 go_ret
 exact⟨rfl,rfl⟩
def ay.acX(w:World)(pre:List ByteArray)(W:World):Prop:=
 ∃  (rs:List ay.RR) (v:Value),pre.map ay.wm=rs.map Sum.inr/\rs.length<=64/\Is W w.heap.size 32 #[.slice none 0 0]/\Is W (w.heap.size+1) 3 #[.int .i64 0]/\Is W (w.heap.size+1+1) 47 #[.int .i64 0]/\
    Is W (w.heap.size+1+1+1) 32 #[v]/\W.ownsRow (w.heap.size+5) 40 6 v rs.length (ay.cellsOf rs)/\w.heap.size+5<=W.heap.size/\Below w.heap.size w W/\(rs=[]->v= .slice none 0 0)
def ay.acY(w:World)(s:ByteArray)(pre:List ByteArray)(W:World):Prop:=
 ∃(e:Int) (k:Nat),1<=e/\e<=100/\k<=64/\(∀ys,pre++ys=gu s->ay.Tq [] (gu s)=(e,k,[]))/\Is W w.heap.size 32 #[.slice none 0 0]/\Is W (w.heap.size+1) 3 #[.int .i64 k]/\Is W (w.heap.size+1+1) 47 #[.int .i64 e]/\w.heap.size+5<=W.heap.size/\Below w.heap.size w W
def ay.aoU(s:ByteArray)(w:World)(e:Ending)(w':World):Prop:=
 ∃v,e= .returned (.tuple #[v,.int .i64 (ay.tr s).2.1,.int .i64 (ay.tr s).1])/\w'.ownsRow w.heap.size 40 6 v (ay.tr s).2.2.length (ay.cellsOf (ay.tr s).2.2)/\Below w.heap.size w w'/\((ay.tr s).1≠0\/(ay.tr s).2.2=[]->v= .slice none 0 0)
theorem ay.tQ{W W':World}{n:Nat}{T:TypeId}{cs:Array Value}{row:Option Nat}(h:Is W n T cs)(hg:W.grownBy W' row)(cN:some n≠row):Is W' n T cs:=h.of_heap (hg.block n h.lt cN)
theorem ay.vn{W:World}{n:Nat}{T:TypeId}{cs:Array Value}{row:Option Nat}(h:Is W n T cs)(hr:∀r,row=some r->∃o:Obj,W.heap[r]? =some o/\o.isCells=false):some n≠row:=by
 intro e;obtain⟨o,ho,hc⟩:=hr n e.symm;unfold Is at h;rw[h]at ho;obtain rfl:Obj.cells cs T (0,0)=o:=by injection ho
 cases hc
theorem ay.amq{W:World}{base k size:Nat}{e:TypeId}{v:Value}{xs:List Value}{row:Option Nat}(h:W.ownsRow base e size v k xs)(hr:∀r,row=some r->∃o:Obj,W.heap[r]? =some o/\o.isCells=false):v.ownBlock=none\/v.ownBlock≠row:=by
 rcases h.2 with⟨rfl,_⟩|⟨g,cap,cur,rfl,_,hb,_⟩
 .exact .inl rfl
 .right;intro e;obtain⟨o,ho,hc⟩:=hr g (by rw[<-e];rfl);rw[hb]at ho;obtain rfl:Obj.cells cur _ (0,0)=o:=(by injection ho);cases hc
theorem ay.ae4{W W':World}{base k size:Nat}{e:TypeId}{v:Value}{xs:List Value}(h:W.ownsRow base e size v k xs)(hb:Below W.heap.size W W'):W'.ownsRow base e size v k xs:=
 h.kept (row:=none) ⟨hb.os,hb.tape,hb.output,hb.size,λi hi _=>hb.block i hi⟩ (by
  cases h0:v.ownBlock
  .exact .inl rfl
  .right;simp)
theorem ay.aal{B:Nat}{W W':World}(hb:Below W.heap.size W W'):KeepsFrom B W W':=⟨hb.size,λk o _ hk _=>(hb.block k (Zd2.1 hk).1).trans hk⟩
theorem ay.amr(w:World)(B0:Nat)(hB:w.heap.size<=B0):OwnFrom B0 (ay.acX w):=by
 rintro pre W W' row ⟨rs,v,h1,h2,i1,i2,i3,i4,gw,fQ,hb,hn⟩ hg hr;have oK:∀r,row=some r->∃o:Obj,W.heap[r]? =some o/\o.isCells=false:=λr e=>(hr r e).2
 exact⟨rs,v,h1,h2,ay.tQ i1 hg (ay.vn i1 oK),ay.tQ i2 hg (ay.vn i2 oK),ay.tQ i3 hg (ay.vn i3 oK),ay.tQ i4 hg (ay.vn i4 oK),
  gw.kept hg (ay.amq gw oK),Zb3 fQ hg.size,hb.grown hg (by omega) (λk e=>Zb3 hB (hr k e).1),hn⟩
theorem ay.ams(w:World)(s:ByteArray)(B0:Nat)(hB:w.heap.size<=B0):OwnFrom B0 (ay.acY w s):=by
 rintro pre W W' row ⟨e,k,h1,h2,h3,h4,i1,i2,i3,fQ,hb⟩ hg hr;have oK:∀r,row=some r->∃o:Obj,W.heap[r]? =some o/\o.isCells=false:=λr e=>(hr r e).2
 exact⟨e,k,h1,h2,h3,h4,ay.tQ i1 hg (ay.vn i1 oK),ay.tQ i2 hg (ay.vn i2 oK),ay.tQ i3 hg (ay.vn i3 oK),Zb3 fQ hg.size,hb.grown hg (by omega) (λk e=>Zb3 hB (hr k e).1)⟩
theorem ay.amt(w:World):ED (w.heap.size+1+1+1+1) (ay.acX w):=by
 rintro pre W x ⟨rs,v,h1,h2,i1,i2,i3,i4,gw,fQ,hb,hn⟩;exact⟨rs,v,h1,h2,i1.other (by omega) _ _,i2.other (by omega) _ _,i3.other (by omega) _ _,i4.other (by omega) _ _,ownsRow_setCell_below gw (by show w.heap.size+1+1+1+1<w.heap.size+5;omega) _,by rw[World.size_setCell];exact fQ,hb.setCell (by show w.heap.size<=w.heap.size+1+1+1+1;omega) _,hn⟩
theorem ay.amu(w:World)(s:ByteArray):ED (w.heap.size+1+1+1+1) (ay.acY w s):=by
 rintro pre W x ⟨e,k,h1,h2,h3,h4,i1,i2,i3,fQ,hb⟩;exact⟨e,k,h1,h2,h3,h4,i1.other (by omega) _ _,i2.other (by omega) _ _,i3.other (by omega) _ _,by rw[World.size_setCell];exact fQ,hb.setCell (by show w.heap.size<=w.heap.size+1+1+1+1;omega) _⟩
theorem ay.art{s:ByteArray}{pre:List ByteArray}{x:ByteArray}{rs:List ay.RR}{e:Int}(h:pre.map ay.wm=rs.map Sum.inr)(hl:rs.length<=64)(hx:ay.wm x= .inl e)(ys:List ByteArray)(hy:pre++[x]++ys=gu s):ay.Tq [] (gu s)=(e,rs.length,[]):=by
 rw[<-hy,Zf7,ay.XY pre rs [] _ h (by simpa using hl)];simp[ay.Tq,hx]
theorem ay.ae5{w:World}{base:Nat}{e:TypeId}{size:Nat}{v:Value}{n:Nat}{xs:List Value}(h:w.ownsRow base e size v n xs):∃a c,v= .slice a n c:=by
 rcases h.2 with⟨rfl,rfl⟩|⟨g,cap,cur,rfl,_⟩
 .exact⟨none,0,rfl⟩
 .exact⟨_,_,rfl⟩
theorem ay.F0{W:World}{n:Nat}{T:TypeId}{a v:Value}(h:Is W n T #[a]):Is (W.setCell ⟨n,0,none⟩ v) n T #[v]:=(h.set 0 v).cast rfl
theorem ay.aoV{B:Nat}{W W':World}(h:KeepsFrom B W W')(p:Addr)(v:Value):KeepsFrom B W (W'.setCell p v):=h.trans ((KeepsOthers.setCell W' p v).from B)
theorem ay.abn{B:Nat}{W W':World}(h:KeepsFrom B W W')(o:Obj):KeepsFrom B W (W'.alloc o):=h.trans ((KeepsOthers.alloc W' o).from B)
theorem ay.atK{B:Nat}{W W':World}(h:KeepsFrom B W W'):KeepsFrom B W W'.drew:=h.trans ⟨Za3 _,λ_ _ _ hk _=>hk⟩
theorem ay.aoW{w W':World}{s:ByteArray}{pre:List ByteArray}{e:Int}{k:Nat}(h1:1<=e/\e<=100)(h2:k<=64)(h3:∀ys,pre++ys=gu s->ay.Tq [] (gu s)=(e,k,[]))
  (i1:Is W' w.heap.size 32 #[.slice none 0 0]) (i2:Is W' (w.heap.size+1) 3 #[.int .i64 k]) (i3:Is W' (w.heap.size+1+1) 47 #[.int .i64 e]) (hz:w.heap.size+5<=W'.heap.size) (hb:Below w.heap.size w W'):ay.acY w s pre W':=
 ⟨e,k,h1.1,h1.2,h2,h3,i1,i2,i3,hz,hb⟩
theorem ay.abo{w:World}{base:Nat}{e:TypeId}{size:Nat}{v:Value}{n:Nat}{xs:List Value}(h:w.ownsRow base e size v n xs)(j:Nat)(hj:v.ownBlock=some j):base<=j:=by
 rcases h.2 with⟨rfl,rfl⟩|⟨g,cap,cur,rfl,hb,_⟩
 .cases hj
 .obtain rfl:g=j:=(by simpa [Value.ownBlock]using hj);exact hb
theorem ay.aoX{w:World}{base:Nat}{e:TypeId}{size:Nat}{v:Value}{n:Nat}{xs:List Value}(h:w.ownsRow base e size v n xs)(j:Nat)(o:Obj)(hj:v.ownBlock=some j)(ho:w.heap[j]? =some o):o.isCells=true:=by
 rcases h.2 with⟨rfl,rfl⟩|⟨g,cap,cur,rfl,hb,hg,_⟩
 .cases hj
 .obtain rfl:g=j:=(by simpa [Value.ownBlock]using hj);rw[hg]at ho;cases ho;rfl
theorem ay.aoY(r:ay.RR):∀u∈r.cells,u.oneCell'=true:=by intro u hu;simp only[ay.RR.cells,Za9,Zc3,Zf0]at hu;rcases hu with rfl|rfl|rfl|rfl|rfl|rfl<;>rfl
theorem ay.aoZ(W:World)(T:TypeId)(cs:List Value)(j:Nat)(u:Value)(h:cs[j]? =some u):(W.alloc (.cells cs.toArray T)).cell? ((⟨W.heap.size,0,none⟩:Addr).add j)=some u:=by
 have:(⟨W.heap.size,0,none⟩:Addr).add j=⟨W.heap.size,j,none⟩:=by
  unfold Addr.add;split
  .rename_i h0;subst h0;rfl
  .simp
 rw[this,(Is.new W T cs.toArray).cell];simpa using h
theorem ay.ao0{w W w1 w5:World}{n:Nat}{v:Value}{xs:List Value}{A C:Obj}{va:Value}(kg:Below W.heap.size W w1)(fQ:w.heap.size+5<=W.heap.size)(j4:Is W (w.heap.size+1+1+1) 32 #[va])
  (gw:W.ownsRow (w.heap.size+5) 40 6 v n xs) (EE:((w1.alloc A).alloc C).grownBy w5 v.ownBlock):Is w5 (w.heap.size+1+1+1) 32 #[va]:=
 ay.tQ (((j4.below kg (by omega)).alloc _).alloc _) EE (λe=>by have:=ay.abo gw _ e.symm;omega)
theorem ay.amv{w W w1 w5:World}{B:Nat}{pre:List ByteArray}{x:ByteArray}{rs:List ay.RR}{r:ay.RR}{v v':Value}{A C:Obj}(p1:pre.map ay.wm=rs.map Sum.inr)(p2:rs.length<64)(hx:ay.wm x= .inr r)
   (hb:Below w.heap.size w W) (kg:Below W.heap.size W w1) (fQ:w.heap.size+5<=W.heap.size)
   (j1:Is W w.heap.size 32 #[.slice none 0 0]) (j2:Is W (w.heap.size+1) 3 #[.int .i64 0]) (j3:Is W (w.heap.size+1+1) 47 #[.int .i64 0]) (j4:Is W (w.heap.size+1+1+1) 32 #[v])
   (gw:W.ownsRow (w.heap.size+5) 40 6 v rs.length (ay.cellsOf rs)) (aiJ:w5.ownsRow (w.heap.size+5) 40 6 v' (rs.length+1) (ay.cellsOf rs++r.cells)) (EE:((w1.alloc A).alloc C).grownBy w5 v.ownBlock):
   KeepsFrom B W (w5.setCell ⟨w.heap.size+1+1+1,0,none⟩ v')/\Uv (w.heap.size+1+1+1+1) W (w5.setCell ⟨w.heap.size+1+1+1,0,none⟩ v')/\ay.acX w (pre++[x]) (w5.setCell ⟨w.heap.size+1+1+1,0,none⟩ v'):=by
 have avp:=((ay.ae4 gw kg).alloc A).alloc C;have cN:∀k,k<w.heap.size+5->some k≠v.ownBlock:=λk hk e=>by have:=ay.abo gw _ e.symm;omega
 have is5:∀{k:Nat}{T:TypeId}{cs:Array Value},Is W k T cs->k<w.heap.size+5->Is w5 k T cs:=λh hk=>ay.tQ (((h.below kg (by omega)).alloc _).alloc _) EE (cN _ hk)
 have IE:w5.heap[w.heap.size+1+1+1+1]? =W.heap[w.heap.size+1+1+1+1]? :=by
   have alA:=kg.size;rw[EE.block _ (by simp;omega) (cN _ (by omega)),Go.ay.heap_alloc _ _ (by simp;omega),Go.ay.heap_alloc _ _ (by omega)];exact kg.block _ (by omega)
 have hp6:(w5.setCell ⟨w.heap.size+1+1+1,0,none⟩ v').heap[w.heap.size+1+1+1+1]? =W.heap[w.heap.size+1+1+1+1]? :=by rw[Go.ay.ajo (by omega)];exact IE
 refine⟨?_,⟨by simp[World.cell?,hp6],by simp[World.frozen?,hp6]⟩,rs++[r],v',?_,by simp;omega,(is5 j1 (by omega)).other (by omega) _ _,(is5 j2 (by omega)).other (by omega) _ _,(is5 j3 (by omega)).other (by omega) _ _,ay.F0 (is5 j4 (by omega)),?_,?_,?_,λh=>by simp at h⟩
 .refine ay.aoV ((ay.abn (ay.abn (ay.aal kg) _) _).trans ((KeepsOthers.of_grownBy EE λj o ej hj=>ay.aoX avp j o ej hj).from B)) _ _
 .simp[p1,hx]
 .rw[ay.aiI];have:=ownsRow_setCell_below aiJ (a:=⟨w.heap.size+1+1+1,0,none⟩) (by show w.heap.size+1+1+1<w.heap.size+5;omega) v';simpa using this
 .have h1:=kg.size;have h2:=EE.size;simp at h2 ⊢; omega
 .have h1:=kg.size;exact((((hb.trans (kg.mono (by omega))).alloc (by omega) A).alloc (by simp;omega) C).grown EE (by simp;omega) (λk e=>by have:=ay.abo gw k e;omega)).setCell (by show w.heap.size<=w.heap.size+1+1+1;omega) _
theorem ay.Cn{W:World}{n D:Nat}{T:TypeId}{cs:Array Value}{o o':Obj}(h:Is W n T cs)(hk:W.heap[D]? =some o)(ho:o.isCells=false):Is (W.putObj D o') n T cs:=
 ay.tQ h (grownBy_putObj' W D o') (ay.vn h (λr e=>by cases e;exact⟨o,hk,ho⟩))
theorem ay.ae6{s:ByteArray}{w w':World}{v:Value}{i:Int}{er:Int}{rs:List ay.RR}{k:Nat}(hp:ay.tr s=(er,k,rs))(hi:i=k)(gw:w'.ownsRow w.heap.size 40 6 v rs.length (ay.cellsOf rs))(hb:Below w.heap.size w w')(XZ:er≠0\/rs=[]->v= .slice none 0 0:=by intro h;rfl):
   ay.aoU s w (.returned (.tuple #[v,.int .i64 i,.int .i64 er])) w':=by
 subst hi;refine⟨v,by rw[hp],?_,hb,?_⟩
 .rw[hp];exact gw
 .rw[hp];exact XZ
theorem ay.aru{w:World}{base akV:Nat}{e:TypeId}{size:Nat}{v:Value}{n:Nat}{xs:List Value}(h:w.ownsRow base e size v n xs)(hb:akV<=base):w.ownsRow akV e size v n xs:=by
 refine⟨h.1,h.2.imp id ?_⟩;rintro⟨g,cap,cur,h1,h2,h3⟩;exact⟨g,cap,cur,h1,Zb3 hb h2,h3⟩
theorem ay.ajt{s:ByteArray}{rs:List ay.RR}(hs:s.size<=65536)(h:(gu s).map ay.wm=rs.map Sum.inr)(hl:rs.length<=64):ay.tr s=(0,0,rs):=by have:=ay.XY (gu s) rs [] [] h (by simpa using hl);rw[Ze1]at this;unfold ay.tr;rw[Za6 (by omega),this];rfl
theorem ay.auG:∃i0 z,Tryz.prog.info? 40=some i0/\i0.zero=some z/\i0.size=6/\i0.bytes=72/\z.cells.size=6:=by
 have h:(Tryz.prog.info? 40).map (λi=>(i.zero.map (·.cells.size),i.size,i.bytes))=some (some 6,6,72):=by kernel_rfl
 cases hi:Tryz.prog.info? 40 with
 |none=>rw[hi]at h;simp at h
 |some i0=>
  rw[hi]at h;simp only[Zd9,H5,Zd4,Zf6]at h;obtain⟨⟨z,hz,hz2⟩,h2,h3⟩:=h;exact⟨i0,z,rfl,hz,h2,h3,hz2⟩
theorem ay.auH(s:ByteArray)(acZ:∀s0∈gu s,ay.okL s0=true)(hfew:(gu s).length<64)
   (m:Int) (w:World) (hs:s.size<=65536) (hm:w.cell? ⟨0,0,none⟩=some (.int .i64 m)):
   Calls Tryz.prog 43 #[.string s] w (ay.aoU s w):=by
 have hbk:=World.block_lt_of_cell? _ _ hm;refine(callsIn_wide (n:=5)).1 ?_;refine callsIn_of_wp_marks Tryz.func43 rfl trivial ?_ rfl;simp only[Tryz.ntmps43,Zo3,Zc9,Zi6,Nat.reduceAdd,Nat.reduceSub,Array.replicate_succ,Array.replicate_zero,List.push_toArray,List.append_toArray,Ze0,Zd7]
 gi_wp2_with (refine⟨trivial,?_⟩;gi_at_call 83;refine(callsIn_wide.2 (ay.atJ s _)).mono ?_;rintro e w' ⟨rfl,rfl⟩)
 obtain⟨W0,hW0⟩:∃W0,W0=(((((w.alloc (.cells #[.slice none 0 0] 32)).alloc (.cells #[.int .i64 0] 3)).alloc (.cells #[.int .i64 0] 47)).alloc (.cells #[.slice none 0 0] 32)).alloc (.cells #[.string s] 9)):=⟨_,rfl⟩
 have hz:W0.heap.size=w.heap.size+1+1+1+1+1:=by rw[hW0];simp
 have i1:Is W0 w.heap.size 32 #[.slice none 0 0]:=by rw[hW0];exact((((Is.new w 32 _).alloc _).alloc _).alloc _).alloc _
 have i2:Is W0 (w.heap.size+1) 3 #[.int .i64 0]:=by rw[hW0];have:=(((Is.new (w.alloc (.cells #[.slice none 0 0] 32)) 3 #[.int .i64 0]).alloc (.cells #[.int .i64 0] 47)).alloc (.cells #[.slice none 0 0] 32)).alloc (.cells #[.string s] 9);rwa [World.size_alloc]at this
 have i3:Is W0 (w.heap.size+1+1) 47 #[.int .i64 0]:=by rw[hW0];have:=((Is.new ((w.alloc (.cells #[.slice none 0 0] 32)).alloc (.cells #[.int .i64 0] 3)) 47 #[.int .i64 0]).alloc (.cells #[.slice none 0 0] 32)).alloc (.cells #[.string s] 9);rwa [World.size_alloc,World.size_alloc]at this
 have i4:Is W0 (w.heap.size+1+1+1) 32 #[.slice none 0 0]:=by rw[hW0];have:=(Is.new (((w.alloc (.cells #[.slice none 0 0] 32)).alloc (.cells #[.int .i64 0] 3)).alloc (.cells #[.int .i64 0] 47)) 32 #[.slice none 0 0]).alloc (.cells #[.string s] 9);rwa [World.size_alloc,World.size_alloc,World.size_alloc]at this
 have i5:Is W0 (w.heap.size+1+1+1+1) 9 #[.string s]:=by rw[hW0];have:=Is.new ((((w.alloc (.cells #[.slice none 0 0] 32)).alloc (.cells #[.int .i64 0] 3)).alloc (.cells #[.int .i64 0] 47)).alloc (.cells #[.slice none 0 0] 32)) 9 #[.string s];rwa [World.size_alloc,World.size_alloc,World.size_alloc,World.size_alloc]at this
 have yg:Below w.heap.size w W0:=by rw[hW0];exact(((((Below.refl _ w).alloc (Za3 _) _).alloc (by simp) _).alloc (by simp;omega) _).alloc (by simp;omega) _).alloc (by simp;omega) _
 rw[<-hW0];clear hW0
 refine ajq (n:=5) rfl (by decide) (gf:=152) (b:=w.heap.size+1+1+1+1) (lb:= #[.pointer (some ⟨w.heap.size+1+1+1+1,0,none⟩)]) rfl trivial (enters_of Tryz.func152 (by kernel_rfl) rfl) (encs:=λx=> #[.string x]) (xs:=gu s) ?_ (by omega) (λ_=>rfl)
   (ay.acX w) (ay.acY w s) (ay.amr w _ (by omega)) (ay.ams w s _ (by omega)) (ay.amt w) (ay.amu w s)
   ⟨[],.slice none 0 0,rfl,by simp,i1,i2,i3,i4,⟨rfl,.inl ⟨rfl,rfl⟩⟩,by omega,yg,λ_=>rfl⟩
   (fun x=>{ tmps:= #[.string s,undef,.pointer (some ⟨w.heap.size,0,none⟩),.pointer (some ⟨w.heap.size+1,0,none⟩),.pointer (some ⟨w.heap.size+1+1,0,none⟩),.pointer (some ⟨w.heap.size+1+1+1,0,none⟩),.string x,undef,undef,.string s,
     .int .i64 s.size,.bool (decide (65536<(s.size:Int))),.string s,.func (.func 152) #[] #[.pointer (some ⟨w.heap.size+1+1+1+1,0,none⟩)],.string x,undef,undef,undef,undef,undef,undef,undef,undef,undef,undef,undef,undef,undef,undef,undef,undef,undef,undef,undef,undef,undef,undef],defers:=[] })
   ?assign ?body ?done ?stop
 .exact λl J Jx W hW hJ hJx hJs hJxs hY h0=>ay.atI _ l _ s hs J Jx W _ hJ hJx hJs hY (by decide) (by rw[hW.cell (p:=⟨w.heap.size+1+1+1+1,0,none⟩) (by show w.heap.size+1+1+1+1<W0.heap.size;omega)];exact i5.one) (by rw[hW.frozen (p:=⟨w.heap.size+1+1+1+1,0,none⟩) (by show w.heap.size+1+1+1+1<W0.heap.size;omega)];exact i5.frozen 0) h0
 case assign=>
   intro l x W K hK
   gi_wp2
   exact hK
 case body=>
   (rintro l pre x W ⟨rs,v,p1,p2,j1,j2,j3,j4,gw,fQ,hb,_⟩ abm hWz;obtain⟨va,vc,rfl⟩:=ay.ae5 gw;obtain⟨ys,zw⟩:=abm;have hx:x.size<=65536:=Zb3 (ajs s x (by rw[<-zw];simp)) hs;have hmW:W.cell? ⟨0,0,none⟩=some (.int .i64 m):=(hb.cell (p:=⟨0,0,none⟩) hbk).trans hm;have cw:=acZ x (by rw[<-zw];simp);have HL:=Lib.hid (ay.line x cw W);have aV:rs.length<64:=by have h1:=congrArg List.length p1;have h2:=congrArg List.length zw;simp at h1 h2;omega);have z1:w.heap.size<W.heap.size:=(by omega);have z2:w.heap.size+1<W.heap.size:=(by omega);have z3:w.heap.size+1+1<W.heap.size:=(by omega);have z4:w.heap.size+1+1+1<W.heap.size:=(by omega);have aiK:=Lib.hid gw;have HB:=Lib.hid hb;have HP1:=Lib.hid p1;have HYS:=Lib.hid zw;have J1:=Lib.hid j1;have J2:=Lib.hid j2;have J3:=Lib.hid j3;have J4:=Lib.hid j4;have HM:=Lib.hid hm;have HH:=Lib.hid acZ;have HI5:=Lib.hid i5;clear gw hb p1 zw j1 j2 j3 j4 hmW hm acZ i1 i2 i3 i4 i5 yg;rcases aaH:ay.wm x with e0|r
   . have hee:=ay.arn cw aaH;have aiL:=Lib.hid aaH;clear aaH
     gi_wp2_with (refine⟨trivial,?_⟩;gi_at_call 84;refine(CallsIn.inRound l (callsIn_wide.2 HL.out)).mono ?_;rintro e w1 ⟨he,kg⟩;rw[show ay.wm x= .inl e0 from aiL.out]at he;obtain rfl:e= .returned (.tuple #[.agg #[.int .u8 0,.int .i64 0,.string ⟨#[]⟩,.string ⟨#[]⟩,.string ⟨#[]⟩,.int .i64 0],.int .i64 e0]):=he;have K1:=J1.out.below kg z1;have K2:=J2.out.below kg z2;have K3:=J3.out.below kg z3;have K4:=J4.out.below kg z4;have k1:=K1.one;have k2:=K2.one;have k3:=K3.one;have k4:=K4.one;have g1:=K1.frozen;have g2:=K2.frozen;have g3:=K3.frozen;have g4:=K4.frozen;have hz1:=kg.size;have y1:=Zd1 z1 hz1;have y2:=Zd1 z2 hz1;have y3:=Zd1 z3 hz1;have y4:=Zd1 z4 hz1;have L1:=Lib.hid K1;have L2:=Lib.hid K2;have L3:=Lib.hid K3;have L4:=Lib.hid K4;clear K1 K2 K3 K4;have HB1:=Lib.hid kg;have HBB:=Lib.hid (HB.out.trans (kg.mono (Zo1 z1)));clear kg)
     gi_region
     all_goals gi_wp2
     all_goals
        refine⟨?_,ay.aoW (e:=e0) (k:=rs.length) hee p2 (λys hy=>ay.art HP1.out p2 aiL.out ys hy) ?_ ?_ ?_ ?_ ?_⟩
        . (repeat (first|(with_reducible refine ay.atK ?_)|(with_reducible refine ay.abn ?_ _)|(with_reducible refine ay.aoV ?_ _ _)|(with_reducible exact ay.aal HB1.out)))
        . (repeat (first|(with_reducible refine Is.drew ?_)|(with_reducible refine Is.alloc ?_ _)|(with_reducible refine ay.F0 (a:= .slice none 0 0) ?_)|(with_reducible refine Is.other ?_ (by omega) _ _)|(with_reducible exact L1.out)))
        . (repeat (first|(with_reducible refine Is.drew ?_)|(with_reducible refine Is.alloc ?_ _)|(with_reducible refine ay.F0 (a:= .int .i64 0) ?_)|(with_reducible refine Is.other ?_ (by omega) _ _)|(with_reducible exact L2.out)))
        . (repeat (first|(with_reducible refine Is.drew ?_)|(with_reducible refine Is.alloc ?_ _)|(with_reducible refine ay.F0 (a:= .int .i64 0) ?_)|(with_reducible refine Is.other ?_ (by omega) _ _)|(with_reducible exact L3.out)))
        .simp;omega
        . (repeat (first|(with_reducible refine Below.drew ?_)|(with_reducible refine Below.setCell ?_ (by first|(simp;done)|(simp;omega)) _)|(with_reducible refine Below.alloc ?_ (by first|omega|(simp;done)|(simp;omega)) _)|(with_reducible exact HBB.out)))
   . have aiL:=Lib.hid aaH;clear aaH
     .  have hl:¬rs.length=64:=(by omega);have hl64:((rs.length:Int)==64)=false:=(by rw[Zn1];omega);obtain⟨i0,z,sF,hz0,hzs,hzb,EJ⟩:=ay.auG
        gi_wp2_with (first|(refine⟨trivial,?_⟩;gi_at_call 84;refine(CallsIn.inRound l (callsIn_wide.2 HL.out)).mono ?_;rintro e w1 ⟨he,kg⟩;rw[show ay.wm x= .inr r from aiL.out]at he;obtain rfl:e= .returned (.tuple #[.agg #[.int .u8 r.k,.int .i64 r.wt,.string r.a,.string r.b,.string r.t,.int .i64 r.n],.int .i64 0]):=he;have K1:=J1.out.below kg z1;have K2:=J2.out.below kg z2;have K3:=J3.out.below kg z3;have K4:=J4.out.below kg z4;have k1:=K1.one;have k2:=K2.one;have k3:=K3.one;have k4:=K4.one;have g1:=K1.frozen;have g2:=K2.frozen;have g3:=K3.frozen;have g4:=K4.frozen;have hz1:=kg.size;have y1:=Zd1 z1 hz1;have y2:=Zd1 z2 hz1;have y3:=Zd1 z3 hz1;have y4:=Zd1 z4 hz1;have L1:=Lib.hid K1;have L2:=Lib.hid K2;have L3:=Lib.hid K3;have L4:=Lib.hid K4;clear K1 K2 K3 K4;have HB1:=Lib.hid kg;have HBB:=Lib.hid (HB.out.trans (kg.mono (Zo1 z1)));clear kg)|(gi_at_builtin;refine wpListIn_append_own _ rfl _ _ 32 rfl (w.heap.size+5) 40 i0 z 6 72 Tryz.underlying32 sF hz0 hzs hzb EJ (by decide) _ _ _ rfl (((ay.ae4 aiK.out HB1.out).alloc _).alloc _) ⟨w1.heap.size+1,0,none⟩ 1 1 r.cells rfl rfl ?_ ?_ ?_ ?_ ?_ ?_))
        .intro j u hu;have:=ay.aoZ (w1.alloc (.cells r.cells.toArray 40)) 40 r.cells j u hu;rw[World.size_alloc]at this;exact this
        .exact ay.aoY r
        .unfold maxLen;omega
        .omega
        .have:=HB1.out.size;simp;omega
        . intro v' w5 aiJ EE _;obtain⟨g',bn,rfl⟩:=ownsRow_succ aiJ;have hm5:=ay.ao0 HB1.out fQ J4.out aiK.out EE;have k5:=hm5.one;have g5:=hm5.frozen;have HM5:=Lib.hid hm5;have HOWN:=Lib.hid aiJ;have avq:=Lib.hid EE;clear hm5 aiJ EE
          gi_wp2
          exact ay.amv HP1.out (by omega) aiL.out HB.out HB1.out fQ J1.out J2.out J3.out J4.out aiK.out HOWN.out avq.out
 case done=>
   rintro D W hD ⟨rs,v,h1,h2,j1,j2,j3,j4,gw,fQ,hb,XZ⟩ hK;obtain⟨va,vc,rfl⟩:=ay.ae5 gw;have HNIL:=Lib.hid XZ;clear XZ;have c1:=j1.one;have c2:=j2.one;have c3:=j3.one;have c4:=j4.one;have f1:=j1.frozen;have f2:=j2.frozen;have f3:=j3.frozen;have f4:=j4.frozen;have aiK:=Lib.hid gw;have HB:=Lib.hid hb;have H1:=Lib.hid h1;have J1:=Lib.hid j1;have J2:=Lib.hid j2;have J3:=Lib.hid j3;have J4:=Lib.hid j4;have HK:=Lib.hid hK;clear gw hb h1 j1 j2 j3 j4 hK hm acZ i1 i2 i3 i4 i5 yg
   gi_wp2
   have hK2:(((W.setCell ⟨w.heap.size,0,none⟩ (.slice va rs.length vc)).setCell ⟨w.heap.size+1,0,none⟩ (.int .i64 0)).setCell ⟨w.heap.size+1+1,0,none⟩ (.int .i64 0)).heap[D]? =some (.deferred (some [])):=
     (KeepsOthers.setCell _ _ _).same D _ ((KeepsOthers.setCell _ _ _).same D _ ((KeepsOthers.setCell _ _ _).same D _ HK.out rfl) rfl) rfl
   have q1:=ay.Cn (o':= .deferred none) (((ay.F0 (v:= .slice va rs.length vc) J1.out).other (m:=w.heap.size+1) (by omega) 0 (.int .i64 0)).other (m:=w.heap.size+1+1) (by omega) 0 (.int .i64 0)) hK2 rfl;have q2:=ay.Cn (o':= .deferred none) ((ay.F0 (v:= .int .i64 0) (J2.out.other (m:=w.heap.size) (by omega) 0 (.slice va rs.length vc))).other (m:=w.heap.size+1+1) (by omega) 0 (.int .i64 0)) hK2 rfl;have q3:=ay.Cn (o':= .deferred none) (ay.F0 (v:= .int .i64 0) ((J3.out.other (m:=w.heap.size) (by omega) 0 (.slice va rs.length vc)).other (m:=w.heap.size+1) (by omega) 0 (.int .i64 0))) hK2 rfl;have r1:=q1.one;have r2:=q2.one;have r3:=q3.one;refine⟨by simp,.inl ⟨_,_,rfl,run_takeDeferred hK2,?_⟩⟩;refine⟨.tuple #[.slice va rs.length vc,.int .i64 0,.int .i64 0],by simp[results,Tryz.results43,go_sem,r1,r2,r3],ay.ae6 (k:=0) (rs:=rs) (ay.ajt hs H1.out h2) rfl ?_ ?_ (λh=>h.elim (λh=>absurd rfl h) HNIL.out)⟩
   . refine ay.aru (base:=w.heap.size+5) ?_ (by omega);refine ownsRow_putObj (ownsRow_setCell_below (ownsRow_setCell_below (ownsRow_setCell_below aiK.out ?_ _) ?_ _) ?_ _) _ hK2 rfl
     .  show w.heap.size<w.heap.size+5;omega
     .  show w.heap.size+1<w.heap.size+5;omega
     .  show w.heap.size+1+1<w.heap.size+5;omega
   .exact(((HB.out.setCell (p:=⟨w.heap.size,0,none⟩) (Za3 _) _).setCell (p:=⟨w.heap.size+1,0,none⟩) (by show w.heap.size<=w.heap.size+1;omega) _).setCell (p:=⟨w.heap.size+1+1,0,none⟩) (by show w.heap.size<=w.heap.size+1+1;omega) _).grown (grownBy_putObj' _ D _) (by simp;omega) (λk e=>by cases e;omega)
 case stop=>
   rintro D pre W hD abm ⟨e,k,h1,h2,h3,h4,j1,j2,j3,fQ,hb⟩ hK;obtain⟨ys,zw⟩:=abm;have q1:=ay.Cn (o':= .deferred none) j1 hK rfl;have q2:=ay.Cn (o':= .deferred none) j2 hK rfl;have q3:=ay.Cn (o':= .deferred none) j3 hK rfl;have r1:=q1.one;have r2:=q2.one;have r3:=q3.one;have HB:=Lib.hid hb;have H4:=Lib.hid (h4 ys zw);have HK:=Lib.hid hK;have R1:=Lib.hid r1;have R2:=Lib.hid r2;have R3:=Lib.hid r3;clear hb h4 j1 j2 j3 hK hm acZ i1 i2 i3 i4 i5 yg zw q1 q2 q3 r1 r2 r3
   gi_wp2
   refine⟨by simp,.inl ⟨_,_,rfl,run_takeDeferred HK.out,?_⟩⟩;refine⟨.tuple #[.slice none 0 0,.int .i64 k,.int .i64 e],by simp[results,Tryz.results43,go_sem,R1.out,R2.out,R3.out],ay.ae6 (k:=k) (rs:=[]) (by unfold ay.tr;rw[Za6 (by omega),H4.out]) rfl ⟨rfl,.inl ⟨rfl,rfl⟩⟩ ?_⟩;exact HB.out.grown (grownBy_putObj' _ D _) (by omega) (λk e=>by cases e;omega)
end
end Go.Proofs
section
set_option maxRecDepth 1000000
namespace Go.Ai
open Go Go.RowKit
theorem aiM{P:Program}{tt:TT}{O:eP}{G:T dM}{C:Cells}{m d f:Nat}{n0:Pos}{fn:Func}{c:Code}(hm:P.follows .mixedOrders=true)(hT:dh P tt)(hG:GOk P tt G)
  (hO:vu P C O) (Vz:oG O) (hf:P.funcs[f]? =some fn) (oF:¬fn.name= "runtime.NumGoroutine") (hb:fn.body=some c) {b:Bool}
  (h:MF (R:=Bool) false O G m d f [] { heap:= .e,next:=n0 } (λv _=>eO v (.bool b))=true) (w:World) (hC:∀ad v,C ad=some v->w.cell? ad=some v) (hC2:∀a v,C a=some v->∀o,C ⟨a.block,o,none⟩=none->w.cell? ⟨a.block,o,none⟩=none):
  Calls P f #[] w λe w'=>e= .returned (.bool b)/\Below w.heap.size w w':=by
 rw[Ft false O G m d]at h;unfold uu at h;split at h<;>first|(cases h;done)|skip
 rename_i x hx;obtain⟨v,bD⟩:=x;have hv:=yo h;simp only at hv;subst hv;have hr:=CL hm hT hO Vz hG m d (λ_=>⟨0,0,0⟩) { heap:= .e,next:=n0 } w f [] (.bool b) bD [] hx (Gp hC hC2) aJ.nil;have dJ:(callFunc f ([]:List Value).toArray).run P w= .ok (.enter f #[]) w:=by simp[callFunc,hf,oF,hb]
 rw[dJ]at hr;refine Calls.mono hr λe w' he=> ?_
 cases e with
 |returned x=>
  obtain⟨ρ',h1,_,_,_,hE⟩:=he;have:=h1.kR;subst this;exact⟨rfl,hE.os,hE.tape,hE.output,hE.size,λk hk=>hE.block k hk λb x hb=>by rw[T.dN]at hb;cases hb⟩
 |panicked c=>exact he.elim
 |outgrown=>exact he.elim
section
variable{ρ:Pos->Go.Ai.Loc}{C:Cells}{st:St}{w w':World}
theorem bV.later(h:bV ρ C st w)(hb:Below w.heap.size w w'):bV ρ C st w' where
 live b x hx:=by
  obtain⟨h1,h2,h3⟩:=h.live b x hx;exact⟨h1,Zd1 h2 hb.size,h3.of_heap (hb.block _ h2)⟩
 inj:=h.inj
 dS a v ha:=by
  obtain⟨h1,h2⟩:=h.dS a v ha;exact⟨(hb.cell (World.block_lt_of_cell? _ _ h1)).trans h1,h2⟩
 whole a v ha o ho:=by
  have ri:a.block<w.heap.size:=World.block_lt_of_cell? _ _ (h.dS a v ha).1;exact(hb.cell (p:=⟨a.block,o,none⟩) ri).trans (h.whole a v ha o ho)
theorem oJ.later(h:bV ρ C st w)(hb:Below w.heap.size w w'):oJ ρ st w ρ st w':=⟨hb.os,hb.tape,hb.output,hb.size,λk hk _=>hb.block k hk,λb x hx=>.inl ⟨b,x,hx,rfl⟩⟩
theorem auI(hW:bV ρ C st w){x0:AB}{base size g:Nat}(hb:Below w.heap.size w w')(hg:w.heap.size<=g)(zA:g<w'.heap.size)
   (hB:∀ρ' n',(∀b:Pos,b.toNat<st.next.toNat->ρ' b=ρ b)->st.next.toNat<=n'->tD ρ' n' C ⟨g,base,size⟩ w' x0):
   ∃ρ':Pos->Go.Ai.Loc,(∀b:Pos,b.toNat<st.next.toNat->ρ' b=ρ b)/\ρ' st.next=⟨g,base,size⟩/\bV ρ' C (st.bh none none (some x0)) w'/\oJ ρ st w ρ' (st.bh none none (some x0)) w':=by
 let ρ':Pos->Go.Ai.Loc:=λb=>if b=st.next then⟨g,base,size⟩else ρ b
 have bE:∀b:Pos,b.toNat<st.next.toNat->ρ' b=ρ b:=λb hb=>Za6 (λe=>by rw[e]at hb;omega)
 have jg:ρ' st.next=⟨g,base,size⟩:=Zb4 rfl;refine⟨ρ',bE,jg,?_,⟨hb.os,hb.tape,hb.output,hb.size,λk hk _=>hb.block k hk,λb x hx=> ?_⟩⟩;rotate_left
 . by_cases he:b=st.next
   .right;rw[he,jg];exact hg
   .left;simp only[St.bh,NI,KB]at hx;rw[T.b9 _ (λe=>he e.symm)]at hx;exact⟨b,x,hx,by rw[bE b (hW.live b x hx).1]⟩
 refine hW.aku (b0:=st.next) (x0:=x0) (by rw[Pos.aD];omega) (by rw[Pos.aD];omega) (by rw[T.gy]) ?_ bE (by rw[jg];exact hB _ _ bE (by rw[Pos.aD];omega)) ?_ (by rw[jg];exact zA) hb.size (λk hk _=>hb.block k hk)
 .intro b x hb hx;simp only[NI,KB]at hx;rw[T.b9 _ (λe=>hb e.symm)]at hx;refine⟨hx,?_⟩;rw[jg];have:=(hW.live b x hx).2.1;simp only;omega
 .intro a v ha;have:=World.block_lt_of_cell? _ _ (hW.dS a v ha).1;rw[jg];simp only;omega
end
end Go.Ai
namespace Go.Proofs
open Go Go.Ai Go.RowKit Go.ay Go.Proofs.YtgihekklfnjkiaaGreatDoor
def ay.parseLit(t0:List Nat)(er i:Int)(n:Nat)(cs:List AV):List AV->St->Option (AV×St):=λargs st=>
 match args with
 |  [.str t]=>match kq t t0 with
    |true=>match n with
     |0=>some (.tuple [.af,.int .i64 i,.int .i64 er],st)
     |n+1=>some (.tuple [.slice st.next 0 (n+1) none 6,.int .i64 i,.int .i64 er],st.bh none none (some (.cells cs 0)))
    |false=>none
 |_=>none
def ay.af4:AV->Option Value
 |.int k i=>some (.int k i)
 |.str s=>some (.string (ay.Bg s))
 |_=>none
theorem ay.X0{ρ:Pos->Go.Ai.Loc}{n:Nat}{C:Cells}:∀{cs:List AV}{vs:List Value},cs.mapM ay.af4=some vs->(∀v∈cs,∃k i,v= .int k i\/∃s,v= .str s/\∀c∈s,c<256)->aJ ρ n C cs vs
 |[],vs,h,_=>by simp at h;subst h;exact aJ.nil
 |v ::cs,vs,h,hv=>by
  simp only[List.mapM_cons,Option.bind_eq_bind,Option.bind_eq_some_iff,Option.pure_def,H5]at h;obtain⟨y,hy,zs,hz,rfl⟩:=h;refine aJ.cons ?_ (ay.X0 hz λv hm=>hv v (Zb0 _ hm));obtain⟨k,i,rfl|⟨s,rfl,hs⟩⟩:=hv v (Zd6 ..)
  .simp[ay.af4]at hy;subst hy;exact .int _ _
  . simp only[ay.af4,H5]at hy;subst hy;refine .str _ _ ?_;show(s.map UInt8.ofNat).toArray.toList.map UInt8.toNat=s;simp only[Zh8]
    conv=>rhs;rw[<-Zs3 s]
    (refine Zk9 λc hc=> ?_);have:=hs c hc;simp[UInt8.toNat_ofNat];omega
theorem ay.OA{C:Cells}{m:Int}(hC:C ⟨0,0,none⟩=some (.int .i64 m)){t0:List Nat}{er i:Int}{n k:Nat}{cs:List AV}{rs:List ay.RR}(fQ:t0.length<=65536)(hq:((gu (ay.Bg t0)).all ay.okL&&Nat.blt (gu (ay.Bg t0)).length 64)=true)(hp:ay.tr (ay.Bg t0)=(er,k,rs))(hi:i=k)(hn:n=rs.length)
  (eW:cs.mapM ay.af4=some (ay.cellsOf rs)) (hsc:∀v∈cs,∃k i,v= .int k i\/∃s,v= .str s/\∀c∈s,c<256) (hz:n=0->er≠0):pW Tryz.prog C 43 (ay.parseLit t0 er i n cs) where
 mono args st v st' h:=by
  unfold ay.parseLit at h;split at h<;>first|(cases h;done)|skip
  split at h<;>first|(cases h;done)|skip
  split at h
  .injection h with h;injection h with h1 h2;subst h2;exact Za3 _
  .injection h with h;injection h with h1 h2;subst h2;exact St.Ra _ _ _ _
 runs ρ st w args v st' bZ h hW hv:=by
  unfold ay.parseLit at h;split at h<;>first|(cases h;done)|skip
  rename_i t;split at h<;>first|(cases h;done)|skip
  rename_i hbq;have ht:t=t0:=mH.1 hbq;subst ht;obtain⟨x,xs,rfl,h1,h2⟩:=hv.cons_inv;have:=h2.ku;subst this;obtain⟨bs,rfl,hs⟩:=h1.ff;have Gi:=ay.BL hs;have hm:=(hW.dS _ _ hC).1;have akw:bs.size<=65536:=by have:bs.data.toList.length=t.length:=(by rw[<-hs];simp);have h3:bs.size=bs.data.toList.length:=(by simp);omega
  have hc:=ay.auH bs (λx hx=>Zg8.1 ((Zb2 _ _).mp hq).1 x (by rw[<-Gi];exact hx)) (by rw[Gi];exact Zb5 ((Zb2 _ _).mp hq).2) m w akw hm;have dJ:(callFunc 43 ([Value.string bs]:List Value).toArray).run Tryz.prog w= .ok (.enter 43 #[.string bs]) w:=enters_of Tryz.func43 (by kernel_rfl) rfl _ _;rw[dJ];refine Calls.mono hc λe w' Zo=> ?_
  obtain⟨v',he,gw,hb,XZ⟩:=Zo;rw[Gi,hp]at he gw XZ;subst he;subst hi;simp only at gw XZ ⊢;split at h
  . (injection h with h;injection h with e1 e2;subst e1;subst e2);have hv0:=XZ (.inl (hz rfl));subst hv0;exact⟨ρ,.qt (aJ.cons .af (aJ.cons (.int _ _) (aJ.cons (.int _ _) aJ.nil))),λ_ _=>rfl,Za3 _,hW.later hb,oJ.later hW hb⟩
  . rename_i n';(injection h with h;injection h with e1 e2;subst e1;subst e2);rcases gw.2 with⟨_,h0⟩|⟨g,cap,cur,rfl,hg,hgb,agj,hcm,hcur,avr⟩
    .   omega
    .   have hgl:=(Zd2.1 hgb).1;have hlen:cs.length=rs.length*6:=by
         have hvr:=ay.X0 (ρ:=ρ) (n:=0) (C:=C) eW hsc;rw[hvr.1,ay.aea]
        obtain⟨ρ',bE,jg,ji,hE⟩:=auI (x0:= .cells cs 0) (base:=0) (size:=cur.size) hW hb hg hgl (λρ' n' _ _=>
         BQ hgb (by rw[hlen,hcur];exact Zh3 _ agj) (by rw[hlen,avr];exact ay.X0 eW hsc) (λi _=>by simp))
        refine⟨ρ',.qt (aJ.cons ?_ (aJ.cons (.int _ _) (aJ.cons (.int _ _) aJ.nil))),bE,St.Ra _ _ _ _,ji,hE⟩;have avs:n'+1<=cap:=(by omega);rw[<-hn];exact MM (by simp[St.bh,Pos.aD]) jg avs (λc hc=>by cases hc) (by rw[hcur];exact Za3 _)
noncomputable def ay.P1:List AV->St->Option (AV×St):=ay.parseLit [104,97,114,100,32,97,112,97,114,116,32,97,110,110,97,32,98,111,114,105,115,32,50,10,119,101,105,103,104,32,53,32,104,111,110,111,117,114,32,45,10] 0 0 2 [.int .u8 1,.int .i64 0,.str [97,110,110,97],.str [98,111,114,105,115],.str [],.int .i64 2,.int .u8 14,.int .i64 5,.str [],.str [],.str [],.int .i64 0]
noncomputable def ay.P2:List AV->St->Option (AV×St):=ay.parseLit [119,101,105,103,104,32,48,32,109,105,120,32,45,10] 41 0 0 []
noncomputable def ay.P3:List AV->St->Option (AV×St):=ay.parseLit [104,97,114,100,32,97,116,32,97,110,110,97,32,45,10] 4 0 0 []
theorem ay.avt:ay.tr (ay.Bg [104,97,114,100,32,97,112,97,114,116,32,97,110,110,97,32,98,111,114,105,115,32,50,10,119,101,105,103,104,32,53,32,104,111,110,111,117,114,32,45,10])=(0,0,[⟨1,0,⟨#[97,110,110,97]⟩,⟨#[98,111,114,105,115]⟩,⟨#[]⟩,2⟩,⟨14,5,⟨#[]⟩,⟨#[]⟩,⟨#[]⟩,0⟩]):=by kernel_rfl
theorem ay.avu:ay.tr (ay.Bg [119,101,105,103,104,32,48,32,109,105,120,32,45,10])=(41,0,[]):=by kernel_rfl
theorem ay.avv:ay.tr (ay.Bg [104,97,114,100,32,97,116,32,97,110,110,97,32,45,10])=(4,0,[]):=by kernel_rfl
theorem ay.amw{k:IntKind}{i:Int}:∃k' i',(AV.int k i)= .int k' i'\/∃s,(AV.int k i)= .str s/\∀c∈s,c<256:=⟨k,i,.inl rfl⟩
theorem ay.amx{s:List Nat}(h:s.all (λc=>decide (c<256))=true):∃k' i',(AV.str s)= .int k' i'\/∃s',(AV.str s)= .str s'/\∀c∈s',c<256:=⟨.i64,0,.inr ⟨s,rfl,λc hc=>by have:=Zg8.1 h c hc;simpa using this⟩⟩
theorem ay.avw{C:Cells}{m:Int}(hC:C ⟨0,0,none⟩=some (.int .i64 m)):pW Tryz.prog C 43 ay.P1:=
 ay.OA hC (by decide) (by kernel_rfl) ay.avt rfl rfl (by rfl) (by
  intro v hv;simp only[Za9,Zc3,Zf0]at hv;rcases hv with rfl|rfl|rfl|rfl|rfl|rfl|rfl|rfl|rfl|rfl|rfl|rfl<;>first|exact ay.amw|exact ay.amx (by decide)) (by decide)
theorem ay.avx{C:Cells}{m:Int}(hC:C ⟨0,0,none⟩=some (.int .i64 m)):pW Tryz.prog C 43 ay.P2:=ay.OA hC (by decide) (by kernel_rfl) ay.avu rfl rfl rfl (by simp) (by decide)
theorem ay.avy{C:Cells}{m:Int}(hC:C ⟨0,0,none⟩=some (.int .i64 m)):pW Tryz.prog C 43 ay.P3:=ay.OA hC (by decide) (by kernel_rfl) ay.avv rfl rfl rfl (by simp) (by decide)
noncomputable def ay.orcA:eP:=vw [(246,Fu),(18,orS (Rv YF) (Rv YG)),(43,orS ay.P1 (orS ay.P2 ay.P3))]
noncomputable def ay.chkA:Bool:=MF (R:=Bool) false ay.orcA gg 100000 60 14 [] { heap:= .e,next:= .o (.i (.o (.i (.o (.i (.o (.i (.o .h)))))))) } λv _=>eO v (.bool true)
theorem ay.ao1:ay.chkA=true:=by kernel_rfl
theorem ay.X4{C:Cells}:pW Tryz.prog C 246 Fu:=apx (fn:=Tryz.f246) Tryz.func246 (by kernel_rfl) (by kernel_rfl) (by kernel_rfl) (by kernel_rfl)
theorem ay.atL{C:Cells}:pW Tryz.prog C 18 (Rv YF):=by have ho:=yq (P:=Tryz.prog) (C:=C) (l:=[(246,Fu)]) (λx hx=>by simp at hx;subst hx;exact ay.X4);exact agE (O:=ar1) (G:=gg) (m:=100000) (d:=60) (CL (by kernel_rfl) Tn ho.1 ho.2 To _ _) (CE ho.2 _ _) auE avm
theorem ay.atM{C:Cells}:pW Tryz.prog C 18 (Rv YG):=by have ho:=yq (P:=Tryz.prog) (C:=C) (l:=[(246,Fu)]) (λx hx=>by simp at hx;subst hx;exact ay.X4);exact agE (O:=ar2) (G:=gg) (m:=100000) (d:=60) (CL (by kernel_rfl) Tn ho.1 ho.2 To _ _) (CE ho.2 _ _) auF avn
theorem ay.ao2(m:Int)(w:World)(hm:w.cell? ⟨0,0,none⟩=some (.int .i64 m)):Calls Tryz.prog 14 #[] w λe w'=>e= .returned (.bool true)/\Below w.heap.size w w':=by
 have hC:(λad=>w.cell? ad:Cells) ⟨0,0,none⟩=some (.int .i64 m):=hm;have ho:=yq (P:=Tryz.prog) (C:=λad=>w.cell? ad) (l:=[(246,Fu),(18,orS (Rv YF) (Rv YG)),(43,orS ay.P1 (orS ay.P2 ay.P3))]) (λx hx=>by
  simp only[Za9,Zc3,Zf0]at hx;rcases hx with rfl|rfl|rfl
  .exact ay.X4
  .exact agF ay.atL ay.atM
  .exact agF (ay.avw hC) (agF (ay.avx hC) (ay.avy hC)))
 exact aiM (by kernel_rfl) Tn To ho.1 ho.2 (fn:=Tryz.f14) (c:=Tryz.f14.body.get rfl) Tryz.func14 (by decide) rfl ay.ao1 w (λad v h=>h) λa v _ o h=>h
end Go.Proofs
end
