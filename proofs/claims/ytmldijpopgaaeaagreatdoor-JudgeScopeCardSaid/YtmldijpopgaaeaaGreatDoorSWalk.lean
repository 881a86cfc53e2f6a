/- awake of the chapter. -/
import Derived.Test.YtmldijpopgaaeaaGreatDoorProg
import Derived.Test.YtmldijpopgaaeaaGreatDoorSEvalE
import Derived.Lib.Hide
import Derived.WalkSmall
import Derived.Shelf.Small.Strs
import Derived.Shelf.Strings.Split
import Derived.Shelf.Strings.Shaped
import Derived.RangeFuncNested
import Derived.RangeFuncBound
import Derived.Shelf.RegionOpen
import Derived.OwnWalkIn
import Derived.LoopNIn
import Derived.LoopIn
set_option linter.all false
set_option maxRecDepth 100000
set_option maxHeartbeats 4000000
namespace Go.Proofs.YtmldijpopgaaeaaGreatDoor
noncomputable section
open Go Go.Ai Go.Proofs
def tt:T TI:=ttOf Go.Proofs.Tryz.prog [7,8,25,26,33,34,57,58,69,70,74,75,76,77,78,84,85,88,89,93,94,97,98,159,160,162,163,196,197,240,241]
def gg:T dR:=ggOf Go.Proofs.Tryz.prog tt
theorem av3:LP Go.Proofs.Tryz.prog (λp=>p) tt=true:=by kernel_rfl
theorem UZ:dG Go.Proofs.Tryz.prog tt:=atB av3
theorem U0:GOk Go.Proofs.Tryz.prog tt gg:=atC (by kernel_rfl)
end
end Go.Proofs.YtmldijpopgaaeaaGreatDoor
section
end
namespace Go.Proofs.YtmldijpopgaaeaaGreatDoor
section
set_option maxRecDepth 1000000
open Go Go.Ai
noncomputable def ato:fc:=wq [(225,GN)]
noncomputable def aac:Go.Ai.Lit:=⟨[(.agg [(kS 684 2 2 7),(kS 688 4 4 9),(kS 689 1 1 3),(kS 690 4 4 1),(kS 681 16 16 6)])],(key 691),
 [((key 681),(.cells [(kU 1),(kI 0),(.str [97,110,110,97]),(.str [98,111,114,105,115]),(.str []),(kI 2),(kU 1),(kI 0),(.str [97,110,110,97]),(.str [99,97,114,108]),(.str []),(kI 2),(kU 2),(kI 0),(.str [98,111,114,105,115]),(.str [99,97,114,108]),(.str []),(kI 0),(kU 3),(kI 0),(.str [97,110,110,97]),(.str [99,97,114,108]),(.str []),(kI 0),(kU 4),(kI 0),(.str [97,110,110,97]),(.str [100,111,114,97]),(.str []),(kI 3),(kU 8),(kI 0),(.str []),(.str []),(.str []),(kI 0),(kU 9),(kI 0),(.str []),(.str []),(.str []),(kI 0),(kU 10),(kI 0),(.str []),(.str []),(.str []),(kI 0),(kU 11),(kI 0),(.str []),(.str []),(.str []),(kI 0),(kU 12),(kI 0),(.str []),(.str []),(.str [114]),(kI 0),(kU 14),(kI 0),(.str []),(.str []),(.str []),(kI 0),(kU 15),(kI 0),(.str []),(.str []),(.str []),(kI 2),(kU 16),(kI 0),(.str []),(.str []),(.str [114]),(kI 2),(kU 5),(kI 0),(.str [97,110,110,97]),(.str [98,111,114,105,115]),(.str []),(kI 0),(kU 6),(kI 0),(.str [100,111,114,97]),(.str []),(.str [114]),(kI 0),(kU 7),(kI 0),(.str [99,97,114,108]),(.str []),(.str [114]),(kI 2)] 0)),
   ((key 690),(.cells [(kI 0),(kI 1),(kI 1),(kI 2)] 0)),
   ((key 689),(.cells [(.str [97,110,110,97]),(.str [98,111,114,105,115]),(kU 2)] 0)),
   ((key 687),(.cells [(.str [108,97,116,105,110])] 0)),
   ((key 686),(.cells [(.str [108,97,116,105,110])] 0)),
   ((key 685),(.cells [(.str [108,97,116,105,110])] 0)),
   ((key 688),(.cells [(.str [97,110,110,97]),(.str []),(.str []),(kI 0),(kI 1),(.str []),(.bool true),(.bool false),(kS 685 1 1 1),(.str [98,111,114,105,115]),(.str []),(.str []),(kI 0),(kI 1),(.str []),(.bool false),(.bool false),(kS 686 1 1 1),(.str [99,97,114,108]),(.str []),(.str []),(kI 0),(kI 2),(.str []),(.bool false),(.bool true),(kS 687 1 1 1),(.str [100,111,114,97]),(.str []),(.str []),(kI 0),(kI 0),(.str []),(.bool false),(.bool false),.af] 0)),
   ((key 683),(.cells [(kI 1)] 0)),
   ((key 684),(.cells [(.str [114]),(kU 1),(kI 6),(kI 0),(kS 683 1 1 1),(kI 0),(kI 0),(.str [119]),(kU 4),(kI 2),(kI 0),.af,(kI 0),(kI 0)] 0))],
 (.tuple [(.ptr (key 1057) 0),(kI 0),(kI 0)]),(key 5270),
 [((key 684),(.cells [(.str [114]),(kU 1),(kI 6),(kI 0),(kS 683 1 1 1),(kI 0),(kI 0),(.str [119]),(kU 4),(kI 2),(kI 0),.af,(kI 0),(kI 0)] 0)),
   ((key 683),(.cells [(kI 1)] 0)),
   ((key 688),(.cells [(.str [97,110,110,97]),(.str []),(.str []),(kI 0),(kI 1),(.str []),(.bool true),(.bool false),(kS 685 1 1 1),(.str [98,111,114,105,115]),(.str []),(.str []),(kI 0),(kI 1),(.str []),(.bool false),(.bool false),(kS 686 1 1 1),(.str [99,97,114,108]),(.str []),(.str []),(kI 0),(kI 2),(.str []),(.bool false),(.bool true),(kS 687 1 1 1),(.str [100,111,114,97]),(.str []),(.str []),(kI 0),(kI 0),(.str []),(.bool false),(.bool false),.af] 0)),
   ((key 685),(.cells [(.str [108,97,116,105,110])] 0)),
   ((key 686),(.cells [(.str [108,97,116,105,110])] 0)),
   ((key 687),(.cells [(.str [108,97,116,105,110])] 0)),
   ((key 689),(.cells [(.str [97,110,110,97]),(.str [98,111,114,105,115]),(kU 2)] 0)),
   ((key 690),(.cells [(kI 0),(kI 1),(kI 1),(kI 2)] 0)),
   ((key 681),(.cells [(kU 1),(kI 0),(.str [97,110,110,97]),(.str [98,111,114,105,115]),(.str []),(kI 2),(kU 1),(kI 0),(.str [97,110,110,97]),(.str [99,97,114,108]),(.str []),(kI 2),(kU 2),(kI 0),(.str [98,111,114,105,115]),(.str [99,97,114,108]),(.str []),(kI 0),(kU 3),(kI 0),(.str [97,110,110,97]),(.str [99,97,114,108]),(.str []),(kI 0),(kU 4),(kI 0),(.str [97,110,110,97]),(.str [100,111,114,97]),(.str []),(kI 3),(kU 8),(kI 0),(.str []),(.str []),(.str []),(kI 0),(kU 9),(kI 0),(.str []),(.str []),(.str []),(kI 0),(kU 10),(kI 0),(.str []),(.str []),(.str []),(kI 0),(kU 11),(kI 0),(.str []),(.str []),(.str []),(kI 0),(kU 12),(kI 0),(.str []),(.str []),(.str [114]),(kI 0),(kU 14),(kI 0),(.str []),(.str []),(.str []),(kI 0),(kU 15),(kI 0),(.str []),(.str []),(.str []),(kI 2),(kU 16),(kI 0),(.str []),(.str []),(.str [114]),(kI 2),(kU 5),(kI 0),(.str [97,110,110,97]),(.str [98,111,114,105,115]),(.str []),(kI 0),(kU 6),(kI 0),(.str [100,111,114,97]),(.str []),(.str [114]),(kI 0),(kU 7),(kI 0),(.str [99,97,114,108]),(.str []),(.str [114]),(kI 2)] 0)),
   ((key 5265),(.cells [(kU 0),(kU 0),(kU 0),(kU 0)] 0)),
   ((key 5186),(.cells [(kU 0),(kU 0),(kU 0),(kU 0)] 0)),
   ((key 5099),(.cells [(kU 2),(kU 0),(kU 0),(kU 0)] 0)),
   ((key 5010),(.cells [(kU 0),(kU 2),(kU 0),(kU 0)] 0)),
   ((key 5269),(.cells [(kN 5010 4 1),(kN 5099 4 1),(kN 5186 4 1),(kN 5265 4 1)] 0)),
   ((key 5259),(.cells [(.bool false),(.bool false),(.bool false),(.bool false)] 0)),
   ((key 5180),(.cells [(.bool true),(.bool true),(.bool true),(.bool false)] 0)),
   ((key 5093),(.cells [(.bool true),(.bool true),(.bool true),(.bool false)] 0)),
   ((key 5004),(.cells [(.bool true),(.bool true),(.bool true),(.bool false)] 0)),
   ((key 5267),(.cells [(kN 5004 4 1),(kN 5093 4 1),(kN 5180 4 1),(kN 5259 4 1)] 0)),
   ((key 4872),(.map [((kI 7),(kI 0),0),((kI 6),(kI 1),1)] 2)),
   ((key 4864),(.map [((kI 6),(kI 0),0),((kI 7),(kI 1),1)] 2)),
   ((key 4844),(.map [((kI 5),(kI 0),0),((kI 0),(kI 1),1),((kI 4),(kI 1),2),((kI 2),(kI 1),3),((kI 1),(kI 2),4),((kI 3),(kI 2),5)] 6)),
   ((key 4824),(.map [((kI 4),(kI 0),0),((kI 3),(kI 1),1),((kI 5),(kI 1),2),((kI 1),(kI 1),3),((kI 2),(kI 2),4),((kI 0),(kI 2),5)] 6)),
   ((key 4804),(.map [((kI 3),(kI 0),0),((kI 2),(kI 1),1),((kI 4),(kI 1),2),((kI 0),(kI 1),3),((kI 1),(kI 2),4),((kI 5),(kI 2),5)] 6)),
   ((key 4784),(.map [((kI 2),(kI 0),0),((kI 1),(kI 1),1),((kI 3),(kI 1),2),((kI 5),(kI 1),3),((kI 0),(kI 2),4),((kI 4),(kI 2),5)] 6)),
   ((key 4764),(.map [((kI 1),(kI 0),0),((kI 0),(kI 1),1),((kI 2),(kI 1),2),((kI 4),(kI 1),3),((kI 5),(kI 2),4),((kI 3),(kI 2),5)] 6)),
   ((key 4744),(.map [((kI 0),(kI 0),0),((kI 1),(kI 1),1),((kI 5),(kI 1),2),((kI 3),(kI 1),3),((kI 2),(kI 2),4),((kI 4),(kI 2),5)] 6)),
   ((key 4879),(.cells [(.map (key 4744)),(.map (key 4764)),(.map (key 4784)),(.map (key 4804)),(.map (key 4824)),(.map (key 4844)),(.map (key 4864)),(.map (key 4872))] 0)),
   ((key 4130),(.cells [(kI 2)] 0)),
   ((key 3569),(.cells [(kI 1)] 0)),
   ((key 3008),(.cells [(kI 0)] 0)),
   ((key 2657),(.cells [(kI 5)] 0)),
   ((key 2096),(.cells [(kI 4)] 0)),
   ((key 1535),(.cells [(kI 3)] 0)),
   ((key 4742),(.cells [(kN 1535 1 1),(kN 2096 1 1),(kN 2657 1 1),(kN 3008 1 1),(kN 3569 1 1),(kN 4130 1 1),.af,.af] 0)),
   ((key 4609),(.cells [(kI 6)] 0)),
   ((key 4414),(.cells [(kI 7)] 0)),
   ((key 3986),(.cells [(kI 0),(kI 4)] 0)),
   ((key 3495),(.cells [(kI 3),(kI 5)] 0)),
   ((key 2934),(.cells [(kI 2),(kI 4)] 0)),
   ((key 2373),(.cells [(kI 1),(kI 3)] 0)),
   ((key 1812),(.cells [(kI 0),(kI 2)] 0)),
   ((key 1391),(.cells [(kI 1),(kI 5)] 0)),
   ((key 4654),(.cells [(kN 1391 2 1),(kN 1812 2 1),(kN 2373 2 1),(kN 2934 2 1),(kN 3495 2 1),(kN 3986 2 1),(kN 4414 1 1),(kN 4609 1 1)] 0)),
   ((key 4564),(.cells [(.bool false),(.bool true),(.bool false),(.bool false),(.bool false),(.bool false),(.bool false),(.bool false)] 0)),
   ((key 4543),(.cells [(kI 0),(kI 1),(kI 2),(kI 1),(kI 2),(kI 1),(kI 1),(kI 0)] 0)),
   ((key 4507),(.cells [(kI 0),(kI 0),(kI 0),(kI 0),(kI 0),(kI 0),(kI 1),(kI 1)] 0)),
   ((key 1056),(.map [((kU 1),(.agg [(.str [97,112,97,114,116]),(kU 103),(.bool true),(kU 0),(.bool true),(kI 0),(.bool false),(.func 77 [] [])]),0),((kU 2),(.agg [(.str [98,101,115,105,100,101]),(kU 103),(.bool true),(kU 0),(.bool false),(kI 0),(.bool false),(.func 78 [] [])]),1),((kU 3),(.agg [(.str [97,99,114,111,115,115]),(kU 103),(.bool true),(kU 0),(.bool false),(kI 0),(.bool false),(.func 79 [] [])]),2),((kU 4),(.agg [(.str [110,101,97,114]),(kU 103),(.bool true),(kU 0),(.bool true),(kI 1),(.bool false),(.func 80 [] [])]),3),((kU 5),(.agg [(.str [116,111,103,101,116,104,101,114]),(kU 103),(.bool true),(kU 0),(.bool false),(kI 0),(.bool false),(.func 81 [] [])]),4),((kU 6),(.agg [(.str [97,116]),(kU 103),(.bool false),(kU 116),(.bool false),(kI 0),(.bool false),(.func 82 [] [])]),5),((kU 7),(.agg [(.str [115,101,97,116]),(kU 103),(.bool false),(kU 116),(.bool true),(kI 0),(.bool true),(.func 83 [] [])]),6),((kU 8),(.agg [(.str [97,108,116,101,114,110,97,116,101]),(kU 0),(.bool false),(kU 101),(.bool false),(kI 0),(.bool false),(.func 84 [] [])]),7),((kU 9),(.agg [(.str [104,111,115,116]),(kU 0),(.bool false),(kU 101),(.bool false),(kI 0),(.bool false),(.func 85 [] [])]),8),((kU 10),(.agg [(.str [114,101,97,99,104]),(kU 101),(.bool false),(kU 0),(.bool false),(kI 0),(.bool false),(.func 86 [] [])]),9),((kU 11),(.agg [(.str [115,112,101,97,107]),(kU 0),(.bool false),(kU 101),(.bool false),(kI 0),(.bool false),(.func 87 [] [])]),10),((kU 12),(.agg [(.str [112,101,97,99,101]),(kU 0),(.bool false),(kU 101),(.bool false),(kI 0),(.bool false),(.func 88 [] [])]),11),((kU 13),(.agg [(.str [99,111,109,112,97,110,121]),(kU 0),(.bool false),(kU 101),(.bool false),(kI 0),(.bool false),(.func 89 [] [])]),12),((kU 14),(.agg [(.str [104,111,110,111,117,114]),(kU 0),(.bool false),(kU 101),(.bool false),(kI 0),(.bool false),(.func 90 [] [])]),13),((kU 15),(.agg [(.str [102,105,108,108]),(kU 0),(.bool false),(kU 101),(.bool true),(kI 0),(.bool false),(.func 91 [] [])]),14),((kU 16),(.agg [(.str [108,105,109,105,116]),(kU 0),(.bool false),(kU 101),(.bool true),(kI 0),(.bool false),(.func 92 [] [])]),15),((kU 17),(.agg [(.str [107,105,116,99,104,101,110]),(kU 100),(.bool false),(kU 116),(.bool false),(kI 0),(.bool false),(.func 93 [] [])]),16),((kU 18),(.agg [(.str [109,105,120]),(kU 0),(.bool false),(kU 101),(.bool false),(kI 0),(.bool false),(.func 94 [] [])]),17)] 18)),
   ((key 1055),(.cells [(kU 1),(kI 0),(.str [97,110,110,97]),(.str [98,111,114,105,115]),(.str []),(kI 2),(kU 1),(kI 0),(.str [97,110,110,97]),(.str [99,97,114,108]),(.str []),(kI 2),(kU 2),(kI 0),(.str [98,111,114,105,115]),(.str [99,97,114,108]),(.str []),(kI 0),(kU 3),(kI 0),(.str [97,110,110,97]),(.str [99,97,114,108]),(.str []),(kI 0),(kU 4),(kI 0),(.str [97,110,110,97]),(.str [100,111,114,97]),(.str []),(kI 3),(kU 8),(kI 0),(.str []),(.str []),(.str []),(kI 0),(kU 9),(kI 0),(.str []),(.str []),(.str []),(kI 0),(kU 10),(kI 0),(.str []),(.str []),(.str []),(kI 0),(kU 11),(kI 0),(.str []),(.str []),(.str []),(kI 0),(kU 12),(kI 0),(.str []),(.str []),(.str [114]),(kI 0),(kU 14),(kI 0),(.str []),(.str []),(.str []),(kI 0),(kU 15),(kI 0),(.str []),(.str []),(.str []),(kI 2),(kU 16),(kI 0),(.str []),(.str []),(.str [114]),(kI 2),(kU 5),(kI 0),(.str [97,110,110,97]),(.str [98,111,114,105,115]),(.str []),(kI 0),(kU 6),(kI 0),(.str [100,111,114,97]),(.str []),(.str [114]),(kI 0),(kU 7),(kI 0),(.str [99,97,114,108]),(.str []),(.str [114]),(kI 2)] 0)),
   ((key 1053),(.cells [(kI 0),(kI 1),(kI 1),(kI 2)] 0)),
   ((key 1051),(.cells [(.str [97,110,110,97]),(.str [98,111,114,105,115]),(kU 2)] 0)),
   ((key 1049),(.cells [(.str [108,97,116,105,110])] 0)),
   ((key 1047),(.cells [(.str [108,97,116,105,110])] 0)),
   ((key 1045),(.cells [(.str [108,97,116,105,110])] 0)),
   ((key 1043),(.cells [(.str [97,110,110,97]),(.str []),(.str []),(kI 0),(kI 1),(.str []),(.bool true),(.bool false),(kN 1045 1 1),(.str [98,111,114,105,115]),(.str []),(.str []),(kI 0),(kI 1),(.str []),(.bool false),(.bool false),(kN 1047 1 1),(.str [99,97,114,108]),(.str []),(.str []),(kI 0),(kI 2),(.str []),(.bool false),(.bool true),(kN 1049 1 1),(.str [100,111,114,97]),(.str []),(.str []),(kI 0),(kI 0),(.str []),(.bool false),(.bool false),.af] 0)),
   ((key 1041),(.cells [(kI 1)] 0)),
   ((key 1039),(.cells [(.str [114]),(kU 1),(kI 6),(kI 0),(kN 1041 1 1),(kI 0),(kI 0),(.str [119]),(kU 4),(kI 2),(kI 0),.af,(kI 0),(kI 0)] 0)),
   ((key 1057),(.cells [(kN 1039 2 7),(kN 1043 4 9),(kN 1051 1 3),(kN 1053 4 1),(kN 1055 16 6),(.map (key 1056)),(kN 4507 8 1),(kN 4543 8 1),(kN 4564 8 1),(kN 4654 8 1),(kN 4742 8 1),(kN 4879 8 1),(kN 5267 4 1),(kN 5269 4 1)] 0))]⟩
theorem awO:ac6 aac ato gg 100000 60 15=true:=by kernel_rfl
theorem av4:ac5 aac.L0 aac.L1=true:=by kernel_rfl
noncomputable def atp:fc:=wq [(225,GN)]
noncomputable def aad:Go.Ai.Lit:=⟨[(.agg [(kS 5491 2 2 7),(kS 5495 4 4 9),(kS 5496 1 1 3),(kS 5497 4 4 1),(kS 5488 5 5 6)])],(key 5498),
 [((key 5488),(.cells [(kU 14),(kI 0),(.str []),(.str []),(.str [114]),(kI 0),(kU 11),(kI 0),(.str []),(.str []),(.str [114]),(kI 0),(kU 9),(kI 1),(.str []),(.str []),(.str []),(kI 0),(kU 15),(kI 10),(.str []),(.str []),(.str [119]),(kI 2),(kU 15),(kI 100),(.str []),(.str []),(.str []),(kI 4)] 0)),
   ((key 5497),(.cells [(kI 0),(kI 1),(kI 1),(kI 2)] 0)),
   ((key 5496),(.cells [(.str [97,110,110,97]),(.str [98,111,114,105,115]),(kU 2)] 0)),
   ((key 5494),(.cells [(.str [108,97,116,105,110])] 0)),
   ((key 5493),(.cells [(.str [108,97,116,105,110])] 0)),
   ((key 5492),(.cells [(.str [108,97,116,105,110])] 0)),
   ((key 5495),(.cells [(.str [97,110,110,97]),(.str []),(.str []),(kI 0),(kI 1),(.str []),(.bool true),(.bool false),(kS 5492 1 1 1),(.str [98,111,114,105,115]),(.str []),(.str []),(kI 0),(kI 1),(.str []),(.bool false),(.bool false),(kS 5493 1 1 1),(.str [99,97,114,108]),(.str []),(.str []),(kI 0),(kI 2),(.str []),(.bool false),(.bool true),(kS 5494 1 1 1),(.str [100,111,114,97]),(.str []),(.str []),(kI 0),(kI 0),(.str []),(.bool false),(.bool false),.af] 0)),
   ((key 5490),(.cells [(kI 1)] 0)),
   ((key 5491),(.cells [(.str [114]),(kU 1),(kI 6),(kI 0),(kS 5490 1 1 1),(kI 0),(kI 0),(.str [119]),(kU 4),(kI 2),(kI 0),.af,(kI 0),(kI 0)] 0))],
 (.tuple [(.ptr (key 5684) 0),(kI 0),(kI 0)]),(key 9897),
 [((key 5491),(.cells [(.str [114]),(kU 1),(kI 6),(kI 0),(kS 5490 1 1 1),(kI 0),(kI 0),(.str [119]),(kU 4),(kI 2),(kI 0),.af,(kI 0),(kI 0)] 0)),
   ((key 5490),(.cells [(kI 1)] 0)),
   ((key 5495),(.cells [(.str [97,110,110,97]),(.str []),(.str []),(kI 0),(kI 1),(.str []),(.bool true),(.bool false),(kS 5492 1 1 1),(.str [98,111,114,105,115]),(.str []),(.str []),(kI 0),(kI 1),(.str []),(.bool false),(.bool false),(kS 5493 1 1 1),(.str [99,97,114,108]),(.str []),(.str []),(kI 0),(kI 2),(.str []),(.bool false),(.bool true),(kS 5494 1 1 1),(.str [100,111,114,97]),(.str []),(.str []),(kI 0),(kI 0),(.str []),(.bool false),(.bool false),.af] 0)),
   ((key 5492),(.cells [(.str [108,97,116,105,110])] 0)),
   ((key 5493),(.cells [(.str [108,97,116,105,110])] 0)),
   ((key 5494),(.cells [(.str [108,97,116,105,110])] 0)),
   ((key 5496),(.cells [(.str [97,110,110,97]),(.str [98,111,114,105,115]),(kU 2)] 0)),
   ((key 5497),(.cells [(kI 0),(kI 1),(kI 1),(kI 2)] 0)),
   ((key 5488),(.cells [(kU 14),(kI 0),(.str []),(.str []),(.str [114]),(kI 0),(kU 11),(kI 0),(.str []),(.str []),(.str [114]),(kI 0),(kU 9),(kI 1),(.str []),(.str []),(.str []),(kI 0),(kU 15),(kI 10),(.str []),(.str []),(.str [119]),(kI 2),(kU 15),(kI 100),(.str []),(.str []),(.str []),(kI 4)] 0)),
   ((key 9892),(.cells [(kU 0),(kU 0),(kU 0),(kU 0)] 0)),
   ((key 9813),(.cells [(kU 0),(kU 0),(kU 0),(kU 0)] 0)),
   ((key 9726),(.cells [(kU 2),(kU 0),(kU 0),(kU 0)] 0)),
   ((key 9637),(.cells [(kU 0),(kU 2),(kU 0),(kU 0)] 0)),
   ((key 9896),(.cells [(kN 9637 4 1),(kN 9726 4 1),(kN 9813 4 1),(kN 9892 4 1)] 0)),
   ((key 9886),(.cells [(.bool false),(.bool false),(.bool false),(.bool false)] 0)),
   ((key 9807),(.cells [(.bool true),(.bool true),(.bool true),(.bool false)] 0)),
   ((key 9720),(.cells [(.bool true),(.bool true),(.bool true),(.bool false)] 0)),
   ((key 9631),(.cells [(.bool true),(.bool true),(.bool true),(.bool false)] 0)),
   ((key 9894),(.cells [(kN 9631 4 1),(kN 9720 4 1),(kN 9807 4 1),(kN 9886 4 1)] 0)),
   ((key 9499),(.map [((kI 7),(kI 0),0),((kI 6),(kI 1),1)] 2)),
   ((key 9491),(.map [((kI 6),(kI 0),0),((kI 7),(kI 1),1)] 2)),
   ((key 9471),(.map [((kI 5),(kI 0),0),((kI 0),(kI 1),1),((kI 4),(kI 1),2),((kI 2),(kI 1),3),((kI 1),(kI 2),4),((kI 3),(kI 2),5)] 6)),
   ((key 9451),(.map [((kI 4),(kI 0),0),((kI 3),(kI 1),1),((kI 5),(kI 1),2),((kI 1),(kI 1),3),((kI 2),(kI 2),4),((kI 0),(kI 2),5)] 6)),
   ((key 9431),(.map [((kI 3),(kI 0),0),((kI 2),(kI 1),1),((kI 4),(kI 1),2),((kI 0),(kI 1),3),((kI 1),(kI 2),4),((kI 5),(kI 2),5)] 6)),
   ((key 9411),(.map [((kI 2),(kI 0),0),((kI 1),(kI 1),1),((kI 3),(kI 1),2),((kI 5),(kI 1),3),((kI 0),(kI 2),4),((kI 4),(kI 2),5)] 6)),
   ((key 9391),(.map [((kI 1),(kI 0),0),((kI 0),(kI 1),1),((kI 2),(kI 1),2),((kI 4),(kI 1),3),((kI 5),(kI 2),4),((kI 3),(kI 2),5)] 6)),
   ((key 9371),(.map [((kI 0),(kI 0),0),((kI 1),(kI 1),1),((kI 5),(kI 1),2),((kI 3),(kI 1),3),((kI 2),(kI 2),4),((kI 4),(kI 2),5)] 6)),
   ((key 9506),(.cells [(.map (key 9371)),(.map (key 9391)),(.map (key 9411)),(.map (key 9431)),(.map (key 9451)),(.map (key 9471)),(.map (key 9491)),(.map (key 9499))] 0)),
   ((key 8757),(.cells [(kI 2)] 0)),
   ((key 8196),(.cells [(kI 1)] 0)),
   ((key 7635),(.cells [(kI 0)] 0)),
   ((key 7284),(.cells [(kI 5)] 0)),
   ((key 6723),(.cells [(kI 4)] 0)),
   ((key 6162),(.cells [(kI 3)] 0)),
   ((key 9369),(.cells [(kN 6162 1 1),(kN 6723 1 1),(kN 7284 1 1),(kN 7635 1 1),(kN 8196 1 1),(kN 8757 1 1),.af,.af] 0)),
   ((key 9236),(.cells [(kI 6)] 0)),
   ((key 9041),(.cells [(kI 7)] 0)),
   ((key 8613),(.cells [(kI 0),(kI 4)] 0)),
   ((key 8122),(.cells [(kI 3),(kI 5)] 0)),
   ((key 7561),(.cells [(kI 2),(kI 4)] 0)),
   ((key 7000),(.cells [(kI 1),(kI 3)] 0)),
   ((key 6439),(.cells [(kI 0),(kI 2)] 0)),
   ((key 6018),(.cells [(kI 1),(kI 5)] 0)),
   ((key 9281),(.cells [(kN 6018 2 1),(kN 6439 2 1),(kN 7000 2 1),(kN 7561 2 1),(kN 8122 2 1),(kN 8613 2 1),(kN 9041 1 1),(kN 9236 1 1)] 0)),
   ((key 9191),(.cells [(.bool false),(.bool true),(.bool false),(.bool false),(.bool false),(.bool false),(.bool false),(.bool false)] 0)),
   ((key 9170),(.cells [(kI 0),(kI 1),(kI 2),(kI 1),(kI 2),(kI 1),(kI 1),(kI 0)] 0)),
   ((key 9134),(.cells [(kI 0),(kI 0),(kI 0),(kI 0),(kI 0),(kI 0),(kI 1),(kI 1)] 0)),
   ((key 5683),(.map [((kU 1),(.agg [(.str [97,112,97,114,116]),(kU 103),(.bool true),(kU 0),(.bool true),(kI 0),(.bool false),(.func 77 [] [])]),0),((kU 2),(.agg [(.str [98,101,115,105,100,101]),(kU 103),(.bool true),(kU 0),(.bool false),(kI 0),(.bool false),(.func 78 [] [])]),1),((kU 3),(.agg [(.str [97,99,114,111,115,115]),(kU 103),(.bool true),(kU 0),(.bool false),(kI 0),(.bool false),(.func 79 [] [])]),2),((kU 4),(.agg [(.str [110,101,97,114]),(kU 103),(.bool true),(kU 0),(.bool true),(kI 1),(.bool false),(.func 80 [] [])]),3),((kU 5),(.agg [(.str [116,111,103,101,116,104,101,114]),(kU 103),(.bool true),(kU 0),(.bool false),(kI 0),(.bool false),(.func 81 [] [])]),4),((kU 6),(.agg [(.str [97,116]),(kU 103),(.bool false),(kU 116),(.bool false),(kI 0),(.bool false),(.func 82 [] [])]),5),((kU 7),(.agg [(.str [115,101,97,116]),(kU 103),(.bool false),(kU 116),(.bool true),(kI 0),(.bool true),(.func 83 [] [])]),6),((kU 8),(.agg [(.str [97,108,116,101,114,110,97,116,101]),(kU 0),(.bool false),(kU 101),(.bool false),(kI 0),(.bool false),(.func 84 [] [])]),7),((kU 9),(.agg [(.str [104,111,115,116]),(kU 0),(.bool false),(kU 101),(.bool false),(kI 0),(.bool false),(.func 85 [] [])]),8),((kU 10),(.agg [(.str [114,101,97,99,104]),(kU 101),(.bool false),(kU 0),(.bool false),(kI 0),(.bool false),(.func 86 [] [])]),9),((kU 11),(.agg [(.str [115,112,101,97,107]),(kU 0),(.bool false),(kU 101),(.bool false),(kI 0),(.bool false),(.func 87 [] [])]),10),((kU 12),(.agg [(.str [112,101,97,99,101]),(kU 0),(.bool false),(kU 101),(.bool false),(kI 0),(.bool false),(.func 88 [] [])]),11),((kU 13),(.agg [(.str [99,111,109,112,97,110,121]),(kU 0),(.bool false),(kU 101),(.bool false),(kI 0),(.bool false),(.func 89 [] [])]),12),((kU 14),(.agg [(.str [104,111,110,111,117,114]),(kU 0),(.bool false),(kU 101),(.bool false),(kI 0),(.bool false),(.func 90 [] [])]),13),((kU 15),(.agg [(.str [102,105,108,108]),(kU 0),(.bool false),(kU 101),(.bool true),(kI 0),(.bool false),(.func 91 [] [])]),14),((kU 16),(.agg [(.str [108,105,109,105,116]),(kU 0),(.bool false),(kU 101),(.bool true),(kI 0),(.bool false),(.func 92 [] [])]),15),((kU 17),(.agg [(.str [107,105,116,99,104,101,110]),(kU 100),(.bool false),(kU 116),(.bool false),(kI 0),(.bool false),(.func 93 [] [])]),16),((kU 18),(.agg [(.str [109,105,120]),(kU 0),(.bool false),(kU 101),(.bool false),(kI 0),(.bool false),(.func 94 [] [])]),17)] 18)),
   ((key 5682),(.cells [(kU 14),(kI 0),(.str []),(.str []),(.str [114]),(kI 0),(kU 11),(kI 0),(.str []),(.str []),(.str [114]),(kI 0),(kU 9),(kI 1),(.str []),(.str []),(.str []),(kI 0),(kU 15),(kI 10),(.str []),(.str []),(.str [119]),(kI 2),(kU 15),(kI 100),(.str []),(.str []),(.str []),(kI 4)] 0)),
   ((key 5680),(.cells [(kI 0),(kI 1),(kI 1),(kI 2)] 0)),
   ((key 5678),(.cells [(.str [97,110,110,97]),(.str [98,111,114,105,115]),(kU 2)] 0)),
   ((key 5676),(.cells [(.str [108,97,116,105,110])] 0)),
   ((key 5674),(.cells [(.str [108,97,116,105,110])] 0)),
   ((key 5672),(.cells [(.str [108,97,116,105,110])] 0)),
   ((key 5670),(.cells [(.str [97,110,110,97]),(.str []),(.str []),(kI 0),(kI 1),(.str []),(.bool true),(.bool false),(kN 5672 1 1),(.str [98,111,114,105,115]),(.str []),(.str []),(kI 0),(kI 1),(.str []),(.bool false),(.bool false),(kN 5674 1 1),(.str [99,97,114,108]),(.str []),(.str []),(kI 0),(kI 2),(.str []),(.bool false),(.bool true),(kN 5676 1 1),(.str [100,111,114,97]),(.str []),(.str []),(kI 0),(kI 0),(.str []),(.bool false),(.bool false),.af] 0)),
   ((key 5668),(.cells [(kI 1)] 0)),
   ((key 5666),(.cells [(.str [114]),(kU 1),(kI 6),(kI 0),(kN 5668 1 1),(kI 0),(kI 0),(.str [119]),(kU 4),(kI 2),(kI 0),.af,(kI 0),(kI 0)] 0)),
   ((key 5684),(.cells [(kN 5666 2 7),(kN 5670 4 9),(kN 5678 1 3),(kN 5680 4 1),(kN 5682 5 6),(.map (key 5683)),(kN 9134 8 1),(kN 9170 8 1),(kN 9191 8 1),(kN 9281 8 1),(kN 9369 8 1),(kN 9506 8 1),(kN 9894 4 1),(kN 9896 4 1)] 0))]⟩
theorem awP:ac6 aad atp gg 100000 60 15=true:=by kernel_rfl
theorem av5:ac5 aad.L0 aad.L1=true:=by kernel_rfl
end
end Go.Proofs.YtmldijpopgaaeaaGreatDoor
namespace Go.Proofs
section
set_option maxRecDepth 1000000
open Go Go.RowKit Go.Shelf Go.Ai Go.Proofs.YtmldijpopgaaeaaGreatDoor
def az.B8(t:List Nat):ByteArray:=⟨(t.map UInt8.ofNat).toArray⟩
theorem az.CE{t:List Nat}{bs:ByteArray}(h:bs.data.toList.map UInt8.toNat=t):bs=az.B8 t:=by
 unfold az.B8;rw[aoe h]
structure az.RR where
 k:Nat
 wt:Int
 a:ByteArray
 b:ByteArray
 t:ByteArray
 n:Int
def az.RR.val(r:az.RR):Value:= .agg #[.int .u8 r.k,.int .i64 r.wt,.string r.a,.string r.b,.string r.t,.int .i64 r.n]
def az.valOf:Int ⊕ az.RR->Value
 |.inl e=>.tuple #[.agg #[.int .u8 0,.int .i64 0,.string ⟨#[]⟩,.string ⟨#[]⟩,.string ⟨#[]⟩,.int .i64 0],.int .i64 e]
 |.inr r=>.tuple #[r.val,.int .i64 0]
def az.dec:AV->Option (Int ⊕ az.RR)
 |  .tuple [.agg [.int .u8 (.ofNat k),.int .i64 wt,.str a,.str b,.str t,.int .i64 n],.int .i64 (.ofNat e)]=>match e with
    |0=>some (.inr ⟨k,wt,az.B8 a,az.B8 b,az.B8 t,n⟩)
    |e+1=>match k,wt,a,b,t,n,Nat.blt e 100 with
     |0,.ofNat 0,[],[],[],.ofNat 0,true=>some (.inl ((e+1:Nat):Int))
     |_,_,_,_,_,_,_=>none
 |_=>none
theorem az.au5{v:AV}{r:Int ⊕ az.RR}(h:az.dec v=some r){ρ:Pos->Go.Ai.Loc}{n:Nat}{C:Cells}{y:Value}(hv:aC ρ n C v y):y=az.valOf r:=by
 unfold az.dec at h;split at h<;>first|(cases h;done)|skip
 obtain⟨cs,rfl,hw⟩:=hv.W4;obtain⟨x,xs,h1,hx,hw⟩:=hw.cons_inv;obtain⟨y,ys,rfl,hy,hw⟩:=hw.cons_inv;have:=hw.kO;subst this;have eW:cs= #[x,y]:=by apply Zm4;simpa using h1
 subst eW;obtain⟨ds,rfl,hz⟩:=hx.Gy;obtain⟨x1,xs,g1,hx1,hz⟩:=hz.cons_inv;obtain⟨x2,xs,rfl,hx2,hz⟩:=hz.cons_inv;obtain⟨x3,xs,rfl,hx3,hz⟩:=hz.cons_inv;obtain⟨x4,xs,rfl,hx4,hz⟩:=hz.cons_inv;obtain⟨x5,xs,rfl,hx5,hz⟩:=hz.cons_inv;obtain⟨x6,xs,rfl,hx6,hz⟩:=hz.cons_inv;have:=hz.kO;subst this;have QO:ds= #[x1,x2,x3,x4,x5,x6]:=by apply Zm4;simpa using g1
 subst QO;have:=hx1.iI;subst this;have:=hx2.iI;subst this;obtain⟨a,rfl,ha⟩:=hx3.fB;obtain⟨b,rfl,hb⟩:=hx4.fB;obtain⟨t,rfl,ht⟩:=hx5.fB;have:=hx6.iI;subst this;have:=hy.iI;subst this;split at h
 .cases h;rw[<-az.CE ha, <-az.CE hb, <-az.CE ht];rfl
 . (split at h<;>first|(cases h;done)|skip);cases h;rw[az.CE ha,az.CE hb,az.CE ht];rfl
theorem az.au6{v:AV}{e:Int}(h:az.dec v=some (.inl e)):1<=e/\e<=100:=by
 unfold az.dec at h;split at h<;>first|(cases h;done)|skip
 split at h<;>first|(cases h;done)|skip
 split at h<;>first|(cases h;done)|skip
 rename_i aW;cases h;have:=Zb5 aW;omega
noncomputable def az.asJ:fc:=wq [(120,ag9 Tryz.prog tt (wq []) gg 100000 60 Tryz.f120),(208,idxS),(229,ami)]
@[irreducible] noncomputable def az.ahk(x:ByteArray):Option (Int ⊕ az.RR):=Oe none az.asJ gg 100000 60 61 [.str (x.data.toList.map UInt8.toNat)] { heap:= .e,next:= .h } λv _=>az.dec v
noncomputable def az.okL(x:ByteArray):Bool:=(az.ahk x).isSome
@[irreducible] noncomputable def az.xw(x:ByteArray):Int ⊕ az.RR:=(az.ahk x).getD (.inl 1)
def az.atq(x:ByteArray)(w:World)(e:Ending)(w':World):Prop:=e= .returned (az.valOf (az.xw x))/\Below w.heap.size w w'
theorem az.asK{x:ByteArray}{e:Int}(hq:az.okL x=true)(h:az.xw x= .inl e):1<=e/\e<=100:=by
 unfold az.xw at h;obtain⟨r,hr⟩:=Zn1.1 hq;rw[hr]at h;unfold az.ahk at hr;rw[GM none az.asJ gg 100000 60]at hr;unfold uW at hr;split at hr<;>first|(cases hr;done)|skip
 subst h;exact az.au6 hr
theorem az.line(x:ByteArray)(hq:az.okL x=true)(w:World):Calls Tryz.prog 61 #[.string x] w (az.atq x w):=by
 unfold az.atq az.xw;obtain⟨r,hr⟩:=Zn1.1 hq;rw[hr];unfold az.ahk at hr;rw[GM none az.asJ gg 100000 60]at hr;unfold uW at hr;split at hr<;>first|(cases hr;done)|skip
 rename_i y hy;obtain⟨v,bE⟩:=y;have hm:Tryz.prog.follows .mixedOrders=true:=by kernel_rfl
 have h0:=zk (P:=Tryz.prog) (C:=λ_=>none) (l:=[]) (λx hx=>by simp at hx);have ho:=zk (P:=Tryz.prog) (C:=λ_=>none) (l:=[(120,ag9 Tryz.prog tt (wq []) gg 100000 60 Tryz.f120),(208,idxS),(229,ami)]) (λx hx=>by
  simp only[Za8,Zc0,Ze9]at hx;rcases hx with rfl|rfl|rfl
  .exact aqS hm UZ h0.1 h0.2 U0 Tryz.func120 (by kernel_rfl)
  .exact aqQ (fn:=Tryz.f208) Tryz.func208 (by kernel_rfl) (by kernel_rfl) (by kernel_rfl) (by kernel_rfl)
  .exact aqR (fn:=Tryz.f229) Tryz.func229 (by kernel_rfl) (by kernel_rfl) (by kernel_rfl) (by kernel_rfl))
 have hs:=DX hm UZ ho.1 ho.2 U0 100000 60 (λ_=>⟨0,0,0⟩) { heap:= .e,next:= .h } w 61 _ v bE [.string x] hy (HZ (λ_ _ h=>by cases h) (λ_ _ h=>by cases h)) (aK.nil.cons (.str _ x rfl));have dO:(callFunc 61 ([Value.string x]:List Value).toArray).run Tryz.prog w= .ok (.enter 61 #[.string x]) w:=enters_of Tryz.func61 (by kernel_rfl) rfl _ _;rw[dO]at hs;refine Calls.mono hs λe w' he=> ?_
 cases e with
 |returned z=>
  obtain⟨ρ',h1,_,_,_,hE⟩:=he;exact⟨congrArg Ending.returned (az.au5 hr h1),hE.os,hE.tape,hE.output,hE.size,λk hk=>hE.block k hk λb x hb=>by rw[T.dS]at hb;cases hb⟩
 |panicked c=>exact he.elim
 |outgrown=>exact he.elim
end
end Go.Proofs
namespace Go.az
section
open Go Go.RowKit
def Is(w:World)(n:Nat)(T:TypeId)(cs:Array Value):Prop:=w.heap[n]? =some (.cells cs T (0,0))
section
variable{w w':World}{n m o:Nat}{T:TypeId}{cs:Array Value}{v:Value}
theorem Is.cell(h:Is w n T cs)(o:Nat):w.cell? ⟨n,o,none⟩=cs[o]? :=by unfold Is at h;simp[World.cell?,h]
theorem Is.frozen(h:Is w n T cs)(o:Nat):w.frozen? ⟨n,o,none⟩=false:=by unfold Is at h;simp[World.frozen?,h]
theorem Is.lt(h:Is w n T cs):n<w.heap.size:=(Zd3.1 h).1
theorem Is.new(w:World)(T:TypeId)(cs:Array Value):Is (w.alloc (.cells cs T)) w.heap.size T cs:=by show(w.heap.push _)[w.heap.size]? =_;simp
theorem Is.alloc(h:Is w n T cs)(x:Obj):Is (w.alloc x) n T cs:=by
 have:=h.lt;unfold Is at h ⊢;rw[<-h];show(w.heap.push _)[n]? =_;simp[Zp9,Nat.ne_of_lt this]
theorem Is.drew(h:Is w n T cs):Is w.drew n T cs:=h
theorem Is.set(h:Is w n T cs)(o:Nat)(v:Value):Is (w.setCell ⟨n,o,none⟩ v) n T (cs.setIfInBounds o v):=by
 have:=h.lt;unfold Is at h ⊢;have hm:=Zd3.1 h;simp[World.setCell,Zj1,h]
theorem Is.other(h:Is w n T cs)(cY:m≠n)(o:Nat)(v:Value):Is (w.setCell ⟨m,o,none⟩ v) n T cs:=by
 unfold Is at h ⊢;rw[<-h];simp[World.setCell,Zj1,cY]
theorem Is.below{B:Nat}(h:Is w n T cs)(hb:Below B w w')(hn:n<B):Is w' n T cs:=by unfold Is at h ⊢; rw[hb.block n hn];exact h
theorem Is.of_heap(h:Is w n T cs)(e:w'.heap[n]? =w.heap[n]?):Is w' n T cs:=by unfold Is at h ⊢; rw[e];exact h
theorem Is.cast{mZ:Array Value}(h:Is w n T cs)(e:cs=mZ):Is w n T mZ:=e ▸h
theorem Is.one{a:Value}(h:Is w n T #[a]):w.cell? ⟨n,0,none⟩=some a:=h.cell 0
theorem Yn(e:w'.heap[n]? =w.heap[n]?)(o:Nat):w'.cell? ⟨n,o,none⟩=w.cell? ⟨n,o,none⟩:=by simp[World.cell?,e]
theorem heap_alloc(w:World)(x:Obj)(hn:n<w.heap.size):(w.alloc x).heap[n]? =w.heap[n]? :=by show(w.heap.push _)[n]? =_;simp[Zp9,Nat.ne_of_lt hn]
theorem akF(cY:m≠n)(o:Nat)(v:Value):(w.setCell ⟨m,o,none⟩ v).heap[n]? =w.heap[n]? :=by simp[World.setCell,Zj1,cY]
end
end
end Go.az
namespace Go.Proofs
section
open Go.Shelf
def Tryz.akG:Go.Shelf.Ren:=⟨λ|137=>116|217=>164|266=>208|n=>n,λ|9=>9|5=>5|3=>3|n=>n,λ|n=>n⟩
theorem Tryz.au7:Go.Proofs.Lays.n137 Tryz.prog Tryz.akG:={
 mixed:=by kernel_rfl
 f137:=Tryz.func116.trans (congrArg some (by kernel_rfl))
 f217:=Tryz.func164.trans (congrArg some (by kernel_rfl))
 f266:=Tryz.func208.trans (congrArg some (by kernel_rfl))
 t3:=Tryz.underlying3
 a3:=Tryz.isAgg3
 z3:=Tryz.sizeOf3
 v3:=Tryz.zeroValue3
 t5:=Tryz.underlying5
 a5:=Tryz.isAgg5
 z5:=Tryz.sizeOf5
 v5:=Tryz.zeroValue5
 t9:=Tryz.underlying9
 a9:=Tryz.isAgg9
 z9:=Tryz.sizeOf9
 v9:=Tryz.zeroValue9 }
open Go.RowKit in
theorem Tryz.strings_IndexByte(s:ByteArray)(c:Int)(w:World):
 Calls Tryz.prog 116 #[.string s,.int .u8 c] w λe w'=>e= .returned (.int .i64 (Lib.indexByte s.data.toList c.toNat.toUInt8))/\w'=w:=Any.strings_IndexByte Tryz.au7 s c w
open Go.RowKit Go.Lib in
def Tryz.ajY:Go.Shelf.Ren:=⟨λ|219=>230|217=>164|225=>233|224=>234|267=>235|266=>208|314=>236|n=>n,λ|9=>9|3=>3|4=>4|5=>5|46=>132|146=>208|51=>103|n=>n,λ|1=>0|n=>n⟩
theorem Tryz.asL:Go.Proofs.LaysM.n219 Tryz.prog Tryz.ajY:={
 mixed:=by kernel_rfl
 f217:=Tryz.func164.trans (congrArg some (by kernel_rfl))
 f219:=Tryz.func230.trans (congrArg some (by kernel_rfl))
 f224:=Tryz.func234.trans (congrArg some (by kernel_rfl))
 f225:=Tryz.func233.trans (congrArg some (by kernel_rfl))
 f266:=Tryz.func208.trans (congrArg some (by kernel_rfl))
 f267:=Tryz.func235.trans (congrArg some (by kernel_rfl))
 f314:=Tryz.func236.trans (congrArg some (by kernel_rfl))
 t3:=Tryz.underlying3
 a3:=Tryz.isAgg3
 z3:=Tryz.sizeOf3
 v3:=Tryz.zeroValue3
 t4:=Tryz.underlying4
 a4:=Tryz.isAgg4
 z4:=Tryz.sizeOf4
 v4:=Tryz.zeroValue4
 t5:=Tryz.underlying5
 a5:=Tryz.isAgg5
 z5:=Tryz.sizeOf5
 v5:=Tryz.zeroValue5
 t9:=Tryz.underlying9
 a9:=Tryz.isAgg9
 z9:=Tryz.sizeOf9
 v9:=Tryz.zeroValue9
 t46:=Tryz.underlying132
 a46:=Tryz.isAgg132
 z46:=Tryz.sizeOf132
 v46:=Tryz.zeroValue132
 t51:=Tryz.underlying103
 a51:=Tryz.isAgg103
 z51:=Tryz.sizeOf103
 v51:=Tryz.zeroValue103
 t146:=Tryz.underlying208
 a146:=Tryz.isAgg208
 z146:=Tryz.sizeOf208
 v146:=Tryz.zeroValue208
 g1:=by kernel_rfl
 i3:=by kernel_rfl
 i4:=by kernel_rfl
 i5:=by kernel_rfl
 i9:=by kernel_rfl
 i46:=by kernel_rfl
 i51:=by kernel_rfl
 i146:=by kernel_rfl
 m1:=by kernel_rfl
 s1_3:=λw h=>Go.Proofs.cell_of_shapedOpen_int (zero:= #[.int .i64 0]) (t:=3) h (Zg2 (by kernel_rfl)) (by kernel_rfl) rfl (by kernel_rfl) (by kernel_rfl) Tryz.underlying3 }
end
end Go.Proofs
namespace Go.az
section
open Go Go.RowKit
variable{F:Fence}{n:Nat}{P:Program}
structure VX(b:Nat)(W W':World):Prop where
 cell:W'.cell? ⟨b,0,none⟩=W.cell? ⟨b,0,none⟩
 dW:W'.frozen? ⟨b,0,none⟩=W.frozen? ⟨b,0,none⟩
theorem VX.trans{b:Nat}{A B C:World}(h:VX b A B)(k:VX b B C):VX b A C:=⟨k.cell.trans h.cell,k.dW.trans h.dW⟩
theorem VX.putObj{b l:Nat}{W:World}(o:Obj)(h:b≠l):VX b W (W.putObj l o):=by
 have:(W.putObj l o).heap[b]? =W.heap[b]? :=World.putObj_heap_other h;exact⟨by simp[World.cell?,this],by simp[World.frozen?,this]⟩
def FQ(b:Nat){β:Type}(J:β->World->Prop):Prop:=∀s W v,J s W->J s (W.setCell ⟨b,0,none⟩ v)
def SeqC{α:Type}(F:Fence)(n:Nat)(P:Program)(g b:Nat)(lb:Array Value)(encs:α->Array Value)(xs:List α)(w:World):Prop:=
 ∀  (l:Nat)(J Jx:List α->World->Prop)(W:World),Below w.heap.size w W->AbidesFrom W.heap.size J->AbidesFrom W.heap.size Jx->FQ b J->FQ b Jx->
    (∀pre x W1,J pre W1->pre++[x] <+: xs->YieldAt F (n - 1) P l (encs x) W1 λe W'=>
     (e= .returned (.bool true)/\J (pre++[x]) W'/\VX b W1 W')\/(e= .returned (.bool false)/\Jx (pre++[x]) W'))->
    J [] W->
    CallsIn F n P g (#[.func (.yield l) #[] #[]]++lb) W λe W'=>(∃v,e= .returned v)/\(J xs W'\/∃pre,pre <+: xs/\Jx pre W')
def ap8{α:Type}(b B:Nat)(I:List α->World->Prop)(Ix:List α->World->Prop)(xs:List α)(W:World):Exit->Act->World->Prop
 |.normal,_,W'=>KeepsFrom B W W'/\VX b W W'/\I xs W'
 |.ret,_,W'=>KeepsFrom B W W'/\Ix xs W'
 |_,_,_=>False
theorem akH{α:Type}{g:Operand}{ps:Array Tmp}{assign body:Code}{Q:Exit->Act->World->Prop}{a:Act}{w:World}
   (hro:F.round=none) (h1:1<=n) {gf b:Nat} {lb:Array Value} (hg:a.eval g= .func (.func gf) #[] lb) (hFg:F.fn gf) (eg:∀args w,(callFunc gf args).run P w= .ok (.enter gf args) w)
   {encs:α->Array Value} {xs:List α} (hseq:SeqC F (n - 1) P gf b lb encs xs w) (hbw:b<w.heap.size) (hps:∀x,(encs x).size=ps.size)
   (I:List α->World->Prop) (Ix:List α->World->Prop) (hI:OwnFrom w.heap.size I) (hIx:OwnFrom w.heap.size Ix) (hIs:FQ b I) (hIxs:FQ b Ix) (h0:I [] w) (a₁:α->Act)
   (au8:∀(l:Nat)(x:α)(W:World)(K:Act->World->Prop),K (a₁ x) W->
     assign.wpIn (F.inRound l) (n - 1 - 1) P (Exit.then K (λ_ _ _=>False)) { tmps:=(ps.zip (encs x)).foldl (λt (p,v)=>t.setIfInBounds p v) a.tmps,defers:=[] } W)
   (amj:∀(l:Nat)(pre:List α)(x:α)(W:World),I pre W->pre++[x] <+: xs->w.heap.size<=W.heap.size->body.wpIn (F.inRound l) (n - 1 - 1) P (ap8 b w.heap.size I Ix (pre++[x]) W) (a₁ x) W)
   (amh:∀(D:Nat)(W:World),w.heap.size<=D->I xs W->W.heap[D]? =some (.deferred (some []))->Q .normal { a with defers:={ target:= .collected D,args:= #[] }::a.defers } W)
   (awQ:∀(D:Nat)(pre:List α)(W:World),w.heap.size<=D->pre <+: xs->Ix pre W->W.heap[D]? =some (.deferred (some []))->Code.ret.wpIn F n P Q { a with defers:={ target:= .collected D,args:= #[] }::a.defers } W):
   (Code.rangeFunc g ps assign body).wpIn F n P Q a w:=by
 refine wpIn_rangeFunc λfn HW=> ?_
 rw[hro]
 let acE:LoopState->Option Code->Loop:=λst pe=>{ state:=st,pending:=pe,fn,tmps:=a.tmps,params:=ps,assign,body,defers:=w.heap.size }
 let L:Nat:=w.heap.size+1
 let W1:World:=(w.alloc (.deferred (some []))).alloc (.loop (acE .ready none))
 have hL1:W1.heap[L]? =some (.loop (acE .ready none)):=by have:=World.alloc_heap_new (w.alloc (.deferred (some []))) (.loop (acE .ready none));rwa [World.size_alloc]at this
 have hK1:W1.heap[w.heap.size]? =some (.deferred (some [])):=(Below.heap_alloc _ _ _ (by simp)).trans (World.alloc_heap_new w _);have hWs:W1.heap.size=w.heap.size+1+1:=by show((w.alloc _).alloc _).heap.size=_;simp
 have kj:Below w.heap.size w W1:=((Below.refl _ w).alloc (Za3 _) _).alloc (by simp) _
 let J:List α->World->Prop:=λpre W=>I pre W/\W.heap[L]? =some (.loop (acE .ready none))/\W.heap[w.heap.size]? =some (.deferred (some []))/\w.heap.size<=W.heap.size
 let Jx:List α->World->Prop:=λpre W=>Ix pre W/\W.heap[L]? =some (.loop (acE .done (some .ret)))/\W.heap[w.heap.size]? =some (.deferred (some []))/\w.heap.size<=W.heap.size
 have up:∀{A:World}{row:Option Nat},(∀r,row=some r->W1.heap.size<=r/\∃o:Obj,A.heap[r]? =some o/\o.isWalk=true)->∀r,row=some r->w.heap.size<=r/\∃o:Obj,A.heap[r]? =some o/\o.isCells=false:=
   λhr r e=>by obtain⟨q,o,ho,hw⟩:=hr r e;exact⟨by omega,o,ho,Obj.not_cells_of_walk hw⟩
 have hJ:AbidesFrom W1.heap.size J:=λs A B row hs DK hr=>
   ⟨hI s A B row hs.1 DK (up hr),(grownBy_keeps DK (λr e=>(hr r e).2) hs.2.1 rfl).trans hs.2.1,(grownBy_keeps DK (λr e=>(hr r e).2) hs.2.2.1 rfl).trans hs.2.2.1,Zb2 hs.2.2.2 DK.size⟩
 have hJx:AbidesFrom W1.heap.size Jx:=λs A B row hs DK hr=>
   ⟨hIx s A B row hs.1 DK (up hr),(grownBy_keeps DK (λr e=>(hr r e).2) hs.2.1 rfl).trans hs.2.1,(grownBy_keeps DK (λr e=>(hr r e).2) hs.2.2.1 rfl).trans hs.2.2.1,Zb2 hs.2.2.2 DK.size⟩
 have Jw:∀(W:World)(v:Value)(k:Nat),w.heap.size<=k->(W.setCell ⟨b,0,none⟩ v).heap[k]? =W.heap[k]? :=λW v k hk=>Below.heap_setCell W _ v k (by show k≠b;omega)
 have hJs:FQ b J:=λs W v hs=>⟨hIs s W v hs.1,(Jw _ _ _ (by show w.heap.size<=w.heap.size+1;omega)).trans hs.2.1,(Jw _ _ _ (Za3 _)).trans hs.2.2.1,by rw[World.size_setCell];exact hs.2.2.2⟩
 have hJxs:FQ b Jx:=λs W v hs=>⟨hIxs s W v hs.1,(Jw _ _ _ (by show w.heap.size<=w.heap.size+1;omega)).trans hs.2.1,(Jw _ _ _ (Za3 _)).trans hs.2.2.1,by rw[World.size_setCell];exact hs.2.2.2⟩
 refine⟨L,[{ target:= .collected w.heap.size,args:= #[] }],W1,{ target:= .fn (.func gf) lb,args:= #[.func (.yield L) #[] #[]] },W1,gf, #[.func (.yield L) #[] #[]]++lb,W1,run_enterLoop_outer _ _ _ _ _,?_,?_,?_,λ_=>h1,?_⟩
 .simp only[resolve,hg];simp[go_sem]
 .intro f' hf';simp[Target.leads]at hf';subst hf';exact hFg
 .simp[invoke,go_sem,eg]
 refine(hseq L J Jx W1 kj hJ hJx hJs hJxs ?_ ⟨hI.alloc _ (hI.alloc _ h0),hL1,hK1,by omega⟩).mono ?_
 ·
   rintro pre x W ⟨hi,hl,hk,gw⟩ acF;have aW:L<W.heap.size:=(Zd3.1 hl).1;refine⟨fn,_,assign,body,run_yield (P:=P) (args:=encs x) hl (hps x),roundIn_of_wpIn HW (au8 _ x W _ ⟨_,run_beginRound hl rfl,?_⟩)⟩;have hneL:b≠L:=by show b≠w.heap.size+1;omega
   let W2:World:=W.putObj L (.loop { acE .ready none with state:= .busy })
   have sx:W2.heap[L]? =some (.loop { acE .ready none with state:= .busy }):=World.putObj_heap_same aW;have uC:W2.heap[w.heap.size]? =some (.deferred (some [])):=(World.putObj_heap_other (by show w.heap.size≠w.heap.size+1;omega)).trans hk;have asM:w.heap.size<=W2.heap.size:=Zb2 gw (grownBy_putObj' W L _).size;refine wpIn_mono (amj L pre x W2 (hI.putObj _ hi (by show w.heap.size<=w.heap.size+1;omega) hl rfl) acF asM) ?_;rintro e a3 W3 hp;cases e with
   | normal=>
     obtain⟨Ey,hkp3,hi3⟩:=hp;have hl3:=Ey.same _ _ (by show w.heap.size<=w.heap.size+1;omega) sx rfl;have amK:=(Zd3.1 hl3).1;exact⟨_,_,run_endRound (P:=P) none hl3,.inl ⟨rfl,⟨hI.putObj _ hi3 (by show w.heap.size<=w.heap.size+1;omega) hl3 rfl,World.putObj_heap_same amK,(World.putObj_heap_other (by show w.heap.size≠w.heap.size+1;omega)).trans (Ey.same _ _ (Za3 _) uC rfl),Zb2 (Zb2 asM Ey.size) (grownBy_putObj' W3 L _).size⟩,
        ((VX.putObj _ hneL).trans hkp3).trans (VX.putObj _ hneL)⟩⟩
   | ret=>
     obtain⟨Ey,hi3⟩:=hp;have hl3:=Ey.same _ _ (by show w.heap.size<=w.heap.size+1;omega) sx rfl;have amK:=(Zd3.1 hl3).1;exact⟨_,_,run_endRound (P:=P) (some .ret) hl3,.inr ⟨rfl,hIx.putObj _ hi3 (by show w.heap.size<=w.heap.size+1;omega) hl3 rfl,World.putObj_heap_same amK,(World.putObj_heap_other (by show w.heap.size≠w.heap.size+1;omega)).trans (Ey.same _ _ (Za3 _) uC rfl),Zb2 (Zb2 asM Ey.size) (grownBy_putObj' W3 L _).size⟩⟩
   |exit id=>exact hp.elim
   |goto t=>exact hp.elim
   |panic ch=>exact hp.elim
   |outgrown=>exact hp.elim
 ·
   rintro e W2 ⟨⟨v,rfl⟩,(⟨hi,hl,hk,_⟩|⟨pre,acF,hi,hl,hk,_⟩)⟩
   .exact⟨none,_,run_endLoop (P:=P) hl (by show LoopState.ready≠LoopState.busy;simp),amh _ _ (Za3 _) (hI.putObj _ hi (by show w.heap.size<=w.heap.size+1;omega) hl rfl) ((World.putObj_heap_other (by show w.heap.size≠w.heap.size+1;omega)).trans hk)⟩
   .exact⟨some .ret,_,run_endLoop (P:=P) hl (by show LoopState.done≠LoopState.busy;simp),awQ _ pre _ (Za3 _) acF (hIx.putObj _ hi (by show w.heap.size<=w.heap.size+1;omega) hl rfl) ((World.putObj_heap_other (by show w.heap.size≠w.heap.size+1;omega)).trans hk)⟩
end
end Go.az
section
namespace Go.az
open Go
def yw(s:ByteArray):Int:=Lib.indexByte s.data.toList 10
def xN:Nat->ByteArray->List ByteArray
 |0,_=>[]
 |f+1,s=>if s.size=0 then []else if yw s<0 then [s]else s.extract 0 ((yw s).toNat+1)::xN f (s.extract ((yw s).toNat+1) s.size)
def gP(s:ByteArray):List ByteArray:=xN s.size s
theorem au9(s:ByteArray): -1<=yw s:=Lib.indexByte_ge _ _
theorem ava(s:ByteArray)(h:0<=yw s):(yw s).toNat<s.size:=by
 have e:yw s=((yw s).toNat:Int):=by omega
 have:=(Lib.indexByte_some (l:=s.data.toList) (c:=10) (o:=(yw s).toNat) e).1;have:=(Za2.1 this).1;simpa using this
theorem abw:∀(f g:Nat)(s:ByteArray),s.size<=f->s.size<=g->xN f s=xN g s
 |0,0,_,_,_=>rfl
 |0,g+1,s,h,_=>by
  have:s.size=0:=by omega
  simp[xN,this]
 |f+1,0,s,_,h=>by
  have:s.size=0:=by omega
  simp[xN,this]
 |f +1,g+1,s,h1,h2=>by
  unfold xN;split
  .rfl
  . split
    .rfl
    .rw[abw f g _ (by simp;omega) (by simp;omega)]
theorem ad9{s:ByteArray}(h:s.size=0):gP s=[]:=by unfold gP;rw[h];rfl
theorem akI{s:ByteArray}(h:s.size≠0)(hi:yw s<0):gP s=[s]:=by
 unfold gP;obtain⟨k,hk⟩:∃k,s.size=k+1:=⟨s.size - 1,by omega⟩
 rw[hk];simp only[xN];rw[Za7 h,Zb6 hi]
theorem anJ{s:ByteArray}(h:s.size≠0)(hi:0<=yw s):gP s=s.extract 0 ((yw s).toNat+1)::gP (s.extract ((yw s).toNat+1) s.size):=by
 unfold gP;obtain⟨k,hk⟩:∃k,s.size=k+1:=⟨s.size - 1,by omega⟩
 conv=>lhs;rw[hk]
 simp only[xN];rw[Za7 h,Za7 (by omega)];rw[abw k _ _ (by simp;omega) (Za3 _)]
theorem abx:∀(f:Nat)(s x:ByteArray),x∈xN f s->x.size<=s.size
 |0,_,_,h=>by simp[xN]at h
 |f +   1,s,x,h=>by
  unfold xN at h;split at h
  .simp at h
  . split at h
    .   simp at h;rw[h];exact Za3 _
    .   rcases Za8.1 h with rfl|h
        .simp;omega
        .have:=abx f _ x h;simp at this;omega
theorem akJ(s x:ByteArray)(h:x∈gP s):x.size<=s.size:=abx _ s x h
def ajZ(w:World)(b:Nat):Nat:=match w.cell? ⟨b,0,none⟩with
 |some (.string r)=>r.size
 |_=>0
theorem Pq{w:World}{b:Nat}{r:ByteArray}(h:w.cell? ⟨b,0,none⟩=some (.string r)):ajZ w b=r.size:=by unfold ajZ;rw[h]
end Go.az
namespace Go.Proofs
open Go.RowKit Go.Shelf Go.az
attribute [local go_sem] Oper.semAt_some
theorem az.grown_drewN(w:World)(k:Nat):w.grownBy (w.drewN k) none:=⟨rfl,rfl,rfl,Za3 _,λ_ _ _=>rfl⟩
theorem az.atr(r:ByteArray)(w:World):Calls Tryz.prog 116 #[.string r,.int .u8 10] w λe w'=>e= .returned (.int .i64 (yw r))/\w=w':=(Tryz.strings_IndexByte r 10 w).mono λ_ _ h=>⟨h.1,h.2.symm⟩
theorem az.avb(n:Nat)(l b:Nat)(s:ByteArray)(hs:s.size<=65536)(J Jx:List ByteArray->World->Prop)(W:World)(B0:Nat)(hJ:AbidesFrom B0 J)(hJx:AbidesFrom B0 Jx)(hJs:FQ b J)
  (hY:∀pre x W1,J pre W1->pre++[x] <+: gP s->YieldAt Fence.wide (n - 1) Tryz.prog l #[.string x] W1 λe W'=>
    (e= .returned (.bool true)/\J (pre++[x]) W'/\VX b W1 W')\/(e= .returned (.bool false)/\Jx (pre++[x]) W'))
  (hn:1<=n) (hb:W.cell? ⟨b,0,none⟩=some (.string s)) (hf:W.frozen? ⟨b,0,none⟩=false) (h0:J [] W):
  CallsIn Fence.wide n Tryz.prog 115 #[.func (.yield l) #[] #[],.pointer (some ⟨b,0,none⟩)] W λe W'=>(∃v,e= .returned v)/\(J (gP s) W'\/∃pre,pre <+: gP s/\Jx pre W'):=by
 have HY:=Lib.hid hY;clear hY;refine callsIn_of_wp Tryz.func115 rfl trivial ?_ rfl;simp only[Tryz.ntmps115,Zo0,Zc6,Zi2,Nat.reduceAdd,Nat.reduceSub,Array.replicate_succ,Array.replicate_zero,List.push_toArray,List.append_toArray,Ze3,Zd5]
 gi_wp2
 gi_loopw [3] (λ_ wr=>∃(pre:List ByteArray) (r:ByteArray),wr.cell? ⟨b,0,none⟩=some (.string r)/\wr.frozen? ⟨b,0,none⟩=false/\gP s=pre++gP r/\r.size<=s.size/\J pre wr) (λ_ wr=>ajZ wr b)
 case atStart=>exact⟨[],s,hb,hf,rfl,Za3 _,h0⟩
 case round=>
  obtain⟨pre,r,hc,FT,Bk,hrs,hj⟩:=hrel;have HSP:=Lib.hid Bk;have HJ0:=Lib.hid hj;clear Bk hj;by_cases hr0:r.size=0
  . gi_wp2
    go_end0
    refine⟨⟨_,rfl⟩,.inl ?_⟩;rw[HSP.out,ad9 hr0,Zd9];exact HJ0.out
  . have hr1:0<r.size:=(by omega);have hge:=au9 r;by_cases hi:yw r<0
    .   have HL:=Lib.hid (akI hr0 hi);have hj1:=hJs _ _ (.string ⟨#[]⟩) HJ0.out;obtain⟨fn,tmps,assign,body,hy,hR⟩:=HY.out pre r _ hj1 (by rw[HSP.out,HL.out];exact List.prefix_refl _)
        gi_wp2_with (first|(refine⟨trivial,?_⟩;gi_at_call 116;refine(callsIn_wide.2 (az.atr r _)).mono ?_;rintro e w' ⟨rfl,rfl⟩))
        refine hR.mono ?_;rintro e W3 (⟨rfl,hJ3,Ey⟩|⟨rfl,asN⟩)
        . have hc3:W3.cell? ⟨b,0,none⟩=some (.string ⟨#[]⟩):=Ey.cell.trans (World.cell?_setCell_same' _ _ _ (by rw[hc];rfl));have hf3:W3.frozen? ⟨b,0,none⟩=false:=Ey.dW.trans (by rw[World.frozen?_setCell];exact FT)
          gi_wp2
          go_roundw
          case rel=>exact⟨pre++[r],⟨#[]⟩,hc3,hf3,by rw[HSP.out,HL.out,ad9 (s:=⟨#[]⟩) rfl,Zd9],Zi0 _,hJ3⟩
          case measure=>rw[Pq hc3,Pq hc];exact hr1
        . gi_wp2
          refine bodyPost_ret (results_none rfl _ _ _) rfl ?_;exact⟨⟨_,rfl⟩,.inr ⟨pre++[r],by rw[HSP.out,HL.out];exact List.prefix_refl _,asN⟩⟩
    .   have aW:=ava r (by omega);obtain⟨i,hie⟩:∃i:Nat,yw r=i:=⟨(yw r).toNat,by omega⟩
        have HH:=Lib.hid (anJ hr0 (by omega:0<=yw r));have HIX:=az.atr r;rw[hie]at HIX;have HI:=Lib.hid HIX;clear HIX;have fH:i<r.size:=(by omega);have HIE:=Lib.hid hie;clear hie hge hi aW
        gi_wp2_with (first|(refine⟨trivial,?_⟩;gi_at_call 116;refine(callsIn_wide.2 (HI.out _)).mono ?_;rintro e w' ⟨rfl,rfl⟩))
        gi_region
        have hj1:J pre (wr.setCell ⟨b,0,none⟩ (.string (r.extract (i+1) r.size))).drew:=hJ _ _ _ none (hJs _ _ (.string (r.extract (i+1) r.size)) HJ0.out) (az.grown_drewN _ 1) (λ_ e=>by cases e);obtain⟨fn,tmps,assign,body,hy,hR⟩:=HY.out pre (r.extract 0 (i+1)) _ hj1 (by
          rw[HSP.out,HH.out,HIE.out];exact⟨gP (r.extract (i+1) r.size),by simp⟩)
        gi_wp2
        refine hR.mono ?_;rintro e W3 (⟨rfl,hJ3,Ey⟩|⟨rfl,asN⟩)
        . have hc3:W3.cell? ⟨b,0,none⟩=some (.string (r.extract (i+1) r.size)):=Ey.cell.trans (World.cell?_setCell_same' _ _ _ (by rw[hc];rfl));have hf3:W3.frozen? ⟨b,0,none⟩=false:=Ey.dW.trans (by show(wr.setCell _ _).frozen? _=false;rw[World.frozen?_setCell];exact FT)
          gi_wp2
          go_roundw
          case rel=>exact⟨pre++[r.extract 0 (i+1)],r.extract (i+1) r.size,hc3,hf3,by rw[HSP.out,HH.out,HIE.out];simp,by simp;omega,hJ3⟩
          case measure=>rw[Pq hc3,Pq hc];simp;omega
        . gi_wp2
          refine bodyPost_ret (results_none rfl _ _ _) rfl ?_;exact⟨⟨_,rfl⟩,.inr ⟨pre++[r.extract 0 (i+1)],by rw[HSP.out,HH.out,HIE.out];exact⟨gP (r.extract (i+1) r.size),by simp⟩,asN⟩⟩
end Go.Proofs
end
namespace Go.Proofs
section
open Go.RowKit Go.Shelf Go.az
attribute [local go_sem] Oper.semAt_some
def az.RR.cells(r:az.RR):List Value:=[.int .u8 r.k,.int .i64 r.wt,.string r.a,.string r.b,.string r.t,.int .i64 r.n]
def az.cellsOf(rs:List az.RR):List Value:=rs.flatMap az.RR.cells
theorem az.aj0(rs:List az.RR)(r:az.RR):az.cellsOf (rs++[r])=az.cellsOf rs++r.cells:=by simp[az.cellsOf]
theorem az.afp(rs:List az.RR):(az.cellsOf rs).length=rs.length*6:=by
 induction rs with
 |nil=>rfl
 |cons r rs ih=>simp[az.cellsOf]at ih ⊢; rw[ih];simp[az.RR.cells];omega
noncomputable def az.U1:List az.RR->List ByteArray->Int×Nat×List az.RR
 |acc,[]=>(0,0,acc)
 |acc,x::xs=>match az.xw x with
  |.inl e=>(e,acc.length,[])
  |.inr r=>if acc.length=64 then(7,64,[])else az.U1 (acc++[r]) xs
noncomputable def az.ue(s:ByteArray):Int×Nat×List az.RR:=if 65536<s.size then(7,0,[])else az.U1 [] (gP s)
theorem az.Zw:∀(p:List ByteArray)(rs acc:List az.RR)(ys:List ByteArray),p.map az.xw=rs.map Sum.inr->(acc++rs).length<=64->az.U1 acc (p++ys)=az.U1 (acc++rs) ys
 |[],rs,acc,ys,h,_=>by
  cases rs with
  |nil=>simp
  |cons r rs=>simp at h
 |x::p,rs,acc,ys,h,hl=>by
  cases rs with
  |nil=>simp at h
  |cons r rs=>
   simp only[Zd1,Zf9]at h;simp only[Zd6,Zc6]at hl;rw[Zd5,az.U1,h.1];simp only;rw[Za7 (by omega),az.Zw p rs (acc++[r]) ys h.2 (by simp;omega)];simp
theorem az.avc(s:ByteArray)(w:World):Calls Tryz.prog 60 #[.string s] w λe w'=>e= .returned (.func (.func 115) #[] #[.pointer (some ⟨w.heap.size,0,none⟩)])/\w'=w.alloc (.cells #[.string s] 9):=by
 go_enter Tryz.func60,Tryz.ntmps60
 go_wp2
 go_ret
 exact⟨rfl,rfl⟩
def az.aea(w:World)(pre:List ByteArray)(W:World):Prop:=
 ∃  (rs:List az.RR) (v:Value),pre.map az.xw=rs.map Sum.inr/\rs.length<=64/\Is W w.heap.size 32 #[.slice none 0 0]/\Is W (w.heap.size+1) 3 #[.int .i64 0]/\Is W (w.heap.size+1+1) 47 #[.int .i64 0]/\
    Is W (w.heap.size+1+1+1) 32 #[v]/\W.ownsRow (w.heap.size+5) 58 6 v rs.length (az.cellsOf rs)/\w.heap.size+5<=W.heap.size/\Below w.heap.size w W/\(rs=[]->v= .slice none 0 0)
def az.aeb(w:World)(s:ByteArray)(pre:List ByteArray)(W:World):Prop:=
 ∃(e:Int) (k:Nat),1<=e/\e<=100/\k<=64/\(∀ys,pre++ys=gP s->az.U1 [] (gP s)=(e,k,[]))/\Is W w.heap.size 32 #[.slice none 0 0]/\Is W (w.heap.size+1) 3 #[.int .i64 k]/\Is W (w.heap.size+1+1) 47 #[.int .i64 e]/\w.heap.size+5<=W.heap.size/\Below w.heap.size w W
def az.ap9(s:ByteArray)(w:World)(e:Ending)(w':World):Prop:=
 ∃v,e= .returned (.tuple #[v,.int .i64 (az.ue s).2.1,.int .i64 (az.ue s).1])/\w'.ownsRow w.heap.size 58 6 v (az.ue s).2.2.length (az.cellsOf (az.ue s).2.2)/\Below w.heap.size w w'/\((az.ue s).1≠0\/(az.ue s).2.2=[]->v= .slice none 0 0)
theorem az.uB{W W':World}{n:Nat}{T:TypeId}{cs:Array Value}{row:Option Nat}(h:Is W n T cs)(hg:W.grownBy W' row)(cY:some n≠row):Is W' n T cs:=h.of_heap (hg.block n h.lt cY)
theorem az.v7{W:World}{n:Nat}{T:TypeId}{cs:Array Value}{row:Option Nat}(h:Is W n T cs)(hr:∀r,row=some r->∃o:Obj,W.heap[r]? =some o/\o.isCells=false):some n≠row:=by
 intro e;obtain⟨o,ho,hc⟩:=hr n e.symm;unfold Is at h;rw[h]at ho;obtain rfl:Obj.cells cs T (0,0)=o:=by injection ho
 cases hc
theorem az.anK{W:World}{base k size:Nat}{e:TypeId}{v:Value}{xs:List Value}{row:Option Nat}(h:W.ownsRow base e size v k xs)(hr:∀r,row=some r->∃o:Obj,W.heap[r]? =some o/\o.isCells=false):v.ownBlock=none\/v.ownBlock≠row:=by
 rcases h.2 with⟨rfl,_⟩|⟨g,cap,cur,rfl,_,hb,_⟩
 .exact .inl rfl
 .right;intro e;obtain⟨o,ho,hc⟩:=hr g (by rw[<-e];rfl);rw[hb]at ho;obtain rfl:Obj.cells cur _ (0,0)=o:=(by injection ho);cases hc
theorem az.ago{W W':World}{base k size:Nat}{e:TypeId}{v:Value}{xs:List Value}(h:W.ownsRow base e size v k xs)(hb:Below W.heap.size W W'):W'.ownsRow base e size v k xs:=
 h.kept (row:=none) ⟨hb.os,hb.tape,hb.output,hb.size,λi hi _=>hb.block i hi⟩ (by
  cases h0:v.ownBlock
  .exact .inl rfl
  .right;simp)
theorem az.aby{B:Nat}{W W':World}(hb:Below W.heap.size W W'):KeepsFrom B W W':=⟨hb.size,λk o _ hk _=>(hb.block k (Zd3.1 hk).1).trans hk⟩
theorem az.anL(w:World)(B0:Nat)(hB:w.heap.size<=B0):OwnFrom B0 (az.aea w):=by
 rintro pre W W' row ⟨rs,v,h1,h2,i1,i2,i3,i4,gQ,gw,hb,hn⟩ hg hr;have oe:∀r,row=some r->∃o:Obj,W.heap[r]? =some o/\o.isCells=false:=λr e=>(hr r e).2
 exact⟨rs,v,h1,h2,az.uB i1 hg (az.v7 i1 oe),az.uB i2 hg (az.v7 i2 oe),az.uB i3 hg (az.v7 i3 oe),az.uB i4 hg (az.v7 i4 oe),
  gQ.kept hg (az.anK gQ oe),Zb2 gw hg.size,hb.grown hg (by omega) (λk e=>Zb2 hB (hr k e).1),hn⟩
theorem az.anM(w:World)(s:ByteArray)(B0:Nat)(hB:w.heap.size<=B0):OwnFrom B0 (az.aeb w s):=by
 rintro pre W W' row ⟨e,k,h1,h2,h3,h4,i1,i2,i3,gw,hb⟩ hg hr;have oe:∀r,row=some r->∃o:Obj,W.heap[r]? =some o/\o.isCells=false:=λr e=>(hr r e).2
 exact⟨e,k,h1,h2,h3,h4,az.uB i1 hg (az.v7 i1 oe),az.uB i2 hg (az.v7 i2 oe),az.uB i3 hg (az.v7 i3 oe),Zb2 gw hg.size,hb.grown hg (by omega) (λk e=>Zb2 hB (hr k e).1)⟩
theorem az.anN(w:World):FQ (w.heap.size+1+1+1+1) (az.aea w):=by
 rintro pre W x ⟨rs,v,h1,h2,i1,i2,i3,i4,gQ,gw,hb,hn⟩;exact⟨rs,v,h1,h2,i1.other (by omega) _ _,i2.other (by omega) _ _,i3.other (by omega) _ _,i4.other (by omega) _ _,ownsRow_setCell_below gQ (by show w.heap.size+1+1+1+1<w.heap.size+5;omega) _,by rw[World.size_setCell];exact gw,hb.setCell (by show w.heap.size<=w.heap.size+1+1+1+1;omega) _,hn⟩
theorem az.anO(w:World)(s:ByteArray):FQ (w.heap.size+1+1+1+1) (az.aeb w s):=by
 rintro pre W x ⟨e,k,h1,h2,h3,h4,i1,i2,i3,gw,hb⟩;exact⟨e,k,h1,h2,h3,h4,i1.other (by omega) _ _,i2.other (by omega) _ _,i3.other (by omega) _ _,by rw[World.size_setCell];exact gw,hb.setCell (by show w.heap.size<=w.heap.size+1+1+1+1;omega) _⟩
theorem az.asO{s:ByteArray}{pre:List ByteArray}{x:ByteArray}{rs:List az.RR}{e:Int}(h:pre.map az.xw=rs.map Sum.inr)(hl:rs.length<=64)(hx:az.xw x= .inl e)(ys:List ByteArray)(hy:pre++[x]++ys=gP s):az.U1 [] (gP s)=(e,rs.length,[]):=by
 rw[<-hy,Zf5,az.Zw pre rs [] _ h (by simpa using hl)];simp[az.U1,hx]
theorem az.agp{w:World}{base:Nat}{e:TypeId}{size:Nat}{v:Value}{n:Nat}{xs:List Value}(h:w.ownsRow base e size v n xs):∃a c,v= .slice a n c:=by
 rcases h.2 with⟨rfl,rfl⟩|⟨g,cap,cur,rfl,_⟩
 .exact⟨none,0,rfl⟩
 .exact⟨_,_,rfl⟩
theorem az.HE{W:World}{n:Nat}{T:TypeId}{a v:Value}(h:Is W n T #[a]):Is (W.setCell ⟨n,0,none⟩ v) n T #[v]:=(h.set 0 v).cast rfl
theorem az.aqa{B:Nat}{W W':World}(h:KeepsFrom B W W')(p:Addr)(v:Value):KeepsFrom B W (W'.setCell p v):=h.trans ((KeepsOthers.setCell W' p v).from B)
theorem az.acG{B:Nat}{W W':World}(h:KeepsFrom B W W')(o:Obj):KeepsFrom B W (W'.alloc o):=h.trans ((KeepsOthers.alloc W' o).from B)
theorem az.avd{B:Nat}{W W':World}(h:KeepsFrom B W W'):KeepsFrom B W W'.drew:=h.trans ⟨Za3 _,λ_ _ _ hk _=>hk⟩
theorem az.aqb{w W':World}{s:ByteArray}{pre:List ByteArray}{e:Int}{k:Nat}(h1:1<=e/\e<=100)(h2:k<=64)(h3:∀ys,pre++ys=gP s->az.U1 [] (gP s)=(e,k,[]))
  (i1:Is W' w.heap.size 32 #[.slice none 0 0]) (i2:Is W' (w.heap.size+1) 3 #[.int .i64 k]) (i3:Is W' (w.heap.size+1+1) 47 #[.int .i64 e]) (hz:w.heap.size+5<=W'.heap.size) (hb:Below w.heap.size w W'):az.aeb w s pre W':=
 ⟨e,k,h1.1,h1.2,h2,h3,i1,i2,i3,hz,hb⟩
theorem az.acH{w:World}{base:Nat}{e:TypeId}{size:Nat}{v:Value}{n:Nat}{xs:List Value}(h:w.ownsRow base e size v n xs)(j:Nat)(hj:v.ownBlock=some j):base<=j:=by
 rcases h.2 with⟨rfl,rfl⟩|⟨g,cap,cur,rfl,hb,_⟩
 .cases hj
 .obtain rfl:g=j:=(by simpa [Value.ownBlock]using hj);exact hb
theorem az.aqc{w:World}{base:Nat}{e:TypeId}{size:Nat}{v:Value}{n:Nat}{xs:List Value}(h:w.ownsRow base e size v n xs)(j:Nat)(o:Obj)(hj:v.ownBlock=some j)(ho:w.heap[j]? =some o):o.isCells=true:=by
 rcases h.2 with⟨rfl,rfl⟩|⟨g,cap,cur,rfl,hb,hg,_⟩
 .cases hj
 .obtain rfl:g=j:=(by simpa [Value.ownBlock]using hj);rw[hg]at ho;cases ho;rfl
theorem az.aqd(r:az.RR):∀u∈r.cells,u.oneCell'=true:=by intro u hu;simp only[az.RR.cells,Za8,Zc0,Ze9]at hu;rcases hu with rfl|rfl|rfl|rfl|rfl|rfl<;>rfl
theorem az.aqe(W:World)(T:TypeId)(cs:List Value)(j:Nat)(u:Value)(h:cs[j]? =some u):(W.alloc (.cells cs.toArray T)).cell? ((⟨W.heap.size,0,none⟩:Addr).add j)=some u:=by
 have:(⟨W.heap.size,0,none⟩:Addr).add j=⟨W.heap.size,j,none⟩:=by
  unfold Addr.add;split
  .rename_i h0;subst h0;rfl
  .simp
 rw[this,(Is.new W T cs.toArray).cell];simpa using h
theorem az.aqf{w W w1 w5:World}{n:Nat}{v:Value}{xs:List Value}{A C:Obj}{va:Value}(kj:Below W.heap.size W w1)(gw:w.heap.size+5<=W.heap.size)(j4:Is W (w.heap.size+1+1+1) 32 #[va])
  (gQ:W.ownsRow (w.heap.size+5) 58 6 v n xs) (FR:((w1.alloc A).alloc C).grownBy w5 v.ownBlock):Is w5 (w.heap.size+1+1+1) 32 #[va]:=
 az.uB (((j4.below kj (by omega)).alloc _).alloc _) FR (λe=>by have:=az.acH gQ _ e.symm;omega)
theorem az.anP{w W w1 w5:World}{B:Nat}{pre:List ByteArray}{x:ByteArray}{rs:List az.RR}{r:az.RR}{v v':Value}{A C:Obj}(p1:pre.map az.xw=rs.map Sum.inr)(p2:rs.length<64)(hx:az.xw x= .inr r)
   (hb:Below w.heap.size w W) (kj:Below W.heap.size W w1) (gw:w.heap.size+5<=W.heap.size)
   (j1:Is W w.heap.size 32 #[.slice none 0 0]) (j2:Is W (w.heap.size+1) 3 #[.int .i64 0]) (j3:Is W (w.heap.size+1+1) 47 #[.int .i64 0]) (j4:Is W (w.heap.size+1+1+1) 32 #[v])
   (gQ:W.ownsRow (w.heap.size+5) 58 6 v rs.length (az.cellsOf rs)) (aj1:w5.ownsRow (w.heap.size+5) 58 6 v' (rs.length+1) (az.cellsOf rs++r.cells)) (FR:((w1.alloc A).alloc C).grownBy w5 v.ownBlock):
   KeepsFrom B W (w5.setCell ⟨w.heap.size+1+1+1,0,none⟩ v')/\VX (w.heap.size+1+1+1+1) W (w5.setCell ⟨w.heap.size+1+1+1,0,none⟩ v')/\az.aea w (pre++[x]) (w5.setCell ⟨w.heap.size+1+1+1,0,none⟩ v'):=by
 have awR:=((az.ago gQ kj).alloc A).alloc C;have cY:∀k,k<w.heap.size+5->some k≠v.ownBlock:=λk hk e=>by have:=az.acH gQ _ e.symm;omega
 have is5:∀{k:Nat}{T:TypeId}{cs:Array Value},Is W k T cs->k<w.heap.size+5->Is w5 k T cs:=λh hk=>az.uB (((h.below kj (by omega)).alloc _).alloc _) FR (cY _ hk)
 have J8:w5.heap[w.heap.size+1+1+1+1]? =W.heap[w.heap.size+1+1+1+1]? :=by
   have amU:=kj.size;rw[FR.block _ (by simp;omega) (cY _ (by omega)),Go.az.heap_alloc _ _ (by simp;omega),Go.az.heap_alloc _ _ (by omega)];exact kj.block _ (by omega)
 have hp6:(w5.setCell ⟨w.heap.size+1+1+1,0,none⟩ v').heap[w.heap.size+1+1+1+1]? =W.heap[w.heap.size+1+1+1+1]? :=by rw[Go.az.akF (by omega)];exact J8
 refine⟨?_,⟨by simp[World.cell?,hp6],by simp[World.frozen?,hp6]⟩,rs++[r],v',?_,by simp;omega,(is5 j1 (by omega)).other (by omega) _ _,(is5 j2 (by omega)).other (by omega) _ _,(is5 j3 (by omega)).other (by omega) _ _,az.HE (is5 j4 (by omega)),?_,?_,?_,λh=>by simp at h⟩
 .refine az.aqa ((az.acG (az.acG (az.aby kj) _) _).trans ((KeepsOthers.of_grownBy FR λj o ej hj=>az.aqc awR j o ej hj).from B)) _ _
 .simp[p1,hx]
 .rw[az.aj0];have:=ownsRow_setCell_below aj1 (a:=⟨w.heap.size+1+1+1,0,none⟩) (by show w.heap.size+1+1+1<w.heap.size+5;omega) v';simpa using this
 .have h1:=kj.size;have h2:=FR.size;simp at h2 ⊢; omega
 .have h1:=kj.size;exact((((hb.trans (kj.mono (by omega))).alloc (by omega) A).alloc (by simp;omega) C).grown FR (by simp;omega) (λk e=>by have:=az.acH gQ k e;omega)).setCell (by show w.heap.size<=w.heap.size+1+1+1;omega) _
theorem az.DA{W:World}{n D:Nat}{T:TypeId}{cs:Array Value}{o o':Obj}(h:Is W n T cs)(hk:W.heap[D]? =some o)(ho:o.isCells=false):Is (W.putObj D o') n T cs:=
 az.uB h (grownBy_putObj' W D o') (az.v7 h (λr e=>by cases e;exact⟨o,hk,ho⟩))
theorem az.agq{s:ByteArray}{w w':World}{v:Value}{i:Int}{er:Int}{rs:List az.RR}{k:Nat}(hp:az.ue s=(er,k,rs))(hi:i=k)(gQ:w'.ownsRow w.heap.size 58 6 v rs.length (az.cellsOf rs))(hb:Below w.heap.size w w')(Zx:er≠0\/rs=[]->v= .slice none 0 0:=by intro h;rfl):
   az.ap9 s w (.returned (.tuple #[v,.int .i64 i,.int .i64 er])) w':=by
 subst hi;refine⟨v,by rw[hp],?_,hb,?_⟩
 .rw[hp];exact gQ
 .rw[hp];exact Zx
theorem az.asP{w:World}{base amd:Nat}{e:TypeId}{size:Nat}{v:Value}{n:Nat}{xs:List Value}(h:w.ownsRow base e size v n xs)(hb:amd<=base):w.ownsRow amd e size v n xs:=by
 refine⟨h.1,h.2.imp id ?_⟩;rintro⟨g,cap,cur,h1,h2,h3⟩;exact⟨g,cap,cur,h1,Zb2 hb h2,h3⟩
theorem az.akK{s:ByteArray}{rs:List az.RR}(hs:s.size<=65536)(h:(gP s).map az.xw=rs.map Sum.inr)(hl:rs.length<=64):az.ue s=(0,0,rs):=by have:=az.Zw (gP s) rs [] [] h (by simpa using hl);rw[Zd9]at this;unfold az.ue;rw[Za7 (by omega),this];rfl
theorem az.av6:∃i0 z,Tryz.prog.info? 58=some i0/\i0.zero=some z/\i0.size=6/\i0.bytes=72/\z.cells.size=6:=by
 have h:(Tryz.prog.info? 58).map (λi=>(i.zero.map (·.cells.size),i.size,i.bytes))=some (some 6,6,72):=by kernel_rfl
 cases hi:Tryz.prog.info? 58 with
 |none=>rw[hi]at h;simp at h
 |some i0=>
  rw[hi]at h;simp only[Ze0,H5,Zd2,Zf6]at h;obtain⟨⟨z,hz,hz2⟩,h2,h3⟩:=h;exact⟨i0,z,rfl,hz,h2,h3,hz2⟩
theorem az.av7(s:ByteArray)(aec:∀s0∈gP s,az.okL s0=true)(hfew:(gP s).length<64)
   (m:Int) (w:World) (hs:s.size<=65536) (hm:w.cell? ⟨0,0,none⟩=some (.int .i64 m)):
   Calls Tryz.prog 26 #[.string s] w (az.ap9 s w):=by
 have hbk:=World.block_lt_of_cell? _ _ hm;refine(callsIn_wide (n:=5)).1 ?_;refine callsIn_of_wp_marks Tryz.func26 rfl trivial ?_ rfl;simp only[Tryz.ntmps26,Zo0,Zc6,Zi2,Nat.reduceAdd,Nat.reduceSub,Array.replicate_succ,Array.replicate_zero,List.push_toArray,List.append_toArray,Ze3,Zd5]
 gi_wp2_with (refine⟨trivial,?_⟩;gi_at_call 60;refine(callsIn_wide.2 (az.avc s _)).mono ?_;rintro e w' ⟨rfl,rfl⟩)
 obtain⟨W0,hW0⟩:∃W0,W0=(((((w.alloc (.cells #[.slice none 0 0] 32)).alloc (.cells #[.int .i64 0] 3)).alloc (.cells #[.int .i64 0] 47)).alloc (.cells #[.slice none 0 0] 32)).alloc (.cells #[.string s] 9)):=⟨_,rfl⟩
 have hz:W0.heap.size=w.heap.size+1+1+1+1+1:=by rw[hW0];simp
 have i1:Is W0 w.heap.size 32 #[.slice none 0 0]:=by rw[hW0];exact((((Is.new w 32 _).alloc _).alloc _).alloc _).alloc _
 have i2:Is W0 (w.heap.size+1) 3 #[.int .i64 0]:=by rw[hW0];have:=(((Is.new (w.alloc (.cells #[.slice none 0 0] 32)) 3 #[.int .i64 0]).alloc (.cells #[.int .i64 0] 47)).alloc (.cells #[.slice none 0 0] 32)).alloc (.cells #[.string s] 9);rwa [World.size_alloc]at this
 have i3:Is W0 (w.heap.size+1+1) 47 #[.int .i64 0]:=by rw[hW0];have:=((Is.new ((w.alloc (.cells #[.slice none 0 0] 32)).alloc (.cells #[.int .i64 0] 3)) 47 #[.int .i64 0]).alloc (.cells #[.slice none 0 0] 32)).alloc (.cells #[.string s] 9);rwa [World.size_alloc,World.size_alloc]at this
 have i4:Is W0 (w.heap.size+1+1+1) 32 #[.slice none 0 0]:=by rw[hW0];have:=(Is.new (((w.alloc (.cells #[.slice none 0 0] 32)).alloc (.cells #[.int .i64 0] 3)).alloc (.cells #[.int .i64 0] 47)) 32 #[.slice none 0 0]).alloc (.cells #[.string s] 9);rwa [World.size_alloc,World.size_alloc,World.size_alloc]at this
 have i5:Is W0 (w.heap.size+1+1+1+1) 9 #[.string s]:=by rw[hW0];have:=Is.new ((((w.alloc (.cells #[.slice none 0 0] 32)).alloc (.cells #[.int .i64 0] 3)).alloc (.cells #[.int .i64 0] 47)).alloc (.cells #[.slice none 0 0] 32)) 9 #[.string s];rwa [World.size_alloc,World.size_alloc,World.size_alloc,World.size_alloc]at this
 have yY:Below w.heap.size w W0:=by rw[hW0];exact(((((Below.refl _ w).alloc (Za3 _) _).alloc (by simp) _).alloc (by simp;omega) _).alloc (by simp;omega) _).alloc (by simp;omega) _
 rw[<-hW0];clear hW0
 refine akH (n:=5) rfl (by decide) (gf:=115) (b:=w.heap.size+1+1+1+1) (lb:= #[.pointer (some ⟨w.heap.size+1+1+1+1,0,none⟩)]) rfl trivial (enters_of Tryz.func115 (by kernel_rfl) rfl) (encs:=λx=> #[.string x]) (xs:=gP s) ?_ (by omega) (λ_=>rfl)
   (az.aea w) (az.aeb w s) (az.anL w _ (by omega)) (az.anM w s _ (by omega)) (az.anN w) (az.anO w s)
   ⟨[],.slice none 0 0,rfl,by simp,i1,i2,i3,i4,⟨rfl,.inl ⟨rfl,rfl⟩⟩,by omega,yY,λ_=>rfl⟩
   (fun x=>{ tmps:= #[.string s,undef,.pointer (some ⟨w.heap.size,0,none⟩),.pointer (some ⟨w.heap.size+1,0,none⟩),.pointer (some ⟨w.heap.size+1+1,0,none⟩),.pointer (some ⟨w.heap.size+1+1+1,0,none⟩),.string x,undef,undef,.string s,
     .int .i64 s.size,.bool (decide (65536<(s.size:Int))),.string s,.func (.func 115) #[] #[.pointer (some ⟨w.heap.size+1+1+1+1,0,none⟩)],.string x,undef,undef,undef,undef,undef,undef,undef,undef,undef,undef,undef,undef,undef,undef,undef,undef,undef,undef,undef,undef,undef,undef],defers:=[] })
   ?assign ?body ?done ?stop
 .exact λl J Jx W hW hJ hJx hJs hJxs hY h0=>az.avb _ l _ s hs J Jx W _ hJ hJx hJs hY (by decide) (by rw[hW.cell (p:=⟨w.heap.size+1+1+1+1,0,none⟩) (by show w.heap.size+1+1+1+1<W0.heap.size;omega)];exact i5.one) (by rw[hW.frozen (p:=⟨w.heap.size+1+1+1+1,0,none⟩) (by show w.heap.size+1+1+1+1<W0.heap.size;omega)];exact i5.frozen 0) h0
 case assign=>
   intro l x W K hK
   gi_wp2
   exact hK
 case body=>
   (rintro l pre x W ⟨rs,v,p1,p2,j1,j2,j3,j4,gQ,gw,hb,_⟩ acF hWz;obtain⟨va,vc,rfl⟩:=az.agp gQ;obtain⟨ys,Ao⟩:=acF;have hx:x.size<=65536:=Zb2 (akJ s x (by rw[<-Ao];simp)) hs;have hmW:W.cell? ⟨0,0,none⟩=some (.int .i64 m):=(hb.cell (p:=⟨0,0,none⟩) hbk).trans hm;have cH:=aec x (by rw[<-Ao];simp);have HL:=Lib.hid (az.line x cH W);have aW:rs.length<64:=by have h1:=congrArg List.length p1;have h2:=congrArg List.length Ao;simp at h1 h2;omega);have z1:w.heap.size<W.heap.size:=(by omega);have z2:w.heap.size+1<W.heap.size:=(by omega);have z3:w.heap.size+1+1<W.heap.size:=(by omega);have z4:w.heap.size+1+1+1<W.heap.size:=(by omega);have aj2:=Lib.hid gQ;have HB:=Lib.hid hb;have HP1:=Lib.hid p1;have HYS:=Lib.hid Ao;have J1:=Lib.hid j1;have J2:=Lib.hid j2;have J3:=Lib.hid j3;have J4:=Lib.hid j4;have HM:=Lib.hid hm;have HH:=Lib.hid aec;have HI5:=Lib.hid i5;clear gQ hb p1 Ao j1 j2 j3 j4 hmW hm aec i1 i2 i3 i4 i5 yY;rcases abU:az.xw x with e0|r
   . have hee:=az.asK cH abU;have aj3:=Lib.hid abU;clear abU
     gi_wp2_with (refine⟨trivial,?_⟩;gi_at_call 61;refine(CallsIn.inRound l (callsIn_wide.2 HL.out)).mono ?_;rintro e w1 ⟨he,kj⟩;rw[show az.xw x= .inl e0 from aj3.out]at he;obtain rfl:e= .returned (.tuple #[.agg #[.int .u8 0,.int .i64 0,.string ⟨#[]⟩,.string ⟨#[]⟩,.string ⟨#[]⟩,.int .i64 0],.int .i64 e0]):=he;have K1:=J1.out.below kj z1;have K2:=J2.out.below kj z2;have K3:=J3.out.below kj z3;have K4:=J4.out.below kj z4;have k1:=K1.one;have k2:=K2.one;have k3:=K3.one;have k4:=K4.one;have g1:=K1.frozen;have g2:=K2.frozen;have g3:=K3.frozen;have g4:=K4.frozen;have hz1:=kj.size;have y1:=Zd0 z1 hz1;have y2:=Zd0 z2 hz1;have y3:=Zd0 z3 hz1;have y4:=Zd0 z4 hz1;have L1:=Lib.hid K1;have L2:=Lib.hid K2;have L3:=Lib.hid K3;have L4:=Lib.hid K4;clear K1 K2 K3 K4;have HB1:=Lib.hid kj;have HBB:=Lib.hid (HB.out.trans (kj.mono (Zn8 z1)));clear kj)
     gi_region
     all_goals gi_wp2
     all_goals
        refine⟨?_,az.aqb (e:=e0) (k:=rs.length) hee p2 (λys hy=>az.asO HP1.out p2 aj3.out ys hy) ?_ ?_ ?_ ?_ ?_⟩
        . (repeat (first|(with_reducible refine az.avd ?_)|(with_reducible refine az.acG ?_ _)|(with_reducible refine az.aqa ?_ _ _)|(with_reducible exact az.aby HB1.out)))
        . (repeat (first|(with_reducible refine Is.drew ?_)|(with_reducible refine Is.alloc ?_ _)|(with_reducible refine az.HE (a:= .slice none 0 0) ?_)|(with_reducible refine Is.other ?_ (by omega) _ _)|(with_reducible exact L1.out)))
        . (repeat (first|(with_reducible refine Is.drew ?_)|(with_reducible refine Is.alloc ?_ _)|(with_reducible refine az.HE (a:= .int .i64 0) ?_)|(with_reducible refine Is.other ?_ (by omega) _ _)|(with_reducible exact L2.out)))
        . (repeat (first|(with_reducible refine Is.drew ?_)|(with_reducible refine Is.alloc ?_ _)|(with_reducible refine az.HE (a:= .int .i64 0) ?_)|(with_reducible refine Is.other ?_ (by omega) _ _)|(with_reducible exact L3.out)))
        .simp;omega
        . (repeat (first|(with_reducible refine Below.drew ?_)|(with_reducible refine Below.setCell ?_ (by first|(simp;done)|(simp;omega)) _)|(with_reducible refine Below.alloc ?_ (by first|omega|(simp;done)|(simp;omega)) _)|(with_reducible exact HBB.out)))
   . have aj3:=Lib.hid abU;clear abU
     .  have hl:¬rs.length=64:=(by omega);have hl64:((rs.length:Int)==64)=false:=(by rw[Zm9];omega);obtain⟨i0,z,tG,hz0,hzs,hzb,FW⟩:=az.av6
        gi_wp2_with (first|(refine⟨trivial,?_⟩;gi_at_call 61;refine(CallsIn.inRound l (callsIn_wide.2 HL.out)).mono ?_;rintro e w1 ⟨he,kj⟩;rw[show az.xw x= .inr r from aj3.out]at he;obtain rfl:e= .returned (.tuple #[.agg #[.int .u8 r.k,.int .i64 r.wt,.string r.a,.string r.b,.string r.t,.int .i64 r.n],.int .i64 0]):=he;have K1:=J1.out.below kj z1;have K2:=J2.out.below kj z2;have K3:=J3.out.below kj z3;have K4:=J4.out.below kj z4;have k1:=K1.one;have k2:=K2.one;have k3:=K3.one;have k4:=K4.one;have g1:=K1.frozen;have g2:=K2.frozen;have g3:=K3.frozen;have g4:=K4.frozen;have hz1:=kj.size;have y1:=Zd0 z1 hz1;have y2:=Zd0 z2 hz1;have y3:=Zd0 z3 hz1;have y4:=Zd0 z4 hz1;have L1:=Lib.hid K1;have L2:=Lib.hid K2;have L3:=Lib.hid K3;have L4:=Lib.hid K4;clear K1 K2 K3 K4;have HB1:=Lib.hid kj;have HBB:=Lib.hid (HB.out.trans (kj.mono (Zn8 z1)));clear kj)|(gi_at_builtin;refine wpListIn_append_own _ rfl _ _ 32 rfl (w.heap.size+5) 58 i0 z 6 72 Tryz.underlying32 tG hz0 hzs hzb FW (by decide) _ _ _ rfl (((az.ago aj2.out HB1.out).alloc _).alloc _) ⟨w1.heap.size+1,0,none⟩ 1 1 r.cells rfl rfl ?_ ?_ ?_ ?_ ?_ ?_))
        .intro j u hu;have:=az.aqe (w1.alloc (.cells r.cells.toArray 58)) 58 r.cells j u hu;rw[World.size_alloc]at this;exact this
        .exact az.aqd r
        .unfold maxLen;omega
        .omega
        .have:=HB1.out.size;simp;omega
        . intro v' w5 aj1 FR _;obtain⟨g',br,rfl⟩:=ownsRow_succ aj1;have hm5:=az.aqf HB1.out gw J4.out aj2.out FR;have k5:=hm5.one;have g5:=hm5.frozen;have HM5:=Lib.hid hm5;have HOWN:=Lib.hid aj1;have awS:=Lib.hid FR;clear hm5 aj1 FR
          gi_wp2
          exact az.anP HP1.out (by omega) aj3.out HB.out HB1.out gw J1.out J2.out J3.out J4.out aj2.out HOWN.out awS.out
 case done=>
   rintro D W hD ⟨rs,v,h1,h2,j1,j2,j3,j4,gQ,gw,hb,Zx⟩ hK;obtain⟨va,vc,rfl⟩:=az.agp gQ;have HNIL:=Lib.hid Zx;clear Zx;have c1:=j1.one;have c2:=j2.one;have c3:=j3.one;have c4:=j4.one;have f1:=j1.frozen;have f2:=j2.frozen;have f3:=j3.frozen;have f4:=j4.frozen;have aj2:=Lib.hid gQ;have HB:=Lib.hid hb;have H1:=Lib.hid h1;have J1:=Lib.hid j1;have J2:=Lib.hid j2;have J3:=Lib.hid j3;have J4:=Lib.hid j4;have HK:=Lib.hid hK;clear gQ hb h1 j1 j2 j3 j4 hK hm aec i1 i2 i3 i4 i5 yY
   gi_wp2
   have hK2:(((W.setCell ⟨w.heap.size,0,none⟩ (.slice va rs.length vc)).setCell ⟨w.heap.size+1,0,none⟩ (.int .i64 0)).setCell ⟨w.heap.size+1+1,0,none⟩ (.int .i64 0)).heap[D]? =some (.deferred (some [])):=
     (KeepsOthers.setCell _ _ _).same D _ ((KeepsOthers.setCell _ _ _).same D _ ((KeepsOthers.setCell _ _ _).same D _ HK.out rfl) rfl) rfl
   have q1:=az.DA (o':= .deferred none) (((az.HE (v:= .slice va rs.length vc) J1.out).other (m:=w.heap.size+1) (by omega) 0 (.int .i64 0)).other (m:=w.heap.size+1+1) (by omega) 0 (.int .i64 0)) hK2 rfl;have q2:=az.DA (o':= .deferred none) ((az.HE (v:= .int .i64 0) (J2.out.other (m:=w.heap.size) (by omega) 0 (.slice va rs.length vc))).other (m:=w.heap.size+1+1) (by omega) 0 (.int .i64 0)) hK2 rfl;have q3:=az.DA (o':= .deferred none) (az.HE (v:= .int .i64 0) ((J3.out.other (m:=w.heap.size) (by omega) 0 (.slice va rs.length vc)).other (m:=w.heap.size+1) (by omega) 0 (.int .i64 0))) hK2 rfl;have r1:=q1.one;have r2:=q2.one;have r3:=q3.one;refine⟨by simp,.inl ⟨_,_,rfl,run_takeDeferred hK2,?_⟩⟩;refine⟨.tuple #[.slice va rs.length vc,.int .i64 0,.int .i64 0],by simp[results,Tryz.results26,go_sem,r1,r2,r3],az.agq (k:=0) (rs:=rs) (az.akK hs H1.out h2) rfl ?_ ?_ (λh=>h.elim (λh=>absurd rfl h) HNIL.out)⟩
   . refine az.asP (base:=w.heap.size+5) ?_ (by omega);refine ownsRow_putObj (ownsRow_setCell_below (ownsRow_setCell_below (ownsRow_setCell_below aj2.out ?_ _) ?_ _) ?_ _) _ hK2 rfl
     .  show w.heap.size<w.heap.size+5;omega
     .  show w.heap.size+1<w.heap.size+5;omega
     .  show w.heap.size+1+1<w.heap.size+5;omega
   .exact(((HB.out.setCell (p:=⟨w.heap.size,0,none⟩) (Za3 _) _).setCell (p:=⟨w.heap.size+1,0,none⟩) (by show w.heap.size<=w.heap.size+1;omega) _).setCell (p:=⟨w.heap.size+1+1,0,none⟩) (by show w.heap.size<=w.heap.size+1+1;omega) _).grown (grownBy_putObj' _ D _) (by simp;omega) (λk e=>by cases e;omega)
 case stop=>
   rintro D pre W hD acF ⟨e,k,h1,h2,h3,h4,j1,j2,j3,gw,hb⟩ hK;obtain⟨ys,Ao⟩:=acF;have q1:=az.DA (o':= .deferred none) j1 hK rfl;have q2:=az.DA (o':= .deferred none) j2 hK rfl;have q3:=az.DA (o':= .deferred none) j3 hK rfl;have r1:=q1.one;have r2:=q2.one;have r3:=q3.one;have HB:=Lib.hid hb;have H4:=Lib.hid (h4 ys Ao);have HK:=Lib.hid hK;have R1:=Lib.hid r1;have R2:=Lib.hid r2;have R3:=Lib.hid r3;clear hb h4 j1 j2 j3 hK hm aec i1 i2 i3 i4 i5 yY Ao q1 q2 q3 r1 r2 r3
   gi_wp2
   refine⟨by simp,.inl ⟨_,_,rfl,run_takeDeferred HK.out,?_⟩⟩;refine⟨.tuple #[.slice none 0 0,.int .i64 k,.int .i64 e],by simp[results,Tryz.results26,go_sem,R1.out,R2.out,R3.out],az.agq (k:=k) (rs:=[]) (by unfold az.ue;rw[Za7 (by omega),H4.out]) rfl ⟨rfl,.inl ⟨rfl,rfl⟩⟩ ?_⟩;exact HB.out.grown (grownBy_putObj' _ D _) (by omega) (λk e=>by cases e;omega)
end
end Go.Proofs
section
set_option maxRecDepth 1000000
namespace Go.Ai
open Go Go.RowKit
theorem aj4{P:Program}{tt:TT}{O:fc}{G:T dR}{C:Cells}{m d f:Nat}{n0:Pos}{fn:Func}{c:Code}(hm:P.follows .mixedOrders=true)(hT:dG P tt)(hG:GOk P tt G)
  (hO:wm P C O) (Xp:o8 O) (hf:P.funcs[f]? =some fn) (o7:¬fn.name= "runtime.NumGoroutine") (hb:fn.body=some c) {b:Bool}
  (h:Oe (R:=Bool) false O G m d f [] { heap:= .e,next:=n0 } (λv _=>eZ v (.bool b))=true) (w:World) (hC:∀ad v,C ad=some v->w.cell? ad=some v) (hC2:∀a v,C a=some v->∀o,C ⟨a.block,o,none⟩=none->w.cell? ⟨a.block,o,none⟩=none):
  Calls P f #[] w λe w'=>e= .returned (.bool b)/\Below w.heap.size w w':=by
 rw[GM false O G m d]at h;unfold uW at h;split at h<;>first|(cases h;done)|skip
 rename_i x hx;obtain⟨v,bE⟩:=x;have hv:=zi h;simp only at hv;subst hv;have hr:=DX hm hT hO Xp hG m d (λ_=>⟨0,0,0⟩) { heap:= .e,next:=n0 } w f [] (.bool b) bE [] hx (HZ hC hC2) aK.nil;have dO:(callFunc f ([]:List Value).toArray).run P w= .ok (.enter f #[]) w:=by simp[callFunc,hf,o7,hb]
 rw[dO]at hr;refine Calls.mono hr λe w' he=> ?_
 cases e with
 |returned x=>
  obtain⟨ρ',h1,_,_,_,hE⟩:=he;have:=h1.lH;subst this;exact⟨rfl,hE.os,hE.tape,hE.output,hE.size,λk hk=>hE.block k hk λb x hb=>by rw[T.dS]at hb;cases hb⟩
 |panicked c=>exact he.elim
 |outgrown=>exact he.elim
section
variable{ρ:Pos->Go.Ai.Loc}{C:Cells}{st:St}{w w':World}
theorem bZ.later(h:bZ ρ C st w)(hb:Below w.heap.size w w'):bZ ρ C st w' where
 live b x hx:=by
  obtain⟨h1,h2,h3⟩:=h.live b x hx;exact⟨h1,Zd0 h2 hb.size,h3.of_heap (hb.block _ h2)⟩
 inj:=h.inj
 dW a v ha:=by
  obtain⟨h1,h2⟩:=h.dW a v ha;exact⟨(hb.cell (World.block_lt_of_cell? _ _ h1)).trans h1,h2⟩
 whole a v ha o ho:=by
  have sx:a.block<w.heap.size:=World.block_lt_of_cell? _ _ (h.dW a v ha).1;exact(hb.cell (p:=⟨a.block,o,none⟩) sx).trans (h.whole a v ha o ho)
theorem pg.later(h:bZ ρ C st w)(hb:Below w.heap.size w w'):pg ρ st w ρ st w':=⟨hb.os,hb.tape,hb.output,hb.size,λk hk _=>hb.block k hk,λb x hx=>.inl ⟨b,x,hx,rfl⟩⟩
theorem av8(hW:bZ ρ C st w){x0:AB}{base size g:Nat}(hb:Below w.heap.size w w')(hg:w.heap.size<=g)(xC:g<w'.heap.size)
   (hB:∀ρ' n',(∀b:Pos,b.toNat<st.next.toNat->ρ' b=ρ b)->st.next.toNat<=n'->uh ρ' n' C ⟨g,base,size⟩ w' x0):
   ∃ρ':Pos->Go.Ai.Loc,(∀b:Pos,b.toNat<st.next.toNat->ρ' b=ρ b)/\ρ' st.next=⟨g,base,size⟩/\bZ ρ' C (st.bk none none (some x0)) w'/\pg ρ st w ρ' (st.bk none none (some x0)) w':=by
 let ρ':Pos->Go.Ai.Loc:=λb=>if b=st.next then⟨g,base,size⟩else ρ b
 have bF:∀b:Pos,b.toNat<st.next.toNat->ρ' b=ρ b:=λb hb=>Za7 (λe=>by rw[e]at hb;omega)
 have jz:ρ' st.next=⟨g,base,size⟩:=Zb6 rfl;refine⟨ρ',bF,jz,?_,⟨hb.os,hb.tape,hb.output,hb.size,λk hk _=>hb.block k hk,λb x hx=> ?_⟩⟩;rotate_left
 . by_cases he:b=st.next
   .right;rw[he,jz];exact hg
   .left;simp only[St.bk,Pt,Mc]at hx;rw[T.cC _ (λe=>he e.symm)]at hx;exact⟨b,x,hx,by rw[bF b (hW.live b x hx).1]⟩
 refine hW.alK (b0:=st.next) (x0:=x0) (by rw[Pos.aF];omega) (by rw[Pos.aF];omega) (by rw[T.gU]) ?_ bF (by rw[jz];exact hB _ _ bF (by rw[Pos.aF];omega)) ?_ (by rw[jz];exact xC) hb.size (λk hk _=>hb.block k hk)
 .intro b x hb hx;simp only[Pt,Mc]at hx;rw[T.cC _ (λe=>hb e.symm)]at hx;refine⟨hx,?_⟩;rw[jz];have:=(hW.live b x hx).2.1;simp only;omega
 .intro a v ha;have:=World.block_lt_of_cell? _ _ (hW.dW a v ha).1;rw[jz];simp only;omega
end
end Go.Ai
namespace Go.Proofs
open Go Go.Ai Go.RowKit Go.az Go.Proofs.YtmldijpopgaaeaaGreatDoor
def az.parseLit(t0:List Nat)(er i:Int)(n:Nat)(cs:List AV):List AV->St->Option (AV×St):=λargs st=>
 match args with
 |  [.str t]=>match jY t t0 with
    |true=>match n with
     |0=>some (.tuple [.af,.int .i64 i,.int .i64 er],st)
     |n+1=>some (.tuple [.slice st.next 0 (n+1) none 6,.int .i64 i,.int .i64 er],st.bk none none (some (.cells cs 0)))
    |false=>none
 |_=>none
def az.ahl:AV->Option Value
 |.int k i=>some (.int k i)
 |.str s=>some (.string (az.B8 s))
 |_=>none
theorem az.Zy{ρ:Pos->Go.Ai.Loc}{n:Nat}{C:Cells}:∀{cs:List AV}{vs:List Value},cs.mapM az.ahl=some vs->(∀v∈cs,∃k i,v= .int k i\/∃s,v= .str s/\∀c∈s,c<256)->aK ρ n C cs vs
 |[],vs,h,_=>by simp at h;subst h;exact aK.nil
 |v ::cs,vs,h,hv=>by
  simp only[List.mapM_cons,Option.bind_eq_bind,Option.bind_eq_some_iff,Option.pure_def,H5]at h;obtain⟨y,hy,zs,hz,rfl⟩:=h;refine aK.cons ?_ (az.Zy hz λv hm=>hv v (Zb0 _ hm));obtain⟨k,i,rfl|⟨s,rfl,hs⟩⟩:=hv v (Ze2 ..)
  .simp[az.ahl]at hy;subst hy;exact .int _ _
  . simp only[az.ahl,H5]at hy;subst hy;refine .str _ _ ?_;show(s.map UInt8.ofNat).toArray.toList.map UInt8.toNat=s;simp only[Zi1]
    conv=>rhs;rw[<-Zs5 s]
    (refine Zl0 λc hc=> ?_);have:=hs c hc;simp[UInt8.toNat_ofNat];omega
theorem az.Qy{C:Cells}{m:Int}(hC:C ⟨0,0,none⟩=some (.int .i64 m)){t0:List Nat}{er i:Int}{n k:Nat}{cs:List AV}{rs:List az.RR}(gw:t0.length<=65536)(hq:((gP (az.B8 t0)).all az.okL&&Nat.blt (gP (az.B8 t0)).length 64)=true)(hp:az.ue (az.B8 t0)=(er,k,rs))(hi:i=k)(hn:n=rs.length)
  (eW:cs.mapM az.ahl=some (az.cellsOf rs)) (hsc:∀v∈cs,∃k i,v= .int k i\/∃s,v= .str s/\∀c∈s,c<256) (hz:n=0->er≠0):qD Tryz.prog C 26 (az.parseLit t0 er i n cs) where
 mono args st v st' h:=by
  unfold az.parseLit at h;split at h<;>first|(cases h;done)|skip
  split at h<;>first|(cases h;done)|skip
  split at h
  .injection h with h;injection h with h1 h2;subst h2;exact Za3 _
  .injection h with h;injection h with h1 h2;subst h2;exact St.SL _ _ _ _
 runs ρ st w args v st' cq h hW hv:=by
  unfold az.parseLit at h;split at h<;>first|(cases h;done)|skip
  rename_i t;split at h<;>first|(cases h;done)|skip
  rename_i hbq;have ht:t=t0:=kZ.1 hbq;subst ht;obtain⟨x,xs,rfl,h1,h2⟩:=hv.cons_inv;have:=h2.kO;subst this;obtain⟨bs,rfl,hs⟩:=h1.fB;have HS:=az.CE hs;have hm:=(hW.dW _ _ hC).1;have alM:bs.size<=65536:=by have:bs.data.toList.length=t.length:=(by rw[<-hs];simp);have h3:bs.size=bs.data.toList.length:=(by simp);omega
  have hc:=az.av7 bs (λx hx=>Zh3.1 ((Zb1 _ _).mp hq).1 x (by rw[<-HS];exact hx)) (by rw[HS];exact Zb5 ((Zb1 _ _).mp hq).2) m w alM hm;have dO:(callFunc 26 ([Value.string bs]:List Value).toArray).run Tryz.prog w= .ok (.enter 26 #[.string bs]) w:=enters_of Tryz.func26 (by kernel_rfl) rfl _ _;rw[dO];refine Calls.mono hc λe w' hpp=> ?_
  obtain⟨v',he,gQ,hb,Zx⟩:=hpp;rw[HS,hp]at he gQ Zx;subst he;subst hi;simp only at gQ Zx ⊢;split at h
  . (injection h with h;injection h with e1 e2;subst e1;subst e2);have hv0:=Zx (.inl (hz rfl));subst hv0;exact⟨ρ,.qZ (aK.cons .af (aK.cons (.int _ _) (aK.cons (.int _ _) aK.nil))),λ_ _=>rfl,Za3 _,hW.later hb,pg.later hW hb⟩
  . rename_i n';(injection h with h;injection h with e1 e2;subst e1;subst e2);rcases gQ.2 with⟨_,h0⟩|⟨g,cap,cur,rfl,hg,hgb,ahz,hcm,hcur,awT⟩
    .   omega
    .   have hgl:=(Zd3.1 hgb).1;have hlen:cs.length=rs.length*6:=by
         have hvr:=az.Zy (ρ:=ρ) (n:=0) (C:=C) eW hsc;rw[hvr.1,az.afp]
        obtain⟨ρ',bF,jz,jD,hE⟩:=av8 (x0:= .cells cs 0) (base:=0) (size:=cur.size) hW hb hg hgl (λρ' n' _ _=>
         CL hgb (by rw[hlen,hcur];exact Zh4 _ ahz) (by rw[hlen,awT];exact az.Zy eW hsc) (λi _=>by simp))
        refine⟨ρ',.qZ (aK.cons ?_ (aK.cons (.int _ _) (aK.cons (.int _ _) aK.nil))),bF,St.SL _ _ _ _,jD,hE⟩;have awU:n'+1<=cap:=(by omega);rw[<-hn];exact Om (by simp[St.bk,Pos.aF]) jz awU (λc hc=>by cases hc) (by rw[hcur];exact Za3 _)
noncomputable def az.P1:List AV->St->Option (AV×St):=az.parseLit [104,97,114,100,32,97,112,97,114,116,32,97,110,110,97,32,98,111,114,105,115,32,50,10,119,101,105,103,104,32,53,32,104,111,110,111,117,114,32,45,10] 0 0 2 [.int .u8 1,.int .i64 0,.str [97,110,110,97],.str [98,111,114,105,115],.str [],.int .i64 2,.int .u8 14,.int .i64 5,.str [],.str [],.str [],.int .i64 0]
noncomputable def az.P2:List AV->St->Option (AV×St):=az.parseLit [119,101,105,103,104,32,48,32,109,105,120,32,45,10] 41 0 0 []
noncomputable def az.P3:List AV->St->Option (AV×St):=az.parseLit [104,97,114,100,32,97,116,32,97,110,110,97,32,45,10] 4 0 0 []
theorem az.awV:az.ue (az.B8 [104,97,114,100,32,97,112,97,114,116,32,97,110,110,97,32,98,111,114,105,115,32,50,10,119,101,105,103,104,32,53,32,104,111,110,111,117,114,32,45,10])=(0,0,[⟨1,0,⟨#[97,110,110,97]⟩,⟨#[98,111,114,105,115]⟩,⟨#[]⟩,2⟩,⟨14,5,⟨#[]⟩,⟨#[]⟩,⟨#[]⟩,0⟩]):=by kernel_rfl
theorem az.awW:az.ue (az.B8 [119,101,105,103,104,32,48,32,109,105,120,32,45,10])=(41,0,[]):=by kernel_rfl
theorem az.awX:az.ue (az.B8 [104,97,114,100,32,97,116,32,97,110,110,97,32,45,10])=(4,0,[]):=by kernel_rfl
theorem az.anQ{k:IntKind}{i:Int}:∃k' i',(AV.int k i)= .int k' i'\/∃s,(AV.int k i)= .str s/\∀c∈s,c<256:=⟨k,i,.inl rfl⟩
theorem az.anR{s:List Nat}(h:s.all (λc=>decide (c<256))=true):∃k' i',(AV.str s)= .int k' i'\/∃s',(AV.str s)= .str s'/\∀c∈s',c<256:=⟨.i64,0,.inr ⟨s,rfl,λc hc=>by have:=Zh3.1 h c hc;simpa using this⟩⟩
theorem az.awY{C:Cells}{m:Int}(hC:C ⟨0,0,none⟩=some (.int .i64 m)):qD Tryz.prog C 26 az.P1:=
 az.Qy hC (by decide) (by kernel_rfl) az.awV rfl rfl (by rfl) (by
  intro v hv;simp only[Za8,Zc0,Ze9]at hv;rcases hv with rfl|rfl|rfl|rfl|rfl|rfl|rfl|rfl|rfl|rfl|rfl|rfl<;>first|exact az.anQ|exact az.anR (by decide)) (by decide)
theorem az.awZ{C:Cells}{m:Int}(hC:C ⟨0,0,none⟩=some (.int .i64 m)):qD Tryz.prog C 26 az.P2:=az.Qy hC (by decide) (by kernel_rfl) az.awW rfl rfl rfl (by simp) (by decide)
theorem az.aw0{C:Cells}{m:Int}(hC:C ⟨0,0,none⟩=some (.int .i64 m)):qD Tryz.prog C 26 az.P3:=az.Qy hC (by decide) (by kernel_rfl) az.awX rfl rfl rfl (by simp) (by decide)
noncomputable def az.orcA:fc:=wq [(225,GN),(15,orS (Tf aac) (Tf aad)),(26,orS az.P1 (orS az.P2 az.P3))]
noncomputable def az.chkA:Bool:=Oe (R:=Bool) false az.orcA gg 100000 60 7 [] { heap:= .e,next:= .o (.i (.o (.i (.o (.i (.o (.i (.o .h)))))))) } λv _=>eZ v (.bool true)
theorem az.aqg:az.chkA=true:=by kernel_rfl
theorem az.Zz{C:Cells}:qD Tryz.prog C 225 GN:=aqK (fn:=Tryz.f225) Tryz.func225 (by kernel_rfl) (by kernel_rfl) (by kernel_rfl) (by kernel_rfl)
theorem az.ave{C:Cells}:qD Tryz.prog C 15 (Tf aac):=by have ho:=zk (P:=Tryz.prog) (C:=C) (l:=[(225,GN)]) (λx hx=>by simp at hx;subst hx;exact az.Zz);exact ahT (O:=ato) (G:=gg) (m:=100000) (d:=60) (DX (by kernel_rfl) UZ ho.1 ho.2 U0 _ _) (DT ho.2 _ _) av4 awO
theorem az.avf{C:Cells}:qD Tryz.prog C 15 (Tf aad):=by have ho:=zk (P:=Tryz.prog) (C:=C) (l:=[(225,GN)]) (λx hx=>by simp at hx;subst hx;exact az.Zz);exact ahT (O:=atp) (G:=gg) (m:=100000) (d:=60) (DX (by kernel_rfl) UZ ho.1 ho.2 U0 _ _) (DT ho.2 _ _) av5 awP
theorem az.aqh(m:Int)(w:World)(hm:w.cell? ⟨0,0,none⟩=some (.int .i64 m)):Calls Tryz.prog 7 #[] w λe w'=>e= .returned (.bool true)/\Below w.heap.size w w':=by
 have hC:(λad=>w.cell? ad:Cells) ⟨0,0,none⟩=some (.int .i64 m):=hm;have ho:=zk (P:=Tryz.prog) (C:=λad=>w.cell? ad) (l:=[(225,GN),(15,orS (Tf aac) (Tf aad)),(26,orS az.P1 (orS az.P2 az.P3))]) (λx hx=>by
  simp only[Za8,Zc0,Ze9]at hx;rcases hx with rfl|rfl|rfl
  .exact az.Zz
  .exact ahU az.ave az.avf
  .exact ahU (az.awY hC) (ahU (az.awZ hC) (az.aw0 hC)))
 exact aj4 (by kernel_rfl) UZ U0 ho.1 ho.2 (fn:=Tryz.f7) (c:=Tryz.f7.body.get rfl) Tryz.func7 (by decide) rfl az.aqg w (λad v h=>h) λa v _ o h=>h
end Go.Proofs
end
