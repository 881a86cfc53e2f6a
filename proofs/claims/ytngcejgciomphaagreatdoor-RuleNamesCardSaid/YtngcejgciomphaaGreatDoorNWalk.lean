/- awake of the chapter. -/
import Derived.Test.YtngcejgciomphaaGreatDoorProg
import Derived.Test.YtngcejgciomphaaGreatDoorNEvalE
import Derived.Lib.Hide
import Derived.WalkSmall
import Derived.Shelf.Small.Strs
import Derived.Shelf.Strings.Split
import Derived.Shelf.Strings.Shaped
import Derived.RangeFuncNested
import Derived.RangeFuncBound
import Derived.Shelf.RegionOpen
import Derived.OwnWalkIn
import Derived.LoopNIn
import Derived.LoopIn
set_option linter.all false
set_option maxRecDepth 100000
set_option maxHeartbeats 4000000
namespace Go.Proofs.YtngcejgciomphaaGreatDoor
noncomputable section
open Go Go.Ai Go.Proofs
def tt:T TI:=ttOf Go.Proofs.Tryz.prog [7,8,27,28,40,41,43,44,47,48,66,67,82,90,91,102,103,110,111,114,115,140,141,159,160,162,163,183,184,251,252]
def gg:T dF:=ggOf Go.Proofs.Tryz.prog tt
theorem amU:HF Go.Proofs.Tryz.prog (λp=>p) tt=true:=by kernel_rfl
theorem PE:cQ Go.Proofs.Tryz.prog tt:=akV amU
theorem PG:WZ Go.Proofs.Tryz.prog tt gg:=akW (by kernel_rfl)
end
end Go.Proofs.YtngcejgciomphaaGreatDoor
section
end
namespace Go.Proofs.YtngcejgciomphaaGreatDoor
section
set_option maxRecDepth 1000000
open Go Go.Ai
noncomputable def akJ:eE:=uC [(266,Eo)]
noncomputable def Ue:Go.Ai.Lit:=⟨[(.agg [(kS 684 2 2 7),(kS 688 4 4 9),(kS 689 1 1 3),(kS 690 4 4 1),(kS 681 16 16 6)])],(key 691),
 [((key 681),(.cells [(kU 1),(kI 0),(.str [97,110,110,97]),(.str [98,111,114,105,115]),(.str []),(kI 2),(kU 1),(kI 0),(.str [97,110,110,97]),(.str [99,97,114,108]),(.str []),(kI 2),(kU 2),(kI 0),(.str [98,111,114,105,115]),(.str [99,97,114,108]),(.str []),(kI 0),(kU 3),(kI 0),(.str [97,110,110,97]),(.str [99,97,114,108]),(.str []),(kI 0),(kU 4),(kI 0),(.str [97,110,110,97]),(.str [100,111,114,97]),(.str []),(kI 3),(kU 8),(kI 0),(.str []),(.str []),(.str []),(kI 0),(kU 9),(kI 0),(.str []),(.str []),(.str []),(kI 0),(kU 10),(kI 0),(.str []),(.str []),(.str []),(kI 0),(kU 11),(kI 0),(.str []),(.str []),(.str []),(kI 0),(kU 12),(kI 0),(.str []),(.str []),(.str [114]),(kI 0),(kU 14),(kI 0),(.str []),(.str []),(.str []),(kI 0),(kU 15),(kI 0),(.str []),(.str []),(.str []),(kI 2),(kU 16),(kI 0),(.str []),(.str []),(.str [114]),(kI 2),(kU 5),(kI 0),(.str [97,110,110,97]),(.str [98,111,114,105,115]),(.str []),(kI 0),(kU 6),(kI 0),(.str [100,111,114,97]),(.str []),(.str [114]),(kI 0),(kU 7),(kI 0),(.str [99,97,114,108]),(.str []),(.str [114]),(kI 2)] 0)),
   ((key 690),(.cells [(kI 0),(kI 1),(kI 1),(kI 2)] 0)),
   ((key 689),(.cells [(.str [97,110,110,97]),(.str [98,111,114,105,115]),(kU 2)] 0)),
   ((key 687),(.cells [(.str [108,97,116,105,110])] 0)),
   ((key 686),(.cells [(.str [108,97,116,105,110])] 0)),
   ((key 685),(.cells [(.str [108,97,116,105,110])] 0)),
   ((key 688),(.cells [(.str [97,110,110,97]),(.str []),(.str []),(kI 0),(kI 1),(.str []),(.bool true),(.bool false),(kS 685 1 1 1),(.str [98,111,114,105,115]),(.str []),(.str []),(kI 0),(kI 1),(.str []),(.bool false),(.bool false),(kS 686 1 1 1),(.str [99,97,114,108]),(.str []),(.str []),(kI 0),(kI 2),(.str []),(.bool false),(.bool true),(kS 687 1 1 1),(.str [100,111,114,97]),(.str []),(.str []),(kI 0),(kI 0),(.str []),(.bool false),(.bool false),.af] 0)),
   ((key 683),(.cells [(kI 1)] 0)),
   ((key 684),(.cells [(.str [114]),(kU 1),(kI 6),(kI 0),(kS 683 1 1 1),(kI 0),(kI 0),(.str [119]),(kU 4),(kI 2),(kI 0),.af,(kI 0),(kI 0)] 0))],
 (.tuple [(.ptr (key 1057) 0),(kI 0),(kI 0)]),(key 5270),
 [((key 684),(.cells [(.str [114]),(kU 1),(kI 6),(kI 0),(kS 683 1 1 1),(kI 0),(kI 0),(.str [119]),(kU 4),(kI 2),(kI 0),.af,(kI 0),(kI 0)] 0)),
   ((key 683),(.cells [(kI 1)] 0)),
   ((key 688),(.cells [(.str [97,110,110,97]),(.str []),(.str []),(kI 0),(kI 1),(.str []),(.bool true),(.bool false),(kS 685 1 1 1),(.str [98,111,114,105,115]),(.str []),(.str []),(kI 0),(kI 1),(.str []),(.bool false),(.bool false),(kS 686 1 1 1),(.str [99,97,114,108]),(.str []),(.str []),(kI 0),(kI 2),(.str []),(.bool false),(.bool true),(kS 687 1 1 1),(.str [100,111,114,97]),(.str []),(.str []),(kI 0),(kI 0),(.str []),(.bool false),(.bool false),.af] 0)),
   ((key 685),(.cells [(.str [108,97,116,105,110])] 0)),
   ((key 686),(.cells [(.str [108,97,116,105,110])] 0)),
   ((key 687),(.cells [(.str [108,97,116,105,110])] 0)),
   ((key 689),(.cells [(.str [97,110,110,97]),(.str [98,111,114,105,115]),(kU 2)] 0)),
   ((key 690),(.cells [(kI 0),(kI 1),(kI 1),(kI 2)] 0)),
   ((key 681),(.cells [(kU 1),(kI 0),(.str [97,110,110,97]),(.str [98,111,114,105,115]),(.str []),(kI 2),(kU 1),(kI 0),(.str [97,110,110,97]),(.str [99,97,114,108]),(.str []),(kI 2),(kU 2),(kI 0),(.str [98,111,114,105,115]),(.str [99,97,114,108]),(.str []),(kI 0),(kU 3),(kI 0),(.str [97,110,110,97]),(.str [99,97,114,108]),(.str []),(kI 0),(kU 4),(kI 0),(.str [97,110,110,97]),(.str [100,111,114,97]),(.str []),(kI 3),(kU 8),(kI 0),(.str []),(.str []),(.str []),(kI 0),(kU 9),(kI 0),(.str []),(.str []),(.str []),(kI 0),(kU 10),(kI 0),(.str []),(.str []),(.str []),(kI 0),(kU 11),(kI 0),(.str []),(.str []),(.str []),(kI 0),(kU 12),(kI 0),(.str []),(.str []),(.str [114]),(kI 0),(kU 14),(kI 0),(.str []),(.str []),(.str []),(kI 0),(kU 15),(kI 0),(.str []),(.str []),(.str []),(kI 2),(kU 16),(kI 0),(.str []),(.str []),(.str [114]),(kI 2),(kU 5),(kI 0),(.str [97,110,110,97]),(.str [98,111,114,105,115]),(.str []),(kI 0),(kU 6),(kI 0),(.str [100,111,114,97]),(.str []),(.str [114]),(kI 0),(kU 7),(kI 0),(.str [99,97,114,108]),(.str []),(.str [114]),(kI 2)] 0)),
   ((key 5265),(.cells [(kU 0),(kU 0),(kU 0),(kU 0)] 0)),
   ((key 5186),(.cells [(kU 0),(kU 0),(kU 0),(kU 0)] 0)),
   ((key 5099),(.cells [(kU 2),(kU 0),(kU 0),(kU 0)] 0)),
   ((key 5010),(.cells [(kU 0),(kU 2),(kU 0),(kU 0)] 0)),
   ((key 5269),(.cells [(kN 5010 4 1),(kN 5099 4 1),(kN 5186 4 1),(kN 5265 4 1)] 0)),
   ((key 5259),(.cells [(.bool false),(.bool false),(.bool false),(.bool false)] 0)),
   ((key 5180),(.cells [(.bool true),(.bool true),(.bool true),(.bool false)] 0)),
   ((key 5093),(.cells [(.bool true),(.bool true),(.bool true),(.bool false)] 0)),
   ((key 5004),(.cells [(.bool true),(.bool true),(.bool true),(.bool false)] 0)),
   ((key 5267),(.cells [(kN 5004 4 1),(kN 5093 4 1),(kN 5180 4 1),(kN 5259 4 1)] 0)),
   ((key 4872),(.map [((kI 7),(kI 0),0),((kI 6),(kI 1),1)] 2)),
   ((key 4864),(.map [((kI 6),(kI 0),0),((kI 7),(kI 1),1)] 2)),
   ((key 4844),(.map [((kI 5),(kI 0),0),((kI 0),(kI 1),1),((kI 4),(kI 1),2),((kI 2),(kI 1),3),((kI 1),(kI 2),4),((kI 3),(kI 2),5)] 6)),
   ((key 4824),(.map [((kI 4),(kI 0),0),((kI 3),(kI 1),1),((kI 5),(kI 1),2),((kI 1),(kI 1),3),((kI 2),(kI 2),4),((kI 0),(kI 2),5)] 6)),
   ((key 4804),(.map [((kI 3),(kI 0),0),((kI 2),(kI 1),1),((kI 4),(kI 1),2),((kI 0),(kI 1),3),((kI 1),(kI 2),4),((kI 5),(kI 2),5)] 6)),
   ((key 4784),(.map [((kI 2),(kI 0),0),((kI 1),(kI 1),1),((kI 3),(kI 1),2),((kI 5),(kI 1),3),((kI 0),(kI 2),4),((kI 4),(kI 2),5)] 6)),
   ((key 4764),(.map [((kI 1),(kI 0),0),((kI 0),(kI 1),1),((kI 2),(kI 1),2),((kI 4),(kI 1),3),((kI 5),(kI 2),4),((kI 3),(kI 2),5)] 6)),
   ((key 4744),(.map [((kI 0),(kI 0),0),((kI 1),(kI 1),1),((kI 5),(kI 1),2),((kI 3),(kI 1),3),((kI 2),(kI 2),4),((kI 4),(kI 2),5)] 6)),
   ((key 4879),(.cells [(.map (key 4744)),(.map (key 4764)),(.map (key 4784)),(.map (key 4804)),(.map (key 4824)),(.map (key 4844)),(.map (key 4864)),(.map (key 4872))] 0)),
   ((key 4130),(.cells [(kI 2)] 0)),
   ((key 3569),(.cells [(kI 1)] 0)),
   ((key 3008),(.cells [(kI 0)] 0)),
   ((key 2657),(.cells [(kI 5)] 0)),
   ((key 2096),(.cells [(kI 4)] 0)),
   ((key 1535),(.cells [(kI 3)] 0)),
   ((key 4742),(.cells [(kN 1535 1 1),(kN 2096 1 1),(kN 2657 1 1),(kN 3008 1 1),(kN 3569 1 1),(kN 4130 1 1),.af,.af] 0)),
   ((key 4609),(.cells [(kI 6)] 0)),
   ((key 4414),(.cells [(kI 7)] 0)),
   ((key 3986),(.cells [(kI 0),(kI 4)] 0)),
   ((key 3495),(.cells [(kI 3),(kI 5)] 0)),
   ((key 2934),(.cells [(kI 2),(kI 4)] 0)),
   ((key 2373),(.cells [(kI 1),(kI 3)] 0)),
   ((key 1812),(.cells [(kI 0),(kI 2)] 0)),
   ((key 1391),(.cells [(kI 1),(kI 5)] 0)),
   ((key 4654),(.cells [(kN 1391 2 1),(kN 1812 2 1),(kN 2373 2 1),(kN 2934 2 1),(kN 3495 2 1),(kN 3986 2 1),(kN 4414 1 1),(kN 4609 1 1)] 0)),
   ((key 4564),(.cells [(.bool false),(.bool true),(.bool false),(.bool false),(.bool false),(.bool false),(.bool false),(.bool false)] 0)),
   ((key 4543),(.cells [(kI 0),(kI 1),(kI 2),(kI 1),(kI 2),(kI 1),(kI 1),(kI 0)] 0)),
   ((key 4507),(.cells [(kI 0),(kI 0),(kI 0),(kI 0),(kI 0),(kI 0),(kI 1),(kI 1)] 0)),
   ((key 1056),(.map [((kU 1),(.agg [(.str [97,112,97,114,116]),(kU 103),(.bool true),(kU 0),(.bool true),(kI 0),(.bool false),(.func 97 [] [])]),0),((kU 2),(.agg [(.str [98,101,115,105,100,101]),(kU 103),(.bool true),(kU 0),(.bool false),(kI 0),(.bool false),(.func 98 [] [])]),1),((kU 3),(.agg [(.str [97,99,114,111,115,115]),(kU 103),(.bool true),(kU 0),(.bool false),(kI 0),(.bool false),(.func 99 [] [])]),2),((kU 4),(.agg [(.str [110,101,97,114]),(kU 103),(.bool true),(kU 0),(.bool true),(kI 1),(.bool false),(.func 100 [] [])]),3),((kU 5),(.agg [(.str [116,111,103,101,116,104,101,114]),(kU 103),(.bool true),(kU 0),(.bool false),(kI 0),(.bool false),(.func 101 [] [])]),4),((kU 6),(.agg [(.str [97,116]),(kU 103),(.bool false),(kU 116),(.bool false),(kI 0),(.bool false),(.func 102 [] [])]),5),((kU 7),(.agg [(.str [115,101,97,116]),(kU 103),(.bool false),(kU 116),(.bool true),(kI 0),(.bool true),(.func 103 [] [])]),6),((kU 8),(.agg [(.str [97,108,116,101,114,110,97,116,101]),(kU 0),(.bool false),(kU 101),(.bool false),(kI 0),(.bool false),(.func 104 [] [])]),7),((kU 9),(.agg [(.str [104,111,115,116]),(kU 0),(.bool false),(kU 101),(.bool false),(kI 0),(.bool false),(.func 105 [] [])]),8),((kU 10),(.agg [(.str [114,101,97,99,104]),(kU 101),(.bool false),(kU 0),(.bool false),(kI 0),(.bool false),(.func 106 [] [])]),9),((kU 11),(.agg [(.str [115,112,101,97,107]),(kU 0),(.bool false),(kU 101),(.bool false),(kI 0),(.bool false),(.func 107 [] [])]),10),((kU 12),(.agg [(.str [112,101,97,99,101]),(kU 0),(.bool false),(kU 101),(.bool false),(kI 0),(.bool false),(.func 108 [] [])]),11),((kU 13),(.agg [(.str [99,111,109,112,97,110,121]),(kU 0),(.bool false),(kU 101),(.bool false),(kI 0),(.bool false),(.func 109 [] [])]),12),((kU 14),(.agg [(.str [104,111,110,111,117,114]),(kU 0),(.bool false),(kU 101),(.bool false),(kI 0),(.bool false),(.func 110 [] [])]),13),((kU 15),(.agg [(.str [102,105,108,108]),(kU 0),(.bool false),(kU 101),(.bool true),(kI 0),(.bool false),(.func 111 [] [])]),14),((kU 16),(.agg [(.str [108,105,109,105,116]),(kU 0),(.bool false),(kU 101),(.bool true),(kI 0),(.bool false),(.func 112 [] [])]),15),((kU 17),(.agg [(.str [107,105,116,99,104,101,110]),(kU 100),(.bool false),(kU 116),(.bool false),(kI 0),(.bool false),(.func 113 [] [])]),16),((kU 18),(.agg [(.str [109,105,120]),(kU 0),(.bool false),(kU 101),(.bool false),(kI 0),(.bool false),(.func 114 [] [])]),17)] 18)),
   ((key 1055),(.cells [(kU 1),(kI 0),(.str [97,110,110,97]),(.str [98,111,114,105,115]),(.str []),(kI 2),(kU 1),(kI 0),(.str [97,110,110,97]),(.str [99,97,114,108]),(.str []),(kI 2),(kU 2),(kI 0),(.str [98,111,114,105,115]),(.str [99,97,114,108]),(.str []),(kI 0),(kU 3),(kI 0),(.str [97,110,110,97]),(.str [99,97,114,108]),(.str []),(kI 0),(kU 4),(kI 0),(.str [97,110,110,97]),(.str [100,111,114,97]),(.str []),(kI 3),(kU 8),(kI 0),(.str []),(.str []),(.str []),(kI 0),(kU 9),(kI 0),(.str []),(.str []),(.str []),(kI 0),(kU 10),(kI 0),(.str []),(.str []),(.str []),(kI 0),(kU 11),(kI 0),(.str []),(.str []),(.str []),(kI 0),(kU 12),(kI 0),(.str []),(.str []),(.str [114]),(kI 0),(kU 14),(kI 0),(.str []),(.str []),(.str []),(kI 0),(kU 15),(kI 0),(.str []),(.str []),(.str []),(kI 2),(kU 16),(kI 0),(.str []),(.str []),(.str [114]),(kI 2),(kU 5),(kI 0),(.str [97,110,110,97]),(.str [98,111,114,105,115]),(.str []),(kI 0),(kU 6),(kI 0),(.str [100,111,114,97]),(.str []),(.str [114]),(kI 0),(kU 7),(kI 0),(.str [99,97,114,108]),(.str []),(.str [114]),(kI 2)] 0)),
   ((key 1053),(.cells [(kI 0),(kI 1),(kI 1),(kI 2)] 0)),
   ((key 1051),(.cells [(.str [97,110,110,97]),(.str [98,111,114,105,115]),(kU 2)] 0)),
   ((key 1049),(.cells [(.str [108,97,116,105,110])] 0)),
   ((key 1047),(.cells [(.str [108,97,116,105,110])] 0)),
   ((key 1045),(.cells [(.str [108,97,116,105,110])] 0)),
   ((key 1043),(.cells [(.str [97,110,110,97]),(.str []),(.str []),(kI 0),(kI 1),(.str []),(.bool true),(.bool false),(kN 1045 1 1),(.str [98,111,114,105,115]),(.str []),(.str []),(kI 0),(kI 1),(.str []),(.bool false),(.bool false),(kN 1047 1 1),(.str [99,97,114,108]),(.str []),(.str []),(kI 0),(kI 2),(.str []),(.bool false),(.bool true),(kN 1049 1 1),(.str [100,111,114,97]),(.str []),(.str []),(kI 0),(kI 0),(.str []),(.bool false),(.bool false),.af] 0)),
   ((key 1041),(.cells [(kI 1)] 0)),
   ((key 1039),(.cells [(.str [114]),(kU 1),(kI 6),(kI 0),(kN 1041 1 1),(kI 0),(kI 0),(.str [119]),(kU 4),(kI 2),(kI 0),.af,(kI 0),(kI 0)] 0)),
   ((key 1057),(.cells [(kN 1039 2 7),(kN 1043 4 9),(kN 1051 1 3),(kN 1053 4 1),(kN 1055 16 6),(.map (key 1056)),(kN 4507 8 1),(kN 4543 8 1),(kN 4564 8 1),(kN 4654 8 1),(kN 4742 8 1),(kN 4879 8 1),(kN 5267 4 1),(kN 5269 4 1)] 0))]⟩
theorem anN:Xg Ue akJ gg 100000 60 19=true:=by kernel_rfl
theorem amV:Xf Ue.L0 Ue.L1=true:=by kernel_rfl
noncomputable def akK:eE:=uC [(266,Eo)]
noncomputable def Uf:Go.Ai.Lit:=⟨[(.agg [(kS 5491 2 2 7),(kS 5495 4 4 9),(kS 5496 1 1 3),(kS 5497 4 4 1),(kS 5488 5 5 6)])],(key 5498),
 [((key 5488),(.cells [(kU 14),(kI 0),(.str []),(.str []),(.str [114]),(kI 0),(kU 11),(kI 0),(.str []),(.str []),(.str [114]),(kI 0),(kU 9),(kI 1),(.str []),(.str []),(.str []),(kI 0),(kU 15),(kI 10),(.str []),(.str []),(.str [119]),(kI 2),(kU 15),(kI 100),(.str []),(.str []),(.str []),(kI 4)] 0)),
   ((key 5497),(.cells [(kI 0),(kI 1),(kI 1),(kI 2)] 0)),
   ((key 5496),(.cells [(.str [97,110,110,97]),(.str [98,111,114,105,115]),(kU 2)] 0)),
   ((key 5494),(.cells [(.str [108,97,116,105,110])] 0)),
   ((key 5493),(.cells [(.str [108,97,116,105,110])] 0)),
   ((key 5492),(.cells [(.str [108,97,116,105,110])] 0)),
   ((key 5495),(.cells [(.str [97,110,110,97]),(.str []),(.str []),(kI 0),(kI 1),(.str []),(.bool true),(.bool false),(kS 5492 1 1 1),(.str [98,111,114,105,115]),(.str []),(.str []),(kI 0),(kI 1),(.str []),(.bool false),(.bool false),(kS 5493 1 1 1),(.str [99,97,114,108]),(.str []),(.str []),(kI 0),(kI 2),(.str []),(.bool false),(.bool true),(kS 5494 1 1 1),(.str [100,111,114,97]),(.str []),(.str []),(kI 0),(kI 0),(.str []),(.bool false),(.bool false),.af] 0)),
   ((key 5490),(.cells [(kI 1)] 0)),
   ((key 5491),(.cells [(.str [114]),(kU 1),(kI 6),(kI 0),(kS 5490 1 1 1),(kI 0),(kI 0),(.str [119]),(kU 4),(kI 2),(kI 0),.af,(kI 0),(kI 0)] 0))],
 (.tuple [(.ptr (key 5684) 0),(kI 0),(kI 0)]),(key 9897),
 [((key 5491),(.cells [(.str [114]),(kU 1),(kI 6),(kI 0),(kS 5490 1 1 1),(kI 0),(kI 0),(.str [119]),(kU 4),(kI 2),(kI 0),.af,(kI 0),(kI 0)] 0)),
   ((key 5490),(.cells [(kI 1)] 0)),
   ((key 5495),(.cells [(.str [97,110,110,97]),(.str []),(.str []),(kI 0),(kI 1),(.str []),(.bool true),(.bool false),(kS 5492 1 1 1),(.str [98,111,114,105,115]),(.str []),(.str []),(kI 0),(kI 1),(.str []),(.bool false),(.bool false),(kS 5493 1 1 1),(.str [99,97,114,108]),(.str []),(.str []),(kI 0),(kI 2),(.str []),(.bool false),(.bool true),(kS 5494 1 1 1),(.str [100,111,114,97]),(.str []),(.str []),(kI 0),(kI 0),(.str []),(.bool false),(.bool false),.af] 0)),
   ((key 5492),(.cells [(.str [108,97,116,105,110])] 0)),
   ((key 5493),(.cells [(.str [108,97,116,105,110])] 0)),
   ((key 5494),(.cells [(.str [108,97,116,105,110])] 0)),
   ((key 5496),(.cells [(.str [97,110,110,97]),(.str [98,111,114,105,115]),(kU 2)] 0)),
   ((key 5497),(.cells [(kI 0),(kI 1),(kI 1),(kI 2)] 0)),
   ((key 5488),(.cells [(kU 14),(kI 0),(.str []),(.str []),(.str [114]),(kI 0),(kU 11),(kI 0),(.str []),(.str []),(.str [114]),(kI 0),(kU 9),(kI 1),(.str []),(.str []),(.str []),(kI 0),(kU 15),(kI 10),(.str []),(.str []),(.str [119]),(kI 2),(kU 15),(kI 100),(.str []),(.str []),(.str []),(kI 4)] 0)),
   ((key 9892),(.cells [(kU 0),(kU 0),(kU 0),(kU 0)] 0)),
   ((key 9813),(.cells [(kU 0),(kU 0),(kU 0),(kU 0)] 0)),
   ((key 9726),(.cells [(kU 2),(kU 0),(kU 0),(kU 0)] 0)),
   ((key 9637),(.cells [(kU 0),(kU 2),(kU 0),(kU 0)] 0)),
   ((key 9896),(.cells [(kN 9637 4 1),(kN 9726 4 1),(kN 9813 4 1),(kN 9892 4 1)] 0)),
   ((key 9886),(.cells [(.bool false),(.bool false),(.bool false),(.bool false)] 0)),
   ((key 9807),(.cells [(.bool true),(.bool true),(.bool true),(.bool false)] 0)),
   ((key 9720),(.cells [(.bool true),(.bool true),(.bool true),(.bool false)] 0)),
   ((key 9631),(.cells [(.bool true),(.bool true),(.bool true),(.bool false)] 0)),
   ((key 9894),(.cells [(kN 9631 4 1),(kN 9720 4 1),(kN 9807 4 1),(kN 9886 4 1)] 0)),
   ((key 9499),(.map [((kI 7),(kI 0),0),((kI 6),(kI 1),1)] 2)),
   ((key 9491),(.map [((kI 6),(kI 0),0),((kI 7),(kI 1),1)] 2)),
   ((key 9471),(.map [((kI 5),(kI 0),0),((kI 0),(kI 1),1),((kI 4),(kI 1),2),((kI 2),(kI 1),3),((kI 1),(kI 2),4),((kI 3),(kI 2),5)] 6)),
   ((key 9451),(.map [((kI 4),(kI 0),0),((kI 3),(kI 1),1),((kI 5),(kI 1),2),((kI 1),(kI 1),3),((kI 2),(kI 2),4),((kI 0),(kI 2),5)] 6)),
   ((key 9431),(.map [((kI 3),(kI 0),0),((kI 2),(kI 1),1),((kI 4),(kI 1),2),((kI 0),(kI 1),3),((kI 1),(kI 2),4),((kI 5),(kI 2),5)] 6)),
   ((key 9411),(.map [((kI 2),(kI 0),0),((kI 1),(kI 1),1),((kI 3),(kI 1),2),((kI 5),(kI 1),3),((kI 0),(kI 2),4),((kI 4),(kI 2),5)] 6)),
   ((key 9391),(.map [((kI 1),(kI 0),0),((kI 0),(kI 1),1),((kI 2),(kI 1),2),((kI 4),(kI 1),3),((kI 5),(kI 2),4),((kI 3),(kI 2),5)] 6)),
   ((key 9371),(.map [((kI 0),(kI 0),0),((kI 1),(kI 1),1),((kI 5),(kI 1),2),((kI 3),(kI 1),3),((kI 2),(kI 2),4),((kI 4),(kI 2),5)] 6)),
   ((key 9506),(.cells [(.map (key 9371)),(.map (key 9391)),(.map (key 9411)),(.map (key 9431)),(.map (key 9451)),(.map (key 9471)),(.map (key 9491)),(.map (key 9499))] 0)),
   ((key 8757),(.cells [(kI 2)] 0)),
   ((key 8196),(.cells [(kI 1)] 0)),
   ((key 7635),(.cells [(kI 0)] 0)),
   ((key 7284),(.cells [(kI 5)] 0)),
   ((key 6723),(.cells [(kI 4)] 0)),
   ((key 6162),(.cells [(kI 3)] 0)),
   ((key 9369),(.cells [(kN 6162 1 1),(kN 6723 1 1),(kN 7284 1 1),(kN 7635 1 1),(kN 8196 1 1),(kN 8757 1 1),.af,.af] 0)),
   ((key 9236),(.cells [(kI 6)] 0)),
   ((key 9041),(.cells [(kI 7)] 0)),
   ((key 8613),(.cells [(kI 0),(kI 4)] 0)),
   ((key 8122),(.cells [(kI 3),(kI 5)] 0)),
   ((key 7561),(.cells [(kI 2),(kI 4)] 0)),
   ((key 7000),(.cells [(kI 1),(kI 3)] 0)),
   ((key 6439),(.cells [(kI 0),(kI 2)] 0)),
   ((key 6018),(.cells [(kI 1),(kI 5)] 0)),
   ((key 9281),(.cells [(kN 6018 2 1),(kN 6439 2 1),(kN 7000 2 1),(kN 7561 2 1),(kN 8122 2 1),(kN 8613 2 1),(kN 9041 1 1),(kN 9236 1 1)] 0)),
   ((key 9191),(.cells [(.bool false),(.bool true),(.bool false),(.bool false),(.bool false),(.bool false),(.bool false),(.bool false)] 0)),
   ((key 9170),(.cells [(kI 0),(kI 1),(kI 2),(kI 1),(kI 2),(kI 1),(kI 1),(kI 0)] 0)),
   ((key 9134),(.cells [(kI 0),(kI 0),(kI 0),(kI 0),(kI 0),(kI 0),(kI 1),(kI 1)] 0)),
   ((key 5683),(.map [((kU 1),(.agg [(.str [97,112,97,114,116]),(kU 103),(.bool true),(kU 0),(.bool true),(kI 0),(.bool false),(.func 97 [] [])]),0),((kU 2),(.agg [(.str [98,101,115,105,100,101]),(kU 103),(.bool true),(kU 0),(.bool false),(kI 0),(.bool false),(.func 98 [] [])]),1),((kU 3),(.agg [(.str [97,99,114,111,115,115]),(kU 103),(.bool true),(kU 0),(.bool false),(kI 0),(.bool false),(.func 99 [] [])]),2),((kU 4),(.agg [(.str [110,101,97,114]),(kU 103),(.bool true),(kU 0),(.bool true),(kI 1),(.bool false),(.func 100 [] [])]),3),((kU 5),(.agg [(.str [116,111,103,101,116,104,101,114]),(kU 103),(.bool true),(kU 0),(.bool false),(kI 0),(.bool false),(.func 101 [] [])]),4),((kU 6),(.agg [(.str [97,116]),(kU 103),(.bool false),(kU 116),(.bool false),(kI 0),(.bool false),(.func 102 [] [])]),5),((kU 7),(.agg [(.str [115,101,97,116]),(kU 103),(.bool false),(kU 116),(.bool true),(kI 0),(.bool true),(.func 103 [] [])]),6),((kU 8),(.agg [(.str [97,108,116,101,114,110,97,116,101]),(kU 0),(.bool false),(kU 101),(.bool false),(kI 0),(.bool false),(.func 104 [] [])]),7),((kU 9),(.agg [(.str [104,111,115,116]),(kU 0),(.bool false),(kU 101),(.bool false),(kI 0),(.bool false),(.func 105 [] [])]),8),((kU 10),(.agg [(.str [114,101,97,99,104]),(kU 101),(.bool false),(kU 0),(.bool false),(kI 0),(.bool false),(.func 106 [] [])]),9),((kU 11),(.agg [(.str [115,112,101,97,107]),(kU 0),(.bool false),(kU 101),(.bool false),(kI 0),(.bool false),(.func 107 [] [])]),10),((kU 12),(.agg [(.str [112,101,97,99,101]),(kU 0),(.bool false),(kU 101),(.bool false),(kI 0),(.bool false),(.func 108 [] [])]),11),((kU 13),(.agg [(.str [99,111,109,112,97,110,121]),(kU 0),(.bool false),(kU 101),(.bool false),(kI 0),(.bool false),(.func 109 [] [])]),12),((kU 14),(.agg [(.str [104,111,110,111,117,114]),(kU 0),(.bool false),(kU 101),(.bool false),(kI 0),(.bool false),(.func 110 [] [])]),13),((kU 15),(.agg [(.str [102,105,108,108]),(kU 0),(.bool false),(kU 101),(.bool true),(kI 0),(.bool false),(.func 111 [] [])]),14),((kU 16),(.agg [(.str [108,105,109,105,116]),(kU 0),(.bool false),(kU 101),(.bool true),(kI 0),(.bool false),(.func 112 [] [])]),15),((kU 17),(.agg [(.str [107,105,116,99,104,101,110]),(kU 100),(.bool false),(kU 116),(.bool false),(kI 0),(.bool false),(.func 113 [] [])]),16),((kU 18),(.agg [(.str [109,105,120]),(kU 0),(.bool false),(kU 101),(.bool false),(kI 0),(.bool false),(.func 114 [] [])]),17)] 18)),
   ((key 5682),(.cells [(kU 14),(kI 0),(.str []),(.str []),(.str [114]),(kI 0),(kU 11),(kI 0),(.str []),(.str []),(.str [114]),(kI 0),(kU 9),(kI 1),(.str []),(.str []),(.str []),(kI 0),(kU 15),(kI 10),(.str []),(.str []),(.str [119]),(kI 2),(kU 15),(kI 100),(.str []),(.str []),(.str []),(kI 4)] 0)),
   ((key 5680),(.cells [(kI 0),(kI 1),(kI 1),(kI 2)] 0)),
   ((key 5678),(.cells [(.str [97,110,110,97]),(.str [98,111,114,105,115]),(kU 2)] 0)),
   ((key 5676),(.cells [(.str [108,97,116,105,110])] 0)),
   ((key 5674),(.cells [(.str [108,97,116,105,110])] 0)),
   ((key 5672),(.cells [(.str [108,97,116,105,110])] 0)),
   ((key 5670),(.cells [(.str [97,110,110,97]),(.str []),(.str []),(kI 0),(kI 1),(.str []),(.bool true),(.bool false),(kN 5672 1 1),(.str [98,111,114,105,115]),(.str []),(.str []),(kI 0),(kI 1),(.str []),(.bool false),(.bool false),(kN 5674 1 1),(.str [99,97,114,108]),(.str []),(.str []),(kI 0),(kI 2),(.str []),(.bool false),(.bool true),(kN 5676 1 1),(.str [100,111,114,97]),(.str []),(.str []),(kI 0),(kI 0),(.str []),(.bool false),(.bool false),.af] 0)),
   ((key 5668),(.cells [(kI 1)] 0)),
   ((key 5666),(.cells [(.str [114]),(kU 1),(kI 6),(kI 0),(kN 5668 1 1),(kI 0),(kI 0),(.str [119]),(kU 4),(kI 2),(kI 0),.af,(kI 0),(kI 0)] 0)),
   ((key 5684),(.cells [(kN 5666 2 7),(kN 5670 4 9),(kN 5678 1 3),(kN 5680 4 1),(kN 5682 5 6),(.map (key 5683)),(kN 9134 8 1),(kN 9170 8 1),(kN 9191 8 1),(kN 9281 8 1),(kN 9369 8 1),(kN 9506 8 1),(kN 9894 4 1),(kN 9896 4 1)] 0))]⟩
theorem anO:Xg Uf akK gg 100000 60 19=true:=by kernel_rfl
theorem amW:Xf Uf.L0 Uf.L1=true:=by kernel_rfl
end
end Go.Proofs.YtngcejgciomphaaGreatDoor
namespace Go.Proofs
section
set_option maxRecDepth 1000000
open Go Go.RowKit Go.Shelf Go.Ai Go.Proofs.YtngcejgciomphaaGreatDoor
def ax.AT(t:List Nat):ByteArray:=⟨(t.map UInt8.ofNat).toArray⟩
theorem ax.Bh{t:List Nat}{bs:ByteArray}(h:bs.data.toList.map UInt8.toNat=t):bs=ax.AT t:=by
 unfold ax.AT;rw[agW h]
structure ax.RR where
 k:Nat
 wt:Int
 a:ByteArray
 b:ByteArray
 t:ByteArray
 n:Int
def ax.RR.val(r:ax.RR):Value:= .agg #[.int .u8 r.k,.int .i64 r.wt,.string r.a,.string r.b,.string r.t,.int .i64 r.n]
def ax.valOf:Int ⊕ ax.RR->Value
 |.inl e=>.tuple #[.agg #[.int .u8 0,.int .i64 0,.string ⟨#[]⟩,.string ⟨#[]⟩,.string ⟨#[]⟩,.int .i64 0],.int .i64 e]
 |.inr r=>.tuple #[r.val,.int .i64 0]
def ax.dec:AV->Option (Int ⊕ ax.RR)
 |  .tuple [.agg [.int .u8 (.ofNat k),.int .i64 wt,.str a,.str b,.str t,.int .i64 n],.int .i64 (.ofNat e)]=>match e with
    |0=>some (.inr ⟨k,wt,ax.AT a,ax.AT b,ax.AT t,n⟩)
    |e+1=>match k,wt,a,b,t,n,Nat.blt e 100 with
     |0,.ofNat 0,[],[],[],.ofNat 0,true=>some (.inl ((e+1:Nat):Int))
     |_,_,_,_,_,_,_=>none
 |_=>none
theorem ax.al7{v:AV}{r:Int ⊕ ax.RR}(h:ax.dec v=some r){ρ:Pos->Go.Ai.Loc}{n:Nat}{C:Cells}{y:Value}(hv:aC ρ n C v y):y=ax.valOf r:=by
 unfold ax.dec at h;split at h<;>first|(cases h;done)|skip
 obtain⟨cs,rfl,hw⟩:=hv.Rm;obtain⟨x,xs,h1,hx,hw⟩:=hw.cons_inv;obtain⟨y,ys,rfl,hy,hw⟩:=hw.cons_inv;have:=hw.j5;subst this;have gM:cs= #[x,y]:=by apply Zl7;simpa using h1
 subst gM;obtain⟨ds,rfl,hz⟩:=hx.Eg;obtain⟨x1,xs,g1,hx1,hz⟩:=hz.cons_inv;obtain⟨x2,xs,rfl,Zz,hz⟩:=hz.cons_inv;obtain⟨x3,xs,rfl,hx3,hz⟩:=hz.cons_inv;obtain⟨x4,xs,rfl,hx4,hz⟩:=hz.cons_inv;obtain⟨x5,xs,rfl,hx5,hz⟩:=hz.cons_inv;obtain⟨x6,xs,rfl,hx6,hz⟩:=hz.cons_inv;have:=hz.j5;subst this;have Mw:ds= #[x1,x2,x3,x4,x5,x6]:=by apply Zl7;simpa using g1
 subst Mw;have:=hx1.gX;subst this;have:=Zz.gX;subst this;obtain⟨a,rfl,ha⟩:=hx3.eR;obtain⟨b,rfl,hb⟩:=hx4.eR;obtain⟨t,rfl,ht⟩:=hx5.eR;have:=hx6.gX;subst this;have:=hy.gX;subst this;split at h
 .cases h;rw[<-ax.Bh ha, <-ax.Bh hb, <-ax.Bh ht];rfl
 . (split at h<;>first|(cases h;done)|skip);cases h;rw[ax.Bh ha,ax.Bh hb,ax.Bh ht];rfl
theorem ax.al8{v:AV}{e:Int}(h:ax.dec v=some (.inl e)):1<=e/\e<=100:=by
 unfold ax.dec at h;split at h<;>first|(cases h;done)|skip
 split at h<;>first|(cases h;done)|skip
 split at h<;>first|(cases h;done)|skip
 rename_i aW;cases h;have:=Za9 aW;omega
noncomputable def ax.akc:eE:=uC [(138,abh Tryz.prog tt (uC []) gg 100000 60 Tryz.f138),(247,idxS),(270,afy)]
@[irreducible] noncomputable def ax.abm(x:ByteArray):Option (Int ⊕ ax.RR):=J6 none ax.akc gg 100000 60 71 [.str (x.data.toList.map UInt8.toNat)] { heap:= .e,next:= .h } λv _=>ax.dec v
noncomputable def ax.okL(x:ByteArray):Bool:=(ax.abm x).isSome
@[irreducible] noncomputable def ax.vq(x:ByteArray):Int ⊕ ax.RR:=(ax.abm x).getD (.inl 1)
def ax.akL(x:ByteArray)(w:World)(e:Ending)(w':World):Prop:=e= .returned (ax.valOf (ax.vq x))/\Below w.heap.size w w'
theorem ax.akd{x:ByteArray}{e:Int}(hq:ax.okL x=true)(h:ax.vq x= .inl e):1<=e/\e<=100:=by
 unfold ax.vq at h;obtain⟨r,hr⟩:=Zm3.1 hq;rw[hr]at h;unfold ax.abm at hr;rw[En none ax.akc gg 100000 60]at hr;unfold sL at hr;split at hr<;>first|(cases hr;done)|skip
 subst h;exact ax.al8 hr
theorem ax.line(x:ByteArray)(hq:ax.okL x=true)(w:World):Calls Tryz.prog 71 #[.string x] w (ax.akL x w):=by
 unfold ax.akL ax.vq;obtain⟨r,hr⟩:=Zm3.1 hq;rw[hr];unfold ax.abm at hr;rw[En none ax.akc gg 100000 60]at hr;unfold sL at hr;split at hr<;>first|(cases hr;done)|skip
 rename_i y hy;obtain⟨v,bQ⟩:=y;have hm:Tryz.prog.follows .mixedOrders=true:=by kernel_rfl
 have h0:=xU (P:=Tryz.prog) (C:=λ_=>none) (l:=[]) (λx hx=>by simp at hx);have ho:=xU (P:=Tryz.prog) (C:=λ_=>none) (l:=[(138,abh Tryz.prog tt (uC []) gg 100000 60 Tryz.f138),(247,idxS),(270,afy)]) (λx hx=>by
  simp only[Zb4,Zc8,Zg9]at hx;rcases hx with rfl|rfl|rfl
  .exact aiR hm PE h0.1 h0.2 PG Tryz.func138 (by kernel_rfl)
  .exact aiP (fn:=Tryz.f247) Tryz.func247 (by kernel_rfl) (by kernel_rfl) (by kernel_rfl) (by kernel_rfl)
  .exact aiQ (fn:=Tryz.f270) Tryz.func270 (by kernel_rfl) (by kernel_rfl) (by kernel_rfl) (by kernel_rfl))
 have hs:=CD hm PE ho.1 ho.2 PG 100000 60 (λ_=>⟨0,0,0⟩) { heap:= .e,next:= .h } w 71 _ v bQ [.string x] hy (E0 (λ_ _ h=>by cases h) (λ_ _ h=>by cases h)) (aI.nil.cons (.str _ x rfl));have dy:(callFunc 71 ([Value.string x]:List Value).toArray).run Tryz.prog w= .ok (.enter 71 #[.string x]) w:=enters_of Tryz.func71 (by kernel_rfl) rfl _ _;rw[dy]at hs;refine Calls.mono hs λe w' he=> ?_
 cases e with
 |returned z=>
  obtain⟨ρ',h1,_,_,_,hE⟩:=he;exact⟨congrArg Ending.returned (ax.al7 hr h1),hE.os,hE.tape,hE.output,hE.size,λk hk=>hE.block k hk λb x hb=>by rw[T.eV]at hb;cases hb⟩
 |panicked c=>exact he.elim
 |outgrown=>exact he.elim
end
end Go.Proofs
namespace Go.ax
section
open Go Go.RowKit
def Is(w:World)(n:Nat)(T:TypeId)(cs:Array Value):Prop:=w.heap[n]? =some (.cells cs T (0,0))
section
variable{w w':World}{n m o:Nat}{T:TypeId}{cs:Array Value}{v:Value}
theorem Is.cell(h:Is w n T cs)(o:Nat):w.cell? ⟨n,o,none⟩=cs[o]? :=by unfold Is at h;simp[World.cell?,h]
theorem Is.frozen(h:Is w n T cs)(o:Nat):w.frozen? ⟨n,o,none⟩=false:=by unfold Is at h;simp[World.frozen?,h]
theorem Is.lt(h:Is w n T cs):n<w.heap.size:=(Zc4.1 h).1
theorem Is.new(w:World)(T:TypeId)(cs:Array Value):Is (w.alloc (.cells cs T)) w.heap.size T cs:=by show(w.heap.push _)[w.heap.size]? =_;simp
theorem Is.alloc(h:Is w n T cs)(x:Obj):Is (w.alloc x) n T cs:=by
 have:=h.lt;unfold Is at h ⊢;rw[<-h];show(w.heap.push _)[n]? =_;simp[Zp6,Nat.ne_of_lt this]
theorem Is.drew(h:Is w n T cs):Is w.drew n T cs:=h
theorem Is.set(h:Is w n T cs)(o:Nat)(v:Value):Is (w.setCell ⟨n,o,none⟩ v) n T (cs.setIfInBounds o v):=by
 have:=h.lt;unfold Is at h ⊢;have hm:=Zc4.1 h;simp[World.setCell,Zj2,h]
theorem Is.other(h:Is w n T cs)(cA:m≠n)(o:Nat)(v:Value):Is (w.setCell ⟨m,o,none⟩ v) n T cs:=by
 unfold Is at h ⊢;rw[<-h];simp[World.setCell,Zj2,cA]
theorem Is.below{B:Nat}(h:Is w n T cs)(hb:Below B w w')(hn:n<B):Is w' n T cs:=by unfold Is at h ⊢; rw[hb.block n hn];exact h
theorem Is.of_heap(h:Is w n T cs)(e:w'.heap[n]? =w.heap[n]?):Is w' n T cs:=by unfold Is at h ⊢; rw[e];exact h
theorem Is.cast{cs':Array Value}(h:Is w n T cs)(e:cs=cs'):Is w n T cs':=e ▸h
theorem Is.one{a:Value}(h:Is w n T #[a]):w.cell? ⟨n,0,none⟩=some a:=h.cell 0
theorem Sf(e:w'.heap[n]? =w.heap[n]?)(o:Nat):w'.cell? ⟨n,o,none⟩=w.cell? ⟨n,o,none⟩:=by simp[World.cell?,e]
theorem heap_alloc(w:World)(x:Obj)(hn:n<w.heap.size):(w.alloc x).heap[n]? =w.heap[n]? :=by show(w.heap.push _)[n]? =_;simp[Zp6,Nat.ne_of_lt hn]
theorem aeb(cA:m≠n)(o:Nat)(v:Value):(w.setCell ⟨m,o,none⟩ v).heap[n]? =w.heap[n]? :=by simp[World.setCell,Zj2,cA]
end
end
end Go.ax
namespace Go.Proofs
section
open Go.Shelf
def Tryz.aec:Go.Shelf.Ren:=⟨λ|137=>134|217=>196|266=>247|n=>n,λ|9=>9|5=>5|3=>3|n=>n,λ|n=>n⟩
theorem Tryz.al9:Go.Proofs.Lays.n137 Tryz.prog Tryz.aec:={
 mixed:=by kernel_rfl
 f137:=Tryz.func134.trans (congrArg some (by kernel_rfl))
 f217:=Tryz.func196.trans (congrArg some (by kernel_rfl))
 f266:=Tryz.func247.trans (congrArg some (by kernel_rfl))
 t3:=Tryz.underlying3
 a3:=Tryz.isAgg3
 z3:=Tryz.sizeOf3
 v3:=Tryz.zeroValue3
 t5:=Tryz.underlying5
 a5:=Tryz.isAgg5
 z5:=Tryz.sizeOf5
 v5:=Tryz.zeroValue5
 t9:=Tryz.underlying9
 a9:=Tryz.isAgg9
 z9:=Tryz.sizeOf9
 v9:=Tryz.zeroValue9 }
open Go.RowKit in
theorem Tryz.strings_IndexByte(s:ByteArray)(c:Int)(w:World):
 Calls Tryz.prog 134 #[.string s,.int .u8 c] w λe w'=>e= .returned (.int .i64 (Lib.indexByte s.data.toList c.toNat.toUInt8))/\w'=w:=Any.strings_IndexByte Tryz.al9 s c w
open Go.RowKit Go.Lib in
def Tryz.adv:Go.Shelf.Ren:=⟨λ|219=>271|217=>196|225=>275|224=>276|267=>277|266=>247|314=>278|n=>n,λ|9=>9|3=>3|4=>4|5=>5|46=>132|146=>237|51=>198|n=>n,λ|1=>0|n=>n⟩
theorem Tryz.ake:Go.Proofs.LaysM.n219 Tryz.prog Tryz.adv:={
 mixed:=by kernel_rfl
 f217:=Tryz.func196.trans (congrArg some (by kernel_rfl))
 f219:=Tryz.func271.trans (congrArg some (by kernel_rfl))
 f224:=Tryz.func276.trans (congrArg some (by kernel_rfl))
 f225:=Tryz.func275.trans (congrArg some (by kernel_rfl))
 f266:=Tryz.func247.trans (congrArg some (by kernel_rfl))
 f267:=Tryz.func277.trans (congrArg some (by kernel_rfl))
 f314:=Tryz.func278.trans (congrArg some (by kernel_rfl))
 t3:=Tryz.underlying3
 a3:=Tryz.isAgg3
 z3:=Tryz.sizeOf3
 v3:=Tryz.zeroValue3
 t4:=Tryz.underlying4
 a4:=Tryz.isAgg4
 z4:=Tryz.sizeOf4
 v4:=Tryz.zeroValue4
 t5:=Tryz.underlying5
 a5:=Tryz.isAgg5
 z5:=Tryz.sizeOf5
 v5:=Tryz.zeroValue5
 t9:=Tryz.underlying9
 a9:=Tryz.isAgg9
 z9:=Tryz.sizeOf9
 v9:=Tryz.zeroValue9
 t46:=Tryz.underlying132
 a46:=Tryz.isAgg132
 z46:=Tryz.sizeOf132
 v46:=Tryz.zeroValue132
 t51:=Tryz.underlying198
 a51:=Tryz.isAgg198
 z51:=Tryz.sizeOf198
 v51:=Tryz.zeroValue198
 t146:=Tryz.underlying237
 a146:=Tryz.isAgg237
 z146:=Tryz.sizeOf237
 v146:=Tryz.zeroValue237
 g1:=by kernel_rfl
 i3:=by kernel_rfl
 i4:=by kernel_rfl
 i5:=by kernel_rfl
 i9:=by kernel_rfl
 i46:=by kernel_rfl
 i51:=by kernel_rfl
 i146:=by kernel_rfl
 m1:=by kernel_rfl
 s1_3:=λw h=>Go.Proofs.cell_of_shapedOpen_int (zero:= #[.int .i64 0]) (t:=3) h (Zi1 (by kernel_rfl)) (by kernel_rfl) rfl (by kernel_rfl) (by kernel_rfl) Tryz.underlying3 }
end
end Go.Proofs
namespace Go.ax
section
open Go Go.RowKit
variable{F:Fence}{n:Nat}{P:Program}
structure QJ(b:Nat)(W W':World):Prop where
 cell:W'.cell? ⟨b,0,none⟩=W.cell? ⟨b,0,none⟩
 dH:W'.frozen? ⟨b,0,none⟩=W.frozen? ⟨b,0,none⟩
theorem QJ.trans{b:Nat}{A B C:World}(h:QJ b A B)(k:QJ b B C):QJ b A C:=⟨k.cell.trans h.cell,k.dH.trans h.dH⟩
theorem QJ.putObj{b l:Nat}{W:World}(o:Obj)(h:b≠l):QJ b W (W.putObj l o):=by
 have:(W.putObj l o).heap[b]? =W.heap[b]? :=World.putObj_heap_other h;exact⟨by simp[World.cell?,this],by simp[World.frozen?,this]⟩
def DO(b:Nat){β:Type}(J:β->World->Prop):Prop:=∀s W v,J s W->J s (W.setCell ⟨b,0,none⟩ v)
def SeqC{α:Type}(F:Fence)(n:Nat)(P:Program)(g b:Nat)(lb:Array Value)(encs:α->Array Value)(xs:List α)(w:World):Prop:=
 ∀  (l:Nat)(J Jx:List α->World->Prop)(W:World),Below w.heap.size w W->AbidesFrom W.heap.size J->AbidesFrom W.heap.size Jx->DO b J->DO b Jx->
    (∀pre x W1,J pre W1->pre++[x] <+: xs->YieldAt F (n - 1) P l (encs x) W1 λe W'=>
     (e= .returned (.bool true)/\J (pre++[x]) W'/\QJ b W1 W')\/(e= .returned (.bool false)/\Jx (pre++[x]) W'))->
    J [] W->
    CallsIn F n P g (#[.func (.yield l) #[] #[]]++lb) W λe W'=>(∃v,e= .returned v)/\(J xs W'\/∃pre,pre <+: xs/\Jx pre W')
def ah5{α:Type}(b B:Nat)(I:List α->World->Prop)(Ix:List α->World->Prop)(xs:List α)(W:World):Exit->Act->World->Prop
 |.normal,_,W'=>KeepsFrom B W W'/\QJ b W W'/\I xs W'
 |.ret,_,W'=>KeepsFrom B W W'/\Ix xs W'
 |_,_,_=>False
theorem aed{α:Type}{g:Operand}{ps:Array Tmp}{assign body:Code}{Q:Exit->Act->World->Prop}{a:Act}{w:World}
   (UP:F.round=none) (h1:1<=n) {gf b:Nat} {lb:Array Value} (hg:a.eval g= .func (.func gf) #[] lb) (hFg:F.fn gf) (eg:∀args w,(callFunc gf args).run P w= .ok (.enter gf args) w)
   {encs:α->Array Value} {xs:List α} (hseq:SeqC F (n - 1) P gf b lb encs xs w) (hbw:b<w.heap.size) (hps:∀x,(encs x).size=ps.size)
   (I:List α->World->Prop) (Ix:List α->World->Prop) (hI:OwnFrom w.heap.size I) (hIx:OwnFrom w.heap.size Ix) (hIs:DO b I) (hIxs:DO b Ix) (h0:I [] w) (a₁:α->Act)
   (ama:∀(l:Nat)(x:α)(W:World)(K:Act->World->Prop),K (a₁ x) W->
     assign.wpIn (F.inRound l) (n - 1 - 1) P (Exit.then K (λ_ _ _=>False)) { tmps:=(ps.zip (encs x)).foldl (λt (p,v)=>t.setIfInBounds p v) a.tmps,defers:=[] } W)
   (afz:∀(l:Nat)(pre:List α)(x:α)(W:World),I pre W->pre++[x] <+: xs->w.heap.size<=W.heap.size->body.wpIn (F.inRound l) (n - 1 - 1) P (ah5 b w.heap.size I Ix (pre++[x]) W) (a₁ x) W)
   (afx:∀(D:Nat)(W:World),w.heap.size<=D->I xs W->W.heap[D]? =some (.deferred (some []))->Q .normal { a with defers:={ target:= .collected D,args:= #[] }::a.defers } W)
   (anP:∀(D:Nat)(pre:List α)(W:World),w.heap.size<=D->pre <+: xs->Ix pre W->W.heap[D]? =some (.deferred (some []))->Code.ret.wpIn F n P Q { a with defers:={ target:= .collected D,args:= #[] }::a.defers } W):
   (Code.rangeFunc g ps assign body).wpIn F n P Q a w:=by
 refine wpIn_rangeFunc λfn EY=> ?_
 rw[UP]
 let Wz:LoopState->Option Code->Loop:=λst pe=>{ state:=st,pending:=pe,fn,tmps:=a.tmps,params:=ps,assign,body,defers:=w.heap.size }
 let L:Nat:=w.heap.size+1
 let W1:World:=(w.alloc (.deferred (some []))).alloc (.loop (Wz .ready none))
 have hL1:W1.heap[L]? =some (.loop (Wz .ready none)):=by have:=World.alloc_heap_new (w.alloc (.deferred (some []))) (.loop (Wz .ready none));rwa [World.size_alloc]at this
 have hK1:W1.heap[w.heap.size]? =some (.deferred (some [])):=(Below.heap_alloc _ _ _ (by simp)).trans (World.alloc_heap_new w _);have hWs:W1.heap.size=w.heap.size+1+1:=by show((w.alloc _).alloc _).heap.size=_;simp
 have ji:Below w.heap.size w W1:=((Below.refl _ w).alloc (Za6 _) _).alloc (by simp) _
 let J:List α->World->Prop:=λpre W=>I pre W/\W.heap[L]? =some (.loop (Wz .ready none))/\W.heap[w.heap.size]? =some (.deferred (some []))/\w.heap.size<=W.heap.size
 let Jx:List α->World->Prop:=λpre W=>Ix pre W/\W.heap[L]? =some (.loop (Wz .done (some .ret)))/\W.heap[w.heap.size]? =some (.deferred (some []))/\w.heap.size<=W.heap.size
 have up:∀{A:World}{row:Option Nat},(∀r,row=some r->W1.heap.size<=r/\∃o:Obj,A.heap[r]? =some o/\o.isWalk=true)->∀r,row=some r->w.heap.size<=r/\∃o:Obj,A.heap[r]? =some o/\o.isCells=false:=
   λhr r e=>by obtain⟨q,o,ho,hw⟩:=hr r e;exact⟨by omega,o,ho,Obj.not_cells_of_walk hw⟩
 have hJ:AbidesFrom W1.heap.size J:=λs A B row hs Cs hr=>
   ⟨hI s A B row hs.1 Cs (up hr),(grownBy_keeps Cs (λr e=>(hr r e).2) hs.2.1 rfl).trans hs.2.1,(grownBy_keeps Cs (λr e=>(hr r e).2) hs.2.2.1 rfl).trans hs.2.2.1,Zb7 hs.2.2.2 Cs.size⟩
 have hJx:AbidesFrom W1.heap.size Jx:=λs A B row hs Cs hr=>
   ⟨hIx s A B row hs.1 Cs (up hr),(grownBy_keeps Cs (λr e=>(hr r e).2) hs.2.1 rfl).trans hs.2.1,(grownBy_keeps Cs (λr e=>(hr r e).2) hs.2.2.1 rfl).trans hs.2.2.1,Zb7 hs.2.2.2 Cs.size⟩
 have FH:∀(W:World)(v:Value)(k:Nat),w.heap.size<=k->(W.setCell ⟨b,0,none⟩ v).heap[k]? =W.heap[k]? :=λW v k hk=>Below.heap_setCell W _ v k (by show k≠b;omega)
 have hJs:DO b J:=λs W v hs=>⟨hIs s W v hs.1,(FH _ _ _ (by show w.heap.size<=w.heap.size+1;omega)).trans hs.2.1,(FH _ _ _ (Za6 _)).trans hs.2.2.1,by rw[World.size_setCell];exact hs.2.2.2⟩
 have hJxs:DO b Jx:=λs W v hs=>⟨hIxs s W v hs.1,(FH _ _ _ (by show w.heap.size<=w.heap.size+1;omega)).trans hs.2.1,(FH _ _ _ (Za6 _)).trans hs.2.2.1,by rw[World.size_setCell];exact hs.2.2.2⟩
 refine⟨L,[{ target:= .collected w.heap.size,args:= #[] }],W1,{ target:= .fn (.func gf) lb,args:= #[.func (.yield L) #[] #[]] },W1,gf, #[.func (.yield L) #[] #[]]++lb,W1,run_enterLoop_outer _ _ _ _ _,?_,?_,?_,λ_=>h1,?_⟩
 .simp only[resolve,hg];simp[go_sem]
 .intro f' hf';simp[Target.leads]at hf';subst hf';exact hFg
 .simp[invoke,go_sem,eg]
 refine(hseq L J Jx W1 ji hJ hJx hJs hJxs ?_ ⟨hI.alloc _ (hI.alloc _ h0),hL1,hK1,by omega⟩).mono ?_
 ·
   rintro pre x W ⟨hi,hl,hk,fC⟩ WA;have aW:L<W.heap.size:=(Zc4.1 hl).1;refine⟨fn,_,assign,body,run_yield (P:=P) (args:=encs x) hl (hps x),roundIn_of_wpIn EY (ama _ x W _ ⟨_,run_beginRound hl rfl,?_⟩)⟩;have hneL:b≠L:=by show b≠w.heap.size+1;omega
   let W2:World:=W.putObj L (.loop { Wz .ready none with state:= .busy })
   have gx:W2.heap[L]? =some (.loop { Wz .ready none with state:= .busy }):=World.putObj_heap_same aW;have rU:W2.heap[w.heap.size]? =some (.deferred (some [])):=(World.putObj_heap_other (by show w.heap.size≠w.heap.size+1;omega)).trans hk;have akf:w.heap.size<=W2.heap.size:=Zb7 fC (grownBy_putObj' W L _).size;refine wpIn_mono (afz L pre x W2 (hI.putObj _ hi (by show w.heap.size<=w.heap.size+1;omega) hl rfl) WA akf) ?_;rintro e a3 W3 hp;cases e with
   | normal=>
     obtain⟨Fk,hkp3,XS⟩:=hp;have hl3:=Fk.same _ _ (by show w.heap.size<=w.heap.size+1;omega) gx rfl;have akg:=(Zc4.1 hl3).1;exact⟨_,_,run_endRound (P:=P) none hl3,.inl ⟨rfl,⟨hI.putObj _ XS (by show w.heap.size<=w.heap.size+1;omega) hl3 rfl,World.putObj_heap_same akg,(World.putObj_heap_other (by show w.heap.size≠w.heap.size+1;omega)).trans (Fk.same _ _ (Za6 _) rU rfl),Zb7 (Zb7 akf Fk.size) (grownBy_putObj' W3 L _).size⟩,
        ((QJ.putObj _ hneL).trans hkp3).trans (QJ.putObj _ hneL)⟩⟩
   | ret=>
     obtain⟨Fk,XS⟩:=hp;have hl3:=Fk.same _ _ (by show w.heap.size<=w.heap.size+1;omega) gx rfl;have akg:=(Zc4.1 hl3).1;exact⟨_,_,run_endRound (P:=P) (some .ret) hl3,.inr ⟨rfl,hIx.putObj _ XS (by show w.heap.size<=w.heap.size+1;omega) hl3 rfl,World.putObj_heap_same akg,(World.putObj_heap_other (by show w.heap.size≠w.heap.size+1;omega)).trans (Fk.same _ _ (Za6 _) rU rfl),Zb7 (Zb7 akf Fk.size) (grownBy_putObj' W3 L _).size⟩⟩
   |exit id=>exact hp.elim
   |goto t=>exact hp.elim
   |panic ch=>exact hp.elim
   |outgrown=>exact hp.elim
 ·
   rintro e W2 ⟨⟨v,rfl⟩,(⟨hi,hl,hk,_⟩|⟨pre,WA,hi,hl,hk,_⟩)⟩
   .exact⟨none,_,run_endLoop (P:=P) hl (by show LoopState.ready≠LoopState.busy;simp),afx _ _ (Za6 _) (hI.putObj _ hi (by show w.heap.size<=w.heap.size+1;omega) hl rfl) ((World.putObj_heap_other (by show w.heap.size≠w.heap.size+1;omega)).trans hk)⟩
   .exact⟨some .ret,_,run_endLoop (P:=P) hl (by show LoopState.done≠LoopState.busy;simp),anP _ pre _ (Za6 _) WA (hIx.putObj _ hi (by show w.heap.size<=w.heap.size+1;omega) hl rfl) ((World.putObj_heap_other (by show w.heap.size≠w.heap.size+1;omega)).trans hk)⟩
end
end Go.ax
section
namespace Go.ax
open Go
def wK(s:ByteArray):Int:=Lib.indexByte s.data.toList 10
def vN:Nat->ByteArray->List ByteArray
 |0,_=>[]
 |f+1,s=>if s.size=0 then []else if wK s<0 then [s]else s.extract 0 ((wK s).toNat+1)::vN f (s.extract ((wK s).toNat+1) s.size)
def fL(s:ByteArray):List ByteArray:=vN s.size s
theorem amb(s:ByteArray): -1<=wK s:=Lib.indexByte_ge _ _
theorem amc(s:ByteArray)(h:0<=wK s):(wK s).toNat<s.size:=by
 have e:wK s=((wK s).toNat:Int):=by omega
 have:=(Lib.indexByte_some (l:=s.data.toList) (c:=10) (o:=(wK s).toNat) e).1;have:=(Za4.1 this).1;simpa using this
theorem VB:∀(f g:Nat)(s:ByteArray),s.size<=f->s.size<=g->vN f s=vN g s
 |0,0,_,_,_=>rfl
 |0,g+1,s,h,_=>by
  have:s.size=0:=by omega
  simp[vN,this]
 |f+1,0,s,_,h=>by
  have:s.size=0:=by omega
  simp[vN,this]
 |f +1,g+1,s,h1,h2=>by
  unfold vN;split
  .rfl
  . split
    .rfl
    .rw[VB f g _ (by simp;omega) (by simp;omega)]
theorem Yn{s:ByteArray}(h:s.size=0):fL s=[]:=by unfold fL;rw[h];rfl
theorem aee{s:ByteArray}(h:s.size≠0)(hi:wK s<0):fL s=[s]:=by
 unfold fL;obtain⟨k,hk⟩:∃k,s.size=k+1:=⟨s.size - 1,by omega⟩
 rw[hk];simp only[vN];rw[Zb2 h,Zb5 hi]
theorem agq{s:ByteArray}(h:s.size≠0)(hi:0<=wK s):fL s=s.extract 0 ((wK s).toNat+1)::fL (s.extract ((wK s).toNat+1) s.size):=by
 unfold fL;obtain⟨k,hk⟩:∃k,s.size=k+1:=⟨s.size - 1,by omega⟩
 conv=>lhs;rw[hk]
 simp only[vN];rw[Zb2 h,Zb2 (by omega)];rw[VB k _ _ (by simp;omega) (Za6 _)]
theorem VC:∀(f:Nat)(s x:ByteArray),x∈vN f s->x.size<=s.size
 |0,_,_,h=>by simp[vN]at h
 |f +   1,s,x,h=>by
  unfold vN at h;split at h
  .simp at h
  . split at h
    .   simp at h;rw[h];exact Za6 _
    .   rcases Zb4.1 h with rfl|h
        .simp;omega
        .have:=VC f _ x h;simp at this;omega
theorem aef(s x:ByteArray)(h:x∈fL s):x.size<=s.size:=VC _ s x h
def adw(w:World)(b:Nat):Nat:=match w.cell? ⟨b,0,none⟩with
 |some (.string r)=>r.size
 |_=>0
theorem Ld{w:World}{b:Nat}{r:ByteArray}(h:w.cell? ⟨b,0,none⟩=some (.string r)):adw w b=r.size:=by unfold adw;rw[h]
end Go.ax
namespace Go.Proofs
open Go.RowKit Go.Shelf Go.ax
attribute [local go_sem] Oper.semAt_some
theorem ax.grown_drewN(w:World)(k:Nat):w.grownBy (w.drewN k) none:=⟨rfl,rfl,rfl,Za6 _,λ_ _ _=>rfl⟩
theorem ax.akM(r:ByteArray)(w:World):Calls Tryz.prog 134 #[.string r,.int .u8 10] w λe w'=>e= .returned (.int .i64 (wK r))/\w=w':=(Tryz.strings_IndexByte r 10 w).mono λ_ _ h=>⟨h.1,h.2.symm⟩
theorem ax.amd(n:Nat)(l b:Nat)(s:ByteArray)(hs:s.size<=65536)(J Jx:List ByteArray->World->Prop)(W:World)(B0:Nat)(hJ:AbidesFrom B0 J)(hJx:AbidesFrom B0 Jx)(hJs:DO b J)
  (hY:∀pre x W1,J pre W1->pre++[x] <+: fL s->YieldAt Fence.wide (n - 1) Tryz.prog l #[.string x] W1 λe W'=>
    (e= .returned (.bool true)/\J (pre++[x]) W'/\QJ b W1 W')\/(e= .returned (.bool false)/\Jx (pre++[x]) W'))
  (hn:1<=n) (hb:W.cell? ⟨b,0,none⟩=some (.string s)) (hf:W.frozen? ⟨b,0,none⟩=false) (h0:J [] W):
  CallsIn Fence.wide n Tryz.prog 133 #[.func (.yield l) #[] #[],.pointer (some ⟨b,0,none⟩)] W λe W'=>(∃v,e= .returned v)/\(J (fL s) W'\/∃pre,pre <+: fL s/\Jx pre W'):=by
 have HY:=Lib.hid hY;clear hY;refine callsIn_of_wp Tryz.func133 rfl trivial ?_ rfl;simp only[Tryz.ntmps133,Zn0,Zc2,Zi6,Nat.reduceAdd,Nat.reduceSub,Array.replicate_succ,Array.replicate_zero,List.push_toArray,List.append_toArray,Zg3,Ze3]
 gi_wp2
 gi_loopw [3] (λ_ wr=>∃(pre:List ByteArray) (r:ByteArray),wr.cell? ⟨b,0,none⟩=some (.string r)/\wr.frozen? ⟨b,0,none⟩=false/\fL s=pre++fL r/\r.size<=s.size/\J pre wr) (λ_ wr=>adw wr b)
 case atStart=>exact⟨[],s,hb,hf,rfl,Za6 _,h0⟩
 case round=>
  obtain⟨pre,r,hc,PM,zc,ZG,hj⟩:=hrel;have HSP:=Lib.hid zc;have HJ0:=Lib.hid hj;clear zc hj;by_cases hr0:r.size=0
  . gi_wp2
    go_end0
    refine⟨⟨_,rfl⟩,.inl ?_⟩;rw[HSP.out,Yn hr0,Zd4];exact HJ0.out
  . have hr1:0<r.size:=(by omega);have hge:=amb r;by_cases hi:wK r<0
    .   have HL:=Lib.hid (aee hr0 hi);have hj1:=hJs _ _ (.string ⟨#[]⟩) HJ0.out;obtain⟨fn,tmps,assign,body,hy,hR⟩:=HY.out pre r _ hj1 (by rw[HSP.out,HL.out];exact List.prefix_refl _)
        gi_wp2_with (first|(refine⟨trivial,?_⟩;gi_at_call 134;refine(callsIn_wide.2 (ax.akM r _)).mono ?_;rintro e w' ⟨rfl,rfl⟩))
        refine hR.mono ?_;rintro e W3 (⟨rfl,hJ3,Fk⟩|⟨rfl,akh⟩)
        . have hc3:W3.cell? ⟨b,0,none⟩=some (.string ⟨#[]⟩):=Fk.cell.trans (World.cell?_setCell_same' _ _ _ (by rw[hc];rfl));have Xn:W3.frozen? ⟨b,0,none⟩=false:=Fk.dH.trans (by rw[World.frozen?_setCell];exact PM)
          gi_wp2
          go_roundw
          case rel=>exact⟨pre++[r],⟨#[]⟩,hc3,Xn,by rw[HSP.out,HL.out,Yn (s:=⟨#[]⟩) rfl,Zd4],Zj1 _,hJ3⟩
          case measure=>rw[Ld hc3,Ld hc];exact hr1
        . gi_wp2
          refine bodyPost_ret (results_none rfl _ _ _) rfl ?_;exact⟨⟨_,rfl⟩,.inr ⟨pre++[r],by rw[HSP.out,HL.out];exact List.prefix_refl _,akh⟩⟩
    .   have aW:=amc r (by omega);obtain⟨i,hie⟩:∃i:Nat,wK r=i:=⟨(wK r).toNat,by omega⟩
        have HH:=Lib.hid (agq hr0 (by omega:0<=wK r));have HIX:=ax.akM r;rw[hie]at HIX;have HI:=Lib.hid HIX;clear HIX;have fN:i<r.size:=(by omega);have HIE:=Lib.hid hie;clear hie hge hi aW
        gi_wp2_with (first|(refine⟨trivial,?_⟩;gi_at_call 134;refine(callsIn_wide.2 (HI.out _)).mono ?_;rintro e w' ⟨rfl,rfl⟩))
        gi_region
        have hj1:J pre (wr.setCell ⟨b,0,none⟩ (.string (r.extract (i+1) r.size))).drew:=hJ _ _ _ none (hJs _ _ (.string (r.extract (i+1) r.size)) HJ0.out) (ax.grown_drewN _ 1) (λ_ e=>by cases e);obtain⟨fn,tmps,assign,body,hy,hR⟩:=HY.out pre (r.extract 0 (i+1)) _ hj1 (by
          rw[HSP.out,HH.out,HIE.out];exact⟨fL (r.extract (i+1) r.size),by simp⟩)
        gi_wp2
        refine hR.mono ?_;rintro e W3 (⟨rfl,hJ3,Fk⟩|⟨rfl,akh⟩)
        . have hc3:W3.cell? ⟨b,0,none⟩=some (.string (r.extract (i+1) r.size)):=Fk.cell.trans (World.cell?_setCell_same' _ _ _ (by rw[hc];rfl));have Xn:W3.frozen? ⟨b,0,none⟩=false:=Fk.dH.trans (by show(wr.setCell _ _).frozen? _=false;rw[World.frozen?_setCell];exact PM)
          gi_wp2
          go_roundw
          case rel=>exact⟨pre++[r.extract 0 (i+1)],r.extract (i+1) r.size,hc3,Xn,by rw[HSP.out,HH.out,HIE.out];simp,by simp;omega,hJ3⟩
          case measure=>rw[Ld hc3,Ld hc];simp;omega
        . gi_wp2
          refine bodyPost_ret (results_none rfl _ _ _) rfl ?_;exact⟨⟨_,rfl⟩,.inr ⟨pre++[r.extract 0 (i+1)],by rw[HSP.out,HH.out,HIE.out];exact⟨fL (r.extract (i+1) r.size),by simp⟩,akh⟩⟩
end Go.Proofs
end
namespace Go.Proofs
section
open Go.RowKit Go.Shelf Go.ax
attribute [local go_sem] Oper.semAt_some
def ax.RR.cells(r:ax.RR):List Value:=[.int .u8 r.k,.int .i64 r.wt,.string r.a,.string r.b,.string r.t,.int .i64 r.n]
def ax.cellsOf(rs:List ax.RR):List Value:=rs.flatMap ax.RR.cells
theorem ax.adx(rs:List ax.RR)(r:ax.RR):ax.cellsOf (rs++[r])=ax.cellsOf rs++r.cells:=by simp[ax.cellsOf]
theorem ax.Zw(rs:List ax.RR):(ax.cellsOf rs).length=rs.length*6:=by
 induction rs with
 |nil=>rfl
 |cons r rs ih=>simp[ax.cellsOf]at ih ⊢; rw[ih];simp[ax.RR.cells];omega
noncomputable def ax.PJ:List ax.RR->List ByteArray->Int×Nat×List ax.RR
 |acc,[]=>(0,0,acc)
 |acc,x::xs=>match ax.vq x with
  |.inl e=>(e,acc.length,[])
  |.inr r=>if acc.length=64 then(7,64,[])else ax.PJ (acc++[r]) xs
noncomputable def ax.qZ(s:ByteArray):Int×Nat×List ax.RR:=if 65536<s.size then(7,0,[])else ax.PJ [] (fL s)
theorem ax.Tw:∀(p:List ByteArray)(rs acc:List ax.RR)(ys:List ByteArray),p.map ax.vq=rs.map Sum.inr->(acc++rs).length<=64->ax.PJ acc (p++ys)=ax.PJ (acc++rs) ys
 |[],rs,acc,ys,h,_=>by
  cases rs with
  |nil=>simp
  |cons r rs=>simp at h
 |x::p,rs,acc,ys,h,hl=>by
  cases rs with
  |nil=>simp at h
  |cons r rs=>
   simp only[Zb1,Zh1]at h;simp only[Zc9,Zc2]at hl;rw[Ze3,ax.PJ,h.1];simp only;rw[Zb2 (by omega),ax.Tw p rs (acc++[r]) ys h.2 (by simp;omega)];simp
theorem ax.ame(s:ByteArray)(w:World):Calls Tryz.prog 70 #[.string s] w λe w'=>e= .returned (.func (.func 133) #[] #[.pointer (some ⟨w.heap.size,0,none⟩)])/\w'=w.alloc (.cells #[.string s] 9):=by
 go_enter Tryz.func70,Tryz.ntmps70
 go_wp2
 go_ret
 exact⟨rfl,rfl⟩
def ax.Yo(w:World)(pre:List ByteArray)(W:World):Prop:=
 ∃  (rs:List ax.RR) (v:Value),pre.map ax.vq=rs.map Sum.inr/\rs.length<=64/\Is W w.heap.size 26 #[.slice none 0 0]/\Is W (w.heap.size+1) 3 #[.int .i64 0]/\Is W (w.heap.size+1+1) 50 #[.int .i64 0]/\
    Is W (w.heap.size+1+1+1) 26 #[v]/\W.ownsRow (w.heap.size+5) 48 6 v rs.length (ax.cellsOf rs)/\w.heap.size+5<=W.heap.size/\Below w.heap.size w W/\(rs=[]->v= .slice none 0 0)
def ax.Yp(w:World)(s:ByteArray)(pre:List ByteArray)(W:World):Prop:=
 ∃(e:Int) (k:Nat),1<=e/\e<=100/\k<=64/\(∀ys,pre++ys=fL s->ax.PJ [] (fL s)=(e,k,[]))/\Is W w.heap.size 26 #[.slice none 0 0]/\Is W (w.heap.size+1) 3 #[.int .i64 k]/\Is W (w.heap.size+1+1) 50 #[.int .i64 e]/\w.heap.size+5<=W.heap.size/\Below w.heap.size w W
def ax.ah6(s:ByteArray)(w:World)(e:Ending)(w':World):Prop:=
 ∃v,e= .returned (.tuple #[v,.int .i64 (ax.qZ s).2.1,.int .i64 (ax.qZ s).1])/\w'.ownsRow w.heap.size 48 6 v (ax.qZ s).2.2.length (ax.cellsOf (ax.qZ s).2.2)/\Below w.heap.size w w'/\((ax.qZ s).1≠0\/(ax.qZ s).2.2=[]->v= .slice none 0 0)
theorem ax.rT{W W':World}{n:Nat}{T:TypeId}{cs:Array Value}{row:Option Nat}(h:Is W n T cs)(hg:W.grownBy W' row)(cA:some n≠row):Is W' n T cs:=h.of_heap (hg.block n h.lt cA)
theorem ax.uw{W:World}{n:Nat}{T:TypeId}{cs:Array Value}{row:Option Nat}(h:Is W n T cs)(hr:∀r,row=some r->∃o:Obj,W.heap[r]? =some o/\o.isCells=false):some n≠row:=by
 intro e;obtain⟨o,ho,hc⟩:=hr n e.symm;unfold Is at h;rw[h]at ho;obtain rfl:Obj.cells cs T (0,0)=o:=by injection ho
 cases hc
theorem ax.agr{W:World}{base k size:Nat}{e:TypeId}{v:Value}{xs:List Value}{row:Option Nat}(h:W.ownsRow base e size v k xs)(hr:∀r,row=some r->∃o:Obj,W.heap[r]? =some o/\o.isCells=false):v.ownBlock=none\/v.ownBlock≠row:=by
 rcases h.2 with⟨rfl,_⟩|⟨g,cap,cur,rfl,_,hb,_⟩
 .exact .inl rfl
 .right;intro e;obtain⟨o,ho,hc⟩:=hr g (by rw[<-e];rfl);rw[hb]at ho;obtain rfl:Obj.cells cur _ (0,0)=o:=(by injection ho);cases hc
theorem ax.aas{W W':World}{base k size:Nat}{e:TypeId}{v:Value}{xs:List Value}(h:W.ownsRow base e size v k xs)(hb:Below W.heap.size W W'):W'.ownsRow base e size v k xs:=
 h.kept (row:=none) ⟨hb.os,hb.tape,hb.output,hb.size,λi hi _=>hb.block i hi⟩ (by
  cases h0:v.ownBlock
  .exact .inl rfl
  .right;simp)
theorem ax.VD{B:Nat}{W W':World}(hb:Below W.heap.size W W'):KeepsFrom B W W':=⟨hb.size,λk o _ hk _=>(hb.block k (Zc4.1 hk).1).trans hk⟩
theorem ax.ags(w:World)(B0:Nat)(hB:w.heap.size<=B0):OwnFrom B0 (ax.Yo w):=by
 rintro pre W W' row ⟨rs,v,h1,h2,i1,i2,i3,i4,gy,fC,hb,hn⟩ hg hr;have ni:∀r,row=some r->∃o:Obj,W.heap[r]? =some o/\o.isCells=false:=λr e=>(hr r e).2
 exact⟨rs,v,h1,h2,ax.rT i1 hg (ax.uw i1 ni),ax.rT i2 hg (ax.uw i2 ni),ax.rT i3 hg (ax.uw i3 ni),ax.rT i4 hg (ax.uw i4 ni),
  gy.kept hg (ax.agr gy ni),Zb7 fC hg.size,hb.grown hg (by omega) (λk e=>Zb7 hB (hr k e).1),hn⟩
theorem ax.agt(w:World)(s:ByteArray)(B0:Nat)(hB:w.heap.size<=B0):OwnFrom B0 (ax.Yp w s):=by
 rintro pre W W' row ⟨e,k,h1,h2,h3,h4,i1,i2,i3,fC,hb⟩ hg hr;have ni:∀r,row=some r->∃o:Obj,W.heap[r]? =some o/\o.isCells=false:=λr e=>(hr r e).2
 exact⟨e,k,h1,h2,h3,h4,ax.rT i1 hg (ax.uw i1 ni),ax.rT i2 hg (ax.uw i2 ni),ax.rT i3 hg (ax.uw i3 ni),Zb7 fC hg.size,hb.grown hg (by omega) (λk e=>Zb7 hB (hr k e).1)⟩
theorem ax.agu(w:World):DO (w.heap.size+1+1+1+1) (ax.Yo w):=by
 rintro pre W x ⟨rs,v,h1,h2,i1,i2,i3,i4,gy,fC,hb,hn⟩;exact⟨rs,v,h1,h2,i1.other (by omega) _ _,i2.other (by omega) _ _,i3.other (by omega) _ _,i4.other (by omega) _ _,ownsRow_setCell_below gy (by show w.heap.size+1+1+1+1<w.heap.size+5;omega) _,by rw[World.size_setCell];exact fC,hb.setCell (by show w.heap.size<=w.heap.size+1+1+1+1;omega) _,hn⟩
theorem ax.agv(w:World)(s:ByteArray):DO (w.heap.size+1+1+1+1) (ax.Yp w s):=by
 rintro pre W x ⟨e,k,h1,h2,h3,h4,i1,i2,i3,fC,hb⟩;exact⟨e,k,h1,h2,h3,h4,i1.other (by omega) _ _,i2.other (by omega) _ _,i3.other (by omega) _ _,by rw[World.size_setCell];exact fC,hb.setCell (by show w.heap.size<=w.heap.size+1+1+1+1;omega) _⟩
theorem ax.aki{s:ByteArray}{pre:List ByteArray}{x:ByteArray}{rs:List ax.RR}{e:Int}(h:pre.map ax.vq=rs.map Sum.inr)(hl:rs.length<=64)(hx:ax.vq x= .inl e)(ys:List ByteArray)(hy:pre++[x]++ys=fL s):ax.PJ [] (fL s)=(e,rs.length,[]):=by
 rw[<-hy,Zg4,ax.Tw pre rs [] _ h (by simpa using hl)];simp[ax.PJ,hx]
theorem ax.aat{w:World}{base:Nat}{e:TypeId}{size:Nat}{v:Value}{n:Nat}{xs:List Value}(h:w.ownsRow base e size v n xs):∃a c,v= .slice a n c:=by
 rcases h.2 with⟨rfl,rfl⟩|⟨g,cap,cur,rfl,_⟩
 .exact⟨none,0,rfl⟩
 .exact⟨_,_,rfl⟩
theorem ax.EK{W:World}{n:Nat}{T:TypeId}{a v:Value}(h:Is W n T #[a]):Is (W.setCell ⟨n,0,none⟩ v) n T #[v]:=(h.set 0 v).cast rfl
theorem ax.ah7{B:Nat}{W W':World}(h:KeepsFrom B W W')(p:Addr)(v:Value):KeepsFrom B W (W'.setCell p v):=h.trans ((KeepsOthers.setCell W' p v).from B)
theorem ax.WB{B:Nat}{W W':World}(h:KeepsFrom B W W')(o:Obj):KeepsFrom B W (W'.alloc o):=h.trans ((KeepsOthers.alloc W' o).from B)
theorem ax.amf{B:Nat}{W W':World}(h:KeepsFrom B W W'):KeepsFrom B W W'.drew:=h.trans ⟨Za6 _,λ_ _ _ hk _=>hk⟩
theorem ax.ah8{w W':World}{s:ByteArray}{pre:List ByteArray}{e:Int}{k:Nat}(h1:1<=e/\e<=100)(h2:k<=64)(h3:∀ys,pre++ys=fL s->ax.PJ [] (fL s)=(e,k,[]))
  (i1:Is W' w.heap.size 26 #[.slice none 0 0]) (i2:Is W' (w.heap.size+1) 3 #[.int .i64 k]) (i3:Is W' (w.heap.size+1+1) 50 #[.int .i64 e]) (hz:w.heap.size+5<=W'.heap.size) (hb:Below w.heap.size w W'):ax.Yp w s pre W':=
 ⟨e,k,h1.1,h1.2,h2,h3,i1,i2,i3,hz,hb⟩
theorem ax.WC{w:World}{base:Nat}{e:TypeId}{size:Nat}{v:Value}{n:Nat}{xs:List Value}(h:w.ownsRow base e size v n xs)(j:Nat)(hj:v.ownBlock=some j):base<=j:=by
 rcases h.2 with⟨rfl,rfl⟩|⟨g,cap,cur,rfl,hb,_⟩
 .cases hj
 .obtain rfl:g=j:=(by simpa [Value.ownBlock]using hj);exact hb
theorem ax.ah9{w:World}{base:Nat}{e:TypeId}{size:Nat}{v:Value}{n:Nat}{xs:List Value}(h:w.ownsRow base e size v n xs)(j:Nat)(o:Obj)(hj:v.ownBlock=some j)(ho:w.heap[j]? =some o):o.isCells=true:=by
 rcases h.2 with⟨rfl,rfl⟩|⟨g,cap,cur,rfl,hb,hg,_⟩
 .cases hj
 .obtain rfl:g=j:=(by simpa [Value.ownBlock]using hj);rw[hg]at ho;cases ho;rfl
theorem ax.aia(r:ax.RR):∀u∈r.cells,u.oneCell'=true:=by intro u hu;simp only[ax.RR.cells,Zb4,Zc8,Zg9]at hu;rcases hu with rfl|rfl|rfl|rfl|rfl|rfl<;>rfl
theorem ax.aib(W:World)(T:TypeId)(cs:List Value)(j:Nat)(u:Value)(h:cs[j]? =some u):(W.alloc (.cells cs.toArray T)).cell? ((⟨W.heap.size,0,none⟩:Addr).add j)=some u:=by
 have:(⟨W.heap.size,0,none⟩:Addr).add j=⟨W.heap.size,j,none⟩:=by
  unfold Addr.add;split
  .rename_i h0;subst h0;rfl
  .simp
 rw[this,(Is.new W T cs.toArray).cell];simpa using h
theorem ax.aic{w W w1 w5:World}{n:Nat}{v:Value}{xs:List Value}{A C:Obj}{va:Value}(ji:Below W.heap.size W w1)(fC:w.heap.size+5<=W.heap.size)(j4:Is W (w.heap.size+1+1+1) 26 #[va])
  (gy:W.ownsRow (w.heap.size+5) 48 6 v n xs) (DP:((w1.alloc A).alloc C).grownBy w5 v.ownBlock):Is w5 (w.heap.size+1+1+1) 26 #[va]:=
 ax.rT (((j4.below ji (by omega)).alloc _).alloc _) DP (λe=>by have:=ax.WC gy _ e.symm;omega)
theorem ax.agw{w W w1 w5:World}{B:Nat}{pre:List ByteArray}{x:ByteArray}{rs:List ax.RR}{r:ax.RR}{v v':Value}{A C:Obj}(p1:pre.map ax.vq=rs.map Sum.inr)(p2:rs.length<64)(hx:ax.vq x= .inr r)
   (hb:Below w.heap.size w W) (ji:Below W.heap.size W w1) (fC:w.heap.size+5<=W.heap.size)
   (j1:Is W w.heap.size 26 #[.slice none 0 0]) (j2:Is W (w.heap.size+1) 3 #[.int .i64 0]) (j3:Is W (w.heap.size+1+1) 50 #[.int .i64 0]) (j4:Is W (w.heap.size+1+1+1) 26 #[v])
   (gy:W.ownsRow (w.heap.size+5) 48 6 v rs.length (ax.cellsOf rs)) (ady:w5.ownsRow (w.heap.size+5) 48 6 v' (rs.length+1) (ax.cellsOf rs++r.cells)) (DP:((w1.alloc A).alloc C).grownBy w5 v.ownBlock):
   KeepsFrom B W (w5.setCell ⟨w.heap.size+1+1+1,0,none⟩ v')/\QJ (w.heap.size+1+1+1+1) W (w5.setCell ⟨w.heap.size+1+1+1,0,none⟩ v')/\ax.Yo w (pre++[x]) (w5.setCell ⟨w.heap.size+1+1+1,0,none⟩ v'):=by
 have anQ:=((ax.aas gy ji).alloc A).alloc C;have cA:∀k,k<w.heap.size+5->some k≠v.ownBlock:=λk hk e=>by have:=ax.WC gy _ e.symm;omega
 have is5:∀{k:Nat}{T:TypeId}{cs:Array Value},Is W k T cs->k<w.heap.size+5->Is w5 k T cs:=λh hk=>ax.rT (((h.below ji (by omega)).alloc _).alloc _) DP (cA _ hk)
 have hp5:w5.heap[w.heap.size+1+1+1+1]? =W.heap[w.heap.size+1+1+1+1]? :=by
   have hlt1:=ji.size;rw[DP.block _ (by simp;omega) (cA _ (by omega)),Go.ax.heap_alloc _ _ (by simp;omega),Go.ax.heap_alloc _ _ (by omega)];exact ji.block _ (by omega)
 have hp6:(w5.setCell ⟨w.heap.size+1+1+1,0,none⟩ v').heap[w.heap.size+1+1+1+1]? =W.heap[w.heap.size+1+1+1+1]? :=by rw[Go.ax.aeb (by omega)];exact hp5
 refine⟨?_,⟨by simp[World.cell?,hp6],by simp[World.frozen?,hp6]⟩,rs++[r],v',?_,by simp;omega,(is5 j1 (by omega)).other (by omega) _ _,(is5 j2 (by omega)).other (by omega) _ _,(is5 j3 (by omega)).other (by omega) _ _,ax.EK (is5 j4 (by omega)),?_,?_,?_,λh=>by simp at h⟩
 .refine ax.ah7 ((ax.WB (ax.WB (ax.VD ji) _) _).trans ((KeepsOthers.of_grownBy DP λj o ej hj=>ax.ah9 anQ j o ej hj).from B)) _ _
 .simp[p1,hx]
 .rw[ax.adx];have:=ownsRow_setCell_below ady (a:=⟨w.heap.size+1+1+1,0,none⟩) (by show w.heap.size+1+1+1<w.heap.size+5;omega) v';simpa using this
 .have h1:=ji.size;have h2:=DP.size;simp at h2 ⊢; omega
 .have h1:=ji.size;exact((((hb.trans (ji.mono (by omega))).alloc (by omega) A).alloc (by simp;omega) C).grown DP (by simp;omega) (λk e=>by have:=ax.WC gy k e;omega)).setCell (by show w.heap.size<=w.heap.size+1+1+1;omega) _
theorem ax.Cg{W:World}{n D:Nat}{T:TypeId}{cs:Array Value}{o o':Obj}(h:Is W n T cs)(hk:W.heap[D]? =some o)(ho:o.isCells=false):Is (W.putObj D o') n T cs:=
 ax.rT h (grownBy_putObj' W D o') (ax.uw h (λr e=>by cases e;exact⟨o,hk,ho⟩))
theorem ax.aau{s:ByteArray}{w w':World}{v:Value}{i:Int}{er:Int}{rs:List ax.RR}{k:Nat}(hp:ax.qZ s=(er,k,rs))(hi:i=k)(gy:w'.ownsRow w.heap.size 48 6 v rs.length (ax.cellsOf rs))(hb:Below w.heap.size w w')(Tz:er≠0\/rs=[]->v= .slice none 0 0:=by intro h;rfl):
   ax.ah6 s w (.returned (.tuple #[v,.int .i64 i,.int .i64 er])) w':=by
 subst hi;refine⟨v,by rw[hp],?_,hb,?_⟩
 .rw[hp];exact gy
 .rw[hp];exact Tz
theorem ax.akj{w:World}{base afs:Nat}{e:TypeId}{size:Nat}{v:Value}{n:Nat}{xs:List Value}(h:w.ownsRow base e size v n xs)(hb:afs<=base):w.ownsRow afs e size v n xs:=by
 refine⟨h.1,h.2.imp id ?_⟩;rintro⟨g,cap,cur,h1,h2,h3⟩;exact⟨g,cap,cur,h1,Zb7 hb h2,h3⟩
theorem ax.aeg{s:ByteArray}{rs:List ax.RR}(hs:s.size<=65536)(h:(fL s).map ax.vq=rs.map Sum.inr)(hl:rs.length<=64):ax.qZ s=(0,0,rs):=by have:=ax.Tw (fL s) rs [] [] h (by simpa using hl);rw[Zd4]at this;unfold ax.qZ;rw[Zb2 (by omega),this];rfl
theorem ax.amX:∃i0 z,Tryz.prog.info? 48=some i0/\i0.zero=some z/\i0.size=6/\i0.bytes=72/\z.cells.size=6:=by
 have h:(Tryz.prog.info? 48).map (λi=>(i.zero.map (·.cells.size),i.size,i.bytes))=some (some 6,6,72):=by kernel_rfl
 cases hi:Tryz.prog.info? 48 with
 |none=>rw[hi]at h;simp at h
 |some i0=>
  rw[hi]at h;simp only[Zd8,H0,Zc7,Zi7]at h;obtain⟨⟨z,hz,hz2⟩,h2,h3⟩:=h;exact⟨i0,z,rfl,hz,h2,h3,hz2⟩
theorem ax.amY(s:ByteArray)(Yq:∀s0∈fL s,ax.okL s0=true)(hfew:(fL s).length<64)
   (m:Int) (w:World) (hs:s.size<=65536) (hm:w.cell? ⟨0,0,none⟩=some (.int .i64 m)):
   Calls Tryz.prog 27 #[.string s] w (ax.ah6 s w):=by
 have hbk:=World.block_lt_of_cell? _ _ hm;refine(callsIn_wide (n:=5)).1 ?_;refine callsIn_of_wp_marks Tryz.func27 rfl trivial ?_ rfl;simp only[Tryz.ntmps27,Zn0,Zc2,Zi6,Nat.reduceAdd,Nat.reduceSub,Array.replicate_succ,Array.replicate_zero,List.push_toArray,List.append_toArray,Zg3,Ze3]
 gi_wp2_with (refine⟨trivial,?_⟩;gi_at_call 70;refine(callsIn_wide.2 (ax.ame s _)).mono ?_;rintro e w' ⟨rfl,rfl⟩)
 obtain⟨W0,Yr⟩:∃W0,W0=(((((w.alloc (.cells #[.slice none 0 0] 26)).alloc (.cells #[.int .i64 0] 3)).alloc (.cells #[.int .i64 0] 50)).alloc (.cells #[.slice none 0 0] 26)).alloc (.cells #[.string s] 9)):=⟨_,rfl⟩
 have hz:W0.heap.size=w.heap.size+1+1+1+1+1:=by rw[Yr];simp
 have i1:Is W0 w.heap.size 26 #[.slice none 0 0]:=by rw[Yr];exact((((Is.new w 26 _).alloc _).alloc _).alloc _).alloc _
 have i2:Is W0 (w.heap.size+1) 3 #[.int .i64 0]:=by rw[Yr];have:=(((Is.new (w.alloc (.cells #[.slice none 0 0] 26)) 3 #[.int .i64 0]).alloc (.cells #[.int .i64 0] 50)).alloc (.cells #[.slice none 0 0] 26)).alloc (.cells #[.string s] 9);rwa [World.size_alloc]at this
 have i3:Is W0 (w.heap.size+1+1) 50 #[.int .i64 0]:=by rw[Yr];have:=((Is.new ((w.alloc (.cells #[.slice none 0 0] 26)).alloc (.cells #[.int .i64 0] 3)) 50 #[.int .i64 0]).alloc (.cells #[.slice none 0 0] 26)).alloc (.cells #[.string s] 9);rwa [World.size_alloc,World.size_alloc]at this
 have i4:Is W0 (w.heap.size+1+1+1) 26 #[.slice none 0 0]:=by rw[Yr];have:=(Is.new (((w.alloc (.cells #[.slice none 0 0] 26)).alloc (.cells #[.int .i64 0] 3)).alloc (.cells #[.int .i64 0] 50)) 26 #[.slice none 0 0]).alloc (.cells #[.string s] 9);rwa [World.size_alloc,World.size_alloc,World.size_alloc]at this
 have i5:Is W0 (w.heap.size+1+1+1+1) 9 #[.string s]:=by rw[Yr];have:=Is.new ((((w.alloc (.cells #[.slice none 0 0] 26)).alloc (.cells #[.int .i64 0] 3)).alloc (.cells #[.int .i64 0] 50)).alloc (.cells #[.slice none 0 0] 26)) 9 #[.string s];rwa [World.size_alloc,World.size_alloc,World.size_alloc,World.size_alloc]at this
 have xM:Below w.heap.size w W0:=by rw[Yr];exact(((((Below.refl _ w).alloc (Za6 _) _).alloc (by simp) _).alloc (by simp;omega) _).alloc (by simp;omega) _).alloc (by simp;omega) _
 rw[<-Yr];clear Yr
 refine aed (n:=5) rfl (by decide) (gf:=133) (b:=w.heap.size+1+1+1+1) (lb:= #[.pointer (some ⟨w.heap.size+1+1+1+1,0,none⟩)]) rfl trivial (enters_of Tryz.func133 (by kernel_rfl) rfl) (encs:=λx=> #[.string x]) (xs:=fL s) ?_ (by omega) (λ_=>rfl)
   (ax.Yo w) (ax.Yp w s) (ax.ags w _ (by omega)) (ax.agt w s _ (by omega)) (ax.agu w) (ax.agv w s)
   ⟨[],.slice none 0 0,rfl,by simp,i1,i2,i3,i4,⟨rfl,.inl ⟨rfl,rfl⟩⟩,by omega,xM,λ_=>rfl⟩
   (fun x=>{ tmps:= #[.string s,undef,.pointer (some ⟨w.heap.size,0,none⟩),.pointer (some ⟨w.heap.size+1,0,none⟩),.pointer (some ⟨w.heap.size+1+1,0,none⟩),.pointer (some ⟨w.heap.size+1+1+1,0,none⟩),.string x,undef,undef,.string s,
     .int .i64 s.size,.bool (decide (65536<(s.size:Int))),.string s,.func (.func 133) #[] #[.pointer (some ⟨w.heap.size+1+1+1+1,0,none⟩)],.string x,undef,undef,undef,undef,undef,undef,undef,undef,undef,undef,undef,undef,undef,undef,undef,undef,undef,undef,undef,undef,undef,undef],defers:=[] })
   ?assign ?body ?done ?stop
 .exact λl J Jx W hW hJ hJx hJs hJxs hY h0=>ax.amd _ l _ s hs J Jx W _ hJ hJx hJs hY (by decide) (by rw[hW.cell (p:=⟨w.heap.size+1+1+1+1,0,none⟩) (by show w.heap.size+1+1+1+1<W0.heap.size;omega)];exact i5.one) (by rw[hW.frozen (p:=⟨w.heap.size+1+1+1+1,0,none⟩) (by show w.heap.size+1+1+1+1<W0.heap.size;omega)];exact i5.frozen 0) h0
 case assign=>
   intro l x W K hK
   gi_wp2
   exact hK
 case body=>
   (rintro l pre x W ⟨rs,v,p1,p2,j1,j2,j3,j4,gy,fC,hb,_⟩ WA hWz;obtain⟨va,vc,rfl⟩:=ax.aat gy;obtain⟨ys,xK⟩:=WA;have hx:x.size<=65536:=Zb7 (aef s x (by rw[<-xK];simp)) hs;have hmW:W.cell? ⟨0,0,none⟩=some (.int .i64 m):=(hb.cell (p:=⟨0,0,none⟩) hbk).trans hm;have cR:=Yq x (by rw[<-xK];simp);have HL:=Lib.hid (ax.line x cR W);have aW:rs.length<64:=by have h1:=congrArg List.length p1;have h2:=congrArg List.length xK;simp at h1 h2;omega);have z1:w.heap.size<W.heap.size:=(by omega);have z2:w.heap.size+1<W.heap.size:=(by omega);have z3:w.heap.size+1+1<W.heap.size:=(by omega);have z4:w.heap.size+1+1+1<W.heap.size:=(by omega);have adz:=Lib.hid gy;have HB:=Lib.hid hb;have HP1:=Lib.hid p1;have HYS:=Lib.hid xK;have J1:=Lib.hid j1;have J2:=Lib.hid j2;have J3:=Lib.hid j3;have J4:=Lib.hid j4;have HM:=Lib.hid hm;have HH:=Lib.hid Yq;have HI5:=Lib.hid i5;clear gy hb p1 xK j1 j2 j3 j4 hmW hm Yq i1 i2 i3 i4 i5 xM;rcases VY:ax.vq x with e0|r
   . have hee:=ax.akd cR VY;have adA:=Lib.hid VY;clear VY
     gi_wp2_with (refine⟨trivial,?_⟩;gi_at_call 71;refine(CallsIn.inRound l (callsIn_wide.2 HL.out)).mono ?_;rintro e w1 ⟨he,ji⟩;rw[show ax.vq x= .inl e0 from adA.out]at he;obtain rfl:e= .returned (.tuple #[.agg #[.int .u8 0,.int .i64 0,.string ⟨#[]⟩,.string ⟨#[]⟩,.string ⟨#[]⟩,.int .i64 0],.int .i64 e0]):=he;have K1:=J1.out.below ji z1;have K2:=J2.out.below ji z2;have K3:=J3.out.below ji z3;have K4:=J4.out.below ji z4;have k1:=K1.one;have k2:=K2.one;have k3:=K3.one;have k4:=K4.one;have g1:=K1.frozen;have g2:=K2.frozen;have g3:=K3.frozen;have g4:=K4.frozen;have Ys:=ji.size;have y1:=Zc5 z1 Ys;have y2:=Zc5 z2 Ys;have y3:=Zc5 z3 Ys;have y4:=Zc5 z4 Ys;have L1:=Lib.hid K1;have L2:=Lib.hid K2;have L3:=Lib.hid K3;have L4:=Lib.hid K4;clear K1 K2 K3 K4;have HB1:=Lib.hid ji;have HBB:=Lib.hid (HB.out.trans (ji.mono (Zl9 z1)));clear ji)
     gi_region
     all_goals gi_wp2
     all_goals
        refine⟨?_,ax.ah8 (e:=e0) (k:=rs.length) hee p2 (λys hy=>ax.aki HP1.out p2 adA.out ys hy) ?_ ?_ ?_ ?_ ?_⟩
        . (repeat (first|(with_reducible refine ax.amf ?_)|(with_reducible refine ax.WB ?_ _)|(with_reducible refine ax.ah7 ?_ _ _)|(with_reducible exact ax.VD HB1.out)))
        . (repeat (first|(with_reducible refine Is.drew ?_)|(with_reducible refine Is.alloc ?_ _)|(with_reducible refine ax.EK (a:= .slice none 0 0) ?_)|(with_reducible refine Is.other ?_ (by omega) _ _)|(with_reducible exact L1.out)))
        . (repeat (first|(with_reducible refine Is.drew ?_)|(with_reducible refine Is.alloc ?_ _)|(with_reducible refine ax.EK (a:= .int .i64 0) ?_)|(with_reducible refine Is.other ?_ (by omega) _ _)|(with_reducible exact L2.out)))
        . (repeat (first|(with_reducible refine Is.drew ?_)|(with_reducible refine Is.alloc ?_ _)|(with_reducible refine ax.EK (a:= .int .i64 0) ?_)|(with_reducible refine Is.other ?_ (by omega) _ _)|(with_reducible exact L3.out)))
        .simp;omega
        . (repeat (first|(with_reducible refine Below.drew ?_)|(with_reducible refine Below.setCell ?_ (by first|(simp;done)|(simp;omega)) _)|(with_reducible refine Below.alloc ?_ (by first|omega|(simp;done)|(simp;omega)) _)|(with_reducible exact HBB.out)))
   . have adA:=Lib.hid VY;clear VY
     .  have hl:¬rs.length=64:=(by omega);have hl64:((rs.length:Int)==64)=false:=(by rw[beq_eq_false_iff_ne];omega);obtain⟨i0,z,xP,hz0,hzs,hzb,DU⟩:=ax.amX
        gi_wp2_with (first|(refine⟨trivial,?_⟩;gi_at_call 71;refine(CallsIn.inRound l (callsIn_wide.2 HL.out)).mono ?_;rintro e w1 ⟨he,ji⟩;rw[show ax.vq x= .inr r from adA.out]at he;obtain rfl:e= .returned (.tuple #[.agg #[.int .u8 r.k,.int .i64 r.wt,.string r.a,.string r.b,.string r.t,.int .i64 r.n],.int .i64 0]):=he;have K1:=J1.out.below ji z1;have K2:=J2.out.below ji z2;have K3:=J3.out.below ji z3;have K4:=J4.out.below ji z4;have k1:=K1.one;have k2:=K2.one;have k3:=K3.one;have k4:=K4.one;have g1:=K1.frozen;have g2:=K2.frozen;have g3:=K3.frozen;have g4:=K4.frozen;have Ys:=ji.size;have y1:=Zc5 z1 Ys;have y2:=Zc5 z2 Ys;have y3:=Zc5 z3 Ys;have y4:=Zc5 z4 Ys;have L1:=Lib.hid K1;have L2:=Lib.hid K2;have L3:=Lib.hid K3;have L4:=Lib.hid K4;clear K1 K2 K3 K4;have HB1:=Lib.hid ji;have HBB:=Lib.hid (HB.out.trans (ji.mono (Zl9 z1)));clear ji)|(gi_at_builtin;refine wpListIn_append_own _ rfl _ _ 26 rfl (w.heap.size+5) 48 i0 z 6 72 Tryz.underlying26 xP hz0 hzs hzb DU (by decide) _ _ _ rfl (((ax.aas adz.out HB1.out).alloc _).alloc _) ⟨w1.heap.size+1,0,none⟩ 1 1 r.cells rfl rfl ?_ ?_ ?_ ?_ ?_ ?_))
        .intro j u hu;have:=ax.aib (w1.alloc (.cells r.cells.toArray 48)) 48 r.cells j u hu;rw[World.size_alloc]at this;exact this
        .exact ax.aia r
        .unfold maxLen;omega
        .omega
        .have:=HB1.out.size;simp;omega
        . intro v' w5 ady DP _;obtain⟨g',bA,rfl⟩:=ownsRow_succ ady;have hm5:=ax.aic HB1.out fC J4.out adz.out DP;have k5:=hm5.one;have g5:=hm5.frozen;have HM5:=Lib.hid hm5;have HOWN:=Lib.hid ady;have anR:=Lib.hid DP;clear hm5 ady DP
          gi_wp2
          exact ax.agw HP1.out (by omega) adA.out HB.out HB1.out fC J1.out J2.out J3.out J4.out adz.out HOWN.out anR.out
 case done=>
   rintro D W hD ⟨rs,v,h1,h2,j1,j2,j3,j4,gy,fC,hb,Tz⟩ hK;obtain⟨va,vc,rfl⟩:=ax.aat gy;have HNIL:=Lib.hid Tz;clear Tz;have c1:=j1.one;have c2:=j2.one;have c3:=j3.one;have c4:=j4.one;have f1:=j1.frozen;have f2:=j2.frozen;have f3:=j3.frozen;have f4:=j4.frozen;have adz:=Lib.hid gy;have HB:=Lib.hid hb;have H1:=Lib.hid h1;have J1:=Lib.hid j1;have J2:=Lib.hid j2;have J3:=Lib.hid j3;have J4:=Lib.hid j4;have HK:=Lib.hid hK;clear gy hb h1 j1 j2 j3 j4 hK hm Yq i1 i2 i3 i4 i5 xM
   gi_wp2
   have hK2:(((W.setCell ⟨w.heap.size,0,none⟩ (.slice va rs.length vc)).setCell ⟨w.heap.size+1,0,none⟩ (.int .i64 0)).setCell ⟨w.heap.size+1+1,0,none⟩ (.int .i64 0)).heap[D]? =some (.deferred (some [])):=
     (KeepsOthers.setCell _ _ _).same D _ ((KeepsOthers.setCell _ _ _).same D _ ((KeepsOthers.setCell _ _ _).same D _ HK.out rfl) rfl) rfl
   have q1:=ax.Cg (o':= .deferred none) (((ax.EK (v:= .slice va rs.length vc) J1.out).other (m:=w.heap.size+1) (by omega) 0 (.int .i64 0)).other (m:=w.heap.size+1+1) (by omega) 0 (.int .i64 0)) hK2 rfl;have q2:=ax.Cg (o':= .deferred none) ((ax.EK (v:= .int .i64 0) (J2.out.other (m:=w.heap.size) (by omega) 0 (.slice va rs.length vc))).other (m:=w.heap.size+1+1) (by omega) 0 (.int .i64 0)) hK2 rfl;have q3:=ax.Cg (o':= .deferred none) (ax.EK (v:= .int .i64 0) ((J3.out.other (m:=w.heap.size) (by omega) 0 (.slice va rs.length vc)).other (m:=w.heap.size+1) (by omega) 0 (.int .i64 0))) hK2 rfl;have r1:=q1.one;have r2:=q2.one;have r3:=q3.one;refine⟨by simp,.inl ⟨_,_,rfl,run_takeDeferred hK2,?_⟩⟩;refine⟨.tuple #[.slice va rs.length vc,.int .i64 0,.int .i64 0],by simp[results,Tryz.results27,go_sem,r1,r2,r3],ax.aau (k:=0) (rs:=rs) (ax.aeg hs H1.out h2) rfl ?_ ?_ (λh=>h.elim (λh=>absurd rfl h) HNIL.out)⟩
   . refine ax.akj (base:=w.heap.size+5) ?_ (by omega);refine ownsRow_putObj (ownsRow_setCell_below (ownsRow_setCell_below (ownsRow_setCell_below adz.out ?_ _) ?_ _) ?_ _) _ hK2 rfl
     .  show w.heap.size<w.heap.size+5;omega
     .  show w.heap.size+1<w.heap.size+5;omega
     .  show w.heap.size+1+1<w.heap.size+5;omega
   .exact(((HB.out.setCell (p:=⟨w.heap.size,0,none⟩) (Za6 _) _).setCell (p:=⟨w.heap.size+1,0,none⟩) (by show w.heap.size<=w.heap.size+1;omega) _).setCell (p:=⟨w.heap.size+1+1,0,none⟩) (by show w.heap.size<=w.heap.size+1+1;omega) _).grown (grownBy_putObj' _ D _) (by simp;omega) (λk e=>by cases e;omega)
 case stop=>
   rintro D pre W hD WA ⟨e,k,h1,h2,h3,h4,j1,j2,j3,fC,hb⟩ hK;obtain⟨ys,xK⟩:=WA;have q1:=ax.Cg (o':= .deferred none) j1 hK rfl;have q2:=ax.Cg (o':= .deferred none) j2 hK rfl;have q3:=ax.Cg (o':= .deferred none) j3 hK rfl;have r1:=q1.one;have r2:=q2.one;have r3:=q3.one;have HB:=Lib.hid hb;have H4:=Lib.hid (h4 ys xK);have HK:=Lib.hid hK;have R1:=Lib.hid r1;have R2:=Lib.hid r2;have R3:=Lib.hid r3;clear hb h4 j1 j2 j3 hK hm Yq i1 i2 i3 i4 i5 xM xK q1 q2 q3 r1 r2 r3
   gi_wp2
   refine⟨by simp,.inl ⟨_,_,rfl,run_takeDeferred HK.out,?_⟩⟩;refine⟨.tuple #[.slice none 0 0,.int .i64 k,.int .i64 e],by simp[results,Tryz.results27,go_sem,R1.out,R2.out,R3.out],ax.aau (k:=k) (rs:=[]) (by unfold ax.qZ;rw[Zb2 (by omega),H4.out]) rfl ⟨rfl,.inl ⟨rfl,rfl⟩⟩ ?_⟩;exact HB.out.grown (grownBy_putObj' _ D _) (by omega) (λk e=>by cases e;omega)
end
end Go.Proofs
section
set_option maxRecDepth 1000000
namespace Go.Ai
open Go Go.RowKit
theorem adB{P:Program}{tt:TT}{O:eE}{G:T dF}{C:Cells}{m d f:Nat}{n0:Pos}{fn:Func}{c:Code}(hm:P.follows .mixedOrders=true)(hT:cQ P tt)(hG:WZ P tt G)
  (hO:uA P C O) (RM:mZ O) (hf:P.funcs[f]? =some fn) (mC:¬fn.name= "runtime.NumGoroutine") (hb:fn.body=some c) {b:Bool}
  (h:J6 (R:=Bool) false O G m d f [] { heap:= .e,next:=n0 } (λv _=>dO v (.bool b))=true) (w:World) (hC:∀ad v,C ad=some v->w.cell? ad=some v) (hC2:∀a v,C a=some v->∀o,C ⟨a.block,o,none⟩=none->w.cell? ⟨a.block,o,none⟩=none):
  Calls P f #[] w λe w'=>e= .returned (.bool b)/\Below w.heap.size w w':=by
 rw[En false O G m d]at h;unfold sL at h;split at h<;>first|(cases h;done)|skip
 rename_i x hx;obtain⟨v,bQ⟩:=x;have hv:=xS h;simp only at hv;subst hv;have hr:=CD hm hT hO RM hG m d (λ_=>⟨0,0,0⟩) { heap:= .e,next:=n0 } w f [] (.bool b) bQ [] hx (E0 hC hC2) aI.nil;have dy:(callFunc f ([]:List Value).toArray).run P w= .ok (.enter f #[]) w:=by simp[callFunc,hf,mC,hb]
 rw[dy]at hr;refine Calls.mono hr λe w' he=> ?_
 cases e with
 |returned x=>
  obtain⟨ρ',h1,_,_,_,hE⟩:=he;have:=h1.kD;subst this;exact⟨rfl,hE.os,hE.tape,hE.output,hE.size,λk hk=>hE.block k hk λb x hb=>by rw[T.eV]at hb;cases hb⟩
 |panicked c=>exact he.elim
 |outgrown=>exact he.elim
section
variable{ρ:Pos->Go.Ai.Loc}{C:Cells}{st:St}{w w':World}
theorem bS.later(h:bS ρ C st w)(hb:Below w.heap.size w w'):bS ρ C st w' where
 live b x hx:=by
  obtain⟨h1,h2,h3⟩:=h.live b x hx;exact⟨h1,Zc5 h2 hb.size,h3.of_heap (hb.block _ h2)⟩
 inj:=h.inj
 dH a v ha:=by
  obtain⟨h1,h2⟩:=h.dH a v ha;exact⟨(hb.cell (World.block_lt_of_cell? _ _ h1)).trans h1,h2⟩
 whole a v ha o ho:=by
  have gx:a.block<w.heap.size:=World.block_lt_of_cell? _ _ (h.dH a v ha).1;exact(hb.cell (p:=⟨a.block,o,none⟩) gx).trans (h.whole a v ha o ho)
theorem nh.later(h:bS ρ C st w)(hb:Below w.heap.size w w'):nh ρ st w ρ st w':=⟨hb.os,hb.tape,hb.output,hb.size,λk hk _=>hb.block k hk,λb x hx=>.inl ⟨b,x,hx,rfl⟩⟩
theorem amZ(hW:bS ρ C st w){x0:AB}{base size g:Nat}(hb:Below w.heap.size w w')(hg:w.heap.size<=g)(ze:g<w'.heap.size)
   (hB:∀ρ' n',(∀b:Pos,b.toNat<st.next.toNat->ρ' b=ρ b)->st.next.toNat<=n'->ri ρ' n' C ⟨g,base,size⟩ w' x0):
   ∃ρ':Pos->Go.Ai.Loc,(∀b:Pos,b.toNat<st.next.toNat->ρ' b=ρ b)/\ρ' st.next=⟨g,base,size⟩/\bS ρ' C (st.br none none (some x0)) w'/\nh ρ st w ρ' (st.br none none (some x0)) w':=by
 let ρ':Pos->Go.Ai.Loc:=λb=>if b=st.next then⟨g,base,size⟩else ρ b
 have bG:∀b:Pos,b.toNat<st.next.toNat->ρ' b=ρ b:=λb hb=>Zb2 (λe=>by rw[e]at hb;omega)
 have iV:ρ' st.next=⟨g,base,size⟩:=Zb5 rfl;refine⟨ρ',bG,iV,?_,⟨hb.os,hb.tape,hb.output,hb.size,λk hk _=>hb.block k hk,λb x hx=> ?_⟩⟩;rotate_left
 . by_cases he:b=st.next
   .right;rw[he,iV];exact hg
   .left;simp only[St.br,Lg,HW]at hx;rw[T.bY _ (λe=>he e.symm)]at hx;exact⟨b,x,hx,by rw[bG b (hW.live b x hx).1]⟩
 refine hW.ae2 (b0:=st.next) (x0:=x0) (by rw[Pos.aK];omega) (by rw[Pos.aK];omega) (by rw[T.fP]) ?_ bG (by rw[iV];exact hB _ _ bG (by rw[Pos.aK];omega)) ?_ (by rw[iV];exact ze) hb.size (λk hk _=>hb.block k hk)
 .intro b x hb hx;simp only[Lg,HW]at hx;rw[T.bY _ (λe=>hb e.symm)]at hx;refine⟨hx,?_⟩;rw[iV];have:=(hW.live b x hx).2.1;simp only;omega
 .intro a v ha;have:=World.block_lt_of_cell? _ _ (hW.dH a v ha).1;rw[iV];simp only;omega
end
end Go.Ai
namespace Go.Proofs
open Go Go.Ai Go.RowKit Go.ax Go.Proofs.YtngcejgciomphaaGreatDoor
def ax.parseLit(t0:List Nat)(er i:Int)(n:Nat)(cs:List AV):List AV->St->Option (AV×St):=λargs st=>
 match args with
 |  [.str t]=>match kL t t0 with
    |true=>match n with
     |0=>some (.tuple [.af,.int .i64 i,.int .i64 er],st)
     |n+1=>some (.tuple [.slice st.next 0 (n+1) none 6,.int .i64 i,.int .i64 er],st.br none none (some (.cells cs 0)))
    |false=>none
 |_=>none
def ax.abn:AV->Option Value
 |.int k i=>some (.int k i)
 |.str s=>some (.string (ax.AT s))
 |_=>none
theorem ax.TA{ρ:Pos->Go.Ai.Loc}{n:Nat}{C:Cells}:∀{cs:List AV}{vs:List Value},cs.mapM ax.abn=some vs->(∀v∈cs,∃k i,v= .int k i\/∃s,v= .str s/\∀c∈s,c<256)->aI ρ n C cs vs
 |[],vs,h,_=>by simp at h;subst h;exact aI.nil
 |v ::cs,vs,h,hv=>by
  simp only[List.mapM_cons,Option.bind_eq_bind,Option.bind_eq_some_iff,Option.pure_def,H0]at h;obtain⟨y,hy,zs,hz,rfl⟩:=h;refine aI.cons ?_ (ax.TA hz λv hm=>hv v (Za8 _ hm));obtain⟨k,i,rfl|⟨s,rfl,hs⟩⟩:=hv v (Ze1 ..)
  .simp[ax.abn]at hy;subst hy;exact .int _ _
  . simp only[ax.abn,H0]at hy;subst hy;refine .str _ _ ?_;show(s.map UInt8.ofNat).toArray.toList.map UInt8.toNat=s;simp only[Zi0]
    conv=>rhs;rw[<-Zr4 s]
    (refine Zj5 λc hc=> ?_);have:=hs c hc;simp[UInt8.toNat_ofNat];omega
theorem ax.Mi{C:Cells}{m:Int}(hC:C ⟨0,0,none⟩=some (.int .i64 m)){t0:List Nat}{er i:Int}{n k:Nat}{cs:List AV}{rs:List ax.RR}(fC:t0.length<=65536)(hq:((fL (ax.AT t0)).all ax.okL&&Nat.blt (fL (ax.AT t0)).length 64)=true)(hp:ax.qZ (ax.AT t0)=(er,k,rs))(hi:i=k)(hn:n=rs.length)
  (gM:cs.mapM ax.abn=some (ax.cellsOf rs)) (hsc:∀v∈cs,∃k i,v= .int k i\/∃s,v= .str s/\∀c∈s,c<256) (hz:n=0->er≠0):oP Tryz.prog C 27 (ax.parseLit t0 er i n cs) where
 mono args st v st' h:=by
  unfold ax.parseLit at h;split at h<;>first|(cases h;done)|skip
  split at h<;>first|(cases h;done)|skip
  split at h
  .injection h with h;injection h with h1 h2;subst h2;exact Za6 _
  .injection h with h;injection h with h1 h2;subst h2;exact St.Oa _ _ _ _
 runs ρ st w args v st' bV h hW hv:=by
  unfold ax.parseLit at h;split at h<;>first|(cases h;done)|skip
  rename_i t;split at h<;>first|(cases h;done)|skip
  rename_i hbq;have ht:t=t0:=qN.1 hbq;subst ht;obtain⟨x,xs,rfl,h1,h2⟩:=hv.cons_inv;have:=h2.j5;subst this;obtain⟨bs,rfl,hs⟩:=h1.eR;have Ia:=ax.Bh hs;have hm:=(hW.dH _ _ hC).1;have ae4:bs.size<=65536:=by have:bs.data.toList.length=t.length:=(by rw[<-hs];simp);have h3:bs.size=bs.data.toList.length:=(by simp);omega
  have hc:=ax.amY bs (λx hx=>Zj3.1 ((Zb6 _ _).mp hq).1 x (by rw[<-Ia];exact hx)) (by rw[Ia];exact Za9 ((Zb6 _ _).mp hq).2) m w ae4 hm;have dy:(callFunc 27 ([Value.string bs]:List Value).toArray).run Tryz.prog w= .ok (.enter 27 #[.string bs]) w:=enters_of Tryz.func27 (by kernel_rfl) rfl _ _;rw[dy];refine Calls.mono hc λe w' UH=> ?_
  obtain⟨v',he,gy,hb,Tz⟩:=UH;rw[Ia,hp]at he gy Tz;subst he;subst hi;simp only at gy Tz ⊢;split at h
  . (injection h with h;injection h with e1 e2;subst e1;subst e2);have hv0:=Tz (.inl (hz rfl));subst hv0;exact⟨ρ,.pH (aI.cons .af (aI.cons (.int _ _) (aI.cons (.int _ _) aI.nil))),λ_ _=>rfl,Za6 _,hW.later hb,nh.later hW hb⟩
  . rename_i n';(injection h with h;injection h with e1 e2;subst e1;subst e2);rcases gy.2 with⟨_,h0⟩|⟨g,cap,cur,rfl,hg,hgb,VK,hcm,hcur,anS⟩
    .   omega
    .   have hgl:=(Zc4.1 hgb).1;have hlen:cs.length=rs.length*6:=by
         have hvr:=ax.TA (ρ:=ρ) (n:=0) (C:=C) gM hsc;rw[hvr.1,ax.Zw]
        obtain⟨ρ',bG,iV,iW,hE⟩:=amZ (x0:= .cells cs 0) (base:=0) (size:=cur.size) hW hb hg hgl (λρ' n' _ _=>
         Bo hgb (by rw[hlen,hcur];exact Zi3 _ VK) (by rw[hlen,anS];exact ax.TA gM hsc) (λi _=>by simp))
        refine⟨ρ',.pH (aI.cons ?_ (aI.cons (.int _ _) (aI.cons (.int _ _) aI.nil))),bG,St.Oa _ _ _ _,iW,hE⟩;have anT:n'+1<=cap:=(by omega);rw[<-hn];exact Kg (by simp[St.br,Pos.aK]) iV anT (λc hc=>by cases hc) (by rw[hcur];exact Za6 _)
noncomputable def ax.P1:List AV->St->Option (AV×St):=ax.parseLit [104,97,114,100,32,97,112,97,114,116,32,97,110,110,97,32,98,111,114,105,115,32,50,10,119,101,105,103,104,32,53,32,104,111,110,111,117,114,32,45,10] 0 0 2 [.int .u8 1,.int .i64 0,.str [97,110,110,97],.str [98,111,114,105,115],.str [],.int .i64 2,.int .u8 14,.int .i64 5,.str [],.str [],.str [],.int .i64 0]
noncomputable def ax.P2:List AV->St->Option (AV×St):=ax.parseLit [119,101,105,103,104,32,48,32,109,105,120,32,45,10] 41 0 0 []
noncomputable def ax.P3:List AV->St->Option (AV×St):=ax.parseLit [104,97,114,100,32,97,116,32,97,110,110,97,32,45,10] 4 0 0 []
theorem ax.anU:ax.qZ (ax.AT [104,97,114,100,32,97,112,97,114,116,32,97,110,110,97,32,98,111,114,105,115,32,50,10,119,101,105,103,104,32,53,32,104,111,110,111,117,114,32,45,10])=(0,0,[⟨1,0,⟨#[97,110,110,97]⟩,⟨#[98,111,114,105,115]⟩,⟨#[]⟩,2⟩,⟨14,5,⟨#[]⟩,⟨#[]⟩,⟨#[]⟩,0⟩]):=by kernel_rfl
theorem ax.anV:ax.qZ (ax.AT [119,101,105,103,104,32,48,32,109,105,120,32,45,10])=(41,0,[]):=by kernel_rfl
theorem ax.anW:ax.qZ (ax.AT [104,97,114,100,32,97,116,32,97,110,110,97,32,45,10])=(4,0,[]):=by kernel_rfl
theorem ax.agx{k:IntKind}{i:Int}:∃k' i',(AV.int k i)= .int k' i'\/∃s,(AV.int k i)= .str s/\∀c∈s,c<256:=⟨k,i,.inl rfl⟩
theorem ax.agy{s:List Nat}(h:s.all (λc=>decide (c<256))=true):∃k' i',(AV.str s)= .int k' i'\/∃s',(AV.str s)= .str s'/\∀c∈s',c<256:=⟨.i64,0,.inr ⟨s,rfl,λc hc=>by have:=Zj3.1 h c hc;simpa using this⟩⟩
theorem ax.anX{C:Cells}{m:Int}(hC:C ⟨0,0,none⟩=some (.int .i64 m)):oP Tryz.prog C 27 ax.P1:=
 ax.Mi hC (by decide) (by kernel_rfl) ax.anU rfl rfl (by rfl) (by
  intro v hv;simp only[Zb4,Zc8,Zg9]at hv;rcases hv with rfl|rfl|rfl|rfl|rfl|rfl|rfl|rfl|rfl|rfl|rfl|rfl<;>first|exact ax.agx|exact ax.agy (by decide)) (by decide)
theorem ax.anY{C:Cells}{m:Int}(hC:C ⟨0,0,none⟩=some (.int .i64 m)):oP Tryz.prog C 27 ax.P2:=ax.Mi hC (by decide) (by kernel_rfl) ax.anV rfl rfl rfl (by simp) (by decide)
theorem ax.anZ{C:Cells}{m:Int}(hC:C ⟨0,0,none⟩=some (.int .i64 m)):oP Tryz.prog C 27 ax.P3:=ax.Mi hC (by decide) (by kernel_rfl) ax.anW rfl rfl rfl (by simp) (by decide)
noncomputable def ax.orcA:eE:=uC [(266,Eo),(19,Xh (Ox Ue) (Ox Uf)),(27,Xh ax.P1 (Xh ax.P2 ax.P3))]
noncomputable def ax.chkA:Bool:=J6 (R:=Bool) false ax.orcA gg 100000 60 5 [] { heap:= .e,next:= .o (.i (.o (.i (.o (.i (.o (.i (.o .h)))))))) } λv _=>dO v (.bool true)
theorem ax.aid:ax.chkA=true:=by kernel_rfl
theorem ax.TB{C:Cells}:oP Tryz.prog C 266 Eo:=aiJ (fn:=Tryz.f266) Tryz.func266 (by kernel_rfl) (by kernel_rfl) (by kernel_rfl) (by kernel_rfl)
theorem ax.amg{C:Cells}:oP Tryz.prog C 19 (Ox Ue):=by have ho:=xU (P:=Tryz.prog) (C:=C) (l:=[(266,Eo)]) (λx hx=>by simp at hx;subst hx;exact ax.TB);exact abV (O:=akJ) (G:=gg) (m:=100000) (d:=60) (CD (by kernel_rfl) PE ho.1 ho.2 PG _ _) (CA ho.2 _ _) amV anN
theorem ax.amh{C:Cells}:oP Tryz.prog C 19 (Ox Uf):=by have ho:=xU (P:=Tryz.prog) (C:=C) (l:=[(266,Eo)]) (λx hx=>by simp at hx;subst hx;exact ax.TB);exact abV (O:=akK) (G:=gg) (m:=100000) (d:=60) (CD (by kernel_rfl) PE ho.1 ho.2 PG _ _) (CA ho.2 _ _) amW anO
theorem ax.aie(m:Int)(w:World)(hm:w.cell? ⟨0,0,none⟩=some (.int .i64 m)):Calls Tryz.prog 5 #[] w λe w'=>e= .returned (.bool true)/\Below w.heap.size w w':=by
 have hC:(λad=>w.cell? ad:Cells) ⟨0,0,none⟩=some (.int .i64 m):=hm;have ho:=xU (P:=Tryz.prog) (C:=λad=>w.cell? ad) (l:=[(266,Eo),(19,Xh (Ox Ue) (Ox Uf)),(27,Xh ax.P1 (Xh ax.P2 ax.P3))]) (λx hx=>by
  simp only[Zb4,Zc8,Zg9]at hx;rcases hx with rfl|rfl|rfl
  .exact ax.TB
  .exact abW ax.amg ax.amh
  .exact abW (ax.anX hC) (abW (ax.anY hC) (ax.anZ hC)))
 exact adB (by kernel_rfl) PE PG ho.1 ho.2 (fn:=Tryz.f5) (c:=Tryz.f5.body.get rfl) Tryz.func5 (by decide) rfl ax.aid w (λad v h=>h) λa v _ o h=>h
end Go.Proofs
end
