/- The evaluator's answer for the first call of rule.New with the chapter's example. -/
import Derived.Test.YthiaklapeamjlaaGreatDoorCTabs
import Derived.Test.YthiaklapeamjlaaGreatDoorCEvalD
import Derived.KernelRfl
set_option linter.all false
set_option linter.unusedSectionVars false
set_option linter.deprecated false
namespace Go.Proofs.YthiaklapeamjlaaGreatDoor
section
set_option maxRecDepth 1000000
open Go Go.Ai
noncomputable def aiq:dQ:=xw [(328,Bh)]
noncomputable def QV:Go.Ai.Lit:=⟨[(.agg [(kS 684 2 2 7),(kS 688 4 4 9),(kS 689 1 1 3),(kS 690 4 4 1),(kS 681 16 16 6)])],(key 691),
 [((key 681),(.cells [(kU 1),(kI 0),(.str [97,110,110,97]),(.str [98,111,114,105,115]),(.str []),(kI 2),(kU 1),(kI 0),(.str [97,110,110,97]),(.str [99,97,114,108]),(.str []),(kI 2),(kU 2),(kI 0),(.str [98,111,114,105,115]),(.str [99,97,114,108]),(.str []),(kI 0),(kU 3),(kI 0),(.str [97,110,110,97]),(.str [99,97,114,108]),(.str []),(kI 0),(kU 4),(kI 0),(.str [97,110,110,97]),(.str [100,111,114,97]),(.str []),(kI 3),(kU 8),(kI 0),(.str []),(.str []),(.str []),(kI 0),(kU 9),(kI 0),(.str []),(.str []),(.str []),(kI 0),(kU 10),(kI 0),(.str []),(.str []),(.str []),(kI 0),(kU 11),(kI 0),(.str []),(.str []),(.str []),(kI 0),(kU 12),(kI 0),(.str []),(.str []),(.str [114]),(kI 0),(kU 14),(kI 0),(.str []),(.str []),(.str []),(kI 0),(kU 15),(kI 0),(.str []),(.str []),(.str []),(kI 2),(kU 16),(kI 0),(.str []),(.str []),(.str [114]),(kI 2),(kU 5),(kI 0),(.str [97,110,110,97]),(.str [98,111,114,105,115]),(.str []),(kI 0),(kU 6),(kI 0),(.str [100,111,114,97]),(.str []),(.str [114]),(kI 0),(kU 7),(kI 0),(.str [99,97,114,108]),(.str []),(.str [114]),(kI 2)] 0)),
   ((key 690),(.cells [(kI 0),(kI 1),(kI 1),(kI 2)] 0)),
   ((key 689),(.cells [(.str [97,110,110,97]),(.str [98,111,114,105,115]),(kU 2)] 0)),
   ((key 687),(.cells [(.str [108,97,116,105,110])] 0)),
   ((key 686),(.cells [(.str [108,97,116,105,110])] 0)),
   ((key 685),(.cells [(.str [108,97,116,105,110])] 0)),
   ((key 688),(.cells [(.str [97,110,110,97]),(.str []),(.str []),(kI 0),(kI 1),(.str []),(.bool true),(.bool false),(kS 685 1 1 1),(.str [98,111,114,105,115]),(.str []),(.str []),(kI 0),(kI 1),(.str []),(.bool false),(.bool false),(kS 686 1 1 1),(.str [99,97,114,108]),(.str []),(.str []),(kI 0),(kI 2),(.str []),(.bool false),(.bool true),(kS 687 1 1 1),(.str [100,111,114,97]),(.str []),(.str []),(kI 0),(kI 0),(.str []),(.bool false),(.bool false),.ah] 0)),
   ((key 683),(.cells [(kI 1)] 0)),
   ((key 684),(.cells [(.str [114]),(kU 1),(kI 6),(kI 0),(kS 683 1 1 1),(kI 0),(kI 0),(.str [119]),(kU 4),(kI 2),(kI 0),.ah,(kI 0),(kI 0)] 0))],
 (.tuple [(.ptr (key 1057) 0),(kI 0),(kI 0)]),(key 5270),
 [((key 684),(.cells [(.str [114]),(kU 1),(kI 6),(kI 0),(kS 683 1 1 1),(kI 0),(kI 0),(.str [119]),(kU 4),(kI 2),(kI 0),.ah,(kI 0),(kI 0)] 0)),
   ((key 683),(.cells [(kI 1)] 0)),
   ((key 688),(.cells [(.str [97,110,110,97]),(.str []),(.str []),(kI 0),(kI 1),(.str []),(.bool true),(.bool false),(kS 685 1 1 1),(.str [98,111,114,105,115]),(.str []),(.str []),(kI 0),(kI 1),(.str []),(.bool false),(.bool false),(kS 686 1 1 1),(.str [99,97,114,108]),(.str []),(.str []),(kI 0),(kI 2),(.str []),(.bool false),(.bool true),(kS 687 1 1 1),(.str [100,111,114,97]),(.str []),(.str []),(kI 0),(kI 0),(.str []),(.bool false),(.bool false),.ah] 0)),
   ((key 685),(.cells [(.str [108,97,116,105,110])] 0)),
   ((key 686),(.cells [(.str [108,97,116,105,110])] 0)),
   ((key 687),(.cells [(.str [108,97,116,105,110])] 0)),
   ((key 689),(.cells [(.str [97,110,110,97]),(.str [98,111,114,105,115]),(kU 2)] 0)),
   ((key 690),(.cells [(kI 0),(kI 1),(kI 1),(kI 2)] 0)),
   ((key 681),(.cells [(kU 1),(kI 0),(.str [97,110,110,97]),(.str [98,111,114,105,115]),(.str []),(kI 2),(kU 1),(kI 0),(.str [97,110,110,97]),(.str [99,97,114,108]),(.str []),(kI 2),(kU 2),(kI 0),(.str [98,111,114,105,115]),(.str [99,97,114,108]),(.str []),(kI 0),(kU 3),(kI 0),(.str [97,110,110,97]),(.str [99,97,114,108]),(.str []),(kI 0),(kU 4),(kI 0),(.str [97,110,110,97]),(.str [100,111,114,97]),(.str []),(kI 3),(kU 8),(kI 0),(.str []),(.str []),(.str []),(kI 0),(kU 9),(kI 0),(.str []),(.str []),(.str []),(kI 0),(kU 10),(kI 0),(.str []),(.str []),(.str []),(kI 0),(kU 11),(kI 0),(.str []),(.str []),(.str []),(kI 0),(kU 12),(kI 0),(.str []),(.str []),(.str [114]),(kI 0),(kU 14),(kI 0),(.str []),(.str []),(.str []),(kI 0),(kU 15),(kI 0),(.str []),(.str []),(.str []),(kI 2),(kU 16),(kI 0),(.str []),(.str []),(.str [114]),(kI 2),(kU 5),(kI 0),(.str [97,110,110,97]),(.str [98,111,114,105,115]),(.str []),(kI 0),(kU 6),(kI 0),(.str [100,111,114,97]),(.str []),(.str [114]),(kI 0),(kU 7),(kI 0),(.str [99,97,114,108]),(.str []),(.str [114]),(kI 2)] 0)),
   ((key 5265),(.cells [(kU 0),(kU 0),(kU 0),(kU 0)] 0)),
   ((key 5186),(.cells [(kU 0),(kU 0),(kU 0),(kU 0)] 0)),
   ((key 5099),(.cells [(kU 2),(kU 0),(kU 0),(kU 0)] 0)),
   ((key 5010),(.cells [(kU 0),(kU 2),(kU 0),(kU 0)] 0)),
   ((key 5269),(.cells [(kN 5010 4 1),(kN 5099 4 1),(kN 5186 4 1),(kN 5265 4 1)] 0)),
   ((key 5259),(.cells [(.bool false),(.bool false),(.bool false),(.bool false)] 0)),
   ((key 5180),(.cells [(.bool true),(.bool true),(.bool true),(.bool false)] 0)),
   ((key 5093),(.cells [(.bool true),(.bool true),(.bool true),(.bool false)] 0)),
   ((key 5004),(.cells [(.bool true),(.bool true),(.bool true),(.bool false)] 0)),
   ((key 5267),(.cells [(kN 5004 4 1),(kN 5093 4 1),(kN 5180 4 1),(kN 5259 4 1)] 0)),
   ((key 4872),(.map [((kI 7),(kI 0),0),((kI 6),(kI 1),1)] 2)),
   ((key 4864),(.map [((kI 6),(kI 0),0),((kI 7),(kI 1),1)] 2)),
   ((key 4844),(.map [((kI 5),(kI 0),0),((kI 0),(kI 1),1),((kI 4),(kI 1),2),((kI 2),(kI 1),3),((kI 1),(kI 2),4),((kI 3),(kI 2),5)] 6)),
   ((key 4824),(.map [((kI 4),(kI 0),0),((kI 3),(kI 1),1),((kI 5),(kI 1),2),((kI 1),(kI 1),3),((kI 2),(kI 2),4),((kI 0),(kI 2),5)] 6)),
   ((key 4804),(.map [((kI 3),(kI 0),0),((kI 2),(kI 1),1),((kI 4),(kI 1),2),((kI 0),(kI 1),3),((kI 1),(kI 2),4),((kI 5),(kI 2),5)] 6)),
   ((key 4784),(.map [((kI 2),(kI 0),0),((kI 1),(kI 1),1),((kI 3),(kI 1),2),((kI 5),(kI 1),3),((kI 0),(kI 2),4),((kI 4),(kI 2),5)] 6)),
   ((key 4764),(.map [((kI 1),(kI 0),0),((kI 0),(kI 1),1),((kI 2),(kI 1),2),((kI 4),(kI 1),3),((kI 5),(kI 2),4),((kI 3),(kI 2),5)] 6)),
   ((key 4744),(.map [((kI 0),(kI 0),0),((kI 1),(kI 1),1),((kI 5),(kI 1),2),((kI 3),(kI 1),3),((kI 2),(kI 2),4),((kI 4),(kI 2),5)] 6)),
   ((key 4879),(.cells [(.map (key 4744)),(.map (key 4764)),(.map (key 4784)),(.map (key 4804)),(.map (key 4824)),(.map (key 4844)),(.map (key 4864)),(.map (key 4872))] 0)),
   ((key 4130),(.cells [(kI 2)] 0)),
   ((key 3569),(.cells [(kI 1)] 0)),
   ((key 3008),(.cells [(kI 0)] 0)),
   ((key 2657),(.cells [(kI 5)] 0)),
   ((key 2096),(.cells [(kI 4)] 0)),
   ((key 1535),(.cells [(kI 3)] 0)),
   ((key 4742),(.cells [(kN 1535 1 1),(kN 2096 1 1),(kN 2657 1 1),(kN 3008 1 1),(kN 3569 1 1),(kN 4130 1 1),.ah,.ah] 0)),
   ((key 4609),(.cells [(kI 6)] 0)),
   ((key 4414),(.cells [(kI 7)] 0)),
   ((key 3986),(.cells [(kI 0),(kI 4)] 0)),
   ((key 3495),(.cells [(kI 3),(kI 5)] 0)),
   ((key 2934),(.cells [(kI 2),(kI 4)] 0)),
   ((key 2373),(.cells [(kI 1),(kI 3)] 0)),
   ((key 1812),(.cells [(kI 0),(kI 2)] 0)),
   ((key 1391),(.cells [(kI 1),(kI 5)] 0)),
   ((key 4654),(.cells [(kN 1391 2 1),(kN 1812 2 1),(kN 2373 2 1),(kN 2934 2 1),(kN 3495 2 1),(kN 3986 2 1),(kN 4414 1 1),(kN 4609 1 1)] 0)),
   ((key 4564),(.cells [(.bool false),(.bool true),(.bool false),(.bool false),(.bool false),(.bool false),(.bool false),(.bool false)] 0)),
   ((key 4543),(.cells [(kI 0),(kI 1),(kI 2),(kI 1),(kI 2),(kI 1),(kI 1),(kI 0)] 0)),
   ((key 4507),(.cells [(kI 0),(kI 0),(kI 0),(kI 0),(kI 0),(kI 0),(kI 1),(kI 1)] 0)),
   ((key 1056),(.map [((kU 1),(.agg [(.str [97,112,97,114,116]),(kU 103),(.bool true),(kU 0),(.bool true),(kI 0),(.bool false),(.func 132 [] [])]),0),((kU 2),(.agg [(.str [98,101,115,105,100,101]),(kU 103),(.bool true),(kU 0),(.bool false),(kI 0),(.bool false),(.func 133 [] [])]),1),((kU 3),(.agg [(.str [97,99,114,111,115,115]),(kU 103),(.bool true),(kU 0),(.bool false),(kI 0),(.bool false),(.func 134 [] [])]),2),((kU 4),(.agg [(.str [110,101,97,114]),(kU 103),(.bool true),(kU 0),(.bool true),(kI 1),(.bool false),(.func 135 [] [])]),3),((kU 5),(.agg [(.str [116,111,103,101,116,104,101,114]),(kU 103),(.bool true),(kU 0),(.bool false),(kI 0),(.bool false),(.func 136 [] [])]),4),((kU 6),(.agg [(.str [97,116]),(kU 103),(.bool false),(kU 116),(.bool false),(kI 0),(.bool false),(.func 137 [] [])]),5),((kU 7),(.agg [(.str [115,101,97,116]),(kU 103),(.bool false),(kU 116),(.bool true),(kI 0),(.bool true),(.func 138 [] [])]),6),((kU 8),(.agg [(.str [97,108,116,101,114,110,97,116,101]),(kU 0),(.bool false),(kU 101),(.bool false),(kI 0),(.bool false),(.func 139 [] [])]),7),((kU 9),(.agg [(.str [104,111,115,116]),(kU 0),(.bool false),(kU 101),(.bool false),(kI 0),(.bool false),(.func 140 [] [])]),8),((kU 10),(.agg [(.str [114,101,97,99,104]),(kU 101),(.bool false),(kU 0),(.bool false),(kI 0),(.bool false),(.func 141 [] [])]),9),((kU 11),(.agg [(.str [115,112,101,97,107]),(kU 0),(.bool false),(kU 101),(.bool false),(kI 0),(.bool false),(.func 142 [] [])]),10),((kU 12),(.agg [(.str [112,101,97,99,101]),(kU 0),(.bool false),(kU 101),(.bool false),(kI 0),(.bool false),(.func 143 [] [])]),11),((kU 13),(.agg [(.str [99,111,109,112,97,110,121]),(kU 0),(.bool false),(kU 101),(.bool false),(kI 0),(.bool false),(.func 144 [] [])]),12),((kU 14),(.agg [(.str [104,111,110,111,117,114]),(kU 0),(.bool false),(kU 101),(.bool false),(kI 0),(.bool false),(.func 145 [] [])]),13),((kU 15),(.agg [(.str [102,105,108,108]),(kU 0),(.bool false),(kU 101),(.bool true),(kI 0),(.bool false),(.func 146 [] [])]),14),((kU 16),(.agg [(.str [108,105,109,105,116]),(kU 0),(.bool false),(kU 101),(.bool true),(kI 0),(.bool false),(.func 147 [] [])]),15),((kU 17),(.agg [(.str [107,105,116,99,104,101,110]),(kU 100),(.bool false),(kU 116),(.bool false),(kI 0),(.bool false),(.func 148 [] [])]),16),((kU 18),(.agg [(.str [109,105,120]),(kU 0),(.bool false),(kU 101),(.bool false),(kI 0),(.bool false),(.func 149 [] [])]),17)] 18)),
   ((key 1055),(.cells [(kU 1),(kI 0),(.str [97,110,110,97]),(.str [98,111,114,105,115]),(.str []),(kI 2),(kU 1),(kI 0),(.str [97,110,110,97]),(.str [99,97,114,108]),(.str []),(kI 2),(kU 2),(kI 0),(.str [98,111,114,105,115]),(.str [99,97,114,108]),(.str []),(kI 0),(kU 3),(kI 0),(.str [97,110,110,97]),(.str [99,97,114,108]),(.str []),(kI 0),(kU 4),(kI 0),(.str [97,110,110,97]),(.str [100,111,114,97]),(.str []),(kI 3),(kU 8),(kI 0),(.str []),(.str []),(.str []),(kI 0),(kU 9),(kI 0),(.str []),(.str []),(.str []),(kI 0),(kU 10),(kI 0),(.str []),(.str []),(.str []),(kI 0),(kU 11),(kI 0),(.str []),(.str []),(.str []),(kI 0),(kU 12),(kI 0),(.str []),(.str []),(.str [114]),(kI 0),(kU 14),(kI 0),(.str []),(.str []),(.str []),(kI 0),(kU 15),(kI 0),(.str []),(.str []),(.str []),(kI 2),(kU 16),(kI 0),(.str []),(.str []),(.str [114]),(kI 2),(kU 5),(kI 0),(.str [97,110,110,97]),(.str [98,111,114,105,115]),(.str []),(kI 0),(kU 6),(kI 0),(.str [100,111,114,97]),(.str []),(.str [114]),(kI 0),(kU 7),(kI 0),(.str [99,97,114,108]),(.str []),(.str [114]),(kI 2)] 0)),
   ((key 1053),(.cells [(kI 0),(kI 1),(kI 1),(kI 2)] 0)),
   ((key 1051),(.cells [(.str [97,110,110,97]),(.str [98,111,114,105,115]),(kU 2)] 0)),
   ((key 1049),(.cells [(.str [108,97,116,105,110])] 0)),
   ((key 1047),(.cells [(.str [108,97,116,105,110])] 0)),
   ((key 1045),(.cells [(.str [108,97,116,105,110])] 0)),
   ((key 1043),(.cells [(.str [97,110,110,97]),(.str []),(.str []),(kI 0),(kI 1),(.str []),(.bool true),(.bool false),(kN 1045 1 1),(.str [98,111,114,105,115]),(.str []),(.str []),(kI 0),(kI 1),(.str []),(.bool false),(.bool false),(kN 1047 1 1),(.str [99,97,114,108]),(.str []),(.str []),(kI 0),(kI 2),(.str []),(.bool false),(.bool true),(kN 1049 1 1),(.str [100,111,114,97]),(.str []),(.str []),(kI 0),(kI 0),(.str []),(.bool false),(.bool false),.ah] 0)),
   ((key 1041),(.cells [(kI 1)] 0)),
   ((key 1039),(.cells [(.str [114]),(kU 1),(kI 6),(kI 0),(kN 1041 1 1),(kI 0),(kI 0),(.str [119]),(kU 4),(kI 2),(kI 0),.ah,(kI 0),(kI 0)] 0)),
   ((key 1057),(.cells [(kN 1039 2 7),(kN 1043 4 9),(kN 1051 1 3),(kN 1053 4 1),(kN 1055 16 6),(.map (key 1056)),(kN 4507 8 1),(kN 4543 8 1),(kN 4564 8 1),(kN 4654 8 1),(kN 4742 8 1),(kN 4879 8 1),(kN 5267 4 1),(kN 5269 4 1)] 0))]⟩
theorem alb:Ul QV aiq gg 100000 60 22=true:=by kernel_rfl
theorem akn:Uk QV.L0 QV.L1=true:=by kernel_rfl
end
end Go.Proofs.YthiaklapeamjlaaGreatDoor
