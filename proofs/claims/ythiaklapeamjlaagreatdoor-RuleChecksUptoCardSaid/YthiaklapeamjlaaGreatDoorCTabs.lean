/- The program's types and functions as the evaluator takes them. -/
import Derived.Test.YthiaklapeamjlaaGreatDoorProg
import Derived.Test.YthiaklapeamjlaaGreatDoorCEvalD
import Derived.KernelRfl
set_option linter.all false
set_option linter.unusedSectionVars false
set_option linter.deprecated false
namespace Go.Proofs.YthiaklapeamjlaaGreatDoor
noncomputable section
set_option maxRecDepth 100000
open Go Go.Ai Go.Proofs
def tt:T TI:=ttOf Go.Proofs.Tryz.prog [7,8,25,26,33,34,39,40,59,60,78,79,86,87,92,93,94,97,98,100,101,125,126,152,153,161,162,198,199,201,202,216,217,219,220,260,261,304,305]
def gg:T cL:=ggOf Go.Proofs.Tryz.prog tt
theorem akp:Er Go.Proofs.Tryz.prog (fun p=>p) tt=true:=by kernel_rfl
theorem QX:cr Go.Proofs.Tryz.prog tt:=aiC akp
theorem QY:T8 Go.Proofs.Tryz.prog tt gg:=aiD (by kernel_rfl)
end
end Go.Proofs.YthiaklapeamjlaaGreatDoor
section
end
