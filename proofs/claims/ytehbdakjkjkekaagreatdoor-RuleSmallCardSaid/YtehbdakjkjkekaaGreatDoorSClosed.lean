/- The closed facts of the row. -/
import Derived.Test.YtehbdakjkjkekaaGreatDoorRows
import Derived.WalkKit
import Derived.ProofKit
import Derived.OpenShut
import Derived.Deep.DeepHandedRow
set_option linter.all false
set_option linter.unusedSectionVars false
set_option linter.deprecated false
section
set_option maxRecDepth 100000
namespace Go.Proofs.YtehbdakjkjkekaaGreatDoor.zh
open Go
theorem k1:(Rows.ruleSmallRow.inPlace==Tryz.pinned.checked.prog.inPlace 5)=true:=by kernel_rfl
theorem k2:(Rows.ruleSmallRow.unfollowed==Tryz.pinned.checked.prog.unfollowed 5)=true:=by kernel_rfl
theorem k3:(Rows.ruleSmallRow.recurses==Tryz.pinned.checked.prog.recurses 5)=true:=by kernel_rfl
theorem k4:(Rows.ruleSmallRow.named==Tryz.pinned.checked.prog.varsNamed 5)=true:=by kernel_rfl
theorem k5:laidOutB Tryz.pinned.checked.prog=true:=by kernel_rfl
theorem k6:mapsRowed Tryz.pinned.checked.prog=true:=by kernel_rfl
theorem k7:(Rows.ruleSmallRow.plainKeys==Tryz.pinned.checked.prog.plainKeys)=true:=by kernel_rfl
theorem closed:joinedFacts Tryz.pinned.checked.prog 5 Tryz.f5 (OpenSpec.ofChange Rows.ruleSmallSpec).bare Rows.ruleSmallRow=true:=by
 unfold joinedFacts
 rw[k1,k2,k3,k4,k5,k6,k7]
 kernel_rfl
end Go.Proofs.YtehbdakjkjkekaaGreatDoor.zh
end
