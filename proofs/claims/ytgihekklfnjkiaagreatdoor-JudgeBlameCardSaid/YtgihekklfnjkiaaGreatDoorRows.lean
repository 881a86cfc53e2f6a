/-
  NARROWER THAN 'FOR EVERY INPUT', by the rows' own cells (each row's printed sentence says how): JudgeBlame: laid · JudgeTables: laid · JudgeGrows: laid · JudgeDead: laid · JudgeAdds: laid · JudgeScope: laid.
  DERIVED. THE GIVEN ROWS OF THIS SEAT. 6 by the template 'for every input the law returns true; each argument reads behind the call as it read before'; 0 by the template 'total and deterministic' (their statements: YtgihekklfnjkiaaGreatDoorTotals.lean).
  GIVEN WITH THE SEED: the statements are not yours to turn. If you find one false, say at which input.
  Laid BY PROGRAM, IN A SANDBOX (cutbox-rows.mjs): the forced cells as the released guide's own fill.sh prints them over the translation 499522143c198a57… (all of the seat's roots in one cut). By AI agents, Wed Nov 11 2026. No macro, syntax, notation, axiom, sorry.
-/
import Derived.Test.YtgihekklfnjkiaaGreatDoorChecked
import GoSem.PinnedTables
import GoSem.Claim
import GoSem.ClaimJoined
import GoSem.ClaimMapViews
import Derived.JoinedTies
import Derived.KernelRfl
namespace Go.Proofs.YtgihekklfnjkiaaGreatDoor
/- THE CELL 'sum', in the pinned program and in every row, IS THE sha256 OF THE DUMP (.gsa) THAT YtgihekklfnjkiaaGreatDoorProg.lean LOADS. Nothing in Lean hashes anything: it is a label: what it is worth is what the hold of that sum in a sandbox is worth. -/
noncomputable def Tryz.pinned : Pinned := { name := "ytgihekklfnjkiaagreatdoor", sum := "499522143c198a57e617c40c3916472c636c3d65d366117bc6c235153743d5e2", checked := Tryz.checked }
namespace Rows
def none {H : Type} : Left H := { results := [], args := [] }

/- WHAT THE LISTED PACKAGE-LEVEL VARIABLES READ AS WHEN THE CALL BEGINS. Each datum BY PROGRAM (the guide's laid-datum.mjs) off the statement by which the dump's own 'gosem.cut.vars' lays the variable. In a bare row this is a premise. The card (YtgihekklfnjkiaaGreatDoorCards.lean) ties it to the program's text. -/
def laid_unicode_utf8_acceptRanges {H : Type} : DataW H := .agg [.agg [.lit (.int .u8 128), .lit (.int .u8 191)], .agg [.lit (.int .u8 160), .lit (.int .u8 191)], .agg [.lit (.int .u8 128), .lit (.int .u8 159)], .agg [.lit (.int .u8 144), .lit (.int .u8 191)], .agg [.lit (.int .u8 128), .lit (.int .u8 143)], .agg [.lit (.int .u8 0), .lit (.int .u8 0)], .agg [.lit (.int .u8 0), .lit (.int .u8 0)], .agg [.lit (.int .u8 0), .lit (.int .u8 0)], .agg [.lit (.int .u8 0), .lit (.int .u8 0)], .agg [.lit (.int .u8 0), .lit (.int .u8 0)], .agg [.lit (.int .u8 0), .lit (.int .u8 0)], .agg [.lit (.int .u8 0), .lit (.int .u8 0)], .agg [.lit (.int .u8 0), .lit (.int .u8 0)], .agg [.lit (.int .u8 0), .lit (.int .u8 0)], .agg [.lit (.int .u8 0), .lit (.int .u8 0)], .agg [.lit (.int .u8 0), .lit (.int .u8 0)]]
/-- One of Go's own tables, pinned by name: the form's constant. -/
def laid_unicode_utf8_first : DataW Unit := Go.Pinned.utf8First

/-- 'trestlelaw04.JudgeBlame': WHATEVER THE INPUT: true; the input reads as it did. -/
def judgeBlameSpec : ChangeSpec := { name := "judgeBlame", fn := fun _ => fun
  | [d1, d2] => { results := [.lit (.bool true)], args := [d1, d2] }
  | _ => none }
def judgeBlameRow : OpenClaim := { program := "ytgihekklfnjkiaagreatdoor", sum := "499522143c198a57e617c40c3916472c636c3d65d366117bc6c235153743d5e2", func := "trestle/trestlelaw04.JudgeBlame", spec := "judgeBlame", inPlace := ["internal/bytealg.abigen_runtime_cmpstring", "slices.overlaps[trestle/api.Tie]", "internal/bytealg.IndexByteString", "internal/bytealg.CountString", "internal/bytealg.IndexString"], unfollowed := true, recurses := true, named := ["unicode/utf8.first", "unicode/utf8.acceptRanges", "internal/bytealg.MaxLen"], apart := false, laid := [("unicode/utf8.acceptRanges", laid_unicode_utf8_acceptRanges), ("unicode/utf8.first", laid_unicode_utf8_first)] }
def JudgeBlameSaid : Prop := judgeBlameRow.holds Tryz.pinned (OpenSpec.ofChange judgeBlameSpec)

/-- ITS FALSE NEIGHBOUR: 'it returns false'. Refute it at one input. -/
def judgeBlameWrong : ChangeSpec := { name := "judgeBlame", fn := fun _ => fun
  | [d1, d2] => { results := [.lit (.bool false)], args := [d1, d2] }
  | _ => none }
def JudgeBlameWrongFalsely : Prop := judgeBlameRow.holds Tryz.pinned (OpenSpec.ofChange judgeBlameWrong)

/-- 'trestlelaw04.JudgeTables': WHATEVER THE INPUT: true; the input reads as it did. -/
def judgeTablesSpec : ChangeSpec := { name := "judgeTables", fn := fun _ => fun
  | [d1, d2, d3] => { results := [.lit (.bool true)], args := [d1, d2, d3] }
  | _ => none }
def judgeTablesRow : OpenClaim := { program := "ytgihekklfnjkiaagreatdoor", sum := "499522143c198a57e617c40c3916472c636c3d65d366117bc6c235153743d5e2", func := "trestle/trestlelaw04.JudgeTables", spec := "judgeTables", inPlace := ["internal/bytealg.abigen_runtime_cmpstring", "slices.overlaps[trestle/api.Tie]", "internal/bytealg.IndexByteString", "internal/bytealg.CountString", "internal/bytealg.IndexString"], unfollowed := true, recurses := true, named := ["unicode/utf8.first", "unicode/utf8.acceptRanges", "internal/bytealg.MaxLen"], apart := false, laid := [("unicode/utf8.acceptRanges", laid_unicode_utf8_acceptRanges), ("unicode/utf8.first", laid_unicode_utf8_first)] }
def JudgeTablesSaid : Prop := judgeTablesRow.holds Tryz.pinned (OpenSpec.ofChange judgeTablesSpec)

/-- ITS FALSE NEIGHBOUR: 'it returns false'. Refute it at one input. -/
def judgeTablesWrong : ChangeSpec := { name := "judgeTables", fn := fun _ => fun
  | [d1, d2, d3] => { results := [.lit (.bool false)], args := [d1, d2, d3] }
  | _ => none }
def JudgeTablesWrongFalsely : Prop := judgeTablesRow.holds Tryz.pinned (OpenSpec.ofChange judgeTablesWrong)

/-- 'trestlelaw04.JudgeGrows': WHATEVER THE INPUT: true; the input reads as it did. -/
def judgeGrowsSpec : ChangeSpec := { name := "judgeGrows", fn := fun _ => fun
  | [d1, d2, d3] => { results := [.lit (.bool true)], args := [d1, d2, d3] }
  | _ => none }
def judgeGrowsRow : OpenClaim := { program := "ytgihekklfnjkiaagreatdoor", sum := "499522143c198a57e617c40c3916472c636c3d65d366117bc6c235153743d5e2", func := "trestle/trestlelaw04.JudgeGrows", spec := "judgeGrows", inPlace := ["internal/bytealg.abigen_runtime_cmpstring", "slices.overlaps[trestle/api.Tie]", "internal/bytealg.IndexByteString", "internal/bytealg.CountString", "internal/bytealg.IndexString"], unfollowed := true, recurses := true, named := ["unicode/utf8.first", "unicode/utf8.acceptRanges", "internal/bytealg.MaxLen"], apart := false, laid := [("unicode/utf8.acceptRanges", laid_unicode_utf8_acceptRanges), ("unicode/utf8.first", laid_unicode_utf8_first)] }
def JudgeGrowsSaid : Prop := judgeGrowsRow.holds Tryz.pinned (OpenSpec.ofChange judgeGrowsSpec)

/-- ITS FALSE NEIGHBOUR: 'it returns false'. Refute it at one input. -/
def judgeGrowsWrong : ChangeSpec := { name := "judgeGrows", fn := fun _ => fun
  | [d1, d2, d3] => { results := [.lit (.bool false)], args := [d1, d2, d3] }
  | _ => none }
def JudgeGrowsWrongFalsely : Prop := judgeGrowsRow.holds Tryz.pinned (OpenSpec.ofChange judgeGrowsWrong)

/-- 'trestlelaw04.JudgeDead': WHATEVER THE INPUT: true; the input reads as it did. -/
def judgeDeadSpec : ChangeSpec := { name := "judgeDead", fn := fun _ => fun
  | [d1, d2, d3] => { results := [.lit (.bool true)], args := [d1, d2, d3] }
  | _ => none }
def judgeDeadRow : OpenClaim := { program := "ytgihekklfnjkiaagreatdoor", sum := "499522143c198a57e617c40c3916472c636c3d65d366117bc6c235153743d5e2", func := "trestle/trestlelaw04.JudgeDead", spec := "judgeDead", inPlace := ["internal/bytealg.abigen_runtime_cmpstring", "slices.overlaps[trestle/api.Tie]", "internal/bytealg.IndexByteString", "internal/bytealg.CountString", "internal/bytealg.IndexString"], unfollowed := true, recurses := true, named := ["unicode/utf8.first", "unicode/utf8.acceptRanges", "internal/bytealg.MaxLen"], apart := false, laid := [("unicode/utf8.acceptRanges", laid_unicode_utf8_acceptRanges), ("unicode/utf8.first", laid_unicode_utf8_first)] }
def JudgeDeadSaid : Prop := judgeDeadRow.holds Tryz.pinned (OpenSpec.ofChange judgeDeadSpec)

/-- ITS FALSE NEIGHBOUR: 'it returns false'. Refute it at one input. -/
def judgeDeadWrong : ChangeSpec := { name := "judgeDead", fn := fun _ => fun
  | [d1, d2, d3] => { results := [.lit (.bool false)], args := [d1, d2, d3] }
  | _ => none }
def JudgeDeadWrongFalsely : Prop := judgeDeadRow.holds Tryz.pinned (OpenSpec.ofChange judgeDeadWrong)

/-- 'trestlelaw04.JudgeAdds': WHATEVER THE INPUT: true; the input reads as it did. -/
def judgeAddsSpec : ChangeSpec := { name := "judgeAdds", fn := fun _ => fun
  | [d1, d2] => { results := [.lit (.bool true)], args := [d1, d2] }
  | _ => none }
def judgeAddsRow : OpenClaim := { program := "ytgihekklfnjkiaagreatdoor", sum := "499522143c198a57e617c40c3916472c636c3d65d366117bc6c235153743d5e2", func := "trestle/trestlelaw04.JudgeAdds", spec := "judgeAdds", inPlace := ["internal/bytealg.abigen_runtime_cmpstring", "slices.overlaps[trestle/api.Tie]", "internal/bytealg.IndexByteString", "internal/bytealg.CountString", "internal/bytealg.IndexString"], unfollowed := true, recurses := true, named := ["unicode/utf8.first", "unicode/utf8.acceptRanges", "internal/bytealg.MaxLen"], apart := false, laid := [("unicode/utf8.acceptRanges", laid_unicode_utf8_acceptRanges), ("unicode/utf8.first", laid_unicode_utf8_first)] }
def JudgeAddsSaid : Prop := judgeAddsRow.holds Tryz.pinned (OpenSpec.ofChange judgeAddsSpec)

/-- ITS FALSE NEIGHBOUR: 'it returns false'. Refute it at one input. -/
def judgeAddsWrong : ChangeSpec := { name := "judgeAdds", fn := fun _ => fun
  | [d1, d2] => { results := [.lit (.bool false)], args := [d1, d2] }
  | _ => none }
def JudgeAddsWrongFalsely : Prop := judgeAddsRow.holds Tryz.pinned (OpenSpec.ofChange judgeAddsWrong)

/-- 'trestlelaw04.JudgeScope': WHATEVER THE INPUT: true; the input reads as it did. -/
def judgeScopeSpec : ChangeSpec := { name := "judgeScope", fn := fun _ => fun
  | [d1, d2, d3, d4] => { results := [.lit (.bool true)], args := [d1, d2, d3, d4] }
  | _ => none }
def judgeScopeRow : OpenClaim := { program := "ytgihekklfnjkiaagreatdoor", sum := "499522143c198a57e617c40c3916472c636c3d65d366117bc6c235153743d5e2", func := "trestle/trestlelaw04.JudgeScope", spec := "judgeScope", inPlace := ["internal/bytealg.abigen_runtime_cmpstring", "slices.overlaps[trestle/api.Tie]", "internal/bytealg.IndexByteString", "internal/bytealg.CountString", "internal/bytealg.IndexString"], unfollowed := true, recurses := true, named := ["unicode/utf8.first", "unicode/utf8.acceptRanges", "internal/bytealg.MaxLen"], apart := false, laid := [("unicode/utf8.acceptRanges", laid_unicode_utf8_acceptRanges), ("unicode/utf8.first", laid_unicode_utf8_first)] }
def JudgeScopeSaid : Prop := judgeScopeRow.holds Tryz.pinned (OpenSpec.ofChange judgeScopeSpec)

/-- ITS FALSE NEIGHBOUR: 'it returns false'. Refute it at one input. -/
def judgeScopeWrong : ChangeSpec := { name := "judgeScope", fn := fun _ => fun
  | [d1, d2, d3, d4] => { results := [.lit (.bool false)], args := [d1, d2, d3, d4] }
  | _ => none }
def JudgeScopeWrongFalsely : Prop := judgeScopeRow.holds Tryz.pinned (OpenSpec.ofChange judgeScopeWrong)

/- THE SECOND FORM. 'bulk': how many values and letters a reading holds, each counted each time it is reached (what is shared counts as often as it is met; a slice's spare places count too). A statement '..UptoSaid' is the law's where the arguments, and the package variables that the reading takes, are together of bulk at most 1048576: NARROWER than '..Said'. Prove '..Said' where nothing that the law and all that it calls make is longer than what came in: it says more and counts as full. Else prove '..UptoSaid'. A law counts once. -/
mutual
def uptoBulk {H : Type} : DataW H → Nat
  | .lit (.string bytes) => bytes.length + 1
  | .lit _ => 1
  | .nil => 1
  | .ptr d => uptoBulk d + 1
  | .slice elems spare => uptoBulkAll elems + uptoBulkAll spare + 1
  | .agg parts => uptoBulkAll parts + 1
  | .iface _ d => uptoBulk d + 1
  | .map entries => uptoBulkEntries entries + 1
  | .held _ => 1
def uptoBulkAll {H : Type} : List (DataW H) → Nat
  | [] => 0
  | d :: r => uptoBulk d + uptoBulkAll r
def uptoBulkEntries {H : Type} : List (Lit × DataW H) → Nat
  | [] => 0
  | x :: r => uptoBulkEntry x + uptoBulkEntries r
def uptoBulkEntry {H : Type} : Lit × DataW H → Nat
  | (.string bytes, d) => bytes.length + uptoBulk d + 1
  | (_, d) => uptoBulk d + 1
 end
def uptoSmall : (H : Type) → List (DataW H) → Bool := fun _ ds => decide (uptoBulkAll ds ≤ 1048576)
def OpenSpec.upto (s : _root_.Go.ChangeSpec) : _root_.Go.OpenSpec := { _root_.Go.OpenSpec.ofChange s with cond := some uptoSmall }

/-- 'trestlelaw04.JudgeBlame', WHERE WHAT IT READS IS OF BULK AT MOST 1048576: true; the input reads as it did. -/
def judgeBlameUptoRow : OpenClaim := { program := "ytgihekklfnjkiaagreatdoor", sum := "499522143c198a57e617c40c3916472c636c3d65d366117bc6c235153743d5e2", func := "trestle/trestlelaw04.JudgeBlame", spec := "judgeBlame", inPlace := ["internal/bytealg.abigen_runtime_cmpstring", "slices.overlaps[trestle/api.Tie]", "internal/bytealg.IndexByteString", "internal/bytealg.CountString", "internal/bytealg.IndexString"], unfollowed := true, recurses := true, named := ["unicode/utf8.first", "unicode/utf8.acceptRanges", "internal/bytealg.MaxLen"], apart := false, laid := [("unicode/utf8.acceptRanges", laid_unicode_utf8_acceptRanges), ("unicode/utf8.first", laid_unicode_utf8_first)], narrowed := true }
def JudgeBlameUptoSaid : Prop := judgeBlameUptoRow.holds Tryz.pinned (OpenSpec.upto judgeBlameSpec)

/-- 'trestlelaw04.JudgeTables', WHERE WHAT IT READS IS OF BULK AT MOST 1048576: true; the input reads as it did. -/
def judgeTablesUptoRow : OpenClaim := { program := "ytgihekklfnjkiaagreatdoor", sum := "499522143c198a57e617c40c3916472c636c3d65d366117bc6c235153743d5e2", func := "trestle/trestlelaw04.JudgeTables", spec := "judgeTables", inPlace := ["internal/bytealg.abigen_runtime_cmpstring", "slices.overlaps[trestle/api.Tie]", "internal/bytealg.IndexByteString", "internal/bytealg.CountString", "internal/bytealg.IndexString"], unfollowed := true, recurses := true, named := ["unicode/utf8.first", "unicode/utf8.acceptRanges", "internal/bytealg.MaxLen"], apart := false, laid := [("unicode/utf8.acceptRanges", laid_unicode_utf8_acceptRanges), ("unicode/utf8.first", laid_unicode_utf8_first)], narrowed := true }
def JudgeTablesUptoSaid : Prop := judgeTablesUptoRow.holds Tryz.pinned (OpenSpec.upto judgeTablesSpec)

/-- 'trestlelaw04.JudgeGrows', WHERE WHAT IT READS IS OF BULK AT MOST 1048576: true; the input reads as it did. -/
def judgeGrowsUptoRow : OpenClaim := { program := "ytgihekklfnjkiaagreatdoor", sum := "499522143c198a57e617c40c3916472c636c3d65d366117bc6c235153743d5e2", func := "trestle/trestlelaw04.JudgeGrows", spec := "judgeGrows", inPlace := ["internal/bytealg.abigen_runtime_cmpstring", "slices.overlaps[trestle/api.Tie]", "internal/bytealg.IndexByteString", "internal/bytealg.CountString", "internal/bytealg.IndexString"], unfollowed := true, recurses := true, named := ["unicode/utf8.first", "unicode/utf8.acceptRanges", "internal/bytealg.MaxLen"], apart := false, laid := [("unicode/utf8.acceptRanges", laid_unicode_utf8_acceptRanges), ("unicode/utf8.first", laid_unicode_utf8_first)], narrowed := true }
def JudgeGrowsUptoSaid : Prop := judgeGrowsUptoRow.holds Tryz.pinned (OpenSpec.upto judgeGrowsSpec)

/-- 'trestlelaw04.JudgeDead', WHERE WHAT IT READS IS OF BULK AT MOST 1048576: true; the input reads as it did. -/
def judgeDeadUptoRow : OpenClaim := { program := "ytgihekklfnjkiaagreatdoor", sum := "499522143c198a57e617c40c3916472c636c3d65d366117bc6c235153743d5e2", func := "trestle/trestlelaw04.JudgeDead", spec := "judgeDead", inPlace := ["internal/bytealg.abigen_runtime_cmpstring", "slices.overlaps[trestle/api.Tie]", "internal/bytealg.IndexByteString", "internal/bytealg.CountString", "internal/bytealg.IndexString"], unfollowed := true, recurses := true, named := ["unicode/utf8.first", "unicode/utf8.acceptRanges", "internal/bytealg.MaxLen"], apart := false, laid := [("unicode/utf8.acceptRanges", laid_unicode_utf8_acceptRanges), ("unicode/utf8.first", laid_unicode_utf8_first)], narrowed := true }
def JudgeDeadUptoSaid : Prop := judgeDeadUptoRow.holds Tryz.pinned (OpenSpec.upto judgeDeadSpec)

/-- 'trestlelaw04.JudgeAdds', WHERE WHAT IT READS IS OF BULK AT MOST 1048576: true; the input reads as it did. -/
def judgeAddsUptoRow : OpenClaim := { program := "ytgihekklfnjkiaagreatdoor", sum := "499522143c198a57e617c40c3916472c636c3d65d366117bc6c235153743d5e2", func := "trestle/trestlelaw04.JudgeAdds", spec := "judgeAdds", inPlace := ["internal/bytealg.abigen_runtime_cmpstring", "slices.overlaps[trestle/api.Tie]", "internal/bytealg.IndexByteString", "internal/bytealg.CountString", "internal/bytealg.IndexString"], unfollowed := true, recurses := true, named := ["unicode/utf8.first", "unicode/utf8.acceptRanges", "internal/bytealg.MaxLen"], apart := false, laid := [("unicode/utf8.acceptRanges", laid_unicode_utf8_acceptRanges), ("unicode/utf8.first", laid_unicode_utf8_first)], narrowed := true }
def JudgeAddsUptoSaid : Prop := judgeAddsUptoRow.holds Tryz.pinned (OpenSpec.upto judgeAddsSpec)

/-- 'trestlelaw04.JudgeScope', WHERE WHAT IT READS IS OF BULK AT MOST 1048576: true; the input reads as it did. -/
def judgeScopeUptoRow : OpenClaim := { program := "ytgihekklfnjkiaagreatdoor", sum := "499522143c198a57e617c40c3916472c636c3d65d366117bc6c235153743d5e2", func := "trestle/trestlelaw04.JudgeScope", spec := "judgeScope", inPlace := ["internal/bytealg.abigen_runtime_cmpstring", "slices.overlaps[trestle/api.Tie]", "internal/bytealg.IndexByteString", "internal/bytealg.CountString", "internal/bytealg.IndexString"], unfollowed := true, recurses := true, named := ["unicode/utf8.first", "unicode/utf8.acceptRanges", "internal/bytealg.MaxLen"], apart := false, laid := [("unicode/utf8.acceptRanges", laid_unicode_utf8_acceptRanges), ("unicode/utf8.first", laid_unicode_utf8_first)], narrowed := true }
def JudgeScopeUptoSaid : Prop := judgeScopeUptoRow.holds Tryz.pinned (OpenSpec.upto judgeScopeSpec)

end Rows
end Go.Proofs.YtgihekklfnjkiaaGreatDoor
