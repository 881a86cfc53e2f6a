/-
  DERIVED. GIVEN WITH THE SEED: THE CARDS: each row of YtogojkhbplmifaaGreatDoorRows.lean that lists a variable, with what it lists TIED to the program's text (the seventh form; the later family's looks); each row that meets fmt, with fmt's text TOLD by the authors' own Lean function (tested against real Go, not proved from fmt's source: count such statements apart). THE CARD IS WHAT COUNTS. Prove the row's statement (the work); the ties are given (YtogojkhbplmifaaGreatDoorTie.lean); close each card by the builder's one call (the guide's Derived/Test/ToyasCard.lean, 'card_holds'). Laid BY PROGRAM, IN A SANDBOX (cutbox-door.mjs). By AI agents, Wed Nov 11 2026. No macro, syntax, notation, axiom, sorry.
-/
import Derived.Test.YtogojkhbplmifaaGreatDoorRows
import GoSem.ClaimSeven
namespace Go.Proofs.YtogojkhbplmifaaGreatDoor
namespace Rows

/-- THE TIED CARD OF 'trestlelaw04.RuleFits'. -/
def ruleFitsCard : Claim7 := { stood := { row := ruleFitsRow, standIns := [], harness := (true, "7eb4af9736089a156feb265915e462c7c8b91c2b26cd215c3a9cc2742addc3d1"), looks := false }, kinds := [], alts := [], laidByText := true, laidKinds := [.data, .pinned], laidTests := true, laidLooks := .later }
def RuleFitsCardSaid : Prop := Claim7.holds Tryz.pinned (.plain (OpenSpec.ofChange ruleFitsSpec)) ruleFitsCard

/-- THE TIED CARD OF 'trestlelaw04.RuleNames'. -/
def ruleNamesCard : Claim7 := { stood := { row := ruleNamesRow, standIns := [], harness := (true, "7eb4af9736089a156feb265915e462c7c8b91c2b26cd215c3a9cc2742addc3d1"), looks := false }, kinds := [], alts := [], laidByText := true, laidKinds := [.data, .pinned], laidTests := true, laidLooks := .later }
def RuleNamesCardSaid : Prop := Claim7.holds Tryz.pinned (.plain (OpenSpec.ofChange ruleNamesSpec)) ruleNamesCard

/-- THE TIED CARD OF 'trestlelaw04.RuleChecks'. -/
def ruleChecksCard : Claim7 := { stood := { row := ruleChecksRow, standIns := [], harness := (true, "7eb4af9736089a156feb265915e462c7c8b91c2b26cd215c3a9cc2742addc3d1"), looks := false }, kinds := [], alts := [], laidByText := true, laidKinds := [.data, .pinned], laidTests := true, laidLooks := .later }
def RuleChecksCardSaid : Prop := Claim7.holds Tryz.pinned (.plain (OpenSpec.ofChange ruleChecksSpec)) ruleChecksCard

/-- THE TIED CARD OF 'trestlelaw04.RuleWrites'. -/
def ruleWritesCard : Claim7 := { stood := { row := ruleWritesRow, standIns := [], harness := (true, "7eb4af9736089a156feb265915e462c7c8b91c2b26cd215c3a9cc2742addc3d1"), looks := false }, kinds := [], alts := [], laidByText := true, laidKinds := [.data, .data, .data, .data, .pinned], laidTests := true, laidLooks := .later }
def RuleWritesCardSaid : Prop := Claim7.holds Tryz.pinned (.plain (OpenSpec.ofChange ruleWritesSpec)) ruleWritesCard

/-- THE TIED CARD OF 'trestlelaw04.RuleBack'. -/
def ruleBackCard : Claim7 := { stood := { row := ruleBackRow, standIns := [], harness := (true, "7eb4af9736089a156feb265915e462c7c8b91c2b26cd215c3a9cc2742addc3d1"), looks := false }, kinds := [], alts := [], laidByText := true, laidKinds := [.data, .data, .data, .data, .pinned], laidTests := true, laidLooks := .later }
def RuleBackCardSaid : Prop := Claim7.holds Tryz.pinned (.plain (OpenSpec.ofChange ruleBackSpec)) ruleBackCard

/-- THE SECOND FORM's CARD OF 'trestlelaw04.RuleFits'. -/
def ruleFitsUptoCard : Claim7 := { stood := { row := ruleFitsUptoRow, standIns := [], harness := (true, "7eb4af9736089a156feb265915e462c7c8b91c2b26cd215c3a9cc2742addc3d1"), looks := false }, kinds := [], alts := [], laidByText := true, laidKinds := [.data, .pinned], laidTests := true, laidLooks := .later }
def RuleFitsUptoCardSaid : Prop := Claim7.holds Tryz.pinned (.plain (OpenSpec.upto ruleFitsSpec)) ruleFitsUptoCard

/-- THE SECOND FORM's CARD OF 'trestlelaw04.RuleNames'. -/
def ruleNamesUptoCard : Claim7 := { stood := { row := ruleNamesUptoRow, standIns := [], harness := (true, "7eb4af9736089a156feb265915e462c7c8b91c2b26cd215c3a9cc2742addc3d1"), looks := false }, kinds := [], alts := [], laidByText := true, laidKinds := [.data, .pinned], laidTests := true, laidLooks := .later }
def RuleNamesUptoCardSaid : Prop := Claim7.holds Tryz.pinned (.plain (OpenSpec.upto ruleNamesSpec)) ruleNamesUptoCard

/-- THE SECOND FORM's CARD OF 'trestlelaw04.RuleChecks'. -/
def ruleChecksUptoCard : Claim7 := { stood := { row := ruleChecksUptoRow, standIns := [], harness := (true, "7eb4af9736089a156feb265915e462c7c8b91c2b26cd215c3a9cc2742addc3d1"), looks := false }, kinds := [], alts := [], laidByText := true, laidKinds := [.data, .pinned], laidTests := true, laidLooks := .later }
def RuleChecksUptoCardSaid : Prop := Claim7.holds Tryz.pinned (.plain (OpenSpec.upto ruleChecksSpec)) ruleChecksUptoCard

/-- THE SECOND FORM's CARD OF 'trestlelaw04.RuleWrites'. -/
def ruleWritesUptoCard : Claim7 := { stood := { row := ruleWritesUptoRow, standIns := [], harness := (true, "7eb4af9736089a156feb265915e462c7c8b91c2b26cd215c3a9cc2742addc3d1"), looks := false }, kinds := [], alts := [], laidByText := true, laidKinds := [.data, .data, .data, .data, .pinned], laidTests := true, laidLooks := .later }
def RuleWritesUptoCardSaid : Prop := Claim7.holds Tryz.pinned (.plain (OpenSpec.upto ruleWritesSpec)) ruleWritesUptoCard

/-- THE SECOND FORM's CARD OF 'trestlelaw04.RuleBack'. -/
def ruleBackUptoCard : Claim7 := { stood := { row := ruleBackUptoRow, standIns := [], harness := (true, "7eb4af9736089a156feb265915e462c7c8b91c2b26cd215c3a9cc2742addc3d1"), looks := false }, kinds := [], alts := [], laidByText := true, laidKinds := [.data, .data, .data, .data, .pinned], laidTests := true, laidLooks := .later }
def RuleBackUptoCardSaid : Prop := Claim7.holds Tryz.pinned (.plain (OpenSpec.upto ruleBackSpec)) ruleBackUptoCard
end Rows
end Go.Proofs.YtogojkhbplmifaaGreatDoor
