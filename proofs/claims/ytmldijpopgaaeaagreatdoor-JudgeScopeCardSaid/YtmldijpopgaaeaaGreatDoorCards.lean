/-
  DERIVED. GIVEN WITH THE SEED: THE CARDS: each row of YtmldijpopgaaeaaGreatDoorRows.lean that lists a variable, with what it lists TIED to the program's text (the seventh form; the later family's looks); each row that meets fmt, with fmt's text TOLD by the authors' own Lean function (tested against real Go, not proved from fmt's source: count such statements apart). THE CARD IS WHAT COUNTS. Prove the row's statement (the work); the ties are given (YtmldijpopgaaeaaGreatDoorTie.lean); close each card by the builder's one call (the guide's Derived/Test/ToyasCard.lean, 'card_holds'). Laid BY PROGRAM, IN A SANDBOX (cutbox-door.mjs). By AI agents, Wed Nov 11 2026. No macro, syntax, notation, axiom, sorry.
-/
import Derived.Test.YtmldijpopgaaeaaGreatDoorRows
import GoSem.ClaimSeven
namespace Go.Proofs.YtmldijpopgaaeaaGreatDoor
namespace Rows

/-- THE TIED CARD OF 'trestlelaw04.JudgeScope'. -/
def judgeScopeCard : Claim7 := { stood := { row := judgeScopeRow, standIns := [], harness := (true, "f7c4dc774456eca8422d528c25a4fc5ee9eae26892a08c02a076bf7520d68e65"), looks := false }, kinds := [], alts := [], laidByText := true, laidKinds := [.data, .pinned], laidTests := true, laidLooks := .later }
def JudgeScopeCardSaid : Prop := Claim7.holds Tryz.pinned (.plain (OpenSpec.ofChange judgeScopeSpec)) judgeScopeCard

/-- THE SECOND FORM's CARD OF 'trestlelaw04.JudgeScope'. -/
def judgeScopeUptoCard : Claim7 := { stood := { row := judgeScopeUptoRow, standIns := [], harness := (true, "f7c4dc774456eca8422d528c25a4fc5ee9eae26892a08c02a076bf7520d68e65"), looks := false }, kinds := [], alts := [], laidByText := true, laidKinds := [.data, .pinned], laidTests := true, laidLooks := .later }
def JudgeScopeUptoCardSaid : Prop := Claim7.holds Tryz.pinned (.plain (OpenSpec.upto judgeScopeSpec)) judgeScopeUptoCard
end Rows
end Go.Proofs.YtmldijpopgaaeaaGreatDoor
