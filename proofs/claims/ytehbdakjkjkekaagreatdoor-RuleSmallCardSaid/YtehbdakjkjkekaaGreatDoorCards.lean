/-
  DERIVED. GIVEN WITH THE SEED: THE CARDS: each row of YtehbdakjkjkekaaGreatDoorRows.lean that lists a variable, with what it lists TIED to the program's text (the seventh form; the later family's looks); each row that meets fmt, with fmt's text TOLD by the authors' own Lean function (tested against real Go, not proved from fmt's source: count such statements apart). THE CARD IS WHAT COUNTS. Prove the row's statement (the work); the ties are given (YtehbdakjkjkekaaGreatDoorTie.lean); close each card by the builder's one call (the guide's Derived/Test/ToyasCard.lean, 'card_holds'). Laid BY PROGRAM, IN A SANDBOX (cutbox-door.mjs). By AI agents, Wed Nov 11 2026. No macro, syntax, notation, axiom, sorry.
-/
import Derived.Test.YtehbdakjkjkekaaGreatDoorRows
import GoSem.ClaimSeven
namespace Go.Proofs.YtehbdakjkjkekaaGreatDoor
namespace Rows

/-- THE TIED CARD OF 'trestlelaw04.RuleWrites'. -/
def ruleWritesCard : Claim7 := { stood := { row := ruleWritesRow, standIns := [], harness := (true, "2212fe4616a7ef9036ba25f43d27d0790db22d74fbc90e928dd4f25d380c3db4"), looks := false }, kinds := [], alts := [], laidByText := true, laidKinds := [.data, .data, .data, .data, .pinned], laidTests := true, laidLooks := .later }
def RuleWritesCardSaid : Prop := Claim7.holds Tryz.pinned (.plain (OpenSpec.ofChange ruleWritesSpec)) ruleWritesCard

/-- THE TIED CARD OF 'trestlelaw04.RuleBack'. -/
def ruleBackCard : Claim7 := { stood := { row := ruleBackRow, standIns := [], harness := (true, "2212fe4616a7ef9036ba25f43d27d0790db22d74fbc90e928dd4f25d380c3db4"), looks := false }, kinds := [], alts := [], laidByText := true, laidKinds := [.data, .data, .data, .data, .pinned], laidTests := true, laidLooks := .later }
def RuleBackCardSaid : Prop := Claim7.holds Tryz.pinned (.plain (OpenSpec.ofChange ruleBackSpec)) ruleBackCard

/-- THE TIED CARD OF 'trestlelaw04.RuleSmall'. -/
def ruleSmallCard : Claim7 := { stood := { row := ruleSmallRow, standIns := [], harness := (true, "2212fe4616a7ef9036ba25f43d27d0790db22d74fbc90e928dd4f25d380c3db4"), looks := false }, kinds := [], alts := [], laidByText := true, laidKinds := [.data, .data, .data, .data, .pinned], laidTests := true, laidLooks := .later }
def RuleSmallCardSaid : Prop := Claim7.holds Tryz.pinned (.plain (OpenSpec.ofChange ruleSmallSpec)) ruleSmallCard

/-- THE SECOND FORM's CARD OF 'trestlelaw04.RuleWrites'. -/
def ruleWritesUptoCard : Claim7 := { stood := { row := ruleWritesUptoRow, standIns := [], harness := (true, "2212fe4616a7ef9036ba25f43d27d0790db22d74fbc90e928dd4f25d380c3db4"), looks := false }, kinds := [], alts := [], laidByText := true, laidKinds := [.data, .data, .data, .data, .pinned], laidTests := true, laidLooks := .later }
def RuleWritesUptoCardSaid : Prop := Claim7.holds Tryz.pinned (.plain (OpenSpec.upto ruleWritesSpec)) ruleWritesUptoCard

/-- THE SECOND FORM's CARD OF 'trestlelaw04.RuleBack'. -/
def ruleBackUptoCard : Claim7 := { stood := { row := ruleBackUptoRow, standIns := [], harness := (true, "2212fe4616a7ef9036ba25f43d27d0790db22d74fbc90e928dd4f25d380c3db4"), looks := false }, kinds := [], alts := [], laidByText := true, laidKinds := [.data, .data, .data, .data, .pinned], laidTests := true, laidLooks := .later }
def RuleBackUptoCardSaid : Prop := Claim7.holds Tryz.pinned (.plain (OpenSpec.upto ruleBackSpec)) ruleBackUptoCard

/-- THE SECOND FORM's CARD OF 'trestlelaw04.RuleSmall'. -/
def ruleSmallUptoCard : Claim7 := { stood := { row := ruleSmallUptoRow, standIns := [], harness := (true, "2212fe4616a7ef9036ba25f43d27d0790db22d74fbc90e928dd4f25d380c3db4"), looks := false }, kinds := [], alts := [], laidByText := true, laidKinds := [.data, .data, .data, .data, .pinned], laidTests := true, laidLooks := .later }
def RuleSmallUptoCardSaid : Prop := Claim7.holds Tryz.pinned (.plain (OpenSpec.upto ruleSmallSpec)) ruleSmallUptoCard
end Rows
end Go.Proofs.YtehbdakjkjkekaaGreatDoor
