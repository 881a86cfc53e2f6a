/-
  DERIVED. GIVEN WITH THE SEED: THE CARDS: each row of YtoeleelojgimfaaGreatDoorRows.lean that lists a variable, with what it lists TIED to the program's text (the seventh form; the later family's looks); each row that meets fmt, with fmt's text TOLD by the authors' own Lean function (tested against real Go, not proved from fmt's source: count such statements apart). THE CARD IS WHAT COUNTS. Prove the row's statement (the work); the ties are given (YtoeleelojgimfaaGreatDoorTie.lean); close each card by the builder's one call (the guide's Derived/Test/ToyasCard.lean, 'card_holds'). Laid BY PROGRAM, IN A SANDBOX (cutbox-door.mjs). By AI agents, Wed Nov 11 2026. No macro, syntax, notation, axiom, sorry.
-/
import Derived.Test.YtoeleelojgimfaaGreatDoorRows
import GoSem.ClaimSeven
namespace Go.Proofs.YtoeleelojgimfaaGreatDoor
namespace Rows

/-- THE TIED CARD OF 'trestlelaw05.PlanArrives'. -/
def planArrivesCard : Claim7 := { stood := { row := planArrivesRow, standIns := [], harness := (true, "b33a5bc9b1b5107d35ab7b96f70b889d5dc7b1b12f9348b13caaa26e9f3be0cb"), looks := false }, kinds := [], alts := [], laidByText := true, laidKinds := [.data, .data, .data], laidTests := true, laidLooks := .later }
def PlanArrivesCardSaid : Prop := Claim7.holds Tryz.pinned (.plain (OpenSpec.ofChange planArrivesSpec)) planArrivesCard

/-- THE TIED CARD OF 'trestlelaw05.PlanSwaps'. -/
def planSwapsCard : Claim7 := { stood := { row := planSwapsRow, standIns := [], harness := (true, "b33a5bc9b1b5107d35ab7b96f70b889d5dc7b1b12f9348b13caaa26e9f3be0cb"), looks := false }, kinds := [], alts := [], laidByText := true, laidKinds := [.data, .data, .data], laidTests := true, laidLooks := .later }
def PlanSwapsCardSaid : Prop := Claim7.holds Tryz.pinned (.plain (OpenSpec.ofChange planSwapsSpec)) planSwapsCard

/-- THE TIED CARD OF 'trestlelaw05.PlanShows'. -/
def planShowsCard : Claim7 := { stood := { row := planShowsRow, standIns := [], harness := (true, "b33a5bc9b1b5107d35ab7b96f70b889d5dc7b1b12f9348b13caaa26e9f3be0cb"), looks := false }, kinds := [], alts := [], laidByText := true, laidKinds := [.data, .data, .data], laidTests := true, laidLooks := .later }
def PlanShowsCardSaid : Prop := Claim7.holds Tryz.pinned (.plain (OpenSpec.ofChange planShowsSpec)) planShowsCard

/-- THE SECOND FORM's CARD OF 'trestlelaw05.PlanArrives'. -/
def planArrivesUptoCard : Claim7 := { stood := { row := planArrivesUptoRow, standIns := [], harness := (true, "b33a5bc9b1b5107d35ab7b96f70b889d5dc7b1b12f9348b13caaa26e9f3be0cb"), looks := false }, kinds := [], alts := [], laidByText := true, laidKinds := [.data, .data, .data], laidTests := true, laidLooks := .later }
def PlanArrivesUptoCardSaid : Prop := Claim7.holds Tryz.pinned (.plain (OpenSpec.upto planArrivesSpec)) planArrivesUptoCard

/-- THE SECOND FORM's CARD OF 'trestlelaw05.PlanSwaps'. -/
def planSwapsUptoCard : Claim7 := { stood := { row := planSwapsUptoRow, standIns := [], harness := (true, "b33a5bc9b1b5107d35ab7b96f70b889d5dc7b1b12f9348b13caaa26e9f3be0cb"), looks := false }, kinds := [], alts := [], laidByText := true, laidKinds := [.data, .data, .data], laidTests := true, laidLooks := .later }
def PlanSwapsUptoCardSaid : Prop := Claim7.holds Tryz.pinned (.plain (OpenSpec.upto planSwapsSpec)) planSwapsUptoCard

/-- THE SECOND FORM's CARD OF 'trestlelaw05.PlanShows'. -/
def planShowsUptoCard : Claim7 := { stood := { row := planShowsUptoRow, standIns := [], harness := (true, "b33a5bc9b1b5107d35ab7b96f70b889d5dc7b1b12f9348b13caaa26e9f3be0cb"), looks := false }, kinds := [], alts := [], laidByText := true, laidKinds := [.data, .data, .data], laidTests := true, laidLooks := .later }
def PlanShowsUptoCardSaid : Prop := Claim7.holds Tryz.pinned (.plain (OpenSpec.upto planShowsSpec)) planShowsUptoCard
end Rows
end Go.Proofs.YtoeleelojgimfaaGreatDoor
