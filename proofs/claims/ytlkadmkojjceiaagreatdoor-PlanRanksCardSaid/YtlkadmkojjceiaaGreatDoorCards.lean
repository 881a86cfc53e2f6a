/-
  DERIVED. GIVEN WITH THE SEED: THE CARDS: each row of YtlkadmkojjceiaaGreatDoorRows.lean that lists a variable, with what it lists TIED to the program's text (the seventh form; the later family's looks); each row that meets fmt, with fmt's text TOLD by the authors' own Lean function (tested against real Go, not proved from fmt's source: count such statements apart). THE CARD IS WHAT COUNTS. Prove the row's statement (the work); the ties are given (YtlkadmkojjceiaaGreatDoorTie.lean); close each card by the builder's one call (the guide's Derived/Test/ToyasCard.lean, 'card_holds'). Laid BY PROGRAM, IN A SANDBOX (cutbox-door.mjs). By AI agents, Wed Nov 11 2026. No macro, syntax, notation, axiom, sorry.
-/
import Derived.Test.YtlkadmkojjceiaaGreatDoorRows
import GoSem.ClaimSeven
namespace Go.Proofs.YtlkadmkojjceiaaGreatDoor
namespace Rows

/-- THE TIED CARD OF 'trestlelaw05.PlanChecks'. -/
def planChecksCard : Claim7 := { stood := { row := planChecksRow, standIns := [], harness := (true, "f02675b13f48d12e8bd11e3908db7930cc590848013c6bac8d39f7380f7d350f"), looks := false }, kinds := [], alts := [], laidByText := true, laidKinds := [.data, .data, .data], laidTests := true, laidLooks := .later }
def PlanChecksCardSaid : Prop := Claim7.holds Tryz.pinned (.plain (OpenSpec.ofChange planChecksSpec)) planChecksCard

/-- THE TIED CARD OF 'trestlelaw05.PlanGroups'. -/
def planGroupsCard : Claim7 := { stood := { row := planGroupsRow, standIns := [], harness := (true, "f02675b13f48d12e8bd11e3908db7930cc590848013c6bac8d39f7380f7d350f"), looks := false }, kinds := [], alts := [], laidByText := true, laidKinds := [.data, .data, .data], laidTests := true, laidLooks := .later }
def PlanGroupsCardSaid : Prop := Claim7.holds Tryz.pinned (.plain (OpenSpec.ofChange planGroupsSpec)) planGroupsCard

/-- THE TIED CARD OF 'trestlelaw05.PlanMoves'. -/
def planMovesCard : Claim7 := { stood := { row := planMovesRow, standIns := [], harness := (true, "f02675b13f48d12e8bd11e3908db7930cc590848013c6bac8d39f7380f7d350f"), looks := false }, kinds := [], alts := [], laidByText := true, laidKinds := [.data, .data, .data], laidTests := true, laidLooks := .later }
def PlanMovesCardSaid : Prop := Claim7.holds Tryz.pinned (.plain (OpenSpec.ofChange planMovesSpec)) planMovesCard

/-- THE TIED CARD OF 'trestlelaw05.PlanArrives'. -/
def planArrivesCard : Claim7 := { stood := { row := planArrivesRow, standIns := [], harness := (true, "f02675b13f48d12e8bd11e3908db7930cc590848013c6bac8d39f7380f7d350f"), looks := false }, kinds := [], alts := [], laidByText := true, laidKinds := [.data, .data, .data], laidTests := true, laidLooks := .later }
def PlanArrivesCardSaid : Prop := Claim7.holds Tryz.pinned (.plain (OpenSpec.ofChange planArrivesSpec)) planArrivesCard

/-- THE TIED CARD OF 'trestlelaw05.PlanSeats'. -/
def planSeatsCard : Claim7 := { stood := { row := planSeatsRow, standIns := [], harness := (true, "f02675b13f48d12e8bd11e3908db7930cc590848013c6bac8d39f7380f7d350f"), looks := false }, kinds := [], alts := [], laidByText := true, laidKinds := [.data, .data, .data], laidTests := true, laidLooks := .later }
def PlanSeatsCardSaid : Prop := Claim7.holds Tryz.pinned (.plain (OpenSpec.ofChange planSeatsSpec)) planSeatsCard

/-- THE TIED CARD OF 'trestlelaw05.PlanRanks'. -/
def planRanksCard : Claim7 := { stood := { row := planRanksRow, standIns := [], harness := (true, "f02675b13f48d12e8bd11e3908db7930cc590848013c6bac8d39f7380f7d350f"), looks := false }, kinds := [], alts := [], laidByText := true, laidKinds := [.data, .data, .data], laidTests := true, laidLooks := .later }
def PlanRanksCardSaid : Prop := Claim7.holds Tryz.pinned (.plain (OpenSpec.ofChange planRanksSpec)) planRanksCard

/-- THE TIED CARD OF 'trestlelaw05.PlanWrong'. -/
def planWrongCard : Claim7 := { stood := { row := planWrongRow, standIns := [], harness := (true, "f02675b13f48d12e8bd11e3908db7930cc590848013c6bac8d39f7380f7d350f"), looks := false }, kinds := [], alts := [], laidByText := true, laidKinds := [.data, .data, .data], laidTests := true, laidLooks := .later }
def PlanWrongCardSaid : Prop := Claim7.holds Tryz.pinned (.plain (OpenSpec.ofChange planWrongSpec)) planWrongCard

/-- THE SECOND FORM's CARD OF 'trestlelaw05.PlanChecks'. -/
def planChecksUptoCard : Claim7 := { stood := { row := planChecksUptoRow, standIns := [], harness := (true, "f02675b13f48d12e8bd11e3908db7930cc590848013c6bac8d39f7380f7d350f"), looks := false }, kinds := [], alts := [], laidByText := true, laidKinds := [.data, .data, .data], laidTests := true, laidLooks := .later }
def PlanChecksUptoCardSaid : Prop := Claim7.holds Tryz.pinned (.plain (OpenSpec.upto planChecksSpec)) planChecksUptoCard

/-- THE SECOND FORM's CARD OF 'trestlelaw05.PlanGroups'. -/
def planGroupsUptoCard : Claim7 := { stood := { row := planGroupsUptoRow, standIns := [], harness := (true, "f02675b13f48d12e8bd11e3908db7930cc590848013c6bac8d39f7380f7d350f"), looks := false }, kinds := [], alts := [], laidByText := true, laidKinds := [.data, .data, .data], laidTests := true, laidLooks := .later }
def PlanGroupsUptoCardSaid : Prop := Claim7.holds Tryz.pinned (.plain (OpenSpec.upto planGroupsSpec)) planGroupsUptoCard

/-- THE SECOND FORM's CARD OF 'trestlelaw05.PlanMoves'. -/
def planMovesUptoCard : Claim7 := { stood := { row := planMovesUptoRow, standIns := [], harness := (true, "f02675b13f48d12e8bd11e3908db7930cc590848013c6bac8d39f7380f7d350f"), looks := false }, kinds := [], alts := [], laidByText := true, laidKinds := [.data, .data, .data], laidTests := true, laidLooks := .later }
def PlanMovesUptoCardSaid : Prop := Claim7.holds Tryz.pinned (.plain (OpenSpec.upto planMovesSpec)) planMovesUptoCard

/-- THE SECOND FORM's CARD OF 'trestlelaw05.PlanArrives'. -/
def planArrivesUptoCard : Claim7 := { stood := { row := planArrivesUptoRow, standIns := [], harness := (true, "f02675b13f48d12e8bd11e3908db7930cc590848013c6bac8d39f7380f7d350f"), looks := false }, kinds := [], alts := [], laidByText := true, laidKinds := [.data, .data, .data], laidTests := true, laidLooks := .later }
def PlanArrivesUptoCardSaid : Prop := Claim7.holds Tryz.pinned (.plain (OpenSpec.upto planArrivesSpec)) planArrivesUptoCard

/-- THE SECOND FORM's CARD OF 'trestlelaw05.PlanSeats'. -/
def planSeatsUptoCard : Claim7 := { stood := { row := planSeatsUptoRow, standIns := [], harness := (true, "f02675b13f48d12e8bd11e3908db7930cc590848013c6bac8d39f7380f7d350f"), looks := false }, kinds := [], alts := [], laidByText := true, laidKinds := [.data, .data, .data], laidTests := true, laidLooks := .later }
def PlanSeatsUptoCardSaid : Prop := Claim7.holds Tryz.pinned (.plain (OpenSpec.upto planSeatsSpec)) planSeatsUptoCard

/-- THE SECOND FORM's CARD OF 'trestlelaw05.PlanRanks'. -/
def planRanksUptoCard : Claim7 := { stood := { row := planRanksUptoRow, standIns := [], harness := (true, "f02675b13f48d12e8bd11e3908db7930cc590848013c6bac8d39f7380f7d350f"), looks := false }, kinds := [], alts := [], laidByText := true, laidKinds := [.data, .data, .data], laidTests := true, laidLooks := .later }
def PlanRanksUptoCardSaid : Prop := Claim7.holds Tryz.pinned (.plain (OpenSpec.upto planRanksSpec)) planRanksUptoCard

/-- THE SECOND FORM's CARD OF 'trestlelaw05.PlanWrong'. -/
def planWrongUptoCard : Claim7 := { stood := { row := planWrongUptoRow, standIns := [], harness := (true, "f02675b13f48d12e8bd11e3908db7930cc590848013c6bac8d39f7380f7d350f"), looks := false }, kinds := [], alts := [], laidByText := true, laidKinds := [.data, .data, .data], laidTests := true, laidLooks := .later }
def PlanWrongUptoCardSaid : Prop := Claim7.holds Tryz.pinned (.plain (OpenSpec.upto planWrongSpec)) planWrongUptoCard
end Rows
end Go.Proofs.YtlkadmkojjceiaaGreatDoor
