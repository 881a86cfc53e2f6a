/-
  DERIVED. GIVEN WITH THE SEED: THE CARDS: each row of YtgjikjcfjddloaaGreatDoorRows.lean that lists a variable, with what it lists TIED to the program's text (the seventh form; the later family's looks); each row that meets fmt, with fmt's text TOLD by the authors' own Lean function (tested against real Go, not proved from fmt's source: count such statements apart). THE CARD IS WHAT COUNTS. Prove the row's statement (the work); the ties are given (YtgjikjcfjddloaaGreatDoorTie.lean); close each card by the builder's one call (the guide's Derived/Test/ToyasCard.lean, 'card_holds'). Laid BY PROGRAM, IN A SANDBOX (cutbox-door.mjs). By AI agents, Wed Nov 11 2026. No macro, syntax, notation, axiom, sorry.
-/
import Derived.Test.YtgjikjcfjddloaaGreatDoorRows
import GoSem.ClaimSeven
namespace Go.Proofs.YtgjikjcfjddloaaGreatDoor
namespace Rows

/-- THE TIED CARD OF 'trestlelaw05.PlanOrbits'. -/
def planOrbitsCard : Claim7 := { stood := { row := planOrbitsRow, standIns := [], harness := (true, "c7954d10d79142ac03609ed0da8a5f90ef0d6739db9887e10e2bc055c0f5893e"), looks := false }, kinds := [], alts := [], laidByText := true, laidKinds := [.data, .data, .data], laidTests := true, laidLooks := .later }
def PlanOrbitsCardSaid : Prop := Claim7.holds Tryz.pinned (.plain (OpenSpec.ofChange planOrbitsSpec)) planOrbitsCard

/-- THE TIED CARD OF 'trestlelaw05.PlanWrong'. -/
def planWrongCard : Claim7 := { stood := { row := planWrongRow, standIns := [], harness := (true, "c7954d10d79142ac03609ed0da8a5f90ef0d6739db9887e10e2bc055c0f5893e"), looks := false }, kinds := [], alts := [], laidByText := true, laidKinds := [.data, .data, .data], laidTests := true, laidLooks := .later }
def PlanWrongCardSaid : Prop := Claim7.holds Tryz.pinned (.plain (OpenSpec.ofChange planWrongSpec)) planWrongCard

/-- THE TIED CARD OF 'trestlelaw05.PlanTexts'. -/
def planTextsCard : Claim7 := { stood := { row := planTextsRow, standIns := [], harness := (true, "c7954d10d79142ac03609ed0da8a5f90ef0d6739db9887e10e2bc055c0f5893e"), looks := false }, kinds := [], alts := [], laidByText := true, laidKinds := [.data, .data, .data, .data, .pinned], laidTests := true, laidLooks := .later }
def PlanTextsCardSaid : Prop := Claim7.holds Tryz.pinned (.plain (OpenSpec.ofChange planTextsSpec)) planTextsCard

/-- THE TIED CARD OF 'trestlelaw05.PlanRound'. -/
def planRoundCard : Claim7 := { stood := { row := planRoundRow, standIns := [], harness := (true, "c7954d10d79142ac03609ed0da8a5f90ef0d6739db9887e10e2bc055c0f5893e"), looks := false }, kinds := [], alts := [], laidByText := true, laidKinds := [.data, .data, .data, .data, .pinned], laidTests := true, laidLooks := .later }
def PlanRoundCardSaid : Prop := Claim7.holds Tryz.pinned (.plain (OpenSpec.ofChange planRoundSpec)) planRoundCard

/-- THE SECOND FORM's CARD OF 'trestlelaw05.PlanOrbits'. -/
def planOrbitsUptoCard : Claim7 := { stood := { row := planOrbitsUptoRow, standIns := [], harness := (true, "c7954d10d79142ac03609ed0da8a5f90ef0d6739db9887e10e2bc055c0f5893e"), looks := false }, kinds := [], alts := [], laidByText := true, laidKinds := [.data, .data, .data], laidTests := true, laidLooks := .later }
def PlanOrbitsUptoCardSaid : Prop := Claim7.holds Tryz.pinned (.plain (OpenSpec.upto planOrbitsSpec)) planOrbitsUptoCard

/-- THE SECOND FORM's CARD OF 'trestlelaw05.PlanWrong'. -/
def planWrongUptoCard : Claim7 := { stood := { row := planWrongUptoRow, standIns := [], harness := (true, "c7954d10d79142ac03609ed0da8a5f90ef0d6739db9887e10e2bc055c0f5893e"), looks := false }, kinds := [], alts := [], laidByText := true, laidKinds := [.data, .data, .data], laidTests := true, laidLooks := .later }
def PlanWrongUptoCardSaid : Prop := Claim7.holds Tryz.pinned (.plain (OpenSpec.upto planWrongSpec)) planWrongUptoCard

/-- THE SECOND FORM's CARD OF 'trestlelaw05.PlanTexts'. -/
def planTextsUptoCard : Claim7 := { stood := { row := planTextsUptoRow, standIns := [], harness := (true, "c7954d10d79142ac03609ed0da8a5f90ef0d6739db9887e10e2bc055c0f5893e"), looks := false }, kinds := [], alts := [], laidByText := true, laidKinds := [.data, .data, .data, .data, .pinned], laidTests := true, laidLooks := .later }
def PlanTextsUptoCardSaid : Prop := Claim7.holds Tryz.pinned (.plain (OpenSpec.upto planTextsSpec)) planTextsUptoCard

/-- THE SECOND FORM's CARD OF 'trestlelaw05.PlanRound'. -/
def planRoundUptoCard : Claim7 := { stood := { row := planRoundUptoRow, standIns := [], harness := (true, "c7954d10d79142ac03609ed0da8a5f90ef0d6739db9887e10e2bc055c0f5893e"), looks := false }, kinds := [], alts := [], laidByText := true, laidKinds := [.data, .data, .data, .data, .pinned], laidTests := true, laidLooks := .later }
def PlanRoundUptoCardSaid : Prop := Claim7.holds Tryz.pinned (.plain (OpenSpec.upto planRoundSpec)) planRoundUptoCard
end Rows
end Go.Proofs.YtgjikjcfjddloaaGreatDoor
