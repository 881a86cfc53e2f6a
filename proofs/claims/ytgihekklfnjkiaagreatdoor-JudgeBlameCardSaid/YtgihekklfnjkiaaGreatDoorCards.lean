/-
  DERIVED. GIVEN WITH THE SEED: THE CARDS: each row of YtgihekklfnjkiaaGreatDoorRows.lean that lists a variable, with what it lists TIED to the program's text (the seventh form; the later family's looks); each row that meets fmt, with fmt's text TOLD by the authors' own Lean function (tested against real Go, not proved from fmt's source: count such statements apart). THE CARD IS WHAT COUNTS. Prove the row's statement (the work); the ties are given (YtgihekklfnjkiaaGreatDoorTie.lean); close each card by the builder's one call (the guide's Derived/Test/ToyasCard.lean, 'card_holds'). Laid BY PROGRAM, IN A SANDBOX (cutbox-door.mjs). By AI agents, Wed Nov 11 2026. No macro, syntax, notation, axiom, sorry.
-/
import Derived.Test.YtgihekklfnjkiaaGreatDoorRows
import GoSem.ClaimSeven
namespace Go.Proofs.YtgihekklfnjkiaaGreatDoor
namespace Rows

/-- THE TIED CARD OF 'trestlelaw04.JudgeBlame'. -/
def judgeBlameCard : Claim7 := { stood := { row := judgeBlameRow, standIns := [], harness := (true, "dbe703a3dd63d498a189cb800409e725415b3bdd660b3daf63c474ab41a5cee9"), looks := false }, kinds := [], alts := [], laidByText := true, laidKinds := [.data, .pinned], laidTests := true, laidLooks := .later }
def JudgeBlameCardSaid : Prop := Claim7.holds Tryz.pinned (.plain (OpenSpec.ofChange judgeBlameSpec)) judgeBlameCard

/-- THE TIED CARD OF 'trestlelaw04.JudgeTables'. -/
def judgeTablesCard : Claim7 := { stood := { row := judgeTablesRow, standIns := [], harness := (true, "dbe703a3dd63d498a189cb800409e725415b3bdd660b3daf63c474ab41a5cee9"), looks := false }, kinds := [], alts := [], laidByText := true, laidKinds := [.data, .pinned], laidTests := true, laidLooks := .later }
def JudgeTablesCardSaid : Prop := Claim7.holds Tryz.pinned (.plain (OpenSpec.ofChange judgeTablesSpec)) judgeTablesCard

/-- THE TIED CARD OF 'trestlelaw04.JudgeGrows'. -/
def judgeGrowsCard : Claim7 := { stood := { row := judgeGrowsRow, standIns := [], harness := (true, "dbe703a3dd63d498a189cb800409e725415b3bdd660b3daf63c474ab41a5cee9"), looks := false }, kinds := [], alts := [], laidByText := true, laidKinds := [.data, .pinned], laidTests := true, laidLooks := .later }
def JudgeGrowsCardSaid : Prop := Claim7.holds Tryz.pinned (.plain (OpenSpec.ofChange judgeGrowsSpec)) judgeGrowsCard

/-- THE TIED CARD OF 'trestlelaw04.JudgeDead'. -/
def judgeDeadCard : Claim7 := { stood := { row := judgeDeadRow, standIns := [], harness := (true, "dbe703a3dd63d498a189cb800409e725415b3bdd660b3daf63c474ab41a5cee9"), looks := false }, kinds := [], alts := [], laidByText := true, laidKinds := [.data, .pinned], laidTests := true, laidLooks := .later }
def JudgeDeadCardSaid : Prop := Claim7.holds Tryz.pinned (.plain (OpenSpec.ofChange judgeDeadSpec)) judgeDeadCard

/-- THE TIED CARD OF 'trestlelaw04.JudgeAdds'. -/
def judgeAddsCard : Claim7 := { stood := { row := judgeAddsRow, standIns := [], harness := (true, "dbe703a3dd63d498a189cb800409e725415b3bdd660b3daf63c474ab41a5cee9"), looks := false }, kinds := [], alts := [], laidByText := true, laidKinds := [.data, .pinned], laidTests := true, laidLooks := .later }
def JudgeAddsCardSaid : Prop := Claim7.holds Tryz.pinned (.plain (OpenSpec.ofChange judgeAddsSpec)) judgeAddsCard

/-- THE TIED CARD OF 'trestlelaw04.JudgeScope'. -/
def judgeScopeCard : Claim7 := { stood := { row := judgeScopeRow, standIns := [], harness := (true, "dbe703a3dd63d498a189cb800409e725415b3bdd660b3daf63c474ab41a5cee9"), looks := false }, kinds := [], alts := [], laidByText := true, laidKinds := [.data, .pinned], laidTests := true, laidLooks := .later }
def JudgeScopeCardSaid : Prop := Claim7.holds Tryz.pinned (.plain (OpenSpec.ofChange judgeScopeSpec)) judgeScopeCard

/-- THE SECOND FORM's CARD OF 'trestlelaw04.JudgeBlame'. -/
def judgeBlameUptoCard : Claim7 := { stood := { row := judgeBlameUptoRow, standIns := [], harness := (true, "dbe703a3dd63d498a189cb800409e725415b3bdd660b3daf63c474ab41a5cee9"), looks := false }, kinds := [], alts := [], laidByText := true, laidKinds := [.data, .pinned], laidTests := true, laidLooks := .later }
def JudgeBlameUptoCardSaid : Prop := Claim7.holds Tryz.pinned (.plain (OpenSpec.upto judgeBlameSpec)) judgeBlameUptoCard

/-- THE SECOND FORM's CARD OF 'trestlelaw04.JudgeTables'. -/
def judgeTablesUptoCard : Claim7 := { stood := { row := judgeTablesUptoRow, standIns := [], harness := (true, "dbe703a3dd63d498a189cb800409e725415b3bdd660b3daf63c474ab41a5cee9"), looks := false }, kinds := [], alts := [], laidByText := true, laidKinds := [.data, .pinned], laidTests := true, laidLooks := .later }
def JudgeTablesUptoCardSaid : Prop := Claim7.holds Tryz.pinned (.plain (OpenSpec.upto judgeTablesSpec)) judgeTablesUptoCard

/-- THE SECOND FORM's CARD OF 'trestlelaw04.JudgeGrows'. -/
def judgeGrowsUptoCard : Claim7 := { stood := { row := judgeGrowsUptoRow, standIns := [], harness := (true, "dbe703a3dd63d498a189cb800409e725415b3bdd660b3daf63c474ab41a5cee9"), looks := false }, kinds := [], alts := [], laidByText := true, laidKinds := [.data, .pinned], laidTests := true, laidLooks := .later }
def JudgeGrowsUptoCardSaid : Prop := Claim7.holds Tryz.pinned (.plain (OpenSpec.upto judgeGrowsSpec)) judgeGrowsUptoCard

/-- THE SECOND FORM's CARD OF 'trestlelaw04.JudgeDead'. -/
def judgeDeadUptoCard : Claim7 := { stood := { row := judgeDeadUptoRow, standIns := [], harness := (true, "dbe703a3dd63d498a189cb800409e725415b3bdd660b3daf63c474ab41a5cee9"), looks := false }, kinds := [], alts := [], laidByText := true, laidKinds := [.data, .pinned], laidTests := true, laidLooks := .later }
def JudgeDeadUptoCardSaid : Prop := Claim7.holds Tryz.pinned (.plain (OpenSpec.upto judgeDeadSpec)) judgeDeadUptoCard

/-- THE SECOND FORM's CARD OF 'trestlelaw04.JudgeAdds'. -/
def judgeAddsUptoCard : Claim7 := { stood := { row := judgeAddsUptoRow, standIns := [], harness := (true, "dbe703a3dd63d498a189cb800409e725415b3bdd660b3daf63c474ab41a5cee9"), looks := false }, kinds := [], alts := [], laidByText := true, laidKinds := [.data, .pinned], laidTests := true, laidLooks := .later }
def JudgeAddsUptoCardSaid : Prop := Claim7.holds Tryz.pinned (.plain (OpenSpec.upto judgeAddsSpec)) judgeAddsUptoCard

/-- THE SECOND FORM's CARD OF 'trestlelaw04.JudgeScope'. -/
def judgeScopeUptoCard : Claim7 := { stood := { row := judgeScopeUptoRow, standIns := [], harness := (true, "dbe703a3dd63d498a189cb800409e725415b3bdd660b3daf63c474ab41a5cee9"), looks := false }, kinds := [], alts := [], laidByText := true, laidKinds := [.data, .pinned], laidTests := true, laidLooks := .later }
def JudgeScopeUptoCardSaid : Prop := Claim7.holds Tryz.pinned (.plain (OpenSpec.upto judgeScopeSpec)) judgeScopeUptoCard
end Rows
end Go.Proofs.YtgihekklfnjkiaaGreatDoor
