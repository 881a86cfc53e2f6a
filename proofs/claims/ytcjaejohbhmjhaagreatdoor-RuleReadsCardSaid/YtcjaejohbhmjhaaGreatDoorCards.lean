/-
  DERIVED. GIVEN WITH THE SEED: THE CARDS: each row of YtcjaejohbhmjhaaGreatDoorRows.lean that lists a variable, with what it lists TIED to the program's text (the seventh form; the later family's looks); each row that meets fmt, with fmt's text TOLD by the authors' own Lean function (tested against real Go, not proved from fmt's source: count such statements apart). THE CARD IS WHAT COUNTS. Prove the row's statement (the work); the ties are given (YtcjaejohbhmjhaaGreatDoorTie.lean); close each card by the builder's one call (the guide's Derived/Test/ToyasCard.lean, 'card_holds'). Laid BY PROGRAM, IN A SANDBOX (cutbox-door.mjs). By AI agents, Wed Nov 11 2026. No macro, syntax, notation, axiom, sorry.
-/
import Derived.Test.YtcjaejohbhmjhaaGreatDoorRows
import GoSem.ClaimSeven
namespace Go.Proofs.YtcjaejohbhmjhaaGreatDoor
namespace Rows

/-- THE TIED CARD OF 'trestlelaw04.RuleReads'. -/
def ruleReadsCard : Claim7 := { stood := { row := ruleReadsRow, standIns := [], harness := (true, "5973d0eae59f8501a536c7880f03b5dea8b699f7f0b2e9b0a513f63f06ede2e4"), looks := false }, kinds := [], alts := [], laidByText := true, laidKinds := [.data, .pinned], laidTests := true, laidLooks := .later }
def RuleReadsCardSaid : Prop := Claim7.holds Tryz.pinned (.plain (OpenSpec.ofChange ruleReadsSpec)) ruleReadsCard

/-- THE TIED CARD OF 'trestlelaw04.JudgeBlame'. -/
def judgeBlameCard : Claim7 := { stood := { row := judgeBlameRow, standIns := [], harness := (true, "5973d0eae59f8501a536c7880f03b5dea8b699f7f0b2e9b0a513f63f06ede2e4"), looks := false }, kinds := [], alts := [], laidByText := true, laidKinds := [.data, .pinned], laidTests := true, laidLooks := .later }
def JudgeBlameCardSaid : Prop := Claim7.holds Tryz.pinned (.plain (OpenSpec.ofChange judgeBlameSpec)) judgeBlameCard

/-- THE TIED CARD OF 'trestlelaw04.RuleChecks'. -/
def ruleChecksCard : Claim7 := { stood := { row := ruleChecksRow, standIns := [], harness := (true, "5973d0eae59f8501a536c7880f03b5dea8b699f7f0b2e9b0a513f63f06ede2e4"), looks := false }, kinds := [], alts := [], laidByText := true, laidKinds := [.data, .pinned], laidTests := true, laidLooks := .later }
def RuleChecksCardSaid : Prop := Claim7.holds Tryz.pinned (.plain (OpenSpec.ofChange ruleChecksSpec)) ruleChecksCard

/-- THE SECOND FORM's CARD OF 'trestlelaw04.RuleReads'. -/
def ruleReadsUptoCard : Claim7 := { stood := { row := ruleReadsUptoRow, standIns := [], harness := (true, "5973d0eae59f8501a536c7880f03b5dea8b699f7f0b2e9b0a513f63f06ede2e4"), looks := false }, kinds := [], alts := [], laidByText := true, laidKinds := [.data, .pinned], laidTests := true, laidLooks := .later }
def RuleReadsUptoCardSaid : Prop := Claim7.holds Tryz.pinned (.plain (OpenSpec.upto ruleReadsSpec)) ruleReadsUptoCard

/-- THE SECOND FORM's CARD OF 'trestlelaw04.JudgeBlame'. -/
def judgeBlameUptoCard : Claim7 := { stood := { row := judgeBlameUptoRow, standIns := [], harness := (true, "5973d0eae59f8501a536c7880f03b5dea8b699f7f0b2e9b0a513f63f06ede2e4"), looks := false }, kinds := [], alts := [], laidByText := true, laidKinds := [.data, .pinned], laidTests := true, laidLooks := .later }
def JudgeBlameUptoCardSaid : Prop := Claim7.holds Tryz.pinned (.plain (OpenSpec.upto judgeBlameSpec)) judgeBlameUptoCard

/-- THE SECOND FORM's CARD OF 'trestlelaw04.RuleChecks'. -/
def ruleChecksUptoCard : Claim7 := { stood := { row := ruleChecksUptoRow, standIns := [], harness := (true, "5973d0eae59f8501a536c7880f03b5dea8b699f7f0b2e9b0a513f63f06ede2e4"), looks := false }, kinds := [], alts := [], laidByText := true, laidKinds := [.data, .pinned], laidTests := true, laidLooks := .later }
def RuleChecksUptoCardSaid : Prop := Claim7.holds Tryz.pinned (.plain (OpenSpec.upto ruleChecksSpec)) ruleChecksUptoCard
end Rows
end Go.Proofs.YtcjaejohbhmjhaaGreatDoor
