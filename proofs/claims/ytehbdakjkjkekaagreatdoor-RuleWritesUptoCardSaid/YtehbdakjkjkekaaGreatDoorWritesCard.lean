/- What is proved: RuleWrites' tied card in its second form (bulk at most 1048576): at such rules the law's function returns true and they read as before. Condition: the row's listed variables hold what the card ties to the text. -/
import Derived.Test.YtehbdakjkjkekaaGreatDoorCards
import Derived.Test.YtehbdakjkjkekaaGreatDoorTie
import Derived.WalkKit
import Derived.ProofKit
import Derived.OpenShut
import Derived.Deep.DeepHandedRow
import Derived.Lib.LaidTab
import Derived.Below
import Derived.ShutString
import Derived.Carry
import Derived.ChangeMaps5
import Derived.Test.YtehbdakjkjkekaaGreatDoorWalkA
import Derived.Test.YtehbdakjkjkekaaGreatDoorWalkC
import Derived.Test.YtehbdakjkjkekaaGreatDoorEvalE
import Derived.Test.YtehbdakjkjkekaaGreatDoorLawsC
import Derived.Test.YtehbdakjkjkekaaGreatDoorClosed
set_option linter.all false
set_option linter.unusedSectionVars false
set_option linter.deprecated false
section
namespace Go.Proofs.YtehbdakjkjkekaaGreatDoor.gT
open Go Go.Ai Go.Proofs Go.ChangeShapes Go.WideShapes Go.ChangeAt Go.RowKit
theorem own : ownKnob Tryz.prog.godebug = none := by kernel_rfl
theorem FU {m : Int} {C : Cells} (hC : C ⟨1, 0, none⟩ = some (.int .i64 m)) (hP : xz C) : OracleOk Tryz.prog C ja /\ OracleMono ja := orcOf_ok (fun x hx => by
  simp only [List.mem_cons, List.not_mem_nil, or_false] at hx
  rcases hx with rfl | rfl | rfl | rfl | rfl | rfl | rfl
  . exact af.p8
  . exact true_fnOk Tryz.func6 (by decide) rfl fun w hw => (af.Ks m w (hw _ _ hC)).mono fun e w' h => ⟨h.1, h.2.os, h.2.tape, h.2.output, h.2.size, h.2.block⟩
  . exact Ct Tryz.func175 (by kernel_rfl) (by kernel_rfl) (by kernel_rfl) (by kernel_rfl)
  . exact y9
  . exact zc hP
  . exact zg hC
  . exact xA hC)
set_option maxRecDepth 100000 in
theorem contract (H : Type) (enc : TypeId × Value -> H) (W : World) (base : Nat) (args : Array Value) (ds gs : List (DataW H)) (before : List MemPlace)
    (hval : ∀ (j : Nat) t v, Tryz.f3.params[j]? = some t -> args[j]? = some v -> Value.okWide Tryz.prog W .any base t v)
    (hW : DataW.Whole enc Tryz.prog Tryz.f3.params.toList Rows.ruleWritesSpec.vars false W args.toList ds gs before) (n7 : W.ShapedOpen Tryz.prog) (hL : laidMetH Tryz.prog Rows.ruleWritesUptoRow.laid W)
    (Ce : Rows.uptoSmall H (ds ++ gs) = true) :
    Calls Tryz.prog 3 args W fun e W' => ∃ v, e = .returned v /\ Rows.ruleWritesSpec.post enc Tryz.prog Tryz.f3 false true false false W args v W' := by
  have aS := hW
  obtain ⟨p, q, hA0, hV, rfl, xS, BH⟩ := hW
  have hA : DataW.TrodAll enc Tryz.prog W 0 (fun _ => true) true Tryz.f3.params.toList args.toList ds p := hA0
  rw [Tryz.params3] at hA hval
  obtain ⟨v0, vs0, d0, ds0, p0, q0, gB, rfl, rfl, h0, r0⟩ := trodAll_cons hA
  obtain ⟨rfl, rfl, rfl⟩ := trodAll_nil r0
  obtain rfl : args = #[v0] := by
    clear aS hV xS BH n7 hval hL Ce
    cases args; simp_all
  have gj : y7 d0 := by
    have h := of_decide_eq_true Ce
    have := (l7 ([d0] ++ gs)).2 d0 (by simp)
    show Rows.uptoBulk d0 <= 1048576
    exact Nat.le_trans this h
  obtain ⟨as0, ⟨z, l, rfl, hl, hlen⟩, k0⟩ := openK_slice_arg AO Tryz.underlying22 (hval 0 _ v0 rfl rfl) h0 gj
  obtain ⟨rfl, rfl⟩ := trodVars_none hV
  clear hA0
  obtain ⟨m, hm⟩ := Tryz.Be.s1_3 W n7
  have bf := FU (C := fun ad => W.cell? ad) hm (Hj hL)
  have law := rf (c := run ja gg) rfl z l hlen hl { heap := .e, next := .h } (fun p x hp => by rw [T.get_e] at hp; cases hp)
  have walk := sem_bool (C := fun ad => W.cell? ad) (w := W) (run_sound (by kernel_rfl) pU bf.1 bf.2 pV) (fun ad v h => h) (fun a v _ o h => h) Tryz.func3 (by decide) rfl (k0 _ _) law
  refine walk.mono fun e W' ⟨he, hg⟩ => ?_
  subst he
  exact ⟨_, rfl, post_true (tb := 4) (by kernel_rfl) aS rfl rfl (by rw [Tryz.params3]; intro t ht; simp at ht; subst ht; exact ⟨by kernel_rfl, of_decide_eq_true (by kernel_rfl)⟩) hg.below (by kernel_rfl) (by kernel_rfl)⟩
noncomputable def vK : Array Value := #[.int .u8 128, .int .u8 191, .int .u8 160, .int .u8 191, .int .u8 128, .int .u8 159, .int .u8 144, .int .u8 191, .int .u8 128, .int .u8 143, .int .u8 0, .int .u8 0, .int .u8 0, .int .u8 0, .int .u8 0, .int .u8 0, .int .u8 0, .int .u8 0, .int .u8 0, .int .u8 0, .int .u8 0, .int .u8 0, .int .u8 0, .int .u8 0, .int .u8 0, .int .u8 0, .int .u8 0, .int .u8 0, .int .u8 0, .int .u8 0, .int .u8 0, .int .u8 0]
noncomputable def firstCells : Array Value := (Go.Pinned.utf8FirstZ.map fun (n : Nat) => Value.int .u8 (n : Int)).toArray
noncomputable def iY (x : Array Value) : Obj -> Obj
  | .cells _ t frozen => .cells x t frozen
  | o => o
def vw : DataW Unit -> Array Value
  | .agg l => (l.map fun | .lit (.int k z) => Value.int k z | _ => Value.bool false).toArray
  | _ => #[]
noncomputable def nH (os : Os) : World :=
  { World.holding Tryz.prog os ⟨#[], #[], []⟩ with heap := (((((World.holding Tryz.prog os ⟨#[], #[], []⟩).heap.modify 4 (iY firstCells)).modify 5 (iY vK)).modify 0 (iY (vw Rows.laid_internal_strconv_uint64pow10))).modify 2 (iY (vw Rows.laid_math_bits_deBruijn32tab))).modify 3 (iY (vw Rows.laid_math_bits_deBruijn64tab)) }
noncomputable def rD : Array Value := #[.slice none 0 0]
theorem Bo (os : Os) : laidMet Tryz.prog Rows.ruleWritesUptoRow.laid ((nH os).forCall (fun _ _ => 0) ⟨#[], rD, []⟩).memory :=
  laidMet_of_run' 8 (by kernel_rfl) (by kernel_rfl)
theorem reads (os : Os) {H : Type} (enc : TypeId × Value -> H) : ∃ places, DataW.whole enc Tryz.prog ((nH os).forCall (fun _ _ => 0) ⟨#[], rD, []⟩).memory Tryz.f3.params.toList Rows.ruleWritesSpec.vars false rD.toList 8 = some ([.nil], [], places) :=
  ⟨[], by kernel_rfl⟩
set_option maxRecDepth 100000 in
theorem lifted (os : Os) (started : os.Started) (H : Type) (enc : TypeId × Value -> H) (F : Stop.Interp) :
    ReturnsInHanded {} Tryz.checked os 3 .any ((Rows.OpenSpec.upto Rows.ruleWritesSpec).preRow enc Tryz.prog Tryz.f3 Rows.ruleWritesUptoRow.domain false Rows.ruleWritesUptoRow.laid) (((Rows.OpenSpec.upto Rows.ruleWritesSpec).at F).post enc Tryz.prog Tryz.f3 false true false false) := by
  obtain ⟨places, hx⟩ := reads os enc
  refine returnsInHanded_of_row (C := Tryz.checked) (s := Rows.OpenSpec.upto Rows.ruleWritesSpec) own started (by kernel_rfl) Tryz.func3
    (witness_row_at (enc := enc) (C := Tryz.checked) false (nH os) rD rfl (by kernel_rfl) (by kernel_rfl) (by kernel_rfl)
      (OpenSpec.preRow_of_cond 8 hx (by kernel_rfl) (fun k hk => by cases hk; kernel_rfl) (by kernel_rfl) (Bo os))) ?_
  intro W base args ds gs before hval hW _ wQ _ hL n7 _
  exact contract H enc W base args ds gs before hval hW n7 hL (wQ _ rfl)
theorem said : Rows.RuleWritesUptoSaid :=
  OpenClaim.holds_of_cond 3 Tryz.f3 rfl rfl rfl rfl rfl rfl rfl ⟨rfl, rfl, rfl, rfl, rfl⟩ rfl rfl rfl rfl rfl (by kernel_rfl) Tryz.func3 closed
    (of_decide_eq_true (by kernel_rfl)) (by unfold Func.isWrapper; first | (rw [if_pos (by decide +kernel)]; kernel_rfl) | (rw [if_neg (by decide +kernel)]; exact ⟨rfl, rfl⟩))
    (fun os started H enc _ F => by rw [OpenClaim.pre_eq_preRow]; exact lifted os started H enc F)
theorem plain (f : FuncId) (fn : Func) (hf : Tryz.pinned.checked.prog.funcNamed Rows.ruleWritesUptoRow.func = some f) (b9 : Tryz.pinned.checked.prog.funcs[f]? = some fn) :
    false = Tryz.pinned.checked.prog.looks [] /\ ∀ (j : Nat) t, fn.params[j]? = some t -> Tryz.pinned.checked.prog.wantsStandIn t = false := by
  obtain rfl : f = 3 := Option.some.inj ((show Tryz.prog.funcNamed Rows.ruleWritesUptoRow.func = some 3 by kernel_rfl).symm.trans hf) |>.symm
  obtain rfl : fn = Tryz.f3 := (Option.some.inj (Tryz.func3.symm.trans b9)).symm
  refine ⟨by kernel_rfl, fun j t ht => ?_⟩
  rw [Tryz.params3] at ht
  obtain rfl : t = 22 := by simpa using Array.mem_of_getElem? ht
  exact (show Tryz.prog.wantsStandIn 22 = false by kernel_rfl)
end Go.Proofs.YtehbdakjkjkekaaGreatDoor.gT
namespace Go.Proofs.YtehbdakjkjkekaaGreatDoor
theorem ruleWritesUpto_card : Rows.RuleWritesUptoCardSaid :=
  Claim7.holds_tied_plain_at .later [] _ _ _ _ gT.said (fun _ h => by cases h) (by kernel_rfl) (fun _ h => by cases h) ruleWritesUpto_row_tie rfl ⟨rfl, rfl⟩ (by kernel_rfl) rfl gT.plain (by kernel_rfl)
#print axioms ruleWritesUpto_card
end Go.Proofs.YtehbdakjkjkekaaGreatDoor
end
