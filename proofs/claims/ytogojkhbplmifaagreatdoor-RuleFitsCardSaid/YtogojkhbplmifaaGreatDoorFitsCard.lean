/- What is proved: RuleFits' tied card: at every problem and every rule the law's function returns true and both read as before. Condition: the row's listed variables hold what the card ties to the text. -/
import Derived.Test.YtogojkhbplmifaaGreatDoorCards
import Derived.Test.YtogojkhbplmifaaGreatDoorTie
import Derived.WalkKit
import Derived.ProofKit
import Derived.OpenShut
import Derived.Deep.DeepHandedRow
import Derived.Lib.LaidTab
import Derived.Below
import Derived.ShutString
import Derived.Carry
import Derived.ChangeMaps5
import Derived.Test.YtogojkhbplmifaaGreatDoorWalkA
import Derived.Test.YtogojkhbplmifaaGreatDoorWalkC
import Derived.Test.YtogojkhbplmifaaGreatDoorEvalE
import Derived.Test.YtogojkhbplmifaaGreatDoorLawsC
import Derived.Test.YtogojkhbplmifaaGreatDoorClosed
set_option linter.all false
set_option linter.unusedSectionVars false
set_option linter.deprecated false
section
namespace Go.Proofs.YtogojkhbplmifaaGreatDoor.w6
open Go Go.Ai Go.Proofs Go.ChangeShapes Go.WideShapes Go.ChangeAt Go.RowKit
theorem own : ownKnob Tryz.prog.godebug = none := by kernel_rfl
theorem Wi {m : Int} {C : Cells} (hC : C ⟨0, 0, none⟩ = some (.int .i64 m)) : qd Tryz.prog C FB /\ kO FB := xD (fun x hx => by
  simp only [List.mem_cons, List.not_mem_nil, or_false] at hx
  rcases hx with rfl | rfl
  . exact ag.G8
  . exact Rb Tryz.func11 (by decide) rfl fun w hw => (ag.aaj m w (hw _ _ hC)).mono fun e w' h => ⟨h.1, h.2.os, h.2.tape, h.2.output, h.2.size, h.2.block⟩)
set_option maxRecDepth 100000 in
theorem contract (H : Type) (enc : TypeId × Value -> H) (W : World) (base : Nat) (args : Array Value) (ds gs : List (DataW H)) (before : List MemPlace)
    (hval : ∀ (j : Nat) t v, Tryz.f3.params[j]? = some t -> args[j]? = some v -> Value.okWide Tryz.prog W .any base t v)
    (hW : DataW.Whole enc Tryz.prog Tryz.f3.params.toList Rows.ruleFitsSpec.vars false W args.toList ds gs before) (VA : W.ShapedOpen Tryz.prog) :
    Calls Tryz.prog 3 args W fun e W' => ∃ v, e = .returned v /\ Rows.ruleFitsSpec.post enc Tryz.prog Tryz.f3 false true false false W args v W' := by
  have fV := hW
  obtain ⟨p, q, hA0, hV, rfl, Qg, Vx⟩ := hW
  have hA : DataW.TrodAll enc Tryz.prog W 0 (fun _ => true) true Tryz.f3.params.toList args.toList ds p := hA0
  rw [Tryz.params3] at hA hval
  obtain ⟨v0, vs0, d0, ds0, p0, q0, rM, rfl, rfl, h0, r0⟩ := trodAll_cons hA
  obtain ⟨v1, Ve, d1, ds1, p1, q1, rfl, rfl, rfl, h1, r1⟩ := trodAll_cons r0
  obtain ⟨rfl, rfl, rfl⟩ := trodAll_nil r1
  obtain rfl : args = #[v0, v1] := by
    clear fV hV Qg Vx VA hval
    cases args; simp_all
  obtain ⟨as0, ⟨pr, rfl, hpt, Rd⟩, k0⟩ := y7 acg Tryz.underlying28 (hval 0 _ v0 rfl rfl) h0
  obtain ⟨as1, ⟨rl, rfl, hrl⟩, k1⟩ := y7 o_rl Tryz.underlying31 (hval 1 _ v1 rfl rfl) h1
  obtain ⟨rfl, rfl⟩ := trodVars_none hV
  clear hA0
  obtain ⟨m, hm⟩ := Tryz.Tk.s1_3 W VA
  have dx := Wi (C := fun ad => W.cell? ad) hm
  have law := NB (c := run FB gg) rfl pr hpt rl hrl { heap := .e, next := .h } (fun p x hp => by rw [T.fO] at hp; cases hp)
  have walk := Tj (C := fun ad => W.cell? ad) (w := W) (Q3 (by kernel_rfl) G9 dx.1 dx.2 He) (fun ad v h => h) Tryz.func3 (by decide) rfl (ay.two (k0 _ _) (k1 _ _)) law
  refine walk.mono fun e W' ⟨he, hg⟩ => ?_
  subst he
  exact ⟨_, rfl, Rc (tb := 4) (by kernel_rfl) fV rfl rfl (by rw [Tryz.params3]; intro t ht; simp at ht; rcases ht with rfl | rfl <;> exact ⟨by kernel_rfl, of_decide_eq_true (by kernel_rfl)⟩) hg.below (by kernel_rfl) (by kernel_rfl)⟩
noncomputable def NC : Array Value := #[.int .u8 128, .int .u8 191, .int .u8 160, .int .u8 191, .int .u8 128, .int .u8 159, .int .u8 144, .int .u8 191, .int .u8 128, .int .u8 143, .int .u8 0, .int .u8 0, .int .u8 0, .int .u8 0, .int .u8 0, .int .u8 0, .int .u8 0, .int .u8 0, .int .u8 0, .int .u8 0, .int .u8 0, .int .u8 0, .int .u8 0, .int .u8 0, .int .u8 0, .int .u8 0, .int .u8 0, .int .u8 0, .int .u8 0, .int .u8 0, .int .u8 0, .int .u8 0]
noncomputable def firstCells : Array Value := (Go.Pinned.utf8FirstZ.map fun (n : Nat) => Value.int .u8 (n : Int)).toArray
noncomputable def JB (x : Array Value) : Obj -> Obj
  | .cells _ t frozen => .cells x t frozen
  | o => o
noncomputable def DC (os : Os) : World :=
  { World.holding Tryz.prog os ⟨#[], #[], []⟩ with heap := ((World.holding Tryz.prog os ⟨#[], #[], []⟩).heap.modify 4 (JB firstCells)).modify 5 (JB NC) }
noncomputable def KF : Array Value := #[.agg #[.slice none 0 0, .slice none 0 0, .slice none 0 0, .slice none 0 0, .slice none 0 0], .agg #[.int .u8 0, .int .i64 0, .string ⟨#[]⟩, .string ⟨#[]⟩, .string ⟨#[]⟩, .int .i64 0]]
theorem Tl (os : Os) : laidMet Tryz.prog Rows.ruleFitsRow.laid ((DC os).forCall (fun _ _ => 0) ⟨#[], KF, []⟩).memory :=
  laidMet_of_run' 8 (by kernel_rfl) (by kernel_rfl)
theorem reads (os : Os) {H : Type} (enc : TypeId × Value -> H) : ∃ places, DataW.whole enc Tryz.prog ((DC os).forCall (fun _ _ => 0) ⟨#[], KF, []⟩).memory Tryz.f3.params.toList Rows.ruleFitsSpec.vars false KF.toList 8 = some ([.agg [.nil, .nil, .nil, .nil, .nil], .agg [.lit (.int .u8 0), .lit (.int .i64 0), .lit (.string []), .lit (.string []), .lit (.string []), .lit (.int .i64 0)]], [], places) :=
  ⟨[], by kernel_rfl⟩
set_option maxRecDepth 100000 in
theorem lifted (os : Os) (started : os.Started) (H : Type) (enc : TypeId × Value -> H) (F : Stop.Interp) :
    ReturnsInHanded {} Tryz.checked os 3 .any ((OpenSpec.ofChange Rows.ruleFitsSpec).preRow enc Tryz.prog Tryz.f3 Rows.ruleFitsRow.domain false Rows.ruleFitsRow.laid) (((OpenSpec.ofChange Rows.ruleFitsSpec).at F).post enc Tryz.prog Tryz.f3 false true false false) := by
  obtain ⟨places, hx⟩ := reads os enc
  refine returnsInHanded_of_row (C := Tryz.checked) (s := OpenSpec.ofChange Rows.ruleFitsSpec) own started (by kernel_rfl) Tryz.func3
    (witness_row_at (enc := enc) (C := Tryz.checked) false (DC os) KF rfl (by kernel_rfl) (by kernel_rfl) (by kernel_rfl)
      (OpenSpec.preRow_of_cond 8 hx (by kernel_rfl) (fun k hk => by cases hk) (by kernel_rfl) (Tl os))) ?_
  intro W base args ds gs before hval hW _ _ _ _ VA _
  exact contract H enc W base args ds gs before hval hW VA
theorem said : Rows.RuleFitsSaid :=
  OpenClaim.holds_of_cond 3 Tryz.f3 rfl rfl rfl rfl rfl rfl rfl ⟨rfl, rfl, rfl, rfl, rfl⟩ rfl rfl rfl rfl rfl (by kernel_rfl) Tryz.func3 closed
    (of_decide_eq_true (by kernel_rfl)) (by unfold Func.isWrapper; first | (rw [if_pos (by decide +kernel)]; kernel_rfl) | (rw [if_neg (by decide +kernel)]; exact ⟨rfl, rfl⟩))
    (fun os started H enc _ F => by rw [OpenClaim.pre_eq_preRow]; exact lifted os started H enc F)
theorem plain (f : FuncId) (fn : Func) (hf : Tryz.pinned.checked.prog.funcNamed Rows.ruleFitsRow.func = some f) (iw : Tryz.pinned.checked.prog.funcs[f]? = some fn) :
    false = Tryz.pinned.checked.prog.looks [] /\ ∀ (j : Nat) t, fn.params[j]? = some t -> Tryz.pinned.checked.prog.wantsStandIn t = false := by
  obtain rfl : f = 3 := Option.some.inj ((show Tryz.prog.funcNamed Rows.ruleFitsRow.func = some 3 by kernel_rfl).symm.trans hf) |>.symm
  obtain rfl : fn = Tryz.f3 := (Option.some.inj (Tryz.func3.symm.trans iw)).symm
  refine ⟨by kernel_rfl, fun j t ht => ?_⟩
  rw [Tryz.params3] at ht
  have : t = 28 \/ t = 31 := by simpa using Array.mem_of_getElem? ht
  rcases this with rfl | rfl
  . exact (show Tryz.prog.wantsStandIn 28 = false by kernel_rfl)
  . exact (show Tryz.prog.wantsStandIn 31 = false by kernel_rfl)
end Go.Proofs.YtogojkhbplmifaaGreatDoor.w6
namespace Go.Proofs.YtogojkhbplmifaaGreatDoor
theorem ruleFits_card : Rows.RuleFitsCardSaid :=
  Claim7.holds_tied_plain_at .later [] _ _ _ _ w6.said (fun _ h => by cases h) (by kernel_rfl) (fun _ h => by cases h) ruleFits_row_tie rfl ⟨rfl, rfl⟩ (by kernel_rfl) rfl w6.plain (by kernel_rfl)
#print axioms ruleFits_card
end Go.Proofs.YtogojkhbplmifaaGreatDoor
end
