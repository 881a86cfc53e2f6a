/- The evaluator's calls answer as the model's calls do, on every tape. -/
import Derived.Test.YtehbdakjkjkekaaGreatDoorEvalC
import Derived.Orders
import Derived.Test.YtehbdakjkjkekaaGreatDoorEvalA
import Derived.Laws.Externs
import Derived.Lib.Bytealg
import Derived.KernelRfl
set_option linter.all false
set_option linter.unusedSectionVars false
set_option linter.deprecated false
section
namespace Go.Ai
open Go Go.RowKit
theorem beqFlat_eq {a b : AV} (h : beqFlat a b = true) : a = b := by
  unfold beqFlat at h
  split at h <;> (try simp only [Bool.and_eq_true, Bool.false_eq_true] at h) <;> try rfl
  . rw [beq_iff_eq.1 h]
  . rename_i k i k' i'
    have h2 := h.2; rw [intEq_eq] at h2
    rw [eqKind_eq h.1, beq_iff_eq.1 h2]
  . rw [beqNats_eq.1 h]
  . rw [Pos.beq_eq.1 h.1, Nat.eq_of_beq_eq_true h.2]
  . obtain ⟨⟨⟨h1, h2⟩, h3⟩, h4⟩ := h
    rw [Pos.beq_eq.1 h1, Nat.eq_of_beq_eq_true h2, Nat.eq_of_beq_eq_true h3, Nat.eq_of_beq_eq_true h4]
  . obtain ⟨⟨⟨⟨h1, h2⟩, h3⟩, h4⟩, h5⟩ := h
    rw [Pos.beq_eq.1 h1, Nat.eq_of_beq_eq_true h2, Nat.eq_of_beq_eq_true h3, Nat.eq_of_beq_eq_true h4, Nat.eq_of_beq_eq_true h5]
  . rw [Pos.beq_eq.1 h]
theorem beqFlats_eq : ∀ {a b : List AV}, beqFlats a b = true -> a = b
  | [], [], _ => rfl
  | [], _ :: _, h => by simp [beqFlats] at h
  | _ :: _, [], h => by simp [beqFlats] at h
  | a :: x, b :: y, h => by
    simp only [beqFlats, Bool.and_eq_true] at h
    rw [beqFlat_eq h.1, beqFlats_eq h.2]
theorem beqBy_eq {f : AV -> AV -> Bool} (hf : ∀ {a b}, f a b = true -> a = b) : ∀ {a b : List AV}, beqBy f a b = true -> a = b
  | [], [], _ => rfl
  | [], _ :: _, h => by simp [beqBy] at h
  | _ :: _, [], h => by simp [beqBy] at h
  | a :: x, b :: y, h => by
    simp only [beqBy, Bool.and_eq_true] at h
    rw [hf h.1, beqBy_eq hf h.2]
theorem beqRows_eq {f : AV -> AV -> Bool} (hf : ∀ {a b}, f a b = true -> a = b) : ∀ {a b : List (List AV)}, beqRows f a b = true -> a = b
  | [], [], _ => rfl
  | [], _ :: _, h => by simp [beqRows] at h
  | _ :: _, [], h => by simp [beqRows] at h
  | a :: x, b :: y, h => by
    simp only [beqRows, Bool.and_eq_true] at h
    rw [beqBy_eq hf h.1, beqRows_eq hf h.2]
theorem beqFl_eq : ∀ {d : Nat} {a b : AV}, beqFl d a b = true -> a = b
  | 0, _, _, h => by unfold beqFl at h; exact beqFlat_eq h
  | d + 1, a, b, h => by
    unfold beqFl at h
    split at h
    . rename_i heq; cases heq
      simp only [Bool.and_eq_true] at h
      rw [beqRows_eq (fun h => beqFl_eq h) h.1, Nat.eq_of_beq_eq_true h.2]
    . exact beqFlat_eq h
theorem beqDeep_eq {a b : AV} (h : beqDeep a b = true) : a = b := by
  unfold beqDeep at h
  split at h
  . simp only [Bool.and_eq_true] at h
    rw [Nat.eq_of_beq_eq_true h.1.1, beqFlats_eq h.1.2, beqFlats_eq h.2]
  . exact beqFl_eq h
  . exact beqFlat_eq h
theorem beqDeeps_eq : ∀ {a b : List AV}, beqDeeps a b = true -> a = b
  | [], [], _ => rfl
  | [], _ :: _, h => by simp [beqDeeps] at h
  | _ :: _, [], h => by simp [beqDeeps] at h
  | a :: x, b :: y, h => by
    simp only [beqDeeps, Bool.and_eq_true] at h
    rw [beqDeep_eq h.1, beqDeeps_eq h.2]
theorem beqAV_eq {a b : AV} (h : beqAV a b = true) : a = b := by
  unfold beqAV at h
  split at h
  . rw [beqDeeps_eq h]
  . rw [beqDeeps_eq h]
  . exact beqDeep_eq h
theorem run_mono {k : OpK} {H H' : Pos -> Option AB} {n n' : Pos} {xs : List AV} {v : AV} (h : k.run H n xs = some (.val v)) (hm : ∀ b x, H b = some x -> H' b = some x) :
    k.run H' n' xs = some (.val v) := by
  cases k <;> simp only [OpK.run] at h ⊢ <;> try exact h
  case alloc z => unfold runAlloc at h; split at h <;> cases h
  case box => unfold runBox at h; split at h <;> cases h
  case buildSlice es len z p => unfold runBuildSlice at h; dsimp only at h; split at h <;> cases h
  case mkMap => unfold runMkMap at h; cases h
  case mkSlice es b z =>
    unfold runMkSlice at h
    repeat' split at h
    all_goals cases h
  case rangeS =>
    unfold runRangeS at h
    repeat' split at h
    all_goals cases h
  case store m =>
    unfold runStore at h
    repeat' split at h
    all_goals cases h
  case mapSet pk =>
    unfold runMapSet at h
    repeat' split at h
    all_goals cases h
  case load m =>
    unfold runLoad at h ⊢
    split at h <;> first | (cases h; done) | skip
    split at h <;> first | (cases h; done) | skip
    . split at h <;> first | (cases h; done) | skip
      . rename_i cs fz hb
        simp only [hm _ _ hb]
        exact h
      . rename_i t0 cs hb
        simp only [hm _ _ hb]
        exact h
    . exact h
  case conv c =>
    unfold runConv at h ⊢
    split at h <;> first | (cases h; done) | skip
    split at h <;> first | (cases h; done) | exact h | skip
    rename_i b off m _ _
    cases hb : Nat.beq m 0 with
    | true => simp only [hb] at h ⊢; exact h
    | false =>
      simp only [hb] at h ⊢
      cases hH : H b with
      | none => simp [hH] at h
      | some x => simp only [hH] at h; simp only [hm _ _ hH]; exact h
  case lookup pk z ok =>
    unfold runLookup at h ⊢
    split at h <;> first | (cases h; done) | skip
    rename_i m k'
    cases m <;> try exact h
    rename_i b
    cases hb : H b with
    | none => simp [hb] at h
    | some x =>
      simp only [hb] at h
      simp only [hm _ _ hb]
      exact h
  case lenB lk =>
    unfold runLenB at h ⊢
    split at h <;> first | (cases h; done) | skip
    split at h <;> first | (cases h; done) | exact h | skip
    split at h <;> first | (cases h; done) | skip
    rename_i es c hb
    simp only [hm _ _ hb]
    exact h
  case nextS =>
    unfold runNextS at h ⊢
    split at h <;> first | (cases h; done) | skip
    split at h <;> first | (cases h; done) | skip
    split at h <;> first | (cases h; done) | skip
    rename_i s pos hb
    simp only [hm _ _ hb]
    split at h
    . rename_i aA
      split at h <;> cases h
    . rename_i aA
      exact h
  case allocT t z =>
    unfold runAllocT at h
    split at h <;> cases h
  case appendT e bytes =>
    unfold runAppendT at h ⊢
    split at h <;> first | (cases h; done) | skip
    split at h <;> first | (cases h; done) | skip
    split at h <;> first | (cases h; done) | skip
    . split at h <;> first | (cases h; done) | skip
      split at h <;> first | (cases h; done) | exact h
    . split at h <;> first | (cases h; done) | skip
      split at h
      . exact h
      . repeat' split at h
        all_goals cases h
  case toU =>
    unfold runToU at h ⊢
    split at h <;> first | (cases h; done) | skip
    split at h <;> first | (cases h; done) | exact h | skip
    split at h <;> first | (cases h; done) | skip
    rename_i t0 cs hb
    simp only [hm _ _ hb]
    exact h
  case fromU u m =>
    unfold runFromU at h ⊢
    split at h <;> first | (cases h; done) | skip
    split at h <;> first | (cases h; done) | exact h | skip
    split at h <;> first | (cases h; done) | skip
    rename_i t0 cs hb
    simp only [hm _ _ hb]
    exact h
  case unsafeStr e =>
    unfold runUnsafeStr at h ⊢
    split at h <;> first | (cases h; done) | skip
    split at h <;> first | (cases h; done) | skip
    split at h
    . exact h
    . repeat' split at h
      all_goals cases h
  case clearS es z =>
    unfold runClearS at h ⊢
    split at h <;> first | (cases h; done) | skip
    split at h <;> first | (cases h; done) | exact h | skip
    rename_i b off m _ _
    cases hb : Nat.beq m 0 with
    | true => simp only [hb] at h ⊢; exact h
    | false =>
      simp only [hb] at h
      repeat' split at h
      all_goals cases h
  case copyB es =>
    unfold runCopyB at h ⊢
    split at h <;> first | (cases h; done) | skip
    rename_i d x
    cases hd : lenA d with
    | none => simp [hd] at h
    | some m1 =>
      cases hx : lenA x with
      | none => simp [hd, hx] at h
      | some m2 =>
        simp only [hd, hx] at h ⊢
        cases hb : Nat.beq (min m2 m1) 0 with
        | true => simp only [hb] at h ⊢; exact h
        | false =>
          simp only [hb] at h
          split at h <;> first | (cases h; done) | skip
          split at h <;> first | (cases h; done) | skip
          split at h <;> cases h
  case append es bytes =>
    unfold runAppend at h ⊢
    split at h <;> first | (cases h; done) | skip
    rename_i s x
    cases hd : lenA s with
    | none => simp [hd] at h
    | some m1 =>
      cases hx : lenA x with
      | none => simp [hd, hx] at h
      | some m2 =>
        simp only [hd, hx] at h ⊢
        cases h1 : Nat.ble ((2 * (m1 + m2) + 768) * bytes) 281474976710656 with
        | false => simp [h1] at h
        | true =>
          cases h2 : Nat.ble (m1 + m2) 9223372036854775807 with
          | false => simp [h1, h2] at h
          | true =>
            simp only [h1, h2] at h ⊢
            cases hb : Nat.beq m2 0 with
            | true =>
              simp only [hb] at h ⊢
              split at h <;> first | (cases h; done) | exact h | skip
              all_goals (simp_all; done)
            | false =>
              simp only [hb] at h
              repeat' split at h
              all_goals first
                | (rename_i e; cases e; done)
                | (rename_i e _; cases e; done)
                | (cases h; done)
                | simp_all
inductive NewShape (n : Pos) : AV -> AB -> Prop where
  | ptr (cs : List AV) : NewShape n (.ptr n 0) (.cells cs 0)
  | siter (s : List Nat) : NewShape n (.ptr n 0) (.siter s 0)
  | slice (len es : Nat) (cap : Option Nat) (cs : List AV) (h : len = 0 -> cap = none \/ cap = some 0 -> cs = []) : NewShape n (.slice n 0 len cap es) (.cells cs 0)
  | map : NewShape n (.map n) (.map [] 0)
  | ptrT (t : TypeId) (cs : List AV) : NewShape n (.ptr n 0) (.typed t cs)
  | sliceT (len : Nat) (t : TypeId) (cs : List AV) (h : len ≠ 0) : NewShape n (.slice n 0 len none 1) (.typed t cs)
theorem fillA_nil : ∀ {ps : List (Nat × Nat)} {xs cs : List AV}, fillA [] ps xs = some cs -> cs = []
  | [], [], cs, h => by simp [fillA] at h; exact h.symm ▸ rfl
  | [], _ :: _, cs, h => by simp [fillA] at h
  | _ :: _, [], cs, h => by simp [fillA] at h
  | (off, size) :: ps, v :: vs, cs, h => by
    unfold fillA at h
    split at h <;> first | (cases h; done) | skip
    rename_i h1 h2
    have h1 := Nat.eq_of_beq_eq_true h1
    have h2 := Nat.le_of_ble_eq_true h2
    have h3 : v.cells = [] := by
      apply List.eq_nil_of_length_eq_zero
      simp at h2; omega
    rw [h3] at h
    have h4 : splice ([] : List AV) off [] = [] := by simp [splice]
    rw [h4] at h
    exact fillA_nil h
theorem run_new {k : OpK} {n : Pos} {xs : List AV} {v : AV} {blk : AB} (h : k.run (fun _ => none) n xs = some (.eff v none none (some blk))) : NewShape n v blk := by
  cases k <;> simp only [OpK.run] at h
  case alloc z => unfold runAlloc at h; split at h <;> cases h; exact .ptr _
  case allocT t z => unfold runAllocT at h; split at h <;> cases h; exact .ptrT _ _
  case appendT e bytes =>
    unfold runAppendT at h
    split at h <;> first | (cases h; done) | skip
    split at h <;> first | (cases h; done) | skip
    split at h <;> first | (cases h; done) | skip
    . split at h <;> first | (cases h; done) | skip
      split at h <;> cases h
      rename_i hb
      exact .sliceT _ _ _ (by have := Nat.ne_of_beq_eq_false hb; omega)
    . split at h <;> first | (cases h; done) | skip
      repeat' split at h
      all_goals cases h
  case toU => unfold runToU at h; repeat' split at h
              all_goals cases h
  case fromU => unfold runFromU at h; repeat' split at h
                all_goals cases h
  case sliceData => unfold runSliceData at h; repeat' split at h
                    all_goals cases h
  case unsafeStr => unfold runUnsafeStr at h; repeat' split at h
                    all_goals cases h
  case box => unfold runBox at h; split at h <;> cases h; exact .ptr _
  case buildSlice es len z p =>
    unfold runBuildSlice at h
    dsimp only at h
    split at h <;> cases h
    rename_i cs hc
    refine .slice _ _ _ _ fun h0 _ => ?_
    subst h0
    exact fillA_nil hc
  case mkMap => unfold runMkMap at h; cases h; exact .map
  case mkSlice es b z =>
    unfold runMkSlice at h
    repeat' split at h
    all_goals cases h
    refine .slice _ _ _ _ fun _ h1 => ?_
    rcases h1 with h1 | h1
    . cases h1
    . simp only [Option.some.injEq] at h1; subst h1; rfl
  case rangeS =>
    unfold runRangeS at h
    repeat' split at h
    all_goals cases h
    exact .siter _
  case conv c =>
    unfold runConv at h
    repeat' split at h
    all_goals cases h
    rename_i s
    refine .slice _ _ _ _ fun h0 _ => ?_
    rw [List.eq_nil_of_length_eq_zero h0]; rfl
  case append es bytes =>
    unfold runAppend at h
    repeat' split at h
    all_goals cases h
    all_goals refine .slice _ _ _ _ fun h0 _ => ?_
    all_goals (exfalso; rename_i hb _ _; simp_all)
  case move => unfold runMove at h; split at h <;> cases h
  case pick => unfold runPick at h; repeat' split at h
               all_goals cases h
  case build => unfold runBuild at h; dsimp only at h; split at h <;> cases h
  case load => unfold runLoad at h; repeat' split at h
               all_goals cases h
  case store => unfold runStore at h; repeat' split at h
                all_goals cases h
  case nilCheck => unfold runNilCheck at h; repeat' split at h
                   all_goals cases h
  case bin => unfold runBin at h; repeat' split at h
              all_goals cases h
  case un => unfold runUn at h; repeat' split at h
             all_goals cases h
  case mkIface => unfold runMkIface at h; repeat' split at h
                  all_goals cases h
  case mkFunc => unfold runMkFunc at h; dsimp only at h; cases h
  case lookup =>
    unfold runLookup at h
    split at h <;> first | (cases h; done) | skip
    dsimp only at h
    split at h <;> cases h
  case mapSet => unfold runMapSet at h; repeat' split at h
                 all_goals cases h
  case sliceS =>
    unfold runSliceS at h
    split at h <;> first | (cases h; done) | skip
    split at h <;> first | (cases h; done) | skip
    dsimp only at h
    split at h <;> cases h
  case sliceL => unfold runSliceL at h; repeat' split at h
                 all_goals cases h
  case fieldA => unfold runFieldA at h; repeat' split at h
                 all_goals cases h
  case idxA => unfold runIdxA at h; repeat' split at h
               all_goals cases h
  case field => unfold runField at h; repeat' split at h
                all_goals cases h
  case idxS => unfold runIdxS at h; repeat' split at h
               all_goals cases h
  case extract => unfold runExtract at h; repeat' split at h
                  all_goals cases h
  case callF => unfold runCallF at h; dsimp only at h; cases h
  case callV => unfold runCallV at h; repeat' split at h
                all_goals cases h
  case lenB => unfold runLenB at h; repeat' split at h
               all_goals cases h
  case copyB =>
    unfold runCopyB at h
    split at h <;> first | (cases h; done) | skip
    split at h <;> first | (cases h; done) | skip
    dsimp only at h
    repeat' split at h
    all_goals cases h
  case minB => unfold runMinB at h; repeat' split at h
               all_goals cases h
  case maxB => unfold runMaxB at h; repeat' split at h
               all_goals cases h
  case clearS => unfold runClearS at h; repeat' split at h
                 all_goals cases h
  case nextS => unfold runNextS at h; repeat' split at h
                all_goals cases h
  case capB => cases h
  case bad => cases h
end Go.Ai
end
section
namespace Go.Ai
def MonoCall (call : CallA) : Prop := ∀ f args st v st', call f args st = some (v, st') -> st.next.toNat <= st'.next.toNat
section
variable {call : CallA}
theorem stepA_mono (hm : MonoCall call) {k : OpK} {xs : List AV} {st st' : St} {v : AV} (h : stepA call k xs st = some (v, st')) : st.next.toNat <= st'.next.toNat := by
  unfold stepA at h
  split at h
  . simp only [Option.some.injEq, Prod.mk.injEq] at h; rw [h.2]; exact Nat.le_refl _
  . simp only [Option.some.injEq, Prod.mk.injEq] at h; rw [<- h.2]; exact St.eff_next _ _ _ _
  . exact hm _ _ _ _ _ h
  . cases h
theorem opsA_mono (hm : MonoCall call) : ∀ (os : List AOper) (fr aq : Fr) (st st' : St), opsA call os fr st = some (aq, st') -> st.next.toNat <= st'.next.toNat
  | [], fr, aq, st, st', h => by simp only [opsA, Option.some.injEq, Prod.mk.injEq] at h; rw [h.2]; exact Nat.le_refl _
  | o :: os, fr, aq, st, st', h => by
    unfold opsA at h
    split at h
    . split at h <;> first | (cases h; done) | skip
      split at h <;> first | (cases h; done) | skip
      rename_i hs
      exact Nat.le_trans (stepA_mono hm hs) (opsA_mono hm os _ _ _ _ h)
    . exact opsA_mono hm os _ _ _ _ h
    . cases h
theorem drawA_mono (hm : MonoCall call) : ∀ (os : List (Nat × AOper)) (recs : List Rec) (base : T AB) (fr aq : Fr) (st st' : St), drawA call os recs base fr st = some (aq, st') -> st.next.toNat <= st'.next.toNat
  | [], recs, base, fr, aq, st, st', h => by simp only [drawA, Option.some.injEq, Prod.mk.injEq] at h; rw [h.2]; exact Nat.le_refl _
  | (j, o) :: os, recs, base, fr, aq, st, st', h => by
    have hs : st.next.toNat <= st.next.succ.toNat := by rw [Pos.toNat_succ]; omega
    unfold drawA at h
    split at h
    . exact drawA_mono hm os _ _ _ _ _ _ h
    . split at h <;> first | (cases h; done) | skip
      split at h
      . split at h <;> first | (cases h; done) | skip
        exact Nat.le_trans hs (drawA_mono hm os _ _ _ _ _ _ h)
      . split at h <;> first | (cases h; done) | skip
        rename_i hs
        exact Nat.le_trans (stepA_mono hm hs) (drawA_mono hm os _ _ _ _ _ _ h)
      . split at h
        . exact drawA_mono hm os _ _ _ _ _ _ h
        . split at h <;> first | (cases h; done) | skip
          split at h <;> first | (cases h; done) | skip
          exact drawA_mono hm os _ _ _ _ _ _ h
    . cases h
theorem exec_mono (hm : MonoCall call) : ∀ (m : Nat) (c : AC) (fr aq : Fr) (st st' : St) (ex : AExit), exec call m c fr st = some (ex, aq, st') -> st.next.toNat <= st'.next.toNat
  | 0, c, fr, aq, st, st', ex, h => by simp [exec] at h
  | m + 1, c, fr, aq, st, st', ex, h => by
    have ih := exec_mono hm m
    simp only [exec] at h
    unfold execStep at h
    split at h
    . simp only [Option.some.injEq, Prod.mk.injEq] at h; rw [h.2.2]; exact Nat.le_refl _
    . split at h <;> first | (cases h; done) | skip
      rename_i hs
      simp only [Option.some.injEq, Prod.mk.injEq] at h
      rw [<- h.2.2]; exact opsA_mono hm _ _ _ _ _ hs
    . split at h <;> first | (cases h; done) | skip
      rename_i hs
      simp only [Option.some.injEq, Prod.mk.injEq] at h
      rw [<- h.2.2]; exact drawA_mono hm _ _ _ _ _ _ _ hs
    . split at h
      . rename_i hs
        exact Nat.le_trans (ih _ _ _ _ _ _ hs) (ih _ _ _ _ _ _ h)
      . exact ih _ _ _ _ _ _ h
    . split at h <;> first | (cases h; done) | exact ih _ _ _ _ _ _ h
    . split at h
      . rename_i hs
        split at h <;> (simp only [Option.some.injEq, Prod.mk.injEq] at h; rw [<- h.2.2]; exact ih _ _ _ _ _ _ hs)
      . exact ih _ _ _ _ _ _ h
    . split at h
      . rename_i hs
        exact Nat.le_trans (ih _ _ _ _ _ _ hs) (ih _ _ _ _ _ _ h)
      . exact ih _ _ _ _ _ _ h
    . simp only [Option.some.injEq, Prod.mk.injEq] at h; rw [h.2.2]; exact Nat.le_refl _
    . simp only [Option.some.injEq, Prod.mk.injEq] at h; rw [h.2.2]; exact Nat.le_refl _
def OracleMono (O : Oracle) : Prop := ∀ f s, O f = some s -> ∀ args st v st', s args st = some (v, st') -> st.next.toNat <= st'.next.toNat
theorem callA_mono {O : Oracle} {G : T AFunc} (hO : OracleMono O) (m : Nat) : ∀ d, MonoCall (callA O G m d)
  | 0 => fun f args st v st' h => by simp [callA] at h
  | d + 1 => fun f args st v st' h => by
    have ih := callA_mono (G := G) hO m d
    unfold callA at h
    split at h
    . rename_i s hs; exact hO f s hs args st v st' h
    . split at h <;> first | (cases h; done) | skip
      split at h <;> first | (cases h; done) | skip
      split at h <;> first | (cases h; done) | skip
      . rename_i hs
        split at h <;> first | (cases h; done) | skip
        simp only [Option.some.injEq, Prod.mk.injEq] at h
        rw [<- h.2]; exact exec_mono ih _ _ _ _ _ _ _ hs
      . rename_i hs
        split at h <;> first | (cases h; done) | skip
        simp only [Option.some.injEq, Prod.mk.injEq] at h
        rw [<- h.2]; exact exec_mono ih _ _ _ _ _ _ _ hs
end
end Go.Ai
end
section
namespace Go.Ai
def frOf (fr0 : Fr) : List Rec -> Fr
  | [] => fr0
  | r :: R => setDst (frOf fr0 R) r.o.dst r.v
def nxOf (n0 : Pos) : List Rec -> Pos
  | [] => n0
  | r :: _ => r.nx
def RC.isEff : RC -> Bool
  | .eff _ _ => true
  | _ => false
def baseOf (h0 : T AB) : List Rec -> T AB
  | [] => h0
  | r :: R => match r.c with
    | .eff _ h => h
    | _ => baseOf h0 R
def heapOf (h0 : T AB) : List Rec -> T AB
  | [] => h0
  | r :: R => match r.c with
    | .eff _ h => h
    | .new id blk => (heapOf h0 R).put (some blk) id
    | .pure => heapOf h0 R
def Bound : List Rec -> Prop
  | [] => True
  | r :: _ => r.c.isEff = true
def ReadOk (h0 : T AB) (R : List Rec) (o : AOper) (xs : List AV) (v : AV) : Prop :=
  ∀ A B, R = A ++ B -> Bound B -> (∀ r ∈ A, r.c.isEff = true -> o.bef.testBit r.idx = false) ->
    ∃ h : T AB, (∀ b x, h.get b = some x -> (baseOf h0 B).get b = some x \/ ∃ r ∈ A, r.c = .new b x /\ o.bef.testBit r.idx = true) /\ o.k.run (fun b => h.get b) .h xs = some (.val v)
inductive StepOk (call : CallA) (fr0 : Fr) (h0 : T AB) (n0 : Pos) : Rec -> List Rec -> Prop where
  | skip (i : Nat) (o : AOper) (R : List Rec) (hw : wantedA (frOf fr0 R) o.guard = some false) :
      StepOk call fr0 h0 n0 { idx := i, o := o, v := .undef, c := .pure, nx := nxOf n0 R } R
  | pure (i : Nat) (o : AOper) (v : AV) (xs : List AV) (R : List Rec) (hw : wantedA (frOf fr0 R) o.guard = some true) (hx : evsA (frOf fr0 R) o.xs = some xs) (hr : ReadOk h0 R o xs v) :
      StepOk call fr0 h0 n0 { idx := i, o := o, v := v, c := .pure, nx := nxOf n0 R } R
  | new (i : Nat) (o : AOper) (v : AV) (blk : AB) (xs : List AV) (R : List Rec) (hw : wantedA (frOf fr0 R) o.guard = some true) (hx : evsA (frOf fr0 R) o.xs = some xs)
      (hr : o.k.run (fun _ => none) (nxOf n0 R) xs = some (.eff v none none (some blk))) :
      StepOk call fr0 h0 n0 { idx := i, o := o, v := v, c := .new (nxOf n0 R) blk, nx := (nxOf n0 R).succ } R
  | eff (i : Nat) (o : AOper) (v : AV) (st' : St) (xs : List AV) (R : List Rec) (hc : o.cls = .eff) (hw : wantedA (frOf fr0 R) o.guard = some true) (hx : evsA (frOf fr0 R) o.xs = some xs)
      (hr : stepA call o.k xs { heap := heapOf h0 R, next := nxOf n0 R } = some (v, st')) :
      StepOk call fr0 h0 n0 { idx := i, o := o, v := v, c := .eff (baseOf h0 R) st'.heap, nx := st'.next } R
def Good (call : CallA) (fr0 : Fr) (h0 : T AB) (n0 : Pos) : List Rec -> Prop
  | [] => True
  | r :: R => StepOk call fr0 h0 n0 r R /\ Good call fr0 h0 n0 R
section
variable {call : CallA} {fr0 : Fr} {h0 : T AB} {n0 : Pos}
theorem Good.tail : ∀ {A B : List Rec}, Good call fr0 h0 n0 (A ++ B) -> Good call fr0 h0 n0 B
  | [], _, h => h
  | _ :: _, _, h => Good.tail h.2
theorem Good.at {A B : List Rec} {r : Rec} (h : Good call fr0 h0 n0 (A ++ r :: B)) : StepOk call fr0 h0 n0 r B := (Good.tail h).1
theorem baseOf_app : ∀ {A B : List Rec}, (∀ r ∈ A, r.c.isEff = false) -> baseOf h0 (A ++ B) = baseOf h0 B
  | [], _, _ => rfl
  | r :: A, B, h => by
    have h1 := h r (List.mem_cons_self ..)
    have ih := baseOf_app (A := A) (B := B) fun r hr => h r (List.mem_cons_of_mem _ hr)
    simp only [List.cons_append, baseOf]
    split
    . rename_i hc; rw [hc] at h1; cases h1
    . exact ih
theorem snap_sub {bef : Nat} : ∀ {A B : List Rec} {h : T AB} {b : Pos} {x : AB}, (∀ r ∈ A, r.c.isEff = false) -> Bound B -> (snap bef h (A ++ B)).get b = some x ->
    h.get b = some x \/ ∃ r ∈ A, r.c = .new b x /\ bef.testBit r.idx = true
  | [], B, h, b, x, _, hB, hs => by
    cases B with
    | nil => exact .inl hs
    | cons r B =>
      simp only [Bound] at hB
      simp only [List.nil_append, snap] at hs
      cases hc : r.c <;> rw [hc] at hB <;> first | (cases hB; done) | skip
      rw [hc] at hs
      exact .inl hs
  | r :: A, B, h, b, x, hA, hB, hs => by
    have ih := @snap_sub bef A B h b x (fun r hr => hA r (List.mem_cons_of_mem _ hr)) hB
    have up : (h.get b = some x \/ ∃ r ∈ A, r.c = .new b x /\ bef.testBit r.idx = true) -> h.get b = some x \/ ∃ r' ∈ r :: A, r'.c = .new b x /\ bef.testBit r'.idx = true := fun h1 =>
      h1.imp id fun ⟨r', h2, h3⟩ => ⟨r', List.mem_cons_of_mem _ h2, h3⟩
    simp only [List.cons_append, snap] at hs
    cases hc : r.c with
    | pure => rw [hc] at hs; exact up (ih hs)
    | eff b1 h1 => have := hA r (List.mem_cons_self ..); rw [hc] at this; cases this
    | new id blk =>
      rw [hc] at hs
      cases ht : bef.testBit r.idx with
      | false => simp only [ht] at hs; exact up (ih hs)
      | true =>
        simp only [ht] at hs
        by_cases hid : id = b
        . subst hid
          rw [T.get_put] at hs
          simp only [Option.some.injEq] at hs; subst hs
          exact .inr ⟨r, List.mem_cons_self .., hc, ht⟩
        . rw [T.get_put_ne _ hid] at hs
          exact up (ih hs)
theorem putUp_sub : ∀ {up : List (Pos × AB)} {h : T AB} {b : Pos} {x : AB}, (putUp up h).get b = some x -> h.get b = some x \/ (b, x) ∈ up
  | [], _, _, _, h => .inl h
  | (id, blk) :: up, h, b, x, hs => by
    unfold putUp at hs
    by_cases hid : id = b
    . subst hid
      rw [T.get_put] at hs
      simp only [Option.some.injEq] at hs; subst hs
      exact .inr (List.mem_cons_self ..)
    . rw [T.get_put_ne _ hid] at hs
      exact (putUp_sub hs).imp (fun h => h) fun h => List.mem_cons_of_mem _ h
theorem effs_split : ∀ (A : List Rec), (∀ r ∈ A, r.c.isEff = false) \/ ∃ r ∈ A, r.c.isEff = true
  | [] => .inl fun r h => by cases h
  | r :: A => by
    cases hr : r.c.isEff with
    | true => exact .inr ⟨r, List.mem_cons_self .., hr⟩
    | false =>
      rcases effs_split A with h | ⟨r', h1, h2⟩
      . exact .inl fun r' cQ => by
          rcases List.mem_cons.1 cQ with rfl | h'
          . exact hr
          . exact h r' h'
      . exact .inr ⟨r', List.mem_cons_of_mem _ h1, h2⟩
theorem readBack_spec {bef : Nat} {k : OpK} {xs : List AV} {v : AV} : ∀ (A B : List Rec) (up : List (Pos × AB)), readBack bef k xs v up (A ++ B) = true -> Good call fr0 h0 n0 (A ++ B) -> Bound B ->
    (∀ r ∈ A, r.c.isEff = true -> bef.testBit r.idx = false) -> (∃ r ∈ A, r.c.isEff = true) ->
    ∃ h : T AB, (∀ b x, h.get b = some x -> (baseOf h0 B).get b = some x \/ (∃ r ∈ A, r.c = .new b x /\ bef.testBit r.idx = true) \/ (b, x) ∈ up) /\ k.run (fun b => h.get b) .h xs = some (.val v)
  | [], B, up, _, _, _, _, he => by obtain ⟨r, hr, _⟩ := he; cases hr
  | r :: A, B, up, ko, hG, hB, hn, he => by
    have Bz : ∀ r ∈ A, r.c.isEff = true -> bef.testBit r.idx = false := fun r' cQ => hn r' (List.mem_cons_of_mem _ cQ)
    have ih := fun up (h2 : readBack bef k xs v up (A ++ B) = true) h3 => readBack_spec A B up h2 hG.2 hB Bz h3
    simp only [List.cons_append, readBack] at ko
    cases hc : r.c with
    | pure =>
      rw [hc] at ko
      have dZ : ∃ r ∈ A, r.c.isEff = true := by
        obtain ⟨r', h1, h2⟩ := he
        rcases List.mem_cons.1 h1 with rfl | h1
        . rw [hc] at h2; cases h2
        . exact ⟨r', h1, h2⟩
      obtain ⟨h, h1, h2⟩ := ih up ko dZ
      exact ⟨h, fun b x hb => (h1 b x hb).imp (fun h => h) (Or.imp (fun ⟨r', h3, h4⟩ => ⟨r', List.mem_cons_of_mem _ h3, h4⟩) fun h => h), h2⟩
    | new id blk =>
      rw [hc] at ko
      have dZ : ∃ r ∈ A, r.c.isEff = true := by
        obtain ⟨r', h1, h2⟩ := he
        rcases List.mem_cons.1 h1 with rfl | h1
        . rw [hc] at h2; cases h2
        . exact ⟨r', h1, h2⟩
      cases ht : bef.testBit r.idx with
      | false =>
        simp only [ht] at ko
        obtain ⟨h, h1, h2⟩ := ih up ko dZ
        exact ⟨h, fun b x hb => (h1 b x hb).imp (fun h => h) (Or.imp (fun ⟨r', h3, h4⟩ => ⟨r', List.mem_cons_of_mem _ h3, h4⟩) fun h => h), h2⟩
      | true =>
        simp only [ht] at ko
        obtain ⟨h, h1, h2⟩ := ih _ ko dZ
        refine ⟨h, fun b x hb => ?_, h2⟩
        rcases h1 b x hb with h3 | ⟨r', h3, h4⟩ | h3
        . exact .inl h3
        . exact .inr (.inl ⟨r', List.mem_cons_of_mem _ h3, h4⟩)
        . rcases List.mem_cons.1 h3 with h3 | h3
          . simp only [Prod.mk.injEq] at h3
            obtain ⟨rfl, rfl⟩ := h3
            exact .inr (.inl ⟨r, List.mem_cons_self .., hc, ht⟩)
          . exact .inr (.inr h3)
    | eff base h =>
      rw [hc] at ko
      have ht := hn r (List.mem_cons_self ..) (by rw [hc]; rfl)
      simp only [ht, Bool.and_eq_true] at ko
      rcases effs_split A with hA | hA
      . have ru : base = baseOf h0 B := by
          have hs := hG.1
          cases hs <;> simp only at hc <;> first | (cases hc; done) | skip
          simp only [RC.eff.injEq] at hc
          rw [<- hc.1]; exact baseOf_app hA
        have BA := ko.1
        unfold readsAs at BA
        split at BA <;> first | (cases BA; done) | skip
        rename_i u hu
        rw [beqAV_eq BA] at hu
        refine ⟨_, fun b x hb => ?_, hu⟩
        rcases putUp_sub hb with hb | hb
        . rcases snap_sub hA hB hb with h3 | ⟨r', h3, h4⟩
          . rw [<- ru]; exact .inl h3
          . exact .inr (.inl ⟨r', List.mem_cons_of_mem _ h3, h4⟩)
        . exact .inr (.inr hb)
      . obtain ⟨h, h1, h2⟩ := ih up ko.2 hA
        exact ⟨h, fun b x hb => (h1 b x hb).imp (fun h => h) (Or.imp (fun ⟨r', h3, h4⟩ => ⟨r', List.mem_cons_of_mem _ h3, h4⟩) fun h => h), h2⟩
theorem drawA_good : ∀ (L : List (Nat × AOper)) (R : List Rec) (fr aq : Fr) (st st' : St), drawA call L R (baseOf h0 R) fr st = some (aq, st') -> Good call fr0 h0 n0 R ->
    fr = frOf fr0 R -> st.heap = heapOf h0 R -> st.next = nxOf n0 R ->
    ∃ R', Good call fr0 h0 n0 (R' ++ R) /\ (R'.map fun r => (r.idx, r.o)) = L.reverse /\ aq = frOf fr0 (R' ++ R) /\ st'.heap = heapOf h0 (R' ++ R) /\ st'.next = nxOf n0 (R' ++ R)
  | [], R, fr, aq, st, st', h, hG, h1, h2, h3 => by
    simp only [drawA, Option.some.injEq, Prod.mk.injEq] at h
    obtain ⟨rfl, rfl⟩ := h
    exact ⟨[], hG, rfl, h1, h2, h3⟩
  | (j, o) :: L, R, fr, aq, st, st', h, hG, h1, h2, h3 => by
    have fin : ∀ (r : Rec) (aH : St) (bC : Fr), r.idx = j -> r.o = o -> StepOk call fr0 h0 n0 r R -> bC = frOf fr0 (r :: R) -> aH.heap = heapOf h0 (r :: R) -> aH.next = r.nx ->
        drawA call L (r :: R) (baseOf h0 (r :: R)) bC aH = some (aq, st') ->
        ∃ R', Good call fr0 h0 n0 (R' ++ R) /\ (R'.map fun r => (r.idx, r.o)) = ((j, o) :: L).reverse /\ aq = frOf fr0 (R' ++ R) /\ st'.heap = heapOf h0 (R' ++ R) /\ st'.next = nxOf n0 (R' ++ R) := by
      intro r aH bC hj ho hs k1 k2 k3 hd
      obtain ⟨R', g1, g2, g3, g4, g5⟩ := drawA_good L (r :: R) bC aq aH st' hd ⟨hs, hG⟩ k1 k2 k3
      have e : R' ++ r :: R = (R' ++ [r]) ++ R := by simp
      rw [e] at g1 g3 g4 g5
      exact ⟨R' ++ [r], g1, by simp [g2, hj, ho], g3, g4, g5⟩
    unfold drawA at h
    subst h1
    split at h
    . rename_i hw
      exact fin _ _ _ rfl rfl (h3 ▸ StepOk.skip j o R hw) rfl h2 rfl h
    . rename_i hw
      split at h <;> first | (cases h; done) | skip
      rename_i xs hx
      split at h
      . split at h <;> first | (cases h; done) | skip
        rename_i v blk hr
        rw [h3] at hr
        have hs := StepOk.new (call := call) (fr0 := fr0) (h0 := h0) (n0 := n0) j o v blk xs R hw hx hr
        rw [<- h3] at hs
        refine fin _ _ _ rfl rfl hs rfl ?_ rfl h
        simp only [heapOf, h2]
      . rename_i Aq
        split at h <;> first | (cases h; done) | skip
        rename_i v aH hr
        have ei : st = { heap := heapOf h0 R, next := nxOf n0 R } := by cases st; simp_all
        rw [ei] at hr
        exact fin _ aH _ rfl rfl (StepOk.eff j o v aH xs R Aq hw hx hr) rfl rfl rfl h
      . split at h
        . rename_i v hr
          have qq : ReadOk h0 R o xs v := by
            intro A B _ _ _
            refine ⟨.e, fun b x hb => ?_, ?_⟩
            . rw [T.get_e] at hb; cases hb
            . have e : (fun b => T.get b (T.e : T AB)) = fun _ => none := by funext b; exact T.get_e b
              rw [e]; exact hr
          exact fin _ _ _ rfl rfl (h3 ▸ StepOk.pure j o v xs R hw hx qq) rfl h2 rfl h
        . split at h <;> first | (cases h; done) | skip
          rename_i v hr
          split at h <;> first | (cases h; done) | skip
          rename_i ko
          have qq : ReadOk h0 R o xs v := by
            intro A B hAB hB hn
            subst hAB
            rcases effs_split A with hA | hA
            . refine ⟨_, fun b x hb => ?_, hr⟩
              have := snap_sub hA hB hb
              rw [baseOf_app hA] at this
              exact this
            . obtain ⟨h, k1, k2⟩ := readBack_spec A B [] ko hG hB hn hA
              exact ⟨h, fun b x hb => (k1 b x hb).imp id fun h => h.resolve_right (by simp), k2⟩
          exact fin _ _ _ rfl rfl (h3 ▸ StepOk.pure j o v xs R hw hx qq) rfl h2 rfl h
    . cases h
end
end Go.Ai
end
section
namespace Go.Ai
open Go
structure Late (m : Nat) (pre : List Nat) (L : List (Nat × AOper)) : Prop where
  all : ∀ i, i < m -> i ∈ pre \/ i ∈ L.map (·.1)
  lt : ∀ x ∈ L, x.1 < m
  one : ∀ A i o B, L = A ++ (i, o) :: B -> i ∉ pre /\ i ∉ A.map (·.1)
  bef : ∀ A i o B, L = A ++ (i, o) :: B -> ∀ b, o.bef.testBit b = true -> b ∈ pre \/ b ∈ A.map (·.1)
  eff : ∀ A i o B, L = A ++ (i, o) :: B -> o.cls = .eff -> ∀ b, (b ∈ pre \/ b ∈ A.map (·.1)) -> o.bef.testBit b = true
  apart : ∀ A i o B, L = A ++ (i, o) :: B -> ∀ x ∈ B, x.2.bef.testBit i = true \/ apartA o x.2 = true
theorem drawOk_spec {m : Nat} : ∀ (L : List (Nat × AOper)) (seen : Nat) (pre : List Nat), drawOk m seen L = true -> (∀ b, seen.testBit b = true ↔ b ∈ pre) -> Late m pre L
  | [], seen, pre, h, hs => by
    simp only [drawOk] at h
    have := Nat.eq_of_beq_eq_true h
    refine ⟨fun i hi => .inl ((hs i).1 ?_), fun x hx => (by cases hx), fun A i o B h => ?_, fun A i o B h => ?_, fun A i o B h => ?_, fun A i o B h => ?_⟩
    . rw [this, Nat.testBit_two_pow_sub_one]; simpa using hi
    all_goals (cases A <;> cases h)
  | (i, o) :: L, seen, pre, h, hs => by
    simp only [drawOk, Bool.and_eq_true] at h
    obtain ⟨⟨⟨⟨⟨h1, h2⟩, h3⟩, h4⟩, h5⟩, h6⟩ := h
    have h1 : i < m := Nat.le_of_ble_eq_true h1
    have h2 : i ∉ pre := fun hp => by rw [(hs i).2 hp] at h2; cases h2
    have h3 := Nat.eq_of_beq_eq_true h3
    have hb : ∀ b, o.bef.testBit b = true -> b ∈ pre := fun b hb => by
      rw [<- h3, Nat.testBit_and, Bool.and_eq_true] at hb
      exact (hs b).1 hb.2
    have he : o.cls = .eff -> ∀ b, b ∈ pre -> o.bef.testBit b = true := fun hc b hp => by
      rw [hc] at h4
      rw [Nat.eq_of_beq_eq_true h4]; exact (hs b).2 hp
    have ih := drawOk_spec L (seen ||| 2 ^ i) (pre ++ [i]) h6 (fun b => by
      rw [Nat.testBit_or, Nat.testBit_two_pow, Bool.or_eq_true, hs b, List.mem_append]
      simp [eq_comm])
    rw [List.all_eq_true] at h5
    have nK : ∀ {A : List (Nat × AOper)} {j : Nat} {p : AOper} {B : List (Nat × AOper)}, (i, o) :: L = A ++ (j, p) :: B -> (A = [] /\ i = j /\ o = p /\ L = B) \/ ∃ A', A = (i, o) :: A' /\ L = A' ++ (j, p) :: B := by
      intro A j p B hA
      cases A with
      | nil => simp at hA; exact .inl ⟨rfl, hA.1.1, hA.1.2, hA.2⟩
      | cons x A => simp at hA; exact .inr ⟨A, by rw [hA.1], hA.2⟩
    refine ⟨fun j hj => ?_, fun x hx => ?_, fun A j p B hA => ?_, fun A j p B hA => ?_, fun A j p B hA => ?_, fun A j p B hA => ?_⟩
    . rcases ih.all j hj with h | h
      . rcases List.mem_append.1 h with h | h
        . exact .inl h
        . simp at h; exact .inr (by simp [h])
      . exact .inr (by simp only [List.map_cons, List.mem_cons]; exact .inr h)
    . rcases List.mem_cons.1 hx with rfl | hx
      . exact h1
      . exact ih.lt x hx
    . rcases nK hA with ⟨rfl, rfl, rfl, rfl⟩ | ⟨A', rfl, mg⟩
      . exact ⟨h2, by simp⟩
      . obtain ⟨k1, k2⟩ := ih.one A' j p B mg
        simp only [List.mem_append, List.mem_singleton, not_or] at k1
        exact ⟨k1.1, by simp only [List.map_cons, List.mem_cons, not_or]; exact ⟨k1.2, k2⟩⟩
    . rcases nK hA with ⟨rfl, rfl, rfl, rfl⟩ | ⟨A', rfl, mg⟩
      . exact fun b cD => .inl (hb b cD)
      . intro b cD
        rcases ih.bef A' j p B mg b cD with h | h
        . rcases List.mem_append.1 h with h | h
          . exact .inl h
          . simp at h; exact .inr (by simp [h])
        . exact .inr (by simp only [List.map_cons, List.mem_cons]; exact .inr h)
    . rcases nK hA with ⟨rfl, rfl, rfl, rfl⟩ | ⟨A', rfl, mg⟩
      . intro hc b cD
        rcases cD with h | h
        . exact he hc b h
        . simp at h
      . intro hc b cD
        refine ih.eff A' j p B mg hc b ?_
        rcases cD with h | h
        . exact .inl (List.mem_append.2 (.inl h))
        . simp only [List.map_cons, List.mem_cons] at h
          rcases h with rfl | h
          . exact .inl (by simp)
          . exact .inr h
    . rcases nK hA with ⟨rfl, rfl, rfl, rfl⟩ | ⟨A', rfl, mg⟩
      . intro x hx
        have := h5 x hx
        rwa [Bool.or_eq_true] at this
      . exact ih.apart A' j p B mg
inductive Reach (ops : Array Oper) : Nat -> Nat -> Prop where
  | edge (i : Nat) (o : Oper) (e : Edge) (ho : ops[i]? = some o) (he : e ∈ o.after) (hb : Region.binds .any e = true) : Reach ops i e.on
  | trans (i : Nat) (o : Oper) (e : Edge) (b : Nat) (ho : ops[i]? = some o) (he : e ∈ o.after) (hb : Region.binds .any e = true) (h : Reach ops e.on b) : Reach ops i b
def BefOk (ops : Array Oper) (i m : Nat) : Prop :=
  (∀ o, ops[i]? = some o -> ∀ e ∈ o.after, Region.binds .any e = true -> m.testBit e.on = true) /\ ∀ b, m.testBit b = true -> Reach ops i b
theorem befFold (acc : List Nat) : ∀ (l : List Edge) (s b : Nat), (l.foldl (fun s e => match Region.binds .any e with
      | true => s ||| 2 ^ e.on ||| (nth acc e.on).getD 0
      | false => s) s).testBit b = true ↔ s.testBit b = true \/ ∃ e ∈ l, Region.binds .any e = true /\ (e.on = b \/ ((nth acc e.on).getD 0).testBit b = true)
  | [], s, b => by simp
  | e :: l, s, b => by
    rw [List.foldl_cons, befFold acc l]
    cases he : Region.binds .any e with
    | false => simp [he]
    | true =>
      simp only [Nat.testBit_or, Bool.or_eq_true, Nat.testBit_two_pow, decide_eq_true_eq, List.mem_cons, exists_eq_or_imp, he, true_and]
      constructor
      . rintro (((h | h) | h) | h)
        . exact .inl h
        . exact .inr (.inl (.inl h))
        . exact .inr (.inl (.inr h))
        . exact .inr (.inr h)
      . rintro (h | (h | h) | h)
        . exact .inl (.inl (.inl h))
        . exact .inl (.inl (.inr h))
        . exact .inl (.inr h)
        . exact .inr h
theorem befs_ok {ops : Array Oper} : ∀ (os : List Oper) (acc : List Nat), os = ops.toList.drop acc.length -> acc.length <= ops.size -> (∀ i, i < acc.length -> BefOk ops i (acc.getD i 0)) ->
    ∀ i, i < ops.size -> BefOk ops i ((befs os acc).getD i 0)
  | [], acc, vX, hl, rT, i, hi => by
    have h1 : (ops.toList.drop acc.length).length = 0 := by rw [<- vX]; rfl
    have : ops.size <= acc.length := by simp at h1; omega
    exact rT i (by omega)
  | o :: os, acc, vX, hl, rT, i, hi => by
    simp only [befs]
    have ho : ops[acc.length]? = some o := by
      have : (ops.toList.drop acc.length)[0]? = some o := by rw [<- vX]; rfl
      simpa using this
    have aA : acc.length < ops.size := (Array.getElem?_eq_some_iff.1 ho).1
    refine befs_ok os _ ?_ (by simp; omega) (fun j hj => ?_) i hi
    . rw [List.length_append, List.length_singleton, <- List.drop_drop, <- vX]; rfl
    . rcases Nat.lt_or_ge j acc.length with h | h
      . rw [List.getD_eq_getElem?_getD, List.getElem?_append_left h, <- List.getD_eq_getElem?_getD]; exact rT j h
      . have mG : j = acc.length := by simp at hj; omega
        subst mG
        rw [List.getD_eq_getElem?_getD, List.getElem?_append_right (Nat.le_refl _)]
        simp only [Nat.sub_self, List.getElem?_cons_zero, Option.getD_some]
        refine ⟨fun o' kj e he hb => ?_, fun b hb => ?_⟩
        . rw [ho] at kj; simp only [Option.some.injEq] at kj; subst kj
          exact (befFold acc _ 0 e.on).2 (.inr ⟨e, by simpa using he, hb, .inl rfl⟩)
        . have hb := (befFold acc _ 0 b).1 hb
          rcases hb with hb | ⟨e, he, cD, hb⟩
          . simp at hb
          . have dZ : e ∈ o.after := by simpa using he
            rcases hb with rfl | hb
            . exact .edge _ o e ho dZ cD
            . refine .trans _ o e b ho dZ cD ?_
              rw [nth_eq] at hb
              rcases Nat.lt_or_ge e.on acc.length with h | h
              . exact (rT _ h).2 b (by rw [List.getD_eq_getElem?_getD]; exact hb)
              . rw [List.getElem?_eq_none h] at hb; simp at hb
theorem numb_at : ∀ (l : List AOper) (k : Nat) (x : Nat × AOper), x ∈ numb k l -> ∃ i, x.1 = k + i /\ l[i]? = some x.2
  | [], k, x, h => by cases h
  | o :: l, k, x, h => by
    simp only [numb, List.mem_cons] at h
    rcases h with rfl | h
    . exact ⟨0, rfl, rfl⟩
    . obtain ⟨i, h1, h2⟩ := numb_at l (k + 1) x h
      exact ⟨i + 1, by omega, by simpa using h2⟩
theorem lateO_mem : ∀ (l held : List (Nat × AOper)) (x : Nat × AOper), x ∈ lateO l held -> x ∈ l \/ x ∈ held
  | [], held, x, h => .inr h
  | (i, o) :: l, held, x, h => by
    unfold lateO at h
    split at h
    . rcases List.mem_append.1 h with h | h
      . exact .inr (List.mem_filter.1 h).1
      . rcases List.mem_cons.1 h with h | h
        . exact .inl (by rw [h]; exact List.mem_cons_self ..)
        . rcases lateO_mem l _ x h with h | h
          . exact .inl (List.mem_cons_of_mem _ h)
          . exact .inr (List.mem_filter.1 h).1
    . rcases lateO_mem l _ x h with h | h
      . exact .inl (List.mem_cons_of_mem _ h)
      . rcases List.mem_append.1 h with h | h
        . exact .inr h
        . simp at h; exact .inl (by rw [h]; exact List.mem_cons_self ..)
theorem late_at {l : List AOper} {x : Nat × AOper} (h : x ∈ lateO (numb 0 l) []) : l[x.1]? = some x.2 := by
  rcases lateO_mem _ _ _ h with h | h
  . obtain ⟨i, h1, h2⟩ := numb_at l 0 x h
    rw [h1, Nat.zero_add]; exact h2
  . cases h
end Go.Ai
end
section
namespace Go.Ai
open Go
theorem memPos_iff {p : Pos} : ∀ {l : List Pos}, memPos p l = true ↔ p ∈ l
  | [] => by simp [memPos]
  | q :: l => by simp [memPos, memPos_iff (l := l), Pos.beq_eq]
theorem apartA_spec {a b : AOper} (h : apartA a b = true) :
    (∀ d, a.dst = some d -> d ∉ b.looks /\ b.dst ≠ some d) /\ (∀ d, b.dst = some d -> d ∉ a.looks) := by
  unfold apartA at h
  rw [Bool.and_eq_true] at h
  obtain ⟨h1, h2⟩ := h
  constructor
  . intro d hd
    rw [hd] at h1
    simp only [Bool.and_eq_true, Bool.not_eq_true'] at h1
    refine ⟨fun hm => ?_, fun hb => ?_⟩
    . rw [memPos_iff.2 hm] at h1; exact absurd h1.1 (by simp)
    . rw [hb] at h1
      have : Pos.beq d d = true := Pos.beq_eq.2 rfl
      simp [this] at h1
  . intro d hd hm
    rw [hd] at h2
    simp only [Bool.not_eq_true'] at h2
    rw [memPos_iff.2 hm] at h2; cases h2
section
variable (P : Program) (tt : TT) (C : Cells) (nt : Nat) (ops : Array Oper) (call : CallA) (fr0 : Fr) (h0 : T AB) (n0 : Pos) (R : List Rec)
structure Reg : Prop where
  good : Good call fr0 h0 n0 R
  mono : MonoCall call
  one : ∀ A r B, R = A ++ r :: B -> ∀ r' ∈ B, r'.idx ≠ r.idx
  bef : ∀ A r B, R = A ++ r :: B -> ∀ b, r.o.bef.testBit b = true -> ∃ r' ∈ B, r'.idx = b
  eff : ∀ A r B, R = A ++ r :: B -> r.o.cls = .eff -> ∀ r' ∈ B, r.o.bef.testBit r'.idx = true
  apart : ∀ A r B, R = A ++ r :: B -> ∀ r' ∈ A, r'.o.bef.testBit r.idx = true \/ apartA r.o r'.o = true
  rel : ∀ r ∈ R, ∃ o, ops[r.idx]? = some o /\ OperRel tt nt ops o r.o /\ BefOk ops r.idx r.o.bef
  all : ∀ i, i < ops.size -> ∃ r ∈ R, r.idx = i
def Kept (D : Nat -> Prop) (b : Pos) : Prop := ∀ A r B, R = A ++ r :: B -> ¬ D r.idx -> b.toNat < (nxOf n0 B).toNat \/ r.nx.toNat <= b.toNat
def T1 (D : Nat -> Prop) (ρ : Pos -> Loc) (tmps : Array Value) : Prop :=
  ∀ M s T p, R = M ++ s :: T -> D s.idx -> s.o.dst = some p -> (∀ s' ∈ M, D s'.idx -> s'.o.dst ≠ some p) -> ∃ x, tmps[p.toNat - 1]? = some x /\ VRel ρ s.nx.toNat C s.v x
def T0 (D : Nat -> Prop) (ρ : Pos -> Loc) (tmps : Array Value) : Prop :=
  ∀ p v, fr0.get p = some v -> (∀ s ∈ R, D s.idx -> s.o.dst ≠ some p) -> ∃ x, tmps[p.toNat - 1]? = some x /\ VRel ρ n0.toNat C v x
structure Pre (D : Nat -> Prop) (A B : List Rec) (a : Act) : Prop where
  split : R = A ++ B
  bound : Bound B
  inB : ∀ r ∈ B, D r.idx
  inA : ∀ r ∈ A, D r.idx -> r.c.isEff = false
  closed : ∀ i o e, D i -> ops[i]? = some o -> e ∈ o.after -> Region.binds .any e = true -> D e.on
  size : a.tmps.size = nt
  defers : a.defers = []
structure Inv0 (ρ0 : Pos -> Loc) (w0 : World) (D : Nat -> Prop) (A B : List Rec) (ρ : Pos -> Loc) (a : Act) (w : World) : Prop where
  W : WRel ρ C { heap := baseOf h0 B, next := nxOf n0 B } w
  N : ∀ r ∈ A, D r.idx -> ∀ id blk, r.c = .new id blk -> BRel ρ r.nx.toNat C (ρ id) w blk /\ (ρ id).blk < w.heap.size /\ w0.heap.size <= (ρ id).blk /\
    (∀ b x, (baseOf h0 B).get b = some x -> (ρ b).blk ≠ (ρ id).blk) /\ (∀ ad v, C ad = some v -> (ρ id).blk ≠ ad.block)
  N2 : ∀ r ∈ A, D r.idx -> ∀ id blk, r.c = .new id blk -> ∀ r' ∈ A, D r'.idx -> ∀ fN iZ, r'.c = .new fN iZ -> id ≠ fN -> (ρ id).blk ≠ (ρ fN).blk
  t1 : T1 C R D ρ a.tmps
  t0 : T0 C fr0 n0 R D ρ a.tmps
  E : Evo ρ0 { heap := h0, next := n0 } w0 ρ { heap := baseOf h0 B, next := nxOf n0 B } w
  agree : ∀ b : Pos, b.toNat < n0.toNat -> ρ b = ρ0 b
def Inv (ρ0 : Pos -> Loc) (w0 : World) (D : Nat -> Prop) (A B : List Rec) (ρ : Pos -> Loc) (a : Act) (w : World) : Prop :=
  Pre nt ops R D A B a /\ ∀ ρ', (∀ b, Kept n0 R D b -> ρ' b = ρ b) -> Inv0 C fr0 h0 n0 R ρ0 w0 D A B ρ' a w
end
section
variable {P : Program} {tt : TT} {C : Cells} {nt : Nat} {ops : Array Oper} {call : CallA} {fr0 : Fr} {h0 : T AB} {n0 : Pos} {R : List Rec}
theorem dec_uniq (h : ∀ A r B, R = A ++ r :: B -> ∀ r' ∈ B, r'.idx ≠ r.idx) {X X' Y Y' : List Rec} {r r' : Rec} (h1 : R = X ++ r :: Y) (h2 : R = X' ++ r' :: Y') (hi : r.idx = r'.idx) :
    X = X' /\ r = r' /\ Y = Y' := by
  have h3 : X ++ r :: Y = X' ++ r' :: Y' := h1.symm.trans h2
  rcases List.append_eq_append_iff.1 h3 with ⟨Z, hX, hZ⟩ | ⟨Z, hX, hZ⟩
  . cases Z with
    | nil => simp at hZ hX; exact ⟨hX.symm, hZ.1, hZ.2⟩
    | cons z Z =>
      simp at hZ
      exact absurd hi.symm (h X r Y h1 r' (by rw [hZ.2]; simp))
  . cases Z with
    | nil => simp at hZ hX; exact ⟨hX, hZ.1.symm, hZ.2.symm⟩
    | cons z Z =>
      simp at hZ
      exact absurd hi (h X' r' Y' h2 r (by rw [hZ.2]; simp))
theorem mem_dec {r : Rec} (h : r ∈ R) : ∃ A B, R = A ++ r :: B := List.append_of_mem h
theorem nx_step (hm : MonoCall call) {r : Rec} {B : List Rec} (h : StepOk call fr0 h0 n0 r B) : (nxOf n0 B).toNat <= r.nx.toNat := by
  cases h with
  | skip => exact Nat.le_refl _
  | pure => exact Nat.le_refl _
  | new => simp only [Pos.toNat_succ]; omega
  | eff i o v st' xs _ hc hw hx hr => exact stepA_mono hm hr
theorem nx_mono (hm : MonoCall call) : ∀ {A B : List Rec}, Good call fr0 h0 n0 (A ++ B) -> (nxOf n0 B).toNat <= (nxOf n0 (A ++ B)).toNat
  | [], _, _ => Nat.le_refl _
  | r :: A, B, h => Nat.le_trans (nx_mono hm (A := A) h.2) (nx_step hm h.1)
namespace Reg
variable (G : Reg tt nt ops call fr0 h0 n0 R)
include G
theorem later {X Y : List Rec} {r r' : Rec} (h : R = X ++ r :: Y) (hr : r' ∈ X) : r'.idx ≠ r.idx := by
  obtain ⟨A, B, rfl⟩ := mem_dec hr
  have h' : R = A ++ r' :: (B ++ r :: Y) := by rw [h]; simp
  exact fun e => G.one _ _ _ h' r (by simp) e.symm
theorem nx_le {X Y : List Rec} {r : Rec} (h : R = X ++ r :: Y) : (nxOf n0 Y).toNat <= r.nx.toNat := nx_step G.mono (Good.at (h ▸ G.good))
theorem nx_suf {X Y Z : List Rec} (h : R = X ++ (Y ++ Z)) : (nxOf n0 Z).toNat <= (nxOf n0 (Y ++ Z)).toNat := nx_mono G.mono (Good.tail (h ▸ G.good))
theorem n0_le {X Y : List Rec} (h : R = X ++ Y) : n0.toNat <= (nxOf n0 Y).toNat := by
  have := nx_mono (n0 := n0) G.mono (A := Y) (B := []) (by rw [List.append_nil]; exact Good.tail (h ▸ G.good))
  rw [List.append_nil] at this; exact this
theorem closed_bef {D : Nat -> Prop} (hc : ∀ i o e, D i -> ops[i]? = some o -> e ∈ o.after -> Region.binds .any e = true -> D e.on) {i b : Nat} (h : Reach ops i b)
    (hi : ∀ o e, ops[i]? = some o -> e ∈ o.after -> Region.binds .any e = true -> D e.on) : D b := by
  induction h with
  | edge i o e ho he hb => exact hi o e ho he hb
  | trans i o e b ho he hb _ ih => exact ih fun o' e' kj dZ bQ => hc _ o' e' (hi o e ho he hb) kj dZ bQ
theorem befIn {D : Nat -> Prop} {A B : List Rec} {a : Act} (hp : Pre nt ops R D A B a) {s : Rec} (hs : s ∈ R) (hD : D s.idx) {b : Nat} (hb : s.o.bef.testBit b = true) : D b := by
  obtain ⟨o, ho, _, hB⟩ := G.rel s hs
  exact G.closed_bef hp.closed (hB.2 b hb) fun o' e kj he cD => hp.closed _ o' e hD kj he cD
end Reg
theorem frOf_last : ∀ (Y : List Rec) (p : Pos) (v : AV), (frOf fr0 Y).get p = some v ->
    (∃ M s T, Y = M ++ s :: T /\ s.o.dst = some p /\ s.v = v /\ ∀ s' ∈ M, s'.o.dst ≠ some p) \/ (fr0.get p = some v /\ ∀ s ∈ Y, s.o.dst ≠ some p)
  | [], p, v, h => .inr ⟨h, fun s hs => by cases hs⟩
  | r :: Y, p, v, h => by
    simp only [frOf] at h
    by_cases hr : r.o.dst = some p
    . rw [hr] at h
      simp only [setDst, T.get_put, Option.some.injEq] at h
      exact .inl ⟨[], r, Y, rfl, hr, h, fun s hs => by cases hs⟩
    . have h' : (frOf fr0 Y).get p = some v := by
        cases hd : r.o.dst with
        | none => rw [hd] at h; exact h
        | some d =>
          rw [hd] at h
          simp only [setDst] at h
          rwa [T.get_put_ne _ fun e => hr (by rw [hd, e])] at h
      rcases frOf_last Y p v h' with ⟨M, s, T, rfl, h2, h3, h4⟩ | ⟨h2, h3⟩
      . refine .inl ⟨r :: M, s, T, rfl, h2, h3, fun s' dB => ?_⟩
        rcases List.mem_cons.1 dB with rfl | dB
        . exact hr
        . exact h4 s' dB
      . refine .inr ⟨h2, fun s hs => ?_⟩
        rcases List.mem_cons.1 hs with rfl | hs
        . exact hr
        . exact h3 s hs
theorem look (G : Reg tt nt ops call fr0 h0 n0 R) {D : Nat -> Prop} {A B : List Rec} {a : Act} (hp : Pre nt ops R D A B a) {ρ : Pos -> Loc} (h1 : T1 C R D ρ a.tmps) (h2 : T0 C fr0 n0 R D ρ a.tmps)
    {X Y : List Rec} {r : Rec} (hR : R = X ++ r :: Y) (hD : ¬ D r.idx) (qb : ∀ b, r.o.bef.testBit b = true -> D b) {p : Pos} {v : AV} (hl : p ∈ r.o.looks) (hv : (frOf fr0 Y).get p = some v) :
    ∃ x, a.tmps[p.toNat - 1]? = some x /\ VRel ρ (nxOf n0 Y).toNat C v x := by
  have hX : ∀ s ∈ X, D s.idx -> s.o.dst ≠ some p := by
    intro s hs bE hd
    rcases G.apart X r Y hR s hs with h | h
    . exact hD (G.befIn hp (by rw [hR]; simp [hs]) bE h)
    . exact (apartA_spec h).2 p hd hl
  rcases frOf_last Y p v hv with ⟨M, s, T, rfl, h3, rfl, h4⟩ | ⟨h3, h4⟩
  . have BB : R = (X ++ r :: M) ++ s :: T := by rw [hR]; simp
    have bE : D s.idx := by
      rcases G.apart _ s T BB r (by simp) with h | h
      . exact qb _ h
      . exact absurd hl ((apartA_spec h).1 p h3).1
    obtain ⟨x, hx, oW⟩ := h1 (X ++ r :: M) s T p BB bE h3 (fun s' dB jG => by
      rcases List.mem_append.1 dB with h | h
      . exact hX s' h jG
      . rcases List.mem_cons.1 h with rfl | h
        . exact absurd jG hD
        . exact h4 s' h)
    refine ⟨x, hx, oW.mono (fun _ _ => rfl) ?_⟩
    have := G.nx_suf (X := X ++ [r]) (Y := M) (Z := s :: T) (by rw [hR]; simp)
    exact this
  . obtain ⟨x, hx, oW⟩ := h2 p v h3 (fun s hs bE => by
      rw [hR] at hs
      rcases List.mem_append.1 hs with h | h
      . exact hX s h bE
      . rcases List.mem_cons.1 h with rfl | h
        . exact absurd bE hD
        . exact h4 s h)
    exact ⟨x, hx, oW.mono (fun _ _ => rfl) (G.n0_le (X := X ++ [r]) (by rw [hR]; simp))⟩
theorem put_other {a : Act} {d : Option Tmp} {x : Value} {p : Pos} (h : d.map key ≠ some p) : (a.put d x).tmps[p.toNat - 1]? = a.tmps[p.toNat - 1]? := by
  cases d with
  | none => rfl
  | some e =>
    simp only [Act.put]
    rw [Array.getElem?_setIfInBounds_ne]
    intro he
    apply h
    simp only [Option.map_some, Option.some.injEq]
    apply Pos.toNat_inj
    rw [key_toNat]
    have := p.toNat_pos
    omega
theorem put_this {a : Act} {d : Option Tmp} {x : Value} {p : Pos} (h : d.map key = some p) (hs : a.tmps.size = nt) (hd : ∀ e, d = some e -> e < nt) : (a.put d x).tmps[p.toNat - 1]? = some x := by
  cases d with
  | none => cases h
  | some e =>
    simp only [Option.map_some, Option.some.injEq] at h; subst h
    simp only [Act.put]
    rw [key_toNat, Nat.add_sub_cancel, Array.getElem?_setIfInBounds]
    simp [hs, hd e rfl]
theorem T_put (G : Reg tt nt ops call fr0 h0 n0 R) {D : Nat -> Prop} {A B : List Rec} {a : Act} (hp : Pre nt ops R D A B a) {ρ : Pos -> Loc} (h1 : T1 C R D ρ a.tmps) (h2 : T0 C fr0 n0 R D ρ a.tmps)
    {X Y : List Rec} {r : Rec} (hR : R = X ++ r :: Y) (hD : ¬ D r.idx) {o : Oper} (hrel : OperRel tt nt ops o r.o) {x : Value} (hv : VRel ρ r.nx.toNat C r.v x) :
    T1 C R (fun i => D i \/ i = r.idx) ρ (a.put o.dst x).tmps /\ T0 C fr0 n0 R (fun i => D i \/ i = r.idx) ρ (a.put o.dst x).tmps := by
  constructor
  . intro M s T p hM bE hd cW
    by_cases hi : s.idx = r.idx
    . obtain ⟨_, rfl, _⟩ := dec_uniq G.one hM hR hi
      rw [hrel.dst] at hd
      exact ⟨x, put_this hd hp.size hrel.lt, hv⟩
    . have bE := bE.resolve_right hi
      by_cases BC : r.o.dst = some p
      . exfalso
        have hs : s ∈ R := by rw [hM]; simp
        rw [hR] at hs
        rcases List.mem_append.1 hs with h | h
        . rcases G.apart X r Y hR s h with k | k
          . exact hD (G.befIn hp (by rw [hR]; simp [h]) bE k)
          . exact ((apartA_spec k).1 p BC).2 hd
        . rcases List.mem_cons.1 h with rfl | h
          . exact hi rfl
          . obtain ⟨Y1, Y2, rfl⟩ := mem_dec h
            have BB : R = (X ++ r :: Y1) ++ s :: Y2 := by rw [hR]; simp
            obtain ⟨ym, _, _⟩ := dec_uniq G.one hM BB rfl
            exact cW r (by rw [ym]; simp) (.inr rfl) BC
      . rw [hrel.dst] at BC
        obtain ⟨y, hy, jB⟩ := h1 M s T p hM bE hd fun s' dB jG => cW s' dB (.inl jG)
        exact ⟨y, by rw [put_other BC]; exact hy, jB⟩
  . intro p v hf cW
    have hr : r.o.dst ≠ some p := cW r (by rw [hR]; simp) (.inr rfl)
    rw [hrel.dst] at hr
    obtain ⟨y, hy, jB⟩ := h2 p v hf fun s hs bE => cW s hs (.inl bE)
    exact ⟨y, by rw [put_other hr]; exact hy, jB⟩
end
end Go.Ai
end
section
namespace Go.Ai
open Go
section
variable {P : Program} {tt : TT} {C : Cells} {nt : Nat} {ops : Array Oper} {call : CallA} {fr0 : Fr} {h0 : T AB} {n0 : Pos} {R : List Rec}
theorem WRel.congr {ρ ρ' : Pos -> Loc} {st : St} {w : World} (h : WRel ρ C st w) (ak : ∀ b : Pos, b.toNat < st.next.toNat -> ρ' b = ρ b) : WRel ρ' C st w where
  live b x hb := by
    obtain ⟨h1, h2, h3⟩ := h.live b x hb
    rw [ak b h1]; exact ⟨h1, h2, h3.mono ak (Nat.le_refl _)⟩
  inj b b' x x' hb bQ he := by
    rw [ak b (h.live b x hb).1, ak b' (h.live b' x' bQ).1] at he
    exact h.inj b b' x x' hb bQ he
  froz a v ha := ⟨(h.froz a v ha).1, fun b x hb => by rw [ak b (h.live b x hb).1]; exact (h.froz a v ha).2 b x hb⟩
  whole := h.whole
theorem Evo.congr {ρ b6 ρ' : Pos -> Loc} {st st' : St} {w w' : World} (h : Evo ρ st w b6 st' w') (ak : ∀ b x, st'.heap.get b = some x -> ρ' b = b6 b) : Evo ρ st w ρ' st' w' where
  os := h.os
  tape := h.tape
  output := h.output
  size := h.size
  block := h.block
  orig b x hb := by rw [ak b x hb]; exact h.orig b x hb
namespace Reg
variable (G : Reg tt nt ops call fr0 h0 n0 R)
include G
theorem same {r r' : Rec} (h : r ∈ R) (h' : r' ∈ R) (hi : r.idx = r'.idx) : r = r' := by
  obtain ⟨A, B, hA⟩ := mem_dec h
  obtain ⟨A', B', mg⟩ := mem_dec h'
  exact (dec_uniq G.one hA mg hi).2.1
theorem cmp {X Y X' Y' : List Rec} {r r' : Rec} (h1 : R = X ++ r :: Y) (h2 : R = X' ++ r' :: Y') (hi : r'.idx ≠ r.idx) :
    (∃ Z, Y' = Z ++ r :: Y) \/ (∃ Z, Y = Z ++ r' :: Y') := by
  have h3 : X ++ r :: Y = X' ++ r' :: Y' := h1.symm.trans h2
  rcases List.append_eq_append_iff.1 h3 with ⟨Z, hX, hZ⟩ | ⟨Z, hX, hZ⟩
  . cases Z with
    | nil => simp at hZ; exact absurd (by rw [hZ.1]) hi
    | cons z Z => simp at hZ; exact .inr ⟨Z, hZ.2⟩
  . cases Z with
    | nil => simp at hZ; exact absurd (by rw [hZ.1]) hi
    | cons z Z => simp at hZ; exact .inl ⟨Z, hZ.2⟩
theorem later_nx {X Y X' Z : List Rec} {r r' : Rec} (h1 : R = X ++ r :: Y) (h2 : R = X' ++ r' :: (Z ++ r :: Y)) : r.nx.toNat <= (nxOf n0 (Z ++ r :: Y)).toNat := by
  have := G.nx_suf (X := X' ++ [r']) (Y := Z) (Z := r :: Y) (by rw [h2]; simp)
  exact this
theorem earlier_nx {X Y' Z : List Rec} {r r' : Rec} (h1 : R = X ++ r :: (Z ++ r' :: Y')) : r'.nx.toNat <= (nxOf n0 (Z ++ r' :: Y')).toNat := by
  have := G.nx_suf (X := X ++ [r]) (Y := Z) (Z := r' :: Y') (by rw [h1]; simp)
  exact this
theorem new_id {X Y : List Rec} {r : Rec} (h : R = X ++ r :: Y) {id : Pos} {blk : AB} (hc : r.c = .new id blk) : id = nxOf n0 Y /\ r.nx = id.succ := by
  have hs := Good.at (h ▸ G.good)
  cases hs <;> simp only at hc <;> first | (cases hc; done) | skip
  simp only [RC.new.injEq] at hc
  obtain ⟨rfl, _⟩ := hc
  exact ⟨rfl, rfl⟩
end Reg
theorem Kept.up {D D' : Nat -> Prop} (h : ∀ i, D i -> D' i) {b : Pos} (hk : Kept n0 R D b) : Kept n0 R D' b := fun A r B hR hD => hk A r B hR fun hd => hD (h _ hd)
theorem Pre.next (G : Reg tt nt ops call fr0 h0 n0 R) {D : Nat -> Prop} {A B : List Rec} {a : Act} (hp : Pre nt ops R D A B a) {X Y : List Rec} {r : Rec} (hR : R = X ++ r :: Y)
    (eK : ∀ o e, ops[r.idx]? = some o -> e ∈ o.after -> Region.binds .any e = true -> D e.on) (hc : r.c.isEff = false) (d : Option Tmp) (x : Value) :
    Pre nt ops R (fun i => D i \/ i = r.idx) A B (a.put d x) where
  split := hp.split
  bound := hp.bound
  inB s hs := .inl (hp.inB s hs)
  inA s hs hD := by
    rcases hD with hD | hD
    . exact hp.inA s hs hD
    . rw [G.same (by rw [hp.split]; simp [hs]) (by rw [hR]; simp) hD]; exact hc
  closed i o e hD ho he hb := by
    rcases hD with hD | rfl
    . exact .inl (hp.closed i o e hD ho he hb)
    . exact .inl (eK o e ho he hb)
  size := by rw [Act.put_size]; exact hp.size
  defers := by rw [Act.put_defers']; exact hp.defers
theorem step_pure (G : Reg tt nt ops call fr0 h0 n0 R) {ρ0 : Pos -> Loc} {w0 : World} {D : Nat -> Prop} {A B : List Rec} {ρ : Pos -> Loc} {a : Act} {w : World}
    (hI : Inv C nt ops fr0 h0 n0 R ρ0 w0 D A B ρ a w) {X Y : List Rec} {r : Rec} (hR : R = X ++ r :: Y) (hD : ¬ D r.idx)
    (eK : ∀ o e, ops[r.idx]? = some o -> e ∈ o.after -> Region.binds .any e = true -> D e.on) {o : Oper} (hrel : OperRel tt nt ops o r.o) (hc : r.c = .pure) {x : Value}
    (hv : ∀ ρ', (∀ b, Kept n0 R D b -> ρ' b = ρ b) -> VRel ρ' r.nx.toNat C r.v x) :
    Inv C nt ops fr0 h0 n0 R ρ0 w0 (fun i => D i \/ i = r.idx) A B ρ (a.put o.dst x) w := by
  obtain ⟨hp, hI⟩ := hI
  refine ⟨hp.next G hR eK (by rw [hc]; rfl) _ _, fun ρ' lJ => ?_⟩
  have hf : ∀ b, Kept n0 R D b -> ρ' b = ρ b := fun b hb => lJ b (hb.up fun _ h => .inl h)
  have h := hI ρ' hf
  have Gy : ∀ s ∈ A, (D s.idx \/ s.idx = r.idx) -> ∀ id blk, s.c = .new id blk -> D s.idx := fun s hs bE id blk cu => by
    rcases bE with bE | bE
    . exact bE
    . rw [G.same (by rw [hp.split]; simp [hs]) (by rw [hR]; simp) bE, hc] at cu; cases cu
  obtain ⟨k1, k2⟩ := T_put G hp h.t1 h.t0 hR hD hrel (hv ρ' hf)
  exact ⟨h.W, fun s hs bE id blk cu => h.N s hs (Gy s hs bE id blk cu) id blk cu,
    fun s hs bE id blk cu s' dB jG fN iZ fh => h.N2 s hs (Gy s hs bE id blk cu) id blk cu s' dB (Gy s' dB jG fN iZ fh) fN iZ fh, k1, k2, h.E, h.agree⟩
theorem WRel.grow {ρ : Pos -> Loc} {st : St} {w w' : World} (h : WRel ρ C st w) (hs : w.heap.size <= w'.heap.size) (hb : ∀ k, k < w.heap.size -> w'.heap[k]? = w.heap[k]?) : WRel ρ C st w' where
  live b x hx := let ⟨h1, h2, h3⟩ := h.live b x hx; ⟨h1, Nat.lt_of_lt_of_le h2 hs, h3.of_heap (hb _ h2)⟩
  inj := h.inj
  froz a v ha := by
    obtain ⟨h1, h2⟩ := h.froz a v ha
    exact ⟨by rw [World.cell?_of_block (w := w) (hb _ (World.block_lt_of_cell? _ _ h1))]; exact h1, h2⟩
  whole a v ha o ho := by
    have cO : a.block < w.heap.size := World.block_lt_of_cell? _ _ (h.froz a v ha).1
    rw [World.cell?_of_block (w := w) (a := ⟨a.block, o, none⟩) (hb _ cO)]; exact h.whole a v ha o ho
theorem step_new (G : Reg tt nt ops call fr0 h0 n0 R) {ρ0 : Pos -> Loc} {w0 : World} {D : Nat -> Prop} {A B : List Rec} {ρ : Pos -> Loc} {a : Act} {w w' : World}
    (hI : Inv C nt ops fr0 h0 n0 R ρ0 w0 D A B ρ a w) {X Y : List Rec} {r : Rec} (hR : R = X ++ r :: Y) (hD : ¬ D r.idx)
    (eK : ∀ o e, ops[r.idx]? = some o -> e ∈ o.after -> Region.binds .any e = true -> D e.on) {o : Oper} (hrel : OperRel tt nt ops o r.o) {id : Pos} {blk : AB} (hc : r.c = .new id blk) {x : Value} {L : Loc}
    (hL : w.heap.size <= L.blk) (hL' : L.blk < w'.heap.size) (vX : w'.os = w.os) (Kz : w'.tape = w.tape) (LB : w'.output = w.output) (Ar : ∀ k, k < w.heap.size -> w'.heap[k]? = w.heap[k]?)
    (hv : ∀ ρ', (∀ b, Kept n0 R D b -> ρ' b = ρ b) -> ρ' id = L -> VRel ρ' r.nx.toNat C r.v x /\ BRel ρ' r.nx.toNat C L w' blk) :
    Inv C nt ops fr0 h0 n0 R ρ0 w0 (fun i => D i \/ i = r.idx) A B (fun b => if b = id then L else ρ b) (a.put o.dst x) w' := by
  obtain ⟨hp, hI⟩ := hI
  have hrA : r ∈ A := by
    have : r ∈ R := by rw [hR]; simp
    rw [hp.split] at this
    exact (List.mem_append.1 this).resolve_right fun h => hD (hp.inB r h)
  obtain ⟨hid, oX⟩ := G.new_id hR hc
  have aZ : w.heap.size <= w'.heap.size := by omega
  refine ⟨hp.next G hR eK (by rw [hc]; rfl) _ _, fun ρ' lJ => ?_⟩
  have LC : Kept n0 R (fun i => D i \/ i = r.idx) id := by
    intro A' r' B' mg yo
    have aI : r'.idx ≠ r.idx := fun e => yo (.inr e)
    rcases G.cmp hR mg aI with ⟨Z, rfl⟩ | ⟨Z, rfl⟩
    . left
      have := G.later_nx hR mg
      rw [oX, Pos.toNat_succ] at this
      omega
    . right
      have := G.earlier_nx hR
      rw [hid]; exact this
  have hidL : ρ' id = L := by rw [lJ id LC]; simp
  have hf : ∀ b, Kept n0 R D b -> ρ' b = ρ b := fun b hb => by
    have aI : b ≠ id := by
      rintro rfl
      rcases hb X r Y hR hD with h | h
      . rw [hid] at h; omega
      . rw [oX, Pos.toNat_succ] at h; omega
    rw [lJ b (hb.up fun _ h => .inl h)]; exact if_neg aI
  have h := hI ρ' hf
  obtain ⟨vL, oP⟩ := hv ρ' hf hidL
  obtain ⟨k1, k2⟩ := T_put G hp h.t1 h.t0 hR hD hrel vL
  have ry : ∀ s ∈ A, (D s.idx \/ s.idx = r.idx) -> D s.idx \/ s = r := fun s hs bE => bE.imp (fun h => h) fun bE => G.same (by rw [hp.split]; simp [hs]) (by rw [hR]; simp) bE
  refine ⟨h.W.grow aZ Ar, fun s hs bE fN iZ cu => ?_, fun s hs bE fN iZ cu s' dB jG Gz BD fh aI => ?_, k1, k2, ?_, h.agree⟩
  . rcases ry s hs bE with bE | rfl
    . obtain ⟨g1, g2, g3, g4, g5⟩ := h.N s hs bE fN iZ cu
      exact ⟨g1.of_heap (Ar _ g2), by omega, g3, g4, g5⟩
    . rw [hc] at cu
      simp only [RC.new.injEq] at cu
      obtain ⟨rfl, rfl⟩ := cu
      rw [hidL]
      refine ⟨oP, hL', Nat.le_trans h.E.size hL, fun b x hb e => ?_, fun ad v ha e => ?_⟩
      . have := (h.W.live b x hb).2.1; omega
      . have := World.block_lt_of_cell? _ _ (h.W.froz ad v ha).1; omega
  . rcases ry s hs bE with hDk | rfl
    . rcases ry s' dB jG with At | rfl
      . exact h.N2 s hs hDk fN iZ cu s' dB At Gz BD fh aI
      . rw [hc] at fh
        simp only [RC.new.injEq] at fh
        obtain ⟨rfl, rfl⟩ := fh
        have := (h.N s hs hDk fN iZ cu).2.1
        rw [hidL]; omega
    . rw [hc] at cu
      simp only [RC.new.injEq] at cu
      obtain ⟨rfl, rfl⟩ := cu
      rcases ry s' dB jG with At | rfl
      . have := (h.N s' dB At Gz BD fh).2.1
        rw [hidL]; omega
      . rw [hc] at fh
        simp only [RC.new.injEq] at fh
        exact absurd fh.1 aI
  . exact ⟨vX.trans h.E.os, Kz.trans h.E.tape, LB.trans h.E.output, Nat.le_trans h.E.size aZ, fun k hk hn => by rw [Ar k (Nat.lt_of_lt_of_le hk h.E.size)]; exact h.E.block k hk hn, h.E.orig⟩
theorem W_sub (G : Reg tt nt ops call fr0 h0 n0 R) {ρ0 : Pos -> Loc} {w0 : World} {D : Nat -> Prop} {A B : List Rec} {ρ : Pos -> Loc} {a : Act} {w : World}
    (h : Inv0 C fr0 h0 n0 R ρ0 w0 D A B ρ a w) (GA : R = A ++ B) {hp : T AB} {N : Pos} (hN : (nxOf n0 B).toNat <= N.toNat)
    (fS : ∀ b x, hp.get b = some x -> (baseOf h0 B).get b = some x \/ ∃ s ∈ A, D s.idx /\ s.c = .new b x /\ s.nx.toNat <= N.toNat) : WRel ρ C { heap := hp, next := N } w where
  live b x hb := by
    rcases fS b x hb with h1 | ⟨s, hs, hD, hc, hn⟩
    . obtain ⟨g1, g2, g3⟩ := h.W.live b x h1
      exact ⟨Nat.lt_of_lt_of_le g1 hN, g2, g3.mono (fun _ _ => rfl) hN⟩
    . obtain ⟨g1, g2, _⟩ := h.N s hs hD b x hc
      obtain ⟨M, T, hM⟩ := mem_dec (r := s) (R := R) (by rw [GA]; simp [hs])
      obtain ⟨_, e⟩ := G.new_id hM hc
      rw [e] at hn
      refine ⟨?_, g2, g1.mono (fun _ _ => rfl) (by rw [e]; exact hn)⟩
      rw [Pos.toNat_succ] at hn
      exact hn
  inj b b' x x' hb bQ he := by
    rcases fS b x hb with h1 | ⟨s, hs, hD, hc, hn⟩
    . rcases fS b' x' bQ with vM | ⟨s', dB, yo, gl, Bz⟩
      . exact h.W.inj b b' x x' h1 vM he
      . exact absurd he ((h.N s' dB yo b' x' gl).2.2.2.1 b x h1)
    . rcases fS b' x' bQ with vM | ⟨s', dB, yo, gl, Bz⟩
      . exact absurd he.symm ((h.N s hs hD b x hc).2.2.2.1 b' x' vM)
      . by_cases e : b = b'
        . exact e
        . exact absurd he (h.N2 s hs hD b x hc s' dB yo b' x' gl e)
  froz ad v ha := ⟨(h.W.froz ad v ha).1, fun b x hb => by
    rcases fS b x hb with h1 | ⟨s, hs, hD, hc, hn⟩
    . exact (h.W.froz ad v ha).2 b x h1
    . exact (h.N s hs hD b x hc).2.2.2.2 ad v ha⟩
  whole := h.W.whole
theorem heapOf_sub : ∀ {Z B : List Rec} {b : Pos} {x : AB}, (∀ r ∈ Z, r.c.isEff = false) -> Bound B -> (heapOf h0 (Z ++ B)).get b = some x ->
    (baseOf h0 B).get b = some x \/ ∃ s ∈ Z, s.c = .new b x
  | [], B, b, x, _, hB, h => by
    cases B with
    | nil => exact .inl h
    | cons r B =>
      simp only [Bound] at hB
      cases hc : r.c <;> rw [hc] at hB <;> first | (cases hB; done) | skip
      simp only [List.nil_append, heapOf, hc] at h
      simp only [baseOf, hc]
      exact .inl h
  | r :: Z, B, b, x, hZ, hB, h => by
    have ih := @heapOf_sub Z B b x (fun s hs => hZ s (List.mem_cons_of_mem _ hs)) hB
    have hr := hZ r (List.mem_cons_self ..)
    simp only [List.cons_append, heapOf] at h
    cases hc : r.c with
    | pure => rw [hc] at h; exact (ih h).imp (fun h => h) fun ⟨s, h1, h2⟩ => ⟨s, List.mem_cons_of_mem _ h1, h2⟩
    | eff _ _ => rw [hc] at hr; cases hr
    | new id blk =>
      rw [hc] at h
      by_cases e : id = b
      . subst e
        rw [T.get_put] at h
        simp only [Option.some.injEq] at h; subst h
        exact .inr ⟨r, List.mem_cons_self .., hc⟩
      . rw [T.get_put_ne _ e] at h
        exact (ih h).imp (fun h => h) fun ⟨s, h1, h2⟩ => ⟨s, List.mem_cons_of_mem _ h1, h2⟩
end
end Go.Ai
end
section
namespace Go.Ai
open Go
section
variable {P : Program} {tt : TT} {C : Cells} {nt : Nat} {ops : Array Oper} {call : CallA} {fr0 : Fr} {h0 : T AB} {n0 : Pos} {R : List Rec}
theorem around (G : Reg tt nt ops call fr0 h0 n0 R) {D : Nat -> Prop} {A B : List Rec} {a : Act} (hp : Pre nt ops R D A B a) {X Y : List Rec} {r : Rec} (hR : R = X ++ r :: Y) (hD : ¬ D r.idx) :
    ∃ Z, A = X ++ r :: Z /\ Y = Z ++ B := by
  have hrA : r ∈ A := by
    have : r ∈ R := by rw [hR]; simp
    rw [hp.split] at this
    exact (List.mem_append.1 this).resolve_right fun h => hD (hp.inB r h)
  obtain ⟨X', Z, hA⟩ := mem_dec hrA
  have h2 : R = X' ++ r :: (Z ++ B) := by rw [hp.split, hA]; simp
  obtain ⟨rfl, _, rfl⟩ := dec_uniq G.one hR h2 rfl
  exact ⟨Z, hA, rfl⟩
theorem step_eff (G : Reg tt nt ops call fr0 h0 n0 R) {ρ0 : Pos -> Loc} {w0 : World} {D : Nat -> Prop} {A B : List Rec} {ρ : Pos -> Loc} {a : Act} {w w' : World}
    (hI : Inv C nt ops fr0 h0 n0 R ρ0 w0 D A B ρ a w) {X Y : List Rec} {r : Rec} (hR : R = X ++ r :: Y) (hD : ¬ D r.idx)
    (eK : ∀ o e, ops[r.idx]? = some o -> e ∈ o.after -> Region.binds .any e = true -> D e.on) {o : Oper} (hrel : OperRel tt nt ops o r.o)
    (hY : ∀ s ∈ Y, D s.idx) {st' : St} {b0 : T AB} (hc : r.c = .eff b0 st'.heap) (oX : r.nx = st'.next) {x : Value}
    (wW : CallPost ρ C { heap := heapOf h0 Y, next := nxOf n0 Y } w r.v st' x w') :
    ∃ iN, Inv C nt ops fr0 h0 n0 R ρ0 w0 (fun i => D i \/ i = r.idx) X (r :: Y) iN (a.put o.dst x) w' := by
  obtain ⟨hp, hI⟩ := hI
  obtain ⟨b6, hv, GB, hle, yj, BE⟩ := wW
  simp only at GB hle
  obtain ⟨Z, hA, rfl⟩ := around G hp hR hD
  have hZ : ∀ s ∈ Z, s.c.isEff = false := fun s hs => hp.inA s (by rw [hA]; simp [hs]) (hY s (by simp [hs]))
  have vY : ∀ s ∈ X, s ∈ A := fun s hs => by rw [hA]; simp [hs]
  have BF : ∀ s ∈ X, (D s.idx \/ s.idx = r.idx) -> D s.idx := fun s hs h => h.resolve_right (G.later hR hs)
  have rU : (nxOf n0 B).toNat <= (nxOf n0 (Z ++ B)).toNat := G.nx_suf (X := X ++ [r]) (by rw [hR]; simp)
  let iN : Pos -> Loc := fun b => if (nxOf n0 (Z ++ B)).toNat <= b.toNat /\ b.toNat < r.nx.toNat then b6 b else ρ b
  have rV : ∀ b : Pos, b.toNat < (nxOf n0 (Z ++ B)).toNat -> Kept n0 R D b := by
    intro b hb M s T hM bE
    left
    by_cases hi : s.idx = r.idx
    . obtain ⟨_, _, rfl⟩ := dec_uniq G.one hM hR hi; exact hb
    . rcases G.cmp hR hM hi with ⟨W, rfl⟩ | ⟨W, hW⟩
      . have := G.later_nx hR hM
        have := G.nx_le hR
        omega
      . exact absurd (hY s (by rw [hW]; simp)) bE
  refine ⟨iN, ⟨by rw [hR], by simp [Bound, hc, RC.isEff], ?_, ?_, ?_, by rw [Act.put_size]; exact hp.size, by rw [Act.put_defers']; exact hp.defers⟩, fun ρ' lJ => ?_⟩
  . intro s hs
    rcases List.mem_cons.1 hs with rfl | hs
    . exact .inr rfl
    . exact .inl (hY s hs)
  . intro s hs bE
    exact hp.inA s (vY s hs) (BF s hs bE)
  . intro i o' e GC ho he hb
    rcases GC with GC | rfl
    . exact .inl (hp.closed i o' e GC ho he hb)
    . exact .inl (eK o' e ho he hb)
  have KA : ∀ b : Pos, b.toNat < r.nx.toNat -> Kept n0 R (fun i => D i \/ i = r.idx) b := by
    intro b hb M s T hM bE
    left
    have hi : s.idx ≠ r.idx := fun e => bE (.inr e)
    rcases G.cmp hR hM hi with ⟨W, rfl⟩ | ⟨W, hW⟩
    . exact Nat.lt_of_lt_of_le hb (G.later_nx hR hM)
    . exact absurd (.inl (hY s (by rw [hW]; simp))) bE
  have hf : ∀ b, Kept n0 R D b -> ρ' b = ρ b := fun b hb => by
    rw [lJ b (hb.up fun _ h => .inl h)]
    refine if_neg ?_
    rintro ⟨g1, g2⟩
    rcases hb X r _ hR hD with h | h <;> omega
  have h := hI ρ' hf
  have rW : ∀ b : Pos, b.toNat < r.nx.toNat -> ρ' b = b6 b := by
    intro b hb
    rcases Nat.lt_or_ge b.toNat (nxOf n0 (Z ++ B)).toNat with g | g
    . rw [hf b (rV b g), GB b g]
    . rw [lJ b (KA b hb)]; exact if_pos ⟨g, hb⟩
  have kP : VRel ρ' r.nx.toNat C r.v x := by
    rw [oX] at rW ⊢
    exact hv.mono rW (Nat.le_refl _)
  have aS : WRel ρ' C { heap := st'.heap, next := r.nx } w' := by
    rw [oX] at rW ⊢
    exact yj.congr rW
  have hold : ∀ s ∈ X, D s.idx -> ∀ id blk, s.c = .new id blk -> ∀ b y, (heapOf h0 (Z ++ B)).get b = some y -> (ρ b).blk ≠ (ρ' id).blk := by
    intro s hs bE id blk cu b y hb
    obtain ⟨g1, g2, g3, g4, g5⟩ := h.N s (vY s hs) bE id blk cu
    obtain ⟨M, T, hM⟩ := mem_dec (r := s) (R := R) (by rw [hR]; simp [hs])
    rcases heapOf_sub hZ hp.bound hb with hb | ⟨s', dB, fh⟩
    . rw [<- hf b (rV b (Nat.lt_of_lt_of_le (h.W.live b y hb).1 rU))]
      exact g4 b y hb
    . obtain ⟨Z1, Z2, rfl⟩ := mem_dec dB
      have ym : R = (X ++ r :: Z1) ++ s' :: (Z2 ++ B) := by rw [hR]; simp
      obtain ⟨e1, e2⟩ := G.new_id ym fh
      obtain ⟨e3, e4⟩ := G.new_id hM cu
      have BG : b.toNat < (nxOf n0 ((Z1 ++ s' :: Z2) ++ B)).toNat := by
        have := G.earlier_nx (X := X) (r := r) (Z := Z1) (r' := s') (Y' := Z2 ++ B) (by rw [hR]; simp)
        rw [e2, Pos.toNat_succ] at this
        simp only [List.append_assoc, List.cons_append]
        omega
      have hsr : s.idx ≠ r.idx := G.later hR hs
      have hid : r.nx.toNat <= id.toNat := by
        rcases G.cmp hR hM hsr with ⟨W, rfl⟩ | ⟨W, hW⟩
        . rw [e3]; exact G.later_nx hR hM
        . obtain ⟨A1, A2, hX⟩ := mem_dec hs
          have hM2 : R = A1 ++ s :: (A2 ++ r :: ((Z1 ++ s' :: Z2) ++ B)) := by rw [hR, hX]; simp
          have gM : s ∈ (Z1 ++ s' :: Z2) ++ B := by rw [hW]; simp
          exact absurd rfl (G.one A1 s _ hM2 s (List.mem_append.2 (.inr (List.mem_cons_of_mem _ gM))))
      have aI : b ≠ id := by
        rintro rfl
        have := G.nx_le hR
        omega
      rw [<- hf b (rV b BG)]
      exact h.N2 s' (by rw [hA]; simp) (hY s' (by simp)) b y fh s (vY s hs) bE id blk cu aI
  have hEa : Evo ρ0 { heap := h0, next := n0 } w0 ρ { heap := heapOf h0 (Z ++ B), next := nxOf n0 (Z ++ B) } w := by
    refine ⟨h.E.os, h.E.tape, h.E.output, h.E.size, h.E.block, fun b y hb => ?_⟩
    rcases heapOf_sub hZ hp.bound hb with hb | ⟨s', dB, fh⟩
    . rw [<- hf b (rV b (Nat.lt_of_lt_of_le (h.W.live b y hb).1 rU))]
      exact h.E.orig b y hb
    . obtain ⟨Z1, Z2, rfl⟩ := mem_dec dB
      have ym : R = (X ++ r :: Z1) ++ s' :: (Z2 ++ B) := by rw [hR]; simp
      obtain ⟨e1, e2⟩ := G.new_id ym fh
      have BG : b.toNat < (nxOf n0 ((Z1 ++ s' :: Z2) ++ B)).toNat := by
        have := G.earlier_nx (X := X) (r := r) (Z := Z1) (r' := s') (Y' := Z2 ++ B) (by rw [hR]; simp)
        rw [e2, Pos.toNat_succ] at this
        simp only [List.append_assoc, List.cons_append]
        omega
      rw [<- hf b (rV b BG)]
      exact .inr (h.N s' (by rw [hA]; simp) (hY s' (by simp)) b y fh).2.2.1
  obtain ⟨k1, k2⟩ := T_put G hp h.t1 h.t0 hR hD hrel kP
  refine ⟨?_, fun s hs bE id blk cu => ?_, fun s hs bE id blk cu s' dB jG fN iZ fh aI => ?_, k1, k2, ?_, h.agree⟩
  . simp only [baseOf, hc, nxOf]; exact aS
  . have bE := BF s hs bE
    obtain ⟨g1, g2, g3, g4, g5⟩ := h.N s (vY s hs) bE id blk cu
    refine ⟨g1.of_heap (BE.block _ g2 (hold s hs bE id blk cu)), Nat.lt_of_lt_of_le g2 BE.size, g3, fun b y hb => ?_, g5⟩
    simp only [baseOf, hc] at hb
    rw [rW b (by rw [oX]; exact (yj.live b y hb).1)]
    rcases BE.orig b y hb with ⟨b', y', bQ, e⟩ | e
    . rw [<- e]; exact hold s hs bE id blk cu b' y' bQ
    . omega
  . exact h.N2 s (vY s hs) (BF s hs bE) id blk cu s' (vY s' dB) (BF s' dB jG) fN iZ fh aI
  . have := (hEa.trans BE).congr (ρ' := ρ') fun b y hb => rW b (by rw [oX]; exact (yj.live b y hb).1)
    simp only [baseOf, hc, nxOf]
    exact ⟨this.os, this.tape, this.output, this.size, this.block, this.orig⟩
end
end Go.Ai
end
section
namespace Go.Ai
open Go
section
variable {P : Program} {tt : TT} {C : Cells} {nt : Nat} {ops : Array Oper} {call : CallA} {fr0 : Fr} {h0 : T AB} {n0 : Pos} {R : List Rec}
theorem empty_rel {ρ : Pos -> Loc} {n : Pos} {w : World} (hC : ∀ ad v, C ad = some v -> w.cell? ad = some v) (rX : ∀ a v, C a = some v -> ∀ o, C ⟨a.block, o, none⟩ = none -> w.cell? ⟨a.block, o, none⟩ = none) : WRel ρ C { heap := .e, next := n } w where
  live b x hb := by rw [T.get_e] at hb; cases hb
  inj b b' x x' hb := by rw [T.get_e] at hb; cases hb
  froz a v ha := ⟨hC a v ha, fun b x hb => by rw [T.get_e] at hb; cases hb⟩
  whole := rX
theorem Yields.eq {N : Next} {x y : Value} (h : Yields N x) (k : Yields N y) : x = y := by
  rcases h with rfl | ⟨rfl, rfl⟩ <;> rcases k with k | ⟨k, rfl⟩
  . simp only [Next.value.injEq] at k; exact k
  . cases k
  . cases k
  . rfl
theorem BRel.siter_of {ρ ρ' : Pos -> Loc} {n n' : Nat} {L : Loc} {w : World} {s : List Nat} {p : Nat} (h : BRel ρ n C L w (.siter s p)) : BRel ρ' n' C L w (.siter s p) := h
theorem new_sound (hT : TTOk P tt) {o : Oper} {k : OpK} {xs : List AOpd} {cls : Cls} (hc : cOp tt o.op = some (k, xs, cls)) {n : Pos} {vs : List AV} {v : AV} {blk : AB}
    (hr : k.run (fun _ => none) n vs = some (.eff v none none (some blk))) {fr : Fr} (hx : evsA fr xs = some vs) {a : Act} {w : World} {Fam : (Pos -> Loc) -> Prop} {ρ : Pos -> Loc} (ak : Fam ρ)
    (hF : ∀ ρ', Fam ρ' -> FRel ρ' n.toNat C fr a.tmps) (hC : ∀ ad v, C ad = some v -> w.cell? ad = some v) (rX : ∀ a v, C a = some v -> ∀ o, C ⟨a.block, o, none⟩ = none -> w.cell? ⟨a.block, o, none⟩ = none) :
    ∃ N x w' L, (execOp a.eval o).run P w = .ok N w' /\ Yields N x /\ w.heap.size <= L.blk /\ L.blk < w'.heap.size /\ w'.os = w.os /\ w'.tape = w.tape /\ w'.output = w.output /\
      (∀ k, k < w.heap.size -> w'.heap[k]? = w.heap[k]?) /\ ∀ ρ', Fam ρ' -> ρ' n = L -> VRel ρ' n.succ.toNat C v x /\ BRel ρ' n.succ.toNat C L w' blk := by
  have aB : k.run (fun b => T.get b (T.e : T AB)) n vs = some (.eff v none none (some blk)) := by
    have e : (fun b => T.get b (T.e : T AB)) = fun _ => none := by funext b; exact T.get_e b
    rw [e]; exact hr
  have H := fun ρ' (hf : Fam ρ') => snd_all hT o.op ρ' C { heap := .e, next := n } w k xs cls fr a o vs _ rfl hc (empty_rel hC rX) (hF ρ' hf) hx aB
  have key : ∀ ρ', Fam ρ' -> ∃ N x w' b6, (execOp a.eval o).run P w = .ok N w' /\ Yields N x /\ (∀ b : Pos, b.toNat < n.toNat -> b6 b = ρ' b) /\ VRel b6 n.succ.toNat C v x /\
      BRel b6 n.succ.toNat C (b6 n) w' blk /\ w.heap.size <= (b6 n).blk /\ (b6 n).blk < w'.heap.size /\ w'.os = w.os /\ w'.tape = w.tape /\ w'.output = w.output /\
      (∀ k, k < w.heap.size -> w'.heap[k]? = w.heap[k]?) := by
    intro ρ' hf
    obtain ⟨N, x, w', b6, he, hy, h1, h2, h3, h4⟩ := H ρ' hf
    have hg : (St.eff { heap := .e, next := n } none none (some blk)).heap.get n = some blk := T.get_put _ _ _
    obtain ⟨g1, g2, g3⟩ := h2.live n blk hg
    refine ⟨N, x, w', b6, he, hy, h1, h3, g3, ?_, g2, h4.os, h4.tape, h4.output, fun k hk => h4.block k hk fun b x hb => ?_⟩
    . rcases h4.orig n blk hg with ⟨b', x', bQ, _⟩ | h
      . rw [T.get_e] at bQ; cases bQ
      . exact h
    . rw [T.get_e] at hb; cases hb
  obtain ⟨N, x, w', b6, he, hy, h1, h2, h3, h4, h5, h6, h7, h8, h9⟩ := key ρ ak
  refine ⟨N, x, w', b6 n, he, hy, h4, h5, h6, h7, h8, h9, fun ρ' hf hL => ?_⟩
  obtain ⟨N', x', w'', iN, dZ, yp, k1, k2, k3, _⟩ := key ρ' hf
  rw [he] at dZ
  simp only [Result.ok.injEq] at dZ
  obtain ⟨rfl, rfl⟩ := dZ
  have rY := hy.eq yp; subst rY
  have wX : n.toNat < n.succ.toNat := by rw [Pos.toNat_succ]; omega
  have agree : (iN n).blk = (b6 n).blk -> (iN n).base = (b6 n).base -> ((∃ cs fz, blk = .cells cs fz) \/ ∃ t cs, blk = .typed t cs) -> VRel ρ' n.succ.toNat C v x /\ BRel ρ' n.succ.toNat C (b6 n) w' blk := by
    intro e1 e2 gI
    have e3 : (iN n).size = (b6 n).size := by
      rcases gI with ⟨cs, fz, rfl⟩ | ⟨t, cs, rfl⟩
      . obtain ⟨c, e, fr, g1, g2, _⟩ := h3
        obtain ⟨c', e', aq, jH, yq, _⟩ := k3
        rw [e1, g1] at jH
        simp only [Option.some.injEq, Obj.cells.injEq] at jH
        rw [<- g2, <- yq, jH.1]
      . obtain ⟨c, fr, g1, g2, _⟩ := h3
        obtain ⟨c', aq, jH, yq, _⟩ := k3
        rw [e1, g1] at jH
        simp only [Option.some.injEq, Obj.cells.injEq] at jH
        rw [<- g2, <- yq, jH.1]
    have e4 : iN n = b6 n := by
      cases hh : iN n; cases hh' : b6 n
      rw [hh, hh'] at e1 e2 e3
      simp only at e1 e2 e3
      rw [e1, e2, e3]
    have dS : ∀ b : Pos, b.toNat < n.succ.toNat -> ρ' b = iN b := by
      intro b hb
      rcases Nat.lt_or_ge b.toNat n.toNat with g | g
      . exact (k1 b g).symm
      . have : b = n := Pos.toNat_inj (by rw [Pos.toNat_succ] at hb; omega)
        subst this; rw [hL, e4]
    refine ⟨k2.mono dS (Nat.le_refl _), ?_⟩
    rw [<- e4]
    exact k3.mono dS (Nat.le_refl _)
  cases run_new hr with
  | ptr cs =>
    obtain ⟨_, g1⟩ := h2.ptr_inv
    obtain ⟨_, g2⟩ := k2.ptr_inv
    rw [g1] at g2
    simp only [Value.pointer.injEq, Option.some.injEq, Addr.mk.injEq, Nat.add_zero, and_true] at g2
    exact agree g2.1.symm g2.2.symm (.inl ⟨cs, 0, rfl⟩)
  | ptrT t cs =>
    obtain ⟨_, g1⟩ := h2.ptr_inv
    obtain ⟨_, g2⟩ := k2.ptr_inv
    rw [g1] at g2
    simp only [Value.pointer.injEq, Option.some.injEq, Addr.mk.injEq, Nat.add_zero, and_true] at g2
    exact agree g2.1.symm g2.2.symm (.inr ⟨t, cs, rfl⟩)
  | sliceT len t cs hl =>
    obtain ⟨ad, aj, g1, g2, g3, g4⟩ := h2.slice_inv
    obtain ⟨ad', wY, jH, yq, g3', GD⟩ := k2.slice_inv
    rw [g1] at jH
    simp only [Value.slice.injEq, Option.some.injEq, true_and] at jH
    obtain ⟨rfl, rfl⟩ := jH
    obtain ⟨_, a1, _⟩ := g4 (by omega)
    obtain ⟨_, a2, _⟩ := GD (by omega)
    rw [a1] at a2
    simp only [Addr.mk.injEq, Nat.add_zero, and_true] at a2
    exact agree a2.1.symm a2.2.symm (.inr ⟨t, cs, rfl⟩)
  | siter s =>
    obtain ⟨_, g1⟩ := h2.ptr_inv
    refine ⟨?_, h3.siter_of⟩
    rw [g1, <- hL]
    exact .ptr n 0 wX
  | slice len es cap cs cu =>
    obtain ⟨ad, aj, g1, g2, g3, g4⟩ := h2.slice_inv
    obtain ⟨ad', wY, jH, yq, g3', GD⟩ := k2.slice_inv
    rw [g1] at jH
    simp only [Value.slice.injEq, Option.some.injEq, true_and] at jH
    obtain ⟨rfl, rfl⟩ := jH
    by_cases h0 : aj = 0
    . subst h0
      have fy : len = 0 := by omega
      have LD : cs = [] := cu fy (by
        cases cap with
        | none => exact .inl rfl
        | some c => exact .inr (by rw [g3 c rfl]))
      subst LD
      refine ⟨?_, ?_⟩
      . rw [g1]; exact .slice n 0 len cap es 0 ad g2 g3 (fun h => absurd rfl h) (fun _ => wX)
      . obtain ⟨c, e, fr, q1, q2, q3, q4, q5⟩ := h3
        exact ⟨c, e, fr, q1, q2, q3, VsRel.nil, q5⟩
    . obtain ⟨_, a1, _⟩ := g4 h0
      obtain ⟨_, a2, _⟩ := GD h0
      rw [a1] at a2
      simp only [Addr.mk.injEq, Nat.add_zero, and_true] at a2
      exact agree a2.1.symm a2.2.symm (.inl ⟨cs, 0, rfl⟩)
  | map =>
    obtain ⟨_, g1⟩ := h2.map_inv
    refine ⟨?_, ?_⟩
    . rw [g1, <- hL]; exact .map n wX
    . obtain ⟨es', q1, q2, q3⟩ := h3
      exact ⟨es', q1, q2, fun i e e' he => by simp at he⟩
end
end Go.Ai
end
section
namespace Go.Ai
open Go
section
variable {P : Program} {tt : TT} {C : Cells} {nt : Nat} {ops : Array Oper} {call : CallA} {fr0 : Fr} {h0 : T AB} {n0 : Pos} {R : List Rec}
def frOnly (fr : Fr) : List Pos -> Fr
  | [] => .e
  | p :: l => (frOnly fr l).put (fr.get p) p
theorem frOnly_in {fr : Fr} {p : Pos} : ∀ {l : List Pos}, p ∈ l -> (frOnly fr l).get p = fr.get p
  | [], h => by cases h
  | q :: l, h => by
    simp only [frOnly]
    by_cases e : q = p
    . subst e; exact T.get_put _ _ _
    . rw [T.get_put_ne _ e]
      exact frOnly_in ((List.mem_cons.1 h).resolve_left fun h => e h.symm)
theorem frOnly_some {fr : Fr} {p : Pos} {v : AV} : ∀ {l : List Pos}, (frOnly fr l).get p = some v -> p ∈ l /\ fr.get p = some v
  | [], h => by simp only [frOnly] at h; rw [T.get_e] at h; cases h
  | q :: l, h => by
    simp only [frOnly] at h
    by_cases e : q = p
    . subst e; rw [T.get_put] at h; exact ⟨by simp, h⟩
    . rw [T.get_put_ne _ e] at h
      obtain ⟨h1, h2⟩ := frOnly_some h
      exact ⟨by simp [h1], h2⟩
theorem evsA_only {fr : Fr} {l : List Pos} : ∀ {xs : List AOpd}, (∀ p, AOpd.t p ∈ xs -> p ∈ l) -> evsA (frOnly fr l) xs = evsA fr xs
  | [], _ => rfl
  | x :: xs, h => by
    have h1 : evA (frOnly fr l) x = evA fr x := by
      cases x with
      | t p => exact frOnly_in (h p (by simp))
      | c v => rfl
    simp only [evsA, h1, evsA_only fun p hp => h p (List.mem_cons_of_mem _ hp)]
theorem looks_arg {o : AOper} {p : Pos} (h : AOpd.t p ∈ o.xs) : p ∈ o.looks := by
  unfold AOper.looks
  exact List.mem_append_right _ (List.mem_filterMap.2 ⟨_, h, rfl⟩)
theorem looks_guard {o : AOper} {p : Pos} {q : Bool} (h : o.guard = some (p, q)) : p ∈ o.looks := by
  unfold AOper.looks
  rw [h]; simp
theorem Yields.upon {o : Oper} {a : Act} {K : Act -> World -> Prop} {Q : Exit -> Act -> World -> Prop} {N : Next} {x : Value} {w : World} (h : Yields N x) (hk : K (a.put o.dst x) w) : o.upon P a K Q (.ok N w) := by
  rcases h with rfl | ⟨rfl, rfl⟩ <;> exact hk
theorem step_any (hT : TTOk P tt) (bZ : CallOk P C call) (G : Reg tt nt ops call fr0 h0 n0 R) {Q : Exit -> Act -> World -> Prop} {ρ0 : Pos -> Loc} {w0 : World} {D : Nat -> Prop} {A B : List Rec} {ρ : Pos -> Loc} {a : Act} {w : World}
    (hI : Inv C nt ops fr0 h0 n0 R ρ0 w0 D A B ρ a w) {i : Nat} (hi : i < ops.size) (hD : ¬ D i)
    (eK : ∀ o e, ops[i]? = some o -> e ∈ o.after -> Region.binds .any e = true -> D e.on) :
    wpOp P ops Q i (fun a' w' => ∃ A' B' ρ', Inv C nt ops fr0 h0 n0 R ρ0 w0 (fun j => D j \/ j = i) A' B' ρ' a' w') a w := by
  obtain ⟨r, hr, rfl⟩ := G.all i hi
  obtain ⟨X, Y, hR⟩ := mem_dec hr
  obtain ⟨o, ho, hrel, hB⟩ := G.rel r hr
  have hp := hI.1
  have qb : ∀ b, r.o.bef.testBit b = true -> D b := fun b hb => G.closed_bef hp.closed (hB.2 b hb) eK
  obtain ⟨Z, hA, qt⟩ := around G hp hR hD
  have oY : ∀ ρ', (∀ b, Kept n0 R D b -> ρ' b = ρ b) -> ∀ p v, p ∈ r.o.looks -> (frOf fr0 Y).get p = some v -> ∃ x, a.tmps[p.toNat - 1]? = some x /\ VRel ρ' (nxOf n0 Y).toNat C v x :=
    fun ρ' hf p v hl hv => look G hp (hI.2 ρ' hf).t1 (hI.2 ρ' hf).t0 hR hD qb hl hv
  have GF : ∀ ρ', (∀ b, Kept n0 R D b -> ρ' b = ρ b) -> FRel ρ' (nxOf n0 Y).toNat C (frOnly (frOf fr0 Y) r.o.looks) a.tmps := fun ρ' hf p v hv =>
    let ⟨h1, h2⟩ := frOnly_some hv; oY ρ' hf p v h1 h2
  have lK : ∀ b, Kept n0 R D b -> ρ b = ρ b := fun _ _ => rfl
  have hw : ∀ b, wantedA (frOf fr0 Y) r.o.guard = some b -> Region.wanted o (yielded ops a.tmps) = b := fun b hb =>
    wanted_sound hrel.guard (fun p v hv ⟨q, hq⟩ => oY ρ lK p v (looks_guard hq) hv) hb
  have hnZ : ∀ s ∈ Z, s.nx.toNat <= (nxOf n0 Y).toNat := fun s hs => by
    obtain ⟨Z1, Z2, rfl⟩ := mem_dec hs
    have := G.earlier_nx (X := X) (r := r) (Z := Z1) (r' := s) (Y' := Z2 ++ B) (by rw [hR, qt]; simp)
    rw [qt]; simp only [List.append_assoc, List.cons_append]; exact this
  have rU : (nxOf n0 B).toNat <= (nxOf n0 Y).toNat := by rw [qt]; exact G.nx_suf (X := X ++ [r]) (by rw [hR, qt]; simp)
  have hs := Good.at (hR ▸ G.good)
  have hex : ∀ xs, evsA (frOf fr0 Y) r.o.xs = some xs -> evsA (frOnly (frOf fr0 Y) r.o.looks) r.o.xs = some xs := fun xs hx => by
    rw [evsA_only fun p hp => looks_arg hp]; exact hx
  unfold wpOp
  simp only [ho]
  generalize hrr : r = r0 at *
  cases hs with
  | skip i' o' _ hw' =>
    rw [if_neg (by rw [hw _ hw']; simp)]
    exact ⟨A, B, ρ, step_pure G hI hR hD eK hrel rfl fun ρ' _ => .undef_rel⟩
  | pure i' o' v xs _ hw' hx qq =>
    rw [if_pos (hw _ hw')]
    refine .inl ?_
    rw [qt] at qq
    obtain ⟨h, fS, aB⟩ := qq Z B rfl hp.bound fun s hs he => by
      cases hb : o'.bef.testBit s.idx with
      | false => rfl
      | true =>
        have h1 := hp.inA s (by rw [hA]; simp [hs]) (qb _ hb)
        rw [h1] at he; cases he
    rcases hrel.op with hc | ⟨hk, _⟩
    . have H : ∀ ρ', (∀ b, Kept n0 R D b -> ρ' b = ρ b) -> ∃ N x, (execOp a.eval o).run P w = .ok N w /\ Yields N x /\ VRel ρ' (nxOf n0 Y).toNat C v x := by
        intro ρ' hf
        have hW := W_sub G (hI.2 ρ' hf) hp.split (hp := h) rU fun b y hb => (fS b y hb).imp (fun h => h) fun ⟨s, h1, h2, h3⟩ =>
          ⟨s, by rw [hA]; simp [h1], qb _ h3, h2, hnZ s h1⟩
        exact snd_all hT o.op ρ' C _ w _ _ _ _ a o _ _ rfl hc hW (GF ρ' hf) (hex xs hx) (run_mono aB fun _ _ h => h)
      obtain ⟨N, x, he, hy, hv⟩ := H ρ lK
      unfold Oper.wp
      rw [he]
      refine hy.upon ⟨A, B, ρ, step_pure G hI hR hD eK hrel rfl fun ρ' hf => ?_⟩
      obtain ⟨N', x', dZ, yp, kP⟩ := H ρ' hf
      rw [he] at dZ
      simp only [Result.ok.injEq, and_true] at dZ
      subst dZ
      rw [hy.eq yp]; exact kP
    . rw [hk] at aB; cases aB
  | new i' o' v blk xs _ hw' hx aB =>
    rw [if_pos (hw _ hw')]
    refine .inl ?_
    rcases hrel.op with hc | ⟨hk, _⟩
    . obtain ⟨N, x, w', L, he, hy, h1, h2, h3, h4, h5, h6, h7⟩ := new_sound hT hc aB (hex xs hx) (Fam := fun ρ' => ∀ b, Kept n0 R D b -> ρ' b = ρ b) lK GF
        (fun ad v ha => ((hI.2 ρ lK).W.froz ad v ha).1) (hI.2 ρ lK).W.whole
      unfold Oper.wp
      rw [he]
      exact hy.upon ⟨A, B, _, step_new G hI hR hD eK hrel rfl h1 h2 h3 h4 h5 h6 h7⟩
    . rw [hk] at aB; cases aB
  | eff i' o' v st' xs _ Aq hw' hx ei =>
    rw [if_pos (hw _ hw')]
    refine .inl ?_
    rcases hrel.op with hc | ⟨hk, _⟩
    . have hY : ∀ s ∈ Y, D s.idx := fun s hs => qb _ (G.eff X _ Y hR Aq s hs)
      have hZ : ∀ s ∈ Z, s.c.isEff = false := fun s hs => hp.inA s (by rw [hA]; simp [hs]) (hY s (by rw [qt]; simp [hs]))
      have hW : WRel ρ C { heap := heapOf h0 Y, next := nxOf n0 Y } w := W_sub G (hI.2 ρ lK) hp.split rU fun b y hb => by
        rw [qt] at hb
        rcases heapOf_sub hZ hp.bound hb with hb | ⟨s, h1, h2⟩
        . exact .inl hb
        . exact .inr ⟨s, by rw [hA]; simp [h1], hY s (by rw [qt]; simp [h1]), h2, hnZ s h1⟩
      have hre := stepA_sound hT bZ hc hW (GF ρ lK) (hex xs hx) ei
      refine hre.upon fun x w' wW => ?_
      obtain ⟨iN, h⟩ := step_eff G hI hR hD eK hrel hY rfl rfl wW
      exact ⟨_, _, iN, h⟩
    . exact (Reaches.bad hk ei).elim
end
end Go.Ai
end
section
namespace Go.Ai
open Go
section
variable {P : Program} {tt : TT} {C : Cells} {nt : Nat} {ops : Array Oper} {call : CallA} {fr0 : Fr} {h0 : T AB} {n0 : Pos} {R : List Rec}
theorem done_post (G : Reg tt nt ops call fr0 h0 n0 R) {ρ0 : Pos -> Loc} {w0 : World} {D : Nat -> Prop} {A B : List Rec} {ρ : Pos -> Loc} {a : Act} {w : World}
    (hI : Inv C nt ops fr0 h0 n0 R ρ0 w0 D A B ρ a w) (dS : ∀ r ∈ R, D r.idx) : SPost nt ρ0 C { heap := h0, next := n0 } w0 (frOf fr0 R) { heap := heapOf h0 R, next := nxOf n0 R } a w := by
  obtain ⟨hp, hI⟩ := hI
  have h := hI ρ fun _ _ => rfl
  have hZ : ∀ s ∈ A, s.c.isEff = false := fun s hs => hp.inA s hs (dS s (by rw [hp.split]; simp [hs]))
  have hnA : ∀ s ∈ A, s.nx.toNat <= (nxOf n0 R).toNat := fun s hs => by
    obtain ⟨Z1, Z2, hA⟩ := mem_dec hs
    have := G.nx_suf (X := []) (Y := Z1) (Z := s :: (Z2 ++ B)) (by rw [hp.split, hA]; simp)
    have e : R = Z1 ++ s :: (Z2 ++ B) := by rw [hp.split, hA]; simp
    rw [<- e] at this; exact this
  have rU : (nxOf n0 B).toNat <= (nxOf n0 R).toNat := by
    have := G.nx_suf (X := []) (Y := A) (Z := B) (by rw [hp.split]; simp)
    rwa [<- hp.split] at this
  have ob : n0.toNat <= (nxOf n0 R).toNat := G.n0_le (X := []) rfl
  have fS : ∀ b x, (heapOf h0 R).get b = some x -> (baseOf h0 B).get b = some x \/ ∃ s ∈ A, D s.idx /\ s.c = .new b x /\ s.nx.toNat <= (nxOf n0 R).toNat := fun b x hb => by
    rw [hp.split] at hb
    rcases heapOf_sub hZ hp.bound hb with hb | ⟨s, h1, h2⟩
    . exact .inl hb
    . exact .inr ⟨s, h1, dS s (by rw [hp.split]; simp [h1]), h2, hnA s h1⟩
  refine ⟨ρ, ⟨W_sub G h hp.split rU fS, ?_, hp.size, hp.defers⟩, h.agree, ob, ?_⟩
  . intro p v hv
    rcases frOf_last R p v hv with ⟨M, s, T, hM, h2, rfl, h3⟩ | ⟨h1, h2⟩
    . obtain ⟨x, hx, oW⟩ := h.t1 M s T p hM (dS s (by rw [hM]; simp)) h2 fun s' dB _ => h3 s' dB
      refine ⟨x, hx, oW.mono (fun _ _ => rfl) ?_⟩
      have := G.nx_suf (X := []) (Y := M) (Z := s :: T) (by rw [hM]; simp)
      rw [<- hM] at this; exact this
    . obtain ⟨x, hx, oW⟩ := h.t0 p v h1 fun s hs _ => h2 s hs
      exact ⟨x, hx, oW.mono (fun _ _ => rfl) ob⟩
  . refine ⟨h.E.os, h.E.tape, h.E.output, h.E.size, h.E.block, fun b x hb => ?_⟩
    rcases fS b x hb with hb | ⟨s, h1, h2, h3, _⟩
    . exact h.E.orig b x hb
    . exact .inr (h.N s h1 h2 b x h3).2.2.1
def DL (listed : Array Bool) (j : Nat) : Prop := listed.getD j false = true
theorem DL_set {listed : Array Bool} {i : Nat} (hi : i < listed.size) : (fun j => DL listed j \/ j = i) = DL (listed.setIfInBounds i true) := by
  funext j
  apply propext
  unfold DL
  by_cases h : j = i
  . subst h; simp [hi]
  . rw [getD_set_ne false (Ne.symm h)]; simp [h]
theorem DL_not {listed : Array Bool} {j : Nat} (h : listed.getD j true = false) : ¬ DL listed j := by
  unfold DL
  intro h'
  rcases Nat.lt_or_ge j listed.size with hj | hj
  . simp [hj] at h h'; rw [h] at h'; cases h'
  . simp [Array.getElem?_eq_none hj] at h'
theorem DL_not' {listed : Array Bool} {j : Nat} (hj : j < listed.size) (h : ¬ DL listed j) : listed.getD j true = false := by
  unfold DL at h
  simp [hj] at h ⊢; exact h
theorem ready_nil (G : Reg tt nt ops call fr0 h0 n0 R) {listed : Array Bool} (hs : listed.size = ops.size) (hr : Region.ready .any ops listed = []) : ∀ (Y X : List Rec), R = X ++ Y -> ∀ r ∈ Y, DL listed r.idx
  | [], _, _, r, cQ => by cases cQ
  | r :: Y, X, hR, r', cQ => by
    have ih := ready_nil G hs hr Y (X ++ [r]) (by rw [hR]; simp)
    rcases List.mem_cons.1 cQ with rfl | cQ
    . obtain ⟨o, ho, _, hB⟩ := G.rel r' (by rw [hR]; simp)
      have aA : r'.idx < ops.size := (Array.getElem?_eq_some_iff.1 ho).1
      by_cases h : DL listed r'.idx
      . exact h
      . exfalso
        have : r'.idx ∈ Region.ready .any ops listed := mem_ready.2 ⟨DL_not' (by omega) h, o, ho, fun e he hb => by
          obtain ⟨s, h1, h2⟩ := G.bef X r' Y hR _ (hB.1 o ho e he hb)
          have := ih s h1
          rw [h2] at this; exact this⟩
        rw [hr] at this; cases this
    . exact ih r' cQ
theorem any_sound (hT : TTOk P tt) (bZ : CallOk P C call) (G : Reg tt nt ops call fr0 h0 n0 R) {Q : Exit -> Act -> World -> Prop} {ρ0 : Pos -> Loc} {w0 : World}
    (hQ : ∀ a' w', SPost nt ρ0 C { heap := h0, next := n0 } w0 (frOf fr0 R) { heap := heapOf h0 R, next := nxOf n0 R } a' w' -> Q .normal a' w') :
    ∀ (fuel : Nat) (listed : Array Bool) (U : List Nat) (A B : List Rec) (ρ : Pos -> Loc) (a : Act) (w : World), listed.size = ops.size -> U.length <= fuel -> U.Nodup -> (∀ j, j < ops.size -> ¬ DL listed j -> j ∈ U) ->
      Inv C nt ops fr0 h0 n0 R ρ0 w0 (DL listed) A B ρ a w -> wpAny P .any ops Q fuel listed a w
  | 0, listed, U, A, B, ρ, a, w, hs, hU, _, hm, hI => by
    have hU0 : U = [] := List.eq_nil_of_length_eq_zero (by omega)
    subst hU0
    have hr : Region.ready .any ops listed = [] := by
      cases h : Region.ready .any ops listed with
      | nil => rfl
      | cons i l =>
        have hi : i ∈ Region.ready .any ops listed := by rw [h]; simp
        obtain ⟨h1, o, ho, _⟩ := mem_ready.1 hi
        have := hm i (Array.getElem?_eq_some_iff.1 ho).1 (DL_not h1)
        cases this
    exact ⟨hr, hQ a w (done_post G hI (ready_nil G hs hr R [] rfl))⟩
  | fuel + 1, listed, U, A, B, ρ, a, w, hs, hU, BH, hm, hI => by
    refine ⟨fun hr => hQ a w (done_post G hI (ready_nil G hs hr R [] rfl)), fun i hi => ?_⟩
    obtain ⟨h1, o, ho, h2⟩ := mem_ready.1 hi
    have aA : i < ops.size := (Array.getElem?_eq_some_iff.1 ho).1
    have ei := step_any (Q := Q) hT bZ G hI aA (DL_not h1) fun o' e kj he hb => by
      rw [ho] at kj; simp only [Option.some.injEq] at kj; subst kj
      exact h2 e he hb
    refine wpOp_mono (fun a' w' hh => ?_) ei
    obtain ⟨A', B', ρ', qu⟩ := hh
    rw [DL_set (by omega)] at qu
    have hiU : i ∈ U := hm i aA (DL_not h1)
    refine any_sound hT bZ G hQ fuel _ (U.erase i) A' B' ρ' a' w' (by simp [hs]) ?_ (BH.erase i) (fun j hj hD => ?_) qu
    . rw [List.length_erase_of_mem hiU]; omega
    . rw [<- DL_set (by omega)] at hD
      have aI : j ≠ i := fun e => hD (.inr e)
      exact (List.mem_erase_of_ne aI).2 (hm j hj fun h => hD (.inl h))
theorem draw_sound (hm : P.follows .mixedOrders = true) (hT : TTOk P tt) (bZ : CallOk P C call) (wZ : MonoCall call) : DrawOk P tt C call := by
  intro nt id ops l Q fr aq st st' ρ a w hl bf h hS hQ
  obtain ⟨R, hG, LF, oQ, KB, oX⟩ := drawA_good (call := call) (fr0 := fr) (h0 := st.heap) (n0 := st.next) _ [] fr aq st st' h trivial rfl rfl rfl
  simp only [List.append_nil] at hG oQ KB oX
  have LG : st' = { heap := heapOf st.heap R, next := nxOf st.next R } := by cases st'; simp_all
  have hlen : l.length = ops.size := by rw [(cOpers_spec hl).1, Array.length_toList]
  have oZ := drawOk_spec _ 0 [] bf fun b => by simp
  have hL : lateO (numb 0 l) [] = (R.map fun r => (r.idx, r.o)).reverse := by rw [LF, List.reverse_reverse]
  have dec : ∀ {A B : List Rec} {r : Rec}, R = A ++ r :: B -> lateO (numb 0 l) [] = (B.map fun r => (r.idx, r.o)).reverse ++ (r.idx, r.o) :: (A.map fun r => (r.idx, r.o)).reverse := fun e => by
    rw [hL, e]; simp
  have w4 : ∀ {B : List Rec} {i : Nat}, i ∈ ((B.map fun r => (r.idx, r.o)).reverse).map (·.1) ↔ ∃ r ∈ B, r.idx = i := fun {B i} => by simp
  have G : Reg tt nt ops call fr st.heap st.next R := by
    refine ⟨hG, wZ, fun A r B e r' cQ hi => ?_, fun A r B e b hb => ?_, fun A r B e hc r' cQ => ?_, fun A r B e r' cQ => ?_, fun r hr => ?_, fun i hi => ?_⟩
    . exact (oZ.one _ _ _ _ (dec e)).2 (w4.2 ⟨r', cQ, hi⟩)
    . rcases oZ.bef _ _ _ _ (dec e) b hb with h | h
      . cases h
      . exact w4.1 h
    . exact oZ.eff _ _ _ _ (dec e) hc _ (.inr (w4.2 ⟨r', cQ, rfl⟩))
    . exact oZ.apart _ _ _ _ (dec e) (r'.idx, r'.o) (by simp; exact ⟨r', cQ, rfl, rfl⟩)
    . obtain ⟨A, B, e⟩ := mem_dec hr
      have hx : (r.idx, r.o) ∈ lateO (numb 0 l) [] := by rw [dec e]; simp
      have h1 := late_at hx
      obtain ⟨o, h2, h3, h4⟩ := opers_at hl _ _ h1
      refine ⟨o, h2, h3, ?_⟩
      rw [h4]
      exact befs_ok ops.toList [] rfl (Nat.zero_le _) (fun i hi => by simp at hi) _ (Array.getElem?_eq_some_iff.1 h2).1
    . rcases oZ.all i (by rw [hlen]; exact hi) with h | h
      . cases h
      . rw [hL] at h; exact w4.1 h
  refine wp_region_any hm ?_
  rw [LG, oQ] at hQ
  have hkn : ∀ b : Pos, b.toNat < st.next.toNat -> ∀ D, Kept st.next R D b := fun b hb D A r B e _ => .inl (Nat.lt_of_lt_of_le hb (G.n0_le (X := A ++ [r]) (by rw [e]; simp)))
  refine any_sound (Q := Q) (ρ0 := ρ) (w0 := w) hT bZ G hQ ops.size _ (List.range ops.size) R [] ρ a _ (by simp) (by simp) List.nodup_range (fun j hj _ => List.mem_range.2 hj) ?_
  have cW : ∀ j, ¬ DL (Array.replicate ops.size false) j := fun j h => by
    unfold DL at h
    rcases Nat.lt_or_ge j ops.size with hj | hj
    . simp [hj] at h
    . simp [Nat.not_lt.2 hj] at h
  refine ⟨⟨by simp, trivial, (fun r hr => by cases hr), fun r _ hD => absurd hD (cW _), fun i _ _ hD => absurd hD (cW _), hS.size, hS.defers⟩, fun ρ' lJ => ?_⟩
  have eB : ∀ b : Pos, b.toNat < st.next.toNat -> ρ' b = ρ b := fun b hb => lJ b (hkn b hb _)
  have hW : WRel ρ' C st { w with drawn := w.drawn + 1 } := (hS.W.congr eB).grow (Nat.le_refl _) fun _ _ => rfl
  refine ⟨hW, fun r _ hD => absurd hD (cW _), fun r _ hD => absurd hD (cW _), fun M s T p _ hD => absurd hD (cW _), fun p v hv _ => ?_, ⟨rfl, rfl, rfl, Nat.le_refl _, fun _ _ _ => rfl, fun b x hb => .inl ⟨b, x, hb, ?_⟩⟩, eB⟩
  . obtain ⟨x, hx, oW⟩ := hS.F p v hv
    exact ⟨x, hx, oW.mono eB (Nat.le_refl _)⟩
  . rw [eB b (hS.W.live b x hb).1]
theorem call_sound (hm : P.follows .mixedOrders = true) (hT : TTOk P tt) {O : Oracle} {G : T AFunc} (hO : OracleOk P C O) (oc : OracleMono O) (hG : GOk P tt G) (m d : Nat) : CallOk P C (callA O G m d) :=
  callA_sound hT hO hG m (fun d bZ => draw_sound hm hT bZ (callA_mono oc m d)) d
end
end Go.Ai
end
section
namespace Go.Ai
section
variable {R : Type}
theorem getR_eq {α : Type} : ∀ (p : Pos) (t : T α), getR p t = t.get p
  | .h, .e => rfl
  | .h, .n _ _ _ => rfl
  | .o _, .e => rfl
  | .o p, .n l _ _ => getR_eq p l
  | .i _, .e => rfl
  | .i p, .n _ _ r => getR_eq p r
theorem putK_eq {α : Type} (x : Option α) : ∀ (p : Pos) (t : T α) (k : T α -> R), putK x p t k = k (t.put x p)
  | .h, .e, _ => rfl
  | .h, .n _ _ _, _ => rfl
  | .o p, .e, k => putK_eq x p .e _
  | .o p, .n l _ _, k => putK_eq x p l _
  | .i p, .e, k => putK_eq x p .e _
  | .i p, .n _ _ r, k => putK_eq x p r _
theorem forceNat_eq (n : Nat) (k : Nat -> R) : forceNat n k = k n := by cases n <;> rfl
theorem forceInt_eq (n : Int) (k : Int -> R) : forceInt n k = k n := by cases n <;> simp only [forceInt, forceNat_eq]
theorem forceBool_eq (b : Bool) (k : Bool -> R) : forceBool b k = k b := by cases b <;> rfl
theorem forceL_eq {α : Type} : ∀ (l : List α) (k : List α -> R), forceL l k = k l
  | [], _ => rfl
  | a :: l, k => forceL_eq l fun t => k (a :: t)
theorem forcePos_eq : ∀ (p : Pos) (k : Pos -> R), forcePos p k = k p
  | .h, _ => rfl
  | .o p, k => forcePos_eq p fun q => k (.o q)
  | .i p, k => forcePos_eq p fun q => k (.i q)
theorem forceO_eq (o : Option Nat) (k : Option Nat -> R) : forceO o k = k o := by
  cases o with
  | none => rfl
  | some n => simp only [forceO, forceNat_eq]
theorem forceF_eq (v : AV) (k : AV -> R) : forceF v k = k v := by
  cases v <;> simp only [forceF, forceBool_eq, forceInt_eq, forceL_eq, forcePos_eq, forceNat_eq, forceO_eq]
theorem forceFs_eq : ∀ (l : List AV) (k : List AV -> R), forceFs l k = k l
  | [], _ => rfl
  | a :: l, k => by
    show forceF a (fun a => forceFs l fun t => k (a :: t)) = _
    rw [forceF_eq, forceFs_eq l]
theorem forceV_eq (v : AV) (k : AV -> R) : forceV v k = k v := by
  unfold forceV
  split
  . exact forceFs_eq _ _
  . exact forceF_eq _ _
theorem forceAB_eq (x : AB) (k : AB -> R) : forceAB x k = k x := by
  cases x <;> simp only [forceAB, forceL_eq, forceNat_eq]
theorem succK_eq : ∀ (p : Pos) (k : Pos -> R), succK p k = k p.succ
  | .h, _ => rfl
  | .o _, _ => rfl
  | .i p, k => succK_eq p fun q => k (.o q)
variable (z : R)
def andK {α : Type} (r : Option α) (k : α -> R) : R := match r with
  | some x => k x
  | none => z
theorem evK_eq (fr : Fr) (x : AOpd) (k : AV -> R) : evK z fr x k = andK z (evA fr x) k := by
  cases x with
  | t p => simp only [evK, getR_eq, evA, andK]; cases T.get p fr <;> rfl
  | c v => rfl
theorem evsK_eq (fr : Fr) : ∀ (xs : List AOpd) (k : List AV -> R), evsK z fr xs k = andK z (evsA fr xs) k
  | [], k => rfl
  | x :: xs, k => by
    show evK z fr x (fun v => evsK z fr xs fun vs => k (v :: vs)) = _
    rw [evK_eq]
    simp only [evsK_eq fr xs]
    simp only [evsA]
    cases evA fr x with
    | none => rfl
    | some v => simp only [andK]; cases evsA fr xs <;> rfl
theorem wantedK_eq (fr : Fr) (g : Option (Pos × Bool)) (yes no : R) : wantedK z fr g yes no = match wantedA fr g with
    | some true => yes
    | some false => no
    | none => z := by
  unfold wantedK wantedA
  cases g with
  | none => rfl
  | some g =>
    obtain ⟨p, want⟩ := g
    simp only [getR_eq]
    cases T.get p fr with
    | none => rfl
    | some v =>
      cases v <;> try rfl
      rename_i b
      cases b <;> cases want <;> rfl
theorem setDstK_eq (fr : Fr) (d : Option Pos) (v : AV) (k : Fr -> R) : setDstK fr d v k = k (setDst fr d v) := by
  cases d with
  | none => rfl
  | some p => exact putK_eq _ _ _ _
theorem effK_eq (st : St) (del : Option Pos) (set : Option (Pos × AB)) (new : Option AB) (k : St -> R) : effK st del set new k = k (st.eff del set new) := by
  have LH : ∀ (h : T AB) (k : T AB -> R), delK del h k = k (delO del h) := fun h k => by
    cases del with
    | none => rfl
    | some b => exact putK_eq _ _ _ _
  have iF : ∀ (h : T AB) (k : T AB -> R), setK set h k = k (putO set h) := fun h k => by
    cases set with
    | none => rfl
    | some b => simp only [setK, forceAB_eq, putK_eq]; rfl
  unfold effK
  rw [LH, iF]
  cases new with
  | none => rfl
  | some x => simp only [forceAB_eq, putK_eq, succK_eq]; rfl
def CK (cL : CallK R) (call : CallA) : Prop := ∀ f args st k, cL f args st k = andK z (call f args st) fun x => k x.1 x.2
variable {cL : CallK R} {call : CallA}
theorem getR_fun (h : T AB) : (fun b => getR b h) = fun b => h.get b := funext fun b => getR_eq b h
theorem stepK_eq (hc : CK z cL call) (op : OpK) (xs : List AV) (st : St) (k : AV -> St -> R) : stepK z cL op xs st k = andK z (stepA call op xs st) fun x => k x.1 x.2 := by
  unfold stepK stepA
  rw [getR_fun]
  cases op.run (fun b => st.heap.get b) st.next xs with
  | none => rfl
  | some r =>
    cases r with
    | val v => simp only [forceV_eq]; rfl
    | eff v d s n => simp only [forceV_eq, effK_eq]; rfl
    | call f args => simp only [forceL_eq]; exact hc f args st k
theorem opsK_eq (hc : CK z cL call) : ∀ (ops : List AOper) (fr : Fr) (st : St) (k : Fr -> St -> R), opsK z cL ops fr st k = andK z (opsA call ops fr st) fun x => k x.1 x.2
  | [], fr, st, k => rfl
  | o :: os, fr, st, k => by
    show wantedK z fr o.guard (evsK z fr o.xs fun xs => stepK z cL o.k xs st fun v st => setDstK fr o.dst v fun fr => opsK z cL os fr st k) (setDstK fr o.dst .undef fun fr => opsK z cL os fr st k) = _
    rw [wantedK_eq, evsK_eq]
    simp only [stepK_eq z hc, setDstK_eq, opsK_eq hc os]
    simp only [opsA]
    cases wantedA fr o.guard with
    | none => rfl
    | some b =>
      cases b with
      | false => rfl
      | true =>
        simp only []
        cases evsA fr o.xs with
        | none => rfl
        | some xs =>
          simp only [andK]
          cases stepA call o.k xs st with
          | none => rfl
          | some x => rfl
theorem snapK_eq (bef : Nat) (h : T AB) : ∀ (recs : List Rec) (k : T AB -> R), snapK bef h recs k = k (snap bef h recs)
  | [], k => rfl
  | r :: rs, k => by
    show (match r.c with
      | .new id blk => match bef.testBit r.idx with
        | true => snapK bef h rs fun h' => putK (some blk) id h' k
        | false => snapK bef h rs k
      | .eff _ _ => k h
      | .pure => snapK bef h rs k) = _
    unfold snap
    cases r.c with
    | pure => exact snapK_eq bef h rs k
    | eff _ _ => rfl
    | new id blk =>
      simp only []
      cases bef.testBit r.idx with
      | true => simp only [snapK_eq bef h rs, putK_eq]
      | false => exact snapK_eq bef h rs k
theorem putUpK_eq (h : T AB) : ∀ (l : List (Pos × AB)) (k : T AB -> R), putUpK h l k = k (putUp l h)
  | [], k => rfl
  | (id, blk) :: l, k => by
    show putUpK h l (fun h' => putK (some blk) id h' k) = _
    rw [putUpK_eq h l, putK_eq]; rfl
theorem readBackK_eq (bef : Nat) (op : OpK) (xs : List AV) (v : AV) : ∀ (recs : List Rec) (up : List (Pos × AB)), readBackK bef op xs v up recs = readBack bef op xs v up recs
  | [], up => rfl
  | r :: rs, up => by
    unfold readBackK readBack
    cases r.c with
    | pure => exact readBackK_eq bef op xs v rs up
    | new id blk => simp only [readBackK_eq bef op xs v rs] <;> (cases bef.testBit r.idx <;> rfl)
    | eff base _ =>
      simp only [readBackK_eq bef op xs v rs, snapK_eq, putUpK_eq]
      unfold readsAsK readsAs
      simp only [getR_fun] <;> (cases bef.testBit r.idx <;> rfl)
theorem drawK_eq (hc : CK z cL call) : ∀ (ops : List (Nat × AOper)) (recs : List Rec) (base : T AB) (fr : Fr) (st : St) (k : Fr -> St -> R),
    drawK z cL ops recs base fr st k = andK z (drawA call ops recs base fr st) fun x => k x.1 x.2
  | [], recs, base, fr, st, k => rfl
  | (j, o) :: os, recs, base, fr, st, k => by
    show wantedK z fr o.guard
      (evsK z fr o.xs fun xs => match o.cls with
        | .new => match o.k.run (fun _ => none) st.next xs with
          | some (.eff v none none (some blk)) => forceV v fun v => forceAB blk fun blk => setDstK fr o.dst v fun fr => succK st.next fun n => putK (some blk) st.next st.heap fun h =>
              drawK z cL os ({ idx := j, o := o, v := v, c := .new st.next blk, nx := n } :: recs) base fr { heap := h, next := n } k
          | _ => z
        | .eff => stepK z cL o.k xs st fun v st' => setDstK fr o.dst v fun fr => drawK z cL os ({ idx := j, o := o, v := v, c := .eff base st'.heap, nx := st'.next } :: recs) st'.heap fr st' k
        | _ => match o.k.run (fun _ => none) .h xs with
          | some (.val v) => forceV v fun v => setDstK fr o.dst v fun fr => drawK z cL os ({ idx := j, o := o, v := v, c := .pure, nx := st.next } :: recs) base fr st k
          | _ => snapK o.bef base recs fun h => match o.k.run (fun b => getR b h) .h xs with
            | some (.val v) => forceV v fun v => match readBackK o.bef o.k xs v [] recs with
              | true => setDstK fr o.dst v fun fr => drawK z cL os ({ idx := j, o := o, v := v, c := .pure, nx := st.next } :: recs) base fr st k
              | false => z
            | _ => z)
      (setDstK fr o.dst .undef fun fr => drawK z cL os ({ idx := j, o := o, v := .undef, c := .pure, nx := st.next } :: recs) base fr st k) = _
    rw [wantedK_eq, evsK_eq]
    simp only [stepK_eq z hc, setDstK_eq, forceV_eq, forceAB_eq, succK_eq, putK_eq, snapK_eq, readBackK_eq, getR_fun, drawK_eq hc os]
    simp only [drawA]
    cases wantedA fr o.guard with
    | none => rfl
    | some b =>
      cases b with
      | false => rfl
      | true =>
        simp only []
        cases evsA fr o.xs with
        | none => rfl
        | some xs =>
          simp only [andK]
          cases o.cls with
          | new =>
            simp only []
            split <;> simp_all
          | eff =>
            simp only []
            cases stepA call o.k xs st with
            | none => rfl
            | some x => rfl
          | pure =>
            simp only []
            split
            . simp_all
            . split <;> simp_all
              split <;> simp_all
          | read =>
            simp only []
            split
            . simp_all
            . split <;> simp_all
              split <;> simp_all
def outK (r : Option (AExit × Fr × St)) (kn : Fr -> St -> R) (kx : Nat -> Fr -> St -> R) (kr : Fr -> St -> R) : R := match r with
  | some (.normal, fr, st) => kn fr st
  | some (.exit id, fr, st) => kx id fr st
  | some (.ret, fr, st) => kr fr st
  | none => z
theorem execK_eq (hc : CK z cL call) : ∀ (m : Nat) (c : AC) (fr : Fr) (st : St) (kn : Fr -> St -> R) (kx : Nat -> Fr -> St -> R) (kr : Fr -> St -> R),
    execK z cL m c fr st kn kx kr = outK z (exec call m c fr st) kn kx kr
  | 0, c, fr, st, kn, kx, kr => rfl
  | m + 1, c, fr, st, kn, kx, kr => by
    have ih := execK_eq hc m
    show execStepK z cL (execK z cL m) c fr st kn kx kr = outK z (execStep call (exec call m) c fr st) kn kx kr
    cases c with
    | skip => rfl
    | region ops =>
      simp only [execStepK, execStep, opsK_eq z hc]
      cases opsA call ops fr st with
      | none => rfl
      | some x => rfl
    | draw ops =>
      simp only [execStepK, execStep, drawK_eq z hc]
      cases drawA call ops [] st.heap fr st with
      | none => rfl
      | some x => rfl
    | seq a b =>
      simp only [execStepK, execStep, ih]
      cases exec call m a fr st with
      | none => rfl
      | some x =>
        obtain ⟨e, bC, aH⟩ := x
        cases e <;> rfl
    | cond x a b =>
      simp only [execStepK, execStep, evK_eq]
      cases evA fr x with
      | none => rfl
      | some v =>
        simp only [andK]
        cases v <;> try rfl
        rename_i t
        cases t <;> simp only [ih]
    | block id a =>
      simp only [execStepK, execStep, ih]
      cases exec call m a fr st with
      | none => rfl
      | some x =>
        obtain ⟨e, bC, aH⟩ := x
        cases e <;> try rfl
        rename_i fN
        simp only [outK]
        cases Nat.beq fN id <;> rfl
    | loop a =>
      simp only [execStepK, execStep, ih]
      cases exec call m a fr st with
      | none => rfl
      | some x =>
        obtain ⟨e, bC, aH⟩ := x
        cases e <;> rfl
    | exit id => rfl
    | ret => rfl
theorem paramsK_eq : ∀ (vs : List AV) (i : Nat) (fr : Fr) (k : Fr -> R), paramsK vs i fr k = k (params i vs fr)
  | [], i, fr, k => rfl
  | v :: vs, i, fr, k => by
    show putK (some v) (key i) fr (fun fr => paramsK vs (i + 1) fr k) = _
    rw [putK_eq, paramsK_eq vs]; rfl
theorem resultsK_eq (st : St) (fr : Fr) (rs : List ARV) (k : AV -> R) : resultsK z st fr rs k = andK z (resultsA (fun b => st.heap.get b) fr rs) fun vs => k (packA vs) := by
  unfold resultsK
  rw [getR_fun]
  cases resultsA (fun b => st.heap.get b) fr rs with
  | none => rfl
  | some vs =>
    simp only [forceFs_eq, andK]
    cases vs with
    | nil => rfl
    | cons v vs => cases vs <;> rfl
theorem callK_eq (O : Oracle) (G : T AFunc) (m : Nat) : ∀ d, CK z (callK z O G m d) (callA O G m d)
  | 0 => fun f args st k => rfl
  | d + 1 => fun f args st k => by
    have ih := callK_eq O G m d
    show (match O f with
      | some s => match s args st with
        | some (v, st') => forceV v fun v => k v st'
        | none => z
      | none => match getR (key f) G with
        | some F => match Nat.beq args.length F.nparams with
          | true => paramsK args 0 .e fun fr => execK z (callK z O G m d) m F.code fr st
              (fun fr st => resultsK z st fr F.results fun v => k v st)
              (fun _ _ _ => z)
              (fun fr st => resultsK z st fr F.results fun v => k v st)
          | false => z
        | none => z) = _
    simp only [callA, forceV_eq, getR_eq, paramsK_eq, execK_eq z ih, resultsK_eq]
    cases O f with
    | some s =>
      simp only []
      cases s args st with
      | none => rfl
      | some x => rfl
    | none =>
      simp only []
      cases G.get (key f) with
      | none => rfl
      | some F =>
        simp only []
        cases Nat.beq args.length F.nparams with
        | false => rfl
        | true =>
          simp only []
          cases exec (callA O G m d) m F.code (params 0 args .e) st with
          | none => rfl
          | some x =>
            obtain ⟨e, bC, aH⟩ := x
            cases e with
            | normal =>
              simp only [outK]
              cases resultsA (fun b => aH.heap.get b) bC F.results <;> rfl
            | exit id => rfl
            | ret =>
              simp only [outK]
              cases resultsA (fun b => aH.heap.get b) bC F.results <;> rfl
end
end Go.Ai
end
section
namespace Go.Ai
open Go
def chkTI (P : Program) (t : Nat) (ti : TI) : Bool :=
  match P.underlying t, P.info? t with
  | some d, some i => tkMatch ti.k d && Nat.beq i.size ti.size && Nat.beq i.bytes ti.bytes &&
    (match ti.zero with
     | none => true
     | some z => match i.zero with
       | some v => (match scalarsOf v.cells.toList with
           | some z' => beqDeeps z' z
           | none => false) && Nat.beq z.length ti.size && (match ti.k.isAgg, v with
           | true, .agg _ => true
           | true, _ => false
           | false, .agg _ => false
           | false, _ => true)
       | none => false) && (match ti.k with
     | .ptr e => (P.info? e).isSome
     | _ => true) && (!ti.eqPlainStruct || (!P.stoodInHeld t && !P.eqGuardType P.depth t))
  | _, _ => false
theorem chkTI_ok {P : Program} {t : Nat} {ti : TI} (h : chkTI P t ti = true) : TIOk P t ti := by
  unfold chkTI at h
  split at h <;> first | (cases h; done) | skip
  rename_i d i hd hi
  simp only [Bool.and_eq_true, Bool.or_eq_true, Bool.not_eq_true'] at h
  obtain ⟨⟨⟨⟨⟨h1, h2⟩, h3⟩, h4⟩, h6⟩, h5⟩ := h
  refine ⟨⟨d, hd, h1⟩, ⟨i, hi, Nat.eq_of_beq_eq_true h2, Nat.eq_of_beq_eq_true h3, fun z hz => ?_⟩, fun e he => ?_, fun he => ?_⟩
  . rw [hz] at h4
    simp only at h4
    split at h4 <;> first | (cases h4; done) | skip
    rename_i v hv
    simp only [Bool.and_eq_true] at h4
    obtain ⟨⟨g1, g2⟩, g3⟩ := h4
    split at g1 <;> first | (cases g1; done) | skip
    rename_i z' iz
    rw [beqDeeps_eq g1] at iz
    refine ⟨v, hv, iz, Nat.eq_of_beq_eq_true g2, fun ha => ?_, fun ha => ?_⟩
    . rw [ha] at g3; cases v <;> first | exact ⟨_, rfl⟩ | cases g3
    . rw [ha] at g3; cases v <;> first | rfl | cases g3
  . rw [he] at h6
    exact Option.isSome_iff_exists.1 h6
  . rcases h5 with h5 | h5
    . rw [he] at h5; cases h5
    . exact h5
def chkTree (P : Program) : (Pos -> Pos) -> T TI -> Bool
  | _, .e => true
  | f, .n l v r => (match v with
    | some ti => chkTI P ((f .h).toNat - 1) ti
    | none => true) && chkTree P (fun p => f (.o p)) l && chkTree P (fun p => f (.i p)) r
theorem chkTree_ok {P : Program} : ∀ {t : T TI} {f : Pos -> Pos}, chkTree P f t = true -> ∀ p ti, t.get p = some ti -> TIOk P ((f p).toNat - 1) ti
  | .e, f, _, p, ti, h => by rw [T.get_e] at h; cases h
  | .n l v r, f, hc, p, ti, h => by
    simp only [chkTree, Bool.and_eq_true] at hc
    cases p with
    | h => simp only [T.get] at h; rw [h] at hc; exact chkTI_ok hc.1.1
    | o p => exact chkTree_ok hc.1.2 p ti h
    | i p => exact chkTree_ok hc.2 p ti h
theorem ttOk_of {P : Program} {tt : TT} (h : chkTree P (fun p => p) tt = true) : TTOk P tt := fun p ti hp => chkTree_ok h p ti hp
def GAll (P : Program) (tt : TT) (f : Pos -> Pos) (t : T AFunc) : Prop :=
  ∀ p F, t.get p = some F -> ∃ fn, P.funcs[(f p).toNat - 1]? = some fn /\ (fn.name == "runtime.NumGoroutine") = false /\ cFunc tt fn = some F
def GLeaf (P : Program) (tt : TT) (i : Nat) (v : Option AFunc) : Prop :=
  ∀ F, v = some F -> ∃ fn, P.funcs[i]? = some fn /\ (fn.name == "runtime.NumGoroutine") = false /\ cFunc tt fn = some F
theorem GAll.e {P : Program} {tt : TT} {f : Pos -> Pos} : GAll P tt f .e := fun p F h => by rw [T.get_e] at h; cases h
theorem GAll.n {P : Program} {tt : TT} {f : Pos -> Pos} {l r : T AFunc} {v : Option AFunc} (hl : GAll P tt (fun p => f (.o p)) l) (hv : GLeaf P tt ((f .h).toNat - 1) v) (hr : GAll P tt (fun p => f (.i p)) r) :
    GAll P tt f (.n l v r) := fun p F h => by
  cases p with
  | h => exact hv F h
  | o p => exact hl p F h
  | i p => exact hr p F h
theorem GLeaf.none {P : Program} {tt : TT} {i : Nat} : GLeaf P tt i none := fun F h => by cases h
theorem GLeaf.of {P : Program} {tt : TT} {i : Nat} {fn : Func} (h : P.funcs[i]? = some fn) (hn : (fn.name == "runtime.NumGoroutine") = false) : GLeaf P tt i (cFunc tt fn) :=
  fun F hF => ⟨fn, h, hn, hF⟩
theorem gOk_of {P : Program} {tt : TT} {G : T AFunc} (h : GAll P tt (fun p => p) G) : GOk P tt G := fun p F hp => h p F hp
end Go.Ai
end
section
namespace Go.Ai
open Go
structure FnOk (P : Program) (C : Cells) (f : FuncId) (s : List AV -> St -> Option (AV × St)) : Prop where
  mono : ∀ args st v st', s args st = some (v, st') -> st.next.toNat <= st'.next.toNat
  runs : ∀ (ρ : Pos -> Loc) (st : St) (w : World) (args : List AV) (v : AV) (st' : St) (ay : List Value), s args st = some (v, st') ->
    WRel ρ C st w -> VsRel ρ st.next.toNat C args ay -> Reaches P (CallPost ρ C st w v st') ((callFunc f ay.toArray).run P w)
def orcOf : List (Nat × (List AV -> St -> Option (AV × St))) -> Oracle
  | [] => fun _ => none
  | (g, s) :: l => fun f => match Nat.beq f g with
    | true => some s
    | false => orcOf l f
theorem orcOf_ok {P : Program} {C : Cells} : ∀ {l : List (Nat × (List AV -> St -> Option (AV × St)))}, (∀ x ∈ l, FnOk P C x.1 x.2) -> OracleOk P C (orcOf l) /\ OracleMono (orcOf l)
  | [], _ => ⟨fun f s h => by simp [orcOf] at h, fun f s h => by simp [orcOf] at h⟩
  | (g, s0) :: l, hl => by
    obtain ⟨h1, h2⟩ := orcOf_ok fun x hx => hl x (List.mem_cons_of_mem _ hx)
    have h0 := hl _ (List.mem_cons_self ..)
    refine ⟨fun f s h => ?_, fun f s h => ?_⟩
    . simp only [orcOf] at h
      split at h
      . rename_i he
        simp only [Option.some.injEq] at h; subst h
        have := Nat.eq_of_beq_eq_true he; subst this
        exact h0.runs
      . exact h1 f s h
    . simp only [orcOf] at h
      split at h
      . simp only [Option.some.injEq] at h; subst h
        exact h0.mono
      . exact h2 f s h
def cmpS : List AV -> St -> Option (AV × St)
  | [.str a, .str b], st => some (.int .i64 (match lessNats a b with
    | true => .negSucc 0
    | false => match lessNats b a with
      | true => .ofNat 1
      | false => .ofNat 0), st)
  | _, _ => none
theorem compare_nats : ∀ (x y : List UInt8), Lib.compareBytes x y = match lessNats (x.map UInt8.toNat) (y.map UInt8.toNat) with
    | true => .negSucc 0
    | false => match lessNats (y.map UInt8.toNat) (x.map UInt8.toNat) with
      | true => .ofNat 1
      | false => .ofNat 0
  | [], [] => rfl
  | [], _ :: _ => rfl
  | _ :: _, [] => rfl
  | a :: x, b :: y => by
    rw [lessNats_eq, lessNats_eq]
    have ih := compare_nats x y
    rw [lessNats_eq, lessNats_eq] at ih
    simp only [Lib.compareBytes, Op.bytesLess]
    by_cases h : a < b
    . simp [h]
    . by_cases h' : b < a
      . have aI : (a == b) = false := by
          rw [beq_eq_false_iff_ne]
          exact fun e => by subst e; exact h h'
        simp [h, h', aI]
      . have he : a = b := by
          apply UInt8.toNat_inj.1
          rw [UInt8.lt_iff_toNat_lt] at h h'
          omega
        subst he
        simp only [h, if_false, ih]
        simp
theorem cmp_fnOk {P : Program} {C : Cells} {f : FuncId} {fn : Func} (hf : P.funcs[f]? = some fn) (ek : (fn.name == "runtime.NumGoroutine") = false) (hb : fn.body.isNone = true)
    (hx : Extern.findNext fn = none) (he : Extern.find fn = some Extern.BytealgCompare.compare) : FnOk P C f cmpS where
  mono args st v st' h := by
    unfold cmpS at h
    split at h <;> cases h
    exact Nat.le_refl _
  runs ρ st w args v st' ay h hW hv := by
    unfold cmpS at h
    split at h <;> cases h
    rename_i a b
    obtain ⟨x, xs, rfl, h1, h2⟩ := hv.cons_inv
    obtain ⟨y, ys, rfl, h3, h4⟩ := h2.cons_inv
    have := h4.nil_inv; subst this
    obtain ⟨s, rfl, hs⟩ := h1.str_inv
    obtain ⟨t, rfl, ht⟩ := h3.str_inv
    have aB : (callFunc f [Value.string s, Value.string t].toArray).run P w = .ok (.value (.int .i64 (Lib.compareBytes s.data.toList t.data.toList))) w := by
      rw [run_callFunc_extern hf ek hb hx he]
      show ((Extern.BytealgCompare.compare #[.string s, .string t]).run P w).andThen _ = _
      rw [Lib.run_compareString]
      rfl
    rw [aB]
    refine ⟨ρ, ?_, fun _ _ => rfl, Nat.le_refl _, hW, Evo.refl _ _ _⟩
    rw [compare_nats, hs, ht]
    exact .int _ _
end Go.Ai
end
section
namespace Go.Ai
open Go
theorem WRel.sub {ρ : Pos -> Loc} {C : Cells} {st : St} {w : World} (h : WRel ρ C st w) {h2 : T AB} (hs : ∀ b x, h2.get b = some x -> st.heap.get b = some x) : WRel ρ C { heap := h2, next := st.next } w where
  live b x hb := h.live b x (hs b x hb)
  inj b b' x x' hb bQ he := h.inj b b' x x' (hs b x hb) (hs b' x' bQ) he
  froz a v ha := ⟨(h.froz a v ha).1, fun b x hb => (h.froz a v ha).2 b x (hs b x hb)⟩
  whole := h.whole
theorem CallPost.frame {ρ : Pos -> Loc} {C : Cells} {st st' : St} {w w' : World} {v : AV} {x : Value} {h0 h2 : T AB} (hW : WRel ρ C st w) (fS : ∀ b y, h0.get b = some y -> st.heap.get b = some y)
    (h : CallPost ρ C { heap := h0, next := st.next } w v st' x w')
    (yu : ∀ b y, h2.get b = some y -> st'.heap.get b = some y \/ (st.heap.get b = some y /\ h0.get b = none)) :
    CallPost ρ C st w v { heap := h2, next := st'.next } x w' := by
  obtain ⟨ρ', hv, ak, hn, aS, hE⟩ := h
  have hold : ∀ b y, st.heap.get b = some y -> h0.get b = none -> ∀ b' y', h0.get b' = some y' -> (ρ b').blk ≠ (ρ b).blk := fun b y hb gj b' y' bQ e => by
    have := hW.inj b' b y' y (fS b' y' bQ) hb e
    subst this; rw [gj] at bQ; cases bQ
  have yw : ∀ b y b' y', st'.heap.get b = some y -> st.heap.get b' = some y' -> h0.get b' = none -> (ρ' b).blk ≠ (ρ' b').blk := fun b y b' y' hb bQ gj e => by
    rw [ak b' (hW.live b' y' bQ).1] at e
    rcases hE.orig b y hb with ⟨b2, y2, g1, g2⟩ | g1
    . exact hold b' y' bQ gj b2 y2 g1 (g2.trans e)
    . have := (hW.live b' y' bQ).2.1; omega
  refine ⟨ρ', hv, ak, hn, ⟨fun b y hb => ?_, fun b b' y y' hb bQ he => ?_, fun a u ha => ⟨(aS.froz a u ha).1, fun b y hb => ?_⟩, aS.whole⟩, ⟨hE.os, hE.tape, hE.output, hE.size, fun k hk cW => ?_, fun b y hb => ?_⟩⟩
  . rcases yu b y hb with hb | ⟨hb, gj⟩
    . exact aS.live b y hb
    . obtain ⟨g1, g2, g3⟩ := hW.live b y hb
      refine ⟨Nat.lt_of_lt_of_le g1 hn, ?_, ?_⟩
      . rw [ak b g1]; exact Nat.lt_of_lt_of_le g2 hE.size
      . rw [ak b g1]
        exact (g3.mono ak hn).of_heap (hE.block _ g2 fun b' y' bQ => hold b y hb gj b' y' bQ)
  . rcases yu b y hb with hb | ⟨hb, gj⟩ <;> rcases yu b' y' bQ with bQ | ⟨bQ, LI⟩
    . exact aS.inj b b' y y' hb bQ he
    . exact absurd he (yw b y b' y' hb bQ LI)
    . exact absurd he.symm (yw b' y' b y bQ hb gj)
    . rw [ak b (hW.live b y hb).1, ak b' (hW.live b' y' bQ).1] at he
      exact hW.inj b b' y y' hb bQ he
  . rcases yu b y hb with hb | ⟨hb, gj⟩
    . exact (aS.froz a u ha).2 b y hb
    . rw [ak b (hW.live b y hb).1]; exact (hW.froz a u ha).2 b y hb
  . exact hE.block k hk fun b y hb => cW b y (fS b y hb)
  . rcases yu b y hb with hb | ⟨hb, gj⟩
    . rcases hE.orig b y hb with ⟨b', y', g1, g2⟩ | g1
      . exact .inl ⟨b', y', fS b' y' g1, g2⟩
      . exact .inr g1
    . exact .inl ⟨b, y, hb, by rw [ak b (hW.live b y hb).1]⟩
def beqAVs : List AV -> List AV -> Bool
  | [], [] => true
  | a :: x, b :: y => beqAV a b && beqAVs x y
  | _, _ => false
theorem beqAVs_eq : ∀ {a b : List AV}, beqAVs a b = true -> a = b
  | [], [], _ => rfl
  | [], _ :: _, h => by simp [beqAVs] at h
  | _ :: _, [], h => by simp [beqAVs] at h
  | a :: x, b :: y, h => by
    simp only [beqAVs, Bool.and_eq_true] at h
    rw [beqAV_eq h.1, beqAVs_eq h.2]
def beqEs : List (AV × AV × Nat) -> List (AV × AV × Nat) -> Bool
  | [], [] => true
  | (a, b, n) :: x, (a', b', n') :: y => beqAV a a' && beqAV b b' && Nat.beq n n' && beqEs x y
  | _, _ => false
theorem beqEs_eq : ∀ {a b : List (AV × AV × Nat)}, beqEs a b = true -> a = b
  | [], [], _ => rfl
  | [], _ :: _, h => by simp [beqEs] at h
  | _ :: _, [], h => by simp [beqEs] at h
  | (a, b, n) :: x, (a', b', n') :: y, h => by
    simp only [beqEs, Bool.and_eq_true] at h
    obtain ⟨⟨⟨h1, h2⟩, h3⟩, h4⟩ := h
    rw [beqAV_eq h1, beqAV_eq h2, Nat.eq_of_beq_eq_true h3, beqEs_eq h4]
def beqAB : AB -> AB -> Bool
  | .cells cs fz, .cells eJ fz' => beqAVs cs eJ && Nat.beq fz fz'
  | .map es c, .map es' c' => beqEs es es' && Nat.beq c c'
  | .siter s p, .siter s' p' => beqNats s s' && Nat.beq p p'
  | .typed t cs, .typed t' eJ => beqAVs cs eJ && Nat.beq t t'
  | _, _ => false
theorem beqAB_eq {a b : AB} (h : beqAB a b = true) : a = b := by
  unfold beqAB at h
  split at h <;> (try simp only [Bool.and_eq_true] at h)
  . rw [beqAVs_eq h.1, Nat.eq_of_beq_eq_true h.2]
  . rw [beqEs_eq h.1, Nat.eq_of_beq_eq_true h.2]
  . rw [beqNats_eq.1 h.1, Nat.eq_of_beq_eq_true h.2]
  . rw [beqAVs_eq h.1, Nat.eq_of_beq_eq_true h.2]
  . cases h
def hasAll (h : T AB) : List (Pos × AB) -> Bool
  | [] => true
  | (b, x) :: l => (match h.get b with
    | some y => beqAB y x
    | none => false) && hasAll h l
theorem hasAll_ok {h : T AB} : ∀ {l : List (Pos × AB)}, hasAll h l = true -> ∀ b x, (b, x) ∈ l -> h.get b = some x
  | [], _, b, x, hm => by cases hm
  | (b0, x0) :: l, hh, b, x, hm => by
    simp only [hasAll, Bool.and_eq_true] at hh
    rcases List.mem_cons.1 hm with hm | hm
    . cases hm
      have h1 := hh.1
      split at h1 <;> first | (cases h1; done) | skip
      rename_i y hy
      rw [hy, beqAB_eq h1]
    . exact hasAll_ok hh.2 b x hm
theorem putUp_get : ∀ {l : List (Pos × AB)} {h : T AB} {b : Pos} {x : AB}, (putUp l h).get b = some x -> (b, x) ∈ l \/ (h.get b = some x /\ ∀ y ∈ l, y.1 ≠ b)
  | [], h, b, x, hb => .inr ⟨hb, fun y hy => by cases hy⟩
  | (b0, x0) :: l, h, b, x, hb => by
    unfold putUp at hb
    by_cases e : b0 = b
    . subst e
      rw [T.get_put] at hb
      simp only [Option.some.injEq] at hb; subst hb
      exact .inl (List.mem_cons_self ..)
    . rw [T.get_put_ne _ e] at hb
      rcases putUp_get hb with h1 | ⟨h1, h2⟩
      . exact .inl (List.mem_cons_of_mem _ h1)
      . refine .inr ⟨h1, fun y hy => ?_⟩
        rcases List.mem_cons.1 hy with rfl | hy
        . exact e
        . exact h2 y hy
structure Lit where
  args : List AV
  n0 : Pos
  L0 : List (Pos × AB)
  v : AV
  n1 : Pos
  L1 : List (Pos × AB)
def keysIn (l m : List (Pos × AB)) : Bool := l.all fun x => m.any fun y => Pos.beq x.1 y.1
def litS (t : Lit) : List AV -> St -> Option (AV × St) := fun args st =>
  match beqAVs args t.args && Pos.beq st.next t.n0 && hasAll st.heap t.L0 with
  | true => some (t.v, { heap := putUp t.L1 st.heap, next := t.n1 })
  | false => none
noncomputable def litChk (t : Lit) (O : Oracle) (G : T AFunc) (m d f : Nat) : Bool :=
  callK (R := Bool) false O G m d f t.args { heap := putUp t.L0 .e, next := t.n0 } fun v st => beqAV v t.v && Pos.beq st.next t.n1 && hasAll st.heap t.L1
theorem lit_fnOk {P : Program} {C : Cells} {t : Lit} {O : Oracle} {G : T AFunc} {m d f : Nat} (bZ : CallOk P C (callA O G m d)) (wZ : MonoCall (callA O G m d))
    (hk : keysIn t.L0 t.L1 = true) (h : litChk t O G m d f = true) : FnOk P C f (litS t) := by
  unfold litChk at h
  rw [callK_eq false O G m d] at h
  unfold andK at h
  split at h <;> first | (cases h; done) | skip
  rename_i x hx
  obtain ⟨v, aH⟩ := x
  simp only [Bool.and_eq_true] at h
  obtain ⟨⟨h1, h2⟩, h3⟩ := h
  have h1 := beqAV_eq h1
  have h2 := Pos.beq_eq.1 h2
  subst h1
  have unf : ∀ args st v' st', litS t args st = some (v', st') -> args = t.args /\ st.next = t.n0 /\ hasAll st.heap t.L0 = true /\ v' = t.v /\ st' = { heap := putUp t.L1 st.heap, next := t.n1 } := by
    intro args st v' st' hs
    unfold litS at hs
    split at hs <;> first | (cases hs; done) | skip
    rename_i hc
    simp only [Bool.and_eq_true] at hc
    simp only [Option.some.injEq, Prod.mk.injEq] at hs
    exact ⟨beqAVs_eq hc.1.1, Pos.beq_eq.1 hc.1.2, hc.2, hs.1.symm, hs.2.symm⟩
  refine ⟨fun args st v' st' hs => ?_, fun ρ st w args v' st' ay hs hW hv => ?_⟩
  . obtain ⟨rfl, g2, g3, rfl, rfl⟩ := unf _ _ _ _ hs
    have := wZ _ _ _ _ _ hx
    rw [g2, <- h2]; exact this
  . obtain ⟨rfl, g2, g3, rfl, rfl⟩ := unf _ _ _ _ hs
    have fS : ∀ b y, (putUp t.L0 T.e).get b = some y -> st.heap.get b = some y := fun b y hb => by
      rcases putUp_get hb with hb | ⟨hb, _⟩
      . exact hasAll_ok g3 b y hb
      . rw [T.get_e] at hb; cases hb
    have o3 : callA O G m d f t.args { heap := putUp t.L0 .e, next := st.next } = some (t.v, aH) := by rw [g2]; exact hx
    refine Reaches.mono (fun x w' hp => ?_) (bZ ρ _ w f t.args t.v aH ay o3 (hW.sub fS) hv)
    have := hp.frame hW fS (h2 := putUp t.L1 st.heap) fun b y hb => by
      rcases putUp_get hb with hb | ⟨hb, cW⟩
      . exact .inl (hasAll_ok h3 b y hb)
      . refine .inr ⟨hb, ?_⟩
        cases hg : (putUp t.L0 T.e).get b with
        | none => rfl
        | some u =>
          exfalso
          rcases putUp_get hg with hg | ⟨hg, _⟩
          . unfold keysIn at hk
            rw [List.all_eq_true] at hk
            have := hk _ hg
            rw [List.any_eq_true] at this
            obtain ⟨y', yp, he⟩ := this
            exact cW y' yp (Pos.beq_eq.1 he).symm
          . rw [T.get_e] at hg; cases hg
    rw [h2] at this
    exact this
end Go.Ai
end
section
namespace Go.Ai
open Go
def orS (s t : List AV -> St -> Option (AV × St)) : List AV -> St -> Option (AV × St) := fun args st => match s args st with
  | some r => some r
  | none => t args st
theorem orS_ok {P : Program} {C : Cells} {f : FuncId} {s t : List AV -> St -> Option (AV × St)} (hs : FnOk P C f s) (ht : FnOk P C f t) : FnOk P C f (orS s t) where
  mono args st v st' h := by
    unfold orS at h
    split at h
    . rename_i r hr
      simp only [Option.some.injEq] at h; subst h
      exact hs.mono _ _ _ _ hr
    . exact ht.mono _ _ _ _ h
  runs ρ st w args v st' ay h hW hv := by
    unfold orS at h
    split at h
    . rename_i r hr
      simp only [Option.some.injEq] at h; subst h
      exact hs.runs ρ st w args v st' ay hr hW hv
    . exact ht.runs ρ st w args v st' ay h hW hv
end Go.Ai
end
