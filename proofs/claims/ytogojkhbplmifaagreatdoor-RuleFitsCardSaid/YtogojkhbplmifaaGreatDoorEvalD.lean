/- The evaluator's calls answer as the model's calls do, on every tape. -/
import Derived.Test.YtogojkhbplmifaaGreatDoorEvalC
import Derived.Orders
import Derived.Test.YtogojkhbplmifaaGreatDoorEvalA
import Derived.Laws.Externs
import Derived.Lib.Bytealg
import Derived.KernelRfl
set_option linter.all false
set_option linter.unusedSectionVars false
set_option linter.deprecated false
section
namespace Go.Ai
open Go Go.RowKit
theorem wC {a b : AV} (h : iF a b = true) : a = b := by
  unfold iF at h
  split at h <;> (try simp only [Bool.and_eq_true, Bool.false_eq_true] at h) <;> try rfl
  . rw [beq_iff_eq.1 h]
  . rename_i k i k' i'
    have h2 := h.2; rw [lH] at h2
    rw [sA h.1, beq_iff_eq.1 h2]
  . rw [kM.1 h]
  . rw [Pos.beq_eq.1 h.1, Nat.eq_of_beq_eq_true h.2]
  . obtain ⟨⟨⟨h1, h2⟩, h3⟩, h4⟩ := h
    rw [Pos.beq_eq.1 h1, Nat.eq_of_beq_eq_true h2, Nat.eq_of_beq_eq_true h3, Nat.eq_of_beq_eq_true h4]
  . obtain ⟨⟨⟨⟨h1, h2⟩, h3⟩, h4⟩, h5⟩ := h
    rw [Pos.beq_eq.1 h1, Nat.eq_of_beq_eq_true h2, Nat.eq_of_beq_eq_true h3, Nat.eq_of_beq_eq_true h4, Nat.eq_of_beq_eq_true h5]
  . rw [Pos.beq_eq.1 h]
theorem zw : ∀ {a b : List AV}, rU a b = true -> a = b
  | [], [], _ => rfl
  | [], _ :: _, h => by simp [rU] at h
  | _ :: _, [], h => by simp [rU] at h
  | a :: x, b :: y, h => by
    simp only [rU, Bool.and_eq_true] at h
    rw [wC h.1, zw h.2]
theorem Le {f : AV -> AV -> Bool} (hf : ∀ {a b}, f a b = true -> a = b) : ∀ {a b : List AV}, yE f a b = true -> a = b
  | [], [], _ => rfl
  | [], _ :: _, h => by simp [yE] at h
  | _ :: _, [], h => by simp [yE] at h
  | a :: x, b :: y, h => by
    simp only [yE, Bool.and_eq_true] at h
    rw [hf h.1, Le hf h.2]
theorem GJ {f : AV -> AV -> Bool} (hf : ∀ {a b}, f a b = true -> a = b) : ∀ {a b : List (List AV)}, sw f a b = true -> a = b
  | [], [], _ => rfl
  | [], _ :: _, h => by simp [sw] at h
  | _ :: _, [], h => by simp [sw] at h
  | a :: x, b :: y, h => by
    simp only [sw, Bool.and_eq_true] at h
    rw [Le hf h.1, GJ hf h.2]
theorem Lf : ∀ {d : Nat} {a b : AV}, yF d a b = true -> a = b
  | 0, _, _, h => by unfold yF at h; exact wC h
  | d + 1, a, b, h => by
    unfold yF at h
    split at h
    . rename_i heq; cases heq
      simp only [Bool.and_eq_true] at h
      rw [GJ (fun h => Lf h) h.1, Nat.eq_of_beq_eq_true h.2]
    . exact wC h
theorem GK {a b : AV} (h : o3 a b = true) : a = b := by
  unfold o3 at h
  split at h
  . simp only [Bool.and_eq_true] at h
    rw [Nat.eq_of_beq_eq_true h.1.1, zw h.1.2, zw h.2]
  . exact Lf h
  . exact wC h
theorem u0 : ∀ {a b : List AV}, mR a b = true -> a = b
  | [], [], _ => rfl
  | [], _ :: _, h => by simp [mR] at h
  | _ :: _, [], h => by simp [mR] at h
  | a :: x, b :: y, h => by
    simp only [mR, Bool.and_eq_true] at h
    rw [GK h.1, u0 h.2]
theorem uG {a b : AV} (h : gL a b = true) : a = b := by
  unfold gL at h
  split at h
  . rw [u0 h]
  . rw [u0 h]
  . exact GK h
theorem SW {k : aE} {H H' : Pos -> Option AB} {n n' : Pos} {xs : List AV} {v : AV} (h : k.run H n xs = some (.val v)) (hm : ∀ b x, H b = some x -> H' b = some x) :
    k.run H' n' xs = some (.val v) := by
  cases k <;> simp only [aE.run] at h ⊢ <;> try exact h
  case alloc z => unfold AM at h; split at h <;> cases h
  case box => unfold Gm at h; split at h <;> cases h
  case buildSlice es len z p => unfold oI at h; dsimp only at h; split at h <;> cases h
  case mkMap => unfold AP at h; cases h
  case mkSlice es b z =>
    unfold wq at h
    repeat' split at h
    all_goals cases h
  case rangeS =>
    unfold yD at h
    repeat' split at h
    all_goals cases h
  case store m =>
    unfold w8 at h
    repeat' split at h
    all_goals cases h
  case mapSet pk =>
    unfold sr at h
    repeat' split at h
    all_goals cases h
  case load m =>
    unfold qF at h ⊢
    split at h <;> first | (cases h; done) | skip
    split at h <;> first | (cases h; done) | skip
    . split at h <;> first | (cases h; done) | skip
      rename_i cs fz hb
      simp only [hm _ _ hb]
      exact h
    . exact h
  case conv c =>
    unfold uv at h ⊢
    split at h <;> first | (cases h; done) | skip
    split at h <;> first | (cases h; done) | exact h | skip
    rename_i b off m _ _
    cases hb : Nat.beq m 0 with
    | true => simp only [hb] at h ⊢; exact h
    | false =>
      simp only [hb] at h ⊢
      cases hH : H b with
      | none => simp [hH] at h
      | some x => simp only [hH] at h; simp only [hm _ _ hH]; exact h
  case lookup pk z ok =>
    unfold sj at h ⊢
    split at h <;> first | (cases h; done) | skip
    rename_i m k'
    cases m <;> try exact h
    rename_i b
    cases hb : H b with
    | none => simp [hb] at h
    | some x =>
      simp only [hb] at h
      simp only [hm _ _ hb]
      exact h
  case lenB lk =>
    unfold zR at h ⊢
    split at h <;> first | (cases h; done) | skip
    split at h <;> first | (cases h; done) | exact h | skip
    split at h <;> first | (cases h; done) | skip
    rename_i es c hb
    simp only [hm _ _ hb]
    exact h
  case nextS =>
    unfold AQ at h ⊢
    split at h <;> first | (cases h; done) | skip
    split at h <;> first | (cases h; done) | skip
    split at h <;> first | (cases h; done) | skip
    rename_i s pos hb
    simp only [hm _ _ hb]
    split at h
    . rename_i bD
      split at h <;> cases h
    . rename_i bD
      exact h
  case clearS es z =>
    unfold su at h ⊢
    split at h <;> first | (cases h; done) | skip
    split at h <;> first | (cases h; done) | exact h | skip
    rename_i b off m _ _
    cases hb : Nat.beq m 0 with
    | true => simp only [hb] at h ⊢; exact h
    | false =>
      simp only [hb] at h
      repeat' split at h
      all_goals cases h
  case copyB es =>
    unfold uw at h ⊢
    split at h <;> first | (cases h; done) | skip
    rename_i d x
    cases hd : eH d with
    | none => simp [hd] at h
    | some m1 =>
      cases hx : eH x with
      | none => simp [hd, hx] at h
      | some m2 =>
        simp only [hd, hx] at h ⊢
        cases hb : Nat.beq (min m2 m1) 0 with
        | true => simp only [hb] at h ⊢; exact h
        | false =>
          simp only [hb] at h
          split at h <;> first | (cases h; done) | skip
          split at h <;> first | (cases h; done) | skip
          split at h <;> cases h
  case append es bytes =>
    unfold ld at h ⊢
    split at h <;> first | (cases h; done) | skip
    rename_i s x
    cases hd : eH s with
    | none => simp [hd] at h
    | some m1 =>
      cases hx : eH x with
      | none => simp [hd, hx] at h
      | some m2 =>
        simp only [hd, hx] at h ⊢
        cases h1 : Nat.ble ((2 * (m1 + m2) + 768) * bytes) 281474976710656 with
        | false => simp [h1] at h
        | true =>
          cases h2 : Nat.ble (m1 + m2) 9223372036854775807 with
          | false => simp [h1, h2] at h
          | true =>
            simp only [h1, h2] at h ⊢
            cases hb : Nat.beq m2 0 with
            | true =>
              simp only [hb] at h ⊢
              split at h <;> first | (cases h; done) | exact h | skip
              all_goals (simp_all; done)
            | false =>
              simp only [hb] at h
              repeat' split at h
              all_goals first
                | (rename_i e; cases e; done)
                | (rename_i e _; cases e; done)
                | (cases h; done)
                | simp_all
inductive xz (n : Pos) : AV -> AB -> Prop where
  | ptr (cs : List AV) : xz n (.ptr n 0) (.cells cs 0)
  | j8 (s : List Nat) : xz n (.ptr n 0) (.j8 s 0)
  | slice (len es : Nat) (cap : Option Nat) (cs : List AV) (h : len = 0 -> cap = none \/ cap = some 0 -> cs = []) : xz n (.slice n 0 len cap es) (.cells cs 0)
  | map : xz n (.map n) (.map [] 0)
theorem Jg : ∀ {ps : List (Nat × Nat)} {xs cs : List AV}, cL [] ps xs = some cs -> cs = []
  | [], [], cs, h => by simp [cL] at h; exact h.symm ▸ rfl
  | [], _ :: _, cs, h => by simp [cL] at h
  | _ :: _, [], cs, h => by simp [cL] at h
  | (off, size) :: ps, v :: vs, cs, h => by
    unfold cL at h
    split at h <;> first | (cases h; done) | skip
    rename_i h1 h2
    have h1 := Nat.eq_of_beq_eq_true h1
    have h2 := Nat.le_of_ble_eq_true h2
    have h3 : v.cells = [] := by
      apply List.eq_nil_of_length_eq_zero
      simp at h2; omega
    rw [h3] at h
    have h4 : bg ([] : List AV) off [] = [] := by simp [bg]
    rw [h4] at h
    exact Jg h
theorem V6 {k : aE} {n : Pos} {xs : List AV} {v : AV} {aF : AB} (h : k.run (fun _ => none) n xs = some (.aN v none none (some aF))) : xz n v aF := by
  cases k <;> simp only [aE.run] at h
  case alloc z => unfold AM at h; split at h <;> cases h; exact .ptr _
  case box => unfold Gm at h; split at h <;> cases h; exact .ptr _
  case buildSlice es len z p =>
    unfold oI at h
    dsimp only at h
    split at h <;> cases h
    rename_i cs hc
    refine .slice _ _ _ _ fun h0 _ => ?_
    subst h0
    exact Jg hc
  case mkMap => unfold AP at h; cases h; exact .map
  case mkSlice es b z =>
    unfold wq at h
    repeat' split at h
    all_goals cases h
    refine .slice _ _ _ _ fun _ h1 => ?_
    rcases h1 with h1 | h1
    . cases h1
    . simp only [Option.some.injEq] at h1; subst h1; rfl
  case rangeS =>
    unfold yD at h
    repeat' split at h
    all_goals cases h
    exact .j8 _
  case conv c =>
    unfold uv at h
    repeat' split at h
    all_goals cases h
    rename_i s
    refine .slice _ _ _ _ fun h0 _ => ?_
    rw [List.eq_nil_of_length_eq_zero h0]; rfl
  case append es bytes =>
    unfold ld at h
    repeat' split at h
    all_goals cases h
    all_goals refine .slice _ _ _ _ fun h0 _ => ?_
    all_goals (exfalso; rename_i hb _ _; simp_all)
  case move => unfold Eb at h; split at h <;> cases h
  case pick => unfold Ii at h; repeat' split at h
               all_goals cases h
  case build => unfold AN at h; dsimp only at h; split at h <;> cases h
  case load => unfold qF at h; repeat' split at h
               all_goals cases h
  case store => unfold w8 at h; repeat' split at h
                all_goals cases h
  case nilCheck => unfold zn at h; repeat' split at h
                   all_goals cases h
  case bin => unfold jA at h; repeat' split at h
              all_goals cases h
  case un => unfold OZ at h; repeat' split at h
             all_goals cases h
  case mkIface => unfold AO at h; repeat' split at h
                  all_goals cases h
  case mkFunc => unfold yC at h; dsimp only at h; cases h
  case lookup =>
    unfold sj at h
    split at h <;> first | (cases h; done) | skip
    dsimp only at h
    split at h <;> cases h
  case mapSet => unfold sr at h; repeat' split at h
                 all_goals cases h
  case sliceS =>
    unfold CT at h
    split at h <;> first | (cases h; done) | skip
    split at h <;> first | (cases h; done) | skip
    dsimp only at h
    split at h <;> cases h
  case sliceL => unfold nT at h; repeat' split at h
                 all_goals cases h
  case fieldA => unfold CU at h; repeat' split at h
                 all_goals cases h
  case idxA => unfold qG at h; repeat' split at h
               all_goals cases h
  case field => unfold Fe at h; repeat' split at h
                all_goals cases h
  case idxS => unfold Ec at h; repeat' split at h
               all_goals cases h
  case extract => unfold wu at h; repeat' split at h
                  all_goals cases h
  case callF => unfold Ff at h; dsimp only at h; cases h
  case callV => unfold Fg at h; repeat' split at h
                all_goals cases h
  case lenB => unfold zR at h; repeat' split at h
               all_goals cases h
  case copyB =>
    unfold uw at h
    split at h <;> first | (cases h; done) | skip
    split at h <;> first | (cases h; done) | skip
    dsimp only at h
    repeat' split at h
    all_goals cases h
  case minB => unfold wP at h; repeat' split at h
               all_goals cases h
  case maxB => unfold wQ at h; repeat' split at h
               all_goals cases h
  case clearS => unfold su at h; repeat' split at h
                 all_goals cases h
  case nextS => unfold AQ at h; repeat' split at h
                all_goals cases h
  case capB => cases h
  case bad => cases h
end Go.Ai
end
section
namespace Go.Ai
def ku (call : ai) : Prop := ∀ f args st v st', call f args st = some (v, st') -> st.next.toNat <= st'.next.toNat
section
variable {call : ai}
theorem Bd (hm : ku call) {k : aE} {xs : List AV} {st st' : St} {v : AV} (h : cP call k xs st = some (v, st')) : st.next.toNat <= st'.next.toNat := by
  unfold cP at h
  split at h
  . simp only [Option.some.injEq, Prod.mk.injEq] at h; rw [h.2]; exact Nat.le_refl _
  . simp only [Option.some.injEq, Prod.mk.injEq] at h; rw [<- h.2]; exact St.A8 _ _ _ _
  . exact hm _ _ _ _ _ h
  . cases h
theorem Da (hm : ku call) : ∀ (os : List bI) (fr aX : Fr) (st st' : St), jy call os fr st = some (aX, st') -> st.next.toNat <= st'.next.toNat
  | [], fr, aX, st, st', h => by simp only [jy, Option.some.injEq, Prod.mk.injEq] at h; rw [h.2]; exact Nat.le_refl _
  | o :: os, fr, aX, st, st', h => by
    unfold jy at h
    split at h
    . split at h <;> first | (cases h; done) | skip
      split at h <;> first | (cases h; done) | skip
      rename_i hs
      exact Nat.le_trans (Bd hm hs) (Da hm os _ _ _ _ h)
    . exact Da hm os _ _ _ _ h
    . cases h
theorem qI (hm : ku call) : ∀ (os : List (Nat × bI)) (recs : List Rec) (base : T AB) (fr aX : Fr) (st st' : St), dc call os recs base fr st = some (aX, st') -> st.next.toNat <= st'.next.toNat
  | [], recs, base, fr, aX, st, st', h => by simp only [dc, Option.some.injEq, Prod.mk.injEq] at h; rw [h.2]; exact Nat.le_refl _
  | (j, o) :: os, recs, base, fr, aX, st, st', h => by
    have hs : st.next.toNat <= st.next.succ.toNat := by rw [Pos.aL]; omega
    unfold dc at h
    split at h
    . exact qI hm os _ _ _ _ _ _ h
    . split at h <;> first | (cases h; done) | skip
      split at h
      . split at h <;> first | (cases h; done) | skip
        exact Nat.le_trans hs (qI hm os _ _ _ _ _ _ h)
      . split at h <;> first | (cases h; done) | skip
        rename_i hs
        exact Nat.le_trans (Bd hm hs) (qI hm os _ _ _ _ _ _ h)
      . split at h
        . exact qI hm os _ _ _ _ _ _ h
        . split at h <;> first | (cases h; done) | skip
          split at h <;> first | (cases h; done) | skip
          exact qI hm os _ _ _ _ _ _ h
    . cases h
theorem yP (hm : ku call) : ∀ (m : Nat) (c : AC) (fr aX : Fr) (st st' : St) (ex : mD), exec call m c fr st = some (ex, aX, st') -> st.next.toNat <= st'.next.toNat
  | 0, c, fr, aX, st, st', ex, h => by simp [exec] at h
  | m + 1, c, fr, aX, st, st', ex, h => by
    have ih := yP hm m
    simp only [exec] at h
    unfold aQ at h
    split at h
    . simp only [Option.some.injEq, Prod.mk.injEq] at h; rw [h.2.2]; exact Nat.le_refl _
    . split at h <;> first | (cases h; done) | skip
      rename_i hs
      simp only [Option.some.injEq, Prod.mk.injEq] at h
      rw [<- h.2.2]; exact Da hm _ _ _ _ _ hs
    . split at h <;> first | (cases h; done) | skip
      rename_i hs
      simp only [Option.some.injEq, Prod.mk.injEq] at h
      rw [<- h.2.2]; exact qI hm _ _ _ _ _ _ _ hs
    . split at h
      . rename_i hs
        exact Nat.le_trans (ih _ _ _ _ _ _ hs) (ih _ _ _ _ _ _ h)
      . exact ih _ _ _ _ _ _ h
    . split at h <;> first | (cases h; done) | exact ih _ _ _ _ _ _ h
    . split at h
      . rename_i hs
        split at h <;> (simp only [Option.some.injEq, Prod.mk.injEq] at h; rw [<- h.2.2]; exact ih _ _ _ _ _ _ hs)
      . exact ih _ _ _ _ _ _ h
    . split at h
      . rename_i hs
        exact Nat.le_trans (ih _ _ _ _ _ _ hs) (ih _ _ _ _ _ _ h)
      . exact ih _ _ _ _ _ _ h
    . simp only [Option.some.injEq, Prod.mk.injEq] at h; rw [h.2.2]; exact Nat.le_refl _
    . simp only [Option.some.injEq, Prod.mk.injEq] at h; rw [h.2.2]; exact Nat.le_refl _
def kO (O : fy) : Prop := ∀ f s, O f = some s -> ∀ args st v st', s args st = some (v, st') -> st.next.toNat <= st'.next.toNat
theorem wD {O : fy} {G : T aK} (hO : kO O) (m : Nat) : ∀ d, ku (mE O G m d)
  | 0 => fun f args st v st' h => by simp [mE] at h
  | d + 1 => fun f args st v st' h => by
    have ih := wD (G := G) hO m d
    unfold mE at h
    split at h
    . rename_i s hs; exact hO f s hs args st v st' h
    . split at h <;> first | (cases h; done) | skip
      split at h <;> first | (cases h; done) | skip
      split at h <;> first | (cases h; done) | skip
      . rename_i hs
        split at h <;> first | (cases h; done) | skip
        simp only [Option.some.injEq, Prod.mk.injEq] at h
        rw [<- h.2]; exact yP ih _ _ _ _ _ _ _ hs
      . rename_i hs
        split at h <;> first | (cases h; done) | skip
        simp only [Option.some.injEq, Prod.mk.injEq] at h
        rw [<- h.2]; exact yP ih _ _ _ _ _ _ _ hs
end
end Go.Ai
end
section
namespace Go.Ai
def lM (cg : Fr) : List Rec -> Fr
  | [] => cg
  | r :: R => dh (lM cg R) r.o.dst r.v
def dn (n0 : Pos) : List Rec -> Pos
  | [] => n0
  | r :: _ => r.nx
def RC.kP : RC -> Bool
  | .aN _ _ => true
  | _ => false
def iI (h0 : T AB) : List Rec -> T AB
  | [] => h0
  | r :: R => match r.c with
    | .aN _ h => h
    | _ => iI h0 R
def iJ (h0 : T AB) : List Rec -> T AB
  | [] => h0
  | r :: R => match r.c with
    | .aN _ h => h
    | .new id aF => (iJ h0 R).put (some aF) id
    | .pure => iJ h0 R
def yQ : List Rec -> Prop
  | [] => True
  | r :: _ => r.c.kP = true
def Lg (h0 : T AB) (R : List Rec) (o : bI) (xs : List AV) (v : AV) : Prop :=
  ∀ A B, R = A ++ B -> yQ B -> (∀ r ∈ A, r.c.kP = true -> o.bL.testBit r.idx = false) ->
    ∃ h : T AB, (∀ b x, h.get b = some x -> (iI h0 B).get b = some x \/ ∃ r ∈ A, r.c = .new b x /\ o.bL.testBit r.idx = true) /\ o.k.run (fun b => h.get b) .h xs = some (.val v)
inductive nB (call : ai) (cg : Fr) (h0 : T AB) (n0 : Pos) : Rec -> List Rec -> Prop where
  | skip (i : Nat) (o : bI) (R : List Rec) (hw : bQ (lM cg R) o.guard = some false) :
      nB call cg h0 n0 { idx := i, o := o, v := .undef, c := .pure, nx := dn n0 R } R
  | pure (i : Nat) (o : bI) (v : AV) (xs : List AV) (R : List Rec) (hw : bQ (lM cg R) o.guard = some true) (hx : eC (lM cg R) o.xs = some xs) (hr : Lg h0 R o xs v) :
      nB call cg h0 n0 { idx := i, o := o, v := v, c := .pure, nx := dn n0 R } R
  | new (i : Nat) (o : bI) (v : AV) (aF : AB) (xs : List AV) (R : List Rec) (hw : bQ (lM cg R) o.guard = some true) (hx : eC (lM cg R) o.xs = some xs)
      (hr : o.k.run (fun _ => none) (dn n0 R) xs = some (.aN v none none (some aF))) :
      nB call cg h0 n0 { idx := i, o := o, v := v, c := .new (dn n0 R) aF, nx := (dn n0 R).succ } R
  | aN (i : Nat) (o : bI) (v : AV) (st' : St) (xs : List AV) (R : List Rec) (hc : o.cls = .aN) (hw : bQ (lM cg R) o.guard = some true) (hx : eC (lM cg R) o.xs = some xs)
      (hr : cP call o.k xs { heap := iJ h0 R, next := dn n0 R } = some (v, st')) :
      nB call cg h0 n0 { idx := i, o := o, v := v, c := .aN (iI h0 R) st'.heap, nx := st'.next } R
def Good (call : ai) (cg : Fr) (h0 : T AB) (n0 : Pos) : List Rec -> Prop
  | [] => True
  | r :: R => nB call cg h0 n0 r R /\ Good call cg h0 n0 R
section
variable {call : ai} {cg : Fr} {h0 : T AB} {n0 : Pos}
theorem Good.tail : ∀ {A B : List Rec}, Good call cg h0 n0 (A ++ B) -> Good call cg h0 n0 B
  | [], _, h => h
  | _ :: _, _, h => Good.tail h.2
theorem Good.at {A B : List Rec} {r : Rec} (h : Good call cg h0 n0 (A ++ r :: B)) : nB call cg h0 n0 r B := (Good.tail h).1
theorem Be : ∀ {A B : List Rec}, (∀ r ∈ A, r.c.kP = false) -> iI h0 (A ++ B) = iI h0 B
  | [], _, _ => rfl
  | r :: A, B, h => by
    have h1 := h r (List.mem_cons_self ..)
    have ih := Be (A := A) (B := B) fun r hr => h r (List.mem_cons_of_mem _ hr)
    simp only [List.cons_append, iI]
    split
    . rename_i hc; rw [hc] at h1; cases h1
    . exact ih
theorem Fp {bL : Nat} : ∀ {A B : List Rec} {h : T AB} {b : Pos} {x : AB}, (∀ r ∈ A, r.c.kP = false) -> yQ B -> (snap bL h (A ++ B)).get b = some x ->
    h.get b = some x \/ ∃ r ∈ A, r.c = .new b x /\ bL.testBit r.idx = true
  | [], B, h, b, x, _, hB, hs => by
    cases B with
    | nil => exact .inl hs
    | cons r B =>
      simp only [yQ] at hB
      simp only [List.nil_append, snap] at hs
      cases hc : r.c <;> rw [hc] at hB <;> first | (cases hB; done) | skip
      rw [hc] at hs
      exact .inl hs
  | r :: A, B, h, b, x, hA, hB, hs => by
    have ih := @Fp bL A B h b x (fun r hr => hA r (List.mem_cons_of_mem _ hr)) hB
    have up : (h.get b = some x \/ ∃ r ∈ A, r.c = .new b x /\ bL.testBit r.idx = true) -> h.get b = some x \/ ∃ r' ∈ r :: A, r'.c = .new b x /\ bL.testBit r'.idx = true := fun h1 =>
      h1.imp id fun ⟨r', h2, h3⟩ => ⟨r', List.mem_cons_of_mem _ h2, h3⟩
    simp only [List.cons_append, snap] at hs
    cases hc : r.c with
    | pure => rw [hc] at hs; exact up (ih hs)
    | aN b1 h1 => have := hA r (List.mem_cons_self ..); rw [hc] at this; cases this
    | new id aF =>
      rw [hc] at hs
      cases ht : bL.testBit r.idx with
      | false => simp only [ht] at hs; exact up (ih hs)
      | true =>
        simp only [ht] at hs
        by_cases hid : id = b
        . subst hid
          rw [T.fQ] at hs
          simp only [Option.some.injEq] at hs; subst hs
          exact .inr ⟨r, List.mem_cons_self .., hc, ht⟩
        . rw [T.bT _ hid] at hs
          exact up (ih hs)
theorem Jh : ∀ {up : List (Pos × AB)} {h : T AB} {b : Pos} {x : AB}, (fN up h).get b = some x -> h.get b = some x \/ (b, x) ∈ up
  | [], _, _, _, h => .inl h
  | (id, aF) :: up, h, b, x, hs => by
    unfold fN at hs
    by_cases hid : id = b
    . subst hid
      rw [T.fQ] at hs
      simp only [Option.some.injEq] at hs; subst hs
      exact .inr (List.mem_cons_self ..)
    . rw [T.bT _ hid] at hs
      exact (Jh hs).imp (fun h => h) fun h => List.mem_cons_of_mem _ h
theorem Bf : ∀ (A : List Rec), (∀ r ∈ A, r.c.kP = false) \/ ∃ r ∈ A, r.c.kP = true
  | [] => .inl fun r h => by cases h
  | r :: A => by
    cases hr : r.c.kP with
    | true => exact .inr ⟨r, List.mem_cons_self .., hr⟩
    | false =>
      rcases Bf A with h | ⟨r', h1, h2⟩
      . exact .inl fun r' jX => by
          rcases List.mem_cons.1 jX with rfl | h'
          . exact hr
          . exact h r' h'
      . exact .inr ⟨r', List.mem_cons_of_mem _ h1, h2⟩
theorem Cr {bL : Nat} {k : aE} {xs : List AV} {v : AV} : ∀ (A B : List Rec) (up : List (Pos × AB)), jG bL k xs v up (A ++ B) = true -> Good call cg h0 n0 (A ++ B) -> yQ B ->
    (∀ r ∈ A, r.c.kP = true -> bL.testBit r.idx = false) -> (∃ r ∈ A, r.c.kP = true) ->
    ∃ h : T AB, (∀ b x, h.get b = some x -> (iI h0 B).get b = some x \/ (∃ r ∈ A, r.c = .new b x /\ bL.testBit r.idx = true) \/ (b, x) ∈ up) /\ k.run (fun b => h.get b) .h xs = some (.val v)
  | [], B, up, _, _, _, _, he => by obtain ⟨r, hr, _⟩ := he; cases hr
  | r :: A, B, up, yR, hG, hB, hn, he => by
    have Ji : ∀ r ∈ A, r.c.kP = true -> bL.testBit r.idx = false := fun r' jX => hn r' (List.mem_cons_of_mem _ jX)
    have ih := fun up (h2 : jG bL k xs v up (A ++ B) = true) h3 => Cr A B up h2 hG.2 hB Ji h3
    simp only [List.cons_append, jG] at yR
    cases hc : r.c with
    | pure =>
      rw [hc] at yR
      have oJ : ∃ r ∈ A, r.c.kP = true := by
        obtain ⟨r', h1, h2⟩ := he
        rcases List.mem_cons.1 h1 with rfl | h1
        . rw [hc] at h2; cases h2
        . exact ⟨r', h1, h2⟩
      obtain ⟨h, h1, h2⟩ := ih up yR oJ
      exact ⟨h, fun b x hb => (h1 b x hb).imp (fun h => h) (Or.imp (fun ⟨r', h3, h4⟩ => ⟨r', List.mem_cons_of_mem _ h3, h4⟩) fun h => h), h2⟩
    | new id aF =>
      rw [hc] at yR
      have oJ : ∃ r ∈ A, r.c.kP = true := by
        obtain ⟨r', h1, h2⟩ := he
        rcases List.mem_cons.1 h1 with rfl | h1
        . rw [hc] at h2; cases h2
        . exact ⟨r', h1, h2⟩
      cases ht : bL.testBit r.idx with
      | false =>
        simp only [ht] at yR
        obtain ⟨h, h1, h2⟩ := ih up yR oJ
        exact ⟨h, fun b x hb => (h1 b x hb).imp (fun h => h) (Or.imp (fun ⟨r', h3, h4⟩ => ⟨r', List.mem_cons_of_mem _ h3, h4⟩) fun h => h), h2⟩
      | true =>
        simp only [ht] at yR
        obtain ⟨h, h1, h2⟩ := ih _ yR oJ
        refine ⟨h, fun b x hb => ?_, h2⟩
        rcases h1 b x hb with h3 | ⟨r', h3, h4⟩ | h3
        . exact .inl h3
        . exact .inr (.inl ⟨r', List.mem_cons_of_mem _ h3, h4⟩)
        . rcases List.mem_cons.1 h3 with h3 | h3
          . simp only [Prod.mk.injEq] at h3
            obtain ⟨rfl, rfl⟩ := h3
            exact .inr (.inl ⟨r, List.mem_cons_self .., hc, ht⟩)
          . exact .inr (.inr h3)
    | aN base h =>
      rw [hc] at yR
      have ht := hn r (List.mem_cons_self ..) (by rw [hc]; rfl)
      simp only [ht, Bool.and_eq_true] at yR
      rcases Bf A with hA | hA
      . have KB : base = iI h0 B := by
          have hs := hG.1
          cases hs <;> simp only at hc <;> first | (cases hc; done) | skip
          simp only [RC.aN.injEq] at hc
          rw [<- hc.1]; exact Be hA
        have Vn := yR.1
        unfold fP at Vn
        split at Vn <;> first | (cases Vn; done) | skip
        rename_i u hu
        rw [uG Vn] at hu
        refine ⟨_, fun b x hb => ?_, hu⟩
        rcases Jh hb with hb | hb
        . rcases Fp hA hB hb with h3 | ⟨r', h3, h4⟩
          . rw [<- KB]; exact .inl h3
          . exact .inr (.inl ⟨r', List.mem_cons_of_mem _ h3, h4⟩)
        . exact .inr (.inr hb)
      . obtain ⟨h, h1, h2⟩ := ih up yR.2 hA
        exact ⟨h, fun b x hb => (h1 b x hb).imp (fun h => h) (Or.imp (fun ⟨r', h3, h4⟩ => ⟨r', List.mem_cons_of_mem _ h3, h4⟩) fun h => h), h2⟩
theorem GL : ∀ (L : List (Nat × bI)) (R : List Rec) (fr aX : Fr) (st st' : St), dc call L R (iI h0 R) fr st = some (aX, st') -> Good call cg h0 n0 R ->
    fr = lM cg R -> st.heap = iJ h0 R -> st.next = dn n0 R ->
    ∃ R', Good call cg h0 n0 (R' ++ R) /\ (R'.map fun r => (r.idx, r.o)) = L.reverse /\ aX = lM cg (R' ++ R) /\ st'.heap = iJ h0 (R' ++ R) /\ st'.next = dn n0 (R' ++ R)
  | [], R, fr, aX, st, st', h, hG, h1, h2, h3 => by
    simp only [dc, Option.some.injEq, Prod.mk.injEq] at h
    obtain ⟨rfl, rfl⟩ := h
    exact ⟨[], hG, rfl, h1, h2, h3⟩
  | (j, o) :: L, R, fr, aX, st, st', h, hG, h1, h2, h3 => by
    have fin : ∀ (r : Rec) (ct : St) (fG : Fr), r.idx = j -> r.o = o -> nB call cg h0 n0 r R -> fG = lM cg (r :: R) -> ct.heap = iJ h0 (r :: R) -> ct.next = r.nx ->
        dc call L (r :: R) (iI h0 (r :: R)) fG ct = some (aX, st') ->
        ∃ R', Good call cg h0 n0 (R' ++ R) /\ (R'.map fun r => (r.idx, r.o)) = ((j, o) :: L).reverse /\ aX = lM cg (R' ++ R) /\ st'.heap = iJ h0 (R' ++ R) /\ st'.next = dn n0 (R' ++ R) := by
      intro r ct fG hj ho hs k1 k2 k3 hd
      obtain ⟨R', g1, g2, g3, g4, g5⟩ := GL L (r :: R) fG aX ct st' hd ⟨hs, hG⟩ k1 k2 k3
      have e : R' ++ r :: R = (R' ++ [r]) ++ R := by simp
      rw [e] at g1 g3 g4 g5
      exact ⟨R' ++ [r], g1, by simp [g2, hj, ho], g3, g4, g5⟩
    unfold dc at h
    subst h1
    split at h
    . rename_i hw
      exact fin _ _ _ rfl rfl (h3 ▸ nB.skip j o R hw) rfl h2 rfl h
    . rename_i hw
      split at h <;> first | (cases h; done) | skip
      rename_i xs hx
      split at h
      . split at h <;> first | (cases h; done) | skip
        rename_i v aF hr
        rw [h3] at hr
        have hs := nB.new (call := call) (cg := cg) (h0 := h0) (n0 := n0) j o v aF xs R hw hx hr
        rw [<- h3] at hs
        refine fin _ _ _ rfl rfl hs rfl ?_ rfl h
        simp only [iJ, h2]
      . rename_i SX
        split at h <;> first | (cases h; done) | skip
        rename_i v ct hr
        have vz : st = { heap := iJ h0 R, next := dn n0 R } := by cases st; simp_all
        rw [vz] at hr
        exact fin _ ct _ rfl rfl (nB.aN j o v ct xs R SX hw hx hr) rfl rfl rfl h
      . split at h
        . rename_i v hr
          have Db : Lg h0 R o xs v := by
            intro A B _ _ _
            refine ⟨.e, fun b x hb => ?_, ?_⟩
            . rw [T.fO] at hb; cases hb
            . have e : (fun b => T.get b (T.e : T AB)) = fun _ => none := by funext b; exact T.fO b
              rw [e]; exact hr
          exact fin _ _ _ rfl rfl (h3 ▸ nB.pure j o v xs R hw hx Db) rfl h2 rfl h
        . split at h <;> first | (cases h; done) | skip
          rename_i v hr
          split at h <;> first | (cases h; done) | skip
          rename_i yR
          have Db : Lg h0 R o xs v := by
            intro A B hAB hB hn
            subst hAB
            rcases Bf A with hA | hA
            . refine ⟨_, fun b x hb => ?_, hr⟩
              have := Fp hA hB hb
              rw [Be hA] at this
              exact this
            . obtain ⟨h, k1, k2⟩ := Cr A B [] yR hG hB hn hA
              exact ⟨h, fun b x hb => (k1 b x hb).imp id fun h => h.resolve_right (by simp), k2⟩
          exact fin _ _ _ rfl rfl (h3 ▸ nB.pure j o v xs R hw hx Db) rfl h2 rfl h
    . cases h
end
end Go.Ai
end
section
namespace Go.Ai
open Go
structure Late (m : Nat) (pre : List Nat) (L : List (Nat × bI)) : Prop where
  all : ∀ i, i < m -> i ∈ pre \/ i ∈ L.map (·.1)
  lt : ∀ x ∈ L, x.1 < m
  one : ∀ A i o B, L = A ++ (i, o) :: B -> i ∉ pre /\ i ∉ A.map (·.1)
  bL : ∀ A i o B, L = A ++ (i, o) :: B -> ∀ b, o.bL.testBit b = true -> b ∈ pre \/ b ∈ A.map (·.1)
  aN : ∀ A i o B, L = A ++ (i, o) :: B -> o.cls = .aN -> ∀ b, (b ∈ pre \/ b ∈ A.map (·.1)) -> o.bL.testBit b = true
  apart : ∀ A i o B, L = A ++ (i, o) :: B -> ∀ x ∈ B, x.2.bL.testBit i = true \/ CV o x.2 = true
theorem ET {m : Nat} : ∀ (L : List (Nat × bI)) (seen : Nat) (pre : List Nat), zU m seen L = true -> (∀ b, seen.testBit b = true ↔ b ∈ pre) -> Late m pre L
  | [], seen, pre, h, hs => by
    simp only [zU] at h
    have := Nat.eq_of_beq_eq_true h
    refine ⟨fun i hi => .inl ((hs i).1 ?_), fun x hx => (by cases hx), fun A i o B h => ?_, fun A i o B h => ?_, fun A i o B h => ?_, fun A i o B h => ?_⟩
    . rw [this, Nat.testBit_two_pow_sub_one]; simpa using hi
    all_goals (cases A <;> cases h)
  | (i, o) :: L, seen, pre, h, hs => by
    simp only [zU, Bool.and_eq_true] at h
    obtain ⟨⟨⟨⟨⟨h1, h2⟩, h3⟩, h4⟩, h5⟩, h6⟩ := h
    have h1 : i < m := Nat.le_of_ble_eq_true h1
    have h2 : i ∉ pre := fun hp => by rw [(hs i).2 hp] at h2; cases h2
    have h3 := Nat.eq_of_beq_eq_true h3
    have hb : ∀ b, o.bL.testBit b = true -> b ∈ pre := fun b hb => by
      rw [<- h3, Nat.testBit_and, Bool.and_eq_true] at hb
      exact (hs b).1 hb.2
    have he : o.cls = .aN -> ∀ b, b ∈ pre -> o.bL.testBit b = true := fun hc b hp => by
      rw [hc] at h4
      rw [Nat.eq_of_beq_eq_true h4]; exact (hs b).2 hp
    have ih := ET L (seen ||| 2 ^ i) (pre ++ [i]) h6 (fun b => by
      rw [Nat.testBit_or, Nat.testBit_two_pow, Bool.or_eq_true, hs b, List.mem_append]
      simp [eq_comm])
    rw [List.all_eq_true] at h5
    have KC : ∀ {A : List (Nat × bI)} {j : Nat} {p : bI} {B : List (Nat × bI)}, (i, o) :: L = A ++ (j, p) :: B -> (A = [] /\ i = j /\ o = p /\ L = B) \/ ∃ A', A = (i, o) :: A' /\ L = A' ++ (j, p) :: B := by
      intro A j p B hA
      cases A with
      | nil => simp at hA; exact .inl ⟨rfl, hA.1.1, hA.1.2, hA.2⟩
      | cons x A => simp at hA; exact .inr ⟨A, by rw [hA.1], hA.2⟩
    refine ⟨fun j hj => ?_, fun x hx => ?_, fun A j p B hA => ?_, fun A j p B hA => ?_, fun A j p B hA => ?_, fun A j p B hA => ?_⟩
    . rcases ih.all j hj with h | h
      . rcases List.mem_append.1 h with h | h
        . exact .inl h
        . simp at h; exact .inr (by simp [h])
      . exact .inr (by simp only [List.map_cons, List.mem_cons]; exact .inr h)
    . rcases List.mem_cons.1 hx with rfl | hx
      . exact h1
      . exact ih.lt x hx
    . rcases KC hA with ⟨rfl, rfl, rfl, rfl⟩ | ⟨A', rfl, Cs⟩
      . exact ⟨h2, by simp⟩
      . obtain ⟨k1, k2⟩ := ih.one A' j p B Cs
        simp only [List.mem_append, List.mem_singleton, not_or] at k1
        exact ⟨k1.1, by simp only [List.map_cons, List.mem_cons, not_or]; exact ⟨k1.2, k2⟩⟩
    . rcases KC hA with ⟨rfl, rfl, rfl, rfl⟩ | ⟨A', rfl, Cs⟩
      . exact fun b l9 => .inl (hb b l9)
      . intro b l9
        rcases ih.bL A' j p B Cs b l9 with h | h
        . rcases List.mem_append.1 h with h | h
          . exact .inl h
          . simp at h; exact .inr (by simp [h])
        . exact .inr (by simp only [List.map_cons, List.mem_cons]; exact .inr h)
    . rcases KC hA with ⟨rfl, rfl, rfl, rfl⟩ | ⟨A', rfl, Cs⟩
      . intro hc b l9
        rcases l9 with h | h
        . exact he hc b h
        . simp at h
      . intro hc b l9
        refine ih.aN A' j p B Cs hc b ?_
        rcases l9 with h | h
        . exact .inl (List.mem_append.2 (.inl h))
        . simp only [List.map_cons, List.mem_cons] at h
          rcases h with rfl | h
          . exact .inl (by simp)
          . exact .inr h
    . rcases KC hA with ⟨rfl, rfl, rfl, rfl⟩ | ⟨A', rfl, Cs⟩
      . intro x hx
        have := h5 x hx
        rwa [Bool.or_eq_true] at this
      . exact ih.apart A' j p B Cs
inductive Reach (ops : Array Oper) : Nat -> Nat -> Prop where
  | edge (i : Nat) (o : Oper) (e : Edge) (ho : ops[i]? = some o) (he : e ∈ o.after) (hb : Region.binds .any e = true) : Reach ops i e.on
  | trans (i : Nat) (o : Oper) (e : Edge) (b : Nat) (ho : ops[i]? = some o) (he : e ∈ o.after) (hb : Region.binds .any e = true) (h : Reach ops e.on b) : Reach ops i b
def Pp (ops : Array Oper) (i m : Nat) : Prop :=
  (∀ o, ops[i]? = some o -> ∀ e ∈ o.after, Region.binds .any e = true -> m.testBit e.on = true) /\ ∀ b, m.testBit b = true -> Reach ops i b
theorem Ir (acc : List Nat) : ∀ (l : List Edge) (s b : Nat), (l.foldl (fun s e => match Region.binds .any e with
      | true => s ||| 2 ^ e.on ||| (nth acc e.on).getD 0
      | false => s) s).testBit b = true ↔ s.testBit b = true \/ ∃ e ∈ l, Region.binds .any e = true /\ (e.on = b \/ ((nth acc e.on).getD 0).testBit b = true)
  | [], s, b => by simp
  | e :: l, s, b => by
    rw [List.foldl_cons, Ir acc l]
    cases he : Region.binds .any e with
    | false => simp [he]
    | true =>
      simp only [Nat.testBit_or, Bool.or_eq_true, Nat.testBit_two_pow, decide_eq_true_eq, List.mem_cons, exists_eq_or_imp, he, true_and]
      constructor
      . rintro (((h | h) | h) | h)
        . exact .inl h
        . exact .inr (.inl (.inl h))
        . exact .inr (.inl (.inr h))
        . exact .inr (.inr h)
      . rintro (h | (h | h) | h)
        . exact .inl (.inl (.inl h))
        . exact .inl (.inl (.inr h))
        . exact .inl (.inr h)
        . exact .inr h
theorem Oi {ops : Array Oper} : ∀ (os : List Oper) (acc : List Nat), os = ops.toList.drop acc.length -> acc.length <= ops.size -> (∀ i, i < acc.length -> Pp ops i (acc.getD i 0)) ->
    ∀ i, i < ops.size -> Pp ops i ((KL os acc).getD i 0)
  | [], acc, Oj, hl, Pq, i, hi => by
    have h1 : (ops.toList.drop acc.length).length = 0 := by rw [<- Oj]; rfl
    have : ops.size <= acc.length := by simp at h1; omega
    exact Pq i (by omega)
  | o :: os, acc, Oj, hl, Pq, i, hi => by
    simp only [KL]
    have ho : ops[acc.length]? = some o := by
      have : (ops.toList.drop acc.length)[0]? = some o := by rw [<- Oj]; rfl
      simpa using this
    have bD : acc.length < ops.size := (Array.getElem?_eq_some_iff.1 ho).1
    refine Oi os _ ?_ (by simp; omega) (fun j hj => ?_) i hi
    . rw [List.length_append, List.length_singleton, <- List.drop_drop, <- Oj]; rfl
    . rcases Nat.lt_or_ge j acc.length with h | h
      . rw [List.getD_eq_getElem?_getD, List.getElem?_append_left h, <- List.getD_eq_getElem?_getD]; exact Pq j h
      . have yI : j = acc.length := by simp at hj; omega
        subst yI
        rw [List.getD_eq_getElem?_getD, List.getElem?_append_right (Nat.le_refl _)]
        simp only [Nat.sub_self, List.getElem?_cons_zero, Option.getD_some]
        refine ⟨fun o' yO e he hb => ?_, fun b hb => ?_⟩
        . rw [ho] at yO; simp only [Option.some.injEq] at yO; subst yO
          exact (Ir acc _ 0 e.on).2 (.inr ⟨e, by simpa using he, hb, .inl rfl⟩)
        . have hb := (Ir acc _ 0 b).1 hb
          rcases hb with hb | ⟨e, he, l9, hb⟩
          . simp at hb
          . have oJ : e ∈ o.after := by simpa using he
            rcases hb with rfl | hb
            . exact .edge _ o e ho oJ l9
            . refine .trans _ o e b ho oJ l9 ?_
              rw [lF] at hb
              rcases Nat.lt_or_ge e.on acc.length with h | h
              . exact (Pq _ h).2 b (by rw [List.getD_eq_getElem?_getD]; exact hb)
              . rw [List.getElem?_eq_none h] at hb; simp at hb
theorem Ol : ∀ (l : List bI) (k : Nat) (x : Nat × bI), x ∈ xe k l -> ∃ i, x.1 = k + i /\ l[i]? = some x.2
  | [], k, x, h => by cases h
  | o :: l, k, x, h => by
    simp only [xe, List.mem_cons] at h
    rcases h with rfl | h
    . exact ⟨0, rfl, rfl⟩
    . obtain ⟨i, h1, h2⟩ := Ol l (k + 1) x h
      exact ⟨i + 1, by omega, by simpa using h2⟩
theorem Dc : ∀ (l held : List (Nat × bI)) (x : Nat × bI), x ∈ rK l held -> x ∈ l \/ x ∈ held
  | [], held, x, h => .inr h
  | (i, o) :: l, held, x, h => by
    unfold rK at h
    split at h
    . rcases List.mem_append.1 h with h | h
      . exact .inr (List.mem_filter.1 h).1
      . rcases List.mem_cons.1 h with h | h
        . exact .inl (by rw [h]; exact List.mem_cons_self ..)
        . rcases Dc l _ x h with h | h
          . exact .inl (List.mem_cons_of_mem _ h)
          . exact .inr (List.mem_filter.1 h).1
    . rcases Dc l _ x h with h | h
      . exact .inl (List.mem_cons_of_mem _ h)
      . rcases List.mem_append.1 h with h | h
        . exact .inr h
        . simp at h; exact .inl (by rw [h]; exact List.mem_cons_self ..)
theorem V7 {l : List bI} {x : Nat × bI} (h : x ∈ rK (xe 0 l) []) : l[x.1]? = some x.2 := by
  rcases Dc _ _ _ h with h | h
  . obtain ⟨i, h1, h2⟩ := Ol l 0 x h
    rw [h1, Nat.zero_add]; exact h2
  . cases h
end Go.Ai
end
section
namespace Go.Ai
open Go
theorem Bg {p : Pos} : ∀ {l : List Pos}, zT p l = true ↔ p ∈ l
  | [] => by simp [zT]
  | q :: l => by simp [zT, Bg (l := l), Pos.beq_eq]
theorem zx {a b : bI} (h : CV a b = true) :
    (∀ d, a.dst = some d -> d ∉ b.looks /\ b.dst ≠ some d) /\ (∀ d, b.dst = some d -> d ∉ a.looks) := by
  unfold CV at h
  rw [Bool.and_eq_true] at h
  obtain ⟨h1, h2⟩ := h
  constructor
  . intro d hd
    rw [hd] at h1
    simp only [Bool.and_eq_true, Bool.not_eq_true'] at h1
    refine ⟨fun hm => ?_, fun hb => ?_⟩
    . rw [Bg.2 hm] at h1; exact absurd h1.1 (by simp)
    . rw [hb] at h1
      have : Pos.beq d d = true := Pos.beq_eq.2 rfl
      simp [this] at h1
  . intro d hd hm
    rw [hd] at h2
    simp only [Bool.not_eq_true'] at h2
    rw [Bg.2 hm] at h2; cases h2
section
variable (P : Program) (tt : TT) (C : Cells) (nt : Nat) (ops : Array Oper) (call : ai) (cg : Fr) (h0 : T AB) (n0 : Pos) (R : List Rec)
structure sZ : Prop where
  Fq : Good call cg h0 n0 R
  mono : ku call
  one : ∀ A r B, R = A ++ r :: B -> ∀ r' ∈ B, r'.idx ≠ r.idx
  bL : ∀ A r B, R = A ++ r :: B -> ∀ b, r.o.bL.testBit b = true -> ∃ r' ∈ B, r'.idx = b
  aN : ∀ A r B, R = A ++ r :: B -> r.o.cls = .aN -> ∀ r' ∈ B, r.o.bL.testBit r'.idx = true
  apart : ∀ A r B, R = A ++ r :: B -> ∀ r' ∈ A, r'.o.bL.testBit r.idx = true \/ CV r.o r'.o = true
  rel : ∀ r ∈ R, ∃ o, ops[r.idx]? = some o /\ qH tt nt ops o r.o /\ Pp ops r.idx r.o.bL
  all : ∀ i, i < ops.size -> ∃ r ∈ R, r.idx = i
def Kept (D : Nat -> Prop) (b : Pos) : Prop := ∀ A r B, R = A ++ r :: B -> ¬ D r.idx -> b.toNat < (dn n0 B).toNat \/ r.nx.toNat <= b.toNat
def T1 (D : Nat -> Prop) (ρ : Pos -> Loc) (tmps : Array Value) : Prop :=
  ∀ M s T p, R = M ++ s :: T -> D s.idx -> s.o.dst = some p -> (∀ s' ∈ M, D s'.idx -> s'.o.dst ≠ some p) -> ∃ x, tmps[p.toNat - 1]? = some x /\ ax ρ s.nx.toNat C s.v x
def T0 (D : Nat -> Prop) (ρ : Pos -> Loc) (tmps : Array Value) : Prop :=
  ∀ p v, cg.get p = some v -> (∀ s ∈ R, D s.idx -> s.o.dst ≠ some p) -> ∃ x, tmps[p.toNat - 1]? = some x /\ ax ρ n0.toNat C v x
structure Jj (D : Nat -> Prop) (A B : List Rec) (a : Act) : Prop where
  split : R = A ++ B
  bound : yQ B
  Vo : ∀ r ∈ B, D r.idx
  Lh : ∀ r ∈ A, D r.idx -> r.c.kP = false
  closed : ∀ i o e, D i -> ops[i]? = some o -> e ∈ o.after -> Region.binds .any e = true -> D e.on
  size : a.tmps.size = nt
  defers : a.defers = []
structure Inv0 (nZ : Pos -> Loc) (w0 : World) (D : Nat -> Prop) (A B : List Rec) (ρ : Pos -> Loc) (a : Act) (w : World) : Prop where
  W : cw ρ C { heap := iI h0 B, next := dn n0 B } w
  N : ∀ r ∈ A, D r.idx -> ∀ id aF, r.c = .new id aF -> mh ρ r.nx.toNat C (ρ id) w aF /\ (ρ id).aF < w.heap.size /\ w0.heap.size <= (ρ id).aF /\
    (∀ b x, (iI h0 B).get b = some x -> (ρ b).aF ≠ (ρ id).aF) /\ (∀ ad v, C ad = some v -> (ρ id).aF ≠ ad.block)
  N2 : ∀ r ∈ A, D r.idx -> ∀ id aF, r.c = .new id aF -> ∀ r' ∈ A, D r'.idx -> ∀ pK vO, r'.c = .new pK vO -> id ≠ pK -> (ρ id).aF ≠ (ρ pK).aF
  t1 : T1 C R D ρ a.tmps
  t0 : T0 C cg n0 R D ρ a.tmps
  E : ny nZ { heap := h0, next := n0 } w0 ρ { heap := iI h0 B, next := dn n0 B } w
  agree : ∀ b : Pos, b.toNat < n0.toNat -> ρ b = nZ b
def Inv (nZ : Pos -> Loc) (w0 : World) (D : Nat -> Prop) (A B : List Rec) (ρ : Pos -> Loc) (a : Act) (w : World) : Prop :=
  Jj nt ops R D A B a /\ ∀ ρ', (∀ b, Kept n0 R D b -> ρ' b = ρ b) -> Inv0 C cg h0 n0 R nZ w0 D A B ρ' a w
end
section
variable {P : Program} {tt : TT} {C : Cells} {nt : Nat} {ops : Array Oper} {call : ai} {cg : Fr} {h0 : T AB} {n0 : Pos} {R : List Rec}
theorem xA (h : ∀ A r B, R = A ++ r :: B -> ∀ r' ∈ B, r'.idx ≠ r.idx) {X X' Y Y' : List Rec} {r r' : Rec} (h1 : R = X ++ r :: Y) (h2 : R = X' ++ r' :: Y') (hi : r.idx = r'.idx) :
    X = X' /\ r = r' /\ Y = Y' := by
  have h3 : X ++ r :: Y = X' ++ r' :: Y' := h1.symm.trans h2
  rcases List.append_eq_append_iff.1 h3 with ⟨Z, hX, hZ⟩ | ⟨Z, hX, hZ⟩
  . cases Z with
    | nil => simp at hZ hX; exact ⟨hX.symm, hZ.1, hZ.2⟩
    | cons z Z =>
      simp at hZ
      exact absurd hi.symm (h X r Y h1 r' (by rw [hZ.2]; simp))
  . cases Z with
    | nil => simp at hZ hX; exact ⟨hX, hZ.1.symm, hZ.2.symm⟩
    | cons z Z =>
      simp at hZ
      exact absurd hi (h X' r' Y' h2 r (by rw [hZ.2]; simp))
theorem ke {r : Rec} (h : r ∈ R) : ∃ A B, R = A ++ r :: B := List.append_of_mem h
theorem Om (hm : ku call) {r : Rec} {B : List Rec} (h : nB call cg h0 n0 r B) : (dn n0 B).toNat <= r.nx.toNat := by
  cases h with
  | skip => exact Nat.le_refl _
  | pure => exact Nat.le_refl _
  | new => simp only [Pos.aL]; omega
  | aN i o v st' xs _ hc hw hx hr => exact Bd hm hr
theorem It (hm : ku call) : ∀ {A B : List Rec}, Good call cg h0 n0 (A ++ B) -> (dn n0 B).toNat <= (dn n0 (A ++ B)).toNat
  | [], _, _ => Nat.le_refl _
  | r :: A, B, h => Nat.le_trans (It hm (A := A) h.2) (Om hm h.1)
namespace sZ
variable (G : sZ tt nt ops call cg h0 n0 R)
include G
theorem later {X Y : List Rec} {r r' : Rec} (h : R = X ++ r :: Y) (hr : r' ∈ X) : r'.idx ≠ r.idx := by
  obtain ⟨A, B, rfl⟩ := ke hr
  have h' : R = A ++ r' :: (B ++ r :: Y) := by rw [h]; simp
  exact fun e => G.one _ _ _ h' r (by simp) e.symm
theorem Vp {X Y : List Rec} {r : Rec} (h : R = X ++ r :: Y) : (dn n0 Y).toNat <= r.nx.toNat := Om G.mono (Good.at (h ▸ G.Fq))
theorem vA {X Y Z : List Rec} (h : R = X ++ (Y ++ Z)) : (dn n0 Z).toNat <= (dn n0 (Y ++ Z)).toNat := It G.mono (Good.tail (h ▸ G.Fq))
theorem Pr {X Y : List Rec} (h : R = X ++ Y) : n0.toNat <= (dn n0 Y).toNat := by
  have := It (n0 := n0) G.mono (A := Y) (B := []) (by rw [List.append_nil]; exact Good.tail (h ▸ G.Fq))
  rw [List.append_nil] at this; exact this
theorem GM {D : Nat -> Prop} (hc : ∀ i o e, D i -> ops[i]? = some o -> e ∈ o.after -> Region.binds .any e = true -> D e.on) {i b : Nat} (h : Reach ops i b)
    (hi : ∀ o e, ops[i]? = some o -> e ∈ o.after -> Region.binds .any e = true -> D e.on) : D b := by
  induction h with
  | edge i o e ho he hb => exact hi o e ho he hb
  | trans i o e b ho he hb _ ih => exact ih fun o' e' yO oJ gw => hc _ o' e' (hi o e ho he hb) yO oJ gw
theorem Vq {D : Nat -> Prop} {A B : List Rec} {a : Act} (hp : Jj nt ops R D A B a) {s : Rec} (hs : s ∈ R) (hD : D s.idx) {b : Nat} (hb : s.o.bL.testBit b = true) : D b := by
  obtain ⟨o, ho, _, hB⟩ := G.rel s hs
  exact G.GM hp.closed (hB.2 b hb) fun o' e yO he l9 => hp.closed _ o' e hD yO he l9
end sZ
theorem Dd : ∀ (Y : List Rec) (p : Pos) (v : AV), (lM cg Y).get p = some v ->
    (∃ M s T, Y = M ++ s :: T /\ s.o.dst = some p /\ s.v = v /\ ∀ s' ∈ M, s'.o.dst ≠ some p) \/ (cg.get p = some v /\ ∀ s ∈ Y, s.o.dst ≠ some p)
  | [], p, v, h => .inr ⟨h, fun s hs => by cases hs⟩
  | r :: Y, p, v, h => by
    simp only [lM] at h
    by_cases hr : r.o.dst = some p
    . rw [hr] at h
      simp only [dh, T.fQ, Option.some.injEq] at h
      exact .inl ⟨[], r, Y, rfl, hr, h, fun s hs => by cases hs⟩
    . have h' : (lM cg Y).get p = some v := by
        cases hd : r.o.dst with
        | none => rw [hd] at h; exact h
        | some d =>
          rw [hd] at h
          simp only [dh] at h
          rwa [T.bT _ fun e => hr (by rw [hd, e])] at h
      rcases Dd Y p v h' with ⟨M, s, T, rfl, h2, h3, h4⟩ | ⟨h2, h3⟩
      . refine .inl ⟨r :: M, s, T, rfl, h2, h3, fun s' lJ => ?_⟩
        rcases List.mem_cons.1 lJ with rfl | lJ
        . exact hr
        . exact h4 s' lJ
      . refine .inr ⟨h2, fun s hs => ?_⟩
        rcases List.mem_cons.1 hs with rfl | hs
        . exact hr
        . exact h3 s hs
theorem look (G : sZ tt nt ops call cg h0 n0 R) {D : Nat -> Prop} {A B : List Rec} {a : Act} (hp : Jj nt ops R D A B a) {ρ : Pos -> Loc} (h1 : T1 C R D ρ a.tmps) (h2 : T0 C cg n0 R D ρ a.tmps)
    {X Y : List Rec} {r : Rec} (hR : R = X ++ r :: Y) (hD : ¬ D r.idx) (Iu : ∀ b, r.o.bL.testBit b = true -> D b) {p : Pos} {v : AV} (hl : p ∈ r.o.looks) (hv : (lM cg Y).get p = some v) :
    ∃ x, a.tmps[p.toNat - 1]? = some x /\ ax ρ (dn n0 Y).toNat C v x := by
  have hX : ∀ s ∈ X, D s.idx -> s.o.dst ≠ some p := by
    intro s hs fJ hd
    rcases G.apart X r Y hR s hs with h | h
    . exact hD (G.Vq hp (by rw [hR]; simp [hs]) fJ h)
    . exact (zx h).2 p hd hl
  rcases Dd Y p v hv with ⟨M, s, T, rfl, h3, rfl, h4⟩ | ⟨h3, h4⟩
  . have Vr : R = (X ++ r :: M) ++ s :: T := by rw [hR]; simp
    have fJ : D s.idx := by
      rcases G.apart _ s T Vr r (by simp) with h | h
      . exact Iu _ h
      . exact absurd hl ((zx h).1 p h3).1
    obtain ⟨x, hx, GN⟩ := h1 (X ++ r :: M) s T p Vr fJ h3 (fun s' lJ xB => by
      rcases List.mem_append.1 lJ with h | h
      . exact hX s' h xB
      . rcases List.mem_cons.1 h with rfl | h
        . exact absurd xB hD
        . exact h4 s' h)
    refine ⟨x, hx, GN.mono (fun _ _ => rfl) ?_⟩
    have := G.vA (X := X ++ [r]) (Y := M) (Z := s :: T) (by rw [hR]; simp)
    exact this
  . obtain ⟨x, hx, GN⟩ := h2 p v h3 (fun s hs fJ => by
      rw [hR] at hs
      rcases List.mem_append.1 hs with h | h
      . exact hX s h fJ
      . rcases List.mem_cons.1 h with rfl | h
        . exact absurd fJ hD
        . exact h4 s h)
    exact ⟨x, hx, GN.mono (fun _ _ => rfl) (G.Pr (X := X ++ [r]) (by rw [hR]; simp))⟩
theorem Jk {a : Act} {d : Option Tmp} {x : Value} {p : Pos} (h : d.map key ≠ some p) : (a.put d x).tmps[p.toNat - 1]? = a.tmps[p.toNat - 1]? := by
  cases d with
  | none => rfl
  | some e =>
    simp only [Act.put]
    rw [Array.getElem?_setIfInBounds_ne]
    intro he
    apply h
    simp only [Option.map_some, Option.some.injEq]
    apply Pos.toNat_inj
    rw [iG]
    have := p.toNat_pos
    omega
theorem SY {a : Act} {d : Option Tmp} {x : Value} {p : Pos} (h : d.map key = some p) (hs : a.tmps.size = nt) (hd : ∀ e, d = some e -> e < nt) : (a.put d x).tmps[p.toNat - 1]? = some x := by
  cases d with
  | none => cases h
  | some e =>
    simp only [Option.map_some, Option.some.injEq] at h; subst h
    simp only [Act.put]
    rw [iG, Nat.add_sub_cancel, Array.getElem?_setIfInBounds]
    simp [hs, hd e rfl]
theorem Pt (G : sZ tt nt ops call cg h0 n0 R) {D : Nat -> Prop} {A B : List Rec} {a : Act} (hp : Jj nt ops R D A B a) {ρ : Pos -> Loc} (h1 : T1 C R D ρ a.tmps) (h2 : T0 C cg n0 R D ρ a.tmps)
    {X Y : List Rec} {r : Rec} (hR : R = X ++ r :: Y) (hD : ¬ D r.idx) {o : Oper} (hrel : qH tt nt ops o r.o) {x : Value} (hv : ax ρ r.nx.toNat C r.v x) :
    T1 C R (fun i => D i \/ i = r.idx) ρ (a.put o.dst x).tmps /\ T0 C cg n0 R (fun i => D i \/ i = r.idx) ρ (a.put o.dst x).tmps := by
  constructor
  . intro M s T p hM fJ hd lp
    by_cases hi : s.idx = r.idx
    . obtain ⟨_, rfl, _⟩ := xA G.one hM hR hi
      rw [hrel.dst] at hd
      exact ⟨x, SY hd hp.size hrel.lt, hv⟩
    . have fJ := fJ.resolve_right hi
      by_cases De : r.o.dst = some p
      . exfalso
        have hs : s ∈ R := by rw [hM]; simp
        rw [hR] at hs
        rcases List.mem_append.1 hs with h | h
        . rcases G.apart X r Y hR s h with k | k
          . exact hD (G.Vq hp (by rw [hR]; simp [h]) fJ k)
          . exact ((zx k).1 p De).2 hd
        . rcases List.mem_cons.1 h with rfl | h
          . exact hi rfl
          . obtain ⟨Y1, Y2, rfl⟩ := ke h
            have Vr : R = (X ++ r :: Y1) ++ s :: Y2 := by rw [hR]; simp
            obtain ⟨QL, _, _⟩ := xA G.one hM Vr rfl
            exact lp r (by rw [QL]; simp) (.inr rfl) De
      . rw [hrel.dst] at De
        obtain ⟨y, hy, C3⟩ := h1 M s T p hM fJ hd fun s' lJ xB => lp s' lJ (.inl xB)
        exact ⟨y, by rw [Jk De]; exact hy, C3⟩
  . intro p v hf lp
    have hr : r.o.dst ≠ some p := lp r (by rw [hR]; simp) (.inr rfl)
    rw [hrel.dst] at hr
    obtain ⟨y, hy, C3⟩ := h2 p v hf fun s hs fJ => lp s hs (.inl fJ)
    exact ⟨y, by rw [Jk hr]; exact hy, C3⟩
end
end Go.Ai
end
section
namespace Go.Ai
open Go
section
variable {P : Program} {tt : TT} {C : Cells} {nt : Nat} {ops : Array Oper} {call : ai} {cg : Fr} {h0 : T AB} {n0 : Pos} {R : List Rec}
theorem cw.congr {ρ ρ' : Pos -> Loc} {st : St} {w : World} (h : cw ρ C st w) (aY : ∀ b : Pos, b.toNat < st.next.toNat -> ρ' b = ρ b) : cw ρ' C st w where
  live b x hb := by
    obtain ⟨h1, h2, h3⟩ := h.live b x hb
    rw [aY b h1]; exact ⟨h1, h2, h3.mono aY (Nat.le_refl _)⟩
  inj b b' x x' hb gw he := by
    rw [aY b (h.live b x hb).1, aY b' (h.live b' x' gw).1] at he
    exact h.inj b b' x x' hb gw he
  fD a v ha := ⟨(h.fD a v ha).1, fun b x hb => by rw [aY b (h.live b x hb).1]; exact (h.fD a v ha).2 b x hb⟩
theorem ny.congr {ρ ig ρ' : Pos -> Loc} {st st' : St} {w w' : World} (h : ny ρ st w ig st' w') (aY : ∀ b x, st'.heap.get b = some x -> ρ' b = ig b) : ny ρ st w ρ' st' w' where
  os := h.os
  tape := h.tape
  output := h.output
  size := h.size
  block := h.block
  rV b x hb := by rw [aY b x hb]; exact h.rV b x hb
namespace sZ
variable (G : sZ tt nt ops call cg h0 n0 R)
include G
theorem same {r r' : Rec} (h : r ∈ R) (h' : r' ∈ R) (hi : r.idx = r'.idx) : r = r' := by
  obtain ⟨A, B, hA⟩ := ke h
  obtain ⟨A', B', Cs⟩ := ke h'
  exact (xA G.one hA Cs hi).2.1
theorem cmp {X Y X' Y' : List Rec} {r r' : Rec} (h1 : R = X ++ r :: Y) (h2 : R = X' ++ r' :: Y') (hi : r'.idx ≠ r.idx) :
    (∃ Z, Y' = Z ++ r :: Y) \/ (∃ Z, Y = Z ++ r' :: Y') := by
  have h3 : X ++ r :: Y = X' ++ r' :: Y' := h1.symm.trans h2
  rcases List.append_eq_append_iff.1 h3 with ⟨Z, hX, hZ⟩ | ⟨Z, hX, hZ⟩
  . cases Z with
    | nil => simp at hZ; exact absurd (by rw [hZ.1]) hi
    | cons z Z => simp at hZ; exact .inr ⟨Z, hZ.2⟩
  . cases Z with
    | nil => simp at hZ; exact absurd (by rw [hZ.1]) hi
    | cons z Z => simp at hZ; exact .inl ⟨Z, hZ.2⟩
theorem Bh {X Y X' Z : List Rec} {r r' : Rec} (h1 : R = X ++ r :: Y) (h2 : R = X' ++ r' :: (Z ++ r :: Y)) : r.nx.toNat <= (dn n0 (Z ++ r :: Y)).toNat := by
  have := G.vA (X := X' ++ [r']) (Y := Z) (Z := r :: Y) (by rw [h2]; simp)
  exact this
theorem wE {X Y' Z : List Rec} {r r' : Rec} (h1 : R = X ++ r :: (Z ++ r' :: Y')) : r'.nx.toNat <= (dn n0 (Z ++ r' :: Y')).toNat := by
  have := G.vA (X := X ++ [r]) (Y := Z) (Z := r' :: Y') (by rw [h1]; simp)
  exact this
theorem Df {X Y : List Rec} {r : Rec} (h : R = X ++ r :: Y) {id : Pos} {aF : AB} (hc : r.c = .new id aF) : id = dn n0 Y /\ r.nx = id.succ := by
  have hs := Good.at (h ▸ G.Fq)
  cases hs <;> simp only at hc <;> first | (cases hc; done) | skip
  simp only [RC.new.injEq] at hc
  obtain ⟨rfl, _⟩ := hc
  exact ⟨rfl, rfl⟩
end sZ
theorem Kept.up {D D' : Nat -> Prop} (h : ∀ i, D i -> D' i) {b : Pos} (hk : Kept n0 R D b) : Kept n0 R D' b := fun A r B hR hD => hk A r B hR fun hd => hD (h _ hd)
theorem Jj.next (G : sZ tt nt ops call cg h0 n0 R) {D : Nat -> Prop} {A B : List Rec} {a : Act} (hp : Jj nt ops R D A B a) {X Y : List Rec} {r : Rec} (hR : R = X ++ r :: Y)
    (nC : ∀ o e, ops[r.idx]? = some o -> e ∈ o.after -> Region.binds .any e = true -> D e.on) (hc : r.c.kP = false) (d : Option Tmp) (x : Value) :
    Jj nt ops R (fun i => D i \/ i = r.idx) A B (a.put d x) where
  split := hp.split
  bound := hp.bound
  Vo s hs := .inl (hp.Vo s hs)
  Lh s hs hD := by
    rcases hD with hD | hD
    . exact hp.Lh s hs hD
    . rw [G.same (by rw [hp.split]; simp [hs]) (by rw [hR]; simp) hD]; exact hc
  closed i o e hD ho he hb := by
    rcases hD with hD | rfl
    . exact .inl (hp.closed i o e hD ho he hb)
    . exact .inl (nC o e ho he hb)
  size := by rw [Act.A9]; exact hp.size
  defers := by rw [Act.uZ]; exact hp.defers
theorem Jl (G : sZ tt nt ops call cg h0 n0 R) {nZ : Pos -> Loc} {w0 : World} {D : Nat -> Prop} {A B : List Rec} {ρ : Pos -> Loc} {a : Act} {w : World}
    (hI : Inv C nt ops cg h0 n0 R nZ w0 D A B ρ a w) {X Y : List Rec} {r : Rec} (hR : R = X ++ r :: Y) (hD : ¬ D r.idx)
    (nC : ∀ o e, ops[r.idx]? = some o -> e ∈ o.after -> Region.binds .any e = true -> D e.on) {o : Oper} (hrel : qH tt nt ops o r.o) (hc : r.c = .pure) {x : Value}
    (hv : ∀ ρ', (∀ b, Kept n0 R D b -> ρ' b = ρ b) -> ax ρ' r.nx.toNat C r.v x) :
    Inv C nt ops cg h0 n0 R nZ w0 (fun i => D i \/ i = r.idx) A B ρ (a.put o.dst x) w := by
  obtain ⟨hp, hI⟩ := hI
  refine ⟨hp.next G hR nC (by rw [hc]; rfl) _ _, fun ρ' Bi => ?_⟩
  have hf : ∀ b, Kept n0 R D b -> ρ' b = ρ b := fun b hb => Bi b (hb.up fun _ h => .inl h)
  have h := hI ρ' hf
  have hnr : ∀ s ∈ A, (D s.idx \/ s.idx = r.idx) -> ∀ id aF, s.c = .new id aF -> D s.idx := fun s hs fJ id aF fF => by
    rcases fJ with fJ | fJ
    . exact fJ
    . rw [G.same (by rw [hp.split]; simp [hs]) (by rw [hR]; simp) fJ, hc] at fF; cases fF
  obtain ⟨k1, k2⟩ := Pt G hp h.t1 h.t0 hR hD hrel (hv ρ' hf)
  exact ⟨h.W, fun s hs fJ id aF fF => h.N s hs (hnr s hs fJ id aF fF) id aF fF,
    fun s hs fJ id aF fF s' lJ xB pK vO oo => h.N2 s hs (hnr s hs fJ id aF fF) id aF fF s' lJ (hnr s' lJ xB pK vO oo) pK vO oo, k1, k2, h.E, h.agree⟩
theorem cw.grow {ρ : Pos -> Loc} {st : St} {w w' : World} (h : cw ρ C st w) (hs : w.heap.size <= w'.heap.size) (hb : ∀ k, k < w.heap.size -> w'.heap[k]? = w.heap[k]?) : cw ρ C st w' where
  live b x hx := let ⟨h1, h2, h3⟩ := h.live b x hx; ⟨h1, Nat.lt_of_lt_of_le h2 hs, h3.of_heap (hb _ h2)⟩
  inj := h.inj
  fD a v ha := by
    obtain ⟨h1, h2⟩ := h.fD a v ha
    exact ⟨by rw [World.cell?_of_block (w := w) (hb _ (World.block_lt_of_cell? _ _ h1))]; exact h1, h2⟩
theorem SZ (G : sZ tt nt ops call cg h0 n0 R) {nZ : Pos -> Loc} {w0 : World} {D : Nat -> Prop} {A B : List Rec} {ρ : Pos -> Loc} {a : Act} {w w' : World}
    (hI : Inv C nt ops cg h0 n0 R nZ w0 D A B ρ a w) {X Y : List Rec} {r : Rec} (hR : R = X ++ r :: Y) (hD : ¬ D r.idx)
    (nC : ∀ o e, ops[r.idx]? = some o -> e ∈ o.after -> Region.binds .any e = true -> D e.on) {o : Oper} (hrel : qH tt nt ops o r.o) {id : Pos} {aF : AB} (hc : r.c = .new id aF) {x : Value} {L : Loc}
    (hL : w.heap.size <= L.aF) (hL' : L.aF < w'.heap.size) (Oj : w'.os = w.os) (abY : w'.tape = w.tape) (hout : w'.output = w.output) (S0 : ∀ k, k < w.heap.size -> w'.heap[k]? = w.heap[k]?)
    (hv : ∀ ρ', (∀ b, Kept n0 R D b -> ρ' b = ρ b) -> ρ' id = L -> ax ρ' r.nx.toNat C r.v x /\ mh ρ' r.nx.toNat C L w' aF) :
    Inv C nt ops cg h0 n0 R nZ w0 (fun i => D i \/ i = r.idx) A B (fun b => if b = id then L else ρ b) (a.put o.dst x) w' := by
  obtain ⟨hp, hI⟩ := hI
  have hrA : r ∈ A := by
    have : r ∈ R := by rw [hR]; simp
    rw [hp.split] at this
    exact (List.mem_append.1 this).resolve_right fun h => hD (hp.Vo r h)
  obtain ⟨hid, GO⟩ := G.Df hR hc
  have gO : w.heap.size <= w'.heap.size := by omega
  refine ⟨hp.next G hR nC (by rw [hc]; rfl) _ _, fun ρ' Bi => ?_⟩
  have hkid : Kept n0 R (fun i => D i \/ i = r.idx) id := by
    intro A' r' B' Cs QM
    have cM : r'.idx ≠ r.idx := fun e => QM (.inr e)
    rcases G.cmp hR Cs cM with ⟨Z, rfl⟩ | ⟨Z, rfl⟩
    . left
      have := G.Bh hR Cs
      rw [GO, Pos.aL] at this
      omega
    . right
      have := G.wE hR
      rw [hid]; exact this
  have Pu : ρ' id = L := by rw [Bi id hkid]; simp
  have hf : ∀ b, Kept n0 R D b -> ρ' b = ρ b := fun b hb => by
    have cM : b ≠ id := by
      rintro rfl
      rcases hb X r Y hR hD with h | h
      . rw [hid] at h; omega
      . rw [GO, Pos.aL] at h; omega
    rw [Bi b (hb.up fun _ h => .inl h)]; exact if_neg cM
  have h := hI ρ' hf
  obtain ⟨N4, CY⟩ := hv ρ' hf Pu
  obtain ⟨k1, k2⟩ := Pt G hp h.t1 h.t0 hR hD hrel N4
  have KD : ∀ s ∈ A, (D s.idx \/ s.idx = r.idx) -> D s.idx \/ s = r := fun s hs fJ => fJ.imp (fun h => h) fun fJ => G.same (by rw [hp.split]; simp [hs]) (by rw [hR]; simp) fJ
  refine ⟨h.W.grow gO S0, fun s hs fJ pK vO fF => ?_, fun s hs fJ pK vO fF s' lJ xB id'' Vs oo cM => ?_, k1, k2, ?_, h.agree⟩
  . rcases KD s hs fJ with fJ | rfl
    . obtain ⟨g1, g2, g3, g4, g5⟩ := h.N s hs fJ pK vO fF
      exact ⟨g1.of_heap (S0 _ g2), by omega, g3, g4, g5⟩
    . rw [hc] at fF
      simp only [RC.new.injEq] at fF
      obtain ⟨rfl, rfl⟩ := fF
      rw [Pu]
      refine ⟨CY, hL', Nat.le_trans h.E.size hL, fun b x hb e => ?_, fun ad v ha e => ?_⟩
      . have := (h.W.live b x hb).2.1; omega
      . have := World.block_lt_of_cell? _ _ (h.W.fD ad v ha).1; omega
  . rcases KD s hs fJ with hDk | rfl
    . rcases KD s' lJ xB with S1 | rfl
      . exact h.N2 s hs hDk pK vO fF s' lJ S1 id'' Vs oo cM
      . rw [hc] at oo
        simp only [RC.new.injEq] at oo
        obtain ⟨rfl, rfl⟩ := oo
        have := (h.N s hs hDk pK vO fF).2.1
        rw [Pu]; omega
    . rw [hc] at fF
      simp only [RC.new.injEq] at fF
      obtain ⟨rfl, rfl⟩ := fF
      rcases KD s' lJ xB with S1 | rfl
      . have := (h.N s' lJ S1 id'' Vs oo).2.1
        rw [Pu]; omega
      . rw [hc] at oo
        simp only [RC.new.injEq] at oo
        exact absurd oo.1 cM
  . exact ⟨Oj.trans h.E.os, abY.trans h.E.tape, hout.trans h.E.output, Nat.le_trans h.E.size gO, fun k hk hn => by rw [S0 k (Nat.lt_of_lt_of_le hk h.E.size)]; exact h.E.block k hk hn, h.E.rV⟩
theorem Pv (G : sZ tt nt ops call cg h0 n0 R) {nZ : Pos -> Loc} {w0 : World} {D : Nat -> Prop} {A B : List Rec} {ρ : Pos -> Loc} {a : Act} {w : World}
    (h : Inv0 C cg h0 n0 R nZ w0 D A B ρ a w) (aad : R = A ++ B) {hp : T AB} {N : Pos} (hN : (dn n0 B).toNat <= N.toNat)
    (qf : ∀ b x, hp.get b = some x -> (iI h0 B).get b = some x \/ ∃ s ∈ A, D s.idx /\ s.c = .new b x /\ s.nx.toNat <= N.toNat) : cw ρ C { heap := hp, next := N } w where
  live b x hb := by
    rcases qf b x hb with h1 | ⟨s, hs, hD, hc, hn⟩
    . obtain ⟨g1, g2, g3⟩ := h.W.live b x h1
      exact ⟨Nat.lt_of_lt_of_le g1 hN, g2, g3.mono (fun _ _ => rfl) hN⟩
    . obtain ⟨g1, g2, _⟩ := h.N s hs hD b x hc
      obtain ⟨M, T, hM⟩ := ke (r := s) (R := R) (by rw [aad]; simp [hs])
      obtain ⟨_, e⟩ := G.Df hM hc
      rw [e] at hn
      refine ⟨?_, g2, g1.mono (fun _ _ => rfl) (by rw [e]; exact hn)⟩
      rw [Pos.aL] at hn
      exact hn
  inj b b' x x' hb gw he := by
    rcases qf b x hb with h1 | ⟨s, hs, hD, hc, hn⟩
    . rcases qf b' x' gw with N5 | ⟨s', lJ, QM, vX, Ji⟩
      . exact h.W.inj b b' x x' h1 N5 he
      . exact absurd he ((h.N s' lJ QM b' x' vX).2.2.2.1 b x h1)
    . rcases qf b' x' gw with N5 | ⟨s', lJ, QM, vX, Ji⟩
      . exact absurd he.symm ((h.N s hs hD b x hc).2.2.2.1 b' x' N5)
      . by_cases e : b = b'
        . exact e
        . exact absurd he (h.N2 s hs hD b x hc s' lJ QM b' x' vX e)
  fD ad v ha := ⟨(h.W.fD ad v ha).1, fun b x hb => by
    rcases qf b x hb with h1 | ⟨s, hs, hD, hc, hn⟩
    . exact (h.W.fD ad v ha).2 b x h1
    . exact (h.N s hs hD b x hc).2.2.2.2 ad v ha⟩
theorem td : ∀ {Z B : List Rec} {b : Pos} {x : AB}, (∀ r ∈ Z, r.c.kP = false) -> yQ B -> (iJ h0 (Z ++ B)).get b = some x ->
    (iI h0 B).get b = some x \/ ∃ s ∈ Z, s.c = .new b x
  | [], B, b, x, _, hB, h => by
    cases B with
    | nil => exact .inl h
    | cons r B =>
      simp only [yQ] at hB
      cases hc : r.c <;> rw [hc] at hB <;> first | (cases hB; done) | skip
      simp only [List.nil_append, iJ, hc] at h
      simp only [iI, hc]
      exact .inl h
  | r :: Z, B, b, x, hZ, hB, h => by
    have ih := @td Z B b x (fun s hs => hZ s (List.mem_cons_of_mem _ hs)) hB
    have hr := hZ r (List.mem_cons_self ..)
    simp only [List.cons_append, iJ] at h
    cases hc : r.c with
    | pure => rw [hc] at h; exact (ih h).imp (fun h => h) fun ⟨s, h1, h2⟩ => ⟨s, List.mem_cons_of_mem _ h1, h2⟩
    | aN _ _ => rw [hc] at hr; cases hr
    | new id aF =>
      rw [hc] at h
      by_cases e : id = b
      . subst e
        rw [T.fQ] at h
        simp only [Option.some.injEq] at h; subst h
        exact .inr ⟨r, List.mem_cons_self .., hc⟩
      . rw [T.bT _ e] at h
        exact (ih h).imp (fun h => h) fun ⟨s, h1, h2⟩ => ⟨s, List.mem_cons_of_mem _ h1, h2⟩
end
end Go.Ai
end
section
namespace Go.Ai
open Go
section
variable {P : Program} {tt : TT} {C : Cells} {nt : Nat} {ops : Array Oper} {call : ai} {cg : Fr} {h0 : T AB} {n0 : Pos} {R : List Rec}
theorem around (G : sZ tt nt ops call cg h0 n0 R) {D : Nat -> Prop} {A B : List Rec} {a : Act} (hp : Jj nt ops R D A B a) {X Y : List Rec} {r : Rec} (hR : R = X ++ r :: Y) (hD : ¬ D r.idx) :
    ∃ Z, A = X ++ r :: Z /\ Y = Z ++ B := by
  have hrA : r ∈ A := by
    have : r ∈ R := by rw [hR]; simp
    rw [hp.split] at this
    exact (List.mem_append.1 this).resolve_right fun h => hD (hp.Vo r h)
  obtain ⟨X', Z, hA⟩ := ke hrA
  have h2 : R = X' ++ r :: (Z ++ B) := by rw [hp.split, hA]; simp
  obtain ⟨rfl, _, rfl⟩ := xA G.one hR h2 rfl
  exact ⟨Z, hA, rfl⟩
theorem S2 (G : sZ tt nt ops call cg h0 n0 R) {nZ : Pos -> Loc} {w0 : World} {D : Nat -> Prop} {A B : List Rec} {ρ : Pos -> Loc} {a : Act} {w w' : World}
    (hI : Inv C nt ops cg h0 n0 R nZ w0 D A B ρ a w) {X Y : List Rec} {r : Rec} (hR : R = X ++ r :: Y) (hD : ¬ D r.idx)
    (nC : ∀ o e, ops[r.idx]? = some o -> e ∈ o.after -> Region.binds .any e = true -> D e.on) {o : Oper} (hrel : qH tt nt ops o r.o)
    (hY : ∀ s ∈ Y, D s.idx) {st' : St} {b0 : T AB} (hc : r.c = .aN b0 st'.heap) (GO : r.nx = st'.next) {x : Value}
    (Px : jI ρ C { heap := iJ h0 Y, next := dn n0 Y } w r.v st' x w') :
    ∃ vo, Inv C nt ops cg h0 n0 R nZ w0 (fun i => D i \/ i = r.idx) X (r :: Y) vo (a.put o.dst x) w' := by
  obtain ⟨hp, hI⟩ := hI
  obtain ⟨ig, hv, hρ1, hle, QI, Vt⟩ := Px
  simp only at hρ1 hle
  obtain ⟨Z, hA, rfl⟩ := around G hp hR hD
  have hZ : ∀ s ∈ Z, s.c.kP = false := fun s hs => hp.Lh s (by rw [hA]; simp [hs]) (hY s (by simp [hs]))
  have On : ∀ s ∈ X, s ∈ A := fun s hs => by rw [hA]; simp [hs]
  have Vu : ∀ s ∈ X, (D s.idx \/ s.idx = r.idx) -> D s.idx := fun s hs h => h.resolve_right (G.later hR hs)
  have Li : (dn n0 B).toNat <= (dn n0 (Z ++ B)).toNat := G.vA (X := X ++ [r]) (by rw [hR]; simp)
  let vo : Pos -> Loc := fun b => if (dn n0 (Z ++ B)).toNat <= b.toNat /\ b.toNat < r.nx.toNat then ig b else ρ b
  have Lj : ∀ b : Pos, b.toNat < (dn n0 (Z ++ B)).toNat -> Kept n0 R D b := by
    intro b hb M s T hM fJ
    left
    by_cases hi : s.idx = r.idx
    . obtain ⟨_, _, rfl⟩ := xA G.one hM hR hi; exact hb
    . rcases G.cmp hR hM hi with ⟨W, rfl⟩ | ⟨W, hW⟩
      . have := G.Bh hR hM
        have := G.Vp hR
        omega
      . exact absurd (hY s (by rw [hW]; simp)) fJ
  refine ⟨vo, ⟨by rw [hR], by simp [yQ, hc, RC.kP], ?_, ?_, ?_, by rw [Act.A9]; exact hp.size, by rw [Act.uZ]; exact hp.defers⟩, fun ρ' Bi => ?_⟩
  . intro s hs
    rcases List.mem_cons.1 hs with rfl | hs
    . exact .inr rfl
    . exact .inl (hY s hs)
  . intro s hs fJ
    exact hp.Lh s (On s hs) (Vu s hs fJ)
  . intro i o' e hDi ho he hb
    rcases hDi with hDi | rfl
    . exact .inl (hp.closed i o' e hDi ho he hb)
    . exact .inl (nC o' e ho he hb)
  have abZ : ∀ b : Pos, b.toNat < r.nx.toNat -> Kept n0 R (fun i => D i \/ i = r.idx) b := by
    intro b hb M s T hM fJ
    left
    have hi : s.idx ≠ r.idx := fun e => fJ (.inr e)
    rcases G.cmp hR hM hi with ⟨W, rfl⟩ | ⟨W, hW⟩
    . exact Nat.lt_of_lt_of_le hb (G.Bh hR hM)
    . exact absurd (.inl (hY s (by rw [hW]; simp))) fJ
  have hf : ∀ b, Kept n0 R D b -> ρ' b = ρ b := fun b hb => by
    rw [Bi b (hb.up fun _ h => .inl h)]
    refine if_neg ?_
    rintro ⟨g1, g2⟩
    rcases hb X r _ hR hD with h | h <;> omega
  have h := hI ρ' hf
  have GP : ∀ b : Pos, b.toNat < r.nx.toNat -> ρ' b = ig b := by
    intro b hb
    rcases Nat.lt_or_ge b.toNat (dn n0 (Z ++ B)).toNat with g | g
    . rw [hf b (Lj b g), hρ1 b g]
    . rw [Bi b (abZ b hb)]; exact if_pos ⟨g, hb⟩
  have z6 : ax ρ' r.nx.toNat C r.v x := by
    rw [GO] at GP ⊢
    exact hv.mono GP (Nat.le_refl _)
  have fV : cw ρ' C { heap := st'.heap, next := r.nx } w' := by
    rw [GO] at GP ⊢
    exact QI.congr GP
  have hold : ∀ s ∈ X, D s.idx -> ∀ id aF, s.c = .new id aF -> ∀ b y, (iJ h0 (Z ++ B)).get b = some y -> (ρ b).aF ≠ (ρ' id).aF := by
    intro s hs fJ id aF fF b y hb
    obtain ⟨g1, g2, g3, g4, g5⟩ := h.N s (On s hs) fJ id aF fF
    obtain ⟨M, T, hM⟩ := ke (r := s) (R := R) (by rw [hR]; simp [hs])
    rcases td hZ hp.bound hb with hb | ⟨s', lJ, oo⟩
    . rw [<- hf b (Lj b (Nat.lt_of_lt_of_le (h.W.live b y hb).1 Li))]
      exact g4 b y hb
    . obtain ⟨Z1, Z2, rfl⟩ := ke lJ
      have QL : R = (X ++ r :: Z1) ++ s' :: (Z2 ++ B) := by rw [hR]; simp
      obtain ⟨e1, e2⟩ := G.Df QL oo
      obtain ⟨e3, e4⟩ := G.Df hM fF
      have hbn : b.toNat < (dn n0 ((Z1 ++ s' :: Z2) ++ B)).toNat := by
        have := G.wE (X := X) (r := r) (Z := Z1) (r' := s') (Y' := Z2 ++ B) (by rw [hR]; simp)
        rw [e2, Pos.aL] at this
        simp only [List.append_assoc, List.cons_append]
        omega
      have hsr : s.idx ≠ r.idx := G.later hR hs
      have hid : r.nx.toNat <= id.toNat := by
        rcases G.cmp hR hM hsr with ⟨W, rfl⟩ | ⟨W, hW⟩
        . rw [e3]; exact G.Bh hR hM
        . obtain ⟨A1, A2, hX⟩ := ke hs
          have hM2 : R = A1 ++ s :: (A2 ++ r :: ((Z1 ++ s' :: Z2) ++ B)) := by rw [hR, hX]; simp
          have sC : s ∈ (Z1 ++ s' :: Z2) ++ B := by rw [hW]; simp
          exact absurd rfl (G.one A1 s _ hM2 s (List.mem_append.2 (.inr (List.mem_cons_of_mem _ sC))))
      have cM : b ≠ id := by
        rintro rfl
        have := G.Vp hR
        omega
      rw [<- hf b (Lj b hbn)]
      exact h.N2 s' (by rw [hA]; simp) (hY s' (by simp)) b y oo s (On s hs) fJ id aF fF cM
  have hEa : ny nZ { heap := h0, next := n0 } w0 ρ { heap := iJ h0 (Z ++ B), next := dn n0 (Z ++ B) } w := by
    refine ⟨h.E.os, h.E.tape, h.E.output, h.E.size, h.E.block, fun b y hb => ?_⟩
    rcases td hZ hp.bound hb with hb | ⟨s', lJ, oo⟩
    . rw [<- hf b (Lj b (Nat.lt_of_lt_of_le (h.W.live b y hb).1 Li))]
      exact h.E.rV b y hb
    . obtain ⟨Z1, Z2, rfl⟩ := ke lJ
      have QL : R = (X ++ r :: Z1) ++ s' :: (Z2 ++ B) := by rw [hR]; simp
      obtain ⟨e1, e2⟩ := G.Df QL oo
      have hbn : b.toNat < (dn n0 ((Z1 ++ s' :: Z2) ++ B)).toNat := by
        have := G.wE (X := X) (r := r) (Z := Z1) (r' := s') (Y' := Z2 ++ B) (by rw [hR]; simp)
        rw [e2, Pos.aL] at this
        simp only [List.append_assoc, List.cons_append]
        omega
      rw [<- hf b (Lj b hbn)]
      exact .inr (h.N s' (by rw [hA]; simp) (hY s' (by simp)) b y oo).2.2.1
  obtain ⟨k1, k2⟩ := Pt G hp h.t1 h.t0 hR hD hrel z6
  refine ⟨?_, fun s hs fJ id aF fF => ?_, fun s hs fJ id aF fF s' lJ xB pK vO oo cM => ?_, k1, k2, ?_, h.agree⟩
  . simp only [iI, hc, dn]; exact fV
  . have fJ := Vu s hs fJ
    obtain ⟨g1, g2, g3, g4, g5⟩ := h.N s (On s hs) fJ id aF fF
    refine ⟨g1.of_heap (Vt.block _ g2 (hold s hs fJ id aF fF)), Nat.lt_of_lt_of_le g2 Vt.size, g3, fun b y hb => ?_, g5⟩
    simp only [iI, hc] at hb
    rw [GP b (by rw [GO]; exact (QI.live b y hb).1)]
    rcases Vt.rV b y hb with ⟨b', y', gw, e⟩ | e
    . rw [<- e]; exact hold s hs fJ id aF fF b' y' gw
    . omega
  . exact h.N2 s (On s hs) (Vu s hs fJ) id aF fF s' (On s' lJ) (Vu s' lJ xB) pK vO oo cM
  . have := (hEa.trans Vt).congr (ρ' := ρ') fun b y hb => GP b (by rw [GO]; exact (QI.live b y hb).1)
    simp only [iI, hc, dn]
    exact ⟨this.os, this.tape, this.output, this.size, this.block, this.rV⟩
end
end Go.Ai
end
section
namespace Go.Ai
open Go
section
variable {P : Program} {tt : TT} {C : Cells} {nt : Nat} {ops : Array Oper} {call : ai} {cg : Fr} {h0 : T AB} {n0 : Pos} {R : List Rec}
theorem yS {ρ : Pos -> Loc} {n : Pos} {w : World} (hC : ∀ ad v, C ad = some v -> w.cell? ad = some v) : cw ρ C { heap := .e, next := n } w where
  live b x hb := by rw [T.fO] at hb; cases hb
  inj b b' x x' hb := by rw [T.fO] at hb; cases hb
  fD a v ha := ⟨hC a v ha, fun b x hb => by rw [T.fO] at hb; cases hb⟩
theorem Yields.eq {N : Next} {x y : Value} (h : Yields N x) (k : Yields N y) : x = y := by
  rcases h with rfl | ⟨rfl, rfl⟩ <;> rcases k with k | ⟨k, rfl⟩
  . simp only [Next.value.injEq] at k; exact k
  . cases k
  . cases k
  . rfl
theorem mh.S3 {ρ ρ' : Pos -> Loc} {n n' : Nat} {L : Loc} {w : World} {s : List Nat} {p : Nat} (h : mh ρ n C L w (.j8 s p)) : mh ρ' n' C L w (.j8 s p) := h
theorem QN (hT : cG P tt) {o : Oper} {k : aE} {xs : List jW} {cls : N3} (hc : fS tt o.op = some (k, xs, cls)) {n : Pos} {vs : List AV} {v : AV} {aF : AB}
    (hr : k.run (fun _ => none) n vs = some (.aN v none none (some aF))) {fr : Fr} (hx : eC fr xs = some vs) {a : Act} {w : World} {Oo : (Pos -> Loc) -> Prop} {ρ : Pos -> Loc} (aY : Oo ρ)
    (hF : ∀ ρ', Oo ρ' -> lC ρ' n.toNat C fr a.tmps) (hC : ∀ ad v, C ad = some v -> w.cell? ad = some v) :
    ∃ N x w' L, (execOp a.eval o).run P w = .ok N w' /\ Yields N x /\ w.heap.size <= L.aF /\ L.aF < w'.heap.size /\ w'.os = w.os /\ w'.tape = w.tape /\ w'.output = w.output /\
      (∀ k, k < w.heap.size -> w'.heap[k]? = w.heap[k]?) /\ ∀ ρ', Oo ρ' -> ρ' n = L -> ax ρ' n.succ.toNat C v x /\ mh ρ' n.succ.toNat C L w' aF := by
  have cH : k.run (fun b => T.get b (T.e : T AB)) n vs = some (.aN v none none (some aF)) := by
    have e : (fun b => T.get b (T.e : T AB)) = fun _ => none := by funext b; exact T.fO b
    rw [e]; exact hr
  have H := fun ρ' (hf : Oo ρ') => Eh hT o.op ρ' C { heap := .e, next := n } w k xs cls fr a o vs _ rfl hc (yS hC) (hF ρ' hf) hx cH
  have key : ∀ ρ', Oo ρ' -> ∃ N x w' ig, (execOp a.eval o).run P w = .ok N w' /\ Yields N x /\ (∀ b : Pos, b.toNat < n.toNat -> ig b = ρ' b) /\ ax ig n.succ.toNat C v x /\
      mh ig n.succ.toNat C (ig n) w' aF /\ w.heap.size <= (ig n).aF /\ (ig n).aF < w'.heap.size /\ w'.os = w.os /\ w'.tape = w.tape /\ w'.output = w.output /\
      (∀ k, k < w.heap.size -> w'.heap[k]? = w.heap[k]?) := by
    intro ρ' hf
    obtain ⟨N, x, w', ig, he, hy, h1, h2, h3, h4⟩ := H ρ' hf
    have hg : (St.aN { heap := .e, next := n } none none (some aF)).heap.get n = some aF := T.fQ _ _ _
    obtain ⟨g1, g2, g3⟩ := h2.live n aF hg
    refine ⟨N, x, w', ig, he, hy, h1, h3, g3, ?_, g2, h4.os, h4.tape, h4.output, fun k hk => h4.block k hk fun b x hb => ?_⟩
    . rcases h4.rV n aF hg with ⟨b', x', gw, _⟩ | h
      . rw [T.fO] at gw; cases gw
      . exact h
    . rw [T.fO] at hb; cases hb
  obtain ⟨N, x, w', ig, he, hy, h1, h2, h3, h4, h5, h6, h7, h8, h9⟩ := key ρ aY
  refine ⟨N, x, w', ig n, he, hy, h4, h5, h6, h7, h8, h9, fun ρ' hf hL => ?_⟩
  obtain ⟨N', x', w'', vo, oJ, QO, k1, k2, k3, _⟩ := key ρ' hf
  rw [he] at oJ
  simp only [Result.ok.injEq] at oJ
  obtain ⟨rfl, rfl⟩ := oJ
  have Ll := hy.eq QO; subst Ll
  have Py : n.toNat < n.succ.toNat := by rw [Pos.aL]; omega
  have agree : (vo n).aF = (ig n).aF -> (vo n).base = (ig n).base -> (∃ cs fz, aF = .cells cs fz) -> ax ρ' n.succ.toNat C v x /\ mh ρ' n.succ.toNat C (ig n) w' aF := by
    rintro e1 e2 ⟨cs, fz, rfl⟩
    have e3 : (vo n).size = (ig n).size := by
      obtain ⟨c, e, fr, g1, g2, _⟩ := h3
      obtain ⟨c', e', aX, Lm, g2', _⟩ := k3
      rw [e1, g1] at Lm
      simp only [Option.some.injEq, Obj.cells.injEq] at Lm
      rw [<- g2, <- g2', Lm.1]
    have e4 : vo n = ig n := by
      cases hh : vo n; cases hh' : ig n
      rw [hh, hh'] at e1 e2 e3
      simp only at e1 e2 e3
      rw [e1, e2, e3]
    have mj : ∀ b : Pos, b.toNat < n.succ.toNat -> ρ' b = vo b := by
      intro b hb
      rcases Nat.lt_or_ge b.toNat n.toNat with g | g
      . exact (k1 b g).symm
      . have : b = n := Pos.toNat_inj (by rw [Pos.aL] at hb; omega)
        subst this; rw [hL, e4]
    refine ⟨k2.mono mj (Nat.le_refl _), ?_⟩
    rw [<- e4]
    exact k3.mono mj (Nat.le_refl _)
  cases V6 hr with
  | ptr cs =>
    obtain ⟨_, g1⟩ := h2.mo
    obtain ⟨_, g2⟩ := k2.mo
    rw [g1] at g2
    simp only [Value.pointer.injEq, Option.some.injEq, Addr.mk.injEq, Nat.add_zero, and_true] at g2
    exact agree g2.1.symm g2.2.symm ⟨cs, 0, rfl⟩
  | j8 s =>
    obtain ⟨_, g1⟩ := h2.mo
    refine ⟨?_, h3.S3⟩
    rw [g1, <- hL]
    exact .ptr n 0 Py
  | slice len es cap cs fF =>
    obtain ⟨ad, aU, g1, g2, g3, g4⟩ := h2.eJ
    obtain ⟨ad', Vv, Lm, g2', g3', g4'⟩ := k2.eJ
    rw [g1] at Lm
    simp only [Value.slice.injEq, Option.some.injEq, true_and] at Lm
    obtain ⟨rfl, rfl⟩ := Lm
    by_cases h0 : aU = 0
    . subst h0
      have sN : len = 0 := by omega
      have hcs0 : cs = [] := fF sN (by
        cases cap with
        | none => exact .inl rfl
        | some c => exact .inr (by rw [g3 c rfl]))
      subst hcs0
      refine ⟨?_, ?_⟩
      . rw [g1]; exact .slice n 0 len cap es 0 ad g2 g3 (fun h => absurd rfl h) (fun _ => Py)
      . obtain ⟨c, e, fr, q1, q2, q3, q4, q5⟩ := h3
        exact ⟨c, e, fr, q1, q2, q3, ay.nil, q5⟩
    . obtain ⟨_, a1, _⟩ := g4 h0
      obtain ⟨_, a2, _⟩ := g4' h0
      rw [a1] at a2
      simp only [Addr.mk.injEq, Nat.add_zero, and_true] at a2
      exact agree a2.1.symm a2.2.symm ⟨cs, 0, rfl⟩
  | map =>
    obtain ⟨_, g1⟩ := h2.uC
    refine ⟨?_, ?_⟩
    . rw [g1, <- hL]; exact .map n Py
    . obtain ⟨bR, q1, q2, q3⟩ := h3
      exact ⟨bR, q1, q2, fun i e e' he => by simp at he⟩
end
end Go.Ai
end
section
namespace Go.Ai
open Go
section
variable {P : Program} {tt : TT} {C : Cells} {nt : Nat} {ops : Array Oper} {call : ai} {cg : Fr} {h0 : T AB} {n0 : Pos} {R : List Rec}
def rj (fr : Fr) : List Pos -> Fr
  | [] => .e
  | p :: l => (rj fr l).put (fr.get p) p
theorem Jm {fr : Fr} {p : Pos} : ∀ {l : List Pos}, p ∈ l -> (rj fr l).get p = fr.get p
  | [], h => by cases h
  | q :: l, h => by
    simp only [rj]
    by_cases e : q = p
    . subst e; exact T.fQ _ _ _
    . rw [T.bT _ e]
      exact Jm ((List.mem_cons.1 h).resolve_left fun h => e h.symm)
theorem EU {fr : Fr} {p : Pos} {v : AV} : ∀ {l : List Pos}, (rj fr l).get p = some v -> p ∈ l /\ fr.get p = some v
  | [], h => by simp only [rj] at h; rw [T.fO] at h; cases h
  | q :: l, h => by
    simp only [rj] at h
    by_cases e : q = p
    . subst e; rw [T.fQ] at h; exact ⟨by simp, h⟩
    . rw [T.bT _ e] at h
      obtain ⟨h1, h2⟩ := EU h
      exact ⟨by simp [h1], h2⟩
theorem Jn {fr : Fr} {l : List Pos} : ∀ {xs : List jW}, (∀ p, jW.t p ∈ xs -> p ∈ l) -> eC (rj fr l) xs = eC fr xs
  | [], _ => rfl
  | x :: xs, h => by
    have h1 : vn (rj fr l) x = vn fr x := by
      cases x with
      | t p => exact Jm (h p (by simp))
      | c v => rfl
    simp only [eC, h1, Jn fun p hp => h p (List.mem_cons_of_mem _ hp)]
theorem QS {o : bI} {p : Pos} (h : jW.t p ∈ o.xs) : p ∈ o.looks := by
  unfold bI.looks
  exact List.mem_append_right _ (List.mem_filterMap.2 ⟨_, h, rfl⟩)
theorem Nx {o : bI} {p : Pos} {q : Bool} (h : o.guard = some (p, q)) : p ∈ o.looks := by
  unfold bI.looks
  rw [h]; simp
theorem Yields.upon {o : Oper} {a : Act} {K : Act -> World -> Prop} {Q : Exit -> Act -> World -> Prop} {N : Next} {x : Value} {w : World} (h : Yields N x) (hk : K (a.put o.dst x) w) : o.upon P a K Q (.ok N w) := by
  rcases h with rfl | ⟨rfl, rfl⟩ <;> exact hk
theorem S4 (hT : cG P tt) (gW : kD P C call) (G : sZ tt nt ops call cg h0 n0 R) {Q : Exit -> Act -> World -> Prop} {nZ : Pos -> Loc} {w0 : World} {D : Nat -> Prop} {A B : List Rec} {ρ : Pos -> Loc} {a : Act} {w : World}
    (hI : Inv C nt ops cg h0 n0 R nZ w0 D A B ρ a w) {i : Nat} (hi : i < ops.size) (hD : ¬ D i)
    (nC : ∀ o e, ops[i]? = some o -> e ∈ o.after -> Region.binds .any e = true -> D e.on) :
    wpOp P ops Q i (fun a' w' => ∃ A' B' ρ', Inv C nt ops cg h0 n0 R nZ w0 (fun j => D j \/ j = i) A' B' ρ' a' w') a w := by
  obtain ⟨r, hr, rfl⟩ := G.all i hi
  obtain ⟨X, Y, hR⟩ := ke hr
  obtain ⟨o, ho, hrel, hB⟩ := G.rel r hr
  have hp := hI.1
  have Iu : ∀ b, r.o.bL.testBit b = true -> D b := fun b hb => G.GM hp.closed (hB.2 b hb) nC
  obtain ⟨Z, hA, Jo⟩ := around G hp hR hD
  have Vw : ∀ ρ', (∀ b, Kept n0 R D b -> ρ' b = ρ b) -> ∀ p v, p ∈ r.o.looks -> (lM cg Y).get p = some v -> ∃ x, a.tmps[p.toNat - 1]? = some x /\ ax ρ' (dn n0 Y).toNat C v x :=
    fun ρ' hf p v hl hv => look G hp (hI.2 ρ' hf).t1 (hI.2 ρ' hf).t0 hR hD Iu hl hv
  have hFR : ∀ ρ', (∀ b, Kept n0 R D b -> ρ' b = ρ b) -> lC ρ' (dn n0 Y).toNat C (rj (lM cg Y) r.o.looks) a.tmps := fun ρ' hf p v hv =>
    let ⟨h1, h2⟩ := EU hv; Vw ρ' hf p v h1 h2
  have Ek : ∀ b, Kept n0 R D b -> ρ b = ρ b := fun _ _ => rfl
  have hw : ∀ b, bQ (lM cg Y) r.o.guard = some b -> Region.wanted o (yielded ops a.tmps) = b := fun b hb =>
    xq hrel.guard (fun p v hv ⟨q, hq⟩ => Vw ρ Ek p v (Nx hq) hv) hb
  have hnZ : ∀ s ∈ Z, s.nx.toNat <= (dn n0 Y).toNat := fun s hs => by
    obtain ⟨Z1, Z2, rfl⟩ := ke hs
    have := G.wE (X := X) (r := r) (Z := Z1) (r' := s) (Y' := Z2 ++ B) (by rw [hR, Jo]; simp)
    rw [Jo]; simp only [List.append_assoc, List.cons_append]; exact this
  have Li : (dn n0 B).toNat <= (dn n0 Y).toNat := by rw [Jo]; exact G.vA (X := X ++ [r]) (by rw [hR, Jo]; simp)
  have hs := Good.at (hR ▸ G.Fq)
  have hex : ∀ xs, eC (lM cg Y) r.o.xs = some xs -> eC (rj (lM cg Y) r.o.looks) r.o.xs = some xs := fun xs hx => by
    rw [Jn fun p hp => QS hp]; exact hx
  unfold wpOp
  simp only [ho]
  generalize hrr : r = r0 at *
  cases hs with
  | skip i' o' _ hw' =>
    rw [if_neg (by rw [hw _ hw']; simp)]
    exact ⟨A, B, ρ, Jl G hI hR hD nC hrel rfl fun ρ' _ => .Je⟩
  | pure i' o' v xs _ hw' hx Db =>
    rw [if_pos (hw _ hw')]
    refine .inl ?_
    rw [Jo] at Db
    obtain ⟨h, qf, cH⟩ := Db Z B rfl hp.bound fun s hs he => by
      cases hb : o'.bL.testBit s.idx with
      | false => rfl
      | true =>
        have h1 := hp.Lh s (by rw [hA]; simp [hs]) (Iu _ hb)
        rw [h1] at he; cases he
    rcases hrel.op with hc | ⟨hk, _⟩
    . have H : ∀ ρ', (∀ b, Kept n0 R D b -> ρ' b = ρ b) -> ∃ N x, (execOp a.eval o).run P w = .ok N w /\ Yields N x /\ ax ρ' (dn n0 Y).toNat C v x := by
        intro ρ' hf
        have hW := Pv G (hI.2 ρ' hf) hp.split (hp := h) Li fun b y hb => (qf b y hb).imp (fun h => h) fun ⟨s, h1, h2, h3⟩ =>
          ⟨s, by rw [hA]; simp [h1], Iu _ h3, h2, hnZ s h1⟩
        exact Eh hT o.op ρ' C _ w _ _ _ _ a o _ _ rfl hc hW (hFR ρ' hf) (hex xs hx) (SW cH fun _ _ h => h)
      obtain ⟨N, x, he, hy, hv⟩ := H ρ Ek
      unfold Oper.wp
      rw [he]
      refine hy.upon ⟨A, B, ρ, Jl G hI hR hD nC hrel rfl fun ρ' hf => ?_⟩
      obtain ⟨N', x', oJ, QO, z6⟩ := H ρ' hf
      rw [he] at oJ
      simp only [Result.ok.injEq, and_true] at oJ
      subst oJ
      rw [hy.eq QO]; exact z6
    . rw [hk] at cH; cases cH
  | new i' o' v aF xs _ hw' hx cH =>
    rw [if_pos (hw _ hw')]
    refine .inl ?_
    rcases hrel.op with hc | ⟨hk, _⟩
    . obtain ⟨N, x, w', L, he, hy, h1, h2, h3, h4, h5, h6, h7⟩ := QN hT hc cH (hex xs hx) (Oo := fun ρ' => ∀ b, Kept n0 R D b -> ρ' b = ρ b) Ek hFR
        (fun ad v ha => ((hI.2 ρ Ek).W.fD ad v ha).1)
      unfold Oper.wp
      rw [he]
      exact hy.upon ⟨A, B, _, SZ G hI hR hD nC hrel rfl h1 h2 h3 h4 h5 h6 h7⟩
    . rw [hk] at cH; cases cH
  | aN i' o' v st' xs _ SX hw' hx vz =>
    rw [if_pos (hw _ hw')]
    refine .inl ?_
    rcases hrel.op with hc | ⟨hk, _⟩
    . have hY : ∀ s ∈ Y, D s.idx := fun s hs => Iu _ (G.aN X _ Y hR SX s hs)
      have hZ : ∀ s ∈ Z, s.c.kP = false := fun s hs => hp.Lh s (by rw [hA]; simp [hs]) (hY s (by rw [Jo]; simp [hs]))
      have hW : cw ρ C { heap := iJ h0 Y, next := dn n0 Y } w := Pv G (hI.2 ρ Ek) hp.split Li fun b y hb => by
        rw [Jo] at hb
        rcases td hZ hp.bound hb with hb | ⟨s, h1, h2⟩
        . exact .inl hb
        . exact .inr ⟨s, by rw [hA]; simp [h1], hY s (by rw [Jo]; simp [h1]), h2, hnZ s h1⟩
      have hre := ER hT gW hc hW (hFR ρ Ek) (hex xs hx) vz
      refine hre.upon fun x w' Px => ?_
      obtain ⟨vo, h⟩ := S2 G hI hR hD nC hrel hY rfl rfl Px
      exact ⟨_, _, vo, h⟩
    . exact (Reaches.bad hk vz).elim
end
end Go.Ai
end
section
namespace Go.Ai
open Go
section
variable {P : Program} {tt : TT} {C : Cells} {nt : Nat} {ops : Array Oper} {call : ai} {cg : Fr} {h0 : T AB} {n0 : Pos} {R : List Rec}
theorem Jp (G : sZ tt nt ops call cg h0 n0 R) {nZ : Pos -> Loc} {w0 : World} {D : Nat -> Prop} {A B : List Rec} {ρ : Pos -> Loc} {a : Act} {w : World}
    (hI : Inv C nt ops cg h0 n0 R nZ w0 D A B ρ a w) (mj : ∀ r ∈ R, D r.idx) : kN nt nZ C { heap := h0, next := n0 } w0 (lM cg R) { heap := iJ h0 R, next := dn n0 R } a w := by
  obtain ⟨hp, hI⟩ := hI
  have h := hI ρ fun _ _ => rfl
  have hZ : ∀ s ∈ A, s.c.kP = false := fun s hs => hp.Lh s hs (mj s (by rw [hp.split]; simp [hs]))
  have hnA : ∀ s ∈ A, s.nx.toNat <= (dn n0 R).toNat := fun s hs => by
    obtain ⟨Z1, Z2, hA⟩ := ke hs
    have := G.vA (X := []) (Y := Z1) (Z := s :: (Z2 ++ B)) (by rw [hp.split, hA]; simp)
    have e : R = Z1 ++ s :: (Z2 ++ B) := by rw [hp.split, hA]; simp
    rw [<- e] at this; exact this
  have Li : (dn n0 B).toNat <= (dn n0 R).toNat := by
    have := G.vA (X := []) (Y := A) (Z := B) (by rw [hp.split]; simp)
    rwa [<- hp.split] at this
  have Jd : n0.toNat <= (dn n0 R).toNat := G.Pr (X := []) rfl
  have qf : ∀ b x, (iJ h0 R).get b = some x -> (iI h0 B).get b = some x \/ ∃ s ∈ A, D s.idx /\ s.c = .new b x /\ s.nx.toNat <= (dn n0 R).toNat := fun b x hb => by
    rw [hp.split] at hb
    rcases td hZ hp.bound hb with hb | ⟨s, h1, h2⟩
    . exact .inl hb
    . exact .inr ⟨s, h1, mj s (by rw [hp.split]; simp [h1]), h2, hnA s h1⟩
  refine ⟨ρ, ⟨Pv G h hp.split Li qf, ?_, hp.size, hp.defers⟩, h.agree, Jd, ?_⟩
  . intro p v hv
    rcases Dd R p v hv with ⟨M, s, T, hM, h2, rfl, h3⟩ | ⟨h1, h2⟩
    . obtain ⟨x, hx, GN⟩ := h.t1 M s T p hM (mj s (by rw [hM]; simp)) h2 fun s' lJ _ => h3 s' lJ
      refine ⟨x, hx, GN.mono (fun _ _ => rfl) ?_⟩
      have := G.vA (X := []) (Y := M) (Z := s :: T) (by rw [hM]; simp)
      rw [<- hM] at this; exact this
    . obtain ⟨x, hx, GN⟩ := h.t0 p v h1 fun s hs _ => h2 s hs
      exact ⟨x, hx, GN.mono (fun _ _ => rfl) Jd⟩
  . refine ⟨h.E.os, h.E.tape, h.E.output, h.E.size, h.E.block, fun b x hb => ?_⟩
    rcases qf b x hb with hb | ⟨s, h1, h2, h3, _⟩
    . exact h.E.rV b x hb
    . exact .inr (h.N s h1 h2 b x h3).2.2.1
def DL (listed : Array Bool) (j : Nat) : Prop := listed.getD j false = true
theorem QT {listed : Array Bool} {i : Nat} (hi : i < listed.size) : (fun j => DL listed j \/ j = i) = DL (listed.setIfInBounds i true) := by
  funext j
  apply propext
  unfold DL
  by_cases h : j = i
  . subst h; simp [hi]
  . rw [getD_set_ne false (Ne.symm h)]; simp [h]
theorem Ln {listed : Array Bool} {j : Nat} (h : listed.getD j true = false) : ¬ DL listed j := by
  unfold DL
  intro h'
  rcases Nat.lt_or_ge j listed.size with hj | hj
  . simp [hj] at h h'; rw [h] at h'; cases h'
  . simp [Array.getElem?_eq_none hj] at h'
theorem V8 {listed : Array Bool} {j : Nat} (hj : j < listed.size) (h : ¬ DL listed j) : listed.getD j true = false := by
  unfold DL at h
  simp [hj] at h ⊢; exact h
theorem Dg (G : sZ tt nt ops call cg h0 n0 R) {listed : Array Bool} (hs : listed.size = ops.size) (hr : Region.ready .any ops listed = []) : ∀ (Y X : List Rec), R = X ++ Y -> ∀ r ∈ Y, DL listed r.idx
  | [], _, _, r, jX => by cases jX
  | r :: Y, X, hR, r', jX => by
    have ih := Dg G hs hr Y (X ++ [r]) (by rw [hR]; simp)
    rcases List.mem_cons.1 jX with rfl | jX
    . obtain ⟨o, ho, _, hB⟩ := G.rel r' (by rw [hR]; simp)
      have bD : r'.idx < ops.size := (Array.getElem?_eq_some_iff.1 ho).1
      by_cases h : DL listed r'.idx
      . exact h
      . exfalso
        have : r'.idx ∈ Region.ready .any ops listed := mem_ready.2 ⟨V8 (by omega) h, o, ho, fun e he hb => by
          obtain ⟨s, h1, h2⟩ := G.bL X r' Y hR _ (hB.1 o ho e he hb)
          have := ih s h1
          rw [h2] at this; exact this⟩
        rw [hr] at this; cases this
    . exact ih r' jX
theorem Jq (hT : cG P tt) (gW : kD P C call) (G : sZ tt nt ops call cg h0 n0 R) {Q : Exit -> Act -> World -> Prop} {nZ : Pos -> Loc} {w0 : World}
    (hQ : ∀ a' w', kN nt nZ C { heap := h0, next := n0 } w0 (lM cg R) { heap := iJ h0 R, next := dn n0 R } a' w' -> Q .normal a' w') :
    ∀ (fuel : Nat) (listed : Array Bool) (U : List Nat) (A B : List Rec) (ρ : Pos -> Loc) (a : Act) (w : World), listed.size = ops.size -> U.length <= fuel -> U.Nodup -> (∀ j, j < ops.size -> ¬ DL listed j -> j ∈ U) ->
      Inv C nt ops cg h0 n0 R nZ w0 (DL listed) A B ρ a w -> wpAny P .any ops Q fuel listed a w
  | 0, listed, U, A, B, ρ, a, w, hs, hU, _, hm, hI => by
    have hU0 : U = [] := List.eq_nil_of_length_eq_zero (by omega)
    subst hU0
    have hr : Region.ready .any ops listed = [] := by
      cases h : Region.ready .any ops listed with
      | nil => rfl
      | cons i l =>
        have hi : i ∈ Region.ready .any ops listed := by rw [h]; simp
        obtain ⟨h1, o, ho, _⟩ := mem_ready.1 hi
        have := hm i (Array.getElem?_eq_some_iff.1 ho).1 (Ln h1)
        cases this
    exact ⟨hr, hQ a w (Jp G hI (Dg G hs hr R [] rfl))⟩
  | fuel + 1, listed, U, A, B, ρ, a, w, hs, hU, Vx, hm, hI => by
    refine ⟨fun hr => hQ a w (Jp G hI (Dg G hs hr R [] rfl)), fun i hi => ?_⟩
    obtain ⟨h1, o, ho, h2⟩ := mem_ready.1 hi
    have bD : i < ops.size := (Array.getElem?_eq_some_iff.1 ho).1
    have vz := S4 (Q := Q) hT gW G hI bD (Ln h1) fun o' e yO he hb => by
      rw [ho] at yO; simp only [Option.some.injEq] at yO; subst yO
      exact h2 e he hb
    refine wpOp_mono (fun a' w' hh => ?_) vz
    obtain ⟨A', B', ρ', hI'⟩ := hh
    rw [QT (by omega)] at hI'
    have hiU : i ∈ U := hm i bD (Ln h1)
    refine Jq hT gW G hQ fuel _ (U.erase i) A' B' ρ' a' w' (by simp [hs]) ?_ (Vx.erase i) (fun j hj hD => ?_) hI'
    . rw [List.length_erase_of_mem hiU]; omega
    . rw [<- QT (by omega)] at hD
      have cM : j ≠ i := fun e => hD (.inr e)
      exact (List.mem_erase_of_ne cM).2 (hm j hj fun h => hD (.inl h))
theorem GQ (hm : P.follows .mixedOrders = true) (hT : cG P tt) (gW : kD P C call) (Pz : ku call) : C9 P tt C call := by
  intro nt id ops l Q fr aX st st' ρ a w hl dx h hS hQ
  obtain ⟨R, hG, hmap, I6, ab0, GO⟩ := GL (call := call) (cg := fr) (h0 := st.heap) (n0 := st.next) _ [] fr aX st st' h trivial rfl rfl rfl
  simp only [List.append_nil] at hG I6 ab0 GO
  have hst' : st' = { heap := iJ st.heap R, next := dn st.next R } := by cases st'; simp_all
  have hlen : l.length = ops.size := by rw [(uY hl).1, Array.length_toList]
  have GR := ET _ 0 [] dx fun b => by simp
  have hL : rK (xe 0 l) [] = (R.map fun r => (r.idx, r.o)).reverse := by rw [hmap, List.reverse_reverse]
  have dec : ∀ {A B : List Rec} {r : Rec}, R = A ++ r :: B -> rK (xe 0 l) [] = (B.map fun r => (r.idx, r.o)).reverse ++ (r.idx, r.o) :: (A.map fun r => (r.idx, r.o)).reverse := fun e => by
    rw [hL, e]; simp
  have PA : ∀ {B : List Rec} {i : Nat}, i ∈ ((B.map fun r => (r.idx, r.o)).reverse).map (·.1) ↔ ∃ r ∈ B, r.idx = i := fun {B i} => by simp
  have G : sZ tt nt ops call fr st.heap st.next R := by
    refine ⟨hG, Pz, fun A r B e r' jX hi => ?_, fun A r B e b hb => ?_, fun A r B e hc r' jX => ?_, fun A r B e r' jX => ?_, fun r hr => ?_, fun i hi => ?_⟩
    . exact (GR.one _ _ _ _ (dec e)).2 (PA.2 ⟨r', jX, hi⟩)
    . rcases GR.bL _ _ _ _ (dec e) b hb with h | h
      . cases h
      . exact PA.1 h
    . exact GR.aN _ _ _ _ (dec e) hc _ (.inr (PA.2 ⟨r', jX, rfl⟩))
    . exact GR.apart _ _ _ _ (dec e) (r'.idx, r'.o) (by simp; exact ⟨r', jX, rfl, rfl⟩)
    . obtain ⟨A, B, e⟩ := ke hr
      have hx : (r.idx, r.o) ∈ rK (xe 0 l) [] := by rw [dec e]; simp
      have h1 := V7 hx
      obtain ⟨o, h2, h3, h4⟩ := Lb hl _ _ h1
      refine ⟨o, h2, h3, ?_⟩
      rw [h4]
      exact Oi ops.toList [] rfl (Nat.zero_le _) (fun i hi => by simp at hi) _ (Array.getElem?_eq_some_iff.1 h2).1
    . rcases GR.all i (by rw [hlen]; exact hi) with h | h
      . cases h
      . rw [hL] at h; exact PA.1 h
  refine wp_region_any hm ?_
  rw [hst', I6] at hQ
  have hkn : ∀ b : Pos, b.toNat < st.next.toNat -> ∀ D, Kept st.next R D b := fun b hb D A r B e _ => .inl (Nat.lt_of_lt_of_le hb (G.Pr (X := A ++ [r]) (by rw [e]; simp)))
  refine Jq (Q := Q) (nZ := ρ) (w0 := w) hT gW G hQ ops.size _ (List.range ops.size) R [] ρ a _ (by simp) (by simp) List.nodup_range (fun j hj _ => List.mem_range.2 hj) ?_
  have lp : ∀ j, ¬ DL (Array.replicate ops.size false) j := fun j h => by
    unfold DL at h
    rcases Nat.lt_or_ge j ops.size with hj | hj
    . simp [hj] at h
    . simp [Nat.not_lt.2 hj] at h
  refine ⟨⟨by simp, trivial, (fun r hr => by cases hr), fun r _ hD => absurd hD (lp _), fun i _ _ hD => absurd hD (lp _), hS.size, hS.defers⟩, fun ρ' Bi => ?_⟩
  have pL : ∀ b : Pos, b.toNat < st.next.toNat -> ρ' b = ρ b := fun b hb => Bi b (hkn b hb _)
  have hW : cw ρ' C st { w with drawn := w.drawn + 1 } := (hS.W.congr pL).grow (Nat.le_refl _) fun _ _ => rfl
  refine ⟨hW, fun r _ hD => absurd hD (lp _), fun r _ hD => absurd hD (lp _), fun M s T p _ hD => absurd hD (lp _), fun p v hv _ => ?_, ⟨rfl, rfl, rfl, Nat.le_refl _, fun _ _ _ => rfl, fun b x hb => .inl ⟨b, x, hb, ?_⟩⟩, pL⟩
  . obtain ⟨x, hx, GN⟩ := hS.F p v hv
    exact ⟨x, hx, GN.mono pL (Nat.le_refl _)⟩
  . rw [pL b (hS.W.live b x hb).1]
theorem wF (hm : P.follows .mixedOrders = true) (hT : cG P tt) {O : fy} {G : T aK} (hO : qd P C O) (EV : kO O) (hG : GI P tt G) (m d : Nat) : kD P C (mE O G m d) :=
  ES hT hO hG m (fun d gW => GQ hm hT gW (wD EV m d)) d
end
end Go.Ai
end
section
namespace Go.Ai
section
variable {R : Type}
theorem wT {α : Type} : ∀ (p : Pos) (t : T α), xg p t = t.get p
  | .h, .e => rfl
  | .h, .n _ _ _ => rfl
  | .o _, .e => rfl
  | .o p, .n l _ _ => wT p l
  | .i _, .e => rfl
  | .i p, .n _ _ r => wT p r
theorem mq {α : Type} (x : Option α) : ∀ (p : Pos) (t : T α) (k : T α -> R), uy x p t k = k (t.put x p)
  | .h, .e, _ => rfl
  | .h, .n _ _ _, _ => rfl
  | .o p, .e, k => mq x p .e _
  | .o p, .n l _ _, k => mq x p l _
  | .i p, .e, k => mq x p .e _
  | .i p, .n _ _ r, k => mq x p r _
theorem u5 (n : Nat) (k : Nat -> R) : mS n k = k n := by cases n <;> rfl
theorem Ny (n : Int) (k : Int -> R) : Fh n k = k n := by cases n <;> simp only [Fh, u5]
theorem Lo (b : Bool) (k : Bool -> R) : I5 b k = k b := by cases b <;> rfl
theorem yT {α : Type} : ∀ (l : List α) (k : List α -> R), vp l k = k l
  | [], _ => rfl
  | a :: l, k => yT l fun t => k (a :: t)
theorem zy : ∀ (p : Pos) (k : Pos -> R), AU p k = k p
  | .h, _ => rfl
  | .o p, k => zy p fun q => k (.o q)
  | .i p, k => zy p fun q => k (.i q)
theorem QU (o : Option Nat) (k : Option Nat -> R) : KM o k = k o := by
  cases o with
  | none => rfl
  | some n => simp only [KM, u5]
theorem Jr (v : AV) (k : AV -> R) : CW v k = k v := by
  cases v <;> simp only [CW, Lo, Ny, yT, zy, u5, QU]
theorem Bj : ∀ (l : List AV) (k : List AV -> R), Ed l k = k l
  | [], _ => rfl
  | a :: l, k => by
    show CW a (fun a => Ed l fun t => k (a :: t)) = _
    rw [Jr, Bj l]
theorem yU (v : AV) (k : AV -> R) : oK v k = k v := by
  unfold oK
  split
  . exact Bj _ _
  . exact Jr _ _
theorem Bk (x : AB) (k : AB -> R) : wR x k = k x := by
  cases x <;> simp only [wR, yT, u5]
theorem Fs : ∀ (p : Pos) (k : Pos -> R), Kw p k = k p.succ
  | .h, _ => rfl
  | .o _, _ => rfl
  | .i p, k => Fs p fun q => k (.o q)
variable (z : R)
def qW {α : Type} (r : Option α) (k : α -> R) : R := match r with
  | some x => k x
  | none => z
theorem QV (fr : Fr) (x : jW) (k : AV -> R) : Qf z fr x k = qW z (vn fr x) k := by
  cases x with
  | t p => simp only [Qf, wT, vn, qW]; cases T.get p fr <;> rfl
  | c v => rfl
theorem Iv (fr : Fr) : ∀ (xs : List jW) (k : List AV -> R), Ik z fr xs k = qW z (eC fr xs) k
  | [], k => rfl
  | x :: xs, k => by
    show Qf z fr x (fun v => Ik z fr xs fun vs => k (v :: vs)) = _
    rw [QV]
    simp only [Iv fr xs]
    simp only [eC]
    cases vn fr x with
    | none => rfl
    | some v => simp only [qW]; cases eC fr xs <;> rfl
theorem GS (fr : Fr) (g : Option (Pos × Bool)) (yes no : R) : wS z fr g yes no = match bQ fr g with
    | some true => yes
    | some false => no
    | none => z := by
  unfold wS bQ
  cases g with
  | none => rfl
  | some g =>
    obtain ⟨p, want⟩ := g
    simp only [wT]
    cases T.get p fr with
    | none => rfl
    | some v =>
      cases v <;> try rfl
      rename_i b
      cases b <;> cases want <;> rfl
theorem GU (fr : Fr) (d : Option Pos) (v : AV) (k : Fr -> R) : jH fr d v k = k (dh fr d v) := by
  cases d with
  | none => rfl
  | some p => exact mq _ _ _ _
theorem V9 (st : St) (del : Option Pos) (set : Option (Pos × AB)) (new : Option AB) (k : St -> R) : SB st del set new k = k (st.aN del set new) := by
  have hdel : ∀ (h : T AB) (k : T AB -> R), Z0 del h k = k (w9 del h) := fun h k => by
    cases del with
    | none => rfl
    | some b => exact mq _ _ _ _
  have uF : ∀ (h : T AB) (k : T AB -> R), SA set h k = k (zo set h) := fun h k => by
    cases set with
    | none => rfl
    | some b => simp only [SA, Bk, mq]; rfl
  unfold SB
  rw [hdel, uF]
  cases new with
  | none => rfl
  | some x => simp only [Bk, mq, Fs]; rfl
def CK (jS : wz R) (call : ai) : Prop := ∀ f args st k, jS f args st k = qW z (call f args st) fun x => k x.1 x.2
variable {jS : wz R} {call : ai}
theorem Bl (h : T AB) : (fun b => xg b h) = fun b => h.get b := funext fun b => wT b h
theorem Lp (hc : CK z jS call) (op : aE) (xs : List AV) (st : St) (k : AV -> St -> R) : Ee z jS op xs st k = qW z (cP call op xs st) fun x => k x.1 x.2 := by
  unfold Ee cP
  rw [Bl]
  cases op.run (fun b => st.heap.get b) st.next xs with
  | none => rfl
  | some r =>
    cases r with
    | val v => simp only [yU]; rfl
    | aN v d s n => simp only [yU, V9]; rfl
    | call f args => simp only [yT]; exact hc f args st k
theorem Oq (hc : CK z jS call) : ∀ (ops : List bI) (fr : Fr) (st : St) (k : Fr -> St -> R), O1 z jS ops fr st k = qW z (jy call ops fr st) fun x => k x.1 x.2
  | [], fr, st, k => rfl
  | o :: os, fr, st, k => by
    show wS z fr o.guard (Ik z fr o.xs fun xs => Ee z jS o.k xs st fun v st => jH fr o.dst v fun fr => O1 z jS os fr st k) (jH fr o.dst .undef fun fr => O1 z jS os fr st k) = _
    rw [GS, Iv]
    simp only [Lp z hc, GU, Oq hc os]
    simp only [jy]
    cases bQ fr o.guard with
    | none => rfl
    | some b =>
      cases b with
      | false => rfl
      | true =>
        simp only []
        cases eC fr o.xs with
        | none => rfl
        | some xs =>
          simp only [qW]
          cases cP call o.k xs st with
          | none => rfl
          | some x => rfl
theorem xC (bL : Nat) (h : T AB) : ∀ (recs : List Rec) (k : T AB -> R), AW bL h recs k = k (snap bL h recs)
  | [], k => rfl
  | r :: rs, k => by
    show (match r.c with
      | .new id aF => match bL.testBit r.idx with
        | true => AW bL h rs fun h' => uy (some aF) id h' k
        | false => AW bL h rs k
      | .aN _ _ => k h
      | .pure => AW bL h rs k) = _
    unfold snap
    cases r.c with
    | pure => exact xC bL h rs k
    | aN _ _ => rfl
    | new id aF =>
      simp only []
      cases bL.testBit r.idx with
      | true => simp only [xC bL h rs, mq]
      | false => exact xC bL h rs k
theorem Js (h : T AB) : ∀ (l : List (Pos × AB)) (k : T AB -> R), KN h l k = k (fN l h)
  | [], k => rfl
  | (id, aF) :: l, k => by
    show KN h l (fun h' => uy (some aF) id h' k) = _
    rw [Js h l, mq]; rfl
theorem th (bL : Nat) (op : aE) (xs : List AV) (v : AV) : ∀ (recs : List Rec) (up : List (Pos × AB)), nV bL op xs v up recs = jG bL op xs v up recs
  | [], up => rfl
  | r :: rs, up => by
    unfold nV jG
    cases r.c with
    | pure => exact th bL op xs v rs up
    | new id aF => simp only [th bL op xs v rs] <;> (cases bL.testBit r.idx <;> rfl)
    | aN base _ =>
      simp only [th bL op xs v rs, xC, Js]
      unfold KO fP
      simp only [Bl] <;> (cases bL.testBit r.idx <;> rfl)
theorem Lq (hc : CK z jS call) : ∀ (ops : List (Nat × bI)) (recs : List Rec) (base : T AB) (fr : Fr) (st : St) (k : Fr -> St -> R),
    AX z jS ops recs base fr st k = qW z (dc call ops recs base fr st) fun x => k x.1 x.2
  | [], recs, base, fr, st, k => rfl
  | (j, o) :: os, recs, base, fr, st, k => by
    show wS z fr o.guard
      (Ik z fr o.xs fun xs => match o.cls with
        | .new => match o.k.run (fun _ => none) st.next xs with
          | some (.aN v none none (some aF)) => oK v fun v => wR aF fun aF => jH fr o.dst v fun fr => Kw st.next fun n => uy (some aF) st.next st.heap fun h =>
              AX z jS os ({ idx := j, o := o, v := v, c := .new st.next aF, nx := n } :: recs) base fr { heap := h, next := n } k
          | _ => z
        | .aN => Ee z jS o.k xs st fun v st' => jH fr o.dst v fun fr => AX z jS os ({ idx := j, o := o, v := v, c := .aN base st'.heap, nx := st'.next } :: recs) st'.heap fr st' k
        | _ => match o.k.run (fun _ => none) .h xs with
          | some (.val v) => oK v fun v => jH fr o.dst v fun fr => AX z jS os ({ idx := j, o := o, v := v, c := .pure, nx := st.next } :: recs) base fr st k
          | _ => AW o.bL base recs fun h => match o.k.run (fun b => xg b h) .h xs with
            | some (.val v) => oK v fun v => match nV o.bL o.k xs v [] recs with
              | true => jH fr o.dst v fun fr => AX z jS os ({ idx := j, o := o, v := v, c := .pure, nx := st.next } :: recs) base fr st k
              | false => z
            | _ => z)
      (jH fr o.dst .undef fun fr => AX z jS os ({ idx := j, o := o, v := .undef, c := .pure, nx := st.next } :: recs) base fr st k) = _
    rw [GS, Iv]
    simp only [Lp z hc, GU, yU, Bk, Fs, mq, xC, th, Bl, Lq hc os]
    simp only [dc]
    cases bQ fr o.guard with
    | none => rfl
    | some b =>
      cases b with
      | false => rfl
      | true =>
        simp only []
        cases eC fr o.xs with
        | none => rfl
        | some xs =>
          simp only [qW]
          cases o.cls with
          | new =>
            simp only []
            split <;> simp_all
          | aN =>
            simp only []
            cases cP call o.k xs st with
            | none => rfl
            | some x => rfl
          | pure =>
            simp only []
            split
            . simp_all
            . split <;> simp_all
              split <;> simp_all
          | read =>
            simp only []
            split
            . simp_all
            . split <;> simp_all
              split <;> simp_all
def Lr (r : Option (mD × Fr × St)) (kn : Fr -> St -> R) (kx : Nat -> Fr -> St -> R) (kr : Fr -> St -> R) : R := match r with
  | some (.normal, fr, st) => kn fr st
  | some (.exit id, fr, st) => kx id fr st
  | some (.ret, fr, st) => kr fr st
  | none => z
theorem Ls (hc : CK z jS call) : ∀ (m : Nat) (c : AC) (fr : Fr) (st : St) (kn : Fr -> St -> R) (kx : Nat -> Fr -> St -> R) (kr : Fr -> St -> R),
    Kz z jS m c fr st kn kx kr = Lr z (exec call m c fr st) kn kx kr
  | 0, c, fr, st, kn, kx, kr => rfl
  | m + 1, c, fr, st, kn, kx, kr => by
    have ih := Ls hc m
    show nW z jS (Kz z jS m) c fr st kn kx kr = Lr z (aQ call (exec call m) c fr st) kn kx kr
    cases c with
    | skip => rfl
    | region ops =>
      simp only [nW, aQ, Oq z hc]
      cases jy call ops fr st with
      | none => rfl
      | some x => rfl
    | draw ops =>
      simp only [nW, aQ, Lq z hc]
      cases dc call ops [] st.heap fr st with
      | none => rfl
      | some x => rfl
    | seq a b =>
      simp only [nW, aQ, ih]
      cases exec call m a fr st with
      | none => rfl
      | some x =>
        obtain ⟨e, fG, ct⟩ := x
        cases e <;> rfl
    | cond x a b =>
      simp only [nW, aQ, QV]
      cases vn fr x with
      | none => rfl
      | some v =>
        simp only [qW]
        cases v <;> try rfl
        rename_i t
        cases t <;> simp only [ih]
    | block id a =>
      simp only [nW, aQ, ih]
      cases exec call m a fr st with
      | none => rfl
      | some x =>
        obtain ⟨e, fG, ct⟩ := x
        cases e <;> try rfl
        rename_i pK
        simp only [Lr]
        cases Nat.beq pK id <;> rfl
    | loop a =>
      simp only [nW, aQ, ih]
      cases exec call m a fr st with
      | none => rfl
      | some x =>
        obtain ⟨e, fG, ct⟩ := x
        cases e <;> rfl
    | exit id => rfl
    | ret => rfl
theorem GV : ∀ (vs : List AV) (i : Nat) (fr : Fr) (k : Fr -> R), Ef vs i fr k = k (params i vs fr)
  | [], i, fr, k => rfl
  | v :: vs, i, fr, k => by
    show uy (some v) (key i) fr (fun fr => Ef vs (i + 1) fr k) = _
    rw [mq, GV vs]; rfl
theorem Nz (st : St) (fr : Fr) (rs : List Gn) (k : AV -> R) : uz z st fr rs k = qW z (fC (fun b => st.heap.get b) fr rs) fun vs => k (sO vs) := by
  unfold uz
  rw [Bl]
  cases fC (fun b => st.heap.get b) fr rs with
  | none => rfl
  | some vs =>
    simp only [Bj, qW]
    cases vs with
    | nil => rfl
    | cons v vs => cases vs <;> rfl
theorem Bm (O : fy) (G : T aK) (m : Nat) : ∀ d, CK z (Eg z O G m d) (mE O G m d)
  | 0 => fun f args st k => rfl
  | d + 1 => fun f args st k => by
    have ih := Bm O G m d
    show (match O f with
      | some s => match s args st with
        | some (v, st') => oK v fun v => k v st'
        | none => z
      | none => match xg (key f) G with
        | some F => match Nat.beq args.length F.nparams with
          | true => Ef args 0 .e fun fr => Kz z (Eg z O G m d) m F.code fr st
              (fun fr st => uz z st fr F.results fun v => k v st)
              (fun _ _ _ => z)
              (fun fr st => uz z st fr F.results fun v => k v st)
          | false => z
        | none => z) = _
    simp only [mE, yU, wT, GV, Ls z ih, Nz]
    cases O f with
    | some s =>
      simp only []
      cases s args st with
      | none => rfl
      | some x => rfl
    | none =>
      simp only []
      cases G.get (key f) with
      | none => rfl
      | some F =>
        simp only []
        cases Nat.beq args.length F.nparams with
        | false => rfl
        | true =>
          simp only []
          cases exec (mE O G m d) m F.code (params 0 args .e) st with
          | none => rfl
          | some x =>
            obtain ⟨e, fG, ct⟩ := x
            cases e with
            | normal =>
              simp only [Lr]
              cases fC (fun b => ct.heap.get b) fG F.results <;> rfl
            | exit id => rfl
            | ret =>
              simp only [Lr]
              cases fC (fun b => ct.heap.get b) fG F.results <;> rfl
end
end Go.Ai
end
section
namespace Go.Ai
open Go
def PB (P : Program) (t : Nat) (ti : TI) : Bool :=
  match P.underlying t, P.info? t with
  | some d, some i => bJ ti.k d && Nat.beq i.size ti.size && Nat.beq i.bytes ti.bytes &&
    (match ti.zero with
     | none => true
     | some z => match i.zero with
       | some v => (match nU v.cells.toList with
           | some z' => mR z' z
           | none => false) && Nat.beq z.length ti.size && (match ti.k.isAgg, v with
           | true, .agg _ => true
           | true, _ => false
           | false, .agg _ => false
           | false, _ => true)
       | none => false) && (!ti.vN || (!P.stoodInHeld t && !P.eqGuardType P.depth t))
  | _, _ => false
theorem S5 {P : Program} {t : Nat} {ti : TI} (h : PB P t ti = true) : O2 P t ti := by
  unfold PB at h
  split at h <;> first | (cases h; done) | skip
  rename_i d i hd hi
  simp only [Bool.and_eq_true, Bool.or_eq_true, Bool.not_eq_true'] at h
  obtain ⟨⟨⟨⟨h1, h2⟩, h3⟩, h4⟩, h5⟩ := h
  refine ⟨⟨d, hd, h1⟩, ⟨i, hi, Nat.eq_of_beq_eq_true h2, Nat.eq_of_beq_eq_true h3, fun z hz => ?_⟩, fun he => ?_⟩
  . rw [hz] at h4
    simp only at h4
    split at h4 <;> first | (cases h4; done) | skip
    rename_i v hv
    simp only [Bool.and_eq_true] at h4
    obtain ⟨⟨g1, g2⟩, g3⟩ := h4
    split at g1 <;> first | (cases g1; done) | skip
    rename_i z' yN
    rw [u0 g1] at yN
    refine ⟨v, hv, yN, Nat.eq_of_beq_eq_true g2, fun ha => ?_, fun ha => ?_⟩
    . rw [ha] at g3; cases v <;> first | exact ⟨_, rfl⟩ | cases g3
    . rw [ha] at g3; cases v <;> first | rfl | cases g3
  . rcases h5 with h5 | h5
    . rw [he] at h5; cases h5
    . exact h5
def wU (P : Program) : (Pos -> Pos) -> T TI -> Bool
  | _, .e => true
  | f, .n l v r => (match v with
    | some ti => PB P ((f .h).toNat - 1) ti
    | none => true) && wU P (fun p => f (.o p)) l && wU P (fun p => f (.i p)) r
theorem Bn {P : Program} : ∀ {t : T TI} {f : Pos -> Pos}, wU P f t = true -> ∀ p ti, t.get p = some ti -> O2 P ((f p).toNat - 1) ti
  | .e, f, _, p, ti, h => by rw [T.fO] at h; cases h
  | .n l v r, f, hc, p, ti, h => by
    simp only [wU, Bool.and_eq_true] at hc
    cases p with
    | h => simp only [T.get] at h; rw [h] at hc; exact S5 hc.1.1
    | o p => exact Bn hc.1.2 p ti h
    | i p => exact Bn hc.2 p ti h
theorem Wa {P : Program} {tt : TT} (h : wU P (fun p => p) tt = true) : cG P tt := fun p ti hp => Bn h p ti hp
def ah (P : Program) (tt : TT) (f : Pos -> Pos) (t : T aK) : Prop :=
  ∀ p F, t.get p = some F -> ∃ fn, P.funcs[(f p).toNat - 1]? = some fn /\ (fn.name == "runtime.NumGoroutine") = false /\ ak tt fn = some F
def bB (P : Program) (tt : TT) (i : Nat) (v : Option aK) : Prop :=
  ∀ F, v = some F -> ∃ fn, P.funcs[i]? = some fn /\ (fn.name == "runtime.NumGoroutine") = false /\ ak tt fn = some F
theorem ah.e {P : Program} {tt : TT} {f : Pos -> Pos} : ah P tt f .e := fun p F h => by rw [T.fO] at h; cases h
theorem ah.n {P : Program} {tt : TT} {f : Pos -> Pos} {l r : T aK} {v : Option aK} (hl : ah P tt (fun p => f (.o p)) l) (hv : bB P tt ((f .h).toNat - 1) v) (hr : ah P tt (fun p => f (.i p)) r) :
    ah P tt f (.n l v r) := fun p F h => by
  cases p with
  | h => exact hv F h
  | o p => exact hl p F h
  | i p => exact hr p F h
theorem bB.none {P : Program} {tt : TT} {i : Nat} : bB P tt i none := fun F h => by cases h
theorem bB.of {P : Program} {tt : TT} {i : Nat} {fn : Func} (h : P.funcs[i]? = some fn) (hn : (fn.name == "runtime.NumGoroutine") = false) : bB P tt i (ak tt fn) :=
  fun F hF => ⟨fn, h, hn, hF⟩
theorem aae {P : Program} {tt : TT} {G : T aK} (h : ah P tt (fun p => p) G) : GI P tt G := fun p F hp => h p F hp
end Go.Ai
end
section
namespace Go.Ai
open Go
structure tj (P : Program) (C : Cells) (f : FuncId) (s : List AV -> St -> Option (AV × St)) : Prop where
  mono : ∀ args st v st', s args st = some (v, st') -> st.next.toNat <= st'.next.toNat
  runs : ∀ (ρ : Pos -> Loc) (st : St) (w : World) (args : List AV) (v : AV) (st' : St) (cq : List Value), s args st = some (v, st') ->
    cw ρ C st w -> ay ρ st.next.toNat C args cq -> Reaches P (jI ρ C st w v st') ((callFunc f cq.toArray).run P w)
def tq : List (Nat × (List AV -> St -> Option (AV × St))) -> fy
  | [] => fun _ => none
  | (g, s) :: l => fun f => match Nat.beq f g with
    | true => some s
    | false => tq l f
theorem xD {P : Program} {C : Cells} : ∀ {l : List (Nat × (List AV -> St -> Option (AV × St)))}, (∀ x ∈ l, tj P C x.1 x.2) -> qd P C (tq l) /\ kO (tq l)
  | [], _ => ⟨fun f s h => by simp [tq] at h, fun f s h => by simp [tq] at h⟩
  | (g, s0) :: l, hl => by
    obtain ⟨h1, h2⟩ := xD fun x hx => hl x (List.mem_cons_of_mem _ hx)
    have h0 := hl _ (List.mem_cons_self ..)
    refine ⟨fun f s h => ?_, fun f s h => ?_⟩
    . simp only [tq] at h
      split at h
      . rename_i he
        simp only [Option.some.injEq] at h; subst h
        have := Nat.eq_of_beq_eq_true he; subst this
        exact h0.runs
      . exact h1 f s h
    . simp only [tq] at h
      split at h
      . simp only [Option.some.injEq] at h; subst h
        exact h0.mono
      . exact h2 f s h
def vP : List AV -> St -> Option (AV × St)
  | [.str a, .str b], st => some (.int .i64 (match aA a b with
    | true => .negSucc 0
    | false => match aA b a with
      | true => .ofNat 1
      | false => .ofNat 0), st)
  | _, _ => none
theorem Dh : ∀ (x y : List UInt8), Lib.compareBytes x y = match aA (x.map UInt8.toNat) (y.map UInt8.toNat) with
    | true => .negSucc 0
    | false => match aA (y.map UInt8.toNat) (x.map UInt8.toNat) with
      | true => .ofNat 1
      | false => .ofNat 0
  | [], [] => rfl
  | [], _ :: _ => rfl
  | _ :: _, [] => rfl
  | a :: x, b :: y => by
    rw [o5, o5]
    have ih := Dh x y
    rw [o5, o5] at ih
    simp only [Lib.compareBytes, Op.bytesLess]
    by_cases h : a < b
    . simp [h]
    . by_cases h' : b < a
      . have cM : (a == b) = false := by
          rw [beq_eq_false_iff_ne]
          exact fun e => by subst e; exact h h'
        simp [h, h', cM]
      . have he : a = b := by
          apply UInt8.toNat_inj.1
          rw [UInt8.lt_iff_toNat_lt] at h h'
          omega
        subst he
        simp only [h, if_false, ih]
        simp
theorem S6 {P : Program} {C : Cells} {f : FuncId} {fn : Func} (hf : P.funcs[f]? = some fn) (pM : (fn.name == "runtime.NumGoroutine") = false) (hb : fn.body.isNone = true)
    (hx : Extern.findNext fn = none) (he : Extern.find fn = some Extern.BytealgCompare.compare) : tj P C f vP where
  mono args st v st' h := by
    unfold vP at h
    split at h <;> cases h
    exact Nat.le_refl _
  runs ρ st w args v st' cq h hW hv := by
    unfold vP at h
    split at h <;> cases h
    rename_i a b
    obtain ⟨x, xs, rfl, h1, h2⟩ := hv.cons_inv
    obtain ⟨y, ys, rfl, h3, h4⟩ := h2.cons_inv
    have := h4.o4; subst this
    obtain ⟨s, rfl, hs⟩ := h1.dZ
    obtain ⟨t, rfl, ht⟩ := h3.dZ
    have cH : (callFunc f [Value.string s, Value.string t].toArray).run P w = .ok (.value (.int .i64 (Lib.compareBytes s.data.toList t.data.toList))) w := by
      rw [run_callFunc_extern hf pM hb hx he]
      show ((Extern.BytealgCompare.compare #[.string s, .string t]).run P w).andThen _ = _
      rw [Lib.run_compareString]
      rfl
    rw [cH]
    refine ⟨ρ, ?_, fun _ _ => rfl, Nat.le_refl _, hW, ny.refl _ _ _⟩
    rw [Dh, hs, ht]
    exact .int _ _
end Go.Ai
end
section
namespace Go.Ai
open Go
theorem cw.sub {ρ : Pos -> Loc} {C : Cells} {st : St} {w : World} (h : cw ρ C st w) {h2 : T AB} (hs : ∀ b x, h2.get b = some x -> st.heap.get b = some x) : cw ρ C { heap := h2, next := st.next } w where
  live b x hb := h.live b x (hs b x hb)
  inj b b' x x' hb gw he := h.inj b b' x x' (hs b x hb) (hs b' x' gw) he
  fD a v ha := ⟨(h.fD a v ha).1, fun b x hb => (h.fD a v ha).2 b x (hs b x hb)⟩
theorem jI.frame {ρ : Pos -> Loc} {C : Cells} {st st' : St} {w w' : World} {v : AV} {x : Value} {h0 h2 : T AB} (hW : cw ρ C st w) (qf : ∀ b y, h0.get b = some y -> st.heap.get b = some y)
    (h : jI ρ C { heap := h0, next := st.next } w v st' x w')
    (QW : ∀ b y, h2.get b = some y -> st'.heap.get b = some y \/ (st.heap.get b = some y /\ h0.get b = none)) :
    jI ρ C st w v { heap := h2, next := st'.next } x w' := by
  obtain ⟨ρ', hv, aY, hn, fV, hE⟩ := h
  have hold : ∀ b y, st.heap.get b = some y -> h0.get b = none -> ∀ b' y', h0.get b' = some y' -> (ρ b').aF ≠ (ρ b).aF := fun b y hb sU b' y' gw e => by
    have := hW.inj b' b y' y (qf b' y' gw) hb e
    subst this; rw [sU] at gw; cases gw
  have QX : ∀ b y b' y', st'.heap.get b = some y -> st.heap.get b' = some y' -> h0.get b' = none -> (ρ' b).aF ≠ (ρ' b').aF := fun b y b' y' hb gw sU e => by
    rw [aY b' (hW.live b' y' gw).1] at e
    rcases hE.rV b y hb with ⟨b2, y2, g1, g2⟩ | g1
    . exact hold b' y' gw sU b2 y2 g1 (g2.trans e)
    . have := (hW.live b' y' gw).2.1; omega
  refine ⟨ρ', hv, aY, hn, ⟨fun b y hb => ?_, fun b b' y y' hb gw he => ?_, fun a u ha => ⟨(fV.fD a u ha).1, fun b y hb => ?_⟩⟩, ⟨hE.os, hE.tape, hE.output, hE.size, fun k hk lp => ?_, fun b y hb => ?_⟩⟩
  . rcases QW b y hb with hb | ⟨hb, sU⟩
    . exact fV.live b y hb
    . obtain ⟨g1, g2, g3⟩ := hW.live b y hb
      refine ⟨Nat.lt_of_lt_of_le g1 hn, ?_, ?_⟩
      . rw [aY b g1]; exact Nat.lt_of_lt_of_le g2 hE.size
      . rw [aY b g1]
        exact (g3.mono aY hn).of_heap (hE.block _ g2 fun b' y' gw => hold b y hb sU b' y' gw)
  . rcases QW b y hb with hb | ⟨hb, sU⟩ <;> rcases QW b' y' gw with gw | ⟨gw, hb0'⟩
    . exact fV.inj b b' y y' hb gw he
    . exact absurd he (QX b y b' y' hb gw hb0')
    . exact absurd he.symm (QX b' y' b y gw hb sU)
    . rw [aY b (hW.live b y hb).1, aY b' (hW.live b' y' gw).1] at he
      exact hW.inj b b' y y' hb gw he
  . rcases QW b y hb with hb | ⟨hb, sU⟩
    . exact (fV.fD a u ha).2 b y hb
    . rw [aY b (hW.live b y hb).1]; exact (hW.fD a u ha).2 b y hb
  . exact hE.block k hk fun b y hb => lp b y (qf b y hb)
  . rcases QW b y hb with hb | ⟨hb, sU⟩
    . rcases hE.rV b y hb with ⟨b', y', g1, g2⟩ | g1
      . exact .inl ⟨b', y', qf b' y' g1, g2⟩
      . exact .inr g1
    . exact .inl ⟨b, y, hb, by rw [aY b (hW.live b y hb).1]⟩
def xE : List AV -> List AV -> Bool
  | [], [] => true
  | a :: x, b :: y => gL a b && xE x y
  | _, _ => false
theorem Di : ∀ {a b : List AV}, xE a b = true -> a = b
  | [], [], _ => rfl
  | [], _ :: _, h => by simp [xE] at h
  | _ :: _, [], h => by simp [xE] at h
  | a :: x, b :: y, h => by
    simp only [xE, Bool.and_eq_true] at h
    rw [uG h.1, Di h.2]
def Bo : List (AV × AV × Nat) -> List (AV × AV × Nat) -> Bool
  | [], [] => true
  | (a, b, n) :: x, (a', b', n') :: y => gL a a' && gL b b' && Nat.beq n n' && Bo x y
  | _, _ => false
theorem Ft : ∀ {a b : List (AV × AV × Nat)}, Bo a b = true -> a = b
  | [], [], _ => rfl
  | [], _ :: _, h => by simp [Bo] at h
  | _ :: _, [], h => by simp [Bo] at h
  | (a, b, n) :: x, (a', b', n') :: y, h => by
    simp only [Bo, Bool.and_eq_true] at h
    obtain ⟨⟨⟨h1, h2⟩, h3⟩, h4⟩ := h
    rw [uG h1, uG h2, Nat.eq_of_beq_eq_true h3, Ft h4]
def PC : AB -> AB -> Bool
  | .cells cs fz, .cells lK fz' => xE cs lK && Nat.beq fz fz'
  | .map es c, .map bR c' => Bo es bR && Nat.beq c c'
  | .j8 s p, .j8 s' p' => ia s s' && Nat.beq p p'
  | _, _ => false
theorem S7 {a b : AB} (h : PC a b = true) : a = b := by
  unfold PC at h
  split at h <;> (try simp only [Bool.and_eq_true] at h)
  . rw [Di h.1, Nat.eq_of_beq_eq_true h.2]
  . rw [Ft h.1, Nat.eq_of_beq_eq_true h.2]
  . rw [kM.1 h.1, Nat.eq_of_beq_eq_true h.2]
  . cases h
def hasAll (h : T AB) : List (Pos × AB) -> Bool
  | [] => true
  | (b, x) :: l => (match h.get b with
    | some y => PC y x
    | none => false) && hasAll h l
theorem Dj {h : T AB} : ∀ {l : List (Pos × AB)}, hasAll h l = true -> ∀ b x, (b, x) ∈ l -> h.get b = some x
  | [], _, b, x, hm => by cases hm
  | (b0, x0) :: l, hh, b, x, hm => by
    simp only [hasAll, Bool.and_eq_true] at hh
    rcases List.mem_cons.1 hm with hm | hm
    . cases hm
      have h1 := hh.1
      split at h1 <;> first | (cases h1; done) | skip
      rename_i y hy
      rw [hy, S7 h1]
    . exact Dj hh.2 b x hm
theorem yV : ∀ {l : List (Pos × AB)} {h : T AB} {b : Pos} {x : AB}, (fN l h).get b = some x -> (b, x) ∈ l \/ (h.get b = some x /\ ∀ y ∈ l, y.1 ≠ b)
  | [], h, b, x, hb => .inr ⟨hb, fun y hy => by cases hy⟩
  | (b0, x0) :: l, h, b, x, hb => by
    unfold fN at hb
    by_cases e : b0 = b
    . subst e
      rw [T.fQ] at hb
      simp only [Option.some.injEq] at hb; subst hb
      exact .inl (List.mem_cons_self ..)
    . rw [T.bT _ e] at hb
      rcases yV hb with h1 | ⟨h1, h2⟩
      . exact .inl (List.mem_cons_of_mem _ h1)
      . refine .inr ⟨h1, fun y hy => ?_⟩
        rcases List.mem_cons.1 hy with rfl | hy
        . exact e
        . exact h2 y hy
structure Lit where
  args : List AV
  n0 : Pos
  L0 : List (Pos × AB)
  v : AV
  n1 : Pos
  L1 : List (Pos × AB)
def GW (l m : List (Pos × AB)) : Bool := l.all fun x => m.any fun y => Pos.beq x.1 y.1
def Bp (t : Lit) : List AV -> St -> Option (AV × St) := fun args st =>
  match xE args t.args && Pos.beq st.next t.n0 && hasAll st.heap t.L0 with
  | true => some (t.v, { heap := fN t.L1 st.heap, next := t.n1 })
  | false => none
noncomputable def GX (t : Lit) (O : fy) (G : T aK) (m d f : Nat) : Bool :=
  Eg (R := Bool) false O G m d f t.args { heap := fN t.L0 .e, next := t.n0 } fun v st => gL v t.v && Pos.beq st.next t.n1 && hasAll st.heap t.L1
theorem Lt {P : Program} {C : Cells} {t : Lit} {O : fy} {G : T aK} {m d f : Nat} (gW : kD P C (mE O G m d)) (Pz : ku (mE O G m d))
    (hk : GW t.L0 t.L1 = true) (h : GX t O G m d f = true) : tj P C f (Bp t) := by
  unfold GX at h
  rw [Bm false O G m d] at h
  unfold qW at h
  split at h <;> first | (cases h; done) | skip
  rename_i x hx
  obtain ⟨v, ct⟩ := x
  simp only [Bool.and_eq_true] at h
  obtain ⟨⟨h1, h2⟩, h3⟩ := h
  have h1 := uG h1
  have h2 := Pos.beq_eq.1 h2
  subst h1
  have unf : ∀ args st v' st', Bp t args st = some (v', st') -> args = t.args /\ st.next = t.n0 /\ hasAll st.heap t.L0 = true /\ v' = t.v /\ st' = { heap := fN t.L1 st.heap, next := t.n1 } := by
    intro args st v' st' hs
    unfold Bp at hs
    split at hs <;> first | (cases hs; done) | skip
    rename_i hc
    simp only [Bool.and_eq_true] at hc
    simp only [Option.some.injEq, Prod.mk.injEq] at hs
    exact ⟨Di hc.1.1, Pos.beq_eq.1 hc.1.2, hc.2, hs.1.symm, hs.2.symm⟩
  refine ⟨fun args st v' st' hs => ?_, fun ρ st w args v' st' cq hs hW hv => ?_⟩
  . obtain ⟨rfl, g2, g3, rfl, rfl⟩ := unf _ _ _ _ hs
    have := Pz _ _ _ _ _ hx
    rw [g2, <- h2]; exact this
  . obtain ⟨rfl, g2, g3, rfl, rfl⟩ := unf _ _ _ _ hs
    have qf : ∀ b y, (fN t.L0 T.e).get b = some y -> st.heap.get b = some y := fun b y hb => by
      rcases yV hb with hb | ⟨hb, _⟩
      . exact Dj g3 b y hb
      . rw [T.fO] at hb; cases hb
    have Dk : mE O G m d f t.args { heap := fN t.L0 .e, next := st.next } = some (t.v, ct) := by rw [g2]; exact hx
    refine Reaches.mono (fun x w' hp => ?_) (gW ρ _ w f t.args t.v ct cq Dk (hW.sub qf) hv)
    have := hp.frame hW qf (h2 := fN t.L1 st.heap) fun b y hb => by
      rcases yV hb with hb | ⟨hb, lp⟩
      . exact .inl (Dj h3 b y hb)
      . refine .inr ⟨hb, ?_⟩
        cases hg : (fN t.L0 T.e).get b with
        | none => rfl
        | some u =>
          exfalso
          rcases yV hg with hg | ⟨hg, _⟩
          . unfold GW at hk
            rw [List.all_eq_true] at hk
            have := hk _ hg
            rw [List.any_eq_true] at this
            obtain ⟨y', QO, he⟩ := this
            exact lp y' QO (Pos.beq_eq.1 he).symm
          . rw [T.fO] at hg; cases hg
    rw [h2] at this
    exact this
end Go.Ai
end
section
namespace Go.Ai
open Go
def GY (s t : List AV -> St -> Option (AV × St)) : List AV -> St -> Option (AV × St) := fun args st => match s args st with
  | some r => some r
  | none => t args st
theorem Lu {P : Program} {C : Cells} {f : FuncId} {s t : List AV -> St -> Option (AV × St)} (hs : tj P C f s) (ht : tj P C f t) : tj P C f (GY s t) where
  mono args st v st' h := by
    unfold GY at h
    split at h
    . rename_i r hr
      simp only [Option.some.injEq] at h; subst h
      exact hs.mono _ _ _ _ hr
    . exact ht.mono _ _ _ _ h
  runs ρ st w args v st' cq h hW hv := by
    unfold GY at h
    split at h
    . rename_i r hr
      simp only [Option.some.injEq] at h; subst h
      exact hs.runs ρ st w args v st' cq hr hW hv
    . exact ht.runs ρ st w args v st' cq h hW hv
end Go.Ai
end
