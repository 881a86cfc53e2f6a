/- Functions of the program as plain functions over the evaluator's values, and data that a caller lays as such values. -/
import Derived.Test.YtogojkhbplmifaaGreatDoorEvalD
import Derived.KernelRfl
import Derived.ChangeArms
import Derived.WalkKit
import Derived.OpenShut
import Derived.ProofKit
import Derived.Below
import Derived.Carry
import Derived.WideShapes
import Derived.ChangeSame
import Derived.ChangeMaps5
import Derived.ShutString
set_option linter.all false
set_option linter.unusedSectionVars false
set_option linter.deprecated false
section
namespace Go.Ai
open Go Go.RowKit
def yW (c c' : ai) : Prop := ∀ f args st r, c f args st = some r -> c' f args st = some r
theorem yW.refl (c : ai) : yW c c := fun _ _ _ _ h => h
theorem yW.trans {a b c : ai} (h : yW a b) (k : yW b c) : yW a c := fun _ _ _ _ e => k _ _ _ _ (h _ _ _ _ e)
section
variable {c c' : ai}
theorem Bq (h : yW c c') {k : aE} {xs : List AV} {st : St} {r : AV × St} (e : cP c k xs st = some r) : cP c' k xs st = some r := by
  unfold cP at e ⊢
  cases hr : k.run (fun b => st.heap.get b) st.next xs with
  | none => simp [hr] at e
  | some x => cases x with
    | val v => simpa [hr] using e
    | aN v d s n => simpa [hr] using e
    | call f args => simp only [hr] at e ⊢; exact h _ _ _ _ e
theorem El (h : yW c c') : ∀ (os : List bI) (fr : Fr) (st : St) (r : Fr × St), jy c os fr st = some r -> jy c' os fr st = some r
  | [], _, _, _, e => e
  | o :: os, fr, st, r, e => by
    unfold jy at e ⊢
    cases hw : bQ fr o.guard with
    | none => simp [hw] at e
    | some b => cases b with
      | false => simp only [hw] at e ⊢; exact El h _ _ _ _ e
      | true =>
        simp only [hw] at e ⊢
        cases hx : eC fr o.xs with
        | none => simp [hx] at e
        | some xs =>
          simp only [hx] at e ⊢
          cases hs : cP c o.k xs st with
          | none => simp [hs] at e
          | some p => simp only [hs] at e; simp only [Bq h hs]; exact El h _ _ _ _ e
theorem Fu (h : yW c c') : ∀ (os : List (Nat × bI)) (recs : List Rec) (base : T AB) (fr : Fr) (st : St) (r : Fr × St), dc c os recs base fr st = some r -> dc c' os recs base fr st = some r
  | [], _, _, _, _, _, e => e
  | (j, o) :: os, recs, base, fr, st, r, e => by
    have ih := Fu h os
    unfold dc at e ⊢
    cases hw : bQ fr o.guard with
    | none => simp [hw] at e
    | some b => cases b with
      | false => simp only [hw] at e ⊢; exact ih _ _ _ _ _ e
      | true =>
        simp only [hw] at e ⊢
        cases hx : eC fr o.xs with
        | none => simp [hx] at e
        | some xs =>
          simp only [hx] at e ⊢
          cases hc : o.cls with
          | aN =>
            simp only [hc] at e ⊢
            cases hs : cP c o.k xs st with
            | none => simp [hs] at e
            | some p => simp only [hs] at e; simp only [Bq h hs]; exact ih _ _ _ _ _ e
          | new =>
            simp only [hc] at e ⊢
            split at e <;> first | (cases e; done) | exact ih _ _ _ _ _ e
          | pure =>
            simp only [hc] at e ⊢
            split at e <;> (try split at e) <;> (try split at e) <;> first | (cases e; done) | (simp only [*]; exact ih _ _ _ _ _ e) | exact ih _ _ _ _ _ e
          | read =>
            simp only [hc] at e ⊢
            split at e <;> (try split at e) <;> (try split at e) <;> first | (cases e; done) | (simp only [*]; exact ih _ _ _ _ _ e) | exact ih _ _ _ _ _ e
theorem Em (h : yW c c') : ∀ (n m : Nat), n <= m -> ∀ (a : AC) (fr : Fr) (st : St) (r : mD × Fr × St), exec c n a fr st = some r -> exec c' m a fr st = some r
  | 0, _, _, _, _, _, _, e => by simp [exec] at e
  | n + 1, 0, hm, _, _, _, _, _ => by omega
  | n + 1, m + 1, hm, a, fr, st, r, e => by
    have ih := Em h n m (by omega)
    cases a <;> simp only [exec, aQ] at e ⊢
    case skip => exact e
    case exit => exact e
    case ret => exact e
    case region ops =>
      cases ho : jy c ops fr st with
      | none => simp [ho] at e
      | some p => simp only [ho] at e; simp only [El h _ _ _ _ ho]; exact e
    case draw ops =>
      cases ho : dc c ops [] st.heap fr st with
      | none => simp [ho] at e
      | some p => simp only [ho] at e; simp only [Fu h _ _ _ _ _ _ ho]; exact e
    case seq a b =>
      cases ha : exec c n a fr st with
      | none => simp [ha] at e
      | some p =>
        obtain ⟨ex, fG, ct⟩ := p
        simp only [ha] at e; simp only [ih _ _ _ _ ha]
        cases ex <;> first | exact e | exact ih _ _ _ _ e
    case cond x a b =>
      split at e
      . exact ih _ _ _ _ e
      . exact ih _ _ _ _ e
      . cases e
    case block id a =>
      cases ha : exec c n a fr st with
      | none => simp [ha] at e
      | some p =>
        obtain ⟨ex, fG, ct⟩ := p
        simp only [ha] at e; simp only [ih _ _ _ _ ha]
        cases ex <;> exact e
    case loop a =>
      cases ha : exec c n a fr st with
      | none => simp [ha] at e
      | some p =>
        obtain ⟨ex, fG, ct⟩ := p
        simp only [ha] at e; simp only [ih _ _ _ _ ha]
        cases ex <;> first | exact e | exact ih _ _ _ _ e
end
def Plain (v : AV) : Prop := ∀ (ρ ρ' : Pos -> Loc) (n n' : Nat) (C : Cells) (x : Value), ax ρ n C v x -> ax ρ' n' C v x
theorem Plain.bool (b : Bool) : Plain (.bool b) := fun _ _ _ _ _ _ h => by cases h; exact .bool b
theorem Plain.int (k : IntKind) (i : Int) : Plain (.int k i) := fun _ _ _ _ _ _ h => by cases h; exact .int k i
theorem Plain.str (s : List Nat) : Plain (.str s) := fun _ _ _ _ _ _ h => by cases h with | str _ bs h => exact .str s bs h
theorem Plain.cU : Plain .cU := fun _ _ _ _ _ _ h => by cases h; exact .cU
theorem Plain.av : Plain .av := fun _ _ _ _ _ _ h => by cases h; exact .av
theorem Plain.iy : Plain .iy := fun _ _ _ _ _ _ h => by cases h; exact .iy
theorem Plain.aq : Plain .aq := fun _ _ _ _ _ _ h => by cases h; exact .aq
theorem Plain.func (f : FuncId) {a b : List AV} (ha : ∀ v ∈ a, Plain v) (hb : ∀ v ∈ b, Plain v) : Plain (.func f a b) := fun _ _ _ _ _ _ h => by
  cases h with
  | func _ _ _ a' b' hx hy h1 h2 => exact .func f a b a' b' hx hy (fun i v x hv hx => ha v (List.mem_of_getElem? hv) _ _ _ _ _ _ (h1 i v x hv hx)) (fun i v x hv hx => hb v (List.mem_of_getElem? hv) _ _ _ _ _ _ (h2 i v x hv hx))
theorem Plain.tuple {l : List AV} (hl : ∀ v ∈ l, Plain v) : Plain (.tuple l) := fun _ _ _ _ _ _ h => by
  cases h with
  | tuple _ cs hx h1 => exact .tuple l cs hx fun i v x hv hx => hl v (List.mem_of_getElem? hv) _ _ _ _ _ _ (h1 i v x hv hx)
theorem Plain.agg {l : List AV} (hl : ∀ v ∈ l, Plain v) : Plain (.agg l) := fun _ _ _ _ _ _ h => by
  cases h with
  | agg _ cs hx h1 => exact .agg l cs hx fun i v x hv hx => hl v (List.mem_of_getElem? hv) _ _ _ _ _ _ (h1 i v x hv hx)
theorem Plain.fl {xs : List (List AV)} {es : Nat} (hl : ∀ cs ∈ xs, ∀ v ∈ cs, Plain v) : Plain (.fl xs es) := fun _ _ _ _ _ _ h => by
  cases h with
  | fl _ _ aU a cell h1 h2 h3 h4 h5 => exact .fl xs es aU a cell h1 h2 h3 h4 fun i j cs v hi hj => hl cs (List.mem_of_getElem? hi) v (List.mem_of_getElem? hj) _ _ _ _ _ _ (h5 i j cs v hi hj)
def bY (st st' : St) : Prop := ∀ b x, st.heap.get b = some x -> st'.heap.get b = some x
theorem bY.refl (st : St) : bY st st := fun _ _ h => h
theorem bY.trans {a b c : St} (h : bY a b) (k : bY b c) : bY a c := fun _ _ e => k _ _ (h _ _ e)
theorem ax.down {ρ ρ' : Pos -> Loc} {n n' : Nat} {C : Cells} {v : AV} {x : Value} (h : ax ρ' n' C v x) : ∀ {y : Value}, ax ρ n C v y -> (∀ b : Pos, b.toNat < n -> ρ' b = ρ b) -> ax ρ n C v x := by
  induction h with
  | bool b => exact fun h _ => .bool b
  | int k i => exact fun h _ => .int k i
  | str s bs h => exact fun _ _ => .str s bs h
  | cU => exact fun _ _ => .cU
  | ptr b off h =>
    intro y h aY
    cases h with
    | ptr _ _ h' => rw [aY b h']; exact .ptr b off h'
  | fp xs i j es aF base cell hl hc hv ih =>
    intro y h aY
    cases h with
    | fp _ _ _ bR vO PD ab1 Vb vX z6 => exact .fp xs i j es aF base cell hl hc fun i j cs v hi hj => ih i j cs v hi hj (z6 i j cs v hi hj) aY
  | av => exact fun _ _ => .av
  | slice b off len cap es aU a hl hc ha hk =>
    intro y h aY
    cases h with
    | slice _ _ _ _ _ Vv a' Vb vX ha' ug =>
      refine .slice b off len cap es aU a hl hc (fun h0 => ?_) ug
      obtain ⟨h1, h2, h3⟩ := ha h0
      have hb : b.toNat < n := by
        cases cap with
        | none => exact ug rfl
        | some c =>
          have e1 := hc c rfl
          have e2 := vX c rfl
          exact (ha' (by rw [<- e2, e1]; exact h0)).1
      rw [aY b hb] at h2 h3; exact ⟨hb, h2, h3⟩
  | fl xs es aU a cell hl hs gG hc hv ih =>
    intro y h aY
    cases h with
    | fl _ _ Vv a' ab1 Vb lJ hes' vX z6 => exact .fl xs es aU a cell hl hs gG hc fun i j cs v hi hj => ih i j cs v hi hj (z6 i j cs v hi hj) aY
  | iy => exact fun _ _ => .iy
  | map b h =>
    intro y h aY
    cases h with
    | map _ h' => rw [aY b h']; exact .map b h'
  | func f x y x' y' hx hy h1 h2 ZY ZZ =>
    intro z h aY
    cases h with
    | func _ _ _ a' b' kx ky k1 k2 =>
      refine .func f x y x' y' hx hy (fun i v x hv Dk => ?_) (fun i v x hv Dk => ?_)
      . have hi : i < a'.size := by rw [<- kx]; exact (List.getElem?_eq_some_iff.1 hv).1
        exact ZY i v x hv Dk (k1 i v _ hv (Array.getElem?_eq_getElem hi)) aY
      . have hi : i < b'.size := by rw [<- ky]; exact (List.getElem?_eq_some_iff.1 hv).1
        exact ZZ i v x hv Dk (k2 i v _ hv (Array.getElem?_eq_getElem hi)) aY
  | aq => exact fun _ _ => .aq
  | qU => exact fun _ _ => .qU
  | iface t v x _ ih =>
    intro y h aY
    cases h with
    | iface _ _ x' h' => exact .iface t v x (ih h' aY)
  | agg l cs hx h1 ih =>
    intro y h aY
    cases h with
    | agg _ lK kx k1 =>
      refine .agg l cs hx fun i v x hv Dk => ?_
      have hi : i < lK.size := by rw [<- kx]; exact (List.getElem?_eq_some_iff.1 hv).1
      exact ih i v x hv Dk (k1 i v _ hv (Array.getElem?_eq_getElem hi)) aY
  | tuple l cs hx h1 ih =>
    intro y h aY
    cases h with
    | tuple _ lK kx k1 =>
      refine .tuple l cs hx fun i v x hv Dk => ?_
      have hi : i < lK.size := by rw [<- kx]; exact (List.getElem?_eq_some_iff.1 hv).1
      exact ih i v x hv Dk (k1 i v _ hv (Array.getElem?_eq_getElem hi)) aY
end Go.Ai
end
section
noncomputable section
namespace Go.Ai
open Go Go.RowKit
def tidy (st : St) (r : AV × St) : AV × St := open Classical in if Plain r.1 /\ bY st r.2 then (r.1, st) else r
theorem QY {ρ : Pos -> Loc} {C : Cells} {st : St} {w w' : World} {r : AV × St} {x : Value} (hW : cw ρ C st w) (h : jI ρ C st w r.1 r.2 x w') :
    jI ρ C st w (tidy st r).1 (tidy st r).2 x w' := by
  unfold tidy
  split
  . rename_i hp
    obtain ⟨ρ', hv, aY, hn, fV, hE⟩ := h
    refine ⟨ρ, hp.1 _ _ _ _ _ _ hv, fun _ _ => rfl, Nat.le_refl _, ⟨fun b y hb => ?_, hW.inj, fun a u ha => ⟨(fV.fD a u ha).1, (hW.fD a u ha).2⟩⟩, ⟨hE.os, hE.tape, hE.output, hE.size, hE.block, fun b y hb => .inl ⟨b, y, hb, rfl⟩⟩⟩
    obtain ⟨g1, g2, g3⟩ := hW.live b y hb
    obtain ⟨_, _, k3⟩ := fV.live b y (hp.2 b y hb)
    refine ⟨g1, Nat.lt_of_lt_of_le g2 hE.size, ?_⟩
    rw [aY b g1] at k3
    cases y with
    | cells cs fz =>
      obtain ⟨c, e, fr, q1, q2, q3, q4, q5⟩ := k3
      obtain ⟨c0, e0, cg, p1, p2, p3, p4, p5⟩ := g3
      refine ⟨c, e, fr, q1, q2, q3, ⟨q4.1, fun i v x hv hx => ?_⟩, q5⟩
      obtain ⟨y0, hy0, EK⟩ := p4.get hv
      exact (q4.2 i v x hv hx).down EK aY
    | map es clock =>
      obtain ⟨bR, q1, q2, q3⟩ := k3
      obtain ⟨es0, p1, p2, p3⟩ := g3
      refine ⟨bR, q1, q2, fun i e e' he oJ => ?_⟩
      obtain ⟨a1, a2, a3⟩ := q3 i e e' he oJ
      have hi : i < es0.size := by rw [<- p2]; exact (List.getElem?_eq_some_iff.1 he).1
      obtain ⟨b1, b2, _⟩ := p3 i e _ he (Array.getElem?_eq_getElem hi)
      exact ⟨a1.down b1 aY, a2.down b2 aY, a3⟩
    | j8 s pos => exact k3
  . exact h
theorem QZ {st : St} {r : AV × St} (h : st.next.toNat <= r.2.next.toNat) : st.next.toNat <= (tidy st r).2.next.toNat := by
  unfold tidy; split
  . exact Nat.le_refl _
  . exact h
def pN (call : ai) (m : Nat) (F : aK) (args : List AV) (st : St) : Option (AV × St) :=
  match Nat.beq args.length F.nparams with
  | true => match exec call m F.code (params 0 args .e) st with
    | some (.normal, fr, st') => match fC (fun b => st'.heap.get b) fr F.results with
      | some vs => some (sO vs, st')
      | none => none
    | some (.ret, fr, st') => match fC (fun b => st'.heap.get b) fr F.results with
      | some vs => some (sO vs, st')
      | none => none
    | _ => none
  | false => none
def pO (O : fy) (G : T aK) (m : Nat) : Nat -> ai
  | 0 => fun _ _ _ => none
  | d + 1 => fun f args st => match O f with
    | some s => s args st
    | none => match G.get (key f) with
      | some F => (pN (pO O G m d) m F args st).map (tidy st)
      | none => none
section
variable {P : Program} {tt : TT} {C : Cells}
theorem PE (hT : cG P tt) {G : T aK} (hG : GI P tt G) {call : ai} (gW : kD P C call) (sX : C9 P tt C call) (m : Nat) {f : FuncId} {F : aK} (hF : G.get (key f) = some F)
    {ρ : Pos -> Loc} {st : St} {w : World} {args : List AV} {v : AV} {st' : St} {cq : List Value} (h : pN call m F args st = some (v, st')) (hW : cw ρ C st w) (rM : ay ρ st.next.toNat C args cq) :
    Reaches P (jI ρ C st w v st') ((callFunc f cq.toArray).run P w) := by
  unfold pN at h
  split at h <;> first | (cases h; done) | skip
  rename_i hlen
  have hlen := Nat.eq_of_beq_eq_true hlen
  obtain ⟨fn, iw, pM, xy⟩ := hG _ _ hF
  rw [iG, Nat.add_sub_cancel] at iw
  unfold ak at xy
  split at xy <;> first | (cases xy; done) | skip
  rename_i c hb
  split at xy <;> first | (cases xy; done) | skip
  rename_i ac rs QK Oh hle
  simp only [Option.some.injEq] at xy; subst xy
  simp only at h hlen
  have hle := Nat.le_of_ble_eq_true hle
  have cH : (callFunc f cq.toArray).run P w = .ok (.enter f cq.toArray) w := by
    have Ld : ¬ fn.name = "runtime.NumGoroutine" := by simpa using pM
    simp [callFunc, iw, Ld, hb]
  rw [cH]
  simp only [Reaches]
  refine calls_of_wp iw hb ?_
  have gO : cq.length <= fn.ntmps := by rw [<- rM.1, hlen]; exact hle
  have hS : Ba fn.ntmps ρ C (params 0 args .e) st { tmps := cq.toArray ++ Array.replicate (fn.ntmps - cq.toArray.size) undef, defers := [] } w := by
    refine ⟨hW, ?_, ?_, rfl⟩
    . refine Bc args cq 0 .e rM (fun j x hx => ?_) (fun p v hp => by rw [T.fO] at hp; cases hp)
      have hj : j < cq.length := (List.getElem?_eq_some_iff.1 hx).1
      rw [Nat.zero_add, Array.getElem?_append_left (by simpa using hj)]
      simpa using hx
    . simp; omega
  split at h <;> first | (cases h; done) | skip
  . rename_i fG ct h1
    split at h <;> first | (cases h; done) | skip
    rename_i vs sB
    simp only [Option.some.injEq, Prod.mk.injEq] at h
    obtain ⟨rfl, rfl⟩ := h
    refine (sY hT gW sX m).1 c ac _ fG st ct .normal ρ _ w _ QK h1 hS fun a' w' hp => ?_
    obtain ⟨ig, qc, k1, k2, k3⟩ := hp
    obtain ⟨y, EG, EH⟩ := rL hT qc.W qc.F Oh sB
    exact ⟨qc.defers, y, EG, ig, EH, k1, k2, qc.W, k3⟩
  . rename_i fG ct h1
    split at h <;> first | (cases h; done) | skip
    rename_i vs sB
    simp only [Option.some.injEq, Prod.mk.injEq] at h
    obtain ⟨rfl, rfl⟩ := h
    refine (sY hT gW sX m).1 c ac _ fG st ct .ret ρ _ w _ QK h1 hS fun a' w' hp => ?_
    obtain ⟨ig, qc, k1, k2, k3⟩ := hp
    obtain ⟨y, EG, EH⟩ := rL hT qc.W qc.F Oh sB
    exact ⟨qc.defers, y, EG, ig, EH, k1, k2, qc.W, k3⟩
theorem Q0 {call : ai} (hm : ku call) {m : Nat} {F : aK} {args : List AV} {st : St} {v : AV} {st' : St} (h : pN call m F args st = some (v, st')) : st.next.toNat <= st'.next.toNat := by
  unfold pN at h
  split at h <;> first | (cases h; done) | skip
  split at h <;> first | (cases h; done) | skip
  all_goals
    rename_i h1
    split at h <;> first | (cases h; done) | skip
    simp only [Option.some.injEq, Prod.mk.injEq] at h
    obtain ⟨rfl, rfl⟩ := h
    exact yP hm _ _ _ _ _ _ _ h1
theorem GZ {O : fy} {G : T aK} (hO : kO O) (m : Nat) : ∀ d, ku (pO O G m d)
  | 0 => fun f args st v st' h => by simp [pO] at h
  | d + 1 => fun f args st v st' h => by
    unfold pO at h
    split at h
    . rename_i s hs; exact hO _ _ hs _ _ _ _ h
    . split at h <;> first | (cases h; done) | skip
      simp only [Option.map_eq_some_iff] at h
      obtain ⟨r, hr, he⟩ := h
      have := Q0 (GZ hO m d) (v := r.1) (st' := r.2) hr
      have := QZ this
      rw [he] at this; exact this
theorem EW (hm : P.follows .mixedOrders = true) (hT : cG P tt) {O : fy} {G : T aK} (hO : qd P C O) (EV : kO O) (hG : GI P tt G) (m : Nat) : ∀ d, kD P C (pO O G m d)
  | 0 => fun ρ st w f args v st' cq h => by simp [pO] at h
  | d + 1 => by
    intro ρ st w f args v st' cq h hW rM
    have ih := EW hm hT hO EV hG m d
    unfold pO at h
    split at h
    . rename_i s hs
      exact hO f s hs ρ st w args v st' cq h hW rM
    . split at h <;> first | (cases h; done) | skip
      rename_i F hF
      simp only [Option.map_eq_some_iff] at h
      obtain ⟨r, hr, he⟩ := h
      refine Reaches.mono (fun x w' hp => ?_) (PE hT hG ih (GQ hm hT ih (GZ EV m d)) m hF (v := r.1) (st' := r.2) hr hW rM)
      have := QY hW hp
      rw [he] at this; exact this
end
theorem Ot {c c' : ai} (h : yW c c') {n m : Nat} (hn : n <= m) {F : aK} {args : List AV} {st : St} {r : AV × St} (e : pN c n F args st = some r) : pN c' m F args st = some r := by
  unfold pN at e ⊢
  split at e <;> first | (cases e; done) | skip
  split at e <;> first | (cases e; done) | skip
  all_goals
    rename_i h1
    simp only [Em h n m hn _ _ _ _ h1]
    exact e
theorem Fv (O : fy) (G : T aK) {n m : Nat} (hn : n <= m) : ∀ d d', d <= d' -> yW (pO O G n d) (pO O G m d')
  | 0, _, _ => fun _ _ _ _ e => by simp [pO] at e
  | _ + 1, 0, h => by omega
  | d + 1, d' + 1, h => fun f args st r e => by
    have ih := Fv O G hn d d' (by omega)
    unfold pO at e ⊢
    split at e
    . exact e
    . split at e <;> first | (cases e; done) | skip
      simp only [Option.map_eq_some_iff] at e ⊢
      obtain ⟨q, hq, he⟩ := e
      exact ⟨q, Ot ih hn hq, he⟩
def cn (O : fy) (G : T aK) (n : Nat) : ai := pO O G n n
theorem Br (O : fy) (G : T aK) {n m : Nat} (h : n <= m) : yW (cn O G n) (cn O G m) := Fv O G h n m h
def run (O : fy) (G : T aK) : ai := fun f args st => open Classical in
  if h : ∃ (r : AV × St) (n : Nat), cn O G n f args st = some r then some h.choose else none
variable {O : fy} {G : T aK}
theorem Q2 {f : FuncId} {args : List AV} {st : St} {r : AV × St} {n : Nat} (h : cn O G n f args st = some r) : run O G f args st = some r := by
  unfold run
  have hx : ∃ (r : AV × St) (n : Nat), cn O G n f args st = some r := ⟨r, n, h⟩
  rw [dif_pos hx]
  obtain ⟨m, hm⟩ := hx.choose_spec
  have h1 := Br O G (Nat.le_max_left n m) f args st _ h
  have h2 := Br O G (Nat.le_max_right n m) f args st _ hm
  rw [h1] at h2
  exact h2.symm
theorem Lv {f : FuncId} {args : List AV} {st : St} {r : AV × St} (h : run O G f args st = some r) : ∃ n, cn O G n f args st = some r := by
  unfold run at h
  split at h
  . rename_i hx
    simp only [Option.some.injEq] at h
    rw [<- h]; exact hx.choose_spec
  . cases h
theorem G0 {k : aE} {xs : List AV} {st : St} {r : AV × St} (e : cP (run O G) k xs st = some r) : ∃ n, cP (cn O G n) k xs st = some r := by
  unfold cP at e
  cases hr : k.run (fun b => st.heap.get b) st.next xs with
  | none => simp [hr] at e
  | some x => cases x with
    | val v => exact ⟨0, by simpa [cP, hr] using e⟩
    | aN v d s n => exact ⟨0, by simpa [cP, hr] using e⟩
    | call f args =>
      simp only [hr] at e
      obtain ⟨n, hn⟩ := Lv e
      exact ⟨n, by simpa [cP, hr] using hn⟩
theorem Dl : ∀ (os : List bI) (fr : Fr) (st : St) (r : Fr × St), jy (run O G) os fr st = some r -> ∃ n, jy (cn O G n) os fr st = some r
  | [], _, _, _, e => ⟨0, e⟩
  | o :: os, fr, st, r, e => by
    unfold jy at e
    cases hw : bQ fr o.guard with
    | none => simp [hw] at e
    | some b => cases b with
      | false =>
        simp only [hw] at e
        obtain ⟨n, hn⟩ := Dl os _ _ _ e
        exact ⟨n, by unfold jy; simp only [hw]; exact hn⟩
      | true =>
        simp only [hw] at e
        cases hx : eC fr o.xs with
        | none => simp [hx] at e
        | some xs =>
          simp only [hx] at e
          cases hs : cP (run O G) o.k xs st with
          | none => simp [hs] at e
          | some p =>
            simp only [hs] at e
            obtain ⟨n, hn⟩ := Dl os _ _ _ e
            obtain ⟨m, hm⟩ := G0 hs
            refine ⟨max n m, ?_⟩
            unfold jy
            simp only [hw, hx, Bq (Br O G (Nat.le_max_right n m)) hm]
            exact El (Br O G (Nat.le_max_left n m)) _ _ _ _ hn
theorem G1 : ∀ (os : List (Nat × bI)) (recs : List Rec) (base : T AB) (fr : Fr) (st : St) (r : Fr × St), dc (run O G) os recs base fr st = some r -> ∃ n, dc (cn O G n) os recs base fr st = some r
  | [], _, _, _, _, _, e => ⟨0, e⟩
  | (j, o) :: os, recs, base, fr, st, r, e => by
    have ih := G1 os
    unfold dc at e
    cases hw : bQ fr o.guard with
    | none => simp [hw] at e
    | some b => cases b with
      | false =>
        simp only [hw] at e
        obtain ⟨n, hn⟩ := ih _ _ _ _ _ e
        exact ⟨n, by unfold dc; simp only [hw]; exact hn⟩
      | true =>
        simp only [hw] at e
        cases hx : eC fr o.xs with
        | none => simp [hx] at e
        | some xs =>
          simp only [hx] at e
          cases hc : o.cls with
          | aN =>
            simp only [hc] at e
            cases hs : cP (run O G) o.k xs st with
            | none => simp [hs] at e
            | some p =>
              simp only [hs] at e
              obtain ⟨n, hn⟩ := ih _ _ _ _ _ e
              obtain ⟨m, hm⟩ := G0 hs
              refine ⟨max n m, ?_⟩
              unfold dc
              simp only [hw, hx, hc, Bq (Br O G (Nat.le_max_right n m)) hm]
              exact Fu (Br O G (Nat.le_max_left n m)) _ _ _ _ _ _ hn
          | new =>
            simp only [hc] at e
            split at e <;> first | (cases e; done) | skip
            obtain ⟨n, hn⟩ := ih _ _ _ _ _ e
            refine ⟨n, ?_⟩
            unfold dc
            simp only [*]
          | pure =>
            simp only [hc] at e
            split at e <;> (try split at e) <;> (try split at e) <;> first | (cases e; done) | skip
            all_goals
              obtain ⟨n, hn⟩ := ih _ _ _ _ _ e
              refine ⟨n, ?_⟩
              unfold dc
              simp only [*]
          | read =>
            simp only [hc] at e
            split at e <;> (try split at e) <;> (try split at e) <;> first | (cases e; done) | skip
            all_goals
              obtain ⟨n, hn⟩ := ih _ _ _ _ _ e
              refine ⟨n, ?_⟩
              unfold dc
              simp only [*]
theorem Jt : ∀ (n : Nat) (a : AC) (fr : Fr) (st : St) (r : mD × Fr × St), exec (run O G) n a fr st = some r -> ∃ m, exec (cn O G m) n a fr st = some r
  | 0, _, _, _, _, e => by simp [exec] at e
  | n + 1, a, fr, st, r, e => by
    have ih := Jt n
    have up : ∀ {m m' : Nat} {a : AC} {fr : Fr} {st : St} {r : mD × Fr × St}, m <= m' -> exec (cn O G m) n a fr st = some r -> exec (cn O G m') n a fr st = some r :=
      fun h e => Em (Br O G h) _ _ (Nat.le_refl _) _ _ _ _ e
    cases a <;> simp only [exec, aQ] at e
    case skip => exact ⟨0, e⟩
    case exit => exact ⟨0, e⟩
    case ret => exact ⟨0, e⟩
    case region ops =>
      cases ho : jy (run O G) ops fr st with
      | none => simp [ho] at e
      | some p =>
        obtain ⟨m, hm⟩ := Dl _ _ _ _ ho
        exact ⟨m, by simp only [exec, aQ, hm]; simpa only [ho] using e⟩
    case draw ops =>
      cases ho : dc (run O G) ops [] st.heap fr st with
      | none => simp [ho] at e
      | some p =>
        obtain ⟨m, hm⟩ := G1 _ _ _ _ _ _ ho
        exact ⟨m, by simp only [exec, aQ, hm]; simpa only [ho] using e⟩
    case seq a b =>
      cases ha : exec (run O G) n a fr st with
      | none => simp [ha] at e
      | some p =>
        obtain ⟨ex, fG, ct⟩ := p
        simp only [ha] at e
        obtain ⟨m, hm⟩ := ih _ _ _ _ ha
        cases ex with
        | normal =>
          obtain ⟨m', Qh⟩ := ih _ _ _ _ e
          exact ⟨max m m', by simp only [exec, aQ, up (Nat.le_max_left m m') hm]; exact up (Nat.le_max_right m m') Qh⟩
        | exit i => exact ⟨m, by simp only [exec, aQ, hm]; exact e⟩
        | ret => exact ⟨m, by simp only [exec, aQ, hm]; exact e⟩
    case cond x a b =>
      split at e
      . rename_i hx
        obtain ⟨m, hm⟩ := ih _ _ _ _ e
        exact ⟨m, by simp only [exec, aQ, hx]; exact hm⟩
      . rename_i hx
        obtain ⟨m, hm⟩ := ih _ _ _ _ e
        exact ⟨m, by simp only [exec, aQ, hx]; exact hm⟩
      . cases e
    case block id a =>
      cases ha : exec (run O G) n a fr st with
      | none => simp [ha] at e
      | some p =>
        obtain ⟨ex, fG, ct⟩ := p
        simp only [ha] at e
        obtain ⟨m, hm⟩ := ih _ _ _ _ ha
        exact ⟨m, by simp only [exec, aQ, hm]; exact e⟩
    case loop a =>
      cases ha : exec (run O G) n a fr st with
      | none => simp [ha] at e
      | some p =>
        obtain ⟨ex, fG, ct⟩ := p
        simp only [ha] at e
        obtain ⟨m, hm⟩ := ih _ _ _ _ ha
        cases ex with
        | normal =>
          obtain ⟨m', Qh⟩ := ih _ _ _ _ e
          exact ⟨max m m', by simp only [exec, aQ, up (Nat.le_max_left m m') hm]; exact up (Nat.le_max_right m m') Qh⟩
        | exit i => exact ⟨m, by simp only [exec, aQ, hm]; exact e⟩
        | ret => exact ⟨m, by simp only [exec, aQ, hm]; exact e⟩
theorem S8 {f : FuncId} {F : aK} {args : List AV} {st : St} {r : AV × St} {n : Nat} (ho : O f = none) (hF : G.get (key f) = some F) (h : pN (run O G) n F args st = some r) :
    run O G f args st = some (tidy st r) := by
  unfold pN at h
  split at h <;> first | (cases h; done) | skip
  rename_i hlen
  have fin : ∀ {ex fr st'}, exec (run O G) n F.code (params 0 args .e) st = some (ex, fr, st') -> (∀ m k, exec (cn O G m) k F.code (params 0 args .e) st = some (ex, fr, st') -> pN (cn O G m) k F args st = some r) ->
      run O G f args st = some (tidy st r) := fun h1 h2 => by
    obtain ⟨m, hm⟩ := Jt _ _ _ _ _ h1
    refine Q2 (n := max n m + 1) ?_
    unfold cn pO
    simp only [ho, hF]
    have := h2 m n hm
    have h3 := Ot (Fv O G (n := m) (m := max n m + 1) (by have := Nat.le_max_right n m; omega) m (max n m) (Nat.le_max_right n m)) (m := max n m + 1) (by have := Nat.le_max_left n m; omega) this
    rw [h3]; rfl
  split at h <;> first | (cases h; done) | skip
  . rename_i h1
    exact fin h1 fun m k hk => by unfold pN; simp only [hlen, hk]; exact h
  . rename_i h1
    exact fin h1 fun m k hk => by unfold pN; simp only [hlen, hk]; exact h
theorem G2 {f : FuncId} {s : List AV -> St -> Option (AV × St)} (ho : O f = some s) {args : List AV} {st : St} {r : AV × St} (h : s args st = some r) : run O G f args st = some r :=
  Q2 (n := 1) (by unfold cn pO; simp only [ho]; exact h)
theorem Q3 {P : Program} {tt : TT} {C : Cells} (hm : P.follows .mixedOrders = true) (hT : cG P tt) (hO : qd P C O) (EV : kO O) (hG : GI P tt G) : kD P C (run O G) := by
  intro ρ st w f args v st' cq h hW rM
  obtain ⟨n, hn⟩ := Lv h
  exact EW hm hT hO EV hG n n ρ st w f args v st' cq hn hW rM
end Go.Ai
end
section
noncomputable section
namespace Go.Ai
open Go
inductive Sh where
  | leaf
  | seq (jn : Option (List Pos)) (a b : Sh)
  | cond (a b : Sh)
  | block (a : Sh)
  | loop (j : Nat) (ins : List Pos) (outs : List (Nat × List Pos)) (a : Sh)
variable {R : Type}
abbrev Vy (R : Type) := Nat -> List AV -> St -> Option R
abbrev Env (R : Type) := Nat -> Vy R -> Nat -> List AV -> St -> Option R
def az (l : List AV) (k : AV -> List AV -> Option R) : Option R := match l with
  | v :: vs => k v vs
  | [] => none
def bC (l : List AV) (k : Option R) : Option R := match l with
  | [] => k
  | _ :: _ => none
def af (c : ai) (k : aE) (xs : List AV) (st : St) (K : AV -> St -> Option R) : Option R := match cP c k xs st with
  | some (v, st') => K v st'
  | none => none
def aj (c : ai) (g : AV) (want : Bool) (k : aE) (xs : List AV) (st : St) (K : AV -> St -> Option R) : Option R := match g with
  | .bool b => match b == want with
    | true => af c k xs st K
    | false => K .undef st
  | .tuple _ => K .undef st
  | _ => none
def aB (k : aE) (xs : List AV) (K : AV -> Option R) : Option R := match k.run (fun _ => none) .h xs with
  | some (.val v) => K v
  | _ => none
def cJ (g : AV) (want : Bool) (k : aE) (xs : List AV) (K : AV -> Option R) : Option R := match g with
  | .bool b => match b == want with
    | true => aB k xs K
    | false => K .undef
  | .tuple _ => K .undef
  | _ => none
def eF (k : aE) (xs : List AV) (h : T AB) (ok : AV -> Bool) (K : AV -> Option R) : Option R := match k.run (fun _ => none) .h xs with
  | some (.val v) => K v
  | _ => match k.run (fun b => h.get b) .h xs with
    | some (.val v) => match ok v with
      | true => K v
      | false => none
    | _ => none
def jB (g : AV) (want : Bool) (k : aE) (xs : List AV) (h : T AB) (ok : AV -> Bool) (K : AV -> Option R) : Option R := match g with
  | .bool b => match b == want with
    | true => eF k xs h ok K
    | false => K .undef
  | .tuple _ => K .undef
  | _ => none
def Ju (k : aE) (xs : List AV) (st : St) (K : AV -> AB -> Option R) : Option R := match k.run (fun _ => none) st.next xs with
  | some (.aN v none none (some aF)) => K v aF
  | _ => none
def sF (g : AV) (want : Bool) (A B : Option R) : Option R := match g with
  | .bool b => match b == want with
    | true => A
    | false => B
  | .tuple _ => B
  | _ => none
def aH (v : AV) (A B : Option R) : Option R := match v with
  | .bool true => A
  | .bool false => B
  | _ => none
def yX (f : (List AV -> St -> Option R) -> Option R) (k : List AV -> St -> Option R) : Option R := f k
def Fw (c : ai) : List bI -> Fr -> St -> (Fr -> St -> Option R) -> Option R
  | [], fr, st, K => K fr st
  | o :: os, fr, st, K => match eC fr o.xs with
    | some xs => match o.guard with
      | none => af c o.k xs st fun v st => Fw c os (dh fr o.dst v) st K
      | some (p, want) => match fr.get p with
        | some g => aj c g want o.k xs st fun v st => Fw c os (dh fr o.dst v) st K
        | none => none
    | none => none
def lZ (c : ai) : List (Nat × bI) -> List Rec -> T AB -> Fr -> St -> (Fr -> St -> Option R) -> Option R
  | [], _, _, fr, st, K => K fr st
  | (j, o) :: os, recs, base, fr, st, K => match eC fr o.xs with
    | some xs => match o.cls with
      | .pure => match o.guard with
        | none => aB o.k xs fun v => lZ c os ({ idx := j, o := o, v := v, c := .pure, nx := st.next } :: recs) base (dh fr o.dst v) st K
        | some (p, want) => match fr.get p with
          | some g => cJ g want o.k xs fun v => lZ c os ({ idx := j, o := o, v := v, c := .pure, nx := st.next } :: recs) base (dh fr o.dst v) st K
          | none => none
      | .read => match o.guard with
        | none => eF o.k xs (snap o.bL base recs) (fun v => jG o.bL o.k xs v [] recs) fun v => lZ c os ({ idx := j, o := o, v := v, c := .pure, nx := st.next } :: recs) base (dh fr o.dst v) st K
        | some (p, want) => match fr.get p with
          | some g => jB g want o.k xs (snap o.bL base recs) (fun v => jG o.bL o.k xs v [] recs) fun v => lZ c os ({ idx := j, o := o, v := v, c := .pure, nx := st.next } :: recs) base (dh fr o.dst v) st K
          | none => none
      | .new => match o.guard with
        | none => Ju o.k xs st fun v aF => lZ c os ({ idx := j, o := o, v := v, c := .new st.next aF, nx := st.next.succ } :: recs) base (dh fr o.dst v) { heap := st.heap.put (some aF) st.next, next := st.next.succ } K
        | some (p, want) => match fr.get p with
          | some g => sF g want (Ju o.k xs st fun v aF => lZ c os ({ idx := j, o := o, v := v, c := .new st.next aF, nx := st.next.succ } :: recs) base (dh fr o.dst v) { heap := st.heap.put (some aF) st.next, next := st.next.succ } K)
              (lZ c os ({ idx := j, o := o, v := .undef, c := .pure, nx := st.next } :: recs) base (dh fr o.dst .undef) st K)
          | none => none
      | .aN => match o.guard with
        | none => af c o.k xs st fun v st' => lZ c os ({ idx := j, o := o, v := v, c := .aN base st'.heap, nx := st'.next } :: recs) st'.heap (dh fr o.dst v) st' K
        | some (p, want) => match fr.get p with
          | some g => sF g want (af c o.k xs st fun v st' => lZ c os ({ idx := j, o := o, v := v, c := .aN base st'.heap, nx := st'.next } :: recs) st'.heap (dh fr o.dst v) st' K)
              (lZ c os ({ idx := j, o := o, v := .undef, c := .pure, nx := st.next } :: recs) base (dh fr o.dst .undef) st K)
          | none => none
    | none => none
def Dm : List Pos -> Fr -> (List AV -> Option R) -> Option R
  | [], _, k => k []
  | p :: ps, fr, k => match fr.get p with
    | some v => Dm ps fr fun vs => k (v :: vs)
    | none => none
def Dn : List Pos -> List AV -> Fr -> (Fr -> Option R) -> Option R
  | [], vs, fr, k => bC vs (k fr)
  | p :: ps, vs, fr, k => az vs fun v vs => Dn ps vs (fr.put (some v) p) k
def KE : List (Nat × List Pos) -> Nat -> List Pos
  | [], _ => []
  | (i, l) :: r, e => match Nat.beq i e with
    | true => l
    | false => KE r e
def exOf : Nat -> mD
  | 0 => .normal
  | 1 => .ret
  | n + 2 => .exit n
def Lw (D : Fr -> St -> (mD -> Fr -> St -> Option R) -> Option R) (ins : List Pos) (outs : List (Nat × List Pos)) (K' : Vy R) (again : List AV -> St -> Option R) (vs : List AV) (st : St) : Option R :=
  Dn ins vs .e fun fr => D fr st fun ex fr st => match ex with
    | .normal => Dm ins fr fun vs => again vs st
    | .exit i => Dm (KE outs (i + 2)) fr fun os => K' (i + 2) os st
    | .ret => Dm (KE outs 1) fr fun os => K' 1 os st
def knk (outs : List (Nat × List Pos)) (K : mD -> Fr -> St -> Option R) : Vy R := fun e os st => Dn (KE outs e) os .e fun fr => K (exOf e) fr st
def den (c : ai) (F : Nat) (L : Env R) : AC -> Sh -> Fr -> St -> (mD -> Fr -> St -> Option R) -> Option R
  | .skip, _, fr, st, K => K .normal fr st
  | .region ops, _, fr, st, K => Fw c ops fr st (K .normal)
  | .draw ops, _, fr, st, K => lZ c ops [] st.heap fr st (K .normal)
  | .seq a b, s, fr, st, K => match s with
    | .seq none s t => den c F L a s fr st fun ex fr st => match ex with
      | .normal => den c F L b t fr st K
      | .exit i => K (.exit i) fr st
      | .ret => K .ret fr st
    | .seq (some l) s t => yX (fun K' => den c F L a s fr st fun ex fr st => match ex with
      | .normal => Dm l fr fun vs => K' vs st
      | .exit i => K (.exit i) fr st
      | .ret => K .ret fr st) (fun vs st => Dn l vs .e fun fr => den c F L b t fr st K)
    | _ => none
  | .cond x a b, s, fr, st, K => match s with
    | .cond s t => match vn fr x with
      | some v => aH v (den c F L a s fr st K) (den c F L b t fr st K)
      | none => none
    | _ => none
  | .block id a, s, fr, st, K => match s with
    | .block s => den c F L a s fr st fun ex fr st => match ex with
      | .normal => K .normal fr st
      | .exit i => match Nat.beq i id with
        | true => K .normal fr st
        | false => K (.exit i) fr st
      | .ret => K .ret fr st
    | _ => none
  | .loop _, s, fr, st, K => match s with
    | .loop j ins outs _ => Dm ins fr fun vs => L j (knk outs K) F vs st
    | _ => none
  | .exit id, _, fr, st, K => K (.exit id) fr st
  | .ret, _, fr, st, K => K .ret fr st
def bK (c : ai) (F : Nat) (L : Env R) (a : AC) : Sh -> Prop
  | .loop j ins outs s => ∀ K', (∀ vs st, L j K' 0 vs st = none) /\ ∀ n vs st, L j K' (n + 1) vs st = Lw (den c F L a s) ins outs K' (L j K' n) vs st
  | _ => False
def qX (c : ai) (F : Nat) (L : Env R) : AC -> Sh -> Prop
  | .seq a b, s => match s with
    | .seq _ s t => qX c F L a s /\ qX c F L b t
    | _ => True
  | .cond _ a b, s => match s with
    | .cond s t => qX c F L a s /\ qX c F L b t
    | _ => True
  | .block _ a, s => match s with
    | .block s => qX c F L a s
    | _ => True
  | .loop a, s => match s with
    | .loop j ins outs s => bK c F L a (.loop j ins outs s) /\ qX c F L a s
    | _ => True
  | _, _ => True
def bM : AC -> Sh -> List (AC × Sh)
  | .seq a b, s => match s with
    | .seq _ s t => bM a s ++ bM b t
    | _ => []
  | .cond _ a b, s => match s with
    | .cond s t => bM a s ++ bM b t
    | _ => []
  | .block _ a, s => match s with
    | .block s => bM a s
    | _ => []
  | .loop a, s => match s with
    | .loop j ins outs s => (a, .loop j ins outs s) :: bM a s
    | _ => []
  | _, _ => []
theorem uH {c : ai} {F : Nat} {L : Env R} : ∀ (a : AC) (s : Sh), (∀ x ∈ bM a s, bK c F L x.1 x.2) -> qX c F L a s
  | .skip, _, _ => trivial
  | .region _, _, _ => trivial
  | .draw _, _, _ => trivial
  | .exit _, _, _ => trivial
  | .ret, _, _ => trivial
  | .seq a b, s, h => by
    cases s <;> simp only [qX] <;> simp only [bM, List.mem_append] at h
    exact ⟨uH a _ fun x hx => h x (.inl hx), uH b _ fun x hx => h x (.inr hx)⟩
  | .cond x a b, s, h => by
    cases s <;> simp only [qX] <;> simp only [bM, List.mem_append] at h
    exact ⟨uH a _ fun x hx => h x (.inl hx), uH b _ fun x hx => h x (.inr hx)⟩
  | .block id a, s, h => by
    cases s <;> simp only [qX] <;> simp only [bM] at h
    exact uH a _ h
  | .loop a, s, h => by
    cases s <;> simp only [qX] <;> simp only [bM, List.mem_cons] at h
    exact ⟨h _ (.inl rfl), uH a _ fun x hx => h x (.inr hx)⟩
def Sub (a b : Fr) : Prop := ∀ p v, a.get p = some v -> b.get p = some v
theorem Sub.refl (a : Fr) : Sub a a := fun _ _ h => h
theorem Sub.put {a b : Fr} (h : Sub a b) (p : Pos) (v : AV) : Sub (a.put (some v) p) (b.put (some v) p) := fun q u hq => by
  by_cases e : p = q
  . subst e; rw [T.fQ] at hq ⊢; exact hq
  . rw [T.bT _ e] at hq ⊢; exact h _ _ hq
theorem Sub.dst {a b : Fr} (h : Sub a b) (d : Option Pos) (v : AV) : Sub (dh a d v) (dh b d v) := by
  cases d with
  | none => exact h
  | some p => exact h.put p v
theorem Sub.ev {a b : Fr} (h : Sub a b) {x : jW} {v : AV} (e : vn a x = some v) : vn b x = some v := by
  cases x with
  | t p => exact h _ _ e
  | c v => exact e
theorem Sub.evs {a b : Fr} (h : Sub a b) : ∀ {xs : List jW} {vs : List AV}, eC a xs = some vs -> eC b xs = some vs
  | [], _, e => e
  | x :: xs, vs, e => by
    unfold eC at e ⊢
    cases hx : vn a x with
    | none => simp [hx] at e
    | some v =>
      simp only [hx] at e
      cases hs : eC a xs with
      | none => simp [hs] at e
      | some us => simp only [hs] at e; simp only [h.ev hx, h.evs hs]; exact e
theorem Bs {c : ai} : ∀ (os : List bI) {fr ek : Fr} {st : St} {K : Fr -> St -> Option R} {r : R}, Sub fr ek -> Fw c os fr st K = some r ->
    ∃ aX cZ st', jy c os ek st = some (cZ, st') /\ Sub aX cZ /\ K aX st' = some r
  | [], fr, ek, st, K, r, hs, h => ⟨fr, ek, st, rfl, hs, h⟩
  | o :: os, fr, ek, st, K, r, hs, h => by
    unfold Fw at h
    cases hx : eC fr o.xs with
    | none => simp [hx] at h
    | some xs =>
      simp only [hx] at h
      have hstp : ∀ {st}, af c o.k xs st (fun v st => Fw c os (dh fr o.dst v) st K) = some r -> bQ ek o.guard = some true -> ∃ aX cZ st', jy c (o :: os) ek st = some (cZ, st') /\ Sub aX cZ /\ K aX st' = some r := fun {st} h hw => by
        unfold af at h
        cases vz : cP c o.k xs st with
        | none => simp [vz] at h
        | some p =>
          simp only [vz] at h
          obtain ⟨aX, cZ, st', h1, h2⟩ := Bs os (hs.dst o.dst p.1) h
          exact ⟨aX, cZ, st', by unfold jy; simp only [hw, hs.evs hx, vz]; exact h1, h2⟩
      have Dp : ∀ {st}, Fw c os (dh fr o.dst .undef) st K = some r -> bQ ek o.guard = some false -> ∃ aX cZ st', jy c (o :: os) ek st = some (cZ, st') /\ Sub aX cZ /\ K aX st' = some r := fun {st} h hw => by
        obtain ⟨aX, cZ, st', h1, h2⟩ := Bs os (hs.dst o.dst .undef) h
        exact ⟨aX, cZ, st', by unfold jy; simp only [hw]; exact h1, h2⟩
      cases hg : o.guard with
      | none => simp only [hg] at h; exact hstp h (by rw [hg]; rfl)
      | some pw =>
        obtain ⟨p, want⟩ := pw
        simp only [hg] at h
        cases hp : fr.get p with
        | none => simp [hp] at h
        | some g =>
          simp only [hp] at h
          have tr := hs _ _ hp
          unfold aj at h
          split at h
          . rename_i b
            split at h
            . rename_i hb; exact hstp h (by rw [hg]; simp [bQ, tr, hb])
            . rename_i hb; exact Dp h (by rw [hg]; simp [bQ, tr, hb])
          . exact Dp h (by rw [hg]; simp [bQ, tr])
          . cases h
theorem EX {c : ai} : ∀ (os : List (Nat × bI)) (recs : List Rec) (base : T AB) {fr ek : Fr} {st : St} {K : Fr -> St -> Option R} {r : R}, Sub fr ek -> lZ c os recs base fr st K = some r ->
    ∃ aX cZ st', dc c os recs base ek st = some (cZ, st') /\ Sub aX cZ /\ K aX st' = some r
  | [], _, _, fr, ek, st, K, r, hs, h => ⟨fr, ek, st, rfl, hs, h⟩
  | (j, o) :: os, recs, base, fr, ek, st, K, r, hs, h => by
    have ih := fun recs base {fr ek : Fr} {st : St} {K : Fr -> St -> Option R} {r : R} => EX (c := c) os recs base (fr := fr) (ek := ek) (st := st) (K := K) (r := r)
    unfold lZ at h
    cases hx : eC fr o.xs with
    | none => simp [hx] at h
    | some xs =>
      simp only [hx] at h
      have Ll := hs.evs hx
      have Dp : ∀ {st}, lZ c os ({ idx := j, o := o, v := .undef, c := .pure, nx := st.next } :: recs) base (dh fr o.dst .undef) st K = some r -> bQ ek o.guard = some false -> ∃ aX cZ st', dc c ((j, o) :: os) recs base ek st = some (cZ, st') /\ Sub aX cZ /\ K aX st' = some r := fun {st} h hw => by
        obtain ⟨aX, cZ, st', h1, h2⟩ := ih _ _ (hs.dst o.dst .undef) h
        exact ⟨aX, cZ, st', by unfold dc; simp only [hw]; exact h1, h2⟩
      cases hc : o.cls with
      | pure =>
        simp only [hc] at h
        have Dq : aB o.k xs (fun v => lZ c os ({ idx := j, o := o, v := v, c := .pure, nx := st.next } :: recs) base (dh fr o.dst v) st K) = some r -> bQ ek o.guard = some true -> ∃ aX cZ st', dc c ((j, o) :: os) recs base ek st = some (cZ, st') /\ Sub aX cZ /\ K aX st' = some r := fun h hw => by
          unfold aB at h
          split at h
          . rename_i v hv
            obtain ⟨aX, cZ, st', h1, h2⟩ := ih _ _ (hs.dst o.dst v) h
            exact ⟨aX, cZ, st', by unfold dc; simp only [hw, Ll, hc, hv]; exact h1, h2⟩
          . cases h
        cases hg : o.guard with
        | none => simp only [hg] at h; exact Dq h (by rw [hg]; rfl)
        | some pw =>
          obtain ⟨p, want⟩ := pw
          simp only [hg] at h
          cases hp : fr.get p with
          | none => simp [hp] at h
          | some g =>
            simp only [hp] at h
            have tr := hs _ _ hp
            unfold cJ at h
            split at h
            . split at h
              . rename_i hb; exact Dq h (by rw [hg]; simp [bQ, tr, hb])
              . rename_i hb; exact Dp h (by rw [hg]; simp [bQ, tr, hb])
            . exact Dp h (by rw [hg]; simp [bQ, tr])
            . cases h
      | read =>
        simp only [hc] at h
        have Dq : eF o.k xs (snap o.bL base recs) (fun v => jG o.bL o.k xs v [] recs) (fun v => lZ c os ({ idx := j, o := o, v := v, c := .pure, nx := st.next } :: recs) base (dh fr o.dst v) st K) = some r -> bQ ek o.guard = some true -> ∃ aX cZ st', dc c ((j, o) :: os) recs base ek st = some (cZ, st') /\ Sub aX cZ /\ K aX st' = some r := fun h hw => by
          unfold eF at h
          split at h
          . rename_i v hv
            obtain ⟨aX, cZ, st', h1, h2⟩ := ih _ _ (hs.dst o.dst v) h
            exact ⟨aX, cZ, st', by unfold dc; simp only [hw, Ll, hc, hv]; exact h1, h2⟩
          . rename_i lp
            split at h
            . rename_i v hv
              split at h
              . rename_i dx
                obtain ⟨aX, cZ, st', h1, h2⟩ := ih _ _ (hs.dst o.dst v) h
                refine ⟨aX, cZ, st', ?_, h2⟩
                unfold dc
                simp only [hw, Ll, hc]
                cases hr : o.k.run (fun _ => none) .h xs with
                | none => simp only [hv, dx]; exact h1
                | some x => cases x with
                  | val u => exact absurd hr (lp u)
                  | aN v d e n => simp only [hv, dx]; exact h1
                  | call f xs => simp only [hv, dx]; exact h1
              . cases h
            . cases h
        cases hg : o.guard with
        | none => simp only [hg] at h; exact Dq h (by rw [hg]; rfl)
        | some pw =>
          obtain ⟨p, want⟩ := pw
          simp only [hg] at h
          cases hp : fr.get p with
          | none => simp [hp] at h
          | some g =>
            simp only [hp] at h
            have tr := hs _ _ hp
            unfold jB at h
            split at h
            . split at h
              . rename_i hb; exact Dq h (by rw [hg]; simp [bQ, tr, hb])
              . rename_i hb; exact Dp h (by rw [hg]; simp [bQ, tr, hb])
            . exact Dp h (by rw [hg]; simp [bQ, tr])
            . cases h
      | new =>
        simp only [hc] at h
        have Dq : Ju o.k xs st (fun v aF => lZ c os ({ idx := j, o := o, v := v, c := .new st.next aF, nx := st.next.succ } :: recs) base (dh fr o.dst v) { heap := st.heap.put (some aF) st.next, next := st.next.succ } K) = some r -> bQ ek o.guard = some true -> ∃ aX cZ st', dc c ((j, o) :: os) recs base ek st = some (cZ, st') /\ Sub aX cZ /\ K aX st' = some r := fun h hw => by
          unfold Ju at h
          split at h
          . rename_i v aF hv
            obtain ⟨aX, cZ, st', h1, h2⟩ := ih _ _ (hs.dst o.dst v) h
            exact ⟨aX, cZ, st', by unfold dc; simp only [hw, Ll, hc, hv]; exact h1, h2⟩
          . cases h
        cases hg : o.guard with
        | none => simp only [hg] at h; exact Dq h (by rw [hg]; rfl)
        | some pw =>
          obtain ⟨p, want⟩ := pw
          simp only [hg] at h
          cases hp : fr.get p with
          | none => simp [hp] at h
          | some g =>
            simp only [hp] at h
            have tr := hs _ _ hp
            unfold sF at h
            split at h
            . split at h
              . rename_i hb; exact Dq h (by rw [hg]; simp [bQ, tr, hb])
              . rename_i hb; exact Dp h (by rw [hg]; simp [bQ, tr, hb])
            . exact Dp h (by rw [hg]; simp [bQ, tr])
            . cases h
      | aN =>
        simp only [hc] at h
        have Dq : af c o.k xs st (fun v st' => lZ c os ({ idx := j, o := o, v := v, c := .aN base st'.heap, nx := st'.next } :: recs) st'.heap (dh fr o.dst v) st' K) = some r -> bQ ek o.guard = some true -> ∃ aX cZ st', dc c ((j, o) :: os) recs base ek st = some (cZ, st') /\ Sub aX cZ /\ K aX st' = some r := fun h hw => by
          unfold af at h
          cases vz : cP c o.k xs st with
          | none => simp [vz] at h
          | some p =>
            simp only [vz] at h
            obtain ⟨aX, cZ, st', h1, h2⟩ := ih _ _ (hs.dst o.dst p.1) h
            exact ⟨aX, cZ, st', by unfold dc; simp only [hw, Ll, hc, vz]; exact h1, h2⟩
        cases hg : o.guard with
        | none => simp only [hg] at h; exact Dq h (by rw [hg]; rfl)
        | some pw =>
          obtain ⟨p, want⟩ := pw
          simp only [hg] at h
          cases hp : fr.get p with
          | none => simp [hp] at h
          | some g =>
            simp only [hp] at h
            have tr := hs _ _ hp
            unfold sF at h
            split at h
            . split at h
              . rename_i hb; exact Dq h (by rw [hg]; simp [bQ, tr, hb])
              . rename_i hb; exact Dp h (by rw [hg]; simp [bQ, tr, hb])
            . exact Dp h (by rw [hg]; simp [bQ, tr])
            . cases h
def Has : List Pos -> List AV -> Fr -> Prop
  | [], [], _ => True
  | p :: ps, v :: vs, fr => fr.get p = some v /\ Has ps vs fr
  | _, _, _ => False
theorem Has.sub {a b : Fr} (hs : Sub a b) : ∀ {ps : List Pos} {vs : List AV}, Has ps vs a -> Has ps vs b
  | [], [], _ => trivial
  | [], _ :: _, h => h
  | _ :: _, [], h => h
  | _ :: _, _ :: _, h => ⟨hs _ _ h.1, Has.sub hs h.2⟩
theorem sG : ∀ {ps : List Pos} {fr : Fr} {k : List AV -> Option R} {r : R}, Dm ps fr k = some r -> ∃ vs, Has ps vs fr /\ k vs = some r
  | [], _, _, _, h => ⟨[], trivial, h⟩
  | p :: ps, fr, k, r, h => by
    unfold Dm at h
    cases hp : fr.get p with
    | none => simp [hp] at h
    | some v =>
      simp only [hp] at h
      obtain ⟨vs, h1, h2⟩ := sG h
      exact ⟨v :: vs, ⟨hp, h1⟩, h2⟩
theorem vB : ∀ {ps : List Pos} {vs : List AV} {fr ek : Fr} {k : Fr -> Option R} {r : R}, Dn ps vs fr k = some r -> Has ps vs ek -> Sub fr ek -> ∃ aX, Sub aX ek /\ k aX = some r
  | [], vs, fr, ek, k, r, h, _, hs => by
    unfold Dn bC at h
    split at h
    . exact ⟨fr, hs, h⟩
    . cases h
  | p :: ps, [], fr, ek, k, r, h, hh, hs => by simp [Dn, az] at h
  | p :: ps, v :: vs, fr, ek, k, r, h, hh, hs => by
    unfold Dn az at h
    refine vB h hh.2 fun q u hq => ?_
    by_cases e : p = q
    . subst e; rw [T.fQ] at hq; cases hq; exact hh.1
    . rw [T.bT _ e] at hq; exact hs _ _ hq
theorem wV {c : ai} {n m : Nat} (h : n <= m) {a : AC} {fr : Fr} {st : St} {r : mD × Fr × St} (e : exec c n a fr st = some r) : exec c m a fr st = some r := Em (yW.refl c) n m h _ _ _ _ e
theorem mF {c : ai} {F : Nat} {L : Env R} : ∀ (a : AC) (s : Sh), qX c F L a s -> ∀ {fr ek : Fr} {st : St} {K : mD -> Fr -> St -> Option R} {r : R}, Sub fr ek -> den c F L a s fr st K = some r ->
    ∃ n ex aX cZ st', exec c n a ek st = some (ex, cZ, st') /\ Sub aX cZ /\ K ex aX st' = some r
  | .skip, s, _, fr, ek, st, K, r, hs, h => ⟨1, .normal, fr, ek, st, rfl, hs, by simpa [den] using h⟩
  | .exit id, s, _, fr, ek, st, K, r, hs, h => ⟨1, .exit id, fr, ek, st, rfl, hs, by simpa [den] using h⟩
  | .ret, s, _, fr, ek, st, K, r, hs, h => ⟨1, .ret, fr, ek, st, rfl, hs, by simpa [den] using h⟩
  | .region ops, s, _, fr, ek, st, K, r, hs, h => by
    simp only [den] at h
    obtain ⟨aX, cZ, st', h1, h2, h3⟩ := Bs ops hs h
    exact ⟨1, .normal, aX, cZ, st', by simp only [exec, aQ, h1], h2, h3⟩
  | .draw ops, s, _, fr, ek, st, K, r, hs, h => by
    simp only [den] at h
    obtain ⟨aX, cZ, st', h1, h2, h3⟩ := EX ops _ _ hs h
    exact ⟨1, .normal, aX, cZ, st', by simp only [exec, aQ, h1], h2, h3⟩
  | .seq a b, s, dx, fr, ek, st, K, r, hs, h => by
    cases s <;> simp only [den] at h <;> first | (cases h; done) | skip
    rename_i jn s t
    simp only [qX] at dx
    cases jn with
    | none =>
      simp only at h
      obtain ⟨n, ex, fG, pn, ct, h1, h2, h3⟩ := mF a s dx.1 hs h
      cases ex with
      | normal =>
        obtain ⟨m, ex, Cq, Lx, yG, k1, k2, k3⟩ := mF b t dx.2 h2 h3
        exact ⟨max n m + 1, ex, Cq, Lx, yG, by simp only [exec, aQ, wV (Nat.le_max_left n m) h1]; exact wV (Nat.le_max_right n m) k1, k2, k3⟩
      | exit i => exact ⟨n + 1, .exit i, fG, pn, ct, by simp only [exec, aQ, h1], h2, h3⟩
      | ret => exact ⟨n + 1, .ret, fG, pn, ct, by simp only [exec, aQ, h1], h2, h3⟩
    | some l =>
      simp only [yX] at h
      obtain ⟨n, ex, fG, pn, ct, h1, h2, h3⟩ := mF a s dx.1 hs h
      cases ex with
      | normal =>
        obtain ⟨vs, g1, g2⟩ := sG h3
        obtain ⟨aX, g3, g4⟩ := vB g2 (Has.sub h2 g1) (fun p v hp => by rw [T.fO] at hp; cases hp)
        obtain ⟨m, ex, Cq, Lx, yG, k1, k2, k3⟩ := mF b t dx.2 g3 g4
        exact ⟨max n m + 1, ex, Cq, Lx, yG, by simp only [exec, aQ, wV (Nat.le_max_left n m) h1]; exact wV (Nat.le_max_right n m) k1, k2, k3⟩
      | exit i => exact ⟨n + 1, .exit i, fG, pn, ct, by simp only [exec, aQ, h1], h2, h3⟩
      | ret => exact ⟨n + 1, .ret, fG, pn, ct, by simp only [exec, aQ, h1], h2, h3⟩
  | .cond x a b, s, dx, fr, ek, st, K, r, hs, h => by
    cases s <;> simp only [den] at h <;> first | (cases h; done) | skip
    simp only [qX] at dx
    cases hx : vn fr x with
    | none => simp [hx] at h
    | some v =>
      simp only [hx] at h
      unfold aH at h
      split at h
      . obtain ⟨n, ex, fG, pn, ct, h1, h2, h3⟩ := mF a _ dx.1 hs h
        exact ⟨n + 1, ex, fG, pn, ct, by simp only [exec, aQ, hs.ev hx]; exact h1, h2, h3⟩
      . obtain ⟨n, ex, fG, pn, ct, h1, h2, h3⟩ := mF b _ dx.2 hs h
        exact ⟨n + 1, ex, fG, pn, ct, by simp only [exec, aQ, hs.ev hx]; exact h1, h2, h3⟩
      . cases h
  | .block id a, s, dx, fr, ek, st, K, r, hs, h => by
    cases s <;> simp only [den] at h <;> first | (cases h; done) | skip
    simp only [qX] at dx
    obtain ⟨n, ex, fG, pn, ct, h1, h2, h3⟩ := mF a _ dx hs h
    cases ex with
    | normal => exact ⟨n + 1, .normal, fG, pn, ct, by simp only [exec, aQ, h1], h2, h3⟩
    | ret => exact ⟨n + 1, .ret, fG, pn, ct, by simp only [exec, aQ, h1], h2, h3⟩
    | exit i =>
      simp only at h3
      cases hb : Nat.beq i id with
      | true => simp only [hb] at h3; exact ⟨n + 1, .normal, fG, pn, ct, by simp only [exec, aQ, h1, hb], h2, h3⟩
      | false => simp only [hb] at h3; exact ⟨n + 1, .exit i, fG, pn, ct, by simp only [exec, aQ, h1, hb], h2, h3⟩
  | .loop a, s, dx, fr, ek, st, K, r, hs, h => by
    cases s <;> simp only [den] at h <;> first | (cases h; done) | skip
    rename_i j ins outs s
    simp only [qX, bK] at dx
    obtain ⟨ab2, dx⟩ := dx
    obtain ⟨vs, g1, g2⟩ := sG h
    obtain ⟨hz, hsu⟩ := ab2 (knk outs K)
    have main : ∀ (n : Nat) (vs : List AV) (st : St) (ek : Fr), Has ins vs ek -> L j (knk outs K) n vs st = some r ->
        ∃ m ex aX cZ st', exec c m (.loop a) ek st = some (ex, cZ, st') /\ Sub aX cZ /\ K ex aX st' = some r := by
      intro n
      induction n with
      | zero => intro vs st ek _ h; rw [hz] at h; cases h
      | succ n ihn =>
        intro vs st ek hh h
        rw [hsu] at h
        unfold Lw at h
        obtain ⟨cg, q1, q2⟩ := vB h hh (fun p v hp => by rw [T.fO] at hp; cases hp)
        obtain ⟨m, ex, fG, pn, ct, h1, h2, h3⟩ := mF a s dx q1 q2
        cases ex with
        | normal =>
          obtain ⟨us, p1, p2⟩ := sG h3
          obtain ⟨m', ex, Cq, Lx, yG, k1, k2, k3⟩ := ihn us ct pn (Has.sub h2 p1) p2
          exact ⟨max m m' + 1, ex, Cq, Lx, yG, by simp only [exec, aQ, wV (Nat.le_max_left m m') h1]; exact wV (Nat.le_max_right m m') k1, k2, k3⟩
        | exit i =>
          obtain ⟨os, p1, p2⟩ := sG h3
          obtain ⟨Cq, p3, p4⟩ := vB p2 (Has.sub h2 p1) (fun p v hp => by rw [T.fO] at hp; cases hp)
          exact ⟨m + 1, .exit i, Cq, pn, ct, by simp only [exec, aQ, h1], p3, p4⟩
        | ret =>
          obtain ⟨os, p1, p2⟩ := sG h3
          obtain ⟨Cq, p3, p4⟩ := vB p2 (Has.sub h2 p1) (fun p v hp => by rw [T.fO] at hp; cases hp)
          exact ⟨m + 1, .ret, Cq, pn, ct, by simp only [exec, aQ, h1], p3, p4⟩
    exact main F vs st ek (Has.sub hs g1) g2
def Fx : (H : Pos -> Option AB) -> Fr -> List Gn -> (List AV -> Option R) -> Option R
  | _, _, [], k => k []
  | H, fr, .tmp p :: rs, k => match fr.get p with
    | some v => Fx H fr rs fun vs => k (v :: vs)
    | none => none
  | H, fr, .cell p n :: rs, k => match fr.get p with
    | some q => match (aE.load n).run H .h [q] with
      | some (.val v) => Fx H fr rs fun vs => k (v :: vs)
      | _ => none
    | none => none
def EY (n : Option Nat) (q : AV) (st : St) (K : AV -> Option R) : Option R := match (aE.load n).run (fun b => st.heap.get b) .h [q] with
  | some (.val v) => K v
  | _ => none
theorem yY {H : Pos -> Option AB} {fr ek : Fr} (hs : Sub fr ek) : ∀ {rs : List Gn} {k : List AV -> Option R} {r : R}, Fx H fr rs k = some r -> ∃ vs, fC H ek rs = some vs /\ k vs = some r
  | [], k, r, h => ⟨[], rfl, h⟩
  | .tmp p :: rs, k, r, h => by
    unfold Fx at h
    cases hp : fr.get p with
    | none => simp [hp] at h
    | some v =>
      simp only [hp] at h
      obtain ⟨vs, h1, h2⟩ := yY hs h
      exact ⟨v :: vs, by unfold fC; simp only [hs _ _ hp, h1], h2⟩
  | .cell p n :: rs, k, r, h => by
    unfold Fx at h
    cases hp : fr.get p with
    | none => simp [hp] at h
    | some q =>
      simp only [hp] at h
      split at h
      . rename_i v hv
        obtain ⟨vs, h1, h2⟩ := yY hs h
        exact ⟨v :: vs, by unfold fC; simp only [hs _ _ hp, hv, h1], h2⟩
      . cases h
def jJ (c : ai) (F : Nat) (L : Env (AV × St)) (A : aK) (s : Sh) (args : List AV) (st : St) : Option (AV × St) :=
  match Nat.beq args.length A.nparams with
  | true => den c F L A.code s (params 0 args .e) st fun ex fr st => match ex with
    | .normal => Fx (fun b => st.heap.get b) fr A.results fun vs => some (sO vs, st)
    | .ret => Fx (fun b => st.heap.get b) fr A.results fun vs => some (sO vs, st)
    | .exit _ => none
  | false => none
theorem S9 {O : fy} {G : T aK} {F : Nat} {L : Env (AV × St)} {f : FuncId} {A : aK} {s : Sh} {args : List AV} {st : St} {r : AV × St} (ho : O f = none) (hF : G.get (key f) = some A)
    (hL : ∀ x ∈ bM A.code s, bK (run O G) F L x.1 x.2) (h : jJ (run O G) F L A s args st = some r) : run O G f args st = some (tidy st r) := by
  unfold jJ at h
  split at h <;> first | (cases h; done) | skip
  rename_i hlen
  obtain ⟨n, ex, aX, cZ, st', h1, h2, h3⟩ := mF A.code s (uH _ _ hL) (Sub.refl _) h
  refine S8 (n := n) ho hF ?_
  unfold pN
  simp only [hlen, h1]
  cases ex with
  | normal =>
    obtain ⟨vs, k1, k2⟩ := yY h2 h3
    simp only [k1]; exact k2
  | ret =>
    obtain ⟨vs, k1, k2⟩ := yY h2 h3
    simp only [k1]; exact k2
  | exit i => cases h3
end Go.Ai
end
section
noncomputable section
namespace Go.Ai
open Go
def au (st : St) (b : AB) : St := { heap := st.heap.put (some b) st.next, next := st.next.succ }
def gM {R : Type} : List (Nat × (Vy R -> Nat -> List AV -> St -> Option R)) -> Env R
  | [] => fun _ _ _ _ _ => none
  | (i, g) :: l => fun j K n => match Nat.beq i j with
    | true => g K n
    | false => gM l j K n
def cK (A : aK) (s : Sh) (i : Nat) : AC × Sh := (bM A.code s).getD i (.skip, .leaf)
theorem dG {R : Type} {c : ai} {F : Nat} {L : Env R} {a : AC} {sh : Sh} {j : Nat} {ins : List Pos} {outs : List (Nat × List Pos)} {s : Sh} (hs : sh = .loop j ins outs s) (h0 : ∀ K' vs st, L j K' 0 vs st = none)
    (h1 : ∀ K' n vs st, L j K' (n + 1) vs st = Lw (den c F L a s) ins outs K' (L j K' n) vs st) : bK c F L a sh := by
  subst hs; exact fun K' => ⟨h0 K', h1 K'⟩
theorem dA {R : Type} {c : ai} {F : Nat} {L : Env R} {A : aK} {s : Sh} (n : Nat) (hn : Nat.beq (bM A.code s).length n = true) (h : ∀ i, i < n -> bK c F L (cK A s i).1 (cK A s i).2) :
    ∀ x ∈ bM A.code s, bK c F L x.1 x.2 := by
  intro x hx
  obtain ⟨i, hi, he⟩ := List.mem_iff_getElem.1 hx
  have hn := Nat.eq_of_beq_eq_true hn
  have := h i (by omega)
  unfold cK at this
  rw [List.getD_eq_getElem?_getD, List.getElem?_eq_getElem hi] at this
  simp only [Option.getD_some, he] at this
  exact this
end Go.Ai
end
section
set_option linter.all false
namespace Go.Ai
open Go
theorem dV (k : IntKind) : w7 k k = true := by cases k <;> rfl
theorem kg (a b : Int) : uV a b = decide (a = b) := by rw [lH]; rfl
theorem fA (a b : List Nat) : ia a b = decide (a = b) := by
  rw [Bool.eq_iff_iff, kM]; simp
theorem wrap64 {x : Int} (h1 : -9223372036854775808 <= x) (h2 : x <= 9223372036854775807) : aM .i64 x = x := by
  unfold aM uf N0
  simp only
  split
  . split
    . rfl
    . contradiction
  . contradiction
theorem lN (k : IntKind) (n : Nat) : qV (.int k (n : Int)) = some n := id rfl
theorem iN (a b : Nat) : Nat.ble a b = decide (a <= b) := by
  apply Bool.eq_iff_iff.2; simp
theorem wG (a b : Nat) : Nat.blt a b = decide (a < b) := by
  apply Bool.eq_iff_iff.2; simp [Nat.blt, Nat.ble_eq]; omega
theorem iZ (a b : Nat) : Nat.beq a b = decide (a = b) := by
  apply Bool.eq_iff_iff.2; simp
def rY {R : Type} (o : Option AV) (k : AV -> Option R) : Option R := match o with
  | some v => k v
  | none => none
def xF {R : Type} (o : Option (List AV)) (k : List AV -> Option R) : Option R := match o with
  | some v => k v
  | none => none
def Fy {R : Type} (o : Option (AV × St)) (k : AV -> St -> Option R) : Option R := match o with
  | some (v, st) => k v st
  | none => none
section
variable {R : Type} (c : ai) (K : AV -> St -> Option R) (K1 : AV -> Option R) (A B : Option R)
@[simp] theorem sH (v : AV) (k : AV -> Option R) : rY (some v) k = k v := id rfl
@[simp] theorem vC (v : List AV) (k : List AV -> Option R) : xF (some v) k = k v := id rfl
@[simp] theorem yZ (v : AV) (st : St) (k : AV -> St -> Option R) : Fy (some (v, st)) k = k v st := id rfl
@[simp] theorem pP : aH (.bool true) A B = A := id rfl
@[simp] theorem rN : aH (.bool false) A B = B := id rfl
@[simp] theorem jK (v : AV) (vs : List AV) (k : AV -> List AV -> Option R) : az (v :: vs) k = k v vs := id rfl
@[simp] theorem lu (k : Option R) : bC [] k = k := id rfl
theorem eo (f : (List AV -> St -> Option R) -> Option R) (k : List AV -> St -> Option R) : yX f k = f k := id rfl
@[simp] theorem adn (b : Bool) (k : aE) (xs : List AV) (st : St) : aj c (.bool b) b k xs st K = af c k xs st K := by cases b <;> exact id rfl
@[simp] theorem gst_tf (k : aE) (xs : List AV) (st : St) : aj c (.bool true) false k xs st K = K .undef st := id rfl
@[simp] theorem gst_ft (k : aE) (xs : List AV) (st : St) : aj c (.bool false) true k xs st K = K .undef st := id rfl
@[simp] theorem gst_un (b : Bool) (k : aE) (xs : List AV) (st : St) : aj c .undef b k xs st K = K .undef st := id rfl
@[simp] theorem ado (b : Bool) (k : aE) (xs : List AV) : cJ (.bool b) b k xs K1 = aB k xs K1 := by cases b <;> exact id rfl
@[simp] theorem gpr_tf (k : aE) (xs : List AV) : cJ (.bool true) false k xs K1 = K1 .undef := id rfl
@[simp] theorem gpr_ft (k : aE) (xs : List AV) : cJ (.bool false) true k xs K1 = K1 .undef := id rfl
@[simp] theorem gpr_un (b : Bool) (k : aE) (xs : List AV) : cJ .undef b k xs K1 = K1 .undef := id rfl
@[simp] theorem adp (b : Bool) (k : aE) (xs : List AV) (h : T AB) (ok : AV -> Bool) : jB (.bool b) b k xs h ok K1 = eF k xs h ok K1 := by cases b <;> exact id rfl
@[simp] theorem grd_tf (k : aE) (xs : List AV) (h : T AB) (ok : AV -> Bool) : jB (.bool true) false k xs h ok K1 = K1 .undef := id rfl
@[simp] theorem grd_ft (k : aE) (xs : List AV) (h : T AB) (ok : AV -> Bool) : jB (.bool false) true k xs h ok K1 = K1 .undef := id rfl
@[simp] theorem grd_un (b : Bool) (k : aE) (xs : List AV) (h : T AB) (ok : AV -> Bool) : jB .undef b k xs h ok K1 = K1 .undef := id rfl
@[simp] theorem adq (b : Bool) : sF (.bool b) b A B = A := by cases b <;> exact id rfl
@[simp] theorem wnt_tf : sF (.bool true) false A B = B := id rfl
@[simp] theorem wnt_ft : sF (.bool false) true A B = B := id rfl
@[simp] theorem wnt_un (b : Bool) : sF .undef b A B = B := id rfl
theorem xG {k : aE} {xs : List AV} {o : Option AV} (h : ∀ H n, k.run H n xs = o.map .val) (st : St) : af c k xs st K = rY o fun v => K v st := by
  unfold af cP; rw [h]; cases o <;> rfl
theorem Ly {k : aE} {xs : List AV} {o : Option AV} (h : ∀ H n, k.run H n xs = o.map .val) : aB k xs K1 = rY o K1 := by
  unfold aB; rw [h]; cases o <;> rfl
theorem bw {k : aE} {xs : List AV} {v : AV} (h : ∀ H n, k.run H n xs = some (.val v)) (st : St) : af c k xs st K = K v st := by
  unfold af cP; rw [h]
theorem eW {k : aE} {xs : List AV} {v : AV} (h : ∀ H n, k.run H n xs = some (.val v)) : aB k xs K1 = K1 v := by
  unfold aB; rw [h]
theorem Jv (f : FuncId) (l : List AV) (st : St) : af c (.callF f) l st K = Fy (c f l st) K := by
  unfold af cP; show (match c f l st with | some (v, st') => K v st' | none => none) = _
  cases c f l st <;> rfl
theorem Dr (f : FuncId) (l u v : List AV) (st : St) : af c .callV (.func f u v :: l) st K = Fy (c f (u ++ (l ++ v)) st) K := by
  unfold af cP; show (match c f (u ++ (l ++ v)) st with | some (v, st') => K v st' | none => none) = _
  cases c f (u ++ (l ++ v)) st <;> rfl
attribute [simp] Jv Dr
end
def cellsOf : Option AB -> Option (List AV)
  | some (.cells cs _) => some cs
  | _ => none
@[simp] theorem gF (cs : List AV) (f : Nat) : cellsOf (some (.cells cs f)) = some cs := id rfl
def ro (es : Nat) (z : Bool) (rs : List (List AV)) : AV := match z, rs with
  | true, [] => .av
  | _, rs => .fl rs es
theorem Ou {es : Nat} {z : Bool} {rs : List (List AV)} (h : rs ≠ []) : ro es z rs = .fl rs es := by
  unfold ro; split
  . exact absurd rfl h
  . rfl
theorem run_move (H : Pos -> Option AB) (n : Pos) (x : AV) : aE.run H n .move [x] = some (.val x) := rfl
@[simp] theorem dr {R : Type} (c : ai) (K : AV -> St -> Option R) (st : St) (x : AV) : af c .move [x] st K = K x st := bw c K (fun H n => run_move H n x) st
@[simp] theorem Lz {R : Type} (K : AV -> Option R) (x : AV) : aB .move [x] K = K x := eW K (fun H n => run_move H n x)
theorem G3 (H : Pos -> Option AB) (n : Pos) (x y : AV) : aE.run H n .pick [.bool true, x, y] = some (.val x) := rfl
@[simp] theorem ab3 {R : Type} (c : ai) (K : AV -> St -> Option R) (st : St) (x y : AV) : af c .pick [.bool true, x, y] st K = K x st := bw c K (fun H n => G3 H n x y) st
@[simp] theorem ab4 {R : Type} (K : AV -> Option R) (x y : AV) : aB .pick [.bool true, x, y] K = K x := eW K (fun H n => G3 H n x y)
theorem G4 (H : Pos -> Option AB) (n : Pos) (x y : AV) : aE.run H n .pick [.bool false, x, y] = some (.val y) := rfl
@[simp] theorem ab5 {R : Type} (c : ai) (K : AV -> St -> Option R) (st : St) (x y : AV) : af c .pick [.bool false, x, y] st K = K y st := bw c K (fun H n => G4 H n x y) st
@[simp] theorem ab6 {R : Type} (K : AV -> Option R) (x y : AV) : aB .pick [.bool false, x, y] K = K y := eW K (fun H n => G4 H n x y)
theorem Ov (H : Pos -> Option AB) (n : Pos) (p : Bool) : aE.run H n (.un .not) [.bool p] = some (.val (.bool (!p))) := rfl
@[simp] theorem En {R : Type} (c : ai) (K : AV -> St -> Option R) (st : St) (p : Bool) : af c (.un .not) [.bool p] st K = K (.bool (!p)) st := bw c K (fun H n => Ov H n p) st
@[simp] theorem adr {R : Type} (K : AV -> Option R) (p : Bool) : aB (.un .not) [.bool p] K = K (.bool (!p)) := eW K (fun H n => Ov H n p)
theorem Ow (H : Pos -> Option AB) (n : Pos) (q : fI) (k : IntKind) (a b : Int) : aE.run H n (.bin .lss q) [.int k a, .int k b] = some (.val (.bool (decide (a < b)))) := by simp [aE.run, jA, o9, dV, kg, eD, gS, fA]
@[simp] theorem uI {R : Type} (c : ai) (K : AV -> St -> Option R) (st : St) (q : fI) (k : IntKind) (a b : Int) : af c (.bin .lss q) [.int k a, .int k b] st K = K (.bool (decide (a < b))) st := bw c K (fun H n => Ow H n q k a b) st
@[simp] theorem Ox {R : Type} (K : AV -> Option R) (q : fI) (k : IntKind) (a b : Int) : aB (.bin .lss q) [.int k a, .int k b] K = K (.bool (decide (a < b))) := eW K (fun H n => Ow H n q k a b)
theorem Oy (H : Pos -> Option AB) (n : Pos) (q : fI) (k : IntKind) (a b : Int) : aE.run H n (.bin .leq q) [.int k a, .int k b] = some (.val (.bool (decide (a <= b)))) := by simp [aE.run, jA, o9, dV, kg, eD, gS, fA]
@[simp] theorem ads {R : Type} (c : ai) (K : AV -> St -> Option R) (st : St) (q : fI) (k : IntKind) (a b : Int) : af c (.bin .leq q) [.int k a, .int k b] st K = K (.bool (decide (a <= b))) st := bw c K (fun H n => Oy H n q k a b) st
@[simp] theorem adt {R : Type} (K : AV -> Option R) (q : fI) (k : IntKind) (a b : Int) : aB (.bin .leq q) [.int k a, .int k b] K = K (.bool (decide (a <= b))) := eW K (fun H n => Oy H n q k a b)
theorem Oz (H : Pos -> Option AB) (n : Pos) (q : fI) (k : IntKind) (a b : Int) : aE.run H n (.bin .gtr q) [.int k a, .int k b] = some (.val (.bool (decide (b < a)))) := by simp [aE.run, jA, o9, dV, kg, eD, gS, fA]
@[simp] theorem adu {R : Type} (c : ai) (K : AV -> St -> Option R) (st : St) (q : fI) (k : IntKind) (a b : Int) : af c (.bin .gtr q) [.int k a, .int k b] st K = K (.bool (decide (b < a))) st := bw c K (fun H n => Oz H n q k a b) st
@[simp] theorem adv {R : Type} (K : AV -> Option R) (q : fI) (k : IntKind) (a b : Int) : aB (.bin .gtr q) [.int k a, .int k b] K = K (.bool (decide (b < a))) := eW K (fun H n => Oz H n q k a b)
theorem OA (H : Pos -> Option AB) (n : Pos) (q : fI) (k : IntKind) (a b : Int) : aE.run H n (.bin .geq q) [.int k a, .int k b] = some (.val (.bool (decide (b <= a)))) := by simp [aE.run, jA, o9, dV, kg, eD, gS, fA]
@[simp] theorem adw {R : Type} (c : ai) (K : AV -> St -> Option R) (st : St) (q : fI) (k : IntKind) (a b : Int) : af c (.bin .geq q) [.int k a, .int k b] st K = K (.bool (decide (b <= a))) st := bw c K (fun H n => OA H n q k a b) st
@[simp] theorem adx {R : Type} (K : AV -> Option R) (q : fI) (k : IntKind) (a b : Int) : aB (.bin .geq q) [.int k a, .int k b] K = K (.bool (decide (b <= a))) := eW K (fun H n => OA H n q k a b)
theorem OB (H : Pos -> Option AB) (n : Pos) (q : fI) (k : IntKind) (a b : Int) : aE.run H n (.bin .eql q) [.int k a, .int k b] = some (.val (.bool (decide (a = b)))) := by simp [aE.run, jA, o9, dV, kg, eD, gS, fA]
@[simp] theorem ady {R : Type} (c : ai) (K : AV -> St -> Option R) (st : St) (q : fI) (k : IntKind) (a b : Int) : af c (.bin .eql q) [.int k a, .int k b] st K = K (.bool (decide (a = b))) st := bw c K (fun H n => OB H n q k a b) st
@[simp] theorem adz {R : Type} (K : AV -> Option R) (q : fI) (k : IntKind) (a b : Int) : aB (.bin .eql q) [.int k a, .int k b] K = K (.bool (decide (a = b))) := eW K (fun H n => OB H n q k a b)
theorem OC (H : Pos -> Option AB) (n : Pos) (q : fI) (k : IntKind) (a b : Int) : aE.run H n (.bin .neq q) [.int k a, .int k b] = some (.val (.bool (!decide (a = b)))) := by simp [aE.run, jA, o9, dV, kg, eD, gS, fA]
@[simp] theorem adA {R : Type} (c : ai) (K : AV -> St -> Option R) (st : St) (q : fI) (k : IntKind) (a b : Int) : af c (.bin .neq q) [.int k a, .int k b] st K = K (.bool (!decide (a = b))) st := bw c K (fun H n => OC H n q k a b) st
@[simp] theorem adB {R : Type} (K : AV -> Option R) (q : fI) (k : IntKind) (a b : Int) : aB (.bin .neq q) [.int k a, .int k b] K = K (.bool (!decide (a = b))) := eW K (fun H n => OC H n q k a b)
theorem OD (H : Pos -> Option AB) (n : Pos) (q : fI) (k : IntKind) (a b : Int) : aE.run H n (.bin .add q) [.int k a, .int k b] = some (.val (.int k (aM k (a + b)))) := by simp [aE.run, jA, o9, dV, kg, eD, gS, fA]
@[simp] theorem Eo {R : Type} (c : ai) (K : AV -> St -> Option R) (st : St) (q : fI) (k : IntKind) (a b : Int) : af c (.bin .add q) [.int k a, .int k b] st K = K (.int k (aM k (a + b))) st := bw c K (fun H n => OD H n q k a b) st
@[simp] theorem adC {R : Type} (K : AV -> Option R) (q : fI) (k : IntKind) (a b : Int) : aB (.bin .add q) [.int k a, .int k b] K = K (.int k (aM k (a + b))) := eW K (fun H n => OD H n q k a b)
theorem OE (H : Pos -> Option AB) (n : Pos) (q : fI) (k : IntKind) (a b : Int) : aE.run H n (.bin .sub q) [.int k a, .int k b] = some (.val (.int k (aM k (a - b)))) := by simp [aE.run, jA, o9, dV, kg, eD, gS, fA]
@[simp] theorem adD {R : Type} (c : ai) (K : AV -> St -> Option R) (st : St) (q : fI) (k : IntKind) (a b : Int) : af c (.bin .sub q) [.int k a, .int k b] st K = K (.int k (aM k (a - b))) st := bw c K (fun H n => OE H n q k a b) st
@[simp] theorem adE {R : Type} (K : AV -> Option R) (q : fI) (k : IntKind) (a b : Int) : aB (.bin .sub q) [.int k a, .int k b] K = K (.int k (aM k (a - b))) := eW K (fun H n => OE H n q k a b)
theorem Wb (H : Pos -> Option AB) (n : Pos) (q : fI) (k : IntKind) (a b : Int) : aE.run H n (.bin .mul q) [.int k a, .int k b] = some (.val (.int k (aM k (a * b)))) := by simp [aE.run, jA, o9, dV, kg, eD, gS, fA]
@[simp] theorem adF {R : Type} (c : ai) (K : AV -> St -> Option R) (st : St) (q : fI) (k : IntKind) (a b : Int) : af c (.bin .mul q) [.int k a, .int k b] st K = K (.int k (aM k (a * b))) st := bw c K (fun H n => Wb H n q k a b) st
theorem LA (H : Pos -> Option AB) (n : Pos) (q : fI) (s t : List Nat) : aE.run H n (.bin .eql q) [.str s, .str t] = some (.val (.bool (decide (s = t)))) := by simp [aE.run, jA, o9, dV, kg, eD, gS, fA]
@[simp] theorem ac4 {R : Type} (c : ai) (K : AV -> St -> Option R) (st : St) (q : fI) (s t : List Nat) : af c (.bin .eql q) [.str s, .str t] st K = K (.bool (decide (s = t))) st := bw c K (fun H n => LA H n q s t) st
@[simp] theorem ac5 {R : Type} (K : AV -> Option R) (q : fI) (s t : List Nat) : aB (.bin .eql q) [.str s, .str t] K = K (.bool (decide (s = t))) := eW K (fun H n => LA H n q s t)
theorem Ta (H : Pos -> Option AB) (n : Pos) (q : fI) (s t : List Nat) : aE.run H n (.bin .neq q) [.str s, .str t] = some (.val (.bool (!decide (s = t)))) := by simp [aE.run, jA, o9, dV, kg, eD, gS, fA]
@[simp] theorem ac6 {R : Type} (c : ai) (K : AV -> St -> Option R) (st : St) (q : fI) (s t : List Nat) : af c (.bin .neq q) [.str s, .str t] st K = K (.bool (!decide (s = t))) st := bw c K (fun H n => Ta H n q s t) st
theorem LB (H : Pos -> Option AB) (n : Pos) (q : fI) (s t : List Nat) : aE.run H n (.bin .lss q) [.str s, .str t] = some (.val (.bool (aA s t))) := by simp [aE.run, jA, o9, dV, kg, eD, gS, fA]
@[simp] theorem ac7 {R : Type} (c : ai) (K : AV -> St -> Option R) (st : St) (q : fI) (s t : List Nat) : af c (.bin .lss q) [.str s, .str t] st K = K (.bool (aA s t)) st := bw c K (fun H n => LB H n q s t) st
@[simp] theorem ac8 {R : Type} (K : AV -> Option R) (q : fI) (s t : List Nat) : aB (.bin .lss q) [.str s, .str t] K = K (.bool (aA s t)) := eW K (fun H n => LB H n q s t)
theorem Tb (H : Pos -> Option AB) (n : Pos) (q : fI) (s t : List Nat) : aE.run H n (.bin .leq q) [.str s, .str t] = some (.val (.bool (aA s t || decide (s = t)))) := by simp [aE.run, jA, o9, dV, kg, eD, gS, fA]
@[simp] theorem ac9 {R : Type} (K : AV -> Option R) (q : fI) (s t : List Nat) : aB (.bin .leq q) [.str s, .str t] K = K (.bool (aA s t || decide (s = t))) := eW K (fun H n => Tb H n q s t)
theorem LC (H : Pos -> Option AB) (n : Pos) (q : fI) (s t : List Nat) : aE.run H n (.bin .geq q) [.str s, .str t] = some (.val (.bool (!aA s t))) := by simp [aE.run, jA, o9, dV, kg, eD, gS, fA]
@[simp] theorem ada {R : Type} (c : ai) (K : AV -> St -> Option R) (st : St) (q : fI) (s t : List Nat) : af c (.bin .geq q) [.str s, .str t] st K = K (.bool (!aA s t)) st := bw c K (fun H n => LC H n q s t) st
@[simp] theorem adb {R : Type} (K : AV -> Option R) (q : fI) (s t : List Nat) : aB (.bin .geq q) [.str s, .str t] K = K (.bool (!aA s t)) := eW K (fun H n => LC H n q s t)
theorem Tc (H : Pos -> Option AB) (n : Pos) (s : List Nat) : aE.run H n (.lenB .s) [.str s] = some (.val (.int .i64 (s.length : Int))) := rfl
@[simp] theorem ade {R : Type} (c : ai) (K : AV -> St -> Option R) (st : St) (s : List Nat) : af c (.lenB .s) [.str s] st K = K (.int .i64 (s.length : Int)) st := bw c K (fun H n => Tc H n s) st
theorem LD (H : Pos -> Option AB) (n : Pos) (es : Nat) (z : Bool) (rs : List (List AV)) : aE.run H n (.lenB .l) [ro es z rs] = some (.val (.int .i64 (rs.length : Int))) := by unfold ro; split <;> rfl
@[simp] theorem mT {R : Type} (c : ai) (K : AV -> St -> Option R) (st : St) (es : Nat) (z : Bool) (rs : List (List AV)) : af c (.lenB .l) [ro es z rs] st K = K (.int .i64 (rs.length : Int)) st := bw c K (fun H n => LD H n es z rs) st
@[simp] theorem Td {R : Type} (K : AV -> Option R) (es : Nat) (z : Bool) (rs : List (List AV)) : aB (.lenB .l) [ro es z rs] K = K (.int .i64 (rs.length : Int)) := eW K (fun H n => LD H n es z rs)
theorem Te (H : Pos -> Option AB) (n : Pos) (k k2 : IntKind) (a : Int) : aE.run H n (.conv (.int k)) [.int k2 a] = some (.val (.int k (aM k a))) := rfl
@[simp] theorem LF {R : Type} (c : ai) (K : AV -> St -> Option R) (st : St) (k k2 : IntKind) (a : Int) : af c (.conv (.int k)) [.int k2 a] st K = K (.int k (aM k a)) st := bw c K (fun H n => Te H n k k2 a) st
theorem Tf (H : Pos -> Option AB) (n : Pos) (k : IntKind) (s : List Nat) (i : Nat) : aE.run H n .idxS [.str s, .int k (i : Int)] = ((s[i]?.map fun c => .int .u8 (c : Int)) : Option AV).map .val := by simp only [aE.run, Ec, lN, lF]; cases s[i]? <;> rfl
@[simp] theorem adf {R : Type} (c : ai) (K : AV -> St -> Option R) (st : St) (k : IntKind) (s : List Nat) (i : Nat) : af c .idxS [.str s, .int k (i : Int)] st K = rY (s[i]?.map fun c => .int .u8 (c : Int)) fun v => K v st := xG c K (fun H n => Tf H n k s i) st
theorem Ds (H : Pos -> Option AB) (n : Pos) (off : Nat) (p : Pos) (o : Nat) : aE.run H n (.fieldA off) [.ptr p o] = some (.val (.ptr p (o + off))) := rfl
@[simp] theorem nD {R : Type} (c : ai) (K : AV -> St -> Option R) (st : St) (off : Nat) (p : Pos) (o : Nat) : af c (.fieldA off) [.ptr p o] st K = K (.ptr p (o + off)) st := bw c K (fun H n => Ds H n off p o) st
@[simp] theorem aaf {R : Type} (K : AV -> Option R) (off : Nat) (p : Pos) (o : Nat) : aB (.fieldA off) [.ptr p o] K = K (.ptr p (o + off)) := eW K (fun H n => Ds H n off p o)
theorem Dt (H : Pos -> Option AB) (n : Pos) (off : Nat) (xs : List (List AV)) (i j : Nat) : aE.run H n (.fieldA off) [.fp xs i j] = some (.val (.fp xs i (j + off))) := rfl
@[simp] theorem aag {R : Type} (c : ai) (K : AV -> St -> Option R) (st : St) (off : Nat) (xs : List (List AV)) (i j : Nat) : af c (.fieldA off) [.fp xs i j] st K = K (.fp xs i (j + off)) st := bw c K (fun H n => Dt H n off xs i j) st
@[simp] theorem aah {R : Type} (K : AV -> Option R) (off : Nat) (xs : List (List AV)) (i j : Nat) : aB (.fieldA off) [.fp xs i j] K = K (.fp xs i (j + off)) := eW K (fun H n => Dt H n off xs i j)
theorem EZ (H : Pos -> Option AB) (n : Pos) (i : Nat) (l : List AV) : aE.run H n (.extract i) [.tuple l] = (l[i]? : Option AV).map .val := by simp only [aE.run, wu, lF]; cases l[i]? <;> rfl
@[simp] theorem u6 {R : Type} (c : ai) (K : AV -> St -> Option R) (st : St) (i : Nat) (l : List AV) : af c (.extract i) [.tuple l] st K = rY l[i]? fun v => K v st := xG c K (fun H n => EZ H n i l) st
@[simp] theorem abK {R : Type} (K : AV -> Option R) (i : Nat) (l : List AV) : aB (.extract i) [.tuple l] K = rY l[i]? K := Ly K (fun H n => EZ H n i l)
theorem Ae (H : Pos -> Option AB) (n : Pos) (p : Pos) (o : Nat) : aE.run H n .nilCheck [.ptr p o] = some (.val (.ptr p o)) := rfl
@[simp] theorem qJ {R : Type} (c : ai) (K : AV -> St -> Option R) (st : St) (p : Pos) (o : Nat) : af c .nilCheck [.ptr p o] st K = K (.ptr p o) st := bw c K (fun H n => Ae H n p o) st
@[simp] theorem Wc {R : Type} (K : AV -> Option R) (p : Pos) (o : Nat) : aB .nilCheck [.ptr p o] K = K (.ptr p o) := eW K (fun H n => Ae H n p o)
theorem LG (H : Pos -> Option AB) (n : Pos) (es : Nat) (z : Bool) (rs : List (List AV)) (k : IntKind) (i : Nat) : aE.run H n (.idxA es none) [ro es z rs, .int k (i : Int)] = ((if i < rs.length then some (.fp rs i 0) else none) : Option AV).map .val := by
  by_cases h : i < rs.length
  . rw [Ou (by intro e; subst e; simp at h)]
    simp [aE.run, qG, lN, wG, iZ, h]
  . unfold ro; split
    . rfl
    . simp [aE.run, qG, lN, wG, iZ, h]
@[simp] theorem adg {R : Type} (c : ai) (K : AV -> St -> Option R) (st : St) (es : Nat) (z : Bool) (rs : List (List AV)) (k : IntKind) (i : Nat) : af c (.idxA es none) [ro es z rs, .int k (i : Int)] st K = rY (if i < rs.length then some (.fp rs i 0) else none) fun v => K v st := xG c K (fun H n => LG H n es z rs k i) st
@[simp] theorem adh {R : Type} (K : AV -> Option R) (es : Nat) (z : Bool) (rs : List (List AV)) (k : IntKind) (i : Nat) : aB (.idxA es none) [ro es z rs, .int k (i : Int)] K = rY (if i < rs.length then some (.fp rs i 0) else none) K := Ly K (fun H n => LG H n es z rs k i)
theorem Jw (H : Pos -> Option AB) (n : Pos) (es : Nat) (z : Bool) (rs : List (List AV)) (k : IntKind) (i : Nat) : aE.run H n (.sliceL es false true false) [ro es z rs, .int k (i : Int)] = ((if i <= rs.length then some (ro es (z && rs.isEmpty) (rs.take i)) else none) : Option AV).map .val := by
  by_cases h : i <= rs.length
  . rw [if_pos h]; unfold ro
    split
    . simp at h; subst h; rfl
    . rename_i hn
      have : (z && rs.isEmpty) = false := by
        cases z <;> cases rs <;> simp at hn ⊢
      simp only [this]
      simp [aE.run, nT, bounds, lN, iN, iZ, h]
  . rw [if_neg h]; unfold ro; split
    . simp only [aE.run, nT, bounds, lN]
      have : ¬ i = 0 := by simp at h; omega
      simp [iZ, this]
    . simp [aE.run, nT, bounds, lN, iN, iZ, h]
@[simp] theorem ac1 {R : Type} (c : ai) (K : AV -> St -> Option R) (st : St) (es : Nat) (z : Bool) (rs : List (List AV)) (k : IntKind) (i : Nat) : af c (.sliceL es false true false) [ro es z rs, .int k (i : Int)] st K = rY (if i <= rs.length then some (ro es (z && rs.isEmpty) (rs.take i)) else none) fun v => K v st := xG c K (fun H n => Jw H n es z rs k i) st
@[simp] theorem ac2 {R : Type} (K : AV -> Option R) (es : Nat) (z : Bool) (rs : List (List AV)) (k : IntKind) (i : Nat) : aB (.sliceL es false true false) [ro es z rs, .int k (i : Int)] K = rY (if i <= rs.length then some (ro es (z && rs.isEmpty) (rs.take i)) else none) K := Ly K (fun H n => Jw H n es z rs k i)
section
variable {R : Type} (c : ai) (K : AV -> St -> Option R) (K1 : AV -> Option R)
theorem Bt (H : Pos -> Option AB) (n : Pos) (xs : List (List AV)) (i j : Nat) : aE.run H n (.load none) [.fp xs i j] = (xs[i]?.bind fun cs => cs[j]?).map .val := by
  simp only [aE.run, qF, lF]
  cases xs[i]? with
  | none => rfl
  | some cs => simp only [Option.bind_some]; cases cs[j]? <;> rfl
theorem zz (H : Pos -> Option AB) (n : Pos) (m : Nat) (xs : List (List AV)) (i j : Nat) : aE.run H n (.load (some m)) [.fp xs i j] = ((xs[i]?.bind fun cs => cut cs j m).map .agg).map .val := by
  simp only [aE.run, qF, lF]
  cases xs[i]? with
  | none => rfl
  | some cs => simp only [Option.bind_some]; cases cut cs j m <;> rfl
theorem qK (H : Pos -> Option AB) (n : Pos) (p : Pos) (o : Nat) : aE.run H n (.load none) [.ptr p o] = ((cellsOf (H p)).bind fun cs => cs[o]?).map .val := by
  simp only [aE.run, qF, lF]
  cases H p with
  | none => rfl
  | some x => cases x <;> simp only [cellsOf, Option.bind_some, Option.bind_none] <;> try rfl
              rename_i cs _; cases cs[o]? <;> rfl
theorem o6 (H : Pos -> Option AB) (n : Pos) (m : Nat) (p : Pos) (o : Nat) : aE.run H n (.load (some m)) [.ptr p o] = (((cellsOf (H p)).bind fun cs => cut cs o m).map .agg).map .val := by
  simp only [aE.run, qF]
  cases H p with
  | none => rfl
  | some x => cases x <;> simp only [cellsOf, Option.bind_some, Option.bind_none] <;> try rfl
              rename_i cs _; cases cut cs o m <;> rfl
@[simp] theorem ab7 (st : St) (xs : List (List AV)) (i j : Nat) : af c (.load none) [.fp xs i j] st K = rY (xs[i]?.bind fun cs => cs[j]?) fun v => K v st := xG c K (fun H n => Bt H n xs i j) st
@[simp] theorem abL (st : St) (m : Nat) (xs : List (List AV)) (i j : Nat) : af c (.load (some m)) [.fp xs i j] st K = xF (xs[i]?.bind fun cs => cut cs j m) fun l => K (.agg l) st := by
  rw [xG c K (fun H n => zz H n m xs i j) st]; cases (xs[i]?.bind fun cs => cut cs j m) <;> rfl
@[simp] theorem qL (st : St) (p : Pos) (o : Nat) : af c (.load none) [.ptr p o] st K = rY ((cellsOf (st.heap.get p)).bind fun cs => cs[o]?) fun v => K v st := by
  unfold af cP; rw [qK]; cases ((cellsOf (st.heap.get p)).bind fun cs => cs[o]?) <;> rfl
@[simp] theorem abM (st : St) (m : Nat) (p : Pos) (o : Nat) : af c (.load (some m)) [.ptr p o] st K = xF ((cellsOf (st.heap.get p)).bind fun cs => cut cs o m) fun l => K (.agg l) st := by
  unfold af cP; rw [o6]; cases ((cellsOf (st.heap.get p)).bind fun cs => cut cs o m) <;> rfl
@[simp] theorem ab8 (h : T AB) (xs : List (List AV)) (i j : Nat) : eF (.load none) [.fp xs i j] h (fun _ => true) K1 = rY (xs[i]?.bind fun cs => cs[j]?) K1 := by
  unfold eF; rw [Bt, Bt]
  cases hx : (xs[i]?.bind fun cs => cs[j]?) <;> rfl
@[simp] theorem abN (h : T AB) (m : Nat) (xs : List (List AV)) (i j : Nat) : eF (.load (some m)) [.fp xs i j] h (fun _ => true) K1 = xF (xs[i]?.bind fun cs => cut cs j m) fun l => K1 (.agg l) := by
  unfold eF; rw [zz, zz]
  cases hx : (xs[i]?.bind fun cs => cut cs j m) <;> rfl
@[simp] theorem abO (st : St) (f : FuncId) (xs : List AV) : af c (.mkFunc f 0) xs st K = K (.func f [] xs) st := bw c K (fun H n => by simp [aE.run, yC, iN]) st
@[simp] theorem ab9 (h : T AB) (p : Pos) (o : Nat) : eF (.load none) [.ptr p o] h (fun _ => true) K1 = rY ((cellsOf (h.get p)).bind fun cs => cs[o]?) K1 := by
  unfold eF; rw [qK, qK]
  show (match ((cellsOf (h.get p)).bind fun cs => cs[o]?).map dz.val with | some (.val v) => _ | _ => _) = _
  cases ((cellsOf (h.get p)).bind fun cs => cs[o]?) <;> rfl
@[simp] theorem E0 (h : T AB) (m : Nat) (p : Pos) (o : Nat) : eF (.load (some m)) [.ptr p o] h (fun _ => true) K1 = xF ((cellsOf (h.get p)).bind fun cs => cut cs o m) fun l => K1 (.agg l) := by
  unfold eF; rw [o6, o6]
  show (match (((cellsOf (h.get p)).bind fun cs => cut cs o m).map AV.agg).map dz.val with | some (.val v) => _ | _ => _) = _
  cases ((cellsOf (h.get p)).bind fun cs => cut cs o m) <;> rfl
theorem run_build (H : Pos -> Option AB) (n : Pos) (z : List AV) (ps : List (Nat × Nat)) (xs : List AV) : aE.run H n (.build z ps) xs = ((cL z ps xs).map .agg).map .val := by
  simp only [aE.run, AN]; cases cL z ps xs <;> rfl
@[simp] theorem Q4 (st : St) (z : List AV) (ps : List (Nat × Nat)) (xs : List AV) : af c (.build z ps) xs st K = xF (cL z ps xs) fun l => K (.agg l) st := by
  rw [xG c K (fun H n => run_build H n z ps xs) st]; cases cL z ps xs <;> rfl
theorem fR {α : Type} {l : List α} {m : Nat} (h : l.length = m) : cut l 0 m = some l := by
  unfold cut
  rw [iN, decide_eq_true (by omega)]
  simp only [List.drop_zero]
  rw [List.take_of_length_le (by omega)]
end
end Go.Ai
namespace Go.Ai
open Go
def Wf (st : St) : Prop := ∀ p x, st.heap.get p = some x -> p.toNat < st.next.toNat
theorem mU (st : St) (b : AB) : (au st b).next = st.next.succ := id rfl
@[simp] theorem cF {st : St} {b : AB} (h : Wf st) : Wf (au st b) := fun p x hp => by
  rw [mU, Pos.aL]
  by_cases e : st.next = p
  . subst e; omega
  . have := h p x (by rwa [au, T.bT _ e] at hp)
    omega
@[simp] theorem cm (st : St) (b : AB) : (au st b).heap.get st.next = some b := T.fQ _ _ _
theorem zA {st : St} {b : AB} {p : Pos} (h : p.toNat < st.next.toNat) : (au st b).heap.get p = st.heap.get p := by
  rw [au, T.bT _ (by intro e; subst e; omega)]
@[simp] theorem Du {st : St} {a b : AB} : (au (au st a) b).heap.get st.next = some a := by
  rw [zA (by rw [mU, Pos.aL]; omega), cm]
theorem bU {st : St} {b : AB} (h : Wf st) : bY st (au st b) := fun p x hp => by
  rw [zA (h p x hp)]; exact hp
theorem aI {st st' : St} {v : AV} (hv : Plain v) (hk : bY st st') : tidy st (v, st') = (v, st) := by
  unfold tidy; rw [if_pos ⟨hv, hk⟩]
section
variable {R : Type} (c : ai) (K : AV -> St -> Option R)
@[simp] theorem uJ (x : AV) (st : St) : af c .box [x] st K = K (.ptr st.next 0) (au st (.cells x.cells 0)) := id rfl
@[simp] theorem ac3 (l : List AV) (st : St) : af c (.alloc l) [] st K = K (.ptr st.next 0) (au st (.cells l 0)) := id rfl
end
theorem T.xH {α : Type} (x y : Option α) : ∀ (p : Pos) (t : T α), T.put x p (T.put y p t) = T.put x p t
  | .h, .e => rfl
  | .h, .n _ _ _ => rfl
  | .o p, .e => by simp only [T.put]; rw [T.xH x y p]
  | .o p, .n _ _ _ => by simp only [T.put]; rw [T.xH x y p]
  | .i p, .e => by simp only [T.put]; rw [T.xH x y p]
  | .i p, .n _ _ _ => by simp only [T.put]; rw [T.xH x y p]
def oM (st : St) (p : Pos) (b : AB) : St := { heap := st.heap.put (some b) p, next := st.next }
@[simp] theorem Tg (st : St) (p : Pos) (b : AB) : (oM st p b).next = st.next := id rfl
@[simp] theorem Af (st : St) (p : Pos) (b : AB) : (oM st p b).heap.get p = some b := T.fQ _ _ _
theorem ir {st : St} {p q : Pos} {b : AB} (h : p ≠ q) : (oM st p b).heap.get q = st.heap.get q := T.bT _ h _
@[simp] theorem OG (st : St) (a b : AB) : oM (au st a) st.next b = au st b := by
  unfold oM au; simp only [T.xH]
theorem Pos.Wd (p : Pos) : p ≠ p.succ := fun e => by have := congrArg Pos.toNat e; rw [Pos.aL] at this; omega
theorem vD {R : Type} (c : ai) (K : AV -> St -> Option R) (st : St) (m : Nat) (p : Pos) (o : Nat) (v : AV) (cs : List AV) (h : st.heap.get p = some (.cells cs 0)) (h1 : v.cells.length = m) (h2 : o + m <= cs.length) (h3 : cY v.cells = true) :
    af c (.store m) [.ptr p o, v] st K = K .undef (oM st p (.cells (bg cs o v.cells) 0)) := by
  have : aE.run (fun b => st.heap.get b) st.next (.store m) [.ptr p o, v] = some (.aN .undef none (some (p, .cells (bg cs o v.cells) 0)) none) := by
    simp [aE.run, w8, h, h1, h2, h3, iZ, iN]
  unfold af cP; rw [this]; rfl
@[simp] theorem Ct {R : Type} (c : ai) (K : AV -> St -> Option R) (st : St) (m : Nat) (v : AV) (cs : List AV) (h1 : v.cells.length = m) (h2 : m = cs.length) (h3 : cY v.cells = true) :
    af c (.store m) [.ptr st.next 0, v] (au st (.cells cs 0)) K = K .undef (au st (.cells v.cells 0)) := by
  rw [vD c K _ m st.next 0 v cs (cm _ _) h1 (by omega) h3, OG]
  have : bg cs 0 v.cells = v.cells := by unfold bg; rw [h1, h2]; simp
  rw [this]
theorem acd {R : Type} (n : Option Nat) (p : Pos) (o : Nat) (st : St) (K : AV -> Option R) : EY n (.ptr p o) st K = match n with
    | none => rY ((cellsOf (st.heap.get p)).bind fun cs => cs[o]?) K
    | some m => xF ((cellsOf (st.heap.get p)).bind fun cs => cut cs o m) fun l => K (.agg l) := by
  unfold EY
  cases n with
  | none => rw [qK]; simp only; cases ((cellsOf (st.heap.get p)).bind fun cs => cs[o]?) <;> rfl
  | some m => rw [o6]; simp only; cases ((cellsOf (st.heap.get p)).bind fun cs => cut cs o m) <;> rfl
@[simp] theorem adi {R : Type} (m : Nat) (p : Pos) (o : Nat) (st : St) (K : AV -> Option R) : EY (some m) (.ptr p o) st K = xF ((cellsOf (st.heap.get p)).bind fun cs => cut cs o m) fun l => K (.agg l) := acd (some m) p o st K
@[simp] theorem Q5 (es : Nat) (z : Bool) (rs : List (List AV)) : (ro es z rs).one = true := by unfold ro; split <;> rfl
@[simp] theorem LH (es : Nat) (z : Bool) (rs : List (List AV)) : (ro es z rs).cells = [ro es z rs] := by unfold ro; split <;> rfl
theorem Plain.ro {es : Nat} {z : Bool} {rs : List (List AV)} (h : ∀ cs ∈ rs, ∀ v ∈ cs, Plain v) : Plain (ro es z rs) := by
  unfold Go.Ai.ro; split
  . exact Plain.av
  . exact Plain.fl h
structure Grew (s s' : St) : Prop where
  wf : Wf s'
  keeps : bY s s'
  next : s.next.toNat <= s'.next.toNat
theorem Grew.refl {s : St} (h : Wf s) : Grew s s := ⟨h, bY.refl s, Nat.le_refl _⟩
theorem Grew.trans {a b c : St} (h : Grew a b) (k : Grew b c) : Grew a c := ⟨k.wf, h.keeps.trans k.keeps, Nat.le_trans h.next k.next⟩
theorem Grew.au {s : St} (h : Wf s) (b : AB) : Grew s (au s b) := ⟨cF h, bU h, by rw [mU, Pos.aL]; omega⟩
theorem Grew.get {s s' : St} (h : Grew s s') {p : Pos} {x : AB} (hp : s.heap.get p = some x) : s'.heap.get p = some x := h.keeps p x hp
end Go.Ai
end
section
set_option linter.all false
namespace Go.Ai
open Go
theorem Dv {st : St} {p : Pos} {b : AB} (h : Wf st) (hp : p.toNat < st.next.toNat) : Wf (oM st p b) := fun q x hq => by
  rw [Tg]
  by_cases e : p = q
  . subst e; exact hp
  . rw [ir e] at hq; exact h q x hq
def dst (st : St) (p : Pos) (b : AB) : St := { heap := (st.heap.put none p).put (some b) st.next, next := st.next.succ }
theorem Th (st : St) (p : Pos) (b : AB) : (dst st p b).next = st.next.succ := id rfl
theorem We (st : St) (p : Pos) (b : AB) : (dst st p b).heap.get st.next = some b := T.fQ _ _ _
theorem PG {st : St} {p q : Pos} {b : AB} (h : p ≠ q) (h2 : q.toNat < st.next.toNat) : (dst st p b).heap.get q = st.heap.get q := by
  rw [dst, T.bT _ (by intro e; subst e; omega), T.bT _ h]
theorem aai {st : St} {p : Pos} {b : AB} (h : Wf st) : Wf (dst st p b) := fun q x hq => by
  rw [Th, Pos.aL]
  by_cases e : st.next = q
  . subst e; omega
  . rw [dst, T.bT _ e] at hq
    by_cases e2 : p = q
    . subst e2; rw [T.fQ] at hq; cases hq
    . rw [T.bT _ e2] at hq; have := h q x hq; omega
theorem Dw {s s' : St} {v : AV} (h : Grew s s') (hw : Wf s) : ∃ Jy, tidy s (v, s') = (v, Jy) /\ Grew s Jy := by
  unfold tidy; split
  . exact ⟨s, rfl, Grew.refl hw⟩
  . exact ⟨s', rfl, h⟩
theorem OH {s s' : St} {v : AV} {b : Pos} {x : AB} (h : s.heap.get b = some x) (h2 : s'.heap.get b ≠ some x) : tidy s (v, s') = (v, s') := by
  unfold tidy; rw [if_neg]
  exact fun e => h2 (e.2 b x h)
section
variable {R : Type} (c : ai) (K : AV -> St -> Option R) (K1 : AV -> Option R)
theorem G5 (H : Pos -> Option AB) (n : Pos) (es len : Nat) (z : List AV) (ps : List Nat) (xs : List AV) : aE.run H n (.buildSlice es len z ps) xs = (cL (cv z len) (ps.map fun i => (i * es, es)) xs).map fun cs => .aN (.slice n 0 len (some len) es) none none (some (.cells cs 0)) := by
  simp only [aE.run, oI]; cases cL (cv z len) (ps.map fun i => (i * es, es)) xs <;> rfl
@[simp] theorem mG (st : St) (es len : Nat) (z : List AV) (ps : List Nat) (xs : List AV) : af c (.buildSlice es len z ps) xs st K = xF (cL (cv z len) (ps.map fun i => (i * es, es)) xs) fun cs => K (.slice st.next 0 len (some len) es) (au st (.cells cs 0)) := by
  unfold af cP; rw [G5]; cases cL (cv z len) (ps.map fun i => (i * es, es)) xs <;> rfl
@[simp] theorem ace (st : St) (es len : Nat) (z : List AV) (ps : List Nat) (xs : List AV) (K2 : AV -> AB -> Option R) : Ju (.buildSlice es len z ps) xs st K2 = xF (cL (cv z len) (ps.map fun i => (i * es, es)) xs) fun cs => K2 (.slice st.next 0 len (some len) es) (.cells cs 0) := by
  unfold Ju; rw [G5]; cases cL (cv z len) (ps.map fun i => (i * es, es)) xs <;> rfl
@[simp] theorem Q7 (st : St) : af c .mkMap [] st K = K (.map st.next) (au st (.map [] 0)) := id rfl
theorem Ti {st : St} {es bytes m : Nat} {x : AV} {new : List AV} (hm : eH x = some m) (h0 : m ≠ 0) (hb : (2 * (0 + m) + 768) * bytes <= 281474976710656) (hs : 0 + m <= 9223372036854775807) (hx : eV es m (fun b => st.heap.get b) x = some new) :
    af c (.append es bytes) [.av, x] st K = K (.slice st.next 0 m none es) (au st (.cells new 0)) := by
  have : aE.run (fun b => st.heap.get b) st.next (.append es bytes) [.av, x] = some (.aN (.slice st.next 0 m none es) none none (some (.cells new 0))) := by
    simp only [aE.run, ld]
    rw [show eH .av = some 0 from rfl, hm]
    simp only [iN, iZ, decide_eq_true hb, decide_eq_true hs, decide_eq_false h0, hx]
  unfold af cP; rw [this]; rfl
theorem Wg {st : St} {es bytes m n : Nat} {p : Pos} {x : AV} {cs ic new : List AV} (hm : eH x = some m) (h0 : m ≠ 0) (hb : (2 * (n + m) + 768) * bytes <= 281474976710656) (hs : n + m <= 9223372036854775807) (hp : st.heap.get p = some (.cells cs 0))
    (ho : eV es n (fun b => st.heap.get b) (.slice p 0 n none es) = some ic) (hx : eV es m (fun b => st.heap.get b) x = some new) (h1 : cY new = true) :
    af c (.append es bytes) [.slice p 0 n none es, x] st K = K (.slice st.next 0 (n + m) none es) (dst st p (.cells (ic ++ new) 0)) := by
  have : aE.run (fun b => st.heap.get b) st.next (.append es bytes) [.slice p 0 n none es, x] = some (.aN (.slice st.next 0 (n + m) none es) (some p) none (some (.cells (ic ++ new) 0))) := by
    simp only [aE.run, ld]
    rw [show eH (.slice p 0 n none es) = some n from rfl, hm]
    simp only [iN, iZ, decide_eq_true hb, decide_eq_true hs, decide_eq_false h0, hx, hp, ho, h1]
    simp
  unfold af cP; rw [this]; rfl
theorem Q8 {st : St} {es bytes m : Nat} {p : Pos} {x : AV} {new : List AV} (hm : eH x = some m) (h0 : m ≠ 0) (hb : (2 * (0 + m) + 768) * bytes <= 281474976710656) (hs : 0 + m <= 9223372036854775807) (hx : eV es m (fun b => st.heap.get b) x = some new) :
    af c (.append es bytes) [.slice p 0 0 (some 0) es, x] st K = K (.slice st.next 0 m none es) (au st (.cells new 0)) := by
  have : aE.run (fun b => st.heap.get b) st.next (.append es bytes) [.slice p 0 0 (some 0) es, x] = some (.aN (.slice st.next 0 m none es) none none (some (.cells new 0))) := by
    have h2 : ¬ (0 + m <= 0) := by omega
    have ho : eV es 0 (fun b => st.heap.get b) (.slice p 0 0 (some 0) es) = some [] := by simp [eV]
    simp only [aE.run, ld]
    rw [show eH (.slice p 0 0 (some 0) es) = some 0 from rfl, hm]
    simp only [iN, iZ, decide_eq_true hb, decide_eq_true hs, decide_eq_false h0, decide_eq_false h2, hx, ho]
    simp only [Nat.zero_add, List.nil_append]
  unfold af cP; rw [this]; rfl
theorem LI {st : St} {es bytes : Nat} {p : Pos} {off n : Nat} {cp : Option Nat} {x : AV} (hm : eH x = some 0) (hb : (2 * (n + 0) + 768) * bytes <= 281474976710656) (hs : n + 0 <= 9223372036854775807) :
    af c (.append es bytes) [.slice p off n cp es, x] st K = K (.slice p off n cp es) st := by
  have : aE.run (fun b => st.heap.get b) st.next (.append es bytes) [.slice p off n cp es, x] = some (.val (.slice p off n cp es)) := by
    simp only [aE.run, ld]
    rw [show eH (.slice p off n cp es) = some n from rfl, hm]
    simp only [iN, iZ, decide_eq_true hb, decide_eq_true hs]
  unfold af cP; rw [this]
theorem Jz (H : Pos -> Option AB) (n : Pos) (z : AV) (m : Pos) (es : List (AV × AV × Nat)) (cl : Nat) (k : AV) (h : H m = some (.map es cl)) (r : Option (Nat × AV)) (hf : iV .s k es 0 = some r) :
    aE.run H n (.lookup .s z true) [.map m, k] = some (.val (match r with | some (_, v) => .tuple [v, .bool true] | none => .tuple [z, .bool false])) := by
  simp only [aE.run, sj, h, hf]
  cases r with
  | none => rfl
  | some p => rfl
theorem y5 (z : AV) {st : St} {m : Pos} {es : List (AV × AV × Nat)} {cl : Nat} {k : AV} {r : Option (Nat × AV)} (h : st.heap.get m = some (.map es cl)) (hf : iV .s k es 0 = some r) :
    af c (.lookup .s z true) [.map m, k] st K = K (match r with | some (_, v) => .tuple [v, .bool true] | none => .tuple [z, .bool false]) st := by
  unfold af cP; rw [Jz _ _ z m es cl k h r hf]
theorem JA (z : AV) {h : T AB} {m : Pos} {es : List (AV × AV × Nat)} {cl : Nat} {k : AV} {r : Option (Nat × AV)} (hh : h.get m = some (.map es cl)) (hf : iV .s k es 0 = some r) :
    eF (.lookup .s z true) [.map m, k] h (fun _ => true) K1 = K1 (match r with | some (_, v) => .tuple [v, .bool true] | none => .tuple [z, .bool false]) := by
  unfold eF
  have e : aE.run (fun _ => none) .h (.lookup .s z true) [.map m, k] = none := rfl
  rw [e]
  simp only
  rw [Jz _ _ z m es cl k hh r hf]
theorem NA {st : St} {m : Pos} {es : List (AV × AV × Nat)} {cl : Nat} {k : List Nat} {v : AV} (h : st.heap.get m = some (.map es cl)) (hf : iV .s (.str k) es 0 = some none) :
    af c (.mapSet .s) [.map m, .str k, v] st K = K .undef (oM st m (.map (es ++ [(.str k, v, cl)]) (cl + 1))) := by
  have : aE.run (fun b => st.heap.get b) st.next (.mapSet .s) [.map m, .str k, v] = some (.aN .undef none (some (m, .map (es ++ [(.str k, v, cl)]) (cl + 1))) none) := by
    simp [aE.run, sr, h, hf, OY]
  unfold af cP; rw [this]; rfl
theorem Wh {p : Pos} {o : Nat} {h h2 : T AB} {v : AV} (hv : ((cellsOf (h.get p)).bind fun cs => cs[o]?) = some v) (CY : ((cellsOf (h2.get p)).bind fun cs => cs[o]?) = some v) (hb : gL v v = true) :
    eF (.load none) [.ptr p o] h (fun v => fP (.load none) [.ptr p o] v (fN [] h2) && true) K1 = K1 v := by
  unfold eF
  have e : aE.run (fun _ => none) .h (.load none) [.ptr p o] = none := rfl
  rw [e]
  simp only
  rw [qK, hv]
  simp only [Option.map_some]
  have : fP (.load none) [.ptr p o] v (fN [] h2) = true := by
    unfold fP
    show (match aE.run (fun b => h2.get b) .h (.load none) [.ptr p o] with | some (.val u) => gL u v | _ => false) = true
    rw [qK, CY]; exact hb
  rw [this]; rfl
end
theorem uK {R : Type} (K1 : AV -> Option R) {p : Pos} {o : Nat} {h h2 : T AB} {v : AV} (hv : ((cellsOf (h.get p)).bind fun cs => cs[o]?) = some v) (CY : ((cellsOf (h2.get p)).bind fun cs => cs[o]?) = some v) (hb : gL v v = true) :
    eF (.load none) [.ptr p o] h (fun v => fP (.load none) [.ptr p o] v (fN [] h2)) K1 = K1 v := by
  have := Wh K1 hv CY hb
  simp only [Bool.and_true] at this; exact this
theorem Dx (p : Pos) (o n es : Nat) : gL (.slice p o n none es) (.slice p o n none es) = true := by
  simp [gL, o3, iF, Pos.beq_eq.2 rfl]
theorem Fz : gL .av .av = true := rfl
end Go.Ai
end
section
namespace Go.Ai
inductive cQ : Nat -> AV -> Prop
  | flat {d : Nat} {v : AV} (h : iF v v = true) : cQ d v
  | fl {d : Nat} {a : List (List AV)} {n : Nat} (h : ∀ r ∈ a, ∀ v ∈ r, cQ d v) : cQ (d + 1) (.fl a n)
theorem G6 {f : AV -> AV -> Bool} : ∀ {a : List AV}, (∀ v ∈ a, f v v = true) -> yE f a a = true
  | [], _ => rfl
  | a :: x, h => by
    simp only [yE, h a (by simp), G6 (fun v hv => h v (List.mem_cons_of_mem _ hv)), Bool.and_self]
theorem Dy {f : AV -> AV -> Bool} : ∀ {a : List (List AV)}, (∀ r ∈ a, ∀ v ∈ r, f v v = true) -> sw f a a = true
  | [], _ => rfl
  | a :: x, h => by
    simp only [sw, G6 (h a (by simp)), Dy (fun v hv => h v (List.mem_cons_of_mem _ hv)), Bool.and_self]
theorem Bu : ∀ {d : Nat} {v : AV}, cQ d v -> yF d v v = true
  | d, v, .flat h => by
    unfold yF; split
    . simp [iF] at h
    . exact h
  | d + 1, .fl a n, .fl h => by
    unfold yF
    simp [Dy (fun r hr v hv => Bu (h r hr v hv))]
theorem cQ.ro {d es : Nat} {z : Bool} {rs : List (List AV)} (h : ∀ r ∈ rs, ∀ v ∈ r, cQ d v) : cQ (d + 1) (ro es z rs) := by
  unfold Go.Ai.ro; split
  . exact .flat rfl
  . exact .fl h
theorem Dz {v : AV} (h : cQ 3 v) : gL v v = true := by
  have h3 := Bu h
  cases h with
  | flat h =>
    cases v <;> simp [iF] at h <;> first | simp [gL, o3, iF, h] | skip
    all_goals simp_all [gL, o3, iF]
  | fl h => exact h3
theorem PI {v : AV} (h : cQ 3 v) : o3 v v = true := by
  have h3 := Bu h
  cases h with
  | flat h =>
    cases v <;> simp [iF] at h <;> first | simp [o3, iF, h] | skip
    all_goals simp_all [o3, iF]
  | fl h => exact h3
theorem Cu {l : List AV} (h : ∀ v ∈ l, cQ 3 v) : gL (.agg l) (.agg l) = true := by
  show mR l l = true
  induction l with
  | nil => rfl
  | cons v l ih => simp only [mR, PI (h v (by simp)), ih (fun u hu => h u (List.mem_cons_of_mem _ hu)), Bool.and_self]
theorem Bv {R : Type} (K1 : AV -> Option R) {m : Nat} {p : Pos} {o : Nat} {h h2 : T AB} {l : List AV} (hv : ((cellsOf (h.get p)).bind fun cs => cut cs o m) = some l) (CY : ((cellsOf (h2.get p)).bind fun cs => cut cs o m) = some l) (hb : gL (.agg l) (.agg l) = true) :
    eF (.load (some m)) [.ptr p o] h (fun v => fP (.load (some m)) [.ptr p o] v (fN [] h2)) K1 = K1 (.agg l) := by
  unfold eF
  have e : aE.run (fun _ => none) .h (.load (some m)) [.ptr p o] = none := rfl
  rw [e]
  simp only
  rw [o6, hv]
  simp only [Option.map_some]
  have : fP (.load (some m)) [.ptr p o] (.agg l) (fN [] h2) = true := by
    unfold fP
    show (match aE.run (fun b => h2.get b) .h (.load (some m)) [.ptr p o] with | some (.val u) => gL u (.agg l) | _ => false) = true
    rw [o6, CY]; exact hb
  rw [this]
theorem cQ.int {d : Nat} (k : IntKind) (n : Int) : cQ d (.int k n) := .flat (by simp [iF, lH, dV])
theorem cQ.str {d : Nat} (s : List Nat) : cQ d (.str s) := .flat (by simp [iF, kM])
theorem cQ.bool {d : Nat} (s : Bool) : cQ d (.bool s) := .flat (by simp [iF])
end Go.Ai
end
section
namespace Go.Ai
open Go
section
variable {H : Type} (enc : TypeId × Value -> H) (P : Program) (w : World) (base : Nat) (spare : Nat -> Bool) (held : Bool)
def ja (t : TypeId) (Q : List AV -> Prop) : Prop :=
  ∀ (fuel : Nat) (cs : List Value) (x : DataW H × List MemPlace), DataW.trod enc P w base spare held fuel t cs = some x ->
    ∃ as, Q as /\ ∀ ρ n, ay ρ n (fun ad => w.cell? ad) as cs
variable {enc P w base spare held}
theorem ja.mono {t : TypeId} {Q Q' : List AV -> Prop} (h : ja enc P w base spare held t Q) (k : ∀ as, Q as -> Q' as) : ja enc P w base spare held t Q' :=
  fun fuel cs x hx => by obtain ⟨as, h1, h2⟩ := h fuel cs x hx; exact ⟨as, k _ h1, h2⟩
theorem y6 {t : TypeId} {k : IntKind} (ht : P.underlying t = some (.int k)) : ja enc P w base spare held t fun as => ∃ i, as = [.int k i] /\ (Lit.int k i).wf = true :=
  fun fuel cs x hx => by
    obtain ⟨n, rfl, h⟩ := DataW.trod_int ht hx
    exact ⟨_, ⟨n, rfl, h.2⟩, fun ρ m => ay.cons (.int k n) ay.nil⟩
theorem PJ {t : TypeId} (ht : P.underlying t = some .bool) : ja enc P w base spare held t fun as => ∃ b, as = [.bool b] :=
  fun fuel cs x hx => by
    obtain ⟨b, rfl, h⟩ := DataW.trod_bool ht hx
    exact ⟨_, ⟨b, rfl⟩, fun ρ m => ay.cons (.bool b) ay.nil⟩
theorem Q9 {t : TypeId} (ht : P.underlying t = some .string) : ja enc P w base spare held t fun as => ∃ s, as = [.str s] /\ s.length <= maxLen /\ ∀ x ∈ s, x < 256 :=
  fun fuel cs x hx => by
    obtain ⟨s, rfl, h⟩ := DataW.trod_string ht hx
    refine ⟨_, ⟨s.data.toList.map UInt8.toNat, rfl, ?_, ?_⟩, fun ρ m => ay.cons (.str _ s rfl) ay.nil⟩
    . simp; exact h.2
    . intro x hx; simp only [List.mem_map] at hx; obtain ⟨y, _, rfl⟩ := hx; exact y.toNat_lt
theorem o7 {t e : TypeId} {es : Nat} {Q : List AV -> Prop} (ht : P.underlying t = some (.slice e)) (hc : P.cellsOf e = es) (gG : 0 < es) (hQ : ∀ as, Q as -> as.length = es) (h : ja enc P w base spare held e Q) :
    ja enc P w base spare held t fun as => ∃ z rs, as = [ro es z rs] /\ (∀ r ∈ rs, Q r) /\ rs.length <= maxLen :=
  fun fuel cs x hx => by
    rcases DataW.trod_slice ht hx with ⟨rfl, _⟩ | ⟨a, len, cap, elems, rest, n, _, rfl, _, hb, hl, hm, hlen, hel, _, _⟩
    . exact ⟨_, ⟨true, [], rfl, by simp, by simp⟩, fun ρ m => ay.cons .av ay.nil⟩
    . have each : ∀ i, ∃ r row, i < len -> (Q r /\ w.cells? base (a.add (i * es)) es = some row /\ ∀ ρ m, ay ρ m (fun ad => w.cell? ad) r row) := by
        intro i
        by_cases hi : i < len
        . have h1 := hel i hi
          rw [List.getElem?_eq_getElem (by omega), hc] at h1
          cases h2 : w.cells? base (a.add (i * es)) es with
          | none => rw [h2] at h1; cases h1
          | some row =>
            rw [h2] at h1
            obtain ⟨r, hr, hv⟩ := h n row _ h1
            exact ⟨r, row, fun _ => ⟨hr, rfl, hv⟩⟩
        . exact ⟨[], [], fun h => absurd h hi⟩
      obtain ⟨r, each⟩ := Classical.axiomOfChoice each
      obtain ⟨row, hr⟩ := Classical.axiomOfChoice each
      have Vz : 0 < len -> a.spot = none := fun h0 => by
        obtain ⟨_, h1, _⟩ := hr 0 h0
        have := (World.cells?_some h1).2.2 0 gG
        have hl := (World.cells?_some h1).2.1
        rw [List.getElem?_eq_getElem (by omega)] at this
        simp only [Nat.zero_mul, Addr.add, if_true] at this
        unfold World.cell? at this
        split at this
        . split at this
          . cases this
          . rename_i h; simpa using h
        . cases this
      have acf : ((List.range len).map r).length = len := by simp
      have get : ∀ (i : Nat) (c : List AV), ((List.range len).map r)[i]? = some c -> i < len /\ c = r i := fun i c hi => by
        rw [List.getElem?_map] at hi
        by_cases h : i < len
        . rw [List.getElem?_range h] at hi; simp at hi; exact ⟨h, hi.symm⟩
        . rw [List.getElem?_eq_none (by simpa using h)] at hi; cases hi
      refine ⟨_, ⟨false, (List.range len).map r, rfl, ?_, by simp; omega⟩, fun ρ m => ay.cons ?_ ay.nil⟩
      . intro q hq
        simp only [List.mem_map, List.mem_range] at hq
        obtain ⟨i, hi, rfl⟩ := hq
        exact (hr i hi).1
      . have key : ax ρ m (fun ad => w.cell? ad) (.fl ((List.range len).map r) es) (.slice (some a) ((List.range len).map r).length cap) := by
          refine .fl _ es cap a (fun i j => ((row i)[j]?).getD .nilFunc) (by omega) (fun h0 => Vz ?_) (fun i c hi => ?_) (fun i j c v hi hj => ?_) (fun i j c v hi hj => ?_)
          . apply Classical.byContradiction; intro h; apply h0
            have : len = 0 := by omega
            subst this; rfl
          . obtain ⟨h1, rfl⟩ := get i c hi
            exact hQ _ (hr i h1).1
          . obtain ⟨h1, rfl⟩ := get i c hi
            obtain ⟨q1, q2, q3⟩ := hr i h1
            have hj2 : j < es := by rw [<- hQ _ q1]; exact (List.getElem?_eq_some_iff.1 hj).1
            have q4 := (World.cells?_some q2).2.2 j hj2
            have q5 := (World.cells?_some q2).2.1
            have hs := Vz (by omega)
            have e1 : (a.add (i * es)).add j = ⟨a.block, a.off + i * es + j, none⟩ := by
              obtain ⟨aF, off, spot⟩ := a
              simp only at hs; subst hs
              unfold Addr.add
              by_cases e1 : i * es = 0 <;> by_cases e2 : j = 0 <;> simp [e1, e2]
            rw [e1] at q4
            show w.cell? _ = _
            rw [q4, List.getElem?_eq_getElem (by omega)]; rfl
          . obtain ⟨h1, rfl⟩ := get i c hi
            obtain ⟨q1, q2, q3⟩ := hr i h1
            have hj2 : j < es := by rw [<- hQ _ q1]; exact (List.getElem?_eq_some_iff.1 hj).1
            have q5 := (World.cells?_some q2).2.1
            refine (q3 ρ m).2 j v _ hj ?_
            rw [List.getElem?_eq_getElem (by omega)]; rfl
        rw [acf] at key
        exact key
def Iw : List (List AV -> Prop) -> List (List AV) -> Prop
  | [], [] => True
  | Q :: Qs, p :: ps => Q p /\ Iw Qs ps
  | _, _ => False
def DA (P : Program) (Ra : Nat) : Nat -> List Field -> Bool
  | o, [] => o == Ra
  | o, f :: fs => f.offset == o && DA P Ra (o + P.cellsOf f.type) fs
def LJ (enc : TypeId × Value -> H) (P : Program) (w : World) (base : Nat) (spare : Nat -> Bool) (held : Bool) : List TypeId -> List (List AV -> Prop) -> Prop
  | [], [] => True
  | f :: fs, Q :: Qs => ja enc P w base spare held f Q /\ LJ enc P w base spare held fs Qs
  | _, _ => False
theorem DB {Ra n : Nat} : ∀ (fs : List Field) (Qs : List (List AV -> Prop)) (o : Nat) (cs : List Value), DA P Ra o fs = true -> LJ enc P w base spare held (fs.map (·.type)) Qs -> cs.length = Ra ->
    (∀ f ∈ fs, ∃ y, DataW.trod enc P w base spare held n f.type ((cs.drop f.offset).take (P.cellsOf f.type)) = some y) ->
    ∃ parts, Iw Qs parts /\ ∀ ρ m, ay ρ m (fun ad => w.cell? ad) parts.flatten (cs.drop o)
  | [], [], o, cs, hc, _, hl, _ => by
    simp only [DA, beq_iff_eq] at hc
    refine ⟨[], trivial, fun ρ m => ?_⟩
    rw [List.drop_eq_nil_of_le (by omega)]; exact ay.nil
  | f :: fs, Q :: Qs, o, cs, hc, hO, hl, hf => by
    simp only [DA, Bool.and_eq_true, beq_iff_eq] at hc
    obtain ⟨y, hy⟩ := hf f (by simp)
    obtain ⟨as, hq, hv⟩ := hO.1 n _ y hy
    obtain ⟨parts, hp, CY⟩ := DB fs Qs _ cs hc.2 hO.2 hl (fun g hg => hf g (List.mem_cons_of_mem _ hg))
    refine ⟨as :: parts, ⟨hq, hp⟩, fun ρ m => ?_⟩
    have e : cs.drop o = (cs.drop f.offset).take (P.cellsOf f.type) ++ cs.drop (o + P.cellsOf f.type) := by
      rw [hc.1, <- List.drop_drop, List.take_append_drop]
    rw [e, List.flatten_cons]
    exact (hv ρ m).append (CY ρ m)
def fieldsOf (P : Program) (t : TypeId) : List Field := match P.underlying t with
  | some (.struct fs) => fs.toList
  | _ => []
def LL (P : Program) (t : TypeId) : Bool := match P.underlying t with
  | some (.struct _) => true
  | _ => false
theorem qg {t : TypeId} (ts : List TypeId) {Qs : List (List AV -> Prop)} (hs : LL P t = true) (C8 : (fieldsOf P t).map (·.type) = ts) (hc : DA P (P.cellsOf t) 0 (fieldsOf P t) = true) (hO : LJ enc P w base spare held ts Qs) :
    ja enc P w base spare held t fun as => ∃ parts, as = parts.flatten /\ Iw Qs parts :=
  fun fuel cs x hx => by
    obtain ⟨fs, ht⟩ : ∃ fs, P.underlying t = some (.struct fs) := by
      unfold LL at hs
      cases h : P.underlying t with
      | none => rw [h] at hs; cases hs
      | some d => rw [h] at hs; cases d <;> first | exact ⟨_, rfl⟩ | cases hs
    have ef : fieldsOf P t = fs.toList := by unfold fieldsOf; rw [ht]
    rw [ef] at C8 hc
    subst C8
    obtain ⟨xs, n, _, _, hl, hxl, hf⟩ := DataW.trod_struct ht hx
    obtain ⟨parts, hp, hv⟩ := DB fs.toList Qs 0 cs hc hO hl (fun f iE => by
      obtain ⟨i, hi⟩ := List.getElem?_of_mem iE
      have l8 : fs[i]? = some f := by rw [<- Array.getElem?_toList]; exact hi
      have bD : i < fs.size := (Array.getElem?_eq_some_iff.1 l8).1
      exact ⟨xs[i], by rw [hf i f l8, List.getElem?_eq_getElem (by omega)]⟩)
    exact ⟨_, ⟨parts, rfl, hp⟩, fun ρ m => hv ρ m⟩
end
end Go.Ai
end
section
namespace Go.Ai
open Go
def Quiet (w w' : World) : Prop := w'.os = w.os /\ w'.tape = w.tape /\ w'.output = w.output /\ w.heap.size <= w'.heap.size /\ ∀ k, k < w.heap.size -> w'.heap[k]? = w.heap[k]?
def G7 : List AV -> St -> Option (AV × St)
  | [], st => some (.bool true, st)
  | _, _ => none
theorem Rb {P : Program} {C : Cells} {f : FuncId} {fn : Func} {c : Code} (hf : P.funcs[f]? = some fn) (pM : ¬ fn.name = "runtime.NumGoroutine") (hb : fn.body = some c)
    (h : ∀ w : World, (∀ ad u, C ad = some u -> w.cell? ad = some u) -> Calls P f #[] w fun e w' => e = .returned (.bool true) /\ Quiet w w') : tj P C f G7 where
  mono args st v st' hs := by
    unfold G7 at hs
    split at hs <;> first | (cases hs; done) | skip
    simp only [Option.some.injEq, Prod.mk.injEq] at hs
    rw [<- hs.2]; exact Nat.le_refl _
  runs ρ st w args v st' cq hs hW hv := by
    unfold G7 at hs
    split at hs <;> first | (cases hs; done) | skip
    simp only [Option.some.injEq, Prod.mk.injEq] at hs
    obtain ⟨rfl, rfl⟩ := hs
    obtain rfl := hv.o4
    have cH : (callFunc f ([] : List Value).toArray).run P w = .ok (.enter f #[]) w := by simp [callFunc, hf, pM, hb]
    rw [cH]
    refine Calls.mono (h w fun ad u ha => (hW.fD ad u ha).1) fun e w' he => ?_
    obtain ⟨rfl, h1, h2, h3, h4, h5⟩ := he
    exact ⟨ρ, .bool true, fun _ _ => rfl, Nat.le_refl _, hW.grow h4 h5, ⟨h1, h2, h3, h4, fun k hk _ => h5 k hk, fun b x hb => .inl ⟨b, x, hb, rfl⟩⟩⟩
theorem Tj {P : Program} {C : Cells} {call : ai} {f : FuncId} {fn : Func} {c : Code} {args : List AV} {cq : List Value} {b : Bool} {n0 : Pos} {ct : St} {w : World}
    (dx : kD P C call) (hC : ∀ ad v, C ad = some v -> w.cell? ad = some v) (hf : P.funcs[f]? = some fn) (pM : ¬ fn.name = "runtime.NumGoroutine") (hb : fn.body = some c)
    (ha : ay (fun _ => ⟨0, 0, 0⟩) n0.toNat C args cq) (h : call f args { heap := .e, next := n0 } = some (.bool b, ct)) :
    Calls P f cq.toArray w fun e w' => e = .returned (.bool b) /\ Quiet w w' := by
  have hr := dx (fun _ => ⟨0, 0, 0⟩) { heap := .e, next := n0 } w f args (.bool b) ct cq h (yS hC) ha
  have cH : (callFunc f cq.toArray).run P w = .ok (.enter f cq.toArray) w := by simp [callFunc, hf, pM, hb]
  rw [cH] at hr
  refine Calls.mono hr fun e w' he => ?_
  cases e with
  | returned x =>
    obtain ⟨ρ', h1, _, _, _, hE⟩ := he
    have := h1.iz; subst this
    exact ⟨rfl, hE.os, hE.tape, hE.output, hE.size, fun k hk => hE.block k hk fun b x hb => by rw [T.fO] at hb; cases hb⟩
  | panicked c => exact he.elim
  | outgrown => exact he.elim
end Go.Ai
end
section
namespace Go.Ai
open Go Go.ChangeShapes Go.WideShapes Go.ChangeAt Go.RowKit
theorem Quiet.below {w w' : World} (h : Quiet w w') : Below w.heap.size w w' := ⟨h.1, h.2.1, h.2.2.1, h.2.2.2.1, h.2.2.2.2⟩
section
variable {H : Type} {enc : TypeId × Value -> H} {P : Program}
theorem Cv {W W' : World} (hl : laidOutB P = true) (hb : Below W.heap.size W W') : ∀ {ts : List TypeId} {vs : List Value} {ds : List (DataW H)} {p : List MemPlace},
    DataW.TrodAll enc P W 0 (fun _ => true) true ts vs ds p -> (∀ t ∈ ts, P.readableRec t = true /\ t < P.types.size) -> (∀ x ∈ p, x.block < W.heap.size) ->
    DataW.TrodAll enc P W' 0 (fun b => decide (b < W.heap.size)) true ts vs ds p
  | [], _, _, _, h, _, _ => by
    obtain ⟨rfl, rfl, rfl⟩ := trodAll_nil h
    exact trodAll_mk0
  | t :: ts, _, _, _, h, hr, hx => by
    obtain ⟨v, Ve, d, ds1, a, b, rfl, rfl, rfl, h1, h2⟩ := trodAll_cons h
    exact trodAll_cons_mk (Below.trod hl (hr t (by simp)).1 (hr t (by simp)).2 h1 hb (fun x N6 => hx x (List.mem_append_left _ N6)))
      (Cv hl hb h2 (fun t ht => hr t (List.mem_cons_of_mem _ ht)) (fun x N6 => hx x (List.mem_append_right _ N6)))
theorem Rc {f : Func} {s : ChangeSpec} {W W' : World} {args : Array Value} {ds gs : List (DataW H)} {before : List MemPlace} {tb : TypeId} (hl : laidOutB P = true)
    (hW : DataW.Whole enc P f.params.toList s.vars false W args.toList ds gs before) (hv : s.vars = []) (iw : s.fn H (ds ++ gs) = { results := [.lit (.bool true)], args := ds })
    (hr : ∀ t ∈ f.params.toList, P.readableRec t = true /\ t < P.types.size) (hB : Below W.heap.size W W') (FA : f.resultTypes = #[tb]) (htb : P.underlying tb = some .bool) :
    s.post enc P f false true false false W args (.bool true) W' := by
  have bD := hW.lt
  have fV := hW
  obtain ⟨p, q, hA, hV, rfl, Qg, Vx⟩ := hW
  have hq : q = [] := by
    rw [hv] at hV
    cases gs with
    | nil => exact hV
    | cons g gs => exact hV.elim
  subst hq
  refine ⟨ds, gs, p ++ [], [], p, [], fV, ?_, ?_, ?_, hB.frame _, fun h => by cases h⟩
  . rw [iw, FA]
    exact trodAll_cons_mk (shut_bool htb _) trodAll_mk0
  . rw [iw]
    exact Cv hl hB hA hr (fun x hx => bD x (List.mem_append_left _ hx))
  . rw [iw, hv]; rfl
end
end Go.Ai
end
section
namespace Go.Ai
open Go Go.ChangeShapes Go.WideShapes Go.ChangeAt Go.RowKit
section
variable {H : Type} {enc : TypeId × Value -> H} {P : Program} {w : World} {base : Nat} {spare : Nat -> Bool} {held : Bool}
theorem y7 {t : TypeId} {fs : Array Field} {Q : List AV -> Prop} {r : Go.Reach} {b0 : Nat} {v : Value} {d : DataW H} {p : List MemPlace} (ho : ja enc P w base spare held t Q) (ht : P.underlying t = some (.struct fs))
    (hval : Value.okWide P w r b0 t v) (hd : DataW.Trod enc P w base spare held t v d p) : ∃ as, Q as /\ ∀ ρ n, ax ρ n (fun ad => w.cell? ad) (.agg as) v := by
  obtain ⟨cs, rfl, _⟩ := okWide_struct ht hval
  obtain ⟨fuel, hf⟩ := hd
  obtain ⟨as, h1, h2⟩ := ho _ _ _ hf
  refine ⟨as, h1, fun ρ n => ?_⟩
  have h3 := h2 ρ n
  refine .agg as cs (by rw [h3.1]; simp [Value.cells]) fun i x x' hx Dk => h3.2 i x x' hx ?_
  simpa [Value.cells] using Dk
theorem ay.two {ρ : Pos -> Loc} {n : Nat} {C : Cells} {a b : AV} {a' b' : Value} (h1 : ax ρ n C a a') (h2 : ax ρ n C b b') : ay ρ n C [a, b] [a', b'] := ay.cons h1 (ay.cons h2 ay.nil)
theorem ay.one {ρ : Pos -> Loc} {n : Nat} {C : Cells} {a : AV} {a' : Value} (h1 : ax ρ n C a a') : ay ρ n C [a] [a'] := ay.cons h1 ay.nil
end
end Go.Ai
end
