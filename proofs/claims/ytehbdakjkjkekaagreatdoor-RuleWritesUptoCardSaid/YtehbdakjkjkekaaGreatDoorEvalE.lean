/- Functions of the program as plain functions over the evaluator's values, and data that a caller lays as such values. -/
import Derived.Test.YtehbdakjkjkekaaGreatDoorEvalD
import Derived.KernelRfl
import Derived.ChangeArms
import Derived.WalkKit
import Derived.OpenShut
import Derived.ProofKit
import Derived.Below
import Derived.Carry
import Derived.WideShapes
import Derived.ChangeSame
import Derived.ChangeMaps5
import Derived.ShutString
set_option linter.all false
set_option linter.unusedSectionVars false
set_option linter.deprecated false
section
namespace Go.Ai
open Go Go.RowKit
def LeC (c c' : CallA) : Prop := ∀ f args st r, c f args st = some r -> c' f args st = some r
theorem LeC.refl (c : CallA) : LeC c c := fun _ _ _ _ h => h
theorem LeC.trans {a b c : CallA} (h : LeC a b) (k : LeC b c) : LeC a c := fun _ _ _ _ e => k _ _ _ _ (h _ _ _ _ e)
section
variable {c c' : CallA}
theorem stepA_le (h : LeC c c') {k : OpK} {xs : List AV} {st : St} {r : AV × St} (e : stepA c k xs st = some r) : stepA c' k xs st = some r := by
  unfold stepA at e ⊢
  cases hr : k.run (fun b => st.heap.get b) st.next xs with
  | none => simp [hr] at e
  | some x => cases x with
    | val v => simpa [hr] using e
    | eff v d s n => simpa [hr] using e
    | call f args => simp only [hr] at e ⊢; exact h _ _ _ _ e
theorem opsA_le (h : LeC c c') : ∀ (os : List AOper) (fr : Fr) (st : St) (r : Fr × St), opsA c os fr st = some r -> opsA c' os fr st = some r
  | [], _, _, _, e => e
  | o :: os, fr, st, r, e => by
    unfold opsA at e ⊢
    cases hw : wantedA fr o.guard with
    | none => simp [hw] at e
    | some b => cases b with
      | false => simp only [hw] at e ⊢; exact opsA_le h _ _ _ _ e
      | true =>
        simp only [hw] at e ⊢
        cases hx : evsA fr o.xs with
        | none => simp [hx] at e
        | some xs =>
          simp only [hx] at e ⊢
          cases hs : stepA c o.k xs st with
          | none => simp [hs] at e
          | some p => simp only [hs] at e; simp only [stepA_le h hs]; exact opsA_le h _ _ _ _ e
theorem drawA_le (h : LeC c c') : ∀ (os : List (Nat × AOper)) (recs : List Rec) (base : T AB) (fr : Fr) (st : St) (r : Fr × St), drawA c os recs base fr st = some r -> drawA c' os recs base fr st = some r
  | [], _, _, _, _, _, e => e
  | (j, o) :: os, recs, base, fr, st, r, e => by
    have ih := drawA_le h os
    unfold drawA at e ⊢
    cases hw : wantedA fr o.guard with
    | none => simp [hw] at e
    | some b => cases b with
      | false => simp only [hw] at e ⊢; exact ih _ _ _ _ _ e
      | true =>
        simp only [hw] at e ⊢
        cases hx : evsA fr o.xs with
        | none => simp [hx] at e
        | some xs =>
          simp only [hx] at e ⊢
          cases hc : o.cls with
          | eff =>
            simp only [hc] at e ⊢
            cases hs : stepA c o.k xs st with
            | none => simp [hs] at e
            | some p => simp only [hs] at e; simp only [stepA_le h hs]; exact ih _ _ _ _ _ e
          | new =>
            simp only [hc] at e ⊢
            split at e <;> first | (cases e; done) | exact ih _ _ _ _ _ e
          | pure =>
            simp only [hc] at e ⊢
            split at e <;> (try split at e) <;> (try split at e) <;> first | (cases e; done) | (simp only [*]; exact ih _ _ _ _ _ e) | exact ih _ _ _ _ _ e
          | read =>
            simp only [hc] at e ⊢
            split at e <;> (try split at e) <;> (try split at e) <;> first | (cases e; done) | (simp only [*]; exact ih _ _ _ _ _ e) | exact ih _ _ _ _ _ e
theorem exec_le (h : LeC c c') : ∀ (n m : Nat), n <= m -> ∀ (a : AC) (fr : Fr) (st : St) (r : AExit × Fr × St), exec c n a fr st = some r -> exec c' m a fr st = some r
  | 0, _, _, _, _, _, _, e => by simp [exec] at e
  | n + 1, 0, hm, _, _, _, _, _ => by omega
  | n + 1, m + 1, hm, a, fr, st, r, e => by
    have ih := exec_le h n m (by omega)
    cases a <;> simp only [exec, execStep] at e ⊢
    case skip => exact e
    case exit => exact e
    case ret => exact e
    case region ops =>
      cases ho : opsA c ops fr st with
      | none => simp [ho] at e
      | some p => simp only [ho] at e; simp only [opsA_le h _ _ _ _ ho]; exact e
    case draw ops =>
      cases ho : drawA c ops [] st.heap fr st with
      | none => simp [ho] at e
      | some p => simp only [ho] at e; simp only [drawA_le h _ _ _ _ _ _ ho]; exact e
    case seq a b =>
      cases ha : exec c n a fr st with
      | none => simp [ha] at e
      | some p =>
        obtain ⟨ex, bC, aH⟩ := p
        simp only [ha] at e; simp only [ih _ _ _ _ ha]
        cases ex <;> first | exact e | exact ih _ _ _ _ e
    case cond x a b =>
      split at e
      . exact ih _ _ _ _ e
      . exact ih _ _ _ _ e
      . cases e
    case block id a =>
      cases ha : exec c n a fr st with
      | none => simp [ha] at e
      | some p =>
        obtain ⟨ex, bC, aH⟩ := p
        simp only [ha] at e; simp only [ih _ _ _ _ ha]
        cases ex <;> exact e
    case loop a =>
      cases ha : exec c n a fr st with
      | none => simp [ha] at e
      | some p =>
        obtain ⟨ex, bC, aH⟩ := p
        simp only [ha] at e; simp only [ih _ _ _ _ ha]
        cases ex <;> first | exact e | exact ih _ _ _ _ e
end
def Plain (v : AV) : Prop := ∀ (ρ ρ' : Pos -> Loc) (n n' : Nat) (C : Cells) (x : Value), VRel ρ n C v x -> VRel ρ' n' C v x
theorem Plain.bool (b : Bool) : Plain (.bool b) := fun _ _ _ _ _ _ h => by cases h; exact .bool b
theorem Plain.int (k : IntKind) (i : Int) : Plain (.int k i) := fun _ _ _ _ _ _ h => by cases h; exact .int k i
theorem Plain.str (s : List Nat) : Plain (.str s) := fun _ _ _ _ _ _ h => by cases h with | str _ bs h => exact .str s bs h
theorem Plain.nilp : Plain .nilp := fun _ _ _ _ _ _ h => by cases h; exact .nilp
theorem Plain.nils : Plain .nils := fun _ _ _ _ _ _ h => by cases h; exact .nils
theorem Plain.nilm : Plain .nilm := fun _ _ _ _ _ _ h => by cases h; exact .nilm
theorem Plain.nilf : Plain .nilf := fun _ _ _ _ _ _ h => by cases h; exact .nilf
theorem Plain.func (f : FuncId) {a b : List AV} (ha : ∀ v ∈ a, Plain v) (hb : ∀ v ∈ b, Plain v) : Plain (.func f a b) := fun _ _ _ _ _ _ h => by
  cases h with
  | func _ _ _ a' b' hx hy h1 h2 => exact .func f a b a' b' hx hy (fun i v x hv hx => ha v (List.mem_of_getElem? hv) _ _ _ _ _ _ (h1 i v x hv hx)) (fun i v x hv hx => hb v (List.mem_of_getElem? hv) _ _ _ _ _ _ (h2 i v x hv hx))
theorem Plain.tuple {l : List AV} (hl : ∀ v ∈ l, Plain v) : Plain (.tuple l) := fun _ _ _ _ _ _ h => by
  cases h with
  | tuple _ cs hx h1 => exact .tuple l cs hx fun i v x hv hx => hl v (List.mem_of_getElem? hv) _ _ _ _ _ _ (h1 i v x hv hx)
theorem Plain.agg {l : List AV} (hl : ∀ v ∈ l, Plain v) : Plain (.agg l) := fun _ _ _ _ _ _ h => by
  cases h with
  | agg _ cs hx h1 => exact .agg l cs hx fun i v x hv hx => hl v (List.mem_of_getElem? hv) _ _ _ _ _ _ (h1 i v x hv hx)
theorem Plain.fl {xs : List (List AV)} {es : Nat} (hl : ∀ cs ∈ xs, ∀ v ∈ cs, Plain v) : Plain (.fl xs es) := fun _ _ _ _ _ _ h => by
  cases h with
  | fl _ _ aj a cell h1 h2 h3 h4 h5 => exact .fl xs es aj a cell h1 h2 h3 h4 fun i j cs v hi hj => hl cs (List.mem_of_getElem? hi) v (List.mem_of_getElem? hj) _ _ _ _ _ _ (h5 i j cs v hi hj)
def Keeps (st st' : St) : Prop := ∀ b x, st.heap.get b = some x -> st'.heap.get b = some x
theorem Keeps.refl (st : St) : Keeps st st := fun _ _ h => h
theorem Keeps.trans {a b c : St} (h : Keeps a b) (k : Keeps b c) : Keeps a c := fun _ _ e => k _ _ (h _ _ e)
theorem VRel.down {ρ ρ' : Pos -> Loc} {n n' : Nat} {C : Cells} {v : AV} {x : Value} (h : VRel ρ' n' C v x) : ∀ {y : Value}, VRel ρ n C v y -> (∀ b : Pos, b.toNat < n -> ρ' b = ρ b) -> VRel ρ n C v x := by
  induction h with
  | bool b => exact fun h _ => .bool b
  | int k i => exact fun h _ => .int k i
  | str s bs h => exact fun _ _ => .str s bs h
  | nilp => exact fun _ _ => .nilp
  | ptr b off h =>
    intro y h ak
    cases h with
    | ptr _ _ h' => rw [ak b h']; exact .ptr b off h'
  | fp xs i j es blk base cell hl hc hv ih =>
    intro y h ak
    cases h with
    | fp _ _ _ es' iZ w6 KC Bq gl kP => exact .fp xs i j es blk base cell hl hc fun i j cs v hi hj => ih i j cs v hi hj (kP i j cs v hi hj) ak
  | nils => exact fun _ _ => .nils
  | slice b off len cap es aj a hl hc ha hk =>
    intro y h ak
    cases h with
    | slice _ _ _ _ _ wY a' Bq gl ha' eV =>
      refine .slice b off len cap es aj a hl hc (fun h0 => ?_) eV
      obtain ⟨h1, h2, h3⟩ := ha h0
      have hb : b.toNat < n := by
        cases cap with
        | none => exact eV rfl
        | some c =>
          have e1 := hc c rfl
          have e2 := gl c rfl
          exact (ha' (by rw [<- e2, e1]; exact h0)).1
      rw [ak b hb] at h2 h3; exact ⟨hb, h2, h3⟩
  | fl xs es aj a cell hl hs cg hc hv ih =>
    intro y h ak
    cases h with
    | fl _ _ wY a' KC Bq dB hes' gl kP => exact .fl xs es aj a cell hl hs cg hc fun i j cs v hi hj => ih i j cs v hi hj (kP i j cs v hi hj) ak
  | nilm => exact fun _ _ => .nilm
  | map b h =>
    intro y h ak
    cases h with
    | map _ h' => rw [ak b h']; exact .map b h'
  | func f x y x' y' hx hy h1 h2 F3 F4 =>
    intro z h ak
    cases h with
    | func _ _ _ a' b' kx ky k1 k2 =>
      refine .func f x y x' y' hx hy (fun i v x hv o3 => ?_) (fun i v x hv o3 => ?_)
      . have hi : i < a'.size := by rw [<- kx]; exact (List.getElem?_eq_some_iff.1 hv).1
        exact F3 i v x hv o3 (k1 i v _ hv (Array.getElem?_eq_getElem hi)) ak
      . have hi : i < b'.size := by rw [<- ky]; exact (List.getElem?_eq_some_iff.1 hv).1
        exact F4 i v x hv o3 (k2 i v _ hv (Array.getElem?_eq_getElem hi)) ak
  | nilf => exact fun _ _ => .nilf
  | nili => exact fun _ _ => .nili
  | iface t v x _ ih =>
    intro y h ak
    cases h with
    | iface _ _ x' h' => exact .iface t v x (ih h' ak)
  | agg l cs hx h1 ih =>
    intro y h ak
    cases h with
    | agg _ eJ kx k1 =>
      refine .agg l cs hx fun i v x hv o3 => ?_
      have hi : i < eJ.size := by rw [<- kx]; exact (List.getElem?_eq_some_iff.1 hv).1
      exact ih i v x hv o3 (k1 i v _ hv (Array.getElem?_eq_getElem hi)) ak
  | tuple l cs hx h1 ih =>
    intro y h ak
    cases h with
    | tuple _ eJ kx k1 =>
      refine .tuple l cs hx fun i v x hv o3 => ?_
      have hi : i < eJ.size := by rw [<- kx]; exact (List.getElem?_eq_some_iff.1 hv).1
      exact ih i v x hv o3 (k1 i v _ hv (Array.getElem?_eq_getElem hi)) ak
end Go.Ai
end
section
noncomputable section
namespace Go.Ai
open Go Go.RowKit
def tidy (st : St) (r : AV × St) : AV × St := open Classical in if Plain r.1 /\ Keeps st r.2 then (r.1, st) else r
theorem tidy_post {ρ : Pos -> Loc} {C : Cells} {st : St} {w w' : World} {r : AV × St} {x : Value} (hW : WRel ρ C st w) (h : CallPost ρ C st w r.1 r.2 x w') :
    CallPost ρ C st w (tidy st r).1 (tidy st r).2 x w' := by
  unfold tidy
  split
  . rename_i hp
    obtain ⟨ρ', hv, ak, hn, aS, hE⟩ := h
    refine ⟨ρ, hp.1 _ _ _ _ _ _ hv, fun _ _ => rfl, Nat.le_refl _, ⟨fun b y hb => ?_, hW.inj, fun a u ha => ⟨(aS.froz a u ha).1, (hW.froz a u ha).2⟩, aS.whole⟩, ⟨hE.os, hE.tape, hE.output, hE.size, hE.block, fun b y hb => .inl ⟨b, y, hb, rfl⟩⟩⟩
    obtain ⟨g1, g2, g3⟩ := hW.live b y hb
    obtain ⟨_, _, k3⟩ := aS.live b y (hp.2 b y hb)
    refine ⟨g1, Nat.lt_of_lt_of_le g2 hE.size, ?_⟩
    rw [ak b g1] at k3
    cases y with
    | cells cs fz =>
      obtain ⟨c, e, fr, q1, q2, q3, q4, q5⟩ := k3
      obtain ⟨c0, e0, fr0, p1, p2, p3, p4, p5⟩ := g3
      refine ⟨c, e, fr, q1, q2, q3, ⟨q4.1, fun i v x hv hx => ?_⟩, q5⟩
      obtain ⟨y0, hy0, jd⟩ := p4.get hv
      exact (q4.2 i v x hv hx).down jd ak
    | map es clock =>
      obtain ⟨es', q1, q2, q3⟩ := k3
      obtain ⟨GG, p1, p2, p3⟩ := g3
      refine ⟨es', q1, q2, fun i e e' he dZ => ?_⟩
      obtain ⟨a1, a2, a3⟩ := q3 i e e' he dZ
      have hi : i < GG.size := by rw [<- p2]; exact (List.getElem?_eq_some_iff.1 he).1
      obtain ⟨b1, b2, _⟩ := p3 i e _ he (Array.getElem?_eq_getElem hi)
      exact ⟨a1.down b1 ak, a2.down b2 ak, a3⟩
    | siter s pos => exact k3
    | typed t cs =>
      obtain ⟨c, fr, q1, q2, q3, q4, q5⟩ := k3
      obtain ⟨c0, fr0, p1, p2, p3, p4, p5⟩ := g3
      refine ⟨c, fr, q1, q2, q3, ⟨q4.1, fun i v x hv hx => ?_⟩, q5⟩
      obtain ⟨y0, hy0, jd⟩ := p4.get hv
      exact (q4.2 i v x hv hx).down jd ak
  . exact h
theorem tidy_next {st : St} {r : AV × St} (h : st.next.toNat <= r.2.next.toNat) : st.next.toNat <= (tidy st r).2.next.toNat := by
  unfold tidy; split
  . exact Nat.le_refl _
  . exact h
def bodyA (call : CallA) (m : Nat) (F : AFunc) (args : List AV) (st : St) : Option (AV × St) :=
  match Nat.beq args.length F.nparams with
  | true => match exec call m F.code (params 0 args .e) st with
    | some (.normal, fr, st') => match resultsA (fun b => st'.heap.get b) fr F.results with
      | some vs => some (packA vs, st')
      | none => none
    | some (.ret, fr, st') => match resultsA (fun b => st'.heap.get b) fr F.results with
      | some vs => some (packA vs, st')
      | none => none
    | _ => none
  | false => none
def callT (O : Oracle) (G : T AFunc) (m : Nat) : Nat -> CallA
  | 0 => fun _ _ _ => none
  | d + 1 => fun f args st => match O f with
    | some s => s args st
    | none => match G.get (key f) with
      | some F => (bodyA (callT O G m d) m F args st).map (tidy st)
      | none => none
section
variable {P : Program} {tt : TT} {C : Cells}
theorem body_sound (hT : TTOk P tt) {G : T AFunc} (hG : GOk P tt G) {call : CallA} (bZ : CallOk P C call) (gX : DrawOk P tt C call) (m : Nat) {f : FuncId} {F : AFunc} (hF : G.get (key f) = some F)
    {ρ : Pos -> Loc} {st : St} {w : World} {args : List AV} {v : AV} {st' : St} {ay : List Value} (h : bodyA call m F args st = some (v, st')) (hW : WRel ρ C st w) (gB : VsRel ρ st.next.toNat C args ay) :
    Reaches P (CallPost ρ C st w v st') ((callFunc f ay.toArray).run P w) := by
  unfold bodyA at h
  split at h <;> first | (cases h; done) | skip
  rename_i hlen
  have hlen := Nat.eq_of_beq_eq_true hlen
  obtain ⟨fn, b9, ek, jF⟩ := hG _ _ hF
  rw [key_toNat, Nat.add_sub_cancel] at b9
  unfold cFunc at jF
  split at jF <;> first | (cases jF; done) | skip
  rename_i c hb
  split at jF <;> first | (cases jF; done) | skip
  rename_i ac rs yl vW hle
  simp only [Option.some.injEq] at jF; subst jF
  simp only at h hlen
  have hle := Nat.le_of_ble_eq_true hle
  have aB : (callFunc f ay.toArray).run P w = .ok (.enter f ay.toArray) w := by
    have rS : ¬ fn.name = "runtime.NumGoroutine" := by simpa using ek
    simp [callFunc, b9, rS, hb]
  rw [aB]
  simp only [Reaches]
  refine calls_of_wp b9 hb ?_
  have aZ : ay.length <= fn.ntmps := by rw [<- gB.1, hlen]; exact hle
  have hS : SRel fn.ntmps ρ C (params 0 args .e) st { tmps := ay.toArray ++ Array.replicate (fn.ntmps - ay.toArray.size) undef, defers := [] } w := by
    refine ⟨hW, ?_, ?_, rfl⟩
    . refine params_rel args ay 0 .e gB (fun j x hx => ?_) (fun p v hp => by rw [T.get_e] at hp; cases hp)
      have hj : j < ay.length := (List.getElem?_eq_some_iff.1 hx).1
      rw [Nat.zero_add, Array.getElem?_append_left (by simpa using hj)]
      simpa using hx
    . simp; omega
  split at h <;> first | (cases h; done) | skip
  . rename_i bC aH h1
    split at h <;> first | (cases h; done) | skip
    rename_i vs ec
    simp only [Option.some.injEq, Prod.mk.injEq] at h
    obtain ⟨rfl, rfl⟩ := h
    refine (exec_sound hT bZ gX m).1 c ac _ bC st aH .normal ρ _ w _ yl h1 hS fun a' w' hp => ?_
    obtain ⟨b6, fR, k1, k2, k3⟩ := hp
    obtain ⟨y, n5, n6⟩ := results_sound hT fR.W fR.F vW ec
    exact ⟨fR.defers, y, n5, b6, n6, k1, k2, fR.W, k3⟩
  . rename_i bC aH h1
    split at h <;> first | (cases h; done) | skip
    rename_i vs ec
    simp only [Option.some.injEq, Prod.mk.injEq] at h
    obtain ⟨rfl, rfl⟩ := h
    refine (exec_sound hT bZ gX m).1 c ac _ bC st aH .ret ρ _ w _ yl h1 hS fun a' w' hp => ?_
    obtain ⟨b6, fR, k1, k2, k3⟩ := hp
    obtain ⟨y, n5, n6⟩ := results_sound hT fR.W fR.F vW ec
    exact ⟨fR.defers, y, n5, b6, n6, k1, k2, fR.W, k3⟩
theorem body_mono {call : CallA} (hm : MonoCall call) {m : Nat} {F : AFunc} {args : List AV} {st : St} {v : AV} {st' : St} (h : bodyA call m F args st = some (v, st')) : st.next.toNat <= st'.next.toNat := by
  unfold bodyA at h
  split at h <;> first | (cases h; done) | skip
  split at h <;> first | (cases h; done) | skip
  all_goals
    rename_i h1
    split at h <;> first | (cases h; done) | skip
    simp only [Option.some.injEq, Prod.mk.injEq] at h
    obtain ⟨rfl, rfl⟩ := h
    exact exec_mono hm _ _ _ _ _ _ _ h1
theorem callT_mono {O : Oracle} {G : T AFunc} (hO : OracleMono O) (m : Nat) : ∀ d, MonoCall (callT O G m d)
  | 0 => fun f args st v st' h => by simp [callT] at h
  | d + 1 => fun f args st v st' h => by
    unfold callT at h
    split at h
    . rename_i s hs; exact hO _ _ hs _ _ _ _ h
    . split at h <;> first | (cases h; done) | skip
      simp only [Option.map_eq_some_iff] at h
      obtain ⟨r, hr, he⟩ := h
      have := body_mono (callT_mono hO m d) (v := r.1) (st' := r.2) hr
      have := tidy_next this
      rw [he] at this; exact this
theorem callT_sound (hm : P.follows .mixedOrders = true) (hT : TTOk P tt) {O : Oracle} {G : T AFunc} (hO : OracleOk P C O) (oc : OracleMono O) (hG : GOk P tt G) (m : Nat) : ∀ d, CallOk P C (callT O G m d)
  | 0 => fun ρ st w f args v st' ay h => by simp [callT] at h
  | d + 1 => by
    intro ρ st w f args v st' ay h hW gB
    have ih := callT_sound hm hT hO oc hG m d
    unfold callT at h
    split at h
    . rename_i s hs
      exact hO f s hs ρ st w args v st' ay h hW gB
    . split at h <;> first | (cases h; done) | skip
      rename_i F hF
      simp only [Option.map_eq_some_iff] at h
      obtain ⟨r, hr, he⟩ := h
      refine Reaches.mono (fun x w' hp => ?_) (body_sound hT hG ih (draw_sound hm hT ih (callT_mono oc m d)) m hF (v := r.1) (st' := r.2) hr hW gB)
      have := tidy_post hW hp
      rw [he] at this; exact this
end
theorem body_le {c c' : CallA} (h : LeC c c') {n m : Nat} (hn : n <= m) {F : AFunc} {args : List AV} {st : St} {r : AV × St} (e : bodyA c n F args st = some r) : bodyA c' m F args st = some r := by
  unfold bodyA at e ⊢
  split at e <;> first | (cases e; done) | skip
  split at e <;> first | (cases e; done) | skip
  all_goals
    rename_i h1
    simp only [exec_le h n m hn _ _ _ _ h1]
    exact e
theorem callT_le (O : Oracle) (G : T AFunc) {n m : Nat} (hn : n <= m) : ∀ d d', d <= d' -> LeC (callT O G n d) (callT O G m d')
  | 0, _, _ => fun _ _ _ _ e => by simp [callT] at e
  | _ + 1, 0, h => by omega
  | d + 1, d' + 1, h => fun f args st r e => by
    have ih := callT_le O G hn d d' (by omega)
    unfold callT at e ⊢
    split at e
    . exact e
    . split at e <;> first | (cases e; done) | skip
      simp only [Option.map_eq_some_iff] at e ⊢
      obtain ⟨q, hq, he⟩ := e
      exact ⟨q, body_le ih hn hq, he⟩
def cn (O : Oracle) (G : T AFunc) (n : Nat) : CallA := callT O G n n
theorem cn_le (O : Oracle) (G : T AFunc) {n m : Nat} (h : n <= m) : LeC (cn O G n) (cn O G m) := callT_le O G h n m h
def run (O : Oracle) (G : T AFunc) : CallA := fun f args st => open Classical in
  if h : ∃ (r : AV × St) (n : Nat), cn O G n f args st = some r then some h.choose else none
variable {O : Oracle} {G : T AFunc}
theorem run_of {f : FuncId} {args : List AV} {st : St} {r : AV × St} {n : Nat} (h : cn O G n f args st = some r) : run O G f args st = some r := by
  unfold run
  have hx : ∃ (r : AV × St) (n : Nat), cn O G n f args st = some r := ⟨r, n, h⟩
  rw [dif_pos hx]
  obtain ⟨m, hm⟩ := hx.choose_spec
  have h1 := cn_le O G (Nat.le_max_left n m) f args st _ h
  have h2 := cn_le O G (Nat.le_max_right n m) f args st _ hm
  rw [h1] at h2
  exact h2.symm
theorem run_some {f : FuncId} {args : List AV} {st : St} {r : AV × St} (h : run O G f args st = some r) : ∃ n, cn O G n f args st = some r := by
  unfold run at h
  split at h
  . rename_i hx
    simp only [Option.some.injEq] at h
    rw [<- h]; exact hx.choose_spec
  . cases h
theorem stepA_cont {k : OpK} {xs : List AV} {st : St} {r : AV × St} (e : stepA (run O G) k xs st = some r) : ∃ n, stepA (cn O G n) k xs st = some r := by
  unfold stepA at e
  cases hr : k.run (fun b => st.heap.get b) st.next xs with
  | none => simp [hr] at e
  | some x => cases x with
    | val v => exact ⟨0, by simpa [stepA, hr] using e⟩
    | eff v d s n => exact ⟨0, by simpa [stepA, hr] using e⟩
    | call f args =>
      simp only [hr] at e
      obtain ⟨n, hn⟩ := run_some e
      exact ⟨n, by simpa [stepA, hr] using hn⟩
theorem opsA_cont : ∀ (os : List AOper) (fr : Fr) (st : St) (r : Fr × St), opsA (run O G) os fr st = some r -> ∃ n, opsA (cn O G n) os fr st = some r
  | [], _, _, _, e => ⟨0, e⟩
  | o :: os, fr, st, r, e => by
    unfold opsA at e
    cases hw : wantedA fr o.guard with
    | none => simp [hw] at e
    | some b => cases b with
      | false =>
        simp only [hw] at e
        obtain ⟨n, hn⟩ := opsA_cont os _ _ _ e
        exact ⟨n, by unfold opsA; simp only [hw]; exact hn⟩
      | true =>
        simp only [hw] at e
        cases hx : evsA fr o.xs with
        | none => simp [hx] at e
        | some xs =>
          simp only [hx] at e
          cases hs : stepA (run O G) o.k xs st with
          | none => simp [hs] at e
          | some p =>
            simp only [hs] at e
            obtain ⟨n, hn⟩ := opsA_cont os _ _ _ e
            obtain ⟨m, hm⟩ := stepA_cont hs
            refine ⟨max n m, ?_⟩
            unfold opsA
            simp only [hw, hx, stepA_le (cn_le O G (Nat.le_max_right n m)) hm]
            exact opsA_le (cn_le O G (Nat.le_max_left n m)) _ _ _ _ hn
theorem drawA_cont : ∀ (os : List (Nat × AOper)) (recs : List Rec) (base : T AB) (fr : Fr) (st : St) (r : Fr × St), drawA (run O G) os recs base fr st = some r -> ∃ n, drawA (cn O G n) os recs base fr st = some r
  | [], _, _, _, _, _, e => ⟨0, e⟩
  | (j, o) :: os, recs, base, fr, st, r, e => by
    have ih := drawA_cont os
    unfold drawA at e
    cases hw : wantedA fr o.guard with
    | none => simp [hw] at e
    | some b => cases b with
      | false =>
        simp only [hw] at e
        obtain ⟨n, hn⟩ := ih _ _ _ _ _ e
        exact ⟨n, by unfold drawA; simp only [hw]; exact hn⟩
      | true =>
        simp only [hw] at e
        cases hx : evsA fr o.xs with
        | none => simp [hx] at e
        | some xs =>
          simp only [hx] at e
          cases hc : o.cls with
          | eff =>
            simp only [hc] at e
            cases hs : stepA (run O G) o.k xs st with
            | none => simp [hs] at e
            | some p =>
              simp only [hs] at e
              obtain ⟨n, hn⟩ := ih _ _ _ _ _ e
              obtain ⟨m, hm⟩ := stepA_cont hs
              refine ⟨max n m, ?_⟩
              unfold drawA
              simp only [hw, hx, hc, stepA_le (cn_le O G (Nat.le_max_right n m)) hm]
              exact drawA_le (cn_le O G (Nat.le_max_left n m)) _ _ _ _ _ _ hn
          | new =>
            simp only [hc] at e
            split at e <;> first | (cases e; done) | skip
            obtain ⟨n, hn⟩ := ih _ _ _ _ _ e
            refine ⟨n, ?_⟩
            unfold drawA
            simp only [*]
          | pure =>
            simp only [hc] at e
            split at e <;> (try split at e) <;> (try split at e) <;> first | (cases e; done) | skip
            all_goals
              obtain ⟨n, hn⟩ := ih _ _ _ _ _ e
              refine ⟨n, ?_⟩
              unfold drawA
              simp only [*]
          | read =>
            simp only [hc] at e
            split at e <;> (try split at e) <;> (try split at e) <;> first | (cases e; done) | skip
            all_goals
              obtain ⟨n, hn⟩ := ih _ _ _ _ _ e
              refine ⟨n, ?_⟩
              unfold drawA
              simp only [*]
theorem exec_cont : ∀ (n : Nat) (a : AC) (fr : Fr) (st : St) (r : AExit × Fr × St), exec (run O G) n a fr st = some r -> ∃ m, exec (cn O G m) n a fr st = some r
  | 0, _, _, _, _, e => by simp [exec] at e
  | n + 1, a, fr, st, r, e => by
    have ih := exec_cont n
    have up : ∀ {m m' : Nat} {a : AC} {fr : Fr} {st : St} {r : AExit × Fr × St}, m <= m' -> exec (cn O G m) n a fr st = some r -> exec (cn O G m') n a fr st = some r :=
      fun h e => exec_le (cn_le O G h) _ _ (Nat.le_refl _) _ _ _ _ e
    cases a <;> simp only [exec, execStep] at e
    case skip => exact ⟨0, e⟩
    case exit => exact ⟨0, e⟩
    case ret => exact ⟨0, e⟩
    case region ops =>
      cases ho : opsA (run O G) ops fr st with
      | none => simp [ho] at e
      | some p =>
        obtain ⟨m, hm⟩ := opsA_cont _ _ _ _ ho
        exact ⟨m, by simp only [exec, execStep, hm]; simpa only [ho] using e⟩
    case draw ops =>
      cases ho : drawA (run O G) ops [] st.heap fr st with
      | none => simp [ho] at e
      | some p =>
        obtain ⟨m, hm⟩ := drawA_cont _ _ _ _ _ _ ho
        exact ⟨m, by simp only [exec, execStep, hm]; simpa only [ho] using e⟩
    case seq a b =>
      cases ha : exec (run O G) n a fr st with
      | none => simp [ha] at e
      | some p =>
        obtain ⟨ex, bC, aH⟩ := p
        simp only [ha] at e
        obtain ⟨m, hm⟩ := ih _ _ _ _ ha
        cases ex with
        | normal =>
          obtain ⟨m', xT⟩ := ih _ _ _ _ e
          exact ⟨max m m', by simp only [exec, execStep, up (Nat.le_max_left m m') hm]; exact up (Nat.le_max_right m m') xT⟩
        | exit i => exact ⟨m, by simp only [exec, execStep, hm]; exact e⟩
        | ret => exact ⟨m, by simp only [exec, execStep, hm]; exact e⟩
    case cond x a b =>
      split at e
      . rename_i hx
        obtain ⟨m, hm⟩ := ih _ _ _ _ e
        exact ⟨m, by simp only [exec, execStep, hx]; exact hm⟩
      . rename_i hx
        obtain ⟨m, hm⟩ := ih _ _ _ _ e
        exact ⟨m, by simp only [exec, execStep, hx]; exact hm⟩
      . cases e
    case block id a =>
      cases ha : exec (run O G) n a fr st with
      | none => simp [ha] at e
      | some p =>
        obtain ⟨ex, bC, aH⟩ := p
        simp only [ha] at e
        obtain ⟨m, hm⟩ := ih _ _ _ _ ha
        exact ⟨m, by simp only [exec, execStep, hm]; exact e⟩
    case loop a =>
      cases ha : exec (run O G) n a fr st with
      | none => simp [ha] at e
      | some p =>
        obtain ⟨ex, bC, aH⟩ := p
        simp only [ha] at e
        obtain ⟨m, hm⟩ := ih _ _ _ _ ha
        cases ex with
        | normal =>
          obtain ⟨m', xT⟩ := ih _ _ _ _ e
          exact ⟨max m m', by simp only [exec, execStep, up (Nat.le_max_left m m') hm]; exact up (Nat.le_max_right m m') xT⟩
        | exit i => exact ⟨m, by simp only [exec, execStep, hm]; exact e⟩
        | ret => exact ⟨m, by simp only [exec, execStep, hm]; exact e⟩
theorem run_body {f : FuncId} {F : AFunc} {args : List AV} {st : St} {r : AV × St} {n : Nat} (ho : O f = none) (hF : G.get (key f) = some F) (h : bodyA (run O G) n F args st = some r) :
    run O G f args st = some (tidy st r) := by
  unfold bodyA at h
  split at h <;> first | (cases h; done) | skip
  rename_i hlen
  have fin : ∀ {ex fr st'}, exec (run O G) n F.code (params 0 args .e) st = some (ex, fr, st') -> (∀ m k, exec (cn O G m) k F.code (params 0 args .e) st = some (ex, fr, st') -> bodyA (cn O G m) k F args st = some r) ->
      run O G f args st = some (tidy st r) := fun h1 h2 => by
    obtain ⟨m, hm⟩ := exec_cont _ _ _ _ _ h1
    refine run_of (n := max n m + 1) ?_
    unfold cn callT
    simp only [ho, hF]
    have := h2 m n hm
    have h3 := body_le (callT_le O G (n := m) (m := max n m + 1) (by have := Nat.le_max_right n m; omega) m (max n m) (Nat.le_max_right n m)) (m := max n m + 1) (by have := Nat.le_max_left n m; omega) this
    rw [h3]; rfl
  split at h <;> first | (cases h; done) | skip
  . rename_i h1
    exact fin h1 fun m k hk => by unfold bodyA; simp only [hlen, hk]; exact h
  . rename_i h1
    exact fin h1 fun m k hk => by unfold bodyA; simp only [hlen, hk]; exact h
theorem run_oracle {f : FuncId} {s : List AV -> St -> Option (AV × St)} (ho : O f = some s) {args : List AV} {st : St} {r : AV × St} (h : s args st = some r) : run O G f args st = some r :=
  run_of (n := 1) (by unfold cn callT; simp only [ho]; exact h)
theorem run_sound {P : Program} {tt : TT} {C : Cells} (hm : P.follows .mixedOrders = true) (hT : TTOk P tt) (hO : OracleOk P C O) (oc : OracleMono O) (hG : GOk P tt G) : CallOk P C (run O G) := by
  intro ρ st w f args v st' ay h hW gB
  obtain ⟨n, hn⟩ := run_some h
  exact callT_sound hm hT hO oc hG n n ρ st w f args v st' ay hn hW gB
end Go.Ai
end
section
noncomputable section
namespace Go.Ai
open Go
inductive Sh where
  | leaf
  | seq (jn : Option (List Pos)) (a b : Sh)
  | cond (a b : Sh)
  | block (a : Sh)
  | loop (j : Nat) (ins : List Pos) (outs : List (Nat × List Pos)) (a : Sh)
variable {R : Type}
abbrev LpK (R : Type) := Nat -> List AV -> St -> Option R
abbrev Env (R : Type) := Nat -> LpK R -> Nat -> List AV -> St -> Option R
def un1 (l : List AV) (k : AV -> List AV -> Option R) : Option R := match l with
  | v :: vs => k v vs
  | [] => none
def nl1 (l : List AV) (k : Option R) : Option R := match l with
  | [] => k
  | _ :: _ => none
def stp (c : CallA) (k : OpK) (xs : List AV) (st : St) (K : AV -> St -> Option R) : Option R := match stepA c k xs st with
  | some (v, st') => K v st'
  | none => none
def gst (c : CallA) (g : AV) (want : Bool) (k : OpK) (xs : List AV) (st : St) (K : AV -> St -> Option R) : Option R := match g with
  | .bool b => match b == want with
    | true => stp c k xs st K
    | false => K .undef st
  | .tuple _ => K .undef st
  | _ => none
def prr (k : OpK) (xs : List AV) (K : AV -> Option R) : Option R := match k.run (fun _ => none) .h xs with
  | some (.val v) => K v
  | _ => none
def gpr (g : AV) (want : Bool) (k : OpK) (xs : List AV) (K : AV -> Option R) : Option R := match g with
  | .bool b => match b == want with
    | true => prr k xs K
    | false => K .undef
  | .tuple _ => K .undef
  | _ => none
def rdd (k : OpK) (xs : List AV) (h : T AB) (ok : AV -> Bool) (K : AV -> Option R) : Option R := match k.run (fun _ => none) .h xs with
  | some (.val v) => K v
  | _ => match k.run (fun b => h.get b) .h xs with
    | some (.val v) => match ok v with
      | true => K v
      | false => none
    | _ => none
def grd (g : AV) (want : Bool) (k : OpK) (xs : List AV) (h : T AB) (ok : AV -> Bool) (K : AV -> Option R) : Option R := match g with
  | .bool b => match b == want with
    | true => rdd k xs h ok K
    | false => K .undef
  | .tuple _ => K .undef
  | _ => none
def nww (k : OpK) (xs : List AV) (st : St) (K : AV -> AB -> Option R) : Option R := match k.run (fun _ => none) st.next xs with
  | some (.eff v none none (some blk)) => K v blk
  | _ => none
def wnt (g : AV) (want : Bool) (A B : Option R) : Option R := match g with
  | .bool b => match b == want with
    | true => A
    | false => B
  | .tuple _ => B
  | _ => none
def cnd (v : AV) (A B : Option R) : Option R := match v with
  | .bool true => A
  | .bool false => B
  | _ => none
def jnn (f : (List AV -> St -> Option R) -> Option R) (k : List AV -> St -> Option R) : Option R := f k
def opsC (c : CallA) : List AOper -> Fr -> St -> (Fr -> St -> Option R) -> Option R
  | [], fr, st, K => K fr st
  | o :: os, fr, st, K => match evsA fr o.xs with
    | some xs => match o.guard with
      | none => stp c o.k xs st fun v st => opsC c os (setDst fr o.dst v) st K
      | some (p, want) => match fr.get p with
        | some g => gst c g want o.k xs st fun v st => opsC c os (setDst fr o.dst v) st K
        | none => none
    | none => none
def drawC (c : CallA) : List (Nat × AOper) -> List Rec -> T AB -> Fr -> St -> (Fr -> St -> Option R) -> Option R
  | [], _, _, fr, st, K => K fr st
  | (j, o) :: os, recs, base, fr, st, K => match evsA fr o.xs with
    | some xs => match o.cls with
      | .pure => match o.guard with
        | none => prr o.k xs fun v => drawC c os ({ idx := j, o := o, v := v, c := .pure, nx := st.next } :: recs) base (setDst fr o.dst v) st K
        | some (p, want) => match fr.get p with
          | some g => gpr g want o.k xs fun v => drawC c os ({ idx := j, o := o, v := v, c := .pure, nx := st.next } :: recs) base (setDst fr o.dst v) st K
          | none => none
      | .read => match o.guard with
        | none => rdd o.k xs (snap o.bef base recs) (fun v => readBack o.bef o.k xs v [] recs) fun v => drawC c os ({ idx := j, o := o, v := v, c := .pure, nx := st.next } :: recs) base (setDst fr o.dst v) st K
        | some (p, want) => match fr.get p with
          | some g => grd g want o.k xs (snap o.bef base recs) (fun v => readBack o.bef o.k xs v [] recs) fun v => drawC c os ({ idx := j, o := o, v := v, c := .pure, nx := st.next } :: recs) base (setDst fr o.dst v) st K
          | none => none
      | .new => match o.guard with
        | none => nww o.k xs st fun v blk => drawC c os ({ idx := j, o := o, v := v, c := .new st.next blk, nx := st.next.succ } :: recs) base (setDst fr o.dst v) { heap := st.heap.put (some blk) st.next, next := st.next.succ } K
        | some (p, want) => match fr.get p with
          | some g => wnt g want (nww o.k xs st fun v blk => drawC c os ({ idx := j, o := o, v := v, c := .new st.next blk, nx := st.next.succ } :: recs) base (setDst fr o.dst v) { heap := st.heap.put (some blk) st.next, next := st.next.succ } K)
              (drawC c os ({ idx := j, o := o, v := .undef, c := .pure, nx := st.next } :: recs) base (setDst fr o.dst .undef) st K)
          | none => none
      | .eff => match o.guard with
        | none => stp c o.k xs st fun v st' => drawC c os ({ idx := j, o := o, v := v, c := .eff base st'.heap, nx := st'.next } :: recs) st'.heap (setDst fr o.dst v) st' K
        | some (p, want) => match fr.get p with
          | some g => wnt g want (stp c o.k xs st fun v st' => drawC c os ({ idx := j, o := o, v := v, c := .eff base st'.heap, nx := st'.next } :: recs) st'.heap (setDst fr o.dst v) st' K)
              (drawC c os ({ idx := j, o := o, v := .undef, c := .pure, nx := st.next } :: recs) base (setDst fr o.dst .undef) st K)
          | none => none
    | none => none
def getL : List Pos -> Fr -> (List AV -> Option R) -> Option R
  | [], _, k => k []
  | p :: ps, fr, k => match fr.get p with
    | some v => getL ps fr fun vs => k (v :: vs)
    | none => none
def setL : List Pos -> List AV -> Fr -> (Fr -> Option R) -> Option R
  | [], vs, fr, k => nl1 vs (k fr)
  | p :: ps, vs, fr, k => un1 vs fun v vs => setL ps vs (fr.put (some v) p) k
def outOf : List (Nat × List Pos) -> Nat -> List Pos
  | [], _ => []
  | (i, l) :: r, e => match Nat.beq i e with
    | true => l
    | false => outOf r e
def exOf : Nat -> AExit
  | 0 => .normal
  | 1 => .ret
  | n + 2 => .exit n
def lpBody (D : Fr -> St -> (AExit -> Fr -> St -> Option R) -> Option R) (ins : List Pos) (outs : List (Nat × List Pos)) (K' : LpK R) (again : List AV -> St -> Option R) (vs : List AV) (st : St) : Option R :=
  setL ins vs .e fun fr => D fr st fun ex fr st => match ex with
    | .normal => getL ins fr fun vs => again vs st
    | .exit i => getL (outOf outs (i + 2)) fr fun os => K' (i + 2) os st
    | .ret => getL (outOf outs 1) fr fun os => K' 1 os st
def knk (outs : List (Nat × List Pos)) (K : AExit -> Fr -> St -> Option R) : LpK R := fun e os st => setL (outOf outs e) os .e fun fr => K (exOf e) fr st
def den (c : CallA) (F : Nat) (L : Env R) : AC -> Sh -> Fr -> St -> (AExit -> Fr -> St -> Option R) -> Option R
  | .skip, _, fr, st, K => K .normal fr st
  | .region ops, _, fr, st, K => opsC c ops fr st (K .normal)
  | .draw ops, _, fr, st, K => drawC c ops [] st.heap fr st (K .normal)
  | .seq a b, s, fr, st, K => match s with
    | .seq none s t => den c F L a s fr st fun ex fr st => match ex with
      | .normal => den c F L b t fr st K
      | .exit i => K (.exit i) fr st
      | .ret => K .ret fr st
    | .seq (some l) s t => jnn (fun K' => den c F L a s fr st fun ex fr st => match ex with
      | .normal => getL l fr fun vs => K' vs st
      | .exit i => K (.exit i) fr st
      | .ret => K .ret fr st) (fun vs st => setL l vs .e fun fr => den c F L b t fr st K)
    | _ => none
  | .cond x a b, s, fr, st, K => match s with
    | .cond s t => match evA fr x with
      | some v => cnd v (den c F L a s fr st K) (den c F L b t fr st K)
      | none => none
    | _ => none
  | .block id a, s, fr, st, K => match s with
    | .block s => den c F L a s fr st fun ex fr st => match ex with
      | .normal => K .normal fr st
      | .exit i => match Nat.beq i id with
        | true => K .normal fr st
        | false => K (.exit i) fr st
      | .ret => K .ret fr st
    | _ => none
  | .loop _, s, fr, st, K => match s with
    | .loop j ins outs _ => getL ins fr fun vs => L j (knk outs K) F vs st
    | _ => none
  | .exit id, _, fr, st, K => K (.exit id) fr st
  | .ret, _, fr, st, K => K .ret fr st
def GoodL (c : CallA) (F : Nat) (L : Env R) (a : AC) : Sh -> Prop
  | .loop j ins outs s => ∀ K', (∀ vs st, L j K' 0 vs st = none) /\ ∀ n vs st, L j K' (n + 1) vs st = lpBody (den c F L a s) ins outs K' (L j K' n) vs st
  | _ => False
def LpOk (c : CallA) (F : Nat) (L : Env R) : AC -> Sh -> Prop
  | .seq a b, s => match s with
    | .seq _ s t => LpOk c F L a s /\ LpOk c F L b t
    | _ => True
  | .cond _ a b, s => match s with
    | .cond s t => LpOk c F L a s /\ LpOk c F L b t
    | _ => True
  | .block _ a, s => match s with
    | .block s => LpOk c F L a s
    | _ => True
  | .loop a, s => match s with
    | .loop j ins outs s => GoodL c F L a (.loop j ins outs s) /\ LpOk c F L a s
    | _ => True
  | _, _ => True
def loopsOf : AC -> Sh -> List (AC × Sh)
  | .seq a b, s => match s with
    | .seq _ s t => loopsOf a s ++ loopsOf b t
    | _ => []
  | .cond _ a b, s => match s with
    | .cond s t => loopsOf a s ++ loopsOf b t
    | _ => []
  | .block _ a, s => match s with
    | .block s => loopsOf a s
    | _ => []
  | .loop a, s => match s with
    | .loop j ins outs s => (a, .loop j ins outs s) :: loopsOf a s
    | _ => []
  | _, _ => []
theorem lpOk_of {c : CallA} {F : Nat} {L : Env R} : ∀ (a : AC) (s : Sh), (∀ x ∈ loopsOf a s, GoodL c F L x.1 x.2) -> LpOk c F L a s
  | .skip, _, _ => trivial
  | .region _, _, _ => trivial
  | .draw _, _, _ => trivial
  | .exit _, _, _ => trivial
  | .ret, _, _ => trivial
  | .seq a b, s, h => by
    cases s <;> simp only [LpOk] <;> simp only [loopsOf, List.mem_append] at h
    exact ⟨lpOk_of a _ fun x hx => h x (.inl hx), lpOk_of b _ fun x hx => h x (.inr hx)⟩
  | .cond x a b, s, h => by
    cases s <;> simp only [LpOk] <;> simp only [loopsOf, List.mem_append] at h
    exact ⟨lpOk_of a _ fun x hx => h x (.inl hx), lpOk_of b _ fun x hx => h x (.inr hx)⟩
  | .block id a, s, h => by
    cases s <;> simp only [LpOk] <;> simp only [loopsOf] at h
    exact lpOk_of a _ h
  | .loop a, s, h => by
    cases s <;> simp only [LpOk] <;> simp only [loopsOf, List.mem_cons] at h
    exact ⟨h _ (.inl rfl), lpOk_of a _ fun x hx => h x (.inr hx)⟩
def Sub (a b : Fr) : Prop := ∀ p v, a.get p = some v -> b.get p = some v
theorem Sub.refl (a : Fr) : Sub a a := fun _ _ h => h
theorem Sub.put {a b : Fr} (h : Sub a b) (p : Pos) (v : AV) : Sub (a.put (some v) p) (b.put (some v) p) := fun q u hq => by
  by_cases e : p = q
  . subst e; rw [T.get_put] at hq ⊢; exact hq
  . rw [T.get_put_ne _ e] at hq ⊢; exact h _ _ hq
theorem Sub.dst {a b : Fr} (h : Sub a b) (d : Option Pos) (v : AV) : Sub (setDst a d v) (setDst b d v) := by
  cases d with
  | none => exact h
  | some p => exact h.put p v
theorem Sub.ev {a b : Fr} (h : Sub a b) {x : AOpd} {v : AV} (e : evA a x = some v) : evA b x = some v := by
  cases x with
  | t p => exact h _ _ e
  | c v => exact e
theorem Sub.evs {a b : Fr} (h : Sub a b) : ∀ {xs : List AOpd} {vs : List AV}, evsA a xs = some vs -> evsA b xs = some vs
  | [], _, e => e
  | x :: xs, vs, e => by
    unfold evsA at e ⊢
    cases hx : evA a x with
    | none => simp [hx] at e
    | some v =>
      simp only [hx] at e
      cases hs : evsA a xs with
      | none => simp [hs] at e
      | some us => simp only [hs] at e; simp only [h.ev hx, h.evs hs]; exact e
theorem opsC_sound {c : CallA} : ∀ (os : List AOper) {fr frx : Fr} {st : St} {K : Fr -> St -> Option R} {r : R}, Sub fr frx -> opsC c os fr st K = some r ->
    ∃ aq aN st', opsA c os frx st = some (aN, st') /\ Sub aq aN /\ K aq st' = some r
  | [], fr, frx, st, K, r, hs, h => ⟨fr, frx, st, rfl, hs, h⟩
  | o :: os, fr, frx, st, K, r, hs, h => by
    unfold opsC at h
    cases hx : evsA fr o.xs with
    | none => simp [hx] at h
    | some xs =>
      simp only [hx] at h
      have GH : ∀ {st}, stp c o.k xs st (fun v st => opsC c os (setDst fr o.dst v) st K) = some r -> wantedA frx o.guard = some true -> ∃ aq aN st', opsA c (o :: os) frx st = some (aN, st') /\ Sub aq aN /\ K aq st' = some r := fun {st} h hw => by
        unfold stp at h
        cases ei : stepA c o.k xs st with
        | none => simp [ei] at h
        | some p =>
          simp only [ei] at h
          obtain ⟨aq, aN, st', h1, h2⟩ := opsC_sound os (hs.dst o.dst p.1) h
          exact ⟨aq, aN, st', by unfold opsA; simp only [hw, hs.evs hx, ei]; exact h1, h2⟩
      have kS : ∀ {st}, opsC c os (setDst fr o.dst .undef) st K = some r -> wantedA frx o.guard = some false -> ∃ aq aN st', opsA c (o :: os) frx st = some (aN, st') /\ Sub aq aN /\ K aq st' = some r := fun {st} h hw => by
        obtain ⟨aq, aN, st', h1, h2⟩ := opsC_sound os (hs.dst o.dst .undef) h
        exact ⟨aq, aN, st', by unfold opsA; simp only [hw]; exact h1, h2⟩
      cases hg : o.guard with
      | none => simp only [hg] at h; exact GH h (by rw [hg]; rfl)
      | some pw =>
        obtain ⟨p, want⟩ := pw
        simp only [hg] at h
        cases hp : fr.get p with
        | none => simp [hp] at h
        | some g =>
          simp only [hp] at h
          have gY := hs _ _ hp
          unfold gst at h
          split at h
          . rename_i b
            split at h
            . rename_i hb; exact GH h (by rw [hg]; simp [wantedA, gY, hb])
            . rename_i hb; exact kS h (by rw [hg]; simp [wantedA, gY, hb])
          . exact kS h (by rw [hg]; simp [wantedA, gY])
          . cases h
theorem drawC_sound {c : CallA} : ∀ (os : List (Nat × AOper)) (recs : List Rec) (base : T AB) {fr frx : Fr} {st : St} {K : Fr -> St -> Option R} {r : R}, Sub fr frx -> drawC c os recs base fr st K = some r ->
    ∃ aq aN st', drawA c os recs base frx st = some (aN, st') /\ Sub aq aN /\ K aq st' = some r
  | [], _, _, fr, frx, st, K, r, hs, h => ⟨fr, frx, st, rfl, hs, h⟩
  | (j, o) :: os, recs, base, fr, frx, st, K, r, hs, h => by
    have ih := fun recs base {fr frx : Fr} {st : St} {K : Fr -> St -> Option R} {r : R} => drawC_sound (c := c) os recs base (fr := fr) (frx := frx) (st := st) (K := K) (r := r)
    unfold drawC at h
    cases hx : evsA fr o.xs with
    | none => simp [hx] at h
    | some xs =>
      simp only [hx] at h
      have rY := hs.evs hx
      have kS : ∀ {st}, drawC c os ({ idx := j, o := o, v := .undef, c := .pure, nx := st.next } :: recs) base (setDst fr o.dst .undef) st K = some r -> wantedA frx o.guard = some false -> ∃ aq aN st', drawA c ((j, o) :: os) recs base frx st = some (aN, st') /\ Sub aq aN /\ K aq st' = some r := fun {st} h hw => by
        obtain ⟨aq, aN, st', h1, h2⟩ := ih _ _ (hs.dst o.dst .undef) h
        exact ⟨aq, aN, st', by unfold drawA; simp only [hw]; exact h1, h2⟩
      cases hc : o.cls with
      | pure =>
        simp only [hc] at h
        have mL : prr o.k xs (fun v => drawC c os ({ idx := j, o := o, v := v, c := .pure, nx := st.next } :: recs) base (setDst fr o.dst v) st K) = some r -> wantedA frx o.guard = some true -> ∃ aq aN st', drawA c ((j, o) :: os) recs base frx st = some (aN, st') /\ Sub aq aN /\ K aq st' = some r := fun h hw => by
          unfold prr at h
          split at h
          . rename_i v hv
            obtain ⟨aq, aN, st', h1, h2⟩ := ih _ _ (hs.dst o.dst v) h
            exact ⟨aq, aN, st', by unfold drawA; simp only [hw, rY, hc, hv]; exact h1, h2⟩
          . cases h
        cases hg : o.guard with
        | none => simp only [hg] at h; exact mL h (by rw [hg]; rfl)
        | some pw =>
          obtain ⟨p, want⟩ := pw
          simp only [hg] at h
          cases hp : fr.get p with
          | none => simp [hp] at h
          | some g =>
            simp only [hp] at h
            have gY := hs _ _ hp
            unfold gpr at h
            split at h
            . split at h
              . rename_i hb; exact mL h (by rw [hg]; simp [wantedA, gY, hb])
              . rename_i hb; exact kS h (by rw [hg]; simp [wantedA, gY, hb])
            . exact kS h (by rw [hg]; simp [wantedA, gY])
            . cases h
      | read =>
        simp only [hc] at h
        have mL : rdd o.k xs (snap o.bef base recs) (fun v => readBack o.bef o.k xs v [] recs) (fun v => drawC c os ({ idx := j, o := o, v := v, c := .pure, nx := st.next } :: recs) base (setDst fr o.dst v) st K) = some r -> wantedA frx o.guard = some true -> ∃ aq aN st', drawA c ((j, o) :: os) recs base frx st = some (aN, st') /\ Sub aq aN /\ K aq st' = some r := fun h hw => by
          unfold rdd at h
          split at h
          . rename_i v hv
            obtain ⟨aq, aN, st', h1, h2⟩ := ih _ _ (hs.dst o.dst v) h
            exact ⟨aq, aN, st', by unfold drawA; simp only [hw, rY, hc, hv]; exact h1, h2⟩
          . rename_i cW
            split at h
            . rename_i v hv
              split at h
              . rename_i bf
                obtain ⟨aq, aN, st', h1, h2⟩ := ih _ _ (hs.dst o.dst v) h
                refine ⟨aq, aN, st', ?_, h2⟩
                unfold drawA
                simp only [hw, rY, hc]
                cases hr : o.k.run (fun _ => none) .h xs with
                | none => simp only [hv, bf]; exact h1
                | some x => cases x with
                  | val u => exact absurd hr (cW u)
                  | eff v d e n => simp only [hv, bf]; exact h1
                  | call f xs => simp only [hv, bf]; exact h1
              . cases h
            . cases h
        cases hg : o.guard with
        | none => simp only [hg] at h; exact mL h (by rw [hg]; rfl)
        | some pw =>
          obtain ⟨p, want⟩ := pw
          simp only [hg] at h
          cases hp : fr.get p with
          | none => simp [hp] at h
          | some g =>
            simp only [hp] at h
            have gY := hs _ _ hp
            unfold grd at h
            split at h
            . split at h
              . rename_i hb; exact mL h (by rw [hg]; simp [wantedA, gY, hb])
              . rename_i hb; exact kS h (by rw [hg]; simp [wantedA, gY, hb])
            . exact kS h (by rw [hg]; simp [wantedA, gY])
            . cases h
      | new =>
        simp only [hc] at h
        have mL : nww o.k xs st (fun v blk => drawC c os ({ idx := j, o := o, v := v, c := .new st.next blk, nx := st.next.succ } :: recs) base (setDst fr o.dst v) { heap := st.heap.put (some blk) st.next, next := st.next.succ } K) = some r -> wantedA frx o.guard = some true -> ∃ aq aN st', drawA c ((j, o) :: os) recs base frx st = some (aN, st') /\ Sub aq aN /\ K aq st' = some r := fun h hw => by
          unfold nww at h
          split at h
          . rename_i v blk hv
            obtain ⟨aq, aN, st', h1, h2⟩ := ih _ _ (hs.dst o.dst v) h
            exact ⟨aq, aN, st', by unfold drawA; simp only [hw, rY, hc, hv]; exact h1, h2⟩
          . cases h
        cases hg : o.guard with
        | none => simp only [hg] at h; exact mL h (by rw [hg]; rfl)
        | some pw =>
          obtain ⟨p, want⟩ := pw
          simp only [hg] at h
          cases hp : fr.get p with
          | none => simp [hp] at h
          | some g =>
            simp only [hp] at h
            have gY := hs _ _ hp
            unfold wnt at h
            split at h
            . split at h
              . rename_i hb; exact mL h (by rw [hg]; simp [wantedA, gY, hb])
              . rename_i hb; exact kS h (by rw [hg]; simp [wantedA, gY, hb])
            . exact kS h (by rw [hg]; simp [wantedA, gY])
            . cases h
      | eff =>
        simp only [hc] at h
        have mL : stp c o.k xs st (fun v st' => drawC c os ({ idx := j, o := o, v := v, c := .eff base st'.heap, nx := st'.next } :: recs) st'.heap (setDst fr o.dst v) st' K) = some r -> wantedA frx o.guard = some true -> ∃ aq aN st', drawA c ((j, o) :: os) recs base frx st = some (aN, st') /\ Sub aq aN /\ K aq st' = some r := fun h hw => by
          unfold stp at h
          cases ei : stepA c o.k xs st with
          | none => simp [ei] at h
          | some p =>
            simp only [ei] at h
            obtain ⟨aq, aN, st', h1, h2⟩ := ih _ _ (hs.dst o.dst p.1) h
            exact ⟨aq, aN, st', by unfold drawA; simp only [hw, rY, hc, ei]; exact h1, h2⟩
        cases hg : o.guard with
        | none => simp only [hg] at h; exact mL h (by rw [hg]; rfl)
        | some pw =>
          obtain ⟨p, want⟩ := pw
          simp only [hg] at h
          cases hp : fr.get p with
          | none => simp [hp] at h
          | some g =>
            simp only [hp] at h
            have gY := hs _ _ hp
            unfold wnt at h
            split at h
            . split at h
              . rename_i hb; exact mL h (by rw [hg]; simp [wantedA, gY, hb])
              . rename_i hb; exact kS h (by rw [hg]; simp [wantedA, gY, hb])
            . exact kS h (by rw [hg]; simp [wantedA, gY])
            . cases h
def Has : List Pos -> List AV -> Fr -> Prop
  | [], [], _ => True
  | p :: ps, v :: vs, fr => fr.get p = some v /\ Has ps vs fr
  | _, _, _ => False
theorem Has.sub {a b : Fr} (hs : Sub a b) : ∀ {ps : List Pos} {vs : List AV}, Has ps vs a -> Has ps vs b
  | [], [], _ => trivial
  | [], _ :: _, h => h
  | _ :: _, [], h => h
  | _ :: _, _ :: _, h => ⟨hs _ _ h.1, Has.sub hs h.2⟩
theorem getL_some : ∀ {ps : List Pos} {fr : Fr} {k : List AV -> Option R} {r : R}, getL ps fr k = some r -> ∃ vs, Has ps vs fr /\ k vs = some r
  | [], _, _, _, h => ⟨[], trivial, h⟩
  | p :: ps, fr, k, r, h => by
    unfold getL at h
    cases hp : fr.get p with
    | none => simp [hp] at h
    | some v =>
      simp only [hp] at h
      obtain ⟨vs, h1, h2⟩ := getL_some h
      exact ⟨v :: vs, ⟨hp, h1⟩, h2⟩
theorem setL_some : ∀ {ps : List Pos} {vs : List AV} {fr frx : Fr} {k : Fr -> Option R} {r : R}, setL ps vs fr k = some r -> Has ps vs frx -> Sub fr frx -> ∃ aq, Sub aq frx /\ k aq = some r
  | [], vs, fr, frx, k, r, h, _, hs => by
    unfold setL nl1 at h
    split at h
    . exact ⟨fr, hs, h⟩
    . cases h
  | p :: ps, [], fr, frx, k, r, h, hh, hs => by simp [setL, un1] at h
  | p :: ps, v :: vs, fr, frx, k, r, h, hh, hs => by
    unfold setL un1 at h
    refine setL_some h hh.2 fun q u hq => ?_
    by_cases e : p = q
    . subst e; rw [T.get_put] at hq; cases hq; exact hh.1
    . rw [T.get_put_ne _ e] at hq; exact hs _ _ hq
theorem exec_up {c : CallA} {n m : Nat} (h : n <= m) {a : AC} {fr : Fr} {st : St} {r : AExit × Fr × St} (e : exec c n a fr st = some r) : exec c m a fr st = some r := exec_le (LeC.refl c) n m h _ _ _ _ e
theorem den_sound {c : CallA} {F : Nat} {L : Env R} : ∀ (a : AC) (s : Sh), LpOk c F L a s -> ∀ {fr frx : Fr} {st : St} {K : AExit -> Fr -> St -> Option R} {r : R}, Sub fr frx -> den c F L a s fr st K = some r ->
    ∃ n ex aq aN st', exec c n a frx st = some (ex, aN, st') /\ Sub aq aN /\ K ex aq st' = some r
  | .skip, s, _, fr, frx, st, K, r, hs, h => ⟨1, .normal, fr, frx, st, rfl, hs, by simpa [den] using h⟩
  | .exit id, s, _, fr, frx, st, K, r, hs, h => ⟨1, .exit id, fr, frx, st, rfl, hs, by simpa [den] using h⟩
  | .ret, s, _, fr, frx, st, K, r, hs, h => ⟨1, .ret, fr, frx, st, rfl, hs, by simpa [den] using h⟩
  | .region ops, s, _, fr, frx, st, K, r, hs, h => by
    simp only [den] at h
    obtain ⟨aq, aN, st', h1, h2, h3⟩ := opsC_sound ops hs h
    exact ⟨1, .normal, aq, aN, st', by simp only [exec, execStep, h1], h2, h3⟩
  | .draw ops, s, _, fr, frx, st, K, r, hs, h => by
    simp only [den] at h
    obtain ⟨aq, aN, st', h1, h2, h3⟩ := drawC_sound ops _ _ hs h
    exact ⟨1, .normal, aq, aN, st', by simp only [exec, execStep, h1], h2, h3⟩
  | .seq a b, s, bf, fr, frx, st, K, r, hs, h => by
    cases s <;> simp only [den] at h <;> first | (cases h; done) | skip
    rename_i jn s t
    simp only [LpOk] at bf
    cases jn with
    | none =>
      simp only at h
      obtain ⟨n, ex, bC, fK, aH, h1, h2, h3⟩ := den_sound a s bf.1 hs h
      cases ex with
      | normal =>
        obtain ⟨m, ex, mb, rZ, mF, k1, k2, k3⟩ := den_sound b t bf.2 h2 h3
        exact ⟨max n m + 1, ex, mb, rZ, mF, by simp only [exec, execStep, exec_up (Nat.le_max_left n m) h1]; exact exec_up (Nat.le_max_right n m) k1, k2, k3⟩
      | exit i => exact ⟨n + 1, .exit i, bC, fK, aH, by simp only [exec, execStep, h1], h2, h3⟩
      | ret => exact ⟨n + 1, .ret, bC, fK, aH, by simp only [exec, execStep, h1], h2, h3⟩
    | some l =>
      simp only [jnn] at h
      obtain ⟨n, ex, bC, fK, aH, h1, h2, h3⟩ := den_sound a s bf.1 hs h
      cases ex with
      | normal =>
        obtain ⟨vs, g1, g2⟩ := getL_some h3
        obtain ⟨aq, g3, g4⟩ := setL_some g2 (Has.sub h2 g1) (fun p v hp => by rw [T.get_e] at hp; cases hp)
        obtain ⟨m, ex, mb, rZ, mF, k1, k2, k3⟩ := den_sound b t bf.2 g3 g4
        exact ⟨max n m + 1, ex, mb, rZ, mF, by simp only [exec, execStep, exec_up (Nat.le_max_left n m) h1]; exact exec_up (Nat.le_max_right n m) k1, k2, k3⟩
      | exit i => exact ⟨n + 1, .exit i, bC, fK, aH, by simp only [exec, execStep, h1], h2, h3⟩
      | ret => exact ⟨n + 1, .ret, bC, fK, aH, by simp only [exec, execStep, h1], h2, h3⟩
  | .cond x a b, s, bf, fr, frx, st, K, r, hs, h => by
    cases s <;> simp only [den] at h <;> first | (cases h; done) | skip
    simp only [LpOk] at bf
    cases hx : evA fr x with
    | none => simp [hx] at h
    | some v =>
      simp only [hx] at h
      unfold cnd at h
      split at h
      . obtain ⟨n, ex, bC, fK, aH, h1, h2, h3⟩ := den_sound a _ bf.1 hs h
        exact ⟨n + 1, ex, bC, fK, aH, by simp only [exec, execStep, hs.ev hx]; exact h1, h2, h3⟩
      . obtain ⟨n, ex, bC, fK, aH, h1, h2, h3⟩ := den_sound b _ bf.2 hs h
        exact ⟨n + 1, ex, bC, fK, aH, by simp only [exec, execStep, hs.ev hx]; exact h1, h2, h3⟩
      . cases h
  | .block id a, s, bf, fr, frx, st, K, r, hs, h => by
    cases s <;> simp only [den] at h <;> first | (cases h; done) | skip
    simp only [LpOk] at bf
    obtain ⟨n, ex, bC, fK, aH, h1, h2, h3⟩ := den_sound a _ bf hs h
    cases ex with
    | normal => exact ⟨n + 1, .normal, bC, fK, aH, by simp only [exec, execStep, h1], h2, h3⟩
    | ret => exact ⟨n + 1, .ret, bC, fK, aH, by simp only [exec, execStep, h1], h2, h3⟩
    | exit i =>
      simp only at h3
      cases hb : Nat.beq i id with
      | true => simp only [hb] at h3; exact ⟨n + 1, .normal, bC, fK, aH, by simp only [exec, execStep, h1, hb], h2, h3⟩
      | false => simp only [hb] at h3; exact ⟨n + 1, .exit i, bC, fK, aH, by simp only [exec, execStep, h1, hb], h2, h3⟩
  | .loop a, s, bf, fr, frx, st, K, r, hs, h => by
    cases s <;> simp only [den] at h <;> first | (cases h; done) | skip
    rename_i j ins outs s
    simp only [LpOk, GoodL] at bf
    obtain ⟨KD, bf⟩ := bf
    obtain ⟨vs, g1, g2⟩ := getL_some h
    obtain ⟨hz, hsu⟩ := KD (knk outs K)
    have main : ∀ (n : Nat) (vs : List AV) (st : St) (frx : Fr), Has ins vs frx -> L j (knk outs K) n vs st = some r ->
        ∃ m ex aq aN st', exec c m (.loop a) frx st = some (ex, aN, st') /\ Sub aq aN /\ K ex aq st' = some r := by
      intro n
      induction n with
      | zero => intro vs st frx _ h; rw [hz] at h; cases h
      | succ n ihn =>
        intro vs st frx hh h
        rw [hsu] at h
        unfold lpBody at h
        obtain ⟨fr0, q1, q2⟩ := setL_some h hh (fun p v hp => by rw [T.get_e] at hp; cases hp)
        obtain ⟨m, ex, bC, fK, aH, h1, h2, h3⟩ := den_sound a s bf q1 q2
        cases ex with
        | normal =>
          obtain ⟨us, p1, p2⟩ := getL_some h3
          obtain ⟨m', ex, mb, rZ, mF, k1, k2, k3⟩ := ihn us aH fK (Has.sub h2 p1) p2
          exact ⟨max m m' + 1, ex, mb, rZ, mF, by simp only [exec, execStep, exec_up (Nat.le_max_left m m') h1]; exact exec_up (Nat.le_max_right m m') k1, k2, k3⟩
        | exit i =>
          obtain ⟨os, p1, p2⟩ := getL_some h3
          obtain ⟨mb, p3, p4⟩ := setL_some p2 (Has.sub h2 p1) (fun p v hp => by rw [T.get_e] at hp; cases hp)
          exact ⟨m + 1, .exit i, mb, fK, aH, by simp only [exec, execStep, h1], p3, p4⟩
        | ret =>
          obtain ⟨os, p1, p2⟩ := getL_some h3
          obtain ⟨mb, p3, p4⟩ := setL_some p2 (Has.sub h2 p1) (fun p v hp => by rw [T.get_e] at hp; cases hp)
          exact ⟨m + 1, .ret, mb, fK, aH, by simp only [exec, execStep, h1], p3, p4⟩
    exact main F vs st frx (Has.sub hs g1) g2
def resC : (H : Pos -> Option AB) -> Fr -> List ARV -> (List AV -> Option R) -> Option R
  | _, _, [], k => k []
  | H, fr, .tmp p :: rs, k => match fr.get p with
    | some v => resC H fr rs fun vs => k (v :: vs)
    | none => none
  | H, fr, .cell p n :: rs, k => match fr.get p with
    | some q => match (OpK.load n).run H .h [q] with
      | some (.val v) => resC H fr rs fun vs => k (v :: vs)
      | _ => none
    | none => none
theorem resC_some {H : Pos -> Option AB} {fr frx : Fr} (hs : Sub fr frx) : ∀ {rs : List ARV} {k : List AV -> Option R} {r : R}, resC H fr rs k = some r -> ∃ vs, resultsA H frx rs = some vs /\ k vs = some r
  | [], k, r, h => ⟨[], rfl, h⟩
  | .tmp p :: rs, k, r, h => by
    unfold resC at h
    cases hp : fr.get p with
    | none => simp [hp] at h
    | some v =>
      simp only [hp] at h
      obtain ⟨vs, h1, h2⟩ := resC_some hs h
      exact ⟨v :: vs, by unfold resultsA; simp only [hs _ _ hp, h1], h2⟩
  | .cell p n :: rs, k, r, h => by
    unfold resC at h
    cases hp : fr.get p with
    | none => simp [hp] at h
    | some q =>
      simp only [hp] at h
      split at h
      . rename_i v hv
        obtain ⟨vs, h1, h2⟩ := resC_some hs h
        exact ⟨v :: vs, by unfold resultsA; simp only [hs _ _ hp, hv, h1], h2⟩
      . cases h
def denF (c : CallA) (F : Nat) (L : Env (AV × St)) (A : AFunc) (s : Sh) (args : List AV) (st : St) : Option (AV × St) :=
  match Nat.beq args.length A.nparams with
  | true => den c F L A.code s (params 0 args .e) st fun ex fr st => match ex with
    | .normal => resC (fun b => st.heap.get b) fr A.results fun vs => some (packA vs, st)
    | .ret => resC (fun b => st.heap.get b) fr A.results fun vs => some (packA vs, st)
    | .exit _ => none
  | false => none
theorem denF_run {O : Oracle} {G : T AFunc} {F : Nat} {L : Env (AV × St)} {f : FuncId} {A : AFunc} {s : Sh} {args : List AV} {st : St} {r : AV × St} (ho : O f = none) (hF : G.get (key f) = some A)
    (hL : ∀ x ∈ loopsOf A.code s, GoodL (run O G) F L x.1 x.2) (h : denF (run O G) F L A s args st = some r) : run O G f args st = some (tidy st r) := by
  unfold denF at h
  split at h <;> first | (cases h; done) | skip
  rename_i hlen
  obtain ⟨n, ex, aq, aN, st', h1, h2, h3⟩ := den_sound A.code s (lpOk_of _ _ hL) (Sub.refl _) h
  refine run_body (n := n) ho hF ?_
  unfold bodyA
  simp only [hlen, h1]
  cases ex with
  | normal =>
    obtain ⟨vs, k1, k2⟩ := resC_some h2 h3
    simp only [k1]; exact k2
  | ret =>
    obtain ⟨vs, k1, k2⟩ := resC_some h2 h3
    simp only [k1]; exact k2
  | exit i => cases h3
end Go.Ai
end
section
noncomputable section
namespace Go.Ai
open Go
def nst (st : St) (b : AB) : St := { heap := st.heap.put (some b) st.next, next := st.next.succ }
def envOf {R : Type} : List (Nat × (LpK R -> Nat -> List AV -> St -> Option R)) -> Env R
  | [] => fun _ _ _ _ _ => none
  | (i, g) :: l => fun j K n => match Nat.beq i j with
    | true => g K n
    | false => envOf l j K n
def lpAt (A : AFunc) (s : Sh) (i : Nat) : AC × Sh := (loopsOf A.code s).getD i (.skip, .leaf)
theorem good_mk {R : Type} {c : CallA} {F : Nat} {L : Env R} {a : AC} {sh : Sh} {j : Nat} {ins : List Pos} {outs : List (Nat × List Pos)} {s : Sh} (hs : sh = .loop j ins outs s) (h0 : ∀ K' vs st, L j K' 0 vs st = none)
    (h1 : ∀ K' n vs st, L j K' (n + 1) vs st = lpBody (den c F L a s) ins outs K' (L j K' n) vs st) : GoodL c F L a sh := by
  subst hs; exact fun K' => ⟨h0 K', h1 K'⟩
theorem good_all {R : Type} {c : CallA} {F : Nat} {L : Env R} {A : AFunc} {s : Sh} (n : Nat) (hn : Nat.beq (loopsOf A.code s).length n = true) (h : ∀ i, i < n -> GoodL c F L (lpAt A s i).1 (lpAt A s i).2) :
    ∀ x ∈ loopsOf A.code s, GoodL c F L x.1 x.2 := by
  intro x hx
  obtain ⟨i, hi, he⟩ := List.mem_iff_getElem.1 hx
  have hn := Nat.eq_of_beq_eq_true hn
  have := h i (by omega)
  unfold lpAt at this
  rw [List.getD_eq_getElem?_getD, List.getElem?_eq_getElem hi] at this
  simp only [Option.getD_some, he] at this
  exact this
end Go.Ai
end
section
set_option linter.all false
namespace Go.Ai
open Go
theorem eqKind_self (k : IntKind) : eqKind k k = true := by cases k <;> rfl
theorem intEq_d (a b : Int) : intEq a b = decide (a = b) := by rw [intEq_eq]; rfl
theorem beqNats_d (a b : List Nat) : beqNats a b = decide (a = b) := by
  rw [Bool.eq_iff_iff, beqNats_eq]; simp
theorem wrap64 {x : Int} (h1 : -9223372036854775808 <= x) (h2 : x <= 9223372036854775807) : wrapI .i64 x = x := by
  unfold wrapI loI hiI
  simp only
  split
  . split
    . rfl
    . contradiction
  . contradiction
theorem wrap8 {x : Int} (h1 : 0 <= x) (h2 : x <= 255) : wrapI .u8 x = x := by
  unfold wrapI loI hiI
  simp only
  split
  . split
    . rfl
    . contradiction
  . contradiction
theorem asIx_nat (k : IntKind) (n : Nat) : asIx (.int k (n : Int)) = some n := id rfl
theorem ble_d (a b : Nat) : Nat.ble a b = decide (a <= b) := by
  apply Bool.eq_iff_iff.2; simp
theorem blt_d (a b : Nat) : Nat.blt a b = decide (a < b) := by
  apply Bool.eq_iff_iff.2; simp [Nat.blt, Nat.ble_eq]; omega
theorem beq_d (a b : Nat) : Nat.beq a b = decide (a = b) := by
  apply Bool.eq_iff_iff.2; simp
def optK {R : Type} (o : Option AV) (k : AV -> Option R) : Option R := match o with
  | some v => k v
  | none => none
def optL {R : Type} (o : Option (List AV)) (k : List AV -> Option R) : Option R := match o with
  | some v => k v
  | none => none
def optC {R : Type} (o : Option (AV × St)) (k : AV -> St -> Option R) : Option R := match o with
  | some (v, st) => k v st
  | none => none
section
variable {R : Type} (c : CallA) (K : AV -> St -> Option R) (K1 : AV -> Option R) (A B : Option R)
@[simp] theorem optK_some (v : AV) (k : AV -> Option R) : optK (some v) k = k v := id rfl
@[simp] theorem optL_some (v : List AV) (k : List AV -> Option R) : optL (some v) k = k v := id rfl
@[simp] theorem optC_some (v : AV) (st : St) (k : AV -> St -> Option R) : optC (some (v, st)) k = k v st := id rfl
@[simp] theorem cnd_t : cnd (.bool true) A B = A := id rfl
@[simp] theorem cnd_f : cnd (.bool false) A B = B := id rfl
@[simp] theorem un1_cons (v : AV) (vs : List AV) (k : AV -> List AV -> Option R) : un1 (v :: vs) k = k v vs := id rfl
@[simp] theorem nl1_nil (k : Option R) : nl1 [] k = k := id rfl
@[simp] theorem gst_hit (b : Bool) (k : OpK) (xs : List AV) (st : St) : gst c (.bool b) b k xs st K = stp c k xs st K := by cases b <;> exact id rfl
@[simp] theorem gst_tf (k : OpK) (xs : List AV) (st : St) : gst c (.bool true) false k xs st K = K .undef st := id rfl
@[simp] theorem gst_ft (k : OpK) (xs : List AV) (st : St) : gst c (.bool false) true k xs st K = K .undef st := id rfl
@[simp] theorem gst_un (b : Bool) (k : OpK) (xs : List AV) (st : St) : gst c .undef b k xs st K = K .undef st := id rfl
@[simp] theorem gpr_tf (k : OpK) (xs : List AV) : gpr (.bool true) false k xs K1 = K1 .undef := id rfl
@[simp] theorem gpr_ft (k : OpK) (xs : List AV) : gpr (.bool false) true k xs K1 = K1 .undef := id rfl
@[simp] theorem gpr_un (b : Bool) (k : OpK) (xs : List AV) : gpr .undef b k xs K1 = K1 .undef := id rfl
@[simp] theorem grd_tf (k : OpK) (xs : List AV) (h : T AB) (ok : AV -> Bool) : grd (.bool true) false k xs h ok K1 = K1 .undef := id rfl
@[simp] theorem grd_ft (k : OpK) (xs : List AV) (h : T AB) (ok : AV -> Bool) : grd (.bool false) true k xs h ok K1 = K1 .undef := id rfl
@[simp] theorem grd_un (b : Bool) (k : OpK) (xs : List AV) (h : T AB) (ok : AV -> Bool) : grd .undef b k xs h ok K1 = K1 .undef := id rfl
@[simp] theorem wnt_tf : wnt (.bool true) false A B = B := id rfl
@[simp] theorem wnt_ft : wnt (.bool false) true A B = B := id rfl
@[simp] theorem wnt_un (b : Bool) : wnt .undef b A B = B := id rfl
theorem stp_of {k : OpK} {xs : List AV} {o : Option AV} (h : ∀ H n, k.run H n xs = o.map .val) (st : St) : stp c k xs st K = optK o fun v => K v st := by
  unfold stp stepA; rw [h]; cases o <;> rfl
theorem prr_of {k : OpK} {xs : List AV} {o : Option AV} (h : ∀ H n, k.run H n xs = o.map .val) : prr k xs K1 = optK o K1 := by
  unfold prr; rw [h]; cases o <;> rfl
theorem stp_ofv {k : OpK} {xs : List AV} {v : AV} (h : ∀ H n, k.run H n xs = some (.val v)) (st : St) : stp c k xs st K = K v st := by
  unfold stp stepA; rw [h]
theorem prr_ofv {k : OpK} {xs : List AV} {v : AV} (h : ∀ H n, k.run H n xs = some (.val v)) : prr k xs K1 = K1 v := by
  unfold prr; rw [h]
theorem stp_callF (f : FuncId) (l : List AV) (st : St) : stp c (.callF f) l st K = optC (c f l st) K := by
  unfold stp stepA; show (match c f l st with | some (v, st') => K v st' | none => none) = _
  cases c f l st <;> rfl
attribute [simp] stp_callF
end
def cellsOf : Option AB -> Option (List AV)
  | some (.cells cs _) => some cs
  | some (.typed _ cs) => some cs
  | _ => none
@[simp] theorem cellsOf_typed (t : TypeId) (cs : List AV) : cellsOf (some (.typed t cs)) = some cs := id rfl
@[simp] theorem cellsOf_cells (cs : List AV) (f : Nat) : cellsOf (some (.cells cs f)) = some cs := id rfl
def ro (es : Nat) (z : Bool) (rs : List (List AV)) : AV := match z, rs with
  | true, [] => .nils
  | _, rs => .fl rs es
theorem ro_cons {es : Nat} {z : Bool} {rs : List (List AV)} (h : rs ≠ []) : ro es z rs = .fl rs es := by
  unfold ro; split
  . exact absurd rfl h
  . rfl
theorem run_move (H : Pos -> Option AB) (n : Pos) (x : AV) : OpK.run H n .move [x] = some (.val x) := rfl
@[simp] theorem stp_move {R : Type} (c : CallA) (K : AV -> St -> Option R) (st : St) (x : AV) : stp c .move [x] st K = K x st := stp_ofv c K (fun H n => run_move H n x) st
@[simp] theorem prr_move {R : Type} (K : AV -> Option R) (x : AV) : prr .move [x] K = K x := prr_ofv K (fun H n => run_move H n x)
theorem run_pick_t (H : Pos -> Option AB) (n : Pos) (x y : AV) : OpK.run H n .pick [.bool true, x, y] = some (.val x) := rfl
@[simp] theorem stp_pick_t {R : Type} (c : CallA) (K : AV -> St -> Option R) (st : St) (x y : AV) : stp c .pick [.bool true, x, y] st K = K x st := stp_ofv c K (fun H n => run_pick_t H n x y) st
theorem run_pick_f (H : Pos -> Option AB) (n : Pos) (x y : AV) : OpK.run H n .pick [.bool false, x, y] = some (.val y) := rfl
@[simp] theorem stp_pick_f {R : Type} (c : CallA) (K : AV -> St -> Option R) (st : St) (x y : AV) : stp c .pick [.bool false, x, y] st K = K y st := stp_ofv c K (fun H n => run_pick_f H n x y) st
theorem run_not (H : Pos -> Option AB) (n : Pos) (p : Bool) : OpK.run H n (.un .not) [.bool p] = some (.val (.bool (!p))) := rfl
@[simp] theorem stp_not {R : Type} (c : CallA) (K : AV -> St -> Option R) (st : St) (p : Bool) : stp c (.un .not) [.bool p] st K = K (.bool (!p)) st := stp_ofv c K (fun H n => run_not H n p) st
theorem run_lss (H : Pos -> Option AB) (n : Pos) (q : EqK) (k : IntKind) (a b : Int) : OpK.run H n (.bin .lss q) [.int k a, .int k b] = some (.val (.bool (decide (a < b)))) := by simp [OpK.run, runBin, binA, eqKind_self, intEq_d, intLt_eq, intLe_eq, beqNats_d]
@[simp] theorem stp_lss {R : Type} (c : CallA) (K : AV -> St -> Option R) (st : St) (q : EqK) (k : IntKind) (a b : Int) : stp c (.bin .lss q) [.int k a, .int k b] st K = K (.bool (decide (a < b))) st := stp_ofv c K (fun H n => run_lss H n q k a b) st
theorem run_gtr (H : Pos -> Option AB) (n : Pos) (q : EqK) (k : IntKind) (a b : Int) : OpK.run H n (.bin .gtr q) [.int k a, .int k b] = some (.val (.bool (decide (b < a)))) := by simp [OpK.run, runBin, binA, eqKind_self, intEq_d, intLt_eq, intLe_eq, beqNats_d]
@[simp] theorem stp_gtr {R : Type} (c : CallA) (K : AV -> St -> Option R) (st : St) (q : EqK) (k : IntKind) (a b : Int) : stp c (.bin .gtr q) [.int k a, .int k b] st K = K (.bool (decide (b < a))) st := stp_ofv c K (fun H n => run_gtr H n q k a b) st
theorem run_geq (H : Pos -> Option AB) (n : Pos) (q : EqK) (k : IntKind) (a b : Int) : OpK.run H n (.bin .geq q) [.int k a, .int k b] = some (.val (.bool (decide (b <= a)))) := by simp [OpK.run, runBin, binA, eqKind_self, intEq_d, intLt_eq, intLe_eq, beqNats_d]
@[simp] theorem stp_geq {R : Type} (c : CallA) (K : AV -> St -> Option R) (st : St) (q : EqK) (k : IntKind) (a b : Int) : stp c (.bin .geq q) [.int k a, .int k b] st K = K (.bool (decide (b <= a))) st := stp_ofv c K (fun H n => run_geq H n q k a b) st
theorem run_eql (H : Pos -> Option AB) (n : Pos) (q : EqK) (k : IntKind) (a b : Int) : OpK.run H n (.bin .eql q) [.int k a, .int k b] = some (.val (.bool (decide (a = b)))) := by simp [OpK.run, runBin, binA, eqKind_self, intEq_d, intLt_eq, intLe_eq, beqNats_d]
@[simp] theorem stp_eql {R : Type} (c : CallA) (K : AV -> St -> Option R) (st : St) (q : EqK) (k : IntKind) (a b : Int) : stp c (.bin .eql q) [.int k a, .int k b] st K = K (.bool (decide (a = b))) st := stp_ofv c K (fun H n => run_eql H n q k a b) st
theorem run_neq (H : Pos -> Option AB) (n : Pos) (q : EqK) (k : IntKind) (a b : Int) : OpK.run H n (.bin .neq q) [.int k a, .int k b] = some (.val (.bool (!decide (a = b)))) := by simp [OpK.run, runBin, binA, eqKind_self, intEq_d, intLt_eq, intLe_eq, beqNats_d]
@[simp] theorem stp_neq {R : Type} (c : CallA) (K : AV -> St -> Option R) (st : St) (q : EqK) (k : IntKind) (a b : Int) : stp c (.bin .neq q) [.int k a, .int k b] st K = K (.bool (!decide (a = b))) st := stp_ofv c K (fun H n => run_neq H n q k a b) st
theorem run_add (H : Pos -> Option AB) (n : Pos) (q : EqK) (k : IntKind) (a b : Int) : OpK.run H n (.bin .add q) [.int k a, .int k b] = some (.val (.int k (wrapI k (a + b)))) := by simp [OpK.run, runBin, binA, eqKind_self, intEq_d, intLt_eq, intLe_eq, beqNats_d]
@[simp] theorem stp_add {R : Type} (c : CallA) (K : AV -> St -> Option R) (st : St) (q : EqK) (k : IntKind) (a b : Int) : stp c (.bin .add q) [.int k a, .int k b] st K = K (.int k (wrapI k (a + b))) st := stp_ofv c K (fun H n => run_add H n q k a b) st
@[simp] theorem prr_add {R : Type} (K : AV -> Option R) (q : EqK) (k : IntKind) (a b : Int) : prr (.bin .add q) [.int k a, .int k b] K = K (.int k (wrapI k (a + b))) := prr_ofv K (fun H n => run_add H n q k a b)
theorem run_seql (H : Pos -> Option AB) (n : Pos) (q : EqK) (s t : List Nat) : OpK.run H n (.bin .eql q) [.str s, .str t] = some (.val (.bool (decide (s = t)))) := by simp [OpK.run, runBin, binA, eqKind_self, intEq_d, intLt_eq, intLe_eq, beqNats_d]
@[simp] theorem stp_seql {R : Type} (c : CallA) (K : AV -> St -> Option R) (st : St) (q : EqK) (s t : List Nat) : stp c (.bin .eql q) [.str s, .str t] st K = K (.bool (decide (s = t))) st := stp_ofv c K (fun H n => run_seql H n q s t) st
theorem run_sneq (H : Pos -> Option AB) (n : Pos) (q : EqK) (s t : List Nat) : OpK.run H n (.bin .neq q) [.str s, .str t] = some (.val (.bool (!decide (s = t)))) := by simp [OpK.run, runBin, binA, eqKind_self, intEq_d, intLt_eq, intLe_eq, beqNats_d]
@[simp] theorem stp_sneq {R : Type} (c : CallA) (K : AV -> St -> Option R) (st : St) (q : EqK) (s t : List Nat) : stp c (.bin .neq q) [.str s, .str t] st K = K (.bool (!decide (s = t))) st := stp_ofv c K (fun H n => run_sneq H n q s t) st
theorem run_lenS (H : Pos -> Option AB) (n : Pos) (s : List Nat) : OpK.run H n (.lenB .s) [.str s] = some (.val (.int .i64 (s.length : Int))) := rfl
@[simp] theorem stp_lenS {R : Type} (c : CallA) (K : AV -> St -> Option R) (st : St) (s : List Nat) : stp c (.lenB .s) [.str s] st K = K (.int .i64 (s.length : Int)) st := stp_ofv c K (fun H n => run_lenS H n s) st
theorem run_lenR (H : Pos -> Option AB) (n : Pos) (es : Nat) (z : Bool) (rs : List (List AV)) : OpK.run H n (.lenB .l) [ro es z rs] = some (.val (.int .i64 (rs.length : Int))) := by unfold ro; split <;> rfl
@[simp] theorem stp_lenR {R : Type} (c : CallA) (K : AV -> St -> Option R) (st : St) (es : Nat) (z : Bool) (rs : List (List AV)) : stp c (.lenB .l) [ro es z rs] st K = K (.int .i64 (rs.length : Int)) st := stp_ofv c K (fun H n => run_lenR H n es z rs) st
theorem run_conv (H : Pos -> Option AB) (n : Pos) (k k2 : IntKind) (a : Int) : OpK.run H n (.conv (.int k)) [.int k2 a] = some (.val (.int k (wrapI k a))) := rfl
@[simp] theorem stp_conv {R : Type} (c : CallA) (K : AV -> St -> Option R) (st : St) (k k2 : IntKind) (a : Int) : stp c (.conv (.int k)) [.int k2 a] st K = K (.int k (wrapI k a)) st := stp_ofv c K (fun H n => run_conv H n k k2 a) st
theorem run_idxS (H : Pos -> Option AB) (n : Pos) (k : IntKind) (s : List Nat) (i : Nat) : OpK.run H n .idxS [.str s, .int k (i : Int)] = ((s[i]?.map fun c => .int .u8 (c : Int)) : Option AV).map .val := by simp only [OpK.run, runIdxS, asIx_nat, nth_eq]; cases s[i]? <;> rfl
@[simp] theorem stp_idxS {R : Type} (c : CallA) (K : AV -> St -> Option R) (st : St) (k : IntKind) (s : List Nat) (i : Nat) : stp c .idxS [.str s, .int k (i : Int)] st K = optK (s[i]?.map fun c => .int .u8 (c : Int)) fun v => K v st := stp_of c K (fun H n => run_idxS H n k s i) st
theorem run_fieldA_p (H : Pos -> Option AB) (n : Pos) (off : Nat) (p : Pos) (o : Nat) : OpK.run H n (.fieldA off) [.ptr p o] = some (.val (.ptr p (o + off))) := rfl
@[simp] theorem stp_fieldA_p {R : Type} (c : CallA) (K : AV -> St -> Option R) (st : St) (off : Nat) (p : Pos) (o : Nat) : stp c (.fieldA off) [.ptr p o] st K = K (.ptr p (o + off)) st := stp_ofv c K (fun H n => run_fieldA_p H n off p o) st
@[simp] theorem prr_fieldA_p {R : Type} (K : AV -> Option R) (off : Nat) (p : Pos) (o : Nat) : prr (.fieldA off) [.ptr p o] K = K (.ptr p (o + off)) := prr_ofv K (fun H n => run_fieldA_p H n off p o)
theorem run_extract (H : Pos -> Option AB) (n : Pos) (i : Nat) (l : List AV) : OpK.run H n (.extract i) [.tuple l] = (l[i]? : Option AV).map .val := by simp only [OpK.run, runExtract, nth_eq]; cases l[i]? <;> rfl
@[simp] theorem stp_extract {R : Type} (c : CallA) (K : AV -> St -> Option R) (st : St) (i : Nat) (l : List AV) : stp c (.extract i) [.tuple l] st K = optK l[i]? fun v => K v st := stp_of c K (fun H n => run_extract H n i l) st
theorem run_nilCheck_p (H : Pos -> Option AB) (n : Pos) (p : Pos) (o : Nat) : OpK.run H n .nilCheck [.ptr p o] = some (.val (.ptr p o)) := rfl
@[simp] theorem stp_nilCheck_p {R : Type} (c : CallA) (K : AV -> St -> Option R) (st : St) (p : Pos) (o : Nat) : stp c .nilCheck [.ptr p o] st K = K (.ptr p o) st := stp_ofv c K (fun H n => run_nilCheck_p H n p o) st
@[simp] theorem prr_nilCheck_p {R : Type} (K : AV -> Option R) (p : Pos) (o : Nat) : prr .nilCheck [.ptr p o] K = K (.ptr p o) := prr_ofv K (fun H n => run_nilCheck_p H n p o)
theorem run_idxA (H : Pos -> Option AB) (n : Pos) (es : Nat) (z : Bool) (rs : List (List AV)) (k : IntKind) (i : Nat) : OpK.run H n (.idxA es none) [ro es z rs, .int k (i : Int)] = ((if i < rs.length then some (.fp rs i 0) else none) : Option AV).map .val := by
  by_cases h : i < rs.length
  . rw [ro_cons (by intro e; subst e; simp at h)]
    simp [OpK.run, runIdxA, asIx_nat, blt_d, beq_d, h]
  . unfold ro; split
    . rfl
    . simp [OpK.run, runIdxA, asIx_nat, blt_d, beq_d, h]
@[simp] theorem stp_idxA {R : Type} (c : CallA) (K : AV -> St -> Option R) (st : St) (es : Nat) (z : Bool) (rs : List (List AV)) (k : IntKind) (i : Nat) : stp c (.idxA es none) [ro es z rs, .int k (i : Int)] st K = optK (if i < rs.length then some (.fp rs i 0) else none) fun v => K v st := stp_of c K (fun H n => run_idxA H n es z rs k i) st
@[simp] theorem prr_idxA {R : Type} (K : AV -> Option R) (es : Nat) (z : Bool) (rs : List (List AV)) (k : IntKind) (i : Nat) : prr (.idxA es none) [ro es z rs, .int k (i : Int)] K = optK (if i < rs.length then some (.fp rs i 0) else none) K := prr_of K (fun H n => run_idxA H n es z rs k i)
section
variable {R : Type} (c : CallA) (K : AV -> St -> Option R) (K1 : AV -> Option R)
theorem run_loadN_f (H : Pos -> Option AB) (n : Pos) (m : Nat) (xs : List (List AV)) (i j : Nat) : OpK.run H n (.load (some m)) [.fp xs i j] = ((xs[i]?.bind fun cs => cut cs j m).map .agg).map .val := by
  simp only [OpK.run, runLoad, nth_eq]
  cases xs[i]? with
  | none => rfl
  | some cs => simp only [Option.bind_some]; cases cut cs j m <;> rfl
theorem run_load_p (H : Pos -> Option AB) (n : Pos) (p : Pos) (o : Nat) : OpK.run H n (.load none) [.ptr p o] = ((cellsOf (H p)).bind fun cs => cs[o]?).map .val := by
  simp only [OpK.run, runLoad, nth_eq]
  cases H p with
  | none => rfl
  | some x => cases x <;> simp only [cellsOf, Option.bind_some, Option.bind_none] <;> try rfl
              all_goals first | (rename_i cs _; cases cs[o]? <;> rfl) | (rename_i _ cs; cases cs[o]? <;> rfl)
theorem run_loadN_p (H : Pos -> Option AB) (n : Pos) (m : Nat) (p : Pos) (o : Nat) : OpK.run H n (.load (some m)) [.ptr p o] = (((cellsOf (H p)).bind fun cs => cut cs o m).map .agg).map .val := by
  simp only [OpK.run, runLoad]
  cases H p with
  | none => rfl
  | some x => cases x <;> simp only [cellsOf, Option.bind_some, Option.bind_none] <;> try rfl
              all_goals first | (rename_i cs _; cases cut cs o m <;> rfl) | (rename_i _ cs; cases cut cs o m <;> rfl)
@[simp] theorem stp_loadN_f (st : St) (m : Nat) (xs : List (List AV)) (i j : Nat) : stp c (.load (some m)) [.fp xs i j] st K = optL (xs[i]?.bind fun cs => cut cs j m) fun l => K (.agg l) st := by
  rw [stp_of c K (fun H n => run_loadN_f H n m xs i j) st]; cases (xs[i]?.bind fun cs => cut cs j m) <;> rfl
@[simp] theorem stp_load_p (st : St) (p : Pos) (o : Nat) : stp c (.load none) [.ptr p o] st K = optK ((cellsOf (st.heap.get p)).bind fun cs => cs[o]?) fun v => K v st := by
  unfold stp stepA; rw [run_load_p]; cases ((cellsOf (st.heap.get p)).bind fun cs => cs[o]?) <;> rfl
@[simp] theorem stp_loadN_p (st : St) (m : Nat) (p : Pos) (o : Nat) : stp c (.load (some m)) [.ptr p o] st K = optL ((cellsOf (st.heap.get p)).bind fun cs => cut cs o m) fun l => K (.agg l) st := by
  unfold stp stepA; rw [run_loadN_p]; cases ((cellsOf (st.heap.get p)).bind fun cs => cut cs o m) <;> rfl
@[simp] theorem rdd_loadN_f (h : T AB) (m : Nat) (xs : List (List AV)) (i j : Nat) : rdd (.load (some m)) [.fp xs i j] h (fun _ => true) K1 = optL (xs[i]?.bind fun cs => cut cs j m) fun l => K1 (.agg l) := by
  unfold rdd; rw [run_loadN_f, run_loadN_f]
  cases hx : (xs[i]?.bind fun cs => cut cs j m) <;> rfl
@[simp] theorem rdd_load_p (h : T AB) (p : Pos) (o : Nat) : rdd (.load none) [.ptr p o] h (fun _ => true) K1 = optK ((cellsOf (h.get p)).bind fun cs => cs[o]?) K1 := by
  unfold rdd; rw [run_load_p, run_load_p]
  show (match ((cellsOf (h.get p)).bind fun cs => cs[o]?).map ARes.val with | some (.val v) => _ | _ => _) = _
  cases ((cellsOf (h.get p)).bind fun cs => cs[o]?) <;> rfl
@[simp] theorem rdd_loadN_p (h : T AB) (m : Nat) (p : Pos) (o : Nat) : rdd (.load (some m)) [.ptr p o] h (fun _ => true) K1 = optL ((cellsOf (h.get p)).bind fun cs => cut cs o m) fun l => K1 (.agg l) := by
  unfold rdd; rw [run_loadN_p, run_loadN_p]
  show (match (((cellsOf (h.get p)).bind fun cs => cut cs o m).map AV.agg).map ARes.val with | some (.val v) => _ | _ => _) = _
  cases ((cellsOf (h.get p)).bind fun cs => cut cs o m) <;> rfl
theorem run_build (H : Pos -> Option AB) (n : Pos) (z : List AV) (ps : List (Nat × Nat)) (xs : List AV) : OpK.run H n (.build z ps) xs = ((fillA z ps xs).map .agg).map .val := by
  simp only [OpK.run, runBuild]; cases fillA z ps xs <;> rfl
@[simp] theorem stp_build (st : St) (z : List AV) (ps : List (Nat × Nat)) (xs : List AV) : stp c (.build z ps) xs st K = optL (fillA z ps xs) fun l => K (.agg l) st := by
  rw [stp_of c K (fun H n => run_build H n z ps xs) st]; cases fillA z ps xs <;> rfl
theorem cut_all {α : Type} {l : List α} {m : Nat} (h : l.length = m) : cut l 0 m = some l := by
  unfold cut
  rw [ble_d, decide_eq_true (by omega)]
  simp only [List.drop_zero]
  rw [List.take_of_length_le (by omega)]
end
end Go.Ai
namespace Go.Ai
open Go
def Wf (st : St) : Prop := ∀ p x, st.heap.get p = some x -> p.toNat < st.next.toNat
theorem nst_next (st : St) (b : AB) : (nst st b).next = st.next.succ := id rfl
@[simp] theorem wf_nst {st : St} {b : AB} (h : Wf st) : Wf (nst st b) := fun p x hp => by
  rw [nst_next, Pos.toNat_succ]
  by_cases e : st.next = p
  . subst e; omega
  . have := h p x (by rwa [nst, T.get_put_ne _ e] at hp)
    omega
@[simp] theorem get_nst (st : St) (b : AB) : (nst st b).heap.get st.next = some b := T.get_put _ _ _
theorem get_nst_old {st : St} {b : AB} {p : Pos} (h : p.toNat < st.next.toNat) : (nst st b).heap.get p = st.heap.get p := by
  rw [nst, T.get_put_ne _ (by intro e; subst e; omega)]
@[simp] theorem get_nst_old1 {st : St} {a b : AB} : (nst (nst st a) b).heap.get st.next = some a := by
  rw [get_nst_old (by rw [nst_next, Pos.toNat_succ]; omega), get_nst]
theorem keeps_nst {st : St} {b : AB} (h : Wf st) : Keeps st (nst st b) := fun p x hp => by
  rw [get_nst_old (h p x hp)]; exact hp
theorem tidy_eq {st st' : St} {v : AV} (hv : Plain v) (hk : Keeps st st') : tidy st (v, st') = (v, st) := by
  unfold tidy; rw [if_pos ⟨hv, hk⟩]
section
variable {R : Type} (c : CallA) (K : AV -> St -> Option R)
@[simp] theorem stp_box (x : AV) (st : St) : stp c .box [x] st K = K (.ptr st.next 0) (nst st (.cells x.cells 0)) := id rfl
@[simp] theorem stp_alloc (l : List AV) (st : St) : stp c (.alloc l) [] st K = K (.ptr st.next 0) (nst st (.cells l 0)) := id rfl
end
theorem T.put_same {α : Type} (x y : Option α) : ∀ (p : Pos) (t : T α), T.put x p (T.put y p t) = T.put x p t
  | .h, .e => rfl
  | .h, .n _ _ _ => rfl
  | .o p, .e => by simp only [T.put]; rw [T.put_same x y p]
  | .o p, .n _ _ _ => by simp only [T.put]; rw [T.put_same x y p]
  | .i p, .e => by simp only [T.put]; rw [T.put_same x y p]
  | .i p, .n _ _ _ => by simp only [T.put]; rw [T.put_same x y p]
def stt (st : St) (p : Pos) (b : AB) : St := { heap := st.heap.put (some b) p, next := st.next }
@[simp] theorem stt_next (st : St) (p : Pos) (b : AB) : (stt st p b).next = st.next := id rfl
@[simp] theorem get_stt (st : St) (p : Pos) (b : AB) : (stt st p b).heap.get p = some b := T.get_put _ _ _
theorem get_stt_ne {st : St} {p q : Pos} {b : AB} (h : p ≠ q) : (stt st p b).heap.get q = st.heap.get q := T.get_put_ne _ h _
@[simp] theorem stt_nst (st : St) (a b : AB) : stt (nst st a) st.next b = nst st b := by
  unfold stt nst; simp only [T.put_same]
@[simp] theorem get_nst_old2 {st : St} {a b d : AB} : (nst (nst (nst st a) b) d).heap.get st.next = some a := by
  rw [get_nst_old (by simp only [nst_next, Pos.toNat_succ]; omega), get_nst_old1]
theorem stp_store {R : Type} (c : CallA) (K : AV -> St -> Option R) (st : St) (m : Nat) (p : Pos) (o : Nat) (v : AV) (cs : List AV) (h : st.heap.get p = some (.cells cs 0)) (h1 : v.cells.length = m) (h2 : o + m <= cs.length) (h3 : allOne v.cells = true) :
    stp c (.store m) [.ptr p o, v] st K = K .undef (stt st p (.cells (splice cs o v.cells) 0)) := by
  have : OpK.run (fun b => st.heap.get b) st.next (.store m) [.ptr p o, v] = some (.eff .undef none (some (p, .cells (splice cs o v.cells) 0)) none) := by
    simp [OpK.run, runStore, h, h1, h2, h3, beq_d, ble_d]
  unfold stp stepA; rw [this]; rfl
@[simp] theorem stp_store_new {R : Type} (c : CallA) (K : AV -> St -> Option R) (st : St) (m : Nat) (v : AV) (cs : List AV) (h1 : v.cells.length = m) (h2 : m = cs.length) (h3 : allOne v.cells = true) :
    stp c (.store m) [.ptr st.next 0, v] (nst st (.cells cs 0)) K = K .undef (nst st (.cells v.cells 0)) := by
  rw [stp_store c K _ m st.next 0 v cs (get_nst _ _) h1 (by omega) h3, stt_nst]
  have : splice cs 0 v.cells = v.cells := by unfold splice; rw [h1, h2]; simp
  rw [this]
@[simp] theorem one_ro (es : Nat) (z : Bool) (rs : List (List AV)) : (ro es z rs).one = true := by unfold ro; split <;> rfl
theorem Plain.ro {es : Nat} {z : Bool} {rs : List (List AV)} (h : ∀ cs ∈ rs, ∀ v ∈ cs, Plain v) : Plain (ro es z rs) := by
  unfold Go.Ai.ro; split
  . exact Plain.nils
  . exact Plain.fl h
structure Grew (s s' : St) : Prop where
  wf : Wf s'
  keeps : Keeps s s'
  next : s.next.toNat <= s'.next.toNat
theorem Grew.refl {s : St} (h : Wf s) : Grew s s := ⟨h, Keeps.refl s, Nat.le_refl _⟩
theorem Grew.trans {a b c : St} (h : Grew a b) (k : Grew b c) : Grew a c := ⟨k.wf, h.keeps.trans k.keeps, Nat.le_trans h.next k.next⟩
theorem Grew.nst {s : St} (h : Wf s) (b : AB) : Grew s (nst s b) := ⟨wf_nst h, keeps_nst h, by rw [nst_next, Pos.toNat_succ]; omega⟩
theorem Grew.get {s s' : St} (h : Grew s s') {p : Pos} {x : AB} (hp : s.heap.get p = some x) : s'.heap.get p = some x := h.keeps p x hp
end Go.Ai
end
section
set_option linter.all false
namespace Go.Ai
open Go
theorem wf_stt {st : St} {p : Pos} {b : AB} (h : Wf st) (hp : p.toNat < st.next.toNat) : Wf (stt st p b) := fun q x hq => by
  rw [stt_next]
  by_cases e : p = q
  . subst e; exact hp
  . rw [get_stt_ne e] at hq; exact h q x hq
def dst (st : St) (p : Pos) (b : AB) : St := { heap := (st.heap.put none p).put (some b) st.next, next := st.next.succ }
theorem dst_next (st : St) (p : Pos) (b : AB) : (dst st p b).next = st.next.succ := id rfl
theorem get_dst (st : St) (p : Pos) (b : AB) : (dst st p b).heap.get st.next = some b := T.get_put _ _ _
theorem get_dst_ne {st : St} {p q : Pos} {b : AB} (h : p ≠ q) (h2 : q.toNat < st.next.toNat) : (dst st p b).heap.get q = st.heap.get q := by
  rw [dst, T.get_put_ne _ (by intro e; subst e; omega), T.get_put_ne _ h]
theorem wf_dst {st : St} {p : Pos} {b : AB} (h : Wf st) : Wf (dst st p b) := fun q x hq => by
  rw [dst_next, Pos.toNat_succ]
  by_cases e : st.next = q
  . subst e; omega
  . rw [dst, T.get_put_ne _ e] at hq
    by_cases e2 : p = q
    . subst e2; rw [T.get_put] at hq; cases hq
    . rw [T.get_put_ne _ e2] at hq; have := h q x hq; omega
section
variable {R : Type} (c : CallA) (K : AV -> St -> Option R) (K1 : AV -> Option R)
theorem run_bslice (H : Pos -> Option AB) (n : Pos) (es len : Nat) (z : List AV) (ps : List Nat) (xs : List AV) : OpK.run H n (.buildSlice es len z ps) xs = (fillA (repeatL z len) (ps.map fun i => (i * es, es)) xs).map fun cs => .eff (.slice n 0 len (some len) es) none none (some (.cells cs 0)) := by
  simp only [OpK.run, runBuildSlice]; cases fillA (repeatL z len) (ps.map fun i => (i * es, es)) xs <;> rfl
@[simp] theorem stp_bslice (st : St) (es len : Nat) (z : List AV) (ps : List Nat) (xs : List AV) : stp c (.buildSlice es len z ps) xs st K = optL (fillA (repeatL z len) (ps.map fun i => (i * es, es)) xs) fun cs => K (.slice st.next 0 len (some len) es) (nst st (.cells cs 0)) := by
  unfold stp stepA; rw [run_bslice]; cases fillA (repeatL z len) (ps.map fun i => (i * es, es)) xs <;> rfl
@[simp] theorem nww_bslice (st : St) (es len : Nat) (z : List AV) (ps : List Nat) (xs : List AV) (K2 : AV -> AB -> Option R) : nww (.buildSlice es len z ps) xs st K2 = optL (fillA (repeatL z len) (ps.map fun i => (i * es, es)) xs) fun cs => K2 (.slice st.next 0 len (some len) es) (.cells cs 0) := by
  unfold nww; rw [run_bslice]; cases fillA (repeatL z len) (ps.map fun i => (i * es, es)) xs <;> rfl
@[simp] theorem stp_mkMap (st : St) : stp c .mkMap [] st K = K (.map st.next) (nst st (.map [] 0)) := id rfl
theorem stp_app0 {st : St} {es bytes m : Nat} {x : AV} {new : List AV} (hm : lenA x = some m) (h0 : m ≠ 0) (hb : (2 * (0 + m) + 768) * bytes <= 281474976710656) (hs : 0 + m <= 9223372036854775807) (hx : firstA es m (fun b => st.heap.get b) x = some new) :
    stp c (.append es bytes) [.nils, x] st K = K (.slice st.next 0 m none es) (nst st (.cells new 0)) := by
  have : OpK.run (fun b => st.heap.get b) st.next (.append es bytes) [.nils, x] = some (.eff (.slice st.next 0 m none es) none none (some (.cells new 0))) := by
    simp only [OpK.run, runAppend]
    rw [show lenA .nils = some 0 from rfl, hm]
    simp only [ble_d, beq_d, decide_eq_true hb, decide_eq_true hs, decide_eq_false h0, hx]
  unfold stp stepA; rw [this]; rfl
theorem rdd_chk {p : Pos} {o : Nat} {h h2 : T AB} {v : AV} (hv : ((cellsOf (h.get p)).bind fun cs => cs[o]?) = some v) (oP : ((cellsOf (h2.get p)).bind fun cs => cs[o]?) = some v) (hb : beqAV v v = true) :
    rdd (.load none) [.ptr p o] h (fun v => readsAs (.load none) [.ptr p o] v (putUp [] h2) && true) K1 = K1 v := by
  unfold rdd
  have e : OpK.run (fun _ => none) .h (.load none) [.ptr p o] = none := rfl
  rw [e]
  simp only
  rw [run_load_p, hv]
  simp only [Option.map_some]
  have : readsAs (.load none) [.ptr p o] v (putUp [] h2) = true := by
    unfold readsAs
    show (match OpK.run (fun b => h2.get b) .h (.load none) [.ptr p o] with | some (.val u) => beqAV u v | _ => false) = true
    rw [run_load_p, oP]; exact hb
  rw [this]; rfl
end
theorem rdd_chk' {R : Type} (K1 : AV -> Option R) {p : Pos} {o : Nat} {h h2 : T AB} {v : AV} (hv : ((cellsOf (h.get p)).bind fun cs => cs[o]?) = some v) (oP : ((cellsOf (h2.get p)).bind fun cs => cs[o]?) = some v) (hb : beqAV v v = true) :
    rdd (.load none) [.ptr p o] h (fun v => readsAs (.load none) [.ptr p o] v (putUp [] h2)) K1 = K1 v := by
  have := rdd_chk K1 hv oP hb
  simp only [Bool.and_true] at this; exact this
end Go.Ai
end
section
namespace Go.Ai
inductive Selfs : Nat -> AV -> Prop
  | flat {d : Nat} {v : AV} (h : beqFlat v v = true) : Selfs d v
  | fl {d : Nat} {a : List (List AV)} {n : Nat} (h : ∀ r ∈ a, ∀ v ∈ r, Selfs d v) : Selfs (d + 1) (.fl a n)
theorem beqBy_self {f : AV -> AV -> Bool} : ∀ {a : List AV}, (∀ v ∈ a, f v v = true) -> beqBy f a a = true
  | [], _ => rfl
  | a :: x, h => by
    simp only [beqBy, h a (by simp), beqBy_self (fun v hv => h v (List.mem_cons_of_mem _ hv)), Bool.and_self]
theorem beqRows_self {f : AV -> AV -> Bool} : ∀ {a : List (List AV)}, (∀ r ∈ a, ∀ v ∈ r, f v v = true) -> beqRows f a a = true
  | [], _ => rfl
  | a :: x, h => by
    simp only [beqRows, beqBy_self (h a (by simp)), beqRows_self (fun v hv => h v (List.mem_cons_of_mem _ hv)), Bool.and_self]
theorem beqFl_self : ∀ {d : Nat} {v : AV}, Selfs d v -> beqFl d v v = true
  | d, v, .flat h => by
    unfold beqFl; split
    . simp [beqFlat] at h
    . exact h
  | d + 1, .fl a n, .fl h => by
    unfold beqFl
    simp [beqRows_self (fun r hr v hv => beqFl_self (h r hr v hv))]
theorem Selfs.ro {d es : Nat} {z : Bool} {rs : List (List AV)} (h : ∀ r ∈ rs, ∀ v ∈ r, Selfs d v) : Selfs (d + 1) (ro es z rs) := by
  unfold Go.Ai.ro; split
  . exact .flat rfl
  . exact .fl h
theorem beq_selfs {v : AV} (h : Selfs 3 v) : beqAV v v = true := by
  have h3 := beqFl_self h
  cases h with
  | flat h =>
    cases v <;> simp [beqFlat] at h <;> first | simp [beqAV, beqDeep, beqFlat, h] | skip
    all_goals simp_all [beqAV, beqDeep, beqFlat]
  | fl h => exact h3
theorem Selfs.int {d : Nat} (k : IntKind) (n : Int) : Selfs d (.int k n) := .flat (by simp [beqFlat, intEq_eq, eqKind_self])
theorem Selfs.str {d : Nat} (s : List Nat) : Selfs d (.str s) := .flat (by simp [beqFlat, beqNats_eq])
theorem Selfs.bool {d : Nat} (s : Bool) : Selfs d (.bool s) := .flat (by simp [beqFlat])
end Go.Ai
end
section
namespace Go.Ai
open Go
section
variable {H : Type} (enc : TypeId × Value -> H) (P : Program) (w : World) (base : Nat) (spare : Nat -> Bool) (held : Bool)
def Opens (t : TypeId) (Q : List AV -> Prop) : Prop :=
  ∀ (fuel : Nat) (cs : List Value) (x : DataW H × List MemPlace), DataW.trod enc P w base spare held fuel t cs = some x ->
    ∃ as, Q as /\ ∀ ρ n, VsRel ρ n (fun ad => w.cell? ad) as cs
variable {enc P w base spare held}
theorem Opens.mono {t : TypeId} {Q Q' : List AV -> Prop} (h : Opens enc P w base spare held t Q) (k : ∀ as, Q as -> Q' as) : Opens enc P w base spare held t Q' :=
  fun fuel cs x hx => by obtain ⟨as, h1, h2⟩ := h fuel cs x hx; exact ⟨as, k _ h1, h2⟩
theorem opens_int {t : TypeId} {k : IntKind} (ht : P.underlying t = some (.int k)) : Opens enc P w base spare held t fun as => ∃ i, as = [.int k i] /\ (Lit.int k i).wf = true :=
  fun fuel cs x hx => by
    obtain ⟨n, rfl, h⟩ := DataW.trod_int ht hx
    exact ⟨_, ⟨n, rfl, h.2⟩, fun ρ m => VsRel.cons (.int k n) VsRel.nil⟩
def Contig (P : Program) (yx : Nat) : Nat -> List Field -> Bool
  | o, [] => o == yx
  | o, f :: fs => f.offset == o && Contig P yx (o + P.cellsOf f.type) fs
def fieldsOf (P : Program) (t : TypeId) : List Field := match P.underlying t with
  | some (.struct fs) => fs.toList
  | _ => []
def isStruct (P : Program) (t : TypeId) : Bool := match P.underlying t with
  | some (.struct _) => true
  | _ => false
end
end Go.Ai
end
section
namespace Go.Ai
open Go
def Quiet (w w' : World) : Prop := w'.os = w.os /\ w'.tape = w.tape /\ w'.output = w.output /\ w.heap.size <= w'.heap.size /\ ∀ k, k < w.heap.size -> w'.heap[k]? = w.heap[k]?
def trueS : List AV -> St -> Option (AV × St)
  | [], st => some (.bool true, st)
  | _, _ => none
theorem true_fnOk {P : Program} {C : Cells} {f : FuncId} {fn : Func} {c : Code} (hf : P.funcs[f]? = some fn) (ek : ¬ fn.name = "runtime.NumGoroutine") (hb : fn.body = some c)
    (h : ∀ w : World, (∀ ad u, C ad = some u -> w.cell? ad = some u) -> Calls P f #[] w fun e w' => e = .returned (.bool true) /\ Quiet w w') : FnOk P C f trueS where
  mono args st v st' hs := by
    unfold trueS at hs
    split at hs <;> first | (cases hs; done) | skip
    simp only [Option.some.injEq, Prod.mk.injEq] at hs
    rw [<- hs.2]; exact Nat.le_refl _
  runs ρ st w args v st' ay hs hW hv := by
    unfold trueS at hs
    split at hs <;> first | (cases hs; done) | skip
    simp only [Option.some.injEq, Prod.mk.injEq] at hs
    obtain ⟨rfl, rfl⟩ := hs
    obtain rfl := hv.nil_inv
    have aB : (callFunc f ([] : List Value).toArray).run P w = .ok (.enter f #[]) w := by simp [callFunc, hf, ek, hb]
    rw [aB]
    refine Calls.mono (h w fun ad u ha => (hW.froz ad u ha).1) fun e w' he => ?_
    obtain ⟨rfl, h1, h2, h3, h4, h5⟩ := he
    exact ⟨ρ, .bool true, fun _ _ => rfl, Nat.le_refl _, hW.grow h4 h5, ⟨h1, h2, h3, h4, fun k hk _ => h5 k hk, fun b x hb => .inl ⟨b, x, hb, rfl⟩⟩⟩
theorem sem_bool {P : Program} {C : Cells} {call : CallA} {f : FuncId} {fn : Func} {c : Code} {args : List AV} {ay : List Value} {b : Bool} {n0 : Pos} {aH : St} {w : World}
    (bf : CallOk P C call) (hC : ∀ ad v, C ad = some v -> w.cell? ad = some v) (rX : ∀ a v, C a = some v -> ∀ o, C ⟨a.block, o, none⟩ = none -> w.cell? ⟨a.block, o, none⟩ = none) (hf : P.funcs[f]? = some fn) (ek : ¬ fn.name = "runtime.NumGoroutine") (hb : fn.body = some c)
    (ha : VsRel (fun _ => ⟨0, 0, 0⟩) n0.toNat C args ay) (h : call f args { heap := .e, next := n0 } = some (.bool b, aH)) :
    Calls P f ay.toArray w fun e w' => e = .returned (.bool b) /\ Quiet w w' := by
  have hr := bf (fun _ => ⟨0, 0, 0⟩) { heap := .e, next := n0 } w f args (.bool b) aH ay h (empty_rel hC rX) ha
  have aB : (callFunc f ay.toArray).run P w = .ok (.enter f ay.toArray) w := by simp [callFunc, hf, ek, hb]
  rw [aB] at hr
  refine Calls.mono hr fun e w' he => ?_
  cases e with
  | returned x =>
    obtain ⟨ρ', h1, _, _, _, hE⟩ := he
    have := h1.bool_inv; subst this
    exact ⟨rfl, hE.os, hE.tape, hE.output, hE.size, fun k hk => hE.block k hk fun b x hb => by rw [T.get_e] at hb; cases hb⟩
  | panicked c => exact he.elim
  | outgrown => exact he.elim
end Go.Ai
end
section
namespace Go.Ai
open Go Go.ChangeShapes Go.WideShapes Go.ChangeAt Go.RowKit
theorem Quiet.below {w w' : World} (h : Quiet w w') : Below w.heap.size w w' := ⟨h.1, h.2.1, h.2.2.1, h.2.2.2.1, h.2.2.2.2⟩
section
variable {H : Type} {enc : TypeId × Value -> H} {P : Program}
theorem trodAll_below {W W' : World} (hl : laidOutB P = true) (hb : Below W.heap.size W W') : ∀ {ts : List TypeId} {vs : List Value} {ds : List (DataW H)} {p : List MemPlace},
    DataW.TrodAll enc P W 0 (fun _ => true) true ts vs ds p -> (∀ t ∈ ts, P.readableRec t = true /\ t < P.types.size) -> (∀ x ∈ p, x.block < W.heap.size) ->
    DataW.TrodAll enc P W' 0 (fun b => decide (b < W.heap.size)) true ts vs ds p
  | [], _, _, _, h, _, _ => by
    obtain ⟨rfl, rfl, rfl⟩ := trodAll_nil h
    exact trodAll_mk0
  | t :: ts, _, _, _, h, hr, hx => by
    obtain ⟨v, vs1, d, ds1, a, b, rfl, rfl, rfl, h1, h2⟩ := trodAll_cons h
    exact trodAll_cons_mk (Below.trod hl (hr t (by simp)).1 (hr t (by simp)).2 h1 hb (fun x vN => hx x (List.mem_append_left _ vN)))
      (trodAll_below hl hb h2 (fun t ht => hr t (List.mem_cons_of_mem _ ht)) (fun x vN => hx x (List.mem_append_right _ vN)))
theorem post_true {f : Func} {s : ChangeSpec} {W W' : World} {args : Array Value} {ds gs : List (DataW H)} {before : List MemPlace} {tb : TypeId} (hl : laidOutB P = true)
    (hW : DataW.Whole enc P f.params.toList s.vars false W args.toList ds gs before) (hv : s.vars = []) (b9 : s.fn H (ds ++ gs) = { results := [.lit (.bool true)], args := ds })
    (hr : ∀ t ∈ f.params.toList, P.readableRec t = true /\ t < P.types.size) (hB : Below W.heap.size W W') (gZ : f.resultTypes = #[tb]) (htb : P.underlying tb = some .bool) :
    s.post enc P f false true false false W args (.bool true) W' := by
  have aA := hW.lt
  have aS := hW
  obtain ⟨p, q, hA, hV, rfl, xS, BH⟩ := hW
  have hq : q = [] := by
    rw [hv] at hV
    cases gs with
    | nil => exact hV
    | cons g gs => exact hV.elim
  subst hq
  refine ⟨ds, gs, p ++ [], [], p, [], aS, ?_, ?_, ?_, hB.frame _, fun h => by cases h⟩
  . rw [b9, gZ]
    exact trodAll_cons_mk (shut_bool htb _) trodAll_mk0
  . rw [b9]
    exact trodAll_below hl hB hA hr (fun x hx => aA x (List.mem_append_left _ hx))
  . rw [b9, hv]; rfl
end
end Go.Ai
end
section
namespace Go.Ai
open Go Go.ChangeShapes Go.WideShapes Go.ChangeAt Go.RowKit
section
variable {H : Type} {enc : TypeId × Value -> H} {P : Program} {w : World} {base : Nat} {spare : Nat -> Bool} {held : Bool}
theorem VsRel.two {ρ : Pos -> Loc} {n : Nat} {C : Cells} {a b : AV} {a' b' : Value} (h1 : VRel ρ n C a a') (h2 : VRel ρ n C b b') : VsRel ρ n C [a, b] [a', b'] := VsRel.cons h1 (VsRel.cons h2 VsRel.nil)
theorem VsRel.one {ρ : Pos -> Loc} {n : Nat} {C : Cells} {a : AV} {a' : Value} (h1 : VRel ρ n C a a') : VsRel ρ n C [a] [a'] := VsRel.cons h1 VsRel.nil
end
end Go.Ai
end
section
namespace Go.Ai
open Go
section
variable {R : Type} (c : CallA) (K : AV -> St -> Option R) (st : St)
end
end Go.Ai
end
section
namespace Go.Ai
open Go
def ownB : AV -> Option Pos
  | .slice b _ n cap _ => if cap = some 0 /\ n = 0 then none else some b
  | _ => none
theorem ownB_some {b b' : Pos} {off n es : Nat} {cap : Option Nat} (h : ownB (.slice b off n cap es) = some b') : b = b' := by
  simp only [ownB] at h
  split at h
  . cases h
  . exact Option.some.inj h
theorem ownB_none (b : Pos) (off n es : Nat) : ownB (.slice b off n none es) = some b := by simp [ownB]
theorem ownB_zero (b : Pos) (off es : Nat) : ownB (.slice b off 0 (some 0) es) = none := by simp [ownB]
def QS (es : Nat) (s : St) (v : AV) (rows : List (List AV)) : Prop :=
  (v = .nils /\ rows = []) \/ (∃ b off cap cs, v = .slice b off rows.length cap es /\ s.heap.get b = some (.cells cs 0) /\ off + rows.length * es <= cs.length /\ (cs.drop off).take (rows.length * es) = rows.flatten /\ (cap = none \/ cap = some rows.length)) \/
    (∃ b off, v = .slice b off 0 (some 0) es /\ rows = [])
theorem QS.nil {es : Nat} {s : St} : QS es s .nils [] := .inl ⟨rfl, rfl⟩
theorem QS.mono {es : Nat} {s s' : St} {v : AV} {rows : List (List AV)} (h : QS es s v rows) (hk : ∀ b x, ownB v = some b -> s.heap.get b = some x -> s'.heap.get b = some x) : QS es s' v rows := by
  rcases h with ⟨rfl, rfl⟩ | ⟨b, off, cap, cs, rfl, h1, h2, h3, h4⟩ | ⟨b, off, rfl, rfl⟩
  . exact .inl ⟨rfl, rfl⟩
  . by_cases h0 : cap = some 0 /\ rows.length = 0
    . obtain ⟨rfl, h0⟩ := h0
      refine .inr (.inr ⟨b, off, by rw [h0], List.eq_nil_of_length_eq_zero h0⟩)
    . exact .inr (.inl ⟨b, off, cap, cs, rfl, hk b _ (by simp only [ownB]; rw [if_neg h0]) h1, h2, h3, h4⟩)
  . exact .inr (.inr ⟨b, off, rfl, rfl⟩)
theorem QS.len {es : Nat} {s : St} {v : AV} {rows : List (List AV)} (h : QS es s v rows) : lenA v = some rows.length := by
  rcases h with ⟨rfl, rfl⟩ | ⟨b, off, cap, cs, rfl, _⟩ | ⟨b, off, rfl, rfl⟩ <;> rfl
theorem QS.lt {es : Nat} {s : St} {v : AV} {rows : List (List AV)} (h : QS es s v rows) (hw : Wf s) {b : Pos} (hb : ownB v = some b) : b.toNat < s.next.toNat := by
  rcases h with ⟨rfl, rfl⟩ | ⟨b', off, cap, cs, rfl, h1, _⟩ | ⟨b', off, rfl, rfl⟩
  . cases hb
  . obtain rfl := ownB_some hb; exact hw _ _ h1
  . rw [ownB_zero] at hb; cases hb
theorem QS.first {es : Nat} {s : St} {v : AV} {rows : List (List AV)} (h : QS es s v rows) (hr : ∀ r ∈ rows, r.length = es) : firstA es rows.length (fun b => s.heap.get b) v = some rows.flatten := by
  rcases h with ⟨rfl, rfl⟩ | ⟨b, off, cap, cs, rfl, h1, h2, h3, h4⟩ | ⟨b, off, rfl, rfl⟩
  . rfl
  rotate_left
  . simp [firstA, beq_d]
  . by_cases h0 : rows.length * es = 0
    . simp only [firstA, beq_d, decide_eq_true h0]
      have : rows.flatten = [] := by rw [<- h3, h0]; simp
      rw [this]
    . simp only [firstA, beq_d, decide_eq_false h0, h1]
      unfold cut
      rw [ble_d, decide_eq_true h2]
      simp only
      rw [h3]
theorem QS.app {R : Type} {c : CallA} {es bytes : Nat} {s : St} {v : AV} {rows : List (List AV)} (hw : Wf s) (h : QS es s v rows) (hr : ∀ r ∈ rows, r.length = es) {q : Pos} {row : List AV} (hq : s.heap.get q = some (.cells row 0)) (bn : row.length = es) (h1 : allOne row = true)
    (cg : es ≠ 0) (hb : (2 * (rows.length + 1) + 768) * bytes <= 281474976710656) (hn : rows.length <= 4000000) :
    ∃ s5, (∀ (K : AV -> St -> Option R), stp c (.append es bytes) [v, .slice q 0 1 (some 1) es] s K = K (.slice s.next 0 (rows.length + 1) none es) s5) /\ QS es s5 (.slice s.next 0 (rows.length + 1) none es) (rows ++ [row]) /\
      Wf s5 /\ s5.next = s.next.succ /\ (∀ p, ownB v ≠ some p -> p.toNat < s.next.toNat -> s5.heap.get p = s.heap.get p) /\ s5.heap.get s.next = some (.cells (rows.flatten ++ row) 0) := by
  have hx : firstA es 1 (fun b => s.heap.get b) (.slice q 0 1 (some 1) es) = some row := by
    simp only [firstA, beq_d, Nat.one_mul, decide_eq_false cg, hq]
    exact cut_all bn
  have ho := h.first hr
  have hlen : rows.flatten.length = rows.length * es := by
    clear h ho hn hb
    induction rows with
    | nil => simp
    | cons r rows ih =>
      have := ih (fun x hx => hr x (List.mem_cons_of_mem _ hx))
      have h2 := hr r (by simp)
      simp only [List.flatten_cons, List.length_append, List.length_cons, Nat.succ_mul]; omega
  have new : ∀ (s5 : St), s5.heap.get s.next = some (.cells (rows.flatten ++ row) 0) -> QS es s5 (.slice s.next 0 (rows.length + 1) none es) (rows ++ [row]) := fun s5 hs => by
    refine .inr (.inl ⟨s.next, 0, none, rows.flatten ++ row, by simp, hs, ?_, ?_, .inl rfl⟩)
    . simp only [List.length_append, List.length_cons, List.length_nil, Nat.zero_add, Nat.add_mul, Nat.one_mul, hlen, bn]; omega
    . simp only [List.drop_zero, List.flatten_append, List.flatten_cons, List.flatten_nil, List.append_nil]
      refine List.take_of_length_le ?_
      simp only [List.length_append, List.length_cons, List.length_nil, Nat.zero_add, Nat.add_mul, Nat.one_mul, hlen, bn]; omega
  have az : (2 * (rows.length + 1) + 768) * bytes <= 281474976710656 := hb
  have hs2 : rows.length + 1 <= 9223372036854775807 := by omega
  rcases h with ⟨rfl, rfl⟩ | ⟨b, off, cap, cs, rfl, g1, g2, g3, g4⟩ | ⟨b, off, rfl, rfl⟩
  rotate_right
  . have run : OpK.run (fun b => s.heap.get b) s.next (.append es bytes) [.slice b off 0 (some 0) es, .slice q 0 1 (some 1) es] = some (.eff (.slice s.next 0 (0 + 1) none es) none none (some (.cells ([] ++ row) 0))) := by
      have h2 : ¬ (0 + 1 <= 0) := by omega
      have Gq : firstA es 0 (fun b => s.heap.get b) (.slice b off 0 (some 0) es) = some [] := by simp [firstA, beq_d]
      simp only [OpK.run, runAppend]
      rw [show lenA (.slice b off 0 (some 0) es) = some 0 from rfl, show lenA (.slice q 0 1 (some 1) es) = some 1 from rfl]
      have dK : (2 * (0 + 1) + 768) * bytes <= 281474976710656 := by simpa using hb
      simp only [ble_d, beq_d, decide_eq_true dK, decide_eq_false h2, hx, Gq]
      simp
    refine ⟨nst s (.cells row 0), fun K => ?_, ?_, wf_nst hw, rfl, fun p _ hp => get_nst_old hp, by simpa using get_nst s (.cells row 0)⟩
    . unfold stp stepA; simp only [List.length_nil] at run ⊢; rw [run]; rfl
    . simpa using new (nst s (.cells row 0)) (by simpa using get_nst s (.cells row 0))
  . refine ⟨nst s (.cells row 0), fun K => stp_app0 c K (m := 1) rfl (by omega) (by simpa using hb) (by omega) hx, ?_, wf_nst hw, rfl, fun p _ hp => get_nst_old hp, by simpa using get_nst s (.cells row 0)⟩
    simpa using new (nst s (.cells row 0)) (by simpa using get_nst s (.cells row 0))
  . rcases g4 with rfl | rfl
    . have run : OpK.run (fun b => s.heap.get b) s.next (.append es bytes) [.slice b off rows.length none es, .slice q 0 1 (some 1) es] = some (.eff (.slice s.next 0 (rows.length + 1) none es) (some b) none (some (.cells (rows.flatten ++ row) (0 - off)))) := by
        simp only [OpK.run, runAppend]
        rw [show lenA (.slice b off rows.length none es) = some rows.length from rfl, show lenA (.slice q 0 1 (some 1) es) = some 1 from rfl]
        simp only [ble_d, beq_d, decide_eq_true az, decide_eq_true hs2, hx, g1, ho, h1]
        simp
      refine ⟨dst s b (.cells (rows.flatten ++ row) 0), fun K => ?_, new _ (get_dst _ _ _), wf_dst hw, rfl, fun p hp hl => get_dst_ne (fun e => hp (by rw [e, ownB_none])) hl, get_dst _ _ _⟩
      unfold stp stepA; rw [run]; simp only [Nat.zero_sub]; rfl
    . have h2 : ¬ (rows.length + 1 <= rows.length) := by omega
      have run : OpK.run (fun b => s.heap.get b) s.next (.append es bytes) [.slice b off rows.length (some rows.length) es, .slice q 0 1 (some 1) es] = some (.eff (.slice s.next 0 (rows.length + 1) none es) none none (some (.cells (rows.flatten ++ row) 0))) := by
        simp only [OpK.run, runAppend]
        rw [show lenA (.slice b off rows.length (some rows.length) es) = some rows.length from rfl, show lenA (.slice q 0 1 (some 1) es) = some 1 from rfl]
        simp only [ble_d, beq_d, decide_eq_true az, decide_eq_true hs2, decide_eq_false h2, hx, ho]
      refine ⟨nst s (.cells (rows.flatten ++ row) 0), fun K => ?_, new _ (get_nst _ _), wf_nst hw, rfl, fun p _ hp => get_nst_old hp, get_nst _ _⟩
      unfold stp stepA; rw [run]; rfl
theorem stp_row {R : Type} {c : CallA} {es : Nat} {z : List AV} {x : AV} (hz : z.length = es) (hx : x.cells.length = es) (s : St) (K : AV -> St -> Option R) :
    stp c (.buildSlice es 1 z [0]) [x] s K = K (.slice s.next 0 1 (some 1) es) (nst s (.cells x.cells 0)) := by
  have : fillA (repeatL z 1) ([0].map fun i => (i * es, es)) [x] = some x.cells := by
    simp only [List.map_cons, List.map_nil, Nat.zero_mul, repeatL, List.append_nil, fillA, beq_d, ble_d, hx, decide_true, Nat.zero_add, hz, Nat.le_refl]
    simp only [splice, List.take_zero, List.nil_append, Nat.zero_add]
    rw [List.drop_of_length_le (by omega), List.append_nil]
  rw [stp_bslice, this]; rfl
structure Mk (es : Nat) (s0 s : St) (v : AV) (rows : List (List AV)) : Prop where
  wf0 : Wf s0
  grew : Grew s0 s
  own : QS es s v rows
  new : ∀ b, ownB v = some b -> s0.next.toNat <= b.toNat
  row : ∀ r ∈ rows, r.length = es
  cap : ∀ b off n cp e, v = .slice b off n cp e -> cp = none \/ (n = 0 /\ cp = some 0)
  tight : ∀ b, ownB v = some b -> s.heap.get b = some (.cells rows.flatten 0)
theorem Mk.start {es : Nat} {s0 s : St} (h0 : Wf s0) (hg : Grew s0 s) : Mk es s0 s .nils [] := ⟨h0, hg, QS.nil, fun b h => (by cases h), fun r h => (by cases h), fun b off n cp e h => (by cases h), fun b h => (by cases h)⟩
theorem Mk.grow {es : Nat} {s0 s s' : St} {v : AV} {rows : List (List AV)} (h : Mk es s0 s v rows) (hg : Grew s s') : Mk es s0 s' v rows :=
  ⟨h.wf0, h.grew.trans hg, h.own.mono fun b x _ hx => hg.get hx, h.new, h.row, h.cap, fun b hb => hg.get (h.tight b hb)⟩
theorem Mk.push {R : Type} {c : CallA} {es bytes : Nat} {s0 s : St} {v : AV} {rows : List (List AV)} (h : Mk es s0 s v rows) {z : List AV} {x : AV} (hz : z.length = es) (hx : x.cells.length = es) (h1 : allOne x.cells = true) (cg : es ≠ 0)
    (hb : (2 * (rows.length + 1) + 768) * bytes <= 281474976710656) (hn : rows.length <= 4000000) :
    ∃ s5 v', (∀ (K : AV -> St -> Option R), stp c (.buildSlice es 1 z [0]) [x] s (fun y t => stp c (.append es bytes) [v, y] t K) = K v' s5) /\ Mk es s0 s5 v' (rows ++ [x.cells]) /\
      (∀ p b, ownB v ≠ some p -> s.heap.get p = some b -> s5.heap.get p = some b) /\ ∀ b, ownB v' = some b -> s.next.toNat <= b.toNat := by
  have hw := h.grew.wf
  have bJ : Wf (nst s (.cells x.cells 0)) := wf_nst hw
  have g1 := Grew.nst hw (.cells x.cells 0)
  obtain ⟨s5, a1, a2, a3, a4, a5, a6⟩ := QS.app (R := R) (c := c) (bytes := bytes) bJ (h.own.mono fun b x _ hx => g1.get hx) h.row (get_nst s (.cells x.cells 0)) hx h1 cg hb hn
  have keep : ∀ p b, ownB v ≠ some p -> s.heap.get p = some b -> s5.heap.get p = some b := fun p b hp hg => by
    have aA := hw _ _ hg
    rw [a5 p hp (by rw [nst_next, Pos.toNat_succ]; omega)]
    exact g1.get hg
  refine ⟨s5, _, fun K => ?_, ⟨h.wf0, ⟨a3, fun p b hg => ?_, ?_⟩, a2, fun b hb => ?_, fun r hr => ?_, fun b off n cp e he => ?_, fun b hb => ?_⟩, keep, fun b hb => ?_⟩
  . rw [stp_row hz hx, a1]
  . have iP := h.grew.get hg
    refine keep p b (fun e => ?_) iP
    have := h.new p e
    have := h.wf0 p b hg
    omega
  . have := h.grew.next; rw [a4, nst_next, Pos.toNat_succ, Pos.toNat_succ]; omega
  . rw [ownB_none] at hb; cases hb; have := h.grew.next; rw [nst_next, Pos.toNat_succ]; omega
  . rcases List.mem_append.1 hr with hr | hr
    . exact h.row r hr
    . simp at hr; subst hr; exact hx
  . cases he; exact .inl rfl
  . rw [ownB_none] at hb; cases hb; rw [a6]; simp
  . rw [ownB_none] at hb; cases hb; rw [nst_next, Pos.toNat_succ]; omega
theorem not_plain_slice {b : Pos} {off n es : Nat} (h : Plain (.slice b off n none es)) : False := by
  have h1 : VRel (fun _ => ⟨0, 0, off + n * es⟩) (b.toNat + 1) (fun _ => none) (.slice b off n none es) (.slice (some ⟨0, 0 + off, none⟩) n n) :=
    .slice b off n none es n _ (Nat.le_refl _) (fun c hc => by cases hc) (fun _ => ⟨by omega, rfl, by simp⟩) (fun _ => by omega)
  have h2 := h _ (fun _ => ⟨0, 0, 0⟩) _ 0 _ _ h1
  cases h2 with
  | slice _ _ _ _ _ _ _ _ _ _ hk => exact absurd (hk rfl) (by omega)
theorem Mk.tidy {es : Nat} {s s' : St} {v : AV} {rows : List (List AV)} (h : Mk es s s' v rows) : ∃ BI, Go.Ai.tidy s (v, s') = (v, BI) /\ Mk es s BI v rows := by
  unfold Go.Ai.tidy
  by_cases hp : Plain (v, s').1 /\ Keeps s (v, s').2
  . rw [if_pos hp]
    refine ⟨s, rfl, ?_⟩
    rcases h.own with ⟨rfl, rfl⟩ | ⟨b, off, cap, cs, rfl, _⟩ | ⟨b, off, rfl, rfl⟩
    . exact Mk.start h.wf0 (Grew.refl h.wf0)
    . rcases h.cap _ _ _ _ _ rfl with rfl | ⟨h0, rfl⟩
      . exact (not_plain_slice hp.1).elim
      . exact ⟨h.wf0, Grew.refl h.wf0, .inr (.inr ⟨b, off, by rw [h0], List.eq_nil_of_length_eq_zero h0⟩), fun b hb => (by rw [h0, ownB_zero] at hb; cases hb), h.row, h.cap, fun b hb => (by rw [h0, ownB_zero] at hb; cases hb)⟩
    . exact ⟨h.wf0, Grew.refl h.wf0, .inr (.inr ⟨b, off, rfl, rfl⟩), fun b hb => (by rw [ownB_zero] at hb; cases hb), h.row, h.cap, fun b hb => (by rw [ownB_zero] at hb; cases hb)⟩
  . rw [if_neg hp]; exact ⟨s', rfl, h⟩
end Go.Ai
end
section
namespace Go.Ai
open Go
section
variable {R : Type} (c : CallA) (K : AV -> St -> Option R) (st : St)
theorem stp_idxQ {b : Pos} {off len es es' : Nat} {cap : Option Nat} {k : IntKind} {i : Nat} (h : i < len) : stp c (.idxA es none) [.slice b off len cap es', .int k (i : Int)] st K = K (.ptr b (off + i * es)) st :=
  stp_ofv c K (fun H n => by
    simp only [OpK.run, runIdxA, asIx_nat]
    have : Nat.blt i len = true := by rw [Nat.blt_eq]; exact h
    rw [this]) st
theorem stp_lenQ (b : Pos) (off len es : Nat) (cap : Option Nat) : stp c (.lenB .l) [.slice b off len cap es] st K = K (.int .i64 (len : Int)) st := stp_ofv c K (fun H n => rfl) st
theorem stp_tailQ {b : Pos} {off len es : Nat} {cap : Option Nat} (h : 1 <= len) (hc : ∀ x, cap = some x -> len <= x) :
    stp c (.sliceL es true false false) [.slice b off len cap es, .int .i64 1] st K = K (.slice b (off + 1 * es) (len - 1) (cap.map (· - 1)) es) st :=
  stp_ofv c K (fun H n => by
    have hb : bounds true false false [.int .i64 1] = some (some 1, none, none) := rfl
    simp only [OpK.run, runSliceL, hb, beq_d, ble_d, decide_true, Option.getD_some, Option.getD_none, decide_eq_true h]
    cases cap with
    | none => simp
    | some x => simp [hc x rfl]) st
end
theorem flat_get {rows : List (List AV)} {es : Nat} (hr : ∀ r ∈ rows, r.length = es) : ∀ (i j : Nat) (r : List AV) (u : AV), rows[i]? = some r -> r[j]? = some u -> rows.flatten[i * es + j]? = some u := by
  induction rows with
  | nil => intro i j r u h; simp at h
  | cons r0 rows ih =>
    intro i j r u h1 h2
    have hl := hr r0 (by simp)
    cases i with
    | zero =>
      simp at h1; subst h1
      have := (List.getElem?_eq_some_iff.1 h2).1
      rw [List.flatten_cons, Nat.zero_mul, Nat.zero_add, List.getElem?_append_left this]; exact h2
    | succ i =>
      rw [List.flatten_cons, List.getElem?_append_right (by rw [Nat.succ_mul]; omega)]
      rw [show (i + 1) * es + j - r0.length = i * es + j by rw [Nat.succ_mul]; omega]
      exact ih (fun x hx => hr x (List.mem_cons_of_mem _ hx)) i j r u (by simpa using h1) h2
theorem QS.at {R : Type} {c : CallA} {es : Nat} {s : St} {v : AV} {rows : List (List AV)} (h : QS es s v rows) (hr : ∀ r ∈ rows, r.length = es) (cg : es ≠ 0) {i : Nat} (hi : i < rows.length) :
    ∃ b o cs, (∀ (K : AV -> St -> Option R) (k : IntKind) (s1 : St), stp c (.idxA es none) [v, .int k (i : Int)] s1 K = K (.ptr b o) s1) /\ ownB v = some b /\ s.heap.get b = some (.cells cs 0) /\ ∀ j u, rows[i][j]? = some u -> cs[o + j]? = some u := by
  rcases h with ⟨rfl, rfl⟩ | ⟨b, off, cap, cs, rfl, g1, g2, g3, g4⟩ | ⟨b, off, rfl, rfl⟩
  . simp at hi
  rotate_left
  . simp at hi
  . refine ⟨b, off + i * es, cs, fun K k s1 => stp_idxQ c K s1 hi, by simp only [ownB]; rw [if_neg (by omega)], g1, fun j u hj => ?_⟩
    have BJ := hr rows[i] (List.getElem_mem hi)
    have cm : j < es := by rw [<- BJ]; exact (List.getElem?_eq_some_iff.1 hj).1
    have := flat_get hr i j rows[i] u (List.getElem?_eq_getElem hi) hj
    rw [<- g3, List.getElem?_take] at this
    split at this
    . rw [List.getElem?_drop] at this; rw [<- this]; congr 1; omega
    . cases this
theorem QS.tail {R : Type} {c : CallA} {es : Nat} {s : St} {v : AV} {r : List AV} {rows : List (List AV)} (h : QS es s v (r :: rows)) (hr : r.length = es) :
    ∃ v', (∀ (K : AV -> St -> Option R) (s1 : St), stp c (.sliceL es true false false) [v, .int .i64 1] s1 K = K v' s1) /\ QS es s v' rows /\ ∀ b, ownB v' = some b -> ownB v = some b := by
  rcases h with ⟨rfl, h⟩ | ⟨b, off, cap, cs, rfl, g1, g2, g3, g4⟩ | ⟨b, off, rfl, h⟩
  . cases h
  rotate_left
  . cases h
  . refine ⟨.slice b (off + 1 * es) rows.length (cap.map (· - 1)) es, fun K s1 => ?_, .inr (.inl ⟨b, off + 1 * es, cap.map (· - 1), cs, rfl, g1, ?_, ?_, ?_⟩), fun b' hb => by
      obtain rfl := ownB_some hb
      simp only [ownB, List.length_cons]; rw [if_neg (by omega)]⟩
    . rw [stp_tailQ c K s1 (by simp) (fun x hx => by rcases g4 with rfl | rfl <;> cases hx; exact Nat.le_refl _)]; simp
    . simp only [List.length_cons, Nat.succ_mul] at g2; omega
    . have : ((cs.drop off).take ((r :: rows).length * es)).drop es = rows.flatten := by rw [g3, List.flatten_cons, <- hr]; simp
      rw [<- this, List.drop_take, List.drop_drop]
      congr 1
      . simp only [List.length_cons, Nat.succ_mul]; omega
      . congr 1; omega
    . rcases g4 with rfl | rfl
      . exact .inl rfl
      . right; simp
theorem QS.push {R : Type} {c : CallA} {es bytes : Nat} {s : St} {v : AV} {rows : List (List AV)} (hw : Wf s) (h : QS es s v rows) (hr : ∀ r ∈ rows, r.length = es) {z : List AV} {x : AV} (hz : z.length = es) (hx : x.cells.length = es) (h1 : allOne x.cells = true) (cg : es ≠ 0)
    (hb : (2 * (rows.length + 1) + 768) * bytes <= 281474976710656) (hn : rows.length <= 4000000) :
    ∃ s5 v', (∀ (K : AV -> St -> Option R), stp c (.buildSlice es 1 z [0]) [x] s (fun y t => stp c (.append es bytes) [v, y] t K) = K v' s5) /\ QS es s5 v' (rows ++ [x.cells]) /\ Wf s5 /\ s.next.toNat <= s5.next.toNat /\
      (∀ p b, ownB v ≠ some p -> s.heap.get p = some b -> s5.heap.get p = some b) /\ ∀ b, ownB v' = some b -> s.next.toNat <= b.toNat := by
  have bJ : Wf (nst s (.cells x.cells 0)) := wf_nst hw
  have g1 := Grew.nst hw (.cells x.cells 0)
  obtain ⟨s5, a1, a2, a3, a4, a5, _⟩ := QS.app (R := R) (c := c) (bytes := bytes) bJ (h.mono fun b x _ hx => g1.get hx) hr (get_nst s (.cells x.cells 0)) hx h1 cg hb hn
  refine ⟨s5, _, fun K => by rw [stp_row hz hx, a1], a2, a3, by rw [a4, nst_next, Pos.toNat_succ, Pos.toNat_succ]; omega, fun p b hp hg => ?_, fun b hb => ?_⟩
  . have aA := hw _ _ hg
    rw [a5 p hp (by rw [nst_next, Pos.toNat_succ]; omega)]
    exact g1.get hg
  . rw [ownB_none] at hb; cases hb; rw [nst_next, Pos.toNat_succ]; omega
theorem QS.lenB {R : Type} {c : CallA} {es : Nat} {s : St} {v : AV} {rows : List (List AV)} (h : QS es s v rows) (K : AV -> St -> Option R) (s1 : St) : stp c (.lenB .l) [v] s1 K = K (.int .i64 (rows.length : Int)) s1 := by
  rcases h with ⟨rfl, rfl⟩ | ⟨b, off, cap, cs, rfl, _⟩ | ⟨b, off, rfl, rfl⟩
  . exact stp_ofv c K (fun H n => rfl) s1
  . exact stp_lenQ c K s1 _ _ _ _ _
  . exact stp_lenQ c K s1 _ _ _ _ _
end Go.Ai
end
section
namespace Go.Ai
open Go
def Inst (v : AV) : Prop := ∃ N0 K0 : Nat, ∀ N K : Nat, N0 <= N -> K0 <= K -> ∃ x, VRel (fun _ => ⟨0, 0, K⟩) N (fun _ => none) v x
theorem Inst.int (k : IntKind) (i : Int) : Inst (.int k i) := ⟨0, 0, fun _ _ _ _ => ⟨_, .int k i⟩⟩
theorem Inst.bool (b : Bool) : Inst (.bool b) := ⟨0, 0, fun _ _ _ _ => ⟨_, .bool b⟩⟩
theorem Inst.nils : Inst .nils := ⟨0, 0, fun _ _ _ _ => ⟨_, .nils⟩⟩
theorem Inst.str {s : List Nat} (h : ∀ x ∈ s, x < 256) : Inst (.str s) := ⟨0, 0, fun _ _ _ _ => ⟨.string ⟨(s.map UInt8.ofNat).toArray⟩, .str s _ (by
  show (s.map UInt8.ofNat).toArray.toList.map UInt8.toNat = s
  simp only [List.map_map]
  conv => rhs; rw [<- List.map_id s]
  refine List.map_congr_left fun c hc => ?_
  have := h c hc
  simp [UInt8.toNat_ofNat]
  omega)⟩⟩
theorem Inst.slice (b : Pos) (off n es : Nat) : Inst (.slice b off n none es) := ⟨b.toNat + 1, off + n * es, fun N K hN hK => ⟨.slice (some ⟨0, 0 + off, none⟩) n n,
  .slice b off n none es n _ (Nat.le_refl _) (fun c hc => by cases hc) (fun _ => ⟨by omega, rfl, by simpa using hK⟩) (fun _ => by omega)⟩⟩
theorem Inst.zero (b : Pos) (off es : Nat) : Inst (.slice b off 0 (some 0) es) := ⟨0, 0, fun N K _ _ => ⟨.slice (some ⟨0, 0, none⟩) 0 0,
  .slice b off 0 (some 0) es 0 _ (Nat.le_refl _) (fun c hc => by cases hc; rfl) (fun h => absurd rfl h) (fun h => by cases h)⟩⟩
theorem Mk.cells {es : Nat} {s s' : St} {v : AV} {rows : List (List AV)} (h : Mk es s s' v rows) : v.cells = [v] /\ allOne [v] = true := by
  rcases h.own with ⟨rfl, rfl⟩ | ⟨b, off, cap, cs, rfl, _⟩ | ⟨b, off, rfl, rfl⟩ <;> exact ⟨rfl, rfl⟩
theorem Mk.store {es : Nat} {s s' : St} {v : AV} {rows : List (List AV)} (h : Mk es s s' v rows) {p : Pos} {b : AB} (hp : s.next.toNat <= p.toNat) (Gc : p.toNat < s'.next.toNat) (aI : ownB v ≠ some p) : Mk es s (stt s' p b) v rows :=
  ⟨h.wf0, ⟨wf_stt h.grew.wf Gc, fun q x hq => by have := h.wf0 _ _ hq; rw [get_stt_ne (fun e => by rw [e] at hp; omega)]; exact h.grew.get hq, by rw [stt_next]; exact h.grew.next⟩,
    h.own.mono fun q x hq hx => by rw [get_stt_ne (fun e => aI (by rw [hq, e]))]; exact hx, h.new, h.row, h.cap, fun b hb => by rw [get_stt_ne (fun e => aI (by rw [hb, e]))]; exact h.tight b hb⟩
theorem Mk.back {es : Nat} {s0 s s' : St} {v : AV} {rows : List (List AV)} (h : Mk es s s' v rows) (h0 : Wf s0) (hg : Grew s0 s) : Mk es s0 s' v rows :=
  ⟨h0, hg.trans h.grew, h.own, fun b hb => Nat.le_trans hg.next (h.new b hb), h.row, h.cap, h.tight⟩
end Go.Ai
end
section
namespace Go.Ai
open Go
theorem splice_one {α : Type} (l : List α) (i : Nat) (h : i < l.length) (u : α) : splice l i [u] = l.set i u := by
  unfold splice
  rw [List.set_eq_take_append_cons_drop, if_pos h]
  simp
theorem flatten_set {es : Nat} : ∀ (rows : List (List AV)), (∀ r ∈ rows, r.length = es) -> ∀ (i j : Nat) (hi : i < rows.length), j < es -> ∀ u, rows.flatten.set (i * es + j) u = (rows.set i (rows[i].set j u)).flatten
  | [], _, i, j, hi, _, _ => by simp at hi
  | r :: rows, hr, i, j, hi, hj, u => by
    have hl := hr r (by simp)
    cases i with
    | zero =>
      simp only [Nat.zero_mul, Nat.zero_add, List.flatten_cons, List.set_cons_zero, List.getElem_cons_zero]
      rw [List.set_append_left _ _ (by omega)]
    | succ i =>
      simp only [List.flatten_cons, List.set_cons_succ, List.getElem_cons_succ]
      rw [List.set_append_right _ _ (by rw [Nat.succ_mul]; omega)]
      rw [show (i + 1) * es + j - r.length = i * es + j by rw [Nat.succ_mul]; omega]
      rw [flatten_set rows (fun x hx => hr x (List.mem_cons_of_mem _ hx)) i j (by simpa using hi) hj u]
theorem QS.set {R : Type} {c : CallA} {es : Nat} {s : St} {v : AV} {rows : List (List AV)} (h : QS es s v rows) (hr : ∀ r ∈ rows, r.length = es) (cg : es ≠ 0) {i : Nat} (hi : i < rows.length) :
    ∃ b o cs, (∀ (K : AV -> St -> Option R) (k : IntKind) (s1 : St), stp c (.idxA es none) [v, .int k (i : Int)] s1 K = K (.ptr b o) s1) /\ (∀ (K : AV -> Option R) (k : IntKind), prr (.idxA es none) [v, .int k (i : Int)] K = K (.ptr b o)) /\ ownB v = some b /\ s.heap.get b = some (.cells cs 0) /\ o + es <= cs.length /\ (∀ j u, rows[i][j]? = some u -> cs[o + j]? = some u) /\
      (∀ j u (s' : St), j < es -> s'.heap.get b = some (.cells (splice cs (o + j) [u]) 0) -> QS es s' v (rows.set i (rows[i].set j u))) /\
      ∀ j u, j < es -> cs = rows.flatten -> splice cs (o + j) [u] = (rows.set i (rows[i].set j u)).flatten := by
  rcases h with ⟨rfl, rfl⟩ | ⟨b, off, cap, cs, rfl, g1, g2, g3, g4⟩ | ⟨b, off, rfl, rfl⟩
  . simp at hi
  rotate_left
  . simp at hi
  have BJ := hr rows[i] (List.getElem_mem hi)
  have hm : (i + 1) * es <= rows.length * es := Nat.mul_le_mul_right _ hi
  rw [Nat.succ_mul] at hm
  have hx : ∀ (k : IntKind) (H : Pos -> Option AB) (n : Pos), OpK.run H n (.idxA es none) [.slice b off rows.length cap es, .int k (i : Int)] = some (.val (.ptr b (off + i * es))) := fun k H n => by
    simp only [OpK.run, runIdxA, asIx_nat]
    have : Nat.blt i rows.length = true := by rw [Nat.blt_eq]; exact hi
    rw [this]
  refine ⟨b, off + i * es, cs, fun K k s1 => stp_idxQ c K s1 hi, fun K k => prr_ofv K (hx k), by simp only [ownB]; rw [if_neg (by omega)], g1, by omega, fun j u hj => ?_, fun j u s' hj hs => ?_, fun j u hj he => ?_⟩
  . have cm : j < es := by rw [<- BJ]; exact (List.getElem?_eq_some_iff.1 hj).1
    have := flat_get hr i j rows[i] u (List.getElem?_eq_getElem hi) hj
    rw [<- g3, List.getElem?_take] at this
    split at this
    . rw [List.getElem?_drop] at this; rw [<- this]; congr 1; omega
    . cases this
  . rw [splice_one _ _ (by omega)] at hs
    refine .inr (.inl ⟨b, off, cap, _, by simp, hs, by simpa using g2, ?_, by simpa using g4⟩)
    rw [List.length_set, <- flatten_set rows hr i j hi hj u, <- g3, List.drop_set, if_neg (by omega), List.take_set]
    congr 1
    omega
  . have hlen : rows.flatten.length = rows.length * es := by
      clear g2 g3 g4 hi BJ hm hx g1 he
      induction rows with
      | nil => simp
      | cons r rows ih =>
        have := ih (fun x hx => hr x (List.mem_cons_of_mem _ hx))
        have h2 := hr r (by simp)
        simp only [List.flatten_cons, List.length_append, List.length_cons, Nat.succ_mul]; omega
    have h0 : off = 0 := by rw [he, hlen] at g2; omega
    subst h0
    rw [splice_one _ _ (by omega), he, <- flatten_set rows hr i j hi hj u]
    congr 1
    omega
end Go.Ai
end
section
namespace Go.Ai
open Go
def Src (es : Nat) (s : St) (v : AV) (rows : List (List AV)) : Prop := v = .fl rows es \/ QS es s v rows
theorem Src.len {es : Nat} {s : St} {v : AV} {rows : List (List AV)} (h : Src es s v rows) : lenA v = some rows.length := by
  rcases h with rfl | h
  . rfl
  . exact h.len
theorem Src.mono {es : Nat} {s s' : St} {v : AV} {rows : List (List AV)} (h : Src es s v rows) (hk : ∀ b x, ownB v = some b -> s.heap.get b = some x -> s'.heap.get b = some x) : Src es s' v rows := h.imp id fun h => h.mono hk
theorem Src.grew {es : Nat} {s s' : St} {v : AV} {rows : List (List AV)} (h : Src es s v rows) (hg : Grew s s') : Src es s' v rows := h.mono fun _ _ _ hx => hg.get hx
theorem Src.first {es : Nat} {s : St} {v : AV} {rows : List (List AV)} (h : Src es s v rows) (hr : ∀ r ∈ rows, r.length = es) : firstA es rows.length (fun b => s.heap.get b) v = some rows.flatten := by
  rcases h with rfl | h
  . simp only [firstA, beq_d, ble_d, decide_true, Nat.le_refl, List.take_length]
  . exact h.first hr
theorem Src.nil {es : Nat} {s : St} {v : AV} {rows : List (List AV)} (h : Src es s v rows) : (v = .nils /\ rows = []) \/ ∀ {R : Type} (c : CallA) (K : AV -> St -> Option R) (t : St), stp c (.bin .eql .slice) [v, .nils] t K = K (.bool false) t := by
  rcases h with rfl | ⟨rfl, rfl⟩ | ⟨b, off, cap, cs, rfl, _⟩ | ⟨b, off, rfl, rfl⟩
  . exact .inr fun c K t => stp_ofv c K (fun H n => rfl) t
  . exact .inl ⟨rfl, rfl⟩
  . exact .inr fun c K t => stp_ofv c K (fun H n => rfl) t
  . exact .inr fun c K t => stp_ofv c K (fun H n => rfl) t
theorem Src.ro {es : Nat} {s : St} (z : Bool) (rows : List (List AV)) : Src es s (ro es z rows) rows := by
  unfold Go.Ai.ro; split
  . exact .inr (.inl ⟨rfl, rfl⟩)
  . exact .inl rfl
end Go.Ai
end
section
namespace Go.Ai
open Go
theorem QS.cells {es : Nat} {s : St} {v : AV} {rows : List (List AV)} (h : QS es s v rows) : v.cells = [v] /\ v.one = true := by
  rcases h with ⟨rfl, rfl⟩ | ⟨b, off, cap, cs, rfl, _⟩ | ⟨b, off, rfl, rfl⟩ <;> exact ⟨rfl, rfl⟩
abbrev row1 (v : AV) : List AV := [v]
theorem row1_len (l : List AV) : ∀ r ∈ l.map row1, r.length = 1 := fun r hr => by simp only [List.mem_map] at hr; obtain ⟨m, _, rfl⟩ := hr; rfl
structure Ow (s0 s : St) (jb : Pos) (Ls : List AV) (R : List (List AV)) (I : List (AV × List (List AV))) : Prop where
  wf0 : Wf s0
  lt : jb.toNat < s0.next.toNat
  wf : Wf s
  next : s0.next.toNat <= s.next.toNat
  keep : ∀ q x, q ≠ jb -> s0.heap.get q = some x -> s.heap.get q = some x
  own : ∀ (i : Nat) (L : AV) (r : List AV), Ls[i]? = some L -> R[i]? = some r -> QS 1 s L (r.map row1)
  len : Ls.length = R.length
  new : ∀ L ∈ Ls, ∀ b, ownB L = some b -> s0.next.toNat <= b.toNat
  apart : ∀ (i j : Nat) (L M : AV), i ≠ j -> Ls[i]? = some L -> Ls[j]? = some M -> ∀ b, ownB L = some b -> ownB M ≠ some b
  inn : ∀ e ∈ I, QS 1 s e.1 e.2 /\ ∀ b, ownB e.1 = some b -> b ≠ jb /\ ∀ L ∈ Ls, ownB L ≠ some b
section
variable {s0 s s' : St} {jb : Pos} {Ls : List AV} {R : List (List AV)} {I : List (AV × List (List AV))}
theorem Ow.grew (h : Ow s0 s jb Ls R I) (g : Grew s s') : Ow s0 s' jb Ls R I :=
  ⟨h.wf0, h.lt, g.wf, Nat.le_trans h.next g.next, fun q x hq hx => g.get (h.keep q x hq hx), fun i L r h1 h2 => (h.own i L r h1 h2).mono fun b x _ hx => g.get hx, h.len, h.new, h.apart,
    fun e he => ⟨(h.inn e he).1.mono fun b x _ hx => g.get hx, (h.inn e he).2⟩⟩
theorem Ow.ltL (h : Ow s0 s jb Ls R I) {L : AV} (hL : L ∈ Ls) {b : Pos} (hb : ownB L = some b) : b.toNat < s.next.toNat := by
  obtain ⟨i, hi, rfl⟩ := List.mem_iff_getElem.1 hL
  have hr : i < R.length := by rw [<- h.len]; exact hi
  exact (h.own i _ _ (List.getElem?_eq_getElem hi) (List.getElem?_eq_getElem hr)).lt h.wf hb
theorem Ow.more (h : Ow s0 s jb Ls R I) {w : AV} {rows : List (List AV)} (M : Mk 1 s s' w rows) : Ow s0 s' jb Ls R ((w, rows) :: I) := by
  have h2 := h.grew M.grew
  refine { h2 with inn := fun e he => ?_ }
  rcases List.mem_cons.1 he with rfl | he
  . refine ⟨M.own, fun b hb => ⟨fun e => ?_, fun L hL e => ?_⟩⟩
    . have := M.new b hb; have := h.next; have := h.lt; rw [e] at *; omega
    . have := M.new b hb; have := h.ltL hL e; omega
  . exact h2.inn e he
theorem Ow.store (h : Ow s0 s jb Ls R I) (b : AB) : Ow s0 (stt s jb b) jb Ls R I := by
  have aA : jb.toNat < s.next.toNat := Nat.lt_of_lt_of_le h.lt h.next
  have nL : ∀ L ∈ Ls, ∀ b, ownB L = some b -> jb ≠ b := fun L hL b hb e => by have := h.new L hL b hb; have := h.lt; rw [e] at *; omega
  refine ⟨h.wf0, h.lt, wf_stt h.wf aA, by rw [stt_next]; exact h.next, fun q x hq hx => by rw [get_stt_ne (fun e => hq e.symm)]; exact h.keep q x hq hx, fun i L r h1 h2 => ?_, h.len, h.new, h.apart, fun e he => ⟨?_, (h.inn e he).2⟩⟩
  . refine (h.own i L r h1 h2).mono fun b x hb hx => ?_
    rw [get_stt_ne (nL L (List.mem_of_getElem? h1) b hb)]; exact hx
  . refine (h.inn e he).1.mono fun b x hb hx => ?_
    rw [get_stt_ne (fun e2 => ((h.inn e he).2 b hb).1 e2.symm)]; exact hx
theorem Ow.push (h : Ow s0 s jb Ls R I) {c : CallA} {Q : Type} {bytes i : Nat} {L : AV} {r : List AV} (hL : Ls[i]? = some L) (hR : R[i]? = some r) {z : List AV} {x : AV} (hz : z.length = 1) (hx : x.cells = [x]) (h1 : x.one = true)
    (hb : (2 * (r.length + 1) + 768) * bytes <= 281474976710656) (hn : r.length <= 4000000) :
    ∃ s5 v', (∀ (K : AV -> St -> Option Q), stp c (.buildSlice 1 1 z [0]) [x] s (fun y t => stp c (.append 1 bytes) [L, y] t K) = K v' s5) /\ Ow s0 s5 jb (Ls.set i v') (R.set i (r ++ [x])) I /\ (∀ x, s.heap.get jb = some x -> s5.heap.get jb = some x) /\ (∀ p y, ownB L ≠ some p -> s.heap.get p = some y -> s5.heap.get p = some y) /\ v'.cells = [v'] /\ v'.one = true /\ s.next.toNat <= s5.next.toNat /\ ∀ b, ownB v' = some b -> s.next.toNat <= b.toNat := by
  have q := h.own i L r hL hR
  have vZ : i < Ls.length := (List.getElem?_eq_some_iff.1 hL).1
  have GI : L ∈ Ls := List.mem_of_getElem? hL
  obtain ⟨s5, v', a1, a2, a3, a4, a5, a6⟩ := QS.push (R := Q) (c := c) (bytes := bytes) h.wf q (row1_len r) hz (x := x) (by rw [hx]; rfl) (by rw [hx]; simp [allOne, h1]) (by decide) (by simpa using hb) (by simpa using hn)
  have hjlt : jb.toNat < s.next.toNat := Nat.lt_of_lt_of_le h.lt h.next
  have nj : ownB L ≠ some jb := fun e => by have := h.new L GI jb e; have := h.lt; omega
  refine ⟨s5, v', a1, ⟨h.wf0, h.lt, a3, Nat.le_trans h.next a4, fun q x hq hx => ?_, fun j M u h2 h3 => ?_, by simpa using h.len, fun M hM b hb => ?_, fun j k M N hjk h2 h3 b hb az => ?_, fun e he => ⟨?_, fun b hb => ⟨((h.inn e he).2 b hb).1, fun M hM az => ?_⟩⟩⟩, ?_, a5, a2.cells.1, a2.cells.2, a4, a6⟩
  . refine a5 q x (fun e => ?_) (h.keep q x hq hx)
    have := h.new L GI q e
    have := h.wf0 _ _ hx
    omega
  . by_cases e : i = j
    . subst e
      rw [List.getElem?_set_self vZ] at h2
      have hir : i < R.length := by rw [<- h.len]; exact vZ
      rw [List.getElem?_set_self hir] at h3
      cases h2; cases h3
      simpa [hx] using a2
    . rw [List.getElem?_set_ne e] at h2 h3
      exact (h.own j M u h2 h3).mono fun b x hb hx => a5 b x (fun e2 => h.apart i j L M e hL h2 b e2 hb) hx
  . rcases List.mem_or_eq_of_mem_set hM with hM | rfl
    . exact h.new M hM b hb
    . exact Nat.le_trans h.next (a6 b hb)
  . by_cases e : i = j
    . subst e
      rw [List.getElem?_set_self vZ] at h2
      cases h2
      rw [List.getElem?_set_ne hjk] at h3
      have := a6 b hb
      have := h.ltL (List.mem_of_getElem? h3) az
      omega
    . rw [List.getElem?_set_ne e] at h2
      by_cases e2 : i = k
      . subst e2
        rw [List.getElem?_set_self vZ] at h3
        cases h3
        have := a6 b az
        have := h.ltL (List.mem_of_getElem? h2) hb
        omega
      . rw [List.getElem?_set_ne e2] at h3
        exact h.apart j k M N hjk h2 h3 b hb az
  . exact (h.inn e he).1.mono fun b x hb hx => a5 b x (fun e2 => ((h.inn e he).2 b hb).2 L GI e2) hx
  . rcases List.mem_or_eq_of_mem_set hM with hM | rfl
    . exact ((h.inn e he).2 b hb).2 M hM az
    . have := a6 b az
      have := (h.inn e he).1.lt h.wf hb
      omega
  . exact fun x hx => a5 jb x nj hx
end
end Go.Ai
end
section
namespace Go.Ai
open Go
section
variable {s0 s s' : St} {jb : Pos} {Ls : List AV} {R : List (List AV)} {I : List (AV × List (List AV))}
theorem Ow.none (hw : Wf s) (hj : jb.toNat < s.next.toNat) (n : Nat) : Ow s s jb (List.replicate n .nils) (List.replicate n []) [] := by
  have hn : ∀ (i : Nat) (L : AV), (List.replicate n AV.nils)[i]? = some L -> L = .nils := fun i L h => by
    rw [List.getElem?_replicate] at h; split at h
    . cases h; rfl
    . cases h
  refine ⟨hw, hj, hw, Nat.le_refl _, fun _ _ _ h => h, fun i L r h1 h2 => ?_, by simp, fun L hL b hb => ?_, fun i j L M _ h1 _ b hb => ?_, fun e he => by cases he⟩
  . obtain rfl := hn i L h1
    rw [List.getElem?_replicate] at h2; split at h2
    . cases h2; exact QS.nil
    . cases h2
  . rw [List.mem_replicate] at hL; obtain ⟨_, rfl⟩ := hL; cases hb
  . obtain rfl := hn i L h1; cases hb
theorem Ow.take {L : AV} {r : List AV} (h : Ow s0 s jb (Ls ++ [L]) (R ++ [r]) I) : Ow s0 s jb Ls R ((L, r.map row1) :: I) := by
  have hl : Ls.length = R.length := by have := h.len; simpa using this
  have up : ∀ (i : Nat) (M : AV), Ls[i]? = some M -> (Ls ++ [L])[i]? = some M := fun i M h1 => by rw [List.getElem?_append_left (List.getElem?_eq_some_iff.1 h1).1]; exact h1
  have upR : ∀ (i : Nat) (M : List AV), R[i]? = some M -> (R ++ [r])[i]? = some M := fun i M h1 => by rw [List.getElem?_append_left (List.getElem?_eq_some_iff.1 h1).1]; exact h1
  have hL : (Ls ++ [L])[Ls.length]? = some L := by simp
  have hR : (R ++ [r])[Ls.length]? = some r := by rw [hl]; simp
  refine ⟨h.wf0, h.lt, h.wf, h.next, h.keep, fun i M u h1 h2 => h.own i M u (up i M h1) (upR i u h2), hl, fun M hM b hb => h.new M (List.mem_append_left _ hM) b hb, fun i j M N hij h1 h2 b hb az => h.apart i j M N hij (up i M h1) (up j N h2) b hb az, fun e he => ?_⟩
  rcases List.mem_cons.1 he with rfl | he
  . refine ⟨h.own _ _ _ hL hR, fun b hb => ⟨fun e => ?_, fun M hM az => ?_⟩⟩
    . have := h.new L (by simp) b hb; have := h.lt; rw [e] at *; omega
    . obtain ⟨i, hi, rfl⟩ := List.mem_iff_getElem.1 hM
      exact h.apart i Ls.length _ L (by omega) (up i _ (List.getElem?_eq_getElem hi)) hL b az hb
  . exact ⟨(h.inn e he).1, fun b hb => ⟨((h.inn e he).2 b hb).1, fun M hM => ((h.inn e he).2 b hb).2 M (List.mem_append_left _ hM)⟩⟩
end
theorem stp_put {R : Type} {c : CallA} (K : AV -> St -> Option R) {s : St} {p : Pos} {o : Nat} {cs : List AV} {v : AV} (h : s.heap.get p = some (.cells cs 0)) (ho : o < cs.length) (h1 : v.cells = [v]) (h2 : v.one = true) :
    stp c (.store 1) [.ptr p o, v] s K = K .undef (stt s p (.cells (cs.set o v) 0)) := by
  rw [stp_store c K s 1 p o v cs h (by rw [h1]; rfl) (by omega) (by rw [h1]; simp [allOne, h2]), h1, splice_one _ _ ho]
end Go.Ai
end
section
namespace Go.Ai
open Go
theorem QS.beq {es : Nat} {s : St} {v : AV} {rows : List (List AV)} (h : QS es s v rows) : beqAV v v = true := by
  rcases h with ⟨rfl, _⟩ | ⟨b, off, cap, cs, rfl, _⟩ | ⟨b, off, rfl, _⟩
  . rfl
  . cases cap <;> simp [beqAV, beqDeep, beqFlat, Pos.beq_eq.2 rfl]
  . simp [beqAV, beqDeep, beqFlat, Pos.beq_eq.2 rfl]
theorem nww_row {R : Type} {z : List AV} {x : AV} (hz : z.length = 1) (hx : x.cells = [x]) (s : St) (K : AV -> AB -> Option R) :
    nww (.buildSlice 1 1 z [0]) [x] s K = K (.slice s.next 0 1 (some 1) 1) (.cells [x] 0) := by
  have : fillA (repeatL z 1) ([0].map fun i => (i * 1, 1)) [x] = some [x] := by
    simp only [List.map_cons, List.map_nil, Nat.zero_mul, repeatL, List.append_nil, fillA, beq_d, ble_d, hx, decide_true, Nat.zero_add, hz, Nat.le_refl, List.length_cons, List.length_nil]
    simp only [splice, List.take_zero, List.nil_append, Nat.zero_add, List.length_cons, List.length_nil]
    rw [List.drop_of_length_le (by omega), List.append_nil]
  rw [nww_bslice, this]; rfl
theorem stp_row1 {R : Type} {c : CallA} {z : List AV} {x : AV} (hz : z.length = 1) (hx : x.cells = [x]) (s : St) (K : AV -> St -> Option R) :
    stp c (.buildSlice 1 1 z [0]) [x] s K = K (.slice s.next 0 1 (some 1) 1) (nst s (.cells [x] 0)) := by
  rw [stp_row hz (by rw [hx]; rfl), hx]
section
variable {s0 s s' : St} {jb : Pos} {Ls : List AV} {R : List (List AV)} {I : List (AV × List (List AV))}
theorem Ow.push1 (h : Ow s0 s jb Ls R I) {c : CallA} {Q : Type} (bytes : Nat) {i : Nat} {L : AV} {r : List AV} (hL : Ls[i]? = some L) (hR : R[i]? = some r) {x : AV} (hx : x.cells = [x]) (h1 : x.one = true)
    (hb : (2 * (r.length + 1) + 768) * bytes <= 281474976710656) (hn : r.length <= 4000000) :
    ∃ s5 v', (∀ (K : AV -> St -> Option Q), stp c (.append 1 bytes) [L, .slice s.next 0 1 (some 1) 1] (nst s (.cells [x] 0)) K = K v' s5) /\ Ow s0 s5 jb (Ls.set i v') (R.set i (r ++ [x])) I /\ (∀ x, s.heap.get jb = some x -> s5.heap.get jb = some x) /\ (∀ p y, ownB L ≠ some p -> s.heap.get p = some y -> s5.heap.get p = some y) /\ v'.cells = [v'] /\ v'.one = true /\ s.next.toNat <= s5.next.toNat /\ ∀ b, ownB v' = some b -> s.next.toNat <= b.toNat := by
  obtain ⟨s5, v', a1, a2⟩ := h.push (c := c) (Q := Q) (bytes := bytes) hL hR (z := [.int .i64 0]) rfl hx h1 hb hn
  refine ⟨s5, v', fun K => ?_, a2⟩
  rw [<- a1 K, stp_row1 rfl hx]
theorem Ow.mem_set {v' : AV} {i : Nat} {p : Pos} (hL : ∀ L ∈ Ls, ownB L ≠ some p) (hv : ownB v' ≠ some p) : ∀ L ∈ Ls.set i v', ownB L ≠ some p := fun L h => by
  rcases List.mem_or_eq_of_mem_set h with h | rfl
  . exact hL L h
  . exact hv
theorem Ow.put (h : Ow s0 s jb Ls R I) {H : List AV} (iI : s.heap.get jb = some (.cells (H ++ Ls) 0)) {c : CallA} {Q : Type} (bytes : Nat) {i : Nat} {L : AV} {r : List AV} (hL : Ls[i]? = some L) (hR : R[i]? = some r) {x : AV} (hx : x.cells = [x]) (h1 : x.one = true)
    (hb : (2 * (r.length + 1) + 768) * bytes <= 281474976710656) (hn : r.length <= 4000000) {o : Nat} (ho : o = H.length + i) :
    ∃ s5 s6 v', (∀ (K : AV -> St -> Option Q), stp c (.append 1 bytes) [L, .slice s.next 0 1 (some 1) 1] (nst s (.cells [x] 0)) K = K v' s5) /\ (∀ (K : AV -> St -> Option Q), stp c (.store 1) [.ptr jb o, v'] s5 K = K .undef s6) /\ Ow s0 s6 jb (Ls.set i v') (R.set i (r ++ [x])) I /\ s6.heap.get jb = some (.cells (H ++ Ls.set i v') 0) /\
      (∀ p y, p ≠ jb -> (∀ L ∈ Ls, ownB L ≠ some p) -> s.heap.get p = some y -> s6.heap.get p = some y /\ ∀ L ∈ Ls.set i v', ownB L ≠ some p) := by
  obtain ⟨s5, v', a1, a2, a3, a4, a5, a6, a7, a8⟩ := h.push1 (c := c) (Q := Q) bytes hL hR hx h1 hb hn
  have vZ : i < Ls.length := (List.getElem?_eq_some_iff.1 hL).1
  have hj := a3 _ iI
  have es : (H ++ Ls).set o v' = H ++ Ls.set i v' := by
    subst ho
    rw [List.set_append_right _ _ (by omega)]; congr 2; omega
  refine ⟨s5, stt s5 jb (.cells (H ++ Ls.set i v') 0), v', a1, fun K => ?_, a2.store _, get_stt _ _ _, fun p y hp hpL hy => ⟨?_, Ow.mem_set hpL fun e => ?_⟩⟩
  . rw [stp_put K hj (by rw [List.length_append]; omega) a5 a6, es]
  . rw [get_stt_ne (fun e => hp e.symm)]
    exact a4 p y (hpL L (List.mem_of_getElem? hL)) hy
  . have := a8 p e
    have := h.wf _ _ hy
    omega
end
end Go.Ai
end
section
noncomputable section
namespace Go.Ai
open Go
variable {R : Type} {c : CallA}
theorem stp_allocT (t : TypeId) (z : List AV) (st : St) (K : AV -> St -> Option R) : stp c (.allocT t z) [] st K = K (.ptr st.next 0) (nst st (.typed t z)) := rfl
theorem stp_storeT {st : St} {m : Nat} {p : Pos} {o : Nat} {v : AV} {t : TypeId} {cs : List AV} (h : st.heap.get p = some (.typed t cs)) (h1 : v.cells.length = m) (h2 : o + m <= cs.length) (h3 : allOne v.cells = true) (K : AV -> St -> Option R) :
    stp c (.store m) [.ptr p o, v] st K = K .undef (stt st p (.typed t (splice cs o v.cells))) := by
  have : OpK.run (fun b => st.heap.get b) st.next (.store m) [.ptr p o, v] = some (.eff .undef none (some (p, .typed t (splice cs o v.cells))) none) := by
    simp only [OpK.run, runStore, h, beq_d, ble_d, decide_eq_true h1, decide_eq_true h2, h3]
  unfold stp stepA; rw [this]; rfl
theorem stp_toU {st : St} {p : Pos} {o : Nat} {t : TypeId} {cs : List AV} (h : st.heap.get p = some (.typed t cs)) (ho : o < cs.length) (K : AV -> St -> Option R) : stp c .toU [.ptr p o] st K = K (.ptr p o) st := by
  have : OpK.run (fun b => st.heap.get b) st.next .toU [.ptr p o] = some (.val (.ptr p o)) := by
    have : Nat.blt o cs.length = true := by simpa using ho
    simp only [OpK.run, runToU, h, this]
  unfold stp stepA; rw [this]
theorem stp_fromU {st : St} {p : Pos} {t : TypeId} {n : Nat} {cs : List AV} (h : st.heap.get p = some (.typed t cs)) (hn : n <= cs.length) (K : AV -> St -> Option R) : stp c (.fromU t n) [.ptr p 0] st K = K (.ptr p 0) st := by
  have : OpK.run (fun b => st.heap.get b) st.next (.fromU t n) [.ptr p 0] = some (.val (.ptr p 0)) := by
    simp only [OpK.run, runFromU, h, beq_d, ble_d, decide_eq_true hn, decide_true]
  unfold stp stepA; rw [this]
abbrev u8s (s : List Nat) : List AV := s.map fun c => .int .u8 (.ofNat c)
theorem u8s_len (s : List Nat) : (u8s s).length = s.length := by simp
theorem stp_appT0 {st : St} {e bytes : TypeId} {u : List Nat} (h1 : (2 * (0 + u.length) + 768) * bytes <= 281474976710656) (h2 : 0 + u.length <= 9223372036854775807) (h0 : u.length ≠ 0) (K : AV -> St -> Option R) :
    stp c (.appendT e bytes) [.nils, .str u] st K = K (.slice st.next 0 (0 + u.length) none 1) (nst st (.typed e (u8s u))) := by
  have : OpK.run (fun b => st.heap.get b) st.next (.appendT e bytes) [.nils, .str u] = some (.eff (.slice st.next 0 (0 + u.length) none 1) none none (some (.typed e (u8s u)))) := by
    simp only [OpK.run, runAppendT, ble_d, beq_d, decide_eq_true h1, decide_eq_true h2, decide_eq_false h0]
  unfold stp stepA; rw [this]; rfl
theorem stp_appT {st : St} {e bytes : TypeId} {b : Pos} {aK u : List Nat} (h : st.heap.get b = some (.typed e (u8s aK))) (h1 : (2 * (aK.length + u.length) + 768) * bytes <= 281474976710656) (h2 : aK.length + u.length <= 9223372036854775807) (h0 : u.length ≠ 0) (K : AV -> St -> Option R) :
    stp c (.appendT e bytes) [.slice b 0 aK.length none 1, .str u] st K = K (.slice st.next 0 (aK.length + u.length) none 1) (st.eff (some b) none (some (.typed e (u8s (aK ++ u))))) := by
  have hcut : cut (u8s aK) 0 aK.length = some (u8s aK) := cut_all (u8s_len aK)
  have : OpK.run (fun b => st.heap.get b) st.next (.appendT e bytes) [.slice b 0 aK.length none 1, .str u] = some (.eff (.slice st.next 0 (aK.length + u.length) none 1) (some b) none (some (.typed e (u8s (aK ++ u))))) := by
    simp only [OpK.run, runAppendT, ble_d, beq_d, decide_eq_true h1, decide_eq_true h2, decide_eq_false h0, h, decide_true, hcut]
    simp [u8s]
  unfold stp stepA; rw [this]
theorem bytesOf_u8s : ∀ {s : List Nat}, (∀ x ∈ s, x < 256) -> bytesOf (u8s s) = some s
  | [], _ => rfl
  | x :: s, h => by
    have h1 : Nat.blt x 256 = true := by simpa using h x (by simp)
    have h2 := bytesOf_u8s (s := s) fun y hy => h y (List.mem_cons_of_mem _ hy)
    simp only [u8s, List.map_cons, bytesOf, h1] at h2 ⊢
    rw [h2]
theorem prr_sliceData {b : Pos} {off n es : Nat} {cp : Option Nat} (h : n ≠ 0) (K : AV -> Option R) : prr .sliceData [.slice b off n cp es] K = K (.ptr b off) := by
  have : OpK.run (fun _ => none) .h .sliceData [.slice b off n cp es] = some (.val (.ptr b off)) := by
    simp only [OpK.run, runSliceData, beq_d, decide_eq_false h]
  unfold prr; rw [this]
theorem prr_sliceData0 (K : AV -> Option R) : prr .sliceData [.nils] K = K .nilp := rfl
theorem stp_unsafeStr {st : St} {e : TypeId} {b : Pos} {s : List Nat} (h : st.heap.get b = some (.typed e (u8s s))) (h0 : s.length ≠ 0) (hm : s.length <= 9223372036854775807) (hs : ∀ x ∈ s, x < 256) (K : AV -> St -> Option R) :
    stp c (.unsafeStr e) [.ptr b 0, .int .i64 (s.length : Int)] st K = K (.str s) (st.eff (some b) none none) := by
  have hcut : cut (u8s s) 0 s.length = some (u8s s) := cut_all (u8s_len s)
  have : OpK.run (fun b => st.heap.get b) st.next (.unsafeStr e) [.ptr b 0, .int .i64 (s.length : Int)] = some (.eff (.str s) (some b) none none) := by
    show runUnsafeStr (fun b => st.heap.get b) st.next e [.ptr b 0, .int .i64 (.ofNat s.length)] = _
    simp only [runUnsafeStr, beq_d, ble_d, decide_eq_false h0, h, decide_true, hcut, decide_eq_true hm, bytesOf_u8s hs]
  unfold stp stepA; rw [this]
theorem stp_unsafeStr0 (e : TypeId) (st : St) (K : AV -> St -> Option R) : stp c (.unsafeStr e) [.nilp, .int .i64 0] st K = K (.str []) st := rfl
structure Wk (s : St) (v : AV) (s' : St) (v' : AV) : Prop where
  wf : Wf s'
  next : s.next.toNat <= s'.next.toNat
  keep : ∀ p b, ownB v ≠ some p -> s.heap.get p = some b -> s'.heap.get p = some b
  new : ∀ p, ownB v' = some p -> ownB v = some p \/ s.next.toNat <= p.toNat
theorem Wk.refl {s : St} {v : AV} (h : Wf s) : Wk s v s v := ⟨h, Nat.le_refl _, fun _ _ _ h => h, fun _ h => .inl h⟩
theorem Wk.trans {s s1 s2 : St} {v v1 v2 : AV} (hw : Wf s) (h : Wk s v s1 v1) (k : Wk s1 v1 s2 v2) : Wk s v s2 v2 :=
  ⟨k.wf, Nat.le_trans h.next k.next, fun p b hp hb => k.keep p b (fun e => by
    rcases h.new p e with h1 | h1
    . exact hp h1
    . have := hw p b hb; omega) (h.keep p b hp hb), fun p hp => by
    rcases k.new p hp with h1 | h1
    . exact h.new p h1
    . exact .inr (Nat.le_trans h.next h1)⟩
theorem Wk.grew {s s1 : St} {v : AV} (h : Grew s s1) : Wk s v s1 v := ⟨h.wf, h.next, fun _ _ _ hb => h.get hb, fun _ hp => .inl hp⟩
theorem Wk.keeps {s s' : St} {v : AV} (h : Wk s .nils s' v) : Keeps s s' := fun b x hb => h.keep b x (by simp [ownB]) hb
theorem QS.pushF {bytes : Nat} {s : St} {v : AV} {rows : List (List AV)} (hw : Wf s) (h : QS 1 s v rows) (hr : ∀ r ∈ rows, r.length = 1) {z : List AV} {x : AV} (hz : z.length = 1) (hx : x.cells.length = 1) (h1 : allOne x.cells = true)
    (hb : (2 * (rows.length + 1) + 768) * bytes <= 281474976710656) (hn : rows.length <= 4000000) :
    ∃ s5 v', (∀ (K : AV -> St -> Option R), stp c (.buildSlice 1 1 z [0]) [x] s (fun y t => stp c (.append 1 bytes) [v, y] t K) = K v' s5) /\ QS 1 s5 v' (rows ++ [x.cells]) /\ Wk s v s5 v' := by
  obtain ⟨s5, v', a1, a2, a3, a4, a5, a6⟩ := h.push (R := R) (c := c) (bytes := bytes) hw hr hz hx h1 (by decide) hb hn
  exact ⟨s5, v', a1, a2, a3, a4, a5, fun p hp => .inr (a6 p hp)⟩
end Go.Ai
end
section
namespace Go.Ai
open Go
section
variable {H : Type} (Ok : DataW H -> Prop) (enc : TypeId × Value -> H) (P : Program) (w : World) (base : Nat) (spare : Nat -> Bool) (held : Bool)
def OpensK (t : TypeId) (Q : List AV -> Prop) : Prop :=
  ∀ (fuel : Nat) (cs : List Value) (x : DataW H × List MemPlace), DataW.trod enc P w base spare held fuel t cs = some x -> Ok x.1 ->
    ∃ as, Q as /\ ∀ ρ n, VsRel ρ n (fun ad => w.cell? ad) as cs
variable {Ok enc P w base spare held}
theorem OpensK.of {t : TypeId} {Q : List AV -> Prop} (h : Opens enc P w base spare held t Q) : OpensK Ok enc P w base spare held t Q := fun fuel cs x hx _ => h fuel cs x hx
theorem OpensK.mono {t : TypeId} {Q Q' : List AV -> Prop} (h : OpensK Ok enc P w base spare held t Q) (k : ∀ as, Q as -> Q' as) : OpensK Ok enc P w base spare held t Q' :=
  fun fuel cs x hx hk => by obtain ⟨as, h1, h2⟩ := h fuel cs x hx hk; exact ⟨as, k _ h1, h2⟩
theorem opensK_slice {N : Nat} {t e : TypeId} {es : Nat} {Q : List AV -> Prop} (ht : P.underlying t = some (.slice e)) (hc : P.cellsOf e = es) (cg : 0 < es) (hQ : ∀ as, Q as -> as.length = es) (bf : ∀ e s, Ok (.slice e s) -> e.length <= N /\ ∀ d ∈ e, Ok d) (h : OpensK Ok enc P w base spare held e Q) :
    OpensK Ok enc P w base spare held t fun as => ∃ z rs, as = [ro es z rs] /\ (∀ r ∈ rs, Q r) /\ rs.length <= N :=
  fun fuel cs x hx hk => by
    rcases DataW.trod_slice ht hx with ⟨rfl, _⟩ | ⟨a, len, cap, elems, rest, n, _, rfl, rfl, hb, hl, hm, hlen, hel, _, _⟩
    . exact ⟨_, ⟨true, [], rfl, by simp, by simp⟩, fun ρ m => VsRel.cons .nils VsRel.nil⟩
    . obtain ⟨hN, hE⟩ := bf _ _ hk
      simp only [List.length_map] at hN
      have each : ∀ i, ∃ r row, i < len -> (Q r /\ w.cells? base (a.add (i * es)) es = some row /\ ∀ ρ m, VsRel ρ m (fun ad => w.cell? ad) r row) := by
        intro i
        by_cases hi : i < len
        . have h1 := hel i hi
          rw [List.getElem?_eq_getElem (by omega), hc] at h1
          cases h2 : w.cells? base (a.add (i * es)) es with
          | none => rw [h2] at h1; cases h1
          | some row =>
            rw [h2] at h1
            obtain ⟨r, hr, hv⟩ := h n row _ h1 (hE _ (List.mem_map_of_mem (List.getElem_mem _)))
            exact ⟨r, row, fun _ => ⟨hr, rfl, hv⟩⟩
        . exact ⟨[], [], fun h => absurd h hi⟩
      obtain ⟨r, each⟩ := Classical.axiomOfChoice each
      obtain ⟨row, hr⟩ := Classical.axiomOfChoice each
      have BK : 0 < len -> a.spot = none := fun h0 => by
        obtain ⟨_, h1, _⟩ := hr 0 h0
        have := (World.cells?_some h1).2.2 0 cg
        have hl := (World.cells?_some h1).2.1
        rw [List.getElem?_eq_getElem (by omega)] at this
        simp only [Nat.zero_mul, Addr.add, if_true] at this
        unfold World.cell? at this
        split at this
        . split at this
          . cases this
          . rename_i h; simpa using h
        . cases this
      have KE : ((List.range len).map r).length = len := by simp
      have get : ∀ (i : Nat) (c : List AV), ((List.range len).map r)[i]? = some c -> i < len /\ c = r i := fun i c hi => by
        rw [List.getElem?_map] at hi
        by_cases h : i < len
        . rw [List.getElem?_range h] at hi; simp at hi; exact ⟨h, hi.symm⟩
        . rw [List.getElem?_eq_none (by simpa using h)] at hi; cases hi
      refine ⟨_, ⟨false, (List.range len).map r, rfl, ?_, by simp; omega⟩, fun ρ m => VsRel.cons ?_ VsRel.nil⟩
      . intro q hq
        simp only [List.mem_map, List.mem_range] at hq
        obtain ⟨i, hi, rfl⟩ := hq
        exact (hr i hi).1
      . have key : VRel ρ m (fun ad => w.cell? ad) (.fl ((List.range len).map r) es) (.slice (some a) ((List.range len).map r).length cap) := by
          refine .fl _ es cap a (fun i j => ((row i)[j]?).getD .nilFunc) (by omega) (fun h0 => BK ?_) (fun i c hi => ?_) (fun i j c v hi hj => ?_) (fun i j c v hi hj => ?_)
          . apply Classical.byContradiction; intro h; apply h0
            have : len = 0 := by omega
            subst this; rfl
          . obtain ⟨h1, rfl⟩ := get i c hi
            exact hQ _ (hr i h1).1
          . obtain ⟨h1, rfl⟩ := get i c hi
            obtain ⟨q1, q2, q3⟩ := hr i h1
            have cm : j < es := by rw [<- hQ _ q1]; exact (List.getElem?_eq_some_iff.1 hj).1
            have q4 := (World.cells?_some q2).2.2 j cm
            have q5 := (World.cells?_some q2).2.1
            have hs := BK (by omega)
            have e1 : (a.add (i * es)).add j = ⟨a.block, a.off + i * es + j, none⟩ := by
              obtain ⟨blk, off, spot⟩ := a
              simp only at hs; subst hs
              unfold Addr.add
              by_cases e1 : i * es = 0 <;> by_cases e2 : j = 0 <;> simp [e1, e2]
            rw [e1] at q4
            show w.cell? _ = _
            rw [q4, List.getElem?_eq_getElem (by omega)]; rfl
          . obtain ⟨h1, rfl⟩ := get i c hi
            obtain ⟨q1, q2, q3⟩ := hr i h1
            have cm : j < es := by rw [<- hQ _ q1]; exact (List.getElem?_eq_some_iff.1 hj).1
            have q5 := (World.cells?_some q2).2.1
            refine (q3 ρ m).2 j v _ hj ?_
            rw [List.getElem?_eq_getElem (by omega)]; rfl
        rw [KE] at key
        exact key
end
end Go.Ai
end
section
namespace Go.Ai
open Go Go.WideShapes
section
variable {H : Type} (enc : TypeId × Value -> H) (P : Program) (w : World) (base : Nat) (spare : Nat -> Bool) (held : Bool)
def OpensR (t : TypeId) (Q : DataW H -> List AV -> Prop) : Prop :=
  ∀ (fuel : Nat) (cs : List Value) (x : DataW H × List MemPlace), DataW.trod enc P w base spare held fuel t cs = some x ->
    ∃ as, Q x.1 as /\ ∀ ρ n, VsRel ρ n (fun ad => w.cell? ad) as cs
def OpensRF : List TypeId -> List (DataW H -> List AV -> Prop) -> Prop
  | [], [] => True
  | f :: fs, Q :: Qs => OpensR enc P w base spare held f Q /\ OpensRF fs Qs
  | _, _ => False
def All3 : List (DataW H -> List AV -> Prop) -> List (DataW H) -> List (List AV) -> Prop
  | [], [], [] => True
  | Q :: Qs, d :: ds, p :: ps => Q d p /\ All3 Qs ds ps
  | _, _, _ => False
variable {enc P w base spare held}
theorem all3_cons {Q : DataW H -> List AV -> Prop} {Qs : List (DataW H -> List AV -> Prop)} {ds : List (DataW H)} {ps : List (List AV)} (h : All3 (Q :: Qs) ds ps) : ∃ d es p qs, ds = d :: es /\ ps = p :: qs /\ Q d p /\ All3 Qs es qs := by
  match ds, ps with
  | [], _ => exact h.elim
  | _ :: _, [] => exact h.elim
  | d :: es, p :: qs => exact ⟨d, es, p, qs, rfl, rfl, h⟩
theorem all3_nil {ds : List (DataW H)} {ps : List (List AV)} (h : All3 [] ds ps) : ds = [] /\ ps = [] := by
  match ds, ps with
  | [], [] => exact ⟨rfl, rfl⟩
  | [], _ :: _ => exact h.elim
  | _ :: _, _ => exact h.elim
theorem OpensR.of {t : TypeId} {Q : List AV -> Prop} (h : Opens enc P w base spare held t Q) : OpensR enc P w base spare held t fun _ => Q := fun fuel cs x hx => h fuel cs x hx
theorem OpensR.toK {Ok : DataW H -> Prop} {t : TypeId} {Q : DataW H -> List AV -> Prop} {Q' : List AV -> Prop} (h : OpensR enc P w base spare held t Q) (k : ∀ d as, Ok d -> Q d as -> Q' as) : OpensK Ok enc P w base spare held t Q' :=
  fun fuel cs x hx hk => by obtain ⟨as, h1, h2⟩ := h fuel cs x hx; exact ⟨as, k _ _ hk h1, h2⟩
theorem opensR_str {t : TypeId} (ht : P.underlying t = some .string) : OpensR enc P w base spare held t fun d as => ∃ (s : List Nat) (b : List UInt8), as = [.str s] /\ d = .lit (.string b) /\ b.length = s.length /\ ∀ x ∈ s, x < 256 :=
  fun fuel cs x hx => by
    obtain ⟨s, rfl, rfl, h⟩ := DataW.trod_string ht hx
    refine ⟨_, ⟨s.data.toList.map UInt8.toNat, s.data.toList, rfl, rfl, by simp, ?_⟩, fun ρ m => VsRel.cons (.str _ s rfl) VsRel.nil⟩
    intro x hx; simp only [List.mem_map] at hx; obtain ⟨y, _, rfl⟩ := hx; exact y.toNat_lt
theorem opensR_fields {yx n : Nat} : ∀ (fs : List Field) (Qs : List (DataW H -> List AV -> Prop)) (xs : List (DataW H × List MemPlace)) (o : Nat) (cs : List Value), Contig P yx o fs = true -> OpensRF enc P w base spare held (fs.map (·.type)) Qs -> cs.length = yx -> xs.length = fs.length ->
    (∀ (i : Nat) f y, fs[i]? = some f -> xs[i]? = some y -> DataW.trod enc P w base spare held n f.type ((cs.drop f.offset).take (P.cellsOf f.type)) = some y) ->
    ∃ parts, All3 Qs (xs.map (·.1)) parts /\ ∀ ρ m, VsRel ρ m (fun ad => w.cell? ad) parts.flatten (cs.drop o)
  | [], [], [], o, cs, hc, _, hl, _, _ => by
    simp only [Contig, beq_iff_eq] at hc
    refine ⟨[], trivial, fun ρ m => ?_⟩
    rw [List.drop_eq_nil_of_le (by omega)]; exact VsRel.nil
  | f :: fs, Q :: Qs, y :: xs, o, cs, hc, hO, hl, hlen, hf => by
    simp only [Contig, Bool.and_eq_true, beq_iff_eq] at hc
    obtain ⟨as, hq, hv⟩ := hO.1 n _ y (hf 0 f y rfl rfl)
    obtain ⟨parts, hp, oP⟩ := opensR_fields fs Qs xs _ cs hc.2 hO.2 hl (by simpa using hlen) (fun i g z hg hz => hf (i + 1) g z hg hz)
    refine ⟨as :: parts, ⟨hq, hp⟩, fun ρ m => ?_⟩
    have e : cs.drop o = (cs.drop f.offset).take (P.cellsOf f.type) ++ cs.drop (o + P.cellsOf f.type) := by
      rw [hc.1, <- List.drop_drop, List.take_append_drop]
    rw [e, List.flatten_cons]
    exact (hv ρ m).append (oP ρ m)
theorem opensR_struct {t : TypeId} (ts : List TypeId) {Qs : List (DataW H -> List AV -> Prop)} (hs : isStruct P t = true) (iO : (fieldsOf P t).map (·.type) = ts) (hc : Contig P (P.cellsOf t) 0 (fieldsOf P t) = true) (hO : OpensRF enc P w base spare held ts Qs) :
    OpensR enc P w base spare held t fun d as => ∃ ds parts, d = .agg ds /\ as = parts.flatten /\ All3 Qs ds parts :=
  fun fuel cs x hx => by
    obtain ⟨fs, ht⟩ : ∃ fs, P.underlying t = some (.struct fs) := by
      unfold isStruct at hs
      cases h : P.underlying t with
      | none => rw [h] at hs; cases hs
      | some d => rw [h] at hs; cases d <;> first | exact ⟨_, rfl⟩ | cases hs
    have ef : fieldsOf P t = fs.toList := by unfold fieldsOf; rw [ht]
    rw [ef] at iO hc
    subst iO
    obtain ⟨xs, n, _, rfl, hl, hxl, hf⟩ := DataW.trod_struct ht hx
    obtain ⟨parts, hp, hv⟩ := opensR_fields fs.toList Qs xs 0 cs hc hO hl (by simpa using hxl) (fun i f y hi hy => by
      have eA : fs[i]? = some f := by rw [<- Array.getElem?_toList]; exact hi
      rw [hf i f eA]; exact hy)
    exact ⟨_, ⟨_, parts, rfl, rfl, hp⟩, fun ρ m => hv ρ m⟩
theorem openK_slice_arg {Ok : DataW H -> Prop} {t e : TypeId} {Q : List AV -> Prop} {r : Go.Reach} {b0 : Nat} {v : Value} {d : DataW H} {p : List MemPlace} (ho : OpensK Ok enc P w base spare held t Q) (ht : P.underlying t = some (.slice e))
    (hval : Value.okWide P w r b0 t v) (hd : DataW.Trod enc P w base spare held t v d p) (hk : Ok d) : ∃ as, Q as /\ ∀ ρ n, VsRel ρ n (fun ad => w.cell? ad) as [v] := by
  obtain ⟨a, len, cap, rfl⟩ := okWide_slice ht hval
  obtain ⟨fuel, hf⟩ := hd
  exact ho _ _ _ hf hk
end
end Go.Ai
end
