/- What the plain functions answer: names and what is asked of a rule. -/
import Derived.Test.YtehbdakjkjkekaaGreatDoorPlainA
import Derived.Test.YtehbdakjkjkekaaGreatDoorEvalE
set_option linter.all false
set_option linter.unusedSectionVars false
set_option linter.deprecated false
section
set_option maxRecDepth 100000
namespace Go.Proofs.YtehbdakjkjkekaaGreatDoor
open Go Go.Ai Go.Proofs
variable {c : CallA}
def r4 (N0 : Nat) (s : St) (X : Pos) (bs : List Nat) : Prop :=
  X.toNat < N0 /\ N0 <= s.next.toNat /\ (∀ x ∈ bs, x < 256) /\ ∃ p v, s.heap.get X = some (.typed 81 [p, v]) /\ (p = .nilp \/ p = .ptr X 0) /\
    ((v = .nils /\ bs = []) \/ ∃ Y, v = .slice Y 0 bs.length none 1 /\ s.heap.get Y = some (.typed 5 (u8s bs)) /\ N0 <= Y.toNat /\ bs ≠ [])
theorem qv {st st' : St} {X : Pos} {x y : AB} (h : st.heap.get X = some x) (h' : st'.heap.get X = some y) (aI : x ≠ y) : ¬ Keeps st st' := fun k => by
  have := k X x h
  rw [h'] at this
  exact aI (Option.some.inj this).symm
theorem oE {st st' : St} {v : AV} (h : ¬ Keeps st st') : tidy st (v, st') = (v, st') := by
  unfold tidy; rw [if_neg]
  exact fun e => h e.2
theorem Plain.LJ : Plain (.tuple []) := Plain.tuple (fun v h => by cases h)
theorem r5 (hc : Sem c) {s : St} {X : Pos} {p v : AV} (h : s.heap.get X = some (.typed 81 [p, v])) (hp : p = .nilp \/ p = .ptr X 0) :
    ∃ s', c 105 [.ptr X 0] s = some (.tuple [], s') /\ s'.heap.get X = some (.typed 81 [.ptr X 0, v]) /\ (∀ b, b ≠ X -> s'.heap.get b = s.heap.get b) /\ s'.next = s.next := by
  rcases hp with rfl | rfl
  . refine ⟨stt s X (.typed 81 [.ptr X 0, v]), ?_, get_stt _ _ _, fun b hb => get_stt_ne (fun e => hb e.symm), rfl⟩
    rw [eC hc 1 (r := (.tuple [], stt s X (.typed 81 [.ptr X 0, v]))), oE (qv h (get_stt _ _ _) (by simp))]
    rw [dI]
    have e1 : ∀ (K : AV -> St -> Option (AV × St)) (t : St), stp c (.bin .eql .ptr) [.nilp, .nilp] t K = K (.bool true) t := fun K t => rfl
    have e2 : ∀ (K : AV -> St -> Option (AV × St)), stp c .toU [.ptr X 0] s K = K (.ptr X 0) s := fun K => stp_toU h (by simp) K
    have e3 : ∀ (K : AV -> St -> Option (AV × St)), stp c (.fromU 81 2) [.ptr X 0] s K = K (.ptr X 0) s := fun K => stp_fromU h (by simp) K
    have e4 : ∀ (K : AV -> St -> Option (AV × St)), stp c (.store 1) [.ptr X 0, .ptr X 0] s K = K .undef (stt s X (.typed 81 [.ptr X 0, v])) := fun K => stp_storeT (m := 1) h rfl (by simp) rfl K
    have e5 := vz hc (.ptr X 0) s
    simp [h, e1, e2, e3, e4, e5]
  . refine ⟨s, ?_, h, fun _ _ => rfl, rfl⟩
    rw [eC hc 1 (r := (.tuple [], s)), tidy_eq Plain.LJ (Keeps.refl s)]
    rw [dI]
    have e1 : ∀ (K : AV -> St -> Option (AV × St)) (t : St), stp c (.bin .eql .ptr) [.ptr X 0, .nilp] t K = K (.bool false) t := fun K t => rfl
    have e2 : ∀ (K : AV -> St -> Option (AV × St)) (t : St), stp c (.bin .neq .ptr) [.ptr X 0, .ptr X 0] t K = K (.bool false) t := fun K t => stp_ofv c K (fun H n => by simp [OpK.run, runBin, binA, eqBy, Pos.beq_eq.2 rfl]) t
    simp [h, e1, e2]
theorem qc (hc : Sem c) {N0 : Nat} {s : St} {X : Pos} {bs u : List Nat} (hw : Wf s) (h : r4 N0 s X bs) (hu : u ≠ []) (hu2 : ∀ x ∈ u, x < 256) (hl : bs.length + u.length <= 140000000000000) :
    ∃ s', c 36 [.ptr X 0, .str u] s = some (.tuple [.int .i64 (u.length : Int), .nili], s') /\ r4 N0 s' X (bs ++ u) /\ Wf s' /\ (∀ b, b ≠ X -> b.toNat < N0 -> s'.heap.get b = s.heap.get b) := by
  obtain ⟨h1, h2, h3, p, v, hX, hp, hv⟩ := h
  obtain ⟨s1, c1, c2, c3, c4⟩ := r5 hc hX hp
  have bJ : Wf s1 := fun b x hb => by
    rw [c4]
    by_cases e : b = X
    . subst e; exact hw _ _ hX
    . rw [c3 b e] at hb; exact hw _ _ hb
  have vR : u.length ≠ 0 := fun e => hu (List.eq_nil_of_length_eq_zero e)
  have kS : ∀ x ∈ bs ++ u, x < 256 := fun x hx => (List.mem_append.1 hx).elim (h3 x) (hu2 x)
  have key : ∃ s2, (∀ (K : AV -> St -> Option (AV × St)), stp c (.appendT 5 1) [v, .str u] s1 K = K (.slice s1.next 0 (bs.length + u.length) none 1) s2) /\ s2.heap.get X = some (.typed 81 [.ptr X 0, v]) /\
      s2.heap.get s1.next = some (.typed 5 (u8s (bs ++ u))) /\ Wf s2 /\ s2.next = s1.next.succ /\ ∀ b, b.toNat < N0 -> s2.heap.get b = s1.heap.get b := by
    have hXs : X.toNat < s1.next.toNat := by rw [c4]; omega
    rcases hv with ⟨rfl, rfl⟩ | ⟨Y, rfl, hY, hN, hb⟩
    . refine ⟨nst s1 (.typed 5 (u8s u)), fun K => by simpa using stp_appT0 (c := c) (st := s1) (e := 5) (bytes := 1) (u := u) (by omega) (by omega) vR K, by rw [get_nst_old hXs]; exact c2, get_nst _ _, wf_nst bJ, rfl, fun b hb => get_nst_old (by rw [c4]; omega)⟩
    . have hYX : Y ≠ X := fun e => by subst e; omega
      have hY1 : s1.heap.get Y = some (.typed 5 (u8s bs)) := by rw [c3 Y hYX]; exact hY
      have dm : ∀ b, b ≠ Y -> b ≠ s1.next -> (s1.eff (some Y) none (some (.typed 5 (u8s (bs ++ u))))).heap.get b = s1.heap.get b := fun b aF az => by
        show (T.put _ s1.next (T.put none Y s1.heap)).get b = _
        rw [T.get_put_ne _ (fun e => az e.symm), T.get_put_ne _ (fun e => aF e.symm)]
      refine ⟨s1.eff (some Y) none (some (.typed 5 (u8s (bs ++ u)))), fun K => stp_appT hY1 (by omega) (by omega) vR K, by rw [dm X (fun e => hYX e.symm) (fun e => by rw [e] at hXs; omega)]; exact c2, T.get_put _ _ _, fun b x hb => ?_, rfl, fun b hb => dm b (fun e => by subst e; omega) (fun e => by subst e; rw [c4] at hb; omega)⟩
      show b.toNat < s1.next.succ.toNat
      rw [Pos.toNat_succ]
      by_cases e1 : b = s1.next
      . subst e1; omega
      . by_cases e2 : b = Y
        . subst e2; have := bJ _ _ hY1; omega
        . rw [dm b e2 e1] at hb; have := bJ _ _ hb; omega
  obtain ⟨s2, k1, k2, k3, k4, k5, k6⟩ := key
  have aI : bs ++ u ≠ [] := by simp [hu]
  have hXn : X ≠ s1.next := fun e => by rw [c4] at e; subst e; omega
  have GJ : (stt s2 X (.typed 81 [.ptr X 0, .slice s1.next 0 (bs.length + u.length) none 1])).heap.get X = some (.typed 81 [.ptr X 0, .slice s1.next 0 (bs.length + u.length) none 1]) := get_stt _ _ _
  refine ⟨stt s2 X (.typed 81 [.ptr X 0, .slice s1.next 0 (bs.length + u.length) none 1]), ?_, ⟨h1, by rw [stt_next, k5, Pos.toNat_succ, c4]; omega, kS, .ptr X 0, .slice s1.next 0 (bs.length + u.length) none 1, GJ, .inr rfl, .inr ⟨s1.next, by rw [List.length_append], by rw [get_stt_ne hXn]; exact k3, by rw [c4]; omega, aI⟩⟩, fun b x hb => ?_, fun b aF az => ?_⟩
  . rw [gR hc 1 (r := (.tuple [.int .i64 (u.length : Int), .nili], stt s2 X (.typed 81 [.ptr X 0, .slice s1.next 0 (bs.length + u.length) none 1]))), oE (qv hX GJ (by
      rcases hv with ⟨rfl, rfl⟩ | ⟨Y, rfl, hY, hN, hb⟩
      . simp
      . simp; intros; omega))]
    rw [eX]
    have e4 : ∀ (K : AV -> St -> Option (AV × St)), stp c (.store 1) [.ptr X 1, .slice s1.next 0 (bs.length + u.length) none 1] s2 K = K .undef (stt s2 X (.typed 81 [.ptr X 0, .slice s1.next 0 (bs.length + u.length) none 1])) := fun K => stp_storeT (m := 1) k2 rfl (by simp) rfl K
    simp [c1, c2, k1, e4]
  . rw [stt_next]
    by_cases e : b = X
    . subst e; rw [k5, Pos.toNat_succ, c4]; omega
    . rw [get_stt_ne (fun e' => e e'.symm)] at hb; exact k4 _ _ hb
  . rw [get_stt_ne (fun e => aF e.symm), k6 b az, c3 b aF]
theorem w7 (hc : Sem c) {N0 : Nat} {s : St} {X : Pos} {bs : List Nat} (h : r4 N0 s X bs) (hl : bs.length <= 140000000000000) :
    ∃ s', c 37 [.ptr X 0] s = some (.str bs, s') /\ ∀ b, b.toNat < N0 -> s'.heap.get b = s.heap.get b := by
  obtain ⟨h1, h2, h3, p, v, hX, hp, hv⟩ := h
  rcases hv with ⟨rfl, rfl⟩ | ⟨Y, rfl, hY, hN, hb⟩
  . refine ⟨s, ?_, fun _ _ => rfl⟩
    rw [fD hc 1 (r := (.str [], s)), tidy_eq (Plain.str _) (Keeps.refl s)]
    rw [ew]
    have e0 : ∀ (K : AV -> Option (AV × St)), prr (.lenB .l) [.nils] K = K (.int .i64 0) := fun K => rfl
    simp [hX, e0, prr_sliceData0, stp_unsafeStr0]
  . have fy : bs.length ≠ 0 := fun e => hb (List.eq_nil_of_length_eq_zero e)
    refine ⟨s.eff (some Y) none none, ?_, fun b hb => T.get_put_ne _ (fun e => by subst e; omega) _⟩
    have KF : (s.eff (some Y) none none).heap.get Y = none := T.get_put _ _ _
    rw [fD hc 1 (r := (.str bs, s.eff (some Y) none none)), oE (fun k => by
      have := k Y _ hY
      rw [KF] at this; cases this)]
    rw [ew]
    have e1 : ∀ (K : AV -> Option (AV × St)), prr .sliceData [.slice Y 0 bs.length none 1] K = K (.ptr Y 0) := fun K => prr_sliceData fy K
    have e2 : ∀ (K : AV -> St -> Option (AV × St)), stp c (.unsafeStr 5) [.ptr Y 0, .int .i64 (bs.length : Int)] s K = K (.str bs) (s.eff (some Y) none none) := fun K => stp_unsafeStr hY fy (by omega) h3 K
    have e0 : ∀ (K : AV -> Option (AV × St)), prr (.lenB .l) [.slice Y 0 bs.length none 1] K = K (.int .i64 (bs.length : Int)) := fun K => rfl
    simp [hX, e0, e1, e2]
end Go.Proofs.YtehbdakjkjkekaaGreatDoor
end
section
set_option maxRecDepth 100000
namespace Go.Proofs.YtehbdakjkjkekaaGreatDoor
open Go Go.Ai Go.Proofs
variable {c : CallA}
def cZ (s : List Nat) : Bool := decide (1 <= s.length) && decide (s.length <= 12) && s.all fun c => decide (97 <= c /\ c <= 122)
theorem Cf (s : List Nat) (hs : s.length <= 12) (F : Nat) (st : St) (k1 k2) : ∀ (m k : Nat), s.length <= k + m -> k <= s.length ->
    bR c F k1 k2 (m + 1) [.str s, .int .i64 (k : Int)] st = if (s.drop k).all (fun c => decide (97 <= c /\ c <= 122)) = true then k2 [] st else k1 [.bool false] st := by
  intro m
  induction m with
  | zero =>
    intro k h1 h2
    rw [bR]
    obtain rfl : k = s.length := by omega
    simp
  | succ m ih =>
    intro k h1 h2
    rw [bR]
    by_cases h : k < s.length
    . have e : s.drop k = s[k] :: s.drop (k + 1) := List.drop_eq_getElem_cons h
      have := ih (k + 1) (by omega) (by omega)
      have w : wrapI .i64 ((k : Int) + 1) = ((k + 1 : Nat) : Int) := wrap64 (by omega) (by omega)
      rw [e, List.all_cons]
      generalize (s.drop (k + 1)).all _ = rest at this ⊢
      by_cases h3 : (s[k] : Int) < 97
      . have h5 : decide (97 <= s[k] /\ s[k] <= 122) = false := by simp; omega
        simp [h, h3, h5]
      . by_cases h4 : 122 < (s[k] : Int)
        . have h5 : decide (97 <= s[k] /\ s[k] <= 122) = false := by simp; omega
          simp [h, h3, h4, h5]
        . have h5 : decide (97 <= s[k] /\ s[k] <= 122) = true := by simp; omega
          rw [h5, Bool.true_and, <- this]
          simp [h, h3, h4, w]
    . obtain rfl : k = s.length := by omega
      simp
theorem nM (hc : Sem c) (s : List Nat) (st : St) : c 106 [.str s] st = some (.bool (cZ s), st) := by
  rw [mC hc (s.length + 1) (r := (.bool (cZ s), st)), tidy_eq (Plain.bool _) (Keeps.refl st)]
  rw [ia]
  by_cases h0 : (s.length : Int) < 1
  . have h1 : ¬ 1 <= s.length := by omega
    simp [cZ, h0, h1]
  . by_cases h1 : 12 < (s.length : Int)
    . have h2 : ¬ s.length <= 12 := by omega
      simp [cZ, h0, h1, h2]
    . have h2 : s.length <= 12 := by omega
      have h3 : 1 <= s.length := by omega
      have L : ∀ k1 k2, bR c (s.length + 1) k1 k2 (s.length + 1) [.str s, .int .i64 0] st = if (s.drop 0).all (fun c => decide (97 <= c /\ c <= 122)) = true then k2 [] st else k1 [.bool false] st :=
        fun k1 k2 => Cf (c := c) s h2 (s.length + 1) st k1 k2 s.length 0 (by omega) (by omega)
      rw [List.drop_zero] at L
      have e : cZ s = s.all fun c => decide (97 <= c /\ c <= 122) := by simp [cZ, h2, h3]
      rw [e]
      generalize (s.all _) = b at L ⊢
      simp [h0, h1, L]
      cases b <;> simp
end Go.Proofs.YtehbdakjkjkekaaGreatDoor
end
section
set_option maxRecDepth 100000
namespace Go.Proofs.YtehbdakjkjkekaaGreatDoor
open Go Go.Ai Go.Proofs
variable {c : CallA}
structure dP where
  name : List Nat
  sh : Int
  a : Int
  b : Int
  oz : Bool
  BL : List Int
  x : Int
  y : Int
def ints (z : Bool) (l : List Int) : AV := ro 1 z (l.map fun i => [.int .i64 i])
def dP.cells (t : dP) : List AV := [.str t.name, .int .u8 t.sh, .int .i64 t.a, .int .i64 t.b, ints t.oz t.BL, .int .i64 t.x, .int .i64 t.y]
@[simp] theorem Au (z : Bool) (l : List Int) : (ints z l).one = true := one_ro _ _ _
end Go.Proofs.YtehbdakjkjkekaaGreatDoor
end
section
set_option maxRecDepth 100000
namespace Go.Proofs.YtehbdakjkjkekaaGreatDoor
open Go Go.Ai Go.Proofs
variable {c : CallA}
def we : Nat := 9223372036854775808
end Go.Proofs.YtehbdakjkjkekaaGreatDoor
end
section
set_option maxRecDepth 100000
namespace Go.Proofs.YtehbdakjkjkekaaGreatDoor
open Go Go.Ai Go.Proofs
variable {c : CallA}
structure dP.Ok (t : dP) : Prop where
  name : t.name.length < we
  BL : t.BL.length < we
end Go.Proofs.YtehbdakjkjkekaaGreatDoor
end
section
set_option maxRecDepth 100000
namespace Go.Proofs.YtehbdakjkjkekaaGreatDoor
open Go Go.Ai Go.Proofs
variable {c : CallA}
def scan (P : Nat -> Bool) : Nat -> Nat -> Int
  | 0, _ => -1
  | m + 1, k => if P k = true then (k : Int) else scan P m (k + 1)
def tabs (z : Bool) (ts : List dP) : AV := ro 7 z (ts.map dP.cells)
@[simp] theorem dP.c0 (t : dP) : t.cells[0]? = some (.str t.name) := id rfl
@[simp] theorem dP.c1 (t : dP) : t.cells[1]? = some (.int .u8 t.sh) := id rfl
@[simp] theorem dP.c2 (t : dP) : t.cells[2]? = some (.int .i64 t.a) := id rfl
@[simp] theorem dP.c3 (t : dP) : t.cells[3]? = some (.int .i64 t.b) := id rfl
@[simp] theorem dP.c4 (t : dP) : t.cells[4]? = some (ints t.oz t.BL) := id rfl
@[simp] theorem dP.c5 (t : dP) : t.cells[5]? = some (.int .i64 t.x) := id rfl
@[simp] theorem dP.c6 (t : dP) : t.cells[6]? = some (.int .i64 t.y) := id rfl
@[simp] theorem dP.cc (t : dP) : cut t.cells 0 7 = some t.cells := cut_all rfl
theorem dP.len (t : dP) : t.cells.length = 7 := id rfl
@[simp] theorem dP.one (t : dP) : allOne t.cells = true := by
  unfold dP.cells; simp only [allOne, Au]; rfl
@[simp] theorem Ln (l : List AV) : (AV.agg l).cells = l := id rfl
def nmP (ts : List dP) (s : List Nat) (i : Nat) : Bool := decide (ts[i]?.map dP.name = some s)
end Go.Proofs.YtehbdakjkjkekaaGreatDoor
end
section
set_option maxRecDepth 100000
namespace Go.Proofs.YtehbdakjkjkekaaGreatDoor
open Go Go.Ai Go.Proofs
variable {c : CallA}
end Go.Proofs.YtehbdakjkjkekaaGreatDoor
end
section
set_option maxRecDepth 100000
namespace Go.Proofs.YtehbdakjkjkekaaGreatDoor
open Go Go.Ai Go.Proofs
variable {c : CallA}
structure cq where
  name : List Nat
  r6 : List Nat
  o4 : List Nat
  since : Int
  side : Int
  r7 : List Nat
  host : Bool
  access : Bool
  tz : Bool
  tg : List (List Nat)
def Av (z : Bool) (l : List (List Nat)) : AV := ro 1 z (l.map fun s => [.str s])
def cq.cells (g : cq) : List AV := [.str g.name, .str g.r6, .str g.o4, .int .i64 g.since, .int .i64 g.side, .str g.r7, .bool g.host, .bool g.access, Av g.tz g.tg]
@[simp] theorem Aw (z : Bool) (l : List (List Nat)) : (Av z l).one = true := one_ro _ _ _
@[simp] theorem cq.c0 (t : cq) : t.cells[0]? = some (.str t.name) := id rfl
@[simp] theorem cq.c1 (t : cq) : t.cells[1]? = some (.str t.r6) := id rfl
@[simp] theorem cq.c2 (t : cq) : t.cells[2]? = some (.str t.o4) := id rfl
@[simp] theorem cq.c3 (t : cq) : t.cells[3]? = some (.int .i64 t.since) := id rfl
@[simp] theorem cq.c4 (t : cq) : t.cells[4]? = some (.int .i64 t.side) := id rfl
@[simp] theorem cq.c5 (t : cq) : t.cells[5]? = some (.str t.r7) := id rfl
@[simp] theorem cq.c6 (t : cq) : t.cells[6]? = some (.bool t.host) := id rfl
@[simp] theorem cq.c7 (t : cq) : t.cells[7]? = some (.bool t.access) := id rfl
@[simp] theorem cq.c8 (t : cq) : t.cells[8]? = some (Av t.tz t.tg) := id rfl
@[simp] theorem cq.cc (t : cq) : cut t.cells 0 9 = some t.cells := cut_all rfl
theorem cq.len (t : cq) : t.cells.length = 9 := id rfl
@[simp] theorem cq.one (t : cq) : allOne t.cells = true := by
  unfold cq.cells; simp only [allOne, Aw]; rfl
def GK (z : Bool) (gs : List cq) : AV := ro 9 z (gs.map cq.cells)
def aft (last : Option (List Nat)) (s : List Nat) : Bool := match last with
  | none => true
  | some p => lessNats p s
@[simp] theorem LL (s : List Nat) : aft none s = true := id rfl
@[simp] theorem LM (p s : List Nat) : aft (some p) s = lessNats p s := id rfl
end Go.Proofs.YtehbdakjkjkekaaGreatDoor
end
section
set_option maxRecDepth 100000
namespace Go.Proofs.YtehbdakjkjkekaaGreatDoor
open Go Go.Ai Go.Proofs
variable {c : CallA}
structure Ty where
  a : List Nat
  b : List Nat
  k : Int
def Ty.cells (t : Ty) : List AV := [.str t.a, .str t.b, .int .u8 t.k]
@[simp] theorem Ty.c0 (t : Ty) : t.cells[0]? = some (.str t.a) := id rfl
@[simp] theorem Ty.c1 (t : Ty) : t.cells[1]? = some (.str t.b) := id rfl
@[simp] theorem Ty.c2 (t : Ty) : t.cells[2]? = some (.int .u8 t.k) := id rfl
@[simp] theorem Ty.cc (t : Ty) : cut t.cells 0 3 = some t.cells := cut_all rfl
theorem Ty.len (t : Ty) : t.cells.length = 3 := id rfl
@[simp] theorem Ty.one (t : Ty) : allOne t.cells = true := id rfl
def tys (z : Bool) (ts : List Ty) : AV := ro 3 z (ts.map Ty.cells)
end Go.Proofs.YtehbdakjkjkekaaGreatDoor
end
section
set_option maxRecDepth 100000
namespace Go.Proofs.YtehbdakjkjkekaaGreatDoor
open Go Go.Ai Go.Proofs
variable {c : CallA}
end Go.Proofs.YtehbdakjkjkekaaGreatDoor
end
section
set_option maxRecDepth 100000
namespace Go.Proofs.YtehbdakjkjkekaaGreatDoor
open Go Go.Ai Go.Proofs
variable {c : CallA}
abbrev LN (s : List Nat) : List AV := [.str s]
def cq.GL (g : cq) (v : AV) : List AV := [.str g.name, .str g.r6, .str g.o4, .int .i64 g.since, .int .i64 g.side, .str g.r7, .bool g.host, .bool g.access, v]
structure cq.Low (g : cq) : Prop where
  name : ∀ x ∈ g.name, x < 256
  r6 : ∀ x ∈ g.r6, x < 256
  o4 : ∀ x ∈ g.o4, x < 256
  r7 : ∀ x ∈ g.r7, x < 256
end Go.Proofs.YtehbdakjkjkekaaGreatDoor
end
section
set_option maxRecDepth 100000
namespace Go.Proofs.YtehbdakjkjkekaaGreatDoor
open Go Go.Ai Go.Proofs
variable {c : CallA}
def slv (k : Option Pos) (n es : Nat) : AV := match k with
  | none => .nils
  | some b => .slice b 0 n none es
def w8 (s0 s : St) (bp : Pos) (gk tk : Option Pos) (g : cq) (row : List AV) : Prop := g.Low /\ g.tg.length <= 4 /\ ∃ v, row = g.GL v /\ v.cells = [v] /\ v.one = true /\ QS 1 s v (g.tg.map LN) /\ ∀ p, ownB v = some p -> p ≠ bp /\ gk ≠ some p /\ tk ≠ some p /\ s0.heap.get p = none
theorem qs_own {es : Nat} {s : St} {v : AV} {rows : List (List AV)} (h : QS es s v rows) {b : Pos} (hb : ownB v = some b) : ∃ cs, s.heap.get b = some (.cells cs 0) := by
  rcases h with ⟨rfl, rfl⟩ | ⟨b', off, cap, cs, rfl, h1, _⟩ | ⟨b', off, rfl, rfl⟩
  . cases hb
  . obtain rfl := ownB_some hb; exact ⟨cs, h1⟩
  . rw [ownB_zero] at hb; cases hb
theorem w8.to {s0 s s' : St} {bp : Pos} {gk tk gk' tk' : Option Pos} {g : cq} {row : List AV} (h : w8 s0 s bp gk tk g row)
    (hk : ∀ p cs, p ≠ bp -> gk ≠ some p -> tk ≠ some p -> s.heap.get p = some (.cells cs 0) -> s'.heap.get p = some (.cells cs 0) /\ gk' ≠ some p /\ tk' ≠ some p) : w8 s0 s' bp gk' tk' g row := by
  obtain ⟨h1, h2, v, h3, h4, h5, h6, h7⟩ := h
  refine ⟨h1, h2, v, h3, h4, h5, h6.mono fun b x hb hx => ?_, fun p hp => ?_⟩
  . obtain ⟨cs, h8⟩ := qs_own h6 hb
    rw [h8] at hx; cases hx
    obtain ⟨a1, a2, a3, _⟩ := h7 b hb
    exact (hk b cs a1 a2 a3 h8).1
  . obtain ⟨cs, h8⟩ := qs_own h6 hp
    obtain ⟨a1, a2, a3, a4⟩ := h7 p hp
    exact ⟨a1, (hk p cs a1 a2 a3 h8).2.1, (hk p cs a1 a2 a3 h8).2.2, a4⟩
structure gp (s0 s : St) (bp mp : Pos) (gs : List cq) (ts : List Ty) (gk tk : Option Pos) : Prop where
  wf : Wf s
  keeps : Keeps s0 s
  next : s0.next.toNat <= s.next.toNat
  book : s.heap.get bp = some (.cells [slv gk gs.length 9, slv tk ts.length 3, .map mp] 0)
  mM : ∃ es cl, s.heap.get mp = some (.map es cl) /\ es.map (·.1) = gs.map fun g => .str g.name
  o5 : (gk = none -> gs = []) /\ ∀ b, gk = some b -> ∃ cs, s.heap.get b = some (.cells cs 0) /\ cs.length = gs.length * 9
  r8 : (tk = none -> ts = []) /\ ∀ b, tk = some b -> s.heap.get b = some (.cells (ts.flatMap Ty.cells) 0)
  dg : gk ≠ some bp
  dt : tk ≠ some bp
  yy : ∀ b, gk = some b -> tk ≠ some b
  fb : s0.heap.get bp = none
  fm : s0.heap.get mp = none
  fg : ∀ b, gk = some b -> s0.heap.get b = none
  ft : ∀ b, tk = some b -> s0.heap.get b = none
  r9 : ∀ es cl, s.heap.get mp = some (.map es cl) -> ∀ e ∈ es, ∃ i : Nat, e.2.1 = .int .i64 (i : Int) /\ i < gs.length
  rows : ∀ b cs, gk = some b -> s.heap.get b = some (.cells cs 0) -> ∀ (i : Nat) (g : cq), gs[i]? = some g -> w8 s0 s bp gk tk g ((cs.drop (i * 9)).take 9)
theorem gp.lt {s0 s : St} {bp mp : Pos} {gs : List cq} {ts : List Ty} {gk tk : Option Pos} (h : gp s0 s bp mp gs ts gk tk) : bp.toNat < s.next.toNat /\ mp.toNat < s.next.toNat := by
  obtain ⟨es, cl, h1, _⟩ := h.mM
  exact ⟨h.wf _ _ h.book, h.wf _ _ h1⟩
theorem gp.grew {s0 s s' : St} {bp mp : Pos} {gs : List cq} {ts : List Ty} {gk tk : Option Pos} (h : gp s0 s bp mp gs ts gk tk) (g : Grew s s') : gp s0 s' bp mp gs ts gk tk where
  wf := g.wf
  keeps := h.keeps.trans g.keeps
  next := Nat.le_trans h.next g.next
  book := g.get h.book
  mM := let ⟨es, cl, h1, h2⟩ := h.mM; ⟨es, cl, g.get h1, h2⟩
  o5 := ⟨h.o5.1, fun b hb => let ⟨cs, h1, h2⟩ := h.o5.2 b hb; ⟨cs, g.get h1, h2⟩⟩
  r8 := ⟨h.r8.1, fun b hb => g.get (h.r8.2 b hb)⟩
  dg := h.dg
  dt := h.dt
  yy := h.yy
  fb := h.fb
  fm := h.fm
  fg := h.fg
  ft := h.ft
  r9 := fun es cl hm => by
    obtain ⟨GG, cl0, h1, h2⟩ := h.mM
    have := g.get h1
    rw [hm] at this; cases this
    exact h.r9 _ _ h1
  rows := fun b cs hb hs i u hu => by
    obtain ⟨cs0, h1, h2⟩ := h.o5.2 b hb
    have := g.get h1
    rw [hs] at this; cases this
    exact (h.rows b _ hb h1 i u hu).to fun p cs _ a2 a3 hx => ⟨g.get hx, a2, a3⟩
theorem fj {s0 : St} {jb : Pos} {y : AB} (hj : s0.heap.get jb = some y) {q : Pos} (hq : s0.heap.get q = none) : q ≠ jb := fun e => by rw [e, hj] at hq; cases hq
theorem gp.at {s0 s s' : St} {bp mp : Pos} {gs : List cq} {ts : List Ty} {gk tk : Option Pos} (h : gp s0 s bp mp gs ts gk tk) {jb : Pos} {y : AB} (hj : s0.heap.get jb = some y) (hw : Wf s') (hk : ∀ q x, q ≠ jb -> s.heap.get q = some x -> s'.heap.get q = some x) :
    gp { heap := .e, next := s'.next } s' bp mp gs ts gk tk where
  wf := hw
  keeps := fun b x hb => by rw [T.get_e] at hb; cases hb
  next := Nat.le_refl _
  book := hk _ _ (fj hj h.fb) h.book
  mM := let ⟨es, cl, h1, h2⟩ := h.mM; ⟨es, cl, hk _ _ (fj hj h.fm) h1, h2⟩
  o5 := ⟨h.o5.1, fun b hb => let ⟨cs, h1, h2⟩ := h.o5.2 b hb; ⟨cs, hk _ _ (fj hj (h.fg b hb)) h1, h2⟩⟩
  r8 := ⟨h.r8.1, fun b hb => hk _ _ (fj hj (h.ft b hb)) (h.r8.2 b hb)⟩
  dg := h.dg
  dt := h.dt
  yy := h.yy
  fb := T.get_e _
  fm := T.get_e _
  fg := fun b _ => T.get_e _
  ft := fun b _ => T.get_e _
  r9 := fun es cl hm => by
    obtain ⟨GG, cl0, h1, h2⟩ := h.mM
    have := hk _ _ (fj hj h.fm) h1
    rw [hm] at this; cases this
    exact h.r9 _ _ h1
  rows := fun b cs hb hs i u hu => by
    obtain ⟨cs0, h1, h2⟩ := h.o5.2 b hb
    have := hk _ _ (fj hj (h.fg b hb)) h1
    rw [hs] at this; cases this
    obtain ⟨k1, k2, v, k3, k4, k5, k6, k7⟩ := h.rows b _ hb h1 i u hu
    exact ⟨k1, k2, v, k3, k4, k5, k6.mono fun b x hb hx => hk b x (fj hj (k7 b hb).2.2.2) hx, fun p hp => ⟨(k7 p hp).1, (k7 p hp).2.1, (k7 p hp).2.2.1, T.get_e _⟩⟩
theorem gp.start {s : St} (hw : Wf s) : gp s (nst (nst s (.map [] 0)) (.cells [.nils, .nils, .map s.next] 0)) (nst s (.map [] 0)).next s.next [] [] none none where
  wf := wf_nst (wf_nst hw)
  keeps := (keeps_nst hw).trans (keeps_nst (wf_nst hw))
  next := by simp only [nst_next, Pos.toNat_succ]; omega
  book := get_nst _ _
  mM := ⟨[], 0, get_nst_old1, rfl⟩
  o5 := ⟨fun _ => rfl, fun b h => by cases h⟩
  r8 := ⟨fun _ => rfl, fun b h => by cases h⟩
  dg := fun h => by cases h
  dt := fun h => by cases h
  yy := fun b h => by cases h
  fb := by
    cases h : s.heap.get (nst s (.map [] 0)).next with
    | none => rfl
    | some x => have := hw _ _ h; rw [nst_next, Pos.toNat_succ] at this; omega
  fm := by
    cases h : s.heap.get s.next with
    | none => rfl
    | some x => have := hw _ _ h; omega
  fg := fun b h => by cases h
  ft := fun b h => by cases h
  r9 := fun es cl hm e he => by
    have : (nst (nst s (.map [] 0)) (.cells [.nils, .nils, .map s.next] 0)).heap.get s.next = some (.map [] 0) := get_nst_old1
    rw [hm] at this; cases this; cases he
  rows := fun b cs h => by cases h
end Go.Proofs.YtehbdakjkjkekaaGreatDoor
end
section
set_option maxRecDepth 100000
namespace Go.Proofs.YtehbdakjkjkekaaGreatDoor
open Go Go.Ai Go.Proofs
variable {c : CallA}
end Go.Proofs.YtehbdakjkjkekaaGreatDoor
end
section
set_option maxRecDepth 100000
namespace Go.Proofs.YtehbdakjkjkekaaGreatDoor
open Go Go.Ai Go.Proofs
variable {c : CallA}
theorem flat_get (ts : List Ty) (i : Nat) (h : i < ts.length) : cut (ts.flatMap Ty.cells) (i * 3) 3 = some ts[i].cells := by
  induction ts generalizing i with
  | nil => simp at h
  | cons t ts ih =>
    cases i with
    | zero => rw [List.flatMap_cons]; unfold cut; rw [ble_d, decide_eq_true (by simp [Ty.len])]; simp [Ty.cells]
    | succ i =>
      have h' : i < ts.length := by simpa using h
      have := ih i h'
      unfold cut at this ⊢
      rw [ble_d] at this ⊢
      split at this <;> first | (cases this; done) | skip
      rename_i hle
      simp only [decide_eq_true_eq] at hle
      rw [decide_eq_true (by rw [List.flatMap_cons, List.length_append, Ty.len]; omega)]
      simp only [Option.some.injEq] at this ⊢
      rw [List.flatMap_cons, show (i + 1) * 3 = i * 3 + 1 + 1 + 1 by omega, List.getElem_cons_succ, <- this]
      rfl
end Go.Proofs.YtehbdakjkjkekaaGreatDoor
end
section
set_option maxRecDepth 100000
namespace Go.Proofs.YtehbdakjkjkekaaGreatDoor
open Go Go.Ai Go.Proofs
variable {c : CallA}
theorem not_plain_slice (b : Pos) (off n es : Nat) : ¬ Plain (.slice b off n none es) := fun h => by
  have := h (fun _ => ⟨0, 0, off + n * es⟩) (fun _ => ⟨0, 0, 0⟩) (b.toNat + 1) 0 (fun _ => none) _ (.slice b off n none es n ⟨0, 0 + off, none⟩ (Nat.le_refl _) (fun c h => by cases h) (fun _ => ⟨by omega, rfl, by simp⟩) (fun _ => by omega))
  have := this.slice_key rfl
  omega
end Go.Proofs.YtehbdakjkjkekaaGreatDoor
end
section
set_option maxRecDepth 100000
namespace Go.Proofs.YtehbdakjkjkekaaGreatDoor
open Go Go.Ai Go.Proofs
variable {c : CallA}
end Go.Proofs.YtehbdakjkjkekaaGreatDoor
end
section
set_option maxRecDepth 100000
namespace Go.Proofs.YtehbdakjkjkekaaGreatDoor
open Go Go.Ai Go.Proofs
variable {c : CallA}
end Go.Proofs.YtehbdakjkjkekaaGreatDoor
end
section
set_option maxRecDepth 100000
namespace Go.Proofs.YtehbdakjkjkekaaGreatDoor
open Go Go.Ai Go.Proofs
variable {c : CallA}
structure Rl where
  k : Int
  wt : Int
  a : List Nat
  b : List Nat
  t : List Nat
  n : Int
def Rl.cells (r : Rl) : List AV := [.int .u8 r.k, .int .i64 r.wt, .str r.a, .str r.b, .str r.t, .int .i64 r.n]
@[simp] theorem Rl.c0 (t : Rl) : t.cells[0]? = some (.int .u8 t.k) := id rfl
@[simp] theorem Rl.c1 (t : Rl) : t.cells[1]? = some (.int .i64 t.wt) := id rfl
@[simp] theorem Rl.c2 (t : Rl) : t.cells[2]? = some (.str t.a) := id rfl
@[simp] theorem Rl.c3 (t : Rl) : t.cells[3]? = some (.str t.b) := id rfl
@[simp] theorem Rl.c4 (t : Rl) : t.cells[4]? = some (.str t.t) := id rfl
@[simp] theorem Rl.c5 (t : Rl) : t.cells[5]? = some (.int .i64 t.n) := id rfl
@[simp] theorem Rl.cc (t : Rl) : cut t.cells 0 6 = some t.cells := cut_all rfl
@[simp] theorem Rl.one (t : Rl) : allOne t.cells = true := id rfl
def bg (z : Bool) (rs : List Rl) : AV := ro 6 z (rs.map Rl.cells)
structure jI where
  tz : Bool
  ts : List dP
  gz : Bool
  gs : List cq
  yz : Bool
  ys : List Ty
  cz : Bool
  cs : List Int
  rz : Bool
  rs : List Rl
def jI.cells (p : jI) : List AV := [tabs p.tz p.ts, GK p.gz p.gs, tys p.yz p.ys, ints p.cz p.cs, bg p.rz p.rs]
@[simp] theorem jI.c0 (p : jI) : p.cells[0]? = some (tabs p.tz p.ts) := id rfl
@[simp] theorem jI.c1 (p : jI) : p.cells[1]? = some (GK p.gz p.gs) := id rfl
@[simp] theorem jI.c2 (p : jI) : p.cells[2]? = some (tys p.yz p.ys) := id rfl
@[simp] theorem jI.c3 (p : jI) : p.cells[3]? = some (ints p.cz p.cs) := id rfl
@[simp] theorem jI.c4 (p : jI) : p.cells[4]? = some (bg p.rz p.rs) := id rfl
@[simp] theorem jI.cc (p : jI) : cut p.cells 0 5 = some p.cells := cut_all rfl
end Go.Proofs.YtehbdakjkjkekaaGreatDoor
end
section
set_option maxRecDepth 100000
namespace Go.Proofs.YtehbdakjkjkekaaGreatDoor
open Go Go.Ai Go.Proofs
variable {c : CallA}
structure Kd where
  w : List Nat
  a : Int
  b : Bool
  t : Int
  n : Bool
  lo : Int
  GM : Bool
  f : AV
def Kd.cells (k : Kd) : List AV := [.str k.w, .int .u8 k.a, .bool k.b, .int .u8 k.t, .bool k.n, .int .i64 k.lo, .bool k.GM, k.f]
@[simp] theorem Kd.c0 (t : Kd) : t.cells[0]? = some (.str t.w) := id rfl
@[simp] theorem Kd.c1 (t : Kd) : t.cells[1]? = some (.int .u8 t.a) := id rfl
@[simp] theorem Kd.c2 (t : Kd) : t.cells[2]? = some (.bool t.b) := id rfl
@[simp] theorem Kd.c3 (t : Kd) : t.cells[3]? = some (.int .u8 t.t) := id rfl
@[simp] theorem Kd.c4 (t : Kd) : t.cells[4]? = some (.bool t.n) := id rfl
@[simp] theorem Kd.c5 (t : Kd) : t.cells[5]? = some (.int .i64 t.lo) := id rfl
@[simp] theorem Kd.c6 (t : Kd) : t.cells[6]? = some (.bool t.GM) := id rfl
@[simp] theorem Kd.cc (t : Kd) : cut t.cells 0 8 = some t.cells := cut_all rfl
end Go.Proofs.YtehbdakjkjkekaaGreatDoor
end
section
set_option maxRecDepth 100000
namespace Go.Proofs.YtehbdakjkjkekaaGreatDoor
open Go Go.Ai Go.Proofs
variable {c : CallA}
def ti (p : jI) (s : List Nat) : Int := scan (nmP p.ts s) p.ts.length 0
end Go.Proofs.YtehbdakjkjkekaaGreatDoor
end
