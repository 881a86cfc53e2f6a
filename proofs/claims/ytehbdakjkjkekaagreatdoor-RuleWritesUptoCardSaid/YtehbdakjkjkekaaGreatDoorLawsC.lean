/- What is written reads back; the law. -/
import Derived.Test.YtehbdakjkjkekaaGreatDoorLawsB
import Derived.Test.YtehbdakjkjkekaaGreatDoorWalkC
import Derived.Test.YtehbdakjkjkekaaGreatDoorRows
import Derived.Test.YtehbdakjkjkekaaGreatDoorEvalE
import Derived.LaidSub
set_option linter.all false
set_option linter.unusedSectionVars false
set_option linter.deprecated false
section
set_option maxRecDepth 100000
namespace Go.Proofs.YtehbdakjkjkekaaGreatDoor
open Go Go.Ai Go.Proofs Go.af
theorem eP (s : List Nat) : (af.ah s).data.toList = s.map UInt8.ofNat := by simp [af.ah]
theorem fW (s : List Nat) : (af.ah s).size = s.length := by
  show (s.map UInt8.ofNat).toArray.size = _
  simp
theorem lz {s : List Nat} (h : ∀ x ∈ s, x < 256) : af.cG (af.ah s) = s := by
  unfold af.cG
  rw [eP, List.map_map]
  conv => rhs; rw [<- List.map_id s]
  refine List.map_congr_left fun x hx => ?_
  have := h x hx
  simp only [Function.comp, UInt8.toNat_ofNat', id]; omega
theorem ofNat_eq {x : Nat} (hx : x < 256) {y : Nat} (hy : y < 256) (h : UInt8.ofNat x = UInt8.ofNat y) : x = y := by
  have := congrArg UInt8.toNat h
  simp only [UInt8.toNat_ofNat'] at this
  omega
def oo (c : Nat) (s : List Nat) : Prop := ∀ x ∈ s, x < 256 /\ x ≠ c
theorem kH (s : ByteArray) : s.extract 0 s.size = s := by
  apply af.uF; simp
theorem nh {s : List Nat} (i : Nat) (h : i < s.length) : (af.ah s)[i]'(by rw [fW]; exact h) = UInt8.ofNat s[i] := by
  have h1 : i < (af.ah s).size := by rw [fW]; exact h
  have : (af.ah s).data.toList[i]'(by rw [eP]; simpa using h) = UInt8.ofNat s[i] := by simp [eP]
  exact this
theorem wu (a b : List Nat) : (af.ah (a ++ b)).extract 0 a.length = af.ah a := by
  apply af.uF; simp [af.ah]
theorem wz (a b : List Nat) : (af.ah (a ++ b)).extract a.length (af.ah (a ++ b)).size = af.ah b := by
  apply af.uF; rw [fW]; simp [af.ah]
  rw [List.take_of_length_le (by simp)]
theorem xo {w rest : List Nat} (h : oo 32 w) : af.bU (af.ah (w ++ 32 :: rest)) = af.ah w :: af.bU (af.ah rest) := by
  have hlen : w.length < (af.ah (w ++ 32 :: rest)).size := by rw [fW]; simp
  have cW : lA (af.ah (w ++ 32 :: rest)) 32 0 w.length := fun j _ hj hs => by
    have cm : j < (w ++ 32 :: rest).length := by rw [fW] at hs; exact hs
    rw [nh j cm, List.getElem_append_left hj]
    intro e
    obtain ⟨h1, h2⟩ := h _ (List.getElem_mem hj)
    exact h2 (ofNat_eq h1 (by decide) e)
  have G9 : (af.ah (w ++ 32 :: rest))[w.length] = 32 := by
    rw [nh w.length (by simp), List.getElem_append_right (Nat.le_refl _)]
    simp
  have := xp cW (Nat.zero_le _) hlen G9
  rw [kH] at this
  rw [this]
  have e1 : (af.ah (w ++ 32 :: rest)).extract 0 w.length = af.ah w := wu _ _
  have e2 : (af.ah (w ++ 32 :: rest)).extract (w.length + 1) (af.ah (w ++ 32 :: rest)).size = af.ah rest := by
    have := wz (w ++ [32]) rest
    simpa using this
  rw [e1, e2]
theorem yX {w : List Nat} (h : oo 32 w) : af.bU (af.ah w) = [af.ah w] := by
  have cW : lA (af.ah w) 32 0 (af.ah w).size := fun j _ _ hs => by
    have cm : j < w.length := by rw [fW] at hs; exact hs
    rw [nh j cm]
    intro e
    obtain ⟨h1, h2⟩ := h _ (List.getElem_mem cm)
    exact h2 (ofNat_eq h1 (by decide) e)
  have := xq cW
  rwa [kH] at this
theorem pN : ∀ {ws : List (List Nat)}, ws ≠ [] -> (∀ w ∈ ws, oo 32 w) -> af.bU (af.ah (bF [32] ws)) = ws.map af.ah
  | [], h, _ => absurd rfl h
  | [w], _, h => by simp only [bF, List.map_cons, List.map_nil]; exact yX (h w (by simp))
  | w :: v :: r, _, h => by
    have ih := pN (ws := v :: r) (by simp) fun x hx => h x (List.mem_cons_of_mem _ hx)
    simp only [bF, List.map_cons, List.singleton_append] at ih ⊢
    rw [xo (h w (by simp)), ih]
theorem vA {ws : List (List Nat)} (h0 : ws ≠ []) (h : ∀ w ∈ ws, oo 32 w /\ oo 10 w /\ w ≠ []) : af.cM (af.ah (bF [32] ws ++ [10])) = af.cB true (fun i => af.ah (ws.getD i [])) ws.length := by
  have hcut : af.gJ (af.ah (bF [32] ws ++ [10])) = af.ah (bF [32] ws) /\ af.kI (af.ah (bF [32] ws ++ [10])) = true := by
    constructor
    . apply af.uF
      show (Lib.trimSuffix _ [10]).toArray.toList = _
      rw [eP, eP]
      simp [Lib.trimSuffix, Lib.hasSuffix]
    . unfold af.kI
      rw [eP]
      simp [Lib.hasSuffix]
  unfold af.cM
  rw [hcut.1, hcut.2]
  have hw := pN h0 fun w hw => (h w hw).1
  have e1 : af.cF (af.ah (bF [32] ws)) = ws.length := by unfold af.cF; rw [hw, List.length_map]
  have e2 : af.dM (af.ah (bF [32] ws)) = fun i => af.ah (ws.getD i []) := by
    funext i
    unfold af.dM
    rw [hw]
    simp only [List.getD_eq_getElem?_getD, List.getElem?_map]
    cases ws[i]? <;> rfl
  rw [e1, e2]
theorem nP : ∀ (f n : Nat), n < 10 ^ (f + 1) -> (Lib.decDigits n).all eF = true /\ af.val (Lib.decDigits n) = n /\ 1 <= (Lib.decDigits n).length /\ (Lib.decDigits n).length <= f + 1 /\ (0 < n -> (Lib.decDigits n).head? ≠ some 48) /\ (Lib.decDigits n).map UInt8.toNat = bq (f + 1) n := by
  intro f
  induction f with
  | zero =>
    intro n h
    have uG : n < 10 := by simpa using h
    rw [Lib.decDigits_one uG]
    have hd : eF (UInt8.ofNat (48 + n)) = true := by rw [fU]; simp only [UInt8.toNat_ofNat']; omega
    have ht : (UInt8.ofNat (48 + n)).toNat = 48 + n := by simp only [UInt8.toNat_ofNat']; omega
    generalize UInt8.ofNat (48 + n) = x at hd ht ⊢
    refine ⟨by simp [hd], by simp [af.val, ht], by simp, by simp, fun h0 e => ?_, by simp [bq, uG, ht]⟩
    simp only [List.head?_cons, Option.some.injEq] at e
    subst e
    have : (48 : UInt8).toNat = 48 := rfl
    omega
  | succ f ih =>
    intro n h
    by_cases uG : n < 10
    . rw [Lib.decDigits_one uG]
      have hd : eF (UInt8.ofNat (48 + n)) = true := by rw [fU]; simp only [UInt8.toNat_ofNat']; omega
      have ht : (UInt8.ofNat (48 + n)).toNat = 48 + n := by simp only [UInt8.toNat_ofNat']; omega
      generalize UInt8.ofNat (48 + n) = x at hd ht ⊢
      refine ⟨by simp [hd], by simp [af.val, ht], by simp, by simp, fun h0 e => ?_, by simp [bq, uG, ht]⟩
      simp only [List.head?_cons, Option.some.injEq] at e
      subst e
      have : (48 : UInt8).toNat = 48 := rfl
      omega
    . obtain ⟨a1, a2, a3, a4, a5, a6⟩ := ih (n / 10) (by rw [Nat.pow_succ] at h; omega)
      have hdd : Lib.decDigits n = Lib.decDigits (n / 10) ++ [UInt8.ofNat (48 + n % 10)] := by
        conv => lhs; rw [Lib.decDigits]
        rw [dif_neg uG]
      have hd : eF (UInt8.ofNat (48 + n % 10)) = true := by rw [fU]; simp only [UInt8.toNat_ofNat']; omega
      have ht : (UInt8.ofNat (48 + n % 10)).toNat = 48 + n % 10 := by simp only [UInt8.toNat_ofNat']; omega
      rw [hdd]
      generalize UInt8.ofNat (48 + n % 10) = x at hd ht ⊢
      refine ⟨by simp [a1, hd], by rw [af.uH, a2, ht]; omega, by simp, by simp; omega, fun _ => ?_, by
        rw [List.map_append, a6]
        conv => rhs; rw [bq]
        rw [if_neg uG]
        simp [ht]⟩
      have := a5 (by omega)
      cases hq : Lib.decDigits (n / 10) with
      | nil => rw [hq] at a3; simp at a3
      | cons x l => rw [hq] at this; simpa using this
theorem ni {n : Int} (h0 : 0 <= n) (h1 : n < 10000000000) : aT n = bq 10 n.toNat := by
  obtain ⟨m, rfl⟩ : ∃ m : Nat, n = (m : Int) := ⟨n.toNat, by omega⟩
  unfold aT
  rw [Lib.itoa_nonneg]
  exact (nP 9 m (by have : (10 : Nat) ^ 10 = 10000000000 := by decide
                    omega)).2.2.2.2.2
theorem wA {n : Int} (h0 : 0 <= n) (h1 : n <= 999999999) : bV (af.ah (aT n)).data.toList = true /\ fJ (af.ah (aT n)).data.toList = n := by
  obtain ⟨m, rfl⟩ : ∃ m : Nat, n = (m : Int) := ⟨n.toNat, by omega⟩
  have hl : (af.ah (aT (m : Int))).data.toList = Lib.decDigits m := by
    rw [eP]
    unfold aT
    rw [Lib.itoa_nonneg, List.map_map]
    conv => rhs; rw [<- List.map_id (Lib.decDigits m)]
    refine List.map_congr_left fun x _ => ?_
    simp
  obtain ⟨a1, a2, a3, a4, a5, _⟩ := nP 8 m (by have : (10 : Nat) ^ 9 = 1000000000 := by decide
                                               omega)
  have bf : bV (Lib.decDigits m) = true := by
    unfold bV
    rw [a1, decide_eq_true a3, decide_eq_true a4]
    by_cases hm : m = 0
    . subst hm; rw [Lib.decDigits_one (by decide)]; decide
    . have := a5 (by omega)
      have h48 : ((Lib.decDigits m).head? == some 48) = false := by
        cases h : (Lib.decDigits m).head? with
        | none => rfl
        | some x => rw [h] at this; simpa using this
      rw [h48]; simp
  rw [hl]
  refine ⟨bf, ?_⟩
  unfold fJ
  rw [if_pos bf, a2]
theorem uI {f n : Nat} {c : Nat} (hc : c < 48) : oo c (bq (f + 1) n) /\ bq (f + 1) n ≠ [] := by
  have key : ∀ (f n : Nat), ∀ x ∈ bq f n, x < 256 /\ x ≠ c := by
    intro f
    induction f with
    | zero => intro n x h; simp [bq] at h
    | succ f ih =>
      intro n x h
      unfold bq at h
      split at h
      . simp at h; omega
      . rcases List.mem_append.1 h with h | h
        . exact ih _ x h
        . simp at h; omega
  refine ⟨key _ _, ?_⟩
  unfold bq
  split <;> simp
end Go.Proofs.YtehbdakjkjkekaaGreatDoor
end
section
set_option maxRecDepth 100000
namespace Go.Proofs.YtehbdakjkjkekaaGreatDoor
open Go Go.Ai Go.Proofs Go.af
def cw (a : Int) (s : List Nat) : Prop := if a = 0 then s = [] else if a = 101 then s = [] \/ cZ s = true else cZ s = true
def iJ (k : Kd) (r : Rl) : Prop := (0 <= r.wt /\ r.wt <= 1000) /\ (0 <= r.n /\ r.n <= 999999999) /\ (k.n = false -> r.n = 0) /\ cw k.a r.a /\ (if k.b = true then cZ r.b = true else r.b = []) /\ cw k.t r.t
theorem jy {m : Nat} (h1 : 1 <= m) (h2 : m <= 18) : m = 1 \/ m = 2 \/ m = 3 \/ m = 4 \/ m = 5 \/ m = 6 \/ m = 7 \/ m = 8 \/ m = 9 \/ m = 10 \/ m = 11 \/ m = 12 \/ m = 13 \/ m = 14 \/ m = 15 \/ m = 16 \/ m = 17 \/ m = 18 := by omega
theorem gK {r : Rl} {m : Nat} (hm : r.k = (m : Int)) (h1 : 1 <= m) (h2 : m <= 18) : cA r = true ↔ iJ (kd m) r := by
  obtain ⟨k, wt, a, b, t, n⟩ := r
  simp only at hm
  subst hm
  rcases jy h1 h2 with rfl | rfl | rfl | rfl | rfl | rfl | rfl | rfl | rfl | rfl | rfl | rfl | rfl | rfl | rfl | rfl | rfl | rfl
  all_goals
    unfold cA pn yI yJ yK iJ cw eL kG mN jN
    simp [kd, eL]
    grind
theorem kdF {m : Nat} (h2 : m <= 18) : (kd m).w = (gD m).map UInt8.toNat /\ (kd m).a = dx m /\ (kd m).b = dy m /\ (kd m).t = dz m /\ (kd m).n = dA m := by
  rcases Nat.eq_zero_or_pos m with rfl | h1
  . decide
  . rcases jy h1 h2 with rfl | rfl | rfl | rfl | rfl | rfl | rfl | rfl | rfl | rfl | rfl | rfl | rfl | rfl | rfl | rfl | rfl | rfl <;> decide
theorem uJ (b : ByteArray) : cZ (af.cG b) = fG b.data.toList := by
  unfold cZ fG af.cG
  rw [List.length_map, List.all_map]
  congr 1
  refine List.all_congr rfl fun c => ?_
  show decide (97 <= c.toNat /\ c.toNat <= 122) = gF c
  cases h : gF c with
  | true => have := (iW c).1 h; rw [decide_eq_true (by omega)]
  | false =>
    rw [decide_eq_false]
    intro e
    have := (iW c).2 (by omega)
    rw [h] at this; cases this
theorem xw : af.cG ⟨#[]⟩ = [] := rfl
theorem lZ {a : Int} {u : ByteArray} (h : a = 0 \/ bP u (a == 101) = true) : cw a (af.cG (if a = 0 then ⟨#[]⟩ else dO u (a == 101))) := by
  unfold cw
  by_cases h0 : a = 0
  . rw [if_pos h0, if_pos h0]; rfl
  . rw [if_neg h0, if_neg h0]
    have h := h.resolve_left h0
    unfold bP dO at *
    cases hd : eu u.data.toList (a == 101) with
    | true =>
      have : a = 101 := by
        unfold eu at hd
        simp only [Bool.and_eq_true, beq_iff_eq] at hd
        exact hd.2
      rw [if_pos rfl, if_pos this]; exact .inl rfl
    | false =>
      rw [hd] at h
      simp only [Bool.false_or] at h
      have e : cZ (af.cG (if false = true then ByteArray.empty else u)) = true := by
        rw [if_neg (by decide), uJ]; exact h
      by_cases h1 : a = 101
      . rw [if_pos h1]; exact .inr e
      . rw [if_neg h1]; exact e
def qg (q : af.RR) : Rl := ⟨q.k, q.wt, af.cG q.a, af.cG q.b, af.cG q.t, q.n⟩
theorem nQ {p : Prop} [Decidable p] {e : Int} {x : Int ⊕ af.RR} {q : af.RR} (h : (if p then .inl e else x) = .inr q) : ¬ p /\ x = .inr q := by
  by_cases hp : p
  . rw [if_pos hp] at h; cases h
  . rw [if_neg hp] at h; exact ⟨hp, h⟩
theorem Cn {p : Prop} [Decidable p] {e : Int} {y q : af.RR} (h : (if p then .inr y else (.inl e : Int ⊕ af.RR)) = .inr q) : p /\ y = q := by
  by_cases hp : p
  . rw [if_pos hp] at h; cases h; exact ⟨hp, rfl⟩
  . rw [if_neg hp] at h; cases h
theorem yY {K : Nat} {a t : Int} {b n : Bool} {u : Nat -> ByteArray} {len : Nat} {wt : Int} {q : af.RR} (hk : K <= 18) (ha : (kd K).a = a) (hb : (kd K).b = b) (ht : (kd K).t = t) (hn : (kd K).n = n) (h : af.au K a b t n u len wt = .inr q) (hw : wt ≠ 0 -> 0 < wt \/ wt < 0) :
    q.k = K /\ 1 <= K /\ iJ (kd K) (qg q) := by
  unfold af.au at h
  obtain ⟨h0, h⟩ := nQ h
  obtain ⟨_, h⟩ := nQ h
  obtain ⟨h3, h⟩ := nQ h
  obtain ⟨h4, h⟩ := nQ h
  obtain ⟨h5, rfl⟩ := Cn h
  obtain ⟨f1, f2, f3⟩ := h5
  refine ⟨rfl, by omega, ?_⟩
  unfold iJ qg
  rw [ha, hb, ht, hn]
  refine ⟨by show 0 <= wt /\ wt <= 1000; omega, ?_, ?_, lZ f1, ?_, lZ f3⟩
  . cases n with
    | true => simp only [if_true]; exact af.pO _
    | false => simp
  . rintro rfl; simp
  . cases b with
    | true =>
      have := f2.resolve_left (by simp)
      simp only [if_true]
      have := lZ (a := 103) (u := u 2) (.inr this)
      simpa [cw] using this
    | false => simp [xw]
theorem yZ {x : ByteArray} {q : af.RR} (h : af.cM x = .inr q) : 1 <= q.k /\ q.k <= 18 /\ iJ (kd q.k) (qg q) := by
  have body : ∀ {u : Nat -> ByteArray} {len : Nat} {wt : Int}, af.eG u len wt = .inr q -> 1 <= q.k /\ q.k <= 18 /\ iJ (kd q.k) (qg q) := fun {u len wt} hb => by
    unfold af.eG at hb
    have hk := aW (u 0).data.toList
    obtain ⟨_, e1, e2, e3, e4⟩ := kdF hk
    obtain ⟨g1, g2, g3⟩ := yY hk e1 e2 e3 e4 hb (fun h => by omega)
    rw [g1]
    exact ⟨g2, hk, g3⟩
  unfold af.cM af.cB at h
  split at h <;> first | (cases h; done) | skip
  split at h
  . exact body h
  . split at h <;> first | (cases h; done) | skip
    split at h <;> first | (cases h; done) | skip
    exact body h
end Go.Proofs.YtehbdakjkjkekaaGreatDoor
end
section
set_option maxRecDepth 100000
namespace Go.Proofs.YtehbdakjkjkekaaGreatDoor
open Go Go.Ai Go.Proofs Go.af
theorem cH {s : List Nat} (h : cZ s = true) : s ≠ [] /\ s.length <= 12 /\ ∀ x ∈ s, 97 <= x /\ x <= 122 := by
  unfold cZ at h
  simp only [Bool.and_eq_true, decide_eq_true_eq, List.all_eq_true] at h
  exact ⟨fun e => by subst e; simp at h, h.1.2, h.2⟩
theorem He {s : List Nat} (h : cZ s = true) : fG (af.ah s).data.toList = true := by
  obtain ⟨_, _, h3⟩ := cH h
  rw [<- uJ, lz fun x hx => by have := h3 x hx; omega]
  exact h
theorem Co {s : List Nat} (h : cZ s = true) (em : Bool) : eu (af.ah s).data.toList em = false := by
  obtain ⟨_, _, h3⟩ := cH h
  unfold eu
  have : ((af.ah s).data.toList == [45]) = false := by
    rw [beq_eq_false_iff_ne]
    intro e
    have h1 := lz (s := s) fun x hx => by have := h3 x hx; omega
    unfold af.cG at h1
    rw [e] at h1
    have := h3 45 (by rw [<- h1]; simp)
    omega
  rw [this]; rfl
theorem wB {s : List Nat} (h : cZ s = true) (em : Bool) : bP (af.ah s) em = true /\ dO (af.ah s) em = af.ah s := by
  unfold bP dO
  rw [Co h, He h]
  exact ⟨rfl, rfl⟩
theorem qG {a : Int} {s : List Nat} (h : cw a s) (h0 : a ≠ 0) : bP (af.ah (aD s)) (a == 101) = true /\ dO (af.ah (aD s)) (a == 101) = af.ah s := by
  have key : cZ s = true -> bP (af.ah (aD s)) (a == 101) = true /\ dO (af.ah (aD s)) (a == 101) = af.ah s := fun hn => by
    obtain ⟨h1, _⟩ := cH hn
    have : aD s = s := by unfold aD; rw [if_neg h1]
    rw [this]
    exact wB hn _
  unfold cw at h
  rw [if_neg h0] at h
  split at h
  . rename_i h1
    subst h1
    rcases h with rfl | h
    . exact ⟨rfl, rfl⟩
    . exact key h
  . exact key h
theorem y5 {m : Nat} {r : Rl} (h1 : 1 <= m) (h18 : m <= 18) (hs : iJ (kd m) r) (u : Nat -> ByteArray) (len : Nat) (hlen : len = 1 + (bA (kd m) r ++ (if (kd m).n = true then [aT r.n] else [])).length)
    (hu : ∀ i, u (i + 1) = af.ah ((bA (kd m) r ++ (if (kd m).n = true then [aT r.n] else [])).getD i [])) :
    af.au m (kd m).a (kd m).b (kd m).t (kd m).n u len r.wt = .inr ⟨m, r.wt, af.ah r.a, af.ah r.b, af.ah r.t, r.n⟩ := by
  obtain ⟨w1, w2, w3, fa, fb, ft⟩ := hs
  have hab : (kd m).a = 0 -> (kd m).b = true -> False := fun ha hb => by
    rcases jy h1 h18 with rfl | rfl | rfl | rfl | rfl | rfl | rfl | rfl | rfl | rfl | rfl | rfl | rfl | rfl | rfl | rfl | rfl | rfl <;> simp [kd] at ha hb
  generalize kd m = K at *
  have hw : ¬ (r.wt < 0 \/ 1000 < r.wt) := by omega
  have hm : ¬ m = 0 := by omega
  obtain ⟨wC, wD⟩ := wA w2.1 w2.2
  have e0 := hu 0
  have e1 := hu 1
  have e2 := hu 2
  have e3 := hu 3
  unfold bA at hlen e0 e1 e2 e3
  have za : K.a = 0 -> r.a = [] := fun h => by unfold cw at fa; rwa [if_pos h] at fa
  have zt : K.t = 0 -> r.t = [] := fun h => by unfold cw at ft; rwa [if_pos h] at ft
  have da := fun h => qG fa h
  have dt := fun h => qG ft h
  have db : K.b = true -> bP (af.ah (aD r.b)) false = true /\ dO (af.ah (aD r.b)) false = af.ah r.b := fun h => by
    rw [if_pos h] at fb
    obtain ⟨h1, _⟩ := cH fb
    have : aD r.b = r.b := by unfold aD; rw [if_neg h1]
    rw [this]
    exact wB fb _
  have zb : K.b = false -> r.b = [] := fun h => by rw [h] at fb; simpa using fb
  have zn := w3
  have hz : af.ah [] = ⟨#[]⟩ := rfl
  clear fa fb ft w3
  unfold af.au
  by_cases ha : K.a = 0
  . rw [za ha]
    cases hb : K.b with
    | false =>
      rw [zb hb]
      by_cases ht : K.t = 0
      . rw [zt ht]
        cases hn : K.n with
        | false => simp [ha, hb, ht, hn, hm, hw, hz, zn hn] at hlen e0 e1 e2 e3 ⊢; simp [hlen]
        | true => simp [ha, hb, ht, hn, hm, hw, hz] at hlen e0 e1 e2 e3 ⊢; simp [hlen, e0, wC, wD]
      . obtain ⟨d1, d2⟩ := dt ht
        cases hn : K.n with
        | false => simp [ha, hb, ht, hn, hm, hw, hz, zn hn] at hlen e0 e1 e2 e3 ⊢; simp [hlen, e0, d1, d2]
        | true => simp [ha, hb, ht, hn, hm, hw, hz] at hlen e0 e1 e2 e3 ⊢; simp [hlen, e0, e1, d1, d2, wC, wD]
    | true =>
      obtain ⟨b1, b2⟩ := db hb
      exfalso; exact hab ha hb
  . obtain ⟨a1, a2⟩ := da ha
    cases hb : K.b with
    | false =>
      rw [zb hb]
      by_cases ht : K.t = 0
      . rw [zt ht]
        cases hn : K.n with
        | false => simp [ha, hb, ht, hn, hm, hw, hz, zn hn] at hlen e0 e1 e2 e3 ⊢; simp [hlen, e0, a1, a2]
        | true => simp [ha, hb, ht, hn, hm, hw, hz] at hlen e0 e1 e2 e3 ⊢; simp [hlen, e0, e1, a1, a2, wC, wD]
      . obtain ⟨d1, d2⟩ := dt ht
        cases hn : K.n with
        | false => simp [ha, hb, ht, hn, hm, hw, hz, zn hn] at hlen e0 e1 e2 e3 ⊢; simp [hlen, e0, e1, a1, a2, d1, d2]
        | true => simp [ha, hb, ht, hn, hm, hw, hz] at hlen e0 e1 e2 e3 ⊢; simp [hlen, e0, e1, e2, a1, a2, d1, d2, wC, wD]
    | true =>
      obtain ⟨b1, b2⟩ := db hb
      by_cases ht : K.t = 0
      . rw [zt ht]
        cases hn : K.n with
        | false => simp [ha, hb, ht, hn, hm, hw, hz, zn hn] at hlen e0 e1 e2 e3 ⊢; simp [hlen, e0, e1, a1, a2, b1, b2]
        | true => simp [ha, hb, ht, hn, hm, hw, hz] at hlen e0 e1 e2 e3 ⊢; simp [hlen, e0, e1, e2, a1, a2, b1, b2, wC, wD]
      . obtain ⟨d1, d2⟩ := dt ht
        cases hn : K.n with
        | false => simp [ha, hb, ht, hn, hm, hw, hz, zn hn] at hlen e0 e1 e2 e3 ⊢; simp [hlen, e0, e1, e2, a1, a2, b1, b2, d1, d2]
        | true => simp [ha, hb, ht, hn, hm, hw, hz] at hlen e0 e1 e2 e3 ⊢; simp [hlen, e0, e1, e2, e3, a1, a2, b1, b2, d1, d2, wC, wD]
def Good (w : List Nat) : Prop := oo 32 w /\ oo 10 w /\ w ≠ []
theorem wE {s : List Nat} (h : cZ s = true) : Good s := by
  obtain ⟨h1, _, h3⟩ := cH h
  exact ⟨fun x hx => by have := h3 x hx; omega, fun x hx => by have := h3 x hx; omega, h1⟩
theorem l5 {s : List Nat} (h : (s.all fun x => decide (x < 256) && (!decide (x = 32) && !decide (x = 10))) = true) (h0 : s ≠ []) : Good s := by
  rw [List.all_eq_true] at h
  refine ⟨fun x hx => ?_, fun x hx => ?_, h0⟩ <;> (have := h x hx; simp at this; omega)
theorem qH {a : Int} {s : List Nat} (h : cw a s) (h0 : a ≠ 0) : Good (aD s) := by
  unfold cw at h
  rw [if_neg h0] at h
  have key : cZ s = true -> Good (aD s) := fun hn => by
    obtain ⟨h1, _⟩ := cH hn
    have : aD s = s := by unfold aD; rw [if_neg h1]
    rw [this]; exact wE hn
  split at h
  . rcases h with rfl | h
    . exact l5 (by decide) (by decide)
    . exact key h
  . exact key h
theorem uK {n : Int} (h0 : 0 <= n) (h1 : n <= 999999999) : Good (aT n) := by
  rw [ni h0 (by omega)]
  exact ⟨(uI (by decide)).1, (uI (by decide)).1, (uI (c := 10) (by decide)).2⟩
theorem Cp {m : Nat} (h1 : 1 <= m) (h2 : m <= 18) : Good (kd m).w := by
  rcases jy h1 h2 with rfl | rfl | rfl | rfl | rfl | rfl | rfl | rfl | rfl | rfl | rfl | rfl | rfl | rfl | rfl | rfl | rfl | rfl <;> exact l5 (by decide) (by decide)
theorem pP {m : Nat} {r : Rl} (h1 : 1 <= m) (h2 : m <= 18) (hs : iJ (kd m) r) : ∀ w ∈ bL (kd m) r, Good w := by
  have gk := Cp h1 h2
  obtain ⟨w1, w2, w3, fa, fb, ft⟩ := hs
  intro w hw
  unfold bL eE bA at hw
  simp only [List.mem_append] at hw
  rcases hw with ((hw | hw) | ((hw | hw) | hw)) | hw
  . split at hw
    . simp at hw
      rcases hw with rfl | rfl
      . exact l5 (by decide) (by decide)
      . exact uK w1.1 (by omega)
    . simp at hw; subst hw; exact l5 (by decide) (by decide)
  . simp at hw; subst hw; exact gk
  . split at hw
    . rename_i h; simp at hw; subst hw; exact qH fa h
    . simp at hw
  . split at hw
    . rename_i h; simp at hw; subst hw
      rw [if_pos h] at fb
      obtain ⟨q1, _⟩ := cH fb
      have : aD r.b = r.b := by unfold aD; rw [if_neg q1]
      rw [this]; exact wE fb
    . simp at hw
  . split at hw
    . rename_i h; simp at hw; subst hw; exact qH ft h
    . simp at hw
  . split at hw
    . simp at hw; subst hw; exact uK w2.1 w2.2
    . simp at hw
theorem uL (ws : List (List Nat)) (h : ∀ w ∈ ws, Good w) : ∀ k, k <= ws.length -> af.iu true (fun i => af.ah (ws.getD i [])) k = true
  | 0, _ => by rw [af.qI]
  | k + 1, hk => by
    rw [af.nk, uL ws h k (by omega)]
    have hw := h _ (List.getElem_mem (show k < ws.length by omega))
    have e : ws.getD k [] = ws[k] := by simp [List.getD_eq_getElem?_getD, List.getElem?_eq_getElem (show k < ws.length by omega)]
    have : (af.ah (ws.getD k [])).toList ≠ [] := by
      rw [Go.ByteArray.toList_eq, eP, e]
      intro h0
      exact hw.2.2 (List.map_eq_nil_iff.1 h0)
    cases hl : (af.ah (ws.getD k [])).toList with
    | nil => exact absurd hl this
    | cons x l => simp [hl]
theorem qJ {m : Nat} {r : Rl} (h1 : 1 <= m) (h2 : m <= 18) (hs : iJ (kd m) r) (u : Nat -> ByteArray) (len : Nat) (hlen : len = 1 + (bA (kd m) r ++ (if (kd m).n = true then [aT r.n] else [])).length) (h0 : u 0 = af.ah (kd m).w)
    (hu : ∀ i, u (i + 1) = af.ah ((bA (kd m) r ++ (if (kd m).n = true then [aT r.n] else [])).getD i [])) : af.eG u len r.wt = .inr ⟨m, r.wt, af.ah r.a, af.ah r.b, af.ah r.t, r.n⟩ := by
  obtain ⟨e0, e1, e2, e3, e4⟩ := kdF h2
  have hk : kindOf (u 0).data.toList = m := by
    have : (u 0).data.toList = gD m := by
      rw [h0, eP, e0, List.map_map]
      conv => rhs; rw [<- List.map_id (gD m)]
      refine List.map_congr_left fun x _ => ?_
      simp
    rw [this]; exact qK m h1 h2
  unfold af.eG
  rw [hk, <- e1, <- e2, <- e3, <- e4]
  exact y5 h1 h2 hs u len hlen hu
theorem nr {m : Nat} {r : Rl} (hm : r.k = (m : Int)) (h1 : 1 <= m) (h2 : m <= 18) (hs : iJ (kd m) r) : af.cM (af.ah (bO r)) = .inr ⟨m, r.wt, af.ah r.a, af.ah r.b, af.ah r.t, r.n⟩ := by
  have hg := pP h1 h2 hs
  have qp : r.k.toNat = m := by omega
  have aI : bL (kd m) r ≠ [] := by unfold bL eE; split <;> simp
  unfold bO
  rw [qp, vA aI hg]
  unfold af.cB
  rw [uL _ hg _ (Nat.le_refl _), if_neg (by decide)]
  have bJ := hs.1
  by_cases hw : 0 < r.wt
  . have e : bL (kd m) r = [119, 101, 105, 103, 104] :: aT r.wt :: (kd m).w :: (bA (kd m) r ++ (if (kd m).n = true then [aT r.n] else [])) := by
      unfold bL eE; rw [if_pos hw]; simp
    obtain ⟨d1, d2⟩ := wA bJ.1 (by omega)
    rw [e]
    have q0 : (af.ah (([119, 101, 105, 103, 104] :: aT r.wt :: (kd m).w :: (bA (kd m) r ++ (if (kd m).n = true then [aT r.n] else []))).getD 0 [])).toList = [119, 101, 105, 103, 104] := by rw [Go.ByteArray.toList_eq, eP]; rfl
    have q1 : af.ah (([119, 101, 105, 103, 104] :: aT r.wt :: (kd m).w :: (bA (kd m) r ++ (if (kd m).n = true then [aT r.n] else []))).getD 1 []) = af.ah (aT r.wt) := rfl
    simp only [q0, q1, d1, d2]
    have LY : ¬ r.wt = 0 := by omega
    rw [if_neg (by simp), if_pos ⟨trivial, by simp⟩, if_neg (by simp), if_neg LY]
    exact qJ h1 h2 hs _ _ (by simp; omega) rfl (fun i => rfl)
  . have e : bL (kd m) r = [104, 97, 114, 100] :: (kd m).w :: (bA (kd m) r ++ (if (kd m).n = true then [aT r.n] else [])) := by
      unfold bL eE; rw [if_neg hw]; simp
    have wq : r.wt = 0 := by omega
    rw [e]
    have q0 : (af.ah (([104, 97, 114, 100] :: (kd m).w :: (bA (kd m) r ++ (if (kd m).n = true then [aT r.n] else []))).getD 0 [])).toList = [104, 97, 114, 100] := by rw [Go.ByteArray.toList_eq, eP]; rfl
    simp only [q0]
    rw [if_pos ⟨trivial, by simp⟩, <- wq]
    exact qJ h1 h2 hs _ _ (by simp; omega) rfl (fun i => rfl)
end Go.Proofs.YtehbdakjkjkekaaGreatDoor
end
section
set_option maxRecDepth 100000
namespace Go.Proofs.YtehbdakjkjkekaaGreatDoor
open Go Go.Ai Go.Proofs Go.af
theorem fX {r : Rl} (h8 : 0 <= r.k /\ r.k < 256) (h : cA r = true) : 1 <= r.k.toNat /\ r.k.toNat <= 18 /\ r.k = (r.k.toNat : Int) := by
  have hw : (kd r.k.toNat).w ≠ [] := by
    intro e
    unfold cA pn at h
    rw [e] at h
    simp at h
  refine ⟨?_, ?_, by omega⟩
  . rcases Nat.eq_zero_or_pos r.k.toNat with e | e
    . rw [e] at hw; exact absurd rfl hw
    . exact e
  . by_cases hb : r.k.toNat <= 18
    . exact hb
    . exfalso; apply hw
      generalize r.k.toNat = m at hb
      unfold kd
      split <;> first | rfl | (exfalso; omega)
theorem pQ {a : Int} {s : List Nat} (h : cw a s) : ∀ x ∈ s, x < 256 := by
  unfold cw at h
  intro x hx
  have nm : cZ s = true -> x < 256 := fun h => by have := (cH h).2.2 x hx; omega
  split at h
  . rw [h] at hx; cases hx
  . split at h
    . rcases h with h | h
      . rw [h] at hx; cases hx
      . exact nm h
    . exact nm h
theorem uM {q : af.RR} {r : Rl} (h : kq q r = true) : r = qg q := by
  obtain ⟨k, wt, a, b, t, n⟩ := r
  unfold kq at h
  simp only [Bool.and_eq_true, decide_eq_true_eq] at h
  obtain ⟨h1, h2, h3, h4, h5, h6⟩ := h
  unfold qg
  rw [h1, h2, h3, h4, h5, h6]
theorem oH {r : Rl} (h8 : 0 <= r.k /\ r.k < 256) : je r = cA r := by
  cases hs : cA r with
  | true =>
    obtain ⟨h1, h2, hm⟩ := fX h8 hs
    have hk := (gK hm h1 h2).1 hs
    unfold je
    rw [nr hm h1 h2 hk]
    have ha := lz (pQ hk.2.2.2.1)
    have ht := lz (pQ hk.2.2.2.2.2)
    have hb : af.cG (af.ah r.b) = r.b := lz fun x hx => by
      have := hk.2.2.2.2.1
      split at this
      . have := (cH this).2.2 x hx; omega
      . rw [this] at hx; cases hx
    simp only [kq, ha, hb, ht, decide_true, Bool.and_true, decide_eq_true_eq]
    exact hm.symm
  | false =>
    cases hf : je r with
    | false => rfl
    | true =>
      unfold je at hf
      cases hl : af.cM (af.ah (bO r)) with
      | inl e => rw [hl] at hf; cases hf
      | inr q =>
        rw [hl] at hf
        obtain ⟨h1, h2, h3⟩ := yZ hl
        have := uM hf
        have hk : r.k = (q.k : Int) := by rw [this]; rfl
        rw [<- this] at h3
        rw [(gK hk h1 h2).2 h3] at hs
        cases hs
theorem qL {r : Rl} (h8 : 0 <= r.k /\ r.k < 256) (h : cA r = true) : bO r = jv r := by
  obtain ⟨h1, h2, hm⟩ := fX h8 h
  have hk := (gK hm h1 h2).1 h
  obtain ⟨⟨w0, w1⟩, ⟨n0, n1⟩, _, _, hb, _⟩ := hk
  have dw := ni w0 (by omega)
  have dn := ni n0 (by omega)
  have hdb : cZ r.b = true -> aD r.b = r.b := fun h => by unfold aD; rw [if_neg (cH h).1]
  obtain ⟨k, wt, a, b, t, n⟩ := r
  simp only at *
  unfold bO jv fO gx ir iV jV bL eE bA eL kG mN jN
  simp only [dw, dn]
  generalize k.toNat = m at *
  subst hm
  by_cases hw : wt = 0
  . subst hw
    rcases jy h1 h2 with rfl | rfl | rfl | rfl | rfl | rfl | rfl | rfl | rfl | rfl | rfl | rfl | rfl | rfl | rfl | rfl | rfl | rfl
    all_goals
      simp [kd, bF, eL] at hb ⊢
      try simp [hdb hb]
  . have hw' : 0 < wt := by omega
    rcases jy h1 h2 with rfl | rfl | rfl | rfl | rfl | rfl | rfl | rfl | rfl | rfl | rfl | rfl | rfl | rfl | rfl | rfl | rfl | rfl
    all_goals
      simp [kd, bF, eL, hw, hw'] at hb ⊢
      try simp [hdb hb]
theorem wF : ∀ (rs : List Rl) (acc : List Nat), (∀ r ∈ rs, 0 <= r.k /\ r.k < 256) -> en rs acc = gC rs acc
  | [], acc, _ => rfl
  | r :: rs, acc, h => by
    have h8 := h r (List.mem_cons_self ..)
    unfold en gC
    rw [oH h8]
    cases hs : cA r with
    | false => rfl
    | true =>
      rw [if_pos rfl, if_pos rfl, qL h8 hs]
      exact wF rs _ fun q hq => h q (List.mem_cons_of_mem _ hq)
theorem Cq {rs : List Rl} (h : ∀ r ∈ rs, 0 <= r.k /\ r.k < 256) : fmtS rs = jW rs := by
  unfold fmtS jW; rw [wF rs [] h]
theorem qM : ∀ (rs : List Rl) (acc : List Nat), (∀ r ∈ rs, 0 <= r.k /\ r.k < 256) -> en rs acc ≠ [] -> (∀ r ∈ rs, cA r = true) /\ en rs acc = acc ++ (rs.map bO).flatten
  | [], acc, _, _ => ⟨fun _ h => (nomatch h), by simp [en]⟩
  | r :: rs, acc, h8, h => by
    unfold en at h ⊢
    by_cases ho : je r = true
    . rw [if_pos ho] at h ⊢
      obtain ⟨h1, h2⟩ := qM rs _ (fun q hq => h8 q (List.mem_cons_of_mem _ hq)) h
      refine ⟨fun q hq => ?_, by rw [h2]; simp⟩
      rcases List.mem_cons.1 hq with rfl | hq
      . rw [<- oH (h8 _ (List.mem_cons_self ..))]; exact ho
      . exact h1 q hq
    . rw [if_neg ho] at h; exact absurd rfl h
theorem uN : ∀ {ws : List (List Nat)}, (∀ w ∈ ws, Good w) -> oo 10 (bF [32] ws)
  | [], _ => fun x h => by cases h
  | [w], h => (h w (List.mem_cons_self ..)).2.1
  | w :: v :: r, h => fun x hx => by
    simp only [bF, List.mem_append, List.mem_singleton] at hx
    rcases hx with hx | rfl | hx
    . exact (h w (List.mem_cons_self ..)).2.1 x hx
    . omega
    . exact uN (ws := v :: r) (fun y hy => h y (List.mem_cons_of_mem _ hy)) x hx
theorem xx {w rest : List Nat} (h : oo 10 w) : aR (af.ah (w ++ [10] ++ rest)) = af.ah (w ++ [10]) :: aR (af.ah rest) := by
  have hlen : w.length < (af.ah (w ++ [10] ++ rest)).size := by rw [fW]; simp
  have cW : lA (af.ah (w ++ [10] ++ rest)) 10 0 w.length := fun j _ hj hs => by
    have cm : j < (w ++ [10] ++ rest).length := by rw [fW] at hs; exact hs
    have hg : (w ++ [10] ++ rest)[j] = w[j] := by simp [List.getElem_append_left hj]
    rw [nh j cm, hg]
    intro e
    obtain ⟨h1, h2⟩ := h _ (List.getElem_mem hj)
    exact h2 (ofNat_eq h1 (by decide) e)
  have G9 : (af.ah (w ++ [10] ++ rest))[w.length] = 10 := by
    rw [nh w.length (by simp)]
    simp
  have := xy cW (Nat.zero_le _) hlen G9
  rw [kH] at this
  rw [this]
  have e1 : (af.ah (w ++ [10] ++ rest)).extract 0 (w.length + 1) = af.ah (w ++ [10]) := by
    have := wu (w ++ [10]) rest
    rwa [List.length_append] at this
  have e2 : (af.ah (w ++ [10] ++ rest)).extract (w.length + 1) (af.ah (w ++ [10] ++ rest)).size = af.ah rest := by
    have := wz (w ++ [10]) rest
    rwa [List.length_append] at this
  rw [e1, e2]
theorem oq : ∀ (rs : List Rl), (∀ r ∈ rs, (0 <= r.k /\ r.k < 256) /\ cA r = true) -> aR (af.ah (rs.map bO).flatten) = rs.map fun r => af.ah (bO r)
  | [], _ => l6 rfl
  | r :: rs, h => by
    obtain ⟨h8, hs⟩ := h r (List.mem_cons_self ..)
    obtain ⟨h1, h2, hm⟩ := fX h8 hs
    have hk := (gK hm h1 h2).1 hs
    have ih := oq rs fun q hq => h q (List.mem_cons_of_mem _ hq)
    rw [List.map_cons, List.flatten_cons, List.map_cons, <- ih]
    exact xx (uN (pP h1 h2 hk))
theorem y6 {s : List Nat} {a : Int} (h : cw a s) : s.length <= 12 := by
  unfold cw at h
  split at h
  . rw [h]; simp
  . split at h
    . rcases h with h | h
      . rw [h]; simp
      . exact (cH h).2.1
    . exact (cH h).2.1
theorem AK {r : Rl} (h8 : 0 <= r.k /\ r.k < 256) (h : cA r = true) : (bO r).length <= 1000 := by
  obtain ⟨h1, h2, hm⟩ := fX h8 h
  have hk := (gK hm h1 h2).1 h
  rw [qL h8 h]
  have la := y6 hk.2.2.2.1
  have lt := y6 hk.2.2.2.2.2
  have lb : r.b.length <= 12 := by
    have := hk.2.2.2.2.1
    split at this
    . exact (cH this).2.1
    . rw [this]; simp
  have d1 := ep r.a
  have d2 := ep r.t
  have g1 := fT 10 r.wt.toNat
  have g2 := fT 10 r.n.toNat
  have kw := nO r.k.toNat
  have p0 : (fO r).length <= 100 := by unfold fO; split <;> simp <;> omega
  have p1 : (gx r).length <= 100 := by unfold gx; split <;> simp; omega
  have p2 : (ir r).length <= 100 := by unfold ir; split <;> simp; omega
  have p3 : (iV r).length <= 100 := by unfold iV; split <;> simp; omega
  have p4 : (jV r).length <= 100 := by unfold jV; split <;> simp; omega
  unfold jv
  simp only [List.length_append, List.length_cons, List.length_nil]
  omega
theorem qN : ∀ (rs : List Rl), (∀ r ∈ rs, (bO r).length <= 1000) -> (rs.map bO).flatten.length <= rs.length * 1000
  | [], _ => by simp
  | r :: rs, h => by
    have := qN rs fun q hq => h q (List.mem_cons_of_mem _ hq)
    have := h r (List.mem_cons_self ..)
    simp only [List.map_cons, List.flatten_cons, List.length_append, List.length_cons]
    omega
def uO (r : Rl) : af.RR := ⟨r.k.toNat, r.wt, af.ah r.a, af.ah r.b, af.ah r.t, r.n⟩
theorem Hf {r : Rl} (h8 : 0 <= r.k /\ r.k < 256) (h : cA r = true) : af.ic (uO r) = r.cells := by
  have hf := (oH h8).trans h
  obtain ⟨h1, h2, hm⟩ := fX h8 h
  have hk := (gK hm h1 h2).1 h
  unfold je at hf
  rw [nr hm h1 h2 hk] at hf
  have := uM hf
  show af.ic (uO r) = r.cells
  conv => rhs; rw [this]
  rfl
theorem uP {rs : List Rl} (h : ∀ r ∈ rs, 0 <= r.k /\ r.k < 256) (aI : fmtS rs ≠ []) : rs.length <= 64 /\ (∀ r ∈ rs, cA r = true) /\ (fmtS rs).length <= 64000 /\ af.b7 (af.ah (fmtS rs)) = (0, 0, rs.map uO) /\ (rs.map uO).flatMap af.ic = (rs.map Rl.cells).flatten := by
  unfold fmtS at aI ⊢
  by_cases jK : 64 < rs.length
  . rw [if_pos jK] at aI; exact absurd rfl aI
  . rw [if_neg jK] at aI ⊢
    obtain ⟨h1, h2⟩ := qM rs [] h aI
    rw [h2, List.nil_append]
    have hl := qN rs fun r hr => AK (h r hr) (h1 r hr)
    refine ⟨by omega, h1, by omega, af.ot (by rw [fW]; omega) ?_ (by rw [List.length_map]; omega), ?_⟩
    . rw [oq rs fun r hr => ⟨h r hr, h1 r hr⟩, List.map_map, List.map_map]
      refine List.map_congr_left fun r hr => ?_
      obtain ⟨g1, g2, hm⟩ := fX (h r hr) (h1 r hr)
      exact nr hm g1 g2 ((gK hm g1 g2).1 (h1 r hr))
    . rw [List.flatMap_def, List.map_map]
      congr 1
      exact List.map_congr_left fun r hr => Hf (h r hr) (h1 r hr)
end Go.Proofs.YtehbdakjkjkekaaGreatDoor
end
section
set_option maxRecDepth 100000
namespace Go.Proofs.YtehbdakjkjkekaaGreatDoor
open Go Go.Ai Go.Proofs
variable {c : CallA}
theorem Hg (t : Rl) (H : Pos -> Option AB) (n : Pos) : OpK.run H n (.bin .neq (.struct [(0, .i), (1, .i), (2, .s), (3, .s), (4, .s), (5, .i)])) [.agg t.cells, .agg t.cells] = some (.val (.bool false)) := by
  have e : eqFields t.cells t.cells [(0, .i), (1, .i), (2, .s), (3, .s), (4, .s), (5, .i)] = some true := by
    rw [jw (a := t.k) (b := t.k) rfl rfl, jw (a := t.wt) (b := t.wt) rfl rfl, jx (a := t.a) (b := t.a) rfl rfl, jx (a := t.b) (b := t.b) rfl rfl, jx (a := t.t) (b := t.t) rfl rfl, jw (a := t.n) (b := t.n) rfl rfl]
    simp only [if_true]; rfl
  simp only [OpK.run, runBin, binA, eqBy, e]
  rfl
theorem Cr (t : Rl) (K : AV -> Option (AV × St)) : prr (.bin .neq (.struct [(0, .i), (1, .i), (2, .s), (3, .s), (4, .s), (5, .i)])) [.agg t.cells, .agg t.cells] K = K (.bool false) := prr_ofv K (Hg t)
theorem AL {R : Type} (K : AV -> Option R) {b : Pos} {off len es es' : Nat} {cap : Option Nat} {k : IntKind} {i : Nat} (h : i < len) : prr (.idxA es none) [.slice b off len cap es', .int k (i : Int)] K = K (.ptr b (off + i * es)) :=
  prr_ofv K (fun H n => by
    simp only [OpK.run, runIdxA, asIx_nat]
    have : Nat.blt i len = true := by rw [Nat.blt_eq]; exact h
    rw [this])
theorem wG : ∀ (l : List Rl) (k : Nat) (h : k < l.length), cut ((l.map Rl.cells).flatten) (k * 6) 6 = some l[k].cells
  | [], k, h => by simp at h
  | r :: l, 0, _ => by
    rw [List.map_cons, List.flatten_cons, Nat.zero_mul]
    unfold cut
    have e : r.cells.length = 6 := rfl
    have e1 : Nat.ble (0 + 6) (r.cells ++ (l.map Rl.cells).flatten).length = true := by rw [Nat.ble_eq]; simp [e]
    rw [e1]
    simp [e]
  | r :: l, k + 1, h => by
    have ih := wG l k (by simpa using h)
    rw [List.map_cons, List.flatten_cons]
    have e : r.cells.length = 6 := rfl
    unfold cut at ih ⊢
    have e2 : (k + 1) * 6 = r.cells.length + k * 6 := by rw [e]; omega
    rw [e2, <- List.drop_drop, List.drop_left]
    have e3 : Nat.ble (r.cells.length + k * 6 + 6) (r.cells ++ (l.map Rl.cells).flatten).length = Nat.ble (k * 6 + 6) ((l.map Rl.cells).flatten).length := by
      rw [Bool.eq_iff_iff, Nat.ble_eq, Nat.ble_eq, List.length_append]; omega
    rw [e3, ih]
    rfl
theorem pR (z : Bool) (l : List Rl) (hl : l.length < we) (F : Nat) (k1 k2) (s : St) (b : Pos) (hb : s.heap.get b = some (.cells (l.map Rl.cells).flatten 0)) : ∀ (m k f : Nat), m < f -> k + m = l.length -> bB c F k1 k2 f [bg z l, .slice b 0 l.length none 6, .int .i64 (k : Int)] s = k2 [] s := by
  have lI : ∀ (z : Bool) (K : AV -> St -> Option (AV × St)) (s : St), stp c (.lenB .l) [bg z l] s K = K (.int .i64 (l.length : Int)) s := fun z K s => by unfold bg; rw [stp_lenR]; simp
  intro m
  induction m with
  | zero =>
    intro k f hf h1
    obtain ⟨f, rfl⟩ : ∃ g, f = g + 1 := ⟨f - 1, by omega⟩
    obtain rfl : k = l.length := by omega
    rw [bB]
    simp [lI]
  | succ m ih =>
    intro k f hf h1
    obtain ⟨f, rfl⟩ : ∃ g, f = g + 1 := ⟨f - 1, by omega⟩
    have h : k < l.length := by omega
    have w : wrapI .i64 ((k : Int) + 1) = ((k + 1 : Nat) : Int) := wrap64 (by omega) (by unfold we at hl; omega)
    have hc := wG l k h
    rw [<- ih (k + 1) f (by omega) (by omega), bB]
    unfold bg at lI ⊢
    simp [lI, h, w, AL, hb, hc, Cr]
theorem q9 (hc : Sem c) (z : Bool) (l : List Rl) (hl : l.length < we) (s : St) (b : Pos) (hb : s.heap.get b = some (.cells (l.map Rl.cells).flatten 0)) : c 10 [bg z l, .slice b 0 l.length none 6] s = some (.bool true, s) := by
  have lI : ∀ (z : Bool) (K : AV -> St -> Option (AV × St)) (s : St), stp c (.lenB .l) [bg z l] s K = K (.int .i64 (l.length : Int)) s := fun z K s => by unfold bg; rw [stp_lenR]; simp
  have L := pR (c := c) z l hl (l.length + 1) (fun vs eO => un1 vs fun x4 vs => nl1 vs (some (x4, eO))) (fun vs eD => nl1 vs (stp c .move [.bool true] eD fun x4 e8 => some (x4, e8))) s b hb l.length 0 (l.length + 1) (by omega) (by omega)
  rw [jX hc (l.length + 1) (r := (.bool true, s)), tidy_eq (Plain.bool _) (Keeps.refl s)]
  rw [fo]
  simp at L
  simp [lI, L, stp_lenQ]
theorem AM (s : St) (x : List Nat) (K : AV -> St -> Option (AV × St)) : stp c (.bin .neq .num) [.str x, .str x] s K = K (.bool false) s :=
  stp_ofv c K (fun H n => by simp [OpK.run, runBin, binA, eqBy, beqNats_eq.2 rfl]) s
structure Rl.nu (r : Rl) : Prop where
  k : 0 <= r.k /\ r.k < 256
  wt : -9223372036854775808 <= r.wt /\ r.wt <= 9223372036854775807
  n : -9223372036854775808 <= r.n /\ r.n <= 9223372036854775807
  la : r.a.length + r.b.length + r.t.length <= 1048576
  byte : ∀ x ∈ r.a ++ (r.b ++ r.t), x < 256
theorem qO {n : Int} (h : -9223372036854775808 <= n /\ n <= 9223372036854775807) : (aT n).length <= 20 := by
  have hp : (10 : Nat) ^ 19 = 10000000000000000000 := by decide
  unfold aT
  rw [List.length_map]
  by_cases h0 : 0 <= n
  . obtain ⟨m, rfl⟩ : ∃ m : Nat, n = (m : Int) := ⟨n.toNat, by omega⟩
    rw [Lib.itoa_nonneg]
    have := (nP 18 m (by omega)).2.2.2.1
    omega
  . obtain ⟨m, rfl⟩ : ∃ m : Nat, n = -(m : Int) := ⟨(-n).toNat, by omega⟩
    have hm : m ≠ 0 := by omega
    have := (nP 18 m (by omega)).2.2.2.1
    have e : Lib.itoa (-(m : Int)) = 45 :: Lib.decDigits m := by
      unfold Lib.itoa
      rw [if_pos (by omega)]
      congr 2
      omega
    rw [e]
    simp only [List.length_cons]
    omega
theorem uQ (n : Int) : ∀ x ∈ aT n, x < 256 := fun x hx => by
  unfold aT at hx
  simp only [List.mem_map] at hx
  obtain ⟨y, _, rfl⟩ := hx
  exact y.toNat_lt
theorem qP : ∀ ws : List (List Nat), (bF [32] ws).length <= (ws.map fun w => w.length + 1).sum
  | [] => Nat.le_refl _
  | [w] => by simp [bF]
  | w :: v :: r => by
    have := qP (v :: r)
    simp only [bF, List.length_append, List.length_cons, List.length_nil, List.map_cons, List.sum_cons] at this ⊢
    omega
theorem qQ : ∀ (ws : List (List Nat)) (x : Nat), x ∈ bF [32] ws -> x = 32 \/ ∃ w ∈ ws, x ∈ w
  | [], x, h => by cases h
  | [w], x, h => .inr ⟨w, List.mem_cons_self .., h⟩
  | w :: v :: r, x, h => by
    simp only [bF, List.mem_append, List.mem_singleton] at h
    rcases h with h | rfl | h
    . exact .inr ⟨w, List.mem_cons_self .., h⟩
    . exact .inl rfl
    . rcases qQ (v :: r) x h with rfl | ⟨u, hu, hx⟩
      . exact .inl rfl
      . exact .inr ⟨u, List.mem_cons_of_mem _ hu, hx⟩
theorem Hh (m : Nat) : ∀ x ∈ (kd m).w, x < 256 := by
  unfold kd; split <;> simp
theorem oI {s : List Nat} (h : ∀ x ∈ s, x < 256) : ∀ x ∈ aD s, x < 256 := by
  unfold aD
  split
  . simp
  . exact h
theorem Rl.nu.fit {r : Rl} (h : r.nu) : r.Fit := by
  have l1 := qO h.wt
  have l2 := qO h.n
  have l3 := nO r.k.toNat
  have d1 := ep r.a
  have d2 := ep r.b
  have d3 := ep r.t
  have la := h.la
  have hb := h.byte
  have ba := oI (s := r.a) fun x hx => hb x (by simp [hx])
  have bb := oI (s := r.b) fun x hx => hb x (by simp [hx])
  have bt := oI (s := r.t) fun x hx => hb x (by simp [hx])
  have b1 := uQ r.wt
  have b2 := uQ r.n
  have b3 := Hh r.k.toNat
  refine ⟨h.k, h.wt, h.n, ?_, ?_⟩
  . have := qP (bL (kd r.k.toNat) r)
    unfold bO
    rw [List.length_append]
    have hs : ((bL (kd r.k.toNat) r).map fun w => w.length + 1).sum <= 2000000 := by
      unfold bL eE bA
      split <;> split <;> split <;> split <;> split <;> simp <;> omega
    simp only [List.length_cons, List.length_nil]
    omega
  . intro x hx
    unfold bO at hx
    rcases List.mem_append.1 hx with hx | hx
    . rcases qQ _ x hx with rfl | ⟨w, hw, hx⟩
      . decide
      . have : w = [119, 101, 105, 103, 104] \/ w = aT r.wt \/ w = [104, 97, 114, 100] \/ w = (kd r.k.toNat).w \/ w = aD r.a \/ w = aD r.b \/ w = aD r.t \/ w = aT r.n := by
          unfold bL eE bA at hw
          split at hw <;> split at hw <;> split at hw <;> split at hw <;> split at hw <;> simp at hw <;> grind
        rcases this with rfl | rfl | rfl | rfl | rfl | rfl | rfl | rfl
        . simp at hx; omega
        . exact b1 x hx
        . simp at hx; omega
        . exact b3 x hx
        . exact ba x hx
        . exact bb x hx
        . exact bt x hx
        . exact b2 x hx
    . simp at hx; omega
theorem Rl.nu.short {r : Rl} (h : r.nu) : r.rA := ⟨h.k, by have := h.la; omega, by have := h.la; omega, by have := h.la; omega⟩
theorem rf (hc : Sem c) (z : Bool) (rs : List Rl) (hl : rs.length <= 1048576) (hn : ∀ r ∈ rs, r.nu) (st : St) (hw : Wf st) : c 3 [bg z rs] st = some (.bool true, st) := by
  have lI : ∀ (z : Bool) (K : AV -> St -> Option (AV × St)) (s : St), stp c (.lenB .l) [bg z rs] s K = K (.int .i64 (rs.length : Int)) s := fun z K s => by unfold bg; rw [stp_lenR]; simp
  have A := uR hc st
  by_cases h200 : 200 < rs.length
  . rw [cU hc 1 (r := (.bool true, st)), tidy_eq (Plain.bool _) (Keeps.refl st)]
    rw [cC]
    have hd : decide ((200 : Int) < (rs.length : Int)) = true := decide_eq_true (by omega)
    simp [lI, hd, A]
  . have hd : decide ((200 : Int) < (rs.length : Int)) = false := decide_eq_false (by omega)
    have h8 : ∀ r ∈ rs, 0 <= r.k /\ r.k < 256 := fun r hr => (hn r hr).k
    have F := yF hc z rs hl (fun _ r hr => (hn r hr).fit) st hw
    have G := uE hc z rs hl (fun _ r hr => (hn r hr).short) st hw
    rw [<- Cq h8] at G
    have N := fun (K : AV -> St -> Option (AV × St)) => AM (c := c) st (fmtS rs) K
    by_cases aI : fmtS rs = []
    . have P : c 9 [.str (fmtS rs)] st = some (.tuple [.nils, .int .i64 0, .int .i64 0], st) := uS hc (by rw [aI]; rfl)
      rw [cU hc 1 (r := (.bool true, st)), tidy_eq (Plain.bool _) (Keeps.refl st)]
      rw [cC]
      rw [aI] at F G N P
      simp [lI, hd, A, F, G, N, P]
    . obtain ⟨jK, hs, hlen, hp, gV⟩ := uP h8 aI
      obtain ⟨r0, ju, rfl⟩ : ∃ r0 ju, rs = r0 :: ju := by
        cases rs with
        | nil => exact absurd rfl aI
        | cons r0 ju => exact ⟨r0, ju, rfl⟩
      have P : c 9 [.str (fmtS (r0 :: ju))] st = some (.tuple [.slice st.next 0 (r0 :: ju).length none 6, .int .i64 0, .int .i64 0], nst st (.cells ((r0 :: ju).map Rl.cells).flatten 0)) := uS hc (by
        unfold jY
        have e : Nat.ble (fmtS (r0 :: ju)).length maxLen = true := by rw [Nat.ble_eq]; unfold maxLen; omega
        simp only [e, hp, List.map_cons]
        rw [<- List.map_cons (f := uO), gV]
        simp only [List.length_map, List.length_cons]
        rfl)
      have S := q9 hc z (r0 :: ju) (by unfold we; omega) (nst st (.cells ((r0 :: ju).map Rl.cells).flatten 0)) st.next (get_nst st _)
      have A2 := uR hc (nst st (.cells ((r0 :: ju).map Rl.cells).flatten 0))
      have hq : ∀ (K : AV -> St -> Option (AV × St)) (s : St), stp c (.bin .eql .num) [.str (fmtS (r0 :: ju)), .str []] s K = K (.bool false) s := fun K s => stp_ofv c K (fun H n => by
        have : beqNats (fmtS (r0 :: ju)) [] = false := by
          cases e : beqNats (fmtS (r0 :: ju)) [] with
          | true => exact absurd (beqNats_eq.1 e) aI
          | false => rfl
        simp [OpK.run, runBin, binA, eqBy, this]) s
      generalize fmtS (r0 :: ju) = txt at *
      generalize r0 :: ju = rs at *
      rw [cU hc 1 (r := (.bool true, nst st (.cells (rs.map Rl.cells).flatten 0))), tidy_eq (Plain.bool _) (Grew.nst hw _).keeps]
      rw [cC]
      simp [lI, hd, A, F, G, N, P, hq, S, A2]
end Go.Proofs.YtehbdakjkjkekaaGreatDoor
end
section
set_option maxRecDepth 100000
namespace Go.Proofs.YtehbdakjkjkekaaGreatDoor
open Go Go.Ai Go.Proofs Go.RowKit
section
variable {H : Type}
theorem AN (d : DataW H) : 1 <= Rows.uptoBulk d := by
  cases d with
  | lit l => cases l <;> simp [Rows.uptoBulk]
  | _ => simp [Rows.uptoBulk]
theorem l7 : ∀ l : List (DataW H), l.length <= Rows.uptoBulkAll l /\ ∀ d ∈ l, Rows.uptoBulk d <= Rows.uptoBulkAll l
  | [] => ⟨Nat.zero_le _, fun d h => by simp at h⟩
  | d :: l => by
    obtain ⟨h1, h2⟩ := l7 l
    have h3 := AN d
    have e : Rows.uptoBulkAll (d :: l) = Rows.uptoBulk d + Rows.uptoBulkAll l := by simp [Rows.uptoBulkAll]
    rw [e]
    refine ⟨by simp only [List.length_cons]; omega, fun x hx => ?_⟩
    rcases List.mem_cons.1 hx with rfl | hx
    . omega
    . have := h2 x hx; omega
abbrev y7 (d : DataW H) : Prop := Rows.uptoBulk d <= 1048576
theorem Hi (e s : List (DataW H)) (h : y7 (.slice e s)) : e.length <= 1048576 /\ ∀ d ∈ e, y7 d := by
  obtain ⟨h1, h2⟩ := l7 e
  have e1 : Rows.uptoBulk (.slice e s) = Rows.uptoBulkAll e + Rows.uptoBulkAll s + 1 := by simp [Rows.uptoBulk]
  have h : Rows.uptoBulk (.slice e s) <= 1048576 := h
  rw [e1] at h
  exact ⟨by omega, fun d hd => show Rows.uptoBulk d <= 1048576 by have := h2 d hd; omega⟩
end
section
variable {H : Type} {enc : TypeId × Value -> H} {w : World} {base : Nat} {spare : Nat -> Bool} {held : Bool}
theorem wf_i64 {i : Int} (h : (Lit.int .i64 i).wf = true) : -9223372036854775808 <= i /\ i <= 9223372036854775807 := by
  have e1 : IntKind.min .i64 = -9223372036854775808 := by decide
  have e2 : IntKind.max .i64 = 9223372036854775807 := by decide
  have h : (decide (IntKind.min _ <= i) && decide (i <= IntKind.max _)) = true := h
  rw [e1, e2, Bool.and_eq_true, decide_eq_true_eq, decide_eq_true_eq] at h
  exact h
theorem wf_u8 {i : Int} (h : (Lit.int .u8 i).wf = true) : 0 <= i /\ i < 256 := by
  have e1 : IntKind.min .u8 = 0 := by decide
  have e2 : IntKind.max .u8 = 255 := by decide
  have h : (decide (IntKind.min _ <= i) && decide (i <= IntKind.max _)) = true := h
  rw [e1, e2, Bool.and_eq_true, decide_eq_true_eq, decide_eq_true_eq] at h
  omega
theorem Cs : OpensK y7 enc Tryz.prog w base spare held 46 fun vs => ∃ t : Rl, vs = t.cells /\ t.nu := by
  refine OpensR.toK (opensR_struct [44, 3, 9, 9, 9, 3] (Qs := [_, _, _, _, _, _]) (by kernel_rfl) (by kernel_rfl) (by kernel_rfl)
    ⟨.of (opens_int (k := .u8) (by kernel_rfl)), .of (opens_int (k := .i64) (by kernel_rfl)), opensR_str (by kernel_rfl), opensR_str (by kernel_rfl), opensR_str (by kernel_rfl), .of (opens_int (k := .i64) (by kernel_rfl)), trivial⟩) fun d us hk h => ?_
  obtain ⟨ds, ps, rfl, rfl, m0⟩ := h
  obtain ⟨d1, ds1, p1, q1, rfl, rfl, ⟨k, rfl, oR⟩, m1⟩ := all3_cons m0
  obtain ⟨d2, ds2, p2, q2, rfl, rfl, ⟨wt, rfl, fu⟩, m2⟩ := all3_cons m1
  obtain ⟨d3, ds3, p3, q3, rfl, rfl, ⟨a, ba, rfl, rfl, la, ha⟩, m3⟩ := all3_cons m2
  obtain ⟨d4, ds4, p4, q4, rfl, rfl, ⟨b, bb, rfl, rfl, lb, hb⟩, m4⟩ := all3_cons m3
  obtain ⟨d5, ds5, p5, q5, rfl, rfl, ⟨t, bt, rfl, rfl, lt, ht⟩, m5⟩ := all3_cons m4
  obtain ⟨d6, ds6, p6, q6, rfl, rfl, ⟨n, rfl, hn⟩, m6⟩ := all3_cons m5
  obtain ⟨rfl, rfl⟩ := all3_nil m6
  refine ⟨⟨k, wt, a, b, t, n⟩, rfl, ⟨wf_u8 oR, wf_i64 fu, wf_i64 hn, ?_, ?_⟩⟩
  . have hk : Rows.uptoBulk _ <= 1048576 := hk
    simp only [Rows.uptoBulk, Rows.uptoBulkAll] at hk
    show a.length + b.length + t.length <= 1048576
    omega
  . intro x hx
    rcases List.mem_append.1 hx with hx | hx
    . exact ha x hx
    . rcases List.mem_append.1 hx with hx | hx
      . exact hb x hx
      . exact ht x hx
theorem uT {α : Type} {P : α -> Prop} {cells : α -> List AV} : ∀ (rs : List (List AV)), (∀ r ∈ rs, ∃ t, r = cells t /\ P t) -> ∃ l : List α, rs = l.map cells /\ ∀ t ∈ l, P t
  | [], _ => ⟨[], rfl, by simp⟩
  | r :: rs, h => by
    obtain ⟨t, rfl, ht⟩ := h r (by simp)
    obtain ⟨l, rfl, hl⟩ := uT rs (fun q hq => h q (List.mem_cons_of_mem _ hq))
    exact ⟨t :: l, rfl, fun q hq => by
      rcases List.mem_cons.1 hq with rfl | hq
      . exact ht
      . exact hl q hq⟩
theorem AO : OpensK y7 enc Tryz.prog w base spare held 22 fun vs => ∃ (z : Bool) (l : List Rl), vs = [bg z l] /\ (∀ t ∈ l, t.nu) /\ l.length <= 1048576 := by
  refine OpensK.mono (opensK_slice (N := 1048576) (es := 6) (by kernel_rfl) (by kernel_rfl) (by omega) (fun vs h => by obtain ⟨t, rfl, _⟩ := h; rfl) Hi Cs) fun vs h => ?_
  obtain ⟨z, rs, rfl, h1, h2⟩ := h
  obtain ⟨l, rfl, hl⟩ := uT (P := fun t : Rl => t.nu) (cells := Rl.cells) rs h1
  exact ⟨z, l, rfl, hl, by simpa using h2⟩
end
theorem AP {P : Program} {W w : World} {name : String} {k : IntKind} {zs : List Int} {g : Nat} (hg : P.globalNamed name = some g) (h : Lib.TabIs P W name k zs) (hz : zs ≠ [])
    (h1 : ∀ ad v, W.cell? ad = some v -> w.cell? ad = some v) (h2 : ∀ a v, W.cell? a = some v -> ∀ o, W.cell? ⟨a.block, o, none⟩ = none -> w.cell? ⟨a.block, o, none⟩ = none) : Lib.TabIs P w name k zs := by
  have h0 : 0 < zs.length := List.length_pos_iff.2 hz
  have c0 := h.cell hg 0 h0
  unfold Lib.TabIs World.var? at h ⊢
  rw [hg] at h ⊢
  simp only [Option.bind_some] at h ⊢
  cases hW : W.heap[g]? with
  | none => rw [hW] at h; cases h
  | some o =>
    rw [hW] at h
    cases o with
    | cells cs t fz =>
      simp only [Option.some.injEq] at h
      have c1 := h1 _ _ c0
      cases hw : w.heap[g]? with
      | none => simp only [World.cell?, hw] at c1; cases c1
      | some o' =>
        cases o' with
        | cells eJ t' fz' =>
          simp only [Option.some.injEq]
          rw [<- h]
          apply Array.ext_getElem?
          intro i
          have a1 : W.cell? ⟨g, i, none⟩ = cs[i]? := by simp [World.cell?, hW]
          have a2 : w.cell? ⟨g, i, none⟩ = eJ[i]? := by simp [World.cell?, hw]
          rw [<- a1, <- a2]
          cases hc : W.cell? ⟨g, i, none⟩ with
          | some v => exact h1 _ _ hc
          | none => exact h2 _ _ c0 i hc
        | _ => simp only [World.cell?, hw] at c1; cases c1
    | _ => cases h
theorem Hj {W : World} (h : laidMetH Tryz.prog Rows.ruleWritesUptoRow.laid W) : xz (fun ad => W.cell? ad) := by
  have hg : Tryz.prog.globalNamed "internal/strconv.uint64pow10" = some 0 := by kernel_rfl
  have ht : Lib.TabIs Tryz.prog W "internal/strconv.uint64pow10" .u64 Lib.pow10Tab :=
    Lib.tabIs_of_head (rest := []) (t := 266) (e := 230) (n := 20) hg (by kernel_rfl) (by kernel_rfl) (by kernel_rfl) (by kernel_rfl) (by kernel_rfl) (laidMetH.filter (fun x => x.1 == "internal/strconv.uint64pow10") h)
  intro w h1 h2
  exact AP hg ht (by decide) h1 h2
end Go.Proofs.YtehbdakjkjkekaaGreatDoor
end
