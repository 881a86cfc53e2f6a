/- What the plain functions answer: names, seats, tables, guests. -/
import Derived.Test.YtogojkhbplmifaaGreatDoorPlainA
import Derived.Test.YtogojkhbplmifaaGreatDoorEvalE
set_option linter.all false
set_option linter.unusedSectionVars false
set_option linter.deprecated false
section
set_option maxRecDepth 100000
namespace Go.Proofs.YtogojkhbplmifaaGreatDoor
open Go Go.Ai Go.Proofs
variable {c : ai}
def fj (s : List Nat) : Bool := decide (1 <= s.length) && decide (s.length <= 12) && s.all fun c => decide (97 <= c /\ c <= 122)
theorem Wj (s : List Nat) (hs : s.length <= 12) (F : Nat) (st : St) (k1 k2) : ∀ (m k : Nat), s.length <= k + m -> k <= s.length ->
    gy c F k1 k2 (m + 1) [.str s, .int .i64 (k : Int)] st = if (s.drop k).all (fun c => decide (97 <= c /\ c <= 122)) = true then k2 [] st else k1 [.bool false] st := by
  intro m
  induction m with
  | zero =>
    intro k h1 h2
    rw [gy]
    obtain rfl : k = s.length := by omega
    simp
  | succ m ih =>
    intro k h1 h2
    rw [gy]
    by_cases h : k < s.length
    . have e : s.drop k = s[k] :: s.drop (k + 1) := List.drop_eq_getElem_cons h
      have := ih (k + 1) (by omega) (by omega)
      have w : aM .i64 ((k : Int) + 1) = ((k + 1 : Nat) : Int) := wrap64 (by omega) (by omega)
      rw [e, List.all_cons]
      generalize (s.drop (k + 1)).all _ = rest at this ⊢
      by_cases h3 : (s[k] : Int) < 97
      . have h5 : decide (97 <= s[k] /\ s[k] <= 122) = false := by simp; omega
        simp [h, h3, h5]
      . by_cases h4 : 122 < (s[k] : Int)
        . have h5 : decide (97 <= s[k] /\ s[k] <= 122) = false := by simp; omega
          simp [h, h3, h4, h5]
        . have h5 : decide (97 <= s[k] /\ s[k] <= 122) = true := by simp; omega
          rw [h5, Bool.true_and, <- this]
          simp [h, h3, h4, w]
    . obtain rfl : k = s.length := by omega
      simp
theorem wW (hc : Sem c) (s : List Nat) (st : St) : c 127 [.str s] st = some (.bool (fj s), st) := by
  rw [CG hc (s.length + 1) (r := (.bool (fj s), st)), aI (Plain.bool _) (bY.refl st)]
  rw [tu]
  by_cases h0 : (s.length : Int) < 1
  . have h1 : ¬ 1 <= s.length := by omega
    simp [fj, h0, h1]
  . by_cases h1 : 12 < (s.length : Int)
    . have h2 : ¬ s.length <= 12 := by omega
      simp [fj, h0, h1, h2]
    . have h2 : s.length <= 12 := by omega
      have h3 : 1 <= s.length := by omega
      have L : ∀ k1 k2, gy c (s.length + 1) k1 k2 (s.length + 1) [.str s, .int .i64 0] st = if (s.drop 0).all (fun c => decide (97 <= c /\ c <= 122)) = true then k2 [] st else k1 [.bool false] st :=
        fun k1 k2 => Wj (c := c) s h2 (s.length + 1) st k1 k2 s.length 0 (by omega) (by omega)
      rw [List.drop_zero] at L
      have e : fj s = s.all fun c => decide (97 <= c /\ c <= 122) := by simp [fj, h2, h3]
      rw [e]
      generalize (s.all _) = b at L ⊢
      simp [h0, h1, L]
      cases b <;> simp
end Go.Proofs.YtogojkhbplmifaaGreatDoor
end
section
set_option maxRecDepth 100000
namespace Go.Proofs.YtogojkhbplmifaaGreatDoor
open Go Go.Ai Go.Proofs
variable {c : ai}
structure bh where
  name : List Nat
  sh : Int
  a : Int
  b : Int
  oz : Bool
  eG : List Int
  x : Int
  y : Int
def ints (z : Bool) (l : List Int) : AV := ro 1 z (l.map fun i => [.int .i64 i])
def bh.cells (t : bh) : List AV := [.str t.name, .int .u8 t.sh, .int .i64 t.a, .int .i64 t.b, ints t.oz t.eG, .int .i64 t.x, .int .i64 t.y]
@[simp] theorem Tm (z : Bool) (l : List Int) : (ints z l).one = true := Q5 _ _ _
def dy (t : bh) : Int :=
  if t.sh = 1 then (if 1 <= t.a /\ t.a <= 24 /\ t.b = 0 then t.a else 0)
  else if t.sh = 2 then (if 1 <= t.a /\ t.a <= 11 /\ 0 <= t.b /\ t.b <= 2 then 2 * t.a + t.b else 0)
  else if t.sh = 3 then (if 1 <= t.a /\ t.a <= 8 /\ 1 <= t.b /\ t.b <= 8 then t.a + 2 * t.b else 0)
  else if t.sh = 4 then (if 1 <= t.a /\ t.a <= 24 /\ 0 <= t.b /\ t.b <= t.a then t.a else 0)
  else 0
theorem eM (hc : Sem c) (n lo hi : Int) (st : St) : c 153 [.int .i64 n, .int .i64 lo, .int .i64 hi] st = some (.bool (decide (lo <= n /\ n <= hi)), st) := by
  rw [yp hc 1 (r := (.bool (decide (lo <= n /\ n <= hi)), st)), aI (Plain.bool _) (bY.refl st)]
  rw [uk]
  by_cases h : lo <= n <;> simp [h]
theorem Bw (hc : Sem c) (t : bh) (st : St) (hw : Wf st) : c 66 [.agg t.cells] st = some (.int .i64 (dy t), st) := by
  rw [Ag hc 1 (r := (.int .i64 (dy t), au st (.cells t.cells 0))), aI (Plain.int _ _) (bU hw)]
  rw [vY]
  obtain ⟨name, sh, a, b, oz, eG, x, y⟩ := t
  by_cases h1 : sh = 1
  . subst h1
    by_cases h2 : 1 <= a /\ a <= 24 <;> by_cases h3 : b = 0 <;> simp [bh.cells, AV.cells, eM hc, dy, eo, h2, h3]
  by_cases h4 : sh = 2
  . subst h4
    by_cases h2 : 1 <= a /\ a <= 11
    . by_cases h3 : 0 <= b /\ b <= 2
      . have w1 : aM .i64 (2 * a) = 2 * a := wrap64 (by omega) (by omega)
        have w2 : aM .i64 (2 * a + b) = 2 * a + b := wrap64 (by omega) (by omega)
        simp [bh.cells, AV.cells, eM hc, dy, eo, h2, h3, w1, w2]
      . simp [bh.cells, AV.cells, eM hc, dy, eo, h2, h3]
    . simp [bh.cells, AV.cells, eM hc, dy, eo, h2]; omega
  by_cases h5 : sh = 3
  . subst h5
    by_cases h2 : 1 <= a /\ a <= 8
    . by_cases h3 : 1 <= b /\ b <= 8
      . have w1 : aM .i64 (2 * b) = 2 * b := wrap64 (by omega) (by omega)
        have w2 : aM .i64 (a + 2 * b) = a + 2 * b := wrap64 (by omega) (by omega)
        simp [bh.cells, AV.cells, eM hc, dy, eo, h2, h3, w1, w2]
      . simp [bh.cells, AV.cells, eM hc, dy, eo, h2, h3]
    . simp [bh.cells, AV.cells, eM hc, dy, eo, h2]; omega
  by_cases h6 : sh = 4
  . subst h6
    by_cases h2 : 1 <= a /\ a <= 24
    . by_cases h3 : 0 <= b /\ b <= a
      . simp [bh.cells, AV.cells, eM hc, dy, eo, h2, h3]
      . simp [bh.cells, AV.cells, eM hc, dy, eo, h2, h3]
    . simp [bh.cells, AV.cells, eM hc, dy, eo, h2]; omega
  simp [bh.cells, AV.cells, eM hc, dy, eo, h1, h4, h5, h6]
theorem J6 (hc : Sem c) (a b : Int) (st : St) : c 244 [.int .i64 a, .int .i64 b] st = some (.int .i64 (if 1 <= a /\ a <= 24 /\ b = 0 then a else 0), st) := by
  rw [CH hc 1 (r := (.int .i64 (if 1 <= a /\ a <= 24 /\ b = 0 then a else 0), st)), aI (Plain.int _ _) (bY.refl st)]
  rw [y8]
  by_cases h1 : a < 1
  . have : ¬ 1 <= a := by omega
    simp [h1, this]
  . by_cases h2 : 24 < a
    . have : ¬ a <= 24 := by omega
      simp [h1, h2, this]
    . have h3 : 1 <= a := by omega
      have h4 : a <= 24 := by omega
      by_cases h5 : b = 0 <;> simp [h1, h2, h3, h4, h5]
theorem LM (hc : Sem c) (a b : Int) (st : St) : c 249 [.int .i64 a, .int .i64 b] st = some (.int .i64 (if 1 <= a /\ a <= 11 /\ 0 <= b /\ b <= 2 then 2 * a + b else 0), st) := by
  rw [DD hc 1 (r := (.int .i64 (if 1 <= a /\ a <= 11 /\ 0 <= b /\ b <= 2 then 2 * a + b else 0), st)), aI (Plain.int _ _) (bY.refl st)]
  rw [Ah]
  by_cases h1 : a < 1
  . have : ¬ 1 <= a := by omega
    simp [h1, this]
  by_cases h2 : 11 < a
  . have : ¬ a <= 11 := by omega
    simp [h1, h2, this]
  by_cases h3 : b < 0
  . have : ¬ 0 <= b := by omega
    simp [h1, h2, h3, this]
  by_cases h4 : 2 < b
  . have : ¬ b <= 2 := by omega
    simp [h1, h2, h3, h4, this]
  have h5 : 1 <= a := by omega
  have h6 : a <= 11 := by omega
  have h7 : 0 <= b := by omega
  have h8 : b <= 2 := by omega
  have w1 : aM .i64 (2 * a) = 2 * a := wrap64 (by omega) (by omega)
  have w2 : aM .i64 (2 * a + b) = 2 * a + b := wrap64 (by omega) (by omega)
  simp [h1, h2, h3, h4, h5, h6, h7, h8, w1, w2]
theorem LN (hc : Sem c) (a b : Int) (st : St) : c 254 [.int .i64 a, .int .i64 b] st = some (.int .i64 (if 1 <= a /\ a <= 8 /\ 1 <= b /\ b <= 8 then a + 2 * b else 0), st) := by
  rw [DE hc 1 (r := (.int .i64 (if 1 <= a /\ a <= 8 /\ 1 <= b /\ b <= 8 then a + 2 * b else 0), st)), aI (Plain.int _ _) (bY.refl st)]
  rw [Aj]
  by_cases h1 : a < 1
  . have : ¬ 1 <= a := by omega
    simp [h1, this]
  by_cases h2 : 8 < a
  . have : ¬ a <= 8 := by omega
    simp [h1, h2, this]
  by_cases h3 : b < 1
  . have : ¬ 1 <= b := by omega
    simp [h1, h2, h3, this]
  by_cases h4 : 8 < b
  . have : ¬ b <= 8 := by omega
    simp [h1, h2, h3, h4, this]
  have h5 : 1 <= a := by omega
  have h6 : a <= 8 := by omega
  have h7 : 1 <= b := by omega
  have h8 : b <= 8 := by omega
  have w1 : aM .i64 (2 * b) = 2 * b := wrap64 (by omega) (by omega)
  have w2 : aM .i64 (a + 2 * b) = a + 2 * b := wrap64 (by omega) (by omega)
  simp [h1, h2, h3, h4, h5, h6, h7, h8, w1, w2]
theorem ND (hc : Sem c) (a b : Int) (st : St) : c 259 [.int .i64 a, .int .i64 b] st = some (.int .i64 (if 1 <= a /\ a <= 24 /\ 0 <= b /\ b <= a then a else 0), st) := by
  rw [Ew hc 1 (r := (.int .i64 (if 1 <= a /\ a <= 24 /\ 0 <= b /\ b <= a then a else 0), st)), aI (Plain.int _ _) (bY.refl st)]
  rw [Cw]
  by_cases h1 : a < 1
  . have : ¬ 1 <= a := by omega
    simp [h1, this]
  by_cases h2 : 24 < a
  . have : ¬ a <= 24 := by omega
    simp [h1, h2, this]
  by_cases h3 : b < 0
  . have : ¬ 0 <= b := by omega
    simp [h1, h2, h3, this]
  by_cases h4 : a < b
  . have : ¬ b <= a := by omega
    simp [h1, h2, h3, h4, this]
  have h5 : 1 <= a := by omega
  have h6 : a <= 24 := by omega
  have h7 : 0 <= b := by omega
  have h8 : b <= a := by omega
  simp [h1, h2, h3, h4, h5, h6, h7, h8]
def qh (sh : Int) : List AV :=
  if sh = 1 then [.str [114, 111, 117, 110, 100], .func 244 [] [], .func 245 [] [], .func 246 [] [], .func 247 [] [], .func 248 [] []]
  else if sh = 2 then [.str [108, 111, 110, 103], .func 249 [] [], .func 250 [] [], .func 251 [] [], .func 252 [] [], .func 253 [] []]
  else if sh = 3 then [.str [104, 111, 114, 115, 101, 115, 104, 111, 101], .func 254 [] [], .func 255 [] [], .func 256 [] [], .func 257 [] [], .func 258 [] []]
  else if sh = 4 then [.str [114, 111, 119], .func 259 [] [], .func 260 [] [], .func 261 [] [], .func 262 [] [], .func 263 [] []]
  else [.str [], .aq, .aq, .aq, .aq, .aq]
theorem plain_fn (f : Nat) : Plain (.func f [] []) := Plain.func f (by simp) (by simp)
theorem Re (sh : Int) : ∀ v ∈ qh sh, Plain v := by
  unfold qh; intro v hv
  repeat' split at hv
  all_goals
    simp only [List.mem_cons, List.not_mem_nil, or_false] at hv
    rcases hv with rfl | rfl | rfl | rfl | rfl | rfl <;> first | exact Plain.str _ | exact Plain.aq | exact plain_fn _
theorem rm (hc : Sem c) (sh : Int) (st : St) (hw : Wf st) : c 208 [.int .u8 sh] st = some (.tuple [.agg (qh sh), .bool (decide (1 <= sh /\ sh <= 4))], st) := by
  have hp : Plain (.tuple [.agg (qh sh), .bool (decide (1 <= sh /\ sh <= 4))]) := Plain.tuple fun v hv => by
    simp only [List.mem_cons, List.not_mem_nil, or_false] at hv
    rcases hv with rfl | rfl
    . exact Plain.agg (Re sh)
    . exact Plain.bool _
  rw [Ex hc 1 (r := (.tuple [.agg (qh sh), .bool (decide (1 <= sh /\ sh <= 4))], au st (.cells (qh sh) 0))), aI hp (bU hw)]
  rw [Cx]
  by_cases h1 : sh = 1
  . subst h1; simp [qh, AV.cells, cY, AV.one, fR, cL, bg, iN]
  by_cases h2 : sh = 2
  . subst h2; simp [qh, AV.cells, cY, AV.one, fR, cL, bg, iN]
  by_cases h3 : sh = 3
  . subst h3; simp [qh, AV.cells, cY, AV.one, fR, cL, bg, iN]
  by_cases h4 : sh = 4
  . subst h4; simp [qh, AV.cells, cY, AV.one, fR, cL, bg, iN]
  have h5 : decide (1 <= sh /\ sh <= 4) = false := by simp; omega
  rw [h5]
  simp [qh, AV.cells, cY, AV.one, fR, cL, bg, iN, h1, h2, h3, h4]
theorem Iy (hc : Sem c) (t : bh) (st : St) (hw : Wf st) : c 136 [.agg t.cells] st = some (.int .i64 (dy t), st) := by
  rw [J7 hc 1 (r := (.int .i64 (dy t), au (au st (.cells t.cells 0)) (.cells (qh t.sh) 0))), aI (Plain.int _ _) ((bU hw).trans (bU (cF hw)))]
  rw [JC]
  obtain ⟨name, sh, a, b, oz, eG, x, y⟩ := t
  by_cases h1 : sh = 1
  . subst h1; simp [bh.cells, AV.cells, rm hc, hw, dy, qh, cY, AV.one, J6 hc]
  by_cases h2 : sh = 2
  . subst h2; simp [bh.cells, AV.cells, rm hc, hw, dy, qh, cY, AV.one, LM hc]
  by_cases h3 : sh = 3
  . subst h3; simp [bh.cells, AV.cells, rm hc, hw, dy, qh, cY, AV.one, LN hc]
  by_cases h4 : sh = 4
  . subst h4; simp [bh.cells, AV.cells, rm hc, hw, dy, qh, cY, AV.one, ND hc]
  have h5 : decide (1 <= sh /\ sh <= 4) = false := by simp; omega
  simp [bh.cells, AV.cells, rm hc, hw, dy, qh, cY, AV.one, h1, h2, h3, h4, h5]
end Go.Proofs.YtogojkhbplmifaaGreatDoor
end
section
set_option maxRecDepth 100000
namespace Go.Proofs.YtogojkhbplmifaaGreatDoor
open Go Go.Ai Go.Proofs
variable {c : ai}
def kE : Nat := 9223372036854775808
theorem zB (s : List Nat) (hs : s.length <= 12) (F : Nat) (st : St) (k1 k2) : ∀ (m k : Nat), s.length <= k + m -> k <= s.length ->
    fE c F k1 k2 (m + 1) [.str s, .int .i64 (k : Int)] st = if (s.drop k).all (fun c => decide (97 <= c /\ c <= 122)) = true then k2 [] st else k1 [.bool false] st := by
  intro m
  induction m with
  | zero =>
    intro k h1 h2
    rw [fE]
    obtain rfl : k = s.length := by omega
    simp
  | succ m ih =>
    intro k h1 h2
    rw [fE]
    by_cases h : k < s.length
    . have e : s.drop k = s[k] :: s.drop (k + 1) := List.drop_eq_getElem_cons h
      have := ih (k + 1) (by omega) (by omega)
      have w : aM .i64 ((k : Int) + 1) = ((k + 1 : Nat) : Int) := wrap64 (by omega) (by omega)
      rw [e, List.all_cons]
      generalize (s.drop (k + 1)).all _ = rest at this ⊢
      by_cases h3 : (s[k] : Int) < 97
      . have h5 : decide (97 <= s[k] /\ s[k] <= 122) = false := by simp; omega
        simp [h, h3, h5]
      . by_cases h4 : 122 < (s[k] : Int)
        . have h5 : decide (97 <= s[k] /\ s[k] <= 122) = false := by simp; omega
          simp [h, h3, h4, h5]
        . have h5 : decide (97 <= s[k] /\ s[k] <= 122) = true := by simp; omega
          rw [h5, Bool.true_and, <- this]
          simp [h, h3, h4, w]
    . obtain rfl : k = s.length := by omega
      simp
theorem Bx (hc : Sem c) (s : List Nat) (st : St) : c 242 [.str s] st = some (.bool (fj s), st) := by
  rw [Ak hc (s.length + 1) (r := (.bool (fj s), st)), aI (Plain.bool _) (bY.refl st)]
  rw [qY]
  by_cases h0 : (s.length : Int) = 0
  . have h1 : ¬ 1 <= s.length := by omega
    have h2 : s = [] := List.eq_nil_of_length_eq_zero (by omega)
    subst h2
    simp [fj]
  . by_cases h1 : 12 < (s.length : Int)
    . have h2 : ¬ s.length <= 12 := by omega
      have h3 : ¬ s = [] := by intro e; subst e; simp at h0
      simp [fj, h1, h2, h3]
    . have h2 : s.length <= 12 := by omega
      have h3 : 1 <= s.length := by omega
      have h4 : ¬ s = [] := by intro e; subst e; simp at h0
      have L : ∀ k1 k2, fE c (s.length + 1) k1 k2 (s.length + 1) [.str s, .int .i64 0] st = if (s.drop 0).all (fun c => decide (97 <= c /\ c <= 122)) = true then k2 [] st else k1 [.bool false] st :=
        fun k1 k2 => zB (c := c) s h2 (s.length + 1) st k1 k2 s.length 0 (by omega) (by omega)
      rw [List.drop_zero] at L
      have e : fj s = s.all fun c => decide (97 <= c /\ c <= 122) := by simp [fj, h2, h3]
      rw [e]
      generalize (s.all _) = b at L ⊢
      simp [h1, h4, L]
      cases b <;> simp
theorem Hf (s : List Nat) (hs : s.length <= 12) (F : Nat) (st : St) (k1 k2) : ∀ (m k : Nat), s.length <= k + m -> k <= s.length ->
    kz c F k1 k2 (m + 1) [.str s, .int .i64 (s.length : Int), .int .i64 (k : Int)] st = if (s.drop k).all (fun c => decide (97 <= c /\ c <= 122)) = true then k2 [] st else k1 [.bool false] st := by
  intro m
  induction m with
  | zero =>
    intro k h1 h2
    rw [kz]
    obtain rfl : k = s.length := by omega
    simp
  | succ m ih =>
    intro k h1 h2
    rw [kz]
    by_cases h : k < s.length
    . have e : s.drop k = s[k] :: s.drop (k + 1) := List.drop_eq_getElem_cons h
      have := ih (k + 1) (by omega) (by omega)
      have w : aM .i64 ((k : Int) + 1) = ((k + 1 : Nat) : Int) := wrap64 (by omega) (by omega)
      rw [e, List.all_cons]
      generalize (s.drop (k + 1)).all _ = rest at this ⊢
      by_cases h3 : (s[k] : Int) < 97
      . have h5 : decide (97 <= s[k] /\ s[k] <= 122) = false := by simp; omega
        simp [h, h3, h5]
      . by_cases h4 : 122 < (s[k] : Int)
        . have h5 : decide (97 <= s[k] /\ s[k] <= 122) = false := by simp; omega
          simp [h, h3, h4, h5]
        . have h5 : decide (97 <= s[k] /\ s[k] <= 122) = true := by simp; omega
          rw [h5, Bool.true_and, <- this]
          simp [h, h3, h4, w]
    . obtain rfl : k = s.length := by omega
      simp
theorem vQ (hc : Sem c) (s : List Nat) (st : St) : c 273 [.str s] st = some (.bool (fj s), st) := by
  rw [Iz hc (s.length + 1) (r := (.bool (fj s), st)), aI (Plain.bool _) (bY.refl st)]
  rw [By]
  by_cases h0 : (s.length : Int) = 0
  . have h1 : ¬ 1 <= s.length := by omega
    have h2 : s = [] := List.eq_nil_of_length_eq_zero (by omega)
    subst h2
    simp [fj]
  . by_cases h1 : 12 < (s.length : Int)
    . have h2 : ¬ s.length <= 12 := by omega
      have h3 : ¬ s = [] := by intro e; subst e; simp at h0
      simp [fj, h1, h2, h3]
    . have h2 : s.length <= 12 := by omega
      have h3 : 1 <= s.length := by omega
      have h4 : ¬ s = [] := by intro e; subst e; simp at h0
      have L : ∀ k1 k2, kz c (s.length + 1) k1 k2 (s.length + 1) [.str s, .int .i64 (s.length : Int), .int .i64 0] st = if (s.drop 0).all (fun c => decide (97 <= c /\ c <= 122)) = true then k2 [] st else k1 [.bool false] st :=
        fun k1 k2 => Hf (c := c) s h2 (s.length + 1) st k1 k2 s.length 0 (by omega) (by omega)
      rw [List.drop_zero] at L
      have e : fj s = s.all fun c => decide (97 <= c /\ c <= 122) := by simp [fj, h2, h3]
      rw [e]
      generalize (s.all _) = b at L ⊢
      simp [h1, h4, L]
      cases b <;> simp
theorem IA (s : List Nat) (hs : s.length <= 12) (F : Nat) (st : St) (k1 k2) : ∀ (m k : Nat), s.length <= k + m -> k <= s.length ->
    lO c F k1 k2 (m + 1) [.str s, .int .i64 (s.length : Int), .int .i64 (k : Int)] st = if (s.drop k).all (fun c => decide (97 <= c /\ c <= 122)) = true then k2 [] st else k1 [.bool false] st := by
  intro m
  induction m with
  | zero =>
    intro k h1 h2
    rw [lO]
    obtain rfl : k = s.length := by omega
    simp
  | succ m ih =>
    intro k h1 h2
    rw [lO]
    by_cases h : k < s.length
    . have e : s.drop k = s[k] :: s.drop (k + 1) := List.drop_eq_getElem_cons h
      have := ih (k + 1) (by omega) (by omega)
      have w : aM .i64 ((k : Int) + 1) = ((k + 1 : Nat) : Int) := wrap64 (by omega) (by omega)
      rw [e, List.all_cons]
      generalize (s.drop (k + 1)).all _ = rest at this ⊢
      by_cases h3 : (s[k] : Int) < 97
      . have h5 : decide (97 <= s[k] /\ s[k] <= 122) = false := by simp; omega
        simp [h, h3, h5]
      . by_cases h4 : 122 < (s[k] : Int)
        . have h5 : decide (97 <= s[k] /\ s[k] <= 122) = false := by simp; omega
          simp [h, h3, h4, h5]
        . have h5 : decide (97 <= s[k] /\ s[k] <= 122) = true := by simp; omega
          rw [h5, Bool.true_and, <- this]
          simp [h, h3, h4, w]
    . obtain rfl : k = s.length := by omega
      simp
theorem LO (hc : Sem c) (s : List Nat) (st : St) : c 121 [.str s] st = some (.bool (fj s), st) := by
  rw [J8 hc (s.length + 1) (r := (.bool (fj s), st)), aI (Plain.bool _) (bY.refl st)]
  rw [DF]
  by_cases h0 : (s.length : Int) = 0
  . have h1 : ¬ 1 <= s.length := by omega
    have h2 : s = [] := List.eq_nil_of_length_eq_zero (by omega)
    subst h2
    simp [fj]
  . by_cases h1 : 12 < (s.length : Int)
    . have h2 : ¬ s.length <= 12 := by omega
      have h3 : ¬ s = [] := by intro e; subst e; simp at h0
      simp [fj, h1, h2, h3]
    . have h2 : s.length <= 12 := by omega
      have h3 : 1 <= s.length := by omega
      have h4 : ¬ s = [] := by intro e; subst e; simp at h0
      have L : ∀ k1 k2, lO c (s.length + 1) k1 k2 (s.length + 1) [.str s, .int .i64 (s.length : Int), .int .i64 0] st = if (s.drop 0).all (fun c => decide (97 <= c /\ c <= 122)) = true then k2 [] st else k1 [.bool false] st :=
        fun k1 k2 => IA (c := c) s h2 (s.length + 1) st k1 k2 s.length 0 (by omega) (by omega)
      rw [List.drop_zero] at L
      have e : fj s = s.all fun c => decide (97 <= c /\ c <= 122) := by simp [fj, h2, h3]
      rw [e]
      generalize (s.all _) = b at L ⊢
      simp [h1, h4, L]
      cases b <;> simp
theorem IB (s : List Nat) (hs : s.length < kE) (F : Nat) (st : St) (k1 k2) : ∀ (m k : Nat), s.length <= k + m -> k <= s.length ->
    lQ c F k1 k2 (m + 1) [.str s, .int .i64 (k : Int)] st = if (s.drop k).all (fun c => decide (97 <= c /\ c <= 122)) = true then k2 [.str s] st else k1 [.bool false] st := by
  intro m
  induction m with
  | zero =>
    intro k h1 h2
    rw [lQ]
    obtain rfl : k = s.length := by omega
    simp
  | succ m ih =>
    intro k h1 h2
    rw [lQ]
    by_cases h : k < s.length
    . have e : s.drop k = s[k] :: s.drop (k + 1) := List.drop_eq_getElem_cons h
      have := ih (k + 1) (by omega) (by omega)
      have w : aM .i64 ((k : Int) + 1) = ((k + 1 : Nat) : Int) := wrap64 (by omega) (by unfold kE at hs; omega)
      rw [e, List.all_cons]
      generalize (s.drop (k + 1)).all _ = rest at this ⊢
      by_cases h3 : (s[k] : Int) < 97
      . have h5 : decide (97 <= s[k] /\ s[k] <= 122) = false := by simp; omega
        simp [h, h3, h5]
      . by_cases h4 : 122 < (s[k] : Int)
        . have h5 : decide (97 <= s[k] /\ s[k] <= 122) = false := by simp; omega
          simp [h, h3, h4, h5]
        . have h5 : decide (97 <= s[k] /\ s[k] <= 122) = true := by simp; omega
          rw [h5, Bool.true_and, <- this]
          simp [h, h3, h4, w]
    . obtain rfl : k = s.length := by omega
      simp
theorem LP (hc : Sem c) (s : List Nat) (hs : s.length < kE) (st : St) : c 241 [.str s] st = some (.bool (fj s), st) := by
  rw [J9 hc (s.length + 1) (r := (.bool (fj s), st)), aI (Plain.bool _) (bY.refl st)]
  rw [DG]
  have L : ∀ k1 k2, lQ c (s.length + 1) k1 k2 (s.length + 1) [.str s, .int .i64 0] st = if (s.drop 0).all (fun c => decide (97 <= c /\ c <= 122)) = true then k2 [.str s] st else k1 [.bool false] st :=
    fun k1 k2 => IB (c := c) s hs (s.length + 1) st k1 k2 s.length 0 (by omega) (by omega)
  rw [List.drop_zero] at L
  have e : fj s = (decide (1 <= s.length) && decide (s.length <= 12) && s.all fun c => decide (97 <= c /\ c <= 122)) := rfl
  rw [e]
  generalize (s.all _) = b at L ⊢
  simp [L]
  cases b
  . simp
  . by_cases h1 : (1 : Int) <= s.length
    . have h2 : 1 <= s.length := by omega
      by_cases h3 : (s.length : Int) <= 12
      . have h4 : s.length <= 12 := by omega
        simp [h1, h2, h3, h4]
      . have h4 : ¬ s.length <= 12 := by omega
        simp [h1, h2, h3, h4]
    . have h2 : ¬ 1 <= s.length := by omega
      simp [h1, h2]
def mH (s : List Nat) : Bool := decide (s = []) || fj s
theorem vR (hc : Sem c) (s : List Nat) (st : St) : c 274 [.str s] st = some (.bool (mH s), st) := by
  rw [IC hc 1 (r := (.bool (mH s), st)), aI (Plain.bool _) (bY.refl st)]
  rw [Hg]
  by_cases h : s = [] <;> simp [h, mH, vQ hc]
end Go.Proofs.YtogojkhbplmifaaGreatDoor
end
section
set_option maxRecDepth 100000
namespace Go.Proofs.YtogojkhbplmifaaGreatDoor
open Go Go.Ai Go.Proofs
variable {c : ai}
def qZ (n last : Int) : List Int -> Bool
  | [] => true
  | k :: l => decide (last < k) && decide (k < n) && qZ n k l
def rZ (t : bh) : Int :=
  if fj t.name = false then 4 else if dy t = 0 then 10 else if qZ (dy t) (-1) t.eG = false then 11
  else if 0 <= t.x /\ t.x <= 1000 /\ 0 <= t.y /\ t.y <= 1000 then 0 else 2
structure bh.Ok (t : bh) : Prop where
  name : t.name.length < kE
  eG : t.eG.length < kE
theorem LQ (l : List Int) (k : Nat) (h : k < l.length) : ((l.map fun i => [AV.int .i64 i])[k]?.bind fun cs => cs[0]?) = some (.int .i64 l[k]) := by
  simp [List.getElem?_map, List.getElem?_eq_getElem h]
theorem Hh (p : Pos) (n : Int) (z : Bool) (l : List Int) (hl : l.length < kE) (F : Nat) (st : St) (k1 k3) : ∀ (m k : Nat) (last : Int), l.length <= k + m -> k <= l.length ->
    kA c F k1 k3 (m + 1) [.ptr p 0, .int .i64 n, .int .i64 last, ints z l, .int .i64 (l.length : Int), .int .i64 (k : Int)] st = if qZ n last (l.drop k) = true then k3 [.ptr p 0] st else k1 [.int .i64 11] st := by
  intro m
  induction m with
  | zero =>
    intro k last h1 h2
    rw [kA]
    obtain rfl : k = l.length := by omega
    simp [qZ]
  | succ m ih =>
    intro k last h1 h2
    rw [kA]
    by_cases h : k < l.length
    . have e : l.drop k = l[k] :: l.drop (k + 1) := List.drop_eq_getElem_cons h
      have := ih (k + 1) l[k] (by omega) (by omega)
      have w : aM .i64 ((k : Int) + 1) = ((k + 1 : Nat) : Int) := wrap64 (by omega) (by unfold kE at hl; omega)
      have g := LQ l k h
      rw [e, qZ]
      generalize qZ n l[k] (l.drop (k + 1)) = rest at this ⊢
      by_cases h3 : l[k] <= last
      . have h4 : ¬ last < l[k] := by omega
        simp [ints, h, h3, h4, g]
      . have h4 : last < l[k] := by omega
        by_cases h5 : n <= l[k]
        . have h6 : ¬ l[k] < n := by omega
          simp [ints, h, h3, h4, h5, h6, g]
        . have h6 : l[k] < n := by omega
          simp only [h4, h6, decide_true, Bool.true_and]
          rw [<- this]
          simp [ints, h, h3, h4, h5, h6, g, w]
    . obtain rfl : k = l.length := by omega
      simp [qZ]
theorem Tn (hc : Sem c) (t : bh) (ht : t.Ok) (st : St) (hw : Wf st) : c 182 [.agg t.cells] st = some (.int .i64 (rZ t), st) := by
  rw [ID hc (t.eG.length + 1) (r := (.int .i64 (rZ t), au st (.cells t.cells 0))), aI (Plain.int _ _) (bU hw)]
  rw [Bz]
  have hs := Iy hc t (au st (.cells t.cells 0)) (cF hw)
  have hn := LP hc t.name ht.name
  have hg : (au st (.cells t.cells 0)).heap.get st.next = some (.cells t.cells 0) := cm _ _
  have c0 : t.cells[0]? = some (.str t.name) := rfl
  have c4 : t.cells[4]? = some (ints t.oz t.eG) := rfl
  have c5 : t.cells[5]? = some (.int .i64 t.x) := rfl
  have c6 : t.cells[6]? = some (.int .i64 t.y) := rfl
  have cc : cut t.cells 0 7 = some t.cells := fR rfl
  have L : ∀ k1 k3, kA c (t.eG.length + 1) k1 k3 (t.eG.length + 1) [.ptr st.next 0, .int .i64 (dy t), .int .i64 (-1), ints t.oz t.eG, .int .i64 (t.eG.length : Int), .int .i64 0] (au st (.cells t.cells 0)) =
      if qZ (dy t) (-1) (t.eG.drop 0) = true then k3 [.ptr st.next 0] (au st (.cells t.cells 0)) else k1 [.int .i64 11] (au st (.cells t.cells 0)) :=
    fun k1 k3 => Hh st.next (dy t) t.oz t.eG ht.eG _ _ k1 k3 t.eG.length 0 (-1) (by omega) (by omega)
  rw [List.drop_zero] at L
  have lI : ∀ (K : AV -> St -> Option (AV × St)) (s : St), af c (.lenB .l) [ints t.oz t.eG] s K = K (.int .i64 (t.eG.length : Int)) s := fun K s => by unfold ints; rw [mT]; simp
  unfold rZ
  generalize t.cells = tc at *
  generalize dy t = sz at *
  generalize qZ sz (-1) t.eG = op at *
  by_cases h1 : fj t.name = true
  . by_cases h2 : sz = 0
    . simp [AV.cells, hs, hn, hg, c0, cc, h1, h2]
    . cases op
      . simp [AV.cells, hs, hn, hg, c0, c4, cc, h1, h2, lI, L]
      . by_cases h3 : t.x < 0
        . have : ¬ 0 <= t.x := by omega
          simp [AV.cells, hs, hn, hg, c0, c4, c5, c6, cc, h1, h2, lI, L, h3, this]
        by_cases h4 : 1000 < t.x
        . have : ¬ t.x <= 1000 := by omega
          simp [AV.cells, hs, hn, hg, c0, c4, c5, c6, cc, h1, h2, lI, L, h3, h4, this]
        by_cases h5 : t.y < 0
        . have : ¬ 0 <= t.y := by omega
          simp [AV.cells, hs, hn, hg, c0, c4, c5, c6, cc, h1, h2, lI, L, h3, h4, h5, this]
        by_cases h6 : 1000 < t.y
        . have : ¬ t.y <= 1000 := by omega
          simp [AV.cells, hs, hn, hg, c0, c4, c5, c6, cc, h1, h2, lI, L, h3, h4, h5, h6, this]
        have h7 : 0 <= t.x := by omega
        have h8 : t.x <= 1000 := by omega
        have h9 : 0 <= t.y := by omega
        have Cy : t.y <= 1000 := by omega
        simp [AV.cells, hs, hn, hg, c0, c4, c5, c6, cc, h1, h2, lI, L, h3, h4, h5, h6, h7, h8, h9, Cy]
  . simp [AV.cells, hs, hn, hg, c0, cc, h1]
theorem tA (t : bh) : 0 <= dy t /\ dy t <= 1000 := by
  unfold dy; repeat' split
  all_goals omega
theorem Ka (hc : Sem c) (p : Pos) (t : bh) (hl : t.eG.length < kE) (n : Int) (hn : 0 <= n /\ n <= 1000) (F : Nat) (st : St) (hp : st.heap.get p = some (.cells t.cells 0)) (k1 k2) : ∀ (m k : Nat) (last : Int), t.eG.length <= k + m -> k <= t.eG.length -> -1 <= last -> (∀ h : 0 < k, ∀ h' : k - 1 < t.eG.length, t.eG[k - 1] = last) -> (k = 0 -> last = -1) ->
    eX c F k1 k2 (m + 1) [.ptr p 0, .int .i64 n, .int .i64 (k : Int)] st = if qZ n last (t.eG.drop k) = true then k2 [.ptr p 0] st else k1 [.int .i64 11] st := by
  have c4 : t.cells[4]? = some (ints t.oz t.eG) := rfl
  have lI : ∀ (K : AV -> St -> Option (AV × St)) (s : St), af c (.lenB .l) [ints t.oz t.eG] s K = K (.int .i64 (t.eG.length : Int)) s := fun K s => by unfold ints; rw [mT]; simp
  intro m
  induction m with
  | zero =>
    intro k last h1 h2 _ _ _
    rw [eX]
    obtain rfl : k = t.eG.length := by omega
    simp [qZ, hp, c4, lI]
  | succ m ih =>
    intro k last h1 h2 hla ach hz
    rw [eX]
    by_cases h : k < t.eG.length
    . have e : t.eG.drop k = t.eG[k] :: t.eG.drop (k + 1) := List.drop_eq_getElem_cons h
      have w : aM .i64 ((k : Int) + 1) = ((k + 1 : Nat) : Int) := wrap64 (by omega) (by unfold kE at hl; omega)
      have wn : aM .i64 (n - 1) = n - 1 := wrap64 (by omega) (by omega)
      have g := LQ t.eG k h
      rw [e, qZ]
      by_cases h3 : 0 <= t.eG[k] /\ t.eG[k] <= n - 1
      . have h6 : t.eG[k] < n := by omega
        have := ih (k + 1) t.eG[k] (by omega) (by omega) (by omega) (fun _ _ => by simp) (fun h => by omega)
        generalize qZ n t.eG[k] (t.eG.drop (k + 1)) = rest at this ⊢
        by_cases h0 : k = 0
        . have h4 : last < t.eG[k] := by rw [hz h0]; omega
          have hk : ¬ 0 < k := by omega
          simp only [h4, h6, decide_true, Bool.true_and]
          rw [<- this]
          simp [hp, c4, lI, ints, h, h3, wn, eM hc, hk, w]
        . have hk : 0 < k := by omega
          have nE : k - 1 < t.eG.length := by omega
          have pJ := ach (by omega) nE
          have wk : aM .i64 ((k : Int) - 1) = ((k - 1 : Nat) : Int) := by rw [wrap64 (by omega) (by unfold kE at hl; omega)]; omega
          by_cases h5 : t.eG[k] <= last
          . have h4 : ¬ last < t.eG[k] := by omega
            simp [hp, c4, lI, ints, h, h3, h4, h5, wn, eM hc, hk, nE, pJ, wk]
          . have h4 : last < t.eG[k] := by omega
            simp only [h4, h6, decide_true, Bool.true_and]
            rw [<- this]
            simp [hp, c4, lI, ints, h, h3, h5, wn, eM hc, hk, nE, pJ, wk, w]
      . have h4 : (decide (last < t.eG[k]) && decide (t.eG[k] < n)) = false := by simp; omega
        rw [h4, Bool.false_and]
        simp [hp, c4, lI, ints, h, h3, wn, eM hc]
    . obtain rfl : k = t.eG.length := by omega
      simp [qZ, hp, c4, lI]
theorem NF (hc : Sem c) (t : bh) (ht : t.Ok) (st : St) (hw : Wf st) : c 203 [.agg t.cells] st = some (.int .i64 (rZ t), st) := by
  rw [zC hc (t.eG.length + 1) (r := (.int .i64 (rZ t), au st (.cells t.cells 0))), aI (Plain.int _ _) (bU hw)]
  rw [qi]
  have hs := Bw hc t (au st (.cells t.cells 0)) (cF hw)
  have hn := Bx hc t.name
  have hg : (au st (.cells t.cells 0)).heap.get st.next = some (.cells t.cells 0) := cm _ _
  have c0 : t.cells[0]? = some (.str t.name) := rfl
  have c4 : t.cells[4]? = some (ints t.oz t.eG) := rfl
  have c5 : t.cells[5]? = some (.int .i64 t.x) := rfl
  have c6 : t.cells[6]? = some (.int .i64 t.y) := rfl
  have cc : cut t.cells 0 7 = some t.cells := fR rfl
  have hz : 0 <= dy t /\ dy t <= 1000 := tA t
  have L : ∀ k1 k3, eX c (t.eG.length + 1) k1 k3 (t.eG.length + 1) [.ptr st.next 0, .int .i64 (dy t), .int .i64 0] (au st (.cells t.cells 0)) =
      if qZ (dy t) (-1) (t.eG.drop 0) = true then k3 [.ptr st.next 0] (au st (.cells t.cells 0)) else k1 [.int .i64 11] (au st (.cells t.cells 0)) :=
    fun k1 k3 => Ka hc st.next t ht.eG (dy t) hz _ _ hg k1 k3 t.eG.length 0 (-1) (by omega) (by omega) (by omega) (fun h => by omega) (fun _ => rfl)
  rw [List.drop_zero] at L
  unfold rZ
  generalize t.cells = tc at *
  generalize dy t = sz at *
  generalize qZ sz (-1) t.eG = op at *
  by_cases h1 : fj t.name = true
  . by_cases h2 : sz = 0
    . simp [AV.cells, hs, hn, hg, c0, cc, h1, h2]
    . cases op
      . simp [AV.cells, hs, hn, hg, c0, cc, h1, h2, L]
      . by_cases h3 : 0 <= t.x /\ t.x <= 1000
        . by_cases h4 : 0 <= t.y /\ t.y <= 1000
          . simp [AV.cells, hs, hn, hg, c0, c5, c6, cc, h1, h2, L, h3, h4, eM hc]
          . simp [AV.cells, hs, hn, hg, c0, c5, c6, cc, h1, h2, L, h3, h4, eM hc]
        . have h5 : ¬ (0 <= t.x /\ t.x <= 1000 /\ 0 <= t.y /\ t.y <= 1000) := fun h => h3 ⟨h.1, h.2.1⟩
          rw [if_neg h5]
          simp [AV.cells, hs, hn, hg, c0, c5, cc, h1, h2, L, h3, eM hc]
  . simp [AV.cells, hs, hn, hg, c0, cc, h1]
end Go.Proofs.YtogojkhbplmifaaGreatDoor
end
section
set_option maxRecDepth 100000
namespace Go.Proofs.YtogojkhbplmifaaGreatDoor
open Go Go.Ai Go.Proofs
variable {c : ai}
def scan (P : Nat -> Bool) : Nat -> Nat -> Int
  | 0, _ => -1
  | m + 1, k => if P k = true then (k : Int) else scan P m (k + 1)
theorem Al (P : Nat -> Bool) : ∀ (m k : Nat), -1 <= scan P m k /\ (scan P m k < 0 -> scan P m k = -1)
  | 0, _ => by simp [scan]
  | m + 1, k => by
    unfold scan; split
    . omega
    . exact Al P m (k + 1)
theorem Hi {P Q : Nat -> Bool} : ∀ (m k : Nat), (∀ i, k <= i -> i < k + m -> P i = Q i) -> scan P m k = scan Q m k
  | 0, _, _ => rfl
  | m + 1, k, h => by
    unfold scan
    rw [h k (by omega) (by omega), Hi m (k + 1) fun i h1 h2 => h i (by omega) (by omega)]
theorem BA {P : Nat -> Bool} : ∀ (m k : Nat), 0 <= scan P m k -> k <= (scan P m k).toNat /\ (scan P m k).toNat < k + m /\ P (scan P m k).toNat = true
  | 0, k, h => by simp [scan] at h
  | m + 1, k, h => by
    unfold scan at h ⊢
    split
    . rename_i hp; simp; exact hp
    . rename_i hp
      rw [if_neg hp] at h
      have := BA m (k + 1) h
      exact ⟨by omega, by omega, this.2.2⟩
def tabs (z : Bool) (ts : List bh) : AV := ro 7 z (ts.map bh.cells)
@[simp] theorem bh.c0 (t : bh) : t.cells[0]? = some (.str t.name) := id rfl
@[simp] theorem bh.c1 (t : bh) : t.cells[1]? = some (.int .u8 t.sh) := id rfl
@[simp] theorem bh.c2 (t : bh) : t.cells[2]? = some (.int .i64 t.a) := id rfl
@[simp] theorem bh.c3 (t : bh) : t.cells[3]? = some (.int .i64 t.b) := id rfl
@[simp] theorem bh.c4 (t : bh) : t.cells[4]? = some (ints t.oz t.eG) := id rfl
@[simp] theorem bh.c5 (t : bh) : t.cells[5]? = some (.int .i64 t.x) := id rfl
@[simp] theorem bh.c6 (t : bh) : t.cells[6]? = some (.int .i64 t.y) := id rfl
@[simp] theorem bh.cc (t : bh) : cut t.cells 0 7 = some t.cells := fR rfl
theorem bh.len (t : bh) : t.cells.length = 7 := id rfl
@[simp] theorem bh.one (t : bh) : cY t.cells = true := by
  unfold bh.cells; simp only [cY, Tm]; rfl
@[simp] theorem DH (l : List AV) : (AV.agg l).cells = l := id rfl
def jt (ts : List bh) (s : List Nat) (i : Nat) : Bool := decide (ts[i]?.map bh.name = some s)
def eu (ts : List bh) : Nat -> Nat -> Int × Int
  | 0, _ => (0, 0)
  | m + 1, k => match ts[k]? with
    | none => (0, 0)
    | some t => if rZ t ≠ 0 then ((k : Int), rZ t) else if 0 <= scan (jt ts t.name) k 0 then ((k : Int), 5) else eu ts m (k + 1)
def bS (ts : List bh) : Int × Int := if 16 < ts.length then (0, 7) else eu ts ts.length 0
theorem BB (ts : List bh) : ∀ (m m' k : Nat), ts.length <= k + m -> ts.length <= k + m' -> eu ts m k = eu ts m' k
  | 0, 0, _, _, _ => rfl
  | 0, m' + 1, k, h, _ => by rw [eu, eu, List.getElem?_eq_none (by omega)]
  | m + 1, 0, k, _, h => by rw [eu, eu, List.getElem?_eq_none (by omega)]
  | m + 1, m' + 1, k, h, h' => by
    rw [eu, eu, BB ts m m' (k + 1) (by omega) (by omega)]
theorem BC (ts : List bh) : ∀ (m k : Nat), (eu ts m k).2 = 0 -> (eu ts m k).1 = 0
  | 0, _, _ => rfl
  | m + 1, k, h => by
    rw [eu] at h ⊢
    split at h
    . rfl
    . split at h
      . rename_i cM; exact absurd h cM
      . split at h
        . simp at h
        . rename_i h1 h2
          rw [if_neg h1, if_neg h2]; exact BC ts m (k + 1) h
theorem IE (z : Bool) (ts : List bh) (k : Nat) (hk : k < ts.length) (hl : ts.length <= 16) (F : Nat) (st : St) (k1 k4) : ∀ (m j : Nat), k <= j + m -> j <= k ->
    dJ c F k1 k4 (m + 1) [tabs z ts, .int .i64 (k : Int), .int .i64 (j : Int)] st = if 0 <= scan (jt ts ts[k].name) (k - j) j then k1 [.int .i64 (k : Int), .int .i64 5] st else k4 [tabs z ts, .int .i64 (k : Int)] st := by
  intro m
  induction m with
  | zero =>
    intro j h1 h2
    obtain rfl : j = k := by omega
    rw [dJ]
    simp [scan]
  | succ m ih =>
    intro j h1 h2
    rw [dJ]
    by_cases h : j < k
    . have hj : j < ts.length := by omega
      have e : k - j = (k - (j + 1)) + 1 := by omega
      have w : aM .i64 ((j : Int) + 1) = ((j + 1 : Nat) : Int) := wrap64 (by omega) (by omega)
      rw [e, scan]
      by_cases h3 : ts[j].name = ts[k].name
      . have : jt ts ts[k].name j = true := by simp [jt, hj, h3]
        rw [if_pos this]
        simp [tabs, h, hj, hk, h3]
      . have : ¬ jt ts ts[k].name j = true := by simp [jt, hj, h3]
        rw [if_neg this, <- ih (j + 1) (by omega) (by omega)]
        simp [tabs, h, hj, hk, h3, w]
    . obtain rfl : j = k := by omega
      simp [scan]
theorem Hj (hc : Sem c) (z : Bool) (ts : List bh) (dx : ∀ t ∈ ts, t.Ok) (hl : ts.length <= 16) (st : St) (hw : Wf st) (k1 k2) : ∀ (m k : Nat), ts.length <= k + m -> k <= ts.length ->
    dK c 20 k1 k2 (m + 1) [tabs z ts, .int .i64 (k : Int)] st = if (eu ts m k).2 = 0 then k2 [] st else k1 [.int .i64 (eu ts m k).1, .int .i64 (eu ts m k).2] st := by
  intro m
  induction m with
  | zero =>
    intro k h1 h2
    obtain rfl : k = ts.length := by omega
    rw [dK]
    simp [eu, tabs]
  | succ m ih =>
    intro k h1 h2
    rw [dK]
    by_cases h : k < ts.length
    . have w : aM .i64 ((k : Int) + 1) = ((k + 1 : Nat) : Int) := wrap64 (by omega) (by omega)
      have hch := NF hc ts[k] (dx _ (List.getElem_mem h)) st hw
      have L : ∀ k1 k4, dJ c 20 k1 k4 20 [tabs z ts, .int .i64 (k : Int), .int .i64 0] st = if 0 <= scan (jt ts ts[k].name) (k - 0) 0 then k1 [.int .i64 (k : Int), .int .i64 5] st else k4 [tabs z ts, .int .i64 (k : Int)] st :=
        fun k1 k4 => IE z ts k h hl 20 st k1 k4 19 0 (by omega) (by omega)
      rw [Nat.sub_zero] at L
      rw [eu, List.getElem?_eq_getElem h]
      simp only
      by_cases h3 : rZ ts[k] = 0
      . by_cases h4 : 0 <= scan (jt ts ts[k].name) k 0
        . simp [tabs, h, hch, h3, h4] at L ⊢
          rw [L]; simp
        . have := ih (k + 1) (by omega) (by omega)
          simp [tabs, h, hch, h3, h4] at L this ⊢
          rw [L]; simp [w, this]
      . simp [tabs, h, hch, h3]
    . obtain rfl : k = ts.length := by omega
      simp [eu, tabs]
theorem IF (hc : Sem c) (z : Bool) (ts : List bh) (dx : ∀ t ∈ ts, t.Ok) (st : St) (hw : Wf st) : c 123 [tabs z ts] st = some (.tuple [.int .i64 (bS ts).1, .int .i64 (bS ts).2], st) := by
  rw [wH hc 20 (r := (.tuple [.int .i64 (bS ts).1, .int .i64 (bS ts).2], st)), aI (Plain.tuple (by simp [Plain.int])) (bY.refl st)]
  rw [nF]
  by_cases h : 16 < ts.length
  . have hi : (16 : Int) < ts.length := by omega
    simp [tabs, bS, h, hi]
  . have hi : ¬ (16 : Int) < ts.length := by omega
    have L : ∀ k1 k2, dK c 20 k1 k2 20 [tabs z ts, .int .i64 0] st = if (eu ts 19 0).2 = 0 then k2 [] st else k1 [.int .i64 (eu ts 19 0).1, .int .i64 (eu ts 19 0).2] st :=
      fun k1 k2 => Hj hc z ts dx (by omega) st hw k1 k2 19 0 (by omega) (by omega)
    have e : bS ts = eu ts 19 0 := by rw [bS, if_neg h]; exact BB ts _ _ 0 (by omega) (by omega)
    rw [e]
    simp [tabs, hi] at L ⊢
    rw [L]
    by_cases h2 : (eu ts 19 0).2 = 0
    . have := BC ts 19 0 h2
      simp [h2, this]
    . simp [h2]
end Go.Proofs.YtogojkhbplmifaaGreatDoor
end
section
set_option maxRecDepth 100000
namespace Go.Proofs.YtogojkhbplmifaaGreatDoor
open Go Go.Ai Go.Proofs
variable {c : ai}
theorem LR (hc : Sem c) (x t : bh) (p : Pos) (st : St) (hw : Wf st) (hp : st.heap.get p = some (.cells t.cells 0)) : c 184 [.agg x.cells, .ptr p 0] st = some (.bool (decide (x.name = t.name)), st) := by
  rw [CI hc 1 (r := (.bool (decide (x.name = t.name)), au st (.cells x.cells 0))), aI (Plain.bool _) (bU hw)]
  rw [y9]
  have : (au st (.cells x.cells 0)).heap.get p = some (.cells t.cells 0) := bU hw _ _ hp
  simp [this]
theorem To (hc : Sem c) (x : bh) (s : List Nat) (p : Pos) (st : St) (hw : Wf st) (hp : st.heap.get p = some (.cells [.str s] 0)) : c 202 [.agg x.cells, .ptr p 0] st = some (.bool (decide (x.name = s)), st) := by
  rw [Ho hc 1 (r := (.bool (decide (x.name = s)), au st (.cells x.cells 0))), aI (Plain.bool _) (bU hw)]
  rw [E1]
  have : (au st (.cells x.cells 0)).heap.get p = some (.cells [.str s] 0) := bU hw _ _ hp
  simp [this]
theorem Rf (z : Bool) (rs : List (List AV)) (hl : rs.length < kE) (gG : ∀ cs ∈ rs, cs.length = 7) (g : Nat) (v : List AV) (P : Nat -> Bool) (st : St) (F : Nat) (k1 k2)
    (hP : ∀ i (h : i < rs.length), c g (.agg rs[i] :: v) st = some (.bool (P i), st)) : ∀ (m k : Nat), rs.length <= k + m -> k <= rs.length ->
    bE c F k1 k2 (m + 1) [ro 7 z rs, .func g [] v, .int .i64 (rs.length : Int), .int .i64 (k : Int)] st = if 0 <= scan P (rs.length - k) k then k1 [.int .i64 (scan P (rs.length - k) k)] st else k2 [] st := by
  intro m
  induction m with
  | zero =>
    intro k h1 h2
    obtain rfl : k = rs.length := by omega
    rw [bE]
    simp [scan]
  | succ m ih =>
    intro k h1 h2
    rw [bE]
    by_cases h : k < rs.length
    . have e : rs.length - k = (rs.length - (k + 1)) + 1 := by omega
      have w : aM .i64 ((k : Int) + 1) = ((k + 1 : Nat) : Int) := wrap64 (by omega) (by unfold kE at hl; omega)
      have hcut : cut rs[k] 0 7 = some rs[k] := fR (gG _ (List.getElem_mem h))
      have hp := hP k h
      rw [e, scan]
      cases hb : P k
      . simp only [Bool.false_eq_true, if_false]
        rw [<- ih (k + 1) (by omega) (by omega)]
        simp [h, hcut, hp, hb, w]
      . simp [h, hcut, hp, hb]
    . obtain rfl : k = rs.length := by omega
      simp [scan]
theorem OI (hc : Sem c) (z : Bool) (rs : List (List AV)) (hl : rs.length < kE) (gG : ∀ cs ∈ rs, cs.length = 7) (g : Nat) (v : List AV) (P : Nat -> Bool) (st : St)
    (hP : ∀ i (h : i < rs.length), c g (.agg rs[i] :: v) st = some (.bool (P i), st)) : c 201 [ro 7 z rs, .func g [] v] st = some (.int .i64 (scan P rs.length 0), st) := by
  rw [oq hc (rs.length + 1) (r := (.int .i64 (scan P rs.length 0), st)), aI (Plain.int _ _) (bY.refl st)]
  rw [gA]
  have L : ∀ k1 k2, bE c (rs.length + 1) k1 k2 (rs.length + 1) [ro 7 z rs, .func g [] v, .int .i64 (rs.length : Int), .int .i64 0] st = if 0 <= scan P (rs.length - 0) 0 then k1 [.int .i64 (scan P (rs.length - 0) 0)] st else k2 [] st :=
    fun k1 k2 => Rf z rs hl gG g v P st _ k1 k2 hP rs.length 0 (by omega) (by omega)
  rw [Nat.sub_zero] at L
  by_cases h : 0 <= scan P rs.length 0
  . simp [L, h]
  . have := (Al P rs.length 0).2 (by omega)
    simp [L, this]
theorem LS (hc : Sem c) (z : Bool) (rs : List (List AV)) (hl : rs.length < kE) (gG : ∀ cs ∈ rs, cs.length = 7) (g : Nat) (v : List AV) (P : Nat -> Bool) (st : St)
    (hP : ∀ i (h : i < rs.length), c g (.agg rs[i] :: v) st = some (.bool (P i), st)) : c 183 [ro 7 z rs, .func g [] v] st = some (.bool (decide (0 <= scan P rs.length 0)), st) := by
  rw [nj hc 1 (r := (.bool (decide (0 <= scan P rs.length 0)), st)), aI (Plain.bool _) (bY.refl st)]
  rw [ju]
  simp [OI hc z rs hl gG g v P st hP]
theorem Kb (hc : Sem c) (z : Bool) (ts : List bh) (dx : ∀ t ∈ ts, t.Ok) (hl : ts.length <= 16) (F : Nat) (k1 k2) : ∀ (m k : Nat) (st : St), Wf st -> ts.length <= k + m -> k <= ts.length ->
    ∃ st', Grew st st' /\ iB c F k1 k2 (m + 1) [tabs z ts, tabs z ts, .int .i64 (ts.length : Int), .int .i64 (k : Int)] st = if (eu ts m k).2 = 0 then k2 [] st' else k1 [.int .i64 (eu ts m k).1, .int .i64 (eu ts m k).2] st' := by
  intro m
  induction m with
  | zero =>
    intro k st hw h1 h2
    obtain rfl : k = ts.length := by omega
    refine ⟨st, Grew.refl hw, ?_⟩
    rw [iB]
    simp [eu, tabs]
  | succ m ih =>
    intro k st hw h1 h2
    by_cases h : k < ts.length
    . have w : aM .i64 ((k : Int) + 1) = ((k + 1 : Nat) : Int) := wrap64 (by omega) (by omega)
      have b7 : Wf (au st (.cells ts[k].cells 0)) := cF hw
      have hg := Grew.au hw (.cells ts[k].cells 0)
      have hch := Tn hc ts[k] (dx _ (List.getElem_mem h)) _ b7
      have Rg := LS hc (z && (ts.map bh.cells).isEmpty) ((ts.map bh.cells).take k) (by simp [kE]; omega) (fun cs fF => by
          have := List.mem_of_mem_take fF
          simp only [List.mem_map] at this
          obtain ⟨t, _, rfl⟩ := this; rfl) 184 [.ptr st.next 0] (jt ts ts[k].name) (au st (.cells ts[k].cells 0)) (fun i hi => by
          have l8 : i < k := by simp at hi; omega
          have Hp : i < ts.length := by omega
          have := LR hc ts[i] ts[k] st.next (au st (.cells ts[k].cells 0)) b7 (cm _ _)
          simp only [List.getElem_take, List.getElem_map]
          rw [this]
          simp [jt, Hp])
      have hlen : ((ts.map bh.cells).take k).length = k := by simp; omega
      rw [hlen] at Rg
      rw [iB, eu, List.getElem?_eq_getElem h]
      simp only
      by_cases h3 : rZ ts[k] = 0
      . by_cases h4 : 0 <= scan (jt ts ts[k].name) k 0
        . refine ⟨_, hg, ?_⟩
          have vu : k <= ts.length := by omega
          simp only [tabs, List.isEmpty_map] at Rg ⊢
          simp [h, hch, h3, h4, vu, Rg, bh.len]
        . obtain ⟨st', g1, g2⟩ := ih (k + 1) _ b7 (by omega) (by omega)
          refine ⟨st', hg.trans g1, ?_⟩
          have vu : k <= ts.length := by omega
          have e3 : ¬ rZ ts[k] ≠ 0 := by rw [h3]; simp
          simp only [e3, h4, if_false]
          rw [<- g2]
          simp only [tabs, List.isEmpty_map] at Rg ⊢
          simp [h, hch, h3, h4, vu, Rg, w, bh.len]
      . refine ⟨_, hg, ?_⟩
        simp [tabs, h, hch, h3, bh.len]
    . obtain rfl : k = ts.length := by omega
      refine ⟨st, Grew.refl hw, ?_⟩
      rw [iB]
      simp [eu, tabs]
theorem E2 (hc : Sem c) (z : Bool) (ts : List bh) (dx : ∀ t ∈ ts, t.Ok) (st : St) (hw : Wf st) : c 99 [tabs z ts] st = some (.tuple [.int .i64 (bS ts).1, .int .i64 (bS ts).2], st) := by
  have qN : Plain (.tuple [.int .i64 (bS ts).1, .int .i64 (bS ts).2]) := Plain.tuple (by simp [Plain.int])
  by_cases h : 16 < ts.length
  . rw [vZ hc 20 (r := (.tuple [.int .i64 (bS ts).1, .int .i64 (bS ts).2], st)), aI qN (bY.refl st)]
    rw [rO]
    have hi : (16 : Int) < ts.length := by omega
    simp [tabs, bS, h, hi]
  . have hi : ¬ (16 : Int) < ts.length := by omega
    have e : bS ts = eu ts 19 0 := by rw [bS, if_neg h]; exact BB ts _ _ 0 (by omega) (by omega)
    have hex := fun k1 k2 => Kb hc z ts dx (by omega) 20 k1 k2 19 0 st hw (by omega) (by omega)
    obtain ⟨st', hg, L⟩ := hex (fun vs iO => az vs fun x2 vs => az vs fun x3 vs => bC vs (some (.tuple [x2, x3], iO))) (fun vs jb => bC vs (
      af c .move [(.int .i64 0)] jb fun x2 jd => af c .move [(.int .i64 0)] jd fun x3 jv => some (.tuple [x2, x3], jv)))
    rw [vZ hc 20 (r := (.tuple [.int .i64 (bS ts).1, .int .i64 (bS ts).2], st')), aI qN hg.keeps]
    rw [rO, e]
    simp only [tabs] at L
    simp [tabs, hi] at L ⊢
    rw [L]
    by_cases h2 : (eu ts 19 0).2 = 0
    . have := BC ts 19 0 h2
      simp [h2, this]
    . simp [h2]
def cI (ts : List bh) : Int := (ts.map dy).sum
theorem FC (ts : List bh) : 0 <= cI ts /\ cI ts <= 1000 * ts.length := by
  induction ts with
  | nil => simp [cI]
  | cons t ts ih =>
    have := tA t
    simp only [cI, List.map_cons, List.sum_cons, List.length_cons] at ih ⊢
    omega
theorem BD (ts : List bh) (t : bh) : cI (ts ++ [t]) = cI ts + dy t := by simp [cI]
def tB (ts : List bh) (t : Int) : Int := if t < 0 \/ (ts.length : Int) <= t \/ (bS ts).2 ≠ 0 then 0 else cI (ts.take t.toNat)
theorem FD (hc : Sem c) (z : Bool) (ts : List bh) (dx : ∀ t ∈ ts, t.Ok) (st : St) (hw : Wf st) : c 135 [tabs z ts] st = some (.bool (decide ((bS ts).2 = 0)), st) := by
  rw [IG hc 1 (r := (.bool (decide ((bS ts).2 = 0)), st)), aI (Plain.bool _) (bY.refl st)]
  rw [Hq]
  simp [E2 hc z ts dx st hw]
theorem JD {ts : List bh} (h : (bS ts).2 = 0) : ts.length <= 16 := by
  unfold bS at h; split at h
  . simp at h
  . omega
theorem PL (hc : Sem c) (z : Bool) (ts : List bh) (hl : ts.length <= 16) (F : Nat) (k2) : ∀ (m k : Nat) (st : St), Wf st -> ts.length <= k + m -> k <= ts.length ->
    ∃ st', Grew st st' /\ kB c F k2 (m + 1) [.int .i64 (cI (ts.take k)), tabs z ts, .int .i64 (ts.length : Int), .int .i64 (k : Int)] st = k2 [.int .i64 (cI ts)] st' := by
  intro m
  induction m with
  | zero =>
    intro k st hw h1 h2
    obtain rfl : k = ts.length := by omega
    refine ⟨st, Grew.refl hw, ?_⟩
    rw [kB]
    simp
  | succ m ih =>
    intro k st hw h1 h2
    by_cases h : k < ts.length
    . have w : aM .i64 ((k : Int) + 1) = ((k + 1 : Nat) : Int) := wrap64 (by omega) (by omega)
      have b7 : Wf (au st (.cells ts[k].cells 0)) := cF hw
      have hg := Grew.au hw (.cells ts[k].cells 0)
      have hs := Iy hc ts[k] _ b7
      have e : cI (ts.take (k + 1)) = cI (ts.take k) + dy ts[k] := by
        rw [List.take_succ_eq_append_getElem h, BD]
      have b1 := FC (ts.take k)
      have b2 := tA ts[k]
      have b3 : (ts.take k).length <= 16 := by simp; omega
      have w2 : aM .i64 (cI (ts.take k) + dy ts[k]) = cI (ts.take (k + 1)) := by rw [e]; exact wrap64 (by omega) (by omega)
      obtain ⟨st', g1, g2⟩ := ih (k + 1) _ b7 (by omega) (by omega)
      refine ⟨st', hg.trans g1, ?_⟩
      rw [<- g2, kB]
      simp [tabs, h, hs, w, w2, bh.len]
    . obtain rfl : k = ts.length := by omega
      refine ⟨st, Grew.refl hw, ?_⟩
      rw [kB]
      simp
theorem Tp (hc : Sem c) (z : Bool) (ts : List bh) (dx : ∀ t ∈ ts, t.Ok) (k : Int) (st : St) (hw : Wf st) : c 52 [tabs z ts, .int .i64 k] st = some (.int .i64 (tB ts k), st) := by
  have lT : ∀ (K : AV -> St -> Option (AV × St)) (s : St), af c (.lenB .l) [tabs z ts] s K = K (.int .i64 (ts.length : Int)) s := fun K s => by unfold tabs; rw [mT]; simp
  have hv := FD hc z ts dx st hw
  by_cases h : k < 0 \/ (ts.length : Int) <= k \/ (bS ts).2 ≠ 0
  . have e : tB ts k = 0 := by rw [tB, if_pos h]
    rw [Am hc 1 (r := (.int .i64 (tB ts k), st)), aI (Plain.int _ _) (bY.refl st)]
    rw [wI, e]
    by_cases h1 : k < 0
    . simp [h1]
    . by_cases h2 : (ts.length : Int) <= k
      . simp [h1, h2, lT]
      . have h3 : (bS ts).2 ≠ 0 := h.resolve_left h1 |>.resolve_left h2
        simp [h1, h2, h3, lT, hv]
  . have e : tB ts k = cI (ts.take k.toNat) := by rw [tB, if_neg h]
    have h1 : ¬ k < 0 := fun e => h (.inl e)
    have h2 : ¬ (ts.length : Int) <= k := fun e => h (.inr (.inl e))
    have h3 : (bS ts).2 = 0 := Classical.byContradiction fun e => h (.inr (.inr e))
    have hl := JD h3
    obtain ⟨n, rfl⟩ : ∃ n : Nat, k = (n : Int) := ⟨k.toNat, by omega⟩
    have hn : n <= ts.length := by omega
    have hex := fun k2 => PL hc (z && ts.isEmpty) (ts.take n) (by simp; omega) 20 k2 19 0 st hw (by simp; omega) (by omega)
    obtain ⟨st', hg, L⟩ := hex (fun vs gB => az vs fun x5 vs => bC vs (af c .move [x5] gB fun gH gq => af c .move [gH] gq fun x4 gu => some (x4, gu)))
    rw [Am hc 20 (r := (.int .i64 (tB ts (n : Int)), st')), aI (Plain.int _ _) hg.keeps]
    rw [wI, e]
    have h4 : ¬ ts.length <= n := by omega
    have hm : min n ts.length = n := by omega
    simp [tabs, cI, hm] at L
    simp [h1, h4, h3, lT, hv]
    simp [tabs, hn, hm, cI, L]
theorem NG (hc : Sem c) (z : Bool) (ts : List bh) (hl : ts.length <= 16) (st : St) (hw : Wf st) : c 155 [tabs z ts] st = some (.int .i64 (if h : 0 < ts.length then dy (ts[ts.length - 1]'(by omega)) else 0), st) := by
  rw [Ey hc 1 (r := (.int .i64 (if h : 0 < ts.length then dy (ts[ts.length - 1]'(by omega)) else 0), st)), aI (Plain.int _ _) (bY.refl st)]
  rw [Cz]
  by_cases h : 0 < ts.length
  . have h1 : ¬ (ts.length : Int) = 0 := by omega
    have h2 : ts ≠ [] := fun e => by subst e; simp at h
    have w : aM .i64 ((ts.length : Int) - 1) = ((ts.length - 1 : Nat) : Int) := by rw [wrap64 (by omega) (by omega)]; omega
    have h3 : ts.length - 1 < ts.length := by omega
    have hs := Iy hc (ts[ts.length - 1]'(by omega)) st hw
    simp [tabs, h, h1, h2, w, h3, hs]
  . have h1 : ts = [] := List.eq_nil_of_length_eq_zero (by omega)
    subst h1
    simp [tabs]
theorem Rh {ts : List bh} (hv : (bS ts).2 = 0) : tB ts ((ts.length : Int) - 1) + (if h : 0 < ts.length then dy (ts[ts.length - 1]'(by omega)) else 0) = cI ts := by
  by_cases h : 0 < ts.length
  . rw [dif_pos h, tB, if_neg (by simp [hv]; omega)]
    have e : ((ts.length : Int) - 1).toNat = ts.length - 1 := by omega
    rw [e, <- BD, <- List.take_succ_eq_append_getElem (by omega)]
    rw [show ts.length - 1 + 1 = ts.length by omega, List.take_length]
  . have h1 : ts = [] := List.eq_nil_of_length_eq_zero (by omega)
    subst h1; simp [tB, cI]
theorem xI (hc : Sem c) (z : Bool) (ts : List bh) (dx : ∀ t ∈ ts, t.Ok) (st : St) (hw : Wf st) : c 68 [tabs z ts] st = some (.int .i64 (if (bS ts).2 = 0 then cI ts else 0), st) := by
  rw [II hc 1 (r := (.int .i64 (if (bS ts).2 = 0 then cI ts else 0), st)), aI (Plain.int _ _) (bY.refl st)]
  rw [Hr]
  have lT : ∀ (K : AV -> St -> Option (AV × St)) (s : St), af c (.lenB .l) [tabs z ts] s K = K (.int .i64 (ts.length : Int)) s := fun K s => by unfold tabs; rw [mT]; simp
  have hv := FD hc z ts dx st hw
  by_cases h : (bS ts).2 = 0
  . have hl := JD h
    have w : aM .i64 ((ts.length : Int) - 1) = (ts.length : Int) - 1 := wrap64 (by omega) (by omega)
    have hf := Tp hc z ts dx ((ts.length : Int) - 1) st hw
    have hla := NG hc z ts hl st hw
    have b := FC ts
    have e := Rh h
    rw [if_pos h, <- e]
    rw [<- e] at b
    generalize tB ts ((ts.length : Int) - 1) = x at hf b ⊢
    generalize (if h : 0 < ts.length then dy (ts[ts.length - 1]'(by omega)) else 0) = y at hla b ⊢
    have w2 : aM .i64 (x + y) = x + y := wrap64 (by omega) (by omega)
    simp [hv, h, lT, w, hf, hla, w2]
  . simp [hv, h]
theorem Wk (hc : Sem c) (z : Bool) (ts : List bh) (dx : ∀ t ∈ ts, t.Ok) (hl : ts.length < kE) (s : List Nat) (st : St) (hw : Wf st) : c 122 [tabs z ts, .str s] st =
    some (.tuple [.int .i64 (if 0 <= scan (jt ts s) ts.length 0 /\ (bS ts).2 = 0 then scan (jt ts s) ts.length 0 else 0), .bool (decide (0 <= scan (jt ts s) ts.length 0 /\ (bS ts).2 = 0))], st) := by
  rw [Kc hc 1 (r := (.tuple [.int .i64 (if 0 <= scan (jt ts s) ts.length 0 /\ (bS ts).2 = 0 then scan (jt ts s) ts.length 0 else 0), .bool (decide (0 <= scan (jt ts s) ts.length 0 /\ (bS ts).2 = 0))], au st (.cells [.str s] 0))),
    aI (Plain.tuple (by simp [Plain.int, Plain.bool])) (bU hw)]
  rw [JE]
  have b7 : Wf (au st (.cells [.str s] 0)) := cF hw
  have hi := OI hc z (ts.map bh.cells) (by simpa using hl) (fun cs fF => by
      simp only [List.mem_map] at fF
      obtain ⟨t, _, rfl⟩ := fF; rfl) 202 [.ptr st.next 0] (jt ts s) (au st (.cells [.str s] 0)) (fun i hi => by
      have Hp : i < ts.length := by simpa using hi
      have := To hc ts[i] s st.next (au st (.cells [.str s] 0)) b7 (cm _ _)
      simp only [List.getElem_map]
      rw [this]
      simp [jt, Hp])
  rw [List.length_map] at hi
  have hv := FD hc z ts dx _ b7
  simp only [tabs] at hv ⊢
  have e : (AV.str s).cells = [.str s] := rfl
  by_cases h1 : 0 <= scan (jt ts s) ts.length 0
  . have h2 : ¬ scan (jt ts s) ts.length 0 < 0 := by omega
    by_cases h3 : (bS ts).2 = 0
    . simp [e, hi, h1, h2, h3, hv]
    . simp [e, hi, h1, h2, h3, hv]
  . have h2 : scan (jt ts s) ts.length 0 < 0 := by omega
    simp [e, hi, h1, h2]
end Go.Proofs.YtogojkhbplmifaaGreatDoor
end
section
set_option maxRecDepth 100000
namespace Go.Proofs.YtogojkhbplmifaaGreatDoor
open Go Go.Ai Go.Proofs
variable {c : ai}
structure cr where
  name : List Nat
  tC : List Nat
  pQ : List Nat
  since : Int
  side : Int
  tD : List Nat
  host : Bool
  access : Bool
  tz : Bool
  tg : List (List Nat)
def mV (z : Bool) (l : List (List Nat)) : AV := ro 1 z (l.map fun s => [.str s])
def cr.cells (g : cr) : List AV := [.str g.name, .str g.tC, .str g.pQ, .int .i64 g.since, .int .i64 g.side, .str g.tD, .bool g.host, .bool g.access, mV g.tz g.tg]
@[simp] theorem Tq (z : Bool) (l : List (List Nat)) : (mV z l).one = true := Q5 _ _ _
@[simp] theorem adj {R : Type} (c : ai) (K : AV -> St -> Option R) (st : St) (z : Bool) (l : List (List Nat)) : af c (.lenB .l) [mV z l] st K = K (.int .i64 (l.length : Int)) st := by unfold mV; rw [mT]; simp
@[simp] theorem adk {R : Type} (c : ai) (K : AV -> St -> Option R) (st : St) (z : Bool) (l : List Int) : af c (.lenB .l) [ints z l] st K = K (.int .i64 (l.length : Int)) st := by unfold ints; rw [mT]; simp
@[simp] theorem cr.c0 (t : cr) : t.cells[0]? = some (.str t.name) := id rfl
@[simp] theorem cr.c1 (t : cr) : t.cells[1]? = some (.str t.tC) := id rfl
@[simp] theorem cr.c2 (t : cr) : t.cells[2]? = some (.str t.pQ) := id rfl
@[simp] theorem cr.c3 (t : cr) : t.cells[3]? = some (.int .i64 t.since) := id rfl
@[simp] theorem cr.c4 (t : cr) : t.cells[4]? = some (.int .i64 t.side) := id rfl
@[simp] theorem cr.c5 (t : cr) : t.cells[5]? = some (.str t.tD) := id rfl
@[simp] theorem cr.c6 (t : cr) : t.cells[6]? = some (.bool t.host) := id rfl
@[simp] theorem cr.c7 (t : cr) : t.cells[7]? = some (.bool t.access) := id rfl
@[simp] theorem cr.c8 (t : cr) : t.cells[8]? = some (mV t.tz t.tg) := id rfl
@[simp] theorem cr.cc (t : cr) : cut t.cells 0 9 = some t.cells := fR rfl
theorem cr.len (t : cr) : t.cells.length = 9 := id rfl
@[simp] theorem cr.one (t : cr) : cY t.cells = true := by
  unfold cr.cells; simp only [cY, Tq]; rfl
def cC (z : Bool) (gs : List cr) : AV := ro 9 z (gs.map cr.cells)
@[simp] theorem Tr {R : Type} (c : ai) (K : AV -> St -> Option R) (st : St) (z : Bool) (l : List cr) : af c (.lenB .l) [cC z l] st K = K (.int .i64 (l.length : Int)) st := by unfold cC; rw [mT]; simp
def VB (last : Option (List Nat)) (s : List Nat) : Bool := match last with
  | none => true
  | some p => aA p s
@[simp] theorem LU (s : List Nat) : VB none s = true := id rfl
@[simp] theorem LV (p s : List Nat) : VB (some p) s = aA p s := id rfl
def v7 (last : Option (List Nat)) : List (List Nat) -> Bool
  | [] => true
  | s :: l => fj s && VB last s && v7 (some s) l
theorem LW (last : Option (List Nat)) (s : List Nat) (l : List (List Nat)) : v7 last (s :: l) = (fj s && VB last s && v7 (some s) l) := rfl
def gX (g : cr) : Int :=
  if (fj g.name && mH g.tC && mH g.pQ && mH g.tD) = false then 4 else if ¬ (0 <= g.since /\ g.since <= 9999) then 21 else if ¬ (0 <= g.side /\ g.side <= 2) then 20
  else if 4 < g.tg.length then 22 else if v7 none g.tg = false then 22 else 0
theorem qj : ∀ (a : List Nat), aA a a = false
  | [] => rfl
  | x :: a => by
    unfold aA
    simp [wG, iZ, qj a]
theorem za : ∀ (a b : List Nat), aA a b = true -> aA b a = false
  | [], [], h => by simp [aA] at h
  | [], _ :: _, _ => rfl
  | _ :: _, [], h => by simp [aA] at h
  | x :: a, y :: b, h => by
    unfold aA at h ⊢
    simp only [wG, iZ] at h ⊢
    by_cases h1 : x < y
    . have : ¬ y < x := by omega
      have h3 : ¬ y = x := by omega
      simp [this, h3]
    . by_cases h2 : x = y
      . subst h2; simp at h ⊢; exact za a b h
      . simp [h1, h2] at h
theorem tE : ∀ (a b : List Nat), aA a b = false -> aA b a = false -> a = b
  | [], [], _, _ => rfl
  | [], _ :: _, h, _ => by simp [aA] at h
  | _ :: _, [], _, h => by simp [aA] at h
  | x :: a, y :: b, h, k => by
    unfold aA at h k
    simp only [wG, iZ] at h k
    by_cases h1 : x < y
    . simp [h1] at h
    . by_cases h2 : y < x
      . simp [h2] at k
      . have : x = y := by omega
        subst this
        simp at h k
        rw [tE a b h k]
theorem BE : ∀ (a b d : List Nat), aA a b = true -> aA b d = true -> aA a d = true
  | _, [], [], _, h => by simp [aA] at h
  | _, _ :: _, [], _, h => by simp [aA] at h
  | [], _, _ :: _, _, _ => rfl
  | _ :: _, [], _ :: _, h, _ => by simp [aA] at h
  | x :: a, y :: b, z :: d, h, k => by
    unfold aA at h k ⊢
    simp only [wG, iZ] at h k ⊢
    by_cases h1 : x < y
    . by_cases h2 : y < z
      . have : x < z := by omega
        simp [this]
      . by_cases h3 : y = z
        . subst h3; simp [h1]
        . simp [h2, h3] at k
    . by_cases h2 : x = y
      . subst h2
        simp at h
        by_cases h4 : x < z
        . simp [h4]
        . by_cases h5 : x = z
          . subst h5; simp at k ⊢; exact BE a b d h k
          . simp [h4, h5] at k
      . simp [h1, h2] at h
theorem FE (hc : Sem c) (p : Pos) (g : cr) (hl : g.tg.length <= 4) (F : Nat) (st : St) (hp : st.heap.get p = some (.cells g.cells 0)) (k1 k3) : ∀ (m k : Nat), g.tg.length <= k + m -> k <= g.tg.length ->
    jL c F k1 k3 (m + 1) [.ptr p 0, mV g.tz g.tg, .int .i64 (g.tg.length : Int), .int .i64 (k : Int)] st = if v7 (if k = 0 then none else g.tg[k - 1]?) (g.tg.drop k) = true then k3 [] st else k1 [.int .i64 22] st := by
  intro m
  induction m with
  | zero =>
    intro k h1 h2
    rw [jL]
    obtain rfl : k = g.tg.length := by omega
    simp [v7]
  | succ m ih =>
    intro k h1 h2
    rw [jL]
    by_cases h : k < g.tg.length
    . have e : g.tg.drop k = g.tg[k] :: g.tg.drop (k + 1) := List.drop_eq_getElem_cons h
      have w : aM .i64 ((k : Int) + 1) = ((k + 1 : Nat) : Int) := wrap64 (by omega) (by omega)
      have hn := vQ hc g.tg[k] st
      have := ih (k + 1) (by omega) (by omega)
      have e2 : (if k + 1 = 0 then none else g.tg[k + 1 - 1]?) = some g.tg[k] := by rw [if_neg (by omega), Nat.add_sub_cancel, List.getElem?_eq_getElem h]
      rw [e2] at this
      rw [e, LW]
      generalize v7 (some g.tg[k]) (g.tg.drop (k + 1)) = rest at this ⊢
      by_cases h3 : fj g.tg[k] = true
      . by_cases h0 : k = 0
        . have hk : ¬ 0 < k := by omega
          simp only [h3, if_pos h0, Bool.true_and, LU]
          rw [<- this]
          simp [mV, h, hn, h3, hk, w]
        . have hk : 0 < k := by omega
          have nE : k - 1 < g.tg.length := by omega
          have wk : aM .i64 ((k : Int) - 1) = ((k - 1 : Nat) : Int) := by rw [wrap64 (by omega) (by omega)]; omega
          simp only [h3, if_neg h0, List.getElem?_eq_getElem nE, Bool.true_and, LV]
          cases hb : aA g.tg[k - 1] g.tg[k]
          . simp [mV, h, hn, h3, hk, nE, wk, hp, hb]
          . simp only [Bool.true_and]
            rw [<- this]
            simp [mV, h, hn, h3, hk, nE, wk, hp, hb, w]
      . simp [mV, h, hn, h3]
    . obtain rfl : k = g.tg.length := by omega
      simp [v7]
theorem IJ (hc : Sem c) (g : cr) (st : St) (hw : Wf st) : c 225 [.agg g.cells] st = some (.int .i64 (gX g), st) := by
  rw [Hs hc 6 (r := (.int .i64 (gX g), au st (.cells g.cells 0))), aI (Plain.int _ _) (bU hw)]
  rw [zD]
  have n0 := vQ hc g.name
  have n1 := vR hc g.tC
  have n2 := vR hc g.pQ
  have n5 := vR hc g.tD
  by_cases hn : (fj g.name && mH g.tC && mH g.pQ && mH g.tD) = true
  . have Ht := hn
    simp only [Bool.and_eq_true] at Ht
    obtain ⟨⟨⟨b0, b1⟩, b2⟩, b5⟩ := Ht
    unfold gX
    rw [hn]
    by_cases h1 : g.since < 0
    . have : ¬ (0 <= g.since /\ g.since <= 9999) := by omega
      simp [n0, n1, n2, n5, b0, b1, b2, b5, h1, this]
    by_cases h2 : 9999 < g.since
    . have : ¬ (0 <= g.since /\ g.since <= 9999) := by omega
      simp [n0, n1, n2, n5, b0, b1, b2, b5, h1, h2, this]
    have h3 : 0 <= g.since /\ g.since <= 9999 := by omega
    by_cases h4 : g.side < 0
    . have : ¬ (0 <= g.side /\ g.side <= 2) := by omega
      simp [n0, n1, n2, n5, b0, b1, b2, b5, h1, h2, h3, h4, this]
    by_cases h5 : 2 < g.side
    . have : ¬ (0 <= g.side /\ g.side <= 2) := by omega
      simp [n0, n1, n2, n5, b0, b1, b2, b5, h1, h2, h3, h4, h5, this]
    have h6 : 0 <= g.side /\ g.side <= 2 := by omega
    by_cases h7 : 4 < g.tg.length
    . have h8 : (4 : Int) < g.tg.length := by omega
      simp [n0, n1, n2, n5, b0, b1, b2, b5, h1, h2, h3, h4, h5, h6, h7, h8]
    . have h8 : ¬ (4 : Int) < g.tg.length := by omega
      have L : ∀ k1 k3, jL c 6 k1 k3 6 [.ptr st.next 0, mV g.tz g.tg, .int .i64 (g.tg.length : Int), .int .i64 0] (au st (.cells g.cells 0)) = if v7 none (g.tg.drop 0) = true then k3 [] (au st (.cells g.cells 0)) else k1 [.int .i64 22] (au st (.cells g.cells 0)) :=
        fun k1 k3 => FE hc st.next g (by omega) 6 _ (cm _ _) k1 k3 5 0 (by omega) (by omega)
      rw [List.drop_zero] at L
      generalize v7 none g.tg = b at L ⊢
      cases b <;> simp [n0, n1, n2, n5, b0, b1, b2, b5, h1, h2, h3, h4, h5, h6, h7, h8, L]
  . have Ji : (fj g.name && mH g.tC && mH g.pQ && mH g.tD) = false := by simpa using hn
    have hx : gX g = 4 := by unfold gX; rw [Ji]; simp
    rw [hx]
    cases b0 : fj g.name
    . simp [n0, b0]
    . cases b1 : mH g.tC
      . simp [n0, n1, b0, b1]
      . cases b2 : mH g.pQ
        . simp [n0, n1, n2, b0, b1, b2]
        . cases b5 : mH g.tD
          . simp [n0, n1, n2, n5, b0, b1, b2, b5]
          . simp [b0, b1, b2, b5] at hn
theorem IK (hc : Sem c) (p : Pos) (g : cr) (hl : g.tg.length <= 4) (F : Nat) (st : St) (hp : st.heap.get p = some (.cells g.cells 0)) (k1 k2) : ∀ (m k : Nat), g.tg.length <= k + m -> k <= g.tg.length ->
    eY c F k1 k2 (m + 1) [.ptr p 0, .int .i64 (k : Int)] st = if v7 (if k = 0 then none else g.tg[k - 1]?) (g.tg.drop k) = true then k2 [] st else k1 [.int .i64 22] st := by
  intro m
  induction m with
  | zero =>
    intro k h1 h2
    rw [eY]
    obtain rfl : k = g.tg.length := by omega
    simp [v7, hp]
  | succ m ih =>
    intro k h1 h2
    rw [eY]
    by_cases h : k < g.tg.length
    . have e : g.tg.drop k = g.tg[k] :: g.tg.drop (k + 1) := List.drop_eq_getElem_cons h
      have w : aM .i64 ((k : Int) + 1) = ((k + 1 : Nat) : Int) := wrap64 (by omega) (by omega)
      have hn := wW hc g.tg[k] st
      have := ih (k + 1) (by omega) (by omega)
      have e2 : (if k + 1 = 0 then none else g.tg[k + 1 - 1]?) = some g.tg[k] := by rw [if_neg (by omega), Nat.add_sub_cancel, List.getElem?_eq_getElem h]
      rw [e2] at this
      rw [e, LW]
      generalize v7 (some g.tg[k]) (g.tg.drop (k + 1)) = rest at this ⊢
      by_cases h3 : fj g.tg[k] = true
      . by_cases h0 : k = 0
        . have hk : ¬ 0 < k := by omega
          simp only [h3, if_pos h0, Bool.true_and, LU]
          rw [<- this]
          simp [mV, hp, h, hn, h3, hk, w]
        . have hk : 0 < k := by omega
          have nE : k - 1 < g.tg.length := by omega
          have wk : aM .i64 ((k : Int) - 1) = ((k - 1 : Nat) : Int) := by rw [wrap64 (by omega) (by omega)]; omega
          simp only [h3, if_neg h0, List.getElem?_eq_getElem nE, Bool.true_and, LV]
          have ho : (aA g.tg[k] g.tg[k - 1] || decide (g.tg[k] = g.tg[k - 1])) = !aA g.tg[k - 1] g.tg[k] := by
            cases h5 : aA g.tg[k - 1] g.tg[k]
            . cases h6 : aA g.tg[k] g.tg[k - 1]
              . simp [tE _ _ h6 h5]
              . rfl
            . rw [za _ _ h5]
              have : g.tg[k] ≠ g.tg[k - 1] := fun e => by rw [e, qj] at h5; cases h5
              simp [this]
          cases hb : aA g.tg[k - 1] g.tg[k]
          . rw [hb] at ho
            simp [mV, hp, h, hn, h3, hk, nE, wk, ho]
          . rw [hb] at ho
            simp only [Bool.true_and]
            rw [<- this]
            simp [mV, hp, h, hn, h3, hk, nE, wk, ho, w]
      . simp [mV, hp, h, hn, h3]
    . obtain rfl : k = g.tg.length := by omega
      simp [v7, hp]
set_option maxHeartbeats 4000000 in
theorem LX (hc : Sem c) (g : cr) (st : St) (hw : Wf st) : c 204 [.agg g.cells] st = some (.int .i64 (gX g), st) := by
  rw [zE hc 6 (r := (.int .i64 (gX g), au st (.cells g.cells 0))), aI (Plain.int _ _) (bU hw)]
  rw [ql]
  have n0 := wW hc g.name
  have n1 := wW hc g.tC
  have n2 := wW hc g.pQ
  have n5 := wW hc g.tD
  have en : fj [] = false := rfl
  by_cases hn : (fj g.name && mH g.tC && mH g.pQ && mH g.tD) = true
  . have Ht := hn
    simp only [Bool.and_eq_true, mH, Bool.or_eq_true, decide_eq_true_eq] at Ht
    obtain ⟨⟨⟨b0, b1⟩, b2⟩, b5⟩ := Ht
    unfold gX
    rw [hn]
    have VC : ∀ r : List Nat, r = [] \/ fj r = true -> (r = [] \/ (¬ r = [] /\ fj r = true)) := fun r h => by
      by_cases e : r = []
      . exact .inl e
      . exact .inr ⟨e, h.resolve_left e⟩
    have d1 := VC _ b1
    have d2 := VC _ b2
    have d5 := VC _ b5
    by_cases h1 : g.since < 0
    . have : ¬ (0 <= g.since /\ g.since <= 9999) := by omega
      rcases d1 with e1 | ⟨e1, f1⟩ <;> rcases d2 with e2 | ⟨e2, f2⟩ <;> rcases d5 with e5 | ⟨e5, f5⟩ <;> simp [*]
    by_cases h2 : 9999 < g.since
    . have : ¬ (0 <= g.since /\ g.since <= 9999) := by omega
      rcases d1 with e1 | ⟨e1, f1⟩ <;> rcases d2 with e2 | ⟨e2, f2⟩ <;> rcases d5 with e5 | ⟨e5, f5⟩ <;> simp [*]
    have h3 : 0 <= g.since /\ g.since <= 9999 := by omega
    clear b1 b2 b5 hn VC
    by_cases h6 : 0 <= g.side /\ g.side <= 2
    . have h7 : g.side = 0 \/ g.side = 1 \/ g.side = 2 := by omega
      by_cases h8 : 4 < g.tg.length
      . have h9 : (4 : Int) < g.tg.length := by omega
        rcases h7 with h7 | h7 | h7 <;> rcases d1 with e1 | ⟨e1, f1⟩ <;> rcases d2 with e2 | ⟨e2, f2⟩ <;> rcases d5 with e5 | ⟨e5, f5⟩ <;> simp [n0, n1, n2, n5, en, b0, *]
      . have h9 : ¬ (4 : Int) < g.tg.length := by omega
        have L : ∀ k1 k3, eY c 6 k1 k3 6 [.ptr st.next 0, .int .i64 0] (au st (.cells g.cells 0)) = if v7 none (g.tg.drop 0) = true then k3 [] (au st (.cells g.cells 0)) else k1 [.int .i64 22] (au st (.cells g.cells 0)) :=
          fun k1 k3 => IK hc st.next g (by omega) 6 _ (cm _ _) k1 k3 5 0 (by omega) (by omega)
        rw [List.drop_zero] at L
        generalize v7 none g.tg = b at L ⊢
        rcases h7 with h7 | h7 | h7 <;> cases b <;> rcases d1 with e1 | ⟨e1, f1⟩ <;> rcases d2 with e2 | ⟨e2, f2⟩ <;> rcases d5 with e5 | ⟨e5, f5⟩ <;> simp [n0, n1, n2, n5, en, b0, *]
    . have g0 : ¬ g.side = 0 := by omega
      have g1 : ¬ g.side = 1 := by omega
      have g2 : ¬ g.side = 2 := by omega
      rcases d1 with e1 | ⟨e1, f1⟩ <;> rcases d2 with e2 | ⟨e2, f2⟩ <;> rcases d5 with e5 | ⟨e5, f5⟩ <;> simp [n0, n1, n2, n5, en, b0, *]
  . have Ji : (fj g.name && mH g.tC && mH g.pQ && mH g.tD) = false := by simpa using hn
    have hx : gX g = 4 := by unfold gX; rw [Ji]; simp
    rw [hx]
    have hsm : ∀ r : List Nat, mH r = false -> ¬ r = [] /\ fj r = false := fun r h => by simpa [mH] using h
    have qM : ∀ r : List Nat, mH r = true -> (r = [] \/ (¬ r = [] /\ fj r = true)) := fun r h => by
      by_cases e : r = []
      . exact .inl e
      . right; simp [mH, e] at h; exact ⟨e, h⟩
    cases b0 : fj g.name
    . simp [n0, b0]
    . cases b1 : mH g.tC
      . obtain ⟨q1, q2⟩ := hsm _ b1
        simp [n0, n1, b0, q1, q2]
      . have d1 := qM _ b1
        cases b2 : mH g.pQ
        . obtain ⟨q1, q2⟩ := hsm _ b2
          rcases d1 with e1 | ⟨e1, f1⟩ <;> simp [n0, n1, n2, b0, *]
        . have d2 := qM _ b2
          cases b5 : mH g.tD
          . obtain ⟨q1, q2⟩ := hsm _ b5
            rcases d1 with e1 | ⟨e1, f1⟩ <;> rcases d2 with e2 | ⟨e2, f2⟩ <;> simp [n0, n1, n2, n5, b0, *]
          . simp [b0, b1, b2, b5] at hn
end Go.Proofs.YtogojkhbplmifaaGreatDoor
end
section
set_option maxRecDepth 100000
namespace Go.Proofs.YtogojkhbplmifaaGreatDoor
open Go Go.Ai Go.Proofs
variable {c : ai}
structure Ty where
  a : List Nat
  b : List Nat
  k : Int
def Ty.cells (t : Ty) : List AV := [.str t.a, .str t.b, .int .u8 t.k]
@[simp] theorem Ty.c0 (t : Ty) : t.cells[0]? = some (.str t.a) := id rfl
@[simp] theorem Ty.c1 (t : Ty) : t.cells[1]? = some (.str t.b) := id rfl
@[simp] theorem Ty.c2 (t : Ty) : t.cells[2]? = some (.int .u8 t.k) := id rfl
@[simp] theorem Ty.cc (t : Ty) : cut t.cells 0 3 = some t.cells := fR rfl
theorem Ty.len (t : Ty) : t.cells.length = 3 := id rfl
@[simp] theorem Ty.one (t : Ty) : cY t.cells = true := id rfl
@[simp] theorem abP {R : Type} (c : ai) (K : AV -> St -> Option R) (st : St) (t : Ty) (x y z : AV) : af c (.store 3) [.ptr st.next 0, .agg t.cells] (au st (.cells [x, y, z] 0)) K = K .undef (au st (.cells t.cells 0)) := Ct c K st 3 (.agg t.cells) [x, y, z] rfl rfl t.one
def fk (z : Bool) (ts : List Ty) : AV := ro 3 z (ts.map Ty.cells)
@[simp] theorem Ts {R : Type} (c : ai) (K : AV -> St -> Option R) (st : St) (z : Bool) (l : List Ty) : af c (.lenB .l) [fk z l] st K = K (.int .i64 (l.length : Int)) st := by unfold fk; rw [mT]; simp
def iP (gs : List cr) (s : List Nat) (i : Nat) : Bool := decide (gs[i]?.map cr.name = some s)
theorem Wl (z : Bool) (gs : List cr) (s : List Nat) (hl : gs.length < kE) (F : Nat) (st : St) (k1 k2) : ∀ (m k : Nat), gs.length <= k + m -> k <= gs.length ->
    gC c F k1 k2 (m + 1) [cC z gs, .str s, .int .i64 (k : Int)] st = if 0 <= scan (iP gs s) (gs.length - k) k then k1 [.int .i64 (scan (iP gs s) (gs.length - k) k)] st else k2 [] st := by
  intro m
  induction m with
  | zero =>
    intro k h1 h2
    obtain rfl : k = gs.length := by omega
    rw [gC]
    simp [scan]
  | succ m ih =>
    intro k h1 h2
    rw [gC]
    by_cases h : k < gs.length
    . have e : gs.length - k = (gs.length - (k + 1)) + 1 := by omega
      have w : aM .i64 ((k : Int) + 1) = ((k + 1 : Nat) : Int) := wrap64 (by omega) (by unfold kE at hl; omega)
      rw [e, scan]
      by_cases h3 : gs[k].name = s
      . have : iP gs s k = true := by simp [iP, h, h3]
        simp only [this, if_true]
        simp [cC, h, h3]
      . have : iP gs s k = false := by simp [iP, h, h3]
        simp only [this, Bool.false_eq_true, if_false]
        rw [<- ih (k + 1) (by omega) (by omega)]
        simp [cC, h, h3, w]
    . obtain rfl : k = gs.length := by omega
      simp [scan]
theorem Hu (hc : Sem c) (z : Bool) (gs : List cr) (s : List Nat) (hl : gs.length < kE) (st : St) : c 126 [cC z gs, .str s] st = some (.int .i64 (scan (iP gs s) gs.length 0), st) := by
  rw [CJ hc (gs.length + 1) (r := (.int .i64 (scan (iP gs s) gs.length 0), st)), aI (Plain.int _ _) (bY.refl st)]
  rw [tF]
  have L : ∀ k1 k2, gC c (gs.length + 1) k1 k2 (gs.length + 1) [cC z gs, .str s, .int .i64 0] st = if 0 <= scan (iP gs s) (gs.length - 0) 0 then k1 [.int .i64 (scan (iP gs s) (gs.length - 0) 0)] st else k2 [] st :=
    fun k1 k2 => Wl z gs s hl _ st k1 k2 gs.length 0 (by omega) (by omega)
  rw [Nat.sub_zero] at L
  by_cases h : 0 <= scan (iP gs s) gs.length 0
  . simp [L, h]
  . have := (Al (iP gs s) gs.length 0).2 (by omega)
    simp [L, this]
def ew (s t : Ty) : Bool := aA s.a t.a || (decide (s.a = t.a) && aA s.b t.b)
theorem JF (hc : Sem c) (s t : Ty) (st : St) (hw : Wf st) : c 205 [.agg s.cells, .agg t.cells] st = some (.bool (ew s t), st) := by
  rw [yq hc 1 (r := (.bool (ew s t), au (au st (.cells s.cells 0)) (.cells t.cells 0))), aI (Plain.bool _) ((bU hw).trans (bU (cF hw)))]
  rw [um]
  by_cases h2 : s.a = t.a
  . simp [ew, h2, qj]
  . cases h1 : aA s.a t.a <;> simp [ew, h1, h2]
def tG (a b : List Nat) : Int := if aA a b = true then -1 else if aA b a = true then 1 else 0
theorem aak (hc : Sem c) (a b : List Nat) (st : St) : c 302 [.str a, .str b] st = some (.int .i64 (tG a b), st) := by
  unfold Sem at hc; subst hc
  refine G2 (s := vP) (by rfl) ?_
  show some (AV.int .i64 (match aA a b with | true => .negSucc 0 | false => match aA b a with | true => .ofNat 1 | false => .ofNat 0), st) = _
  unfold tG
  generalize aA a b = p
  generalize aA b a = q
  cases p <;> cases q <;> rfl
theorem FF (hc : Sem c) (a b : List Nat) (st : St) : c 275 [.str a, .str b] st = some (.int .i64 (tG a b), st) := by
  rw [wJ hc 1 (r := (.int .i64 (tG a b), st)), aI (Plain.int _ _) (bY.refl st)]
  rw [bytealg_CompareString]
  simp [aak hc]
theorem Hv (hc : Sem c) (a b : List Nat) (st : St) : c 227 [.str a, .str b] st = some (.int .i64 (tG a b), st) := by
  rw [CL hc 1 (r := (.int .i64 (tG a b), st)), aI (Plain.int _ _) (bY.refl st)]
  rw [strings_Compare]
  simp [FF hc]
theorem OJ {a b : List Nat} : tG a b = 0 ↔ a = b := by
  unfold tG
  cases h1 : aA a b
  . cases h2 : aA b a
    . simp; exact tE _ _ h1 h2
    . simp; intro e; subst e; rw [qj] at h2; cases h2
  . simp; intro e; subst e; rw [qj] at h1; cases h1
def nG (s t : Ty) : Int := if s.a = t.a then tG s.b t.b else tG s.a t.a
theorem xJ (hc : Sem c) (s t : Ty) (st : St) (hw : Wf st) : c 162 [.agg s.cells, .agg t.cells] st = some (.int .i64 (nG s t), st) := by
  rw [Hw hc 1 (r := (.int .i64 (nG s t), au (au st (.cells s.cells 0)) (.cells t.cells 0))), aI (Plain.int _ _) ((bU hw).trans (bU (cF hw)))]
  rw [E3]
  by_cases h : s.a = t.a
  . have : tG t.a t.a = 0 := OJ.2 rfl
    simp [nG, Hv hc, h, this]
  . have : ¬ tG s.a t.a = 0 := fun e => h (OJ.1 e)
    simp [nG, Hv hc, h, this]
theorem IL {s t : Ty} : nG s t < 0 ↔ ew s t = true := by
  unfold nG ew tG
  by_cases h : s.a = t.a
  . simp only [h, qj, if_true]
    cases aA s.b t.b <;> cases aA t.b s.b <;> simp
  . simp only [h, if_false]
    cases aA s.a t.a <;> cases aA t.a s.a <;> simp
theorem Ep {s t : Ty} : 0 < nG s t ↔ ew t s = true := by
  unfold nG ew tG
  by_cases h : s.a = t.a
  . simp only [h, qj, if_true]
    cases h1 : aA s.b t.b
    . cases aA t.b s.b <;> simp
    . simp [za _ _ h1]
  . have h' : ¬ t.a = s.a := fun e => h e.symm
    simp only [h, h', if_false]
    cases h1 : aA s.a t.a
    . cases aA t.a s.a <;> simp
    . simp [za _ _ h1]
theorem OK (hc : Sem c) (a b : List Nat) (k : Int) (bD : aA a b = true) (st : St) (hw : Wf st) : c 229 [.str a, .str b, .int .u8 k] st = some (.agg (Ty.cells ⟨a, b, k⟩), st) := by
  rw [IM hc 1 (r := (.agg (Ty.cells ⟨a, b, k⟩), au st (.cells (Ty.cells ⟨a, b, k⟩) 0))), aI (Plain.agg (by simp [Ty.cells, Plain.str, Plain.int])) (bU hw)]
  rw [Hx]
  have m1 : ∀ (K : AV -> St -> Option (AV × St)) (s : St), af c .minB [.str a, .str b] s K = K (.str a) s := fun K s => bw c K (fun H n => by simp [aE.run, wP, bD]) s
  have m2 : ∀ (K : AV -> St -> Option (AV × St)) (s : St), af c .maxB [.str a, .str b] s K = K (.str b) s := fun K s => bw c K (fun H n => by simp [aE.run, wQ, bD]) s
  simp [m1, m2, cL, bg, iN, AV.cells, cY, AV.one, fR, Ty.cells]
end Go.Proofs.YtogojkhbplmifaaGreatDoor
end
section
set_option maxRecDepth 100000
namespace Go.Proofs.YtogojkhbplmifaaGreatDoor
open Go Go.Ai Go.Proofs
variable {c : ai}
def je (gs : List cr) : Nat -> Nat -> Int × Int
  | 0, _ => (0, 0)
  | m + 1, k => match gs[k]? with
    | none => (0, 0)
    | some g => if gX g ≠ 0 then ((k : Int), gX g) else if 0 <= scan (iP gs g.name) k 0 then ((k : Int), 5) else if 64 <= k then ((k : Int), 7) else je gs m (k + 1)
def lR (ts : List Ty) (k : Nat) : Option Ty := if k = 0 then none else ts[k - 1]?
def zb (t : Ty) : Bool := decide (t.k = 1) || decide (t.k = 2)
def KG (t : Ty) (p : Option Ty) : Bool := !zb t || !aA t.a t.b || (match p with | none => false | some p => ew t p)
def ot (t : Ty) (p : Option Ty) : Bool := match p with | none => false | some p => !ew p t
def l6 (gs : List cr) (t : Ty) : Bool := decide (scan (iP gs t.a) gs.length 0 < 0) || decide (scan (iP gs t.b) gs.length 0 < 0)
def gN (gs : List cr) (ts : List Ty) : Nat -> Nat -> Int × Int
  | 0, _ => (0, 0)
  | m + 1, k => match ts[k]? with
    | none => (0, 0)
    | some t => if KG t (lR ts k) = true then ((gs.length : Int) + k, 23) else if l6 gs t = true then ((gs.length : Int) + k, 6)
      else if ot t (lR ts k) = true then ((gs.length : Int) + k, 5) else if 256 <= k then ((gs.length : Int) + k, 7) else gN gs ts m (k + 1)
def cW (gs : List cr) (ts : List Ty) : Int × Int := if (je gs 101 0).2 ≠ 0 then je gs 101 0 else gN gs ts 101 0
theorem LY {gs : List cr} {s : List Nat} {k : Nat} (hk : k <= gs.length) : scan (iP (gs.take k) s) k 0 = scan (iP gs s) k 0 :=
  Hi k 0 fun i _ hi => by simp [iP, List.getElem?_take, show i < k by omega]
theorem PM (hc : Sem c) (z z2 : Bool) (gs : List cr) (ts : List Ty) (hl : gs.length <= 100) (p : Pos) (st : St) (hw : Wf st) (hp : st.heap.get p = some (.cells [cC z gs, fk z2 ts] 0)) (F : Nat) (k1 k2) : ∀ (m k : Nat), gs.length <= k + m -> k <= gs.length ->
    eE c F k1 k2 (m + 1) [.ptr p 0, .int .i64 (k : Int)] st = if (je gs m k).2 = 0 then k2 [.ptr p 0] st else k1 [.int .i64 (je gs m k).1, .int .i64 (je gs m k).2] st := by
  intro m
  induction m with
  | zero =>
    intro k h1 h2
    obtain rfl : k = gs.length := by omega
    rw [eE]
    simp [je, hp]
  | succ m ih =>
    intro k h1 h2
    rw [eE]
    by_cases h : k < gs.length
    . have w : aM .i64 ((k : Int) + 1) = ((k + 1 : Nat) : Int) := wrap64 (by omega) (by omega)
      have hch := LX hc gs[k] st hw
      have vu : k <= gs.length := by omega
      have hm : min k gs.length = k := by omega
      have Ri := Hu hc (z && gs.isEmpty) (gs.take k) gs[k].name (by unfold kE; simp; omega) st
      rw [show (gs.take k).length = k by simp; omega, LY vu] at Ri
      simp only [cC, List.map_take] at Ri
      rw [je, List.getElem?_eq_getElem h]
      simp only
      by_cases h3 : gX gs[k] = 0
      . have e3 : ¬ gX gs[k] ≠ 0 := by rw [h3]; simp
        by_cases h4 : 0 <= scan (iP gs gs[k].name) k 0
        . simp only [e3, h4, if_false, if_true]
          simp [cC, hp, h, vu, hch, h3, h4, Ri]
        . by_cases h5 : 64 <= k
          . have h6 : (64 : Int) <= k := by omega
            simp only [e3, h4, h5, if_false, if_true]
            simp [cC, hp, h, vu, hch, h3, h4, h6, Ri]
          . have h6 : ¬ (64 : Int) <= k := by omega
            simp only [e3, h4, h5, if_false]
            rw [<- ih (k + 1) (by omega) (by omega)]
            simp [cC, hp, h, vu, hch, h3, h4, h6, Ri, w]
      . simp [cC, hp, h, hch, h3]
    . obtain rfl : k = gs.length := by omega
      simp [je, hp]
set_option maxHeartbeats 4000000 in
theorem PN (hc : Sem c) (z z2 : Bool) (gs : List cr) (ts : List Ty) (hl : gs.length <= 100) (k9 : ts.length <= 100) (p : Pos) (F : Nat) (k1 k4) : ∀ (m k : Nat) (st : St), Wf st -> st.heap.get p = some (.cells [cC z gs, fk z2 ts] 0) -> ts.length <= k + m -> k <= ts.length ->
    ∃ st', Grew st st' /\ bZ c F k1 k4 (m + 1) [.ptr p 0, .int .i64 (k : Int)] st = if (gN gs ts m k).2 = 0 then k4 [] st' else k1 [.int .i64 (gN gs ts m k).1, .int .i64 (gN gs ts m k).2] st' := by
  intro m
  induction m with
  | zero =>
    intro k st hw hp h1 h2
    obtain rfl : k = ts.length := by omega
    refine ⟨st, Grew.refl hw, ?_⟩
    rw [bZ]
    simp [gN, hp]
  | succ m ih =>
    intro k st hw hp h1 h2
    by_cases h : k < ts.length
    . have w : aM .i64 ((k : Int) + 1) = ((k + 1 : Nat) : Int) := wrap64 (by omega) (by omega)
      have wg : aM .i64 ((gs.length : Int) + (k : Int)) = (gs.length : Int) + k := wrap64 (by omega) (by omega)
      have b7 : Wf (au st (.cells ts[k].cells 0)) := cF hw
      have hg := Grew.au hw (.cells ts[k].cells 0)
      have fh : (au st (.cells ts[k].cells 0)).heap.get p = some (.cells [cC z gs, fk z2 ts] 0) := hg.get hp
      have ha := Hu hc z gs ts[k].a (by unfold kE; omega) (au st (.cells ts[k].cells 0))
      have hb := Hu hc z gs ts[k].b (by unfold kE; omega) (au st (.cells ts[k].cells 0))
      have IN : ¬ 256 <= k := by omega
      have BF : ¬ (256 : Int) <= k := by omega
      obtain ⟨st', g1, g2⟩ := ih (k + 1) _ b7 fh (by omega) (by omega)
      have OL : zb ts[k] = true -> (ts[k].k = 1 \/ (¬ ts[k].k = 1 /\ ts[k].k = 2)) := fun q => by
        simp only [zb, Bool.or_eq_true, decide_eq_true_eq] at q
        by_cases e : ts[k].k = 1
        . exact .inl e
        . exact .inr ⟨e, q.resolve_left e⟩
      have VD : zb ts[k] = false -> (¬ ts[k].k = 1 /\ ¬ ts[k].k = 2) := fun q => by simpa [zb] using q
      rw [bZ, gN, List.getElem?_eq_getElem h]
      simp only
      by_cases h0 : k = 0
      . have hk : ¬ 0 < k := by omega
        have ep : lR ts k = none := by simp [lR, h0]
        rw [ep]
        clear h0 ih
        simp only [KG, ot, Bool.or_false, Bool.false_eq_true, if_false, IN]
        cases q1 : zb ts[k]
        . obtain ⟨f1, f2⟩ := VD q1
          refine ⟨_, hg, ?_⟩
          simp [fk, hp, fh, h, wg, f1, f2]
        . have f := OL q1
          cases q2 : aA ts[k].a ts[k].b
          . refine ⟨_, hg, ?_⟩
            rcases f with f | ⟨f, f2⟩ <;> simp [fk, hp, fh, h, wg, q2, *]
          . cases q3 : l6 gs ts[k]
            . have q4 := q3
              simp only [l6, Bool.or_eq_false_iff, decide_eq_false_iff_not] at q4
              obtain ⟨n1, n2⟩ := q4
              refine ⟨st', hg.trans g1, ?_⟩
              simp only [q1, q2, Bool.not_true, Bool.or_false, Bool.false_eq_true, if_false]
              rw [<- g2]
              rcases f with f | ⟨f, f2⟩ <;> simp [fk, hp, fh, h, wg, q2, ha, hb, n1, n2, hk, BF, w, *]
            . refine ⟨_, hg, ?_⟩
              by_cases n1 : scan (iP gs ts[k].a) gs.length 0 < 0
              . rcases f with f | ⟨f, f2⟩ <;> simp [fk, hp, fh, h, wg, q2, ha, hb, n1, hk, BF, w, *]
              . have n2 : scan (iP gs ts[k].b) gs.length 0 < 0 := by simpa [l6, n1] using q3
                rcases f with f | ⟨f, f2⟩ <;> simp [fk, hp, fh, h, wg, q2, ha, hb, n1, n2, hk, BF, w, *]
      . have hk : 0 < k := by omega
        have nE : k - 1 < ts.length := by omega
        have wk : aM .i64 ((k : Int) - 1) = ((k - 1 : Nat) : Int) := by rw [wrap64 (by omega) (by omega)]; omega
        have ep : lR ts k = some ts[k - 1] := by rw [lR, if_neg h0, List.getElem?_eq_getElem nE]
        have b1 := JF hc ts[k] ts[k - 1] (au st (.cells ts[k].cells 0)) b7
        have b2 := JF hc ts[k - 1] ts[k] (au st (.cells ts[k].cells 0)) b7
        rw [ep]
        clear ih
        simp only [KG, ot, IN, if_false]
        cases q1 : zb ts[k]
        . obtain ⟨f1, f2⟩ := VD q1
          refine ⟨_, hg, ?_⟩
          simp [fk, hp, fh, h, wg, f1, f2]
        . have f := OL q1
          cases q2 : aA ts[k].a ts[k].b
          . refine ⟨_, hg, ?_⟩
            rcases f with f | ⟨f, f2⟩ <;> simp [fk, hp, fh, h, wg, q2, *]
          . cases q5 : ew ts[k] ts[k - 1]
            . cases q3 : l6 gs ts[k]
              . have q4 := q3
                simp only [l6, Bool.or_eq_false_iff, decide_eq_false_iff_not] at q4
                obtain ⟨n1, n2⟩ := q4
                cases q6 : ew ts[k - 1] ts[k]
                . refine ⟨_, hg, ?_⟩
                  rcases f with f | ⟨f, f2⟩ <;> simp [fk, hp, fh, h, wg, q2, ha, hb, n1, n2, hk, nE, wk, b1, b2, BF, w, *]
                . refine ⟨st', hg.trans g1, ?_⟩
                  simp only [q1, q2, q5, Bool.not_true, Bool.false_eq_true, if_false, Bool.or_false]
                  rw [<- g2]
                  rcases f with f | ⟨f, f2⟩ <;> simp [fk, hp, fh, h, wg, q2, ha, hb, n1, n2, hk, nE, wk, b1, b2, BF, w, *]
              . refine ⟨_, hg, ?_⟩
                by_cases n1 : scan (iP gs ts[k].a) gs.length 0 < 0
                . rcases f with f | ⟨f, f2⟩ <;> simp [fk, hp, fh, h, wg, q2, ha, hb, n1, hk, nE, wk, b1, b2, BF, w, *]
                . have n2 : scan (iP gs ts[k].b) gs.length 0 < 0 := by simpa [l6, n1] using q3
                  rcases f with f | ⟨f, f2⟩ <;> simp [fk, hp, fh, h, wg, q2, ha, hb, n1, n2, hk, nE, wk, b1, b2, BF, w, *]
            . refine ⟨_, hg, ?_⟩
              rcases f with f | ⟨f, f2⟩ <;> simp [fk, hp, fh, h, wg, q2, hk, nE, wk, b1, b2, *]
    . obtain rfl : k = ts.length := by omega
      refine ⟨st, Grew.refl hw, ?_⟩
      rw [bZ]
      simp [gN, hp]
theorem BG (gs : List cr) (ts : List Ty) : ∀ (m k : Nat), (gN gs ts m k).2 = 0 -> (gN gs ts m k).1 = 0
  | 0, _, _ => rfl
  | m + 1, k, h => by
    rw [gN] at h ⊢
    split at h
    . rfl
    . split at h
      . simp at h
      . split at h
        . simp at h
        . split at h
          . simp at h
          . split at h
            . simp at h
            . rename_i h1 h2 h3 h4
              rw [if_neg h1, if_neg h2, if_neg h3, if_neg h4]; exact BG gs ts m (k + 1) h
theorem PO (hc : Sem c) (z z2 : Bool) (gs : List cr) (ts : List Ty) (hl : gs.length <= 100) (k9 : ts.length <= 100) (st : St) (hw : Wf st) : c 124 [.agg [cC z gs, fk z2 ts]] st = some (.tuple [.int .i64 (cW gs ts).1, .int .i64 (cW gs ts).2], st) := by
  have qN : Plain (.tuple [.int .i64 (cW gs ts).1, .int .i64 (cW gs ts).2]) := Plain.tuple (by simp [Plain.int])
  have b7 : Wf (au st (.cells [cC z gs, fk z2 ts] 0)) := cF hw
  have Hy := Grew.au hw (.cells [cC z gs, fk z2 ts] 0)
  have fh : (au st (.cells [cC z gs, fk z2 ts] 0)).heap.get st.next = some (.cells [cC z gs, fk z2 ts] 0) := cm _ _
  have L0 := fun k1 k2 => PM hc z z2 gs ts hl st.next _ b7 fh 102 k1 k2 101 0 (by omega) (by omega)
  by_cases h : (je gs 101 0).2 = 0
  . have e : cW gs ts = gN gs ts 101 0 := by rw [cW, if_neg (by simp [h])]
    obtain ⟨st', g1, g2⟩ := PN hc z z2 gs ts hl k9 st.next 102 (fun vs BH => az vs fun x2 vs => az vs fun x3 vs => bC vs (some (.tuple [x2, x3], BH))) (fun vs BI => bC vs (
      af c .move [(.int .i64 0)] BI fun x2 BJ => af c .move [(.int .i64 0)] BJ fun x3 BK => some (.tuple [x2, x3], BK))) 101 0 _ b7 fh (by omega) (by omega)
    rw [oN hc 102 (r := (.tuple [.int .i64 (cW gs ts).1, .int .i64 (cW gs ts).2], st')), aI qN (Hy.trans g1).keeps]
    rw [jT, e]
    simp [h] at L0 g2 ⊢
    rw [L0]
    simp [g2]
    by_cases h2 : (gN gs ts 101 0).2 = 0
    . have := BG gs ts 101 0 h2
      simp [h2, this]
    . simp [h2]
  . have e : cW gs ts = je gs 101 0 := by rw [cW, if_pos h]
    rw [oN hc 102 (r := (.tuple [.int .i64 (cW gs ts).1, .int .i64 (cW gs ts).2], au st (.cells [cC z gs, fk z2 ts] 0))), aI qN Hy.keeps]
    rw [jT, e]
    simp [h] at L0 ⊢
    rw [L0]
    simp
end Go.Proofs.YtogojkhbplmifaaGreatDoor
end
section
set_option maxRecDepth 100000
namespace Go.Proofs.YtogojkhbplmifaaGreatDoor
open Go Go.Ai Go.Proofs
variable {c : ai}
theorem Tt (hc : Sem c) (z : Bool) (l : List (List Nat)) (hl : l.length <= 4) (s : St) (hw : Wf s) : ∃ v s', c 147 [mV z l] s = some (v, s') /\ Grew s s' /\ v.one = true := by
  by_cases hn : mV z l = .av
  . refine ⟨.av, s, ?_, Grew.refl hw, rfl⟩
    rw [jf hc 1 (r := (.av, s)), aI Plain.av (bY.refl s)]
    rw [iu, hn]
    have e : ∀ (K : AV -> St -> Option (AV × St)) (s : St), af c (.bin .eql .slice) [.av, .av] s K = K (.bool true) s := fun K s => bw c K (fun H n => rfl) s
    simp [e]
  . have hf : mV z l = .fl (l.map fun s => [.str s]) 1 := by
      unfold mV ro at hn ⊢
      split at hn
      . exact absurd rfl hn
      . rfl
    have e : ∀ (K : AV -> St -> Option (AV × St)) (s : St), af c (.bin .eql .slice) [.fl (l.map fun s => [.str s]) 1, .av] s K = K (.bool false) s := fun K s => bw c K (fun H n => rfl) s
    have b7 := cF (b := .cells [] 0) hw
    have g1 := Grew.au hw (.cells [] 0)
    by_cases h0 : l.length = 0
    . have ha := fun (K : AV -> St -> Option (AV × St)) => LI c K (st := au s (.cells [] 0)) (es := 1) (bytes := 16) (p := s.next) (off := 0) (n := 0) (cp := some 0) (x := .fl (l.map fun s => [.str s]) 1) (by simp [eH, h0]) (by omega) (by omega)
      obtain ⟨Jy, t1, t2⟩ := Dw (v := .slice s.next 0 0 (some 0) 1) g1 hw
      refine ⟨.slice s.next 0 0 (some 0) 1, Jy, ?_, t2, rfl⟩
      rw [jf hc 1 (r := (.slice s.next 0 0 (some 0) 1, au s (.cells [] 0))), t1]
      rw [iu, hf]
      simp [e, cL, cv, ha]
    . have ha := fun (K : AV -> St -> Option (AV × St)) => Q8 c K (st := au s (.cells [] 0)) (es := 1) (bytes := 16) (m := l.length) (p := s.next) (x := .fl (l.map fun s => [.str s]) 1) (new := l.map .str) (by simp [eH]) h0 (by omega) (by omega) (by
          have : ∀ l : List (List Nat), (l.map fun s => [AV.str s]).flatten = l.map .str := fun l => by induction l <;> simp_all
          simp only [eV, iZ, iN, List.length_map, Nat.le_refl, decide_true]
          rw [List.take_of_length_le (by simp), this])
      obtain ⟨Jy, t1, t2⟩ := Dw (v := .slice (au s (.cells [] 0)).next 0 l.length none 1) (g1.trans (Grew.au b7 (.cells (l.map .str) 0))) hw
      refine ⟨.slice (au s (.cells [] 0)).next 0 l.length none 1, Jy, ?_, t2, rfl⟩
      rw [jf hc 1 (r := (.slice (au s (.cells [] 0)).next 0 l.length none 1, au (au s (.cells [] 0)) (.cells (l.map .str) 0))), t1]
      rw [iu, hf]
      simp [e, cL, cv, ha]
theorem Rj (hc : Sem c) (g : cr) (hl : g.tg.length <= 4) (s : St) (hw : Wf s) : ∃ row s', c 226 [.agg g.cells] s = some (.agg row, s') /\ Grew s s' /\ row.length = 9 /\ cY row = true := by
  have gj : Wf (au (au s (.cells g.cells 0)) (.cells [.str [], .str [], .str [], .int .i64 0, .int .i64 0, .str [], .bool false, .bool false, .av] 0)) := cF (cF hw)
  have pR := (Grew.au hw (.cells g.cells 0)).trans (Grew.au (cF hw) (.cells [.str [], .str [], .str [], .int .i64 0, .int .i64 0, .str [], .bool false, .bool false, .av] 0))
  obtain ⟨v, s3, h1, h2, h3⟩ := Tt hc g.tz g.tg hl _ gj
  have hx : s3.heap.get s.next = some (.cells g.cells 0) := h2.get Du
  have hy : s3.heap.get (au s (.cells g.cells 0)).next = some (.cells [.str [], .str [], .str [], .int .i64 0, .int .i64 0, .str [], .bool false, .bool false, .av] 0) := h2.get (cm _ _)
  have hvc : v.cells = [v] := by cases v <;> first | rfl | cases h3
  have cM : s.next ≠ (au s (.cells g.cells 0)).next := Pos.Wd _
  have hlt1 : s.next.toNat < s3.next.toNat := by have := h2.next; rw [mU, mU, Pos.aL, Pos.aL] at this; omega
  have hlt2 : (au s (.cells g.cells 0)).next.toNat < s3.next.toNat := by have := h2.next; rw [mU, Pos.aL] at this; omega
  let row : List AV := [.str g.name, .str g.tC, .str g.pQ, .int .i64 g.since, .int .i64 g.side, .str g.tD, .bool g.host, .bool g.access, v]
  have qM : bg g.cells 8 [v] = row := rfl
  have Db : cY row = true := by
    simp only [row, cY, h3]; rfl
  let s4 := oM s3 s.next (.cells row 0)
  let s5 := oM s4 (au s (.cells g.cells 0)).next (.cells row 0)
  have hx4 : s4.heap.get s.next = some (.cells row 0) := Af _ _ _
  have hy4 : s4.heap.get (au s (.cells g.cells 0)).next = some (.cells [.str [], .str [], .str [], .int .i64 0, .int .i64 0, .str [], .bool false, .bool false, .av] 0) := by
    show (oM s3 s.next (.cells row 0)).heap.get _ = _
    rw [ir cM]; exact hy
  have hy5 : s5.heap.get (au s (.cells g.cells 0)).next = some (.cells row 0) := Af _ _ _
  have gr : Grew s s5 := by
    refine ⟨Dv (Dv h2.wf hlt1) hlt2, fun p x hp => ?_, ?_⟩
    . have fh := hw p x hp
      have e1 : (au s (.cells g.cells 0)).next ≠ p := fun e => by rw [<- e, mU, Pos.aL] at fh; omega
      have e2 : s.next ≠ p := fun e => by rw [<- e] at fh; omega
      show (oM (oM s3 s.next _) _ _).heap.get p = _
      rw [ir e1, ir e2]
      exact h2.get (pR.keeps p x hp)
    . exact Nat.le_trans pR.next h2.next
  obtain ⟨Jy, t1, t2⟩ := Dw (v := .agg row) gr hw
  refine ⟨row, Jy, ?_, t2, rfl, Db⟩
  rw [FG hc 1 (r := (.agg row, s5)), t1]
  rw [DI]
  have ct := fun (K : AV -> St -> Option (AV × St)) => vD c K s3 1 s.next 8 v g.cells hx (by rw [hvc]; rfl) (by rw [cr.len]; omega) (by rw [hvc]; simp [cY, h3])
  rw [hvc, qM] at ct
  have yG := fun (K : AV -> St -> Option (AV × St)) => vD c K s4 9 (au s (.cells g.cells 0)).next 0 (.agg row) _ hy4 rfl (by simp) Db
  have hsp2 : bg [AV.str [], .str [], .str [], .int .i64 0, .int .i64 0, .str [], .bool false, .bool false, .av] 0 (AV.agg row).cells = row := rfl
  rw [hsp2] at yG
  have hcut : cut row 0 9 = some row := fR rfl
  simp [h1, ct, hcut]
  have st2' : ∀ (K : AV -> St -> Option (AV × St)), af c (.store 9) [.ptr (au s (.cells g.cells 0)).next 0, .agg row] (oM s3 s.next (.cells row 0)) K = K .undef s5 := fun K => yG K
  rw [st2']
  simp only [hy5, gF, Option.bind_some, hcut, vC]
end Go.Proofs.YtogojkhbplmifaaGreatDoor
end
section
set_option maxRecDepth 100000
namespace Go.Proofs.YtogojkhbplmifaaGreatDoor
open Go Go.Ai Go.Proofs
variable {c : ai}
theorem Ke (b : Pos) (off : Nat) : ¬ Plain (.ptr b off) := fun h => by
  have := h (fun _ => ⟨0, 0, 0⟩) (fun _ => ⟨0, 0, 0⟩) (b.toNat + 1) 0 (fun _ => none) _ (.ptr b off (by omega))
  cases this with
  | ptr _ _ h => omega
theorem Tu {s s' : St} {b : Pos} {off : Nat} : tidy s (.ptr b off, s') = (.ptr b off, s') := by
  unfold tidy; rw [if_neg]; exact fun h => Ke _ _ h.1
theorem aal (hc : Sem c) (s : St) : c 160 [] s = some (.ptr (au s (.map [] 0)).next 0, au (au s (.map [] 0)) (.cells [.av, .av, .map s.next] 0)) := by
  rw [Kf hc 1 (x := .av) (r := (.ptr (au s (.map [] 0)).next 0, au (au s (.map [] 0)) (.cells [.av, .av, .map s.next] 0))), Tu]
  rw [JG]
  simp [cL, bg, iN, AV.cells]
def jC (k : Option Pos) (n es : Nat) : AV := match k with
  | none => .av
  | some b => .slice b 0 n none es
theorem BL {k : Option Pos} {n es : Nat} (h : k = none -> n = 0) : ∀ H p, aE.run H p (.lenB .l) [jC k n es] = some (.val (.int .i64 (n : Int))) := fun H p => by
  cases k with
  | none => rw [h rfl]; rfl
  | some b => rfl
structure iK (s0 s : St) (bp mp : Pos) (gs : List cr) (ts : List Ty) (gk tk : Option Pos) : Prop where
  wf : Wf s
  keeps : bY s0 s
  next : s0.next.toNat <= s.next.toNat
  book : s.heap.get bp = some (.cells [jC gk gs.length 9, jC tk ts.length 3, .map mp] 0)
  BM : ∃ es cl, s.heap.get mp = some (.map es cl) /\ es.map (·.1) = gs.map fun g => .str g.name
  xK : (gk = none -> gs = []) /\ ∀ b, gk = some b -> ∃ cs, s.heap.get b = some (.cells cs 0) /\ cs.length = gs.length * 9
  we : (tk = none -> ts = []) /\ ∀ b, tk = some b -> s.heap.get b = some (.cells (ts.flatMap Ty.cells) 0)
  dg : gk ≠ some bp
  dt : tk ≠ some bp
  LZ : ∀ b, gk = some b -> tk ≠ some b
  fb : s0.heap.get bp = none
  fm : s0.heap.get mp = none
  fg : ∀ b, gk = some b -> s0.heap.get b = none
  ft : ∀ b, tk = some b -> s0.heap.get b = none
theorem iK.lt {s0 s : St} {bp mp : Pos} {gs : List cr} {ts : List Ty} {gk tk : Option Pos} (h : iK s0 s bp mp gs ts gk tk) : bp.toNat < s.next.toNat /\ mp.toNat < s.next.toNat := by
  obtain ⟨es, cl, h1, _⟩ := h.BM
  exact ⟨h.wf _ _ h.book, h.wf _ _ h1⟩
theorem iK.L5 {s0 s s' : St} {bp mp : Pos} {gs : List cr} {ts : List Ty} {gk tk : Option Pos} (h : iK s0 s bp mp gs ts gk tk) (g : Grew s s') : iK s0 s' bp mp gs ts gk tk where
  wf := g.wf
  keeps := h.keeps.trans g.keeps
  next := Nat.le_trans h.next g.next
  book := g.get h.book
  BM := let ⟨es, cl, h1, h2⟩ := h.BM; ⟨es, cl, g.get h1, h2⟩
  xK := ⟨h.xK.1, fun b hb => let ⟨cs, h1, h2⟩ := h.xK.2 b hb; ⟨cs, g.get h1, h2⟩⟩
  we := ⟨h.we.1, fun b hb => g.get (h.we.2 b hb)⟩
  dg := h.dg
  dt := h.dt
  LZ := h.LZ
  fb := h.fb
  fm := h.fm
  fg := h.fg
  ft := h.ft
theorem iK.start {s : St} (hw : Wf s) : iK s (au (au s (.map [] 0)) (.cells [.av, .av, .map s.next] 0)) (au s (.map [] 0)).next s.next [] [] none none where
  wf := cF (cF hw)
  keeps := (bU hw).trans (bU (cF hw))
  next := by simp only [mU, Pos.aL]; omega
  book := cm _ _
  BM := ⟨[], 0, Du, rfl⟩
  xK := ⟨fun _ => rfl, fun b h => by cases h⟩
  we := ⟨fun _ => rfl, fun b h => by cases h⟩
  dg := fun h => by cases h
  dt := fun h => by cases h
  LZ := fun b h => by cases h
  fb := by
    cases h : s.heap.get (au s (.map [] 0)).next with
    | none => rfl
    | some x => have := hw _ _ h; rw [mU, Pos.aL] at this; omega
  fm := by
    cases h : s.heap.get s.next with
    | none => rfl
    | some x => have := hw _ _ h; omega
  fg := fun b h => by cases h
  ft := fun b h => by cases h
theorem zF (s : List Nat) : ∀ (gs : List cr) (es : List (AV × AV × Nat)) (i : Nat), es.map (·.1) = gs.map (fun g => .str g.name) ->
    (s ∈ gs.map cr.name /\ ∃ j v, iV .s (.str s) es i = some (some (j, v))) \/ (s ∉ gs.map cr.name /\ iV .s (.str s) es i = some none)
  | [], es, i, h => by
    have : es = [] := by simpa using h
    subst this; exact .inr ⟨by simp, rfl⟩
  | g :: gs, [], i, h => by simp at h
  | g :: gs, (k, v, n) :: es, i, h => by
    simp only [List.map_cons, List.cons.injEq] at h
    obtain ⟨h1, h2⟩ := h
    subst h1
    by_cases e : s = g.name
    . subst e; exact .inl ⟨by simp, i, v, by simp [iV, uu, fA]⟩
    . rcases zF s gs es (i + 1) h2 with ⟨a, b⟩ | ⟨a, b⟩
      . left; refine ⟨by simp at a ⊢; exact .inr a, ?_⟩
        simpa [iV, uu, fA, e] using b
      . right; refine ⟨by simp at a ⊢; exact ⟨e, a⟩, ?_⟩
        simpa [iV, uu, fA, e] using b
theorem BN {gs : List cr} {s : List Nat} : 0 <= scan (iP gs s) gs.length 0 ↔ s ∈ gs.map cr.name := by
  constructor
  . intro h
    obtain ⟨_, h2, h3⟩ := BA _ _ h
    simp only [iP, decide_eq_true_eq] at h3
    rw [List.getElem?_eq_getElem (by omega)] at h3
    simp only [Option.map_some, Option.some.injEq] at h3
    rw [<- h3]; exact List.mem_map.2 ⟨_, List.getElem_mem _, rfl⟩
  . intro h
    obtain ⟨g, hg, rfl⟩ := List.mem_map.1 h
    obtain ⟨i, hi, rfl⟩ := List.mem_iff_getElem.1 hg
    have key : ∀ (m k : Nat), k <= i -> i < k + m -> 0 <= scan (iP gs gs[i].name) m k := by
      intro m
      induction m with
      | zero => intro k h1 h2; omega
      | succ m ih =>
        intro k h1 h2
        unfold scan
        split
        . omega
        . rename_i cM
          by_cases e : k = i
          . subst e; simp [iP, hi] at cM
          . exact ih (k + 1) (by omega) (by omega)
    exact key _ _ (by omega) (by omega)
theorem OM (hc : Sem c) (s : St) (bp mp : Pos) (x y : AV) (h : s.heap.get bp = some (.cells [x, y, .map mp] 0)) : c 168 [.ptr bp 0] s = some (.bool false, s) := by
  rw [CM hc 1 (r := (.bool false, s)), aI (Plain.bool _) (bY.refl s)]
  rw [zc]
  have e1 : ∀ (K : AV -> St -> Option (AV × St)) (s : St), af c (.bin .eql .ptr) [.ptr bp 0, .cU] s K = K (.bool false) s := fun K s => bw c K (fun H n => rfl) s
  have e2 : ∀ (K : AV -> St -> Option (AV × St)) (s : St), af c (.bin .eql .map) [.map mp, .iy] s K = K (.bool false) s := fun K s => bw c K (fun H n => rfl) s
  simp [e1, e2, h]
end Go.Proofs.YtogojkhbplmifaaGreatDoor
end
