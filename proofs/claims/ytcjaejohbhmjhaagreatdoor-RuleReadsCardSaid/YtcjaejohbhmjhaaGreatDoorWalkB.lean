/- Words and the head of rule.body. -/
import Derived.Test.YtcjaejohbhmjhaaGreatDoorWalkA
import Derived.Laws.EntriesVeiled
import Derived.WideLaws
set_option linter.all false
set_option linter.unusedSectionVars false
set_option linter.deprecated false
section
namespace Go.Proofs
open Go.RowKit Go.Trw

theorem Trw.bcell {W w1 : World} (hb : Below W.heap.size W w1) : (∀ b o, b < W.heap.size → w1.cell? ⟨b, o, none⟩ = W.cell? ⟨b, o, none⟩) ∧ (∀ b o, b < W.heap.size → w1.frozen? ⟨b, o, none⟩ = W.frozen? ⟨b, o, none⟩) :=
  ⟨fun b o h => hb.cell (p := ⟨b, o, none⟩) h, fun b o h => hb.frozen (p := ⟨b, o, none⟩) h⟩

/-- a rule, as its six cells say it. -/
structure Trw.RR where
  k : Nat
  wt : Int
  a : ByteArray
  b : ByteArray
  t : ByteArray
  n : Int
def Trw.RR.val (r : Trw.RR) : Value := .agg #[.int .u8 r.k, .int .i64 r.wt, .string r.a, .string r.b, .string r.t, .int .i64 r.n]
def Trw.zeroR : Value := .agg #[.int .u8 0, .int .i64 0, .string ⟨#[]⟩, .string ⟨#[]⟩, .string ⟨#[]⟩, .int .i64 0]
def Trw.valOf : Int ⊕ Trw.RR → Value
  | .inl e => .tuple #[Trw.zeroR, .int .i64 e]
  | .inr r => .tuple #[r.val, .int .i64 0]

/-- what the words behind the weight say: the shape's fields, word by word. -/
def Trw.tailS (K : Nat) (a : Int) (b : Bool) (t : Int) (n : Bool) (u : Nat → ByteArray) (len : Nat) (wt : Int) : Int ⊕ Trw.RR :=
  let m := (if a = 0 then 0 else 1) + (if b then 1 else 0) + (if t = 0 then 0 else 1) + (if n then 1 else 0)
  let it := 1 + (if a = 0 then 0 else 1) + (if b then 1 else 0)
  if K = 0 then .inl 3
  else if len ≠ m + 1 then .inl 3
  else if n = true ∧ numOk (u m).data.toList = false then .inl 3
  else if wt < 0 ∨ 1000 < wt then .inl 41
  else if (a = 0 ∨ nmOk (u 1) (a == 101) = true) ∧ (b = false ∨ nmOk (u 2) false = true) ∧ (t = 0 ∨ nmOk (u it) (t == 101) = true) then
    .inr ⟨K, wt, if a = 0 then ⟨#[]⟩ else nmS (u 1) (a == 101), if b then nmS (u 2) false else ⟨#[]⟩, if t = 0 then ⟨#[]⟩ else nmS (u it) (t == 101), if n then numV (u m).data.toList else 0⟩
  else .inl 4
def Trw.bodyS (u : Nat → ByteArray) (len : Nat) (wt : Int) : Int ⊕ Trw.RR :=
  Trw.tailS (kindOf (u 0).data.toList) (faI (kindOf (u 0).data.toList)) (fbB (kindOf (u 0).data.toList)) (ftI (kindOf (u 0).data.toList)) (fnB (kindOf (u 0).data.toList)) u len wt

def Trw.bodyP (u : Nat → ByteArray) (len : Nat) (wt : Int) (w : World) (e : Ending) (w' : World) : Prop := e = .returned (Trw.valOf (Trw.bodyS u len wt)) ∧ Below w.heap.size w w'
theorem Trw.bodyP_mk {u : Nat → ByteArray} {len : Nat} {wt : Int} {w w' : World} {v : Value} {K : Nat} {a t : Int} {b n : Bool} (hK : K = kindOf (u 0).data.toList) (ha : faI K = a) (hb : fbB K = b) (ht : ftI K = t) (hn : fnB K = n)
    (hv : v = Trw.valOf (Trw.tailS K a b t n u len wt)) (h : Below w.heap.size w w') : Trw.bodyP u len wt w (.returned v) w' := by
  refine ⟨?_, h⟩
  rw [hv, Trw.bodyS, ← hK, ha, hb, ht, hn]

theorem Trw.shape : ∀ K, K ≤ 18 →
    (K = 0 ∧ faI K = 0 ∧ fbB K = false ∧ ftI K = 0 ∧ fnB K = false) ∨ (K ≠ 0 ∧ faI K = 103 ∧ fbB K = true ∧ ftI K = 0 ∧ fnB K = true) ∨ (K ≠ 0 ∧ faI K = 103 ∧ fbB K = true ∧ ftI K = 0 ∧ fnB K = false) ∨
    (K ≠ 0 ∧ faI K = 103 ∧ fbB K = false ∧ ftI K = 116 ∧ fnB K = false) ∨ (K ≠ 0 ∧ faI K = 103 ∧ fbB K = false ∧ ftI K = 116 ∧ fnB K = true) ∨ (K ≠ 0 ∧ faI K = 0 ∧ fbB K = false ∧ ftI K = 101 ∧ fnB K = false) ∨
    (K ≠ 0 ∧ faI K = 101 ∧ fbB K = false ∧ ftI K = 0 ∧ fnB K = false) ∨ (K ≠ 0 ∧ faI K = 0 ∧ fbB K = false ∧ ftI K = 101 ∧ fnB K = true) ∨ (K ≠ 0 ∧ faI K = 100 ∧ fbB K = false ∧ ftI K = 116 ∧ fnB K = false) := by
  have h1 : ∀ K, K < 19 → K ≠ 0 → (faI K, fbB K, ftI K, fnB K) ∈ ([(103, true, 0, true), (103, true, 0, false), (103, false, 116, false), (103, false, 116, true), (0, false, 101, false), (101, false, 0, false), (0, false, 101, true), (100, false, 116, false)] : List (Int × Bool × Int × Bool)) := by
    intro K
    match K with
    | 0 => intro _ h; exact absurd rfl h
    | 1 => intro _ _; decide
    | 2 => intro _ _; decide
    | 3 => intro _ _; decide
    | 4 => intro _ _; decide
    | 5 => intro _ _; decide
    | 6 => intro _ _; decide
    | 7 => intro _ _; decide
    | 8 => intro _ _; decide
    | 9 => intro _ _; decide
    | 10 => intro _ _; decide
    | 11 => intro _ _; decide
    | 12 => intro _ _; decide
    | 13 => intro _ _; decide
    | 14 => intro _ _; decide
    | 15 => intro _ _; decide
    | 16 => intro _ _; decide
    | 17 => intro _ _; decide
    | 18 => intro _ _; decide
    | n + 19 => intro h; omega
  intro K h
  by_cases h0 : K = 0
  · subst h0; exact .inl ⟨rfl, by decide, by decide, by decide, by decide⟩
  · have := h1 K (by omega) h0
    simp only [List.mem_cons, Prod.mk.injEq, List.not_mem_nil, or_false] at this
    right
    rcases this with h | h | h | h | h | h | h | h
    · exact .inl ⟨h0, h⟩
    · exact .inr (.inl ⟨h0, h⟩)
    · exact .inr (.inr (.inl ⟨h0, h⟩))
    · exact .inr (.inr (.inr (.inl ⟨h0, h⟩)))
    · exact .inr (.inr (.inr (.inr (.inl ⟨h0, h⟩))))
    · exact .inr (.inr (.inr (.inr (.inr (.inl ⟨h0, h⟩)))))
    · exact .inr (.inr (.inr (.inr (.inr (.inr (.inl ⟨h0, h⟩))))))
    · exact .inr (.inr (.inr (.inr (.inr (.inr (.inr ⟨h0, h⟩))))))
theorem Trw.word_ne : ∀ K, K ≤ 18 → K ≠ 0 → wordL K ≠ [] := by
  have : ∀ K, K < 19 → K ≠ 0 → wordL K ≠ [] := by decide
  intro K h; exact this K (by omega)

def Trw.selK (K : Nat) (seen : Array Nat) : Nat := if K ≠ 0 ∧ seen.contains (K - 1) = true then K else 0
def Trw.bodyI (w : World) (K : Nat) (wt : Int) (sl : Value) (b r : Nat) (wr : World) : Prop :=
  ∃ (seen : Array Nat) (c0 : Nat), wr.heap[b]? = some (.map kindEs 18) ∧ wr.heap[r]? = some (.mapIter (some b) 18 seen c0) ∧ 18 ≤ c0 ∧ Below w.heap.size w wr ∧ r < wr.heap.size ∧
    Is wr w.heap.size 46 #[.int .u8 (Trw.selK K seen), .int .i64 wt, .string ⟨#[]⟩, .string ⟨#[]⟩, .string ⟨#[]⟩, .int .i64 0] ∧ Is wr (w.heap.size + 1) 65 #[sl] ∧
    Is wr (w.heap.size + 1 + 1) 46 #[.int .u8 0, .int .i64 0, .string ⟨#[]⟩, .string ⟨#[]⟩, .string ⟨#[]⟩, .int .i64 0] ∧
    Is wr (w.heap.size + 1 + 1 + 1) 92 #[.string (wordB (Trw.selK K seen)), .int .u8 (faI (Trw.selK K seen)), .bool (fbB (Trw.selK K seen)), .int .u8 (ftI (Trw.selK K seen)), .bool (fnB (Trw.selK K seen)), .int .i64 (loI (Trw.selK K seen)), .bool (seB (Trw.selK K seen)), fnV (Trw.selK K seen)]

theorem Trw.es_born : ∀ x ∈ kindEs.toList, x.born < 18 := by
  intro x hx
  simp only [kindEs, List.mem_map, List.mem_range] at hx
  obtain ⟨i, hi, rfl⟩ := hx
  exact hi
theorem Trw.es_nodup : (kindEs.toList.map (·.born)).Nodup := by
  have : kindEs.toList.map (·.born) = List.range 18 := by
    simp [kindEs, List.map_map]
    have : (MapEntry.born ∘ kindE) = id := by funext i; rfl
    rw [this, List.map_id]
  rw [this]; exact List.nodup_range
theorem Trw.left_mem {seen : Array Nat} {e : MapEntry} (h0 : e ∈ leftOf kindEs seen) : ∃ i, i < 18 ∧ e = kindE i ∧ seen.contains i = false := by
  have h : e ∈ (leftOf kindEs seen).toList := by simpa using h0
  simp only [leftOf, Array.toList_filter, List.mem_filter, kindEs, List.mem_map, List.mem_range] at h
  obtain ⟨⟨i, hi, rfl⟩, h2⟩ := h
  exact ⟨i, hi, rfl, by simpa [kindE] using h2⟩
theorem Trw.left_none {seen : Array Nat} (h0 : leftOf kindEs seen = #[]) (i : Nat) (hi : i < 18) : seen.contains i = true := by
  cases hc : seen.contains i
  · exfalso
    have : kindE i ∈ (leftOf kindEs seen).toList := by
      simp only [leftOf, Array.toList_filter, List.mem_filter, kindEs, List.mem_map, List.mem_range]
      exact ⟨⟨i, hi, rfl⟩, by simpa [kindE] using hc⟩
    rw [h0] at this; simp at this
  · rfl

theorem Trw.selK_none {seen : Array Nat} (h0 : leftOf kindEs seen = #[]) (K : Nat) (hK : K ≤ 18) : Trw.selK K seen = K := by
  unfold Trw.selK
  by_cases h : K = 0
  · simp [h]
  · rw [if_pos ⟨h, Trw.left_none h0 (K - 1) (by omega)⟩]


theorem Trw.selK_empty (K : Nat) : Trw.selK K #[] = 0 := by unfold Trw.selK; simp
theorem Trw.wt_no {wt : Int} (h1 : ¬ wt < 0) (h2 : ¬ 1000 < wt) : ¬ (wt < 0 ∨ 1000 < wt) := fun h => h.elim h1 h2
theorem Trw.bcases (b : Bool) : b = true ∨ b = false := by cases b <;> simp
theorem Trw.selK_miss {K i : Nat} {seen : Array Nat} (h : K ≠ i + 1) : Trw.selK K (seen.push i) = Trw.selK K seen := by
  unfold Trw.selK
  by_cases hK : K = 0
  · simp [hK]
  · have : (seen.push i).contains (K - 1) = seen.contains (K - 1) := by
      have : K - 1 ≠ i := by omega
      simp [this]
    rw [this]
theorem Trw.selK_hit {K i : Nat} {seen : Array Nat} (h : K = i + 1) : Trw.selK K (seen.push i) = K := by
  unfold Trw.selK
  rw [if_pos ⟨by omega, by subst h; simp⟩]

theorem Trw.kind_hit {c : Nat} {s : ByteArray} (h1 : 1 ≤ c) (h2 : c ≤ 18) (h : ((wordB c).toList == s.toList) = true) : kindOf s.data.toList = c := by
  have : (wordB c).toList = s.toList := by simpa using h
  rw [Lib.toList_data, Lib.toList_data] at this
  rw [← this]
  exact kindOf_eq c h1 h2
theorem Trw.kind_miss {c : Nat} {s : ByteArray} (h1 : 1 ≤ c) (h : ((wordB c).toList == s.toList) = false) : kindOf s.data.toList ≠ c := by
  intro e
  have hne : (wordB c).toList ≠ s.toList := by simpa using h
  rw [Lib.toList_data, Lib.toList_data] at hne
  apply hne
  show (wordL c) = _
  rw [← e]
  exact word_kindOf _ (by omega)

theorem Trw.below_step {B r : Nat} {w w2 wr : World} (h : Below B w wr) (ho : w2.os = wr.os ∧ w2.tape = wr.tape ∧ w2.output = wr.output ∧ w2.heap.size = wr.heap.size) (hk : ∀ k, ¬ k = r → w2.heap[k]? = wr.heap[k]?) (hr : B ≤ r) : Below B w w2 :=
  h.trans ⟨ho.1, ho.2.1, ho.2.2.1, Nat.le_of_eq ho.2.2.2.symm, fun k hkB => hk k (by omega)⟩
theorem Trw.below_drewN {B : Nat} {a w : World} (h : Below B a w) (k : Nat) : Below B a (w.drewN k) := h.trans ⟨rfl, rfl, rfl, Nat.le_refl _, fun _ _ => rfl⟩

theorem Trw.rangeLeft_of {w : World} {b r since c : Nat} {seen : Array Nat} (hb : w.heap[b]? = some (.map kindEs 18)) (hr : w.heap[r]? = some (.mapIter (some b) since seen c)) : w.rangeLeft b r = (leftOf kindEs seen).size := by
  simp only [World.rangeLeft, hb, hr]

theorem Trw.step_hit {w w2 : World} {K i b r nq : Nat} {wt : Int} {sl : Value} {seen : Array Nat} {X : Obj} {c : Nat} (hK : K = c) (hc : c = i + 1) (hb : w2.heap[b]? = some (.map kindEs 18)) (hr : w2.heap[r]? = some (.mapIter (some b) 18 (seen.push i) 18))
    (hB : Below w.heap.size w w2) (h1 : w.heap.size + 1 + 1 + 1 + 1 ≤ b) (h2 : b < r) (hl : r < w2.heap.size)
    (i1 : Is w2 w.heap.size 46 #[.int .u8 (Trw.selK K seen), .int .i64 wt, .string ⟨#[]⟩, .string ⟨#[]⟩, .string ⟨#[]⟩, .int .i64 0]) (i2 : Is w2 (w.heap.size + 1) 65 #[sl])
    (i3 : Is w2 (w.heap.size + 1 + 1) 46 #[.int .u8 0, .int .i64 0, .string ⟨#[]⟩, .string ⟨#[]⟩, .string ⟨#[]⟩, .int .i64 0])
    (i4 : Is w2 (w.heap.size + 1 + 1 + 1) 92 #[.string (wordB (Trw.selK K seen)), .int .u8 (faI (Trw.selK K seen)), .bool (fbB (Trw.selK K seen)), .int .u8 (ftI (Trw.selK K seen)), .bool (fnB (Trw.selK K seen)), .int .i64 (loI (Trw.selK K seen)), .bool (seB (Trw.selK K seen)), fnV (Trw.selK K seen)]) :
    Trw.bodyI w K wt sl b r ((((((((((w2.alloc X).drewN nq).setCell ⟨w.heap.size, 0, none⟩ (.int .u8 c)).setCell ⟨w.heap.size + 1 + 1 + 1, 0, none⟩ (.string (wordB c))).setCell ⟨w.heap.size + 1 + 1 + 1, 1, none⟩ (.int .u8 (faI c))).setCell ⟨w.heap.size + 1 + 1 + 1, 2, none⟩ (.bool (fbB c))).setCell
      ⟨w.heap.size + 1 + 1 + 1, 3, none⟩ (.int .u8 (ftI c))).setCell ⟨w.heap.size + 1 + 1 + 1, 4, none⟩ (.bool (fnB c))).setCell ⟨w.heap.size + 1 + 1 + 1, 5, none⟩ (.int .i64 (loI c))).setCell ⟨w.heap.size + 1 + 1 + 1, 6, none⟩ (.bool (seB c)) |>.setCell ⟨w.heap.size + 1 + 1 + 1, 7, none⟩ (.func (.func (96 + c)) #[] #[])) ∧
    World.rangeLeft ((((((((((w2.alloc X).drewN nq).setCell ⟨w.heap.size, 0, none⟩ (.int .u8 c)).setCell ⟨w.heap.size + 1 + 1 + 1, 0, none⟩ (.string (wordB c))).setCell ⟨w.heap.size + 1 + 1 + 1, 1, none⟩ (.int .u8 (faI c))).setCell ⟨w.heap.size + 1 + 1 + 1, 2, none⟩ (.bool (fbB c))).setCell
      ⟨w.heap.size + 1 + 1 + 1, 3, none⟩ (.int .u8 (ftI c))).setCell ⟨w.heap.size + 1 + 1 + 1, 4, none⟩ (.bool (fnB c))).setCell ⟨w.heap.size + 1 + 1 + 1, 5, none⟩ (.int .i64 (loI c))).setCell ⟨w.heap.size + 1 + 1 + 1, 6, none⟩ (.bool (seB c)) |>.setCell ⟨w.heap.size + 1 + 1 + 1, 7, none⟩ (.func (.func (96 + c)) #[] #[])) b r = (leftOf kindEs (seen.push i)).size := by
  have hne : ∀ {o : Nat} {v : Value} {W : World} {m k : Nat}, k ≠ m → (W.setCell ⟨k, o, none⟩ v).heap[m]? = W.heap[m]? := fun h => heap_set_ne h _ _
  have g : ∀ m, m < w2.heap.size → ((w2.alloc X).drewN nq).heap[m]? = w2.heap[m]? := fun m hm => by
    show (w2.alloc X).heap[m]? = _
    exact heap_alloc _ _ hm
  have q1 : (World.heap ((((((((((w2.alloc X).drewN nq).setCell ⟨w.heap.size, 0, none⟩ (.int .u8 c)).setCell ⟨w.heap.size + 1 + 1 + 1, 0, none⟩ (.string (wordB c))).setCell ⟨w.heap.size + 1 + 1 + 1, 1, none⟩ (.int .u8 (faI c))).setCell ⟨w.heap.size + 1 + 1 + 1, 2, none⟩ (.bool (fbB c))).setCell
      ⟨w.heap.size + 1 + 1 + 1, 3, none⟩ (.int .u8 (ftI c))).setCell ⟨w.heap.size + 1 + 1 + 1, 4, none⟩ (.bool (fnB c))).setCell ⟨w.heap.size + 1 + 1 + 1, 5, none⟩ (.int .i64 (loI c))).setCell ⟨w.heap.size + 1 + 1 + 1, 6, none⟩ (.bool (seB c)) |>.setCell ⟨w.heap.size + 1 + 1 + 1, 7, none⟩ (.func (.func (96 + c)) #[] #[])))[b]? = some (.map kindEs 18) := by
    rw [hne (by omega), hne (by omega), hne (by omega), hne (by omega), hne (by omega), hne (by omega), hne (by omega), hne (by omega), hne (by omega), g _ (by omega)]; exact hb
  have q2 : (World.heap ((((((((((w2.alloc X).drewN nq).setCell ⟨w.heap.size, 0, none⟩ (.int .u8 c)).setCell ⟨w.heap.size + 1 + 1 + 1, 0, none⟩ (.string (wordB c))).setCell ⟨w.heap.size + 1 + 1 + 1, 1, none⟩ (.int .u8 (faI c))).setCell ⟨w.heap.size + 1 + 1 + 1, 2, none⟩ (.bool (fbB c))).setCell
      ⟨w.heap.size + 1 + 1 + 1, 3, none⟩ (.int .u8 (ftI c))).setCell ⟨w.heap.size + 1 + 1 + 1, 4, none⟩ (.bool (fnB c))).setCell ⟨w.heap.size + 1 + 1 + 1, 5, none⟩ (.int .i64 (loI c))).setCell ⟨w.heap.size + 1 + 1 + 1, 6, none⟩ (.bool (seB c)) |>.setCell ⟨w.heap.size + 1 + 1 + 1, 7, none⟩ (.func (.func (96 + c)) #[] #[])))[r]? = some (.mapIter (some b) 18 (seen.push i) 18) := by
    rw [hne (by omega), hne (by omega), hne (by omega), hne (by omega), hne (by omega), hne (by omega), hne (by omega), hne (by omega), hne (by omega), g _ (by omega)]; exact hr
  refine ⟨⟨seen.push i, 18, q1, q2, Nat.le_refl _, ?_, ?_, ?_, ?_, ?_, ?_⟩, Trw.rangeLeft_of q1 q2⟩
  · exact ((((((((((Trw.below_drewN (hB.alloc (by omega) X) nq).setCell (Nat.le_refl _) _).setCell (p := ⟨w.heap.size + 1 + 1 + 1, 0, none⟩) (by simp; omega) _).setCell (p := ⟨w.heap.size + 1 + 1 + 1, 1, none⟩) (by simp; omega) _).setCell (p := ⟨w.heap.size + 1 + 1 + 1, 2, none⟩) (by simp; omega) _).setCell (p := ⟨w.heap.size + 1 + 1 + 1, 3, none⟩) (by simp; omega) _).setCell
      (p := ⟨w.heap.size + 1 + 1 + 1, 4, none⟩) (by simp; omega) _).setCell (p := ⟨w.heap.size + 1 + 1 + 1, 5, none⟩) (by simp; omega) _).setCell (p := ⟨w.heap.size + 1 + 1 + 1, 6, none⟩) (by simp; omega) _).setCell (p := ⟨w.heap.size + 1 + 1 + 1, 7, none⟩) (by simp; omega) _)
  · simp; omega
  · refine ((((((((((i1.alloc X).drewN nq).set 0 _).other (by omega) _ _).other (by omega) _ _).other (by omega) _ _).other (by omega) _ _).other (by omega) _ _).other (by omega) _ _).other (by omega) _ _).other (by omega) _ _ |>.cast ?_
    rw [Trw.selK_hit (hK.trans hc), hK]; rfl
  · exact ((((((((((i2.alloc X).drewN nq).other (by omega) _ _).other (by omega) _ _).other (by omega) _ _).other (by omega) _ _).other (by omega) _ _).other (by omega) _ _).other (by omega) _ _).other (by omega) _ _).other (by omega) _ _
  · exact ((((((((((i3.alloc X).drewN nq).other (by omega) _ _).other (by omega) _ _).other (by omega) _ _).other (by omega) _ _).other (by omega) _ _).other (by omega) _ _).other (by omega) _ _).other (by omega) _ _).other (by omega) _ _
  · have q := ((((((((((i4.alloc X).drewN nq).other (m := w.heap.size) (by omega) 0 (.int .u8 c)).set 0 (.string (wordB c))).set 1 (.int .u8 (faI c))).set 2 (.bool (fbB c))).set 3 (.int .u8 (ftI c))).set 4 (.bool (fnB c))).set 5 (.int .i64 (loI c))).set 6 (.bool (seB c))).set 7 (.func (.func (96 + c)) #[] #[])
    simp only [List.setIfInBounds_toArray, List.set_cons_zero, List.set_cons_succ] at q
    rw [Trw.selK_hit (hK.trans hc), hK]
    have e : fnV c = .func (.func (96 + c)) #[] #[] := if_neg (by omega)
    rw [e]; exact q

theorem Trw.step_miss {w w2 : World} {K i b r nq : Nat} {wt : Int} {sl : Value} {seen : Array Nat} {X : Obj} (hK : K ≠ i + 1) (hb : w2.heap[b]? = some (.map kindEs 18)) (hr : w2.heap[r]? = some (.mapIter (some b) 18 (seen.push i) 18))
    (hB : Below w.heap.size w w2) (h1 : w.heap.size + 1 + 1 + 1 + 1 ≤ b) (h2 : b < r) (hl : r < w2.heap.size)
    (i1 : Is w2 w.heap.size 46 #[.int .u8 (Trw.selK K seen), .int .i64 wt, .string ⟨#[]⟩, .string ⟨#[]⟩, .string ⟨#[]⟩, .int .i64 0]) (i2 : Is w2 (w.heap.size + 1) 65 #[sl])
    (i3 : Is w2 (w.heap.size + 1 + 1) 46 #[.int .u8 0, .int .i64 0, .string ⟨#[]⟩, .string ⟨#[]⟩, .string ⟨#[]⟩, .int .i64 0])
    (i4 : Is w2 (w.heap.size + 1 + 1 + 1) 92 #[.string (wordB (Trw.selK K seen)), .int .u8 (faI (Trw.selK K seen)), .bool (fbB (Trw.selK K seen)), .int .u8 (ftI (Trw.selK K seen)), .bool (fnB (Trw.selK K seen)), .int .i64 (loI (Trw.selK K seen)), .bool (seB (Trw.selK K seen)), fnV (Trw.selK K seen)]) :
    Trw.bodyI w K wt sl b r ((w2.alloc X).drewN nq) ∧ ((w2.alloc X).drewN nq).rangeLeft b r = (leftOf kindEs (seen.push i)).size := by
  have g : ∀ m, m < w2.heap.size → ((w2.alloc X).drewN nq).heap[m]? = w2.heap[m]? := fun m hm => by
    show (w2.alloc X).heap[m]? = _
    exact heap_alloc _ _ hm
  refine ⟨⟨seen.push i, 18, (g _ (by omega)).trans hb, (g _ (by omega)).trans hr, Nat.le_refl _, Trw.below_drewN (hB.alloc (by omega) X) nq, by simp; omega, ?_, ?_, ?_, ?_⟩, Trw.rangeLeft_of ((g _ (by omega)).trans hb) ((g _ (by omega)).trans hr)⟩
  · rw [Trw.selK_miss hK]; exact (i1.alloc X).drewN nq
  · exact (i2.alloc X).drewN nq
  · exact (i3.alloc X).drewN nq
  · rw [Trw.selK_miss hK]; exact (i4.alloc X).drewN nq

theorem Trw.left_lt {seen : Array Nat} {i : Nat} (hi : i < 18) (h : seen.contains i = false) : (leftOf kindEs (seen.push i)).size < (leftOf kindEs seen).size :=
  left_shrinks kindEs seen (kindE i) (by
    simp only [leftOf, Array.toList_filter, List.mem_filter, kindEs, List.mem_map, List.mem_range]
    exact ⟨⟨i, hi, rfl⟩, by simpa [kindE] using h⟩)
end Go.Proofs
end

section
namespace Go.Proofs
open Go.RowKit Go.Trw

set_option maxRecDepth 100000 in
set_option maxHeartbeats 4000000 in
theorem Trw.body_z (u : Nat → ByteArray) (wt : Int) (B off len : Nat) (w : World) (hB : B < w.heap.size) (hc : ∀ i, i < len → w.cell? ⟨B, off + i, none⟩ = some (.string (u i))) (h1 : 1 ≤ len) (h3 : len ≤ maxLen) (hu : ∀ i, i < len → (u i).size ≤ maxLen)
    (hwt : -1 ≤ wt ∧ wt ≤ 999999999) (hs : kindOf (u 0).data.toList = 0 ∧ faI (kindOf (u 0).data.toList) = 0 ∧ fbB (kindOf (u 0).data.toList) = false ∧ ftI (kindOf (u 0).data.toList) = 0 ∧ fnB (kindOf (u 0).data.toList) = false) :
    Calls Tryz.prog 74 #[.agg #[.int .u8 0, .int .i64 wt, .string ⟨#[]⟩, .string ⟨#[]⟩, .string ⟨#[]⟩, .int .i64 0], .slice (some ⟨B, off, none⟩) len len] w (Trw.bodyP u len wt w) := by
  have HU := Lib.hid hu; clear hu
  have HS := Lib.hid hs; clear hs
  unfold maxLen at h3
  go_enter Tryz.func74, Tryz.ntmps74
  go_wp2_with (first | (go_at_call 47; refine (Trw.kinds _).mono ?_; rintro e w1 ⟨b, rfl, hb1, hb2, hb3⟩; have HB3 := Lib.hid hb3; have HB1 := Lib.hid hb1; clear hb3 hb1) | (at_range; refine wpList_range_at _ rfl _ _ rfl 44 92 Tryz.underlying83 b kindEs 18 rfl hb2 ?_))
  go_frame
  go_loopw [8] (fun _ wr => Trw.bodyI w (kindOf (u 0).data.toList) wt (.slice (some ⟨B, off, none⟩) len len) b w1.heap.size wr) (fun _ wr => wr.rangeLeft b w1.heap.size)
  case atStart =>
    have q1 := (((((Is.new w 46 #[.int .u8 0, .int .i64 wt, .string ⟨#[]⟩, .string ⟨#[]⟩, .string ⟨#[]⟩, .int .i64 0]).alloc _).alloc _).alloc _).below HB3.out (by simp; omega)).alloc (.mapIter (some b) 18 #[] 18)
    have q2 := ((((Is.new (w.alloc (.cells #[.int .u8 0, .int .i64 wt, .string ⟨#[]⟩, .string ⟨#[]⟩, .string ⟨#[]⟩, .int .i64 0] 46)) 65 #[.slice (some ⟨B, off, none⟩) len len]).alloc _).alloc _).below HB3.out (by simp)).alloc (.mapIter (some b) 18 #[] 18)
    have q3 := (((Is.new ((w.alloc (.cells #[.int .u8 0, .int .i64 wt, .string ⟨#[]⟩, .string ⟨#[]⟩, .string ⟨#[]⟩, .int .i64 0] 46)).alloc (.cells #[.slice (some ⟨B, off, none⟩) len len] 65)) 46 #[.int .u8 0, .int .i64 0, .string ⟨#[]⟩, .string ⟨#[]⟩, .string ⟨#[]⟩, .int .i64 0]).alloc _).below HB3.out (by simp)).alloc (.mapIter (some b) 18 #[] 18)
    have q4 := ((Is.new (((w.alloc (.cells #[.int .u8 0, .int .i64 wt, .string ⟨#[]⟩, .string ⟨#[]⟩, .string ⟨#[]⟩, .int .i64 0] 46)).alloc (.cells #[.slice (some ⟨B, off, none⟩) len len] 65)).alloc (.cells #[.int .u8 0, .int .i64 0, .string ⟨#[]⟩, .string ⟨#[]⟩, .string ⟨#[]⟩, .int .i64 0] 46)) 92
      #[.string ⟨#[]⟩, .int .u8 0, .bool false, .int .u8 0, .bool false, .int .i64 0, .bool false, .nilFunc]).below HB3.out (by simp)).alloc (.mapIter (some b) 18 #[] 18)
    rw [World.size_alloc] at q2
    rw [World.size_alloc, World.size_alloc] at q3
    rw [World.size_alloc, World.size_alloc, World.size_alloc] at q4
    have hbl : b < w1.heap.size := (Array.getElem?_eq_some_iff.1 hb2).1
    refine ⟨#[], 18, (Go.Trw.heap_alloc _ _ hbl).trans hb2, by show (w1.heap.push _)[w1.heap.size]? = _; simp, Nat.le_refl _, ?_, by simp, ?_, q2, q3, ?_⟩
    · exact ((((((Below.refl _ w).alloc (Nat.le_refl _) _).alloc (by simp) _).alloc (by simp; omega) _).alloc (by simp; omega) _).trans (HB3.out.mono (by simp; omega))).alloc (by have := HB3.out.size; simp at this; omega) _
    · exact q1.cast (by rw [Trw.selK_empty]; rfl)
    · exact q4.cast (by rw [Trw.selK_empty]; rfl)
  case round =>
    obtain ⟨seen, c0, m1, m2, m3, m4, m5, i1, i2, i3, i4⟩ := hrel
    have HB1' := HB1.out
    simp at HB1'
    have hbl : b < w1.heap.size := (Array.getElem?_eq_some_iff.1 hb2).1
    obtain ⟨a0, a1, a2, a3, a4, a5⟩ := i1.six
    have a6 := i2.one
    obtain ⟨d0, d1, d2, d3, d4, d5⟩ := i3.six
    obtain ⟨e0, e1, e2, e3, e4, e5, e6, e7⟩ := i4.eight
    have f1 := i1.frozen
    have f2 := i2.frozen
    have f3 := i3.frozen
    have f4 := i4.frozen
    have M1 := Lib.hid m1
    have M2 := Lib.hid m2
    have M4 := Lib.hid m4
    have I1 := Lib.hid i1
    have I2 := Lib.hid i2
    have I3 := Lib.hid i3
    have I4 := Lib.hid i4
    clear m1 m2 i1 i2 i3 i4 m4
    go_wp2_with (first | (at_next; refine wpList_next_at _ rfl _ rfl w1.heap.size b 18 c0 seen kindEs 18 rfl M2.out M1.out Trw.es_born m3 Trw.es_nodup ?_ ?_))
    · intro hD
      have hK := Trw.selK_none hD (kindOf (u 0).data.toList) (kindOf_le _)
      rw [hK] at a0 e0 e1 e2 e3 e4 e5 e6 e7
      have HD := Lib.hid hD; clear hD hK
      have hr : ∀ i, i < len → wr.cell? ⟨B, off + i, none⟩ = some (.string (u i)) := fun i hi => (M4.out.cell (p := ⟨B, off + i, none⟩) hB).trans (hc i hi)
      have HR := Lib.hid hr; clear hr
      have hl := I4.out.lt
      have hl0 : w.heap.size < wr.heap.size := by omega
      have hl1 : w.heap.size + 1 < wr.heap.size := by omega
      have hl2 : w.heap.size + 1 + 1 < wr.heap.size := by omega
      have hlB : B < wr.heap.size := by omega
      have HC := Lib.hid hc; clear hc
      have HB2 := Lib.hid hb2; clear hb2
      have hKl := kindOf_le (u 0).data.toList
      obtain ⟨K, hK⟩ : ∃ K, K = kindOf (u 0).data.toList := ⟨_, rfl⟩
      rw [← hK] at a0 e0 e1 e2 e3 e4 e5 e6 e7 hKl
      have hs := HS.out
      rw [← hK] at hs
      obtain ⟨h0, ha, hb, ht, hn⟩ := hs
      have HK := Lib.hid hK; clear hK
      rw [ha] at e1; rw [hb] at e2; rw [ht] at e3; rw [hn] at e4
      have HA := Lib.hid ha; have HBb := Lib.hid hb; have HT := Lib.hid ht; have HN := Lib.hid hn; clear ha hb ht hn
      have hz : wordB K = ⟨#[]⟩ := by rw [h0]; rfl
      rw [hz] at e0
      have H0 := Lib.hid h0
      clear h0 hz
      by_cases hlen1 : len = 1
      · subst hlen1
        go_wp2
        go_loop [9, 46] (fun m i => ∃ j : Nat, j ≤ 4 ∧ i = .int .i64 j ∧ m = .int .i64 (([false, false, false, false].take j).count true : Nat)) (fun _ i => 4 - (intOf i).toNat)
        case atStart => exact ⟨0, Nat.zero_le _, rfl, rfl⟩
        case round =>
          obtain ⟨j, hj, rfl, rfl⟩ := hrel
          obtain rfl | rfl | rfl | rfl | rfl : j = 0 ∨ j = 1 ∨ j = 2 ∨ j = 3 ∨ j = 4 := by omega
          · go_wp2; go_round; (case rel => exact ⟨1, by omega, rfl, rfl⟩); (case measure => simp [intOf])
          · go_wp2; go_round; (case rel => exact ⟨2, by omega, rfl, rfl⟩); (case measure => simp [intOf])
          · go_wp2; go_round; (case rel => exact ⟨3, by omega, rfl, rfl⟩); (case measure => simp [intOf])
          · go_wp2; go_round; (case rel => exact ⟨4, by omega, rfl, rfl⟩); (case measure => simp [intOf])
          · go_wp2
            refine bodyPost_ret (v := .tuple #[.agg #[.int .u8 0, .int .i64 0, .string ⟨#[]⟩, .string ⟨#[]⟩, .string ⟨#[]⟩, .int .i64 0], .int .i64 3]) (by simp [results, Tryz.results74, go_sem, *]) rfl (Trw.bodyP_mk HK.out HA.out HBb.out HT.out HN.out (by simp [Trw.tailS, Trw.valOf, Trw.zeroR, H0.out]) ?_); (repeat (first | (with_reducible refine Below.setCell ?_ (by first | (simp; done) | (simp; omega)) _) | (with_reducible refine Below.alloc ?_ (by first | (simp; done) | (simp; omega)) _) | (with_reducible refine Trw.below_drewN ?_ _) | (with_reducible exact M4.out)))
      · skip
        go_wp2
        go_loop [9, 46] (fun m i => ∃ j : Nat, j ≤ 4 ∧ i = .int .i64 j ∧ m = .int .i64 (([false, false, false, false].take j).count true : Nat)) (fun _ i => 4 - (intOf i).toNat)
        case atStart => exact ⟨0, Nat.zero_le _, rfl, rfl⟩
        case round =>
          obtain ⟨j, hj, rfl, rfl⟩ := hrel
          obtain rfl | rfl | rfl | rfl | rfl : j = 0 ∨ j = 1 ∨ j = 2 ∨ j = 3 ∨ j = 4 := by omega
          · go_wp2; go_round; (case rel => exact ⟨1, by omega, rfl, rfl⟩); (case measure => simp [intOf])
          · go_wp2; go_round; (case rel => exact ⟨2, by omega, rfl, rfl⟩); (case measure => simp [intOf])
          · go_wp2; go_round; (case rel => exact ⟨3, by omega, rfl, rfl⟩); (case measure => simp [intOf])
          · go_wp2; go_round; (case rel => exact ⟨4, by omega, rfl, rfl⟩); (case measure => simp [intOf])
          · go_wp2
            refine bodyPost_ret (v := .tuple #[.agg #[.int .u8 0, .int .i64 0, .string ⟨#[]⟩, .string ⟨#[]⟩, .string ⟨#[]⟩, .int .i64 0], .int .i64 3]) (by simp [results, Tryz.results74, go_sem, *]) rfl (Trw.bodyP_mk HK.out HA.out HBb.out HT.out HN.out (by simp [Trw.tailS, Trw.valOf, Trw.zeroR, H0.out]) ?_); (repeat (first | (with_reducible refine Below.setCell ?_ (by first | (simp; done) | (simp; omega)) _) | (with_reducible refine Below.alloc ?_ (by first | (simp; done) | (simp; omega)) _) | (with_reducible refine Trw.below_drewN ?_ _) | (with_reducible exact M4.out)))
    · intro e he w2 q1 q2 q3 q4 q5 q6 q7
      obtain ⟨i, hi, rfl, hi2⟩ := Trw.left_mem he
      dsimp only [kindE, kindV] at q1 q7 ⊢
      obtain ⟨c, hci⟩ : ∃ c, c = i + 1 := ⟨_, rfl⟩
      rw [← hci] at q7 ⊢
      have hfn : fnV c = .func (.func (96 + c)) #[] #[] := if_neg (by omega)
      rw [hfn] at q7 ⊢
      clear hfn
      have HCI := Lib.hid hci; clear hci
      have Q1 : Hid (w2.heap[w1.heap.size]? = some (.mapIter (some b) 18 (seen.push i) 18)) := Lib.hid q1
      have HI := Lib.hid hi2
      have HO : Hid (w2.os = wr.os ∧ w2.tape = wr.tape ∧ w2.output = wr.output ∧ w2.heap.size = wr.heap.size) := Lib.hid ⟨q2, q3, q4, q5⟩
      have Q6 := Lib.hid q6
      have hm5 : w1.heap.size < w2.heap.size := by omega
      have j1 := I1.out.of_heap (q6 _ (by omega))
      have j2 := I2.out.of_heap (q6 _ (by omega))
      have j3 := I3.out.of_heap (q6 _ (by omega))
      have j4 := I4.out.of_heap (q6 _ (by omega))
      have Hl := I4.out.lt
      have hl : w.heap.size + 1 + 1 + 1 < w2.heap.size := by omega
      clear q1 q2 q3 q4 q5 q6 he hi2 a0 a1 a2 a3 a4 a5 a6 e0 e1 e2 e3 e4 e5 e6 e7
      obtain ⟨a0, a1, a2, a3, a4, a5⟩ := j1.six
      have a6 := j2.one
      obtain ⟨e0, e1, e2, e3, e4, e5, e6, e7⟩ := j4.eight
      have f1 := j1.frozen
      have f4 := j4.frozen
      have J1 := Lib.hid j1
      have J2 := Lib.hid j2
      have J3 := Lib.hid j3
      have J4 := Lib.hid j4
      clear j1 j2 j3 j4
      have hrB : ∀ i, i < len → w2.cell? ⟨B, off + i, none⟩ = some (.string (u i)) := fun i hi => by
        rw [← hc i hi, ← M4.out.cell (p := ⟨B, off + i, none⟩) hB]
        exact cell_heap (Q6.out B (by omega)) _
      have hr0 := hrB 0 (by omega)
      rw [Nat.add_zero] at hr0
      clear hrB
      have HC := Lib.hid hc; clear hc
      have HB2 := Lib.hid hb2; clear hb2
      have hl0 : w.heap.size < w2.heap.size := by omega
      have hl1 : w.heap.size + 1 < w2.heap.size := by omega
      have hl2 : w.heap.size + 1 + 1 < w2.heap.size := by omega
      have hlB : B < w2.heap.size := by omega
      have HM1 : Hid (w2.heap[b]? = some (.map kindEs 18)) := Lib.hid (by rw [Q6.out b (by omega)]; exact M1.out)
      have HBl : Hid (Below w.heap.size w w2) := Lib.hid (Trw.below_step M4.out HO.out Q6.out (by omega))
      by_cases heq : ((wordB c).toList == (u 0).toList) = true
      · have HQ : Hid (kindOf (u 0).data.toList = c) := Lib.hid (Trw.kind_hit (by have := HCI.out; omega) (by have := HCI.out; omega) heq)
        go_wp2
        go_quiet (fail)
        go_wp2
        go_region
        all_goals
          go_roundw
          case rel =>
            (repeat apply Exists.intro)
            exact ⟨(Trw.step_hit HQ.out HCI.out HM1.out Q1.out HBl.out (by omega) (by omega) (by omega) J1.out J2.out J3.out J4.out).1, rfl⟩
          case measure =>
            rw [Trw.rangeLeft_of M1.out M2.out]
            exact Nat.lt_of_le_of_lt (Nat.le_of_eq (Trw.step_hit HQ.out HCI.out HM1.out Q1.out HBl.out (by omega) (by omega) (by omega) J1.out J2.out J3.out J4.out).2) (Trw.left_lt hi HI.out)
      · have heq' : ((wordB c).toList == (u 0).toList) = false := by simpa using heq
        clear heq
        have HQ : Hid (kindOf (u 0).data.toList ≠ i + 1) := Lib.hid (by rw [← HCI.out]; exact Trw.kind_miss (by have := HCI.out; omega) heq')
        go_wp2
        go_quiet (fail)
        go_wp2
        go_roundw
        case rel =>
          exact (Trw.step_miss HQ.out HM1.out Q1.out HBl.out (by omega) (by omega) (by omega) J1.out J2.out J3.out J4.out).1
        case measure =>
          rw [Trw.rangeLeft_of M1.out M2.out]
          exact Nat.lt_of_le_of_lt (Nat.le_of_eq (Trw.step_miss HQ.out HM1.out Q1.out HBl.out (by omega) (by omega) (by omega) J1.out J2.out J3.out J4.out).2) (Trw.left_lt hi HI.out)

end Go.Proofs
end

section
namespace Go.Proofs
open Go.RowKit Go.Trw

/-- a line without its line feed; whether it had one. -/
def Trw.cutS (s : ByteArray) : ByteArray := ⟨(Lib.trimSuffix s.data.toList [10]).toArray⟩
def Trw.cutB (s : ByteArray) : Bool := Lib.hasSuffix s.data.toList [10]
theorem Trw.cut71 (s : ByteArray) (w : World) (hs : s.size ≤ 65536) :
    Calls Tryz.prog 71 #[.string s, .string ⟨#[10]⟩] w fun e w' => e = .returned (.tuple #[.string (Trw.cutS s), .bool (Trw.cutB s)]) ∧ w' = w :=
  Tryz.strings_CutSuffix s ⟨#[10]⟩ w (by omega)
theorem Trw.cutS_size (s : ByteArray) : (Trw.cutS s).size ≤ s.size := by
  show (Lib.trimSuffix s.data.toList [10]).toArray.size ≤ s.data.size
  have : (Lib.trimSuffix s.data.toList [10]).length ≤ s.data.toList.length := by
    unfold Lib.trimSuffix
    split <;> simp
  simpa using this

def Trw.wordsB (s : ByteArray) : List ByteArray := Lib.splitB ⟨#[32]⟩ 0 (Lib.countB s ⟨#[32]⟩) s
def Trw.wordsN (s : ByteArray) : Nat := (Trw.wordsB s).length
def Trw.wordAt (s : ByteArray) (i : Nat) : ByteArray := (Trw.wordsB s).getD i ByteArray.empty
theorem Trw.wordsN_pos (s : ByteArray) : 1 ≤ Trw.wordsN s := by
  have := Lib.splitB_all ⟨#[32]⟩ (by decide) 0 _ s rfl
  unfold Trw.wordsN Trw.wordsB; omega
theorem Trw.wordsN_le (s : ByteArray) : Trw.wordsN s ≤ s.size + 1 := by
  have := Lib.splitB_all ⟨#[32]⟩ (by decide) 0 _ s rfl
  have := Lib.countB_le ⟨#[32]⟩ (by decide) s.size s (Nat.le_refl _)
  unfold Trw.wordsN Trw.wordsB; omega
theorem Trw.splitB_size (sep : ByteArray) : ∀ (k : Nat) (s : ByteArray), ∀ x ∈ Lib.splitB sep 0 k s, x.size ≤ s.size
  | 0, s, x, h => by simp [Lib.splitB] at h; rw [h]; exact Nat.le_refl _
  | k + 1, s, x, h => by
    unfold Lib.splitB at h
    split at h
    · simp at h; rw [h]; exact Nat.le_refl _
    · rcases List.mem_cons.1 h with rfl | h
      · simp; omega
      · have := Trw.splitB_size sep k _ x h
        simp at this; omega
theorem Trw.wordAt_size (s : ByteArray) (i : Nat) : (Trw.wordAt s i).size ≤ s.size := by
  unfold Trw.wordAt
  rw [List.getD_eq_getElem?_getD]
  cases h : (Trw.wordsB s)[i]? with
  | none => exact Nat.zero_le _
  | some x => exact Trw.splitB_size _ _ _ x (List.mem_of_getElem? h)
theorem Trw.split72 (s : ByteArray) (m : Int) (w : World) (hs : s.size ≤ 65536) (hm : w.cell? ⟨0, 0, none⟩ = some (.int .i64 m)) :
    Calls Tryz.prog 72 #[.string s, .string ⟨#[32]⟩] w fun e w' =>
      e = .returned (.slice (some ⟨w.heap.size, 0, none⟩) (Trw.wordsN s) (Trw.wordsN s)) ∧ w' = w.alloc (.cells ((Trw.wordsB s).map Value.string).toArray 9) := by
  refine (Tryz.strings_Split s ⟨#[32]⟩ m w (by omega) hm (by decide)).mono ?_
  rintro e w' ⟨rfl, rfl⟩
  have := Lib.splitB_all ⟨#[32]⟩ (by decide) 0 _ s rfl
  refine ⟨?_, rfl⟩
  unfold Trw.wordsN Trw.wordsB
  rw [this]
theorem Trw.words_cell (s : ByteArray) (i : Nat) (h : i < Trw.wordsN s) : (((Trw.wordsB s).map Value.string).toArray)[i]? = some (.string (Trw.wordAt s i)) := by
  unfold Trw.wordsN at h
  simp [Trw.wordAt, h, List.getD_eq_getElem?_getD]

/-- whether the line was right so far: its line feed, no empty word among the first k. -/
def Trw.accB (ok : Bool) (u : Nat → ByteArray) (k : Nat) : Bool := ok && (List.range k).all fun i => !(u i).toList.isEmpty
theorem Trw.accB_zero (ok : Bool) (u : Nat → ByteArray) : Trw.accB ok u 0 = ok := by simp [Trw.accB]
theorem Trw.accB_succ (ok : Bool) (u : Nat → ByteArray) (k : Nat) : Trw.accB ok u (k + 1) = (Trw.accB ok u k && !(u k).toList.isEmpty) := by
  simp [Trw.accB, List.range_succ, Bool.and_assoc]
theorem Trw.accB_yes {ok : Bool} {u : Nat → ByteArray} {k : Nat} (h : Trw.accB ok u k = true) : Trw.accB ok u (k + 1) = !(u k).toList.isEmpty := by rw [Trw.accB_succ, h]; rfl
theorem Trw.accB_no {ok : Bool} {u : Nat → ByteArray} {k : Nat} (h : Trw.accB ok u k = false) : Trw.accB ok u (k + 1) = false := by rw [Trw.accB_succ, h]; rfl
/-- what a line's words say. -/
def Trw.lineS (ok : Bool) (u : Nat → ByteArray) (len : Nat) : Int ⊕ Trw.RR :=
  if Trw.accB ok u len = false then .inl 3
  else if (u 0).toList = [104, 97, 114, 100] ∧ 1 < len then Trw.bodyS (fun i => u (i + 1)) (len - 1) 0
  else if (u 0).toList = [119, 101, 105, 103, 104] ∧ 2 < len then
    (if numOk (u 1).data.toList = false then .inl 3 else Trw.bodyS (fun i => u (i + 2)) (len - 2) (if numV (u 1).data.toList = 0 then -1 else numV (u 1).data.toList))
  else .inl 3
def Trw.lineP (s : ByteArray) (w : World) (e : Ending) (w' : World) : Prop := e = .returned (Trw.valOf (Trw.lineS (Trw.cutB s) (Trw.wordAt (Trw.cutS s)) (Trw.wordsN (Trw.cutS s)))) ∧ Below w.heap.size w w'

theorem Trw.lineP_mk {s s1 : ByteArray} {ok : Bool} {n : Nat} {u : Nat → ByteArray} {w w' : World} {v : Value} (h1 : s1 = Trw.cutS s) (hok : ok = Trw.cutB s) (hn : n = Trw.wordsN s1) (hu : u = Trw.wordAt s1) (hv : v = Trw.valOf (Trw.lineS ok u n)) (hB : Below w.heap.size w w') :
    Trw.lineP s w (.returned v) w' := by
  subst h1 hok hn hu hv; exact ⟨rfl, hB⟩

theorem Trw.numV_range (l : List UInt8) : 0 ≤ numV l ∧ numV l ≤ 999999999 := by
  unfold numV
  split
  · rename_i h
    simp only [numOk, Bool.and_eq_true, decide_eq_true_eq] at h
    have h1 := val_lt l h.2
    have h2 : (10:Nat) ^ l.length ≤ 10 ^ 9 := Nat.pow_le_pow_right (by omega) h.1.1.2
    omega
  · omega
end Go.Proofs
end
