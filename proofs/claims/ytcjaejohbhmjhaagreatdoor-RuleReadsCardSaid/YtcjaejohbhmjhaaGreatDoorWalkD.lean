/- The reference's tables and numbers, SameRules, and the reference's line. -/
import Derived.Test.YtcjaejohbhmjhaaGreatDoorWalkC
import Derived.OwnWalk
import Derived.Maps.AppendAt
import Derived.Test.YtcjaejohbhmjhaaGreatDoorWalkB
import Derived.Deep.RegionHeld3
import Derived.IntWalk
set_option linter.all false
set_option linter.unusedSectionVars false
set_option linter.deprecated false
section
namespace Go.Proofs
open Go.RowKit Go.Trw

theorem Trw.info9 : ∃ i0 z, Tryz.prog.info? 9 = some i0 ∧ i0.zero = some z ∧ i0.size = 1 ∧ i0.bytes = 16 ∧ z.cells.size = 1 := by
  have h : (Tryz.prog.info? 9).map (fun i => (i.zero.map (·.cells.size), i.size, i.bytes)) = some (some 1, 1, 16) := by kernel_rfl
  cases hi : Tryz.prog.info? 9 with
  | none => rw [hi] at h; simp at h
  | some i0 =>
    rw [hi] at h
    simp only [Option.map_some, Option.some.injEq, Prod.mk.injEq, Option.map_eq_some_iff] at h
    obtain ⟨⟨z, hz, hz2⟩, h2, h3⟩ := h
    exact ⟨i0, z, rfl, hz, h2, h3, hz2⟩

/-- the words of a line: what trestlekit.Words tells. -/
def Trw.wordsP (s : ByteArray) (w : World) (e : Ending) (w' : World) : Prop :=
  Below w.heap.size w w' ∧ ((Trw.accB true (Trw.wordAt s) (Trw.wordsN s) = true ∧ ∃ v, e = .returned (.tuple #[v, .bool true]) ∧ w'.ownsRow w.heap.size 9 1 v (Trw.wordsN s) ((Trw.wordsB s).map Value.string)) ∨
    (Trw.accB true (Trw.wordAt s) (Trw.wordsN s) = false ∧ e = .returned (.tuple #[.slice none 0 0, .bool false])))

def Trw.allW (l : List ByteArray) : Bool := l.all fun x => !x.toList.isEmpty
theorem Trw.acc_all (s : ByteArray) : Trw.accB true (Trw.wordAt s) (Trw.wordsN s) = Trw.allW (Trw.wordsB s) := by
  unfold Trw.accB Trw.allW Trw.wordsN Trw.wordAt
  rw [Bool.true_and, Bool.eq_iff_iff, List.all_eq_true, List.all_eq_true]
  constructor
  · intro h x hx
    obtain ⟨i, hi, rfl⟩ := List.getElem_of_mem hx
    have := h i (List.mem_range.2 hi)
    rwa [List.getD_eq_getElem?_getD, List.getElem?_eq_getElem hi] at this
  · intro h i hi
    have hi := List.mem_range.1 hi
    rw [List.getD_eq_getElem?_getD, List.getElem?_eq_getElem hi]
    exact h _ (List.getElem_mem hi)

theorem Trw.ext_empty {s : ByteArray} {a k : Nat} (h : a < k) (hk : k ≤ s.size) : (s.extract a k).toList.isEmpty = false := by
  rw [Lib.toList_data, Lib.extract_data]
  rw [List.isEmpty_eq_false_iff]
  intro e
  have := congrArg List.length e
  simp at this; omega
theorem Trw.ext_nil (s : ByteArray) (a : Nat) : (s.extract a a).toList.isEmpty = true := by
  rw [Lib.toList_data, Lib.extract_data]; simp
theorem Trw.allW_snoc (l : List ByteArray) (x : ByteArray) : Trw.allW (l ++ [x]) = (Trw.allW l && !x.toList.isEmpty) := by simp [Trw.allW]
theorem Trw.allW_no {l m : List ByteArray} {x : ByteArray} (h : x.toList.isEmpty = true) : Trw.allW (l ++ x :: m) = false := by simp [Trw.allW, h]

def Trw.wordsI (s : ByteArray) (w : World) (v : Value) (a k : Nat) (wr : World) : Prop :=
  ∃ done : List ByteArray, a ≤ k ∧ k ≤ s.size ∧ NoB s 32 a k ∧ Trw.wordsB s = done ++ Trw.wordsB (s.extract a s.size) ∧ Trw.allW done = true ∧ done.length ≤ a ∧ wr.ownsRow w.heap.size 9 1 v done.length (done.map Value.string) ∧ Below w.heap.size w wr

theorem Trw.ext_full (s : ByteArray) : s.extract 0 s.size = s := by
  apply bext; rw [Lib.extract_data]; simp [List.take_of_length_le]

set_option maxRecDepth 100000 in
set_option maxHeartbeats 2000000 in
theorem Trw.words25 (s : ByteArray) (w : World) (hs : s.size ≤ 65536) : Calls Tryz.prog 25 #[.string s] w (Trw.wordsP s w) := by
  obtain ⟨i0, z, hi, hz0, hz1, hz2, hz3⟩ := Trw.info9
  go_enter Tryz.func25, Tryz.ntmps25
  go_wp2
  go_loopw [4, 5, 6] (fun v a k wr => ∃ an kn : Nat, a = .int .i64 an ∧ k = .int .i64 kn ∧ (∃ va n c, v = .slice va n c) ∧ Trw.wordsI s w v an kn wr) (fun _ _ k _ => s.size - (intOf k).toNat)
  case atStart => exact ⟨0, 0, rfl, rfl, ⟨none, 0, 0, rfl⟩, [], Nat.le_refl _, Nat.zero_le _, NoB.nil _ _ _, by rw [Trw.ext_full]; rfl, rfl, Nat.le_refl _, ⟨rfl, .inl ⟨rfl, rfl⟩⟩, Below.refl _ _⟩
  case round =>
    obtain ⟨a, k, rfl, rfl, ⟨va, n, c, rfl⟩, done, h1, h2, h3, h4, h5, h6, hrow, hb⟩ := hrel
    have H3 := Lib.hid h3; have H4 := Lib.hid h4; have H5 := Lib.hid h5; have HR := Lib.hid hrow; have HB := Lib.hid hb
    clear h3 h4 h5 hrow hb
    by_cases hlt : k < s.size
    · by_cases hc : ((s[k].toNat : Int) == 32) = true
      · have hck : s[k] = 32 := UInt8.toNat_inj.1 (by have : (s[k].toNat : Int) = 32 := by simpa using hc
                                                      simpa using (by omega : s[k].toNat = 32))
        have HS := Lib.hid (words_step H3.out h1 hlt hck)
        clear hck
        by_cases hak : ((k : Int) == (a : Int)) = true
        · have hka : k = a := by have : (k : Int) = a := by simpa using hak
                                 omega
          have HKA := Lib.hid hka; clear hka
          go_wp2
          go_ret2
          refine ⟨HB.out, .inr ⟨?_, rfl⟩⟩
          rw [Trw.acc_all, H4.out, HS.out, HKA.out]
          exact Trw.allW_no (Trw.ext_nil s a)
        · have hak' : ((k : Int) == (a : Int)) = false := by simpa using hak
          have hlt2 : a < k := by have : ¬ (k : Int) = a := by simpa using hak
                                  omega
          go_wp2_with (first | (at_builtin; refine wpList_append_own _ rfl _ _ 65 rfl w.heap.size 9 i0 z 1 16 Tryz.underlying65 hi hz0 hz1 hz2 hz3 (by decide) _ done.length (done.map Value.string) rfl (HR.out.alloc _) ⟨wr.heap.size, 0, none⟩ 1 1 [.string (s.extract a k)] rfl rfl (cell_one_new _ _ _) (by simp [Value.oneCell']) (by unfold maxLen; omega) (by omega) (by have := HB.out.size; simp; omega) ?_; intro v' w1 hown' hgrow hnil; clear hnil; have HO := Lib.hid hown'; have HG := Lib.hid hgrow; clear hown' hgrow) | go_in)
          obtain ⟨g', cap', rfl⟩ := ownsRow_succ HO.out
          refine ⟨⟨k + 1, k + 1, by go_num, by go_num, ⟨_, _, _, rfl⟩, done ++ [s.extract a k], Nat.le_refl _, hlt, NoB.nil _ _ _, by rw [H4.out, HS.out]; simp, ?_, ?_, ?_, ?_⟩, by simp [intOf]; omega⟩
          · rw [Trw.allW_snoc, H5.out, Trw.ext_empty hlt2 (by omega)]; rfl
          · simp; omega
          · have := HO.out; simpa using this
          · exact ((HB.out.alloc (by have := HB.out.size; omega) _).grown HG.out (by have := HB.out.size; simp; omega) (fun j e => Trw.own_base HR.out j e))
      · have hc' : ((s[k].toNat : Int) == 32) = false := by simpa using hc
        have hck : ∀ h : k < s.size, s[k] ≠ 32 := fun _ e => hc (by rw [e]; rfl)
        have HN := Lib.hid (H3.out.more hck)
        clear hck
        go_wp2
        exact ⟨⟨a, k + 1, rfl, by go_num, ⟨_, _, _, rfl⟩, done, by omega, hlt, HN.out, H4.out, H5.out, h6, HR.out, HB.out⟩, by simp [intOf]; omega⟩
    · obtain rfl : k = s.size := by omega
      have HS := Lib.hid (words_last H3.out)
      by_cases ha : ((a : Int) == (s.size : Int)) = true
      · have hka : a = s.size := by have : (a : Int) = s.size := by simpa using ha
                                    omega
        have HKA := Lib.hid hka; clear hka
        go_wp2
        go_ret2
        refine ⟨HB.out, .inr ⟨?_, rfl⟩⟩
        rw [Trw.acc_all, H4.out, HS.out, HKA.out]
        exact Trw.allW_no (Trw.ext_nil s s.size)
      · have ha' : ((a : Int) == (s.size : Int)) = false := by simpa using ha
        have hlt2 : a < s.size := by have : ¬ (a : Int) = s.size := by simpa using ha
                                     omega
        go_wp2_with (first | (at_builtin; refine wpList_append_own _ rfl _ _ 65 rfl w.heap.size 9 i0 z 1 16 Tryz.underlying65 hi hz0 hz1 hz2 hz3 (by decide) _ done.length (done.map Value.string) rfl (HR.out.alloc _) ⟨wr.heap.size, 0, none⟩ 1 1 [.string (s.extract a s.size)] rfl rfl (cell_one_new _ _ _) (by simp [Value.oneCell']) (by unfold maxLen; omega) (by omega) (by have := HB.out.size; simp; omega) ?_; intro v' w1 hown' hgrow hnil; clear hnil; have HO := Lib.hid hown'; have HG := Lib.hid hgrow; clear hown' hgrow) | go_in)
        obtain ⟨g', cap', rfl⟩ := ownsRow_succ HO.out
        go_ret2
        have hwb : Trw.wordsB s = done ++ [s.extract a s.size] := by rw [H4.out, HS.out]
        refine ⟨(HB.out.alloc (by have := HB.out.size; omega) _).grown HG.out (by have := HB.out.size; simp; omega) (fun j e => Trw.own_base HR.out j e), .inl ⟨?_, _, rfl, ?_⟩⟩
        · rw [Trw.acc_all, hwb, Trw.allW_snoc, H5.out, Trw.ext_empty hlt2 (Nat.le_refl _)]; rfl
        · have := HO.out
          rw [Trw.wordsN, hwb]; simpa using this
end Go.Proofs
end

section
namespace Go.Proofs
open Go.RowKit Go.Trw

def Trw.cutV (x : ByteArray) : Value := .string (Trw.cutS x)
/-- the lines of a text, each without its line feed; whether the last has its own. -/
def Trw.linesP (s : ByteArray) (w : World) (e : Ending) (w' : World) : Prop :=
  Below w.heap.size w w' ∧ ∃ v, e = .returned (.tuple #[v, .bool ((linesB s).all Trw.cutB)]) ∧ w'.ownsRow w.heap.size 9 1 v (linesB s).length ((linesB s).map Trw.cutV)
def Trw.linesI (s : ByteArray) (w : World) (v : Value) (a k : Nat) (wr : World) : Prop :=
  ∃ done : List ByteArray, a ≤ k ∧ k ≤ s.size ∧ NoB s 10 a k ∧ linesB s = done ++ linesB (s.extract a s.size) ∧ done.all Trw.cutB = true ∧ done.length ≤ a ∧ wr.ownsRow w.heap.size 9 1 v done.length (done.map Trw.cutV) ∧ Below w.heap.size w wr

set_option maxRecDepth 100000 in
set_option maxHeartbeats 2000000 in
theorem Trw.lines24 (s : ByteArray) (w : World) (hs : s.size ≤ 65536) : Calls Tryz.prog 24 #[.string s] w (Trw.linesP s w) := by
  obtain ⟨i0, z, hi, hz0, hz1, hz2, hz3⟩ := Trw.info9
  go_enter Tryz.func24, Tryz.ntmps24
  go_wp2
  go_loopw [4, 5, 6] (fun v a k wr => ∃ an kn : Nat, a = .int .i64 an ∧ k = .int .i64 kn ∧ (∃ va n c, v = .slice va n c) ∧ Trw.linesI s w v an kn wr) (fun _ _ k _ => s.size - (intOf k).toNat)
  case atStart => exact ⟨0, 0, rfl, rfl, ⟨none, 0, 0, rfl⟩, [], Nat.le_refl _, Nat.zero_le _, NoB.nil _ _ _, by rw [Trw.ext_full]; rfl, rfl, Nat.le_refl _, ⟨rfl, .inl ⟨rfl, rfl⟩⟩, Below.refl _ _⟩
  case round =>
    obtain ⟨a, k, rfl, rfl, ⟨va, n, c, rfl⟩, done, h1, h2, h3, h4, h5, h6, hrow, hb⟩ := hrel
    have H3 := Lib.hid h3; have H4 := Lib.hid h4; have H5 := Lib.hid h5; have HR := Lib.hid hrow; have HB := Lib.hid hb
    clear h3 h4 h5 hrow hb
    by_cases hlt : k < s.size
    · by_cases hc : ((s[k].toNat : Int) == 10) = true
      · have hck : s[k] = 10 := UInt8.toNat_inj.1 (by have : (s[k].toNat : Int) = 10 := by simpa using hc
                                                      simpa using (by omega : s[k].toNat = 10))
        have HS := Lib.hid (lines_step H3.out h1 hlt hck)
        have HC := Lib.hid (cut_lf h1 hlt hck)
        clear hck
        go_wp2_with (first | (at_builtin; refine wpList_append_own _ rfl _ _ 65 rfl w.heap.size 9 i0 z 1 16 Tryz.underlying65 hi hz0 hz1 hz2 hz3 (by decide) _ done.length (done.map Trw.cutV) rfl (HR.out.alloc _) ⟨wr.heap.size, 0, none⟩ 1 1 [.string (s.extract a k)] rfl rfl (cell_one_new _ _ _) (by simp [Value.oneCell']) (by unfold maxLen; omega) (by omega) (by have := HB.out.size; simp; omega) ?_; intro v' w1 hown' hgrow hnil; clear hnil; have HO := Lib.hid hown'; have HG := Lib.hid hgrow; clear hown' hgrow) | go_in)
        obtain ⟨g', cap', rfl⟩ := ownsRow_succ HO.out
        refine ⟨⟨k + 1, k + 1, by go_num, by go_num, ⟨_, _, _, rfl⟩, done ++ [s.extract a (k + 1)], Nat.le_refl _, hlt, NoB.nil _ _ _, by rw [H4.out, HS.out]; simp, ?_, ?_, ?_, ?_⟩, by simp [intOf]; omega⟩
        · rw [List.all_append, H5.out]; simp [HC.out.2]
        · simp; omega
        · have := HO.out
          have e : Trw.cutV (s.extract a (k + 1)) = .string (s.extract a k) := by rw [Trw.cutV, HC.out.1]
          simpa [e] using this
        · exact ((HB.out.alloc (by have := HB.out.size; omega) _).grown HG.out (by have := HB.out.size; simp; omega) (fun j e => Trw.own_base HR.out j e))
      · have hc' : ((s[k].toNat : Int) == 10) = false := by simpa using hc
        have hck : ∀ h : k < s.size, s[k] ≠ 10 := fun _ e => hc (by rw [e]; rfl)
        have HN := Lib.hid (H3.out.more hck)
        clear hck
        go_wp2
        exact ⟨⟨a, k + 1, rfl, by go_num, ⟨_, _, _, rfl⟩, done, by omega, hlt, HN.out, H4.out, H5.out, h6, HR.out, HB.out⟩, by simp [intOf]; omega⟩
    · obtain rfl : k = s.size := by omega
      by_cases ha : (a : Int) < (s.size : Int)
      · have HS := Lib.hid (lines_last H3.out (by omega))
        have HC := Lib.hid (cut_last H3.out)
        go_wp2_with (first | (at_builtin; refine wpList_append_own _ rfl _ _ 65 rfl w.heap.size 9 i0 z 1 16 Tryz.underlying65 hi hz0 hz1 hz2 hz3 (by decide) _ done.length (done.map Trw.cutV) rfl (HR.out.alloc _) ⟨wr.heap.size, 0, none⟩ 1 1 [.string (s.extract a s.size)] rfl rfl (cell_one_new _ _ _) (by simp [Value.oneCell']) (by unfold maxLen; omega) (by omega) (by have := HB.out.size; simp; omega) ?_; intro v' w1 hown' hgrow hnil; clear hnil; have HO := Lib.hid hown'; have HG := Lib.hid hgrow; clear hown' hgrow) | go_in)
        obtain ⟨g', cap', rfl⟩ := ownsRow_succ HO.out
        go_ret2
        have hwb : linesB s = done ++ [s.extract a s.size] := by rw [H4.out, HS.out]
        refine ⟨(HB.out.alloc (by have := HB.out.size; omega) _).grown HG.out (by have := HB.out.size; simp; omega) (fun j e => Trw.own_base HR.out j e), .slice (some ⟨g', 0, none⟩) (done.length + 1) cap', ?_, ?_⟩
        · rw [hwb, List.all_append]
          simp [HC.out.2]
        · have := HO.out
          have e : Trw.cutV (s.extract a s.size) = .string (s.extract a s.size) := by rw [Trw.cutV, HC.out.1]
          rw [hwb]; simpa [e] using this
      · have ha' : ¬ (a : Int) < (s.size : Int) := ha
        go_wp2
        go_ret2
        have hwb : linesB s = done := by rw [H4.out, linesB_nil (by simp; omega), List.append_nil]
        have hl : done.length = n := by
          rcases HR.out.2 with ⟨e, h0⟩ | ⟨g, cap, cur, e, _⟩
          · injection e with e1 e2 e3; omega
          · injection e with e1 e2 e3; omega
        refine ⟨HB.out, .slice va n c, ?_, ?_⟩
        · rw [hwb, H5.out]; rfl
        · rw [hwb]; exact HR.out
end Go.Proofs
end

section
namespace Go.Proofs
open Go.RowKit Go.Trw

theorem Trw.cellsOf_get : ∀ (rs : List Trw.RR) (k : Nat) (r : Trw.RR), rs[k]? = some r → ∀ j, j < 6 → (Trw.cellsOf rs)[k * 6 + j]? = r.cells[j]?
  | [], k, r, h, _, _ => by simp at h
  | x :: rs, 0, r, h, j, hj => by
    simp at h; subst h
    show (x.cells ++ Trw.cellsOf rs)[0 * 6 + j]? = _
    rw [List.getElem?_append_left (by simp [Trw.RR.cells]; omega)]
    congr 1; omega
  | x :: rs, k + 1, r, h, j, hj => by
    show (x.cells ++ Trw.cellsOf rs)[(k + 1) * 6 + j]? = _
    rw [List.getElem?_append_right (by simp [Trw.RR.cells]; omega)]
    rw [← Trw.cellsOf_get rs k r (by simpa using h) j hj]
    congr 1
    simp [Trw.RR.cells]; omega
theorem Trw.row_cell {w : World} {base n cap g : Nat} {rs : List Trw.RR} (h : w.ownsRow base 46 6 (.slice (some ⟨g, 0, none⟩) n cap) rs.length (Trw.cellsOf rs)) (k : Nat) (r : Trw.RR) (hk : rs[k]? = some r) (j : Nat) (u : Value) (hj : r.cells[j]? = some u) : w.cell? ⟨g, k * 6 + j, none⟩ = some u := by
  have hj6 : j < 6 := by
    have := (List.getElem?_eq_some_iff.1 hj).1
    simpa [Trw.RR.cells] using this
  have hc := (Trw.cellsOf_get rs k r hk j hj6).trans hj
  rcases h.2 with ⟨e, _⟩ | ⟨g', cap', cur, e, _, hg, _, _, _, ht⟩
  · cases e
  · injection e with e1 e2 e3
    injection e1 with e1
    injection e1 with e1 e4 e5
    subst e1
    rw [← ht, List.getElem?_take] at hc
    split at hc
    · have : cur[k * 6 + j]? = some u := by simpa using hc
      simp [World.cell?, hg, this]
    · cases hc

set_option maxRecDepth 100000 in
set_option maxHeartbeats 2000000 in
theorem Trw.same8 (rs : List Trw.RR) (g1 c1 g2 c2 b1 b2 : Nat) (w : World) (hl : rs.length ≤ 64)
    (h1 : w.ownsRow b1 46 6 (.slice (some ⟨g1, 0, none⟩) rs.length c1) rs.length (Trw.cellsOf rs)) (h2 : w.ownsRow b2 46 6 (.slice (some ⟨g2, 0, none⟩) rs.length c2) rs.length (Trw.cellsOf rs)) :
    Calls Tryz.prog 8 #[.slice (some ⟨g1, 0, none⟩) rs.length c1, .slice (some ⟨g2, 0, none⟩) rs.length c2] w fun e w' => e = .returned (.bool true) ∧ Below w.heap.size w w' := by
  have HR1 := Lib.hid h1; have HR2 := Lib.hid h2; clear h1 h2
  go_enter Tryz.func8, Tryz.ntmps8
  go_wp2
  go_loopw [5] (fun i wr => ∃ k nn : Nat, k ≤ rs.length ∧ i = .int .i64 k ∧ wr = w.drewN nn) (fun i _ => rs.length - (intOf i).toNat)
  case atStart => exact ⟨0, 0, Nat.zero_le _, rfl, rfl⟩
  case round =>
    obtain ⟨k, nn, hk, rfl, rfl⟩ := hrel
    by_cases hlt : k < rs.length
    · obtain ⟨r, hr⟩ : ∃ r, rs[k]? = some r := ⟨rs[k], List.getElem?_eq_getElem hlt⟩
      have x0 := Trw.row_cell HR1.out k r hr 0 _ rfl
      have x1 := Trw.row_cell HR1.out k r hr 1 _ rfl
      have x2 := Trw.row_cell HR1.out k r hr 2 _ rfl
      have x3 := Trw.row_cell HR1.out k r hr 3 _ rfl
      have x4 := Trw.row_cell HR1.out k r hr 4 _ rfl
      have x5 := Trw.row_cell HR1.out k r hr 5 _ rfl
      have y0 := Trw.row_cell HR2.out k r hr 0 _ rfl
      have y1 := Trw.row_cell HR2.out k r hr 1 _ rfl
      have y2 := Trw.row_cell HR2.out k r hr 2 _ rfl
      have y3 := Trw.row_cell HR2.out k r hr 3 _ rfl
      have y4 := Trw.row_cell HR2.out k r hr 4 _ rfl
      have y5 := Trw.row_cell HR2.out k r hr 5 _ rfl
      have HR := Lib.hid hr; clear hr
      rw [Nat.add_zero] at x0 y0
      go_wp2
      go_quiet (fail)
      go_wp2
      exact ⟨⟨k + 1, nn + nq, by omega, by go_num, rfl⟩, by simp [intOf]; omega⟩
    · obtain rfl : k = rs.length := by omega
      go_wp2
      go_ret
      exact ⟨rfl, Trw.below_drewN (Below.refl _ _) _⟩

theorem Trw.same8_nil (a1 a2 : Option Addr) (c1 c2 : Nat) (w : World) :
    Calls Tryz.prog 8 #[.slice a1 0 c1, .slice a2 0 c2] w fun e w' => e = .returned (.bool true) ∧ Below w.heap.size w w' := by
  go_enter Tryz.func8, Tryz.ntmps8
  go_wp2
  go_loopw [5] (fun i wr => i = .int .i64 0 ∧ wr = w) (fun _ _ => 0)
  case atStart => exact ⟨rfl, rfl⟩
  case round =>
    obtain ⟨rfl, rfl⟩ := hrel
    go_wp2
    go_ret
    exact ⟨rfl, Below.refl _ _⟩

theorem Trw.same (rs : List Trw.RR) (v1 v2 : Value) (b1 b2 : Nat) (w : World) (hl : rs.length ≤ 64) (h1 : w.ownsRow b1 46 6 v1 rs.length (Trw.cellsOf rs)) (h2 : w.ownsRow b2 46 6 v2 rs.length (Trw.cellsOf rs)) :
    Calls Tryz.prog 8 #[v1, v2] w fun e w' => e = .returned (.bool true) ∧ Below w.heap.size w w' := by
  obtain ⟨a1, c1, e1⟩ := Trw.row_shape h1
  obtain ⟨a2, c2, e2⟩ := Trw.row_shape h2
  by_cases hn : rs.length = 0
  · rw [e1, e2, hn]; exact Trw.same8_nil _ _ _ _ _
  · rcases h1.2 with ⟨_, h0⟩ | ⟨g1, d1, _, f1, _⟩
    · exact absurd h0 hn
    · rcases h2.2 with ⟨_, h0⟩ | ⟨g2, d2, _, f2, _⟩
      · exact absurd h0 hn
      · rw [f1] at h1 ⊢; rw [f2] at h2 ⊢
        exact Trw.same8 rs g1 d1 g2 d2 b1 b2 w hl h1 h2
end Go.Proofs
end

section
namespace Go.Proofs
open Go.RowKit Go.Trw

def Trw.oneB (K : Nat) : Bool := K == 6 || K == 7 || K == 10
def Trw.tabI (K : Nat) : Int := if fbB K || K == 10 then 0 else if K == 6 || K == 7 || K == 17 then 1 else 2

set_option maxHeartbeats 4000000 in
theorem Trw.word76 (w : World) : ∀ (K : Nat), K ≤ 18 → Calls Tryz.prog 76 #[.int .u8 K] w fun e w' => e = .returned (.string (wordB K)) ∧ Below w.heap.size w w'
  | 0, _ => by
    go_enter Tryz.func76, Tryz.ntmps76
    go_wp2
    go_ret
    exact ⟨rfl, (Below.refl _ _).alloc (Nat.le_refl _) _⟩
  | 1, _ => by
    go_enter Tryz.func76, Tryz.ntmps76
    go_wp2
    go_ret
    exact ⟨rfl, (Below.refl _ _).alloc (Nat.le_refl _) _⟩
  | 2, _ => by
    go_enter Tryz.func76, Tryz.ntmps76
    go_wp2
    go_ret
    exact ⟨rfl, (Below.refl _ _).alloc (Nat.le_refl _) _⟩
  | 3, _ => by
    go_enter Tryz.func76, Tryz.ntmps76
    go_wp2
    go_ret
    exact ⟨rfl, (Below.refl _ _).alloc (Nat.le_refl _) _⟩
  | 4, _ => by
    go_enter Tryz.func76, Tryz.ntmps76
    go_wp2
    go_ret
    exact ⟨rfl, (Below.refl _ _).alloc (Nat.le_refl _) _⟩
  | 5, _ => by
    go_enter Tryz.func76, Tryz.ntmps76
    go_wp2
    go_ret
    exact ⟨rfl, (Below.refl _ _).alloc (Nat.le_refl _) _⟩
  | 6, _ => by
    go_enter Tryz.func76, Tryz.ntmps76
    go_wp2
    go_ret
    exact ⟨rfl, (Below.refl _ _).alloc (Nat.le_refl _) _⟩
  | 7, _ => by
    go_enter Tryz.func76, Tryz.ntmps76
    go_wp2
    go_ret
    exact ⟨rfl, (Below.refl _ _).alloc (Nat.le_refl _) _⟩
  | 8, _ => by
    go_enter Tryz.func76, Tryz.ntmps76
    go_wp2
    go_ret
    exact ⟨rfl, (Below.refl _ _).alloc (Nat.le_refl _) _⟩
  | 9, _ => by
    go_enter Tryz.func76, Tryz.ntmps76
    go_wp2
    go_ret
    exact ⟨rfl, (Below.refl _ _).alloc (Nat.le_refl _) _⟩
  | 10, _ => by
    go_enter Tryz.func76, Tryz.ntmps76
    go_wp2
    go_ret
    exact ⟨rfl, (Below.refl _ _).alloc (Nat.le_refl _) _⟩
  | 11, _ => by
    go_enter Tryz.func76, Tryz.ntmps76
    go_wp2
    go_ret
    exact ⟨rfl, (Below.refl _ _).alloc (Nat.le_refl _) _⟩
  | 12, _ => by
    go_enter Tryz.func76, Tryz.ntmps76
    go_wp2
    go_ret
    exact ⟨rfl, (Below.refl _ _).alloc (Nat.le_refl _) _⟩
  | 13, _ => by
    go_enter Tryz.func76, Tryz.ntmps76
    go_wp2
    go_ret
    exact ⟨rfl, (Below.refl _ _).alloc (Nat.le_refl _) _⟩
  | 14, _ => by
    go_enter Tryz.func76, Tryz.ntmps76
    go_wp2
    go_ret
    exact ⟨rfl, (Below.refl _ _).alloc (Nat.le_refl _) _⟩
  | 15, _ => by
    go_enter Tryz.func76, Tryz.ntmps76
    go_wp2
    go_ret
    exact ⟨rfl, (Below.refl _ _).alloc (Nat.le_refl _) _⟩
  | 16, _ => by
    go_enter Tryz.func76, Tryz.ntmps76
    go_wp2
    go_ret
    exact ⟨rfl, (Below.refl _ _).alloc (Nat.le_refl _) _⟩
  | 17, _ => by
    go_enter Tryz.func76, Tryz.ntmps76
    go_wp2
    go_ret
    exact ⟨rfl, (Below.refl _ _).alloc (Nat.le_refl _) _⟩
  | 18, _ => by
    go_enter Tryz.func76, Tryz.ntmps76
    go_wp2
    go_ret
    exact ⟨rfl, (Below.refl _ _).alloc (Nat.le_refl _) _⟩
  | n + 19, h => absurd h (by omega)
set_option maxHeartbeats 4000000 in
theorem Trw.two77 (w : World) : ∀ (K : Nat), K ≤ 18 → Calls Tryz.prog 77 #[.int .u8 K] w fun e w' => e = .returned (.bool (fbB K)) ∧ w = w'
  | 0, _ => by
    go_enter Tryz.func77, Tryz.ntmps77
    go_wp2
    go_ret
    exact ⟨rfl, rfl⟩
  | 1, _ => by
    go_enter Tryz.func77, Tryz.ntmps77
    go_wp2
    go_ret
    exact ⟨rfl, rfl⟩
  | 2, _ => by
    go_enter Tryz.func77, Tryz.ntmps77
    go_wp2
    go_ret
    exact ⟨rfl, rfl⟩
  | 3, _ => by
    go_enter Tryz.func77, Tryz.ntmps77
    go_wp2
    go_ret
    exact ⟨rfl, rfl⟩
  | 4, _ => by
    go_enter Tryz.func77, Tryz.ntmps77
    go_wp2
    go_ret
    exact ⟨rfl, rfl⟩
  | 5, _ => by
    go_enter Tryz.func77, Tryz.ntmps77
    go_wp2
    go_ret
    exact ⟨rfl, rfl⟩
  | 6, _ => by
    go_enter Tryz.func77, Tryz.ntmps77
    go_wp2
    go_ret
    exact ⟨rfl, rfl⟩
  | 7, _ => by
    go_enter Tryz.func77, Tryz.ntmps77
    go_wp2
    go_ret
    exact ⟨rfl, rfl⟩
  | 8, _ => by
    go_enter Tryz.func77, Tryz.ntmps77
    go_wp2
    go_ret
    exact ⟨rfl, rfl⟩
  | 9, _ => by
    go_enter Tryz.func77, Tryz.ntmps77
    go_wp2
    go_ret
    exact ⟨rfl, rfl⟩
  | 10, _ => by
    go_enter Tryz.func77, Tryz.ntmps77
    go_wp2
    go_ret
    exact ⟨rfl, rfl⟩
  | 11, _ => by
    go_enter Tryz.func77, Tryz.ntmps77
    go_wp2
    go_ret
    exact ⟨rfl, rfl⟩
  | 12, _ => by
    go_enter Tryz.func77, Tryz.ntmps77
    go_wp2
    go_ret
    exact ⟨rfl, rfl⟩
  | 13, _ => by
    go_enter Tryz.func77, Tryz.ntmps77
    go_wp2
    go_ret
    exact ⟨rfl, rfl⟩
  | 14, _ => by
    go_enter Tryz.func77, Tryz.ntmps77
    go_wp2
    go_ret
    exact ⟨rfl, rfl⟩
  | 15, _ => by
    go_enter Tryz.func77, Tryz.ntmps77
    go_wp2
    go_ret
    exact ⟨rfl, rfl⟩
  | 16, _ => by
    go_enter Tryz.func77, Tryz.ntmps77
    go_wp2
    go_ret
    exact ⟨rfl, rfl⟩
  | 17, _ => by
    go_enter Tryz.func77, Tryz.ntmps77
    go_wp2
    go_ret
    exact ⟨rfl, rfl⟩
  | 18, _ => by
    go_enter Tryz.func77, Tryz.ntmps77
    go_wp2
    go_ret
    exact ⟨rfl, rfl⟩
  | n + 19, h => absurd h (by omega)
set_option maxHeartbeats 4000000 in
theorem Trw.one78 (w : World) : ∀ (K : Nat), K ≤ 18 → Calls Tryz.prog 78 #[.int .u8 K] w fun e w' => e = .returned (.bool (Trw.oneB K)) ∧ w = w'
  | 0, _ => by
    go_enter Tryz.func78, Tryz.ntmps78
    go_wp2
    go_ret
    exact ⟨rfl, rfl⟩
  | 1, _ => by
    go_enter Tryz.func78, Tryz.ntmps78
    go_wp2
    go_ret
    exact ⟨rfl, rfl⟩
  | 2, _ => by
    go_enter Tryz.func78, Tryz.ntmps78
    go_wp2
    go_ret
    exact ⟨rfl, rfl⟩
  | 3, _ => by
    go_enter Tryz.func78, Tryz.ntmps78
    go_wp2
    go_ret
    exact ⟨rfl, rfl⟩
  | 4, _ => by
    go_enter Tryz.func78, Tryz.ntmps78
    go_wp2
    go_ret
    exact ⟨rfl, rfl⟩
  | 5, _ => by
    go_enter Tryz.func78, Tryz.ntmps78
    go_wp2
    go_ret
    exact ⟨rfl, rfl⟩
  | 6, _ => by
    go_enter Tryz.func78, Tryz.ntmps78
    go_wp2
    go_ret
    exact ⟨rfl, rfl⟩
  | 7, _ => by
    go_enter Tryz.func78, Tryz.ntmps78
    go_wp2
    go_ret
    exact ⟨rfl, rfl⟩
  | 8, _ => by
    go_enter Tryz.func78, Tryz.ntmps78
    go_wp2
    go_ret
    exact ⟨rfl, rfl⟩
  | 9, _ => by
    go_enter Tryz.func78, Tryz.ntmps78
    go_wp2
    go_ret
    exact ⟨rfl, rfl⟩
  | 10, _ => by
    go_enter Tryz.func78, Tryz.ntmps78
    go_wp2
    go_ret
    exact ⟨rfl, rfl⟩
  | 11, _ => by
    go_enter Tryz.func78, Tryz.ntmps78
    go_wp2
    go_ret
    exact ⟨rfl, rfl⟩
  | 12, _ => by
    go_enter Tryz.func78, Tryz.ntmps78
    go_wp2
    go_ret
    exact ⟨rfl, rfl⟩
  | 13, _ => by
    go_enter Tryz.func78, Tryz.ntmps78
    go_wp2
    go_ret
    exact ⟨rfl, rfl⟩
  | 14, _ => by
    go_enter Tryz.func78, Tryz.ntmps78
    go_wp2
    go_ret
    exact ⟨rfl, rfl⟩
  | 15, _ => by
    go_enter Tryz.func78, Tryz.ntmps78
    go_wp2
    go_ret
    exact ⟨rfl, rfl⟩
  | 16, _ => by
    go_enter Tryz.func78, Tryz.ntmps78
    go_wp2
    go_ret
    exact ⟨rfl, rfl⟩
  | 17, _ => by
    go_enter Tryz.func78, Tryz.ntmps78
    go_wp2
    go_ret
    exact ⟨rfl, rfl⟩
  | 18, _ => by
    go_enter Tryz.func78, Tryz.ntmps78
    go_wp2
    go_ret
    exact ⟨rfl, rfl⟩
  | n + 19, h => absurd h (by omega)
set_option maxHeartbeats 4000000 in
theorem Trw.tables79 (w : World) : ∀ (K : Nat), K ≤ 18 → Calls Tryz.prog 79 #[.int .u8 K] w fun e w' => e = .returned (.int .i64 (Trw.tabI K)) ∧ w = w'
  | 0, _ => by
    go_enter Tryz.func79, Tryz.ntmps79
    go_wp2
    go_ret
    exact ⟨rfl, rfl⟩
  | 1, _ => by
    go_enter Tryz.func79, Tryz.ntmps79
    go_wp2
    go_ret
    exact ⟨rfl, rfl⟩
  | 2, _ => by
    go_enter Tryz.func79, Tryz.ntmps79
    go_wp2
    go_ret
    exact ⟨rfl, rfl⟩
  | 3, _ => by
    go_enter Tryz.func79, Tryz.ntmps79
    go_wp2
    go_ret
    exact ⟨rfl, rfl⟩
  | 4, _ => by
    go_enter Tryz.func79, Tryz.ntmps79
    go_wp2
    go_ret
    exact ⟨rfl, rfl⟩
  | 5, _ => by
    go_enter Tryz.func79, Tryz.ntmps79
    go_wp2
    go_ret
    exact ⟨rfl, rfl⟩
  | 6, _ => by
    go_enter Tryz.func79, Tryz.ntmps79
    go_wp2
    go_ret
    exact ⟨rfl, rfl⟩
  | 7, _ => by
    go_enter Tryz.func79, Tryz.ntmps79
    go_wp2
    go_ret
    exact ⟨rfl, rfl⟩
  | 8, _ => by
    go_enter Tryz.func79, Tryz.ntmps79
    go_wp2
    go_ret
    exact ⟨rfl, rfl⟩
  | 9, _ => by
    go_enter Tryz.func79, Tryz.ntmps79
    go_wp2
    go_ret
    exact ⟨rfl, rfl⟩
  | 10, _ => by
    go_enter Tryz.func79, Tryz.ntmps79
    go_wp2
    go_ret
    exact ⟨rfl, rfl⟩
  | 11, _ => by
    go_enter Tryz.func79, Tryz.ntmps79
    go_wp2
    go_ret
    exact ⟨rfl, rfl⟩
  | 12, _ => by
    go_enter Tryz.func79, Tryz.ntmps79
    go_wp2
    go_ret
    exact ⟨rfl, rfl⟩
  | 13, _ => by
    go_enter Tryz.func79, Tryz.ntmps79
    go_wp2
    go_ret
    exact ⟨rfl, rfl⟩
  | 14, _ => by
    go_enter Tryz.func79, Tryz.ntmps79
    go_wp2
    go_ret
    exact ⟨rfl, rfl⟩
  | 15, _ => by
    go_enter Tryz.func79, Tryz.ntmps79
    go_wp2
    go_ret
    exact ⟨rfl, rfl⟩
  | 16, _ => by
    go_enter Tryz.func79, Tryz.ntmps79
    go_wp2
    go_ret
    exact ⟨rfl, rfl⟩
  | 17, _ => by
    go_enter Tryz.func79, Tryz.ntmps79
    go_wp2
    go_ret
    exact ⟨rfl, rfl⟩
  | 18, _ => by
    go_enter Tryz.func79, Tryz.ntmps79
    go_wp2
    go_ret
    exact ⟨rfl, rfl⟩
  | n + 19, h => absurd h (by omega)
set_option maxHeartbeats 4000000 in
theorem Trw.number80 (w : World) : ∀ (K : Nat), K ≤ 18 → Calls Tryz.prog 80 #[.int .u8 K] w fun e w' => e = .returned (.bool (fnB K)) ∧ w = w'
  | 0, _ => by
    go_enter Tryz.func80, Tryz.ntmps80
    go_wp2
    go_ret
    exact ⟨rfl, rfl⟩
  | 1, _ => by
    go_enter Tryz.func80, Tryz.ntmps80
    go_wp2
    go_ret
    exact ⟨rfl, rfl⟩
  | 2, _ => by
    go_enter Tryz.func80, Tryz.ntmps80
    go_wp2
    go_ret
    exact ⟨rfl, rfl⟩
  | 3, _ => by
    go_enter Tryz.func80, Tryz.ntmps80
    go_wp2
    go_ret
    exact ⟨rfl, rfl⟩
  | 4, _ => by
    go_enter Tryz.func80, Tryz.ntmps80
    go_wp2
    go_ret
    exact ⟨rfl, rfl⟩
  | 5, _ => by
    go_enter Tryz.func80, Tryz.ntmps80
    go_wp2
    go_ret
    exact ⟨rfl, rfl⟩
  | 6, _ => by
    go_enter Tryz.func80, Tryz.ntmps80
    go_wp2
    go_ret
    exact ⟨rfl, rfl⟩
  | 7, _ => by
    go_enter Tryz.func80, Tryz.ntmps80
    go_wp2
    go_ret
    exact ⟨rfl, rfl⟩
  | 8, _ => by
    go_enter Tryz.func80, Tryz.ntmps80
    go_wp2
    go_ret
    exact ⟨rfl, rfl⟩
  | 9, _ => by
    go_enter Tryz.func80, Tryz.ntmps80
    go_wp2
    go_ret
    exact ⟨rfl, rfl⟩
  | 10, _ => by
    go_enter Tryz.func80, Tryz.ntmps80
    go_wp2
    go_ret
    exact ⟨rfl, rfl⟩
  | 11, _ => by
    go_enter Tryz.func80, Tryz.ntmps80
    go_wp2
    go_ret
    exact ⟨rfl, rfl⟩
  | 12, _ => by
    go_enter Tryz.func80, Tryz.ntmps80
    go_wp2
    go_ret
    exact ⟨rfl, rfl⟩
  | 13, _ => by
    go_enter Tryz.func80, Tryz.ntmps80
    go_wp2
    go_ret
    exact ⟨rfl, rfl⟩
  | 14, _ => by
    go_enter Tryz.func80, Tryz.ntmps80
    go_wp2
    go_ret
    exact ⟨rfl, rfl⟩
  | 15, _ => by
    go_enter Tryz.func80, Tryz.ntmps80
    go_wp2
    go_ret
    exact ⟨rfl, rfl⟩
  | 16, _ => by
    go_enter Tryz.func80, Tryz.ntmps80
    go_wp2
    go_ret
    exact ⟨rfl, rfl⟩
  | 17, _ => by
    go_enter Tryz.func80, Tryz.ntmps80
    go_wp2
    go_ret
    exact ⟨rfl, rfl⟩
  | 18, _ => by
    go_enter Tryz.func80, Tryz.ntmps80
    go_wp2
    go_ret
    exact ⟨rfl, rfl⟩
  | n + 19, h => absurd h (by omega)
end Go.Proofs
end

section
namespace Go.Proofs
open Go.RowKit Go.Trw

theorem Trw.S_after {wr W w1 : World} {a : Addr} {v : Value} (hS : W.cell? a = some v) (hb : Below wr.heap.size wr W) (hb1 : Below W.heap.size W w1) (ha : a.block < wr.heap.size) : w1.cell? a = some v ∧ Below wr.heap.size wr w1 :=
  ⟨(hb1.cell (Nat.lt_of_lt_of_le ha hb.size)).trans hS, hb.trans (hb1.mono hb.size)⟩
def Trw.selJ (K j : Nat) : Nat := if K ≠ 0 ∧ K < j then K else 0
def Trw.rlineI (w : World) (K : Nat) (wt : Int) (j : Nat) (wr : World) : Prop :=
  Is wr w.heap.size 46 #[.int .u8 0, .int .i64 0, .string ⟨#[]⟩, .string ⟨#[]⟩, .string ⟨#[]⟩, .int .i64 0] ∧ Is wr (w.heap.size + 1) 46 #[.int .u8 (Trw.selJ K j), .int .i64 wt, .string ⟨#[]⟩, .string ⟨#[]⟩, .string ⟨#[]⟩, .int .i64 0] ∧ Below w.heap.size w wr
theorem Trw.selJ_one (K : Nat) : Trw.selJ K 1 = 0 := by unfold Trw.selJ; split <;> omega
theorem Trw.selJ_end (K : Nat) (h : K ≤ 18) : Trw.selJ K 19 = K := by unfold Trw.selJ; split <;> omega
theorem Trw.selJ_hit {K j : Nat} (h : K = j) (hj : 1 ≤ j) : Trw.selJ K (j + 1) = j := by unfold Trw.selJ; split <;> omega
theorem Trw.selJ_miss {K j : Nat} (h : K ≠ j) : Trw.selJ K (j + 1) = Trw.selJ K j := by unfold Trw.selJ; split <;> split <;> omega
theorem Trw.rlineI_start (wt : Int) (K : Nat) (w : World) : Trw.rlineI w K wt 1 ((w.alloc (.cells #[.int .u8 0, .int .i64 0, .string ⟨#[]⟩, .string ⟨#[]⟩, .string ⟨#[]⟩, .int .i64 0] 46)).alloc (.cells #[.int .u8 0, .int .i64 wt, .string ⟨#[]⟩, .string ⟨#[]⟩, .string ⟨#[]⟩, .int .i64 0] 46)) := by
  refine ⟨(Is.new w 46 _).alloc _, ?_, ((Below.refl _ w).alloc (Nat.le_refl _) _).alloc (by simp) _⟩
  have := Is.new (w.alloc (.cells #[.int .u8 0, .int .i64 0, .string ⟨#[]⟩, .string ⟨#[]⟩, .string ⟨#[]⟩, .int .i64 0] 46)) 46 #[.int .u8 0, .int .i64 wt, .string ⟨#[]⟩, .string ⟨#[]⟩, .string ⟨#[]⟩, .int .i64 0]
  rw [World.size_alloc] at this
  rw [Trw.selJ_one]; exact this
theorem Trw.rlineI_hit {w w1 : World} {K j : Nat} {wt : Int} (hK : K = j) (i1 : Is w1 w.heap.size 46 #[.int .u8 0, .int .i64 0, .string ⟨#[]⟩, .string ⟨#[]⟩, .string ⟨#[]⟩, .int .i64 0])
    (i2 : Is w1 (w.heap.size + 1) 46 #[.int .u8 (Trw.selJ K j), .int .i64 wt, .string ⟨#[]⟩, .string ⟨#[]⟩, .string ⟨#[]⟩, .int .i64 0]) (hb : Below w.heap.size w w1) (hj : 1 ≤ j) :
    Trw.rlineI w K wt (j + 1) (w1.setCell ⟨w.heap.size + 1, 0, none⟩ (.int .u8 j)) := by
  refine ⟨i1.other (by omega) _ _, ?_, hb.setCell (by show w.heap.size ≤ w.heap.size + 1; omega) _⟩
  rw [Trw.selJ_hit hK hj]
  exact (i2.set 0 (.int .u8 j)).cast rfl
theorem Trw.rlineI_miss {w w1 : World} {K j : Nat} {wt : Int} (hK : K ≠ j) (i1 : Is w1 w.heap.size 46 #[.int .u8 0, .int .i64 0, .string ⟨#[]⟩, .string ⟨#[]⟩, .string ⟨#[]⟩, .int .i64 0])
    (i2 : Is w1 (w.heap.size + 1) 46 #[.int .u8 (Trw.selJ K j), .int .i64 wt, .string ⟨#[]⟩, .string ⟨#[]⟩, .string ⟨#[]⟩, .int .i64 0]) (hb : Below w.heap.size w w1) : Trw.rlineI w K wt (j + 1) w1 := by
  refine ⟨i1, ?_, hb⟩
  rw [Trw.selJ_miss hK]; exact i2

def Trw.rlineP (u : Nat → ByteArray) (n : Nat) (w : World) (e : Ending) (w' : World) : Prop :=
  Below w.heap.size w w' ∧ ((∃ e0 x y z : Int, Trw.lineS true u n = .inl e0 ∧ e = .returned (.tuple #[.agg #[.int .u8 x, .int .i64 y, .string ⟨#[]⟩, .string ⟨#[]⟩, .string ⟨#[]⟩, .int .i64 z], .int .i64 e0])) ∨ ∃ r, Trw.lineS true u n = .inr r ∧ e = .returned (.tuple #[r.val, .int .i64 0]))
theorem Trw.rlineP_err {u : Nat → ByteArray} {n : Nat} {w w' : World} {v : Value} {e0 x y z : Int} (h : Trw.lineS true u n = .inl e0) (hv : v = .tuple #[.agg #[.int .u8 x, .int .i64 y, .string ⟨#[]⟩, .string ⟨#[]⟩, .string ⟨#[]⟩, .int .i64 z], .int .i64 e0]) (hb : Below w.heap.size w w') :
    Trw.rlineP u n w (.returned v) w' := ⟨hb, .inl ⟨e0, x, y, z, h, by rw [hv]⟩⟩
theorem Trw.rlineP_ok {u : Nat → ByteArray} {n : Nat} {w w' : World} {v : Value} {r : Trw.RR} (h : Trw.lineS true u n = .inr r) (hv : v = .tuple #[r.val, .int .i64 0]) (hb : Below w.heap.size w w') :
    Trw.rlineP u n w (.returned v) w' := ⟨hb, .inr ⟨r, h, by rw [hv]⟩⟩

theorem Trw.line_hard (u : Nat → ByteArray) (n : Nat) (ha : Trw.accB true u n = true) (hh : (u 0).toList = [104, 97, 114, 100]) (h1 : 1 < n) :
    Trw.lineS true u n = Trw.tailS (kindOf (u 1).data.toList) (faI (kindOf (u 1).data.toList)) (fbB (kindOf (u 1).data.toList)) (ftI (kindOf (u 1).data.toList)) (fnB (kindOf (u 1).data.toList)) (fun i => u (i + 1)) (n - 1) 0 := by
  unfold Trw.lineS
  rw [if_neg (by simp [ha]), if_pos ⟨hh, h1⟩]
  rfl
theorem Trw.line_weigh (u : Nat → ByteArray) (n : Nat) (ha : Trw.accB true u n = true) (hh : (u 0).toList = [119, 101, 105, 103, 104]) (h1 : 2 < n) (hnum : numOk (u 1).data.toList = true) :
    Trw.lineS true u n = Trw.tailS (kindOf (u 2).data.toList) (faI (kindOf (u 2).data.toList)) (fbB (kindOf (u 2).data.toList)) (ftI (kindOf (u 2).data.toList)) (fnB (kindOf (u 2).data.toList)) (fun i => u (i + 2)) (n - 2) (if numV (u 1).data.toList = 0 then -1 else numV (u 1).data.toList) := by
  unfold Trw.lineS
  rw [if_neg (by simp [ha]), if_neg (by rw [hh]; simp), if_pos ⟨hh, h1⟩, if_neg (by simp [hnum])]
  rfl

theorem Trw.shape2_0 : ∀ K, K ≤ 18 → K ≠ 0 → faI K = 103 → fbB K = true → ftI K = 0 → fnB K = true → Trw.oneB K = false ∧ Trw.tabI K = 0 ∧ ((K : Int) == 17) = false ∧ ((K : Int) == 10) = false := by
  intro K h h0 h1 h2 h3 h4
  have hh := List.all_eq_true.1 (show ((List.range 19).all fun K => K == 0 || (!(faI K == 103) || (!(fbB K == true) || (!(ftI K == 0) || (!(fnB K == true) || (Trw.oneB K == false && (Trw.tabI K == 0 && ((((K : Int) == 17) == false) && (((K : Int) == 10) == false)))))))))  = true by decide) K (List.mem_range.2 (by omega))
  have h0' : (K == 0) = false := by simpa using h0
  rw [h0', h1, h2, h3, h4] at hh
  simp only [beq_self_eq_true, Bool.not_true, Bool.false_or, Bool.and_eq_true] at hh
  exact ⟨eq_of_beq hh.1, eq_of_beq hh.2.1, eq_of_beq hh.2.2.1, eq_of_beq hh.2.2.2⟩
theorem Trw.shape2_1 : ∀ K, K ≤ 18 → K ≠ 0 → faI K = 103 → fbB K = true → ftI K = 0 → fnB K = false → Trw.oneB K = false ∧ Trw.tabI K = 0 ∧ ((K : Int) == 17) = false ∧ ((K : Int) == 10) = false := by
  intro K h h0 h1 h2 h3 h4
  have hh := List.all_eq_true.1 (show ((List.range 19).all fun K => K == 0 || (!(faI K == 103) || (!(fbB K == true) || (!(ftI K == 0) || (!(fnB K == false) || (Trw.oneB K == false && (Trw.tabI K == 0 && ((((K : Int) == 17) == false) && (((K : Int) == 10) == false)))))))))  = true by decide) K (List.mem_range.2 (by omega))
  have h0' : (K == 0) = false := by simpa using h0
  rw [h0', h1, h2, h3, h4] at hh
  simp only [beq_self_eq_true, Bool.not_true, Bool.false_or, Bool.and_eq_true] at hh
  exact ⟨eq_of_beq hh.1, eq_of_beq hh.2.1, eq_of_beq hh.2.2.1, eq_of_beq hh.2.2.2⟩
theorem Trw.shape2_2 : ∀ K, K ≤ 18 → K ≠ 0 → faI K = 103 → fbB K = false → ftI K = 116 → fnB K = false → Trw.oneB K = true ∧ Trw.tabI K = 1 ∧ ((K : Int) == 17) = false ∧ ((K : Int) == 10) = false := by
  intro K h h0 h1 h2 h3 h4
  have hh := List.all_eq_true.1 (show ((List.range 19).all fun K => K == 0 || (!(faI K == 103) || (!(fbB K == false) || (!(ftI K == 116) || (!(fnB K == false) || (Trw.oneB K == true && (Trw.tabI K == 1 && ((((K : Int) == 17) == false) && (((K : Int) == 10) == false)))))))))  = true by decide) K (List.mem_range.2 (by omega))
  have h0' : (K == 0) = false := by simpa using h0
  rw [h0', h1, h2, h3, h4] at hh
  simp only [beq_self_eq_true, Bool.not_true, Bool.false_or, Bool.and_eq_true] at hh
  exact ⟨eq_of_beq hh.1, eq_of_beq hh.2.1, eq_of_beq hh.2.2.1, eq_of_beq hh.2.2.2⟩
theorem Trw.shape2_3 : ∀ K, K ≤ 18 → K ≠ 0 → faI K = 103 → fbB K = false → ftI K = 116 → fnB K = true → Trw.oneB K = true ∧ Trw.tabI K = 1 ∧ ((K : Int) == 17) = false ∧ ((K : Int) == 10) = false := by
  intro K h h0 h1 h2 h3 h4
  have hh := List.all_eq_true.1 (show ((List.range 19).all fun K => K == 0 || (!(faI K == 103) || (!(fbB K == false) || (!(ftI K == 116) || (!(fnB K == true) || (Trw.oneB K == true && (Trw.tabI K == 1 && ((((K : Int) == 17) == false) && (((K : Int) == 10) == false)))))))))  = true by decide) K (List.mem_range.2 (by omega))
  have h0' : (K == 0) = false := by simpa using h0
  rw [h0', h1, h2, h3, h4] at hh
  simp only [beq_self_eq_true, Bool.not_true, Bool.false_or, Bool.and_eq_true] at hh
  exact ⟨eq_of_beq hh.1, eq_of_beq hh.2.1, eq_of_beq hh.2.2.1, eq_of_beq hh.2.2.2⟩
theorem Trw.shape2_4 : ∀ K, K ≤ 18 → K ≠ 0 → faI K = 0 → fbB K = false → ftI K = 101 → fnB K = false → Trw.oneB K = false ∧ Trw.tabI K = 2 ∧ ((K : Int) == 17) = false ∧ ((K : Int) == 10) = false := by
  intro K h h0 h1 h2 h3 h4
  have hh := List.all_eq_true.1 (show ((List.range 19).all fun K => K == 0 || (!(faI K == 0) || (!(fbB K == false) || (!(ftI K == 101) || (!(fnB K == false) || (Trw.oneB K == false && (Trw.tabI K == 2 && ((((K : Int) == 17) == false) && (((K : Int) == 10) == false)))))))))  = true by decide) K (List.mem_range.2 (by omega))
  have h0' : (K == 0) = false := by simpa using h0
  rw [h0', h1, h2, h3, h4] at hh
  simp only [beq_self_eq_true, Bool.not_true, Bool.false_or, Bool.and_eq_true] at hh
  exact ⟨eq_of_beq hh.1, eq_of_beq hh.2.1, eq_of_beq hh.2.2.1, eq_of_beq hh.2.2.2⟩
theorem Trw.shape2_5 : ∀ K, K ≤ 18 → K ≠ 0 → faI K = 101 → fbB K = false → ftI K = 0 → fnB K = false → Trw.oneB K = true ∧ Trw.tabI K = 0 ∧ ((K : Int) == 17) = false ∧ ((K : Int) == 10) = true := by
  intro K h h0 h1 h2 h3 h4
  have hh := List.all_eq_true.1 (show ((List.range 19).all fun K => K == 0 || (!(faI K == 101) || (!(fbB K == false) || (!(ftI K == 0) || (!(fnB K == false) || (Trw.oneB K == true && (Trw.tabI K == 0 && ((((K : Int) == 17) == false) && (((K : Int) == 10) == true)))))))))  = true by decide) K (List.mem_range.2 (by omega))
  have h0' : (K == 0) = false := by simpa using h0
  rw [h0', h1, h2, h3, h4] at hh
  simp only [beq_self_eq_true, Bool.not_true, Bool.false_or, Bool.and_eq_true] at hh
  exact ⟨eq_of_beq hh.1, eq_of_beq hh.2.1, eq_of_beq hh.2.2.1, eq_of_beq hh.2.2.2⟩
theorem Trw.shape2_6 : ∀ K, K ≤ 18 → K ≠ 0 → faI K = 0 → fbB K = false → ftI K = 101 → fnB K = true → Trw.oneB K = false ∧ Trw.tabI K = 2 ∧ ((K : Int) == 17) = false ∧ ((K : Int) == 10) = false := by
  intro K h h0 h1 h2 h3 h4
  have hh := List.all_eq_true.1 (show ((List.range 19).all fun K => K == 0 || (!(faI K == 0) || (!(fbB K == false) || (!(ftI K == 101) || (!(fnB K == true) || (Trw.oneB K == false && (Trw.tabI K == 2 && ((((K : Int) == 17) == false) && (((K : Int) == 10) == false)))))))))  = true by decide) K (List.mem_range.2 (by omega))
  have h0' : (K == 0) = false := by simpa using h0
  rw [h0', h1, h2, h3, h4] at hh
  simp only [beq_self_eq_true, Bool.not_true, Bool.false_or, Bool.and_eq_true] at hh
  exact ⟨eq_of_beq hh.1, eq_of_beq hh.2.1, eq_of_beq hh.2.2.1, eq_of_beq hh.2.2.2⟩
theorem Trw.shape2_7 : ∀ K, K ≤ 18 → K ≠ 0 → faI K = 100 → fbB K = false → ftI K = 116 → fnB K = false → Trw.oneB K = false ∧ Trw.tabI K = 1 ∧ ((K : Int) == 17) = true ∧ ((K : Int) == 10) = false := by
  intro K h h0 h1 h2 h3 h4
  have hh := List.all_eq_true.1 (show ((List.range 19).all fun K => K == 0 || (!(faI K == 100) || (!(fbB K == false) || (!(ftI K == 116) || (!(fnB K == false) || (Trw.oneB K == false && (Trw.tabI K == 1 && ((((K : Int) == 17) == true) && (((K : Int) == 10) == false)))))))))  = true by decide) K (List.mem_range.2 (by omega))
  have h0' : (K == 0) = false := by simpa using h0
  rw [h0', h1, h2, h3, h4] at hh
  simp only [beq_self_eq_true, Bool.not_true, Bool.false_or, Bool.and_eq_true] at hh
  exact ⟨eq_of_beq hh.1, eq_of_beq hh.2.1, eq_of_beq hh.2.2.1, eq_of_beq hh.2.2.2⟩

/-! ### the names -/
def Trw.nmDash2 (s : ByteArray) : Bool := s.toList == [45]
theorem Trw.nmDash_is {s : ByteArray} {em b : Bool} (h : Trw.nmDash2 s = b) : nmDash s.data.toList em = (b && em) := by
  unfold nmDash
  rw [← h, Trw.nmDash2, Lib.toList_data]
def Trw.nmI (w : World) (NL : List Value) (OKL : List Bool) (c2 : Array Value) (j : Nat) (v : Value) (wr : World) : Prop :=
  (∃ va c, v = .slice va j c) ∧ wr.ownsRow (w.heap.size + 2) 9 1 v j (NL.take j) ∧ (OKL.take j).all id = true ∧ Is wr w.heap.size 46 #[.int .u8 0, .int .i64 0, .string ⟨#[]⟩, .string ⟨#[]⟩, .string ⟨#[]⟩, .int .i64 0] ∧ Is wr (w.heap.size + 1) 46 c2 ∧ w.heap.size + 2 ≤ wr.heap.size ∧ Below w.heap.size w wr
theorem Trw.nmI_step {w wr w5 : World} {NL : List Value} {OKL : List Bool} {c2 : Array Value} {j c g' c' : Nat} {va : Option Addr} {C : Obj} {x : ByteArray} {ok : Bool}
    (hrow : wr.ownsRow (w.heap.size + 2) 9 1 (.slice va j c) j (NL.take j)) (hown : w5.ownsRow (w.heap.size + 2) 9 1 (.slice (some ⟨g', 0, none⟩) (j + 1) c') (j + 1) (NL.take j ++ [.string x])) (hg : (wr.alloc C).grownBy w5 (Value.slice va j c).ownBlock)
    (hok : (OKL.take j).all id = true) (i1 : Is wr w.heap.size 46 #[.int .u8 0, .int .i64 0, .string ⟨#[]⟩, .string ⟨#[]⟩, .string ⟨#[]⟩, .int .i64 0]) (i2 : Is wr (w.heap.size + 1) 46 c2) (hsz : w.heap.size + 2 ≤ wr.heap.size) (hb : Below w.heap.size w wr)
    {y : Value} (hy : NL[j]? = some y) (hxy : y = .string x) {b : Bool} (hb1 : OKL[j]? = some b) (hb2 : b = ok) (hok1 : ok = true := by rfl) :
    Trw.nmI w NL OKL c2 (j + 1) (.slice (some ⟨g', 0, none⟩) (j + 1) c') w5 := by
  have hne : ∀ k, k < w.heap.size + 2 → some k ≠ (Value.slice va j c).ownBlock := fun k hk e => by have := Trw.own_base hrow _ e.symm; omega
  have h1 := hg.size
  refine ⟨⟨_, _, rfl⟩, ?_, ?_, Trw.Is_grown (i1.alloc _) hg (hne _ (by omega)), Trw.Is_grown (i2.alloc _) hg (hne _ (by omega)), by simp at h1; omega, (hb.alloc (by omega) _).grown hg (by simp; omega) (fun k e => by have := Trw.own_base hrow k e; omega)⟩
  · rw [List.take_add_one, hy, hxy]; exact hown
  · rw [List.take_add_one, List.all_append, hok, hb1, hb2, hok1]; rfl
theorem Trw.row1_cell {w : World} {base e n cap g : Nat} {xs : List Value} (h : w.ownsRow base e 1 (.slice (some ⟨g, 0, none⟩) n cap) n xs) (k : Nat) (u : Value) (hk : xs[k]? = some u) : w.cell? ⟨g, k, none⟩ = some u := by
  rcases h.2 with ⟨e, _⟩ | ⟨g', cap', cur, e, _, hg, _, _, _, ht⟩
  · cases e
  · injection e with e1 e2 e3
    injection e1 with e1
    injection e1 with e1 e4 e5
    subst e1
    rw [← ht, List.getElem?_take] at hk
    split at hk
    · have : cur[k]? = some u := by simpa using hk
      simp [World.cell?, hg, this]
    · cases hk
theorem Trw.oks {l : List Bool} {n : Nat} (h : (l.take n).all id = true) : ∀ b ∈ l.take n, b = true := fun b hb => List.all_eq_true.1 h b hb
end Go.Proofs
end

section
namespace Go.Proofs
open Go.RowKit Go.Trw

theorem Trw.kind_ne {j K : Nat} {s : ByteArray} (hK : K = kindOf s.data.toList) (h0 : K = 0) (h1 : 1 ≤ j) (h2 : j ≤ 18) : ((wordB j).toList == s.toList) = false := by
  rw [Bool.eq_false_iff]
  intro e
  have := Trw.kind_hit h1 h2 e
  omega

set_option maxRecDepth 100000 in
set_option maxHeartbeats 40000000 in
theorem Trw.rl_hz (u : Nat → ByteArray) (B n cap : Nat) (w : World) (hB : B < w.heap.size) (hc : ∀ i, i < n → w.cell? ⟨B, i, none⟩ = some (.string (u i))) (h1 : 1 < n) (h2 : n ≤ cap) (h3 : cap ≤ maxLen) (hu : ∀ i, i < n → (u i).size ≤ maxLen)
    (hacc : Trw.accB true u n = true) (hh : (u 0).toList = [104, 97, 114, 100]) (hs : kindOf (u 1).data.toList = 0) :
    Calls Tryz.prog 26 #[.slice (some ⟨B, 0, none⟩) n cap] w (Trw.rlineP u n w) := by
  unfold maxLen at h3
  have hline := Trw.line_hard u n hacc hh h1
  have hh1 : ((u 0).toList == [104, 97, 114, 100]) = true := by simpa using hh
  have hh2 : ((u 0).toList == [119, 101, 105, 103, 104]) = false := by rw [hh]; decide
  have HU := Lib.hid hu; clear hu
  have HA := Lib.hid hacc; clear hacc
  have c0 := hc 0 (by omega)
  have HH := Lib.hid hh; clear hh
  have HC := Lib.hid hc; clear hc
  obtain ⟨K, hK⟩ : ∃ K, K = kindOf (u 1).data.toList := ⟨_, rfl⟩
  rw [← hK] at hline hs
  have hKl : K ≤ 18 := by rw [hK]; exact kindOf_le _
  have HL := Lib.hid hline; clear hline
  have H0 := Lib.hid hs
  have HK := Lib.hid hK; clear hK hs
  go_enter Tryz.func26, Tryz.ntmps26
  go_wp2 
  go_loopw [8] (fun k wr => ∃ j : Nat, 1 ≤ j ∧ j ≤ 19 ∧ k = .int .i64 j ∧ Trw.rlineI w K 0 j wr) (fun k _ => 19 - (intOf k).toNat)
  case atStart => exact ⟨1, Nat.le_refl _, by omega, rfl, Trw.rlineI_start 0 K w⟩
  case round =>
    obtain ⟨j, hj1, hj2, rfl, i1, i2, hb⟩ := hrel
    have I1 := Lib.hid i1; have I2 := Lib.hid i2; have HB := Lib.hid hb
    have l1 := i1.lt
    have l2 := i2.lt
    have x1 := (HB.out.cell (p := ⟨B, 1, none⟩) hB).trans (HC.out 1 (by omega))
    have hBr : B < wr.heap.size := Nat.lt_of_lt_of_le hB HB.out.size
    clear i1 i2 hb c0
    by_cases hj : j ≤ 18
    · have hwr : IntKind.u8.wrap (j : Int) = j := IntWalk.u8_in _ (by omega)
      have hj0 : (0 : Int) ≤ j := by omega
      have x1d : wr.drew.cell? ⟨B, 1, none⟩ = some (.string (u 1)) := x1
      have hbd : Below wr.heap.size wr wr.drew := (Below.refl _ _).drew
      go_wp2
      go_region_held3 (fun w' => w'.cell? ⟨B, 1, none⟩ = some (.string (u 1)) ∧ Below wr.heap.size wr w') (first | (refine ⟨?_, ?_⟩ <;> assumption) | (refine Trw.S_after ?_ ?_ hb1 hBr <;> assumption))
        (first | (go_at_call 76; refine (Trw.word76 _ j hj).mono ?_; rintro e w1 ⟨rfl, hb1⟩))
      have hH : Below wr.heap.size wr w1 := And.right (by assumption)
      have HBN := Lib.hid (HB.out.trans (hH.mono HB.out.size))
      have i1 := I1.out.below hH l1
      have i2 := I2.out.below hH l2
      obtain ⟨a0, a1, a2, a3, a4, a5⟩ := i2.six
      have f2 := i2.frozen
      have J1 := Lib.hid i1; have J2 := Lib.hid i2
      clear i1 i2 hH hbd x1d x1 hb1
      go_wp2
      · have heq : ((wordB j).toList == (u 1).toList) = true := by assumption
        have HQ : Hid (K = j) := Lib.hid (by rw [HK.out]; exact Trw.kind_hit hj1 hj heq)
        go_roundw
        case rel => exact ⟨j + 1, by omega, by omega, by go_num, Trw.rlineI_hit HQ.out J1.out J2.out HBN.out (by omega)⟩
        case measure => simp [intOf]; omega
      · have heq' : ((wordB j).toList == (u 1).toList) = false := by assumption
        have HQ : Hid (K ≠ j) := Lib.hid (by rw [HK.out]; exact Trw.kind_miss hj1 heq')
        go_roundw
        case rel => exact ⟨j + 1, by omega, by omega, by go_num, Trw.rlineI_miss HQ.out J1.out J2.out HBN.out⟩
        case measure => simp [intOf]; omega
    · obtain rfl : j = 19 := by omega
      rw [Trw.selJ_end K hKl] at I2
      have hz := H0.out
      subst hz
      have hz1 : wordB 0 = ⟨#[]⟩ := rfl
      obtain ⟨a0, a1, a2, a3, a4, a5⟩ := I2.out.six
      go_wp2_with (first | (go_at_call 76; refine (Trw.word76 _ 0 (by omega)).mono ?_; rintro e w2 ⟨he, hb2⟩; rw [hz1] at he; subst he; have K1 := I1.out.below hb2 l1; have K2 := I2.out.below hb2 l2; obtain ⟨b0, b1, b2, b3, b4, b5⟩ := K2.six; obtain ⟨e0, e1, e2, e3, e4, e5⟩ := K1.six; have f1 := K1.frozen; have HB2 := Lib.hid (HB.out.trans (hb2.mono HB.out.size)); clear K1 K2 hb2))
      all_goals (refine bodyPost_ret (v := .tuple #[.agg #[.int .u8 0, .int .i64 0, .string ⟨#[]⟩, .string ⟨#[]⟩, .string ⟨#[]⟩, .int .i64 0], .int .i64 3]) (by simp [results, Tryz.results26, go_sem, *]) rfl (Trw.rlineP_err (e0 := 3) (by rw [HL.out]; simp [Trw.tailS]) rfl ?_); (repeat (first | (with_reducible refine Below.setCell ?_ (by first | (simp; done) | (simp; omega)) _) | (with_reducible exact HB2.out))))

set_option maxRecDepth 100000 in
set_option maxHeartbeats 40000000 in
theorem Trw.rl_wz (u : Nat → ByteArray) (B n cap : Nat) (w : World) (hB : B < w.heap.size) (hc : ∀ i, i < n → w.cell? ⟨B, i, none⟩ = some (.string (u i))) (h1 : 2 < n) (h2 : n ≤ cap) (h3 : cap ≤ maxLen) (hu : ∀ i, i < n → (u i).size ≤ maxLen)
    (hacc : Trw.accB true u n = true) (hh : (u 0).toList = [119, 101, 105, 103, 104]) (hnum1 : numOk (u 1).data.toList = true) (hs : kindOf (u 2).data.toList = 0) :
    Calls Tryz.prog 26 #[.slice (some ⟨B, 0, none⟩) n cap] w (Trw.rlineP u n w) := by
  unfold maxLen at h3
  have hline := Trw.line_weigh u n hacc hh h1 hnum1
  have hh2 : ((u 0).toList == [119, 101, 105, 103, 104]) = true := by simpa using hh
  obtain ⟨nv, hnv⟩ : ∃ nv, nv = numV (u 1).data.toList := ⟨_, rfl⟩
  have hnr := Trw.numV_range (u 1).data.toList
  have hnum0 := Trw.num75 (u 1)
  rw [← hnv] at hline hnr hnum0
  obtain ⟨hnr1, hnr2⟩ := hnr
  have HNV := Lib.hid hnv; clear hnv
  have HNU := Lib.hid hnum0; clear hnum0
  have gw := hu 1 (by omega)
  have cw := hc 1 (by omega)
  have HU := Lib.hid hu; clear hu
  have HA := Lib.hid hacc; clear hacc
  have c0 := hc 0 (by omega)
  have HH := Lib.hid hh; clear hh
  have HC := Lib.hid hc; clear hc
  obtain ⟨K, hK⟩ : ∃ K, K = kindOf (u 2).data.toList := ⟨_, rfl⟩
  rw [← hK] at hline hs
  have hKl : K ≤ 18 := by rw [hK]; exact kindOf_le _
  have HL := Lib.hid hline; clear hline
  have H0 := Lib.hid hs
  have HK := Lib.hid hK; clear hK hs
  go_enter Tryz.func26, Tryz.ntmps26
  go_wp2_with (first | (go_at_call 75; refine (HNU.out _ gw).mono ?_; rintro e w' ⟨rfl, rfl⟩) | go_in)
  go_loopw [8] (fun k wr => ∃ j : Nat, 1 ≤ j ∧ j ≤ 19 ∧ k = .int .i64 j ∧ Trw.rlineI w K nv j wr) (fun k _ => 19 - (intOf k).toNat)
  case atStart => exact ⟨1, Nat.le_refl _, by omega, rfl, Trw.rlineI_start nv K w⟩
  case round =>
    obtain ⟨j, hj1, hj2, rfl, i1, i2, hb⟩ := hrel
    have I1 := Lib.hid i1; have I2 := Lib.hid i2; have HB := Lib.hid hb
    have l1 := i1.lt
    have l2 := i2.lt
    have x1 := (HB.out.cell (p := ⟨B, 2, none⟩) hB).trans (HC.out 2 (by omega))
    have hBr : B < wr.heap.size := Nat.lt_of_lt_of_le hB HB.out.size
    clear i1 i2 hb c0
    by_cases hj : j ≤ 18
    · have hwr : IntKind.u8.wrap (j : Int) = j := IntWalk.u8_in _ (by omega)
      have hj0 : (0 : Int) ≤ j := by omega
      have x1d : wr.drew.cell? ⟨B, 2, none⟩ = some (.string (u 2)) := x1
      have hbd : Below wr.heap.size wr wr.drew := (Below.refl _ _).drew
      go_wp2
      go_region_held3 (fun w' => w'.cell? ⟨B, 2, none⟩ = some (.string (u 2)) ∧ Below wr.heap.size wr w') (first | (refine ⟨?_, ?_⟩ <;> assumption) | (refine Trw.S_after ?_ ?_ hb1 hBr <;> assumption))
        (first | (go_at_call 76; refine (Trw.word76 _ j hj).mono ?_; rintro e w1 ⟨rfl, hb1⟩))
      have hH : Below wr.heap.size wr w1 := And.right (by assumption)
      have HBN := Lib.hid (HB.out.trans (hH.mono HB.out.size))
      have i1 := I1.out.below hH l1
      have i2 := I2.out.below hH l2
      obtain ⟨a0, a1, a2, a3, a4, a5⟩ := i2.six
      have f2 := i2.frozen
      have J1 := Lib.hid i1; have J2 := Lib.hid i2
      clear i1 i2 hH hbd x1d x1 hb1
      go_wp2
      · have heq : ((wordB j).toList == (u 2).toList) = true := by assumption
        have HQ : Hid (K = j) := Lib.hid (by rw [HK.out]; exact Trw.kind_hit hj1 hj heq)
        go_roundw
        case rel => exact ⟨j + 1, by omega, by omega, by go_num, Trw.rlineI_hit HQ.out J1.out J2.out HBN.out (by omega)⟩
        case measure => simp [intOf]; omega
      · have heq' : ((wordB j).toList == (u 2).toList) = false := by assumption
        have HQ : Hid (K ≠ j) := Lib.hid (by rw [HK.out]; exact Trw.kind_miss hj1 heq')
        go_roundw
        case rel => exact ⟨j + 1, by omega, by omega, by go_num, Trw.rlineI_miss HQ.out J1.out J2.out HBN.out⟩
        case measure => simp [intOf]; omega
    · obtain rfl : j = 19 := by omega
      rw [Trw.selJ_end K hKl] at I2
      have hz := H0.out
      subst hz
      have hz1 : wordB 0 = ⟨#[]⟩ := rfl
      obtain ⟨a0, a1, a2, a3, a4, a5⟩ := I2.out.six
      go_wp2_with (first | (go_at_call 76; refine (Trw.word76 _ 0 (by omega)).mono ?_; rintro e w2 ⟨he, hb2⟩; rw [hz1] at he; subst he; have K1 := I1.out.below hb2 l1; have K2 := I2.out.below hb2 l2; obtain ⟨b0, b1, b2, b3, b4, b5⟩ := K2.six; obtain ⟨e0, e1, e2, e3, e4, e5⟩ := K1.six; have f1 := K1.frozen; have HB2 := Lib.hid (HB.out.trans (hb2.mono HB.out.size)); clear K1 K2 hb2))
      all_goals (refine bodyPost_ret (v := .tuple #[.agg #[.int .u8 0, .int .i64 nv, .string ⟨#[]⟩, .string ⟨#[]⟩, .string ⟨#[]⟩, .int .i64 0], .int .i64 3]) (by simp [results, Tryz.results26, go_sem, *]) rfl (Trw.rlineP_err (e0 := 3) (by rw [HL.out]; simp [Trw.tailS]) rfl ?_); (repeat (first | (with_reducible refine Below.setCell ?_ (by first | (simp; done) | (simp; omega)) _) | (with_reducible exact HB2.out))))

theorem Trw.lineS_bad {u : Nat → ByteArray} {n : Nat} (ha : Trw.accB true u n = true) (hh : ¬ ((u 0).toList = [104, 97, 114, 100] ∧ 1 < n)) (hw : ¬ ((u 0).toList = [119, 101, 105, 103, 104] ∧ 2 < n)) : Trw.lineS true u n = .inl 3 := by
  unfold Trw.lineS
  rw [if_neg (by simp [ha]), if_neg hh, if_neg hw]
theorem Trw.lineS_num {u : Nat → ByteArray} {n : Nat} (ha : Trw.accB true u n = true) (hh : ¬ ((u 0).toList = [104, 97, 114, 100] ∧ 1 < n)) (hnum : numOk (u 1).data.toList = false) : Trw.lineS true u n = .inl 3 := by
  unfold Trw.lineS
  rw [if_neg (by simp [ha]), if_neg hh]
  simp [hnum]

set_option maxRecDepth 100000 in
set_option maxHeartbeats 4000000 in
/-- hard, and nothing behind it. -/
theorem Trw.rl_h1w (u : Nat → ByteArray) (B n cap : Nat) (w : World) (hB : B < w.heap.size) (hc : ∀ i, i < n → w.cell? ⟨B, i, none⟩ = some (.string (u i))) (h1 : n = 1) (h2 : n ≤ cap) (h3 : cap ≤ maxLen)
    (hacc : Trw.accB true u n = true) (hh : (u 0).toList = [104, 97, 114, 100]) :
    Calls Tryz.prog 26 #[.slice (some ⟨B, 0, none⟩) n cap] w (Trw.rlineP u n w) := by
  have HL := Lib.hid (Trw.lineS_bad hacc (by omega) (by omega))
  subst h1
  have c0 := hc 0 (by omega)
  have hh1 : ((u 0).toList == [104, 97, 114, 100]) = true := by simpa using hh
  have hh2 : ((u 0).toList == [119, 101, 105, 103, 104]) = false := by rw [hh]; decide
  clear hh hacc hc
  go_enter Tryz.func26, Tryz.ntmps26
  go_wp2
  refine bodyPost_ret (v := .tuple #[.agg #[.int .u8 0, .int .i64 0, .string ⟨#[]⟩, .string ⟨#[]⟩, .string ⟨#[]⟩, .int .i64 0], .int .i64 3]) (by simp [results, Tryz.results26, go_sem, *]) rfl (Trw.rlineP_err (e0 := 3) ?_ rfl ?_)
  · exact HL.out
  · (repeat (first | (with_reducible refine Below.setCell ?_ (by first | (simp; done) | (simp; omega)) _) | (with_reducible refine Below.alloc ?_ (by first | omega | (simp; done) | (simp; omega)) _) | (with_reducible exact Below.refl _ _)))

set_option maxRecDepth 100000 in
set_option maxHeartbeats 4000000 in
/-- neither hard nor weigh. -/
theorem Trw.rl_no (u : Nat → ByteArray) (B n cap : Nat) (w : World) (hB : B < w.heap.size) (hc : ∀ i, i < n → w.cell? ⟨B, i, none⟩ = some (.string (u i))) (h1 : 1 ≤ n) (h2 : n ≤ cap) (h3 : cap ≤ maxLen)
    (hacc : Trw.accB true u n = true) (hh : (u 0).toList ≠ [104, 97, 114, 100]) (hw : (u 0).toList ≠ [119, 101, 105, 103, 104]) :
    Calls Tryz.prog 26 #[.slice (some ⟨B, 0, none⟩) n cap] w (Trw.rlineP u n w) := by
  have HL := Lib.hid (Trw.lineS_bad hacc (fun h => hh h.1) (fun h => hw h.1))
  have c0 := hc 0 (by omega)
  have hh1 : ((u 0).toList == [104, 97, 114, 100]) = false := by simpa using hh
  have hh2 : ((u 0).toList == [119, 101, 105, 103, 104]) = false := by simpa using hw
  have hh3 : ((u 0).toList != [104, 97, 114, 100]) = true := by simpa using hh
  clear hh hw hacc hc
  unfold maxLen at h3
  go_enter Tryz.func26, Tryz.ntmps26
  go_wp2
  refine bodyPost_ret (v := .tuple #[.agg #[.int .u8 0, .int .i64 0, .string ⟨#[]⟩, .string ⟨#[]⟩, .string ⟨#[]⟩, .int .i64 0], .int .i64 3]) (by simp [results, Tryz.results26, go_sem, *]) rfl (Trw.rlineP_err (e0 := 3) ?_ rfl ?_)
  · exact HL.out
  · (repeat (first | (with_reducible refine Below.setCell ?_ (by first | (simp; done) | (simp; omega)) _) | (with_reducible refine Below.alloc ?_ (by first | omega | (simp; done) | (simp; omega)) _) | (with_reducible exact Below.refl _ _)))

set_option maxRecDepth 100000 in
set_option maxHeartbeats 4000000 in
/-- weigh, alone. -/
theorem Trw.rl_wone (u : Nat → ByteArray) (B n cap : Nat) (w : World) (hB : B < w.heap.size) (hc : ∀ i, i < n → w.cell? ⟨B, i, none⟩ = some (.string (u i))) (h1 : n = 1) (h2 : n ≤ cap) (h3 : cap ≤ maxLen)
    (hacc : Trw.accB true u n = true) (hw : (u 0).toList = [119, 101, 105, 103, 104]) :
    Calls Tryz.prog 26 #[.slice (some ⟨B, 0, none⟩) n cap] w (Trw.rlineP u n w) := by
  have HL := Lib.hid (Trw.lineS_bad hacc (by omega) (by omega))
  subst h1
  have c0 := hc 0 (by omega)
  have hh1 : ((u 0).toList == [104, 97, 114, 100]) = false := by rw [hw]; decide
  have hh3 : ((u 0).toList != [104, 97, 114, 100]) = true := by rw [hw]; decide
  have hh2 : ((u 0).toList == [119, 101, 105, 103, 104]) = true := by simpa using hw
  clear hw hacc hc
  go_enter Tryz.func26, Tryz.ntmps26
  go_wp2
  refine bodyPost_ret (v := .tuple #[.agg #[.int .u8 0, .int .i64 0, .string ⟨#[]⟩, .string ⟨#[]⟩, .string ⟨#[]⟩, .int .i64 0], .int .i64 3]) (by simp [results, Tryz.results26, go_sem, *]) rfl (Trw.rlineP_err (e0 := 3) ?_ rfl ?_)
  · exact HL.out
  · (repeat (first | (with_reducible refine Below.setCell ?_ (by first | (simp; done) | (simp; omega)) _) | (with_reducible refine Below.alloc ?_ (by first | omega | (simp; done) | (simp; omega)) _) | (with_reducible exact Below.refl _ _)))

set_option maxRecDepth 100000 in
set_option maxHeartbeats 4000000 in
/-- weigh, and a number that is none; or nothing behind the number. -/
theorem Trw.rl_wtwo (u : Nat → ByteArray) (B n cap : Nat) (w : World) (hB : B < w.heap.size) (hc : ∀ i, i < n → w.cell? ⟨B, i, none⟩ = some (.string (u i))) (h1 : 1 < n) (h2 : n ≤ cap) (h3 : cap ≤ maxLen) (hu : ∀ i, i < n → (u i).size ≤ maxLen)
    (hacc : Trw.accB true u n = true) (hw : (u 0).toList = [119, 101, 105, 103, 104]) (hq : numOk (u 1).data.toList = false ∨ n = 2) :
    Calls Tryz.prog 26 #[.slice (some ⟨B, 0, none⟩) n cap] w (Trw.rlineP u n w) := by
  have hnh : ¬ ((u 0).toList = [104, 97, 114, 100] ∧ 1 < n) := by rw [hw]; simp
  have g1 := hu 1 (by omega)
  have c0 := hc 0 (by omega)
  have c1 := hc 1 (by omega)
  have hh2 : ((u 0).toList == [119, 101, 105, 103, 104]) = true := by simpa using hw
  unfold maxLen at h3
  rcases Trw.bcases (numOk (u 1).data.toList) with hn | hn
  · have hn2 : n = 2 := hq.resolve_left (by simp [hn])
    have HL := Lib.hid (Trw.lineS_bad hacc hnh (by omega))
    subst hn2
    clear hw hacc hc hnh hq hu
    obtain ⟨nv, hnv⟩ : ∃ nv, nv = numV (u 1).data.toList := ⟨_, rfl⟩
    have hnum0 := Trw.num75 (u 1)
    rw [← hnv] at hnum0
    have HNU := Lib.hid hnum0; clear hnum0 hnv
    go_enter Tryz.func26, Tryz.ntmps26
    go_wp2_with (first | (go_at_call 75; refine (HNU.out _ g1).mono ?_; rintro e w' ⟨rfl, rfl⟩) | go_in)
    refine bodyPost_ret (v := .tuple #[.agg #[.int .u8 0, .int .i64 nv, .string ⟨#[]⟩, .string ⟨#[]⟩, .string ⟨#[]⟩, .int .i64 0], .int .i64 3]) (by simp [results, Tryz.results26, go_sem, *]) rfl (Trw.rlineP_err (e0 := 3) ?_ rfl ?_)
    · exact HL.out
    · (repeat (first | (with_reducible refine Below.setCell ?_ (by first | (simp; done) | (simp; omega)) _) | (with_reducible refine Below.alloc ?_ (by first | omega | (simp; done) | (simp; omega)) _) | (with_reducible exact Below.refl _ _)))
  · have HL := Lib.hid (Trw.lineS_num hacc hnh hn)
    clear hw hacc hc hnh hq hu
    go_enter Tryz.func26, Tryz.ntmps26
    go_wp2_with (first | (go_at_call 75; refine (Trw.num75 _ _ g1).mono ?_; rintro e w' ⟨rfl, rfl⟩) | go_in)
    refine bodyPost_ret (v := .tuple #[.agg #[.int .u8 0, .int .i64 0, .string ⟨#[]⟩, .string ⟨#[]⟩, .string ⟨#[]⟩, .int .i64 0], .int .i64 3]) (by simp [results, Tryz.results26, go_sem, *]) rfl (Trw.rlineP_err (e0 := 3) ?_ rfl ?_)
    · exact HL.out
    · (repeat (first | (with_reducible refine Below.setCell ?_ (by first | (simp; done) | (simp; omega)) _) | (with_reducible refine Below.alloc ?_ (by first | omega | (simp; done) | (simp; omega)) _) | (with_reducible exact Below.refl _ _)))
end Go.Proofs
end
