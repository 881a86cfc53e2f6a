/- The reference's Parse, and the law's function returns true at every text. -/
import Derived.Test.YtcjaejohbhmjhaaGreatDoorWalkD
import Derived.Test.YtcjaejohbhmjhaaGreatDoorRefA
import Derived.Test.YtcjaejohbhmjhaaGreatDoorRefB
import Derived.Test.YtcjaejohbhmjhaaGreatDoorRefC
import Derived.Test.YtcjaejohbhmjhaaGreatDoorRefD
import Derived.Test.YtcjaejohbhmjhaaGreatDoorRefE
import Derived.Test.YtcjaejohbhmjhaaGreatDoorRefF
import Derived.Test.YtcjaejohbhmjhaaGreatDoorRefG
import Derived.Test.YtcjaejohbhmjhaaGreatDoorRefH
import Derived.Test.YtcjaejohbhmjhaaGreatDoorWalkC
import Derived.Test.YtcjaejohbhmjhaaGreatDoorLitA
import Derived.Test.YtcjaejohbhmjhaaGreatDoorLitB
import Derived.Test.YtcjaejohbhmjhaaGreatDoorEvalD
set_option linter.all false
set_option linter.unusedSectionVars false
set_option linter.deprecated false
section
namespace Go.Proofs
open Go.RowKit Go.Trw

theorem Trw.rline26 (u : Nat → ByteArray) (B n cap : Nat) (w : World) (hB : B < w.heap.size) (hc : ∀ i, i < n → w.cell? ⟨B, i, none⟩ = some (.string (u i))) (h1 : 1 ≤ n) (h2 : n ≤ cap) (h3 : cap ≤ maxLen) (hu : ∀ i, i < n → (u i).size ≤ maxLen)
    (hacc : Trw.accB true u n = true) : Calls Tryz.prog 26 #[.slice (some ⟨B, 0, none⟩) n cap] w (Trw.rlineP u n w) := by
  by_cases hh : (u 0).toList = [104, 97, 114, 100]
  · by_cases hn : n = 1
    · exact Trw.rl_h1w u B n cap w hB hc hn h2 h3 hacc hh
    · have hn1 : 1 < n := by omega
      rcases Trw.shape (kindOf (u 1).data.toList) (kindOf_le _) with h | h | h | h | h | h | h | h | h
      · exact Trw.rl_hz u B n cap w hB hc hn1 h2 h3 hu hacc hh h.1
      · exact Trw.rl_h0 u B n cap w hB hc hn1 h2 h3 hu hacc hh h
      · exact Trw.rl_h1 u B n cap w hB hc hn1 h2 h3 hu hacc hh h
      · exact Trw.rl_h2 u B n cap w hB hc hn1 h2 h3 hu hacc hh h
      · exact Trw.rl_h3 u B n cap w hB hc hn1 h2 h3 hu hacc hh h
      · exact Trw.rl_h4 u B n cap w hB hc hn1 h2 h3 hu hacc hh h
      · exact Trw.rl_h5 u B n cap w hB hc hn1 h2 h3 hu hacc hh h
      · exact Trw.rl_h6 u B n cap w hB hc hn1 h2 h3 hu hacc hh h
      · exact Trw.rl_h7 u B n cap w hB hc hn1 h2 h3 hu hacc hh h
  · by_cases hw : (u 0).toList = [119, 101, 105, 103, 104]
    · by_cases hn : n = 1
      · exact Trw.rl_wone u B n cap w hB hc hn h2 h3 hacc hw
      · by_cases hq : numOk (u 1).data.toList = false ∨ n = 2
        · exact Trw.rl_wtwo u B n cap w hB hc (by omega) h2 h3 hu hacc hw hq
        · have hn2 : 2 < n := by
            have : n ≠ 2 := fun e => hq (.inr e)
            omega
          have hnum : numOk (u 1).data.toList = true := by
            cases h : numOk (u 1).data.toList
            · exact absurd (.inl h) hq
            · rfl
          rcases Trw.shape (kindOf (u 2).data.toList) (kindOf_le _) with h | h | h | h | h | h | h | h | h
          · exact Trw.rl_wz u B n cap w hB hc hn2 h2 h3 hu hacc hw hnum h.1
          · exact Trw.rl_w0 u B n cap w hB hc hn2 h2 h3 hu hacc hw hnum h
          · exact Trw.rl_w1 u B n cap w hB hc hn2 h2 h3 hu hacc hw hnum h
          · exact Trw.rl_w2 u B n cap w hB hc hn2 h2 h3 hu hacc hw hnum h
          · exact Trw.rl_w3 u B n cap w hB hc hn2 h2 h3 hu hacc hw hnum h
          · exact Trw.rl_w4 u B n cap w hB hc hn2 h2 h3 hu hacc hw hnum h
          · exact Trw.rl_w5 u B n cap w hB hc hn2 h2 h3 hu hacc hw hnum h
          · exact Trw.rl_w6 u B n cap w hB hc hn2 h2 h3 hu hacc hw hnum h
          · exact Trw.rl_w7 u B n cap w hB hc hn2 h2 h3 hu hacc hw hnum h
    · exact Trw.rl_no u B n cap w hB hc h1 h2 h3 hacc hh hw
end Go.Proofs
end

section
namespace Go.Proofs
open Go.RowKit Go.Trw

theorem Trw.linesF_cut : ∀ (f : Nat) (s : ByteArray) (k : Nat) (x : ByteArray), (linesF f s)[k]? = some x → k + 1 < (linesF f s).length → Trw.cutB x = true
  | 0, s, k, x, h, _ => by simp [linesF] at h
  | f + 1, s, k, x, h, hk => by
    unfold linesF at h hk
    split at h
    · simp at h
    · rename_i hs0
      rw [if_neg hs0] at hk
      split at h
      · rename_i hi
        rw [if_pos hi] at hk
        simp at hk
      · rename_i hi
        rw [if_neg hi] at hk
        cases k with
        | zero =>
          simp at h
          subst h
          have hlt := lfAt_lt s (by omega)
          have hat0 : lfAt s = ((lfAt s).toNat : Int) := by omega
          have hat := (Lib.indexByte_some (l := s.data.toList) (c := 10) (o := (lfAt s).toNat) hat0).1
          have hc : s[(lfAt s).toNat] = 10 := by
            rw [List.getElem?_eq_getElem (by simpa using hlt)] at hat
            injection hat
          exact (cut_lf (a := 0) (Nat.zero_le _) hlt hc).2
        | succ k =>
          exact Trw.linesF_cut f _ k x (by simpa using h) (by simp at hk; omega)
theorem Trw.lines_cut (s : ByteArray) (k : Nat) (x : ByteArray) (h : (linesB s)[k]? = some x) (hk : k + 1 < (linesB s).length) : Trw.cutB x = true := Trw.linesF_cut _ s k x h hk
theorem Trw.lines_last {s : ByteArray} {k : Nat} {x : ByteArray} (h : (linesB s)[k]? = some x) (hc : Trw.cutB x = false) : k + 1 = (linesB s).length ∧ (linesB s).all Trw.cutB = false := by
  have hlt := (List.getElem?_eq_some_iff.1 h).1
  constructor
  · by_cases hk : k + 1 < (linesB s).length
    · rw [Trw.lines_cut s k x h hk] at hc; cases hc
    · omega
  · rw [Bool.eq_false_iff]
    intro e
    have := List.all_eq_true.1 e x (List.mem_of_getElem? h)
    rw [this] at hc; cases hc
theorem Trw.lines_more {s : ByteArray} {k : Nat} {x : ByteArray} (h : (linesB s)[k]? = some x) (hc : Trw.cutB x = true) : (linesB s).all Trw.cutB = true ∨ k + 1 ≠ (linesB s).length := by
  by_cases hk : k + 1 = (linesB s).length
  · left
    rw [List.all_eq_true]
    intro y hy
    obtain ⟨j, hj, rfl⟩ := List.getElem_of_mem hy
    by_cases hjk : j = k
    · subst hjk
      rw [List.getElem?_eq_getElem hj] at h
      injection h with h
      rw [h]; exact hc
    · exact Trw.lines_cut s j _ (List.getElem?_eq_getElem hj) (by omega)
  · exact .inr hk

theorem Trw.lineR_no {x : ByteArray} (h : (Trw.cutB x && Trw.accB true (Trw.wordAt (Trw.cutS x)) (Trw.wordsN (Trw.cutS x))) = false) : Trw.lineR x = .inl 3 := by
  unfold Trw.lineR Trw.lineS
  have : Trw.accB (Trw.cutB x) (Trw.wordAt (Trw.cutS x)) (Trw.wordsN (Trw.cutS x)) = false := by
    rw [← h]; simp [Trw.accB]
  rw [if_pos this]
theorem Trw.lineR_yes {x : ByteArray} (h : Trw.cutB x = true) : Trw.lineR x = Trw.lineS true (Trw.wordAt (Trw.cutS x)) (Trw.wordsN (Trw.cutS x)) := by
  unfold Trw.lineR; rw [h]
theorem Trw.linesF_len : ∀ (f : Nat) (s : ByteArray), (linesF f s).length ≤ f
  | 0, _ => Nat.le_refl _
  | f + 1, s => by
    unfold linesF
    split
    · simp
    · split
      · simp
      · simp [Trw.linesF_len f _]
theorem Trw.lines_len (s : ByteArray) : (linesB s).length ≤ s.size := Trw.linesF_len _ s

def Trw.rparseI (s : ByteArray) (w1 : World) (k : Nat) (v : Value) (wr : World) : Prop :=
  ∃ rs : List Trw.RR, ((linesB s).take k).map Trw.lineR = rs.map Sum.inr ∧ rs.length = k ∧ k ≤ 64 ∧ (∃ va c, v = .slice va k c) ∧ wr.ownsRow w1.heap.size 46 6 v rs.length (Trw.cellsOf rs) ∧ Below w1.heap.size w1 wr

theorem Trw.rp_err {s : ByteArray} {k : Nat} {x : ByteArray} {rs : List Trw.RR} {e : Int} (hs : s.size ≤ 65536) (h : ((linesB s).take k).map Trw.lineR = rs.map Sum.inr) (hk : rs.length = k) (h64 : k ≤ 64) (hx : (linesB s)[k]? = some x) (hr : Trw.lineR x = .inl e) : Trw.parseS s = (e, k, []) := by
  have hsp : linesB s = (linesB s).take k ++ [x] ++ (linesB s).drop (k + 1) := by
    conv => lhs; rw [← List.take_append_drop k (linesB s)]
    rw [List.append_assoc]
    congr 1
    have hlt := (List.getElem?_eq_some_iff.1 hx).1
    rw [List.drop_eq_getElem_cons hlt]
    rw [List.getElem?_eq_getElem hlt] at hx
    injection hx with hx
    rw [hx]; rfl
  unfold Trw.parseS
  rw [if_neg (by omega), Trw.runL_bad (s := s) h (by omega) hr _ hsp.symm, hk]
theorem Trw.rp_many {s : ByteArray} {x : ByteArray} {rs : List Trw.RR} {r : Trw.RR} (hs : s.size ≤ 65536) (h : ((linesB s).take 64).map Trw.lineR = rs.map Sum.inr) (hk : rs.length = 64) (hx : (linesB s)[64]? = some x) (hr : Trw.lineR x = .inr r) : Trw.parseS s = (7, 64, []) := by
  have hsp : linesB s = (linesB s).take 64 ++ [x] ++ (linesB s).drop 65 := by
    conv => lhs; rw [← List.take_append_drop 64 (linesB s)]
    rw [List.append_assoc]
    congr 1
    have hlt := (List.getElem?_eq_some_iff.1 hx).1
    rw [List.drop_eq_getElem_cons hlt]
    rw [List.getElem?_eq_getElem hlt] at hx
    injection hx with hx
    rw [hx]; rfl
  unfold Trw.parseS
  rw [if_neg (by omega), Trw.runL_many (s := s) h hk hr _ hsp.symm]

theorem Trw.rline_inl {u : Nat → ByteArray} {n : Nat} {w w' : World} {e : Ending} {e0 : Int} (h : Trw.rlineP u n w e w') (hr : Trw.lineS true u n = .inl e0) : ∃ x y z : Int, e = .returned (.tuple #[.agg #[.int .u8 x, .int .i64 y, .string ⟨#[]⟩, .string ⟨#[]⟩, .string ⟨#[]⟩, .int .i64 z], .int .i64 e0]) := by
  rcases h.2 with ⟨e1, x, y, z, g, rfl⟩ | ⟨r, g, rfl⟩
  · rw [hr] at g; injection g with g; subst g; exact ⟨_, _, _, rfl⟩
  · rw [hr] at g; cases g
theorem Trw.rline_inr {u : Nat → ByteArray} {n : Nat} {w w' : World} {e : Ending} {r : Trw.RR} (h : Trw.rlineP u n w e w') (hr : Trw.lineS true u n = .inr r) : e = .returned (.tuple #[.agg #[.int .u8 r.k, .int .i64 r.wt, .string r.a, .string r.b, .string r.t, .int .i64 r.n], .int .i64 0]) := by
  rcases h.2 with ⟨e1, x, y, z, g, rfl⟩ | ⟨r', g, rfl⟩
  · rw [hr] at g; cases g
  · rw [hr] at g; injection g with g; subst g; rfl
theorem Trw.own_form {w : World} {base : Nat} {e : TypeId} {v : Value} {n : Nat} {xs : List Value} (h : w.ownsRow base e 1 v n xs) (hn : 0 < n) : ∃ g cap, v = .slice (some ⟨g, 0, none⟩) n cap ∧ base ≤ g ∧ g < w.heap.size ∧ n ≤ cap ∧ cap ≤ maxLen := by
  rcases h.2 with ⟨_, h0⟩ | ⟨g, cap, cur, hv, hb, hg, h1, h2, _⟩
  · omega
  · exact ⟨g, cap, hv, hb, (Array.getElem?_eq_some_iff.1 hg).1, h1, h2⟩
theorem Trw.words_no {s : ByteArray} {w' : World} {B : Nat} {e : Ending} (h : (Trw.accB true (Trw.wordAt s) (Trw.wordsN s) = true ∧ ∃ v, e = .returned (.tuple #[v, .bool true]) ∧ w'.ownsRow B 9 1 v (Trw.wordsN s) ((Trw.wordsB s).map Value.string)) ∨
    (Trw.accB true (Trw.wordAt s) (Trw.wordsN s) = false ∧ e = .returned (.tuple #[.slice none 0 0, .bool false]))) (ha : Trw.accB true (Trw.wordAt s) (Trw.wordsN s) = false) : e = .returned (.tuple #[.slice none 0 0, .bool false]) := by
  rcases h with ⟨h, _⟩ | ⟨_, h⟩
  · rw [ha] at h; cases h
  · exact h
theorem Trw.words_yes {s : ByteArray} {w' : World} {B : Nat} {e : Ending} (h : (Trw.accB true (Trw.wordAt s) (Trw.wordsN s) = true ∧ ∃ v, e = .returned (.tuple #[v, .bool true]) ∧ w'.ownsRow B 9 1 v (Trw.wordsN s) ((Trw.wordsB s).map Value.string)) ∨
    (Trw.accB true (Trw.wordAt s) (Trw.wordsN s) = false ∧ e = .returned (.tuple #[.slice none 0 0, .bool false]))) (ha : Trw.accB true (Trw.wordAt s) (Trw.wordsN s) = true) : ∃ v, e = .returned (.tuple #[v, .bool true]) ∧ w'.ownsRow B 9 1 v (Trw.wordsN s) ((Trw.wordsB s).map Value.string) := by
  rcases h with ⟨_, h⟩ | ⟨h, _⟩
  · exact h
  · rw [ha] at h; cases h
theorem Trw.words_cell2 (s : ByteArray) (i : Nat) (h : i < Trw.wordsN s) : ((Trw.wordsB s).map Value.string)[i]? = some (.string (Trw.wordAt s i)) := by
  have := Trw.words_cell s i h
  simpa using this
theorem Trw.new_cells2 (w3 : World) (A : Obj) (r : Trw.RR) (j : Nat) (u : Value) (h : r.cells[j]? = some u) : ((w3.alloc A).alloc (.cells #[.int .u8 r.k, .int .i64 r.wt, .string r.a, .string r.b, .string r.t, .int .i64 r.n] 46)).cell? ((⟨w3.heap.size + 1, 0, none⟩ : Addr).add j) = some u := by
  have := Trw.new_cells (w3.alloc A) 46 r.cells j u h
  rw [World.size_alloc] at this
  exact this
theorem Trw.rp_many2 {s : ByteArray} {k : Nat} {x : ByteArray} {rs : List Trw.RR} {r : Trw.RR} (hs : s.size ≤ 65536) (h : ((linesB s).take k).map Trw.lineR = rs.map Sum.inr) (hk : rs.length = k) (h64 : k = 64) (hx : (linesB s)[k]? = some x) (hr : Trw.lineR x = .inr r) : Trw.parseS s = (7, k, []) := by
  subst h64; exact Trw.rp_many hs h hk hx hr
theorem Trw.rp_step {s : ByteArray} {w1 wr w2 w3 w5 : World} {k vc g' c' : Nat} {va : Option Addr} {x : ByteArray} {rs : List Trw.RR} {r : Trw.RR} {A C : Obj} (p1 : ((linesB s).take k).map Trw.lineR = rs.map Sum.inr) (p2 : rs.length = k) (p3 : k < 64) (hx : (linesB s)[k]? = some x) (hr : Trw.lineR x = .inr r)
    (hrow : wr.ownsRow w1.heap.size 46 6 (.slice va k vc) k (Trw.cellsOf rs)) (hb : Below w1.heap.size w1 wr) (hb2 : Below wr.heap.size wr w2) (hb3 : Below w2.heap.size w2 w3)
    (hown : w5.ownsRow w1.heap.size 46 6 (.slice (some ⟨g', 0, none⟩) (k + 1) c') (k + 1) (Trw.cellsOf rs ++ r.cells)) (hg : ((w3.alloc A).alloc C).grownBy w5 (Value.slice va k vc).ownBlock) :
    Trw.rparseI s w1 (k + 1) (.slice (some ⟨g', 0, none⟩) (k + 1) c') w5 := by
  refine ⟨rs ++ [r], ?_, by simp [p2], by omega, ⟨_, _, rfl⟩, ?_, ?_⟩
  · rw [List.take_add_one, hx, List.map_append, p1, List.map_append]; simp [hr]
  · rw [Trw.cellsOf_snoc, List.length_append, p2]; exact hown
  · have h1 := hb.size; have h2 := hb2.size; have h3 := hb3.size
    exact ((((hb.trans (hb2.mono h1)).trans (hb3.mono (by omega))).alloc (by omega) A).alloc (by simp; omega) C).grown hg (by simp; omega) (fun j e => Trw.own_base hrow j e)
theorem Trw.chain4 {w w1 wr w2 w3 : World} (h1 : Below w.heap.size w w1) (h2 : Below w1.heap.size w1 wr) (h3 : Below wr.heap.size wr w2) (h4 : Below w2.heap.size w2 w3) : Below w.heap.size w w3 :=
  ((h1.trans (h2.mono h1.size)).trans (h3.mono (Nat.le_trans h1.size h2.size))).trans (h4.mono (Nat.le_trans (Nat.le_trans h1.size h2.size) h3.size))
theorem Trw.chain3 {w w1 wr w2 : World} (h1 : Below w.heap.size w w1) (h2 : Below w1.heap.size w1 wr) (h3 : Below wr.heap.size wr w2) : Below w.heap.size w w2 :=
  (h1.trans (h2.mono h1.size)).trans (h3.mono (Nat.le_trans h1.size h2.size))

set_option maxRecDepth 100000 in
set_option maxHeartbeats 8000000 in
theorem Trw.rparse7 (hrl : ∀ (u : Nat → ByteArray) (B n cap : Nat) (w : World), B < w.heap.size → (∀ i, i < n → w.cell? ⟨B, i, none⟩ = some (.string (u i))) → 1 ≤ n → n ≤ cap → cap ≤ maxLen → (∀ i, i < n → (u i).size ≤ maxLen) → Trw.accB true u n = true →
      Calls Tryz.prog 26 #[.slice (some ⟨B, 0, none⟩) n cap] w (Trw.rlineP u n w))
    (s : ByteArray) (w : World) (hs : s.size ≤ 65536) : Calls Tryz.prog 7 #[.string s] w (Trw.parseP s w) := by
  have HRL := Lib.hid hrl; clear hrl
  have hll := Trw.lines_len s
  obtain ⟨L, hL⟩ : ∃ L, L = linesB s := ⟨_, rfl⟩
  obtain ⟨en, hen⟩ : ∃ b, b = (linesB s).all Trw.cutB := ⟨_, rfl⟩
  have HLN := Trw.lines24 s
  rw [← hL] at hll
  have HL := Lib.hid hL; have HEN := Lib.hid hen; have HLI := Lib.hid HLN; clear hL hen HLN
  go_enter Tryz.func7, Tryz.ntmps7
  go_wp2_with (first | (go_at_call 24; refine (HLI.out _ hs).mono ?_; rintro e w1 ⟨hbl, lv, he, hlrow⟩; rw [← HL.out] at hlrow; rw [← HEN.out] at he; subst he; obtain ⟨la, lc, rfl⟩ := Trw.row_shape hlrow; have HBL := Lib.hid hbl; have HLR := Lib.hid hlrow; clear hbl hlrow))
  go_loopw [7, 8] (fun v i wr => ∃ k : Nat, k ≤ L.length ∧ i = .int .i64 k ∧ Trw.rparseI s w1 k v wr) (fun _ i _ => L.length - (intOf i).toNat)
  case atStart => exact ⟨0, Nat.zero_le _, rfl, [], by simp, rfl, by omega, ⟨none, 0, rfl⟩, ⟨rfl, .inl ⟨rfl, rfl⟩⟩, Below.refl _ _⟩
  case round =>
    obtain ⟨k, hk, rfl, rs, p1, p2, p3, ⟨va, vc, rfl⟩, hrow, hb⟩ := hrel
    have P1 := Lib.hid p1; have P2 := Lib.hid p2; have HR := Lib.hid hrow; have HB := Lib.hid hb
    clear p1 p2 hrow hb
    by_cases hlt : k < L.length
    · obtain ⟨x, hx⟩ : ∃ x, (linesB s)[k]? = some x := ⟨L[k], by rw [← HL.out]; exact List.getElem?_eq_getElem hlt⟩
      obtain ⟨gl, cl, hlv, hgl1, hgl2, _, _⟩ := Trw.own_form HLR.out (by omega)
      injection hlv with hla hlb hlc
      clear hlb
      subst hla
      subst hlc
      have hxc : w1.cell? ⟨gl, k, none⟩ = some (.string (Trw.cutS x)) := Trw.row1_cell HLR.out k _ (by rw [HL.out, List.getElem?_map, hx]; rfl)
      have hxw : wr.cell? ⟨gl, k, none⟩ = some (.string (Trw.cutS x)) := (HB.out.cell (p := ⟨gl, k, none⟩) hgl2).trans hxc
      have hxs : (Trw.cutS x).size ≤ 65536 := Nat.le_trans (Trw.cutS_size x) (Nat.le_trans (linesB_size s x (List.mem_of_getElem? hx)) hs)
      have HX := Lib.hid hx; clear hx hxc
      have HWD := Lib.hid (Trw.words25 (Trw.cutS x))
      rcases Trw.bcases (Trw.accB true (Trw.wordAt (Trw.cutS x)) (Trw.wordsN (Trw.cutS x))) with hacc | hacc
      rotate_left
      · have HACC := Lib.hid hacc; clear hacc
        go_wp2_with (first | (go_at_call 25; refine (HWD.out _ hxs).mono ?_; rintro e w2 ⟨hb2, hcase⟩; obtain rfl := Trw.words_no hcase HACC.out; have HB2 := Lib.hid hb2; clear hb2 hcase))
        go_ret3
        exact Trw.parseP_mk (k := k) (rs := []) (Trw.rp_err hs P1.out P2.out p3 HX.out (Trw.lineR_no (by rw [HACC.out, Bool.and_false]))) rfl ⟨rfl, .inl ⟨rfl, rfl⟩⟩ (Trw.chain3 HBL.out HB.out HB2.out)
      · have HACC := Lib.hid hacc; clear hacc
        rcases Trw.bcases (Trw.cutB x) with hcb | hcb
        rotate_left
        · obtain ⟨hk1, hk2⟩ := Trw.lines_last HX.out hcb
          rw [← HEN.out] at hk2
          rw [← HL.out] at hk1
          have hen0 : en = false := hk2
          have hkl : ((k : Int) == (L.length : Int) - 1) = true := by rw [beq_iff_eq]; omega
          clear hk2
          have HCB := Lib.hid hcb; clear hcb
          subst hen0
          go_wp2_with (first | (go_at_call 25; refine (HWD.out _ hxs).mono ?_; rintro e w2 ⟨hb2, hcase⟩; obtain ⟨wv, rfl, hwr⟩ := Trw.words_yes hcase HACC.out; have HB2 := Lib.hid hb2; clear hb2 hcase hwr))
          go_ret3
          exact Trw.parseP_mk (k := k) (rs := []) (Trw.rp_err hs P1.out P2.out p3 HX.out (Trw.lineR_no (by rw [HCB.out, Bool.false_and]))) rfl ⟨rfl, .inl ⟨rfl, rfl⟩⟩ (Trw.chain3 HBL.out HB.out HB2.out)
        · have hmore := Trw.lines_more HX.out hcb
          rw [← HEN.out, ← HL.out] at hmore
          have HLY := Lib.hid (Trw.lineR_yes hcb)
          clear hcb
          have hkl : en = true ∨ ((k : Int) == (L.length : Int) - 1) = false := hmore.imp id (fun h => by rw [beq_eq_false_iff_ne]; omega)
          clear hmore
          rcases hres : Trw.lineS true (Trw.wordAt (Trw.cutS x)) (Trw.wordsN (Trw.cutS x)) with e0 | r
          · have HRES := Lib.hid hres; clear hres
            have hee := Trw.lineS_err HRES.out
            cases en
            · have hkl := hkl.resolve_left (by simp)
              go_wp2_with (first | (go_at_call 25; refine (HWD.out _ hxs).mono ?_; rintro e w2 ⟨hb2, hcase⟩; obtain ⟨wv, rfl, hwr⟩ := Trw.words_yes hcase HACC.out; obtain ⟨gw, cw, rfl, hg1, hg2, hg3, hg4⟩ := Trw.own_form hwr (Trw.wordsN_pos _); have HB2 := Lib.hid hb2; have HWR := Lib.hid hwr; clear hb2 hcase hwr) | (go_at_call 26; refine (HRL.out (Trw.wordAt (Trw.cutS x)) gw _ cw _ hg2 (fun i hi => Trw.row1_cell HWR.out i _ (Trw.words_cell2 _ i hi)) (Trw.wordsN_pos _) hg3 hg4 (fun i _ => Nat.le_trans (Trw.wordAt_size _ i) (by unfold maxLen; omega)) HACC.out).mono ?_; rintro e w3 hr3; obtain ⟨ex, ey, ez, rfl⟩ := Trw.rline_inl hr3 HRES.out; have HB3 := Lib.hid hr3.1; clear hr3))
              all_goals go_ret3
              all_goals exact Trw.parseP_mk (k := k) (rs := []) (Trw.rp_err hs P1.out P2.out p3 HX.out (HLY.out.trans HRES.out)) rfl ⟨rfl, .inl ⟨rfl, rfl⟩⟩ ((Trw.chain4 HBL.out HB.out HB2.out HB3.out).alloc (Trw.chain4 HBL.out HB.out HB2.out HB3.out).size _)
            · clear hkl
              go_wp2_with (first | (go_at_call 25; refine (HWD.out _ hxs).mono ?_; rintro e w2 ⟨hb2, hcase⟩; obtain ⟨wv, rfl, hwr⟩ := Trw.words_yes hcase HACC.out; obtain ⟨gw, cw, rfl, hg1, hg2, hg3, hg4⟩ := Trw.own_form hwr (Trw.wordsN_pos _); have HB2 := Lib.hid hb2; have HWR := Lib.hid hwr; clear hb2 hcase hwr) | (go_at_call 26; refine (HRL.out (Trw.wordAt (Trw.cutS x)) gw _ cw _ hg2 (fun i hi => Trw.row1_cell HWR.out i _ (Trw.words_cell2 _ i hi)) (Trw.wordsN_pos _) hg3 hg4 (fun i _ => Nat.le_trans (Trw.wordAt_size _ i) (by unfold maxLen; omega)) HACC.out).mono ?_; rintro e w3 hr3; obtain ⟨ex, ey, ez, rfl⟩ := Trw.rline_inl hr3 HRES.out; have HB3 := Lib.hid hr3.1; clear hr3))
              all_goals go_ret3
              all_goals exact Trw.parseP_mk (k := k) (rs := []) (Trw.rp_err hs P1.out P2.out p3 HX.out (HLY.out.trans HRES.out)) rfl ⟨rfl, .inl ⟨rfl, rfl⟩⟩ ((Trw.chain4 HBL.out HB.out HB2.out HB3.out).alloc (Trw.chain4 HBL.out HB.out HB2.out HB3.out).size _)
          · have HRES := Lib.hid hres; clear hres
            cases en
            · have hkl := hkl.resolve_left (by simp)
              by_cases h64 : k = 64
              · have hge : decide ((64 : Int) ≤ (k : Int)) = true := by rw [decide_eq_true_eq]; omega
                have H64 := Lib.hid h64; clear h64
                go_wp2_with (first | (go_at_call 25; refine (HWD.out _ hxs).mono ?_; rintro e w2 ⟨hb2, hcase⟩; obtain ⟨wv, rfl, hwr⟩ := Trw.words_yes hcase HACC.out; obtain ⟨gw, cw, rfl, hg1, hg2, hg3, hg4⟩ := Trw.own_form hwr (Trw.wordsN_pos _); have HB2 := Lib.hid hb2; have HWR := Lib.hid hwr; clear hb2 hcase hwr) | (go_at_call 26; refine (HRL.out (Trw.wordAt (Trw.cutS x)) gw _ cw _ hg2 (fun i hi => Trw.row1_cell HWR.out i _ (Trw.words_cell2 _ i hi)) (Trw.wordsN_pos _) hg3 hg4 (fun i _ => Nat.le_trans (Trw.wordAt_size _ i) (by unfold maxLen; omega)) HACC.out).mono ?_; rintro e w3 hr3; obtain rfl := Trw.rline_inr hr3 HRES.out; have HB3 := Lib.hid hr3.1; clear hr3))
                all_goals go_ret3
                all_goals exact Trw.parseP_mk (k := k) (rs := []) (Trw.rp_many2 hs P1.out P2.out H64.out HX.out (HLY.out.trans HRES.out)) rfl ⟨rfl, .inl ⟨rfl, rfl⟩⟩ ((Trw.chain4 HBL.out HB.out HB2.out HB3.out).alloc (Trw.chain4 HBL.out HB.out HB2.out HB3.out).size _)
              · have hlt64 : ¬ (64 : Int) ≤ (k : Int) := by omega
                obtain ⟨i0, z, hi0, hz0, hz1, hz2, hz3⟩ := Trw.info46
                have HRk : Hid (wr.ownsRow w1.heap.size 46 6 (.slice va k vc) k (Trw.cellsOf rs)) := Lib.hid (by have := HR.out; rwa [P2.out] at this)
                go_wp2_with (first | (go_at_call 25; refine (HWD.out _ hxs).mono ?_; rintro e w2 ⟨hb2, hcase⟩; obtain ⟨wv, rfl, hwr⟩ := Trw.words_yes hcase HACC.out; obtain ⟨gw, cw, rfl, hg1, hg2, hg3, hg4⟩ := Trw.own_form hwr (Trw.wordsN_pos _); have HB2 := Lib.hid hb2; have HWR := Lib.hid hwr; clear hb2 hcase hwr) | (go_at_call 26; refine (HRL.out (Trw.wordAt (Trw.cutS x)) gw _ cw _ hg2 (fun i hi => Trw.row1_cell HWR.out i _ (Trw.words_cell2 _ i hi)) (Trw.wordsN_pos _) hg3 hg4 (fun i _ => Nat.le_trans (Trw.wordAt_size _ i) (by unfold maxLen; omega)) HACC.out).mono ?_; rintro e w3 hr3; obtain rfl := Trw.rline_inr hr3 HRES.out; have HB3 := Lib.hid hr3.1; clear hr3) | (at_builtin; refine wpList_append_own _ rfl _ _ 22 rfl w1.heap.size 46 i0 z 6 72 Tryz.underlying22 hi0 hz0 hz1 hz2 hz3 (by decide) _ k (Trw.cellsOf rs) rfl (((Trw.row_below (Trw.row_below HRk.out HB2.out) HB3.out).alloc _).alloc _) ⟨w3.heap.size + 1, 0, none⟩ 1 1 r.cells rfl rfl (Trw.new_cells2 w3 _ r) (Trw.cells_one r) (by unfold maxLen; omega) (by omega) (by have h1 := HB.out.size; have h2 := HB2.out.size; have h3 := HB3.out.size; simp; omega) ?_; intro v' w5 hown' hgrow hnil; clear hnil; have HO := Lib.hid hown'; have HG := Lib.hid hgrow; clear hown' hgrow))
                all_goals (obtain ⟨g', cap', rfl⟩ := ownsRow_succ HO.out)
                go_round
                (case rel => first | exact ⟨k + 1, by omega, by go_num, Trw.rp_step P1.out P2.out (by omega) HX.out (HLY.out.trans HRES.out) HRk.out HB.out HB2.out HB3.out HO.out HG.out⟩ | ((repeat apply Exists.intro); exact ⟨⟨k + 1, by omega, by go_num, Trw.rp_step P1.out P2.out (by omega) HX.out (HLY.out.trans HRES.out) HRk.out HB.out HB2.out HB3.out HO.out HG.out⟩, rfl⟩))
                (case measure => simp [intOf]; omega)
            · clear hkl
              by_cases h64 : k = 64
              · have hge : decide ((64 : Int) ≤ (k : Int)) = true := by rw [decide_eq_true_eq]; omega
                have H64 := Lib.hid h64; clear h64
                go_wp2_with (first | (go_at_call 25; refine (HWD.out _ hxs).mono ?_; rintro e w2 ⟨hb2, hcase⟩; obtain ⟨wv, rfl, hwr⟩ := Trw.words_yes hcase HACC.out; obtain ⟨gw, cw, rfl, hg1, hg2, hg3, hg4⟩ := Trw.own_form hwr (Trw.wordsN_pos _); have HB2 := Lib.hid hb2; have HWR := Lib.hid hwr; clear hb2 hcase hwr) | (go_at_call 26; refine (HRL.out (Trw.wordAt (Trw.cutS x)) gw _ cw _ hg2 (fun i hi => Trw.row1_cell HWR.out i _ (Trw.words_cell2 _ i hi)) (Trw.wordsN_pos _) hg3 hg4 (fun i _ => Nat.le_trans (Trw.wordAt_size _ i) (by unfold maxLen; omega)) HACC.out).mono ?_; rintro e w3 hr3; obtain rfl := Trw.rline_inr hr3 HRES.out; have HB3 := Lib.hid hr3.1; clear hr3))
                all_goals go_ret3
                all_goals exact Trw.parseP_mk (k := k) (rs := []) (Trw.rp_many2 hs P1.out P2.out H64.out HX.out (HLY.out.trans HRES.out)) rfl ⟨rfl, .inl ⟨rfl, rfl⟩⟩ ((Trw.chain4 HBL.out HB.out HB2.out HB3.out).alloc (Trw.chain4 HBL.out HB.out HB2.out HB3.out).size _)
              · have hlt64 : ¬ (64 : Int) ≤ (k : Int) := by omega
                obtain ⟨i0, z, hi0, hz0, hz1, hz2, hz3⟩ := Trw.info46
                have HRk : Hid (wr.ownsRow w1.heap.size 46 6 (.slice va k vc) k (Trw.cellsOf rs)) := Lib.hid (by have := HR.out; rwa [P2.out] at this)
                go_wp2_with (first | (go_at_call 25; refine (HWD.out _ hxs).mono ?_; rintro e w2 ⟨hb2, hcase⟩; obtain ⟨wv, rfl, hwr⟩ := Trw.words_yes hcase HACC.out; obtain ⟨gw, cw, rfl, hg1, hg2, hg3, hg4⟩ := Trw.own_form hwr (Trw.wordsN_pos _); have HB2 := Lib.hid hb2; have HWR := Lib.hid hwr; clear hb2 hcase hwr) | (go_at_call 26; refine (HRL.out (Trw.wordAt (Trw.cutS x)) gw _ cw _ hg2 (fun i hi => Trw.row1_cell HWR.out i _ (Trw.words_cell2 _ i hi)) (Trw.wordsN_pos _) hg3 hg4 (fun i _ => Nat.le_trans (Trw.wordAt_size _ i) (by unfold maxLen; omega)) HACC.out).mono ?_; rintro e w3 hr3; obtain rfl := Trw.rline_inr hr3 HRES.out; have HB3 := Lib.hid hr3.1; clear hr3) | (at_builtin; refine wpList_append_own _ rfl _ _ 22 rfl w1.heap.size 46 i0 z 6 72 Tryz.underlying22 hi0 hz0 hz1 hz2 hz3 (by decide) _ k (Trw.cellsOf rs) rfl (((Trw.row_below (Trw.row_below HRk.out HB2.out) HB3.out).alloc _).alloc _) ⟨w3.heap.size + 1, 0, none⟩ 1 1 r.cells rfl rfl (Trw.new_cells2 w3 _ r) (Trw.cells_one r) (by unfold maxLen; omega) (by omega) (by have h1 := HB.out.size; have h2 := HB2.out.size; have h3 := HB3.out.size; simp; omega) ?_; intro v' w5 hown' hgrow hnil; clear hnil; have HO := Lib.hid hown'; have HG := Lib.hid hgrow; clear hown' hgrow))
                all_goals (obtain ⟨g', cap', rfl⟩ := ownsRow_succ HO.out)
                go_round
                (case rel => first | exact ⟨k + 1, by omega, by go_num, Trw.rp_step P1.out P2.out (by omega) HX.out (HLY.out.trans HRES.out) HRk.out HB.out HB2.out HB3.out HO.out HG.out⟩ | ((repeat apply Exists.intro); exact ⟨⟨k + 1, by omega, by go_num, Trw.rp_step P1.out P2.out (by omega) HX.out (HLY.out.trans HRES.out) HRk.out HB.out HB2.out HB3.out HO.out HG.out⟩, rfl⟩))
                (case measure => simp [intOf]; omega)
    · obtain rfl : k = L.length := by omega
      go_wp2
      go_ret3
      have hp : Trw.parseS s = (0, 0, rs) := Trw.parseS_good hs (by rw [← P1.out, List.take_of_length_le (by rw [HL.out]; exact Nat.le_refl _)]) (by rw [P2.out]; exact p3)
      exact Trw.parseP_mk (k := 0) (rs := rs) hp rfl (Trw.row_less HR.out HBL.out.size) (HBL.out.trans (HB.out.mono HBL.out.size))
end Go.Proofs
end

section
namespace Go.Proofs
open Go.RowKit Go.Trw

theorem Trw.parse6_all (s : ByteArray) (m : Int) (w : World) (hs : s.size ≤ maxLen) (hm : w.cell? ⟨0, 0, none⟩ = some (.int .i64 m)) : Calls Tryz.prog 6 #[.string s] w (Trw.parseP s w) := by
  by_cases h : s.size ≤ 65536
  · exact Trw.parse6 Trw.line s m w h hm
  · exact Trw.parse6_big s w (by omega) hs

set_option maxHeartbeats 1000000 in
theorem Trw.rparse7_big (s : ByteArray) (w : World) (hs : 65536 < s.size) (hm : s.size ≤ maxLen) : Calls Tryz.prog 7 #[.string s] w (Trw.parseP s w) := by
  unfold maxLen at hm
  go_enter Tryz.func7, Tryz.ntmps7
  go_wp2
  go_ret3
  exact Trw.parseP_mk (k := 0) (rs := []) (by unfold Trw.parseS; rw [if_pos hs]) rfl ⟨rfl, .inl ⟨rfl, rfl⟩⟩ (Below.refl _ _)
theorem Trw.rparse7_all (s : ByteArray) (w : World) (hs : s.size ≤ maxLen) : Calls Tryz.prog 7 #[.string s] w (Trw.parseP s w) := by
  by_cases h : s.size ≤ 65536
  · exact Trw.rparse7 Trw.rline26 s w h
  · exact Trw.rparse7_big s w (by omega) hs

theorem Trw.runL_len : ∀ (xs : List ByteArray) (acc : List Trw.RR), acc.length ≤ 64 → (Trw.runL acc xs).2.2.length ≤ 64
  | [], acc, h => h
  | x :: xs, acc, h => by
    unfold Trw.runL
    split
    · simp
    · split
      · simp
      · exact Trw.runL_len xs _ (by simp; omega)
theorem Trw.parseS_len (s : ByteArray) : (Trw.parseS s).2.2.length ≤ 64 := by
  unfold Trw.parseS
  split
  · simp
  · exact Trw.runL_len _ _ (by simp)

theorem Trw.chain4b {w w1 w2 w3 : World} (h1 : Below w.heap.size w w1) (h2 : Below w1.heap.size w1 w2) (h3 : Below w2.heap.size w2 w3) : Below w.heap.size w w3 :=
  (h1.trans (h2.mono h1.size)).trans (h3.mono (Nat.le_trans h1.size h2.size))
theorem Trw.m_after {w w' : World} {m : Int} (hm : w.cell? ⟨0, 0, none⟩ = some (.int .i64 m)) (hb : Below w.heap.size w w') (h0 : 0 < w.heap.size) : w'.cell? ⟨0, 0, none⟩ = some (.int .i64 m) := (hb.cell (p := ⟨0, 0, none⟩) h0).trans hm

set_option maxRecDepth 100000 in
set_option maxHeartbeats 2000000 in
theorem Trw.reads3 (hawake : ∀ (m : Int) (w : World), w.cell? ⟨0, 0, none⟩ = some (.int .i64 m) → Calls Tryz.prog 9 #[] w fun e w' => e = .returned (.bool true) ∧ Below w.heap.size w w')
    (s : ByteArray) (m : Int) (w : World) (hs : s.size ≤ maxLen) (hm : w.cell? ⟨0, 0, none⟩ = some (.int .i64 m)) :
    Calls Tryz.prog 3 #[.string s] w fun e w' => e = .returned (.bool true) ∧ Below w.heap.size w w' := by
  have hbk := World.block_lt_of_cell? _ _ hm
  obtain ⟨⟨er, ix, rs⟩, hp⟩ : ∃ p, p = Trw.parseS s := ⟨_, rfl⟩
  have hl := Trw.parseS_len s
  rw [← hp] at hl
  have H6 := Lib.hid (Trw.parse6_all s m)
  have H7 := Lib.hid (Trw.rparse7_all s)
  have HP := Lib.hid hp; clear hp
  have HAW := Lib.hid hawake; clear hawake
  have HM := Lib.hid hm; clear hm
  go_enter Tryz.func3, Tryz.ntmps3
  go_wp2_with (first
    | (go_at_call 6; refine (H6.out _ hs HM.out).mono ?_; rintro e w1 ⟨v1, he, hr1, hb1, _⟩; rw [← HP.out] at he hr1; subst he; have HR1 := Lib.hid hr1; have HB1 := Lib.hid hb1; clear hr1 hb1)
    | (go_at_call 7; refine (H7.out _ hs).mono ?_; rintro e w2 ⟨v2, he, hr2, hb2, _⟩; rw [← HP.out] at he hr2; subst he; have HR2 := Lib.hid hr2; have HB2 := Lib.hid hb2; clear hr2 hb2)
    | (go_at_call 8; refine (Trw.same rs v1 v2 _ _ _ hl (Trw.row_below HR1.out HB2.out) HR2.out).mono ?_; rintro e w3 ⟨rfl, hb3⟩; have HB3 := Lib.hid hb3; clear hb3)
    | (go_at_call 9; refine (HAW.out m _ (Trw.m_after HM.out (Trw.chain4b HB1.out HB2.out HB3.out) hbk)).mono ?_; rintro e w4 ⟨rfl, hb4⟩; have HB4 := Lib.hid hb4; clear hb4))
  go_ret
  exact ⟨rfl, (Trw.chain4b HB1.out HB2.out HB3.out).trans (HB4.out.mono (Trw.chain4b HB1.out HB2.out HB3.out).size)⟩
end Go.Proofs
end

section
set_option maxRecDepth 1000000
namespace Go.Ai
open Go Go.RowKit

/-- A closed call that the evaluator answers with a truth value, in a world where some cells are known. -/
theorem closed_boolC {P : Program} {tt : TT} {O : Oracle} {G : T AFunc} {C : Cells} {m d f : Nat} {n0 : Pos} {fn : Func} {c : Code} (hm : P.follows .mixedOrders = true) (hT : TTOk P tt) (hG : GOk P tt G)
    (hO : OracleOk P C O) (hOm : OracleMono O) (hf : P.funcs[f]? = some fn) (hname : ¬ fn.name = "runtime.NumGoroutine") (hb : fn.body = some c) {b : Bool}
    (h : callK (R := Bool) false O G m d f [] { heap := .e, next := n0 } (fun v _ => beqAV v (.bool b)) = true) (w : World) (hC : ∀ ad v, C ad = some v → w.cell? ad = some v) :
    Calls P f #[] w fun e w' => e = .returned (.bool b) ∧ Below w.heap.size w w' := by
  rw [callK_eq false O G m d] at h
  unfold andK at h
  split at h <;> first | (cases h; done) | skip
  rename_i x hx
  obtain ⟨v, st1⟩ := x
  have hv := beqAV_eq h
  simp only at hv
  subst hv
  have hr := call_sound hm hT hO hOm hG m d (fun _ => ⟨0, 0, 0⟩) { heap := .e, next := n0 } w f [] (.bool b) st1 [] hx (empty_rel hC) VsRel.nil
  have hrun : (callFunc f ([] : List Value).toArray).run P w = .ok (.enter f #[]) w := by simp [callFunc, hf, hname, hb]
  rw [hrun] at hr
  refine Calls.mono hr fun e w' he => ?_
  cases e with
  | returned x =>
    obtain ⟨ρ', h1, _, _, _, hE⟩ := he
    have := h1.bool_inv; subst this
    exact ⟨rfl, hE.os, hE.tape, hE.output, hE.size, fun k hk => hE.block k hk fun b x hb => by rw [T.get_e] at hb; cases hb⟩
  | panicked c => exact he.elim
  | outgrown => exact he.elim

section
variable {ρ : Pos → Go.Ai.Loc} {C : Cells} {st : St} {w w' : World}

/-- nothing that the abstract heap knows has turned. -/
theorem WRel.later (h : WRel ρ C st w) (hb : Below w.heap.size w w') : WRel ρ C st w' where
  live b x hx := by
    obtain ⟨h1, h2, h3⟩ := h.live b x hx
    exact ⟨h1, Nat.lt_of_lt_of_le h2 hb.size, h3.of_heap (hb.block _ h2)⟩
  inj := h.inj
  froz a v ha := by
    obtain ⟨h1, h2⟩ := h.froz a v ha
    exact ⟨(hb.cell (World.block_lt_of_cell? _ _ h1)).trans h1, h2⟩
theorem Evo.later (h : WRel ρ C st w) (hb : Below w.heap.size w w') : Evo ρ st w ρ st w' := ⟨hb.os, hb.tape, hb.output, hb.size, fun k hk _ => hb.block k hk, fun b x hx => .inl ⟨b, x, hx, rfl⟩⟩

/-- A new block somewhere behind. -/
theorem new_at (hW : WRel ρ C st w) {x0 : AB} {base size g : Nat} (hb : Below w.heap.size w w') (hg : w.heap.size ≤ g) (hg2 : g < w'.heap.size)
    (hB : ∀ ρ' n', (∀ b : Pos, b.toNat < st.next.toNat → ρ' b = ρ b) → st.next.toNat ≤ n' → BRel ρ' n' C ⟨g, base, size⟩ w' x0) :
    ∃ ρ' : Pos → Go.Ai.Loc, (∀ b : Pos, b.toNat < st.next.toNat → ρ' b = ρ b) ∧ ρ' st.next = ⟨g, base, size⟩ ∧ WRel ρ' C (st.eff none none (some x0)) w' ∧ Evo ρ st w ρ' (st.eff none none (some x0)) w' := by
  let ρ' : Pos → Go.Ai.Loc := fun b => if b = st.next then ⟨g, base, size⟩ else ρ b
  have hρ : ∀ b : Pos, b.toNat < st.next.toNat → ρ' b = ρ b := fun b hb => if_neg (fun e => by rw [e] at hb; omega)
  have hρ0 : ρ' st.next = ⟨g, base, size⟩ := if_pos rfl
  refine ⟨ρ', hρ, hρ0, ?_, ⟨hb.os, hb.tape, hb.output, hb.size, fun k hk _ => hb.block k hk, fun b x hx => ?_⟩⟩
  rotate_left
  · by_cases he : b = st.next
    · right; rw [he, hρ0]; exact hg
    · left
      simp only [St.eff, putO, delO] at hx
      rw [T.get_put_ne _ (fun e => he e.symm)] at hx
      exact ⟨b, x, hx, by rw [hρ b (hW.live b x hx).1]⟩
  refine hW.put1 (b0 := st.next) (x0 := x0) (by rw [Pos.toNat_succ]; omega) (by rw [Pos.toNat_succ]; omega) (by rw [T.get_put]) ?_ hρ (by rw [hρ0]; exact hB _ _ hρ (by rw [Pos.toNat_succ]; omega)) ?_ (by rw [hρ0]; exact hg2) hb.size (fun k hk _ => hb.block k hk)
  · intro b x hb hx
    simp only [putO, delO] at hx
    rw [T.get_put_ne _ (fun e => hb e.symm)] at hx
    refine ⟨hx, ?_⟩
    rw [hρ0]
    have := (hW.live b x hx).2.1
    simp only; omega
  · intro a v ha
    have := World.block_lt_of_cell? _ _ (hW.froz a v ha).1
    rw [hρ0]; simp only; omega
end
end Go.Ai

namespace Go.Proofs
open Go Go.Ai Go.RowKit Go.Trw Go.Proofs.YtcjaejohbhmjhaaGreatDoor

def Trw.natsB (t : List Nat) : ByteArray := ⟨(t.map UInt8.ofNat).toArray⟩
theorem Trw.natsB_is {t : List Nat} {bs : ByteArray} (h : bs.data.toList.map UInt8.toNat = t) : bs = Trw.natsB t := by
  unfold Trw.natsB
  rw [← h, List.map_map]
  have : (UInt8.ofNat ∘ UInt8.toNat) = id := by funext c; simp
  rw [this, List.map_id]

/-- rule.Parse at one text. -/
def Trw.parseLit (t0 : List Nat) (er i : Int) (n : Nat) (cs : List AV) : List AV → St → Option (AV × St) := fun args st =>
  match args with
  | [.str t] => match beqNats t t0 with
    | true => match n with
      | 0 => some (.tuple [.nils, .int .i64 i, .int .i64 er], st)
      | n + 1 => some (.tuple [.slice st.next 0 (n + 1) none 6, .int .i64 i, .int .i64 er], st.eff none none (some (.cells cs 0)))
    | false => none
  | _ => none

theorem Trw.cells_rel {ρ : Pos → Go.Ai.Loc} {n : Nat} {C : Cells} : ∀ {cs : List AV} {vs : List Value}, cs.mapM conc1 = some vs → (∀ v ∈ cs, ∃ k i, v = .int k i ∨ ∃ s, v = .str s ∧ ∀ c ∈ s, c < 256) → VsRel ρ n C cs vs
  | [], vs, h, _ => by simp at h; subst h; exact VsRel.nil
  | v :: cs, vs, h, hv => by
    simp only [List.mapM_cons, Option.bind_eq_bind, Option.bind_eq_some_iff, Option.pure_def, Option.some.injEq] at h
    obtain ⟨y, hy, zs, hz, rfl⟩ := h
    refine VsRel.cons ?_ (Trw.cells_rel hz fun v hm => hv v (List.mem_cons_of_mem _ hm))
    obtain ⟨k, i, rfl | ⟨s, rfl, hs⟩⟩ := hv v (List.mem_cons_self ..)
    · simp [conc1] at hy; subst hy; exact .int _ _
    · simp only [conc1, Option.some.injEq] at hy; subst hy
      refine .str _ _ ?_
      show (s.map UInt8.ofNat).toArray.toList.map UInt8.toNat = s
      simp only [List.map_map]
      conv => rhs; rw [← List.map_id s]
      refine List.map_congr_left fun c hc => ?_
      have := hs c hc
      simp [UInt8.toNat_ofNat]
      omega

theorem Trw.parseLit_ok {C : Cells} {m : Int} (hC : C ⟨0, 0, none⟩ = some (.int .i64 m)) {t0 : List Nat} {er i : Int} {n k : Nat} {cs : List AV} {rs : List Trw.RR} (hsz : t0.length ≤ 65536) (hp : Trw.parseS (Trw.natsB t0) = (er, k, rs)) (hi : i = k) (hn : n = rs.length)
    (hcs : cs.mapM conc1 = some (Trw.cellsOf rs)) (hsc : ∀ v ∈ cs, ∃ k i, v = .int k i ∨ ∃ s, v = .str s ∧ ∀ c ∈ s, c < 256) (hz : n = 0 → er ≠ 0) : FnOk Tryz.prog C 6 (Trw.parseLit t0 er i n cs) where
  mono args st v st' h := by
    unfold Trw.parseLit at h
    split at h <;> first | (cases h; done) | skip
    split at h <;> first | (cases h; done) | skip
    split at h
    · injection h with h; injection h with h1 h2; subst h2; exact Nat.le_refl _
    · injection h with h; injection h with h1 h2; subst h2; exact St.eff_next _ _ _ _
  runs ρ st w args v st' args' h hW hv := by
    unfold Trw.parseLit at h
    split at h <;> first | (cases h; done) | skip
    rename_i t
    split at h <;> first | (cases h; done) | skip
    rename_i hbq
    have ht : t = t0 := beqNats_eq.1 hbq
    subst ht
    obtain ⟨x, xs, rfl, h1, h2⟩ := hv.cons_inv
    have := h2.nil_inv; subst this
    obtain ⟨bs, rfl, hs⟩ := h1.str_inv
    have hbs := Trw.natsB_is hs
    have hm := (hW.froz _ _ hC).1
    have hsize : bs.size ≤ 65536 := by
      have : bs.data.toList.length = t.length := by rw [← hs]; simp
      have h3 : bs.size = bs.data.toList.length := by simp
      omega
    have hc := Trw.parse6_all bs m w (by unfold maxLen; omega) hm
    have hrun : (callFunc 6 ([Value.string bs] : List Value).toArray).run Tryz.prog w = .ok (.enter 6 #[.string bs]) w := enters_of Tryz.func6 (by kernel_rfl) rfl _ _
    rw [hrun]
    refine Calls.mono hc fun e w' hpp => ?_
    obtain ⟨v', he, hrow, hb, hnil⟩ := hpp
    rw [hbs, hp] at he hrow hnil
    subst he
    subst hi
    simp only at hrow hnil ⊢
    split at h
    · injection h with h; injection h with e1 e2; subst e1; subst e2
      have hv0 := hnil (hz rfl)
      subst hv0
      exact ⟨ρ, .tuple_of (VsRel.cons .nils (VsRel.cons (.int _ _) (VsRel.cons (.int _ _) VsRel.nil))), fun _ _ => rfl, Nat.le_refl _, hW.later hb, Evo.later hW hb⟩
    · rename_i n'
      injection h with h; injection h with e1 e2; subst e1; subst e2
      rcases hrow.2 with ⟨_, h0⟩ | ⟨g, cap, cur, rfl, hg, hgb, hcap, hcm, hcur, htake⟩
      · omega
      · have hgl := (Array.getElem?_eq_some_iff.1 hgb).1
        have hlen : cs.length = rs.length * 6 := by
          have hvr := Trw.cells_rel (ρ := ρ) (n := 0) (C := C) hcs hsc
          rw [hvr.1, Trw.cellsOf_length]
        obtain ⟨ρ', hρ, hρ0, hW', hE⟩ := new_at (x0 := .cells cs 0) (base := 0) (size := cur.size) hW hb hg hgl (fun ρ' n' _ _ =>
          cells_new hgb (by rw [hlen, hcur]; exact Nat.mul_le_mul_right _ hcap) (by rw [hlen, htake]; exact Trw.cells_rel hcs hsc) (fun i _ => by simp))
        refine ⟨ρ', .tuple_of (VsRel.cons ?_ (VsRel.cons (.int _ _) (VsRel.cons (.int _ _) VsRel.nil))), hρ, St.eff_next _ _ _ _, hW', hE⟩
        have hcap' : n' + 1 ≤ cap := by omega
        rw [← hn]
        exact slice_new (by simp [St.eff, Pos.toNat_succ]) hρ0 hcap' (fun c hc => by cases hc) (by rw [hcur]; exact Nat.le_refl _)

noncomputable def Trw.P1 : List AV → St → Option (AV × St) := Trw.parseLit [104, 97, 114, 100, 32, 97, 112, 97, 114, 116, 32, 97, 110, 110, 97, 32, 98, 111, 114, 105, 115, 32, 50, 10, 119, 101, 105, 103, 104, 32, 53, 32, 104, 111, 110, 111, 117, 114, 32, 45, 10] 0 0 2 [.int .u8 1, .int .i64 0, .str [97, 110, 110, 97], .str [98, 111, 114, 105, 115], .str [], .int .i64 2, .int .u8 14, .int .i64 5, .str [], .str [], .str [], .int .i64 0]
noncomputable def Trw.P2 : List AV → St → Option (AV × St) := Trw.parseLit [119, 101, 105, 103, 104, 32, 48, 32, 109, 105, 120, 32, 45, 10] 41 0 0 []
noncomputable def Trw.P3 : List AV → St → Option (AV × St) := Trw.parseLit [104, 97, 114, 100, 32, 97, 116, 32, 97, 110, 110, 97, 32, 45, 10] 4 0 0 []
theorem Trw.t1_is : Trw.parseS (Trw.natsB [104, 97, 114, 100, 32, 97, 112, 97, 114, 116, 32, 97, 110, 110, 97, 32, 98, 111, 114, 105, 115, 32, 50, 10, 119, 101, 105, 103, 104, 32, 53, 32, 104, 111, 110, 111, 117, 114, 32, 45, 10]) = (0, 0, [⟨1, 0, ⟨#[97, 110, 110, 97]⟩, ⟨#[98, 111, 114, 105, 115]⟩, ⟨#[]⟩, 2⟩, ⟨14, 5, ⟨#[]⟩, ⟨#[]⟩, ⟨#[]⟩, 0⟩]) := by kernel_rfl
theorem Trw.t2_is : Trw.parseS (Trw.natsB [119, 101, 105, 103, 104, 32, 48, 32, 109, 105, 120, 32, 45, 10]) = (41, 0, []) := by kernel_rfl
theorem Trw.t3_is : Trw.parseS (Trw.natsB [104, 97, 114, 100, 32, 97, 116, 32, 97, 110, 110, 97, 32, 45, 10]) = (4, 0, []) := by kernel_rfl
theorem Trw.scalar_int {k : IntKind} {i : Int} : ∃ k' i', (AV.int k i) = .int k' i' ∨ ∃ s, (AV.int k i) = .str s ∧ ∀ c ∈ s, c < 256 := ⟨k, i, .inl rfl⟩
theorem Trw.scalar_str {s : List Nat} (h : s.all (fun c => decide (c < 256)) = true) : ∃ k' i', (AV.str s) = .int k' i' ∨ ∃ s', (AV.str s) = .str s' ∧ ∀ c ∈ s', c < 256 := ⟨.i64, 0, .inr ⟨s, rfl, fun c hc => by have := List.all_eq_true.1 h c hc; simpa using this⟩⟩
theorem Trw.p1_ok {C : Cells} {m : Int} (hC : C ⟨0, 0, none⟩ = some (.int .i64 m)) : FnOk Tryz.prog C 6 Trw.P1 :=
  Trw.parseLit_ok hC (by decide) Trw.t1_is rfl rfl (by rfl) (by
    intro v hv
    simp only [List.mem_cons, List.not_mem_nil, or_false] at hv
    rcases hv with rfl | rfl | rfl | rfl | rfl | rfl | rfl | rfl | rfl | rfl | rfl | rfl <;> first | exact Trw.scalar_int | exact Trw.scalar_str (by decide)) (by decide)
theorem Trw.p2_ok {C : Cells} {m : Int} (hC : C ⟨0, 0, none⟩ = some (.int .i64 m)) : FnOk Tryz.prog C 6 Trw.P2 := Trw.parseLit_ok hC (by decide) Trw.t2_is rfl rfl rfl (by simp) (by decide)
theorem Trw.p3_ok {C : Cells} {m : Int} (hC : C ⟨0, 0, none⟩ = some (.int .i64 m)) : FnOk Tryz.prog C 6 Trw.P3 := Trw.parseLit_ok hC (by decide) Trw.t3_is rfl rfl rfl (by simp) (by decide)

noncomputable def Trw.orcA : Oracle := orcOf [(266, cmpS), (18, orS (litS litN0) (litS litN1)), (6, orS Trw.P1 (orS Trw.P2 Trw.P3))]
noncomputable def Trw.chkA : Bool := callK (R := Bool) false Trw.orcA gg 100000 60 9 [] { heap := .e, next := .o (.i (.o (.i (.o (.i (.o (.i (.o .h)))))))) } fun v _ => beqAV v (.bool true)
theorem Trw.chkA_true : Trw.chkA = true := by kernel_rfl

theorem Trw.cmp_ok {C : Cells} : FnOk Tryz.prog C 266 cmpS := cmp_fnOk (fn := Tryz.f266) Tryz.func266 (by kernel_rfl) (by kernel_rfl) (by kernel_rfl) (by kernel_rfl)
theorem Trw.lit0_ok {C : Cells} : FnOk Tryz.prog C 18 (litS litN0) := by
  have ho := orcOf_ok (P := Tryz.prog) (C := C) (l := [(266, cmpS)]) (fun x hx => by simp at hx; subst hx; exact Trw.cmp_ok)
  exact lit_fnOk (O := orcN0) (G := gg) (m := 100000) (d := 60) (call_sound (by kernel_rfl) tt_ok ho.1 ho.2 gg_ok _ _) (callA_mono ho.2 _ _) keysN0 chkN0
theorem Trw.lit1_ok {C : Cells} : FnOk Tryz.prog C 18 (litS litN1) := by
  have ho := orcOf_ok (P := Tryz.prog) (C := C) (l := [(266, cmpS)]) (fun x hx => by simp at hx; subst hx; exact Trw.cmp_ok)
  exact lit_fnOk (O := orcN1) (G := gg) (m := 100000) (d := 60) (call_sound (by kernel_rfl) tt_ok ho.1 ho.2 gg_ok _ _) (callA_mono ho.2 _ _) keysN1 chkN1

noncomputable def Trw.cellsM (m : Int) : Cells := fun ad => open Classical in if ad = ⟨0, 0, none⟩ then some (.int .i64 m) else none
theorem Trw.awake9 (m : Int) (w : World) (hm : w.cell? ⟨0, 0, none⟩ = some (.int .i64 m)) : Calls Tryz.prog 9 #[] w fun e w' => e = .returned (.bool true) ∧ Below w.heap.size w w' := by
  have hC : Trw.cellsM m ⟨0, 0, none⟩ = some (.int .i64 m) := by unfold Trw.cellsM; rw [if_pos rfl]
  have ho := orcOf_ok (P := Tryz.prog) (C := Trw.cellsM m) (l := [(266, cmpS), (18, orS (litS litN0) (litS litN1)), (6, orS Trw.P1 (orS Trw.P2 Trw.P3))]) (fun x hx => by
    simp only [List.mem_cons, List.not_mem_nil, or_false] at hx
    rcases hx with rfl | rfl | rfl
    · exact Trw.cmp_ok
    · exact orS_ok Trw.lit0_ok Trw.lit1_ok
    · exact orS_ok (Trw.p1_ok hC) (orS_ok (Trw.p2_ok hC) (Trw.p3_ok hC)))
  exact closed_boolC (by kernel_rfl) tt_ok gg_ok ho.1 ho.2 (fn := Tryz.f9) (c := Tryz.f9.body.get rfl) Tryz.func9 (by decide) rfl Trw.chkA_true w (fun ad v h => by
    unfold Trw.cellsM at h
    split at h
    · rename_i e; subst e; injection h with h; subst h; exact hm
    · cases h)

theorem Trw.reads (s : ByteArray) (m : Int) (w : World) (hs : s.size ≤ maxLen) (hm : w.cell? ⟨0, 0, none⟩ = some (.int .i64 m)) : Calls Tryz.prog 3 #[.string s] w fun e w' => e = .returned (.bool true) ∧ Below w.heap.size w w' :=
  Trw.reads3 Trw.awake9 s m w hs hm
end Go.Proofs
end
