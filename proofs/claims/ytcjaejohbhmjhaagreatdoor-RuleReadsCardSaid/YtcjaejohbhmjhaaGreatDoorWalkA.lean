/- Contracts of the readers of names and numbers and of the library's calls. -/
import Derived.Laws.World
import Derived.Test.YtcjaejohbhmjhaaGreatDoorProg
import Derived.WalkKit
import Derived.WalkSpells
import Derived.WalkLawsBesides
import Derived.Lib.Hide
import Derived.Test.YtcjaejohbhmjhaaGreatDoorTabs
import Derived.Test.YtcjaejohbhmjhaaGreatDoorEvalD
import Derived.KernelRfl
import Derived.Maps.RangeWalk
import Derived.Deep.QuietTactic
import Derived.BigQuiet
import Derived.Deep.Draws
import Derived.WalkSmall
import Derived.Shelf.Small.Strs
import Derived.Shelf.Strings.Split
import Derived.Ground.NamesProg
import Derived.Lib.Strings
import Derived.Lib.Slices
import Derived.Lib.Walk
import Derived.Shelf.LaysM
import Derived.Shelf.Strings.Shaped
set_option linter.all false
set_option linter.unusedSectionVars false
set_option linter.deprecated false
section
namespace Go.Trw

def isDig (c : UInt8) : Bool := 48 ≤ c && c ≤ 57
def isLow (c : UInt8) : Bool := 97 ≤ c && c ≤ 122

theorem isDig_iff (c : UInt8) : isDig c = true ↔ (48 ≤ (c.toNat : Int) ∧ (c.toNat : Int) ≤ 57) := by
  simp [isDig, UInt8.le_iff_toNat_le]; omega
theorem isLow_iff (c : UInt8) : isLow c = true ↔ (97 ≤ (c.toNat : Int) ∧ (c.toNat : Int) ≤ 122) := by
  simp [isLow, UInt8.le_iff_toNat_le]; omega

/-- the number that a list of digits says. -/
def val (l : List UInt8) : Nat := l.foldl (fun n c => 10 * n + (c.toNat - 48)) 0

theorem val_snoc (l : List UInt8) (c : UInt8) : val (l ++ [c]) = 10 * val l + (c.toNat - 48) := by
  simp [val]

theorem val_lt_go (l : List UInt8) (n : Nat) (h : l.all isDig = true) : l.foldl (fun n c => 10 * n + (c.toNat - 48)) n < (n + 1) * 10 ^ l.length := by
  induction l generalizing n with
  | nil => simp
  | cons c l ih =>
    simp only [Bool.and_eq_true, List.all_cons] at h
    have hc := (isDig_iff c).1 h.1
    have := ih (10 * n + (c.toNat - 48)) h.2
    rw [List.foldl_cons, List.length_cons, Nat.pow_succ]
    refine Nat.lt_of_lt_of_le this ?_
    have : 10 * n + (c.toNat - 48) + 1 ≤ (n + 1) * 10 := by omega
    calc _ ≤ ((n + 1) * 10) * 10 ^ l.length := Nat.mul_le_mul_right _ this
      _ = _ := by rw [Nat.mul_assoc, Nat.mul_comm 10]
theorem val_lt (l : List UInt8) (h : l.all isDig = true) : val l < 10 ^ l.length := by
  have := val_lt_go l 0 h; simpa [val] using this

def numOk (l : List UInt8) : Bool := decide (1 ≤ l.length) && decide (l.length ≤ 9) && !(decide (1 < l.length) && l.head? == some 48) && l.all isDig
/-- what a text says as a number of 1 to 9 digits; 0 if nothing. -/
def numV (l : List UInt8) : Int := if numOk l = true then (val l : Int) else 0

def nameOk (l : List UInt8) : Bool := decide (1 ≤ l.length) && decide (l.length ≤ 12) && l.all isLow

theorem take_snoc (s : ByteArray) (k : Nat) (h : k < s.size) : s.data.toList.take (k + 1) = s.data.toList.take k ++ [s[k]] := by
  rw [List.take_succ_eq_append_getElem (by simpa using h)]; rfl

theorem all_snoc (p : UInt8 → Bool) (s : ByteArray) (k : Nat) (h : k < s.size) (ha : (s.data.toList.take k).all p = true) (hc : p s[k] = true) : (s.data.toList.take (k + 1)).all p = true := by
  rw [take_snoc s k h]; simp [ha, hc]

theorem not_all (p : UInt8 → Bool) (s : ByteArray) (k : Nat) (h : k < s.size) (hc : p s[k] = false) : s.data.toList.all p = false := by
  rw [Bool.eq_false_iff]
  intro e
  have := List.all_eq_true.1 e s[k] (by
    have : s[k] = s.data.toList[k]'(by simpa using h) := rfl
    rw [this]; exact List.getElem_mem _)
  rw [this] at hc; cases hc

theorem all_full (p : UInt8 → Bool) (s : ByteArray) (ha : (s.data.toList.take s.size).all p = true) : s.data.toList.all p = true := by
  rwa [List.take_of_length_le (by simp)] at ha

theorem head_of (s : ByteArray) (h : 0 < s.size) : s.data.toList.head? = some s[0] := by
  have : s.data.toList.head? = s.data.toList[0]? := by simp [List.head?_eq_getElem?]
  rw [this, List.getElem?_eq_getElem (by simpa using h)]; rfl

end Go.Trw
end

section
namespace Go.Proofs
open Go.RowKit Go.Trw

theorem Trw.ret_bool {a b : Bool} (h : a = b) : Ending.returned (.bool a) = .returned (.bool b) := by rw [h]

theorem Trw.ret_yes {l t : List UInt8} (ht : t = l) (h : numOk l = true) : Ending.returned (.tuple #[.int .i64 (val t), .bool true]) = .returned (.tuple #[.int .i64 (numV l), .bool (numOk l)]) := by rw [numV, if_pos h, h, ht]

theorem Trw.ret_no {l : List UInt8} (h : numOk l = false) : Ending.returned (.tuple #[.int .i64 0, .bool false]) = .returned (.tuple #[.int .i64 (numV l), .bool (numOk l)]) := by rw [numV, h]; rfl

set_option maxHeartbeats 400000 in
theorem Trw.name81 (s : ByteArray) (w : World) (hs : s.size ≤ maxLen) :
    Calls Tryz.prog 81 #[.string s] w fun e w' => e = .returned (.bool (nameOk s.data.toList)) ∧ w = w' := by
  unfold maxLen at hs
  by_cases h0 : s.size < 1
  · have hb : Hid (nameOk s.data.toList = false) := Lib.hid (by simp [nameOk]; omega)
    go_enter Tryz.func81, Tryz.ntmps81
    go_wp2
    go_ret
    exact ⟨Trw.ret_bool hb.out.symm, rfl⟩
  by_cases h12 : 12 < s.size
  · have hb : Hid (nameOk s.data.toList = false) := Lib.hid (by simp [nameOk]; omega)
    go_enter Tryz.func81, Tryz.ntmps81
    go_wp2
    go_ret
    exact ⟨Trw.ret_bool hb.out.symm, rfl⟩
  go_enter Tryz.func81, Tryz.ntmps81
  go_wp2
  go_loop [3] (fun i => ∃ k : Nat, k ≤ s.size ∧ i = .int .i64 k ∧ (s.data.toList.take k).all isLow = true) (fun i => s.size - (intOf i).toNat)
  case atStart => exact ⟨0, Nat.zero_le _, rfl, rfl⟩
  case round =>
    obtain ⟨k, hk, rfl, hal⟩ := hrel
    have HA := Lib.hid hal; clear hal
    by_cases hlt : k < s.size
    · by_cases h1 : (s[k].toNat : Int) < 97
      · go_wp2
        go_ret
        refine ⟨Trw.ret_bool ?_, rfl⟩
        have : isLow s[k] = false := by rw [Bool.eq_false_iff]; intro e; have := (isLow_iff _).1 e; omega
        simp [nameOk, not_all isLow s k hlt this]
      · by_cases h2 : 122 < (s[k].toNat : Int)
        · go_wp2
          go_ret
          refine ⟨Trw.ret_bool ?_, rfl⟩
          have : isLow s[k] = false := by rw [Bool.eq_false_iff]; intro e; have := (isLow_iff _).1 e; omega
          simp [nameOk, not_all isLow s k hlt this]
        · go_wp2
          go_round
          case rel => exact ⟨k + 1, by omega, by go_num, all_snoc isLow s k hlt HA.out ((isLow_iff _).2 (by omega))⟩
          case measure => simp [intOf]; omega
    · go_wp2
      go_ret
      obtain rfl : k = s.size := by omega
      refine ⟨Trw.ret_bool ?_, rfl⟩
      simp [nameOk, all_full isLow s HA.out]; omega

set_option maxHeartbeats 400000 in
theorem Trw.name117 (s : ByteArray) (w : World) (hs : s.size ≤ maxLen) :
    Calls Tryz.prog 117 #[.string s] w fun e w' => e = .returned (.bool (nameOk s.data.toList)) ∧ w = w' := by
  unfold maxLen at hs
  by_cases h0 : s.size = 0
  · have hb : Hid (nameOk s.data.toList = false) := Lib.hid (by simp [nameOk]; omega)
    go_enter Tryz.func117, Tryz.ntmps117
    go_wp2
    go_ret
    exact ⟨Trw.ret_bool hb.out.symm, rfl⟩
  by_cases h12 : 12 < s.size
  · have hb : Hid (nameOk s.data.toList = false) := Lib.hid (by simp [nameOk]; omega)
    go_enter Tryz.func117, Tryz.ntmps117
    go_wp2
    go_ret
    exact ⟨Trw.ret_bool hb.out.symm, rfl⟩
  have e0 : ((s.size : Int) == 0) = false := by rw [beq_eq_false_iff_ne]; omega
  go_enter Tryz.func117, Tryz.ntmps117
  go_wp2
  go_loop [3, 14] (fun _ i => ∃ k : Nat, k ≤ s.size ∧ i = .int .i64 k ∧ (s.data.toList.take k).all isLow = true) (fun _ i => s.size - (intOf i).toNat)
  case atStart => exact ⟨0, Nat.zero_le _, rfl, rfl⟩
  case round =>
    obtain ⟨k, hk, rfl, hal⟩ := hrel
    have HA := Lib.hid hal; clear hal
    by_cases hlt : k < s.size
    · by_cases h1 : (s[k].toNat : Int) < 97
      · go_wp2
        go_ret
        refine ⟨Trw.ret_bool ?_, rfl⟩
        have : isLow s[k] = false := by rw [Bool.eq_false_iff]; intro e; have := (isLow_iff _).1 e; omega
        simp [nameOk, not_all isLow s k hlt this]
      · by_cases h2 : 122 < (s[k].toNat : Int)
        · go_wp2
          go_ret
          refine ⟨Trw.ret_bool ?_, rfl⟩
          have : isLow s[k] = false := by rw [Bool.eq_false_iff]; intro e; have := (isLow_iff _).1 e; omega
          simp [nameOk, not_all isLow s k hlt this]
        · go_wp2
          go_round
          case rel => exact ⟨k + 1, by omega, by go_num, all_snoc isLow s k hlt HA.out ((isLow_iff _).2 (by omega))⟩
          case measure => simp [intOf]; omega
    · go_wp2
      go_ret
      obtain rfl : k = s.size := by omega
      refine ⟨Trw.ret_bool ?_, rfl⟩
      simp [nameOk, all_full isLow s HA.out]; omega

set_option maxHeartbeats 1000000 in
theorem Trw.num75 (s : ByteArray) (w : World) (hs : s.size ≤ maxLen) :
    Calls Tryz.prog 75 #[.string s] w fun e w' => e = .returned (.tuple #[.int .i64 (numV s.data.toList), .bool (numOk s.data.toList)]) ∧ w = w' := by
  unfold maxLen at hs
  by_cases h0 : s.size = 0
  · have hb : Hid (numOk s.data.toList = false) := Lib.hid (by simp [numOk]; omega)
    go_enter Tryz.func75, Tryz.ntmps75
    go_wp2
    go_ret2
    exact ⟨Trw.ret_no hb.out, rfl⟩
  by_cases h9 : 9 < s.size
  · have hb : Hid (numOk s.data.toList = false) := Lib.hid (by simp [numOk]; omega)
    go_enter Tryz.func75, Tryz.ntmps75
    go_wp2
    go_ret2
    exact ⟨Trw.ret_no hb.out, rfl⟩
  have e0 : ((s.size : Int) == 0) = false := by rw [beq_eq_false_iff_ne]; omega
  go_enter Tryz.func75, Tryz.ntmps75
  go_wp2
  go_loop [4, 5] (fun n i => ∃ k : Nat, k ≤ s.size ∧ i = .int .i64 k ∧ n = .int .i64 (val (s.data.toList.take k)) ∧ (s.data.toList.take k).all isDig = true ∧ (1 < k → ∀ h : 0 < s.size, s[0] ≠ 48)) (fun _ i => s.size - (intOf i).toNat)
  case atStart => exact ⟨0, Nat.zero_le _, rfl, rfl, rfl, fun h => by omega⟩
  case round =>
    obtain ⟨k, hk, rfl, rfl, hal, hz⟩ := hrel
    have hv : val (s.data.toList.take k) < 1000000000 := by
      have := val_lt _ hal
      rw [List.length_take] at this
      have h2 : (10:Nat) ^ (min k s.data.toList.length) ≤ 10 ^ 9 := Nat.pow_le_pow_right (by omega) (by simp; omega)
      omega
    have HA := Lib.hid hal; clear hal
    have HZ := Lib.hid hz; clear hz
    by_cases hlt : k < s.size
    · have HS : Hid (val (s.data.toList.take (k + 1)) = 10 * val (s.data.toList.take k) + (s[k].toNat - 48)) := Lib.hid (by rw [take_snoc s k hlt, val_snoc])
      by_cases h1 : (s[k].toNat : Int) < 48
      · go_wp2
        go_ret2
        refine ⟨Trw.ret_no ?_, rfl⟩
        have : isDig s[k] = false := by rw [Bool.eq_false_iff]; intro e; have := (isDig_iff _).1 e; omega
        simp [numOk, not_all isDig s k hlt this]
      · by_cases h2 : 57 < (s[k].toNat : Int)
        · go_wp2
          go_ret2
          refine ⟨Trw.ret_no ?_, rfl⟩
          have : isDig s[k] = false := by rw [Bool.eq_false_iff]; intro e; have := (isDig_iff _).1 e; omega
          simp [numOk, not_all isDig s k hlt this]
        · have hd := all_snoc isDig s k hlt HA.out ((isDig_iff _).2 (by omega))
          have HD := Lib.hid hd; clear hd
          by_cases hk1 : k = 1
          · subst hk1
            by_cases h3 : ((s[0].toNat : Int) == 48) = true
            · go_wp2
              go_ret2
              refine ⟨Trw.ret_no ?_, rfl⟩
              have h3' : (s[0].toNat : Int) = 48 := by simpa using h3
              have : s[0] = 48 := UInt8.toNat_inj.1 (by simpa using (by omega : s[0].toNat = 48))
              simp [numOk, head_of s (by omega), this]; omega
            · have h4 : ((s[0].toNat : Int) == 48) = false := by simpa using h3
              clear h3
              go_wp2
              go_round
              case rel =>
                have h5 : (s[0].toNat : Int) ≠ 48 := by simpa using h4
                refine ⟨2, by omega, by go_num, ?_, HD.out, fun _ _ e => h5 (by rw [e]; rfl)⟩
                rw [HS.out]; go_num
              case measure => simp [intOf]; omega
          · have e1 : ((k : Int) == 1) = false := by rw [beq_eq_false_iff_ne]; omega
            go_wp2
            go_round
            case rel =>
              refine ⟨k + 1, by omega, by go_num, ?_, HD.out, fun h => HZ.out (by omega)⟩
              rw [HS.out]; go_num
            case measure => simp [intOf]; omega
    · go_wp2
      go_ret2
      obtain rfl : k = s.size := by omega
      refine ⟨Trw.ret_yes (by rw [List.take_of_length_le (by simp)]) ?_, rfl⟩
      have hall := all_full isDig s HA.out
      simp only [numOk, hall, Bool.and_true, Bool.and_eq_true, decide_eq_true_eq, Bool.not_eq_true']
      refine ⟨⟨by simp; omega, by simp; omega⟩, ?_⟩
      by_cases h : 1 < s.size
      · have := HZ.out h (by omega)
        rw [head_of s (by omega)]; simp [this]
      · simp; omega

set_option maxHeartbeats 1000000 in
theorem Trw.num73 (s : ByteArray) (w : World) (hs : s.size ≤ maxLen) :
    Calls Tryz.prog 73 #[.string s] w fun e w' => e = .returned (.tuple #[.int .i64 (numV s.data.toList), .bool (numOk s.data.toList)]) ∧ w = w' := by
  unfold maxLen at hs
  by_cases h0 : s.size = 0
  · have hb : Hid (numOk s.data.toList = false) := Lib.hid (by simp [numOk]; omega)
    go_enter Tryz.func73, Tryz.ntmps73
    go_wp2
    go_ret2
    exact ⟨Trw.ret_no hb.out, rfl⟩
  have e0 : ((s.size : Int) == 0) = false := by rw [beq_eq_false_iff_ne]; omega
  by_cases h9 : 9 < s.size
  · have hb : Hid (numOk s.data.toList = false) := Lib.hid (by simp [numOk]; omega)
    go_enter Tryz.func73, Tryz.ntmps73
    go_wp2
    go_ret2
    exact ⟨Trw.ret_no hb.out, rfl⟩
  have h00 : 0 < s.size := by omega
  by_cases hz : 1 < s.size ∧ (((s[0]'h00).toNat : Int) == 48) = true
  · obtain ⟨hz1, hz2⟩ := hz
    have hb : Hid (numOk s.data.toList = false) := Lib.hid (by
      have h3' : (s[0].toNat : Int) = 48 := by simpa using hz2
      have : s[0] = 48 := UInt8.toNat_inj.1 (by simpa using (by omega : s[0].toNat = 48))
      simp [numOk, head_of s (by omega), this]; omega)
    go_enter Tryz.func73, Tryz.ntmps73
    go_wp2
    go_ret2
    exact ⟨Trw.ret_no hb.out, rfl⟩
  have HZ : Hid (1 < s.size → ∀ h : 0 < s.size, s[0] ≠ 48) := Lib.hid (fun h1 h e => hz ⟨h1, by rw [e]; rfl⟩)
  have main : ∀ (Hc : s.size = 1 ∨ (1 < s.size ∧ (((s[0]'h00).toNat : Int) == 48) = false)), Calls Tryz.prog 73 #[.string s] w fun e w' => e = .returned (.tuple #[.int .i64 (numV s.data.toList), .bool (numOk s.data.toList)]) ∧ w = w' := by
    intro Hc
    clear hz
    rcases Hc with Hc | ⟨Hc, Hd⟩
    all_goals
      go_enter Tryz.func73, Tryz.ntmps73
      go_wp2
      go_loop [4, 5, 26] (fun n _ i => ∃ k : Nat, k ≤ s.size ∧ i = .int .i64 k ∧ n = .int .i64 (val (s.data.toList.take k)) ∧ (s.data.toList.take k).all isDig = true) (fun _ _ i => s.size - (intOf i).toNat)
      case atStart => exact ⟨0, Nat.zero_le _, rfl, rfl, rfl⟩
      case round =>
        obtain ⟨k, hk, rfl, rfl, hal⟩ := hrel
        have hv : val (s.data.toList.take k) < 1000000000 := by
          have := val_lt _ hal
          rw [List.length_take] at this
          have h2 : (10:Nat) ^ (min k s.data.toList.length) ≤ 10 ^ 9 := Nat.pow_le_pow_right (by omega) (by simp; omega)
          omega
        have HA := Lib.hid hal; clear hal
        by_cases hlt : k < s.size
        · have HS : Hid (val (s.data.toList.take (k + 1)) = 10 * val (s.data.toList.take k) + (s[k].toNat - 48)) := Lib.hid (by rw [take_snoc s k hlt, val_snoc])
          by_cases h1 : (s[k].toNat : Int) < 48
          · go_wp2
            go_ret2
            refine ⟨Trw.ret_no ?_, rfl⟩
            have : isDig s[k] = false := by rw [Bool.eq_false_iff]; intro e; have := (isDig_iff _).1 e; omega
            simp [numOk, not_all isDig s k hlt this]
          · by_cases h2 : 57 < (s[k].toNat : Int)
            · go_wp2
              go_ret2
              refine ⟨Trw.ret_no ?_, rfl⟩
              have : isDig s[k] = false := by rw [Bool.eq_false_iff]; intro e; have := (isDig_iff _).1 e; omega
              simp [numOk, not_all isDig s k hlt this]
            · have hd := all_snoc isDig s k hlt HA.out ((isDig_iff _).2 (by omega))
              have HD := Lib.hid hd; clear hd
              go_wp2
              go_round
              case rel =>
                refine ⟨k + 1, by omega, by go_num, ?_, HD.out⟩
                rw [HS.out]; go_num
              case measure => simp [intOf]; omega
        · go_wp2
          go_ret2
          obtain rfl : k = s.size := by omega
          refine ⟨Trw.ret_yes (by rw [List.take_of_length_le (by simp)]) ?_, rfl⟩
          have hall := all_full isDig s HA.out
          simp only [numOk, hall, Bool.and_true, Bool.and_eq_true, decide_eq_true_eq, Bool.not_eq_true']
          refine ⟨⟨by simp; omega, by simp; omega⟩, ?_⟩
          by_cases h : 1 < s.size
          · have := HZ.out h (by omega)
            rw [head_of s (by omega)]; simp [this]
          · simp; omega
  by_cases h1 : 1 < s.size
  · exact main (.inr ⟨h1, by
      have := HZ.out h1 (by omega)
      rw [beq_eq_false_iff_ne]; intro e
      exact this (UInt8.toNat_inj.1 (by simpa using (by omega : s[0].toNat = 48)))⟩)
  · exact main (.inl (by omega))

end Go.Proofs
end

section
set_option maxRecDepth 100000
namespace Go.Trw
open Go

def words : List (List UInt8) := [[], [97, 112, 97, 114, 116], [98, 101, 115, 105, 100, 101], [97, 99, 114, 111, 115, 115], [110, 101, 97, 114], [116, 111, 103, 101, 116, 104, 101, 114], [97, 116], [115, 101, 97, 116], [97, 108, 116, 101, 114, 110, 97, 116, 101], [104, 111, 115, 116], [114, 101, 97, 99, 104], [115, 112, 101, 97, 107], [112, 101, 97, 99, 101], [99, 111, 109, 112, 97, 110, 121], [104, 111, 110, 111, 117, 114], [102, 105, 108, 108], [108, 105, 109, 105, 116], [107, 105, 116, 99, 104, 101, 110], [109, 105, 120]]
def wordL (c : Nat) : List UInt8 := words.getD c []
def wordB (c : Nat) : ByteArray := ⟨(wordL c).toArray⟩
def faI (c : Nat) : Int := ([0, 103, 103, 103, 103, 103, 103, 103, 0, 0, 101, 0, 0, 0, 0, 0, 0, 100, 0] : List Int).getD c 0
def fbB (c : Nat) : Bool := decide (1 ≤ c ∧ c ≤ 5)
def ftI (c : Nat) : Int := ([0, 0, 0, 0, 0, 0, 116, 116, 101, 101, 0, 101, 101, 101, 101, 101, 101, 116, 101] : List Int).getD c 0
def fnB (c : Nat) : Bool := c == 1 || c == 4 || c == 7 || c == 15 || c == 16
def loI (c : Nat) : Int := if c = 4 then 1 else 0
def seB (c : Nat) : Bool := c == 7
def fnV (c : Nat) : Value := if c = 0 then .nilFunc else .func (.func (96 + c)) #[] #[]
def kindV (c : Nat) : Value := .agg #[.string (wordB c), .int .u8 (faI c), .bool (fbB c), .int .u8 (ftI c), .bool (fnB c), .int .i64 (loI c), .bool (seB c), fnV c]
def kindE (i : Nat) : MapEntry := { key := .int .u8 ((i + 1 : Nat) : Int), val := kindV (i + 1), born := i }
def kindEs : Array MapEntry := ((List.range 18).map kindE).toArray
end Go.Trw

namespace Go.Ai
open Go

/-- What a closed call leaves, if the evaluator answers. -/
theorem closed_call {P : Program} {tt : TT} {O : Oracle} {G : T AFunc} {m d f : Nat} {n0 : Pos} {fn : Func} {c : Code} (hm : P.follows .mixedOrders = true) (hT : TTOk P tt) (hG : GOk P tt G)
    (hO : OracleOk P (fun _ => none) O) (hOm : OracleMono O) (hf : P.funcs[f]? = some fn) (hname : ¬ fn.name = "runtime.NumGoroutine") (hb : fn.body = some c) {v : AV} {st1 : St}
    (h : callA O G m d f [] { heap := .e, next := n0 } = some (v, st1)) (w : World) :
    Calls P f #[] w fun e w' => ∃ x ρ', e = .returned x ∧ VRel ρ' st1.next.toNat (fun _ => none) v x ∧ WRel ρ' (fun _ => none) st1 w' ∧ (∀ b y, st1.heap.get b = some y → w.heap.size ≤ (ρ' b).blk) ∧
      w'.os = w.os ∧ w'.tape = w.tape ∧ w'.output = w.output ∧ w.heap.size ≤ w'.heap.size ∧ ∀ k, k < w.heap.size → w'.heap[k]? = w.heap[k]? := by
  have hr := call_sound hm hT hO hOm hG m d (fun _ => ⟨0, 0, 0⟩) { heap := .e, next := n0 } w f [] v st1 [] h (empty_rel fun _ _ h => by cases h) VsRel.nil
  have hrun : (callFunc f ([] : List Value).toArray).run P w = .ok (.enter f #[]) w := by simp [callFunc, hf, hname, hb]
  rw [hrun] at hr
  refine Calls.mono hr fun e w' he => ?_
  cases e with
  | returned x =>
    obtain ⟨ρ', h1, _, _, h4, hE⟩ := he
    refine ⟨x, ρ', rfl, h1, h4, fun b y hb => ?_, hE.os, hE.tape, hE.output, hE.size, fun k hk => hE.block k hk fun b x hb => by rw [T.get_e] at hb; cases hb⟩
    rcases hE.orig b y hb with ⟨b', x', h2, _⟩ | h2
    · rw [T.get_e] at h2; cases h2
    · exact h2
  | panicked c => exact he.elim
  | outgrown => exact he.elim
end Go.Ai

namespace Go.Trw
open Go Go.Ai

def conc1 : AV → Option Value
  | .bool b => some (.bool b)
  | .int k i => some (.int k i)
  | .str s => some (.string ⟨(s.map UInt8.ofNat).toArray⟩)
  | .func f [] [] => some (.func (.func f) #[] #[])
  | _ => none

theorem conc1_eq {ρ : Pos → Go.Ai.Loc} {n : Nat} {C : Cells} {v : AV} {x y : Value} (h : VRel ρ n C v x) (hc : conc1 v = some y) : x = y := by
  cases h with
  | bool b => simp [conc1] at hc; exact hc
  | int k i => simp [conc1] at hc; exact hc
  | str s bs hb =>
    simp only [conc1, Option.some.injEq] at hc
    rw [← hc, ← hb, List.map_map]
    have : (UInt8.ofNat ∘ UInt8.toNat) = id := by funext c; simp
    rw [this, List.map_id]
  | func f a b a' b' hx hy h1 h2 =>
    cases a <;> cases b <;> simp [conc1] at hc
    rw [← hc]
    have e1 : a' = #[] := Array.eq_empty_of_size_eq_zero (by simpa using hx.symm)
    have e2 : b' = #[] := Array.eq_empty_of_size_eq_zero (by simpa using hy.symm)
    rw [e1, e2]
  | _ => simp [conc1] at hc

theorem concs_eq {ρ : Pos → Go.Ai.Loc} {n : Nat} {C : Cells} : ∀ {l : List AV} {xs ys : List Value}, VsRel ρ n C l xs → l.mapM conc1 = some ys → xs = ys
  | [], [], ys, _, h => by simp at h; rw [h]
  | [], _ :: _, _, h, _ => by have := h.1; simp at this
  | _ :: _, [], _, h, _ => by have := h.1; simp at this
  | v :: l, x :: xs, ys, h, hm => by
    simp only [List.mapM_cons, Option.bind_eq_bind, Option.bind_eq_some_iff, Option.pure_def, Option.some.injEq] at hm
    obtain ⟨y, hy, zs, hz, rfl⟩ := hm
    have h0 : VRel ρ n C v x := h.2 0 v x rfl rfl
    have ih := concs_eq (ρ := ρ) (n := n) (C := C) (l := l) (xs := xs) ⟨by have := h.1; simpa using this, fun i a b ha hb => h.2 (i + 1) a b (by simpa using ha) (by simpa using hb)⟩ hz
    rw [conc1_eq h0 hy, ih]

def absV (c : Nat) : List AV := [.str ((wordL c).map UInt8.toNat), .int .u8 (faI c), .bool (fbB c), .int .u8 (ftI c), .bool (fnB c), .int .i64 (loI c), .bool (seB c), .func (96 + c) [] []]
def absE (i : Nat) : AV × AV × Nat := (.int .u8 ((i + 1 : Nat) : Int), .agg (absV (i + 1)), i)
def absEs : List (AV × AV × Nat) := (List.range 18).map absE
def kindCells (c : Nat) : List Value := [.string (wordB c), .int .u8 (faI c), .bool (fbB c), .int .u8 (ftI c), .bool (fnB c), .int .i64 (loI c), .bool (seB c), fnV c]
theorem kindV_eq (c : Nat) : kindV c = .agg (kindCells c).toArray := rfl

theorem conc_kind : ∀ (i : Nat), i < 18 → (absV (i + 1)).mapM conc1 = some (kindCells (i + 1))
  | 0, _ => rfl
  | 1, _ => rfl
  | 2, _ => rfl
  | 3, _ => rfl
  | 4, _ => rfl
  | 5, _ => rfl
  | 6, _ => rfl
  | 7, _ => rfl
  | 8, _ => rfl
  | 9, _ => rfl
  | 10, _ => rfl
  | 11, _ => rfl
  | 12, _ => rfl
  | 13, _ => rfl
  | 14, _ => rfl
  | 15, _ => rfl
  | 16, _ => rfl
  | 17, _ => rfl
  | n + 18, h => absurd h (by omega)

theorem es_eq {ρ : Pos → Go.Ai.Loc} {n : Nat} {C : Cells} {es' : Array MapEntry} (h2 : absEs.length = es'.size)
    (h3 : ∀ (i : Nat) (e : AV × AV × Nat) (e' : MapEntry), absEs[i]? = some e → es'[i]? = some e' → VRel ρ n C e.1 e'.key ∧ VRel ρ n C e.2.1 e'.val ∧ e.2.2 = e'.born) : es' = kindEs := by
  have hs : es'.size = 18 := by rw [← h2]; simp [absEs]
  apply Array.ext
  · rw [hs]; simp [kindEs]
  · intro i hi hi'
    rw [hs] at hi
    have he : absEs[i]? = some (absE i) := by simp [absEs, hi]
    have he' : es'[i]? = some es'[i] := Array.getElem?_eq_getElem _
    obtain ⟨a1, a2, a3⟩ := h3 i _ _ he he'
    have hk : kindEs[i] = kindE i := by simp [kindEs]
    rw [hk]
    have b1 : es'[i].key = .int .u8 ((i + 1 : Nat) : Int) := conc1_eq a1 rfl
    obtain ⟨cs, hc1, hc2⟩ := a2.agg_inv
    have b2 : es'[i].val = kindV (i + 1) := by
      have hcc := concs_eq hc2 (conc_kind i hi)
      rw [hc1, kindV_eq, ← hcc]
    have b3 : es'[i].born = i := a3.symm
    calc es'[i] = ⟨es'[i].key, es'[i].val, es'[i].born⟩ := rfl
      _ = kindE i := by rw [b1, b2, b3]; rfl
end Go.Trw

namespace Go.Proofs
open Go Go.Ai Go.Trw Go.RowKit Go.Proofs.YtcjaejohbhmjhaaGreatDoor

noncomputable def Trw.chkKinds : Bool := callK (R := Bool) false (fun _ => none) gg 100000 60 47 [] { heap := .e, next := .h } fun v st => match v with
  | .map b => match st.heap.get b with
    | some (.map es c) => beqEs es absEs && Nat.beq c 18
    | _ => false
  | _ => false
theorem Trw.chkKinds_true : Trw.chkKinds = true := by kernel_rfl

/-- rule.kinds: A MAP OF THE EIGHTEEN KINDS, in a block of its own. -/
theorem Trw.kinds (w : World) : Calls Tryz.prog 47 #[] w fun e w' => ∃ b, e = .returned (.map (some b)) ∧ w.heap.size ≤ b ∧ w'.heap[b]? = some (.map kindEs 18) ∧ Below w.heap.size w w' := by
  have h := Trw.chkKinds_true
  unfold Trw.chkKinds at h
  rw [callK_eq false (fun _ => none) gg 100000 60] at h
  unfold andK at h
  split at h <;> first | (cases h; done) | skip
  rename_i x hx
  obtain ⟨v, st1⟩ := x
  simp only at h
  split at h <;> first | (cases h; done) | skip
  rename_i b
  split at h <;> first | (cases h; done) | skip
  rename_i es c hget
  simp only [Bool.and_eq_true] at h
  have he := beqEs_eq h.1
  have hc := Nat.eq_of_beq_eq_true h.2
  subst he; subst hc
  refine (closed_call (by kernel_rfl) tt_ok gg_ok (by intro f s h; cases h) (by intro f s h; cases h) (fn := Tryz.f47) (c := Tryz.f47.body.get rfl) Tryz.func47 (by decide) rfl hx w).mono fun e w' hp => ?_
  obtain ⟨x, ρ', he, hv, hW, hnew, h1, h2, h3, h4, h5⟩ := hp
  cases hv with
  | map b hb =>
    obtain ⟨g1, g2, es', g3, g4, g5⟩ := hW.live b _ hget
    refine ⟨_, he, hnew b _ hget, ?_, ⟨h1, h2, h3, h4, h5⟩⟩
    rw [g3, es_eq g4 g5]
end Go.Proofs
end

section
namespace Go.Trw
open Go
def nmDash (l : List UInt8) (em : Bool) : Bool := (l == [45]) && em
def nmS (s : ByteArray) (em : Bool) : ByteArray := if nmDash s.data.toList em = true then ByteArray.empty else s
def nmOk (s : ByteArray) (em : Bool) : Bool := nmDash s.data.toList em || nameOk s.data.toList
end Go.Trw
namespace Go.Proofs
open Go.RowKit Go.Trw

theorem Trw.ret_nm {s : ByteArray} {em : Bool} {x : ByteArray} {b : Bool} (h1 : x = nmS s em) (h2 : b = nmOk s em) : Ending.returned (.tuple #[.string x, .bool b]) = .returned (.tuple #[.string (nmS s em), .bool (nmOk s em)]) := by rw [h1, h2]

set_option maxHeartbeats 400000 in
theorem Trw.named155 (s : ByteArray) (em : Bool) (w : World) (hs : s.size ≤ maxLen) :
    Calls Tryz.prog 155 #[.string s, .bool em] w fun e w' => e = .returned (.tuple #[.string (nmS s em), .bool (nmOk s em)]) ∧ w = w' := by
  cases em
  all_goals
    go_enter Tryz.func155, Tryz.ntmps155
    go_wp2_with (first | (go_at_call 117; refine (Trw.name117 _ _ hs).mono ?_; rintro e w' ⟨rfl, rfl⟩))
  · have h : s.toList = [45] := by assumption
    go_ret2
    exact ⟨Trw.ret_nm (by simp [nmS, nmDash]) (by simp [Trw.nmOk, nmDash]), rfl⟩
  · go_ret2
    exact ⟨Trw.ret_nm (by simp [nmS, nmDash]) (by simp [Trw.nmOk, nmDash]), rfl⟩
  · have h : s.toList = [45] := by assumption
    rw [Lib.toList_data] at h
    go_ret2
    exact ⟨Trw.ret_nm (by simp [nmS, nmDash, h]; rfl) (by simp [Trw.nmOk, nmDash, h]), rfl⟩
  · have h : ¬ s.toList = [45] := by assumption
    rw [Lib.toList_data] at h
    go_ret2
    exact ⟨Trw.ret_nm (by simp [nmS, nmDash, h]) (by simp [Trw.nmOk, nmDash, h]), rfl⟩
end Go.Proofs

namespace Go.Trw
open Go Go.RowKit Go.ChangeMaps Go.MapKept
/-- no word of the kinds is said twice. -/
def kindOf (s : List UInt8) : Nat := if s = [] then 0 else if s ∈ words then words.idxOf s else 0
theorem kindOf_eq (c : Nat) (h1 : 1 ≤ c) (h2 : c ≤ 18) : kindOf (wordL c) = c := by
  revert c
  have : ∀ i, i < 18 → kindOf (wordL (i + 1)) = i + 1 := by decide
  intro c h1 h2
  have := this (c - 1) (by omega)
  rwa [show c - 1 + 1 = c by omega] at this
theorem kindOf_le (s : List UInt8) : kindOf s ≤ 18 := by
  unfold kindOf
  split
  · omega
  · split
    · rename_i h; have := List.idxOf_lt_length_of_mem h; simp [words] at this ⊢; omega
    · omega
theorem word_kindOf (s : List UInt8) (h : kindOf s ≠ 0) : wordL (kindOf s) = s := by
  unfold kindOf at h ⊢
  split at h
  · exact absurd rfl h
  · split at h
    · rename_i h1 h2
      rw [if_neg h1, if_pos h2]
      unfold wordL
      rw [List.getD_eq_getElem?_getD, List.getElem?_eq_getElem (List.idxOf_lt_length_of_mem h2), List.getElem_idxOf]
      rfl
    · exact absurd rfl h

/-- a range over a map of known entries: the step. -/
theorem wpList_next_at {P : Program} (w : World) {ops : Array Oper} {rest : List Oper} {o : Oper} {a : Act} {Q : Exit → Act → World → Prop}
    (hg : o.guard = none) (it : Operand) (hop : o.op = Op.next it false) (r bm since c0 : Nat) (seen : Array Nat) (es : Array MapEntry) (clock : Nat) (hit : a.eval it = .pointer (some ⟨r, 0, none⟩))
    (hr : w.heap[r]? = some (.mapIter (some bm) since seen c0)) (hb : w.heap[bm]? = some (.map es clock)) (hold : ∀ x ∈ es.toList, x.born < since) (hsc : since ≤ c0) (hn : (es.toList.map (·.born)).Nodup)
    (hDone : (leftOf es seen).size = 0 → wpList P ops Q rest (a.put o.dst (.tuple #[.bool false])) w)
    (hMore : ∀ e ∈ (leftOf es seen).toList, ∀ w', w'.heap[r]? = some (.mapIter (some bm) since (seen.push e.born) clock) → w'.os = w.os → w'.tape = w.tape → w'.output = w.output → w'.heap.size = w.heap.size → (∀ k, k ≠ r → w'.heap[k]? = w.heap[k]?) →
      (Instr.entry (.pointer (some ⟨r, 0, none⟩))).run P w' = .ok (.tuple #[e.key, e.val]) w' → wpList P ops Q rest (a.put o.dst (.tuple #[.bool true, e.key, e.val])) w') :
    wpList P ops Q (o :: rest) a w := by
  have hne : bm ≠ r := by intro e; rw [e, hr] at hb; cases hb
  refine wpList_plain hg fun K' hK' => ?_
  unfold Oper.wp
  rcases run_next_at (P := P) w o.type r bm since c0 seen es clock hr hb hold hsc with ⟨h0, hrun⟩ | ⟨e, he, w1, hal, hrun⟩
  · simp [execOp, hop, hit, hrun, Result.andThen]
    exact hK' _ _ (hDone h0)
  · simp [execOp, hop, hit, hrun, Result.andThen]
    have hr1 : w1.heap[r]? = some (.mapIter (some bm) since seen c0) := by rcases hal with rfl | rfl <;> exact hr
    have hb1 : w1.heap[bm]? = some (.map es clock) := by rcases hal with rfl | rfl <;> exact hb
    have hset := heap_set (o' := .mapIter (some bm) since (seen.push e.born) clock) hr1
    have hb' : (setBlock w1 r (.mapIter (some bm) since (seen.push e.born) clock)).heap[bm]? = some (.map es clock) := (hset.2 bm hne).trans hb1
    refine hK' _ _ (hMore e he _ hset.1 (by rcases hal with rfl | rfl <;> rfl) (by rcases hal with rfl | rfl <;> rfl) (by rcases hal with rfl | rfl <;> rfl) (by rcases hal with rfl | rfl <;> simp [setBlock] <;> rfl) (fun k hk => ?_) ?_)
    · refine (hset.2 k hk).trans ?_; rcases hal with rfl | rfl <;> rfl
    · exact run_entry_at _ r bm since seen es clock e hset.1 hb' (by simp [leftOf] at he; simpa using he.1) hn

/-- a range over a map of known entries: its start. -/
theorem wpList_range_at {P : Program} (w : World) {ops : Array Oper} {rest : List Oper} {o : Oper} {a : Act} {Q : Exit → Act → World → Prop}
    (hg : o.guard = none) (m : Operand) (t : TypeId) (hop : o.op = Op.range t m) (k e : TypeId) (ht : P.underlying t = some (.map k e)) (bm : Nat) (es : Array MapEntry) (clock : Nat) (hm : a.eval m = .map (some bm))
    (hb : w.heap[bm]? = some (.map es clock))
    (hK : wpList P ops Q rest (a.put o.dst (.pointer (some ⟨w.heap.size, 0, none⟩))) (w.alloc (.mapIter (some bm) clock #[] clock))) :
    wpList P ops Q (o :: rest) a w := by
  refine wpList_plain hg fun K' hK' => ?_
  have hrun := run_range_map (P := P) w t k e bm es clock ht hb
  unfold Oper.wp
  simp [execOp, hop, hm, hrun, Result.andThen]
  exact hK' _ _ hK
end Go.Trw
end

section
namespace Go.Trw
open Go Go.RowKit

/-- block n is just these cells, none frozen. -/
def Is (w : World) (n : Nat) (T : TypeId) (cs : Array Value) : Prop := w.heap[n]? = some (.cells cs T (0, 0))

section
variable {w w' : World} {n m o : Nat} {T : TypeId} {cs : Array Value} {v : Value}

theorem Is.cell (h : Is w n T cs) (o : Nat) : w.cell? ⟨n, o, none⟩ = cs[o]? := by unfold Is at h; simp [World.cell?, h]
theorem Is.frozen (h : Is w n T cs) (o : Nat) : w.frozen? ⟨n, o, none⟩ = false := by unfold Is at h; simp [World.frozen?, h]
theorem Is.lt (h : Is w n T cs) : n < w.heap.size := (Array.getElem?_eq_some_iff.1 h).1
theorem Is.new (w : World) (T : TypeId) (cs : Array Value) : Is (w.alloc (.cells cs T)) w.heap.size T cs := by show (w.heap.push _)[w.heap.size]? = _; simp
theorem Is.alloc (h : Is w n T cs) (x : Obj) : Is (w.alloc x) n T cs := by
  have := h.lt
  unfold Is at h ⊢
  rw [← h]; show (w.heap.push _)[n]? = _; simp [Array.getElem?_push, Nat.ne_of_lt this]
theorem Is.drew (h : Is w n T cs) : Is w.drew n T cs := h
theorem Is.drewN (h : Is w n T cs) (k : Nat) : Is (w.drewN k) n T cs := by unfold Is at h ⊢; rw [← h]; simp
theorem Is.set (h : Is w n T cs) (o : Nat) (v : Value) : Is (w.setCell ⟨n, o, none⟩ v) n T (cs.setIfInBounds o v) := by
  have := h.lt
  unfold Is at h ⊢
  have hm := Array.getElem?_eq_some_iff.1 h
  simp [World.setCell, Array.getElem?_modify, h]
theorem Is.other (h : Is w n T cs) (hne : m ≠ n) (o : Nat) (v : Value) : Is (w.setCell ⟨m, o, none⟩ v) n T cs := by
  unfold Is at h ⊢
  rw [← h]; simp [World.setCell, Array.getElem?_modify, hne]
theorem Is.below {B : Nat} (h : Is w n T cs) (hb : Below B w w') (hn : n < B) : Is w' n T cs := by
  unfold Is at h ⊢; rw [hb.block n hn]; exact h
theorem Is.of_heap (h : Is w n T cs) (e : w'.heap[n]? = w.heap[n]?) : Is w' n T cs := by unfold Is at h ⊢; rw [e]; exact h
theorem Is.cast {cs' : Array Value} (h : Is w n T cs) (e : cs = cs') : Is w n T cs' := e ▸ h

theorem Is.one {a : Value} (h : Is w n T #[a]) : w.cell? ⟨n, 0, none⟩ = some a := h.cell 0
theorem Is.six {a b c d e f : Value} (h : Is w n T #[a, b, c, d, e, f]) : w.cell? ⟨n, 0, none⟩ = some a ∧ w.cell? ⟨n, 1, none⟩ = some b ∧ w.cell? ⟨n, 2, none⟩ = some c ∧ w.cell? ⟨n, 3, none⟩ = some d ∧ w.cell? ⟨n, 4, none⟩ = some e ∧ w.cell? ⟨n, 5, none⟩ = some f :=
  ⟨h.cell 0, h.cell 1, h.cell 2, h.cell 3, h.cell 4, h.cell 5⟩
theorem Is.eight {a b c d e f g i : Value} (h : Is w n T #[a, b, c, d, e, f, g, i]) : w.cell? ⟨n, 0, none⟩ = some a ∧ w.cell? ⟨n, 1, none⟩ = some b ∧ w.cell? ⟨n, 2, none⟩ = some c ∧ w.cell? ⟨n, 3, none⟩ = some d ∧ w.cell? ⟨n, 4, none⟩ = some e ∧ w.cell? ⟨n, 5, none⟩ = some f ∧ w.cell? ⟨n, 6, none⟩ = some g ∧ w.cell? ⟨n, 7, none⟩ = some i :=
  ⟨h.cell 0, h.cell 1, h.cell 2, h.cell 3, h.cell 4, h.cell 5, h.cell 6, h.cell 7⟩

/-- another block's cells, whatever they are. -/
theorem cell_heap (e : w'.heap[n]? = w.heap[n]?) (o : Nat) : w'.cell? ⟨n, o, none⟩ = w.cell? ⟨n, o, none⟩ := by simp [World.cell?, e]
theorem heap_alloc (w : World) (x : Obj) (hn : n < w.heap.size) : (w.alloc x).heap[n]? = w.heap[n]? := by show (w.heap.push _)[n]? = _; simp [Array.getElem?_push, Nat.ne_of_lt hn]
theorem heap_set_ne (hne : m ≠ n) (o : Nat) (v : Value) : (w.setCell ⟨m, o, none⟩ v).heap[n]? = w.heap[n]? := by simp [World.setCell, Array.getElem?_modify, hne]
end
end Go.Trw
end

section
namespace Go.Proofs
open Go.Shelf
def Tryz.lays137_ren : Go.Shelf.Ren := ⟨fun | 137 => 70 | 217 => 151 | 266 => 210 | n => n, fun | 9 => 9 | 5 => 5 | 3 => 3 | n => n, fun | n => n⟩
theorem Tryz.lays137 : Go.Proofs.Lays.n137 Tryz.prog Tryz.lays137_ren := {
  mixed := by kernel_rfl
  f137 := Tryz.func70.trans (congrArg some (by kernel_rfl))
  f217 := Tryz.func151.trans (congrArg some (by kernel_rfl))
  f266 := Tryz.func210.trans (congrArg some (by kernel_rfl))
  t3 := Tryz.underlying3
  a3 := Tryz.isAgg3
  z3 := Tryz.sizeOf3
  v3 := Tryz.zeroValue3
  t5 := Tryz.underlying5
  a5 := Tryz.isAgg5
  z5 := Tryz.sizeOf5
  v5 := Tryz.zeroValue5
  t9 := Tryz.underlying9
  a9 := Tryz.isAgg9
  z9 := Tryz.sizeOf9
  v9 := Tryz.zeroValue9 }
open Go.RowKit in
/-- strings.IndexByte: "IndexByte returns the index of the first instance of c in s, or -1 if c is not present in s.": IT RETURNS 'Lib.indexByte s c'; the world is as it was. (LAID: no walk: one application.) -/
theorem Tryz.strings_IndexByte (s : ByteArray) (c : Int) (w : World) :
    Calls Tryz.prog 70 #[.string s, .int .u8 c] w fun e w' => e = .returned (.int .i64 (Lib.indexByte s.data.toList c.toNat.toUInt8)) ∧ w' = w := Any.strings_IndexByte Tryz.lays137 s c w
def Tryz.lays146_ren : Go.Shelf.Ren := ⟨fun | 146 => 72 | 221 => 153 | 268 => 212 | 138 => 213 | 143 => 214 | 195 => 251 | 197 => 252 | 218 => 253 | 219 => 254 | 260 => 268 | 217 => 151 | 225 => 269 | 224 => 270 | 267 => 271 | 266 => 210 | 314 => 273 | n => n, fun | 9 => 9 | 31 => 65 | 3 => 3 | 4 => 4 | 0 => 0 | 105 => 249 | 21 => 21 | 5 => 5 | 46 => 151 | 119 => 255 | 139 => 258 | 138 => 257 | 146 => 237 | 51 => 148 | n => n, fun | 1 => 0 | 3 => 1 | 4 => 2 | n => n⟩
theorem Tryz.lays146 : Go.Proofs.Lays.n146 Tryz.prog Tryz.lays146_ren := {
  mixed := by kernel_rfl
  f138 := Tryz.func213.trans (congrArg some (by kernel_rfl))
  f143 := Tryz.func214.trans (congrArg some (by kernel_rfl))
  f146 := Tryz.func72.trans (congrArg some (by kernel_rfl))
  f195 := Tryz.func251.trans (congrArg some (by kernel_rfl))
  f197 := Tryz.func252.trans (congrArg some (by kernel_rfl))
  f217 := Tryz.func151.trans (congrArg some (by kernel_rfl))
  f218 := Tryz.func253.trans (congrArg some (by kernel_rfl))
  f219 := Tryz.func254.trans (congrArg some (by kernel_rfl))
  f221 := Tryz.func153.trans (congrArg some (by kernel_rfl))
  f224 := Tryz.func270.trans (congrArg some (by kernel_rfl))
  f225 := Tryz.func269.trans (congrArg some (by kernel_rfl))
  f260 := Tryz.func268.trans (congrArg some (by kernel_rfl))
  f266 := Tryz.func210.trans (congrArg some (by kernel_rfl))
  f267 := Tryz.func271.trans (congrArg some (by kernel_rfl))
  f268 := Tryz.func212.trans (congrArg some (by kernel_rfl))
  f314 := Tryz.func273.trans (congrArg some (by kernel_rfl))
  t0 := Tryz.underlying0
  a0 := Tryz.isAgg0
  z0 := Tryz.sizeOf0
  v0 := Tryz.zeroValue0
  t3 := Tryz.underlying3
  a3 := Tryz.isAgg3
  z3 := Tryz.sizeOf3
  v3 := Tryz.zeroValue3
  t4 := Tryz.underlying4
  a4 := Tryz.isAgg4
  z4 := Tryz.sizeOf4
  v4 := Tryz.zeroValue4
  t5 := Tryz.underlying5
  a5 := Tryz.isAgg5
  z5 := Tryz.sizeOf5
  v5 := Tryz.zeroValue5
  t9 := Tryz.underlying9
  a9 := Tryz.isAgg9
  z9 := Tryz.sizeOf9
  v9 := Tryz.zeroValue9
  t21 := Tryz.underlying21
  a21 := Tryz.isAgg21
  z21 := Tryz.sizeOf21
  v21 := Tryz.zeroValue21
  t31 := Tryz.underlying65
  a31 := Tryz.isAgg65
  z31 := Tryz.sizeOf65
  v31 := Tryz.zeroValue65
  t46 := Tryz.underlying151
  a46 := Tryz.isAgg151
  z46 := Tryz.sizeOf151
  v46 := Tryz.zeroValue151
  t51 := Tryz.underlying148
  a51 := Tryz.isAgg148
  z51 := Tryz.sizeOf148
  v51 := Tryz.zeroValue148
  t105 := Tryz.underlying249
  a105 := Tryz.isAgg249
  z105 := Tryz.sizeOf249
  v105 := Tryz.zeroValue249
  t119 := Tryz.underlying255
  a119 := Tryz.isAgg255
  z119 := Tryz.sizeOf255
  t138 := Tryz.underlying257
  a138 := Tryz.isAgg257
  z138 := Tryz.sizeOf257
  v138 := Tryz.zeroValue257
  t139 := Tryz.underlying258
  a139 := Tryz.isAgg258
  z139 := Tryz.sizeOf258
  v139 := Tryz.zeroValue258
  t146 := Tryz.underlying237
  a146 := Tryz.isAgg237
  z146 := Tryz.sizeOf237
  v146 := Tryz.zeroValue237
  g1 := by kernel_rfl
  g3 := by kernel_rfl
  g4 := by kernel_rfl }
open Go.RowKit Go.Lib in
/-- strings.Split. (LAID: no walk: one application.) -/
theorem Tryz.strings_Split (s sep : ByteArray) (m : Int) (w : World) (hs : s.size < 4294967281) (hm : w.cell? ⟨0, 0, none⟩ = some (.int .i64 m)) (h1 : 1 ≤ sep.size) :
    Calls Tryz.prog 72 #[.string s, .string sep] w fun e w' =>
      e = .returned (.slice (some ⟨w.heap.size, 0, none⟩) (Lib.countB s sep + 1) (Lib.countB s sep + 1)) ∧ w' = w.alloc (.cells ((Lib.splitB sep 0 (Lib.countB s sep) s).map Value.string).toArray 9) := Any.strings_Split Tryz.lays146 (by kernel_rfl) s sep m w hs hm h1
end Go.Proofs
end

section
namespace Go.Proofs

set_option maxHeartbeats 1000000 in
/-- strings.CutSuffix: "CutSuffix returns s without the provided ending suffix string and reports whether it found the suffix. If s doesn't end with suffix, CutSuffix returns s, false. If suffix is the empty string, CutSuffix returns s, true.": IT RETURNS ('Lib.trimSuffix s suffix', 'Lib.hasSuffix s suffix'); the world is as it was. -/
theorem Tryz.strings_CutSuffix (s p : ByteArray) (w : World) (hs : s.size ≤ 9223372036854775807) :
    Calls Tryz.prog 71 #[.string s, .string p] w fun e w' => e = .returned (.tuple #[.string ⟨(Lib.trimSuffix s.data.toList p.data.toList).toArray⟩, .bool (Lib.hasSuffix s.data.toList p.data.toList)]) ∧ w' = w := by
  have hlo : p.size ≤ s.size → ((s.size : Int) - (p.size : Int) + 9223372036854775808) % 18446744073709551616 - 9223372036854775808 = ((s.size - p.size : Nat) : Int) := fun _ => by omega
  go_enter Tryz.func71, Tryz.ntmps71
  go_wp2
  · have h2 : (!((s.extract (s.size - p.size) s.size).toList == p.toList)) = true := by assumption
    have h3 : (decide (p.size ≤ s.size) && ((s.extract (s.size - p.size) s.size).toList == p.toList)) = false := by
      have : ((s.extract (s.size - p.size) s.size).toList == p.toList) = false := by simpa using h2
      rw [this]
      simp
    go_ret2
    refine ⟨?_, rfl⟩
    rw [Lib.trimSuffix_miss s p h3, ← Lib.hasSuffix_raw, h3]
    rfl
  · have h1 : p.size ≤ s.size := by assumption
    have h2 : (!((s.extract (s.size - p.size) s.size).toList == p.toList)) = false := by assumption
    have h2' : ((s.extract (s.size - p.size) s.size).toList == p.toList) = true := by simpa using h2
    go_ret2
    refine ⟨?_, rfl⟩
    rw [Lib.trimSuffix_hit s p h1 h2', ← Lib.hasSuffix_raw, h2', decide_eq_true h1]
    rfl
  · have h1 : ¬ p.size ≤ s.size := by assumption
    have h3 : (decide (p.size ≤ s.size) && ((s.extract (s.size - p.size) s.size).toList == p.toList)) = false := by simp [h1]
    go_ret2
    refine ⟨?_, rfl⟩
    rw [Lib.trimSuffix_miss s p h3, ← Lib.hasSuffix_raw, h3]
    rfl

end Go.Proofs
end

section
namespace Go.Proofs
open Go.Shelf
def Tryz.laysM219_ren : Go.Shelf.Ren := ⟨fun | 219 => 254 | 217 => 151 | 225 => 269 | 224 => 270 | 267 => 271 | 266 => 210 | 314 => 273 | n => n, fun | 9 => 9 | 3 => 3 | 4 => 4 | 5 => 5 | 46 => 151 | 146 => 237 | 51 => 148 | n => n, fun | 1 => 0 | n => n⟩
theorem Tryz.laysM219 : Go.Proofs.LaysM.n219 Tryz.prog Tryz.laysM219_ren := {
  mixed := by kernel_rfl
  f217 := Tryz.func151.trans (congrArg some (by kernel_rfl))
  f219 := Tryz.func254.trans (congrArg some (by kernel_rfl))
  f224 := Tryz.func270.trans (congrArg some (by kernel_rfl))
  f225 := Tryz.func269.trans (congrArg some (by kernel_rfl))
  f266 := Tryz.func210.trans (congrArg some (by kernel_rfl))
  f267 := Tryz.func271.trans (congrArg some (by kernel_rfl))
  f314 := Tryz.func273.trans (congrArg some (by kernel_rfl))
  t3 := Tryz.underlying3
  a3 := Tryz.isAgg3
  z3 := Tryz.sizeOf3
  v3 := Tryz.zeroValue3
  t4 := Tryz.underlying4
  a4 := Tryz.isAgg4
  z4 := Tryz.sizeOf4
  v4 := Tryz.zeroValue4
  t5 := Tryz.underlying5
  a5 := Tryz.isAgg5
  z5 := Tryz.sizeOf5
  v5 := Tryz.zeroValue5
  t9 := Tryz.underlying9
  a9 := Tryz.isAgg9
  z9 := Tryz.sizeOf9
  v9 := Tryz.zeroValue9
  t46 := Tryz.underlying151
  a46 := Tryz.isAgg151
  z46 := Tryz.sizeOf151
  v46 := Tryz.zeroValue151
  t51 := Tryz.underlying148
  a51 := Tryz.isAgg148
  z51 := Tryz.sizeOf148
  v51 := Tryz.zeroValue148
  t146 := Tryz.underlying237
  a146 := Tryz.isAgg237
  z146 := Tryz.sizeOf237
  v146 := Tryz.zeroValue237
  g1 := by kernel_rfl
  i3 := by kernel_rfl
  i4 := by kernel_rfl
  i5 := by kernel_rfl
  i9 := by kernel_rfl
  i46 := by kernel_rfl
  i51 := by kernel_rfl
  i146 := by kernel_rfl
  m1 := by kernel_rfl
  s1_3 := fun w h => Go.Proofs.cell_of_shapedOpen_int (zero := #[.int .i64 0]) (t := 3) h (of_decide_eq_true (by kernel_rfl)) (by kernel_rfl) rfl (by kernel_rfl) (by kernel_rfl) Tryz.underlying3 }
open Go.RowKit Go.Lib in
theorem Tryz.stringslite_Index_shaped (s sub : ByteArray) (w : World) (h : w.ShapedOpen Tryz.prog) (hs : s.size < 4294967281) :
    Calls Tryz.prog 254 #[.string s, .string sub] w fun e w' => e = .returned (.int .i64 (Lib.index s.data.toList sub.data.toList)) ∧ w' = w := Any.stringslite_Index_shaped Tryz.laysM219 s sub w h hs
end Go.Proofs
end
