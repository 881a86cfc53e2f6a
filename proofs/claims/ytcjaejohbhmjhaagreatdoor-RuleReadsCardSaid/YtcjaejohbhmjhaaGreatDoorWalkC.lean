/- rule.line, the lines of a text, rule.Parse and the reference's words: what they return. -/
import Derived.Test.YtcjaejohbhmjhaaGreatDoorWalkB
import Derived.Test.YtcjaejohbhmjhaaGreatDoorWalkA
import Derived.Test.YtcjaejohbhmjhaaGreatDoorBodA
import Derived.Test.YtcjaejohbhmjhaaGreatDoorBodB
import Derived.Test.YtcjaejohbhmjhaaGreatDoorBodC
import Derived.Test.YtcjaejohbhmjhaaGreatDoorBodD
import Derived.Test.YtcjaejohbhmjhaaGreatDoorBodE
import Derived.Test.YtcjaejohbhmjhaaGreatDoorBodF
import Derived.Test.YtcjaejohbhmjhaaGreatDoorBodG
import Derived.Test.YtcjaejohbhmjhaaGreatDoorBodH
import Derived.RangeFuncNested
import Derived.RangeFuncBound
import Derived.RangeFuncCalls
import Derived.RangeFuncLeaves
import Derived.Shelf.Abstract
import Derived.Shelf.RegionOpen
import Derived.WalkKit
import Derived.OwnWalkIn
import Derived.TacticsInMore
import Derived.LoopNIn
import Derived.LoopIn
import Derived.Lib.Hide
import Derived.Lib.IndexLaws
import Derived.RangeFuncBox
set_option linter.all false
set_option linter.unusedSectionVars false
set_option linter.deprecated false
section
namespace Go.Proofs
open Go.RowKit Go.Trw

set_option maxRecDepth 100000 in
set_option maxHeartbeats 4000000 in
theorem Trw.line23 (hbody : ∀ (u : Nat → ByteArray) (wt : Int) (B off len : Nat) (w : World), B < w.heap.size → (∀ i, i < len → w.cell? ⟨B, off + i, none⟩ = some (.string (u i))) → 1 ≤ len → len ≤ maxLen → (∀ i, i < len → (u i).size ≤ maxLen) → -1 ≤ wt ∧ wt ≤ 999999999 →
      Calls Tryz.prog 74 #[.agg #[.int .u8 0, .int .i64 wt, .string ⟨#[]⟩, .string ⟨#[]⟩, .string ⟨#[]⟩, .int .i64 0], .slice (some ⟨B, off, none⟩) len len] w (Trw.bodyP u len wt w))
    (s : ByteArray) (m : Int) (w : World) (hs : s.size ≤ 65536) (hm : w.cell? ⟨0, 0, none⟩ = some (.int .i64 m)) :
    Calls Tryz.prog 23 #[.string s] w (Trw.lineP s w) := by
  have hbk := World.block_lt_of_cell? _ _ hm
  have HBODY := Lib.hid hbody; clear hbody
  obtain ⟨s1, hs1⟩ : ∃ s1, s1 = Trw.cutS s := ⟨_, rfl⟩
  obtain ⟨ok, hok⟩ : ∃ ok, ok = Trw.cutB s := ⟨_, rfl⟩
  have hsz : s1.size ≤ 65536 := by rw [hs1]; exact Nat.le_trans (Trw.cutS_size s) hs
  have hn1 := Trw.wordsN_pos s1
  have hn2 := Trw.wordsN_le s1
  obtain ⟨n, hn⟩ : ∃ n, n = Trw.wordsN s1 := ⟨_, rfl⟩
  rw [← hn] at hn1 hn2
  have HCUT := Trw.cut71 s
  rw [← hs1, ← hok] at HCUT
  have HSPL := Trw.split72 s1 m
  rw [← hn] at HSPL
  have HS1 := Lib.hid hs1; have HOK := Lib.hid hok; have HN := Lib.hid hn; clear hs1 hok hn
  have H1 := Lib.hid HCUT; have H2 := Lib.hid HSPL; clear HCUT HSPL
  go_enter Tryz.func23, Tryz.ntmps23
  go_wp2_with (first | (go_at_call 71; refine (H1.out _ hs).mono ?_; rintro e w' ⟨rfl, hw⟩; subst hw) | (go_at_call 72; refine (H2.out _ hsz (by rw [World.cell?_alloc_old _ _ _ (Nat.ne_of_lt hbk)]; exact hm)).mono ?_; rintro e w' ⟨rfl, hw⟩; subst hw))
  have i2 := Is.new (w.alloc (.cells #[.int .u8 0, .int .i64 0, .string ⟨#[]⟩, .string ⟨#[]⟩, .string ⟨#[]⟩, .int .i64 0] 46)) 9 ((Trw.wordsB s1).map Value.string).toArray
  have i1 := (Is.new w 46 #[.int .u8 0, .int .i64 0, .string ⟨#[]⟩, .string ⟨#[]⟩, .string ⟨#[]⟩, .int .i64 0]).alloc (.cells ((Trw.wordsB s1).map Value.string).toArray 9)
  have hB := ((Below.refl w.heap.size w).alloc (Nat.le_refl _) (.cells #[.int .u8 0, .int .i64 0, .string ⟨#[]⟩, .string ⟨#[]⟩, .string ⟨#[]⟩, .int .i64 0] 46)).alloc (by simp) (.cells ((Trw.wordsB s1).map Value.string).toArray 9)
  rw [World.size_alloc] at i2
  have hz : ((w.alloc (.cells #[.int .u8 0, .int .i64 0, .string ⟨#[]⟩, .string ⟨#[]⟩, .string ⟨#[]⟩, .int .i64 0] 46)).alloc (.cells ((Trw.wordsB s1).map Value.string).toArray 9)).heap.size = w.heap.size + 1 + 1 := by simp
  generalize ((w.alloc (.cells #[.int .u8 0, .int .i64 0, .string ⟨#[]⟩, .string ⟨#[]⟩, .string ⟨#[]⟩, .int .i64 0] 46)).alloc (.cells ((Trw.wordsB s1).map Value.string).toArray 9)) = W at i1 i2 hB hz ⊢
  have hwc : ∀ k, k < n → W.cell? ⟨w.heap.size + 1, k, none⟩ = some (.string (Trw.wordAt s1 k)) := fun k hk => by rw [i2.cell]; exact Trw.words_cell s1 k (by rw [← HN.out]; exact hk)
  have hws : ∀ k, (Trw.wordAt s1 k).size ≤ maxLen := fun k => Nat.le_trans (Trw.wordAt_size s1 k) (by unfold maxLen; omega)
  obtain ⟨u, hu⟩ : ∃ u, u = Trw.wordAt s1 := ⟨_, rfl⟩
  rw [← hu] at hwc hws
  have HU := Lib.hid hu; clear hu
  obtain ⟨d0, d1, d2, d3, d4, d5⟩ := i1.six
  have f1 := i1.frozen
  have I1 := Lib.hid i1; have I2 := Lib.hid i2; have HB := Lib.hid hB; have HWC := Lib.hid hwc; have HWS := Lib.hid hws; have HZ := Lib.hid hz
  have hz1 : w.heap.size < W.heap.size := by omega
  have hz2 : w.heap.size + 1 < W.heap.size := by omega
  clear i1 i2 hB hwc hws hz
  go_loop [4, 18] (fun o i => ∃ k : Nat, k ≤ n ∧ i = .int .i64 k ∧ o = .bool (Trw.accB ok u k)) (fun _ i => n - (intOf i).toNat)
  case atStart => exact ⟨0, Nat.zero_le _, rfl, by rw [Trw.accB_zero]⟩
  case round =>
    obtain ⟨k, hk, rfl, rfl⟩ := hrel
    by_cases hlt : k < n
    · have hc := HWC.out k hlt
      rcases Trw.bcases (Trw.accB ok u k) with ha | ha
      · have HA := Lib.hid (Trw.accB_yes ha)
        go_wp2
        go_round
        case rel => exact ⟨k + 1, by omega, by go_num, by rw [HA.out]⟩
        case measure => simp [intOf]; omega
      · have HA := Lib.hid (Trw.accB_no ha)
        go_wp2
        go_round
        case rel => exact ⟨k + 1, by omega, by go_num, by rw [HA.out]⟩
        case measure => simp [intOf]; omega
    · obtain rfl : k = n := by omega
      rcases Trw.bcases (Trw.accB ok u k) with ha | ha
      rotate_left
      · have HA := Lib.hid ha
        go_wp2
        refine bodyPost_ret (v := .tuple #[.agg #[.int .u8 0, .int .i64 0, .string ⟨#[]⟩, .string ⟨#[]⟩, .string ⟨#[]⟩, .int .i64 0], .int .i64 3]) (by simp [results, Tryz.results23, go_sem, *]) rfl (Trw.lineP_mk HS1.out HOK.out HN.out HU.out (by simp [Trw.lineS, Trw.valOf, Trw.zeroR, HA.out]) ?_); (repeat (first | (with_reducible refine Below.setCell ?_ (by first | (simp; done) | (simp; omega)) _) | (with_reducible refine Below.alloc ?_ (by first | (simp; done) | (simp; omega)) _) | (with_reducible refine Trw.below_drewN ?_ _) | (with_reducible exact HB.out)))
      · have HA := Lib.hid ha
        have c0 := HWC.out 0 (by omega)
        by_cases hh : (u 0).toList = [104, 97, 114, 100]
        · have HH := Lib.hid hh
          have hh2 : ((u 0).toList == [104, 97, 114, 100]) = true := by simpa using hh
          by_cases hn : 1 < k
          · have hc1 : ∀ W' : World, Below W.heap.size W W' → Calls Tryz.prog 74 #[.agg #[.int .u8 0, .int .i64 (0), .string ⟨#[]⟩, .string ⟨#[]⟩, .string ⟨#[]⟩, .int .i64 0], .slice (some ⟨w.heap.size + 1, 1, none⟩) (k - 1) (k - 1)] W' (fun e w1 => e = .returned (Trw.valOf (Trw.bodyS (fun i => u (i + 1)) (k - 1) (0))) ∧ Below W.heap.size W w1) :=
              fun W' hb => (HBODY.out (fun i => u (i + 1)) (0) (w.heap.size + 1) 1 (k - 1) W' (Nat.lt_of_lt_of_le hz2 hb.size) (fun i hi => (hb.cell (p := ⟨w.heap.size + 1, 1 + i, none⟩) hz2).trans ((HWC.out (1 + i) (by omega)).trans (by rw [Nat.add_comm]))) (by omega) (by unfold maxLen; omega) (fun i _ => HWS.out _) (by omega)).mono (fun e w1 h => ⟨h.1, hb.trans (h.2.mono hb.size)⟩)
            have HC1 := Lib.hid hc1; clear hc1
            rcases hbs : Trw.bodyS (fun i => u (i + 1)) (k - 1) (0) with e0 | r0
            · have HBS := Lib.hid hbs; clear hbs
              go_wp2_with (first | (go_at_call 74; refine (HC1.out _ (by (repeat (first | (with_reducible refine Below.setCell ?_ (by first | omega | (simp; done) | (simp; omega)) _) | (with_reducible refine Below.alloc ?_ (by first | omega | (simp; done) | (simp; omega)) _) | (with_reducible refine Trw.below_drewN ?_ _) | (with_reducible exact Below.refl _ _))))).mono ?_; rintro e w1 ⟨he, hb⟩; rw [HBS.out] at he; obtain rfl : e = .returned (.tuple #[.agg #[.int .u8 0, .int .i64 0, .string ⟨#[]⟩, .string ⟨#[]⟩, .string ⟨#[]⟩, .int .i64 0], .int .i64 e0]) := he; obtain ⟨k0, k1, k2, k3, k4, k5⟩ := (I1.out.below hb hz1).six; have kf := (I1.out.below hb hz1).frozen; have HBW := Lib.hid (HB.out.trans (hb.mono (Nat.le_of_lt hz1))); clear hb))
              refine bodyPost_ret (v := .tuple #[.agg #[.int .u8 0, .int .i64 0, .string ⟨#[]⟩, .string ⟨#[]⟩, .string ⟨#[]⟩, .int .i64 0], .int .i64 e0]) (by simp [results, Tryz.results23, go_sem, *]) rfl (Trw.lineP_mk HS1.out HOK.out HN.out HU.out (by simp [Trw.lineS, HA.out, HH.out, hn, HBS.out, Trw.valOf, Trw.zeroR, Trw.RR.val]) ?_); (repeat (first | (with_reducible refine Below.setCell ?_ (by first | omega | (simp; done) | (simp; omega)) _) | (with_reducible refine Below.alloc ?_ (by first | omega | (simp; done) | (simp; omega)) _) | (with_reducible refine Trw.below_drewN ?_ _) | (with_reducible exact HBW.out)))
            · have HBS := Lib.hid hbs; clear hbs
              go_wp2_with (first | (go_at_call 74; refine (HC1.out _ (by (repeat (first | (with_reducible refine Below.setCell ?_ (by first | omega | (simp; done) | (simp; omega)) _) | (with_reducible refine Below.alloc ?_ (by first | omega | (simp; done) | (simp; omega)) _) | (with_reducible refine Trw.below_drewN ?_ _) | (with_reducible exact Below.refl _ _))))).mono ?_; rintro e w1 ⟨he, hb⟩; rw [HBS.out] at he; obtain rfl : e = .returned (.tuple #[.agg #[.int .u8 r0.k, .int .i64 r0.wt, .string r0.a, .string r0.b, .string r0.t, .int .i64 r0.n], .int .i64 0]) := he; obtain ⟨k0, k1, k2, k3, k4, k5⟩ := (I1.out.below hb hz1).six; have kf := (I1.out.below hb hz1).frozen; have HBW := Lib.hid (HB.out.trans (hb.mono (Nat.le_of_lt hz1))); clear hb))
              refine bodyPost_ret (v := .tuple #[.agg #[.int .u8 r0.k, .int .i64 r0.wt, .string r0.a, .string r0.b, .string r0.t, .int .i64 r0.n], .int .i64 0]) (by simp [results, Tryz.results23, go_sem, *]) rfl (Trw.lineP_mk HS1.out HOK.out HN.out HU.out (by simp [Trw.lineS, HA.out, HH.out, hn, HBS.out, Trw.valOf, Trw.zeroR, Trw.RR.val]) ?_); (repeat (first | (with_reducible refine Below.setCell ?_ (by first | omega | (simp; done) | (simp; omega)) _) | (with_reducible refine Below.alloc ?_ (by first | omega | (simp; done) | (simp; omega)) _) | (with_reducible refine Trw.below_drewN ?_ _) | (with_reducible exact HBW.out)))
          · obtain rfl : k = 1 := by omega
            have hw2 : ((u 0).toList == [119, 101, 105, 103, 104]) = false := by rw [hh]; decide
            go_wp2
            refine bodyPost_ret (v := .tuple #[.agg #[.int .u8 0, .int .i64 0, .string ⟨#[]⟩, .string ⟨#[]⟩, .string ⟨#[]⟩, .int .i64 0], .int .i64 3]) (by simp [results, Tryz.results23, go_sem, *]) rfl (Trw.lineP_mk HS1.out HOK.out HN.out HU.out (by simp [Trw.lineS, Trw.valOf, Trw.zeroR, HA.out, HH.out]) ?_); (repeat (first | (with_reducible refine Below.setCell ?_ (by first | omega | (simp; done) | (simp; omega)) _) | (with_reducible refine Below.alloc ?_ (by first | omega | (simp; done) | (simp; omega)) _) | (with_reducible refine Trw.below_drewN ?_ _) | (with_reducible exact HB.out)))
        · have HH := Lib.hid hh
          have hh2 : ((u 0).toList == [104, 97, 114, 100]) = false := by simpa using hh
          by_cases hw : (u 0).toList = [119, 101, 105, 103, 104]
          · have HW := Lib.hid hw
            have hw2 : ((u 0).toList == [119, 101, 105, 103, 104]) = true := by simpa using hw
            by_cases hn : 2 < k
            · have c1 := HWC.out 1 (by omega)
              rcases Trw.bcases (numOk (u 1).data.toList) with hnum | hnum
              rotate_left
              · go_wp2_with (first | (go_at_call 73; refine (Trw.num73 _ _ (HWS.out 1)).mono ?_; rintro e w' ⟨rfl, rfl⟩))
                refine bodyPost_ret (v := .tuple #[.agg #[.int .u8 0, .int .i64 0, .string ⟨#[]⟩, .string ⟨#[]⟩, .string ⟨#[]⟩, .int .i64 0], .int .i64 3]) (by simp [results, Tryz.results23, go_sem, *]) rfl (Trw.lineP_mk HS1.out HOK.out HN.out HU.out (by simp [Trw.lineS, Trw.valOf, Trw.zeroR, HA.out, HW.out, hn, hnum]) ?_); (repeat (first | (with_reducible refine Below.setCell ?_ (by first | omega | (simp; done) | (simp; omega)) _) | (with_reducible refine Below.alloc ?_ (by first | omega | (simp; done) | (simp; omega)) _) | (with_reducible refine Trw.below_drewN ?_ _) | (with_reducible exact HB.out)))
              · obtain ⟨nv, hnv⟩ : ∃ nv, nv = numV (u 1).data.toList := ⟨_, rfl⟩
                have hb1 := Trw.numV_range (u 1).data.toList
                have hnum1 := Trw.num73 (u 1)
                rw [← hnv] at hb1 hnum1
                have HNV := Lib.hid hnv; clear hnv
                have HNU := Lib.hid hnum1; clear hnum1
                obtain ⟨hb1, hb2⟩ := hb1
                by_cases hv0 : (nv == 0) = true
                · have hv : nv = 0 := by simpa using hv0
                  subst hv
                  have hc1 : ∀ W' : World, Below W.heap.size W W' → Calls Tryz.prog 74 #[.agg #[.int .u8 0, .int .i64 (-1), .string ⟨#[]⟩, .string ⟨#[]⟩, .string ⟨#[]⟩, .int .i64 0], .slice (some ⟨w.heap.size + 1, 2, none⟩) (k - 2) (k - 2)] W' (fun e w1 => e = .returned (Trw.valOf (Trw.bodyS (fun i => u (i + 2)) (k - 2) (-1))) ∧ Below W.heap.size W w1) :=
                    fun W' hb => (HBODY.out (fun i => u (i + 2)) (-1) (w.heap.size + 1) 2 (k - 2) W' (Nat.lt_of_lt_of_le hz2 hb.size) (fun i hi => (hb.cell (p := ⟨w.heap.size + 1, 2 + i, none⟩) hz2).trans ((HWC.out (2 + i) (by omega)).trans (by rw [Nat.add_comm]))) (by omega) (by unfold maxLen; omega) (fun i _ => HWS.out _) (by omega)).mono (fun e w1 h => ⟨h.1, hb.trans (h.2.mono hb.size)⟩)
                  have HC1 := Lib.hid hc1; clear hc1
                  rcases hbs : Trw.bodyS (fun i => u (i + 2)) (k - 2) (-1) with e0 | r0
                  · have HBS := Lib.hid hbs; clear hbs
                    go_wp2_with (first | (go_at_call 73; refine (HNU.out _ (HWS.out 1)).mono ?_; rintro e w' ⟨rfl, rfl⟩) | (go_at_call 74; refine (HC1.out _ (by (repeat (first | (with_reducible refine Below.setCell ?_ (by first | omega | (simp; done) | (simp; omega)) _) | (with_reducible refine Below.alloc ?_ (by first | omega | (simp; done) | (simp; omega)) _) | (with_reducible refine Trw.below_drewN ?_ _) | (with_reducible exact Below.refl _ _))))).mono ?_; rintro e w1 ⟨he, hb⟩; rw [HBS.out] at he; obtain rfl : e = .returned (.tuple #[.agg #[.int .u8 0, .int .i64 0, .string ⟨#[]⟩, .string ⟨#[]⟩, .string ⟨#[]⟩, .int .i64 0], .int .i64 e0]) := he; obtain ⟨k0, k1, k2, k3, k4, k5⟩ := (I1.out.below hb hz1).six; have kf := (I1.out.below hb hz1).frozen; have HBW := Lib.hid (HB.out.trans (hb.mono (Nat.le_of_lt hz1))); clear hb))
                    refine bodyPost_ret (v := .tuple #[.agg #[.int .u8 0, .int .i64 0, .string ⟨#[]⟩, .string ⟨#[]⟩, .string ⟨#[]⟩, .int .i64 0], .int .i64 e0]) (by simp [results, Tryz.results23, go_sem, *]) rfl (Trw.lineP_mk HS1.out HOK.out HN.out HU.out (by simp [Trw.lineS, HA.out, HW.out, hn, hnum, ← HNV.out, HBS.out, Trw.valOf, Trw.zeroR, Trw.RR.val]) ?_); (repeat (first | (with_reducible refine Below.setCell ?_ (by first | omega | (simp; done) | (simp; omega)) _) | (with_reducible refine Below.alloc ?_ (by first | omega | (simp; done) | (simp; omega)) _) | (with_reducible refine Trw.below_drewN ?_ _) | (with_reducible exact HBW.out)))
                  · have HBS := Lib.hid hbs; clear hbs
                    go_wp2_with (first | (go_at_call 73; refine (HNU.out _ (HWS.out 1)).mono ?_; rintro e w' ⟨rfl, rfl⟩) | (go_at_call 74; refine (HC1.out _ (by (repeat (first | (with_reducible refine Below.setCell ?_ (by first | omega | (simp; done) | (simp; omega)) _) | (with_reducible refine Below.alloc ?_ (by first | omega | (simp; done) | (simp; omega)) _) | (with_reducible refine Trw.below_drewN ?_ _) | (with_reducible exact Below.refl _ _))))).mono ?_; rintro e w1 ⟨he, hb⟩; rw [HBS.out] at he; obtain rfl : e = .returned (.tuple #[.agg #[.int .u8 r0.k, .int .i64 r0.wt, .string r0.a, .string r0.b, .string r0.t, .int .i64 r0.n], .int .i64 0]) := he; obtain ⟨k0, k1, k2, k3, k4, k5⟩ := (I1.out.below hb hz1).six; have kf := (I1.out.below hb hz1).frozen; have HBW := Lib.hid (HB.out.trans (hb.mono (Nat.le_of_lt hz1))); clear hb))
                    refine bodyPost_ret (v := .tuple #[.agg #[.int .u8 r0.k, .int .i64 r0.wt, .string r0.a, .string r0.b, .string r0.t, .int .i64 r0.n], .int .i64 0]) (by simp [results, Tryz.results23, go_sem, *]) rfl (Trw.lineP_mk HS1.out HOK.out HN.out HU.out (by simp [Trw.lineS, HA.out, HW.out, hn, hnum, ← HNV.out, HBS.out, Trw.valOf, Trw.zeroR, Trw.RR.val]) ?_); (repeat (first | (with_reducible refine Below.setCell ?_ (by first | omega | (simp; done) | (simp; omega)) _) | (with_reducible refine Below.alloc ?_ (by first | omega | (simp; done) | (simp; omega)) _) | (with_reducible refine Trw.below_drewN ?_ _) | (with_reducible exact HBW.out)))
                · have hv1 : (nv == 0) = false := by simpa using hv0
                  have HV : Hid (¬ nv = 0) := Lib.hid (by simpa using hv0)
                  clear hv0
                  have hc1 : ∀ W' : World, Below W.heap.size W W' → Calls Tryz.prog 74 #[.agg #[.int .u8 0, .int .i64 (nv), .string ⟨#[]⟩, .string ⟨#[]⟩, .string ⟨#[]⟩, .int .i64 0], .slice (some ⟨w.heap.size + 1, 2, none⟩) (k - 2) (k - 2)] W' (fun e w1 => e = .returned (Trw.valOf (Trw.bodyS (fun i => u (i + 2)) (k - 2) (nv))) ∧ Below W.heap.size W w1) :=
                    fun W' hb => (HBODY.out (fun i => u (i + 2)) (nv) (w.heap.size + 1) 2 (k - 2) W' (Nat.lt_of_lt_of_le hz2 hb.size) (fun i hi => (hb.cell (p := ⟨w.heap.size + 1, 2 + i, none⟩) hz2).trans ((HWC.out (2 + i) (by omega)).trans (by rw [Nat.add_comm]))) (by omega) (by unfold maxLen; omega) (fun i _ => HWS.out _) (by omega)).mono (fun e w1 h => ⟨h.1, hb.trans (h.2.mono hb.size)⟩)
                  have HC1 := Lib.hid hc1; clear hc1
                  rcases hbs : Trw.bodyS (fun i => u (i + 2)) (k - 2) (nv) with e0 | r0
                  · have HBS := Lib.hid hbs; clear hbs
                    go_wp2_with (first | (go_at_call 73; refine (HNU.out _ (HWS.out 1)).mono ?_; rintro e w' ⟨rfl, rfl⟩) | (go_at_call 74; refine (HC1.out _ (by (repeat (first | (with_reducible refine Below.setCell ?_ (by first | omega | (simp; done) | (simp; omega)) _) | (with_reducible refine Below.alloc ?_ (by first | omega | (simp; done) | (simp; omega)) _) | (with_reducible refine Trw.below_drewN ?_ _) | (with_reducible exact Below.refl _ _))))).mono ?_; rintro e w1 ⟨he, hb⟩; rw [HBS.out] at he; obtain rfl : e = .returned (.tuple #[.agg #[.int .u8 0, .int .i64 0, .string ⟨#[]⟩, .string ⟨#[]⟩, .string ⟨#[]⟩, .int .i64 0], .int .i64 e0]) := he; obtain ⟨k0, k1, k2, k3, k4, k5⟩ := (I1.out.below hb hz1).six; have kf := (I1.out.below hb hz1).frozen; have HBW := Lib.hid (HB.out.trans (hb.mono (Nat.le_of_lt hz1))); clear hb))
                    refine bodyPost_ret (v := .tuple #[.agg #[.int .u8 0, .int .i64 0, .string ⟨#[]⟩, .string ⟨#[]⟩, .string ⟨#[]⟩, .int .i64 0], .int .i64 e0]) (by simp [results, Tryz.results23, go_sem, *]) rfl (Trw.lineP_mk HS1.out HOK.out HN.out HU.out (by simp [Trw.lineS, HA.out, HW.out, hn, hnum, ← HNV.out, HV.out, HBS.out, Trw.valOf, Trw.zeroR, Trw.RR.val]) ?_); (repeat (first | (with_reducible refine Below.setCell ?_ (by first | omega | (simp; done) | (simp; omega)) _) | (with_reducible refine Below.alloc ?_ (by first | omega | (simp; done) | (simp; omega)) _) | (with_reducible refine Trw.below_drewN ?_ _) | (with_reducible exact HBW.out)))
                  · have HBS := Lib.hid hbs; clear hbs
                    go_wp2_with (first | (go_at_call 73; refine (HNU.out _ (HWS.out 1)).mono ?_; rintro e w' ⟨rfl, rfl⟩) | (go_at_call 74; refine (HC1.out _ (by (repeat (first | (with_reducible refine Below.setCell ?_ (by first | omega | (simp; done) | (simp; omega)) _) | (with_reducible refine Below.alloc ?_ (by first | omega | (simp; done) | (simp; omega)) _) | (with_reducible refine Trw.below_drewN ?_ _) | (with_reducible exact Below.refl _ _))))).mono ?_; rintro e w1 ⟨he, hb⟩; rw [HBS.out] at he; obtain rfl : e = .returned (.tuple #[.agg #[.int .u8 r0.k, .int .i64 r0.wt, .string r0.a, .string r0.b, .string r0.t, .int .i64 r0.n], .int .i64 0]) := he; obtain ⟨k0, k1, k2, k3, k4, k5⟩ := (I1.out.below hb hz1).six; have kf := (I1.out.below hb hz1).frozen; have HBW := Lib.hid (HB.out.trans (hb.mono (Nat.le_of_lt hz1))); clear hb))
                    refine bodyPost_ret (v := .tuple #[.agg #[.int .u8 r0.k, .int .i64 r0.wt, .string r0.a, .string r0.b, .string r0.t, .int .i64 r0.n], .int .i64 0]) (by simp [results, Tryz.results23, go_sem, *]) rfl (Trw.lineP_mk HS1.out HOK.out HN.out HU.out (by simp [Trw.lineS, HA.out, HW.out, hn, hnum, ← HNV.out, HV.out, HBS.out, Trw.valOf, Trw.zeroR, Trw.RR.val]) ?_); (repeat (first | (with_reducible refine Below.setCell ?_ (by first | omega | (simp; done) | (simp; omega)) _) | (with_reducible refine Below.alloc ?_ (by first | omega | (simp; done) | (simp; omega)) _) | (with_reducible refine Trw.below_drewN ?_ _) | (with_reducible exact HBW.out)))
            · have hn' : decide (2 < (k : Int)) = false := by rw [decide_eq_false_iff_not]; omega
              go_wp2
              refine bodyPost_ret (v := .tuple #[.agg #[.int .u8 0, .int .i64 0, .string ⟨#[]⟩, .string ⟨#[]⟩, .string ⟨#[]⟩, .int .i64 0], .int .i64 3]) (by simp [results, Tryz.results23, go_sem, *]) rfl (Trw.lineP_mk HS1.out HOK.out HN.out HU.out (by simp [Trw.lineS, Trw.valOf, Trw.zeroR, HA.out, HW.out, hn]) ?_); (repeat (first | (with_reducible refine Below.setCell ?_ (by first | omega | (simp; done) | (simp; omega)) _) | (with_reducible refine Below.alloc ?_ (by first | omega | (simp; done) | (simp; omega)) _) | (with_reducible refine Trw.below_drewN ?_ _) | (with_reducible exact HB.out)))
          · have HW := Lib.hid hw
            have hw2 : ((u 0).toList == [119, 101, 105, 103, 104]) = false := by simpa using hw
            go_wp2
            refine bodyPost_ret (v := .tuple #[.agg #[.int .u8 0, .int .i64 0, .string ⟨#[]⟩, .string ⟨#[]⟩, .string ⟨#[]⟩, .int .i64 0], .int .i64 3]) (by simp [results, Tryz.results23, go_sem, *]) rfl (Trw.lineP_mk HS1.out HOK.out HN.out HU.out (by simp [Trw.lineS, Trw.valOf, Trw.zeroR, HA.out, HW.out, HH.out]) ?_); (repeat (first | (with_reducible refine Below.setCell ?_ (by first | omega | (simp; done) | (simp; omega)) _) | (with_reducible refine Below.alloc ?_ (by first | omega | (simp; done) | (simp; omega)) _) | (with_reducible refine Trw.below_drewN ?_ _) | (with_reducible exact HB.out)))
end Go.Proofs
end

section
namespace Go.Proofs
open Go.RowKit Go.Trw

theorem Trw.body74 (u : Nat → ByteArray) (wt : Int) (B off len : Nat) (w : World) (hB : B < w.heap.size) (hc : ∀ i, i < len → w.cell? ⟨B, off + i, none⟩ = some (.string (u i))) (h1 : 1 ≤ len) (h3 : len ≤ maxLen) (hu : ∀ i, i < len → (u i).size ≤ maxLen) (hwt : -1 ≤ wt ∧ wt ≤ 999999999) :
    Calls Tryz.prog 74 #[.agg #[.int .u8 0, .int .i64 wt, .string ⟨#[]⟩, .string ⟨#[]⟩, .string ⟨#[]⟩, .int .i64 0], .slice (some ⟨B, off, none⟩) len len] w (Trw.bodyP u len wt w) := by
  rcases Trw.shape (kindOf (u 0).data.toList) (kindOf_le _) with h | h | h | h | h | h | h | h | h
  · exact Trw.body_z u wt B off len w hB hc h1 h3 hu hwt h
  · exact Trw.body_0 u wt B off len w hB hc h1 h3 hu hwt h
  · exact Trw.body_1 u wt B off len w hB hc h1 h3 hu hwt h
  · exact Trw.body_2 u wt B off len w hB hc h1 h3 hu hwt h
  · exact Trw.body_3 u wt B off len w hB hc h1 h3 hu hwt h
  · exact Trw.body_4 u wt B off len w hB hc h1 h3 hu hwt h
  · exact Trw.body_5 u wt B off len w hB hc h1 h3 hu hwt h
  · exact Trw.body_6 u wt B off len w hB hc h1 h3 hu hwt h
  · exact Trw.body_7 u wt B off len w hB hc h1 h3 hu hwt h

theorem Trw.line (s : ByteArray) (m : Int) (w : World) (hs : s.size ≤ 65536) (hm : w.cell? ⟨0, 0, none⟩ = some (.int .i64 m)) : Calls Tryz.prog 23 #[.string s] w (Trw.lineP s w) :=
  Trw.line23 Trw.body74 s m w hs hm

end Go.Proofs
end

section
namespace Go.Trw
open Go Go.RowKit

variable {F : Fence} {n : Nat} {P : Program}

/-- the iterator's word: cell b is as it was. -/
structure KpC (b : Nat) (W W' : World) : Prop where
  cell : W'.cell? ⟨b, 0, none⟩ = W.cell? ⟨b, 0, none⟩
  froz : W'.frozen? ⟨b, 0, none⟩ = W.frozen? ⟨b, 0, none⟩
theorem KpC.trans {b : Nat} {A B C : World} (h : KpC b A B) (k : KpC b B C) : KpC b A C := ⟨k.cell.trans h.cell, k.froz.trans h.froz⟩
theorem KpC.putObj {b l : Nat} {W : World} (o : Obj) (h : b ≠ l) : KpC b W (W.putObj l o) := by
  have : (W.putObj l o).heap[b]? = W.heap[b]? := World.putObj_heap_other h
  exact ⟨by simp [World.cell?, this], by simp [World.frozen?, this]⟩

/-- what abides a store to cell b. -/
def SetsOk (b : Nat) {β : Type} (J : β → World → Prop) : Prop := ∀ s W v, J s W → J s (W.setCell ⟨b, 0, none⟩ v)

/-- THE CONTRACT of an iterator that keeps its state in cell b. -/
def SeqC {α : Type} (F : Fence) (n : Nat) (P : Program) (g b : Nat) (lb : Array Value) (encs : α → Array Value) (xs : List α) (w : World) : Prop :=
  ∀ (l : Nat) (J Jx : List α → World → Prop) (W : World), Below w.heap.size w W → AbidesFrom W.heap.size J → AbidesFrom W.heap.size Jx → SetsOk b J → SetsOk b Jx →
    (∀ pre x W1, J pre W1 → pre ++ [x] <+: xs → YieldAt F (n - 1) P l (encs x) W1 fun e W' =>
      (e = .returned (.bool true) ∧ J (pre ++ [x]) W' ∧ KpC b W1 W') ∨ (e = .returned (.bool false) ∧ Jx (pre ++ [x]) W')) →
    J [] W →
    CallsIn F n P g (#[.func (.yield l) #[] #[]] ++ lb) W fun e W' => (∃ v, e = .returned v) ∧ (J xs W' ∨ ∃ pre, pre <+: xs ∧ Jx pre W')

/-- how a round's body may be left. -/
def bodyPostC {α : Type} (b B : Nat) (I : List α → World → Prop) (Ix : List α → World → Prop) (xs : List α) (W : World) : Exit → Act → World → Prop
  | .normal, _, W' => KeepsFrom B W W' ∧ KpC b W W' ∧ I xs W'
  | .ret, _, W' => KeepsFrom B W W' ∧ Ix xs W'
  | _, _, _ => False

theorem wpIn_rangeC {α : Type} {g : Operand} {ps : Array Tmp} {assign body : Code} {Q : Exit → Act → World → Prop} {a : Act} {w : World}
    (hro : F.round = none) (h1 : 1 ≤ n) {gf b : Nat} {lb : Array Value} (hg : a.eval g = .func (.func gf) #[] lb) (hFg : F.fn gf) (eg : ∀ args w, (callFunc gf args).run P w = .ok (.enter gf args) w)
    {encs : α → Array Value} {xs : List α} (hseq : SeqC F (n - 1) P gf b lb encs xs w) (hbw : b < w.heap.size) (hps : ∀ x, (encs x).size = ps.size)
    (I : List α → World → Prop) (Ix : List α → World → Prop) (hI : OwnFrom w.heap.size I) (hIx : OwnFrom w.heap.size Ix) (hIs : SetsOk b I) (hIxs : SetsOk b Ix) (h0 : I [] w) (a₁ : α → Act)
    (hassign : ∀ (l : Nat) (x : α) (W : World) (K : Act → World → Prop), K (a₁ x) W →
      assign.wpIn (F.inRound l) (n - 1 - 1) P (Exit.then K (fun _ _ _ => False)) { tmps := (ps.zip (encs x)).foldl (fun t (p, v) => t.setIfInBounds p v) a.tmps, defers := [] } W)
    (hbody : ∀ (l : Nat) (pre : List α) (x : α) (W : World), I pre W → pre ++ [x] <+: xs → w.heap.size ≤ W.heap.size → body.wpIn (F.inRound l) (n - 1 - 1) P (bodyPostC b w.heap.size I Ix (pre ++ [x]) W) (a₁ x) W)
    (hdone : ∀ (D : Nat) (W : World), w.heap.size ≤ D → I xs W → W.heap[D]? = some (.deferred (some [])) → Q .normal { a with defers := { target := .collected D, args := #[] } :: a.defers } W)
    (hstop : ∀ (D : Nat) (pre : List α) (W : World), w.heap.size ≤ D → pre <+: xs → Ix pre W → W.heap[D]? = some (.deferred (some [])) → Code.ret.wpIn F n P Q { a with defers := { target := .collected D, args := #[] } :: a.defers } W) :
    (Code.rangeFunc g ps assign body).wpIn F n P Q a w := by
  refine wpIn_rangeFunc fun fn hfn => ?_
  rw [hro]
  let rec_ : LoopState → Option Code → Loop := fun st pe => { state := st, pending := pe, fn, tmps := a.tmps, params := ps, assign, body, defers := w.heap.size }
  let L : Nat := w.heap.size + 1
  let W1 : World := (w.alloc (.deferred (some []))).alloc (.loop (rec_ .ready none))
  have hL1 : W1.heap[L]? = some (.loop (rec_ .ready none)) := by
    have := World.alloc_heap_new (w.alloc (.deferred (some []))) (.loop (rec_ .ready none)); rwa [World.size_alloc] at this
  have hK1 : W1.heap[w.heap.size]? = some (.deferred (some [])) := (Below.heap_alloc _ _ _ (by simp)).trans (World.alloc_heap_new w _)
  have hWs : W1.heap.size = w.heap.size + 1 + 1 := by show ((w.alloc _).alloc _).heap.size = _; simp
  have hb1 : Below w.heap.size w W1 := ((Below.refl _ w).alloc (Nat.le_refl _) _).alloc (by simp) _
  -- what lies beside the caller's invariant: the record, the block for deferred calls, the heap has not shrunk
  let J : List α → World → Prop := fun pre W => I pre W ∧ W.heap[L]? = some (.loop (rec_ .ready none)) ∧ W.heap[w.heap.size]? = some (.deferred (some [])) ∧ w.heap.size ≤ W.heap.size
  let Jx : List α → World → Prop := fun pre W => Ix pre W ∧ W.heap[L]? = some (.loop (rec_ .done (some .ret))) ∧ W.heap[w.heap.size]? = some (.deferred (some [])) ∧ w.heap.size ≤ W.heap.size
  have up : ∀ {A : World} {row : Option Nat}, (∀ r, row = some r → W1.heap.size ≤ r ∧ ∃ o : Obj, A.heap[r]? = some o ∧ o.isWalk = true) → ∀ r, row = some r → w.heap.size ≤ r ∧ ∃ o : Obj, A.heap[r]? = some o ∧ o.isCells = false :=
    fun hr r e => by obtain ⟨q, o, ho, hw⟩ := hr r e; exact ⟨by omega, o, ho, Obj.not_cells_of_walk hw⟩
  have hJ : AbidesFrom W1.heap.size J := fun s A B row hs hg' hr =>
    ⟨hI s A B row hs.1 hg' (up hr), (grownBy_keeps hg' (fun r e => (hr r e).2) hs.2.1 rfl).trans hs.2.1, (grownBy_keeps hg' (fun r e => (hr r e).2) hs.2.2.1 rfl).trans hs.2.2.1, Nat.le_trans hs.2.2.2 hg'.size⟩
  have hJx : AbidesFrom W1.heap.size Jx := fun s A B row hs hg' hr =>
    ⟨hIx s A B row hs.1 hg' (up hr), (grownBy_keeps hg' (fun r e => (hr r e).2) hs.2.1 rfl).trans hs.2.1, (grownBy_keeps hg' (fun r e => (hr r e).2) hs.2.2.1 rfl).trans hs.2.2.1, Nat.le_trans hs.2.2.2 hg'.size⟩
  have hset : ∀ (W : World) (v : Value) (k : Nat), w.heap.size ≤ k → (W.setCell ⟨b, 0, none⟩ v).heap[k]? = W.heap[k]? := fun W v k hk => Below.heap_setCell W _ v k (by show k ≠ b; omega)
  have hJs : SetsOk b J := fun s W v hs => ⟨hIs s W v hs.1, (hset _ _ _ (by show w.heap.size ≤ w.heap.size + 1; omega)).trans hs.2.1, (hset _ _ _ (Nat.le_refl _)).trans hs.2.2.1, by rw [World.size_setCell]; exact hs.2.2.2⟩
  have hJxs : SetsOk b Jx := fun s W v hs => ⟨hIxs s W v hs.1, (hset _ _ _ (by show w.heap.size ≤ w.heap.size + 1; omega)).trans hs.2.1, (hset _ _ _ (Nat.le_refl _)).trans hs.2.2.1, by rw [World.size_setCell]; exact hs.2.2.2⟩
  refine ⟨L, [{ target := .collected w.heap.size, args := #[] }], W1, { target := .fn (.func gf) lb, args := #[.func (.yield L) #[] #[]] }, W1, gf, #[.func (.yield L) #[] #[]] ++ lb, W1, run_enterLoop_outer _ _ _ _ _, ?_, ?_, ?_, fun _ => h1, ?_⟩
  · simp only [resolve, hg]; simp [go_sem]
  · intro f' hf'; simp [Target.leads] at hf'; subst hf'; exact hFg
  · simp [invoke, go_sem, eg]
  refine (hseq L J Jx W1 hb1 hJ hJx hJs hJxs ?_ ⟨hI.alloc _ (hI.alloc _ h0), hL1, hK1, by omega⟩).mono ?_
  · -- one round
    rintro pre x W ⟨hi, hl, hk, hsz⟩ hpre
    have hlt : L < W.heap.size := (Array.getElem?_eq_some_iff.1 hl).1
    refine ⟨fn, _, assign, body, run_yield (P := P) (args := encs x) hl (hps x), roundIn_of_wpIn hfn (hassign _ x W _ ⟨_, run_beginRound hl rfl, ?_⟩)⟩
    have hneL : b ≠ L := by show b ≠ w.heap.size + 1; omega
    let W2 : World := W.putObj L (.loop { rec_ .ready none with state := .busy })
    have hl2 : W2.heap[L]? = some (.loop { rec_ .ready none with state := .busy }) := World.putObj_heap_same hlt
    have hk2 : W2.heap[w.heap.size]? = some (.deferred (some [])) := (World.putObj_heap_other (by show w.heap.size ≠ w.heap.size + 1; omega)).trans hk
    have hsz2 : w.heap.size ≤ W2.heap.size := Nat.le_trans hsz (grownBy_putObj' W L _).size
    refine wpIn_mono (hbody L pre x W2 (hI.putObj _ hi (by show w.heap.size ≤ w.heap.size + 1; omega) hl rfl) hpre hsz2) ?_
    rintro e a3 W3 hp
    cases e with
    | normal =>
      obtain ⟨hk3, hkp3, hi3⟩ := hp
      have hl3 := hk3.same _ _ (by show w.heap.size ≤ w.heap.size + 1; omega) hl2 rfl
      have hlt3 := (Array.getElem?_eq_some_iff.1 hl3).1
      exact ⟨_, _, run_endRound (P := P) none hl3, .inl ⟨rfl, ⟨hI.putObj _ hi3 (by show w.heap.size ≤ w.heap.size + 1; omega) hl3 rfl, World.putObj_heap_same hlt3, (World.putObj_heap_other (by show w.heap.size ≠ w.heap.size + 1; omega)).trans (hk3.same _ _ (Nat.le_refl _) hk2 rfl), Nat.le_trans (Nat.le_trans hsz2 hk3.size) (grownBy_putObj' W3 L _).size⟩,
        ((KpC.putObj _ hneL).trans hkp3).trans (KpC.putObj _ hneL)⟩⟩
    | ret =>
      obtain ⟨hk3, hi3⟩ := hp
      have hl3 := hk3.same _ _ (by show w.heap.size ≤ w.heap.size + 1; omega) hl2 rfl
      have hlt3 := (Array.getElem?_eq_some_iff.1 hl3).1
      exact ⟨_, _, run_endRound (P := P) (some .ret) hl3, .inr ⟨rfl, hIx.putObj _ hi3 (by show w.heap.size ≤ w.heap.size + 1; omega) hl3 rfl, World.putObj_heap_same hlt3, (World.putObj_heap_other (by show w.heap.size ≠ w.heap.size + 1; omega)).trans (hk3.same _ _ (Nat.le_refl _) hk2 rfl), Nat.le_trans (Nat.le_trans hsz2 hk3.size) (grownBy_putObj' W3 L _).size⟩⟩
    | exit id => exact hp.elim
    | goto t => exact hp.elim
    | panic ch => exact hp.elim
    | outgrown => exact hp.elim
  · -- behind the iterator
    rintro e W2 ⟨⟨v, rfl⟩, (⟨hi, hl, hk, _⟩ | ⟨pre, hpre, hi, hl, hk, _⟩)⟩
    · exact ⟨none, _, run_endLoop (P := P) hl (by show LoopState.ready ≠ LoopState.busy; simp), hdone _ _ (Nat.le_refl _) (hI.putObj _ hi (by show w.heap.size ≤ w.heap.size + 1; omega) hl rfl) ((World.putObj_heap_other (by show w.heap.size ≠ w.heap.size + 1; omega)).trans hk)⟩
    · exact ⟨some .ret, _, run_endLoop (P := P) hl (by show LoopState.done ≠ LoopState.busy; simp), hstop _ pre _ (Nat.le_refl _) hpre (hIx.putObj _ hi (by show w.heap.size ≤ w.heap.size + 1; omega) hl rfl) ((World.putObj_heap_other (by show w.heap.size ≠ w.heap.size + 1; omega)).trans hk)⟩
end Go.Trw
end

section
namespace Go.Trw
open Go

def lfAt (s : ByteArray) : Int := Lib.indexByte s.data.toList 10
def linesF : Nat → ByteArray → List ByteArray
  | 0, _ => []
  | f + 1, s => if s.size = 0 then [] else if lfAt s < 0 then [s] else s.extract 0 ((lfAt s).toNat + 1) :: linesF f (s.extract ((lfAt s).toNat + 1) s.size)
def linesB (s : ByteArray) : List ByteArray := linesF s.size s

theorem lfAt_ge (s : ByteArray) : -1 ≤ lfAt s := Lib.indexByte_ge _ _
theorem lfAt_lt (s : ByteArray) (h : 0 ≤ lfAt s) : (lfAt s).toNat < s.size := by
  have e : lfAt s = ((lfAt s).toNat : Int) := by omega
  have := (Lib.indexByte_some (l := s.data.toList) (c := 10) (o := (lfAt s).toNat) e).1
  have := (List.getElem?_eq_some_iff.1 this).1
  simpa using this

theorem linesF_more : ∀ (f g : Nat) (s : ByteArray), s.size ≤ f → s.size ≤ g → linesF f s = linesF g s
  | 0, 0, _, _, _ => rfl
  | 0, g + 1, s, h, _ => by
    have : s.size = 0 := by omega
    simp [linesF, this]
  | f + 1, 0, s, _, h => by
    have : s.size = 0 := by omega
    simp [linesF, this]
  | f + 1, g + 1, s, h1, h2 => by
    unfold linesF
    split
    · rfl
    · split
      · rfl
      · rw [linesF_more f g _ (by simp; omega) (by simp; omega)]
theorem linesB_nil {s : ByteArray} (h : s.size = 0) : linesB s = [] := by unfold linesB; rw [h]; rfl
theorem linesB_miss {s : ByteArray} (h : s.size ≠ 0) (hi : lfAt s < 0) : linesB s = [s] := by
  unfold linesB
  obtain ⟨k, hk⟩ : ∃ k, s.size = k + 1 := ⟨s.size - 1, by omega⟩
  rw [hk]
  simp only [linesF]
  rw [if_neg h, if_pos hi]
theorem linesB_hit {s : ByteArray} (h : s.size ≠ 0) (hi : 0 ≤ lfAt s) : linesB s = s.extract 0 ((lfAt s).toNat + 1) :: linesB (s.extract ((lfAt s).toNat + 1) s.size) := by
  unfold linesB
  obtain ⟨k, hk⟩ : ∃ k, s.size = k + 1 := ⟨s.size - 1, by omega⟩
  conv => lhs; rw [hk]
  simp only [linesF]
  rw [if_neg h, if_neg (by omega)]
  rw [linesF_more k _ _ (by simp; omega) (Nat.le_refl _)]

theorem linesF_size : ∀ (f : Nat) (s x : ByteArray), x ∈ linesF f s → x.size ≤ s.size
  | 0, _, _, h => by simp [linesF] at h
  | f + 1, s, x, h => by
    unfold linesF at h
    split at h
    · simp at h
    · split at h
      · simp at h; rw [h]; exact Nat.le_refl _
      · rcases List.mem_cons.1 h with rfl | h
        · simp; omega
        · have := linesF_size f _ x h
          simp at this; omega
theorem linesB_size (s x : ByteArray) (h : x ∈ linesB s) : x.size ≤ s.size := linesF_size _ s x h

/-- how much is left in cell b. -/
def leftIn (w : World) (b : Nat) : Nat := match w.cell? ⟨b, 0, none⟩ with
  | some (.string r) => r.size
  | _ => 0
theorem leftIn_eq {w : World} {b : Nat} {r : ByteArray} (h : w.cell? ⟨b, 0, none⟩ = some (.string r)) : leftIn w b = r.size := by unfold leftIn; rw [h]
end Go.Trw

namespace Go.Proofs
open Go.RowKit Go.Shelf Go.Trw
attribute [local go_sem] Oper.semAt_some

theorem Trw.grown_drewN (w : World) (k : Nat) : w.grownBy (w.drewN k) none := ⟨rfl, rfl, rfl, Nat.le_refl _, fun _ _ _ => rfl⟩

theorem Trw.idx70 (r : ByteArray) (w : World) : Calls Tryz.prog 70 #[.string r, .int .u8 10] w fun e w' => e = .returned (.int .i64 (lfAt r)) ∧ w = w' := (Tryz.strings_IndexByte r 10 w).mono fun _ _ h => ⟨h.1, h.2.symm⟩

set_option maxRecDepth 100000 in
set_option maxHeartbeats 2000000 in
theorem Trw.lines69 (n : Nat) (l b : Nat) (s : ByteArray) (hs : s.size ≤ 65536) (J Jx : List ByteArray → World → Prop) (W : World) (B0 : Nat) (hJ : AbidesFrom B0 J) (hJx : AbidesFrom B0 Jx) (hJs : SetsOk b J)
    (hY : ∀ pre x W1, J pre W1 → pre ++ [x] <+: linesB s → YieldAt Fence.wide (n - 1) Tryz.prog l #[.string x] W1 fun e W' =>
      (e = .returned (.bool true) ∧ J (pre ++ [x]) W' ∧ KpC b W1 W') ∨ (e = .returned (.bool false) ∧ Jx (pre ++ [x]) W'))
    (hn : 1 ≤ n) (hb : W.cell? ⟨b, 0, none⟩ = some (.string s)) (hf : W.frozen? ⟨b, 0, none⟩ = false) (h0 : J [] W) :
    CallsIn Fence.wide n Tryz.prog 69 #[.func (.yield l) #[] #[], .pointer (some ⟨b, 0, none⟩)] W fun e W' => (∃ v, e = .returned v) ∧ (J (linesB s) W' ∨ ∃ pre, pre <+: linesB s ∧ Jx pre W') := by
  have HY := Lib.hid hY; clear hY
  refine callsIn_of_wp Tryz.func69 rfl trivial ?_ rfl
  simp only [Tryz.ntmps69, List.size_toArray, List.length_cons, List.length_nil, Nat.reduceAdd, Nat.reduceSub, Array.replicate_succ, Array.replicate_zero, List.push_toArray, List.append_toArray, List.nil_append, List.cons_append]
  gi_wp2
  gi_loopw [3] (fun _ wr => ∃ (pre : List ByteArray) (r : ByteArray), wr.cell? ⟨b, 0, none⟩ = some (.string r) ∧ wr.frozen? ⟨b, 0, none⟩ = false ∧ linesB s = pre ++ linesB r ∧ r.size ≤ s.size ∧ J pre wr) (fun _ wr => leftIn wr b)
  case atStart => exact ⟨[], s, hb, hf, rfl, Nat.le_refl _, h0⟩
  case round =>
    obtain ⟨pre, r, hc, hfr, hsp, hrs, hj⟩ := hrel
    have HSP := Lib.hid hsp; have HJ0 := Lib.hid hj; clear hsp hj
    by_cases hr0 : r.size = 0
    · gi_wp2
      go_end0
      refine ⟨⟨_, rfl⟩, .inl ?_⟩
      rw [HSP.out, linesB_nil hr0, List.append_nil]; exact HJ0.out
    · have hr1 : 0 < r.size := by omega
      have hge := lfAt_ge r
      by_cases hi : lfAt r < 0
      · have HL := Lib.hid (linesB_miss hr0 hi)
        have hj1 := hJs _ _ (.string ⟨#[]⟩) HJ0.out
        obtain ⟨fn, tmps, assign, body, hy, hR⟩ := HY.out pre r _ hj1 (by rw [HSP.out, HL.out]; exact List.prefix_refl _)
        gi_wp2_with (first | (refine ⟨trivial, ?_⟩; gi_at_call 70; refine (callsIn_wide.2 (Trw.idx70 r _)).mono ?_; rintro e w' ⟨rfl, rfl⟩))
        refine hR.mono ?_
        rintro e W3 (⟨rfl, hJ3, hk3⟩ | ⟨rfl, hJx3⟩)
        · have hc3 : W3.cell? ⟨b, 0, none⟩ = some (.string ⟨#[]⟩) := hk3.cell.trans (World.cell?_setCell_same' _ _ _ (by rw [hc]; rfl))
          have hf3 : W3.frozen? ⟨b, 0, none⟩ = false := hk3.froz.trans (by rw [World.frozen?_setCell]; exact hfr)
          gi_wp2
          go_roundw
          case rel => exact ⟨pre ++ [r], ⟨#[]⟩, hc3, hf3, by rw [HSP.out, HL.out, linesB_nil (s := ⟨#[]⟩) rfl, List.append_nil], Nat.zero_le _, hJ3⟩
          case measure => rw [leftIn_eq hc3, leftIn_eq hc]; exact hr1
        · gi_wp2
          refine bodyPost_ret (results_none rfl _ _ _) rfl ?_
          exact ⟨⟨_, rfl⟩, .inr ⟨pre ++ [r], by rw [HSP.out, HL.out]; exact List.prefix_refl _, hJx3⟩⟩
      · have hlt := lfAt_lt r (by omega)
        obtain ⟨i, hie⟩ : ∃ i : Nat, lfAt r = i := ⟨(lfAt r).toNat, by omega⟩
        have HH := Lib.hid (linesB_hit hr0 (by omega : 0 ≤ lfAt r))
        have HIX := Trw.idx70 r
        rw [hie] at HIX
        have HI := Lib.hid HIX; clear HIX
        have hil : i < r.size := by omega
        have HIE := Lib.hid hie; clear hie hge hi hlt
        gi_wp2_with (first | (refine ⟨trivial, ?_⟩; gi_at_call 70; refine (callsIn_wide.2 (HI.out _)).mono ?_; rintro e w' ⟨rfl, rfl⟩))
        gi_region
        have hj1 : J pre (wr.setCell ⟨b, 0, none⟩ (.string (r.extract (i + 1) r.size))).drew := hJ _ _ _ none (hJs _ _ (.string (r.extract (i + 1) r.size)) HJ0.out) (Trw.grown_drewN _ 1) (fun _ e => by cases e)
        obtain ⟨fn, tmps, assign, body, hy, hR⟩ := HY.out pre (r.extract 0 (i + 1)) _ hj1 (by
          rw [HSP.out, HH.out, HIE.out]
          exact ⟨linesB (r.extract (i + 1) r.size), by simp⟩)
        gi_wp2
        refine hR.mono ?_
        rintro e W3 (⟨rfl, hJ3, hk3⟩ | ⟨rfl, hJx3⟩)
        · have hc3 : W3.cell? ⟨b, 0, none⟩ = some (.string (r.extract (i + 1) r.size)) := hk3.cell.trans (World.cell?_setCell_same' _ _ _ (by rw [hc]; rfl))
          have hf3 : W3.frozen? ⟨b, 0, none⟩ = false := hk3.froz.trans (by show (wr.setCell _ _).frozen? _ = false; rw [World.frozen?_setCell]; exact hfr)
          gi_wp2
          go_roundw
          case rel => exact ⟨pre ++ [r.extract 0 (i + 1)], r.extract (i + 1) r.size, hc3, hf3, by rw [HSP.out, HH.out, HIE.out]; simp, by simp; omega, hJ3⟩
          case measure => rw [leftIn_eq hc3, leftIn_eq hc]; simp; omega
        · gi_wp2
          refine bodyPost_ret (results_none rfl _ _ _) rfl ?_
          exact ⟨⟨_, rfl⟩, .inr ⟨pre ++ [r.extract 0 (i + 1)], by rw [HSP.out, HH.out, HIE.out]; exact ⟨linesB (r.extract (i + 1) r.size), by simp⟩, hJx3⟩⟩
end Go.Proofs
end

section
namespace Go.Proofs
open Go.RowKit Go.Shelf Go.Trw
attribute [local go_sem] Oper.semAt_some

def Trw.lineR (x : ByteArray) : Int ⊕ Trw.RR := Trw.lineS (Trw.cutB x) (Trw.wordAt (Trw.cutS x)) (Trw.wordsN (Trw.cutS x))
def Trw.RR.cells (r : Trw.RR) : List Value := [.int .u8 r.k, .int .i64 r.wt, .string r.a, .string r.b, .string r.t, .int .i64 r.n]
def Trw.cellsOf (rs : List Trw.RR) : List Value := rs.flatMap Trw.RR.cells
theorem Trw.cellsOf_snoc (rs : List Trw.RR) (r : Trw.RR) : Trw.cellsOf (rs ++ [r]) = Trw.cellsOf rs ++ r.cells := by simp [Trw.cellsOf]
theorem Trw.cellsOf_length (rs : List Trw.RR) : (Trw.cellsOf rs).length = rs.length * 6 := by
  induction rs with
  | nil => rfl
  | cons r rs ih => simp [Trw.cellsOf] at ih ⊢; rw [ih]; simp [Trw.RR.cells]; omega

/-- the rules of a text, line by line: the error (0: none), the first wrong line, the rules. -/
def Trw.runL : List Trw.RR → List ByteArray → Int × Nat × List Trw.RR
  | acc, [] => (0, 0, acc)
  | acc, x :: xs => match Trw.lineR x with
    | .inl e => (e, acc.length, [])
    | .inr r => if acc.length = 64 then (7, 64, []) else Trw.runL (acc ++ [r]) xs
def Trw.parseS (s : ByteArray) : Int × Nat × List Trw.RR := if 65536 < s.size then (7, 0, []) else Trw.runL [] (linesB s)

theorem Trw.runL_good : ∀ (p : List ByteArray) (rs acc : List Trw.RR) (ys : List ByteArray), p.map Trw.lineR = rs.map Sum.inr → (acc ++ rs).length ≤ 64 → Trw.runL acc (p ++ ys) = Trw.runL (acc ++ rs) ys
  | [], rs, acc, ys, h, _ => by
    cases rs with
    | nil => simp
    | cons r rs => simp at h
  | x :: p, rs, acc, ys, h, hl => by
    cases rs with
    | nil => simp at h
    | cons r rs =>
      simp only [List.map_cons, List.cons.injEq] at h
      simp only [List.length_append, List.length_cons] at hl
      rw [List.cons_append, Trw.runL, h.1]
      simp only
      rw [if_neg (by omega), Trw.runL_good p rs (acc ++ [r]) ys h.2 (by simp; omega)]
      simp

theorem Trw.bodyS_err {u : Nat → ByteArray} {len : Nat} {wt e : Int} (h : Trw.bodyS u len wt = .inl e) : 1 ≤ e ∧ e ≤ 100 := by
  unfold Trw.bodyS Trw.tailS at h
  simp only at h
  repeat' split at h
  all_goals (cases h)
  all_goals omega
theorem Trw.lineS_err {ok : Bool} {u : Nat → ByteArray} {len : Nat} {e : Int} (h : Trw.lineS ok u len = .inl e) : 1 ≤ e ∧ e ≤ 100 := by
  unfold Trw.lineS at h
  repeat' split at h
  all_goals first
    | exact Trw.bodyS_err h
    | (cases h; omega)

set_option maxRecDepth 100000 in
theorem Trw.lines22 (s : ByteArray) (w : World) : Calls Tryz.prog 22 #[.string s] w fun e w' => e = .returned (.func (.func 69) #[] #[.pointer (some ⟨w.heap.size, 0, none⟩)]) ∧ w' = w.alloc (.cells #[.string s] 9) := by
  go_enter Tryz.func22, Tryz.ntmps22
  go_wp2
  go_ret
  exact ⟨rfl, rfl⟩

/-- between two lines. -/
def Trw.parseI (w : World) (pre : List ByteArray) (W : World) : Prop :=
  ∃ (rs : List Trw.RR) (v : Value), pre.map Trw.lineR = rs.map Sum.inr ∧ rs.length ≤ 64 ∧ Is W w.heap.size 22 #[.slice none 0 0] ∧ Is W (w.heap.size + 1) 3 #[.int .i64 0] ∧ Is W (w.heap.size + 1 + 1) 23 #[.int .i64 0] ∧
    Is W (w.heap.size + 1 + 1 + 1) 22 #[v] ∧ W.ownsRow (w.heap.size + 5) 46 6 v rs.length (Trw.cellsOf rs) ∧ w.heap.size + 5 ≤ W.heap.size ∧ Below w.heap.size w W
/-- a line was wrong. -/
def Trw.parseX (w : World) (s : ByteArray) (pre : List ByteArray) (W : World) : Prop :=
  ∃ (e : Int) (k : Nat), 1 ≤ e ∧ e ≤ 100 ∧ k ≤ 64 ∧ (∀ ys, pre ++ ys = linesB s → Trw.runL [] (linesB s) = (e, k, [])) ∧ Is W w.heap.size 22 #[.slice none 0 0] ∧ Is W (w.heap.size + 1) 3 #[.int .i64 k] ∧ Is W (w.heap.size + 1 + 1) 23 #[.int .i64 e] ∧ w.heap.size + 5 ≤ W.heap.size ∧ Below w.heap.size w W

def Trw.parseP (s : ByteArray) (w : World) (e : Ending) (w' : World) : Prop :=
  ∃ v, e = .returned (.tuple #[v, .int .i64 (Trw.parseS s).2.1, .int .i64 (Trw.parseS s).1]) ∧ w'.ownsRow w.heap.size 46 6 v (Trw.parseS s).2.2.length (Trw.cellsOf (Trw.parseS s).2.2) ∧ Below w.heap.size w w' ∧ ((Trw.parseS s).1 ≠ 0 → v = .slice none 0 0)

/-! ### what abides -/
theorem Trw.Is_grown {W W' : World} {n : Nat} {T : TypeId} {cs : Array Value} {row : Option Nat} (h : Is W n T cs) (hg : W.grownBy W' row) (hne : some n ≠ row) : Is W' n T cs := h.of_heap (hg.block n h.lt hne)
theorem Trw.Is_ncells {W : World} {n : Nat} {T : TypeId} {cs : Array Value} {row : Option Nat} (h : Is W n T cs) (hr : ∀ r, row = some r → ∃ o : Obj, W.heap[r]? = some o ∧ o.isCells = false) : some n ≠ row := by
  intro e
  obtain ⟨o, ho, hc⟩ := hr n e.symm
  unfold Is at h
  rw [h] at ho
  obtain rfl : Obj.cells cs T (0, 0) = o := by injection ho
  cases hc
theorem Trw.row_ncells {W : World} {base k size : Nat} {e : TypeId} {v : Value} {xs : List Value} {row : Option Nat} (h : W.ownsRow base e size v k xs) (hr : ∀ r, row = some r → ∃ o : Obj, W.heap[r]? = some o ∧ o.isCells = false) : v.ownBlock = none ∨ v.ownBlock ≠ row := by
  rcases h.2 with ⟨rfl, _⟩ | ⟨g, cap, cur, rfl, _, hb, _⟩
  · exact .inl rfl
  · right
    intro e
    obtain ⟨o, ho, hc⟩ := hr g (by rw [← e]; rfl)
    rw [hb] at ho
    obtain rfl : Obj.cells cur _ (0, 0) = o := by injection ho
    cases hc
theorem Trw.row_below {W W' : World} {base k size : Nat} {e : TypeId} {v : Value} {xs : List Value} (h : W.ownsRow base e size v k xs) (hb : Below W.heap.size W W') : W'.ownsRow base e size v k xs :=
  h.kept (row := none) ⟨hb.os, hb.tape, hb.output, hb.size, fun i hi _ => hb.block i hi⟩ (by
    cases h0 : v.ownBlock
    · exact .inl rfl
    · right; simp)
theorem Trw.keeps_below {B : Nat} {W W' : World} (hb : Below W.heap.size W W') : KeepsFrom B W W' := ⟨hb.size, fun k o _ hk _ => (hb.block k (Array.getElem?_eq_some_iff.1 hk).1).trans hk⟩

theorem Trw.parseI_own (w : World) (B0 : Nat) (hB : w.heap.size ≤ B0) : OwnFrom B0 (Trw.parseI w) := by
  rintro pre W W' row ⟨rs, v, h1, h2, i1, i2, i3, i4, hrow, hsz, hb⟩ hg hr
  have hr' : ∀ r, row = some r → ∃ o : Obj, W.heap[r]? = some o ∧ o.isCells = false := fun r e => (hr r e).2
  exact ⟨rs, v, h1, h2, Trw.Is_grown i1 hg (Trw.Is_ncells i1 hr'), Trw.Is_grown i2 hg (Trw.Is_ncells i2 hr'), Trw.Is_grown i3 hg (Trw.Is_ncells i3 hr'), Trw.Is_grown i4 hg (Trw.Is_ncells i4 hr'),
    hrow.kept hg (Trw.row_ncells hrow hr'), Nat.le_trans hsz hg.size, hb.grown hg (by omega) (fun k e => Nat.le_trans hB (hr k e).1)⟩
theorem Trw.parseX_own (w : World) (s : ByteArray) (B0 : Nat) (hB : w.heap.size ≤ B0) : OwnFrom B0 (Trw.parseX w s) := by
  rintro pre W W' row ⟨e, k, h1, h2, h3, h4, i1, i2, i3, hsz, hb⟩ hg hr
  have hr' : ∀ r, row = some r → ∃ o : Obj, W.heap[r]? = some o ∧ o.isCells = false := fun r e => (hr r e).2
  exact ⟨e, k, h1, h2, h3, h4, Trw.Is_grown i1 hg (Trw.Is_ncells i1 hr'), Trw.Is_grown i2 hg (Trw.Is_ncells i2 hr'), Trw.Is_grown i3 hg (Trw.Is_ncells i3 hr'), Nat.le_trans hsz hg.size, hb.grown hg (by omega) (fun k e => Nat.le_trans hB (hr k e).1)⟩
theorem Trw.parseI_set (w : World) : SetsOk (w.heap.size + 1 + 1 + 1 + 1) (Trw.parseI w) := by
  rintro pre W x ⟨rs, v, h1, h2, i1, i2, i3, i4, hrow, hsz, hb⟩
  exact ⟨rs, v, h1, h2, i1.other (by omega) _ _, i2.other (by omega) _ _, i3.other (by omega) _ _, i4.other (by omega) _ _, ownsRow_setCell_below hrow (by show w.heap.size + 1 + 1 + 1 + 1 < w.heap.size + 5; omega) _, by rw [World.size_setCell]; exact hsz, hb.setCell (by show w.heap.size ≤ w.heap.size + 1 + 1 + 1 + 1; omega) _⟩
theorem Trw.parseX_set (w : World) (s : ByteArray) : SetsOk (w.heap.size + 1 + 1 + 1 + 1) (Trw.parseX w s) := by
  rintro pre W x ⟨e, k, h1, h2, h3, h4, i1, i2, i3, hsz, hb⟩
  exact ⟨e, k, h1, h2, h3, h4, i1.other (by omega) _ _, i2.other (by omega) _ _, i3.other (by omega) _ _, by rw [World.size_setCell]; exact hsz, hb.setCell (by show w.heap.size ≤ w.heap.size + 1 + 1 + 1 + 1; omega) _⟩

theorem Trw.runL_bad {s : ByteArray} {pre : List ByteArray} {x : ByteArray} {rs : List Trw.RR} {e : Int} (h : pre.map Trw.lineR = rs.map Sum.inr) (hl : rs.length ≤ 64) (hx : Trw.lineR x = .inl e) (ys : List ByteArray) (hy : pre ++ [x] ++ ys = linesB s) : Trw.runL [] (linesB s) = (e, rs.length, []) := by
  rw [← hy, List.append_assoc, Trw.runL_good pre rs [] _ h (by simpa using hl)]
  simp [Trw.runL, hx]
theorem Trw.runL_many {s : ByteArray} {pre : List ByteArray} {x : ByteArray} {rs : List Trw.RR} {r : Trw.RR} (h : pre.map Trw.lineR = rs.map Sum.inr) (hl : rs.length = 64) (hx : Trw.lineR x = .inr r) (ys : List ByteArray) (hy : pre ++ [x] ++ ys = linesB s) : Trw.runL [] (linesB s) = (7, 64, []) := by
  rw [← hy, List.append_assoc, Trw.runL_good pre rs [] _ h (by simp; omega)]
  simp [Trw.runL, hx, hl]
theorem Trw.row_shape {w : World} {base : Nat} {e : TypeId} {size : Nat} {v : Value} {n : Nat} {xs : List Value} (h : w.ownsRow base e size v n xs) : ∃ a c, v = .slice a n c := by
  rcases h.2 with ⟨rfl, rfl⟩ | ⟨g, cap, cur, rfl, _⟩
  · exact ⟨none, 0, rfl⟩
  · exact ⟨_, _, rfl⟩

theorem Trw.Is_set1 {W : World} {n : Nat} {T : TypeId} {a v : Value} (h : Is W n T #[a]) : Is (W.setCell ⟨n, 0, none⟩ v) n T #[v] := (h.set 0 v).cast rfl
theorem Trw.kf_set {B : Nat} {W W' : World} (h : KeepsFrom B W W') (p : Addr) (v : Value) : KeepsFrom B W (W'.setCell p v) := h.trans ((KeepsOthers.setCell W' p v).from B)
theorem Trw.kf_alloc {B : Nat} {W W' : World} (h : KeepsFrom B W W') (o : Obj) : KeepsFrom B W (W'.alloc o) := h.trans ((KeepsOthers.alloc W' o).from B)
theorem Trw.kf_drew {B : Nat} {W W' : World} (h : KeepsFrom B W W') : KeepsFrom B W W'.drew := h.trans ⟨Nat.le_refl _, fun _ _ _ hk _ => hk⟩
theorem Trw.parseX_mk {w W' : World} {s : ByteArray} {pre : List ByteArray} {e : Int} {k : Nat} (h1 : 1 ≤ e ∧ e ≤ 100) (h2 : k ≤ 64) (h3 : ∀ ys, pre ++ ys = linesB s → Trw.runL [] (linesB s) = (e, k, []))
    (i1 : Is W' w.heap.size 22 #[.slice none 0 0]) (i2 : Is W' (w.heap.size + 1) 3 #[.int .i64 k]) (i3 : Is W' (w.heap.size + 1 + 1) 23 #[.int .i64 e]) (hz : w.heap.size + 5 ≤ W'.heap.size) (hb : Below w.heap.size w W') : Trw.parseX w s pre W' :=
  ⟨e, k, h1.1, h1.2, h2, h3, i1, i2, i3, hz, hb⟩

theorem Trw.own_base {w : World} {base : Nat} {e : TypeId} {size : Nat} {v : Value} {n : Nat} {xs : List Value} (h : w.ownsRow base e size v n xs) (j : Nat) (hj : v.ownBlock = some j) : base ≤ j := by
  rcases h.2 with ⟨rfl, rfl⟩ | ⟨g, cap, cur, rfl, hb, _⟩
  · cases hj
  · obtain rfl : g = j := by simpa [Value.ownBlock] using hj
    exact hb
theorem Trw.own_cells {w : World} {base : Nat} {e : TypeId} {size : Nat} {v : Value} {n : Nat} {xs : List Value} (h : w.ownsRow base e size v n xs) (j : Nat) (o : Obj) (hj : v.ownBlock = some j) (ho : w.heap[j]? = some o) : o.isCells = true := by
  rcases h.2 with ⟨rfl, rfl⟩ | ⟨g, cap, cur, rfl, hb, hg, _⟩
  · cases hj
  · obtain rfl : g = j := by simpa [Value.ownBlock] using hj
    rw [hg] at ho; cases ho; rfl
theorem Trw.cells_one (r : Trw.RR) : ∀ u ∈ r.cells, u.oneCell' = true := by
  intro u hu
  simp only [Trw.RR.cells, List.mem_cons, List.not_mem_nil, or_false] at hu
  rcases hu with rfl | rfl | rfl | rfl | rfl | rfl <;> rfl
theorem Trw.new_cells (W : World) (T : TypeId) (cs : List Value) (j : Nat) (u : Value) (h : cs[j]? = some u) : (W.alloc (.cells cs.toArray T)).cell? ((⟨W.heap.size, 0, none⟩ : Addr).add j) = some u := by
  have : (⟨W.heap.size, 0, none⟩ : Addr).add j = ⟨W.heap.size, j, none⟩ := by
    unfold Addr.add
    split
    · rename_i h0; subst h0; rfl
    · simp
  rw [this, (Is.new W T cs.toArray).cell]
  simpa using h

theorem Trw.parse_mid {w W w1 w5 : World} {n : Nat} {v : Value} {xs : List Value} {A C : Obj} {va : Value} (hb1 : Below W.heap.size W w1) (hsz : w.heap.size + 5 ≤ W.heap.size) (j4 : Is W (w.heap.size + 1 + 1 + 1) 22 #[va])
    (hrow : W.ownsRow (w.heap.size + 5) 46 6 v n xs) (hgrow : ((w1.alloc A).alloc C).grownBy w5 v.ownBlock) : Is w5 (w.heap.size + 1 + 1 + 1) 22 #[va] :=
  Trw.Is_grown (((j4.below hb1 (by omega)).alloc _).alloc _) hgrow (fun e => by have := Trw.own_base hrow _ e.symm; omega)

theorem Trw.parse_step {w W w1 w5 : World} {B : Nat} {pre : List ByteArray} {x : ByteArray} {rs : List Trw.RR} {r : Trw.RR} {v v' : Value} {A C : Obj} (p1 : pre.map Trw.lineR = rs.map Sum.inr) (p2 : rs.length < 64) (hx : Trw.lineR x = .inr r)
    (hb : Below w.heap.size w W) (hb1 : Below W.heap.size W w1) (hsz : w.heap.size + 5 ≤ W.heap.size)
    (j1 : Is W w.heap.size 22 #[.slice none 0 0]) (j2 : Is W (w.heap.size + 1) 3 #[.int .i64 0]) (j3 : Is W (w.heap.size + 1 + 1) 23 #[.int .i64 0]) (j4 : Is W (w.heap.size + 1 + 1 + 1) 22 #[v])
    (hrow : W.ownsRow (w.heap.size + 5) 46 6 v rs.length (Trw.cellsOf rs)) (hown : w5.ownsRow (w.heap.size + 5) 46 6 v' (rs.length + 1) (Trw.cellsOf rs ++ r.cells)) (hgrow : ((w1.alloc A).alloc C).grownBy w5 v.ownBlock) :
    KeepsFrom B W (w5.setCell ⟨w.heap.size + 1 + 1 + 1, 0, none⟩ v') ∧ KpC (w.heap.size + 1 + 1 + 1 + 1) W (w5.setCell ⟨w.heap.size + 1 + 1 + 1, 0, none⟩ v') ∧ Trw.parseI w (pre ++ [x]) (w5.setCell ⟨w.heap.size + 1 + 1 + 1, 0, none⟩ v') := by
  have hrow2 := ((Trw.row_below hrow hb1).alloc A).alloc C
  have hne : ∀ k, k < w.heap.size + 5 → some k ≠ v.ownBlock := fun k hk e => by have := Trw.own_base hrow _ e.symm; omega
  have is5 : ∀ {k : Nat} {T : TypeId} {cs : Array Value}, Is W k T cs → k < w.heap.size + 5 → Is w5 k T cs := fun h hk => Trw.Is_grown (((h.below hb1 (by omega)).alloc _).alloc _) hgrow (hne _ hk)
  have hp5 : w5.heap[w.heap.size + 1 + 1 + 1 + 1]? = W.heap[w.heap.size + 1 + 1 + 1 + 1]? := by
    have hlt1 := hb1.size
    rw [hgrow.block _ (by simp; omega) (hne _ (by omega)), Go.Trw.heap_alloc _ _ (by simp; omega), Go.Trw.heap_alloc _ _ (by omega)]
    exact hb1.block _ (by omega)
  have hp6 : (w5.setCell ⟨w.heap.size + 1 + 1 + 1, 0, none⟩ v').heap[w.heap.size + 1 + 1 + 1 + 1]? = W.heap[w.heap.size + 1 + 1 + 1 + 1]? := by rw [Go.Trw.heap_set_ne (by omega)]; exact hp5
  refine ⟨?_, ⟨by simp [World.cell?, hp6], by simp [World.frozen?, hp6]⟩, rs ++ [r], v', ?_, by simp; omega, (is5 j1 (by omega)).other (by omega) _ _, (is5 j2 (by omega)).other (by omega) _ _, (is5 j3 (by omega)).other (by omega) _ _, Trw.Is_set1 (is5 j4 (by omega)), ?_, ?_, ?_⟩
  · refine Trw.kf_set ((Trw.kf_alloc (Trw.kf_alloc (Trw.keeps_below hb1) _) _).trans ((KeepsOthers.of_grownBy hgrow fun j o ej hj => Trw.own_cells hrow2 j o ej hj).from B)) _ _
  · simp [p1, hx]
  · rw [Trw.cellsOf_snoc]
    have := ownsRow_setCell_below hown (a := ⟨w.heap.size + 1 + 1 + 1, 0, none⟩) (by show w.heap.size + 1 + 1 + 1 < w.heap.size + 5; omega) v'
    simpa using this
  · have h1 := hb1.size
    have h2 := hgrow.size
    simp at h2 ⊢; omega
  · have h1 := hb1.size
    exact ((((hb.trans (hb1.mono (by omega))).alloc (by omega) A).alloc (by simp; omega) C).grown hgrow (by simp; omega) (fun k e => by have := Trw.own_base hrow k e; omega)).setCell (by show w.heap.size ≤ w.heap.size + 1 + 1 + 1; omega) _

theorem Trw.Is_putObj {W : World} {n D : Nat} {T : TypeId} {cs : Array Value} {o o' : Obj} (h : Is W n T cs) (hk : W.heap[D]? = some o) (ho : o.isCells = false) : Is (W.putObj D o') n T cs :=
  Trw.Is_grown h (grownBy_putObj' W D o') (Trw.Is_ncells h (fun r e => by cases e; exact ⟨o, hk, ho⟩))
theorem Trw.parseP_mk {s : ByteArray} {w w' : World} {v : Value} {i : Int} {er : Int} {rs : List Trw.RR} {k : Nat} (hp : Trw.parseS s = (er, k, rs)) (hi : i = k) (hrow : w'.ownsRow w.heap.size 46 6 v rs.length (Trw.cellsOf rs)) (hb : Below w.heap.size w w') (hnil : er ≠ 0 → v = .slice none 0 0 := by intro h; first | rfl | exact absurd rfl h) :
    Trw.parseP s w (.returned (.tuple #[v, .int .i64 i, .int .i64 er])) w' := by
  subst hi
  refine ⟨v, by rw [hp], ?_, hb, ?_⟩
  · rw [hp]; exact hrow
  · rw [hp]; exact hnil
theorem Trw.row_less {w : World} {base base' : Nat} {e : TypeId} {size : Nat} {v : Value} {n : Nat} {xs : List Value} (h : w.ownsRow base e size v n xs) (hb : base' ≤ base) : w.ownsRow base' e size v n xs := by
  refine ⟨h.1, h.2.imp id ?_⟩
  rintro ⟨g, cap, cur, h1, h2, h3⟩
  exact ⟨g, cap, cur, h1, Nat.le_trans hb h2, h3⟩
theorem Trw.parseS_good {s : ByteArray} {rs : List Trw.RR} (hs : s.size ≤ 65536) (h : (linesB s).map Trw.lineR = rs.map Sum.inr) (hl : rs.length ≤ 64) : Trw.parseS s = (0, 0, rs) := by
  have := Trw.runL_good (linesB s) rs [] [] h (by simpa using hl)
  rw [List.append_nil] at this
  unfold Trw.parseS
  rw [if_neg (by omega), this]
  rfl

theorem Trw.info46 : ∃ i0 z, Tryz.prog.info? 46 = some i0 ∧ i0.zero = some z ∧ i0.size = 6 ∧ i0.bytes = 72 ∧ z.cells.size = 6 := by
  have h : (Tryz.prog.info? 46).map (fun i => (i.zero.map (·.cells.size), i.size, i.bytes)) = some (some 6, 6, 72) := by kernel_rfl
  cases hi : Tryz.prog.info? 46 with
  | none => rw [hi] at h; simp at h
  | some i0 =>
    rw [hi] at h
    simp only [Option.map_some, Option.some.injEq, Prod.mk.injEq, Option.map_eq_some_iff] at h
    obtain ⟨⟨z, hz, hz2⟩, h2, h3⟩ := h
    exact ⟨i0, z, rfl, hz, h2, h3, hz2⟩

set_option maxRecDepth 100000 in
set_option maxHeartbeats 4000000 in
theorem Trw.parse6 (hline : ∀ (s : ByteArray) (m : Int) (w : World), s.size ≤ 65536 → w.cell? ⟨0, 0, none⟩ = some (.int .i64 m) → Calls Tryz.prog 23 #[.string s] w (Trw.lineP s w))
    (s : ByteArray) (m : Int) (w : World) (hs : s.size ≤ 65536) (hm : w.cell? ⟨0, 0, none⟩ = some (.int .i64 m)) :
    Calls Tryz.prog 6 #[.string s] w (Trw.parseP s w) := by
  have hbk := World.block_lt_of_cell? _ _ hm
  refine (callsIn_wide (n := 5)).1 ?_
  refine callsIn_of_wp_marks Tryz.func6 rfl trivial ?_ rfl
  simp only [Tryz.ntmps6, List.size_toArray, List.length_cons, List.length_nil, Nat.reduceAdd, Nat.reduceSub, Array.replicate_succ, Array.replicate_zero, List.push_toArray, List.append_toArray, List.nil_append, List.cons_append]
  gi_wp2_with (refine ⟨trivial, ?_⟩; gi_at_call 22; refine (callsIn_wide.2 (Trw.lines22 s _)).mono ?_; rintro e w' ⟨rfl, rfl⟩)
  obtain ⟨W0, hW0⟩ : ∃ W0, W0 = (((((w.alloc (.cells #[.slice none 0 0] 22)).alloc (.cells #[.int .i64 0] 3)).alloc (.cells #[.int .i64 0] 23)).alloc (.cells #[.slice none 0 0] 22)).alloc (.cells #[.string s] 9)) := ⟨_, rfl⟩
  have hz : W0.heap.size = w.heap.size + 1 + 1 + 1 + 1 + 1 := by rw [hW0]; simp
  have i1 : Is W0 w.heap.size 22 #[.slice none 0 0] := by rw [hW0]; exact ((((Is.new w 22 _).alloc _).alloc _).alloc _).alloc _
  have i2 : Is W0 (w.heap.size + 1) 3 #[.int .i64 0] := by rw [hW0]; have := (((Is.new (w.alloc (.cells #[.slice none 0 0] 22)) 3 #[.int .i64 0]).alloc (.cells #[.int .i64 0] 23)).alloc (.cells #[.slice none 0 0] 22)).alloc (.cells #[.string s] 9); rwa [World.size_alloc] at this
  have i3 : Is W0 (w.heap.size + 1 + 1) 23 #[.int .i64 0] := by rw [hW0]; have := ((Is.new ((w.alloc (.cells #[.slice none 0 0] 22)).alloc (.cells #[.int .i64 0] 3)) 23 #[.int .i64 0]).alloc (.cells #[.slice none 0 0] 22)).alloc (.cells #[.string s] 9); rwa [World.size_alloc, World.size_alloc] at this
  have i4 : Is W0 (w.heap.size + 1 + 1 + 1) 22 #[.slice none 0 0] := by rw [hW0]; have := (Is.new (((w.alloc (.cells #[.slice none 0 0] 22)).alloc (.cells #[.int .i64 0] 3)).alloc (.cells #[.int .i64 0] 23)) 22 #[.slice none 0 0]).alloc (.cells #[.string s] 9); rwa [World.size_alloc, World.size_alloc, World.size_alloc] at this
  have i5 : Is W0 (w.heap.size + 1 + 1 + 1 + 1) 9 #[.string s] := by rw [hW0]; have := Is.new ((((w.alloc (.cells #[.slice none 0 0] 22)).alloc (.cells #[.int .i64 0] 3)).alloc (.cells #[.int .i64 0] 23)).alloc (.cells #[.slice none 0 0] 22)) 9 #[.string s]; rwa [World.size_alloc, World.size_alloc, World.size_alloc, World.size_alloc] at this
  have hb0 : Below w.heap.size w W0 := by rw [hW0]; exact (((((Below.refl _ w).alloc (Nat.le_refl _) _).alloc (by simp) _).alloc (by simp; omega) _).alloc (by simp; omega) _).alloc (by simp; omega) _
  rw [← hW0]
  clear hW0
  refine wpIn_rangeC (n := 5) rfl (by decide) (gf := 69) (b := w.heap.size + 1 + 1 + 1 + 1) (lb := #[.pointer (some ⟨w.heap.size + 1 + 1 + 1 + 1, 0, none⟩)]) rfl trivial (enters_of Tryz.func69 (by kernel_rfl) rfl) (encs := fun x => #[.string x]) (xs := linesB s) ?_ (by omega) (fun _ => rfl)
    (Trw.parseI w) (Trw.parseX w s) (Trw.parseI_own w _ (by omega)) (Trw.parseX_own w s _ (by omega)) (Trw.parseI_set w) (Trw.parseX_set w s)
    ⟨[], .slice none 0 0, rfl, by simp, i1, i2, i3, i4, ⟨rfl, .inl ⟨rfl, rfl⟩⟩, by omega, hb0⟩
    (fun x => { tmps := #[.string s, undef, .pointer (some ⟨w.heap.size, 0, none⟩), .pointer (some ⟨w.heap.size + 1, 0, none⟩), .pointer (some ⟨w.heap.size + 1 + 1, 0, none⟩), .pointer (some ⟨w.heap.size + 1 + 1 + 1, 0, none⟩), .string x, undef, undef, .string s,
      .int .i64 s.size, .bool (decide (65536 < (s.size : Int))), .string s, .func (.func 69) #[] #[.pointer (some ⟨w.heap.size + 1 + 1 + 1 + 1, 0, none⟩)], .string x, undef, undef, undef, undef, undef, undef, undef, undef, undef, undef, undef, undef, undef, undef, undef, undef, undef, undef, undef, undef, undef, undef], defers := [] })
    ?assign ?body ?done ?stop
  · exact fun l J Jx W hW hJ hJx hJs hJxs hY h0 => Trw.lines69 _ l _ s hs J Jx W _ hJ hJx hJs hY (by decide) (by rw [hW.cell (p := ⟨w.heap.size + 1 + 1 + 1 + 1, 0, none⟩) (by show w.heap.size + 1 + 1 + 1 + 1 < W0.heap.size; omega)]; exact i5.one) (by rw [hW.frozen (p := ⟨w.heap.size + 1 + 1 + 1 + 1, 0, none⟩) (by show w.heap.size + 1 + 1 + 1 + 1 < W0.heap.size; omega)]; exact i5.frozen 0) h0
  case assign =>
    intro l x W K hK
    gi_wp2
    exact hK
  case body =>
    rintro l pre x W ⟨rs, v, p1, p2, j1, j2, j3, j4, hrow, hsz, hb⟩ hpre hWz
    obtain ⟨va, vc, rfl⟩ := Trw.row_shape hrow
    obtain ⟨ys, hys⟩ := hpre
    have hx : x.size ≤ 65536 := Nat.le_trans (linesB_size s x (by rw [← hys]; simp)) hs
    have hmW : W.cell? ⟨0, 0, none⟩ = some (.int .i64 m) := (hb.cell (p := ⟨0, 0, none⟩) hbk).trans hm
    have HL := Lib.hid (hline x m W hx hmW)
    have z1 : w.heap.size < W.heap.size := by omega
    have z2 : w.heap.size + 1 < W.heap.size := by omega
    have z3 : w.heap.size + 1 + 1 < W.heap.size := by omega
    have z4 : w.heap.size + 1 + 1 + 1 < W.heap.size := by omega
    have HROW := Lib.hid hrow; have HB := Lib.hid hb; have HP1 := Lib.hid p1; have HYS := Lib.hid hys
    have J1 := Lib.hid j1; have J2 := Lib.hid j2; have J3 := Lib.hid j3; have J4 := Lib.hid j4
    have HM := Lib.hid hm; have HH := Lib.hid hline; have HI5 := Lib.hid i5
    clear hrow hb p1 hys j1 j2 j3 j4 hmW hm hline i1 i2 i3 i4 i5 hb0
    rcases hres : Trw.lineR x with e0 | r
    · have hee := Trw.lineS_err hres
      have HRES := Lib.hid hres; clear hres
      gi_wp2_with (refine ⟨trivial, ?_⟩; gi_at_call 23; refine (CallsIn.inRound l (callsIn_wide.2 HL.out)).mono ?_; rintro e w1 ⟨he, hb1⟩; rw [show Trw.lineS (Trw.cutB x) (Trw.wordAt (Trw.cutS x)) (Trw.wordsN (Trw.cutS x)) = .inl e0 from HRES.out] at he; obtain rfl : e = .returned (.tuple #[.agg #[.int .u8 0, .int .i64 0, .string ⟨#[]⟩, .string ⟨#[]⟩, .string ⟨#[]⟩, .int .i64 0], .int .i64 e0]) := he; have K1 := J1.out.below hb1 z1; have K2 := J2.out.below hb1 z2; have K3 := J3.out.below hb1 z3; have K4 := J4.out.below hb1 z4; have k1 := K1.one; have k2 := K2.one; have k3 := K3.one; have k4 := K4.one; have g1 := K1.frozen; have g2 := K2.frozen; have g3 := K3.frozen; have g4 := K4.frozen; have hz1 := hb1.size; have y1 := Nat.lt_of_lt_of_le z1 hz1; have y2 := Nat.lt_of_lt_of_le z2 hz1; have y3 := Nat.lt_of_lt_of_le z3 hz1; have y4 := Nat.lt_of_lt_of_le z4 hz1; have L1 := Lib.hid K1; have L2 := Lib.hid K2; have L3 := Lib.hid K3; have L4 := Lib.hid K4; clear K1 K2 K3 K4; have HB1 := Lib.hid hb1; have HBB := Lib.hid (HB.out.trans (hb1.mono (Nat.le_of_lt z1))); clear hb1)
      gi_region
      all_goals gi_wp2
      all_goals
        refine ⟨?_, Trw.parseX_mk (e := e0) (k := rs.length) hee p2 (fun ys hy => Trw.runL_bad HP1.out p2 HRES.out ys hy) ?_ ?_ ?_ ?_ ?_⟩
        · (repeat (first | (with_reducible refine Trw.kf_drew ?_) | (with_reducible refine Trw.kf_alloc ?_ _) | (with_reducible refine Trw.kf_set ?_ _ _) | (with_reducible exact Trw.keeps_below HB1.out)))
        · (repeat (first | (with_reducible refine Is.drew ?_) | (with_reducible refine Is.alloc ?_ _) | (with_reducible refine Trw.Is_set1 (a := .slice none 0 0) ?_) | (with_reducible refine Is.other ?_ (by omega) _ _) | (with_reducible exact L1.out)))
        · (repeat (first | (with_reducible refine Is.drew ?_) | (with_reducible refine Is.alloc ?_ _) | (with_reducible refine Trw.Is_set1 (a := .int .i64 0) ?_) | (with_reducible refine Is.other ?_ (by omega) _ _) | (with_reducible exact L2.out)))
        · (repeat (first | (with_reducible refine Is.drew ?_) | (with_reducible refine Is.alloc ?_ _) | (with_reducible refine Trw.Is_set1 (a := .int .i64 0) ?_) | (with_reducible refine Is.other ?_ (by omega) _ _) | (with_reducible exact L3.out)))
        · simp; omega
        · (repeat (first | (with_reducible refine Below.drew ?_) | (with_reducible refine Below.setCell ?_ (by first | (simp; done) | (simp; omega)) _) | (with_reducible refine Below.alloc ?_ (by first | omega | (simp; done) | (simp; omega)) _) | (with_reducible exact HBB.out)))
    · have HRES := Lib.hid hres; clear hres
      by_cases hl : rs.length = 64
      · have hl64 : ((rs.length : Int) == 64) = true := by rw [hl]; rfl
        have HLEN := Lib.hid hl; clear hl
        gi_wp2_with (refine ⟨trivial, ?_⟩; gi_at_call 23; refine (CallsIn.inRound l (callsIn_wide.2 HL.out)).mono ?_; rintro e w1 ⟨he, hb1⟩; rw [show Trw.lineS (Trw.cutB x) (Trw.wordAt (Trw.cutS x)) (Trw.wordsN (Trw.cutS x)) = .inr r from HRES.out] at he; obtain rfl : e = .returned (.tuple #[.agg #[.int .u8 r.k, .int .i64 r.wt, .string r.a, .string r.b, .string r.t, .int .i64 r.n], .int .i64 0]) := he; have K1 := J1.out.below hb1 z1; have K2 := J2.out.below hb1 z2; have K3 := J3.out.below hb1 z3; have K4 := J4.out.below hb1 z4; have k1 := K1.one; have k2 := K2.one; have k3 := K3.one; have k4 := K4.one; have g1 := K1.frozen; have g2 := K2.frozen; have g3 := K3.frozen; have g4 := K4.frozen; have hz1 := hb1.size; have y1 := Nat.lt_of_lt_of_le z1 hz1; have y2 := Nat.lt_of_lt_of_le z2 hz1; have y3 := Nat.lt_of_lt_of_le z3 hz1; have y4 := Nat.lt_of_lt_of_le z4 hz1; have L1 := Lib.hid K1; have L2 := Lib.hid K2; have L3 := Lib.hid K3; have L4 := Lib.hid K4; clear K1 K2 K3 K4; have HB1 := Lib.hid hb1; have HBB := Lib.hid (HB.out.trans (hb1.mono (Nat.le_of_lt z1))); clear hb1)
        gi_region
        all_goals gi_wp2
        all_goals
          refine ⟨?_, Trw.parseX_mk (e := 7) (k := rs.length) (by decide) p2 (fun ys hy => (Trw.runL_many HP1.out HLEN.out HRES.out ys hy).trans (by rw [HLEN.out])) ?_ ?_ ?_ ?_ ?_⟩
          · (repeat (first | (with_reducible refine Trw.kf_drew ?_) | (with_reducible refine Trw.kf_alloc ?_ _) | (with_reducible refine Trw.kf_set ?_ _ _) | (with_reducible exact Trw.keeps_below HB1.out)))
          · (repeat (first | (with_reducible refine Is.drew ?_) | (with_reducible refine Is.alloc ?_ _) | (with_reducible refine Trw.Is_set1 (a := .slice none 0 0) ?_) | (with_reducible refine Is.other ?_ (by omega) _ _) | (with_reducible exact L1.out)))
          · (repeat (first | (with_reducible refine Is.drew ?_) | (with_reducible refine Is.alloc ?_ _) | (with_reducible refine Trw.Is_set1 (a := .int .i64 0) ?_) | (with_reducible refine Is.other ?_ (by omega) _ _) | (with_reducible exact L2.out)))
          · (repeat (first | (with_reducible refine Is.drew ?_) | (with_reducible refine Is.alloc ?_ _) | (with_reducible refine Trw.Is_set1 (a := .int .i64 0) ?_) | (with_reducible refine Is.other ?_ (by omega) _ _) | (with_reducible exact L3.out)))
          · simp; omega
          · (repeat (first | (with_reducible refine Below.drew ?_) | (with_reducible refine Below.setCell ?_ (by first | (simp; done) | (simp; omega)) _) | (with_reducible refine Below.alloc ?_ (by first | omega | (simp; done) | (simp; omega)) _) | (with_reducible exact HBB.out)))
      · have hl64 : ((rs.length : Int) == 64) = false := by rw [beq_eq_false_iff_ne]; omega
        obtain ⟨i0, z, hi0, hz0, hzs, hzb, hzc⟩ := Trw.info46
        gi_wp2_with (first | (refine ⟨trivial, ?_⟩; gi_at_call 23; refine (CallsIn.inRound l (callsIn_wide.2 HL.out)).mono ?_; rintro e w1 ⟨he, hb1⟩; rw [show Trw.lineS (Trw.cutB x) (Trw.wordAt (Trw.cutS x)) (Trw.wordsN (Trw.cutS x)) = .inr r from HRES.out] at he; obtain rfl : e = .returned (.tuple #[.agg #[.int .u8 r.k, .int .i64 r.wt, .string r.a, .string r.b, .string r.t, .int .i64 r.n], .int .i64 0]) := he; have K1 := J1.out.below hb1 z1; have K2 := J2.out.below hb1 z2; have K3 := J3.out.below hb1 z3; have K4 := J4.out.below hb1 z4; have k1 := K1.one; have k2 := K2.one; have k3 := K3.one; have k4 := K4.one; have g1 := K1.frozen; have g2 := K2.frozen; have g3 := K3.frozen; have g4 := K4.frozen; have hz1 := hb1.size; have y1 := Nat.lt_of_lt_of_le z1 hz1; have y2 := Nat.lt_of_lt_of_le z2 hz1; have y3 := Nat.lt_of_lt_of_le z3 hz1; have y4 := Nat.lt_of_lt_of_le z4 hz1; have L1 := Lib.hid K1; have L2 := Lib.hid K2; have L3 := Lib.hid K3; have L4 := Lib.hid K4; clear K1 K2 K3 K4; have HB1 := Lib.hid hb1; have HBB := Lib.hid (HB.out.trans (hb1.mono (Nat.le_of_lt z1))); clear hb1) | (gi_at_builtin; refine wpListIn_append_own _ rfl _ _ 22 rfl (w.heap.size + 5) 46 i0 z 6 72 Tryz.underlying22 hi0 hz0 hzs hzb hzc (by decide) _ _ _ rfl (((Trw.row_below HROW.out HB1.out).alloc _).alloc _) ⟨w1.heap.size + 1, 0, none⟩ 1 1 r.cells rfl rfl ?_ ?_ ?_ ?_ ?_ ?_))
        · intro j u hu
          have := Trw.new_cells (w1.alloc (.cells r.cells.toArray 46)) 46 r.cells j u hu
          rw [World.size_alloc] at this
          exact this
        · exact Trw.cells_one r
        · unfold maxLen; omega
        · omega
        · have := HB1.out.size; simp; omega
        · intro v' w5 hown hgrow _
          obtain ⟨g', cap', rfl⟩ := ownsRow_succ hown
          have hm5 := Trw.parse_mid HB1.out hsz J4.out HROW.out hgrow
          have k5 := hm5.one
          have g5 := hm5.frozen
          have HM5 := Lib.hid hm5
          have HOWN := Lib.hid hown
          have HGROW := Lib.hid hgrow
          clear hm5 hown hgrow
          gi_wp2
          exact Trw.parse_step HP1.out (by omega) HRES.out HB.out HB1.out hsz J1.out J2.out J3.out J4.out HROW.out HOWN.out HGROW.out
  case done =>
    rintro D W hD ⟨rs, v, h1, h2, j1, j2, j3, j4, hrow, hsz, hb⟩ hK
    obtain ⟨va, vc, rfl⟩ := Trw.row_shape hrow
    have c1 := j1.one; have c2 := j2.one; have c3 := j3.one; have c4 := j4.one
    have f1 := j1.frozen; have f2 := j2.frozen; have f3 := j3.frozen; have f4 := j4.frozen
    have HROW := Lib.hid hrow; have HB := Lib.hid hb; have H1 := Lib.hid h1
    have J1 := Lib.hid j1; have J2 := Lib.hid j2; have J3 := Lib.hid j3; have J4 := Lib.hid j4
    have HK := Lib.hid hK
    clear hrow hb h1 j1 j2 j3 j4 hK hm hline i1 i2 i3 i4 i5 hb0
    gi_wp2
    have hK2 : (((W.setCell ⟨w.heap.size, 0, none⟩ (.slice va rs.length vc)).setCell ⟨w.heap.size + 1, 0, none⟩ (.int .i64 0)).setCell ⟨w.heap.size + 1 + 1, 0, none⟩ (.int .i64 0)).heap[D]? = some (.deferred (some [])) :=
      (KeepsOthers.setCell _ _ _).same D _ ((KeepsOthers.setCell _ _ _).same D _ ((KeepsOthers.setCell _ _ _).same D _ HK.out rfl) rfl) rfl
    have q1 := Trw.Is_putObj (o' := .deferred none) (((Trw.Is_set1 (v := .slice va rs.length vc) J1.out).other (m := w.heap.size + 1) (by omega) 0 (.int .i64 0)).other (m := w.heap.size + 1 + 1) (by omega) 0 (.int .i64 0)) hK2 rfl
    have q2 := Trw.Is_putObj (o' := .deferred none) ((Trw.Is_set1 (v := .int .i64 0) (J2.out.other (m := w.heap.size) (by omega) 0 (.slice va rs.length vc))).other (m := w.heap.size + 1 + 1) (by omega) 0 (.int .i64 0)) hK2 rfl
    have q3 := Trw.Is_putObj (o' := .deferred none) (Trw.Is_set1 (v := .int .i64 0) ((J3.out.other (m := w.heap.size) (by omega) 0 (.slice va rs.length vc)).other (m := w.heap.size + 1) (by omega) 0 (.int .i64 0))) hK2 rfl
    have r1 := q1.one; have r2 := q2.one; have r3 := q3.one
    refine ⟨by simp, .inl ⟨_, _, rfl, run_takeDeferred hK2, ?_⟩⟩
    refine ⟨.tuple #[.slice va rs.length vc, .int .i64 0, .int .i64 0], by simp [results, Tryz.results6, go_sem, r1, r2, r3], Trw.parseP_mk (k := 0) (rs := rs) (Trw.parseS_good hs H1.out h2) rfl ?_ ?_⟩
    · refine Trw.row_less (base := w.heap.size + 5) ?_ (by omega)
      refine ownsRow_putObj (ownsRow_setCell_below (ownsRow_setCell_below (ownsRow_setCell_below HROW.out ?_ _) ?_ _) ?_ _) _ hK2 rfl
      · show w.heap.size < w.heap.size + 5; omega
      · show w.heap.size + 1 < w.heap.size + 5; omega
      · show w.heap.size + 1 + 1 < w.heap.size + 5; omega
    · exact (((HB.out.setCell (p := ⟨w.heap.size, 0, none⟩) (Nat.le_refl _) _).setCell (p := ⟨w.heap.size + 1, 0, none⟩) (by show w.heap.size ≤ w.heap.size + 1; omega) _).setCell (p := ⟨w.heap.size + 1 + 1, 0, none⟩) (by show w.heap.size ≤ w.heap.size + 1 + 1; omega) _).grown (grownBy_putObj' _ D _) (by simp; omega) (fun k e => by cases e; omega)
  case stop =>
    rintro D pre W hD hpre ⟨e, k, h1, h2, h3, h4, j1, j2, j3, hsz, hb⟩ hK
    obtain ⟨ys, hys⟩ := hpre
    have q1 := Trw.Is_putObj (o' := .deferred none) j1 hK rfl
    have q2 := Trw.Is_putObj (o' := .deferred none) j2 hK rfl
    have q3 := Trw.Is_putObj (o' := .deferred none) j3 hK rfl
    have r1 := q1.one; have r2 := q2.one; have r3 := q3.one
    have HB := Lib.hid hb; have H4 := Lib.hid (h4 ys hys)
    have HK := Lib.hid hK
    have R1 := Lib.hid r1; have R2 := Lib.hid r2; have R3 := Lib.hid r3
    clear hb h4 j1 j2 j3 hK hm hline i1 i2 i3 i4 i5 hb0 hys q1 q2 q3 r1 r2 r3
    gi_wp2
    refine ⟨by simp, .inl ⟨_, _, rfl, run_takeDeferred HK.out, ?_⟩⟩
    refine ⟨.tuple #[.slice none 0 0, .int .i64 k, .int .i64 e], by simp [results, Tryz.results6, go_sem, R1.out, R2.out, R3.out], Trw.parseP_mk (k := k) (rs := []) (by unfold Trw.parseS; rw [if_neg (by omega), H4.out]) rfl ⟨rfl, .inl ⟨rfl, rfl⟩⟩ ?_⟩
    exact HB.out.grown (grownBy_putObj' _ D _) (by omega) (fun k e => by cases e; omega)

set_option maxRecDepth 100000 in
set_option maxHeartbeats 1000000 in
theorem Trw.parse6_big (s : ByteArray) (w : World) (hs : 65536 < s.size) (hm : s.size ≤ maxLen) :
    Calls Tryz.prog 6 #[.string s] w (Trw.parseP s w) := by
  unfold maxLen at hm
  refine (callsIn_wide (n := 5)).1 ?_
  refine callsIn_of_wp_marks Tryz.func6 rfl trivial ?_ rfl
  simp only [Tryz.ntmps6, List.size_toArray, List.length_cons, List.length_nil, Nat.reduceAdd, Nat.reduceSub, Array.replicate_succ, Array.replicate_zero, List.push_toArray, List.append_toArray, List.nil_append, List.cons_append]
  gi_wp2
  refine ⟨.tuple #[.slice none 0 0, .int .i64 0, .int .i64 7], by simp [results, Tryz.results6, go_sem], Trw.parseP_mk (k := 0) (rs := []) (by unfold Trw.parseS; rw [if_pos hs]) rfl ⟨rfl, .inl ⟨rfl, rfl⟩⟩ ?_⟩
  exact (((Below.refl _ w).alloc (Nat.le_refl _) _).alloc (by simp) _).alloc (by simp; omega) _
end Go.Proofs
end

section
namespace Go.Trw
open Go Go.Proofs

theorem bext {a b : ByteArray} (h : a.data.toList = b.data.toList) : a = b := by
  cases a; cases b; congr 1; exact Array.toList_inj.1 h
theorem ext_ext (s : ByteArray) (a j b : Nat) (h : a + b ≤ s.size) : (s.extract a s.size).extract j b = s.extract (a + j) (a + b) := by
  apply bext
  rw [Lib.extract_data, Lib.extract_data, Lib.extract_data]
  simp only [List.drop_take, List.drop_drop, List.take_take]
  congr 1
  omega
theorem ext_size (s : ByteArray) (a : Nat) : (s.extract a s.size).size = s.size - a := by simp
theorem ext_at (s : ByteArray) (a k : Nat) (h : a + k < s.size) : (s.extract a s.size).data.toList[k]? = some s[a + k] := by
  rw [Lib.extract_data, List.getElem?_take, List.getElem?_drop, if_pos (by omega)]
  rw [List.getElem?_eq_getElem (by simpa using h)]
  rfl

theorem indexByte_first {l : List UInt8} {c : UInt8} {j : Nat} (h1 : l[j]? = some c) (h2 : ∀ k, k < j → l[k]? ≠ some c) : Lib.indexByte l c = j := by
  by_cases h : Lib.indexByte l c = -1
  · exact absurd h1 (Lib.indexByte_none h j)
  · have hge := Lib.indexByte_ge l c
    obtain ⟨o, ho⟩ : ∃ o : Nat, Lib.indexByte l c = o := ⟨(Lib.indexByte l c).toNat, by omega⟩
    obtain ⟨g1, g2⟩ := Lib.indexByte_some ho
    have : o = j := by
      rcases Nat.lt_trichotomy o j with h | h | h
      · exact absurd g1 (h2 o h)
      · exact h
      · exact absurd h1 (g2 j h)
    rw [ho, this]
theorem indexByte_no {l : List UInt8} {c : UInt8} (h : ∀ k : Nat, l[k]? ≠ some c) : Lib.indexByte l c = -1 := by
  by_cases h0 : Lib.indexByte l c = -1
  · exact h0
  · have hge := Lib.indexByte_ge l c
    obtain ⟨o, ho⟩ : ∃ o : Nat, Lib.indexByte l c = o := ⟨(Lib.indexByte l c).toNat, by omega⟩
    exact absurd (Lib.indexByte_some ho).1 (h o)

/-- no byte c from a up to k. -/
def NoB (s : ByteArray) (c : UInt8) (a k : Nat) : Prop := ∀ j, a ≤ j → j < k → ∀ h : j < s.size, s[j] ≠ c
theorem NoB.nil (s : ByteArray) (c : UInt8) (a : Nat) : NoB s c a a := fun j h1 h2 => by omega
theorem NoB.more {s : ByteArray} {c : UInt8} {a k : Nat} (h : NoB s c a k) (hk : ∀ h : k < s.size, s[k] ≠ c) : NoB s c a (k + 1) := fun j h1 h2 hj => by
  rcases Nat.lt_or_ge j k with h3 | h3
  · exact h j h1 h3 hj
  · obtain rfl : j = k := by omega
    exact hk hj

theorem first_of {s : ByteArray} {c : UInt8} {a k : Nat} (h : NoB s c a k) (hak : a ≤ k) (hk : k < s.size) (hc : s[k] = c) : Lib.indexByte (s.extract a s.size).data.toList c = ((k - a : Nat) : Int) := by
  refine indexByte_first ?_ ?_
  · rw [ext_at s a (k - a) (by omega)]
    congr 1
    have : a + (k - a) = k := by omega
    simp only [this]; exact hc
  · intro j hj e
    rw [ext_at s a j (by omega)] at e
    injection e with e
    exact h (a + j) (by omega) (by omega) (by omega) e
theorem none_of {s : ByteArray} {c : UInt8} {a : Nat} (h : NoB s c a s.size) : Lib.indexByte (s.extract a s.size).data.toList c = -1 := by
  refine indexByte_no fun j e => ?_
  by_cases hj : a + j < s.size
  · rw [ext_at s a j hj] at e
    injection e with e
    exact h (a + j) (by omega) hj hj e
  · rw [List.getElem?_eq_none (by rw [Lib.extract_data]; simp; omega)] at e
    cases e

/-! ### lines -/
theorem lines_step {s : ByteArray} {a k : Nat} (h : NoB s 10 a k) (hak : a ≤ k) (hk : k < s.size) (hc : s[k] = 10) :
    linesB (s.extract a s.size) = s.extract a (k + 1) :: linesB (s.extract (k + 1) s.size) := by
  have hi : lfAt (s.extract a s.size) = ((k - a : Nat) : Int) := first_of h hak hk hc
  rw [linesB_hit (by simp; omega) (by omega), hi]
  have e1 : (((k - a : Nat) : Int)).toNat = k - a := by omega
  rw [e1, ext_size]
  rw [ext_ext s a 0 (k - a + 1) (by omega), ext_ext s a (k - a + 1) (s.size - a) (by omega)]
  rw [show a + (k - a + 1) = k + 1 by omega, show a + (s.size - a) = s.size by omega, Nat.add_zero]
theorem lines_last {s : ByteArray} {a : Nat} (h : NoB s 10 a s.size) (ha : a < s.size) : linesB (s.extract a s.size) = [s.extract a s.size] := by
  have hi : lfAt (s.extract a s.size) = -1 := none_of h
  exact linesB_miss (by simp; omega) (by omega)

theorem cut_lf {s : ByteArray} {a k : Nat} (hak : a ≤ k) (hk : k < s.size) (hc : s[k] = 10) : Trw.cutS (s.extract a (k + 1)) = s.extract a k ∧ Trw.cutB (s.extract a (k + 1)) = true := by
  have e : (s.extract a (k + 1)).data.toList = (s.extract a k).data.toList ++ [10] := by
    rw [Lib.extract_data, Lib.extract_data]
    rw [show k + 1 - a = (k - a) + 1 by omega, List.take_add_one, List.getElem?_drop, show a + (k - a) = k by omega, List.getElem?_eq_getElem (by simpa using hk)]
    have : s.data.toList[k]'(by simpa using hk) = 10 := hc
    simp [this]
  constructor
  · apply bext
    show (Lib.trimSuffix _ [10]).toArray.toList = _
    rw [e]
    simp [Lib.trimSuffix, Lib.hasSuffix]
  · unfold Trw.cutB
    rw [e]
    simp [Lib.hasSuffix]
theorem cut_no {x : ByteArray} (h : ∀ j : Nat, x.data.toList[j]? ≠ some 10) : Trw.cutS x = x ∧ Trw.cutB x = false := by
  have hn : Lib.hasSuffix x.data.toList [10] = false := by
    rw [Bool.eq_false_iff]
    intro e
    have : [10] <:+ x.data.toList := by simpa [Lib.hasSuffix] using e
    obtain ⟨t, ht⟩ := this
    refine h t.length ?_
    rw [← ht]; simp
  refine ⟨?_, hn⟩
  apply bext
  show (Lib.trimSuffix _ [10]).toArray.toList = _
  simp [Lib.trimSuffix, hn]
theorem cut_last {s : ByteArray} {a : Nat} (h : NoB s 10 a s.size) : Trw.cutS (s.extract a s.size) = s.extract a s.size ∧ Trw.cutB (s.extract a s.size) = false := by
  refine cut_no fun j e => ?_
  exact Lib.indexByte_none (none_of h) j e

/-! ### words -/
theorem words_step {s : ByteArray} {a k : Nat} (h : NoB s 32 a k) (hak : a ≤ k) (hk : k < s.size) (hc : s[k] = 32) :
    Trw.wordsB (s.extract a s.size) = s.extract a k :: Trw.wordsB (s.extract (k + 1) s.size) := by
  have hi : Lib.indexB (s.extract a s.size) ⟨#[32]⟩ = ((k - a : Nat) : Int) := by
    exact (Lib.index_one _ _).trans (first_of h hak hk hc)
  unfold Trw.wordsB
  rw [Lib.countB_hit _ _ _ (by decide) hi, Nat.add_comm, Lib.splitB_hit _ _ _ _ _ hi]
  have e1 : (⟨#[32]⟩ : ByteArray).size = 1 := rfl
  rw [e1, Nat.add_zero, ext_size, ext_ext s a 0 (k - a) (by omega), ext_ext s a (k - a + 1) (s.size - a) (by omega)]
  rw [show a + (k - a + 1) = k + 1 by omega, show a + (s.size - a) = s.size by omega, show a + (k - a) = k by omega, Nat.add_zero]
theorem words_last {s : ByteArray} {a : Nat} (h : NoB s 32 a s.size) : Trw.wordsB (s.extract a s.size) = [s.extract a s.size] := by
  have hi : Lib.indexB (s.extract a s.size) ⟨#[32]⟩ = -1 := by
    exact (Lib.index_one _ _).trans (none_of h)
  unfold Trw.wordsB
  rw [Lib.splitB_miss _ _ _ _ hi]
end Go.Trw
end
