/- rule.line, the lines of a text, rule.Parse, and the chapter's examples: what they return. -/
import Derived.Test.YtehbdakjkjkekaaGreatDoorWalkB
import Derived.Test.YtehbdakjkjkekaaGreatDoorWalkA
import Derived.Test.YtehbdakjkjkekaaGreatDoorBodA
import Derived.Test.YtehbdakjkjkekaaGreatDoorBodB
import Derived.RangeFuncNested
import Derived.RangeFuncBound
import Derived.RangeFuncCalls
import Derived.RangeFuncLeaves
import Derived.Shelf.Abstract
import Derived.Shelf.RegionOpen
import Derived.WalkKit
import Derived.OwnWalkIn
import Derived.TacticsInMore
import Derived.LoopNIn
import Derived.LoopIn
import Derived.Lib.Hide
import Derived.Lib.IndexLaws
import Derived.RangeFuncBox
import Derived.Test.YtehbdakjkjkekaaGreatDoorLitA
import Derived.Test.YtehbdakjkjkekaaGreatDoorLitB
import Derived.Test.YtehbdakjkjkekaaGreatDoorEvalD
set_option linter.all false
set_option linter.unusedSectionVars false
set_option linter.deprecated false
section
namespace Go.Proofs
open Go.RowKit Go.af
set_option maxRecDepth 100000 in
set_option maxHeartbeats 4000000 in
theorem af.J6 (rC : ∀ (u : Nat -> ByteArray) (wt : Int) (B off len : Nat) (w : World), B < w.heap.size -> (∀ i, i < len -> w.cell? ⟨B, off + i, none⟩ = some (.string (u i))) -> 1 <= len -> len <= maxLen -> (∀ i, i < len -> (u i).size <= maxLen) -> -1 <= wt /\ wt <= 999999999 ->
      Calls Tryz.prog 104 #[.agg #[.int .u8 0, .int .i64 wt, .string ⟨#[]⟩, .string ⟨#[]⟩, .string ⟨#[]⟩, .int .i64 0], .slice (some ⟨B, off, none⟩) len len] w (af.gy u len wt w))
    (s : ByteArray) (m : Int) (w : World) (hs : s.size <= 2097152) (hm : w.cell? ⟨1, 0, none⟩ = some (.int .i64 m)) :
    Calls Tryz.prog 35 #[.string s] w (af.rB s w) := by
  have z6 := World.block_lt_of_cell? _ _ hm
  have xI := Lib.hid rC; clear rC
  obtain ⟨s1, B6⟩ : ∃ s1, s1 = af.gJ s := ⟨_, rfl⟩
  obtain ⟨ok, bf⟩ : ∃ ok, ok = af.kI s := ⟨_, rfl⟩
  have aZ : s1.size <= 2097152 := by rw [B6]; exact Nat.le_trans (af.z8 s) hs
  have G1 := af.xG s1
  have BM := af.Aa s1
  obtain ⟨n, hn⟩ : ∃ n, n = af.cF s1 := ⟨_, rfl⟩
  rw [<- hn] at G1 BM
  have Bh := af.La s
  rw [<- B6, <- bf] at Bh
  have Bi := af.FJ s1 m
  rw [<- hn] at Bi
  have nC := Lib.hid B6; have nD := Lib.hid bf; have HN := Lib.hid hn; clear B6 bf hn
  have H1 := Lib.hid Bh; have H2 := Lib.hid Bi; clear Bh Bi
  go_enter Tryz.func35, Tryz.ntmps35
  go_wp2_with (first | (go_at_call 101; refine (H1.out _ hs).mono ?_; rintro e w' ⟨rfl, hw⟩; subst hw) | (go_at_call 102; refine (H2.out _ aZ (by rw [World.cell?_alloc_old _ _ _ (Nat.ne_of_lt z6)]; exact hm)).mono ?_; rintro e w' ⟨rfl, hw⟩; subst hw))
  have i2 := Is.new (w.alloc (.cells #[.int .u8 0, .int .i64 0, .string ⟨#[]⟩, .string ⟨#[]⟩, .string ⟨#[]⟩, .int .i64 0] 46)) 9 ((af.bU s1).map Value.string).toArray
  have i1 := (Is.new w 46 #[.int .u8 0, .int .i64 0, .string ⟨#[]⟩, .string ⟨#[]⟩, .string ⟨#[]⟩, .int .i64 0]).alloc (.cells ((af.bU s1).map Value.string).toArray 9)
  have hB := ((Below.refl w.heap.size w).alloc (Nat.le_refl _) (.cells #[.int .u8 0, .int .i64 0, .string ⟨#[]⟩, .string ⟨#[]⟩, .string ⟨#[]⟩, .int .i64 0] 46)).alloc (by simp) (.cells ((af.bU s1).map Value.string).toArray 9)
  rw [World.size_alloc] at i2
  have hz : ((w.alloc (.cells #[.int .u8 0, .int .i64 0, .string ⟨#[]⟩, .string ⟨#[]⟩, .string ⟨#[]⟩, .int .i64 0] 46)).alloc (.cells ((af.bU s1).map Value.string).toArray 9)).heap.size = w.heap.size + 1 + 1 := by simp
  generalize ((w.alloc (.cells #[.int .u8 0, .int .i64 0, .string ⟨#[]⟩, .string ⟨#[]⟩, .string ⟨#[]⟩, .int .i64 0] 46)).alloc (.cells ((af.bU s1).map Value.string).toArray 9)) = W at i1 i2 hB hz ⊢
  have J7 : ∀ k, k < n -> W.cell? ⟨w.heap.size + 1, k, none⟩ = some (.string (af.dM s1 k)) := fun k hk => by rw [i2.cell]; exact af.xH s1 k (by rw [<- HN.out]; exact hk)
  have J8 : ∀ k, (af.dM s1 k).size <= maxLen := fun k => Nat.le_trans (af.vF s1 k) (by unfold maxLen; omega)
  obtain ⟨u, hu⟩ : ∃ u, u = af.dM s1 := ⟨_, rfl⟩
  rw [<- hu] at J7 J8
  have HU := Lib.hid hu; clear hu
  obtain ⟨d0, d1, d2, d3, d4, d5⟩ := i1.cV
  have f1 := i1.frozen
  have I1 := Lib.hid i1; have I2 := Lib.hid i2; have HB := Lib.hid hB; have wK := Lib.hid J7; have qV := Lib.hid J8; have HZ := Lib.hid hz
  have di : w.heap.size < W.heap.size := by omega
  have ou : w.heap.size + 1 < W.heap.size := by omega
  clear i1 i2 hB J7 J8 hz
  go_loop [4, 18] (fun o i => ∃ k : Nat, k <= n /\ i = .int .i64 k /\ o = .bool (af.iu ok u k)) (fun _ i => n - (intOf i).toNat)
  case atStart => exact ⟨0, Nat.zero_le _, rfl, by rw [af.qI]⟩
  case round =>
    obtain ⟨k, hk, rfl, rfl⟩ := hrel
    by_cases aA : k < n
    . have hc := wK.out k aA
      rcases af.bK (af.iu ok u k) with ha | ha
      . have HA := Lib.hid (af.Bg ha)
        go_wp2
        go_round
        case rel => exact ⟨k + 1, by omega, by go_num, by rw [HA.out]⟩
        case measure => simp [intOf]; omega
      . have HA := Lib.hid (af.FK ha)
        go_wp2
        go_round
        case rel => exact ⟨k + 1, by omega, by go_num, by rw [HA.out]⟩
        case measure => simp [intOf]; omega
    . obtain rfl : k = n := by omega
      rcases af.bK (af.iu ok u k) with ha | ha
      rotate_left
      . have HA := Lib.hid ha
        go_wp2
        refine bodyPost_ret (v := .tuple #[.agg #[.int .u8 0, .int .i64 0, .string ⟨#[]⟩, .string ⟨#[]⟩, .string ⟨#[]⟩, .int .i64 0], .int .i64 3]) (by simp [results, Tryz.results35, go_sem, *]) rfl (af.dN nC.out nD.out HN.out HU.out (by simp [af.cB, af.valOf, af.ax, HA.out]) ?_); (repeat (first | (with_reducible refine Below.setCell ?_ (by first | (simp; done) | (simp; omega)) _) | (with_reducible refine Below.alloc ?_ (by first | (simp; done) | (simp; omega)) _) | (with_reducible refine af.below_drewN ?_ _) | (with_reducible exact HB.out)))
      . have HA := Lib.hid ha
        have c0 := wK.out 0 (by omega)
        by_cases hh : (u 0).toList = [104, 97, 114, 100]
        . have HH := Lib.hid hh
          have hh2 : ((u 0).toList == [104, 97, 114, 100]) = true := by simpa using hh
          by_cases hn : 1 < k
          . have mq : ∀ W' : World, Below W.heap.size W W' -> Calls Tryz.prog 104 #[.agg #[.int .u8 0, .int .i64 (0), .string ⟨#[]⟩, .string ⟨#[]⟩, .string ⟨#[]⟩, .int .i64 0], .slice (some ⟨w.heap.size + 1, 1, none⟩) (k - 1) (k - 1)] W' (fun e w1 => e = .returned (af.valOf (af.eG (fun i => u (i + 1)) (k - 1) (0))) /\ Below W.heap.size W w1) :=
              fun W' hb => (xI.out (fun i => u (i + 1)) (0) (w.heap.size + 1) 1 (k - 1) W' (Nat.lt_of_lt_of_le ou hb.size) (fun i hi => (hb.cell (p := ⟨w.heap.size + 1, 1 + i, none⟩) ou).trans ((wK.out (1 + i) (by omega)).trans (by rw [Nat.add_comm]))) (by omega) (by unfold maxLen; omega) (fun i _ => qV.out _) (by omega)).mono (fun e w1 h => ⟨h.1, hb.trans (h.2.mono hb.size)⟩)
            have qW := Lib.hid mq; clear mq
            rcases cY : af.eG (fun i => u (i + 1)) (k - 1) (0) with e0 | r0
            . have iX := Lib.hid cY; clear cY
              go_wp2_with (first | (go_at_call 104; refine (qW.out _ (by (repeat (first | (with_reducible refine Below.setCell ?_ (by first | omega | (simp; done) | (simp; omega)) _) | (with_reducible refine Below.alloc ?_ (by first | omega | (simp; done) | (simp; omega)) _) | (with_reducible refine af.below_drewN ?_ _) | (with_reducible exact Below.refl _ _))))).mono ?_; rintro e w1 ⟨he, hb⟩; rw [iX.out] at he; obtain rfl : e = .returned (.tuple #[.agg #[.int .u8 0, .int .i64 0, .string ⟨#[]⟩, .string ⟨#[]⟩, .string ⟨#[]⟩, .int .i64 0], .int .i64 e0]) := he; obtain ⟨k0, k1, k2, k3, k4, k5⟩ := (I1.out.below hb di).cV; have kf := (I1.out.below hb di).frozen; have nE := Lib.hid (HB.out.trans (hb.mono (Nat.le_of_lt di))); clear hb))
              refine bodyPost_ret (v := .tuple #[.agg #[.int .u8 0, .int .i64 0, .string ⟨#[]⟩, .string ⟨#[]⟩, .string ⟨#[]⟩, .int .i64 0], .int .i64 e0]) (by simp [results, Tryz.results35, go_sem, *]) rfl (af.dN nC.out nD.out HN.out HU.out (by simp [af.cB, HA.out, HH.out, hn, iX.out, af.valOf, af.ax, af.RR.val]) ?_); (repeat (first | (with_reducible refine Below.setCell ?_ (by first | omega | (simp; done) | (simp; omega)) _) | (with_reducible refine Below.alloc ?_ (by first | omega | (simp; done) | (simp; omega)) _) | (with_reducible refine af.below_drewN ?_ _) | (with_reducible exact nE.out)))
            . have iX := Lib.hid cY; clear cY
              go_wp2_with (first | (go_at_call 104; refine (qW.out _ (by (repeat (first | (with_reducible refine Below.setCell ?_ (by first | omega | (simp; done) | (simp; omega)) _) | (with_reducible refine Below.alloc ?_ (by first | omega | (simp; done) | (simp; omega)) _) | (with_reducible refine af.below_drewN ?_ _) | (with_reducible exact Below.refl _ _))))).mono ?_; rintro e w1 ⟨he, hb⟩; rw [iX.out] at he; obtain rfl : e = .returned (.tuple #[.agg #[.int .u8 r0.k, .int .i64 r0.wt, .string r0.a, .string r0.b, .string r0.t, .int .i64 r0.n], .int .i64 0]) := he; obtain ⟨k0, k1, k2, k3, k4, k5⟩ := (I1.out.below hb di).cV; have kf := (I1.out.below hb di).frozen; have nE := Lib.hid (HB.out.trans (hb.mono (Nat.le_of_lt di))); clear hb))
              refine bodyPost_ret (v := .tuple #[.agg #[.int .u8 r0.k, .int .i64 r0.wt, .string r0.a, .string r0.b, .string r0.t, .int .i64 r0.n], .int .i64 0]) (by simp [results, Tryz.results35, go_sem, *]) rfl (af.dN nC.out nD.out HN.out HU.out (by simp [af.cB, HA.out, HH.out, hn, iX.out, af.valOf, af.ax, af.RR.val]) ?_); (repeat (first | (with_reducible refine Below.setCell ?_ (by first | omega | (simp; done) | (simp; omega)) _) | (with_reducible refine Below.alloc ?_ (by first | omega | (simp; done) | (simp; omega)) _) | (with_reducible refine af.below_drewN ?_ _) | (with_reducible exact nE.out)))
          . obtain rfl : k = 1 := by omega
            have eT : ((u 0).toList == [119, 101, 105, 103, 104]) = false := by rw [hh]; decide
            go_wp2
            refine bodyPost_ret (v := .tuple #[.agg #[.int .u8 0, .int .i64 0, .string ⟨#[]⟩, .string ⟨#[]⟩, .string ⟨#[]⟩, .int .i64 0], .int .i64 3]) (by simp [results, Tryz.results35, go_sem, *]) rfl (af.dN nC.out nD.out HN.out HU.out (by simp [af.cB, af.valOf, af.ax, HA.out, HH.out]) ?_); (repeat (first | (with_reducible refine Below.setCell ?_ (by first | omega | (simp; done) | (simp; omega)) _) | (with_reducible refine Below.alloc ?_ (by first | omega | (simp; done) | (simp; omega)) _) | (with_reducible refine af.below_drewN ?_ _) | (with_reducible exact HB.out)))
        . have HH := Lib.hid hh
          have hh2 : ((u 0).toList == [104, 97, 114, 100]) = false := by simpa using hh
          by_cases hw : (u 0).toList = [119, 101, 105, 103, 104]
          . have HW := Lib.hid hw
            have eT : ((u 0).toList == [119, 101, 105, 103, 104]) = true := by simpa using hw
            by_cases hn : 2 < k
            . have c1 := wK.out 1 (by omega)
              rcases af.bK (bV (u 1).data.toList) with bM | bM
              rotate_left
              . go_wp2_with (first | (go_at_call 103; refine (af.cK _ _ (qV.out 1)).mono ?_; rintro e w' ⟨rfl, rfl⟩))
                refine bodyPost_ret (v := .tuple #[.agg #[.int .u8 0, .int .i64 0, .string ⟨#[]⟩, .string ⟨#[]⟩, .string ⟨#[]⟩, .int .i64 0], .int .i64 3]) (by simp [results, Tryz.results35, go_sem, *]) rfl (af.dN nC.out nD.out HN.out HU.out (by simp [af.cB, af.valOf, af.ax, HA.out, HW.out, hn, bM]) ?_); (repeat (first | (with_reducible refine Below.setCell ?_ (by first | omega | (simp; done) | (simp; omega)) _) | (with_reducible refine Below.alloc ?_ (by first | omega | (simp; done) | (simp; omega)) _) | (with_reducible refine af.below_drewN ?_ _) | (with_reducible exact HB.out)))
              . obtain ⟨nv, J9⟩ : ∃ nv, nv = fJ (u 1).data.toList := ⟨_, rfl⟩
                have aF := af.pO (u 1).data.toList
                have xJ := af.cK (u 1)
                rw [<- J9] at aF xJ
                have B7 := Lib.hid J9; clear J9
                have B8 := Lib.hid xJ; clear xJ
                obtain ⟨aF, az⟩ := aF
                by_cases jd : (nv == 0) = true
                . have hv : nv = 0 := by simpa using jd
                  subst hv
                  have mq : ∀ W' : World, Below W.heap.size W W' -> Calls Tryz.prog 104 #[.agg #[.int .u8 0, .int .i64 (-1), .string ⟨#[]⟩, .string ⟨#[]⟩, .string ⟨#[]⟩, .int .i64 0], .slice (some ⟨w.heap.size + 1, 2, none⟩) (k - 2) (k - 2)] W' (fun e w1 => e = .returned (af.valOf (af.eG (fun i => u (i + 2)) (k - 2) (-1))) /\ Below W.heap.size W w1) :=
                    fun W' hb => (xI.out (fun i => u (i + 2)) (-1) (w.heap.size + 1) 2 (k - 2) W' (Nat.lt_of_lt_of_le ou hb.size) (fun i hi => (hb.cell (p := ⟨w.heap.size + 1, 2 + i, none⟩) ou).trans ((wK.out (2 + i) (by omega)).trans (by rw [Nat.add_comm]))) (by omega) (by unfold maxLen; omega) (fun i _ => qV.out _) (by omega)).mono (fun e w1 h => ⟨h.1, hb.trans (h.2.mono hb.size)⟩)
                  have qW := Lib.hid mq; clear mq
                  rcases cY : af.eG (fun i => u (i + 2)) (k - 2) (-1) with e0 | r0
                  . have iX := Lib.hid cY; clear cY
                    go_wp2_with (first | (go_at_call 103; refine (B8.out _ (qV.out 1)).mono ?_; rintro e w' ⟨rfl, rfl⟩) | (go_at_call 104; refine (qW.out _ (by (repeat (first | (with_reducible refine Below.setCell ?_ (by first | omega | (simp; done) | (simp; omega)) _) | (with_reducible refine Below.alloc ?_ (by first | omega | (simp; done) | (simp; omega)) _) | (with_reducible refine af.below_drewN ?_ _) | (with_reducible exact Below.refl _ _))))).mono ?_; rintro e w1 ⟨he, hb⟩; rw [iX.out] at he; obtain rfl : e = .returned (.tuple #[.agg #[.int .u8 0, .int .i64 0, .string ⟨#[]⟩, .string ⟨#[]⟩, .string ⟨#[]⟩, .int .i64 0], .int .i64 e0]) := he; obtain ⟨k0, k1, k2, k3, k4, k5⟩ := (I1.out.below hb di).cV; have kf := (I1.out.below hb di).frozen; have nE := Lib.hid (HB.out.trans (hb.mono (Nat.le_of_lt di))); clear hb))
                    refine bodyPost_ret (v := .tuple #[.agg #[.int .u8 0, .int .i64 0, .string ⟨#[]⟩, .string ⟨#[]⟩, .string ⟨#[]⟩, .int .i64 0], .int .i64 e0]) (by simp [results, Tryz.results35, go_sem, *]) rfl (af.dN nC.out nD.out HN.out HU.out (by simp [af.cB, HA.out, HW.out, hn, bM, <- B7.out, iX.out, af.valOf, af.ax, af.RR.val]) ?_); (repeat (first | (with_reducible refine Below.setCell ?_ (by first | omega | (simp; done) | (simp; omega)) _) | (with_reducible refine Below.alloc ?_ (by first | omega | (simp; done) | (simp; omega)) _) | (with_reducible refine af.below_drewN ?_ _) | (with_reducible exact nE.out)))
                  . have iX := Lib.hid cY; clear cY
                    go_wp2_with (first | (go_at_call 103; refine (B8.out _ (qV.out 1)).mono ?_; rintro e w' ⟨rfl, rfl⟩) | (go_at_call 104; refine (qW.out _ (by (repeat (first | (with_reducible refine Below.setCell ?_ (by first | omega | (simp; done) | (simp; omega)) _) | (with_reducible refine Below.alloc ?_ (by first | omega | (simp; done) | (simp; omega)) _) | (with_reducible refine af.below_drewN ?_ _) | (with_reducible exact Below.refl _ _))))).mono ?_; rintro e w1 ⟨he, hb⟩; rw [iX.out] at he; obtain rfl : e = .returned (.tuple #[.agg #[.int .u8 r0.k, .int .i64 r0.wt, .string r0.a, .string r0.b, .string r0.t, .int .i64 r0.n], .int .i64 0]) := he; obtain ⟨k0, k1, k2, k3, k4, k5⟩ := (I1.out.below hb di).cV; have kf := (I1.out.below hb di).frozen; have nE := Lib.hid (HB.out.trans (hb.mono (Nat.le_of_lt di))); clear hb))
                    refine bodyPost_ret (v := .tuple #[.agg #[.int .u8 r0.k, .int .i64 r0.wt, .string r0.a, .string r0.b, .string r0.t, .int .i64 r0.n], .int .i64 0]) (by simp [results, Tryz.results35, go_sem, *]) rfl (af.dN nC.out nD.out HN.out HU.out (by simp [af.cB, HA.out, HW.out, hn, bM, <- B7.out, iX.out, af.valOf, af.ax, af.RR.val]) ?_); (repeat (first | (with_reducible refine Below.setCell ?_ (by first | omega | (simp; done) | (simp; omega)) _) | (with_reducible refine Below.alloc ?_ (by first | omega | (simp; done) | (simp; omega)) _) | (with_reducible refine af.below_drewN ?_ _) | (with_reducible exact nE.out)))
                . have vL : (nv == 0) = false := by simpa using jd
                  have HV : Hid (¬ nv = 0) := Lib.hid (by simpa using jd)
                  clear jd
                  have mq : ∀ W' : World, Below W.heap.size W W' -> Calls Tryz.prog 104 #[.agg #[.int .u8 0, .int .i64 (nv), .string ⟨#[]⟩, .string ⟨#[]⟩, .string ⟨#[]⟩, .int .i64 0], .slice (some ⟨w.heap.size + 1, 2, none⟩) (k - 2) (k - 2)] W' (fun e w1 => e = .returned (af.valOf (af.eG (fun i => u (i + 2)) (k - 2) (nv))) /\ Below W.heap.size W w1) :=
                    fun W' hb => (xI.out (fun i => u (i + 2)) (nv) (w.heap.size + 1) 2 (k - 2) W' (Nat.lt_of_lt_of_le ou hb.size) (fun i hi => (hb.cell (p := ⟨w.heap.size + 1, 2 + i, none⟩) ou).trans ((wK.out (2 + i) (by omega)).trans (by rw [Nat.add_comm]))) (by omega) (by unfold maxLen; omega) (fun i _ => qV.out _) (by omega)).mono (fun e w1 h => ⟨h.1, hb.trans (h.2.mono hb.size)⟩)
                  have qW := Lib.hid mq; clear mq
                  rcases cY : af.eG (fun i => u (i + 2)) (k - 2) (nv) with e0 | r0
                  . have iX := Lib.hid cY; clear cY
                    go_wp2_with (first | (go_at_call 103; refine (B8.out _ (qV.out 1)).mono ?_; rintro e w' ⟨rfl, rfl⟩) | (go_at_call 104; refine (qW.out _ (by (repeat (first | (with_reducible refine Below.setCell ?_ (by first | omega | (simp; done) | (simp; omega)) _) | (with_reducible refine Below.alloc ?_ (by first | omega | (simp; done) | (simp; omega)) _) | (with_reducible refine af.below_drewN ?_ _) | (with_reducible exact Below.refl _ _))))).mono ?_; rintro e w1 ⟨he, hb⟩; rw [iX.out] at he; obtain rfl : e = .returned (.tuple #[.agg #[.int .u8 0, .int .i64 0, .string ⟨#[]⟩, .string ⟨#[]⟩, .string ⟨#[]⟩, .int .i64 0], .int .i64 e0]) := he; obtain ⟨k0, k1, k2, k3, k4, k5⟩ := (I1.out.below hb di).cV; have kf := (I1.out.below hb di).frozen; have nE := Lib.hid (HB.out.trans (hb.mono (Nat.le_of_lt di))); clear hb))
                    refine bodyPost_ret (v := .tuple #[.agg #[.int .u8 0, .int .i64 0, .string ⟨#[]⟩, .string ⟨#[]⟩, .string ⟨#[]⟩, .int .i64 0], .int .i64 e0]) (by simp [results, Tryz.results35, go_sem, *]) rfl (af.dN nC.out nD.out HN.out HU.out (by simp [af.cB, HA.out, HW.out, hn, bM, <- B7.out, HV.out, iX.out, af.valOf, af.ax, af.RR.val]) ?_); (repeat (first | (with_reducible refine Below.setCell ?_ (by first | omega | (simp; done) | (simp; omega)) _) | (with_reducible refine Below.alloc ?_ (by first | omega | (simp; done) | (simp; omega)) _) | (with_reducible refine af.below_drewN ?_ _) | (with_reducible exact nE.out)))
                  . have iX := Lib.hid cY; clear cY
                    go_wp2_with (first | (go_at_call 103; refine (B8.out _ (qV.out 1)).mono ?_; rintro e w' ⟨rfl, rfl⟩) | (go_at_call 104; refine (qW.out _ (by (repeat (first | (with_reducible refine Below.setCell ?_ (by first | omega | (simp; done) | (simp; omega)) _) | (with_reducible refine Below.alloc ?_ (by first | omega | (simp; done) | (simp; omega)) _) | (with_reducible refine af.below_drewN ?_ _) | (with_reducible exact Below.refl _ _))))).mono ?_; rintro e w1 ⟨he, hb⟩; rw [iX.out] at he; obtain rfl : e = .returned (.tuple #[.agg #[.int .u8 r0.k, .int .i64 r0.wt, .string r0.a, .string r0.b, .string r0.t, .int .i64 r0.n], .int .i64 0]) := he; obtain ⟨k0, k1, k2, k3, k4, k5⟩ := (I1.out.below hb di).cV; have kf := (I1.out.below hb di).frozen; have nE := Lib.hid (HB.out.trans (hb.mono (Nat.le_of_lt di))); clear hb))
                    refine bodyPost_ret (v := .tuple #[.agg #[.int .u8 r0.k, .int .i64 r0.wt, .string r0.a, .string r0.b, .string r0.t, .int .i64 r0.n], .int .i64 0]) (by simp [results, Tryz.results35, go_sem, *]) rfl (af.dN nC.out nD.out HN.out HU.out (by simp [af.cB, HA.out, HW.out, hn, bM, <- B7.out, HV.out, iX.out, af.valOf, af.ax, af.RR.val]) ?_); (repeat (first | (with_reducible refine Below.setCell ?_ (by first | omega | (simp; done) | (simp; omega)) _) | (with_reducible refine Below.alloc ?_ (by first | omega | (simp; done) | (simp; omega)) _) | (with_reducible refine af.below_drewN ?_ _) | (with_reducible exact nE.out)))
            . have Bz : decide (2 < (k : Int)) = false := by rw [decide_eq_false_iff_not]; omega
              go_wp2
              refine bodyPost_ret (v := .tuple #[.agg #[.int .u8 0, .int .i64 0, .string ⟨#[]⟩, .string ⟨#[]⟩, .string ⟨#[]⟩, .int .i64 0], .int .i64 3]) (by simp [results, Tryz.results35, go_sem, *]) rfl (af.dN nC.out nD.out HN.out HU.out (by simp [af.cB, af.valOf, af.ax, HA.out, HW.out, hn]) ?_); (repeat (first | (with_reducible refine Below.setCell ?_ (by first | omega | (simp; done) | (simp; omega)) _) | (with_reducible refine Below.alloc ?_ (by first | omega | (simp; done) | (simp; omega)) _) | (with_reducible refine af.below_drewN ?_ _) | (with_reducible exact HB.out)))
          . have HW := Lib.hid hw
            have eT : ((u 0).toList == [119, 101, 105, 103, 104]) = false := by simpa using hw
            go_wp2
            refine bodyPost_ret (v := .tuple #[.agg #[.int .u8 0, .int .i64 0, .string ⟨#[]⟩, .string ⟨#[]⟩, .string ⟨#[]⟩, .int .i64 0], .int .i64 3]) (by simp [results, Tryz.results35, go_sem, *]) rfl (af.dN nC.out nD.out HN.out HU.out (by simp [af.cB, af.valOf, af.ax, HA.out, HW.out, HH.out]) ?_); (repeat (first | (with_reducible refine Below.setCell ?_ (by first | omega | (simp; done) | (simp; omega)) _) | (with_reducible refine Below.alloc ?_ (by first | omega | (simp; done) | (simp; omega)) _) | (with_reducible refine af.below_drewN ?_ _) | (with_reducible exact HB.out)))
end Go.Proofs
end
section
namespace Go.Proofs
open Go.RowKit Go.af
theorem af.Ka (u : Nat -> ByteArray) (wt : Int) (B off len : Nat) (w : World) (hB : B < w.heap.size) (hc : ∀ i, i < len -> w.cell? ⟨B, off + i, none⟩ = some (.string (u i))) (h1 : 1 <= len) (h3 : len <= maxLen) (hu : ∀ i, i < len -> (u i).size <= maxLen) (fu : -1 <= wt /\ wt <= 999999999) :
    Calls Tryz.prog 104 #[.agg #[.int .u8 0, .int .i64 wt, .string ⟨#[]⟩, .string ⟨#[]⟩, .string ⟨#[]⟩, .int .i64 0], .slice (some ⟨B, off, none⟩) len len] w (af.gy u len wt w) := by
  rcases af.shape (kindOf (u 0).data.toList) (aW _) with h | h | h | h | h | h | h | h | h
  . exact af.J5 u wt B off len w hB hc h1 h3 hu fu h
  . exact af.FV u wt B off len w hB hc h1 h3 hu fu h
  . exact af.FW u wt B off len w hB hc h1 h3 hu fu h
  . exact af.FX u wt B off len w hB hc h1 h3 hu fu h
  . exact af.FY u wt B off len w hB hc h1 h3 hu fu h
  . exact af.FZ u wt B off len w hB hc h1 h3 hu fu h
  . exact af.F0 u wt B off len w hB hc h1 h3 hu fu h
  . exact af.F1 u wt B off len w hB hc h1 h3 hu fu h
  . exact af.F2 u wt B off len w hB hc h1 h3 hu fu h
theorem af.line (s : ByteArray) (m : Int) (w : World) (hs : s.size <= 2097152) (hm : w.cell? ⟨1, 0, none⟩ = some (.int .i64 m)) : Calls Tryz.prog 35 #[.string s] w (af.rB s w) :=
  af.J6 af.Ka s m w hs hm
end Go.Proofs
end
section
namespace Go.af
open Go Go.RowKit
variable {F : Fence} {n : Nat} {P : Program}
structure mB (b : Nat) (W W' : World) : Prop where
  cell : W'.cell? ⟨b, 0, none⟩ = W.cell? ⟨b, 0, none⟩
  froz : W'.frozen? ⟨b, 0, none⟩ = W.frozen? ⟨b, 0, none⟩
theorem mB.trans {b : Nat} {A B C : World} (h : mB b A B) (k : mB b B C) : mB b A C := ⟨k.cell.trans h.cell, k.froz.trans h.froz⟩
theorem mB.putObj {b l : Nat} {W : World} (o : Obj) (h : b ≠ l) : mB b W (W.putObj l o) := by
  have : (W.putObj l o).heap[b]? = W.heap[b]? := World.putObj_heap_other h
  exact ⟨by simp [World.cell?, this], by simp [World.frozen?, this]⟩
def iw (b : Nat) {β : Type} (J : β -> World -> Prop) : Prop := ∀ s W v, J s W -> J s (W.setCell ⟨b, 0, none⟩ v)
def PL {α : Type} (F : Fence) (n : Nat) (P : Program) (g b : Nat) (lb : Array Value) (encs : α -> Array Value) (xs : List α) (w : World) : Prop :=
  ∀ (l : Nat) (J Jx : List α -> World -> Prop) (W : World), Below w.heap.size w W -> AbidesFrom W.heap.size J -> AbidesFrom W.heap.size Jx -> iw b J -> iw b Jx ->
    (∀ pre x W1, J pre W1 -> pre ++ [x] <+: xs -> YieldAt F (n - 1) P l (encs x) W1 fun e W' =>
      (e = .returned (.bool true) /\ J (pre ++ [x]) W' /\ mB b W1 W') \/ (e = .returned (.bool false) /\ Jx (pre ++ [x]) W')) ->
    J [] W ->
    CallsIn F n P g (#[.func (.yield l) #[] #[]] ++ lb) W fun e W' => (∃ v, e = .returned v) /\ (J xs W' \/ ∃ pre, pre <+: xs /\ Jx pre W')
def Ab {α : Type} (b B : Nat) (I : List α -> World -> Prop) (Ix : List α -> World -> Prop) (xs : List α) (W : World) : Exit -> Act -> World -> Prop
  | .normal, _, W' => KeepsFrom B W W' /\ mB b W W' /\ I xs W'
  | .ret, _, W' => KeepsFrom B W W' /\ Ix xs W'
  | _, _, _ => False
theorem vG {α : Type} {g : Operand} {ps : Array Tmp} {assign body : Code} {Q : Exit -> Act -> World -> Prop} {a : Act} {w : World}
    (qq : F.round = none) (h1 : 1 <= n) {gf b : Nat} {lb : Array Value} (hg : a.eval g = .func (.func gf) #[] lb) (hFg : F.fn gf) (eg : ∀ args w, (callFunc gf args).run P w = .ok (.enter gf args) w)
    {encs : α -> Array Value} {xs : List α} (PM : PL F (n - 1) P gf b lb encs xs w) (hbw : b < w.heap.size) (vQ : ∀ x, (encs x).size = ps.size)
    (I : List α -> World -> Prop) (Ix : List α -> World -> Prop) (hI : OwnFrom w.heap.size I) (Kb : OwnFrom w.heap.size Ix) (hIs : iw b I) (PN : iw b Ix) (h0 : I [] w) (Kc : α -> Act)
    (FL : ∀ (l : Nat) (x : α) (W : World) (K : Act -> World -> Prop), K (Kc x) W ->
      assign.wpIn (F.inRound l) (n - 1 - 1) P (Exit.then K (fun _ _ _ => False)) { tmps := (ps.zip (encs x)).foldl (fun t (p, v) => t.setIfInBounds p v) a.tmps, defers := [] } W)
    (rC : ∀ (l : Nat) (pre : List α) (x : α) (W : World), I pre W -> pre ++ [x] <+: xs -> w.heap.size <= W.heap.size -> body.wpIn (F.inRound l) (n - 1 - 1) P (Ab b w.heap.size I Ix (pre ++ [x]) W) (Kc x) W)
    (Lb : ∀ (D : Nat) (W : World), w.heap.size <= D -> I xs W -> W.heap[D]? = some (.deferred (some [])) -> Q .normal { a with defers := { target := .collected D, args := #[] } :: a.defers } W)
    (Lc : ∀ (D : Nat) (pre : List α) (W : World), w.heap.size <= D -> pre <+: xs -> Ix pre W -> W.heap[D]? = some (.deferred (some [])) -> Code.ret.wpIn F n P Q { a with defers := { target := .collected D, args := #[] } :: a.defers } W) :
    (Code.rangeFunc g ps assign body).wpIn F n P Q a w := by
  refine wpIn_rangeFunc fun fn b9 => ?_
  rw [qq]
  let oK : LoopState -> Option Code -> Loop := fun st pe => { state := st, pending := pe, fn, tmps := a.tmps, params := ps, assign, body, defers := w.heap.size }
  let L : Nat := w.heap.size + 1
  let W1 : World := (w.alloc (.deferred (some []))).alloc (.loop (oK .ready none))
  have hL1 : W1.heap[L]? = some (.loop (oK .ready none)) := by
    have := World.alloc_heap_new (w.alloc (.deferred (some []))) (.loop (oK .ready none)); rwa [World.size_alloc] at this
  have hK1 : W1.heap[w.heap.size]? = some (.deferred (some [])) := (Below.heap_alloc _ _ _ (by simp)).trans (World.alloc_heap_new w _)
  have hWs : W1.heap.size = w.heap.size + 1 + 1 := by show ((w.alloc _).alloc _).heap.size = _; simp
  have aF : Below w.heap.size w W1 := ((Below.refl _ w).alloc (Nat.le_refl _) _).alloc (by simp) _
  let J : List α -> World -> Prop := fun pre W => I pre W /\ W.heap[L]? = some (.loop (oK .ready none)) /\ W.heap[w.heap.size]? = some (.deferred (some [])) /\ w.heap.size <= W.heap.size
  let Jx : List α -> World -> Prop := fun pre W => Ix pre W /\ W.heap[L]? = some (.loop (oK .done (some .ret))) /\ W.heap[w.heap.size]? = some (.deferred (some [])) /\ w.heap.size <= W.heap.size
  have up : ∀ {A : World} {row : Option Nat}, (∀ r, row = some r -> W1.heap.size <= r /\ ∃ o : Obj, A.heap[r]? = some o /\ o.isWalk = true) -> ∀ r, row = some r -> w.heap.size <= r /\ ∃ o : Obj, A.heap[r]? = some o /\ o.isCells = false :=
    fun hr r e => by obtain ⟨q, o, ho, hw⟩ := hr r e; exact ⟨by omega, o, ho, Obj.not_cells_of_walk hw⟩
  have hJ : AbidesFrom W1.heap.size J := fun s A B row hs mH hr =>
    ⟨hI s A B row hs.1 mH (up hr), (grownBy_keeps mH (fun r e => (hr r e).2) hs.2.1 rfl).trans hs.2.1, (grownBy_keeps mH (fun r e => (hr r e).2) hs.2.2.1 rfl).trans hs.2.2.1, Nat.le_trans hs.2.2.2 mH.size⟩
  have B9 : AbidesFrom W1.heap.size Jx := fun s A B row hs mH hr =>
    ⟨Kb s A B row hs.1 mH (up hr), (grownBy_keeps mH (fun r e => (hr r e).2) hs.2.1 rfl).trans hs.2.1, (grownBy_keeps mH (fun r e => (hr r e).2) hs.2.2.1 rfl).trans hs.2.2.1, Nat.le_trans hs.2.2.2 mH.size⟩
  have iF : ∀ (W : World) (v : Value) (k : Nat), w.heap.size <= k -> (W.setCell ⟨b, 0, none⟩ v).heap[k]? = W.heap[k]? := fun W v k hk => Below.heap_setCell W _ v k (by show k ≠ b; omega)
  have wL : iw b J := fun s W v hs => ⟨hIs s W v hs.1, (iF _ _ _ (by show w.heap.size <= w.heap.size + 1; omega)).trans hs.2.1, (iF _ _ _ (Nat.le_refl _)).trans hs.2.2.1, by rw [World.size_setCell]; exact hs.2.2.2⟩
  have Ke : iw b Jx := fun s W v hs => ⟨PN s W v hs.1, (iF _ _ _ (by show w.heap.size <= w.heap.size + 1; omega)).trans hs.2.1, (iF _ _ _ (Nat.le_refl _)).trans hs.2.2.1, by rw [World.size_setCell]; exact hs.2.2.2⟩
  refine ⟨L, [{ target := .collected w.heap.size, args := #[] }], W1, { target := .fn (.func gf) lb, args := #[.func (.yield L) #[] #[]] }, W1, gf, #[.func (.yield L) #[] #[]] ++ lb, W1, run_enterLoop_outer _ _ _ _ _, ?_, ?_, ?_, fun _ => h1, ?_⟩
  . simp only [resolve, hg]; simp [go_sem]
  . intro f' vS; simp [Target.leads] at vS; subst vS; exact hFg
  . simp [invoke, go_sem, eg]
  refine (PM L J Jx W1 aF hJ B9 wL Ke ?_ ⟨hI.alloc _ (hI.alloc _ h0), hL1, hK1, by omega⟩).mono ?_
  ·
    rintro pre x W ⟨hi, hl, hk, aZ⟩ oL
    have aA : L < W.heap.size := (Array.getElem?_eq_some_iff.1 hl).1
    refine ⟨fn, _, assign, body, run_yield (P := P) (args := encs x) hl (vQ x), roundIn_of_wpIn b9 (FL _ x W _ ⟨_, run_beginRound hl rfl, ?_⟩)⟩
    have Kf : b ≠ L := by show b ≠ w.heap.size + 1; omega
    let W2 : World := W.putObj L (.loop { oK .ready none with state := .busy })
    have cO : W2.heap[L]? = some (.loop { oK .ready none with state := .busy }) := World.putObj_heap_same aA
    have jD : W2.heap[w.heap.size]? = some (.deferred (some [])) := (World.putObj_heap_other (by show w.heap.size ≠ w.heap.size + 1; omega)).trans hk
    have Bj : w.heap.size <= W2.heap.size := Nat.le_trans aZ (grownBy_putObj' W L _).size
    refine wpIn_mono (rC L pre x W2 (hI.putObj _ hi (by show w.heap.size <= w.heap.size + 1; omega) hl rfl) oL Bj) ?_
    rintro e a3 W3 hp
    cases e with
    | normal =>
      obtain ⟨jf, PO, Kg⟩ := hp
      have u9 := jf.same _ _ (by show w.heap.size <= w.heap.size + 1; omega) cO rfl
      have Bk := (Array.getElem?_eq_some_iff.1 u9).1
      exact ⟨_, _, run_endRound (P := P) none u9, .inl ⟨rfl, ⟨hI.putObj _ Kg (by show w.heap.size <= w.heap.size + 1; omega) u9 rfl, World.putObj_heap_same Bk, (World.putObj_heap_other (by show w.heap.size ≠ w.heap.size + 1; omega)).trans (jf.same _ _ (Nat.le_refl _) jD rfl), Nat.le_trans (Nat.le_trans Bj jf.size) (grownBy_putObj' W3 L _).size⟩,
        ((mB.putObj _ Kf).trans PO).trans (mB.putObj _ Kf)⟩⟩
    | ret =>
      obtain ⟨jf, Kg⟩ := hp
      have u9 := jf.same _ _ (by show w.heap.size <= w.heap.size + 1; omega) cO rfl
      have Bk := (Array.getElem?_eq_some_iff.1 u9).1
      exact ⟨_, _, run_endRound (P := P) (some .ret) u9, .inr ⟨rfl, Kb.putObj _ Kg (by show w.heap.size <= w.heap.size + 1; omega) u9 rfl, World.putObj_heap_same Bk, (World.putObj_heap_other (by show w.heap.size ≠ w.heap.size + 1; omega)).trans (jf.same _ _ (Nat.le_refl _) jD rfl), Nat.le_trans (Nat.le_trans Bj jf.size) (grownBy_putObj' W3 L _).size⟩⟩
    | exit id => exact hp.elim
    | goto t => exact hp.elim
    | panic ch => exact hp.elim
    | outgrown => exact hp.elim
  ·
    rintro e W2 ⟨⟨v, rfl⟩, (⟨hi, hl, hk, _⟩ | ⟨pre, oL, hi, hl, hk, _⟩)⟩
    . exact ⟨none, _, run_endLoop (P := P) hl (by show LoopState.ready ≠ LoopState.busy; simp), Lb _ _ (Nat.le_refl _) (hI.putObj _ hi (by show w.heap.size <= w.heap.size + 1; omega) hl rfl) ((World.putObj_heap_other (by show w.heap.size ≠ w.heap.size + 1; omega)).trans hk)⟩
    . exact ⟨some .ret, _, run_endLoop (P := P) hl (by show LoopState.done ≠ LoopState.busy; simp), Lc _ pre _ (Nat.le_refl _) oL (Kb.putObj _ hi (by show w.heap.size <= w.heap.size + 1; omega) hl rfl) ((World.putObj_heap_other (by show w.heap.size ≠ w.heap.size + 1; omega)).trans hk)⟩
end Go.af
end
section
namespace Go.af
open Go
def fq (s : ByteArray) : Int := Lib.indexByte s.data.toList 10
def fH : Nat -> ByteArray -> List ByteArray
  | 0, _ => []
  | f + 1, s => if s.size = 0 then [] else if fq s < 0 then [s] else s.extract 0 ((fq s).toNat + 1) :: fH f (s.extract ((fq s).toNat + 1) s.size)
def aR (s : ByteArray) : List ByteArray := fH s.size s
theorem FM (s : ByteArray) : -1 <= fq s := Lib.indexByte_ge _ _
theorem FN (s : ByteArray) (h : 0 <= fq s) : (fq s).toNat < s.size := by
  have e : fq s = ((fq s).toNat : Int) := by omega
  have := (Lib.indexByte_some (l := s.data.toList) (c := 10) (o := (fq s).toNat) e).1
  have := (List.getElem?_eq_some_iff.1 this).1
  simpa using this
theorem oB : ∀ (f g : Nat) (s : ByteArray), s.size <= f -> s.size <= g -> fH f s = fH g s
  | 0, 0, _, _, _ => rfl
  | 0, g + 1, s, h, _ => by
    have : s.size = 0 := by omega
    simp [fH, this]
  | f + 1, 0, s, _, h => by
    have : s.size = 0 := by omega
    simp [fH, this]
  | f + 1, g + 1, s, h1, h2 => by
    unfold fH
    split
    . rfl
    . split
      . rfl
      . rw [oB f g _ (by simp; omega) (by simp; omega)]
theorem l6 {s : ByteArray} (h : s.size = 0) : aR s = [] := by unfold aR; rw [h]; rfl
theorem vH {s : ByteArray} (h : s.size ≠ 0) (hi : fq s < 0) : aR s = [s] := by
  unfold aR
  obtain ⟨k, hk⟩ : ∃ k, s.size = k + 1 := ⟨s.size - 1, by omega⟩
  rw [hk]
  simp only [fH]
  rw [if_neg h, if_pos hi]
theorem pX {s : ByteArray} (h : s.size ≠ 0) (hi : 0 <= fq s) : aR s = s.extract 0 ((fq s).toNat + 1) :: aR (s.extract ((fq s).toNat + 1) s.size) := by
  unfold aR
  obtain ⟨k, hk⟩ : ∃ k, s.size = k + 1 := ⟨s.size - 1, by omega⟩
  conv => lhs; rw [hk]
  simp only [fH]
  rw [if_neg h, if_neg (by omega)]
  rw [oB k _ _ (by simp; omega) (Nat.le_refl _)]
theorem oC : ∀ (f : Nat) (s x : ByteArray), x ∈ fH f s -> x.size <= s.size
  | 0, _, _, h => by simp [fH] at h
  | f + 1, s, x, h => by
    unfold fH at h
    split at h
    . simp at h
    . split at h
      . simp at h; rw [h]; exact Nat.le_refl _
      . rcases List.mem_cons.1 h with rfl | h
        . simp; omega
        . have := oC f _ x h
          simp at this; omega
theorem vI (s x : ByteArray) (h : x ∈ aR s) : x.size <= s.size := oC _ s x h
def ve (w : World) (b : Nat) : Nat := match w.cell? ⟨b, 0, none⟩ with
  | some (.string r) => r.size
  | _ => 0
theorem kE {w : World} {b : Nat} {r : ByteArray} (h : w.cell? ⟨b, 0, none⟩ = some (.string r)) : ve w b = r.size := by unfold ve; rw [h]
end Go.af
namespace Go.Proofs
open Go.RowKit Go.Shelf Go.af
attribute [local go_sem] Oper.semAt_some
theorem af.vJ (w : World) (k : Nat) : w.grownBy (w.drewN k) none := ⟨rfl, rfl, rfl, Nat.le_refl _, fun _ _ _ => rfl⟩
theorem af.Ca (r : ByteArray) (w : World) : Calls Tryz.prog 108 #[.string r, .int .u8 10] w fun e w' => e = .returned (.int .i64 (fq r)) /\ w = w' := (Tryz.strings_IndexByte r 10 w).mono fun _ _ h => ⟨h.1, h.2.symm⟩
set_option maxRecDepth 100000 in
set_option maxHeartbeats 2000000 in
theorem af.FO (n : Nat) (l b : Nat) (s : ByteArray) (hs : s.size <= 65536) (J Jx : List ByteArray -> World -> Prop) (W : World) (B0 : Nat) (hJ : AbidesFrom B0 J) (B9 : AbidesFrom B0 Jx) (wL : iw b J)
    (hY : ∀ pre x W1, J pre W1 -> pre ++ [x] <+: aR s -> YieldAt Fence.wide (n - 1) Tryz.prog l #[.string x] W1 fun e W' =>
      (e = .returned (.bool true) /\ J (pre ++ [x]) W' /\ mB b W1 W') \/ (e = .returned (.bool false) /\ Jx (pre ++ [x]) W'))
    (hn : 1 <= n) (hb : W.cell? ⟨b, 0, none⟩ = some (.string s)) (hf : W.frozen? ⟨b, 0, none⟩ = false) (h0 : J [] W) :
    CallsIn Fence.wide n Tryz.prog 107 #[.func (.yield l) #[] #[], .pointer (some ⟨b, 0, none⟩)] W fun e W' => (∃ v, e = .returned v) /\ (J (aR s) W' \/ ∃ pre, pre <+: aR s /\ Jx pre W') := by
  have HY := Lib.hid hY; clear hY
  refine callsIn_of_wp Tryz.func107 rfl trivial ?_ rfl
  simp only [Tryz.ntmps107, List.size_toArray, List.length_cons, List.length_nil, Nat.reduceAdd, Nat.reduceSub, Array.replicate_succ, Array.replicate_zero, List.push_toArray, List.append_toArray, List.nil_append, List.cons_append]
  gi_wp2
  gi_loopw [3] (fun _ wr => ∃ (pre : List ByteArray) (r : ByteArray), wr.cell? ⟨b, 0, none⟩ = some (.string r) /\ wr.frozen? ⟨b, 0, none⟩ = false /\ aR s = pre ++ aR r /\ r.size <= s.size /\ J pre wr) (fun _ wr => ve wr b)
  case atStart => exact ⟨[], s, hb, hf, rfl, Nat.le_refl _, h0⟩
  case round =>
    obtain ⟨pre, r, hc, oQ, gU, vW, hj⟩ := hrel
    have vg := Lib.hid gU; have Kh := Lib.hid hj; clear gU hj
    by_cases fM : r.size = 0
    . gi_wp2
      go_end0
      refine ⟨⟨_, rfl⟩, .inl ?_⟩
      rw [vg.out, l6 fM, List.append_nil]; exact Kh.out
    . have wg : 0 < r.size := by omega
      have Ki := FM r
      by_cases hi : fq r < 0
      . have HL := Lib.hid (vH fM hi)
        have Kj := wL _ _ (.string ⟨#[]⟩) Kh.out
        obtain ⟨fn, tmps, assign, body, hy, hR⟩ := HY.out pre r _ Kj (by rw [vg.out, HL.out]; exact List.prefix_refl _)
        gi_wp2_with (first | (refine ⟨trivial, ?_⟩; gi_at_call 108; refine (callsIn_wide.2 (af.Ca r _)).mono ?_; rintro e w' ⟨rfl, rfl⟩))
        refine hR.mono ?_
        rintro e W3 (⟨rfl, Kk, jf⟩ | ⟨rfl, Bl⟩)
        . have Ac : W3.cell? ⟨b, 0, none⟩ = some (.string ⟨#[]⟩) := jf.cell.trans (World.cell?_setCell_same' _ _ _ (by rw [hc]; rfl))
          have Kl : W3.frozen? ⟨b, 0, none⟩ = false := jf.froz.trans (by rw [World.frozen?_setCell]; exact oQ)
          gi_wp2
          go_roundw
          case rel => exact ⟨pre ++ [r], ⟨#[]⟩, Ac, Kl, by rw [vg.out, HL.out, l6 (s := ⟨#[]⟩) rfl, List.append_nil], Nat.zero_le _, Kk⟩
          case measure => rw [kE Ac, kE hc]; exact wg
        . gi_wp2
          refine bodyPost_ret (results_none rfl _ _ _) rfl ?_
          exact ⟨⟨_, rfl⟩, .inr ⟨pre ++ [r], by rw [vg.out, HL.out]; exact List.prefix_refl _, Bl⟩⟩
      . have aA := FN r (by omega)
        obtain ⟨i, ya⟩ : ∃ i : Nat, fq r = i := ⟨(fq r).toNat, by omega⟩
        have HH := Lib.hid (pX fM (by omega : 0 <= fq r))
        have Km := af.Ca r
        rw [ya] at Km
        have HI := Lib.hid Km; clear Km
        have vZ : i < r.size := by omega
        have Kn := Lib.hid ya; clear ya Ki hi aA
        gi_wp2_with (first | (refine ⟨trivial, ?_⟩; gi_at_call 108; refine (callsIn_wide.2 (HI.out _)).mono ?_; rintro e w' ⟨rfl, rfl⟩))
        gi_region
        have Kj : J pre (wr.setCell ⟨b, 0, none⟩ (.string (r.extract (i + 1) r.size))).drew := hJ _ _ _ none (wL _ _ (.string (r.extract (i + 1) r.size)) Kh.out) (af.vJ _ 1) (fun _ e => by cases e)
        obtain ⟨fn, tmps, assign, body, hy, hR⟩ := HY.out pre (r.extract 0 (i + 1)) _ Kj (by
          rw [vg.out, HH.out, Kn.out]
          exact ⟨aR (r.extract (i + 1) r.size), by simp⟩)
        gi_wp2
        refine hR.mono ?_
        rintro e W3 (⟨rfl, Kk, jf⟩ | ⟨rfl, Bl⟩)
        . have Ac : W3.cell? ⟨b, 0, none⟩ = some (.string (r.extract (i + 1) r.size)) := jf.cell.trans (World.cell?_setCell_same' _ _ _ (by rw [hc]; rfl))
          have Kl : W3.frozen? ⟨b, 0, none⟩ = false := jf.froz.trans (by show (wr.setCell _ _).frozen? _ = false; rw [World.frozen?_setCell]; exact oQ)
          gi_wp2
          go_roundw
          case rel => exact ⟨pre ++ [r.extract 0 (i + 1)], r.extract (i + 1) r.size, Ac, Kl, by rw [vg.out, HH.out, Kn.out]; simp, by simp; omega, Kk⟩
          case measure => rw [kE Ac, kE hc]; simp; omega
        . gi_wp2
          refine bodyPost_ret (results_none rfl _ _ _) rfl ?_
          exact ⟨⟨_, rfl⟩, .inr ⟨pre ++ [r.extract 0 (i + 1)], by rw [vg.out, HH.out, Kn.out]; exact ⟨aR (r.extract (i + 1) r.size), by simp⟩, Bl⟩⟩
end Go.Proofs
end
section
namespace Go.Proofs
open Go.RowKit Go.Shelf Go.af
attribute [local go_sem] Oper.semAt_some
def af.cM (x : ByteArray) : Int ⊕ af.RR := af.cB (af.kI x) (af.dM (af.gJ x)) (af.cF (af.gJ x))
def af.RR.cells (r : af.RR) : List Value := [.int .u8 r.k, .int .i64 r.wt, .string r.a, .string r.b, .string r.t, .int .i64 r.n]
def af.cellsOf (rs : List af.RR) : List Value := rs.flatMap af.RR.cells
theorem af.vh (rs : List af.RR) (r : af.RR) : af.cellsOf (rs ++ [r]) = af.cellsOf rs ++ r.cells := by simp [af.cellsOf]
theorem af.lB (rs : List af.RR) : (af.cellsOf rs).length = rs.length * 6 := by
  induction rs with
  | nil => rfl
  | cons r rs ih => simp [af.cellsOf] at ih ⊢; rw [ih]; simp [af.RR.cells]; omega
def af.j7 : List af.RR -> List ByteArray -> Int × Nat × List af.RR
  | acc, [] => (0, 0, acc)
  | acc, x :: xs => match af.cM x with
    | .inl e => (e, acc.length, [])
    | .inr r => if acc.length = 64 then (7, 64, []) else af.j7 (acc ++ [r]) xs
def af.b7 (s : ByteArray) : Int × Nat × List af.RR := if 65536 < s.size then (7, 0, []) else af.j7 [] (aR s)
theorem af.kF : ∀ (p : List ByteArray) (rs acc : List af.RR) (ys : List ByteArray), p.map af.cM = rs.map Sum.inr -> (acc ++ rs).length <= 64 -> af.j7 acc (p ++ ys) = af.j7 (acc ++ rs) ys
  | [], rs, acc, ys, h, _ => by
    cases rs with
    | nil => simp
    | cons r rs => simp at h
  | x :: p, rs, acc, ys, h, hl => by
    cases rs with
    | nil => simp at h
    | cons r rs =>
      simp only [List.map_cons, List.cons.injEq] at h
      simp only [List.length_append, List.length_cons] at hl
      rw [List.cons_append, af.j7, h.1]
      simp only
      rw [if_neg (by omega), af.kF p rs (acc ++ [r]) ys h.2 (by simp; omega)]
      simp
theorem af.Ad {u : Nat -> ByteArray} {len : Nat} {wt e : Int} (h : af.eG u len wt = .inl e) : 1 <= e /\ e <= 100 := by
  unfold af.eG af.au at h
  simp only at h
  repeat' split at h
  all_goals (cases h)
  all_goals omega
theorem af.qw {ok : Bool} {u : Nat -> ByteArray} {len : Nat} {e : Int} (h : af.cB ok u len = .inl e) : 1 <= e /\ e <= 100 := by
  unfold af.cB at h
  repeat' split at h
  all_goals first
    | exact af.Ad h
    | (cases h; omega)
set_option maxRecDepth 100000 in
theorem af.FP (s : ByteArray) (w : World) : Calls Tryz.prog 46 #[.string s] w fun e w' => e = .returned (.func (.func 107) #[] #[.pointer (some ⟨w.heap.size, 0, none⟩)]) /\ w' = w.alloc (.cells #[.string s] 9) := by
  go_enter Tryz.func46, Tryz.ntmps46
  go_wp2
  go_ret
  exact ⟨rfl, rfl⟩
def af.pY (w : World) (pre : List ByteArray) (W : World) : Prop :=
  ∃ (rs : List af.RR) (v : Value), pre.map af.cM = rs.map Sum.inr /\ rs.length <= 64 /\ Is W w.heap.size 22 #[.slice none 0 0] /\ Is W (w.heap.size + 1) 3 #[.int .i64 0] /\ Is W (w.heap.size + 1 + 1) 25 #[.int .i64 0] /\
    Is W (w.heap.size + 1 + 1 + 1) 22 #[v] /\ W.ownsRow (w.heap.size + 5) 46 6 v rs.length (af.cellsOf rs) /\ w.heap.size + 5 <= W.heap.size /\ Below w.heap.size w W /\ (rs = [] -> v = .slice none 0 0)
def af.pZ (w : World) (s : ByteArray) (pre : List ByteArray) (W : World) : Prop :=
  ∃ (e : Int) (k : Nat), 1 <= e /\ e <= 100 /\ k <= 64 /\ (∀ ys, pre ++ ys = aR s -> af.j7 [] (aR s) = (e, k, [])) /\ Is W w.heap.size 22 #[.slice none 0 0] /\ Is W (w.heap.size + 1) 3 #[.int .i64 k] /\ Is W (w.heap.size + 1 + 1) 25 #[.int .i64 e] /\ w.heap.size + 5 <= W.heap.size /\ Below w.heap.size w W
def af.pT (s : ByteArray) (w : World) (e : Ending) (w' : World) : Prop :=
  ∃ v, e = .returned (.tuple #[v, .int .i64 (af.b7 s).2.1, .int .i64 (af.b7 s).1]) /\ w'.ownsRow w.heap.size 46 6 v (af.b7 s).2.2.length (af.cellsOf (af.b7 s).2.2) /\ Below w.heap.size w w' /\ ((af.b7 s).1 ≠ 0 \/ (af.b7 s).2.2 = [] -> v = .slice none 0 0)
theorem af.ez {W W' : World} {n : Nat} {T : TypeId} {cs : Array Value} {row : Option Nat} (h : Is W n T cs) (hg : W.grownBy W' row) (aI : some n ≠ row) : Is W' n T cs := h.of_heap (hg.block n h.lt aI)
theorem af.e9 {W : World} {n : Nat} {T : TypeId} {cs : Array Value} {row : Option Nat} (h : Is W n T cs) (hr : ∀ r, row = some r -> ∃ o : Obj, W.heap[r]? = some o /\ o.isCells = false) : some n ≠ row := by
  intro e
  obtain ⟨o, ho, hc⟩ := hr n e.symm
  unfold Is at h
  rw [h] at ho
  obtain rfl : Obj.cells cs T (0, 0) = o := by injection ho
  cases hc
theorem af.xK {W : World} {base k size : Nat} {e : TypeId} {v : Value} {xs : List Value} {row : Option Nat} (h : W.ownsRow base e size v k xs) (hr : ∀ r, row = some r -> ∃ o : Obj, W.heap[r]? = some o /\ o.isCells = false) : v.ownBlock = none \/ v.ownBlock ≠ row := by
  rcases h.2 with ⟨rfl, _⟩ | ⟨g, cap, cur, rfl, _, hb, _⟩
  . exact .inl rfl
  . right
    intro e
    obtain ⟨o, ho, hc⟩ := hr g (by rw [<- e]; rfl)
    rw [hb] at ho
    obtain rfl : Obj.cells cur _ (0, 0) = o := by injection ho
    cases hc
theorem af.qX {W W' : World} {base k size : Nat} {e : TypeId} {v : Value} {xs : List Value} (h : W.ownsRow base e size v k xs) (hb : Below W.heap.size W W') : W'.ownsRow base e size v k xs :=
  h.kept (row := none) ⟨hb.os, hb.tape, hb.output, hb.size, fun i hi _ => hb.block i hi⟩ (by
    cases h0 : v.ownBlock
    . exact .inl rfl
    . right; simp)
theorem af.kM {B : Nat} {W W' : World} (hb : Below W.heap.size W W') : KeepsFrom B W W' := ⟨hb.size, fun k o _ hk _ => (hb.block k (Array.getElem?_eq_some_iff.1 hk).1).trans hk⟩
theorem af.xL (w : World) (B0 : Nat) (hB : w.heap.size <= B0) : OwnFrom B0 (af.pY w) := by
  rintro pre W W' row ⟨rs, v, h1, h2, i1, i2, i3, i4, bn, aZ, hb, hn⟩ hg hr
  have cQ : ∀ r, row = some r -> ∃ o : Obj, W.heap[r]? = some o /\ o.isCells = false := fun r e => (hr r e).2
  exact ⟨rs, v, h1, h2, af.ez i1 hg (af.e9 i1 cQ), af.ez i2 hg (af.e9 i2 cQ), af.ez i3 hg (af.e9 i3 cQ), af.ez i4 hg (af.e9 i4 cQ),
    bn.kept hg (af.xK bn cQ), Nat.le_trans aZ hg.size, hb.grown hg (by omega) (fun k e => Nat.le_trans hB (hr k e).1), hn⟩
theorem af.xM (w : World) (s : ByteArray) (B0 : Nat) (hB : w.heap.size <= B0) : OwnFrom B0 (af.pZ w s) := by
  rintro pre W W' row ⟨e, k, h1, h2, h3, h4, i1, i2, i3, aZ, hb⟩ hg hr
  have cQ : ∀ r, row = some r -> ∃ o : Obj, W.heap[r]? = some o /\ o.isCells = false := fun r e => (hr r e).2
  exact ⟨e, k, h1, h2, h3, h4, af.ez i1 hg (af.e9 i1 cQ), af.ez i2 hg (af.e9 i2 cQ), af.ez i3 hg (af.e9 i3 cQ), Nat.le_trans aZ hg.size, hb.grown hg (by omega) (fun k e => Nat.le_trans hB (hr k e).1)⟩
theorem af.xN (w : World) : iw (w.heap.size + 1 + 1 + 1 + 1) (af.pY w) := by
  rintro pre W x ⟨rs, v, h1, h2, i1, i2, i3, i4, bn, aZ, hb, hn⟩
  exact ⟨rs, v, h1, h2, i1.other (by omega) _ _, i2.other (by omega) _ _, i3.other (by omega) _ _, i4.other (by omega) _ _, ownsRow_setCell_below bn (by show w.heap.size + 1 + 1 + 1 + 1 < w.heap.size + 5; omega) _, by rw [World.size_setCell]; exact aZ, hb.setCell (by show w.heap.size <= w.heap.size + 1 + 1 + 1 + 1; omega) _, hn⟩
theorem af.xO (w : World) (s : ByteArray) : iw (w.heap.size + 1 + 1 + 1 + 1) (af.pZ w s) := by
  rintro pre W x ⟨e, k, h1, h2, h3, h4, i1, i2, i3, aZ, hb⟩
  exact ⟨e, k, h1, h2, h3, h4, i1.other (by omega) _ _, i2.other (by omega) _ _, i3.other (by omega) _ _, by rw [World.size_setCell]; exact aZ, hb.setCell (by show w.heap.size <= w.heap.size + 1 + 1 + 1 + 1; omega) _⟩
theorem af.Bm {s : ByteArray} {pre : List ByteArray} {x : ByteArray} {rs : List af.RR} {e : Int} (h : pre.map af.cM = rs.map Sum.inr) (hl : rs.length <= 64) (hx : af.cM x = .inl e) (ys : List ByteArray) (hy : pre ++ [x] ++ ys = aR s) : af.j7 [] (aR s) = (e, rs.length, []) := by
  rw [<- hy, List.append_assoc, af.kF pre rs [] _ h (by simpa using hl)]
  simp [af.j7, hx]
theorem af.Ae {s : ByteArray} {pre : List ByteArray} {x : ByteArray} {rs : List af.RR} {r : af.RR} (h : pre.map af.cM = rs.map Sum.inr) (hl : rs.length = 64) (hx : af.cM x = .inr r) (ys : List ByteArray) (hy : pre ++ [x] ++ ys = aR s) : af.j7 [] (aR s) = (7, 64, []) := by
  rw [<- hy, List.append_assoc, af.kF pre rs [] _ h (by simp; omega)]
  simp [af.j7, hx, hl]
theorem af.qY {w : World} {base : Nat} {e : TypeId} {size : Nat} {v : Value} {n : Nat} {xs : List Value} (h : w.ownsRow base e size v n xs) : ∃ a c, v = .slice a n c := by
  rcases h.2 with ⟨rfl, rfl⟩ | ⟨g, cap, cur, rfl, _⟩
  . exact ⟨none, 0, rfl⟩
  . exact ⟨_, _, rfl⟩
theorem af.fI {W : World} {n : Nat} {T : TypeId} {a v : Value} (h : Is W n T #[a]) : Is (W.setCell ⟨n, 0, none⟩ v) n T #[v] := (h.set 0 v).cast rfl
theorem af.vk {B : Nat} {W W' : World} (h : KeepsFrom B W W') (p : Addr) (v : Value) : KeepsFrom B W (W'.setCell p v) := h.trans ((KeepsOthers.setCell W' p v).from B)
theorem af.l8 {B : Nat} {W W' : World} (h : KeepsFrom B W W') (o : Obj) : KeepsFrom B W (W'.alloc o) := h.trans ((KeepsOthers.alloc W' o).from B)
theorem af.wM {B : Nat} {W W' : World} (h : KeepsFrom B W W') : KeepsFrom B W W'.drew := h.trans ⟨Nat.le_refl _, fun _ _ _ hk _ => hk⟩
theorem af.qZ {w W' : World} {s : ByteArray} {pre : List ByteArray} {e : Int} {k : Nat} (h1 : 1 <= e /\ e <= 100) (h2 : k <= 64) (h3 : ∀ ys, pre ++ ys = aR s -> af.j7 [] (aR s) = (e, k, []))
    (i1 : Is W' w.heap.size 22 #[.slice none 0 0]) (i2 : Is W' (w.heap.size + 1) 3 #[.int .i64 k]) (i3 : Is W' (w.heap.size + 1 + 1) 25 #[.int .i64 e]) (hz : w.heap.size + 5 <= W'.heap.size) (hb : Below w.heap.size w W') : af.pZ w s pre W' :=
  ⟨e, k, h1.1, h1.2, h2, h3, i1, i2, i3, hz, hb⟩
theorem af.oM {w : World} {base : Nat} {e : TypeId} {size : Nat} {v : Value} {n : Nat} {xs : List Value} (h : w.ownsRow base e size v n xs) (j : Nat) (hj : v.ownBlock = some j) : base <= j := by
  rcases h.2 with ⟨rfl, rfl⟩ | ⟨g, cap, cur, rfl, hb, _⟩
  . cases hj
  . obtain rfl : g = j := by simpa [Value.ownBlock] using hj
    exact hb
theorem af.Af {w : World} {base : Nat} {e : TypeId} {size : Nat} {v : Value} {n : Nat} {xs : List Value} (h : w.ownsRow base e size v n xs) (j : Nat) (o : Obj) (hj : v.ownBlock = some j) (ho : w.heap[j]? = some o) : o.isCells = true := by
  rcases h.2 with ⟨rfl, rfl⟩ | ⟨g, cap, cur, rfl, hb, hg, _⟩
  . cases hj
  . obtain rfl : g = j := by simpa [Value.ownBlock] using hj
    rw [hg] at ho; cases ho; rfl
theorem af.Ag (r : af.RR) : ∀ u ∈ r.cells, u.oneCell' = true := by
  intro u hu
  simp only [af.RR.cells, List.mem_cons, List.not_mem_nil, or_false] at hu
  rcases hu with rfl | rfl | rfl | rfl | rfl | rfl <;> rfl
theorem af.Ah (W : World) (T : TypeId) (cs : List Value) (j : Nat) (u : Value) (h : cs[j]? = some u) : (W.alloc (.cells cs.toArray T)).cell? ((⟨W.heap.size, 0, none⟩ : Addr).add j) = some u := by
  have : (⟨W.heap.size, 0, none⟩ : Addr).add j = ⟨W.heap.size, j, none⟩ := by
    unfold Addr.add
    split
    . rename_i h0; subst h0; rfl
    . simp
  rw [this, (Is.new W T cs.toArray).cell]
  simpa using h
theorem af.Aj {w W w1 w5 : World} {n : Nat} {v : Value} {xs : List Value} {A C : Obj} {va : Value} (aF : Below W.heap.size W w1) (aZ : w.heap.size + 5 <= W.heap.size) (j4 : Is W (w.heap.size + 1 + 1 + 1) 22 #[va])
    (bn : W.ownsRow (w.heap.size + 5) 46 6 v n xs) (iy : ((w1.alloc A).alloc C).grownBy w5 v.ownBlock) : Is w5 (w.heap.size + 1 + 1 + 1) 22 #[va] :=
  af.ez (((j4.below aF (by omega)).alloc _).alloc _) iy (fun e => by have := af.oM bn _ e.symm; omega)
theorem af.xP {w W w1 w5 : World} {B : Nat} {pre : List ByteArray} {x : ByteArray} {rs : List af.RR} {r : af.RR} {v v' : Value} {A C : Obj} (p1 : pre.map af.cM = rs.map Sum.inr) (p2 : rs.length < 64) (hx : af.cM x = .inr r)
    (hb : Below w.heap.size w W) (aF : Below W.heap.size W w1) (aZ : w.heap.size + 5 <= W.heap.size)
    (j1 : Is W w.heap.size 22 #[.slice none 0 0]) (j2 : Is W (w.heap.size + 1) 3 #[.int .i64 0]) (j3 : Is W (w.heap.size + 1 + 1) 25 #[.int .i64 0]) (j4 : Is W (w.heap.size + 1 + 1 + 1) 22 #[v])
    (bn : W.ownsRow (w.heap.size + 5) 46 6 v rs.length (af.cellsOf rs)) (vn : w5.ownsRow (w.heap.size + 5) 46 6 v' (rs.length + 1) (af.cellsOf rs ++ r.cells)) (iy : ((w1.alloc A).alloc C).grownBy w5 v.ownBlock) :
    KeepsFrom B W (w5.setCell ⟨w.heap.size + 1 + 1 + 1, 0, none⟩ v') /\ mB (w.heap.size + 1 + 1 + 1 + 1) W (w5.setCell ⟨w.heap.size + 1 + 1 + 1, 0, none⟩ v') /\ af.pY w (pre ++ [x]) (w5.setCell ⟨w.heap.size + 1 + 1 + 1, 0, none⟩ v') := by
  have Ld := ((af.qX bn aF).alloc A).alloc C
  have aI : ∀ k, k < w.heap.size + 5 -> some k ≠ v.ownBlock := fun k hk e => by have := af.oM bn _ e.symm; omega
  have Cb : ∀ {k : Nat} {T : TypeId} {cs : Array Value}, Is W k T cs -> k < w.heap.size + 5 -> Is w5 k T cs := fun h hk => af.ez (((h.below aF (by omega)).alloc _).alloc _) iy (aI _ hk)
  have hp5 : w5.heap[w.heap.size + 1 + 1 + 1 + 1]? = W.heap[w.heap.size + 1 + 1 + 1 + 1]? := by
    have hlt1 := aF.size
    rw [iy.block _ (by simp; omega) (aI _ (by omega)), Go.af.heap_alloc _ _ (by simp; omega), Go.af.heap_alloc _ _ (by omega)]
    exact aF.block _ (by omega)
  have hp6 : (w5.setCell ⟨w.heap.size + 1 + 1 + 1, 0, none⟩ v').heap[w.heap.size + 1 + 1 + 1 + 1]? = W.heap[w.heap.size + 1 + 1 + 1 + 1]? := by rw [Go.af.ov (by omega)]; exact hp5
  refine ⟨?_, ⟨by simp [World.cell?, hp6], by simp [World.frozen?, hp6]⟩, rs ++ [r], v', ?_, by simp; omega, (Cb j1 (by omega)).other (by omega) _ _, (Cb j2 (by omega)).other (by omega) _ _, (Cb j3 (by omega)).other (by omega) _ _, af.fI (Cb j4 (by omega)), ?_, ?_, ?_, fun h => by simp at h⟩
  . refine af.vk ((af.l8 (af.l8 (af.kM aF) _) _).trans ((KeepsOthers.of_grownBy iy fun j o ej hj => af.Af Ld j o ej hj).from B)) _ _
  . simp [p1, hx]
  . rw [af.vh]
    have := ownsRow_setCell_below vn (a := ⟨w.heap.size + 1 + 1 + 1, 0, none⟩) (by show w.heap.size + 1 + 1 + 1 < w.heap.size + 5; omega) v'
    simpa using this
  . have h1 := aF.size
    have h2 := iy.size
    simp at h2 ⊢; omega
  . have h1 := aF.size
    exact ((((hb.trans (aF.mono (by omega))).alloc (by omega) A).alloc (by simp; omega) C).grown iy (by simp; omega) (fun k e => by have := af.oM bn k e; omega)).setCell (by show w.heap.size <= w.heap.size + 1 + 1 + 1; omega) _
theorem af.gQ {W : World} {n D : Nat} {T : TypeId} {cs : Array Value} {o o' : Obj} (h : Is W n T cs) (hk : W.heap[D]? = some o) (ho : o.isCells = false) : Is (W.putObj D o') n T cs :=
  af.ez h (grownBy_putObj' W D o') (af.e9 h (fun r e => by cases e; exact ⟨o, hk, ho⟩))
theorem af.nF {s : ByteArray} {w w' : World} {v : Value} {i : Int} {er : Int} {rs : List af.RR} {k : Nat} (hp : af.b7 s = (er, k, rs)) (hi : i = k) (bn : w'.ownsRow w.heap.size 46 6 v rs.length (af.cellsOf rs)) (hb : Below w.heap.size w w') (jZ : er ≠ 0 \/ rs = [] -> v = .slice none 0 0 := by intro h; rfl) :
    af.pT s w (.returned (.tuple #[v, .int .i64 i, .int .i64 er])) w' := by
  subst hi
  refine ⟨v, by rw [hp], ?_, hb, ?_⟩
  . rw [hp]; exact bn
  . rw [hp]; exact jZ
theorem af.Bn {w : World} {base w6 : Nat} {e : TypeId} {size : Nat} {v : Value} {n : Nat} {xs : List Value} (h : w.ownsRow base e size v n xs) (hb : w6 <= base) : w.ownsRow w6 e size v n xs := by
  refine ⟨h.1, h.2.imp id ?_⟩
  rintro ⟨g, cap, cur, h1, h2, h3⟩
  exact ⟨g, cap, cur, h1, Nat.le_trans hb h2, h3⟩
theorem af.ot {s : ByteArray} {rs : List af.RR} (hs : s.size <= 65536) (h : (aR s).map af.cM = rs.map Sum.inr) (hl : rs.length <= 64) : af.b7 s = (0, 0, rs) := by
  have := af.kF (aR s) rs [] [] h (by simpa using hl)
  rw [List.append_nil] at this
  unfold af.b7
  rw [if_neg (by omega), this]
  rfl
theorem af.Ko : ∃ i0 z, Tryz.prog.info? 46 = some i0 /\ i0.zero = some z /\ i0.size = 6 /\ i0.bytes = 72 /\ z.cells.size = 6 := by
  have h : (Tryz.prog.info? 46).map (fun i => (i.zero.map (·.cells.size), i.size, i.bytes)) = some (some 6, 6, 72) := by kernel_rfl
  cases hi : Tryz.prog.info? 46 with
  | none => rw [hi] at h; simp at h
  | some i0 =>
    rw [hi] at h
    simp only [Option.map_some, Option.some.injEq, Prod.mk.injEq, Option.map_eq_some_iff] at h
    obtain ⟨⟨z, hz, ou⟩, h2, h3⟩ := h
    exact ⟨i0, z, rfl, hz, h2, h3, ou⟩
set_option maxRecDepth 100000 in
set_option maxHeartbeats 4000000 in
theorem af.zh (ig : ∀ (s : ByteArray) (m : Int) (w : World), s.size <= 65536 -> w.cell? ⟨1, 0, none⟩ = some (.int .i64 m) -> Calls Tryz.prog 35 #[.string s] w (af.rB s w))
    (s : ByteArray) (m : Int) (w : World) (hs : s.size <= 65536) (hm : w.cell? ⟨1, 0, none⟩ = some (.int .i64 m)) :
    Calls Tryz.prog 9 #[.string s] w (af.pT s w) := by
  have z6 := World.block_lt_of_cell? _ _ hm
  refine (callsIn_wide (n := 5)).1 ?_
  refine callsIn_of_wp_marks Tryz.func9 rfl trivial ?_ rfl
  simp only [Tryz.ntmps9, List.size_toArray, List.length_cons, List.length_nil, Nat.reduceAdd, Nat.reduceSub, Array.replicate_succ, Array.replicate_zero, List.push_toArray, List.append_toArray, List.nil_append, List.cons_append]
  gi_wp2_with (refine ⟨trivial, ?_⟩; gi_at_call 46; refine (callsIn_wide.2 (af.FP s _)).mono ?_; rintro e w' ⟨rfl, rfl⟩)
  obtain ⟨W0, p7⟩ : ∃ W0, W0 = (((((w.alloc (.cells #[.slice none 0 0] 22)).alloc (.cells #[.int .i64 0] 3)).alloc (.cells #[.int .i64 0] 25)).alloc (.cells #[.slice none 0 0] 22)).alloc (.cells #[.string s] 9)) := ⟨_, rfl⟩
  have hz : W0.heap.size = w.heap.size + 1 + 1 + 1 + 1 + 1 := by rw [p7]; simp
  have i1 : Is W0 w.heap.size 22 #[.slice none 0 0] := by rw [p7]; exact ((((Is.new w 22 _).alloc _).alloc _).alloc _).alloc _
  have i2 : Is W0 (w.heap.size + 1) 3 #[.int .i64 0] := by rw [p7]; have := (((Is.new (w.alloc (.cells #[.slice none 0 0] 22)) 3 #[.int .i64 0]).alloc (.cells #[.int .i64 0] 25)).alloc (.cells #[.slice none 0 0] 22)).alloc (.cells #[.string s] 9); rwa [World.size_alloc] at this
  have i3 : Is W0 (w.heap.size + 1 + 1) 25 #[.int .i64 0] := by rw [p7]; have := ((Is.new ((w.alloc (.cells #[.slice none 0 0] 22)).alloc (.cells #[.int .i64 0] 3)) 25 #[.int .i64 0]).alloc (.cells #[.slice none 0 0] 22)).alloc (.cells #[.string s] 9); rwa [World.size_alloc, World.size_alloc] at this
  have i4 : Is W0 (w.heap.size + 1 + 1 + 1) 22 #[.slice none 0 0] := by rw [p7]; have := (Is.new (((w.alloc (.cells #[.slice none 0 0] 22)).alloc (.cells #[.int .i64 0] 3)).alloc (.cells #[.int .i64 0] 25)) 22 #[.slice none 0 0]).alloc (.cells #[.string s] 9); rwa [World.size_alloc, World.size_alloc, World.size_alloc] at this
  have i5 : Is W0 (w.heap.size + 1 + 1 + 1 + 1) 9 #[.string s] := by rw [p7]; have := Is.new ((((w.alloc (.cells #[.slice none 0 0] 22)).alloc (.cells #[.int .i64 0] 3)).alloc (.cells #[.int .i64 0] 25)).alloc (.cells #[.slice none 0 0] 22)) 9 #[.string s]; rwa [World.size_alloc, World.size_alloc, World.size_alloc, World.size_alloc] at this
  have gj : Below w.heap.size w W0 := by rw [p7]; exact (((((Below.refl _ w).alloc (Nat.le_refl _) _).alloc (by simp) _).alloc (by simp; omega) _).alloc (by simp; omega) _).alloc (by simp; omega) _
  rw [<- p7]
  clear p7
  refine vG (n := 5) rfl (by decide) (gf := 107) (b := w.heap.size + 1 + 1 + 1 + 1) (lb := #[.pointer (some ⟨w.heap.size + 1 + 1 + 1 + 1, 0, none⟩)]) rfl trivial (enters_of Tryz.func107 (by kernel_rfl) rfl) (encs := fun x => #[.string x]) (xs := aR s) ?_ (by omega) (fun _ => rfl)
    (af.pY w) (af.pZ w s) (af.xL w _ (by omega)) (af.xM w s _ (by omega)) (af.xN w) (af.xO w s)
    ⟨[], .slice none 0 0, rfl, by simp, i1, i2, i3, i4, ⟨rfl, .inl ⟨rfl, rfl⟩⟩, by omega, gj, fun _ => rfl⟩
    (fun x => { tmps := #[.string s, undef, .pointer (some ⟨w.heap.size, 0, none⟩), .pointer (some ⟨w.heap.size + 1, 0, none⟩), .pointer (some ⟨w.heap.size + 1 + 1, 0, none⟩), .pointer (some ⟨w.heap.size + 1 + 1 + 1, 0, none⟩), .string x, undef, undef, .string s,
      .int .i64 s.size, .bool (decide (65536 < (s.size : Int))), .string s, .func (.func 107) #[] #[.pointer (some ⟨w.heap.size + 1 + 1 + 1 + 1, 0, none⟩)], .string x, undef, undef, undef, undef, undef, undef, undef, undef, undef, undef, undef, undef, undef, undef, undef, undef, undef, undef, undef, undef, undef, undef], defers := [] })
    ?assign ?body ?done ?stop
  . exact fun l J Jx W hW hJ B9 wL Ke hY h0 => af.FO _ l _ s hs J Jx W _ hJ B9 wL hY (by decide) (by rw [hW.cell (p := ⟨w.heap.size + 1 + 1 + 1 + 1, 0, none⟩) (by show w.heap.size + 1 + 1 + 1 + 1 < W0.heap.size; omega)]; exact i5.one) (by rw [hW.frozen (p := ⟨w.heap.size + 1 + 1 + 1 + 1, 0, none⟩) (by show w.heap.size + 1 + 1 + 1 + 1 < W0.heap.size; omega)]; exact i5.frozen 0) h0
  case assign =>
    intro l x W K hK
    gi_wp2
    exact hK
  case body =>
    rintro l pre x W ⟨rs, v, p1, p2, j1, j2, j3, j4, bn, aZ, hb, _⟩ oL hWz
    obtain ⟨va, vc, rfl⟩ := af.qY bn
    obtain ⟨ys, fY⟩ := oL
    have hx : x.size <= 65536 := Nat.le_trans (vI s x (by rw [<- fY]; simp)) hs
    have hmW : W.cell? ⟨1, 0, none⟩ = some (.int .i64 m) := (hb.cell (p := ⟨1, 0, none⟩) z6).trans hm
    have HL := Lib.hid (ig x m W hx hmW)
    have z1 : w.heap.size < W.heap.size := by omega
    have z2 : w.heap.size + 1 < W.heap.size := by omega
    have z3 : w.heap.size + 1 + 1 < W.heap.size := by omega
    have z4 : w.heap.size + 1 + 1 + 1 < W.heap.size := by omega
    have vo := Lib.hid bn; have HB := Lib.hid hb; have Kq := Lib.hid p1; have HYS := Lib.hid fY
    have J1 := Lib.hid j1; have J2 := Lib.hid j2; have J3 := Lib.hid j3; have J4 := Lib.hid j4
    have HM := Lib.hid hm; have HH := Lib.hid ig; have HI5 := Lib.hid i5
    clear bn hb p1 fY j1 j2 j3 j4 hmW hm ig i1 i2 i3 i4 i5 gj
    rcases gZ : af.cM x with e0 | r
    . have hee := af.qw gZ
      have oN := Lib.hid gZ; clear gZ
      gi_wp2_with (refine ⟨trivial, ?_⟩; gi_at_call 35; refine (CallsIn.inRound l (callsIn_wide.2 HL.out)).mono ?_; rintro e w1 ⟨he, aF⟩; rw [show af.cB (af.kI x) (af.dM (af.gJ x)) (af.cF (af.gJ x)) = .inl e0 from oN.out] at he; obtain rfl : e = .returned (.tuple #[.agg #[.int .u8 0, .int .i64 0, .string ⟨#[]⟩, .string ⟨#[]⟩, .string ⟨#[]⟩, .int .i64 0], .int .i64 e0]) := he; have K1 := J1.out.below aF z1; have K2 := J2.out.below aF z2; have K3 := J3.out.below aF z3; have K4 := J4.out.below aF z4; have k1 := K1.one; have k2 := K2.one; have k3 := K3.one; have k4 := K4.one; have g1 := K1.frozen; have g2 := K2.frozen; have g3 := K3.frozen; have g4 := K4.frozen; have di := aF.size; have y1 := Nat.lt_of_lt_of_le z1 di; have y2 := Nat.lt_of_lt_of_le z2 di; have y3 := Nat.lt_of_lt_of_le z3 di; have y4 := Nat.lt_of_lt_of_le z4 di; have L1 := Lib.hid K1; have L2 := Lib.hid K2; have L3 := Lib.hid K3; have L4 := Lib.hid K4; clear K1 K2 K3 K4; have eS := Lib.hid aF; have Cc := Lib.hid (HB.out.trans (aF.mono (Nat.le_of_lt z1))); clear aF)
      gi_region
      all_goals gi_wp2
      all_goals
        refine ⟨?_, af.qZ (e := e0) (k := rs.length) hee p2 (fun ys hy => af.Bm Kq.out p2 oN.out ys hy) ?_ ?_ ?_ ?_ ?_⟩
        . (repeat (first | (with_reducible refine af.wM ?_) | (with_reducible refine af.l8 ?_ _) | (with_reducible refine af.vk ?_ _ _) | (with_reducible exact af.kM eS.out)))
        . (repeat (first | (with_reducible refine Is.drew ?_) | (with_reducible refine Is.alloc ?_ _) | (with_reducible refine af.fI (a := .slice none 0 0) ?_) | (with_reducible refine Is.other ?_ (by omega) _ _) | (with_reducible exact L1.out)))
        . (repeat (first | (with_reducible refine Is.drew ?_) | (with_reducible refine Is.alloc ?_ _) | (with_reducible refine af.fI (a := .int .i64 0) ?_) | (with_reducible refine Is.other ?_ (by omega) _ _) | (with_reducible exact L2.out)))
        . (repeat (first | (with_reducible refine Is.drew ?_) | (with_reducible refine Is.alloc ?_ _) | (with_reducible refine af.fI (a := .int .i64 0) ?_) | (with_reducible refine Is.other ?_ (by omega) _ _) | (with_reducible exact L3.out)))
        . simp; omega
        . (repeat (first | (with_reducible refine Below.drew ?_) | (with_reducible refine Below.setCell ?_ (by first | (simp; done) | (simp; omega)) _) | (with_reducible refine Below.alloc ?_ (by first | omega | (simp; done) | (simp; omega)) _) | (with_reducible exact Cc.out)))
    . have oN := Lib.hid gZ; clear gZ
      by_cases hl : rs.length = 64
      . have PR : ((rs.length : Int) == 64) = true := by rw [hl]; rfl
        have Kr := Lib.hid hl; clear hl
        gi_wp2_with (refine ⟨trivial, ?_⟩; gi_at_call 35; refine (CallsIn.inRound l (callsIn_wide.2 HL.out)).mono ?_; rintro e w1 ⟨he, aF⟩; rw [show af.cB (af.kI x) (af.dM (af.gJ x)) (af.cF (af.gJ x)) = .inr r from oN.out] at he; obtain rfl : e = .returned (.tuple #[.agg #[.int .u8 r.k, .int .i64 r.wt, .string r.a, .string r.b, .string r.t, .int .i64 r.n], .int .i64 0]) := he; have K1 := J1.out.below aF z1; have K2 := J2.out.below aF z2; have K3 := J3.out.below aF z3; have K4 := J4.out.below aF z4; have k1 := K1.one; have k2 := K2.one; have k3 := K3.one; have k4 := K4.one; have g1 := K1.frozen; have g2 := K2.frozen; have g3 := K3.frozen; have g4 := K4.frozen; have di := aF.size; have y1 := Nat.lt_of_lt_of_le z1 di; have y2 := Nat.lt_of_lt_of_le z2 di; have y3 := Nat.lt_of_lt_of_le z3 di; have y4 := Nat.lt_of_lt_of_le z4 di; have L1 := Lib.hid K1; have L2 := Lib.hid K2; have L3 := Lib.hid K3; have L4 := Lib.hid K4; clear K1 K2 K3 K4; have eS := Lib.hid aF; have Cc := Lib.hid (HB.out.trans (aF.mono (Nat.le_of_lt z1))); clear aF)
        gi_region
        all_goals gi_wp2
        all_goals
          refine ⟨?_, af.qZ (e := 7) (k := rs.length) (by decide) p2 (fun ys hy => (af.Ae Kq.out Kr.out oN.out ys hy).trans (by rw [Kr.out])) ?_ ?_ ?_ ?_ ?_⟩
          . (repeat (first | (with_reducible refine af.wM ?_) | (with_reducible refine af.l8 ?_ _) | (with_reducible refine af.vk ?_ _ _) | (with_reducible exact af.kM eS.out)))
          . (repeat (first | (with_reducible refine Is.drew ?_) | (with_reducible refine Is.alloc ?_ _) | (with_reducible refine af.fI (a := .slice none 0 0) ?_) | (with_reducible refine Is.other ?_ (by omega) _ _) | (with_reducible exact L1.out)))
          . (repeat (first | (with_reducible refine Is.drew ?_) | (with_reducible refine Is.alloc ?_ _) | (with_reducible refine af.fI (a := .int .i64 0) ?_) | (with_reducible refine Is.other ?_ (by omega) _ _) | (with_reducible exact L2.out)))
          . (repeat (first | (with_reducible refine Is.drew ?_) | (with_reducible refine Is.alloc ?_ _) | (with_reducible refine af.fI (a := .int .i64 0) ?_) | (with_reducible refine Is.other ?_ (by omega) _ _) | (with_reducible exact L3.out)))
          . simp; omega
          . (repeat (first | (with_reducible refine Below.drew ?_) | (with_reducible refine Below.setCell ?_ (by first | (simp; done) | (simp; omega)) _) | (with_reducible refine Below.alloc ?_ (by first | omega | (simp; done) | (simp; omega)) _) | (with_reducible exact Cc.out)))
      . have PR : ((rs.length : Int) == 64) = false := by rw [beq_eq_false_iff_ne]; omega
        obtain ⟨i0, z, cX, yf, qo, hzb, fB⟩ := af.Ko
        gi_wp2_with (first | (refine ⟨trivial, ?_⟩; gi_at_call 35; refine (CallsIn.inRound l (callsIn_wide.2 HL.out)).mono ?_; rintro e w1 ⟨he, aF⟩; rw [show af.cB (af.kI x) (af.dM (af.gJ x)) (af.cF (af.gJ x)) = .inr r from oN.out] at he; obtain rfl : e = .returned (.tuple #[.agg #[.int .u8 r.k, .int .i64 r.wt, .string r.a, .string r.b, .string r.t, .int .i64 r.n], .int .i64 0]) := he; have K1 := J1.out.below aF z1; have K2 := J2.out.below aF z2; have K3 := J3.out.below aF z3; have K4 := J4.out.below aF z4; have k1 := K1.one; have k2 := K2.one; have k3 := K3.one; have k4 := K4.one; have g1 := K1.frozen; have g2 := K2.frozen; have g3 := K3.frozen; have g4 := K4.frozen; have di := aF.size; have y1 := Nat.lt_of_lt_of_le z1 di; have y2 := Nat.lt_of_lt_of_le z2 di; have y3 := Nat.lt_of_lt_of_le z3 di; have y4 := Nat.lt_of_lt_of_le z4 di; have L1 := Lib.hid K1; have L2 := Lib.hid K2; have L3 := Lib.hid K3; have L4 := Lib.hid K4; clear K1 K2 K3 K4; have eS := Lib.hid aF; have Cc := Lib.hid (HB.out.trans (aF.mono (Nat.le_of_lt z1))); clear aF) | (gi_at_builtin; refine wpListIn_append_own _ rfl _ _ 22 rfl (w.heap.size + 5) 46 i0 z 6 72 Tryz.underlying22 cX yf qo hzb fB (by decide) _ _ _ rfl (((af.qX vo.out eS.out).alloc _).alloc _) ⟨w1.heap.size + 1, 0, none⟩ 1 1 r.cells rfl rfl ?_ ?_ ?_ ?_ ?_ ?_))
        . intro j u hu
          have := af.Ah (w1.alloc (.cells r.cells.toArray 46)) 46 r.cells j u hu
          rw [World.size_alloc] at this
          exact this
        . exact af.Ag r
        . unfold maxLen; omega
        . omega
        . have := eS.out.size; simp; omega
        . intro v' w5 vn iy _
          obtain ⟨g', aj, rfl⟩ := ownsRow_succ vn
          have kO := af.Aj eS.out aZ J4.out vo.out iy
          have k5 := kO.one
          have g5 := kO.frozen
          have HM5 := Lib.hid kO
          have PS := Lib.hid vn
          have Le := Lib.hid iy
          clear kO vn iy
          gi_wp2
          exact af.xP Kq.out (by omega) oN.out HB.out eS.out aZ J1.out J2.out J3.out J4.out vo.out PS.out Le.out
  case done =>
    rintro D W hD ⟨rs, v, h1, h2, j1, j2, j3, j4, bn, aZ, hb, jZ⟩ hK
    obtain ⟨va, vc, rfl⟩ := af.qY bn
    have PT := Lib.hid jZ; clear jZ
    have c1 := j1.one; have c2 := j2.one; have c3 := j3.one; have c4 := j4.one
    have f1 := j1.frozen; have f2 := j2.frozen; have f3 := j3.frozen; have f4 := j4.frozen
    have vo := Lib.hid bn; have HB := Lib.hid hb; have H1 := Lib.hid h1
    have J1 := Lib.hid j1; have J2 := Lib.hid j2; have J3 := Lib.hid j3; have J4 := Lib.hid j4
    have HK := Lib.hid hK
    clear bn hb h1 j1 j2 j3 j4 hK hm ig i1 i2 i3 i4 i5 gj
    gi_wp2
    have Ak : (((W.setCell ⟨w.heap.size, 0, none⟩ (.slice va rs.length vc)).setCell ⟨w.heap.size + 1, 0, none⟩ (.int .i64 0)).setCell ⟨w.heap.size + 1 + 1, 0, none⟩ (.int .i64 0)).heap[D]? = some (.deferred (some [])) :=
      (KeepsOthers.setCell _ _ _).same D _ ((KeepsOthers.setCell _ _ _).same D _ ((KeepsOthers.setCell _ _ _).same D _ HK.out rfl) rfl) rfl
    have q1 := af.gQ (o' := .deferred none) (((af.fI (v := .slice va rs.length vc) J1.out).other (m := w.heap.size + 1) (by omega) 0 (.int .i64 0)).other (m := w.heap.size + 1 + 1) (by omega) 0 (.int .i64 0)) Ak rfl
    have q2 := af.gQ (o' := .deferred none) ((af.fI (v := .int .i64 0) (J2.out.other (m := w.heap.size) (by omega) 0 (.slice va rs.length vc))).other (m := w.heap.size + 1 + 1) (by omega) 0 (.int .i64 0)) Ak rfl
    have q3 := af.gQ (o' := .deferred none) (af.fI (v := .int .i64 0) ((J3.out.other (m := w.heap.size) (by omega) 0 (.slice va rs.length vc)).other (m := w.heap.size + 1) (by omega) 0 (.int .i64 0))) Ak rfl
    have r1 := q1.one; have r2 := q2.one; have r3 := q3.one
    refine ⟨by simp, .inl ⟨_, _, rfl, run_takeDeferred Ak, ?_⟩⟩
    refine ⟨.tuple #[.slice va rs.length vc, .int .i64 0, .int .i64 0], by simp [results, Tryz.results9, go_sem, r1, r2, r3], af.nF (k := 0) (rs := rs) (af.ot hs H1.out h2) rfl ?_ ?_ (fun h => h.elim (fun h => absurd rfl h) PT.out)⟩
    . refine af.Bn (base := w.heap.size + 5) ?_ (by omega)
      refine ownsRow_putObj (ownsRow_setCell_below (ownsRow_setCell_below (ownsRow_setCell_below vo.out ?_ _) ?_ _) ?_ _) _ Ak rfl
      . show w.heap.size < w.heap.size + 5; omega
      . show w.heap.size + 1 < w.heap.size + 5; omega
      . show w.heap.size + 1 + 1 < w.heap.size + 5; omega
    . exact (((HB.out.setCell (p := ⟨w.heap.size, 0, none⟩) (Nat.le_refl _) _).setCell (p := ⟨w.heap.size + 1, 0, none⟩) (by show w.heap.size <= w.heap.size + 1; omega) _).setCell (p := ⟨w.heap.size + 1 + 1, 0, none⟩) (by show w.heap.size <= w.heap.size + 1 + 1; omega) _).grown (grownBy_putObj' _ D _) (by simp; omega) (fun k e => by cases e; omega)
  case stop =>
    rintro D pre W hD oL ⟨e, k, h1, h2, h3, h4, j1, j2, j3, aZ, hb⟩ hK
    obtain ⟨ys, fY⟩ := oL
    have q1 := af.gQ (o' := .deferred none) j1 hK rfl
    have q2 := af.gQ (o' := .deferred none) j2 hK rfl
    have q3 := af.gQ (o' := .deferred none) j3 hK rfl
    have r1 := q1.one; have r2 := q2.one; have r3 := q3.one
    have HB := Lib.hid hb; have H4 := Lib.hid (h4 ys fY)
    have HK := Lib.hid hK
    have R1 := Lib.hid r1; have R2 := Lib.hid r2; have R3 := Lib.hid r3
    clear hb h4 j1 j2 j3 hK hm ig i1 i2 i3 i4 i5 gj fY q1 q2 q3 r1 r2 r3
    gi_wp2
    refine ⟨by simp, .inl ⟨_, _, rfl, run_takeDeferred HK.out, ?_⟩⟩
    refine ⟨.tuple #[.slice none 0 0, .int .i64 k, .int .i64 e], by simp [results, Tryz.results9, go_sem, R1.out, R2.out, R3.out], af.nF (k := k) (rs := []) (by unfold af.b7; rw [if_neg (by omega), H4.out]) rfl ⟨rfl, .inl ⟨rfl, rfl⟩⟩ ?_⟩
    exact HB.out.grown (grownBy_putObj' _ D _) (by omega) (fun k e => by cases e; omega)
set_option maxRecDepth 100000 in
set_option maxHeartbeats 1000000 in
theorem af.xB (s : ByteArray) (w : World) (hs : 65536 < s.size) (hm : s.size <= maxLen) :
    Calls Tryz.prog 9 #[.string s] w (af.pT s w) := by
  unfold maxLen at hm
  refine (callsIn_wide (n := 5)).1 ?_
  refine callsIn_of_wp_marks Tryz.func9 rfl trivial ?_ rfl
  simp only [Tryz.ntmps9, List.size_toArray, List.length_cons, List.length_nil, Nat.reduceAdd, Nat.reduceSub, Array.replicate_succ, Array.replicate_zero, List.push_toArray, List.append_toArray, List.nil_append, List.cons_append]
  gi_wp2
  refine ⟨.tuple #[.slice none 0 0, .int .i64 0, .int .i64 7], by simp [results, Tryz.results9, go_sem], af.nF (k := 0) (rs := []) (by unfold af.b7; rw [if_pos hs]) rfl ⟨rfl, .inl ⟨rfl, rfl⟩⟩ ?_⟩
  exact (((Below.refl _ w).alloc (Nat.le_refl _) _).alloc (by simp) _).alloc (by simp; omega) _
end Go.Proofs
end
section
set_option maxRecDepth 1000000
namespace Go.Ai
open Go Go.RowKit
theorem vp {P : Program} {tt : TT} {O : Oracle} {G : T AFunc} {C : Cells} {m d f : Nat} {n0 : Pos} {fn : Func} {c : Code} (hm : P.follows .mixedOrders = true) (hT : TTOk P tt) (hG : GOk P tt G)
    (hO : OracleOk P C O) (oc : OracleMono O) (hf : P.funcs[f]? = some fn) (ek : ¬ fn.name = "runtime.NumGoroutine") (hb : fn.body = some c) {b : Bool}
    (h : callK (R := Bool) false O G m d f [] { heap := .e, next := n0 } (fun v _ => beqAV v (.bool b)) = true) (w : World) (hC : ∀ ad v, C ad = some v -> w.cell? ad = some v) (rX : ∀ a v, C a = some v -> ∀ o, C ⟨a.block, o, none⟩ = none -> w.cell? ⟨a.block, o, none⟩ = none) :
    Calls P f #[] w fun e w' => e = .returned (.bool b) /\ Below w.heap.size w w' := by
  rw [callK_eq false O G m d] at h
  unfold andK at h
  split at h <;> first | (cases h; done) | skip
  rename_i x hx
  obtain ⟨v, aH⟩ := x
  have hv := beqAV_eq h
  simp only at hv
  subst hv
  have hr := call_sound hm hT hO oc hG m d (fun _ => ⟨0, 0, 0⟩) { heap := .e, next := n0 } w f [] (.bool b) aH [] hx (empty_rel hC rX) VsRel.nil
  have aB : (callFunc f ([] : List Value).toArray).run P w = .ok (.enter f #[]) w := by simp [callFunc, hf, ek, hb]
  rw [aB] at hr
  refine Calls.mono hr fun e w' he => ?_
  cases e with
  | returned x =>
    obtain ⟨ρ', h1, _, _, _, hE⟩ := he
    have := h1.bool_inv; subst this
    exact ⟨rfl, hE.os, hE.tape, hE.output, hE.size, fun k hk => hE.block k hk fun b x hb => by rw [T.get_e] at hb; cases hb⟩
  | panicked c => exact he.elim
  | outgrown => exact he.elim
section
variable {ρ : Pos -> Go.Ai.Loc} {C : Cells} {st : St} {w w' : World}
theorem WRel.later (h : WRel ρ C st w) (hb : Below w.heap.size w w') : WRel ρ C st w' where
  live b x hx := by
    obtain ⟨h1, h2, h3⟩ := h.live b x hx
    exact ⟨h1, Nat.lt_of_lt_of_le h2 hb.size, h3.of_heap (hb.block _ h2)⟩
  inj := h.inj
  froz a v ha := by
    obtain ⟨h1, h2⟩ := h.froz a v ha
    exact ⟨(hb.cell (World.block_lt_of_cell? _ _ h1)).trans h1, h2⟩
  whole a v ha o ho := by
    have cO : a.block < w.heap.size := World.block_lt_of_cell? _ _ (h.froz a v ha).1
    exact (hb.cell (p := ⟨a.block, o, none⟩) cO).trans (h.whole a v ha o ho)
theorem Evo.later (h : WRel ρ C st w) (hb : Below w.heap.size w w') : Evo ρ st w ρ st w' := ⟨hb.os, hb.tape, hb.output, hb.size, fun k hk _ => hb.block k hk, fun b x hx => .inl ⟨b, x, hx, rfl⟩⟩
theorem zj (hW : WRel ρ C st w) {x0 : AB} {base size g : Nat} (hb : Below w.heap.size w w') (hg : w.heap.size <= g) (iP : g < w'.heap.size)
    (hB : ∀ ρ' n', (∀ b : Pos, b.toNat < st.next.toNat -> ρ' b = ρ b) -> st.next.toNat <= n' -> BRel ρ' n' C ⟨g, base, size⟩ w' x0) :
    ∃ ρ' : Pos -> Go.Ai.Loc, (∀ b : Pos, b.toNat < st.next.toNat -> ρ' b = ρ b) /\ ρ' st.next = ⟨g, base, size⟩ /\ WRel ρ' C (st.eff none none (some x0)) w' /\ Evo ρ st w ρ' (st.eff none none (some x0)) w' := by
  let ρ' : Pos -> Go.Ai.Loc := fun b => if b = st.next then ⟨g, base, size⟩ else ρ b
  have ak : ∀ b : Pos, b.toNat < st.next.toNat -> ρ' b = ρ b := fun b hb => if_neg (fun e => by rw [e] at hb; omega)
  have aJ : ρ' st.next = ⟨g, base, size⟩ := if_pos rfl
  refine ⟨ρ', ak, aJ, ?_, ⟨hb.os, hb.tape, hb.output, hb.size, fun k hk _ => hb.block k hk, fun b x hx => ?_⟩⟩
  rotate_left
  . by_cases he : b = st.next
    . right; rw [he, aJ]; exact hg
    . left
      simp only [St.eff, putO, delO] at hx
      rw [T.get_put_ne _ (fun e => he e.symm)] at hx
      exact ⟨b, x, hx, by rw [ak b (hW.live b x hx).1]⟩
  refine hW.put1 (b0 := st.next) (x0 := x0) (by rw [Pos.toNat_succ]; omega) (by rw [Pos.toNat_succ]; omega) (by rw [T.get_put]) ?_ ak (by rw [aJ]; exact hB _ _ ak (by rw [Pos.toNat_succ]; omega)) ?_ (by rw [aJ]; exact iP) hb.size (fun k hk _ => hb.block k hk)
  . intro b x hb hx
    simp only [putO, delO] at hx
    rw [T.get_put_ne _ (fun e => hb e.symm)] at hx
    refine ⟨hx, ?_⟩
    rw [aJ]
    have := (hW.live b x hx).2.1
    simp only; omega
  . intro a v ha
    have := World.block_lt_of_cell? _ _ (hW.froz a v ha).1
    rw [aJ]; simp only; omega
end
end Go.Ai
namespace Go.Proofs
open Go Go.Ai Go.RowKit Go.af Go.Proofs.YtehbdakjkjkekaaGreatDoor
def af.ah (t : List Nat) : ByteArray := ⟨(t.map UInt8.ofNat).toArray⟩
theorem af.oJ {t : List Nat} {bs : ByteArray} (h : bs.data.toList.map UInt8.toNat = t) : bs = af.ah t := by
  unfold af.ah
  rw [<- h, List.map_map]
  have : (UInt8.ofNat ∘ UInt8.toNat) = id := by funext c; simp
  rw [this, List.map_id]
def af.parseLit (t0 : List Nat) (er i : Int) (n : Nat) (cs : List AV) : List AV -> St -> Option (AV × St) := fun args st =>
  match args with
  | [.str t] => match beqNats t t0 with
    | true => match n with
      | 0 => some (.tuple [.nils, .int .i64 i, .int .i64 er], st)
      | n + 1 => some (.tuple [.slice st.next 0 (n + 1) none 6, .int .i64 i, .int .i64 er], st.eff none none (some (.cells cs 0)))
    | false => none
  | _ => none
theorem af.nG {ρ : Pos -> Go.Ai.Loc} {n : Nat} {C : Cells} : ∀ {cs : List AV} {vs : List Value}, cs.mapM gH = some vs -> (∀ v ∈ cs, ∃ k i, v = .int k i \/ ∃ s, v = .str s /\ ∀ c ∈ s, c < 256) -> VsRel ρ n C cs vs
  | [], vs, h, _ => by simp at h; subst h; exact VsRel.nil
  | v :: cs, vs, h, hv => by
    simp only [List.mapM_cons, Option.bind_eq_bind, Option.bind_eq_some_iff, Option.pure_def, Option.some.injEq] at h
    obtain ⟨y, hy, zs, hz, rfl⟩ := h
    refine VsRel.cons ?_ (af.nG hz fun v hm => hv v (List.mem_cons_of_mem _ hm))
    obtain ⟨k, i, rfl | ⟨s, rfl, hs⟩⟩ := hv v (List.mem_cons_self ..)
    . simp [gH] at hy; subst hy; exact .int _ _
    . simp only [gH, Option.some.injEq] at hy; subst hy
      refine .str _ _ ?_
      show (s.map UInt8.ofNat).toArray.toList.map UInt8.toNat = s
      simp only [List.map_map]
      conv => rhs; rw [<- List.map_id s]
      refine List.map_congr_left fun c hc => ?_
      have := hs c hc
      simp [UInt8.toNat_ofNat]
      omega
theorem af.kN {C : Cells} {m : Int} (hC : C ⟨1, 0, none⟩ = some (.int .i64 m)) {t0 : List Nat} {er i : Int} {n k : Nat} {cs : List AV} {rs : List af.RR} (aZ : t0.length <= 65536) (hp : af.b7 (af.ah t0) = (er, k, rs)) (hi : i = k) (hn : n = rs.length)
    (cu : cs.mapM gH = some (af.cellsOf rs)) (hsc : ∀ v ∈ cs, ∃ k i, v = .int k i \/ ∃ s, v = .str s /\ ∀ c ∈ s, c < 256) (hz : n = 0 -> er ≠ 0) : FnOk Tryz.prog C 9 (af.parseLit t0 er i n cs) where
  mono args st v st' h := by
    unfold af.parseLit at h
    split at h <;> first | (cases h; done) | skip
    split at h <;> first | (cases h; done) | skip
    split at h
    . injection h with h; injection h with h1 h2; subst h2; exact Nat.le_refl _
    . injection h with h; injection h with h1 h2; subst h2; exact St.eff_next _ _ _ _
  runs ρ st w args v st' ay h hW hv := by
    unfold af.parseLit at h
    split at h <;> first | (cases h; done) | skip
    rename_i t
    split at h <;> first | (cases h; done) | skip
    rename_i hbq
    have ht : t = t0 := beqNats_eq.1 hbq
    subst ht
    obtain ⟨x, xs, rfl, h1, h2⟩ := hv.cons_inv
    have := h2.nil_inv; subst this
    obtain ⟨bs, rfl, hs⟩ := h1.str_inv
    have cY := af.oJ hs
    have hm := (hW.froz _ _ hC).1
    have wO : bs.size <= 65536 := by
      have : bs.data.toList.length = t.length := by rw [<- hs]; simp
      have h3 : bs.size = bs.data.toList.length := by simp
      omega
    have hc := af.zh (fun s m w h => af.line s m w (Nat.le_trans h (by decide))) bs m w wO hm
    have aB : (callFunc 9 ([Value.string bs] : List Value).toArray).run Tryz.prog w = .ok (.enter 9 #[.string bs]) w := enters_of Tryz.func9 (by kernel_rfl) rfl _ _
    rw [aB]
    refine Calls.mono hc fun e w' rJ => ?_
    obtain ⟨v', he, bn, hb, jZ⟩ := rJ
    rw [cY, hp] at he bn jZ
    subst he
    subst hi
    simp only at bn jZ ⊢
    split at h
    . injection h with h; injection h with e1 e2; subst e1; subst e2
      have jd := jZ (.inl (hz rfl))
      subst jd
      exact ⟨ρ, .tuple_of (VsRel.cons .nils (VsRel.cons (.int _ _) (VsRel.cons (.int _ _) VsRel.nil))), fun _ _ => rfl, Nat.le_refl _, hW.later hb, Evo.later hW hb⟩
    . rename_i n'
      injection h with h; injection h with e1 e2; subst e1; subst e2
      rcases bn.2 with ⟨_, h0⟩ | ⟨g, cap, cur, rfl, hg, zi, iE, hcm, uV, xC⟩
      . omega
      . have Hq := (Array.getElem?_eq_some_iff.1 zi).1
        have hlen : cs.length = rs.length * 6 := by
          have hvr := af.nG (ρ := ρ) (n := 0) (C := C) cu hsc
          rw [hvr.1, af.lB]
        obtain ⟨ρ', ak, aJ, aS, hE⟩ := zj (x0 := .cells cs 0) (base := 0) (size := cur.size) hW hb hg Hq (fun ρ' n' _ _ =>
          cells_new zi (by rw [hlen, uV]; exact Nat.mul_le_mul_right _ iE) (by rw [hlen, xC]; exact af.nG cu hsc) (fun i _ => by simp))
        refine ⟨ρ', .tuple_of (VsRel.cons ?_ (VsRel.cons (.int _ _) (VsRel.cons (.int _ _) VsRel.nil))), ak, St.eff_next _ _ _ _, aS, hE⟩
        have Lf : n' + 1 <= cap := by omega
        rw [<- hn]
        exact slice_new (by simp [St.eff, Pos.toNat_succ]) aJ Lf (fun c hc => by cases hc) (by rw [uV]; exact Nat.le_refl _)
noncomputable def af.P1 : List AV -> St -> Option (AV × St) := af.parseLit [104, 97, 114, 100, 32, 97, 112, 97, 114, 116, 32, 97, 110, 110, 97, 32, 98, 111, 114, 105, 115, 32, 50, 10, 119, 101, 105, 103, 104, 32, 53, 32, 104, 111, 110, 111, 117, 114, 32, 45, 10] 0 0 2 [.int .u8 1, .int .i64 0, .str [97, 110, 110, 97], .str [98, 111, 114, 105, 115], .str [], .int .i64 2, .int .u8 14, .int .i64 5, .str [], .str [], .str [], .int .i64 0]
noncomputable def af.P2 : List AV -> St -> Option (AV × St) := af.parseLit [119, 101, 105, 103, 104, 32, 48, 32, 109, 105, 120, 32, 45, 10] 41 0 0 []
noncomputable def af.P3 : List AV -> St -> Option (AV × St) := af.parseLit [104, 97, 114, 100, 32, 97, 116, 32, 97, 110, 110, 97, 32, 45, 10] 4 0 0 []
theorem af.Lg : af.b7 (af.ah [104, 97, 114, 100, 32, 97, 112, 97, 114, 116, 32, 97, 110, 110, 97, 32, 98, 111, 114, 105, 115, 32, 50, 10, 119, 101, 105, 103, 104, 32, 53, 32, 104, 111, 110, 111, 117, 114, 32, 45, 10]) = (0, 0, [⟨1, 0, ⟨#[97, 110, 110, 97]⟩, ⟨#[98, 111, 114, 105, 115]⟩, ⟨#[]⟩, 2⟩, ⟨14, 5, ⟨#[]⟩, ⟨#[]⟩, ⟨#[]⟩, 0⟩]) := by kernel_rfl
theorem af.Lh : af.b7 (af.ah [119, 101, 105, 103, 104, 32, 48, 32, 109, 105, 120, 32, 45, 10]) = (41, 0, []) := by kernel_rfl
theorem af.Li : af.b7 (af.ah [104, 97, 114, 100, 32, 97, 116, 32, 97, 110, 110, 97, 32, 45, 10]) = (4, 0, []) := by kernel_rfl
theorem af.xQ {k : IntKind} {i : Int} : ∃ k' i', (AV.int k i) = .int k' i' \/ ∃ s, (AV.int k i) = .str s /\ ∀ c ∈ s, c < 256 := ⟨k, i, .inl rfl⟩
theorem af.xR {s : List Nat} (h : s.all (fun c => decide (c < 256)) = true) : ∃ k' i', (AV.str s) = .int k' i' \/ ∃ s', (AV.str s) = .str s' /\ ∀ c ∈ s', c < 256 := ⟨.i64, 0, .inr ⟨s, rfl, fun c hc => by have := List.all_eq_true.1 h c hc; simpa using this⟩⟩
theorem af.Lj {C : Cells} {m : Int} (hC : C ⟨1, 0, none⟩ = some (.int .i64 m)) : FnOk Tryz.prog C 9 af.P1 :=
  af.kN hC (by decide) af.Lg rfl rfl (by rfl) (by
    intro v hv
    simp only [List.mem_cons, List.not_mem_nil, or_false] at hv
    rcases hv with rfl | rfl | rfl | rfl | rfl | rfl | rfl | rfl | rfl | rfl | rfl | rfl <;> first | exact af.xQ | exact af.xR (by decide)) (by decide)
theorem af.Ll {C : Cells} {m : Int} (hC : C ⟨1, 0, none⟩ = some (.int .i64 m)) : FnOk Tryz.prog C 9 af.P2 := af.kN hC (by decide) af.Lh rfl rfl rfl (by simp) (by decide)
theorem af.Lm {C : Cells} {m : Int} (hC : C ⟨1, 0, none⟩ = some (.int .i64 m)) : FnOk Tryz.prog C 9 af.P3 := af.kN hC (by decide) af.Li rfl rfl rfl (by simp) (by decide)
noncomputable def af.PU : Oracle := orcOf [(277, cmpS), (30, orS (litS nR) (litS nS)), (9, orS af.P1 (orS af.P2 af.P3))]
noncomputable def af.PV : Bool := callK (R := Bool) false af.PU gg 100000 60 6 [] { heap := .e, next := .o (.i (.o (.i (.o (.i (.o (.i (.o .h)))))))) } fun v _ => beqAV v (.bool true)
theorem af.Al : af.PV = true := by kernel_rfl
theorem af.p8 {C : Cells} : FnOk Tryz.prog C 277 cmpS := cmp_fnOk (fn := Tryz.f277) Tryz.func277 (by kernel_rfl) (by kernel_rfl) (by kernel_rfl) (by kernel_rfl)
theorem af.FQ {C : Cells} : FnOk Tryz.prog C 30 (litS nR) := by
  have ho := orcOf_ok (P := Tryz.prog) (C := C) (l := [(277, cmpS)]) (fun x hx => by simp at hx; subst hx; exact af.p8)
  exact lit_fnOk (O := BT) (G := gg) (m := 100000) (d := 60) (call_sound (by kernel_rfl) pU ho.1 ho.2 pV _ _) (callA_mono ho.2 _ _) Ho KJ
theorem af.FR {C : Cells} : FnOk Tryz.prog C 30 (litS nS) := by
  have ho := orcOf_ok (P := Tryz.prog) (C := C) (l := [(277, cmpS)]) (fun x hx => by simp at hx; subst hx; exact af.p8)
  exact lit_fnOk (O := BU) (G := gg) (m := 100000) (d := 60) (call_sound (by kernel_rfl) pU ho.1 ho.2 pV _ _) (callA_mono ho.2 _ _) Hp KK
theorem af.Ks (m : Int) (w : World) (hm : w.cell? ⟨1, 0, none⟩ = some (.int .i64 m)) : Calls Tryz.prog 6 #[] w fun e w' => e = .returned (.bool true) /\ Below w.heap.size w w' := by
  have hC : (fun ad => w.cell? ad : Cells) ⟨1, 0, none⟩ = some (.int .i64 m) := hm
  have ho := orcOf_ok (P := Tryz.prog) (C := fun ad => w.cell? ad) (l := [(277, cmpS), (30, orS (litS nR) (litS nS)), (9, orS af.P1 (orS af.P2 af.P3))]) (fun x hx => by
    simp only [List.mem_cons, List.not_mem_nil, or_false] at hx
    rcases hx with rfl | rfl | rfl
    . exact af.p8
    . exact orS_ok af.FQ af.FR
    . exact orS_ok (af.Lj hC) (orS_ok (af.Ll hC) (af.Lm hC)))
  exact vp (by kernel_rfl) pU pV ho.1 ho.2 (fn := Tryz.f6) (c := Tryz.f6.body.get rfl) Tryz.func6 (by decide) rfl af.Al w (fun ad v h => h) fun a v _ o h => h
end Go.Proofs
end
section
namespace Go.af
open Go Go.Proofs
theorem uF {a b : ByteArray} (h : a.data.toList = b.data.toList) : a = b := by
  cases a; cases b; congr 1; exact Array.toList_inj.1 h
theorem nV (s : ByteArray) (a j b : Nat) (h : a + b <= s.size) : (s.extract a s.size).extract j b = s.extract (a + j) (a + b) := by
  apply uF
  rw [Lib.extract_data, Lib.extract_data, Lib.extract_data]
  simp only [List.drop_take, List.drop_drop, List.take_take]
  congr 1
  omega
theorem vq (s : ByteArray) (a : Nat) : (s.extract a s.size).size = s.size - a := by simp
theorem vr (s : ByteArray) (a k : Nat) (h : a + k < s.size) : (s.extract a s.size).data.toList[k]? = some s[a + k] := by
  rw [Lib.extract_data, List.getElem?_take, List.getElem?_drop, if_pos (by omega)]
  rw [List.getElem?_eq_getElem (by simpa using h)]
  rfl
theorem p9 {l : List UInt8} {c : UInt8} {j : Nat} (h1 : l[j]? = some c) (h2 : ∀ k, k < j -> l[k]? ≠ some c) : Lib.indexByte l c = j := by
  by_cases h : Lib.indexByte l c = -1
  . exact absurd h1 (Lib.indexByte_none h j)
  . have Ki := Lib.indexByte_ge l c
    obtain ⟨o, ho⟩ : ∃ o : Nat, Lib.indexByte l c = o := ⟨(Lib.indexByte l c).toNat, by omega⟩
    obtain ⟨g1, g2⟩ := Lib.indexByte_some ho
    have : o = j := by
      rcases Nat.lt_trichotomy o j with h | h | h
      . exact absurd g1 (h2 o h)
      . exact h
      . exact absurd h1 (g2 j h)
    rw [ho, this]
theorem vt {l : List UInt8} {c : UInt8} (h : ∀ k : Nat, l[k]? ≠ some c) : Lib.indexByte l c = -1 := by
  by_cases h0 : Lib.indexByte l c = -1
  . exact h0
  . have Ki := Lib.indexByte_ge l c
    obtain ⟨o, ho⟩ : ∃ o : Nat, Lib.indexByte l c = o := ⟨(Lib.indexByte l c).toNat, by omega⟩
    exact absurd (Lib.indexByte_some ho).1 (h o)
def lA (s : ByteArray) (c : UInt8) (a k : Nat) : Prop := ∀ j, a <= j -> j < k -> ∀ h : j < s.size, s[j] ≠ c
theorem lA.nil (s : ByteArray) (c : UInt8) (a : Nat) : lA s c a a := fun j h1 h2 => by omega
theorem lA.more {s : ByteArray} {c : UInt8} {a k : Nat} (h : lA s c a k) (hk : ∀ h : k < s.size, s[k] ≠ c) : lA s c a (k + 1) := fun j h1 h2 hj => by
  rcases Nat.lt_or_ge j k with h3 | h3
  . exact h j h1 h3 hj
  . obtain rfl : j = k := by omega
    exact hk hj
theorem vu {s : ByteArray} {c : UInt8} {a k : Nat} (h : lA s c a k) (Cd : a <= k) (hk : k < s.size) (hc : s[k] = c) : Lib.indexByte (s.extract a s.size).data.toList c = ((k - a : Nat) : Int) := by
  refine p9 ?_ ?_
  . rw [vr s a (k - a) (by omega)]
    congr 1
    have : a + (k - a) = k := by omega
    simp only [this]; exact hc
  . intro j hj e
    rw [vr s a j (by omega)] at e
    injection e with e
    exact h (a + j) (by omega) (by omega) (by omega) e
theorem FT {s : ByteArray} {c : UInt8} {a : Nat} (h : lA s c a s.size) : Lib.indexByte (s.extract a s.size).data.toList c = -1 := by
  refine vt fun j e => ?_
  by_cases hj : a + j < s.size
  . rw [vr s a j hj] at e
    injection e with e
    exact h (a + j) (by omega) hj hj e
  . rw [List.getElem?_eq_none (by rw [Lib.extract_data]; simp; omega)] at e
    cases e
theorem xy {s : ByteArray} {a k : Nat} (h : lA s 10 a k) (Cd : a <= k) (hk : k < s.size) (hc : s[k] = 10) :
    aR (s.extract a s.size) = s.extract a (k + 1) :: aR (s.extract (k + 1) s.size) := by
  have hi : fq (s.extract a s.size) = ((k - a : Nat) : Int) := vu h Cd hk hc
  rw [pX (by simp; omega) (by omega), hi]
  have e1 : (((k - a : Nat) : Int)).toNat = k - a := by omega
  rw [e1, vq]
  rw [nV s a 0 (k - a + 1) (by omega), nV s a (k - a + 1) (s.size - a) (by omega)]
  rw [show a + (k - a + 1) = k + 1 by omega, show a + (s.size - a) = s.size by omega, Nat.add_zero]
theorem xp {s : ByteArray} {a k : Nat} (h : lA s 32 a k) (Cd : a <= k) (hk : k < s.size) (hc : s[k] = 32) :
    af.bU (s.extract a s.size) = s.extract a k :: af.bU (s.extract (k + 1) s.size) := by
  have hi : Lib.indexB (s.extract a s.size) ⟨#[32]⟩ = ((k - a : Nat) : Int) := by
    exact (Lib.index_one _ _).trans (vu h Cd hk hc)
  unfold af.bU
  rw [Lib.countB_hit _ _ _ (by decide) hi, Nat.add_comm, Lib.splitB_hit _ _ _ _ _ hi]
  have e1 : (⟨#[32]⟩ : ByteArray).size = 1 := rfl
  rw [e1, Nat.add_zero, vq, nV s a 0 (k - a) (by omega), nV s a (k - a + 1) (s.size - a) (by omega)]
  rw [show a + (k - a + 1) = k + 1 by omega, show a + (s.size - a) = s.size by omega, show a + (k - a) = k by omega, Nat.add_zero]
theorem xq {s : ByteArray} {a : Nat} (h : lA s 32 a s.size) : af.bU (s.extract a s.size) = [s.extract a s.size] := by
  have hi : Lib.indexB (s.extract a s.size) ⟨#[32]⟩ = -1 := by
    exact (Lib.index_one _ _).trans (FT h)
  unfold af.bU
  rw [Lib.splitB_miss _ _ _ _ hi]
end Go.af
end
