/- rule.line, the lines of a text, rule.Parse, and the chapter's examples: what they return. -/
import Derived.Test.YtogojkhbplmifaaGreatDoorWalkB
import Derived.Test.YtogojkhbplmifaaGreatDoorWalkA
import Derived.Test.YtogojkhbplmifaaGreatDoorBodA
import Derived.Test.YtogojkhbplmifaaGreatDoorBodB
import Derived.RangeFuncNested
import Derived.RangeFuncBound
import Derived.RangeFuncCalls
import Derived.RangeFuncLeaves
import Derived.Shelf.Abstract
import Derived.Shelf.RegionOpen
import Derived.WalkKit
import Derived.OwnWalkIn
import Derived.TacticsInMore
import Derived.LoopNIn
import Derived.LoopIn
import Derived.Lib.Hide
import Derived.Lib.IndexLaws
import Derived.RangeFuncBox
import Derived.Test.YtogojkhbplmifaaGreatDoorLitA
import Derived.Test.YtogojkhbplmifaaGreatDoorLitB
import Derived.Test.YtogojkhbplmifaaGreatDoorEvalD
set_option linter.all false
set_option linter.unusedSectionVars false
set_option linter.deprecated false
section
namespace Go.Proofs
open Go.RowKit Go.ag
set_option maxRecDepth 100000 in
set_option maxHeartbeats 4000000 in
theorem ag.abF (KJ : ∀ (u : Nat -> ByteArray) (wt : Int) (B off len : Nat) (w : World), B < w.heap.size -> (∀ i, i < len -> w.cell? ⟨B, off + i, none⟩ = some (.string (u i))) -> 1 <= len -> len <= maxLen -> (∀ i, i < len -> (u i).size <= maxLen) -> -1 <= wt /\ wt <= 999999999 ->
      Calls Tryz.prog 175 #[.agg #[.int .u8 0, .int .i64 wt, .string ⟨#[]⟩, .string ⟨#[]⟩, .string ⟨#[]⟩, .int .i64 0], .slice (some ⟨B, off, none⟩) len len] w (ag.rI u len wt w))
    (s : ByteArray) (m : Int) (w : World) (hs : s.size <= 65536) (hm : w.cell? ⟨0, 0, none⟩ = some (.int .i64 m)) :
    Calls Tryz.prog 83 #[.string s] w (ag.KI s w) := by
  have hbk := World.block_lt_of_cell? _ _ hm
  have P4 := Lib.hid KJ; clear KJ
  obtain ⟨s1, DJ⟩ : ∃ s1, s1 = ag.tY s := ⟨_, rfl⟩
  obtain ⟨ok, dx⟩ : ∃ ok, ok = ag.D6 s := ⟨_, rfl⟩
  have gO : s1.size <= 65536 := by rw [DJ]; exact Nat.le_trans (ag.Sj s) hs
  have hn1 := ag.PY s1
  have Ht := ag.Sk s1
  obtain ⟨n, hn⟩ : ∃ n, n = ag.kJ s1 := ⟨_, rfl⟩
  rw [<- hn] at hn1 Ht
  have U1 := ag.acO s
  rw [<- DJ, <- dx] at U1
  have U2 := ag.ZH s1 m
  rw [<- hn] at U2
  have D7 := Lib.hid DJ; have D8 := Lib.hid dx; have HN := Lib.hid hn; clear DJ dx hn
  have H1 := Lib.hid U1; have H2 := Lib.hid U2; clear U1 U2
  go_enter Tryz.func83, Tryz.ntmps83
  go_wp2_with (first | (go_at_call 172; refine (H1.out _ hs).mono ?_; rintro e w' ⟨rfl, hw⟩; subst hw) | (go_at_call 173; refine (H2.out _ gO (by rw [World.cell?_alloc_old _ _ _ (Nat.ne_of_lt hbk)]; exact hm)).mono ?_; rintro e w' ⟨rfl, hw⟩; subst hw))
  have i2 := Is.new (w.alloc (.cells #[.int .u8 0, .int .i64 0, .string ⟨#[]⟩, .string ⟨#[]⟩, .string ⟨#[]⟩, .int .i64 0] 31)) 9 ((ag.nN s1).map Value.string).toArray
  have i1 := (Is.new w 31 #[.int .u8 0, .int .i64 0, .string ⟨#[]⟩, .string ⟨#[]⟩, .string ⟨#[]⟩, .int .i64 0]).alloc (.cells ((ag.nN s1).map Value.string).toArray 9)
  have hB := ((Below.refl w.heap.size w).alloc (Nat.le_refl _) (.cells #[.int .u8 0, .int .i64 0, .string ⟨#[]⟩, .string ⟨#[]⟩, .string ⟨#[]⟩, .int .i64 0] 31)).alloc (by simp) (.cells ((ag.nN s1).map Value.string).toArray 9)
  rw [World.size_alloc] at i2
  have hz : ((w.alloc (.cells #[.int .u8 0, .int .i64 0, .string ⟨#[]⟩, .string ⟨#[]⟩, .string ⟨#[]⟩, .int .i64 0] 31)).alloc (.cells ((ag.nN s1).map Value.string).toArray 9)).heap.size = w.heap.size + 1 + 1 := by simp
  generalize ((w.alloc (.cells #[.int .u8 0, .int .i64 0, .string ⟨#[]⟩, .string ⟨#[]⟩, .string ⟨#[]⟩, .int .i64 0] 31)).alloc (.cells ((ag.nN s1).map Value.string).toArray 9)) = W at i1 i2 hB hz ⊢
  have hwc : ∀ k, k < n -> W.cell? ⟨w.heap.size + 1, k, none⟩ = some (.string (ag.nO s1 k)) := fun k hk => by rw [i2.cell]; exact ag.PZ s1 k (by rw [<- HN.out]; exact hk)
  have hws : ∀ k, (ag.nO s1 k).size <= maxLen := fun k => Nat.le_trans (ag.NV s1 k) (by unfold maxLen; omega)
  obtain ⟨u, hu⟩ : ∃ u, u = ag.nO s1 := ⟨_, rfl⟩
  rw [<- hu] at hwc hws
  have HU := Lib.hid hu; clear hu
  obtain ⟨d0, d1, d2, d3, d4, d5⟩ := i1.j7
  have f1 := i1.frozen
  have I1 := Lib.hid i1; have I2 := Lib.hid i2; have HB := Lib.hid hB; have OV := Lib.hid hwc; have JR := Lib.hid hws; have HZ := Lib.hid hz
  have kq : w.heap.size < W.heap.size := by omega
  have E6 : w.heap.size + 1 < W.heap.size := by omega
  clear i1 i2 hB hwc hws hz
  go_loop [4, 18] (fun o i => ∃ k : Nat, k <= n /\ i = .int .i64 k /\ o = .bool (ag.uU ok u k)) (fun _ i => n - (intOf i).toNat)
  case atStart => exact ⟨0, Nat.zero_le _, rfl, by rw [ag.Sl]⟩
  case round =>
    obtain ⟨k, hk, rfl, rfl⟩ := hrel
    by_cases bD : k < n
    . have hc := OV.out k bD
      rcases ag.gl (ag.uU ok u k) with ha | ha
      . have HA := Lib.hid (ag.U0 ha)
        go_wp2
        go_round
        case rel => exact ⟨k + 1, by omega, by go_num, by rw [HA.out]⟩
        case measure => simp [intOf]; omega
      . have HA := Lib.hid (ag.ZI ha)
        go_wp2
        go_round
        case rel => exact ⟨k + 1, by omega, by go_num, by rw [HA.out]⟩
        case measure => simp [intOf]; omega
    . obtain rfl : k = n := by omega
      rcases ag.gl (ag.uU ok u k) with ha | ha
      rotate_left
      . have HA := Lib.hid ha
        go_wp2
        refine bodyPost_ret (v := .tuple #[.agg #[.int .u8 0, .int .i64 0, .string ⟨#[]⟩, .string ⟨#[]⟩, .string ⟨#[]⟩, .int .i64 0], .int .i64 3]) (by simp [results, Tryz.results83, go_sem, *]) rfl (ag.lY D7.out D8.out HN.out HU.out (by simp [ag.kW, ag.valOf, ag.bl, HA.out]) ?_); (repeat (first | (with_reducible refine Below.setCell ?_ (by first | (simp; done) | (simp; omega)) _) | (with_reducible refine Below.alloc ?_ (by first | (simp; done) | (simp; omega)) _) | (with_reducible refine ag.below_drewN ?_ _) | (with_reducible exact HB.out)))
      . have HA := Lib.hid ha
        have c0 := OV.out 0 (by omega)
        by_cases hh : (u 0).toList = [104, 97, 114, 100]
        . have HH := Lib.hid hh
          have hh2 : ((u 0).toList == [104, 97, 114, 100]) = true := by simpa using hh
          by_cases hn : 1 < k
          . have E7 : ∀ W' : World, Below W.heap.size W W' -> Calls Tryz.prog 175 #[.agg #[.int .u8 0, .int .i64 (0), .string ⟨#[]⟩, .string ⟨#[]⟩, .string ⟨#[]⟩, .int .i64 0], .slice (some ⟨w.heap.size + 1, 1, none⟩) (k - 1) (k - 1)] W' (fun e w1 => e = .returned (ag.valOf (ag.rT (fun i => u (i + 1)) (k - 1) (0))) /\ Below W.heap.size W w1) :=
              fun W' hb => (P4.out (fun i => u (i + 1)) (0) (w.heap.size + 1) 1 (k - 1) W' (Nat.lt_of_lt_of_le E6 hb.size) (fun i hi => (hb.cell (p := ⟨w.heap.size + 1, 1 + i, none⟩) E6).trans ((OV.out (1 + i) (by omega)).trans (by rw [Nat.add_comm]))) (by omega) (by unfold maxLen; omega) (fun i _ => JR.out _) (by omega)).mono (fun e w1 h => ⟨h.1, hb.trans (h.2.mono hb.size)⟩)
            have JS := Lib.hid E7; clear E7
            rcases nc : ag.rT (fun i => u (i + 1)) (k - 1) (0) with e0 | r0
            . have vM := Lib.hid nc; clear nc
              go_wp2_with (first | (go_at_call 175; refine (JS.out _ (by (repeat (first | (with_reducible refine Below.setCell ?_ (by first | omega | (simp; done) | (simp; omega)) _) | (with_reducible refine Below.alloc ?_ (by first | omega | (simp; done) | (simp; omega)) _) | (with_reducible refine ag.below_drewN ?_ _) | (with_reducible exact Below.refl _ _))))).mono ?_; rintro e w1 ⟨he, hb⟩; rw [vM.out] at he; obtain rfl : e = .returned (.tuple #[.agg #[.int .u8 0, .int .i64 0, .string ⟨#[]⟩, .string ⟨#[]⟩, .string ⟨#[]⟩, .int .i64 0], .int .i64 e0]) := he; obtain ⟨k0, k1, k2, k3, k4, k5⟩ := (I1.out.below hb kq).j7; have kf := (I1.out.below hb kq).frozen; have D9 := Lib.hid (HB.out.trans (hb.mono (Nat.le_of_lt kq))); clear hb))
              refine bodyPost_ret (v := .tuple #[.agg #[.int .u8 0, .int .i64 0, .string ⟨#[]⟩, .string ⟨#[]⟩, .string ⟨#[]⟩, .int .i64 0], .int .i64 e0]) (by simp [results, Tryz.results83, go_sem, *]) rfl (ag.lY D7.out D8.out HN.out HU.out (by simp [ag.kW, HA.out, HH.out, hn, vM.out, ag.valOf, ag.bl, ag.RR.val]) ?_); (repeat (first | (with_reducible refine Below.setCell ?_ (by first | omega | (simp; done) | (simp; omega)) _) | (with_reducible refine Below.alloc ?_ (by first | omega | (simp; done) | (simp; omega)) _) | (with_reducible refine ag.below_drewN ?_ _) | (with_reducible exact D9.out)))
            . have vM := Lib.hid nc; clear nc
              go_wp2_with (first | (go_at_call 175; refine (JS.out _ (by (repeat (first | (with_reducible refine Below.setCell ?_ (by first | omega | (simp; done) | (simp; omega)) _) | (with_reducible refine Below.alloc ?_ (by first | omega | (simp; done) | (simp; omega)) _) | (with_reducible refine ag.below_drewN ?_ _) | (with_reducible exact Below.refl _ _))))).mono ?_; rintro e w1 ⟨he, hb⟩; rw [vM.out] at he; obtain rfl : e = .returned (.tuple #[.agg #[.int .u8 r0.k, .int .i64 r0.wt, .string r0.a, .string r0.b, .string r0.t, .int .i64 r0.n], .int .i64 0]) := he; obtain ⟨k0, k1, k2, k3, k4, k5⟩ := (I1.out.below hb kq).j7; have kf := (I1.out.below hb kq).frozen; have D9 := Lib.hid (HB.out.trans (hb.mono (Nat.le_of_lt kq))); clear hb))
              refine bodyPost_ret (v := .tuple #[.agg #[.int .u8 r0.k, .int .i64 r0.wt, .string r0.a, .string r0.b, .string r0.t, .int .i64 r0.n], .int .i64 0]) (by simp [results, Tryz.results83, go_sem, *]) rfl (ag.lY D7.out D8.out HN.out HU.out (by simp [ag.kW, HA.out, HH.out, hn, vM.out, ag.valOf, ag.bl, ag.RR.val]) ?_); (repeat (first | (with_reducible refine Below.setCell ?_ (by first | omega | (simp; done) | (simp; omega)) _) | (with_reducible refine Below.alloc ?_ (by first | omega | (simp; done) | (simp; omega)) _) | (with_reducible refine ag.below_drewN ?_ _) | (with_reducible exact D9.out)))
          . obtain rfl : k = 1 := by omega
            have gj : ((u 0).toList == [119, 101, 105, 103, 104]) = false := by rw [hh]; decide
            go_wp2
            refine bodyPost_ret (v := .tuple #[.agg #[.int .u8 0, .int .i64 0, .string ⟨#[]⟩, .string ⟨#[]⟩, .string ⟨#[]⟩, .int .i64 0], .int .i64 3]) (by simp [results, Tryz.results83, go_sem, *]) rfl (ag.lY D7.out D8.out HN.out HU.out (by simp [ag.kW, ag.valOf, ag.bl, HA.out, HH.out]) ?_); (repeat (first | (with_reducible refine Below.setCell ?_ (by first | omega | (simp; done) | (simp; omega)) _) | (with_reducible refine Below.alloc ?_ (by first | omega | (simp; done) | (simp; omega)) _) | (with_reducible refine ag.below_drewN ?_ _) | (with_reducible exact HB.out)))
        . have HH := Lib.hid hh
          have hh2 : ((u 0).toList == [104, 97, 114, 100]) = false := by simpa using hh
          by_cases hw : (u 0).toList = [119, 101, 105, 103, 104]
          . have HW := Lib.hid hw
            have gj : ((u 0).toList == [119, 101, 105, 103, 104]) = true := by simpa using hw
            by_cases hn : 2 < k
            . have c1 := OV.out 1 (by omega)
              rcases ag.gl (iU (u 1).data.toList) with gK | gK
              rotate_left
              . go_wp2_with (first | (go_at_call 174; refine (ag.jR _ _ (JR.out 1)).mono ?_; rintro e w' ⟨rfl, rfl⟩))
                refine bodyPost_ret (v := .tuple #[.agg #[.int .u8 0, .int .i64 0, .string ⟨#[]⟩, .string ⟨#[]⟩, .string ⟨#[]⟩, .int .i64 0], .int .i64 3]) (by simp [results, Tryz.results83, go_sem, *]) rfl (ag.lY D7.out D8.out HN.out HU.out (by simp [ag.kW, ag.valOf, ag.bl, HA.out, HW.out, hn, gK]) ?_); (repeat (first | (with_reducible refine Below.setCell ?_ (by first | omega | (simp; done) | (simp; omega)) _) | (with_reducible refine Below.alloc ?_ (by first | omega | (simp; done) | (simp; omega)) _) | (with_reducible refine ag.below_drewN ?_ _) | (with_reducible exact HB.out)))
              . obtain ⟨nv, hnv⟩ : ∃ nv, nv = qT (u 1).data.toList := ⟨_, rfl⟩
                have cE := ag.P0 (u 1).data.toList
                have P5 := ag.jR (u 1)
                rw [<- hnv] at cE P5
                have VW := Lib.hid hnv; clear hnv
                have VX := Lib.hid P5; clear P5
                obtain ⟨cE, b6⟩ := cE
                by_cases EK : (nv == 0) = true
                . have hv : nv = 0 := by simpa using EK
                  subst hv
                  have E7 : ∀ W' : World, Below W.heap.size W W' -> Calls Tryz.prog 175 #[.agg #[.int .u8 0, .int .i64 (-1), .string ⟨#[]⟩, .string ⟨#[]⟩, .string ⟨#[]⟩, .int .i64 0], .slice (some ⟨w.heap.size + 1, 2, none⟩) (k - 2) (k - 2)] W' (fun e w1 => e = .returned (ag.valOf (ag.rT (fun i => u (i + 2)) (k - 2) (-1))) /\ Below W.heap.size W w1) :=
                    fun W' hb => (P4.out (fun i => u (i + 2)) (-1) (w.heap.size + 1) 2 (k - 2) W' (Nat.lt_of_lt_of_le E6 hb.size) (fun i hi => (hb.cell (p := ⟨w.heap.size + 1, 2 + i, none⟩) E6).trans ((OV.out (2 + i) (by omega)).trans (by rw [Nat.add_comm]))) (by omega) (by unfold maxLen; omega) (fun i _ => JR.out _) (by omega)).mono (fun e w1 h => ⟨h.1, hb.trans (h.2.mono hb.size)⟩)
                  have JS := Lib.hid E7; clear E7
                  rcases nc : ag.rT (fun i => u (i + 2)) (k - 2) (-1) with e0 | r0
                  . have vM := Lib.hid nc; clear nc
                    go_wp2_with (first | (go_at_call 174; refine (VX.out _ (JR.out 1)).mono ?_; rintro e w' ⟨rfl, rfl⟩) | (go_at_call 175; refine (JS.out _ (by (repeat (first | (with_reducible refine Below.setCell ?_ (by first | omega | (simp; done) | (simp; omega)) _) | (with_reducible refine Below.alloc ?_ (by first | omega | (simp; done) | (simp; omega)) _) | (with_reducible refine ag.below_drewN ?_ _) | (with_reducible exact Below.refl _ _))))).mono ?_; rintro e w1 ⟨he, hb⟩; rw [vM.out] at he; obtain rfl : e = .returned (.tuple #[.agg #[.int .u8 0, .int .i64 0, .string ⟨#[]⟩, .string ⟨#[]⟩, .string ⟨#[]⟩, .int .i64 0], .int .i64 e0]) := he; obtain ⟨k0, k1, k2, k3, k4, k5⟩ := (I1.out.below hb kq).j7; have kf := (I1.out.below hb kq).frozen; have D9 := Lib.hid (HB.out.trans (hb.mono (Nat.le_of_lt kq))); clear hb))
                    refine bodyPost_ret (v := .tuple #[.agg #[.int .u8 0, .int .i64 0, .string ⟨#[]⟩, .string ⟨#[]⟩, .string ⟨#[]⟩, .int .i64 0], .int .i64 e0]) (by simp [results, Tryz.results83, go_sem, *]) rfl (ag.lY D7.out D8.out HN.out HU.out (by simp [ag.kW, HA.out, HW.out, hn, gK, <- VW.out, vM.out, ag.valOf, ag.bl, ag.RR.val]) ?_); (repeat (first | (with_reducible refine Below.setCell ?_ (by first | omega | (simp; done) | (simp; omega)) _) | (with_reducible refine Below.alloc ?_ (by first | omega | (simp; done) | (simp; omega)) _) | (with_reducible refine ag.below_drewN ?_ _) | (with_reducible exact D9.out)))
                  . have vM := Lib.hid nc; clear nc
                    go_wp2_with (first | (go_at_call 174; refine (VX.out _ (JR.out 1)).mono ?_; rintro e w' ⟨rfl, rfl⟩) | (go_at_call 175; refine (JS.out _ (by (repeat (first | (with_reducible refine Below.setCell ?_ (by first | omega | (simp; done) | (simp; omega)) _) | (with_reducible refine Below.alloc ?_ (by first | omega | (simp; done) | (simp; omega)) _) | (with_reducible refine ag.below_drewN ?_ _) | (with_reducible exact Below.refl _ _))))).mono ?_; rintro e w1 ⟨he, hb⟩; rw [vM.out] at he; obtain rfl : e = .returned (.tuple #[.agg #[.int .u8 r0.k, .int .i64 r0.wt, .string r0.a, .string r0.b, .string r0.t, .int .i64 r0.n], .int .i64 0]) := he; obtain ⟨k0, k1, k2, k3, k4, k5⟩ := (I1.out.below hb kq).j7; have kf := (I1.out.below hb kq).frozen; have D9 := Lib.hid (HB.out.trans (hb.mono (Nat.le_of_lt kq))); clear hb))
                    refine bodyPost_ret (v := .tuple #[.agg #[.int .u8 r0.k, .int .i64 r0.wt, .string r0.a, .string r0.b, .string r0.t, .int .i64 r0.n], .int .i64 0]) (by simp [results, Tryz.results83, go_sem, *]) rfl (ag.lY D7.out D8.out HN.out HU.out (by simp [ag.kW, HA.out, HW.out, hn, gK, <- VW.out, vM.out, ag.valOf, ag.bl, ag.RR.val]) ?_); (repeat (first | (with_reducible refine Below.setCell ?_ (by first | omega | (simp; done) | (simp; omega)) _) | (with_reducible refine Below.alloc ?_ (by first | omega | (simp; done) | (simp; omega)) _) | (with_reducible refine ag.below_drewN ?_ _) | (with_reducible exact D9.out)))
                . have N4 : (nv == 0) = false := by simpa using EK
                  have HV : Hid (¬ nv = 0) := Lib.hid (by simpa using EK)
                  clear EK
                  have E7 : ∀ W' : World, Below W.heap.size W W' -> Calls Tryz.prog 175 #[.agg #[.int .u8 0, .int .i64 (nv), .string ⟨#[]⟩, .string ⟨#[]⟩, .string ⟨#[]⟩, .int .i64 0], .slice (some ⟨w.heap.size + 1, 2, none⟩) (k - 2) (k - 2)] W' (fun e w1 => e = .returned (ag.valOf (ag.rT (fun i => u (i + 2)) (k - 2) (nv))) /\ Below W.heap.size W w1) :=
                    fun W' hb => (P4.out (fun i => u (i + 2)) (nv) (w.heap.size + 1) 2 (k - 2) W' (Nat.lt_of_lt_of_le E6 hb.size) (fun i hi => (hb.cell (p := ⟨w.heap.size + 1, 2 + i, none⟩) E6).trans ((OV.out (2 + i) (by omega)).trans (by rw [Nat.add_comm]))) (by omega) (by unfold maxLen; omega) (fun i _ => JR.out _) (by omega)).mono (fun e w1 h => ⟨h.1, hb.trans (h.2.mono hb.size)⟩)
                  have JS := Lib.hid E7; clear E7
                  rcases nc : ag.rT (fun i => u (i + 2)) (k - 2) (nv) with e0 | r0
                  . have vM := Lib.hid nc; clear nc
                    go_wp2_with (first | (go_at_call 174; refine (VX.out _ (JR.out 1)).mono ?_; rintro e w' ⟨rfl, rfl⟩) | (go_at_call 175; refine (JS.out _ (by (repeat (first | (with_reducible refine Below.setCell ?_ (by first | omega | (simp; done) | (simp; omega)) _) | (with_reducible refine Below.alloc ?_ (by first | omega | (simp; done) | (simp; omega)) _) | (with_reducible refine ag.below_drewN ?_ _) | (with_reducible exact Below.refl _ _))))).mono ?_; rintro e w1 ⟨he, hb⟩; rw [vM.out] at he; obtain rfl : e = .returned (.tuple #[.agg #[.int .u8 0, .int .i64 0, .string ⟨#[]⟩, .string ⟨#[]⟩, .string ⟨#[]⟩, .int .i64 0], .int .i64 e0]) := he; obtain ⟨k0, k1, k2, k3, k4, k5⟩ := (I1.out.below hb kq).j7; have kf := (I1.out.below hb kq).frozen; have D9 := Lib.hid (HB.out.trans (hb.mono (Nat.le_of_lt kq))); clear hb))
                    refine bodyPost_ret (v := .tuple #[.agg #[.int .u8 0, .int .i64 0, .string ⟨#[]⟩, .string ⟨#[]⟩, .string ⟨#[]⟩, .int .i64 0], .int .i64 e0]) (by simp [results, Tryz.results83, go_sem, *]) rfl (ag.lY D7.out D8.out HN.out HU.out (by simp [ag.kW, HA.out, HW.out, hn, gK, <- VW.out, HV.out, vM.out, ag.valOf, ag.bl, ag.RR.val]) ?_); (repeat (first | (with_reducible refine Below.setCell ?_ (by first | omega | (simp; done) | (simp; omega)) _) | (with_reducible refine Below.alloc ?_ (by first | omega | (simp; done) | (simp; omega)) _) | (with_reducible refine ag.below_drewN ?_ _) | (with_reducible exact D9.out)))
                  . have vM := Lib.hid nc; clear nc
                    go_wp2_with (first | (go_at_call 174; refine (VX.out _ (JR.out 1)).mono ?_; rintro e w' ⟨rfl, rfl⟩) | (go_at_call 175; refine (JS.out _ (by (repeat (first | (with_reducible refine Below.setCell ?_ (by first | omega | (simp; done) | (simp; omega)) _) | (with_reducible refine Below.alloc ?_ (by first | omega | (simp; done) | (simp; omega)) _) | (with_reducible refine ag.below_drewN ?_ _) | (with_reducible exact Below.refl _ _))))).mono ?_; rintro e w1 ⟨he, hb⟩; rw [vM.out] at he; obtain rfl : e = .returned (.tuple #[.agg #[.int .u8 r0.k, .int .i64 r0.wt, .string r0.a, .string r0.b, .string r0.t, .int .i64 r0.n], .int .i64 0]) := he; obtain ⟨k0, k1, k2, k3, k4, k5⟩ := (I1.out.below hb kq).j7; have kf := (I1.out.below hb kq).frozen; have D9 := Lib.hid (HB.out.trans (hb.mono (Nat.le_of_lt kq))); clear hb))
                    refine bodyPost_ret (v := .tuple #[.agg #[.int .u8 r0.k, .int .i64 r0.wt, .string r0.a, .string r0.b, .string r0.t, .int .i64 r0.n], .int .i64 0]) (by simp [results, Tryz.results83, go_sem, *]) rfl (ag.lY D7.out D8.out HN.out HU.out (by simp [ag.kW, HA.out, HW.out, hn, gK, <- VW.out, HV.out, vM.out, ag.valOf, ag.bl, ag.RR.val]) ?_); (repeat (first | (with_reducible refine Below.setCell ?_ (by first | omega | (simp; done) | (simp; omega)) _) | (with_reducible refine Below.alloc ?_ (by first | omega | (simp; done) | (simp; omega)) _) | (with_reducible refine ag.below_drewN ?_ _) | (with_reducible exact D9.out)))
            . have Ji : decide (2 < (k : Int)) = false := by rw [decide_eq_false_iff_not]; omega
              go_wp2
              refine bodyPost_ret (v := .tuple #[.agg #[.int .u8 0, .int .i64 0, .string ⟨#[]⟩, .string ⟨#[]⟩, .string ⟨#[]⟩, .int .i64 0], .int .i64 3]) (by simp [results, Tryz.results83, go_sem, *]) rfl (ag.lY D7.out D8.out HN.out HU.out (by simp [ag.kW, ag.valOf, ag.bl, HA.out, HW.out, hn]) ?_); (repeat (first | (with_reducible refine Below.setCell ?_ (by first | omega | (simp; done) | (simp; omega)) _) | (with_reducible refine Below.alloc ?_ (by first | omega | (simp; done) | (simp; omega)) _) | (with_reducible refine ag.below_drewN ?_ _) | (with_reducible exact HB.out)))
          . have HW := Lib.hid hw
            have gj : ((u 0).toList == [119, 101, 105, 103, 104]) = false := by simpa using hw
            go_wp2
            refine bodyPost_ret (v := .tuple #[.agg #[.int .u8 0, .int .i64 0, .string ⟨#[]⟩, .string ⟨#[]⟩, .string ⟨#[]⟩, .int .i64 0], .int .i64 3]) (by simp [results, Tryz.results83, go_sem, *]) rfl (ag.lY D7.out D8.out HN.out HU.out (by simp [ag.kW, ag.valOf, ag.bl, HA.out, HW.out, HH.out]) ?_); (repeat (first | (with_reducible refine Below.setCell ?_ (by first | omega | (simp; done) | (simp; omega)) _) | (with_reducible refine Below.alloc ?_ (by first | omega | (simp; done) | (simp; omega)) _) | (with_reducible refine ag.below_drewN ?_ _) | (with_reducible exact HB.out)))
end Go.Proofs
end
section
namespace Go.Proofs
open Go.RowKit Go.ag
theorem ag.abG (u : Nat -> ByteArray) (wt : Int) (B off len : Nat) (w : World) (hB : B < w.heap.size) (hc : ∀ i, i < len -> w.cell? ⟨B, off + i, none⟩ = some (.string (u i))) (h1 : 1 <= len) (h3 : len <= maxLen) (hu : ∀ i, i < len -> (u i).size <= maxLen) (ue : -1 <= wt /\ wt <= 999999999) :
    Calls Tryz.prog 175 #[.agg #[.int .u8 0, .int .i64 wt, .string ⟨#[]⟩, .string ⟨#[]⟩, .string ⟨#[]⟩, .int .i64 0], .slice (some ⟨B, off, none⟩) len len] w (ag.rI u len wt w) := by
  rcases ag.shape (kindOf (u 0).data.toList) (ei _) with h | h | h | h | h | h | h | h | h
  . exact ag.abE u wt B off len w hB hc h1 h3 hu ue h
  . exact ag.ZQ u wt B off len w hB hc h1 h3 hu ue h
  . exact ag.ZR u wt B off len w hB hc h1 h3 hu ue h
  . exact ag.ZS u wt B off len w hB hc h1 h3 hu ue h
  . exact ag.ZT u wt B off len w hB hc h1 h3 hu ue h
  . exact ag.ZU u wt B off len w hB hc h1 h3 hu ue h
  . exact ag.ZV u wt B off len w hB hc h1 h3 hu ue h
  . exact ag.ZW u wt B off len w hB hc h1 h3 hu ue h
  . exact ag.ZX u wt B off len w hB hc h1 h3 hu ue h
theorem ag.line (s : ByteArray) (m : Int) (w : World) (hs : s.size <= 65536) (hm : w.cell? ⟨0, 0, none⟩ = some (.int .i64 m)) : Calls Tryz.prog 83 #[.string s] w (ag.KI s w) :=
  ag.abF ag.abG s m w hs hm
end Go.Proofs
end
section
namespace Go.ag
open Go Go.RowKit
variable {F : Fence} {n : Nat} {P : Program}
structure CE (b : Nat) (W W' : World) : Prop where
  cell : W'.cell? ⟨b, 0, none⟩ = W.cell? ⟨b, 0, none⟩
  fD : W'.frozen? ⟨b, 0, none⟩ = W.frozen? ⟨b, 0, none⟩
theorem CE.trans {b : Nat} {A B C : World} (h : CE b A B) (k : CE b B C) : CE b A C := ⟨k.cell.trans h.cell, k.fD.trans h.fD⟩
theorem CE.putObj {b l : Nat} {W : World} (o : Obj) (h : b ≠ l) : CE b W (W.putObj l o) := by
  have : (W.putObj l o).heap[b]? = W.heap[b]? := World.putObj_heap_other h
  exact ⟨by simp [World.cell?, this], by simp [World.frozen?, this]⟩
def tZ (b : Nat) {β : Type} (J : β -> World -> Prop) : Prop := ∀ s W v, J s W -> J s (W.setCell ⟨b, 0, none⟩ v)
def SeqC {α : Type} (F : Fence) (n : Nat) (P : Program) (g b : Nat) (lb : Array Value) (encs : α -> Array Value) (xs : List α) (w : World) : Prop :=
  ∀ (l : Nat) (J Jx : List α -> World -> Prop) (W : World), Below w.heap.size w W -> AbidesFrom W.heap.size J -> AbidesFrom W.heap.size Jx -> tZ b J -> tZ b Jx ->
    (∀ pre x W1, J pre W1 -> pre ++ [x] <+: xs -> YieldAt F (n - 1) P l (encs x) W1 fun e W' =>
      (e = .returned (.bool true) /\ J (pre ++ [x]) W' /\ CE b W1 W') \/ (e = .returned (.bool false) /\ Jx (pre ++ [x]) W')) ->
    J [] W ->
    CallsIn F n P g (#[.func (.yield l) #[] #[]] ++ lb) W fun e W' => (∃ v, e = .returned v) /\ (J xs W' \/ ∃ pre, pre <+: xs /\ Jx pre W')
def Sm {α : Type} (b B : Nat) (I : List α -> World -> Prop) (Ix : List α -> World -> Prop) (xs : List α) (W : World) : Exit -> Act -> World -> Prop
  | .normal, _, W' => KeepsFrom B W W' /\ CE b W W' /\ I xs W'
  | .ret, _, W' => KeepsFrom B W W' /\ Ix xs W'
  | _, _, _ => False
theorem NW {α : Type} {g : Operand} {ps : Array Tmp} {assign body : Code} {Q : Exit -> Act -> World -> Prop} {a : Act} {w : World}
    (Db : F.round = none) (h1 : 1 <= n) {gf b : Nat} {lb : Array Value} (hg : a.eval g = .func (.func gf) #[] lb) (hFg : F.fn gf) (eg : ∀ args w, (callFunc gf args).run P w = .ok (.enter gf args) w)
    {encs : α -> Array Value} {xs : List α} (hseq : SeqC F (n - 1) P gf b lb encs xs w) (hbw : b < w.heap.size) (Ob : ∀ x, (encs x).size = ps.size)
    (I : List α -> World -> Prop) (Ix : List α -> World -> Prop) (hI : OwnFrom w.heap.size I) (hIx : OwnFrom w.heap.size Ix) (hIs : tZ b I) (hIxs : tZ b Ix) (h0 : I [] w) (a₁ : α -> Act)
    (ZJ : ∀ (l : Nat) (x : α) (W : World) (K : Act -> World -> Prop), K (a₁ x) W ->
      assign.wpIn (F.inRound l) (n - 1 - 1) P (Exit.then K (fun _ _ _ => False)) { tmps := (ps.zip (encs x)).foldl (fun t (p, v) => t.setIfInBounds p v) a.tmps, defers := [] } W)
    (KJ : ∀ (l : Nat) (pre : List α) (x : α) (W : World), I pre W -> pre ++ [x] <+: xs -> w.heap.size <= W.heap.size -> body.wpIn (F.inRound l) (n - 1 - 1) P (Sm b w.heap.size I Ix (pre ++ [x]) W) (a₁ x) W)
    (acP : ∀ (D : Nat) (W : World), w.heap.size <= D -> I xs W -> W.heap[D]? = some (.deferred (some [])) -> Q .normal { a with defers := { target := .collected D, args := #[] } :: a.defers } W)
    (acQ : ∀ (D : Nat) (pre : List α) (W : World), w.heap.size <= D -> pre <+: xs -> Ix pre W -> W.heap[D]? = some (.deferred (some [])) -> Code.ret.wpIn F n P Q { a with defers := { target := .collected D, args := #[] } :: a.defers } W) :
    (Code.rangeFunc g ps assign body).wpIn F n P Q a w := by
  refine wpIn_rangeFunc fun fn iw => ?_
  rw [Db]
  let Gi : LoopState -> Option Code -> Loop := fun st pe => { state := st, pending := pe, fn, tmps := a.tmps, params := ps, assign, body, defers := w.heap.size }
  let L : Nat := w.heap.size + 1
  let W1 : World := (w.alloc (.deferred (some []))).alloc (.loop (Gi .ready none))
  have hL1 : W1.heap[L]? = some (.loop (Gi .ready none)) := by
    have := World.alloc_heap_new (w.alloc (.deferred (some []))) (.loop (Gi .ready none)); rwa [World.size_alloc] at this
  have hK1 : W1.heap[w.heap.size]? = some (.deferred (some [])) := (Below.heap_alloc _ _ _ (by simp)).trans (World.alloc_heap_new w _)
  have hWs : W1.heap.size = w.heap.size + 1 + 1 := by show ((w.alloc _).alloc _).heap.size = _; simp
  have cE : Below w.heap.size w W1 := ((Below.refl _ w).alloc (Nat.le_refl _) _).alloc (by simp) _
  let J : List α -> World -> Prop := fun pre W => I pre W /\ W.heap[L]? = some (.loop (Gi .ready none)) /\ W.heap[w.heap.size]? = some (.deferred (some [])) /\ w.heap.size <= W.heap.size
  let Jx : List α -> World -> Prop := fun pre W => Ix pre W /\ W.heap[L]? = some (.loop (Gi .done (some .ret))) /\ W.heap[w.heap.size]? = some (.deferred (some [])) /\ w.heap.size <= W.heap.size
  have up : ∀ {A : World} {row : Option Nat}, (∀ r, row = some r -> W1.heap.size <= r /\ ∃ o : Obj, A.heap[r]? = some o /\ o.isWalk = true) -> ∀ r, row = some r -> w.heap.size <= r /\ ∃ o : Obj, A.heap[r]? = some o /\ o.isCells = false :=
    fun hr r e => by obtain ⟨q, o, ho, hw⟩ := hr r e; exact ⟨by omega, o, ho, Obj.not_cells_of_walk hw⟩
  have hJ : AbidesFrom W1.heap.size J := fun s A B row hs CZ hr =>
    ⟨hI s A B row hs.1 CZ (up hr), (grownBy_keeps CZ (fun r e => (hr r e).2) hs.2.1 rfl).trans hs.2.1, (grownBy_keeps CZ (fun r e => (hr r e).2) hs.2.2.1 rfl).trans hs.2.2.1, Nat.le_trans hs.2.2.2 CZ.size⟩
  have VY : AbidesFrom W1.heap.size Jx := fun s A B row hs CZ hr =>
    ⟨hIx s A B row hs.1 CZ (up hr), (grownBy_keeps CZ (fun r e => (hr r e).2) hs.2.1 rfl).trans hs.2.1, (grownBy_keeps CZ (fun r e => (hr r e).2) hs.2.2.1 rfl).trans hs.2.2.1, Nat.le_trans hs.2.2.2 CZ.size⟩
  have uF : ∀ (W : World) (v : Value) (k : Nat), w.heap.size <= k -> (W.setCell ⟨b, 0, none⟩ v).heap[k]? = W.heap[k]? := fun W v k hk => Below.heap_setCell W _ v k (by show k ≠ b; omega)
  have OW : tZ b J := fun s W v hs => ⟨hIs s W v hs.1, (uF _ _ _ (by show w.heap.size <= w.heap.size + 1; omega)).trans hs.2.1, (uF _ _ _ (Nat.le_refl _)).trans hs.2.2.1, by rw [World.size_setCell]; exact hs.2.2.2⟩
  have hJxs : tZ b Jx := fun s W v hs => ⟨hIxs s W v hs.1, (uF _ _ _ (by show w.heap.size <= w.heap.size + 1; omega)).trans hs.2.1, (uF _ _ _ (Nat.le_refl _)).trans hs.2.2.1, by rw [World.size_setCell]; exact hs.2.2.2⟩
  refine ⟨L, [{ target := .collected w.heap.size, args := #[] }], W1, { target := .fn (.func gf) lb, args := #[.func (.yield L) #[] #[]] }, W1, gf, #[.func (.yield L) #[] #[]] ++ lb, W1, run_enterLoop_outer _ _ _ _ _, ?_, ?_, ?_, fun _ => h1, ?_⟩
  . simp only [resolve, hg]; simp [go_sem]
  . intro f' Oc; simp [Target.leads] at Oc; subst Oc; exact hFg
  . simp [invoke, go_sem, eg]
  refine (hseq L J Jx W1 cE hJ VY OW hJxs ?_ ⟨hI.alloc _ (hI.alloc _ h0), hL1, hK1, by omega⟩).mono ?_
  ·
    rintro pre x W ⟨hi, hl, hk, gO⟩ Gj
    have bD : L < W.heap.size := (Array.getElem?_eq_some_iff.1 hl).1
    refine ⟨fn, _, assign, body, run_yield (P := P) (args := encs x) hl (Ob x), roundIn_of_wpIn iw (ZJ _ x W _ ⟨_, run_beginRound hl rfl, ?_⟩)⟩
    have hneL : b ≠ L := by show b ≠ w.heap.size + 1; omega
    let W2 : World := W.putObj L (.loop { Gi .ready none with state := .busy })
    have k9 : W2.heap[L]? = some (.loop { Gi .ready none with state := .busy }) := World.putObj_heap_same bD
    have vu : W2.heap[w.heap.size]? = some (.deferred (some [])) := (World.putObj_heap_other (by show w.heap.size ≠ w.heap.size + 1; omega)).trans hk
    have U3 : w.heap.size <= W2.heap.size := Nat.le_trans gO (grownBy_putObj' W L _).size
    refine wpIn_mono (KJ L pre x W2 (hI.putObj _ hi (by show w.heap.size <= w.heap.size + 1; omega) hl rfl) Gj U3) ?_
    rintro e a3 W3 hp
    cases e with
    | normal =>
      obtain ⟨AK, hkp3, Hp⟩ := hp
      have Ng := AK.same _ _ (by show w.heap.size <= w.heap.size + 1; omega) k9 rfl
      have U4 := (Array.getElem?_eq_some_iff.1 Ng).1
      exact ⟨_, _, run_endRound (P := P) none Ng, .inl ⟨rfl, ⟨hI.putObj _ Hp (by show w.heap.size <= w.heap.size + 1; omega) Ng rfl, World.putObj_heap_same U4, (World.putObj_heap_other (by show w.heap.size ≠ w.heap.size + 1; omega)).trans (AK.same _ _ (Nat.le_refl _) vu rfl), Nat.le_trans (Nat.le_trans U3 AK.size) (grownBy_putObj' W3 L _).size⟩,
        ((CE.putObj _ hneL).trans hkp3).trans (CE.putObj _ hneL)⟩⟩
    | ret =>
      obtain ⟨AK, Hp⟩ := hp
      have Ng := AK.same _ _ (by show w.heap.size <= w.heap.size + 1; omega) k9 rfl
      have U4 := (Array.getElem?_eq_some_iff.1 Ng).1
      exact ⟨_, _, run_endRound (P := P) (some .ret) Ng, .inr ⟨rfl, hIx.putObj _ Hp (by show w.heap.size <= w.heap.size + 1; omega) Ng rfl, World.putObj_heap_same U4, (World.putObj_heap_other (by show w.heap.size ≠ w.heap.size + 1; omega)).trans (AK.same _ _ (Nat.le_refl _) vu rfl), Nat.le_trans (Nat.le_trans U3 AK.size) (grownBy_putObj' W3 L _).size⟩⟩
    | exit id => exact hp.elim
    | goto t => exact hp.elim
    | panic ch => exact hp.elim
    | outgrown => exact hp.elim
  ·
    rintro e W2 ⟨⟨v, rfl⟩, (⟨hi, hl, hk, _⟩ | ⟨pre, Gj, hi, hl, hk, _⟩)⟩
    . exact ⟨none, _, run_endLoop (P := P) hl (by show LoopState.ready ≠ LoopState.busy; simp), acP _ _ (Nat.le_refl _) (hI.putObj _ hi (by show w.heap.size <= w.heap.size + 1; omega) hl rfl) ((World.putObj_heap_other (by show w.heap.size ≠ w.heap.size + 1; omega)).trans hk)⟩
    . exact ⟨some .ret, _, run_endLoop (P := P) hl (by show LoopState.done ≠ LoopState.busy; simp), acQ _ pre _ (Nat.le_refl _) Gj (hIx.putObj _ hi (by show w.heap.size <= w.heap.size + 1; omega) hl rfl) ((World.putObj_heap_other (by show w.heap.size ≠ w.heap.size + 1; omega)).trans hk)⟩
end Go.ag
end
section
namespace Go.ag
open Go
def pI (s : ByteArray) : Int := Lib.indexByte s.data.toList 10
def oZ : Nat -> ByteArray -> List ByteArray
  | 0, _ => []
  | f + 1, s => if s.size = 0 then [] else if pI s < 0 then [s] else s.extract 0 ((pI s).toNat + 1) :: oZ f (s.extract ((pI s).toNat + 1) s.size)
def ff (s : ByteArray) : List ByteArray := oZ s.size s
theorem ZK (s : ByteArray) : -1 <= pI s := Lib.indexByte_ge _ _
theorem ZL (s : ByteArray) (h : 0 <= pI s) : (pI s).toNat < s.size := by
  have e : pI s = ((pI s).toNat : Int) := by omega
  have := (Lib.indexByte_some (l := s.data.toList) (c := 10) (o := (pI s).toNat) e).1
  have := (List.getElem?_eq_some_iff.1 this).1
  simpa using this
theorem Fa : ∀ (f g : Nat) (s : ByteArray), s.size <= f -> s.size <= g -> oZ f s = oZ g s
  | 0, 0, _, _, _ => rfl
  | 0, g + 1, s, h, _ => by
    have : s.size = 0 := by omega
    simp [oZ, this]
  | f + 1, 0, s, _, h => by
    have : s.size = 0 := by omega
    simp [oZ, this]
  | f + 1, g + 1, s, h1, h2 => by
    unfold oZ
    split
    . rfl
    . split
      . rfl
      . rw [Fa f g _ (by simp; omega) (by simp; omega)]
theorem Ia {s : ByteArray} (h : s.size = 0) : ff s = [] := by unfold ff; rw [h]; rfl
theorem NX {s : ByteArray} (h : s.size ≠ 0) (hi : pI s < 0) : ff s = [s] := by
  unfold ff
  obtain ⟨k, hk⟩ : ∃ k, s.size = k + 1 := ⟨s.size - 1, by omega⟩
  rw [hk]
  simp only [oZ]
  rw [if_neg h, if_pos hi]
theorem P6 {s : ByteArray} (h : s.size ≠ 0) (hi : 0 <= pI s) : ff s = s.extract 0 ((pI s).toNat + 1) :: ff (s.extract ((pI s).toNat + 1) s.size) := by
  unfold ff
  obtain ⟨k, hk⟩ : ∃ k, s.size = k + 1 := ⟨s.size - 1, by omega⟩
  conv => lhs; rw [hk]
  simp only [oZ]
  rw [if_neg h, if_neg (by omega)]
  rw [Fa k _ _ (by simp; omega) (Nat.le_refl _)]
theorem Fb : ∀ (f : Nat) (s x : ByteArray), x ∈ oZ f s -> x.size <= s.size
  | 0, _, _, h => by simp [oZ] at h
  | f + 1, s, x, h => by
    unfold oZ at h
    split at h
    . simp at h
    . split at h
      . simp at h; rw [h]; exact Nat.le_refl _
      . rcases List.mem_cons.1 h with rfl | h
        . simp; omega
        . have := Fb f _ x h
          simp at this; omega
theorem NY (s x : ByteArray) (h : x ∈ ff s) : x.size <= s.size := Fb _ s x h
def Nh (w : World) (b : Nat) : Nat := match w.cell? ⟨b, 0, none⟩ with
  | some (.string r) => r.size
  | _ => 0
theorem zl {w : World} {b : Nat} {r : ByteArray} (h : w.cell? ⟨b, 0, none⟩ = some (.string r)) : Nh w b = r.size := by unfold Nh; rw [h]
end Go.ag
namespace Go.Proofs
open Go.RowKit Go.Shelf Go.ag
attribute [local go_sem] Oper.semAt_some
theorem ag.grown_drewN (w : World) (k : Nat) : w.grownBy (w.drewN k) none := ⟨rfl, rfl, rfl, Nat.le_refl _, fun _ _ _ => rfl⟩
theorem ag.VZ (r : ByteArray) (w : World) : Calls Tryz.prog 178 #[.string r, .int .u8 10] w fun e w' => e = .returned (.int .i64 (pI r)) /\ w = w' := (Tryz.strings_IndexByte r 10 w).mono fun _ _ h => ⟨h.1, h.2.symm⟩
set_option maxRecDepth 100000 in
set_option maxHeartbeats 2000000 in
theorem ag.ZM (n : Nat) (l b : Nat) (s : ByteArray) (hs : s.size <= 65536) (J Jx : List ByteArray -> World -> Prop) (W : World) (B0 : Nat) (hJ : AbidesFrom B0 J) (VY : AbidesFrom B0 Jx) (OW : tZ b J)
    (hY : ∀ pre x W1, J pre W1 -> pre ++ [x] <+: ff s -> YieldAt Fence.wide (n - 1) Tryz.prog l #[.string x] W1 fun e W' =>
      (e = .returned (.bool true) /\ J (pre ++ [x]) W' /\ CE b W1 W') \/ (e = .returned (.bool false) /\ Jx (pre ++ [x]) W'))
    (hn : 1 <= n) (hb : W.cell? ⟨b, 0, none⟩ = some (.string s)) (hf : W.frozen? ⟨b, 0, none⟩ = false) (h0 : J [] W) :
    CallsIn Fence.wide n Tryz.prog 177 #[.func (.yield l) #[] #[], .pointer (some ⟨b, 0, none⟩)] W fun e W' => (∃ v, e = .returned v) /\ (J (ff s) W' \/ ∃ pre, pre <+: ff s /\ Jx pre W') := by
  have HY := Lib.hid hY; clear hY
  refine callsIn_of_wp Tryz.func177 rfl trivial ?_ rfl
  simp only [Tryz.ntmps177, List.size_toArray, List.length_cons, List.length_nil, Nat.reduceAdd, Nat.reduceSub, Array.replicate_succ, Array.replicate_zero, List.push_toArray, List.append_toArray, List.nil_append, List.cons_append]
  gi_wp2
  gi_loopw [3] (fun _ wr => ∃ (pre : List ByteArray) (r : ByteArray), wr.cell? ⟨b, 0, none⟩ = some (.string r) /\ wr.frozen? ⟨b, 0, none⟩ = false /\ ff s = pre ++ ff r /\ r.size <= s.size /\ J pre wr) (fun _ wr => Nh wr b)
  case atStart => exact ⟨[], s, hb, hf, rfl, Nat.le_refl _, h0⟩
  case round =>
    obtain ⟨pre, r, hc, I6, qM, Oh, hj⟩ := hrel
    have Ni := Lib.hid qM; have HJ0 := Lib.hid hj; clear qM hj
    by_cases ri : r.size = 0
    . gi_wp2
      go_end0
      refine ⟨⟨_, rfl⟩, .inl ?_⟩
      rw [Ni.out, Ia ri, List.append_nil]; exact HJ0.out
    . have hr1 : 0 < r.size := by omega
      have hge := ZK r
      by_cases hi : pI r < 0
      . have HL := Lib.hid (NX ri hi)
        have hj1 := OW _ _ (.string ⟨#[]⟩) HJ0.out
        obtain ⟨fn, tmps, assign, body, hy, hR⟩ := HY.out pre r _ hj1 (by rw [Ni.out, HL.out]; exact List.prefix_refl _)
        gi_wp2_with (first | (refine ⟨trivial, ?_⟩; gi_at_call 178; refine (callsIn_wide.2 (ag.VZ r _)).mono ?_; rintro e w' ⟨rfl, rfl⟩))
        refine hR.mono ?_
        rintro e W3 (⟨rfl, hJ3, AK⟩ | ⟨rfl, U5⟩)
        . have Sn : W3.cell? ⟨b, 0, none⟩ = some (.string ⟨#[]⟩) := AK.cell.trans (World.cell?_setCell_same' _ _ _ (by rw [hc]; rfl))
          have hf3 : W3.frozen? ⟨b, 0, none⟩ = false := AK.fD.trans (by rw [World.frozen?_setCell]; exact I6)
          gi_wp2
          go_roundw
          case rel => exact ⟨pre ++ [r], ⟨#[]⟩, Sn, hf3, by rw [Ni.out, HL.out, Ia (s := ⟨#[]⟩) rfl, List.append_nil], Nat.zero_le _, hJ3⟩
          case measure => rw [zl Sn, zl hc]; exact hr1
        . gi_wp2
          refine bodyPost_ret (results_none rfl _ _ _) rfl ?_
          exact ⟨⟨_, rfl⟩, .inr ⟨pre ++ [r], by rw [Ni.out, HL.out]; exact List.prefix_refl _, U5⟩⟩
      . have bD := ZL r (by omega)
        obtain ⟨i, Qt⟩ : ∃ i : Nat, pI r = i := ⟨(pI r).toNat, by omega⟩
        have HH := Lib.hid (P6 ri (by omega : 0 <= pI r))
        have HIX := ag.VZ r
        rw [Qt] at HIX
        have HI := Lib.hid HIX; clear HIX
        have qu : i < r.size := by omega
        have HIE := Lib.hid Qt; clear Qt hge hi bD
        gi_wp2_with (first | (refine ⟨trivial, ?_⟩; gi_at_call 178; refine (callsIn_wide.2 (HI.out _)).mono ?_; rintro e w' ⟨rfl, rfl⟩))
        gi_region
        have hj1 : J pre (wr.setCell ⟨b, 0, none⟩ (.string (r.extract (i + 1) r.size))).drew := hJ _ _ _ none (OW _ _ (.string (r.extract (i + 1) r.size)) HJ0.out) (ag.grown_drewN _ 1) (fun _ e => by cases e)
        obtain ⟨fn, tmps, assign, body, hy, hR⟩ := HY.out pre (r.extract 0 (i + 1)) _ hj1 (by
          rw [Ni.out, HH.out, HIE.out]
          exact ⟨ff (r.extract (i + 1) r.size), by simp⟩)
        gi_wp2
        refine hR.mono ?_
        rintro e W3 (⟨rfl, hJ3, AK⟩ | ⟨rfl, U5⟩)
        . have Sn : W3.cell? ⟨b, 0, none⟩ = some (.string (r.extract (i + 1) r.size)) := AK.cell.trans (World.cell?_setCell_same' _ _ _ (by rw [hc]; rfl))
          have hf3 : W3.frozen? ⟨b, 0, none⟩ = false := AK.fD.trans (by show (wr.setCell _ _).frozen? _ = false; rw [World.frozen?_setCell]; exact I6)
          gi_wp2
          go_roundw
          case rel => exact ⟨pre ++ [r.extract 0 (i + 1)], r.extract (i + 1) r.size, Sn, hf3, by rw [Ni.out, HH.out, HIE.out]; simp, by simp; omega, hJ3⟩
          case measure => rw [zl Sn, zl hc]; simp; omega
        . gi_wp2
          refine bodyPost_ret (results_none rfl _ _ _) rfl ?_
          exact ⟨⟨_, rfl⟩, .inr ⟨pre ++ [r.extract 0 (i + 1)], by rw [Ni.out, HH.out, HIE.out]; exact ⟨ff (r.extract (i + 1) r.size), by simp⟩, U5⟩⟩
end Go.Proofs
end
section
namespace Go.Proofs
open Go.RowKit Go.Shelf Go.ag
attribute [local go_sem] Oper.semAt_some
def ag.ua (x : ByteArray) : Int ⊕ ag.RR := ag.kW (ag.D6 x) (ag.nO (ag.tY x)) (ag.kJ (ag.tY x))
def ag.RR.cells (r : ag.RR) : List Value := [.int .u8 r.k, .int .i64 r.wt, .string r.a, .string r.b, .string r.t, .int .i64 r.n]
def ag.cellsOf (rs : List ag.RR) : List Value := rs.flatMap ag.RR.cells
theorem ag.Nj (rs : List ag.RR) (r : ag.RR) : ag.cellsOf (rs ++ [r]) = ag.cellsOf rs ++ r.cells := by simp [ag.cellsOf]
theorem ag.IZ (rs : List ag.RR) : (ag.cellsOf rs).length = rs.length * 6 := by
  induction rs with
  | nil => rfl
  | cons r rs ih => simp [ag.cellsOf] at ih ⊢; rw [ih]; simp [ag.RR.cells]; omega
def ag.yo : List ag.RR -> List ByteArray -> Int × Nat × List ag.RR
  | acc, [] => (0, 0, acc)
  | acc, x :: xs => match ag.ua x with
    | .inl e => (e, acc.length, [])
    | .inr r => if acc.length = 64 then (7, 64, []) else ag.yo (acc ++ [r]) xs
def ag.nP (s : ByteArray) : Int × Nat × List ag.RR := if 65536 < s.size then (7, 0, []) else ag.yo [] (ff s)
theorem ag.zm : ∀ (p : List ByteArray) (rs acc : List ag.RR) (ys : List ByteArray), p.map ag.ua = rs.map Sum.inr -> (acc ++ rs).length <= 64 -> ag.yo acc (p ++ ys) = ag.yo (acc ++ rs) ys
  | [], rs, acc, ys, h, _ => by
    cases rs with
    | nil => simp
    | cons r rs => simp at h
  | x :: p, rs, acc, ys, h, hl => by
    cases rs with
    | nil => simp at h
    | cons r rs =>
      simp only [List.map_cons, List.cons.injEq] at h
      simp only [List.length_append, List.length_cons] at hl
      rw [List.cons_append, ag.yo, h.1]
      simp only
      rw [if_neg (by omega), ag.zm p rs (acc ++ [r]) ys h.2 (by simp; omega)]
      simp
theorem ag.So {u : Nat -> ByteArray} {len : Nat} {wt e : Int} (h : ag.rT u len wt = .inl e) : 1 <= e /\ e <= 100 := by
  unfold ag.rT ag.bn at h
  simp only at h
  repeat' split at h
  all_goals (cases h)
  all_goals omega
theorem ag.Sq {ok : Bool} {u : Nat -> ByteArray} {len : Nat} {e : Int} (h : ag.kW ok u len = .inl e) : 1 <= e /\ e <= 100 := by
  unfold ag.kW at h
  repeat' split at h
  all_goals first
    | exact ag.So h
    | (cases h; omega)
set_option maxRecDepth 100000 in
theorem ag.ZN (s : ByteArray) (w : World) : Calls Tryz.prog 94 #[.string s] w fun e w' => e = .returned (.func (.func 177) #[] #[.pointer (some ⟨w.heap.size, 0, none⟩)]) /\ w' = w.alloc (.cells #[.string s] 9) := by
  go_enter Tryz.func94, Tryz.ntmps94
  go_wp2
  go_ret
  exact ⟨rfl, rfl⟩
def ag.Ib (w : World) (pre : List ByteArray) (W : World) : Prop :=
  ∃ (rs : List ag.RR) (v : Value), pre.map ag.ua = rs.map Sum.inr /\ rs.length <= 64 /\ Is W w.heap.size 26 #[.slice none 0 0] /\ Is W (w.heap.size + 1) 3 #[.int .i64 0] /\ Is W (w.heap.size + 1 + 1) 33 #[.int .i64 0] /\
    Is W (w.heap.size + 1 + 1 + 1) 26 #[v] /\ W.ownsRow (w.heap.size + 5) 31 6 v rs.length (ag.cellsOf rs) /\ w.heap.size + 5 <= W.heap.size /\ Below w.heap.size w W
def ag.Ic (w : World) (s : ByteArray) (pre : List ByteArray) (W : World) : Prop :=
  ∃ (e : Int) (k : Nat), 1 <= e /\ e <= 100 /\ k <= 64 /\ (∀ ys, pre ++ ys = ff s -> ag.yo [] (ff s) = (e, k, [])) /\ Is W w.heap.size 26 #[.slice none 0 0] /\ Is W (w.heap.size + 1) 3 #[.int .i64 k] /\ Is W (w.heap.size + 1 + 1) 33 #[.int .i64 e] /\ w.heap.size + 5 <= W.heap.size /\ Below w.heap.size w W
def ag.Sr (s : ByteArray) (w : World) (e : Ending) (w' : World) : Prop :=
  ∃ v, e = .returned (.tuple #[v, .int .i64 (ag.nP s).2.1, .int .i64 (ag.nP s).1]) /\ w'.ownsRow w.heap.size 31 6 v (ag.nP s).2.2.length (ag.cellsOf (ag.nP s).2.2) /\ Below w.heap.size w w' /\ ((ag.nP s).1 ≠ 0 -> v = .slice none 0 0)
theorem ag.mX {W W' : World} {n : Nat} {T : TypeId} {cs : Array Value} {row : Option Nat} (h : Is W n T cs) (hg : W.grownBy W' row) (cM : some n ≠ row) : Is W' n T cs := h.of_heap (hg.block n h.lt cM)
theorem ag.od {W : World} {n : Nat} {T : TypeId} {cs : Array Value} {row : Option Nat} (h : Is W n T cs) (hr : ∀ r, row = some r -> ∃ o : Obj, W.heap[r]? = some o /\ o.isCells = false) : some n ≠ row := by
  intro e
  obtain ⟨o, ho, hc⟩ := hr n e.symm
  unfold Is at h
  rw [h] at ho
  obtain rfl : Obj.cells cs T (0, 0) = o := by injection ho
  cases hc
theorem ag.P7 {W : World} {base k size : Nat} {e : TypeId} {v : Value} {xs : List Value} {row : Option Nat} (h : W.ownsRow base e size v k xs) (hr : ∀ r, row = some r -> ∃ o : Obj, W.heap[r]? = some o /\ o.isCells = false) : v.ownBlock = none \/ v.ownBlock ≠ row := by
  rcases h.2 with ⟨rfl, _⟩ | ⟨g, cap, cur, rfl, _, hb, _⟩
  . exact .inl rfl
  . right
    intro e
    obtain ⟨o, ho, hc⟩ := hr g (by rw [<- e]; rfl)
    rw [hb] at ho
    obtain rfl : Obj.cells cur _ (0, 0) = o := by injection ho
    cases hc
theorem ag.JT {W W' : World} {base k size : Nat} {e : TypeId} {v : Value} {xs : List Value} (h : W.ownsRow base e size v k xs) (hb : Below W.heap.size W W') : W'.ownsRow base e size v k xs :=
  h.kept (row := none) ⟨hb.os, hb.tape, hb.output, hb.size, fun i hi _ => hb.block i hi⟩ (by
    cases h0 : v.ownBlock
    . exact .inl rfl
    . right; simp)
theorem ag.zO {B : Nat} {W W' : World} (hb : Below W.heap.size W W') : KeepsFrom B W W' := ⟨hb.size, fun k o _ hk _ => (hb.block k (Array.getElem?_eq_some_iff.1 hk).1).trans hk⟩
theorem ag.P8 (w : World) (B0 : Nat) (hB : w.heap.size <= B0) : OwnFrom B0 (ag.Ib w) := by
  rintro pre W W' row ⟨rs, v, h1, h2, i1, i2, i3, i4, iA, gO, hb⟩ hg hr
  have jX : ∀ r, row = some r -> ∃ o : Obj, W.heap[r]? = some o /\ o.isCells = false := fun r e => (hr r e).2
  exact ⟨rs, v, h1, h2, ag.mX i1 hg (ag.od i1 jX), ag.mX i2 hg (ag.od i2 jX), ag.mX i3 hg (ag.od i3 jX), ag.mX i4 hg (ag.od i4 jX),
    iA.kept hg (ag.P7 iA jX), Nat.le_trans gO hg.size, hb.grown hg (by omega) (fun k e => Nat.le_trans hB (hr k e).1)⟩
theorem ag.P9 (w : World) (s : ByteArray) (B0 : Nat) (hB : w.heap.size <= B0) : OwnFrom B0 (ag.Ic w s) := by
  rintro pre W W' row ⟨e, k, h1, h2, h3, h4, i1, i2, i3, gO, hb⟩ hg hr
  have jX : ∀ r, row = some r -> ∃ o : Obj, W.heap[r]? = some o /\ o.isCells = false := fun r e => (hr r e).2
  exact ⟨e, k, h1, h2, h3, h4, ag.mX i1 hg (ag.od i1 jX), ag.mX i2 hg (ag.od i2 jX), ag.mX i3 hg (ag.od i3 jX), Nat.le_trans gO hg.size, hb.grown hg (by omega) (fun k e => Nat.le_trans hB (hr k e).1)⟩
theorem ag.Qa (w : World) : tZ (w.heap.size + 1 + 1 + 1 + 1) (ag.Ib w) := by
  rintro pre W x ⟨rs, v, h1, h2, i1, i2, i3, i4, iA, gO, hb⟩
  exact ⟨rs, v, h1, h2, i1.other (by omega) _ _, i2.other (by omega) _ _, i3.other (by omega) _ _, i4.other (by omega) _ _, ownsRow_setCell_below iA (by show w.heap.size + 1 + 1 + 1 + 1 < w.heap.size + 5; omega) _, by rw [World.size_setCell]; exact gO, hb.setCell (by show w.heap.size <= w.heap.size + 1 + 1 + 1 + 1; omega) _⟩
theorem ag.Qb (w : World) (s : ByteArray) : tZ (w.heap.size + 1 + 1 + 1 + 1) (ag.Ic w s) := by
  rintro pre W x ⟨e, k, h1, h2, h3, h4, i1, i2, i3, gO, hb⟩
  exact ⟨e, k, h1, h2, h3, h4, i1.other (by omega) _ _, i2.other (by omega) _ _, i3.other (by omega) _ _, by rw [World.size_setCell]; exact gO, hb.setCell (by show w.heap.size <= w.heap.size + 1 + 1 + 1 + 1; omega) _⟩
theorem ag.U6 {s : ByteArray} {pre : List ByteArray} {x : ByteArray} {rs : List ag.RR} {e : Int} (h : pre.map ag.ua = rs.map Sum.inr) (hl : rs.length <= 64) (hx : ag.ua x = .inl e) (ys : List ByteArray) (hy : pre ++ [x] ++ ys = ff s) : ag.yo [] (ff s) = (e, rs.length, []) := by
  rw [<- hy, List.append_assoc, ag.zm pre rs [] _ h (by simpa using hl)]
  simp [ag.yo, hx]
theorem ag.Ss {s : ByteArray} {pre : List ByteArray} {x : ByteArray} {rs : List ag.RR} {r : ag.RR} (h : pre.map ag.ua = rs.map Sum.inr) (hl : rs.length = 64) (hx : ag.ua x = .inr r) (ys : List ByteArray) (hy : pre ++ [x] ++ ys = ff s) : ag.yo [] (ff s) = (7, 64, []) := by
  rw [<- hy, List.append_assoc, ag.zm pre rs [] _ h (by simp; omega)]
  simp [ag.yo, hx, hl]
theorem ag.JU {w : World} {base : Nat} {e : TypeId} {size : Nat} {v : Value} {n : Nat} {xs : List Value} (h : w.ownsRow base e size v n xs) : ∃ a c, v = .slice a n c := by
  rcases h.2 with ⟨rfl, rfl⟩ | ⟨g, cap, cur, rfl, _⟩
  . exact ⟨none, 0, rfl⟩
  . exact ⟨_, _, rfl⟩
theorem ag.o8 {W : World} {n : Nat} {T : TypeId} {a v : Value} (h : Is W n T #[a]) : Is (W.setCell ⟨n, 0, none⟩ v) n T #[v] := (h.set 0 v).cast rfl
theorem ag.Nk {B : Nat} {W W' : World} (h : KeepsFrom B W W') (p : Addr) (v : Value) : KeepsFrom B W (W'.setCell p v) := h.trans ((KeepsOthers.setCell W' p v).from B)
theorem ag.Cn {B : Nat} {W W' : World} (h : KeepsFrom B W W') (o : Obj) : KeepsFrom B W (W'.alloc o) := h.trans ((KeepsOthers.alloc W' o).from B)
theorem ag.OX {B : Nat} {W W' : World} (h : KeepsFrom B W W') : KeepsFrom B W W'.drew := h.trans ⟨Nat.le_refl _, fun _ _ _ hk _ => hk⟩
theorem ag.JV {w W' : World} {s : ByteArray} {pre : List ByteArray} {e : Int} {k : Nat} (h1 : 1 <= e /\ e <= 100) (h2 : k <= 64) (h3 : ∀ ys, pre ++ ys = ff s -> ag.yo [] (ff s) = (e, k, []))
    (i1 : Is W' w.heap.size 26 #[.slice none 0 0]) (i2 : Is W' (w.heap.size + 1) 3 #[.int .i64 k]) (i3 : Is W' (w.heap.size + 1 + 1) 33 #[.int .i64 e]) (hz : w.heap.size + 5 <= W'.heap.size) (hb : Below w.heap.size w W') : ag.Ic w s pre W' :=
  ⟨e, k, h1.1, h1.2, h2, h3, i1, i2, i3, hz, hb⟩
theorem ag.Gk {w : World} {base : Nat} {e : TypeId} {size : Nat} {v : Value} {n : Nat} {xs : List Value} (h : w.ownsRow base e size v n xs) (j : Nat) (hj : v.ownBlock = some j) : base <= j := by
  rcases h.2 with ⟨rfl, rfl⟩ | ⟨g, cap, cur, rfl, hb, _⟩
  . cases hj
  . obtain rfl : g = j := by simpa [Value.ownBlock] using hj
    exact hb
theorem ag.Su {w : World} {base : Nat} {e : TypeId} {size : Nat} {v : Value} {n : Nat} {xs : List Value} (h : w.ownsRow base e size v n xs) (j : Nat) (o : Obj) (hj : v.ownBlock = some j) (ho : w.heap[j]? = some o) : o.isCells = true := by
  rcases h.2 with ⟨rfl, rfl⟩ | ⟨g, cap, cur, rfl, hb, hg, _⟩
  . cases hj
  . obtain rfl : g = j := by simpa [Value.ownBlock] using hj
    rw [hg] at ho; cases ho; rfl
theorem ag.Sv (r : ag.RR) : ∀ u ∈ r.cells, u.oneCell' = true := by
  intro u hu
  simp only [ag.RR.cells, List.mem_cons, List.not_mem_nil, or_false] at hu
  rcases hu with rfl | rfl | rfl | rfl | rfl | rfl <;> rfl
theorem ag.Sw (W : World) (T : TypeId) (cs : List Value) (j : Nat) (u : Value) (h : cs[j]? = some u) : (W.alloc (.cells cs.toArray T)).cell? ((⟨W.heap.size, 0, none⟩ : Addr).add j) = some u := by
  have : (⟨W.heap.size, 0, none⟩ : Addr).add j = ⟨W.heap.size, j, none⟩ := by
    unfold Addr.add
    split
    . rename_i h0; subst h0; rfl
    . simp
  rw [this, (Is.new W T cs.toArray).cell]
  simpa using h
theorem ag.Sx {w W w1 w5 : World} {n : Nat} {v : Value} {xs : List Value} {A C : Obj} {va : Value} (cE : Below W.heap.size W w1) (gO : w.heap.size + 5 <= W.heap.size) (j4 : Is W (w.heap.size + 1 + 1 + 1) 26 #[va])
    (iA : W.ownsRow (w.heap.size + 5) 31 6 v n xs) (ud : ((w1.alloc A).alloc C).grownBy w5 v.ownBlock) : Is w5 (w.heap.size + 1 + 1 + 1) 26 #[va] :=
  ag.mX (((j4.below cE (by omega)).alloc _).alloc _) ud (fun e => by have := ag.Gk iA _ e.symm; omega)
theorem ag.Qc {w W w1 w5 : World} {B : Nat} {pre : List ByteArray} {x : ByteArray} {rs : List ag.RR} {r : ag.RR} {v v' : Value} {A C : Obj} (p1 : pre.map ag.ua = rs.map Sum.inr) (p2 : rs.length < 64) (hx : ag.ua x = .inr r)
    (hb : Below w.heap.size w W) (cE : Below W.heap.size W w1) (gO : w.heap.size + 5 <= W.heap.size)
    (j1 : Is W w.heap.size 26 #[.slice none 0 0]) (j2 : Is W (w.heap.size + 1) 3 #[.int .i64 0]) (j3 : Is W (w.heap.size + 1 + 1) 33 #[.int .i64 0]) (j4 : Is W (w.heap.size + 1 + 1 + 1) 26 #[v])
    (iA : W.ownsRow (w.heap.size + 5) 31 6 v rs.length (ag.cellsOf rs)) (Nl : w5.ownsRow (w.heap.size + 5) 31 6 v' (rs.length + 1) (ag.cellsOf rs ++ r.cells)) (ud : ((w1.alloc A).alloc C).grownBy w5 v.ownBlock) :
    KeepsFrom B W (w5.setCell ⟨w.heap.size + 1 + 1 + 1, 0, none⟩ v') /\ CE (w.heap.size + 1 + 1 + 1 + 1) W (w5.setCell ⟨w.heap.size + 1 + 1 + 1, 0, none⟩ v') /\ ag.Ib w (pre ++ [x]) (w5.setCell ⟨w.heap.size + 1 + 1 + 1, 0, none⟩ v') := by
  have acR := ((ag.JT iA cE).alloc A).alloc C
  have cM : ∀ k, k < w.heap.size + 5 -> some k ≠ v.ownBlock := fun k hk e => by have := ag.Gk iA _ e.symm; omega
  have V0 : ∀ {k : Nat} {T : TypeId} {cs : Array Value}, Is W k T cs -> k < w.heap.size + 5 -> Is w5 k T cs := fun h hk => ag.mX (((h.below cE (by omega)).alloc _).alloc _) ud (cM _ hk)
  have hp5 : w5.heap[w.heap.size + 1 + 1 + 1 + 1]? = W.heap[w.heap.size + 1 + 1 + 1 + 1]? := by
    have hlt1 := cE.size
    rw [ud.block _ (by simp; omega) (cM _ (by omega)), Go.ag.heap_alloc _ _ (by simp; omega), Go.ag.heap_alloc _ _ (by omega)]
    exact cE.block _ (by omega)
  have hp6 : (w5.setCell ⟨w.heap.size + 1 + 1 + 1, 0, none⟩ v').heap[w.heap.size + 1 + 1 + 1 + 1]? = W.heap[w.heap.size + 1 + 1 + 1 + 1]? := by rw [Go.ag.E8 (by omega)]; exact hp5
  refine ⟨?_, ⟨by simp [World.cell?, hp6], by simp [World.frozen?, hp6]⟩, rs ++ [r], v', ?_, by simp; omega, (V0 j1 (by omega)).other (by omega) _ _, (V0 j2 (by omega)).other (by omega) _ _, (V0 j3 (by omega)).other (by omega) _ _, ag.o8 (V0 j4 (by omega)), ?_, ?_, ?_⟩
  . refine ag.Nk ((ag.Cn (ag.Cn (ag.zO cE) _) _).trans ((KeepsOthers.of_grownBy ud fun j o ej hj => ag.Su acR j o ej hj).from B)) _ _
  . simp [p1, hx]
  . rw [ag.Nj]
    have := ownsRow_setCell_below Nl (a := ⟨w.heap.size + 1 + 1 + 1, 0, none⟩) (by show w.heap.size + 1 + 1 + 1 < w.heap.size + 5; omega) v'
    simpa using this
  . have h1 := cE.size
    have h2 := ud.size
    simp at h2 ⊢; omega
  . have h1 := cE.size
    exact ((((hb.trans (cE.mono (by omega))).alloc (by omega) A).alloc (by simp; omega) C).grown ud (by simp; omega) (fun k e => by have := ag.Gk iA k e; omega)).setCell (by show w.heap.size <= w.heap.size + 1 + 1 + 1; omega) _
theorem ag.sL {W : World} {n D : Nat} {T : TypeId} {cs : Array Value} {o o' : Obj} (h : Is W n T cs) (hk : W.heap[D]? = some o) (ho : o.isCells = false) : Is (W.putObj D o') n T cs :=
  ag.mX h (grownBy_putObj' W D o') (ag.od h (fun r e => by cases e; exact ⟨o, hk, ho⟩))
theorem ag.JW {s : ByteArray} {w w' : World} {v : Value} {i : Int} {er : Int} {rs : List ag.RR} {k : Nat} (hp : ag.nP s = (er, k, rs)) (hi : i = k) (iA : w'.ownsRow w.heap.size 31 6 v rs.length (ag.cellsOf rs)) (hb : Below w.heap.size w w') (Nn : er ≠ 0 -> v = .slice none 0 0 := by intro h; first | rfl | exact absurd rfl h) :
    ag.Sr s w (.returned (.tuple #[v, .int .i64 i, .int .i64 er])) w' := by
  subst hi
  refine ⟨v, by rw [hp], ?_, hb, ?_⟩
  . rw [hp]; exact iA
  . rw [hp]; exact Nn
theorem ag.U7 {w : World} {base PD : Nat} {e : TypeId} {size : Nat} {v : Value} {n : Nat} {xs : List Value} (h : w.ownsRow base e size v n xs) (hb : PD <= base) : w.ownsRow PD e size v n xs := by
  refine ⟨h.1, h.2.imp id ?_⟩
  rintro ⟨g, cap, cur, h1, h2, h3⟩
  exact ⟨g, cap, cur, h1, Nat.le_trans hb h2, h3⟩
theorem ag.NZ {s : ByteArray} {rs : List ag.RR} (hs : s.size <= 65536) (h : (ff s).map ag.ua = rs.map Sum.inr) (hl : rs.length <= 64) : ag.nP s = (0, 0, rs) := by
  have := ag.zm (ff s) rs [] [] h (by simpa using hl)
  rw [List.append_nil] at this
  unfold ag.nP
  rw [if_neg (by omega), this]
  rfl
theorem ag.abH : ∃ i0 z, Tryz.prog.info? 31 = some i0 /\ i0.zero = some z /\ i0.size = 6 /\ i0.bytes = 72 /\ z.cells.size = 6 := by
  have h : (Tryz.prog.info? 31).map (fun i => (i.zero.map (·.cells.size), i.size, i.bytes)) = some (some 6, 6, 72) := by kernel_rfl
  cases hi : Tryz.prog.info? 31 with
  | none => rw [hi] at h; simp at h
  | some i0 =>
    rw [hi] at h
    simp only [Option.map_some, Option.some.injEq, Prod.mk.injEq, Option.map_eq_some_iff] at h
    obtain ⟨⟨z, hz, E6⟩, h2, h3⟩ := h
    exact ⟨i0, z, rfl, hz, h2, h3, E6⟩
set_option maxRecDepth 100000 in
set_option maxHeartbeats 4000000 in
theorem ag.abI (Ie : ∀ (s : ByteArray) (m : Int) (w : World), s.size <= 65536 -> w.cell? ⟨0, 0, none⟩ = some (.int .i64 m) -> Calls Tryz.prog 83 #[.string s] w (ag.KI s w))
    (s : ByteArray) (m : Int) (w : World) (hs : s.size <= 65536) (hm : w.cell? ⟨0, 0, none⟩ = some (.int .i64 m)) :
    Calls Tryz.prog 31 #[.string s] w (ag.Sr s w) := by
  have hbk := World.block_lt_of_cell? _ _ hm
  refine (callsIn_wide (n := 5)).1 ?_
  refine callsIn_of_wp_marks Tryz.func31 rfl trivial ?_ rfl
  simp only [Tryz.ntmps31, List.size_toArray, List.length_cons, List.length_nil, Nat.reduceAdd, Nat.reduceSub, Array.replicate_succ, Array.replicate_zero, List.push_toArray, List.append_toArray, List.nil_append, List.cons_append]
  gi_wp2_with (refine ⟨trivial, ?_⟩; gi_at_call 94; refine (callsIn_wide.2 (ag.ZN s _)).mono ?_; rintro e w' ⟨rfl, rfl⟩)
  obtain ⟨W0, Ig⟩ : ∃ W0, W0 = (((((w.alloc (.cells #[.slice none 0 0] 26)).alloc (.cells #[.int .i64 0] 3)).alloc (.cells #[.int .i64 0] 33)).alloc (.cells #[.slice none 0 0] 26)).alloc (.cells #[.string s] 9)) := ⟨_, rfl⟩
  have hz : W0.heap.size = w.heap.size + 1 + 1 + 1 + 1 + 1 := by rw [Ig]; simp
  have i1 : Is W0 w.heap.size 26 #[.slice none 0 0] := by rw [Ig]; exact ((((Is.new w 26 _).alloc _).alloc _).alloc _).alloc _
  have i2 : Is W0 (w.heap.size + 1) 3 #[.int .i64 0] := by rw [Ig]; have := (((Is.new (w.alloc (.cells #[.slice none 0 0] 26)) 3 #[.int .i64 0]).alloc (.cells #[.int .i64 0] 33)).alloc (.cells #[.slice none 0 0] 26)).alloc (.cells #[.string s] 9); rwa [World.size_alloc] at this
  have i3 : Is W0 (w.heap.size + 1 + 1) 33 #[.int .i64 0] := by rw [Ig]; have := ((Is.new ((w.alloc (.cells #[.slice none 0 0] 26)).alloc (.cells #[.int .i64 0] 3)) 33 #[.int .i64 0]).alloc (.cells #[.slice none 0 0] 26)).alloc (.cells #[.string s] 9); rwa [World.size_alloc, World.size_alloc] at this
  have i4 : Is W0 (w.heap.size + 1 + 1 + 1) 26 #[.slice none 0 0] := by rw [Ig]; have := (Is.new (((w.alloc (.cells #[.slice none 0 0] 26)).alloc (.cells #[.int .i64 0] 3)).alloc (.cells #[.int .i64 0] 33)) 26 #[.slice none 0 0]).alloc (.cells #[.string s] 9); rwa [World.size_alloc, World.size_alloc, World.size_alloc] at this
  have i5 : Is W0 (w.heap.size + 1 + 1 + 1 + 1) 9 #[.string s] := by rw [Ig]; have := Is.new ((((w.alloc (.cells #[.slice none 0 0] 26)).alloc (.cells #[.int .i64 0] 3)).alloc (.cells #[.int .i64 0] 33)).alloc (.cells #[.slice none 0 0] 26)) 9 #[.string s]; rwa [World.size_alloc, World.size_alloc, World.size_alloc, World.size_alloc] at this
  have sU : Below w.heap.size w W0 := by rw [Ig]; exact (((((Below.refl _ w).alloc (Nat.le_refl _) _).alloc (by simp) _).alloc (by simp; omega) _).alloc (by simp; omega) _).alloc (by simp; omega) _
  rw [<- Ig]
  clear Ig
  refine NW (n := 5) rfl (by decide) (gf := 177) (b := w.heap.size + 1 + 1 + 1 + 1) (lb := #[.pointer (some ⟨w.heap.size + 1 + 1 + 1 + 1, 0, none⟩)]) rfl trivial (enters_of Tryz.func177 (by kernel_rfl) rfl) (encs := fun x => #[.string x]) (xs := ff s) ?_ (by omega) (fun _ => rfl)
    (ag.Ib w) (ag.Ic w s) (ag.P8 w _ (by omega)) (ag.P9 w s _ (by omega)) (ag.Qa w) (ag.Qb w s)
    ⟨[], .slice none 0 0, rfl, by simp, i1, i2, i3, i4, ⟨rfl, .inl ⟨rfl, rfl⟩⟩, by omega, sU⟩
    (fun x => { tmps := #[.string s, undef, .pointer (some ⟨w.heap.size, 0, none⟩), .pointer (some ⟨w.heap.size + 1, 0, none⟩), .pointer (some ⟨w.heap.size + 1 + 1, 0, none⟩), .pointer (some ⟨w.heap.size + 1 + 1 + 1, 0, none⟩), .string x, undef, undef, .string s,
      .int .i64 s.size, .bool (decide (65536 < (s.size : Int))), .string s, .func (.func 177) #[] #[.pointer (some ⟨w.heap.size + 1 + 1 + 1 + 1, 0, none⟩)], .string x, undef, undef, undef, undef, undef, undef, undef, undef, undef, undef, undef, undef, undef, undef, undef, undef, undef, undef, undef, undef, undef, undef], defers := [] })
    ?assign ?body ?done ?stop
  . exact fun l J Jx W hW hJ VY OW hJxs hY h0 => ag.ZM _ l _ s hs J Jx W _ hJ VY OW hY (by decide) (by rw [hW.cell (p := ⟨w.heap.size + 1 + 1 + 1 + 1, 0, none⟩) (by show w.heap.size + 1 + 1 + 1 + 1 < W0.heap.size; omega)]; exact i5.one) (by rw [hW.frozen (p := ⟨w.heap.size + 1 + 1 + 1 + 1, 0, none⟩) (by show w.heap.size + 1 + 1 + 1 + 1 < W0.heap.size; omega)]; exact i5.frozen 0) h0
  case assign =>
    intro l x W K hK
    gi_wp2
    exact hK
  case body =>
    rintro l pre x W ⟨rs, v, p1, p2, j1, j2, j3, j4, iA, gO, hb⟩ Gj hWz
    obtain ⟨va, vc, rfl⟩ := ag.JU iA
    obtain ⟨ys, sx⟩ := Gj
    have hx : x.size <= 65536 := Nat.le_trans (NY s x (by rw [<- sx]; simp)) hs
    have hmW : W.cell? ⟨0, 0, none⟩ = some (.int .i64 m) := (hb.cell (p := ⟨0, 0, none⟩) hbk).trans hm
    have HL := Lib.hid (Ie x m W hx hmW)
    have z1 : w.heap.size < W.heap.size := by omega
    have z2 : w.heap.size + 1 < W.heap.size := by omega
    have z3 : w.heap.size + 1 + 1 < W.heap.size := by omega
    have z4 : w.heap.size + 1 + 1 + 1 < W.heap.size := by omega
    have Np := Lib.hid iA; have HB := Lib.hid hb; have HP1 := Lib.hid p1; have HYS := Lib.hid sx
    have J1 := Lib.hid j1; have J2 := Lib.hid j2; have J3 := Lib.hid j3; have J4 := Lib.hid j4
    have HM := Lib.hid hm; have HH := Lib.hid Ie; have HI5 := Lib.hid i5
    clear iA hb p1 sx j1 j2 j3 j4 hmW hm Ie i1 i2 i3 i4 i5 sU
    rcases FA : ag.ua x with e0 | r
    . have hee := ag.Sq FA
      have Gl := Lib.hid FA; clear FA
      gi_wp2_with (refine ⟨trivial, ?_⟩; gi_at_call 83; refine (CallsIn.inRound l (callsIn_wide.2 HL.out)).mono ?_; rintro e w1 ⟨he, cE⟩; rw [show ag.kW (ag.D6 x) (ag.nO (ag.tY x)) (ag.kJ (ag.tY x)) = .inl e0 from Gl.out] at he; obtain rfl : e = .returned (.tuple #[.agg #[.int .u8 0, .int .i64 0, .string ⟨#[]⟩, .string ⟨#[]⟩, .string ⟨#[]⟩, .int .i64 0], .int .i64 e0]) := he; have K1 := J1.out.below cE z1; have K2 := J2.out.below cE z2; have K3 := J3.out.below cE z3; have K4 := J4.out.below cE z4; have k1 := K1.one; have k2 := K2.one; have k3 := K3.one; have k4 := K4.one; have g1 := K1.frozen; have g2 := K2.frozen; have g3 := K3.frozen; have g4 := K4.frozen; have kq := cE.size; have y1 := Nat.lt_of_lt_of_le z1 kq; have y2 := Nat.lt_of_lt_of_le z2 kq; have y3 := Nat.lt_of_lt_of_le z3 kq; have y4 := Nat.lt_of_lt_of_le z4 kq; have L1 := Lib.hid K1; have L2 := Lib.hid K2; have L3 := Lib.hid K3; have L4 := Lib.hid K4; clear K1 K2 K3 K4; have nR := Lib.hid cE; have V1 := Lib.hid (HB.out.trans (cE.mono (Nat.le_of_lt z1))); clear cE)
      gi_region
      all_goals gi_wp2
      all_goals
        refine ⟨?_, ag.JV (e := e0) (k := rs.length) hee p2 (fun ys hy => ag.U6 HP1.out p2 Gl.out ys hy) ?_ ?_ ?_ ?_ ?_⟩
        . (repeat (first | (with_reducible refine ag.OX ?_) | (with_reducible refine ag.Cn ?_ _) | (with_reducible refine ag.Nk ?_ _ _) | (with_reducible exact ag.zO nR.out)))
        . (repeat (first | (with_reducible refine Is.drew ?_) | (with_reducible refine Is.alloc ?_ _) | (with_reducible refine ag.o8 (a := .slice none 0 0) ?_) | (with_reducible refine Is.other ?_ (by omega) _ _) | (with_reducible exact L1.out)))
        . (repeat (first | (with_reducible refine Is.drew ?_) | (with_reducible refine Is.alloc ?_ _) | (with_reducible refine ag.o8 (a := .int .i64 0) ?_) | (with_reducible refine Is.other ?_ (by omega) _ _) | (with_reducible exact L2.out)))
        . (repeat (first | (with_reducible refine Is.drew ?_) | (with_reducible refine Is.alloc ?_ _) | (with_reducible refine ag.o8 (a := .int .i64 0) ?_) | (with_reducible refine Is.other ?_ (by omega) _ _) | (with_reducible exact L3.out)))
        . simp; omega
        . (repeat (first | (with_reducible refine Below.drew ?_) | (with_reducible refine Below.setCell ?_ (by first | (simp; done) | (simp; omega)) _) | (with_reducible refine Below.alloc ?_ (by first | omega | (simp; done) | (simp; omega)) _) | (with_reducible exact V1.out)))
    . have Gl := Lib.hid FA; clear FA
      by_cases hl : rs.length = 64
      . have hl64 : ((rs.length : Int) == 64) = true := by rw [hl]; rfl
        have HLEN := Lib.hid hl; clear hl
        gi_wp2_with (refine ⟨trivial, ?_⟩; gi_at_call 83; refine (CallsIn.inRound l (callsIn_wide.2 HL.out)).mono ?_; rintro e w1 ⟨he, cE⟩; rw [show ag.kW (ag.D6 x) (ag.nO (ag.tY x)) (ag.kJ (ag.tY x)) = .inr r from Gl.out] at he; obtain rfl : e = .returned (.tuple #[.agg #[.int .u8 r.k, .int .i64 r.wt, .string r.a, .string r.b, .string r.t, .int .i64 r.n], .int .i64 0]) := he; have K1 := J1.out.below cE z1; have K2 := J2.out.below cE z2; have K3 := J3.out.below cE z3; have K4 := J4.out.below cE z4; have k1 := K1.one; have k2 := K2.one; have k3 := K3.one; have k4 := K4.one; have g1 := K1.frozen; have g2 := K2.frozen; have g3 := K3.frozen; have g4 := K4.frozen; have kq := cE.size; have y1 := Nat.lt_of_lt_of_le z1 kq; have y2 := Nat.lt_of_lt_of_le z2 kq; have y3 := Nat.lt_of_lt_of_le z3 kq; have y4 := Nat.lt_of_lt_of_le z4 kq; have L1 := Lib.hid K1; have L2 := Lib.hid K2; have L3 := Lib.hid K3; have L4 := Lib.hid K4; clear K1 K2 K3 K4; have nR := Lib.hid cE; have V1 := Lib.hid (HB.out.trans (cE.mono (Nat.le_of_lt z1))); clear cE)
        gi_region
        all_goals gi_wp2
        all_goals
          refine ⟨?_, ag.JV (e := 7) (k := rs.length) (by decide) p2 (fun ys hy => (ag.Ss HP1.out HLEN.out Gl.out ys hy).trans (by rw [HLEN.out])) ?_ ?_ ?_ ?_ ?_⟩
          . (repeat (first | (with_reducible refine ag.OX ?_) | (with_reducible refine ag.Cn ?_ _) | (with_reducible refine ag.Nk ?_ _ _) | (with_reducible exact ag.zO nR.out)))
          . (repeat (first | (with_reducible refine Is.drew ?_) | (with_reducible refine Is.alloc ?_ _) | (with_reducible refine ag.o8 (a := .slice none 0 0) ?_) | (with_reducible refine Is.other ?_ (by omega) _ _) | (with_reducible exact L1.out)))
          . (repeat (first | (with_reducible refine Is.drew ?_) | (with_reducible refine Is.alloc ?_ _) | (with_reducible refine ag.o8 (a := .int .i64 0) ?_) | (with_reducible refine Is.other ?_ (by omega) _ _) | (with_reducible exact L2.out)))
          . (repeat (first | (with_reducible refine Is.drew ?_) | (with_reducible refine Is.alloc ?_ _) | (with_reducible refine ag.o8 (a := .int .i64 0) ?_) | (with_reducible refine Is.other ?_ (by omega) _ _) | (with_reducible exact L3.out)))
          . simp; omega
          . (repeat (first | (with_reducible refine Below.drew ?_) | (with_reducible refine Below.setCell ?_ (by first | (simp; done) | (simp; omega)) _) | (with_reducible refine Below.alloc ?_ (by first | omega | (simp; done) | (simp; omega)) _) | (with_reducible exact V1.out)))
      . have hl64 : ((rs.length : Int) == 64) = false := by rw [beq_eq_false_iff_ne]; omega
        obtain ⟨i0, z, qa, QE, Vh, hzb, uj⟩ := ag.abH
        gi_wp2_with (first | (refine ⟨trivial, ?_⟩; gi_at_call 83; refine (CallsIn.inRound l (callsIn_wide.2 HL.out)).mono ?_; rintro e w1 ⟨he, cE⟩; rw [show ag.kW (ag.D6 x) (ag.nO (ag.tY x)) (ag.kJ (ag.tY x)) = .inr r from Gl.out] at he; obtain rfl : e = .returned (.tuple #[.agg #[.int .u8 r.k, .int .i64 r.wt, .string r.a, .string r.b, .string r.t, .int .i64 r.n], .int .i64 0]) := he; have K1 := J1.out.below cE z1; have K2 := J2.out.below cE z2; have K3 := J3.out.below cE z3; have K4 := J4.out.below cE z4; have k1 := K1.one; have k2 := K2.one; have k3 := K3.one; have k4 := K4.one; have g1 := K1.frozen; have g2 := K2.frozen; have g3 := K3.frozen; have g4 := K4.frozen; have kq := cE.size; have y1 := Nat.lt_of_lt_of_le z1 kq; have y2 := Nat.lt_of_lt_of_le z2 kq; have y3 := Nat.lt_of_lt_of_le z3 kq; have y4 := Nat.lt_of_lt_of_le z4 kq; have L1 := Lib.hid K1; have L2 := Lib.hid K2; have L3 := Lib.hid K3; have L4 := Lib.hid K4; clear K1 K2 K3 K4; have nR := Lib.hid cE; have V1 := Lib.hid (HB.out.trans (cE.mono (Nat.le_of_lt z1))); clear cE) | (gi_at_builtin; refine wpListIn_append_own _ rfl _ _ 26 rfl (w.heap.size + 5) 31 i0 z 6 72 Tryz.underlying26 qa QE Vh hzb uj (by decide) _ _ _ rfl (((ag.JT Np.out nR.out).alloc _).alloc _) ⟨w1.heap.size + 1, 0, none⟩ 1 1 r.cells rfl rfl ?_ ?_ ?_ ?_ ?_ ?_))
        . intro j u hu
          have := ag.Sw (w1.alloc (.cells r.cells.toArray 31)) 31 r.cells j u hu
          rw [World.size_alloc] at this
          exact this
        . exact ag.Sv r
        . unfold maxLen; omega
        . omega
        . have := nR.out.size; simp; omega
        . intro v' w5 Nl ud _
          obtain ⟨g', aU, rfl⟩ := ownsRow_succ Nl
          have zQ := ag.Sx nR.out gO J4.out Np.out ud
          have k5 := zQ.one
          have g5 := zQ.frozen
          have HM5 := Lib.hid zQ
          have HOWN := Lib.hid Nl
          have acS := Lib.hid ud
          clear zQ Nl ud
          gi_wp2
          exact ag.Qc HP1.out (by omega) Gl.out HB.out nR.out gO J1.out J2.out J3.out J4.out Np.out HOWN.out acS.out
  case done =>
    rintro D W hD ⟨rs, v, h1, h2, j1, j2, j3, j4, iA, gO, hb⟩ hK
    obtain ⟨va, vc, rfl⟩ := ag.JU iA
    have c1 := j1.one; have c2 := j2.one; have c3 := j3.one; have c4 := j4.one
    have f1 := j1.frozen; have f2 := j2.frozen; have f3 := j3.frozen; have f4 := j4.frozen
    have Np := Lib.hid iA; have HB := Lib.hid hb; have H1 := Lib.hid h1
    have J1 := Lib.hid j1; have J2 := Lib.hid j2; have J3 := Lib.hid j3; have J4 := Lib.hid j4
    have HK := Lib.hid hK
    clear iA hb h1 j1 j2 j3 j4 hK hm Ie i1 i2 i3 i4 i5 sU
    gi_wp2
    have Sy : (((W.setCell ⟨w.heap.size, 0, none⟩ (.slice va rs.length vc)).setCell ⟨w.heap.size + 1, 0, none⟩ (.int .i64 0)).setCell ⟨w.heap.size + 1 + 1, 0, none⟩ (.int .i64 0)).heap[D]? = some (.deferred (some [])) :=
      (KeepsOthers.setCell _ _ _).same D _ ((KeepsOthers.setCell _ _ _).same D _ ((KeepsOthers.setCell _ _ _).same D _ HK.out rfl) rfl) rfl
    have q1 := ag.sL (o' := .deferred none) (((ag.o8 (v := .slice va rs.length vc) J1.out).other (m := w.heap.size + 1) (by omega) 0 (.int .i64 0)).other (m := w.heap.size + 1 + 1) (by omega) 0 (.int .i64 0)) Sy rfl
    have q2 := ag.sL (o' := .deferred none) ((ag.o8 (v := .int .i64 0) (J2.out.other (m := w.heap.size) (by omega) 0 (.slice va rs.length vc))).other (m := w.heap.size + 1 + 1) (by omega) 0 (.int .i64 0)) Sy rfl
    have q3 := ag.sL (o' := .deferred none) (ag.o8 (v := .int .i64 0) ((J3.out.other (m := w.heap.size) (by omega) 0 (.slice va rs.length vc)).other (m := w.heap.size + 1) (by omega) 0 (.int .i64 0))) Sy rfl
    have r1 := q1.one; have r2 := q2.one; have r3 := q3.one
    refine ⟨by simp, .inl ⟨_, _, rfl, run_takeDeferred Sy, ?_⟩⟩
    refine ⟨.tuple #[.slice va rs.length vc, .int .i64 0, .int .i64 0], by simp [results, Tryz.results31, go_sem, r1, r2, r3], ag.JW (k := 0) (rs := rs) (ag.NZ hs H1.out h2) rfl ?_ ?_⟩
    . refine ag.U7 (base := w.heap.size + 5) ?_ (by omega)
      refine ownsRow_putObj (ownsRow_setCell_below (ownsRow_setCell_below (ownsRow_setCell_below Np.out ?_ _) ?_ _) ?_ _) _ Sy rfl
      . show w.heap.size < w.heap.size + 5; omega
      . show w.heap.size + 1 < w.heap.size + 5; omega
      . show w.heap.size + 1 + 1 < w.heap.size + 5; omega
    . exact (((HB.out.setCell (p := ⟨w.heap.size, 0, none⟩) (Nat.le_refl _) _).setCell (p := ⟨w.heap.size + 1, 0, none⟩) (by show w.heap.size <= w.heap.size + 1; omega) _).setCell (p := ⟨w.heap.size + 1 + 1, 0, none⟩) (by show w.heap.size <= w.heap.size + 1 + 1; omega) _).grown (grownBy_putObj' _ D _) (by simp; omega) (fun k e => by cases e; omega)
  case stop =>
    rintro D pre W hD Gj ⟨e, k, h1, h2, h3, h4, j1, j2, j3, gO, hb⟩ hK
    obtain ⟨ys, sx⟩ := Gj
    have q1 := ag.sL (o' := .deferred none) j1 hK rfl
    have q2 := ag.sL (o' := .deferred none) j2 hK rfl
    have q3 := ag.sL (o' := .deferred none) j3 hK rfl
    have r1 := q1.one; have r2 := q2.one; have r3 := q3.one
    have HB := Lib.hid hb; have H4 := Lib.hid (h4 ys sx)
    have HK := Lib.hid hK
    have R1 := Lib.hid r1; have R2 := Lib.hid r2; have R3 := Lib.hid r3
    clear hb h4 j1 j2 j3 hK hm Ie i1 i2 i3 i4 i5 sU sx q1 q2 q3 r1 r2 r3
    gi_wp2
    refine ⟨by simp, .inl ⟨_, _, rfl, run_takeDeferred HK.out, ?_⟩⟩
    refine ⟨.tuple #[.slice none 0 0, .int .i64 k, .int .i64 e], by simp [results, Tryz.results31, go_sem, R1.out, R2.out, R3.out], ag.JW (k := k) (rs := []) (by unfold ag.nP; rw [if_neg (by omega), H4.out]) rfl ⟨rfl, .inl ⟨rfl, rfl⟩⟩ ?_⟩
    exact HB.out.grown (grownBy_putObj' _ D _) (by omega) (fun k e => by cases e; omega)
end Go.Proofs
end
section
set_option maxRecDepth 1000000
namespace Go.Ai
open Go Go.RowKit
theorem Nq {P : Program} {tt : TT} {O : fy} {G : T aK} {C : Cells} {m d f : Nat} {n0 : Pos} {fn : Func} {c : Code} (hm : P.follows .mixedOrders = true) (hT : cG P tt) (hG : GI P tt G)
    (hO : qd P C O) (EV : kO O) (hf : P.funcs[f]? = some fn) (pM : ¬ fn.name = "runtime.NumGoroutine") (hb : fn.body = some c) {b : Bool}
    (h : Eg (R := Bool) false O G m d f [] { heap := .e, next := n0 } (fun v _ => gL v (.bool b)) = true) (w : World) (hC : ∀ ad v, C ad = some v -> w.cell? ad = some v) :
    Calls P f #[] w fun e w' => e = .returned (.bool b) /\ Below w.heap.size w w' := by
  rw [Bm false O G m d] at h
  unfold qW at h
  split at h <;> first | (cases h; done) | skip
  rename_i x hx
  obtain ⟨v, ct⟩ := x
  have hv := uG h
  simp only at hv
  subst hv
  have hr := wF hm hT hO EV hG m d (fun _ => ⟨0, 0, 0⟩) { heap := .e, next := n0 } w f [] (.bool b) ct [] hx (yS hC) ay.nil
  have cH : (callFunc f ([] : List Value).toArray).run P w = .ok (.enter f #[]) w := by simp [callFunc, hf, pM, hb]
  rw [cH] at hr
  refine Calls.mono hr fun e w' he => ?_
  cases e with
  | returned x =>
    obtain ⟨ρ', h1, _, _, _, hE⟩ := he
    have := h1.iz; subst this
    exact ⟨rfl, hE.os, hE.tape, hE.output, hE.size, fun k hk => hE.block k hk fun b x hb => by rw [T.fO] at hb; cases hb⟩
  | panicked c => exact he.elim
  | outgrown => exact he.elim
section
variable {ρ : Pos -> Go.Ai.Loc} {C : Cells} {st : St} {w w' : World}
theorem cw.later (h : cw ρ C st w) (hb : Below w.heap.size w w') : cw ρ C st w' where
  live b x hx := by
    obtain ⟨h1, h2, h3⟩ := h.live b x hx
    exact ⟨h1, Nat.lt_of_lt_of_le h2 hb.size, h3.of_heap (hb.block _ h2)⟩
  inj := h.inj
  fD a v ha := by
    obtain ⟨h1, h2⟩ := h.fD a v ha
    exact ⟨(hb.cell (World.block_lt_of_cell? _ _ h1)).trans h1, h2⟩
theorem ny.later (h : cw ρ C st w) (hb : Below w.heap.size w w') : ny ρ st w ρ st w' := ⟨hb.os, hb.tape, hb.output, hb.size, fun k hk _ => hb.block k hk, fun b x hx => .inl ⟨b, x, hx, rfl⟩⟩
theorem abJ (hW : cw ρ C st w) {x0 : AB} {base size g : Nat} (hb : Below w.heap.size w w') (hg : w.heap.size <= g) (pR : g < w'.heap.size)
    (hB : ∀ ρ' n', (∀ b : Pos, b.toNat < st.next.toNat -> ρ' b = ρ b) -> st.next.toNat <= n' -> mh ρ' n' C ⟨g, base, size⟩ w' x0) :
    ∃ ρ' : Pos -> Go.Ai.Loc, (∀ b : Pos, b.toNat < st.next.toNat -> ρ' b = ρ b) /\ ρ' st.next = ⟨g, base, size⟩ /\ cw ρ' C (st.aN none none (some x0)) w' /\ ny ρ st w ρ' (st.aN none none (some x0)) w' := by
  let ρ' : Pos -> Go.Ai.Loc := fun b => if b = st.next then ⟨g, base, size⟩ else ρ b
  have aY : ∀ b : Pos, b.toNat < st.next.toNat -> ρ' b = ρ b := fun b hb => if_neg (fun e => by rw [e] at hb; omega)
  have fu : ρ' st.next = ⟨g, base, size⟩ := if_pos rfl
  refine ⟨ρ', aY, fu, ?_, ⟨hb.os, hb.tape, hb.output, hb.size, fun k hk _ => hb.block k hk, fun b x hx => ?_⟩⟩
  rotate_left
  . by_cases he : b = st.next
    . right; rw [he, fu]; exact hg
    . left
      simp only [St.aN, zo, w9] at hx
      rw [T.bT _ (fun e => he e.symm)] at hx
      exact ⟨b, x, hx, by rw [aY b (hW.live b x hx).1]⟩
  refine hW.O3 (b0 := st.next) (x0 := x0) (by rw [Pos.aL]; omega) (by rw [Pos.aL]; omega) (by rw [T.fQ]) ?_ aY (by rw [fu]; exact hB _ _ aY (by rw [Pos.aL]; omega)) ?_ (by rw [fu]; exact pR) hb.size (fun k hk _ => hb.block k hk)
  . intro b x hb hx
    simp only [zo, w9] at hx
    rw [T.bT _ (fun e => hb e.symm)] at hx
    refine ⟨hx, ?_⟩
    rw [fu]
    have := (hW.live b x hx).2.1
    simp only; omega
  . intro a v ha
    have := World.block_lt_of_cell? _ _ (hW.fD a v ha).1
    rw [fu]; simp only; omega
end
end Go.Ai
namespace Go.Proofs
open Go Go.Ai Go.RowKit Go.ag Go.Proofs.YtogojkhbplmifaaGreatDoor
def ag.Ev (t : List Nat) : ByteArray := ⟨(t.map UInt8.ofNat).toArray⟩
theorem ag.U8 {t : List Nat} {bs : ByteArray} (h : bs.data.toList.map UInt8.toNat = t) : bs = ag.Ev t := by
  unfold ag.Ev
  rw [<- h, List.map_map]
  have : (UInt8.ofNat ∘ UInt8.toNat) = id := by funext c; simp
  rw [this, List.map_id]
def ag.parseLit (t0 : List Nat) (er i : Int) (n : Nat) (cs : List AV) : List AV -> St -> Option (AV × St) := fun args st =>
  match args with
  | [.str t] => match ia t t0 with
    | true => match n with
      | 0 => some (.tuple [.av, .int .i64 i, .int .i64 er], st)
      | n + 1 => some (.tuple [.slice st.next 0 (n + 1) none 6, .int .i64 i, .int .i64 er], st.aN none none (some (.cells cs 0)))
    | false => none
  | _ => none
theorem ag.Ea {ρ : Pos -> Go.Ai.Loc} {n : Nat} {C : Cells} : ∀ {cs : List AV} {vs : List Value}, cs.mapM rS = some vs -> (∀ v ∈ cs, ∃ k i, v = .int k i \/ ∃ s, v = .str s /\ ∀ c ∈ s, c < 256) -> ay ρ n C cs vs
  | [], vs, h, _ => by simp at h; subst h; exact ay.nil
  | v :: cs, vs, h, hv => by
    simp only [List.mapM_cons, Option.bind_eq_bind, Option.bind_eq_some_iff, Option.pure_def, Option.some.injEq] at h
    obtain ⟨y, hy, zs, hz, rfl⟩ := h
    refine ay.cons ?_ (ag.Ea hz fun v hm => hv v (List.mem_cons_of_mem _ hm))
    obtain ⟨k, i, rfl | ⟨s, rfl, hs⟩⟩ := hv v (List.mem_cons_self ..)
    . simp [rS] at hy; subst hy; exact .int _ _
    . simp only [rS, Option.some.injEq] at hy; subst hy
      refine .str _ _ ?_
      show (s.map UInt8.ofNat).toArray.toList.map UInt8.toNat = s
      simp only [List.map_map]
      conv => rhs; rw [<- List.map_id s]
      refine List.map_congr_left fun c hc => ?_
      have := hs c hc
      simp [UInt8.toNat_ofNat]
      omega
theorem ag.zP {C : Cells} {m : Int} (hC : C ⟨0, 0, none⟩ = some (.int .i64 m)) {t0 : List Nat} {er i : Int} {n k : Nat} {cs : List AV} {rs : List ag.RR} (gO : t0.length <= 65536) (hp : ag.nP (ag.Ev t0) = (er, k, rs)) (hi : i = k) (hn : n = rs.length)
    (fF : cs.mapM rS = some (ag.cellsOf rs)) (hsc : ∀ v ∈ cs, ∃ k i, v = .int k i \/ ∃ s, v = .str s /\ ∀ c ∈ s, c < 256) (hz : n = 0 -> er ≠ 0) : tj Tryz.prog C 31 (ag.parseLit t0 er i n cs) where
  mono args st v st' h := by
    unfold ag.parseLit at h
    split at h <;> first | (cases h; done) | skip
    split at h <;> first | (cases h; done) | skip
    split at h
    . injection h with h; injection h with h1 h2; subst h2; exact Nat.le_refl _
    . injection h with h; injection h with h1 h2; subst h2; exact St.A8 _ _ _ _
  runs ρ st w args v st' cq h hW hv := by
    unfold ag.parseLit at h
    split at h <;> first | (cases h; done) | skip
    rename_i t
    split at h <;> first | (cases h; done) | skip
    rename_i hbq
    have ht : t = t0 := kM.1 hbq
    subst ht
    obtain ⟨x, xs, rfl, h1, h2⟩ := hv.cons_inv
    have := h2.o4; subst this
    obtain ⟨bs, rfl, hs⟩ := h1.dZ
    have nc := ag.U8 hs
    have hm := (hW.fD _ _ hC).1
    have O5 : bs.size <= 65536 := by
      have : bs.data.toList.length = t.length := by rw [<- hs]; simp
      have h3 : bs.size = bs.data.toList.length := by simp
      omega
    have hc := ag.abI ag.line bs m w O5 hm
    have cH : (callFunc 31 ([Value.string bs] : List Value).toArray).run Tryz.prog w = .ok (.enter 31 #[.string bs]) w := enters_of Tryz.func31 (by kernel_rfl) rfl _ _
    rw [cH]
    refine Calls.mono hc fun e w' Qr => ?_
    obtain ⟨v', he, iA, hb, Nn⟩ := Qr
    rw [nc, hp] at he iA Nn
    subst he
    subst hi
    simp only at iA Nn ⊢
    split at h
    . injection h with h; injection h with e1 e2; subst e1; subst e2
      have EK := Nn (hz rfl)
      subst EK
      exact ⟨ρ, .p7 (ay.cons .av (ay.cons (.int _ _) (ay.cons (.int _ _) ay.nil))), fun _ _ => rfl, Nat.le_refl _, hW.later hb, ny.later hW hb⟩
    . rename_i n'
      injection h with h; injection h with e1 e2; subst e1; subst e2
      rcases iA.2 with ⟨_, h0⟩ | ⟨g, cap, cur, rfl, hg, hgb, C4, hcm, hcur, acT⟩
      . omega
      . have hgl := (Array.getElem?_eq_some_iff.1 hgb).1
        have hlen : cs.length = rs.length * 6 := by
          have hvr := ag.Ea (ρ := ρ) (n := 0) (C := C) fF hsc
          rw [hvr.1, ag.IZ]
        obtain ⟨ρ', aY, fu, fV, hE⟩ := abJ (x0 := .cells cs 0) (base := 0) (size := cur.size) hW hb hg hgl (fun ρ' n' _ _ =>
          qb hgb (by rw [hlen, hcur]; exact Nat.mul_le_mul_right _ C4) (by rw [hlen, acT]; exact ag.Ea fF hsc) (fun i _ => by simp))
        refine ⟨ρ', .p7 (ay.cons ?_ (ay.cons (.int _ _) (ay.cons (.int _ _) ay.nil))), aY, St.A8 _ _ _ _, fV, hE⟩
        have acU : n' + 1 <= cap := by omega
        rw [<- hn]
        exact vt (by simp [St.aN, Pos.aL]) fu acU (fun c hc => by cases hc) (by rw [hcur]; exact Nat.le_refl _)
noncomputable def ag.P1 : List AV -> St -> Option (AV × St) := ag.parseLit [104, 97, 114, 100, 32, 97, 112, 97, 114, 116, 32, 97, 110, 110, 97, 32, 98, 111, 114, 105, 115, 32, 50, 10, 119, 101, 105, 103, 104, 32, 53, 32, 104, 111, 110, 111, 117, 114, 32, 45, 10] 0 0 2 [.int .u8 1, .int .i64 0, .str [97, 110, 110, 97], .str [98, 111, 114, 105, 115], .str [], .int .i64 2, .int .u8 14, .int .i64 5, .str [], .str [], .str [], .int .i64 0]
noncomputable def ag.P2 : List AV -> St -> Option (AV × St) := ag.parseLit [119, 101, 105, 103, 104, 32, 48, 32, 109, 105, 120, 32, 45, 10] 41 0 0 []
noncomputable def ag.P3 : List AV -> St -> Option (AV × St) := ag.parseLit [104, 97, 114, 100, 32, 97, 116, 32, 97, 110, 110, 97, 32, 45, 10] 4 0 0 []
theorem ag.acV : ag.nP (ag.Ev [104, 97, 114, 100, 32, 97, 112, 97, 114, 116, 32, 97, 110, 110, 97, 32, 98, 111, 114, 105, 115, 32, 50, 10, 119, 101, 105, 103, 104, 32, 53, 32, 104, 111, 110, 111, 117, 114, 32, 45, 10]) = (0, 0, [⟨1, 0, ⟨#[97, 110, 110, 97]⟩, ⟨#[98, 111, 114, 105, 115]⟩, ⟨#[]⟩, 2⟩, ⟨14, 5, ⟨#[]⟩, ⟨#[]⟩, ⟨#[]⟩, 0⟩]) := by kernel_rfl
theorem ag.acW : ag.nP (ag.Ev [119, 101, 105, 103, 104, 32, 48, 32, 109, 105, 120, 32, 45, 10]) = (41, 0, []) := by kernel_rfl
theorem ag.acX : ag.nP (ag.Ev [104, 97, 114, 100, 32, 97, 116, 32, 97, 110, 110, 97, 32, 45, 10]) = (4, 0, []) := by kernel_rfl
theorem ag.Qd {k : IntKind} {i : Int} : ∃ k' i', (AV.int k i) = .int k' i' \/ ∃ s, (AV.int k i) = .str s /\ ∀ c ∈ s, c < 256 := ⟨k, i, .inl rfl⟩
theorem ag.Qe {s : List Nat} (h : s.all (fun c => decide (c < 256)) = true) : ∃ k' i', (AV.str s) = .int k' i' \/ ∃ s', (AV.str s) = .str s' /\ ∀ c ∈ s', c < 256 := ⟨.i64, 0, .inr ⟨s, rfl, fun c hc => by have := List.all_eq_true.1 h c hc; simpa using this⟩⟩
theorem ag.acY {C : Cells} {m : Int} (hC : C ⟨0, 0, none⟩ = some (.int .i64 m)) : tj Tryz.prog C 31 ag.P1 :=
  ag.zP hC (by decide) ag.acV rfl rfl (by rfl) (by
    intro v hv
    simp only [List.mem_cons, List.not_mem_nil, or_false] at hv
    rcases hv with rfl | rfl | rfl | rfl | rfl | rfl | rfl | rfl | rfl | rfl | rfl | rfl <;> first | exact ag.Qd | exact ag.Qe (by decide)) (by decide)
theorem ag.acZ {C : Cells} {m : Int} (hC : C ⟨0, 0, none⟩ = some (.int .i64 m)) : tj Tryz.prog C 31 ag.P2 := ag.zP hC (by decide) ag.acW rfl rfl rfl (by simp) (by decide)
theorem ag.ac0 {C : Cells} {m : Int} (hC : C ⟨0, 0, none⟩ = some (.int .i64 m)) : tj Tryz.prog C 31 ag.P3 := ag.zP hC (by decide) ag.acX rfl rfl rfl (by simp) (by decide)
noncomputable def ag.orcA : fy := tq [(302, vP), (26, GY (Bp Er) (Bp Es)), (31, GY ag.P1 (GY ag.P2 ag.P3))]
noncomputable def ag.chkA : Bool := Eg (R := Bool) false ag.orcA gg 100000 60 11 [] { heap := .e, next := .o (.i (.o (.i (.o (.i (.o (.i (.o .h)))))))) } fun v _ => gL v (.bool true)
theorem ag.Sz : ag.chkA = true := by kernel_rfl
theorem ag.G8 {C : Cells} : tj Tryz.prog C 302 vP := S6 (fn := Tryz.f302) Tryz.func302 (by kernel_rfl) (by kernel_rfl) (by kernel_rfl) (by kernel_rfl)
theorem ag.ZO {C : Cells} : tj Tryz.prog C 26 (Bp Er) := by
  have ho := xD (P := Tryz.prog) (C := C) (l := [(302, vP)]) (fun x hx => by simp at hx; subst hx; exact ag.G8)
  exact Lt (O := VL) (G := gg) (m := 100000) (d := 60) (wF (by kernel_rfl) G9 ho.1 ho.2 He _ _) (wD ho.2 _ _) aav acv
theorem ag.ZP {C : Cells} : tj Tryz.prog C 26 (Bp Es) := by
  have ho := xD (P := Tryz.prog) (C := C) (l := [(302, vP)]) (fun x hx => by simp at hx; subst hx; exact ag.G8)
  exact Lt (O := VM) (G := gg) (m := 100000) (d := 60) (wF (by kernel_rfl) G9 ho.1 ho.2 He _ _) (wD ho.2 _ _) aaw acw
noncomputable def ag.Ih (m : Int) : Cells := fun ad => open Classical in if ad = ⟨0, 0, none⟩ then some (.int .i64 m) else none
theorem ag.aaj (m : Int) (w : World) (hm : w.cell? ⟨0, 0, none⟩ = some (.int .i64 m)) : Calls Tryz.prog 11 #[] w fun e w' => e = .returned (.bool true) /\ Below w.heap.size w w' := by
  have hC : ag.Ih m ⟨0, 0, none⟩ = some (.int .i64 m) := by unfold ag.Ih; rw [if_pos rfl]
  have ho := xD (P := Tryz.prog) (C := ag.Ih m) (l := [(302, vP), (26, GY (Bp Er) (Bp Es)), (31, GY ag.P1 (GY ag.P2 ag.P3))]) (fun x hx => by
    simp only [List.mem_cons, List.not_mem_nil, or_false] at hx
    rcases hx with rfl | rfl | rfl
    . exact ag.G8
    . exact Lu ag.ZO ag.ZP
    . exact Lu (ag.acY hC) (Lu (ag.acZ hC) (ag.ac0 hC)))
  exact Nq (by kernel_rfl) G9 He ho.1 ho.2 (fn := Tryz.f11) (c := Tryz.f11.body.get rfl) Tryz.func11 (by decide) rfl ag.Sz w (fun ad v h => by
    unfold ag.Ih at h
    split at h
    . rename_i e; subst e; injection h with h; subst h; exact hm
    . cases h)
end Go.Proofs
end
