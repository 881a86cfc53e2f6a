/- The reference's line at its third shape. -/
import Derived.Test.YtcjaejohbhmjhaaGreatDoorWalkD
set_option linter.all false
set_option linter.unusedSectionVars false
set_option linter.deprecated false
section
namespace Go.Proofs
open Go.RowKit Go.Trw

set_option maxRecDepth 100000 in
set_option maxHeartbeats 40000000 in
theorem Trw.rl_h2 (u : Nat → ByteArray) (B n cap : Nat) (w : World) (hB : B < w.heap.size) (hc : ∀ i, i < n → w.cell? ⟨B, i, none⟩ = some (.string (u i))) (h1 : 1 < n) (h2 : n ≤ cap) (h3 : cap ≤ maxLen) (hu : ∀ i, i < n → (u i).size ≤ maxLen)
    (hacc : Trw.accB true u n = true) (hh : (u 0).toList = [104, 97, 114, 100]) (hs : kindOf (u 1).data.toList ≠ 0 ∧ faI (kindOf (u 1).data.toList) = 103 ∧ fbB (kindOf (u 1).data.toList) = false ∧ ftI (kindOf (u 1).data.toList) = 116 ∧ fnB (kindOf (u 1).data.toList) = false) :
    Calls Tryz.prog 26 #[.slice (some ⟨B, 0, none⟩) n cap] w (Trw.rlineP u n w) := by
  unfold maxLen at h3
  have hline := Trw.line_hard u n hacc hh h1
  have hh1 : ((u 0).toList == [104, 97, 114, 100]) = true := by simpa using hh
  have hh2 : ((u 0).toList == [119, 101, 105, 103, 104]) = false := by rw [hh]; decide
  have HU := Lib.hid hu; clear hu
  have HA := Lib.hid hacc; clear hacc
  have c0 := hc 0 (by omega)
  have HH := Lib.hid hh; clear hh
  have HC := Lib.hid hc; clear hc
  obtain ⟨K, hK⟩ : ∃ K, K = kindOf (u 1).data.toList := ⟨_, rfl⟩
  rw [← hK] at hline hs
  have hKl : K ≤ 18 := by rw [hK]; exact kindOf_le _
  obtain ⟨hs0, hsa, hsb, hst, hsn⟩ := hs
  have hsx := Trw.shape2_2 K hKl hs0 hsa hsb hst hsn
  rw [hsa, hsb, hst, hsn] at hline
  have HL := Lib.hid hline; clear hline
  have H0 := Lib.hid hs0
  have HK := Lib.hid hK; clear hK
  have HSX := Lib.hid hsx; have HSB := Lib.hid hsb; have HSN := Lib.hid hsn
  have HW := Lib.hid (Trw.word_ne K hKl hs0)
  clear hsx hsa hsb hst hsn hs0
  go_enter Tryz.func26, Tryz.ntmps26
  go_wp2 
  go_loopw [8] (fun k wr => ∃ j : Nat, 1 ≤ j ∧ j ≤ 19 ∧ k = .int .i64 j ∧ Trw.rlineI w K 0 j wr) (fun k _ => 19 - (intOf k).toNat)
  case atStart => exact ⟨1, Nat.le_refl _, by omega, rfl, Trw.rlineI_start 0 K w⟩
  case round =>
    obtain ⟨j, hj1, hj2, rfl, i1, i2, hb⟩ := hrel
    have I1 := Lib.hid i1; have I2 := Lib.hid i2; have HB := Lib.hid hb
    have l1 := i1.lt
    have l2 := i2.lt
    have x1 := (HB.out.cell (p := ⟨B, 1, none⟩) hB).trans (HC.out 1 (by omega))
    have hBr : B < wr.heap.size := Nat.lt_of_lt_of_le hB HB.out.size
    clear i1 i2 hb c0
    by_cases hj : j ≤ 18
    · have hwr : IntKind.u8.wrap (j : Int) = j := IntWalk.u8_in _ (by omega)
      have hj0 : (0 : Int) ≤ j := by omega
      have x1d : wr.drew.cell? ⟨B, 1, none⟩ = some (.string (u 1)) := x1
      have hbd : Below wr.heap.size wr wr.drew := (Below.refl _ _).drew
      go_wp2
      go_region_held3 (fun w' => w'.cell? ⟨B, 1, none⟩ = some (.string (u 1)) ∧ Below wr.heap.size wr w') (first | (refine ⟨?_, ?_⟩ <;> assumption) | (refine Trw.S_after ?_ ?_ hb1 hBr <;> assumption))
        (first | (go_at_call 76; refine (Trw.word76 _ j hj).mono ?_; rintro e w1 ⟨rfl, hb1⟩))
      have hH : Below wr.heap.size wr w1 := And.right (by assumption)
      have HBN := Lib.hid (HB.out.trans (hH.mono HB.out.size))
      have i1 := I1.out.below hH l1
      have i2 := I2.out.below hH l2
      obtain ⟨a0, a1, a2, a3, a4, a5⟩ := i2.six
      have f2 := i2.frozen
      have J1 := Lib.hid i1; have J2 := Lib.hid i2
      clear i1 i2 hH hbd x1d x1 hb1
      go_wp2
      · have heq : ((wordB j).toList == (u 1).toList) = true := by assumption
        have HQ : Hid (K = j) := Lib.hid (by rw [HK.out]; exact Trw.kind_hit hj1 hj heq)
        go_roundw
        case rel => exact ⟨j + 1, by omega, by omega, by go_num, Trw.rlineI_hit HQ.out J1.out J2.out HBN.out (by omega)⟩
        case measure => simp [intOf]; omega
      · have heq' : ((wordB j).toList == (u 1).toList) = false := by assumption
        have HQ : Hid (K ≠ j) := Lib.hid (by rw [HK.out]; exact Trw.kind_miss hj1 heq')
        go_roundw
        case rel => exact ⟨j + 1, by omega, by omega, by go_num, Trw.rlineI_miss HQ.out J1.out J2.out HBN.out⟩
        case measure => simp [intOf]; omega
    · obtain rfl : j = 19 := by omega
      rw [Trw.selJ_end K hKl] at I2
      obtain ⟨hsx1, hsx2, hsx3, hsx4⟩ := HSX.out
      have hsb := HSB.out
      have hsn := HSN.out
      have hw1 : ¬ (wordB K).toList = [] := by rw [Lib.toList_data]; exact HW.out
      have hw2 : (!(wordB K).toList.isEmpty) = true := by simpa using hw1
      have hw3 : (wordB K).toList.isEmpty = false := by simpa using hw1
      obtain ⟨a0, a1, a2, a3, a4, a5⟩ := I2.out.six
      by_cases hlen : n = 4
      rotate_left
      · have hd : (((n - 2 : Nat) : Int) != 2) = true := by rw [bne_iff_ne]; omega
        have hd2 : ¬ n - 1 = 3 := by omega
        go_wp2_with (first | (go_at_call 76; refine (Trw.word76 _ K hKl).mono ?_; rintro e w2 ⟨rfl, hb2⟩; have K1 := I1.out.below hb2 l1; have K2 := I2.out.below hb2 l2; obtain ⟨b0, b1, b2, b3, b4, b5⟩ := K2.six; obtain ⟨e0, e1, e2, e3, e4, e5⟩ := K1.six; have f1 := K1.frozen; have f2 := K2.frozen; have m1 := K1.lt; have m2 := K2.lt; have HB2 := Lib.hid (HB.out.trans (hb2.mono HB.out.size)); have LL1 := Lib.hid K1; have LL2 := Lib.hid K2;  clear K1 K2 hb2) | (go_at_call 77; refine (Trw.two77 _ K hKl).mono ?_; rintro e w' ⟨rfl, rfl⟩) | (go_at_call 78; refine (Trw.one78 _ K hKl).mono ?_; rintro e w' ⟨rfl, rfl⟩) | (go_at_call 79; refine (Trw.tables79 _ K hKl).mono ?_; rintro e w' ⟨rfl, rfl⟩) | (go_at_call 80; refine (Trw.number80 _ K hKl).mono ?_; rintro e w' ⟨rfl, rfl⟩))
        all_goals (refine bodyPost_ret (v := .tuple #[.agg #[.int .u8 K, .int .i64 0, .string ⟨#[]⟩, .string ⟨#[]⟩, .string ⟨#[]⟩, .int .i64 0], .int .i64 3]) (by simp [results, Tryz.results26, go_sem, *]) rfl (Trw.rlineP_err (e0 := 3) (by rw [HL.out]; simp [Trw.tailS, H0.out, hd2]) rfl ?_); (repeat (first | (with_reducible refine Below.setCell ?_ (by first | (simp; done) | (simp; omega)) _) | (with_reducible refine Below.alloc ?_ (by first | omega | (simp; done) | (simp; omega)) _) | (with_reducible refine Trw.below_drewN ?_ _) | (with_reducible exact HB2.out))))
      · subst hlen
        have hcp : ¬ cap = 2 := by omega
        go_wp2_with (first | (go_at_call 76; refine (Trw.word76 _ K hKl).mono ?_; rintro e w2 ⟨rfl, hb2⟩; have K1 := I1.out.below hb2 l1; have K2 := I2.out.below hb2 l2; obtain ⟨b0, b1, b2, b3, b4, b5⟩ := K2.six; obtain ⟨e0, e1, e2, e3, e4, e5⟩ := K1.six; have f1 := K1.frozen; have f2 := K2.frozen; have m1 := K1.lt; have m2 := K2.lt; have HB2 := Lib.hid (HB.out.trans (hb2.mono HB.out.size)); have LL1 := Lib.hid K1; have LL2 := Lib.hid K2; have y2 := (HB2.out.cell (p := ⟨B, 2, none⟩) hB).trans (HC.out 2 (by omega)); have y3 := (HB2.out.cell (p := ⟨B, 3, none⟩) hB).trans (HC.out 3 (by omega));  clear K1 K2 hb2) | (go_at_call 77; refine (Trw.two77 _ K hKl).mono ?_; rintro e w' ⟨rfl, rfl⟩) | (go_at_call 78; refine (Trw.one78 _ K hKl).mono ?_; rintro e w' ⟨rfl, rfl⟩) | (go_at_call 79; refine (Trw.tables79 _ K hKl).mono ?_; rintro e w' ⟨rfl, rfl⟩) | (go_at_call 80; refine (Trw.number80 _ K hKl).mono ?_; rintro e w' ⟨rfl, rfl⟩))
        go_loopw [10, 15] (fun v i wr => ∃ j : Nat, j ≤ 2 ∧ i = .int .i64 j ∧ Trw.nmI w [.string (nmS (u 2) false), .string (nmS (u 3) false)] [Trw.nmOk (u 2) false, Trw.nmOk (u 3) false] #[.int .u8 K, .int .i64 0, .string ⟨#[]⟩, .string ⟨#[]⟩, .string ⟨#[]⟩, .int .i64 0] j v wr) (fun _ i _ => 2 - (intOf i).toNat)
        case atStart => exact ⟨0, Nat.zero_le _, rfl, ⟨none, 0, rfl⟩, ⟨rfl, .inl ⟨rfl, rfl⟩⟩, rfl, LL1.out, LL2.out, by first | omega | (simp; omega), HB2.out⟩
        case round =>
          obtain ⟨j, hj, rfl, ⟨va, vc, rfl⟩, hrow, hok, i1, i2, hsz, hb⟩ := hrel
          obtain ⟨i0, z, hi0, hz0, hz1, hz2, hz3⟩ := Trw.info9
          obtain ⟨a0, a1, a2, a3, a4, a5⟩ := i2.six
          obtain ⟨q0, q1, q2, q3, q4, q5⟩ := i1.six
          have f1 := i1.frozen
          have f2 := i2.frozen
          have m1 := i1.lt
          have m2 := i2.lt
          have z2 := (hb.cell (p := ⟨B, 2, none⟩) hB).trans (HC.out 2 (by omega))
          have z3 := (hb.cell (p := ⟨B, 3, none⟩) hB).trans (HC.out 3 (by omega))
          have g2 := HU.out 2 (by omega)
          have g3 := HU.out 3 (by omega)
          have I1 := Lib.hid i1; have I2 := Lib.hid i2; have HBX := Lib.hid hb; have HRW := Lib.hid hrow; have HOK := Lib.hid hok
          clear i1 i2 hb hrow hok
          obtain rfl | rfl | rfl : j = 0 ∨ j = 1 ∨ j = 2 := by omega
          · rcases Trw.bcases (Trw.nmDash2 (u 2)) with hd | hd
            · have hdx : ((u 2).toList == [45]) = true := hd
              rcases Trw.bcases (nameOk (u 2).data.toList) with hnm | hnm
              · skip
                go_wp2_with (first | (go_at_call 79; refine (Trw.tables79 _ K hKl).mono ?_; rintro e w' ⟨rfl, rfl⟩) | (go_at_call 81; refine (Trw.name81 (u 2) _ g2).mono ?_; rintro e w' ⟨rfl, rfl⟩) | (at_builtin; refine wpList_append_own _ rfl _ _ 65 rfl (w.heap.size + 2) 9 i0 z 1 16 Tryz.underlying65 hi0 hz0 hz1 hz2 hz3 (by decide) _ 0 (List.take 0 [.string (nmS (u 2) false), .string (nmS (u 3) false)]) rfl (HRW.out.alloc _) ⟨wr.heap.size, 0, none⟩ 1 1 [.string (u 2)] rfl rfl (cell_one_new _ _ _) (by simp [Value.oneCell']) (by decide) (by decide) (by simp; omega) ?_; intro v' w5 hown' hgrow hnil; clear hnil; have HO := Lib.hid hown'; have HG := Lib.hid hgrow; clear hown' hgrow) | go_in)
                obtain ⟨g', cap', rfl⟩ := ownsRow_succ HO.out
                go_roundw
                case rel => exact ⟨1, by omega, by go_num, Trw.nmI_step (x := (u 2)) (ok := true) HRW.out HO.out HG.out HOK.out I1.out I2.out hsz HBX.out rfl (by simp [nmS, Trw.nmOk, nmDash, hnm] <;> rfl) rfl (by simp [nmS, Trw.nmOk, nmDash, hnm])⟩
                case measure => simp [intOf]
              · have hbad : Trw.nmOk (u 2) false = false := by simp [Trw.nmOk, nmDash, hnm]
                go_wp2_with (first | (go_at_call 79; refine (Trw.tables79 _ K hKl).mono ?_; rintro e w' ⟨rfl, rfl⟩) | (go_at_call 81; refine (Trw.name81 (u 2) _ g2).mono ?_; rintro e w' ⟨rfl, rfl⟩) | go_in)
                all_goals (refine bodyPost_ret (v := .tuple #[.agg #[.int .u8 K, .int .i64 0, .string ⟨#[]⟩, .string ⟨#[]⟩, .string ⟨#[]⟩, .int .i64 0], .int .i64 4]) (by simp [results, Tryz.results26, go_sem, *]) rfl (Trw.rlineP_err (e0 := 4) (by rw [HL.out]; simp [Trw.tailS, H0.out, hbad, H0.out]) rfl ?_); (repeat (first | (with_reducible refine Below.setCell ?_ (by first | (simp; done) | (simp; omega)) _) | (with_reducible refine Below.alloc ?_ (by first | omega | (simp; done) | (simp; omega)) _) | (with_reducible refine Trw.below_drewN ?_ _) | (with_reducible exact HBX.out))))
            · have hdx : ((u 2).toList == [45]) = false := hd
              rcases Trw.bcases (nameOk (u 2).data.toList) with hnm | hnm
              · skip
                go_wp2_with (first | (go_at_call 79; refine (Trw.tables79 _ K hKl).mono ?_; rintro e w' ⟨rfl, rfl⟩) | (go_at_call 81; refine (Trw.name81 (u 2) _ g2).mono ?_; rintro e w' ⟨rfl, rfl⟩) | (at_builtin; refine wpList_append_own _ rfl _ _ 65 rfl (w.heap.size + 2) 9 i0 z 1 16 Tryz.underlying65 hi0 hz0 hz1 hz2 hz3 (by decide) _ 0 (List.take 0 [.string (nmS (u 2) false), .string (nmS (u 3) false)]) rfl (HRW.out.alloc _) ⟨wr.heap.size, 0, none⟩ 1 1 [.string (u 2)] rfl rfl (cell_one_new _ _ _) (by simp [Value.oneCell']) (by decide) (by decide) (by simp; omega) ?_; intro v' w5 hown' hgrow hnil; clear hnil; have HO := Lib.hid hown'; have HG := Lib.hid hgrow; clear hown' hgrow) | go_in)
                obtain ⟨g', cap', rfl⟩ := ownsRow_succ HO.out
                go_roundw
                case rel => exact ⟨1, by omega, by go_num, Trw.nmI_step (x := (u 2)) (ok := true) HRW.out HO.out HG.out HOK.out I1.out I2.out hsz HBX.out rfl (by simp [nmS, Trw.nmOk, nmDash, hnm] <;> rfl) rfl (by simp [nmS, Trw.nmOk, nmDash, hnm])⟩
                case measure => simp [intOf]
              · have hbad : Trw.nmOk (u 2) false = false := by simp [Trw.nmOk, nmDash, hnm]
                go_wp2_with (first | (go_at_call 79; refine (Trw.tables79 _ K hKl).mono ?_; rintro e w' ⟨rfl, rfl⟩) | (go_at_call 81; refine (Trw.name81 (u 2) _ g2).mono ?_; rintro e w' ⟨rfl, rfl⟩) | go_in)
                all_goals (refine bodyPost_ret (v := .tuple #[.agg #[.int .u8 K, .int .i64 0, .string ⟨#[]⟩, .string ⟨#[]⟩, .string ⟨#[]⟩, .int .i64 0], .int .i64 4]) (by simp [results, Tryz.results26, go_sem, *]) rfl (Trw.rlineP_err (e0 := 4) (by rw [HL.out]; simp [Trw.tailS, H0.out, hbad, H0.out]) rfl ?_); (repeat (first | (with_reducible refine Below.setCell ?_ (by first | (simp; done) | (simp; omega)) _) | (with_reducible refine Below.alloc ?_ (by first | omega | (simp; done) | (simp; omega)) _) | (with_reducible refine Trw.below_drewN ?_ _) | (with_reducible exact HBX.out))))
          · rcases Trw.bcases (Trw.nmDash2 (u 3)) with hd | hd
            · have hdx : ((u 3).toList == [45]) = true := hd
              rcases Trw.bcases (nameOk (u 3).data.toList) with hnm | hnm
              · skip
                go_wp2_with (first | (go_at_call 79; refine (Trw.tables79 _ K hKl).mono ?_; rintro e w' ⟨rfl, rfl⟩) | (go_at_call 81; refine (Trw.name81 (u 3) _ g3).mono ?_; rintro e w' ⟨rfl, rfl⟩) | (at_builtin; refine wpList_append_own _ rfl _ _ 65 rfl (w.heap.size + 2) 9 i0 z 1 16 Tryz.underlying65 hi0 hz0 hz1 hz2 hz3 (by decide) _ 1 (List.take 1 [.string (nmS (u 2) false), .string (nmS (u 3) false)]) rfl (HRW.out.alloc _) ⟨wr.heap.size, 0, none⟩ 1 1 [.string (u 3)] rfl rfl (cell_one_new _ _ _) (by simp [Value.oneCell']) (by decide) (by decide) (by simp; omega) ?_; intro v' w5 hown' hgrow hnil; clear hnil; have HO := Lib.hid hown'; have HG := Lib.hid hgrow; clear hown' hgrow) | go_in)
                obtain ⟨g', cap', rfl⟩ := ownsRow_succ HO.out
                go_roundw
                case rel => exact ⟨2, by omega, by go_num, Trw.nmI_step (x := (u 3)) (ok := true) HRW.out HO.out HG.out HOK.out I1.out I2.out hsz HBX.out rfl (by simp [nmS, Trw.nmOk, nmDash, hnm] <;> rfl) rfl (by simp [nmS, Trw.nmOk, nmDash, hnm])⟩
                case measure => simp [intOf]
              · have hbad : Trw.nmOk (u 3) false = false := by simp [Trw.nmOk, nmDash, hnm]
                go_wp2_with (first | (go_at_call 79; refine (Trw.tables79 _ K hKl).mono ?_; rintro e w' ⟨rfl, rfl⟩) | (go_at_call 81; refine (Trw.name81 (u 3) _ g3).mono ?_; rintro e w' ⟨rfl, rfl⟩) | go_in)
                all_goals (refine bodyPost_ret (v := .tuple #[.agg #[.int .u8 K, .int .i64 0, .string ⟨#[]⟩, .string ⟨#[]⟩, .string ⟨#[]⟩, .int .i64 0], .int .i64 4]) (by simp [results, Tryz.results26, go_sem, *]) rfl (Trw.rlineP_err (e0 := 4) (by rw [HL.out]; simp [Trw.tailS, H0.out, hbad, H0.out]) rfl ?_); (repeat (first | (with_reducible refine Below.setCell ?_ (by first | (simp; done) | (simp; omega)) _) | (with_reducible refine Below.alloc ?_ (by first | omega | (simp; done) | (simp; omega)) _) | (with_reducible refine Trw.below_drewN ?_ _) | (with_reducible exact HBX.out))))
            · have hdx : ((u 3).toList == [45]) = false := hd
              rcases Trw.bcases (nameOk (u 3).data.toList) with hnm | hnm
              · skip
                go_wp2_with (first | (go_at_call 79; refine (Trw.tables79 _ K hKl).mono ?_; rintro e w' ⟨rfl, rfl⟩) | (go_at_call 81; refine (Trw.name81 (u 3) _ g3).mono ?_; rintro e w' ⟨rfl, rfl⟩) | (at_builtin; refine wpList_append_own _ rfl _ _ 65 rfl (w.heap.size + 2) 9 i0 z 1 16 Tryz.underlying65 hi0 hz0 hz1 hz2 hz3 (by decide) _ 1 (List.take 1 [.string (nmS (u 2) false), .string (nmS (u 3) false)]) rfl (HRW.out.alloc _) ⟨wr.heap.size, 0, none⟩ 1 1 [.string (u 3)] rfl rfl (cell_one_new _ _ _) (by simp [Value.oneCell']) (by decide) (by decide) (by simp; omega) ?_; intro v' w5 hown' hgrow hnil; clear hnil; have HO := Lib.hid hown'; have HG := Lib.hid hgrow; clear hown' hgrow) | go_in)
                obtain ⟨g', cap', rfl⟩ := ownsRow_succ HO.out
                go_roundw
                case rel => exact ⟨2, by omega, by go_num, Trw.nmI_step (x := (u 3)) (ok := true) HRW.out HO.out HG.out HOK.out I1.out I2.out hsz HBX.out rfl (by simp [nmS, Trw.nmOk, nmDash, hnm] <;> rfl) rfl (by simp [nmS, Trw.nmOk, nmDash, hnm])⟩
                case measure => simp [intOf]
              · have hbad : Trw.nmOk (u 3) false = false := by simp [Trw.nmOk, nmDash, hnm]
                go_wp2_with (first | (go_at_call 79; refine (Trw.tables79 _ K hKl).mono ?_; rintro e w' ⟨rfl, rfl⟩) | (go_at_call 81; refine (Trw.name81 (u 3) _ g3).mono ?_; rintro e w' ⟨rfl, rfl⟩) | go_in)
                all_goals (refine bodyPost_ret (v := .tuple #[.agg #[.int .u8 K, .int .i64 0, .string ⟨#[]⟩, .string ⟨#[]⟩, .string ⟨#[]⟩, .int .i64 0], .int .i64 4]) (by simp [results, Tryz.results26, go_sem, *]) rfl (Trw.rlineP_err (e0 := 4) (by rw [HL.out]; simp [Trw.tailS, H0.out, hbad, H0.out]) rfl ?_); (repeat (first | (with_reducible refine Below.setCell ?_ (by first | (simp; done) | (simp; omega)) _) | (with_reducible refine Below.alloc ?_ (by first | omega | (simp; done) | (simp; omega)) _) | (with_reducible refine Trw.below_drewN ?_ _) | (with_reducible exact HBX.out))))
          · obtain ⟨g', cap', hv⟩ := ownsRow_succ (k := 1) HRW.out
            injection hv with hva hvb hvc
            clear hvb hvc
            subst hva
            have n0 := Trw.row1_cell HRW.out 0 _ rfl
            have n1 := Trw.row1_cell HRW.out 1 _ rfl
            have hgn : w.heap.size + 2 ≤ g' := Trw.own_base HRW.out _ rfl
            have ho0 : Trw.nmOk (u 2) false = true := Trw.oks HOK.out _ (by simp)
            have ho1 : Trw.nmOk (u 3) false = true := Trw.oks HOK.out _ (by simp)
            go_wp2_with (first | (go_at_call 79; refine (Trw.tables79 _ K hKl).mono ?_; rintro e w' ⟨rfl, rfl⟩) | go_in)
            all_goals (refine bodyPost_ret (v := .tuple #[.agg #[.int .u8 K, .int .i64 0, .string (nmS (u 2) false), .string ⟨#[]⟩, .string (nmS (u 3) false), .int .i64 0], .int .i64 0]) (by simp [results, Tryz.results26, go_sem, *]) rfl (Trw.rlineP_ok (by rw [HL.out]; simp [Trw.tailS, H0.out, H0.out, ho0, ho1]; rfl) rfl ?_); (repeat (first | (with_reducible refine Below.setCell ?_ (by first | (simp; done) | (simp; omega)) _) | (with_reducible refine Below.alloc ?_ (by first | omega | (simp; done) | (simp; omega)) _) | (with_reducible refine Trw.below_drewN ?_ _) | (with_reducible exact HBX.out))))

end Go.Proofs
end

section
namespace Go.Proofs
open Go.RowKit Go.Trw

set_option maxRecDepth 100000 in
set_option maxHeartbeats 40000000 in
theorem Trw.rl_w2 (u : Nat → ByteArray) (B n cap : Nat) (w : World) (hB : B < w.heap.size) (hc : ∀ i, i < n → w.cell? ⟨B, i, none⟩ = some (.string (u i))) (h1 : 2 < n) (h2 : n ≤ cap) (h3 : cap ≤ maxLen) (hu : ∀ i, i < n → (u i).size ≤ maxLen)
    (hacc : Trw.accB true u n = true) (hh : (u 0).toList = [119, 101, 105, 103, 104]) (hnum1 : numOk (u 1).data.toList = true) (hs : kindOf (u 2).data.toList ≠ 0 ∧ faI (kindOf (u 2).data.toList) = 103 ∧ fbB (kindOf (u 2).data.toList) = false ∧ ftI (kindOf (u 2).data.toList) = 116 ∧ fnB (kindOf (u 2).data.toList) = false) :
    Calls Tryz.prog 26 #[.slice (some ⟨B, 0, none⟩) n cap] w (Trw.rlineP u n w) := by
  unfold maxLen at h3
  have hline := Trw.line_weigh u n hacc hh h1 hnum1
  have hh2 : ((u 0).toList == [119, 101, 105, 103, 104]) = true := by simpa using hh
  obtain ⟨nv, hnv⟩ : ∃ nv, nv = numV (u 1).data.toList := ⟨_, rfl⟩
  have hnr := Trw.numV_range (u 1).data.toList
  have hnum0 := Trw.num75 (u 1)
  rw [← hnv] at hline hnr hnum0
  obtain ⟨hnr1, hnr2⟩ := hnr
  have HNV := Lib.hid hnv; clear hnv
  have HNU := Lib.hid hnum0; clear hnum0
  have gw := hu 1 (by omega)
  have cw := hc 1 (by omega)
  have HU := Lib.hid hu; clear hu
  have HA := Lib.hid hacc; clear hacc
  have c0 := hc 0 (by omega)
  have HH := Lib.hid hh; clear hh
  have HC := Lib.hid hc; clear hc
  obtain ⟨K, hK⟩ : ∃ K, K = kindOf (u 2).data.toList := ⟨_, rfl⟩
  rw [← hK] at hline hs
  have hKl : K ≤ 18 := by rw [hK]; exact kindOf_le _
  obtain ⟨hs0, hsa, hsb, hst, hsn⟩ := hs
  have hsx := Trw.shape2_2 K hKl hs0 hsa hsb hst hsn
  rw [hsa, hsb, hst, hsn] at hline
  have HL := Lib.hid hline; clear hline
  have H0 := Lib.hid hs0
  have HK := Lib.hid hK; clear hK
  have HSX := Lib.hid hsx; have HSB := Lib.hid hsb; have HSN := Lib.hid hsn
  have HW := Lib.hid (Trw.word_ne K hKl hs0)
  clear hsx hsa hsb hst hsn hs0
  go_enter Tryz.func26, Tryz.ntmps26
  go_wp2_with (first | (go_at_call 75; refine (HNU.out _ gw).mono ?_; rintro e w' ⟨rfl, rfl⟩) | go_in)
  go_loopw [8] (fun k wr => ∃ j : Nat, 1 ≤ j ∧ j ≤ 19 ∧ k = .int .i64 j ∧ Trw.rlineI w K nv j wr) (fun k _ => 19 - (intOf k).toNat)
  case atStart => exact ⟨1, Nat.le_refl _, by omega, rfl, Trw.rlineI_start nv K w⟩
  case round =>
    obtain ⟨j, hj1, hj2, rfl, i1, i2, hb⟩ := hrel
    have I1 := Lib.hid i1; have I2 := Lib.hid i2; have HB := Lib.hid hb
    have l1 := i1.lt
    have l2 := i2.lt
    have x1 := (HB.out.cell (p := ⟨B, 2, none⟩) hB).trans (HC.out 2 (by omega))
    have hBr : B < wr.heap.size := Nat.lt_of_lt_of_le hB HB.out.size
    clear i1 i2 hb c0
    by_cases hj : j ≤ 18
    · have hwr : IntKind.u8.wrap (j : Int) = j := IntWalk.u8_in _ (by omega)
      have hj0 : (0 : Int) ≤ j := by omega
      have x1d : wr.drew.cell? ⟨B, 2, none⟩ = some (.string (u 2)) := x1
      have hbd : Below wr.heap.size wr wr.drew := (Below.refl _ _).drew
      go_wp2
      go_region_held3 (fun w' => w'.cell? ⟨B, 2, none⟩ = some (.string (u 2)) ∧ Below wr.heap.size wr w') (first | (refine ⟨?_, ?_⟩ <;> assumption) | (refine Trw.S_after ?_ ?_ hb1 hBr <;> assumption))
        (first | (go_at_call 76; refine (Trw.word76 _ j hj).mono ?_; rintro e w1 ⟨rfl, hb1⟩))
      have hH : Below wr.heap.size wr w1 := And.right (by assumption)
      have HBN := Lib.hid (HB.out.trans (hH.mono HB.out.size))
      have i1 := I1.out.below hH l1
      have i2 := I2.out.below hH l2
      obtain ⟨a0, a1, a2, a3, a4, a5⟩ := i2.six
      have f2 := i2.frozen
      have J1 := Lib.hid i1; have J2 := Lib.hid i2
      clear i1 i2 hH hbd x1d x1 hb1
      go_wp2
      · have heq : ((wordB j).toList == (u 2).toList) = true := by assumption
        have HQ : Hid (K = j) := Lib.hid (by rw [HK.out]; exact Trw.kind_hit hj1 hj heq)
        go_roundw
        case rel => exact ⟨j + 1, by omega, by omega, by go_num, Trw.rlineI_hit HQ.out J1.out J2.out HBN.out (by omega)⟩
        case measure => simp [intOf]; omega
      · have heq' : ((wordB j).toList == (u 2).toList) = false := by assumption
        have HQ : Hid (K ≠ j) := Lib.hid (by rw [HK.out]; exact Trw.kind_miss hj1 heq')
        go_roundw
        case rel => exact ⟨j + 1, by omega, by omega, by go_num, Trw.rlineI_miss HQ.out J1.out J2.out HBN.out⟩
        case measure => simp [intOf]; omega
    · obtain rfl : j = 19 := by omega
      rw [Trw.selJ_end K hKl] at I2
      obtain ⟨hsx1, hsx2, hsx3, hsx4⟩ := HSX.out
      have hsb := HSB.out
      have hsn := HSN.out
      have hw1 : ¬ (wordB K).toList = [] := by rw [Lib.toList_data]; exact HW.out
      have hw2 : (!(wordB K).toList.isEmpty) = true := by simpa using hw1
      have hw3 : (wordB K).toList.isEmpty = false := by simpa using hw1
      obtain ⟨a0, a1, a2, a3, a4, a5⟩ := I2.out.six
      by_cases hlen : n = 5
      rotate_left
      · have hd : (((n - 3 : Nat) : Int) != 2) = true := by rw [bne_iff_ne]; omega
        have hd2 : ¬ n - 2 = 3 := by omega
        go_wp2_with (first | (go_at_call 76; refine (Trw.word76 _ K hKl).mono ?_; rintro e w2 ⟨rfl, hb2⟩; have K1 := I1.out.below hb2 l1; have K2 := I2.out.below hb2 l2; obtain ⟨b0, b1, b2, b3, b4, b5⟩ := K2.six; obtain ⟨e0, e1, e2, e3, e4, e5⟩ := K1.six; have f1 := K1.frozen; have f2 := K2.frozen; have m1 := K1.lt; have m2 := K2.lt; have HB2 := Lib.hid (HB.out.trans (hb2.mono HB.out.size)); have LL1 := Lib.hid K1; have LL2 := Lib.hid K2;  clear K1 K2 hb2) | (go_at_call 77; refine (Trw.two77 _ K hKl).mono ?_; rintro e w' ⟨rfl, rfl⟩) | (go_at_call 78; refine (Trw.one78 _ K hKl).mono ?_; rintro e w' ⟨rfl, rfl⟩) | (go_at_call 79; refine (Trw.tables79 _ K hKl).mono ?_; rintro e w' ⟨rfl, rfl⟩) | (go_at_call 80; refine (Trw.number80 _ K hKl).mono ?_; rintro e w' ⟨rfl, rfl⟩))
        all_goals (refine bodyPost_ret (v := .tuple #[.agg #[.int .u8 K, .int .i64 nv, .string ⟨#[]⟩, .string ⟨#[]⟩, .string ⟨#[]⟩, .int .i64 0], .int .i64 3]) (by simp [results, Tryz.results26, go_sem, *]) rfl (Trw.rlineP_err (e0 := 3) (by rw [HL.out]; simp [Trw.tailS, H0.out, hd2]) rfl ?_); (repeat (first | (with_reducible refine Below.setCell ?_ (by first | (simp; done) | (simp; omega)) _) | (with_reducible refine Below.alloc ?_ (by first | omega | (simp; done) | (simp; omega)) _) | (with_reducible refine Trw.below_drewN ?_ _) | (with_reducible exact HB2.out))))
      · subst hlen
        have hcp : ¬ cap = 3 := by omega
        by_cases hwl : nv < 1
        · have hwo : (if nv = 0 then (-1 : Int) else nv) < 0 ∨ 1000 < (if nv = 0 then (-1 : Int) else nv) := by left; rw [if_pos (by omega)]; decide
          go_wp2_with (first | (go_at_call 76; refine (Trw.word76 _ K hKl).mono ?_; rintro e w2 ⟨rfl, hb2⟩; have K1 := I1.out.below hb2 l1; have K2 := I2.out.below hb2 l2; obtain ⟨b0, b1, b2, b3, b4, b5⟩ := K2.six; obtain ⟨e0, e1, e2, e3, e4, e5⟩ := K1.six; have f1 := K1.frozen; have f2 := K2.frozen; have m1 := K1.lt; have m2 := K2.lt; have HB2 := Lib.hid (HB.out.trans (hb2.mono HB.out.size)); have LL1 := Lib.hid K1; have LL2 := Lib.hid K2; have y3 := (HB2.out.cell (p := ⟨B, 3, none⟩) hB).trans (HC.out 3 (by omega)); have y4 := (HB2.out.cell (p := ⟨B, 4, none⟩) hB).trans (HC.out 4 (by omega));  clear K1 K2 hb2) | (go_at_call 77; refine (Trw.two77 _ K hKl).mono ?_; rintro e w' ⟨rfl, rfl⟩) | (go_at_call 78; refine (Trw.one78 _ K hKl).mono ?_; rintro e w' ⟨rfl, rfl⟩) | (go_at_call 79; refine (Trw.tables79 _ K hKl).mono ?_; rintro e w' ⟨rfl, rfl⟩) | (go_at_call 80; refine (Trw.number80 _ K hKl).mono ?_; rintro e w' ⟨rfl, rfl⟩))
          all_goals (refine bodyPost_ret (v := .tuple #[.agg #[.int .u8 K, .int .i64 nv, .string ⟨#[]⟩, .string ⟨#[]⟩, .string ⟨#[]⟩, .int .i64 0], .int .i64 41]) (by simp [results, Tryz.results26, go_sem, *]) rfl (Trw.rlineP_err (e0 := 41) (by rw [HL.out]; simp [Trw.tailS, H0.out, H0.out, if_pos hwo]) rfl ?_); (repeat (first | (with_reducible refine Below.setCell ?_ (by first | (simp; done) | (simp; omega)) _) | (with_reducible refine Below.alloc ?_ (by first | omega | (simp; done) | (simp; omega)) _) | (with_reducible refine Trw.below_drewN ?_ _) | (with_reducible exact HB2.out))))
        by_cases hwh : 1000 < nv
        · have hwo : (if nv = 0 then (-1 : Int) else nv) < 0 ∨ 1000 < (if nv = 0 then (-1 : Int) else nv) := by right; rw [if_neg (by omega)]; exact hwh
          go_wp2_with (first | (go_at_call 76; refine (Trw.word76 _ K hKl).mono ?_; rintro e w2 ⟨rfl, hb2⟩; have K1 := I1.out.below hb2 l1; have K2 := I2.out.below hb2 l2; obtain ⟨b0, b1, b2, b3, b4, b5⟩ := K2.six; obtain ⟨e0, e1, e2, e3, e4, e5⟩ := K1.six; have f1 := K1.frozen; have f2 := K2.frozen; have m1 := K1.lt; have m2 := K2.lt; have HB2 := Lib.hid (HB.out.trans (hb2.mono HB.out.size)); have LL1 := Lib.hid K1; have LL2 := Lib.hid K2; have y3 := (HB2.out.cell (p := ⟨B, 3, none⟩) hB).trans (HC.out 3 (by omega)); have y4 := (HB2.out.cell (p := ⟨B, 4, none⟩) hB).trans (HC.out 4 (by omega));  clear K1 K2 hb2) | (go_at_call 77; refine (Trw.two77 _ K hKl).mono ?_; rintro e w' ⟨rfl, rfl⟩) | (go_at_call 78; refine (Trw.one78 _ K hKl).mono ?_; rintro e w' ⟨rfl, rfl⟩) | (go_at_call 79; refine (Trw.tables79 _ K hKl).mono ?_; rintro e w' ⟨rfl, rfl⟩) | (go_at_call 80; refine (Trw.number80 _ K hKl).mono ?_; rintro e w' ⟨rfl, rfl⟩))
          all_goals (refine bodyPost_ret (v := .tuple #[.agg #[.int .u8 K, .int .i64 nv, .string ⟨#[]⟩, .string ⟨#[]⟩, .string ⟨#[]⟩, .int .i64 0], .int .i64 41]) (by simp [results, Tryz.results26, go_sem, *]) rfl (Trw.rlineP_err (e0 := 41) (by rw [HL.out]; simp [Trw.tailS, H0.out, H0.out, if_pos hwo]) rfl ?_); (repeat (first | (with_reducible refine Below.setCell ?_ (by first | (simp; done) | (simp; omega)) _) | (with_reducible refine Below.alloc ?_ (by first | omega | (simp; done) | (simp; omega)) _) | (with_reducible refine Trw.below_drewN ?_ _) | (with_reducible exact HB2.out))))
        have hnz : ¬ nv = 0 := by omega
        have hwo : ¬ ((if nv = 0 then (-1 : Int) else nv) < 0 ∨ 1000 < (if nv = 0 then (-1 : Int) else nv)) := by rw [if_neg hnz]; omega
        have hwo2 : ¬ (nv < 0 ∨ 1000 < nv) := by omega
        have HNZ := Lib.hid hnz; have HWO := Lib.hid hwo; have HWO2 := Lib.hid hwo2; clear hnz hwo hwo2
        go_wp2_with (first | (go_at_call 76; refine (Trw.word76 _ K hKl).mono ?_; rintro e w2 ⟨rfl, hb2⟩; have K1 := I1.out.below hb2 l1; have K2 := I2.out.below hb2 l2; obtain ⟨b0, b1, b2, b3, b4, b5⟩ := K2.six; obtain ⟨e0, e1, e2, e3, e4, e5⟩ := K1.six; have f1 := K1.frozen; have f2 := K2.frozen; have m1 := K1.lt; have m2 := K2.lt; have HB2 := Lib.hid (HB.out.trans (hb2.mono HB.out.size)); have LL1 := Lib.hid K1; have LL2 := Lib.hid K2; have y3 := (HB2.out.cell (p := ⟨B, 3, none⟩) hB).trans (HC.out 3 (by omega)); have y4 := (HB2.out.cell (p := ⟨B, 4, none⟩) hB).trans (HC.out 4 (by omega));  clear K1 K2 hb2) | (go_at_call 77; refine (Trw.two77 _ K hKl).mono ?_; rintro e w' ⟨rfl, rfl⟩) | (go_at_call 78; refine (Trw.one78 _ K hKl).mono ?_; rintro e w' ⟨rfl, rfl⟩) | (go_at_call 79; refine (Trw.tables79 _ K hKl).mono ?_; rintro e w' ⟨rfl, rfl⟩) | (go_at_call 80; refine (Trw.number80 _ K hKl).mono ?_; rintro e w' ⟨rfl, rfl⟩))
        go_loopw [10, 15] (fun v i wr => ∃ j : Nat, j ≤ 2 ∧ i = .int .i64 j ∧ Trw.nmI w [.string (nmS (u 3) false), .string (nmS (u 4) false)] [Trw.nmOk (u 3) false, Trw.nmOk (u 4) false] #[.int .u8 K, .int .i64 nv, .string ⟨#[]⟩, .string ⟨#[]⟩, .string ⟨#[]⟩, .int .i64 0] j v wr) (fun _ i _ => 2 - (intOf i).toNat)
        case atStart => exact ⟨0, Nat.zero_le _, rfl, ⟨none, 0, rfl⟩, ⟨rfl, .inl ⟨rfl, rfl⟩⟩, rfl, LL1.out, LL2.out, by first | omega | (simp; omega), HB2.out⟩
        case round =>
          obtain ⟨j, hj, rfl, ⟨va, vc, rfl⟩, hrow, hok, i1, i2, hsz, hb⟩ := hrel
          obtain ⟨i0, z, hi0, hz0, hz1, hz2, hz3⟩ := Trw.info9
          obtain ⟨a0, a1, a2, a3, a4, a5⟩ := i2.six
          obtain ⟨q0, q1, q2, q3, q4, q5⟩ := i1.six
          have f1 := i1.frozen
          have f2 := i2.frozen
          have m1 := i1.lt
          have m2 := i2.lt
          have z3 := (hb.cell (p := ⟨B, 3, none⟩) hB).trans (HC.out 3 (by omega))
          have z4 := (hb.cell (p := ⟨B, 4, none⟩) hB).trans (HC.out 4 (by omega))
          have g3 := HU.out 3 (by omega)
          have g4 := HU.out 4 (by omega)
          have I1 := Lib.hid i1; have I2 := Lib.hid i2; have HBX := Lib.hid hb; have HRW := Lib.hid hrow; have HOK := Lib.hid hok
          clear i1 i2 hb hrow hok
          obtain rfl | rfl | rfl : j = 0 ∨ j = 1 ∨ j = 2 := by omega
          · rcases Trw.bcases (Trw.nmDash2 (u 3)) with hd | hd
            · have hdx : ((u 3).toList == [45]) = true := hd
              rcases Trw.bcases (nameOk (u 3).data.toList) with hnm | hnm
              · skip
                go_wp2_with (first | (go_at_call 79; refine (Trw.tables79 _ K hKl).mono ?_; rintro e w' ⟨rfl, rfl⟩) | (go_at_call 81; refine (Trw.name81 (u 3) _ g3).mono ?_; rintro e w' ⟨rfl, rfl⟩) | (at_builtin; refine wpList_append_own _ rfl _ _ 65 rfl (w.heap.size + 2) 9 i0 z 1 16 Tryz.underlying65 hi0 hz0 hz1 hz2 hz3 (by decide) _ 0 (List.take 0 [.string (nmS (u 3) false), .string (nmS (u 4) false)]) rfl (HRW.out.alloc _) ⟨wr.heap.size, 0, none⟩ 1 1 [.string (u 3)] rfl rfl (cell_one_new _ _ _) (by simp [Value.oneCell']) (by decide) (by decide) (by simp; omega) ?_; intro v' w5 hown' hgrow hnil; clear hnil; have HO := Lib.hid hown'; have HG := Lib.hid hgrow; clear hown' hgrow) | go_in)
                obtain ⟨g', cap', rfl⟩ := ownsRow_succ HO.out
                go_roundw
                case rel => exact ⟨1, by omega, by go_num, Trw.nmI_step (x := (u 3)) (ok := true) HRW.out HO.out HG.out HOK.out I1.out I2.out hsz HBX.out rfl (by simp [nmS, Trw.nmOk, nmDash, hnm] <;> rfl) rfl (by simp [nmS, Trw.nmOk, nmDash, hnm])⟩
                case measure => simp [intOf]
              · have hbad : Trw.nmOk (u 3) false = false := by simp [Trw.nmOk, nmDash, hnm]
                go_wp2_with (first | (go_at_call 79; refine (Trw.tables79 _ K hKl).mono ?_; rintro e w' ⟨rfl, rfl⟩) | (go_at_call 81; refine (Trw.name81 (u 3) _ g3).mono ?_; rintro e w' ⟨rfl, rfl⟩) | go_in)
                all_goals (refine bodyPost_ret (v := .tuple #[.agg #[.int .u8 K, .int .i64 nv, .string ⟨#[]⟩, .string ⟨#[]⟩, .string ⟨#[]⟩, .int .i64 0], .int .i64 4]) (by simp [results, Tryz.results26, go_sem, *]) rfl (Trw.rlineP_err (e0 := 4) (by rw [HL.out]; simp [Trw.tailS, H0.out, hbad, H0.out, if_neg HWO.out]) rfl ?_); (repeat (first | (with_reducible refine Below.setCell ?_ (by first | (simp; done) | (simp; omega)) _) | (with_reducible refine Below.alloc ?_ (by first | omega | (simp; done) | (simp; omega)) _) | (with_reducible refine Trw.below_drewN ?_ _) | (with_reducible exact HBX.out))))
            · have hdx : ((u 3).toList == [45]) = false := hd
              rcases Trw.bcases (nameOk (u 3).data.toList) with hnm | hnm
              · skip
                go_wp2_with (first | (go_at_call 79; refine (Trw.tables79 _ K hKl).mono ?_; rintro e w' ⟨rfl, rfl⟩) | (go_at_call 81; refine (Trw.name81 (u 3) _ g3).mono ?_; rintro e w' ⟨rfl, rfl⟩) | (at_builtin; refine wpList_append_own _ rfl _ _ 65 rfl (w.heap.size + 2) 9 i0 z 1 16 Tryz.underlying65 hi0 hz0 hz1 hz2 hz3 (by decide) _ 0 (List.take 0 [.string (nmS (u 3) false), .string (nmS (u 4) false)]) rfl (HRW.out.alloc _) ⟨wr.heap.size, 0, none⟩ 1 1 [.string (u 3)] rfl rfl (cell_one_new _ _ _) (by simp [Value.oneCell']) (by decide) (by decide) (by simp; omega) ?_; intro v' w5 hown' hgrow hnil; clear hnil; have HO := Lib.hid hown'; have HG := Lib.hid hgrow; clear hown' hgrow) | go_in)
                obtain ⟨g', cap', rfl⟩ := ownsRow_succ HO.out
                go_roundw
                case rel => exact ⟨1, by omega, by go_num, Trw.nmI_step (x := (u 3)) (ok := true) HRW.out HO.out HG.out HOK.out I1.out I2.out hsz HBX.out rfl (by simp [nmS, Trw.nmOk, nmDash, hnm] <;> rfl) rfl (by simp [nmS, Trw.nmOk, nmDash, hnm])⟩
                case measure => simp [intOf]
              · have hbad : Trw.nmOk (u 3) false = false := by simp [Trw.nmOk, nmDash, hnm]
                go_wp2_with (first | (go_at_call 79; refine (Trw.tables79 _ K hKl).mono ?_; rintro e w' ⟨rfl, rfl⟩) | (go_at_call 81; refine (Trw.name81 (u 3) _ g3).mono ?_; rintro e w' ⟨rfl, rfl⟩) | go_in)
                all_goals (refine bodyPost_ret (v := .tuple #[.agg #[.int .u8 K, .int .i64 nv, .string ⟨#[]⟩, .string ⟨#[]⟩, .string ⟨#[]⟩, .int .i64 0], .int .i64 4]) (by simp [results, Tryz.results26, go_sem, *]) rfl (Trw.rlineP_err (e0 := 4) (by rw [HL.out]; simp [Trw.tailS, H0.out, hbad, H0.out, if_neg HWO.out]) rfl ?_); (repeat (first | (with_reducible refine Below.setCell ?_ (by first | (simp; done) | (simp; omega)) _) | (with_reducible refine Below.alloc ?_ (by first | omega | (simp; done) | (simp; omega)) _) | (with_reducible refine Trw.below_drewN ?_ _) | (with_reducible exact HBX.out))))
          · rcases Trw.bcases (Trw.nmDash2 (u 4)) with hd | hd
            · have hdx : ((u 4).toList == [45]) = true := hd
              rcases Trw.bcases (nameOk (u 4).data.toList) with hnm | hnm
              · skip
                go_wp2_with (first | (go_at_call 79; refine (Trw.tables79 _ K hKl).mono ?_; rintro e w' ⟨rfl, rfl⟩) | (go_at_call 81; refine (Trw.name81 (u 4) _ g4).mono ?_; rintro e w' ⟨rfl, rfl⟩) | (at_builtin; refine wpList_append_own _ rfl _ _ 65 rfl (w.heap.size + 2) 9 i0 z 1 16 Tryz.underlying65 hi0 hz0 hz1 hz2 hz3 (by decide) _ 1 (List.take 1 [.string (nmS (u 3) false), .string (nmS (u 4) false)]) rfl (HRW.out.alloc _) ⟨wr.heap.size, 0, none⟩ 1 1 [.string (u 4)] rfl rfl (cell_one_new _ _ _) (by simp [Value.oneCell']) (by decide) (by decide) (by simp; omega) ?_; intro v' w5 hown' hgrow hnil; clear hnil; have HO := Lib.hid hown'; have HG := Lib.hid hgrow; clear hown' hgrow) | go_in)
                obtain ⟨g', cap', rfl⟩ := ownsRow_succ HO.out
                go_roundw
                case rel => exact ⟨2, by omega, by go_num, Trw.nmI_step (x := (u 4)) (ok := true) HRW.out HO.out HG.out HOK.out I1.out I2.out hsz HBX.out rfl (by simp [nmS, Trw.nmOk, nmDash, hnm] <;> rfl) rfl (by simp [nmS, Trw.nmOk, nmDash, hnm])⟩
                case measure => simp [intOf]
              · have hbad : Trw.nmOk (u 4) false = false := by simp [Trw.nmOk, nmDash, hnm]
                go_wp2_with (first | (go_at_call 79; refine (Trw.tables79 _ K hKl).mono ?_; rintro e w' ⟨rfl, rfl⟩) | (go_at_call 81; refine (Trw.name81 (u 4) _ g4).mono ?_; rintro e w' ⟨rfl, rfl⟩) | go_in)
                all_goals (refine bodyPost_ret (v := .tuple #[.agg #[.int .u8 K, .int .i64 nv, .string ⟨#[]⟩, .string ⟨#[]⟩, .string ⟨#[]⟩, .int .i64 0], .int .i64 4]) (by simp [results, Tryz.results26, go_sem, *]) rfl (Trw.rlineP_err (e0 := 4) (by rw [HL.out]; simp [Trw.tailS, H0.out, hbad, H0.out, if_neg HWO.out]) rfl ?_); (repeat (first | (with_reducible refine Below.setCell ?_ (by first | (simp; done) | (simp; omega)) _) | (with_reducible refine Below.alloc ?_ (by first | omega | (simp; done) | (simp; omega)) _) | (with_reducible refine Trw.below_drewN ?_ _) | (with_reducible exact HBX.out))))
            · have hdx : ((u 4).toList == [45]) = false := hd
              rcases Trw.bcases (nameOk (u 4).data.toList) with hnm | hnm
              · skip
                go_wp2_with (first | (go_at_call 79; refine (Trw.tables79 _ K hKl).mono ?_; rintro e w' ⟨rfl, rfl⟩) | (go_at_call 81; refine (Trw.name81 (u 4) _ g4).mono ?_; rintro e w' ⟨rfl, rfl⟩) | (at_builtin; refine wpList_append_own _ rfl _ _ 65 rfl (w.heap.size + 2) 9 i0 z 1 16 Tryz.underlying65 hi0 hz0 hz1 hz2 hz3 (by decide) _ 1 (List.take 1 [.string (nmS (u 3) false), .string (nmS (u 4) false)]) rfl (HRW.out.alloc _) ⟨wr.heap.size, 0, none⟩ 1 1 [.string (u 4)] rfl rfl (cell_one_new _ _ _) (by simp [Value.oneCell']) (by decide) (by decide) (by simp; omega) ?_; intro v' w5 hown' hgrow hnil; clear hnil; have HO := Lib.hid hown'; have HG := Lib.hid hgrow; clear hown' hgrow) | go_in)
                obtain ⟨g', cap', rfl⟩ := ownsRow_succ HO.out
                go_roundw
                case rel => exact ⟨2, by omega, by go_num, Trw.nmI_step (x := (u 4)) (ok := true) HRW.out HO.out HG.out HOK.out I1.out I2.out hsz HBX.out rfl (by simp [nmS, Trw.nmOk, nmDash, hnm] <;> rfl) rfl (by simp [nmS, Trw.nmOk, nmDash, hnm])⟩
                case measure => simp [intOf]
              · have hbad : Trw.nmOk (u 4) false = false := by simp [Trw.nmOk, nmDash, hnm]
                go_wp2_with (first | (go_at_call 79; refine (Trw.tables79 _ K hKl).mono ?_; rintro e w' ⟨rfl, rfl⟩) | (go_at_call 81; refine (Trw.name81 (u 4) _ g4).mono ?_; rintro e w' ⟨rfl, rfl⟩) | go_in)
                all_goals (refine bodyPost_ret (v := .tuple #[.agg #[.int .u8 K, .int .i64 nv, .string ⟨#[]⟩, .string ⟨#[]⟩, .string ⟨#[]⟩, .int .i64 0], .int .i64 4]) (by simp [results, Tryz.results26, go_sem, *]) rfl (Trw.rlineP_err (e0 := 4) (by rw [HL.out]; simp [Trw.tailS, H0.out, hbad, H0.out, if_neg HWO.out]) rfl ?_); (repeat (first | (with_reducible refine Below.setCell ?_ (by first | (simp; done) | (simp; omega)) _) | (with_reducible refine Below.alloc ?_ (by first | omega | (simp; done) | (simp; omega)) _) | (with_reducible refine Trw.below_drewN ?_ _) | (with_reducible exact HBX.out))))
          · obtain ⟨g', cap', hv⟩ := ownsRow_succ (k := 1) HRW.out
            injection hv with hva hvb hvc
            clear hvb hvc
            subst hva
            have n0 := Trw.row1_cell HRW.out 0 _ rfl
            have n1 := Trw.row1_cell HRW.out 1 _ rfl
            have hgn : w.heap.size + 2 ≤ g' := Trw.own_base HRW.out _ rfl
            have ho0 : Trw.nmOk (u 3) false = true := Trw.oks HOK.out _ (by simp)
            have ho1 : Trw.nmOk (u 4) false = true := Trw.oks HOK.out _ (by simp)
            go_wp2_with (first | (go_at_call 79; refine (Trw.tables79 _ K hKl).mono ?_; rintro e w' ⟨rfl, rfl⟩) | go_in)
            all_goals (refine bodyPost_ret (v := .tuple #[.agg #[.int .u8 K, .int .i64 nv, .string (nmS (u 3) false), .string ⟨#[]⟩, .string (nmS (u 4) false), .int .i64 0], .int .i64 0]) (by simp [results, Tryz.results26, go_sem, *]) rfl (Trw.rlineP_ok (by rw [HL.out]; simp [Trw.tailS, H0.out, H0.out, if_neg HWO2.out, HNZ.out, ho0, ho1]; rfl) rfl ?_); (repeat (first | (with_reducible refine Below.setCell ?_ (by first | (simp; done) | (simp; omega)) _) | (with_reducible refine Below.alloc ?_ (by first | omega | (simp; done) | (simp; omega)) _) | (with_reducible refine Trw.below_drewN ?_ _) | (with_reducible exact HBX.out))))

end Go.Proofs
end
