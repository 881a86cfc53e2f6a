/- What the plain functions answer: ties, rolls, classes, rules. -/
import Derived.Test.YtogojkhbplmifaaGreatDoorLawsA
import Derived.Test.YtogojkhbplmifaaGreatDoorEvalE
set_option linter.all false
set_option linter.unusedSectionVars false
set_option linter.deprecated false
section
set_option maxRecDepth 100000
namespace Go.Proofs.YtogojkhbplmifaaGreatDoor
open Go Go.Ai Go.Proofs
variable {c : ai}
theorem ON {s : St} (hw : Wf s) {k : Option Pos} {n es bytes : Nat} {q : Pos} {row : List AV} (hk : k = none -> n = 0) (fF : ∀ b, k = some b -> ∃ cs, s.heap.get b = some (.cells cs 0) /\ cs.length = n * es) (hq : s.heap.get q = some (.cells row 0)) (hr : row.length = es)
    (h1 : cY row = true) (gG : es ≠ 0) (hb : (2 * (n + 1) + 768) * bytes <= 281474976710656) (hn : n <= 1000) :
    ∃ s5 lK, (∀ (K : AV -> St -> Option (AV × St)), af c (.append es bytes) [jC k n es, .slice q 0 1 (some 1) es] s K = K (.slice s.next 0 (n + 1) none es) s5) /\ s5.heap.get s.next = some (.cells lK 0) /\ lK.length = (n + 1) * es /\
      (∀ b cs, k = some b -> s.heap.get b = some (.cells cs 0) -> lK = cs ++ row) /\ (k = none -> lK = row) /\ s5.next = s.next.succ /\ Wf s5 /\ ∀ p, k ≠ some p -> p.toNat < s.next.toNat -> s5.heap.get p = s.heap.get p := by
  have hx : eV es 1 (fun b => s.heap.get b) (.slice q 0 1 (some 1) es) = some row := by
    simp only [eV, iZ, Nat.one_mul, decide_eq_false gG, hq]
    exact fR hr
  cases k with
  | none =>
    obtain rfl := hk rfl
    refine ⟨au s (.cells row 0), row, fun K => Ti c K (m := 1) rfl (by omega) (by omega) (by omega) hx, cm _ _, by omega, fun b cs h => (by cases h), fun _ => rfl, rfl, cF hw, fun p _ hp => zA hp⟩
  | some b =>
    obtain ⟨cs, h2, h3⟩ := fF b rfl
    have ho : eV es n (fun b => s.heap.get b) (.slice b 0 n none es) = some cs := by
      by_cases h0 : n = 0
      . subst h0
        have : cs = [] := List.eq_nil_of_length_eq_zero (by omega)
        subst this; simp [eV, iZ]
      . have : ¬ n * es = 0 := fun e => by rcases Nat.mul_eq_zero.1 e with e | e <;> omega
        simp only [eV, iZ, decide_eq_false this, h2]
        exact fR h3
    refine ⟨dst s b (.cells (cs ++ row) 0), cs ++ row, fun K => Wg c K (m := 1) rfl (by omega) hb (by omega) h2 ho hx h1, We _ _ _, ?_, fun b' cs2 e h => ?_, fun h => (by cases h), rfl, aai hw, fun p hp hl => PG (fun e => hp (by rw [e])) hl⟩
    . rw [List.length_append, h3, hr, Nat.add_mul, Nat.one_mul]
    . cases e; rw [h2] at h; cases h; rfl
def qm (gs : List cr) (g : cr) : Int := if gX g ≠ 0 then gX g else if 0 <= scan (iP gs g.name) gs.length 0 then 5 else if gs.length = 64 then 7 else 0
set_option maxHeartbeats 1000000 in
theorem aam (hc : Sem c) {s0 s : St} {bp mp : Pos} {gs : List cr} {ts : List Ty} {gk tk : Option Pos} (An : Wf s0) (B : iK s0 s bp mp gs ts gk tk) (hl : gs.length <= 64) (g : cr) :
    ∃ s', c 161 [.ptr bp 0, .agg g.cells] s = some (.int .i64 (qm gs g), s') /\ (qm gs g ≠ 0 -> s' = s) /\ (qm gs g = 0 -> ∃ Hz, iK s0 s' bp mp (gs ++ [g]) ts Hz tk) := by
  have b7 : Wf (au s (.cells g.cells 0)) := cF B.wf
  have B1 := B.L5 (Grew.au B.wf (.cells g.cells 0))
  generalize DJ : au s (.cells g.cells 0) = s1 at b7 B1
  have OO : s1.heap.get s.next = some (.cells g.cells 0) := by rw [<- DJ]; exact cm _ _
  have lp := OM hc s1 bp mp _ _ B1.book
  have hch := IJ hc g s1 b7
  have lG : ∀ (K : AV -> St -> Option (AV × St)) (s : St), af c (.lenB .l) [jC gk gs.length 9] s K = K (.int .i64 (gs.length : Int)) s := fun K s => bw c K (BL fun h => by rw [B.xK.1 h]; rfl) s
  have lG2 : ∀ (K : AV -> Option (AV × St)), aB (.lenB .l) [jC gk gs.length 9] K = K (.int .i64 (gs.length : Int)) := fun K => eW K (BL fun h => by rw [B.xK.1 h]; rfl)
  obtain ⟨es, cl, vE, VE⟩ := B1.BM
  have fail : ∀ e : Int, e ≠ 0 -> qm gs g = e -> lz c 1 (.ptr bp 0) (.agg g.cells) s = some (.int .i64 e, s1) -> ∃ s', c 161 [.ptr bp 0, .agg g.cells] s = some (.int .i64 (qm gs g), s') /\ (qm gs g ≠ 0 -> s' = s) /\ (qm gs g = 0 -> ∃ Hz, iK s0 s' bp mp (gs ++ [g]) ts Hz tk) := fun e he ha h => by
    refine ⟨s, ?_, fun _ => rfl, fun h0 => absurd (ha.symm.trans h0) he⟩
    rw [vF hc 1 h, ha, aI (Plain.int _ _) (by rw [<- DJ]; exact bU B.wf)]
  have eb : ∀ (K : AV -> St -> Option (AV × St)), af c .box [.agg g.cells] s K = K (.ptr s.next 0) s1 := fun K => by rw [uJ, <- DJ]; rfl
  have h64 : ((gs.length : Int) = 64) ↔ gs.length = 64 := by omega
  by_cases h1 : gX g = 0
  . rcases zF g.name gs es 0 VE with ⟨sC, j, v, hf⟩ | ⟨sC, hf⟩
    . have hsc := BN.2 sC
      refine fail 5 (by omega) (by simp [qm, h1, hsc]) ?_
      rw [lz]
      have lk := fun (K : AV -> Option (AV × St)) => JA K (.int .i64 0) (h := s1.heap) (k := .str g.name) vE hf
      simp [eb, lp, hch, h1, OO, B1.book, lk]
    . have hsc : ¬ 0 <= scan (iP gs g.name) gs.length 0 := fun h => sC (BN.1 h)
      have lk := fun (K : AV -> Option (AV × St)) => JA K (.int .i64 0) (h := s1.heap) (k := .str g.name) vE hf
      by_cases h2 : gs.length = 64
      . have h2d : decide ((gs.length : Int) = 64) = true := decide_eq_true (by omega)
        refine fail 7 (by omega) (by unfold qm; rw [if_neg (by simp [h1]), if_neg hsc, if_pos h2]) ?_
        rw [lz]
        simp [eb, lp, hch, h1, OO, B1.book, lk, lG, h2d]
      . have htg : g.tg.length <= 4 := by
          unfold gX at h1
          split at h1
          . simp at h1
          . split at h1
            . simp at h1
            . split at h1
              . simp at h1
              . split at h1
                . simp at h1
                . omega
        have he : qm gs g = 0 := by unfold qm; rw [if_neg (by simp [h1]), if_neg hsc, if_neg h2]
        have h2d : decide ((gs.length : Int) = 64) = false := decide_eq_false (by omega)
        have lt1 := B1.lt
        have qN : s.next.toNat < s1.next.toNat := by rw [<- DJ, mU, Pos.aL]; omega
        have VF : mp ≠ bp := fun e => by rw [e, B1.book] at vE; cases vE
        have nmp : mp ≠ s.next := fun e => by rw [e, OO] at vE; cases vE
        let EN := es ++ [(AV.str g.name, AV.int .i64 (gs.length : Int), cl)]
        let s2 := oM s1 mp (.map EN (cl + 1))
        have gj : Wf s2 := Dv b7 lt1.2
        have b2 : s2.heap.get bp = some (.cells [jC gk gs.length 9, jC tk ts.length 3, .map mp] 0) := by show (oM _ _ _).heap.get bp = _; rw [ir VF]; exact B1.book
        have p2 : s2.heap.get s.next = some (.cells g.cells 0) := by show (oM _ _ _).heap.get _ = _; rw [ir nmp]; exact OO
        have m2 : s2.heap.get mp = some (.map EN (cl + 1)) := Af _ _ _
        obtain ⟨row, s3, q1, q2, q3, q4⟩ := Rj hc g htg s2 gj
        have hw4 : Wf (au s3 (.cells row 0)) := cF q2.wf
        have VG := q2.trans (Grew.au q2.wf (.cells row 0))
        have ic : ∀ p x, s2.heap.get p = some x -> p.toNat < (au s3 (.cells row 0)).next.toNat := fun p x h => hw4 p x (VG.get h)
        have fF : ∀ b, gk = some b -> ∃ cs, (au s3 (.cells row 0)).heap.get b = some (.cells cs 0) /\ cs.length = gs.length * 9 := fun b hb => by
          obtain ⟨cs, h3, h4⟩ := B1.xK.2 b hb
          have : mp ≠ b := fun e => by rw [e, h3] at vE; cases vE
          exact ⟨cs, VG.get (by show (oM _ _ _).heap.get b = _; rw [ir this]; exact h3), h4⟩
        obtain ⟨s5, lK, r1, r2, r3, _, _, r4, r5, r6⟩ := ON (c := c) (es := 9) (bytes := 112) hw4 (k := gk) (n := gs.length) (fun h => by rw [B.xK.1 h]; rfl) fF (cm _ _) q3 q4 (by omega) (by omega) (by omega)
        have hs4 : (au s3 (.cells row 0)).next = s3.next.succ := rfl
        have keep : ∀ p x, s2.heap.get p = some x -> gk ≠ some p -> s5.heap.get p = some x := fun p x h cM => by rw [r6 p cM (ic p x h)]; exact VG.get h
        have b5 := keep bp _ b2 B.dg
        let gv := AV.slice (au s3 (.cells row 0)).next 0 (gs.length + 1) none 9
        let s6 := oM s5 bp (.cells [gv, jC tk ts.length 3, .map mp] 0)
        have Tv : bp.toNat < s5.next.toNat := r5 _ _ b5
        have nb4 : bp ≠ (au s3 (.cells row 0)).next := fun e => by have := ic _ _ b2; rw [e] at this; omega
        have VH : ∀ (K : AV -> St -> Option (AV × St)), af c (.store 1) [.ptr bp 0, gv] s5 K = K .undef s6 := fun K => vD c K s5 1 bp 0 gv _ b5 rfl (by simp) rfl
        have g6 : ∀ p, p ≠ bp -> s6.heap.get p = s5.heap.get p := fun p h => ir (fun e => h e.symm)
        have Tw : ∀ p : Pos, s0.next.toNat <= p.toNat -> s0.heap.get p = none := fun p h => by
          cases hx : s0.heap.get p with
          | none => rfl
          | some x => have := An _ _ hx; omega
        have nx : s0.next.toNat <= (au s3 (.cells row 0)).next.toNat := Nat.le_trans B1.next (Nat.le_trans (by show s1.next.toNat <= s2.next.toNat; exact Nat.le_refl _) VG.next)
        have L6 : iK s0 s6 bp mp (gs ++ [g]) ts (some (au s3 (.cells row 0)).next) tk := {
          wf := Dv r5 Tv
          keeps := fun p x hp => by
            have n1 : p ≠ bp := fun e => by rw [e, B.fb] at hp; cases hp
            have n2 : mp ≠ p := fun e => by rw [<- e, B.fm] at hp; cases hp
            have n3 : gk ≠ some p := fun e => by rw [B.fg p e] at hp; cases hp
            rw [g6 p n1]
            exact keep p x (by show (oM _ _ _).heap.get p = _; rw [ir n2]; exact B1.keeps p x hp) n3
          next := by show s0.next.toNat <= s5.next.toNat; rw [r4, Pos.aL]; omega
          book := by show (oM _ _ _).heap.get bp = _; rw [Af]; simp [gv, jC]
          BM := ⟨EN, cl + 1, by
            rw [g6 mp VF]
            exact keep mp _ m2 (fun e => by obtain ⟨cs, h3, _⟩ := B1.xK.2 mp e; rw [h3] at vE; cases vE), by simp [EN, VE]⟩
          xK := ⟨fun h => (by cases h), fun b hb => by
            cases hb
            refine ⟨lK, ?_, by rw [r3]; simp⟩
            rw [g6 _ (fun e => nb4 e.symm)]; exact r2⟩
          we := ⟨B.we.1, fun b hb => by
            have h3 := B1.we.2 b hb
            have n1 : b ≠ bp := fun e => B.dt (by rw [<- e]; exact hb)
            have n2 : mp ≠ b := fun e => by rw [e, h3] at vE; cases vE
            have n3 : gk ≠ some b := fun e => B.LZ b e hb
            rw [g6 b n1]
            exact keep b _ (by show (oM _ _ _).heap.get b = _; rw [ir n2]; exact h3) n3⟩
          dg := fun e => nb4 (by injection e with e; exact e.symm)
          dt := B.dt
          LZ := fun b hb ht => by
            cases hb
            have h3 := B1.we.2 _ ht
            have n2 : mp ≠ (au s3 (.cells row 0)).next := fun e => by rw [e, h3] at vE; cases vE
            have := ic _ _ (show s2.heap.get (au s3 (.cells row 0)).next = _ from (ir n2).trans h3)
            omega
          fb := B.fb
          fm := B.fm
          fg := fun b hb => by cases hb; exact Tw _ nx
          ft := B.ft }
        refine ⟨s6, ?_, fun h => absurd he h, fun _ => ⟨_, L6⟩⟩
        rw [he]
        rw [vF hc 1 (r := (.int .i64 0, s6))]
        . rw [OH (b := bp) B.book]
          rw [L6.book]
          intro e
          have e := congrArg (fun o => match o with | some (AB.cells (v :: _) _) => eH v | _ => none) e
          simp only [jC, eH] at e
          cases gk with
          | none => simp [eH, B.xK.1 rfl] at e
          | some b => simp [eH] at e
        rw [lz]
        have stm := fun (K : AV -> St -> Option (AV × St)) => NA c K (v := .int .i64 (gs.length : Int)) vE hf
        have bq : gL (jC gk gs.length 9) (jC gk gs.length 9) = true := by cases gk; exact Fz; exact Dx _ _ _ _
        have b3 : s3.heap.get bp = some (.cells [jC gk gs.length 9, jC tk ts.length 3, .map mp] 0) := q2.get b2
        have wh := fun (K : AV -> Option (AV × St)) => uK K (p := bp) (o := 0) (h := s3.heap) (h2 := s2.heap) (v := jC gk gs.length 9) (by rw [b3]; rfl) (by rw [b2]; rfl) bq
        have wA : cL (cv [AV.str [], AV.str [], AV.str [], .int .i64 0, .int .i64 0, .str [], .bool false, .bool false, .av] 1) [(0, 9)] [AV.agg row] = some row := by
          have : row.length = 9 := q3
          simp [cL, cv, iZ, iN, this, bg]
        simp [eb, lp, hch, h1, OO, B1.book, lk, lG, lG2, h2d, stm]
        show xF ((cellsOf (T.get s.next s2.heap)).bind fun cs => cut cs 0 9) _ = _
        rw [p2]
        simp only [gF, Option.bind_some, cr.cc, vC]
        show Fy (c 226 [AV.agg g.cells] s2) _ = _
        rw [q1]
        simp only [yZ]
        show eF (.load none) [.ptr bp 0] s3.heap (fun v => fP (.load none) [.ptr bp 0] v (fN [] s2.heap)) _ = _
        rw [wh]
        simp only [wA, vC, r1]
        exact VH _
  . refine fail (gX g) h1 (by simp [qm, h1]) ?_
    rw [lz]
    simp [eb, lp, hch, h1, OO]
end Go.Proofs.YtogojkhbplmifaaGreatDoor
end
section
set_option maxRecDepth 100000
namespace Go.Proofs.YtogojkhbplmifaaGreatDoor
open Go Go.Ai Go.Proofs
variable {c : ai}
theorem BO {r s t : Ty} (h : ew r s = true) (k : ew s t = true) : ew r t = true := by
  simp only [ew, Bool.or_eq_true, Bool.and_eq_true, decide_eq_true_eq] at h k ⊢
  rcases h with h | ⟨h1, h2⟩ <;> rcases k with k | ⟨k1, k2⟩
  . exact .inl (BE _ _ _ h k)
  . exact .inl (by rw [<- k1]; exact h)
  . exact .inl (by rw [h1]; exact k)
  . exact .inr ⟨h1.trans k1, BE _ _ _ h2 k2⟩
theorem PR {s t : Ty} (h : ew s t = false) (k : ew t s = false) : s.a = t.a /\ s.b = t.b := by
  simp only [ew, Bool.or_eq_false_iff] at h k
  have e := tE _ _ h.1 k.1
  refine ⟨e, ?_⟩
  have h2 := h.2; have k2 := k.2
  simp only [e, decide_true, Bool.true_and] at h2 k2
  exact tE _ _ h2 k2
theorem Wm {r s t : Ty} (h : ew r s = true) (k : ew t s = false) : ew r t = true := by
  cases h2 : ew s t
  . obtain ⟨e1, e2⟩ := PR h2 k
    unfold ew at h ⊢; rw [<- e1, <- e2]; exact h
  . exact BO h h2
theorem aci {x : Int} (h1 : 0 <= x) (h2 : x <= 18446744073709551615) : aM .u64 x = x := by
  unfold aM uf N0
  simp only
  split
  . split
    . rfl
    . contradiction
  . contradiction
theorem L7 (K : AV -> St -> Option (AV × St)) (st : St) (a : Nat) : af c (.bin .shr .num) [.int .u64 (a : Int), .int .u64 1] st K = K (.int .u64 ((a / 2 : Nat) : Int)) st := by
  refine bw c K (fun H n => ?_) st
  have : (a : Int).fdiv 2 = ((a / 2 : Nat) : Int) := by
    rw [Int.fdiv_eq_ediv_of_nonneg _ (by omega)]; rfl
  simp only [aE.run, jA, o9, eD]
  show some (dz.val (AV.int .u64 ((a : Int).fdiv 2))) = _
  rw [this]
theorem L8 (H : Pos -> Option AB) (n : Pos) (es : Nat) (b : Pos) (len : Nat) (k : IntKind) (i : Nat) (h : i < len) : aE.run H n (.idxA es none) [.slice b 0 len none es, .int k (i : Int)] = some (.val (.ptr b (i * es))) := by
  simp [aE.run, qG, lN, wG, h]
theorem L9 (ts : List Ty) (i : Nat) (h : i < ts.length) : cut (ts.flatMap Ty.cells) (i * 3) 3 = some ts[i].cells := by
  induction ts generalizing i with
  | nil => simp at h
  | cons t ts ih =>
    cases i with
    | zero => rw [List.flatMap_cons]; unfold cut; rw [iN, decide_eq_true (by simp [Ty.len])]; simp [Ty.cells]
    | succ i =>
      have h' : i < ts.length := by simpa using h
      have := ih i h'
      unfold cut at this ⊢
      rw [iN] at this ⊢
      split at this <;> first | (cases this; done) | skip
      rename_i hle
      simp only [decide_eq_true_eq] at hle
      rw [decide_eq_true (by rw [List.flatMap_cons, List.length_append, Ty.len]; omega)]
      simp only [Option.some.injEq] at this ⊢
      rw [List.flatMap_cons, show (i + 1) * 3 = i * 3 + 1 + 1 + 1 by omega, List.getElem_cons_succ, <- this]
      rfl
theorem Wn (hc : Sem c) (ts : List Ty) (hl : ts.length <= 1000) (t : Ty) (q : Nat) (hq : q <= ts.length) (Ac : ∀ h (hh : h < ts.length), h < q -> ew ts[h] t = true) (hhi : ∀ h (hh : h < ts.length), q <= h -> ew ts[h] t = false)
    (b : Pos) (x4 : Pos) (s : St) (hw : Wf s) (hb : s.heap.get b = some (.cells (ts.flatMap Ty.cells) 0)) (hx : s.heap.get x4 = some (.cells t.cells 0)) (F : Nat) (k2) : ∀ (m i j : Nat), j <= i + m -> i <= q -> q <= j -> j <= ts.length ->
    aC c F k2 (m + 1) [.slice b 0 ts.length none 3, .func 162 [] [], .ptr x4 0, .int .i64 (ts.length : Int), .int .i64 (i : Int), .int .i64 (j : Int)] s =
      k2 [.slice b 0 ts.length none 3, .func 162 [] [], .ptr x4 0, .int .i64 (ts.length : Int), .int .i64 (q : Int)] s := by
  intro m
  induction m with
  | zero =>
    intro i j h1 h2 h3 h4
    obtain rfl : i = q := by omega
    obtain rfl : j = i := by omega
    rw [aC]
    simp
  | succ m ih =>
    intro i j h1 h2 h3 h4
    rw [aC]
    by_cases h : i < j
    . let d := (i + j) / 2
      have hd1 : i <= d := by omega
      have EF : d < j := by omega
      have VI : d < ts.length := by omega
      have w1 : aM .i64 ((i : Int) + (j : Int)) = ((i + j : Nat) : Int) := by rw [wrap64 (by omega) (by omega)]; omega
      have w2 : aM .u64 ((i + j : Nat) : Int) = ((i + j : Nat) : Int) := aci (by omega) (by omega)
      have w3 : aM .i64 (((i + j) / 2 : Nat) : Int) = ((d : Nat) : Int) := wrap64 (by omega) (by omega)
      have w4 : aM .i64 ((d : Int) + 1) = ((d + 1 : Nat) : Int) := wrap64 (by omega) (by omega)
      have ix := fun (K : AV -> Option (AV × St)) => eW K (fun H n => L8 H n 3 b ts.length .i64 d VI)
      have ho := xJ hc ts[d] t s hw
      have fg := L9 ts d VI
      clear_value d
      by_cases hn : d < q
      . have Tx : nG ts[d] t < 0 := IL.2 (Ac d VI hn)
        rw [<- ih (d + 1) j (by omega) (by omega) h3 h4]
        simp only [jK, lu, dr, uI, Int.ofNat_lt, h, decide_true, pP, Eo, w1, LF, w2, L7, w3, Lz, ix, E0, hb, fg, hx, gF, Option.bind_some, Ty.cc, vC, Dr, List.nil_append, List.append_nil, List.cons_append, ho, yZ, Ox, Tx, w4]
      . have Tx : ¬ nG ts[d] t < 0 := fun e => by have := IL.1 e; rw [hhi d VI (by omega)] at this; cases this
        rw [<- ih i d (by omega) h2 (by omega) (by omega)]
        simp only [jK, lu, dr, uI, Int.ofNat_lt, h, decide_true, pP, Eo, w1, LF, w2, L7, w3, Lz, ix, E0, hb, fg, hx, gF, Option.bind_some, Ty.cc, vC, Dr, List.nil_append, List.append_nil, List.cons_append, ho, yZ, Ox, Tx, decide_false, rN]
    . obtain rfl : i = q := by omega
      obtain rfl : j = i := by omega
      simp
end Go.Proofs.YtogojkhbplmifaaGreatDoor
end
section
set_option maxRecDepth 100000
namespace Go.Proofs.YtogojkhbplmifaaGreatDoor
open Go Go.Ai Go.Proofs
variable {c : ai}
def xL (ts : List Ty) (t : Ty) (q : Nat) : Bool := match ts[q]? with
  | some u => decide (nG u t = 0)
  | none => false
theorem Tz (x4 : Pos) (s : St) (F : Nat) (k2) (m : Nat) : aC c F k2 (m + 1) [.av, .func 162 [] [], .ptr x4 0, .int .i64 0, .int .i64 0, .int .i64 0] s =
      k2 [.av, .func 162 [] [], .ptr x4 0, .int .i64 0, .int .i64 0] s := by
  rw [aC]; simp
def slvT (k : Option Pos) (n : Nat) : AV := match k with
  | none => .av
  | some b => .slice b (0 + n * 3) (n - n) none 3
theorem acj (hc : Sem c) (ts : List Ty) (hl : ts.length <= 1000) (t : Ty) (q : Nat) (hq : q <= ts.length) (Ac : ∀ h (hh : h < ts.length), h < q -> ew ts[h] t = true) (hhi : ∀ h (hh : h < ts.length), q <= h -> ew ts[h] t = false)
    (tk : Option Pos) (s : St) (hw : Wf s) (h0 : tk = none -> ts = []) (hb : ∀ b, tk = some b -> s.heap.get b = some (.cells (ts.flatMap Ty.cells) 0)) :
    c 232 [jC tk ts.length 3, .agg t.cells, .func 162 [] []] s = some (.tuple [.int .i64 (q : Int), .bool (xL ts t q)], s) := by
  have b7 : Wf (au s (.cells t.cells 0)) := cF hw
  have qN : Plain (.tuple [.int .i64 (q : Int), .bool (xL ts t q)]) := Plain.tuple (by simp [Plain.int, Plain.bool])
  rw [kF hc 1001 (r := (.tuple [.int .i64 (q : Int), .bool (xL ts t q)], au s (.cells t.cells 0))), aI qN (bU hw)]
  rw [dU]
  cases tk with
  | none =>
    obtain rfl := h0 rfl
    obtain rfl : q = 0 := by simpa using hq
    have l0 : ∀ (K : AV -> St -> Option (AV × St)) (s : St), af c (.lenB .l) [.av] s K = K (.int .i64 0) s := fun K s => bw c K (fun H n => rfl) s
    have L : ∀ k2, aC c 1001 k2 1001 [.av, .func 162 [] [], .ptr s.next 0, .int .i64 0, .int .i64 0, .int .i64 0] (au s (.cells t.cells 0)) = _ := fun k2 => Tz (c := c) s.next _ 1001 k2 1000
    simp only [jC, uJ, dr, l0, DH, L, jK, lu, List.length_nil]
    simp [xL, l0, L]
  | some b =>
    have cE : (au s (.cells t.cells 0)).heap.get b = some (.cells (ts.flatMap Ty.cells) 0) := bU hw _ _ (hb b rfl)
    have l0 : ∀ (K : AV -> St -> Option (AV × St)) (s : St), af c (.lenB .l) [.slice b 0 ts.length none 3] s K = K (.int .i64 (ts.length : Int)) s := fun K s => bw c K (fun H n => rfl) s
    have L : ∀ k2, aC c 1001 k2 1001 [.slice b 0 ts.length none 3, .func 162 [] [], .ptr s.next 0, .int .i64 (ts.length : Int), .int .i64 0, .int .i64 (ts.length : Int)] (au s (.cells t.cells 0)) =
      k2 [.slice b 0 ts.length none 3, .func 162 [] [], .ptr s.next 0, .int .i64 (ts.length : Int), .int .i64 (q : Int)] (au s (.cells t.cells 0)) :=
      fun k2 => Wn hc ts hl t q hq Ac hhi b s.next _ b7 cE (cm _ _) 1001 k2 1000 0 ts.length (by omega) (by omega) (by omega) (by omega)
    simp only [jC, uJ, dr, l0, DH, L, jK, lu]
    by_cases h : q < ts.length
    . have ix := fun (K : AV -> Option (AV × St)) => eW K (fun H n => L8 H n 3 b ts.length .i64 q h)
      have ho := xJ hc ts[q] t _ b7
      have fg := L9 ts q h
      have ef : xL ts t q = decide (nG ts[q] t = 0) := by unfold xL; rw [List.getElem?_eq_getElem h]
      simp [h, ix, cE, fg, ho, ef, AV.cells]
    . have ef : xL ts t q = false := by unfold xL; rw [List.getElem?_eq_none (by omega)]
      simp [h, ef, AV.cells]
def Ao (ts : List Ty) (t : Ty) : Nat := match ts.getLast? with
  | none => 0
  | some u => if ew u t = true then ts.length else ts.length - 1
def OP (ts : List Ty) : Prop := ∀ i j (hj : j < ts.length) (hij : i < j), ew (ts[i]'(by omega)) ts[j] = true
theorem aan {ts : List Ty} {t : Ty} (hs : OP ts) (ht : ∀ u, ts.getLast? = some u -> ew t u = false) : Ao ts t <= ts.length /\ (∀ h (hh : h < ts.length), h < Ao ts t -> ew ts[h] t = true) /\ (∀ h (hh : h < ts.length), Ao ts t <= h -> ew ts[h] t = false) /\
    xL ts t (Ao ts t) = ot t ts.getLast? := by
  unfold Ao
  cases hl : ts.getLast? with
  | none =>
    have : ts = [] := by simpa using hl
    subst this; simp [xL, ot]
  | some u =>
    have cM : ts ≠ [] := fun e => by subst e; simp at hl
    have Pc : 0 < ts.length := List.length_pos_iff.2 cM
    have hu : ts[ts.length - 1]'(by omega) = u := by
      have := List.getLast?_eq_getElem? (l := ts)
      rw [hl, List.getElem?_eq_getElem (by omega)] at this
      exact (Option.some.inj this).symm
    have htu := ht u hl
    simp only
    cases hb : ew u t
    . simp only [Bool.false_eq_true, if_false]
      refine ⟨by omega, fun h hh bD => ?_, fun h hh hle => ?_, ?_⟩
      . have := hs h (ts.length - 1) (by omega) bD
        rw [hu] at this
        exact Wm this htu
      . obtain rfl : h = ts.length - 1 := by omega
        rw [hu]; exact hb
      . unfold xL
        rw [List.getElem?_eq_getElem (by omega), hu]
        have h1 : ¬ nG u t < 0 := fun e => by rw [IL.1 e] at hb; cases hb
        have h2 : ¬ 0 < nG u t := fun e => by rw [Ep.1 e] at htu; cases htu
        have : nG u t = 0 := by omega
        simp [this, ot, hb]
    . simp only [if_true]
      refine ⟨by omega, fun h hh _ => ?_, fun h hh hle => by omega, ?_⟩
      . by_cases e : h = ts.length - 1
        . subst e; rw [hu]; exact hb
        . have := hs h (ts.length - 1) (by omega) (by omega)
          rw [hu] at this
          exact BO this hb
      . unfold xL; rw [List.getElem?_eq_none (by omega)]; simp [ot, hb]
theorem TA (hc : Sem c) {s0 s : St} {bp mp : Pos} {gs : List cr} {ts : List Ty} {gk tk : Option Pos} (B : iK s0 s bp mp gs ts gk tk) (hl : ts.length <= 1000) (t : Ty) (bD : aA t.a t.b = true) (hs : OP ts) (ht : ∀ u, ts.getLast? = some u -> ew t u = false) :
    c 169 [.ptr bp 0, .str t.a, .str t.b] s = some (.tuple [.int .i64 (Ao ts t : Int), .bool (ot t ts.getLast?)], s) := by
  obtain ⟨p1, p2, p3, p4⟩ := aan hs ht
  rw [<- p4]
  have e0 : ∀ u : Ty, ew u ⟨t.a, t.b, 0⟩ = ew u t := fun u => rfl
  have e1 : xL ts ⟨t.a, t.b, 0⟩ (Ao ts t) = xL ts t (Ao ts t) := rfl
  have Rd := OK hc t.a t.b 0 bD s B.wf
  have nc := acj hc ts hl ⟨t.a, t.b, 0⟩ (Ao ts t) p1 (fun h hh hq => by rw [e0]; exact p2 h hh hq) (fun h hh hq => by rw [e0]; exact p3 h hh hq) tk s B.wf B.we.1 B.we.2
  rw [e1] at nc
  rw [BP hc 1 (r := (.tuple [.int .i64 (Ao ts t : Int), .bool (xL ts t (Ao ts t))], s)), aI (Plain.tuple (by simp [Plain.int, Plain.bool])) (bY.refl s)]
  rw [xM]
  have bq : gL (jC tk ts.length 3) (jC tk ts.length 3) = true := by cases tk; exact Fz; exact Dx _ _ _ _
  have wh := fun (K : AV -> Option (AV × St)) => uK K (p := bp) (o := 1) (h := s.heap) (h2 := s.heap) (v := jC tk ts.length 3) (by rw [B.book]; rfl) (by rw [B.book]; rfl) bq
  simp [Rd, wh, nc]
theorem HE (b : Pos) (off n es : Nat) : ¬ Plain (.slice b off n none es) := fun h => by
  have := h (fun _ => ⟨0, 0, off + n * es⟩) (fun _ => ⟨0, 0, 0⟩) (b.toNat + 1) 0 (fun _ => none) _ (.slice b off n none es n ⟨0, 0 + off, none⟩ (Nat.le_refl _) (fun c h => by cases h) (fun _ => ⟨by omega, rfl, by simp⟩) (fun _ => by omega))
  have := this.I8 rfl
  omega
theorem Rk (hc : Sem c) {s : St} (hw : Wf s) {tk : Option Pos} {ts : List Ty} {q : Pos} {row : List AV} (h0 : tk = none -> ts = []) (hb : ∀ b, tk = some b -> s.heap.get b = some (.cells (ts.flatMap Ty.cells) 0)) (hq : s.heap.get q = some (.cells row 0)) (hr : row.length = 3)
    (h1 : cY row = true) (hl : ts.length <= 1000) :
    ∃ s5, c 228 [jC tk ts.length 3, .int .i64 (ts.length : Int), .slice q 0 1 (some 1) 3] s = some (.slice s.next 0 (ts.length + 1) none 3, s5) /\ s5.heap.get s.next = some (.cells (ts.flatMap Ty.cells ++ row) 0) /\
      s5.next = s.next.succ /\ Wf s5 /\ ∀ p, tk ≠ some p -> p.toNat < s.next.toNat -> s5.heap.get p = s.heap.get p := by
  have hlen : ∀ ts : List Ty, (ts.flatMap Ty.cells).length = ts.length * 3 := fun ts => by
    induction ts with
    | nil => rfl
    | cons t ts ih => rw [List.flatMap_cons, List.length_append, ih, Ty.len, List.length_cons]; omega
  obtain ⟨s5, lK, r1, r2, r3, r4, r5, r6, r7, r8⟩ := ON (c := c) (es := 3) (bytes := 40) hw (k := tk) (n := ts.length) (fun h => by rw [h0 h]; rfl) (fun b b6 => ⟨_, hb b b6, hlen ts⟩) hq hr h1 (by omega) (by omega) (by omega)
  refine ⟨s5, ?_, ?_, r6, r7, r8⟩
  . rw [rq hc 1 (r := (.slice s.next 0 (ts.length + 1) none 3, s5))]
    . unfold tidy; rw [if_neg]; exact fun h => HE _ _ _ _ h.1
    rw [ng]
    have sl : ∀ (K : AV -> St -> Option (AV × St)) (s : St), af c (.sliceL 3 true false false) [jC tk ts.length 3, .int .i64 (ts.length : Int)] s K = K (slvT tk ts.length) s := fun K s => by
      refine bw c K (fun H n => ?_) s
      cases tk with
      | none => rw [h0 rfl]; rfl
      | some b => simp [jC, slvT, aE.run, nT, bounds, lN, iZ, iN]
    have l1 : ∀ (K : AV -> St -> Option (AV × St)) (s : St), af c (.lenB .l) [.slice q 0 1 (some 1) 3] s K = K (.int .i64 1) s := fun K s => bw c K (fun H n => rfl) s
    have l2 : ∀ (K : AV -> St -> Option (AV × St)) (s : St), af c (.lenB .l) [jC tk ts.length 3] s K = K (.int .i64 (ts.length : Int)) s := fun K s => bw c K (BL fun h => by rw [h0 h]; rfl) s
    simp [sl, l1, l2, r1]
  . cases tk with
    | none => rw [r2, r5 rfl, h0 rfl]; rfl
    | some b => rw [r2, r4 b _ rfl (hb b rfl)]
end Go.Proofs.YtogojkhbplmifaaGreatDoor
end
section
set_option maxRecDepth 100000
namespace Go.Proofs.YtogojkhbplmifaaGreatDoor
open Go Go.Ai Go.Proofs
variable {c : ai}
def qo (gs : List cr) (ts : List Ty) (t : Ty) : Int := if zb t = false then 23 else if l6 gs t = true then 6 else if ot t ts.getLast? = true then 5 else 0
theorem Ma (H : Pos -> Option AB) (n : Pos) (es : Nat) (b : Pos) (len : Nat) (cp : Option Nat) (k : IntKind) (i : Nat) (h : i < len) : aE.run H n (.idxA es none) [.slice b 0 len cp es, .int k (i : Int)] = some (.val (.ptr b (i * es))) := by
  simp [aE.run, qG, lN, wG, h]
theorem OQ {gs : List cr} {es : List (AV × AV × Nat)} (h : es.map (·.1) = gs.map fun g => .str g.name) (s : List Nat) :
    (¬ scan (iP gs s) gs.length 0 < 0 /\ ∃ j v, iV .s (.str s) es 0 = some (some (j, v))) \/ (scan (iP gs s) gs.length 0 < 0 /\ iV .s (.str s) es 0 = some none) := by
  rcases zF s gs es 0 h with ⟨a, b⟩ | ⟨a, b⟩
  . left; have := BN.2 a; exact ⟨by omega, b⟩
  . right; refine ⟨?_, b⟩
    have : ¬ 0 <= scan (iP gs s) gs.length 0 := fun e => a (BN.1 e)
    omega
theorem TB {s : St} {bp mp : Pos} {x y : AV} {es : List (AV × AV × Nat)} {cl : Nat} {gs : List cr} (hb : s.heap.get bp = some (.cells [x, y, .map mp] 0)) (hm : s.heap.get mp = some (.map es cl)) (he : es.map (·.1) = gs.map fun g => .str g.name)
    (t : Ty) (lb : Pos) (Mb : s.heap.get lb = some (.cells [.str t.a, .str t.b] 0)) (F : Nat) (k1 k2) :
    fW c F k1 k2 3 [.ptr bp 0, .str t.a, .str t.b, .int .u8 t.k, .slice lb 0 2 (some 2) 1, .int .i64 2, .int .i64 ((0 : Nat) : Int)] s = if l6 gs t = true then k1 [.int .i64 6] s else k2 [.ptr bp 0, .str t.a, .str t.b, .int .u8 t.k] s := by
  have w0 : aM .i64 (((0 : Nat) : Int) + 1) = ((1 : Nat) : Int) := rfl
  have w1 : aM .i64 (((1 : Nat) : Int) + 1) = ((2 : Nat) : Int) := rfl
  have i0 : ∀ (K : AV -> St -> Option (AV × St)) (s : St), af c (.idxA 1 none) [.slice lb 0 2 (some 2) 1, .int .i64 ((0 : Nat) : Int)] s K = K (.ptr lb 0) s := fun K s => bw c K (fun H n => Ma H n 1 lb 2 (some 2) .i64 0 (by omega)) s
  have i1 : ∀ (K : AV -> St -> Option (AV × St)) (s : St), af c (.idxA 1 none) [.slice lb 0 2 (some 2) 1, .int .i64 ((1 : Nat) : Int)] s K = K (.ptr lb 1) s := fun K s => bw c K (fun H n => Ma H n 1 lb 2 (some 2) .i64 1 (by omega)) s
  have d0 : decide (((0 : Nat) : Int) < 2) = true := rfl
  have d1 : decide (((1 : Nat) : Int) < 2) = true := rfl
  have d2 : decide (((2 : Nat) : Int) < 2) = false := rfl
  have e0 : ([AV.str t.a, .str t.b] : List AV)[0]? = some (.str t.a) := rfl
  have e1 : ([AV.str t.a, .str t.b] : List AV)[1]? = some (.str t.b) := rfl
  have e2 : ([x, y, AV.map mp] : List AV)[2]? = some (.map mp) := rfl
  rw [fW]
  rcases OQ he t.a with ⟨n1, j, v, f1⟩ | ⟨n1, f1⟩
  . have lk1 := fun (K : AV -> St -> Option (AV × St)) => y5 c K (.int .i64 0) (k := .str t.a) hm f1
    simp only [jK, lu, uI, d0, pP, i0, qL, Mb, hb, gF, Option.bind_some, e0, e2, sH, dr, qJ, nD, Nat.zero_add, lk1, u6, List.getElem?_cons_zero, List.getElem?_cons_succ, En, Bool.not_true, rN, Eo, w0]
    rw [fW]
    rcases OQ he t.b with ⟨n2, j, v, f2⟩ | ⟨n2, f2⟩
    . have lk2 := fun (K : AV -> St -> Option (AV × St)) => y5 c K (.int .i64 0) (k := .str t.b) hm f2
      simp only [jK, lu, uI, d1, pP, i1, qL, Mb, hb, gF, Option.bind_some, e1, e2, sH, dr, qJ, nD, Nat.zero_add, lk2, u6, List.getElem?_cons_zero, List.getElem?_cons_succ, En, Bool.not_true, rN, Eo, w1]
      rw [fW]
      have : l6 gs t = false := by simp [l6, n1, n2]
      rw [this]
      simp only [jK, lu, uI, d2, rN, Bool.false_eq_true, if_false]
    . have lk2 := fun (K : AV -> St -> Option (AV × St)) => y5 c K (.int .i64 0) (k := .str t.b) hm f2
      have : l6 gs t = true := by simp [l6, n2]
      rw [this]
      simp only [jK, lu, uI, d1, pP, i1, qL, Mb, hb, gF, Option.bind_some, e1, e2, sH, dr, qJ, nD, Nat.zero_add, lk2, u6, List.getElem?_cons_zero, List.getElem?_cons_succ, En, Bool.not_false, if_true]
  . have lk1 := fun (K : AV -> St -> Option (AV × St)) => y5 c K (.int .i64 0) (k := .str t.a) hm f1
    have : l6 gs t = true := by simp [l6, n1]
    rw [this]
    simp only [jK, lu, uI, d0, pP, i0, qL, Mb, hb, gF, Option.bind_some, e0, e2, sH, dr, qJ, nD, Nat.zero_add, lk1, u6, List.getElem?_cons_zero, List.getElem?_cons_succ, En, Bool.not_false, if_true]
set_option maxHeartbeats 1000000 in
theorem aao (hc : Sem c) {s0 s : St} {bp mp : Pos} {gs : List cr} {ts : List Ty} {gk tk : Option Pos} (An : Wf s0) (B : iK s0 s bp mp gs ts gk tk) (hl : ts.length <= 200) (t : Ty) (bD : aA t.a t.b = true) (hs : OP ts) (ht : ∀ u, ts.getLast? = some u -> ew t u = false) :
    ∃ s', c 163 [.ptr bp 0, .str t.a, .str t.b, .int .u8 t.k] s = some (.int .i64 (qo gs ts t), s') /\ (qo gs ts t ≠ 0 -> s' = s) /\ (qo gs ts t = 0 -> ∃ Rm, iK s0 s' bp mp gs (ts ++ [t]) gk Rm) := by
  have cM : ¬ t.a = t.b := fun e => by rw [e, qj] at bD; cases bD
  have lp := OM hc s bp mp _ _ B.book
  have OL : zb t = true -> (t.k = 1 \/ (¬ t.k = 1 /\ t.k = 2)) := fun q => by
    simp only [zb, Bool.or_eq_true, decide_eq_true_eq] at q
    by_cases e : t.k = 1
    . exact .inl e
    . exact .inr ⟨e, q.resolve_left e⟩
  by_cases hk : zb t = true
  . have b7 : Wf (au s (.cells [.str t.a, .str t.b] 0)) := cF B.wf
    have B1 := B.L5 (Grew.au B.wf (.cells [.str t.a, .str t.b] 0))
    have Hy := Grew.au B.wf (.cells [.str t.a, .str t.b] 0)
    have Mb : (au s (.cells [.str t.a, .str t.b] 0)).heap.get s.next = some (.cells [.str t.a, .str t.b] 0) := cm _ _
    generalize DJ : au s (.cells [.str t.a, .str t.b] 0) = s1 at b7 B1 Hy Mb
    obtain ⟨es, cl, vE, VE⟩ := B1.BM
    have L : ∀ k1 k2, fW c 3 k1 k2 3 [.ptr bp 0, .str t.a, .str t.b, .int .u8 t.k, .slice s.next 0 2 (some 2) 1, .int .i64 2, .int .i64 0] s1 = if l6 gs t = true then k1 [.int .i64 6] s1 else k2 [.ptr bp 0, .str t.a, .str t.b, .int .u8 t.k] s1 := fun k1 k2 => TB (c := c) B1.book vE VE t s.next Mb 3 k1 k2
    have qN := TA hc B1 (by omega) t bD hs ht
    have l2 : ∀ (K : AV -> St -> Option (AV × St)) (s : St), af c (.lenB .l) [.slice (au s (.cells [] 0)).next 0 2 (some 2) 1] s K = K (.int .i64 2) s := fun K s => bw c K (fun H n => rfl) s
    have lT : ∀ (K : AV -> St -> Option (AV × St)) (s : St), af c (.lenB .l) [jC tk ts.length 3] s K = K (.int .i64 (ts.length : Int)) s := fun K s => bw c K (BL fun h => by rw [B.we.1 h]; rfl) s
    have OR : ∀ (K : AV -> St -> Option (AV × St)), af c (.buildSlice 1 2 [(.str [])] [0, 1]) [.str t.a, .str t.b] s K = K (.slice s.next 0 2 (some 2) 1) s1 := fun K => by
      rw [mG, <- DJ]
      have : cL (cv [AV.str []] 2) ([0, 1].map fun i => (i * 1, 1)) [.str t.a, .str t.b] = some [.str t.a, .str t.b] := by simp [cL, cv, iZ, iN, bg, AV.cells]
      rw [this]; rfl
    have l3 : ∀ (K : AV -> St -> Option (AV × St)) (p : Pos) (s : St), af c (.lenB .l) [.slice p 0 2 (some 2) 1] s K = K (.int .i64 2) s := fun K p s => bw c K (fun H n => rfl) s
    have IN : ¬ (ts.length : Int) = 256 := by omega
    have fail : ∀ e : Int, e ≠ 0 -> qo gs ts t = e -> jM c 3 (.ptr bp 0) (.str t.a) (.str t.b) (.int .u8 t.k) s = some (.int .i64 e, s1) -> ∃ s', c 163 [.ptr bp 0, .str t.a, .str t.b, .int .u8 t.k] s = some (.int .i64 (qo gs ts t), s') /\ (qo gs ts t ≠ 0 -> s' = s) /\ (qo gs ts t = 0 -> ∃ Rm, iK s0 s' bp mp gs (ts ++ [t]) gk Rm) := fun e he ha h => by
      refine ⟨s, ?_, fun _ => rfl, fun h0 => absurd (ha.symm.trans h0) he⟩
      rw [qp hc 3 h, ha, aI (Plain.int _ _) Hy.keeps]
    cases hu : l6 gs t
    . cases hd : ot t ts.getLast?
      . have he : qo gs ts t = 0 := by simp [qo, hk, hu, hd]
        rw [hd] at qN
        have hplc : (Ao ts t : Int) = ts.length := by
          unfold Ao
          cases hq : ts.getLast? with
          | none => have : ts = [] := by simpa using hq
                    subst this; rfl
          | some u =>
            rw [hq] at hd
            simp only [ot, Bool.not_eq_false'] at hd
            simp only [hd, if_true]
        rw [hplc] at qN
        have Rd := OK hc t.a t.b t.k bD s1 b7
        let s2 := au s1 (.cells t.cells 0)
        have g2 := Grew.au b7 (.cells t.cells 0)
        have B2 := B1.L5 g2
        obtain ⟨s5, r1, r2, r3, r4, r5⟩ := Rk hc (s := s2) g2.wf (tk := tk) (ts := ts) (q := s1.next) (row := t.cells) B.we.1 B2.we.2 (cm _ _) rfl t.one (by omega)
        have lt2 := B2.lt
        have b5 : s5.heap.get bp = some (.cells [jC gk gs.length 9, jC tk ts.length 3, .map mp] 0) := by rw [r5 bp B.dt lt2.1]; exact B2.book
        let tv := AV.slice s2.next 0 (ts.length + 1) none 3
        let s6 := oM s5 bp (.cells [jC gk gs.length 9, tv, .map mp] 0)
        have Tv : bp.toNat < s5.next.toNat := r4 _ _ b5
        have nb2 : bp ≠ s2.next := fun e => absurd (show bp.toNat < s2.next.toNat from lt2.1) (by rw [e]; exact Nat.lt_irrefl _)
        have VH : ∀ (K : AV -> St -> Option (AV × St)), af c (.store 1) [.ptr bp 1, tv] s5 K = K .undef s6 := fun K => vD c K s5 1 bp 1 tv _ b5 rfl (by simp) rfl
        have g6 : ∀ p, p ≠ bp -> s6.heap.get p = s5.heap.get p := fun p h => ir (fun e => h e.symm)
        have Tw : ∀ p : Pos, s0.next.toNat <= p.toNat -> s0.heap.get p = none := fun p h => by
          cases hx : s0.heap.get p with
          | none => rfl
          | some x => have := An _ _ hx; omega
        obtain ⟨EN, cl2, Rn, hm4⟩ := B2.BM
        have VF : mp ≠ bp := fun e => by rw [e, B2.book] at Rn; cases Rn
        have nmt : tk ≠ some mp := fun e => by rw [B2.we.2 mp e] at Rn; cases Rn
        have L6 : iK s0 s6 bp mp gs (ts ++ [t]) gk (some s2.next) := {
          wf := Dv r4 Tv
          keeps := fun p x hp => by
            have n1 : p ≠ bp := fun e => by rw [e, B.fb] at hp; cases hp
            have n3 : tk ≠ some p := fun e => by rw [B.ft p e] at hp; cases hp
            have h2 := B2.keeps p x hp
            rw [g6 p n1, r5 p n3 (B2.wf _ _ h2)]; exact h2
          next := by show s0.next.toNat <= s5.next.toNat; exact Nat.le_trans B2.next (by rw [r3, Pos.aL]; exact Nat.le_succ _)
          book := by show (oM _ _ _).heap.get bp = _; rw [Af]; simp [tv, jC]
          BM := ⟨EN, cl2, by rw [g6 mp VF, r5 mp nmt lt2.2]; exact Rn, hm4⟩
          xK := ⟨B.xK.1, fun b hb => by
            obtain ⟨cs, h3, h4⟩ := B2.xK.2 b hb
            refine ⟨cs, ?_, h4⟩
            rw [g6 b (fun e => B.dg (by rw [<- e]; exact hb)), r5 b (B.LZ b hb) (B2.wf _ _ h3)]; exact h3⟩
          we := ⟨fun h => (by cases h), fun b hb => by
            cases hb
            rw [g6 _ (fun e => nb2 e.symm), r2]; simp⟩
          dg := B.dg
          dt := fun e => nb2 (by injection e with e; exact e.symm)
          LZ := fun b hb h => by
            cases h
            obtain ⟨cs, h3, h4⟩ := B2.xK.2 _ hb
            exact absurd (show s2.next.toNat < s2.next.toNat from B2.wf _ _ h3) (Nat.lt_irrefl _)
          fb := B.fb
          fm := B.fm
          fg := B.fg
          ft := fun b hb => by cases hb; exact Tw _ B2.next }
        refine ⟨s6, ?_, fun h => absurd he h, fun _ => ⟨_, L6⟩⟩
        rw [he]
        rw [qp hc 3 (r := (.int .i64 0, s6))]
        . rw [OH (b := bp) B.book]
          rw [L6.book]
          intro e
          have e := congrArg (fun o => match o with | some (AB.cells (_ :: v :: _) _) => eH v | _ => none) e
          simp only [jC, eH] at e
          cases tk with
          | none => simp [eH, B.we.1 rfl] at e
          | some b => simp [eH] at e
        rw [jM]
        have bq : gL (jC tk ts.length 3) (jC tk ts.length 3) = true := by cases tk; exact Fz; exact Dx _ _ _ _
        have wh := fun (K : AV -> Option (AV × St)) => uK K (p := bp) (o := 1) (h := s1.heap) (h2 := s1.heap) (v := jC tk ts.length 3) (by rw [B1.book]; rfl) (by rw [B1.book]; rfl) bq
        have wA : cL (cv [AV.str [], AV.str [], .int .u8 0] 1) [(0, 3)] [AV.agg t.cells] = some t.cells := by
          simp [cL, cv, iZ, iN, Ty.cells, bg]
        have VJ : decide ((ts.length : Int) = 256) = false := decide_eq_false IN
        rw [hu] at L
        rcases OL hk with f | ⟨f, f2⟩
        . have d1 : decide (t.k = 1) = true := decide_eq_true f
          simp [-mG, lp, cM, OR, l3, d1, L, qN, B1.book, lT, VJ, Rd, wh, wA]
          show Fy (c 228 [jC tk ts.length 3, .int .i64 (ts.length : Int), .slice s1.next 0 1 (some 1) 3] s2) _ = _
          rw [r1]
          exact VH _
        . have d1 : decide (t.k = 1) = false := decide_eq_false f
          have d2 : decide (t.k = 2) = true := decide_eq_true f2
          simp [-mG, lp, cM, OR, l3, d1, d2, L, qN, B1.book, lT, VJ, Rd, wh, wA]
          show Fy (c 228 [jC tk ts.length 3, .int .i64 (ts.length : Int), .slice s1.next 0 1 (some 1) 3] s2) _ = _
          rw [r1]
          exact VH _
      . refine fail 5 (by omega) (by simp [qo, hk, hu, hd]) ?_
        rw [hd] at qN
        rw [hu] at L
        rw [jM]
        rcases OL hk with f | ⟨f, f2⟩
        . have d1 : decide (t.k = 1) = true := decide_eq_true f
          simp [-mG, lp, cM, OR, l3, d1, L, qN]
        . have d1 : decide (t.k = 1) = false := decide_eq_false f
          have d2 : decide (t.k = 2) = true := decide_eq_true f2
          simp [-mG, lp, cM, OR, l3, d1, d2, L, qN]
    . refine fail 6 (by omega) (by simp [qo, hk, hu]) ?_
      rw [hu] at L
      rw [jM]
      rcases OL hk with f | ⟨f, f2⟩
      . have d1 : decide (t.k = 1) = true := decide_eq_true f
        simp [-mG, lp, cM, OR, l3, d1, L]
      . have d1 : decide (t.k = 1) = false := decide_eq_false f
        have d2 : decide (t.k = 2) = true := decide_eq_true f2
        simp [-mG, lp, cM, OR, l3, d1, d2, L]
  . have VD : ¬ t.k = 1 /\ ¬ t.k = 2 := by simpa [zb] using hk
    have he : qo gs ts t = 23 := by simp [qo, hk]
    refine ⟨s, ?_, fun _ => rfl, fun h0 => absurd (he.symm.trans h0) (by omega)⟩
    rw [qp hc 3 (r := (.int .i64 23, s)), he, aI (Plain.int _ _) (bY.refl s)]
    rw [jM]
    simp [lp, VD]
end Go.Proofs.YtogojkhbplmifaaGreatDoor
end
section
set_option maxRecDepth 100000
namespace Go.Proofs.YtogojkhbplmifaaGreatDoor
open Go Go.Ai Go.Proofs
variable {c : ai}
@[simp] theorem adl {R : Type} (K : AV -> Option R) (z : Bool) (l : List cr) : aB (.lenB .l) [cC z l] K = K (.int .i64 (l.length : Int)) := by unfold cC; rw [Td]; simp
theorem TC {gs : List cr} {k : Nat} (h : k < gs.length) (hk : k <= 64) : qm (gs.take k) gs[k] = if gX gs[k] ≠ 0 then gX gs[k] else if 0 <= scan (iP gs gs[k].name) k 0 then 5 else if 64 <= k then 7 else 0 := by
  have hl : (gs.take k).length = k := by simp; omega
  unfold qm
  rw [hl, LY (by omega)]
  have : (k = 64) ↔ 64 <= k := by omega
  simp only [this]
@[simp] theorem ack {R : Type} (c : ai) (K : AV -> St -> Option R) (st : St) (t : cr) (cs : List AV) (h : cs.length = 9) : af c (.store 9) [.ptr st.next 0, .agg t.cells] (au st (.cells cs 0)) K = K .undef (au st (.cells t.cells 0)) := Ct c K st 9 (.agg t.cells) cs rfl h.symm t.one
theorem Wo (hc : Sem c) {s0 : St} (An : Wf s0) (z : Bool) (gs : List cr) (hl : gs.length <= 100) (bp mp rp : Pos) (F : Nat) (k1 k2) : ∀ (m k : Nat) (s : St) (gk : Option Pos), iK s0 s bp mp (gs.take k) [] gk none -> gs.length <= k + m -> k <= gs.length -> k <= 64 ->
    ∃ s', bY s0 s' /\ (((je gs m k).2 = 0 /\ (∃ Hz, iK s0 s' bp mp gs [] Hz none) /\ eU c F k1 k2 (m + 1) [.ptr rp 0, .ptr bp 0, cC z gs, .int .i64 (gs.length : Int), .int .i64 (k : Int)] s = k2 [.ptr rp 0, .ptr bp 0] s') \/
      ((je gs m k).2 ≠ 0 /\ eU c F k1 k2 (m + 1) [.ptr rp 0, .ptr bp 0, cC z gs, .int .i64 (gs.length : Int), .int .i64 (k : Int)] s = k1 [.cU, .int .i64 (je gs m k).1, .int .i64 (je gs m k).2] s')) := by
  intro m
  induction m with
  | zero =>
    intro k s gk B h1 h2 h3
    obtain rfl : k = gs.length := by omega
    refine ⟨s, B.keeps, .inl ⟨rfl, ⟨gk, by simpa using B⟩, ?_⟩⟩
    rw [eU]
    simp
  | succ m ih =>
    intro k s gk B h1 h2 h3
    by_cases h : k < gs.length
    . have w : aM .i64 ((k : Int) + 1) = ((k + 1 : Nat) : Int) := wrap64 (by omega) (by omega)
      have B1 := B.L5 (Grew.au B.wf (.cells gs[k].cells 0))
      obtain ⟨s2, a1, a2, a3⟩ := aam hc An B1 (by simp; omega) gs[k]
      have hA := TC h h3
      have step : ∀ (K : AV -> St -> Option (AV × St)), (af c (.idxA 9 none) [cC z gs, .int .i64 (k : Int)] s fun bF bt => af c (.load (some 9)) [bF] bt K) = K (.agg gs[k].cells) s := fun K => by
        simp [cC, h]
      by_cases he : qm (gs.take k) gs[k] = 0
      . obtain ⟨Hz, B2⟩ := a3 he
        have e1 : gs.take k ++ [gs[k]] = gs.take (k + 1) := (List.take_succ_eq_append_getElem h).symm
        rw [e1] at B2
        rw [hA] at he
        have c1 : gX gs[k] = 0 := by
          by_cases e : gX gs[k] = 0
          . exact e
          . rw [if_pos e] at he; exact absurd he e
        rw [if_neg (by rw [c1]; simp)] at he
        have c2 : ¬ 0 <= scan (iP gs gs[k].name) k 0 := fun e => by rw [if_pos e] at he; cases he
        rw [if_neg c2] at he
        have c3 : ¬ 64 <= k := fun e => by rw [if_pos e] at he; cases he
        have ec : je gs (m + 1) k = je gs m (k + 1) := by
          rw [je, List.getElem?_eq_getElem h]; simp only
          rw [if_neg (by rw [c1]; simp), if_neg c2, if_neg c3]
        obtain ⟨s', g1, g2⟩ := ih (k + 1) s2 Hz B2 (by omega) (by omega) (by omega)
        refine ⟨s', g1, ?_⟩
        rw [ec]
        have eL : eU c F k1 k2 (m + 1 + 1) [.ptr rp 0, .ptr bp 0, cC z gs, .int .i64 (gs.length : Int), .int .i64 (k : Int)] s = eU c F k1 k2 (m + 1) [.ptr rp 0, .ptr bp 0, cC z gs, .int .i64 (gs.length : Int), .int .i64 ((k + 1 : Nat) : Int)] s2 := by
          rw [eU]
          have hz : qm (gs.take k) gs[k] = 0 := by rw [hA, if_neg (by rw [c1]; simp), if_neg c2, if_neg c3]
          rw [hz] at a1
          simp [cC, h, a1, w]
        rw [eL]; exact g2
      . obtain rfl := a2 he
        have ec : je gs (m + 1) k = ((k : Int), qm (gs.take k) gs[k]) := by
          rw [je, List.getElem?_eq_getElem h]; simp only
          rw [hA] at he ⊢
          by_cases c1 : gX gs[k] = 0
          . have e1 : ¬ gX gs[k] ≠ 0 := by rw [c1]; simp
            by_cases c2 : 0 <= scan (iP gs gs[k].name) k 0
            . simp only [e1, c2, if_false, if_true]
            . by_cases c3 : 64 <= k
              . simp only [e1, c2, c3, if_false, if_true]
              . rw [if_neg e1, if_neg c2, if_neg c3] at he; exact absurd rfl he
          . have e1 : gX gs[k] ≠ 0 := c1
            rw [if_pos e1, if_pos e1]
        refine ⟨_, B1.keeps, .inr ⟨by rw [ec]; exact he, ?_⟩⟩
        rw [ec, eU]
        simp [cC, h, a1, he]
    . obtain rfl : k = gs.length := by omega
      have ec : je gs (m + 1) gs.length = (0, 0) := by rw [je, List.getElem?_eq_none (by omega)]
      refine ⟨s, B.keeps, .inl ⟨by rw [ec], ⟨gk, by simpa using B⟩, ?_⟩⟩
      rw [eU]
      simp
theorem FH {ts : List Ty} {k : Nat} (h : k < ts.length) : (ts.take k).getLast? = lR ts k := by
  unfold lR
  by_cases h0 : k = 0
  . simp [h0]
  . rw [if_neg h0, List.getLast?_eq_getElem?]
    have : (ts.take k).length = k := by simp; omega
    rw [this, List.getElem?_take, if_pos (by omega)]
theorem TD {ts : List Ty} {k : Nat} (h : k < ts.length) (hs : OP (ts.take k)) (hb : ∀ u, lR ts k = some u -> ew u ts[k] = true) : OP (ts.take (k + 1)) := by
  intro i j hj hij
  have yI : j < k + 1 := by simp at hj; omega
  simp only [List.getElem_take]
  by_cases e : j = k
  . subst e
    have h1 : lR ts j = some (ts[j - 1]'(by omega)) := by rw [lR, if_neg (by omega), List.getElem?_eq_getElem (by omega)]
    have h2 := hb _ h1
    by_cases e2 : i = j - 1
    . subst e2; exact h2
    . have h3 := hs i (j - 1) (by simp; omega) (by omega)
      simp only [List.getElem_take] at h3
      exact BO h3 h2
  . have := hs i j (by simp; omega) hij
    simpa only [List.getElem_take] using this
def HF (t : Ty) (p : Option Ty) : Bool := match p with | none => false | some p => ew t p
theorem TE (t : Ty) (p : Option Ty) : KG t p = (!zb t || !aA t.a t.b || HF t p) := by cases p <;> rfl
def Mc (t : Ty) (p : Option Ty) : Bool := aA t.a t.b && !HF t p
def eK (gs : List cr) (ts : List Ty) (k : Nat) (t : Ty) : Int := if Mc t (lR ts k) = true then qo gs (ts.take k) t else 23
set_option maxHeartbeats 1000000 in
theorem Wp (hc : Sem c) {s0 : St} (An : Wf s0) (z z2 : Bool) (gs : List cr) (ts : List Ty) (hl : gs.length <= 100) (k9 : ts.length <= 100) (bp mp rp : Pos) (De : s0.heap.get rp = some (.cells [cC z gs, fk z2 ts] 0)) (gk : Option Pos) (F : Nat) (k1 k4) : ∀ (m k : Nat) (s : St) (tk : Option Pos), iK s0 s bp mp gs (ts.take k) gk tk -> OP (ts.take k) -> ts.length <= k + m -> k <= ts.length ->
    ∃ s', bY s0 s' /\ fK c F k1 k4 (m + 1) [.ptr rp 0, .ptr bp 0, fk z2 ts, .int .i64 (ts.length : Int), .int .i64 (k : Int)] s = if (gN gs ts m k).2 = 0 then k4 [.ptr bp 0] s' else k1 [.cU, .int .i64 (gN gs ts m k).1, .int .i64 (gN gs ts m k).2] s' := by
  intro m
  induction m with
  | zero =>
    intro k s tk B hs h1 h2
    obtain rfl : k = ts.length := by omega
    refine ⟨s, B.keeps, ?_⟩
    rw [fK]
    simp [gN]
  | succ m ih =>
    intro k s tk B hs h1 h2
    by_cases h : k < ts.length
    . have w : aM .i64 ((k : Int) + 1) = ((k + 1 : Nat) : Int) := wrap64 (by omega) (by omega)
      have wg : aM .i64 ((gs.length : Int) + (k : Int)) = (gs.length : Int) + k := wrap64 (by omega) (by omega)
      have B1 := B.L5 (Grew.au B.wf (.cells ts[k].cells 0))
      have fh : (au s (.cells ts[k].cells 0)).heap.get rp = some (.cells [cC z gs, fk z2 ts] 0) := B1.keeps _ _ De
      have b7 := B1.wf
      have IN : ¬ 256 <= k := by omega
      have ec : gN gs ts (m + 1) k = if eK gs ts k ts[k] ≠ 0 then ((gs.length : Int) + k, eK gs ts k ts[k]) else gN gs ts m (k + 1) := by
        rw [gN, List.getElem?_eq_getElem h]
        simp only [IN, if_false]
        rw [TE]
        unfold eK Mc qo
        rw [FH h]
        cases zb ts[k] <;> cases aA ts[k].a ts[k].b <;> cases HF ts[k] (lR ts k) <;> cases l6 gs ts[k] <;> cases ot ts[k] (lR ts k) <;> simp
      have Fq : Mc ts[k] (lR ts k) = true -> ∃ s', bY s0 s' /\ ∃ s2, c 163 [.ptr bp 0, .str ts[k].a, .str ts[k].b, .int .u8 ts[k].k] (au s (.cells ts[k].cells 0)) = some (.int .i64 (eK gs ts k ts[k]), s2) /\ s2.heap.get rp = some (.cells [cC z gs, fk z2 ts] 0) /\
          (eK gs ts k ts[k] ≠ 0 -> s' = s2) /\ (eK gs ts k ts[k] = 0 ->
            fK c F k1 k4 (m + 1) [.ptr rp 0, .ptr bp 0, fk z2 ts, .int .i64 (ts.length : Int), .int .i64 ((k + 1 : Nat) : Int)] s2 = if (gN gs ts m (k + 1)).2 = 0 then k4 [.ptr bp 0] s' else k1 [.cU, .int .i64 (gN gs ts m (k + 1)).1, .int .i64 (gN gs ts m (k + 1)).2] s') := fun dx => by
        have Md := dx
        simp only [Mc, Bool.and_eq_true, Bool.not_eq_true'] at Md
        obtain ⟨b2, b3⟩ := Md
        have acm : ∀ u, (ts.take k).getLast? = some u -> ew ts[k] u = false := fun u hu => by
          rw [FH h] at hu; rw [hu] at b3; exact b3
        obtain ⟨s2, a1, a2, a3⟩ := aao hc An B1 (by simp; omega) ts[k] b2 hs acm
        have et : eK gs ts k ts[k] = qo gs (ts.take k) ts[k] := by unfold eK; rw [if_pos dx]
        rw [<- et] at a1 a2 a3
        by_cases h0 : eK gs ts k ts[k] = 0
        . obtain ⟨Rm, B2⟩ := a3 h0
          have e1 : ts.take k ++ [ts[k]] = ts.take (k + 1) := (List.take_succ_eq_append_getElem h).symm
          rw [e1] at B2
          have hd : ot ts[k] (lR ts k) = false := by
            rw [et, qo, FH h] at h0
            cases hq : ot ts[k] (lR ts k)
            . rfl
            . rw [hq] at h0
              split at h0
              . simp at h0
              . split at h0 <;> simp at h0
          have hs2 := TD h hs (fun u hu2 => by rw [hu2] at hd; simpa [ot] using hd)
          obtain ⟨s', g1, g2⟩ := ih (k + 1) s2 Rm B2 hs2 (by omega) (by omega)
          exact ⟨s', g1, s2, a1, B2.keeps _ _ De, fun e => absurd h0 e, fun _ => g2⟩
        . obtain rfl := a2 h0
          exact ⟨_, B1.keeps, _, a1, fh, fun _ => rfl, fun e => absurd e h0⟩
      rw [ec]
      cases dx : Mc ts[k] (lR ts k)
      ·
        have e23 : eK gs ts k ts[k] = 23 := by unfold eK; rw [dx]; rfl
        refine ⟨_, B1.keeps, ?_⟩
        rw [fK, e23]
        cases q1 : aA ts[k].a ts[k].b
        . simp [fk, h, q1, eo, fh, wg]
        . have q2 : HF ts[k] (lR ts k) = true := by simpa [Mc, q1] using dx
          have sD : ¬ k = 0 := fun e => by rw [lR, if_pos e] at q2; cases q2
          have nE : k - 1 < ts.length := by omega
          have wk : aM .i64 ((k : Int) - 1) = ((k - 1 : Nat) : Int) := by rw [wrap64 (by omega) (by omega)]; omega
          have q3 : ew ts[k] ts[k - 1] = true := by rw [lR, if_neg sD, List.getElem?_eq_getElem nE] at q2; exact q2
          have ho := xJ hc ts[k - 1] ts[k] _ b7
          have z7 : ¬ nG ts[k - 1] ts[k] <= 0 := by have := Ep.2 q3; omega
          simp [fk, h, q1, eo, fh, wg, sD, nE, wk, ho, z7]
      . obtain ⟨s', g1, s2, t1, t2, t3, t4⟩ := Fq dx
        refine ⟨s', g1, ?_⟩
        rw [fK]
        have Md := dx
        simp only [Mc, Bool.and_eq_true, Bool.not_eq_true'] at Md
        obtain ⟨q1, q2⟩ := Md
        by_cases he : eK gs ts k ts[k] = 0
        . have t4 := t4 he
          rw [he] at t1
          simp only [he, ne_eq, not_true, if_false]
          rw [<- t4]
          by_cases sD : k = 0
          . have dk : decide ((k : Int) = 0) = true := decide_eq_true (by omega)
            have dk' : decide (k = 0) = true := decide_eq_true sD
            clear sD
            simp [fk, h, q1, eo, fh, dk, dk', t1, w]
          . have nE : k - 1 < ts.length := by omega
            have wk : aM .i64 ((k : Int) - 1) = ((k - 1 : Nat) : Int) := by rw [wrap64 (by omega) (by omega)]; omega
            have q3 : ew ts[k] ts[k - 1] = false := by rw [lR, if_neg sD, List.getElem?_eq_getElem nE] at q2; exact q2
            have ho := xJ hc ts[k - 1] ts[k] _ b7
            have z7 : nG ts[k - 1] ts[k] <= 0 := by
              have : ¬ 0 < nG ts[k - 1] ts[k] := fun e => by rw [Ep.1 e] at q3; cases q3
              omega
            simp [fk, h, q1, eo, fh, sD, nE, wk, ho, z7, t1, w]
        . obtain rfl := t3 he
          simp only [he, ne_eq, not_false_eq_true, if_true, if_false]
          by_cases sD : k = 0
          . have dk : decide ((k : Int) = 0) = true := decide_eq_true (by omega)
            have dk' : decide (k = 0) = true := decide_eq_true sD
            clear sD
            simp [fk, h, q1, eo, fh, dk, dk', t1, t2, wg, he]
          . have nE : k - 1 < ts.length := by omega
            have wk : aM .i64 ((k : Int) - 1) = ((k - 1 : Nat) : Int) := by rw [wrap64 (by omega) (by omega)]; omega
            have q3 : ew ts[k] ts[k - 1] = false := by rw [lR, if_neg sD, List.getElem?_eq_getElem nE] at q2; exact q2
            have ho := xJ hc ts[k - 1] ts[k] _ b7
            have z7 : nG ts[k - 1] ts[k] <= 0 := by
              have : ¬ 0 < nG ts[k - 1] ts[k] := fun e => by rw [Ep.1 e] at q3; cases q3
              omega
            simp [fk, h, q1, eo, fh, sD, nE, wk, ho, z7, t1, t2, wg, he]
    . obtain rfl : k = ts.length := by omega
      refine ⟨s, B.keeps, ?_⟩
      rw [fK]
      have ec : gN gs ts (m + 1) ts.length = (0, 0) := by rw [gN, List.getElem?_eq_none (by omega)]
      simp [ec]
theorem IP (hc : Sem c) (z z2 : Bool) (gs : List cr) (ts : List Ty) (hl : gs.length <= 100) (k9 : ts.length <= 100) (s : St) (hw : Wf s) :
    ∃ v s', c 77 [.agg [cC z gs, fk z2 ts]] s = some (.tuple [v, .int .i64 (cW gs ts).1, .int .i64 (cW gs ts).2], s') /\ bY s s' := by
  let s0 := au s (.cells [cC z gs, fk z2 ts] 0)
  have An : Wf s0 := cF hw
  have k0 : bY s s0 := bU hw
  have De : s0.heap.get s.next = some (.cells [cC z gs, fk z2 ts] 0) := cm _ _
  have Fo := aal hc s0
  have B := iK.start An
  have finish : ∀ {v : AV} {s' : St}, tH c 102 (.agg [cC z gs, fk z2 ts]) s = some (.tuple [v, .int .i64 (cW gs ts).1, .int .i64 (cW gs ts).2], s') -> bY s0 s' ->
      ∃ v s', c 77 [.agg [cC z gs, fk z2 ts]] s = some (.tuple [v, .int .i64 (cW gs ts).1, .int .i64 (cW gs ts).2], s') /\ bY s s' := fun {v s'} h hk => by
    have h2 := IQ hc 102 h
    unfold tidy at h2
    split at h2
    . exact ⟨v, s, h2, bY.refl s⟩
    . exact ⟨v, s', h2, k0.trans hk⟩
  obtain ⟨s1, g1, g2⟩ := Wo hc An z gs hl (au s0 (.map [] 0)).next s0.next s.next 102 (fun vs eN => az vs fun x2 vs => az vs fun x3 vs => az vs fun x4 vs => bC vs (some (.tuple [x2, x3, x4], eN))) (fun vs fo => az vs fun x1 vs => az vs fun x5 vs => bC vs (
    af c (.fieldA 1) [x1] fo fun fX gP => af c (.load none) [fX] gP fun cT gB => af c (.lenB .l) [cT] gB fun dL gq => af c .move [(.int .i64 0)] gq fun b8 gu =>
    fK c 102 (fun vs tI => az vs fun x2 vs => az vs fun x3 vs => az vs fun x4 vs => bC vs (some (.tuple [x2, x3, x4], tI))) (fun vs uo => az vs fun x5 vs => bC vs (
      af c .move [x5] uo fun mI xN => af c .move [mI] xN fun x2 xO => af c .move [(.int .i64 0)] xO fun x3 xP => af c .move [(.int .i64 0)] xP fun x4 Ap => some (.tuple [x2, x3, x4], Ap))) 102 [x1, x5, cT, dL, b8] gu)) 101 0 _ none B (by omega) (by omega) (by omega)
  have Ro : ∀ r, eU c 102 (fun vs eN => az vs fun x2 vs => az vs fun x3 vs => az vs fun x4 vs => bC vs (some (.tuple [x2, x3, x4], eN))) (fun vs fo => az vs fun x1 vs => az vs fun x5 vs => bC vs (
    af c (.fieldA 1) [x1] fo fun fX gP => af c (.load none) [fX] gP fun cT gB => af c (.lenB .l) [cT] gB fun dL gq => af c .move [(.int .i64 0)] gq fun b8 gu =>
    fK c 102 (fun vs tI => az vs fun x2 vs => az vs fun x3 vs => az vs fun x4 vs => bC vs (some (.tuple [x2, x3, x4], tI))) (fun vs uo => az vs fun x5 vs => bC vs (
      af c .move [x5] uo fun mI xN => af c .move [mI] xN fun x2 xO => af c .move [(.int .i64 0)] xO fun x3 xP => af c .move [(.int .i64 0)] xP fun x4 Ap => some (.tuple [x2, x3, x4], Ap))) 102 [x1, x5, cT, dL, b8] gu)) 102 [.ptr s.next 0, .ptr (au s0 (.map [] 0)).next 0, cC z gs, .int .i64 (gs.length : Int), .int .i64 ((0 : Nat) : Int)] (au (au s0 (.map [] 0)) (.cells [.av, .av, .map s0.next] 0)) = r -> tH c 102 (.agg [cC z gs, fk z2 ts]) s = r := fun r h => by
    rw [<- h, tH]
    have hb := (B.keeps _ _ De)
    simp only [uJ, DH, dr, Jv]
    show Fy (c 160 [] s0) _ = _
    rw [Fo]
    simp only [yZ, nD, qL, hb, gF, Option.bind_some, List.getElem?_cons_zero, Nat.zero_add, sH, Tr]
    rfl
  rcases g2 with ⟨q1, ⟨Hz, B2⟩, q3⟩ | ⟨q1, q3⟩
  . have e : cW gs ts = gN gs ts 101 0 := by rw [cW, if_neg (by simp [q1])]
    obtain ⟨s2, r1, r2⟩ := Wp hc An z z2 gs ts hl k9 (au s0 (.map [] 0)).next s0.next s.next De Hz 102 (fun vs tI => az vs fun x2 vs => az vs fun x3 vs => az vs fun x4 vs => bC vs (some (.tuple [x2, x3, x4], tI))) (fun vs uo => az vs fun x5 vs => bC vs (
      af c .move [x5] uo fun mI xN => af c .move [mI] xN fun x2 xO => af c .move [(.int .i64 0)] xO fun x3 xP => af c .move [(.int .i64 0)] xP fun x4 Ap => some (.tuple [x2, x3, x4], Ap))) 101 0 s1 none (by simpa using B2) (by intro i j hj; simp at hj) (by omega) (by omega)
    have cE : s1.heap.get s.next = some (.cells [cC z gs, fk z2 ts] 0) := B2.keeps _ _ De
    have hL := Ro _ q3
    simp only [jK, lu, nD, qL, cE, gF, Option.bind_some, List.getElem?_cons_succ, List.getElem?_cons_zero, Nat.zero_add, sH, Ts, dr] at hL
    have r2' := r2
    rw [show (((0 : Nat) : Int)) = 0 from rfl] at r2'
    simp only [dr, Nat.reduceAdd] at r2'
    rw [r2'] at hL
    rw [e] at finish ⊢
    by_cases h2 : (gN gs ts 101 0).2 = 0
    . have h3 := BG gs ts 101 0 h2
      rw [if_pos h2] at hL
      simp only [jK, lu] at hL
      exact finish (by rw [h2, h3]; exact hL) r1
    . rw [if_neg h2] at hL
      simp only [jK, lu] at hL
      exact finish hL r1
  . have e : cW gs ts = je gs 101 0 := by rw [cW, if_pos q1]
    have hL := Ro _ q3
    simp only [jK, lu] at hL
    rw [e] at finish ⊢
    exact finish hL g1
theorem Me (hc : Sem c) (z z2 : Bool) (gs : List cr) (ts : List Ty) (hl : gs.length <= 100) (k9 : ts.length <= 100) (s : St) (hw : Wf s) : c 100 [.agg [cC z gs, fk z2 ts]] s = some (.tuple [.int .i64 (cW gs ts).1, .int .i64 (cW gs ts).2], s) := by
  have An : Wf (au s (.cells [cC z gs, fk z2 ts] 0)) := cF hw
  obtain ⟨v, s', h1, h2⟩ := IP hc z z2 gs ts hl k9 _ An
  have Of : cut [cC z gs, fk z2 ts] 0 2 = some [cC z gs, fk z2 ts] := fR rfl
  rw [CN hc 1 (r := (.tuple [.int .i64 (cW gs ts).1, .int .i64 (cW gs ts).2], s')), aI (Plain.tuple (by simp [Plain.int])) ((bU hw).trans h2)]
  rw [ze]
  simp [Of, h1]
end Go.Proofs.YtogojkhbplmifaaGreatDoor
end
section
set_option maxRecDepth 100000
namespace Go.Proofs.YtogojkhbplmifaaGreatDoor
open Go Go.Ai Go.Proofs
variable {c : ai}
structure Rl where
  k : Int
  wt : Int
  a : List Nat
  b : List Nat
  t : List Nat
  n : Int
def Rl.cells (r : Rl) : List AV := [.int .u8 r.k, .int .i64 r.wt, .str r.a, .str r.b, .str r.t, .int .i64 r.n]
@[simp] theorem Rl.c0 (t : Rl) : t.cells[0]? = some (.int .u8 t.k) := id rfl
@[simp] theorem Rl.c1 (t : Rl) : t.cells[1]? = some (.int .i64 t.wt) := id rfl
@[simp] theorem Rl.c2 (t : Rl) : t.cells[2]? = some (.str t.a) := id rfl
@[simp] theorem Rl.c3 (t : Rl) : t.cells[3]? = some (.str t.b) := id rfl
@[simp] theorem Rl.c4 (t : Rl) : t.cells[4]? = some (.str t.t) := id rfl
@[simp] theorem Rl.c5 (t : Rl) : t.cells[5]? = some (.int .i64 t.n) := id rfl
@[simp] theorem Rl.cc (t : Rl) : cut t.cells 0 6 = some t.cells := fR rfl
@[simp] theorem Rl.one (t : Rl) : cY t.cells = true := id rfl
def OS (z : Bool) (rs : List Rl) : AV := ro 6 z (rs.map Rl.cells)
@[simp] theorem adm {R : Type} (c : ai) (K : AV -> St -> Option R) (st : St) (z : Bool) (l : List Rl) : af c (.lenB .l) [OS z l] st K = K (.int .i64 (l.length : Int)) st := by unfold OS; rw [mT]; simp
@[simp] theorem acn {R : Type} (c : ai) (K : AV -> St -> Option R) (st : St) (z : Bool) (l : List bh) : af c (.lenB .l) [tabs z l] st K = K (.int .i64 (l.length : Int)) st := by unfold tabs; rw [mT]; simp
structure fq where
  tz : Bool
  ts : List bh
  gz : Bool
  gs : List cr
  yz : Bool
  ys : List Ty
  cz : Bool
  cs : List Int
  rz : Bool
  rs : List Rl
def fq.cells (p : fq) : List AV := [tabs p.tz p.ts, cC p.gz p.gs, fk p.yz p.ys, ints p.cz p.cs, OS p.rz p.rs]
@[simp] theorem fq.c0 (p : fq) : p.cells[0]? = some (tabs p.tz p.ts) := id rfl
@[simp] theorem fq.c1 (p : fq) : p.cells[1]? = some (cC p.gz p.gs) := id rfl
@[simp] theorem fq.c2 (p : fq) : p.cells[2]? = some (fk p.yz p.ys) := id rfl
@[simp] theorem fq.c3 (p : fq) : p.cells[3]? = some (ints p.cz p.cs) := id rfl
@[simp] theorem fq.c4 (p : fq) : p.cells[4]? = some (OS p.rz p.rs) := id rfl
@[simp] theorem fq.cc (p : fq) : cut p.cells 0 5 = some p.cells := fR rfl
structure fq.qO (p : fq) : Prop where
  ts : p.ts.length <= 100
  gs : p.gs.length <= 100
  ys : p.ys.length <= 100
  cs : p.cs.length <= 100
  rs : p.rs.length <= 100
  ok : ∀ t ∈ p.ts, t.Ok
def kQ (l : List Int) : Bool := l.all fun c => decide (0 <= c) && decide (c < 64)
def lS (p : fq) : Int × Int :=
  if (bS p.ts).2 ≠ 0 then bS p.ts else if (cW p.gs p.ys).2 ≠ 0 then cW p.gs p.ys
  else if p.cs.length ≠ 0 /\ p.cs.length ≠ p.gs.length then (0, 44) else if kQ p.cs = false then (0, 44)
  else if cI p.ts < p.gs.length then (0, 45) else (0, 0)
theorem PS (p : fq) (hp : p.qO) (q : Pos) (F : Nat) (s : St) (k1 k2) : ∀ (m k : Nat), p.cs.length <= k + m -> k <= p.cs.length ->
    kC c F k1 k2 (m + 1) [.ptr q 0, ints p.cz p.cs, .int .i64 (p.cs.length : Int), .int .i64 (k : Int)] s = if kQ (p.cs.drop k) = true then k2 [.ptr q 0] s else k1 [.int .i64 0, .int .i64 44] s := by
  have hl := hp.cs
  intro m
  induction m with
  | zero =>
    intro k h1 h2
    obtain rfl : k = p.cs.length := by omega
    rw [kC]
    simp [kQ]
  | succ m ih =>
    intro k h1 h2
    rw [kC]
    by_cases h : k < p.cs.length
    . have e : p.cs.drop k = p.cs[k] :: p.cs.drop (k + 1) := List.drop_eq_getElem_cons h
      have w : aM .i64 ((k : Int) + 1) = ((k + 1 : Nat) : Int) := wrap64 (by omega) (by omega)
      have := ih (k + 1) (by omega) (by omega)
      have ec : kQ (p.cs.drop k) = ((decide (0 <= p.cs[k]) && decide (p.cs[k] < 64)) && kQ (p.cs.drop (k + 1))) := by rw [e]; rfl
      rw [ec]
      generalize kQ (p.cs.drop (k + 1)) = rest at this ⊢
      by_cases h3 : p.cs[k] < 0
      . have h4 : (decide (0 <= p.cs[k]) && decide (p.cs[k] < 64)) = false := by simp; omega
        rw [h4]; simp [ints, h, h3]
      . by_cases h5 : 64 <= p.cs[k]
        . have h4 : (decide (0 <= p.cs[k]) && decide (p.cs[k] < 64)) = false := by simp; omega
          rw [h4]; simp [ints, h, h3, h5]
        . have h4 : (decide (0 <= p.cs[k]) && decide (p.cs[k] < 64)) = true := by simp; omega
          rw [h4, Bool.true_and, <- this]
          simp [ints, h, h3, h5, w]
    . obtain rfl : k = p.cs.length := by omega
      simp [kQ]
theorem Kg (p : fq) (hp : p.qO) (q : Pos) (F : Nat) (s : St) (hq : s.heap.get q = some (.cells p.cells 0)) (k1 k2) : ∀ (m k : Nat), p.cs.length <= k + m -> k <= p.cs.length ->
    eZ c F k1 k2 (m + 1) [.ptr q 0, .int .i64 (k : Int)] s = if kQ (p.cs.drop k) = true then k2 [.ptr q 0] s else k1 [.int .i64 0, .int .i64 44] s := by
  have hl := hp.cs
  intro m
  induction m with
  | zero =>
    intro k h1 h2
    obtain rfl : k = p.cs.length := by omega
    rw [eZ]
    simp [kQ, hq]
  | succ m ih =>
    intro k h1 h2
    rw [eZ]
    by_cases h : k < p.cs.length
    . have e : p.cs.drop k = p.cs[k] :: p.cs.drop (k + 1) := List.drop_eq_getElem_cons h
      have w : aM .i64 ((k : Int) + 1) = ((k + 1 : Nat) : Int) := wrap64 (by omega) (by omega)
      have := ih (k + 1) (by omega) (by omega)
      have ec : kQ (p.cs.drop k) = ((decide (0 <= p.cs[k]) && decide (p.cs[k] < 64)) && kQ (p.cs.drop (k + 1))) := by rw [e]; rfl
      rw [ec]
      generalize kQ (p.cs.drop (k + 1)) = rest at this ⊢
      by_cases h3 : p.cs[k] < 0
      . have h4 : (decide (0 <= p.cs[k]) && decide (p.cs[k] < 64)) = false := by simp; omega
        rw [h4]; simp [hq, ints, h, h3]
      . by_cases h5 : 64 <= p.cs[k]
        . have h4 : (decide (0 <= p.cs[k]) && decide (p.cs[k] < 64)) = false := by simp; omega
          rw [h4]; simp [hq, ints, h, h3, h5]
        . have h4 : (decide (0 <= p.cs[k]) && decide (p.cs[k] < 64)) = true := by simp; omega
          rw [h4, Bool.true_and, <- this]
          simp [hq, ints, h, h3, h5, w]
    . obtain rfl : k = p.cs.length := by omega
      simp [kQ, hq]
theorem Kh (hc : Sem c) (z : Bool) (ts : List bh) (hl : ts.length <= 100) (F : Nat) (s : St) (hw : Wf s) (k2) : ∀ (m k : Nat), ts.length <= k + m -> k <= ts.length ->
    e8 c F k2 (m + 1) [tabs z ts, .int .i64 (ts.length : Int), .int .i64 (cI (ts.take k)), .int .i64 (k : Int)] s = k2 [.int .i64 (cI ts)] s := by
  intro m
  induction m with
  | zero =>
    intro k h1 h2
    obtain rfl : k = ts.length := by omega
    rw [e8]
    simp
  | succ m ih =>
    intro k h1 h2
    rw [e8]
    by_cases h : k < ts.length
    . have w : aM .i64 ((k : Int) + 1) = ((k + 1 : Nat) : Int) := wrap64 (by omega) (by omega)
      have hs := Bw hc ts[k] s hw
      have e : cI (ts.take (k + 1)) = cI (ts.take k) + dy ts[k] := by
        rw [List.take_succ_eq_append_getElem h, BD]
      have b1 := FC (ts.take k)
      have b2 := tA ts[k]
      have b3 : (ts.take k).length <= 100 := by simp; omega
      have w2 : aM .i64 (cI (ts.take k) + dy ts[k]) = cI (ts.take (k + 1)) := by rw [e]; exact wrap64 (by omega) (by omega)
      rw [<- ih (k + 1) (by omega) (by omega)]
      simp [tabs, h, hs, w, w2]
    . obtain rfl : k = ts.length := by omega
      simp
theorem NH (hc : Sem c) (z : Bool) (ts : List bh) (hl : ts.length <= 100) (s : St) (hw : Wf s) : c 125 [tabs z ts] s = some (.int .i64 (cI ts), s) := by
  have hF : c 65 [tabs z ts, .int .i64 (ts.length : Int)] s = some (.int .i64 (cI ts), s) := by
    rw [zG hc 101 (r := (.int .i64 (cI ts), s)), aI (Plain.int _ _) (bY.refl s)]
    rw [qq]
    have L : ∀ k2, e8 c 101 k2 101 [tabs z ts, .int .i64 (ts.length : Int), .int .i64 0, .int .i64 0] s = k2 [.int .i64 (cI ts)] s := fun k2 => by
      have := Kh hc z ts hl 101 s hw k2 100 0 (by omega) (by omega)
      simpa [cI] using this
    simp [L]
  rw [zH hc 1 (r := (.int .i64 (cI ts), s)), aI (Plain.int _ _) (bY.refl s)]
  rw [vG]
  simp [hF]
theorem HG {d : Nat} (z : Bool) (l : List Int) : cQ (d + 1) (ints z l) := cQ.ro fun r hr v hv => by
  simp only [List.mem_map] at hr
  obtain ⟨i, _, rfl⟩ := hr
  simp only [List.mem_singleton] at hv; subst hv; exact cQ.int _ _
theorem PT {d : Nat} (z : Bool) (l : List (List Nat)) : cQ (d + 1) (mV z l) := cQ.ro fun r hr v hv => by
  simp only [List.mem_map] at hr
  obtain ⟨i, _, rfl⟩ := hr
  simp only [List.mem_singleton] at hv; subst hv; exact cQ.str _
theorem BQ (z : Bool) (l : List cr) : cQ 3 (cC z l) := cQ.ro fun r hr v hv => by
  simp only [List.mem_map] at hr
  obtain ⟨g, _, rfl⟩ := hr
  simp only [cr.cells, List.mem_cons, List.not_mem_nil, or_false] at hv
  rcases hv with rfl | rfl | rfl | rfl | rfl | rfl | rfl | rfl | rfl <;> first | exact cQ.str _ | exact cQ.int _ _ | exact cQ.bool _ | exact PT _ _
theorem PU (z : Bool) (l : List bh) : cQ 3 (tabs z l) := cQ.ro fun r hr v hv => by
  simp only [List.mem_map] at hr
  obtain ⟨g, _, rfl⟩ := hr
  simp only [bh.cells, List.mem_cons, List.not_mem_nil, or_false] at hv
  rcases hv with rfl | rfl | rfl | rfl | rfl | rfl | rfl <;> first | exact cQ.str _ | exact cQ.int _ _ | exact cQ.bool _ | exact HG _ _
theorem Rp (z : Bool) (l : List Rl) : cQ 3 (OS z l) := cQ.ro fun r hr v hv => by
  simp only [List.mem_map] at hr
  obtain ⟨g, _, rfl⟩ := hr
  simp only [Rl.cells, List.mem_cons, List.not_mem_nil, or_false] at hv
  rcases hv with rfl | rfl | rfl | rfl | rfl | rfl <;> first | exact cQ.str _ | exact cQ.int _ _ | exact cQ.bool _
theorem gY (z z2 : Bool) (gs : List cr) (ts : List Ty) : cL [.av, .av] [(0, 1), (1, 1)] [cC z gs, fk z2 ts] = some [cC z gs, fk z2 ts] := by
  have e1 : (cC z gs).cells = [cC z gs] := LH _ _ _
  have e2 : (fk z2 ts).cells = [fk z2 ts] := LH _ _ _
  unfold cL; rw [e1]
  show cL [cC z gs, .av] [(1, 1)] [fk z2 ts] = _
  unfold cL; rw [e2]; rfl
theorem TF (hc : Sem c) (p : fq) (hp : p.qO) (st : St) (hw : Wf st) : c 36 [.agg p.cells] st = some (.tuple [.int .i64 (lS p).1, .int .i64 (lS p).2], st) := by
  have b7 : Wf (au st (.cells p.cells 0)) := cF hw
  have Hy := Grew.au hw (.cells p.cells 0)
  have fh : (au st (.cells p.cells 0)).heap.get st.next = some (.cells p.cells 0) := cm _ _
  have A := E2 hc p.tz p.ts hp.ok _ b7
  have B := Me hc p.gz p.yz p.gs p.ys hp.gs hp.ys _ b7
  have D := xI hc p.tz p.ts hp.ok _ b7
  have L : ∀ k1 k2, kC c 101 k1 k2 101 [.ptr st.next 0, ints p.cz p.cs, .int .i64 (p.cs.length : Int), .int .i64 0] (au st (.cells p.cells 0)) = if kQ p.cs = true then k2 [.ptr st.next 0] (au st (.cells p.cells 0)) else k1 [.int .i64 0, .int .i64 44] (au st (.cells p.cells 0)) :=
    fun k1 k2 => PS (c := c) p hp st.next 101 (au st (.cells p.cells 0)) k1 k2 100 0 (by have := hp.cs; omega) (by omega)
  have wh := fun (K : AV -> Option (AV × St)) => uK K (p := st.next) (o := 1) (h := (au st (.cells p.cells 0)).heap) (h2 := (au st (.cells p.cells 0)).heap) (v := cC p.gz p.gs) (by rw [fh]; rfl) (by rw [fh]; rfl) (Dz (BQ _ _))
  rw [IU hc 101 (r := (.tuple [.int .i64 (lS p).1, .int .i64 (lS p).2], au st (.cells p.cells 0))), aI (Plain.tuple (by simp [Plain.int])) Hy.keeps]
  rw [BR]
  unfold lS
  by_cases h1 : (bS p.ts).2 = 0
  . by_cases h2 : (cW p.gs p.ys).2 = 0
    . simp only [h1, if_true] at D
      by_cases h3 : p.cs.length = 0
      . have h4 : p.cs = [] := by simpa using h3
        have L1 : kQ p.cs = true := by rw [h4]; rfl
        have e0 : ((p.cs.length : Nat) : Int) = 0 := by omega
        simp only [L1, if_true, e0] at L
        by_cases h6 : cI p.ts < p.gs.length
        . simp [gY, h1, h2, h3, A, B, D, fh, L1, L, wh, h6]
        . simp [gY, h1, h2, h3, A, B, D, fh, L1, L, wh, h6]
      . by_cases h4 : p.cs.length = p.gs.length
        . cases h5 : kQ p.cs with
          | false =>
            simp only [h5, Bool.false_eq_true, if_false, h4] at L
            have h7 : 0 < p.cs.length := by omega
            have h8 : 0 < p.gs.length := by omega
            simp [gY, h1, h2, h3, h4, h5, h7, h8, A, B, fh, L]
          | true =>
            simp only [h5, if_true, h4] at L
            have h7 : 0 < p.cs.length := by omega
            have h8 : 0 < p.gs.length := by omega
            by_cases h6 : cI p.ts < p.gs.length
            . simp [gY, h1, h2, h3, h4, h5, h7, h8, A, B, D, fh, L, wh, h6]
            . simp [gY, h1, h2, h3, h4, h5, h7, h8, A, B, D, fh, L, wh, h6]
        . have h7 : 0 < p.cs.length := by omega
          have h4i : ¬ ((p.cs.length : Int) = (p.gs.length : Int)) := by omega
          simp [gY, h1, h2, h3, h4, h4i, h7, A, B, fh]
    . simp [gY, h1, h2, A, B, fh]
  . simp [h1, A, fh]
theorem NI (hc : Sem c) (p : fq) (hp : p.qO) (st : St) (hw : Wf st) : c 39 [.agg p.cells] st = some (.tuple [.int .i64 (lS p).1, .int .i64 (lS p).2], st) := by
  have b7 : Wf (au st (.cells p.cells 0)) := cF hw
  have Hy := Grew.au hw (.cells p.cells 0)
  have fh : (au st (.cells p.cells 0)).heap.get st.next = some (.cells p.cells 0) := cm _ _
  have A := IF hc p.tz p.ts hp.ok _ b7
  have B := PO hc p.gz p.yz p.gs p.ys hp.gs hp.ys _ b7
  have D := NH hc p.tz p.ts hp.ts _ b7
  have L : ∀ k1 k2, eZ c 101 k1 k2 101 [.ptr st.next 0, .int .i64 0] (au st (.cells p.cells 0)) = if kQ p.cs = true then k2 [.ptr st.next 0] (au st (.cells p.cells 0)) else k1 [.int .i64 0, .int .i64 44] (au st (.cells p.cells 0)) :=
    fun k1 k2 => Kg (c := c) p hp st.next 101 (au st (.cells p.cells 0)) fh k1 k2 100 0 (by have := hp.cs; omega) (by omega)
  have wh := fun (K : AV -> Option (AV × St)) => uK K (p := st.next) (o := 1) (h := (au st (.cells p.cells 0)).heap) (h2 := (au st (.cells p.cells 0)).heap) (v := cC p.gz p.gs) (by rw [fh]; rfl) (by rw [fh]; rfl) (Dz (BQ _ _))
  rw [zI hc 101 (r := (.tuple [.int .i64 (lS p).1, .int .i64 (lS p).2], au st (.cells p.cells 0))), aI (Plain.tuple (by simp [Plain.int])) Hy.keeps]
  rw [qt]
  unfold lS
  by_cases h1 : (bS p.ts).2 = 0
  . by_cases h2 : (cW p.gs p.ys).2 = 0
    . by_cases h3 : p.cs.length = 0
      . have h4 : p.cs = [] := by simpa using h3
        have L1 : kQ p.cs = true := by rw [h4]; rfl
        simp only [L1, if_true] at L
        by_cases h6 : cI p.ts < p.gs.length
        . simp [gY, h1, h2, h3, A, B, D, fh, L1, L, wh, h6]
        . simp [gY, h1, h2, h3, A, B, D, fh, L1, L, wh, h6]
      . by_cases h4 : p.cs.length = p.gs.length
        . cases h5 : kQ p.cs with
          | false =>
            simp only [h5, Bool.false_eq_true, if_false] at L
            have h7 : 0 < p.cs.length := by omega
            have h8 : 0 < p.gs.length := by omega
            have h9 : ¬ p.gs = [] := by intro e; rw [e] at h8; simp at h8
            have Cy : ¬ p.cs = [] := by intro e; rw [e] at h7; simp at h7
            simp [gY, h1, h2, h3, h4, h5, h7, h8, h9, Cy, A, B, fh, L]
          | true =>
            simp only [h5, if_true] at L
            have h7 : 0 < p.cs.length := by omega
            have h8 : 0 < p.gs.length := by omega
            have h9 : ¬ p.gs = [] := by intro e; rw [e] at h8; simp at h8
            have Cy : ¬ p.cs = [] := by intro e; rw [e] at h7; simp at h7
            by_cases h6 : cI p.ts < p.gs.length
            . simp [gY, h1, h2, h3, h4, h5, h7, h8, h9, Cy, A, B, D, fh, L, wh, h6]
            . simp [gY, h1, h2, h3, h4, h5, h7, h8, h9, Cy, A, B, D, fh, L, wh, h6]
        . have h7 : 0 < p.cs.length := by omega
          have h4i : ¬ ((p.cs.length : Int) = (p.gs.length : Int)) := by omega
          have Cy : ¬ p.cs = [] := by intro e; rw [e] at h7; simp at h7
          simp [gY, h1, h2, h3, h4, h4i, h7, Cy, A, B, fh]
    . simp [gY, h1, h2, A, B, fh]
  . simp [h1, A, fh]
end Go.Proofs.YtogojkhbplmifaaGreatDoor
end
section
set_option maxRecDepth 100000
namespace Go.Proofs.YtogojkhbplmifaaGreatDoor
open Go Go.Ai Go.Proofs
variable {c : ai}
theorem Rq (z : Bool) (rs : List (List AV)) (hl : rs.length < kE) (gG : ∀ cs ∈ rs, cs.length = 9) (g : Nat) (v : List AV) (P : Nat -> Bool) (st : St) (F : Nat) (k1 k2)
    (hP : ∀ i (h : i < rs.length), c g (.agg rs[i] :: v) st = some (.bool (P i), st)) : ∀ (m k : Nat), rs.length <= k + m -> k <= rs.length ->
    bG c F k1 k2 (m + 1) [ro 9 z rs, .func g [] v, .int .i64 (rs.length : Int), .int .i64 (k : Int)] st = if 0 <= scan P (rs.length - k) k then k1 [.int .i64 (scan P (rs.length - k) k)] st else k2 [] st := by
  intro m
  induction m with
  | zero =>
    intro k h1 h2
    obtain rfl : k = rs.length := by omega
    rw [bG]
    simp [scan]
  | succ m ih =>
    intro k h1 h2
    rw [bG]
    by_cases h : k < rs.length
    . have e : rs.length - k = (rs.length - (k + 1)) + 1 := by omega
      have w : aM .i64 ((k : Int) + 1) = ((k + 1 : Nat) : Int) := wrap64 (by omega) (by unfold kE at hl; omega)
      have hcut : cut rs[k] 0 9 = some rs[k] := fR (gG _ (List.getElem_mem h))
      have hp := hP k h
      rw [e, scan]
      cases hb : P k
      . simp only [Bool.false_eq_true, if_false]
        rw [<- ih (k + 1) (by omega) (by omega)]
        simp [h, hcut, hp, hb, w]
      . simp [h, hcut, hp, hb]
    . obtain rfl : k = rs.length := by omega
      simp [scan]
theorem Wq (hc : Sem c) (z : Bool) (rs : List (List AV)) (hl : rs.length < kE) (gG : ∀ cs ∈ rs, cs.length = 9) (g : Nat) (v : List AV) (P : Nat -> Bool) (st : St)
    (hP : ∀ i (h : i < rs.length), c g (.agg rs[i] :: v) st = some (.bool (P i), st)) : c 199 [ro 9 z rs, .func g [] v] st = some (.int .i64 (scan P rs.length 0), st) := by
  rw [ou hc (rs.length + 1) (r := (.int .i64 (scan P rs.length 0), st)), aI (Plain.int _ _) (bY.refl st)]
  rw [gD]
  have L : ∀ k1 k2, bG c (rs.length + 1) k1 k2 (rs.length + 1) [ro 9 z rs, .func g [] v, .int .i64 (rs.length : Int), .int .i64 0] st = if 0 <= scan P (rs.length - 0) 0 then k1 [.int .i64 (scan P (rs.length - 0) 0)] st else k2 [] st :=
    fun k1 k2 => Rq z rs hl gG g v P st _ k1 k2 hP rs.length 0 (by omega) (by omega)
  rw [Nat.sub_zero] at L
  by_cases h : 0 <= scan P rs.length 0
  . simp [L, h]
  . have := (Al P rs.length 0).2 (by omega)
    simp [L, this]
theorem Wr (hc : Sem c) (g : cr) (s : List Nat) (p : Pos) (st : St) (hw : Wf st) (hp : st.heap.get p = some (.cells [.str s] 0)) : c 200 [.agg g.cells, .ptr p 0] st = some (.bool (decide (g.name = s)), st) := by
  rw [IV hc 1 (r := (.bool (decide (g.name = s)), au st (.cells g.cells 0))), aI (Plain.bool _) (bU hw)]
  rw [HJ]
  have : (au st (.cells g.cells 0)).heap.get p = some (.cells [.str s] 0) := bU hw _ _ hp
  simp [this]
theorem aap (hc : Sem c) (p : fq) (hp : p.qO) (s : List Nat) (st : St) (hw : Wf st) : c 120 [.agg p.cells, .str s] st = some (.int .i64 (scan (iP p.gs s) p.gs.length 0), st) := by
  have b7 : Wf (au st (.cells p.cells 0)) := cF hw
  have gj := cF (b := .cells [.str s] 0) b7
  have hg := (Grew.au hw (.cells p.cells 0)).trans (Grew.au b7 (.cells [.str s] 0))
  have fh : (au (au st (.cells p.cells 0)) (.cells [.str s] 0)).heap.get st.next = some (.cells p.cells 0) := by
    have := cm st (.cells p.cells 0)
    exact (Grew.au b7 (.cells [.str s] 0)).get this
  have hi := Wq hc p.gz (p.gs.map cr.cells) (by have := hp.gs; simp; unfold kE; omega) (fun cs fF => by
      simp only [List.mem_map] at fF
      obtain ⟨t, _, rfl⟩ := fF; rfl) 200 [.ptr (au st (.cells p.cells 0)).next 0] (iP p.gs s) (au (au st (.cells p.cells 0)) (.cells [.str s] 0)) (fun i hi => by
      have Hp : i < p.gs.length := by simpa using hi
      have := Wr hc p.gs[i] s (au st (.cells p.cells 0)).next _ gj (cm _ _)
      simp only [List.getElem_map]
      rw [this]
      simp [iP, Hp])
  rw [List.length_map] at hi
  rw [Mf hc 1 (r := (.int .i64 (scan (iP p.gs s) p.gs.length 0), au (au st (.cells p.cells 0)) (.cells [.str s] 0))), aI (Plain.int _ _) hg.keeps]
  rw [Mg]
  have e : (AV.str s).cells = [.str s] := rfl
  simp [e, hi, fh, cC]
structure Kd where
  w : List Nat
  a : Int
  b : Bool
  t : Int
  n : Bool
  lo : Int
  pq : Bool
  f : AV
def Kd.cells (k : Kd) : List AV := [.str k.w, .int .u8 k.a, .bool k.b, .int .u8 k.t, .bool k.n, .int .i64 k.lo, .bool k.pq, k.f]
@[simp] theorem Kd.c0 (t : Kd) : t.cells[0]? = some (.str t.w) := id rfl
@[simp] theorem Kd.c1 (t : Kd) : t.cells[1]? = some (.int .u8 t.a) := id rfl
@[simp] theorem Kd.c2 (t : Kd) : t.cells[2]? = some (.bool t.b) := id rfl
@[simp] theorem Kd.c3 (t : Kd) : t.cells[3]? = some (.int .u8 t.t) := id rfl
@[simp] theorem Kd.c4 (t : Kd) : t.cells[4]? = some (.bool t.n) := id rfl
@[simp] theorem Kd.c5 (t : Kd) : t.cells[5]? = some (.int .i64 t.lo) := id rfl
@[simp] theorem Kd.c6 (t : Kd) : t.cells[6]? = some (.bool t.pq) := id rfl
@[simp] theorem Kd.cc (t : Kd) : cut t.cells 0 8 = some t.cells := fR rfl
def vH (k : Kd) (r : Rl) : Bool := (decide (k.a ≠ 0) || decide (r.a = [])) && (k.b || decide (r.b = [])) && (decide (k.t ≠ 0) || decide (r.t = [])) && (k.n || decide (r.n = 0))
theorem TG (hc : Sem c) (k : Kd) (r : Rl) (st : St) (hw : Wf st) : c 119 [.agg k.cells, .agg r.cells] st = some (.bool (vH k r), st) := by
  have b7 : Wf (au st (.cells k.cells 0)) := cF hw
  have pR := Grew.au b7 (.cells r.cells 0)
  have hg := (Grew.au hw (.cells k.cells 0)).trans pR
  have p1 := pR.get (cm st (.cells k.cells 0))
  have p2 := cm (au st (.cells k.cells 0)) (.cells r.cells 0)
  rw [CO hc 1 (r := (.bool (vH k r), au (au st (.cells k.cells 0)) (.cells r.cells 0))), aI (Plain.bool _) hg.keeps]
  rw [zf]
  unfold vH
  by_cases h0 : k.a = 0
  rotate_left
  . cases h2 : k.b with
    | true =>
      by_cases h4 : k.t = 0
      rotate_left
      . cases h6 : k.n with
        | true =>
          simp [h0, h2, h4, h6]
        | false =>
          by_cases h7 : r.n = 0
          . simp [h0, h2, h4, h6, h7]
          . simp [h0, h2, h4, h6, h7]
      by_cases h5 : r.t = []
      . cases h6 : k.n with
        | true =>
          simp [h0, h2, h4, h5, h6]
        | false =>
          by_cases h7 : r.n = 0
          . simp [h0, h2, h4, h5, h6, h7]
          . simp [h0, h2, h4, h5, h6, h7]
      . simp [h0, h2, h4, h5]
    | false =>
      by_cases h3 : r.b = []
      . by_cases h4 : k.t = 0
        rotate_left
        . cases h6 : k.n with
          | true =>
            simp [h0, h2, h3, h4, h6]
          | false =>
            by_cases h7 : r.n = 0
            . simp [h0, h2, h3, h4, h6, h7]
            . simp [h0, h2, h3, h4, h6, h7]
        by_cases h5 : r.t = []
        . cases h6 : k.n with
          | true =>
            simp [h0, h2, h3, h4, h5, h6]
          | false =>
            by_cases h7 : r.n = 0
            . simp [h0, h2, h3, h4, h5, h6, h7]
            . simp [h0, h2, h3, h4, h5, h6, h7]
        . simp [h0, h2, h3, h4, h5]
      . simp [h0, h2, h3]
  by_cases h1 : r.a = []
  . cases h2 : k.b with
    | true =>
      by_cases h4 : k.t = 0
      rotate_left
      . cases h6 : k.n with
        | true =>
          simp [h0, h1, h2, h4, h6]
        | false =>
          by_cases h7 : r.n = 0
          . simp [h0, h1, h2, h4, h6, h7]
          . simp [h0, h1, h2, h4, h6, h7]
      by_cases h5 : r.t = []
      . cases h6 : k.n with
        | true =>
          simp [h0, h1, h2, h4, h5, h6]
        | false =>
          by_cases h7 : r.n = 0
          . simp [h0, h1, h2, h4, h5, h6, h7]
          . simp [h0, h1, h2, h4, h5, h6, h7]
      . simp [h0, h1, h2, h4, h5]
    | false =>
      by_cases h3 : r.b = []
      . by_cases h4 : k.t = 0
        rotate_left
        . cases h6 : k.n with
          | true =>
            simp [h0, h1, h2, h3, h4, h6]
          | false =>
            by_cases h7 : r.n = 0
            . simp [h0, h1, h2, h3, h4, h6, h7]
            . simp [h0, h1, h2, h3, h4, h6, h7]
        by_cases h5 : r.t = []
        . cases h6 : k.n with
          | true =>
            simp [h0, h1, h2, h3, h4, h5, h6]
          | false =>
            by_cases h7 : r.n = 0
            . simp [h0, h1, h2, h3, h4, h5, h6, h7]
            . simp [h0, h1, h2, h3, h4, h5, h6, h7]
        . simp [h0, h1, h2, h3, h4, h5]
      . simp [h0, h1, h2, h3]
  . simp [h0, h1]
end Go.Proofs.YtogojkhbplmifaaGreatDoor
end
section
set_option maxRecDepth 100000
namespace Go.Proofs.YtogojkhbplmifaaGreatDoor
open Go Go.Ai Go.Proofs
variable {c : ai}
theorem sI {R : Type} (P : (List AV -> St -> Option R) -> Prop) {A : (List AV -> St -> Option R) -> Option R} {T : List AV -> St -> Option R} {r : Option R} (hT : P T) (hA : ∀ j, P j -> A j = r) : yX A T = r := hA T hT
theorem BS {R : Type} (c : ai) (K : AV -> St -> Option R) (st : St) (es : Nat) (z : Bool) (rs : List (List AV)) (k k' : IntKind) (i j : Nat) (h : i < j) (h2 : j <= rs.length) :
    af c (.sliceL es true true false) [ro es z rs, .int k (i : Int), .int k' (j : Int)] st K = K (ro es false ((rs.take j).drop i)) st := by
  have : ∀ H n, aE.run H n (.sliceL es true true false) [ro es z rs, .int k (i : Int), .int k' (j : Int)] = some (.val (ro es false ((rs.take j).drop i))) := fun H n => by
    rw [Ou (by intro e; subst e; simp at h2; omega)]
    have h3 : i <= j := by omega
    simp [aE.run, nT, bounds, lN, iN, iZ, h3, h2, ro]
  exact bw c K this st
theorem JH (ts : List bh) : ∀ (m k : Nat), (eu ts m k).2 = 0 -> ∀ i, k <= i -> i < k + m -> ∀ h : i < ts.length, rZ ts[i] = 0
  | 0, k, _, i, h1, h2, _ => by omega
  | m + 1, k, h, i, h1, h2, hi => by
    have hk : k < ts.length := by omega
    rw [eu, List.getElem?_eq_getElem hk] at h
    simp only at h
    by_cases h3 : rZ ts[k] = 0
    . rw [if_neg (by simp [h3])] at h
      by_cases h4 : 0 <= scan (jt ts ts[k].name) k 0
      . rw [if_pos h4] at h; simp at h
      . rw [if_neg h4] at h
        by_cases e : i = k
        . subst e; exact h3
        . exact JH ts m (k + 1) h i (by omega) (by omega) hi
    . rw [if_pos h3] at h; exact absurd h h3
theorem zg {ts : List bh} (h : (bS ts).2 = 0) (i : Nat) (hi : i < ts.length) : rZ ts[i] = 0 := by
  unfold bS at h
  split at h
  . simp at h
  . exact JH ts ts.length 0 h i (by omega) (by omega) hi
theorem zh {t : bh} (h : rZ t = 0) : (bS [t]).2 = 0 := by
  simp [bS, eu, h, scan]
def gi (p : fq) (s : List Nat) : Int := scan (iP p.gs s) p.gs.length 0
def ti (p : fq) (s : List Nat) : Int := scan (jt p.ts s) p.ts.length 0
def vS (p : fq) (i : Int) : Int := match p.ts[i.toNat]? with
  | some t => dy t
  | none => 0
def r9 (k : Kd) (r : Rl) (m : Int) : Int := if k.n = true /\ (r.n < k.lo \/ m < r.n) then 42 else 0
def KH (k : Kd) (p : fq) (r : Rl) : Int :=
  if (k.t = 116 /\ ti p r.t < 0) \/ (k.t = 101 /\ r.t ≠ [] /\ ti p r.t < 0) then 6
  else r9 k r (if k.pq = true then vS p (ti p r.t) - 1 else 24)
def PV (k : Kd) (p : fq) (r : Rl) : Int :=
  if k.a = 100 /\ fj r.a = false then 4 else if k.b = true /\ r.a = r.b then 5 else KH k p r
def BT (k : Kd) (p : fq) (r : Rl) : Int :=
  if k.w = [] then 40 else if r.wt < 0 \/ 1000 < r.wt then 41 else if vH k r = false then 43
  else if (k.a = 103 /\ gi p r.a < 0) \/ (k.a = 101 /\ r.a ≠ [] /\ gi p r.a < 0) \/ (k.b = true /\ gi p r.b < 0) then 6
  else PV k p r
theorem Rr (hc : Sem c) (k : Kd) (hk : k.pq = true -> k.t = 116) (p : fq) (hp : p.qO) (hv : (bS p.ts).2 = 0) (r : Rl) (st : St) (hw : Wf st) :
    c 38 [.agg k.cells, .agg p.cells, .agg r.cells] st = some (.int .i64 (BT k p r), st) := by
  have b7 : Wf (au st (.cells k.cells 0)) := cF hw
  have gj := cF (b := .cells p.cells 0) b7
  have E4 := Grew.au gj (.cells r.cells 0)
  have pR := Grew.au b7 (.cells p.cells 0)
  have hg := ((Grew.au hw (.cells k.cells 0)).trans pR).trans E4
  have vk := hg.wf
  have p1 := E4.get (pR.get (cm st (.cells k.cells 0)))
  have p2 := E4.get (cm (au st (.cells k.cells 0)) (.cells p.cells 0))
  have p3 := cm (au (au st (.cells k.cells 0)) (.cells p.cells 0)) (.cells r.cells 0)
  have A := fun s => aap hc p hp s _ vk
  have B := TG hc k r _ vk
  have D := Wk hc p.tz p.ts hp.ok (by have := hp.ts; unfold kE; omega) r.t _ vk
  have N := LO hc r.a (au (au (au st (.cells k.cells 0)) (.cells p.cells 0)) (.cells r.cells 0))
  rw [CP hc 1 (r := (.int .i64 (BT k p r), au (au (au st (.cells k.cells 0)) (.cells p.cells 0)) (.cells r.cells 0))), aI (Plain.int _ _) hg.keeps]
  rw [zi]
  simp only [uJ, dr, AV.cells]
  generalize au (au (au st (.cells k.cells 0)) (.cells p.cells 0)) (.cells r.cells 0) = s at *
  generalize (au (au st (.cells k.cells 0)) (.cells p.cells 0)).next = q3 at *
  generalize (au st (.cells k.cells 0)).next = q2 at *
  generalize st.next = q1 at *
  refine sI (P := fun j => j [.ptr q1 0, .ptr q2 0, .ptr q3 0] s = some (.int .i64 (KH k p r), s)) ?_ ?_
  . have D2 : c 122 [tabs p.tz p.ts, .str r.t] s = some (.tuple [.int .i64 (if 0 <= ti p r.t then ti p r.t else 0), .bool (decide (0 <= ti p r.t))], s) := by
      simp only [hv, and_true] at D; exact D
    have hit := BA (P := jt p.ts r.t) p.ts.length 0
    clear D A B N hg pR E4 hw b7 gj
    unfold KH
    by_cases ht : 0 <= ti p r.t
    . have DK : ¬ ti p r.t < 0 := by omega
      obtain ⟨i, hi⟩ : ∃ i : Nat, ti p r.t = (i : Int) := ⟨(ti p r.t).toNat, by omega⟩
      have qu : i < p.ts.length := by
        have := (hit ht).2.1
        unfold ti at hi; rw [hi] at this; simpa using this
      simp only [ht, if_true, decide_true] at D2
      by_cases h1 : k.t = 116
      . simp [p1, p2, p3, D2, h1, DK]
        refine sI (P := fun j => ∀ m, j [.ptr q1 0, .ptr q3 0, .int .i64 m] s = some (.int .i64 (r9 k r m), s)) ?_ ?_
        . intro m
          unfold r9
          cases hn : k.n with
          | false => simp [p1, hn]
          | true =>
            by_cases e1 : r.n < k.lo
            . simp [p1, p3, hn, e1]
            . by_cases e2 : m < r.n
              . simp [p1, p3, hn, e1, e2]
              . simp [p1, p3, hn, e1, e2]
        . intro j hj
          cases hs : k.pq with
          | false => simp [p1, hs, hj]
          | true =>
            have w : aM .i64 ((i : Int) + 1) = (i : Int) + 1 := by have := hp.ts; exact wrap64 (by omega) (by omega)
            have cnt := xI hc false [p.ts[i]] (fun t ht => by simp only [List.mem_singleton] at ht; subst ht; exact hp.ok _ (List.getElem_mem qu)) s vk
            rw [if_pos (zh (zg hv i qu)), show cI [p.ts[i]] = dy p.ts[i] by simp [cI]] at cnt
            have b := tA p.ts[i]
            have w2 : aM .i64 (dy p.ts[i] - 1) = dy p.ts[i] - 1 := wrap64 (by omega) (by omega)
            have hcut : ∀ K : AV -> St -> Option (AV × St), af c (.sliceL 7 true true false) [tabs p.tz p.ts, .int .i64 (i : Int), .int .i64 ((i : Int) + 1)] s K = K (tabs false [p.ts[i]]) s := fun K => by
              unfold tabs
              have := BS c K s 7 p.tz (p.ts.map bh.cells) .i64 .i64 i (i + 1) (by omega) (by rw [List.length_map]; omega)
              rw [show ((i : Int) + 1) = ((i + 1 : Nat) : Int) by omega, this]
              have e : ((p.ts.map bh.cells).take (i + 1)).drop i = [p.ts[i]].map bh.cells := by
                rw [List.take_succ_eq_append_getElem (by simpa using qu), List.drop_append_of_le_length (by simp; omega)]
                simp
              rw [e]
            have e3 : vS p (i : Int) = dy p.ts[i] := by simp [vS, qu]
            simp [p1, p2, hs, hi, e3, w, hcut, cnt, hj, w2]
      . by_cases h2 : k.t = 101
        . by_cases h3 : r.t = []
          . simp only [h3] at D2 DK hi
            simp [p1, p2, p3, D2, h1, h2, h3, DK]
            refine sI (P := fun j => ∀ m, j [.ptr q1 0, .ptr q3 0, .int .i64 m] s = some (.int .i64 (r9 k r m), s)) ?_ ?_
            . intro m
              unfold r9
              cases hn : k.n with
              | false => simp [p1, hn]
              | true =>
                by_cases e1 : r.n < k.lo
                . simp [p1, p3, hn, e1]
                . by_cases e2 : m < r.n
                  . simp [p1, p3, hn, e1, e2]
                  . simp [p1, p3, hn, e1, e2]
            . intro j hj
              cases hs : k.pq with
              | false => simp [p1, hs, hj]
              | true =>
                have w : aM .i64 ((i : Int) + 1) = (i : Int) + 1 := by have := hp.ts; exact wrap64 (by omega) (by omega)
                have cnt := xI hc false [p.ts[i]] (fun t ht => by simp only [List.mem_singleton] at ht; subst ht; exact hp.ok _ (List.getElem_mem qu)) s vk
                rw [if_pos (zh (zg hv i qu)), show cI [p.ts[i]] = dy p.ts[i] by simp [cI]] at cnt
                have b := tA p.ts[i]
                have w2 : aM .i64 (dy p.ts[i] - 1) = dy p.ts[i] - 1 := wrap64 (by omega) (by omega)
                have hcut : ∀ K : AV -> St -> Option (AV × St), af c (.sliceL 7 true true false) [tabs p.tz p.ts, .int .i64 (i : Int), .int .i64 ((i : Int) + 1)] s K = K (tabs false [p.ts[i]]) s := fun K => by
                  unfold tabs
                  have := BS c K s 7 p.tz (p.ts.map bh.cells) .i64 .i64 i (i + 1) (by omega) (by rw [List.length_map]; omega)
                  rw [show ((i : Int) + 1) = ((i + 1 : Nat) : Int) by omega, this]
                  have e : ((p.ts.map bh.cells).take (i + 1)).drop i = [p.ts[i]].map bh.cells := by
                    rw [List.take_succ_eq_append_getElem (by simpa using qu), List.drop_append_of_le_length (by simp; omega)]
                    simp
                  rw [e]
                have e3 : vS p (i : Int) = dy p.ts[i] := by simp [vS, qu]
                simp [p1, p2, hs, hi, e3, w, hcut, cnt, hj, w2]
          . simp [p1, p2, p3, D2, h1, h2, h3, DK]
            refine sI (P := fun j => ∀ m, j [.ptr q1 0, .ptr q3 0, .int .i64 m] s = some (.int .i64 (r9 k r m), s)) ?_ ?_
            . intro m
              unfold r9
              cases hn : k.n with
              | false => simp [p1, hn]
              | true =>
                by_cases e1 : r.n < k.lo
                . simp [p1, p3, hn, e1]
                . by_cases e2 : m < r.n
                  . simp [p1, p3, hn, e1, e2]
                  . simp [p1, p3, hn, e1, e2]
            . intro j hj
              cases hs : k.pq with
              | false => simp [p1, hs, hj]
              | true =>
                have w : aM .i64 ((i : Int) + 1) = (i : Int) + 1 := by have := hp.ts; exact wrap64 (by omega) (by omega)
                have cnt := xI hc false [p.ts[i]] (fun t ht => by simp only [List.mem_singleton] at ht; subst ht; exact hp.ok _ (List.getElem_mem qu)) s vk
                rw [if_pos (zh (zg hv i qu)), show cI [p.ts[i]] = dy p.ts[i] by simp [cI]] at cnt
                have b := tA p.ts[i]
                have w2 : aM .i64 (dy p.ts[i] - 1) = dy p.ts[i] - 1 := wrap64 (by omega) (by omega)
                have hcut : ∀ K : AV -> St -> Option (AV × St), af c (.sliceL 7 true true false) [tabs p.tz p.ts, .int .i64 (i : Int), .int .i64 ((i : Int) + 1)] s K = K (tabs false [p.ts[i]]) s := fun K => by
                  unfold tabs
                  have := BS c K s 7 p.tz (p.ts.map bh.cells) .i64 .i64 i (i + 1) (by omega) (by rw [List.length_map]; omega)
                  rw [show ((i : Int) + 1) = ((i + 1 : Nat) : Int) by omega, this]
                  have e : ((p.ts.map bh.cells).take (i + 1)).drop i = [p.ts[i]].map bh.cells := by
                    rw [List.take_succ_eq_append_getElem (by simpa using qu), List.drop_append_of_le_length (by simp; omega)]
                    simp
                  rw [e]
                have e3 : vS p (i : Int) = dy p.ts[i] := by simp [vS, qu]
                simp [p1, p2, hs, hi, e3, w, hcut, cnt, hj, w2]
        . simp [p1, p2, p3, D2, h1, h2, DK]
          refine sI (P := fun j => ∀ m, j [.ptr q1 0, .ptr q3 0, .int .i64 m] s = some (.int .i64 (r9 k r m), s)) ?_ ?_
          . intro m
            unfold r9
            cases hn : k.n with
            | false => simp [p1, hn]
            | true =>
              by_cases e1 : r.n < k.lo
              . simp [p1, p3, hn, e1]
              . by_cases e2 : m < r.n
                . simp [p1, p3, hn, e1, e2]
                . simp [p1, p3, hn, e1, e2]
          . intro j hj
            cases hs : k.pq with
            | false => simp [p1, hs, hj]
            | true =>
              have w : aM .i64 ((i : Int) + 1) = (i : Int) + 1 := by have := hp.ts; exact wrap64 (by omega) (by omega)
              have cnt := xI hc false [p.ts[i]] (fun t ht => by simp only [List.mem_singleton] at ht; subst ht; exact hp.ok _ (List.getElem_mem qu)) s vk
              rw [if_pos (zh (zg hv i qu)), show cI [p.ts[i]] = dy p.ts[i] by simp [cI]] at cnt
              have b := tA p.ts[i]
              have w2 : aM .i64 (dy p.ts[i] - 1) = dy p.ts[i] - 1 := wrap64 (by omega) (by omega)
              have hcut : ∀ K : AV -> St -> Option (AV × St), af c (.sliceL 7 true true false) [tabs p.tz p.ts, .int .i64 (i : Int), .int .i64 ((i : Int) + 1)] s K = K (tabs false [p.ts[i]]) s := fun K => by
                unfold tabs
                have := BS c K s 7 p.tz (p.ts.map bh.cells) .i64 .i64 i (i + 1) (by omega) (by rw [List.length_map]; omega)
                rw [show ((i : Int) + 1) = ((i + 1 : Nat) : Int) by omega, this]
                have e : ((p.ts.map bh.cells).take (i + 1)).drop i = [p.ts[i]].map bh.cells := by
                  rw [List.take_succ_eq_append_getElem (by simpa using qu), List.drop_append_of_le_length (by simp; omega)]
                  simp
                rw [e]
              have e3 : vS p (i : Int) = dy p.ts[i] := by simp [vS, qu]
              simp [p1, p2, hs, hi, e3, w, hcut, cnt, hj, w2]
    . have DK : ti p r.t < 0 := by omega
      simp only [ht, if_false, decide_false] at D2
      by_cases h1 : k.t = 116
      . simp [p1, p2, p3, D2, h1, DK]
      . by_cases h2 : k.t = 101
        . by_cases h3 : r.t = []
          . simp only [h3] at D2 DK
            simp [p1, p2, p3, D2, h1, h2, h3, DK]
            refine sI (P := fun j => ∀ m, j [.ptr q1 0, .ptr q3 0, .int .i64 m] s = some (.int .i64 (r9 k r m), s)) ?_ ?_
            . intro m
              unfold r9
              cases hn : k.n with
              | false => simp [p1, hn]
              | true =>
                by_cases e1 : r.n < k.lo
                . simp [p1, p3, hn, e1]
                . by_cases e2 : m < r.n
                  . simp [p1, p3, hn, e1, e2]
                  . simp [p1, p3, hn, e1, e2]
            . intro j hj
              have hs : k.pq = false := by
                cases h : k.pq with
                | false => rfl
                | true => exact absurd (hk h) h1
              simp [p1, hs, hj]
          . simp [p1, p2, p3, D2, h1, h2, h3, DK]
        . simp [p1, p2, p3, D2, h1, h2, DK]
          refine sI (P := fun j => ∀ m, j [.ptr q1 0, .ptr q3 0, .int .i64 m] s = some (.int .i64 (r9 k r m), s)) ?_ ?_
          . intro m
            unfold r9
            cases hn : k.n with
            | false => simp [p1, hn]
            | true =>
              by_cases e1 : r.n < k.lo
              . simp [p1, p3, hn, e1]
              . by_cases e2 : m < r.n
                . simp [p1, p3, hn, e1, e2]
                . simp [p1, p3, hn, e1, e2]
          . intro j hj
            have hs : k.pq = false := by
              cases h : k.pq with
              | false => rfl
              | true => exact absurd (hk h) h1
            simp [p1, hs, hj]
  . intro j hj
    have A2 : ∀ nm, c 120 [.agg p.cells, .str nm] s = some (.int .i64 (gi p nm), s) := A
    have cc : cut r.cells 0 6 = some r.cells := fR rfl
    clear A D hg pR E4 hw b7 gj
    unfold BT
    by_cases h0 : k.w = []
    . simp [p1, h0]
    by_cases h1 : r.wt < 0
    . simp [p1, p3, h0, h1]
    by_cases h2 : 1000 < r.wt
    . simp [p1, p3, h0, h1, h2]
    cases h3 : vH k r with
    | false => simp [p1, p3, h0, h1, h2, B, h3]
    | true =>
    simp [p1, p3, h0, h1, h2, B, h3]
    refine sI (P := fun j' => ∀ b : Bool, j' [.ptr q1 0, .ptr q2 0, .ptr q3 0, .bool b] s = some (.int .i64 (if b = true then 6 else PV k p r), s)) ?_ ?_
    . intro b
      cases b with
      | true => simp
      | false =>
        unfold PV
        by_cases a1 : k.a = 100
        . cases a2 : fj r.a with
          | false => simp [p1, p3, a1, a2, N]
          | true =>
            cases b1 : k.b with
            | false => simp [p1, p3, a1, a2, N, b1, hj]
            | true =>
              by_cases b2 : r.a = r.b
              . rw [b2] at a2 N
                simp [p1, p3, a1, a2, N, b1, b2]
              . simp [p1, p3, a1, a2, N, b1, b2, hj]
        . cases b1 : k.b with
          | false => simp [p1, p3, a1, b1, hj]
          | true =>
            by_cases b2 : r.a = r.b
            . simp [p1, p3, a1, b1, b2]
            . simp [p1, p3, a1, b1, b2, hj]
    . intro j' yI
      have K6 := yI true
      have K0 := yI false
      simp only [if_true, Bool.false_eq_true, if_false] at K6 K0
      clear yI hj
      by_cases a1 : k.a = 103
      . by_cases g1 : gi p r.a < 0
        . simp [p1, p2, p3, a1, A2, g1, K6]
        . cases b1 : k.b with
          | false => simp [p1, p2, p3, a1, A2, g1, b1, K0]
          | true =>
            by_cases g2 : gi p r.b < 0
            . simp [p1, p2, p3, a1, A2, g1, g2, b1, K6]
            . simp [p1, p2, p3, a1, A2, g1, g2, b1, K0]
      . by_cases a2 : k.a = 101
        . by_cases e : r.a = []
          . cases b1 : k.b with
            | false => simp [p1, p2, p3, a1, a2, e, A2, b1, K0]
            | true =>
              by_cases g2 : gi p r.b < 0
              . simp [p1, p2, p3, a1, a2, e, A2, g2, b1, K6]
              . simp [p1, p2, p3, a1, a2, e, A2, g2, b1, K0]
          . by_cases g1 : gi p r.a < 0
            . simp [p1, p2, p3, a1, a2, e, A2, g1, K6]
            . cases b1 : k.b with
              | false => simp [p1, p2, p3, a1, a2, e, A2, g1, b1, K0]
              | true =>
                by_cases g2 : gi p r.b < 0
                . simp [p1, p2, p3, a1, a2, e, A2, g1, g2, b1, K6]
                . simp [p1, p2, p3, a1, a2, e, A2, g1, g2, b1, K0]
        . cases b1 : k.b with
          | false => simp [p1, p2, p3, a1, a2, A2, b1, K0]
          | true =>
            by_cases g2 : gi p r.b < 0
            . simp [p1, p2, p3, a1, a2, A2, g2, b1, K6]
            . simp [p1, p2, p3, a1, a2, A2, g2, b1, K0]
end Go.Proofs.YtogojkhbplmifaaGreatDoor
end
