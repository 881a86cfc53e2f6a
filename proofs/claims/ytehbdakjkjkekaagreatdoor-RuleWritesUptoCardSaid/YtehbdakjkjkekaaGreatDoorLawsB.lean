/- What both sides' Format answer. -/
import Derived.Test.YtehbdakjkjkekaaGreatDoorLawsA
import Derived.Test.YtehbdakjkjkekaaGreatDoorEvalE
set_option linter.all false
set_option linter.unusedSectionVars false
set_option linter.deprecated false
section
set_option maxRecDepth 100000
namespace Go.Proofs.YtehbdakjkjkekaaGreatDoor
open Go Go.Ai Go.Proofs
variable {c : CallA}
def kd : Nat -> Kd
  | 1 => ⟨[97, 112, 97, 114, 116], 103, true, 0, true, 0, false, .func 81 [] []⟩
  | 2 => ⟨[98, 101, 115, 105, 100, 101], 103, true, 0, false, 0, false, .func 82 [] []⟩
  | 3 => ⟨[97, 99, 114, 111, 115, 115], 103, true, 0, false, 0, false, .func 83 [] []⟩
  | 4 => ⟨[110, 101, 97, 114], 103, true, 0, true, 1, false, .func 84 [] []⟩
  | 5 => ⟨[116, 111, 103, 101, 116, 104, 101, 114], 103, true, 0, false, 0, false, .func 85 [] []⟩
  | 6 => ⟨[97, 116], 103, false, 116, false, 0, false, .func 86 [] []⟩
  | 7 => ⟨[115, 101, 97, 116], 103, false, 116, true, 0, true, .func 87 [] []⟩
  | 8 => ⟨[97, 108, 116, 101, 114, 110, 97, 116, 101], 0, false, 101, false, 0, false, .func 88 [] []⟩
  | 9 => ⟨[104, 111, 115, 116], 0, false, 101, false, 0, false, .func 89 [] []⟩
  | 10 => ⟨[114, 101, 97, 99, 104], 101, false, 0, false, 0, false, .func 90 [] []⟩
  | 11 => ⟨[115, 112, 101, 97, 107], 0, false, 101, false, 0, false, .func 91 [] []⟩
  | 12 => ⟨[112, 101, 97, 99, 101], 0, false, 101, false, 0, false, .func 92 [] []⟩
  | 13 => ⟨[99, 111, 109, 112, 97, 110, 121], 0, false, 101, false, 0, false, .func 93 [] []⟩
  | 14 => ⟨[104, 111, 110, 111, 117, 114], 0, false, 101, false, 0, false, .func 94 [] []⟩
  | 15 => ⟨[102, 105, 108, 108], 0, false, 101, true, 0, false, .func 95 [] []⟩
  | 16 => ⟨[108, 105, 109, 105, 116], 0, false, 101, true, 0, false, .func 96 [] []⟩
  | 17 => ⟨[107, 105, 116, 99, 104, 101, 110], 100, false, 116, false, 0, false, .func 97 [] []⟩
  | 18 => ⟨[109, 105, 120], 0, false, 101, false, 0, false, .func 98 [] []⟩
  | _ => ⟨[], 0, false, 0, false, 0, false, .nilf⟩
def o6 : List (AV × AV × Nat) := [(.int .u8 1, .agg (kd 1).cells, 0), (.int .u8 2, .agg (kd 2).cells, 1), (.int .u8 3, .agg (kd 3).cells, 2), (.int .u8 4, .agg (kd 4).cells, 3), (.int .u8 5, .agg (kd 5).cells, 4), (.int .u8 6, .agg (kd 6).cells, 5), (.int .u8 7, .agg (kd 7).cells, 6), (.int .u8 8, .agg (kd 8).cells, 7), (.int .u8 9, .agg (kd 9).cells, 8), (.int .u8 10, .agg (kd 10).cells, 9), (.int .u8 11, .agg (kd 11).cells, 10), (.int .u8 12, .agg (kd 12).cells, 11), (.int .u8 13, .agg (kd 13).cells, 12), (.int .u8 14, .agg (kd 14).cells, 13), (.int .u8 15, .agg (kd 15).cells, 14), (.int .u8 16, .agg (kd 16).cells, 15), (.int .u8 17, .agg (kd 17).cells, 16), (.int .u8 18, .agg (kd 18).cells, 17)]
theorem q8 (p : Pos) : ¬ Plain (.map p) := fun h => by
  have := h (fun _ => (⟨0, 0, 0⟩ : Go.Ai.Loc)) (fun _ => ⟨1, 0, 0⟩) (p.toNat + 1) (p.toNat + 1) (fun _ => none) _ (.map p (Nat.lt_succ_self _))
  cases this
theorem Ay (st : St) (p : Pos) (s' : St) : tidy st (.map p, s') = (.map p, s') := by
  unfold tidy; rw [if_neg]
  exact fun e => q8 p e.1
theorem aP {R : Type} (c : CallA) (K : AV -> St -> Option R) (st : St) (z : List AV) (ps : List (Nat × Nat)) (xs l : List AV) (h : fillA z ps xs = some l) : stp c (.build z ps) xs st K = K (.agg l) st := by
  rw [stp_build, h]; rfl
theorem aQ {R : Type} (c : CallA) (K : AV -> St -> Option R) (st : St) (es : List (AV × AV × Nat)) (cl : Nat) (k : IntKind) (x : Int) (v : AV) (hf : findA .i (.int k x) es 0 = some none) :
    stp c (.mapSet .i) [.map st.next, .int k x, v] (nst st (.map es cl)) K = K .undef (nst st (.map (es ++ [(.int k x, v, cl)]) (cl + 1))) := by
  have : OpK.run (fun b => (nst st (.map es cl)).heap.get b) (nst st (.map es cl)).next (.mapSet .i) [.map st.next, .int k x, v] = some (.eff .undef none (some (st.next, .map (es ++ [(.int k x, v, cl)]) (cl + 1))) none) := by
    simp [OpK.run, runMapSet, hf, isPK]
  unfold stp stepA; rw [this]
  show K .undef (stt (nst st (.map es cl)) st.next _) = _
  rw [stt_nst]
theorem Az (hc : Sem c) (s : St) : c 32 [] s = some (.map s.next, nst s (.map o6 18)) := by
  rw [qd hc 1 (r := (.map s.next, nst s (.map o6 18))), Ay]
  rw [o7]
  rw [stp_move, stp_mkMap]
  rw [aP (l := (kd 1).cells) (h := rfl), aQ (hf := rfl)]
  rw [aP (l := (kd 2).cells) (h := rfl), aQ (hf := rfl)]
  rw [aP (l := (kd 3).cells) (h := rfl), aQ (hf := rfl)]
  rw [aP (l := (kd 4).cells) (h := rfl), aQ (hf := rfl)]
  rw [aP (l := (kd 5).cells) (h := rfl), aQ (hf := rfl)]
  rw [aP (l := (kd 6).cells) (h := rfl), aQ (hf := rfl)]
  rw [aP (l := (kd 7).cells) (h := rfl), aQ (hf := rfl)]
  rw [aP (l := (kd 8).cells) (h := rfl), aQ (hf := rfl)]
  rw [aP (l := (kd 9).cells) (h := rfl), aQ (hf := rfl)]
  rw [aP (l := (kd 10).cells) (h := rfl), aQ (hf := rfl)]
  rw [aP (l := (kd 11).cells) (h := rfl), aQ (hf := rfl)]
  rw [aP (l := (kd 12).cells) (h := rfl), aQ (hf := rfl)]
  rw [aP (l := (kd 13).cells) (h := rfl), aQ (hf := rfl)]
  rw [aP (l := (kd 14).cells) (h := rfl), aQ (hf := rfl)]
  rw [aP (l := (kd 15).cells) (h := rfl), aQ (hf := rfl)]
  rw [aP (l := (kd 16).cells) (h := rfl), aQ (hf := rfl)]
  rw [aP (l := (kd 17).cells) (h := rfl), aQ (hf := rfl)]
  rw [aP (l := (kd 18).cells) (h := rfl), aQ (hf := rfl)]
  rw [stp_move, stp_move]
  . rfl
  . exact .nilf
theorem Cg {R : Type} (c : CallA) (K : AV -> St -> Option R) (st : St) (m : Pos) (cl : Nat) (h : st.heap.get m = some (.map o6 cl)) (n : Nat) :
    stp c (.lookup .i (.agg [.str [], .int .u8 0, .bool false, .int .u8 0, .bool false, .int .i64 0, .bool false, .nilf]) false) [.map m, .int .u8 (n : Int)] st K = K (.agg (kd n).cells) st := by
  have e : findA .i (.int .u8 (n : Int)) o6 0 = some (if 1 <= n /\ n <= 18 then some (n - 1, .agg (kd n).cells) else none) := by
    by_cases h : n <= 18
    . have : n = 0 \/ n = 1 \/ n = 2 \/ n = 3 \/ n = 4 \/ n = 5 \/ n = 6 \/ n = 7 \/ n = 8 \/ n = 9 \/ n = 10 \/ n = 11 \/ n = 12 \/ n = 13 \/ n = 14 \/ n = 15 \/ n = 16 \/ n = 17 \/ n = 18 := by omega
      rcases this with rfl | rfl | rfl | rfl | rfl | rfl | rfl | rfl | rfl | rfl | rfl | rfl | rfl | rfl | rfl | rfl | rfl | rfl | rfl <;> rfl
    . have BM : ∀ j : Int, j <= 18 -> intEq (n : Int) j = false := fun j hj => by rw [intEq_eq]; simp; omega
      rw [if_neg (by omega)]
      simp [o6, findA, eqPK, BM, eqKind_self]
  have : ∀ z : AV, OpK.run (fun b => st.heap.get b) st.next (.lookup .i z false) [.map m, .int .u8 (n : Int)] = some (.val (if 1 <= n /\ n <= 18 then .agg (kd n).cells else z)) := fun z => by
    simp only [OpK.run, runLookup, h, e]
    by_cases h1 : 1 <= n /\ n <= 18
    . rw [if_pos h1, if_pos h1]
    . rw [if_neg h1, if_neg h1]
  unfold stp stepA; rw [this]
  by_cases h1 : 1 <= n /\ n <= 18
  . rw [if_pos h1]
  . rw [if_neg h1]
    have : kd n = ⟨[], 0, false, 0, false, 0, false, .nilf⟩ := by
      unfold kd; split <;> first | rfl | omega
    rw [this]; rfl
end Go.Proofs.YtehbdakjkjkekaaGreatDoor
end
section
set_option maxRecDepth 100000
namespace Go.Proofs.YtehbdakjkjkekaaGreatDoor
open Go Go.Ai Go.Proofs
variable {c : CallA}
def aD (s : List Nat) : List Nat := if s = [] then [45] else s
def fL (u : Bool) (t : List Nat) : List (List AV) := if u then [[.str (aD t)]] else []
theorem oF {s : St} {v : AV} {rows : List (List AV)} {P : Pos} {cs : List AV} {i : Nat} {u : Bool} {t : List Nat}
    (hw : Wf s) (hP : s.heap.get P = some (.cells cs 0)) (hcut : cut cs (i * 2) 2 = some [.bool u, .str t]) (hi : i < 3) (hQ : QS 1 s v rows) (hr : ∀ r ∈ rows, r.length = 1) (hn : rows.length <= 1000) :
    ∃ s' v', (∀ F k4 x3 x4 x6 x7 bh aY bw n, bG c F k4 (n + 1) [x3, x4, x6, x7, v, bh, aY, bw, .slice P 0 3 (some 3) 2, .int .i64 3, .int .i64 (i : Int)] s = bG c F k4 n [x3, x4, x6, x7, v', bh, aY, bw, .slice P 0 3 (some 3) 2, .int .i64 3, .int .i64 ((i + 1 : Nat) : Int)] s') /\
      QS 1 s' v' (rows ++ fL u t) /\ Wk s v s' v' := by
  have w : wrapI .i64 ((i : Int) + 1) = ((i + 1 : Nat) : Int) := wrap64 (by omega) (by omega)
  have aA : decide ((i : Int) < 3) = true := by simp; omega
  have BN : ∀ (K : AV -> St -> Option (AV × St)), stp c (.idxA 2 none) [.slice P 0 3 (some 3) 2, .int .i64 (i : Int)] s K = K (.ptr P (0 + i * 2)) s := fun K => stp_idxQ (c := c) (K := K) (st := s) (es := 2) (es' := 2) (k := .i64) (off := 0) hi
  rw [Nat.zero_add] at BN
  have ei := fun (K : AV -> St -> Option (AV × St)) => stp_store_new c K s 2 (.agg [.bool u, .str t]) [.bool false, .str []] rfl rfl rfl
  rw [show (AV.agg [.bool u, .str t]).cells = [.bool u, .str t] from rfl] at ei
  have hg := Grew.nst hw (.cells [.bool u, .str t] 0)
  have bJ : Wf (nst s (.cells [.bool u, .str t] 0)) := wf_nst hw
  have hb := get_nst s (.cells [.bool u, .str t] 0)
  have hQ1 : QS 1 (nst s (.cells [.bool u, .str t] 0)) v rows := hQ.mono fun _ _ _ hx => hg.get hx
  cases u with
  | false =>
    refine ⟨_, v, fun F k4 x3 x4 x6 x7 bh aY bw n => ?_, by simpa [fL] using hQ1, Wk.grew hg⟩
    rw [bG]
    simp [jnn, -stp_store_new, aA, BN, hP, hcut, ei, w]
  | true =>
    by_cases ht : t = []
    . subst ht
      have o8 : ∀ (K : AV -> St -> Option (AV × St)), stp c (.store 1) [.ptr s.next 1, .str [45]] (nst s (.cells [.bool true, .str []] 0)) K = K .undef (nst s (.cells [.bool true, .str [45]] 0)) := fun K => by
        rw [stp_store c K _ 1 s.next 1 (.str [45]) _ hb rfl (by simp) rfl, stt_nst]
        rfl
      have iP := Grew.nst hw (.cells [.bool true, .str [45]] 0)
      have eT : Wf (nst s (.cells [.bool true, .str [45]] 0)) := wf_nst hw
      have az := get_nst s (.cells [.bool true, .str [45]] 0)
      obtain ⟨s5, v', a1, a2, a3⟩ := (hQ.mono fun _ _ _ hx => iP.get hx : QS 1 (nst s (.cells [.bool true, .str [45]] 0)) v rows).pushF (c := c) (R := AV × St) (bytes := 16) (z := [.str []]) (x := .str [45]) eT hr rfl rfl rfl (by omega) (by omega)
      refine ⟨s5, v', fun F k4 x3 x4 x6 x7 bh aY bw n => ?_, by simpa [fL, aD, AV.cells] using a2, (Wk.grew iP).trans hw a3⟩
      rw [bG]
      simp [jnn, -stp_store_new, -stp_bslice, aA, BN, hP, hcut, ei, w, hb, o8, az, a1]
    . obtain ⟨s5, v', a1, a2, a3⟩ := hQ1.pushF (c := c) (R := AV × St) (bytes := 16) (z := [.str []]) (x := .str t) bJ hr rfl rfl rfl (by omega) (by omega)
      refine ⟨s5, v', fun F k4 x3 x4 x6 x7 bh aY bw n => ?_, by simpa [fL, aD, ht, AV.cells] using a2, (Wk.grew hg).trans hw a3⟩
      rw [bG]
      simp [jnn, -stp_store_new, -stp_bslice, aA, BN, hP, hcut, ei, w, hb, ht, a1]
theorem se {u : Bool} {t : List Nat} : ∀ r ∈ fL u t, r.length = 1 := fun r hr => by
  unfold fL at hr
  split at hr
  . simp at hr; subst hr; rfl
  . simp at hr
theorem sg (u : Bool) (t : List Nat) : (fL u t).length <= 1 := by unfold fL; split <;> simp
theorem yA {s : St} {v : AV} {rows : List (List AV)} {P : Pos} {a b d : Bool} {x y z : List Nat} (hw : Wf s) (hP : s.heap.get P = some (.cells [.bool a, .str x, .bool b, .str y, .bool d, .str z] 0)) (hv : ownB v ≠ some P) (hQ : QS 1 s v rows) (hr : ∀ r ∈ rows, r.length = 1) (hn : rows.length <= 990) :
    ∃ s' v', (∀ F k4 x3 x4 x6 x7 bh aY bw n, bG c F k4 (n + 4) [x3, x4, x6, x7, v, bh, aY, bw, .slice P 0 3 (some 3) 2, .int .i64 3, .int .i64 0] s = k4 [x3, x4, x6, x7, v', bh, aY, bw] s') /\
      QS 1 s' v' (rows ++ fL a x ++ fL b y ++ fL d z) /\ Wk s v s' v' := by
  have lP := hw _ _ hP
  obtain ⟨s1, v1, a1, a2, a3⟩ := oF (c := c) (i := 0) hw hP rfl (by decide) hQ hr (by omega)
  have n1 : ownB v1 ≠ some P := fun e => by
    rcases a3.new _ e with h | h
    . exact hv h
    . omega
  have wg : ∀ r ∈ rows ++ fL a x, r.length = 1 := fun r h => (List.mem_append.1 h).elim (hr r) (se r)
  have l1 := sg a x
  obtain ⟨s2, v2, b1, b2, b3⟩ := oF (c := c) (i := 1) a3.wf (a3.keep _ _ hv hP) rfl (by decide) a2 wg (by rw [List.length_append]; omega)
  have n2 : ownB v2 ≠ some P := fun e => by
    rcases b3.new _ e with h | h
    . exact n1 h
    . have := a3.next; omega
  have hr2 : ∀ r ∈ rows ++ fL a x ++ fL b y, r.length = 1 := fun r h => (List.mem_append.1 h).elim (wg r) (se r)
  have l2 := sg b y
  obtain ⟨s3, v3, c1, c2, c3⟩ := oF (c := c) (i := 2) b3.wf (b3.keep _ _ n1 (a3.keep _ _ hv hP)) rfl (by decide) b2 hr2 (by rw [List.length_append, List.length_append]; omega)
  refine ⟨s3, v3, fun F k4 x3 x4 x6 x7 bh aY bw n => ?_, c2, (a3.trans hw b3).trans hw c3⟩
  rw [show (AV.int .i64 0) = .int .i64 ((0 : Nat) : Int) from rfl, a1, b1, c1, bG]
  simp
end Go.Proofs.YtehbdakjkjkekaaGreatDoor
end
section
set_option maxRecDepth 100000
namespace Go.Proofs.YtehbdakjkjkekaaGreatDoor
open Go Go.Ai Go.Proofs
variable {c : CallA}
theorem fk {R : Type} {Q : Option R -> Prop} (P : (List AV -> St -> Option R) -> Prop) {A : (List AV -> St -> Option R) -> Option R} {T : List AV -> St -> Option R} (hT : P T) (hA : ∀ j, P j -> Q (A j)) : Q (jnn A T) := hA T hT
abbrev cR (s : List Nat) : List AV := [.str s]
def eE (k : Kd) (r : Rl) : List (List Nat) := (if 0 < r.wt then [[119, 101, 105, 103, 104], aT r.wt] else [[104, 97, 114, 100]]) ++ [k.w]
def bA (k : Kd) (r : Rl) : List (List Nat) := (if k.a ≠ 0 then [aD r.a] else []) ++ (if k.b then [aD r.b] else []) ++ (if k.t ≠ 0 then [aD r.t] else [])
def bL (k : Kd) (r : Rl) : List (List Nat) := eE k r ++ bA k r ++ (if k.n then [aT r.n] else [])
def bO (r : Rl) : List Nat := bF [32] (bL (kd r.k.toNat) r) ++ [10]
def kq (q : af.RR) (r : Rl) : Bool := decide ((q.k : Int) = r.k) && (decide (q.wt = r.wt) && (decide (af.cG q.a = r.a) && (decide (af.cG q.b = r.b) && (decide (af.cG q.t = r.t) && decide (q.n = r.n)))))
def je (r : Rl) : Bool := match af.cM (af.ah (bO r)) with
  | .inl _ => false
  | .inr q => kq q r
structure Rl.Fit (r : Rl) : Prop where
  k : 0 <= r.k /\ r.k < 256
  wt : -9223372036854775808 <= r.wt /\ r.wt <= 9223372036854775807
  n : -9223372036854775808 <= r.n /\ r.n <= 9223372036854775807
  len : (bO r).length <= 2097152
  byte : ∀ x ∈ bO r, x < 256
theorem GN (m : Nat) : allOne (kd m).cells = true := by
  unfold kd
  split <;> rfl
structure FI (st s : St) (X M : Pos) (N0 : Nat) (bs : List Nat) : Prop where
  wf : Wf s
  keep : Keeps st s
  GO : r4 N0 s X bs
  map : s.heap.get M = some (.map o6 18)
  GP : M.toNat < N0
  GQ : M ≠ X
  aK : ∀ b x, st.heap.get b = some x -> b.toNat < N0 /\ b ≠ X
theorem wh (hc : Sem c) {n : Int} (h : -9223372036854775808 <= n /\ n <= 9223372036854775807) (s : St) : c 33 [.int .i64 n] s = some (.str (aT n), s) := by
  refine Ch hc ?_
  unfold lM
  cases h1 : Int.decLe (-9223372036854775808) n with
  | isFalse h' => exact absurd h.1 h'
  | isTrue h' =>
    cases h2 : Int.decLe n 9223372036854775807 with
    | isFalse h'' => exact absurd h.2 h''
    | isTrue h'' => simp only [h1, h2]
theorem od : ∀ l : List (List Nat), jJ ((l.map cR).flatten) = some l
  | [] => rfl
  | x :: l => by
    have := od l
    simp only [List.map_cons, List.flatten_cons, cR, List.cons_append, List.nil_append, jJ] at this ⊢
    rw [this]
theorem Ci (hc : Sem c) {s : St} {v : AV} {l : List (List Nat)} (h : QS 1 s v (l.map cR)) (h0 : l ≠ []) (hn : l.length <= 1000) (hl : (bF [32] l).length <= 140737488355328) : c 34 [v, .str [32]] s = some (.str (bF [32] l), s) := by
  refine Cj hc ?_
  have rK : 0 < l.length := List.length_pos_iff.2 h0
  rcases h with ⟨_, h1⟩ | ⟨b, off, cap, cs, rfl, h1, h2, h3, h4⟩ | ⟨b, off, _, h1⟩
  . simp at h1; exact absurd h1 h0
  . rw [List.length_map] at h2 h3 ⊢
    rw [Nat.mul_one] at h2 h3
    have hcut : cut cs off l.length = some ((l.map cR).flatten) := by
      unfold cut; rw [ble_d, decide_eq_true h2]; simp only [h3]
    have e1 : Nat.blt 0 l.length = true := by simpa using rK
    simp only [lN, h1, hcut, od, e1, ble_d, decide_eq_true (show l.length <= 1000000 by omega), decide_eq_true hl]
  . simp at h1; exact absurd h1 h0
theorem yB (s : St) (a b d : Bool) (x y z : List Nat) (K : AV -> St -> Option (AV × St)) : stp c (.buildSlice 2 3 [.bool false, .str []] [0, 1, 2]) [.agg [.bool a, .str x], .agg [.bool b, .str y], .agg [.bool d, .str z]] s K = K (.slice s.next 0 3 (some 3) 2) (nst s (.cells [.bool a, .str x, .bool b, .str y, .bool d, .str z] 0)) := rfl
theorem Ck (s : St) (x y : List Nat) (K : AV -> St -> Option (AV × St)) : stp c (.buildSlice 1 2 [.str []] [0, 1]) [.str x, .str y] s K = K (.slice s.next 0 2 (some 2) 1) (nst s (.cells [.str x, .str y] 0)) := rfl
theorem w9 (s : St) (x : List Nat) (K : AV -> St -> Option (AV × St)) : stp c (.buildSlice 1 1 [.str []] [0]) [.str x] s K = K (.slice s.next 0 1 (some 1) 1) (nst s (.cells [.str x] 0)) := rfl
theorem r4.keep {N0 : Nat} {s s' : St} {X : Pos} {bs : List Nat} (h : r4 N0 s X bs) (hk : Keeps s s') (hn : s.next.toNat <= s'.next.toNat) : r4 N0 s' X bs := by
  obtain ⟨h1, h2, h3, p, v, hX, hp, hv⟩ := h
  refine ⟨h1, Nat.le_trans h2 hn, h3, p, v, hk _ _ hX, hp, ?_⟩
  rcases hv with hv | ⟨Y, e1, e2, e3, e4⟩
  . exact .inl hv
  . exact .inr ⟨Y, e1, hk _ _ e2, e3, e4⟩
theorem FI.more {st s s' : St} {X M : Pos} {N0 : Nat} {bs : List Nat} (h : FI st s X M N0 bs) (hk : Keeps s s') (hn : s.next.toNat <= s'.next.toNat) (hw : Wf s') : FI st s' X M N0 bs :=
  ⟨hw, h.keep.trans hk, h.GO.keep hk hn, hk _ _ h.map, h.GP, h.GQ, h.aK⟩
theorem si (s : St) (x y : List Nat) (h : x.length + y.length <= 9223372036854775807) (K : AV -> St -> Option (AV × St)) : stp c (.bin .add .num) [.str x, .str y] s K = K (.str (x ++ y)) s :=
  stp_ofv c K (fun H n => by simp only [OpK.run, runBin, binA, ble_d, decide_eq_true h]) s
theorem jw {xs ys : List AV} {fs : List (Nat × PK)} {o : Nat} {k : IntKind} {a b : Int} (h1 : nth xs o = some (.int k a)) (h2 : nth ys o = some (.int k b)) : eqFields xs ys ((o, .i) :: fs) = if a = b then eqFields xs ys fs else some false := by
  simp only [eqFields, h1, h2, eqPK, eqKind_self]
  by_cases h : a = b
  . rw [if_pos h, intEq_eq, beq_iff_eq.2 h]
  . rw [if_neg h]
    rw [intEq_eq, beq_eq_false_iff_ne.2 h]
theorem jx {xs ys : List AV} {fs : List (Nat × PK)} {o : Nat} {a b : List Nat} (h1 : nth xs o = some (.str a)) (h2 : nth ys o = some (.str b)) : eqFields xs ys ((o, .s) :: fs) = if a = b then eqFields xs ys fs else some false := by
  simp only [eqFields, h1, h2, eqPK]
  by_cases h : a = b
  . rw [if_pos h, beqNats_eq.2 h]
  . rw [if_neg h]
    cases e : beqNats a b with
    | true => exact absurd (beqNats_eq.1 e) h
    | false => rfl
theorem AA (q : af.RR) (r : Rl) : eqFields (af.ic q) r.cells [(0, .i), (1, .i), (2, .s), (3, .s), (4, .s), (5, .i)] = some (kq q r) := by
  rw [jw rfl rfl, jw rfl rfl, jx rfl rfl, jx rfl rfl, jx rfl rfl, jw rfl rfl]
  unfold kq
  by_cases h1 : (q.k : Int) = r.k
  . by_cases h2 : q.wt = r.wt
    . by_cases h3 : af.cG q.a = r.a
      . by_cases h4 : af.cG q.b = r.b
        . by_cases h5 : af.cG q.t = r.t
          . by_cases h6 : q.n = r.n
            . simp [h1, h2, h3, h4, h5, h6, eqFields]
            . simp [h1, h2, h3, h4, h5, h6]
          . simp [h1, h2, h3, h4, h5]
        . simp [h1, h2, h3, h4]
      . simp [h1, h2, h3]
    . simp [h1, h2]
  . simp [h1]
theorem AD (s : St) (q : af.RR) (r : Rl) (K : AV -> St -> Option (AV × St)) : stp c (.bin .neq (.struct [(0, .i), (1, .i), (2, .s), (3, .s), (4, .s), (5, .i)])) [.agg (af.ic q), .agg r.cells] s K = K (.bool (!kq q r)) s :=
  stp_ofv c K (fun H n => by simp only [OpK.run, runBin, binA, eqBy, AA]) s
theorem yC (hc : Sem c) {st s : St} {X M : Pos} {N0 : Nat} {bs : List Nat} (z : Bool) (rs : List Rl) (k : Nat) (hk : k < rs.length) (jK : rs.length <= 64) (dR : rs[k].Fit) (hI : FI st s X M N0 bs) (cY : bs.length <= 140000000) (F n : Nat) (hF : 4 <= F) (k1 k2) (Q : Option (AV × St) -> Prop)
    (lO : je rs[k] = true -> ∀ s', FI st s' X M N0 (bs ++ bO rs[k]) -> Q (bT c F k1 k2 n [.ptr X 0, .map M, bg z rs, .int .i64 (rs.length : Int), .int .i64 ((k + 1 : Nat) : Int)] s'))
    (cW : je rs[k] = false -> ∀ s', Keeps st s' -> Q (k1 [.str []] s')) :
    Q (bT c F k1 k2 (n + 1) [.ptr X 0, .map M, bg z rs, .int .i64 (rs.length : Int), .int .i64 (k : Int)] s) := by
  have w : wrapI .i64 ((k : Int) + 1) = ((k + 1 : Nat) : Int) := wrap64 (by omega) (by omega)
  have hw := hI.wf
  rw [bT]
  simp [-stp_store_new, -stp_bslice, bg, hk]
  refine fk (P := fun j => je rs[k] = true -> ∀ s', FI st s' X M N0 (bs ++ bO rs[k]) -> Q (j [.ptr X 0, .map M, bg z rs, .int .i64 (rs.length : Int), .int .i64 (k : Int)] s')) ?_ ?_
  . intro bf s' dB
    have := lO bf s' dB
    simpa [w, bg] using this
  . intro j hj
    have ei := fun (K : AV -> St -> Option (AV × St)) => stp_store_new c K s 6 (.agg rs[k].cells) [.int .u8 0, .int .i64 0, .str [], .str [], .str [], .int .i64 0] rfl rfl (Rl.one _)
    rw [show (AV.agg rs[k].cells).cells = rs[k].cells from rfl] at ei
    obtain ⟨m, hm⟩ : ∃ m : Nat, rs[k].k = (m : Int) := ⟨rs[k].k.toNat, by have := dR.k; omega⟩
    have o9 := Grew.nst hw (.cells rs[k].cells 0)
    have bJ := o9.wf
    have aF := get_nst s (.cells rs[k].cells 0)
    have oY := fun (K : AV -> St -> Option (AV × St)) => Cg c K _ M 18 (o9.get hI.map) m
    rw [<- hm] at oY
    have GR := fun (K : AV -> St -> Option (AV × St)) => stp_store_new c K (nst s (.cells rs[k].cells 0)) 8 (.agg (kd m).cells) [.str [], .int .u8 0, .bool false, .int .u8 0, .bool false, .int .i64 0, .bool false, .nilf] rfl rfl (GN m)
    rw [show (AV.agg (kd m).cells).cells = (kd m).cells from rfl] at GR
    simp [-stp_store_new, -stp_bslice, ei, aF, oY, GR, w9]
    obtain ⟨F', rfl⟩ : ∃ F', F = F' + 4 := ⟨F - 4, by omega⟩
    have iP := Grew.nst bJ (.cells (kd m).cells 0)
    have eT := iP.wf
    have GS := o9.trans iP
    have hkm : rs[k].k.toNat = m := by omega
    refine fk (P := fun j2 => ∀ s' v, Wk (nst (nst s (.cells rs[k].cells 0)) (.cells (kd m).cells 0)) .nils s' v -> QS 1 s' v ((if 0 < rs[k].wt then [[119, 101, 105, 103, 104], aT rs[k].wt] else [[104, 97, 114, 100]]).map cR) ->
      Q (j2 [.ptr X 0, .map M, .ptr s.next 0, .ptr (nst s (.cells rs[k].cells 0)).next 0, v, bg z rs, .int .i64 (rs.length : Int), .int .i64 (k : Int)] s')) ?_ ?_
    . intro s3 v GU hQ
      have jf := GU.keeps
      have hb6 : s3.heap.get s.next = some (.cells rs[k].cells 0) := jf _ _ (iP.get aF)
      have hb7 : s3.heap.get (nst s (.cells rs[k].cells 0)).next = some (.cells (kd m).cells 0) := jf _ _ (get_nst _ _)
      have fy : ((if 0 < rs[k].wt then [[119, 101, 105, 103, 104], aT rs[k].wt] else [[104, 97, 114, 100]]).map cR).length <= 2 := by split <;> simp
      have fM : ∀ r ∈ (if 0 < rs[k].wt then [[119, 101, 105, 103, 104], aT rs[k].wt] else [[104, 97, 114, 100]]).map cR, r.length = 1 := fun r hr => by
        simp only [List.mem_map] at hr
        obtain ⟨x, _, rfl⟩ := hr; rfl
      obtain ⟨s5, v5, a1, a2, a3⟩ := hQ.pushF (c := c) (R := AV × St) (bytes := 16) (z := [.str []]) (x := .str (kd m).w) GU.wf fM rfl rfl rfl (by omega) (by omega)
      have GV := GU.trans eT a3
      have hk5 := GV.keeps
      have LO : s5.heap.get s.next = some (.cells rs[k].cells 0) := hk5 _ _ (iP.get aF)
      have LP : s5.heap.get (nst s (.cells rs[k].cells 0)).next = some (.cells (kd m).cells 0) := hk5 _ _ (get_nst _ _)
      have hw5 := GV.wf
      have GW := Grew.nst hw5 (.cells [.bool (!decide ((kd m).a = 0)), .str rs[k].a, .bool (kd m).b, .str rs[k].b, .bool (!decide ((kd m).t = 0)), .str rs[k].t] 0)
      have hr5 : ∀ r ∈ (if 0 < rs[k].wt then [[119, 101, 105, 103, 104], aT rs[k].wt] else [[104, 97, 114, 100]]).map cR ++ [(AV.str (kd m).w).cells], r.length = 1 := fun r h => (List.mem_append.1 h).elim (fM r) (fun h => by simp at h; subst h; rfl)
      have h5v : ownB v5 ≠ some s5.next := fun e => by have := a2.lt hw5 e; omega
      obtain ⟨s7, v7, b1, b2, b3⟩ := yA (c := c) GW.wf (get_nst s5 (.cells [.bool (!decide ((kd m).a = 0)), .str rs[k].a, .bool (kd m).b, .str rs[k].b, .bool (!decide ((kd m).t = 0)), .str rs[k].t] 0)) h5v (a2.mono fun _ _ _ hx => GW.get hx) hr5 (by rw [List.length_append]; simp only [List.length_cons, List.length_nil]; omega)
      have yD : Wk (nst (nst s (.cells rs[k].cells 0)) (.cells (kd m).cells 0)) .nils s7 v7 := (GV.trans eT (Wk.grew GW)).trans eT b3
      have hQ7 : QS 1 s7 v7 ((eE (kd m) rs[k] ++ bA (kd m) rs[k]).map cR) := by
        have : (eE (kd m) rs[k] ++ bA (kd m) rs[k]).map cR = (if 0 < rs[k].wt then [[119, 101, 105, 103, 104], aT rs[k].wt] else [[104, 97, 114, 100]]).map cR ++ [(AV.str (kd m).w).cells] ++ fL (!decide ((kd m).a = 0)) rs[k].a ++ fL (kd m).b rs[k].b ++ fL (!decide ((kd m).t = 0)) rs[k].t := by
          unfold eE bA fL
          rw [List.map_append, List.map_append, List.map_append, List.map_append]
          have e1 : ((if (kd m).a ≠ 0 then [aD rs[k].a] else []) : List (List Nat)).map cR = if (!decide ((kd m).a = 0)) = true then [[AV.str (aD rs[k].a)]] else [] := by
            by_cases h : (kd m).a = 0 <;> simp [h]
          have e2 : ((if (kd m).b = true then [aD rs[k].b] else []) : List (List Nat)).map cR = if (kd m).b = true then [[AV.str (aD rs[k].b)]] else [] := by
            cases h : (kd m).b <;> simp
          have e3 : ((if (kd m).t ≠ 0 then [aD rs[k].t] else []) : List (List Nat)).map cR = if (!decide ((kd m).t = 0)) = true then [[AV.str (aD rs[k].t)]] else [] := by
            by_cases h : (kd m).t = 0 <;> simp [h]
          rw [e1, e2, e3]
          simp [AV.cells]
        rw [this]; exact b2
      have KG : s7.heap.get s.next = some (.cells rs[k].cells 0) := yD.keeps _ _ (iP.get aF)
      have BO : s7.heap.get (nst s (.cells rs[k].cells 0)).next = some (.cells (kd m).cells 0) := yD.keeps _ _ (get_nst _ _)
      have nI : ∀ (b : Bool) (x : List Nat), fillA [.bool false, .str []] [(0, 1), (1, 1)] [.bool b, .str x] = some [.bool b, .str x] := fun b x => rfl
      have KH : ∀ (K : AV -> St -> Option (AV × St)) (t : St) (p : Pos), stp c (.lenB .l) [.slice p 0 3 (some 3) 2] t K = K (.int .i64 3) t := fun K t p => stp_lenQ c K t _ _ _ _ _
      simp [-stp_bslice, hb6, hb7, a1, LO, LP, yB, nI, KH, b1]
      refine fk (P := fun j3 => ∀ s' v, Wk (nst (nst s (.cells rs[k].cells 0)) (.cells (kd m).cells 0)) .nils s' v -> QS 1 s' v ((bL (kd m) rs[k]).map cR) ->
        Q (j3 [.ptr X 0, .map M, .ptr s.next 0, v, bg z rs, .int .i64 (rs.length : Int), .int .i64 (k : Int)] s')) ?_ ?_
      . intro s9 v9 BP hQ9
        have hT : bO rs[k] = bF [32] (bL (kd m) rs[k]) ++ [10] := by unfold bO; rw [hkm]
        have hjl : (bF [32] (bL (kd m) rs[k])).length + 1 <= 2097152 := by have := dR.len; rw [hT, List.length_append] at this; exact this
        have aI : bL (kd m) rs[k] ≠ [] := by unfold bL eE; split <;> simp
        have iM : (bL (kd m) rs[k]).length <= 1000 := by
          unfold bL eE bA
          simp only [List.length_append]
          split <;> split <;> split <;> split <;> split <;> simp
        have hJ := Ci hc hQ9 aI iM (by omega)
        have xb := si (c := c) s9 (bF [32] (bL (kd m) rs[k])) [10] (by simp only [List.length_cons, List.length_nil]; omega)
        rw [<- hT] at xb
        have ig : c 35 [.str (bO rs[k])] s9 = some (af.nN (af.cM (af.ah (bO rs[k]))), s9) := Cl hc (by unfold lQ; simp only [ble_d, decide_eq_true dR.len])
        have BQ : FI st s9 X M N0 bs := hI.more ((GS.keeps).trans BP.keeps) (by have := GS.next; have := BP.next; omega) BP.wf
        have hb9 : s9.heap.get s.next = some (.cells rs[k].cells 0) := BP.keeps _ _ (iP.get aF)
        have GX := fun (l : List AV) (hl : l.length = 6) (h1 : allOne l = true) (K : AV -> St -> Option (AV × St)) => stp_store_new c K s9 6 (.agg l) [.int .u8 0, .int .i64 0, .str [], .str [], .str [], .int .i64 0] hl rfl h1
        rcases gZ : af.cM (af.ah (bO rs[k])) with e | q
        . have bf : je rs[k] = false := by unfold je; rw [gZ]
          have he : ¬ e = 0 := by have := af.qw gZ; omega
          rw [gZ] at ig
          have wj := Grew.nst BQ.wf (.cells [.int .u8 0, .int .i64 0, .str [], .str [], .str [], .int .i64 0] 0)
          have := cW bf _ (BQ.keep.trans wj.keeps)
          have GY := GX [.int .u8 0, .int .i64 0, .str [], .str [], .str [], .int .i64 0] rfl rfl
          rw [show (AV.agg [.int .u8 0, .int .i64 0, .str [], .str [], .str [], .int .i64 0]).cells = [.int .u8 0, .int .i64 0, .str [], .str [], .str [], .int .i64 0] from rfl] at GY
          simpa [-stp_store_new, hJ, xb, ig, af.nN, GY, he] using this
        . rw [gZ] at ig
          have wj := Grew.nst BQ.wf (.cells (af.ic q) 0)
          have yE := BQ.more wj.keeps wj.next wj.wf
          have hbz : (nst s9 (.cells (af.ic q) 0)).heap.get s.next = some (.cells rs[k].cells 0) := wj.get hb9
          have BR : cut (af.ic q) 0 6 = some (af.ic q) := cut_all rfl
          have GZ := fun (K : AV -> St -> Option (AV × St)) => AD (c := c) (nst s9 (.cells (af.ic q) 0)) q rs[k] K
          have AE := GX (af.ic q) rfl rfl
          rw [show (AV.agg (af.ic q)).cells = af.ic q from rfl] at AE
          cases nJ : kq q rs[k] with
          | false =>
            have bf : je rs[k] = false := by unfold je; rw [gZ]; exact nJ
            have := cW bf _ yE.keep
            simpa [-stp_store_new, hJ, xb, ig, af.nN, AE, hbz, BR, GZ, nJ] using this
          | true =>
            have bf : je rs[k] = true := by unfold je; rw [gZ]; exact nJ
            have htn : bO rs[k] ≠ [] := by rw [hT]; simp
            obtain ⟨cS, d1, d2, d3, d4⟩ := qc hc yE.wf yE.GO htn dR.byte (by have := dR.len; omega)
            have LQ : FI st cS X M N0 (bs ++ bO rs[k]) := ⟨d3, fun b x hb => by
              obtain ⟨o1, o2⟩ := hI.aK b x hb
              rw [d4 b o2 o1]; exact yE.keep b x hb, d2, by rw [d4 M hI.GQ hI.GP]; exact yE.map, hI.GP, hI.GQ, hI.aK⟩
            have := hj bf cS LQ
            simpa [-stp_store_new, hJ, xb, ig, af.nN, AE, hbz, BR, GZ, nJ, d1] using this
      . intro j3 hj3
        cases hn : (kd m).n with
        | false =>
          have := hj3 s7 v7 yD (by simpa [bL, hn] using hQ7)
          simpa [BO, hn] using this
        | true =>
          have hit := wh hc dR.n s7
          have hr7 : ∀ r ∈ (eE (kd m) rs[k] ++ bA (kd m) rs[k]).map cR, r.length = 1 := fun r hr => by
            simp only [List.mem_map] at hr
            obtain ⟨x, _, rfl⟩ := hr; rfl
          have hl7 : ((eE (kd m) rs[k] ++ bA (kd m) rs[k]).map cR).length <= 10 := by
            unfold eE bA
            simp only [List.length_map, List.length_append]
            split <;> split <;> split <;> split <;> simp
          obtain ⟨s8, v8, d1, d2, d3⟩ := hQ7.pushF (c := c) (R := AV × St) (bytes := 16) (z := [.str []]) (x := .str (aT rs[k].n)) yD.wf hr7 rfl rfl rfl (by omega) (by omega)
          have := hj3 s8 v8 (yD.trans eT d3) (by simpa [bL, hn, AV.cells] using d2)
          simpa [-stp_bslice, BO, KG, hn, hit, d1] using this
    . intro j2 cm
      have sj := Grew.nst eT (.cells [.str [104, 97, 114, 100]] 0)
      have dK : (nst (nst (nst s (.cells rs[k].cells 0)) (.cells (kd m).cells 0)) (.cells [.str [104, 97, 114, 100]] 0)).heap.get s.next = some (.cells rs[k].cells 0) := get_nst_old2
      by_cases fu : 0 < rs[k].wt
      . rw [if_pos fu] at cm
        have hit := wh hc dR.wt (nst (nst (nst s (.cells rs[k].cells 0)) (.cells (kd m).cells 0)) (.cells [.str [104, 97, 114, 100]] 0))
        have G0 := Grew.nst sj.wf (.cells [.str [119, 101, 105, 103, 104], .str (aT rs[k].wt)] 0)
        have := cm (nst (nst (nst (nst s (.cells rs[k].cells 0)) (.cells (kd m).cells 0)) (.cells [.str [104, 97, 114, 100]] 0)) (.cells [.str [119, 101, 105, 103, 104], .str (aT rs[k].wt)] 0)) (.slice (nst (nst (nst s (.cells rs[k].cells 0)) (.cells (kd m).cells 0)) (.cells [.str [104, 97, 114, 100]] 0)).next 0 2 (some 2) 1)
          ⟨G0.wf, (sj.trans G0).next, fun p b _ hb => (sj.trans G0).get hb, fun p hp => .inr (by simp only [ownB] at hp; simp at hp; subst hp; exact sj.next)⟩
          (.inr (.inl ⟨_, 0, some 2, _, rfl, get_nst _ _, by simp, by simp, .inr rfl⟩))
        simpa [-stp_bslice, bg, dK, fu, hit, Ck] using this
      . rw [if_neg fu] at cm
        have := cm (nst (nst (nst s (.cells rs[k].cells 0)) (.cells (kd m).cells 0)) (.cells [.str [104, 97, 114, 100]] 0)) (.slice (nst (nst s (.cells rs[k].cells 0)) (.cells (kd m).cells 0)).next 0 1 (some 1) 1)
          ⟨sj.wf, sj.next, fun p b _ hb => sj.get hb, fun p hp => .inr (by simp only [ownB] at hp; simp at hp; subst hp; exact Nat.le_refl _)⟩
          (.inr (.inl ⟨_, 0, some 1, _, rfl, get_nst _ _, by simp, by simp, .inr rfl⟩))
        simpa [bg, dK, fu] using this
def en : List Rl -> List Nat -> List Nat
  | [], acc => acc
  | r :: rs, acc => if je r = true then en rs (acc ++ bO r) else []
def fmtS (rs : List Rl) : List Nat := if 64 < rs.length then [] else en rs []
theorem AF (hc : Sem c) {st : St} {X M : Pos} {N0 : Nat} (z : Bool) (rs : List Rl) (jK : rs.length <= 64) (dR : ∀ r ∈ rs, r.Fit) (F : Nat) (hF : 4 <= F) (k1 k2) (Q : Option (AV × St) -> Prop) (cW : ∀ s', en rs [] = [] -> Keeps st s' -> Q (k1 [.str []] s'))
    (lO : ∀ s', FI st s' X M N0 (en rs []) -> Q (k2 [.ptr X 0] s')) : ∀ (n k : Nat) (s : St) (bs : List Nat), rs.length <= k + n -> k <= rs.length -> bs.length <= k * 2097152 -> FI st s X M N0 bs -> en rs [] = en (rs.drop k) bs ->
    Q (bT c F k1 k2 (n + 1) [.ptr X 0, .map M, bg z rs, .int .i64 (rs.length : Int), .int .i64 (k : Int)] s) := by
  intro n
  induction n with
  | zero =>
    intro k s bs h1 h2 hb hI hg
    obtain rfl : k = rs.length := by omega
    rw [List.drop_length] at hg
    rw [bT]
    have := lO s (by rw [hg]; exact hI)
    simpa [bg] using this
  | succ n ih =>
    intro k s bs h1 h2 hb hI hg
    by_cases hk : k < rs.length
    . have hd : rs.drop k = rs[k] :: rs.drop (k + 1) := List.drop_eq_getElem_cons hk
      have hf := dR _ (List.getElem_mem hk)
      rw [hd, en] at hg
      refine yC hc z rs k hk jK hf hI (by omega) F (n + 1) hF k1 k2 Q (fun bf s' qu => ?_) (fun bf s' eV => ?_)
      . rw [if_pos bf] at hg
        exact ih (k + 1) s' _ (by omega) (by omega) (by rw [List.length_append]; have := hf.len; omega) qu hg
      . rw [if_neg (by rw [bf]; simp)] at hg
        exact cW s' hg eV
    . obtain rfl : k = rs.length := by omega
      rw [List.drop_length] at hg
      rw [bT]
      have := lO s (by rw [hg]; exact hI)
      simpa [bg] using this
theorem qx : ∀ (rs : List Rl) (acc : List Nat), (∀ r ∈ rs, (bO r).length <= 2097152) -> (en rs acc).length <= acc.length + rs.length * 2097152
  | [], acc, _ => by simp [en]
  | r :: rs, acc, h => by
    unfold en
    split
    . have := qx rs (acc ++ bO r) fun q hq => h q (List.mem_cons_of_mem _ hq)
      have := h r (by simp)
      simp only [List.length_append, List.length_cons] at *
      omega
    . simp
theorem yF (hc : Sem c) (z : Bool) (rs : List Rl) (hl : rs.length <= 1048576) (dR : rs.length <= 64 -> ∀ r ∈ rs, r.Fit) (st : St) (hw : Wf st) : c 7 [bg z rs] st = some (.str (fmtS rs), st) := by
  by_cases jK : 64 < rs.length
  . rw [ku hc 1 (r := (.str (fmtS rs), st)), tidy_eq (Plain.str _) (Keeps.refl st)]
    rw [gq]
    have : fmtS rs = [] := by unfold fmtS; rw [if_pos jK]
    rw [this]
    have hd : decide ((64 : Int) < (rs.length : Int)) = true := decide_eq_true (by omega)
    simp [bg, hd]
  . have hf := dR (by omega)
    have hS : fmtS rs = en rs [] := by unfold fmtS; rw [if_neg jK]
    have o9 := Grew.nst hw (.typed 81 [.nilp, .nils])
    have iP := Grew.nst o9.wf (.map o6 18)
    have hK := Az hc (nst st (.typed 81 [.nilp, .nils]))
    have G1 : (nst st (.typed 81 [.nilp, .nils])).next.toNat = st.next.toNat + 1 := by rw [nst_next, Pos.toNat_succ]
    have BM : (nst (nst st (.typed 81 [.nilp, .nils])) (.map o6 18)).next.toNat = st.next.toNat + 2 := by rw [nst_next, Pos.toNat_succ, G1]
    have hI : FI st (nst (nst st (.typed 81 [.nilp, .nils])) (.map o6 18)) st.next (nst st (.typed 81 [.nilp, .nils])).next (st.next.toNat + 2) [] :=
      ⟨iP.wf, (o9.trans iP).keeps, ⟨by omega, by omega, fun x hx => by simp at hx, .nilp, .nils, iP.get (get_nst _ _), .inl rfl, .inl ⟨rfl, rfl⟩⟩, get_nst _ _, by omega, fun e => by have := congrArg Pos.toNat e; omega, fun b x hb => by
        have := hw b x hb
        exact ⟨by omega, fun e => by subst e; omega⟩⟩
    have key : ∃ s', gq c 101 (bg z rs) st = some (.str (fmtS rs), s') /\ Keeps st s' := by
      have L := AF hc z rs (by omega) hf 101 (by omega) (fun vs sr => un1 vs fun x2 vs => nl1 vs (
    some (x2, sr))) (fun vs su => un1 vs fun x3 vs => nl1 vs (
    stp c (.callF 37) [x3] su fun iG sw =>
  stp c .move [iG] sw fun x2 sx =>
  some (x2, sx))) (fun o => ∃ s', o = some (.str (fmtS rs), s') /\ Keeps st s') (fun s' h0 hk => ⟨s', by simp [hS, h0], hk⟩) (fun s' qu => by
        have hlen := qx rs [] fun r hr => (hf r hr).len
        simp only [List.length_nil, Nat.zero_add] at hlen
        obtain ⟨BI, d1, d2⟩ := w7 hc qu.GO (by omega)
        refine ⟨BI, by simp [d1, hS], fun b x hb => ?_⟩
        obtain ⟨o1, o2⟩ := qu.aK b x hb
        rw [d2 b o1]; exact qu.keep b x hb) 100 0 _ [] (by omega) (by omega) (by simp) hI (by simp)
      obtain ⟨s', L1, L2⟩ := L
      refine ⟨s', ?_, L2⟩
      rw [gq]
      have hd : decide ((64 : Int) < (rs.length : Int)) = false := decide_eq_false (by omega)
      simp [stp_allocT, hK, bg, hd] at L1 ⊢
      exact L1
    obtain ⟨s', k1, k2⟩ := key
    rw [ku hc 101 (r := (.str (fmtS rs), s')) k1, tidy_eq (Plain.str _) k2]
end Go.Proofs.YtehbdakjkjkekaaGreatDoor
end
section
set_option maxRecDepth 100000
namespace Go.Proofs.YtehbdakjkjkekaaGreatDoor
open Go Go.Ai Go.Proofs
variable {c : CallA}
def Rl.Ok (r : Rl) : Prop := 0 <= r.k /\ r.k < 256
end Go.Proofs.YtehbdakjkjkekaaGreatDoor
end
section
set_option maxRecDepth 100000
namespace Go.Proofs.YtehbdakjkjkekaaGreatDoor
open Go Go.Ai Go.Proofs
variable {c : CallA}
def eL (k : Int) : Bool := decide (k = 1) || decide (k = 2) || decide (k = 3) || decide (k = 4) || decide (k = 5)
theorem pg (hc : Sem c) (k : Int) (st : St) : c 41 [.int .u8 k] st = some (.bool (eL k), st) := by
  rw [lR hc 1 (r := (.bool (eL k), st)), tidy_eq (Plain.bool _) (Keeps.refl st)]
  rw [jL]
  unfold eL
  by_cases e0 : k = 1
  . simp [e0]
  by_cases e1 : k = 2
  . simp [e0, e1]
  by_cases e2 : k = 3
  . simp [e0, e1, e2]
  by_cases e3 : k = 4
  . simp [e0, e1, e2, e3]
  by_cases e4 : k = 5
  . simp [e0, e1, e2, e3, e4]
  simp [e0, e1, e2, e3, e4]
def kG (k : Int) : Bool := decide (k = 6) || decide (k = 7) || decide (k = 10)
theorem yG (hc : Sem c) (k : Int) (st : St) : c 42 [.int .u8 k] st = some (.bool (kG k), st) := by
  rw [lS hc 1 (r := (.bool (kG k), st)), tidy_eq (Plain.bool _) (Keeps.refl st)]
  rw [jM]
  unfold kG
  by_cases e0 : k = 6
  . simp [e0]
  by_cases e1 : k = 7
  . simp [e0, e1]
  by_cases e2 : k = 10
  . simp [e0, e1, e2]
  simp [e0, e1, e2]
def mN (k : Int) : Bool := decide (k = 1) || decide (k = 4) || decide (k = 7) || decide (k = 15) || decide (k = 16)
theorem qy (hc : Sem c) (k : Int) (st : St) : c 45 [.int .u8 k] st = some (.bool (mN k), st) := by
  rw [j8 hc 1 (r := (.bool (mN k), st)), tidy_eq (Plain.bool _) (Keeps.refl st)]
  rw [iB]
  unfold mN
  by_cases e0 : k = 1
  . simp [e0]
  by_cases e1 : k = 4
  . simp [e0, e1]
  by_cases e2 : k = 7
  . simp [e0, e1, e2]
  by_cases e3 : k = 15
  . simp [e0, e1, e2, e3]
  by_cases e4 : k = 16
  . simp [e0, e1, e2, e3, e4]
  simp [e0, e1, e2, e3, e4]
def jN (k : Int) : Int := if eL k = true \/ k = 10 then 0 else if k = 6 \/ k = 7 \/ k = 17 then 1 else 2
theorem qz (hc : Sem c) (k : Int) (st : St) : c 44 [.int .u8 k] st = some (.int .i64 (jN k), st) := by
  rw [j9 hc 1 (r := (.int .i64 (jN k), st)), tidy_eq (Plain.int _ _) (Keeps.refl st)]
  rw [iC]
  have t := pg hc k st
  unfold jN
  cases h : eL k with
  | true => simp [t, h]
  | false =>
    by_cases e1 : k = 10
    . rw [e1] at t h; simp [t, h, e1]
    by_cases e2 : k = 6
    . rw [e2] at t h; simp [t, h, e2]
    by_cases e3 : k = 7
    . rw [e3] at t h; simp [t, h, e3]
    by_cases e4 : k = 17
    . rw [e4] at t h; simp [t, h, e4]
    simp [t, h, e1, e2, e3, e4]
def wl : List AV := (List.range 19).map fun i => .str (kd i).w
theorem sy {R : Type} (c : CallA) (K : AV -> St -> Option R) (st : St) (es len : Nat) (z : List AV) (ps : List Nat) (xs l : List AV) (h : fillA (repeatL z len) (ps.map fun i => (i * es, es)) xs = some l) :
    stp c (.buildSlice es len z ps) xs st K = K (.slice st.next 0 len (some len) es) (nst st (.cells l 0)) := by
  rw [stp_bslice, h]; rfl
theorem G2 (n : Nat) (h : n < 19) : wl[n]? = some (.str (kd n).w) := by simp [wl, h]
theorem wk (hc : Sem c) (n : Nat) (hn : n < 256) (st : St) (hw : Wf st) : c 39 [.int .u8 (n : Int)] st = some (.str (kd n).w, st) := by
  have w : wrapI .i64 (n : Int) = (n : Int) := wrap64 (by omega) (by omega)
  rw [kT hc 1 (r := (.str (kd n).w, nst st (.cells wl 0))), tidy_eq (Plain.str _) (keeps_nst hw)]
  rw [jg]
  rw [stp_move, sy (l := wl) (h := rfl)]
  have hlen : ∀ (K : AV -> St -> Option (AV × St)) (s : St), stp c (.lenB .l) [.slice st.next 0 19 (some 19) 1] s K = K (.int .i64 19) s := fun K s => stp_ofv c K (fun H n => rfl) s
  by_cases h : 19 <= n
  . have e : (kd n).w = [] := by unfold kd; split <;> first | rfl | omega
    have hi : (19 : Int) <= (n : Int) := by omega
    simp [w, h, hi, e, hlen]
  . have hi : ¬ (19 : Int) <= (n : Int) := by omega
    have h' : n < 19 := by omega
    have LR : ∀ (K : AV -> St -> Option (AV × St)) (s : St), stp c (.idxA 1 none) [.slice st.next 0 19 (some 19) 1, .int .u8 (n : Int)] s K = K (.ptr st.next n) s := fun K s => stp_ofv c K (fun H m => by
      simp [OpK.run, runIdxA, asIx_nat, blt_d, h']) s
    simp [w, h, hi, h', G2, hlen, LR]
end Go.Proofs.YtehbdakjkjkekaaGreatDoor
end
section
set_option maxRecDepth 100000
namespace Go.Proofs.YtehbdakjkjkekaaGreatDoor
open Go Go.Ai Go.Proofs
variable {c : CallA}
theorem wm (hc : Sem c) (s : List Nat) (st : St) : c 43 [.str s] st = some (.str (aD s), st) := by
  rw [mD hc 1 (r := (.str (aD s), st)), tidy_eq (Plain.str _) (Keeps.refl st)]
  rw [kz]
  by_cases h : s = []
  . subst h; simp [aD]
  . simp [aD, h]
def bq : Nat -> Nat -> List Nat
  | 0, _ => []
  | f + 1, n => if n < 10 then [48 + n] else bq f (n / 10) ++ [48 + n % 10]
theorem fT : ∀ (f n : Nat), (bq f n).length <= f
  | 0, n => by simp [bq]
  | f + 1, n => by
    have := fT f (n / 10)
    unfold bq
    split <;> simp <;> omega
theorem yH (d : Nat) (hd : d < 256) (s : St) (K : AV -> St -> Option (AV × St)) : stp c (.buildSlice 1 1 [.int .u8 0] [0]) [.int .u8 (d : Int)] s (fun x t => stp c (.conv .ofBytes) [x] t K) = K (.str [d]) (nst s (.cells [.int .u8 (d : Int)] 0)) := by
  rw [show stp c (.buildSlice 1 1 [.int .u8 0] [0]) [.int .u8 (d : Int)] s (fun x t => stp c (.conv .ofBytes) [x] t K) = stp c (.conv .ofBytes) [.slice s.next 0 1 (some 1) 1] (nst s (.cells [.int .u8 (d : Int)] 0)) K from rfl]
  have : OpK.run (fun b => (nst s (.cells [.int .u8 (d : Int)] 0)).heap.get b) (nst s (.cells [.int .u8 (d : Int)] 0)).next (.conv .ofBytes) [.slice s.next 0 1 (some 1) 1] = some (.val (.str [d])) := by
    have G3 : Nat.blt d 256 = true := by simpa using hd
    simp only [OpK.run, runConv, get_nst]
    show (match bytesOf [.int .u8 (.ofNat d)] with | some s => some (ARes.val (.str s)) | none => none) = _
    simp only [bytesOf, G3]
  unfold stp stepA; rw [this]
theorem xe (x : Int) (d : Nat) (hx : x = (d : Int)) (hd : d < 256) (s : St) (K : AV -> St -> Option (AV × St)) : stp c (.buildSlice 1 1 [.int .u8 0] [0]) [.int .u8 x] s (fun x t => stp c (.conv .ofBytes) [x] t K) = K (.str [d]) (nst s (.cells [.int .u8 x] 0)) := by
  subst hx; exact yH d hd s K
theorem mO (hc : Sem c) : ∀ (f n : Nat), n < 10 ^ f -> f <= 10 -> 0 < f -> ∀ st : St, Wf st -> c 40 [.int .i64 (n : Int)] st = some (.str (bq f n), st)
  | 0, n, _, _, h0, _, _ => by omega
  | f + 1, n, hn, hf, _, st, hw => by
    have hp : 10 ^ (f + 1) <= 10 ^ 10 := Nat.pow_le_pow_right (by decide) hf
    have hn10 : n < 10000000000 := by have : (10 : Nat) ^ 10 = 10000000000 := by decide
                                      omega
    by_cases h : n < 10
    . have hS : bq (f + 1) n = [48 + n] := by unfold bq; rw [if_pos h]
      have hg := Grew.nst hw (.cells [.int .u8 (48 + (n : Int))] 0)
      rw [hS, gN hc 1 (r := (.str [48 + n], nst st (.cells [.int .u8 (48 + (n : Int))] 0))), tidy_eq (Plain.str _) hg.keeps]
      rw [gb]
      have w1 : wrapI .i64 (48 + (n : Int)) = 48 + (n : Int) := wrap64 (by omega) (by omega)
      have w2 : wrapI .u8 (48 + (n : Int)) = 48 + (n : Int) := wrap8 (by omega) (by omega)
      have hd : decide ((n : Int) < 10) = true := decide_eq_true (by omega)
      have xg : ∀ (i : Int) (K : AV -> St -> Option (AV × St)) (t : St), stp c (.conv (.int .u8)) [.int .i64 i] t K = K (.int .u8 (wrapI .u8 i)) t := fun i K t => rfl
      have LS := fun K => xe (c := c) (48 + (n : Int)) (48 + n) (by omega) (by omega) st K
      simp [-stp_bslice, hd, w1, w2, xg, LS]
    . have hf0 : 0 < f := by
        rcases Nat.eq_zero_or_pos f with h0 | h0
        . subst h0; simp at hn; omega
        . exact h0
      have hS : bq (f + 1) n = bq f (n / 10) ++ [48 + n % 10] := by rw [bq, if_neg h]
      have ih := mO hc f (n / 10) (by rw [Nat.pow_succ] at hn; omega) (by omega) hf0 st hw
      have hg := Grew.nst hw (.cells [.int .u8 (48 + ((n : Int) % 10))] 0)
      rw [hS, gN hc 1 (r := (.str (bq f (n / 10) ++ [48 + n % 10]), nst st (.cells [.int .u8 (48 + ((n : Int) % 10))] 0))), tidy_eq (Plain.str _) hg.keeps]
      rw [gb]
      have hd : decide ((n : Int) < 10) = false := decide_eq_false (by omega)
      have LU : ∀ (K : AV -> Option (AV × St)), prr (.bin .quo .num) [.int .i64 (n : Int), .int .i64 10] K = K (.int .i64 ((n / 10 : Nat) : Int)) := fun K => by
        have : OpK.run (fun _ => none) .h (.bin .quo .num) [.int .i64 (n : Int), .int .i64 10] = some (.val (.int .i64 ((n / 10 : Nat) : Int))) := by
          have e0 : intEq (10 : Int) 0 = false := rfl
          have e1 : (n : Int).tdiv 10 = ((n / 10 : Nat) : Int) := by rw [Int.tdiv_eq_ediv_of_nonneg (by omega)]; omega
          have e2 : wrapI .i64 ((n / 10 : Nat) : Int) = ((n / 10 : Nat) : Int) := wrap64 (by omega) (by omega)
          simp only [OpK.run, runBin, binA, eqKind_self, e0, e1, e2]
        unfold prr; rw [this]
      have LV : ∀ (K : AV -> Option (AV × St)), prr (.bin .rem .num) [.int .i64 (n : Int), .int .i64 10] K = K (.int .i64 ((n : Int) % 10)) := fun K => by
        have : OpK.run (fun _ => none) .h (.bin .rem .num) [.int .i64 (n : Int), .int .i64 10] = some (.val (.int .i64 ((n : Int) % 10))) := by
          have e0 : intEq (10 : Int) 0 = false := rfl
          have e1 : (n : Int).tmod 10 = (n : Int) % 10 := Int.tmod_eq_emod_of_nonneg (by omega)
          simp only [OpK.run, runBin, binA, eqKind_self, e0, e1]
        unfold prr; rw [this]
      have w1 : wrapI .i64 (48 + (n : Int) % 10) = 48 + (n : Int) % 10 := wrap64 (by omega) (by omega)
      have w2 : wrapI .u8 (48 + (n : Int) % 10) = 48 + (n : Int) % 10 := wrap8 (by omega) (by omega)
      have xg : ∀ (i : Int) (K : AV -> Option (AV × St)), prr (.conv (.int .u8)) [.int .i64 i] K = K (.int .u8 (wrapI .u8 i)) := fun i K => rfl
      have LW : ∀ (x y : List Nat) (K : AV -> Option (AV × St)), x.length + y.length <= 9223372036854775807 -> prr (.bin .add .num) [.str x, .str y] K = K (.str (x ++ y)) := fun x y K G4 => by
        have : OpK.run (fun _ => none) .h (.bin .add .num) [.str x, .str y] = some (.val (.str (x ++ y))) := by simp only [OpK.run, runBin, binA, ble_d, decide_eq_true G4]
        unfold prr; rw [this]
      have bn : ∀ (K : AV -> AB -> Option (AV × St)), nww (.buildSlice 1 1 [.int .u8 0] [0]) [.int .u8 (48 + (n : Int) % 10)] st K = K (.slice st.next 0 1 (some 1) 1) (.cells [.int .u8 (48 + (n : Int) % 10)] 0) := fun K => nww_row rfl rfl st K
      have hrd : ∀ (h2 : T AB) (K : AV -> Option (AV × St)), rdd (.conv .ofBytes) [.slice st.next 0 1 (some 1) 1] (T.put (some (.cells [.int .u8 (48 + (n : Int) % 10)] 0)) st.next st.heap) (fun v => readsAs (.conv .ofBytes) [.slice st.next 0 1 (some 1) 1] v (putUp [(st.next, .cells [.int .u8 (48 + (n : Int) % 10)] 0)] h2)) K = K (.str [48 + n % 10]) := fun h2 K => by
        have hb : bytesOf [.int .u8 (48 + (n : Int) % 10)] = some [48 + n % 10] := by
          have : (48 + (n : Int) % 10) = ((48 + n % 10 : Nat) : Int) := by omega
          rw [this]
          have G3 : Nat.blt (48 + n % 10) 256 = true := by simp; omega
          show bytesOf [.int .u8 (.ofNat (48 + n % 10))] = _
          simp only [bytesOf, G3]
        have run : ∀ H : T AB, OpK.run (fun b => (T.put (some (.cells [.int .u8 (48 + (n : Int) % 10)] 0)) st.next H).get b) .h (.conv .ofBytes) [.slice st.next 0 1 (some 1) 1] = some (.val (.str [48 + n % 10])) := fun H => by
          simp only [OpK.run, runConv, T.get_put]
          show (match bytesOf [.int .u8 (48 + (n : Int) % 10)] with | some s => some (ARes.val (.str s)) | none => none) = _
          rw [hb]
        unfold rdd
        rw [show OpK.run (fun _ => none) .h (.conv .ofBytes) [.slice st.next 0 1 (some 1) 1] = none from rfl]
        simp only [run]
        have : readsAs (.conv .ofBytes) [.slice st.next 0 1 (some 1) 1] (.str [48 + n % 10]) (putUp [(st.next, .cells [.int .u8 (48 + (n : Int) % 10)] 0)] h2) = true := by
          unfold readsAs
          simp only [putUp, run]
          simp [beqAV, beqDeep, beqFlat, beqNats]
        rw [this]
      have hl := fT f (n / 10)
      have KI := fun K => LW (bq f (n / 10)) [48 + n % 10] K (by simp; omega)
      rw [show ((n / 10 : Nat) : Int) = (n : Int) / 10 by omega] at ih
      simp [-nww_bslice, hd, LU, ih, LV, w1, w2, xg, bn, hrd, KI]
end Go.Proofs.YtehbdakjkjkekaaGreatDoor
end
section
set_option maxRecDepth 100000
set_option linter.unusedVariables false
namespace Go.Proofs.YtehbdakjkjkekaaGreatDoor
open Go Go.Ai Go.Proofs
variable {c : CallA}
def pn (r : Rl) : Bool := decide ((kd r.k.toNat).w = []) || (decide (r.wt < 0) || (decide (1000 < r.wt) || (decide (r.n < 0) || (decide (999999999 < r.n) || (decide (r.n ≠ 0) && !mN r.k)))))
def yI (r : Rl) : Bool := (eL r.k && (!cZ r.a || !cZ r.b)) || (!eL r.k && decide (r.b ≠ []))
def yJ (r : Rl) : Bool := ((decide (r.k = 6) || (decide (r.k = 7) || decide (r.k = 17))) && !cZ r.a) || (decide (r.k = 10) && (decide (r.a ≠ []) && !cZ r.a))
def yK (r : Rl) : Bool := !eL r.k && (!kG r.k && (decide (r.k ≠ 17) && decide (r.a ≠ [])))
def cA (r : Rl) : Bool := !pn r && (!yI r && (!yJ r && (!yK r && (if jN r.k = 0 then decide (r.t = []) else cZ r.t || (decide (jN r.k = 2) && decide (r.t = []))))))
theorem sdA {R : Type} (hc : Sem c) {r : Rl} {q : Pos} {s : St} (hw : Wf s) (hk : 0 <= r.k /\ r.k < 256) (p : s.heap.get q = some (.cells r.cells 0)) (K : AV -> AV -> St -> Option R) :
    (stp c (.fieldA 0) [(.ptr q 0)] s fun x4 s2 =>
      stp c (.load none) [x4] s2 fun x5 s3 =>
      stp c .move [x5] s3 fun x3 s4 =>
      stp c .move [x3] s4 fun x6 s5 =>
      stp c (.callF 39) [x6] s5 fun x7 s6 =>
      stp c (.bin .eql .num) [x7, (.str [])] s6 fun x8 s7 =>
      stp c .move [x8] s7 fun x9 s8 =>
      gst c x9 false (.fieldA 1) [(.ptr q 0)] s8 fun cr s9 =>
      gst c x9 false (.load none) [cr] s9 fun cJ dQ =>
      gst c x9 false (.bin .lss .num) [cJ, (.int .i64 0)] dQ fun c9 cS =>
      stp c .pick [x9, (.bool true), c9] cS fun cT eY =>
      stp c .move [cT] eY fun dD eM =>
      gst c dD false (.fieldA 1) [(.ptr q 0)] eM fun eo eZ =>
      gst c dD false (.load none) [eo] eZ fun eN fE =>
      gst c dD false (.bin .gtr .num) [eN, (.int .i64 1000)] fE fun dc eO =>
      stp c .pick [dD, (.bool true), dc] eO fun bh eD =>
      stp c .move [bh] eD fun aY e8 =>
      gst c aY false (.fieldA 5) [(.ptr q 0)] e8 fun bw gu =>
      gst c aY false (.load none) [bw] gu fun ji kU =>
      gst c aY false (.bin .lss .num) [ji, (.int .i64 0)] kU fun gO kA =>
      stp c .pick [aY, (.bool true), gO] kA fun gP jk =>
      stp c .move [gP] jk fun gv kV =>
      gst c gv false (.fieldA 5) [(.ptr q 0)] kV fun iQ jq =>
      gst c gv false (.load none) [iQ] jq fun kW jO =>
      gst c gv false (.bin .gtr .num) [kW, (.int .i64 999999999)] jO fun kX kY =>
      stp c .pick [gv, (.bool true), kX] kY fun mP iD =>
      stp c .move [mP] iD fun fF jP =>
      gst c fF false (.fieldA 5) [(.ptr q 0)] jP fun mQ jQ =>
      gst c fF false (.load none) [mQ] jQ fun mR jr =>
      gst c fF false (.bin .neq .num) [mR, (.int .i64 0)] jr fun kB jR =>
      gst c fF false .move [kB] jR fun iR kZ =>
      gst c iR true .move [x3] kZ fun mS k8 =>
      gst c iR true (.callF 45) [mS] k8 fun mT k9 =>
      gst c iR true (.un .not) [mT] k9 fun mU kC =>
      gst c fF false .pick [iR, mU, (.bool false)] kC fun mh ld =>
      stp c .pick [fF, (.bool true), mh] ld fun mj mo =>
      K x3 mj mo) = K (.int .u8 r.k) (.bool (pn r)) s := by
  obtain ⟨m, hm⟩ : ∃ m : Nat, r.k = (m : Int) := ⟨r.k.toNat, by omega⟩
  have W := wk hc m (by omega) s hw
  rw [<- hm] at W
  have T := qy hc r.k s
  have qp : r.k.toNat = m := by omega
  unfold pn
  rw [qp]
  by_cases h1 : (kd m).w = []
  . simp [p, W, h1]
  by_cases h2 : r.wt < 0
  . simp [p, W, h1, h2]
  by_cases h3 : 1000 < r.wt
  . simp [p, W, h1, h2, h3]
  by_cases h4 : r.n < 0
  . simp [p, W, h1, h2, h3, h4]
  by_cases h5 : 999999999 < r.n
  . simp [p, W, h1, h2, h3, h4, h5]
  by_cases h6 : r.n = 0
  . simp [p, W, h1, h2, h3, h6]
  . simp [p, W, h1, h2, h3, h4, h5, h6, T]
theorem sdB {R : Type} (hc : Sem c) {r : Rl} {q : Pos} {s : St} (hw : Wf s) (hk : 0 <= r.k /\ r.k < 256) (p : s.heap.get q = some (.cells r.cells 0)) (K : AV -> St -> Option R) :
    (stp c .move [(.int .u8 r.k)] s fun mV lg =>
      stp c (.callF 41) [mV] lg fun mW mX =>
      stp c .move [mW] mX fun gw mY =>
      gst c gw true (.fieldA 2) [(.ptr q 0)] mY fun pq pz =>
      gst c gw true (.load none) [pq] pz fun sA pE =>
      gst c gw true (.callF 106) [sA] pE fun sB oe =>
      gst c gw true (.un .not) [sB] oe fun og pF =>
      gst c gw true .move [og] pF fun jS pG =>
      gst c jS false (.fieldA 3) [(.ptr q 0)] pG fun sC pH =>
      gst c jS false (.load none) [sC] pH fun sD pI =>
      gst c jS false (.callF 106) [sD] pI fun sF pJ =>
      gst c jS false (.un .not) [sF] pJ fun oh sG =>
      gst c gw true .pick [jS, (.bool true), oh] sG fun sH qA =>
      stp c .pick [gw, sH, (.bool false)] qA fun sI sJ =>
      stp c .move [sI] sJ fun iT sK =>
      gst c iT false .move [(.int .u8 r.k)] sK fun sL sM =>
      gst c iT false (.callF 41) [sL] sM fun sN sO =>
      gst c iT false (.un .not) [sN] sO fun sP sQ =>
      gst c iT false .move [sP] sQ fun lp sR =>
      gst c lp true (.fieldA 3) [(.ptr q 0)] sR fun iU sS =>
      gst c lp true (.load none) [iU] sS fun js yL =>
      gst c lp true (.bin .neq .num) [js, (.str [])] yL fun ij sU =>
      gst c iT false .pick [lp, ij, (.bool false)] sU fun sV sW =>
      stp c .pick [iT, (.bool true), sV] sW fun sX pK =>
      K sX pK) = K (.bool (yI r)) s := by
  have T := pg hc r.k s
  have A := nM hc r.a s
  have B := nM hc r.b s
  unfold yI
  cases h1 : eL r.k with
  | true =>
    cases h2 : cZ r.a with
    | false => simp [p, T, A, h1, h2]
    | true => cases h3 : cZ r.b <;> simp [p, T, A, B, h1, h2, h3]
  | false => simp [p, T, h1]
theorem sdC {R : Type} (hc : Sem c) {r : Rl} {q : Pos} {s : St} (hw : Wf s) (hk : 0 <= r.k /\ r.k < 256) (p : s.heap.get q = some (.cells r.cells 0)) (K : AV -> St -> Option R) :
    (stp c .move [(.int .u8 r.k)] s fun sY sZ =>
      stp c (.bin .eql .num) [sY, (.int .u8 6)] sZ fun td th =>
      stp c .move [td] th fun mZ tj =>
      gst c mZ false .move [(.int .u8 r.k)] tj fun om tq =>
      gst c mZ false (.bin .eql .num) [om, (.int .u8 7)] tq fun tr tu =>
      stp c .pick [mZ, (.bool true), tr] tu fun tv yM =>
      stp c .move [tv] yM fun nc yN =>
      gst c nc false .move [(.int .u8 r.k)] yN fun tA tB =>
      gst c nc false (.bin .eql .num) [tA, (.int .u8 17)] tB fun tC tD =>
      stp c .pick [nc, (.bool true), tC] tD fun tE tF =>
      stp c .move [tE] tF fun jT tG =>
      gst c jT true (.fieldA 2) [(.ptr q 0)] tG fun tH qB =>
      gst c jT true (.load none) [tH] qB fun tI tJ =>
      gst c jT true (.callF 106) [tI] tJ fun tK qC =>
      gst c jT true (.un .not) [tK] qC fun tL tM =>
      stp c .pick [jT, tL, (.bool false)] tM fun tN tO =>
      stp c .move [tN] tO fun iq tP =>
      gst c iq false .move [(.int .u8 r.k)] tP fun tQ qD =>
      gst c iq false (.bin .eql .num) [tQ, (.int .u8 10)] qD fun tR tS =>
      gst c iq false .move [tR] tS fun lq yO =>
      gst c lq true (.fieldA 2) [(.ptr q 0)] yO fun tT tU =>
      gst c lq true (.load none) [tT] tU fun tV tW =>
      gst c lq true (.bin .neq .num) [tV, (.str [])] tW fun tX tY =>
      gst c iq false .pick [lq, tX, (.bool false)] tY fun tZ qE =>
      gst c iq false .move [tZ] qE fun jU ua =>
      gst c jU true (.fieldA 2) [(.ptr q 0)] ua fun ud ue =>
      gst c jU true (.load none) [ud] ue fun uf ug =>
      gst c jU true (.callF 106) [uf] ug fun pL yP =>
      gst c jU true (.un .not) [pL] yP fun wo uh =>
      gst c iq false .pick [jU, wo, (.bool false)] uh fun yQ uj =>
      stp c .pick [iq, (.bool true), yQ] uj fun yR pM =>
      K yR pM) = K (.bool (yJ r)) s := by
  have A := nM hc r.a s
  unfold yJ
  by_cases h1 : r.k = 6
  . cases h2 : cZ r.a <;> simp [p, A, h1, h2]
  by_cases h3 : r.k = 7
  . cases h2 : cZ r.a <;> simp [p, A, h3, h2]
  by_cases h4 : r.k = 17
  . cases h2 : cZ r.a <;> simp [p, A, h4, h2]
  by_cases h5 : r.k = 10
  . by_cases h6 : r.a = []
    . simp [p, h5, h6]
    . cases h2 : cZ r.a <;> simp [p, A, h5, h6, h2]
  . simp [p, h1, h3, h4, h5]
theorem sdD {R : Type} (hc : Sem c) {r : Rl} {q : Pos} {s : St} (hw : Wf s) (hk : 0 <= r.k /\ r.k < 256) (p : s.heap.get q = some (.cells r.cells 0)) (K : AV -> St -> Option R) :
    (stp c .move [(.int .u8 r.k)] s fun yS uk =>
      stp c (.callF 41) [yS] uk fun yT um =>
      stp c (.un .not) [yT] um fun yU uo =>
      stp c .move [yU] uo fun ng uq =>
      gst c ng true .move [(.int .u8 r.k)] uq fun qF oG =>
      gst c ng true (.callF 42) [qF] oG fun yV lT =>
      gst c ng true (.un .not) [yV] lT fun ur lU =>
      stp c .pick [ng, ur, (.bool false)] lU fun uu lV =>
      stp c .move [uu] lV fun lW lX =>
      gst c lW true .move [(.int .u8 r.k)] lX fun uv uw =>
      gst c lW true (.bin .neq .num) [uv, (.int .u8 17)] uw fun xj ux =>
      stp c .pick [lW, xj, (.bool false)] ux fun uy uz =>
      stp c .move [uy] uz fun iG uA =>
      gst c iG true (.fieldA 2) [(.ptr q 0)] uA fun AG uB =>
      gst c iG true (.load none) [AG] uB fun AH uC =>
      gst c iG true (.bin .neq .num) [AH, (.str [])] uC fun AI uD =>
      stp c .pick [iG, AI, (.bool false)] uD fun AJ qf =>
      K AJ qf) = K (.bool (yK r)) s := by
  have T := pg hc r.k s
  have O := yG hc r.k s
  unfold yK
  cases h1 : eL r.k with
  | true => simp [p, T, h1]
  | false =>
    cases h2 : kG r.k with
    | true => simp [p, T, O, h1, h2]
    | false =>
      by_cases h3 : r.k = 17
      . rw [h3] at T O h1 h2
        simp [p, T, O, h1, h2, h3]
      . simp [p, T, O, h1, h2, h3]
theorem Cm (hc : Sem c) (r : Rl) (hk : 0 <= r.k /\ r.k < 256) (st : St) (hw : Wf st) : c 38 [.agg r.cells] st = some (.bool (cA r), st) := by
  have hg := Grew.nst hw (.cells r.cells 0)
  have bJ := hg.wf
  have hb := get_nst st (.cells r.cells 0)
  have B := qz hc r.k (nst st (.cells r.cells 0))
  have Nt := nM hc r.t (nst st (.cells r.cells 0))
  rw [lu hc 1 (r := (.bool (cA r), nst st (.cells r.cells 0))), tidy_eq (Plain.bool _) hg.keeps]
  have LX : ∀ K : AV -> St -> Option (AV × St), stp c .box [.agg r.cells] st K = K (.ptr st.next 0) (nst st (.cells r.cells 0)) := fun K => rfl
  rw [jt, LX, stp_move, sdA hc bJ hk hb]
  unfold cA
  cases h1 : pn r with
  | true => simp
  | false =>
    rw [cnd_f, sdB hc bJ hk hb]
    cases h2 : yI r with
    | true => simp
    | false =>
      rw [cnd_f, sdC hc bJ hk hb]
      cases h3 : yJ r with
      | true => simp
      | false =>
        rw [cnd_f, sdD hc bJ hk hb]
        cases h4 : yK r with
        | true => simp
        | false =>
          by_cases h5 : jN r.k = 0
          . simp [hb, B, h5]
          . cases h6 : cZ r.t with
            | true => simp [hb, B, Nt, h5, h6]
            | false =>
              by_cases h7 : jN r.k = 2
              . simp [hb, B, Nt, h7, h6]
              . simp [hb, B, Nt, h5, h7, h6]
end Go.Proofs.YtehbdakjkjkekaaGreatDoor
end
section
set_option maxRecDepth 100000
namespace Go.Proofs.YtehbdakjkjkekaaGreatDoor
open Go Go.Ai Go.Proofs
variable {c : CallA}
def fO (r : Rl) : List Nat := if r.wt = 0 then 104 :: 97 :: 114 :: 100 :: 32 :: (kd r.k.toNat).w else 119 :: 101 :: 105 :: 103 :: 104 :: 32 :: (bq 10 r.wt.toNat ++ [32] ++ (kd r.k.toNat).w)
def gx (r : Rl) : List Nat := if (eL r.k || (kG r.k || decide (r.k = 17))) = true then 32 :: aD r.a else []
def ir (r : Rl) : List Nat := if eL r.k = true then 32 :: r.b else []
def iV (r : Rl) : List Nat := if 0 < jN r.k then 32 :: aD r.t else []
def jV (r : Rl) : List Nat := if mN r.k = true then 32 :: bq 10 r.n.toNat else []
def jv (r : Rl) : List Nat := fO r ++ (gx r ++ (ir r ++ (iV r ++ (jV r ++ [10]))))
def Rl.rA (r : Rl) : Prop := (0 <= r.k /\ r.k < 256) /\ r.a.length <= 1100000 /\ r.b.length <= 1100000 /\ r.t.length <= 1100000
theorem dL (s : St) (x y : List Nat) (h : x.length <= 4000000000 /\ y.length <= 4000000000) (K : AV -> St -> Option (AV × St)) : stp c (.bin .add .num) [.str x, .str y] s K = K (.str (x ++ y)) s :=
  si s x y (by omega) K
theorem lY (x y : List Nat) (h : x.length <= 4000000000 /\ y.length <= 4000000000) (K : AV -> Option (AV × St)) : prr (.bin .add .num) [.str x, .str y] K = K (.str (x ++ y)) := by
  have G4 : x.length + y.length <= 9223372036854775807 := by omega
  have : OpK.run (fun _ => none) .h (.bin .add .num) [.str x, .str y] = some (.val (.str (x ++ y))) := by simp only [OpK.run, runBin, binA, ble_d, decide_eq_true G4]
  unfold prr; rw [this]
theorem ep (s : List Nat) : (aD s).length <= s.length + 1 := by unfold aD; split <;> simp
theorem nO (m : Nat) : (kd m).w.length <= 20 := by unfold kd; split <;> simp
theorem xk (hc : Sem c) {s : St} (z : Bool) (rs : List Rl) (k : Nat) (hk : k < rs.length) (jK : rs.length <= 64) (hs : rs[k].rA) (hw : Wf s) {acc : List Nat} (rT : acc.length <= 1000000000) (F n : Nat) (k1 k2) (Q : Option (AV × St) -> Prop)
    (lO : cA rs[k] = true -> Q (aL c F k1 k2 n [bg z rs, .str (acc ++ jv rs[k]), .int .i64 ((k + 1 : Nat) : Int)] (nst s (.cells rs[k].cells 0))))
    (cW : cA rs[k] = false -> Q (k1 [.str []] (nst s (.cells rs[k].cells 0)))) :
    Q (aL c F k1 k2 (n + 1) [bg z rs, .str acc, .int .i64 (k : Int)] s) := by
  have w : wrapI .i64 ((k : Int) + 1) = ((k + 1 : Nat) : Int) := wrap64 (by omega) (by omega)
  obtain ⟨oR, la, lb, lt⟩ := hs
  rw [aL]
  simp [-stp_store_new, -stp_bslice, bg, hk]
  refine fk (P := fun j => cA rs[k] = true -> Q (j [bg z rs, .str (acc ++ jv rs[k]), .int .i64 (k : Int)] (nst s (.cells rs[k].cells 0)))) ?_ ?_
  . intro bf
    have := lO bf
    simpa [w, bg] using this
  . intro j hj
    have ei := fun (K : AV -> St -> Option (AV × St)) => stp_store_new c K s 6 (.agg rs[k].cells) [.int .u8 0, .int .i64 0, .str [], .str [], .str [], .int .i64 0] rfl rfl (Rl.one _)
    rw [show (AV.agg rs[k].cells).cells = rs[k].cells from rfl] at ei
    have hg := Grew.nst hw (.cells rs[k].cells 0)
    have bJ := hg.wf
    have hb := get_nst s (.cells rs[k].cells 0)
    have S := Cm hc rs[k] oR _ bJ
    obtain ⟨m, hm⟩ : ∃ m : Nat, rs[k].k = (m : Int) := ⟨rs[k].k.toNat, by omega⟩
    have qp : rs[k].k.toNat = m := by omega
    have W := wk hc m (by omega) _ bJ
    rw [<- hm] at W
    have T := pg hc rs[k].k (nst s (.cells rs[k].cells 0))
    have O := yG hc rs[k].k (nst s (.cells rs[k].cells 0))
    have N := qy hc rs[k].k (nst s (.cells rs[k].cells 0))
    have B := qz hc rs[k].k (nst s (.cells rs[k].cells 0))
    have Da := wm hc rs[k].a (nst s (.cells rs[k].cells 0))
    have Dt := wm hc rs[k].t (nst s (.cells rs[k].cells 0))
    cases o8 : cA rs[k] with
    | false =>
      have := cW o8
      simpa [-stp_store_new, ei, hb, S, o8] using this
    | true =>
      have hj := hj o8
      have G5 : pn rs[k] = false := by
        unfold cA at o8
        cases h : pn rs[k] with
        | false => rfl
        | true => rw [h] at o8; simp at o8
      have PX : 0 <= rs[k].wt /\ rs[k].wt <= 1000 /\ 0 <= rs[k].n /\ rs[k].n <= 999999999 := by
        unfold pn at G5
        simp only [Bool.or_eq_false_iff, decide_eq_false_iff_not] at G5
        omega
      obtain ⟨wn, hwn⟩ : ∃ wn : Nat, rs[k].wt = (wn : Int) := ⟨rs[k].wt.toNat, by omega⟩
      obtain ⟨nn, hnn⟩ : ∃ nn : Nat, rs[k].n = (nn : Int) := ⟨rs[k].n.toNat, by omega⟩
      have Gw := mO hc 10 wn (by omega) (by omega) (by omega) _ bJ
      have Gn := mO hc 10 nn (by omega) (by omega) (by omega) _ bJ
      rw [<- hwn] at Gw
      rw [<- hnn] at Gn
      have G6 : rs[k].wt.toNat = wn := by omega
      have G7 : rs[k].n.toNat = nn := by omega
      have l0 := fT 10 wn
      have l1 := fT 10 nn
      have l2 := nO m
      have l3 := ep rs[k].a
      have l4 := ep rs[k].t
      have n0 : (fO rs[k]).length <= 60 := by unfold fO; rw [qp, G6]; split <;> simp <;> omega
      have n1 : (gx rs[k]).length <= 1100002 := by unfold gx; split <;> simp <;> omega
      have n2 : (ir rs[k]).length <= 1100002 := by unfold ir; split <;> simp; omega
      have n3 : (iV rs[k]).length <= 1100002 := by unfold iV; split <;> simp <;> omega
      have n4 : (jV rs[k]).length <= 20 := by unfold jV; rw [G7]; split <;> simp; omega
      simp [-stp_store_new, ei, hb, S, o8]
      refine fk (P := fun j2 => Q (j2 [bg z rs, .str (acc ++ fO rs[k]), .int .i64 (k : Int), .ptr s.next 0] (nst s (.cells rs[k].cells 0)))) ?_ ?_
      . simp only [un1_cons, nl1_nil]
        refine fk (P := fun j2 => Q (j2 [bg z rs, .str (acc ++ fO rs[k] ++ gx rs[k]), .int .i64 (k : Int), .ptr s.next 0] (nst s (.cells rs[k].cells 0)))) ?_ ?_
        . simp only [un1_cons, nl1_nil]
          refine fk (P := fun j2 => Q (j2 [bg z rs, .str (acc ++ fO rs[k] ++ gx rs[k] ++ ir rs[k]), .int .i64 (k : Int), .ptr s.next 0] (nst s (.cells rs[k].cells 0)))) ?_ ?_
          . simp only [un1_cons, nl1_nil]
            refine fk (P := fun j2 => Q (j2 [bg z rs, .str (acc ++ fO rs[k] ++ gx rs[k] ++ ir rs[k] ++ iV rs[k]), .int .i64 (k : Int), .ptr s.next 0] (nst s (.cells rs[k].cells 0)))) ?_ ?_
            . simp only [un1_cons, nl1_nil]
              refine fk (P := fun j2 => Q (j2 [bg z rs, .str (acc ++ fO rs[k] ++ gx rs[k] ++ ir rs[k] ++ iV rs[k] ++ jV rs[k]), .int .i64 (k : Int)] (nst s (.cells rs[k].cells 0)))) ?_ ?_
              . have a1 := fun K => dL (c := c) (nst s (.cells rs[k].cells 0)) (acc ++ fO rs[k] ++ gx rs[k] ++ ir rs[k] ++ iV rs[k] ++ jV rs[k]) [10] (by simp; omega) K
                have e : acc ++ jv rs[k] = acc ++ fO rs[k] ++ gx rs[k] ++ ir rs[k] ++ iV rs[k] ++ jV rs[k] ++ [10] := by unfold jv; simp only [List.append_assoc]
                rw [e] at hj
                simpa [-List.append_assoc, a1, bg] using hj
              . intro j2 cm
                cases bM : mN rs[k].k with
                | false =>
                  have e : jV rs[k] = [] := by unfold jV; rw [bM]; rfl
                  rw [e, List.append_nil] at cm
                  simpa [-List.append_assoc, hb, N, bM, bg] using cm
                | true =>
                  have e : jV rs[k] = 32 :: bq 10 nn := by unfold jV; rw [bM, G7]; rfl
                  have a1 : ∀ (K : AV -> St -> Option (AV × St)), stp c (.bin .add .num) [.str [32], .str (bq 10 nn)] (nst s (.cells rs[k].cells 0)) K = K (.str (32 :: bq 10 nn)) (nst s (.cells rs[k].cells 0)) := fun K => dL (c := c) (nst s (.cells rs[k].cells 0)) [32] (bq 10 nn) (by simp; omega) K
                  have a2 := fun K => dL (c := c) (nst s (.cells rs[k].cells 0)) (acc ++ fO rs[k] ++ gx rs[k] ++ ir rs[k] ++ iV rs[k]) (32 :: bq 10 nn) (by simp; omega) K
                  rw [e] at cm
                  simpa [-List.cons_append, -List.append_assoc, hb, N, bM, Gn, a1, a2, bg] using cm
            . intro j2 cm
              by_cases BS : 0 < jN rs[k].k
              . have e : iV rs[k] = 32 :: aD rs[k].t := by unfold iV; rw [if_pos BS]
                have a1 : ∀ (K : AV -> St -> Option (AV × St)), stp c (.bin .add .num) [.str [32], .str (aD rs[k].t)] (nst s (.cells rs[k].cells 0)) K = K (.str (32 :: aD rs[k].t)) (nst s (.cells rs[k].cells 0)) := fun K => dL (c := c) (nst s (.cells rs[k].cells 0)) [32] (aD rs[k].t) (by simp; omega) K
                have a2 := fun K => dL (c := c) (nst s (.cells rs[k].cells 0)) (acc ++ fO rs[k] ++ gx rs[k] ++ ir rs[k]) (32 :: aD rs[k].t) (by simp; omega) K
                rw [e] at cm
                simpa [-List.cons_append, -List.append_assoc, hb, B, BS, Dt, a1, a2, bg] using cm
              . have e : iV rs[k] = [] := by unfold iV; rw [if_neg BS]
                rw [e, List.append_nil] at cm
                simpa [-List.append_assoc, hb, B, BS, bg] using cm
          . intro j2 cm
            cases iH : eL rs[k].k with
            | false =>
              have e : ir rs[k] = [] := by unfold ir; rw [iH]; rfl
              rw [e, List.append_nil] at cm
              simpa [-List.append_assoc, hb, T, iH, bg] using cm
            | true =>
              have e : ir rs[k] = 32 :: rs[k].b := by unfold ir; rw [iH]; rfl
              have a1 : ∀ (K : AV -> St -> Option (AV × St)), stp c (.bin .add .num) [.str [32], .str rs[k].b] (nst s (.cells rs[k].cells 0)) K = K (.str (32 :: rs[k].b)) (nst s (.cells rs[k].cells 0)) := fun K => dL (c := c) (nst s (.cells rs[k].cells 0)) [32] rs[k].b (by simp; omega) K
              have a2 := fun K => dL (c := c) (nst s (.cells rs[k].cells 0)) (acc ++ fO rs[k] ++ gx rs[k]) (32 :: rs[k].b) (by simp; omega) K
              rw [e] at cm
              simpa [-List.cons_append, -List.append_assoc, hb, T, iH, a1, a2, bg] using cm
        . intro j2 cm
          have a1 : ∀ (K : AV -> St -> Option (AV × St)), stp c (.bin .add .num) [.str [32], .str (aD rs[k].a)] (nst s (.cells rs[k].cells 0)) K = K (.str (32 :: aD rs[k].a)) (nst s (.cells rs[k].cells 0)) := fun K => dL (c := c) (nst s (.cells rs[k].cells 0)) [32] (aD rs[k].a) (by simp; omega) K
          have a2 := fun K => dL (c := c) (nst s (.cells rs[k].cells 0)) (acc ++ fO rs[k]) (32 :: aD rs[k].a) (by simp; omega) K
          have yes : (eL rs[k].k || (kG rs[k].k || decide (rs[k].k = 17))) = true -> Q (j2 [bg z rs, .str (acc ++ fO rs[k] ++ (32 :: aD rs[k].a)), .int .i64 (k : Int), .ptr s.next 0] (nst s (.cells rs[k].cells 0))) := fun h => by
            have e : gx rs[k] = 32 :: aD rs[k].a := by unfold gx; rw [if_pos h]
            rw [e] at cm; exact cm
          cases iH : eL rs[k].k with
          | true =>
            have := yes (by rw [iH]; rfl)
            simpa [-List.cons_append, -List.append_assoc, hb, T, iH, Da, a1, a2, bg] using this
          | false =>
            cases mI : kG rs[k].k with
            | true =>
              have := yes (by rw [iH, mI]; rfl)
              simpa [-List.cons_append, -List.append_assoc, hb, T, O, iH, mI, Da, a1, a2, bg] using this
            | false =>
              by_cases G8 : rs[k].k = 17
              . have := yes (by rw [iH, mI, G8]; rfl)
                have d17 : decide (rs[k].k = 17) = true := decide_eq_true G8
                simpa [-List.cons_append, -List.append_assoc, hb, T, O, iH, mI, d17, Da, a1, a2, bg] using this
              . have d17 : decide (rs[k].k = 17) = false := decide_eq_false G8
                have e : gx rs[k] = [] := by unfold gx; rw [iH, mI, d17]; rfl
                rw [e, List.append_nil] at cm
                simpa [-List.append_assoc, hb, T, O, iH, mI, d17, bg] using cm
      . intro j2 cm
        by_cases wq : rs[k].wt = 0
        . have e : fO rs[k] = 104 :: 97 :: 114 :: 100 :: 32 :: (kd m).w := by unfold fO; rw [if_pos wq, qp]
          have a1 : ∀ (K : AV -> St -> Option (AV × St)), stp c (.bin .add .num) [.str [104, 97, 114, 100, 32], .str (kd m).w] (nst s (.cells rs[k].cells 0)) K = K (.str (104 :: 97 :: 114 :: 100 :: 32 :: (kd m).w)) (nst s (.cells rs[k].cells 0)) := fun K => dL (c := c) (nst s (.cells rs[k].cells 0)) [104, 97, 114, 100, 32] (kd m).w (by simp; omega) K
          have a2 := fun K => dL (c := c) (nst s (.cells rs[k].cells 0)) acc (104 :: 97 :: 114 :: 100 :: 32 :: (kd m).w) (by simp; omega) K
          rw [e] at cm
          simpa [-List.append_assoc, hb, wq, W, a1, a2, bg] using cm
        . have e : fO rs[k] = 119 :: 101 :: 105 :: 103 :: 104 :: 32 :: (bq 10 wn ++ [32] ++ (kd m).w) := by unfold fO; rw [if_neg wq, qp, G6]
          have a1 : ∀ (K : AV -> Option (AV × St)), prr (.bin .add .num) [.str [119, 101, 105, 103, 104, 32], .str (bq 10 wn)] K = K (.str (119 :: 101 :: 105 :: 103 :: 104 :: 32 :: bq 10 wn)) := fun K => lY [119, 101, 105, 103, 104, 32] (bq 10 wn) (by simp; omega) K
          have a2 : ∀ (K : AV -> Option (AV × St)), prr (.bin .add .num) [.str (119 :: 101 :: 105 :: 103 :: 104 :: 32 :: bq 10 wn), .str [32]] K = K (.str (119 :: 101 :: 105 :: 103 :: 104 :: 32 :: (bq 10 wn ++ [32]))) := fun K => lY (119 :: 101 :: 105 :: 103 :: 104 :: 32 :: bq 10 wn) [32] (by simp; omega) K
          have a3 : ∀ (K : AV -> Option (AV × St)), prr (.bin .add .num) [.str (119 :: 101 :: 105 :: 103 :: 104 :: 32 :: (bq 10 wn ++ [32])), .str (kd m).w] K = K (.str (119 :: 101 :: 105 :: 103 :: 104 :: 32 :: (bq 10 wn ++ [32] ++ (kd m).w))) := fun K => lY (119 :: 101 :: 105 :: 103 :: 104 :: 32 :: (bq 10 wn ++ [32])) (kd m).w (by simp; omega) K
          have a4 := fun K => lY acc (119 :: 101 :: 105 :: 103 :: 104 :: 32 :: (bq 10 wn ++ [32] ++ (kd m).w)) (by simp; omega) K
          have r1 := fun (K : AV -> Option (AV × St)) => rdd_chk' K (o := 0) (v := .int .u8 rs[k].k) (h := (nst s (.cells rs[k].cells 0)).heap) (h2 := (nst s (.cells rs[k].cells 0)).heap) (by rw [hb]; rfl) (by rw [hb]; rfl) (beq_selfs (Selfs.int _ _))
          rw [e] at cm
          simpa [-List.append_assoc, hb, wq, W, Gw, r1, a1, a2, a3, a4, bg] using cm
def gC : List Rl -> List Nat -> List Nat
  | [], acc => acc
  | r :: rs, acc => if cA r = true then gC rs (acc ++ jv r) else []
def jW (rs : List Rl) : List Nat := if 64 < rs.length then [] else gC rs []
theorem yW (hc : Sem c) {st : St} (z : Bool) (rs : List Rl) (jK : rs.length <= 64) (hs : ∀ r ∈ rs, r.rA) (F : Nat) (k1 k2) (Q : Option (AV × St) -> Prop) (cW : ∀ s', gC rs [] = [] -> Grew st s' -> Q (k1 [.str []] s'))
    (lO : ∀ s', Grew st s' -> Q (k2 [.str (gC rs [])] s')) : ∀ (n k : Nat) (s : St) (acc : List Nat), rs.length <= k + n -> k <= rs.length -> acc.length <= k * 5000000 -> Grew st s -> gC rs [] = gC (rs.drop k) acc ->
    Q (aL c F k1 k2 (n + 1) [bg z rs, .str acc, .int .i64 (k : Int)] s) := by
  intro n
  induction n with
  | zero =>
    intro k s acc h1 h2 hb hG hg
    obtain rfl : k = rs.length := by omega
    rw [List.drop_length] at hg
    rw [aL]
    have := lO s hG
    rw [hg] at this
    simpa [bg, gC] using this
  | succ n ih =>
    intro k s acc h1 h2 hb hG hg
    by_cases hk : k < rs.length
    . have hd : rs.drop k = rs[k] :: rs.drop (k + 1) := List.drop_eq_getElem_cons hk
      have hf := hs _ (List.getElem_mem hk)
      have o9 := Grew.nst hG.wf (.cells rs[k].cells 0)
      rw [hd, gC] at hg
      refine xk hc z rs k hk jK hf hG.wf (by omega) F (n + 1) k1 k2 Q (fun bf => ?_) (fun bf => ?_)
      . rw [if_pos bf] at hg
        refine ih (k + 1) _ _ (by omega) (by omega) ?_ (hG.trans o9) hg
        obtain ⟨_, la, lb, lt⟩ := hf
        have l0 := fT 10 rs[k].wt.toNat
        have l1 := fT 10 rs[k].n.toNat
        have l2 := nO rs[k].k.toNat
        have l3 := ep rs[k].a
        have l4 := ep rs[k].t
        have n0 : (fO rs[k]).length <= 60 := by unfold fO; split <;> simp <;> omega
        have n1 : (gx rs[k]).length <= 1100002 := by unfold gx; split <;> simp <;> omega
        have n2 : (ir rs[k]).length <= 1100002 := by unfold ir; split <;> simp; omega
        have n3 : (iV rs[k]).length <= 1100002 := by unfold iV; split <;> simp <;> omega
        have n4 : (jV rs[k]).length <= 20 := by unfold jV; split <;> simp; omega
        unfold jv
        simp only [List.length_append, List.length_cons, List.length_nil]
        omega
      . rw [if_neg (by rw [bf]; simp)] at hg
        exact cW _ hg (hG.trans o9)
    . obtain rfl : k = rs.length := by omega
      rw [List.drop_length] at hg
      rw [aL]
      have := lO s hG
      rw [hg] at this
      simpa [bg, gC] using this
theorem uE (hc : Sem c) (z : Bool) (rs : List Rl) (hl : rs.length <= 1048576) (hs : rs.length <= 64 -> ∀ r ∈ rs, r.rA) (st : St) (hw : Wf st) : c 8 [bg z rs] st = some (.str (jW rs), st) := by
  by_cases jK : 64 < rs.length
  . rw [fZ hc 1 (r := (.str (jW rs), st)), tidy_eq (Plain.str _) (Keeps.refl st)]
    rw [cE]
    have : jW rs = [] := by unfold jW; rw [if_pos jK]
    rw [this]
    have hd : decide ((64 : Int) < (rs.length : Int)) = true := decide_eq_true (by omega)
    simp [bg, hd]
  . have hS : jW rs = gC rs [] := by unfold jW; rw [if_neg jK]
    have key : ∃ s', cE c 101 (bg z rs) st = some (.str (jW rs), s') /\ Keeps st s' := by
      have L := yW hc z rs (by omega) (hs (by omega)) 101 (fun vs lT => un1 vs fun x2 vs => nl1 vs (
    some (x2, lT))) (fun vs lU => un1 vs fun x3 vs => nl1 vs (
    stp c .move [x3] lU fun pL lV =>
  stp c .move [pL] lV fun x2 lX =>
  some (x2, lX))) (fun o => ∃ s', o = some (.str (jW rs), s') /\ Keeps st s') (fun s' h0 hg => ⟨s', by simp [hS, h0], hg.keeps⟩) (fun s' hg => ⟨s', by simp [hS], hg.keeps⟩) 100 0 st [] (by omega) (by omega) (by simp) (Grew.refl hw) (by simp)
      obtain ⟨s', L1, L2⟩ := L
      refine ⟨s', ?_, L2⟩
      rw [cE]
      have hd : decide ((64 : Int) < (rs.length : Int)) = false := decide_eq_false (by omega)
      simp [bg, hd] at L1 ⊢
      exact L1
    obtain ⟨s', k1, k2⟩ := key
    rw [fZ hc 101 (r := (.str (jW rs), s')) k1, tidy_eq (Plain.str _) k2]
end Go.Proofs.YtehbdakjkjkekaaGreatDoor
end
