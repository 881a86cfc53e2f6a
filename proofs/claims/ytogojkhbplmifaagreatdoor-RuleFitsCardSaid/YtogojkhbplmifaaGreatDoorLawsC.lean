/- What the plain functions answer: the kinds of rules, a problem's check, the law. -/
import Derived.Test.YtogojkhbplmifaaGreatDoorLawsB
import Derived.Test.YtogojkhbplmifaaGreatDoorEvalE
import Derived.Test.YtogojkhbplmifaaGreatDoorPlainA
set_option linter.all false
set_option linter.unusedSectionVars false
set_option linter.deprecated false
section
set_option maxRecDepth 100000
namespace Go.Proofs.YtogojkhbplmifaaGreatDoor
open Go Go.Ai Go.Proofs
variable {c : ai}
def kd : Nat -> Kd
  | 1 => ⟨[97, 112, 97, 114, 116], 103, true, 0, true, 0, false, .func 101 [] []⟩
  | 2 => ⟨[98, 101, 115, 105, 100, 101], 103, true, 0, false, 0, false, .func 102 [] []⟩
  | 3 => ⟨[97, 99, 114, 111, 115, 115], 103, true, 0, false, 0, false, .func 103 [] []⟩
  | 4 => ⟨[110, 101, 97, 114], 103, true, 0, true, 1, false, .func 104 [] []⟩
  | 5 => ⟨[116, 111, 103, 101, 116, 104, 101, 114], 103, true, 0, false, 0, false, .func 105 [] []⟩
  | 6 => ⟨[97, 116], 103, false, 116, false, 0, false, .func 106 [] []⟩
  | 7 => ⟨[115, 101, 97, 116], 103, false, 116, true, 0, true, .func 107 [] []⟩
  | 8 => ⟨[97, 108, 116, 101, 114, 110, 97, 116, 101], 0, false, 101, false, 0, false, .func 108 [] []⟩
  | 9 => ⟨[104, 111, 115, 116], 0, false, 101, false, 0, false, .func 109 [] []⟩
  | 10 => ⟨[114, 101, 97, 99, 104], 101, false, 0, false, 0, false, .func 110 [] []⟩
  | 11 => ⟨[115, 112, 101, 97, 107], 0, false, 101, false, 0, false, .func 111 [] []⟩
  | 12 => ⟨[112, 101, 97, 99, 101], 0, false, 101, false, 0, false, .func 112 [] []⟩
  | 13 => ⟨[99, 111, 109, 112, 97, 110, 121], 0, false, 101, false, 0, false, .func 113 [] []⟩
  | 14 => ⟨[104, 111, 110, 111, 117, 114], 0, false, 101, false, 0, false, .func 114 [] []⟩
  | 15 => ⟨[102, 105, 108, 108], 0, false, 101, true, 0, false, .func 115 [] []⟩
  | 16 => ⟨[108, 105, 109, 105, 116], 0, false, 101, true, 0, false, .func 116 [] []⟩
  | 17 => ⟨[107, 105, 116, 99, 104, 101, 110], 100, false, 116, false, 0, false, .func 117 [] []⟩
  | 18 => ⟨[109, 105, 120], 0, false, 101, false, 0, false, .func 118 [] []⟩
  | _ => ⟨[], 0, false, 0, false, 0, false, .aq⟩
def CA : List (AV × AV × Nat) := [(.int .u8 1, .agg (kd 1).cells, 0), (.int .u8 2, .agg (kd 2).cells, 1), (.int .u8 3, .agg (kd 3).cells, 2), (.int .u8 4, .agg (kd 4).cells, 3), (.int .u8 5, .agg (kd 5).cells, 4), (.int .u8 6, .agg (kd 6).cells, 5), (.int .u8 7, .agg (kd 7).cells, 6), (.int .u8 8, .agg (kd 8).cells, 7), (.int .u8 9, .agg (kd 9).cells, 8), (.int .u8 10, .agg (kd 10).cells, 9), (.int .u8 11, .agg (kd 11).cells, 10), (.int .u8 12, .agg (kd 12).cells, 11), (.int .u8 13, .agg (kd 13).cells, 12), (.int .u8 14, .agg (kd 14).cells, 13), (.int .u8 15, .agg (kd 15).cells, 14), (.int .u8 16, .agg (kd 16).cells, 15), (.int .u8 17, .agg (kd 17).cells, 16), (.int .u8 18, .agg (kd 18).cells, 17)]
theorem Ki (p : Pos) : ¬ Plain (.map p) := fun h => by
  have := h (fun _ => (⟨0, 0, 0⟩ : Go.Ai.Loc)) (fun _ => ⟨1, 0, 0⟩) (p.toNat + 1) (p.toNat + 1) (fun _ => none) _ (.map p (Nat.lt_succ_self _))
  cases this
theorem TH (st : St) (p : Pos) (s' : St) : tidy st (.map p, s') = (.map p, s') := by
  unfold tidy; rw [if_neg]
  exact fun e => Ki p e.1
theorem di {R : Type} (c : ai) (K : AV -> St -> Option R) (st : St) (z : List AV) (ps : List (Nat × Nat)) (xs l : List AV) (h : cL z ps xs = some l) : af c (.build z ps) xs st K = K (.agg l) st := by
  rw [Q4, h]; rfl
theorem dm {R : Type} (c : ai) (K : AV -> St -> Option R) (st : St) (es : List (AV × AV × Nat)) (cl : Nat) (k : IntKind) (x : Int) (v : AV) (hf : iV .i (.int k x) es 0 = some none) :
    af c (.mapSet .i) [.map st.next, .int k x, v] (au st (.map es cl)) K = K .undef (au st (.map (es ++ [(.int k x, v, cl)]) (cl + 1))) := by
  have : aE.run (fun b => (au st (.map es cl)).heap.get b) (au st (.map es cl)).next (.mapSet .i) [.map st.next, .int k x, v] = some (.aN .undef none (some (st.next, .map (es ++ [(.int k x, v, cl)]) (cl + 1))) none) := by
    simp [aE.run, sr, hf, OY]
  unfold af cP; rw [this]
  show K .undef (oM (au st (.map es cl)) st.next _) = _
  rw [OG]
theorem TJ (hc : Sem c) (s : St) : c 37 [] s = some (.map s.next, au s (.map CA 18)) := by
  rw [IW hc 1 (r := (.map s.next, au s (.map CA 18))), TH]
  rw [HP]
  rw [dr, Q7]
  rw [di (l := (kd 1).cells) (h := rfl), dm (hf := rfl)]
  rw [di (l := (kd 2).cells) (h := rfl), dm (hf := rfl)]
  rw [di (l := (kd 3).cells) (h := rfl), dm (hf := rfl)]
  rw [di (l := (kd 4).cells) (h := rfl), dm (hf := rfl)]
  rw [di (l := (kd 5).cells) (h := rfl), dm (hf := rfl)]
  rw [di (l := (kd 6).cells) (h := rfl), dm (hf := rfl)]
  rw [di (l := (kd 7).cells) (h := rfl), dm (hf := rfl)]
  rw [di (l := (kd 8).cells) (h := rfl), dm (hf := rfl)]
  rw [di (l := (kd 9).cells) (h := rfl), dm (hf := rfl)]
  rw [di (l := (kd 10).cells) (h := rfl), dm (hf := rfl)]
  rw [di (l := (kd 11).cells) (h := rfl), dm (hf := rfl)]
  rw [di (l := (kd 12).cells) (h := rfl), dm (hf := rfl)]
  rw [di (l := (kd 13).cells) (h := rfl), dm (hf := rfl)]
  rw [di (l := (kd 14).cells) (h := rfl), dm (hf := rfl)]
  rw [di (l := (kd 15).cells) (h := rfl), dm (hf := rfl)]
  rw [di (l := (kd 16).cells) (h := rfl), dm (hf := rfl)]
  rw [di (l := (kd 17).cells) (h := rfl), dm (hf := rfl)]
  rw [di (l := (kd 18).cells) (h := rfl), dm (hf := rfl)]
  rw [dr, dr]
  . rfl
  . exact .aq
theorem Ws (n : Nat) : (kd n).pq = true -> (kd n).t = 116 := by
  unfold kd; split <;> simp
end Go.Proofs.YtogojkhbplmifaaGreatDoor
end
section
set_option maxRecDepth 100000
namespace Go.Proofs.YtogojkhbplmifaaGreatDoor
open Go Go.Ai Go.Proofs
variable {c : ai}
def Rl.Ok (r : Rl) : Prop := 0 <= r.k /\ r.k < 256
def BU (p : fq) (r : Rl) : Int := BT (kd r.k.toNat) p r
theorem NJ {p : fq} (h : (lS p).2 = 0) : (bS p.ts).2 = 0 := by
  unfold lS at h
  by_cases h1 : (bS p.ts).2 = 0
  . exact h1
  . rw [if_pos h1] at h; exact absurd h h1
end Go.Proofs.YtogojkhbplmifaaGreatDoor
end
section
set_option maxRecDepth 100000
namespace Go.Proofs.YtogojkhbplmifaaGreatDoor
open Go Go.Ai Go.Proofs
variable {c : ai}
def jY (k : Int) : Bool := decide (k = 1) || decide (k = 2) || decide (k = 3) || decide (k = 4) || decide (k = 5)
theorem Aq (hc : Sem c) (k : Int) (st : St) : c 89 [.int .u8 k] st = some (.bool (jY k), st) := by
  rw [BV hc 1 (r := (.bool (jY k), st)), aI (Plain.bool _) (bY.refl st)]
  rw [xQ]
  unfold jY
  by_cases e0 : k = 1
  . simp [e0]
  by_cases e1 : k = 2
  . simp [e0, e1]
  by_cases e2 : k = 3
  . simp [e0, e1, e2]
  by_cases e3 : k = 4
  . simp [e0, e1, e2, e3]
  by_cases e4 : k = 5
  . simp [e0, e1, e2, e3, e4]
  simp [e0, e1, e2, e3, e4]
def q8 (k : Int) : Bool := decide (k = 6) || decide (k = 7) || decide (k = 10)
theorem Rs (hc : Sem c) (k : Int) (st : St) : c 90 [.int .u8 k] st = some (.bool (q8 k), st) := by
  rw [BW hc 1 (r := (.bool (q8 k), st)), aI (Plain.bool _) (bY.refl st)]
  rw [xR]
  unfold q8
  by_cases e0 : k = 6
  . simp [e0]
  by_cases e1 : k = 7
  . simp [e0, e1]
  by_cases e2 : k = 10
  . simp [e0, e1, e2]
  simp [e0, e1, e2]
def DM (k : Int) : Bool := decide (k = 1) || decide (k = 4) || decide (k = 7) || decide (k = 15) || decide (k = 16)
theorem JI (hc : Sem c) (k : Int) (st : St) : c 93 [.int .u8 k] st = some (.bool (DM k), st) := by
  rw [yu hc 1 (r := (.bool (DM k), st)), aI (Plain.bool _) (bY.refl st)]
  rw [uq]
  unfold DM
  by_cases e0 : k = 1
  . simp [e0]
  by_cases e1 : k = 4
  . simp [e0, e1]
  by_cases e2 : k = 7
  . simp [e0, e1, e2]
  by_cases e3 : k = 15
  . simp [e0, e1, e2, e3]
  by_cases e4 : k = 16
  . simp [e0, e1, e2, e3, e4]
  simp [e0, e1, e2, e3, e4]
def ov (k : Int) : Int := if jY k = true \/ k = 10 then 0 else if k = 6 \/ k = 7 \/ k = 17 then 1 else 2
theorem JJ (hc : Sem c) (k : Int) (st : St) : c 92 [.int .u8 k] st = some (.int .i64 (ov k), st) := by
  rw [yw hc 1 (r := (.int .i64 (ov k), st)), aI (Plain.int _ _) (bY.refl st)]
  rw [ur]
  have t := Aq hc k st
  unfold ov
  cases h : jY k with
  | true => simp [t, h]
  | false =>
    by_cases e1 : k = 10
    . rw [e1] at t h; simp [t, h, e1]
    by_cases e2 : k = 6
    . rw [e2] at t h; simp [t, h, e2]
    by_cases e3 : k = 7
    . rw [e3] at t h; simp [t, h, e3]
    by_cases e4 : k = 17
    . rw [e4] at t h; simp [t, h, e4]
    simp [t, h, e1, e2, e3, e4]
def wl : List AV := (List.range 19).map fun i => .str (kd i).w
theorem Mh {R : Type} (c : ai) (K : AV -> St -> Option R) (st : St) (es len : Nat) (z : List AV) (ps : List Nat) (xs l : List AV) (h : cL (cv z len) (ps.map fun i => (i * es, es)) xs = some l) :
    af c (.buildSlice es len z ps) xs st K = K (.slice st.next 0 len (some len) es) (au st (.cells l 0)) := by
  rw [mG, h]; rfl
theorem aaq (n : Nat) (h : n < 19) : wl[n]? = some (.str (kd n).w) := by simp [wl, h]
theorem Wt (hc : Sem c) (n : Nat) (hn : n < 256) (st : St) (hw : Wf st) : c 87 [.int .u8 (n : Int)] st = some (.str (kd n).w, st) := by
  have w : aM .i64 (n : Int) = (n : Int) := wrap64 (by omega) (by omega)
  rw [Ar hc 1 (r := (.str (kd n).w, au st (.cells wl 0))), aI (Plain.str _) (bU hw)]
  rw [wj]
  rw [dr, Mh (l := wl) (h := rfl)]
  have hlen : ∀ (K : AV -> St -> Option (AV × St)) (s : St), af c (.lenB .l) [.slice st.next 0 19 (some 19) 1] s K = K (.int .i64 19) s := fun K s => bw c K (fun H n => rfl) s
  by_cases h : 19 <= n
  . have e : (kd n).w = [] := by unfold kd; split <;> first | rfl | omega
    have hi : (19 : Int) <= (n : Int) := by omega
    simp [w, h, hi, e, hlen]
  . have hi : ¬ (19 : Int) <= (n : Int) := by omega
    have h' : n < 19 := by omega
    have hidx : ∀ (K : AV -> St -> Option (AV × St)) (s : St), af c (.idxA 1 none) [.slice st.next 0 19 (some 19) 1, .int .u8 (n : Int)] s K = K (.ptr st.next n) s := fun K s => bw c K (fun H m => by
      simp [aE.run, qG, lN, wG, h']) s
    simp [w, h, hi, h', aaq, hlen, hidx]
theorem Mi (z : Bool) (ts : List bh) (s : List Nat) (hl : ts.length <= 100) (F : Nat) (st : St) (k1 k2) : ∀ (m k : Nat), ts.length <= k + m -> k <= ts.length ->
    dX c F k1 k2 (m + 1) [tabs z ts, .str s, .int .i64 (k : Int)] st = if 0 <= scan (jt ts s) (ts.length - k) k then k1 [.int .i64 (scan (jt ts s) (ts.length - k) k)] st else k2 [] st := by
  intro m
  induction m with
  | zero =>
    intro k h1 h2
    obtain rfl : k = ts.length := by omega
    rw [dX]
    simp [scan]
  | succ m ih =>
    intro k h1 h2
    rw [dX]
    by_cases h : k < ts.length
    . have e : ts.length - k = (ts.length - (k + 1)) + 1 := by omega
      have w : aM .i64 ((k : Int) + 1) = ((k + 1 : Nat) : Int) := wrap64 (by omega) (by omega)
      rw [e, scan]
      by_cases hb : ts[k].name = s
      . have b6 : jt ts s k = true := by simp [jt, h, hb]
        rw [b6]
        simp [tabs, h, hb]
      . have b6 : jt ts s k = false := by simp [jt, h, hb]
        rw [b6]
        simp only [Bool.false_eq_true, if_false]
        rw [<- ih (k + 1) (by omega) (by omega)]
        simp [tabs, h, hb, w]
    . obtain rfl : k = ts.length := by omega
      simp [scan]
theorem PW (hc : Sem c) (z : Bool) (ts : List bh) (s : List Nat) (hl : ts.length <= 100) (st : St) : c 128 [tabs z ts, .str s] st = some (.int .i64 (scan (jt ts s) ts.length 0), st) := by
  rw [xS hc 101 (r := (.int .i64 (scan (jt ts s) ts.length 0), st)), aI (Plain.int _ _) (bY.refl st)]
  rw [ow]
  have L : ∀ k1 k2, dX c 101 k1 k2 101 [tabs z ts, .str s, .int .i64 0] st = if 0 <= scan (jt ts s) ts.length 0 then k1 [.int .i64 (scan (jt ts s) ts.length 0)] st else k2 [] st :=
    fun k1 k2 => Mi z ts s hl 101 st k1 k2 100 0 (by omega) (by omega)
  have g := Al (jt ts s) ts.length 0
  by_cases h : 0 <= scan (jt ts s) ts.length 0
  . simp only [h, if_true] at L
    simp [L]
  . simp only [h, if_false] at L
    have := g.2 (by omega)
    simp [L, this]
end Go.Proofs.YtogojkhbplmifaaGreatDoor
end
section
set_option maxRecDepth 100000
set_option linter.unusedVariables false
namespace Go.Proofs.YtogojkhbplmifaaGreatDoor
open Go Go.Ai Go.Proofs
variable {c : ai}
theorem stW {R : Type} (hc : Sem c) {p : fq} {r : Rl} {q2 q3 : Pos} {s : St} {n : Nat} (hw : Wf s) (hn : n < 256) (hk : r.k = (n : Int)) (hp : p.qO) (p2 : s.heap.get q2 = some (.cells p.cells 0)) (p3 : s.heap.get q3 = some (.cells r.cells 0)) (K : AV -> AV -> St -> Option R) :
    (af c (.fieldA 0) [(.ptr q3 0)] s fun x9 s3 =>
      af c (.load none) [x9] s3 fun aJ s4 =>
      af c .move [aJ] s4 fun x5 s5 =>
      af c .move [x5] s5 fun aP s6 =>
      af c (.callF 87) [aP] s6 fun aR s7 =>
      af c (.bin .eql .num) [aR, (.str [])] s7 fun aV s8 =>
      K x5 aV s8) = K (.int .u8 (n : Int)) (.bool (decide ((kd n).w = []))) s := by
  have W := Wt hc n hn s hw
  simp [p3, hk, W]
theorem stWt {R : Type} (hc : Sem c) {p : fq} {r : Rl} {q2 q3 : Pos} {s : St} {n : Nat} (hw : Wf s) (hn : n < 256) (hk : r.k = (n : Int)) (hp : p.qO) (p2 : s.heap.get q2 = some (.cells p.cells 0)) (p3 : s.heap.get q3 = some (.cells r.cells 0)) (K : AV -> St -> Option R) :
    (af c (.fieldA 1) [(.ptr q3 0)] s fun aS bk =>
      af c (.load none) [aS] bk fun aZ bu =>
      af c (.bin .lss .num) [aZ, (.int .i64 0)] bu fun aT bt =>
      af c .move [aT] bt fun aW bA =>
      aj c aW false (.fieldA 1) [(.ptr q3 0)] bA fun bH bP =>
      aj c aW false (.load none) [bH] bP fun bF bV =>
      aj c aW false (.bin .gtr .num) [bF, (.int .i64 1000)] bV fun cR b9 =>
      af c .pick [aW, (.bool true), cR] b9 fun dw bX =>
      K dw bX) = K (.bool (decide (r.wt < 0 \/ 1000 < r.wt))) s := by
  by_cases h1 : r.wt < 0
  . simp [p3, h1]
  . simp [p3, h1]
theorem stP1 {R : Type} (hc : Sem c) {p : fq} {r : Rl} {q2 q3 : Pos} {s : St} {n : Nat} (hw : Wf s) (hn : n < 256) (hk : r.k = (n : Int)) (hp : p.qO) (p2 : s.heap.get q2 = some (.cells p.cells 0)) (p3 : s.heap.get q3 = some (.cells r.cells 0)) (K : AV -> St -> Option R) :
    (af c (.fieldA 2) [(.ptr q3 0)] s fun cD cj =>
      af c (.load none) [cD] cj fun cS c9 =>
      af c (.bin .neq .num) [cS, (.str [])] c9 fun dW dS =>
      af c .move [dW] dS fun dD dF =>
      aj c dD true .move [(.int .u8 (n : Int))] dF fun eO ey =>
      aj c dD true (.callF 89) [eO] ey fun eP eA =>
      aj c dD true (.un .not) [eP] eA fun fL dI =>
      af c .pick [dD, fL, (.bool false)] dI fun fX eR =>
      af c .move [fX] eR fun cT eB =>
      aj c cT true .move [(.int .u8 (n : Int))] eB fun dL e9 =>
      aj c cT true (.callF 90) [dL] e9 fun b8 eS =>
      aj c cT true (.un .not) [b8] eS fun iL eN =>
      af c .pick [cT, iL, (.bool false)] eN fun gH fo =>
      af c .move [gH] fo fun fc gP =>
      aj c fc true .move [(.int .u8 (n : Int))] gP fun iQ gB =>
      aj c fc true (.bin .neq .num) [iQ, (.int .u8 17)] gB fun gm gq =>
      af c .pick [fc, gm, (.bool false)] gq fun iR gu =>
      K iR gu) = K (.bool (decide (r.a ≠ []) && !jY n && !q8 n && decide (n ≠ 17))) s := by
  have T1 := Aq hc (n : Int) s
  have T2 := Rs hc (n : Int) s
  by_cases h : r.a = []
  . simp [p3, h]
  . cases h1 : jY (n : Int) with
    | true => simp [p3, h, T1, h1]
    | false =>
      cases h2 : q8 (n : Int) with
      | true => simp [p3, h, T1, T2, h1, h2]
      | false =>
        have e : decide ((n : Int) = 17) = decide (n = 17) := by by_cases hh : n = 17 <;> simp [hh]; omega
        simp [p3, h, T1, T2, h1, h2, e]
theorem stP2 {R : Type} (hc : Sem c) {p : fq} {r : Rl} {q2 q3 : Pos} {s : St} {n : Nat} (hw : Wf s) (hn : n < 256) (hk : r.k = (n : Int)) (hp : p.qO) (p2 : s.heap.get q2 = some (.cells p.cells 0)) (p3 : s.heap.get q3 = some (.cells r.cells 0)) (b : Bool) (K : AV -> St -> Option R) :
    (af c .move [(.bool b)] s fun eT iO =>
      aj c eT false (.fieldA 3) [(.ptr q3 0)] iO fun jD jb =>
      aj c eT false (.load none) [jD] jb fun jw jd =>
      aj c eT false (.bin .neq .num) [jw, (.str [])] jd fun gQ jv =>
      aj c eT false .move [gQ] jv fun jE mJ =>
      aj c jE true .move [(.int .u8 (n : Int))] mJ fun ki mb =>
      aj c jE true (.callF 89) [ki] mb fun iM mK =>
      aj c jE true (.un .not) [iM] mK fun lU nH =>
      aj c eT false .pick [jE, lU, (.bool false)] nH fun fM mL =>
      af c .pick [eT, (.bool true), fM] mL fun ij jZ =>
      K ij jZ) = K (.bool (b || (decide (r.b ≠ []) && !jY n))) s := by
  have T1 := Aq hc (n : Int) s
  cases b with
  | true => simp
  | false =>
    by_cases h : r.b = []
    . simp [p3, h]
    . simp [p3, h, T1]
theorem stP3 {R : Type} (hc : Sem c) {p : fq} {r : Rl} {q2 q3 : Pos} {s : St} {n : Nat} (hw : Wf s) (hn : n < 256) (hk : r.k = (n : Int)) (hp : p.qO) (p2 : s.heap.get q2 = some (.cells p.cells 0)) (p3 : s.heap.get q3 = some (.cells r.cells 0)) (b : Bool) (K : AV -> St -> Option R) :
    (af c .move [(.bool b)] s fun gI nI =>
      aj c gI false (.fieldA 4) [(.ptr q3 0)] nI fun mM nh =>
      aj c gI false (.load none) [mM] nh fun kG ni =>
      aj c gI false (.bin .neq .num) [kG, (.str [])] ni fun kj nJ =>
      aj c gI false .move [kj] nJ fun jO n4 =>
      aj c jO true .move [(.int .u8 (n : Int))] n4 fun iT oO =>
      aj c jO true (.callF 92) [iT] oO fun lV n6 =>
      aj c jO true (.bin .eql .num) [lV, (.int .i64 0)] n6 fun ko n8 =>
      aj c gI false .pick [jO, ko, (.bool false)] n8 fun jP jQ =>
      af c .pick [gI, (.bool true), jP] jQ fun oP nK =>
      K oP nK) = K (.bool (b || (decide (r.t ≠ []) && decide (ov n = 0)))) s := by
  have T1 := JJ hc (n : Int) s
  cases b with
  | true => simp
  | false =>
    by_cases h : r.t = []
    . simp [p3, h]
    . simp [p3, h, T1]
theorem stP4 {R : Type} (hc : Sem c) {p : fq} {r : Rl} {q2 q3 : Pos} {s : St} {n : Nat} (hw : Wf s) (hn : n < 256) (hk : r.k = (n : Int)) (hp : p.qO) (p2 : s.heap.get q2 = some (.cells p.cells 0)) (p3 : s.heap.get q3 = some (.cells r.cells 0)) (b : Bool) (K : AV -> St -> Option R) :
    (af c .move [(.bool b)] s fun j0 nL =>
      aj c j0 false (.fieldA 5) [(.ptr q3 0)] nL fun n9 oQ =>
      aj c j0 false (.load none) [n9] oQ fun oR oa =>
      aj c j0 false (.bin .neq .num) [oR, (.int .i64 0)] oa fun lq qv =>
      aj c j0 false .move [lq] qv fun mN oT =>
      aj c mN true .move [(.int .u8 (n : Int))] oT fun qw pS =>
      aj c mN true (.callF 93) [qw] pS fun mg ob =>
      aj c mN true (.un .not) [mg] ob fun ru ry =>
      aj c j0 false .pick [mN, ru, (.bool false)] ry fun mO pT =>
      af c .pick [j0, (.bool true), mO] pT fun tJ pU =>
      K tJ pU) = K (.bool (b || (decide (r.n ≠ 0) && !DM n))) s := by
  have T1 := JI hc (n : Int) s
  cases b with
  | true => simp
  | false =>
    by_cases h : r.n = 0
    . simp [p3, h]
    . simp [p3, h, T1]
theorem stA {R : Type} (hc : Sem c) {p : fq} {r : Rl} {q2 q3 : Pos} {s : St} {n : Nat} (hw : Wf s) (hn : n < 256) (hk : r.k = (n : Int)) (hp : p.qO) (p2 : s.heap.get q2 = some (.cells p.cells 0)) (p3 : s.heap.get q3 = some (.cells r.cells 0)) (K : AV -> St -> Option R) :
    (af c .move [(.int .u8 (n : Int))] s fun tK rA =>
      af c (.callF 89) [tK] rA fun tL oc =>
      af c .move [tL] oc fun qx rB =>
      aj c qx false .move [(.int .u8 (n : Int))] rB fun vI tM =>
      aj c qx false (.callF 90) [vI] tM fun vJ tN =>
      af c .pick [qx, (.bool true), vJ] tN fun mI oU =>
      af c .move [mI] oU fun oV qP =>
      aj c oV true .move [(.int .u8 (n : Int))] qP fun sJ qQ =>
      aj c oV true (.bin .eql .num) [sJ, (.int .u8 10)] qQ fun rC tO =>
      aj c oV true .move [rC] tO fun tP rD =>
      aj c tP true (.fieldA 2) [(.ptr q3 0)] rD fun DN xT =>
      aj c tP true (.load none) [DN] xT fun xU wm =>
      aj c tP true (.bin .eql .num) [xU, (.str [])] wm fun DO At =>
      aj c oV true .pick [tP, DO, (.bool false)] At fun E5 tI =>
      aj c oV true (.un .not) [E5] tI fun pV uo =>
      af c .pick [oV, pV, (.bool false)] uo fun DP xN =>
      af c .move [DP] xN fun qy xO =>
      aj c qy true (.fieldA 1) [(.ptr q2 0)] xO fun Au xP =>
      aj c qy true (.load none) [Au] xP fun Av Ap =>
      aj c qy true (.fieldA 2) [(.ptr q3 0)] Ap fun CB Mj =>
      aj c qy true (.load none) [CB] Mj fun Aw JK =>
      aj c qy true (.callF 126) [Av, Aw] JK fun Ay Mk =>
      aj c qy true (.bin .lss .num) [Ay, (.int .i64 0)] Mk fun Az Ml =>
      af c .pick [qy, Az, (.bool false)] Ml fun AA JL =>
      K AA JL) = K (.bool ((jY n || q8 n) && !(decide (n = 10) && decide (r.a = [])) && decide (gi p r.a < 0))) s := by
  have T1 := Aq hc (n : Int) s
  have T2 := Rs hc (n : Int) s
  have A : c 126 [cC p.gz p.gs, .str r.a] s = some (.int .i64 (gi p r.a), s) := Hu hc p.gz p.gs r.a (by have := hp.gs; unfold kE; omega) s
  have e : ((n : Int) = 10) = (n = 10) := by apply propext; omega
  cases h1 : jY (n : Int) with
  | true =>
    by_cases h3 : n = 10
    . by_cases h4 : r.a = []
      . simp [p2, p3, T1, h1, h3, h4]
        try simp_all
      . simp [p2, p3, T1, h1, h3, h4, A]
        try simp_all
    . simp [p2, p3, T1, h1, e, h3, A]
  | false =>
    cases h2 : q8 (n : Int) with
    | true =>
      by_cases h3 : n = 10
      . by_cases h4 : r.a = []
        . simp [p2, p3, T1, T2, h1, h2, h3, h4]
          try simp_all
        . simp [p2, p3, T1, T2, h1, h2, h3, h4, A]
          try simp_all
      . simp [p2, p3, T1, T2, h1, h2, e, h3, A]
    | false => simp [p2, p3, T1, T2, h1, h2]
theorem stB {R : Type} (hc : Sem c) {p : fq} {r : Rl} {q2 q3 : Pos} {s : St} {n : Nat} (hw : Wf s) (hn : n < 256) (hk : r.k = (n : Int)) (hp : p.qO) (p2 : s.heap.get q2 = some (.cells p.cells 0)) (p3 : s.heap.get q3 = some (.cells r.cells 0)) (K : AV -> St -> Option R) :
    (af c .move [(.int .u8 (n : Int))] s fun CC JM =>
      af c (.callF 89) [CC] JM fun xV Mm =>
      af c .move [xV] Mm fun j5 Mn =>
      aj c j5 true (.fieldA 1) [(.ptr q2 0)] Mn fun DQ Mo =>
      aj c j5 true (.load none) [DQ] Mo fun DR Mp =>
      aj c j5 true (.fieldA 3) [(.ptr q3 0)] Mp fun wo Mq =>
      aj c j5 true (.load none) [wo] Mq fun HX Mr =>
      aj c j5 true (.callF 126) [DR, HX] Mr fun BX Ms =>
      aj c j5 true (.bin .lss .num) [BX, (.int .i64 0)] Ms fun BZ FI =>
      af c .pick [j5, BZ, (.bool false)] FI fun vT DS =>
      K vT DS) = K (.bool (jY n && decide (gi p r.b < 0))) s := by
  have T1 := Aq hc (n : Int) s
  have A : c 126 [cC p.gz p.gs, .str r.b] s = some (.int .i64 (gi p r.b), s) := Hu hc p.gz p.gs r.b (by have := hp.gs; unfold kE; omega) s
  cases h1 : jY (n : Int) <;> simp [p2, p3, T1, h1, A]
theorem stN {R : Type} (hc : Sem c) {p : fq} {r : Rl} {q2 q3 : Pos} {s : St} {n : Nat} (hw : Wf s) (hn : n < 256) (hk : r.k = (n : Int)) (hp : p.qO) (p2 : s.heap.get q2 = some (.cells p.cells 0)) (p3 : s.heap.get q3 = some (.cells r.cells 0)) (K : AV -> St -> Option R) :
    (af c .move [(.int .u8 (n : Int))] s fun B3 FJ =>
      af c (.bin .eql .num) [B3, (.int .u8 17)] FJ fun B4 FK =>
      af c .move [B4] FK fun qz FL =>
      aj c qz true (.fieldA 2) [(.ptr q3 0)] FL fun iC FM =>
      aj c qz true (.load none) [iC] FM fun xW FN =>
      aj c qz true (.callF 127) [xW] FN fun B5 FO =>
      aj c qz true (.un .not) [B5] FO fun B6 FP =>
      af c .pick [qz, B6, (.bool false)] FP fun B7 DT =>
      K B7 DT) = K (.bool (decide (n = 17) && !fj r.a)) s := by
  have A := wW hc r.a s
  have e : ((n : Int) = 17) = (n = 17) := by apply propext; omega
  by_cases h1 : n = 17
  . simp [p3, e, h1, A]
  . simp [p3, e, h1]
theorem stD {R : Type} (hc : Sem c) {p : fq} {r : Rl} {q2 q3 : Pos} {s : St} {n : Nat} (hw : Wf s) (hn : n < 256) (hk : r.k = (n : Int)) (hp : p.qO) (p2 : s.heap.get q2 = some (.cells p.cells 0)) (p3 : s.heap.get q3 = some (.cells r.cells 0)) (K : AV -> St -> Option R) :
    (af c .move [(.int .u8 (n : Int))] s fun B8 FQ =>
      af c (.callF 89) [B8] FQ fun B9 FR =>
      af c .move [B9] FR fun oA FT =>
      aj c oA true (.fieldA 2) [(.ptr q3 0)] FT fun Ca uL =>
      aj c oA true (.load none) [Ca] uL fun uM FU =>
      aj c oA true (.fieldA 3) [(.ptr q3 0)] FU fun uN FV =>
      aj c oA true (.load none) [uN] FV fun uO FW =>
      aj c oA true (.bin .eql .num) [uM, uO] FW fun uP Cb =>
      af c .pick [oA, uP, (.bool false)] Cb fun uQ DU =>
      K uQ DU) = K (.bool (jY n && decide (r.a = r.b))) s := by
  have T1 := Aq hc (n : Int) s
  cases h1 : jY (n : Int) <;> simp [p3, T1, h1]
theorem stT {R : Type} (hc : Sem c) {p : fq} {r : Rl} {q2 q3 : Pos} {s : St} {n : Nat} (hw : Wf s) (hn : n < 256) (hk : r.k = (n : Int)) (hp : p.qO) (p2 : s.heap.get q2 = some (.cells p.cells 0)) (p3 : s.heap.get q3 = some (.cells r.cells 0)) (K : AV -> AV -> St -> Option R) :
    (af c (.fieldA 0) [(.ptr q2 0)] s fun uR Mt =>
      af c (.load none) [uR] Mt fun Mu FX =>
      af c (.fieldA 4) [(.ptr q3 0)] FX fun Mv DV =>
      af c (.load none) [Mv] DV fun Mw DW =>
      af c (.callF 128) [Mu, Mw] DW fun vU FY =>
      af c .move [vU] FY fun x6 FZ =>
      af c .move [(.int .u8 (n : Int))] FZ fun Mx F0 =>
      af c (.callF 92) [Mx] F0 fun My F1 =>
      af c (.bin .eql .num) [My, (.int .i64 1)] F1 fun Mz F2 =>
      af c .move [Mz] F2 fun Cc F3 =>
      aj c Cc true .move [x6] F3 fun MA F4 =>
      aj c Cc true (.bin .lss .num) [MA, (.int .i64 0)] F4 fun Cd F5 =>
      af c .pick [Cc, Cd, (.bool false)] F5 fun MB F6 =>
      af c .move [MB] F6 fun oB DX =>
      aj c oB false .move [(.int .u8 (n : Int))] DX fun MC F7 =>
      aj c oB false (.callF 92) [MC] F7 fun MD F8 =>
      aj c oB false (.bin .eql .num) [MD, (.int .i64 2)] F8 fun ME F9 =>
      aj c oB false .move [ME] F9 fun xX Ga =>
      aj c xX true (.fieldA 4) [(.ptr q3 0)] Ga fun TL Gb =>
      aj c xX true (.load none) [TL] Gb fun TM Gc =>
      aj c xX true (.bin .neq .num) [TM, (.str [])] Gc fun TN BH =>
      aj c oB false .pick [xX, TN, (.bool false)] BH fun TO BI =>
      aj c oB false .move [TO] BI fun Gd BJ =>
      aj c Gd true .move [x6] BJ fun TP BK =>
      aj c Gd true (.bin .lss .num) [TP, (.int .i64 0)] BK fun TQ MF =>
      aj c oB false .pick [Gd, TQ, (.bool false)] MF fun TR MG =>
      af c .pick [oB, (.bool true), TR] MG fun TS IX =>
      K x6 TS IX) = K (.int .i64 (ti p r.t)) (.bool ((decide (ov n = 1) && decide (ti p r.t < 0)) || (decide (ov n = 2) && decide (r.t ≠ []) && decide (ti p r.t < 0)))) s := by
  have T1 := JJ hc (n : Int) s
  have A : c 128 [tabs p.tz p.ts, .str r.t] s = some (.int .i64 (ti p r.t), s) := PW hc p.tz p.ts r.t hp.ts s
  by_cases h1 : ov (n : Int) = 1
  . by_cases h2 : ti p r.t < 0
    . simp [p2, p3, T1, h1, h2, A]
    . simp [p2, p3, T1, h1, h2, A]
  . by_cases h3 : ov (n : Int) = 2
    . by_cases h4 : r.t = []
      . rw [h4] at A
        simp [p2, p3, T1, h1, h3, h4, A]
      . simp [p2, p3, T1, h1, h3, h4, A]
    . simp [p2, p3, T1, h1, h3, A]
theorem aco (hc : Sem c) {p : fq} {r : Rl} {q2 q3 : Pos} {s : St} {n : Nat} (hw : Wf s) (hn : n < 256) (hk : r.k = (n : Int)) (hp : p.qO) (p2 : s.heap.get q2 = some (.cells p.cells 0)) (p3 : s.heap.get q3 = some (.cells r.cells 0)) (Ac : (kd n).lo = if n = 4 then 1 else 0) (VK : (kd n).pq = decide (n = 7)) (gK : DM (n : Int) = (kd n).n) (ht : n = 7 -> 0 <= ti p r.t)
    (x2 x3 x5 x6 : AV) (e2 : x2 = .ptr q2 0) (e3 : x3 = .ptr q3 0) (e5 : x5 = .int .u8 (n : Int)) (e6 : x6 = .int .i64 (ti p r.t)) :
    (af c .move [(.int .i64 0)] s fun x7 MH =>
    af c .move [(.int .i64 24)] MH fun x8 MI =>
    yX (fun MJ =>
    af c .move [x5] MI fun TU TV =>
    af c (.bin .eql .num) [TU, (.int .u8 4)] TV fun TW MK =>
    aH TW (
    af c .move [(.int .i64 1)] MK fun x7 TX =>
    MJ [x2, x3, x5, x6, x7, x8] TX) (
    MJ [x2, x3, x5, x6, x7, x8] MK))
    (fun vs TY => az vs fun x2 vs => az vs fun x3 vs => az vs fun x5 vs => az vs fun x6 vs => az vs fun x7 vs => az vs fun x8 vs => bC vs (
    yX (fun ML =>
    af c .move [x5] TY fun TZ T3 =>
    af c (.bin .eql .num) [TZ, (.int .u8 7)] T3 fun T5 MM =>
    aH T5 (
    af c (.fieldA 0) [x2] MM fun T6 T7 =>
    af c (.load none) [T6] T7 fun T8 T9 =>
    af c .move [x6] T9 fun Ua Ub =>
    af c (.idxA 7 none) [T8, Ua] Ub fun Uc Ud =>
    af c (.load (some 7)) [Uc] Ud fun Ue Uf =>
    af c (.callF 66) [Ue] Uf fun Ug Uh =>
    af c (.bin .sub .num) [Ug, (.int .i64 1)] Uh fun Ui Uj =>
    af c .move [Ui] Uj fun x8 Uk =>
    ML [x3, x5, x7, x8] Uk) (
    ML [x3, x5, x7, x8] MM))
    (fun vs Ul => az vs fun x3 vs => az vs fun x5 vs => az vs fun x7 vs => az vs fun x8 vs => bC vs (
    af c .move [x5] Ul fun Um Un =>
    af c (.callF 93) [Um] Un fun Uo Up =>
    af c .move [Uo] Up fun se Uq =>
    aj c se true (.fieldA 5) [x3] Uq fun Ur Us =>
    aj c se true (.load none) [Ur] Us fun Ut Uu =>
    aj c se true .move [x7] Uu fun Uv Uw =>
    aj c se true (.bin .lss .num) [Ut, Uv] Uw fun Ux Uy =>
    aj c se true .move [Ux] Uy fun xY Uz =>
    aj c xY false (.fieldA 5) [x3] Uz fun UA UB =>
    aj c xY false (.load none) [UA] UB fun UC UD =>
    aj c xY false .move [x8] UD fun UE UF =>
    aj c xY false (.bin .gtr .num) [UC, UE] UF fun UG UH =>
    aj c se true .pick [xY, (.bool true), UG] UH fun UI UJ =>
    af c .pick [se, UI, (.bool false)] UJ fun UK MN =>
    aH UK (
    af c .move [(.int .i64 42)] MN fun x4 UL =>
    some (x4, UL)) (
    af c .move [(.int .i64 0)] MN fun x4 UM =>
    some (x4, UM))))))) = some (.int .i64 (r9 (kd n) r (if (kd n).pq = true then vS p (ti p r.t) - 1 else 24)), s) := by
  subst e2 e3 e5 e6
  have T4 := JI hc (n : Int) s
  rw [gK] at T4
  have hit := BA (P := jt p.ts r.t) p.ts.length 0
  unfold r9
  rw [Ac, VK]
  clear Ac VK gK
  by_cases h4 : n = 4
  . have d4 : decide ((n : Int) = 4) = true := by simp only [decide_eq_true_eq]; omega
    have d7 : decide ((n : Int) = 7) = false := by simp only [decide_eq_false_iff_not]; omega
    have n7 : decide (n = 7) = false := by simp only [decide_eq_false_iff_not]; omega
    rw [if_pos h4, n7]
    clear h4 n7
    cases hm : (kd n).n with
    | false => simp [eo, p2, p3, T4, d4, d7, hm]
    | true =>
      by_cases e1 : r.n < 1
      . simp [eo, p2, p3, T4, d4, d7, hm, e1]
      . by_cases e2 : 24 < r.n
        . simp [eo, p2, p3, T4, d4, d7, hm, e1, e2]
        . simp [eo, p2, p3, T4, d4, d7, hm, e1, e2]
  . have d4 : decide ((n : Int) = 4) = false := by simp only [decide_eq_false_iff_not]; omega
    rw [if_neg h4]
    clear h4
    by_cases h7 : n = 7
    . have d7 : decide ((n : Int) = 7) = true := by simp only [decide_eq_true_eq]; omega
      have n7 : decide (n = 7) = true := by simp only [decide_eq_true_eq]; exact h7
      have Ja := ht h7
      rw [n7]
      clear ht h7 n7
      obtain ⟨i, hi⟩ : ∃ i : Nat, ti p r.t = (i : Int) := ⟨(ti p r.t).toNat, by omega⟩
      have qu : i < p.ts.length := by
        have := (hit Ja).2.1
        unfold ti at hi; rw [hi] at this; simpa using this
      have S := Bw hc p.ts[i] s hw
      have b := tA p.ts[i]
      have w2 : aM .i64 (dy p.ts[i] - 1) = dy p.ts[i] - 1 := wrap64 (by omega) (by omega)
      have e3 : vS p (i : Int) = dy p.ts[i] := by simp [vS, qu]
      rw [hi, e3]
      clear hi e3 Ja hit
      cases hm : (kd n).n with
      | false => simp [eo, p2, p3, T4, d4, d7, tabs, qu, S, w2, hm]
      | true =>
        by_cases e1 : r.n < 0
        . simp [eo, p2, p3, T4, d4, d7, tabs, qu, S, w2, hm, e1]
        . by_cases e2 : dy p.ts[i] - 1 < r.n
          . simp [eo, p2, p3, T4, d4, d7, tabs, qu, S, w2, hm, e1, e2]
          . simp [eo, p2, p3, T4, d4, d7, tabs, qu, S, w2, hm, e1, e2]
    . have d7 : decide ((n : Int) = 7) = false := by simp only [decide_eq_false_iff_not]; omega
      have n7 : decide (n = 7) = false := by simp only [decide_eq_false_iff_not]; exact h7
      rw [n7]
      clear h7 n7 ht hit
      cases hm : (kd n).n with
      | false => simp [eo, p2, p3, T4, d4, d7, hm]
      | true =>
        by_cases e1 : r.n < 0
        . simp [eo, p2, p3, T4, d4, d7, hm, e1]
        . by_cases e2 : 24 < r.n
          . simp [eo, p2, p3, T4, d4, d7, hm, e1, e2]
          . simp [eo, p2, p3, T4, d4, d7, hm, e1, e2]
end Go.Proofs.YtogojkhbplmifaaGreatDoor
end
section
set_option maxRecDepth 100000
namespace Go.Proofs.YtogojkhbplmifaaGreatDoor
open Go Go.Ai Go.Proofs
variable {c : ai}
structure Flags (n : Nat) : Prop where
  two : jY (n : Int) = (kd n).b
  num : DM (n : Int) = (kd n).n
  t0 : ov (n : Int) = 0 ↔ (kd n).t = 0
  t1 : ov (n : Int) = 1 ↔ (kd n).t = 116
  t2 : ov (n : Int) = 2 ↔ (kd n).t = 101
  a0 : (jY (n : Int) = false /\ q8 (n : Int) = false /\ n ≠ 17) ↔ (kd n).a = 0
  a1 : ((jY (n : Int) || q8 (n : Int)) = true /\ n ≠ 10) ↔ (kd n).a = 103
  a2 : n = 10 ↔ (kd n).a = 101
  a3 : n = 17 ↔ (kd n).a = 100
  o10 : n = 10 -> q8 (n : Int) = true
  lo : (kd n).lo = if n = 4 then 1 else 0
  pq : (kd n).pq = decide (n = 7)
  s7 : n = 7 -> (kd n).t = 116
theorem flags {n : Nat} (h : (kd n).w ≠ []) : Flags n := by
  have h18 : n <= 18 := by
    apply Classical.byContradiction
    intro h2
    apply h
    unfold kd; split <;> first | rfl | omega
  have : n = 0 \/ n = 1 \/ n = 2 \/ n = 3 \/ n = 4 \/ n = 5 \/ n = 6 \/ n = 7 \/ n = 8 \/ n = 9 \/ n = 10 \/ n = 11 \/ n = 12 \/ n = 13 \/ n = 14 \/ n = 15 \/ n = 16 \/ n = 17 \/ n = 18 := by omega
  rcases this with rfl | rfl | rfl | rfl | rfl | rfl | rfl | rfl | rfl | rfl | rfl | rfl | rfl | rfl | rfl | rfl | rfl | rfl | rfl
  . exact absurd rfl h
  all_goals exact ⟨by decide, by decide, by decide, by decide, by decide, by decide, by decide, by decide, by decide, by decide, by decide, by decide, by decide⟩
theorem NK (hc : Sem c) (p : fq) (hp : p.qO) (r : Rl) (n : Nat) (hk : r.k = (n : Int)) (hn : n < 256) (st : St) (hw : Wf st) :
    c 40 [.agg p.cells, .agg r.cells] st = some (.int .i64 (BT (kd n) p r), st) := by
  have b7 : Wf (au st (.cells p.cells 0)) := cF hw
  have pR := Grew.au b7 (.cells r.cells 0)
  have hg := (Grew.au hw (.cells p.cells 0)).trans pR
  have gj := hg.wf
  have p2 := pR.get (cm st (.cells p.cells 0))
  have p3 := cm (au st (.cells p.cells 0)) (.cells r.cells 0)
  rw [zJ hc 1 (r := (.int .i64 (BT (kd n) p r), au (au st (.cells p.cells 0)) (.cells r.cells 0))), aI (Plain.int _ _) hg.keeps]
  rw [vK, uJ, uJ, dr]
  simp only [AV.cells]
  generalize au (au st (.cells p.cells 0)) (.cells r.cells 0) = s at *
  generalize (au st (.cells p.cells 0)).next = q3 at *
  generalize st.next = q2 at *
  rw [stW hc gj hn hk hp p2 p3]
  unfold BT
  by_cases h0 : (kd n).w = []
  . rw [if_pos h0, decide_eq_true h0, pP, dr]
  have fl := flags h0
  rw [if_neg h0, decide_eq_false h0, rN]
  rw [stWt hc gj hn hk hp p2 p3]
  by_cases h1 : r.wt < 0 \/ 1000 < r.wt
  . rw [if_pos h1, decide_eq_true h1, pP, dr]
  rw [if_neg h1, decide_eq_false h1, rN]
  rw [stP1 hc gj hn hk hp p2 p3, stP2 hc gj hn hk hp p2 p3, stP3 hc gj hn hk hp p2 p3, stP4 hc gj hn hk hp p2 p3]
  have ep : (((decide (r.a ≠ []) && !jY n && !q8 n && decide (n ≠ 17)) || (decide (r.b ≠ []) && !jY n)) || (decide (r.t ≠ []) && decide (ov n = 0)) || (decide (r.n ≠ 0) && !DM n)) = !vH (kd n) r := by
    unfold vH
    rw [<- fl.two, <- fl.num]
    have t0 := fl.t0
    have a0 := fl.a0
    have : decide (ov (n : Int) = 0) = !decide ((kd n).t ≠ 0) := by simp [t0]
    rw [this]
    have : (!jY (n : Int) && !q8 (n : Int) && decide (n ≠ 17)) = !decide ((kd n).a ≠ 0) := by
      simp only [ne_eq, <- a0]
      cases jY (n : Int) <;> cases q8 (n : Int) <;> simp
    rw [Bool.and_assoc, Bool.and_assoc, <- Bool.and_assoc (!jY (n : Int)), this]
    cases decide ((kd n).a ≠ 0) <;> cases jY (n : Int) <;> cases decide ((kd n).t ≠ 0) <;> cases DM (n : Int) <;> by_cases h3 : r.a = [] <;> by_cases h4 : r.b = [] <;> by_cases h5 : r.t = [] <;> by_cases h6 : r.n = 0 <;> simp [h3, h4, h5, h6]
  rw [ep]
  cases h2 : vH (kd n) r with
  | false => rw [Bool.not_false, pP, dr, if_pos rfl]
  | true =>
  rw [Bool.not_true, rN, if_neg (by simp)]
  rw [stA hc gj hn hk hp p2 p3]
  have ea : ((jY (n : Int) || q8 (n : Int)) && !(decide (n = 10) && decide (r.a = [])) && decide (gi p r.a < 0)) = decide (((kd n).a = 103 /\ gi p r.a < 0) \/ ((kd n).a = 101 /\ r.a ≠ [] /\ gi p r.a < 0)) := by
    rw [Bool.eq_iff_iff, decide_eq_true_eq, <- fl.a1, <- fl.a2]
    by_cases Cy : n = 10
    . have h11 := fl.o10 Cy
      have GP : (jY (n : Int) || q8 (n : Int)) = true := by rw [h11, Bool.or_true]
      rw [GP]
      by_cases h3 : r.a = [] <;> simp [h3, Cy]
    . simp only [Cy, decide_false, Bool.false_and, Bool.not_false, Bool.and_true, ne_eq, not_false_eq_true, and_true, false_and, or_false]
      cases jY (n : Int) || q8 (n : Int) <;> simp
  rw [ea]
  by_cases h3 : ((kd n).a = 103 /\ gi p r.a < 0) \/ ((kd n).a = 101 /\ r.a ≠ [] /\ gi p r.a < 0)
  . rw [decide_eq_true h3, pP, dr, if_pos (h3.elim .inl fun h => .inr (.inl h))]
  rw [decide_eq_false h3, rN]
  rw [stB hc gj hn hk hp p2 p3]
  rw [fl.two]
  by_cases h4 : (kd n).b = true /\ gi p r.b < 0
  . have : ((kd n).b && decide (gi p r.b < 0)) = true := by simp [h4]
    rw [this, pP, dr, if_pos (.inr (.inr h4))]
  have : ((kd n).b && decide (gi p r.b < 0)) = false := by
    cases hb : (kd n).b
    . rfl
    . simp [hb] at h4; simp; exact h4
  rw [this, rN, if_neg (fun h => h.elim (fun h => h3 (.inl h)) fun h => h.elim (fun h => h3 (.inr h)) h4)]
  rw [stN hc gj hn hk hp p2 p3]
  unfold PV
  simp only [<- fl.a3]
  by_cases h5 : n = 17 /\ fj r.a = false
  . have : (decide (n = 17) && !fj r.a) = true := by simp [h5]
    rw [this, pP, dr, if_pos h5]
  have : (decide (n = 17) && !fj r.a) = false := by
    by_cases h17 : n = 17
    . cases hb : fj r.a
      . exact absurd ⟨h17, hb⟩ h5
      . simp
    . simp [h17]
  rw [this, rN, if_neg h5]
  rw [stD hc gj hn hk hp p2 p3, fl.two]
  by_cases h6 : (kd n).b = true /\ r.a = r.b
  . have : ((kd n).b && decide (r.a = r.b)) = true := by simp [h6]
    rw [this, pP, dr, if_pos h6]
  have : ((kd n).b && decide (r.a = r.b)) = false := by
    cases hb : (kd n).b
    . rfl
    . simp [hb] at h6; simp; exact h6
  rw [this, rN, if_neg h6]
  rw [stT hc gj hn hk hp p2 p3]
  unfold KH
  simp only [<- fl.t1, <- fl.t2]
  by_cases h7 : (ov (n : Int) = 1 /\ ti p r.t < 0) \/ (ov (n : Int) = 2 /\ r.t ≠ [] /\ ti p r.t < 0)
  . have : ((decide (ov (n : Int) = 1) && decide (ti p r.t < 0)) || (decide (ov (n : Int) = 2) && decide (r.t ≠ []) && decide (ti p r.t < 0))) = true := by
      rcases h7 with ⟨a, b⟩ | ⟨a, b, d⟩ <;> simp [*]
    rw [this, pP, dr, if_pos h7]
  have : ((decide (ov (n : Int) = 1) && decide (ti p r.t < 0)) || (decide (ov (n : Int) = 2) && decide (r.t ≠ []) && decide (ti p r.t < 0))) = false := by
    apply Bool.eq_false_iff.2
    intro e
    apply h7
    simpa [and_assoc] using e
  rw [this, rN, if_neg h7]
  have ht : n = 7 -> 0 <= ti p r.t := fun e => by
    apply Classical.byContradiction
    intro e2
    exact h7 (.inl ⟨fl.t1.2 (fl.s7 e), by omega⟩)
  exact aco hc gj hn hk hp p2 p3 fl.lo fl.pq fl.num ht _ _ _ _ rfl rfl rfl rfl
end Go.Proofs.YtogojkhbplmifaaGreatDoor
end
section
set_option maxRecDepth 100000
namespace Go.Proofs.YtogojkhbplmifaaGreatDoor
open Go Go.Ai Go.Proofs
theorem bW {Q : List AV -> Prop} {Qs : List (List AV -> Prop)} {ps : List (List AV)} (h : Iw (Q :: Qs) ps) : ∃ p qs, ps = p :: qs /\ Q p /\ Iw Qs qs := by
  cases ps with
  | nil => exact h.elim
  | cons p qs => exact ⟨p, qs, rfl, h⟩
theorem xZ {ps : List (List AV)} (h : Iw [] ps) : ps = [] := by
  cases ps with
  | nil => rfl
  | cons p qs => exact h.elim
section
variable {H : Type} {enc : TypeId × Value -> H} {w : World} {base : Nat} {spare : Nat -> Bool} {held : Bool}
abbrev j6 (enc : TypeId × Value -> H) (w : World) (base : Nat) (spare : Nat -> Bool) (held : Bool) (t : TypeId) (Q : List AV -> Prop) : Prop := ja enc Tryz.prog w base spare held t Q
abbrev nk (k : IntKind) (vs : List AV) : Prop := ∃ i, vs = [.int k i] /\ (Lit.int k i).wf = true
abbrev rP (vs : List AV) : Prop := ∃ s, vs = [.str s] /\ s.length <= maxLen /\ ∀ x ∈ s, x < 256
abbrev MO (vs : List AV) : Prop := ∃ b, vs = [.bool b]
theorem wK : j6 enc w base spare held 3 (nk .i64) := y6 (by kernel_rfl)
theorem tQ : j6 enc w base spare held 9 rP := Q9 (by kernel_rfl)
theorem Rt : j6 enc w base spare held 4 MO := PJ (by kernel_rfl)
theorem Wu : j6 enc w base spare held 48 (nk .u8) := y6 (by kernel_rfl)
theorem o_tk : j6 enc w base spare held 86 (nk .u8) := y6 (by kernel_rfl)
theorem o_rk : j6 enc w base spare held 29 (nk .u8) := y6 (by kernel_rfl)
abbrev Ru (vs : List AV) : Prop := ∃ z l, vs = [ints z l] /\ l.length <= maxLen
theorem Rv : j6 enc w base spare held 25 Ru := by
  refine ja.mono (o7 (es := 1) (Q := nk .i64) (by kernel_rfl) (by kernel_rfl) (by omega) (fun vs h => by obtain ⟨i, rfl, _⟩ := h; rfl) wK) fun vs h => ?_
  obtain ⟨z, rs, rfl, h1, h2⟩ := h
  have : ∃ l : List Int, rs = l.map fun i => [AV.int .i64 i] := by
    clear h2
    induction rs with
    | nil => exact ⟨[], rfl⟩
    | cons r rs ih =>
      obtain ⟨i, rfl, _⟩ := h1 r (by simp)
      obtain ⟨l, rfl⟩ := ih (fun q hq => h1 q (List.mem_cons_of_mem _ hq))
      exact ⟨i :: l, rfl⟩
  obtain ⟨l, rfl⟩ := this
  exact ⟨z, l, rfl, by simpa using h2⟩
abbrev Rw (vs : List AV) : Prop := ∃ z l, vs = [mV z l] /\ l.length <= maxLen
theorem aar : j6 enc w base spare held 45 Rw := by
  refine ja.mono (o7 (es := 1) (Q := rP) (by kernel_rfl) (by kernel_rfl) (by omega) (fun vs h => by obtain ⟨i, rfl, _⟩ := h; rfl) tQ) fun vs h => ?_
  obtain ⟨z, rs, rfl, h1, h2⟩ := h
  have : ∃ l : List (List Nat), rs = l.map fun s => [AV.str s] := by
    clear h2
    induction rs with
    | nil => exact ⟨[], rfl⟩
    | cons r rs ih =>
      obtain ⟨i, rfl, _⟩ := h1 r (by simp)
      obtain ⟨l, rfl⟩ := ih (fun q hq => h1 q (List.mem_cons_of_mem _ hq))
      exact ⟨i :: l, rfl⟩
  obtain ⟨l, rfl⟩ := this
  exact ⟨z, l, rfl, by simpa using h2⟩
theorem acp : j6 enc w base spare held 50 fun vs => ∃ t : bh, vs = t.cells /\ t.Ok := by
  refine ja.mono (qg [9, 48, 3, 3, 25, 3, 3] (Qs := [rP, nk .u8, nk .i64, nk .i64, Ru, nk .i64, nk .i64]) (by kernel_rfl) (by kernel_rfl) (by kernel_rfl) ⟨tQ, Wu, wK, wK, Rv, wK, wK, trivial⟩) fun vs h => ?_
  obtain ⟨ps, rfl, m0⟩ := h
  obtain ⟨p0, q0, rfl, ⟨s, rfl, hs, _⟩, m1⟩ := bW m0
  obtain ⟨p0, q0, rfl, ⟨k, rfl, _⟩, m2⟩ := bW m1
  obtain ⟨p0, q0, rfl, ⟨a, rfl, _⟩, m3⟩ := bW m2
  obtain ⟨p0, q0, rfl, ⟨b, rfl, _⟩, m4⟩ := bW m3
  obtain ⟨p0, q0, rfl, ⟨z, l, rfl, hl⟩, m5⟩ := bW m4
  obtain ⟨p0, q0, rfl, ⟨x, rfl, _⟩, m6⟩ := bW m5
  obtain ⟨p0, q0, rfl, ⟨y, rfl, _⟩, m7⟩ := bW m6
  obtain rfl := xZ m7
  exact ⟨⟨s, k, a, b, z, l, x, y⟩, rfl, ⟨by show s.length < kE; unfold maxLen at hs; unfold kE; omega, by show l.length < kE; unfold maxLen at hl; unfold kE; omega⟩⟩
theorem acq : j6 enc w base spare held 47 fun vs => ∃ t : cr, vs = t.cells := by
  refine ja.mono (qg [9, 9, 9, 3, 3, 9, 4, 4, 45] (Qs := [rP, rP, rP, nk .i64, nk .i64, rP, MO, MO, Rw]) (by kernel_rfl) (by kernel_rfl) (by kernel_rfl) ⟨tQ, tQ, tQ, wK, wK, tQ, Rt, Rt, aar, trivial⟩) fun vs h => ?_
  obtain ⟨ps, rfl, m0⟩ := h
  obtain ⟨p0, q0, rfl, ⟨name, rfl, pM, _⟩, m1⟩ := bW m0
  obtain ⟨p0, q0, rfl, ⟨tC, rfl, hrank, _⟩, m2⟩ := bW m1
  obtain ⟨p0, q0, rfl, ⟨pQ, rfl, hcourt, _⟩, m3⟩ := bW m2
  obtain ⟨p0, q0, rfl, ⟨since, rfl, _⟩, m4⟩ := bW m3
  obtain ⟨p0, q0, rfl, ⟨side, rfl, _⟩, m5⟩ := bW m4
  obtain ⟨p0, q0, rfl, ⟨tD, rfl, hdiet, _⟩, m6⟩ := bW m5
  obtain ⟨p0, q0, rfl, ⟨host, rfl⟩, m7⟩ := bW m6
  obtain ⟨p0, q0, rfl, ⟨access, rfl⟩, m8⟩ := bW m7
  obtain ⟨p0, q0, rfl, ⟨ztg, tg, rfl, htg⟩, m9⟩ := bW m8
  obtain rfl := xZ m9
  exact ⟨⟨name, tC, pQ, since, side, tD, host, access, ztg, tg⟩, rfl⟩
theorem o_ty : j6 enc w base spare held 89 fun vs => ∃ t : Ty, vs = t.cells := by
  refine ja.mono (qg [9, 9, 86] (Qs := [rP, rP, nk .u8]) (by kernel_rfl) (by kernel_rfl) (by kernel_rfl) ⟨tQ, tQ, o_tk, trivial⟩) fun vs h => ?_
  obtain ⟨ps, rfl, m0⟩ := h
  obtain ⟨p0, q0, rfl, ⟨a, rfl, ha, _⟩, m1⟩ := bW m0
  obtain ⟨p0, q0, rfl, ⟨b, rfl, hb, _⟩, m2⟩ := bW m1
  obtain ⟨p0, q0, rfl, ⟨k, rfl, hk⟩, m3⟩ := bW m2
  obtain rfl := xZ m3
  exact ⟨⟨a, b, k⟩, rfl⟩
theorem acr {i : Int} (h : (Lit.int .u8 i).wf = true) : 0 <= i /\ i < 256 := by
  simp only [Lit.wf, Bool.and_eq_true, decide_eq_true_eq] at h
  have h1 : IntKind.u8.min = 0 := by decide
  have h2 : IntKind.u8.max = 255 := by decide
  omega
theorem o_rl : j6 enc w base spare held 31 fun vs => ∃ t : Rl, vs = t.cells /\ t.Ok := by
  refine ja.mono (qg [29, 3, 9, 9, 9, 3] (Qs := [nk .u8, nk .i64, rP, rP, rP, nk .i64]) (by kernel_rfl) (by kernel_rfl) (by kernel_rfl) ⟨o_rk, wK, tQ, tQ, tQ, wK, trivial⟩) fun vs h => ?_
  obtain ⟨ps, rfl, m0⟩ := h
  obtain ⟨p0, q0, rfl, ⟨k, rfl, hk⟩, m1⟩ := bW m0
  obtain ⟨p0, q0, rfl, ⟨wt, rfl, _⟩, m2⟩ := bW m1
  obtain ⟨p0, q0, rfl, ⟨a, rfl, ha, _⟩, m3⟩ := bW m2
  obtain ⟨p0, q0, rfl, ⟨b, rfl, hb, _⟩, m4⟩ := bW m3
  obtain ⟨p0, q0, rfl, ⟨t, rfl, ht, _⟩, m5⟩ := bW m4
  obtain ⟨p0, q0, rfl, ⟨n, rfl, _⟩, m6⟩ := bW m5
  obtain rfl := xZ m6
  exact ⟨⟨k, wt, a, b, t, n⟩, rfl, acr hk⟩
theorem aas : j6 enc w base spare held 22 fun vs => ∃ (z : Bool) (l : List bh), vs = [tabs z l] /\ ∀ t ∈ l, t.Ok := by
  refine ja.mono (o7 (es := 7) (Q := (fun vs => ∃ t : bh, vs = t.cells /\ t.Ok)) (by kernel_rfl) (by kernel_rfl) (by omega) (fun vs h => by obtain ⟨t, rfl, ht⟩ := h; rfl) acp) fun vs h => ?_
  obtain ⟨z, rs, rfl, h1, h2⟩ := h
  have : ∃ l : List bh, rs = l.map bh.cells /\ ∀ t ∈ l, t.Ok := by
    clear h2
    induction rs with
    | nil => exact ⟨[], rfl, by simp⟩
    | cons r rs ih =>
      obtain ⟨t, rfl, ht⟩ := h1 r (by simp)
      obtain ⟨l, rfl, hl⟩ := ih (fun q hq => h1 q (List.mem_cons_of_mem _ hq))
      exact ⟨t :: l, rfl, fun q hq => by
        rcases List.mem_cons.1 hq with rfl | hq
        . exact ht
        . exact hl q hq⟩
  obtain ⟨l, rfl, hl⟩ := this
  exact ⟨z, l, rfl, hl⟩
theorem aat : j6 enc w base spare held 23 fun vs => ∃ (z : Bool) (l : List cr), vs = [cC z l] := by
  refine ja.mono (o7 (es := 9) (Q := (fun vs => ∃ t : cr, vs = t.cells)) (by kernel_rfl) (by kernel_rfl) (by omega) (fun vs h => by obtain ⟨t, rfl⟩ := h; rfl) acq) fun vs h => ?_
  obtain ⟨z, rs, rfl, h1, h2⟩ := h
  have : ∃ l : List cr, rs = l.map cr.cells := by
    clear h2
    induction rs with
    | nil => exact ⟨[], rfl⟩
    | cons r rs ih =>
      obtain ⟨t, rfl⟩ := h1 r (by simp)
      obtain ⟨l, rfl⟩ := ih (fun q hq => h1 q (List.mem_cons_of_mem _ hq))
      exact ⟨t :: l, rfl⟩
  obtain ⟨l, rfl⟩ := this
  exact ⟨z, l, rfl⟩
theorem acs : j6 enc w base spare held 24 fun vs => ∃ (z : Bool) (l : List Ty), vs = [fk z l] := by
  refine ja.mono (o7 (es := 3) (Q := (fun vs => ∃ t : Ty, vs = t.cells)) (by kernel_rfl) (by kernel_rfl) (by omega) (fun vs h => by obtain ⟨t, rfl⟩ := h; rfl) o_ty) fun vs h => ?_
  obtain ⟨z, rs, rfl, h1, h2⟩ := h
  have : ∃ l : List Ty, rs = l.map Ty.cells := by
    clear h2
    induction rs with
    | nil => exact ⟨[], rfl⟩
    | cons r rs ih =>
      obtain ⟨t, rfl⟩ := h1 r (by simp)
      obtain ⟨l, rfl⟩ := ih (fun q hq => h1 q (List.mem_cons_of_mem _ hq))
      exact ⟨t :: l, rfl⟩
  obtain ⟨l, rfl⟩ := this
  exact ⟨z, l, rfl⟩
theorem acu : j6 enc w base spare held 26 fun vs => ∃ (z : Bool) (l : List Rl), vs = [OS z l] /\ ∀ t ∈ l, t.Ok := by
  refine ja.mono (o7 (es := 6) (Q := (fun vs => ∃ t : Rl, vs = t.cells /\ t.Ok)) (by kernel_rfl) (by kernel_rfl) (by omega) (fun vs h => by obtain ⟨t, rfl, ht⟩ := h; rfl) o_rl) fun vs h => ?_
  obtain ⟨z, rs, rfl, h1, h2⟩ := h
  have : ∃ l : List Rl, rs = l.map Rl.cells /\ ∀ t ∈ l, t.Ok := by
    clear h2
    induction rs with
    | nil => exact ⟨[], rfl, by simp⟩
    | cons r rs ih =>
      obtain ⟨t, rfl, ht⟩ := h1 r (by simp)
      obtain ⟨l, rfl, hl⟩ := ih (fun q hq => h1 q (List.mem_cons_of_mem _ hq))
      exact ⟨t :: l, rfl, fun q hq => by
        rcases List.mem_cons.1 hq with rfl | hq
        . exact ht
        . exact hl q hq⟩
  obtain ⟨l, rfl, hl⟩ := this
  exact ⟨z, l, rfl, hl⟩
theorem acg : j6 enc w base spare held 28 fun vs => ∃ p : fq, vs = p.cells /\ (∀ t ∈ p.ts, t.Ok) /\ ∀ r ∈ p.rs, r.Ok := by
  refine ja.mono (qg [22, 23, 24, 25, 26] (Qs := [_, _, _, _, _]) (by kernel_rfl) (by kernel_rfl) (by kernel_rfl) ⟨aas, aat, acs, Rv, acu, trivial⟩) fun vs h => ?_
  obtain ⟨ps, rfl, m0⟩ := h
  obtain ⟨p0, q0, rfl, ⟨z1, l1, rfl, h1⟩, m1⟩ := bW m0
  obtain ⟨p0, q0, rfl, ⟨z2, l2, rfl⟩, m2⟩ := bW m1
  obtain ⟨p0, q0, rfl, ⟨z3, l3, rfl⟩, m3⟩ := bW m2
  obtain ⟨p0, q0, rfl, ⟨z4, l4, rfl, h4⟩, m4⟩ := bW m3
  obtain ⟨p0, q0, rfl, ⟨z5, l5, rfl, h5⟩, m5⟩ := bW m4
  obtain rfl := xZ m5
  exact ⟨⟨z1, l1, z2, l2, z3, l3, z4, l4, z5, l5⟩, rfl, h1, h5⟩
end
end Go.Proofs.YtogojkhbplmifaaGreatDoor
end
section
set_option maxRecDepth 100000
namespace Go.Proofs.YtogojkhbplmifaaGreatDoor
open Go Go.Ai Go.Proofs
variable {c : ai}
def Ge (p : fq) (m : Nat) : Bool := decide (p.ts.length <= m) && decide (p.gs.length <= m) && decide (p.ys.length <= m) && decide (p.cs.length <= m) && decide (p.rs.length <= m)
theorem UN {p : fq} (h : Ge p 100 = true) (dx : ∀ t ∈ p.ts, t.Ok) : p.qO := by
  unfold Ge at h
  simp only [Bool.and_eq_true, decide_eq_true_eq] at h
  exact ⟨h.1.1.1.1, h.1.1.1.2, h.1.1.2, h.1.2, h.2, dx⟩
theorem aau (hc : Sem c) (p : fq) (m : Nat) (st : St) (hw : Wf st) : c 8 [.agg p.cells, .int .i64 (m : Int)] st = some (.bool (Ge p m), st) := by
  have hp := cm st (.cells p.cells 0)
  rw [DY hc 1 (r := (.bool (Ge p m), au st (.cells p.cells 0))), aI (Plain.bool _) (bU hw)]
  rw [AD]
  unfold Ge
  by_cases h1 : p.ts.length <= m
  . by_cases h2 : p.gs.length <= m
    . by_cases h3 : p.ys.length <= m
      . by_cases h4 : p.cs.length <= m
        . by_cases h5 : p.rs.length <= m <;> simp [h1, h2, h3, h4, h5]
        . simp [h1, h2, h3, h4]
      . simp [h1, h2, h3]
    . simp [h1, h2]
  . simp [h1]
end Go.Proofs.YtogojkhbplmifaaGreatDoor
end
section
set_option maxRecDepth 100000
namespace Go.Proofs.YtogojkhbplmifaaGreatDoor
open Go Go.Ai Go.Proofs
variable {c : ai}
theorem Rx (z : Bool) (l : List Ty) : cQ 3 (fk z l) := cQ.ro fun r hr v hv => by
  simp only [List.mem_map] at hr
  obtain ⟨g, _, rfl⟩ := hr
  simp only [Ty.cells, List.mem_cons, List.not_mem_nil, or_false] at hv
  rcases hv with rfl | rfl | rfl <;> first | exact cQ.str _ | exact cQ.int _ _
theorem OT (p : fq) : gL (.agg p.cells) (.agg p.cells) = true := Cu fun v hv => by
  simp only [fq.cells, List.mem_cons, List.not_mem_nil, or_false] at hv
  rcases hv with rfl | rfl | rfl | rfl | rfl
  . exact PU _ _
  . exact BQ _ _
  . exact Rx _ _
  . exact HG _ _
  . exact Rp _ _
theorem Ry (r : Rl) : gL (.agg r.cells) (.agg r.cells) = true := Cu fun v hv => by
  simp only [Rl.cells, List.mem_cons, List.not_mem_nil, or_false] at hv
  rcases hv with rfl | rfl | rfl | rfl | rfl | rfl <;> first | exact cQ.str _ | exact cQ.int _ _
theorem NL (H : Pos -> Option AB) (nx m : Pos) (cl : Nat) (h : H m = some (.map CA cl)) (n : Nat) :
    aE.run H nx (.lookup .i (.agg [.str [], .int .u8 0, .bool false, .int .u8 0, .bool false, .int .i64 0, .bool false, .aq]) false) [.map m, .int .u8 (n : Int)] = some (.val (.agg (kd n).cells)) := by
  have e : iV .i (.int .u8 (n : Int)) CA 0 = some (if 1 <= n /\ n <= 18 then some (n - 1, .agg (kd n).cells) else none) := by
    by_cases h : n <= 18
    . have : n = 0 \/ n = 1 \/ n = 2 \/ n = 3 \/ n = 4 \/ n = 5 \/ n = 6 \/ n = 7 \/ n = 8 \/ n = 9 \/ n = 10 \/ n = 11 \/ n = 12 \/ n = 13 \/ n = 14 \/ n = 15 \/ n = 16 \/ n = 17 \/ n = 18 := by omega
      rcases this with rfl | rfl | rfl | rfl | rfl | rfl | rfl | rfl | rfl | rfl | rfl | rfl | rfl | rfl | rfl | rfl | rfl | rfl | rfl <;> rfl
    . have Ht : ∀ j : Int, j <= 18 -> uV (n : Int) j = false := fun j hj => by rw [lH]; simp; omega
      rw [if_neg (by omega)]
      simp [CA, iV, uu, Ht, dV]
  simp only [aE.run, sj, h, e]
  by_cases h1 : 1 <= n /\ n <= 18
  . rw [if_pos h1]
  . rw [if_neg h1]
    have : kd n = ⟨[], 0, false, 0, false, 0, false, .aq⟩ := by
      unfold kd; split <;> first | rfl | omega
    rw [this]; rfl
theorem NM {R : Type} (K : AV -> Option R) (h : T AB) (m : Pos) (cl : Nat) (hh : h.get m = some (.map CA cl)) (n : Nat) :
    eF (.lookup .i (.agg [.str [], .int .u8 0, .bool false, .int .u8 0, .bool false, .int .i64 0, .bool false, .aq]) false) [.map m, .int .u8 (n : Int)] h (fun _ => true) K = K (.agg (kd n).cells) := by
  unfold eF
  have e : aE.run (fun _ => none) .h (.lookup .i (.agg [.str [], .int .u8 0, .bool false, .int .u8 0, .bool false, .int .i64 0, .bool false, .aq]) false) [.map m, .int .u8 (n : Int)] = none := rfl
  rw [e]
  simp only
  rw [NL _ _ m cl hh n]
def uS (p : fq) (r : Rl) : Int := if (lS p).2 ≠ 0 then 2 else BU p r
theorem MP (hc : Sem c) (p : fq) (hp : p.qO) (r : Rl) (hr : r.Ok) (st : St) (hw : Wf st) : c 9 [.agg p.cells, .agg r.cells] st = some (.int .i64 (uS p r), st) := by
  have b7 : Wf (au st (.cells p.cells 0)) := cF hw
  have gj : Wf (au (au st (.cells p.cells 0)) (.cells r.cells 0)) := cF b7
  have pR := Grew.au b7 (.cells r.cells 0)
  have hg := (Grew.au hw (.cells p.cells 0)).trans pR
  have p1 := pR.get (cm st (.cells p.cells 0))
  have p2 := cm (au st (.cells p.cells 0)) (.cells r.cells 0)
  have B := TF hc p hp _ gj
  obtain ⟨n, hk⟩ : ∃ n : Nat, r.k = (n : Int) := ⟨r.k.toNat, by have := hr.1; omega⟩
  have hS : BU p r = BT (kd n) p r := by unfold BU; rw [hk]; rfl
  by_cases h : (lS p).2 = 0
  . have hv := NJ h
    have K := TJ hc (au (au st (.cells p.cells 0)) (.cells r.cells 0))
    have E4 := Grew.au gj (.map CA 18)
    have vk := E4.wf
    have kc := Rr hc (kd n) (Ws n) p hp hv r _ vk
    have p1' := E4.get p1
    have p2' := E4.get p2
    have look := fun (K : AV -> Option (AV × St)) => NM K _ _ 18 (cm (au (au st (.cells p.cells 0)) (.cells r.cells 0)) (.map CA 18)) n
    have r1 := fun (K : AV -> Option (AV × St)) => uK K (o := 0) (v := .int .u8 r.k) (h := (au (au (au st (.cells p.cells 0)) (.cells r.cells 0)) (.map CA 18)).heap) (h2 := (au (au st (.cells p.cells 0)) (.cells r.cells 0)).heap) (by rw [p2']; rfl) (by rw [p2]; rfl) (Dz (cQ.int _ _))
    have r2 := fun (K : AV -> Option (AV × St)) => Bv K (m := 5) (o := 0) (l := p.cells) (h := (au (au (au st (.cells p.cells 0)) (.cells r.cells 0)) (.map CA 18)).heap) (h2 := (au (au st (.cells p.cells 0)) (.cells r.cells 0)).heap) (by rw [p1']; rfl) (by rw [p1]; rfl) (OT p)
    have r3 := fun (K : AV -> Option (AV × St)) => Bv K (m := 6) (o := 0) (l := r.cells) (h := (au (au (au st (.cells p.cells 0)) (.cells r.cells 0)) (.map CA 18)).heap) (h2 := (au (au st (.cells p.cells 0)) (.cells r.cells 0)).heap) (by rw [p2']; rfl) (by rw [p2]; rfl) (Ry r)
    rw [<- hS] at kc
    rw [<- hk] at look
    have e : uS p r = BU p r := by unfold uS; rw [if_neg (by simp [h])]
    rw [vL hc 1 (r := (.int .i64 (uS p r), au (au (au st (.cells p.cells 0)) (.cells r.cells 0)) (.map CA 18))), aI (Plain.int _ _) (hg.trans E4).keeps]
    rw [uT, e]
    simp [p1, p2, p1', p2', B, h, K, look, kc, r1, r2, r3]
  . have e : uS p r = 2 := by unfold uS; rw [if_pos h]
    rw [vL hc 1 (r := (.int .i64 (uS p r), au (au st (.cells p.cells 0)) (.cells r.cells 0))), aI (Plain.int _ _) hg.keeps]
    rw [uT, e]
    simp [p1, p2, B, h]
theorem H6 (hc : Sem c) (p : fq) (hp : p.qO) (r : Rl) (hr : r.Ok) (st : St) (hw : Wf st) : c 10 [.agg p.cells, .agg r.cells] st = some (.int .i64 (uS p r), st) := by
  have b7 : Wf (au st (.cells p.cells 0)) := cF hw
  have gj : Wf (au (au st (.cells p.cells 0)) (.cells r.cells 0)) := cF b7
  have pR := Grew.au b7 (.cells r.cells 0)
  have hg := (Grew.au hw (.cells p.cells 0)).trans pR
  have p1 := pR.get (cm st (.cells p.cells 0))
  have p2 := cm (au st (.cells p.cells 0)) (.cells r.cells 0)
  have B := NI hc p hp _ gj
  obtain ⟨n, hk⟩ : ∃ n : Nat, r.k = (n : Int) := ⟨r.k.toNat, by have := hr.1; omega⟩
  have hn : n < 256 := by have := hr.2; omega
  have hS : BU p r = BT (kd n) p r := by unfold BU; rw [hk]; rfl
  have kc := NK hc p hp r n hk hn _ gj
  rw [<- hS] at kc
  rw [vV hc 1 (r := (.int .i64 (uS p r), au (au st (.cells p.cells 0)) (.cells r.cells 0))), aI (Plain.int _ _) hg.keeps]
  rw [rE]
  by_cases h : (lS p).2 = 0
  . have e : uS p r = BU p r := by unfold uS; rw [if_neg (by simp [h])]
    rw [e]
    simp [p1, p2, B, h, kc]
  . have e : uS p r = 2 := by unfold uS; rw [if_pos h]
    rw [e]
    simp [p1, p2, B, h]
theorem NB (hc : Sem c) (p : fq) (dx : ∀ t ∈ p.ts, t.Ok) (r : Rl) (hr : r.Ok) (st : St) (hw : Wf st) : c 3 [.agg p.cells, .agg r.cells] st = some (.bool true, st) := by
  have b7 : Wf (au st (.cells p.cells 0)) := cF hw
  have gj : Wf (au (au st (.cells p.cells 0)) (.cells r.cells 0)) := cF b7
  have pR := Grew.au b7 (.cells r.cells 0)
  have hg := (Grew.au hw (.cells p.cells 0)).trans pR
  have p1 := pR.get (cm st (.cells p.cells 0))
  have p2 := cm (au st (.cells p.cells 0)) (.cells r.cells 0)
  have F : c 8 [.agg p.cells, .int .i64 100] (au (au st (.cells p.cells 0)) (.cells r.cells 0)) = some (.bool (Ge p 100), au (au st (.cells p.cells 0)) (.cells r.cells 0)) := aau hc p 100 _ gj
  have r2 := fun (K : AV -> Option (AV × St)) => Bv K (m := 5) (o := 0) (l := p.cells) (h := (au (au st (.cells p.cells 0)) (.cells r.cells 0)).heap) (h2 := (au (au st (.cells p.cells 0)) (.cells r.cells 0)).heap) (by rw [p1]; rfl) (by rw [p1]; rfl) (OT p)
  have r3 := fun (K : AV -> Option (AV × St)) => Bv K (m := 6) (o := 0) (l := r.cells) (h := (au (au st (.cells p.cells 0)) (.cells r.cells 0)).heap) (h2 := (au (au st (.cells p.cells 0)) (.cells r.cells 0)).heap) (by rw [p2]; rfl) (by rw [p2]; rfl) (Ry r)
  have A := UO hc (au (au st (.cells p.cells 0)) (.cells r.cells 0))
  rw [wL hc 1 (r := (.bool true, au (au st (.cells p.cells 0)) (.cells r.cells 0))), aI (Plain.bool _) hg.keeps]
  rw [sK]
  cases h : Ge p 100 with
  | false => simp [p1, p2, F, h, A]
  | true =>
    have hp := UN h dx
    have C1 := MP hc p hp r hr _ gj
    have C2 := H6 hc p hp r hr _ gj
    simp [p1, p2, F, h, A, C1, C2, r2, r3]
end Go.Proofs.YtogojkhbplmifaaGreatDoor
end
