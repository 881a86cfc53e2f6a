/- The check functions of the program and of the reference as plain functions. -/
import Derived.Test.YtogojkhbplmifaaGreatDoorTabs
import Derived.Test.YtogojkhbplmifaaGreatDoorEvalD
import Derived.Test.YtogojkhbplmifaaGreatDoorEvalE
set_option linter.all false
set_option linter.unusedSectionVars false
set_option linter.deprecated false
section
noncomputable section
namespace Go.Proofs.YtogojkhbplmifaaGreatDoor
open Go Go.Ai Go.Proofs
def FB : fy := tq [(302, vP), (11, G7)]
def Sem (c : ai) : Prop := c = run FB gg
theorem Sem.of {c : ai} (hc : Sem c) {f : FuncId} {A : aK} {F : Nat} {L : Env (AV × St)} {s : Sh} {args : List AV} {st : St} {r : AV × St} (ho : FB f = none) (hF : gg.get (key f) = some A)
    (hL : ∀ x ∈ bM A.code s, bK c F L x.1 x.2) (h : jJ c F L A s args st = some r) : c f args st = some (tidy st r) := by
  subst hc; exact S9 ho hF hL h
theorem Sem.gR {c : ai} (hc : Sem c) {f : FuncId} {A : aK} {F : Nat} {s : Sh} {args : List AV} {st : St} {r : AV × St} {k : Option (AV × St)} (ho : FB f = none) (hF : gg.get (key f) = some A)
    (hl : bM A.code s = []) (hd : jJ c F (gM []) A s args st = k) (h : k = some r) : c f args st = some (tidy st r) :=
  hc.of (L := gM []) ho hF (by rw [hl]; intro x hx; cases hx) (hd.trans h)
theorem UO {c : ai} (hc : Sem c) (st : St) : c 11 [] st = some (.bool true, st) := by
  subst hc; exact G2 (O := FB) (s := G7) rfl rfl
end Go.Proofs.YtogojkhbplmifaaGreatDoor
end
section
set_option linter.all false
set_option maxRecDepth 100000
noncomputable section
namespace Go.Proofs.YtogojkhbplmifaaGreatDoor
open Go Go.Ai Go.Proofs
def AD (c : ai) (F : Nat) (x0 x1 : AV) (s : St) : Option (AV × St) :=
  af c .box [x0] s fun x2 s0 =>
  af c .move [(.bool false)] s0 fun x4 s1 =>
  af c (.fieldA 0) [x2] s1 fun x5 s2 =>
  af c (.load none) [x5] s2 fun x6 s3 =>
  af c (.lenB .l) [x6] s3 fun x7 s4 =>
  af c .move [x1] s4 fun x8 s5 =>
  af c (.bin .leq .num) [x7, x8] s5 fun x9 s6 =>
  af c .move [x9] s6 fun aJ s7 =>
  aj c aJ true (.fieldA 1) [x2] s7 fun aP s8 =>
  aj c aJ true (.load none) [aP] s8 fun aR s9 =>
  aj c aJ true (.lenB .l) [aR] s9 fun aV bk =>
  aj c aJ true .move [x1] bk fun aS bu =>
  aj c aJ true (.bin .leq .num) [aV, aS] bu fun aZ bt =>
  af c .pick [aJ, aZ, (.bool false)] bt fun aT bA =>
  af c .move [aT] bA fun aW bP =>
  aj c aW true (.fieldA 2) [x2] bP fun bH bV =>
  aj c aW true (.load none) [bH] bV fun bF b9 =>
  aj c aW true (.lenB .l) [bF] b9 fun cR bX =>
  aj c aW true .move [x1] bX fun dw ck =>
  aj c aW true (.bin .leq .num) [cR, dw] ck fun cD cj =>
  af c .pick [aW, cD, (.bool false)] cj fun cS c9 =>
  af c .move [cS] c9 fun dW dS =>
  aj c dW true (.fieldA 3) [x2] dS fun dD dF =>
  aj c dW true (.load none) [dD] dF fun eO ey =>
  aj c dW true (.lenB .l) [eO] ey fun eP eA =>
  aj c dW true .move [x1] eA fun fL dI =>
  aj c dW true (.bin .leq .num) [eP, fL] dI fun fX eR =>
  af c .pick [dW, fX, (.bool false)] eR fun cT eB =>
  af c .move [cT] eB fun dL e9 =>
  aj c dL true (.fieldA 4) [x2] e9 fun b8 eS =>
  aj c dL true (.load none) [b8] eS fun iL eN =>
  aj c dL true (.lenB .l) [iL] eN fun gH fo =>
  aj c dL true .move [x1] fo fun fc gP =>
  aj c dL true (.bin .leq .num) [gH, fc] gP fun iQ gB =>
  af c .pick [dL, iQ, (.bool false)] gB fun gm gq =>
  af c .move [gm] gq fun x4 gu =>
  some (x4, gu)
theorem DY {c : ai} (hc : Sem c) (F : Nat){x0 x1 : AV} {s : St} {r : AV × St} (h : AD c F x0 x1 s = some r) : c 8 [x0, x1] s = some (tidy s r) := hc.gR (A := g8.getD default) (F := F) (s := (.seq none .leaf (.seq none .leaf .leaf))) (by kernel_rfl) (by kernel_rfl) (by kernel_rfl) (by kernel_rfl) h
def uT (c : ai) (F : Nat) (x0 x1 : AV) (s : St) : Option (AV × St) :=
  af c .box [x0] s fun x2 s0 =>
  af c .box [x1] s0 fun x3 s1 =>
  af c .move [(.int .i64 0)] s1 fun x4 s2 =>
  af c (.load (some 5)) [x2] s2 fun x8 s3 =>
  af c (.callF 36) [x8] s3 fun x9 s4 =>
  af c .move [x9] s4 fun x7 s5 =>
  af c (.extract 0) [x7] s5 fun aJ s6 =>
  af c (.extract 1) [x7] s6 fun aP s7 =>
  af c .move [aJ] s7 fun x5 s8 =>
  af c .move [aP] s8 fun x6 s9 =>
  af c .move [x6] s9 fun aR bk =>
  af c (.bin .neq .num) [aR, (.int .i64 0)] bk fun aV bu =>
  aH aV (
    af c .move [(.int .i64 2)] bu fun x4 bt =>
    some (x4, bt)) (
    af c (.callF 37) [] bu fun aS bA =>
  aB (.fieldA 0) [x3] fun aZ =>
  eF (.load none) [aZ] bA.heap (fun v => fP (.load none) [aZ] v (fN [] bu.heap) && true) fun aT =>
  eF (.lookup .i (.agg [(.str []), (.int .u8 0), (.bool false), (.int .u8 0), (.bool false), (.int .i64 0), (.bool false), .aq]) false) [aS, aT] bA.heap (fun _ => true) fun aW =>
  eF (.load (some 5)) [x2] bA.heap (fun v => fP (.load (some 5)) [x2] v (fN [] bu.heap) && true) fun bH =>
  eF (.load (some 6)) [x3] bA.heap (fun v => fP (.load (some 6)) [x3] v (fN [] bu.heap) && true) fun bF =>
  af c (.callF 38) [aW, bH, bF] bA fun cR bP =>
  aB .move [cR] fun x4 =>
  some (x4, bP))
theorem vL {c : ai} (hc : Sem c) (F : Nat){x0 x1 : AV} {s : St} {r : AV × St} (h : uT c F x0 x1 s = some r) : c 9 [x0, x1] s = some (tidy s r) := hc.gR (A := g9.getD default) (F := F) (s := (.seq none .leaf (.seq none (.seq none .leaf (.seq none .leaf (.cond (.seq none .leaf .leaf) .leaf))) (.seq none .leaf .leaf)))) (by kernel_rfl) (by kernel_rfl) (by kernel_rfl) (by kernel_rfl) h
def rE (c : ai) (F : Nat) (x0 x1 : AV) (s : St) : Option (AV × St) :=
  af c .box [x0] s fun x2 s0 =>
  af c .box [x1] s0 fun x3 s1 =>
  af c .move [(.int .i64 0)] s1 fun x4 s2 =>
  af c (.load (some 5)) [x2] s2 fun x8 s3 =>
  af c (.callF 39) [x8] s3 fun x9 s4 =>
  af c .move [x9] s4 fun x7 s5 =>
  af c (.extract 0) [x7] s5 fun aJ s6 =>
  af c (.extract 1) [x7] s6 fun aP s7 =>
  af c .move [aJ] s7 fun x5 s8 =>
  af c .move [aP] s8 fun x6 s9 =>
  af c .move [x6] s9 fun aR bk =>
  af c (.bin .neq .num) [aR, (.int .i64 0)] bk fun aV bu =>
  aH aV (
    af c .move [(.int .i64 2)] bu fun x4 bt =>
    some (x4, bt)) (
    af c (.load (some 5)) [x2] bu fun aS bA =>
  af c (.load (some 6)) [x3] bA fun aZ bP =>
  af c (.callF 40) [aS, aZ] bP fun aT bV =>
  af c .move [aT] bV fun x4 b9 =>
  some (x4, b9))
theorem vV {c : ai} (hc : Sem c) (F : Nat){x0 x1 : AV} {s : St} {r : AV × St} (h : rE c F x0 x1 s = some r) : c 10 [x0, x1] s = some (tidy s r) := hc.gR (A := g10.getD default) (F := F) (s := (.seq none .leaf (.seq none (.seq none .leaf (.seq none .leaf (.cond (.seq none .leaf .leaf) .leaf))) (.seq none .leaf .leaf)))) (by kernel_rfl) (by kernel_rfl) (by kernel_rfl) (by kernel_rfl) h
def ya : aK := g25.getD default
def yb : Sh := (.seq none .leaf (.seq none (.seq none .leaf (.seq none .leaf (.cond (.seq none .leaf .leaf) .leaf))) (.seq none .leaf (.seq none (.seq none .leaf (.block (.loop 0 [(.o .h), (.i (.i .h)), (.o (.i (.i (.o .h)))), (.i (.i (.i (.o .h)))), (.o (.o (.o (.i .h))))] [(1, [(.i .h), (.o (.o .h))]), (2, [])] (.seq none .leaf (.seq none (.cond .leaf .leaf) (.seq none (.block (.seq none .leaf (.seq none (.seq none .leaf (.seq none .leaf (.cond (.seq none .leaf .leaf) .leaf))) (.seq none .leaf (.cond (.seq none .leaf .leaf) .leaf))))) .leaf)))))) (.seq none .leaf .leaf)))))
def CD (c : ai) (F : Nat) (k1 k2 : List AV -> St -> Option (AV × St)) : Nat -> List AV -> St -> Option (AV × St)
  | 0, _, _ => none
  | n + 1, vs, s => az vs fun x1 vs => az vs fun x6 vs => az vs fun dw vs => az vs fun cD vs => az vs fun cS vs => bC vs (
  af c (.bin .lss .num) [cS, cD] s fun dW dF =>
  aH dW (
    af c .move [cS] dF fun dD ey =>
  af c (.idxA 6 none) [dw, cS] ey fun eO eA =>
  af c (.load (some 6)) [eO] eA fun eP dI =>
  af c (.alloc [(.int .u8 0), (.int .i64 0), (.str []), (.str []), (.str []), (.int .i64 0)]) [] dI fun x8 eR =>
  af c .move [dD] eR fun x7 eB =>
  af c (.store 6) [x8, eP] eB fun _ e9 =>
  af c .move [x6] e9 fun fL eS =>
  af c (.fieldA 0) [x8] eS fun fX eN =>
  af c (.load none) [fX] eN fun cT fo =>
  af c (.lookup .i (.agg [(.str []), (.int .u8 0), (.bool false), (.int .u8 0), (.bool false), (.int .i64 0), (.bool false), .aq]) false) [fL, cT] fo fun dL gP =>
  af c (.load (some 5)) [x1] gP fun b8 gB =>
  af c (.load (some 6)) [x8] gB fun iL gq =>
  af c (.callF 38) [dL, b8, iL] gq fun gH gu =>
  af c .move [gH] gu fun x9 iO =>
  af c .move [x9] iO fun fc jb =>
  af c (.bin .neq .num) [fc, (.int .i64 0)] jb fun iQ jd =>
  aH iQ (
    af c .move [x7] jd fun gm jv =>
    af c .move [x9] jv fun iR mJ =>
    af c .move [gm] mJ fun x2 mb =>
    af c .move [iR] mb fun x3 mK =>
    k1 [x2, x3] mK) (
    af c .move [x7] jd fun eT nH =>
  af c (.bin .eql .num) [eT, (.int .i64 64)] nH fun jD mL =>
  aH jD (
    af c .move [x7] mL fun jw jZ =>
    af c .move [jw] jZ fun x2 nI =>
    af c .move [(.int .i64 7)] nI fun x3 nh =>
    k1 [x2, x3] nh) (
    af c (.bin .add .num) [cS, (.int .i64 1)] mL fun gQ ni =>
  af c .move [gQ] ni fun cS nJ =>
  CD c F k1 k2 n [x1, x6, dw, cD, cS] nJ))) (
    k2 [] dF))
def DZ (c : ai) (F : Nat) : Env (AV × St) := gM [(0, fun K n => CD c F (K 1) (K 2) n)]
theorem Kj (c : ai) (F : Nat) : bK c F (DZ c F) (cK ya yb 0).1 (cK ya yb 0).2 := dG (j := 0) (ins := [(.o .h), (.i (.i .h)), (.o (.i (.i (.o .h)))), (.i (.i (.i (.o .h)))), (.o (.o (.o (.i .h))))]) (outs := [(1, [(.i .h), (.o (.o .h))]), (2, [])]) (s := (.seq none .leaf (.seq none (.cond .leaf .leaf) (.seq none (.block (.seq none .leaf (.seq none (.seq none .leaf (.seq none .leaf (.cond (.seq none .leaf .leaf) .leaf))) (.seq none .leaf (.cond (.seq none .leaf .leaf) .leaf))))) .leaf)))) (by kernel_rfl) (fun _ _ _ => by kernel_rfl) (fun _ _ _ _ => by kernel_rfl)
theorem aax (c : ai) (F : Nat) : ∀ x ∈ bM ya.code yb, bK c F (DZ c F) x.1 x.2 := dA 1 (by kernel_rfl) fun i hi => match i, hi with | 0, _ => Kj c F | n + 1, h => absurd h (by omega)
def qA : aK := g36.getD default
def tR : Sh := (.seq none .leaf (.seq none (.seq none .leaf (.seq none .leaf (.cond (.seq none .leaf .leaf) .leaf))) (.seq none (.seq none .leaf (.seq none .leaf (.cond (.seq none .leaf .leaf) .leaf))) (.seq none (.seq none .leaf (.cond (.seq none .leaf .leaf) .leaf)) (.seq none (.seq none .leaf (.block (.loop 0 [(.o .h), (.o (.o (.o (.o (.i .h))))), (.i (.o (.o (.o (.i .h))))), (.o (.i (.o (.o (.i .h)))))] [(1, [(.i .h), (.o (.o .h))]), (2, [(.o .h)])] (.seq none .leaf (.seq none (.cond .leaf .leaf) (.seq none (.block (.seq none .leaf (.seq none .leaf (.cond (.seq none .leaf .leaf) .leaf)))) .leaf)))))) (.seq none (.seq none .leaf (.cond (.seq none .leaf .leaf) .leaf)) (.seq none .leaf .leaf)))))))
def kC (c : ai) (F : Nat) (k1 k2 : List AV -> St -> Option (AV × St)) : Nat -> List AV -> St -> Option (AV × St)
  | 0, _, _ => none
  | n + 1, vs, s => az vs fun x1 vs => az vs fun fM vs => az vs fun ij vs => az vs fun gI vs => bC vs (
  af c (.bin .lss .num) [gI, ij] s fun mM n8 =>
  aH mM (
    af c (.idxA 1 none) [fM, gI] n8 fun kG jQ =>
  af c (.load none) [kG] jQ fun kj nK =>
  af c .move [kj] nK fun x9 nL =>
  af c .move [x9] nL fun jO oQ =>
  af c (.bin .lss .num) [jO, (.int .i64 0)] oQ fun iT oa =>
  af c .move [iT] oa fun lV qv =>
  aj c lV false .move [x9] qv fun ko oT =>
  aj c lV false (.bin .geq .num) [ko, (.int .i64 64)] oT fun jP pS =>
  af c .pick [lV, (.bool true), jP] pS fun oP ob =>
  aH oP (
    af c .move [(.int .i64 0)] ob fun x2 ry =>
    af c .move [(.int .i64 44)] ry fun x3 pT =>
    k1 [x2, x3] pT) (
    af c (.bin .add .num) [gI, (.int .i64 1)] ob fun j0 pU =>
  af c .move [j0] pU fun gI qR =>
  kC c F k1 k2 n [x1, fM, ij, gI] qR)) (
    k2 [x1] n8))
def BR (c : ai) (F : Nat) (x0 : AV) (s : St) : Option (AV × St) :=
  af c .box [x0] s fun x1 s0 =>
  af c .move [(.int .i64 0)] s0 fun x2 s1 =>
  af c .move [(.int .i64 0)] s1 fun x3 s2 =>
  af c (.fieldA 0) [x1] s2 fun aP s3 =>
  af c (.load none) [aP] s3 fun aR s4 =>
  af c (.callF 99) [aR] s4 fun aV s5 =>
  af c .move [aV] s5 fun aJ s6 =>
  af c (.extract 0) [aJ] s6 fun aS s7 =>
  af c (.extract 1) [aJ] s7 fun aZ s8 =>
  af c .move [aS] s8 fun x4 s9 =>
  af c .move [aZ] s9 fun x5 bk =>
  af c .move [x5] bk fun aT bu =>
  af c (.bin .neq .num) [aT, (.int .i64 0)] bu fun aW bt =>
  aH aW (
    af c .move [x4] bt fun bH bA =>
    af c .move [x5] bA fun bF bP =>
    af c .move [bH] bP fun x2 bV =>
    af c .move [bF] bV fun x3 b9 =>
    some (.tuple [x2, x3], b9)) (
    af c (.fieldA 1) [x1] bt fun dw bX =>
  af c (.load none) [dw] bX fun cD ck =>
  af c (.fieldA 2) [x1] ck fun cS cj =>
  af c (.load none) [cS] cj fun dW c9 =>
  af c (.build [.av, .av] [(0, 1), (1, 1)]) [cD, dW] c9 fun dD dS =>
  af c (.callF 100) [dD] dS fun eO dF =>
  af c .move [eO] dF fun cR ey =>
  af c (.extract 0) [cR] ey fun eP eA =>
  af c (.extract 1) [cR] eA fun fL dI =>
  af c .move [eP] dI fun x6 eR =>
  af c .move [fL] eR fun x7 eB =>
  af c .move [x7] eB fun fX e9 =>
  af c (.bin .neq .num) [fX, (.int .i64 0)] e9 fun cT eS =>
  aH cT (
    af c .move [x6] eS fun dL eN =>
    af c .move [x7] eN fun b8 fo =>
    af c .move [dL] fo fun x2 gP =>
    af c .move [b8] gP fun x3 gB =>
    some (.tuple [x2, x3], gB)) (
    af c (.fieldA 3) [x1] eS fun iL gq =>
  af c (.load none) [iL] gq fun gH gu =>
  af c (.lenB .l) [gH] gu fun fc iO =>
  af c (.bin .gtr .num) [fc, (.int .i64 0)] iO fun iQ jb =>
  af c .move [iQ] jb fun gm jd =>
  aj c gm true (.fieldA 3) [x1] jd fun iR jv =>
  aj c gm true (.load none) [iR] jv fun eT mJ =>
  aj c gm true (.lenB .l) [eT] mJ fun jD mb =>
  aj c gm true (.fieldA 1) [x1] mb fun jw mK =>
  aj c gm true (.load none) [jw] mK fun gQ nH =>
  aj c gm true (.lenB .l) [gQ] nH fun jE mL =>
  aj c gm true (.bin .neq .num) [jD, jE] mL fun ki jZ =>
  af c .pick [gm, ki, (.bool false)] jZ fun iM nI =>
  aH iM (
    af c .move [(.int .i64 0)] nI fun x2 nh =>
    af c .move [(.int .i64 44)] nh fun x3 ni =>
    some (.tuple [x2, x3], ni)) (
    af c (.fieldA 3) [x1] nI fun lU nJ =>
  af c (.load none) [lU] nJ fun fM n4 =>
  af c (.lenB .l) [fM] n4 fun ij oO =>
  af c .move [(.int .i64 0)] oO fun gI n6 =>
  kC c F (fun vs rA => az vs fun x2 vs => az vs fun x3 vs => bC vs (
    some (.tuple [x2, x3], rA))) (fun vs oc => az vs fun x1 vs => bC vs (
    aB (.fieldA 0) [x1] fun mN =>
  eF (.load none) [mN] oc.heap (fun _ => true) fun qw =>
  af c (.callF 68) [qw] oc fun mg rB =>
  aB (.fieldA 1) [x1] fun n9 =>
  eF (.load none) [n9] rB.heap (fun v => fP (.load none) [n9] v (fN [] oc.heap) && true) fun oR =>
  aB (.lenB .l) [oR] fun lq =>
  aB (.bin .gtr .num) [lq, mg] fun ru =>
  aH ru (
    af c .move [(.int .i64 0)] rB fun x2 tM =>
    af c .move [(.int .i64 45)] tM fun x3 tN =>
    some (.tuple [x2, x3], tN)) (
    af c .move [(.int .i64 0)] rB fun x2 oU =>
  af c .move [(.int .i64 0)] oU fun x3 qP =>
  some (.tuple [x2, x3], qP)))) F [x1, fM, ij, gI] n6)))
def yc (c : ai) (F : Nat) : Env (AV × St) := gM [(0, fun K n => kC c F (K 1) (K 2) n)]
theorem Kk (c : ai) (F : Nat) : bK c F (yc c F) (cK qA tR 0).1 (cK qA tR 0).2 := dG (j := 0) (ins := [(.o .h), (.o (.o (.o (.o (.i .h))))), (.i (.o (.o (.o (.i .h))))), (.o (.i (.o (.o (.i .h)))))]) (outs := [(1, [(.i .h), (.o (.o .h))]), (2, [(.o .h)])]) (s := (.seq none .leaf (.seq none (.cond .leaf .leaf) (.seq none (.block (.seq none .leaf (.seq none .leaf (.cond (.seq none .leaf .leaf) .leaf)))) .leaf)))) (by kernel_rfl) (fun _ _ _ => by kernel_rfl) (fun _ _ _ _ => by kernel_rfl)
theorem MQ (c : ai) (F : Nat) : ∀ x ∈ bM qA.code tR, bK c F (yc c F) x.1 x.2 := dA 1 (by kernel_rfl) fun i hi => match i, hi with | 0, _ => Kk c F | n + 1, h => absurd h (by omega)
theorem MR (c : ai) (F : Nat) (x0 : AV) (s : St) : jJ c F (yc c F) qA tR [x0] s = BR c F x0 s := by kernel_rfl
theorem IU {c : ai} (hc : Sem c) (F : Nat){x0 : AV} {s : St} {r : AV × St} (h : BR c F x0 s = some r) : c 36 [x0] s = some (tidy s r) := hc.of (A := qA) (by kernel_rfl) (by kernel_rfl) (MQ _ F) (by rw [MR]; exact h)
def HP (c : ai) (F : Nat) (s : St) : Option (AV × St) :=
  af c .move [.iy] s fun x0 s0 =>
  af c .mkMap [] s0 fun x1 s1 =>
  af c (.build [(.str []), (.int .u8 0), (.bool false), (.int .u8 0), (.bool false), (.int .i64 0), (.bool false), .aq] [(0, 1), (1, 1), (2, 1), (4, 1), (7, 1)]) [(.str [97, 112, 97, 114, 116]), (.int .u8 103), (.bool true), (.bool true), (.func 101 [] [])] s1 fun x2 s2 =>
  af c (.mapSet .i) [x1, (.int .u8 1), x2] s2 fun _ s3 =>
  af c (.build [(.str []), (.int .u8 0), (.bool false), (.int .u8 0), (.bool false), (.int .i64 0), (.bool false), .aq] [(0, 1), (1, 1), (2, 1), (7, 1)]) [(.str [98, 101, 115, 105, 100, 101]), (.int .u8 103), (.bool true), (.func 102 [] [])] s3 fun x3 s4 =>
  af c (.mapSet .i) [x1, (.int .u8 2), x3] s4 fun _ s5 =>
  af c (.build [(.str []), (.int .u8 0), (.bool false), (.int .u8 0), (.bool false), (.int .i64 0), (.bool false), .aq] [(0, 1), (1, 1), (2, 1), (7, 1)]) [(.str [97, 99, 114, 111, 115, 115]), (.int .u8 103), (.bool true), (.func 103 [] [])] s5 fun x4 s6 =>
  af c (.mapSet .i) [x1, (.int .u8 3), x4] s6 fun _ s7 =>
  af c (.build [(.str []), (.int .u8 0), (.bool false), (.int .u8 0), (.bool false), (.int .i64 0), (.bool false), .aq] [(0, 1), (1, 1), (2, 1), (4, 1), (5, 1), (7, 1)]) [(.str [110, 101, 97, 114]), (.int .u8 103), (.bool true), (.bool true), (.int .i64 1), (.func 104 [] [])] s7 fun x5 s8 =>
  af c (.mapSet .i) [x1, (.int .u8 4), x5] s8 fun _ s9 =>
  af c (.build [(.str []), (.int .u8 0), (.bool false), (.int .u8 0), (.bool false), (.int .i64 0), (.bool false), .aq] [(0, 1), (1, 1), (2, 1), (7, 1)]) [(.str [116, 111, 103, 101, 116, 104, 101, 114]), (.int .u8 103), (.bool true), (.func 105 [] [])] s9 fun x6 bk =>
  af c (.mapSet .i) [x1, (.int .u8 5), x6] bk fun _ bu =>
  af c (.build [(.str []), (.int .u8 0), (.bool false), (.int .u8 0), (.bool false), (.int .i64 0), (.bool false), .aq] [(0, 1), (1, 1), (3, 1), (7, 1)]) [(.str [97, 116]), (.int .u8 103), (.int .u8 116), (.func 106 [] [])] bu fun x7 bt =>
  af c (.mapSet .i) [x1, (.int .u8 6), x7] bt fun _ bA =>
  af c (.build [(.str []), (.int .u8 0), (.bool false), (.int .u8 0), (.bool false), (.int .i64 0), (.bool false), .aq] [(0, 1), (1, 1), (3, 1), (4, 1), (6, 1), (7, 1)]) [(.str [115, 101, 97, 116]), (.int .u8 103), (.int .u8 116), (.bool true), (.bool true), (.func 107 [] [])] bA fun x8 bP =>
  af c (.mapSet .i) [x1, (.int .u8 7), x8] bP fun _ bV =>
  af c (.build [(.str []), (.int .u8 0), (.bool false), (.int .u8 0), (.bool false), (.int .i64 0), (.bool false), .aq] [(0, 1), (3, 1), (7, 1)]) [(.str [97, 108, 116, 101, 114, 110, 97, 116, 101]), (.int .u8 101), (.func 108 [] [])] bV fun x9 b9 =>
  af c (.mapSet .i) [x1, (.int .u8 8), x9] b9 fun _ bX =>
  af c (.build [(.str []), (.int .u8 0), (.bool false), (.int .u8 0), (.bool false), (.int .i64 0), (.bool false), .aq] [(0, 1), (3, 1), (7, 1)]) [(.str [104, 111, 115, 116]), (.int .u8 101), (.func 109 [] [])] bX fun aJ ck =>
  af c (.mapSet .i) [x1, (.int .u8 9), aJ] ck fun _ cj =>
  af c (.build [(.str []), (.int .u8 0), (.bool false), (.int .u8 0), (.bool false), (.int .i64 0), (.bool false), .aq] [(0, 1), (1, 1), (7, 1)]) [(.str [114, 101, 97, 99, 104]), (.int .u8 101), (.func 110 [] [])] cj fun aP c9 =>
  af c (.mapSet .i) [x1, (.int .u8 10), aP] c9 fun _ dS =>
  af c (.build [(.str []), (.int .u8 0), (.bool false), (.int .u8 0), (.bool false), (.int .i64 0), (.bool false), .aq] [(0, 1), (3, 1), (7, 1)]) [(.str [115, 112, 101, 97, 107]), (.int .u8 101), (.func 111 [] [])] dS fun aR dF =>
  af c (.mapSet .i) [x1, (.int .u8 11), aR] dF fun _ ey =>
  af c (.build [(.str []), (.int .u8 0), (.bool false), (.int .u8 0), (.bool false), (.int .i64 0), (.bool false), .aq] [(0, 1), (3, 1), (7, 1)]) [(.str [112, 101, 97, 99, 101]), (.int .u8 101), (.func 112 [] [])] ey fun aV eA =>
  af c (.mapSet .i) [x1, (.int .u8 12), aV] eA fun _ dI =>
  af c (.build [(.str []), (.int .u8 0), (.bool false), (.int .u8 0), (.bool false), (.int .i64 0), (.bool false), .aq] [(0, 1), (3, 1), (7, 1)]) [(.str [99, 111, 109, 112, 97, 110, 121]), (.int .u8 101), (.func 113 [] [])] dI fun aS eR =>
  af c (.mapSet .i) [x1, (.int .u8 13), aS] eR fun _ eB =>
  af c (.build [(.str []), (.int .u8 0), (.bool false), (.int .u8 0), (.bool false), (.int .i64 0), (.bool false), .aq] [(0, 1), (3, 1), (7, 1)]) [(.str [104, 111, 110, 111, 117, 114]), (.int .u8 101), (.func 114 [] [])] eB fun aZ e9 =>
  af c (.mapSet .i) [x1, (.int .u8 14), aZ] e9 fun _ eS =>
  af c (.build [(.str []), (.int .u8 0), (.bool false), (.int .u8 0), (.bool false), (.int .i64 0), (.bool false), .aq] [(0, 1), (3, 1), (4, 1), (7, 1)]) [(.str [102, 105, 108, 108]), (.int .u8 101), (.bool true), (.func 115 [] [])] eS fun aT eN =>
  af c (.mapSet .i) [x1, (.int .u8 15), aT] eN fun _ fo =>
  af c (.build [(.str []), (.int .u8 0), (.bool false), (.int .u8 0), (.bool false), (.int .i64 0), (.bool false), .aq] [(0, 1), (3, 1), (4, 1), (7, 1)]) [(.str [108, 105, 109, 105, 116]), (.int .u8 101), (.bool true), (.func 116 [] [])] fo fun aW gP =>
  af c (.mapSet .i) [x1, (.int .u8 16), aW] gP fun _ gB =>
  af c (.build [(.str []), (.int .u8 0), (.bool false), (.int .u8 0), (.bool false), (.int .i64 0), (.bool false), .aq] [(0, 1), (1, 1), (3, 1), (7, 1)]) [(.str [107, 105, 116, 99, 104, 101, 110]), (.int .u8 100), (.int .u8 116), (.func 117 [] [])] gB fun bH gq =>
  af c (.mapSet .i) [x1, (.int .u8 17), bH] gq fun _ gu =>
  af c (.build [(.str []), (.int .u8 0), (.bool false), (.int .u8 0), (.bool false), (.int .i64 0), (.bool false), .aq] [(0, 1), (3, 1), (7, 1)]) [(.str [109, 105, 120]), (.int .u8 101), (.func 118 [] [])] gu fun bF iO =>
  af c (.mapSet .i) [x1, (.int .u8 18), bF] iO fun _ jb =>
  af c .move [x1] jb fun cR jd =>
  af c .move [cR] jd fun x0 jv =>
  some (x0, jv)
theorem IW {c : ai} (hc : Sem c) (F : Nat){x : AV} {s : St} {r : AV × St} (h : HP c F s = some r) : c 37 [] s = some (tidy s r) := hc.gR (A := g37.getD default) (F := F) (s := (.seq none .leaf (.seq none .leaf .leaf))) (by kernel_rfl) (by kernel_rfl) (by kernel_rfl) (by kernel_rfl) h
def zi (c : ai) (F : Nat) (x0 x1 x2 : AV) (s : St) : Option (AV × St) :=
  af c .box [x0] s fun x3 s0 =>
  af c .box [x1] s0 fun x4 s1 =>
  af c .box [x2] s1 fun x5 s2 =>
  af c .move [(.int .i64 0)] s2 fun x6 s3 =>
  yX (fun j4 =>
    af c (.fieldA 0) [x3] s3 fun aP s6 =>
    af c (.load none) [aP] s6 fun aR s7 =>
    af c (.bin .eql .num) [aR, (.str [])] s7 fun aV s8 =>
    af c .move [aV] s8 fun aJ s9 =>
    aH aJ (
      af c .move [(.int .i64 40)] s9 fun x6 bk =>
      some (x6, bk)) (
      af c (.fieldA 1) [x5] s9 fun aZ bu =>
      af c (.load none) [aZ] bu fun aT bt =>
      af c (.bin .lss .num) [aT, (.int .i64 0)] bt fun aW bA =>
      af c .move [aW] bA fun bH bP =>
      aj c bH false (.fieldA 1) [x5] bP fun bF bV =>
      aj c bH false (.load none) [bF] bV fun cR b9 =>
      aj c bH false (.bin .gtr .num) [cR, (.int .i64 1000)] b9 fun dw bX =>
      af c .pick [bH, (.bool true), dw] bX fun cD ck =>
      af c .move [cD] ck fun aS cj =>
      aH aS (
        af c .move [(.int .i64 41)] cj fun x6 c9 =>
        some (x6, c9)) (
        af c (.load (some 8)) [x3] cj fun dW dS =>
        af c (.load (some 6)) [x5] dS fun dD dF =>
        af c (.callF 119) [dW, dD] dF fun eO ey =>
        af c (.un .not) [eO] ey fun eP eA =>
        af c .move [eP] eA fun cS dI =>
        aH cS (
          af c .move [(.int .i64 43)] dI fun x6 eR =>
          some (x6, eR)) (
          yX (fun j27 =>
            af c (.fieldA 1) [x3] dI fun fX eS =>
            af c (.load none) [fX] eS fun cT eN =>
            af c (.bin .eql .num) [cT, (.int .u8 103)] eN fun dL fo =>
            af c .move [dL] fo fun b8 gP =>
            aj c b8 true (.load (some 5)) [x4] gP fun iL gB =>
            aj c b8 true (.fieldA 2) [x5] gB fun gH gq =>
            aj c b8 true (.load none) [gH] gq fun fc gu =>
            aj c b8 true (.callF 120) [iL, fc] gu fun iQ iO =>
            aj c b8 true (.bin .lss .num) [iQ, (.int .i64 0)] iO fun gm jb =>
            af c .pick [b8, gm, (.bool false)] jb fun iR jd =>
            af c .move [iR] jd fun fL jv =>
            aH fL (
              j27 [x3, x4, x5, fL] jv) (
              af c (.fieldA 1) [x3] jv fun eT mJ =>
              af c (.load none) [eT] mJ fun jD mb =>
              af c (.bin .eql .num) [jD, (.int .u8 101)] mb fun jw mK =>
              af c .move [jw] mK fun gQ nH =>
              aj c gQ true (.fieldA 2) [x5] nH fun jE mL =>
              aj c gQ true (.load none) [jE] mL fun ki jZ =>
              aj c gQ true (.bin .neq .num) [ki, (.str [])] jZ fun iM nI =>
              af c .pick [gQ, iM, (.bool false)] nI fun lU nh =>
              af c .move [lU] nh fun fM ni =>
              aj c fM true (.load (some 5)) [x4] ni fun ij nJ =>
              aj c fM true (.fieldA 2) [x5] nJ fun gI n4 =>
              aj c fM true (.load none) [gI] n4 fun mM oO =>
              aj c fM true (.callF 120) [ij, mM] oO fun kG n6 =>
              aj c fM true (.bin .lss .num) [kG, (.int .i64 0)] n6 fun kj n8 =>
              af c .pick [fM, kj, (.bool false)] n8 fun jO jQ =>
              af c .move [jO] jQ fun fL nK =>
              aH fL (
                j27 [x3, x4, x5, fL] nK) (
                af c (.fieldA 2) [x3] nK fun iT nL =>
                af c (.load none) [iT] nL fun lV oQ =>
                af c .move [lV] oQ fun ko oa =>
                aj c ko true (.load (some 5)) [x4] oa fun jP qv =>
                aj c ko true (.fieldA 3) [x5] qv fun oP oT =>
                aj c ko true (.load none) [oP] oT fun j0 pS =>
                aj c ko true (.callF 120) [jP, j0] pS fun n9 ob =>
                aj c ko true (.bin .lss .num) [n9, (.int .i64 0)] ob fun oR ry =>
                af c .pick [ko, oR, (.bool false)] ry fun lq pT =>
                af c .move [lq] pT fun fL pU =>
                j27 [x3, x4, x5, fL] pU)))
          (fun vs e9 => az vs fun x3 vs => az vs fun x4 vs => az vs fun x5 vs => az vs fun fL vs => bC vs (
            aH fL (
              af c .move [(.int .i64 6)] e9 fun x6 qR =>
              some (x6, qR)) (
              af c (.fieldA 1) [x3] e9 fun qw rA =>
              af c (.load none) [qw] rA fun mg oc =>
              af c (.bin .eql .num) [mg, (.int .u8 100)] oc fun ru rB =>
              af c .move [ru] rB fun mO tM =>
              aj c mO true (.fieldA 2) [x5] tM fun tJ tN =>
              aj c mO true (.load none) [tJ] tN fun tK oU =>
              aj c mO true (.callF 121) [tK] oU fun tL qP =>
              aj c mO true (.un .not) [tL] qP fun qx qQ =>
              af c .pick [mO, qx, (.bool false)] qQ fun vI tO =>
              af c .move [vI] tO fun mN rD =>
              aH mN (
                af c .move [(.int .i64 4)] rD fun x6 xT =>
                some (x6, xT)) (
                af c (.fieldA 2) [x3] rD fun mI wm =>
                af c (.load none) [mI] wm fun oV At =>
                af c .move [oV] At fun sJ tI =>
                aj c sJ true (.fieldA 2) [x5] tI fun rC uo =>
                aj c sJ true (.load none) [rC] uo fun tP xN =>
                aj c sJ true (.fieldA 3) [x5] xN fun DN xO =>
                aj c sJ true (.load none) [DN] xO fun xU xP =>
                aj c sJ true (.bin .eql .num) [tP, xU] xP fun DO Ap =>
                af c .pick [sJ, DO, (.bool false)] Ap fun E5 Mj =>
                af c .move [E5] Mj fun vJ JK =>
                aH vJ (
                  af c .move [(.int .i64 5)] JK fun x6 Mk =>
                  some (x6, Mk)) (
                  j4 [x3, x4, x5] JK)))))))))
  (fun vs s5 => az vs fun x3 vs => az vs fun x4 vs => az vs fun x5 vs => bC vs (
    af c (.fieldA 0) [x4] s5 fun DP Ml =>
    af c (.load none) [DP] Ml fun qy JL =>
    af c (.fieldA 4) [x5] JL fun Au Rz =>
    af c (.load none) [Au] Rz fun Av JM =>
    af c (.callF 122) [qy, Av] JM fun CB Mm =>
    af c .move [CB] Mm fun pV Mn =>
    af c (.extract 0) [pV] Mn fun Aw Mo =>
    af c (.extract 1) [pV] Mo fun Ay Mp =>
    af c .move [Aw] Mp fun x7 Mq =>
    af c .move [Ay] Mq fun x8 Mr =>
    af c (.fieldA 3) [x3] Mr fun Az Ms =>
    af c (.load none) [Az] Ms fun AA FI =>
    af c (.bin .eql .num) [AA, (.int .u8 116)] FI fun CC DS =>
    af c .move [CC] DS fun xV MS =>
    aj c xV true .move [x8] MS fun j5 FJ =>
    aj c xV true (.un .not) [j5] FJ fun DQ FK =>
    af c .pick [xV, DQ, (.bool false)] FK fun DR FL =>
    af c .move [DR] FL fun wo FM =>
    aj c wo false (.fieldA 3) [x3] FM fun HX FN =>
    aj c wo false (.load none) [HX] FN fun BX FO =>
    aj c wo false (.bin .eql .num) [BX, (.int .u8 101)] FO fun BZ FP =>
    aj c wo false .move [BZ] FP fun vT DT =>
    aj c vT true (.fieldA 4) [x5] DT fun B3 MT =>
    aj c vT true (.load none) [B3] MT fun B4 FQ =>
    aj c vT true (.bin .neq .num) [B4, (.str [])] FQ fun qz FR =>
    aj c wo false .pick [vT, qz, (.bool false)] FR fun iC FT =>
    aj c wo false .move [iC] FT fun xW uL =>
    aj c xW true .move [x8] uL fun B5 FU =>
    aj c xW true (.un .not) [B5] FU fun B6 FV =>
    aj c wo false .pick [xW, B6, (.bool false)] FV fun B7 FW =>
    af c .pick [wo, (.bool true), B7] FW fun B8 Cb =>
    aH B8 (
      af c .move [(.int .i64 6)] Cb fun x6 DU =>
      some (x6, DU)) (
      af c .move [(.int .i64 24)] Cb fun x9 MU =>
    yX (fun j122 =>
      af c (.fieldA 6) [x3] MU fun B9 DV =>
      af c (.load none) [B9] DV fun oA DW =>
      aH oA (
        af c (.fieldA 0) [x4] DW fun Ca FY =>
        af c (.load none) [Ca] FY fun uM FZ =>
        af c .move [x7] FZ fun uN F0 =>
        af c .move [x7] F0 fun uO F1 =>
        af c (.bin .add .num) [uO, (.int .i64 1)] F1 fun uP F2 =>
        af c (.sliceL 7 true true false) [uM, uN, uP] F2 fun uQ F3 =>
        af c (.callF 68) [uQ] F3 fun uR F4 =>
        af c (.bin .sub .num) [uR, (.int .i64 1)] F4 fun Mu F5 =>
        af c .move [Mu] F5 fun x9 F6 =>
        j122 [x3, x5, x9] F6) (
        j122 [x3, x5, x9] DW))
    (fun vs FX => az vs fun x3 vs => az vs fun x5 vs => az vs fun x9 vs => bC vs (
      af c (.fieldA 4) [x3] FX fun Mv DX =>
      af c (.load none) [Mv] DX fun Mw F7 =>
      af c .move [Mw] F7 fun vU F8 =>
      aj c vU true (.fieldA 5) [x5] F8 fun Mx F9 =>
      aj c vU true (.load none) [Mx] F9 fun My Ga =>
      aj c vU true (.fieldA 5) [x3] Ga fun Mz Gb =>
      aj c vU true (.load none) [Mz] Gb fun Cc Gc =>
      aj c vU true (.bin .lss .num) [My, Cc] Gc fun MA BH =>
      aj c vU true .move [MA] BH fun Cd BI =>
      aj c Cd false (.fieldA 5) [x5] BI fun MB BJ =>
      aj c Cd false (.load none) [MB] BJ fun oB BK =>
      aj c Cd false .move [x9] BK fun MC MF =>
      aj c Cd false (.bin .gtr .num) [oB, MC] MF fun MD MG =>
      aj c vU true .pick [Cd, (.bool true), MD] MG fun ME IX =>
      af c .pick [vU, ME, (.bool false)] IX fun xX PX =>
      aH xX (
        af c .move [(.int .i64 42)] PX fun x6 MH =>
        some (x6, MH)) (
        af c .move [(.int .i64 0)] PX fun x6 MI =>
      some (x6, MI)))))))
theorem CP {c : ai} (hc : Sem c) (F : Nat){x0 x1 x2 : AV} {s : St} {r : AV × St} (h : zi c F x0 x1 x2 s = some r) : c 38 [x0, x1, x2] s = some (tidy s r) := hc.gR (A := g38.getD default) (F := F) (s := (.seq none .leaf (.seq (some [(.o (.o .h)), (.i (.o .h)), (.o (.i .h))]) (.block (.seq none .leaf (.cond (.seq none .leaf .leaf) (.seq none .leaf (.cond (.seq none .leaf .leaf) (.seq none .leaf (.cond (.seq none .leaf .leaf) (.seq (some [(.o (.o .h)), (.i (.o .h)), (.o (.i .h)), (.i (.o (.i (.i .h))))]) (.seq none .leaf (.cond .leaf (.seq none .leaf (.cond .leaf .leaf)))) (.cond (.seq none .leaf .leaf) (.seq none .leaf (.cond (.seq none .leaf .leaf) (.seq none .leaf (.cond (.seq none .leaf .leaf) .leaf))))))))))))) (.seq none .leaf (.seq none (.seq none .leaf (.cond (.seq none .leaf .leaf) .leaf)) (.seq none .leaf (.seq (some [(.o (.o .h)), (.o (.i .h)), (.o (.i (.o .h)))]) (.seq none .leaf (.cond .leaf .leaf)) (.seq none (.seq none .leaf (.cond (.seq none .leaf .leaf) .leaf)) (.seq none .leaf .leaf))))))))) (by kernel_rfl) (by kernel_rfl) (by kernel_rfl) (by kernel_rfl) h
def jg : aK := g39.getD default
def kR : Sh := (.seq none .leaf (.seq none .leaf (.seq none (.seq none .leaf (.cond (.seq none .leaf .leaf) .leaf)) (.seq none .leaf (.seq none (.seq none .leaf (.cond (.seq none .leaf .leaf) .leaf)) (.seq none (.seq none .leaf (.cond (.seq none .leaf .leaf) .leaf)) (.seq none (.seq none .leaf (.block (.loop 0 [(.o .h), (.o (.o (.o .h)))] [(1, [(.i .h), (.o (.o .h))]), (2, [(.o .h)])] (.seq none (.seq none .leaf (.cond .leaf .leaf)) (.seq none (.block (.seq none .leaf (.cond (.seq none .leaf .leaf) .leaf))) .leaf))))) (.seq none (.seq none .leaf (.cond (.seq none .leaf .leaf) .leaf)) (.seq none .leaf .leaf)))))))))
def eZ (c : ai) (F : Nat) (k1 k2 : List AV -> St -> Option (AV × St)) : Nat -> List AV -> St -> Option (AV × St)
  | 0, _, _ => none
  | n + 1, vs, s => az vs fun x1 vs => az vs fun x7 vs => bC vs (
  af c .move [x7] s fun ki n4 =>
  af c (.fieldA 3) [x1] n4 fun iM oO =>
  af c (.load none) [iM] oO fun lU n6 =>
  af c (.lenB .l) [lU] n6 fun fM n8 =>
  af c (.bin .lss .num) [ki, fM] n8 fun ij jQ =>
  aH ij (
    af c (.fieldA 3) [x1] jQ fun kG nK =>
  af c (.load none) [kG] nK fun kj nL =>
  af c .move [x7] nL fun jO oQ =>
  af c (.idxA 1 none) [kj, jO] oQ fun iT oa =>
  af c (.load none) [iT] oa fun lV qv =>
  af c (.bin .lss .num) [lV, (.int .i64 0)] qv fun ko oT =>
  af c .move [ko] oT fun jP pS =>
  aj c jP false (.fieldA 3) [x1] pS fun oP ob =>
  aj c jP false (.load none) [oP] ob fun j0 ry =>
  aj c jP false .move [x7] ry fun n9 pT =>
  aj c jP false (.idxA 1 none) [j0, n9] pT fun oR pU =>
  aj c jP false (.load none) [oR] pU fun lq qR =>
  aj c jP false (.bin .geq .num) [lq, (.int .i64 64)] qR fun mN rA =>
  af c .pick [jP, (.bool true), mN] rA fun qw oc =>
  aH qw (
    af c .move [(.int .i64 0)] oc fun x2 rB =>
    af c .move [(.int .i64 44)] rB fun x3 tM =>
    k1 [x2, x3] tM) (
    af c .move [x7] oc fun gI tN =>
  af c (.bin .add .num) [gI, (.int .i64 1)] tN fun mM oU =>
  af c .move [mM] oU fun x7 qP =>
  eZ c F k1 k2 n [x1, x7] qP)) (
    k2 [x1] jQ))
def qt (c : ai) (F : Nat) (x0 : AV) (s : St) : Option (AV × St) :=
  af c .box [x0] s fun x1 s0 =>
  af c .move [(.int .i64 0)] s0 fun x2 s1 =>
  af c .move [(.int .i64 0)] s1 fun x3 s2 =>
  af c (.fieldA 0) [x1] s2 fun x9 s3 =>
  af c (.load none) [x9] s3 fun aJ s4 =>
  af c (.callF 123) [aJ] s4 fun aP s5 =>
  af c .move [aP] s5 fun x8 s6 =>
  af c (.extract 0) [x8] s6 fun aR s7 =>
  af c (.extract 1) [x8] s7 fun aV s8 =>
  af c .move [aR] s8 fun x4 s9 =>
  af c .move [aV] s9 fun x5 bk =>
  af c .move [x5] bk fun aS bu =>
  af c (.bin .neq .num) [aS, (.int .i64 0)] bu fun aZ bt =>
  aH aZ (
    af c .move [x4] bt fun aT bA =>
    af c .move [x5] bA fun aW bP =>
    af c .move [aT] bP fun x2 bV =>
    af c .move [aW] bV fun x3 b9 =>
    some (.tuple [x2, x3], b9)) (
    af c (.fieldA 1) [x1] bt fun bF bX =>
  af c (.load none) [bF] bX fun cR ck =>
  af c (.fieldA 2) [x1] ck fun dw cj =>
  af c (.load none) [dw] cj fun cD c9 =>
  af c (.build [.av, .av] [(0, 1), (1, 1)]) [cR, cD] c9 fun cS dS =>
  af c (.callF 124) [cS] dS fun dW dF =>
  af c .move [dW] dF fun bH ey =>
  af c (.extract 0) [bH] ey fun dD eA =>
  af c (.extract 1) [bH] eA fun eO dI =>
  af c .move [dD] dI fun x4 eR =>
  af c .move [eO] eR fun x6 eB =>
  af c .move [x6] eB fun eP e9 =>
  af c (.bin .neq .num) [eP, (.int .i64 0)] e9 fun fL eS =>
  aH fL (
    af c .move [x4] eS fun fX eN =>
    af c .move [x6] eN fun cT fo =>
    af c .move [fX] fo fun x2 gP =>
    af c .move [cT] gP fun x3 gB =>
    some (.tuple [x2, x3], gB)) (
    af c (.fieldA 3) [x1] eS fun dL gq =>
  af c (.load none) [dL] gq fun b8 gu =>
  af c (.lenB .l) [b8] gu fun iL iO =>
  af c (.bin .neq .num) [iL, (.int .i64 0)] iO fun gH jb =>
  af c .move [gH] jb fun fc jd =>
  aj c fc true (.fieldA 3) [x1] jd fun iQ jv =>
  aj c fc true (.load none) [iQ] jv fun gm mJ =>
  aj c fc true (.lenB .l) [gm] mJ fun iR mb =>
  aj c fc true (.fieldA 1) [x1] mb fun eT mK =>
  aj c fc true (.load none) [eT] mK fun jD nH =>
  aj c fc true (.lenB .l) [jD] nH fun jw mL =>
  aj c fc true (.bin .neq .num) [iR, jw] mL fun gQ jZ =>
  af c .pick [fc, gQ, (.bool false)] jZ fun jE nI =>
  aH jE (
    af c .move [(.int .i64 0)] nI fun x2 nh =>
    af c .move [(.int .i64 44)] nh fun x3 ni =>
    some (.tuple [x2, x3], ni)) (
    af c .move [(.int .i64 0)] nI fun x7 nJ =>
  eZ c F (fun vs qQ => az vs fun x2 vs => az vs fun x3 vs => bC vs (
    some (.tuple [x2, x3], qQ))) (fun vs tO => az vs fun x1 vs => bC vs (
    aB (.fieldA 0) [x1] fun tJ =>
  eF (.load none) [tJ] tO.heap (fun _ => true) fun tK =>
  af c (.callF 125) [tK] tO fun tL rD =>
  aB (.fieldA 1) [x1] fun mg =>
  eF (.load none) [mg] rD.heap (fun v => fP (.load none) [mg] v (fN [] tO.heap) && true) fun ru =>
  aB (.lenB .l) [ru] fun mO =>
  aB (.bin .gtr .num) [mO, tL] fun qx =>
  aH qx (
    af c .move [(.int .i64 0)] rD fun x2 xT =>
    af c .move [(.int .i64 45)] xT fun x3 wm =>
    some (.tuple [x2, x3], wm)) (
    af c .move [(.int .i64 0)] rD fun x2 At =>
  af c .move [(.int .i64 0)] At fun x3 tI =>
  some (.tuple [x2, x3], tI)))) F [x1, x7] nJ)))
def oC (c : ai) (F : Nat) : Env (AV × St) := gM [(0, fun K n => eZ c F (K 1) (K 2) n)]
theorem AE (c : ai) (F : Nat) : bK c F (oC c F) (cK jg kR 0).1 (cK jg kR 0).2 := dG (j := 0) (ins := [(.o .h), (.o (.o (.o .h)))]) (outs := [(1, [(.i .h), (.o (.o .h))]), (2, [(.o .h)])]) (s := (.seq none (.seq none .leaf (.cond .leaf .leaf)) (.seq none (.block (.seq none .leaf (.cond (.seq none .leaf .leaf) .leaf))) .leaf))) (by kernel_rfl) (fun _ _ _ => by kernel_rfl) (fun _ _ _ _ => by kernel_rfl)
theorem Ce (c : ai) (F : Nat) : ∀ x ∈ bM jg.code kR, bK c F (oC c F) x.1 x.2 := dA 1 (by kernel_rfl) fun i hi => match i, hi with | 0, _ => AE c F | n + 1, h => absurd h (by omega)
theorem Cf (c : ai) (F : Nat) (x0 : AV) (s : St) : jJ c F (oC c F) jg kR [x0] s = qt c F x0 s := by kernel_rfl
theorem zI {c : ai} (hc : Sem c) (F : Nat){x0 : AV} {s : St} {r : AV × St} (h : qt c F x0 s = some r) : c 39 [x0] s = some (tidy s r) := hc.of (A := jg) (by kernel_rfl) (by kernel_rfl) (Ce _ F) (by rw [Cf]; exact h)
def vK (c : ai) (F : Nat) (x0 x1 : AV) (s : St) : Option (AV × St) :=
  af c .box [x0] s fun x2 s0 =>
  af c .box [x1] s0 fun x3 s1 =>
  af c .move [(.int .i64 0)] s1 fun x4 s2 =>
  af c (.fieldA 0) [x3] s2 fun x9 s3 =>
  af c (.load none) [x9] s3 fun aJ s4 =>
  af c .move [aJ] s4 fun x5 s5 =>
  af c .move [x5] s5 fun aP s6 =>
  af c (.callF 87) [aP] s6 fun aR s7 =>
  af c (.bin .eql .num) [aR, (.str [])] s7 fun aV s8 =>
  aH aV (
    af c .move [(.int .i64 40)] s8 fun x4 s9 =>
    some (x4, s9)) (
    af c (.fieldA 1) [x3] s8 fun aS bk =>
  af c (.load none) [aS] bk fun aZ bu =>
  af c (.bin .lss .num) [aZ, (.int .i64 0)] bu fun aT bt =>
  af c .move [aT] bt fun aW bA =>
  aj c aW false (.fieldA 1) [x3] bA fun bH bP =>
  aj c aW false (.load none) [bH] bP fun bF bV =>
  aj c aW false (.bin .gtr .num) [bF, (.int .i64 1000)] bV fun cR b9 =>
  af c .pick [aW, (.bool true), cR] b9 fun dw bX =>
  aH dw (
    af c .move [(.int .i64 41)] bX fun x4 ck =>
    some (x4, ck)) (
    af c (.fieldA 2) [x3] bX fun cD cj =>
  af c (.load none) [cD] cj fun cS c9 =>
  af c (.bin .neq .num) [cS, (.str [])] c9 fun dW dS =>
  af c .move [dW] dS fun dD dF =>
  aj c dD true .move [x5] dF fun eO ey =>
  aj c dD true (.callF 89) [eO] ey fun eP eA =>
  aj c dD true (.un .not) [eP] eA fun fL dI =>
  af c .pick [dD, fL, (.bool false)] dI fun fX eR =>
  af c .move [fX] eR fun cT eB =>
  aj c cT true .move [x5] eB fun dL e9 =>
  aj c cT true (.callF 90) [dL] e9 fun b8 eS =>
  aj c cT true (.un .not) [b8] eS fun iL eN =>
  af c .pick [cT, iL, (.bool false)] eN fun gH fo =>
  af c .move [gH] fo fun fc gP =>
  aj c fc true .move [x5] gP fun iQ gB =>
  aj c fc true (.bin .neq .num) [iQ, (.int .u8 17)] gB fun gm gq =>
  af c .pick [fc, gm, (.bool false)] gq fun iR gu =>
  af c .move [iR] gu fun eT iO =>
  aj c eT false (.fieldA 3) [x3] iO fun jD jb =>
  aj c eT false (.load none) [jD] jb fun jw jd =>
  aj c eT false (.bin .neq .num) [jw, (.str [])] jd fun gQ jv =>
  aj c eT false .move [gQ] jv fun jE mJ =>
  aj c jE true .move [x5] mJ fun ki mb =>
  aj c jE true (.callF 89) [ki] mb fun iM mK =>
  aj c jE true (.un .not) [iM] mK fun lU nH =>
  aj c eT false .pick [jE, lU, (.bool false)] nH fun fM mL =>
  af c .pick [eT, (.bool true), fM] mL fun ij jZ =>
  af c .move [ij] jZ fun gI nI =>
  aj c gI false (.fieldA 4) [x3] nI fun mM nh =>
  aj c gI false (.load none) [mM] nh fun kG ni =>
  aj c gI false (.bin .neq .num) [kG, (.str [])] ni fun kj nJ =>
  aj c gI false .move [kj] nJ fun jO n4 =>
  aj c jO true .move [x5] n4 fun iT oO =>
  aj c jO true (.callF 92) [iT] oO fun lV n6 =>
  aj c jO true (.bin .eql .num) [lV, (.int .i64 0)] n6 fun ko n8 =>
  aj c gI false .pick [jO, ko, (.bool false)] n8 fun jP jQ =>
  af c .pick [gI, (.bool true), jP] jQ fun oP nK =>
  af c .move [oP] nK fun j0 nL =>
  aj c j0 false (.fieldA 5) [x3] nL fun n9 oQ =>
  aj c j0 false (.load none) [n9] oQ fun oR oa =>
  aj c j0 false (.bin .neq .num) [oR, (.int .i64 0)] oa fun lq qv =>
  aj c j0 false .move [lq] qv fun mN oT =>
  aj c mN true .move [x5] oT fun qw pS =>
  aj c mN true (.callF 93) [qw] pS fun mg ob =>
  aj c mN true (.un .not) [mg] ob fun ru ry =>
  aj c j0 false .pick [mN, ru, (.bool false)] ry fun mO pT =>
  af c .pick [j0, (.bool true), mO] pT fun tJ pU =>
  aH tJ (
    af c .move [(.int .i64 43)] pU fun x4 qR =>
    some (x4, qR)) (
    af c .move [x5] pU fun tK rA =>
  af c (.callF 89) [tK] rA fun tL oc =>
  af c .move [tL] oc fun qx rB =>
  aj c qx false .move [x5] rB fun vI tM =>
  aj c qx false (.callF 90) [vI] tM fun vJ tN =>
  af c .pick [qx, (.bool true), vJ] tN fun mI oU =>
  af c .move [mI] oU fun oV qP =>
  aj c oV true .move [x5] qP fun sJ qQ =>
  aj c oV true (.bin .eql .num) [sJ, (.int .u8 10)] qQ fun rC tO =>
  aj c oV true .move [rC] tO fun tP rD =>
  aj c tP true (.fieldA 2) [x3] rD fun DN xT =>
  aj c tP true (.load none) [DN] xT fun xU wm =>
  aj c tP true (.bin .eql .num) [xU, (.str [])] wm fun DO At =>
  aj c oV true .pick [tP, DO, (.bool false)] At fun E5 tI =>
  aj c oV true (.un .not) [E5] tI fun pV uo =>
  af c .pick [oV, pV, (.bool false)] uo fun DP xN =>
  af c .move [DP] xN fun qy xO =>
  aj c qy true (.fieldA 1) [x2] xO fun Au xP =>
  aj c qy true (.load none) [Au] xP fun Av Ap =>
  aj c qy true (.fieldA 2) [x3] Ap fun CB Mj =>
  aj c qy true (.load none) [CB] Mj fun Aw JK =>
  aj c qy true (.callF 126) [Av, Aw] JK fun Ay Mk =>
  aj c qy true (.bin .lss .num) [Ay, (.int .i64 0)] Mk fun Az Ml =>
  af c .pick [qy, Az, (.bool false)] Ml fun AA JL =>
  aH AA (
    af c .move [(.int .i64 6)] JL fun x4 Rz =>
    some (x4, Rz)) (
    af c .move [x5] JL fun CC JM =>
  af c (.callF 89) [CC] JM fun xV Mm =>
  af c .move [xV] Mm fun j5 Mn =>
  aj c j5 true (.fieldA 1) [x2] Mn fun DQ Mo =>
  aj c j5 true (.load none) [DQ] Mo fun DR Mp =>
  aj c j5 true (.fieldA 3) [x3] Mp fun wo Mq =>
  aj c j5 true (.load none) [wo] Mq fun HX Mr =>
  aj c j5 true (.callF 126) [DR, HX] Mr fun BX Ms =>
  aj c j5 true (.bin .lss .num) [BX, (.int .i64 0)] Ms fun BZ FI =>
  af c .pick [j5, BZ, (.bool false)] FI fun vT DS =>
  aH vT (
    af c .move [(.int .i64 6)] DS fun x4 MS =>
    some (x4, MS)) (
    af c .move [x5] DS fun B3 FJ =>
  af c (.bin .eql .num) [B3, (.int .u8 17)] FJ fun B4 FK =>
  af c .move [B4] FK fun qz FL =>
  aj c qz true (.fieldA 2) [x3] FL fun iC FM =>
  aj c qz true (.load none) [iC] FM fun xW FN =>
  aj c qz true (.callF 127) [xW] FN fun B5 FO =>
  aj c qz true (.un .not) [B5] FO fun B6 FP =>
  af c .pick [qz, B6, (.bool false)] FP fun B7 DT =>
  aH B7 (
    af c .move [(.int .i64 4)] DT fun x4 MT =>
    some (x4, MT)) (
    af c .move [x5] DT fun B8 FQ =>
  af c (.callF 89) [B8] FQ fun B9 FR =>
  af c .move [B9] FR fun oA FT =>
  aj c oA true (.fieldA 2) [x3] FT fun Ca uL =>
  aj c oA true (.load none) [Ca] uL fun uM FU =>
  aj c oA true (.fieldA 3) [x3] FU fun uN FV =>
  aj c oA true (.load none) [uN] FV fun uO FW =>
  aj c oA true (.bin .eql .num) [uM, uO] FW fun uP Cb =>
  af c .pick [oA, uP, (.bool false)] Cb fun uQ DU =>
  aH uQ (
    af c .move [(.int .i64 5)] DU fun x4 MU =>
    some (x4, MU)) (
    af c (.fieldA 0) [x2] DU fun uR Mt =>
  af c (.load none) [uR] Mt fun Mu FX =>
  af c (.fieldA 4) [x3] FX fun Mv DV =>
  af c (.load none) [Mv] DV fun Mw DW =>
  af c (.callF 128) [Mu, Mw] DW fun vU FY =>
  af c .move [vU] FY fun x6 FZ =>
  af c .move [x5] FZ fun Mx F0 =>
  af c (.callF 92) [Mx] F0 fun My F1 =>
  af c (.bin .eql .num) [My, (.int .i64 1)] F1 fun Mz F2 =>
  af c .move [Mz] F2 fun Cc F3 =>
  aj c Cc true .move [x6] F3 fun MA F4 =>
  aj c Cc true (.bin .lss .num) [MA, (.int .i64 0)] F4 fun Cd F5 =>
  af c .pick [Cc, Cd, (.bool false)] F5 fun MB F6 =>
  af c .move [MB] F6 fun oB DX =>
  aj c oB false .move [x5] DX fun MC F7 =>
  aj c oB false (.callF 92) [MC] F7 fun MD F8 =>
  aj c oB false (.bin .eql .num) [MD, (.int .i64 2)] F8 fun ME F9 =>
  aj c oB false .move [ME] F9 fun xX Ga =>
  aj c xX true (.fieldA 4) [x3] Ga fun TL Gb =>
  aj c xX true (.load none) [TL] Gb fun TM Gc =>
  aj c xX true (.bin .neq .num) [TM, (.str [])] Gc fun TN BH =>
  aj c oB false .pick [xX, TN, (.bool false)] BH fun TO BI =>
  aj c oB false .move [TO] BI fun Gd BJ =>
  aj c Gd true .move [x6] BJ fun TP BK =>
  aj c Gd true (.bin .lss .num) [TP, (.int .i64 0)] BK fun TQ MF =>
  aj c oB false .pick [Gd, TQ, (.bool false)] MF fun TR MG =>
  af c .pick [oB, (.bool true), TR] MG fun TS IX =>
  aH TS (
    af c .move [(.int .i64 6)] IX fun x4 PX =>
    some (x4, PX)) (
    af c .move [(.int .i64 0)] IX fun x7 MH =>
  af c .move [(.int .i64 24)] MH fun x8 MI =>
  yX (fun MJ =>
    af c .move [x5] MI fun TU TV =>
    af c (.bin .eql .num) [TU, (.int .u8 4)] TV fun TW MK =>
    aH TW (
      af c .move [(.int .i64 1)] MK fun x7 TX =>
      MJ [x2, x3, x5, x6, x7, x8] TX) (
      MJ [x2, x3, x5, x6, x7, x8] MK))
  (fun vs TY => az vs fun x2 vs => az vs fun x3 vs => az vs fun x5 vs => az vs fun x6 vs => az vs fun x7 vs => az vs fun x8 vs => bC vs (
    yX (fun ML =>
      af c .move [x5] TY fun TZ T3 =>
      af c (.bin .eql .num) [TZ, (.int .u8 7)] T3 fun T5 MM =>
      aH T5 (
        af c (.fieldA 0) [x2] MM fun T6 T7 =>
        af c (.load none) [T6] T7 fun T8 T9 =>
        af c .move [x6] T9 fun Ua Ub =>
        af c (.idxA 7 none) [T8, Ua] Ub fun Uc Ud =>
        af c (.load (some 7)) [Uc] Ud fun Ue Uf =>
        af c (.callF 66) [Ue] Uf fun Ug Uh =>
        af c (.bin .sub .num) [Ug, (.int .i64 1)] Uh fun Ui Uj =>
        af c .move [Ui] Uj fun x8 Uk =>
        ML [x3, x5, x7, x8] Uk) (
        ML [x3, x5, x7, x8] MM))
    (fun vs Ul => az vs fun x3 vs => az vs fun x5 vs => az vs fun x7 vs => az vs fun x8 vs => bC vs (
      af c .move [x5] Ul fun Um Un =>
      af c (.callF 93) [Um] Un fun Uo Up =>
      af c .move [Uo] Up fun se Uq =>
      aj c se true (.fieldA 5) [x3] Uq fun Ur Us =>
      aj c se true (.load none) [Ur] Us fun Ut Uu =>
      aj c se true .move [x7] Uu fun Uv Uw =>
      aj c se true (.bin .lss .num) [Ut, Uv] Uw fun Ux Uy =>
      aj c se true .move [Ux] Uy fun xY Uz =>
      aj c xY false (.fieldA 5) [x3] Uz fun UA UB =>
      aj c xY false (.load none) [UA] UB fun UC UD =>
      aj c xY false .move [x8] UD fun UE UF =>
      aj c xY false (.bin .gtr .num) [UC, UE] UF fun UG UH =>
      aj c se true .pick [xY, (.bool true), UG] UH fun UI UJ =>
      af c .pick [se, UI, (.bool false)] UJ fun UK MN =>
      aH UK (
        af c .move [(.int .i64 42)] MN fun x4 UL =>
        some (x4, UL)) (
        af c .move [(.int .i64 0)] MN fun x4 UM =>
      some (x4, UM))))))))))))))
theorem zJ {c : ai} (hc : Sem c) (F : Nat){x0 x1 : AV} {s : St} {r : AV × St} (h : vK c F x0 x1 s = some r) : c 40 [x0, x1] s = some (tidy s r) := hc.gR (A := g40.getD default) (F := F) (s := (.seq none .leaf (.seq none .leaf (.seq none (.seq none .leaf (.cond (.seq none .leaf .leaf) .leaf)) (.seq none (.seq none .leaf (.cond (.seq none .leaf .leaf) .leaf)) (.seq none (.seq none .leaf (.cond (.seq none .leaf .leaf) .leaf)) (.seq none (.seq none .leaf (.cond (.seq none .leaf .leaf) .leaf)) (.seq none (.seq none .leaf (.cond (.seq none .leaf .leaf) .leaf)) (.seq none (.seq none .leaf (.cond (.seq none .leaf .leaf) .leaf)) (.seq none (.seq none .leaf (.cond (.seq none .leaf .leaf) .leaf)) (.seq none .leaf (.seq none (.seq none .leaf (.cond (.seq none .leaf .leaf) .leaf)) (.seq none .leaf (.seq none .leaf (.seq (some [(.i .h), (.o (.o .h)), (.o (.i .h)), (.i (.i .h)), (.o (.o (.o .h))), (.i (.o (.o .h)))]) (.seq none .leaf (.cond .leaf .leaf)) (.seq (some [(.o (.o .h)), (.o (.i .h)), (.o (.o (.o .h))), (.i (.o (.o .h)))]) (.seq none .leaf (.cond .leaf .leaf)) (.seq none (.seq none .leaf (.cond (.seq none .leaf .leaf) .leaf)) (.seq none .leaf .leaf)))))))))))))))))) (by kernel_rfl) (by kernel_rfl) (by kernel_rfl) (by kernel_rfl) h
def qB : aK := g52.getD default
def tS : Sh := (.seq none .leaf (.seq none (.seq none .leaf (.cond (.seq none .leaf .leaf) .leaf)) (.seq none .leaf (.seq none (.seq none .leaf (.block (.loop 0 [(.o (.i .h)), (.o (.o (.o (.i .h)))), (.i (.o (.o (.i .h)))), (.o (.i (.o (.i .h))))] [(2, [(.o (.i .h))])] (.seq none .leaf (.seq none (.cond .leaf .leaf) (.seq none (.block (.seq none .leaf .leaf)) .leaf)))))) (.seq none .leaf .leaf)))))
def kB (c : ai) (F : Nat) (k2 : List AV -> St -> Option (AV × St)) : Nat -> List AV -> St -> Option (AV × St)
  | 0, _, _ => none
  | n + 1, vs, s => az vs fun x5 vs => az vs fun cS vs => az vs fun dW vs => az vs fun dD vs => bC vs (
  af c (.bin .lss .num) [dD, dW] s fun eO dS =>
  aH eO (
    af c (.idxA 7 none) [cS, dD] dS fun eP dF =>
  af c (.load (some 7)) [eP] dF fun fL ey =>
  af c (.alloc [(.str []), (.int .u8 0), (.int .i64 0), (.int .i64 0), .av, (.int .i64 0), (.int .i64 0)]) [] ey fun x7 eA =>
  af c (.store 7) [x7, fL] eA fun _ dI =>
  af c .move [x5] dI fun fX eR =>
  af c (.load (some 7)) [x7] eR fun cT eB =>
  af c (.callF 136) [cT] eB fun dL e9 =>
  af c (.bin .add .num) [fX, dL] e9 fun b8 eS =>
  af c .move [b8] eS fun x5 eN =>
  af c (.bin .add .num) [dD, (.int .i64 1)] eN fun iL fo =>
  af c .move [iL] fo fun dD gP =>
  kB c F k2 n [x5, cS, dW, dD] gP) (
    k2 [x5] dS))
def wI (c : ai) (F : Nat) (x0 x1 : AV) (s : St) : Option (AV × St) :=
  af c .move [(.int .i64 0)] s fun x4 s0 =>
  af c .move [x1] s0 fun x8 s1 =>
  af c (.bin .lss .num) [x8, (.int .i64 0)] s1 fun x9 s2 =>
  af c .move [x9] s2 fun aJ s3 =>
  aj c aJ false .move [x1] s3 fun aP s4 =>
  aj c aJ false .move [x0] s4 fun aR s5 =>
  aj c aJ false (.lenB .l) [aR] s5 fun aV s6 =>
  aj c aJ false (.bin .geq .num) [aP, aV] s6 fun aS s7 =>
  af c .pick [aJ, (.bool true), aS] s7 fun aZ s8 =>
  af c .move [aZ] s8 fun aT s9 =>
  aj c aT false .move [x0] s9 fun aW bk =>
  aj c aT false (.callF 135) [aW] bk fun bH bu =>
  aj c aT false (.un .not) [bH] bu fun bF bt =>
  af c .pick [aT, (.bool true), bF] bt fun cR bA =>
  aH cR (
    af c .move [(.int .i64 0)] bA fun x4 bP =>
    some (x4, bP)) (
    af c .move [(.int .i64 0)] bA fun x5 bV =>
  af c .move [x0] bV fun dw b9 =>
  af c .move [x1] b9 fun cD bX =>
  af c (.sliceL 7 false true false) [dw, cD] bX fun cS ck =>
  af c (.lenB .l) [cS] ck fun dW cj =>
  af c .move [(.int .i64 0)] cj fun dD c9 =>
  kB c F (fun vs gB => az vs fun x5 vs => bC vs (
    af c .move [x5] gB fun gH gq =>
  af c .move [gH] gq fun x4 gu =>
  some (x4, gu))) F [x5, cS, dW, dD] c9)
def yd (c : ai) (F : Nat) : Env (AV × St) := gM [(0, fun K n => kB c F (K 2) n)]
theorem Kl (c : ai) (F : Nat) : bK c F (yd c F) (cK qB tS 0).1 (cK qB tS 0).2 := dG (j := 0) (ins := [(.o (.i .h)), (.o (.o (.o (.i .h)))), (.i (.o (.o (.i .h)))), (.o (.i (.o (.i .h))))]) (outs := [(2, [(.o (.i .h))])]) (s := (.seq none .leaf (.seq none (.cond .leaf .leaf) (.seq none (.block (.seq none .leaf .leaf)) .leaf)))) (by kernel_rfl) (fun _ _ _ => by kernel_rfl) (fun _ _ _ _ => by kernel_rfl)
theorem MV (c : ai) (F : Nat) : ∀ x ∈ bM qB.code tS, bK c F (yd c F) x.1 x.2 := dA 1 (by kernel_rfl) fun i hi => match i, hi with | 0, _ => Kl c F | n + 1, h => absurd h (by omega)
theorem MW (c : ai) (F : Nat) (x0 x1 : AV) (s : St) : jJ c F (yd c F) qB tS [x0, x1] s = wI c F x0 x1 s := by kernel_rfl
theorem Am {c : ai} (hc : Sem c) (F : Nat){x0 x1 : AV} {s : St} {r : AV × St} (h : wI c F x0 x1 s = some r) : c 52 [x0, x1] s = some (tidy s r) := hc.of (A := qB) (by kernel_rfl) (by kernel_rfl) (MV _ F) (by rw [MW]; exact h)
def ji : aK := g65.getD default
def kS : Sh := (.seq none .leaf (.seq none .leaf (.seq none (.seq none .leaf (.block (.loop 0 [.h, (.o .h), (.o (.i .h)), (.i (.i .h))] [(2, [(.o (.i .h))])] (.seq none (.seq none .leaf (.cond .leaf .leaf)) (.seq none (.block .leaf) .leaf))))) (.seq none .leaf .leaf))))
def e8 (c : ai) (F : Nat) (k2 : List AV -> St -> Option (AV × St)) : Nat -> List AV -> St -> Option (AV × St)
  | 0, _, _ => none
  | n + 1, vs, s => az vs fun x0 vs => az vs fun x1 vs => az vs fun x5 vs => az vs fun x6 vs => bC vs (
  af c .move [x6] s fun x7 s3 =>
  af c .move [x1] s3 fun x8 s4 =>
  af c (.bin .lss .num) [x7, x8] s4 fun x9 s5 =>
  aH x9 (
    af c .move [x5] s5 fun aR s6 =>
  af c .move [x0] s6 fun aV s7 =>
  af c .move [x6] s7 fun aS s8 =>
  af c (.idxA 7 none) [aV, aS] s8 fun aZ s9 =>
  af c (.load (some 7)) [aZ] s9 fun aT bk =>
  af c (.callF 66) [aT] bk fun aW bu =>
  af c (.bin .add .num) [aR, aW] bu fun bH bt =>
  af c .move [bH] bt fun x5 bA =>
  af c .move [x6] bA fun aJ bP =>
  af c (.bin .add .num) [aJ, (.int .i64 1)] bP fun aP bV =>
  af c .move [aP] bV fun x6 b9 =>
  e8 c F k2 n [x0, x1, x5, x6] b9) (
    k2 [x5] s5))
def qq (c : ai) (F : Nat) (x0 x1 : AV) (s : St) : Option (AV × St) :=
  af c .move [(.int .i64 0)] s fun x4 s0 =>
  af c .move [(.int .i64 0)] s0 fun x5 s1 =>
  af c .move [(.int .i64 0)] s1 fun x6 s2 =>
  e8 c F (fun vs bX => az vs fun x5 vs => bC vs (
    af c .move [x5] bX fun bF ck =>
  af c .move [bF] ck fun x4 cj =>
  some (x4, cj))) F [x0, x1, x5, x6] s2
def oD (c : ai) (F : Nat) : Env (AV × St) := gM [(0, fun K n => e8 c F (K 2) n)]
theorem AG (c : ai) (F : Nat) : bK c F (oD c F) (cK ji kS 0).1 (cK ji kS 0).2 := dG (j := 0) (ins := [.h, (.o .h), (.o (.i .h)), (.i (.i .h))]) (outs := [(2, [(.o (.i .h))])]) (s := (.seq none (.seq none .leaf (.cond .leaf .leaf)) (.seq none (.block .leaf) .leaf))) (by kernel_rfl) (fun _ _ _ => by kernel_rfl) (fun _ _ _ _ => by kernel_rfl)
theorem Cg (c : ai) (F : Nat) : ∀ x ∈ bM ji.code kS, bK c F (oD c F) x.1 x.2 := dA 1 (by kernel_rfl) fun i hi => match i, hi with | 0, _ => AG c F | n + 1, h => absurd h (by omega)
theorem Ch (c : ai) (F : Nat) (x0 x1 : AV) (s : St) : jJ c F (oD c F) ji kS [x0, x1] s = qq c F x0 x1 s := by kernel_rfl
theorem zG {c : ai} (hc : Sem c) (F : Nat){x0 x1 : AV} {s : St} {r : AV × St} (h : qq c F x0 x1 s = some r) : c 65 [x0, x1] s = some (tidy s r) := hc.of (A := ji) (by kernel_rfl) (by kernel_rfl) (Cg _ F) (by rw [Ch]; exact h)
def vY (c : ai) (F : Nat) (x0 : AV) (s : St) : Option (AV × St) :=
  af c .box [x0] s fun x1 s0 =>
  af c .move [(.int .i64 0)] s0 fun x2 s1 =>
  yX (fun j2 =>
    af c (.fieldA 1) [x1] s1 fun x3 s4 =>
    af c (.load none) [x3] s4 fun x4 s5 =>
    af c (.bin .eql .num) [x4, (.int .u8 1)] s5 fun x6 s6 =>
    af c .move [x6] s6 fun x5 s7 =>
    aH x5 (
      af c (.fieldA 2) [x1] s7 fun x7 s8 =>
      af c (.load none) [x7] s8 fun x8 s9 =>
      af c (.callF 153) [x8, (.int .i64 1), (.int .i64 24)] s9 fun x9 bk =>
      af c .move [x9] bk fun aJ bu =>
      aj c aJ true (.fieldA 3) [x1] bu fun aP bt =>
      aj c aJ true (.load none) [aP] bt fun aR bA =>
      aj c aJ true (.bin .eql .num) [aR, (.int .i64 0)] bA fun aV bP =>
      af c .pick [aJ, aV, (.bool false)] bP fun aS bV =>
      aH aS (
        af c (.fieldA 2) [x1] bV fun aZ b9 =>
        af c (.load none) [aZ] b9 fun aT bX =>
        af c .move [aT] bX fun x2 ck =>
        some (x2, ck)) (
        j2 [] bV)) (
      af c (.bin .eql .num) [x4, (.int .u8 2)] s7 fun bH cj =>
      af c .move [bH] cj fun aW c9 =>
      aH aW (
        af c (.fieldA 2) [x1] c9 fun bF dS =>
        af c (.load none) [bF] dS fun cR dF =>
        af c (.callF 153) [cR, (.int .i64 1), (.int .i64 11)] dF fun dw ey =>
        af c .move [dw] ey fun cD eA =>
        aj c cD true (.fieldA 3) [x1] eA fun cS dI =>
        aj c cD true (.load none) [cS] dI fun dW eR =>
        aj c cD true (.callF 153) [dW, (.int .i64 0), (.int .i64 2)] eR fun dD eB =>
        af c .pick [cD, dD, (.bool false)] eB fun eO e9 =>
        aH eO (
          af c (.fieldA 2) [x1] e9 fun eP eS =>
          af c (.load none) [eP] eS fun fL eN =>
          af c (.bin .mul .num) [(.int .i64 2), fL] eN fun fX fo =>
          af c (.fieldA 3) [x1] fo fun cT gP =>
          af c (.load none) [cT] gP fun dL gB =>
          af c (.bin .add .num) [fX, dL] gB fun b8 gq =>
          af c .move [b8] gq fun x2 gu =>
          some (x2, gu)) (
          j2 [] e9)) (
        af c (.bin .eql .num) [x4, (.int .u8 3)] c9 fun gH iO =>
        af c .move [gH] iO fun iL jb =>
        aH iL (
          af c (.fieldA 2) [x1] jb fun fc jd =>
          af c (.load none) [fc] jd fun iQ jv =>
          af c (.callF 153) [iQ, (.int .i64 1), (.int .i64 8)] jv fun gm mJ =>
          af c .move [gm] mJ fun iR mb =>
          aj c iR true (.fieldA 3) [x1] mb fun eT mK =>
          aj c iR true (.load none) [eT] mK fun jD nH =>
          aj c iR true (.callF 153) [jD, (.int .i64 1), (.int .i64 8)] nH fun jw mL =>
          af c .pick [iR, jw, (.bool false)] mL fun gQ jZ =>
          aH gQ (
            af c (.fieldA 2) [x1] jZ fun jE nI =>
            af c (.load none) [jE] nI fun ki nh =>
            af c (.fieldA 3) [x1] nh fun iM ni =>
            af c (.load none) [iM] ni fun lU nJ =>
            af c (.bin .mul .num) [(.int .i64 2), lU] nJ fun fM n4 =>
            af c (.bin .add .num) [ki, fM] n4 fun ij oO =>
            af c .move [ij] oO fun x2 n6 =>
            some (x2, n6)) (
            j2 [] jZ)) (
          af c (.bin .eql .num) [x4, (.int .u8 4)] jb fun mM n8 =>
          af c .move [mM] n8 fun gI jQ =>
          aH gI (
            af c (.fieldA 2) [x1] jQ fun kG nK =>
            af c (.load none) [kG] nK fun kj nL =>
            af c (.callF 153) [kj, (.int .i64 1), (.int .i64 24)] nL fun jO oQ =>
            af c .move [jO] oQ fun iT oa =>
            aj c iT true (.fieldA 3) [x1] oa fun lV qv =>
            aj c iT true (.load none) [lV] qv fun ko oT =>
            aj c iT true (.fieldA 2) [x1] oT fun jP pS =>
            aj c iT true (.load none) [jP] pS fun oP ob =>
            aj c iT true (.callF 153) [ko, (.int .i64 0), oP] ob fun j0 ry =>
            af c .pick [iT, j0, (.bool false)] ry fun n9 pT =>
            aH n9 (
              af c (.fieldA 2) [x1] pT fun oR pU =>
              af c (.load none) [oR] pU fun lq qR =>
              af c .move [lq] qR fun x2 rA =>
              some (x2, rA)) (
              j2 [] pT)) (
            j2 [] jQ)))))
  (fun vs s3 => bC vs (
    af c .move [(.int .i64 0)] s3 fun x2 oc =>
    some (x2, oc)))
theorem Ag {c : ai} (hc : Sem c) (F : Nat){x0 : AV} {s : St} {r : AV × St} (h : vY c F x0 s = some r) : c 66 [x0] s = some (tidy s r) := hc.gR (A := g66.getD default) (F := F) (s := (.seq none .leaf (.seq (some []) (.seq none .leaf (.block (.seq none .leaf (.cond (.seq none .leaf (.cond (.seq none .leaf .leaf) .leaf)) (.seq none .leaf (.cond (.seq none .leaf (.cond (.seq none .leaf .leaf) .leaf)) (.seq none .leaf (.cond (.seq none .leaf (.cond (.seq none .leaf .leaf) .leaf)) (.seq none .leaf (.cond (.seq none .leaf (.cond (.seq none .leaf .leaf) .leaf)) .leaf)))))))))) (.seq none .leaf .leaf)))) (by kernel_rfl) (by kernel_rfl) (by kernel_rfl) (by kernel_rfl) h
def Hr (c : ai) (F : Nat) (x0 : AV) (s : St) : Option (AV × St) :=
  af c .move [(.int .i64 0)] s fun x2 s0 =>
  af c .move [x0] s0 fun x3 s1 =>
  af c (.callF 135) [x3] s1 fun x4 s2 =>
  af c (.un .not) [x4] s2 fun x5 s3 =>
  aH x5 (
    af c .move [(.int .i64 0)] s3 fun x2 s4 =>
    some (x2, s4)) (
    af c .move [x0] s3 fun x6 s5 =>
  af c .move [x0] s5 fun x7 s6 =>
  af c (.lenB .l) [x7] s6 fun x8 s7 =>
  af c (.bin .sub .num) [x8, (.int .i64 1)] s7 fun x9 s8 =>
  af c (.callF 52) [x6, x9] s8 fun aJ s9 =>
  af c .move [x0] s9 fun aP bk =>
  af c (.callF 155) [aP] bk fun aR bu =>
  af c (.bin .add .num) [aJ, aR] bu fun aV bt =>
  af c .move [aV] bt fun x2 bA =>
  some (x2, bA))
theorem II {c : ai} (hc : Sem c) (F : Nat){x0 : AV} {s : St} {r : AV × St} (h : Hr c F x0 s = some r) : c 68 [x0] s = some (tidy s r) := hc.gR (A := g68.getD default) (F := F) (s := (.seq none .leaf (.seq none (.seq none .leaf (.cond (.seq none .leaf .leaf) .leaf)) (.seq none .leaf .leaf)))) (by kernel_rfl) (by kernel_rfl) (by kernel_rfl) (by kernel_rfl) h
def lW : aK := g77.getD default
def nM : Sh := (.seq none .leaf (.seq none .leaf (.seq none (.seq none .leaf (.block (.loop 0 [(.o .h), (.o (.i .h)), (.i (.i (.i .h))), (.o (.o (.o (.o .h)))), (.i (.o (.o (.o .h))))] [(1, [(.i .h), (.o (.o .h)), (.i (.o .h))]), (2, [(.o .h), (.o (.i .h))])] (.seq none .leaf (.seq none (.cond .leaf .leaf) (.seq none (.block (.seq none .leaf (.seq none .leaf (.seq none .leaf (.cond (.seq none .leaf .leaf) .leaf))))) .leaf)))))) (.seq none (.seq none .leaf (.block (.loop 1 [(.o .h), (.o (.i .h)), (.i (.i (.i (.i .h)))), (.o (.o (.o (.o (.o .h))))), (.i (.o (.o (.o (.o .h)))))] [(1, [(.i .h), (.o (.o .h)), (.i (.o .h))]), (4, [(.o (.i .h))])] (.seq none .leaf (.seq none (.cond .leaf .leaf) (.seq (some [(.o .h), (.o (.i .h)), (.i (.i (.i (.i .h)))), (.o (.o (.o (.o (.o .h))))), (.i (.o (.o (.o (.o .h)))))]) (.block (.seq none .leaf (.seq none .leaf (.seq (some [(.o .h), (.o (.i .h)), (.o (.i (.o .h))), (.o (.o (.i .h))), (.i (.i (.i (.i .h)))), (.o (.o (.o (.o (.o .h))))), (.i (.o (.o (.o (.o .h)))))]) (.seq none .leaf (.cond .leaf .leaf)) (.seq none .leaf (.cond (.seq none .leaf .leaf) .leaf)))))) .leaf)))))) (.seq none .leaf .leaf)))))
def eU (c : ai) (F : Nat) (k1 k2 : List AV -> St -> Option (AV × St)) : Nat -> List AV -> St -> Option (AV × St)
  | 0, _, _ => none
  | n + 1, vs, s => az vs fun x1 vs => az vs fun x5 vs => az vs fun aS vs => az vs fun aZ vs => az vs fun aT vs => bC vs (
  af c (.bin .lss .num) [aT, aZ] s fun aW bk =>
  aH aW (
    af c .move [aT] bk fun bH bu =>
  af c (.idxA 9 none) [aS, aT] bu fun bF bt =>
  af c (.load (some 9)) [bF] bt fun cR bA =>
  af c (.alloc [(.str []), (.str []), (.str []), (.int .i64 0), (.int .i64 0), (.str []), (.bool false), (.bool false), .av]) [] bA fun x7 bP =>
  af c .move [bH] bP fun x6 bV =>
  af c (.store 9) [x7, cR] bV fun _ b9 =>
  af c .move [x5] b9 fun dw bX =>
  af c (.load (some 9)) [x7] bX fun cD ck =>
  af c (.callF 161) [dw, cD] ck fun cS cj =>
  af c .move [cS] cj fun x8 c9 =>
  af c .move [x8] c9 fun dW dS =>
  af c (.bin .neq .num) [dW, (.int .i64 0)] dS fun dD dF =>
  aH dD (
    af c .move [x6] dF fun eO ey =>
    af c .move [x8] ey fun eP eA =>
    af c .move [.cU] eA fun x2 dI =>
    af c .move [eO] dI fun x3 eR =>
    af c .move [eP] eR fun x4 eB =>
    k1 [x2, x3, x4] eB) (
    af c (.bin .add .num) [aT, (.int .i64 1)] dF fun fL e9 =>
  af c .move [fL] e9 fun aT eS =>
  eU c F k1 k2 n [x1, x5, aS, aZ, aT] eS)) (
    k2 [x1, x5] bk))
def fK (c : ai) (F : Nat) (k1 k4 : List AV -> St -> Option (AV × St)) : Nat -> List AV -> St -> Option (AV × St)
  | 0, _, _ => none
  | n + 1, vs, s => az vs fun x1 vs => az vs fun x5 vs => az vs fun cT vs => az vs fun dL vs => az vs fun b8 vs => bC vs (
  af c (.bin .lss .num) [b8, dL] s fun iL iO =>
  aH iL (
    yX (fun j37 =>
    af c .move [b8] iO fun gH jv =>
    af c (.idxA 3 none) [cT, b8] jv fun fc mJ =>
    af c (.load (some 3)) [fc] mJ fun iQ mb =>
    af c (.alloc [(.str []), (.str []), (.int .u8 0)]) [] mb fun aJ mK =>
    af c .move [gH] mK fun x9 nH =>
    af c (.store 3) [aJ, iQ] nH fun _ mL =>
    af c .move [(.int .i64 23)] mL fun aP jZ =>
    yX (fun VN =>
      aB (.fieldA 0) [aJ] fun gm =>
      eF (.load none) [gm] jZ.heap (fun _ => true) fun iR =>
      aB (.fieldA 1) [aJ] fun eT =>
      eF (.load none) [eT] jZ.heap (fun _ => true) fun jD =>
      aB (.bin .lss .num) [iR, jD] fun jw =>
      aB .move [jw] fun gQ =>
      cJ gQ true .move [x9] fun jE =>
      cJ gQ true (.bin .eql .num) [jE, (.int .i64 0)] fun ki =>
      cJ gQ true .move [ki] fun iM =>
      cJ iM false (.fieldA 1) [x1] fun lU =>
      jB iM false (.load none) [lU] jZ.heap (fun _ => true) fun fM =>
      cJ iM false .move [x9] fun ij =>
      cJ iM false (.bin .sub .num) [ij, (.int .i64 1)] fun gI =>
      cJ iM false (.idxA 3 none) [fM, gI] fun mM =>
      jB iM false (.load (some 3)) [mM] jZ.heap (fun _ => true) fun kG =>
      jB iM false (.load (some 3)) [aJ] jZ.heap (fun _ => true) fun kj =>
      sF iM false (af c (.callF 162) [kG, kj] jZ fun jO ni =>
      cJ iM false (.bin .leq .num) [jO, (.int .i64 0)] fun iT =>
      cJ gQ true .pick [iM, (.bool true), iT] fun lV =>
      aB .pick [gQ, lV, (.bool false)] fun ko =>
      aH ko (
        af c .move [x5] ni fun jP nJ =>
        af c (.fieldA 0) [aJ] nJ fun oP n4 =>
        af c (.load none) [oP] n4 fun j0 oO =>
        af c (.fieldA 1) [aJ] oO fun n9 n6 =>
        af c (.load none) [n9] n6 fun oR n8 =>
        af c (.fieldA 2) [aJ] n8 fun lq jQ =>
        af c (.load none) [lq] jQ fun mN nK =>
        af c (.callF 163) [jP, j0, oR, mN] nK fun qw nL =>
        af c .move [qw] nL fun aP oQ =>
        VN [x1, x5, x9, aP, cT, dL, b8] oQ) (
        VN [x1, x5, x9, aP, cT, dL, b8] ni)) (cJ iM false (.bin .leq .num) [.undef, (.int .i64 0)] fun iT =>
      cJ gQ true .pick [iM, (.bool true), iT] fun lV =>
      aB .pick [gQ, lV, (.bool false)] fun ko =>
      aH ko (
        af c .move [x5] jZ fun jP oa =>
        af c (.fieldA 0) [aJ] oa fun oP qv =>
        af c (.load none) [oP] qv fun j0 oT =>
        af c (.fieldA 1) [aJ] oT fun n9 pS =>
        af c (.load none) [n9] pS fun oR ob =>
        af c (.fieldA 2) [aJ] ob fun lq ry =>
        af c (.load none) [lq] ry fun mN pT =>
        af c (.callF 163) [jP, j0, oR, mN] pT fun qw pU =>
        af c .move [qw] pU fun aP qR =>
        VN [x1, x5, x9, aP, cT, dL, b8] qR) (
        VN [x1, x5, x9, aP, cT, dL, b8] jZ)))
    (fun vs nh => az vs fun x1 vs => az vs fun x5 vs => az vs fun x9 vs => az vs fun aP vs => az vs fun cT vs => az vs fun dL vs => az vs fun b8 vs => bC vs (
      af c .move [aP] nh fun mg rA =>
      af c (.bin .neq .num) [mg, (.int .i64 0)] rA fun ru oc =>
      aH ru (
        aB (.fieldA 0) [x1] fun mO =>
        eF (.load none) [mO] oc.heap (fun _ => true) fun tJ =>
        aB (.lenB .l) [tJ] fun tK =>
        aB .move [x9] fun tL =>
        aB (.bin .add .num) [tK, tL] fun qx =>
        aB .move [aP] fun vI =>
        aB .move [.cU] fun x2 =>
        aB .move [qx] fun x3 =>
        aB .move [vI] fun x4 =>
        k1 [x2, x3, x4] oc) (
        j37 [x1, x5, cT, dL, b8] oc))))
  (fun vs jd => az vs fun x1 vs => az vs fun x5 vs => az vs fun cT vs => az vs fun dL vs => az vs fun b8 vs => bC vs (
    af c (.bin .add .num) [b8, (.int .i64 1)] jd fun vJ rB =>
    af c .move [vJ] rB fun b8 tM =>
    fK c F k1 k4 n [x1, x5, cT, dL, b8] tM))) (
    k4 [x5] iO))
def tH (c : ai) (F : Nat) (x0 : AV) (s : St) : Option (AV × St) :=
  af c .box [x0] s fun x1 s0 =>
  af c .move [.cU] s0 fun x2 s1 =>
  af c .move [(.int .i64 0)] s1 fun x3 s2 =>
  af c .move [(.int .i64 0)] s2 fun x4 s3 =>
  af c (.callF 160) [] s3 fun aR s4 =>
  af c .move [aR] s4 fun x5 s5 =>
  af c (.fieldA 0) [x1] s5 fun aV s6 =>
  af c (.load none) [aV] s6 fun aS s7 =>
  af c (.lenB .l) [aS] s7 fun aZ s8 =>
  af c .move [(.int .i64 0)] s8 fun aT s9 =>
  eU c F (fun vs eN => az vs fun x2 vs => az vs fun x3 vs => az vs fun x4 vs => bC vs (
    some (.tuple [x2, x3, x4], eN))) (fun vs fo => az vs fun x1 vs => az vs fun x5 vs => bC vs (
    af c (.fieldA 1) [x1] fo fun fX gP =>
  af c (.load none) [fX] gP fun cT gB =>
  af c (.lenB .l) [cT] gB fun dL gq =>
  af c .move [(.int .i64 0)] gq fun b8 gu =>
  fK c F (fun vs tN => az vs fun x2 vs => az vs fun x3 vs => az vs fun x4 vs => bC vs (
    some (.tuple [x2, x3, x4], tN))) (fun vs oU => az vs fun x5 vs => bC vs (
    af c .move [x5] oU fun mI qP =>
  af c .move [mI] qP fun x2 qQ =>
  af c .move [(.int .i64 0)] qQ fun x3 tO =>
  af c .move [(.int .i64 0)] tO fun x4 rD =>
  some (.tuple [x2, x3, x4], rD))) F [x1, x5, cT, dL, b8] gu)) F [x1, x5, aS, aZ, aT] s9
def tT (c : ai) (F : Nat) : Env (AV × St) := gM [(0, fun K n => eU c F (K 1) (K 2) n), (1, fun K n => fK c F (K 1) (K 4) n)]
theorem Km (c : ai) (F : Nat) : bK c F (tT c F) (cK lW nM 0).1 (cK lW nM 0).2 := dG (j := 0) (ins := [(.o .h), (.o (.i .h)), (.i (.i (.i .h))), (.o (.o (.o (.o .h)))), (.i (.o (.o (.o .h))))]) (outs := [(1, [(.i .h), (.o (.o .h)), (.i (.o .h))]), (2, [(.o .h), (.o (.i .h))])]) (s := (.seq none .leaf (.seq none (.cond .leaf .leaf) (.seq none (.block (.seq none .leaf (.seq none .leaf (.seq none .leaf (.cond (.seq none .leaf .leaf) .leaf))))) .leaf)))) (by kernel_rfl) (fun _ _ _ => by kernel_rfl) (fun _ _ _ _ => by kernel_rfl)
theorem Kn (c : ai) (F : Nat) : bK c F (tT c F) (cK lW nM 1).1 (cK lW nM 1).2 := dG (j := 1) (ins := [(.o .h), (.o (.i .h)), (.i (.i (.i (.i .h)))), (.o (.o (.o (.o (.o .h))))), (.i (.o (.o (.o (.o .h)))))]) (outs := [(1, [(.i .h), (.o (.o .h)), (.i (.o .h))]), (4, [(.o (.i .h))])]) (s := (.seq none .leaf (.seq none (.cond .leaf .leaf) (.seq (some [(.o .h), (.o (.i .h)), (.i (.i (.i (.i .h)))), (.o (.o (.o (.o (.o .h))))), (.i (.o (.o (.o (.o .h)))))]) (.block (.seq none .leaf (.seq none .leaf (.seq (some [(.o .h), (.o (.i .h)), (.o (.i (.o .h))), (.o (.o (.i .h))), (.i (.i (.i (.i .h)))), (.o (.o (.o (.o (.o .h))))), (.i (.o (.o (.o (.o .h)))))]) (.seq none .leaf (.cond .leaf .leaf)) (.seq none .leaf (.cond (.seq none .leaf .leaf) .leaf)))))) .leaf)))) (by kernel_rfl) (fun _ _ _ => by kernel_rfl) (fun _ _ _ _ => by kernel_rfl)
theorem MX (c : ai) (F : Nat) : ∀ x ∈ bM lW.code nM, bK c F (tT c F) x.1 x.2 := dA 2 (by kernel_rfl) fun i hi => match i, hi with | 0, _ => Km c F | 1, _ => Kn c F | n + 2, h => absurd h (by omega)
theorem MY (c : ai) (F : Nat) (x0 : AV) (s : St) : jJ c F (tT c F) lW nM [x0] s = tH c F x0 s := by kernel_rfl
theorem IQ {c : ai} (hc : Sem c) (F : Nat){x0 : AV} {s : St} {r : AV × St} (h : tH c F x0 s = some r) : c 77 [x0] s = some (tidy s r) := hc.of (A := lW) (by kernel_rfl) (by kernel_rfl) (MX _ F) (by rw [MY]; exact h)
def wj (c : ai) (F : Nat) (x0 : AV) (s : St) : Option (AV × St) :=
  af c .move [(.str [])] s fun x2 s0 =>
  af c (.buildSlice 1 19 [(.str [])] [0, 1, 2, 3, 4, 5, 6, 7, 8, 9, 10, 11, 12, 13, 14, 15, 16, 17, 18]) [(.str []), (.str [97, 112, 97, 114, 116]), (.str [98, 101, 115, 105, 100, 101]), (.str [97, 99, 114, 111, 115, 115]), (.str [110, 101, 97, 114]), (.str [116, 111, 103, 101, 116, 104, 101, 114]), (.str [97, 116]), (.str [115, 101, 97, 116]), (.str [97, 108, 116, 101, 114, 110, 97, 116, 101]), (.str [104, 111, 115, 116]), (.str [114, 101, 97, 99, 104]), (.str [115, 112, 101, 97, 107]), (.str [112, 101, 97, 99, 101]), (.str [99, 111, 109, 112, 97, 110, 121]), (.str [104, 111, 110, 111, 117, 114]), (.str [102, 105, 108, 108]), (.str [108, 105, 109, 105, 116]), (.str [107, 105, 116, 99, 104, 101, 110]), (.str [109, 105, 120])] s0 fun x4 s1 =>
  af c .move [x4] s1 fun x3 s2 =>
  af c .move [x0] s2 fun x5 s3 =>
  af c (.conv (.int .i64)) [x5] s3 fun x6 s4 =>
  af c .move [x3] s4 fun x7 s5 =>
  af c (.lenB .l) [x7] s5 fun x8 s6 =>
  af c (.bin .geq .num) [x6, x8] s6 fun x9 s7 =>
  aH x9 (
    af c .move [(.str [])] s7 fun x2 s8 =>
    some (x2, s8)) (
    af c .move [x3] s7 fun aJ s9 =>
  af c .move [x0] s9 fun aP bk =>
  af c (.idxA 1 none) [aJ, aP] bk fun aR bu =>
  af c (.load none) [aR] bu fun aV bt =>
  af c .move [aV] bt fun x2 bA =>
  some (x2, bA))
theorem Ar {c : ai} (hc : Sem c) (F : Nat){x0 : AV} {s : St} {r : AV × St} (h : wj c F x0 s = some r) : c 87 [x0] s = some (tidy s r) := hc.gR (A := g87.getD default) (F := F) (s := (.seq none .leaf (.seq none .leaf (.seq none (.seq none .leaf (.cond (.seq none .leaf .leaf) .leaf)) (.seq none .leaf .leaf))))) (by kernel_rfl) (by kernel_rfl) (by kernel_rfl) (by kernel_rfl) h
def xQ (c : ai) (F : Nat) (x0 : AV) (s : St) : Option (AV × St) :=
  af c .move [(.bool false)] s fun x2 s0 =>
  af c .move [x0] s0 fun x3 s1 =>
  af c (.bin .eql .num) [x3, (.int .u8 1)] s1 fun x4 s2 =>
  af c .move [x4] s2 fun x5 s3 =>
  aj c x5 false .move [x0] s3 fun x6 s4 =>
  aj c x5 false (.bin .eql .num) [x6, (.int .u8 2)] s4 fun x7 s5 =>
  af c .pick [x5, (.bool true), x7] s5 fun x8 s6 =>
  af c .move [x8] s6 fun x9 s7 =>
  aj c x9 false .move [x0] s7 fun aJ s8 =>
  aj c x9 false (.bin .eql .num) [aJ, (.int .u8 3)] s8 fun aP s9 =>
  af c .pick [x9, (.bool true), aP] s9 fun aR bk =>
  af c .move [aR] bk fun aV bu =>
  aj c aV false .move [x0] bu fun aS bt =>
  aj c aV false (.bin .eql .num) [aS, (.int .u8 4)] bt fun aZ bA =>
  af c .pick [aV, (.bool true), aZ] bA fun aT bP =>
  af c .move [aT] bP fun aW bV =>
  aj c aW false .move [x0] bV fun bH b9 =>
  aj c aW false (.bin .eql .num) [bH, (.int .u8 5)] b9 fun bF bX =>
  af c .pick [aW, (.bool true), bF] bX fun cR ck =>
  af c .move [cR] ck fun x2 cj =>
  some (x2, cj)
theorem BV {c : ai} (hc : Sem c) (F : Nat){x0 : AV} {s : St} {r : AV × St} (h : xQ c F x0 s = some r) : c 89 [x0] s = some (tidy s r) := hc.gR (A := g89.getD default) (F := F) (s := (.seq none .leaf (.seq none .leaf .leaf))) (by kernel_rfl) (by kernel_rfl) (by kernel_rfl) (by kernel_rfl) h
def xR (c : ai) (F : Nat) (x0 : AV) (s : St) : Option (AV × St) :=
  af c .move [(.bool false)] s fun x2 s0 =>
  af c .move [x0] s0 fun x3 s1 =>
  af c (.bin .eql .num) [x3, (.int .u8 6)] s1 fun x4 s2 =>
  af c .move [x4] s2 fun x5 s3 =>
  aj c x5 false .move [x0] s3 fun x6 s4 =>
  aj c x5 false (.bin .eql .num) [x6, (.int .u8 7)] s4 fun x7 s5 =>
  af c .pick [x5, (.bool true), x7] s5 fun x8 s6 =>
  af c .move [x8] s6 fun x9 s7 =>
  aj c x9 false .move [x0] s7 fun aJ s8 =>
  aj c x9 false (.bin .eql .num) [aJ, (.int .u8 10)] s8 fun aP s9 =>
  af c .pick [x9, (.bool true), aP] s9 fun aR bk =>
  af c .move [aR] bk fun x2 bu =>
  some (x2, bu)
theorem BW {c : ai} (hc : Sem c) (F : Nat){x0 : AV} {s : St} {r : AV × St} (h : xR c F x0 s = some r) : c 90 [x0] s = some (tidy s r) := hc.gR (A := g90.getD default) (F := F) (s := (.seq none .leaf (.seq none .leaf .leaf))) (by kernel_rfl) (by kernel_rfl) (by kernel_rfl) (by kernel_rfl) h
def ur (c : ai) (F : Nat) (x0 : AV) (s : St) : Option (AV × St) :=
  af c .move [(.int .i64 0)] s fun x2 s0 =>
  af c .move [x0] s0 fun x3 s1 =>
  af c (.callF 89) [x3] s1 fun x4 s2 =>
  af c .move [x4] s2 fun x5 s3 =>
  aj c x5 false .move [x0] s3 fun x6 s4 =>
  aj c x5 false (.bin .eql .num) [x6, (.int .u8 10)] s4 fun x7 s5 =>
  af c .pick [x5, (.bool true), x7] s5 fun x8 s6 =>
  aH x8 (
    af c .move [(.int .i64 0)] s6 fun x2 s7 =>
    some (x2, s7)) (
    af c .move [x0] s6 fun x9 s8 =>
  af c (.bin .eql .num) [x9, (.int .u8 6)] s8 fun aJ s9 =>
  af c .move [aJ] s9 fun aP bk =>
  aj c aP false .move [x0] bk fun aR bu =>
  aj c aP false (.bin .eql .num) [aR, (.int .u8 7)] bu fun aV bt =>
  af c .pick [aP, (.bool true), aV] bt fun aS bA =>
  af c .move [aS] bA fun aZ bP =>
  aj c aZ false .move [x0] bP fun aT bV =>
  aj c aZ false (.bin .eql .num) [aT, (.int .u8 17)] bV fun aW b9 =>
  af c .pick [aZ, (.bool true), aW] b9 fun bH bX =>
  aH bH (
    af c .move [(.int .i64 1)] bX fun x2 ck =>
    some (x2, ck)) (
    af c .move [(.int .i64 2)] bX fun x2 cj =>
  some (x2, cj)))
theorem yw {c : ai} (hc : Sem c) (F : Nat){x0 : AV} {s : St} {r : AV × St} (h : ur c F x0 s = some r) : c 92 [x0] s = some (tidy s r) := hc.gR (A := g92.getD default) (F := F) (s := (.seq none .leaf (.seq none (.seq none .leaf (.cond (.seq none .leaf .leaf) .leaf)) (.seq none (.seq none .leaf (.cond (.seq none .leaf .leaf) .leaf)) (.seq none .leaf .leaf))))) (by kernel_rfl) (by kernel_rfl) (by kernel_rfl) (by kernel_rfl) h
def uq (c : ai) (F : Nat) (x0 : AV) (s : St) : Option (AV × St) :=
  af c .move [(.bool false)] s fun x2 s0 =>
  af c .move [x0] s0 fun x3 s1 =>
  af c (.bin .eql .num) [x3, (.int .u8 1)] s1 fun x4 s2 =>
  af c .move [x4] s2 fun x5 s3 =>
  aj c x5 false .move [x0] s3 fun x6 s4 =>
  aj c x5 false (.bin .eql .num) [x6, (.int .u8 4)] s4 fun x7 s5 =>
  af c .pick [x5, (.bool true), x7] s5 fun x8 s6 =>
  af c .move [x8] s6 fun x9 s7 =>
  aj c x9 false .move [x0] s7 fun aJ s8 =>
  aj c x9 false (.bin .eql .num) [aJ, (.int .u8 7)] s8 fun aP s9 =>
  af c .pick [x9, (.bool true), aP] s9 fun aR bk =>
  af c .move [aR] bk fun aV bu =>
  aj c aV false .move [x0] bu fun aS bt =>
  aj c aV false (.bin .eql .num) [aS, (.int .u8 15)] bt fun aZ bA =>
  af c .pick [aV, (.bool true), aZ] bA fun aT bP =>
  af c .move [aT] bP fun aW bV =>
  aj c aW false .move [x0] bV fun bH b9 =>
  aj c aW false (.bin .eql .num) [bH, (.int .u8 16)] b9 fun bF bX =>
  af c .pick [aW, (.bool true), bF] bX fun cR ck =>
  af c .move [cR] ck fun x2 cj =>
  some (x2, cj)
theorem yu {c : ai} (hc : Sem c) (F : Nat){x0 : AV} {s : St} {r : AV × St} (h : uq c F x0 s = some r) : c 93 [x0] s = some (tidy s r) := hc.gR (A := g93.getD default) (F := F) (s := (.seq none .leaf (.seq none .leaf .leaf))) (by kernel_rfl) (by kernel_rfl) (by kernel_rfl) (by kernel_rfl) h
def mP : aK := g99.getD default
def pW : Sh := (.seq none .leaf (.seq none (.seq none .leaf (.cond (.seq none .leaf .leaf) .leaf)) (.seq none (.seq none .leaf (.block (.loop 0 [.h, (.i (.i (.o .h))), (.o (.o (.i .h))), (.i (.o (.i .h)))] [(1, [(.i .h), (.o (.o .h))]), (2, [])] (.seq none .leaf (.seq none (.cond .leaf .leaf) (.seq none (.block (.seq none .leaf (.seq none (.seq none .leaf (.seq none .leaf (.cond (.seq none .leaf .leaf) .leaf))) (.seq none .leaf (.cond (.seq none .leaf .leaf) .leaf))))) .leaf)))))) (.seq none .leaf .leaf))))
def iB (c : ai) (F : Nat) (k1 k2 : List AV -> St -> Option (AV × St)) : Nat -> List AV -> St -> Option (AV × St)
  | 0, _, _ => none
  | n + 1, vs, s => az vs fun x0 vs => az vs fun aJ vs => az vs fun aP vs => az vs fun aR vs => bC vs (
  af c (.bin .lss .num) [aR, aP] s fun aV bk =>
  aH aV (
    af c .move [aR] bk fun aS bu =>
  af c (.idxA 7 none) [aJ, aR] bu fun aZ bt =>
  af c (.load (some 7)) [aZ] bt fun aT bA =>
  af c (.alloc [(.str []), (.int .u8 0), (.int .i64 0), (.int .i64 0), .av, (.int .i64 0), (.int .i64 0)]) [] bA fun x5 bP =>
  af c .move [aS] bP fun x4 bV =>
  af c (.store 7) [x5, aT] bV fun _ b9 =>
  af c (.load (some 7)) [x5] b9 fun aW bX =>
  af c (.callF 182) [aW] bX fun bH ck =>
  af c .move [bH] ck fun x6 cj =>
  af c .move [x6] cj fun bF c9 =>
  af c (.bin .neq .num) [bF, (.int .i64 0)] c9 fun cR dS =>
  aH cR (
    af c .move [x4] dS fun dw dF =>
    af c .move [x6] dF fun cD ey =>
    af c .move [dw] ey fun x2 eA =>
    af c .move [cD] eA fun x3 dI =>
    k1 [x2, x3] dI) (
    af c .move [x0] dS fun cS eR =>
  af c .move [x4] eR fun dW eB =>
  af c (.sliceL 7 false true false) [cS, dW] eB fun dD e9 =>
  af c (.mkFunc 184 0) [x5] e9 fun eO eS =>
  af c (.callF 183) [dD, eO] eS fun eP eN =>
  aH eP (
    af c .move [x4] eN fun fL fo =>
    af c .move [fL] fo fun x2 gP =>
    af c .move [(.int .i64 5)] gP fun x3 gB =>
    k1 [x2, x3] gB) (
    af c (.bin .add .num) [aR, (.int .i64 1)] eN fun fX gq =>
  af c .move [fX] gq fun aR gu =>
  iB c F k1 k2 n [x0, aJ, aP, aR] gu))) (
    k2 [] bk))
def rO (c : ai) (F : Nat) (x0 : AV) (s : St) : Option (AV × St) :=
  af c .move [(.int .i64 0)] s fun x2 s0 =>
  af c .move [(.int .i64 0)] s0 fun x3 s1 =>
  af c .move [x0] s1 fun x7 s2 =>
  af c (.lenB .l) [x7] s2 fun x8 s3 =>
  af c (.bin .gtr .num) [x8, (.int .i64 16)] s3 fun x9 s4 =>
  aH x9 (
    af c .move [(.int .i64 0)] s4 fun x2 s5 =>
    af c .move [(.int .i64 7)] s5 fun x3 s6 =>
    some (.tuple [x2, x3], s6)) (
    af c .move [x0] s4 fun aJ s7 =>
  af c (.lenB .l) [aJ] s7 fun aP s8 =>
  af c .move [(.int .i64 0)] s8 fun aR s9 =>
  iB c F (fun vs iO => az vs fun x2 vs => az vs fun x3 vs => bC vs (
    some (.tuple [x2, x3], iO))) (fun vs jb => bC vs (
    af c .move [(.int .i64 0)] jb fun x2 jd =>
  af c .move [(.int .i64 0)] jd fun x3 jv =>
  some (.tuple [x2, x3], jv))) F [x0, aJ, aP, aR] s9)
def tU (c : ai) (F : Nat) : Env (AV × St) := gM [(0, fun K n => iB c F (K 1) (K 2) n)]
theorem Gf (c : ai) (F : Nat) : bK c F (tU c F) (cK mP pW 0).1 (cK mP pW 0).2 := dG (j := 0) (ins := [.h, (.i (.i (.o .h))), (.o (.o (.i .h))), (.i (.o (.i .h)))]) (outs := [(1, [(.i .h), (.o (.o .h))]), (2, [])]) (s := (.seq none .leaf (.seq none (.cond .leaf .leaf) (.seq none (.block (.seq none .leaf (.seq none (.seq none .leaf (.seq none .leaf (.cond (.seq none .leaf .leaf) .leaf))) (.seq none .leaf (.cond (.seq none .leaf .leaf) .leaf))))) .leaf)))) (by kernel_rfl) (fun _ _ _ => by kernel_rfl) (fun _ _ _ _ => by kernel_rfl)
theorem H7 (c : ai) (F : Nat) : ∀ x ∈ bM mP.code pW, bK c F (tU c F) x.1 x.2 := dA 1 (by kernel_rfl) fun i hi => match i, hi with | 0, _ => Gf c F | n + 1, h => absurd h (by omega)
theorem H8 (c : ai) (F : Nat) (x0 : AV) (s : St) : jJ c F (tU c F) mP pW [x0] s = rO c F x0 s := by kernel_rfl
theorem vZ {c : ai} (hc : Sem c) (F : Nat){x0 : AV} {s : St} {r : AV × St} (h : rO c F x0 s = some r) : c 99 [x0] s = some (tidy s r) := hc.of (A := mP) (by kernel_rfl) (by kernel_rfl) (H7 _ F) (by rw [H8]; exact h)
def ze (c : ai) (F : Nat) (x0 : AV) (s : St) : Option (AV × St) :=
  af c .box [x0] s fun x1 s0 =>
  af c .move [(.int .i64 0)] s0 fun x2 s1 =>
  af c .move [(.int .i64 0)] s1 fun x3 s2 =>
  af c (.load (some 2)) [x1] s2 fun x8 s3 =>
  af c (.callF 77) [x8] s3 fun x9 s4 =>
  af c .move [x9] s4 fun x7 s5 =>
  af c (.extract 0) [x7] s5 fun aJ s6 =>
  af c (.extract 1) [x7] s6 fun aP s7 =>
  af c (.extract 2) [x7] s7 fun aR s8 =>
  af c .move [aJ] s8 fun x4 s9 =>
  af c .move [aP] s9 fun x5 bk =>
  af c .move [aR] bk fun x6 bu =>
  af c .move [x5] bu fun aV bt =>
  af c .move [x6] bt fun aS bA =>
  af c .move [aV] bA fun x2 bP =>
  af c .move [aS] bP fun x3 bV =>
  some (.tuple [x2, x3], bV)
theorem CN {c : ai} (hc : Sem c) (F : Nat){x0 : AV} {s : St} {r : AV × St} (h : ze c F x0 s = some r) : c 100 [x0] s = some (tidy s r) := hc.gR (A := g100.getD default) (F := F) (s := (.seq none .leaf (.seq none .leaf (.seq none .leaf .leaf)))) (by kernel_rfl) (by kernel_rfl) (by kernel_rfl) (by kernel_rfl) h
def zf (c : ai) (F : Nat) (x0 x1 : AV) (s : St) : Option (AV × St) :=
  af c .box [x0] s fun x2 s0 =>
  af c .box [x1] s0 fun x3 s1 =>
  af c .move [(.bool false)] s1 fun x4 s2 =>
  af c (.fieldA 1) [x2] s2 fun x5 s3 =>
  af c (.load none) [x5] s3 fun x6 s4 =>
  af c (.bin .neq .num) [x6, (.int .u8 0)] s4 fun x7 s5 =>
  af c .move [x7] s5 fun x8 s6 =>
  aj c x8 false (.fieldA 2) [x3] s6 fun x9 s7 =>
  aj c x8 false (.load none) [x9] s7 fun aJ s8 =>
  aj c x8 false (.bin .eql .num) [aJ, (.str [])] s8 fun aP s9 =>
  af c .pick [x8, (.bool true), aP] s9 fun aR bk =>
  af c .move [aR] bk fun aV bu =>
  aj c aV true (.fieldA 2) [x2] bu fun aS bt =>
  aj c aV true (.load none) [aS] bt fun aZ bA =>
  aj c aV true .move [aZ] bA fun aT bP =>
  aj c aT false (.fieldA 3) [x3] bP fun aW bV =>
  aj c aT false (.load none) [aW] bV fun bH b9 =>
  aj c aT false (.bin .eql .num) [bH, (.str [])] b9 fun bF bX =>
  aj c aV true .pick [aT, (.bool true), bF] bX fun cR ck =>
  af c .pick [aV, cR, (.bool false)] ck fun dw cj =>
  af c .move [dw] cj fun cD c9 =>
  aj c cD true (.fieldA 3) [x2] c9 fun cS dS =>
  aj c cD true (.load none) [cS] dS fun dW dF =>
  aj c cD true (.bin .neq .num) [dW, (.int .u8 0)] dF fun dD ey =>
  aj c cD true .move [dD] ey fun eO eA =>
  aj c eO false (.fieldA 4) [x3] eA fun eP dI =>
  aj c eO false (.load none) [eP] dI fun fL eR =>
  aj c eO false (.bin .eql .num) [fL, (.str [])] eR fun fX eB =>
  aj c cD true .pick [eO, (.bool true), fX] eB fun cT e9 =>
  af c .pick [cD, cT, (.bool false)] e9 fun dL eS =>
  af c .move [dL] eS fun b8 eN =>
  aj c b8 true (.fieldA 4) [x2] eN fun iL fo =>
  aj c b8 true (.load none) [iL] fo fun gH gP =>
  aj c b8 true .move [gH] gP fun fc gB =>
  aj c fc false (.fieldA 5) [x3] gB fun iQ gq =>
  aj c fc false (.load none) [iQ] gq fun gm gu =>
  aj c fc false (.bin .eql .num) [gm, (.int .i64 0)] gu fun iR iO =>
  aj c b8 true .pick [fc, (.bool true), iR] iO fun eT jb =>
  af c .pick [b8, eT, (.bool false)] jb fun jD jd =>
  af c .move [jD] jd fun x4 jv =>
  some (x4, jv)
theorem CO {c : ai} (hc : Sem c) (F : Nat){x0 x1 : AV} {s : St} {r : AV × St} (h : zf c F x0 x1 s = some r) : c 119 [x0, x1] s = some (tidy s r) := hc.gR (A := g119.getD default) (F := F) (s := (.seq none .leaf (.seq none .leaf .leaf))) (by kernel_rfl) (by kernel_rfl) (by kernel_rfl) (by kernel_rfl) h
def Mg (c : ai) (F : Nat) (x0 x1 : AV) (s : St) : Option (AV × St) :=
  af c .box [x0] s fun x2 s0 =>
  af c .box [x1] s0 fun x3 s1 =>
  af c .move [(.int .i64 0)] s1 fun x4 s2 =>
  af c (.fieldA 1) [x2] s2 fun x5 s3 =>
  af c (.load none) [x5] s3 fun x6 s4 =>
  af c (.mkFunc 200 0) [x3] s4 fun x7 s5 =>
  af c (.callF 199) [x6, x7] s5 fun x8 s6 =>
  af c .move [x8] s6 fun x4 s7 =>
  some (x4, s7)
theorem Mf {c : ai} (hc : Sem c) (F : Nat){x0 x1 : AV} {s : St} {r : AV × St} (h : Mg c F x0 x1 s = some r) : c 120 [x0, x1] s = some (tidy s r) := hc.gR (A := g120.getD default) (F := F) (s := (.seq none .leaf (.seq none .leaf .leaf))) (by kernel_rfl) (by kernel_rfl) (by kernel_rfl) (by kernel_rfl) h
def rF : aK := g121.getD default
def u7 : Sh := (.seq none .leaf (.seq none (.seq none .leaf (.cond (.seq none .leaf .leaf) .leaf)) (.seq none (.seq none .leaf (.block (.loop 0 [.h, (.o (.i (.i .h))), (.i (.i (.i .h)))] [(1, [(.i .h)]), (2, [])] (.seq none .leaf (.seq none (.cond .leaf .leaf) (.seq none (.block (.seq none .leaf (.seq none .leaf (.cond (.seq none .leaf .leaf) .leaf)))) .leaf)))))) (.seq none .leaf .leaf))))
def lO (c : ai) (F : Nat) (k1 k2 : List AV -> St -> Option (AV × St)) : Nat -> List AV -> St -> Option (AV × St)
  | 0, _, _ => none
  | n + 1, vs, s => az vs fun x0 vs => az vs fun aV vs => az vs fun aS vs => bC vs (
  af c (.bin .lss .num) [aS, aV] s fun aZ bA =>
  aH aZ (
    af c .move [aS] bA fun aT bP =>
  af c .move [aT] bP fun x3 bV =>
  af c .move [x0] bV fun aW b9 =>
  af c .move [x3] b9 fun bH bX =>
  af c .idxS [aW, bH] bX fun bF ck =>
  af c (.bin .lss .num) [bF, (.int .u8 97)] ck fun cR cj =>
  af c .move [cR] cj fun dw c9 =>
  aj c dw false .move [x0] c9 fun cD dS =>
  aj c dw false .move [x3] dS fun cS dF =>
  aj c dw false .idxS [cD, cS] dF fun dW ey =>
  aj c dw false (.bin .gtr .num) [dW, (.int .u8 122)] ey fun dD eA =>
  af c .pick [dw, (.bool true), dD] eA fun eO dI =>
  aH eO (
    af c .move [(.bool false)] dI fun x2 eR =>
    k1 [x2] eR) (
    af c (.bin .add .num) [aS, (.int .i64 1)] dI fun eP eB =>
  af c .move [eP] eB fun aS e9 =>
  lO c F k1 k2 n [x0, aV, aS] e9)) (
    k2 [] bA))
def DF (c : ai) (F : Nat) (x0 : AV) (s : St) : Option (AV × St) :=
  af c .move [(.bool false)] s fun x2 s0 =>
  af c .move [x0] s0 fun x4 s1 =>
  af c (.lenB .s) [x4] s1 fun x5 s2 =>
  af c (.bin .eql .num) [x5, (.int .i64 0)] s2 fun x6 s3 =>
  af c .move [x6] s3 fun x7 s4 =>
  aj c x7 false .move [x0] s4 fun x8 s5 =>
  aj c x7 false (.lenB .s) [x8] s5 fun x9 s6 =>
  aj c x7 false (.bin .gtr .num) [x9, (.int .i64 12)] s6 fun aJ s7 =>
  af c .pick [x7, (.bool true), aJ] s7 fun aP s8 =>
  aH aP (
    af c .move [(.bool false)] s8 fun x2 s9 =>
    some (x2, s9)) (
    af c .move [x0] s8 fun aR bk =>
  af c (.lenB .s) [aR] bk fun aV bu =>
  af c .move [(.int .i64 0)] bu fun aS bt =>
  lO c F (fun vs eS => az vs fun x2 vs => bC vs (
    some (x2, eS))) (fun vs eN => bC vs (
    af c .move [(.bool true)] eN fun x2 fo =>
  some (x2, fo))) F [x0, aV, aS] bt)
def zK (c : ai) (F : Nat) : Env (AV × St) := gM [(0, fun K n => lO c F (K 1) (K 2) n)]
theorem MZ (c : ai) (F : Nat) : bK c F (zK c F) (cK rF u7 0).1 (cK rF u7 0).2 := dG (j := 0) (ins := [.h, (.o (.i (.i .h))), (.i (.i (.i .h)))]) (outs := [(1, [(.i .h)]), (2, [])]) (s := (.seq none .leaf (.seq none (.cond .leaf .leaf) (.seq none (.block (.seq none .leaf (.seq none .leaf (.cond (.seq none .leaf .leaf) .leaf)))) .leaf)))) (by kernel_rfl) (fun _ _ _ => by kernel_rfl) (fun _ _ _ _ => by kernel_rfl)
theorem NN (c : ai) (F : Nat) : ∀ x ∈ bM rF.code u7, bK c F (zK c F) x.1 x.2 := dA 1 (by kernel_rfl) fun i hi => match i, hi with | 0, _ => MZ c F | n + 1, h => absurd h (by omega)
theorem NO (c : ai) (F : Nat) (x0 : AV) (s : St) : jJ c F (zK c F) rF u7 [x0] s = DF c F x0 s := by kernel_rfl
theorem J8 {c : ai} (hc : Sem c) (F : Nat){x0 : AV} {s : St} {r : AV × St} (h : DF c F x0 s = some r) : c 121 [x0] s = some (tidy s r) := hc.of (A := rF) (by kernel_rfl) (by kernel_rfl) (NN _ F) (by rw [NO]; exact h)
def JE (c : ai) (F : Nat) (x0 x1 : AV) (s : St) : Option (AV × St) :=
  af c .box [x1] s fun x3 s0 =>
  af c .move [(.int .i64 0)] s0 fun x4 s1 =>
  af c .move [(.bool false)] s1 fun x5 s2 =>
  af c .move [x0] s2 fun x7 s3 =>
  af c (.mkFunc 202 0) [x3] s3 fun x8 s4 =>
  af c (.callF 201) [x7, x8] s4 fun x9 s5 =>
  af c .move [x9] s5 fun x6 s6 =>
  af c .move [x6] s6 fun aJ s7 =>
  af c (.bin .lss .num) [aJ, (.int .i64 0)] s7 fun aP s8 =>
  af c .move [aP] s8 fun aR s9 =>
  aj c aR false .move [x0] s9 fun aV bk =>
  aj c aR false (.callF 135) [aV] bk fun aS bu =>
  aj c aR false (.un .not) [aS] bu fun aZ bt =>
  af c .pick [aR, (.bool true), aZ] bt fun aT bA =>
  aH aT (
    af c .move [(.int .i64 0)] bA fun x4 bP =>
    af c .move [(.bool false)] bP fun x5 bV =>
    some (.tuple [x4, x5], bV)) (
    af c .move [x6] bA fun aW b9 =>
  af c .move [aW] b9 fun x4 bX =>
  af c .move [(.bool true)] bX fun x5 ck =>
  some (.tuple [x4, x5], ck))
theorem Kc {c : ai} (hc : Sem c) (F : Nat){x0 x1 : AV} {s : St} {r : AV × St} (h : JE c F x0 x1 s = some r) : c 122 [x0, x1] s = some (tidy s r) := hc.gR (A := g122.getD default) (F := F) (s := (.seq none .leaf (.seq none .leaf (.seq none (.seq none .leaf (.cond (.seq none .leaf .leaf) .leaf)) (.seq none .leaf .leaf))))) (by kernel_rfl) (by kernel_rfl) (by kernel_rfl) (by kernel_rfl) h
def dY : aK := g123.getD default
def fB : Sh := (.seq none .leaf (.seq none (.seq none .leaf (.cond (.seq none .leaf .leaf) .leaf)) (.seq none (.seq none .leaf (.block (.loop 0 [.h, (.i (.o .h))] [(1, [(.i .h), (.o (.o .h))]), (2, [])] (.seq none (.seq none .leaf (.cond .leaf .leaf)) (.seq none (.block (.seq none (.seq none .leaf (.seq none .leaf (.cond (.seq none .leaf .leaf) .leaf))) (.seq none .leaf (.block (.loop 1 [.h, (.i (.o .h)), (.i (.i .h))] [(1, [(.i .h), (.o (.o .h))]), (4, [.h, (.i (.o .h))])] (.seq none (.seq none .leaf (.cond .leaf .leaf)) (.seq none (.block (.seq none .leaf (.cond (.seq none .leaf .leaf) .leaf))) .leaf))))))) .leaf))))) (.seq none .leaf .leaf))))
def dJ (c : ai) (F : Nat) (k1 k4 : List AV -> St -> Option (AV × St)) : Nat -> List AV -> St -> Option (AV × St)
  | 0, _, _ => none
  | n + 1, vs, s => az vs fun x0 vs => az vs fun x4 vs => az vs fun x6 vs => bC vs (
  af c .move [x6] s fun dD dI =>
  af c .move [x4] dI fun eO eR =>
  af c (.bin .lss .num) [dD, eO] eR fun eP eB =>
  aH eP (
    aB .move [x0] fun cT =>
  aB .move [x6] fun dL =>
  aB (.idxA 7 none) [cT, dL] fun b8 =>
  aB (.fieldA 0) [b8] fun iL =>
  eF (.load none) [iL] eB.heap (fun _ => true) fun gH =>
  aB .move [x0] fun fc =>
  aB .move [x4] fun iQ =>
  aB (.idxA 7 none) [fc, iQ] fun gm =>
  aB (.fieldA 0) [gm] fun iR =>
  eF (.load none) [iR] eB.heap (fun _ => true) fun eT =>
  aB (.bin .eql .num) [gH, eT] fun jD =>
  aH jD (
    af c .move [x4] eB fun jw e9 =>
    af c .move [jw] e9 fun x2 eS =>
    af c .move [(.int .i64 5)] eS fun x3 eN =>
    k1 [x2, x3] eN) (
    af c .move [x6] eB fun fL fo =>
  af c (.bin .add .num) [fL, (.int .i64 1)] fo fun fX gP =>
  af c .move [fX] gP fun x6 gB =>
  dJ c F k1 k4 n [x0, x4, x6] gB)) (
    k4 [x0, x4] eB))
def dK (c : ai) (F : Nat) (k1 k2 : List AV -> St -> Option (AV × St)) : Nat -> List AV -> St -> Option (AV × St)
  | 0, _, _ => none
  | n + 1, vs, s => az vs fun x0 vs => az vs fun x4 vs => bC vs (
  af c .move [x4] s fun aJ s8 =>
  af c .move [x0] s8 fun aP s9 =>
  af c (.lenB .l) [aP] s9 fun aR bk =>
  af c (.bin .lss .num) [aJ, aR] bk fun aV bu =>
  aH aV (
    af c .move [x0] bu fun aT bt =>
  af c .move [x4] bt fun aW bA =>
  af c (.idxA 7 none) [aT, aW] bA fun bH bP =>
  af c (.load (some 7)) [bH] bP fun bF bV =>
  af c (.callF 203) [bF] bV fun cR b9 =>
  af c .move [cR] b9 fun x5 bX =>
  af c .move [x5] bX fun dw ck =>
  af c (.bin .neq .num) [dw, (.int .i64 0)] ck fun cD cj =>
  aH cD (
    af c .move [x4] cj fun cS c9 =>
    af c .move [x5] c9 fun dW dS =>
    af c .move [cS] dS fun x2 dF =>
    af c .move [dW] dF fun x3 ey =>
    k1 [x2, x3] ey) (
    af c .move [(.int .i64 0)] cj fun x6 eA =>
  dJ c F (fun vs gq => az vs fun x2 vs => az vs fun x3 vs => bC vs (
    k1 [x2, x3] gq)) (fun vs gu => az vs fun x0 vs => az vs fun x4 vs => bC vs (
    af c .move [x4] gu fun aS iO =>
  af c (.bin .add .num) [aS, (.int .i64 1)] iO fun aZ jb =>
  af c .move [aZ] jb fun x4 jd =>
  dK c F k1 k2 n [x0, x4] jd)) F [x0, x4, x6] eA)) (
    k2 [] bu))
def nF (c : ai) (F : Nat) (x0 : AV) (s : St) : Option (AV × St) :=
  af c .move [(.int .i64 0)] s fun x2 s0 =>
  af c .move [(.int .i64 0)] s0 fun x3 s1 =>
  af c .move [x0] s1 fun x7 s2 =>
  af c (.lenB .l) [x7] s2 fun x8 s3 =>
  af c (.bin .gtr .num) [x8, (.int .i64 16)] s3 fun x9 s4 =>
  aH x9 (
    af c .move [(.int .i64 0)] s4 fun x2 s5 =>
    af c .move [(.int .i64 7)] s5 fun x3 s6 =>
    some (.tuple [x2, x3], s6)) (
    af c .move [(.int .i64 0)] s4 fun x4 s7 =>
  dK c F (fun vs jv => az vs fun x2 vs => az vs fun x3 vs => bC vs (
    some (.tuple [x2, x3], jv))) (fun vs mJ => bC vs (
    af c .move [(.int .i64 0)] mJ fun x2 mb =>
  af c .move [(.int .i64 0)] mb fun x3 mK =>
  some (.tuple [x2, x3], mK))) F [x0, x4] s7)
def jz (c : ai) (F : Nat) : Env (AV × St) := gM [(0, fun K n => dK c F (K 1) (K 2) n), (1, fun K n => dJ c F (K 1) (K 4) n)]
theorem ye (c : ai) (F : Nat) : bK c F (jz c F) (cK dY fB 0).1 (cK dY fB 0).2 := dG (j := 0) (ins := [.h, (.i (.o .h))]) (outs := [(1, [(.i .h), (.o (.o .h))]), (2, [])]) (s := (.seq none (.seq none .leaf (.cond .leaf .leaf)) (.seq none (.block (.seq none (.seq none .leaf (.seq none .leaf (.cond (.seq none .leaf .leaf) .leaf))) (.seq none .leaf (.block (.loop 1 [.h, (.i (.o .h)), (.i (.i .h))] [(1, [(.i .h), (.o (.o .h))]), (4, [.h, (.i (.o .h))])] (.seq none (.seq none .leaf (.cond .leaf .leaf)) (.seq none (.block (.seq none .leaf (.cond (.seq none .leaf .leaf) .leaf))) .leaf))))))) .leaf))) (by kernel_rfl) (fun _ _ _ => by kernel_rfl) (fun _ _ _ _ => by kernel_rfl)
theorem yf (c : ai) (F : Nat) : bK c F (jz c F) (cK dY fB 1).1 (cK dY fB 1).2 := dG (j := 1) (ins := [.h, (.i (.o .h)), (.i (.i .h))]) (outs := [(1, [(.i .h), (.o (.o .h))]), (4, [.h, (.i (.o .h))])]) (s := (.seq none (.seq none .leaf (.cond .leaf .leaf)) (.seq none (.block (.seq none .leaf (.cond (.seq none .leaf .leaf) .leaf))) .leaf))) (by kernel_rfl) (fun _ _ _ => by kernel_rfl) (fun _ _ _ _ => by kernel_rfl)
theorem yx (c : ai) (F : Nat) : ∀ x ∈ bM dY.code fB, bK c F (jz c F) x.1 x.2 := dA 2 (by kernel_rfl) fun i hi => match i, hi with | 0, _ => ye c F | 1, _ => yf c F | n + 2, h => absurd h (by omega)
theorem yy (c : ai) (F : Nat) (x0 : AV) (s : St) : jJ c F (jz c F) dY fB [x0] s = nF c F x0 s := by kernel_rfl
theorem wH {c : ai} (hc : Sem c) (F : Nat){x0 : AV} {s : St} {r : AV × St} (h : nF c F x0 s = some r) : c 123 [x0] s = some (tidy s r) := hc.of (A := dY) (by kernel_rfl) (by kernel_rfl) (yx _ F) (by rw [yy]; exact h)
def dM : aK := g124.getD default
def fe : Sh := (.seq none .leaf (.seq none (.seq none .leaf (.block (.loop 0 [(.o .h), (.i (.o .h))] [(1, [(.i .h), (.o (.o .h))]), (2, [(.o .h)])] (.seq none (.seq none .leaf (.cond .leaf .leaf)) (.seq none (.block (.seq none (.seq none .leaf (.seq none .leaf (.cond (.seq none .leaf .leaf) .leaf))) (.seq none (.seq none .leaf (.cond (.seq none .leaf .leaf) .leaf)) (.seq none .leaf (.cond (.seq none .leaf .leaf) .leaf))))) .leaf))))) (.seq none (.seq none .leaf (.block (.loop 1 [(.o .h), (.i (.i .h))] [(1, [(.i .h), (.o (.o .h))]), (4, [])] (.seq none (.seq none .leaf (.cond .leaf .leaf)) (.seq none (.block (.seq none .leaf (.seq none .leaf (.seq none (.seq none .leaf (.cond (.seq none .leaf .leaf) .leaf)) (.seq none (.seq none .leaf (.cond (.seq none .leaf .leaf) .leaf)) (.seq none (.seq none .leaf (.cond (.seq none .leaf .leaf) .leaf)) (.seq none .leaf (.cond (.seq none .leaf .leaf) .leaf)))))))) .leaf))))) (.seq none .leaf .leaf))))
def eE (c : ai) (F : Nat) (k1 k2 : List AV -> St -> Option (AV × St)) : Nat -> List AV -> St -> Option (AV × St)
  | 0, _, _ => none
  | n + 1, vs, s => az vs fun x1 vs => az vs fun x4 vs => bC vs (
  af c .move [x4] s fun x9 s4 =>
  af c (.fieldA 0) [x1] s4 fun aJ s5 =>
  af c (.load none) [aJ] s5 fun aP s6 =>
  af c (.lenB .l) [aP] s6 fun aR s7 =>
  af c (.bin .lss .num) [x9, aR] s7 fun aV s8 =>
  aH aV (
    af c (.fieldA 0) [x1] s8 fun aT s9 =>
  af c (.load none) [aT] s9 fun aW bk =>
  af c .move [x4] bk fun bH bu =>
  af c (.idxA 9 none) [aW, bH] bu fun bF bt =>
  af c (.load (some 9)) [bF] bt fun cR bA =>
  af c (.callF 204) [cR] bA fun dw bP =>
  af c .move [dw] bP fun x5 bV =>
  af c .move [x5] bV fun cD b9 =>
  af c (.bin .neq .num) [cD, (.int .i64 0)] b9 fun cS bX =>
  aH cS (
    af c .move [x4] bX fun dW ck =>
    af c .move [x5] ck fun dD cj =>
    af c .move [dW] cj fun x2 c9 =>
    af c .move [dD] c9 fun x3 dS =>
    k1 [x2, x3] dS) (
    aB (.fieldA 0) [x1] fun eO =>
  eF (.load none) [eO] bX.heap (fun _ => true) fun eP =>
  aB .move [x4] fun fL =>
  aB (.sliceL 9 false true false) [eP, fL] fun fX =>
  aB (.fieldA 0) [x1] fun cT =>
  eF (.load none) [cT] bX.heap (fun _ => true) fun dL =>
  aB .move [x4] fun b8 =>
  aB (.idxA 9 none) [dL, b8] fun iL =>
  aB (.fieldA 0) [iL] fun gH =>
  eF (.load none) [gH] bX.heap (fun _ => true) fun fc =>
  af c (.callF 126) [fX, fc] bX fun iQ dF =>
  aB (.bin .geq .num) [iQ, (.int .i64 0)] fun gm =>
  aH gm (
    af c .move [x4] dF fun iR ey =>
    af c .move [iR] ey fun x2 eA =>
    af c .move [(.int .i64 5)] eA fun x3 dI =>
    k1 [x2, x3] dI) (
    af c .move [x4] dF fun eT eR =>
  af c (.bin .geq .num) [eT, (.int .i64 64)] eR fun jD eB =>
  aH jD (
    af c .move [x4] eB fun jw e9 =>
    af c .move [jw] e9 fun x2 eS =>
    af c .move [(.int .i64 7)] eS fun x3 eN =>
    k1 [x2, x3] eN) (
    af c .move [x4] eB fun aS fo =>
  af c (.bin .add .num) [aS, (.int .i64 1)] fo fun aZ gP =>
  af c .move [aZ] gP fun x4 gB =>
  eE c F k1 k2 n [x1, x4] gB)))) (
    k2 [x1] s8))
def bZ (c : ai) (F : Nat) (k1 k4 : List AV -> St -> Option (AV × St)) : Nat -> List AV -> St -> Option (AV × St)
  | 0, _, _ => none
  | n + 1, vs, s => az vs fun x1 vs => az vs fun x6 vs => bC vs (
  af c .move [x6] s fun gQ jb =>
  af c (.fieldA 1) [x1] jb fun jE jd =>
  af c (.load none) [jE] jd fun ki jv =>
  af c (.lenB .l) [ki] jv fun iM mJ =>
  af c (.bin .lss .num) [gQ, iM] mJ fun lU mb =>
  aH lU (
    af c (.fieldA 1) [x1] mb fun gI mK =>
  af c (.load none) [gI] mK fun mM nH =>
  af c .move [x6] nH fun kG mL =>
  af c (.idxA 3 none) [mM, kG] mL fun kj jZ =>
  af c (.load (some 3)) [kj] jZ fun jO nI =>
  af c (.alloc [(.str []), (.str []), (.int .u8 0)]) [] nI fun x7 nh =>
  af c (.store 3) [x7, jO] nh fun _ ni =>
  af c (.fieldA 0) [x1] ni fun iT nJ =>
  af c (.load none) [iT] nJ fun lV n4 =>
  af c (.lenB .l) [lV] n4 fun ko oO =>
  af c .move [x6] oO fun jP n6 =>
  af c (.bin .add .num) [ko, jP] n6 fun oP n8 =>
  af c .move [oP] n8 fun x8 jQ =>
  aB (.fieldA 2) [x7] fun j0 =>
  eF (.load none) [j0] jQ.heap (fun _ => true) fun n9 =>
  aB (.bin .neq .num) [n9, (.int .u8 1)] fun oR =>
  aB .move [oR] fun lq =>
  cJ lq true (.fieldA 2) [x7] fun mN =>
  jB lq true (.load none) [mN] jQ.heap (fun _ => true) fun qw =>
  cJ lq true (.bin .neq .num) [qw, (.int .u8 2)] fun mg =>
  aB .pick [lq, mg, (.bool false)] fun ru =>
  aB .move [ru] fun mO =>
  cJ mO false (.fieldA 0) [x7] fun tJ =>
  jB mO false (.load none) [tJ] jQ.heap (fun _ => true) fun tK =>
  cJ mO false (.fieldA 1) [x7] fun tL =>
  jB mO false (.load none) [tL] jQ.heap (fun _ => true) fun qx =>
  cJ mO false (.bin .geq .num) [tK, qx] fun vI =>
  aB .pick [mO, (.bool true), vI] fun vJ =>
  aB .move [vJ] fun mI =>
  cJ mI false .move [x6] fun oV =>
  cJ mI false (.bin .gtr .num) [oV, (.int .i64 0)] fun sJ =>
  cJ mI false .move [sJ] fun rC =>
  jB rC true (.load (some 3)) [x7] jQ.heap (fun _ => true) fun tP =>
  cJ rC true (.fieldA 1) [x1] fun DN =>
  jB rC true (.load none) [DN] jQ.heap (fun _ => true) fun xU =>
  cJ rC true .move [x6] fun DO =>
  cJ rC true (.bin .sub .num) [DO, (.int .i64 1)] fun E5 =>
  cJ rC true (.idxA 3 none) [xU, E5] fun pV =>
  jB rC true (.load (some 3)) [pV] jQ.heap (fun _ => true) fun DP =>
  sF rC true (af c (.callF 205) [tP, DP] jQ fun qy nK =>
  cJ mI false .pick [rC, qy, (.bool false)] fun Au =>
  aB .pick [mI, (.bool true), Au] fun Av =>
  aH Av (
    af c .move [x8] nK fun CB nL =>
    af c .move [CB] nL fun x2 oQ =>
    af c .move [(.int .i64 23)] oQ fun x3 oa =>
    k1 [x2, x3] oa) (
    af c (.fieldA 0) [x1] nK fun Aw qv =>
  af c (.load none) [Aw] qv fun Ay oT =>
  af c (.fieldA 0) [x7] oT fun Az pS =>
  af c (.load none) [Az] pS fun AA ob =>
  af c (.callF 126) [Ay, AA] ob fun CC ry =>
  af c (.bin .lss .num) [CC, (.int .i64 0)] ry fun xV pT =>
  af c .move [xV] pT fun j5 pU =>
  aj c j5 false (.fieldA 0) [x1] pU fun DQ qR =>
  aj c j5 false (.load none) [DQ] qR fun DR rA =>
  aj c j5 false (.fieldA 1) [x7] rA fun wo oc =>
  aj c j5 false (.load none) [wo] oc fun HX rB =>
  aj c j5 false (.callF 126) [DR, HX] rB fun BX tM =>
  aj c j5 false (.bin .lss .num) [BX, (.int .i64 0)] tM fun BZ tN =>
  af c .pick [j5, (.bool true), BZ] tN fun vT oU =>
  aH vT (
    af c .move [x8] oU fun B3 qP =>
    af c .move [B3] qP fun x2 qQ =>
    af c .move [(.int .i64 6)] qQ fun x3 tO =>
    k1 [x2, x3] tO) (
    aB .move [x6] fun B4 =>
  aB (.bin .gtr .num) [B4, (.int .i64 0)] fun qz =>
  aB .move [qz] fun iC =>
  cJ iC true (.fieldA 1) [x1] fun xW =>
  jB iC true (.load none) [xW] oU.heap (fun _ => true) fun B5 =>
  cJ iC true .move [x6] fun B6 =>
  cJ iC true (.bin .sub .num) [B6, (.int .i64 1)] fun B7 =>
  cJ iC true (.idxA 3 none) [B5, B7] fun B8 =>
  jB iC true (.load (some 3)) [B8] oU.heap (fun _ => true) fun B9 =>
  jB iC true (.load (some 3)) [x7] oU.heap (fun _ => true) fun oA =>
  sF iC true (af c (.callF 205) [B9, oA] oU fun Ca rD =>
  cJ iC true (.un .not) [Ca] fun uM =>
  aB .pick [iC, uM, (.bool false)] fun uN =>
  aH uN (
    af c .move [x8] rD fun uO xT =>
    af c .move [uO] xT fun x2 wm =>
    af c .move [(.int .i64 5)] wm fun x3 At =>
    k1 [x2, x3] At) (
    af c .move [x6] rD fun uP tI =>
  af c (.bin .geq .num) [uP, (.int .i64 256)] tI fun uQ uo =>
  aH uQ (
    af c .move [x8] uo fun uR xN =>
    af c .move [uR] xN fun x2 xO =>
    af c .move [(.int .i64 7)] xO fun x3 xP =>
    k1 [x2, x3] xP) (
    af c .move [x6] uo fun fM Ap =>
  af c (.bin .add .num) [fM, (.int .i64 1)] Ap fun ij Mj =>
  af c .move [ij] Mj fun x6 JK =>
  bZ c F k1 k4 n [x1, x6] JK))) (cJ iC true (.un .not) [.undef] fun uM =>
  aB .pick [iC, uM, (.bool false)] fun uN =>
  aH uN (
    af c .move [x8] oU fun uO Mk =>
    af c .move [uO] Mk fun x2 Ml =>
    af c .move [(.int .i64 5)] Ml fun x3 JL =>
    k1 [x2, x3] JL) (
    af c .move [x6] oU fun uP Rz =>
  af c (.bin .geq .num) [uP, (.int .i64 256)] Rz fun uQ JM =>
  aH uQ (
    af c .move [x8] JM fun uR Mm =>
    af c .move [uR] Mm fun x2 Mn =>
    af c .move [(.int .i64 7)] Mn fun x3 Mo =>
    k1 [x2, x3] Mo) (
    af c .move [x6] JM fun fM Mp =>
  af c (.bin .add .num) [fM, (.int .i64 1)] Mp fun ij Mq =>
  af c .move [ij] Mq fun x6 Mr =>
  bZ c F k1 k4 n [x1, x6] Mr)))))) (cJ mI false .pick [rC, .undef, (.bool false)] fun Au =>
  aB .pick [mI, (.bool true), Au] fun Av =>
  aH Av (
    af c .move [x8] jQ fun CB Ms =>
    af c .move [CB] Ms fun x2 FI =>
    af c .move [(.int .i64 23)] FI fun x3 DS =>
    k1 [x2, x3] DS) (
    af c (.fieldA 0) [x1] jQ fun Aw MS =>
  af c (.load none) [Aw] MS fun Ay FJ =>
  af c (.fieldA 0) [x7] FJ fun Az FK =>
  af c (.load none) [Az] FK fun AA FL =>
  af c (.callF 126) [Ay, AA] FL fun CC FM =>
  af c (.bin .lss .num) [CC, (.int .i64 0)] FM fun xV FN =>
  af c .move [xV] FN fun j5 FO =>
  aj c j5 false (.fieldA 0) [x1] FO fun DQ FP =>
  aj c j5 false (.load none) [DQ] FP fun DR DT =>
  aj c j5 false (.fieldA 1) [x7] DT fun wo MT =>
  aj c j5 false (.load none) [wo] MT fun HX FQ =>
  aj c j5 false (.callF 126) [DR, HX] FQ fun BX FR =>
  aj c j5 false (.bin .lss .num) [BX, (.int .i64 0)] FR fun BZ FT =>
  af c .pick [j5, (.bool true), BZ] FT fun vT uL =>
  aH vT (
    af c .move [x8] uL fun B3 FU =>
    af c .move [B3] FU fun x2 FV =>
    af c .move [(.int .i64 6)] FV fun x3 FW =>
    k1 [x2, x3] FW) (
    aB .move [x6] fun B4 =>
  aB (.bin .gtr .num) [B4, (.int .i64 0)] fun qz =>
  aB .move [qz] fun iC =>
  cJ iC true (.fieldA 1) [x1] fun xW =>
  jB iC true (.load none) [xW] uL.heap (fun _ => true) fun B5 =>
  cJ iC true .move [x6] fun B6 =>
  cJ iC true (.bin .sub .num) [B6, (.int .i64 1)] fun B7 =>
  cJ iC true (.idxA 3 none) [B5, B7] fun B8 =>
  jB iC true (.load (some 3)) [B8] uL.heap (fun _ => true) fun B9 =>
  jB iC true (.load (some 3)) [x7] uL.heap (fun _ => true) fun oA =>
  sF iC true (af c (.callF 205) [B9, oA] uL fun Ca Cb =>
  cJ iC true (.un .not) [Ca] fun uM =>
  aB .pick [iC, uM, (.bool false)] fun uN =>
  aH uN (
    af c .move [x8] Cb fun uO DU =>
    af c .move [uO] DU fun x2 MU =>
    af c .move [(.int .i64 5)] MU fun x3 Mt =>
    k1 [x2, x3] Mt) (
    af c .move [x6] Cb fun uP FX =>
  af c (.bin .geq .num) [uP, (.int .i64 256)] FX fun uQ DV =>
  aH uQ (
    af c .move [x8] DV fun uR DW =>
    af c .move [uR] DW fun x2 FY =>
    af c .move [(.int .i64 7)] FY fun x3 FZ =>
    k1 [x2, x3] FZ) (
    af c .move [x6] DV fun fM F0 =>
  af c (.bin .add .num) [fM, (.int .i64 1)] F0 fun ij F1 =>
  af c .move [ij] F1 fun x6 F2 =>
  bZ c F k1 k4 n [x1, x6] F2))) (cJ iC true (.un .not) [.undef] fun uM =>
  aB .pick [iC, uM, (.bool false)] fun uN =>
  aH uN (
    af c .move [x8] uL fun uO F3 =>
    af c .move [uO] F3 fun x2 F4 =>
    af c .move [(.int .i64 5)] F4 fun x3 F5 =>
    k1 [x2, x3] F5) (
    af c .move [x6] uL fun uP F6 =>
  af c (.bin .geq .num) [uP, (.int .i64 256)] F6 fun uQ DX =>
  aH uQ (
    af c .move [x8] DX fun uR F7 =>
    af c .move [uR] F7 fun x2 F8 =>
    af c .move [(.int .i64 7)] F8 fun x3 F9 =>
    k1 [x2, x3] F9) (
    af c .move [x6] DX fun fM Ga =>
  af c (.bin .add .num) [fM, (.int .i64 1)] Ga fun ij Gb =>
  af c .move [ij] Gb fun x6 Gc =>
  bZ c F k1 k4 n [x1, x6] Gc))))))) (
    k4 [] mb))
def jT (c : ai) (F : Nat) (x0 : AV) (s : St) : Option (AV × St) :=
  af c .box [x0] s fun x1 s0 =>
  af c .move [(.int .i64 0)] s0 fun x2 s1 =>
  af c .move [(.int .i64 0)] s1 fun x3 s2 =>
  af c .move [(.int .i64 0)] s2 fun x4 s3 =>
  eE c F (fun vs gq => az vs fun x2 vs => az vs fun x3 vs => bC vs (
    some (.tuple [x2, x3], gq))) (fun vs gu => az vs fun x1 vs => bC vs (
    af c .move [(.int .i64 0)] gu fun x6 iO =>
  bZ c F (fun vs BH => az vs fun x2 vs => az vs fun x3 vs => bC vs (
    some (.tuple [x2, x3], BH))) (fun vs BI => bC vs (
    af c .move [(.int .i64 0)] BI fun x2 BJ =>
  af c .move [(.int .i64 0)] BJ fun x3 BK =>
  some (.tuple [x2, x3], BK))) F [x1, x6] iO)) F [x1, x4] s3
def jk (c : ai) (F : Nat) : Env (AV × St) := gM [(0, fun K n => eE c F (K 1) (K 2) n), (1, fun K n => bZ c F (K 1) (K 4) n)]
theorem wM (c : ai) (F : Nat) : bK c F (jk c F) (cK dM fe 0).1 (cK dM fe 0).2 := dG (j := 0) (ins := [(.o .h), (.i (.o .h))]) (outs := [(1, [(.i .h), (.o (.o .h))]), (2, [(.o .h)])]) (s := (.seq none (.seq none .leaf (.cond .leaf .leaf)) (.seq none (.block (.seq none (.seq none .leaf (.seq none .leaf (.cond (.seq none .leaf .leaf) .leaf))) (.seq none (.seq none .leaf (.cond (.seq none .leaf .leaf) .leaf)) (.seq none .leaf (.cond (.seq none .leaf .leaf) .leaf))))) .leaf))) (by kernel_rfl) (fun _ _ _ => by kernel_rfl) (fun _ _ _ _ => by kernel_rfl)
theorem wN (c : ai) (F : Nat) : bK c F (jk c F) (cK dM fe 1).1 (cK dM fe 1).2 := dG (j := 1) (ins := [(.o .h), (.i (.i .h))]) (outs := [(1, [(.i .h), (.o (.o .h))]), (4, [])]) (s := (.seq none (.seq none .leaf (.cond .leaf .leaf)) (.seq none (.block (.seq none .leaf (.seq none .leaf (.seq none (.seq none .leaf (.cond (.seq none .leaf .leaf) .leaf)) (.seq none (.seq none .leaf (.cond (.seq none .leaf .leaf) .leaf)) (.seq none (.seq none .leaf (.cond (.seq none .leaf .leaf) .leaf)) (.seq none .leaf (.cond (.seq none .leaf .leaf) .leaf)))))))) .leaf))) (by kernel_rfl) (fun _ _ _ => by kernel_rfl) (fun _ _ _ _ => by kernel_rfl)
theorem yg (c : ai) (F : Nat) : ∀ x ∈ bM dM.code fe, bK c F (jk c F) x.1 x.2 := dA 2 (by kernel_rfl) fun i hi => match i, hi with | 0, _ => wM c F | 1, _ => wN c F | n + 2, h => absurd h (by omega)
theorem yh (c : ai) (F : Nat) (x0 : AV) (s : St) : jJ c F (jk c F) dM fe [x0] s = jT c F x0 s := by kernel_rfl
theorem oN {c : ai} (hc : Sem c) (F : Nat){x0 : AV} {s : St} {r : AV × St} (h : jT c F x0 s = some r) : c 124 [x0] s = some (tidy s r) := hc.of (A := dM) (by kernel_rfl) (by kernel_rfl) (yg _ F) (by rw [yh]; exact h)
def vG (c : ai) (F : Nat) (x0 : AV) (s : St) : Option (AV × St) :=
  af c .move [(.int .i64 0)] s fun x2 s0 =>
  af c .move [x0] s0 fun x3 s1 =>
  af c .move [x0] s1 fun x4 s2 =>
  af c (.lenB .l) [x4] s2 fun x5 s3 =>
  af c (.callF 65) [x3, x5] s3 fun x6 s4 =>
  af c .move [x6] s4 fun x2 s5 =>
  some (x2, s5)
theorem zH {c : ai} (hc : Sem c) (F : Nat){x0 : AV} {s : St} {r : AV × St} (h : vG c F x0 s = some r) : c 125 [x0] s = some (tidy s r) := hc.gR (A := g125.getD default) (F := F) (s := (.seq none .leaf (.seq none .leaf .leaf))) (by kernel_rfl) (by kernel_rfl) (by kernel_rfl) (by kernel_rfl) h
def kH : aK := g126.getD default
def nr : Sh := (.seq none .leaf (.seq none (.seq none .leaf (.block (.loop 0 [.h, (.o .h), (.o (.i .h))] [(1, [(.i (.o .h))]), (2, [])] (.seq none (.seq none .leaf (.cond .leaf .leaf)) (.seq none (.block (.seq none .leaf (.cond (.seq none .leaf .leaf) .leaf))) .leaf))))) (.seq none .leaf .leaf)))
def gC (c : ai) (F : Nat) (k1 k2 : List AV -> St -> Option (AV × St)) : Nat -> List AV -> St -> Option (AV × St)
  | 0, _, _ => none
  | n + 1, vs, s => az vs fun x0 vs => az vs fun x1 vs => az vs fun x5 vs => bC vs (
  af c .move [x5] s fun x6 s2 =>
  af c .move [x0] s2 fun x7 s3 =>
  af c (.lenB .l) [x7] s3 fun x8 s4 =>
  af c (.bin .lss .num) [x6, x8] s4 fun x9 s5 =>
  aH x9 (
    af c .move [x0] s5 fun aR s6 =>
  af c .move [x5] s6 fun aV s7 =>
  af c (.idxA 9 none) [aR, aV] s7 fun aS s8 =>
  af c (.fieldA 0) [aS] s8 fun aZ s9 =>
  af c (.load none) [aZ] s9 fun aT bk =>
  af c .move [x1] bk fun aW bu =>
  af c (.bin .eql .num) [aT, aW] bu fun bH bt =>
  aH bH (
    af c .move [x5] bt fun bF bA =>
    af c .move [bF] bA fun x4 bP =>
    k1 [x4] bP) (
    af c .move [x5] bt fun aJ bV =>
  af c (.bin .add .num) [aJ, (.int .i64 1)] bV fun aP b9 =>
  af c .move [aP] b9 fun x5 bX =>
  gC c F k1 k2 n [x0, x1, x5] bX)) (
    k2 [] s5))
def tF (c : ai) (F : Nat) (x0 x1 : AV) (s : St) : Option (AV × St) :=
  af c .move [(.int .i64 0)] s fun x4 s0 =>
  af c .move [(.int .i64 0)] s0 fun x5 s1 =>
  gC c F (fun vs ck => az vs fun x4 vs => bC vs (
    some (x4, ck))) (fun vs cj => bC vs (
    af c .move [(.int .i64 (-1))] cj fun x4 c9 =>
  some (x4, c9))) F [x0, x1, x5] s1
def q9 (c : ai) (F : Nat) : Env (AV × St) := gM [(0, fun K n => gC c F (K 1) (K 2) n)]
theorem D0 (c : ai) (F : Nat) : bK c F (q9 c F) (cK kH nr 0).1 (cK kH nr 0).2 := dG (j := 0) (ins := [.h, (.o .h), (.o (.i .h))]) (outs := [(1, [(.i (.o .h))]), (2, [])]) (s := (.seq none (.seq none .leaf (.cond .leaf .leaf)) (.seq none (.block (.seq none .leaf (.cond (.seq none .leaf .leaf) .leaf))) .leaf))) (by kernel_rfl) (fun _ _ _ => by kernel_rfl) (fun _ _ _ _ => by kernel_rfl)
theorem Ez (c : ai) (F : Nat) : ∀ x ∈ bM kH.code nr, bK c F (q9 c F) x.1 x.2 := dA 1 (by kernel_rfl) fun i hi => match i, hi with | 0, _ => D0 c F | n + 1, h => absurd h (by omega)
theorem EA (c : ai) (F : Nat) (x0 x1 : AV) (s : St) : jJ c F (q9 c F) kH nr [x0, x1] s = tF c F x0 x1 s := by kernel_rfl
theorem CJ {c : ai} (hc : Sem c) (F : Nat){x0 x1 : AV} {s : St} {r : AV × St} (h : tF c F x0 x1 s = some r) : c 126 [x0, x1] s = some (tidy s r) := hc.of (A := kH) (by kernel_rfl) (by kernel_rfl) (Ez _ F) (by rw [EA]; exact h)
def kI : aK := g127.getD default
def nu : Sh := (.seq none .leaf (.seq none (.seq none .leaf (.cond (.seq none .leaf .leaf) .leaf)) (.seq none (.seq none .leaf (.block (.loop 0 [.h, (.o (.o .h))] [(1, [(.i .h)]), (2, [])] (.seq none (.seq none .leaf (.cond .leaf .leaf)) (.seq none (.block (.seq none .leaf (.cond (.seq none .leaf .leaf) .leaf))) .leaf))))) (.seq none .leaf .leaf))))
def gy (c : ai) (F : Nat) (k1 k2 : List AV -> St -> Option (AV × St)) : Nat -> List AV -> St -> Option (AV × St)
  | 0, _, _ => none
  | n + 1, vs, s => az vs fun x0 vs => az vs fun x3 vs => bC vs (
  af c .move [x3] s fun aR bu =>
  af c .move [x0] bu fun aV bt =>
  af c (.lenB .s) [aV] bt fun aS bA =>
  af c (.bin .lss .num) [aR, aS] bA fun aZ bP =>
  aH aZ (
    af c .move [x0] bP fun bH bV =>
  af c .move [x3] bV fun bF b9 =>
  af c .idxS [bH, bF] b9 fun cR bX =>
  af c (.bin .lss .num) [cR, (.int .u8 97)] bX fun dw ck =>
  af c .move [dw] ck fun cD cj =>
  aj c cD false .move [x0] cj fun cS c9 =>
  aj c cD false .move [x3] c9 fun dW dS =>
  aj c cD false .idxS [cS, dW] dS fun dD dF =>
  aj c cD false (.bin .gtr .num) [dD, (.int .u8 122)] dF fun eO ey =>
  af c .pick [cD, (.bool true), eO] ey fun eP eA =>
  aH eP (
    af c .move [(.bool false)] eA fun x2 dI =>
    k1 [x2] dI) (
    af c .move [x3] eA fun aT eR =>
  af c (.bin .add .num) [aT, (.int .i64 1)] eR fun aW eB =>
  af c .move [aW] eB fun x3 e9 =>
  gy c F k1 k2 n [x0, x3] e9)) (
    k2 [] bP))
def tu (c : ai) (F : Nat) (x0 : AV) (s : St) : Option (AV × St) :=
  af c .move [(.bool false)] s fun x2 s0 =>
  af c .move [x0] s0 fun x4 s1 =>
  af c (.lenB .s) [x4] s1 fun x5 s2 =>
  af c (.bin .lss .num) [x5, (.int .i64 1)] s2 fun x6 s3 =>
  af c .move [x6] s3 fun x7 s4 =>
  aj c x7 false .move [x0] s4 fun x8 s5 =>
  aj c x7 false (.lenB .s) [x8] s5 fun x9 s6 =>
  aj c x7 false (.bin .gtr .num) [x9, (.int .i64 12)] s6 fun aJ s7 =>
  af c .pick [x7, (.bool true), aJ] s7 fun aP s8 =>
  aH aP (
    af c .move [(.bool false)] s8 fun x2 s9 =>
    some (x2, s9)) (
    af c .move [(.int .i64 0)] s8 fun x3 bk =>
  gy c F (fun vs eS => az vs fun x2 vs => bC vs (
    some (x2, eS))) (fun vs eN => bC vs (
    af c .move [(.bool true)] eN fun x2 fo =>
  some (x2, fo))) F [x0, x3] bk)
def rf (c : ai) (F : Nat) : Env (AV × St) := gM [(0, fun K n => gy c F (K 1) (K 2) n)]
theorem D1 (c : ai) (F : Nat) : bK c F (rf c F) (cK kI nu 0).1 (cK kI nu 0).2 := dG (j := 0) (ins := [.h, (.o (.o .h))]) (outs := [(1, [(.i .h)]), (2, [])]) (s := (.seq none (.seq none .leaf (.cond .leaf .leaf)) (.seq none (.block (.seq none .leaf (.cond (.seq none .leaf .leaf) .leaf))) .leaf))) (by kernel_rfl) (fun _ _ _ => by kernel_rfl) (fun _ _ _ _ => by kernel_rfl)
theorem EB (c : ai) (F : Nat) : ∀ x ∈ bM kI.code nu, bK c F (rf c F) x.1 x.2 := dA 1 (by kernel_rfl) fun i hi => match i, hi with | 0, _ => D1 c F | n + 1, h => absurd h (by omega)
theorem EC (c : ai) (F : Nat) (x0 : AV) (s : St) : jJ c F (rf c F) kI nu [x0] s = tu c F x0 s := by kernel_rfl
theorem CG {c : ai} (hc : Sem c) (F : Nat){x0 : AV} {s : St} {r : AV × St} (h : tu c F x0 s = some r) : c 127 [x0] s = some (tidy s r) := hc.of (A := kI) (by kernel_rfl) (by kernel_rfl) (EB _ F) (by rw [EC]; exact h)
def iq : aK := g128.getD default
def jU : Sh := (.seq none .leaf (.seq none (.seq none .leaf (.block (.loop 0 [.h, (.o .h), (.o (.i .h))] [(1, [(.i (.o .h))]), (2, [])] (.seq none (.seq none .leaf (.cond .leaf .leaf)) (.seq none (.block (.seq none .leaf (.cond (.seq none .leaf .leaf) .leaf))) .leaf))))) (.seq none .leaf .leaf)))
def dX (c : ai) (F : Nat) (k1 k2 : List AV -> St -> Option (AV × St)) : Nat -> List AV -> St -> Option (AV × St)
  | 0, _, _ => none
  | n + 1, vs, s => az vs fun x0 vs => az vs fun x1 vs => az vs fun x5 vs => bC vs (
  af c .move [x5] s fun x6 s2 =>
  af c .move [x0] s2 fun x7 s3 =>
  af c (.lenB .l) [x7] s3 fun x8 s4 =>
  af c (.bin .lss .num) [x6, x8] s4 fun x9 s5 =>
  aH x9 (
    af c .move [x0] s5 fun aR s6 =>
  af c .move [x5] s6 fun aV s7 =>
  af c (.idxA 7 none) [aR, aV] s7 fun aS s8 =>
  af c (.fieldA 0) [aS] s8 fun aZ s9 =>
  af c (.load none) [aZ] s9 fun aT bk =>
  af c .move [x1] bk fun aW bu =>
  af c (.bin .eql .num) [aT, aW] bu fun bH bt =>
  aH bH (
    af c .move [x5] bt fun bF bA =>
    af c .move [bF] bA fun x4 bP =>
    k1 [x4] bP) (
    af c .move [x5] bt fun aJ bV =>
  af c (.bin .add .num) [aJ, (.int .i64 1)] bV fun aP b9 =>
  af c .move [aP] b9 fun x5 bX =>
  dX c F k1 k2 n [x0, x1, x5] bX)) (
    k2 [] s5))
def ow (c : ai) (F : Nat) (x0 x1 : AV) (s : St) : Option (AV × St) :=
  af c .move [(.int .i64 0)] s fun x4 s0 =>
  af c .move [(.int .i64 0)] s0 fun x5 s1 =>
  dX c F (fun vs ck => az vs fun x4 vs => bC vs (
    some (x4, ck))) (fun vs cj => bC vs (
    af c .move [(.int .i64 (-1))] cj fun x4 c9 =>
  some (x4, c9))) F [x0, x1, x5] s1
def mW (c : ai) (F : Nat) : Env (AV × St) := gM [(0, fun K n => dX c F (K 1) (K 2) n)]
theorem yA (c : ai) (F : Nat) : bK c F (mW c F) (cK iq jU 0).1 (cK iq jU 0).2 := dG (j := 0) (ins := [.h, (.o .h), (.o (.i .h))]) (outs := [(1, [(.i (.o .h))]), (2, [])]) (s := (.seq none (.seq none .leaf (.cond .leaf .leaf)) (.seq none (.block (.seq none .leaf (.cond (.seq none .leaf .leaf) .leaf))) .leaf))) (by kernel_rfl) (fun _ _ _ => by kernel_rfl) (fun _ _ _ _ => by kernel_rfl)
theorem zL (c : ai) (F : Nat) : ∀ x ∈ bM iq.code jU, bK c F (mW c F) x.1 x.2 := dA 1 (by kernel_rfl) fun i hi => match i, hi with | 0, _ => yA c F | n + 1, h => absurd h (by omega)
theorem zM (c : ai) (F : Nat) (x0 x1 : AV) (s : St) : jJ c F (mW c F) iq jU [x0, x1] s = ow c F x0 x1 s := by kernel_rfl
theorem xS {c : ai} (hc : Sem c) (F : Nat){x0 x1 : AV} {s : St} {r : AV × St} (h : ow c F x0 x1 s = some r) : c 128 [x0, x1] s = some (tidy s r) := hc.of (A := iq) (by kernel_rfl) (by kernel_rfl) (zL _ F) (by rw [zM]; exact h)
def Hq (c : ai) (F : Nat) (x0 : AV) (s : St) : Option (AV × St) :=
  af c .move [(.bool false)] s fun x2 s0 =>
  af c .move [x0] s0 fun x6 s1 =>
  af c (.callF 99) [x6] s1 fun x7 s2 =>
  af c .move [x7] s2 fun x5 s3 =>
  af c (.extract 0) [x5] s3 fun x8 s4 =>
  af c (.extract 1) [x5] s4 fun x9 s5 =>
  af c .move [x8] s5 fun x3 s6 =>
  af c .move [x9] s6 fun x4 s7 =>
  af c .move [x4] s7 fun aJ s8 =>
  af c (.bin .eql .num) [aJ, (.int .i64 0)] s8 fun aP s9 =>
  af c .move [aP] s9 fun x2 bk =>
  some (x2, bk)
theorem IG {c : ai} (hc : Sem c) (F : Nat){x0 : AV} {s : St} {r : AV × St} (h : Hq c F x0 s = some r) : c 135 [x0] s = some (tidy s r) := hc.gR (A := g135.getD default) (F := F) (s := (.seq none .leaf (.seq none .leaf (.seq none .leaf .leaf)))) (by kernel_rfl) (by kernel_rfl) (by kernel_rfl) (by kernel_rfl) h
def JC (c : ai) (F : Nat) (x0 : AV) (s : St) : Option (AV × St) :=
  af c .box [x0] s fun x1 s0 =>
  af c .move [(.int .i64 0)] s0 fun x2 s1 =>
  af c (.fieldA 1) [x1] s1 fun x6 s2 =>
  af c (.load none) [x6] s2 fun x7 s3 =>
  af c (.callF 208) [x7] s3 fun x8 s4 =>
  af c .move [x8] s4 fun x5 s5 =>
  af c (.extract 0) [x5] s5 fun x9 s6 =>
  af c (.extract 1) [x5] s6 fun aJ s7 =>
  af c (.alloc [(.str []), .aq, .aq, .aq, .aq, .aq]) [] s7 fun x3 s8 =>
  af c (.store 6) [x3, x9] s8 fun _ s9 =>
  af c .move [aJ] s9 fun x4 bk =>
  af c .move [x4] bk fun aP bu =>
  af c (.un .not) [aP] bu fun aR bt =>
  aH aR (
    af c .move [(.int .i64 0)] bt fun x2 bA =>
    some (x2, bA)) (
    af c (.fieldA 1) [x3] bt fun aV bP =>
  af c (.load none) [aV] bP fun aS bV =>
  af c (.fieldA 2) [x1] bV fun aZ b9 =>
  af c (.load none) [aZ] b9 fun aT bX =>
  af c (.fieldA 3) [x1] bX fun aW ck =>
  af c (.load none) [aW] ck fun bH cj =>
  af c .callV [aS, aT, bH] cj fun bF c9 =>
  af c .move [bF] c9 fun x2 dS =>
  some (x2, dS))
theorem J7 {c : ai} (hc : Sem c) (F : Nat){x0 : AV} {s : St} {r : AV × St} (h : JC c F x0 s = some r) : c 136 [x0] s = some (tidy s r) := hc.gR (A := g136.getD default) (F := F) (s := (.seq none .leaf (.seq none .leaf (.seq none (.seq none .leaf (.cond (.seq none .leaf .leaf) .leaf)) (.seq none .leaf .leaf))))) (by kernel_rfl) (by kernel_rfl) (by kernel_rfl) (by kernel_rfl) h
def iu (c : ai) (F : Nat) (x0 : AV) (s : St) : Option (AV × St) :=
  af c .move [.av] s fun x2 s0 =>
  af c .move [x0] s0 fun x3 s1 =>
  af c (.bin .eql .slice) [x3, .av] s1 fun x4 s2 =>
  aH x4 (
    af c .move [.av] s2 fun x2 s3 =>
    some (x2, s3)) (
    af c (.buildSlice 1 0 [(.str [])] []) [] s2 fun x5 s4 =>
  af c .move [x0] s4 fun x6 s5 =>
  af c (.append 1 16) [x5, x6] s5 fun x7 s6 =>
  af c .move [x7] s6 fun x2 s7 =>
  some (x2, s7))
theorem jf {c : ai} (hc : Sem c) (F : Nat){x0 : AV} {s : St} {r : AV × St} (h : iu c F x0 s = some r) : c 147 [x0] s = some (tidy s r) := hc.gR (A := g147.getD default) (F := F) (s := (.seq none .leaf (.seq none (.seq none .leaf (.cond (.seq none .leaf .leaf) .leaf)) (.seq none .leaf .leaf)))) (by kernel_rfl) (by kernel_rfl) (by kernel_rfl) (by kernel_rfl) h
def uk (c : ai) (F : Nat) (x0 x1 x2 : AV) (s : St) : Option (AV × St) :=
  af c .move [(.bool false)] s fun x6 s0 =>
  af c .move [x1] s0 fun x7 s1 =>
  af c .move [x0] s1 fun x8 s2 =>
  af c (.bin .leq .num) [x7, x8] s2 fun x9 s3 =>
  af c .move [x9] s3 fun aJ s4 =>
  aj c aJ true .move [x0] s4 fun aP s5 =>
  aj c aJ true .move [x2] s5 fun aR s6 =>
  aj c aJ true (.bin .leq .num) [aP, aR] s6 fun aV s7 =>
  af c .pick [aJ, aV, (.bool false)] s7 fun aS s8 =>
  af c .move [aS] s8 fun x6 s9 =>
  some (x6, s9)
theorem yp {c : ai} (hc : Sem c) (F : Nat){x0 x1 x2 : AV} {s : St} {r : AV × St} (h : uk c F x0 x1 x2 s = some r) : c 153 [x0, x1, x2] s = some (tidy s r) := hc.gR (A := g153.getD default) (F := F) (s := (.seq none .leaf (.seq none .leaf .leaf))) (by kernel_rfl) (by kernel_rfl) (by kernel_rfl) (by kernel_rfl) h
def Cz (c : ai) (F : Nat) (x0 : AV) (s : St) : Option (AV × St) :=
  af c .move [(.int .i64 0)] s fun x2 s0 =>
  af c .move [x0] s0 fun x3 s1 =>
  af c (.lenB .l) [x3] s1 fun x4 s2 =>
  af c (.bin .eql .num) [x4, (.int .i64 0)] s2 fun x5 s3 =>
  aH x5 (
    af c .move [(.int .i64 0)] s3 fun x2 s4 =>
    some (x2, s4)) (
    af c .move [x0] s3 fun x6 s5 =>
  af c .move [x0] s5 fun x7 s6 =>
  af c (.lenB .l) [x7] s6 fun x8 s7 =>
  af c (.bin .sub .num) [x8, (.int .i64 1)] s7 fun x9 s8 =>
  af c (.idxA 7 none) [x6, x9] s8 fun aJ s9 =>
  af c (.load (some 7)) [aJ] s9 fun aP bk =>
  af c (.callF 136) [aP] bk fun aR bu =>
  af c .move [aR] bu fun x2 bt =>
  some (x2, bt))
theorem Ey {c : ai} (hc : Sem c) (F : Nat){x0 : AV} {s : St} {r : AV × St} (h : Cz c F x0 s = some r) : c 155 [x0] s = some (tidy s r) := hc.gR (A := g155.getD default) (F := F) (s := (.seq none .leaf (.seq none (.seq none .leaf (.cond (.seq none .leaf .leaf) .leaf)) (.seq none .leaf .leaf)))) (by kernel_rfl) (by kernel_rfl) (by kernel_rfl) (by kernel_rfl) h
def JG (c : ai) (F : Nat) (s : St) : Option (AV × St) :=
  af c .move [.cU] s fun x0 s0 =>
  af c .mkMap [] s0 fun x1 s1 =>
  af c (.build [.av, .av, .iy] [(2, 1)]) [x1] s1 fun x2 s2 =>
  af c .box [x2] s2 fun x3 s3 =>
  af c .move [x3] s3 fun x0 s4 =>
  some (x0, s4)
theorem Kf {c : ai} (hc : Sem c) (F : Nat){x : AV} {s : St} {r : AV × St} (h : JG c F s = some r) : c 160 [] s = some (tidy s r) := hc.gR (A := g160.getD default) (F := F) (s := (.seq none .leaf (.seq none .leaf .leaf))) (by kernel_rfl) (by kernel_rfl) (by kernel_rfl) (by kernel_rfl) h
def lz (c : ai) (F : Nat) (x0 x1 : AV) (s : St) : Option (AV × St) :=
  af c .box [x1] s fun x3 s0 =>
  af c .move [(.int .i64 0)] s0 fun x4 s1 =>
  af c .move [x0] s1 fun x8 s2 =>
  af c (.callF 168) [x8] s2 fun x9 s3 =>
  aH x9 (
    af c .move [(.int .i64 1)] s3 fun x4 s4 =>
    some (x4, s4)) (
    af c (.load (some 9)) [x3] s3 fun aJ s5 =>
  af c (.callF 225) [aJ] s5 fun aP s6 =>
  af c .move [aP] s6 fun x5 s7 =>
  af c .move [x5] s7 fun aR s8 =>
  af c (.bin .neq .num) [aR, (.int .i64 0)] s8 fun aV s9 =>
  aH aV (
    af c .move [x5] s9 fun aS bk =>
    af c .move [aS] bk fun x4 bu =>
    some (x4, bu)) (
    aB .move [x0] fun aT =>
  aB .nilCheck [aT] fun aW =>
  aB (.fieldA 2) [aW] fun bH =>
  eF (.load none) [bH] s9.heap (fun _ => true) fun bF =>
  aB (.fieldA 0) [x3] fun cR =>
  eF (.load none) [cR] s9.heap (fun _ => true) fun dw =>
  eF (.lookup .s (.int .i64 0) true) [bF, dw] s9.heap (fun _ => true) fun cD =>
  aB .move [cD] fun aZ =>
  aB (.extract 0) [aZ] fun cS =>
  aB (.extract 1) [aZ] fun dW =>
  aB .move [cS] fun x6 =>
  aB .move [dW] fun x7 =>
  af c .move [x7] s9 fun dD bt =>
  aH dD (
    af c .move [(.int .i64 5)] bt fun x4 bA =>
    some (x4, bA)) (
    af c .move [x0] bt fun eO bP =>
  af c .nilCheck [eO] bP fun eP bV =>
  af c (.fieldA 0) [eP] bV fun fL b9 =>
  af c (.fieldA 0) [fL] b9 fun fX bX =>
  af c (.load none) [fX] bX fun cT ck =>
  af c (.lenB .l) [cT] ck fun dL cj =>
  af c (.bin .eql .num) [dL, (.int .i64 64)] cj fun b8 c9 =>
  aH b8 (
    af c .move [(.int .i64 7)] c9 fun x4 dS =>
    some (x4, dS)) (
    aB .move [x0] fun iL =>
  aB .nilCheck [iL] fun gH =>
  aB (.fieldA 2) [gH] fun fc =>
  eF (.load none) [fc] c9.heap (fun _ => true) fun iQ =>
  aB (.fieldA 0) [x3] fun gm =>
  eF (.load none) [gm] c9.heap (fun _ => true) fun iR =>
  aB .move [x0] fun eT =>
  aB .nilCheck [eT] fun jD =>
  aB (.fieldA 0) [jD] fun jw =>
  aB (.fieldA 0) [jw] fun gQ =>
  eF (.load none) [gQ] c9.heap (fun _ => true) fun jE =>
  aB (.lenB .l) [jE] fun ki =>
  af c (.mapSet .s) [iQ, iR, ki] c9 fun _ dF =>
  eF (.load (some 9)) [x3] dF.heap (fun _ => true) fun kG =>
  af c (.callF 226) [kG] dF fun kj ey =>
  aB .move [x0] fun lU =>
  aB .nilCheck [lU] fun fM =>
  aB (.fieldA 0) [fM] fun ij =>
  aB (.fieldA 0) [ij] fun gI =>
  eF (.load none) [gI] ey.heap (fun v => fP (.load none) [gI] v (fN [] dF.heap) && true) fun mM =>
  Ju (.buildSlice 9 1 [(.str []), (.str []), (.str []), (.int .i64 0), (.int .i64 0), (.str []), (.bool false), (.bool false), .av] [0]) [kj] ey fun jO b24 =>
  af c (.append 9 112) [mM, jO] (au ey b24) fun iT dI =>
  aB .move [x0] fun iM =>
  aB .nilCheck [iM] fun lV =>
  aB (.fieldA 0) [lV] fun ko =>
  aB (.fieldA 0) [ko] fun jP =>
  af c (.store 1) [jP, iT] dI fun _ eR =>
  af c .move [(.int .i64 0)] eR fun x4 eB =>
  some (x4, eB)))))
theorem vF {c : ai} (hc : Sem c) (F : Nat){x0 x1 : AV} {s : St} {r : AV × St} (h : lz c F x0 x1 s = some r) : c 161 [x0, x1] s = some (tidy s r) := hc.gR (A := g161.getD default) (F := F) (s := (.seq none .leaf (.seq none (.seq none .leaf (.cond (.seq none .leaf .leaf) .leaf)) (.seq none (.seq none .leaf (.seq none .leaf (.cond (.seq none .leaf .leaf) .leaf))) (.seq none (.seq none .leaf (.seq none .leaf (.cond (.seq none .leaf .leaf) .leaf))) (.seq none (.seq none .leaf (.cond (.seq none .leaf .leaf) .leaf)) (.seq none .leaf (.seq none .leaf (.seq none .leaf .leaf))))))))) (by kernel_rfl) (by kernel_rfl) (by kernel_rfl) (by kernel_rfl) h
def E3 (c : ai) (F : Nat) (x0 x1 : AV) (s : St) : Option (AV × St) :=
  af c .box [x0] s fun x2 s0 =>
  af c .box [x1] s0 fun x3 s1 =>
  af c .move [(.int .i64 0)] s1 fun x4 s2 =>
  af c (.fieldA 0) [x2] s2 fun x6 s3 =>
  af c (.load none) [x6] s3 fun x7 s4 =>
  af c (.fieldA 0) [x3] s4 fun x8 s5 =>
  af c (.load none) [x8] s5 fun x9 s6 =>
  af c (.callF 227) [x7, x9] s6 fun aJ s7 =>
  af c .move [aJ] s7 fun x5 s8 =>
  af c .move [x5] s8 fun aP s9 =>
  af c (.bin .neq .num) [aP, (.int .i64 0)] s9 fun aR bk =>
  aH aR (
    af c .move [x5] bk fun aV bu =>
    af c .move [aV] bu fun x4 bt =>
    some (x4, bt)) (
    af c (.fieldA 1) [x2] bk fun aS bA =>
  af c (.load none) [aS] bA fun aZ bP =>
  af c (.fieldA 1) [x3] bP fun aT bV =>
  af c (.load none) [aT] bV fun aW b9 =>
  af c (.callF 227) [aZ, aW] b9 fun bH bX =>
  af c .move [bH] bX fun x4 ck =>
  some (x4, ck))
theorem Hw {c : ai} (hc : Sem c) (F : Nat){x0 x1 : AV} {s : St} {r : AV × St} (h : E3 c F x0 x1 s = some r) : c 162 [x0, x1] s = some (tidy s r) := hc.gR (A := g162.getD default) (F := F) (s := (.seq none .leaf (.seq none (.seq none .leaf (.seq none .leaf (.cond (.seq none .leaf .leaf) .leaf))) (.seq none .leaf .leaf)))) (by kernel_rfl) (by kernel_rfl) (by kernel_rfl) (by kernel_rfl) h
def lX : aK := g163.getD default
def oE : Sh := (.seq none .leaf (.seq none (.seq none .leaf (.cond (.seq none .leaf .leaf) .leaf)) (.seq none (.seq none .leaf (.cond (.seq none .leaf .leaf) .leaf)) (.seq none (.seq none .leaf (.block (.loop 0 [.h, (.o .h), (.i .h), (.o (.o .h)), (.i (.i (.i (.i .h)))), (.o (.o (.o (.o (.o .h))))), (.i (.o (.o (.o (.o .h)))))] [(1, [(.i (.o (.o .h)))]), (2, [.h, (.o .h), (.i .h), (.o (.o .h))])] (.seq none .leaf (.seq none (.cond .leaf .leaf) (.seq none (.block (.seq none .leaf (.seq none .leaf (.seq none .leaf (.cond (.seq none .leaf .leaf) .leaf))))) .leaf)))))) (.seq none .leaf (.seq none (.seq none .leaf (.cond (.seq none .leaf .leaf) .leaf)) (.seq none (.seq none .leaf (.cond (.seq none .leaf .leaf) .leaf)) (.seq none .leaf (.seq none .leaf .leaf)))))))))
def fW (c : ai) (F : Nat) (k1 k2 : List AV -> St -> Option (AV × St)) : Nat -> List AV -> St -> Option (AV × St)
  | 0, _, _ => none
  | n + 1, vs, s => az vs fun x0 vs => az vs fun x1 vs => az vs fun x2 vs => az vs fun x3 vs => az vs fun cT vs => az vs fun dL vs => az vs fun b8 vs => bC vs (
  af c (.bin .lss .num) [b8, dL] s fun iL dS =>
  aH iL (
    af c (.idxA 1 none) [cT, b8] dS fun gH dF =>
  af c (.load none) [gH] dF fun fc ey =>
  af c .move [fc] ey fun aJ eA =>
  af c .move [x0] eA fun gm dI =>
  af c .nilCheck [gm] dI fun iR eR =>
  af c (.fieldA 2) [iR] eR fun eT eB =>
  af c (.load none) [eT] eB fun jD e9 =>
  af c .move [aJ] e9 fun jw eS =>
  af c (.lookup .s (.int .i64 0) true) [jD, jw] eS fun gQ eN =>
  af c .move [gQ] eN fun iQ fo =>
  af c (.extract 0) [iQ] fo fun jE gP =>
  af c (.extract 1) [iQ] gP fun ki gB =>
  af c .move [jE] gB fun aP gq =>
  af c .move [ki] gq fun aR gu =>
  af c .move [aR] gu fun iM iO =>
  af c (.un .not) [iM] iO fun lU jb =>
  aH lU (
    af c .move [(.int .i64 6)] jb fun x8 jd =>
    k1 [x8] jd) (
    af c (.bin .add .num) [b8, (.int .i64 1)] jb fun fM jv =>
  af c .move [fM] jv fun b8 mJ =>
  fW c F k1 k2 n [x0, x1, x2, x3, cT, dL, b8] mJ)) (
    k2 [x0, x1, x2, x3] dS))
def jM (c : ai) (F : Nat) (x0 x1 x2 x3 : AV) (s : St) : Option (AV × St) :=
  af c .move [(.int .i64 0)] s fun x8 s0 =>
  af c .move [x0] s0 fun aZ s1 =>
  af c (.callF 168) [aZ] s1 fun aT s2 =>
  aH aT (
    af c .move [(.int .i64 1)] s2 fun x8 s3 =>
    some (x8, s3)) (
    af c .move [x3] s2 fun aW s4 =>
  af c (.bin .neq .num) [aW, (.int .u8 1)] s4 fun bH s5 =>
  af c .move [bH] s5 fun bF s6 =>
  aj c bF true .move [x3] s6 fun cR s7 =>
  aj c bF true (.bin .neq .num) [cR, (.int .u8 2)] s7 fun dw s8 =>
  af c .pick [bF, dw, (.bool false)] s8 fun cD s9 =>
  af c .move [cD] s9 fun cS bk =>
  aj c cS false .move [x1] bk fun dW bu =>
  aj c cS false .move [x2] bu fun dD bt =>
  aj c cS false (.bin .eql .num) [dW, dD] bt fun eO bA =>
  af c .pick [cS, (.bool true), eO] bA fun eP bP =>
  aH eP (
    af c .move [(.int .i64 23)] bP fun x8 bV =>
    some (x8, bV)) (
    af c .move [x1] bP fun fL b9 =>
  af c .move [x2] b9 fun fX bX =>
  af c (.buildSlice 1 2 [(.str [])] [0, 1]) [fL, fX] bX fun cT ck =>
  af c (.lenB .l) [cT] ck fun dL cj =>
  af c .move [(.int .i64 0)] cj fun b8 c9 =>
  fW c F (fun vs mb => az vs fun x8 vs => bC vs (
    some (x8, mb))) (fun vs mK => az vs fun x0 vs => az vs fun x1 vs => az vs fun x2 vs => az vs fun x3 vs => bC vs (
    af c .move [x0] mK fun gI nH =>
  af c .move [x1] nH fun mM mL =>
  af c .move [x2] mL fun kG jZ =>
  af c (.callF 169) [gI, mM, kG] jZ fun kj nI =>
  af c .move [kj] nI fun ij nh =>
  af c (.extract 0) [ij] nh fun jO ni =>
  af c (.extract 1) [ij] ni fun iT nJ =>
  af c .move [jO] nJ fun aV n4 =>
  af c .move [iT] n4 fun aS oO =>
  af c .move [aS] oO fun lV n6 =>
  aH lV (
    af c .move [(.int .i64 5)] n6 fun x8 n8 =>
    some (x8, n8)) (
    af c .move [x0] n6 fun ko jQ =>
  af c .nilCheck [ko] jQ fun jP nK =>
  af c (.fieldA 0) [jP] nK fun oP nL =>
  af c (.fieldA 1) [oP] nL fun j0 oQ =>
  af c (.load none) [j0] oQ fun n9 oa =>
  af c (.lenB .l) [n9] oa fun oR qv =>
  af c (.bin .eql .num) [oR, (.int .i64 256)] qv fun lq oT =>
  aH lq (
    af c .move [(.int .i64 7)] oT fun x8 pS =>
    some (x8, pS)) (
    aB .move [x1] fun tL =>
  aB .move [x2] fun qx =>
  aB .move [x3] fun vI =>
  af c (.callF 229) [tL, qx, vI] oT fun vJ ob =>
  aB .move [x0] fun qw =>
  aB .nilCheck [qw] fun mg =>
  aB (.fieldA 0) [mg] fun ru =>
  aB (.fieldA 1) [ru] fun mO =>
  eF (.load none) [mO] ob.heap (fun v => fP (.load none) [mO] v (fN [] oT.heap) && true) fun tJ =>
  aB .move [aV] fun tK =>
  Ju (.buildSlice 3 1 [(.str []), (.str []), (.int .u8 0)] [0]) [vJ] ob fun mI b63 =>
  af c (.callF 228) [tJ, tK, mI] (au ob b63) fun oV pT =>
  aB .move [x0] fun mN =>
  aB .nilCheck [mN] fun sJ =>
  aB (.fieldA 0) [sJ] fun rC =>
  aB (.fieldA 1) [rC] fun tP =>
  af c (.store 1) [tP, oV] pT fun _ pU =>
  af c .move [(.int .i64 0)] pU fun x8 qR =>
  some (x8, qR))))) F [x0, x1, x2, x3, cT, dL, b8] c9))
def sg (c : ai) (F : Nat) : Env (AV × St) := gM [(0, fun K n => fW c F (K 1) (K 2) n)]
theorem ED (c : ai) (F : Nat) : bK c F (sg c F) (cK lX oE 0).1 (cK lX oE 0).2 := dG (j := 0) (ins := [.h, (.o .h), (.i .h), (.o (.o .h)), (.i (.i (.i (.i .h)))), (.o (.o (.o (.o (.o .h))))), (.i (.o (.o (.o (.o .h)))))]) (outs := [(1, [(.i (.o (.o .h)))]), (2, [.h, (.o .h), (.i .h), (.o (.o .h))])]) (s := (.seq none .leaf (.seq none (.cond .leaf .leaf) (.seq none (.block (.seq none .leaf (.seq none .leaf (.seq none .leaf (.cond (.seq none .leaf .leaf) .leaf))))) .leaf)))) (by kernel_rfl) (fun _ _ _ => by kernel_rfl) (fun _ _ _ _ => by kernel_rfl)
theorem Gg (c : ai) (F : Nat) : ∀ x ∈ bM lX.code oE, bK c F (sg c F) x.1 x.2 := dA 1 (by kernel_rfl) fun i hi => match i, hi with | 0, _ => ED c F | n + 1, h => absurd h (by omega)
theorem Gh (c : ai) (F : Nat) (x0 x1 x2 x3 : AV) (s : St) : jJ c F (sg c F) lX oE [x0, x1, x2, x3] s = jM c F x0 x1 x2 x3 s := by kernel_rfl
theorem qp {c : ai} (hc : Sem c) (F : Nat){x0 x1 x2 x3 : AV} {s : St} {r : AV × St} (h : jM c F x0 x1 x2 x3 s = some r) : c 163 [x0, x1, x2, x3] s = some (tidy s r) := hc.of (A := lX) (by kernel_rfl) (by kernel_rfl) (Gg _ F) (by rw [Gh]; exact h)
def zc (c : ai) (F : Nat) (x0 : AV) (s : St) : Option (AV × St) :=
  af c .move [(.bool false)] s fun x2 s0 =>
  af c .move [x0] s0 fun x3 s1 =>
  af c (.bin .eql .ptr) [x3, .cU] s1 fun x4 s2 =>
  af c .move [x4] s2 fun x5 s3 =>
  aj c x5 false .move [x0] s3 fun x6 s4 =>
  aj c x5 false .nilCheck [x6] s4 fun x7 s5 =>
  aj c x5 false (.fieldA 2) [x7] s5 fun x8 s6 =>
  aj c x5 false (.load none) [x8] s6 fun x9 s7 =>
  aj c x5 false (.bin .eql .map) [x9, .iy] s7 fun aJ s8 =>
  af c .pick [x5, (.bool true), aJ] s8 fun aP s9 =>
  af c .move [aP] s9 fun x2 bk =>
  some (x2, bk)
theorem CM {c : ai} (hc : Sem c) (F : Nat){x0 : AV} {s : St} {r : AV × St} (h : zc c F x0 s = some r) : c 168 [x0] s = some (tidy s r) := hc.gR (A := g168.getD default) (F := F) (s := (.seq none .leaf (.seq none .leaf .leaf))) (by kernel_rfl) (by kernel_rfl) (by kernel_rfl) (by kernel_rfl) h
def xM (c : ai) (F : Nat) (x0 x1 x2 : AV) (s : St) : Option (AV × St) :=
  af c .move [(.int .i64 0)] s fun x6 s0 =>
  af c .move [(.bool false)] s0 fun x7 s1 =>
  aB .move [x1] fun aV =>
  aB .move [x2] fun aS =>
  af c (.callF 229) [aV, aS, (.int .u8 0)] s1 fun aZ s2 =>
  aB .move [x0] fun x8 =>
  aB .nilCheck [x8] fun x9 =>
  aB (.fieldA 0) [x9] fun aJ =>
  aB (.fieldA 1) [aJ] fun aP =>
  eF (.load none) [aP] s2.heap (fun v => fP (.load none) [aP] v (fN [] s1.heap) && true) fun aR =>
  af c (.callF 232) [aR, aZ, (.func 162 [] [])] s2 fun aT s3 =>
  aB (.extract 0) [aT] fun aW =>
  aB (.extract 1) [aT] fun bH =>
  aB .move [aW] fun x6 =>
  aB .move [bH] fun x7 =>
  some (.tuple [x6, x7], s3)
theorem BP {c : ai} (hc : Sem c) (F : Nat){x0 x1 x2 : AV} {s : St} {r : AV × St} (h : xM c F x0 x1 x2 s = some r) : c 169 [x0, x1, x2] s = some (tidy s r) := hc.gR (A := g169.getD default) (F := F) (s := (.seq none .leaf (.seq none .leaf .leaf))) (by kernel_rfl) (by kernel_rfl) (by kernel_rfl) (by kernel_rfl) h
def qC : aK := g182.getD default
def tV : Sh := (.seq none .leaf (.seq none .leaf (.seq none .leaf (.seq none (.block (.seq none .leaf (.cond (.seq none .leaf .leaf) (.seq none .leaf (.cond (.seq none .leaf .leaf) .leaf))))) (.seq none (.seq none .leaf (.block (.loop 0 [(.o .h), (.o (.o .h)), (.i (.o .h)), (.i (.i (.o (.o .h)))), (.o (.o (.i (.o .h)))), (.i (.o (.i (.o .h))))] [(1, [(.i .h)]), (3, [(.o .h)])] (.seq none .leaf (.seq none (.cond .leaf .leaf) (.seq none (.block (.seq none .leaf (.seq none (.seq none .leaf (.cond (.seq none .leaf .leaf) .leaf)) .leaf))) .leaf)))))) (.seq none (.seq none .leaf (.cond (.seq none .leaf .leaf) .leaf)) (.seq none .leaf .leaf)))))))
def kA (c : ai) (F : Nat) (k1 k3 : List AV -> St -> Option (AV × St)) : Nat -> List AV -> St -> Option (AV × St)
  | 0, _, _ => none
  | n + 1, vs, s => az vs fun x1 vs => az vs fun x3 vs => az vs fun x4 vs => az vs fun bH vs => az vs fun bF vs => az vs fun cR vs => bC vs (
  af c (.bin .lss .num) [cR, bF] s fun dw c9 =>
  aH dw (
    af c (.idxA 1 none) [bH, cR] c9 fun cD dS =>
  af c (.load none) [cD] dS fun cS dF =>
  af c .move [cS] dF fun x6 ey =>
  af c .move [x6] ey fun dW eA =>
  af c .move [x4] eA fun dD dI =>
  af c (.bin .leq .num) [dW, dD] dI fun eO eR =>
  af c .move [eO] eR fun eP eB =>
  aj c eP false .move [x6] eB fun fL e9 =>
  aj c eP false .move [x3] e9 fun fX eS =>
  aj c eP false (.bin .geq .num) [fL, fX] eS fun cT eN =>
  af c .pick [eP, (.bool true), cT] eN fun dL fo =>
  aH dL (
    af c .move [(.int .i64 11)] fo fun x2 gP =>
    k1 [x2] gP) (
    af c .move [x6] fo fun b8 gB =>
  af c .move [b8] gB fun x4 gq =>
  af c (.bin .add .num) [cR, (.int .i64 1)] gq fun iL gu =>
  af c .move [iL] gu fun cR iO =>
  kA c F k1 k3 n [x1, x3, x4, bH, bF, cR] iO)) (
    k3 [x1] c9))
def Bz (c : ai) (F : Nat) (x0 : AV) (s : St) : Option (AV × St) :=
  af c .box [x0] s fun x1 s0 =>
  af c .move [(.int .i64 0)] s0 fun x2 s1 =>
  af c (.load (some 7)) [x1] s1 fun x7 s2 =>
  af c (.callF 136) [x7] s2 fun x8 s3 =>
  af c .move [x8] s3 fun x3 s4 =>
  af c .move [(.int .i64 (-1))] s4 fun x4 s5 =>
  af c (.fieldA 0) [x1] s5 fun aJ s6 =>
  af c (.load none) [aJ] s6 fun aP s7 =>
  af c (.callF 241) [aP] s7 fun aR s8 =>
  af c (.un .not) [aR] s8 fun aV s9 =>
  af c .move [aV] s9 fun x9 bk =>
  aH x9 (
    af c .move [(.int .i64 4)] bk fun x2 bu =>
    some (x2, bu)) (
    af c .move [x3] bk fun aZ bt =>
    af c (.bin .eql .num) [aZ, (.int .i64 0)] bt fun aT bA =>
    af c .move [aT] bA fun aS bP =>
    aH aS (
      af c .move [(.int .i64 10)] bP fun x2 bV =>
      some (x2, bV)) (
      af c (.fieldA 4) [x1] bP fun aW b9 =>
  af c (.load none) [aW] b9 fun bH bX =>
  af c (.lenB .l) [bH] bX fun bF ck =>
  af c .move [(.int .i64 0)] ck fun cR cj =>
  kA c F (fun vs jb => az vs fun x2 vs => bC vs (
    some (x2, jb))) (fun vs jd => az vs fun x1 vs => bC vs (
    af c (.fieldA 5) [x1] jd fun gH jv =>
  af c (.load none) [gH] jv fun fc mJ =>
  af c (.bin .lss .num) [fc, (.int .i64 0)] mJ fun iQ mb =>
  af c .move [iQ] mb fun gm mK =>
  aj c gm false (.fieldA 5) [x1] mK fun iR nH =>
  aj c gm false (.load none) [iR] nH fun eT mL =>
  aj c gm false (.bin .gtr .num) [eT, (.int .i64 1000)] mL fun jD jZ =>
  af c .pick [gm, (.bool true), jD] jZ fun jw nI =>
  af c .move [jw] nI fun gQ nh =>
  aj c gQ false (.fieldA 6) [x1] nh fun jE ni =>
  aj c gQ false (.load none) [jE] ni fun ki nJ =>
  aj c gQ false (.bin .lss .num) [ki, (.int .i64 0)] nJ fun iM n4 =>
  af c .pick [gQ, (.bool true), iM] n4 fun lU oO =>
  af c .move [lU] oO fun fM n6 =>
  aj c fM false (.fieldA 6) [x1] n6 fun ij n8 =>
  aj c fM false (.load none) [ij] n8 fun gI jQ =>
  aj c fM false (.bin .gtr .num) [gI, (.int .i64 1000)] jQ fun mM nK =>
  af c .pick [fM, (.bool true), mM] nK fun kG nL =>
  aH kG (
    af c .move [(.int .i64 2)] nL fun x2 oQ =>
    some (x2, oQ)) (
    af c .move [(.int .i64 0)] nL fun x2 oa =>
  some (x2, oa)))) F [x1, x3, x4, bH, bF, cR] cj))
def yj (c : ai) (F : Nat) : Env (AV × St) := gM [(0, fun K n => kA c F (K 1) (K 3) n)]
theorem Ko (c : ai) (F : Nat) : bK c F (yj c F) (cK qC tV 0).1 (cK qC tV 0).2 := dG (j := 0) (ins := [(.o .h), (.o (.o .h)), (.i (.o .h)), (.i (.i (.o (.o .h)))), (.o (.o (.i (.o .h)))), (.i (.o (.i (.o .h))))]) (outs := [(1, [(.i .h)]), (3, [(.o .h)])]) (s := (.seq none .leaf (.seq none (.cond .leaf .leaf) (.seq none (.block (.seq none .leaf (.seq none (.seq none .leaf (.cond (.seq none .leaf .leaf) .leaf)) .leaf))) .leaf)))) (by kernel_rfl) (fun _ _ _ => by kernel_rfl) (fun _ _ _ _ => by kernel_rfl)
theorem M0 (c : ai) (F : Nat) : ∀ x ∈ bM qC.code tV, bK c F (yj c F) x.1 x.2 := dA 1 (by kernel_rfl) fun i hi => match i, hi with | 0, _ => Ko c F | n + 1, h => absurd h (by omega)
theorem M3 (c : ai) (F : Nat) (x0 : AV) (s : St) : jJ c F (yj c F) qC tV [x0] s = Bz c F x0 s := by kernel_rfl
theorem ID {c : ai} (hc : Sem c) (F : Nat){x0 : AV} {s : St} {r : AV × St} (h : Bz c F x0 s = some r) : c 182 [x0] s = some (tidy s r) := hc.of (A := qC) (by kernel_rfl) (by kernel_rfl) (M0 _ F) (by rw [M3]; exact h)
def ju (c : ai) (F : Nat) (x0 x1 : AV) (s : St) : Option (AV × St) :=
  af c .move [(.bool false)] s fun x4 s0 =>
  af c .move [x0] s0 fun x5 s1 =>
  af c .move [x1] s1 fun x6 s2 =>
  af c (.callF 201) [x5, x6] s2 fun x7 s3 =>
  af c (.bin .geq .num) [x7, (.int .i64 0)] s3 fun x8 s4 =>
  af c .move [x8] s4 fun x4 s5 =>
  some (x4, s5)
theorem nj {c : ai} (hc : Sem c) (F : Nat){x0 x1 : AV} {s : St} {r : AV × St} (h : ju c F x0 x1 s = some r) : c 183 [x0, x1] s = some (tidy s r) := hc.gR (A := g183.getD default) (F := F) (s := (.seq none .leaf (.seq none .leaf .leaf))) (by kernel_rfl) (by kernel_rfl) (by kernel_rfl) (by kernel_rfl) h
def y9 (c : ai) (F : Nat) (x0 x1 : AV) (s : St) : Option (AV × St) :=
  af c .box [x0] s fun x2 s0 =>
  af c .move [(.bool false)] s0 fun x3 s1 =>
  af c (.fieldA 0) [x2] s1 fun x4 s2 =>
  af c (.load none) [x4] s2 fun x5 s3 =>
  af c (.fieldA 0) [x1] s3 fun x6 s4 =>
  af c (.load none) [x6] s4 fun x7 s5 =>
  af c (.bin .eql .num) [x5, x7] s5 fun x8 s6 =>
  af c .move [x8] s6 fun x3 s7 =>
  some (x3, s7)
theorem CI {c : ai} (hc : Sem c) (F : Nat){x0 x1 : AV} {s : St} {r : AV × St} (h : y9 c F x0 x1 s = some r) : c 184 [x0, x1] s = some (tidy s r) := hc.gR (A := g184.getD default) (F := F) (s := (.seq none .leaf (.seq none .leaf .leaf))) (by kernel_rfl) (by kernel_rfl) (by kernel_rfl) (by kernel_rfl) h
def cN : aK := g199.getD default
def dO : Sh := (.seq none .leaf (.seq none (.seq none .leaf (.block (.loop 0 [.h, (.o .h), (.o (.o (.o .h))), (.i (.o (.o .h)))] [(1, [(.i (.o .h))]), (2, [])] (.seq none .leaf (.seq none (.cond .leaf .leaf) (.seq none (.block (.seq none .leaf (.seq none .leaf (.cond (.seq none .leaf .leaf) .leaf)))) .leaf)))))) (.seq none .leaf .leaf)))
def bG (c : ai) (F : Nat) (k1 k2 : List AV -> St -> Option (AV × St)) : Nat -> List AV -> St -> Option (AV × St)
  | 0, _, _ => none
  | n + 1, vs, s => az vs fun x0 vs => az vs fun x1 vs => az vs fun x7 vs => az vs fun x8 vs => bC vs (
  af c (.bin .lss .num) [x8, x7] s fun x9 s4 =>
  aH x9 (
    af c .move [x8] s4 fun aJ s5 =>
  af c .move [aJ] s5 fun x5 s6 =>
  af c .move [x1] s6 fun aP s7 =>
  af c .move [x0] s7 fun aR s8 =>
  af c .move [x5] s8 fun aV s9 =>
  af c (.idxA 9 none) [aR, aV] s9 fun aS bk =>
  af c (.load (some 9)) [aS] bk fun aZ bu =>
  af c .callV [aP, aZ] bu fun aT bt =>
  aH aT (
    af c .move [x5] bt fun aW bA =>
    af c .move [aW] bA fun x4 bP =>
    k1 [x4] bP) (
    af c (.bin .add .num) [x8, (.int .i64 1)] bt fun bH bV =>
  af c .move [bH] bV fun x8 b9 =>
  bG c F k1 k2 n [x0, x1, x7, x8] b9)) (
    k2 [] s4))
def gD (c : ai) (F : Nat) (x0 x1 : AV) (s : St) : Option (AV × St) :=
  af c .move [(.int .i64 0)] s fun x4 s0 =>
  af c .move [x0] s0 fun x6 s1 =>
  af c (.lenB .l) [x6] s1 fun x7 s2 =>
  af c .move [(.int .i64 0)] s2 fun x8 s3 =>
  bG c F (fun vs bX => az vs fun x4 vs => bC vs (
    some (x4, bX))) (fun vs ck => bC vs (
    af c .move [(.int .i64 (-1))] ck fun x4 cj =>
  some (x4, cj))) F [x0, x1, x7, x8] s3
def fZ (c : ai) (F : Nat) : Env (AV × St) := gM [(0, fun K n => bG c F (K 1) (K 2) n)]
theorem oW (c : ai) (F : Nat) : bK c F (fZ c F) (cK cN dO 0).1 (cK cN dO 0).2 := dG (j := 0) (ins := [.h, (.o .h), (.o (.o (.o .h))), (.i (.o (.o .h)))]) (outs := [(1, [(.i (.o .h))]), (2, [])]) (s := (.seq none .leaf (.seq none (.cond .leaf .leaf) (.seq none (.block (.seq none .leaf (.seq none .leaf (.cond (.seq none .leaf .leaf) .leaf)))) .leaf)))) (by kernel_rfl) (fun _ _ _ => by kernel_rfl) (fun _ _ _ _ => by kernel_rfl)
theorem pz (c : ai) (F : Nat) : ∀ x ∈ bM cN.code dO, bK c F (fZ c F) x.1 x.2 := dA 1 (by kernel_rfl) fun i hi => match i, hi with | 0, _ => oW c F | n + 1, h => absurd h (by omega)
theorem pE (c : ai) (F : Nat) (x0 x1 : AV) (s : St) : jJ c F (fZ c F) cN dO [x0, x1] s = gD c F x0 x1 s := by kernel_rfl
theorem ou {c : ai} (hc : Sem c) (F : Nat){x0 x1 : AV} {s : St} {r : AV × St} (h : gD c F x0 x1 s = some r) : c 199 [x0, x1] s = some (tidy s r) := hc.of (A := cN) (by kernel_rfl) (by kernel_rfl) (pz _ F) (by rw [pE]; exact h)
def HJ (c : ai) (F : Nat) (x0 x1 : AV) (s : St) : Option (AV × St) :=
  af c .box [x0] s fun x2 s0 =>
  af c .move [(.bool false)] s0 fun x3 s1 =>
  af c (.fieldA 0) [x2] s1 fun x4 s2 =>
  af c (.load none) [x4] s2 fun x5 s3 =>
  af c (.load none) [x1] s3 fun x6 s4 =>
  af c (.bin .eql .num) [x5, x6] s4 fun x7 s5 =>
  af c .move [x7] s5 fun x3 s6 =>
  some (x3, s6)
theorem IV {c : ai} (hc : Sem c) (F : Nat){x0 x1 : AV} {s : St} {r : AV × St} (h : HJ c F x0 x1 s = some r) : c 200 [x0, x1] s = some (tidy s r) := hc.gR (A := g200.getD default) (F := F) (s := (.seq none .leaf (.seq none .leaf .leaf))) (by kernel_rfl) (by kernel_rfl) (by kernel_rfl) (by kernel_rfl) h
def cO : aK := g201.getD default
def dP : Sh := (.seq none .leaf (.seq none (.seq none .leaf (.block (.loop 0 [.h, (.o .h), (.o (.o (.o .h))), (.i (.o (.o .h)))] [(1, [(.i (.o .h))]), (2, [])] (.seq none .leaf (.seq none (.cond .leaf .leaf) (.seq none (.block (.seq none .leaf (.seq none .leaf (.cond (.seq none .leaf .leaf) .leaf)))) .leaf)))))) (.seq none .leaf .leaf)))
def bE (c : ai) (F : Nat) (k1 k2 : List AV -> St -> Option (AV × St)) : Nat -> List AV -> St -> Option (AV × St)
  | 0, _, _ => none
  | n + 1, vs, s => az vs fun x0 vs => az vs fun x1 vs => az vs fun x7 vs => az vs fun x8 vs => bC vs (
  af c (.bin .lss .num) [x8, x7] s fun x9 s4 =>
  aH x9 (
    af c .move [x8] s4 fun aJ s5 =>
  af c .move [aJ] s5 fun x5 s6 =>
  af c .move [x1] s6 fun aP s7 =>
  af c .move [x0] s7 fun aR s8 =>
  af c .move [x5] s8 fun aV s9 =>
  af c (.idxA 7 none) [aR, aV] s9 fun aS bk =>
  af c (.load (some 7)) [aS] bk fun aZ bu =>
  af c .callV [aP, aZ] bu fun aT bt =>
  aH aT (
    af c .move [x5] bt fun aW bA =>
    af c .move [aW] bA fun x4 bP =>
    k1 [x4] bP) (
    af c (.bin .add .num) [x8, (.int .i64 1)] bt fun bH bV =>
  af c .move [bH] bV fun x8 b9 =>
  bE c F k1 k2 n [x0, x1, x7, x8] b9)) (
    k2 [] s4))
def gA (c : ai) (F : Nat) (x0 x1 : AV) (s : St) : Option (AV × St) :=
  af c .move [(.int .i64 0)] s fun x4 s0 =>
  af c .move [x0] s0 fun x6 s1 =>
  af c (.lenB .l) [x6] s1 fun x7 s2 =>
  af c .move [(.int .i64 0)] s2 fun x8 s3 =>
  bE c F (fun vs bX => az vs fun x4 vs => bC vs (
    some (x4, bX))) (fun vs ck => bC vs (
    af c .move [(.int .i64 (-1))] ck fun x4 cj =>
  some (x4, cj))) F [x0, x1, x7, x8] s3
def gb (c : ai) (F : Nat) : Env (AV × St) := gM [(0, fun K n => bE c F (K 1) (K 2) n)]
theorem oX (c : ai) (F : Nat) : bK c F (gb c F) (cK cO dP 0).1 (cK cO dP 0).2 := dG (j := 0) (ins := [.h, (.o .h), (.o (.o (.o .h))), (.i (.o (.o .h)))]) (outs := [(1, [(.i (.o .h))]), (2, [])]) (s := (.seq none .leaf (.seq none (.cond .leaf .leaf) (.seq none (.block (.seq none .leaf (.seq none .leaf (.cond (.seq none .leaf .leaf) .leaf)))) .leaf)))) (by kernel_rfl) (fun _ _ _ => by kernel_rfl) (fun _ _ _ _ => by kernel_rfl)
theorem pF (c : ai) (F : Nat) : ∀ x ∈ bM cO.code dP, bK c F (gb c F) x.1 x.2 := dA 1 (by kernel_rfl) fun i hi => match i, hi with | 0, _ => oX c F | n + 1, h => absurd h (by omega)
theorem pG (c : ai) (F : Nat) (x0 x1 : AV) (s : St) : jJ c F (gb c F) cO dP [x0, x1] s = gA c F x0 x1 s := by kernel_rfl
theorem oq {c : ai} (hc : Sem c) (F : Nat){x0 x1 : AV} {s : St} {r : AV × St} (h : gA c F x0 x1 s = some r) : c 201 [x0, x1] s = some (tidy s r) := hc.of (A := cO) (by kernel_rfl) (by kernel_rfl) (pF _ F) (by rw [pG]; exact h)
def E1 (c : ai) (F : Nat) (x0 x1 : AV) (s : St) : Option (AV × St) :=
  af c .box [x0] s fun x2 s0 =>
  af c .move [(.bool false)] s0 fun x3 s1 =>
  af c (.fieldA 0) [x2] s1 fun x4 s2 =>
  af c (.load none) [x4] s2 fun x5 s3 =>
  af c (.load none) [x1] s3 fun x6 s4 =>
  af c (.bin .eql .num) [x5, x6] s4 fun x7 s5 =>
  af c .move [x7] s5 fun x3 s6 =>
  some (x3, s6)
theorem Ho {c : ai} (hc : Sem c) (F : Nat){x0 x1 : AV} {s : St} {r : AV × St} (h : E1 c F x0 x1 s = some r) : c 202 [x0, x1] s = some (tidy s r) := hc.gR (A := g202.getD default) (F := F) (s := (.seq none .leaf (.seq none .leaf .leaf))) (by kernel_rfl) (by kernel_rfl) (by kernel_rfl) (by kernel_rfl) h
def jq : aK := g203.getD default
def kT : Sh := (.seq none .leaf (.seq none .leaf (.seq none (.seq none .leaf (.cond (.seq none .leaf .leaf) .leaf)) (.seq none (.seq none .leaf (.cond (.seq none .leaf .leaf) .leaf)) (.seq none (.seq none .leaf (.block (.loop 0 [(.o .h), (.o (.o .h)), (.i (.o .h))] [(1, [(.i .h)]), (2, [(.o .h)])] (.seq none (.seq none .leaf (.cond .leaf .leaf)) (.seq none (.block (.seq none .leaf (.cond (.seq none .leaf .leaf) .leaf))) .leaf))))) (.seq none (.seq none .leaf (.cond (.seq none .leaf .leaf) .leaf)) (.seq none .leaf .leaf)))))))
def eX (c : ai) (F : Nat) (k1 k2 : List AV -> St -> Option (AV × St)) : Nat -> List AV -> St -> Option (AV × St)
  | 0, _, _ => none
  | n + 1, vs, s => az vs fun x1 vs => az vs fun x3 vs => az vs fun x4 vs => bC vs (
  af c .move [x4] s fun aV bP =>
  af c (.fieldA 4) [x1] bP fun aS bV =>
  af c (.load none) [aS] bV fun aZ b9 =>
  af c (.lenB .l) [aZ] b9 fun aT bX =>
  af c (.bin .lss .num) [aV, aT] bX fun aW ck =>
  aH aW (
    aB (.fieldA 4) [x1] fun cR =>
  eF (.load none) [cR] ck.heap (fun _ => true) fun dw =>
  aB .move [x4] fun cD =>
  aB (.idxA 1 none) [dw, cD] fun cS =>
  eF (.load none) [cS] ck.heap (fun _ => true) fun dW =>
  aB .move [x3] fun dD =>
  aB (.bin .sub .num) [dD, (.int .i64 1)] fun eO =>
  af c (.callF 153) [dW, (.int .i64 0), eO] ck fun eP cj =>
  aB (.un .not) [eP] fun fL =>
  aB .move [fL] fun fX =>
  cJ fX false .move [x4] fun cT =>
  cJ fX false (.bin .gtr .num) [cT, (.int .i64 0)] fun dL =>
  cJ fX false .move [dL] fun b8 =>
  cJ b8 true (.fieldA 4) [x1] fun iL =>
  jB b8 true (.load none) [iL] cj.heap (fun _ => true) fun gH =>
  cJ b8 true .move [x4] fun fc =>
  cJ b8 true (.idxA 1 none) [gH, fc] fun iQ =>
  jB b8 true (.load none) [iQ] cj.heap (fun _ => true) fun gm =>
  cJ b8 true (.fieldA 4) [x1] fun iR =>
  jB b8 true (.load none) [iR] cj.heap (fun _ => true) fun eT =>
  cJ b8 true .move [x4] fun jD =>
  cJ b8 true (.bin .sub .num) [jD, (.int .i64 1)] fun jw =>
  cJ b8 true (.idxA 1 none) [eT, jw] fun gQ =>
  jB b8 true (.load none) [gQ] cj.heap (fun _ => true) fun jE =>
  cJ b8 true (.bin .leq .num) [gm, jE] fun ki =>
  cJ fX false .pick [b8, ki, (.bool false)] fun iM =>
  aB .pick [fX, (.bool true), iM] fun lU =>
  aH lU (
    af c .move [(.int .i64 11)] cj fun x2 c9 =>
    k1 [x2] c9) (
    af c .move [x4] cj fun bH dS =>
  af c (.bin .add .num) [bH, (.int .i64 1)] dS fun bF dF =>
  af c .move [bF] dF fun x4 ey =>
  eX c F k1 k2 n [x1, x3, x4] ey)) (
    k2 [x1] ck))
def qi (c : ai) (F : Nat) (x0 : AV) (s : St) : Option (AV × St) :=
  af c .box [x0] s fun x1 s0 =>
  af c .move [(.int .i64 0)] s0 fun x2 s1 =>
  af c (.load (some 7)) [x1] s1 fun x5 s2 =>
  af c (.callF 66) [x5] s2 fun x6 s3 =>
  af c .move [x6] s3 fun x3 s4 =>
  af c (.fieldA 0) [x1] s4 fun x7 s5 =>
  af c (.load none) [x7] s5 fun x8 s6 =>
  af c (.callF 242) [x8] s6 fun x9 s7 =>
  af c (.un .not) [x9] s7 fun aJ s8 =>
  aH aJ (
    af c .move [(.int .i64 4)] s8 fun x2 s9 =>
    some (x2, s9)) (
    af c .move [x3] s8 fun aP bk =>
  af c (.bin .eql .num) [aP, (.int .i64 0)] bk fun aR bu =>
  aH aR (
    af c .move [(.int .i64 10)] bu fun x2 bt =>
    some (x2, bt)) (
    af c .move [(.int .i64 0)] bu fun x4 bA =>
  eX c F (fun vs eA => az vs fun x2 vs => bC vs (
    some (x2, eA))) (fun vs dI => az vs fun x1 vs => bC vs (
    af c (.fieldA 5) [x1] dI fun fM eR =>
  af c (.load none) [fM] eR fun ij eB =>
  af c (.callF 153) [ij, (.int .i64 0), (.int .i64 1000)] eB fun gI e9 =>
  af c (.un .not) [gI] e9 fun mM eS =>
  af c .move [mM] eS fun kG eN =>
  aj c kG false (.fieldA 6) [x1] eN fun kj fo =>
  aj c kG false (.load none) [kj] fo fun jO gP =>
  aj c kG false (.callF 153) [jO, (.int .i64 0), (.int .i64 1000)] gP fun iT gB =>
  aj c kG false (.un .not) [iT] gB fun lV gq =>
  af c .pick [kG, (.bool true), lV] gq fun ko gu =>
  aH ko (
    af c .move [(.int .i64 2)] gu fun x2 iO =>
    some (x2, iO)) (
    af c .move [(.int .i64 0)] gu fun x2 jb =>
  some (x2, jb)))) F [x1, x3, x4] bA))
def oF (c : ai) (F : Nat) : Env (AV × St) := gM [(0, fun K n => eX c F (K 1) (K 2) n)]
theorem AH (c : ai) (F : Nat) : bK c F (oF c F) (cK jq kT 0).1 (cK jq kT 0).2 := dG (j := 0) (ins := [(.o .h), (.o (.o .h)), (.i (.o .h))]) (outs := [(1, [(.i .h)]), (2, [(.o .h)])]) (s := (.seq none (.seq none .leaf (.cond .leaf .leaf)) (.seq none (.block (.seq none .leaf (.cond (.seq none .leaf .leaf) .leaf))) .leaf))) (by kernel_rfl) (fun _ _ _ => by kernel_rfl) (fun _ _ _ _ => by kernel_rfl)
theorem Ci (c : ai) (F : Nat) : ∀ x ∈ bM jq.code kT, bK c F (oF c F) x.1 x.2 := dA 1 (by kernel_rfl) fun i hi => match i, hi with | 0, _ => AH c F | n + 1, h => absurd h (by omega)
theorem Cj (c : ai) (F : Nat) (x0 : AV) (s : St) : jJ c F (oF c F) jq kT [x0] s = qi c F x0 s := by kernel_rfl
theorem zC {c : ai} (hc : Sem c) (F : Nat){x0 : AV} {s : St} {r : AV × St} (h : qi c F x0 s = some r) : c 203 [x0] s = some (tidy s r) := hc.of (A := jq) (by kernel_rfl) (by kernel_rfl) (Ci _ F) (by rw [Cj]; exact h)
def jr : aK := g204.getD default
def kU : Sh := (.seq none .leaf (.seq none (.seq none .leaf (.cond (.seq none .leaf .leaf) .leaf)) (.seq none (.seq none .leaf (.cond (.seq none .leaf .leaf) .leaf)) (.seq none (.seq none .leaf (.cond (.seq none .leaf .leaf) .leaf)) (.seq none (.seq none .leaf (.cond (.seq none .leaf .leaf) .leaf)) (.seq none (.seq none .leaf (.block (.loop 0 [(.o .h), (.o (.o .h))] [(1, [(.i .h)]), (2, [])] (.seq none (.seq none .leaf (.cond .leaf .leaf)) (.seq none (.block (.seq none .leaf (.cond (.seq none .leaf .leaf) .leaf))) .leaf))))) (.seq none .leaf .leaf)))))))
def eY (c : ai) (F : Nat) (k1 k2 : List AV -> St -> Option (AV × St)) : Nat -> List AV -> St -> Option (AV × St)
  | 0, _, _ => none
  | n + 1, vs, s => az vs fun x1 vs => az vs fun x3 vs => bC vs (
  af c .move [x3] s fun ru rB =>
  af c (.fieldA 8) [x1] rB fun mO tM =>
  af c (.load none) [mO] tM fun tJ tN =>
  af c (.lenB .l) [tJ] tN fun tK oU =>
  af c (.bin .lss .num) [ru, tK] oU fun tL qP =>
  aH tL (
    aB (.fieldA 8) [x1] fun vJ =>
  eF (.load none) [vJ] qP.heap (fun _ => true) fun mI =>
  aB .move [x3] fun oV =>
  aB (.idxA 1 none) [mI, oV] fun sJ =>
  eF (.load none) [sJ] qP.heap (fun _ => true) fun rC =>
  af c (.callF 127) [rC] qP fun tP qQ =>
  aB (.un .not) [tP] fun DN =>
  aB .move [DN] fun xU =>
  cJ xU false .move [x3] fun DO =>
  cJ xU false (.bin .gtr .num) [DO, (.int .i64 0)] fun E5 =>
  cJ xU false .move [E5] fun pV =>
  cJ pV true (.fieldA 8) [x1] fun DP =>
  jB pV true (.load none) [DP] qQ.heap (fun _ => true) fun qy =>
  cJ pV true .move [x3] fun Au =>
  cJ pV true (.idxA 1 none) [qy, Au] fun Av =>
  jB pV true (.load none) [Av] qQ.heap (fun _ => true) fun CB =>
  cJ pV true (.fieldA 8) [x1] fun Aw =>
  jB pV true (.load none) [Aw] qQ.heap (fun _ => true) fun Ay =>
  cJ pV true .move [x3] fun Az =>
  cJ pV true (.bin .sub .num) [Az, (.int .i64 1)] fun AA =>
  cJ pV true (.idxA 1 none) [Ay, AA] fun CC =>
  jB pV true (.load none) [CC] qQ.heap (fun _ => true) fun xV =>
  cJ pV true (.bin .leq .num) [CB, xV] fun j5 =>
  cJ xU false .pick [pV, j5, (.bool false)] fun DQ =>
  aB .pick [xU, (.bool true), DQ] fun DR =>
  aH DR (
    af c .move [(.int .i64 22)] qQ fun x2 tO =>
    k1 [x2] tO) (
    af c .move [x3] qQ fun qx rD =>
  af c (.bin .add .num) [qx, (.int .i64 1)] rD fun vI xT =>
  af c .move [vI] xT fun x3 wm =>
  eY c F k1 k2 n [x1, x3] wm)) (
    k2 [] qP))
def ql (c : ai) (F : Nat) (x0 : AV) (s : St) : Option (AV × St) :=
  af c .box [x0] s fun x1 s0 =>
  af c .move [(.int .i64 0)] s0 fun x2 s1 =>
  af c (.fieldA 0) [x1] s1 fun x4 s2 =>
  af c (.load none) [x4] s2 fun x5 s3 =>
  af c (.callF 127) [x5] s3 fun x6 s4 =>
  af c (.un .not) [x6] s4 fun x7 s5 =>
  af c .move [x7] s5 fun x8 s6 =>
  aj c x8 false (.fieldA 1) [x1] s6 fun x9 s7 =>
  aj c x8 false (.load none) [x9] s7 fun aJ s8 =>
  aj c x8 false (.bin .neq .num) [aJ, (.str [])] s8 fun aP s9 =>
  aj c x8 false .move [aP] s9 fun aR bk =>
  aj c aR true (.fieldA 1) [x1] bk fun aV bu =>
  aj c aR true (.load none) [aV] bu fun aS bt =>
  aj c aR true (.callF 127) [aS] bt fun aZ bA =>
  aj c aR true (.un .not) [aZ] bA fun aT bP =>
  aj c x8 false .pick [aR, aT, (.bool false)] bP fun aW bV =>
  af c .pick [x8, (.bool true), aW] bV fun bH b9 =>
  af c .move [bH] b9 fun bF bX =>
  aj c bF false (.fieldA 2) [x1] bX fun cR ck =>
  aj c bF false (.load none) [cR] ck fun dw cj =>
  aj c bF false (.bin .neq .num) [dw, (.str [])] cj fun cD c9 =>
  aj c bF false .move [cD] c9 fun cS dS =>
  aj c cS true (.fieldA 2) [x1] dS fun dW dF =>
  aj c cS true (.load none) [dW] dF fun dD ey =>
  aj c cS true (.callF 127) [dD] ey fun eO eA =>
  aj c cS true (.un .not) [eO] eA fun eP dI =>
  aj c bF false .pick [cS, eP, (.bool false)] dI fun fL eR =>
  af c .pick [bF, (.bool true), fL] eR fun fX eB =>
  af c .move [fX] eB fun cT e9 =>
  aj c cT false (.fieldA 5) [x1] e9 fun dL eS =>
  aj c cT false (.load none) [dL] eS fun b8 eN =>
  aj c cT false (.bin .neq .num) [b8, (.str [])] eN fun iL fo =>
  aj c cT false .move [iL] fo fun gH gP =>
  aj c gH true (.fieldA 5) [x1] gP fun fc gB =>
  aj c gH true (.load none) [fc] gB fun iQ gq =>
  aj c gH true (.callF 127) [iQ] gq fun gm gu =>
  aj c gH true (.un .not) [gm] gu fun iR iO =>
  aj c cT false .pick [gH, iR, (.bool false)] iO fun eT jb =>
  af c .pick [cT, (.bool true), eT] jb fun jD jd =>
  aH jD (
    af c .move [(.int .i64 4)] jd fun x2 jv =>
    some (x2, jv)) (
    af c (.fieldA 3) [x1] jd fun jw mJ =>
  af c (.load none) [jw] mJ fun gQ mb =>
  af c (.bin .lss .num) [gQ, (.int .i64 0)] mb fun jE mK =>
  af c .move [jE] mK fun ki nH =>
  aj c ki false (.fieldA 3) [x1] nH fun iM mL =>
  aj c ki false (.load none) [iM] mL fun lU jZ =>
  aj c ki false (.bin .gtr .num) [lU, (.int .i64 9999)] jZ fun fM nI =>
  af c .pick [ki, (.bool true), fM] nI fun ij nh =>
  aH ij (
    af c .move [(.int .i64 21)] nh fun x2 ni =>
    some (x2, ni)) (
    af c (.fieldA 4) [x1] nh fun gI nJ =>
  af c (.load none) [gI] nJ fun mM n4 =>
  af c (.bin .neq .num) [mM, (.int .i64 0)] n4 fun kG oO =>
  af c .move [kG] oO fun kj n6 =>
  aj c kj true (.fieldA 4) [x1] n6 fun jO n8 =>
  aj c kj true (.load none) [jO] n8 fun iT jQ =>
  aj c kj true (.bin .neq .num) [iT, (.int .i64 1)] jQ fun lV nK =>
  af c .pick [kj, lV, (.bool false)] nK fun ko nL =>
  af c .move [ko] nL fun jP oQ =>
  aj c jP true (.fieldA 4) [x1] oQ fun oP oa =>
  aj c jP true (.load none) [oP] oa fun j0 qv =>
  aj c jP true (.bin .neq .num) [j0, (.int .i64 2)] qv fun n9 oT =>
  af c .pick [jP, n9, (.bool false)] oT fun oR pS =>
  aH oR (
    af c .move [(.int .i64 20)] pS fun x2 ob =>
    some (x2, ob)) (
    af c (.fieldA 8) [x1] pS fun lq ry =>
  af c (.load none) [lq] ry fun mN pT =>
  af c (.lenB .l) [mN] pT fun qw pU =>
  af c (.bin .gtr .num) [qw, (.int .i64 4)] pU fun mg qR =>
  aH mg (
    af c .move [(.int .i64 22)] qR fun x2 rA =>
    some (x2, rA)) (
    af c .move [(.int .i64 0)] qR fun x3 oc =>
  eY c F (fun vs At => az vs fun x2 vs => bC vs (
    some (x2, At))) (fun vs tI => bC vs (
    af c .move [(.int .i64 0)] tI fun x2 uo =>
  some (x2, uo))) F [x1, x3] oc))))
def oG (c : ai) (F : Nat) : Env (AV × St) := gM [(0, fun K n => eY c F (K 1) (K 2) n)]
theorem AI (c : ai) (F : Nat) : bK c F (oG c F) (cK jr kU 0).1 (cK jr kU 0).2 := dG (j := 0) (ins := [(.o .h), (.o (.o .h))]) (outs := [(1, [(.i .h)]), (2, [])]) (s := (.seq none (.seq none .leaf (.cond .leaf .leaf)) (.seq none (.block (.seq none .leaf (.cond (.seq none .leaf .leaf) .leaf))) .leaf))) (by kernel_rfl) (fun _ _ _ => by kernel_rfl) (fun _ _ _ _ => by kernel_rfl)
theorem Ck (c : ai) (F : Nat) : ∀ x ∈ bM jr.code kU, bK c F (oG c F) x.1 x.2 := dA 1 (by kernel_rfl) fun i hi => match i, hi with | 0, _ => AI c F | n + 1, h => absurd h (by omega)
theorem Cl (c : ai) (F : Nat) (x0 : AV) (s : St) : jJ c F (oG c F) jr kU [x0] s = ql c F x0 s := by kernel_rfl
theorem zE {c : ai} (hc : Sem c) (F : Nat){x0 : AV} {s : St} {r : AV × St} (h : ql c F x0 s = some r) : c 204 [x0] s = some (tidy s r) := hc.of (A := jr) (by kernel_rfl) (by kernel_rfl) (Ck _ F) (by rw [Cl]; exact h)
def um (c : ai) (F : Nat) (x0 x1 : AV) (s : St) : Option (AV × St) :=
  af c .box [x0] s fun x2 s0 =>
  af c .box [x1] s0 fun x3 s1 =>
  af c .move [(.bool false)] s1 fun x4 s2 =>
  af c (.fieldA 0) [x2] s2 fun x5 s3 =>
  af c (.load none) [x5] s3 fun x6 s4 =>
  af c (.fieldA 0) [x3] s4 fun x7 s5 =>
  af c (.load none) [x7] s5 fun x8 s6 =>
  af c (.bin .lss .num) [x6, x8] s6 fun x9 s7 =>
  af c .move [x9] s7 fun aJ s8 =>
  aj c aJ false (.fieldA 0) [x2] s8 fun aP s9 =>
  aj c aJ false (.load none) [aP] s9 fun aR bk =>
  aj c aJ false (.fieldA 0) [x3] bk fun aV bu =>
  aj c aJ false (.load none) [aV] bu fun aS bt =>
  aj c aJ false (.bin .eql .num) [aR, aS] bt fun aZ bA =>
  aj c aJ false .move [aZ] bA fun aT bP =>
  aj c aT true (.fieldA 1) [x2] bP fun aW bV =>
  aj c aT true (.load none) [aW] bV fun bH b9 =>
  aj c aT true (.fieldA 1) [x3] b9 fun bF bX =>
  aj c aT true (.load none) [bF] bX fun cR ck =>
  aj c aT true (.bin .lss .num) [bH, cR] ck fun dw cj =>
  aj c aJ false .pick [aT, dw, (.bool false)] cj fun cD c9 =>
  af c .pick [aJ, (.bool true), cD] c9 fun cS dS =>
  af c .move [cS] dS fun x4 dF =>
  some (x4, dF)
theorem yq {c : ai} (hc : Sem c) (F : Nat){x0 x1 : AV} {s : St} {r : AV × St} (h : um c F x0 x1 s = some r) : c 205 [x0, x1] s = some (tidy s r) := hc.gR (A := g205.getD default) (F := F) (s := (.seq none .leaf (.seq none .leaf .leaf))) (by kernel_rfl) (by kernel_rfl) (by kernel_rfl) (by kernel_rfl) h
def Cx (c : ai) (F : Nat) (x0 : AV) (s : St) : Option (AV × St) :=
  af c (.alloc [(.str []), .aq, .aq, .aq, .aq, .aq]) [] s fun x2 s0 =>
  af c .move [(.bool false)] s0 fun x3 s1 =>
  af c .move [x0] s1 fun x4 s2 =>
  af c (.bin .eql .num) [x4, (.int .u8 1)] s2 fun x6 s3 =>
  af c .move [x6] s3 fun x5 s4 =>
  aH x5 (
    af c (.build [(.str []), .aq, .aq, .aq, .aq, .aq] [(0, 1), (1, 1), (2, 1), (3, 1), (4, 1), (5, 1)]) [(.str [114, 111, 117, 110, 100]), (.func 244 [] []), (.func 245 [] []), (.func 246 [] []), (.func 247 [] []), (.func 248 [] [])] s4 fun x7 s5 =>
    af c (.store 6) [x2, x7] s5 fun _ s6 =>
    af c .move [(.bool true)] s6 fun x3 s7 =>
    EY (some 6) x2 s7 fun v8 => some (.tuple [v8, x3], s7)) (
    af c (.bin .eql .num) [x4, (.int .u8 2)] s4 fun x9 s9 =>
    af c .move [x9] s9 fun x8 bk =>
    aH x8 (
      af c (.build [(.str []), .aq, .aq, .aq, .aq, .aq] [(0, 1), (1, 1), (2, 1), (3, 1), (4, 1), (5, 1)]) [(.str [108, 111, 110, 103]), (.func 249 [] []), (.func 250 [] []), (.func 251 [] []), (.func 252 [] []), (.func 253 [] [])] bk fun aJ bu =>
      af c (.store 6) [x2, aJ] bu fun _ bt =>
      af c .move [(.bool true)] bt fun x3 bA =>
      EY (some 6) x2 bA fun v14 => some (.tuple [v14, x3], bA)) (
      af c (.bin .eql .num) [x4, (.int .u8 3)] bk fun aR bV =>
      af c .move [aR] bV fun aP b9 =>
      aH aP (
        af c (.build [(.str []), .aq, .aq, .aq, .aq, .aq] [(0, 1), (1, 1), (2, 1), (3, 1), (4, 1), (5, 1)]) [(.str [104, 111, 114, 115, 101, 115, 104, 111, 101]), (.func 254 [] []), (.func 255 [] []), (.func 256 [] []), (.func 257 [] []), (.func 258 [] [])] b9 fun aV bX =>
        af c (.store 6) [x2, aV] bX fun _ ck =>
        af c .move [(.bool true)] ck fun x3 cj =>
        EY (some 6) x2 cj fun v20 => some (.tuple [v20, x3], cj)) (
        af c (.bin .eql .num) [x4, (.int .u8 4)] b9 fun aZ dS =>
        af c .move [aZ] dS fun aS dF =>
        aH aS (
          af c (.build [(.str []), .aq, .aq, .aq, .aq, .aq] [(0, 1), (1, 1), (2, 1), (3, 1), (4, 1), (5, 1)]) [(.str [114, 111, 119]), (.func 259 [] []), (.func 260 [] []), (.func 261 [] []), (.func 262 [] []), (.func 263 [] [])] dF fun aT ey =>
          af c (.store 6) [x2, aT] ey fun _ eA =>
          af c .move [(.bool true)] eA fun x3 dI =>
          EY (some 6) x2 dI fun v26 => some (.tuple [v26, x3], dI)) (
          af c (.build [(.str []), .aq, .aq, .aq, .aq, .aq] []) [] dF fun aW eB =>
  af c (.store 6) [x2, aW] eB fun _ e9 =>
  af c .move [(.bool false)] e9 fun x3 eS =>
  EY (some 6) x2 eS fun v30 => some (.tuple [v30, x3], eS)))))
theorem Ex {c : ai} (hc : Sem c) (F : Nat){x0 : AV} {s : St} {r : AV × St} (h : Cx c F x0 s = some r) : c 208 [x0] s = some (tidy s r) := hc.gR (A := g208.getD default) (F := F) (s := (.seq none .leaf (.seq none (.seq none .leaf (.block (.seq none .leaf (.cond (.seq none .leaf .leaf) (.seq none .leaf (.cond (.seq none .leaf .leaf) (.seq none .leaf (.cond (.seq none .leaf .leaf) (.seq none .leaf (.cond (.seq none .leaf .leaf) .leaf)))))))))) (.seq none .leaf .leaf)))) (by kernel_rfl) (by kernel_rfl) (by kernel_rfl) (by kernel_rfl) h
def oY : aK := g225.getD default
def rQ : Sh := (.seq none .leaf (.seq none (.block (.seq none .leaf (.cond (.seq none .leaf .leaf) (.seq none .leaf (.cond (.seq none .leaf .leaf) (.seq none .leaf (.cond (.seq none .leaf .leaf) (.seq none .leaf (.cond (.seq none .leaf .leaf) .leaf))))))))) (.seq none (.seq none .leaf (.block (.loop 0 [(.o .h), (.i (.o (.i (.o (.i .h))))), (.o (.i (.i (.o (.i .h))))), (.i (.i (.i (.o (.i .h)))))] [(1, [(.i .h)]), (3, [])] (.seq none .leaf (.seq none (.cond .leaf .leaf) (.seq none (.block (.seq none .leaf (.seq none .leaf (.cond (.seq none .leaf .leaf) .leaf)))) .leaf)))))) (.seq none .leaf .leaf))))
def jL (c : ai) (F : Nat) (k1 k3 : List AV -> St -> Option (AV × St)) : Nat -> List AV -> St -> Option (AV × St)
  | 0, _, _ => none
  | n + 1, vs, s => az vs fun x1 vs => az vs fun kj vs => az vs fun jO vs => az vs fun iT vs => bC vs (
  af c (.bin .lss .num) [iT, jO] s fun lV nL =>
  aH lV (
    af c .move [iT] nL fun ko oQ =>
  af c (.idxA 1 none) [kj, iT] oQ fun jP oa =>
  af c (.load none) [jP] oa fun oP qv =>
  af c .move [ko] qv fun x3 oT =>
  af c .move [oP] oT fun x4 pS =>
  af c .move [x4] pS fun j0 ob =>
  af c (.callF 273) [j0] ob fun n9 ry =>
  af c (.un .not) [n9] ry fun oR pT =>
  af c .move [oR] pT fun lq pU =>
  aj c lq false .move [x3] pU fun mN qR =>
  aj c lq false (.bin .gtr .num) [mN, (.int .i64 0)] qR fun qw rA =>
  aj c lq false .move [qw] rA fun mg oc =>
  aj c mg true (.fieldA 8) [x1] oc fun ru rB =>
  aj c mg true (.load none) [ru] rB fun mO tM =>
  aj c mg true .move [x3] tM fun tJ tN =>
  aj c mg true (.bin .sub .num) [tJ, (.int .i64 1)] tN fun tK oU =>
  aj c mg true (.idxA 1 none) [mO, tK] oU fun tL qP =>
  aj c mg true (.load none) [tL] qP fun qx qQ =>
  aj c mg true .move [x4] qQ fun vI tO =>
  aj c mg true (.bin .geq .num) [qx, vI] tO fun vJ rD =>
  aj c lq false .pick [mg, vJ, (.bool false)] rD fun mI xT =>
  af c .pick [lq, (.bool true), mI] xT fun oV wm =>
  aH oV (
    af c .move [(.int .i64 22)] wm fun x2 At =>
    k1 [x2] At) (
    af c (.bin .add .num) [iT, (.int .i64 1)] wm fun sJ tI =>
  af c .move [sJ] tI fun iT uo =>
  jL c F k1 k3 n [x1, kj, jO, iT] uo)) (
    k3 [] nL))
def zD (c : ai) (F : Nat) (x0 : AV) (s : St) : Option (AV × St) :=
  af c .box [x0] s fun x1 s0 =>
  af c .move [(.int .i64 0)] s0 fun x2 s1 =>
  af c (.fieldA 0) [x1] s1 fun x6 s2 =>
  af c (.load none) [x6] s2 fun x7 s3 =>
  af c (.callF 273) [x7] s3 fun x8 s4 =>
  af c (.un .not) [x8] s4 fun x9 s5 =>
  af c .move [x9] s5 fun aJ s6 =>
  aj c aJ false (.fieldA 1) [x1] s6 fun aP s7 =>
  aj c aJ false (.load none) [aP] s7 fun aR s8 =>
  aj c aJ false (.callF 274) [aR] s8 fun aV s9 =>
  aj c aJ false (.un .not) [aV] s9 fun aS bk =>
  af c .pick [aJ, (.bool true), aS] bk fun aZ bu =>
  af c .move [aZ] bu fun aT bt =>
  aj c aT false (.fieldA 2) [x1] bt fun aW bA =>
  aj c aT false (.load none) [aW] bA fun bH bP =>
  aj c aT false (.callF 274) [bH] bP fun bF bV =>
  aj c aT false (.un .not) [bF] bV fun cR b9 =>
  af c .pick [aT, (.bool true), cR] b9 fun dw bX =>
  af c .move [dw] bX fun cD ck =>
  aj c cD false (.fieldA 5) [x1] ck fun cS cj =>
  aj c cD false (.load none) [cS] cj fun dW c9 =>
  aj c cD false (.callF 274) [dW] c9 fun dD dS =>
  aj c cD false (.un .not) [dD] dS fun eO dF =>
  af c .pick [cD, (.bool true), eO] dF fun eP ey =>
  af c .move [eP] ey fun x5 eA =>
  aH x5 (
    af c .move [(.int .i64 4)] eA fun x2 dI =>
    some (x2, dI)) (
    af c (.fieldA 3) [x1] eA fun fX eR =>
    af c (.load none) [fX] eR fun cT eB =>
    af c (.bin .lss .num) [cT, (.int .i64 0)] eB fun dL e9 =>
    af c .move [dL] e9 fun b8 eS =>
    aj c b8 false (.fieldA 3) [x1] eS fun iL eN =>
    aj c b8 false (.load none) [iL] eN fun gH fo =>
    aj c b8 false (.bin .gtr .num) [gH, (.int .i64 9999)] fo fun fc gP =>
    af c .pick [b8, (.bool true), fc] gP fun iQ gB =>
    af c .move [iQ] gB fun fL gq =>
    aH fL (
      af c .move [(.int .i64 21)] gq fun x2 gu =>
      some (x2, gu)) (
      af c (.fieldA 4) [x1] gq fun iR iO =>
      af c (.load none) [iR] iO fun eT jb =>
      af c (.bin .lss .num) [eT, (.int .i64 0)] jb fun jD jd =>
      af c .move [jD] jd fun jw jv =>
      aj c jw false (.fieldA 4) [x1] jv fun gQ mJ =>
      aj c jw false (.load none) [gQ] mJ fun jE mb =>
      aj c jw false (.bin .gtr .num) [jE, (.int .i64 2)] mb fun ki mK =>
      af c .pick [jw, (.bool true), ki] mK fun iM nH =>
      af c .move [iM] nH fun gm mL =>
      aH gm (
        af c .move [(.int .i64 20)] mL fun x2 jZ =>
        some (x2, jZ)) (
        af c (.fieldA 8) [x1] mL fun fM nI =>
        af c (.load none) [fM] nI fun ij nh =>
        af c (.lenB .l) [ij] nh fun gI ni =>
        af c (.bin .gtr .num) [gI, (.int .i64 4)] ni fun mM nJ =>
        af c .move [mM] nJ fun lU n4 =>
        aH lU (
          af c .move [(.int .i64 22)] n4 fun x2 oO =>
          some (x2, oO)) (
          af c (.fieldA 8) [x1] n4 fun kG n6 =>
  af c (.load none) [kG] n6 fun kj n8 =>
  af c (.lenB .l) [kj] n8 fun jO jQ =>
  af c .move [(.int .i64 0)] jQ fun iT nK =>
  jL c F (fun vs xN => az vs fun x2 vs => bC vs (
    some (x2, xN))) (fun vs xO => bC vs (
    af c .move [(.int .i64 0)] xO fun x2 xP =>
  some (x2, xP))) F [x1, kj, jO, iT] nK))))
def vW (c : ai) (F : Nat) : Env (AV × St) := gM [(0, fun K n => jL c F (K 1) (K 3) n)]
theorem IY (c : ai) (F : Nat) : bK c F (vW c F) (cK oY rQ 0).1 (cK oY rQ 0).2 := dG (j := 0) (ins := [(.o .h), (.i (.o (.i (.o (.i .h))))), (.o (.i (.i (.o (.i .h))))), (.i (.i (.i (.o (.i .h)))))]) (outs := [(1, [(.i .h)]), (3, [])]) (s := (.seq none .leaf (.seq none (.cond .leaf .leaf) (.seq none (.block (.seq none .leaf (.seq none .leaf (.cond (.seq none .leaf .leaf) .leaf)))) .leaf)))) (by kernel_rfl) (fun _ _ _ => by kernel_rfl) (fun _ _ _ _ => by kernel_rfl)
theorem Kq (c : ai) (F : Nat) : ∀ x ∈ bM oY.code rQ, bK c F (vW c F) x.1 x.2 := dA 1 (by kernel_rfl) fun i hi => match i, hi with | 0, _ => IY c F | n + 1, h => absurd h (by omega)
theorem Kr (c : ai) (F : Nat) (x0 : AV) (s : St) : jJ c F (vW c F) oY rQ [x0] s = zD c F x0 s := by kernel_rfl
theorem Hs {c : ai} (hc : Sem c) (F : Nat){x0 : AV} {s : St} {r : AV × St} (h : zD c F x0 s = some r) : c 225 [x0] s = some (tidy s r) := hc.of (A := oY) (by kernel_rfl) (by kernel_rfl) (Kq _ F) (by rw [Kr]; exact h)
def DI (c : ai) (F : Nat) (x0 : AV) (s : St) : Option (AV × St) :=
  af c .box [x0] s fun x1 s0 =>
  af c (.alloc [(.str []), (.str []), (.str []), (.int .i64 0), (.int .i64 0), (.str []), (.bool false), (.bool false), .av]) [] s0 fun x2 s1 =>
  af c (.fieldA 8) [x1] s1 fun x3 s2 =>
  af c (.load none) [x3] s2 fun x4 s3 =>
  af c (.callF 147) [x4] s3 fun x5 s4 =>
  af c (.fieldA 8) [x1] s4 fun x6 s5 =>
  af c (.store 1) [x6, x5] s5 fun _ s6 =>
  af c (.load (some 9)) [x1] s6 fun x7 s7 =>
  af c (.store 9) [x2, x7] s7 fun _ s8 =>
  EY (some 9) x2 s8 fun v9 => some (v9, s8)
theorem FG {c : ai} (hc : Sem c) (F : Nat){x0 : AV} {s : St} {r : AV × St} (h : DI c F x0 s = some r) : c 226 [x0] s = some (tidy s r) := hc.gR (A := g226.getD default) (F := F) (s := (.seq none .leaf (.seq none .leaf (.seq none .leaf .leaf)))) (by kernel_rfl) (by kernel_rfl) (by kernel_rfl) (by kernel_rfl) h
def strings_Compare (c : ai) (F : Nat) (x0 x1 : AV) (s : St) : Option (AV × St) :=
  af c .move [(.int .i64 0)] s fun x4 s0 =>
  af c .move [x0] s0 fun x5 s1 =>
  af c .move [x1] s1 fun x6 s2 =>
  af c (.callF 275) [x5, x6] s2 fun x7 s3 =>
  af c .move [x7] s3 fun x4 s4 =>
  some (x4, s4)
theorem CL {c : ai} (hc : Sem c) (F : Nat){x0 x1 : AV} {s : St} {r : AV × St} (h : strings_Compare c F x0 x1 s = some r) : c 227 [x0, x1] s = some (tidy s r) := hc.gR (A := g227.getD default) (F := F) (s := (.seq none .leaf (.seq none .leaf .leaf))) (by kernel_rfl) (by kernel_rfl) (by kernel_rfl) (by kernel_rfl) h
def ng (c : ai) (F : Nat) (x0 x1 x2 : AV) (s : St) : Option (AV × St) :=
  af c .move [.av] s fun x6 s0 =>
  af c .move [x0] s0 fun aJ s1 =>
  af c .move [x1] s1 fun aP s2 =>
  af c (.sliceL 3 true false false) [aJ, aP] s2 fun aR s3 =>
  af c .move [x2] s3 fun aV s4 =>
  af c (.lenB .l) [aV] s4 fun aS s5 =>
  af c .move [aS] s5 fun x7 s6 =>
  af c .move [x7] s6 fun aZ s7 =>
  af c (.bin .eql .num) [aZ, (.int .i64 0)] s7 fun aT s8 =>
  aH aT (
    af c .move [x0] s8 fun aW s9 =>
    af c .move [aW] s9 fun x6 bk =>
    some (x6, bk)) (
    af c .move [x0] s8 fun bH bu =>
  af c (.lenB .l) [bH] bu fun bF bt =>
  af c .move [bF] bt fun x8 bA =>
  af c .move [x1] bA fun cR bP =>
  af c .move [x8] bP fun dw bV =>
  af c (.bin .eql .num) [cR, dw] bV fun cD b9 =>
  aH cD (
    af c .move [x0] b9 fun cS bX =>
    af c .move [x2] bX fun dW ck =>
    af c (.append 3 40) [cS, dW] ck fun dD cj =>
    af c .move [dD] cj fun x6 c9 =>
    some (x6, c9)) (
    af c .move [x8] b9 fun eO dS =>
  af c .move [x7] dS fun eP dF =>
  af c (.bin .add .num) [eO, eP] dF fun fL ey =>
  af c .move [x0] ey fun fX eA =>
  af c .bad [] eA fun cT dI =>
  af c (.bin .gtr .num) [fL, cT] dI fun dL eR =>
  aH dL (
    af c .move [x0] eR fun b8 eB =>
    af c .move [x1] eB fun iL e9 =>
    af c (.sliceL 3 false true false) [b8, iL] e9 fun gH eS =>
    af c .move [x8] eS fun fc eN =>
    af c .move [x7] eN fun iQ fo =>
    af c (.bin .add .num) [fc, iQ] fo fun gm gP =>
    af c .move [x1] gP fun iR gB =>
    af c (.bin .sub .num) [gm, iR] gB fun eT gq =>
    af c .bad [] gq fun jD gu =>
    af c .move [jD] gu fun x9 iO =>
    af c .move [x9] iO fun jw jb =>
    af c .move [x1] jb fun gQ jd =>
    af c (.sliceL 3 true false false) [jw, gQ] jd fun jE jv =>
    af c .move [x2] jv fun ki mJ =>
    af c (.copyB 3) [jE, ki] mJ fun iM mb =>
    aB .move [x9] fun lU =>
    aB .move [x1] fun fM =>
    aB .move [x7] fun ij =>
    aB (.bin .add .num) [fM, ij] fun gI =>
    aB (.sliceL 3 true false false) [lU, gI] fun mM =>
    aB .move [x0] fun kG =>
    aB .move [x1] fun kj =>
    aB (.sliceL 3 true false false) [kG, kj] fun jO =>
    af c (.copyB 3) [mM, jO] mb fun iT mK =>
    af c .move [x9] mK fun lV nH =>
    af c .move [lV] nH fun x6 mL =>
    some (x6, mL)) (
    af c .move [x0] eR fun ko jZ =>
  af c .move [x8] jZ fun jP nI =>
  af c .move [x7] nI fun oP nh =>
  af c (.bin .add .num) [jP, oP] nh fun j0 ni =>
  af c (.sliceL 3 false true false) [ko, j0] ni fun n9 nJ =>
  af c .move [n9] nJ fun x0 n4 =>
  af c .move [x2] n4 fun oR oO =>
  af c .move [x0] oO fun lq n6 =>
  af c .move [x1] n6 fun mN n8 =>
  af c .move [x7] n8 fun qw jQ =>
  af c (.bin .add .num) [mN, qw] jQ fun mg nK =>
  af c (.sliceL 3 true false false) [lq, mg] nK fun ru nL =>
  af c (.callF 276) [oR, ru] nL fun mO oQ =>
  af c (.un .not) [mO] oQ fun tJ oa =>
  aH tJ (
    aB .move [x0] fun tK =>
    aB .move [x1] fun tL =>
    aB .move [x7] fun qx =>
    aB (.bin .add .num) [tL, qx] fun vI =>
    aB (.sliceL 3 true false false) [tK, vI] fun vJ =>
    aB .move [x0] fun mI =>
    aB .move [x1] fun oV =>
    aB (.sliceL 3 true false false) [mI, oV] fun sJ =>
    af c (.copyB 3) [vJ, sJ] oa fun rC qv =>
    af c .move [x0] qv fun tP oT =>
    af c .move [x1] oT fun DN pS =>
    af c (.sliceL 3 true false false) [tP, DN] pS fun xU ob =>
    af c .move [x2] ob fun DO ry =>
    af c (.copyB 3) [xU, DO] ry fun E5 pT =>
    af c .move [x0] pT fun pV pU =>
    af c .move [pV] pU fun x6 qR =>
    some (x6, qR)) (
    af c .move [x0] oa fun DP rA =>
  af c .move [x8] rA fun qy oc =>
  af c (.sliceL 3 true false false) [DP, qy] oc fun Au rB =>
  af c .move [x2] rB fun Av tM =>
  af c (.copyB 3) [Au, Av] tM fun CB tN =>
  af c .move [x0] tN fun Aw oU =>
  af c .move [x1] oU fun Ay qP =>
  af c (.sliceL 3 true false false) [Aw, Ay] qP fun Az qQ =>
  af c .move [x7] qQ fun AA tO =>
  af c (.callF 277) [Az, AA] tO fun CC rD =>
  af c .move [x0] rD fun xV xT =>
  af c .move [xV] xT fun x6 wm =>
  some (x6, wm)))))
theorem rq {c : ai} (hc : Sem c) (F : Nat){x0 x1 x2 : AV} {s : St} {r : AV × St} (h : ng c F x0 x1 x2 s = some r) : c 228 [x0, x1, x2] s = some (tidy s r) := hc.gR (A := g228.getD default) (F := F) (s := (.seq none .leaf (.seq none .leaf (.seq none .leaf (.seq none (.seq none .leaf (.cond (.seq none .leaf .leaf) .leaf)) (.seq none .leaf (.seq none (.seq none .leaf (.cond (.seq none .leaf .leaf) .leaf)) (.seq none (.seq none .leaf (.cond (.seq none .leaf (.seq none .leaf (.seq none .leaf (.seq none .leaf .leaf)))) .leaf)) (.seq none .leaf (.seq none (.seq none .leaf (.cond (.seq none .leaf (.seq none .leaf (.seq none .leaf .leaf))) .leaf)) (.seq none .leaf (.seq none .leaf (.seq none .leaf .leaf))))))))))))) (by kernel_rfl) (by kernel_rfl) (by kernel_rfl) (by kernel_rfl) h
def Hx (c : ai) (F : Nat) (x0 x1 x2 : AV) (s : St) : Option (AV × St) :=
  af c (.alloc [(.str []), (.str []), (.int .u8 0)]) [] s fun x6 s0 =>
  af c .move [x0] s0 fun x7 s1 =>
  af c .move [x1] s1 fun x8 s2 =>
  af c .minB [x7, x8] s2 fun x9 s3 =>
  af c .move [x0] s3 fun aJ s4 =>
  af c .move [x1] s4 fun aP s5 =>
  af c .maxB [aJ, aP] s5 fun aR s6 =>
  af c .move [x2] s6 fun aV s7 =>
  af c (.build [(.str []), (.str []), (.int .u8 0)] [(0, 1), (1, 1), (2, 1)]) [x9, aR, aV] s7 fun aS s8 =>
  af c (.store 3) [x6, aS] s8 fun _ s9 =>
  EY (some 3) x6 s9 fun v10 => some (v10, s9)
theorem IM {c : ai} (hc : Sem c) (F : Nat){x0 x1 x2 : AV} {s : St} {r : AV × St} (h : Hx c F x0 x1 x2 s = some r) : c 229 [x0, x1, x2] s = some (tidy s r) := hc.gR (A := g229.getD default) (F := F) (s := (.seq none .leaf (.seq none .leaf .leaf))) (by kernel_rfl) (by kernel_rfl) (by kernel_rfl) (by kernel_rfl) h
def bN : aK := g232.getD default
def cB : Sh := (.seq none .leaf (.seq none .leaf (.seq none .leaf (.seq none (.block (.loop 0 [.h, (.i .h), (.i (.o .h)), (.i (.o (.o .h))), (.o (.i (.o .h))), (.i (.i (.o .h)))] [(2, [.h, (.i .h), (.i (.o .h)), (.i (.o (.o .h))), (.o (.i (.o .h)))])] (.seq none (.seq none .leaf (.cond .leaf .leaf)) (.block (.seq none .leaf (.seq none .leaf (.cond .leaf .leaf))))))) (.seq none .leaf .leaf)))))
def aC (c : ai) (F : Nat) (k2 : List AV -> St -> Option (AV × St)) : Nat -> List AV -> St -> Option (AV × St)
  | 0, _, _ => none
  | n + 1, vs, s => az vs fun x0 vs => az vs fun x2 vs => az vs fun x4 vs => az vs fun x8 vs => az vs fun x9 vs => az vs fun aJ vs => bC vs (
  af c .move [x9] s fun aZ s9 =>
  af c .move [aJ] s9 fun aT bk =>
  af c (.bin .lss .num) [aZ, aT] bk fun aW bu =>
  aH aW (
    af c .move [x9] bu fun bH bt =>
  af c .move [aJ] bt fun bF bA =>
  af c (.bin .add .num) [bH, bF] bA fun cR bP =>
  af c (.conv (.int .u64)) [cR] bP fun dw bV =>
  af c (.bin .shr .num) [dw, (.int .u64 1)] bV fun cD b9 =>
  af c (.conv (.int .i64)) [cD] b9 fun cS bX =>
  af c .move [cS] bX fun aP ck =>
  aB .move [x2] fun dW =>
  aB .move [x0] fun dD =>
  aB .move [aP] fun eO =>
  aB (.idxA 3 none) [dD, eO] fun eP =>
  eF (.load (some 3)) [eP] ck.heap (fun _ => true) fun fL =>
  eF (.load (some 3)) [x4] ck.heap (fun _ => true) fun fX =>
  af c .callV [dW, fL, fX] ck fun cT cj =>
  aB (.bin .lss .num) [cT, (.int .i64 0)] fun dL =>
  aH dL (
    af c .move [aP] cj fun b8 c9 =>
    af c (.bin .add .num) [b8, (.int .i64 1)] c9 fun iL dS =>
    af c .move [iL] dS fun x9 dF =>
    aC c F k2 n [x0, x2, x4, x8, x9, aJ] dF) (
    af c .move [aP] cj fun gH ey =>
    af c .move [gH] ey fun aJ eA =>
    aC c F k2 n [x0, x2, x4, x8, x9, aJ] eA)) (
    k2 [x0, x2, x4, x8, x9] bu))
def dU (c : ai) (F : Nat) (x0 x1 x2 : AV) (s : St) : Option (AV × St) :=
  af c .box [x1] s fun x4 s0 =>
  af c .move [(.int .i64 0)] s0 fun x6 s1 =>
  af c .move [(.bool false)] s1 fun x7 s2 =>
  af c .move [x0] s2 fun aR s3 =>
  af c (.lenB .l) [aR] s3 fun aV s4 =>
  af c .move [aV] s4 fun x8 s5 =>
  af c .move [x8] s5 fun aS s6 =>
  af c .move [(.int .i64 0)] s6 fun x9 s7 =>
  af c .move [aS] s7 fun aJ s8 =>
  aC c F (fun vs dI => az vs fun x0 vs => az vs fun x2 vs => az vs fun x4 vs => az vs fun x8 vs => az vs fun x9 vs => bC vs (
    aB .move [x9] fun iQ =>
  aB .move [x8] fun gm =>
  aB (.bin .lss .num) [iQ, gm] fun iR =>
  aB .move [iR] fun eT =>
  cJ eT true .move [x2] fun jD =>
  cJ eT true .move [x0] fun jw =>
  cJ eT true .move [x9] fun gQ =>
  cJ eT true (.idxA 3 none) [jw, gQ] fun jE =>
  jB eT true (.load (some 3)) [jE] dI.heap (fun _ => true) fun ki =>
  jB eT true (.load (some 3)) [x4] dI.heap (fun _ => true) fun iM =>
  sF eT true (af c .callV [jD, ki, iM] dI fun lU eR =>
  aB .move [x9] fun fc =>
  cJ eT true (.bin .eql .num) [lU, (.int .i64 0)] fun fM =>
  aB .pick [eT, fM, (.bool false)] fun ij =>
  aB .move [fc] fun x6 =>
  aB .move [ij] fun x7 =>
  some (.tuple [x6, x7], eR)) (aB .move [x9] fun fc =>
  cJ eT true (.bin .eql .num) [.undef, (.int .i64 0)] fun fM =>
  aB .pick [eT, fM, (.bool false)] fun ij =>
  aB .move [fc] fun x6 =>
  aB .move [ij] fun x7 =>
  some (.tuple [x6, x7], dI)))) F [x0, x2, x4, x8, x9, aJ] s8
def dH (c : ai) (F : Nat) : Env (AV × St) := gM [(0, fun K n => aC c F (K 2) n)]
theorem kV (c : ai) (F : Nat) : bK c F (dH c F) (cK bN cB 0).1 (cK bN cB 0).2 := dG (j := 0) (ins := [.h, (.i .h), (.i (.o .h)), (.i (.o (.o .h))), (.o (.i (.o .h))), (.i (.i (.o .h)))]) (outs := [(2, [.h, (.i .h), (.i (.o .h)), (.i (.o (.o .h))), (.o (.i (.o .h)))])]) (s := (.seq none (.seq none .leaf (.cond .leaf .leaf)) (.block (.seq none .leaf (.seq none .leaf (.cond .leaf .leaf)))))) (by kernel_rfl) (fun _ _ _ => by kernel_rfl) (fun _ _ _ _ => by kernel_rfl)
theorem lA (c : ai) (F : Nat) : ∀ x ∈ bM bN.code cB, bK c F (dH c F) x.1 x.2 := dA 1 (by kernel_rfl) fun i hi => match i, hi with | 0, _ => kV c F | n + 1, h => absurd h (by omega)
theorem lB (c : ai) (F : Nat) (x0 x1 x2 : AV) (s : St) : jJ c F (dH c F) bN cB [x0, x1, x2] s = dU c F x0 x1 x2 s := by kernel_rfl
theorem kF {c : ai} (hc : Sem c) (F : Nat){x0 x1 x2 : AV} {s : St} {r : AV × St} (h : dU c F x0 x1 x2 s = some r) : c 232 [x0, x1, x2] s = some (tidy s r) := hc.of (A := bN) (by kernel_rfl) (by kernel_rfl) (lA _ F) (by rw [lB]; exact h)
def rG : aK := g241.getD default
def u9 : Sh := (.seq none .leaf (.seq none (.seq none .leaf (.block (.loop 0 [.h, (.o (.o .h))] [(1, [(.i .h)]), (2, [.h])] (.seq none (.seq none .leaf (.cond .leaf .leaf)) (.seq none (.block (.seq none .leaf (.cond (.seq none .leaf .leaf) .leaf))) .leaf))))) (.seq none .leaf .leaf)))
def lQ (c : ai) (F : Nat) (k1 k2 : List AV -> St -> Option (AV × St)) : Nat -> List AV -> St -> Option (AV × St)
  | 0, _, _ => none
  | n + 1, vs, s => az vs fun x0 vs => az vs fun x3 vs => bC vs (
  af c .move [x3] s fun x4 s2 =>
  af c .move [x0] s2 fun x5 s3 =>
  af c (.lenB .s) [x5] s3 fun x6 s4 =>
  af c (.bin .lss .num) [x4, x6] s4 fun x7 s5 =>
  aH x7 (
    af c .move [x0] s5 fun aJ s6 =>
  af c .move [x3] s6 fun aP s7 =>
  af c .idxS [aJ, aP] s7 fun aR s8 =>
  af c (.bin .lss .num) [aR, (.int .u8 97)] s8 fun aV s9 =>
  af c .move [aV] s9 fun aS bk =>
  aj c aS false .move [x0] bk fun aZ bu =>
  aj c aS false .move [x3] bu fun aT bt =>
  aj c aS false .idxS [aZ, aT] bt fun aW bA =>
  aj c aS false (.bin .gtr .num) [aW, (.int .u8 122)] bA fun bH bP =>
  af c .pick [aS, (.bool true), bH] bP fun bF bV =>
  aH bF (
    af c .move [(.bool false)] bV fun x2 b9 =>
    k1 [x2] b9) (
    af c .move [x3] bV fun x8 bX =>
  af c (.bin .add .num) [x8, (.int .i64 1)] bX fun x9 ck =>
  af c .move [x9] ck fun x3 cj =>
  lQ c F k1 k2 n [x0, x3] cj)) (
    k2 [x0] s5))
def DG (c : ai) (F : Nat) (x0 : AV) (s : St) : Option (AV × St) :=
  af c .move [(.bool false)] s fun x2 s0 =>
  af c .move [(.int .i64 0)] s0 fun x3 s1 =>
  lQ c F (fun vs c9 => az vs fun x2 vs => bC vs (
    some (x2, c9))) (fun vs dS => az vs fun x0 vs => bC vs (
    af c .move [x0] dS fun cR dF =>
  af c (.lenB .s) [cR] dF fun dw ey =>
  af c (.bin .geq .num) [dw, (.int .i64 1)] ey fun cD eA =>
  af c .move [cD] eA fun cS dI =>
  aj c cS true .move [x0] dI fun dW eR =>
  aj c cS true (.lenB .s) [dW] eR fun dD eB =>
  aj c cS true (.bin .leq .num) [dD, (.int .i64 12)] eB fun eO e9 =>
  af c .pick [cS, eO, (.bool false)] e9 fun eP eS =>
  af c .move [eP] eS fun x2 eN =>
  some (x2, eN))) F [x0, x3] s1
def zN (c : ai) (F : Nat) : Env (AV × St) := gM [(0, fun K n => lQ c F (K 1) (K 2) n)]
theorem M5 (c : ai) (F : Nat) : bK c F (zN c F) (cK rG u9 0).1 (cK rG u9 0).2 := dG (j := 0) (ins := [.h, (.o (.o .h))]) (outs := [(1, [(.i .h)]), (2, [.h])]) (s := (.seq none (.seq none .leaf (.cond .leaf .leaf)) (.seq none (.block (.seq none .leaf (.cond (.seq none .leaf .leaf) .leaf))) .leaf))) (by kernel_rfl) (fun _ _ _ => by kernel_rfl) (fun _ _ _ _ => by kernel_rfl)
theorem NP (c : ai) (F : Nat) : ∀ x ∈ bM rG.code u9, bK c F (zN c F) x.1 x.2 := dA 1 (by kernel_rfl) fun i hi => match i, hi with | 0, _ => M5 c F | n + 1, h => absurd h (by omega)
theorem NQ (c : ai) (F : Nat) (x0 : AV) (s : St) : jJ c F (zN c F) rG u9 [x0] s = DG c F x0 s := by kernel_rfl
theorem J9 {c : ai} (hc : Sem c) (F : Nat){x0 : AV} {s : St} {r : AV × St} (h : DG c F x0 s = some r) : c 241 [x0] s = some (tidy s r) := hc.of (A := rG) (by kernel_rfl) (by kernel_rfl) (NP _ F) (by rw [NQ]; exact h)
def jF : aK := g242.getD default
def l7 : Sh := (.seq none .leaf (.seq none (.seq none .leaf (.cond (.seq none .leaf .leaf) .leaf)) (.seq none (.seq none .leaf (.block (.loop 0 [.h, (.o (.o .h))] [(1, [(.i .h)]), (2, [])] (.seq none (.seq none .leaf (.cond .leaf .leaf)) (.seq none (.block (.seq none .leaf (.cond (.seq none .leaf .leaf) .leaf))) .leaf))))) (.seq none .leaf .leaf))))
def fE (c : ai) (F : Nat) (k1 k2 : List AV -> St -> Option (AV × St)) : Nat -> List AV -> St -> Option (AV × St)
  | 0, _, _ => none
  | n + 1, vs, s => az vs fun x0 vs => az vs fun x3 vs => bC vs (
  af c .move [x3] s fun aR bu =>
  af c .move [x0] bu fun aV bt =>
  af c (.lenB .s) [aV] bt fun aS bA =>
  af c (.bin .lss .num) [aR, aS] bA fun aZ bP =>
  aH aZ (
    af c .move [x0] bP fun bH bV =>
  af c .move [x3] bV fun bF b9 =>
  af c .idxS [bH, bF] b9 fun cR bX =>
  af c (.bin .lss .num) [cR, (.int .u8 97)] bX fun dw ck =>
  af c .move [dw] ck fun cD cj =>
  aj c cD false .move [x0] cj fun cS c9 =>
  aj c cD false .move [x3] c9 fun dW dS =>
  aj c cD false .idxS [cS, dW] dS fun dD dF =>
  aj c cD false (.bin .gtr .num) [dD, (.int .u8 122)] dF fun eO ey =>
  af c .pick [cD, (.bool true), eO] ey fun eP eA =>
  aH eP (
    af c .move [(.bool false)] eA fun x2 dI =>
    k1 [x2] dI) (
    af c .move [x3] eA fun aT eR =>
  af c (.bin .add .num) [aT, (.int .i64 1)] eR fun aW eB =>
  af c .move [aW] eB fun x3 e9 =>
  fE c F k1 k2 n [x0, x3] e9)) (
    k2 [] bP))
def qY (c : ai) (F : Nat) (x0 : AV) (s : St) : Option (AV × St) :=
  af c .move [(.bool false)] s fun x2 s0 =>
  af c .move [x0] s0 fun x4 s1 =>
  af c (.lenB .s) [x4] s1 fun x5 s2 =>
  af c (.bin .eql .num) [x5, (.int .i64 0)] s2 fun x6 s3 =>
  af c .move [x6] s3 fun x7 s4 =>
  aj c x7 false .move [x0] s4 fun x8 s5 =>
  aj c x7 false (.lenB .s) [x8] s5 fun x9 s6 =>
  aj c x7 false (.bin .gtr .num) [x9, (.int .i64 12)] s6 fun aJ s7 =>
  af c .pick [x7, (.bool true), aJ] s7 fun aP s8 =>
  aH aP (
    af c .move [(.bool false)] s8 fun x2 s9 =>
    some (x2, s9)) (
    af c .move [(.int .i64 0)] s8 fun x3 bk =>
  fE c F (fun vs eS => az vs fun x2 vs => bC vs (
    some (x2, eS))) (fun vs eN => bC vs (
    af c .move [(.bool true)] eN fun x2 fo =>
  some (x2, fo))) F [x0, x3] bk)
def pH (c : ai) (F : Nat) : Env (AV × St) := gM [(0, fun K n => fE c F (K 1) (K 2) n)]
theorem Cm (c : ai) (F : Nat) : bK c F (pH c F) (cK jF l7 0).1 (cK jF l7 0).2 := dG (j := 0) (ins := [.h, (.o (.o .h))]) (outs := [(1, [(.i .h)]), (2, [])]) (s := (.seq none (.seq none .leaf (.cond .leaf .leaf)) (.seq none (.block (.seq none .leaf (.cond (.seq none .leaf .leaf) .leaf))) .leaf))) (by kernel_rfl) (fun _ _ _ => by kernel_rfl) (fun _ _ _ _ => by kernel_rfl)
theorem CQ (c : ai) (F : Nat) : ∀ x ∈ bM jF.code l7, bK c F (pH c F) x.1 x.2 := dA 1 (by kernel_rfl) fun i hi => match i, hi with | 0, _ => Cm c F | n + 1, h => absurd h (by omega)
theorem CR (c : ai) (F : Nat) (x0 : AV) (s : St) : jJ c F (pH c F) jF l7 [x0] s = qY c F x0 s := by kernel_rfl
theorem Ak {c : ai} (hc : Sem c) (F : Nat){x0 : AV} {s : St} {r : AV × St} (h : qY c F x0 s = some r) : c 242 [x0] s = some (tidy s r) := hc.of (A := jF) (by kernel_rfl) (by kernel_rfl) (CQ _ F) (by rw [CR]; exact h)
def y8 (c : ai) (F : Nat) (x0 x1 : AV) (s : St) : Option (AV × St) :=
  af c .move [(.int .i64 0)] s fun x4 s0 =>
  af c .move [x0] s0 fun x5 s1 =>
  af c (.bin .lss .num) [x5, (.int .i64 1)] s1 fun x6 s2 =>
  af c .move [x6] s2 fun x7 s3 =>
  aj c x7 false .move [x0] s3 fun x8 s4 =>
  aj c x7 false (.bin .gtr .num) [x8, (.int .i64 24)] s4 fun x9 s5 =>
  af c .pick [x7, (.bool true), x9] s5 fun aJ s6 =>
  af c .move [aJ] s6 fun aP s7 =>
  aj c aP false .move [x1] s7 fun aR s8 =>
  aj c aP false (.bin .neq .num) [aR, (.int .i64 0)] s8 fun aV s9 =>
  af c .pick [aP, (.bool true), aV] s9 fun aS bk =>
  aH aS (
    af c .move [(.int .i64 0)] bk fun x4 bu =>
    some (x4, bu)) (
    af c .move [x0] bk fun aZ bt =>
  af c .move [aZ] bt fun x4 bA =>
  some (x4, bA))
theorem CH {c : ai} (hc : Sem c) (F : Nat){x0 x1 : AV} {s : St} {r : AV × St} (h : y8 c F x0 x1 s = some r) : c 244 [x0, x1] s = some (tidy s r) := hc.gR (A := g244.getD default) (F := F) (s := (.seq none .leaf (.seq none (.seq none .leaf (.cond (.seq none .leaf .leaf) .leaf)) (.seq none .leaf .leaf)))) (by kernel_rfl) (by kernel_rfl) (by kernel_rfl) (by kernel_rfl) h
def Ah (c : ai) (F : Nat) (x0 x1 : AV) (s : St) : Option (AV × St) :=
  af c .move [(.int .i64 0)] s fun x4 s0 =>
  af c .move [x0] s0 fun x5 s1 =>
  af c (.bin .lss .num) [x5, (.int .i64 1)] s1 fun x6 s2 =>
  af c .move [x6] s2 fun x7 s3 =>
  aj c x7 false .move [x0] s3 fun x8 s4 =>
  aj c x7 false (.bin .gtr .num) [x8, (.int .i64 11)] s4 fun x9 s5 =>
  af c .pick [x7, (.bool true), x9] s5 fun aJ s6 =>
  af c .move [aJ] s6 fun aP s7 =>
  aj c aP false .move [x1] s7 fun aR s8 =>
  aj c aP false (.bin .lss .num) [aR, (.int .i64 0)] s8 fun aV s9 =>
  af c .pick [aP, (.bool true), aV] s9 fun aS bk =>
  af c .move [aS] bk fun aZ bu =>
  aj c aZ false .move [x1] bu fun aT bt =>
  aj c aZ false (.bin .gtr .num) [aT, (.int .i64 2)] bt fun aW bA =>
  af c .pick [aZ, (.bool true), aW] bA fun bH bP =>
  aH bH (
    af c .move [(.int .i64 0)] bP fun x4 bV =>
    some (x4, bV)) (
    af c .move [x0] bP fun bF b9 =>
  af c (.bin .mul .num) [(.int .i64 2), bF] b9 fun cR bX =>
  af c .move [x1] bX fun dw ck =>
  af c (.bin .add .num) [cR, dw] ck fun cD cj =>
  af c .move [cD] cj fun x4 c9 =>
  some (x4, c9))
theorem DD {c : ai} (hc : Sem c) (F : Nat){x0 x1 : AV} {s : St} {r : AV × St} (h : Ah c F x0 x1 s = some r) : c 249 [x0, x1] s = some (tidy s r) := hc.gR (A := g249.getD default) (F := F) (s := (.seq none .leaf (.seq none (.seq none .leaf (.cond (.seq none .leaf .leaf) .leaf)) (.seq none .leaf .leaf)))) (by kernel_rfl) (by kernel_rfl) (by kernel_rfl) (by kernel_rfl) h
def Aj (c : ai) (F : Nat) (x0 x1 : AV) (s : St) : Option (AV × St) :=
  af c .move [(.int .i64 0)] s fun x4 s0 =>
  af c .move [x0] s0 fun x5 s1 =>
  af c (.bin .lss .num) [x5, (.int .i64 1)] s1 fun x6 s2 =>
  af c .move [x6] s2 fun x7 s3 =>
  aj c x7 false .move [x0] s3 fun x8 s4 =>
  aj c x7 false (.bin .gtr .num) [x8, (.int .i64 8)] s4 fun x9 s5 =>
  af c .pick [x7, (.bool true), x9] s5 fun aJ s6 =>
  af c .move [aJ] s6 fun aP s7 =>
  aj c aP false .move [x1] s7 fun aR s8 =>
  aj c aP false (.bin .lss .num) [aR, (.int .i64 1)] s8 fun aV s9 =>
  af c .pick [aP, (.bool true), aV] s9 fun aS bk =>
  af c .move [aS] bk fun aZ bu =>
  aj c aZ false .move [x1] bu fun aT bt =>
  aj c aZ false (.bin .gtr .num) [aT, (.int .i64 8)] bt fun aW bA =>
  af c .pick [aZ, (.bool true), aW] bA fun bH bP =>
  aH bH (
    af c .move [(.int .i64 0)] bP fun x4 bV =>
    some (x4, bV)) (
    af c .move [x0] bP fun bF b9 =>
  af c .move [x1] b9 fun cR bX =>
  af c (.bin .mul .num) [(.int .i64 2), cR] bX fun dw ck =>
  af c (.bin .add .num) [bF, dw] ck fun cD cj =>
  af c .move [cD] cj fun x4 c9 =>
  some (x4, c9))
theorem DE {c : ai} (hc : Sem c) (F : Nat){x0 x1 : AV} {s : St} {r : AV × St} (h : Aj c F x0 x1 s = some r) : c 254 [x0, x1] s = some (tidy s r) := hc.gR (A := g254.getD default) (F := F) (s := (.seq none .leaf (.seq none (.seq none .leaf (.cond (.seq none .leaf .leaf) .leaf)) (.seq none .leaf .leaf)))) (by kernel_rfl) (by kernel_rfl) (by kernel_rfl) (by kernel_rfl) h
def Cw (c : ai) (F : Nat) (x0 x1 : AV) (s : St) : Option (AV × St) :=
  af c .move [(.int .i64 0)] s fun x4 s0 =>
  af c .move [x0] s0 fun x5 s1 =>
  af c (.bin .lss .num) [x5, (.int .i64 1)] s1 fun x6 s2 =>
  af c .move [x6] s2 fun x7 s3 =>
  aj c x7 false .move [x0] s3 fun x8 s4 =>
  aj c x7 false (.bin .gtr .num) [x8, (.int .i64 24)] s4 fun x9 s5 =>
  af c .pick [x7, (.bool true), x9] s5 fun aJ s6 =>
  af c .move [aJ] s6 fun aP s7 =>
  aj c aP false .move [x1] s7 fun aR s8 =>
  aj c aP false (.bin .lss .num) [aR, (.int .i64 0)] s8 fun aV s9 =>
  af c .pick [aP, (.bool true), aV] s9 fun aS bk =>
  af c .move [aS] bk fun aZ bu =>
  aj c aZ false .move [x1] bu fun aT bt =>
  aj c aZ false .move [x0] bt fun aW bA =>
  aj c aZ false (.bin .gtr .num) [aT, aW] bA fun bH bP =>
  af c .pick [aZ, (.bool true), bH] bP fun bF bV =>
  aH bF (
    af c .move [(.int .i64 0)] bV fun x4 b9 =>
    some (x4, b9)) (
    af c .move [x0] bV fun cR bX =>
  af c .move [cR] bX fun x4 ck =>
  some (x4, ck))
theorem Ew {c : ai} (hc : Sem c) (F : Nat){x0 x1 : AV} {s : St} {r : AV × St} (h : Cw c F x0 x1 s = some r) : c 259 [x0, x1] s = some (tidy s r) := hc.gR (A := g259.getD default) (F := F) (s := (.seq none .leaf (.seq none (.seq none .leaf (.cond (.seq none .leaf .leaf) .leaf)) (.seq none .leaf .leaf)))) (by kernel_rfl) (by kernel_rfl) (by kernel_rfl) (by kernel_rfl) h
def qD : aK := g273.getD default
def tW : Sh := (.seq none .leaf (.seq none (.seq none .leaf (.cond (.seq none .leaf .leaf) .leaf)) (.seq none (.seq none .leaf (.block (.loop 0 [.h, (.o (.i (.i .h))), (.i (.i (.i .h)))] [(1, [(.i .h)]), (2, [])] (.seq none .leaf (.seq none (.cond .leaf .leaf) (.seq none (.block (.seq none .leaf (.seq none .leaf (.cond (.seq none .leaf .leaf) .leaf)))) .leaf)))))) (.seq none .leaf .leaf))))
def kz (c : ai) (F : Nat) (k1 k2 : List AV -> St -> Option (AV × St)) : Nat -> List AV -> St -> Option (AV × St)
  | 0, _, _ => none
  | n + 1, vs, s => az vs fun x0 vs => az vs fun aV vs => az vs fun aS vs => bC vs (
  af c (.bin .lss .num) [aS, aV] s fun aZ bA =>
  aH aZ (
    af c .move [aS] bA fun aT bP =>
  af c .move [aT] bP fun x3 bV =>
  af c .move [x0] bV fun aW b9 =>
  af c .move [x3] b9 fun bH bX =>
  af c .idxS [aW, bH] bX fun bF ck =>
  af c (.bin .lss .num) [bF, (.int .u8 97)] ck fun cR cj =>
  af c .move [cR] cj fun dw c9 =>
  aj c dw false .move [x0] c9 fun cD dS =>
  aj c dw false .move [x3] dS fun cS dF =>
  aj c dw false .idxS [cD, cS] dF fun dW ey =>
  aj c dw false (.bin .gtr .num) [dW, (.int .u8 122)] ey fun dD eA =>
  af c .pick [dw, (.bool true), dD] eA fun eO dI =>
  aH eO (
    af c .move [(.bool false)] dI fun x2 eR =>
    k1 [x2] eR) (
    af c (.bin .add .num) [aS, (.int .i64 1)] dI fun eP eB =>
  af c .move [eP] eB fun aS e9 =>
  kz c F k1 k2 n [x0, aV, aS] e9)) (
    k2 [] bA))
def By (c : ai) (F : Nat) (x0 : AV) (s : St) : Option (AV × St) :=
  af c .move [(.bool false)] s fun x2 s0 =>
  af c .move [x0] s0 fun x4 s1 =>
  af c (.lenB .s) [x4] s1 fun x5 s2 =>
  af c (.bin .eql .num) [x5, (.int .i64 0)] s2 fun x6 s3 =>
  af c .move [x6] s3 fun x7 s4 =>
  aj c x7 false .move [x0] s4 fun x8 s5 =>
  aj c x7 false (.lenB .s) [x8] s5 fun x9 s6 =>
  aj c x7 false (.bin .gtr .num) [x9, (.int .i64 12)] s6 fun aJ s7 =>
  af c .pick [x7, (.bool true), aJ] s7 fun aP s8 =>
  aH aP (
    af c .move [(.bool false)] s8 fun x2 s9 =>
    some (x2, s9)) (
    af c .move [x0] s8 fun aR bk =>
  af c (.lenB .s) [aR] bk fun aV bu =>
  af c .move [(.int .i64 0)] bu fun aS bt =>
  kz c F (fun vs eS => az vs fun x2 vs => bC vs (
    some (x2, eS))) (fun vs eN => bC vs (
    af c .move [(.bool true)] eN fun x2 fo =>
  some (x2, fo))) F [x0, aV, aS] bt)
def yl (c : ai) (F : Nat) : Env (AV × St) := gM [(0, fun K n => kz c F (K 1) (K 2) n)]
theorem Ks (c : ai) (F : Nat) : bK c F (yl c F) (cK qD tW 0).1 (cK qD tW 0).2 := dG (j := 0) (ins := [.h, (.o (.i (.i .h))), (.i (.i (.i .h)))]) (outs := [(1, [(.i .h)]), (2, [])]) (s := (.seq none .leaf (.seq none (.cond .leaf .leaf) (.seq none (.block (.seq none .leaf (.seq none .leaf (.cond (.seq none .leaf .leaf) .leaf)))) .leaf)))) (by kernel_rfl) (fun _ _ _ => by kernel_rfl) (fun _ _ _ _ => by kernel_rfl)
theorem M6 (c : ai) (F : Nat) : ∀ x ∈ bM qD.code tW, bK c F (yl c F) x.1 x.2 := dA 1 (by kernel_rfl) fun i hi => match i, hi with | 0, _ => Ks c F | n + 1, h => absurd h (by omega)
theorem M7 (c : ai) (F : Nat) (x0 : AV) (s : St) : jJ c F (yl c F) qD tW [x0] s = By c F x0 s := by kernel_rfl
theorem Iz {c : ai} (hc : Sem c) (F : Nat){x0 : AV} {s : St} {r : AV × St} (h : By c F x0 s = some r) : c 273 [x0] s = some (tidy s r) := hc.of (A := qD) (by kernel_rfl) (by kernel_rfl) (M6 _ F) (by rw [M7]; exact h)
def Hg (c : ai) (F : Nat) (x0 : AV) (s : St) : Option (AV × St) :=
  af c .move [(.bool false)] s fun x2 s0 =>
  af c .move [x0] s0 fun x3 s1 =>
  af c (.bin .eql .num) [x3, (.str [])] s1 fun x4 s2 =>
  af c .move [x4] s2 fun x5 s3 =>
  aj c x5 false .move [x0] s3 fun x6 s4 =>
  aj c x5 false (.callF 273) [x6] s4 fun x7 s5 =>
  af c .pick [x5, (.bool true), x7] s5 fun x8 s6 =>
  af c .move [x8] s6 fun x2 s7 =>
  some (x2, s7)
theorem IC {c : ai} (hc : Sem c) (F : Nat){x0 : AV} {s : St} {r : AV × St} (h : Hg c F x0 s = some r) : c 274 [x0] s = some (tidy s r) := hc.gR (A := g274.getD default) (F := F) (s := (.seq none .leaf (.seq none .leaf .leaf))) (by kernel_rfl) (by kernel_rfl) (by kernel_rfl) (by kernel_rfl) h
def bytealg_CompareString (c : ai) (F : Nat) (x0 x1 : AV) (s : St) : Option (AV × St) :=
  af c .move [(.int .i64 0)] s fun x4 s0 =>
  af c .move [x0] s0 fun x5 s1 =>
  af c .move [x1] s1 fun x6 s2 =>
  af c (.callF 302) [x5, x6] s2 fun x7 s3 =>
  af c .move [x7] s3 fun x4 s4 =>
  some (x4, s4)
theorem wJ {c : ai} (hc : Sem c) (F : Nat){x0 x1 : AV} {s : St} {r : AV × St} (h : bytealg_CompareString c F x0 x1 s = some r) : c 275 [x0, x1] s = some (tidy s r) := hc.gR (A := g275.getD default) (F := F) (s := (.seq none .leaf (.seq none .leaf .leaf))) (by kernel_rfl) (by kernel_rfl) (by kernel_rfl) (by kernel_rfl) h
end Go.Proofs.YtogojkhbplmifaaGreatDoor
end
section
set_option linter.all false
set_option maxRecDepth 100000
noncomputable section
namespace Go.Proofs.YtogojkhbplmifaaGreatDoor
open Go Go.Ai Go.Proofs
def sK (c : ai) (F : Nat) (x0 x1 : AV) (s : St) : Option (AV × St) :=
  af c .box [x0] s fun x2 s0 =>
  af c .box [x1] s0 fun x3 s1 =>
  af c .move [(.bool false)] s1 fun x4 s2 =>
  eF (.load (some 5)) [x2] s2.heap (fun _ => true) fun x5 =>
  af c (.callF 8) [x5, (.int .i64 100)] s2 fun x6 s3 =>
  aB (.un .not) [x6] fun x7 =>
  aB .move [x7] fun x8 =>
  jB x8 false (.load (some 5)) [x2] s3.heap (fun _ => true) fun x9 =>
  jB x8 false (.load (some 6)) [x3] s3.heap (fun _ => true) fun aJ =>
  sF x8 false (af c (.callF 9) [x9, aJ] s3 fun aP s4 =>
  jB x8 false (.load (some 5)) [x2] s4.heap (fun v => fP (.load (some 5)) [x2] v (fN [] s3.heap) && true) fun aR =>
  jB x8 false (.load (some 6)) [x3] s4.heap (fun v => fP (.load (some 6)) [x3] v (fN [] s3.heap) && true) fun aV =>
  sF x8 false (af c (.callF 10) [aR, aV] s4 fun aS s5 =>
  cJ x8 false (.bin .eql .num) [aP, aS] fun aZ =>
  aB .pick [x8, (.bool true), aZ] fun aT =>
  aB .move [aT] fun aW =>
  sF aW true (af c (.callF 11) [] s5 fun bH s6 =>
  aB .pick [aW, bH, (.bool false)] fun bF =>
  aB .move [bF] fun x4 =>
  some (x4, s6)) (aB .pick [aW, .undef, (.bool false)] fun bF =>
  aB .move [bF] fun x4 =>
  some (x4, s5))) (cJ x8 false (.bin .eql .num) [aP, .undef] fun aZ =>
  aB .pick [x8, (.bool true), aZ] fun aT =>
  aB .move [aT] fun aW =>
  sF aW true (af c (.callF 11) [] s4 fun bH s7 =>
  aB .pick [aW, bH, (.bool false)] fun bF =>
  aB .move [bF] fun x4 =>
  some (x4, s7)) (aB .pick [aW, .undef, (.bool false)] fun bF =>
  aB .move [bF] fun x4 =>
  some (x4, s4)))) (jB x8 false (.load (some 5)) [x2] s3.heap (fun _ => true) fun aR =>
  jB x8 false (.load (some 6)) [x3] s3.heap (fun _ => true) fun aV =>
  sF x8 false (af c (.callF 10) [aR, aV] s3 fun aS s8 =>
  cJ x8 false (.bin .eql .num) [.undef, aS] fun aZ =>
  aB .pick [x8, (.bool true), aZ] fun aT =>
  aB .move [aT] fun aW =>
  sF aW true (af c (.callF 11) [] s8 fun bH s9 =>
  aB .pick [aW, bH, (.bool false)] fun bF =>
  aB .move [bF] fun x4 =>
  some (x4, s9)) (aB .pick [aW, .undef, (.bool false)] fun bF =>
  aB .move [bF] fun x4 =>
  some (x4, s8))) (cJ x8 false (.bin .eql .num) [.undef, .undef] fun aZ =>
  aB .pick [x8, (.bool true), aZ] fun aT =>
  aB .move [aT] fun aW =>
  sF aW true (af c (.callF 11) [] s3 fun bH bk =>
  aB .pick [aW, bH, (.bool false)] fun bF =>
  aB .move [bF] fun x4 =>
  some (x4, bk)) (aB .pick [aW, .undef, (.bool false)] fun bF =>
  aB .move [bF] fun x4 =>
  some (x4, s3))))
theorem wL {c : ai} (hc : Sem c) (F : Nat){x0 x1 : AV} {s : St} {r : AV × St} (h : sK c F x0 x1 s = some r) : c 3 [x0, x1] s = some (tidy s r) := hc.gR (A := g3.getD default) (F := F) (s := (.seq none .leaf (.seq none .leaf .leaf))) (by kernel_rfl) (by kernel_rfl) (by kernel_rfl) (by kernel_rfl) h
end Go.Proofs.YtogojkhbplmifaaGreatDoor
end
