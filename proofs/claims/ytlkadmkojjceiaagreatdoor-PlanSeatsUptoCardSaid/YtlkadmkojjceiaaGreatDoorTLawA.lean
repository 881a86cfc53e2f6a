/- Functions of the program, plainly, and what they answer. -/
import Derived.Test.YtlkadmkojjceiaaGreatDoorTAwake
set_option linter.all false
set_option maxRecDepth 100000
set_option maxHeartbeats 4000000
namespace Go.Proofs.YtlkadmkojjceiaaGreatDoor
noncomputable section
open Go Go.Ai Go.Proofs
def yu:dG:=wo [(327,IX),(12,KX)]
def Sem(c:ah):Prop:=c=run yu gg
def gA(f:Nat):cq:=ql gg f
abbrev PX(f:Nat)(s:Sh):={a:Tx // txF (gA f) s=a}
abbrev PL(f:Nat)(s:Sh)(i:Nat):={a:List Pos×Tx // txL (eH (gA f) s i)=a}
theorem Sem.o0{c:ah}(hc:Sem c)(F:Nat){f:FuncId}{args:List AV}{st:St}{r:AV×St}(s:Sh)(hk:(sy (yu f)&& !sy (gg.get (key f))&&(dF (gA f).code s).isEmpty)=true)
  {k:O2} (hd:zM c F (Sg []) (gA f) s args st=k) (h:k=some r):c f args st=some (tidy st r):=by
 subst hc;exact Wy s hk hd h
theorem Sem.o1{c:ah}(hc:Sem c)(F:Nat){f:FuncId}{args:List AV}{st:St}{r:AV×St}(Ls:Un->List Q2->Nat->Q2)(s:Sh)(hk:(sy (yu f)&& !sy (gg.get (key f))&&Nat.beq (dF (gA f).code s).length 1)=true)
  (hs:(Pg (eH (gA f) s 0).2&&Nat.beq (Zi (eH (gA f) s 0).2) 0)=true) (h0:∀K' vs st,lV Ls (gA f) s 0 K' 0 vs st=none)
  (h1:∀K' n vs st,lV Ls (gA f) s 0 K' (n+1) vs st=E0 (den c F (lV Ls (gA f) s) (eH (gA f) s 0).1 (lpB (eH (gA f) s 0).2)) (lpI (eH (gA f) s 0).2) (Zj (eH (gA f) s 0).2) K' (lV Ls (gA f) s 0 K' n) vs st)
  {k:O2} (hd:zM c F (lV Ls (gA f) s) (gA f) s args st=k) (h:k=some r):c f args st=some (tidy st r):=by
 subst hc;exact Wz Ls s hk hs h0 h1 hd h
theorem Sem.oL{c:ah}(hc:Sem c)(F:Nat){f:FuncId}{args:List AV}{st:St}{r:AV×St}(Ls:Un->List Q2->Nat->Q2)(s:Sh)(n:Nat)(hk:(sy (yu f)&& !sy (gg.get (key f))&&Nat.beq (dF (gA f).code s).length n)=true)
  (hL:∀i,i<n->wL c F (lV Ls (gA f) s) (eH (gA f) s i).1 (eH (gA f) s i).2) {k:O2} (hd:zM c F (lV Ls (gA f) s) (gA f) s args st=k) (h:k=some r):c f args st=some (tidy st r):=by
 subst hc;exact Po Ls s n hk hL hd h
end
noncomputable section
open Go Go.Ai Go.Proofs
attribute [local go_sem ↓] aZ uD ev TG yg getLT wT JB Of uB uC GY E8 E9 Fa A9 Ba Bb Bc Bd Be Fb Fe Bf Bg Bh Bi Bj KY KZ K3
attribute [local go_sem] aZ uD ev
section
variable(c:ah)(F:Nat)(x0 x1 x2 x3 x4 x5 x6 x7 x8 x9 Aj vE:AV)(s:St)
def BR:Sh:=(sq sl (sq sl sl))
def BS:PX 44 BR:=⟨_,by conv=>lhs;reduce⟩
def yK:O2:=aZ c F bf BS.1 [x0,x1] s
def MT:=(by dsimp only[yK,BS,go_sem,Int.reduceOfNat]:yK c F x0 x1 s=_)
def oo:Sh:=(sq sl (sq sl (sq (sq sl (sc (sq sl sl) sl)) (sq (sq sl (sb (sp 0 [1,6] [(1,[2,3]),(2,[])] (sq (sq sl (sc sl sl)) (sq (sb (sq (sq sl (sq sl (sc (sq sl sl) sl))) (sq sl (sc (sq sl sl) sl)))) sl))))) (sq sl sl)))))
def wV:PX 53 oo:=⟨_,by conv=>lhs;reduce⟩
def vF:PL 53 oo 0:=⟨_,by conv=>lhs;reduce⟩
def fk(k1 k2:Q2):Nat->Q2
 |0,_,_=>none
 |n+1,vs,s=>dX c F bf (fk k1 k2 n) [k1,k2] vF.1 vs s
def kN(k1 k2:Q2)(n:Nat)(vs:List AV)(s:St):=(by dsimp only[fk,vF,go_sem,Int.reduceOfNat]:fk c F k1 k2 (n+1) vs s=_)
def oq:Un->List Q2->Nat->Q2
 |.z,[k1,k2]=>fk c F k1 k2
 |_,_=>λ_=>eJ
def qL:O2:=aZ c F (oq c F) wV.1 [x0] s
def G0:=(by dsimp only[qL,wV, ↓oq,go_sem,Int.reduceOfNat]:qL c F x0 s=_)
def JK:Sh:=(sq sl (sq (sq sl (sc (sq sl sl) sl)) (sq sl sl)))
def JL:PX 72 JK:=⟨_,by conv=>lhs;reduce⟩
def G3:O2:=aZ c F bf JL.1 [x0] s
def TX:=(by dsimp only[G3,JL,go_sem,Int.reduceOfNat]:G3 c F x0 s=_)
def BT:Sh:=(sq sl (sq (sq sl (sq sl (sc (sq sl sl) sl))) (sq sl (sq (sq sl (sb (sp 0 [1,6,21,22,23] [(1,[2,3]),(2,[])] (sq sl (sq (sc sl sl) (sq (sb (sq sl (sq (sq sl (sq sl (sc (sq sl sl) sl))) (sq sl (sc (sq sl sl) sl))))) sl)))))) (sq sl sl)))))
def JM:PX 77 BT:=⟨_,by conv=>lhs;reduce⟩
def Ih:PL 77 BT 0:=⟨_,by conv=>lhs;reduce⟩
def pn(k1 k2:Q2):Nat->Q2
 |0,_,_=>none
 |n+1,vs,s=>dX c F bf (pn k1 k2 n) [k1,k2] Ih.1 vs s
def wW(k1 k2:Q2)(n:Nat)(vs:List AV)(s:St):=(by dsimp only[pn,Ih,go_sem,Int.reduceOfNat]:pn c F k1 k2 (n+1) vs s=_)
def BU:Un->List Q2->Nat->Q2
 |.z,[k1,k2]=>pn c F k1 k2
 |_,_=>λ_=>eJ
def G5:O2:=aZ c F (BU c F) JM.1 [x0] s
def JN:=(by dsimp only[G5,JM, ↓BU,go_sem,Int.reduceOfNat]:G5 c F x0 s=_)
def BV:Sh:=(sq sl (sq (sq sl (sc (sq sl sl) sl)) (sq sl (sq (sq sl (sb (sp 0 [5,23,24,25] [(2,[5])] (sq sl (sq (sc sl sl) (sq (sb (sq sl sl)) sl)))))) (sq sl sl)))))
def JO:PX 86 BV:=⟨_,by conv=>lhs;reduce⟩
def Ii:PL 86 BV 0:=⟨_,by conv=>lhs;reduce⟩
def pz(k2:Q2):Nat->Q2
 |0,_,_=>none
 |n+1,vs,s=>dX c F bf (pz k2 n) [k2] Ii.1 vs s
def wX(k2:Q2)(n:Nat)(vs:List AV)(s:St):=(by dsimp only[pz,Ii,go_sem,Int.reduceOfNat]:pz c F k2 (n+1) vs s=_)
def BW:Un->List Q2->Nat->Q2
 |.z,[k2]=>pz c F k2
 |_,_=>λ_=>eJ
def G6:O2:=aZ c F (BW c F) JO.1 [x0,x1] s
def JP:=(by dsimp only[G6,JO, ↓BW,go_sem,Int.reduceOfNat]:G6 c F x0 x1 s=_)
def wY:Sh:=(sq sl (sq sl sl))
def wZ:PX 101 wY:=⟨_,by conv=>lhs;reduce⟩
def qM:O2:=aZ c F bf wZ.1 [x0] s
def G8:=(by dsimp only[qM,wZ,go_sem,Int.reduceOfNat]:qM c F x0 s=_)
def ot:Sh:=(sq sl (sq sl (sq (sq sl (sc (sq sl sl) sl)) (sq sl (sq (sq sl (sc (sq sl sl) sl)) (sq (sq sl (sc (sq sl sl) sl)) (sq (sq sl (sb (sp 0 [1,7] [(1,[2,3]),(2,[1])] (sq (sq sl (sc sl sl)) (sq (sb (sq sl (sc (sq sl sl) sl))) sl))))) (sq (sq sl (sc (sq sl sl) sl)) (sq sl sl)))))))))
def w5:PX 108 ot:=⟨_,by conv=>lhs;reduce⟩
def vG:PL 108 ot 0:=⟨_,by conv=>lhs;reduce⟩
def fo(k1 k2:Q2):Nat->Q2
 |0,_,_=>none
 |n+1,vs,s=>dX c F bf (fo k1 k2 n) [k1,k2] vG.1 vs s
def sA(k1 k2:Q2)(n:Nat)(vs:List AV)(s:St):=(by dsimp only[fo,vG,go_sem,Int.reduceOfNat]:fo c F k1 k2 (n+1) vs s=_)
def ou:Un->List Q2->Nat->Q2
 |.z,[k1,k2]=>fo c F k1 k2
 |_,_=>λ_=>eJ
def qN:O2:=aZ c F (ou c F) w5.1 [x0] s
def G9:=(by dsimp only[qN,w5, ↓ou,go_sem,Int.reduceOfNat]:qN c F x0 s=_)
def w6:Sh:=(sq sl (sq sl (sq (sq sl (sc (sq sl sl) sl)) (sq (sq sl (sc (sq sl sl) sl)) (sq (sq sl (sc (sq sl sl) sl)) (sq (sq sl (sc (sq sl sl) sl)) (sq (sq sl (sc (sq sl sl) sl)) (sq (sq sl (sc (sq sl sl) sl)) (sq (sq sl (sc (sq sl sl) sl)) (sq sl (sq (sq sl (sc (sq sl sl) sl)) (sq sl (sq sl (sj [2,3,5,6,7,8] (sq sl (sc sl sl)) (sj [3,5,7,8] (sq sl (sc sl sl)) (sq (sq sl (sc (sq sl sl) sl)) (sq sl sl)))))))))))))))))
def w7:PX 109 w6:=⟨_,by conv=>lhs;reduce⟩
def qO:O2:=aZ c F bf w7.1 [x0,x1] s
def He:=(by dsimp only[qO,w7,go_sem,Int.reduceOfNat]:qO c F x0 x1 s=_)
def ov:Sh:=(sq sl (sq sl (sq (sq sl (sb (sp 0 [0,1,5,6] [(2,[5])] (sq (sq sl (sc sl sl)) (sq (sb sl) sl))))) (sq sl sl))))
def w8:PX 111 ov:=⟨_,by conv=>lhs;reduce⟩
def vH:PL 111 ov 0:=⟨_,by conv=>lhs;reduce⟩
def dw(k2:Q2):Nat->Q2
 |0,_,_=>none
 |n+1,vs,s=>dX c F bf (dw k2 n) [k2] vH.1 vs s
def iT(k2:Q2)(n:Nat)(vs:List AV)(s:St):=(by dsimp only[dw,vH,go_sem,Int.reduceOfNat]:dw c F k2 (n+1) vs s=_)
def ow:Un->List Q2->Nat->Q2
 |.z,[k2]=>dw c F k2
 |_,_=>λ_=>eJ
def qP:O2:=aZ c F (ow c F) w8.1 [x0,x1] s
def w9:=(by dsimp only[qP,w8, ↓ow,go_sem,Int.reduceOfNat]:qP c F x0 x1 s=_)
def JQ:Sh:=(sq sl (sq sl (sq sl sl)))
def JR:PX 116 JQ:=⟨_,by conv=>lhs;reduce⟩
def Hf:O2:=aZ c F bf JR.1 [x0] s
def TY:=(by dsimp only[Hf,JR,go_sem,Int.reduceOfNat]:Hf c F x0 s=_)
def Dz:Sh:=(sq sl (sq (sq sl (sc (sq sl sl) sl)) (sq sl sl)))
def DA:PX 117 Dz:=⟨_,by conv=>lhs;reduce⟩
def zQ:O2:=aZ c F bf DA.1 [x0] s
def Ot:=(by dsimp only[zQ,DA,go_sem,Int.reduceOfNat]:zQ c F x0 s=_)
def yh:Sh:=(sq sl (sj [] (sq sl (sb (sq sl (sc (sq sl (sc (sq sl sl) sl)) (sq sl (sc (sq sl (sc (sq sl sl) sl)) (sq sl (sc (sq sl (sc (sq sl sl) sl)) (sq sl (sc (sq sl (sc (sq sl sl) sl)) sl)))))))))) (sq sl sl)))
def yj:PX 118 yh:=⟨_,by conv=>lhs;reduce⟩
def s9:O2:=aZ c F bf yj.1 [x0] s
def IC:=(by dsimp only[s9,yj,go_sem,Int.reduceOfNat]:s9 c F x0 s=_)
def BX:Sh:=(sq sl (sq (sq sl (sq sl (sc (sq sl sl) sl))) (sq (sq sl (sq sl (sc (sq sl sl) sl))) (sq (sq sl (sc (sq sl sl) sl)) (sq (sq sl (sb (sp 0 [1,47,48,49] [(1,[2,3]),(2,[1])] (sq sl (sq (sc sl sl) (sq (sb (sq sl (sq sl (sc (sq sl sl) sl)))) sl)))))) (sq (sq sl (sc (sq sl sl) sl)) (sq sl sl)))))))
def JS:PX 119 BX:=⟨_,by conv=>lhs;reduce⟩
def Ij:PL 119 BX 0:=⟨_,by conv=>lhs;reduce⟩
def lq(k1 k2:Q2):Nat->Q2
 |0,_,_=>none
 |n+1,vs,s=>dX c F bf (lq k1 k2 n) [k1,k2] Ij.1 vs s
def DB(k1 k2:Q2)(n:Nat)(vs:List AV)(s:St):=(by dsimp only[lq,Ij,go_sem,Int.reduceOfNat]:lq c F k1 k2 (n+1) vs s=_)
def BZ:Un->List Q2->Nat->Q2
 |.z,[k1,k2]=>lq c F k1 k2
 |_,_=>λ_=>eJ
def Hg:O2:=aZ c F (BZ c F) JS.1 [x0] s
def TZ:=(by dsimp only[Hg,JS, ↓BZ,go_sem,Int.reduceOfNat]:Hg c F x0 s=_)
def JT:Sh:=(sq sl (sq sl sl))
def JU:PX 120 JT:=⟨_,by conv=>lhs;reduce⟩
def Hh:O2:=aZ c F bf JU.1 [] s
def T6:=(by dsimp only[Hh,JU,go_sem,Int.reduceOfNat]:Hh c F s=_)
def Ak:Sh:=(sq sl (sj [3,4,5] (sb (sq sl (sc (sq sl sl) (sq sl (sc (sq sl sl) (sq sl (sc (sq sl sl) (sj [3,4,5,28] (sq sl (sc sl (sq sl (sc sl sl)))) (sc (sq sl sl) (sq sl (sc (sq sl sl) (sq sl (sc (sq sl sl) sl))))))))))))) (sq sl (sq (sq sl (sc (sq sl sl) sl)) (sq sl (sj [3,5,9] (sq sl (sc sl sl)) (sq (sq sl (sc (sq sl sl) sl)) (sq sl sl))))))))
def Al:PX 121 Ak:=⟨_,by conv=>lhs;reduce⟩
def xe:O2:=aZ c F bf Al.1 [x0,x1,x2] s
def Lb:=(by dsimp only[xe,Al,go_sem,Int.reduceOfNat]:xe c F x0 x1 x2 s=_)
def LX:Sh:=(sq sl (sq sl (sq (sq sl (sc (sq sl sl) sl)) (sq sl sl))))
def LY:PX 125 LX:=⟨_,by conv=>lhs;reduce⟩
def JV:O2:=aZ c F bf LY.1 [x0] s
def Vy:=(by dsimp only[JV,LY,go_sem,Int.reduceOfNat]:JV c F x0 s=_)
def B0:Sh:=(sq sl (sq sl (sq sl (sq (sb (sq sl (sc (sq sl sl) (sq sl (sc (sq sl sl) sl))))) (sq (sq sl (sb (sp 0 [1,3,4,18,19,20] [(1,[2]),(3,[1])] (sq sl (sq (sc sl sl) (sq (sb (sq sl (sq (sq sl (sc (sq sl sl) sl)) sl))) sl)))))) (sq (sq sl (sc (sq sl sl) sl)) (sq sl sl)))))))
def JW:PX 129 B0:=⟨_,by conv=>lhs;reduce⟩
def Ik:PL 129 B0 0:=⟨_,by conv=>lhs;reduce⟩
def lu(k1 k3:Q2):Nat->Q2
 |0,_,_=>none
 |n+1,vs,s=>dX c F bf (lu k1 k3 n) [k1,k3] Ik.1 vs s
def DC(k1 k3:Q2)(n:Nat)(vs:List AV)(s:St):=(by dsimp only[lu,Ik,go_sem,Int.reduceOfNat,Int.reduceNegSucc]:lu c F k1 k3 (n+1) vs s=_)
def B4:Un->List Q2->Nat->Q2
 |.z,[k1,k3]=>lu c F k1 k3
 |_,_=>λ_=>eJ
def Hi:O2:=aZ c F (B4 c F) JW.1 [x0] s
def T7:=(by dsimp only[Hi,JW, ↓B4,go_sem,Int.reduceOfNat,Int.reduceNegSucc]:Hi c F x0 s=_)
def iU:Sh:=(sq sl (sq (sq sl (sc (sq sl sl) sl)) (sq (sq sl (sb (sp 0 [0,4] [(1,[2,3]),(2,[])] (sq (sq sl (sc sl sl)) (sq (sb (sq (sq sl (sq sl (sc (sq sl sl) sl))) (sq sl (sb (sp 1 [0,4,6] [(1,[2,3]),(4,[0,4])] (sq (sq sl (sc sl sl)) (sq (sb (sq sl (sc (sq sl sl) sl))) sl))))))) sl))))) (sq sl sl))))
def sF:PX 136 iU:=⟨_,by conv=>lhs;reduce⟩
def qQ:PL 136 iU 1:=⟨_,by conv=>lhs;reduce⟩
def dh(k1 k4:Q2):Nat->Q2
 |0,_,_=>none
 |n+1,vs,s=>dX c F bf (dh k1 k4 n) [k1,k4] qQ.1 vs s
def pE(k1 k4:Q2)(n:Nat)(vs:List AV)(s:St):=(by dsimp only[dh,qQ,go_sem,Int.reduceOfNat]:dh c F k1 k4 (n+1) vs s=_)
def qR:Un->List Q2->Nat->Q2
 |(.s .z),[k1,k4]=>dh c F k1 k4
 |_,_=>λ_=>eJ
def qT:PL 136 iU 0:=⟨_,by conv=>lhs;reduce⟩
def ej(k1 k2:Q2):Nat->Q2
 |0,_,_=>none
 |n+1,vs,s=>dX c F (qR c F) (ej k1 k2 n) [k1,k2] qT.1 vs s
def pF(k1 k2:Q2)(n:Nat)(vs:List AV)(s:St):=(by dsimp only[ej,qT, ↓qR,go_sem,Int.reduceOfNat]:ej c F k1 k2 (n+1) vs s=_)
def kO:Un->List Q2->Nat->Q2
 |.z,[k1,k2]=>ej c F k1 k2
 |(.s .z),[k1,k4]=>dh c F k1 k4
 |_,_=>λ_=>eJ
def mZ:O2:=aZ c F (kO c F) sF.1 [x0] s
def CO:=(by dsimp only[mZ,sF, ↓kO,go_sem,Int.reduceOfNat]:mZ c F x0 s=_)
def iG:Sh:=(sq sl (sq (sq sl (sb (sp 0 [1,4] [(1,[2,3]),(2,[1])] (sq (sq sl (sc sl sl)) (sq (sb (sq (sq sl (sq sl (sc (sq sl sl) sl))) (sq (sq sl (sc (sq sl sl) sl)) (sq sl (sc (sq sl sl) sl))))) sl))))) (sq (sq sl (sb (sp 1 [1,6] [(1,[2,3]),(4,[])] (sq (sq sl (sc sl sl)) (sq (sb (sq sl (sq sl (sq (sq sl (sc (sq sl sl) sl)) (sq (sq sl (sc (sq sl sl) sl)) (sq (sq sl (sc (sq sl sl) sl)) (sq sl (sc (sq sl sl) sl)))))))) sl))))) (sq sl sl))))
def qU:PX 137 iG:=⟨_,by conv=>lhs;reduce⟩
def qo:PL 137 iG 1:=⟨_,by conv=>lhs;reduce⟩
def fe(k1 k4:Q2):Nat->Q2
 |0,_,_=>none
 |n+1,vs,s=>dX c F bf (fe k1 k4 n) [k1,k4] qo.1 vs s
def jA(k1 k4:Q2)(n:Nat)(vs:List AV)(s:St):=(by dsimp only[fe,qo,go_sem,Int.reduceOfNat]:fe c F k1 k4 (n+1) vs s=_)
def qp:PL 137 iG 0:=⟨_,by conv=>lhs;reduce⟩
def ff(k1 k2:Q2):Nat->Q2
 |0,_,_=>none
 |n+1,vs,s=>dX c F bf (ff k1 k2 n) [k1,k2] qp.1 vs s
def nW(k1 k2:Q2)(n:Nat)(vs:List AV)(s:St):=(by dsimp only[ff,qp,go_sem,Int.reduceOfNat]:ff c F k1 k2 (n+1) vs s=_)
def kz:Un->List Q2->Nat->Q2
 |.z,[k1,k2]=>ff c F k1 k2
 |(.s .z),[k1,k4]=>fe c F k1 k4
 |_,_=>λ_=>eJ
def lW:O2:=aZ c F (kz c F) qU.1 [x0] s
def qV:=(by dsimp only[lW,qU, ↓kz,go_sem,Int.reduceOfNat]:lW c F x0 s=_)
def yl:Sh:=(sq sl (sq sl (sq (sq sl (sc (sq sl sl) sl)) (sq sl sl))))
def ym:PX 138 yl:=⟨_,by conv=>lhs;reduce⟩
def td:O2:=aZ c F bf ym.1 [x0] s
def ID:=(by dsimp only[td,ym,go_sem,Int.reduceOfNat]:td c F x0 s=_)
def zo:Sh:=(sq sl (sq sl sl))
def zp:PX 139 zo:=⟨_,by conv=>lhs;reduce⟩
def uS:O2:=aZ c F bf zp.1 [x0] s
def JX:=(by dsimp only[uS,zp,go_sem,Int.reduceOfNat]:uS c F x0 s=_)
def zq:Sh:=(sq sl (sq sl sl))
def zu:PX 140 zq:=⟨_,by conv=>lhs;reduce⟩
def uT:O2:=aZ c F bf zu.1 [x0] s
def JY:=(by dsimp only[uT,zu,go_sem,Int.reduceOfNat]:uT c F x0 s=_)
def vI:Sh:=(sq sl (sq (sq sl (sc (sq sl sl) sl)) (sq (sq sl (sc (sq sl sl) sl)) (sq sl sl))))
def vJ:PX 141 vI:=⟨_,by conv=>lhs;reduce⟩
def pR:O2:=aZ c F bf vJ.1 [x0] s
def Fi:=(by dsimp only[pR,vJ,go_sem,Int.reduceOfNat]:pR c F x0 s=_)
def vK:Sh:=(sq sl (sq sl sl))
def vL:PX 142 vK:=⟨_,by conv=>lhs;reduce⟩
def pS:O2:=aZ c F bf vL.1 [x0] s
def Fj:=(by dsimp only[pS,vL,go_sem,Int.reduceOfNat]:pS c F x0 s=_)
def th:Sh:=(sq sl (sq (sq sl (sb (sp 0 [0,1,5] [(1,[4]),(2,[])] (sq (sq sl (sc sl sl)) (sq (sb (sq sl (sc (sq sl sl) sl))) sl))))) (sq sl sl)))
def Am:PX 143 th:=⟨_,by conv=>lhs;reduce⟩
def zw:PL 143 th 0:=⟨_,by conv=>lhs;reduce⟩
def gU(k1 k2:Q2):Nat->Q2
 |0,_,_=>none
 |n+1,vs,s=>dX c F bf (gU k1 k2 n) [k1,k2] zw.1 vs s
def xg(k1 k2:Q2)(n:Nat)(vs:List AV)(s:St):=(by dsimp only[gU,zw,go_sem,Int.reduceOfNat,Int.reduceNegSucc]:gU c F k1 k2 (n+1) vs s=_)
def tj:Un->List Q2->Nat->Q2
 |.z,[k1,k2]=>gU c F k1 k2
 |_,_=>λ_=>eJ
def xj:O2:=aZ c F (tj c F) Am.1 [x0,x1] s
def Lc:=(by dsimp only[xj,Am, ↓tj,go_sem,Int.reduceOfNat,Int.reduceNegSucc]:xj c F x0 x1 s=_)
def tq:Sh:=(sq sl (sq (sq sl (sc (sq sl sl) sl)) (sq (sq sl (sb (sp 0 [0,3] [(1,[2]),(2,[])] (sq (sq sl (sc sl sl)) (sq (sb (sq sl (sc (sq sl sl) sl))) sl))))) (sq sl sl))))
def An:PX 144 tq:=⟨_,by conv=>lhs;reduce⟩
def zx:PL 144 tq 0:=⟨_,by conv=>lhs;reduce⟩
def gV(k1 k2:Q2):Nat->Q2
 |0,_,_=>none
 |n+1,vs,s=>dX c F bf (gV k1 k2 n) [k1,k2] zx.1 vs s
def xk(k1 k2:Q2)(n:Nat)(vs:List AV)(s:St):=(by dsimp only[gV,zx,go_sem,Int.reduceOfNat]:gV c F k1 k2 (n+1) vs s=_)
def tr:Un->List Q2->Nat->Q2
 |.z,[k1,k2]=>gV c F k1 k2
 |_,_=>λ_=>eJ
def xp:O2:=aZ c F (tr c F) An.1 [x0] s
def Ld:=(by dsimp only[xp,An, ↓tr,go_sem,Int.reduceOfNat]:xp c F x0 s=_)
def lX:Sh:=(sq sl (sq (sq sl (sb (sp 0 [0,1,5] [(1,[4]),(2,[])] (sq (sq sl (sc sl sl)) (sq (sb (sq sl (sc (sq sl sl) sl))) sl))))) (sq sl sl)))
def tK:PX 145 lX:=⟨_,by conv=>lhs;reduce⟩
def sG:PL 145 lX 0:=⟨_,by conv=>lhs;reduce⟩
def eD(k1 k2:Q2):Nat->Q2
 |0,_,_=>none
 |n+1,vs,s=>dX c F bf (eD k1 k2 n) [k1,k2] sG.1 vs s
def qq(k1 k2:Q2)(n:Nat)(vs:List AV)(s:St):=(by dsimp only[eD,sG,go_sem,Int.reduceOfNat,Int.reduceNegSucc]:eD c F k1 k2 (n+1) vs s=_)
def lY:Un->List Q2->Nat->Q2
 |.z,[k1,k2]=>eD c F k1 k2
 |_,_=>λ_=>eJ
def oA:O2:=aZ c F (lY c F) tK.1 [x0,x1] s
def D7:=(by dsimp only[oA,tK, ↓lY,go_sem,Int.reduceOfNat,Int.reduceNegSucc]:oA c F x0 x1 s=_)
def xq:Sh:=(sq sl (sq (sq sl (sc (sq sl sl) sl)) (sq (sq sl (sb (sp 0 [0,10,11,12] [(1,[2,3]),(2,[])] (sq sl (sq (sc sl sl) (sq (sb (sq sl (sq (sq sl (sq sl (sc (sq sl sl) sl))) (sq sl (sc (sq sl sl) sl))))) sl)))))) (sq sl sl))))
def DD:PX 148 xq:=⟨_,by conv=>lhs;reduce⟩
def B5:PL 148 xq 0:=⟨_,by conv=>lhs;reduce⟩
def kA(k1 k2:Q2):Nat->Q2
 |0,_,_=>none
 |n+1,vs,s=>dX c F bf (kA k1 k2 n) [k1,k2] B5.1 vs s
def qW(k1 k2:Q2)(n:Nat)(vs:List AV)(s:St):=(by dsimp only[kA,B5,go_sem,Int.reduceOfNat]:kA c F k1 k2 (n+1) vs s=_)
def xw:Un->List Q2->Nat->Q2
 |.z,[k1,k2]=>kA c F k1 k2
 |_,_=>λ_=>eJ
def zR:O2:=aZ c F (xw c F) DD.1 [x0] s
def DE:=(by dsimp only[zR,DD, ↓xw,go_sem,Int.reduceOfNat]:zR c F x0 s=_)
def vM:Sh:=(sq sl (sq sl sl))
def vN:PX 149 vM:=⟨_,by conv=>lhs;reduce⟩
def pT:O2:=aZ c F bf vN.1 [x0,x1,x2] s
def Fk:=(by dsimp only[pT,vN,go_sem,Int.reduceOfNat]:pT c F x0 x1 x2 s=_)
def Ao:Sh:=(sq sl (sq sl (sq sl sl)))
def Ap:PX 150 Ao:=⟨_,by conv=>lhs;reduce⟩
def xx:O2:=aZ c F bf Ap.1 [x0] s
def Le:=(by dsimp only[xx,Ap,go_sem,Int.reduceOfNat]:xx c F x0 s=_)
def Aq:Sh:=(sq sl (sq sl sl))
def Ar:PX 169 Aq:=⟨_,by conv=>lhs;reduce⟩
def xy:O2:=aZ c F bf Ar.1 [x0,x1] s
def Lf:=(by dsimp only[xy,Ar,go_sem,Int.reduceOfNat]:xy c F x0 x1 s=_)
def Ou:Sh:=(sq sl (sq sl sl))
def Ov:PX 170 Ou:=⟨_,by conv=>lhs;reduce⟩
def MU:O2:=aZ c F bf Ov.1 [x0,x1] s
def XW:=(by dsimp only[MU,Ov,go_sem,Int.reduceOfNat]:MU c F x0 x1 s=_)
def D8:Sh:=(sq sl (sq (sq sl (sc (sq sl sl) sl)) (sq (sq sl (sb (sp 0 [0,13,14] [(1,[2]),(2,[])] (sq sl (sq (sc sl sl) (sq (sb (sq sl (sq sl (sc (sq sl sl) sl)))) sl)))))) (sq sl sl))))
def LZ:PX 171 D8:=⟨_,by conv=>lhs;reduce⟩
def JZ:PL 171 D8 0:=⟨_,by conv=>lhs;reduce⟩
def nc(k1 k2:Q2):Nat->Q2
 |0,_,_=>none
 |n+1,vs,s=>dX c F bf (nc k1 k2 n) [k1,k2] JZ.1 vs s
def Fl(k1 k2:Q2)(n:Nat)(vs:List AV)(s:St):=(by dsimp only[nc,JZ,go_sem,Int.reduceOfNat]:nc c F k1 k2 (n+1) vs s=_)
def D9:Un->List Q2->Nat->Q2
 |.z,[k1,k2]=>nc c F k1 k2
 |_,_=>λ_=>eJ
def J0:O2:=aZ c F (D9 c F) LZ.1 [x0] s
def Vz:=(by dsimp only[J0,LZ, ↓D9,go_sem,Int.reduceOfNat]:J0 c F x0 s=_)
def L5:Sh:=(sq sl (sq sl (sq (sq sl (sc (sq sl sl) sl)) (sq sl sl))))
def L6:PX 172 L5:=⟨_,by conv=>lhs;reduce⟩
def J1:O2:=aZ c F bf L6.1 [x0,x1] s
def VA:=(by dsimp only[J1,L6,go_sem,Int.reduceOfNat]:J1 c F x0 x1 s=_)
def DF:Sh:=(sq sl (sq (sq sl (sb (sq sl (sc (sq sl sl) (sq sl (sc (sq sl sl) (sq sl (sc (sq sl sl) (sq sl (sc (sq sl sl) sl)))))))))) (sq sl sl)))
def DG:PX 173 DF:=⟨_,by conv=>lhs;reduce⟩
def zS:O2:=aZ c F bf DG.1 [x0] s
def Ow:=(by dsimp only[zS,DG,go_sem,Int.reduceOfNat]:zS c F x0 s=_)
def Ea:Sh:=(sq sl (sq (sq sl (sb (sp 0 [0,3] [(1,[2]),(2,[0])] (sq (sq sl (sc sl sl)) (sq (sb (sq sl (sc (sq sl sl) sl))) sl))))) (sq sl sl)))
def L7:PX 184 Ea:=⟨_,by conv=>lhs;reduce⟩
def J2:PL 184 Ea 0:=⟨_,by conv=>lhs;reduce⟩
def nh(k1 k2:Q2):Nat->Q2
 |0,_,_=>none
 |n+1,vs,s=>dX c F bf (nh k1 k2 n) [k1,k2] J2.1 vs s
def Fm(k1 k2:Q2)(n:Nat)(vs:List AV)(s:St):=(by dsimp only[nh,J2,go_sem,Int.reduceOfNat]:nh c F k1 k2 (n+1) vs s=_)
def Eb:Un->List Q2->Nat->Q2
 |.z,[k1,k2]=>nh c F k1 k2
 |_,_=>λ_=>eJ
def J3:O2:=aZ c F (Eb c F) L7.1 [x0] s
def VB:=(by dsimp only[J3,L7, ↓Eb,go_sem,Int.reduceOfNat]:J3 c F x0 s=_)
def oB:Sh:=(sq sl (sq sl (sq (sq sl (sc (sq sl sl) sl)) (sq (sq sl (sc (sq sl sl) sl)) (sq (sq sl (sb (sp 0 [1,3,4] [(1,[2]),(2,[1])] (sq (sq sl (sc sl sl)) (sq (sb (sq sl (sc (sq sl sl) sl))) sl))))) (sq (sq sl (sc (sq sl sl) sl)) (sq sl sl)))))))
def xz:PX 189 oB:=⟨_,by conv=>lhs;reduce⟩
def vO:PL 189 oB 0:=⟨_,by conv=>lhs;reduce⟩
def fq(k1 k2:Q2):Nat->Q2
 |0,_,_=>none
 |n+1,vs,s=>dX c F bf (fq k1 k2 n) [k1,k2] vO.1 vs s
def sH(k1 k2:Q2)(n:Nat)(vs:List AV)(s:St):=(by dsimp only[fq,vO,go_sem,Int.reduceOfNat]:fq c F k1 k2 (n+1) vs s=_)
def oC:Un->List Q2->Nat->Q2
 |.z,[k1,k2]=>fq c F k1 k2
 |_,_=>λ_=>eJ
def qX:O2:=aZ c F (oC c F) xz.1 [x0] s
def Hj:=(by dsimp only[qX,xz, ↓oC,go_sem,Int.reduceOfNat]:qX c F x0 s=_)
def oD:Sh:=(sq sl (sq (sq sl (sc (sq sl sl) sl)) (sq (sq sl (sc (sq sl sl) sl)) (sq (sq sl (sc (sq sl sl) sl)) (sq (sq sl (sc (sq sl sl) sl)) (sq (sq sl (sb (sp 0 [1,3] [(1,[2]),(2,[])] (sq (sq sl (sc sl sl)) (sq (sb (sq sl (sc (sq sl sl) sl))) sl))))) (sq sl sl)))))))
def xA:PX 190 oD:=⟨_,by conv=>lhs;reduce⟩
def vP:PL 190 oD 0:=⟨_,by conv=>lhs;reduce⟩
def fu(k1 k2:Q2):Nat->Q2
 |0,_,_=>none
 |n+1,vs,s=>dX c F bf (fu k1 k2 n) [k1,k2] vP.1 vs s
def sI(k1 k2:Q2)(n:Nat)(vs:List AV)(s:St):=(by dsimp only[fu,vP,go_sem,Int.reduceOfNat]:fu c F k1 k2 (n+1) vs s=_)
def oE:Un->List Q2->Nat->Q2
 |.z,[k1,k2]=>fu c F k1 k2
 |_,_=>λ_=>eJ
def qY:O2:=aZ c F (oE c F) xA.1 [x0] s
def Hl:=(by dsimp only[qY,xA, ↓oE,go_sem,Int.reduceOfNat]:qY c F x0 s=_)
def vQ:Sh:=(sq sl (sq sl sl))
def vR:PX 191 vQ:=⟨_,by conv=>lhs;reduce⟩
def pU:O2:=aZ c F bf vR.1 [x0,x1] s
def Fo:=(by dsimp only[pU,vR,go_sem,Int.reduceOfNat]:pU c F x0 x1 s=_)
def ia:Sh:=(sq sl (sq sl sl))
def ic:PX 196 ia:=⟨_,by conv=>lhs;reduce⟩
def eP:O2:=aZ c F bf ic.1 [x0,x1] s
def nP:=(by dsimp only[eP,ic,go_sem,Int.reduceOfNat]:eP c F x0 x1 s=_)
def At:Sh:=(sq sl (sq sl sl))
def Au:PX 197 At:=⟨_,by conv=>lhs;reduce⟩
def xB:O2:=aZ c F bf Au.1 [x0,x1] s
def Lg:=(by dsimp only[xB,Au,go_sem,Int.reduceOfNat]:xB c F x0 x1 s=_)
def xC:Sh:=(sq sl (sq sl (sq (sq sl (sb (sp 0 [1,5,14,15,16] [(1,[2,3,4]),(2,[1,5])] (sq sl (sq (sc sl sl) (sq (sb (sq sl (sq sl (sq sl (sc (sq sl sl) sl))))) sl)))))) (sq (sq sl (sb (sp 1 [1,5,30,31,32] [(1,[2,3,4]),(4,[5])] (sq sl (sq (sc sl sl) (sj [1,5,30,31,32] (sb (sq sl (sq sl (sj [1,5,9,11,30,31,32] (sq sl (sc sl sl)) (sq sl (sc (sq sl sl) sl)))))) sl)))))) (sq sl sl)))))
def J4:PX 198 xC:=⟨_,by conv=>lhs;reduce⟩
def Il:PL 198 xC 1:=⟨_,by conv=>lhs;reduce⟩
def iN(k1 k4:Q2):Nat->Q2
 |0,_,_=>none
 |n+1,vs,s=>dX c F bf (iN k1 k4 n) [k1,k4] Il.1 vs s
def qt(k1 k4:Q2)(n:Nat)(vs:List AV)(s:St):=(by dsimp only[iN,Il,go_sem,Int.reduceOfNat]:iN c F k1 k4 (n+1) vs s=_)
def Im:PL 198 xC 0:=⟨_,by conv=>lhs;reduce⟩
def gK(k1 k2:Q2):Nat->Q2
 |0,_,_=>none
 |n+1,vs,s=>dX c F bf (gK k1 k2 n) [k1,k2] Im.1 vs s
def qu(k1 k2:Q2)(n:Nat)(vs:List AV)(s:St):=(by dsimp only[gK,Im,go_sem,Int.reduceOfNat]:gK c F k1 k2 (n+1) vs s=_)
def B6:Un->List Q2->Nat->Q2
 |.z,[k1,k2]=>gK c F k1 k2
 |(.s .z),[k1,k4]=>iN c F k1 k4
 |_,_=>λ_=>eJ
def xD:O2:=aZ c F (B6 c F) J4.1 [x0] s
def T8:=(by dsimp only[xD,J4, ↓B6,go_sem,Int.reduceOfNat]:xD c F x0 s=_)
def eW:Sh:=(sq sl (sq (sq sl (sb (sp 0 [0,1,7,8] [(1,[4]),(2,[])] (sq sl (sq (sc sl sl) (sq (sb (sq sl (sq sl (sc (sq sl sl) sl)))) sl)))))) (sq sl sl)))
def iZ:PX 213 eW:=⟨_,by conv=>lhs;reduce⟩
def iO:PL 213 eW 0:=⟨_,by conv=>lhs;reduce⟩
def bL(k1 k2:Q2):Nat->Q2
 |0,_,_=>none
 |n+1,vs,s=>dX c F bf (bL k1 k2 n) [k1,k2] iO.1 vs s
def ig(k1 k2:Q2)(n:Nat)(vs:List AV)(s:St):=(by dsimp only[bL,iO,go_sem,Int.reduceOfNat,Int.reduceNegSucc]:bL c F k1 k2 (n+1) vs s=_)
def eX:Un->List Q2->Nat->Q2
 |.z,[k1,k2]=>bL c F k1 k2
 |_,_=>λ_=>eJ
def fG:O2:=aZ c F (eX c F) iZ.1 [x0,x1] s
def pV:=(by dsimp only[fG,iZ, ↓eX,go_sem,Int.reduceOfNat,Int.reduceNegSucc]:fG c F x0 x1 s=_)
def J5:Sh:=(sq sl (sq sl sl))
def J6:PX 214 J5:=⟨_,by conv=>lhs;reduce⟩
def Ho:O2:=aZ c F bf J6.1 [x0,x1] s
def T9:=(by dsimp only[Ho,J6,go_sem,Int.reduceOfNat]:Ho c F x0 x1 s=_)
def eY:Sh:=(sq sl (sq (sq sl (sb (sp 0 [0,1,7,8] [(1,[4]),(2,[])] (sq sl (sq (sc sl sl) (sq (sb (sq sl (sq sl (sc (sq sl sl) sl)))) sl)))))) (sq sl sl)))
def ja:PX 215 eY:=⟨_,by conv=>lhs;reduce⟩
def iP:PL 215 eY 0:=⟨_,by conv=>lhs;reduce⟩
def bM(k1 k2:Q2):Nat->Q2
 |0,_,_=>none
 |n+1,vs,s=>dX c F bf (bM k1 k2 n) [k1,k2] iP.1 vs s
def ij(k1 k2:Q2)(n:Nat)(vs:List AV)(s:St):=(by dsimp only[bM,iP,go_sem,Int.reduceOfNat,Int.reduceNegSucc]:bM c F k1 k2 (n+1) vs s=_)
def eZ:Un->List Q2->Nat->Q2
 |.z,[k1,k2]=>bM c F k1 k2
 |_,_=>λ_=>eJ
def fH:O2:=aZ c F (eZ c F) ja.1 [x0,x1] s
def pW:=(by dsimp only[fH,ja, ↓eZ,go_sem,Int.reduceOfNat,Int.reduceNegSucc]:fH c F x0 x1 s=_)
def Io:Sh:=(sq sl (sq sl sl))
def Ip:PX 216 Io:=⟨_,by conv=>lhs;reduce⟩
def Ec:O2:=aZ c F bf Ip.1 [x0,x1] s
def RI:=(by dsimp only[Ec,Ip,go_sem,Int.reduceOfNat]:Ec c F x0 x1 s=_)
def Av:Sh:=(sq sl (sq (sq sl (sc (sq sl sl) sl)) (sq sl sl)))
def Aw:PX 217 Av:=⟨_,by conv=>lhs;reduce⟩
def xE:O2:=aZ c F bf Aw.1 [x0,x1] s
def Lh:=(by dsimp only[xE,Aw,go_sem,Int.reduceOfNat]:xE c F x0 x1 s=_)
def B7:Sh:=(sq sl (sq (sq sl (sc (sq sl sl) sl)) (sq sl sl)))
def B8:PX 222 B7:=⟨_,by conv=>lhs;reduce⟩
def yL:O2:=aZ c F bf B8.1 [x0,x1] s
def MV:=(by dsimp only[yL,B8,go_sem,Int.reduceOfNat]:yL c F x0 x1 s=_)
def B9:Sh:=(sq sl (sq (sq sl (sc (sq sl sl) sl)) (sq sl sl)))
def Ca:PX 227 B9:=⟨_,by conv=>lhs;reduce⟩
def yM:O2:=aZ c F bf Ca.1 [x0,x1] s
def MW:=(by dsimp only[yM,Ca,go_sem,Int.reduceOfNat]:yM c F x0 x1 s=_)
def DH:Sh:=(sq sl (sq (sq sl (sc (sq sl sl) sl)) (sq sl sl)))
def DI:PX 232 DH:=⟨_,by conv=>lhs;reduce⟩
def zT:O2:=aZ c F bf DI.1 [x0,x1] s
def Ox:=(by dsimp only[zT,DI,go_sem,Int.reduceOfNat]:zT c F x0 x1 s=_)
def pX:Sh:=(sq sl (sq (sq sl (sc (sq sl sl) sl)) (sq (sq sl (sb (sp 0 [0,3] [(1,[2]),(2,[])] (sq (sq sl (sc sl sl)) (sq (sb (sq sl (sc (sq sl sl) sl))) sl))))) (sq sl sl))))
def yo:PX 251 pX:=⟨_,by conv=>lhs;reduce⟩
def xF:PL 251 pX 0:=⟨_,by conv=>lhs;reduce⟩
def fO(k1 k2:Q2):Nat->Q2
 |0,_,_=>none
 |n+1,vs,s=>dX c F bf (fO k1 k2 n) [k1,k2] xF.1 vs s
def tL(k1 k2:Q2)(n:Nat)(vs:List AV)(s:St):=(by dsimp only[fO,xF,go_sem,Int.reduceOfNat]:fO c F k1 k2 (n+1) vs s=_)
def pY:Un->List Q2->Nat->Q2
 |.z,[k1,k2]=>fO c F k1 k2
 |_,_=>λ_=>eJ
def tu:O2:=aZ c F (pY c F) yo.1 [x0] s
def IE:=(by dsimp only[tu,yo, ↓pY,go_sem,Int.reduceOfNat]:tu c F x0 s=_)
def L8:Sh:=(sq sl (sq sl sl))
def L9:PX 256 L8:=⟨_,by conv=>lhs;reduce⟩
def J7:O2:=aZ c F bf L9.1 [] s
def VC:=(by dsimp only[J7,L9,go_sem,Int.reduceOfNat]:J7 c F s=_)
def Cb:Sh:=(sq sl (sq (sq sl (sc (sq sl sl) sl)) (sq (sq sl (sq sl (sc (sq sl sl) sl))) (sq (sq sl (sq sl (sc (sq sl sl) sl))) (sq (sq sl (sc (sq sl sl) sl)) (sq sl (sq sl (sq sl sl))))))))
def Cc:PX 257 Cb:=⟨_,by conv=>lhs;reduce⟩
def sr:O2:=aZ c F bf Cc.1 [x0,x1] s
def oF:=(by dsimp only[sr,Cc,go_sem,Int.reduceOfNat]:sr c F x0 x1 s=_)
def Iq:Sh:=(sq sl (sq (sq sl (sq sl (sc (sq sl sl) sl))) (sq sl sl)))
def Ir:PX 258 Iq:=⟨_,by conv=>lhs;reduce⟩
def Ed:O2:=aZ c F bf Ir.1 [x0,x1] s
def RJ:=(by dsimp only[Ed,Ir,go_sem,Int.reduceOfNat]:Ed c F x0 x1 s=_)
def uU:Sh:=(sq sl (sq (sq sl (sc (sq sl sl) sl)) (sq (sq sl (sc (sq sl sl) sl)) (sq (sq sl (sb (sp 0 [0,1,2,3,30,31,32] [(1,[8]),(2,[0,1,2,3])] (sq sl (sq (sc sl sl) (sq (sb (sq sl (sq sl (sq sl (sc (sq sl sl) sl))))) sl)))))) (sq sl (sq (sq sl (sc (sq sl sl) sl)) (sq (sq sl (sc (sq sl sl) sl)) (sq sl (sq sl sl)))))))))
def Cd:PX 259 uU:=⟨_,by conv=>lhs;reduce⟩
def Ax:PL 259 uU 0:=⟨_,by conv=>lhs;reduce⟩
def iK(k1 k2:Q2):Nat->Q2
 |0,_,_=>none
 |n+1,vs,s=>dX c F bf (iK k1 k2 n) [k1,k2] Ax.1 vs s
def pZ(k1 k2:Q2)(n:Nat)(vs:List AV)(s:St):=(by dsimp only[iK,Ax,go_sem,Int.reduceOfNat]:iK c F k1 k2 (n+1) vs s=_)
def uV:Un->List Q2->Nat->Q2
 |.z,[k1,k2]=>iK c F k1 k2
 |_,_=>λ_=>eJ
def su:O2:=aZ c F (uV c F) Cd.1 [x0,x1,x2,x3] s
def oG:=(by dsimp only[su,Cd, ↓uV,go_sem,Int.reduceOfNat]:su c F x0 x1 x2 x3 s=_)
def Ay:Sh:=(sq sl (sq sl sl))
def Az:PX 297 Ay:=⟨_,by conv=>lhs;reduce⟩
def xG:O2:=aZ c F bf Az.1 [x0] s
def Li:=(by dsimp only[xG,Az,go_sem,Int.reduceOfNat]:xG c F x0 s=_)
def zU:Sh:=(sq sl (sq (sb (sq sl (sc (sq sl sl) (sq sl (sc (sq sl sl) (sq sl (sc (sq sl sl) (sq sl (sc (sq sl sl) sl))))))))) (sq (sq sl (sb (sp 0 [1,52,53,54] [(1,[2]),(3,[])] (sq sl (sq (sc sl sl) (sq (sb (sq sl (sq sl (sc (sq sl sl) sl)))) sl)))))) (sq sl sl))))
def Is:PX 298 zU:=⟨_,by conv=>lhs;reduce⟩
def Fp:PL 298 zU 0:=⟨_,by conv=>lhs;reduce⟩
def j4(k1 k3:Q2):Nat->Q2
 |0,_,_=>none
 |n+1,vs,s=>dX c F bf (j4 k1 k3 n) [k1,k3] Fp.1 vs s
def Ce(k1 k3:Q2)(n:Nat)(vs:List AV)(s:St):=(by dsimp only[j4,Fp,go_sem,Int.reduceOfNat]:j4 c F k1 k3 (n+1) vs s=_)
def zV:Un->List Q2->Nat->Q2
 |.z,[k1,k3]=>j4 c F k1 k3
 |_,_=>λ_=>eJ
def Ee:O2:=aZ c F (zV c F) Is.1 [x0] s
def RK:=(by dsimp only[Ee,Is, ↓zV,go_sem,Int.reduceOfNat]:Ee c F x0 s=_)
def Fq:Sh:=(sq sl (sq sl (sq sl sl)))
def Fs:PX 299 Fq:=⟨_,by conv=>lhs;reduce⟩
def Cf:O2:=aZ c F bf Fs.1 [x0] s
def Px:=(by dsimp only[Cf,Fs,go_sem,Int.reduceOfNat]:Cf c F x0 s=_)
def AA:Sh:=(sq sl (sq sl sl))
def AD:PX 300 AA:=⟨_,by conv=>lhs;reduce⟩
def xH:O2:=aZ c F bf AD.1 [x0,x1] s
def Lj:=(by dsimp only[xH,AD,go_sem,Int.reduceOfNat]:xH c F x0 x1 s=_)
def zy:Sh:=(sq sl (sq sl sl))
def zz:PX 301 zy:=⟨_,by conv=>lhs;reduce⟩
def uW:O2:=aZ c F bf zz.1 [x0,x1,x2] s
def J8:=(by dsimp only[uW,zz,go_sem,Int.reduceOfNat]:uW c F x0 x1 x2 s=_)
def kI:Sh:=(sq sl (sq sl (sq sl (sq (sq sl (sc (sq sl sl) sl)) (sq sl (sq (sq sl (sc (sq sl sl) sl)) (sq (sq sl (sc (sq sl (sq sl (sq sl (sq sl sl)))) sl)) (sq sl (sq (sq sl (sc (sq sl (sq sl (sq sl sl))) sl)) (sq sl (sq sl (sq sl sl))))))))))))
def kJ:PX 302 kI:=⟨_,by conv=>lhs;reduce⟩
def iQ:O2:=aZ c F bf kJ.1 [x0,x1,x2] s
def we:=(by dsimp only[iQ,kJ,go_sem,Int.reduceOfNat]:iQ c F x0 x1 x2 s=_)
def J9:Sh:=(sq sl (sq sl sl))
def Ka:PX 303 J9:=⟨_,by conv=>lhs;reduce⟩
def Hp:O2:=aZ c F bf Ka.1 [x0,x1,x2] s
def Ua:=(by dsimp only[Hp,Ka,go_sem,Int.reduceOfNat]:Hp c F x0 x1 x2 s=_)
def Cg:Sh:=(sq sl (sq (sq sl (sc (sq sl sl) sl)) (sq (sq sl (sb (sp 0 [0,13,14] [(1,[2]),(2,[])] (sq sl (sq (sc sl sl) (sq (sb (sq sl (sq sl (sc (sq sl sl) sl)))) sl)))))) (sq sl sl))))
def Kb:PX 317 Cg:=⟨_,by conv=>lhs;reduce⟩
def It:PL 317 Cg 0:=⟨_,by conv=>lhs;reduce⟩
def lz(k1 k2:Q2):Nat->Q2
 |0,_,_=>none
 |n+1,vs,s=>dX c F bf (lz k1 k2 n) [k1,k2] It.1 vs s
def DJ(k1 k2:Q2)(n:Nat)(vs:List AV)(s:St):=(by dsimp only[lz,It,go_sem,Int.reduceOfNat]:lz c F k1 k2 (n+1) vs s=_)
def Ci:Un->List Q2->Nat->Q2
 |.z,[k1,k2]=>lz c F k1 k2
 |_,_=>λ_=>eJ
def Hq:O2:=aZ c F (Ci c F) Kb.1 [x0] s
def Ub:=(by dsimp only[Hq,Kb, ↓Ci,go_sem,Int.reduceOfNat]:Hq c F x0 s=_)
def Kc:Sh:=(sq sl (sq sl sl))
def Ke:PX 318 Kc:=⟨_,by conv=>lhs;reduce⟩
def Hr:O2:=aZ c F bf Ke.1 [x0] s
def Uc:=(by dsimp only[Hr,Ke,go_sem,Int.reduceOfNat]:Hr c F x0 s=_)
def ni:Sh:=(sq sl (sq (sq sl (sc (sq sl sl) sl)) (sq sl sl)))
def nj:PX 319 ni:=⟨_,by conv=>lhs;reduce⟩
def jG:O2:=aZ c F bf nj.1 [x0] s
def nk:=(by dsimp only[jG,nj,go_sem,Int.reduceOfNat]:jG c F x0 s=_)
def sJ:Sh:=(sq sl (sq sl sl))
def sK:PX 320 sJ:=⟨_,by conv=>lhs;reduce⟩
def nr:O2:=aZ c F bf sK.1 [x0,x1] s
def CP:=(by dsimp only[nr,sK,go_sem,Int.reduceOfNat]:nr c F x0 x1 s=_)
def cR:Sh:=(sq sl (sq sl (sq sl (sq (sb (sp 0 [0,2,4,8,9,10] [(2,[0,2,4,8,9])] (sq (sq sl (sc sl sl)) (sb (sq sl (sq sl (sc sl sl))))))) (sq sl sl)))))
def fy:PX 321 cR:=⟨_,by conv=>lhs;reduce⟩
def fh:PL 321 cR 0:=⟨_,by conv=>lhs;reduce⟩
def aM(k2:Q2):Nat->Q2
 |0,_,_=>none
 |n+1,vs,s=>dX c F bf (aM k2 n) [k2] fh.1 vs s
def cJ(k2:Q2)(n:Nat)(vs:List AV)(s:St):=(by dsimp only[aM,fh,go_sem,Int.reduceOfNat]:aM c F k2 (n+1) vs s=_)
def cS:Un->List Q2->Nat->Q2
 |.z,[k2]=>aM c F k2
 |_,_=>λ_=>eJ
def dx:O2:=aZ c F (cS c F) fy.1 [x0,x1,x2] s
def j5:=(by dsimp only[dx,fy, ↓cS,go_sem,Int.reduceOfNat]:dx c F x0 x1 x2 s=_)
end
section
variable{c:ah}(hc:Sem c)(F:Nat){x0 x1 x2 x3 x4 x5 x6 x7 x8 x9 Aj vE:AV}{s:St}{r:AV×St}
include hc
theorem Kf(h:yK c F x0 x1 s=some r):c 44 [x0,x1] s=some (tidy s r):=hc.o0 F BR (by kernel_rfl) (by kernel_rfl) h
theorem Ef(h:qL c F x0 s=some r):c 53 [x0] s=some (tidy s r):=hc.o1 F (oq c F) oo (by kernel_rfl) (by kernel_rfl) (λ_ _ _=>by kernel_rfl) (λ_ _ _ _=>by kernel_rfl) (by kernel_rfl) h
theorem Py(h:G3 c F x0 s=some r):c 72 [x0] s=some (tidy s r):=hc.o0 F JK (by kernel_rfl) (by kernel_rfl) h
theorem Ft(h:G5 c F x0 s=some r):c 77 [x0] s=some (tidy s r):=hc.o1 F (BU c F) BT (by kernel_rfl) (by kernel_rfl) (λ_ _ _=>by kernel_rfl) (λ_ _ _ _=>by kernel_rfl) (by kernel_rfl) h
theorem Fu(h:G6 c F x0 x1 s=some r):c 86 [x0,x1] s=some (tidy s r):=hc.o1 F (BW c F) BV (by kernel_rfl) (by kernel_rfl) (λ_ _ _=>by kernel_rfl) (λ_ _ _ _=>by kernel_rfl) (by kernel_rfl) h
theorem Eg(h:qM c F x0 s=some r):c 101 [x0] s=some (tidy s r):=hc.o0 F wY (by kernel_rfl) (by kernel_rfl) h
theorem Eh(h:qN c F x0 s=some r):c 108 [x0] s=some (tidy s r):=hc.o1 F (ou c F) ot (by kernel_rfl) (by kernel_rfl) (λ_ _ _=>by kernel_rfl) (λ_ _ _ _=>by kernel_rfl) (by kernel_rfl) h
theorem Ei(h:qO c F x0 x1 s=some r):c 109 [x0,x1] s=some (tidy s r):=hc.o0 F w6 (by kernel_rfl) (by kernel_rfl) h
theorem tM(h:qP c F x0 x1 s=some r):c 111 [x0,x1] s=some (tidy s r):=hc.o1 F (ow c F) ov (by kernel_rfl) (by kernel_rfl) (λ_ _ _=>by kernel_rfl) (λ_ _ _ _=>by kernel_rfl) (by kernel_rfl) h
theorem Pz(h:Hf c F x0 s=some r):c 116 [x0] s=some (tidy s r):=hc.o0 F JQ (by kernel_rfl) (by kernel_rfl) h
theorem Ll(h:zQ c F x0 s=some r):c 117 [x0] s=some (tidy s r):=hc.o0 F Dz (by kernel_rfl) (by kernel_rfl) h
theorem Fv(h:s9 c F x0 s=some r):c 118 [x0] s=some (tidy s r):=hc.o0 F yh (by kernel_rfl) (by kernel_rfl) h
theorem PA(h:Hg c F x0 s=some r):c 119 [x0] s=some (tidy s r):=hc.o1 F (BZ c F) BX (by kernel_rfl) (by kernel_rfl) (λ_ _ _=>by kernel_rfl) (λ_ _ _ _=>by kernel_rfl) (by kernel_rfl) h
theorem PC(h:Hh c F s=some r):c 120 [] s=some (tidy s r):=hc.o0 F JT (by kernel_rfl) (by kernel_rfl) h
theorem IF(h:xe c F x0 x1 x2 s=some r):c 121 [x0,x1,x2] s=some (tidy s r):=hc.o0 F Ak (by kernel_rfl) (by kernel_rfl) h
theorem RL(h:JV c F x0 s=some r):c 125 [x0] s=some (tidy s r):=hc.o0 F LX (by kernel_rfl) (by kernel_rfl) h
theorem PE(h:Hi c F x0 s=some r):c 129 [x0] s=some (tidy s r):=hc.o1 F (B4 c F) B0 (by kernel_rfl) (by kernel_rfl) (λ_ _ _=>by kernel_rfl) (λ_ _ _ _=>by kernel_rfl) (by kernel_rfl) h
theorem AQ(h:mZ c F x0 s=some r):c 136 [x0] s=some (tidy s r):=hc.oL F (kO c F) iU 2 (by kernel_rfl) (λi hi=>match i,hi with|0,_=>om 0 (by kernel_rfl) (λ_ _ _=>by kernel_rfl) (λ_ _ _ _=>by kernel_rfl)|1,_=>om 1 (by kernel_rfl) (λ_ _ _=>by kernel_rfl) (λ_ _ _ _=>by kernel_rfl)|n+2,h=>absurd h (by omega)) (by kernel_rfl) h
theorem pG(h:lW c F x0 s=some r):c 137 [x0] s=some (tidy s r):=hc.oL F (kz c F) iG 2 (by kernel_rfl) (λi hi=>match i,hi with|0,_=>om 0 (by kernel_rfl) (λ_ _ _=>by kernel_rfl) (λ_ _ _ _=>by kernel_rfl)|1,_=>om 1 (by kernel_rfl) (λ_ _ _=>by kernel_rfl) (λ_ _ _ _=>by kernel_rfl)|n+2,h=>absurd h (by omega)) (by kernel_rfl) h
theorem Fw(h:td c F x0 s=some r):c 138 [x0] s=some (tidy s r):=hc.o0 F yl (by kernel_rfl) (by kernel_rfl) h
theorem Hs(h:uS c F x0 s=some r):c 139 [x0] s=some (tidy s r):=hc.o0 F zo (by kernel_rfl) (by kernel_rfl) h
theorem Ht(h:uT c F x0 s=some r):c 140 [x0] s=some (tidy s r):=hc.o0 F zq (by kernel_rfl) (by kernel_rfl) h
theorem CQ(h:pR c F x0 s=some r):c 141 [x0] s=some (tidy s r):=hc.o0 F vI (by kernel_rfl) (by kernel_rfl) h
theorem CR(h:pS c F x0 s=some r):c 142 [x0] s=some (tidy s r):=hc.o0 F vK (by kernel_rfl) (by kernel_rfl) h
theorem IG(h:xj c F x0 x1 s=some r):c 143 [x0,x1] s=some (tidy s r):=hc.o1 F (tj c F) th (by kernel_rfl) (by kernel_rfl) (λ_ _ _=>by kernel_rfl) (λ_ _ _ _=>by kernel_rfl) (by kernel_rfl) h
theorem II(h:xp c F x0 s=some r):c 144 [x0] s=some (tidy s r):=hc.o1 F (tr c F) tq (by kernel_rfl) (by kernel_rfl) (λ_ _ _=>by kernel_rfl) (λ_ _ _ _=>by kernel_rfl) (by kernel_rfl) h
theorem Cj(h:oA c F x0 x1 s=some r):c 145 [x0,x1] s=some (tidy s r):=hc.o1 F (lY c F) lX (by kernel_rfl) (by kernel_rfl) (λ_ _ _=>by kernel_rfl) (λ_ _ _ _=>by kernel_rfl) (by kernel_rfl) h
theorem AE(h:zR c F x0 s=some r):c 148 [x0] s=some (tidy s r):=hc.o1 F (xw c F) xq (by kernel_rfl) (by kernel_rfl) (λ_ _ _=>by kernel_rfl) (λ_ _ _ _=>by kernel_rfl) (by kernel_rfl) h
theorem CS(h:pT c F x0 x1 x2 s=some r):c 149 [x0,x1,x2] s=some (tidy s r):=hc.o0 F vM (by kernel_rfl) (by kernel_rfl) h
theorem IJ(h:xx c F x0 s=some r):c 150 [x0] s=some (tidy s r):=hc.o0 F Ao (by kernel_rfl) (by kernel_rfl) h
theorem IK(h:xy c F x0 x1 s=some r):c 169 [x0,x1] s=some (tidy s r):=hc.o0 F Aq (by kernel_rfl) (by kernel_rfl) h
theorem Ud(h:MU c F x0 x1 s=some r):c 170 [x0,x1] s=some (tidy s r):=hc.o0 F Ou (by kernel_rfl) (by kernel_rfl) h
theorem RM(h:J0 c F x0 s=some r):c 171 [x0] s=some (tidy s r):=hc.o1 F (D9 c F) D8 (by kernel_rfl) (by kernel_rfl) (λ_ _ _=>by kernel_rfl) (λ_ _ _ _=>by kernel_rfl) (by kernel_rfl) h
theorem RN(h:J1 c F x0 x1 s=some r):c 172 [x0,x1] s=some (tidy s r):=hc.o0 F L5 (by kernel_rfl) (by kernel_rfl) h
theorem Lm(h:zS c F x0 s=some r):c 173 [x0] s=some (tidy s r):=hc.o0 F DF (by kernel_rfl) (by kernel_rfl) h
theorem RO(h:J3 c F x0 s=some r):c 184 [x0] s=some (tidy s r):=hc.o1 F (Eb c F) Ea (by kernel_rfl) (by kernel_rfl) (λ_ _ _=>by kernel_rfl) (λ_ _ _ _=>by kernel_rfl) (by kernel_rfl) h
theorem Ej(h:qX c F x0 s=some r):c 189 [x0] s=some (tidy s r):=hc.o1 F (oC c F) oB (by kernel_rfl) (by kernel_rfl) (λ_ _ _=>by kernel_rfl) (λ_ _ _ _=>by kernel_rfl) (by kernel_rfl) h
theorem Ek(h:qY c F x0 s=some r):c 190 [x0] s=some (tidy s r):=hc.o1 F (oE c F) oD (by kernel_rfl) (by kernel_rfl) (λ_ _ _=>by kernel_rfl) (λ_ _ _ _=>by kernel_rfl) (by kernel_rfl) h
theorem CT(h:pU c F x0 x1 s=some r):c 191 [x0,x1] s=some (tidy s r):=hc.o0 F vQ (by kernel_rfl) (by kernel_rfl) h
theorem mL(h:eP c F x0 x1 s=some r):c 196 [x0,x1] s=some (tidy s r):=hc.o0 F ia (by kernel_rfl) (by kernel_rfl) h
theorem IL(h:xB c F x0 x1 s=some r):c 197 [x0,x1] s=some (tidy s r):=hc.o0 F At (by kernel_rfl) (by kernel_rfl) h
theorem PG(h:xD c F x0 s=some r):c 198 [x0] s=some (tidy s r):=hc.oL F (B6 c F) xC 2 (by kernel_rfl) (λi hi=>match i,hi with|0,_=>om 0 (by kernel_rfl) (λ_ _ _=>by kernel_rfl) (λ_ _ _ _=>by kernel_rfl)|1,_=>om 1 (by kernel_rfl) (λ_ _ _=>by kernel_rfl) (λ_ _ _ _=>by kernel_rfl)|n+2,h=>absurd h (by omega)) (by kernel_rfl) h
theorem oH(h:fG c F x0 x1 s=some r):c 213 [x0,x1] s=some (tidy s r):=hc.o1 F (eX c F) eW (by kernel_rfl) (by kernel_rfl) (λ_ _ _=>by kernel_rfl) (λ_ _ _ _=>by kernel_rfl) (by kernel_rfl) h
theorem PI(h:Ho c F x0 x1 s=some r):c 214 [x0,x1] s=some (tidy s r):=hc.o0 F J5 (by kernel_rfl) (by kernel_rfl) h
theorem oI(h:fH c F x0 x1 s=some r):c 215 [x0,x1] s=some (tidy s r):=hc.o1 F (eZ c F) eY (by kernel_rfl) (by kernel_rfl) (λ_ _ _=>by kernel_rfl) (λ_ _ _ _=>by kernel_rfl) (by kernel_rfl) h
theorem Oy(h:Ec c F x0 x1 s=some r):c 216 [x0,x1] s=some (tidy s r):=hc.o0 F Io (by kernel_rfl) (by kernel_rfl) h
theorem IM(h:xE c F x0 x1 s=some r):c 217 [x0,x1] s=some (tidy s r):=hc.o0 F Av (by kernel_rfl) (by kernel_rfl) h
theorem Kg(h:yL c F x0 x1 s=some r):c 222 [x0,x1] s=some (tidy s r):=hc.o0 F B7 (by kernel_rfl) (by kernel_rfl) h
theorem Kh(h:yM c F x0 x1 s=some r):c 227 [x0,x1] s=some (tidy s r):=hc.o0 F B9 (by kernel_rfl) (by kernel_rfl) h
theorem Ln(h:zT c F x0 x1 s=some r):c 232 [x0,x1] s=some (tidy s r):=hc.o0 F DH (by kernel_rfl) (by kernel_rfl) h
theorem Fx(h:tu c F x0 s=some r):c 251 [x0] s=some (tidy s r):=hc.o1 F (pY c F) pX (by kernel_rfl) (by kernel_rfl) (λ_ _ _=>by kernel_rfl) (λ_ _ _ _=>by kernel_rfl) (by kernel_rfl) h
theorem RP(h:J7 c F s=some r):c 256 [] s=some (tidy s r):=hc.o0 F L8 (by kernel_rfl) (by kernel_rfl) h
theorem zA(h:sr c F x0 x1 s=some r):c 257 [x0,x1] s=some (tidy s r):=hc.o0 F Cb (by kernel_rfl) (by kernel_rfl) h
theorem Oz(h:Ed c F x0 x1 s=some r):c 258 [x0,x1] s=some (tidy s r):=hc.o0 F Iq (by kernel_rfl) (by kernel_rfl) h
theorem qZ(h:su c F x0 x1 x2 x3 s=some r):c 259 [x0,x1,x2,x3] s=some (tidy s r):=hc.o1 F (uV c F) uU (by kernel_rfl) (by kernel_rfl) (λ_ _ _=>by kernel_rfl) (λ_ _ _ _=>by kernel_rfl) (by kernel_rfl) h
theorem IN(h:xG c F x0 s=some r):c 297 [x0] s=some (tidy s r):=hc.o0 F Ay (by kernel_rfl) (by kernel_rfl) h
theorem OA(h:Ee c F x0 s=some r):c 298 [x0] s=some (tidy s r):=hc.o1 F (zV c F) zU (by kernel_rfl) (by kernel_rfl) (λ_ _ _=>by kernel_rfl) (λ_ _ _ _=>by kernel_rfl) (by kernel_rfl) h
theorem MX(h:Cf c F x0 s=some r):c 299 [x0] s=some (tidy s r):=hc.o0 F Fq (by kernel_rfl) (by kernel_rfl) h
theorem IP(h:xH c F x0 x1 s=some r):c 300 [x0,x1] s=some (tidy s r):=hc.o0 F AA (by kernel_rfl) (by kernel_rfl) h
theorem Hu(h:uW c F x0 x1 x2 s=some r):c 301 [x0,x1,x2] s=some (tidy s r):=hc.o0 F zy (by kernel_rfl) (by kernel_rfl) h
theorem tN(h:iQ c F x0 x1 x2 s=some r):c 302 [x0,x1,x2] s=some (tidy s r):=hc.o0 F kI (by kernel_rfl) (by kernel_rfl) h
theorem PJ(h:Hp c F x0 x1 x2 s=some r):c 303 [x0,x1,x2] s=some (tidy s r):=hc.o0 F J9 (by kernel_rfl) (by kernel_rfl) h
theorem PM(h:Hq c F x0 s=some r):c 317 [x0] s=some (tidy s r):=hc.o1 F (Ci c F) Cg (by kernel_rfl) (by kernel_rfl) (λ_ _ _=>by kernel_rfl) (λ_ _ _ _=>by kernel_rfl) (by kernel_rfl) h
theorem PN(h:Hr c F x0 s=some r):c 318 [x0] s=some (tidy s r):=hc.o0 F Kc (by kernel_rfl) (by kernel_rfl) h
theorem lM(h:jG c F x0 s=some r):c 319 [x0] s=some (tidy s r):=hc.o0 F ni (by kernel_rfl) (by kernel_rfl) h
theorem AR(h:nr c F x0 x1 s=some r):c 320 [x0,x1] s=some (tidy s r):=hc.o0 F sJ (by kernel_rfl) (by kernel_rfl) h
theorem jO(h:dx c F x0 x1 x2 s=some r):c 321 [x0,x1,x2] s=some (tidy s r):=hc.o1 F (cS c F) cR (by kernel_rfl) (by kernel_rfl) (λ_ _ _=>by kernel_rfl) (λ_ _ _ _=>by kernel_rfl) (by kernel_rfl) h
end
end
section
open Go Go.Ai Go.Proofs
variable{c:ah}
def dY(s:List Nat):Bool:=decide (1<=s.length)&&decide (s.length<=12)&&s.all λc=>decide (97<=c/\c<=122)
theorem acT(s:List Nat)(hs:s.length<=12)(F:Nat)(st:St)(k1 k2):∀(m k:Nat),s.length<=k+m->k<=s.length->
  gV c F k1 k2 (m+1) [.str s,.int .i64 (k:Int)] st=if(s.drop k).all (λc=>decide (97<=c/\c<=122))=true then k2 [] st else k1 [.bool false] st:=by
 intro m;induction m with
 |zero=>
  intro k h1 h2;rw[xk];obtain rfl:k=s.length:=by omega
  simp
 |succ m ih=>
  intro k h1 h2;rw[xk];by_cases h:k<s.length
  . have e:s.drop k=s[k]::s.drop (k+1):=Zb5 h;have:=ih (k+1) (by omega) (by omega);have w:aD .i64 ((k:Int)+1)=((k+1:Nat):Int):=wrap64 (by omega) (by omega);rw[e,Zm5];generalize (s.drop (k+1)).all _=rest at this ⊢;by_cases h3:(s[k]:Int)<97
    .   have h5:decide (97<=s[k]/\s[k]<=122)=false:=(by simp;omega);simp[h,h3,h5]
    .   by_cases h4:122<(s[k]:Int)
        .have h5:decide (97<=s[k]/\s[k]<=122)=false:=(by simp;omega);simp[h,h3,h4,h5]
        .have h5:decide (97<=s[k]/\s[k]<=122)=true:=(by simp;omega);rw[h5,Ze0, <-this];simp[h,h3,h4,w]
  .obtain rfl:k=s.length:=(by omega);simp
theorem Bl(hc:Sem c)(s:List Nat)(st:St):c 144 [.str s] st=some (.bool (dY s),st):=by
 rw[II hc (s.length+1) (r:=(.bool (dY s),st)),aq (Plain.bool _) (aV.refl st)];rw[Ld];by_cases h0:(s.length:Int)<1
 .have h1:¬1<=s.length:=(by omega);simp[dY,h0,h1]
 . by_cases h1:12<(s.length:Int)
   .have h2:¬s.length<=12:=(by omega);simp[dY,h0,h1,h2]
   . have h2:s.length<=12:=(by omega);have h3:1<=s.length:=(by omega);have L:∀k1 k2,gV c (s.length+1) k1 k2 (s.length+1) [.str s,.int .i64 0] st=if(s.drop 0).all (λc=>decide (97<=c/\c<=122))=true then k2 [] st else k1 [.bool false] st:=
        λk1 k2=>acT (c:=c) s h2 (s.length+1) st k1 k2 s.length 0 (by omega) (by omega)
     rw[Zc5]at L;have e:dY s=s.all λc=>decide (97<=c/\c<=122):=(by simp[dY,h2,h3]);rw[e];generalize (s.all _)=b at L ⊢;simp[h0,h1,L];cases b<;>simp
structure aF where
 name:List Nat
 sh:Int
 a:Int
 b:Int
 oz:Bool
 b9:List Int
 x:Int
 y:Int
def ints(z:Bool)(l:List Int):AV:=ro 1 z (l.map λi=>[.int .i64 i])
def aF.cells(t:aF):List AV:=[.str t.name,.int .u8 t.sh,.int .i64 t.a,.int .i64 t.b,ints t.oz t.b9,.int .i64 t.x,.int .i64 t.y]
@[simp] theorem abo(z:Bool)(l:List Int):(ints z l).one=true:=Zl _ _ _
def bN(t:aF):Int:=
 if t.sh=1 then(if 1<=t.a/\t.a<=24/\t.b=0 then t.a else 0)
 else if t.sh=2 then(if 1<=t.a/\t.a<=11/\0<=t.b/\t.b<=2 then 2*t.a+t.b else 0)
 else if t.sh=3 then(if 1<=t.a/\t.a<=8/\1<=t.b/\t.b<=8 then t.a+2*t.b else 0)
 else if t.sh=4 then(if 1<=t.a/\t.a<=24/\0<=t.b/\t.b<=t.a then t.a else 0)
 else 0
theorem dZ(hc:Sem c)(n lo hi:Int)(st:St):c 149 [.int .i64 n,.int .i64 lo,.int .i64 hi] st=some (.bool (decide (lo<=n/\n<=hi)),st):=by
 rw[CS hc 1 (r:=(.bool (decide (lo<=n/\n<=hi)),st)),aq (Plain.bool _) (aV.refl st)];rw[Fk];by_cases h:lo<=n<;>simp[h]
theorem xI(hc:Sem c)(t:aF)(st:St)(hw:Wf st):c 118 [.agg t.cells] st=some (.int .i64 (bN t),st):=by
 rw[Fv hc 1 (r:=(.int .i64 (bN t),af st (.cells t.cells 0))),aq (Plain.int _ _) (bk hw)];rw[IC];obtain⟨name,sh,a,b,oz,b9,x,y⟩:=t;by_cases h1:sh=1
 .subst h1;by_cases h2:1<=a/\a<=24<;>by_cases h3:b=0<;>simp[aF.cells,AV.cells,dZ hc,bN,dK,h2,h3]
 by_cases h4:sh=2
 . subst h4;by_cases h2:1<=a/\a<=11
   . by_cases h3:0<=b/\b<=2
     .  have w1:aD .i64 (2*a)=2*a:=wrap64 (by omega) (by omega);have w2:aD .i64 (2*a+b)=2*a+b:=wrap64 (by omega) (by omega);simp[aF.cells,AV.cells,dZ hc,bN,dK,h2,h3,w1,w2]
     .  simp[aF.cells,AV.cells,dZ hc,bN,dK,h2,h3]
   .simp[aF.cells,AV.cells,dZ hc,bN,dK,h2];omega
 by_cases h5:sh=3
 . subst h5;by_cases h2:1<=a/\a<=8
   . by_cases h3:1<=b/\b<=8
     .  have w1:aD .i64 (2*b)=2*b:=wrap64 (by omega) (by omega);have w2:aD .i64 (a+2*b)=a+2*b:=wrap64 (by omega) (by omega);simp[aF.cells,AV.cells,dZ hc,bN,dK,h2,h3,w1,w2]
     .  simp[aF.cells,AV.cells,dZ hc,bN,dK,h2,h3]
   .simp[aF.cells,AV.cells,dZ hc,bN,dK,h2];omega
 by_cases h6:sh=4
 . subst h6;by_cases h2:1<=a/\a<=24
   . by_cases h3:0<=b/\b<=a
     .  simp[aF.cells,AV.cells,dZ hc,bN,dK,h2,h3]
     .  simp[aF.cells,AV.cells,dZ hc,bN,dK,h2,h3]
   .simp[aF.cells,AV.cells,dZ hc,bN,dK,h2];omega
 simp[aF.cells,AV.cells,dZ hc,bN,dK,h1,h4,h5,h6]
theorem RQ(hc:Sem c)(a b:Int)(st:St):c 217 [.int .i64 a,.int .i64 b] st=some (.int .i64 (if 1<=a/\a<=24/\b=0 then a else 0),st):=by
 rw[IM hc 1 (r:=(.int .i64 (if 1<=a/\a<=24/\b=0 then a else 0),st)),aq (Plain.int _ _) (aV.refl st)];rw[Lh];by_cases h1:a<1
 .have:¬1<=a:=(by omega);simp[h1,this]
 . by_cases h2:24<a
   .have:¬a<=24:=(by omega);simp[h1,h2,this]
   .have h3:1<=a:=(by omega);have h4:a<=24:=(by omega);by_cases h5:b=0<;>simp[h1,h2,h3,h4,h5]
theorem Ue(hc:Sem c)(a b:Int)(st:St):c 222 [.int .i64 a,.int .i64 b] st=some (.int .i64 (if 1<=a/\a<=11/\0<=b/\b<=2 then 2*a+b else 0),st):=by
 rw[Kg hc 1 (r:=(.int .i64 (if 1<=a/\a<=11/\0<=b/\b<=2 then 2*a+b else 0),st)),aq (Plain.int _ _) (aV.refl st)];rw[MV];by_cases h1:a<1
 .have:¬1<=a:=(by omega);simp[h1,this]
 by_cases h2:11<a
 .have:¬a<=11:=(by omega);simp[h1,h2,this]
 by_cases h3:b<0
 .have:¬0<=b:=(by omega);simp[h1,h2,h3,this]
 by_cases h4:2<b
 .have:¬b<=2:=(by omega);simp[h1,h2,h3,h4,this]
 have h5:1<=a:=by omega
 have h6:a<=11:=by omega
 have h7:0<=b:=by omega
 have h8:b<=2:=by omega
 have w1:aD .i64 (2*a)=2*a:=wrap64 (by omega) (by omega);have w2:aD .i64 (2*a+b)=2*a+b:=wrap64 (by omega) (by omega);simp[h1,h2,h3,h4,h5,h6,h7,h8,w1,w2]
theorem Uf(hc:Sem c)(a b:Int)(st:St):c 227 [.int .i64 a,.int .i64 b] st=some (.int .i64 (if 1<=a/\a<=8/\1<=b/\b<=8 then a+2*b else 0),st):=by
 rw[Kh hc 1 (r:=(.int .i64 (if 1<=a/\a<=8/\1<=b/\b<=8 then a+2*b else 0),st)),aq (Plain.int _ _) (aV.refl st)];rw[MW];by_cases h1:a<1
 .have:¬1<=a:=(by omega);simp[h1,this]
 by_cases h2:8<a
 .have:¬a<=8:=(by omega);simp[h1,h2,this]
 by_cases h3:b<1
 .have:¬1<=b:=(by omega);simp[h1,h2,h3,this]
 by_cases h4:8<b
 .have:¬b<=8:=(by omega);simp[h1,h2,h3,h4,this]
 have h5:1<=a:=by omega
 have h6:a<=8:=by omega
 have h7:1<=b:=by omega
 have h8:b<=8:=by omega
 have w1:aD .i64 (2*b)=2*b:=wrap64 (by omega) (by omega);have w2:aD .i64 (a+2*b)=a+2*b:=wrap64 (by omega) (by omega);simp[h1,h2,h3,h4,h5,h6,h7,h8,w1,w2]
theorem VD(hc:Sem c)(a b:Int)(st:St):c 232 [.int .i64 a,.int .i64 b] st=some (.int .i64 (if 1<=a/\a<=24/\0<=b/\b<=a then a else 0),st):=by
 rw[Ln hc 1 (r:=(.int .i64 (if 1<=a/\a<=24/\0<=b/\b<=a then a else 0),st)),aq (Plain.int _ _) (aV.refl st)];rw[Ox];by_cases h1:a<1
 .have:¬1<=a:=(by omega);simp[h1,this]
 by_cases h2:24<a
 .have:¬a<=24:=(by omega);simp[h1,h2,this]
 by_cases h3:b<0
 .have:¬0<=b:=(by omega);simp[h1,h2,h3,this]
 by_cases h4:a<b
 .have:¬b<=a:=(by omega);simp[h1,h2,h3,h4,this]
 have h5:1<=a:=by omega
 have h6:a<=24:=by omega
 have h7:0<=b:=by omega
 have h8:b<=a:=by omega
 simp[h1,h2,h3,h4,h5,h6,h7,h8]
def q7(sh:Int):List AV:=
 if sh=1 then [.str [114,111,117,110,100],.func 217 [] [],.func 218 [] [],.func 219 [] [],.func 220 [] [],.func 221 [] []]
 else if sh=2 then [.str [108,111,110,103],.func 222 [] [],.func 223 [] [],.func 224 [] [],.func 225 [] [],.func 226 [] []]
 else if sh=3 then [.str [104,111,114,115,101,115,104,111,101],.func 227 [] [],.func 228 [] [],.func 229 [] [],.func 230 [] [],.func 231 [] []]
 else if sh=4 then [.str [114,111,119],.func 232 [] [],.func 233 [] [],.func 234 [] [],.func 235 [] [],.func 236 [] []]
 else [.str [],.ir,.ir,.ir,.ir,.ir]
theorem plain_fn(f:Nat):Plain (.func f [] []):=Plain.func f (by simp) (by simp)
theorem ZD(sh:Int):∀v∈q7 sh,Plain v:=by
 unfold q7;intro v hv
 repeat' split at hv
 all_goals
  simp only[Za2,Zd0,Zh2]at hv;rcases hv with rfl|rfl|rfl|rfl|rfl|rfl<;>first|exact Plain.str _|exact Plain.ir|exact plain_fn _
theorem tO(hc:Sem c)(sh:Int)(st:St)(hw:Wf st):c 173 [.int .u8 sh] st=some (.tuple [.agg (q7 sh),.bool (decide (1<=sh/\sh<=4))],st):=by
 have hp:Plain (.tuple [.agg (q7 sh),.bool (decide (1<=sh/\sh<=4))]):=Plain.tuple λv hv=>by
   simp only[Za2,Zd0,Zh2]at hv;rcases hv with rfl|rfl
   .exact Plain.agg (ZD sh)
   .exact Plain.bool _
 rw[Lm hc 1 (r:=(.tuple [.agg (q7 sh),.bool (decide (1<=sh/\sh<=4))],af st (.cells (q7 sh) 0))),aq hp (bk hw)];rw[Ow];by_cases h1:sh=1
 .subst h1;simp[q7,AV.cells,aU,AV.one,bw,bS,aK,eu]
 by_cases h2:sh=2
 .subst h2;simp[q7,AV.cells,aU,AV.one,bw,bS,aK,eu]
 by_cases h3:sh=3
 .subst h3;simp[q7,AV.cells,aU,AV.one,bw,bS,aK,eu]
 by_cases h4:sh=4
 .subst h4;simp[q7,AV.cells,aU,AV.one,bw,bS,aK,eu]
 have h5:decide (1<=sh/\sh<=4)=false:=by simp;omega
 rw[h5];simp[q7,AV.cells,aU,AV.one,bw,bS,aK,eu,h1,h2,h3,h4]
theorem K7(hc:Sem c)(t:aF)(st:St)(hw:Wf st):c 125 [.agg t.cells] st=some (.int .i64 (bN t),st):=by
 rw[RL hc 1 (r:=(.int .i64 (bN t),af (af st (.cells t.cells 0)) (.cells (q7 t.sh) 0))),aq (Plain.int _ _) ((bk hw).trans (bk (bA hw)))];rw[Vy];obtain⟨name,sh,a,b,oz,b9,x,y⟩:=t;by_cases h1:sh=1
 .subst h1;simp[aF.cells,AV.cells,tO hc,hw,bN,q7,aU,AV.one,RQ hc]
 by_cases h2:sh=2
 .subst h2;simp[aF.cells,AV.cells,tO hc,hw,bN,q7,aU,AV.one,Ue hc]
 by_cases h3:sh=3
 .subst h3;simp[aF.cells,AV.cells,tO hc,hw,bN,q7,aU,AV.one,Uf hc]
 by_cases h4:sh=4
 .subst h4;simp[aF.cells,AV.cells,tO hc,hw,bN,q7,aU,AV.one,VD hc]
 have h5:decide (1<=sh/\sh<=4)=false:=by simp;omega
 simp[aF.cells,AV.cells,tO hc,hw,bN,q7,aU,AV.one,h1,h2,h3,h4,h5]
def cD:Nat:=9223372036854775808
theorem El(s:List Nat)(hs:s.length<=12)(F:Nat)(st:St)(k1 k2):∀(m k:Nat),s.length<=k+m->k<=s.length->
  fO c F k1 k2 (m+1) [.str s,.int .i64 (k:Int)] st=if(s.drop k).all (λc=>decide (97<=c/\c<=122))=true then k2 [] st else k1 [.bool false] st:=by
 intro m;induction m with
 |zero=>
  intro k h1 h2;rw[tL];obtain rfl:k=s.length:=by omega
  simp
 |succ m ih=>
  intro k h1 h2;rw[tL];by_cases h:k<s.length
  . have e:s.drop k=s[k]::s.drop (k+1):=Zb5 h;have:=ih (k+1) (by omega) (by omega);have w:aD .i64 ((k:Int)+1)=((k+1:Nat):Int):=wrap64 (by omega) (by omega);rw[e,Zm5];generalize (s.drop (k+1)).all _=rest at this ⊢;by_cases h3:(s[k]:Int)<97
    .   have h5:decide (97<=s[k]/\s[k]<=122)=false:=(by simp;omega);simp[h,h3,h5]
    .   by_cases h4:122<(s[k]:Int)
        .have h5:decide (97<=s[k]/\s[k]<=122)=false:=(by simp;omega);simp[h,h3,h4,h5]
        .have h5:decide (97<=s[k]/\s[k]<=122)=true:=(by simp;omega);rw[h5,Ze0, <-this];simp[h,h3,h4,w]
  .obtain rfl:k=s.length:=(by omega);simp
theorem Hv(hc:Sem c)(s:List Nat)(st:St):c 251 [.str s] st=some (.bool (dY s),st):=by
 rw[Fx hc (s.length+1) (r:=(.bool (dY s),st)),aq (Plain.bool _) (aV.refl st)];rw[IE];by_cases h0:(s.length:Int)=0
 .have h1:¬1<=s.length:=(by omega);have h2:s=[]:=Za7 (by omega);subst h2;simp[dY]
 . by_cases h1:12<(s.length:Int)
   .have h2:¬s.length<=12:=(by omega);have h3:¬s=[]:=(by intro e;subst e;simp at h0);simp[dY,h1,h2,h3]
   . have h2:s.length<=12:=(by omega);have h3:1<=s.length:=(by omega);have h4:¬s=[]:=(by intro e;subst e;simp at h0);have L:∀k1 k2,fO c (s.length+1) k1 k2 (s.length+1) [.str s,.int .i64 0] st=if(s.drop 0).all (λc=>decide (97<=c/\c<=122))=true then k2 [] st else k1 [.bool false] st:=
        λk1 k2=>El (c:=c) s h2 (s.length+1) st k1 k2 s.length 0 (by omega) (by omega)
     rw[Zc5]at L;have e:dY s=s.all λc=>decide (97<=c/\c<=122):=(by simp[dY,h2,h3]);rw[e];generalize (s.all _)=b at L ⊢;simp[h1,h4,L];cases b<;>simp
theorem OB(s:List Nat)(hs:s.length<=12)(F:Nat)(st:St)(k1 k2):∀(m k:Nat),s.length<=k+m->k<=s.length->
  lz c F k1 k2 (m+1) [.str s,.int .i64 (s.length:Int),.int .i64 (k:Int)] st=if(s.drop k).all (λc=>decide (97<=c/\c<=122))=true then k2 [] st else k1 [.bool false] st:=by
 intro m;induction m with
 |zero=>
  intro k h1 h2;rw[DJ];obtain rfl:k=s.length:=by omega
  simp
 |succ m ih=>
  intro k h1 h2;rw[DJ];by_cases h:k<s.length
  . have e:s.drop k=s[k]::s.drop (k+1):=Zb5 h;have:=ih (k+1) (by omega) (by omega);have w:aD .i64 ((k:Int)+1)=((k+1:Nat):Int):=wrap64 (by omega) (by omega);rw[e,Zm5];generalize (s.drop (k+1)).all _=rest at this ⊢;by_cases h3:(s[k]:Int)<97
    .   have h5:decide (97<=s[k]/\s[k]<=122)=false:=(by simp;omega);simp[h,h3,h5]
    .   by_cases h4:122<(s[k]:Int)
        .have h5:decide (97<=s[k]/\s[k]<=122)=false:=(by simp;omega);simp[h,h3,h4,h5]
        .have h5:decide (97<=s[k]/\s[k]<=122)=true:=(by simp;omega);rw[h5,Ze0, <-this];simp[h,h3,h4,w]
  .obtain rfl:k=s.length:=(by omega);simp
theorem zW(hc:Sem c)(s:List Nat)(st:St):c 317 [.str s] st=some (.bool (dY s),st):=by
 rw[PM hc (s.length+1) (r:=(.bool (dY s),st)),aq (Plain.bool _) (aV.refl st)];rw[Ub];by_cases h0:(s.length:Int)=0
 .have h1:¬1<=s.length:=(by omega);have h2:s=[]:=Za7 (by omega);subst h2;simp[dY]
 . by_cases h1:12<(s.length:Int)
   .have h2:¬s.length<=12:=(by omega);have h3:¬s=[]:=(by intro e;subst e;simp at h0);simp[dY,h1,h2,h3]
   . have h2:s.length<=12:=(by omega);have h3:1<=s.length:=(by omega);have h4:¬s=[]:=(by intro e;subst e;simp at h0);have L:∀k1 k2,lz c (s.length+1) k1 k2 (s.length+1) [.str s,.int .i64 (s.length:Int),.int .i64 0] st=if(s.drop 0).all (λc=>decide (97<=c/\c<=122))=true then k2 [] st else k1 [.bool false] st:=
        λk1 k2=>OB (c:=c) s h2 (s.length+1) st k1 k2 s.length 0 (by omega) (by omega)
     rw[Zc5]at L;have e:dY s=s.all λc=>decide (97<=c/\c<=122):=(by simp[dY,h2,h3]);rw[e];generalize (s.all _)=b at L ⊢;simp[h1,h4,L];cases b<;>simp
theorem PO(s:List Nat)(hs:s.length<=12)(F:Nat)(st:St)(k1 k2):∀(m k:Nat),s.length<=k+m->k<=s.length->
  nc c F k1 k2 (m+1) [.str s,.int .i64 (s.length:Int),.int .i64 (k:Int)] st=if(s.drop k).all (λc=>decide (97<=c/\c<=122))=true then k2 [] st else k1 [.bool false] st:=by
 intro m;induction m with
 |zero=>
  intro k h1 h2;rw[Fl];obtain rfl:k=s.length:=by omega
  simp
 |succ m ih=>
  intro k h1 h2;rw[Fl];by_cases h:k<s.length
  . have e:s.drop k=s[k]::s.drop (k+1):=Zb5 h;have:=ih (k+1) (by omega) (by omega);have w:aD .i64 ((k:Int)+1)=((k+1:Nat):Int):=wrap64 (by omega) (by omega);rw[e,Zm5];generalize (s.drop (k+1)).all _=rest at this ⊢;by_cases h3:(s[k]:Int)<97
    .   have h5:decide (97<=s[k]/\s[k]<=122)=false:=(by simp;omega);simp[h,h3,h5]
    .   by_cases h4:122<(s[k]:Int)
        .have h5:decide (97<=s[k]/\s[k]<=122)=false:=(by simp;omega);simp[h,h3,h4,h5]
        .have h5:decide (97<=s[k]/\s[k]<=122)=true:=(by simp;omega);rw[h5,Ze0, <-this];simp[h,h3,h4,w]
  .obtain rfl:k=s.length:=(by omega);simp
theorem Ug(hc:Sem c)(s:List Nat)(st:St):c 171 [.str s] st=some (.bool (dY s),st):=by
 rw[RM hc (s.length+1) (r:=(.bool (dY s),st)),aq (Plain.bool _) (aV.refl st)];rw[Vz];by_cases h0:(s.length:Int)=0
 .have h1:¬1<=s.length:=(by omega);have h2:s=[]:=Za7 (by omega);subst h2;simp[dY]
 . by_cases h1:12<(s.length:Int)
   .have h2:¬s.length<=12:=(by omega);have h3:¬s=[]:=(by intro e;subst e;simp at h0);simp[dY,h1,h2,h3]
   . have h2:s.length<=12:=(by omega);have h3:1<=s.length:=(by omega);have h4:¬s=[]:=(by intro e;subst e;simp at h0);have L:∀k1 k2,nc c (s.length+1) k1 k2 (s.length+1) [.str s,.int .i64 (s.length:Int),.int .i64 0] st=if(s.drop 0).all (λc=>decide (97<=c/\c<=122))=true then k2 [] st else k1 [.bool false] st:=
        λk1 k2=>PO (c:=c) s h2 (s.length+1) st k1 k2 s.length 0 (by omega) (by omega)
     rw[Zc5]at L;have e:dY s=s.all λc=>decide (97<=c/\c<=122):=(by simp[dY,h2,h3]);rw[e];generalize (s.all _)=b at L ⊢;simp[h1,h4,L];cases b<;>simp
theorem PR(s:List Nat)(hs:s.length<cD)(F:Nat)(st:St)(k1 k2):∀(m k:Nat),s.length<=k+m->k<=s.length->
  nh c F k1 k2 (m+1) [.str s,.int .i64 (k:Int)] st=if(s.drop k).all (λc=>decide (97<=c/\c<=122))=true then k2 [.str s] st else k1 [.bool false] st:=by
 intro m;induction m with
 |zero=>
  intro k h1 h2;rw[Fm];obtain rfl:k=s.length:=by omega
  simp
 |succ m ih=>
  intro k h1 h2;rw[Fm];by_cases h:k<s.length
  . have e:s.drop k=s[k]::s.drop (k+1):=Zb5 h;have:=ih (k+1) (by omega) (by omega);have w:aD .i64 ((k:Int)+1)=((k+1:Nat):Int):=wrap64 (by omega) (by unfold cD at hs;omega);rw[e,Zm5];generalize (s.drop (k+1)).all _=rest at this ⊢;by_cases h3:(s[k]:Int)<97
    .   have h5:decide (97<=s[k]/\s[k]<=122)=false:=(by simp;omega);simp[h,h3,h5]
    .   by_cases h4:122<(s[k]:Int)
        .have h5:decide (97<=s[k]/\s[k]<=122)=false:=(by simp;omega);simp[h,h3,h4,h5]
        .have h5:decide (97<=s[k]/\s[k]<=122)=true:=(by simp;omega);rw[h5,Ze0, <-this];simp[h,h3,h4,w]
  .obtain rfl:k=s.length:=(by omega);simp
theorem Uh(hc:Sem c)(s:List Nat)(hs:s.length<cD)(st:St):c 184 [.str s] st=some (.bool (dY s),st):=by
 rw[RO hc (s.length+1) (r:=(.bool (dY s),st)),aq (Plain.bool _) (aV.refl st)];rw[VB];have L:∀k1 k2,nh c (s.length+1) k1 k2 (s.length+1) [.str s,.int .i64 0] st=if(s.drop 0).all (λc=>decide (97<=c/\c<=122))=true then k2 [.str s] st else k1 [.bool false] st:=
   λk1 k2=>PR (c:=c) s hs (s.length+1) st k1 k2 s.length 0 (by omega) (by omega)
 rw[Zc5]at L;have e:dY s=(decide (1<=s.length)&&decide (s.length<=12)&&s.all λc=>decide (97<=c/\c<=122)):=rfl;rw[e];generalize (s.all _)=b at L ⊢;simp[L];cases b
 .simp
 . by_cases h1:(1:Int)<=s.length
   . have h2:1<=s.length:=(by omega);by_cases h3:(s.length:Int)<=12
     .  have h4:s.length<=12:=(by omega);simp[h1,h2,h3,h4]
     .  have h4:¬s.length<=12:=(by omega);simp[h1,h2,h3,h4]
   .have h2:¬1<=s.length:=(by omega);simp[h1,h2]
def kB(s:List Nat):Bool:=decide (s=[])||dY s
theorem zX(hc:Sem c)(s:List Nat)(st:St):c 318 [.str s] st=some (.bool (kB s),st):=by
 rw[PN hc 1 (r:=(.bool (kB s),st)),aq (Plain.bool _) (aV.refl st)];rw[Uc];by_cases h:s=[]<;>simp[h,kB,zW hc]
def tA(n last:Int):List Int->Bool
 |[]=>true
 |k::l=>decide (last<k)&&decide (k<n)&&tA n k l
def lZ(t:aF):Int:=
 if dY t.name=false then 4 else if bN t=0 then 10 else if tA (bN t) (-1) t.b9=false then 11
 else if 0<=t.x/\t.x<=1000/\0<=t.y/\t.y<=1000 then 0 else 2
structure aF.Ok(t:aF):Prop where
 name:t.name.length<cD
 b9:t.b9.length<cD
theorem Ui(l:List Int)(k:Nat)(h:k<l.length):((l.map λi=>[AV.int .i64 i])[k]?.bind λcs=>cs[0]?)=some (.int .i64 l[k]):=by
 simp[Zb6,H1 h]
theorem OC(p:Pos)(n:Int)(z:Bool)(l:List Int)(hl:l.length<cD)(F:Nat)(st:St)(k1 k3):∀(m k:Nat)(last:Int),l.length<=k+m->k<=l.length->
  lu c F k1 k3 (m+1) [.ptr p 0,.int .i64 n,.int .i64 last,ints z l,.int .i64 (l.length:Int),.int .i64 (k:Int)] st=if tA n last (l.drop k)=true then k3 [.ptr p 0] st else k1 [.int .i64 11] st:=by
 intro m;induction m with
 |zero=>
  intro k last h1 h2;rw[DC];obtain rfl:k=l.length:=by omega
  simp[tA]
 |succ m ih=>
  intro k last h1 h2;rw[DC];by_cases h:k<l.length
  . have e:l.drop k=l[k]::l.drop (k+1):=Zb5 h;have:=ih (k+1) l[k] (by omega) (by omega);have w:aD .i64 ((k:Int)+1)=((k+1:Nat):Int):=wrap64 (by omega) (by unfold cD at hl;omega);have g:=Ui l k h;rw[e,tA];generalize tA n l[k] (l.drop (k+1))=rest at this ⊢;by_cases h3:l[k]<=last
    .   have h4:¬last<l[k]:=(by omega);simp[ints,h,h3,h4,g]
    .   have h4:last<l[k]:=(by omega);by_cases h5:n<=l[k]
        .have h6:¬l[k]<n:=(by omega);simp[ints,h,h3,h4,h5,h6,g]
        .have h6:l[k]<n:=(by omega);simp only[h4,h6,Zj0,Ze0];rw[<-this];simp[ints,h,h3,h4,h5,h6,g,w]
  .obtain rfl:k=l.length:=(by omega);simp[tA]
theorem Uj(hc:Sem c)(t:aF)(ht:t.Ok)(st:St)(hw:Wf st):c 129 [.agg t.cells] st=some (.int .i64 (lZ t),st):=by
 rw[PE hc (t.b9.length+1) (r:=(.int .i64 (lZ t),af st (.cells t.cells 0))),aq (Plain.int _ _) (bk hw)];rw[T7];have hs:=K7 hc t (af st (.cells t.cells 0)) (bA hw);have hn:=Uh hc t.name ht.name;have hg:(af st (.cells t.cells 0)).heap.get st.next=some (.cells t.cells 0):=aC _ _;have c0:t.cells[0]? =some (.str t.name):=rfl;have c4:t.cells[4]? =some (ints t.oz t.b9):=rfl;have c5:t.cells[5]? =some (.int .i64 t.x):=rfl;have c6:t.cells[6]? =some (.int .i64 t.y):=rfl;have cc:cut t.cells 0 7=some t.cells:=bw rfl
 have L:∀k1 k3,lu c (t.b9.length+1) k1 k3 (t.b9.length+1) [.ptr st.next 0,.int .i64 (bN t),.int .i64 (-1),ints t.oz t.b9,.int .i64 (t.b9.length:Int),.int .i64 0] (af st (.cells t.cells 0))=
     if tA (bN t) (-1) (t.b9.drop 0)=true then k3 [.ptr st.next 0] (af st (.cells t.cells 0))else k1 [.int .i64 11] (af st (.cells t.cells 0)):=
   λk1 k3=>OC st.next (bN t) t.oz t.b9 ht.b9 _ _ k1 k3 t.b9.length 0 (-1) (by omega) (by omega)
 rw[Zc5]at L;have lI:∀(K:AV->St->Option (AV×St))(s:St),ai c (.lenB .l) [ints t.oz t.b9] s K=K (.int .i64 (t.b9.length:Int)) s:=λK s=>by unfold ints;rw[bO];simp
 unfold lZ;generalize t.cells=tc at*
 generalize bN t=sz at*
 generalize tA sz (-1) t.b9=op at*
 by_cases h1:dY t.name=true
 . by_cases h2:sz=0
   .simp[AV.cells,hs,hn,hg,c0,cc,h1,h2]
   . cases op
     .  simp[AV.cells,hs,hn,hg,c0,c4,cc,h1,h2,lI,L]
     .  by_cases h3:t.x<0
        .have:¬0<=t.x:=(by omega);simp[AV.cells,hs,hn,hg,c0,c4,c5,c6,cc,h1,h2,lI,L,h3,this]
        by_cases h4:1000<t.x
        .have:¬t.x<=1000:=(by omega);simp[AV.cells,hs,hn,hg,c0,c4,c5,c6,cc,h1,h2,lI,L,h3,h4,this]
        by_cases h5:t.y<0
        .have:¬0<=t.y:=(by omega);simp[AV.cells,hs,hn,hg,c0,c4,c5,c6,cc,h1,h2,lI,L,h3,h4,h5,this]
        by_cases h6:1000<t.y
        .have:¬t.y<=1000:=(by omega);simp[AV.cells,hs,hn,hg,c0,c4,c5,c6,cc,h1,h2,lI,L,h3,h4,h5,h6,this]
        have h7:0<=t.x:=(by omega);have h8:t.x<=1000:=(by omega);have h9:0<=t.y:=(by omega);have Iu:t.y<=1000:=(by omega);simp[AV.cells,hs,hn,hg,c0,c4,c5,c6,cc,h1,h2,lI,L,h3,h4,h5,h6,h7,h8,h9,Iu]
 .simp[AV.cells,hs,hn,hg,c0,cc,h1]
theorem tP(t:aF):0<=bN t/\bN t<=1000:=by
 unfold bN;repeat' split
 all_goals omega
theorem RR(hc:Sem c)(p:Pos)(t:aF)(hl:t.b9.length<cD)(n:Int)(hn:0<=n/\n<=1000)(F:Nat)(st:St)(hp:st.heap.get p=some (.cells t.cells 0))(k1 k2):∀(m k:Nat)(last:Int),t.b9.length<=k+m->k<=t.b9.length-> -1<=last->(∀h:0<k,∀h':k - 1<t.b9.length,t.b9[k - 1]=last)->(k=0->last= -1)->
  fq c F k1 k2 (m+1) [.ptr p 0,.int .i64 n,.int .i64 (k:Int)] st=if tA n last (t.b9.drop k)=true then k2 [.ptr p 0] st else k1 [.int .i64 11] st:=by
 have c4:t.cells[4]? =some (ints t.oz t.b9):=rfl;have lI:∀(K:AV->St->Option (AV×St))(s:St),ai c (.lenB .l) [ints t.oz t.b9] s K=K (.int .i64 (t.b9.length:Int)) s:=λK s=>by unfold ints;rw[bO];simp
 intro m;induction m with
 |zero=>
  intro k last h1 h2 _ _ _;rw[sH];obtain rfl:k=t.b9.length:=by omega
  simp[tA,hp,c4,lI]
 |succ m ih=>
  intro k last h1 h2 hla aeJ hz;rw[sH];by_cases h:k<t.b9.length
  . have e:t.b9.drop k=t.b9[k]::t.b9.drop (k+1):=Zb5 h;have w:aD .i64 ((k:Int)+1)=((k+1:Nat):Int):=wrap64 (by omega) (by unfold cD at hl;omega);have wn:aD .i64 (n - 1)=n - 1:=wrap64 (by omega) (by omega);have g:=Ui t.b9 k h;rw[e,tA];by_cases h3:0<=t.b9[k]/\t.b9[k]<=n - 1
    .   have h6:t.b9[k]<n:=(by omega);have:=ih (k+1) t.b9[k] (by omega) (by omega) (by omega) (λ_ _=>by simp) (λh=>by omega);generalize tA n t.b9[k] (t.b9.drop (k+1))=rest at this ⊢;by_cases h0:k=0
        .have h4:last<t.b9[k]:=(by rw[hz h0];omega);have hk:¬0<k:=(by omega);simp only[h4,h6,Zj0,Ze0];rw[<-this];simp[hp,c4,lI,ints,h,h3,wn,dZ hc,hk,w]
        . have hk:0<k:=(by omega);have nu:k - 1<t.b9.length:=(by omega);have tH:=aeJ (by omega) nu;have wk:aD .i64 ((k:Int) - 1)=((k - 1:Nat):Int):=(by rw[wrap64 (by omega) (by unfold cD at hl;omega)];omega);by_cases h5:t.b9[k]<=last
          .have h4:¬last<t.b9[k]:=(by omega);simp[hp,c4,lI,ints,h,h3,h4,h5,wn,dZ hc,hk,nu,tH,wk]
          .have h4:last<t.b9[k]:=(by omega);simp only[h4,h6,Zj0,Ze0];rw[<-this];simp[hp,c4,lI,ints,h,h3,h5,wn,dZ hc,hk,nu,tH,wk,w]
    .   have h4:(decide (last<t.b9[k])&&decide (t.b9[k]<n))=false:=(by simp;omega);rw[h4,Bool.false_and];simp[hp,c4,lI,ints,h,h3,wn,dZ hc]
  .obtain rfl:k=t.b9.length:=(by omega);simp[tA,hp,c4,lI]
theorem VE(hc:Sem c)(t:aF)(ht:t.Ok)(st:St)(hw:Wf st):c 189 [.agg t.cells] st=some (.int .i64 (lZ t),st):=by
 rw[Ej hc (t.b9.length+1) (r:=(.int .i64 (lZ t),af st (.cells t.cells 0))),aq (Plain.int _ _) (bk hw)];rw[Hj];have hs:=xI hc t (af st (.cells t.cells 0)) (bA hw);have hn:=Hv hc t.name;have hg:(af st (.cells t.cells 0)).heap.get st.next=some (.cells t.cells 0):=aC _ _;have c0:t.cells[0]? =some (.str t.name):=rfl;have c4:t.cells[4]? =some (ints t.oz t.b9):=rfl;have c5:t.cells[5]? =some (.int .i64 t.x):=rfl;have c6:t.cells[6]? =some (.int .i64 t.y):=rfl;have cc:cut t.cells 0 7=some t.cells:=bw rfl;have hz:0<=bN t/\bN t<=1000:=tP t
 have L:∀k1 k3,fq c (t.b9.length+1) k1 k3 (t.b9.length+1) [.ptr st.next 0,.int .i64 (bN t),.int .i64 0] (af st (.cells t.cells 0))=
     if tA (bN t) (-1) (t.b9.drop 0)=true then k3 [.ptr st.next 0] (af st (.cells t.cells 0))else k1 [.int .i64 11] (af st (.cells t.cells 0)):=
   λk1 k3=>RR hc st.next t ht.b9 (bN t) hz _ _ hg k1 k3 t.b9.length 0 (-1) (by omega) (by omega) (by omega) (λh=>by omega) (λ_=>rfl)
 rw[Zc5]at L;unfold lZ;generalize t.cells=tc at*
 generalize bN t=sz at*
 generalize tA sz (-1) t.b9=op at*
 by_cases h1:dY t.name=true
 . by_cases h2:sz=0
   .simp[AV.cells,hs,hn,hg,c0,cc,h1,h2]
   . cases op
     .  simp[AV.cells,hs,hn,hg,c0,cc,h1,h2,L]
     .  by_cases h3:0<=t.x/\t.x<=1000
        . by_cases h4:0<=t.y/\t.y<=1000
          .simp[AV.cells,hs,hn,hg,c0,c5,c6,cc,h1,h2,L,h3,h4,dZ hc]
          .simp[AV.cells,hs,hn,hg,c0,c5,c6,cc,h1,h2,L,h3,h4,dZ hc]
        . have h5:¬(0<=t.x/\t.x<=1000/\0<=t.y/\t.y<=1000):=λh=>h3 ⟨h.1,h.2.1⟩
          rw[Za5 h5];simp[AV.cells,hs,hn,hg,c0,c5,cc,h1,h2,L,h3,dZ hc]
 .simp[AV.cells,hs,hn,hg,c0,cc,h1]
def scan(P:Nat->Bool):Nat->Nat->Int
 |0,_=> -1
 |m+1,k=>if P k=true then(k:Int)else scan P m (k+1)
theorem Fy(P:Nat->Bool):∀(m k:Nat),-1<=scan P m k/\(scan P m k<0->scan P m k= -1)
 |0,_=>by simp[scan]
 |m+1,k=>by
  unfold scan;split
  .omega
  .exact Fy P m (k+1)
theorem OD{P Q:Nat->Bool}:∀(m k:Nat),(∀i,k<=i->i<k+m->P i=Q i)->scan P m k=scan Q m k
 |0,_,_=>rfl
 |m+1,k,h=>by
  unfold scan;rw[h k (by omega) (by omega),OD m (k+1) λi h1 h2=>h i (by omega) (by omega)]
theorem Hw{P:Nat->Bool}:∀(m k:Nat),0<=scan P m k->k<=(scan P m k).toNat/\(scan P m k).toNat<k+m/\P (scan P m k).toNat=true
 |0,k,h=>by simp[scan]at h
 |m +1,k,h=>by
  unfold scan at h ⊢;split
  .rename_i hp;simp;exact hp
  .rename_i hp;rw[Za5 hp]at h;have:=Hw m (k+1) h;exact⟨by omega,by omega,this.2.2⟩
def tabs(z:Bool)(ts:List aF):AV:=ro 7 z (ts.map aF.cells)
@[simp] theorem aF.c0(t:aF):t.cells[0]? =some (.str t.name):=id rfl
@[simp] theorem aF.c1(t:aF):t.cells[1]? =some (.int .u8 t.sh):=id rfl
@[simp] theorem aF.c2(t:aF):t.cells[2]? =some (.int .i64 t.a):=id rfl
@[simp] theorem aF.c3(t:aF):t.cells[3]? =some (.int .i64 t.b):=id rfl
@[simp] theorem aF.c4(t:aF):t.cells[4]? =some (ints t.oz t.b9):=id rfl
@[simp] theorem aF.c5(t:aF):t.cells[5]? =some (.int .i64 t.x):=id rfl
@[simp] theorem aF.c6(t:aF):t.cells[6]? =some (.int .i64 t.y):=id rfl
@[simp] theorem aF.cc(t:aF):cut t.cells 0 7=some t.cells:=bw rfl
theorem aF.len(t:aF):t.cells.length=7:=id rfl
@[simp] theorem aF.one(t:aF):aU t.cells=true:=by unfold aF.cells;simp only[aU,abo];rfl
@[simp] theorem Ki(l:List AV):(AV.agg l).cells=l:=id rfl
def gW(ts:List aF)(s:List Nat)(i:Nat):Bool:=decide (ts[i]?.map aF.name=some s)
def cV(ts:List aF):Nat->Nat->Int×Int
 |0,_=>(0,0)
 |  m+1,k=>match ts[k]? with
    |none=>(0,0)
    |some t=>if lZ t≠0 then((k:Int),lZ t)else if 0<=scan (gW ts t.name) k 0 then((k:Int),5)else cV ts m (k+1)
def bh(ts:List aF):Int×Int:=if 16<ts.length then(0,7)else cV ts ts.length 0
theorem Hx(ts:List aF):∀(m m' k:Nat),ts.length<=k+m->ts.length<=k+m'->cV ts m k=cV ts m' k
 |0,0,_,_,_=>rfl
 |0,m'+1,k,h,_=>by rw[cV,cV,Zb4 (by omega)]
 |m+1,0,k,_,h=>by rw[cV,cV,Zb4 (by omega)]
 |m+1,m'+1,k,h,h'=>by
  rw[cV,cV,Hx ts m m' (k+1) (by omega) (by omega)]
theorem Hy(ts:List aF):∀(m k:Nat),(cV ts m k).2=0->(cV ts m k).1=0
 |0,_,_=>rfl
 |m +   1,k,h=>by
  rw[cV]at h ⊢;split at h
  .rfl
  . split at h
    .   rename_i c9;exact absurd h c9
    .   split at h
        .simp at h
        .rename_i h1 h2;rw[Za5 h1,Za5 h2];exact Hy ts m (k+1) h
theorem PT(z:Bool)(ts:List aF)(k:Nat)(hk:k<ts.length)(hl:ts.length<=16)(F:Nat)(st:St)(k1 k4):∀(m j:Nat),k<=j+m->j<=k->
  dh c F k1 k4 (m+1) [tabs z ts,.int .i64 (k:Int),.int .i64 (j:Int)] st=if 0<=scan (gW ts ts[k].name) (k - j) j then k1 [.int .i64 (k:Int),.int .i64 5] st else k4 [tabs z ts,.int .i64 (k:Int)] st:=by
 intro m;induction m with
 |zero=>
  intro j h1 h2;obtain rfl:j=k:=by omega
  rw[pE];simp[scan]
 |succ m ih=>
  intro j h1 h2;rw[pE];by_cases h:j<k
  . have hj:j<ts.length:=(by omega);have e:k - j=(k - (j+1))+1:=(by omega);have w:aD .i64 ((j:Int)+1)=((j+1:Nat):Int):=wrap64 (by omega) (by omega);rw[e,scan];by_cases h3:ts[j].name=ts[k].name
    .   have:gW ts ts[k].name j=true:=(by simp[gW,hj,h3]);rw[Za6 this];simp[tabs,h,hj,hk,h3]
    .   have:¬gW ts ts[k].name j=true:=(by simp[gW,hj,h3]);rw[Za5 this, <-ih (j+1) (by omega) (by omega)];simp[tabs,h,hj,hk,h3,w]
  .obtain rfl:j=k:=(by omega);simp[scan]
theorem OE(hc:Sem c)(z:Bool)(ts:List aF)(ct:∀t∈ts,t.Ok)(hl:ts.length<=16)(st:St)(hw:Wf st)(k1 k2):∀(m k:Nat),ts.length<=k+m->k<=ts.length->
  ej c 20 k1 k2 (m+1) [tabs z ts,.int .i64 (k:Int)] st=if(cV ts m k).2=0 then k2 [] st else k1 [.int .i64 (cV ts m k).1,.int .i64 (cV ts m k).2] st:=by
 intro m;induction m with
 |zero=>
  intro k h1 h2;obtain rfl:k=ts.length:=by omega
  rw[pF];simp[cV,tabs]
 |succ m ih=>
  intro k h1 h2;rw[pF];by_cases h:k<ts.length
  . have w:aD .i64 ((k:Int)+1)=((k+1:Nat):Int):=wrap64 (by omega) (by omega);have hch:=VE hc ts[k] (ct _ (Zc0 h)) st hw;have L:∀k1 k4,dh c 20 k1 k4 20 [tabs z ts,.int .i64 (k:Int),.int .i64 0] st=if 0<=scan (gW ts ts[k].name) (k - 0) 0 then k1 [.int .i64 (k:Int),.int .i64 5] st else k4 [tabs z ts,.int .i64 (k:Int)] st:=
        λk1 k4=>PT z ts k h hl 20 st k1 k4 19 0 (by omega) (by omega)
    rw[Zl1]at L;rw[cV,H1 h];simp only;by_cases h3:lZ ts[k]=0
    .   by_cases h4:0<=scan (gW ts ts[k].name) k 0
        .simp[tabs,h,hch,h3,h4]at L ⊢;rw[L];simp
        .have:=ih (k+1) (by omega) (by omega);simp[tabs,h,hch,h3,h4]at L this ⊢;rw[L];simp[w,this]
    .   simp[tabs,h,hch,h3]
  .obtain rfl:k=ts.length:=(by omega);simp[cV,tabs]
theorem PU(hc:Sem c)(z:Bool)(ts:List aF)(ct:∀t∈ts,t.Ok)(st:St)(hw:Wf st):c 136 [tabs z ts] st=some (.tuple [.int .i64 (bh ts).1,.int .i64 (bh ts).2],st):=by
 rw[AQ hc 20 (r:=(.tuple [.int .i64 (bh ts).1,.int .i64 (bh ts).2],st)),aq (Plain.tuple (by simp[Plain.int])) (aV.refl st)];rw[CO];by_cases h:16<ts.length
 .have hi:(16:Int)<ts.length:=(by omega);simp[tabs,bh,h,hi]
 . have hi:¬(16:Int)<ts.length:=(by omega);have L:∀k1 k2,ej c 20 k1 k2 20 [tabs z ts,.int .i64 0] st=if(cV ts 19 0).2=0 then k2 [] st else k1 [.int .i64 (cV ts 19 0).1,.int .i64 (cV ts 19 0).2] st:=
     λk1 k2=>OE hc z ts ct (by omega) st hw k1 k2 19 0 (by omega) (by omega)
   have e:bh ts=cV ts 19 0:=(by rw[bh,Za5 h];exact Hx ts _ _ 0 (by omega) (by omega));rw[e];simp[tabs,hi]at L ⊢;rw[L];by_cases h2:(cV ts 19 0).2=0
   .have:=Hy ts 19 0 h2;simp[h2,this]
   .simp[h2]
theorem Uk(hc:Sem c)(x t:aF)(p:Pos)(st:St)(hw:Wf st)(hp:st.heap.get p=some (.cells t.cells 0)):c 197 [.agg x.cells,.ptr p 0] st=some (.bool (decide (x.name=t.name)),st):=by
 rw[IL hc 1 (r:=(.bool (decide (x.name=t.name)),af st (.cells x.cells 0))),aq (Plain.bool _) (bk hw)];rw[Lg];have:(af st (.cells x.cells 0)).heap.get p=some (.cells t.cells 0):=bk hw _ _ hp;simp[this]
theorem abp(hc:Sem c)(x:aF)(s:List Nat)(p:Pos)(st:St)(hw:Wf st)(hp:st.heap.get p=some (.cells [.str s] 0)):c 216 [.agg x.cells,.ptr p 0] st=some (.bool (decide (x.name=s)),st):=by
 rw[Oy hc 1 (r:=(.bool (decide (x.name=s)),af st (.cells x.cells 0))),aq (Plain.bool _) (bk hw)];rw[RI];have:(af st (.cells x.cells 0)).heap.get p=some (.cells [.str s] 0):=bk hw _ _ hp;simp[this]
theorem ZE(z:Bool)(rs:List (List AV))(hl:rs.length<cD)(cX:∀cs∈rs,cs.length=7)(g:Nat)(v:List AV)(P:Nat->Bool)(st:St)(F:Nat)(k1 k2)
  (hP:∀i (h:i<rs.length),c g (.agg rs[i]::v) st=some (.bool (P i),st)):∀(m k:Nat),rs.length<=k+m->k<=rs.length->
  bM c F k1 k2 (m+1) [ro 7 z rs,.func g [] v,.int .i64 (rs.length:Int),.int .i64 (k:Int)] st=if 0<=scan P (rs.length - k) k then k1 [.int .i64 (scan P (rs.length - k) k)] st else k2 [] st:=by
 intro m;induction m with
 |zero=>
  intro k h1 h2;obtain rfl:k=rs.length:=by omega
  rw[ij];simp[scan]
 |succ m ih=>
  intro k h1 h2;rw[ij];by_cases h:k<rs.length
  . have e:rs.length - k=(rs.length - (k+1))+1:=(by omega);have w:aD .i64 ((k:Int)+1)=((k+1:Nat):Int):=wrap64 (by omega) (by unfold cD at hl;omega);have hcut:cut rs[k] 0 7=some rs[k]:=bw (cX _ (Zc0 h));have hp:=hP k h;rw[e,scan];cases hb:P k
    .   simp only[Zd4,Zd7];rw[<-ih (k+1) (by omega) (by omega)];simp[h,hcut,hp,hb,w]
    .   simp[h,hcut,hp,hb]
  .obtain rfl:k=rs.length:=(by omega);simp[scan]
theorem WD(hc:Sem c)(z:Bool)(rs:List (List AV))(hl:rs.length<cD)(cX:∀cs∈rs,cs.length=7)(g:Nat)(v:List AV)(P:Nat->Bool)(st:St)
   (hP:∀i (h:i<rs.length),c g (.agg rs[i]::v) st=some (.bool (P i),st)):c 215 [ro 7 z rs,.func g [] v] st=some (.int .i64 (scan P rs.length 0),st):=by
 rw[oI hc (rs.length+1) (r:=(.int .i64 (scan P rs.length 0),st)),aq (Plain.int _ _) (aV.refl st)];rw[pW];have L:∀k1 k2,bM c (rs.length+1) k1 k2 (rs.length+1) [ro 7 z rs,.func g [] v,.int .i64 (rs.length:Int),.int .i64 0] st=if 0<=scan P (rs.length - 0) 0 then k1 [.int .i64 (scan P (rs.length - 0) 0)] st else k2 [] st:=
   λk1 k2=>ZE z rs hl cX g v P st _ k1 k2 hP rs.length 0 (by omega) (by omega)
 rw[Zl1]at L;by_cases h:0<=scan P rs.length 0
 .simp[L,h]
 .have:=(Fy P rs.length 0).2 (by omega);simp[L,this]
theorem Ul(hc:Sem c)(z:Bool)(rs:List (List AV))(hl:rs.length<cD)(cX:∀cs∈rs,cs.length=7)(g:Nat)(v:List AV)(P:Nat->Bool)(st:St)
  (hP:∀i (h:i<rs.length),c g (.agg rs[i]::v) st=some (.bool (P i),st)):c 196 [ro 7 z rs,.func g [] v] st=some (.bool (decide (0<=scan P rs.length 0)),st):=by
 rw[mL hc 1 (r:=(.bool (decide (0<=scan P rs.length 0)),st)),aq (Plain.bool _) (aV.refl st)];rw[nP];simp[WD hc z rs hl cX g v P st hP]
theorem RS(hc:Sem c)(z:Bool)(ts:List aF)(ct:∀t∈ts,t.Ok)(hl:ts.length<=16)(F:Nat)(k1 k2):∀(m k:Nat)(st:St),Wf st->ts.length<=k+m->k<=ts.length->
  ∃st',Grew st st'/\kA c F k1 k2 (m+1) [tabs z ts,tabs z ts,.int .i64 (ts.length:Int),.int .i64 (k:Int)] st=if(cV ts m k).2=0 then k2 [] st' else k1 [.int .i64 (cV ts m k).1,.int .i64 (cV ts m k).2] st':=by
 intro m;induction m with
 |zero=>
  intro k st hw h1 h2;obtain rfl:k=ts.length:=by omega
  refine⟨st,Grew.refl hw,?_⟩;rw[qW];simp[cV,tabs]
 |succ m ih=>
  intro k st hw h1 h2;by_cases h:k<ts.length
  . have w:aD .i64 ((k:Int)+1)=((k+1:Nat):Int):=wrap64 (by omega) (by omega);have bR:Wf (af st (.cells ts[k].cells 0)):=bA hw;have hg:=Grew.af hw (.cells ts[k].cells 0);have hch:=Uj hc ts[k] (ct _ (Zc0 h)) _ bR;have ZF:=Ul hc (z&&(ts.map aF.cells).isEmpty) ((ts.map aF.cells).take k) (by simp[cD];omega) (λcs e8=>by
          have:=List.mem_of_mem_take e8;simp only[Zf3]at this;obtain⟨t,_,rfl⟩:=this;rfl) 197 [.ptr st.next 0] (gW ts ts[k].name) (af st (.cells ts[k].cells 0)) (λi hi=>by
          have yf:i<k:=(by simp at hi;omega);have ZG:i<ts.length:=(by omega);have:=Uk hc ts[i] ts[k] st.next (af st (.cells ts[k].cells 0)) bR (aC _ _);simp only[Zk0,Zm2];rw[this];simp[gW,ZG])
    have hlen:((ts.map aF.cells).take k).length=k:=(by simp;omega);rw[hlen]at ZF;rw[qW,cV,H1 h];simp only;by_cases h3:lZ ts[k]=0
    .   by_cases h4:0<=scan (gW ts ts[k].name) k 0
        .refine⟨_,hg,?_⟩;have mU:k<=ts.length:=(by omega);simp only[tabs,List.isEmpty_map]at ZF ⊢;simp[h,hch,h3,h4,mU,ZF,aF.len]
        .obtain⟨st',g1,g2⟩:=ih (k+1) _ bR (by omega) (by omega);refine⟨st',hg.trans g1,?_⟩;have mU:k<=ts.length:=(by omega);have e3:¬lZ ts[k]≠0:=(by rw[h3];simp);simp only[e3,h4,Zd7];rw[<-g2];simp only[tabs,List.isEmpty_map]at ZF ⊢;simp[h,hch,h3,h4,mU,ZF,w,aF.len]
    .   refine⟨_,hg,?_⟩;simp[tabs,h,hch,h3,aF.len]
  .obtain rfl:k=ts.length:=(by omega);refine⟨st,Grew.refl hw,?_⟩;rw[qW];simp[cV,tabs]
theorem Ma(hc:Sem c)(z:Bool)(ts:List aF)(ct:∀t∈ts,t.Ok)(st:St)(hw:Wf st):c 148 [tabs z ts] st=some (.tuple [.int .i64 (bh ts).1,.int .i64 (bh ts).2],st):=by
 have mT:Plain (.tuple [.int .i64 (bh ts).1,.int .i64 (bh ts).2]):=Plain.tuple (by simp[Plain.int]);by_cases h:16<ts.length
 .rw[AE hc 20 (r:=(.tuple [.int .i64 (bh ts).1,.int .i64 (bh ts).2],st)),aq mT (aV.refl st)];rw[DE];have hi:(16:Int)<ts.length:=(by omega);simp[tabs,bh,h,hi]
 . have hi:¬(16:Int)<ts.length:=(by omega);have e:bh ts=cV ts 19 0:=(by rw[bh,Za5 h];exact Hx ts _ _ 0 (by omega) (by omega));have hex:=λk1 k2=>RS hc z ts ct (by omega) 20 k1 k2 19 0 st hw (by omega) (by omega)
   obtain⟨st',hg,L⟩:=hex (λvs s36=>dW vs λx2 vs=>dW vs λx3 vs=>fP vs (some (.tuple [x2,x3],s36))) (λvs s37=>fP vs (
     ai c .move [(.int .i64 0)] s37 λx2 s38=>ai c .move [(.int .i64 0)] s38 λx3 s39=>some (.tuple [x2,x3],s39)))
   rw[AE hc 20 (r:=(.tuple [.int .i64 (bh ts).1,.int .i64 (bh ts).2],st')),aq mT hg.keeps];rw[DE,e];simp only[tabs]at L;simp[tabs,hi]at L ⊢;rw[L];by_cases h2:(cV ts 19 0).2=0
   .have:=Hy ts 19 0 h2;simp[h2,this]
   .simp[h2]
def aW(ts:List aF):Int:=(ts.map bN).sum
theorem uX(ts:List aF):0<=aW ts/\aW ts<=1000*ts.length:=by
 induction ts with
 |nil=>simp[aW]
 |cons t ts ih=>
  have:=tP t;simp only[aW,Zb1,List.sum_cons,Ze3]at ih ⊢;omega
theorem AS(ts:List aF)(t:aF):aW (ts++[t])=aW ts+bN t:=by simp[aW]
def uE(ts:List aF)(t:Int):Int:=if t<0\/(ts.length:Int)<=t\/(bh ts).2≠0 then 0 else aW (ts.take t.toNat)
theorem MY(hc:Sem c)(z:Bool)(ts:List aF)(ct:∀t∈ts,t.Ok)(st:St)(hw:Wf st):c 116 [tabs z ts] st=some (.bool (decide ((bh ts).2=0)),st):=by
 rw[Pz hc 1 (r:=(.bool (decide ((bh ts).2=0)),st)),aq (Plain.bool _) (aV.refl st)];rw[TY];simp[Ma hc z ts ct st hw]
theorem Q8{ts:List aF}(h:(bh ts).2=0):ts.length<=16:=by
 unfold bh at h;split at h
 .simp at h
 .omega
theorem XX(hc:Sem c)(z:Bool)(ts:List aF)(hl:ts.length<=16)(F:Nat)(k2):∀(m k:Nat)(st:St),Wf st->ts.length<=k+m->k<=ts.length->
  ∃st',Grew st st'/\pz c F k2 (m+1) [.int .i64 (aW (ts.take k)),tabs z ts,.int .i64 (ts.length:Int),.int .i64 (k:Int)] st=k2 [.int .i64 (aW ts)] st':=by
 intro m;induction m with
 |zero=>
  intro k st hw h1 h2;obtain rfl:k=ts.length:=by omega
  refine⟨st,Grew.refl hw,?_⟩;rw[wX];simp
 |succ m ih=>
  intro k st hw h1 h2;by_cases h:k<ts.length
  . have w:aD .i64 ((k:Int)+1)=((k+1:Nat):Int):=wrap64 (by omega) (by omega);have bR:Wf (af st (.cells ts[k].cells 0)):=bA hw;have hg:=Grew.af hw (.cells ts[k].cells 0);have hs:=K7 hc ts[k] _ bR;have e:aW (ts.take (k+1))=aW (ts.take k)+bN ts[k]:=by
        rw[Zb2 h,AS]
    have b1:=uX (ts.take k);have b2:=tP ts[k];have b3:(ts.take k).length<=16:=(by simp;omega);have w2:aD .i64 (aW (ts.take k)+bN ts[k])=aW (ts.take (k+1)):=(by rw[e];exact wrap64 (by omega) (by omega));obtain⟨st',g1,g2⟩:=ih (k+1) _ bR (by omega) (by omega);refine⟨st',hg.trans g1,?_⟩;rw[<-g2,wX];simp[tabs,h,hs,w,w2,aF.len]
  .obtain rfl:k=ts.length:=(by omega);refine⟨st,Grew.refl hw,?_⟩;rw[wX];simp
theorem Um(hc:Sem c)(z:Bool)(ts:List aF)(ct:∀t∈ts,t.Ok)(k:Int)(st:St)(hw:Wf st):c 86 [tabs z ts,.int .i64 k] st=some (.int .i64 (uE ts k),st):=by
 have lT:∀(K:AV->St->Option (AV×St))(s:St),ai c (.lenB .l) [tabs z ts] s K=K (.int .i64 (ts.length:Int)) s:=λK s=>by unfold tabs;rw[bO];simp
 have hv:=MY hc z ts ct st hw;by_cases h:k<0\/(ts.length:Int)<=k\/(bh ts).2≠0
 . have e:uE ts k=0:=(by rw[uE,Za6 h]);rw[Fu hc 1 (r:=(.int .i64 (uE ts k),st)),aq (Plain.int _ _) (aV.refl st)];rw[JP,e];by_cases h1:k<0
   .simp[h1]
   . by_cases h2:(ts.length:Int)<=k
     .  simp[h1,h2,lT]
     .  have h3:(bh ts).2≠0:=h.resolve_left h1 |>.resolve_left h2;simp[h1,h2,h3,lT,hv]
 . have e:uE ts k=aW (ts.take k.toNat):=(by rw[uE,Za5 h]);have h1:¬k<0:=λe=>h (.inl e)
   have h2:¬(ts.length:Int)<=k:=λe=>h (.inr (.inl e))
   have h3:(bh ts).2=0:=Zi6 λe=>h (.inr (.inr e))
   have hl:=Q8 h3;obtain⟨n,rfl⟩:∃n:Nat,k=(n:Int):=⟨k.toNat,by omega⟩
   have hn:n<=ts.length:=(by omega);have hex:=λk2=>XX hc (z&&ts.isEmpty) (ts.take n) (by simp;omega) 20 k2 19 0 st hw (by simp;omega) (by omega)
   obtain⟨st',hg,L⟩:=hex (λvs Uo=>dW vs λx5 vs=>fP vs (ai c .move [x5] Uo λx34 Up=>ai c .move [x34] Up λx4 Uq=>some (x4,Uq)));rw[Fu hc 20 (r:=(.int .i64 (uE ts (n:Int)),st')),aq (Plain.int _ _) hg.keeps];rw[JP,e];have h4:¬ts.length<=n:=(by omega);have hm:min n ts.length=n:=(by omega);simp[tabs,aW,hm]at L;simp[h1,h4,h3,lT,hv];simp[tabs,hn,hm,aW,L]
theorem VF(hc:Sem c)(z:Bool)(ts:List aF)(hl:ts.length<=16)(st:St)(hw:Wf st):c 117 [tabs z ts] st=some (.int .i64 (if h:0<ts.length then bN (ts[ts.length - 1]'(by omega))else 0),st):=by
 rw[Ll hc 1 (r:=(.int .i64 (if h:0<ts.length then bN (ts[ts.length - 1]'(by omega))else 0),st)),aq (Plain.int _ _) (aV.refl st)];rw[Ot];by_cases h:0<ts.length
 . have h1:¬(ts.length:Int)=0:=(by omega);have h2:ts≠[]:=λe=>by subst e;simp at h
   have w:aD .i64 ((ts.length:Int) - 1)=((ts.length - 1:Nat):Int):=(by rw[wrap64 (by omega) (by omega)];omega);have h3:ts.length - 1<ts.length:=(by omega);have hs:=K7 hc (ts[ts.length - 1]'(by omega)) st hw;simp[tabs,h,h1,h2,w,h3,hs]
 .have h1:ts=[]:=Za7 (by omega);subst h1;simp[tabs]
theorem ZH{ts:List aF}(hv:(bh ts).2=0):uE ts ((ts.length:Int) - 1)+(if h:0<ts.length then bN (ts[ts.length - 1]'(by omega))else 0)=aW ts:=by
 by_cases h:0<ts.length
 .rw[dif_pos h,uE,Za5 (by simp[hv];omega)];have e:((ts.length:Int) - 1).toNat=ts.length - 1:=(by omega);rw[e, <-AS, <-Zb2 (by omega)];rw[show ts.length - 1+1=ts.length by omega,Zk4]
 .have h1:ts=[]:=Za7 (by omega);subst h1;simp[uE,aW]
theorem yN(hc:Sem c)(z:Bool)(ts:List aF)(ct:∀t∈ts,t.Ok)(st:St)(hw:Wf st):c 72 [tabs z ts] st=some (.int .i64 (if(bh ts).2=0 then aW ts else 0),st):=by
 rw[Py hc 1 (r:=(.int .i64 (if(bh ts).2=0 then aW ts else 0),st)),aq (Plain.int _ _) (aV.refl st)];rw[TX];have lT:∀(K:AV->St->Option (AV×St))(s:St),ai c (.lenB .l) [tabs z ts] s K=K (.int .i64 (ts.length:Int)) s:=λK s=>by unfold tabs;rw[bO];simp
 have hv:=MY hc z ts ct st hw;by_cases h:(bh ts).2=0
 .have hl:=Q8 h;have w:aD .i64 ((ts.length:Int) - 1)=(ts.length:Int) - 1:=wrap64 (by omega) (by omega);have hf:=Um hc z ts ct ((ts.length:Int) - 1) st hw;have hla:=VF hc z ts hl st hw;have b:=uX ts;have e:=ZH h;rw[Za6 h, <-e];rw[<-e]at b;generalize uE ts ((ts.length:Int) - 1)=x at hf b ⊢;generalize (if h:0<ts.length then bN (ts[ts.length - 1]'(by omega))else 0)=y at hla b ⊢;have w2:aD .i64 (x+y)=x+y:=wrap64 (by omega) (by omega);simp[hv,h,lT,w,hf,hla,w2]
 .simp[hv,h]
theorem acU(hc:Sem c)(z:Bool)(ts:List aF)(ct:∀t∈ts,t.Ok)(hl:ts.length<cD)(s:List Nat)(st:St)(hw:Wf st):c 172 [tabs z ts,.str s] st=
   some (.tuple [.int .i64 (if 0<=scan (gW ts s) ts.length 0/\(bh ts).2=0 then scan (gW ts s) ts.length 0 else 0),.bool (decide (0<=scan (gW ts s) ts.length 0/\(bh ts).2=0))],st):=by
 rw[RN hc 1 (r:=(.tuple [.int .i64 (if 0<=scan (gW ts s) ts.length 0/\(bh ts).2=0 then scan (gW ts s) ts.length 0 else 0),.bool (decide (0<=scan (gW ts s) ts.length 0/\(bh ts).2=0))],af st (.cells [.str s] 0))),
   aq (Plain.tuple (by simp[Plain.int,Plain.bool])) (bk hw)]
 rw[VA];have bR:Wf (af st (.cells [.str s] 0)):=bA hw;have hi:=WD hc z (ts.map aF.cells) (by simpa using hl) (λcs e8=>by
     simp only[Zf3]at e8;obtain⟨t,_,rfl⟩:=e8;rfl) 216 [.ptr st.next 0] (gW ts s) (af st (.cells [.str s] 0)) (λi hi=>by
     have ZG:i<ts.length:=(by simpa using hi);have:=abp hc ts[i] s st.next (af st (.cells [.str s] 0)) bR (aC _ _);simp only[Zm2];rw[this];simp[gW,ZG])
 rw[Zb3]at hi;have hv:=MY hc z ts ct _ bR;simp only[tabs]at hv ⊢;have e:(AV.str s).cells=[.str s]:=rfl;by_cases h1:0<=scan (gW ts s) ts.length 0
 . have h2:¬scan (gW ts s) ts.length 0<0:=(by omega);by_cases h3:(bh ts).2=0
   .simp[e,hi,h1,h2,h3,hv]
   .simp[e,hi,h1,h2,h3,hv]
 .have h2:scan (gW ts s) ts.length 0<0:=(by omega);simp[e,hi,h1,h2]
structure aI where
 name:List Nat
 kP:List Nat
 iV:List Nat
 since:Int
 side:Int
 kQ:List Nat
 host:Bool
 access:Bool
 tz:Bool
 tg:List (List Nat)
def dL(z:Bool)(l:List (List Nat)):AV:=ro 1 z (l.map λs=>[.str s])
def aI.cells(g:aI):List AV:=[.str g.name,.str g.kP,.str g.iV,.int .i64 g.since,.int .i64 g.side,.str g.kQ,.bool g.host,.bool g.access,dL g.tz g.tg]
@[simp] theorem abq(z:Bool)(l:List (List Nat)):(dL z l).one=true:=Zl _ _ _
@[simp] theorem afb{R:Type}(c:ah)(K:AV->St->Option R)(st:St)(z:Bool)(l:List (List Nat)):ai c (.lenB .l) [dL z l] st K=K (.int .i64 (l.length:Int)) st:=by unfold dL;rw[bO];simp
@[simp] theorem afc{R:Type}(c:ah)(K:AV->St->Option R)(st:St)(z:Bool)(l:List Int):ai c (.lenB .l) [ints z l] st K=K (.int .i64 (l.length:Int)) st:=by unfold ints;rw[bO];simp
@[simp] theorem aI.c0(t:aI):t.cells[0]? =some (.str t.name):=id rfl
@[simp] theorem aI.c1(t:aI):t.cells[1]? =some (.str t.kP):=id rfl
@[simp] theorem aI.c2(t:aI):t.cells[2]? =some (.str t.iV):=id rfl
@[simp] theorem aI.c3(t:aI):t.cells[3]? =some (.int .i64 t.since):=id rfl
@[simp] theorem aI.c4(t:aI):t.cells[4]? =some (.int .i64 t.side):=id rfl
@[simp] theorem aI.c5(t:aI):t.cells[5]? =some (.str t.kQ):=id rfl
@[simp] theorem aI.c6(t:aI):t.cells[6]? =some (.bool t.host):=id rfl
@[simp] theorem aI.c7(t:aI):t.cells[7]? =some (.bool t.access):=id rfl
@[simp] theorem aI.c8(t:aI):t.cells[8]? =some (dL t.tz t.tg):=id rfl
@[simp] theorem aI.cc(t:aI):cut t.cells 0 9=some t.cells:=bw rfl
theorem aI.len(t:aI):t.cells.length=9:=id rfl
@[simp] theorem aI.one(t:aI):aU t.cells=true:=by unfold aI.cells;simp only[aU,abq];rfl
def bg(z:Bool)(gs:List aI):AV:=ro 9 z (gs.map aI.cells)
@[simp] theorem abr{R:Type}(c:ah)(K:AV->St->Option R)(st:St)(z:Bool)(l:List aI):ai c (.lenB .l) [bg z l] st K=K (.int .i64 (l.length:Int)) st:=by unfold bg;rw[bO];simp
def aft(last:Option (List Nat))(s:List Nat):Bool:=match last with
 |none=>true
 |some p=>aA p s
@[simp] theorem Ur(s:List Nat):aft none s=true:=id rfl
@[simp] theorem Us(p s:List Nat):aft (some p) s=aA p s:=id rfl
def AG(last:Option (List Nat)):List (List Nat)->Bool
 |[]=>true
 |s::l=>dY s&&aft last s&&AG (some s) l
theorem Ut(last:Option (List Nat))(s:List Nat)(l:List (List Nat)):AG last (s::l)=(dY s&&aft last s&&AG (some s) l):=rfl
def eT(g:aI):Int:=
 if(dY g.name&&kB g.kP&&kB g.iV&&kB g.kQ)=false then 4 else if ¬(0<=g.since/\g.since<=9999)then 21 else if ¬(0<=g.side/\g.side<=2)then 20
 else if 4<g.tg.length then 22 else if AG none g.tg=false then 22 else 0
theorem q8:∀(a:List Nat),aA a a=false
 |[]=>rfl
 |x::a=>by
  unfold aA;simp[AO,ee,q8 a]
theorem DK:∀(a b:List Nat),aA a b=true->aA b a=false
 |[],[],h=>by simp[aA]at h
 |[],_::_,_=>rfl
 |_::_,[],h=>by simp[aA]at h
 |x ::a,y::b,h=>by
  unfold aA at h ⊢;simp only[AO,ee]at h ⊢;by_cases h1:x<y
  .have:¬y<x:=(by omega);have h3:¬y=x:=(by omega);simp[this,h3]
  . by_cases h2:x=y
    .subst h2;simp at h ⊢; exact DK a b h
    .simp[h1,h2]at h
theorem xJ:∀(a b:List Nat),aA a b=false->aA b a=false->a=b
 |[],[],_,_=>rfl
 |[],_::_,h,_=>by simp[aA]at h
 |_::_,[],_,h=>by simp[aA]at h
 |x ::a,y::b,h,k=>by
  unfold aA at h k;simp only[AO,ee]at h k;by_cases h1:x<y
  .simp[h1]at h
  . by_cases h2:y<x
    .   simp[h2]at k
    .   have:x=y:=(by omega);subst this;simp at h k;rw[xJ a b h k]
theorem Hz:∀(a b d:List Nat),aA a b=true->aA b d=true->aA a d=true
 |_,[],[],_,h=>by simp[aA]at h
 |_,_::_,[],_,h=>by simp[aA]at h
 |[],_,_::_,_,_=>rfl
 |_::_,[],_::_,h,_=>by simp[aA]at h
 |x ::a   ,y::b,z::d,h,k=>by
  unfold aA at h k ⊢;simp only[AO,ee]at h k ⊢;by_cases h1:x<y
  . by_cases h2:y<z
    .   have:x<z:=(by omega);simp[this]
    .   by_cases h3:y=z
        .subst h3;simp[h1]
        .simp[h2,h3]at k
  . by_cases h2:x=y
    .   subst h2;simp at h;by_cases h4:x<z
        .simp[h4]
        . by_cases h5:x=z
          .subst h5;simp at k ⊢; exact Hz a b d h k
          .simp[h4,h5]at k
    .   simp[h1,h2]at h
theorem MZ(hc:Sem c)(p:Pos)(g:aI)(hl:g.tg.length<=4)(F:Nat)(st:St)(hp:st.heap.get p=some (.cells g.cells 0))(k1 k3):∀(m k:Nat),g.tg.length<=k+m->k<=g.tg.length->
  j4 c F k1 k3 (m+1) [.ptr p 0,dL g.tz g.tg,.int .i64 (g.tg.length:Int),.int .i64 (k:Int)] st=if AG (if k=0 then none else g.tg[k - 1]?) (g.tg.drop k)=true then k3 [] st else k1 [.int .i64 22] st:=by
 intro m;induction m with
 |zero=>
  intro k h1 h2;rw[Ce];obtain rfl:k=g.tg.length:=by omega
  simp[AG]
 |succ m ih=>
  intro k h1 h2;rw[Ce];by_cases h:k<g.tg.length
  . have e:g.tg.drop k=g.tg[k]::g.tg.drop (k+1):=Zb5 h;have w:aD .i64 ((k:Int)+1)=((k+1:Nat):Int):=wrap64 (by omega) (by omega);have hn:=zW hc g.tg[k] st;have:=ih (k+1) (by omega) (by omega);have e2:(if k+1=0 then none else g.tg[k+1 - 1]?)=some g.tg[k]:=(by rw[Za5 (by omega),Ze1,H1 h]);rw[e2]at this;rw[e,Ut];generalize AG (some g.tg[k]) (g.tg.drop (k+1))=rest at this ⊢;by_cases h3:dY g.tg[k]=true
    .   by_cases h0:k=0
        .have hk:¬0<k:=(by omega);simp only[h3,Za6 h0,Ze0,Ur];rw[<-this];simp[dL,h,hn,h3,hk,w]
        . have hk:0<k:=(by omega);have nu:k - 1<g.tg.length:=(by omega);have wk:aD .i64 ((k:Int) - 1)=((k - 1:Nat):Int):=(by rw[wrap64 (by omega) (by omega)];omega);simp only[h3,Za5 h0,H1 nu,Ze0,Us];cases hb:aA g.tg[k - 1] g.tg[k]
          .simp[dL,h,hn,h3,hk,nu,wk,hp,hb]
          .simp only[Ze0];rw[<-this];simp[dL,h,hn,h3,hk,nu,wk,hp,hb,w]
    .   simp[dL,h,hn,h3]
  .obtain rfl:k=g.tg.length:=(by omega);simp[AG]
theorem PV(hc:Sem c)(g:aI)(st:St)(hw:Wf st):c 298 [.agg g.cells] st=some (.int .i64 (eT g),st):=by
 rw[OA hc 6 (r:=(.int .i64 (eT g),af st (.cells g.cells 0))),aq (Plain.int _ _) (bk hw)];rw[RK];have n0:=zW hc g.name;have n1:=zX hc g.kP;have n2:=zX hc g.iV;have n5:=zX hc g.kQ;by_cases hn:(dY g.name&&kB g.kP&&kB g.iV&&kB g.kQ)=true
 . have Uu:=hn;simp only[Za4]at Uu;obtain⟨⟨⟨b0,b1⟩,b2⟩,b5⟩:=Uu;unfold eT;rw[hn];by_cases h1:g.since<0
   .have:¬(0<=g.since/\g.since<=9999):=(by omega);simp[n0,n1,n2,n5,b0,b1,b2,b5,h1,this]
   by_cases h2:9999<g.since
   .have:¬(0<=g.since/\g.since<=9999):=(by omega);simp[n0,n1,n2,n5,b0,b1,b2,b5,h1,h2,this]
   have h3:0<=g.since/\g.since<=9999:=(by omega);by_cases h4:g.side<0
   .have:¬(0<=g.side/\g.side<=2):=(by omega);simp[n0,n1,n2,n5,b0,b1,b2,b5,h1,h2,h3,h4,this]
   by_cases h5:2<g.side
   .have:¬(0<=g.side/\g.side<=2):=(by omega);simp[n0,n1,n2,n5,b0,b1,b2,b5,h1,h2,h3,h4,h5,this]
   have h6:0<=g.side/\g.side<=2:=(by omega);by_cases h7:4<g.tg.length
   .have h8:(4:Int)<g.tg.length:=(by omega);simp[n0,n1,n2,n5,b0,b1,b2,b5,h1,h2,h3,h4,h5,h6,h7,h8]
   . have h8:¬(4:Int)<g.tg.length:=(by omega);have L:∀k1 k3,j4 c 6 k1 k3 6 [.ptr st.next 0,dL g.tz g.tg,.int .i64 (g.tg.length:Int),.int .i64 0] (af st (.cells g.cells 0))=if AG none (g.tg.drop 0)=true then k3 [] (af st (.cells g.cells 0))else k1 [.int .i64 22] (af st (.cells g.cells 0)):=
        λk1 k3=>MZ hc st.next g (by omega) 6 _ (aC _ _) k1 k3 5 0 (by omega) (by omega)
     rw[Zc5]at L;generalize AG none g.tg=b at L ⊢;cases b<;>simp[n0,n1,n2,n5,b0,b1,b2,b5,h1,h2,h3,h4,h5,h6,h7,h8,L]
 . have Te:(dY g.name&&kB g.kP&&kB g.iV&&kB g.kQ)=false:=(by simpa using hn);have hx:eT g=4:=(by unfold eT;rw[Te];simp);rw[hx];cases b0:dY g.name
   .simp[n0,b0]
   . cases b1:kB g.kP
     .  simp[n0,n1,b0,b1]
     .  cases b2:kB g.iV
        .simp[n0,n1,n2,b0,b1,b2]
        . cases b5:kB g.kQ
          .simp[n0,n1,n2,n5,b0,b1,b2,b5]
          .simp[b0,b1,b2,b5]at hn
theorem PW (hc:Sem c)(p:Pos)(g:aI)(hl:g.tg.length<=4)(F:Nat)(st:St)(hp:st.heap.get p=some (.cells g.cells 0))(k1 k2):∀(m k:Nat),g.tg.length<=k+m->k<=g.tg.length->
  fu c F k1 k2 (m+1) [.ptr p 0,.int .i64 (k:Int)] st=if AG (if k=0 then none else g.tg[k - 1]?) (g.tg.drop k)=true then k2 [] st else k1 [.int .i64 22] st:=by
 intro m;induction m with
 |zero=>
  intro k h1 h2;rw[sI];obtain rfl:k=g.tg.length:=by omega
  simp[AG,hp]
 |succ m ih   =>
  intro k h1 h2;rw[sI];by_cases h:k<g.tg.length
  . have e:g.tg.drop k=g.tg[k]::g.tg.drop (k+1):=Zb5 h;have w:aD .i64 ((k:Int)+1)=((k+1:Nat):Int):=wrap64 (by omega) (by omega);have hn:=Bl hc g.tg[k] st;have:=ih (k+1) (by omega) (by omega);have e2:(if k+1=0 then none else g.tg[k+1 - 1]?)=some g.tg[k]:=(by rw[Za5 (by omega),Ze1,H1 h]);rw[e2]at this;rw[e,Ut];generalize AG (some g.tg[k]) (g.tg.drop (k+1))=rest at this ⊢;by_cases h3:dY g.tg[k]=true
    .   by_cases h0:k=0
        .have hk:¬0<k:=(by omega);simp only[h3,Za6 h0,Ze0,Ur];rw[<-this];simp[dL,hp,h,hn,h3,hk,w]
        . have hk:0<k:=(by omega);have nu:k - 1<g.tg.length:=(by omega);have wk:aD .i64 ((k:Int) - 1)=((k - 1:Nat):Int):=(by rw[wrap64 (by omega) (by omega)];omega);simp only[h3,Za5 h0,H1 nu,Ze0,Us];have ho:(aA g.tg[k] g.tg[k - 1]||decide (g.tg[k]=g.tg[k - 1]))= !aA g.tg[k - 1] g.tg[k]:=by
            cases h5:aA g.tg[k - 1] g.tg[k]
            . cases h6:aA g.tg[k] g.tg[k - 1]
              .simp[xJ _ _ h6 h5]
              .rfl
            . (rw[DK _ _ h5];have:g.tg[k]≠g.tg[k - 1]:=λe=>by rw[e,q8]at h5;cases h5);simp[this]
          cases hb:aA g.tg[k - 1] g.tg[k]
          .rw[hb]at ho;simp[dL,hp,h,hn,h3,hk,nu,wk,ho]
          .rw[hb]at ho;simp only[Ze0];rw[<-this];simp[dL,hp,h,hn,h3,hk,nu,wk,ho,w]
    .   simp[dL,hp,h,hn,h3]
  .obtain rfl:k=g.tg.length:=(by omega);simp[AG,hp]
theorem Uv(hc:Sem c)(g:aI)(st:St)(hw:Wf st):c 190 [.agg g.cells] st=some (.int .i64 (eT g),st):=by
 rw[Ek hc 6 (r:=(.int .i64 (eT g),af st (.cells g.cells 0))),aq (Plain.int _ _) (bk hw)];rw[Hl];have n0:=Bl hc g.name;have n1:=Bl hc g.kP;have n2:=Bl hc g.iV;have n5:=Bl hc g.kQ;have en:dY []=false:=rfl;by_cases hn:(dY g.name&&kB g.kP&&kB g.iV&&kB g.kQ)=true
 . have Uu:=hn;simp only[Za4,kB,Zg6,Zc6]at Uu;obtain⟨⟨⟨b0,b1⟩,b2⟩,b5⟩:=Uu;unfold eT;rw[hn];have hor:∀r:List Nat,r=[]\/dY r=true->(r=[]\/(¬r=[]/\dY r=true)):=λr h=>by
     by_cases e:r=[]
     .  exact .inl e
     .  exact .inr ⟨e,h.resolve_left e⟩
   have d1:=hor _ b1;have d2:=hor _ b2;have d5:=hor _ b5;by_cases h1:g.since<0
   .have:¬(0<=g.since/\g.since<=9999):=(by omega);rcases d1 with e1|⟨e1,f1⟩<;>rcases d2 with e2|⟨e2,f2⟩<;>rcases d5 with e5|⟨e5,f5⟩<;>simp[*]
   by_cases h2:9999<g.since
   .have:¬(0<=g.since/\g.since<=9999):=(by omega);rcases d1 with e1|⟨e1,f1⟩<;>rcases d2 with e2|⟨e2,f2⟩<;>rcases d5 with e5|⟨e5,f5⟩<;>simp[*]
   have h3:0<=g.since/\g.since<=9999:=(by omega);clear b1 b2 b5 hn hor;by_cases h6:0<=g.side/\g.side<=2
   . have h7:g.side=0\/g.side=1\/g.side=2:=(by omega);by_cases h8:4<g.tg.length
     .  have h9:(4:Int)<g.tg.length:=(by omega);rcases h7 with h7|h7|h7<;>rcases d1 with e1|⟨e1,f1⟩<;>rcases d2 with e2|⟨e2,f2⟩<;>rcases d5 with e5|⟨e5,f5⟩<;>simp[n0,n1,n2,n5,en,b0, *]
     .  have h9:¬(4:Int)<g.tg.length:=(by omega);have L:∀k1 k3,fu c 6 k1 k3 6 [.ptr st.next 0,.int .i64 0] (af st (.cells g.cells 0))=if AG none (g.tg.drop 0)=true then k3 [] (af st (.cells g.cells 0))else k1 [.int .i64 22] (af st (.cells g.cells 0)):=
          λk1 k3=>PW hc st.next g (by omega) 6 _ (aC _ _) k1 k3 5 0 (by omega) (by omega)
        rw[Zc5]at L;generalize AG none g.tg=b at L ⊢;rcases h7 with h7|h7|h7<;>cases b<;>rcases d1 with e1|⟨e1,f1⟩<;>rcases d2 with e2|⟨e2,f2⟩<;>rcases d5 with e5|⟨e5,f5⟩<;>simp[n0,n1,n2,n5,en,b0, *]
   .have g0:¬g.side=0:=(by omega);have g1:¬g.side=1:=(by omega);have g2:¬g.side=2:=(by omega);rcases d1 with e1|⟨e1,f1⟩<;>rcases d2 with e2|⟨e2,f2⟩<;>rcases d5 with e5|⟨e5,f5⟩<;>simp[n0,n1,n2,n5,en,b0, *]
 . have Te  :(dY g.name&&kB g.kP&&kB g.iV&&kB g.kQ)=false:=(by simpa using hn);have hx:eT g=4:=(by unfold eT;rw[Te];simp);rw[hx];have hsm:∀r:List Nat,kB r=false->¬r=[]/\dY r=false:=λr h=>by simpa [kB]using h
   have wD:∀r:List Nat,kB r=true->(r=[]\/(¬r=[]/\dY r=true)):=λr h=>by
     by_cases e:r=[]
     .  exact .inl e
     .  right;simp[kB,e]at h;exact⟨e,h⟩
   cases b0:dY g.name
   .simp[n0,b0]
   . cases  b1:kB g.kP
     .  obtain⟨q1,q2⟩:=hsm _ b1;simp[n0,n1,b0,q1,q2]
     .  have d1:=wD _ b1;cases b2:kB g.iV
        .obtain⟨q1,q2⟩:=hsm _ b2;rcases d1 with e1|⟨e1,f1⟩<;>simp[n0,n1,n2,b0, *]
        . have d2:=wD _ b2;cases b5:kB g.kQ
          .obtain⟨q1,q2⟩:=hsm _ b5;rcases d1 with e1|⟨e1,f1⟩<;>rcases d2 with e2|⟨e2,f2⟩<;>simp[n0,n1,n2,n5,b0, *]
          .simp[b0,b1,b2,b5]at hn
structure Ty where
 a:List Nat
 b:List Nat
 k:Int
def Ty.cells(t:Ty):List AV:=[.str t.a,.str t.b,.int .u8 t.k]
@[simp] theorem Ty.c0(t:Ty):t.cells[0]? =some (.str t.a):=id rfl
@[simp] theorem Ty.c1(t:Ty):t.cells[1]? =some (.str t.b):=id rfl
@[simp] theorem Ty.c2(t:Ty):t.cells[2]? =some (.int .u8 t.k):=id rfl
@[simp] theorem Ty.cc(t:Ty):cut t.cells 0 3=some t.cells:=bw rfl
theorem Ty.len(t:Ty):t.cells.length=3:=id rfl
@[simp] theorem Ty.one(t:Ty):aU t.cells=true:=id rfl
@[simp] theorem ad9{R:Type}(c:ah)(K:AV->St->Option R)(st:St)(t:Ty)(x y z:AV):ai c (.store 3) [.ptr st.next 0,.agg t.cells] (af st (.cells [x,y,z] 0)) K=K .undef (af st (.cells t.cells 0)):=cU c K st 3 (.agg t.cells) [x,y,z] rfl rfl t.one
def bW(z:Bool)(ts:List Ty):AV:=ro 3 z (ts.map Ty.cells)
@[simp] theorem abt{R:Type}(c:ah)(K:AV->St->Option R)(st:St)(z:Bool)(l:List Ty):ai c (.lenB .l) [bW z l] st K=K (.int .i64 (l.length:Int)) st:=by unfold bW;rw[bO];simp
def gw(gs:List aI)(s:List Nat)(i:Nat):Bool:=decide (gs[i]?.map aI.name=some s)
theorem acV(z:Bool)(gs:List aI)(s:List Nat)(hl:gs.length<cD)(F:Nat)(st:St)(k1 k2):∀(m k:Nat),gs.length<=k+m->k<=gs.length->
  gU c F k1 k2 (m+1) [bg z gs,.str s,.int .i64 (k:Int)] st=if 0<=scan (gw gs s) (gs.length - k) k then k1 [.int .i64 (scan (gw gs s) (gs.length - k) k)] st else k2 [] st:=by
 intro m;induction m with
 |zero=>
  intro k h1 h2;obtain rfl:k=gs.length:=by omega
  rw[xg];simp[scan]
 |succ m ih=>
  intro k h1 h2;rw[xg];by_cases h:k<gs.length
  . have e:gs.length - k=(gs.length - (k+1))+1:=(by omega);have w:aD .i64 ((k:Int)+1)=((k+1:Nat):Int):=wrap64 (by omega) (by unfold cD at hl;omega);rw[e,scan];by_cases h3:gs[k].name=s
    .   have:gw gs s k=true:=(by simp[gw,h,h3]);simp only[this,Ze8];simp[bg,h,h3]
    .   have:gw gs s k=false:=(by simp[gw,h,h3]);simp only[this,Zd4,Zd7];rw[<-ih (k+1) (by omega) (by omega)];simp[bg,h,h3,w]
  .obtain rfl:k=gs.length:=(by omega);simp[scan]
theorem OG(hc:Sem c)(z:Bool)(gs:List aI)(s:List Nat)(hl:gs.length<cD)(st:St):c 143 [bg z gs,.str s] st=some (.int .i64 (scan (gw gs s) gs.length 0),st):=by
 rw[IG hc (gs.length+1) (r:=(.int .i64 (scan (gw gs s) gs.length 0),st)),aq (Plain.int _ _) (aV.refl st)];rw[Lc];have L:∀k1 k2,gU c (gs.length+1) k1 k2 (gs.length+1) [bg z gs,.str s,.int .i64 0] st=if 0<=scan (gw gs s) (gs.length - 0) 0 then k1 [.int .i64 (scan (gw gs s) (gs.length - 0) 0)] st else k2 [] st:=
   λk1 k2=>acV z gs s hl _ st k1 k2 gs.length 0 (by omega) (by omega)
 rw[Zl1]at L;by_cases h:0<=scan (gw gs s) gs.length 0
 .simp[L,h]
 .have:=(Fy (gw gs s) gs.length 0).2 (by omega);simp[L,this]
def dM(s t:Ty):Bool:=aA s.a t.a||(decide (s.a=t.a)&&aA s.b t.b)
theorem Q9(hc:Sem c)(s t:Ty)(st:St)(hw:Wf st):c 191 [.agg s.cells,.agg t.cells] st=some (.bool (dM s t),st):=by
 rw[CT hc 1 (r:=(.bool (dM s t),af (af st (.cells s.cells 0)) (.cells t.cells 0))),aq (Plain.bool _) ((bk hw).trans (bk (bA hw)))];rw[Fo];by_cases h2:s.a=t.a
 .simp[dM,h2,q8]
 .cases h1:aA s.a t.a<;>simp[dM,h1,h2]
def xK(a b:List Nat):Int:=if aA a b=true then -1 else if aA b a=true then 1 else 0
theorem adO(hc:Sem c)(a b:List Nat)(st:St):c 327 [.str a,.str b] st=some (.int .i64 (xK a b),st):=by unfold Sem at hc;subst hc;refine N4 (s:=IX) (by rfl) ?_;show some (AV.int .i64 (match aA a b with|true=>.negSucc 0|false=>match aA b a with|true=>.ofNat 1|false=>.ofNat 0),st)=_;unfold xK;generalize aA a b=p;generalize aA b a=q;cases p<;>cases q<;>rfl
theorem M6(hc:Sem c)(a b:List Nat)(st:St):c 320 [.str a,.str b] st=some (.int .i64 (xK a b),st):=by
 rw[AR hc 1 (r:=(.int .i64 (xK a b),st)),aq (Plain.int _ _) (aV.refl st)];rw[CP];simp[adO hc]
theorem OH(hc:Sem c)(a b:List Nat)(st:St):c 300 [.str a,.str b] st=some (.int .i64 (xK a b),st):=by
 rw[IP hc 1 (r:=(.int .i64 (xK a b),st)),aq (Plain.int _ _) (aV.refl st)];rw[Lj];simp[M6 hc]
theorem WE{a b:List Nat}:xK a b=0↔a=b:=by
 unfold xK;cases h1:aA a b
 . cases h2:aA b a
   .simp;exact xJ _ _ h1 h2
   .simp;intro e;subst e;rw[q8]at h2;cases h2
 .simp;intro e;subst e;rw[q8]at h1;cases h1
def nv(s t:Ty):Int:=if s.a=t.a then xK s.b t.b else xK s.a t.a
theorem Ck(hc:Sem c)(s t:Ty)(st:St)(hw:Wf st):c 258 [.agg s.cells,.agg t.cells] st=some (.int .i64 (nv s t),st):=by
 rw[Oz hc 1 (r:=(.int .i64 (nv s t),af (af st (.cells s.cells 0)) (.cells t.cells 0))),aq (Plain.int _ _) ((bk hw).trans (bk (bA hw)))];rw[RJ];by_cases h:s.a=t.a
 .have:xK t.a t.a=0:=WE.2 rfl;simp[nv,OH hc,h,this]
 . have:¬xK s.a t.a=0:=λe=>h (WE.1 e)
   simp[nv,OH hc,h,this]
theorem PY{s t:Ty}:nv s t<0↔dM s t=true:=by
 unfold nv dM xK;by_cases h:s.a=t.a
 .simp only[h,q8,Ze8];cases aA s.b t.b<;>cases aA t.b s.b<;>simp
 .simp only[h,Zd7];cases aA s.a t.a<;>cases aA t.a s.a<;>simp
theorem K8{s t:Ty}:0<nv s t↔dM t s=true:=by
 unfold nv dM xK;by_cases h:s.a=t.a
 . simp only[h,q8,Ze8];cases h1:aA s.b t.b
   .cases aA t.b s.b<;>simp
   .simp[DK _ _ h1]
 . have h':¬t.a=s.a:=λe=>h e.symm
   simp only[h,h',Zd7];cases h1:aA s.a t.a
   .cases aA t.a s.a<;>simp
   .simp[DK _ _ h1]
theorem WG(hc:Sem c)(a b:List Nat)(k:Int)(aY:aA a b=true)(st:St)(hw:Wf st):c 303 [.str a,.str b,.int .u8 k] st=some (.agg (Ty.cells ⟨a,b,k⟩),st):=by
 rw[PJ hc 1 (r:=(.agg (Ty.cells ⟨a,b,k⟩),af st (.cells (Ty.cells ⟨a,b,k⟩) 0))),aq (Plain.agg (by simp[Ty.cells,Plain.str,Plain.int])) (bk hw)];rw[Ua];have m1:∀(K:AV->St->Option (AV×St))(s:St),ai c .minB [.str a,.str b] s K=K (.str a) s:=λK s=>aT c K (λH n=>by simp[az.run,A0,aY]) s
 have m2:∀(K:AV->St->Option (AV×St))(s:St),ai c .maxB [.str a,.str b] s K=K (.str b) s:=λK s=>aT c K (λH n=>by simp[az.run,A3,aY]) s
 simp[m1,m2,bS,aK,eu,AV.cells,aU,AV.one,bw,Ty.cells]
def fZ(gs:List aI):Nat->Nat->Int×Int
 |0,_=>(0,0)
 |  m+1,k=>match gs[k]? with
    |none=>(0,0)
    |some g=>if eT g≠0 then((k:Int),eT g)else if 0<=scan (gw gs g.name) k 0 then((k:Int),5)else if 64<=k then((k:Int),7)else fZ gs m (k+1)
def kC(ts:List Ty)(k:Nat):Option Ty:=if k=0 then none else ts[k - 1]?
def DM(t:Ty):Bool:=decide (t.k=1)||decide (t.k=2)
def So(t:Ty)(p:Option Ty):Bool:= !DM t|| !aA t.a t.b||(match p with|none=>false|some p=>dM t p)
def oJ(t:Ty)(p:Option Ty):Bool:=match p with|none=>false|some p=> !dM p t
def jt(gs:List aI)(t:Ty):Bool:=decide (scan (gw gs t.a) gs.length 0<0)||decide (scan (gw gs t.b) gs.length 0<0)
def ey(gs:List aI)(ts:List Ty):Nat->Nat->Int×Int
 |0,_=>(0,0)
 |  m+1,k=>match ts[k]? with
    |none=>(0,0)
    |some t=>if So t (kC ts k)=true then((gs.length:Int)+k,23)else if jt gs t=true then((gs.length:Int)+k,6)
     else if oJ t (kC ts k)=true then((gs.length:Int)+k,5)else if 256<=k then((gs.length:Int)+k,7)else ey gs ts m (k+1)
def bD(gs:List aI)(ts:List Ty):Int×Int:=if(fZ gs 101 0).2≠0 then fZ gs 101 0 else ey gs ts 101 0
theorem Uw{gs:List aI}{s:List Nat}{k:Nat}(hk:k<=gs.length):scan (gw (gs.take k) s) k 0=scan (gw gs s) k 0:=
 OD k 0 λi _ hi=>by simp[gw,Za9,show i<k by omega]
theorem HA (gs:List aI)(ts:List Ty):∀(m k:Nat),(ey gs ts m k).2=0->(ey gs ts m k).1=0
 |0,_,_=>rfl
 |m +   1,k , h=>by
  rw[ey]at h ⊢;split at h
  .rfl
  . split   at h
    .   simp at h
    .   split at h
        .simp at h
        . split at h
          .simp at h
          . split at h
            .simp at h
            .rename_i h1 h2 h3 h4;rw[Za5 h1,Za5 h2,Za5 h3,Za5 h4];exact HA gs ts m (k+1) h
abbrev HB(s:List Nat):List AV:=[.str s]
theorem abu(l:List (List Nat)):∀r∈l.map HB,r.length=1:=λr hr=>by simp only[Zf3]at hr;obtain⟨m,_,rfl⟩:=hr;rfl
theorem abv{s:St}(z:Bool)(l:List (List Nat)):Src 1 s (dL z l) (l.map HB):=Src.ro z _
theorem ZI(hc:Sem c){src:AV}(l:List (List Nat))(hl:l.length<=1000)(s:St)(hw:Wf s)(h:Src 1 s src (l.map HB)):∃v s',c 319 [src] s=some (v,s')/\Mk 1 s s' v (l.map HB):=by
 rcases h.nil with⟨rfl,h0⟩|hn
 . (refine⟨.ax,s,?_,by rw[h0];exact Mk.start hw (Grew.refl hw)⟩;rw[lM hc 1 (r:=(.ax,s)),aq Plain.ax (aV.refl s)];rw[nk];have e:∀(K:AV->St->Option (AV×St))(s:St),ai c (.bin .eql .slice) [.ax,.ax] s K=K (.bool true) s:=λK s=>aT c K (λH n=>rfl) s);simp[e]
 .obtain⟨v,s',a1,a2⟩:=Q4 (c:=c) (R:=AV×St) (bytes:=16) (z:=[.str []]) (abu l) (by decide) (by simp;omega) (by simp;omega) s hw h;obtain⟨g9,t1,t2⟩:=a2.tidy;refine⟨v,g9,?_,t2⟩;rw[lM hc 1 (r:=(v,s')),t1];rw[nk];simp only[bH,hn,qk];rw[a1]
def aI.ay(g:aI)(v:AV):List AV:=[.str g.name,.str g.kP,.str g.iV,.int .i64 g.since,.int .i64 g.side,.str g.kQ,.bool g.host,.bool g.access,v]
theorem aI.ZJ(g:aI):g.ay (dL g.tz g.tg)=g.cells:=rfl
theorem aI.PZ(t:aI){v:AV}(h:aU [v]=true):aU (t.ay v)=true:=by
 simp only[aU]at h;unfold aI.ay;simp only[aU,AV.one,h,Zj2,Zj1]at*
structure aI.Low(g:aI):Prop where
 name:∀x∈g.name,x<256
 kP:∀x∈g.kP,x<256
 iV:∀x∈g.iV,x<256
 kQ:∀x∈g.kQ,x<256
theorem ZK(hc:Sem c)(g:aI)(hg:g.Low)(hl:g.tg.length<=1000){src:AV}(s:St)(hw:Wf s)(h:Src 1 s src (g.tg.map HB))(h1:src.cells=[src])(h2:src.one=true):
  ∃v s',c 299 [.agg (g.ay src)] s=some (.agg (g.ay v),s')/\Mk 1 s s' v (g.tg.map HB):=by
 let zero:List AV:=[.str [],.str [],.str [],.int .i64 0,.int .i64 0,.str [],.bool false,.bool false,.ax]
 have eM:Wf (af (af s (.cells (g.ay src) 0)) (.cells zero 0)):=bA (bA hw);have vA:=(Grew.af hw (.cells (g.ay src) 0)).trans (Grew.af (bA hw) (.cells zero 0));obtain⟨v,s3,h3,M⟩:=ZI hc g.tg hl _ eM (h.aE vA);have M0:=M.back hw vA;have hx:s3.heap.get s.next=some (.cells (g.ay src) 0):=M.aE.get wN;have hy:s3.heap.get (af s (.cells (g.ay src) 0)).next=some (.cells zero 0):=M.aE.get (aC _ _);obtain⟨hvc,hvo⟩:=M.cells;have c9:s.next≠(af s (.cells (g.ay src) 0)).next:=Pos.Ph _;have XU:s.next.toNat<s3.next.toNat:=by have:=M.aE.next;rw[dc,dc,Pos.aB,Pos.aB]at this;omega
 have abb:(af s (.cells (g.ay src) 0)).next.toNat<s3.next.toNat:=by have:=M.aE.next;rw[dc,Pos.aB]at this;omega
 have vo:v.one=true:=Zs hvo;have wD:aK (g.ay src) 8 [v]=g.ay v:=rfl;have QD:aU (g.ay v)=true:=g.PZ hvo;have hro0:aU (g.ay src)=true:=g.PZ (by simp only[aU,h2]);have new:∀b,dS v=some b->(af s (.cells (g.ay src) 0)).next.toNat<b.toNat:=λb hb=>by have:=M.new b hb;rw[dc,Pos.aB]at this;omega
 have Jj:s.next.toNat<(af s (.cells (g.ay src) 0)).next.toNat:=by rw[dc,Pos.aB];omega
 let s4:=ew s3 s.next (.cells (g.ay v) 0)
 let s5:=ew s4 (af s (.cells (g.ay src) 0)).next (.cells (g.ay v) 0)
 have hx4:s4.heap.get s.next=some (.cells (g.ay v) 0):=sk _ _ _;have hy4:s4.heap.get (af s (.cells (g.ay src) 0)).next=some (.cells zero 0):=by show(ew s3 s.next (.cells (g.ay v) 0)).heap.get _=_;rw[bY c9];exact hy
 have hy5:s5.heap.get (af s (.cells (g.ay src) 0)).next=some (.cells (g.ay v) 0):=sk _ _ _;have M4:Mk 1 s s4 v (g.tg.map HB):=M0.store (Za1 _) XU (λe=>by have:=new _ e;omega);have M5:Mk 1 s s5 v (g.tg.map HB):=M4.store (by omega) abb (λe=>by have:=new _ e;omega);have hi:∀u∈g.ay v,eO u:=λu hu=>by
  simp only[aI.ay,Za2,Zd0,Zh2]at hu;rcases hu with rfl|rfl|rfl|rfl|rfl|rfl|rfl|rfl|rfl
  .exact eO.str hg.name
  .exact eO.str hg.kP
  .exact eO.str hg.iV
  .exact eO.int _ _
  .exact eO.int _ _
  .exact eO.str hg.kQ
  .exact eO.bool _
  .exact eO.bool _
  .exact M.inst
 obtain⟨g9,t1,_,t2⟩:=M5.MO (l:=g.ay v) (by simp[aI.ay]) hi;refine⟨v,g9,?_,t2⟩;rw[MX hc 1 (r:=(.agg (g.ay v),s5)),t1];rw[Px];have aL:=λ(K:AV->St->Option (AV×St))=>jz c K s3 1 s.next 8 v (g.ay src) hx (by rw[hvc];rfl) (by simp[aI.ay]) (by rw[hvc];exact hvo)
 rw[hvc,wD]at aL;have jk:=λ(K:AV->St->Option (AV×St))=>jz c K s4 9 (af s (.cells (g.ay src) 0)).next 0 (.agg (g.ay v)) _ hy4 rfl (by simp[zero,aI.ay]) QD
 have hsp2:aK zero 0 (AV.agg (g.ay v)).cells=g.ay v:=rfl;rw[hsp2]at jk;have hcut:cut (g.ay v) 0 9=some (g.ay v):=bw rfl;have g8:(g.ay src)[8]? =some src:=rfl;have st2':∀(K:AV->St->Option (AV×St)),ai c (.store 9) [.ptr (af s (.cells (g.ay src) 0)).next 0,.agg (g.ay v)] (ew s3 s.next (.cells (g.ay v) 0)) K=K .undef s5:=λK=>jk K
 have bx:∀(K:AV->St->Option (AV×St)),ai c .box [.agg (g.ay src)] s K=K (.ptr s.next 0) (af s (.cells (g.ay src) 0)):=λK=>by rw[pO];rfl
 simp[bx,h3,g8,zero,aL,hcut];rw[st2'];simp only[hy5,av,Ze4,hcut,zj]
theorem RT(b:Pos)(off:Nat):¬Plain (.ptr b off):=λh=>by
 have:=h (λ_=>⟨0,0,0⟩) (λ_=>⟨0,0,0⟩) (b.toNat+1) 0 (λ_=>none) _ (.ptr b off (by omega));cases this with
 |ptr _ _ h=>omega
theorem abw{s s':St}{b:Pos}{off:Nat}:tidy s (.ptr b off,s')=(.ptr b off,s'):=by unfold tidy;rw[Za5];exact λh=>RT _ _ h.1
theorem adP(hc:Sem c)(s:St):c 256 [] s=some (.ptr (af s (.map [] 0)).next 0,af (af s (.map [] 0)) (.cells [.ax,.ax,.map s.next] 0)):=by
 rw[RP hc 1 (r:=(.ptr (af s (.map [] 0)).next 0,af (af s (.map [] 0)) (.cells [.ax,.ax,.map s.next] 0))),abw];rw[VC];simp[bS,aK,eu,AV.cells]
def jd(k:Option Pos)(n es:Nat):AV:=match k with
 |none=>.ax
 |some b=>.slice b 0 n none es
theorem HC{k:Option Pos}{n es:Nat}(h:k=none->n=0):∀H p,az.run H p (.lenB .l) [jd k n es]=some (.val (.int .i64 (n:Int))):=λH p=>by
 cases k with
 |none=>rw[h rfl];rfl
 |some b=>rfl
def XY(s0 s:St)(bp:Pos)(gk tk:Option Pos)(g:aI)(row:List AV):Prop:=g.Low/\g.tg.length<=4/\∃v,row=g.ay v/\v.cells=[v]/\v.one=true/\QS 1 s v (g.tg.map HB)/\∀p,dS v=some p->p≠bp/\gk≠some p/\tk≠some p/\s0.heap.get p=none
theorem ZL{es:Nat}{s:St}{v:AV}{rows:List (List AV)}(h:QS es s v rows){b:Pos}(hb:dS v=some b):∃cs,s.heap.get b=some (.cells cs 0):=by
 rcases h with⟨rfl,rfl⟩|⟨b',off,cap,cs,rfl,h1,_⟩|⟨b',off,rfl,rfl⟩
 .cases hb
 .obtain rfl:=Q1 hb;exact⟨cs,h1⟩
 .rw[iM]at hb;cases hb
theorem XY.to{s0 s s':St}{bp:Pos}{gk tk Iv Fz:Option Pos}{g:aI}{row:List AV}(h:XY s0 s bp gk tk g row)
   (hk:∀p cs,p≠bp->gk≠some p->tk≠some p->s.heap.get p=some (.cells cs 0)->s'.heap.get p=some (.cells cs 0)/\Iv≠some p/\Fz≠some p):XY s0 s' bp Iv Fz g row:=by
 obtain⟨h1,h2,v,h3,h4,h5,h6,h7⟩:=h;refine⟨h1,h2,v,h3,h4,h5,h6.mono λb x hb hx=> ?_,λp hp=> ?_⟩
 .obtain⟨cs,h8⟩:=ZL h6 hb;rw[h8]at hx;cases hx;obtain⟨a1,a2,a3,_⟩:=h7 b hb;exact(hk b cs a1 a2 a3 h8).1
 .obtain⟨cs,h8⟩:=ZL h6 hp;obtain⟨a1,a2,a3,a4⟩:=h7 p hp;exact⟨a1,(hk p cs a1 a2 a3 h8).2.1,(hk p cs a1 a2 a3 h8).2.2,a4⟩
structure eR(s0 s:St)(bp mp:Pos)(gs:List aI)(ts:List Ty)(gk tk:Option Pos):Prop where
 wf:Wf s
 keeps:aV s0 s
 next:s0.next.toNat<=s.next.toNat
 book:s.heap.get bp=some (.cells [jd gk gs.length 9,jd tk ts.length 3,.map mp] 0)
 Cl:∃es cl,s.heap.get mp=some (.map es cl)/\es.map (·.1)=gs.map λg=>.str g.name
 qv:(gk=none->gs=[])/\∀b,gk=some b->∃cs,s.heap.get b=some (.cells cs 0)/\cs.length=gs.length*9
 zB:(tk=none->ts=[])/\∀b,tk=some b->s.heap.get b=some (.cells (ts.flatMap Ty.cells) 0)
 dg:gk≠some bp
 dt:tk≠some bp
 Ra:∀b,gk=some b->tk≠some b
 fb:s0.heap.get bp=none
 fm:s0.heap.get mp=none
 fg:∀b,gk=some b->s0.heap.get b=none
 ft:∀b,tk=some b->s0.heap.get b=none
 M7:∀es cl,s.heap.get mp=some (.map es cl)->∀e∈es,∃i:Nat,e.2.1= .int .i64 (i:Int)/\i<gs.length
 M8:∀es cl,s.heap.get mp=some (.map es cl)->es.map (λe=>e.2.1)=(List.range gs.length).map λ(i:Nat)=>AV.int .i64 (i:Int)
 rows:∀b cs,gk=some b->s.heap.get b=some (.cells cs 0)->∀(i:Nat)(g:aI),gs[i]? =some g->XY s0 s bp gk tk g ((cs.drop (i*9)).take 9)
theorem eR.lt{s0 s:St}{bp mp:Pos}{gs:List aI}{ts:List Ty}{gk tk:Option Pos}(h:eR s0 s bp mp gs ts gk tk):bp.toNat<s.next.toNat/\mp.toNat<s.next.toNat:=by
 obtain⟨es,cl,h1,_⟩:=h.Cl;exact⟨h.wf _ _ h.book,h.wf _ _ h1⟩
theorem eR.aE{s0 s s':St}{bp mp:Pos}{gs:List aI}{ts:List Ty}{gk tk:Option Pos}(h:eR s0 s bp mp gs ts gk tk)(g:Grew s s'):eR s0 s' bp mp gs ts gk tk where
 wf:=g.wf
 keeps:=h.keeps.trans g.keeps
 next:=Zc4 h.next g.next
 book:=g.get h.book
 Cl:=let⟨es,cl,h1,h2⟩:=h.Cl;⟨es,cl,g.get h1,h2⟩
 qv:=⟨h.qv.1,λb hb=>let⟨cs,h1,h2⟩:=h.qv.2 b hb;⟨cs,g.get h1,h2⟩⟩
 zB:=⟨h.zB.1,λb hb=>g.get (h.zB.2 b hb)⟩
 dg:=h.dg
 dt:=h.dt
 Ra:=h.Ra
 fb:=h.fb
 fm:=h.fm
 fg:=h.fg
 ft:=h.ft
 M7:=λes cl hm=>by obtain⟨Ze,cl0,h1,h2⟩:=h.Cl;have:=g.get h1;rw[hm]at this;cases this;exact h.M7 _ _ h1
 M8:=λes cl hm=>by obtain⟨Ze,cl0,h1,h2⟩:=h.Cl;have:=g.get h1;rw[hm]at this;cases this;exact h.M8 _ _ h1
 rows:=λb cs hb hs i u hu=>by
  obtain⟨Ux,h1,h2⟩:=h.qv.2 b hb;have:=g.get h1;rw[hs]at this;cases this;exact(h.rows b _ hb h1 i u hu).to λp cs _ a2 a3 hx=>⟨g.get hx,a2,a3⟩
theorem eR.start{s:St}(hw:Wf s):eR s (af (af s (.map [] 0)) (.cells [.ax,.ax,.map s.next] 0)) (af s (.map [] 0)).next s.next [] [] none none where
 wf:=bA (bA hw)
 keeps:=(bk hw).trans (bk (bA hw))
 next:=by simp only[dc,Pos.aB];omega
 book:=aC _ _
 Cl:=⟨[],0,wN,rfl⟩
 qv:=⟨λ_=>rfl,λb h=>by cases h⟩
 zB:=⟨λ_=>rfl,λb h=>by cases h⟩
 dg:=λh=>by cases h
 dt:=λh=>by cases h
 Ra:=λb h=>by cases h
 fb:=by
  cases h:s.heap.get (af s (.map [] 0)).next with
  |none=>rfl
  |some x=>have:=hw _ _ h;rw[dc,Pos.aB]at this;omega
 fm:=by
  cases h:s.heap.get s.next with
  |none=>rfl
  |some x=>have:=hw _ _ h;omega
 fg:=λb h=>by cases h
 ft:=λb h=>by cases h
 M7:=λes cl hm e he=>by have:(af (af s (.map [] 0)) (.cells [.ax,.ax,.map s.next] 0)).heap.get s.next=some (.map [] 0):=wN;rw[hm]at this;cases this;cases he
 M8:=λes cl hm=>by have:(af (af s (.map [] 0)) (.cells [.ax,.ax,.map s.next] 0)).heap.get s.next=some (.map [] 0):=wN;rw[hm]at this;cases this;rfl
 rows:=λb cs h=>by cases h
theorem Em(s:List Nat):∀(gs:List aI)(es:List (AV×AV×Nat))(i:Nat),es.map (·.1)=gs.map (λg=>.str g.name)->
  (s∈gs.map aI.name/\∃j v,iw .s (.str s) es i=some (some (j,v)))\/(s∉gs.map aI.name/\iw .s (.str s) es i=some none)
 |[],es,i,h=>by
  have:es=[]:=by simpa using h
  subst this;exact .inr ⟨by simp,rfl⟩
 |g::gs,[],i,h=>by simp at h
 |g ::gs,(k,v,n)::es,i,h=>by
  simp only[Zb1,Zh6]at h;obtain⟨h1,h2⟩:=h;subst h1;by_cases e:s=g.name
  .subst e;exact .inl ⟨by simp,i,v,by simp[iw,uJ,dJ]⟩
  . rcases Em s gs es (i+1) h2 with⟨a,b⟩|⟨a,b⟩
    .   left;refine⟨by simp at a ⊢; exact .inr a,?_⟩;simpa [iw,uJ,dJ,e]using b
    .   right;refine⟨by simp at a ⊢; exact⟨e,a⟩,?_⟩;simpa [iw,uJ,dJ,e]using b
theorem HD{gs:List aI}{s:List Nat}:0<=scan (gw gs s) gs.length 0↔s∈gs.map aI.name:=by
 constructor
 .intro h;obtain⟨_,h2,h3⟩:=Hw _ _ h;simp only[gw,Zc6]at h3;rw[H1 (by omega)]at h3;simp only[Zd9,H0]at h3;rw[<-h3];exact Zf3.2 ⟨_,Zc0 _,rfl⟩
 . intro  h;obtain⟨g,hg,rfl⟩:=Zf3.1 h;obtain⟨i,hi,rfl⟩:=Zg4.1 hg;have key:∀(m k:Nat),k<=i->i<k+m->0<=scan (gw gs gs[i].name) m k:=by
    intro m;induction m with
    |zero=>intro k h1 h2;omega
    |   succ m ih=>
        intro k h1 h2;unfold scan;split
        .omega
        . rename_i c9;by_cases e:k=i
          .subst e;simp[gw,hi]at c9
          .exact ih (k+1) (by omega) (by omega)
   exact key _ _ (by omega) (by omega)
theorem WH(hc:Sem c)(s:St)(bp mp:Pos)(x y:AV)(h:s.heap.get bp=some (.cells [x,y,.map mp] 0)):c 297 [.ptr bp 0] s=some (.bool false,s):=by
 rw[IN hc 1 (r:=(.bool false,s)),aq (Plain.bool _) (aV.refl s)];rw[Li];have e1:∀(K:AV->St->Option (AV×St))(s:St),ai c (.bin .eql .ptr) [.ptr bp 0,.gq] s K=K (.bool false) s:=λK s=>aT c K (λH n=>rfl) s
 have e2:∀(K:AV->St->Option (AV×St))(s:St),ai c (.bin .eql .map) [.map mp,.mO] s K=K (.bool false) s:=λK s=>aT c K (λH n=>rfl) s
 simp[e1,e2,h]
theorem XZ(z:Bool)(l:List (List Nat)):(dL z l).cells=[dL z l]:=by unfold dL ro;split<;>rfl
theorem abx(z:Bool)(l:List (List Nat)):(dL z l).one=true:=by unfold dL ro;split<;>rfl
theorem WI{s:List Nat}(h:dY s=true):∀x∈s,x<256:=λx hx=>by simp only[dY,Za4,Zd6,Zc6]at h;have:=h.2 x hx;omega
theorem P0{s:List Nat}(h:kB s=true):∀x∈s,x<256:=λx hx=>by
 simp only[kB,Zg6,Zc6]at h;rcases h with h|h
 .rw[h]at hx;cases hx
 .exact WI h x hx
theorem Rb{g:aI}(h:eT g=0):g.Low:=by
 unfold eT at h;split at h
 .simp at h
 .rename_i hn;simp only[Bool.not_eq_false,Za4]at hn;exact⟨WI hn.1.1.1,P0 hn.1.1.2,P0 hn.1.2,P0 hn.2⟩
theorem WJ{s:St}(hw:Wf s){k:Option Pos}{n es bytes:Nat}{q:Pos}{row:List AV}(hk:k=none->n=0)(e8:∀b,k=some b->∃cs,s.heap.get b=some (.cells cs 0)/\cs.length=n*es)(hq:s.heap.get q=some (.cells row 0))(hr:row.length=es)
  (h1:aU row=true) (cX:es≠0) (hb:(2*(n+1)+768)*bytes<=281474976710656) (hn:n<=1000):
  ∃ s5 jZ,(∀(K:AV->St->Option (AV×St)),ai c (.append es bytes) [jd k n es,.slice q 0 1 (some 1) es] s K=K (.slice s.next 0 (n+1) none es) s5)/\s5.heap.get s.next=some (.cells jZ 0)/\jZ.length=(n+1)*es/\
    (∀b cs,k=some b->s.heap.get b=some (.cells cs 0)->jZ=cs++row)/\(k=none->jZ=row)/\s5.next=s.next.succ/\Wf s5/\∀p,k≠some p->p.toNat<s.next.toNat->s5.heap.get p=s.heap.get p:=by
 have hx:bX es 1 (λb=>s.heap.get b) (.slice q 0 1 (some 1) es)=some row:=by simp only[bX,ee,Zm8,H5 cX,hq];exact bw hr
 cases k with
 |none=>
  obtain rfl:=hk rfl;refine⟨af s (.cells row 0),row,λK=>TC c K (m:=1) rfl (by omega) (by omega) (by omega) hx,aC _ _,by omega,λb cs h=>(by cases h),λ_=>rfl,rfl,bA hw,λp _ hp=>pN hp⟩
 |some b=>
  obtain⟨cs,h2,h3⟩:=e8 b rfl;have ho:bX es n (λb=>s.heap.get b) (.slice b 0 n none es)=some cs:=by
    by_cases h0:n=0
    .   subst h0;have:cs=[]:=Za7 (by omega);subst this;simp[bX,ee]
    .   have:¬n*es=0:=λe=>by rcases Nat.mul_eq_zero.1 e with e|e<;>omega
        simp only[bX,ee,H5 this,h2];exact bw h3
  refine⟨dst s b (.cells (cs++row) 0),cs++row,λK=>acN c K (m:=1) rfl (by omega) hb (by omega) h2 ho hx h1,Pj _ _ _,?_,λb' cs2 e h=> ?_,λh=>(by cases h),rfl,Zm hw,λp hp hl=>N8 (λe=>hp (by rw[e])) hl⟩
  .rw[Zd8,h3,hr,Zi1,Zm8]
  .cases e;rw[h2]at h;cases h;rfl
def q9(gs:List aI)(g:aI):Int:=if eT g≠0 then eT g else if 0<=scan (gw gs g.name) gs.length 0 then 5 else if gs.length=64 then 7 else 0
theorem adQ (hc : Sem c){s0 s:St}{bp mp:Pos}{gs:List aI}{ts:List Ty}{gk tk:Option Pos}(FA:Wf s0)(B:eR s0 s bp mp gs ts gk tk)(hl:gs.length<=64)(g:aI):
   ∃s',c 257 [.ptr bp 0,.agg g.cells] s=some (.int .i64 (q9 gs g),s')/\(q9 gs g≠0->s'=s)/\(q9 gs g=0->∃Iv,eR s0 s' bp mp (gs++[g]) ts Iv tk):=by
 have bR:Wf (af s (.cells g.cells 0)):=bA B.wf;have B1:=B.aE (Grew.af B.wf (.cells g.cells 0));generalize JI:af s (.cells g.cells 0)=s1 at bR B1;have WL:s1.heap.get s.next=some (.cells g.cells 0):=by rw[<-JI];exact aC _ _
 have mH:=WH hc s1 bp mp _ _ B1.book;have hch:=PV hc g s1 bR;have lG:∀(K:AV->St->Option (AV×St))(s:St),ai c (.lenB .l) [jd gk gs.length 9] s K=K (.int .i64 (gs.length:Int)) s:=λK s=>aT c K (HC λh=>by rw[B.qv.1 h];rfl) s
 have lG2:∀(K:AV->Option (AV×St)),gL (.lenB .l) [jd gk gs.length 9] K=K (.int .i64 (gs.length:Int)):=λK=>cQ K (HC λh=>by rw[B.qv.1 h];rfl)
 obtain⟨es,cl,iH,hm2⟩:=B1.Cl;have fail:∀e:Int,e≠0->q9 gs g=e->sr c 1 (.ptr bp 0) (.agg g.cells) s=some (.int .i64 e,s1)->∃s',c 257 [.ptr bp 0,.agg g.cells] s=some (.int .i64 (q9 gs g),s')/\(q9 gs g≠0->s'=s)/\(q9 gs g=0->∃Iv,eR s0 s' bp mp (gs++[g]) ts Iv tk):=λe he ha h=>by
   refine⟨s,?_,λ_=>rfl,λh0=>absurd (ha.symm.trans h0) he⟩;rw[zA hc 1 h,ha,aq (Plain.int _ _) (by rw[<-JI];exact bk B.wf)]
 have eb:∀(K:AV->St->Option (AV×St)),ai c .box [.agg g.cells] s K=K (.ptr s.next 0) s1:=λK=>by rw[pO, <-JI];rfl
 have h64:((gs.length:Int)=64)↔gs.length=64:=by omega
 by_cases h1:eT g=0
 . rcases Em  g.name gs es 0 hm2 with⟨qh,j,v,hf⟩|⟨qh,hf⟩
   . have hsc:=HD.2 qh;refine fail 5 (by omega) (by simp[q9,h1,hsc]) ?_;rw[oF];have lk:=λ(K:AV->Option (AV×St))=>QX K (.int .i64 0) (h:=s1.heap) (k:= .str g.name) iH hf
     simp[eb,mH,hch,h1,WL,B1.book,lk]
   . have hsc: ¬0<=scan (gw gs g.name) gs.length 0:=λh=>qh (HD.1 h)
     have lk:=λ(K:AV->Option (AV×St))=>QX K (.int .i64 0) (h:=s1.heap) (k:= .str g.name) iH hf
     by_cases h2:gs.length=64
     .  have h2d:decide ((gs.length:Int)=64)=true:=Za0 (by omega);refine fail 7 (by omega) (by unfold q9;rw[Za5 (by simp[h1]),Za5 hsc,Za6 h2]) ?_;rw[oF];simp[eb,mH,hch,h1,WL,B1.book,lk,lG,h2d]
     .  have htg:g.tg.length<=4:=by
          unfold eT at h1;split at h1
          .simp at h1
          . split at h1
            .simp at h1
            . split at h1
              .simp at h1
              . split at h1
                .simp at h1
                .omega
        have he:q9 gs g=0:=(by unfold q9;rw[Za5 (by simp[h1]),Za5 hsc,Za5 h2]);have h2d:decide ((gs.length:Int)=64)=false:=H5 (by omega);have lt1:=B1.lt;have mT:s.next.toNat<s1.next.toNat:=(by rw[<-JI,dc,Pos.aB];omega);have Rc:mp≠bp:=λe=>by rw[e,B1.book]at iH;cases iH
        have nmp:mp≠s.next:=λe=>by rw[e,WL]at iH;cases iH
        let H7:=es++[(AV.str g.name,AV.int .i64 (gs.length:Int),cl)]
        let s2:=ew s1 mp (.map H7 (cl+1))
        have eM:Wf s2:=E6 bR lt1.2;have b2:s2.heap.get bp=some (.cells [jd gk gs.length 9,jd tk ts.length 3,.map mp] 0):=(by show(ew _ _ _).heap.get bp=_;rw[bY Rc];exact B1.book);have p2:s2.heap.get s.next=some (.cells g.cells 0):=(by show(ew _ _ _).heap.get _=_;rw[bY nmp];exact WL);have m2:s2.heap.get mp=some (.map H7 (cl+1)):=sk _ _ _;obtain⟨v,s3,q1,M⟩:=ZK hc g (Rb h1) (by omega) s2 eM (abv g.tz g.tg) (XZ _ _) (abx _ _);rw[aI.ZJ]at q1
        let row:=g.ay v
        have q2:=M.aE;have q3:row.length=9:=rfl;have vone:v.one=true:=Zs M.cells.2;have q4:aU row=true:=g.PZ M.cells.2;have hw4:Wf (af s3 (.cells row 0)):=bA q2.wf;have WM:=q2.trans (Grew.af q2.wf (.cells row 0));have cW:∀p x,s2.heap.get p=some x->p.toNat<(af s3 (.cells row 0)).next.toNat:=λp x h=>hw4 p x (WM.get h)
        have e8:∀b,gk=some b->∃cs,(af s3 (.cells row 0)).heap.get b=some (.cells cs 0)/\cs.length=gs.length*9:=λb hb=>by
          obtain⟨cs,h3,h4⟩:=B1.qv.2 b hb;have:mp≠b:=λe=>by rw[e,h3]at iH;cases iH
          exact⟨cs,WM.get (by show(ew _ _ _).heap.get b=_;rw[bY this];exact h3),h4⟩
        obtain⟨s5,jZ,r1,r2,r3,ra,rb,r4,r5,r6⟩:=WJ (c:=c) (es:=9) (bytes:=112) hw4 (k:=gk) (n:=gs.length) (λh=>by rw[B.qv.1 h];rfl) e8 (aC _ _) q3 q4 (by omega) (by omega) (by omega);have hs4:(af s3 (.cells row 0)).next=s3.next.succ:=rfl;have keep:∀p x,s2.heap.get p=some x->gk≠some p->s5.heap.get p=some x:=λp x h c9=>by rw[r6 p c9 (cW p x h)];exact WM.get h
        have b5:=keep bp _ b2 B.dg
        let gv:=AV.slice (af s3 (.cells row 0)).next 0 (gs.length+1) none 9
        let s6:=ew s5 bp (.cells [gv,jd tk ts.length 3,.map mp] 0)
        have aby:bp.toNat<s5.next.toNat:=r5 _ _ b5;have nb4:bp≠(af s3 (.cells row 0)).next:=λe=>by have:=cW _ _ b2;rw[e]at this;omega
        have st6:∀(K:AV->St->Option (AV×St)),ai c (.store 1) [.ptr bp 0,gv] s5 K=K .undef s6:=λK=>jz c K s5 1 bp 0 gv _ b5 rfl (by simp) rfl
        have g6:∀p,p≠bp->s6.heap.get p=s5.heap.get p:=λp h=>bY (λe=>h e.symm)
        have X0:∀p:Pos,s0.next.toNat<=p.toNat->s0.heap.get p=none:=λp h=>by
          cases hx:s0.heap.get p with
          |none=>rfl
          |some x=>have:=FA _ _ hx;omega
        have nx:s0.next.toNat<=(af s3 (.cells row 0)).next.toNat:=Zc4 B1.next (Zc4 (by show s1.next.toNat<=s2.next.toNat;exact Za1 _) WM.next)
        have Uy : eR s0 s6 bp mp (gs++[g]) ts (some (af s3 (.cells row 0)).next) tk:={
          wf:=E6 r5 aby
          keeps:=λp x hp=>by
            have n1:p≠bp:=λe=>by rw[e,B.fb]at hp;cases hp
            have n2:mp≠p:=λe=>by rw[<-e,B.fm]at hp;cases hp
            have n3:gk≠some p:=λe=>by rw[B.fg p e]at hp;cases hp
            rw[g6 p n1];exact keep p x (by show(ew _ _ _).heap.get p=_;rw[bY n2];exact B1.keeps p x hp) n3
          next:=by show s0.next.toNat<=s5.next.toNat;rw[r4,Pos.aB];omega
          book:=by show(ew _ _ _).heap.get bp=_;rw[sk];simp[gv,jd]
          Cl:=⟨H7,cl+1,by
            rw[g6 mp Rc];exact keep mp _ m2 (λe=>by obtain⟨cs,h3,_⟩:=B1.qv.2 mp e;rw[h3]at iH;cases iH),by simp[H7,hm2]⟩
          qv:=⟨λh=>(by cases h),λb hb=>by cases hb;refine⟨jZ,?_,by rw[r3];simp⟩;rw[g6 _ (λe=>nb4 e.symm)];exact r2⟩
          zB:=⟨B.zB.1,λb hb=>by
            have h3:=B1.zB.2 b hb;have n1:b≠bp:=λe=>B.dt (by rw[<-e];exact hb)
            have n2:mp≠b:=λe=>by rw[e,h3]at iH;cases iH
            have n3:gk≠some b:=λe=>B.Ra b e hb
            rw[g6 b n1];exact keep b _ (by show(ew _ _ _).heap.get b=_;rw[bY n2];exact h3) n3⟩
          dg:=λe=>nb4 (by injection e with e;exact e.symm)
          dt:=B.dt
          Ra:=λb hb ht=>by
            (cases hb;have h3:=B1.zB.2 _ ht;have n2:mp≠(af s3 (.cells row 0)).next:=λe=>by rw[e,h3]at iH;cases iH);have:=cW _ _ (show s2.heap.get (af s3 (.cells row 0)).next=_ from(bY n2).trans h3);omega
          fb:=B.fb
          fm:=B.fm
          fg:=λb hb=>by cases hb;exact X0 _ nx
          ft:=B.ft
          M7:=λes' cl' hm e he=>by
            have m6:s6.heap.get mp=some (.map H7 (cl+1)):=by
              rw[g6 mp Rc];exact keep mp _ m2 (λe=>by obtain⟨cs,h3,_⟩:=B1.qv.2 mp e;rw[h3]at iH;cases iH)
            rw[hm]at m6;cases m6;rcases Zd2.1 he with he|he
            .obtain⟨i,e1,e2⟩:=B1.M7 _ _ iH e he;exact⟨i,e1,by simp;omega⟩
            .simp only[Za2,Zd0,Zh2]at he;subst he;exact⟨gs.length,rfl,by simp⟩
          M8:=λes' cl' hm=>by
            have m6:s6.heap.get mp=some (.map H7 (cl+1)):=by
              rw[g6 mp Rc];exact keep mp _ m2 (λe=>by obtain⟨cs,h3,_⟩:=B1.qv.2 mp e;rw[h3]at iH;cases iH)
            rw[hm]at m6;cases m6;have h:=B1.M8 _ _ iH;rw[Zf4,h,Zd8,List.length_singleton,List.range_succ,Zf4];rfl
          rows:=  λb cs hb hs i u hu=>by
            cases hb;have Re:s6.heap.get (af s3 (.cells row 0)).next=some (.cells jZ 0):=(by rw[g6 _ (λe=>nb4 e.symm)];exact r2);rw[hs]at Re;cases Re;by_cases hi:i<gs.length
            . rw[Zc7 hi]at hu;cases OI:gk with
              |none=>rw[B.qv.1 OI]at hi;simp at hi
              | some b0=>
                obtain⟨Ux,h3,h4⟩:=B1.qv.2 b0 OI;have n0:mp≠b0:=λe=>by rw[e,h3]at iH;cases iH
                have e0:=ra b0 Ux OI (WM.get (by show(ew _ _ _).heap.get b0=_;rw[bY n0];exact h3));have R0:=B1.rows b0 Ux OI h3 i u hu;rw[e0,Zf5 (by omega),List.take_append_of_le_length (by simp;omega)];(refine R0.to λp cs a1 a2 a3 hx=> ?_);have n1:mp≠p:=λe=>by rw[e,hx]at iH;cases iH
                have x2:s2.heap.get p=some (.cells cs 0):=(by show(ew _ _ _).heap.get p=_;rw[bY n1];exact hx);have aY:=cW p _ x2;refine⟨by rw[g6 p a1];exact keep p _ x2 a2,λe=> ?_,a3⟩;cases e;omega
            . have yf:i=gs.length:=(by have:=(H3.1 hu).1;simp at this;omega);subst yf;simp at hu;subst hu;have er:(jZ.drop (gs.length*9)).take 9=row:=by
                cases OI:gk with
                | none=>
                  rw[rb OI,B.qv.1 OI];exact Zf6 (by simp[q3])
                | some b0=>
                  obtain⟨Ux,h3,h4⟩:=B1.qv.2 b0 OI;have n0:mp≠b0:=λe=>by rw[e,h3]at iH;cases iH
                  rw[ra b0 Ux OI (WM.get (by show(ew _ _ _).heap.get b0=_;rw[bY n0];exact h3)), <-h4];rw[Zf5 (Za1 _)];simp[Zf6 (Nat.le_of_eq q3)]
              (rw[er];have tG:∀p x,s2.heap.get p=some x->p.toNat<s2.next.toNat:=λp x h=>eM p x h);refine⟨Rb h1,htg,v,rfl,M.cells.1,vone,M.own.mono λb x hb hx=> ?_,λp hp=> ?_⟩
              . have u7:=M.new b hb;have EU:=M.own.lt M.aE.wf hb;have nb:b≠bp:=λe=>by have:=tG _ _ b2;rw[e]at u7;omega
                have ng:gk≠some b:=λe=>by
                  obtain⟨Ux,h3,_⟩:=B1.qv.2 b e;have n0:mp≠b:=λe=>by rw[e,h3]at iH;cases iH
                  have:=tG b _ (by show(ew _ _ _).heap.get b=_;rw[bY n0];exact h3);omega
                rw[g6 b nb,r6 b ng (by rw[hs4,Pos.aB];omega)];exact(Grew.af q2.wf (.cells row 0)).get hx
              . have u7:=M.new p hp;have EU:=M.own.lt M.aE.wf hp;refine⟨λe=>by have:=tG _ _ b2;rw[e]at u7;omega,λe=> ?_,λe=> ?_,X0 p (by have h9:=B1.next;rw[show s2.next=s1.next from BL _ _ _]at u7;omega)⟩
                .cases e;rw[hs4,Pos.aB]at EU;omega
                . have h3:=B1.zB.2 p e;have n2:mp≠p:=λe=>by rw[e,h3]at iH;cases iH
                  have:=tG p _ (by show(ew _ _ _).heap.get p=_;rw[bY n2];exact h3);omega }
        refine⟨s6,?_,λh=>absurd he h,λ_=>⟨_,Uy⟩⟩;rw[he];rw[zA hc 1 (r:=(.int .i64 0,s6))]
        . rw[Wu (b:=bp) B.book];rw[Uy.book];intro e;have e:=congrArg (λo=>match o with|some (AB.cells (v::_) _)=>cN v|_=>none) e;simp only[jd,cN]at e;cases gk with
          |none=>simp[cN,B.qv.1 rfl]at e
          |some b=>simp[cN]at e
        (rw[oF];have stm:=λ(K:AV->St->Option (AV×St))=>Vw c K (v:= .int .i64 (gs.length:Int)) iH hf);have bq:fB (jd gk gs.length 9) (jd gk gs.length 9)=true:=(by cases gk;exact MM;exact Jx _ _ _ _);have b3:s3.heap.get bp=some (.cells [jd gk gs.length 9,jd tk ts.length 3,.map mp] 0):=q2.get b2;have sL:=λ(K:AV->Option (AV×St))=>BM K (p:=bp) (o:=0) (h:=s3.heap) (h2:=s2.heap) (v:=jd gk gs.length 9) (by rw[b3];rfl) (by rw[b2];rfl) bq
        have wE:bS (bF [AV.str [],AV.str [],AV.str [],.int .i64 0,.int .i64 0,.str [],.bool false,.bool false,.ax] 1) [(0,9)] [AV.agg (g.ay v)]=some row:=by
          have:(g.ay v).length=9:=q3;show _=some (g.ay v);simp[bS,bF,ee,eu,this,aK]
        simp[eb,mH,hch,h1,WL,B1.book,lk,lG,lG2,h2d,stm];show zN ((cellsOf (T.get s.next s2.heap)).bind λcs=>cut cs 0 9) _=_;rw[p2];simp only[av,Ze4,aI.cc,zj];show MK (c 299 [AV.agg g.cells] s2) _=_;rw[q1];simp only[vu];show mI (.load none) [.ptr bp 0] s3.heap (λv=>mS (.load none) [.ptr bp 0] v (wu [] s2.heap)) _=_;rw[sL];simp only[wE,zj,r1];exact st6 _
 .refine fail (eT g) h1 (by simp[q9,h1]) ?_;rw[oF];simp[eb,mH,hch,h1,WL]
theorem HE{r s t:Ty}(h:dM r s=true)(k:dM s t=true):dM r t=true:=by
 simp only[dM,Zg6,Za4,Zc6]at h k ⊢;rcases h with h|⟨h1,h2⟩<;>rcases k with k|⟨k1,k2⟩
 .exact .inl (Hz _ _ _ h k)
 .exact .inl (by rw[<-k1];exact h)
 .exact .inl (by rw[h1];exact k)
 .exact .inr ⟨h1.trans k1,Hz _ _ _ h2 k2⟩
theorem X1{s t:Ty}(h:dM s t=false)(k:dM t s=false):s.a=t.a/\s.b=t.b:=by simp only[dM,Zk3]at h k;have e:=xJ _ _ h.1 k.1;refine⟨e,?_⟩;have h2:=h.2;have k2:=k.2;simp only[e,Zj0,Ze0]at h2 k2;exact xJ _ _ h2 k2
theorem acW{r s t:Ty}(h:dM r s=true)(k:dM t s=false):dM r t=true:=by
 cases h2:dM s t
 .obtain⟨e1,e2⟩:=X1 h2 k;unfold dM at h ⊢; rw[<-e1, <-e2];exact h
 .exact HE h h2
theorem acn{x:Int}(h1:0<=x)(h2:x<=18446744073709551615):aD .u64 x=x:=by
 unfold aD SA SB;simp only;split
 . split
   .rfl
   .contradiction
 .contradiction
theorem Uz(K:AV->St->Option (AV×St))(st:St)(a:Nat):ai c (.bin .shr .num) [.int .u64 (a:Int),.int .u64 1] st K=K (.int .u64 ((a / 2:Nat):Int)) st:=by
 refine aT c K (λH n=> ?_) st;have:(a:Int).fdiv 2=((a / 2:Nat):Int):=by rw[Int.fdiv_eq_ediv_of_nonneg _ (by omega)];rfl
 simp only[az.run,gO,mP,cZ];show some (bV.val (AV.int .u64 ((a:Int).fdiv 2)))=_;rw[this]
theorem UA(H:Pos->Option AB)(n:Pos)(es:Nat)(b:Pos)(len:Nat)(k:IntKind)(i:Nat)(h:i<len):az.run H n (.idxA es none) [.slice b 0 len none es,.int k (i:Int)]=some (.val (.ptr b (i*es))):=by
 simp[az.run,mQ,iB,AO,h]
theorem GX(ts:List Ty)(i:Nat)(h:i<ts.length):cut (ts.flatMap Ty.cells) (i*3) 3=some ts[i].cells:=by
 induction ts generalizing i with
 |nil=>simp at h
 |cons t ts ih=>
  cases i with
  |zero=>rw[Zl6];unfold cut;rw[eu,Za0 (by simp[Ty.len])];simp[Ty.cells]
  |succ i=>
   have h':i<ts.length:=(by simpa using h);have:=ih i h';unfold cut at this ⊢;rw[eu]at this ⊢;(split at this<;>first|(cases this;done)|skip);rename_i hle;simp only[Zc6]at hle;rw[Za0 (by rw[Zl6,Zd8,Ty.len];omega)];simp only[H0]at this ⊢;rw[Zl6,show(i+1)*3=i*3+1+1+1 by omega,List.getElem_cons_succ, <-this];rfl
theorem acX(hc:Sem c)(ts:List Ty)(hl:ts.length<=1000)(t:Ty)(q:Nat)(hq:q<=ts.length)(tG:∀h (hh:h<ts.length),h<q->dM ts[h] t=true)(hhi:∀h (hh:h<ts.length),q<=h->dM ts[h] t=false)
  (b:Pos) (x4:Pos) (s:St) (hw:Wf s) (hb:s.heap.get b=some (.cells (ts.flatMap Ty.cells) 0)) (hx:s.heap.get x4=some (.cells t.cells 0)) (F:Nat) (k2):∀(m i j:Nat),j<=i+m->i<=q->q<=j->j<=ts.length->
  aM c F k2 (m+1) [.slice b 0 ts.length none 3,.func 258 [] [],.ptr x4 0,.int .i64 (ts.length:Int),.int .i64 (i:Int),.int .i64 (j:Int)] s=
    k2 [.slice b 0 ts.length none 3,.func 258 [] [],.ptr x4 0,.int .i64 (ts.length:Int),.int .i64 (q:Int)] s:=by
 intro m;induction m with
 |zero=>
  intro i j h1 h2 h3 h4;obtain rfl:i=q:=by omega
  obtain rfl:j=i:=by omega
  rw[cJ];simp
 |succ m ih=>
  intro i j h1 h2 h3 h4;rw[cJ];by_cases h:i<j
  . let d:=(i+j) / 2
    have hd1:i<=d:=(by omega);have hd2:d<j:=(by omega);have hd3:d<ts.length:=(by omega);have w1:aD .i64 ((i:Int)+(j:Int))=((i+j:Nat):Int):=(by rw[wrap64 (by omega) (by omega)];omega);have w2:aD .u64 ((i+j:Nat):Int)=((i+j:Nat):Int):=acn (by omega) (by omega);have w3:aD .i64 (((i+j) / 2:Nat):Int)=((d:Nat):Int):=wrap64 (by omega) (by omega);have w4:aD .i64 ((d:Int)+1)=((d+1:Nat):Int):=wrap64 (by omega) (by omega);have ix:=λ(K:AV->Option (AV×St))=>cQ K (λH n=>UA H n 3 b ts.length .i64 d hd3)
    have ho:=Ck hc ts[d] t s hw;have fg:=GX ts d hd3
    clear_value d
    by_cases hn:d<q
    .   have abz:nv ts[d] t<0:=PY.2 (tG d hd3 hn);rw[<-ih (d+1) j (by omega) (by omega) h3 h4];simp only[fF,gS,bH,rZ,Int.ofNat_lt,h,Zj0,mM,A8,w1,Tz,w2,Uz,w3,Tr,ix,LO,hb,fg,hx,av,Ze4,Ty.cc,zj,nV,Ze5,Zf7,Ze9,ho,vu,Wl,abz,w4]
    .   have abz:¬nv ts[d] t<0:=λe=>by have:=PY.1 e;rw[hhi d hd3 (by omega)]at this;cases this
        rw[<-ih i d (by omega) h2 (by omega) (by omega)];simp only[fF,gS,bH,rZ,Int.ofNat_lt,h,Zj0,mM,A8,w1,Tz,w2,Uz,w3,Tr,ix,LO,hb,fg,hx,av,Ze4,Ty.cc,zj,nV,Ze5,Zf7,Ze9,ho,vu,Wl,abz,Zn9,qk]
  .obtain rfl:i=q:=(by omega);obtain rfl:j=i:=(by omega);simp
def Cm(ts:List Ty)(t:Ty)(q:Nat):Bool:=match ts[q]? with
 |some u=>decide (nv u t=0)
 |none=>false
theorem abA(x4:Pos)(s:St)(F:Nat)(k2)(m:Nat):aM c F k2 (m+1) [.ax,.func 258 [] [],.ptr x4 0,.int .i64 0,.int .i64 0,.int .i64 0] s=
  k2 [.ax,.func 258 [] [],.ptr x4 0,.int .i64 0,.int .i64 0] s:=by
 rw[cJ];simp
def slvT(k:Option Pos)(n:Nat):AV:=match k with
 |none=>.ax
 |some b=>.slice b (0+n*3) (n - n) none 3
theorem aeK(hc:Sem c)(ts:List Ty)(hl:ts.length<=1000)(t:Ty)(q:Nat)(hq:q<=ts.length)(tG:∀h (hh:h<ts.length),h<q->dM ts[h] t=true)(hhi:∀h (hh:h<ts.length),q<=h->dM ts[h] t=false)
  (tk:Option Pos) (s:St) (hw:Wf s) (h0:tk=none->ts=[]) (hb:∀b,tk=some b->s.heap.get b=some (.cells (ts.flatMap Ty.cells) 0)):
  c 321 [jd tk ts.length 3,.agg t.cells,.func 258 [] []] s=some (.tuple [.int .i64 (q:Int),.bool (Cm ts t q)],s):=by
 have bR:Wf (af s (.cells t.cells 0)):=bA hw;have mT:Plain (.tuple [.int .i64 (q:Int),.bool (Cm ts t q)]):=Plain.tuple (by simp[Plain.int,Plain.bool]);rw[jO hc 1001 (r:=(.tuple [.int .i64 (q:Int),.bool (Cm ts t q)],af s (.cells t.cells 0))),aq mT (bk hw)];rw[j5];cases tk with
 |none=>
  obtain rfl:=h0 rfl;obtain rfl:q=0:=by simpa using hq
  have l0:∀(K:AV->St->Option (AV×St))(s:St),ai c (.lenB .l) [.ax] s K=K (.int .i64 0) s:=λK s=>aT c K (λH n=>rfl) s
  have L:∀k2,aM c 1001 k2 1001 [.ax,.func 258 [] [],.ptr s.next 0,.int .i64 0,.int .i64 0,.int .i64 0] (af s (.cells t.cells 0))=_:=λk2=>abA (c:=c) s.next _ 1001 k2 1000
  simp only[jd,pO,bH,l0,Ki,L,fF,gS,Zm9];simp[Cm,l0,L]
 |some b=>
  have u7:(af s (.cells t.cells 0)).heap.get b=some (.cells (ts.flatMap Ty.cells) 0):=bk hw _ _ (hb b rfl);have l0:∀(K:AV->St->Option (AV×St))(s:St),ai c (.lenB .l) [.slice b 0 ts.length none 3] s K=K (.int .i64 (ts.length:Int)) s:=λK s=>aT c K (λH n=>rfl) s
  have L:∀k2,aM c 1001 k2 1001 [.slice b 0 ts.length none 3,.func 258 [] [],.ptr s.next 0,.int .i64 (ts.length:Int),.int .i64 0,.int .i64 (ts.length:Int)] (af s (.cells t.cells 0))=
    k2 [.slice b 0 ts.length none 3,.func 258 [] [],.ptr s.next 0,.int .i64 (ts.length:Int),.int .i64 (q:Int)] (af s (.cells t.cells 0)):=
    λk2=>acX hc ts hl t q hq tG hhi b s.next _ bR u7 (aC _ _) 1001 k2 1000 0 ts.length (by omega) (by omega) (by omega) (by omega)
  simp only[jd,pO,bH,l0,Ki,L,fF,gS];by_cases h:q<ts.length
  . have ix:=λ(K:AV->Option (AV×St))=>cQ K (λH n=>UA H n 3 b ts.length .i64 q h)
    have ho:=Ck hc ts[q] t _ bR;have fg:=GX ts q h;have ef:Cm ts t q=decide (nv ts[q] t=0):=(by unfold Cm;rw[H1 h]);simp[h,ix,u7,fg,ho,ef,AV.cells]
  .have ef:Cm ts t q=false:=(by unfold Cm;rw[Zb4 (by omega)]);simp[h,ef,AV.cells]
def FB(ts:List Ty)(t:Ty):Nat:=match ts.getLast? with
 |none=>0
 |some u=>if dM u t=true then ts.length else ts.length - 1
def Kj(ts:List Ty):Prop:=∀i j (hj:j<ts.length)(hij:i<j),dM (ts[i]'(by omega)) ts[j]=true
theorem adR{ts:List Ty}{t:Ty}(hs:Kj ts)(ht:∀u,ts.getLast? =some u->dM t u=false):FB ts t<=ts.length/\(∀h (hh:h<ts.length),h<FB ts t->dM ts[h] t=true)/\(∀h (hh:h<ts.length),FB ts t<=h->dM ts[h] t=false)/\
  Cm ts t (FB ts t)=oJ t ts.getLast? :=by
 unfold FB;cases hl:ts.getLast? with
 |none=>
  have:ts=[]:=by simpa using hl
  subst this;simp[Cm,oJ]
 |some u=>
  have c9:ts≠[]:=λe=>by subst e;simp at hl
  have Xk:0<ts.length:=List.length_pos_iff.2 c9;have hu:ts[ts.length - 1]'(by omega)=u:=by have:=List.getLast?_eq_getElem? (l:=ts);rw[hl,H1 (by omega)]at this;exact(Zh0 this).symm
  have htu:=ht u hl;simp only;cases hb:dM u t
  . simp only[Zd4,Zd7];refine⟨by omega,λh hh aY=> ?_,λh hh hle=> ?_,?_⟩
    .   have:=hs h (ts.length - 1) (by omega) aY;rw[hu]at this;exact acW this htu
    .   obtain rfl:h=ts.length - 1:=(by omega);rw[hu];exact hb
    .   (unfold Cm;rw[H1 (by omega),hu];have h1:¬nv u t<0:=λe=>by rw[PY.1 e]at hb;cases hb);have h2:¬0<nv u t:=λe=>by rw[K8.1 e]at htu;cases htu
        have:nv u t=0:=(by omega);simp[this,oJ,hb]
  . simp only[Ze8];refine⟨by omega,λh hh _=> ?_,λh hh hle=>by omega,?_⟩
    .   by_cases e:h=ts.length - 1
        .subst e;rw[hu];exact hb
        .have:=hs h (ts.length - 1) (by omega) (by omega);rw[hu]at this;exact HE this hb
    .   unfold Cm;rw[Zb4 (by omega)];simp[oJ,hb]
theorem TH(hc:Sem c){s0 s:St}{bp mp:Pos}{gs:List aI}{ts:List Ty}{gk tk:Option Pos}(B:eR s0 s bp mp gs ts gk tk)(hl:ts.length<=1000)(t:Ty)(aY:aA t.a t.b=true)(hs:Kj ts)(ht:∀u,ts.getLast? =some u->dM t u=false):
  c 301 [.ptr bp 0,.str t.a,.str t.b] s=some (.tuple [.int .i64 (FB ts t:Int),.bool (oJ t ts.getLast?)],s):=by
 obtain⟨p1,p2,p3,p4⟩:=adR hs ht;rw[<-p4];have e0:∀u:Ty,dM u ⟨t.a,t.b,0⟩=dM u t:=λu=>rfl
 have e1:Cm ts ⟨t.a,t.b,0⟩ (FB ts t)=Cm ts t (FB ts t):=rfl;have VR:=WG hc t.a t.b 0 aY s B.wf;have HX:=aeK hc ts hl ⟨t.a,t.b,0⟩ (FB ts t) p1 (λh hh hq=>by rw[e0];exact p2 h hh hq) (λh hh hq=>by rw[e0];exact p3 h hh hq) tk s B.wf B.zB.1 B.zB.2;rw[e1]at HX;rw[Hu hc 1 (r:=(.tuple [.int .i64 (FB ts t:Int),.bool (Cm ts t (FB ts t))],s)),aq (Plain.tuple (by simp[Plain.int,Plain.bool])) (aV.refl s)];rw[J8];have bq:fB (jd tk ts.length 3) (jd tk ts.length 3)=true:=by cases tk;exact MM;exact Jx _ _ _ _
 have sL:=λ(K:AV->Option (AV×St))=>BM K (p:=bp) (o:=1) (h:=s.heap) (h2:=s.heap) (v:=jd tk ts.length 3) (by rw[B.book];rfl) (by rw[B.book];rfl) bq
 simp[VR,sL,HX]
theorem lK(b:Pos)(off n es:Nat):¬Plain (.slice b off n none es):=λh=>by have:=h (λ_=>⟨0,0,off+n*es⟩) (λ_=>⟨0,0,0⟩) (b.toNat+1) 0 (λ_=>none) _ (.slice b off n none es n ⟨0,0+off,none⟩ (Za1 _) (λc h=>by cases h) (λ_=>⟨by omega,rfl,by simp⟩) (λ_=>by omega));have:=this.Qp rfl;omega
theorem ZM(hc:Sem c){s:St}(hw:Wf s){tk:Option Pos}{ts:List Ty}{q:Pos}{row:List AV}(h0:tk=none->ts=[])(hb:∀b,tk=some b->s.heap.get b=some (.cells (ts.flatMap Ty.cells) 0))(hq:s.heap.get q=some (.cells row 0))(hr:row.length=3)
   (h1:aU row=true) (hl:ts.length<=1000):
   ∃ s5,c 302 [jd tk ts.length 3,.int .i64 (ts.length:Int),.slice q 0 1 (some 1) 3] s=some (.slice s.next 0 (ts.length+1) none 3,s5)/\s5.heap.get s.next=some (.cells (ts.flatMap Ty.cells++row) 0)/\
     s5.next=s.next.succ/\Wf s5/\∀p,tk≠some p->p.toNat<s.next.toNat->s5.heap.get p=s.heap.get p:=by
 have hlen:∀ts:List Ty,(ts.flatMap Ty.cells).length=ts.length*3:=λts=>by
   induction ts with
   |nil=>rfl
   |cons t ts ih=>rw[Zl6,Zd8,ih,Ty.len,Ze3];omega
 obtain⟨s5,jZ,r1,r2,r3,r4,r5,r6,r7,r8⟩:=WJ (c:=c) (es:=3) (bytes:=40) hw (k:=tk) (n:=ts.length) (λh=>by rw[h0 h];rfl) (λb EU=>⟨_,hb b EU,hlen ts⟩) hq hr h1 (by omega) (by omega) (by omega);refine⟨s5,?_,?_,r6,r7,r8⟩
 . rw[tN hc 1 (r:=(.slice s.next 0 (ts.length+1) none 3,s5))]
   .unfold tidy;rw[Za5];exact λh=>lK _ _ _ _ h.1
   rw[we];have sl:∀(K:AV->St->Option (AV×St))(s:St),ai c (.sliceL 3 true false false) [jd tk ts.length 3,.int .i64 (ts.length:Int)] s K=K (slvT tk ts.length) s:=λK s=>by
     refine aT c K (λH n=> ?_) s;cases tk with
     |none=>rw[h0 rfl];rfl
     |some b=>simp[jd,slvT,az.run,nQ,bounds,iB,ee,eu]
   have l1:∀(K:AV->St->Option (AV×St))(s:St),ai c (.lenB .l) [.slice q 0 1 (some 1) 3] s K=K (.int .i64 1) s:=λK s=>aT c K (λH n=>rfl) s
   have l2:∀(K:AV->St->Option (AV×St))(s:St),ai c (.lenB .l) [jd tk ts.length 3] s K=K (.int .i64 (ts.length:Int)) s:=λK s=>aT c K (HC λh=>by rw[h0 h];rfl) s
   simp[sl,l1,l2,r1]
 . cases tk with
   |none=>rw[r2,r5 rfl,h0 rfl];rfl
   |some b=>rw[r2,r4 b _ rfl (hb b rfl)]
def ri(gs:List aI)(ts:List Ty)(t:Ty):Int:=if DM t=false then 23 else if jt gs t=true then 6 else if oJ t ts.getLast? =true then 5 else 0
theorem UB(H:Pos->Option AB)(n:Pos)(es:Nat)(b:Pos)(len:Nat)(cp:Option Nat)(k:IntKind)(i:Nat)(h:i<len):az.run H n (.idxA es none) [.slice b 0 len cp es,.int k (i:Int)]=some (.val (.ptr b (i*es))):=by
 simp[az.run,mQ,iB,AO,h]
theorem WN{gs:List aI}{es:List (AV×AV×Nat)}(h:es.map (·.1)=gs.map λg=>.str g.name)(s:List Nat):
   (¬scan (gw gs s) gs.length 0<0/\∃j v,iw .s (.str s) es 0=some (some (j,v)))\/(scan (gw gs s) gs.length 0<0/\iw .s (.str s) es 0=some none):=by
 rcases Em s gs es 0 h with⟨a,b⟩|⟨a,b⟩
 .left;have:=HD.2 a;exact⟨by omega,b⟩
 . (right;refine⟨?_,b⟩;have:¬0<=scan (gw gs s) gs.length 0:=λe=>a (HD.1 e));omega
theorem abB{s:St}{bp mp:Pos}{x y:AV}{es:List (AV×AV×Nat)}{cl:Nat}{gs:List aI}(hb:s.heap.get bp=some (.cells [x,y,.map mp] 0))(hm:s.heap.get mp=some (.map es cl))(he:es.map (·.1)=gs.map λg=>.str g.name)
   (t:Ty) (lb:Pos) (UC:s.heap.get lb=some (.cells [.str t.a,.str t.b] 0)) (F:Nat) (k1 k2):
   iK c F k1 k2 3 [.ptr bp 0,.str t.a,.str t.b,.int .u8 t.k,.slice lb 0 2 (some 2) 1,.int .i64 2,.int .i64 ((0:Nat):Int)] s=if jt gs t=true then k1 [.int .i64 6] s else k2 [.ptr bp 0,.str t.a,.str t.b,.int .u8 t.k] s:=by
 have w0:aD .i64 (((0:Nat):Int)+1)=((1:Nat):Int):=rfl;have w1:aD .i64 (((1:Nat):Int)+1)=((2:Nat):Int):=rfl;have i0:∀(K:AV->St->Option (AV×St))(s:St),ai c (.idxA 1 none) [.slice lb 0 2 (some 2) 1,.int .i64 ((0:Nat):Int)] s K=K (.ptr lb 0) s:=λK s=>aT c K (λH n=>UB H n 1 lb 2 (some 2) .i64 0 (by omega)) s
 have i1:∀(K:AV->St->Option (AV×St))(s:St),ai c (.idxA 1 none) [.slice lb 0 2 (some 2) 1,.int .i64 ((1:Nat):Int)] s K=K (.ptr lb 1) s:=λK s=>aT c K (λH n=>UB H n 1 lb 2 (some 2) .i64 1 (by omega)) s
 have d0:decide (((0:Nat):Int)<2)=true:=rfl;have d1:decide (((1:Nat):Int)<2)=true:=rfl;have d2:decide (((2:Nat):Int)<2)=false:=rfl;have e0:([AV.str t.a,.str t.b]:List AV)[0]? =some (.str t.a):=rfl;have e1:([AV.str t.a,.str t.b]:List AV)[1]? =some (.str t.b):=rfl;have e2:([x,y,AV.map mp]:List AV)[2]? =some (.map mp):=rfl;rw[pZ];rcases WN he t.a with⟨n1,j,v,f1⟩|⟨n1,f1⟩
 . have lk1:=λ(K:AV->St->Option (AV×St))=>Dw c K (.int .i64 0) (k:= .str t.a) hm f1
   simp only[fF,gS,rZ,d0,mM,i0,sg,UC,hb,av,Ze4,e0,e2,vt,bH,r9,ku,Zb9,lk1,y6,Ze6,Zg0,KW,Zm6,qk,A8,w0];rw[pZ];rcases WN he t.b with⟨n2,j,v,f2⟩|⟨n2,f2⟩
   . have lk2:=λ(K:AV->St->Option (AV×St))=>Dw c K (.int .i64 0) (k:= .str t.b) hm f2
     simp only[fF,gS,rZ,d1,mM,i1,sg,UC,hb,av,Ze4,e1,e2,vt,bH,r9,ku,Zb9,lk2,y6,Ze6,Zg0,KW,Zm6,qk,A8,w1];rw[pZ];have:jt gs t=false:=(by simp[jt,n1,n2]);rw[this];simp only[fF,gS,rZ,d2,qk,Zd4,Zd7]
   . have lk2:=λ(K:AV->St->Option (AV×St))=>Dw c K (.int .i64 0) (k:= .str t.b) hm f2
     have:jt gs t=true:=(by simp[jt,n2]);rw[this];simp only[fF,gS,rZ,d1,mM,i1,sg,UC,hb,av,Ze4,e1,e2,vt,bH,r9,ku,Zb9,lk2,y6,Ze6,Zg0,KW,Zl2,Ze8]
 . have lk1:=λ(K:AV->St->Option (AV×St))=>Dw c K (.int .i64 0) (k:= .str t.a) hm f1
   have:jt gs t=true:=(by simp[jt,n1]);rw[this];simp only[fF,gS,rZ,d0,mM,i0,sg,UC,hb,av,Ze4,e0,e2,vt,bH,r9,ku,Zb9,lk1,y6,Ze6,Zg0,KW,Zl2,Ze8]
theorem adS (hc:Sem c){s0 s:St}{bp mp:Pos}{gs:List aI}{ts:List Ty}{gk tk:Option Pos}(FA:Wf s0)(B:eR s0 s bp mp gs ts gk tk)(hl:ts.length<=200)(t:Ty)(aY:aA t.a t.b=true)(hs:Kj ts)(ht:∀u,ts.getLast? =some u->dM t u=false):
   ∃s',c 259 [.ptr bp 0,.str t.a,.str t.b,.int .u8 t.k] s=some (.int .i64 (ri gs ts t),s')/\(ri gs ts t≠0->s'=s)/\(ri gs ts t=0->∃Fz,eR s0 s' bp mp gs (ts++[t]) gk Fz):=by
 have c9:¬t.a=t.b:=λe=>by rw[e,q8]at aY;cases aY
 have mH:=WH hc s bp mp _ _ B.book;have WO:DM t=true->(t.k=1\/(¬t.k=1/\t.k=2)):=λq=>by
   simp only[DM,Zg6,Zc6]at q;by_cases e:t.k=1
   .exact .inl e
   .exact .inr ⟨e,q.resolve_left e⟩
 by_cases hk:DM t=true
 . have bR  :Wf (af s (.cells [.str t.a,.str t.b] 0)):=bA B.wf;have B1:=B.aE (Grew.af B.wf (.cells [.str t.a,.str t.b] 0));have DN:=Grew.af B.wf (.cells [.str t.a,.str t.b] 0);have UC:(af s (.cells [.str t.a,.str t.b] 0)).heap.get s.next=some (.cells [.str t.a,.str t.b] 0):=aC _ _;generalize JI:af s (.cells [.str t.a,.str t.b] 0)=s1 at bR B1 DN UC;obtain⟨es,cl,iH,hm2⟩:=B1.Cl;have L:∀k1 k2,iK c 3 k1 k2 3 [.ptr bp 0,.str t.a,.str t.b,.int .u8 t.k,.slice s.next 0 2 (some 2) 1,.int .i64 2,.int .i64 0] s1=if jt gs t=true then k1 [.int .i64 6] s1 else k2 [.ptr bp 0,.str t.a,.str t.b,.int .u8 t.k] s1:=λk1 k2=>abB (c:=c) B1.book iH hm2 t s.next UC 3 k1 k2
   have mT:=TH hc B1 (by omega) t aY hs ht;have l2:∀(K:AV->St->Option (AV×St))(s:St),ai c (.lenB .l) [.slice (af s (.cells [] 0)).next 0 2 (some 2) 1] s K=K (.int .i64 2) s:=λK s=>aT c K (λH n=>rfl) s
   have lT:∀(K:AV->St->Option (AV×St))(s:St),ai c (.lenB .l) [jd tk ts.length 3] s K=K (.int .i64 (ts.length:Int)) s:=λK s=>aT c K (HC λh=>by rw[B.zB.1 h];rfl) s
   have WQ:∀(K:AV->St->Option (AV×St)),ai c (.buildSlice 1 2 [(.str [])] [0,1]) [.str t.a,.str t.b] s K=K (.slice s.next 0 2 (some 2) 1) s1:=λK=>by rw[cu, <-JI];have:bS (bF [AV.str []] 2) ([0,1].map λi=>(i*1,1)) [.str t.a,.str t.b]=some [.str t.a,.str t.b]:=(by simp[bS,bF,ee,eu,aK,AV.cells]);rw[this];rfl
   have l3:∀(K:AV->St->Option (AV×St))(p:Pos)(s:St),ai c (.lenB .l) [.slice p 0 2 (some 2) 1] s K=K (.int .i64 2) s:=λK p s=>aT c K (λH n=>rfl) s
   have P1:¬(ts.length:Int)=256:=(by omega);have fail:∀e:Int,e≠0->ri gs ts t=e->su c 3 (.ptr bp 0) (.str t.a) (.str t.b) (.int .u8 t.k) s=some (.int .i64 e,s1)->∃s',c 259 [.ptr bp 0,.str t.a,.str t.b,.int .u8 t.k] s=some (.int .i64 (ri gs ts t),s')/\(ri gs ts t≠0->s'=s)/\(ri gs ts t=0->∃Fz,eR s0 s' bp mp gs (ts++[t]) gk Fz):=λe he ha h=>by
     refine⟨s,?_,λ_=>rfl,λh0=>absurd (ha.symm.trans h0) he⟩;rw[qZ hc 3 h,ha,aq (Plain.int _ _) DN.keeps]
   cases hu:jt gs t
   . cases  hd:oJ t ts.getLast?
     .  have he:ri gs ts t=0:=(by simp[ri,hk,hu,hd]);rw[hd]at mT;have hplc:(FB ts t:Int)=ts.length:=by
          unfold FB;cases hq:ts.getLast? with
          |none=> have:ts=[]:=by simpa using hq
                  subst this;rfl
          | some u=>
            rw[hq]at hd;simp only[oJ,Bool.not_eq_false']at hd;simp only[hd,Ze8]
        rw[hplc]at mT;have VR:=WG hc t.a t.b t.k aY s1 bR
        let s2:=af s1 (.cells t.cells 0)
        have g2:=Grew.af bR (.cells t.cells 0);have B2:=B1.aE g2;obtain⟨s5,r1,r2,r3,r4,r5⟩:=ZM hc (s:=s2) g2.wf (tk:=tk) (ts:=ts) (q:=s1.next) (row:=t.cells) B.zB.1 B2.zB.2 (aC _ _) rfl t.one (by omega);have UD:=B2.lt;have b5:s5.heap.get bp=some (.cells [jd gk gs.length 9,jd tk ts.length 3,.map mp] 0):=by rw[r5 bp B.dt UD.1];exact B2.book
        let tv:=AV.slice s2.next 0 (ts.length+1) none 3
        let s6:=ew s5 bp (.cells [jd gk gs.length 9,tv,.map mp] 0)
        have aby:bp.toNat<s5.next.toNat:=r4 _ _ b5;have nb2:bp≠s2.next:=λe=>absurd (show bp.toNat<s2.next.toNat from UD.1) (by rw[e];exact Zm3 _)
        have st6:∀(K:AV->St->Option (AV×St)),ai c (.store 1) [.ptr bp 1,tv] s5 K=K .undef s6:=λK=>jz c K s5 1 bp 1 tv _ b5 rfl (by simp) rfl
        have g6:∀p,p≠bp->s6.heap.get p=s5.heap.get p:=λp h=>bY (λe=>h e.symm)
        have X0:∀p:Pos,s0.next.toNat<=p.toNat->s0.heap.get p=none:=λp h=>by
          cases hx:s0.heap.get p with
          |none=>rfl
          |some x=>have:=FA _ _ hx;omega
        obtain⟨H7,cl2,ZN,hm4⟩:=B2.Cl;have Rc:mp≠bp:=λe=>by rw[e,B2.book]at ZN;cases ZN
        have nmt:tk≠some mp:=λe=>by rw[B2.zB.2 mp e]at ZN;cases ZN
        have Uy:eR s0 s6 bp mp gs (ts++[t]) gk (some s2.next):={
          wf:=E6 r4 aby
          keeps:=λp x hp=>by
            have n1:p≠bp:=λe=>by rw[e,B.fb]at hp;cases hp
            have n3:tk≠some p:=λe=>by rw[B.ft p e]at hp;cases hp
            have h2:=B2.keeps p x hp;rw[g6 p n1,r5 p n3 (B2.wf _ _ h2)];exact h2
          next:=by show s0.next.toNat<=s5.next.toNat;exact Zc4 B2.next (by rw[r3,Pos.aB];exact Nat.le_succ _)
          book:=by show(ew _ _ _).heap.get bp=_;rw[sk];simp[tv,jd]
          Cl:=⟨H7,cl2,by rw[g6 mp Rc,r5 mp nmt UD.2];exact ZN,hm4⟩
          qv:=⟨B.qv.1,λb hb=>by obtain⟨cs,h3,h4⟩:=B2.qv.2 b hb;refine⟨cs,?_,h4⟩;rw[g6 b (λe=>B.dg (by rw[<-e];exact hb)),r5 b (B.Ra b hb) (B2.wf _ _ h3)];exact h3⟩
          zB:=⟨λh=>(by cases h),λb hb=>by cases hb;rw[g6 _ (λe=>nb2 e.symm),r2];simp⟩
          dg:=B.dg
          dt:=λe=>nb2 (by injection e with e;exact e.symm)
          Ra:=λb hb h=>by
            cases h;obtain⟨cs,h3,h4⟩:=B2.qv.2 _ hb;exact absurd (show s2.next.toNat<s2.next.toNat from B2.wf _ _ h3) (Zm3 _)
          fb:=B.fb
          fm:=B.fm
          fg:=B.fg
          ft:=λb hb=>by cases hb;exact X0 _ B2.next
          M7:=λes' cl' hm=>by have m6:s6.heap.get mp=s2.heap.get mp:=(by rw[g6 mp Rc,r5 mp nmt UD.2]);rw[m6]at hm;exact B2.M7 _ _ hm
          M8:=λes' cl' hm=>by have m6:s6.heap.get mp=s2.heap.get mp:=(by rw[g6 mp Rc,r5 mp nmt UD.2]);rw[m6]at hm;exact B2.M8 _ _ hm
          rows:=λb cs hb hs i u hu=>by
            obtain⟨Ux,h3,h4⟩:=B2.qv.2 b hb;have x6:s6.heap.get b=s2.heap.get b:=(by rw[g6 b (λe=>B.dg (by rw[<-e];exact hb)),r5 b (B.Ra b hb) (B2.wf _ _ h3)]);rw[x6]at hs;(refine(B2.rows b cs hb hs i u hu).to λp cs a1 a2 a3 hx=> ?_);have aY:p.toNat<s2.next.toNat:=B2.wf _ _ hx;refine⟨by rw[g6 p a1,r5 p a3 aY];exact hx,a2,λe=> ?_⟩;cases e;exact absurd aY (Zm3 _) }
        refine⟨s6,?_,λh=>absurd he h,λ_=>⟨_,Uy⟩⟩;rw[he];rw[qZ hc 3 (r:=(.int .i64 0,s6))]
        . rw[Wu (b:=bp) B.book];rw[Uy.book];intro e;have e:=congrArg (λo=>match o with|some (AB.cells (_::v::_) _)=>cN v|_=>none) e;simp only[jd,cN]at e;cases tk with
          |none=>simp[cN,B.zB.1 rfl]at e
          |some b=>simp[cN]at e
        (rw[oG];have bq:fB (jd tk ts.length 3) (jd tk ts.length 3)=true:=(by cases tk;exact MM;exact Jx _ _ _ _);have sL:=λ(K:AV->Option (AV×St))=>BM K (p:=bp) (o:=1) (h:=s1.heap) (h2:=s1.heap) (v:=jd tk ts.length 3) (by rw[B1.book];rfl) (by rw[B1.book];rfl) bq);have wE:bS (bF [AV.str [],AV.str [],.int .u8 0] 1) [(0,3)] [AV.agg t.cells]=some t.cells:=by
          simp[bS,bF,ee,eu,Ty.cells,aK]
        have acr:decide ((ts.length:Int)=256)=false:=H5 P1;rw[hu]at L;rcases WO hk with f|⟨f,f2⟩
        .have d1:decide (t.k=1)=true:=Za0 f;simp[-cu,mH,c9,WQ,l3,d1,L,mT,B1.book,lT,acr,VR,sL,wE];show MK (c 302 [jd tk ts.length 3,.int .i64 (ts.length:Int),.slice s1.next 0 1 (some 1) 3] s2) _=_;rw[r1];exact st6 _
        .have d1:decide (t.k=1)=false:=H5 f;have d2:decide (t.k=2)=true:=Za0 f2;simp[-cu,mH,c9,WQ,l3,d1,d2,L,mT,B1.book,lT,acr,VR,sL,wE];show MK (c 302 [jd tk ts.length 3,.int .i64 (ts.length:Int),.slice s1.next 0 1 (some 1) 3] s2) _=_;rw[r1];exact st6 _
     .  refine fail 5 (by omega) (by simp[ri,hk,hu,hd]) ?_;rw[hd]at mT;rw[hu]at L;rw[oG];rcases WO hk with f|⟨f,f2⟩
        .have d1:decide (t.k=1)=true:=Za0 f;simp[-cu,mH,c9,WQ,l3,d1,L,mT]
        .have d1:decide (t.k=1)=false:=H5 f;have d2:decide (t.k=2)=true:=Za0 f2;simp[-cu,mH,c9,WQ,l3,d1,d2,L,mT]
   . refine fail 6 (by omega) (by simp[ri,hk,hu]) ?_;rw[hu]at L;rw[oG];rcases WO hk with f|⟨f,f2⟩
     .  have d1:decide (t.k=1)=true:=Za0 f;simp[-cu,mH,c9,WQ,l3,d1,L]
     .  have d1:decide (t.k=1)=false:=H5 f;have d2:decide (t.k=2)=true:=Za0 f2;simp[-cu,mH,c9,WQ,l3,d1,d2,L]
 .have hkf:¬t.k=1/\¬t.k=2:=(by simpa [DM]using hk);have he:ri gs ts t=23:=(by simp[ri,hk]);refine⟨s,?_,λ_=>rfl,λh0=>absurd (he.symm.trans h0) (by omega)⟩;rw[qZ hc 3 (r:=(.int .i64 23,s)),he,aq (Plain.int _ _) (aV.refl s)];rw[oG];simp[mH,hkf]
@[simp] theorem afd{R:Type}(K:AV->Option R)(z:Bool)(l:List aI):gL (.lenB .l) [bg z l] K=K (.int .i64 (l.length:Int)):=by unfold bg;rw[aa3];simp
theorem abC{gs:List aI}{k:Nat}(h:k<gs.length)(hk:k<=64):q9 (gs.take k) gs[k]=if eT gs[k]≠0 then eT gs[k]else if 0<=scan (gw gs gs[k].name) k 0 then 5 else if 64<=k then 7 else 0:=by
 have hl:(gs.take k).length=k:=by simp;omega
 unfold q9;rw[hl,Uw (by omega)];have:(k=64)↔64<=k:=by omega
 simp only[this]
@[simp] theorem aeL{R:Type}(c:ah)(K:AV->St->Option R)(st:St)(t:aI)(cs:List AV)(h:cs.length=9):ai c (.store 9) [.ptr st.next 0,.agg t.cells] (af st (.cells cs 0)) K=K .undef (af st (.cells t.cells 0)):=cU c K st 9 (.agg t.cells) cs rfl h.symm t.one
theorem acY (hc:Sem c){s0:St}(FA:Wf s0)(z:Bool)(gs:List aI)(hl:gs.length<=100)(bp mp rp:Pos)(F:Nat)(k1 k2):∀(m k:Nat)(s:St)(gk:Option Pos),eR s0 s bp mp (gs.take k) [] gk none->gs.length<=k+m->k<=gs.length->k<=64->
  ∃ s',aV s0 s'/\(((fZ gs m k).2=0/\(∃Iv,eR s0 s' bp mp gs [] Iv none)/\gK c F k1 k2 (m+1) [.ptr rp 0,.ptr bp 0,bg z gs,.int .i64 (gs.length:Int),.int .i64 (k:Int)] s=k2 [.ptr rp 0,.ptr bp 0] s')\/
    ((fZ gs m k).2≠0/\gK c F k1 k2 (m+1) [.ptr rp 0,.ptr bp 0,bg z gs,.int .i64 (gs.length:Int),.int .i64 (k:Int)] s=k1 [.gq,.int .i64 (fZ gs m k).1,.int .i64 (fZ gs m k).2] s')):=by
 intro m;induction m with
 |zero=>
  intro k s gk B h1 h2 h3;obtain rfl:k=gs.length:=by omega
  refine⟨s,B.keeps,.inl ⟨rfl,⟨gk,by simpa using B⟩,?_⟩⟩;rw[qu];simp
 |succ m ih   =>
  intro k s gk B h1 h2 h3;by_cases h:k<gs.length
  . have w:aD .i64 ((k:Int)+1)=((k+1:Nat):Int):=wrap64 (by omega) (by omega);have B1:=B.aE (Grew.af B.wf (.cells gs[k].cells 0));obtain⟨s2,a1,a2,a3⟩:=adQ hc FA B1 (by simp;omega) gs[k];have hA:=abC h h3;have step:∀(K:AV->St->Option (AV×St)),(ai c (.idxA 9 none) [bg z gs,.int .i64 (k:Int)] s λx19 s12=>ai c (.load (some 9)) [x19] s12 K)=K (.agg gs[k].cells) s:=λK=>by
        simp[bg,h]
    by_cases he:q9 (gs.take k) gs[k]=0
    .   obtain⟨Iv,B2⟩:=a3 he;have e1:gs.take k++[gs[k]]=gs.take (k+1):=(Zb2 h).symm;rw[e1]at B2;rw[hA]at he;have c1:eT gs[k]=0:=by
         by_cases e:eT gs[k]=0
         .  exact e
         .  rw[Za6 e]at he;exact absurd he e
        (rw[Za5 (by rw[c1];simp)]at he;have c2:¬0<=scan (gw gs gs[k].name) k 0:=λe=>by rw[Za6 e]at he;cases he);(rw[Za5 c2]at he;have c3:¬64<=k:=λe=>by rw[Za6 e]at he;cases he);have ec:fZ gs (m+1) k=fZ gs m (k+1):=by
         rw[fZ,H1 h];simp only;rw[Za5 (by rw[c1];simp),Za5 c2,Za5 c3]
        obtain⟨s',g1,g2⟩:=ih (k+1) s2 Iv B2 (by omega) (by omega) (by omega);refine⟨s',g1,?_⟩;rw[ec];have eL:gK c F k1 k2 (m+1+1) [.ptr rp 0,.ptr bp 0,bg z gs,.int .i64 (gs.length:Int),.int .i64 (k:Int)] s=gK c F k1 k2 (m+1) [.ptr rp 0,.ptr bp 0,bg z gs,.int .i64 (gs.length:Int),.int .i64 ((k+1:Nat):Int)] s2:=by
         rw[qu];have hz:q9 (gs.take k) gs[k]=0:=(by rw[hA,Za5 (by rw[c1];simp),Za5 c2,Za5 c3]);rw[hz]at a1;simp[bg,h,a1,w]
        rw[eL];exact g2
    .   obtain rfl:=a2 he;have ec:fZ gs (m+1) k=((k:Int),q9 (gs.take k) gs[k]):=by
         rw[fZ,H1 h];simp only;rw[hA]at he ⊢;by_cases c1:eT gs[k]=0
         .  have e1:¬eT gs[k]≠0:=(by rw[c1];simp);by_cases c2:0<=scan (gw gs gs[k].name) k 0
            .simp only[e1,c2,Zd7,Ze8]
            . by_cases c3:64<=k
              .simp only[e1,c2,c3,Zd7,Ze8]
              .rw[Za5 e1,Za5 c2,Za5 c3]at he;exact absurd rfl he
         .  have e1:eT gs[k]≠0:=c1;rw[Za6 e1,Za6 e1]
        refine⟨_,B1.keeps,.inr ⟨by rw[ec];exact he,?_⟩⟩;rw[ec,qu];simp[bg,h,a1,he]
  .obtain rfl:k=gs.length:=(by omega);have ec:fZ gs (m+1) gs.length=(0,0):=(by rw[fZ,Zb4 (by omega)]);refine⟨s,B.keeps,.inl ⟨by rw[ec],⟨gk,by simpa using B⟩,?_⟩⟩;rw[qu];simp
theorem M9{ts:List Ty}{k:Nat}(h:k<ts.length):(ts.take k).getLast? =kC ts k:=by
 unfold kC;by_cases h0:k=0
 .simp[h0]
 .rw[Za5 h0,List.getLast?_eq_getElem?];have:(ts.take k).length=k:=(by simp;omega);rw[this,Za9,Za6 (by omega)]
theorem abD{ts:List Ty}{k:Nat}(h:k<ts.length)(hs:Kj (ts.take k))(hb:∀u,kC ts k=some u->dM u ts[k]=true):Kj (ts.take (k+1)):=by
 intro i j hj hij;have Ad:j<k+1:=by simp at hj;omega
 simp only[Zk0];by_cases e:j=k
 . subst e;have h1:kC ts j=some (ts[j - 1]'(by omega)):=(by rw[kC,Za5 (by omega),H1 (by omega)]);have h2:=hb _ h1;by_cases e2:i=j - 1
   .subst e2;exact h2
   .have h3:=hs i (j - 1) (by simp;omega) (by omega);simp only[Zk0]at h3;exact HE h3 h2
 .have:=hs i j (by simp;omega) hij;simpa only[Zk0]using this
def OJ(t:Ty)(p:Option Ty):Bool:=match p with|none=>false|some p=>dM t p
theorem abE(t:Ty)(p:Option Ty):So t p=(!DM t|| !aA t.a t.b||OJ t p):=by cases p<;>rfl
def UE(t:Ty)(p:Option Ty):Bool:=aA t.a t.b&& !OJ t p
def eK(gs:List aI)(ts:List Ty)(k:Nat)(t:Ty):Int:=if UE t (kC ts k)=true then ri gs (ts.take k) t else 23
theorem acZ (hc:Sem c){s0:St}(FA:Wf s0)(z z2:Bool)(gs:List aI)(ts:List Ty)(hl:gs.length<=100)(jE:ts.length<=100)(bp mp rp:Pos)(Jh:s0.heap.get rp=some (.cells [bg z gs,bW z2 ts] 0))(gk:Option Pos)(F:Nat)(k1 k4):∀(m k:Nat)(s:St)(tk:Option Pos),eR s0 s bp mp gs (ts.take k) gk tk->Kj (ts.take k)->ts.length<=k+m->k<=ts.length->
  ∃s',aV s0 s'/\((ey gs ts m k).2=0->(∃Fz,eR s0 s' bp mp gs ts gk Fz)/\Kj ts)/\iN c F k1 k4 (m+1) [.ptr rp 0,.ptr bp 0,bW z2 ts,.int .i64 (ts.length:Int),.int .i64 (k:Int)] s=if(ey gs ts m k).2=0 then k4 [.ptr bp 0] s' else k1 [.gq,.int .i64 (ey gs ts m k).1,.int .i64 (ey gs ts m k).2] s':=by
 intro m;induction m with
 |zero=>
  intro k s tk B hs h1 h2;obtain rfl:k=ts.length:=by omega
  refine⟨s,B.keeps,λ_=>⟨⟨tk,by simpa using B⟩,by simpa using hs⟩,?_⟩;rw[qt];simp[ey]
 |succ m ih   =>
  intro k s tk B hs h1 h2;by_cases h:k<ts.length
  . have w:aD .i64 ((k:Int)+1)=((k+1:Nat):Int):=wrap64 (by omega) (by omega);have wg:aD .i64 ((gs.length:Int)+(k:Int))=(gs.length:Int)+k:=wrap64 (by omega) (by omega);have B1:=B.aE (Grew.af B.wf (.cells ts[k].cells 0));have dm:(af s (.cells ts[k].cells 0)).heap.get rp=some (.cells [bg z gs,bW z2 ts] 0):=B1.keeps _ _ Jh;have bR:=B1.wf;have P1:¬256<=k:=(by omega);have ec:ey gs ts (m+1) k=if eK gs ts k ts[k]≠0 then((gs.length:Int)+k,eK gs ts k ts[k])else ey gs ts m (k+1):=by rw[ey,H1 h];simp only[P1,Zd7];rw[abE];unfold eK UE ri;rw[M9 h];cases DM ts[k]<;>cases aA ts[k].a ts[k].b<;>cases OJ ts[k] (kC ts k)<;>cases jt gs ts[k]<;>cases oJ ts[k] (kC ts k)<;>simp
    have MD   :UE ts[k] (kC ts k)=true->∃s',aV s0 s'/\(eK gs ts k ts[k]=0->(ey gs ts m (k+1)).2=0->(∃Fz,eR s0 s' bp mp gs ts gk Fz)/\Kj ts)/\∃s2,c 259 [.ptr bp 0,.str ts[k].a,.str ts[k].b,.int .u8 ts[k].k] (af s (.cells ts[k].cells 0))=some (.int .i64 (eK gs ts k ts[k]),s2)/\s2.heap.get rp=some (.cells [bg z gs,bW z2 ts] 0)/\
          (eK gs ts k ts[k]≠0->s'=s2)/\(eK gs ts k ts[k]=0->
            iN c F k1 k4 (m+1) [.ptr rp 0,.ptr bp 0,bW z2 ts,.int .i64 (ts.length:Int),.int .i64 ((k+1:Nat):Int)] s2=if(ey gs ts m (k+1)).2=0 then k4 [.ptr bp 0] s' else k1 [.gq,.int .i64 (ey gs ts m (k+1)).1,.int .i64 (ey gs ts m (k+1)).2] s'):=λct=>by
        have UF:=ct;simp only[UE,Za4,Zg9]at UF;obtain⟨b2,b3⟩:=UF;have aeM:∀u,(ts.take k).getLast? =some u->dM ts[k] u=false:=λu hu=>by rw[M9 h]at hu;rw[hu]at b3;exact b3
        obtain⟨s2,a1,a2,a3⟩:=adS hc FA B1 (by simp;omega) ts[k] b2 hs aeM;have et:eK gs ts k ts[k]=ri gs (ts.take k) ts[k]:=(by unfold eK;rw[Za6 ct]);rw[<-et]at a1 a2 a3;by_cases h0:eK gs ts k ts[k]=0
        . obtain⟨Fz,B2⟩:=a3 h0;have e1:ts.take k++[ts[k]]=ts.take (k+1):=(Zb2 h).symm;rw[e1]at B2;have hd:oJ ts[k] (kC ts k)=false:=by
            rw[et,ri,M9 h]at h0;cases hq:oJ ts[k] (kC ts k)
            .rfl
            . rw[hq]at h0;split at h0
              .simp at h0
              .split at h0<;>simp at h0
          have zl:=abD h hs (λu hu2=>by rw[hu2]at hd;simpa [oJ]using hd);obtain⟨s',g1,gB,g2⟩:=ih (k+1) s2 Fz B2 zl (by omega) (by omega);exact⟨s',g1,λ_=>gB,s2,a1,B2.keeps _ _ Jh,λe=>absurd h0 e,λ_=>g2⟩
        .obtain rfl:=a2 h0;exact⟨_,B1.keeps,λe=>absurd e h0,_,a1,dm,λ_=>rfl,λe=>absurd e h0⟩
    rw[ec];cases ct:UE ts[k] (kC ts k)
    ·
        have e23:eK gs ts k ts[k]=23:=(by unfold eK;rw[ct];rfl);refine⟨_,B1.keeps,λe=>(by rw[e23,Za6 (by decide)]at e;cases e),?_⟩;rw[qt,e23];cases q1:aA ts[k].a ts[k].b
        .simp[bW,h,q1,dK,dm,wg]
        . have q2:OJ ts[k] (kC ts k)=true:=(by simpa [UE,q1]using ct);have vq:¬k=0:=λe=>by rw[kC,Za6 e]at q2;cases q2
          have nu:k - 1<ts.length:=(by omega);have wk:aD .i64 ((k:Int) - 1)=((k - 1:Nat):Int):=(by rw[wrap64 (by omega) (by omega)];omega);have q3:dM ts[k] ts[k - 1]=true:=(by rw[kC,Za5 vq,H1 nu]at q2;exact q2);have ho:=Ck hc ts[k - 1] ts[k] _ bR;have ya:¬nv ts[k - 1] ts[k]<=0:=(by have:=K8.2 q3;omega);simp[bW,h,q1,dK,dm,wg,vq,nu,wk,ho,ya]
    .   obtain⟨s',g1,gB,s2,t1,t2,t3,t4⟩:=MD ct;refine⟨s',g1,λe=>by
          by_cases he:eK gs ts k ts[k]=0
          .exact gB he (by rw[Za5 (by simp[he])]at e;exact e)
          .rw[Za6 he]at e;exact absurd e he,?_⟩
        rw[qt];have UF:=ct;simp only[UE,Za4,Zg9]at UF;obtain⟨q1,q2⟩:=UF;by_cases he:eK gs ts k ts[k]=0
        . have t4:=t4 he;rw[he]at t1;simp only[he,ne_eq,not_true,Zd7];rw[<-t4];by_cases vq:k=0
          .have dk:decide ((k:Int)=0)=true:=Za0 (by omega);have dk':decide (k=0)=true:=Za0 vq;clear vq;simp[bW,h,q1,dK,dm,dk,dk',t1,w]
          . have nu:k - 1<ts.length:=(by omega);have wk:aD .i64 ((k:Int) - 1)=((k - 1:Nat):Int):=(by rw[wrap64 (by omega) (by omega)];omega);have q3:dM ts[k] ts[k - 1]=false:=(by rw[kC,Za5 vq,H1 nu]at q2;exact q2);have ho:=Ck hc ts[k - 1] ts[k] _ bR;have ya:nv ts[k - 1] ts[k]<=0:=by
              have:¬0<nv ts[k - 1] ts[k]:=λe=>by rw[K8.1 e]at q3;cases q3
              omega
            simp[bW,h,q1,dK,dm,vq,nu,wk,ho,ya,t1,w]
        . obtain rfl:=t3 he;simp only[he,ne_eq,Zl0,Ze8,Zd7];by_cases vq:k=0
          .have dk:decide ((k:Int)=0)=true:=Za0 (by omega);have dk':decide (k=0)=true:=Za0 vq;clear vq;simp[bW,h,q1,dK,dm,dk,dk',t1,t2,wg,he]
          . have nu:k - 1<ts.length:=(by omega);have wk:aD .i64 ((k:Int) - 1)=((k - 1:Nat):Int):=(by rw[wrap64 (by omega) (by omega)];omega);have q3:dM ts[k] ts[k - 1]=false:=(by rw[kC,Za5 vq,H1 nu]at q2;exact q2);have ho:=Ck hc ts[k - 1] ts[k] _ bR;have ya:nv ts[k - 1] ts[k]<=0:=by
              have:¬0<nv ts[k - 1] ts[k]:=λe=>by rw[K8.1 e]at q3;cases q3
              omega
            simp[bW,h,q1,dK,dm,vq,nu,wk,ho,ya,t1,t2,wg,he]
  .obtain rfl:k=ts.length:=(by omega);refine⟨s,B.keeps,λ_=>⟨⟨tk,by simpa using B⟩,by simpa using hs⟩,?_⟩;rw[qt];have ec:ey gs ts (m+1) ts.length=(0,0):=(by rw[ey,Zb4 (by omega)]);simp[ec]
theorem P3(hc:Sem c)(z z2:Bool)(gs:List aI)(ts:List Ty)(hl:gs.length<=100)(jE:ts.length<=100)(s:St)(hw:Wf s):
   ∃v s',c 198 [.agg [bg z gs,bW z2 ts]] s=some (.tuple [v,.int .i64 (bD gs ts).1,.int .i64 (bD gs ts).2],s')/\aV s s'/\((bD gs ts).2=0->∃bp mp gk tk,v= .ptr bp 0/\eR (af s (.cells [bg z gs,bW z2 ts] 0)) s' bp mp gs ts gk tk/\Kj ts):=by
 let s0:=af s (.cells [bg z gs,bW z2 ts] 0)
 have FA:Wf s0:=bA hw;have k0:aV s s0:=bk hw;have Jh:s0.heap.get s.next=some (.cells [bg z gs,bW z2 ts] 0):=aC _ _;have SV:=adP hc s0;have B:=eR.start FA
 have finish:∀{v:AV}{s':St},xD c 102 (.agg [bg z gs,bW z2 ts]) s=some (.tuple [v,.int .i64 (bD gs ts).1,.int .i64 (bD gs ts).2],s')->aV s0 s'->((bD gs ts).2=0->∃bp mp gk tk,v= .ptr bp 0/\eR s0 s' bp mp gs ts gk tk/\Kj ts)->
     ∃v s',c 198 [.agg [bg z gs,bW z2 ts]] s=some (.tuple [v,.int .i64 (bD gs ts).1,.int .i64 (bD gs ts).2],s')/\aV s s'/\((bD gs ts).2=0->∃bp mp gk tk,v= .ptr bp 0/\eR s0 s' bp mp gs ts gk tk/\Kj ts):=λ{v s'} h hk hB=>by
   have h2:=PG hc 102 h;unfold tidy at h2;split at h2
   .rename_i hp;exact⟨v,s,h2,aV.refl s,λe=>by obtain⟨bp,mp,gk,tk,rfl,_⟩:=hB e;exact absurd hp.1 RH⟩
   .exact⟨v,s',h2,k0.trans hk,hB⟩
 obtain⟨s1,g1,g2⟩:=acY hc FA z gs hl (af s0 (.map [] 0)).next s0.next s.next 102 (λvs ZO=>dW vs λx2 vs=>dW vs λx3 vs=>dW vs λx4 vs=>fP vs (some (.tuple [x2,x3,x4],ZO))) (λvs ZP=>dW vs λx1 vs=>dW vs λx5 vs=>fP vs (
   ai c (.fieldA 1) [x1] ZP λZQ ZR=>ai c (.load none) [ZQ] ZR λMb Uo=>ai c (.lenB .l) [Mb] Uo λZS Up=>ai c .move [(.int .i64 0)] Up λZT Uq=>
   iN c 102 (λvs UG=>dW vs λx2 vs=>dW vs λx3 vs=>dW vs λx4 vs=>fP vs (some (.tuple [x2,x3,x4],UG))) (λvs UH=>dW vs λx5 vs=>fP vs (
     ai c .move [x5] UH λUI UJ=>ai c .move [UI] UJ λx2 UK=>ai c .move [(.int .i64 0)] UK λx3 UL=>ai c .move [(.int .i64 0)] UL λx4 UM=>some (.tuple [x2,x3,x4],UM))) 102 [x1,x5,Mb,ZS,ZT] Uq)) 101 0 _ none B (by omega) (by omega) (by omega)
 have ZU:∀r,gK c 102 (λvs ZO=>dW vs λx2 vs=>dW vs λx3 vs=>dW vs λx4 vs=>fP vs (some (.tuple [x2,x3,x4],ZO))) (λvs ZP=>dW vs λx1 vs=>dW vs λx5 vs=>fP vs (
   ai c (.fieldA 1) [x1] ZP λZQ ZR=>ai c (.load none) [ZQ] ZR λMb Uo=>ai c (.lenB .l) [Mb] Uo λZS Up=>ai c .move [(.int .i64 0)] Up λZT Uq=>
   iN c 102 (λvs UG=>dW vs λx2 vs=>dW vs λx3 vs=>dW vs λx4 vs=>fP vs (some (.tuple [x2,x3,x4],UG))) (λvs UH=>dW vs λx5 vs=>fP vs (
     ai c .move [x5] UH λUI UJ=>ai c .move [UI] UJ λx2 UK=>ai c .move [(.int .i64 0)] UK λx3 UL=>ai c .move [(.int .i64 0)] UL λx4 UM=>some (.tuple [x2,x3,x4],UM))) 102 [x1,x5,Mb,ZS,ZT] Uq)) 102 [.ptr s.next 0,.ptr (af s0 (.map [] 0)).next 0,bg z gs,.int .i64 (gs.length:Int),.int .i64 ((0:Nat):Int)] (af (af s0 (.map [] 0)) (.cells [.ax,.ax,.map s0.next] 0))=r->xD c 102 (.agg [bg z gs,bW z2 ts]) s=r:=λr h=>by
   rw[<-h,T8];have hb:=(B.keeps _ _ Jh)
   simp only[pO,Ki,bH,Ju];show MK (c 256 [] s0) _=_;rw[SV];simp only[vu,ku,sg,hb,av,Ze4,Ze6,Zb9,vt,abr];rfl
 rcases g2 with⟨q1,⟨Iv,B2⟩,q3⟩|⟨q1,q3⟩
 . have e:bD gs ts=ey gs ts 101 0:=(by rw[bD,Za5 (by simp[q1])]);obtain⟨s2,r1,rB,r2⟩:=acZ hc FA z z2 gs ts hl jE (af s0 (.map [] 0)).next s0.next s.next Jh Iv 102 (λvs UG=>dW vs λx2 vs=>dW vs λx3 vs=>dW vs λx4 vs=>fP vs (some (.tuple [x2,x3,x4],UG))) (λvs UH=>dW vs λx5 vs=>fP vs (
     ai c .move [x5] UH λUI UJ=>ai c .move [UI] UJ λx2 UK=>ai c .move [(.int .i64 0)] UK λx3 UL=>ai c .move [(.int .i64 0)] UL λx4 UM=>some (.tuple [x2,x3,x4],UM))) 101 0 s1 none (by simpa using B2) (by intro i j hj;simp at hj) (by omega) (by omega)
   have u7:s1.heap.get s.next=some (.cells [bg z gs,bW z2 ts] 0):=B2.keeps _ _ Jh;have hL:=ZU _ q3;simp only[fF,gS,ku,sg,u7,av,Ze4,Zg0,Ze6,Zb9,vt,abt,bH]at hL;have Re:=r2;rw[show(((0:Nat):Int))=0 from rfl]at Re;simp only[bH,Nat.reduceAdd]at Re;rw[Re]at hL;rw[e]at finish ⊢;by_cases h2:(ey gs ts 101 0).2=0
   . have h3:=HA gs ts 101 0 h2;rw[Za6 h2]at hL;simp only[fF,gS]at hL;exact finish (by rw[h2,h3];exact hL) r1 (λe=>by
        obtain⟨⟨Fz,B3⟩,hs⟩:=rB e;exact⟨_,_,_,_,rfl,B3,hs⟩)
   .rw[Za5 h2]at hL;simp only[fF,gS]at hL;exact finish hL r1 (λe=>absurd e h2)
 .have e:bD gs ts=fZ gs 101 0:=(by rw[bD,Za6 q1]);have hL:=ZU _ q3;simp only[fF,gS]at hL;rw[e]at finish ⊢;exact finish hL g1 (λe=>absurd e q1)
structure Rl where
 k:Int
 wt:Int
 a:List Nat
 b:List Nat
 t:List Nat
 n:Int
def Rl.cells(r:Rl):List AV:=[.int .u8 r.k,.int .i64 r.wt,.str r.a,.str r.b,.str r.t,.int .i64 r.n]
@[simp] theorem Rl.c0(t:Rl):t.cells[0]? =some (.int .u8 t.k):=id rfl
@[simp] theorem Rl.c1(t:Rl):t.cells[1]? =some (.int .i64 t.wt):=id rfl
@[simp] theorem Rl.c2(t:Rl):t.cells[2]? =some (.str t.a):=id rfl
@[simp] theorem Rl.c3(t:Rl):t.cells[3]? =some (.str t.b):=id rfl
@[simp] theorem Rl.c4(t:Rl):t.cells[4]? =some (.str t.t):=id rfl
@[simp] theorem Rl.c5(t:Rl):t.cells[5]? =some (.int .i64 t.n):=id rfl
@[simp] theorem Rl.cc(t:Rl):cut t.cells 0 6=some t.cells:=bw rfl
@[simp] theorem Rl.one(t:Rl):aU t.cells=true:=id rfl
def gX(z:Bool)(rs:List Rl):AV:=ro 6 z (rs.map Rl.cells)
@[simp] theorem afe{R:Type}(c:ah)(K:AV->St->Option R)(st:St)(z:Bool)(l:List Rl):ai c (.lenB .l) [gX z l] st K=K (.int .i64 (l.length:Int)) st:=by unfold gX;rw[bO];simp
@[simp] theorem aeN{R:Type}(c:ah)(K:AV->St->Option R)(st:St)(z:Bool)(l:List aF):ai c (.lenB .l) [tabs z l] st K=K (.int .i64 (l.length:Int)) st:=by unfold tabs;rw[bO];simp
structure aO where
 tz:Bool
 ts:List aF
 gz:Bool
 gs:List aI
 yz:Bool
 ys:List Ty
 cz:Bool
 cs:List Int
 rz:Bool
 rs:List Rl
def aO.cells(p:aO):List AV:=[tabs p.tz p.ts,bg p.gz p.gs,bW p.yz p.ys,ints p.cz p.cs,gX p.rz p.rs]
@[simp] theorem aO.c0(p:aO):p.cells[0]? =some (tabs p.tz p.ts):=id rfl
@[simp] theorem aO.c1(p:aO):p.cells[1]? =some (bg p.gz p.gs):=id rfl
@[simp] theorem aO.c2(p:aO):p.cells[2]? =some (bW p.yz p.ys):=id rfl
@[simp] theorem aO.c3(p:aO):p.cells[3]? =some (ints p.cz p.cs):=id rfl
@[simp] theorem aO.c4(p:aO):p.cells[4]? =some (gX p.rz p.rs):=id rfl
@[simp] theorem aO.cc(p:aO):cut p.cells 0 5=some p.cells:=bw rfl
structure aO.fN(p:aO):Prop where
 ts:p.ts.length<=100
 gs:p.gs.length<=100
 ys:p.ys.length<=100
 cs:p.cs.length<=100
 rs:p.rs.length<=100
 ok:∀t∈p.ts,t.Ok
def jQ(l:List Int):Bool:=l.all λc=>decide (0<=c)&&decide (c<64)
def fj(p:aO):Int×Int:=
 if(bh p.ts).2≠0 then bh p.ts else if(bD p.gs p.ys).2≠0 then bD p.gs p.ys
 else if p.cs.length≠0/\p.cs.length≠p.gs.length then(0,44)else if jQ p.cs=false then(0,44)
 else if aW p.ts<p.gs.length then(0,45)else(0,0)
theorem VG{p:aO}(h:(fj p).2=0):(fj p).1=0:=by
 unfold fj at h ⊢;by_cases h1:(bh p.ts).2≠0
 .rw[Za6 h1]at h;exact absurd h h1
 rw[Za5 h1]at h ⊢;by_cases h2:(bD p.gs p.ys).2≠0
 .rw[Za6 h2]at h;exact absurd h h2
 rw[Za5 h2]
 repeat' split
 all_goals rfl
theorem X2(p:aO)(hp:p.fN)(q:Pos)(F:Nat)(s:St)(k1 k2):∀(m k:Nat),p.cs.length<=k+m->k<=p.cs.length->
  lq c F k1 k2 (m+1) [.ptr q 0,ints p.cz p.cs,.int .i64 (p.cs.length:Int),.int .i64 (k:Int)] s=if jQ (p.cs.drop k)=true then k2 [.ptr q 0] s else k1 [.int .i64 0,.int .i64 44] s:=by
 have hl:=hp.cs;intro m;induction m with
 |zero=>
  intro k h1 h2;obtain rfl:k=p.cs.length:=by omega
  rw[DB];simp[jQ]
 |succ m ih=>
  intro k h1 h2;rw[DB];by_cases h:k<p.cs.length
  . have e:p.cs.drop k=p.cs[k]::p.cs.drop (k+1):=Zb5 h;have w:aD .i64 ((k:Int)+1)=((k+1:Nat):Int):=wrap64 (by omega) (by omega);have:=ih (k+1) (by omega) (by omega);have ec:jQ (p.cs.drop k)=((decide (0<=p.cs[k])&&decide (p.cs[k]<64))&&jQ (p.cs.drop (k+1))):=(by rw[e];rfl);rw[ec];generalize jQ (p.cs.drop (k+1))=rest at this ⊢;by_cases h3:p.cs[k]<0
    .   have h4:(decide (0<=p.cs[k])&&decide (p.cs[k]<64))=false:=(by simp;omega);rw[h4];simp[ints,h,h3]
    .   by_cases h5:64<=p.cs[k]
        .have h4:(decide (0<=p.cs[k])&&decide (p.cs[k]<64))=false:=(by simp;omega);rw[h4];simp[ints,h,h3,h5]
        .have h4:(decide (0<=p.cs[k])&&decide (p.cs[k]<64))=true:=(by simp;omega);rw[h4,Ze0, <-this];simp[ints,h,h3,h5,w]
  .obtain rfl:k=p.cs.length:=(by omega);simp[jQ]
theorem RU(p:aO)(hp:p.fN)(q:Pos)(F:Nat)(s:St)(hq:s.heap.get q=some (.cells p.cells 0))(k1 k2):∀(m k:Nat),p.cs.length<=k+m->k<=p.cs.length->
  fo c F k1 k2 (m+1) [.ptr q 0,.int .i64 (k:Int)] s=if jQ (p.cs.drop k)=true then k2 [.ptr q 0] s else k1 [.int .i64 0,.int .i64 44] s:=by
 have hl:=hp.cs;intro m;induction m with
 |zero=>
  intro k h1 h2;obtain rfl:k=p.cs.length:=by omega
  rw[sA];simp[jQ,hq]
 |succ m ih=>
  intro k h1 h2;rw[sA];by_cases h:k<p.cs.length
  . have e:p.cs.drop k=p.cs[k]::p.cs.drop (k+1):=Zb5 h;have w:aD .i64 ((k:Int)+1)=((k+1:Nat):Int):=wrap64 (by omega) (by omega);have:=ih (k+1) (by omega) (by omega);have ec:jQ (p.cs.drop k)=((decide (0<=p.cs[k])&&decide (p.cs[k]<64))&&jQ (p.cs.drop (k+1))):=(by rw[e];rfl);rw[ec];generalize jQ (p.cs.drop (k+1))=rest at this ⊢;by_cases h3:p.cs[k]<0
    .   have h4:(decide (0<=p.cs[k])&&decide (p.cs[k]<64))=false:=(by simp;omega);rw[h4];simp[hq,ints,h,h3]
    .   by_cases h5:64<=p.cs[k]
        .have h4:(decide (0<=p.cs[k])&&decide (p.cs[k]<64))=false:=(by simp;omega);rw[h4];simp[hq,ints,h,h3,h5]
        .have h4:(decide (0<=p.cs[k])&&decide (p.cs[k]<64))=true:=(by simp;omega);rw[h4,Ze0, <-this];simp[hq,ints,h,h3,h5,w]
  .obtain rfl:k=p.cs.length:=(by omega);simp[jQ,hq]
theorem RV(hc:Sem c)(z:Bool)(ts:List aF)(hl:ts.length<=100)(F:Nat)(s:St)(hw:Wf s)(k2):∀(m k:Nat),ts.length<=k+m->k<=ts.length->
  dw c F k2 (m+1) [tabs z ts,.int .i64 (ts.length:Int),.int .i64 (aW (ts.take k)),.int .i64 (k:Int)] s=k2 [.int .i64 (aW ts)] s:=by
 intro m;induction m with
 |zero=>
  intro k h1 h2;obtain rfl:k=ts.length:=by omega
  rw[iT];simp
 |succ m ih=>
  intro k h1 h2;rw[iT];by_cases h:k<ts.length
  . have w:aD .i64 ((k:Int)+1)=((k+1:Nat):Int):=wrap64 (by omega) (by omega);have hs:=xI hc ts[k] s hw;have e:aW (ts.take (k+1))=aW (ts.take k)+bN ts[k]:=by
        rw[Zb2 h,AS]
    have b1:=uX (ts.take k);have b2:=tP ts[k];have b3:(ts.take k).length<=100:=(by simp;omega);have w2:aD .i64 (aW (ts.take k)+bN ts[k])=aW (ts.take (k+1)):=(by rw[e];exact wrap64 (by omega) (by omega));rw[<-ih (k+1) (by omega) (by omega)];simp[tabs,h,hs,w,w2]
  .obtain rfl:k=ts.length:=(by omega);simp
theorem Mc(hc:Sem c)(z:Bool)(ts:List aF)(hl:ts.length<=100)(s:St)(hw:Wf s):c 101 [tabs z ts] s=some (.int .i64 (aW ts),s):=by
 have hF:c 111 [tabs z ts,.int .i64 (ts.length:Int)] s=some (.int .i64 (aW ts),s):=by
  rw[tM hc 101 (r:=(.int .i64 (aW ts),s)),aq (Plain.int _ _) (aV.refl s)];rw[w9];have L:∀k2,dw c 101 k2 101 [tabs z ts,.int .i64 (ts.length:Int),.int .i64 0,.int .i64 0] s=k2 [.int .i64 (aW ts)] s:=λk2=>by have:=RV hc z ts hl 101 s hw k2 100 0 (by omega) (by omega);simpa [aW]using this
  simp[L]
 rw[Eg hc 1 (r:=(.int .i64 (aW ts),s)),aq (Plain.int _ _) (aV.refl s)];rw[G8];simp[hF]
theorem X3{d:Nat}(z:Bool)(l:List Int):dR (d+1) (ints z l):=dR.ro λr hr v hv=>by simp only[Zf3]at hr;obtain⟨i,_,rfl⟩:=hr;simp only[Zc3]at hv;subst hv;exact dR.int _ _
theorem X4{d:Nat}(z:Bool)(l:List (List Nat)):dR (d+1) (dL z l):=dR.ro λr hr v hv=>by simp only[Zf3]at hr;obtain⟨i,_,rfl⟩:=hr;simp only[Zc3]at hv;subst hv;exact dR.str _
theorem HF(z:Bool)(l:List aI):dR 3 (bg z l):=dR.ro λr hr v hv=>by simp only[Zf3]at hr;obtain⟨g,_,rfl⟩:=hr;simp only[aI.cells,Za2,Zd0,Zh2]at hv;rcases hv with rfl|rfl|rfl|rfl|rfl|rfl|rfl|rfl|rfl<;>first|exact dR.str _|exact dR.int _ _|exact dR.bool _|exact X4 _ _
theorem ZV(z:Bool)(l:List Rl):dR 3 (gX z l):=dR.ro λr hr v hv=>by simp only[Zf3]at hr;obtain⟨g,_,rfl⟩:=hr;simp only[Rl.cells,Za2,Zd0,Zh2]at hv;rcases hv with rfl|rfl|rfl|rfl|rfl|rfl<;>first|exact dR.str _|exact dR.int _ _|exact dR.bool _
theorem gb(z z2:Bool)(gs:List aI)(ts:List Ty):bS [.ax,.ax] [(0,1),(1,1)] [bg z gs,bW z2 ts]=some [bg z gs,bW z2 ts]:=by have e1:(bg z gs).cells=[bg z gs]:=TB _ _ _;have e2:(bW z2 ts).cells=[bW z2 ts]:=TB _ _ _;unfold bS;rw[e1];show bS [bg z gs,.ax] [(1,1)] [bW z2 ts]=_;unfold bS;rw[e2];rfl
def Kk(c:ah)(p:aO):Prop:=(∀st,Wf st->c 150 [.agg [bg p.gz p.gs,bW p.yz p.ys]] st=some (.tuple [.int .i64 (bD p.gs p.ys).1,.int .i64 (bD p.gs p.ys).2],st))/\
 ∀st,Wf st->c 137 [.agg [bg p.gz p.gs,bW p.yz p.ys]] st=some (.tuple [.int .i64 (bD p.gs p.ys).1,.int .i64 (bD p.gs p.ys).2],st)
theorem abF (hc:Sem c)(p:aO)(hp:p.fN)(hR:Kk c p)(st:St)(hw:Wf st):c 119 [.agg p.cells] st=some (.tuple [.int .i64 (fj p).1,.int .i64 (fj p).2],st):=by
 have bR:Wf (af st (.cells p.cells 0)):=bA hw;have DN:=Grew.af hw (.cells p.cells 0);have dm:(af st (.cells p.cells 0)).heap.get st.next=some (.cells p.cells 0):=aC _ _;have A:=Ma hc p.tz p.ts hp.ok _ bR;have B:=hR.1 _ bR;have D:=yN hc p.tz p.ts hp.ok _ bR;have L:∀k1 k2,lq c 101 k1 k2 101 [.ptr st.next 0,ints p.cz p.cs,.int .i64 (p.cs.length:Int),.int .i64 0] (af st (.cells p.cells 0))=if jQ p.cs=true then k2 [.ptr st.next 0] (af st (.cells p.cells 0))else k1 [.int .i64 0,.int .i64 44] (af st (.cells p.cells 0)):=
   λk1 k2=>X2 (c:=c) p hp st.next 101 (af st (.cells p.cells 0)) k1 k2 100 0 (by have:=hp.cs;omega) (by omega)
 have sL:=λ(K:AV->Option (AV×St))=>BM K (p:=st.next) (o:=1) (h:=(af st (.cells p.cells 0)).heap) (h2:=(af st (.cells p.cells 0)).heap) (v:=bg p.gz p.gs) (by rw[dm];rfl) (by rw[dm];rfl) (vw (HF _ _))
 rw[PA hc 101 (r:=(.tuple [.int .i64 (fj p).1,.int .i64 (fj p).2],af st (.cells p.cells 0))),aq (Plain.tuple (by simp[Plain.int])) DN.keeps];rw[TZ];unfold fj;by_cases h1:(bh p.ts).2=0
 . by_cases h2:(bD p.gs p.ys).2=0
   . simp only[h1,Ze8]at D;by_cases h3:p.cs.length=0
     .  have h4:p.cs=[]:=(by simpa using h3);have L1:jQ p.cs=true:=(by rw[h4];rfl);have e0:((p.cs.length:Nat):Int)=0:=(by omega);simp only[L1,Ze8,e0]at L;by_cases h6:aW p.ts<p.gs.length
        .simp[gb,h1,h2,h3,A,B,D,dm,L1,L,sL,h6]
        .simp[gb,h1,h2,h3,A,B,D,dm,L1,L,sL,h6]
     .  by_cases h4:p.cs.length=p.gs.length
        . cases h5:jQ p.cs with
          | false=>
            simp only[h5,Zd4,Zd7,h4]at L;have h7:0<p.cs.length:=(by omega);have h8:0<p.gs.length:=(by omega);simp[gb,h1,h2,h3,h4,h5,h7,h8,A,B,dm,L]
          | true=>
            simp only[h5,Ze8,h4]at L;have h7:0<p.cs.length:=(by omega);have h8:0<p.gs.length:=(by omega);by_cases h6:aW p.ts<p.gs.length
            .simp[gb,h1,h2,h3,h4,h5,h7,h8,A,B,D,dm,L,sL,h6]
            .simp[gb,h1,h2,h3,h4,h5,h7,h8,A,B,D,dm,L,sL,h6]
        .have h7:0<p.cs.length:=(by omega);have h4i:¬((p.cs.length:Int)=(p.gs.length:Int)):=(by omega);simp[gb,h1,h2,h3,h4,h4i,h7,A,B,dm]
   .simp[gb,h1,h2,A,B,dm]
 .simp[h1,A,dm]
theorem VH (hc:Sem c)(p:aO)(hp:p.fN)(hR:Kk c p)(st:St)(hw:Wf st):c 108 [.agg p.cells] st=some (.tuple [.int .i64 (fj p).1,.int .i64 (fj p).2],st):=by
 have bR:Wf (af st (.cells p.cells 0)):=bA hw;have DN:=Grew.af hw (.cells p.cells 0);have dm:(af st (.cells p.cells 0)).heap.get st.next=some (.cells p.cells 0):=aC _ _;have A:=PU hc p.tz p.ts hp.ok _ bR;have B:=hR.2 _ bR;have D:=Mc hc p.tz p.ts hp.ts _ bR;have L:∀k1 k2,fo c 101 k1 k2 101 [.ptr st.next 0,.int .i64 0] (af st (.cells p.cells 0))=if jQ p.cs=true then k2 [.ptr st.next 0] (af st (.cells p.cells 0))else k1 [.int .i64 0,.int .i64 44] (af st (.cells p.cells 0)):=
   λk1 k2=>RU (c:=c) p hp st.next 101 (af st (.cells p.cells 0)) dm k1 k2 100 0 (by have:=hp.cs;omega) (by omega)
 have sL:=λ(K:AV->Option (AV×St))=>BM K (p:=st.next) (o:=1) (h:=(af st (.cells p.cells 0)).heap) (h2:=(af st (.cells p.cells 0)).heap) (v:=bg p.gz p.gs) (by rw[dm];rfl) (by rw[dm];rfl) (vw (HF _ _))
 rw[Eh hc 101 (r:=(.tuple [.int .i64 (fj p).1,.int .i64 (fj p).2],af st (.cells p.cells 0))),aq (Plain.tuple (by simp[Plain.int])) DN.keeps];rw[G9];unfold fj;by_cases h1:(bh p.ts).2=0
 . by_cases h2:(bD p.gs p.ys).2=0
   . by_cases h3:p.cs.length=0
     .  have h4:p.cs=[]:=(by simpa using h3);have L1:jQ p.cs=true:=(by rw[h4];rfl);simp only[L1,Ze8]at L;by_cases h6:aW p.ts<p.gs.length
        .simp[gb,h1,h2,h3,A,B,D,dm,L1,L,sL,h6]
        .simp[gb,h1,h2,h3,A,B,D,dm,L1,L,sL,h6]
     .  by_cases h4:p.cs.length=p.gs.length
        . cases h5:jQ p.cs with
          | false=>
            simp only[h5,Zd4,Zd7]at L;have h7:0<p.cs.length:=(by omega);have h8:0<p.gs.length:=(by omega);have h9:¬p.gs=[]:=(by intro e;rw[e]at h8;simp at h8);have Iu:¬p.cs=[]:=(by intro e;rw[e]at h7;simp at h7);simp[gb,h1,h2,h3,h4,h5,h7,h8,h9,Iu,A,B,dm,L]
          | true=>
            simp only[h5,Ze8]at L;have h7:0<p.cs.length:=(by omega);have h8:0<p.gs.length:=(by omega);have h9:¬p.gs=[]:=(by intro e;rw[e]at h8;simp at h8);have Iu:¬p.cs=[]:=(by intro e;rw[e]at h7;simp at h7);by_cases h6:aW p.ts<p.gs.length
            .simp[gb,h1,h2,h3,h4,h5,h7,h8,h9,Iu,A,B,D,dm,L,sL,h6]
            .simp[gb,h1,h2,h3,h4,h5,h7,h8,h9,Iu,A,B,D,dm,L,sL,h6]
        .have h7:0<p.cs.length:=(by omega);have h4i:¬((p.cs.length:Int)=(p.gs.length:Int)):=(by omega);have Iu:¬p.cs=[]:=(by intro e;rw[e]at h7;simp at h7);simp[gb,h1,h2,h3,h4,h4i,h7,Iu,A,B,dm]
   .simp[gb,h1,h2,A,B,dm]
 .simp[h1,A,dm]
theorem ZW(z:Bool)(rs:List (List AV))(hl:rs.length<cD)(cX:∀cs∈rs,cs.length=9)(g:Nat)(v:List AV)(P:Nat->Bool)(st:St)(F:Nat)(k1 k2)
  (hP:∀i (h:i<rs.length),c g (.agg rs[i]::v) st=some (.bool (P i),st)):∀(m k:Nat),rs.length<=k+m->k<=rs.length->
  bL c F k1 k2 (m+1) [ro 9 z rs,.func g [] v,.int .i64 (rs.length:Int),.int .i64 (k:Int)] st=if 0<=scan P (rs.length - k) k then k1 [.int .i64 (scan P (rs.length - k) k)] st else k2 [] st:=by
 intro m;induction m with
 |zero=>
  intro k h1 h2;obtain rfl:k=rs.length:=by omega
  rw[ig];simp[scan]
 |succ m ih=>
  intro k h1 h2;rw[ig];by_cases h:k<rs.length
  . have e:rs.length - k=(rs.length - (k+1))+1:=(by omega);have w:aD .i64 ((k:Int)+1)=((k+1:Nat):Int):=wrap64 (by omega) (by unfold cD at hl;omega);have hcut:cut rs[k] 0 9=some rs[k]:=bw (cX _ (Zc0 h));have hp:=hP k h;rw[e,scan];cases hb:P k
    .   simp only[Zd4,Zd7];rw[<-ih (k+1) (by omega) (by omega)];simp[h,hcut,hp,hb,w]
    .   simp[h,hcut,hp,hb]
  .obtain rfl:k=rs.length:=(by omega);simp[scan]
theorem ac0(hc:Sem c)(z:Bool)(rs:List (List AV))(hl:rs.length<cD)(cX:∀cs∈rs,cs.length=9)(g:Nat)(v:List AV)(P:Nat->Bool)(st:St)
   (hP:∀i (h:i<rs.length),c g (.agg rs[i]::v) st=some (.bool (P i),st)):c 213 [ro 9 z rs,.func g [] v] st=some (.int .i64 (scan P rs.length 0),st):=by
 rw[oH hc (rs.length+1) (r:=(.int .i64 (scan P rs.length 0),st)),aq (Plain.int _ _) (aV.refl st)];rw[pV];have L:∀k1 k2,bL c (rs.length+1) k1 k2 (rs.length+1) [ro 9 z rs,.func g [] v,.int .i64 (rs.length:Int),.int .i64 0] st=if 0<=scan P (rs.length - 0) 0 then k1 [.int .i64 (scan P (rs.length - 0) 0)] st else k2 [] st:=
   λk1 k2=>ZW z rs hl cX g v P st _ k1 k2 hP rs.length 0 (by omega) (by omega)
 rw[Zl1]at L;by_cases h:0<=scan P rs.length 0
 .simp[L,h]
 .have:=(Fy P rs.length 0).2 (by omega);simp[L,this]
theorem ac1(hc:Sem c)(g:aI)(s:List Nat)(p:Pos)(st:St)(hw:Wf st)(hp:st.heap.get p=some (.cells [.str s] 0)):c 214 [.agg g.cells,.ptr p 0] st=some (.bool (decide (g.name=s)),st):=by
 rw[PI hc 1 (r:=(.bool (decide (g.name=s)),af st (.cells g.cells 0))),aq (Plain.bool _) (bk hw)];rw[T9];have:(af st (.cells g.cells 0)).heap.get p=some (.cells [.str s] 0):=bk hw _ _ hp;simp[this]
theorem adT(hc:Sem c)(p:aO)(hp:p.fN)(s:List Nat)(st:St)(hw:Wf st):c 170 [.agg p.cells,.str s] st=some (.int .i64 (scan (gw p.gs s) p.gs.length 0),st):=by
 have bR:Wf (af st (.cells p.cells 0)):=bA hw;have eM:=bA (b:= .cells [.str s] 0) bR;have hg:=(Grew.af hw (.cells p.cells 0)).trans (Grew.af bR (.cells [.str s] 0));have dm:(af (af st (.cells p.cells 0)) (.cells [.str s] 0)).heap.get st.next=some (.cells p.cells 0):=by have:=aC st (.cells p.cells 0);exact(Grew.af bR (.cells [.str s] 0)).get this
 have hi:=ac0 hc p.gz (p.gs.map aI.cells) (by have:=hp.gs;simp;unfold cD;omega) (λcs e8=>by
   simp only[Zf3]at e8;obtain⟨t,_,rfl⟩:=e8;rfl) 214 [.ptr (af st (.cells p.cells 0)).next 0] (gw p.gs s) (af (af st (.cells p.cells 0)) (.cells [.str s] 0)) (λi hi=>by
   have ZG:i<p.gs.length:=(by simpa using hi);have:=ac1 hc p.gs[i] s (af st (.cells p.cells 0)).next _ eM (aC _ _);simp only[Zm2];rw[this];simp[gw,ZG])
 rw[Zb3]at hi;rw[Ud hc 1 (r:=(.int .i64 (scan (gw p.gs s) p.gs.length 0),af (af st (.cells p.cells 0)) (.cells [.str s] 0))),aq (Plain.int _ _) hg.keeps];rw[XW];have e:(AV.str s).cells=[.str s]:=rfl;simp[e,hi,dm,bg]
structure Kd where
 w:List Nat
 a:Int
 b:Bool
 t:Int
 n:Bool
 lo:Int
 p6:Bool
 f:AV
def Kd.cells(k:Kd):List AV:=[.str k.w,.int .u8 k.a,.bool k.b,.int .u8 k.t,.bool k.n,.int .i64 k.lo,.bool k.p6,k.f]
@[simp] theorem Kd.c0(t:Kd):t.cells[0]? =some (.str t.w):=id rfl
@[simp] theorem Kd.c1(t:Kd):t.cells[1]? =some (.int .u8 t.a):=id rfl
@[simp] theorem Kd.c2(t:Kd):t.cells[2]? =some (.bool t.b):=id rfl
@[simp] theorem Kd.c3(t:Kd):t.cells[3]? =some (.int .u8 t.t):=id rfl
@[simp] theorem Kd.c4(t:Kd):t.cells[4]? =some (.bool t.n):=id rfl
@[simp] theorem Kd.c5(t:Kd):t.cells[5]? =some (.int .i64 t.lo):=id rfl
@[simp] theorem Kd.c6(t:Kd):t.cells[6]? =some (.bool t.p6):=id rfl
@[simp] theorem Kd.cc(t:Kd):cut t.cells 0 8=some t.cells:=bw rfl
def zC(k:Kd)(r:Rl):Bool:=(decide (k.a≠0)||decide (r.a=[]))&&(k.b||decide (r.b=[]))&&(decide (k.t≠0)||decide (r.t=[]))&&(k.n||decide (r.n=0))
theorem abG (hc:Sem c)(k:Kd)(r:Rl)(st:St)(hw:Wf st):c 169 [.agg k.cells,.agg r.cells] st=some (.bool (zC k r),st):=by
 have bR:Wf (af st (.cells k.cells 0)):=bA hw;have vA:=Grew.af bR (.cells r.cells 0);have hg:=(Grew.af hw (.cells k.cells 0)).trans vA;have p1:=vA.get (aC st (.cells k.cells 0));have p2:=aC (af st (.cells k.cells 0)) (.cells r.cells 0);rw[IK hc 1 (r:=(.bool (zC k r),af (af st (.cells k.cells 0)) (.cells r.cells 0))),aq (Plain.bool _) hg.keeps];rw[Lf];unfold zC;by_cases h0:k.a=0;rotate_left
 . cases  h2:k.b with
   |true=>
    by_cases h4:k.t=0;rotate_left
    .   cases h6:k.n with
        | true=>
          simp[h0,h2,h4,h6]
        | false=>
          by_cases h7:r.n=0
          .simp[h0,h2,h4,h6,h7]
          .simp[h0,h2,h4,h6,h7]
    by_cases h5:r.t=[]
    .   cases h6:k.n with
        | true=>
          simp[h0,h2,h4,h5,h6]
        | false=>
          by_cases h7:r.n=0
          .simp[h0,h2,h4,h5,h6,h7]
          .simp[h0,h2,h4,h5,h6,h7]
    .   simp[h0,h2,h4,h5]
   |false   =>
    by_cases h3:r.b=[]
    .   by_cases h4:k.t=0;rotate_left
        . cases h6:k.n with
          | true=>
            simp[h0,h2,h3,h4,h6]
          | false=>
            by_cases h7:r.n=0
            .simp[h0,h2,h3,h4,h6,h7]
            .simp[h0,h2,h3,h4,h6,h7]
        by_cases h5:r.t=[]
        . cases h6:k.n with
          | true=>
            simp[h0,h2,h3,h4,h5,h6]
          | false=>
            by_cases h7:r.n=0
            .simp[h0,h2,h3,h4,h5,h6,h7]
            .simp[h0,h2,h3,h4,h5,h6,h7]
        .simp[h0,h2,h3,h4,h5]
    .   simp[h0,h2,h3]
 by_cases h1:r.a=[]
 . cases  h2:k.b with
   |true=>
    by_cases h4:k.t=0;rotate_left
    .   cases h6:k.n with
        | true=>
          simp[h0,h1,h2,h4,h6]
        | false=>
          by_cases h7:r.n=0
          .simp[h0,h1,h2,h4,h6,h7]
          .simp[h0,h1,h2,h4,h6,h7]
    by_cases h5:r.t=[]
    .   cases h6:k.n with
        | true=>
          simp[h0,h1,h2,h4,h5,h6]
        | false=>
          by_cases h7:r.n=0
          .simp[h0,h1,h2,h4,h5,h6,h7]
          .simp[h0,h1,h2,h4,h5,h6,h7]
    .   simp[h0,h1,h2,h4,h5]
   |false   =>
    by_cases h3:r.b=[]
    .   by_cases h4:k.t=0;rotate_left
        . cases h6:k.n with
          | true=>
            simp[h0,h1,h2,h3,h4,h6]
          | false=>
            by_cases h7:r.n=0
            .simp[h0,h1,h2,h3,h4,h6,h7]
            .simp[h0,h1,h2,h3,h4,h6,h7]
        by_cases h5:r.t=[]
        . cases h6:k.n with
          | true=>
            simp[h0,h1,h2,h3,h4,h5,h6]
          | false=>
            by_cases h7:r.n=0
            .simp[h0,h1,h2,h3,h4,h5,h6,h7]
            .simp[h0,h1,h2,h3,h4,h5,h6,h7]
        .simp[h0,h1,h2,h3,h4,h5]
    .   simp[h0,h1,h2,h3]
 .simp[h0,h1]
theorem vS{R:Type}(P:(List AV->St->Option R)->Prop){A:(List AV->St->Option R)->Option R}{T:List AV->St->Option R}{r:Option R}(hT:P T)(hA:∀j,P j->A j=r):j0 A T=r:=hA T hT
theorem HG{R:Type}(c:ah)(K:AV->St->Option R)(st:St)(es:Nat)(z:Bool)(rs:List (List AV))(k k':IntKind)(i j:Nat)(h:i<j)(h2:j<=rs.length):
  ai c (.sliceL es true true false) [ro es z rs,.int k (i:Int),.int k' (j:Int)] st K=K (ro es false ((rs.take j).drop i)) st:=by
 have:∀H n,az.run H n (.sliceL es true true false) [ro es z rs,.int k (i:Int),.int k' (j:Int)]=some (.val (ro es false ((rs.take j).drop i))):=λH n=>by
  rw[Wi (by intro e;subst e;simp at h2;omega)];have h3:i<=j:=by omega
  simp[az.run,nQ,bounds,iB,eu,ee,h3,h2,ro]
 exact aT c K this st
theorem Rf(ts:List aF):∀(m k:Nat),(cV ts m k).2=0->∀i,k<=i->i<k+m->∀h:i<ts.length,lZ ts[i]=0
 |0,k,_,i,h1,h2,_=>by omega
 |m +   1,k,h,i,h1,h2,hi=>by
  have hk:k<ts.length:=by omega
  rw[cV,H1 hk]at h;simp only at h;by_cases h3:lZ ts[k]=0
  . rw[Za5 (by simp[h3])]at h;by_cases h4:0<=scan (gW ts ts[k].name) k 0
    .   rw[Za6 h4]at h;simp at h
    .   rw[Za5 h4]at h;by_cases e:i=k
        .subst e;exact h3
        .exact Rf ts m (k+1) h i (by omega) (by omega) hi
  .rw[Za6 h3]at h;exact absurd h h3
theorem zD{ts:List aF}(h:(bh ts).2=0)(i:Nat)(hi:i<ts.length):lZ ts[i]=0:=by
 unfold bh at h;split at h
 .simp at h
 .exact Rf ts ts.length 0 h i (by omega) (by omega) hi
theorem DO{t:aF}(h:lZ t=0):(bh [t]).2=0:=by
 simp[bh,cV,h,scan]
def gi(p:aO)(s:List Nat):Int:=scan (gw p.gs s) p.gs.length 0
def ti(p:aO)(s:List Nat):Int:=scan (gW p.ts s) p.ts.length 0
def rj(p:aO)(i:Int):Int:=match p.ts[i.toNat]? with
 |some t=>bN t
 |none=>0
def uY(k:Kd)(r:Rl)(m:Int):Int:=if k.n=true/\(r.n<k.lo\/m<r.n)then 42 else 0
def OK(k:Kd)(p:aO)(r:Rl):Int:=
 if(k.t=116/\ti p r.t<0)\/(k.t=101/\r.t≠[]/\ti p r.t<0)then 6
 else uY k r (if k.p6=true then rj p (ti p r.t) - 1 else 24)
def UN(k:Kd)(p:aO)(r:Rl):Int:=
 if k.a=100/\dY r.a=false then 4 else if k.b=true/\r.a=r.b then 5 else OK k p r
def En(k:Kd)(p:aO)(r:Rl):Int:=
 if k.w=[]then 40 else if r.wt<0\/1000<r.wt then 41 else if zC k r=false then 43
 else if(k.a=103/\gi p r.a<0)\/(k.a=101/\r.a≠[]/\gi p r.a<0)\/(k.b=true/\gi p r.b<0)then 6
 else UN k p r
theorem ZX (hc:Sem c)(k:Kd)(hk:k.p6=true->k.t=116)(p:aO)(hp:p.fN)(hv:(bh p.ts).2=0)(r:Rl)(st:St)(hw:Wf st):
   c 121 [.agg k.cells,.agg p.cells,.agg r.cells] st=some (.int .i64 (En k p r),st):=by
 have bR:Wf (af st (.cells k.cells 0)):=bA hw;have eM:=bA (b:= .cells p.cells 0) bR;have ZY:=Grew.af eM (.cells r.cells 0);have vA:=Grew.af bR (.cells p.cells 0);have hg:=((Grew.af hw (.cells k.cells 0)).trans vA).trans ZY;have UO:=hg.wf;have p1:=ZY.get (vA.get (aC st (.cells k.cells 0)));have p2:=ZY.get (aC (af st (.cells k.cells 0)) (.cells p.cells 0));have p3:=aC (af (af st (.cells k.cells 0)) (.cells p.cells 0)) (.cells r.cells 0);have A:=λs=>adT hc p hp s _ UO
 have B:=abG hc k r _ UO;have D:=acU hc p.tz p.ts hp.ok (by have:=hp.ts;unfold cD;omega) r.t _ UO;have N:=Ug hc r.a (af (af (af st (.cells k.cells 0)) (.cells p.cells 0)) (.cells r.cells 0));rw[IF hc 1 (r:=(.int .i64 (En k p r),af (af (af st (.cells k.cells 0)) (.cells p.cells 0)) (.cells r.cells 0))),aq (Plain.int _ _) hg.keeps];rw[Lb];simp only[pO,bH,AV.cells];generalize af (af (af st (.cells k.cells 0)) (.cells p.cells 0)) (.cells r.cells 0)=s at*
 generalize (af (af st (.cells k.cells 0)) (.cells p.cells 0)).next=q3 at*
 generalize (af st (.cells k.cells 0)).next=q2 at*
 generalize st.next=q1 at*
 refine vS (P:=λj=>j [.ptr q1 0,.ptr q2 0,.ptr q3 0] s=some (.int .i64 (OK k p r),s)) ?_ ?_
 . have D2  : c 172 [tabs p.tz p.ts,.str r.t] s=some (.tuple [.int .i64 (if 0<=ti p r.t then ti p r.t else 0),.bool (decide (0<=ti p r.t))],s):=(by simp only[hv,Zn7]at D;exact D);have H6:=Hw (P:=gW p.ts r.t) p.ts.length 0;clear D A B N hg vA ZY hw bR eM;unfold OK;by_cases ht:0<=ti p r.t
   . have Kl  : ¬ ti p r.t<0:=(by omega);obtain⟨i,hi⟩:∃i:Nat,ti p r.t=(i:Int):=⟨(ti p r.t).toNat,by omega⟩
     have jN:i<p.ts.length:=(by have:=(H6 ht).2.1;unfold ti at hi;rw[hi]at this;simpa using this);simp only[ht,Ze8,Zj0]at D2;by_cases h1:k.t=116
     .  simp[ p1,p2,p3,D2,h1,Kl];refine vS (P:=λj=>∀m,j [.ptr q1 0,.ptr q3 0,.int .i64 m] s=some (.int .i64 (uY k r m),s)) ?_ ?_
        . intro m;unfold uY;cases hn:k.n with
          |false=>simp[p1,hn]
          | true=>
            by_cases e1:r.n<k.lo
            .simp[p1,p3,hn,e1]
            . by_cases e2:m<r.n
              .simp[p1,p3,hn,e1,e2]
              .simp[p1,p3,hn,e1,e2]
        . intro j hj;cases hs:k.p6 with
          |false=>simp[p1,hs,hj]
          | true=>
            have w:aD .i64 ((i:Int)+1)=(i:Int)+1:=(by have:=hp.ts;exact wrap64 (by omega) (by omega));have cnt:=yN hc false [p.ts[i]] (λt ht=>by simp only[Zc3]at ht;subst ht;exact hp.ok _ (Zc0 jN)) s UO;rw[Za6 (DO (zD hv i jN)),show aW [p.ts[i]]=bN p.ts[i]by simp[aW]]at cnt;have b:=tP p.ts[i];have w2:aD .i64 (bN p.ts[i] - 1)=bN p.ts[i] - 1:=wrap64 (by omega) (by omega);have hcut:∀K:AV->St->Option (AV×St),ai c (.sliceL 7 true true false) [tabs p.tz p.ts,.int .i64 (i:Int),.int .i64 ((i:Int)+1)] s K=K (tabs false [p.ts[i]]) s:=λK=>by
              (unfold tabs;have:=HG c K s 7 p.tz (p.ts.map aF.cells) .i64 .i64 i (i+1) (by omega) (by rw[Zb3];omega);rw[show((i:Int)+1)=((i+1:Nat):Int)by omega,this];have e:((p.ts.map aF.cells).take (i+1)).drop i=[p.ts[i]].map aF.cells:=by rw[Zb2 (by simpa using jN),Zf5 (by simp;omega)];simp);rw[e]
            have e3:rj p (i:Int)=bN p.ts[i]:=(by simp[rj,jN]);simp[p1,p2,hs,hi,e3,w,hcut,cnt,hj,w2]
     .  by_cases h2 :k.t=101
        . by_cases h3:r.t=[]
          . simp only[h3]at D2 Kl hi;simp[p1,p2,p3,D2,h1,h2,h3,Kl];refine vS (P:=λj=>∀m,j [.ptr q1 0,.ptr q3 0,.int .i64 m] s=some (.int .i64 (uY k r m),s)) ?_ ?_
            . intro m;unfold uY;cases hn:k.n with
              |false=>simp[p1,hn]
              | true=>
                by_cases e1:r.n<k.lo
                .simp[p1,p3,hn,e1]
                . by_cases e2:m<r.n
                  .simp[p1,p3,hn,e1,e2]
                  .simp[p1,p3,hn,e1,e2]
            . intro j hj;cases hs:k.p6 with
              |false=>simp[p1,hs,hj]
              | true=>
                have w:aD .i64 ((i:Int)+1)=(i:Int)+1:=(by have:=hp.ts;exact wrap64 (by omega) (by omega));have cnt:=yN hc false [p.ts[i]] (λt ht=>by simp only[Zc3]at ht;subst ht;exact hp.ok _ (Zc0 jN)) s UO;rw[Za6 (DO (zD hv i jN)),show aW [p.ts[i]]=bN p.ts[i]by simp[aW]]at cnt;have b:=tP p.ts[i];have w2:aD .i64 (bN p.ts[i] - 1)=bN p.ts[i] - 1:=wrap64 (by omega) (by omega);have hcut:∀K:AV->St->Option (AV×St),ai c (.sliceL 7 true true false) [tabs p.tz p.ts,.int .i64 (i:Int),.int .i64 ((i:Int)+1)] s K=K (tabs false [p.ts[i]]) s:=λK=>by
                  (unfold tabs;have:=HG c K s 7 p.tz (p.ts.map aF.cells) .i64 .i64 i (i+1) (by omega) (by rw[Zb3];omega);rw[show((i:Int)+1)=((i+1:Nat):Int)by omega,this];have e:((p.ts.map aF.cells).take (i+1)).drop i=[p.ts[i]].map aF.cells:=by rw[Zb2 (by simpa using jN),Zf5 (by simp;omega)];simp);rw[e]
                have e3:rj p (i:Int)=bN p.ts[i]:=(by simp[rj,jN]);simp[p1,p2,hs,hi,e3,w,hcut,cnt,hj,w2]
          . simp[ p1,p2,p3,D2,h1,h2,h3,Kl];refine vS (P:=λj=>∀m,j [.ptr q1 0,.ptr q3 0,.int .i64 m] s=some (.int .i64 (uY k r m),s)) ?_ ?_
            . intro m;unfold uY;cases hn:k.n with
              |false=>simp[p1,hn]
              | true=>
                by_cases e1:r.n<k.lo
                .simp[p1,p3,hn,e1]
                . by_cases e2:m<r.n
                  .simp[p1,p3,hn,e1,e2]
                  .simp[p1,p3,hn,e1,e2]
            . intro j hj;cases hs:k.p6 with
              |false=>simp[p1,hs,hj]
              | true=>
                have w:aD .i64 ((i:Int)+1)=(i:Int)+1:=(by have:=hp.ts;exact wrap64 (by omega) (by omega));have cnt:=yN hc false [p.ts[i]] (λt ht=>by simp only[Zc3]at ht;subst ht;exact hp.ok _ (Zc0 jN)) s UO;rw[Za6 (DO (zD hv i jN)),show aW [p.ts[i]]=bN p.ts[i]by simp[aW]]at cnt;have b:=tP p.ts[i];have w2:aD .i64 (bN p.ts[i] - 1)=bN p.ts[i] - 1:=wrap64 (by omega) (by omega);have hcut:∀K:AV->St->Option (AV×St),ai c (.sliceL 7 true true false) [tabs p.tz p.ts,.int .i64 (i:Int),.int .i64 ((i:Int)+1)] s K=K (tabs false [p.ts[i]]) s:=λK=>by
                  (unfold tabs;have:=HG c K s 7 p.tz (p.ts.map aF.cells) .i64 .i64 i (i+1) (by omega) (by rw[Zb3];omega);rw[show((i:Int)+1)=((i+1:Nat):Int)by omega,this];have e:((p.ts.map aF.cells).take (i+1)).drop i=[p.ts[i]].map aF.cells:=by rw[Zb2 (by simpa using jN),Zf5 (by simp;omega)];simp);rw[e]
                have e3:rj p (i:Int)=bN p.ts[i]:=(by simp[rj,jN]);simp[p1,p2,hs,hi,e3,w,hcut,cnt,hj,w2]
        . simp[ p1,p2,p3,D2,h1,h2,Kl];refine vS (P:=λj=>∀m,j [.ptr q1 0,.ptr q3 0,.int .i64 m] s=some (.int .i64 (uY k r m),s)) ?_ ?_
          . intro m;unfold uY;cases hn:k.n with
            |false=>simp[p1,hn]
            | true=>
              by_cases e1:r.n<k.lo
              .simp[p1,p3,hn,e1]
              . by_cases e2:m<r.n
                .simp[p1,p3,hn,e1,e2]
                .simp[p1,p3,hn,e1,e2]
          . intro j hj;cases hs:k.p6 with
            |false=>simp[p1,hs,hj]
            | true=>
              have w:aD .i64 ((i:Int)+1)=(i:Int)+1:=(by have:=hp.ts;exact wrap64 (by omega) (by omega));have cnt:=yN hc false [p.ts[i]] (λt ht=>by simp only[Zc3]at ht;subst ht;exact hp.ok _ (Zc0 jN)) s UO;rw[Za6 (DO (zD hv i jN)),show aW [p.ts[i]]=bN p.ts[i]by simp[aW]]at cnt;have b:=tP p.ts[i];have w2:aD .i64 (bN p.ts[i] - 1)=bN p.ts[i] - 1:=wrap64 (by omega) (by omega);have hcut:∀K:AV->St->Option (AV×St),ai c (.sliceL 7 true true false) [tabs p.tz p.ts,.int .i64 (i:Int),.int .i64 ((i:Int)+1)] s K=K (tabs false [p.ts[i]]) s:=λK=>by
                (unfold tabs;have:=HG c K s 7 p.tz (p.ts.map aF.cells) .i64 .i64 i (i+1) (by omega) (by rw[Zb3];omega);rw[show((i:Int)+1)=((i+1:Nat):Int)by omega,this];have e:((p.ts.map aF.cells).take (i+1)).drop i=[p.ts[i]].map aF.cells:=by rw[Zb2 (by simpa using jN),Zf5 (by simp;omega)];simp);rw[e]
              have e3:rj p (i:Int)=bN p.ts[i]:=(by simp[rj,jN]);simp[p1,p2,hs,hi,e3,w,hcut,cnt,hj,w2]
   . have Kl  : ti p r.t<0:=(by omega);simp only[ht,Zd7,Zn9]at D2;by_cases h1:k.t=116
     .  simp[p1,p2,p3,D2,h1,Kl]
     .  by_cases h2:k.t=101
        . by_cases h3:r.t=[]
          . simp only[h3]at D2 Kl;simp[p1,p2,p3,D2,h1,h2,h3,Kl];refine vS (P:=λj=>∀m,j [.ptr q1 0,.ptr q3 0,.int .i64 m] s=some (.int .i64 (uY k r m),s)) ?_ ?_
            . intro m;unfold uY;cases hn:k.n with
              |false=>simp[p1,hn]
              | true=>
                by_cases e1:r.n<k.lo
                .simp[p1,p3,hn,e1]
                . by_cases e2:m<r.n
                  .simp[p1,p3,hn,e1,e2]
                  .simp[p1,p3,hn,e1,e2]
            . intro j hj;have hs:k.p6=false:=by
                cases h:k.p6 with
                |false=>rfl
                |true=>exact absurd (hk h) h1
              simp[p1,hs,hj]
          .simp[p1,p2,p3,D2,h1,h2,h3,Kl]
        . simp[ p1,p2,p3,D2,h1,h2,Kl];refine vS (P:=λj=>∀m,j [.ptr q1 0,.ptr q3 0,.int .i64 m] s=some (.int .i64 (uY k r m),s)) ?_ ?_
          . intro m;unfold uY;cases hn:k.n with
            |false=>simp[p1,hn]
            | true=>
              by_cases e1:r.n<k.lo
              .simp[p1,p3,hn,e1]
              . by_cases e2:m<r.n
                .simp[p1,p3,hn,e1,e2]
                .simp[p1,p3,hn,e1,e2]
          . intro j hj;have hs:k.p6=false:=by
              cases h:k.p6 with
              |false=>rfl
              |true=>exact absurd (hk h) h1
            simp[p1,hs,hj]
 . intro  j hj;have A2:∀nm,c 170 [.agg p.cells,.str nm] s=some (.int .i64 (gi p nm),s):=A;have cc:cut r.cells 0 6=some r.cells:=bw rfl;clear A D hg vA ZY hw bR eM;unfold En;by_cases h0:k.w=[]
   .simp[p1,h0]
   by_cases h1:r.wt<0
   .simp[p1,p3,h0,h1]
   by_cases h2:1000<r.wt
   .simp[p1,p3,h0,h1,h2]
   cases h3:zC k r with
   |false=>simp[p1,p3,h0,h1,h2,B,h3]
   |true=>
   simp[p1,p3,h0,h1,h2,B,h3];refine vS (P:=λj'=>∀b:Bool,j' [.ptr q1 0,.ptr q2 0,.ptr q3 0,.bool b] s=some (.int .i64 (if b=true then 6 else UN k p r),s)) ?_ ?_
   . intro  b;cases b with
     |true=>simp
     |  false =>
        unfold UN;by_cases a1:k.a=100
        . cases a2:dY r.a with
          |false=>simp[p1,p3,a1,a2,N]
          | true=>
            cases b1:k.b with
            |false=>simp[p1,p3,a1,a2,N,b1,hj]
            | true=>
              by_cases b2:r.a=r.b
              .rw[b2]at a2 N;simp[p1,p3,a1,a2,N,b1,b2]
              .simp[p1,p3,a1,a2,N,b1,b2,hj]
        . cases b1:k.b with
          |false=>simp[p1,p3,a1,b1,hj]
          | true=>
            by_cases b2:r.a=r.b
            .simp[p1,p3,a1,b1,b2]
            .simp[p1,p3,a1,b1,b2,hj]
   . intro  j' Ad;have K6:=Ad true;have K0:=Ad false;simp only[Ze8,Zd4,Zd7]at K6 K0;clear Ad hj;by_cases a1:k.a=103
     .  by_cases g1:gi p r.a<0
        .simp[p1,p2,p3,a1,A2,g1,K6]
        . cases b1:k.b with
          |false=>simp[p1,p2,p3,a1,A2,g1,b1,K0]
          | true=>
            by_cases g2:gi p r.b<0
            .simp[p1,p2,p3,a1,A2,g1,g2,b1,K6]
            .simp[p1,p2,p3,a1,A2,g1,g2,b1,K0]
     .  by_cases a2:k.a=101
        . by_cases e:r.a=[]
          . cases b1:k.b with
            |false=>simp[p1,p2,p3,a1,a2,e,A2,b1,K0]
            | true=>
              by_cases g2:gi p r.b<0
              .simp[p1,p2,p3,a1,a2,e,A2,g2,b1,K6]
              .simp[p1,p2,p3,a1,a2,e,A2,g2,b1,K0]
          . by_cases g1:gi p r.a<0
            .simp[p1,p2,p3,a1,a2,e,A2,g1,K6]
            . cases b1:k.b with
              |false=>simp[p1,p2,p3,a1,a2,e,A2,g1,b1,K0]
              | true=>
                by_cases g2:gi p r.b<0
                .simp[p1,p2,p3,a1,a2,e,A2,g1,g2,b1,K6]
                .simp[p1,p2,p3,a1,a2,e,A2,g1,g2,b1,K0]
        . cases b1:k.b with
          |false=>simp[p1,p2,p3,a1,a2,A2,b1,K0]
          | true=>
            by_cases g2:gi p r.b<0
            .simp[p1,p2,p3,a1,a2,A2,g2,b1,K6]
            .simp[p1,p2,p3,a1,a2,A2,g2,b1,K0]
def kd:Nat->Kd
 |1=>⟨[97,112,97,114,116],103,true,0,true,0,false,.func 151 [] []⟩
 |2=>⟨[98,101,115,105,100,101],103,true,0,false,0,false,.func 152 [] []⟩
 |3=>⟨[97,99,114,111,115,115],103,true,0,false,0,false,.func 153 [] []⟩
 |4=>⟨[110,101,97,114],103,true,0,true,1,false,.func 154 [] []⟩
 |5=>⟨[116,111,103,101,116,104,101,114],103,true,0,false,0,false,.func 155 [] []⟩
 |6=>⟨[97,116],103,false,116,false,0,false,.func 156 [] []⟩
 |7=>⟨[115,101,97,116],103,false,116,true,0,true,.func 157 [] []⟩
 |8=>⟨[97,108,116,101,114,110,97,116,101],0,false,101,false,0,false,.func 158 [] []⟩
 |9=>⟨[104,111,115,116],0,false,101,false,0,false,.func 159 [] []⟩
 |10=>⟨[114,101,97,99,104],101,false,0,false,0,false,.func 160 [] []⟩
 |11=>⟨[115,112,101,97,107],0,false,101,false,0,false,.func 161 [] []⟩
 |12=>⟨[112,101,97,99,101],0,false,101,false,0,false,.func 162 [] []⟩
 |13=>⟨[99,111,109,112,97,110,121],0,false,101,false,0,false,.func 163 [] []⟩
 |14=>⟨[104,111,110,111,117,114],0,false,101,false,0,false,.func 164 [] []⟩
 |15=>⟨[102,105,108,108],0,false,101,true,0,false,.func 165 [] []⟩
 |16=>⟨[108,105,109,105,116],0,false,101,true,0,false,.func 166 [] []⟩
 |17=>⟨[107,105,116,99,104,101,110],100,false,116,false,0,false,.func 167 [] []⟩
 |18=>⟨[109,105,120],0,false,101,false,0,false,.func 168 [] []⟩
 |_=>⟨[],0,false,0,false,0,false,.ir⟩
def Rg:List (AV×AV×Nat):=[(.int .u8 1,.agg (kd 1).cells,0),(.int .u8 2,.agg (kd 2).cells,1),(.int .u8 3,.agg (kd 3).cells,2),(.int .u8 4,.agg (kd 4).cells,3),(.int .u8 5,.agg (kd 5).cells,4),(.int .u8 6,.agg (kd 6).cells,5),(.int .u8 7,.agg (kd 7).cells,6),(.int .u8 8,.agg (kd 8).cells,7),(.int .u8 9,.agg (kd 9).cells,8),(.int .u8 10,.agg (kd 10).cells,9),(.int .u8 11,.agg (kd 11).cells,10),(.int .u8 12,.agg (kd 12).cells,11),(.int .u8 13,.agg (kd 13).cells,12),(.int .u8 14,.agg (kd 14).cells,13),(.int .u8 15,.agg (kd 15).cells,14),(.int .u8 16,.agg (kd 16).cells,15),(.int .u8 17,.agg (kd 17).cells,16),(.int .u8 18,.agg (kd 18).cells,17)]
theorem RW(p:Pos):¬Plain (.map p):=λh=>by have:=h (λ_=>(⟨0,0,0⟩:Go.Ai.Loc)) (λ_=>⟨1,0,0⟩) (p.toNat+1) (p.toNat+1) (λ_=>none) _ (.map p (Nat.lt_succ_self _));cases this
theorem abH(st:St)(p:Pos)(s':St):tidy st (.map p,s')=(.map p,s'):=by unfold tidy;rw[Za5];exact λe=>RW p e.1
theorem cG{R:Type}(c:ah)(K:AV->St->Option R)(st:St)(z:List AV)(ps:List (Nat×Nat))(xs l:List AV)(h:bS z ps xs=some l):ai c (.build z ps) xs st K=K (.agg l) st:=by rw[Zk,h];rfl
theorem cH{R:Type}(c:ah)(K:AV->St->Option R)(st:St)(es:List (AV×AV×Nat))(cl:Nat)(k:IntKind)(x:Int)(v:AV)(hf:iw .i (.int k x) es 0=some none):
  ai c (.mapSet .i) [.map st.next,.int k x,v] (af st (.map es cl)) K=K .undef (af st (.map (es++[(.int k x,v,cl)]) (cl+1))):=by
 have:az.run (λb=>(af st (.map es cl)).heap.get b) (af st (.map es cl)).next (.mapSet .i) [.map st.next,.int k x,v]=some (.aG .undef none (some (st.next,.map (es++[(.int k x,v,cl)]) (cl+1))) none):=by
  simp[az.run,ve,hf,W9]
 unfold ai bT;rw[this];show K .undef (ew (af st (.map es cl)) st.next _)=_;rw[Wt]
theorem abI(hc:Sem c)(s:St):c 120 [] s=some (.map s.next,af s (.map Rg 18)):=by
 rw[PC hc 1 (r:=(.map s.next,af s (.map Rg 18))),abH];rw[T6];rw[bH,Zn];rw[cG (l:=(kd 1).cells) (h:=rfl),cH (hf:=rfl)];rw[cG (l:=(kd 2).cells) (h:=rfl),cH (hf:=rfl)];rw[cG (l:=(kd 3).cells) (h:=rfl),cH (hf:=rfl)];rw[cG (l:=(kd 4).cells) (h:=rfl),cH (hf:=rfl)];rw[cG (l:=(kd 5).cells) (h:=rfl),cH (hf:=rfl)];rw[cG (l:=(kd 6).cells) (h:=rfl),cH (hf:=rfl)];rw[cG (l:=(kd 7).cells) (h:=rfl),cH (hf:=rfl)];rw[cG (l:=(kd 8).cells) (h:=rfl),cH (hf:=rfl)];rw[cG (l:=(kd 9).cells) (h:=rfl),cH (hf:=rfl)];rw[cG (l:=(kd 10).cells) (h:=rfl),cH (hf:=rfl)];rw[cG (l:=(kd 11).cells) (h:=rfl),cH (hf:=rfl)];rw[cG (l:=(kd 12).cells) (h:=rfl),cH (hf:=rfl)];rw[cG (l:=(kd 13).cells) (h:=rfl),cH (hf:=rfl)];rw[cG (l:=(kd 14).cells) (h:=rfl),cH (hf:=rfl)];rw[cG (l:=(kd 15).cells) (h:=rfl),cH (hf:=rfl)];rw[cG (l:=(kd 16).cells) (h:=rfl),cH (hf:=rfl)];rw[cG (l:=(kd 17).cells) (h:=rfl),cH (hf:=rfl)];rw[cG (l:=(kd 18).cells) (h:=rfl),cH (hf:=rfl)];rw[bH,bH]
 .rfl
theorem ac2{R:Type}(c:ah)(K:AV->St->Option R)(st:St)(m:Pos)(cl:Nat)(h:st.heap.get m=some (.map Rg cl))(n:Nat):
   ai c (.lookup .i (.agg [.str [],.int .u8 0,.bool false,.int .u8 0,.bool false,.int .i64 0,.bool false,.ir]) false) [.map m,.int .u8 (n:Int)] st K=K (.agg (kd n).cells) st:=by
 have e:iw .i (.int .u8 (n:Int)) Rg 0=some (if 1<=n/\n<=18 then some (n - 1,.agg (kd n).cells)else none):=by
   by_cases h:n<=18
   .have:n=0\/n=1\/n=2\/n=3\/n=4\/n=5\/n=6\/n=7\/n=8\/n=9\/n=10\/n=11\/n=12\/n=13\/n=14\/n=15\/n=16\/n=17\/n=18:=(by omega);rcases this with rfl|rfl|rfl|rfl|rfl|rfl|rfl|rfl|rfl|rfl|rfl|rfl|rfl|rfl|rfl|rfl|rfl|rfl|rfl<;>rfl
   . have Uu:∀j:Int,j<=18->yW (n:Int) j=false:=λj hj=>by rw[kf];simp;omega
     rw[Za5 (by omega)];simp[Rg,iw,uJ,Uu,cF]
 have:∀z:AV,az.run (λb=>st.heap.get b) st.next (.lookup .i z false) [.map m,.int .u8 (n:Int)]=some (.val (if 1<=n/\n<=18 then .agg (kd n).cells else z)):=λz=>by
   simp only[az.run,u9,h,e];by_cases h1:1<=n/\n<=18
   .rw[Za6 h1,Za6 h1]
   .rw[Za5 h1,Za5 h1]
 unfold ai bT;rw[this];by_cases h1:1<=n/\n<=18
 .rw[Za6 h1]
 .rw[Za5 h1];have:kd n=⟨[],0,false,0,false,0,false,.ir⟩:=(by unfold kd;split<;>first|rfl|omega);rw[this];rfl
theorem ac3(n:Nat):(kd n).p6=true->(kd n).t=116:=by unfold kd;split<;>simp
def Rl.Ok(r:Rl):Prop:=0<=r.k/\r.k<256
def uF(p:aO)(r:Rl):Int:=En (kd r.k.toNat) p r
def ek(p:aO):Nat->Nat->Int×Int
 |0,_=>(0,0)
 |  m+1,i=>match p.rs[i]? with
    |none=>(0,0)
    |some r=>if uF p r≠0 then((i:Int),uF p r)else if i=64 then((i:Int),7)else ek p m (i+1)
theorem Eo(p:aO):∀(m i:Nat),(ek p m i).2=0->(ek p m i).1=0
 |0,_,_=>rfl
 |m+    1,i,h=>by
  rw[ek]at h ⊢;cases h0:p.rs[i]? with
  |none=>rfl
  |some r=>
   rw[h0]at h;simp only at h ⊢;by_cases h1:uF p r=0
   .    rw[Za5 (by simp[h1])]at h ⊢;by_cases h2:i=64
        .rw[Za6 h2]at h;simp at h
        .rw[Za5 h2]at h ⊢; exact Eo p m (i+1) h
   .    rw[Za6 h1]at h;exact absurd h h1
def bU(p:aO):Int×Int:=if(fj p).2≠0 then fj p else ek p 100 0
theorem X5(hc:Sem c)(p:aO)(hp:p.fN)(hr:∀r∈p.rs,r.Ok)(hv:(bh p.ts).2=0)(q1 mp:Pos)(cl:Nat)(F:Nat)(k1 k2):∀(m k:Nat)(st:St),Wf st->st.heap.get q1=some (.cells p.cells 0)->st.heap.get mp=some (.map Rg cl)->p.rs.length<=k+m->k<=p.rs.length->
  ∃st',Grew st st'/\pn c F k1 k2 (m+1) [.ptr q1 0,.map mp,gX p.rz p.rs,.int .i64 (p.rs.length:Int),.int .i64 (k:Int)] st=if(ek p m k).2=0 then k2 [] st' else k1 [.int .i64 (ek p m k).1,.int .i64 (ek p m k).2] st':=by
 have hl:=hp.rs;intro m;induction m with
 |zero=>
  intro k st hw h1 h2 h3 h4;obtain rfl:k=p.rs.length:=by omega
  refine⟨st,Grew.refl hw,?_⟩;rw[wW];simp[ek]
 |succ m ih=>
  intro k st hw hq hm h3 h4;by_cases h:k<p.rs.length
  . have w:aD .i64 ((k:Int)+1)=((k+1:Nat):Int):=wrap64 (by omega) (by omega);have bR:Wf (af st (.cells p.rs[k].cells 0)):=bA hw;have hg:=Grew.af hw (.cells p.rs[k].cells 0);have hq1:=hg.get hq;have iH:=hg.get hm;have hn:=aC st (.cells p.rs[k].cells 0);obtain⟨n,hk⟩:∃n:Nat,p.rs[k].k=(n:Int):=⟨p.rs[k].k.toNat,by have:=(hr _ (Zc0 h)).1;omega⟩
    have I8:=ZX hc (kd n) (ac3 n) p hp hv p.rs[k] _ bR;have hS:uF p p.rs[k]=En (kd n) p p.rs[k]:=(by unfold uF;rw[hk];rfl);have Gz:=λ(K:AV->St->Option (AV×St))=>ac2 c K _ mp cl iH n
    have nU:=λ(K:AV->St->Option (AV×St))=>cU c K st 6 (.agg p.rs[k].cells) [.int .u8 0,.int .i64 0,.str [],.str [],.str [],.int .i64 0] rfl rfl (Rl.one _)
    rw[show(AV.agg p.rs[k].cells).cells=p.rs[k].cells from rfl]at nU;rw[<-hS]at I8;rw[<-hk]at Gz;obtain⟨st',g1,g2⟩:=ih (k+1) _ bR hq1 iH (by omega) (by omega);rw[wW,ek,H1 h];simp only;by_cases h5:uF p p.rs[k]=0
    .   rw[Za5 (by simp[h5])];by_cases h6:k=64
        .refine⟨_,hg,?_⟩;rw[Za6 h6];have UP:decide ((k:Int)=64)=true:=(by simp only[Zc6];omega);simp[-cU,nU,gX,h,hq1,iH,Gz,I8,h5,UP]
        .refine⟨st',hg.trans g1,?_⟩;rw[Za5 h6, <-g2];have UP:¬(k:Int)=64:=(by omega);simp[-cU,nU,gX,h,hq1,iH,Gz,I8,h5,UP,w]
    .   refine⟨_,hg,?_⟩;rw[Za6 h5];simp[-cU,nU,gX,h,hq1,iH,Gz,I8,h5]
  .obtain rfl:k=p.rs.length:=(by omega);refine⟨st,Grew.refl hw,?_⟩;rw[wW];simp[ek]
theorem Md{p:aO}(h:(fj p).2=0):(bh p.ts).2=0:=by
 unfold fj at h;by_cases h1:(bh p.ts).2=0
 .exact h1
 .rw[Za6 h1]at h;exact absurd h h1
theorem RX(hc:Sem c)(p:aO)(hp:p.fN)(hR:Kk c p)(hr:∀r∈p.rs,r.Ok)(st:St)(hw:Wf st):c 77 [.agg p.cells] st=some (.tuple [.int .i64 (bU p).1,.int .i64 (bU p).2],st):=by
 have mT:Plain (.tuple [.int .i64 (bU p).1,.int .i64 (bU p).2]):=Plain.tuple (by simp[Plain.int]);have bR:Wf (af st (.cells p.cells 0)):=bA hw;have DN:=Grew.af hw (.cells p.cells 0);have dm:(af st (.cells p.cells 0)).heap.get st.next=some (.cells p.cells 0):=aC _ _;have B:=abF hc p hp hR _ bR;by_cases h:(fj p).2=0
 . have hv:=Md h;have K:=abI hc (af st (.cells p.cells 0));have eM:Wf (af (af st (.cells p.cells 0)) (.map Rg 18)):=bA bR;have vA:=Grew.af bR (.map Rg 18);obtain⟨st',g1,g2⟩:=X5 hc p hp hr hv st.next (af st (.cells p.cells 0)).next 18 101 (λvs s50=>dW vs λx2 vs=>dW vs λx3 vs=>fP vs (
   some (.tuple [x2,x3],s50))) (λvs s51=>fP vs (
   ai c .move [(.int .i64 0)] s51 λx2 s52=>
 ai c .move [(.int .i64 0)] s52 λx3 s53=>
 some (.tuple [x2,x3],s53))) 100 0 _ eM (vA.get dm) (aC _ _) (by have:=hp.rs;omega) (by omega)
   have e:bU p=ek p 100 0:=(by unfold bU;rw[Za5 (by simp[h])]);have e0:=VG h;rw[Ft hc 101 (r:=(.tuple [.int .i64 (bU p).1,.int .i64 (bU p).2],st')),aq mT ((DN.trans vA).trans g1).keeps];rw[JN,e];simp at g2;simp[dm,B,h,K,g2];by_cases h2:(ek p 100 0).2=0
   .have:=Eo p 100 0 h2;simp[h2,this]
   .simp[h2]
 .have e:bU p=fj p:=(by unfold bU;rw[Za6 h]);rw[Ft hc 101 (r:=(.tuple [.int .i64 (bU p).1,.int .i64 (bU p).2],af st (.cells p.cells 0))),aq mT DN.keeps];rw[JN,e];simp[dm,B,h]
def jB(k:Int):Bool:=decide (k=1)||decide (k=2)||decide (k=3)||decide (k=4)||decide (k=5)
theorem FC(hc:Sem c)(k:Int)(st:St):c 139 [.int .u8 k] st=some (.bool (jB k),st):=by
 rw[Hs hc 1 (r:=(.bool (jB k),st)),aq (Plain.bool _) (aV.refl st)];rw[JX];unfold jB;by_cases e0:k=1
 .simp[e0]
 by_cases e1:k=2
 .simp[e0,e1]
 by_cases e2:k=3
 .simp[e0,e1,e2]
 by_cases e3:k=4
 .simp[e0,e1,e2,e3]
 by_cases e4:k=5
 .simp[e0,e1,e2,e3,e4]
 simp[e0,e1,e2,e3,e4]
def tB(k:Int):Bool:=decide (k=6)||decide (k=7)||decide (k=10)
theorem ZZ(hc:Sem c)(k:Int)(st:St):c 140 [.int .u8 k] st=some (.bool (tB k),st):=by
 rw[Ht hc 1 (r:=(.bool (tB k),st)),aq (Plain.bool _) (aV.refl st)];rw[JY];unfold tB;by_cases e0:k=6
 .simp[e0]
 by_cases e1:k=7
 .simp[e0,e1]
 by_cases e2:k=10
 .simp[e0,e1,e2]
 simp[e0,e1,e2]
def Km(k:Int):Bool:=decide (k=1)||decide (k=4)||decide (k=7)||decide (k=15)||decide (k=16)
theorem Rh(hc:Sem c)(k:Int)(st:St):c 142 [.int .u8 k] st=some (.bool (Km k),st):=by
 rw[CR hc 1 (r:=(.bool (Km k),st)),aq (Plain.bool _) (aV.refl st)];rw[Fj];unfold Km;by_cases e0:k=1
 .simp[e0]
 by_cases e1:k=4
 .simp[e0,e1]
 by_cases e2:k=7
 .simp[e0,e1,e2]
 by_cases e3:k=15
 .simp[e0,e1,e2,e3]
 by_cases e4:k=16
 .simp[e0,e1,e2,e3,e4]
 simp[e0,e1,e2,e3,e4]
def oK(k:Int):Int:=if jB k=true\/k=10 then 0 else if k=6\/k=7\/k=17 then 1 else 2
theorem Ri(hc:Sem c)(k:Int)(st:St):c 141 [.int .u8 k] st=some (.int .i64 (oK k),st):=by
 rw[CQ hc 1 (r:=(.int .i64 (oK k),st)),aq (Plain.int _ _) (aV.refl st)];rw[Fi];have t:=FC hc k st;unfold oK;cases h:jB k with
 |true=>simp[t,h]
 |false=>
  by_cases e1:k=10
  .rw[e1]at t h;simp[t,h,e1]
  by_cases e2:k=6
  .rw[e2]at t h;simp[t,h,e2]
  by_cases e3:k=7
  .rw[e3]at t h;simp[t,h,e3]
  by_cases e4:k=17
  .rw[e4]at t h;simp[t,h,e4]
  simp[t,h,e1,e2,e3,e4]
def wl:List AV:=(List.range 19).map λi=>.str (kd i).w
theorem UQ{R:Type}(c:ah)(K:AV->St->Option R)(st:St)(es len:Nat)(z:List AV)(ps:List Nat)(xs l:List AV)(h:bS (bF z len) (ps.map λi=>(i*es,es)) xs=some l):
  ai c (.buildSlice es len z ps) xs st K=K (.slice st.next 0 len (some len) es) (af st (.cells l 0)):=by
 rw[cu,h];rfl
theorem adU(n:Nat)(h:n<19):wl[n]? =some (.str (kd n).w):=by simp[wl,h]
theorem ac4(hc:Sem c)(n:Nat)(hn:n<256)(st:St)(hw:Wf st):c 138 [.int .u8 (n:Int)] st=some (.str (kd n).w,st):=by
 have w:aD .i64 (n:Int)=(n:Int):=wrap64 (by omega) (by omega);rw[Fw hc 1 (r:=(.str (kd n).w,af st (.cells wl 0))),aq (Plain.str _) (bk hw)];rw[ID];rw[bH,UQ (l:=wl) (h:=rfl)];have hlen:∀(K:AV->St->Option (AV×St))(s:St),ai c (.lenB .l) [.slice st.next 0 19 (some 19) 1] s K=K (.int .i64 19) s:=λK s=>aT c K (λH n=>rfl) s
 by_cases h:19<=n
 .have e:(kd n).w=[]:=(by unfold kd;split<;>first|rfl|omega);have hi:(19:Int)<=(n:Int):=(by omega);simp[w,h,hi,e,hlen]
 . have hi:¬(19:Int)<=(n:Int):=(by omega);have h':n<19:=(by omega);have hidx:∀(K:AV->St->Option (AV×St))(s:St),ai c (.idxA 1 none) [.slice st.next 0 19 (some 19) 1,.int .u8 (n:Int)] s K=K (.ptr st.next n) s:=λK s=>aT c K (λH m=>by
    simp[az.run,mQ,iB,AO,h']) s
   simp[w,h,hi,h',adU,hlen,hidx]
theorem UR(z:Bool)(ts:List aF)(s:List Nat)(hl:ts.length<=100)(F:Nat)(st:St)(k1 k2):∀(m k:Nat),ts.length<=k+m->k<=ts.length->
  eD c F k1 k2 (m+1) [tabs z ts,.str s,.int .i64 (k:Int)] st=if 0<=scan (gW ts s) (ts.length - k) k then k1 [.int .i64 (scan (gW ts s) (ts.length - k) k)] st else k2 [] st:=by
 intro m;induction m with
 |zero=>
  intro k h1 h2;obtain rfl:k=ts.length:=by omega
  rw[qq];simp[scan]
 |succ m ih=>
  intro k h1 h2;rw[qq];by_cases h:k<ts.length
  . have e:ts.length - k=(ts.length - (k+1))+1:=(by omega);have w:aD .i64 ((k:Int)+1)=((k+1:Nat):Int):=wrap64 (by omega) (by omega);rw[e,scan];by_cases hb:ts[k].name=s
    .   have EU:gW ts s k=true:=(by simp[gW,h,hb]);rw[EU];simp[tabs,h,hb]
    .   have EU:gW ts s k=false:=(by simp[gW,h,hb]);rw[EU];simp only[Zd4,Zd7];rw[<-ih (k+1) (by omega) (by omega)];simp[tabs,h,hb,w]
  .obtain rfl:k=ts.length:=(by omega);simp[scan]
theorem X6(hc:Sem c)(z:Bool)(ts:List aF)(s:List Nat)(hl:ts.length<=100)(st:St):c 145 [tabs z ts,.str s] st=some (.int .i64 (scan (gW ts s) ts.length 0),st):=by
 rw[Cj hc 101 (r:=(.int .i64 (scan (gW ts s) ts.length 0),st)),aq (Plain.int _ _) (aV.refl st)];rw[D7];have L:∀k1 k2,eD c 101 k1 k2 101 [tabs z ts,.str s,.int .i64 0] st=if 0<=scan (gW ts s) ts.length 0 then k1 [.int .i64 (scan (gW ts s) ts.length 0)] st else k2 [] st:=
   λk1 k2=>UR z ts s hl 101 st k1 k2 100 0 (by omega) (by omega)
 have g:=Fy (gW ts s) ts.length 0;by_cases h:0<=scan (gW ts s) ts.length 0
 .simp only[h,Ze8]at L;simp[L]
 .simp only[h,Zd7]at L;have:=g.2 (by omega);simp[L,this]
end
end Go.Proofs.YtlkadmkojjceiaaGreatDoor
