/- Functions, plainly. -/
import Derived.Test.YtgihekklfnjkiaaGreatDoorDLawsE
set_option linter.all false
set_option linter.unusedSectionVars false
set_option linter.deprecated false
namespace Go.Proofs.YtgihekklfnjkiaaGreatDoor
noncomputable section
set_option linter.all false
set_option maxRecDepth 100000
set_option maxHeartbeats 4000000
open Go Go.Ai Go.Proofs
attribute [local go_sem ↓] bf Gv ev evX GV getLT Gu aaW kat Dh Di Wp Wq Wr Ws PG PI PJ PM PN PO Wt Wu PR PT PW PY PZ acm acn aco
attribute [local go_sem] bf Gv ev
section
variable(c : aj)(F : Nat)(x0 x1 x2 x3 x4 x5 x6 x7 x8 x9 x10 T7 : AV)(s : St)
def DZ:Sh:=(sq sl (sq sl (sq sl (sq sl sl))))
def D0:PX 9 DZ:=⟨_,by conv=>lhs;reduce⟩
def tI:O2:=bf c F aY D0.1 [x0] s
def SL:=(by dsimp only[tI,D0,go_sem,Int.reduceOfNat]:tI c F x0 s=_)
def u0:Sh:=(sq sl (sq sl (sq sl (sq sl (sq (sq sl (sb (sp 0 [1,2,5,6,7,8] [(2,[7])] (sq (sq sl (sc sl sl)) (sj [1,2,5,6,7,8] (sb (sq sl (sj [1,2,5,6,7,8,9] (sq sl (sc sl sl)) (sq sl (sc sl sl))))) sl))))) (sq sl sl))))))
def Cu:PX 10 u0:=⟨_,by conv=>lhs;reduce⟩
def Bb:PL 10 u0 0:=⟨_,by conv=>lhs;reduce⟩
def fA(k2:Q2):Nat->Q2
 |0,_,_=>none
 |n+1,vs,s=>dZ c F aY (fA k2 n) [k2] Bb.1 vs s
def mR(k2:Q2)(n:Nat)(vs:List AV)(s:St):=(by dsimp only[fA,Bb,go_sem,Int.reduceOfNat,Int.reduceNegSucc]:fA c F k2 (n+1) vs s=_)
def u6:Un->List Q2->Nat->Q2
 | .z,[k2]=>fA c F k2
 |_,_=>λ_=>fy
def xA:O2:=bf c F (u6 c F) Cu.1 [x0,x1] s
def Qi:=(by dsimp only[xA,Cu, ↓u6,go_sem,Int.reduceOfNat,Int.reduceNegSucc]:xA c F x0 x1 s=_)
def oe:Sh:=(sq sl (sq sl (sq sl (sq (sq sl (sb (sp 0 [1,2,3,4,5] [(2,[1,2,3,4])] (sq (sq sl (sc sl sl)) (sq (sb (sq sl (sq sl (sq sl sl)))) sl))))) (sq sl (sq sl (sj [1,2,3] (sq sl (sc (sq sl (sb (sp 1 [1,2,3,9] [(4,[1,2,3])] (sq (sq sl (sc sl sl)) (sq (sb (sq sl sl)) sl))))) sl)) (sq (sq sl (sb (sp 2 [1,2,3,11] [(6,[2,3])] (sq (sq sl (sc sl sl)) (sj [1,2,3,11] (sb (sq sl (sq sl (sc (sq sl sl) sl)))) sl))))) (sq sl sl)))))))))
def Fl:PX 15 oe:=⟨_,by conv=>lhs;reduce⟩
def D4:PL 15 oe 2:=⟨_,by conv=>lhs;reduce⟩
def jP(k6:Q2):Nat->Q2
 |0,_,_=>none
 |n+1,vs,s=>dZ c F aY (jP k6 n) [k6] D4.1 vs s
def uh(k6:Q2)(n:Nat)(vs:List AV)(s:St):=(by dsimp only[jP,D4,go_sem,Int.reduceOfNat]:jP c F k6 (n+1) vs s=_)
def D5:PL 15 oe 1:=⟨_,by conv=>lhs;reduce⟩
def jO(k4:Q2):Nat->Q2
 |0,_,_=>none
 |n+1,vs,s=>dZ c F aY (jO k4 n) [k4] D5.1 vs s
def A3(k4:Q2)(n:Nat)(vs:List AV)(s:St):=(by dsimp only[jO,D5,go_sem,Int.reduceOfNat]:jO c F k4 (n+1) vs s=_)
def D6:PL 15 oe 0:=⟨_,by conv=>lhs;reduce⟩
def gC(k2:Q2):Nat->Q2
 |0,_,_=>none
 |n+1,vs,s=>dZ c F aY (gC k2 n) [k2] D6.1 vs s
def A0(k2:Q2)(n:Nat)(vs:List AV)(s:St):=(by dsimp only[gC,D6,go_sem,Int.reduceOfNat]:gC c F k2 (n+1) vs s=_)
def xB:Un->List Q2->Nat->Q2
 | .z,[k2]=>gC c F k2
 |(.s .z),[k4]=>jO c F k4
 |(.s (.s .z)),[k6]=>jP c F k6
 |_,_=>λ_=>fy
def nk:O2:=bf c F (xB c F) Fl.1 [x0] s
def Vp:=(by dsimp only[nk,Fl, ↓xB,go_sem,Int.reduceOfNat]:nk c F x0 s=_)
def r9:Sh:=(sq sl (sq sl (sq sl (sq (sq sl (sb (sp 0 [1,2,7,8,9] [(2,[1,2,7,8])] (sq (sq sl (sc sl sl)) (sj [1,2,7,8,9] (sb (sq sl (sc sl sl))) sl))))) (sq sl (sq (sq sl (sb (sp 1 [1,2,7,8,10,11] [(4,[10])] (sq (sq sl (sc sl sl)) (sj [1,2,7,8,10,11] (sb (sq sl (sj [1,2,7,8,10,11,12] (sq sl (sc (sq sl (sj [1,2,7,8,10,11,13] (sq sl (sc sl sl)) sl)) sl)) sl))) sl))))) (sq sl sl)))))))
def Fm:PX 20 r9:=⟨_,by conv=>lhs;reduce⟩
def D7:PL 20 r9 1:=⟨_,by conv=>lhs;reduce⟩
def mT(k4:Q2):Nat->Q2
 |0,_,_=>none
 |n+1,vs,s=>dZ c F aY (mT k4 n) [k4] D7.1 vs s
def uf(k4:Q2)(n:Nat)(vs:List AV)(s:St):=(by dsimp only[mT,D7,go_sem,Int.reduceOfNat]:mT c F k4 (n+1) vs s=_)
def D8:PL 20 r9 0:=⟨_,by conv=>lhs;reduce⟩
def mS(k2:Q2):Nat->Q2
 |0,_,_=>none
 |n+1,vs,s=>dZ c F aY (mS k2 n) [k2] D8.1 vs s
def ue(k2:Q2)(n:Nat)(vs:List AV)(s:St):=(by dsimp only[mS,D8,go_sem,Int.reduceOfNat]:mS c F k2 (n+1) vs s=_)
def xC:Un->List Q2->Nat->Q2
 | .z,[k2]=>mS c F k2
 |(.s .z),[k4]=>mT c F k4
 |_,_=>λ_=>fy
def Af:O2:=bf c F (xC c F) Fm.1 [x0,x1,x2] s
def U3:=(by dsimp only[Af,Fm, ↓xC,go_sem,Int.reduceOfNat]:Af c F x0 x1 x2 s=_)
def HS:Sh:=(sq sl (sq sl sl))
def HT:PX 22 HS:=⟨_,by conv=>lhs;reduce⟩
def BK:O2:=bf c F aY HT.1 [x0,x1] s
def W6:=(by dsimp only[BK,HT,go_sem,Int.reduceOfNat]:BK c F x0 x1 s=_)
def JV:Sh:=(sq sl (sq sl sl))
def JX:PX 23 JV:=⟨_,by conv=>lhs;reduce⟩
def D9:O2:=bf c F aY JX.1 [x0,x1] s
def Zh:=(by dsimp only[D9,JX,go_sem,Int.reduceOfNat]:D9 c F x0 x1 s=_)
def JY:Sh:=(sq sl (sq sl (sj [5] (sq sl (sc sl sl)) (sq sl sl))))
def JZ:PX 24 JY:=⟨_,by conv=>lhs;reduce⟩
def Ec:O2:=bf c F aY JZ.1 [x0,x1] s
def Zj:=(by dsimp only[Ec,JZ,go_sem,Int.reduceOfNat]:Ec c F x0 x1 s=_)
def HU:Sh:=(sq sl (sq sl sl))
def HV:PX 25 HU:=⟨_,by conv=>lhs;reduce⟩
def BL:O2:=bf c F aY HV.1 [x0,x1] s
def WZ:=(by dsimp only[BL,HV,go_sem,Int.reduceOfNat]:BL c F x0 x1 s=_)
def Ag:Sh:=(sq sl (sq sl (sq (sq sl (sc (sq sl sl) sl)) (sq (sq sl (sb (sp 0 [6,21,22,23] [(1,[4,5]),(2,[])] (sq sl (sq (sc sl sl) (sq (sb (sq sl (sq sl (sc (sq sl sl) sl)))) sl)))))) (sq sl sl)))))
def J5:PX 26 Ag:=⟨_,by conv=>lhs;reduce⟩
def HW:PL 26 Ag 0:=⟨_,by conv=>lhs;reduce⟩
def oY(k1 k2:Q2):Nat->Q2
 |0,_,_=>none
 |n+1,vs,s=>dZ c F aY (oY k1 k2 n) [k1,k2] HW.1 vs s
def qC(k1 k2:Q2)(n:Nat)(vs:List AV)(s:St):=(by dsimp only[oY,HW,go_sem,Int.reduceOfNat]:oY c F k1 k2 (n+1) vs s=_)
def Ah:Un->List Q2->Nat->Q2
 | .z,[k1,k2]=>oY c F k1 k2
 |_,_=>λ_=>fy
def Ed:O2:=bf c F (Ah c F) J5.1 [x0,x1] s
def Zi:=(by dsimp only[Ed,J5, ↓Ah,go_sem,Int.reduceOfNat]:Ed c F x0 x1 s=_)
def xD:Sh:=(sq sl (sq sl (sq (sq sl (sc (sq sl sl) sl)) (sq sl (sq (sq sl (sb (sp 0 [5,6,21,22,23] [(2,[6])] (sq sl (sq (sc sl sl) (sj [5,6,21,22,23] (sb (sq sl (sq sl (sc sl sl)))) sl)))))) (sq sl sl))))))
def Fo:PX 27 xD:=⟨_,by conv=>lhs;reduce⟩
def Ee:PL 27 xD 0:=⟨_,by conv=>lhs;reduce⟩
def mQ(k2:Q2):Nat->Q2
 |0,_,_=>none
 |n+1,vs,s=>dZ c F aY (mQ k2 n) [k2] Ee.1 vs s
def oN(k2:Q2)(n:Nat)(vs:List AV)(s:St):=(by dsimp only[mQ,Ee,go_sem,Int.reduceOfNat]:mQ c F k2 (n+1) vs s=_)
def xE:Un->List Q2->Nat->Q2
 | .z,[k2]=>mQ c F k2
 |_,_=>λ_=>fy
def Aj:O2:=bf c F (xE c F) Fo.1 [x0,x1] s
def U1:=(by dsimp only[Aj,Fo, ↓xE,go_sem,Int.reduceOfNat]:Aj c F x0 x1 s=_)
def y9:Sh:=(sq sl (sq sl (sq (sq sl (sc (sq sl sl) sl)) (sq (sq sl (sb (sp 0 [5,24,25,26] [(1,[4]),(2,[])] (sq sl (sq (sc sl sl) (sq (sb (sq sl (sq sl (sc (sq sl sl) sl)))) sl)))))) (sq sl sl)))))
def HX:PX 28 y9:=⟨_,by conv=>lhs;reduce⟩
def Fp:PL 28 y9 0:=⟨_,by conv=>lhs;reduce⟩
def nY(k1 k2:Q2):Nat->Q2
 |0,_,_=>none
 |n+1,vs,s=>dZ c F aY (nY k1 k2 n) [k1,k2] Fp.1 vs s
def pI(k1 k2:Q2)(n:Nat)(vs:List AV)(s:St):=(by dsimp only[nY,Fp,go_sem,Int.reduceOfNat,Int.reduceNegSucc]:nY c F k1 k2 (n+1) vs s=_)
def zc:Un->List Q2->Nat->Q2
 | .z,[k1,k2]=>nY c F k1 k2
 |_,_=>λ_=>fy
def BM:O2:=bf c F (zc c F) HX.1 [x0,x1] s
def Hj:=(by dsimp only[BM,HX, ↓zc,go_sem,Int.reduceOfNat,Int.reduceNegSucc]:BM c F x0 x1 s=_)
def uj:Sh:=(sq sl (sq sl (sq (sq sl (sb (sp 0 [1,3,4] [(2,[3])] (sq (sq sl (sc sl sl)) (sq (sb sl) sl))))) (sq sl sl))))
def Bc:PX 35 uj:=⟨_,by conv=>lhs;reduce⟩
def zS:PL 35 uj 0:=⟨_,by conv=>lhs;reduce⟩
def jX(k2:Q2):Nat->Q2
 |0,_,_=>none
 |n+1,vs,s=>dZ c F aY (jX k2 n) [k2] zS.1 vs s
def xZ(k2:Q2)(n:Nat)(vs:List AV)(s:St):=(by dsimp only[jX,zS,go_sem,Int.reduceOfNat]:jX c F k2 (n+1) vs s=_)
def uk:Un->List Q2->Nat->Q2
 | .z,[k2]=>jX c F k2
 |_,_=>λ_=>fy
def wm:O2:=bf c F (uk c F) Bc.1 [x0] s
def Oy:=(by dsimp only[wm,Bc, ↓uk,go_sem,Int.reduceOfNat]:wm c F x0 s=_)
def wq:Sh:=(sq sl (sq (sq sl (sb (sp 0 [0,1,5] [(1,[4]),(2,[])] (sq (sq sl (sc sl sl)) (sq (sb (sq sl (sq sl (sc (sq sl (sq sl sl)) sl)))) sl))))) (sq sl sl)))
def Ef:PX 36 wq:=⟨_,by conv=>lhs;reduce⟩
def Cv:PL 36 wq 0:=⟨_,by conv=>lhs;reduce⟩
def lY(k1 k2:Q2):Nat->Q2
 |0,_,_=>none
 |n+1,vs,s=>dZ c F aY (lY k1 k2 n) [k1,k2] Cv.1 vs s
def sI(k1 k2:Q2)(n:Nat)(vs:List AV)(s:St):=(by dsimp only[lY,Cv,go_sem,Int.reduceOfNat,Int.reduceNegSucc]:lY c F k1 k2 (n+1) vs s=_)
def wu:Un->List Q2->Nat->Q2
 | .z,[k1,k2]=>lY c F k1 k2
 |_,_=>λ_=>fy
def ze:O2:=bf c F (wu c F) Ef.1 [x0,x1] s
def Dn:=(by dsimp only[ze,Ef, ↓wu,go_sem,Int.reduceOfNat,Int.reduceNegSucc]:ze c F x0 x1 s=_)
def Ak:Sh:=(sq sl (sq (sq sl (sc (sq sl sl) sl)) (sq sl (sq (sq sl (sb (sp 0 [0,5,32,33,34] [(1,[4]),(2,[5])] (sq sl (sq (sc sl sl) (sj [0,5,32,33,34] (sb (sq sl (sq (sq sl (sc (sq sl sl) sl)) (sq sl (sc sl sl))))) sl)))))) (sq sl sl)))))
def J6:PX 37 Ak:=⟨_,by conv=>lhs;reduce⟩
def HZ:PL 37 Ak 0:=⟨_,by conv=>lhs;reduce⟩
def lW(k1 k2:Q2):Nat->Q2
 |0,_,_=>none
 |n+1,vs,s=>dZ c F aY (lW k1 k2 n) [k1,k2] HZ.1 vs s
def fZ(k1 k2:Q2)(n:Nat)(vs:List AV)(s:St):=(by dsimp only[lW,HZ,go_sem,Int.reduceOfNat,Int.reduceNegSucc]:lW c F k1 k2 (n+1) vs s=_)
def Al:Un->List Q2->Nat->Q2
 | .z,[k1,k2]=>lW c F k1 k2
 |_,_=>λ_=>fy
def Eg:O2:=bf c F (Al c F) J6.1 [x0,x1] s
def Aa:=(by dsimp only[Eg,J6, ↓Al,go_sem,Int.reduceOfNat,Int.reduceNegSucc]:Eg c F x0 x1 s=_)
def H6:Sh:=(sq sl (sq sl (sq sl (sq sl sl))))
def H7:PX 41 H6:=⟨_,by conv=>lhs;reduce⟩
def BN:O2:=bf c F aY H7.1 [x0,x1] s
def WV:=(by dsimp only[BN,H7,go_sem,Int.reduceOfNat]:BN c F x0 x1 s=_)
def wz:Sh:=(sq sl (sq sl (sq sl (sj [1,4,5] (sq sl (sb (sq sl (sc sl (sq sl (sc sl (sq sl (sc sl (sq sl (sc (sq sl sl) sl)))))))))) (sq (sq sl (sb (sp 0 [1,4,5,7] [(3,[4,5])] (sq (sq sl (sc sl sl)) (sj [1,4,5,7] (sb (sq sl (sc (sq sl sl) sl))) sl))))) (sq sl sl))))))
def Eh:PX 45 wz:=⟨_,by conv=>lhs;reduce⟩
def Cw:PL 45 wz 0:=⟨_,by conv=>lhs;reduce⟩
def jk(k3:Q2):Nat->Q2
 |0,_,_=>none
 |n+1,vs,s=>dZ c F aY (jk k3 n) [k3] Cw.1 vs s
def nO(k3:Q2)(n:Nat)(vs:List AV)(s:St):=(by dsimp only[jk,Cw,go_sem,Int.reduceOfNat]:jk c F k3 (n+1) vs s=_)
def wC:Un->List Q2->Nat->Q2
 | .z,[k3]=>jk c F k3
 |_,_=>λ_=>fy
def zf:O2:=bf c F (wC c F) Eh.1 [x0,x1] s
def Tc:=(by dsimp only[zf,Eh, ↓wC,go_sem,Int.reduceOfNat]:zf c F x0 x1 s=_)
def Fq:Sh:=(sq sl (sq (sq sl (sb (sq sl (sc (sq sl sl) (sq sl (sc (sq sl sl) sl)))))) (sq sl sl)))
def Fs:PX 46 Fq:=⟨_,by conv=>lhs;reduce⟩
def Am:O2:=bf c F aY Fs.1 [x0] s
def Vn:=(by dsimp only[Am,Fs,go_sem,Int.reduceOfNat]:Am c F x0 s=_)
def kj:Sh:=(sq sl (sq sl (sq (sq sl (sb (sp 0 [0,1,4,5,6] [(2,[1,4,5])] (sq (sq sl (sc sl sl)) (sj [0,1,4,5,6] (sb (sq sl (sq sl (sj [0,1,4,5,6,7,8] (sq sl (sc sl sl)) (sj [0,1,4,5,6,7,8] (sq sl (sc sl sl)) (sj [0,1,4,5,6,7,8] (sq sl (sc sl sl)) (sq (sq sl (sb (sp 1 [0,1,4,5,6,7,8,9] [(4,[0,1,4,5,6,8])] (sq (sq sl (sc sl sl)) (sj [0,1,4,5,6,7,8,9] (sb (sq sl (sc (sq sl sl) sl))) sl))))) (sq sl sl)))))))) sl))))) (sq sl (sq (sq sl (sb (sp 2 [1,4,5,12,13] [(6,[4,5])] (sq (sq sl (sc sl sl)) (sq (sb (sq sl (sb (sp 3 [1,4,5,12,13,14] [(8,[1,4,5,12,13])] (sq (sq sl (sc sl sl)) (sj [1,4,5,12,13,14] (sb (sq (sq sl (sc sl sl)) (sq (sq sl (sc sl sl)) (sj [1,4,5,12,13,14] (sq sl (sc (sq sl sl) sl)) sl)))) sl)))))) sl))))) (sq sl sl))))))
def Ft:PX 47 kj:=⟨_,by conv=>lhs;reduce⟩
def Ei:PL 47 kj 3:=⟨_,by conv=>lhs;reduce⟩
def jQ(k8:Q2):Nat->Q2
 |0,_,_=>none
 |n+1,vs,s=>dZ c F aY (jQ k8 n) [k8] Ei.1 vs s
def iL(k8:Q2)(n:Nat)(vs:List AV)(s:St):=(by dsimp only[jQ,Ei,go_sem,Int.reduceOfNat]:jQ c F k8 (n+1) vs s=_)
def Ej:Un->List Q2->Nat->Q2
 |(.s (.s (.s .z))),[k8]=>jQ c F k8
 |_,_=>λ_=>fy
def Ek:PL 47 kj 2:=⟨_,by conv=>lhs;reduce⟩
def jR(k6:Q2):Nat->Q2
 |0,_,_=>none
 |n+1,vs,s=>dZ c F (Ej c F) (jR k6 n) [k6] Ek.1 vs s
def A4(k6:Q2)(n:Nat)(vs:List AV)(s:St):=(by dsimp only[jR,Ek, ↓Ej,go_sem,Int.reduceOfNat]:jR c F k6 (n+1) vs s=_)
def El:PL 47 kj 1:=⟨_,by conv=>lhs;reduce⟩
def iF(k4:Q2):Nat->Q2
 |0,_,_=>none
 |n+1,vs,s=>dZ c F aY (iF k4 n) [k4] El.1 vs s
def ug(k4:Q2)(n:Nat)(vs:List AV)(s:St):=(by dsimp only[iF,El,go_sem,Int.reduceOfNat]:iF c F k4 (n+1) vs s=_)
def Em:Un->List Q2->Nat->Q2
 |(.s .z),[k4]=>iF c F k4
 |_,_=>λ_=>fy
def Eo:PL 47 kj 0:=⟨_,by conv=>lhs;reduce⟩
def gy(k2:Q2):Nat->Q2
 |0,_,_=>none
 |n+1,vs,s=>dZ c F (Em c F) (gy k2 n) [k2] Eo.1 vs s
def AZ(k2:Q2)(n:Nat)(vs:List AV)(s:St):=(by dsimp only[gy,Eo, ↓Em,go_sem,Int.reduceOfNat]:gy c F k2 (n+1) vs s=_)
def xF:Un->List Q2->Nat->Q2
 | .z,[k2]=>gy c F k2
 |(.s .z),[k4]=>iF c F k4
 |(.s (.s .z)),[k6]=>jR c F k6
 |(.s (.s (.s .z))),[k8]=>jQ c F k8
 |_,_=>λ_=>fy
def An:O2:=bf c F (xF c F) Ft.1 [x0,x1] s
def Vo:=(by dsimp only[An,Ft, ↓xF,go_sem,Int.reduceOfNat]:An c F x0 x1 s=_)
def Ep:Sh:=(sq sl (sq sl (sq sl (sj [1,2,4,6] (sq sl (sc sl sl)) (sq sl (sq sl (sq (sq sl (sc (sq sl sl) sl)) (sq sl (sq sl (sj [1,2,4,6,11] (sq sl (sb (sj [1,2,4,6,9,10,11,12,58,59] (sq sl (sc sl (sq sl (sc sl (sq sl (sc sl (sq sl (sc sl sl)))))))) (sc (sq sl (sj [4,6,9,10] (sq sl (sc sl sl)) (sj [4,6,9,10] (sq sl (sc sl sl)) (sq sl sl)))) (sj [1,2,4,6,9,11,12,58,100] (sq sl (sc sl sl)) (sc (sq sl (sj [4,6] (sq sl (sc sl sl)) (sq sl sl))) (sq sl (sc (sj [4,6] (sq sl (sc sl sl)) (sq sl sl)) (sq sl (sc (sq sl (sq sl sl)) (sj [1,2,4,6,11,12,164] (sq sl (sc sl sl)) (sc sl sl)))))))))))) (sj [4,6] (sq sl (sc sl sl)) (sq sl sl))))))))))))
def Er:PX 48 Ep:=⟨_,by conv=>lhs;reduce⟩
def mg:O2:=bf c F aY Er.1 [x0,x1] s
def Te:=(by dsimp only[mg,Er,go_sem,Int.reduceOfNat]:mg c F x0 x1 s=_)
def Ao:Sh:=(sq sl (sq sl (sq sl (sq (sq sl (sb (sp 0 [0,1,5,6,7,16,17,18] [(2,[0,1,5,6,7])] (sq sl (sq (sc sl sl) (sj [0,1,5,6,7,16,17,18] (sb (sq sl (sq sl (sc (sq sl (sq sl (sc sl sl))) sl)))) sl)))))) (sj [5] (sq sl (sb (sq sl (sc sl (sq sl (sc sl (sq sl (sc (sq sl (sc sl sl)) sl)))))))) (sq sl sl))))))
def J7:PX 71 Ao:=⟨_,by conv=>lhs;reduce⟩
def H8:PL 71 Ao 0:=⟨_,by conv=>lhs;reduce⟩
def oX(k2:Q2):Nat->Q2
 |0,_,_=>none
 |n+1,vs,s=>dZ c F aY (oX k2 n) [k2] H8.1 vs s
def Dk(k2:Q2)(n:Nat)(vs:List AV)(s:St):=(by dsimp only[oX,H8,go_sem,Int.reduceOfNat]:oX c F k2 (n+1) vs s=_)
def Ap:Un->List Q2->Nat->Q2
 | .z,[k2]=>oX c F k2
 |_,_=>λ_=>fy
def Es:O2:=bf c F (Ap c F) J7.1 [x0,x1] s
def Zg:=(by dsimp only[Es,J7, ↓Ap,go_sem,Int.reduceOfNat]:Es c F x0 x1 s=_)
def BO:Sh:=(sq sl (sq sl (sq (sq sl (sc (sq sl sl) sl)) (sq sl (sq (sq sl (sb (sp 0 [2,7,8,23,24,25] [(2,[8])] (sq sl (sq (sc sl sl) (sj [2,7,8,23,24,25] (sb (sq sl (sq sl (sc sl sl)))) sl)))))) (sq sl sl))))))
def MG:PX 72 BO:=⟨_,by conv=>lhs;reduce⟩
def J8:PL 72 BO 0:=⟨_,by conv=>lhs;reduce⟩
def pY(k2:Q2):Nat->Q2
 |0,_,_=>none
 |n+1,vs,s=>dZ c F aY (pY k2 n) [k2] J8.1 vs s
def Fa(k2:Q2)(n:Nat)(vs:List AV)(s:St):=(by dsimp only[pY,J8,go_sem,Int.reduceOfNat]:pY c F k2 (n+1) vs s=_)
def BP:Un->List Q2->Nat->Q2
 | .z,[k2]=>pY c F k2
 |_,_=>λ_=>fy
def Gh:O2:=bf c F (BP c F) MG.1 [x0,x1,x2] s
def abf:=(by dsimp only[Gh,MG, ↓BP,go_sem,Int.reduceOfNat]:Gh c F x0 x1 x2 s=_)
def sN:Sh:=(sq sl (sj [0,1] (sq sl (sc sl sl)) (sq sl (sj [0,6] (sq sl (sc sl sl)) (sq sl (sq sl (sq (sb (sp 0 [7,8] [(2,[7])] (sq (sq sl (sc sl sl)) (sb sl)))) (sq sl sl))))))))
def zU:PX 79 sN:=⟨_,by conv=>lhs;reduce⟩
def zh:PL 79 sN 0:=⟨_,by conv=>lhs;reduce⟩
def jD(k2:Q2):Nat->Q2
 |0,_,_=>none
 |n+1,vs,s=>dZ c F aY (jD k2 n) [k2] zh.1 vs s
def kL(k2:Q2)(n:Nat)(vs:List AV)(s:St):=(by dsimp only[jD,zh,go_sem,Int.reduceOfNat]:jD c F k2 (n+1) vs s=_)
def sO:Un->List Q2->Nat->Q2
 | .z,[k2]=>jD c F k2
 |_,_=>λ_=>fy
def u7:O2:=bf c F (sO c F) zU.1 [x0,x1] s
def zN:=(by dsimp only[u7,zU, ↓sO,go_sem,Int.reduceOfNat]:u7 c F x0 x1 s=_)
def Eu:Sh:=sl
def Ew:PX 82 Eu:=⟨_,by conv=>lhs;reduce⟩
def zi:O2:=bf c F aY Ew.1 [x0,x1,x2] s
def Sy:=(by dsimp only[zi,Ew,go_sem,Int.reduceOfNat]:zi c F x0 x1 x2 s=_)
def Fu:Sh:=(sq sl (sq sl sl))
def Fv:PX 85 Fu:=⟨_,by conv=>lhs;reduce⟩
def Aq:O2:=bf c F aY Fv.1 [x0] s
def Vm:=(by dsimp only[Aq,Fv,go_sem,Int.reduceOfNat]:Aq c F x0 s=_)
def Cx:Sh:=(sq sl (sq sl sl))
def Cy:PX 86 Cx:=⟨_,by conv=>lhs;reduce⟩
def xG:O2:=bf c F aY Cy.1 [x0] s
def QH:=(by dsimp only[xG,Cy,go_sem,Int.reduceOfNat]:xG c F x0 s=_)
def wD:Sh:=(sq sl (sq (sq sl (sb (sp 0 [1,2,5] [(1,[4]),(2,[])] (sq (sq sl (sc sl sl)) (sq (sb (sq sl (sc (sq sl sl) sl))) sl))))) (sq sl sl)))
def Ex:PX 87 wD:=⟨_,by conv=>lhs;reduce⟩
def Cz:PL 87 wD 0:=⟨_,by conv=>lhs;reduce⟩
def l9(k1 k2:Q2):Nat->Q2
 |0,_,_=>none
 |n+1,vs,s=>dZ c F aY (l9 k1 k2 n) [k1,k2] Cz.1 vs s
def sM(k1 k2:Q2)(n:Nat)(vs:List AV)(s:St):=(by dsimp only[l9,Cz,go_sem,Int.reduceOfNat]:l9 c F k1 k2 (n+1) vs s=_)
def wE:Un->List Q2->Nat->Q2
 | .z,[k1,k2]=>l9 c F k1 k2
 |_,_=>λ_=>fy
def zj:O2:=bf c F (wE c F) Ex.1 [x0,x1] s
def Td:=(by dsimp only[zj,Ex, ↓wE,go_sem,Int.reduceOfNat]:zj c F x0 x1 s=_)
def J9:Sh:=(sq sl (sq sl (sq (sq sl (sc sl sl)) (sq sl (sq sl (sc sl sl))))))
def Ka:PX 90 J9:=⟨_,by conv=>lhs;reduce⟩
def Ey:O2:=bf c F aY Ka.1 [x0,x1,x2] s
def Y5:=(by dsimp only[Ey,Ka,go_sem,Int.reduceOfNat]:Ey c F x0 x1 x2 s=_)
def Be:Sh:=(sq sl (sq sl (sq sl (sc sl sl))))
def Bf:PX 91 Be:=⟨_,by conv=>lhs;reduce⟩
def wF:O2:=bf c F aY Bf.1 [x0,x1,x2] s
def Oo:=(by dsimp only[wF,Bf,go_sem,Int.reduceOfNat]:wF c F x0 x1 x2 s=_)
def Bg:Sh:=(sq sl (sq sl (sq sl (sc sl sl))))
def Bh:PX 92 Bg:=⟨_,by conv=>lhs;reduce⟩
def wG:O2:=bf c F aY Bh.1 [x0,x1,x2] s
def Oq:=(by dsimp only[wG,Bh,go_sem,Int.reduceOfNat]:wG c F x0 x1 x2 s=_)
def H9:Sh:=(sq sl (sq sl (sq sl (sc (sq sl (sq sl (sc sl sl))) sl))))
def Ia:PX 93 H9:=⟨_,by conv=>lhs;reduce⟩
def BQ:O2:=bf c F aY Ia.1 [x0,x1,x2] s
def WM:=(by dsimp only[BQ,Ia,go_sem,Int.reduceOfNat]:BQ c F x0 x1 x2 s=_)
def Ez:Sh:=(sq sl (sq sl (sq sl (sc sl sl))))
def EA:PX 94 Ez:=⟨_,by conv=>lhs;reduce⟩
def zk:O2:=bf c F aY EA.1 [x0,x1,x2] s
def Sj:=(by dsimp only[zk,EA,go_sem,Int.reduceOfNat]:zk c F x0 x1 x2 s=_)
def Q0:Sh:=(sq sl (sq sl (sq sl (sq sl (sc sl sl)))))
def Q3:PX 95 Q0:=⟨_,by conv=>lhs;reduce⟩
def MH:O2:=bf c F aY Q3.1 [x0,x1,x2] s
def adO:=(by dsimp only[MH,Q3,go_sem,Int.reduceOfNat]:MH c F x0 x1 x2 s=_)
def BR:Sh:=(sq sl (sq sl (sq sl (sq (sq sl (sc sl sl)) (sq sl (sq (sb (sp 0 [0,2,4,6,7,8] [(2,[0,2,4,6,7,8])] (sq (sq sl (sc sl sl)) (sb sl)))) (sq sl (sc sl sl))))))))
def MI:PX 96 BR:=⟨_,by conv=>lhs;reduce⟩
def Kb:PL 96 BR 0:=⟨_,by conv=>lhs;reduce⟩
def pX(k2:Q2):Nat->Q2
 |0,_,_=>none
 |n+1,vs,s=>dZ c F aY (pX k2 n) [k2] Kb.1 vs s
def rW(k2:Q2)(n:Nat)(vs:List AV)(s:St):=(by dsimp only[pX,Kb,go_sem,Int.reduceOfNat]:pX c F k2 (n+1) vs s=_)
def BS:Un->List Q2->Nat->Q2
 | .z,[k2]=>pX c F k2
 |_,_=>λ_=>fy
def Gi:O2:=bf c F (BS c F) MI.1 [x0,x1,x2] s
def aa5:=(by dsimp only[Gi,MI, ↓BS,go_sem,Int.reduceOfNat]:Gi c F x0 x1 x2 s=_)
def CA:Sh:=(sq sl sl)
def CB:PX 97 CA:=⟨_,by conv=>lhs;reduce⟩
def xH:O2:=bf c F aY CB.1 [x0,x1,x2] s
def Qa:=(by dsimp only[xH,CB,go_sem,Int.reduceOfNat]:xH c F x0 x1 x2 s=_)
def MJ:Sh:=(sq sl sl)
def MK:PX 98 MJ:=⟨_,by conv=>lhs;reduce⟩
def Gj:O2:=bf c F aY MK.1 [x0,x1,x2] s
def abc:=(by dsimp only[Gj,MK,go_sem,Int.reduceOfNat]:Gj c F x0 x1 x2 s=_)
def Ar:Sh:=(sq sl (sq sl (sb (sp 0 [0,2,4,11,12,13] [(2,[])] (sq sl (sq (sc sl sl) (sj [0,2,4,11,12,13] (sb (sq sl (sq sl (sc sl sl)))) sl)))))))
def Kc:PX 99 Ar:=⟨_,by conv=>lhs;reduce⟩
def Ib:PL 99 Ar 0:=⟨_,by conv=>lhs;reduce⟩
def jz(k2:Q2):Nat->Q2
 |0,_,_=>none
 |n+1,vs,s=>dZ c F aY (jz k2 n) [k2] Ib.1 vs s
def iC(k2:Q2)(n:Nat)(vs:List AV)(s:St):=(by dsimp only[jz,Ib,go_sem,Int.reduceOfNat]:jz c F k2 (n+1) vs s=_)
def At:Un->List Q2->Nat->Q2
 | .z,[k2]=>jz c F k2
 |_,_=>λ_=>fy
def EB:O2:=bf c F (At c F) Kc.1 [x0,x1,x2] s
def Za:=(by dsimp only[EB,Kc, ↓At,go_sem,Int.reduceOfNat]:EB c F x0 x1 x2 s=_)
def qp:Sh:=(sq sl (sq sl (sb (sp 0 [0,2,4,18,19,20] [(2,[])] (sq sl (sq (sc sl sl) (sj [0,2,4,18,19,20] (sb (sq sl (sq (sq sl (sc sl sl)) (sq sl (sq (sq sl (sb (sp 1 [0,2,4,6,8,9,18,19,20,54,55,56] [(4,[0,2,4,6,8,9,18,19,20])] (sq sl (sq (sc sl sl) (sq (sb (sq sl (sq sl (sb (sp 2 [0,2,4,6,8,9,18,19,20,54,55,56,60,61,62] [(6,[0,2,4,6,8,9,18,19,20,54,55,56])] (sq sl (sq (sc sl sl) (sj [0,2,4,6,8,9,18,19,20,54,55,56,60,61,62] (sb (sq sl (sq sl (sq sl (sc (sq sl sl) sl))))) sl)))))))) sl)))))) (sq sl (sc sl sl))))))) sl)))))))
def Ke:PX 100 qp:=⟨_,by conv=>lhs;reduce⟩
def Ic:PL 100 qp 2:=⟨_,by conv=>lhs;reduce⟩
def jC(k6:Q2):Nat->Q2
 |0,_,_=>none
 |n+1,vs,s=>dZ c F aY (jC k6 n) [k6] Ic.1 vs s
def vO(k6:Q2)(n:Nat)(vs:List AV)(s:St):=(by dsimp only[jC,Ic,go_sem,Int.reduceOfNat]:jC c F k6 (n+1) vs s=_)
def Ie:Un->List Q2->Nat->Q2
 |(.s (.s .z)),[k6]=>jC c F k6
 |_,_=>λ_=>fy
def Ig:PL 100 qp 1:=⟨_,by conv=>lhs;reduce⟩
def lV(k4:Q2):Nat->Q2
 |0,_,_=>none
 |n+1,vs,s=>dZ c F (Ie c F) (lV k4 n) [k4] Ig.1 vs s
def vP(k4:Q2)(n:Nat)(vs:List AV)(s:St):=(by dsimp only[lV,Ig, ↓Ie,go_sem,Int.reduceOfNat]:lV c F k4 (n+1) vs s=_)
def Ih:Un->List Q2->Nat->Q2
 |(.s .z),[k4]=>lV c F k4
 |(.s (.s .z)),[k6]=>jC c F k6
 |_,_=>λ_=>fy
def Ii:PL 100 qp 0:=⟨_,by conv=>lhs;reduce⟩
def fY(k2:Q2):Nat->Q2
 |0,_,_=>none
 |n+1,vs,s=>dZ c F (Ih c F) (fY k2 n) [k2] Ii.1 vs s
def mP(k2:Q2)(n:Nat)(vs:List AV)(s:St):=(by dsimp only[fY,Ii, ↓Ih,go_sem,Int.reduceOfNat]:fY c F k2 (n+1) vs s=_)
def Au:Un->List Q2->Nat->Q2
 | .z,[k2]=>fY c F k2
 |(.s .z),[k4]=>lV c F k4
 |(.s (.s .z)),[k6]=>jC c F k6
 |_,_=>λ_=>fy
def EC:O2:=bf c F (Au c F) Ke.1 [x0,x1,x2] s
def Zb:=(by dsimp only[EC,Ke, ↓Au,go_sem,Int.reduceOfNat]:EC c F x0 x1 x2 s=_)
def Kf:Sh:=(sq sl sl)
def Kg:PX 101 Kf:=⟨_,by conv=>lhs;reduce⟩
def ED:O2:=bf c F aY Kg.1 [x0,x1,x2] s
def Y9:=(by dsimp only[ED,Kg,go_sem,Int.reduceOfNat]:ED c F x0 x1 x2 s=_)
def se:Sh:=(sq sl (sq sl (sb (sp 0 [0,2,4,13,14,15] [(2,[])] (sq sl (sq (sc sl sl) (sq (sb (sq sl (sq sl (sb (sp 1 [0,2,4,6,7,8,13,14,15] [(4,[0,2,4,13,14,15])] (sq (sq sl (sc sl sl)) (sj [0,2,4,6,7,8,13,14,15] (sb (sq sl (sq sl (sc sl sl)))) sl))))))) sl)))))))
def Fw:PX 102 se:=⟨_,by conv=>lhs;reduce⟩
def EE:PL 102 se 1:=⟨_,by conv=>lhs;reduce⟩
def fX(k4:Q2):Nat->Q2
 |0,_,_=>none
 |n+1,vs,s=>dZ c F aY (fX k4 n) [k4] EE.1 vs s
def iK(k4:Q2)(n:Nat)(vs:List AV)(s:St):=(by dsimp only[fX,EE,go_sem,Int.reduceOfNat]:fX c F k4 (n+1) vs s=_)
def EF:Un->List Q2->Nat->Q2
 |(.s .z),[k4]=>fX c F k4
 |_,_=>λ_=>fy
def EG:PL 102 se 0:=⟨_,by conv=>lhs;reduce⟩
def mO(k2:Q2):Nat->Q2
 |0,_,_=>none
 |n+1,vs,s=>dZ c F (EF c F) (mO k2 n) [k2] EG.1 vs s
def AN(k2:Q2)(n:Nat)(vs:List AV)(s:St):=(by dsimp only[mO,EG, ↓EF,go_sem,Int.reduceOfNat]:mO c F k2 (n+1) vs s=_)
def xI:Un->List Q2->Nat->Q2
 | .z,[k2]=>mO c F k2
 |(.s .z),[k4]=>fX c F k4
 |_,_=>λ_=>fy
def Av:O2:=bf c F (xI c F) Fw.1 [x0,x1,x2] s
def UR:=(by dsimp only[Av,Fw, ↓xI,go_sem,Int.reduceOfNat]:Av c F x0 x1 x2 s=_)
def Ij:Sh:=(sq sl (sq (sq sl (sc sl sl)) sl))
def Ik:PX 103 Ij:=⟨_,by conv=>lhs;reduce⟩
def BT:O2:=bf c F aY Ik.1 [x0,x1,x2] s
def He:=(by dsimp only[BT,Ik,go_sem,Int.reduceOfNat]:BT c F x0 x1 x2 s=_)
def ML:Sh:=(sq sl sl)
def MM:PX 104 ML:=⟨_,by conv=>lhs;reduce⟩
def Gk:O2:=bf c F aY MM.1 [x0,x1,x2] s
def abd:=(by dsimp only[Gk,MM,go_sem,Int.reduceOfNat]:Gk c F x0 x1 x2 s=_)
def Kh:Sh:=(sq sl sl)
def Ki:PX 105 Kh:=⟨_,by conv=>lhs;reduce⟩
def EH:O2:=bf c F aY Ki.1 [x0,x1,x2] s
def Zc:=(by dsimp only[EH,Ki,go_sem,Int.reduceOfNat]:EH c F x0 x1 x2 s=_)
def xJ:Sh:=(sq sl (sq sl (sb (sp 0 [0,2,4,11,12,13] [(2,[])] (sq sl (sq (sc sl sl) (sj [0,2,4,11,12,13] (sb (sq sl (sq sl (sc sl sl)))) sl)))))))
def Fx:PX 106 xJ:=⟨_,by conv=>lhs;reduce⟩
def EI:PL 106 xJ 0:=⟨_,by conv=>lhs;reduce⟩
def iD(k2:Q2):Nat->Q2
 |0,_,_=>none
 |n+1,vs,s=>dZ c F aY (iD k2 n) [k2] EI.1 vs s
def kB(k2:Q2)(n:Nat)(vs:List AV)(s:St):=(by dsimp only[iD,EI,go_sem,Int.reduceOfNat]:iD c F k2 (n+1) vs s=_)
def xK:Un->List Q2->Nat->Q2
 | .z,[k2]=>iD c F k2
 |_,_=>λ_=>fy
def Aw:O2:=bf c F (xK c F) Fx.1 [x0,x1,x2] s
def UT:=(by dsimp only[Aw,Fx, ↓xK,go_sem,Int.reduceOfNat]:Aw c F x0 x1 x2 s=_)
def NX:Sh:=(sq sl sl)
def NY:PX 107 NX:=⟨_,by conv=>lhs;reduce⟩
def IY:O2:=bf c F aY NY.1 [x0,x1,x2] s
def acz:=(by dsimp only[IY,NY,go_sem,Int.reduceOfNat]:IY c F x0 x1 x2 s=_)
def MN:Sh:=(sq sl (sq sl (sq sl sl)))
def MO:PX 161 MN:=⟨_,by conv=>lhs;reduce⟩
def Gl:O2:=bf c F aY MO.1 [x0,x1] s
def aa3:=(by dsimp only[Gl,MO,go_sem,Int.reduceOfNat]:Gl c F x0 x1 s=_)
def NZ:Sh:=(sq sl (sq sl (sq sl sl)))
def N4:PX 162 NZ:=⟨_,by conv=>lhs;reduce⟩
def IZ:O2:=bf c F aY N4.1 [x0,x1,x2] s
def acu:=(by dsimp only[IZ,N4,go_sem,Int.reduceOfNat]:IZ c F x0 x1 x2 s=_)
def Ay:Sh:=(sq sl (sq (sq sl (sb (sp 0 [0,3,20,21,22] [(1,[8]),(2,[])] (sq sl (sq (sc sl sl) (sq (sb (sq sl (sq sl (sc (sq sl sl) sl)))) sl)))))) (sq sl sl)))
def Kj:PX 163 Ay:=⟨_,by conv=>lhs;reduce⟩
def Il:PL 163 Ay 0:=⟨_,by conv=>lhs;reduce⟩
def oV(k1 k2:Q2):Nat->Q2
 |0,_,_=>none
 |n+1,vs,s=>dZ c F aY (oV k1 k2 n) [k1,k2] Il.1 vs s
def qx(k1 k2:Q2)(n:Nat)(vs:List AV)(s:St):=(by dsimp only[oV,Il,go_sem,Int.reduceOfNat]:oV c F k1 k2 (n+1) vs s=_)
def Az:Un->List Q2->Nat->Q2
 | .z,[k1,k2]=>oV c F k1 k2
 |_,_=>λ_=>fy
def EJ:O2:=bf c F (Az c F) Kj.1 [x0,x1,x2,x3] s
def Y0:=(by dsimp only[EJ,Kj, ↓Az,go_sem,Int.reduceOfNat]:EJ c F x0 x1 x2 x3 s=_)
def uE:Sh:=(sq sl (sq sl (sb (sp 0 [0,2,3,5,15,16,17] [(2,[])] (sq sl (sq (sc sl sl) (sj [0,2,3,5,15,16,17] (sb (sq sl (sq (sq sl (sc sl sl)) (sq sl (sb (sp 1 [0,2,3,5,8,9,10,15,16,17] [(4,[0,2,3,5,15,16,17])] (sq (sq sl (sc sl sl)) (sj [0,2,3,5,8,9,10,15,16,17] (sb (sq sl (sq sl (sc sl sl)))) sl)))))))) sl)))))))
def Kk:PX 164 uE:=⟨_,by conv=>lhs;reduce⟩
def Im:PL 164 uE 1:=⟨_,by conv=>lhs;reduce⟩
def ij(k4:Q2):Nat->Q2
 |0,_,_=>none
 |n+1,vs,s=>dZ c F aY (ij k4 n) [k4] Im.1 vs s
def mN(k4:Q2)(n:Nat)(vs:List AV)(s:St):=(by dsimp only[ij,Im,go_sem,Int.reduceOfNat]:ij c F k4 (n+1) vs s=_)
def Io:Un->List Q2->Nat->Q2
 |(.s .z),[k4]=>ij c F k4
 |_,_=>λ_=>fy
def Ip:PL 164 uE 0:=⟨_,by conv=>lhs;reduce⟩
def jy(k2:Q2):Nat->Q2
 |0,_,_=>none
 |n+1,vs,s=>dZ c F (Io c F) (jy k2 n) [k2] Ip.1 vs s
def qy(k2:Q2)(n:Nat)(vs:List AV)(s:St):=(by dsimp only[jy,Ip, ↓Io,go_sem,Int.reduceOfNat]:jy c F k2 (n+1) vs s=_)
def AA:Un->List Q2->Nat->Q2
 | .z,[k2]=>jy c F k2
 |(.s .z),[k4]=>ij c F k4
 |_,_=>λ_=>fy
def EK:O2:=bf c F (AA c F) Kk.1 [x0,x1,x2,x3] s
def Y6:=(by dsimp only[EK,Kk, ↓AA,go_sem,Int.reduceOfNat]:EK c F x0 x1 x2 x3 s=_)
def zV:Sh:=(sq sl (sq sl sl))
def zW:PX 165 zV:=⟨_,by conv=>lhs;reduce⟩
def u9:O2:=bf c F aY zW.1 [x0,x1,x2] s
def MQ:=(by dsimp only[u9,zW,go_sem,Int.reduceOfNat]:u9 c F x0 x1 x2 s=_)
def wH:Sh:=(sq sl (sq sl (sb (sp 0 [0,2,4,18,19,20] [(2,[])] (sq sl (sq (sc sl sl) (sj [0,2,4,18,19,20] (sb (sq sl (sq (sq sl (sc sl sl)) (sq sl (sq (sq sl (sb (sp 1 [0,2,4,6,8,18,19,20,38,39,40] [(4,[0,2,4,8,18,19,20])] (sq sl (sq (sc sl sl) (sj [0,2,4,6,8,18,19,20,38,39,40] (sb (sq sl (sq sl (sc sl sl)))) sl)))))) sl))))) sl)))))))
def MP:PX 166 wH:=⟨_,by conv=>lhs;reduce⟩
def Kl:PL 166 wH 1:=⟨_,by conv=>lhs;reduce⟩
def nh(k4:Q2):Nat->Q2
 |0,_,_=>none
 |n+1,vs,s=>dZ c F aY (nh k4 n) [k4] Kl.1 vs s
def rY(k4:Q2)(n:Nat)(vs:List AV)(s:St):=(by dsimp only[nh,Kl,go_sem,Int.reduceOfNat]:nh c F k4 (n+1) vs s=_)
def Km:Un->List Q2->Nat->Q2
 |(.s .z),[k4]=>nh c F k4
 |_,_=>λ_=>fy
def Kn:PL 166 wH 0:=⟨_,by conv=>lhs;reduce⟩
def gO(k2:Q2):Nat->Q2
 |0,_,_=>none
 |n+1,vs,s=>dZ c F (Km c F) (gO k2 n) [k2] Kn.1 vs s
def xk(k2:Q2)(n:Nat)(vs:List AV)(s:St):=(by dsimp only[gO,Kn, ↓Km,go_sem,Int.reduceOfNat]:gO c F k2 (n+1) vs s=_)
def BU:Un->List Q2->Nat->Q2
 | .z,[k2]=>gO c F k2
 |(.s .z),[k4]=>nh c F k4
 |_,_=>λ_=>fy
def Gm:O2:=bf c F (BU c F) MP.1 [x0,x1,x2] s
def abb:=(by dsimp only[Gm,MP, ↓BU,go_sem,Int.reduceOfNat]:Gm c F x0 x1 x2 s=_)
def zl:Sh:=(sq (sq sl (sb (sp 0 [0,1,2,6,7,8] [(1,[]),(2,[0,2])] (sq sl (sq (sc sl sl) (sq (sb (sq sl (sq sl (sc sl sl)))) sl)))))) (sq sl (sc sl sl)))
def Iq:PX 167 zl:=⟨_,by conv=>lhs;reduce⟩
def Fy:PL 167 zl 0:=⟨_,by conv=>lhs;reduce⟩
def nW(k1 k2:Q2):Nat->Q2
 |0,_,_=>none
 |n+1,vs,s=>dZ c F aY (nW k1 k2 n) [k1,k2] Fy.1 vs s
def uM(k1 k2:Q2)(n:Nat)(vs:List AV)(s:St):=(by dsimp only[nW,Fy,go_sem,Int.reduceOfNat]:nW c F k1 k2 (n+1) vs s=_)
def zm:Un->List Q2->Nat->Q2
 | .z,[k1,k2]=>nW c F k1 k2
 |_,_=>λ_=>fy
def BV:O2:=bf c F (zm c F) Iq.1 [x0,x1,x2] s
def yL:=(by dsimp only[BV,Iq, ↓zm,go_sem,Int.reduceOfNat]:BV c F x0 x1 x2 s=_)
def Ko:Sh:=(sq sl (sq sl sl))
def Kq:PX 168 Ko:=⟨_,by conv=>lhs;reduce⟩
def EL:O2:=bf c F aY Kq.1 [x0,x1,x2] s
def Y3:=(by dsimp only[EL,Kq,go_sem,Int.reduceOfNat]:EL c F x0 x1 x2 s=_)
def Fz:Sh:=(sq sl (sq sl sl))
def FA:PX 169 Fz:=⟨_,by conv=>lhs;reduce⟩
def AD:O2:=bf c F aY FA.1 [x0,x1,x2] s
def UP:=(by dsimp only[AD,FA,go_sem,Int.reduceOfNat]:AD c F x0 x1 x2 s=_)
def Ir:Sh:=(sq sl (sq sl sl))
def It:PX 170 Ir:=⟨_,by conv=>lhs;reduce⟩
def BW:O2:=bf c F aY It.1 [x0,x1,x2] s
def WA:=(by dsimp only[BW,It,go_sem,Int.reduceOfNat]:BW c F x0 x1 x2 s=_)
def EM:Sh:=(sq sl (sj [0,1,2] (sq sl (sc sl sl)) (sq sl sl)))
def EN:PX 171 EM:=⟨_,by conv=>lhs;reduce⟩
def zn:O2:=bf c F aY EN.1 [x0,x1,x2] s
def Sl:=(by dsimp only[zn,EN,go_sem,Int.reduceOfNat]:zn c F x0 x1 x2 s=_)
def Iu:Sh:=(sq sl (sc sl sl))
def Iv:PX 172 Iu:=⟨_,by conv=>lhs;reduce⟩
def BX:O2:=bf c F aY Iv.1 [x0,x1,x2] s
def Hh:=(by dsimp only[BX,Iv,go_sem,Int.reduceOfNat]:BX c F x0 x1 x2 s=_)
def FB:Sh:=(sq sl (sc sl sl))
def FC:PX 173 FB:=⟨_,by conv=>lhs;reduce⟩
def AE:O2:=bf c F aY FC.1 [x0,x1,x2] s
def E9:=(by dsimp only[AE,FC,go_sem,Int.reduceOfNat]:AE c F x0 x1 x2 s=_)
def Kr:Sh:=(sq sl (sq sl sl))
def Ks:PX 174 Kr:=⟨_,by conv=>lhs;reduce⟩
def EO:O2:=bf c F aY Ks.1 [x0,x1,x2] s
def Y7:=(by dsimp only[EO,Ks,go_sem,Int.reduceOfNat]:EO c F x0 x1 x2 s=_)
end
section
variable{c : aj}(hc : bw c)(F : Nat){x0 x1 x2 x3 x4 x5 x6 x7 x8 x9 x10 T7 : AV}{s : St}{r : AV × St}
include hc
theorem OA(h:tI c F x0 s=some r):c 9 [x0] s=some (tidy s r):=hc.o0 F DZ (by kernel_rfl) (by kernel_rfl) h
theorem MT(h:xA c F x0 x1 s=some r):c 10 [x0,x1] s=some (tidy s r):=hc.o1 F (u6 c F) u0 (by kernel_rfl) (by kernel_rfl) (λ_ _ _=>by kernel_rfl) (λ_ _ _ _=>by kernel_rfl) (by kernel_rfl) h
theorem QM(h:nk c F x0 s=some r):c 15 [x0] s=some (tidy s r):=hc.oL F (xB c F) oe 3 (by kernel_rfl) (λi hi=>match i,hi with|0,_=>cS 0 (by kernel_rfl) (λ_ _ _=>by kernel_rfl) (λ_ _ _ _=>by kernel_rfl)|1,_=>cS 1 (by kernel_rfl) (λ_ _ _=>by kernel_rfl) (λ_ _ _ _=>by kernel_rfl)|2,_=>cS 2 (by kernel_rfl) (λ_ _ _=>by kernel_rfl) (λ_ _ _ _=>by kernel_rfl)|n+3,h=>absurd h (by omega)) (by kernel_rfl) h
theorem Qj(h:Af c F x0 x1 x2 s=some r):c 20 [x0,x1,x2] s=some (tidy s r):=hc.oL F (xC c F) r9 2 (by kernel_rfl) (λi hi=>match i,hi with|0,_=>cS 0 (by kernel_rfl) (λ_ _ _=>by kernel_rfl) (λ_ _ _ _=>by kernel_rfl)|1,_=>cS 1 (by kernel_rfl) (λ_ _ _=>by kernel_rfl) (λ_ _ _ _=>by kernel_rfl)|n+2,h=>absurd h (by omega)) (by kernel_rfl) h
theorem SC(h:BK c F x0 x1 s=some r):c 22 [x0,x1] s=some (tidy s r):=hc.o0 F HS (by kernel_rfl) (by kernel_rfl) h
theorem UZ(h:D9 c F x0 x1 s=some r):c 23 [x0,x1] s=some (tidy s r):=hc.o0 F JV (by kernel_rfl) (by kernel_rfl) h
theorem U2(h:Ec c F x0 x1 s=some r):c 24 [x0,x1] s=some (tidy s r):=hc.o0 F JY (by kernel_rfl) (by kernel_rfl) h
theorem SA(h:BL c F x0 x1 s=some r):c 25 [x0,x1] s=some (tidy s r):=hc.o0 F HU (by kernel_rfl) (by kernel_rfl) h
theorem U0(h:Ed c F x0 x1 s=some r):c 26 [x0,x1] s=some (tidy s r):=hc.o1 F (Ah c F) Ag (by kernel_rfl) (by kernel_rfl) (λ_ _ _=>by kernel_rfl) (λ_ _ _ _=>by kernel_rfl) (by kernel_rfl) h
theorem Qg(h:Aj c F x0 x1 s=some r):c 27 [x0,x1] s=some (tidy s r):=hc.o1 F (xE c F) xD (by kernel_rfl) (by kernel_rfl) (λ_ _ _=>by kernel_rfl) (λ_ _ _ _=>by kernel_rfl) (by kernel_rfl) h
theorem Dm(h:BM c F x0 x1 s=some r):c 28 [x0,x1] s=some (tidy s r):=hc.o1 F (zc c F) y9 (by kernel_rfl) (by kernel_rfl) (λ_ _ _=>by kernel_rfl) (λ_ _ _ _=>by kernel_rfl) (by kernel_rfl) h
theorem LM(h:wm c F x0 s=some r):c 35 [x0] s=some (tidy s r):=hc.o1 F (uk c F) uj (by kernel_rfl) (by kernel_rfl) (λ_ _ _=>by kernel_rfl) (λ_ _ _ _=>by kernel_rfl) (by kernel_rfl) h
theorem AP(h:ze c F x0 x1 s=some r):c 36 [x0,x1] s=some (tidy s r):=hc.o1 F (wu c F) wq (by kernel_rfl) (by kernel_rfl) (λ_ _ _=>by kernel_rfl) (λ_ _ _ _=>by kernel_rfl) (by kernel_rfl) h
theorem xp(h:Eg c F x0 x1 s=some r):c 37 [x0,x1] s=some (tidy s r):=hc.o1 F (Al c F) Ak (by kernel_rfl) (by kernel_rfl) (λ_ _ _=>by kernel_rfl) (λ_ _ _ _=>by kernel_rfl) (by kernel_rfl) h
theorem Sz(h:BN c F x0 x1 s=some r):c 41 [x0,x1] s=some (tidy s r):=hc.o0 F H6 (by kernel_rfl) (by kernel_rfl) h
theorem OD(h:zf c F x0 x1 s=some r):c 45 [x0,x1] s=some (tidy s r):=hc.o1 F (wC c F) wz (by kernel_rfl) (by kernel_rfl) (λ_ _ _=>by kernel_rfl) (λ_ _ _ _=>by kernel_rfl) (by kernel_rfl) h
theorem QI(h:Am c F x0 s=some r):c 46 [x0] s=some (tidy s r):=hc.o0 F Fq (by kernel_rfl) (by kernel_rfl) h
theorem QL(h:An c F x0 x1 s=some r):c 47 [x0,x1] s=some (tidy s r):=hc.oL F (xF c F) kj 4 (by kernel_rfl) (λi hi=>match i,hi with|0,_=>cS 0 (by kernel_rfl) (λ_ _ _=>by kernel_rfl) (λ_ _ _ _=>by kernel_rfl)|1,_=>cS 1 (by kernel_rfl) (λ_ _ _=>by kernel_rfl) (λ_ _ _ _=>by kernel_rfl)|2,_=>cS 2 (by kernel_rfl) (λ_ _ _=>by kernel_rfl) (λ_ _ _ _=>by kernel_rfl)|3,_=>cS 3 (by kernel_rfl) (λ_ _ _=>by kernel_rfl) (λ_ _ _ _=>by kernel_rfl)|n+4,h=>absurd h (by omega)) (by kernel_rfl) h
theorem OG(h:mg c F x0 x1 s=some r):c 48 [x0,x1] s=some (tidy s r):=hc.o0 F Ep (by kernel_rfl) (by kernel_rfl) h
theorem UY(h:Es c F x0 x1 s=some r):c 71 [x0,x1] s=some (tidy s r):=hc.o1 F (Ap c F) Ao (by kernel_rfl) (by kernel_rfl) (λ_ _ _=>by kernel_rfl) (λ_ _ _ _=>by kernel_rfl) (by kernel_rfl) h
theorem W4(h:Gh c F x0 x1 x2 s=some r):c 72 [x0,x1,x2] s=some (tidy s r):=hc.o1 F (BP c F) BO (by kernel_rfl) (by kernel_rfl) (λ_ _ _=>by kernel_rfl) (λ_ _ _ _=>by kernel_rfl) (by kernel_rfl) h
theorem FY(h:nP c F x0 x1 s=some r):c 73 [x0,x1] s=some (tidy s r):=hc.o0 F qG (by kernel_rfl) (by kernel_rfl) h
theorem Sx(h:DO c F x0 s=some r):c 78 [x0] s=some (tidy s r):=hc.o0 F Jw (by kernel_rfl) (by kernel_rfl) h
theorem xX(h:u7 c F x0 x1 s=some r):c 79 [x0,x1] s=some (tidy s r):=hc.o1 F (sO c F) sN (by kernel_rfl) (by kernel_rfl) (λ_ _ _=>by kernel_rfl) (λ_ _ _ _=>by kernel_rfl) (by kernel_rfl) h
theorem Ov(h:zi c F x0 x1 x2 s=some r):c 82 [x0,x1,x2] s=some (tidy s r):=hc.o0 F Eu (by kernel_rfl) (by kernel_rfl) h
theorem QG(h:Aq c F x0 s=some r):c 85 [x0] s=some (tidy s r):=hc.o0 F Fu (by kernel_rfl) (by kernel_rfl) h
theorem MW(h:xG c F x0 s=some r):c 86 [x0] s=some (tidy s r):=hc.o0 F Cx (by kernel_rfl) (by kernel_rfl) h
theorem OE(h:zj c F x0 x1 s=some r):c 87 [x0,x1] s=some (tidy s r):=hc.o1 F (wE c F) wD (by kernel_rfl) (by kernel_rfl) (λ_ _ _=>by kernel_rfl) (λ_ _ _ _=>by kernel_rfl) (by kernel_rfl) h
theorem UM(h:Ey c F x0 x1 x2 s=some r):c 90 [x0,x1,x2] s=some (tidy s r):=hc.o0 F J9 (by kernel_rfl) (by kernel_rfl) h
theorem Ly(h:wF c F x0 x1 x2 s=some r):c 91 [x0,x1,x2] s=some (tidy s r):=hc.o0 F Be (by kernel_rfl) (by kernel_rfl) h
theorem Lz(h:wG c F x0 x1 x2 s=some r):c 92 [x0,x1,x2] s=some (tidy s r):=hc.o0 F Bg (by kernel_rfl) (by kernel_rfl) h
theorem Si(h:BQ c F x0 x1 x2 s=some r):c 93 [x0,x1,x2] s=some (tidy s r):=hc.o0 F H9 (by kernel_rfl) (by kernel_rfl) h
theorem Ot(h:zk c F x0 x1 x2 s=some r):c 94 [x0,x1,x2] s=some (tidy s r):=hc.o0 F Ez (by kernel_rfl) (by kernel_rfl) h
theorem aa4(h:MH c F x0 x1 x2 s=some r):c 95 [x0,x1,x2] s=some (tidy s r):=hc.o0 F Q0 (by kernel_rfl) (by kernel_rfl) h
theorem WN(h:Gi c F x0 x1 x2 s=some r):c 96 [x0,x1,x2] s=some (tidy s r):=hc.o1 F (BS c F) BR (by kernel_rfl) (by kernel_rfl) (λ_ _ _=>by kernel_rfl) (λ_ _ _ _=>by kernel_rfl) (by kernel_rfl) h
theorem MR(h:xH c F x0 x1 x2 s=some r):c 97 [x0,x1,x2] s=some (tidy s r):=hc.o0 F CA (by kernel_rfl) (by kernel_rfl) h
theorem WT(h:Gj c F x0 x1 x2 s=some r):c 98 [x0,x1,x2] s=some (tidy s r):=hc.o0 F MJ (by kernel_rfl) (by kernel_rfl) h
theorem US(h:EB c F x0 x1 x2 s=some r):c 99 [x0,x1,x2] s=some (tidy s r):=hc.o1 F (At c F) Ar (by kernel_rfl) (by kernel_rfl) (λ_ _ _=>by kernel_rfl) (λ_ _ _ _=>by kernel_rfl) (by kernel_rfl) h
theorem UU(h:EC c F x0 x1 x2 s=some r):c 100 [x0,x1,x2] s=some (tidy s r):=hc.oL F (Au c F) qp 3 (by kernel_rfl) (λi hi=>match i,hi with|0,_=>cS 0 (by kernel_rfl) (λ_ _ _=>by kernel_rfl) (λ_ _ _ _=>by kernel_rfl)|1,_=>cS 1 (by kernel_rfl) (λ_ _ _=>by kernel_rfl) (λ_ _ _ _=>by kernel_rfl)|2,_=>cS 2 (by kernel_rfl) (λ_ _ _=>by kernel_rfl) (λ_ _ _ _=>by kernel_rfl)|n+3,h=>absurd h (by omega)) (by kernel_rfl) h
theorem UQ(h:ED c F x0 x1 x2 s=some r):c 101 [x0,x1,x2] s=some (tidy s r):=hc.o0 F Kf (by kernel_rfl) (by kernel_rfl) h
theorem Qb(h:Av c F x0 x1 x2 s=some r):c 102 [x0,x1,x2] s=some (tidy s r):=hc.oL F (xI c F) se 2 (by kernel_rfl) (λi hi=>match i,hi with|0,_=>cS 0 (by kernel_rfl) (λ_ _ _=>by kernel_rfl) (λ_ _ _ _=>by kernel_rfl)|1,_=>cS 1 (by kernel_rfl) (λ_ _ _=>by kernel_rfl) (λ_ _ _ _=>by kernel_rfl)|n+2,h=>absurd h (by omega)) (by kernel_rfl) h
theorem Sn(h:BT c F x0 x1 x2 s=some r):c 103 [x0,x1,x2] s=some (tidy s r):=hc.o0 F Ij (by kernel_rfl) (by kernel_rfl) h
theorem WU(h:Gk c F x0 x1 x2 s=some r):c 104 [x0,x1,x2] s=some (tidy s r):=hc.o0 F ML (by kernel_rfl) (by kernel_rfl) h
theorem UW(h:EH c F x0 x1 x2 s=some r):c 105 [x0,x1,x2] s=some (tidy s r):=hc.o0 F Kh (by kernel_rfl) (by kernel_rfl) h
theorem Qc(h:Aw c F x0 x1 x2 s=some r):c 106 [x0,x1,x2] s=some (tidy s r):=hc.o1 F (xK c F) xJ (by kernel_rfl) (by kernel_rfl) (λ_ _ _=>by kernel_rfl) (λ_ _ _ _=>by kernel_rfl) (by kernel_rfl) h
theorem Y8(h:IY c F x0 x1 x2 s=some r):c 107 [x0,x1,x2] s=some (tidy s r):=hc.o0 F NX (by kernel_rfl) (by kernel_rfl) h
theorem KG(h:qH c F x0 x1 s=some r):c 138 [x0,x1] s=some (tidy s r):=hc.o1 F (oU c F) oR (by kernel_rfl) (by kernel_rfl) (λ_ _ _=>by kernel_rfl) (λ_ _ _ _=>by kernel_rfl) (by kernel_rfl) h
theorem WJ(h:Gl c F x0 x1 s=some r):c 161 [x0,x1] s=some (tidy s r):=hc.o0 F MN (by kernel_rfl) (by kernel_rfl) h
theorem Y4(h:IZ c F x0 x1 x2 s=some r):c 162 [x0,x1,x2] s=some (tidy s r):=hc.o0 F NZ (by kernel_rfl) (by kernel_rfl) h
theorem UK(h:EJ c F x0 x1 x2 x3 s=some r):c 163 [x0,x1,x2,x3] s=some (tidy s r):=hc.o1 F (Az c F) Ay (by kernel_rfl) (by kernel_rfl) (λ_ _ _=>by kernel_rfl) (λ_ _ _ _=>by kernel_rfl) (by kernel_rfl) h
theorem UN(h:EK c F x0 x1 x2 x3 s=some r):c 164 [x0,x1,x2,x3] s=some (tidy s r):=hc.oL F (AA c F) uE 2 (by kernel_rfl) (λi hi=>match i,hi with|0,_=>cS 0 (by kernel_rfl) (λ_ _ _=>by kernel_rfl) (λ_ _ _ _=>by kernel_rfl)|1,_=>cS 1 (by kernel_rfl) (λ_ _ _=>by kernel_rfl) (λ_ _ _ _=>by kernel_rfl)|n+2,h=>absurd h (by omega)) (by kernel_rfl) h
theorem KF(h:u9 c F x0 x1 x2 s=some r):c 165 [x0,x1,x2] s=some (tidy s r):=hc.o0 F zV (by kernel_rfl) (by kernel_rfl) h
theorem WS(h:Gm c F x0 x1 x2 s=some r):c 166 [x0,x1,x2] s=some (tidy s r):=hc.oL F (BU c F) wH 2 (by kernel_rfl) (λi hi=>match i,hi with|0,_=>cS 0 (by kernel_rfl) (λ_ _ _=>by kernel_rfl) (λ_ _ _ _=>by kernel_rfl)|1,_=>cS 1 (by kernel_rfl) (λ_ _ _=>by kernel_rfl) (λ_ _ _ _=>by kernel_rfl)|n+2,h=>absurd h (by omega)) (by kernel_rfl) h
theorem Su(h:BV c F x0 x1 x2 s=some r):c 167 [x0,x1,x2] s=some (tidy s r):=hc.o1 F (zm c F) zl (by kernel_rfl) (by kernel_rfl) (λ_ _ _=>by kernel_rfl) (λ_ _ _ _=>by kernel_rfl) (by kernel_rfl) h
theorem UL(h:EL c F x0 x1 x2 s=some r):c 168 [x0,x1,x2] s=some (tidy s r):=hc.o0 F Ko (by kernel_rfl) (by kernel_rfl) h
theorem P9(h:AD c F x0 x1 x2 s=some r):c 169 [x0,x1,x2] s=some (tidy s r):=hc.o0 F Fz (by kernel_rfl) (by kernel_rfl) h
theorem Sf(h:BW c F x0 x1 x2 s=some r):c 170 [x0,x1,x2] s=some (tidy s r):=hc.o0 F Ir (by kernel_rfl) (by kernel_rfl) h
theorem Ou(h:zn c F x0 x1 x2 s=some r):c 171 [x0,x1,x2] s=some (tidy s r):=hc.o0 F EM (by kernel_rfl) (by kernel_rfl) h
theorem Ss(h:BX c F x0 x1 x2 s=some r):c 172 [x0,x1,x2] s=some (tidy s r):=hc.o0 F Iu (by kernel_rfl) (by kernel_rfl) h
theorem Qe(h:AE c F x0 x1 x2 s=some r):c 173 [x0,x1,x2] s=some (tidy s r):=hc.o0 F FB (by kernel_rfl) (by kernel_rfl) h
theorem UO(h:EO c F x0 x1 x2 s=some r):c 174 [x0,x1,x2] s=some (tidy s r):=hc.o0 F Kr (by kernel_rfl) (by kernel_rfl) h
end
end
end Go.Proofs.YtgihekklfnjkiaaGreatDoor
section
end
namespace Go.Proofs.YtgihekklfnjkiaaGreatDoor
noncomputable section
set_option linter.all false
set_option maxRecDepth 100000
set_option maxHeartbeats 4000000
open Go Go.Ai Go.Proofs
attribute [local go_sem ↓] bf Gv ev evX GV getLT Gu aaW kat Dh Di Wp Wq Wr Ws PG PI PJ PM PN PO Wt Wu PR PT PW PY PZ acm acn aco
attribute [local go_sem] bf Gv ev
section
variable(c : aj)(F : Nat)(x0 x1 x2 x3 x4 x5 x6 x7 x8 x9 x10 T7 : AV)(s : St)
def N6:Sh:=(sq sl (sq (sc (sq sl (sq sl sl)) sl) (sq sl (sq sl sl))))
def N7:PX 140 N6:=⟨_,by conv=>lhs;reduce⟩
def I0:O2:=bf c F aY N7.1 [x0,x1] s
def acB:=(by dsimp only[I0,N7,go_sem,Int.reduceOfNat]:I0 c F x0 x1 s=_)
def Kt:Sh:=(sq sl (sq sl (sq sl (sq sl (sq sl (sq sl (sq sl (sq sl (sq sl (sq sl (sq sl (sq sl sl))))))))))))
def Ku:PX 191 Kt:=⟨_,by conv=>lhs;reduce⟩
def EP:O2:=bf c F aY Ku.1 [x0,x1] s
def Zd:=(by dsimp only[EP,Ku,go_sem,Int.reduceOfNat]:EP c F x0 x1 s=_)
end
section
variable{c : aj}(hc : bw c)(F : Nat){x0 x1 x2 x3 x4 x5 x6 x7 x8 x9 x10 T7 : AV}{s : St}{r : AV × St}
include hc
theorem Ze(h:I0 c F x0 x1 s=some r):c 140 [x0,x1] s=some (tidy s r):=hc.o0 F N6 (by kernel_rfl) (by kernel_rfl) h
theorem UX(h:EP c F x0 x1 s=some r):c 191 [x0,x1] s=some (tidy s r):=hc.o0 F Kt (by kernel_rfl) (by kernel_rfl) h
end
end
end Go.Proofs.YtgihekklfnjkiaaGreatDoor
