/- Functions, plainly. -/
import Derived.Test.YtgihekklfnjkiaaGreatDoorGLawsE
set_option linter.all false
set_option linter.unusedSectionVars false
set_option linter.deprecated false
namespace Go.Proofs.YtgihekklfnjkiaaGreatDoor
noncomputable section
set_option linter.all false
set_option maxRecDepth 100000
set_option maxHeartbeats 4000000
open Go Go.Ai Go.Proofs
attribute [local go_sem ↓] bf Gk ev evX GH getLT Gj aaM kat C9 Da V9 Wc Wd We Pn Po Pp Pq Pr Pt Wg Wh Pu Pv Px Py Pz ab7 ab8 ab9
attribute [local go_sem] bf Gk ev
section
variable(c : aj)(F : Nat)(x0 x1 x2 x3 x4 x5 x6 x7 x8 x9 x10 x11 : AV)(s : St)
def DR:Sh:=(sq sl (sq sl (sq sl (sq sl sl))))
def DS:PX 9 DR:=⟨_,by conv=>lhs;reduce⟩
def tq:O2:=bf c F aY DS.1 [x0] s
def Sw:=(by dsimp only[tq,DS,go_sem,Int.reduceOfNat]:tq c F x0 s=_)
def Fa:Sh:=(sq sl (sq sl (sq (sq sl (sc (sq sl sl) sl)) (sq sl sl))))
def Fb:PX 12 Fa:=⟨_,by conv=>lhs;reduce⟩
def Aa:O2:=bf c F aY Fb.1 [x0,x1,x2] s
def UL:=(by dsimp only[Aa,Fb,go_sem,Int.reduceOfNat]:Aa c F x0 x1 x2 s=_)
def oc:Sh:=(sq sl (sq sl (sq sl (sq (sq sl (sb (sp 0 [1,2,3,4,5] [(2,[1,2,3,4])] (sq (sq sl (sc sl sl)) (sq (sb (sq sl (sq sl (sq sl sl)))) sl))))) (sq sl (sq sl (sj [1,2,3] (sq sl (sc (sq sl (sb (sp 1 [1,2,3,9] [(4,[1,2,3])] (sq (sq sl (sc sl sl)) (sq (sb (sq sl sl)) sl))))) sl)) (sq (sq sl (sb (sp 2 [1,2,3,11] [(6,[2,3])] (sq (sq sl (sc sl sl)) (sj [1,2,3,11] (sb (sq sl (sq sl (sc (sq sl sl) sl)))) sl))))) (sq sl sl)))))))))
def Fc:PX 15 oc:=⟨_,by conv=>lhs;reduce⟩
def DT:PL 15 oc 2:=⟨_,by conv=>lhs;reduce⟩
def jU(k6:Q2):Nat->Q2
 |0,_,_=>none
 |n+1,vs,s=>dR c F aY (jU k6 n) [k6] DT.1 vs s
def tX(k6:Q2)(n:Nat)(vs:List AV)(s:St):=(by dsimp only[jU,DT,go_sem,Int.reduceOfNat]:jU c F k6 (n+1) vs s=_)
def DU:PL 15 oc 1:=⟨_,by conv=>lhs;reduce⟩
def jS(k4:Q2):Nat->Q2
 |0,_,_=>none
 |n+1,vs,s=>dR c F aY (jS k4 n) [k4] DU.1 vs s
def AT(k4:Q2)(n:Nat)(vs:List AV)(s:St):=(by dsimp only[jS,DU,go_sem,Int.reduceOfNat]:jS c F k4 (n+1) vs s=_)
def DV:PL 15 oc 0:=⟨_,by conv=>lhs;reduce⟩
def gC(k2:Q2):Nat->Q2
 |0,_,_=>none
 |n+1,vs,s=>dR c F aY (gC k2 n) [k2] DV.1 vs s
def AS(k2:Q2)(n:Nat)(vs:List AV)(s:St):=(by dsimp only[gC,DV,go_sem,Int.reduceOfNat]:gC c F k2 (n+1) vs s=_)
def xx:Un->List Q2->Nat->Q2
 | .z,[k2]=>gC c F k2
 |(.s .z),[k4]=>jS c F k4
 |(.s (.s .z)),[k6]=>jU c F k6
 |_,_=>λ_=>fD
def nu:O2:=bf c F (xx c F) Fc.1 [x0] s
def Vb:=(by dsimp only[nu,Fc, ↓xx,go_sem,Int.reduceOfNat]:nu c F x0 s=_)
def rD:Sh:=(sq sl (sq sl (sq sl (sq (sq sl (sb (sp 0 [1,2,7,8,9] [(2,[1,2,7,8])] (sq (sq sl (sc sl sl)) (sj [1,2,7,8,9] (sb (sq sl (sc sl sl))) sl))))) (sq sl (sq (sq sl (sb (sp 1 [1,2,7,8,10,11] [(4,[10])] (sq (sq sl (sc sl sl)) (sj [1,2,7,8,10,11] (sb (sq sl (sj [1,2,7,8,10,11,12] (sq sl (sc (sq sl (sj [1,2,7,8,10,11,13] (sq sl (sc sl sl)) sl)) sl)) sl))) sl))))) (sq sl sl)))))))
def Fe:PX 20 rD:=⟨_,by conv=>lhs;reduce⟩
def DW:PL 20 rD 1:=⟨_,by conv=>lhs;reduce⟩
def mV(k4:Q2):Nat->Q2
 |0,_,_=>none
 |n+1,vs,s=>dR c F aY (mV k4 n) [k4] DW.1 vs s
def tV(k4:Q2)(n:Nat)(vs:List AV)(s:St):=(by dsimp only[mV,DW,go_sem,Int.reduceOfNat]:mV c F k4 (n+1) vs s=_)
def DX:PL 20 rD 0:=⟨_,by conv=>lhs;reduce⟩
def mU(k2:Q2):Nat->Q2
 |0,_,_=>none
 |n+1,vs,s=>dR c F aY (mU k2 n) [k2] DX.1 vs s
def tU(k2:Q2)(n:Nat)(vs:List AV)(s:St):=(by dsimp only[mU,DX,go_sem,Int.reduceOfNat]:mU c F k2 (n+1) vs s=_)
def xz:Un->List Q2->Nat->Q2
 | .z,[k2]=>mU c F k2
 |(.s .z),[k4]=>mV c F k4
 |_,_=>λ_=>fD
def Ab:O2:=bf c F (xz c F) Fe.1 [x0,x1,x2] s
def UO:=(by dsimp only[Ab,Fe, ↓xz,go_sem,Int.reduceOfNat]:Ab c F x0 x1 x2 s=_)
def HA:Sh:=(sq sl (sq sl (sq (sq sl (sc (sq sl sl) sl)) (sq sl sl))))
def HC:PX 21 HA:=⟨_,by conv=>lhs;reduce⟩
def BE:O2:=bf c F aY HC.1 [x0,x1,x2] s
def WE:=(by dsimp only[BE,HC,go_sem,Int.reduceOfNat]:BE c F x0 x1 x2 s=_)
def HD:Sh:=(sq sl (sq sl sl))
def HE:PX 22 HD:=⟨_,by conv=>lhs;reduce⟩
def BF:O2:=bf c F aY HE.1 [x0,x1] s
def WH:=(by dsimp only[BF,HE,go_sem,Int.reduceOfNat]:BF c F x0 x1 s=_)
def JE:Sh:=(sq sl (sq sl sl))
def JF:PX 23 JE:=⟨_,by conv=>lhs;reduce⟩
def DY:O2:=bf c F aY JF.1 [x0,x1] s
def Y4:=(by dsimp only[DY,JF,go_sem,Int.reduceOfNat]:DY c F x0 x1 s=_)
def JG:Sh:=(sq sl (sq sl (sj [5] (sq sl (sc sl sl)) (sq sl sl))))
def JH:PX 24 JG:=⟨_,by conv=>lhs;reduce⟩
def DZ:O2:=bf c F aY JH.1 [x0,x1] s
def Y5:=(by dsimp only[DZ,JH,go_sem,Int.reduceOfNat]:DZ c F x0 x1 s=_)
def ua:Sh:=(sq sl (sq sl (sq (sq sl (sb (sp 0 [1,3,4] [(2,[3])] (sq (sq sl (sc sl sl)) (sq (sb sl) sl))))) (sq sl sl))))
def A4:PX 35 ua:=⟨_,by conv=>lhs;reduce⟩
def zN:PL 35 ua 0:=⟨_,by conv=>lhs;reduce⟩
def j5(k2:Q2):Nat->Q2
 |0,_,_=>none
 |n+1,vs,s=>dR c F aY (j5 k2 n) [k2] zN.1 vs s
def xT(k2:Q2)(n:Nat)(vs:List AV)(s:St):=(by dsimp only[j5,zN,go_sem,Int.reduceOfNat]:j5 c F k2 (n+1) vs s=_)
def ud:Un->List Q2->Nat->Q2
 | .z,[k2]=>j5 c F k2
 |_,_=>λ_=>fD
def vU:O2:=bf c F (ud c F) A4.1 [x0] s
def Of:=(by dsimp only[vU,A4, ↓ud,go_sem,Int.reduceOfNat]:vU c F x0 s=_)
def vW:Sh:=(sq sl (sq (sq sl (sb (sp 0 [0,1,5] [(1,[4]),(2,[])] (sq (sq sl (sc sl sl)) (sq (sb (sq sl (sq sl (sc (sq sl (sq sl sl)) sl)))) sl))))) (sq sl sl)))
def D0:PX 36 vW:=⟨_,by conv=>lhs;reduce⟩
def Cm:PL 36 vW 0:=⟨_,by conv=>lhs;reduce⟩
def lZ(k1 k2:Q2):Nat->Q2
 |0,_,_=>none
 |n+1,vs,s=>dR c F aY (lZ k1 k2 n) [k1,k2] Cm.1 vs s
def rW(k1 k2:Q2)(n:Nat)(vs:List AV)(s:St):=(by dsimp only[lZ,Cm,go_sem,Int.reduceOfNat,Int.reduceNegSucc]:lZ c F k1 k2 (n+1) vs s=_)
def vX:Un->List Q2->Nat->Q2
 | .z,[k1,k2]=>lZ c F k1 k2
 |_,_=>λ_=>fD
def yV:O2:=bf c F (vX c F) D0.1 [x0,x1] s
def De:=(by dsimp only[yV,D0, ↓vX,go_sem,Int.reduceOfNat,Int.reduceNegSucc]:yV c F x0 x1 s=_)
def Ac:Sh:=(sq sl (sq (sq sl (sc (sq sl sl) sl)) (sq sl (sq (sq sl (sb (sp 0 [0,5,32,33,34] [(1,[4]),(2,[5])] (sq sl (sq (sc sl sl) (sj [0,5,32,33,34] (sb (sq sl (sq (sq sl (sc (sq sl sl) sl)) (sq sl (sc sl sl))))) sl)))))) (sq sl sl)))))
def JI:PX 37 Ac:=⟨_,by conv=>lhs;reduce⟩
def HG:PL 37 Ac 0:=⟨_,by conv=>lhs;reduce⟩
def lY(k1 k2:Q2):Nat->Q2
 |0,_,_=>none
 |n+1,vs,s=>dR c F aY (lY k1 k2 n) [k1,k2] HG.1 vs s
def fZ(k1 k2:Q2)(n:Nat)(vs:List AV)(s:St):=(by dsimp only[lY,HG,go_sem,Int.reduceOfNat,Int.reduceNegSucc]:lY c F k1 k2 (n+1) vs s=_)
def Ad:Un->List Q2->Nat->Q2
 | .z,[k1,k2]=>lY c F k1 k2
 |_,_=>λ_=>fD
def D4:O2:=bf c F (Ad c F) JI.1 [x0,x1] s
def zW:=(by dsimp only[D4,JI, ↓Ad,go_sem,Int.reduceOfNat,Int.reduceNegSucc]:D4 c F x0 x1 s=_)
def HJ:Sh:=(sq sl (sq sl (sq sl (sq sl sl))))
def HN:PX 41 HJ:=⟨_,by conv=>lhs;reduce⟩
def BG:O2:=bf c F aY HN.1 [x0,x1] s
def Wy:=(by dsimp only[BG,HN,go_sem,Int.reduceOfNat]:BG c F x0 x1 s=_)
def vY:Sh:=(sq sl (sq sl (sq sl (sj [1,4,5] (sq sl (sb (sq sl (sc sl (sq sl (sc sl (sq sl (sc sl (sq sl (sc (sq sl sl) sl)))))))))) (sq (sq sl (sb (sp 0 [1,4,5,7] [(3,[4,5])] (sq (sq sl (sc sl sl)) (sj [1,4,5,7] (sb (sq sl (sc (sq sl sl) sl))) sl))))) (sq sl sl))))))
def D5:PX 45 vY:=⟨_,by conv=>lhs;reduce⟩
def Cn:PL 45 vY 0:=⟨_,by conv=>lhs;reduce⟩
def jr(k3:Q2):Nat->Q2
 |0,_,_=>none
 |n+1,vs,s=>dR c F aY (jr k3 n) [k3] Cn.1 vs s
def nP(k3:Q2)(n:Nat)(vs:List AV)(s:St):=(by dsimp only[jr,Cn,go_sem,Int.reduceOfNat]:jr c F k3 (n+1) vs s=_)
def vZ:Un->List Q2->Nat->Q2
 | .z,[k3]=>jr c F k3
 |_,_=>λ_=>fD
def yW:O2:=bf c F (vZ c F) D5.1 [x0,x1] s
def SP:=(by dsimp only[yW,D5, ↓vZ,go_sem,Int.reduceOfNat]:yW c F x0 x1 s=_)
def Ff:Sh:=(sq sl (sq (sq sl (sb (sq sl (sc (sq sl sl) (sq sl (sc (sq sl sl) sl)))))) (sq sl sl)))
def Fg:PX 46 Ff:=⟨_,by conv=>lhs;reduce⟩
def Ae:O2:=bf c F aY Fg.1 [x0] s
def U9:=(by dsimp only[Ae,Fg,go_sem,Int.reduceOfNat]:Ae c F x0 s=_)
def kz:Sh:=(sq sl (sq sl (sq (sq sl (sb (sp 0 [0,1,4,5,6] [(2,[1,4,5])] (sq (sq sl (sc sl sl)) (sj [0,1,4,5,6] (sb (sq sl (sq sl (sj [0,1,4,5,6,7,8] (sq sl (sc sl sl)) (sj [0,1,4,5,6,7,8] (sq sl (sc sl sl)) (sj [0,1,4,5,6,7,8] (sq sl (sc sl sl)) (sq (sq sl (sb (sp 1 [0,1,4,5,6,7,8,9] [(4,[0,1,4,5,6,8])] (sq (sq sl (sc sl sl)) (sj [0,1,4,5,6,7,8,9] (sb (sq sl (sc (sq sl sl) sl))) sl))))) (sq sl sl)))))))) sl))))) (sq sl (sq (sq sl (sb (sp 2 [1,4,5,12,13] [(6,[4,5])] (sq (sq sl (sc sl sl)) (sq (sb (sq sl (sb (sp 3 [1,4,5,12,13,14] [(8,[1,4,5,12,13])] (sq (sq sl (sc sl sl)) (sj [1,4,5,12,13,14] (sb (sq (sq sl (sc sl sl)) (sq (sq sl (sc sl sl)) (sj [1,4,5,12,13,14] (sq sl (sc (sq sl sl) sl)) sl)))) sl)))))) sl))))) (sq sl sl))))))
def Fh:PX 47 kz:=⟨_,by conv=>lhs;reduce⟩
def D6:PL 47 kz 3:=⟨_,by conv=>lhs;reduce⟩
def jV(k8:Q2):Nat->Q2
 |0,_,_=>none
 |n+1,vs,s=>dR c F aY (jV k8 n) [k8] D6.1 vs s
def iO(k8:Q2)(n:Nat)(vs:List AV)(s:St):=(by dsimp only[jV,D6,go_sem,Int.reduceOfNat]:jV c F k8 (n+1) vs s=_)
def D7:Un->List Q2->Nat->Q2
 |(.s (.s (.s .z))),[k8]=>jV c F k8
 |_,_=>λ_=>fD
def D8:PL 47 kz 2:=⟨_,by conv=>lhs;reduce⟩
def jW(k6:Q2):Nat->Q2
 |0,_,_=>none
 |n+1,vs,s=>dR c F (D7 c F) (jW k6 n) [k6] D8.1 vs s
def AU(k6:Q2)(n:Nat)(vs:List AV)(s:St):=(by dsimp only[jW,D8, ↓D7,go_sem,Int.reduceOfNat]:jW c F k6 (n+1) vs s=_)
def D9:PL 47 kz 1:=⟨_,by conv=>lhs;reduce⟩
def iF(k4:Q2):Nat->Q2
 |0,_,_=>none
 |n+1,vs,s=>dR c F aY (iF k4 n) [k4] D9.1 vs s
def tW(k4:Q2)(n:Nat)(vs:List AV)(s:St):=(by dsimp only[iF,D9,go_sem,Int.reduceOfNat]:iF c F k4 (n+1) vs s=_)
def Ec:Un->List Q2->Nat->Q2
 |(.s .z),[k4]=>iF c F k4
 |_,_=>λ_=>fD
def Ed:PL 47 kz 0:=⟨_,by conv=>lhs;reduce⟩
def gy(k2:Q2):Nat->Q2
 |0,_,_=>none
 |n+1,vs,s=>dR c F (Ec c F) (gy k2 n) [k2] Ed.1 vs s
def AR(k2:Q2)(n:Nat)(vs:List AV)(s:St):=(by dsimp only[gy,Ed, ↓Ec,go_sem,Int.reduceOfNat]:gy c F k2 (n+1) vs s=_)
def xA:Un->List Q2->Nat->Q2
 | .z,[k2]=>gy c F k2
 |(.s .z),[k4]=>iF c F k4
 |(.s (.s .z)),[k6]=>jW c F k6
 |(.s (.s (.s .z))),[k8]=>jV c F k8
 |_,_=>λ_=>fD
def Af:O2:=bf c F (xA c F) Fh.1 [x0,x1] s
def Va:=(by dsimp only[Af,Fh, ↓xA,go_sem,Int.reduceOfNat]:Af c F x0 x1 s=_)
def Ee:Sh:=(sq sl (sq sl (sq sl (sj [1,2,4,6] (sq sl (sc sl sl)) (sq sl (sq sl (sq (sq sl (sc (sq sl sl) sl)) (sq sl (sq sl (sj [1,2,4,6,11] (sq sl (sb (sj [1,2,4,6,9,10,11,12,58,59] (sq sl (sc sl (sq sl (sc sl (sq sl (sc sl (sq sl (sc sl sl)))))))) (sc (sq sl (sj [4,6,9,10] (sq sl (sc sl sl)) (sj [4,6,9,10] (sq sl (sc sl sl)) (sq sl sl)))) (sj [1,2,4,6,9,11,12,58,100] (sq sl (sc sl sl)) (sc (sq sl (sj [4,6] (sq sl (sc sl sl)) (sq sl sl))) (sq sl (sc (sj [4,6] (sq sl (sc sl sl)) (sq sl sl)) (sq sl (sc (sq sl (sq sl sl)) (sj [1,2,4,6,11,12,164] (sq sl (sc sl sl)) (sc sl sl)))))))))))) (sj [4,6] (sq sl (sc sl sl)) (sq sl sl))))))))))))
def Ef:PX 48 Ee:=⟨_,by conv=>lhs;reduce⟩
def mh:O2:=bf c F aY Ef.1 [x0,x1] s
def SS:=(by dsimp only[mh,Ef,go_sem,Int.reduceOfNat]:mh c F x0 x1 s=_)
def Ag:Sh:=(sq sl (sq sl (sq sl (sq (sq sl (sb (sp 0 [0,1,5,6,7,16,17,18] [(2,[0,1,5,6,7])] (sq sl (sq (sc sl sl) (sj [0,1,5,6,7,16,17,18] (sb (sq sl (sq sl (sc (sq sl (sq sl (sc sl sl))) sl)))) sl)))))) (sj [5] (sq sl (sb (sq sl (sc sl (sq sl (sc sl (sq sl (sc (sq sl (sc sl sl)) sl)))))))) (sq sl sl))))))
def JJ:PX 71 Ag:=⟨_,by conv=>lhs;reduce⟩
def HO:PL 71 Ag 0:=⟨_,by conv=>lhs;reduce⟩
def oQ(k2:Q2):Nat->Q2
 |0,_,_=>none
 |n+1,vs,s=>dR c F aY (oQ k2 n) [k2] HO.1 vs s
def Dd(k2:Q2)(n:Nat)(vs:List AV)(s:St):=(by dsimp only[oQ,HO,go_sem,Int.reduceOfNat]:oQ c F k2 (n+1) vs s=_)
def Ah:Un->List Q2->Nat->Q2
 | .z,[k2]=>oQ c F k2
 |_,_=>λ_=>fD
def Eg:O2:=bf c F (Ah c F) JJ.1 [x0,x1] s
def Y3:=(by dsimp only[Eg,JJ, ↓Ah,go_sem,Int.reduceOfNat]:Eg c F x0 x1 s=_)
def BH:Sh:=(sq sl (sq sl (sq (sq sl (sc (sq sl sl) sl)) (sq sl (sq (sq sl (sb (sp 0 [2,7,8,23,24,25] [(2,[8])] (sq sl (sq (sc sl sl) (sj [2,7,8,23,24,25] (sb (sq sl (sq sl (sc sl sl)))) sl)))))) (sq sl sl))))))
def Mq:PX 72 BH:=⟨_,by conv=>lhs;reduce⟩
def JK:PL 72 BH 0:=⟨_,by conv=>lhs;reduce⟩
def pP(k2:Q2):Nat->Q2
 |0,_,_=>none
 |n+1,vs,s=>dR c F aY (pP k2 n) [k2] JK.1 vs s
def ES(k2:Q2)(n:Nat)(vs:List AV)(s:St):=(by dsimp only[pP,JK,go_sem,Int.reduceOfNat]:pP c F k2 (n+1) vs s=_)
def BI:Un->List Q2->Nat->Q2
 | .z,[k2]=>pP c F k2
 |_,_=>λ_=>fD
def F6:O2:=bf c F (BI c F) Mq.1 [x0,x1,x2] s
def aa5:=(by dsimp only[F6,Mq, ↓BI,go_sem,Int.reduceOfNat]:F6 c F x0 x1 x2 s=_)
def sg:Sh:=(sq sl (sj [0,1] (sq sl (sc sl sl)) (sq sl (sj [0,6] (sq sl (sc sl sl)) (sq sl (sq sl (sq (sb (sp 0 [7,8] [(2,[7])] (sq (sq sl (sc sl sl)) (sb sl)))) (sq sl sl))))))))
def zO:PX 79 sg:=⟨_,by conv=>lhs;reduce⟩
def yX:PL 79 sg 0:=⟨_,by conv=>lhs;reduce⟩
def jF(k2:Q2):Nat->Q2
 |0,_,_=>none
 |n+1,vs,s=>dR c F aY (jF k2 n) [k2] yX.1 vs s
def kO(k2:Q2)(n:Nat)(vs:List AV)(s:St):=(by dsimp only[jF,yX,go_sem,Int.reduceOfNat]:jF c F k2 (n+1) vs s=_)
def su:Un->List Q2->Nat->Q2
 | .z,[k2]=>jF c F k2
 |_,_=>λ_=>fD
def uU:O2:=bf c F (su c F) zO.1 [x0,x1] s
def zI:=(by dsimp only[uU,zO, ↓su,go_sem,Int.reduceOfNat]:uU c F x0 x1 s=_)
def Eh:Sh:=sl
def Ei:PX 82 Eh:=⟨_,by conv=>lhs;reduce⟩
def yY:O2:=bf c F aY Ei.1 [x0,x1,x2] s
def Si:=(by dsimp only[yY,Ei,go_sem,Int.reduceOfNat]:yY c F x0 x1 x2 s=_)
def Fi:Sh:=(sq sl (sq sl sl))
def Fj:PX 85 Fi:=⟨_,by conv=>lhs;reduce⟩
def Aj:O2:=bf c F aY Fj.1 [x0] s
def U8:=(by dsimp only[Aj,Fj,go_sem,Int.reduceOfNat]:Aj c F x0 s=_)
def Co:Sh:=(sq sl (sq sl sl))
def Cp:PX 86 Co:=⟨_,by conv=>lhs;reduce⟩
def xB:O2:=bf c F aY Cp.1 [x0] s
def Qr:=(by dsimp only[xB,Cp,go_sem,Int.reduceOfNat]:xB c F x0 s=_)
def v7:Sh:=(sq sl (sq (sq sl (sb (sp 0 [1,2,5] [(1,[4]),(2,[])] (sq (sq sl (sc sl sl)) (sq (sb (sq sl (sc (sq sl sl) sl))) sl))))) (sq sl sl)))
def Ej:PX 87 v7:=⟨_,by conv=>lhs;reduce⟩
def Cq:PL 87 v7 0:=⟨_,by conv=>lhs;reduce⟩
def mg(k1 k2:Q2):Nat->Q2
 |0,_,_=>none
 |n+1,vs,s=>dR c F aY (mg k1 k2 n) [k1,k2] Cq.1 vs s
def r9(k1 k2:Q2)(n:Nat)(vs:List AV)(s:St):=(by dsimp only[mg,Cq,go_sem,Int.reduceOfNat]:mg c F k1 k2 (n+1) vs s=_)
def v8:Un->List Q2->Nat->Q2
 | .z,[k1,k2]=>mg c F k1 k2
 |_,_=>λ_=>fD
def yZ:O2:=bf c F (v8 c F) Ej.1 [x0,x1] s
def SQ:=(by dsimp only[yZ,Ej, ↓v8,go_sem,Int.reduceOfNat]:yZ c F x0 x1 s=_)
def JL:Sh:=(sq sl (sq sl (sq (sq sl (sc sl sl)) (sq sl (sq sl (sc sl sl))))))
def JM:PX 90 JL:=⟨_,by conv=>lhs;reduce⟩
def Ek:O2:=bf c F aY JM.1 [x0,x1,x2] s
def YQ:=(by dsimp only[Ek,JM,go_sem,Int.reduceOfNat]:Ek c F x0 x1 x2 s=_)
def A5:Sh:=(sq sl (sq sl (sq sl (sc sl sl))))
def A7:PX 91 A5:=⟨_,by conv=>lhs;reduce⟩
def we:O2:=bf c F aY A7.1 [x0,x1,x2] s
def Oa:=(by dsimp only[we,A7,go_sem,Int.reduceOfNat]:we c F x0 x1 x2 s=_)
def A8:Sh:=(sq sl (sq sl (sq sl (sc sl sl))))
def A9:PX 92 A8:=⟨_,by conv=>lhs;reduce⟩
def wj:O2:=bf c F aY A9.1 [x0,x1,x2] s
def Ob:=(by dsimp only[wj,A9,go_sem,Int.reduceOfNat]:wj c F x0 x1 x2 s=_)
def HP:Sh:=(sq sl (sq sl (sq sl (sc (sq sl (sq sl (sc sl sl))) sl))))
def HQ:PX 93 HP:=⟨_,by conv=>lhs;reduce⟩
def BJ:O2:=bf c F aY HQ.1 [x0,x1,x2] s
def Wr:=(by dsimp only[BJ,HQ,go_sem,Int.reduceOfNat]:BJ c F x0 x1 x2 s=_)
def El:Sh:=(sq sl (sq sl (sq sl (sc sl sl))))
def Em:PX 94 El:=⟨_,by conv=>lhs;reduce⟩
def y9:O2:=bf c F aY Em.1 [x0,x1,x2] s
def R5:=(by dsimp only[y9,Em,go_sem,Int.reduceOfNat]:y9 c F x0 x1 x2 s=_)
def QJ:Sh:=(sq sl (sq sl (sq sl (sq sl (sc sl sl)))))
def QK:PX 95 QJ:=⟨_,by conv=>lhs;reduce⟩
def Mr:O2:=bf c F aY QK.1 [x0,x1,x2] s
def adF:=(by dsimp only[Mr,QK,go_sem,Int.reduceOfNat]:Mr c F x0 x1 x2 s=_)
def BK:Sh:=(sq sl (sq sl (sq sl (sq (sq sl (sc sl sl)) (sq sl (sq (sb (sp 0 [0,2,4,6,7,8] [(2,[0,2,4,6,7,8])] (sq (sq sl (sc sl sl)) (sb sl)))) (sq sl (sc sl sl))))))))
def Ms:PX 96 BK:=⟨_,by conv=>lhs;reduce⟩
def JN:PL 96 BK 0:=⟨_,by conv=>lhs;reduce⟩
def pO(k2:Q2):Nat->Q2
 |0,_,_=>none
 |n+1,vs,s=>dR c F aY (pO k2 n) [k2] JN.1 vs s
def ri(k2:Q2)(n:Nat)(vs:List AV)(s:St):=(by dsimp only[pO,JN,go_sem,Int.reduceOfNat]:pO c F k2 (n+1) vs s=_)
def BL:Un->List Q2->Nat->Q2
 | .z,[k2]=>pO c F k2
 |_,_=>λ_=>fD
def F7:O2:=bf c F (BL c F) Ms.1 [x0,x1,x2] s
def aaV:=(by dsimp only[F7,Ms, ↓BL,go_sem,Int.reduceOfNat]:F7 c F x0 x1 x2 s=_)
def Cr:Sh:=(sq sl sl)
def Cs:PX 97 Cr:=⟨_,by conv=>lhs;reduce⟩
def xC:O2:=bf c F aY Cs.1 [x0,x1,x2] s
def PM:=(by dsimp only[xC,Cs,go_sem,Int.reduceOfNat]:xC c F x0 x1 x2 s=_)
def Mt:Sh:=(sq sl sl)
def Mu:PX 98 Mt:=⟨_,by conv=>lhs;reduce⟩
def F8:O2:=bf c F aY Mu.1 [x0,x1,x2] s
def aa2:=(by dsimp only[F8,Mu,go_sem,Int.reduceOfNat]:F8 c F x0 x1 x2 s=_)
def Ak:Sh:=(sq sl (sq sl (sb (sp 0 [0,2,4,11,12,13] [(2,[])] (sq sl (sq (sc sl sl) (sj [0,2,4,11,12,13] (sb (sq sl (sq sl (sc sl sl)))) sl)))))))
def JO:PX 99 Ak:=⟨_,by conv=>lhs;reduce⟩
def HR:PL 99 Ak 0:=⟨_,by conv=>lhs;reduce⟩
def jD(k2:Q2):Nat->Q2
 |0,_,_=>none
 |n+1,vs,s=>dR c F aY (jD k2 n) [k2] HR.1 vs s
def iC(k2:Q2)(n:Nat)(vs:List AV)(s:St):=(by dsimp only[jD,HR,go_sem,Int.reduceOfNat]:jD c F k2 (n+1) vs s=_)
def Al:Un->List Q2->Nat->Q2
 | .z,[k2]=>jD c F k2
 |_,_=>λ_=>fD
def Eo:O2:=bf c F (Al c F) JO.1 [x0,x1,x2] s
def YV:=(by dsimp only[Eo,JO, ↓Al,go_sem,Int.reduceOfNat]:Eo c F x0 x1 x2 s=_)
def qc:Sh:=(sq sl (sq sl (sb (sp 0 [0,2,4,18,19,20] [(2,[])] (sq sl (sq (sc sl sl) (sj [0,2,4,18,19,20] (sb (sq sl (sq (sq sl (sc sl sl)) (sq sl (sq (sq sl (sb (sp 1 [0,2,4,6,8,9,18,19,20,54,55,56] [(4,[0,2,4,6,8,9,18,19,20])] (sq sl (sq (sc sl sl) (sq (sb (sq sl (sq sl (sb (sp 2 [0,2,4,6,8,9,18,19,20,54,55,56,60,61,62] [(6,[0,2,4,6,8,9,18,19,20,54,55,56])] (sq sl (sq (sc sl sl) (sj [0,2,4,6,8,9,18,19,20,54,55,56,60,61,62] (sb (sq sl (sq sl (sq sl (sc (sq sl sl) sl))))) sl)))))))) sl)))))) (sq sl (sc sl sl))))))) sl)))))))
def JP:PX 100 qc:=⟨_,by conv=>lhs;reduce⟩
def HS:PL 100 qc 2:=⟨_,by conv=>lhs;reduce⟩
def jE(k6:Q2):Nat->Q2
 |0,_,_=>none
 |n+1,vs,s=>dR c F aY (jE k6 n) [k6] HS.1 vs s
def vE(k6:Q2)(n:Nat)(vs:List AV)(s:St):=(by dsimp only[jE,HS,go_sem,Int.reduceOfNat]:jE c F k6 (n+1) vs s=_)
def HT:Un->List Q2->Nat->Q2
 |(.s (.s .z)),[k6]=>jE c F k6
 |_,_=>λ_=>fD
def HU:PL 100 qc 1:=⟨_,by conv=>lhs;reduce⟩
def lW(k4:Q2):Nat->Q2
 |0,_,_=>none
 |n+1,vs,s=>dR c F (HT c F) (lW k4 n) [k4] HU.1 vs s
def vF(k4:Q2)(n:Nat)(vs:List AV)(s:St):=(by dsimp only[lW,HU, ↓HT,go_sem,Int.reduceOfNat]:lW c F k4 (n+1) vs s=_)
def HV:Un->List Q2->Nat->Q2
 |(.s .z),[k4]=>lW c F k4
 |(.s (.s .z)),[k6]=>jE c F k6
 |_,_=>λ_=>fD
def HW:PL 100 qc 0:=⟨_,by conv=>lhs;reduce⟩
def fY(k2:Q2):Nat->Q2
 |0,_,_=>none
 |n+1,vs,s=>dR c F (HV c F) (fY k2 n) [k2] HW.1 vs s
def mS(k2:Q2)(n:Nat)(vs:List AV)(s:St):=(by dsimp only[fY,HW, ↓HV,go_sem,Int.reduceOfNat]:fY c F k2 (n+1) vs s=_)
def Am:Un->List Q2->Nat->Q2
 | .z,[k2]=>fY c F k2
 |(.s .z),[k4]=>lW c F k4
 |(.s (.s .z)),[k6]=>jE c F k6
 |_,_=>λ_=>fD
def Ep:O2:=bf c F (Am c F) JP.1 [x0,x1,x2] s
def YW:=(by dsimp only[Ep,JP, ↓Am,go_sem,Int.reduceOfNat]:Ep c F x0 x1 x2 s=_)
def JQ:Sh:=(sq sl sl)
def JR:PX 101 JQ:=⟨_,by conv=>lhs;reduce⟩
def Er:O2:=bf c F aY JR.1 [x0,x1,x2] s
def YU:=(by dsimp only[Er,JR,go_sem,Int.reduceOfNat]:Er c F x0 x1 x2 s=_)
def rE:Sh:=(sq sl (sq sl (sb (sp 0 [0,2,4,13,14,15] [(2,[])] (sq sl (sq (sc sl sl) (sq (sb (sq sl (sq sl (sb (sp 1 [0,2,4,6,7,8,13,14,15] [(4,[0,2,4,13,14,15])] (sq (sq sl (sc sl sl)) (sj [0,2,4,6,7,8,13,14,15] (sb (sq sl (sq sl (sc sl sl)))) sl))))))) sl)))))))
def Fk:PX 102 rE:=⟨_,by conv=>lhs;reduce⟩
def Es:PL 102 rE 1:=⟨_,by conv=>lhs;reduce⟩
def fX(k4:Q2):Nat->Q2
 |0,_,_=>none
 |n+1,vs,s=>dR c F aY (fX k4 n) [k4] Es.1 vs s
def iN(k4:Q2)(n:Nat)(vs:List AV)(s:St):=(by dsimp only[fX,Es,go_sem,Int.reduceOfNat]:fX c F k4 (n+1) vs s=_)
def Eu:Un->List Q2->Nat->Q2
 |(.s .z),[k4]=>fX c F k4
 |_,_=>λ_=>fD
def Ew:PL 102 rE 0:=⟨_,by conv=>lhs;reduce⟩
def mR(k2:Q2):Nat->Q2
 |0,_,_=>none
 |n+1,vs,s=>dR c F (Eu c F) (mR k2 n) [k2] Ew.1 vs s
def AD(k2:Q2)(n:Nat)(vs:List AV)(s:St):=(by dsimp only[mR,Ew, ↓Eu,go_sem,Int.reduceOfNat]:mR c F k2 (n+1) vs s=_)
def xD:Un->List Q2->Nat->Q2
 | .z,[k2]=>mR c F k2
 |(.s .z),[k4]=>fX c F k4
 |_,_=>λ_=>fD
def An:O2:=bf c F (xD c F) Fk.1 [x0,x1,x2] s
def UE:=(by dsimp only[An,Fk, ↓xD,go_sem,Int.reduceOfNat]:An c F x0 x1 x2 s=_)
def HX:Sh:=(sq sl (sq (sq sl (sc sl sl)) sl))
def HZ:PX 103 HX:=⟨_,by conv=>lhs;reduce⟩
def BM:O2:=bf c F aY HZ.1 [x0,x1,x2] s
def GO:=(by dsimp only[BM,HZ,go_sem,Int.reduceOfNat]:BM c F x0 x1 x2 s=_)
def Mw:Sh:=(sq sl sl)
def Mx:PX 104 Mw:=⟨_,by conv=>lhs;reduce⟩
def F9:O2:=bf c F aY Mx.1 [x0,x1,x2] s
def aa3:=(by dsimp only[F9,Mx,go_sem,Int.reduceOfNat]:F9 c F x0 x1 x2 s=_)
def JS:Sh:=(sq sl sl)
def JU:PX 105 JS:=⟨_,by conv=>lhs;reduce⟩
def Ex:O2:=bf c F aY JU.1 [x0,x1,x2] s
def YX:=(by dsimp only[Ex,JU,go_sem,Int.reduceOfNat]:Ex c F x0 x1 x2 s=_)
def xE:Sh:=(sq sl (sq sl (sb (sp 0 [0,2,4,11,12,13] [(2,[])] (sq sl (sq (sc sl sl) (sj [0,2,4,11,12,13] (sb (sq sl (sq sl (sc sl sl)))) sl)))))))
def Fl:PX 106 xE:=⟨_,by conv=>lhs;reduce⟩
def Ey:PL 106 xE 0:=⟨_,by conv=>lhs;reduce⟩
def iD(k2:Q2):Nat->Q2
 |0,_,_=>none
 |n+1,vs,s=>dR c F aY (iD k2 n) [k2] Ey.1 vs s
def kD(k2:Q2)(n:Nat)(vs:List AV)(s:St):=(by dsimp only[iD,Ey,go_sem,Int.reduceOfNat]:iD c F k2 (n+1) vs s=_)
def xF:Un->List Q2->Nat->Q2
 | .z,[k2]=>iD c F k2
 |_,_=>λ_=>fD
def Ao:O2:=bf c F (xF c F) Fl.1 [x0,x1,x2] s
def UG:=(by dsimp only[Ao,Fl, ↓xF,go_sem,Int.reduceOfNat]:Ao c F x0 x1 x2 s=_)
def NK:Sh:=(sq sl sl)
def NL:PX 107 NK:=⟨_,by conv=>lhs;reduce⟩
def IE:O2:=bf c F aY NL.1 [x0,x1,x2] s
def acm:=(by dsimp only[IE,NL,go_sem,Int.reduceOfNat]:IE c F x0 x1 x2 s=_)
def My:Sh:=(sq sl (sq sl (sq sl sl)))
def Mz:PX 161 My:=⟨_,by conv=>lhs;reduce⟩
def Gb:O2:=bf c F aY Mz.1 [x0,x1] s
def aaT:=(by dsimp only[Gb,Mz,go_sem,Int.reduceOfNat]:Gb c F x0 x1 s=_)
def NM:Sh:=(sq sl (sq sl (sq sl sl)))
def NN:PX 162 NM:=⟨_,by conv=>lhs;reduce⟩
def IF:O2:=bf c F aY NN.1 [x0,x1,x2] s
def ach:=(by dsimp only[IF,NN,go_sem,Int.reduceOfNat]:IF c F x0 x1 x2 s=_)
def Ap:Sh:=(sq sl (sq (sq sl (sb (sp 0 [0,3,20,21,22] [(1,[8]),(2,[])] (sq sl (sq (sc sl sl) (sq (sb (sq sl (sq sl (sc (sq sl sl) sl)))) sl)))))) (sq sl sl)))
def JV:PX 163 Ap:=⟨_,by conv=>lhs;reduce⟩
def H6:PL 163 Ap 0:=⟨_,by conv=>lhs;reduce⟩
def oO(k1 k2:Q2):Nat->Q2
 |0,_,_=>none
 |n+1,vs,s=>dR c F aY (oO k1 k2 n) [k1,k2] H6.1 vs s
def qg(k1 k2:Q2)(n:Nat)(vs:List AV)(s:St):=(by dsimp only[oO,H6,go_sem,Int.reduceOfNat]:oO c F k1 k2 (n+1) vs s=_)
def Aq:Un->List Q2->Nat->Q2
 | .z,[k1,k2]=>oO c F k1 k2
 |_,_=>λ_=>fD
def Ez:O2:=bf c F (Aq c F) JV.1 [x0,x1,x2,x3] s
def YN:=(by dsimp only[Ez,JV, ↓Aq,go_sem,Int.reduceOfNat]:Ez c F x0 x1 x2 x3 s=_)
def uu:Sh:=(sq sl (sq sl (sb (sp 0 [0,2,3,5,15,16,17] [(2,[])] (sq sl (sq (sc sl sl) (sj [0,2,3,5,15,16,17] (sb (sq sl (sq (sq sl (sc sl sl)) (sq sl (sb (sp 1 [0,2,3,5,8,9,10,15,16,17] [(4,[0,2,3,5,15,16,17])] (sq (sq sl (sc sl sl)) (sj [0,2,3,5,8,9,10,15,16,17] (sb (sq sl (sq sl (sc sl sl)))) sl)))))))) sl)))))))
def JX:PX 164 uu:=⟨_,by conv=>lhs;reduce⟩
def H7:PL 164 uu 1:=⟨_,by conv=>lhs;reduce⟩
def ir(k4:Q2):Nat->Q2
 |0,_,_=>none
 |n+1,vs,s=>dR c F aY (ir k4 n) [k4] H7.1 vs s
def mQ(k4:Q2)(n:Nat)(vs:List AV)(s:St):=(by dsimp only[ir,H7,go_sem,Int.reduceOfNat]:ir c F k4 (n+1) vs s=_)
def H8:Un->List Q2->Nat->Q2
 |(.s .z),[k4]=>ir c F k4
 |_,_=>λ_=>fD
def H9:PL 164 uu 0:=⟨_,by conv=>lhs;reduce⟩
def jC(k2:Q2):Nat->Q2
 |0,_,_=>none
 |n+1,vs,s=>dR c F (H8 c F) (jC k2 n) [k2] H9.1 vs s
def qh(k2:Q2)(n:Nat)(vs:List AV)(s:St):=(by dsimp only[jC,H9, ↓H8,go_sem,Int.reduceOfNat]:jC c F k2 (n+1) vs s=_)
def Ar:Un->List Q2->Nat->Q2
 | .z,[k2]=>jC c F k2
 |(.s .z),[k4]=>ir c F k4
 |_,_=>λ_=>fD
def EA:O2:=bf c F (Ar c F) JX.1 [x0,x1,x2,x3] s
def YR:=(by dsimp only[EA,JX, ↓Ar,go_sem,Int.reduceOfNat]:EA c F x0 x1 x2 x3 s=_)
def zP:Sh:=(sq sl (sq sl sl))
def zQ:PX 165 zP:=⟨_,by conv=>lhs;reduce⟩
def uV:O2:=bf c F aY zQ.1 [x0,x1,x2] s
def MB:=(by dsimp only[uV,zQ,go_sem,Int.reduceOfNat]:uV c F x0 x1 x2 s=_)
def wm:Sh:=(sq sl (sq sl (sb (sp 0 [0,2,4,18,19,20] [(2,[])] (sq sl (sq (sc sl sl) (sj [0,2,4,18,19,20] (sb (sq sl (sq (sq sl (sc sl sl)) (sq sl (sq (sq sl (sb (sp 1 [0,2,4,6,8,18,19,20,38,39,40] [(4,[0,2,4,8,18,19,20])] (sq sl (sq (sc sl sl) (sj [0,2,4,6,8,18,19,20,38,39,40] (sb (sq sl (sq sl (sc sl sl)))) sl)))))) sl))))) sl)))))))
def MA:PX 166 wm:=⟨_,by conv=>lhs;reduce⟩
def JY:PL 166 wm 1:=⟨_,by conv=>lhs;reduce⟩
def ni(k4:Q2):Nat->Q2
 |0,_,_=>none
 |n+1,vs,s=>dR c F aY (ni k4 n) [k4] JY.1 vs s
def rq(k4:Q2)(n:Nat)(vs:List AV)(s:St):=(by dsimp only[ni,JY,go_sem,Int.reduceOfNat]:ni c F k4 (n+1) vs s=_)
def JZ:Un->List Q2->Nat->Q2
 |(.s .z),[k4]=>ni c F k4
 |_,_=>λ_=>fD
def J5:PL 166 wm 0:=⟨_,by conv=>lhs;reduce⟩
def gO(k2:Q2):Nat->Q2
 |0,_,_=>none
 |n+1,vs,s=>dR c F (JZ c F) (gO k2 n) [k2] J5.1 vs s
def w9(k2:Q2)(n:Nat)(vs:List AV)(s:St):=(by dsimp only[gO,J5, ↓JZ,go_sem,Int.reduceOfNat]:gO c F k2 (n+1) vs s=_)
def BN:Un->List Q2->Nat->Q2
 | .z,[k2]=>gO c F k2
 |(.s .z),[k4]=>ni c F k4
 |_,_=>λ_=>fD
def Gc:O2:=bf c F (BN c F) MA.1 [x0,x1,x2] s
def aa1:=(by dsimp only[Gc,MA, ↓BN,go_sem,Int.reduceOfNat]:Gc c F x0 x1 x2 s=_)
def zc:Sh:=(sq (sq sl (sb (sp 0 [0,1,2,6,7,8] [(1,[]),(2,[0,2])] (sq sl (sq (sc sl sl) (sq (sb (sq sl (sq sl (sc sl sl)))) sl)))))) (sq sl (sc sl sl)))
def Ia:PX 167 zc:=⟨_,by conv=>lhs;reduce⟩
def Fm:PL 167 zc 0:=⟨_,by conv=>lhs;reduce⟩
def nU(k1 k2:Q2):Nat->Q2
 |0,_,_=>none
 |n+1,vs,s=>dR c F aY (nU k1 k2 n) [k1,k2] Fm.1 vs s
def uB(k1 k2:Q2)(n:Nat)(vs:List AV)(s:St):=(by dsimp only[nU,Fm,go_sem,Int.reduceOfNat]:nU c F k1 k2 (n+1) vs s=_)
def ze:Un->List Q2->Nat->Q2
 | .z,[k1,k2]=>nU c F k1 k2
 |_,_=>λ_=>fD
def BO:O2:=bf c F (ze c F) Ia.1 [x0,x1,x2] s
def yJ:=(by dsimp only[BO,Ia, ↓ze,go_sem,Int.reduceOfNat]:BO c F x0 x1 x2 s=_)
def J6:Sh:=(sq sl (sq sl sl))
def J7:PX 168 J6:=⟨_,by conv=>lhs;reduce⟩
def EB:O2:=bf c F aY J7.1 [x0,x1,x2] s
def YO:=(by dsimp only[EB,J7,go_sem,Int.reduceOfNat]:EB c F x0 x1 x2 s=_)
def Fo:Sh:=(sq sl (sq sl sl))
def Fp:PX 169 Fo:=⟨_,by conv=>lhs;reduce⟩
def At:O2:=bf c F aY Fp.1 [x0,x1,x2] s
def UC:=(by dsimp only[At,Fp,go_sem,Int.reduceOfNat]:At c F x0 x1 x2 s=_)
def Ib:Sh:=(sq sl (sq sl sl))
def Ic:PX 170 Ib:=⟨_,by conv=>lhs;reduce⟩
def BP:O2:=bf c F aY Ic.1 [x0,x1,x2] s
def Wm:=(by dsimp only[BP,Ic,go_sem,Int.reduceOfNat]:BP c F x0 x1 x2 s=_)
def EC:Sh:=(sq sl (sj [0,1,2] (sq sl (sc sl sl)) (sq sl sl)))
def ED:PX 171 EC:=⟨_,by conv=>lhs;reduce⟩
def zf:O2:=bf c F aY ED.1 [x0,x1,x2] s
def R7:=(by dsimp only[zf,ED,go_sem,Int.reduceOfNat]:zf c F x0 x1 x2 s=_)
def Ie:Sh:=(sq sl (sc sl sl))
def Ig:PX 172 Ie:=⟨_,by conv=>lhs;reduce⟩
def BQ:O2:=bf c F aY Ig.1 [x0,x1,x2] s
def GU:=(by dsimp only[BQ,Ig,go_sem,Int.reduceOfNat]:BQ c F x0 x1 x2 s=_)
def Fq:Sh:=(sq sl (sc sl sl))
def Fs:PX 173 Fq:=⟨_,by conv=>lhs;reduce⟩
def Au:O2:=bf c F aY Fs.1 [x0,x1,x2] s
def ER:=(by dsimp only[Au,Fs,go_sem,Int.reduceOfNat]:Au c F x0 x1 x2 s=_)
def J8:Sh:=(sq sl (sq sl sl))
def J9:PX 174 J8:=⟨_,by conv=>lhs;reduce⟩
def EE:O2:=bf c F aY J9.1 [x0,x1,x2] s
def YS:=(by dsimp only[EE,J9,go_sem,Int.reduceOfNat]:EE c F x0 x1 x2 s=_)
end
section
variable{c : aj}(hc : bw c)(F : Nat){x0 x1 x2 x3 x4 x5 x6 x7 x8 x9 x10 x11 : AV}{s : St}{r : AV × St}
include hc
theorem Oh(h:tq c F x0 s=some r):c 9 [x0] s=some (tidy s r):=hc.o0 F DR (by kernel_rfl) (by kernel_rfl) h
theorem PW(h:Aa c F x0 x1 x2 s=some r):c 12 [x0,x1,x2] s=some (tidy s r):=hc.o0 F Fa (by kernel_rfl) (by kernel_rfl) h
theorem Qx(h:nu c F x0 s=some r):c 15 [x0] s=some (tidy s r):=hc.oL F (xx c F) oc 3 (by kernel_rfl) (λi hi=>match i,hi with|0,_=>cr 0 (by kernel_rfl) (λ_ _ _=>by kernel_rfl) (λ_ _ _ _=>by kernel_rfl)|1,_=>cr 1 (by kernel_rfl) (λ_ _ _=>by kernel_rfl) (λ_ _ _ _=>by kernel_rfl)|2,_=>cr 2 (by kernel_rfl) (λ_ _ _=>by kernel_rfl) (λ_ _ _ _=>by kernel_rfl)|n+3,h=>absurd h (by omega)) (by kernel_rfl) h
theorem P0(h:Ab c F x0 x1 x2 s=some r):c 20 [x0,x1,x2] s=some (tidy s r):=hc.oL F (xz c F) rD 2 (by kernel_rfl) (λi hi=>match i,hi with|0,_=>cr 0 (by kernel_rfl) (λ_ _ _=>by kernel_rfl) (λ_ _ _ _=>by kernel_rfl)|1,_=>cr 1 (by kernel_rfl) (λ_ _ _=>by kernel_rfl) (λ_ _ _ _=>by kernel_rfl)|n+2,h=>absurd h (by omega)) (by kernel_rfl) h
theorem Sk(h:BE c F x0 x1 x2 s=some r):c 21 [x0,x1,x2] s=some (tidy s r):=hc.o0 F HA (by kernel_rfl) (by kernel_rfl) h
theorem Sl(h:BF c F x0 x1 s=some r):c 22 [x0,x1] s=some (tidy s r):=hc.o0 F HD (by kernel_rfl) (by kernel_rfl) h
theorem UM(h:DY c F x0 x1 s=some r):c 23 [x0,x1] s=some (tidy s r):=hc.o0 F JE (by kernel_rfl) (by kernel_rfl) h
theorem UN(h:DZ c F x0 x1 s=some r):c 24 [x0,x1] s=some (tidy s r):=hc.o0 F JG (by kernel_rfl) (by kernel_rfl) h
theorem Lr(h:vU c F x0 s=some r):c 35 [x0] s=some (tidy s r):=hc.o1 F (ud c F) ua (by kernel_rfl) (by kernel_rfl) (λ_ _ _=>by kernel_rfl) (λ_ _ _ _=>by kernel_rfl) (by kernel_rfl) h
theorem AE(h:yV c F x0 x1 s=some r):c 36 [x0,x1] s=some (tidy s r):=hc.o1 F (vX c F) vW (by kernel_rfl) (by kernel_rfl) (λ_ _ _=>by kernel_rfl) (λ_ _ _ _=>by kernel_rfl) (by kernel_rfl) h
theorem xe(h:D4 c F x0 x1 s=some r):c 37 [x0,x1] s=some (tidy s r):=hc.o1 F (Ad c F) Ac (by kernel_rfl) (by kernel_rfl) (λ_ _ _=>by kernel_rfl) (λ_ _ _ _=>by kernel_rfl) (by kernel_rfl) h
theorem Sj(h:BG c F x0 x1 s=some r):c 41 [x0,x1] s=some (tidy s r):=hc.o0 F HJ (by kernel_rfl) (by kernel_rfl) h
theorem Om(h:yW c F x0 x1 s=some r):c 45 [x0,x1] s=some (tidy s r):=hc.o1 F (vZ c F) vY (by kernel_rfl) (by kernel_rfl) (λ_ _ _=>by kernel_rfl) (λ_ _ _ _=>by kernel_rfl) (by kernel_rfl) h
theorem Qt(h:Ae c F x0 s=some r):c 46 [x0] s=some (tidy s r):=hc.o0 F Ff (by kernel_rfl) (by kernel_rfl) h
theorem Qw(h:Af c F x0 x1 s=some r):c 47 [x0,x1] s=some (tidy s r):=hc.oL F (xA c F) kz 4 (by kernel_rfl) (λi hi=>match i,hi with|0,_=>cr 0 (by kernel_rfl) (λ_ _ _=>by kernel_rfl) (λ_ _ _ _=>by kernel_rfl)|1,_=>cr 1 (by kernel_rfl) (λ_ _ _=>by kernel_rfl) (λ_ _ _ _=>by kernel_rfl)|2,_=>cr 2 (by kernel_rfl) (λ_ _ _=>by kernel_rfl) (λ_ _ _ _=>by kernel_rfl)|3,_=>cr 3 (by kernel_rfl) (λ_ _ _=>by kernel_rfl) (λ_ _ _ _=>by kernel_rfl)|n+4,h=>absurd h (by omega)) (by kernel_rfl) h
theorem Oo(h:mh c F x0 x1 s=some r):c 48 [x0,x1] s=some (tidy s r):=hc.o0 F Ee (by kernel_rfl) (by kernel_rfl) h
theorem UK(h:Eg c F x0 x1 s=some r):c 71 [x0,x1] s=some (tidy s r):=hc.o1 F (Ah c F) Ag (by kernel_rfl) (by kernel_rfl) (λ_ _ _=>by kernel_rfl) (λ_ _ _ _=>by kernel_rfl) (by kernel_rfl) h
theorem WG(h:F6 c F x0 x1 x2 s=some r):c 72 [x0,x1,x2] s=some (tidy s r):=hc.o1 F (BI c F) BH (by kernel_rfl) (by kernel_rfl) (λ_ _ _=>by kernel_rfl) (λ_ _ _ _=>by kernel_rfl) (by kernel_rfl) h
theorem Sg(h:DF c F x0 s=some r):c 78 [x0] s=some (tidy s r):=hc.o0 F Je (by kernel_rfl) (by kernel_rfl) h
theorem xS(h:uU c F x0 x1 s=some r):c 79 [x0,x1] s=some (tidy s r):=hc.o1 F (su c F) sg (by kernel_rfl) (by kernel_rfl) (λ_ _ _=>by kernel_rfl) (λ_ _ _ _=>by kernel_rfl) (by kernel_rfl) h
theorem Oe(h:yY c F x0 x1 x2 s=some r):c 82 [x0,x1,x2] s=some (tidy s r):=hc.o0 F Eh (by kernel_rfl) (by kernel_rfl) h
theorem Qq(h:Aj c F x0 s=some r):c 85 [x0] s=some (tidy s r):=hc.o0 F Fi (by kernel_rfl) (by kernel_rfl) h
theorem MG(h:xB c F x0 s=some r):c 86 [x0] s=some (tidy s r):=hc.o0 F Co (by kernel_rfl) (by kernel_rfl) h
theorem On(h:yZ c F x0 x1 s=some r):c 87 [x0,x1] s=some (tidy s r):=hc.o1 F (v8 c F) v7 (by kernel_rfl) (by kernel_rfl) (λ_ _ _=>by kernel_rfl) (λ_ _ _ _=>by kernel_rfl) (by kernel_rfl) h
theorem Uz(h:Ek c F x0 x1 x2 s=some r):c 90 [x0,x1,x2] s=some (tidy s r):=hc.o0 F JL (by kernel_rfl) (by kernel_rfl) h
theorem Lg(h:we c F x0 x1 x2 s=some r):c 91 [x0,x1,x2] s=some (tidy s r):=hc.o0 F A5 (by kernel_rfl) (by kernel_rfl) h
theorem Lh(h:wj c F x0 x1 x2 s=some r):c 92 [x0,x1,x2] s=some (tidy s r):=hc.o0 F A8 (by kernel_rfl) (by kernel_rfl) h
theorem R4(h:BJ c F x0 x1 x2 s=some r):c 93 [x0,x1,x2] s=some (tidy s r):=hc.o0 F HP (by kernel_rfl) (by kernel_rfl) h
theorem Oc(h:y9 c F x0 x1 x2 s=some r):c 94 [x0,x1,x2] s=some (tidy s r):=hc.o0 F El (by kernel_rfl) (by kernel_rfl) h
theorem aaU(h:Mr c F x0 x1 x2 s=some r):c 95 [x0,x1,x2] s=some (tidy s r):=hc.o0 F QJ (by kernel_rfl) (by kernel_rfl) h
theorem Ws(h:F7 c F x0 x1 x2 s=some r):c 96 [x0,x1,x2] s=some (tidy s r):=hc.o1 F (BL c F) BK (by kernel_rfl) (by kernel_rfl) (λ_ _ _=>by kernel_rfl) (λ_ _ _ _=>by kernel_rfl) (by kernel_rfl) h
theorem MC(h:xC c F x0 x1 x2 s=some r):c 97 [x0,x1,x2] s=some (tidy s r):=hc.o0 F Cr (by kernel_rfl) (by kernel_rfl) h
theorem Ww(h:F8 c F x0 x1 x2 s=some r):c 98 [x0,x1,x2] s=some (tidy s r):=hc.o0 F Mt (by kernel_rfl) (by kernel_rfl) h
theorem UF(h:Eo c F x0 x1 x2 s=some r):c 99 [x0,x1,x2] s=some (tidy s r):=hc.o1 F (Al c F) Ak (by kernel_rfl) (by kernel_rfl) (λ_ _ _=>by kernel_rfl) (λ_ _ _ _=>by kernel_rfl) (by kernel_rfl) h
theorem UH(h:Ep c F x0 x1 x2 s=some r):c 100 [x0,x1,x2] s=some (tidy s r):=hc.oL F (Am c F) qc 3 (by kernel_rfl) (λi hi=>match i,hi with|0,_=>cr 0 (by kernel_rfl) (λ_ _ _=>by kernel_rfl) (λ_ _ _ _=>by kernel_rfl)|1,_=>cr 1 (by kernel_rfl) (λ_ _ _=>by kernel_rfl) (λ_ _ _ _=>by kernel_rfl)|2,_=>cr 2 (by kernel_rfl) (λ_ _ _=>by kernel_rfl) (λ_ _ _ _=>by kernel_rfl)|n+3,h=>absurd h (by omega)) (by kernel_rfl) h
theorem UD(h:Er c F x0 x1 x2 s=some r):c 101 [x0,x1,x2] s=some (tidy s r):=hc.o0 F JQ (by kernel_rfl) (by kernel_rfl) h
theorem PN(h:An c F x0 x1 x2 s=some r):c 102 [x0,x1,x2] s=some (tidy s r):=hc.oL F (xD c F) rE 2 (by kernel_rfl) (λi hi=>match i,hi with|0,_=>cr 0 (by kernel_rfl) (λ_ _ _=>by kernel_rfl) (λ_ _ _ _=>by kernel_rfl)|1,_=>cr 1 (by kernel_rfl) (λ_ _ _=>by kernel_rfl) (λ_ _ _ _=>by kernel_rfl)|n+2,h=>absurd h (by omega)) (by kernel_rfl) h
theorem R8(h:BM c F x0 x1 x2 s=some r):c 103 [x0,x1,x2] s=some (tidy s r):=hc.o0 F HX (by kernel_rfl) (by kernel_rfl) h
theorem Wx(h:F9 c F x0 x1 x2 s=some r):c 104 [x0,x1,x2] s=some (tidy s r):=hc.o0 F Mw (by kernel_rfl) (by kernel_rfl) h
theorem UI(h:Ex c F x0 x1 x2 s=some r):c 105 [x0,x1,x2] s=some (tidy s r):=hc.o0 F JS (by kernel_rfl) (by kernel_rfl) h
theorem PO(h:Ao c F x0 x1 x2 s=some r):c 106 [x0,x1,x2] s=some (tidy s r):=hc.o1 F (xF c F) xE (by kernel_rfl) (by kernel_rfl) (λ_ _ _=>by kernel_rfl) (λ_ _ _ _=>by kernel_rfl) (by kernel_rfl) h
theorem YT(h:IE c F x0 x1 x2 s=some r):c 107 [x0,x1,x2] s=some (tidy s r):=hc.o0 F NK (by kernel_rfl) (by kernel_rfl) h
theorem Wq(h:Gb c F x0 x1 s=some r):c 161 [x0,x1] s=some (tidy s r):=hc.o0 F My (by kernel_rfl) (by kernel_rfl) h
theorem YP(h:IF c F x0 x1 x2 s=some r):c 162 [x0,x1,x2] s=some (tidy s r):=hc.o0 F NM (by kernel_rfl) (by kernel_rfl) h
theorem Ux(h:Ez c F x0 x1 x2 x3 s=some r):c 163 [x0,x1,x2,x3] s=some (tidy s r):=hc.o1 F (Aq c F) Ap (by kernel_rfl) (by kernel_rfl) (λ_ _ _=>by kernel_rfl) (λ_ _ _ _=>by kernel_rfl) (by kernel_rfl) h
theorem UA(h:EA c F x0 x1 x2 x3 s=some r):c 164 [x0,x1,x2,x3] s=some (tidy s r):=hc.oL F (Ar c F) uu 2 (by kernel_rfl) (λi hi=>match i,hi with|0,_=>cr 0 (by kernel_rfl) (λ_ _ _=>by kernel_rfl) (λ_ _ _ _=>by kernel_rfl)|1,_=>cr 1 (by kernel_rfl) (λ_ _ _=>by kernel_rfl) (λ_ _ _ _=>by kernel_rfl)|n+2,h=>absurd h (by omega)) (by kernel_rfl) h
theorem Kl(h:uV c F x0 x1 x2 s=some r):c 165 [x0,x1,x2] s=some (tidy s r):=hc.o0 F zP (by kernel_rfl) (by kernel_rfl) h
theorem Wv(h:Gc c F x0 x1 x2 s=some r):c 166 [x0,x1,x2] s=some (tidy s r):=hc.oL F (BN c F) wm 2 (by kernel_rfl) (λi hi=>match i,hi with|0,_=>cr 0 (by kernel_rfl) (λ_ _ _=>by kernel_rfl) (λ_ _ _ _=>by kernel_rfl)|1,_=>cr 1 (by kernel_rfl) (λ_ _ _=>by kernel_rfl) (λ_ _ _ _=>by kernel_rfl)|n+2,h=>absurd h (by omega)) (by kernel_rfl) h
theorem Sd(h:BO c F x0 x1 x2 s=some r):c 167 [x0,x1,x2] s=some (tidy s r):=hc.o1 F (ze c F) zc (by kernel_rfl) (by kernel_rfl) (λ_ _ _=>by kernel_rfl) (λ_ _ _ _=>by kernel_rfl) (by kernel_rfl) h
theorem Uy(h:EB c F x0 x1 x2 s=some r):c 168 [x0,x1,x2] s=some (tidy s r):=hc.o0 F J6 (by kernel_rfl) (by kernel_rfl) h
theorem PJ(h:At c F x0 x1 x2 s=some r):c 169 [x0,x1,x2] s=some (tidy s r):=hc.o0 F Fo (by kernel_rfl) (by kernel_rfl) h
theorem RY(h:BP c F x0 x1 x2 s=some r):c 170 [x0,x1,x2] s=some (tidy s r):=hc.o0 F Ib (by kernel_rfl) (by kernel_rfl) h
theorem Od(h:zf c F x0 x1 x2 s=some r):c 171 [x0,x1,x2] s=some (tidy s r):=hc.o0 F EC (by kernel_rfl) (by kernel_rfl) h
theorem Sc(h:BQ c F x0 x1 x2 s=some r):c 172 [x0,x1,x2] s=some (tidy s r):=hc.o0 F Ie (by kernel_rfl) (by kernel_rfl) h
theorem PT(h:Au c F x0 x1 x2 s=some r):c 173 [x0,x1,x2] s=some (tidy s r):=hc.o0 F Fq (by kernel_rfl) (by kernel_rfl) h
theorem UB(h:EE c F x0 x1 x2 s=some r):c 174 [x0,x1,x2] s=some (tidy s r):=hc.o0 F J8 (by kernel_rfl) (by kernel_rfl) h
end
end
end Go.Proofs.YtgihekklfnjkiaaGreatDoor
section
end
namespace Go.Proofs.YtgihekklfnjkiaaGreatDoor
noncomputable section
set_option linter.all false
set_option maxRecDepth 100000
set_option maxHeartbeats 4000000
open Go Go.Ai Go.Proofs
attribute [local go_sem ↓] bf Gk ev evX GH getLT Gj aaM kat C9 Da V9 Wc Wd We Pn Po Pp Pq Pr Pt Wg Wh Pu Pv Px Py Pz ab7 ab8 ab9
attribute [local go_sem] bf Gk ev
section
variable(c : aj)(F : Nat)(x0 x1 x2 x3 x4 x5 x6 x7 x8 x9 x10 x11 : AV)(s : St)
def NO:Sh:=(sq sl (sq (sc (sq sl (sq sl sl)) sl) (sq sl (sq sl sl))))
def NP:PX 140 NO:=⟨_,by conv=>lhs;reduce⟩
def IG:O2:=bf c F aY NP.1 [x0,x1] s
def aco:=(by dsimp only[IG,NP,go_sem,Int.reduceOfNat]:IG c F x0 x1 s=_)
def Ka:Sh:=(sq sl (sq sl (sq sl (sq sl (sq sl (sq sl (sq sl (sq sl (sq sl (sq sl (sq sl (sq sl sl))))))))))))
def Kb:PX 191 Ka:=⟨_,by conv=>lhs;reduce⟩
def EF:O2:=bf c F aY Kb.1 [x0,x1] s
def YY:=(by dsimp only[EF,Kb,go_sem,Int.reduceOfNat]:EF c F x0 x1 s=_)
end
section
variable{c : aj}(hc : bw c)(F : Nat){x0 x1 x2 x3 x4 x5 x6 x7 x8 x9 x10 x11 : AV}{s : St}{r : AV × St}
include hc
theorem YZ(h:IG c F x0 x1 s=some r):c 140 [x0,x1] s=some (tidy s r):=hc.o0 F NO (by kernel_rfl) (by kernel_rfl) h
theorem UJ(h:EF c F x0 x1 s=some r):c 191 [x0,x1] s=some (tidy s r):=hc.o0 F Ka (by kernel_rfl) (by kernel_rfl) h
end
end
end Go.Proofs.YtgihekklfnjkiaaGreatDoor
