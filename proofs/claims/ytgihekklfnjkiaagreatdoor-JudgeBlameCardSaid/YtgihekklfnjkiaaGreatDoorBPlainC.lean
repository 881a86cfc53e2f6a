/- Functions, plainly. -/
import Derived.Test.YtgihekklfnjkiaaGreatDoorBLawsE
set_option linter.all false
set_option maxRecDepth 100000
set_option maxHeartbeats 4000000
namespace Go.Proofs.YtgihekklfnjkiaaGreatDoor
noncomputable section
open Go Go.Ai Go.Proofs
attribute [local go_sem ↓] bf Gd ev evX Gu getLT Gc aaI kat CX CY VV VW VX VY Ph Pj Pk Pm Pn Po VZ V8 Pp Pq Pr Pt Pu ab1 ab2 ab3
attribute [local go_sem] bf Gd ev
section
variable(c:aj)(F:Nat)(x0 x1 x2 x3 x4 x5 x6 x7 x8 x9 x10 x11:AV)(s:St)
def DN:Sh:=(sq sl (sq sl (sq sl (sq sl sl))))
def DO:PX 9 DN:=⟨_,by conv=>lhs;reduce⟩
def sS:O2:=bf c F aZ DO.1 [x0] s
def Sl:=(by dsimp only[sS,DO,go_sem,Int.reduceOfNat]:sS c F x0 s=_)
def uR:Sh:=(sq sl (sq sl (sq sl (sq sl (sq (sq sl (sb (sp 0 [1,2,5,6,7,8] [(2,[7])] (sq (sq sl (sc sl sl)) (sj [1,2,5,6,7,8] (sb (sq sl (sj [1,2,5,6,7,8,9] (sq sl (sc sl sl)) (sq sl (sc sl sl))))) sl))))) (sq sl sl))))))
def Ce:PX 10 uR:=⟨_,by conv=>lhs;reduce⟩
def AS:PL 10 uR 0:=⟨_,by conv=>lhs;reduce⟩
def fc(k2:Q2):Nat->Q2
 |0,_,_=>none
 |n+1,vs,s=>dZ c F aZ (fc k2 n) [k2] AS.1 vs s
def mO(k2:Q2)(n:Nat)(vs:List AV)(s:St):=(by dsimp only[fc,AS,go_sem,Int.reduceOfNat,Int.reduceNegSucc]:fc c F k2 (n+1) vs s=_)
def uS:Un->List Q2->Nat->Q2
 |.z,[k2]=>fc c F k2
 |_,_=>λ_=>fD
def xq:O2:=bf c F (uS c F) Ce.1 [x0,x1] s
def PT:=(by dsimp only[xq,Ce, ↓uS,go_sem,Int.reduceOfNat,Int.reduceNegSucc]:xq c F x0 x1 s=_)
def EW:Sh:=(sq sl (sq sl (sq (sq sl (sc (sq sl sl) sl)) (sq sl sl))))
def EX:PX 12 EW:=⟨_,by conv=>lhs;reduce⟩
def zW:O2:=bf c F aZ EX.1 [x0,x1,x2] s
def UJ:=(by dsimp only[zW,EX,go_sem,Int.reduceOfNat]:zW c F x0 x1 x2 s=_)
def nY:Sh:=(sq sl (sq sl (sq sl (sq (sq sl (sb (sp 0 [1,2,3,4,5] [(2,[1,2,3,4])] (sq (sq sl (sc sl sl)) (sq (sb (sq sl (sq sl (sq sl sl)))) sl))))) (sq sl (sq sl (sj [1,2,3] (sq sl (sc (sq sl (sb (sp 1 [1,2,3,9] [(4,[1,2,3])] (sq (sq sl (sc sl sl)) (sq (sb (sq sl sl)) sl))))) sl)) (sq (sq sl (sb (sp 2 [1,2,3,11] [(6,[2,3])] (sq (sq sl (sc sl sl)) (sj [1,2,3,11] (sb (sq sl (sq sl (sc (sq sl sl) sl)))) sl))))) (sq sl sl)))))))))
def EY:PX 15 nY:=⟨_,by conv=>lhs;reduce⟩
def DQ:PL 15 nY 2:=⟨_,by conv=>lhs;reduce⟩
def jS(k6:Q2):Nat->Q2
 |0,_,_=>none
 |n+1,vs,s=>dZ c F aZ (jS k6 n) [k6] DQ.1 vs s
def tK(k6:Q2)(n:Nat)(vs:List AV)(s:St):=(by dsimp only[jS,DQ,go_sem,Int.reduceOfNat]:jS c F k6 (n+1) vs s=_)
def DR:PL 15 nY 1:=⟨_,by conv=>lhs;reduce⟩
def jR(k4:Q2):Nat->Q2
 |0,_,_=>none
 |n+1,vs,s=>dZ c F aZ (jR k4 n) [k4] DR.1 vs s
def AL(k4:Q2)(n:Nat)(vs:List AV)(s:St):=(by dsimp only[jR,DR,go_sem,Int.reduceOfNat]:jR c F k4 (n+1) vs s=_)
def DS:PL 15 nY 0:=⟨_,by conv=>lhs;reduce⟩
def gh(k2:Q2):Nat->Q2
 |0,_,_=>none
 |n+1,vs,s=>dZ c F aZ (gh k2 n) [k2] DS.1 vs s
def AK(k2:Q2)(n:Nat)(vs:List AV)(s:St):=(by dsimp only[gh,DS,go_sem,Int.reduceOfNat]:gh c F k2 (n+1) vs s=_)
def xw:Un->List Q2->Nat->Q2
 |.z,[k2]=>gh c F k2
 |(.s .z),[k4]=>jR c F k4
 |(.s (.s .z)),[k6]=>jS c F k6
 |_,_=>λ_=>fD
def nh:O2:=bf c F (xw c F) EY.1 [x0] s
def U7:=(by dsimp only[nh,EY, ↓xw,go_sem,Int.reduceOfNat]:nh c F x0 s=_)
def Jv:Sh:=(sq sl (sq sl (sj [5] (sq sl (sc sl sl)) (sq sl sl))))
def Jw:PX 24 Jv:=⟨_,by conv=>lhs;reduce⟩
def DV:O2:=bf c F aZ Jw.1 [x0,x1] s
def YW:=(by dsimp only[DV,Jw,go_sem,Int.reduceOfNat]:DV c F x0 x1 s=_)
def tO:Sh:=(sq sl (sq sl (sq (sq sl (sb (sp 0 [1,3,4] [(2,[3])] (sq (sq sl (sc sl sl)) (sq (sb sl) sl))))) (sq sl sl))))
def AT:PX 35 tO:=⟨_,by conv=>lhs;reduce⟩
def zJ:PL 35 tO 0:=⟨_,by conv=>lhs;reduce⟩
def jY(k2:Q2):Nat->Q2
 |0,_,_=>none
 |n+1,vs,s=>dZ c F aZ (jY k2 n) [k2] zJ.1 vs s
def xS(k2:Q2)(n:Nat)(vs:List AV)(s:St):=(by dsimp only[jY,zJ,go_sem,Int.reduceOfNat]:jY c F k2 (n+1) vs s=_)
def tP:Un->List Q2->Nat->Q2
 |.z,[k2]=>jY c F k2
 |_,_=>λ_=>fD
def vS:O2:=bf c F (tP c F) AT.1 [x0] s
def N6:=(by dsimp only[vS,AT, ↓tP,go_sem,Int.reduceOfNat]:vS c F x0 s=_)
def vU:Sh:=(sq sl (sq (sq sl (sb (sp 0 [0,1,5] [(1,[4]),(2,[])] (sq (sq sl (sc sl sl)) (sq (sb (sq sl (sq sl (sc (sq sl (sq sl sl)) sl)))) sl))))) (sq sl sl)))
def DW:PX 36 vU:=⟨_,by conv=>lhs;reduce⟩
def Cf:PL 36 vU 0:=⟨_,by conv=>lhs;reduce⟩
def lU(k1 k2:Q2):Nat->Q2
 |0,_,_=>none
 |n+1,vs,s=>dZ c F aZ (lU k1 k2 n) [k1,k2] Cf.1 vs s
def rI(k1 k2:Q2)(n:Nat)(vs:List AV)(s:St):=(by dsimp only[lU,Cf,go_sem,Int.reduceOfNat,Int.reduceNegSucc]:lU c F k1 k2 (n+1) vs s=_)
def vW:Un->List Q2->Nat->Q2
 |.z,[k1,k2]=>lU c F k1 k2
 |_,_=>λ_=>fD
def yR:O2:=bf c F (vW c F) DW.1 [x0,x1] s
def C9:=(by dsimp only[yR,DW, ↓vW,go_sem,Int.reduceOfNat,Int.reduceNegSucc]:yR c F x0 x1 s=_)
def zX:Sh:=(sq sl (sq (sq sl (sc (sq sl sl) sl)) (sq sl (sq (sq sl (sb (sp 0 [0,5,32,33,34] [(1,[4]),(2,[5])] (sq sl (sq (sc sl sl) (sj [0,5,32,33,34] (sb (sq sl (sq (sq sl (sc (sq sl sl) sl)) (sq sl (sc sl sl))))) sl)))))) (sq sl sl)))))
def Jy:PX 37 zX:=⟨_,by conv=>lhs;reduce⟩
def Hs:PL 37 zX 0:=⟨_,by conv=>lhs;reduce⟩
def lS(k1 k2:Q2):Nat->Q2
 |0,_,_=>none
 |n+1,vs,s=>dZ c F aZ (lS k1 k2 n) [k1,k2] Hs.1 vs s
def fW(k1 k2:Q2)(n:Nat)(vs:List AV)(s:St):=(by dsimp only[lS,Hs,go_sem,Int.reduceOfNat,Int.reduceNegSucc]:lS c F k1 k2 (n+1) vs s=_)
def zY:Un->List Q2->Nat->Q2
 |.z,[k1,k2]=>lS c F k1 k2
 |_,_=>λ_=>fD
def DX:O2:=bf c F (zY c F) Jy.1 [x0,x1] s
def zP:=(by dsimp only[DX,Jy, ↓zY,go_sem,Int.reduceOfNat,Int.reduceNegSucc]:DX c F x0 x1 s=_)
def Ht:Sh:=(sq sl (sq sl (sq sl (sq sl sl))))
def Hu:PX 41 Ht:=⟨_,by conv=>lhs;reduce⟩
def BA:O2:=bf c F aZ Hu.1 [x0,x1] s
def Wt:=(by dsimp only[BA,Hu,go_sem,Int.reduceOfNat]:BA c F x0 x1 s=_)
def vX:Sh:=(sq sl (sq sl (sq sl (sj [1,4,5] (sq sl (sb (sq sl (sc sl (sq sl (sc sl (sq sl (sc sl (sq sl (sc (sq sl sl) sl)))))))))) (sq (sq sl (sb (sp 0 [1,4,5,7] [(3,[4,5])] (sq (sq sl (sc sl sl)) (sj [1,4,5,7] (sb (sq sl (sc (sq sl sl) sl))) sl))))) (sq sl sl))))))
def DY:PX 45 vX:=⟨_,by conv=>lhs;reduce⟩
def Cg:PL 45 vX 0:=⟨_,by conv=>lhs;reduce⟩
def jq(k3:Q2):Nat->Q2
 |0,_,_=>none
 |n+1,vs,s=>dZ c F aZ (jq k3 n) [k3] Cg.1 vs s
def nJ(k3:Q2)(n:Nat)(vs:List AV)(s:St):=(by dsimp only[jq,Cg,go_sem,Int.reduceOfNat]:jq c F k3 (n+1) vs s=_)
def vY:Un->List Q2->Nat->Q2
 |.z,[k3]=>jq c F k3
 |_,_=>λ_=>fD
def yS:O2:=bf c F (vY c F) DY.1 [x0,x1] s
def SL:=(by dsimp only[yS,DY, ↓vY,go_sem,Int.reduceOfNat]:yS c F x0 x1 s=_)
def E0:Sh:=(sq sl (sq (sq sl (sb (sq sl (sc (sq sl sl) (sq sl (sc (sq sl sl) sl)))))) (sq sl sl)))
def E7:PX 46 E0:=⟨_,by conv=>lhs;reduce⟩
def zZ:O2:=bf c F aZ E7.1 [x0] s
def U5:=(by dsimp only[zZ,E7,go_sem,Int.reduceOfNat]:zZ c F x0 s=_)
def kz:Sh:=(sq sl (sq sl (sq (sq sl (sb (sp 0 [0,1,4,5,6] [(2,[1,4,5])] (sq (sq sl (sc sl sl)) (sj [0,1,4,5,6] (sb (sq sl (sq sl (sj [0,1,4,5,6,7,8] (sq sl (sc sl sl)) (sj [0,1,4,5,6,7,8] (sq sl (sc sl sl)) (sj [0,1,4,5,6,7,8] (sq sl (sc sl sl)) (sq (sq sl (sb (sp 1 [0,1,4,5,6,7,8,9] [(4,[0,1,4,5,6,8])] (sq (sq sl (sc sl sl)) (sj [0,1,4,5,6,7,8,9] (sb (sq sl (sc (sq sl sl) sl))) sl))))) (sq sl sl)))))))) sl))))) (sq sl (sq (sq sl (sb (sp 2 [1,4,5,12,13] [(6,[4,5])] (sq (sq sl (sc sl sl)) (sq (sb (sq sl (sb (sp 3 [1,4,5,12,13,14] [(8,[1,4,5,12,13])] (sq (sq sl (sc sl sl)) (sj [1,4,5,12,13,14] (sb (sq (sq sl (sc sl sl)) (sq (sq sl (sc sl sl)) (sj [1,4,5,12,13,14] (sq sl (sc (sq sl sl) sl)) sl)))) sl)))))) sl))))) (sq sl sl))))))
def E8:PX 47 kz:=⟨_,by conv=>lhs;reduce⟩
def DZ:PL 47 kz 3:=⟨_,by conv=>lhs;reduce⟩
def jU(k8:Q2):Nat->Q2
 |0,_,_=>none
 |n+1,vs,s=>dZ c F aZ (jU k8 n) [k8] DZ.1 vs s
def iK(k8:Q2)(n:Nat)(vs:List AV)(s:St):=(by dsimp only[jU,DZ,go_sem,Int.reduceOfNat]:jU c F k8 (n+1) vs s=_)
def D0:Un->List Q2->Nat->Q2
 |(.s (.s (.s .z))),[k8]=>jU c F k8
 |_,_=>λ_=>fD
def D4:PL 47 kz 2:=⟨_,by conv=>lhs;reduce⟩
def jV(k6:Q2):Nat->Q2
 |0,_,_=>none
 |n+1,vs,s=>dZ c F (D0 c F) (jV k6 n) [k6] D4.1 vs s
def AM(k6:Q2)(n:Nat)(vs:List AV)(s:St):=(by dsimp only[jV,D4, ↓D0,go_sem,Int.reduceOfNat]:jV c F k6 (n+1) vs s=_)
def D5:PL 47 kz 1:=⟨_,by conv=>lhs;reduce⟩
def iE(k4:Q2):Nat->Q2
 |0,_,_=>none
 |n+1,vs,s=>dZ c F aZ (iE k4 n) [k4] D5.1 vs s
def tJ(k4:Q2)(n:Nat)(vs:List AV)(s:St):=(by dsimp only[iE,D5,go_sem,Int.reduceOfNat]:iE c F k4 (n+1) vs s=_)
def D6:Un->List Q2->Nat->Q2
 |(.s .z),[k4]=>iE c F k4
 |_,_=>λ_=>fD
def D7:PL 47 kz 0:=⟨_,by conv=>lhs;reduce⟩
def fZ(k2:Q2):Nat->Q2
 |0,_,_=>none
 |n+1,vs,s=>dZ c F (D6 c F) (fZ k2 n) [k2] D7.1 vs s
def AI(k2:Q2)(n:Nat)(vs:List AV)(s:St):=(by dsimp only[fZ,D7, ↓D6,go_sem,Int.reduceOfNat]:fZ c F k2 (n+1) vs s=_)
def xx:Un->List Q2->Nat->Q2
 |.z,[k2]=>fZ c F k2
 |(.s .z),[k4]=>iE c F k4
 |(.s (.s .z)),[k6]=>jV c F k6
 |(.s (.s (.s .z))),[k8]=>jU c F k8
 |_,_=>λ_=>fD
def z8:O2:=bf c F (xx c F) E8.1 [x0,x1] s
def U6:=(by dsimp only[z8,E8, ↓xx,go_sem,Int.reduceOfNat]:z8 c F x0 x1 s=_)
def D8:Sh:=(sq sl (sq sl (sq sl (sj [1,2,4,6] (sq sl (sc sl sl)) (sq sl (sq sl (sq (sq sl (sc (sq sl sl) sl)) (sq sl (sq sl (sj [1,2,4,6,11] (sq sl (sb (sj [1,2,4,6,9,10,11,12,58,59] (sq sl (sc sl (sq sl (sc sl (sq sl (sc sl (sq sl (sc sl sl)))))))) (sc (sq sl (sj [4,6,9,10] (sq sl (sc sl sl)) (sj [4,6,9,10] (sq sl (sc sl sl)) (sq sl sl)))) (sj [1,2,4,6,9,11,12,58,100] (sq sl (sc sl sl)) (sc (sq sl (sj [4,6] (sq sl (sc sl sl)) (sq sl sl))) (sq sl (sc (sj [4,6] (sq sl (sc sl sl)) (sq sl sl)) (sq sl (sc (sq sl (sq sl sl)) (sj [1,2,4,6,11,12,164] (sq sl (sc sl sl)) (sc sl sl)))))))))))) (sj [4,6] (sq sl (sc sl sl)) (sq sl sl))))))))))))
def D9:PX 48 D8:=⟨_,by conv=>lhs;reduce⟩
def lY:O2:=bf c F aZ D9.1 [x0,x1] s
def SN:=(by dsimp only[lY,D9,go_sem,Int.reduceOfNat]:lY c F x0 x1 s=_)
def rU:Sh:=(sq sl (sj [0,1] (sq sl (sc sl sl)) (sq sl (sj [0,6] (sq sl (sc sl sl)) (sq sl (sq sl (sq (sb (sp 0 [7,8] [(2,[7])] (sq (sq sl (sc sl sl)) (sb sl)))) (sq sl sl))))))))
def zK:PX 79 rU:=⟨_,by conv=>lhs;reduce⟩
def yT:PL 79 rU 0:=⟨_,by conv=>lhs;reduce⟩
def jD(k2:Q2):Nat->Q2
 |0,_,_=>none
 |n+1,vs,s=>dZ c F aZ (jD k2 n) [k2] yT.1 vs s
def kL(k2:Q2)(n:Nat)(vs:List AV)(s:St):=(by dsimp only[jD,yT,go_sem,Int.reduceOfNat]:jD c F k2 (n+1) vs s=_)
def rV:Un->List Q2->Nat->Q2
 |.z,[k2]=>jD c F k2
 |_,_=>λ_=>fD
def uT:O2:=bf c F (rV c F) zK.1 [x0,x1] s
def zD:=(by dsimp only[uT,zK, ↓rV,go_sem,Int.reduceOfNat]:uT c F x0 x1 s=_)
def Ec:Sh:=sl
def Ed:PX 82 Ec:=⟨_,by conv=>lhs;reduce⟩
def yU:O2:=bf c F aZ Ed.1 [x0,x1,x2] s
def Sd:=(by dsimp only[yU,Ed,go_sem,Int.reduceOfNat]:yU c F x0 x1 x2 s=_)
def E9:Sh:=(sq sl (sq sl sl))
def Fa:PX 85 E9:=⟨_,by conv=>lhs;reduce⟩
def Aa:O2:=bf c F aZ Fa.1 [x0] s
def U4:=(by dsimp only[Aa,Fa,go_sem,Int.reduceOfNat]:Aa c F x0 s=_)
def Ci:Sh:=(sq sl (sq sl sl))
def Cj:PX 86 Ci:=⟨_,by conv=>lhs;reduce⟩
def xz:O2:=bf c F aZ Cj.1 [x0] s
def Qt:=(by dsimp only[xz,Cj,go_sem,Int.reduceOfNat]:xz c F x0 s=_)
def vZ:Sh:=(sq sl (sq (sq sl (sb (sp 0 [1,2,5] [(1,[4]),(2,[])] (sq (sq sl (sc sl sl)) (sq (sb (sq sl (sc (sq sl sl) sl))) sl))))) (sq sl sl)))
def Ee:PX 87 vZ:=⟨_,by conv=>lhs;reduce⟩
def Ck:PL 87 vZ 0:=⟨_,by conv=>lhs;reduce⟩
def lW(k1 k2:Q2):Nat->Q2
 |0,_,_=>none
 |n+1,vs,s=>dZ c F aZ (lW k1 k2 n) [k1,k2] Ck.1 vs s
def rP(k1 k2:Q2)(n:Nat)(vs:List AV)(s:St):=(by dsimp only[lW,Ck,go_sem,Int.reduceOfNat]:lW c F k1 k2 (n+1) vs s=_)
def v7:Un->List Q2->Nat->Q2
 |.z,[k1,k2]=>lW c F k1 k2
 |_,_=>λ_=>fD
def yV:O2:=bf c F (v7 c F) Ee.1 [x0,x1] s
def SM:=(by dsimp only[yV,Ee, ↓v7,go_sem,Int.reduceOfNat]:yV c F x0 x1 s=_)
def Jz:Sh:=(sq sl (sq sl (sq (sq sl (sc sl sl)) (sq sl (sq sl (sc sl sl))))))
def JA:PX 90 Jz:=⟨_,by conv=>lhs;reduce⟩
def Ef:O2:=bf c F aZ JA.1 [x0,x1,x2] s
def YK:=(by dsimp only[Ef,JA,go_sem,Int.reduceOfNat]:Ef c F x0 x1 x2 s=_)
def AU:Sh:=(sq sl (sq sl (sq sl (sc sl sl))))
def AW:PX 91 AU:=⟨_,by conv=>lhs;reduce⟩
def v8:O2:=bf c F aZ AW.1 [x0,x1,x2] s
def NV:=(by dsimp only[v8,AW,go_sem,Int.reduceOfNat]:v8 c F x0 x1 x2 s=_)
def AX:Sh:=(sq sl (sq sl (sq sl (sc sl sl))))
def AY:PX 92 AX:=⟨_,by conv=>lhs;reduce⟩
def we:O2:=bf c F aZ AY.1 [x0,x1,x2] s
def NW:=(by dsimp only[we,AY,go_sem,Int.reduceOfNat]:we c F x0 x1 x2 s=_)
def Hv:Sh:=(sq sl (sq sl (sq sl (sc (sq sl (sq sl (sc sl sl))) sl))))
def Hw:PX 93 Hv:=⟨_,by conv=>lhs;reduce⟩
def BB:O2:=bf c F aZ Hw.1 [x0,x1,x2] s
def Wk:=(by dsimp only[BB,Hw,go_sem,Int.reduceOfNat]:BB c F x0 x1 x2 s=_)
def Eg:Sh:=(sq sl (sq sl (sq sl (sc sl sl))))
def Eh:PX 94 Eg:=⟨_,by conv=>lhs;reduce⟩
def yW:O2:=bf c F aZ Eh.1 [x0,x1,x2] s
def RX:=(by dsimp only[yW,Eh,go_sem,Int.reduceOfNat]:yW c F x0 x1 x2 s=_)
def QJ:Sh:=(sq sl (sq sl (sq sl (sq sl (sc sl sl)))))
def QK:PX 95 QJ:=⟨_,by conv=>lhs;reduce⟩
def Mn:O2:=bf c F aZ QK.1 [x0,x1,x2] s
def adx:=(by dsimp only[Mn,QK,go_sem,Int.reduceOfNat]:Mn c F x0 x1 x2 s=_)
def BC:Sh:=(sq sl (sq sl (sq sl (sq (sq sl (sc sl sl)) (sq sl (sq (sb (sp 0 [0,2,4,6,7,8] [(2,[0,2,4,6,7,8])] (sq (sq sl (sc sl sl)) (sb sl)))) (sq sl (sc sl sl))))))))
def Mo:PX 96 BC:=⟨_,by conv=>lhs;reduce⟩
def JB:PL 96 BC 0:=⟨_,by conv=>lhs;reduce⟩
def pH(k2:Q2):Nat->Q2
 |0,_,_=>none
 |n+1,vs,s=>dZ c F aZ (pH k2 n) [k2] JB.1 vs s
def qR(k2:Q2)(n:Nat)(vs:List AV)(s:St):=(by dsimp only[pH,JB,go_sem,Int.reduceOfNat]:pH c F k2 (n+1) vs s=_)
def BD:Un->List Q2->Nat->Q2
 |.z,[k2]=>pH c F k2
 |_,_=>λ_=>fD
def FV:O2:=bf c F (BD c F) Mo.1 [x0,x1,x2] s
def aaQ:=(by dsimp only[FV,Mo, ↓BD,go_sem,Int.reduceOfNat]:FV c F x0 x1 x2 s=_)
def Cl:Sh:=(sq sl sl)
def Cm:PX 97 Cl:=⟨_,by conv=>lhs;reduce⟩
def xA:O2:=bf c F aZ Cm.1 [x0,x1,x2] s
def PD:=(by dsimp only[xA,Cm,go_sem,Int.reduceOfNat]:xA c F x0 x1 x2 s=_)
def Mp:Sh:=(sq sl sl)
def Mq:PX 98 Mp:=⟨_,by conv=>lhs;reduce⟩
def FW:O2:=bf c F aZ Mq.1 [x0,x1,x2] s
def aaV:=(by dsimp only[FW,Mq,go_sem,Int.reduceOfNat]:FW c F x0 x1 x2 s=_)
def Ab:Sh:=(sq sl (sq sl (sb (sp 0 [0,2,4,11,12,13] [(2,[])] (sq sl (sq (sc sl sl) (sj [0,2,4,11,12,13] (sb (sq sl (sq sl (sc sl sl)))) sl)))))))
def JC:PX 99 Ab:=⟨_,by conv=>lhs;reduce⟩
def Hx:PL 99 Ab 0:=⟨_,by conv=>lhs;reduce⟩
def jz(k2:Q2):Nat->Q2
 |0,_,_=>none
 |n+1,vs,s=>dZ c F aZ (jz k2 n) [k2] Hx.1 vs s
def iy(k2:Q2)(n:Nat)(vs:List AV)(s:St):=(by dsimp only[jz,Hx,go_sem,Int.reduceOfNat]:jz c F k2 (n+1) vs s=_)
def Ac:Un->List Q2->Nat->Q2
 |.z,[k2]=>jz c F k2
 |_,_=>λ_=>fD
def Ei:O2:=bf c F (Ac c F) JC.1 [x0,x1,x2] s
def YQ:=(by dsimp only[Ei,JC, ↓Ac,go_sem,Int.reduceOfNat]:Ei c F x0 x1 x2 s=_)
def pU:Sh:=(sq sl (sq sl (sb (sp 0 [0,2,4,18,19,20] [(2,[])] (sq sl (sq (sc sl sl) (sj [0,2,4,18,19,20] (sb (sq sl (sq (sq sl (sc sl sl)) (sq sl (sq (sq sl (sb (sp 1 [0,2,4,6,8,9,18,19,20,54,55,56] [(4,[0,2,4,6,8,9,18,19,20])] (sq sl (sq (sc sl sl) (sq (sb (sq sl (sq sl (sb (sp 2 [0,2,4,6,8,9,18,19,20,54,55,56,60,61,62] [(6,[0,2,4,6,8,9,18,19,20,54,55,56])] (sq sl (sq (sc sl sl) (sj [0,2,4,6,8,9,18,19,20,54,55,56,60,61,62] (sb (sq sl (sq sl (sq sl (sc (sq sl sl) sl))))) sl)))))))) sl)))))) (sq sl (sc sl sl))))))) sl)))))))
def JE:PX 100 pU:=⟨_,by conv=>lhs;reduce⟩
def Hy:PL 100 pU 2:=⟨_,by conv=>lhs;reduce⟩
def jC(k6:Q2):Nat->Q2
 |0,_,_=>none
 |n+1,vs,s=>dZ c F aZ (jC k6 n) [k6] Hy.1 vs s
def vD(k6:Q2)(n:Nat)(vs:List AV)(s:St):=(by dsimp only[jC,Hy,go_sem,Int.reduceOfNat]:jC c F k6 (n+1) vs s=_)
def Hz:Un->List Q2->Nat->Q2
 |(.s (.s .z)),[k6]=>jC c F k6
 |_,_=>λ_=>fD
def HA:PL 100 pU 1:=⟨_,by conv=>lhs;reduce⟩
def lR(k4:Q2):Nat->Q2
 |0,_,_=>none
 |n+1,vs,s=>dZ c F (Hz c F) (lR k4 n) [k4] HA.1 vs s
def vE(k4:Q2)(n:Nat)(vs:List AV)(s:St):=(by dsimp only[lR,HA, ↓Hz,go_sem,Int.reduceOfNat]:lR c F k4 (n+1) vs s=_)
def HC:Un->List Q2->Nat->Q2
 |(.s .z),[k4]=>lR c F k4
 |(.s (.s .z)),[k6]=>jC c F k6
 |_,_=>λ_=>fD
def HD:PL 100 pU 0:=⟨_,by conv=>lhs;reduce⟩
def fV(k2:Q2):Nat->Q2
 |0,_,_=>none
 |n+1,vs,s=>dZ c F (HC c F) (fV k2 n) [k2] HD.1 vs s
def mN(k2:Q2)(n:Nat)(vs:List AV)(s:St):=(by dsimp only[fV,HD, ↓HC,go_sem,Int.reduceOfNat]:fV c F k2 (n+1) vs s=_)
def Ad:Un->List Q2->Nat->Q2
 |.z,[k2]=>fV c F k2
 |(.s .z),[k4]=>lR c F k4
 |(.s (.s .z)),[k6]=>jC c F k6
 |_,_=>λ_=>fD
def Ej:O2:=bf c F (Ad c F) JE.1 [x0,x1,x2] s
def YR:=(by dsimp only[Ej,JE, ↓Ad,go_sem,Int.reduceOfNat]:Ej c F x0 x1 x2 s=_)
def JF:Sh:=(sq sl sl)
def JG:PX 101 JF:=⟨_,by conv=>lhs;reduce⟩
def Ek:O2:=bf c F aZ JG.1 [x0,x1,x2] s
def YP:=(by dsimp only[Ek,JG,go_sem,Int.reduceOfNat]:Ek c F x0 x1 x2 s=_)
def qY:Sh:=(sq sl (sq sl (sb (sp 0 [0,2,4,13,14,15] [(2,[])] (sq sl (sq (sc sl sl) (sq (sb (sq sl (sq sl (sb (sp 1 [0,2,4,6,7,8,13,14,15] [(4,[0,2,4,13,14,15])] (sq (sq sl (sc sl sl)) (sj [0,2,4,6,7,8,13,14,15] (sb (sq sl (sq sl (sc sl sl)))) sl))))))) sl)))))))
def Fb:PX 102 qY:=⟨_,by conv=>lhs;reduce⟩
def El:PL 102 qY 1:=⟨_,by conv=>lhs;reduce⟩
def fU(k4:Q2):Nat->Q2
 |0,_,_=>none
 |n+1,vs,s=>dZ c F aZ (fU k4 n) [k4] El.1 vs s
def iJ(k4:Q2)(n:Nat)(vs:List AV)(s:St):=(by dsimp only[fU,El,go_sem,Int.reduceOfNat]:fU c F k4 (n+1) vs s=_)
def Em:Un->List Q2->Nat->Q2
 |(.s .z),[k4]=>fU c F k4
 |_,_=>λ_=>fD
def Eo:PL 102 qY 0:=⟨_,by conv=>lhs;reduce⟩
def mM(k2:Q2):Nat->Q2
 |0,_,_=>none
 |n+1,vs,s=>dZ c F (Em c F) (mM k2 n) [k2] Eo.1 vs s
def Ar(k2:Q2)(n:Nat)(vs:List AV)(s:St):=(by dsimp only[mM,Eo, ↓Em,go_sem,Int.reduceOfNat]:mM c F k2 (n+1) vs s=_)
def xB:Un->List Q2->Nat->Q2
 |.z,[k2]=>mM c F k2
 |(.s .z),[k4]=>fU c F k4
 |_,_=>λ_=>fD
def Ae:O2:=bf c F (xB c F) Fb.1 [x0,x1,x2] s
def UD:=(by dsimp only[Ae,Fb, ↓xB,go_sem,Int.reduceOfNat]:Ae c F x0 x1 x2 s=_)
def HE:Sh:=(sq sl (sq (sq sl (sc sl sl)) sl))
def HF:PX 103 HE:=⟨_,by conv=>lhs;reduce⟩
def BE:O2:=bf c F aZ HF.1 [x0,x1,x2] s
def Gz:=(by dsimp only[BE,HF,go_sem,Int.reduceOfNat]:BE c F x0 x1 x2 s=_)
def Mr:Sh:=(sq sl sl)
def Ms:PX 104 Mr:=⟨_,by conv=>lhs;reduce⟩
def FX:O2:=bf c F aZ Ms.1 [x0,x1,x2] s
def aaW:=(by dsimp only[FX,Ms,go_sem,Int.reduceOfNat]:FX c F x0 x1 x2 s=_)
def JH:Sh:=(sq sl sl)
def JI:PX 105 JH:=⟨_,by conv=>lhs;reduce⟩
def Ep:O2:=bf c F aZ JI.1 [x0,x1,x2] s
def YS:=(by dsimp only[Ep,JI,go_sem,Int.reduceOfNat]:Ep c F x0 x1 x2 s=_)
def xC:Sh:=(sq sl (sq sl (sb (sp 0 [0,2,4,11,12,13] [(2,[])] (sq sl (sq (sc sl sl) (sj [0,2,4,11,12,13] (sb (sq sl (sq sl (sc sl sl)))) sl)))))))
def Fc:PX 106 xC:=⟨_,by conv=>lhs;reduce⟩
def Er:PL 106 xC 0:=⟨_,by conv=>lhs;reduce⟩
def iz(k2:Q2):Nat->Q2
 |0,_,_=>none
 |n+1,vs,s=>dZ c F aZ (iz k2 n) [k2] Er.1 vs s
def kC(k2:Q2)(n:Nat)(vs:List AV)(s:St):=(by dsimp only[iz,Er,go_sem,Int.reduceOfNat]:iz c F k2 (n+1) vs s=_)
def xD:Un->List Q2->Nat->Q2
 |.z,[k2]=>iz c F k2
 |_,_=>λ_=>fD
def Af:O2:=bf c F (xD c F) Fc.1 [x0,x1,x2] s
def UF:=(by dsimp only[Af,Fc, ↓xD,go_sem,Int.reduceOfNat]:Af c F x0 x1 x2 s=_)
def Nz:Sh:=(sq sl sl)
def NA:PX 107 Nz:=⟨_,by conv=>lhs;reduce⟩
def Iv:O2:=bf c F aZ NA.1 [x0,x1,x2] s
def ace:=(by dsimp only[Iv,NA,go_sem,Int.reduceOfNat]:Iv c F x0 x1 x2 s=_)
def Mt:Sh:=(sq sl (sq sl (sq sl sl)))
def Mu:PX 161 Mt:=⟨_,by conv=>lhs;reduce⟩
def FY:O2:=bf c F aZ Mu.1 [x0,x1] s
def aaO:=(by dsimp only[FY,Mu,go_sem,Int.reduceOfNat]:FY c F x0 x1 s=_)
def NB:Sh:=(sq sl (sq sl (sq sl sl)))
def NC:PX 162 NB:=⟨_,by conv=>lhs;reduce⟩
def Iw:O2:=bf c F aZ NC.1 [x0,x1,x2] s
def ab7:=(by dsimp only[Iw,NC,go_sem,Int.reduceOfNat]:Iw c F x0 x1 x2 s=_)
def Ag:Sh:=(sq sl (sq (sq sl (sb (sp 0 [0,3,20,21,22] [(1,[8]),(2,[])] (sq sl (sq (sc sl sl) (sq (sb (sq sl (sq sl (sc (sq sl sl) sl)))) sl)))))) (sq sl sl)))
def JJ:PX 163 Ag:=⟨_,by conv=>lhs;reduce⟩
def HG:PL 163 Ag 0:=⟨_,by conv=>lhs;reduce⟩
def oM(k1 k2:Q2):Nat->Q2
 |0,_,_=>none
 |n+1,vs,s=>dZ c F aZ (oM k1 k2 n) [k1,k2] HG.1 vs s
def pZ(k1 k2:Q2)(n:Nat)(vs:List AV)(s:St):=(by dsimp only[oM,HG,go_sem,Int.reduceOfNat]:oM c F k1 k2 (n+1) vs s=_)
def Ah:Un->List Q2->Nat->Q2
 |.z,[k1,k2]=>oM c F k1 k2
 |_,_=>λ_=>fD
def Es:O2:=bf c F (Ah c F) JJ.1 [x0,x1,x2,x3] s
def YH:=(by dsimp only[Es,JJ, ↓Ah,go_sem,Int.reduceOfNat]:Es c F x0 x1 x2 x3 s=_)
def ug:Sh:=(sq sl (sq sl (sb (sp 0 [0,2,3,5,15,16,17] [(2,[])] (sq sl (sq (sc sl sl) (sj [0,2,3,5,15,16,17] (sb (sq sl (sq (sq sl (sc sl sl)) (sq sl (sb (sp 1 [0,2,3,5,8,9,10,15,16,17] [(4,[0,2,3,5,15,16,17])] (sq (sq sl (sc sl sl)) (sj [0,2,3,5,8,9,10,15,16,17] (sb (sq sl (sq sl (sc sl sl)))) sl)))))))) sl)))))))
def JK:PX 164 ug:=⟨_,by conv=>lhs;reduce⟩
def HJ:PL 164 ug 1:=⟨_,by conv=>lhs;reduce⟩
def ij(k4:Q2):Nat->Q2
 |0,_,_=>none
 |n+1,vs,s=>dZ c F aZ (ij k4 n) [k4] HJ.1 vs s
def mL(k4:Q2)(n:Nat)(vs:List AV)(s:St):=(by dsimp only[ij,HJ,go_sem,Int.reduceOfNat]:ij c F k4 (n+1) vs s=_)
def HN:Un->List Q2->Nat->Q2
 |(.s .z),[k4]=>ij c F k4
 |_,_=>λ_=>fD
def HO:PL 164 ug 0:=⟨_,by conv=>lhs;reduce⟩
def jy(k2:Q2):Nat->Q2
 |0,_,_=>none
 |n+1,vs,s=>dZ c F (HN c F) (jy k2 n) [k2] HO.1 vs s
def p7(k2:Q2)(n:Nat)(vs:List AV)(s:St):=(by dsimp only[jy,HO, ↓HN,go_sem,Int.reduceOfNat]:jy c F k2 (n+1) vs s=_)
def Aj:Un->List Q2->Nat->Q2
 |.z,[k2]=>jy c F k2
 |(.s .z),[k4]=>ij c F k4
 |_,_=>λ_=>fD
def Eu:O2:=bf c F (Aj c F) JK.1 [x0,x1,x2,x3] s
def YM:=(by dsimp only[Eu,JK, ↓Aj,go_sem,Int.reduceOfNat]:Eu c F x0 x1 x2 x3 s=_)
def zL:Sh:=(sq sl (sq sl sl))
def zM:PX 165 zL:=⟨_,by conv=>lhs;reduce⟩
def uU:O2:=bf c F aZ zM.1 [x0,x1,x2] s
def Mx:=(by dsimp only[uU,zM,go_sem,Int.reduceOfNat]:uU c F x0 x1 x2 s=_)
def wj:Sh:=(sq sl (sq sl (sb (sp 0 [0,2,4,18,19,20] [(2,[])] (sq sl (sq (sc sl sl) (sj [0,2,4,18,19,20] (sb (sq sl (sq (sq sl (sc sl sl)) (sq sl (sq (sq sl (sb (sp 1 [0,2,4,6,8,18,19,20,38,39,40] [(4,[0,2,4,8,18,19,20])] (sq sl (sq (sc sl sl) (sj [0,2,4,6,8,18,19,20,38,39,40] (sb (sq sl (sq sl (sc sl sl)))) sl)))))) sl))))) sl)))))))
def Mw:PX 166 wj:=⟨_,by conv=>lhs;reduce⟩
def JL:PL 166 wj 1:=⟨_,by conv=>lhs;reduce⟩
def mY(k4:Q2):Nat->Q2
 |0,_,_=>none
 |n+1,vs,s=>dZ c F aZ (mY k4 n) [k4] JL.1 vs s
def qV(k4:Q2)(n:Nat)(vs:List AV)(s:St):=(by dsimp only[mY,JL,go_sem,Int.reduceOfNat]:mY c F k4 (n+1) vs s=_)
def JM:Un->List Q2->Nat->Q2
 |(.s .z),[k4]=>mY c F k4
 |_,_=>λ_=>fD
def JN:PL 166 wj 0:=⟨_,by conv=>lhs;reduce⟩
def gO(k2:Q2):Nat->Q2
 |0,_,_=>none
 |n+1,vs,s=>dZ c F (JM c F) (gO k2 n) [k2] JN.1 vs s
def wY(k2:Q2)(n:Nat)(vs:List AV)(s:St):=(by dsimp only[gO,JN, ↓JM,go_sem,Int.reduceOfNat]:gO c F k2 (n+1) vs s=_)
def BF:Un->List Q2->Nat->Q2
 |.z,[k2]=>gO c F k2
 |(.s .z),[k4]=>mY c F k4
 |_,_=>λ_=>fD
def FZ:O2:=bf c F (BF c F) Mw.1 [x0,x1,x2] s
def aaU:=(by dsimp only[FZ,Mw, ↓BF,go_sem,Int.reduceOfNat]:FZ c F x0 x1 x2 s=_)
def yX:Sh:=(sq (sq sl (sb (sp 0 [0,1,2,6,7,8] [(1,[]),(2,[0,2])] (sq sl (sq (sc sl sl) (sq (sb (sq sl (sq sl (sc sl sl)))) sl)))))) (sq sl (sc sl sl)))
def HP:PX 167 yX:=⟨_,by conv=>lhs;reduce⟩
def Fe:PL 167 yX 0:=⟨_,by conv=>lhs;reduce⟩
def nO(k1 k2:Q2):Nat->Q2
 |0,_,_=>none
 |n+1,vs,s=>dZ c F aZ (nO k1 k2 n) [k1,k2] Fe.1 vs s
def uz(k1 k2:Q2)(n:Nat)(vs:List AV)(s:St):=(by dsimp only[nO,Fe,go_sem,Int.reduceOfNat]:nO c F k1 k2 (n+1) vs s=_)
def yY:Un->List Q2->Nat->Q2
 |.z,[k1,k2]=>nO c F k1 k2
 |_,_=>λ_=>fD
def BG:O2:=bf c F (yY c F) HP.1 [x0,x1,x2] s
def yE:=(by dsimp only[BG,HP, ↓yY,go_sem,Int.reduceOfNat]:BG c F x0 x1 x2 s=_)
def JO:Sh:=(sq sl (sq sl sl))
def JP:PX 168 JO:=⟨_,by conv=>lhs;reduce⟩
def Ew:O2:=bf c F aZ JP.1 [x0,x1,x2] s
def YI:=(by dsimp only[Ew,JP,go_sem,Int.reduceOfNat]:Ew c F x0 x1 x2 s=_)
def Ff:Sh:=(sq sl (sq sl sl))
def Fg:PX 169 Ff:=⟨_,by conv=>lhs;reduce⟩
def Ak:O2:=bf c F aZ Fg.1 [x0,x1,x2] s
def UB:=(by dsimp only[Ak,Fg,go_sem,Int.reduceOfNat]:Ak c F x0 x1 x2 s=_)
def HQ:Sh:=(sq sl (sq sl sl))
def HR:PX 170 HQ:=⟨_,by conv=>lhs;reduce⟩
def BH:O2:=bf c F aZ HR.1 [x0,x1,x2] s
def Wg:=(by dsimp only[BH,HR,go_sem,Int.reduceOfNat]:BH c F x0 x1 x2 s=_)
def Ex:Sh:=(sq sl (sj [0,1,2] (sq sl (sc sl sl)) (sq sl sl)))
def Ey:PX 171 Ex:=⟨_,by conv=>lhs;reduce⟩
def yZ:O2:=bf c F aZ Ey.1 [x0,x1,x2] s
def RZ:=(by dsimp only[yZ,Ey,go_sem,Int.reduceOfNat]:yZ c F x0 x1 x2 s=_)
def HS:Sh:=(sq sl (sc sl sl))
def HT:PX 172 HS:=⟨_,by conv=>lhs;reduce⟩
def BJ:O2:=bf c F aZ HT.1 [x0,x1,x2] s
def GG:=(by dsimp only[BJ,HT,go_sem,Int.reduceOfNat]:BJ c F x0 x1 x2 s=_)
def Fh:Sh:=(sq sl (sc sl sl))
def Fi:PX 173 Fh:=⟨_,by conv=>lhs;reduce⟩
def Al:O2:=bf c F aZ Fi.1 [x0,x1,x2] s
def EM:=(by dsimp only[Al,Fi,go_sem,Int.reduceOfNat]:Al c F x0 x1 x2 s=_)
def JQ:Sh:=(sq sl (sq sl sl))
def JR:PX 174 JQ:=⟨_,by conv=>lhs;reduce⟩
def Ez:O2:=bf c F aZ JR.1 [x0,x1,x2] s
def YN:=(by dsimp only[Ez,JR,go_sem,Int.reduceOfNat]:Ez c F x0 x1 x2 s=_)
end
section
variable{c:aj}(hc:bH c)(F:Nat){x0 x1 x2 x3 x4 x5 x6 x7 x8 x9 x10 x11:AV}{s:St}{r:AV×St}
include hc
theorem N9(h:sS c F x0 s=some r):c 9 [x0] s=some (tidy s r):=hc.o0 F DN (by kernel_rfl) (by kernel_rfl) h
theorem Mz(h:xq c F x0 x1 s=some r):c 10 [x0,x1] s=some (tidy s r):=hc.o1 F (uS c F) uR (by kernel_rfl) (by kernel_rfl) (λ_ _ _=>by kernel_rfl) (λ_ _ _ _=>by kernel_rfl) (by kernel_rfl) h
theorem PR(h:zW c F x0 x1 x2 s=some r):c 12 [x0,x1,x2] s=some (tidy s r):=hc.o0 F EW (by kernel_rfl) (by kernel_rfl) h
theorem Qy(h:nh c F x0 s=some r):c 15 [x0] s=some (tidy s r):=hc.oL F (xw c F) nY 3 (by kernel_rfl) (λi hi=>match i,hi with|0,_=>cH 0 (by kernel_rfl) (λ_ _ _=>by kernel_rfl) (λ_ _ _ _=>by kernel_rfl)|1,_=>cH 1 (by kernel_rfl) (λ_ _ _=>by kernel_rfl) (λ_ _ _ _=>by kernel_rfl)|2,_=>cH 2 (by kernel_rfl) (λ_ _ _=>by kernel_rfl) (λ_ _ _ _=>by kernel_rfl)|n+3,h=>absurd h (by omega)) (by kernel_rfl) h
theorem UK(h:DV c F x0 x1 s=some r):c 24 [x0,x1] s=some (tidy s r):=hc.o0 F Jv (by kernel_rfl) (by kernel_rfl) h
theorem Lh(h:vS c F x0 s=some r):c 35 [x0] s=some (tidy s r):=hc.o1 F (tP c F) tO (by kernel_rfl) (by kernel_rfl) (λ_ _ _=>by kernel_rfl) (λ_ _ _ _=>by kernel_rfl) (by kernel_rfl) h
theorem Au(h:yR c F x0 x1 s=some r):c 36 [x0,x1] s=some (tidy s r):=hc.o1 F (vW c F) vU (by kernel_rfl) (by kernel_rfl) (λ_ _ _=>by kernel_rfl) (λ_ _ _ _=>by kernel_rfl) (by kernel_rfl) h
theorem wZ(h:DX c F x0 x1 s=some r):c 37 [x0,x1] s=some (tidy s r):=hc.o1 F (zY c F) zX (by kernel_rfl) (by kernel_rfl) (λ_ _ _=>by kernel_rfl) (λ_ _ _ _=>by kernel_rfl) (by kernel_rfl) h
theorem Se(h:BA c F x0 x1 s=some r):c 41 [x0,x1] s=some (tidy s r):=hc.o0 F Ht (by kernel_rfl) (by kernel_rfl) h
theorem Oe(h:yS c F x0 x1 s=some r):c 45 [x0,x1] s=some (tidy s r):=hc.o1 F (vY c F) vX (by kernel_rfl) (by kernel_rfl) (λ_ _ _=>by kernel_rfl) (λ_ _ _ _=>by kernel_rfl) (by kernel_rfl) h
theorem Qu(h:zZ c F x0 s=some r):c 46 [x0] s=some (tidy s r):=hc.o0 F E0 (by kernel_rfl) (by kernel_rfl) h
theorem Qx(h:z8 c F x0 x1 s=some r):c 47 [x0,x1] s=some (tidy s r):=hc.oL F (xx c F) kz 4 (by kernel_rfl) (λi hi=>match i,hi with|0,_=>cH 0 (by kernel_rfl) (λ_ _ _=>by kernel_rfl) (λ_ _ _ _=>by kernel_rfl)|1,_=>cH 1 (by kernel_rfl) (λ_ _ _=>by kernel_rfl) (λ_ _ _ _=>by kernel_rfl)|2,_=>cH 2 (by kernel_rfl) (λ_ _ _=>by kernel_rfl) (λ_ _ _ _=>by kernel_rfl)|3,_=>cH 3 (by kernel_rfl) (λ_ _ _=>by kernel_rfl) (λ_ _ _ _=>by kernel_rfl)|n+4,h=>absurd h (by omega)) (by kernel_rfl) h
theorem Og(h:lY c F x0 x1 s=some r):c 48 [x0,x1] s=some (tidy s r):=hc.o0 F D8 (by kernel_rfl) (by kernel_rfl) h
theorem Sc(h:DB c F x0 s=some r):c 78 [x0] s=some (tidy s r):=hc.o0 F I6 (by kernel_rfl) (by kernel_rfl) h
theorem xQ(h:uT c F x0 x1 s=some r):c 79 [x0,x1] s=some (tidy s r):=hc.o1 F (rV c F) rU (by kernel_rfl) (by kernel_rfl) (λ_ _ _=>by kernel_rfl) (λ_ _ _ _=>by kernel_rfl) (by kernel_rfl) h
theorem N4(h:yU c F x0 x1 x2 s=some r):c 82 [x0,x1,x2] s=some (tidy s r):=hc.o0 F Ec (by kernel_rfl) (by kernel_rfl) h
theorem Qr(h:Aa c F x0 s=some r):c 85 [x0] s=some (tidy s r):=hc.o0 F E9 (by kernel_rfl) (by kernel_rfl) h
theorem MC(h:xz c F x0 s=some r):c 86 [x0] s=some (tidy s r):=hc.o0 F Ci (by kernel_rfl) (by kernel_rfl) h
theorem Of(h:yV c F x0 x1 s=some r):c 87 [x0,x1] s=some (tidy s r):=hc.o1 F (v7 c F) vZ (by kernel_rfl) (by kernel_rfl) (λ_ _ _=>by kernel_rfl) (λ_ _ _ _=>by kernel_rfl) (by kernel_rfl) h
theorem Uy(h:Ef c F x0 x1 x2 s=some r):c 90 [x0,x1,x2] s=some (tidy s r):=hc.o0 F Jz (by kernel_rfl) (by kernel_rfl) h
theorem K7(h:v8 c F x0 x1 x2 s=some r):c 91 [x0,x1,x2] s=some (tidy s r):=hc.o0 F AU (by kernel_rfl) (by kernel_rfl) h
theorem K8(h:we c F x0 x1 x2 s=some r):c 92 [x0,x1,x2] s=some (tidy s r):=hc.o0 F AX (by kernel_rfl) (by kernel_rfl) h
theorem RW(h:BB c F x0 x1 x2 s=some r):c 93 [x0,x1,x2] s=some (tidy s r):=hc.o0 F Hv (by kernel_rfl) (by kernel_rfl) h
theorem NX(h:yW c F x0 x1 x2 s=some r):c 94 [x0,x1,x2] s=some (tidy s r):=hc.o0 F Eg (by kernel_rfl) (by kernel_rfl) h
theorem aaP(h:Mn c F x0 x1 x2 s=some r):c 95 [x0,x1,x2] s=some (tidy s r):=hc.o0 F QJ (by kernel_rfl) (by kernel_rfl) h
theorem Wl(h:FV c F x0 x1 x2 s=some r):c 96 [x0,x1,x2] s=some (tidy s r):=hc.o1 F (BD c F) BC (by kernel_rfl) (by kernel_rfl) (λ_ _ _=>by kernel_rfl) (λ_ _ _ _=>by kernel_rfl) (by kernel_rfl) h
theorem My(h:xA c F x0 x1 x2 s=some r):c 97 [x0,x1,x2] s=some (tidy s r):=hc.o0 F Cl (by kernel_rfl) (by kernel_rfl) h
theorem Wr(h:FW c F x0 x1 x2 s=some r):c 98 [x0,x1,x2] s=some (tidy s r):=hc.o0 F Mp (by kernel_rfl) (by kernel_rfl) h
theorem UE(h:Ei c F x0 x1 x2 s=some r):c 99 [x0,x1,x2] s=some (tidy s r):=hc.o1 F (Ac c F) Ab (by kernel_rfl) (by kernel_rfl) (λ_ _ _=>by kernel_rfl) (λ_ _ _ _=>by kernel_rfl) (by kernel_rfl) h
theorem UG(h:Ej c F x0 x1 x2 s=some r):c 100 [x0,x1,x2] s=some (tidy s r):=hc.oL F (Ad c F) pU 3 (by kernel_rfl) (λi hi=>match i,hi with|0,_=>cH 0 (by kernel_rfl) (λ_ _ _=>by kernel_rfl) (λ_ _ _ _=>by kernel_rfl)|1,_=>cH 1 (by kernel_rfl) (λ_ _ _=>by kernel_rfl) (λ_ _ _ _=>by kernel_rfl)|2,_=>cH 2 (by kernel_rfl) (λ_ _ _=>by kernel_rfl) (λ_ _ _ _=>by kernel_rfl)|n+3,h=>absurd h (by omega)) (by kernel_rfl) h
theorem UC(h:Ek c F x0 x1 x2 s=some r):c 101 [x0,x1,x2] s=some (tidy s r):=hc.o0 F JF (by kernel_rfl) (by kernel_rfl) h
theorem PG(h:Ae c F x0 x1 x2 s=some r):c 102 [x0,x1,x2] s=some (tidy s r):=hc.oL F (xB c F) qY 2 (by kernel_rfl) (λi hi=>match i,hi with|0,_=>cH 0 (by kernel_rfl) (λ_ _ _=>by kernel_rfl) (λ_ _ _ _=>by kernel_rfl)|1,_=>cH 1 (by kernel_rfl) (λ_ _ _=>by kernel_rfl) (λ_ _ _ _=>by kernel_rfl)|n+2,h=>absurd h (by omega)) (by kernel_rfl) h
theorem R4(h:BE c F x0 x1 x2 s=some r):c 103 [x0,x1,x2] s=some (tidy s r):=hc.o0 F HE (by kernel_rfl) (by kernel_rfl) h
theorem Ws(h:FX c F x0 x1 x2 s=some r):c 104 [x0,x1,x2] s=some (tidy s r):=hc.o0 F Mr (by kernel_rfl) (by kernel_rfl) h
theorem UH(h:Ep c F x0 x1 x2 s=some r):c 105 [x0,x1,x2] s=some (tidy s r):=hc.o0 F JH (by kernel_rfl) (by kernel_rfl) h
theorem PI(h:Af c F x0 x1 x2 s=some r):c 106 [x0,x1,x2] s=some (tidy s r):=hc.o1 F (xD c F) xC (by kernel_rfl) (by kernel_rfl) (λ_ _ _=>by kernel_rfl) (λ_ _ _ _=>by kernel_rfl) (by kernel_rfl) h
theorem YO(h:Iv c F x0 x1 x2 s=some r):c 107 [x0,x1,x2] s=some (tidy s r):=hc.o0 F Nz (by kernel_rfl) (by kernel_rfl) h
theorem Wj(h:FY c F x0 x1 s=some r):c 161 [x0,x1] s=some (tidy s r):=hc.o0 F Mt (by kernel_rfl) (by kernel_rfl) h
theorem YJ(h:Iw c F x0 x1 x2 s=some r):c 162 [x0,x1,x2] s=some (tidy s r):=hc.o0 F NB (by kernel_rfl) (by kernel_rfl) h
theorem Uw(h:Es c F x0 x1 x2 x3 s=some r):c 163 [x0,x1,x2,x3] s=some (tidy s r):=hc.o1 F (Ah c F) Ag (by kernel_rfl) (by kernel_rfl) (λ_ _ _=>by kernel_rfl) (λ_ _ _ _=>by kernel_rfl) (by kernel_rfl) h
theorem Uz(h:Eu c F x0 x1 x2 x3 s=some r):c 164 [x0,x1,x2,x3] s=some (tidy s r):=hc.oL F (Aj c F) ug 2 (by kernel_rfl) (λi hi=>match i,hi with|0,_=>cH 0 (by kernel_rfl) (λ_ _ _=>by kernel_rfl) (λ_ _ _ _=>by kernel_rfl)|1,_=>cH 1 (by kernel_rfl) (λ_ _ _=>by kernel_rfl) (λ_ _ _ _=>by kernel_rfl)|n+2,h=>absurd h (by omega)) (by kernel_rfl) h
theorem J8(h:uU c F x0 x1 x2 s=some r):c 165 [x0,x1,x2] s=some (tidy s r):=hc.o0 F zL (by kernel_rfl) (by kernel_rfl) h
theorem Wq(h:FZ c F x0 x1 x2 s=some r):c 166 [x0,x1,x2] s=some (tidy s r):=hc.oL F (BF c F) wj 2 (by kernel_rfl) (λi hi=>match i,hi with|0,_=>cH 0 (by kernel_rfl) (λ_ _ _=>by kernel_rfl) (λ_ _ _ _=>by kernel_rfl)|1,_=>cH 1 (by kernel_rfl) (λ_ _ _=>by kernel_rfl) (λ_ _ _ _=>by kernel_rfl)|n+2,h=>absurd h (by omega)) (by kernel_rfl) h
theorem R9(h:BG c F x0 x1 x2 s=some r):c 167 [x0,x1,x2] s=some (tidy s r):=hc.o1 F (yY c F) yX (by kernel_rfl) (by kernel_rfl) (λ_ _ _=>by kernel_rfl) (λ_ _ _ _=>by kernel_rfl) (by kernel_rfl) h
theorem Ux(h:Ew c F x0 x1 x2 s=some r):c 168 [x0,x1,x2] s=some (tidy s r):=hc.o0 F JO (by kernel_rfl) (by kernel_rfl) h
theorem PC(h:Ak c F x0 x1 x2 s=some r):c 169 [x0,x1,x2] s=some (tidy s r):=hc.o0 F Ff (by kernel_rfl) (by kernel_rfl) h
theorem RU(h:BH c F x0 x1 x2 s=some r):c 170 [x0,x1,x2] s=some (tidy s r):=hc.o0 F HQ (by kernel_rfl) (by kernel_rfl) h
theorem NY(h:yZ c F x0 x1 x2 s=some r):c 171 [x0,x1,x2] s=some (tidy s r):=hc.o0 F Ex (by kernel_rfl) (by kernel_rfl) h
theorem R8(h:BJ c F x0 x1 x2 s=some r):c 172 [x0,x1,x2] s=some (tidy s r):=hc.o0 F HS (by kernel_rfl) (by kernel_rfl) h
theorem PM(h:Al c F x0 x1 x2 s=some r):c 173 [x0,x1,x2] s=some (tidy s r):=hc.o0 F Fh (by kernel_rfl) (by kernel_rfl) h
theorem UA(h:Ez c F x0 x1 x2 s=some r):c 174 [x0,x1,x2] s=some (tidy s r):=hc.o0 F JQ (by kernel_rfl) (by kernel_rfl) h
end
end
end Go.Proofs.YtgihekklfnjkiaaGreatDoor
section
end
namespace Go.Proofs.YtgihekklfnjkiaaGreatDoor
noncomputable section
open Go Go.Ai Go.Proofs
attribute [local go_sem ↓] bf Gd ev evX Gu getLT Gc aaI kat CX CY VV VW VX VY Ph Pj Pk Pm Pn Po VZ V8 Pp Pq Pr Pt Pu ab1 ab2 ab3
attribute [local go_sem] bf Gd ev
section
variable(c:aj)(F:Nat)(x0 x1 x2 x3 x4 x5 x6 x7 x8 x9 x10 x11:AV)(s:St)
def ND:Sh:=(sq sl (sq (sc (sq sl (sq sl sl)) sl) (sq sl (sq sl sl))))
def NF:PX 140 ND:=⟨_,by conv=>lhs;reduce⟩
def Iy:O2:=bf c F aZ NF.1 [x0,x1] s
def acf:=(by dsimp only[Iy,NF,go_sem,Int.reduceOfNat]:Iy c F x0 x1 s=_)
def JS:Sh:=(sq sl (sq sl (sq sl (sq sl (sq sl (sq sl (sq sl (sq sl (sq sl (sq sl (sq sl (sq sl sl))))))))))))
def JU:PX 191 JS:=⟨_,by conv=>lhs;reduce⟩
def EA:O2:=bf c F aZ JU.1 [x0,x1] s
def YT:=(by dsimp only[EA,JU,go_sem,Int.reduceOfNat]:EA c F x0 x1 s=_)
end
section
variable{c:aj}(hc:bH c)(F:Nat){x0 x1 x2 x3 x4 x5 x6 x7 x8 x9 x10 x11:AV}{s:St}{r:AV×St}
include hc
theorem YU(h:Iy c F x0 x1 s=some r):c 140 [x0,x1] s=some (tidy s r):=hc.o0 F ND (by kernel_rfl) (by kernel_rfl) h
theorem UI(h:EA c F x0 x1 s=some r):c 191 [x0,x1] s=some (tidy s r):=hc.o0 F JS (by kernel_rfl) (by kernel_rfl) h
end
attribute [local go_sem ↓] bf Gd ev evX Gu getLT Gc aaI kat CX CY VV VW VX VY Ph Pj Pk Pm Pn Po VZ V8 Pp Pq Pr Pt Pu ab1 ab2 ab3
attribute [local go_sem] bf Gd ev
section
variable(c:aj)(F:Nat)(x0 x1 x2 x3 x4 x5 x6 x7 x8 x9 x10 x11:AV)(s:St)
def mh:Sh:=(sq sl (sq sl (sq (sq sl (sc (sq sl sl) sl)) (sq sl (sq (sq sl (sb (sp 0 [5,6,8,9] [(1,[4]),(2,[])] (sq (sq sl (sc sl sl)) (sj [5,6,8,9] (sb (sq (sq sl (sc sl sl)) (sq sl (sq (sq sl (sc (sq sl sl) sl)) (sq sl (sq (sq sl (sb (sp 1 [5,6,8,9,10,11,12] [(4,[5,6,8,9,11])] (sq (sq sl (sc sl sl)) (sq (sb sl) sl))))) (sq sl (sc (sq sl sl) sl)))))))) sl))))) (sq sl sl))))))
def yc:PX 3 mh:=⟨_,by conv=>lhs;reduce⟩
def wH:PL 3 mh 1:=⟨_,by conv=>lhs;reduce⟩
def fO(k4:Q2):Nat->Q2
 |0,_,_=>none
 |n+1,vs,s=>dZ c F aZ (fO k4 n) [k4] wH.1 vs s
def uC(k4:Q2)(n:Nat)(vs:List AV)(s:St):=(by dsimp only[fO,wH,go_sem,Int.reduceOfNat,Int.reduceNegSucc]:fO c F k4 (n+1) vs s=_)
def wJ:Un->List Q2->Nat->Q2
 |(.s .z),[k4]=>fO c F k4
 |_,_=>λ_=>fD
def wK:PL 3 mh 0:=⟨_,by conv=>lhs;reduce⟩
def iH(k1 k2:Q2):Nat->Q2
 |0,_,_=>none
 |n+1,vs,s=>dZ c F (wJ c F) (iH k1 k2 n) [k1,k2] wK.1 vs s
def oo(k1 k2:Q2)(n:Nat)(vs:List AV)(s:St):=(by dsimp only[iH,wK, ↓wJ,go_sem,Int.reduceOfNat,Int.reduceNegSucc]:iH c F k1 k2 (n+1) vs s=_)
def qd:Un->List Q2->Nat->Q2
 |.z,[k1,k2]=>iH c F k1 k2
 |(.s .z),[k4]=>fO c F k4
 |_,_=>λ_=>fD
def rW:O2:=bf c F (qd c F) yc.1 [x0,x1] s
def Kb:=(by dsimp only[rW,yc, ↓qd,go_sem,Int.reduceOfNat,Int.reduceNegSucc]:rW c F x0 x1 s=_)
def HU:Sh:=(sq sl (sq sl (sq (sq sl (sc (sq sl sl) sl)) (sq sl (sq sl (sq sl (sq sl sl)))))))
def HV:PX 11 HU:=⟨_,by conv=>lhs;reduce⟩
def BK:O2:=bf c F aZ HV.1 [x0,x1,x2] s
def WG:=(by dsimp only[BK,HV,go_sem,Int.reduceOfNat]:BK c F x0 x1 x2 s=_)
def EB:Sh:=sl
def EC:PX 38 EB:=⟨_,by conv=>lhs;reduce⟩
def zc:O2:=bf c F aZ EC.1 [x0,x1,x2] s
def Sn:=(by dsimp only[zc,EC,go_sem,Int.reduceOfNat]:zc c F x0 x1 x2 s=_)
end
section
variable{c:aj}(hc:bH c)(F:Nat){x0 x1 x2 x3 x4 x5 x6 x7 x8 x9 x10 x11:AV}{s:St}{r:AV×St}
include hc
theorem GJ(h:rW c F x0 x1 s=some r):c 3 [x0,x1] s=some (tidy s r):=hc.oL F (qd c F) mh 2 (by kernel_rfl) (λi hi=>match i,hi with|0,_=>cH 0 (by kernel_rfl) (λ_ _ _=>by kernel_rfl) (λ_ _ _ _=>by kernel_rfl)|1,_=>cH 1 (by kernel_rfl) (λ_ _ _=>by kernel_rfl) (λ_ _ _ _=>by kernel_rfl)|n+2,h=>absurd h (by omega)) (by kernel_rfl) h
theorem Sr(h:BK c F x0 x1 x2 s=some r):c 11 [x0,x1,x2] s=some (tidy s r):=hc.o0 F HU (by kernel_rfl) (by kernel_rfl) h
theorem Lp(h:xk c F x0 s=some r):c 13 [x0] s=some (tidy s r):=hc.o1 F (uP c F) uO (by kernel_rfl) (by kernel_rfl) (λ_ _ _=>by kernel_rfl) (λ_ _ _ _=>by kernel_rfl) (by kernel_rfl) h
theorem Oa(h:zc c F x0 x1 x2 s=some r):c 38 [x0,x1,x2] s=some (tidy s r):=hc.o0 F EB (by kernel_rfl) (by kernel_rfl) h
end
end
end Go.Proofs.YtgihekklfnjkiaaGreatDoor
