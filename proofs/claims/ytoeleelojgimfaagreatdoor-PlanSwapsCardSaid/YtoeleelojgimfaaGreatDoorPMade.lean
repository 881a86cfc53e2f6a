/- A valid problem out of numbers. -/
import Derived.Test.YtoeleelojgimfaaGreatDoorPLawsB
set_option linter.all false
set_option maxRecDepth 100000
set_option maxHeartbeats 4000000
namespace Go.Proofs.YtoeleelojgimfaaGreatDoor
noncomputable section
open Go Go.Ai Go.Proofs
attribute [local go_sem ↓] b6 HX ev evX zN getLT Bd QW Tu yR yS Mo QX QY QZ Mp Mr Ms Mt Mu Mw Q0 Q1 Mx My Mz MA MB UQ UR US
attribute [local go_sem] b6 HX ev
section
variable(c:ai)(F:Nat)(x0 x1 x2 x3 x4 x5 x6 x7 x8 x9 XB XC:AV)(s:St)
def jw:Sh:=(sq sl (sq sl (sq sl (sq (sq sl (sb (sp 0 [1,2,3,4,5] [(2,[1,2,3,4])] (sq (sq sl (sc sl sl)) (sq (sb (sq sl (sq sl (sq sl sl)))) sl))))) (sq sl (sq sl (sj [1,2,3] (sq sl (sc (sq sl (sb (sp 1 [1,2,3,9] [(4,[1,2,3])] (sq (sq sl (sc sl sl)) (sq (sb (sq sl sl)) sl))))) sl)) (sq (sq sl (sb (sp 2 [1,2,3,11] [(6,[2,3])] (sq (sq sl (sc sl sl)) (sj [1,2,3,11] (sb (sq sl (sq sl (sc (sq sl sl) sl)))) sl))))) (sq sl sl)))))))))
def vI:PX 6 jw:=⟨_,by conv=>lhs;reduce⟩
def uP:PL 6 jw 2:=⟨_,by conv=>lhs;reduce⟩
def fT(k6:Q2):Nat->Q2
 |0,_,_=>none
 |n+1,vs,s=>j8 c F cg (fT k6 n) [k6] uP.1 vs s
def mG(k6:Q2)(n:Nat)(vs:List AV)(s:St):=(by dsimp only[fT,uP,go_sem,Int.reduceOfNat]:fT c F k6 (n+1) vs s=_)
def uQ:PL 6 jw 1:=⟨_,by conv=>lhs;reduce⟩
def fU(k4:Q2):Nat->Q2
 |0,_,_=>none
 |n+1,vs,s=>j8 c F cg (fU k4 n) [k4] uQ.1 vs s
def rU(k4:Q2)(n:Nat)(vs:List AV)(s:St):=(by dsimp only[fU,uQ,go_sem,Int.reduceOfNat]:fU c F k4 (n+1) vs s=_)
def uR:PL 6 jw 0:=⟨_,by conv=>lhs;reduce⟩
def dV(k2:Q2):Nat->Q2
 |0,_,_=>none
 |n+1,vs,s=>j8 c F cg (dV k2 n) [k2] uR.1 vs s
def rV(k2:Q2)(n:Nat)(vs:List AV)(s:St):=(by dsimp only[dV,uR,go_sem,Int.reduceOfNat]:dV c F k2 (n+1) vs s=_)
def o9:Un->List Q2->Nat->Q2
 |.z,[k2]=>dV c F k2
 |(.s .z),[k4]=>fU c F k4
 |(.s (.s .z)),[k6]=>fT c F k6
 |_,_=>λ_=>lW
def iR:O2:=b6 c F (o9 c F) vI.1 [x0] s
def Fv:=(by dsimp only[iR,vI, ↓o9,go_sem,Int.reduceOfNat]:iR c F x0 s=_)
def nh:Sh:=(sq sl (sq sl (sq sl (sq sl (sq (sq sl (sb (sp 0 [1,2,5,6,7,8] [(2,[7])] (sq (sq sl (sc sl sl)) (sj [1,2,5,6,7,8] (sb (sq sl (sj [1,2,5,6,7,8,9] (sq sl (sc sl sl)) (sq sl (sc sl sl))))) sl))))) (sq sl sl))))))
def tS:PX 7 nh:=⟨_,by conv=>lhs;reduce⟩
def rW:PL 7 nh 0:=⟨_,by conv=>lhs;reduce⟩
def dh(k2:Q2):Nat->Q2
 |0,_,_=>none
 |n+1,vs,s=>j8 c F cg (dh k2 n) [k2] rW.1 vs s
def iL(k2:Q2)(n:Nat)(vs:List AV)(s:St):=(by dsimp only[dh,rW,go_sem,Int.reduceOfNat,Int.reduceNegSucc]:dh c F k2 (n+1) vs s=_)
def ni:Un->List Q2->Nat->Q2
 |.z,[k2]=>dh c F k2
 |_,_=>λ_=>lW
def pz:O2:=b6 c F (ni c F) tS.1 [x0,x1] s
def CA:=(by dsimp only[pz,tS, ↓ni,go_sem,Int.reduceOfNat,Int.reduceNegSucc]:pz c F x0 x1 s=_)
def rX:Sh:=(sq sl (sq (sq sl (sc (sq sl sl) sl)) (sq sl sl)))
def rY:PX 8 rX:=⟨_,by conv=>lhs;reduce⟩
def oe:O2:=b6 c F cg rY.1 [x0] s
def rL:=(by dsimp only[oe,rY,go_sem,Int.reduceOfNat]:oe c F x0 s=_)
def mH:Sh:=(sq sl (sq (sq sl (sc (sq sl sl) sl)) (sq (sq sl (sb (sp 0 [0,1,12,13] [(1,[4]),(2,[])] (sq sl (sq (sc sl sl) (sq (sb (sq sl (sq sl (sc (sq sl sl) sl)))) sl)))))) (sq sl sl))))
def rZ:PX 12 mH:=⟨_,by conv=>lhs;reduce⟩
def qW:PL 12 mH 0:=⟨_,by conv=>lhs;reduce⟩
def gj(k1 k2:Q2):Nat->Q2
 |0,_,_=>none
 |n+1,vs,s=>j8 c F cg (gj k1 k2 n) [k1,k2] qW.1 vs s
def kg(k1 k2:Q2)(n:Nat)(vs:List AV)(s:St):=(by dsimp only[gj,qW,go_sem,Int.reduceOfNat]:gj c F k1 k2 (n+1) vs s=_)
def mI:Un->List Q2->Nat->Q2
 |.z,[k1,k2]=>gj c F k1 k2
 |_,_=>λ_=>lW
def oh:O2:=b6 c F (mI c F) rZ.1 [x0,x1] s
def BP:=(by dsimp only[oh,rZ, ↓mI,go_sem,Int.reduceOfNat]:oh c F x0 x1 s=_)
def zZ:Sh:=(sq sl (sq (sq sl (sc (sq sl sl) sl)) (sq sl (sq (sq sl (sb (sp 0 [0,1,5,13,14] [(2,[5])] (sq sl (sq (sc sl sl) (sj [0,1,5,13,14] (sb (sq sl (sq sl (sc sl sl)))) sl)))))) (sq sl sl)))))
def GP:PX 14 zZ:=⟨_,by conv=>lhs;reduce⟩
def EZ:PL 14 zZ 0:=⟨_,by conv=>lhs;reduce⟩
def oJ(k2:Q2):Nat->Q2
 |0,_,_=>none
 |n+1,vs,s=>j8 c F cg (oJ k2 n) [k2] EZ.1 vs s
def uF(k2:Q2)(n:Nat)(vs:List AV)(s:St):=(by dsimp only[oJ,EZ,go_sem,Int.reduceOfNat]:oJ c F k2 (n+1) vs s=_)
def z6:Un->List Q2->Nat->Q2
 |.z,[k2]=>oJ c F k2
 |_,_=>λ_=>lW
def Eh:O2:=b6 c F (z6 c F) GP.1 [x0,x1] s
def Rh:=(by dsimp only[Eh,GP, ↓z6,go_sem,Int.reduceOfNat]:Eh c F x0 x1 s=_)
def IZ:Sh:=(sq sl (sq (sq sl (sq sl (sc (sq sl sl) sl))) (sq (sq sl (sc (sq sl sl) sl)) (sq sl (sq sl (sq sl sl))))))
def I0:PX 16 IZ:=⟨_,by conv=>lhs;reduce⟩
def GQ:O2:=b6 c F cg I0.1 [x0,x1,x2,x3] s
def IV:=(by dsimp only[GQ,I0,go_sem,Int.reduceOfNat]:GQ c F x0 x1 x2 x3 s=_)
def BS:Sh:=(sq sl (sq (sq sl (sc (sq sl sl) sl)) (sq sl (sq sl (sq (sq sl (sb (sp 0 [5,6,16,17] [(2,[6])] (sq sl (sq (sc sl sl) (sj [5,6,16,17] (sb (sq sl (sq sl (sc sl sl)))) sl)))))) (sq sl sl))))))
def I1:PX 17 BS:=⟨_,by conv=>lhs;reduce⟩
def GU:PL 17 BS 0:=⟨_,by conv=>lhs;reduce⟩
def qd(k2:Q2):Nat->Q2
 |0,_,_=>none
 |n+1,vs,s=>j8 c F cg (qd k2 n) [k2] GU.1 vs s
def wz(k2:Q2)(n:Nat)(vs:List AV)(s:St):=(by dsimp only[qd,GU,go_sem,Int.reduceOfNat]:qd c F k2 (n+1) vs s=_)
def BT:Un->List Q2->Nat->Q2
 |.z,[k2]=>qd c F k2
 |_,_=>λ_=>lW
def GV:O2:=b6 c F (BT c F) I1.1 [x0,x1] s
def Ss:=(by dsimp only[GV,I1, ↓BT,go_sem,Int.reduceOfNat]:GV c F x0 x1 s=_)
def om:Sh:=(sq sl (sq sl (sq sl (sj [1,4,5] (sq sl (sb (sq sl (sc sl (sq sl (sc sl (sq sl (sc sl (sq sl (sc (sq sl sl) sl)))))))))) (sq (sq sl (sb (sp 0 [1,4,5,7] [(3,[4,5])] (sq (sq sl (sc sl sl)) (sj [1,4,5,7] (sb (sq sl (sc (sq sl sl) sl))) sl))))) (sq sl sl))))))
def uS:PX 21 om:=⟨_,by conv=>lhs;reduce⟩
def tT:PL 21 om 0:=⟨_,by conv=>lhs;reduce⟩
def fJ(k3:Q2):Nat->Q2
 |0,_,_=>none
 |n+1,vs,s=>j8 c F cg (fJ k3 n) [k3] tT.1 vs s
def jg(k3:Q2)(n:Nat)(vs:List AV)(s:St):=(by dsimp only[fJ,tT,go_sem,Int.reduceOfNat]:fJ c F k3 (n+1) vs s=_)
def oo:Un->List Q2->Nat->Q2
 |.z,[k3]=>fJ c F k3
 |_,_=>λ_=>lW
def qq:O2:=b6 c F (oo c F) uS.1 [x0,x1] s
def Ei:=(by dsimp only[qq,uS, ↓oo,go_sem,Int.reduceOfNat]:qq c F x0 x1 s=_)
def vJ:Sh:=(sq sl (sq (sq sl (sb (sq sl (sc (sq sl sl) (sq sl (sc (sq sl sl) sl)))))) (sq sl sl)))
def vK:PX 22 vJ:=⟨_,by conv=>lhs;reduce⟩
def ry:O2:=b6 c F cg vK.1 [x0] s
def Fw:=(by dsimp only[ry,vK,go_sem,Int.reduceOfNat]:ry c F x0 s=_)
def gG:Sh:=(sq sl (sq sl (sq (sq sl (sb (sp 0 [0,1,4,5,6] [(2,[1,4,5])] (sq (sq sl (sc sl sl)) (sj [0,1,4,5,6] (sb (sq sl (sq sl (sj [0,1,4,5,6,7,8] (sq sl (sc sl sl)) (sj [0,1,4,5,6,7,8] (sq sl (sc sl sl)) (sj [0,1,4,5,6,7,8] (sq sl (sc sl sl)) (sq (sq sl (sb (sp 1 [0,1,4,5,6,7,8,9] [(4,[0,1,4,5,6,8])] (sq (sq sl (sc sl sl)) (sj [0,1,4,5,6,7,8,9] (sb (sq sl (sc (sq sl sl) sl))) sl))))) (sq sl sl)))))))) sl))))) (sq sl (sq (sq sl (sb (sp 2 [1,4,5,12,13] [(6,[4,5])] (sq (sq sl (sc sl sl)) (sq (sb (sq sl (sb (sp 3 [1,4,5,12,13,14] [(8,[1,4,5,12,13])] (sq (sq sl (sc sl sl)) (sj [1,4,5,12,13,14] (sb (sq (sq sl (sc sl sl)) (sq (sq sl (sc sl sl)) (sj [1,4,5,12,13,14] (sq sl (sc (sq sl sl) sl)) sl)))) sl)))))) sl))))) (sq sl sl))))))
def vL:PX 23 gG:=⟨_,by conv=>lhs;reduce⟩
def uT:PL 23 gG 3:=⟨_,by conv=>lhs;reduce⟩
def fV(k8:Q2):Nat->Q2
 |0,_,_=>none
 |n+1,vs,s=>j8 c F cg (fV k8 n) [k8] uT.1 vs s
def fj(k8:Q2)(n:Nat)(vs:List AV)(s:St):=(by dsimp only[fV,uT,go_sem,Int.reduceOfNat]:fV c F k8 (n+1) vs s=_)
def uU:Un->List Q2->Nat->Q2
 |(.s (.s (.s .z))),[k8]=>fV c F k8
 |_,_=>λ_=>lW
def uV:PL 23 gG 2:=⟨_,by conv=>lhs;reduce⟩
def fW(k6:Q2):Nat->Q2
 |0,_,_=>none
 |n+1,vs,s=>j8 c F (uU c F) (fW k6 n) [k6] uV.1 vs s
def r9(k6:Q2)(n:Nat)(vs:List AV)(s:St):=(by dsimp only[fW,uV, ↓uU,go_sem,Int.reduceOfNat]:fW c F k6 (n+1) vs s=_)
def uW:PL 23 gG 1:=⟨_,by conv=>lhs;reduce⟩
def e8(k4:Q2):Nat->Q2
 |0,_,_=>none
 |n+1,vs,s=>j8 c F cg (e8 k4 n) [k4] uW.1 vs s
def mJ(k4:Q2)(n:Nat)(vs:List AV)(s:St):=(by dsimp only[e8,uW,go_sem,Int.reduceOfNat]:e8 c F k4 (n+1) vs s=_)
def uX:Un->List Q2->Nat->Q2
 |(.s .z),[k4]=>e8 c F k4
 |_,_=>λ_=>lW
def uY:PL 23 gG 0:=⟨_,by conv=>lhs;reduce⟩
def dW(k2:Q2):Nat->Q2
 |0,_,_=>none
 |n+1,vs,s=>j8 c F (uX c F) (dW k2 n) [k2] uY.1 vs s
def se(k2:Q2)(n:Nat)(vs:List AV)(s:St):=(by dsimp only[dW,uY, ↓uX,go_sem,Int.reduceOfNat]:dW c F k2 (n+1) vs s=_)
def pE:Un->List Q2->Nat->Q2
 |.z,[k2]=>dW c F k2
 |(.s .z),[k4]=>e8 c F k4
 |(.s (.s .z)),[k6]=>fW c F k6
 |(.s (.s (.s .z))),[k8]=>fV c F k8
 |_,_=>λ_=>lW
def rA:O2:=b6 c F (pE c F) vL.1 [x0,x1] s
def Fx:=(by dsimp only[rA,vL, ↓pE,go_sem,Int.reduceOfNat]:rA c F x0 x1 s=_)
def uZ:Sh:=(sq sl (sq sl (sq sl (sj [1,2,4,6] (sq sl (sc sl sl)) (sq sl (sq sl (sq (sq sl (sc (sq sl sl) sl)) (sq sl (sq sl (sj [1,2,4,6,11] (sq sl (sb (sj [1,2,4,6,9,10,11,12,58,59] (sq sl (sc sl (sq sl (sc sl (sq sl (sc sl (sq sl (sc sl sl)))))))) (sc (sq sl (sj [4,6,9,10] (sq sl (sc sl sl)) (sj [4,6,9,10] (sq sl (sc sl sl)) (sq sl sl)))) (sj [1,2,4,6,9,11,12,58,100] (sq sl (sc sl sl)) (sc (sq sl (sj [4,6] (sq sl (sc sl sl)) (sq sl sl))) (sq sl (sc (sj [4,6] (sq sl (sc sl sl)) (sq sl sl)) (sq sl (sc (sq sl (sq sl sl)) (sj [1,2,4,6,11,12,164] (sq sl (sc sl sl)) (sc sl sl)))))))))))) (sj [4,6] (sq sl (sc sl sl)) (sq sl sl))))))))))))
def u0:PX 24 uZ:=⟨_,by conv=>lhs;reduce⟩
def ic:O2:=b6 c F cg u0.1 [x0,x1] s
def Ej:=(by dsimp only[ic,u0,go_sem,Int.reduceOfNat]:ic c F x0 x1 s=_)
def mK:Sh:=(sq sl (sq sl (sq (sq sl (sb (sp 0 [1,3,4] [(2,[3])] (sq (sq sl (sc sl sl)) (sq (sb sl) sl))))) (sq sl sl))))
def sk:PX 25 mK:=⟨_,by conv=>lhs;reduce⟩
def qX:PL 25 mK 0:=⟨_,by conv=>lhs;reduce⟩
def fZ(k2:Q2):Nat->Q2
 |0,_,_=>none
 |n+1,vs,s=>j8 c F cg (fZ k2 n) [k2] qX.1 vs s
def pO(k2:Q2)(n:Nat)(vs:List AV)(s:St):=(by dsimp only[fZ,qX,go_sem,Int.reduceOfNat]:fZ c F k2 (n+1) vs s=_)
def mL:Un->List Q2->Nat->Q2
 |.z,[k2]=>fZ c F k2
 |_,_=>λ_=>lW
def oq:O2:=b6 c F (mL c F) sk.1 [x0] s
def BN:=(by dsimp only[oq,sk, ↓mL,go_sem,Int.reduceOfNat]:oq c F x0 s=_)
def ym:Sh:=(sq sl (sq sl (sj [5] (sq sl (sc sl sl)) (sq sl sl))))
def yo:PX 26 ym:=⟨_,by conv=>lhs;reduce⟩
def u5:O2:=b6 c F cg yo.1 [x0,x1] s
def H9:=(by dsimp only[u5,yo,go_sem,Int.reduceOfNat]:u5 c F x0 x1 s=_)
def ot:Sh:=(sq sl (sq (sq sl (sb (sp 0 [0,1,5] [(1,[4]),(2,[])] (sq (sq sl (sc sl sl)) (sq (sb (sq sl (sq sl (sc (sq sl (sq sl sl)) sl)))) sl))))) (sq sl sl)))
def u6:PX 27 ot:=⟨_,by conv=>lhs;reduce⟩
def tU:PL 27 ot 0:=⟨_,by conv=>lhs;reduce⟩
def gZ(k1 k2:Q2):Nat->Q2
 |0,_,_=>none
 |n+1,vs,s=>j8 c F cg (gZ k1 k2 n) [k1,k2] tU.1 vs s
def lu(k1 k2:Q2)(n:Nat)(vs:List AV)(s:St):=(by dsimp only[gZ,tU,go_sem,Int.reduceOfNat,Int.reduceNegSucc]:gZ c F k1 k2 (n+1) vs s=_)
def ou:Un->List Q2->Nat->Q2
 |.z,[k1,k2]=>gZ c F k1 k2
 |_,_=>λ_=>lW
def qt:O2:=b6 c F (ou c F) u6.1 [x0,x1] s
def uE:=(by dsimp only[qt,u6, ↓ou,go_sem,Int.reduceOfNat,Int.reduceNegSucc]:qt c F x0 x1 s=_)
def mM:Sh:=(sq sl (sq (sq sl (sb (sp 0 [0,1,7,8] [(1,[4]),(2,[])] (sq sl (sq (sc sl sl) (sq (sb (sq sl (sq sl (sc (sq sl sl) sl)))) sl)))))) (sq sl sl)))
def su:PX 28 mM:=⟨_,by conv=>lhs;reduce⟩
def qY:PL 28 mM 0:=⟨_,by conv=>lhs;reduce⟩
def gh(k1 k2:Q2):Nat->Q2
 |0,_,_=>none
 |n+1,vs,s=>j8 c F cg (gh k1 k2 n) [k1,k2] qY.1 vs s
def kf(k1 k2:Q2)(n:Nat)(vs:List AV)(s:St):=(by dsimp only[gh,qY,go_sem,Int.reduceOfNat,Int.reduceNegSucc]:gh c F k1 k2 (n+1) vs s=_)
def mN:Un->List Q2->Nat->Q2
 |.z,[k1,k2]=>gh c F k1 k2
 |_,_=>λ_=>lW
def ov:O2:=b6 c F (mN c F) su.1 [x0,x1] s
def BO:=(by dsimp only[ov,su, ↓mN,go_sem,Int.reduceOfNat,Int.reduceNegSucc]:ov c F x0 x1 s=_)
def z8:Sh:=(sq sl (sq sl sl))
def z9:PX 29 z8:=⟨_,by conv=>lhs;reduce⟩
def wE:O2:=b6 c F cg z9.1 [x0,x1] s
def JO:=(by dsimp only[wE,z9,go_sem,Int.reduceOfNat]:wE c F x0 x1 s=_)
def GW:Sh:=(sq sl (sq sl (sq sl sl)))
def GY:PX 39 GW:=⟨_,by conv=>lhs;reduce⟩
def Ek:O2:=b6 c F cg GY.1 [x0,x1] s
def Rj:=(by dsimp only[Ek,GY,go_sem,Int.reduceOfNat]:Ek c F x0 x1 s=_)
def CS:Sh:=(sq sl (sq sl sl))
def CT:PX 40 CS:=⟨_,by conv=>lhs;reduce⟩
def Aa:O2:=b6 c F cg CT.1 [x0] s
def MJ:=(by dsimp only[Aa,CT,go_sem,Int.reduceOfNat]:Aa c F x0 s=_)
def vM:Sh:=(sq sl (sq sl sl))
def vN:PX 43 vM:=⟨_,by conv=>lhs;reduce⟩
def rC:O2:=b6 c F cg vN.1 [x0] s
def Fy:=(by dsimp only[rC,vN,go_sem,Int.reduceOfNat]:rC c F x0 s=_)
def tV:Sh:=(sq sl (sq sl sl))
def tW:PX 44 tV:=⟨_,by conv=>lhs;reduce⟩
def pF:O2:=b6 c F cg tW.1 [x0] s
def CU:=(by dsimp only[pF,tW,go_sem,Int.reduceOfNat]:pF c F x0 s=_)
def ow:Sh:=(sq sl (sq (sq sl (sb (sp 0 [1,2,5] [(1,[4]),(2,[])] (sq (sq sl (sc sl sl)) (sq (sb (sq sl (sc (sq sl sl) sl))) sl))))) (sq sl sl)))
def u7:PX 45 ow:=⟨_,by conv=>lhs;reduce⟩
def tX:PL 45 ow 0:=⟨_,by conv=>lhs;reduce⟩
def ig(k1 k2:Q2):Nat->Q2
 |0,_,_=>none
 |n+1,vs,s=>j8 c F cg (ig k1 k2 n) [k1,k2] tX.1 vs s
def lz(k1 k2:Q2)(n:Nat)(vs:List AV)(s:St):=(by dsimp only[ig,tX,go_sem,Int.reduceOfNat]:ig c F k1 k2 (n+1) vs s=_)
def oC:Un->List Q2->Nat->Q2
 |.z,[k1,k2]=>ig c F k1 k2
 |_,_=>λ_=>lW
def qu:O2:=b6 c F (oC c F) u7.1 [x0,x1] s
def El:=(by dsimp only[qu,u7, ↓oC,go_sem,Int.reduceOfNat]:qu c F x0 x1 s=_)
def CV:Sh:=(sq sl (sq (sq sl (sq sl (sc (sq sl sl) sl))) (sq sl sl)))
def CW:PX 46 CV:=⟨_,by conv=>lhs;reduce⟩
def Ab:O2:=b6 c F cg CW.1 [x0,x1,x2] s
def MN:=(by dsimp only[Ab,CW,go_sem,Int.reduceOfNat]:Ab c F x0 x1 x2 s=_)
def Ac:Sh:=(sq sl (sq sl sl))
def Ad:PX 62 Ac:=⟨_,by conv=>lhs;reduce⟩
def wF:O2:=b6 c F cg Ad.1 [x0,x1] s
def JM:=(by dsimp only[wF,Ad,go_sem,Int.reduceOfNat]:wF c F x0 x1 s=_)
def Ae:Sh:=(sq sl (sq (sq sl (sc (sq sl sl) sl)) (sq sl (sq sl (sq (sq sl (sb (sp 0 [2,8,9,23,24,25] [(1,[6,7]),(2,[])] (sq sl (sq (sc sl sl) (sj [2,8,9,23,24,25] (sb (sq sl (sq (sb (sq sl (sc (sq sl sl) (sq sl (sc (sq sl sl) (sq sl (sc (sq sl sl) sl))))))) (sq sl (sc sl sl))))) sl)))))) (sq sl sl))))))
def GZ:PX 65 Ae:=⟨_,by conv=>lhs;reduce⟩
def E0:PL 65 Ae 0:=⟨_,by conv=>lhs;reduce⟩
def oK(k1 k2:Q2):Nat->Q2
 |0,_,_=>none
 |n+1,vs,s=>j8 c F cg (oK k1 k2 n) [k1,k2] E0.1 vs s
def uG(k1 k2:Q2)(n:Nat)(vs:List AV)(s:St):=(by dsimp only[oK,E0,go_sem,Int.reduceOfNat,Int.reduceNegSucc]:oK c F k1 k2 (n+1) vs s=_)
def Af:Un->List Q2->Nat->Q2
 |.z,[k1,k2]=>oK c F k1 k2
 |_,_=>λ_=>lW
def Em:O2:=b6 c F (Af c F) GZ.1 [x0,x1,x2] s
def Ri:=(by dsimp only[Em,GZ, ↓Af,go_sem,Int.reduceOfNat,Int.reduceNegSucc]:Em c F x0 x1 x2 s=_)
end
section
variable{c:ai}(hc:cE c)(F:Nat){x0 x1 x2 x3 x4 x5 x6 x7 x8 x9 XB XC:AV}{s:St}{r:AV×St}
include hc
theorem CX(h:iR c F x0 s=some r):c 6 [x0] s=some (tidy s r):=hc.oL F (o9 c F) jw 3 (by kernel_rfl) (λi hi=>match i,hi with|0,_=>mB 0 (by kernel_rfl) (λ_ _ _=>by kernel_rfl) (λ_ _ _ _=>by kernel_rfl)|1,_=>mB 1 (by kernel_rfl) (λ_ _ _=>by kernel_rfl) (λ_ _ _ _=>by kernel_rfl)|2,_=>mB 2 (by kernel_rfl) (λ_ _ _=>by kernel_rfl) (λ_ _ _ _=>by kernel_rfl)|n+3,h=>absurd h (by omega)) (by kernel_rfl) h
theorem AI(h:pz c F x0 x1 s=some r):c 7 [x0,x1] s=some (tidy s r):=hc.o1 F (ni c F) nh (by kernel_rfl) (by kernel_rfl) (λ_ _ _=>by kernel_rfl) (λ_ _ _ _=>by kernel_rfl) (by kernel_rfl) h
theorem qe(h:oe c F x0 s=some r):c 8 [x0] s=some (tidy s r):=hc.o0 F rX (by kernel_rfl) (by kernel_rfl) h
theorem zT(h:oh c F x0 x1 s=some r):c 12 [x0,x1] s=some (tidy s r):=hc.o1 F (mI c F) mH (by kernel_rfl) (by kernel_rfl) (λ_ _ _=>by kernel_rfl) (λ_ _ _ _=>by kernel_rfl) (by kernel_rfl) h
theorem MK(h:Eh c F x0 x1 s=some r):c 14 [x0,x1] s=some (tidy s r):=hc.o1 F (z6 c F) zZ (by kernel_rfl) (by kernel_rfl) (λ_ _ _=>by kernel_rfl) (λ_ _ _ _=>by kernel_rfl) (by kernel_rfl) h
theorem EX(h:GQ c F x0 x1 x2 x3 s=some r):c 16 [x0,x1,x2,x3] s=some (tidy s r):=hc.o0 F IZ (by kernel_rfl) (by kernel_rfl) h
theorem OR(h:GV c F x0 x1 s=some r):c 17 [x0,x1] s=some (tidy s r):=hc.o1 F (BT c F) BS (by kernel_rfl) (by kernel_rfl) (λ_ _ _=>by kernel_rfl) (λ_ _ _ _=>by kernel_rfl) (by kernel_rfl) h
theorem BU(h:qq c F x0 x1 s=some r):c 21 [x0,x1] s=some (tidy s r):=hc.o1 F (oo c F) om (by kernel_rfl) (by kernel_rfl) (λ_ _ _=>by kernel_rfl) (λ_ _ _ _=>by kernel_rfl) (by kernel_rfl) h
theorem CY(h:ry c F x0 s=some r):c 22 [x0] s=some (tidy s r):=hc.o0 F vJ (by kernel_rfl) (by kernel_rfl) h
theorem CZ(h:rA c F x0 x1 s=some r):c 23 [x0,x1] s=some (tidy s r):=hc.oL F (pE c F) gG 4 (by kernel_rfl) (λi hi=>match i,hi with|0,_=>mB 0 (by kernel_rfl) (λ_ _ _=>by kernel_rfl) (λ_ _ _ _=>by kernel_rfl)|1,_=>mB 1 (by kernel_rfl) (λ_ _ _=>by kernel_rfl) (λ_ _ _ _=>by kernel_rfl)|2,_=>mB 2 (by kernel_rfl) (λ_ _ _=>by kernel_rfl) (λ_ _ _ _=>by kernel_rfl)|3,_=>mB 3 (by kernel_rfl) (λ_ _ _=>by kernel_rfl) (λ_ _ _ _=>by kernel_rfl)|n+4,h=>absurd h (by omega)) (by kernel_rfl) h
theorem BV(h:ic c F x0 x1 s=some r):c 24 [x0,x1] s=some (tidy s r):=hc.o0 F uZ (by kernel_rfl) (by kernel_rfl) h
theorem zQ(h:oq c F x0 s=some r):c 25 [x0] s=some (tidy s r):=hc.o1 F (mL c F) mK (by kernel_rfl) (by kernel_rfl) (λ_ _ _=>by kernel_rfl) (λ_ _ _ _=>by kernel_rfl) (by kernel_rfl) h
theorem Fl(h:u5 c F x0 x1 s=some r):c 26 [x0,x1] s=some (tidy s r):=hc.o0 F ym (by kernel_rfl) (by kernel_rfl) h
theorem rK(h:qt c F x0 x1 s=some r):c 27 [x0,x1] s=some (tidy s r):=hc.o1 F (ou c F) ot (by kernel_rfl) (by kernel_rfl) (λ_ _ _=>by kernel_rfl) (λ_ _ _ _=>by kernel_rfl) (by kernel_rfl) h
theorem zS(h:ov c F x0 x1 s=some r):c 28 [x0,x1] s=some (tidy s r):=hc.o1 F (mN c F) mM (by kernel_rfl) (by kernel_rfl) (λ_ _ _=>by kernel_rfl) (λ_ _ _ _=>by kernel_rfl) (by kernel_rfl) h
theorem Gt(h:wE c F x0 x1 s=some r):c 29 [x0,x1] s=some (tidy s r):=hc.o0 F z8 (by kernel_rfl) (by kernel_rfl) h
theorem MO(h:Ek c F x0 x1 s=some r):c 39 [x0,x1] s=some (tidy s r):=hc.o0 F GW (by kernel_rfl) (by kernel_rfl) h
theorem JL(h:Aa c F x0 s=some r):c 40 [x0] s=some (tidy s r):=hc.o0 F CS (by kernel_rfl) (by kernel_rfl) h
theorem C2(h:rC c F x0 s=some r):c 43 [x0] s=some (tidy s r):=hc.o0 F vM (by kernel_rfl) (by kernel_rfl) h
theorem AL(h:pF c F x0 s=some r):c 44 [x0] s=some (tidy s r):=hc.o0 F tV (by kernel_rfl) (by kernel_rfl) h
theorem BW(h:qu c F x0 x1 s=some r):c 45 [x0,x1] s=some (tidy s r):=hc.o1 F (oC c F) ow (by kernel_rfl) (by kernel_rfl) (λ_ _ _=>by kernel_rfl) (λ_ _ _ _=>by kernel_rfl) (by kernel_rfl) h
theorem JN(h:Ab c F x0 x1 x2 s=some r):c 46 [x0,x1,x2] s=some (tidy s r):=hc.o0 F CV (by kernel_rfl) (by kernel_rfl) h
theorem Gr(h:wF c F x0 x1 s=some r):c 62 [x0,x1] s=some (tidy s r):=hc.o0 F Ac (by kernel_rfl) (by kernel_rfl) h
theorem MM(h:Em c F x0 x1 x2 s=some r):c 65 [x0,x1,x2] s=some (tidy s r):=hc.o1 F (Af c F) Ae (by kernel_rfl) (by kernel_rfl) (λ_ _ _=>by kernel_rfl) (λ_ _ _ _=>by kernel_rfl) (by kernel_rfl) h
end
end
section
open Go Go.Ai Go.Proofs
variable{c:ai}
def dK(i:Nat):List Nat:=[116,97+i % 26]
def bl(i:Nat):List Nat:=[97+i / 26 % 26,97+i % 26]
theorem aau(hc:cE c)(i:Nat)(hi:i<1000000)(st:St)(hw:Wf st):c 43 [.int .i64 (i:Int)] st=some (.str (dK i),st):=by
 have hg:=Grew.af hw (.cells [.int .u8 116,.int .u8 (97+(i:Int) % 26)] 0);rw[C2 hc 1 (r:=(.str (dK i),af st (.cells [.int .u8 116,.int .u8 (97+(i:Int) % 26)] 0))),aL (Plain.str _) hg.keeps];rw[Fy];have w1:ay .i64 (97+(i:Int) % 26)=97+(i:Int) % 26:=wrap64 (by omega) (by omega);have w2:ay .u8 (97+(i:Int) % 26)=97+(i:Int) % 26:=wQ (by omega) (by omega);have r1:=λ(s:St)(K:AV->St->Option (AV×St))=>bN (c:=c) (k:= .i64) (a:=(i:Int)) (b:=26) (by omega) (by omega) s K
 have two:=λ(s:St)(K:AV->St->Option (AV×St))=>QU (c:=c) (x:=116) (y:=97+(i:Int) % 26) 116 (97+i % 26) rfl (by omega) (by omega) (by omega) s K
 simp[-aT,r1,tL,w1,w2,two,dK]
theorem qN(hc:cE c)(i:Nat)(hi:i<1000000)(st:St)(hw:Wf st):c 44 [.int .i64 (i:Int)] st=some (.str (bl i),st):=by
 have hg:=Grew.af hw (.cells [.int .u8 (97+(i:Int) / 26 % 26),.int .u8 (97+(i:Int) % 26)] 0);rw[AL hc 1 (r:=(.str (bl i),af st (.cells [.int .u8 (97+(i:Int) / 26 % 26),.int .u8 (97+(i:Int) % 26)] 0))),aL (Plain.str _) hg.keeps];rw[CU];have w1:ay .i64 (97+(i:Int) % 26)=97+(i:Int) % 26:=wrap64 (by omega) (by omega);have w2:ay .u8 (97+(i:Int) % 26)=97+(i:Int) % 26:=wQ (by omega) (by omega);have w3:ay .i64 (97+(i:Int) / 26 % 26)=97+(i:Int) / 26 % 26:=wrap64 (by omega) (by omega);have w4:ay .u8 (97+(i:Int) / 26 % 26)=97+(i:Int) / 26 % 26:=wQ (by omega) (by omega);have r1:=λ(s:St)(K:AV->St->Option (AV×St))=>bN (c:=c) (k:= .i64) (a:=(i:Int)) (b:=26) (by omega) (by omega) s K
 have r2:=λ(s:St)(K:AV->St->Option (AV×St))=>eX (c:=c) (a:=(i:Int)) (b:=26) (by omega) (by omega) (by omega) s K
 have r3:=λ(s:St)(K:AV->St->Option (AV×St))=>bN (c:=c) (k:= .i64) (a:=(i:Int) / 26) (b:=26) (by omega) (by omega) s K
 have two:=λ(s:St)(K:AV->St->Option (AV×St))=>QU (c:=c) (x:=97+(i:Int) / 26 % 26) (y:=97+(i:Int) % 26) (97+i / 26 % 26) (97+i % 26) (by omega) (by omega) (by omega) (by omega) s K
 simp[-aT,r1,r2,r3,tL,w1,w2,w3,w4,two,bl]
def jf(sh a b:Int):Int:=if sh=2 then 2*a+b else if sh=3 then a+2*b else a
theorem zP(hc:cE c){l:List AV}{sh a b:Int}(h1:l[1]? =some (.int .u8 sh))(h2:l[2]? =some (.int .i64 a))(h3:l[3]? =some (.int .i64 b))(ha:0<=a/\a<=1000000)(hb:0<=b/\b<=1000000)(st:St)(hw:Wf st):
   c 22 [.agg l] st=some (.int .i64 (jf sh a b),st):=by
 have hg:=Grew.af hw (.cells l 0);have p1:=aD st (.cells l 0);rw[CY hc 1 (r:=(.int .i64 (jf sh a b),af st (.cells l 0))),aL (Plain.int _ _) hg.keeps];rw[Fw];have w1:ay .i64 (2*a)=2*a:=wrap64 (by omega) (by omega);have w2:ay .i64 (2*b)=2*b:=wrap64 (by omega) (by omega);have w3:ay .i64 (2*a+b)=2*a+b:=wrap64 (by omega) (by omega);have w4:ay .i64 (a+2*b)=a+2*b:=wrap64 (by omega) (by omega);unfold jf;by_cases e2:sh=2
 .subst e2;simp[p1,h1,h2,h3,w1,w3]
 . by_cases e3:sh=3
   .subst e3;simp[p1,h1,h2,h3,w2,w4]
   .have d2:decide (sh=2)=false:=Za2 e2;have d3:decide (sh=3)=false:=Za2 e3;simp[p1,h1,h2,h3,e2,e3,d2,d3]
def Nh(i:Nat):List AV:=[.int .i64 (i:Int)]
def nj:List AV:=[.str [],.int .u8 0,.int .i64 0,.int .i64 0,.ah,.int .i64 0,.int .i64 0]
def eG(nm:List Nat)(sh a b:Int)(x:Nat)(v:AV):List AV:=[.str nm,.int .u8 sh,.int .i64 a,.int .i64 b,v,.int .i64 (x:Int),.int .i64 (255 - (x:Int))]
def J5(x i:Nat):Bool:=decide (x / 2 ^ i % 2=1)&&decide (0<x % 3)
theorem abJ(x i:Nat):J5 x i=(decide (x / 2 ^ i % 2=1)&&decide (0<x % 3)):=by rw[J5]
def uH(x k:Nat):List Nat:=(List.range k).filter (J5 x)
theorem Oz(x k:Nat):uH x (k+1)=uH x k++(if J5 x k=true then [k]else []):=by
 unfold uH;rw[Zi4,List.filter_append];congr 1;cases h:J5 x k with
 |true=>simp[h]
 |false=>simp[h]
theorem Rm(x k:Nat):(uH x k).length<=k:=by have:=List.length_filter_le (J5 x) (List.range k);rw[Zo1]at this;exact this
structure TI(st s:St)(p4 p5:Pos)(nm:List Nat)(sh a b:Int)(x k:Nat)(v:AV):Prop where
 out:Mk 1 st s v ((uH x k).map Nh)
 h4:s.heap.get p4=some (.cells nj 0)
 h5:s.heap.get p5=some (.cells (eG nm sh a b x v) 0)
 n4:aZ v≠some p4
 n5:aZ v≠some p5
theorem Vq(hc:cE c){nm:List Nat}{sh a b:Int}{x n:Nat}(ha:0<=a/\a<=1000000)(hb:0<=b/\b<=1000000)(hx:x<1000000)(hn:jf sh a b=(n:Int))(hn64:n<=64){st:St}{p4 p5:Pos}(h4:st.next.toNat<=p4.toNat)(h5:st.next.toNat<=p5.toNat)(C3:p4≠p5)
  (F:Nat) (k3):∀(m k:Nat)(s:St)(v:AV),TI st s p4 p5 nm sh a b x k v->n<=k+m->k<=n->
  ∃s' v',TI st s' p4 p5 nm sh a b x n v'/\fJ c F k3 (m+1) [.int .i64 (x:Int),.ptr p4 0,.ptr p5 0,.int .i64 (k:Int)] s=k3 [.ptr p4 0,.ptr p5 0] s':=by
 intro m;induction m with
 |zero=>
  intro k s v hT h1 h2;obtain rfl:k=n:=by omega
  refine⟨s,v,hT,?_⟩;have S:=zP hc (l:=eG nm sh a b x v) rfl rfl rfl ha hb s hT.out.aA.wf;have cu:cut (eG nm sh a b x v) 0 7=some (eG nm sh a b x v):=bQ rfl;rw[hn]at S;rw[jg];simp[hT.h5,cu,S]
 |succ m ih=>
  intro k s v hT h1 h2;have hw:=hT.out.aA.wf;have S:=zP hc (l:=eG nm sh a b x v) rfl rfl rfl ha hb s hw;have cu:cut (eG nm sh a b x v) 0 7=some (eG nm sh a b x v):=bQ rfl;rw[hn]at S;clear hn;by_cases h:k<n
  . have IQ:(0:Int)<=(x:Int):=Int.natCast_nonneg x;have w:ay .i64 ((k:Int)+1)=((k+1:Nat):Int):=wrap64 (by omega) (by omega);have sr:=λ(s:St)(K:AV->St->Option (AV×St))=>QT (c:=c) (a:=(x:Int)) (i:=k) (Zc7 h2 hn64) s K
    have p0:(0:Int)<=(x:Int) / 2 ^ k:=Zo9 IQ (Int.le_of_lt (Int.pow_pos (by omega)));have r1:=λ(s:St)(K:AV->St->Option (AV×St))=>bN (c:=c) (k:= .i64) (a:=(x:Int) / 2 ^ k) (b:=2) p0 (by decide) s K
    have r2:=λ(s:St)(K:AV->St->Option (AV×St))=>bN (c:=c) (k:= .i64) (a:=(x:Int)) (b:=3) IQ (by decide) s K
    have d1:decide ((x:Int) / 2 ^ k % 2=1)=decide (x / 2 ^ k % 2=1):=(by have:((x:Int) / 2 ^ k % 2=1)↔(x / 2 ^ k % 2=1):=(by rw[show((x:Int) / 2 ^ k % 2)=((x / 2 ^ k % 2:Nat):Int)by simp];omega);exact decide_eq_decide.2 this);have d2:decide (0<(x:Int) % 3)=decide (0<x % 3):=decide_eq_decide.2 (by omega);have c4:(eG nm sh a b x v)[4]? =some v:=rfl;have hl:decide ((k:Int)<(n:Int))=true:=H5 (Int.ofNat_lt.2 h);have fin:=abJ x k;cases hq:J5 x k with
    |   true=>
        have hrl:((uH x k).map Nh).length<=64:=(by rw[Zb3];have:=Rm x k;omega);obtain⟨s5,v5,a1,a2,a3,a4⟩:=hT.out.push (c:=c) (R:=AV×St) (bytes:=8) (z:=[.int .i64 0]) (x:= .int .i64 (k:Int)) rfl rfl rfl (by decide) (by omega) (by omega);have e:(uH x (k+1)).map Nh=(uH x k).map Nh++[(.int .i64 (k:Int):AV).cells]:=(by rw[Oz,Za7 hq,Zd9];rfl);rw[<-e]at a2;have y4:=a3 p4 _ hT.n4 hT.h4;have y5:=a3 p5 _ hT.n5 hT.h5;have l4:=hw p4 _ hT.h4;have l5:=hw p5 _ hT.h5;have b4:aZ v5≠some p4:=λe=>by have:=a4 _ e;omega
        have b5:aZ v5≠some p5:=λe=>by have:=a4 _ e;omega
        have hw5:=a2.aA.wf;have Lu:=hw5 p5 _ y5;have M:=a2.store (p:=p5) (b:= .cells (eG nm sh a b x v5) 0) h5 Lu b5;obtain⟨vc,v1⟩:=a2.cells;have aK:∀(K:AV->St->Option (AV×St)),ak c (.store 1) [.ptr p5 4,v5] s5 K=K .undef (cm s5 p5 (.cells (eG nm sh a b x v5) 0)):=λK=>by rw[dG c K s5 1 p5 4 v5 (eG nm sh a b x v) y5 (by rw[vc];rfl) (by simp[eG]) (by rw[vc];exact v1),vc];rfl
        have T5:TI st (cm s5 p5 (.cells (eG nm sh a b x v5) 0)) p4 p5 nm sh a b x (k+1) v5:=⟨M,by rw[br (λe=>C3 e.symm)];exact y4,dF _ _ _,b4,b5⟩
        obtain⟨s',v',b1,b2⟩:=ih (k+1) _ v5 T5 (by omega) (by omega);refine⟨s',v',b1,?_⟩;rw[<-b2,jg];rw[fin,Za8]at hq;simp[-aT,hT.h5,cu,S,h,fY,sr,r1,r2,d1,d2,hq.1,hq.2,c4,a1,aK,w]
    |   false=>
        have e:(uH x (k+1))=(uH x k):=(by rw[Oz,Za5 (by rw[hq];decide),Ze8]);obtain⟨s',v',b1,b2⟩:=ih (k+1) s v ⟨by rw[e];exact hT.out,hT.h4,hT.h5,hT.n4,hT.n5⟩ (by omega) (by omega);refine⟨s',v',b1,?_⟩;rw[<-b2,jg];rw[fin]at hq;cases g1:decide (x / 2 ^ k % 2=1)with
        |false=>simp[-aT,hT.h5,cu,S,h,fY,sr,r1,r2,d1,d2,g1,c4,w]
        |true=>
         rw[g1,Zg6]at hq;simp[-aT,hT.h5,cu,S,h,fY,sr,r1,r2,d1,d2,g1,hq,c4,w]
  .obtain rfl:k=n:=(by omega);refine⟨s,v,hT,?_⟩;rw[jg];simp[hT.h5,cu,S]
theorem iA(s:St)(cs:List AV)(o:Nat)(v:AV)(ho:o<cs.length)(h1:v.cells=[v])(h2:v.one=true)(K:AV->St->Option (AV×St)):ak c (.store 1) [.ptr s.next o,v] (af s (.cells cs 0)) K=K .undef (af s (.cells (cs.set o v) 0)):=by
 rw[dG c K (af s (.cells cs 0)) 1 s.next o v cs (aD _ _) (by rw[h1];rfl) (by omega) (by rw[h1];simp[aO,h2]),h1,qI _ _ ho,Mh]
def jY(x:Nat):Nat:=1+x % 4
def tA(x:Nat):Nat:=if x % 4=0 then 1+x / 4 % 6 else if x % 4=1 then 1+x / 4 % 3 else if x % 4=2 then 1+x / 4 % 2 else 1+x / 4 % 5
def tB(x:Nat):Nat:=if x % 4=0 then 0 else if x % 4=1 then x / 4 / 3 % 3 else if x % 4=2 then 1+x / 4 / 2 % 2 else min (1+x / 4 % 5) (x / 4 / 5 % 4)
def tN(x:Nat):Nat:=if x % 4=1 then 2*tA x+tB x else if x % 4=2 then tA x+2*tB x else tA x
theorem Pr(x:Nat):tA x<=6:=by unfold tA;split<;>(try split)<;>(try split)<;>omega
theorem Pt(x:Nat):tB x<=3:=by unfold tB;split<;>(try split)<;>(try split)<;>omega
theorem Lq(x:Nat):tN x<=16:=by have:=Pr x;have:=Pt x;unfold tN;split<;>(try split)<;>omega
theorem H8(x:Nat):jf ((jY x:Nat):Int) ((tA x:Nat):Int) ((tB x:Nat):Int)=((tN x:Nat):Int):=by
 unfold jf tN jY;by_cases h1:x % 4=1
 .rw[Za7 (by omega),Za7 h1];omega
 . by_cases h2:x % 4=2
   .rw[Za5 (by omega),Za7 (by omega),Za5 h1,Za7 h2];omega
   .rw[Za5 (by omega),Za5 (by omega),Za5 h1,Za5 h2]
theorem aav(hc:cE c)(i x:Nat)(hi:i<1000000)(hx:x<256)(st:St)(hw:Wf st):∃v s',c 21 [.int .i64 (i:Int),.int .i64 (x:Int)] st=some (.agg (eG (dK i) (jY x:Nat) (tA x:Nat) (tB x:Nat) x v),s')/\Mk 1 st s' v ((uH x (tN x)).map Nh):=by
 have dI:Wf (af st (.cells nj 0)):=bR hw;have g1:=Grew.af hw (.cells nj 0);have W:=aau hc i hi (af st (.cells nj 0)) dI;have hA:=Pr x;have hB:=Pt x;have hN:=Lq x;have g2:=Grew.af dI (.cells (eG (dK i) (jY x:Nat) (tA x:Nat) (tB x:Nat) x .ah) 0);have x1:(af (af st (.cells nj 0)) (.cells (eG (dK i) (jY x:Nat) (tA x:Nat) (tB x:Nat) x .ah) 0)).heap.get st.next=some (.cells nj 0):=g2.get (aD _ _);have x2:(af (af st (.cells nj 0)) (.cells (eG (dK i) (jY x:Nat) (tA x:Nat) (tB x:Nat) x .ah) 0)).heap.get (af st (.cells nj 0)).next=some (.cells (eG (dK i) (jY x:Nat) (tA x:Nat) (tB x:Nat) x .ah) 0):=aD _ _;have Yd:st.next≠(af st (.cells nj 0)).next:=by rw[c9];exact Pos.Mi _
 have T0:TI st (af (af st (.cells nj 0)) (.cells (eG (dK i) (jY x:Nat) (tA x:Nat) (tB x:Nat) x .ah) 0)) st.next (af st (.cells nj 0)).next (dK i) (jY x:Nat) (tA x:Nat) (tB x:Nat) x 0 .ah:=
   ⟨Mk.start hw (g1.trans g2),x1,x2,λe=>(nomatch e),λe=>(nomatch e)⟩
 obtain⟨s',v,hT,L⟩:=Vq hc (n:=tN x) (by omega) (by omega) (by omega) (H8 x) (by omega) (p4:=st.next) (p5:=(af st (.cells nj 0)).next) (Za4 _) (by rw[c9,Pos.ax];omega) Yd (tN x+1)
   (λvs s96=>js vs λx4 vs=>js vs λx5 vs=>pZ vs (ak c (.load (some 7)) [x5] s96 λx86 s97=>ak c (.store 7) [x4,x86] s97 λ_ Ye=>Tc (some 7) x4 Ye λv99=>some (v99,Ye))) (tN x) 0 (af (af st (.cells nj 0)) (.cells (eG (dK i) (jY x:Nat) (tA x:Nat) (tB x:Nat) x .ah) 0)) .ah T0 (by omega) (by omega)
 have M:=hT.out;obtain⟨vc,v1⟩:=M.cells;have one:aO (eG (dK i) (jY x:Nat) (tA x:Nat) (tB x:Nat) x v)=true:=by
   simp only[aO]at v1;unfold eG;simp only[aO,AV.one,v1,Zi6,Zj9]at*
 have hcut:cut (eG (dK i) (jY x:Nat) (tA x:Nat) (tB x:Nat) x v) 0 7=some (eG (dK i) (jY x:Nat) (tA x:Nat) (tB x:Nat) x v):=bQ rfl;have ji:∀(K:AV->St->Option (AV×St)),ak c (.store 7) [.ptr st.next 0,.agg (eG (dK i) (jY x:Nat) (tA x:Nat) (tB x:Nat) x v)] s' K=K .undef (cm s' st.next (.cells (eG (dK i) (jY x:Nat) (tA x:Nat) (tB x:Nat) x v) 0)):=λK=>by rw[dG c K s' 7 st.next 0 (.agg (eG (dK i) (jY x:Nat) (tA x:Nat) (tB x:Nat) x v)) _ hT.h4 rfl (by simp[nj]) one];rfl
 have M2:=M.store (p:=st.next) (b:= .cells (eG (dK i) (jY x:Nat) (tA x:Nat) (tB x:Nat) x v) 0) (Za4 _) (M.aA.wf _ _ hT.h4) hT.n4;have mem:v∈eG (dK i) (jY x:Nat) (tA x:Nat) (tB x:Nat) x v:=by simp[eG]
 have low:∀y∈dK i,y<256:=by intro y hy;simp[dK]at hy;omega
 obtain⟨gY,t1,_,t3⟩:=M2.DV mem (λu hu=>by simp only[eG,Za9,Ze5,Zi9]at hu;rcases hu with rfl|rfl|rfl|rfl|rfl|rfl|rfl<;>first|exact gy.str low|exact gy.int _ _|exact M.inst);refine⟨v,gY,?_,t3⟩;rw[BU hc (tN x+1) (r:=(.agg (eG (dK i) (jY x:Nat) (tA x:Nat) (tB x:Nat) x v),cm s' st.next (.cells (eG (dK i) (jY x:Nat) (tA x:Nat) (tB x:Nat) x v) 0))),t1];have L2:fJ c (tN x+1) (λvs s96=>js vs λx4 vs=>js vs λx5 vs=>pZ vs (ak c (.load (some 7)) [x5] s96 λx86 s97=>ak c (.store 7) [x4,x86] s97 λ_ Ye=>Tc (some 7) x4 Ye λv99=>some (v99,Ye))) (tN x+1) [.int .i64 (x:Int),.ptr st.next 0,.ptr (af st (.cells nj 0)).next 0,.int .i64 0] (af (af st (.cells nj 0)) (.cells (eG (dK i) (jY x:Nat) (tA x:Nat) (tB x:Nat) x .ah) 0))=some (.agg (eG (dK i) (jY x:Nat) (tA x:Nat) (tB x:Nat) x v),cm s' st.next (.cells (eG (dK i) (jY x:Nat) (tA x:Nat) (tB x:Nat) x v) 0)):=by
   rw[show(0:Int)=((0:Nat):Int)from rfl,L];simp[hT.h5,hcut,ji]
 generalize hF:tN x+1=F at L2 ⊢;clear hF L hT M2 ji T0 x1 x2 g2;have q1:=λ(s:St)(K:AV->St->Option (AV×St))=>bN (c:=c) (k:= .i64) (a:=(x:Int)) (b:=4) (by omega) (by omega) s K
 have q2:=λ(s:St)(K:AV->St->Option (AV×St))=>eX (c:=c) (a:=(x:Int)) (b:=4) (by omega) (by omega) (by omega) s K
 have q3:=λ(n:Int)(hn:0<n)(s:St)(K:AV->St->Option (AV×St))=>bN (c:=c) (k:= .i64) (a:=(x:Int) / 4) (b:=n) (by omega) hn s K
 have w1:ay .i64 (1+(x:Int) % 4)=1+(x:Int) % 4:=wrap64 (by omega) (by omega);have w2:ay .u8 (1+(x:Int) % 4)=1+(x:Int) % 4:=wQ (by omega) (by omega);have w3:ay .i64 (255 - (x:Int))=255 - (x:Int):=wrap64 (by omega) (by omega);have al:∀(s:St)(K:AV->St->Option (AV×St)),ak c (.alloc [.str [],.int .u8 0,.int .i64 0,.int .i64 0,.ah,.int .i64 0,.int .i64 0]) [] s K=K (.ptr s.next 0) (af s (.cells nj 0)):=λs K=>rfl
 have T8:∀(nm:List Nat)(sh u y:Int)(s:St)(K:AV->St->Option (AV×St)),ak c (.build [.str [],.int .u8 0,.int .i64 0,.int .i64 0,.ah,.int .i64 0,.int .i64 0] [(0,1),(1,1),(5,1),(6,1)]) [.str nm,.int .u8 sh,.int .i64 u,.int .i64 y] s K=K (.agg [.str nm,.int .u8 sh,.int .i64 0,.int .i64 0,.ah,.int .i64 u,.int .i64 y]) s:=λnm sh u y s K=>rfl
 have C4:∀(nm:List Nat)(sh u y:Int)(s:St)(K:AV->St->Option (AV×St)),ak c (.store 7) [.ptr s.next 0,.agg [.str nm,.int .u8 sh,.int .i64 0,.int .i64 0,.ah,.int .i64 u,.int .i64 y]] (af s (.cells nj 0)) K=K .undef (af s (.cells [.str nm,.int .u8 sh,.int .i64 0,.int .i64 0,.ah,.int .i64 u,.int .i64 y] 0)):=λnm sh u y s K=>dQ c K s 7 (.agg [.str nm,.int .u8 sh,.int .i64 0,.int .i64 0,.ah,.int .i64 u,.int .i64 y]) nj rfl rfl rfl
 have Vr:∀(nm:List Nat)(sh p q u y z:Int)(s:St)(K:AV->St->Option (AV×St)),ak c (.store 1) [.ptr s.next 2,.int .i64 z] (af s (.cells [.str nm,.int .u8 sh,.int .i64 p,.int .i64 q,.ah,.int .i64 u,.int .i64 y] 0)) K=K .undef (af s (.cells [.str nm,.int .u8 sh,.int .i64 z,.int .i64 q,.ah,.int .i64 u,.int .i64 y] 0)):=λnm sh p q u y z s K=>iA s _ 2 (.int .i64 z) (by simp) rfl rfl K
 have Vt:∀(nm:List Nat)(sh p q u y z:Int)(s:St)(K:AV->St->Option (AV×St)),ak c (.store 1) [.ptr s.next 3,.int .i64 z] (af s (.cells [.str nm,.int .u8 sh,.int .i64 p,.int .i64 q,.ah,.int .i64 u,.int .i64 y] 0)) K=K .undef (af s (.cells [.str nm,.int .u8 sh,.int .i64 p,.int .i64 z,.ah,.int .i64 u,.int .i64 y] 0)):=λnm sh p q u y z s K=>iA s _ 3 (.int .i64 z) (by simp) rfl rfl K
 rw[Ei];simp only[al];generalize (af st (.cells nj 0))=s1 at W dI L2 Yd;have a1:ay .i64 1=1:=rfl;have h4:x % 4=0\/x % 4=1\/x % 4=2\/x % 4=3:=by omega
 rcases h4 with h|h|h|h
 .have e4:(x:Int) % 4=0:=(by omega);have eS:((jY x:Nat):Int)=1:=(by unfold jY;omega);have eA:((tA x:Nat):Int)=1+(x:Int) / 4 % 6:=(by unfold tA;rw[Za7 h];omega);have eB:((tB x:Nat):Int)=0:=(by unfold tB;rw[Za7 h];rfl);simp only[eG,eS,eA,eB]at L2 ⊢;simp (disch:=omega) [-aT,-gX,-jD,-eE,T8,C4,Vr,Vt,W,bN,eX,e4,tL,wrap64,wQ,fY,Zb1,L2]
 .have e4:(x:Int) % 4=1:=(by omega);have eS:((jY x:Nat):Int)=2:=(by unfold jY;omega);have eA:((tA x:Nat):Int)=1+(x:Int) / 4 % 3:=(by unfold tA;rw[Za5 (by omega),Za7 h];omega);have eB:((tB x:Nat):Int)=(x:Int) / 4 / 3 % 3:=(by unfold tB;rw[Za5 (by omega),Za7 h];omega);simp only[eG,eS,eA,eB]at L2 ⊢;simp (disch:=omega) [-aT,-gX,-jD,-eE,T8,C4,Vr,Vt,W,bN,eX,e4,tL,wrap64,wQ,fY,Zb1,L2]
 .have e4:(x:Int) % 4=2:=(by omega);have eS:((jY x:Nat):Int)=3:=(by unfold jY;omega);have eA:((tA x:Nat):Int)=1+(x:Int) / 4 % 2:=(by unfold tA;rw[Za5 (by omega),Za5 (by omega),Za7 h];omega);have eB:((tB x:Nat):Int)=1+(x:Int) / 4 / 2 % 2:=(by unfold tB;rw[Za5 (by omega),Za5 (by omega),Za7 h];omega);simp only[eG,eS,eA,eB]at L2 ⊢;simp (disch:=omega) [-aT,-gX,-jD,-eE,T8,C4,Vr,Vt,W,bN,eX,e4,tL,wrap64,wQ,fY,Zb1,L2]
 . have e4:(x:Int) % 4=3:=(by omega);have eS:((jY x:Nat):Int)=4:=(by unfold jY;omega);have eA:((tA x:Nat):Int)=1+(x:Int) / 4 % 5:=(by unfold tA;rw[Za5 (by omega),Za5 (by omega),Za5 (by omega)];omega);obtain⟨mb,hmb⟩:∃mb:Int,mb=min (1+(x:Int) / 4 % 5) ((x:Int) / 4 / 5 % 4):=⟨_,rfl⟩
   have YZ:∀(s:St)(K:AV->St->Option (AV×St)),ak c .minB [.int .i64 (1+(x:Int) / 4 % 5),.int .i64 ((x:Int) / 4 / 5 % 4)] s K=K (.int .i64 mb) s:=λs K=>by rw[hmb];exact To c K s _ _ _ _
   have eB:((tB x:Nat):Int)=mb:=(by rw[hmb];unfold tB;rw[Za5 (by omega),Za5 (by omega),Za5 (by omega)];omega);clear hmb;simp only[eG,eS,eA,eB]at L2 ⊢;simp (disch:=omega) [-aT,-gX,-jD,-eE,-To,YZ,T8,C4,Vr,Vt,W,bN,eX,e4,tL,wrap64,wQ,fY,Zb1,L2]
theorem Bo{R:Type}(K:AV->Option R){b:Pos}{off len es es':Nat}{cap:Option Nat}{k:IntKind}{i:Nat}(h:i<len):ey (.idxA es none) [.slice b off len cap es',.int k (i:Int)] K=K (.ptr b (off+i*es)):=
 cV K (λH n=>by
  simp only[av.run,lA,gO];have:Nat.blt i len=true:=by rw[Zn7];exact h
  rw[this])
theorem R2{es:Nat}{s:St}{v:AV}{rows:List (List AV)}(h:QS es s v rows)(hr:∀r∈rows,r.length=es){i:Nat}(hi:i<rows.length):
   ∃b off cap cs,v= .slice b off rows.length cap es/\s.heap.get b=some (.cells cs 0)/\∀j u,rows[i][j]? =some u->cs[off+i*es+j]? =some u:=by
 rcases h with⟨rfl,rfl⟩|⟨b,off,cap,cs,rfl,g1,g2,g3,g4⟩|⟨b,off,rfl,rfl⟩
 .simp at hi
 rotate_left
 .simp at hi
 . (refine⟨b,off,cap,cs,rfl,g1,λj u hj=> ?_⟩;have W4:j<es:=(by rw[<-hr _ (Zb9 hi)];exact(Za0.1 hj).1);have:=Go.Ai.wm hr i j rows[i] u (H4 hi) hj;rw[<-g3]at this;have aV:i*es+j<rows.length*es:=by have:(i+1)*es<=rows.length*es:=Zf5 _ hi;rw[Zh0]at this;omega);rw[Zb8,Za7 aV,Zc4]at this;rw[<-this];congr 1;omega
theorem Vu(hc:cE c){s:St}{V W:AV}{rows:List (List AV)}(h:QS 9 s V rows)(hr:∀r∈rows,r.length=9){names:List (List Nat)}(hlen:names.length=rows.length)(hn:∀(i:Nat)(h1:i<rows.length)(h2:i<names.length),rows[i][0]? =some (.str names[i]))(aaV:rows.length<=1000)
  {q:Pos} (hq:s.heap.get q=some (.cells [V,W] 0)) (x:Nat) (hx:x<1000000) (hw:Wf s) (F:Nat) (k1 k2):∀(m k f:Nat),m<f->k+m=rows.length->bl x∉names.take k->
  ig c F k1 k2 f [.int .i64 (x:Int),.ptr q 0,.int .i64 (k:Int)] s=if bl x∈names then k1 [.bool true] s else k2 [] s:=by
 intro m;have N:=qN hc x hx s hw;have cu:∀j:Nat,(cellsOf (s.heap.get q)).bind (λcs=>cs[0]?)=some V:=λ_=>by rw[hq];rfl
 induction m with
 |zero=>
  intro k f hf h1 j6;obtain⟨f,rfl⟩:∃g,f=g+1:=⟨f - 1,by omega⟩
  obtain rfl:k=rows.length:=by omega
  rw[<-hlen,Zi8]at j6;rw[Za5 j6,lz];have lI:=λ(K:AV->St->Option (AV×St))=>h.lenB (c:=c) K s
  simp[hq,lI]
 |succ m ih=>
  intro k f hf h1 j6;obtain⟨f,rfl⟩:∃g,f=g+1:=⟨f - 1,by omega⟩
  have hk:k<rows.length:=by omega
  have kW:k<names.length:=by omega
  have lI:=λ(K:AV->St->Option (AV×St))=>h.lenB (c:=c) K s
  have w:ay .i64 ((k:Int)+1)=((k+1:Nat):Int):=wrap64 (by omega) (by omega);obtain⟨b,off,cap,cs,e,g1,g2⟩:=R2 h hr hk;have nm:=g2 0 _ (hn k hk kW);have hb:=h.beq;have r1:=λ(K:AV->Option (AV×St))=>we K (o:=0) (v:=V) (h:=s.heap) (h2:=s.heap) (p:=q) (by rw[hq];rfl) (by rw[hq];rfl) hb
  have r2:=λ(K:AV->Option (AV×St))=>we K (o:=off+k*9) (v:= .str names[k]) (h:=s.heap) (h2:=s.heap) (p:=b) (by rw[g1];exact nm) (by rw[g1];exact nm) (by simp[dJ,jT,fI,jI.2 rfl])
  have ix:=λ(K:AV->Option (AV×St))=>Bo K (b:=b) (off:=off) (es:=9) (es':=9) (cap:=cap) (k:= .i64) hk
  rw[<-e]at ix;by_cases heq:names[k]=bl x
  .have mem:bl x∈names:=(by rw[<-heq];exact Zb9 kW);rw[Za7 mem,lz];simp[hq,lI,hk,N,r1,r2,ix,heq]
  . have hno2:bl x∉names.take (k+1):=by
        rw[Zd0 kW,Zd7,Zd2];rintro(h|h)
        .exact j6 h
        .exact heq h.symm
    rw[<-ih (k+1) f (by omega) (by omega) hno2,lz];have d:decide (names[k]=bl x)=false:=Za2 heq;simp[hq,lI,hk,N,r1,r2,ix,heq,d,w]
theorem aaw(hc:cE c){s:St}{V W:AV}{rows:List (List AV)}(h:QS 9 s V rows)(hr:∀r∈rows,r.length=9){names:List (List Nat)}(hlen:names.length=rows.length)(hn:∀(i:Nat)(h1:i<rows.length)(h2:i<names.length),rows[i][0]? =some (.str names[i]))(aaV:rows.length<=1000)
   (x:Nat) (hx:x<1000000) (hw:Wf s):c 45 [.agg [V,W],.int .i64 (x:Int)] s=some (.bool (decide (bl x∈names)),s):=by
 have hg:=Grew.af hw (.cells [V,W] 0);have h2:QS 9 (af s (.cells [V,W] 0)) V rows:=h.mono λb y _ hy=>hg.get hy
 have L:=Vu hc h2 hr hlen hn aaV (aD s (.cells [V,W] 0)) x hx (bR hw) (rows.length+1) (λvs s13=>js vs λx4 vs=>pZ vs (some (x4,s13))) (λvs s14=>pZ vs (ak c .move [.bool false] s14 λx4 s15=>some (x4,s15))) rows.length 0 (rows.length+1) (by omega) (by omega) (by simp);rw[BW hc (rows.length+1) (r:=(.bool (decide (bl x∈names)),af s (.cells [V,W] 0))),aL (Plain.bool _) hg.keeps];rw[El];by_cases hm:bl x∈names
 .rw[Za7 hm]at L;simp at L;simp[L,hm]
 .rw[Za5 hm]at L;simp at L;simp[L,hm]
end
section
open Go Go.Ai Go.Proofs
def jS(gs:List aN)(i:Nat):List Nat:=match gs[i]? with|some g=>g.name|none=>[]
def xH(gs:List aN)(i:Nat):List Nat:=match gs[i]? with|some g=>g.m8|none=>[]
def qv(ts:List aR)(i:Nat):List Nat:=match ts[i]? with|some t=>t.name|none=>[]
def tY(ts:List aR)(i:Nat):Int:=match ts[i]? with|some t=>jf t.sh t.a t.b|none=>0
def D4(ts:List aR)(gs:List aN)(k wt a b t n z:Nat):Rl×Bool:=
 if k=1\/k=2\/k=3\/k=4\/k=5 then(⟨k,wt,jS gs a,jS gs b,[],if k=4 then((n+1:Nat):Int)else if k=1 then(n:Int)else 0⟩,decide (a≠b))
 else if k=6\/k=7 then(⟨k,wt,jS gs a,[],qv ts t,if k=7 then((z / 13:Nat):Int) % tY ts t else 0⟩,true)
 else if k=10 then(⟨k,wt,if z % 3=0 then jS gs a else [],[],[],0⟩,true)
 else if k=17 then(⟨k,wt,xH gs a,[],qv ts t,0⟩,decide (xH gs a≠[]))
 else(⟨k,wt,[],[],if 0<z % 3 then qv ts t else [],if k=15\/k=16 then(n:Int)else 0⟩,true)
def G1(y:Nat):Nat:=if 1<y % 5 then 1+y % 7 else 0
def eM(ts:List aR)(gs:List aN)(x:Nat):Rl×Bool:=
 if gs.length=0\/ts.length=0 then(⟨((1+x % 18:Nat):Int),(G1 (x / 18):Int),[],[],[],0⟩,false)
 else D4 ts gs (1+x % 18) (G1 (x / 18)) (x / 18 / 5 % gs.length) (x / 18 / 5 / gs.length % gs.length) (x / 18 / 5 / 7 % ts.length) (x / 18 / 5 / 11 % 4) (x / 18 / 5)
theorem Ni(i:Nat):jG (bl i)=true:=by unfold jG bl;have h1:i / 26 % 26<26:=Zh8 _ (by omega);have h2:i % 26<26:=Zh8 _ (by omega);simp;omega
variable{c:ai}
theorem OA{cs row:List AV}{o n:Nat}(hl:row.length=n)(h0:0<n)(h:∀(j:Nat)(u:AV),row[j]? =some u->cs[o+j]? =some u):cut cs o n=some row:=by
 have h1:=h (n - 1) row[n - 1] (H4 (by omega));have h2:=(Za0.1 h1).1;unfold cut;have:Nat.ble (o+n) cs.length=true:=by rw[Nat.ble_eq];omega
 rw[this];simp only;congr 1;refine Zh1 λi=> ?_
 rw[Zb8];split
 .rename_i hi;rw[Zc4,h i _ (H4 (by omega)),H4 (by omega)]
 .rw[Zb7 (by omega)]
theorem TS.row{s0 s:St}{V:AV}{ts:List aR}{rows:List (List AV)}(h:TS s0 s V ts rows){i:Nat}(hi:i<ts.length):
   ∃b off cap cs v,V= .slice b off rows.length cap 7/\s.heap.get b=some (.cells cs 0)/\cut cs (off+i*7) 7=some (ts[i].az v)/\cs[off+i*7]? =some (.str ts[i].name):=by
 have hr:i<rows.length:=by rw[h.len];exact hi
 obtain⟨b,off,cap,cs,e,g1,g2⟩:=R2 h.out.own h.out.row hr;obtain⟨v,e1,_,_⟩:=h.qU i ts[i] rows[i] (H4 hi) (H4 hr);refine⟨b,off,cap,cs,v,e,g1,?_,?_⟩
 .rw[<-e1];exact OA (h.out.row _ (Zb9 hr)) (by omega) g2
 . have:=g2 0 (.str ts[i].name) (by rw[e1];rfl)
   rwa [Zg7]at this
theorem GS.row{s0 s:St}{V:AV}{gs:List aN}{rows:List (List AV)}(h:GS s0 s V gs rows){i:Nat}(hi:i<gs.length):
   ∃b off cap cs v,V= .slice b off rows.length cap 9/\s.heap.get b=some (.cells cs 0)/\cut cs (off+i*9) 9=some (gs[i].az v)/\cs[off+i*9]? =some (.str gs[i].name)/\cs[off+i*9+5]? =some (.str gs[i].m8):=by
 have hr:i<rows.length:=by rw[h.len];exact hi
 obtain⟨b,off,cap,cs,e,g1,g2⟩:=R2 h.out.own h.out.row hr;obtain⟨v,e1,_,_⟩:=h.qU i gs[i] rows[i] (H4 hi) (H4 hr);refine⟨b,off,cap,cs,v,e,g1,?_,?_,?_⟩
 .rw[<-e1];exact OA (h.out.row _ (Zb9 hr)) (by omega) g2
 . have:=g2 0 (.str gs[i].name) (by rw[e1];rfl)
   rwa [Zg7]at this
 .exact g2 5 (.str gs[i].m8) (by rw[e1];rfl)
theorem QS.aaW{R:Type}{es:Nat}{s:St}{v:AV}{rows:List (List AV)}(h:QS es s v rows)(K:AV->Option R):ey (.lenB .l) [v] K=K (.int .i64 (rows.length:Int)):=by
 rcases h with⟨rfl,rfl⟩|⟨b,off,cap,cs,rfl,_⟩|⟨b,off,rfl,rfl⟩<;>exact cV K (λH n=>rfl)
abbrev dX(k w:Int)(a b t:List Nat)(n:Int):List AV:=[.int .u8 k,.int .i64 w,.str a,.str b,.str t,.int .i64 n]
theorem abK(k w n w':Int)(a b t:List Nat)(s:St)(K:AV->St->Option (AV×St)):ak c (.store 1) [.ptr s.next 1,.int .i64 w'] (af s (.cells (dX k w a b t n) 0)) K=K .undef (af s (.cells (dX k w' a b t n) 0)):=iA s _ 1 (.int .i64 w') (by simp) rfl rfl K
theorem T9(k w n:Int)(a b t u:List Nat)(s:St)(K:AV->St->Option (AV×St)):ak c (.store 1) [.ptr s.next 2,.str u] (af s (.cells (dX k w a b t n) 0)) K=K .undef (af s (.cells (dX k w u b t n) 0)):=iA s _ 2 (.str u) (by simp) rfl rfl K
theorem abL(k w n:Int)(a b t u:List Nat)(s:St)(K:AV->St->Option (AV×St)):ak c (.store 1) [.ptr s.next 3,.str u] (af s (.cells (dX k w a b t n) 0)) K=K .undef (af s (.cells (dX k w a u t n) 0)):=iA s _ 3 (.str u) (by simp) rfl rfl K
theorem Ua(k w n:Int)(a b t u:List Nat)(s:St)(K:AV->St->Option (AV×St)):ak c (.store 1) [.ptr s.next 4,.str u] (af s (.cells (dX k w a b t n) 0)) K=K .undef (af s (.cells (dX k w a b u n) 0)):=iA s _ 4 (.str u) (by simp) rfl rfl K
theorem zf(k w n n':Int)(a b t:List Nat)(s:St)(K:AV->St->Option (AV×St)):ak c (.store 1) [.ptr s.next 5,.int .i64 n'] (af s (.cells (dX k w a b t n) 0)) K=K .undef (af s (.cells (dX k w a b t n') 0)):=iA s _ 5 (.int .i64 n') (by simp) rfl rfl K
theorem acj{ts:List aR}(h:∀t∈ts,0<jf t.sh t.a t.b/\jf t.sh t.a t.b<=1000){t:Nat}(ht:t<ts.length):tY ts t=jf ts[t].sh ts[t].a ts[t].b/\0<tY ts t/\tY ts t<=1000:=by
 have e:tY ts t=jf ts[t].sh ts[t].a ts[t].b:=by unfold tY;rw[H4 ht]
 rw[e];exact⟨rfl,h _ (Zb9 ht)⟩
theorem aax (hc : cE c){s0 s:St}{V1 V2 V3 V4 V5:AV}{ts:List aR}{gs:List aN}{r1 r2:List (List AV)}(hT:TS s0 s V1 ts r1)(hG:GS s0 s V2 gs r2)(lt:ts.length<=1000)(lg:gs.length<=1000)
   (hz:∀t∈ts,0<jf t.sh t.a t.b/\jf t.sh t.a t.b<=1000) (ha:∀t∈ts,(0<=t.a/\t.a<=1000000)/\0<=t.b/\t.b<=1000000) (x:Nat) (hx:x<4294967296):
   c 24 [.agg [V1,V2,V3,V4,V5],.int .i64 (x:Int)] s=some (.tuple [.agg (eM ts gs x).1.cells,.bool (eM ts gs x).2],s):=by
 have hw:=hT.out.aA.wf;have plain:∀(r:Rl)(b:Bool),Plain (.tuple [.agg r.cells,.bool b]):=λr b=>Plain.tuple λv hv=>by
   simp only[Za9,Ze5,Zi9]at hv;rcases hv with rfl|rfl
   .exact Plain.agg λv hv=>by simp only[Rl.cells,Za9,Ze5,Zi9]at hv;rcases hv with rfl|rfl|rfl|rfl|rfl|rfl<;>first|exact Plain.int _ _|exact Plain.str _
   .exact Plain.bool _
 suffices key:∃s',ic c 1 (.agg [V1,V2,V3,V4,V5]) (.int .i64 (x:Int)) s=some (.tuple [.agg (eM ts gs x).1.cells,.bool (eM ts gs x).2],s')/\bD s s' by
   obtain⟨s',k1,k2⟩:=key;rw[BV hc 1 (r:=(.tuple [.agg (eM ts gs x).1.cells,.bool (eM ts gs x).2],s')) k1,aL (plain _ _) k2]
 have dI:Wf (af s (.cells [V1,V2,V3,V4,V5] 0)):=bR hw;have g1:=Grew.af hw (.cells [V1,V2,V3,V4,V5] 0);have mT:Wf (af (af s (.cells [V1,V2,V3,V4,V5] 0)) (.cells (dX 0 0 [] [] [] 0) 0)):=bR dI;have g2:=Grew.af dI (.cells (dX 0 0 [] [] [] 0) 0);have g12:=g1.trans g2;obtain⟨s2,xp⟩:∃s2,s2=af (af s (.cells [V1,V2,V3,V4,V5] 0)) (.cells (dX 0 0 [] [] [] 0) 0):=⟨_,rfl⟩
 obtain⟨p4,hp4⟩:∃p4,p4=(af s (.cells [V1,V2,V3,V4,V5] 0)).next:=⟨_,rfl⟩
 have aay:Wf s2:=by rw[xp];exact mT
 have Vv:Grew s s2:=by rw[xp];exact g12
 have b2:s2.heap.get s.next=some (.cells [V1,V2,V3,V4,V5] 0):=by rw[xp];exact g2.get (aD _ _)
 have b4:s2.heap.get p4=some (.cells (dX 0 0 [] [] [] 0) 0):=by rw[xp,hp4];exact aD _ _
 have n4:s.next.toNat<p4.toNat:=by rw[hp4,c9,Pos.ax];omega
 have n6:p4.toNat<s2.next.toNat:=aay _ _ b4;have gS:∀b:AB,Grew s2 (af s2 b):=λb=>Grew.af aay b
 have hP:∀b:AB,(af s2 b).heap.get s.next=some (.cells [V1,V2,V3,V4,V5] 0):=λb=>(gS b).get b2
 have hX:∀b:AB,(af s2 b).heap.get p4=some (.cells (dX 0 0 [] [] [] 0) 0):=λb=>(gS b).get b4
 have fin:∀(k w n:Int)(a b t:List Nat)(K:AV->St->Option (AV×St)),ak c (.store 6) [.ptr p4 0,.agg (dX k w a b t n)] (af s2 (.cells (dX k w a b t n) 0)) K=K .undef (cm (af s2 (.cells (dX k w a b t n) 0)) p4 (.cells (dX k w a b t n) 0)):=λk w n a b t K=>by rw[dG c K _ 6 p4 0 (.agg (dX k w a b t n)) _ (hX _) rfl (by simp) rfl];rfl
 have kp:∀(k w n:Int)(a b t:List Nat),bD s (cm (af s2 (.cells (dX k w a b t n) 0)) p4 (.cells (dX k w a b t n) 0)):=λk w n a b t q y hq=>by have:=hw _ _ hq;rw[br (λe=>by subst e;omega)];exact(Vv.trans (gS _)).get hq
 have cu:∀(k w n:Int)(a b t:List Nat),cut (dX k w a b t n) 0 6=some (dX k w a b t n):=λk w n a b t=>bQ rfl
 obtain⟨Q,hQ⟩:∃Q:Option (AV×St)->Prop,Q=λo=>∃s',o=some (.tuple [.agg (eM ts gs x).1.cells,.bool (eM ts gs x).2],s')/\bD s s':=⟨_,rfl⟩
 have wG:∀(k w n:Int)(a b t:List Nat)(bb:Bool),(⟨k,w,a,b,t,n⟩:Rl)=(eM ts gs x).1->bb=(eM ts gs x).2->Q (some (.tuple [.agg (dX k w a b t n),.bool bb],cm (af s2 (.cells (dX k w a b t n) 0)) p4 (.cells (dX k w a b t n) 0))):=λk w n a b t bb h1 h2=>by
   rw[hQ];exact⟨_,by rw[<-h1, <-h2];rfl,kp _ _ _ _ _ _⟩
 have LQ:Q (ic c 1 (.agg [V1,V2,V3,V4,V5]) (.int .i64 (x:Int)) s)->∃s',ic c 1 (.agg [V1,V2,V3,V4,V5]) (.int .i64 (x:Int)) s=some (.tuple [.agg (eM ts gs x).1.cells,.bool (eM ts gs x).2],s')/\bD s s':=λh=>by rw[hQ]at h;exact h
 apply LQ;clear LQ;obtain⟨r,hr⟩:∃r:Nat,r=x % 18:=⟨_,rfl⟩
 obtain⟨k,hk⟩:∃k:Nat,k=1+x % 18:=⟨_,rfl⟩
 obtain⟨y,hy⟩:∃y:Nat,y=x / 18:=⟨_,rfl⟩
 obtain⟨y5,hy5⟩:∃y5:Nat,y5=y % 5:=⟨_,rfl⟩
 obtain⟨y7,hy7⟩:∃y7:Nat,y7=y % 7:=⟨_,rfl⟩
 obtain⟨z,hz5⟩:∃z:Nat,z=y / 5:=⟨_,rfl⟩
 obtain⟨w,Yf⟩:∃w:Nat,w=G1 y:=⟨_,rfl⟩
 have E1:(x:Int) % 18=(r:Int):=by omega
 have W1:ay .i64 (1+(r:Int))=(k:Int):=(wrap64 (by omega) (by omega)).trans (by omega);have W8:ay .u8 (k:Int)=(k:Int):=wQ (by omega) (by omega);have E2:(x:Int) / 18=(y:Int):=by omega
 have E3:(y:Int) % 5=(y5:Int):=by omega
 have E4:(y:Int) % 7=(y7:Int):=by omega
 have W2:ay .i64 (1+(y7:Int))=1+(y7:Int):=wrap64 (by omega) (by omega);have E5:(y:Int) / 5=(z:Int):=by omega
 obtain⟨g,hg⟩:∃g,g=gs.length:=⟨_,rfl⟩
 obtain⟨T,hTl⟩:∃T,T=ts.length:=⟨_,rfl⟩
 have pl2:∀(K:AV->Option (AV×St)),ey (.lenB .l) [V2] K=K (.int .i64 (g:Int)):=λK=>by rw[hg, <-hG.len];exact QS.aaW hG.out.own K
 have pl1:∀(K:AV->Option (AV×St)),ey (.lenB .l) [V1] K=K (.int .i64 (T:Int)):=λK=>by rw[hTl, <-hT.len];exact QS.aaW hT.out.own K
 have Oa:∀(l:List AV)(K:AV->Option (AV×St)),jV (.load none) [.ptr s.next (0+1)] (af s2 (.cells l 0)).heap (λ_=>true) K=K V2:=λl K=>by rw[nZ,hP];rfl
 have rd0:∀(l:List AV)(K:AV->Option (AV×St)),jV (.load none) [.ptr s.next (0+0)] (af s2 (.cells l 0)).heap (λ_=>true) K=K V1:=λl K=>by rw[nZ,hP];rfl
 have T8:∀(k':Int)(s':St)(K:AV->St->Option (AV×St)),ak c (.build [.int .u8 0,.int .i64 0,.str [],.str [],.str [],.int .i64 0] [(0,1)]) [.int .u8 k'] s' K=K (.agg (dX k' 0 [] [] [] 0)) s':=λk' s' K=>rfl
 have sto0:∀(k':Int)(K:AV->St->Option (AV×St)),ak c (.store 6) [.ptr s2.next 0,.agg (dX k' 0 [] [] [] 0)] (af s2 (.cells (dX 0 0 [] [] [] 0) 0)) K=K .undef (af s2 (.cells (dX k' 0 [] [] [] 0) 0)):=λk' K=>dQ c K s2 6 (.agg (dX k' 0 [] [] [] 0)) (dX 0 0 [] [] [] 0) rfl rfl rfl
 rw[Ej];rw[oW,iW,show AV.cells (.agg [V1,V2,V3,V4,V5])=[V1,V2,V3,V4,V5]from rfl, <-xp, <-hp4,aE,aE,bN (by omega) (by omega),E1,tK,W1,JB,W8,T8,iW,sto0,aE,eX (by omega) (by omega) (by omega),E2,aE];refine qb (P:=λj=>Q (j [.int .i64 (y:Int),.ptr s.next 0,.ptr p4 0,.ptr s2.next 0] (af s2 (.cells (dX k w [] [] [] 0) 0)))) ?_ ?_
 . rw[  aH, aH, aH, aH,dD,aE,eX (by omega) (by omega) (by omega),E5,aE,bk,Oa,pl2,bk,rd0,pl1,bZ,bZ,aE,eD,aE];by_cases hg0:g=0
   . rw[H5 (show(g:Int)=0 by omega),WT,WT,UO,jL];have hR:eM ts gs x=(⟨(k:Int),(w:Int),[],[],[],0⟩,false):=by
        unfold eM;rw[Za7 (.inl (by omega)), <-hk, <-hy, <-Yf]
     have:=wG k w 0 [] [] [] false (by rw[hR]) (by rw[hR]);simp[cu,fin];exact this
   rw[Za2 (show ¬(g:Int)=0 by omega),tJ,aE,tJ,eD,UP];by_cases hT0:T=0
   . rw[H5 (show(T:Int)=0 by omega),jL];have hR:eM ts gs x=(⟨(k:Int),(w:Int),[],[],[],0⟩,false):=by
        unfold eM;rw[Za7 (.inr (by omega)), <-hk, <-hy, <-Yf]
     have:=wG k w 0 [] [] [] false (by rw[hR]) (by rw[hR]);simp[cu,fin];exact this
   rw[Za2 (show ¬(T:Int)=0 by omega),jW];obtain⟨a,ea⟩:∃a:Nat,a=z % g:=⟨_,rfl⟩
   obtain⟨zg,ezg⟩:∃zg:Nat,zg=z / g:=⟨_,rfl⟩
   obtain⟨b,eb⟩:∃b:Nat,b=zg % g:=⟨_,rfl⟩
   obtain⟨z7,ez7⟩:∃z7:Nat,z7=z / 7:=⟨_,rfl⟩
   obtain⟨t,et⟩:∃t:Nat,t=z7 % T:=⟨_,rfl⟩
   obtain⟨Yg,ez11⟩:∃Yg:Nat,Yg=z / 11:=⟨_,rfl⟩
   obtain⟨n,en⟩:∃n:Nat,n=Yg % 4:=⟨_,rfl⟩
   have hR:eM ts gs x=D4 ts gs k w a b t n z:=by
     unfold eM;rw[Za5 (by omega), <-hk, <-hy, <-Yf, <-hz5, <-hg, <-hTl, <-ea, <-ezg, <-eb, <-ez7, <-et, <-ez11, <-en]
   have Ea:(z:Int) % (g:Int)=(a:Int):=(by rw[ea];exact(Zj4 _ _).symm);have Ezg:(z:Int) / (g:Int)=(zg:Int):=(by rw[ezg];exact(Int.natCast_ediv _ _).symm);have Eb:(zg:Int) % (g:Int)=(b:Int):=(by rw[eb];exact(Zj4 _ _).symm);have Ez7:(z:Int) / 7=(z7:Int):=(by omega);have Et:(z7:Int) % (T:Int)=(t:Int):=(by rw[et];exact(Zj4 _ _).symm);have Ez11:(z:Int) / 11=(Yg:Int):=(by omega);have En:(Yg:Int) % 4=(n:Int):=(by omega);have za:a<g:=(by rw[ea];exact Zh8 _ (by omega));have zb:b<g:=(by rw[eb];exact Zh8 _ (by omega));have zt:t<T:=(by rw[et];exact Zh8 _ (by omega));have gp:0<(g:Int):=(by omega);have Tp:0<(T:Int):=(by omega);rw[bZ,bZ,wo (by omega) gp,Ea,bZ,bZ,QO (by omega) (by omega) gp,Ezg,bZ,wo (by omega) gp,Eb,bZ,QO (by omega) (by omega) (by omega),Ez7,bZ,wo (by omega) Tp,Et,bZ,bZ,bZ,
     aE,eX (by omega) (by omega) (by omega),Ez11,bN (by omega) (by omega),En,aE]
   (clear Ea Ezg Eb Ez7 Et Ez11 En ea ezg eb ez7 et ez11;have rQ:1<=k:=(by omega);have kW:k<=18:=(by omega);obtain⟨bA,oA,Ur,csA,vA,eA,hA,_,nA,dA⟩:=hG.row (i:=a) (by omega);obtain⟨bB,oB,capB,csB,vB,eB,hB,_,nB,_⟩:=hG.row (i:=b) (by omega);obtain⟨bT,oT,capT,csT,vT,eT,hTb,cT,nT⟩:=hT.row (i:=t) (by omega);have gA:gs[a].name=jS gs a/\gs[a].m8=xH gs a:=(by unfold jS xH;rw[H4 (by omega)];exact⟨rfl,rfl⟩);have gB:gs[b].name=jS gs b:=(by unfold jS;rw[H4 (by omega)]);have gT:ts[t].name=qv ts t:=(by unfold qv;rw[H4 (by omega)]);rw[gA.1]at nA;rw[gA.2]at dA;rw[gB]at nB;rw[gT]at nT;have Vw:∀l:List AV,(af s2 (.cells l 0)).heap.get bA=some (.cells csA 0):=λl=>(gS _).get (Vv.get hA));have aaX:∀l:List AV,(af s2 (.cells l 0)).heap.get bB=some (.cells csB 0):=λl=>(gS _).get (Vv.get hB)
   have heapT:∀l:List AV,(af s2 (.cells l 0)).heap.get bT=some (.cells csT 0):=λl=>(gS _).get (Vv.get hTb)
   have ixA:∀(K:AV->Option (AV×St)),ey (.idxA 9 none) [V2,.int .i64 (a:Int)] K=K (.ptr bA (oA+a*9)):=λK=>by rw[eA];exact Bo K (by rw[hG.len];omega)
   have ixB:∀(K:AV->Option (AV×St)),ey (.idxA 9 none) [V2,.int .i64 (b:Int)] K=K (.ptr bB (oB+b*9)):=λK=>by rw[eB];exact Bo K (by rw[hG.len];omega)
   have ixT:∀(K:AV->Option (AV×St)),ey (.idxA 7 none) [V1,.int .i64 (t:Int)] K=K (.ptr bT (oT+t*7)):=λK=>by rw[eT];exact Bo K (by rw[hT.len];omega)
   have sxA:∀(K:AV->St->Option (AV×St))(s':St),ak c (.idxA 9 none) [V2,.int .i64 (a:Int)] s' K=K (.ptr bA (oA+a*9)) s':=λK s'=>by rw[eA];exact wj c K s' (by rw[hG.len];omega)
   have sxT:∀(K:AV->St->Option (AV×St))(s':St),ak c (.idxA 7 none) [V1,.int .i64 (t:Int)] s' K=K (.ptr bT (oT+t*7)) s':=λK s'=>by rw[eT];exact wj c K s' (by rw[hT.len];omega)
   have cA:=λ(l l':List AV)(K:AV->Option (AV×St))=>v9 K (o:=1) (v:=V2) (h:=(af s2 (.cells l 0)).heap) (h2:=(af s2 (.cells l' 0)).heap) (p:=s.next) (by rw[hP];rfl) (by rw[hP];rfl) hG.out.own.beq
   have cP:=λ(l l':List AV)(K:AV->Option (AV×St))=>v9 K (o:=0) (v:=V1) (h:=(af s2 (.cells l 0)).heap) (h2:=(af s2 (.cells l' 0)).heap) (p:=s.next) (by rw[hP];rfl) (by rw[hP];rfl) hT.out.own.beq
   have sb:∀u:List Nat,dJ (.str u) (.str u)=true:=λu=>by simp[dJ,jT,fI,jI.2 rfl]
   clear eA eB eT;generalize oA+a*9=qA at*
   generalize oB+b*9=qB at*
   generalize oT+t*7=qT at*
   have cB:=λ(l l':List AV)(K:AV->Option (AV×St))=>v9 K (o:=qB+0) (v:= .str (jS gs b)) (h:=(af s2 (.cells l 0)).heap) (h2:=(af s2 (.cells l' 0)).heap) (p:=bB) (by rw[aaX];exact nB) (by rw[aaX];exact nB) (sb _)
   have cTn:=λ(l l':List AV)(K:AV->Option (AV×St))=>v9 K (o:=qT+0) (v:= .str (qv ts t)) (h:=(af s2 (.cells l 0)).heap) (h2:=(af s2 (.cells l' 0)).heap) (p:=bT) (by rw[heapT];exact nT) (by rw[heapT];exact nT) (sb _)
   have rdA:∀(l:List AV)(K:AV->Option (AV×St)),jV (.load none) [.ptr bA (qA+0)] (af s2 (.cells l 0)).heap (λ_=>true) K=K (.str (jS gs a)):=λl K=>by rw[nZ,Vw,Zg7,show(cellsOf (some (.cells csA 0))).bind (λcs=>cs[qA]?)=some (.str (jS gs a))from nA];rfl
   have su2:∀(k w n:Int)(a b t u:List Nat)(K:AV->St->Option (AV×St)),ak c (.store 1) [.ptr s2.next (0+2),.str u] (af s2 (.cells (dX k w a b t n) 0)) K=K .undef (af s2 (.cells (dX k w u b t n) 0)):=λk w n a b t u K=>T9 k w n a b t u s2 K
   have su3:∀(k w n:Int)(a b t u:List Nat)(K:AV->St->Option (AV×St)),ak c (.store 1) [.ptr s2.next (0+3),.str u] (af s2 (.cells (dX k w a b t n) 0)) K=K .undef (af s2 (.cells (dX k w a u t n) 0)):=λk w n a b t u K=>abL k w n a b t u s2 K
   have su4:∀(k w n:Int)(a b t u:List Nat)(K:AV->St->Option (AV×St)),ak c (.store 1) [.ptr s2.next (0+4),.str u] (af s2 (.cells (dX k w a b t n) 0)) K=K .undef (af s2 (.cells (dX k w a b u n) 0)):=λk w n a b t u K=>Ua k w n a b t u s2 K
   have OB:∀(k w n:Int)(a b t:List Nat)(K:AV->St->Option (AV×St)),ak c (.load none) [.ptr s2.next (0+0)] (af s2 (.cells (dX k w a b t n) 0)) K=K (.int .u8 k) (af s2 (.cells (dX k w a b t n) 0)):=λk w n a b t K=>by rw[iH,aD];rfl
   refine qb (P:=λj=>¬(k=1\/k=2\/k=3\/k=4\/k=5\/k=6\/k=7\/k=10\/k=17)->Q (j [.int .i64 (z:Int),.ptr s.next 0,.ptr p4 0,.ptr s2.next 0,.int .i64 (t:Int)] (af s2 (.cells (dX k w [] [] [] (if k=15\/k=16 then(n:Int)else 0)) 0)))) ?_ ?_
   . intro hns;obtain⟨z3,e3⟩:∃z3:Nat,z3=z % 3:=⟨_,rfl⟩
     have E6:(z:Int) % 3=(z3:Int):=(by omega);have hf:=hR;unfold D4 at hf;rw[Za5 (by omega),Za5 (by omega),Za5 (by omega),Za5 (by omega), <-e3]at hf;obtain⟨n',Qh⟩:∃n':Int,n'=(if k=15\/k=16 then(n:Int)else 0):=⟨_,rfl⟩
     rw[<-Qh]at hf ⊢;by_cases h3:0<z3
     .  have hd:decide (0<z3)=true:=H5 h3;rw[Za7 h3]at hf;have:=wG k w n' [] [] (qv ts t) true (by rw[hf]) (by rw[hf]);simp (disch:=omega) [-eE,fY,Zb1,bN,E6,hd,hP,sxT,heapT,nT,Ua,cu,fin,dF];exact this
     .  have hd:decide (0<z3)=false:=Za2 h3;rw[Za5 h3]at hf;have:=wG k w n' [] [] [] true (by rw[hf]) (by rw[hf]);simp (disch:=omega) [-eE,fY,bN,E6,hd,cu,fin,dF];exact this
   . intro  j40 R3;rw[cS,OB];refine qb (P:=λj=>Q (j [.int .i64 (z:Int),.ptr s.next 0,.ptr p4 0,.ptr s2.next 0,.int .i64 (a:Int),.int .i64 (b:Int),.int .i64 (t:Int),.int .i64 (n:Int),.int .u8 (k:Int),.bool (decide (k=1\/k=2\/k=3\/k=4\/k=5))] (af s2 (.cells (dX k w [] [] [] 0) 0)))) ?_ ?_
     .  rw[ aH, aH, aH,aH,aH,aH,aH,aH,aH,aH,dD];by_cases h5:k=1\/k=2\/k=3\/k=4\/k=5
        . rw[ H5 h5,jL];have hf:=hR;unfold D4 at hf;rw[Za7 h5]at hf;have fF:Q (some (.tuple [.agg (dX k w (jS gs a) (jS gs b) [] (if k=4 then(n:Int)+1 else if k=1 then(n:Int)else 0)),.bool (!decide ((a:Int)=(b:Int)))],cm (af s2 (.cells (dX k w (jS gs a) (jS gs b) [] (if k=4 then(n:Int)+1 else if k=1 then(n:Int)else 0)) 0)) p4 (.cells (dX k w (jS gs a) (jS gs b) [] (if k=4 then(n:Int)+1 else if k=1 then(n:Int)else 0)) 0))):=
            wG k w _ (jS gs a) (jS gs b) [] _ (by rw[hf];rfl) (by rw[hf];simp;omega)
          have wn:ay .i64 ((n:Int)+1)=(n:Int)+1:=wrap64 (by omega) (by omega);clear wG R3;rw[bk,Oa,bZ,ixA,bk,rdA,bk,su2,bk,cA,bZ,ixB,bk,cB,bk,su3];refine qb (P:=λj=>Q (j [.ptr p4 0,.ptr s2.next 0,.int .i64 (a:Int),.int .i64 (b:Int)] (af s2 (.cells (dX k w (jS gs a) (jS gs b) [] (if k=1\/k=4 then(n:Int)else 0)) 0)))) ?_ ?_
          . rw[ aH,aH,aH,aH,dD];refine qb (P:=λj=>Q (j [.ptr p4 0,.ptr s2.next 0,.int .i64 (a:Int),.int .i64 (b:Int)] (af s2 (.cells (dX k w (jS gs a) (jS gs b) [] (if k=4 then(n:Int)+1 else if k=1 then(n:Int)else 0)) 0)))) ?_ ?_
            . generalize (if k=4 then(n:Int)+1 else if k=1 then(n:Int)else 0)=n6 at*
              simp[cu,fin,dF];exact fF
            . intro j hj;by_cases h4:k=4
              .have hd:decide ((k:Int)=4)=true:=H5 (by omega);rw[Za7 h4]at hj;rw[Za7 (.inr h4),cS,OB,eD,hd,jL];simp[wn,zf];exact hj
              .have hd:decide ((k:Int)=4)=false:=Za2 (by omega);rw[Za5 h4]at hj;rw[show(if k=1\/k=4 then(n:Int)else 0)=(if k=1 then(n:Int)else 0)by by_cases h1:k=1<;>simp[h1,h4],cS,OB,eD,hd,jW];exact hj
          . intro j hj;rw[cS,OB,eD,aE];by_cases h1:k=1
            .rw[Za7 (.inl h1)]at hj;rw[H5 (show(k:Int)=1 by omega)];simp[zf];exact hj
            . rw[Za2 (show ¬(k:Int)=1 by omega)];by_cases h4:k=4
              .rw[Za7 (.inr h4)]at hj;have hd:decide ((k:Int)=4)=true:=H5 (by omega);rw[tJ,cS,tJ,OB,tJ,eD,hd];simp[zf];exact hj
              .rw[Za5 (by omega)]at hj;have hd:decide ((k:Int)=4)=false:=Za2 (by omega);rw[tJ,cS,tJ,OB,tJ,eD,hd];simp;exact hj
        . rw[ Za2 h5, jW];refine qb (P:=λj=>Q (j [.int .i64 (z:Int),.ptr s.next 0,.ptr p4 0,.ptr s2.next 0,.int .i64 (a:Int),.int .i64 (t:Int),.int .i64 (n:Int),.int .u8 (k:Int),.bool (decide (k=6\/k=7))] (af s2 (.cells (dX k w [] [] [] 0) 0)))) ?_ ?_
          . rw[ aH, aH,aH,aH,aH,aH,aH,aH,aH,dD];by_cases Yh:k=6\/k=7
            . rw[ H5 Yh,jL];have hf:=hR;unfold D4 at hf;rw[Za5 h5,Za7 Yh]at hf;obtain⟨sz1,sz2,sz3⟩:=acj hz (t:=t) (by omega);obtain⟨ha1,ha2⟩:=ha _ (Zb9 (show t<ts.length by omega));obtain⟨LR,e13⟩:∃LR:Nat,LR=z / 13:=⟨_,rfl⟩
              have E13:(z:Int) / 13=(LR:Int):=(by omega);rw[<-e13]at hf;have SZ:∀l:List AV,c 22 [.agg (ts[t].az vT)] (af s2 (.cells l 0))=some (.int .i64 (tY ts t),af s2 (.cells l 0)):=λl=>by rw[sz1];exact zP hc rfl rfl rfl ha1 ha2 _ (bR aay)
              have fF:Q (some (.tuple [.agg (dX k w (jS gs a) [] (qv ts t) (if k=7 then(LR:Int) % tY ts t else 0)),.bool true],cm (af s2 (.cells (dX k w (jS gs a) [] (qv ts t) (if k=7 then(LR:Int) % tY ts t else 0)) 0)) p4 (.cells (dX k w (jS gs a) [] (qv ts t) (if k=7 then(LR:Int) % tY ts t else 0)) 0))):=
                wG k w _ (jS gs a) [] (qv ts t) _ (by rw[hf]) (by rw[hf])
              clear wG R3;rw[bk,Oa,bZ,ixA,bk,rdA,bk,su2,bk,cP,bZ,ixT,bk,cTn,bk,su4];refine qb (P:=λj=>Q (j [.ptr p4 0,.ptr s2.next 0] (af s2 (.cells (dX k w (jS gs a) [] (qv ts t) (if k=7 then(LR:Int) % tY ts t else 0)) 0)))) ?_ ?_
              . generalize (if k=7 then(LR:Int) % tY ts t else 0)=n6 at*
                simp[cu,fin,dF];exact fF
              . intro j hj;by_cases h7:k=7
                . have hd:decide ((k:Int)=7)=true:=H5 (by omega);rw[Za7 h7]at hj;have q:=λ(K:AV->St->Option (AV×St))(s':St)=>bN (c:=c) (k:= .i64) (a:=(LR:Int)) (b:=tY ts t) (by omega) sz2 s' K
                  generalize tY ts t=Z at*
                  rw[cS,OB,eD,hd,jL,aE,eX (by omega) (by omega) (by omega),E13];simp[-eE,q,hP,sxT,heapT,cT,SZ,zf];exact hj
                .have hd:decide ((k:Int)=7)=false:=Za2 (by omega);rw[Za5 h7]at hj;rw[cS,OB,eD,hd,jW];exact hj
            . rw[ Za2 Yh,jW,eD,aE];by_cases h10:k=10
              . have hf:=hR;unfold D4 at hf;rw[Za5 h5,Za5 Yh,Za7 h10]at hf;obtain⟨z3,e3⟩:∃z3:Nat,z3=z % 3:=⟨_,rfl⟩
                have E6:(z:Int) % 3=(z3:Int):=(by omega);rw[<-e3]at hf;rw[H5 (show(k:Int)=10 by omega),jL];by_cases h3:z3=0
                .have hd:decide ((z3:Int)=0)=true:=H5 (by omega);rw[Za7 h3]at hf;have fF:=wG k w 0 (jS gs a) [] [] true (by rw[hf]) (by rw[hf]);rw[p9,aE,bN (by omega) (by omega),E6,eD,hd,jL];simp[hP,sxA,Vw,nA,T9,cu,fin,dF];exact fF
                .have hd:decide ((z3:Int)=0)=false:=Za2 (by omega);rw[Za5 h3]at hf;have fF:=wG k w 0 [] [] [] true (by rw[hf]) (by rw[hf]);rw[p9,aE,bN (by omega) (by omega),E6,eD,hd,jW];simp[cu,fin,dF];exact fF
              . rw[ Za2 (show ¬(k:Int)=10 by omega),jW,eD,aE];by_cases h17:k=17
                . have hf:=hR;unfold D4 at hf;rw[Za5 h5,Za5 Yh,Za5 h10,Za7 h17]at hf;rw[H5 (show(k:Int)=17 by omega),jL];have fF:=wG k w 0 (xH gs a) [] (qv ts t) (!decide (xH gs a=[])) (by rw[hf]) (by rw[hf];simp);have n46:p4≠s2.next:=λe=>by subst e;omega
                  have cD:=λ(K:AV->Option (AV×St))=>v9 K (o:=0+2) (v:= .str (xH gs a)) (h:=(cm (af s2 (.cells (dX k w (xH gs a) [] (qv ts t) 0) 0)) p4 (.cells (dX k w (xH gs a) [] (qv ts t) 0) 0)).heap) (h2:=(af s2 (.cells (dX k w (xH gs a) [] (qv ts t) 0) 0)).heap) (p:=s2.next) (by rw[br n46,aD];rfl) (by rw[aD];rfl) (sb _)
                  have rdD:∀(l:List AV)(K:AV->Option (AV×St)),jV (.load none) [.ptr bA (qA+5)] (af s2 (.cells l 0)).heap (λ_=>true) K=K (.str (xH gs a)):=λl K=>by rw[nZ,Vw,show(cellsOf (some (.cells csA 0))).bind (λcs=>cs[qA+5]?)=some (.str (xH gs a))from dA];rfl
                  have rdR:∀(K:AV->Option (AV×St)),jV (.load (some 6)) [.ptr s2.next 0] (af s2 (.cells (dX k w (xH gs a) [] (qv ts t) 0) 0)).heap (λ_=>true) K=K (.agg (dX k w (xH gs a) [] (qv ts t) 0)):=λK=>by rw[BK,aD];rfl
                  rw[bk,Oa,bZ,ixA,bk,rdD,bk,su2,bk,cP,bZ,ixT,bk,cTn,bk,su4,rdR,fin,bk,cD,Zj,bZ,QF,dF];exact fF
                . rw[ Za2 (show ¬(k:Int)=17 by omega),jW];have hj:=R3 (by omega);clear R3 wG;by_cases h15:k=15
                  .have hd:decide ((k:Int)=15)=true:=H5 (by omega);rw[Za7 (.inl h15)]at hj;rw[p9,eD,aE,hd,jL];simp[zf];exact hj
                  . have hd:decide ((k:Int)=15)=false:=Za2 (by omega);by_cases h16:k=16
                    .have KA:decide ((k:Int)=16)=true:=H5 (by omega);rw[Za7 (.inr h16)]at hj;rw[p9,eD,aE,hd,jW,eD,aE,KA];simp[zf];exact hj
                    .have KA:decide ((k:Int)=16)=false:=Za2 (by omega);rw[Za5 (by omega)]at hj;rw[p9,eD,aE,hd,jW,eD,aE,KA];simp;exact hj
          . intro j hj;by_cases h6:k=6
            .rw[H5 (.inl h6)]at hj;rw[eD,aE,H5 (show(k:Int)=6 by omega),jL];exact hj
            .rw[eD,aE,Za2 (show ¬(k:Int)=6 by omega),jW,eD,aE];rw[show decide ((k:Int)=7)=decide (k=6\/k=7)by rw[decide_eq_decide];omega];exact hj
     .  intro j hj;clear wG R3 hR;rcases Tz rQ kW with rfl|rfl|rfl|rfl|rfl|rfl|rfl|rfl|rfl|rfl|rfl|rfl|rfl|rfl|rfl|rfl|rfl|rfl
        all_goals
          simp at hj ⊢;exact hj
 . intro j hj;by_cases h1:1<y5
   .have e:((w:Nat):Int)=1+(y7:Int):=(by rw[Yf];unfold G1;rw[Za7 (by omega)];omega);rw[e]at hj;have hd:decide ((1:Int)<(y5:Int))=true:=H5 (by omega);simp (disch:=omega) [-eE,bN,E3,E4,hd,W2,abK];exact hj
   .have e:((w:Nat):Int)=0:=(by rw[Yf];unfold G1;rw[Za5 (by omega)];rfl);rw[e]at hj;have hd:decide ((1:Int)<(y5:Int))=false:=Za2 (by omega);simp (disch:=omega) [-eE,bN,E3,hd];exact hj
structure KX(p:Pos)(sA s:St):Prop where
 wf:Wf s
 next:sA.next.toNat<=s.next.toNat
 keep:∀(b:Pos)(x:AB),b≠p->sA.heap.get b=some x->s.heap.get b=some x
theorem KX.refl{p:Pos}{s:St}(hw:Wf s):KX p s s:=⟨hw,Za4 _,λ_ _ _ h=>h⟩
theorem KX.trans{p:Pos}{a b d:St}(h:KX p a b)(g:KX p b d):KX p a d:=⟨g.wf,Zc7 h.next g.next,λq x hq hx=>g.keep q x hq (h.keep q x hq hx)⟩
theorem KX.aA{p:Pos}{a b d:St}(h:KX p a b)(g:Grew b d):KX p a d:=⟨g.wf,Zc7 h.next g.next,λq x hq hx=>g.get (h.keep q x hq hx)⟩
theorem KX.store{p:Pos}{a b:St}(h:KX p a b)(hp:p.toNat<b.next.toNat)(x:AB):KX p a (cm b p x):=
 ⟨Cu h.wf hp,h.next,λq y hq hy=>by rw[br (λe=>hq e.symm)];exact h.keep q y hq hy⟩
def TS.lZ(n:Nat)(V:AV)(rows:List (List AV)):Prop:=(∀b,aZ V=some b->n<=b.toNat)/\∀(i:Nat)(r:List AV)(v:AV)(b:Pos),rows[i]? =some r->r[4]? =some v->aZ v=some b->n<=b.toNat
def GS.lZ(n:Nat)(V:AV)(rows:List (List AV)):Prop:=(∀b,aZ V=some b->n<=b.toNat)/\∀(i:Nat)(r:List AV)(v:AV)(b:Pos),rows[i]? =some r->r[8]? =some v->aZ v=some b->n<=b.toNat
theorem wu{st s:St}{p:Pos}(h0:Wf st)(h:Grew st s)(hp:st.next.toNat<=p.toNat)(vF:p.toNat<s.next.toNat)(b:AB):Grew st (cm s p b):=
 ⟨Cu h.wf vF,λq x hq=>by have:=h0 _ _ hq;rw[br (λe=>by rw[e]at hp;omega)];exact h.get hq,by rw[DS];exact h.next⟩
theorem TS.kx{st sA s:St}{p:Pos}{V:AV}{ts:List aR}{rows:List (List AV)}(h:TS st sA V ts rows)(k:KX p sA s)(g:Grew st s)(hs:TS.lZ (p.toNat+1) V rows):TS st s V ts rows:=
 h.sH g λb x _ hb hx=>k.keep b x (λe=>by
  subst e;rcases hb with hb|⟨i,r,v,h1,h2,h3⟩
  .have:=hs.1 _ hb;omega
  .have:=hs.2 i r v _ h1 h2 h3;omega) hx
theorem GS.kx{st sA s:St}{p:Pos}{V:AV}{ts:List aN}{rows:List (List AV)}(h:GS st sA V ts rows)(k:KX p sA s)(g:Grew st s)(hs:GS.lZ (p.toNat+1) V rows):GS st s V ts rows:=
 h.sH g λb x _ hb hx=>k.keep b x (λe=>by
  subst e;rcases hb with hb|⟨i,r,v,h1,h2,h3⟩
  .have:=hs.1 _ hb;omega
  .have:=hs.2 i r v _ h1 h2 h3;omega) hx
theorem Mk.kx{es:Nat}{st sA s:St}{p:Pos}{V:AV}{rows:List (List AV)}(h:Mk es st sA V rows)(k:KX p sA s)(g:Grew st s)(hs:∀b,aZ V=some b->p.toNat+1<=b.toNat):Mk es st s V rows:=
 Mk.sH h g λb x hb hx=>k.keep b x (λe=>by subst e;have:=hs _ hb;omega) hx
theorem TS.push{st s:St}{V:AV}{ts:List aR}{rows:List (List AV)}(h:TS st s V ts rows){t:aR}{v:AV}(M:Mk 1 st s v (t.oM.map cU))(hv:∀b,aZ v=some b->aZ V≠some b)(hlen:ts.length<=1000):
   ∃s5 V5,(∀(K:AV->St->Option (AV×St)),ak c (.buildSlice 7 1 [.str [],.int .u8 0,.int .i64 0,.int .i64 0,.ah,.int .i64 0,.int .i64 0] [0]) [.agg (t.az v)] s (λy q=>ak c (.append 7 80) [V,y] q K)=K V5 s5)/\
    TS st s5 V5 (ts++[t]) (rows++[t.az v])/\(∀(p:Pos)(b:AB),aZ V≠some p->s.heap.get p=some b->s5.heap.get p=some b)/\∀b,aZ V5=some b->s.next.toNat<=b.toNat:=by
 have hl:=h.len;have hw:=h.out.aA.wf;obtain⟨s5,V5,a1,a2,a3,a4⟩:=h.out.push (c:=c) (R:=AV×St) (bytes:=80) (z:=[.str [],.int .u8 0,.int .i64 0,.int .i64 0,.ah,.int .i64 0,.int .i64 0]) (x:= .agg (t.az v)) rfl rfl (t.M8 M.cells.2) (by decide) (by omega) (by omega);have small:∀(u:AV)(rw:List (List AV)),Mk 1 st s u rw->(∀b,aZ u=some b->aZ V≠some b)->Mk 1 st s5 u rw/\∀b,aZ u=some b->aZ V5≠some b:=λu rw hu cj=>
   ⟨Mk.sH hu a2.aA λb y hb hy=>a3 b y (cj b hb) hy,λb hb e=>by have p1:=a4 b e;have p2:=hu.own.lt hw hb;omega⟩
 refine⟨s5,V5,a1,⟨a2,by simp[hl],λi t' r hi hr=> ?_⟩,a3,a4⟩;by_cases AW:i<ts.length
 .rw[Zc1 (by rw[hl];exact AW)]at hr;rw[Zc1 AW]at hi;obtain⟨u,e1,e2,e3⟩:=h.qU i t' r hi hr;obtain⟨f1,f2⟩:=small u _ e2 e3;exact⟨u,e1,f1,f2⟩
 .have jt:=(Za0.1 hi).1;simp at jt;obtain rfl:i=ts.length:=(by omega);rw[Zc2 (by rw[hl];exact Za4 _)]at hr;rw[Zc2 (Za4 _)]at hi;simp[hl]at hr hi;subst hi;subst hr;obtain⟨f1,f2⟩:=small v _ M hv;exact⟨v,rfl,f1,f2⟩
def G2(s:List Nat):List AV:=[.str s]
def Ag(x k:Nat):Bool:=decide (x / 2 ^ (6+2*k) % 4=1)
theorem ack(x k:Nat):Ag x k=decide (x / 2 ^ (6+2*k) % 4=1):=by rw[Ag]
def vO(x k:Nat):List (List Nat):=((List.range k).filter (Ag x)).map bl
theorem R4(x k:Nat):vO x (k+1)=vO x k++(if Ag x k=true then [bl k]else []):=by
 unfold vO;rw[Zi4,List.filter_append,Zd9];congr 1;cases h:Ag x k with
 |true=>simp[h]
 |false=>simp[h]
theorem abM(x k:Nat):(vO x k).length<=k:=by have:=List.length_filter_le (Ag x) (List.range k);rw[Zo1]at this;unfold vO;rw[Zb3];exact this
structure GI(s0 s:St)(p8:Pos)(g:aN)(x k:Nat)(v:AV):Prop where
 out:Mk 1 s0 s v ((vO x k).map G2)
 h8:s.heap.get p8=some (.cells (g.az v) 0)
 n8:aZ v≠some p8
theorem SD(hc:cE c){g:aN}{x:Nat}(hx:x<1000000){s0:St}{p8:Pos}(h8:s0.next.toNat<=p8.toNat)(x0 x1 x4 x5 x6:AV)
  :∀(m k:Nat)(s:St)(v:AV),GI s0 s p8 g x k v->k+m=4->
  ∃s' v',GI s0 s' p8 g x 4 v'/\∀(F:Nat)(k4:List AV->St->Option (AV×St))(f:Nat),m<f->e8 c F k4 f [x0,x1,x4,x5,x6,.int .i64 (x:Int),.ptr p8 0,.int .i64 (k:Int)] s=k4 [x0,x1,x4,x5,x6,.ptr p8 0] s':=by
 intro m;induction m with
 |zero=>
  intro k s v hT h1;obtain rfl:k=4:=by omega
  refine⟨s,v,hT,λF k4 f hf=> ?_⟩;obtain⟨f,rfl⟩:∃g,f=g+1:=⟨f - 1,by omega⟩
  rw[mJ];simp
 |succ m ih=>
  intro k s v hT h1;have hw:=hT.out.aA.wf;have h:k<4:=by omega
  . have IQ:(0:Int)<=(x:Int):=Int.natCast_nonneg x;have w:ay .i64 ((k:Int)+1)=((k+1:Nat):Int):=wrap64 (by omega) (by omega);have w1:ay .i64 (2*(k:Int))=2*(k:Int):=wrap64 (by omega) (by omega);have w2:ay .i64 (6+2*(k:Int))=6+2*(k:Int):=wrap64 (by omega) (by omega);have e2:6+2*(k:Int)=((6+2*k:Nat):Int):=(by omega);have hk64:6+2*k<=64:=(by omega);have sr:∀(s:St)(K:AV->St->Option (AV×St)),ak c (.bin .shr .num) [.int .i64 (x:Int),.int .i64 (6+2*(k:Int))] s K=K (.int .i64 ((x:Int) / 2 ^ (6+2*k))) s:=λs K=>by rw[e2];exact QT hk64 s K
    have p0:(0:Int)<=(x:Int) / 2 ^ (6+2*k):=Zo9 IQ (Int.le_of_lt (Int.pow_pos (by decide)));have r1:=λ(s:St)(K:AV->St->Option (AV×St))=>bN (c:=c) (k:= .i64) (a:=(x:Int) / 2 ^ (6+2*k)) (b:=4) p0 (by decide) s K
    have d1:decide ((x:Int) / 2 ^ (6+2*k) % 4=1)=decide (x / 2 ^ (6+2*k) % 4=1):=(by have:((x:Int) / 2 ^ (6+2*k) % 4=1)↔(x / 2 ^ (6+2*k) % 4=1):=(by rw[show((x:Int) / 2 ^ (6+2*k) % 4)=((x / 2 ^ (6+2*k) % 4:Nat):Int)by simp];omega);exact decide_eq_decide.2 this);have c8:(g.az v)[8]? =some v:=rfl;have fin:=ack x k;have N:=qN hc k (by omega) s hw;have hd:decide ((k:Int)<4)=true:=H5 (by omega);cases hq:Ag x k with
    |   true=>
        have hrl:((vO x k).map G2).length<=4:=(by rw[Zb3];have:=abM x k;omega);obtain⟨s5,v5,a1,a2,a3,a4⟩:=hT.out.push (c:=c) (R:=AV×St) (bytes:=16) (z:=[.str []]) (x:= .str (bl k)) rfl rfl rfl (by decide) (by omega) (by omega);have e:(vO x (k+1)).map G2=(vO x k).map G2++[(.str (bl k):AV).cells]:=(by rw[R4,Za7 hq,Zd9];rfl);rw[<-e]at a2;have y8:=a3 p8 _ hT.n8 hT.h8;have l8:=hw p8 _ hT.h8;have b8:aZ v5≠some p8:=λe=>by have:=a4 _ e;omega
        have hw5:=a2.aA.wf;have l8':=hw5 p8 _ y8;have M:=a2.store (p:=p8) (b:= .cells (g.az v5) 0) h8 l8' b8;obtain⟨vc,v1⟩:=a2.cells;have aK:∀(K:AV->St->Option (AV×St)),ak c (.store 1) [.ptr p8 8,v5] s5 K=K .undef (cm s5 p8 (.cells (g.az v5) 0)):=λK=>by rw[dG c K s5 1 p8 8 v5 (g.az v) y8 (by rw[vc];rfl) (by simp[aN.az]) (by rw[vc];exact v1),vc];rfl
        obtain⟨s',v',b1,b2⟩:=ih (k+1) _ v5 ⟨M,dF _ _ _,b8⟩ (by omega);refine⟨s',v',b1,λF k4 f hf=> ?_⟩;obtain⟨f,rfl⟩:∃g,f=g+1:=⟨f - 1,by omega⟩
        rw[<-b2 F k4 f (by omega),mJ];rw[fin]at hq;simp[-aT,hT.h8,hd,fY,sr,r1,d1,hq,c8,N,a1,aK,w,w1,w2]
    |   false=>
        have e:(vO x (k+1))=(vO x k):=(by rw[R4,Za5 (by rw[hq];decide),Ze8]);obtain⟨s',v',b1,b2⟩:=ih (k+1) s v ⟨by rw[e];exact hT.out,hT.h8,hT.n8⟩ (by omega);refine⟨s',v',b1,λF k4 f hf=> ?_⟩;obtain⟨f,rfl⟩:∃g,f=g+1:=⟨f - 1,by omega⟩
        rw[<-b2 F k4 f (by omega),mJ];rw[fin]at hq;simp[-aT,hd,fY,sr,r1,d1,hq,w,w1,w2]
def wH(i:Nat):Nat:=25*i % 312+i / 12
def rD(i x:Nat):aN:=⟨bl (wH i),if x % 2=1 then bl (x % 3)else [],if 4<x % 8 then bl (x % 8)else [],((x % 4*500:Nat):Int),((x % 3:Nat):Int),if x % 3=2 then bl (x % 5)else [],decide (x % 5=0),decide (x % 7=0),true,vO x 4⟩
theorem R5{es:Nat}{s0 s s':St}{v:AV}{rows:List (List AV)}(h:Mk es s0 s v rows)(hg:Grew s0 s')(hk:∀b x,aZ v=some b->s.heap.get b=some x->s'.heap.get b=some x):Mk es s0 s' v rows:=
 ⟨h.pL,hg,h.own.mono hk,h.new,h.row,h.cap,λb hb=>hk b _ hb (h.tight b hb)⟩
structure GL(st s:St)(p4 p5:Pos)(V W:AV)(gs:List aN)(rows:List (List AV)):Prop where
 out:Mk 9 st s V rows
 len:rows.length=gs.length
 qU:∀(i:Nat)(g:aN)(r:List AV),gs[i]? =some g->rows[i]? =some r->∃v,r=g.az v/\Mk 1 st s v (g.tg.map G2)/\∀b,aZ v=some b->aZ V≠some b/\b≠p4/\b≠p5
 h4:s.heap.get p4=some (.cells [.ah,.ah] 0)
 h5:s.heap.get p5=some (.cells [V,W] 0)
 n4:aZ V≠some p4
 n5:aZ V≠some p5
theorem abN(g:aN){v:AV}(h:aO [v]=true):aO (g.az v)=true:=by
 simp only[aO]at h;unfold aN.az;simp only[aO,AV.one,h,Zi6,Zj9]at*
theorem GL.push{st s s1:St}{p4 p5:Pos}{V W:AV}{gs:List aN}{rows:List (List AV)}(h:GL st s p4 p5 V W gs rows)(C3:p4≠p5)(Bp:st.next.toNat<=p5.toNat){g:aN}{v:AV}(M:Mk 1 s s1 v (g.tg.map G2))(hlen:rows.length<=1000):
   ∃ s5 s6 V5,(∀(K:AV->St->Option (AV×St)),ak c (.buildSlice 9 1 [.str [],.str [],.str [],.int .i64 0,.int .i64 0,.str [],.bool false,.bool false,.ah] [0]) [.agg (g.az v)] s1 (λy t=>ak c (.append 9 112) [V,y] t K)=K V5 s5)/\
     (∀(K:AV->St->Option (AV×St)),ak c (.store 1) [.ptr p5 0,V5] s5 K=K .undef s6)/\s1.heap.get p5=some (.cells [V,W] 0)/\GL st s6 p4 p5 V5 W (gs++[g]) (rows++[g.az v]):=by
 have hw:=h.out.aA.wf;have O1:=h.out.grow M.aA;obtain⟨s5,V5,a1,a2,a3,a4⟩:=O1.push (c:=c) (R:=AV×St) (bytes:=112) (z:=[.str [],.str [],.str [],.int .i64 0,.int .i64 0,.str [],.bool false,.bool false,.ah]) (x:= .agg (g.az v)) rfl rfl (abN g M.cells.2) (by decide) (by omega) (by omega);have y4:=a3 p4 _ h.n4 (M.aA.get h.h4);have y5:=a3 p5 _ h.n5 (M.aA.get h.h5);have l4:=hw p4 _ h.h4;have l5:=hw p5 _ h.h5;have nx:=M.aA.next;have b4:aZ V5≠some p4:=λe=>by have:=a4 _ e;omega
 have b5:aZ V5≠some p5:=λe=>by have:=a4 _ e;omega
 have Lu:=a2.aA.wf p5 _ y5;obtain⟨vc,v1⟩:=a2.cells;have aK:∀(K:AV->St->Option (AV×St)),ak c (.store 1) [.ptr p5 0,V5] s5 K=K .undef (cm s5 p5 (.cells [V5,W] 0)):=λK=>by rw[dG c K s5 1 p5 0 V5 [V,W] y5 (by rw[vc];rfl) (by simp) (by rw[vc];exact v1),vc];rfl
 have M6:=a2.store (p:=p5) (b:= .cells [V5,W] 0) Bp Lu b5;have Mv:=M.back h.out.pL h.out.aA;have vV:∀b,aZ v=some b->aZ V≠some b/\b≠p4/\b≠p5:=λb hb=>by
   have p1:=M.new b hb;refine⟨λe=> ?_,λe=> ?_,λe=> ?_⟩
   .have:=h.out.own.lt hw e;omega
   .subst e;omega
   .subst e;omega
 have small:∀(u:AV)(rw:List (List AV)),Mk 1 st s1 u rw->(∀b,aZ u=some b->aZ V≠some b/\b≠p4/\b≠p5)->Mk 1 st (cm s5 p5 (.cells [V5,W] 0)) u rw/\∀b,aZ u=some b->aZ V5≠some b/\b≠p4/\b≠p5:=λu rw hu cj=>by
   refine⟨R5 hu M6.aA λb y hb hy=> ?_,λb hb=>⟨λe=> ?_,(cj b hb).2⟩⟩
   .rw[br (λe=>(cj b hb).2.2 e.symm)];exact a3 b y (cj b hb).1 hy
   .have p1:=a4 b e;have p2:=hu.own.lt hu.aA.wf hb;omega
 refine⟨s5,_,V5,a1,aK,M.aA.get h.h5,⟨M6,by simp[h.len],λi t r hi R6=> ?_,by rw[br (λe=>C3 e.symm)];exact y4,dF _ _ _,b4,b5⟩⟩;by_cases AW:i<gs.length
 .rw[Zc1 (by rw[h.len];exact AW)]at R6;rw[Zc1 AW]at hi;obtain⟨u,e1,e2,e3⟩:=h.qU i t r hi R6;obtain⟨f1,f2⟩:=small u _ (e2.grow M.aA) e3;exact⟨u,e1,f1,f2⟩
 .have jt:=(Za0.1 hi).1;simp at jt;obtain rfl:i=gs.length:=(by omega);rw[Zc2 (by rw[h.len];exact Za4 _)]at R6;rw[Zc2 (Za4 _)]at hi;simp[h.len]at R6 hi;subst hi;subst R6;obtain⟨f1,f2⟩:=small v _ Mv vV;exact⟨v,rfl,f1,f2⟩
def cL(k:IntKind)(z:Bool)(l:List Nat):AV:=ro 1 z (l.map λ(i:Nat)=>[.int k (i:Int)])
def u9(xs:List Nat)(k:Nat):List aN:=(List.range k).map λi=>rD i (xs.getD i 0)
theorem Yi(xs:List Nat)(k:Nat)(h:k<xs.length):u9 xs (k+1)=u9 xs k++[rD k xs[k]]:=by
 unfold u9;rw[Zi4,Zd9];simp[Zb4,h]
theorem Eo(xs:List Nat)(k:Nat):(u9 xs k).length=k:=by simp[u9]
def zG:List AV:=[.str [],.str [],.str [],.int .i64 0,.int .i64 0,.str [],.bool false,.bool false,.ah]
theorem l6(s:St)(K:AV->St->Option (AV×St)):ak c (.alloc [.str [],.str [],.str [],.int .i64 0,.int .i64 0,.str [],.bool false,.bool false,.ah]) [] s K=K (.ptr s.next 0) (af s (.cells zG 0)):=rfl
theorem l7(nm:List Nat)(u y:Int)(b d:Bool)(s:St)(K:AV->St->Option (AV×St)):ak c (.build [.str [],.str [],.str [],.int .i64 0,.int .i64 0,.str [],.bool false,.bool false,.ah] [(0,1),(3,1),(4,1),(6,1),(7,1)]) [.str nm,.int .i64 u,.int .i64 y,.bool b,.bool d] s K=K (.agg [.str nm,.str [],.str [],.int .i64 u,.int .i64 y,.str [],.bool b,.bool d,.ah]) s:=rfl
theorem l9(nm:List Nat)(u y:Int)(b d:Bool)(s:St)(K:AV->St->Option (AV×St)):ak c (.store 9) [.ptr s.next 0,.agg [.str nm,.str [],.str [],.int .i64 u,.int .i64 y,.str [],.bool b,.bool d,.ah]] (af s (.cells zG 0)) K=K .undef (af s (.cells [.str nm,.str [],.str [],.int .i64 u,.int .i64 y,.str [],.bool b,.bool d,.ah] 0)):=
 dQ c K s 9 (.agg [.str nm,.str [],.str [],.int .i64 u,.int .i64 y,.str [],.bool b,.bool d,.ah]) zG rfl rfl rfl
theorem nI(nm r ct dt z:List Nat)(u y:Int)(b d:Bool)(s:St)(K:AV->St->Option (AV×St)):ak c (.store 1) [.ptr s.next 1,.str z] (af s (.cells [.str nm,.str r,.str ct,.int .i64 u,.int .i64 y,.str dt,.bool b,.bool d,.ah] 0)) K=K .undef (af s (.cells [.str nm,.str z,.str ct,.int .i64 u,.int .i64 y,.str dt,.bool b,.bool d,.ah] 0)):=iA s _ 1 (.str z) (by simp) rfl rfl K
theorem nJ(nm r ct dt z:List Nat)(u y:Int)(b d:Bool)(s:St)(K:AV->St->Option (AV×St)):ak c (.store 1) [.ptr s.next 2,.str z] (af s (.cells [.str nm,.str r,.str ct,.int .i64 u,.int .i64 y,.str dt,.bool b,.bool d,.ah] 0)) K=K .undef (af s (.cells [.str nm,.str r,.str z,.int .i64 u,.int .i64 y,.str dt,.bool b,.bool d,.ah] 0)):=iA s _ 2 (.str z) (by simp) rfl rfl K
theorem nK(nm r ct dt z:List Nat)(u y:Int)(b d:Bool)(s:St)(K:AV->St->Option (AV×St)):ak c (.store 1) [.ptr s.next 5,.str z] (af s (.cells [.str nm,.str r,.str ct,.int .i64 u,.int .i64 y,.str dt,.bool b,.bool d,.ah] 0)) K=K .undef (af s (.cells [.str nm,.str r,.str ct,.int .i64 u,.int .i64 y,.str z,.bool b,.bool d,.ah] 0)):=iA s _ 5 (.str z) (by simp) rfl rfl K
theorem OC(i x:Nat)(v:AV):(rD i x).az v=[.str (bl (wH i)),.str (if x % 2=1 then bl (x % 3)else []),.str (if 4<x % 8 then bl (x % 8)else []),.int .i64 ((x % 4*500:Nat):Int),.int .i64 ((x % 3:Nat):Int),.str (if x % 3=2 then bl (x % 5)else []),.bool (decide (x % 5=0)),.bool (decide (x % 7=0)),v]:=rfl
theorem SE(hc:cE c){xs:List Nat}(hx:∀x∈xs,x<65536)(z:Bool)(x1:AV){st s:St}{p4 p5:Pos}(C3:p4≠p5)(Bp:st.next.toNat<=p5.toNat){V W:AV}{rows:List (List AV)}{k:Nat}(hk:k<xs.length)(hk12:k<12)
   (h:GL st s p4 p5 V W (u9 xs k) rows):∃s' V' Ep,GL st s' p4 p5 V' W (u9 xs (k+1)) Ep/\∀(F:Nat)(_:5<=F)(k2:List AV->St->Option (AV×St))(f:Nat),
     dW c F k2 (f+1) [cL .u16 z xs,x1,.ptr p4 0,.ptr p5 0,.int .i64 (k:Int)] s=dW c F k2 f [cL .u16 z xs,x1,.ptr p4 0,.ptr p5 0,.int .i64 ((k+1:Nat):Int)] s':=by
 have hw:=h.out.aA.wf;have SN:=hx _ (Zb9 hk);generalize Ah:xs[k]=x at SN;have M0:Mk 1 s (af s (.cells ((rD k x).az .ah) 0)) .ah []:=Mk.start hw (Grew.af hw _);obtain⟨s1,v1,hG,L⟩:=SD hc (g:=rD k x) (x:=x) (by omega) (s0:=s) (p8:=s.next) (Za4 _) (cL .u16 z xs) x1 (.ptr p4 0) (.ptr p5 0) (.int .i64 (k:Int)) 4 0 _ .ah ⟨M0,aD _ _,λe=>(nomatch e)⟩ rfl;have M:Mk 1 s s1 v1 ((rD k x).tg.map G2):=hG.out;obtain⟨s5,s6,V5,a1,a2,a3,a4⟩:=h.push (c:=c) C3 Bp M (by rw[h.len,Eo];omega);have e:u9 xs k++[rD k x]=u9 xs (k+1):=by rw[Yi xs k hk,Ah]
 rw[e]at a4;refine⟨s6,V5,_,a4,λF hF k2 f=> ?_⟩;have L':∀k4:List AV->St->Option (AV×St),e8 c F k4 F [cL .u16 z xs,x1,.ptr p4 0,.ptr p5 0,.int .i64 (k:Int),.int .i64 (x:Int),.ptr s.next 0,.int .i64 0] (af s (.cells ((rD k x).az .ah) 0))=k4 [cL .u16 z xs,x1,.ptr p4 0,.ptr p5 0,.int .i64 (k:Int),.ptr s.next 0] s1:=λk4=>L F k4 F (by omega)
 clear a4 M M0 L;have lI:∀(K:AV->St->Option (AV×St))(s:St),ak c (.lenB .l) [cL .u16 z xs] s K=K (.int .i64 (xs.length:Int)) s:=λK s=>by unfold cL;rw[jZ];simp
 have ix:∀(K:AV->St->Option (AV×St))(s:St),ak c (.idxA 1 none) [cL .u16 z xs,.int .i64 (k:Int)] s K=K (.fp (xs.map λ(i:Nat)=>[.int .u16 (i:Int)]) k 0) s:=λK s=>by unfold cL;rw[QE];simp[hk]
 have ld:((xs.map λ(i:Nat)=>[AV.int .u16 (i:Int)])[k]?.bind λcs=>cs[0]?)=some (.int .u16 (x:Int)):=by simp[hk,Ah]
 have w0:ay .i64 (x:Int)=(x:Int):=wrap64 (by omega) (by omega);have N1:=qN hc (wH k) (by unfold wH;omega) s hw;have vP:cut ((rD k x).az v1) 0 9=some ((rD k x).az v1):=bQ rfl;have N2:∀(b:AB)(j:Nat)(i:Int),i=(j:Int)->j<1000000->c 44 [.int .i64 i] (af s b)=some (.str (bl j),af s b):=λb j i e hj=>by rw[e];exact qN hc j hj _ (bR hw)
 have N3:=λb=>N2 b (x % 3) ((x:Int) % 3) (by omega) (by omega)
 have N8:=λb=>N2 b (x % 8) ((x:Int) % 8) (by omega) (by omega)
 have N5:=λb=>N2 b (x % 5) ((x:Int) % 5) (by omega) (by omega)
 have eg:25*(k:Int) % 312+(k:Int) / 12=((wH k:Nat):Int):=by unfold wH;omega
 rw[<-eg]at N1;have G5:decide ((k:Int)<12)=true:=H5 (by omega);have d5:decide ((x:Int) % 5=0)=decide (x % 5=0):=decide_eq_decide.2 (by omega);have d7:decide ((x:Int) % 7=0)=decide (x % 7=0):=decide_eq_decide.2 (by omega);have u4:((x % 4*500:Nat):Int)=(x:Int) % 4*500:=by omega
 have u3:((x % 3:Nat):Int)=(x:Int) % 3:=by omega
 simp only[OC]at a1 L' hG vP;clear N2;have h8:=hG.h8;rw[OC]at h8;rw[u4,u3]at L' h8 a1 vP;rw[se];by_cases c1:x % 2=1
 . by_cases c2:4<x % 8
   . by_cases c3:x % 3=2
     .  have e1:decide ((x:Int) % 2=1)=true:=H5 (by omega);have e2:decide (4<(x:Int) % 8)=true:=H5 (by omega);have e3:decide ((x:Int) % 3=2)=true:=H5 (by omega);simp only[Za7 c1,Za7 c2,Za7 c3]at L' h8 a1 vP;simp (maxSteps:=2000000) (disch:=omega) [-aT,-gX,-iW,-eE,-jD,l6,l7,l9,nI,nJ,nK,lI,ix,ld,hk,Ah,Zb1,G5,lV,w0,bN,eX,wrap64,N1,N3,N8,N5,d5,d7,e1,e2,e3,fY,L',a1,a2,a3,h8,vP]
     .  have e1:decide ((x:Int) % 2=1)=true:=H5 (by omega);have e2:decide (4<(x:Int) % 8)=true:=H5 (by omega);have e3:decide ((x:Int) % 3=2)=false:=Za2 (by omega);simp only[Za7 c1,Za7 c2,Za5 c3]at L' h8 a1 vP;simp (maxSteps:=2000000) (disch:=omega) [-aT,-gX,-iW,-eE,-jD,l6,l7,l9,nI,nJ,nK,lI,ix,ld,hk,Ah,Zb1,G5,lV,w0,bN,eX,wrap64,N1,N3,N8,N5,d5,d7,e1,e2,e3,fY,L',a1,a2,a3,h8,vP]
   . by_cases c3:x % 3=2
     .  have e1:decide ((x:Int) % 2=1)=true:=H5 (by omega);have e2:decide (4<(x:Int) % 8)=false:=Za2 (by omega);have e3:decide ((x:Int) % 3=2)=true:=H5 (by omega);simp only[Za7 c1,Za5 c2,Za7 c3]at L' h8 a1 vP;simp (maxSteps:=2000000) (disch:=omega) [-aT,-gX,-iW,-eE,-jD,l6,l7,l9,nI,nJ,nK,lI,ix,ld,hk,Ah,Zb1,G5,lV,w0,bN,eX,wrap64,N1,N3,N8,N5,d5,d7,e1,e2,e3,fY,L',a1,a2,a3,h8,vP]
     .  have e1:decide ((x:Int) % 2=1)=true:=H5 (by omega);have e2:decide (4<(x:Int) % 8)=false:=Za2 (by omega);have e3:decide ((x:Int) % 3=2)=false:=Za2 (by omega);simp only[Za7 c1,Za5 c2,Za5 c3]at L' h8 a1 vP;simp (maxSteps:=2000000) (disch:=omega) [-aT,-gX,-iW,-eE,-jD,l6,l7,l9,nI,nJ,nK,lI,ix,ld,hk,Ah,Zb1,G5,lV,w0,bN,eX,wrap64,N1,N3,N8,N5,d5,d7,e1,e2,e3,fY,L',a1,a2,a3,h8,vP]
 . by_cases c2:4<x % 8
   . by_cases c3:x % 3=2
     .  have e1:decide ((x:Int) % 2=1)=false:=Za2 (by omega);have e2:decide (4<(x:Int) % 8)=true:=H5 (by omega);have e3:decide ((x:Int) % 3=2)=true:=H5 (by omega);simp only[Za5 c1,Za7 c2,Za7 c3]at L' h8 a1 vP;simp (maxSteps:=2000000) (disch:=omega) [-aT,-gX,-iW,-eE,-jD,l6,l7,l9,nI,nJ,nK,lI,ix,ld,hk,Ah,Zb1,G5,lV,w0,bN,eX,wrap64,N1,N3,N8,N5,d5,d7,e1,e2,e3,fY,L',a1,a2,a3,h8,vP]
     .  have e1:decide ((x:Int) % 2=1)=false:=Za2 (by omega);have e2:decide (4<(x:Int) % 8)=true:=H5 (by omega);have e3:decide ((x:Int) % 3=2)=false:=Za2 (by omega);simp only[Za5 c1,Za7 c2,Za5 c3]at L' h8 a1 vP;simp (maxSteps:=2000000) (disch:=omega) [-aT,-gX,-iW,-eE,-jD,l6,l7,l9,nI,nJ,nK,lI,ix,ld,hk,Ah,Zb1,G5,lV,w0,bN,eX,wrap64,N1,N3,N8,N5,d5,d7,e1,e2,e3,fY,L',a1,a2,a3,h8,vP]
   . by_cases c3:x % 3=2
     .  have e1:decide ((x:Int) % 2=1)=false:=Za2 (by omega);have e2:decide (4<(x:Int) % 8)=false:=Za2 (by omega);have e3:decide ((x:Int) % 3=2)=true:=H5 (by omega);simp only[Za5 c1,Za5 c2,Za7 c3]at L' h8 a1 vP;simp (maxSteps:=2000000) (disch:=omega) [-aT,-gX,-iW,-eE,-jD,l6,l7,l9,nI,nJ,nK,lI,ix,ld,hk,Ah,Zb1,G5,lV,w0,bN,eX,wrap64,N1,N3,N8,N5,d5,d7,e1,e2,e3,fY,L',a1,a2,a3,h8,vP]
     .  have e1:decide ((x:Int) % 2=1)=false:=Za2 (by omega);have e2:decide (4<(x:Int) % 8)=false:=Za2 (by omega);have e3:decide ((x:Int) % 3=2)=false:=Za2 (by omega);simp only[Za5 c1,Za5 c2,Za5 c3]at L' h8 a1 vP;simp (maxSteps:=2000000) (disch:=omega) [-aT,-gX,-iW,-eE,-jD,l6,l7,l9,nI,nJ,nK,lI,ix,ld,hk,Ah,Zb1,G5,lV,w0,bN,eX,wrap64,N1,N3,N8,N5,d5,d7,e1,e2,e3,fY,L',a1,a2,a3,h8,vP]
def gC(i x:Nat):aR:=⟨dK i,((jY x:Nat):Int),((tA x:Nat):Int),((tB x:Nat):Int),true,(uH x (tN x)).map λ(k:Nat)=>(k:Int),((x:Nat):Int),255 - ((x:Nat):Int)⟩
def mD(xs:List Nat)(k:Nat):List aR:=(List.range k).map λi=>gC i (xs.getD i 0)
theorem Yj(xs:List Nat)(k:Nat)(h:k<xs.length):mD xs (k+1)=mD xs k++[gC k xs[k]]:=by
 unfold mD;rw[Zi4,Zd9];simp[Zb4,h]
theorem DY(xs:List Nat)(k:Nat):(mD xs k).length=k:=by simp[mD]
def gq(xs:List Nat):Nat->Nat
 |0=>0
 |k+1=>gq xs k+tN (xs.getD k 0)
theorem OD(xs:List Nat):∀k,gq xs k<=k*16
 |0=>Za4 _
 |k+1=>by have:=OD xs k;have:=Lq (xs.getD k 0);unfold gq;omega
theorem Vx(i x:Nat)(v:AV):(gC i x).az v=eG (dK i) (jY x:Nat) (tA x:Nat) (tB x:Nat) x v:=rfl
theorem aaz(i x:Nat):(gC i x).oM.map cU=(uH x (tN x)).map Nh:=by unfold gC;rw[Zf7];rfl
theorem QS.owner{es:Nat}{s:St}{v:AV}{rows:List (List AV)}(h:QS es s v rows)(h0:rows≠[]):∃b,aZ v=some b:=by
 rcases h with⟨_,e⟩|⟨b,off,cap,cs,rfl,_⟩|⟨b,off,_,e⟩
 .exact absurd e h0
 . (refine⟨b,?_⟩;have:rows.length≠0:=λe=>h0 (Zb0 e));simp only[aZ];rw[Za5 (λe=>this e.2)]
 .exact absurd e h0
structure LL(st sA s:St)(p3:Pos)(es:Nat)(V:AV)(rows:List (List AV))(W:AV->List AV):Prop where
 out:Mk es st s V rows
 kx:KX p3 sA s
 h3:s.heap.get p3=some (.cells (W V) 0)
 since:∀b,aZ V=some b->sA.next.toNat<=b.toNat
theorem LL.aA{st sA s s':St}{p3:Pos}{es:Nat}{V:AV}{rows:List (List AV)}{W:AV->List AV}(h:LL st sA s p3 es V rows W)(g:Grew s s'):LL st sA s' p3 es V rows W:=
 ⟨h.out.grow g,h.kx.aA g,g.get h.h3,h.since⟩
theorem LL.push{st sA s:St}{p3:Pos}{es bytes i:Nat}{V:AV}{rows:List (List AV)}{W:AV->List AV}(h:LL st sA s p3 es V rows W)(hA:Wf sA)(I2:p3.toNat<sA.next.toNat)(iU:st.next.toNat<=p3.toNat)(hi:∀A B,(W A).set i B=W B)(jt:∀A,i<(W A).length)
   {z:List AV} {x:AV} (hz:z.length=es) (hx:x.cells.length=es) (h1:aO x.cells=true) (cW:es≠0) (hb:(2*(rows.length+1)+768)*bytes<=281474976710656) (hn:rows.length<=4000000):
   ∃s5 s6 V5,(∀(K:AV->St->Option (AV×St)),ak c (.buildSlice es 1 z [0]) [x] s (λy q=>ak c (.append es bytes) [V,y] q K)=K V5 s5)/\(∀(K:AV->St->Option (AV×St)),ak c (.store 1) [.ptr p3 i,V5] s5 K=K .undef s6)/\
    LL st sA s6 p3 es V5 (rows++[x.cells]) W/\(∀(p:Pos)(b:AB),p≠p3->aZ V≠some p->s.heap.get p=some b->s6.heap.get p=some b)/\(∀b,aZ V5=some b->s.next.toNat<=b.toNat)/\s.next.toNat<=s6.next.toNat/\s5.heap.get p3=some (.cells (W V) 0):=by
 have hw:=h.out.aA.wf;obtain⟨s5,V5,a1,a2,a3,a4⟩:=h.out.push (c:=c) (R:=AV×St) (bytes:=bytes) hz hx h1 cW hb hn;have nV:aZ V≠some p3:=λe=>by have:=h.since _ e;omega
 have y3:=a3 p3 _ nV h.h3;have n5:aZ V5≠some p3:=λe=>by have:=a4 _ e;have:=hw _ _ h.h3;omega
 have l3:=a2.aA.wf p3 _ y3;obtain⟨vc,v1⟩:=a2.cells;obtain⟨b,Yk⟩:=QS.owner a2.own (by simp);have nx:s.next.toNat<=s5.next.toNat:=by have:=a4 b Yk;have:=a2.own.lt a2.aA.wf Yk;omega
 refine⟨s5,cm s5 p3 (.cells (W V5) 0),V5,a1,λK=> ?_,⟨a2.store iU l3 n5,?_,dF _ _ _,λb hb=> ?_⟩,λp b hp hv hg=> ?_,a4,nx,y3⟩
 .rw[dG c K s5 1 p3 i V5 (W V) y3 (by rw[vc];rfl) (by have:=jt V;omega) (by rw[vc];exact v1),vc];rw[qI _ _ (jt V),hi]
 .refine KX.store ⟨a2.aA.wf,Zc7 h.kx.next nx,λq y hq hy=> ?_⟩ l3 _;refine a3 q y (λe=> ?_) (h.kx.keep q y hq hy);have:=h.since _ e;have:=hA _ _ hy;omega
 .have:=a4 b hb;have:=h.kx.next;omega
 .rw[br (λe=>hp e.symm)];exact a3 p b hv hg
structure TL(st sA s:St)(p3:Pos)(V:AV)(ts:List aR)(rows:List (List AV))(W:AV->List AV):Prop where
 tab:TS st s V ts rows
 kx:KX p3 sA s
 h3:s.heap.get p3=some (.cells (W V) 0)
 since:TS.lZ sA.next.toNat V rows
theorem TL.push{st sA s:St}{p3:Pos}{i:Nat}{V:AV}{ts:List aR}{rows:List (List AV)}{W:AV->List AV}(h:TL st sA s p3 V ts rows W)(hA:Wf sA)(I2:p3.toNat<sA.next.toNat)(iU:st.next.toNat<=p3.toNat)(hi:∀A B,(W A).set i B=W B)(jt:∀A,i<(W A).length)
   {t:aR} {v:AV} (M:Mk 1 st s v (t.oM.map cU)) (hv:∀b,aZ v=some b->aZ V≠some b) (Ce:∀b,aZ v=some b->sA.next.toNat<=b.toNat) (hlen:ts.length<=1000):
   ∃ s5 s6 V5,(∀(K:AV->St->Option (AV×St)),ak c (.buildSlice 7 1 [.str [],.int .u8 0,.int .i64 0,.int .i64 0,.ah,.int .i64 0,.int .i64 0] [0]) [.agg (t.az v)] s (λy q=>ak c (.append 7 80) [V,y] q K)=K V5 s5)/\
     (∀(K:AV->St->Option (AV×St)),ak c (.store 1) [.ptr p3 i,V5] s5 K=K .undef s6)/\TL st sA s6 p3 V5 (ts++[t]) (rows++[t.az v]) W/\(∀(p:Pos)(b:AB),p≠p3->aZ V≠some p->s.heap.get p=some b->s6.heap.get p=some b)/\s5.heap.get p3=some (.cells (W V) 0):=by
 have hw:=h.tab.out.aA.wf;obtain⟨s5,V5,a1,a2,a3,a4⟩:=h.tab.push (c:=c) M hv hlen;have nV:aZ V≠some p3:=λe=>by have:=h.since.1 _ e;omega
 have y3:=a3 p3 _ nV h.h3;have l3:=a2.out.aA.wf p3 _ y3;obtain⟨vc,v1⟩:=a2.out.cells;obtain⟨b,Yk⟩:=QS.owner a2.out.own (by simp);have nx:s.next.toNat<=s5.next.toNat:=by have:=a4 b Yk;have:=a2.out.own.lt a2.out.aA.wf Yk;omega
 have sn:TS.lZ sA.next.toNat V5 (rows++[t.az v]):=by
   refine⟨λb hb=>by have:=a4 b hb;have:=h.kx.next;omega,λj r u b hr h4 hb=> ?_⟩;by_cases hj:j<rows.length
   .rw[Zc1 hj]at hr;exact h.since.2 j r u b hr h4 hb
   .have hjl:=(Za0.1 hr).1;simp at hjl;obtain rfl:j=rows.length:=(by omega);rw[Zc2 (Za4 _)]at hr;simp at hr;subst hr;have:v=u:=(by simpa [aR.az]using h4);subst this;exact Ce b hb
 have k5:KX p3 sA s5:=⟨a2.out.aA.wf,Zc7 h.kx.next nx,λq y hq hy=>a3 q y (λe=>by
   have:=h.since.1 _ e;have:=hA _ _ hy;omega) (h.kx.keep q y hq hy)⟩
 have kS:KX p3 s5 (cm s5 p3 (.cells (W V5) 0)):=(KX.refl a2.out.aA.wf).store l3 _;have sn3:TS.lZ (p3.toNat+1) V5 (rows++[t.az v]):=⟨λb hb=>by have:=sn.1 b hb;omega,λj r u b h1 h2 h3=>by have:=sn.2 j r u b h1 h2 h3;omega⟩
 refine⟨s5,cm s5 p3 (.cells (W V5) 0),V5,a1,λK=> ?_,⟨a2.kx kS (wu h.tab.out.pL a2.out.aA iU l3 _) sn3,k5.store l3 _,dF _ _ _,sn⟩,λp b hp hv hg=> ?_,y3⟩
 .rw[dG c K s5 1 p3 i V5 (W V) y3 (by rw[vc];rfl) (by have:=jt V;omega) (by rw[vc];exact v1),vc];rw[qI _ _ (jt V),hi]
 .rw[br (λe=>hp e.symm)];exact a3 p b hv hg
def iM(zt zg zy zr:Bool)(xt xg xy xr:List Nat):List AV:=[cL .u8 zt xt,cL .u16 zg xg,cL .u8 zy xy,cL .u32 zr xr]
theorem Er{R:Type}(k:IntKind)(z:Bool)(l:List Nat)(K:AV->St->Option R)(s:St):ak c (.lenB .l) [cL k z l] s K=K (.int .i64 (l.length:Int)) s:=by unfold cL;rw[jZ];simp
theorem Ub{R:Type}(k k':IntKind)(z:Bool)(l:List Nat){i:Nat}(h:i<l.length)(K:AV->St->Option R)(s:St):ak c (.idxA 1 none) [cL k z l,.int k' (i:Int)] s (λv s'=>ak c (.load none) [v] s' K)=K (.int k (l[i]:Int)) s:=by
 unfold cL;simp[h]
theorem adb{a b d:Nat}(h:d=a+b)(hl:a+b<=1000000):ay .i64 ((a:Int)+(b:Int))=(d:Int):=(wrap64 (by omega) (by omega)).trans (by omega)
theorem Yl(hc:cE c){xt:List Nat}(hx:∀x∈xt,x<256){zt zg zy zr:Bool}{xg xy xr:List Nat}{st sA s:St}{p1 p3:Pos}{V x2:AV}{rows:List (List AV)}(hA:Wf sA)(LS:sA.heap.get p1=some (.cells (iM zt zg zy zr xt xg xy xr) 0))(LU:p1≠p3)(I2:p3.toNat<sA.next.toNat)(iU:st.next.toNat<=p3.toNat)
  {k:Nat} (hk:k<xt.length) (hk3:k<3) (h:TL st sA s p3 V (mD xt k) rows (λV=>[V,.ah,.ah,.ah,.ah])):
  ∃s' V' Ep,TL st sA s' p3 V' (mD xt (k+1)) Ep (λV=>[V,.ah,.ah,.ah,.ah])/\∀(F:Nat)(k2:List AV->St->Option (AV×St))(f:Nat),
   dV c F k2 (f+1) [.ptr p1 0,x2,.ptr p3 0,.int .i64 (gq xt k:Int),.int .i64 (k:Int)] s=dV c F k2 f [.ptr p1 0,x2,.ptr p3 0,.int .i64 (gq xt (k+1):Int),.int .i64 ((k+1:Nat):Int)] s':=by
 have Ah:=hx _ (Zb9 hk);have d1:decide ((k:Int)<(xt.length:Int))=true:=H5 (by omega);have d2:decide ((k:Int)<3)=true:=H5 (by omega);have w2:ay .i64 ((k:Int)+1)=((k+1:Nat):Int):=wrap64 (by omega) (by omega);have w3:ay .i64 (xt[k]:Int)=(xt[k]:Int):=wrap64 (by omega) (by omega);have hw:=h.tab.out.aA.wf;have h1:=h.kx.keep p1 _ LU LS;obtain⟨v,s1,C,M⟩:=aav hc k xt[k] (by omega) Ah s hw;have g1:=M.aA;have gn:=Grew.af g1.wf (.cells ((gC k xt[k]).az v) 0);have hM:Mk 1 st (af s1 (.cells ((gC k xt[k]).az v) 0)) v ((gC k xt[k]).oM.map cU):=by rw[aaz];exact(M.back h.tab.out.pL h.tab.out.aA).grow gn
 have T1:TL st sA (af s1 (.cells ((gC k xt[k]).az v) 0)) p3 V (mD xt k) rows (λV=>[V,.ah,.ah,.ah,.ah]):=
  ⟨h.tab.sH (h.tab.out.aA.trans (g1.trans gn)) λb x _ _ hb=>gn.get (g1.get hb),h.kx.aA (g1.trans gn),gn.get (g1.get h.h3),h.since⟩
 obtain⟨s5,s6,V5,a1,a2,a3,a4,a5⟩:=T1.push (c:=c) (i:=0) hA I2 iU (λA B=>rfl) (λA=>by simp) hM (λb hb e=>by
  have p1:=M.new b hb;have p2:=h.tab.out.own.lt hw e;omega) (λb hb=>by have:=M.new b hb;have:=h.kx.next;omega) (by rw[DY];omega)
 have p6:s6.heap.get s1.next=some (.cells ((gC k xt[k]).az v) 0):=a4 s1.next _ (λe=>by have:=h.kx.next;have:=g1.next;rw[<-e]at I2;omega) (λe=>by
  have p2:=h.tab.out.own.lt hw e;have:=g1.next;omega) (aD _ _)
 have e:=Yj xt k hk;rw[<-e]at a3;refine⟨s6,V5,_,a3,λF k2 f=> ?_⟩;have hs:=zP hc (l:=(gC k xt[k]).az v) (sh:=((jY xt[k]:Nat):Int)) (a:=((tA xt[k]:Nat):Int)) (b:=((tB xt[k]:Nat):Int)) rfl rfl rfl (by have:=Pr xt[k];omega) (by have:=Pt xt[k];omega) s6 a3.tab.out.aA.wf;rw[H8]at hs;have hS:gq xt (k+1)=gq xt k+tN xt[k]:=by
  rw[gq];simp[Zb4,hk]
 have w1:ay .i64 ((gq xt k:Int)+(tN xt[k]:Int))=((gq xt (k+1):Nat):Int):=adb hS (by have:=OD xt k;have:=Lq xt[k];exact Zc7 (Nat.add_le_add ‹_› ‹_›) (by omega));have lI:=λ(K:AV->St->Option (AV×St))(s:St)=>Er (c:=c) .u8 zt xt K s
 have aI:=λ(K:AV->St->Option (AV×St))(s:St)=>Ub (c:=c) .u8 .i64 zt xt hk K s
 have c0:(iM zt zg zy zr xt xg xy xr)[0]? =some (cL .u8 zt xt):=rfl;have cu:cut ((gC k xt[k]).az v) 0 7=some ((gC k xt[k]).az v):=bQ rfl;rw[<-Vx]at C;have C4:∀(K:AV->St->Option (AV×St)),ak c (.store 7) [.ptr s1.next 0,.agg ((gC k xt[k]).az v)] (af s1 (.cells [.str [],.int .u8 0,.int .i64 0,.int .i64 0,.ah,.int .i64 0,.int .i64 0] 0)) K=K .undef (af s1 (.cells ((gC k xt[k]).az v) 0)):=λK=>dQ c K s1 7 (.agg ((gC k xt[k]).az v)) [.str [],.int .u8 0,.int .i64 0,.int .i64 0,.ah,.int .i64 0,.int .i64 0] rfl rfl ((gC k xt[k]).M8 M.cells.2)
 have Uc:=T1.h3;have g6:=aD s1 (.cells ((gC k xt[k]).az v) 0);generalize (gC k xt[k]).az v=tc at*
 generalize gq xt (k+1)=S1 at*
 clear hS e T1 a3 a4 hM M h;rw[rV];simp (disch:=omega) [-aT,Zb1,h1,lI,aI,c0,hk,hk3,d1,d2,w3,C,C4,Uc,g6,cu,a1,a2,a5,p6,hs,w1,w2]
theorem Ym(hc:cE c){xt:List Nat}(hx:∀x∈xt,x<256)(hl:xt.length<=9223372036854775807){zt zg zy zr:Bool}{xg xy xr:List Nat}{st sA:St}{p1 p3:Pos}{x2:AV}(hA:Wf sA)(LS:sA.heap.get p1=some (.cells (iM zt zg zy zr xt xg xy xr) 0))(LU:p1≠p3)(I2:p3.toNat<sA.next.toNat)(iU:st.next.toNat<=p3.toNat):
  ∀(m k:Nat)(s:St)(V:AV)(rows:List (List AV)),k+m=min xt.length 3->TL st sA s p3 V (mD xt k) rows (λV=>[V,.ah,.ah,.ah,.ah])->
  ∃ s' V' Ep,TL st sA s' p3 V' (mD xt (min xt.length 3)) Ep (λV=>[V,.ah,.ah,.ah,.ah])/\∀(F:Nat)(k2:List AV->St->Option (AV×St))(f:Nat),m<f->
    dV c F k2 f [.ptr p1 0,x2,.ptr p3 0,.int .i64 (gq xt k:Int),.int .i64 (k:Int)] s=k2 [.ptr p1 0,x2,.ptr p3 0,.int .i64 (gq xt (min xt.length 3):Int)] s':=by
 intro m;induction m with
 |zero=>
  intro k s V rows hk h;obtain rfl:k=min xt.length 3:=by omega
  refine⟨s,V,rows,h,λF k2 f hf=> ?_⟩;obtain⟨f,rfl⟩:∃g,f=g+1:=⟨f - 1,by omega⟩
  have h1:=h.kx.keep p1 _ LU LS;have c0:(iM zt zg zy zr xt xg xy xr)[0]? =some (cL .u8 zt xt):=rfl;have lI:=λ(K:AV->St->Option (AV×St))(s:St)=>Er (c:=c) .u8 zt xt K s
  generalize gq xt (min xt.length 3)=S at*
  rw[rV];by_cases h3:xt.length<=3
  .have e:min xt.length 3=xt.length:=(by omega);rw[e];simp[h1,c0,lI]
  .have e:min xt.length 3=3:=(by omega);have hd:decide ((3:Int)<(xt.length:Int))=true:=H5 (by omega);rw[e];simp[h1,c0,lI,hd]
 |succ m ih=>
  intro k s V rows hk h;obtain⟨s1,V1,r1,h1,e1⟩:=Yl (x2:=x2) hc hx hA LS LU I2 iU (k:=k) (by omega) (by omega) h;obtain⟨s2,V2,r2,h2,e2⟩:=ih (k+1) s1 V1 r1 (by omega) h1;refine⟨s2,V2,r2,h2,λF k2 f hf=> ?_⟩;obtain⟨f,rfl⟩:∃g,f=g+1:=⟨f - 1,by omega⟩
  rw[e1 F k2 f,e2 F k2 f (by omega)]
theorem R7{k:Nat}(h:k<=1000000):ay .i64 ((k:Int)+1)=((k+1:Nat):Int):=wrap64 (by omega) (by omega)
theorem Vy{x:Nat}(h:x<=4294967296):ay .i64 (x:Int)=(x:Int):=wrap64 (by omega) (by omega)
def wJ(xg:List Nat)(k:Nat):List Int:=(List.range k).map λi=>((xg.getD i 0 / 3 % 4:Nat):Int)
theorem Yn(xg:List Nat)(k:Nat)(h:k<xg.length):wJ xg (k+1)=wJ xg k++[((xg[k] / 3 % 4:Nat):Int)]:=by
 unfold wJ;rw[Zi4,Zd9];simp[Zb4,h]
theorem DZ(xg:List Nat)(k:Nat):(wJ xg k).length=k:=by simp[wJ]
theorem Vz{xg:List Nat}(hx:∀x∈xg,x<65536){zt zg zy zr:Bool}{xt xy xr:List Nat}{st sA:St}{p1 p3:Pos}{x2 V1 V2 V3:AV}{n:Nat}(hn:n<=xg.length)(XL:n<=1000)(hA:Wf sA)(LS:sA.heap.get p1=some (.cells (iM zt zg zy zr xt xg xy xr) 0))(LU:p1≠p3)(I2:p3.toNat<sA.next.toNat)(iU:st.next.toNat<=p3.toNat)
  (l2:∀(K:AV->St->Option (AV×St))(s':St),ak c (.lenB .l) [V2] s' K=K (.int .i64 (n:Int)) s'):
  ∀(m k:Nat)(s:St)(V:AV),k+m=n->LL st sA s p3 1 V ((wJ xg k).map cU) (λA=>[V1,V2,V3,A,.ah])->
  ∃s' V',LL st sA s' p3 1 V' ((wJ xg n).map cU) (λA=>[V1,V2,V3,A,.ah])/\∀(F:Nat)(k4:List AV->St->Option (AV×St))(f:Nat),m<f->
   fU c F k4 f [.ptr p1 0,x2,.ptr p3 0,.int .i64 (k:Int)] s=k4 [.ptr p1 0,x2,.ptr p3 0] s':=by
 intro m;induction m with
 |zero=>
  intro k s V hk h;obtain rfl:k=n:=by omega
  refine⟨s,V,h,λF k4 f hf=> ?_⟩;obtain⟨f,rfl⟩:∃g,f=g+1:=⟨f - 1,by omega⟩
  rw[rU];simp[h.h3,l2]
 |succ m ih=>
  intro k s V hk h;have hkn:k<n:=by omega
  have zR:k<xg.length:=by omega
  have Ah:=hx _ (Zb9 zR);obtain⟨v,hv⟩:∃v:Nat,v=xg[k] / 3 % 4:=⟨_,rfl⟩
  have E:(xg[k]:Int) / 3 % 4=(v:Int):=by omega
  have h1:=h.kx.keep p1 _ LU LS;obtain⟨s5,s6,V5,a1,a2,a3,a4,a5,a6,a7⟩:=h.push (c:=c) (bytes:=8) (i:=3) (z:=[.int .i64 0]) (x:= .int .i64 (v:Int)) hA I2 iU (λA B=>rfl) (λA=>by simp) rfl rfl rfl (by decide) (by rw[Zb3,DZ];omega) (by rw[Zb3,DZ];omega);have e:(wJ xg k).map cU++[(.int .i64 (v:Int):AV).cells]=(wJ xg (k+1)).map cU:=by rw[Yn xg k zR,Zd9,hv];rfl
  rw[e]at a3;obtain⟨s7,V7,b1,b2⟩:=ih (k+1) s6 V5 (by omega) a3;refine⟨s7,V7,b1,λF k4 f hf=> ?_⟩;obtain⟨f,rfl⟩:∃g,f=g+1:=⟨f - 1,by omega⟩
  have b3:=b2 F k4 f (by omega);have aI:=λ(K:AV->St->Option (AV×St))(s:St)=>Ub (c:=c) .u16 .i64 zg xg zR K s
  have c1:(iM zt zg zy zr xt xg xy xr)[1]? =some (cL .u16 zg xg):=rfl;have Uc:=h.h3;clear b2 ih a3 a4 a5 a6 e hv;have k6:k<=1000000:=by omega
  have x6:xg[k]<=4294967296:=by omega
  have w2:=R7 k6;have w3:=Vy x6;rw[<-b3,rU];simp (disch:=omega) [-aT,-eE,-jD,bN,eX,Zb1,Ze3,h1,Uc,l2,aI,c1,hkn,w3,E,a1,a2,a7,w2]
def s9(ts:List aR)(gs:List aN)(xr:List Nat):Nat->List Rl
 |0=>[]
 |k+1=>s9 ts gs xr k++(if(eM ts gs (xr.getD k 0)).2=true then [(eM ts gs (xr.getD k 0)).1]else [])
theorem D3(ts:List aR)(gs:List aN)(xr:List Nat):∀k,(s9 ts gs xr k).length<=k
 |0=>Za4 _
 |k+1=>by have:=D3 ts gs xr k;unfold s9;rw[Ze0];split<;>simp<;>omega
theorem aaA{R:Type}(k k':IntKind)(z:Bool)(l:List Nat){i:Nat}(h:i<l.length)(K:AV->Option R)(t:T AB):ey (.idxA 1 none) [cL k z l,.int k' (i:Int)] (λv=>jV (.load none) [v] t (λ_=>true) K)=K (.int k (l[i]:Int)):=by
 unfold cL;simp[h]
theorem aaB{R:Type}(s:St)(K:AV->AB->Option R):F0 (.alloc [.int .u8 0,.int .i64 0,.str [],.str [],.str [],.int .i64 0]) [] s K=K (.ptr s.next 0) (.cells [.int .u8 0,.int .i64 0,.str [],.str [],.str [],.int .i64 0] 0):=rfl
theorem VA(hc:cE c){xr:List Nat}(hx:∀x∈xr,x<4294967296)(hl:xr.length<=9223372036854775807){zt zg zy zr:Bool}{xt xg xy:List Nat}{st sA:St}{p1 p3:Pos}{x2 V1 V2 V3 V4:AV}(hA:Wf sA)(LS:sA.heap.get p1=some (.cells (iM zt zg zy zr xt xg xy xr) 0))(LU:p1≠p3)(I2:p3.toNat<sA.next.toNat)(iU:st.next.toNat<=p3.toNat)
  {ts:List aR} {gs:List aN} {r1 r2:List (List AV)} (hT:TS st sA V1 ts r1) (sT:TS.lZ (p3.toNat+1) V1 r1) (hG:GS st sA V2 gs r2) (sG:GS.lZ (p3.toNat+1) V2 r2) (lt:ts.length<=1000) (lg:gs.length<=1000)
  (hz:∀t∈ts,0<jf t.sh t.a t.b/\jf t.sh t.a t.b<=1000) (ha:∀t∈ts,(0<=t.a/\t.a<=1000000)/\0<=t.b/\t.b<=1000000):
  ∀(m k:Nat)(s:St)(V:AV),k+m=min xr.length 12->LL st sA s p3 6 V ((s9 ts gs xr k).map Rl.cells) (λA=>[V1,V2,V3,V4,A])->
  ∃ s' V',LL st sA s' p3 6 V' ((s9 ts gs xr (min xr.length 12)).map Rl.cells) (λA=>[V1,V2,V3,V4,A])/\∀(F:Nat)(k6:List AV->St->Option (AV×St))(f:Nat),m<f->
    fT c F k6 f [.ptr p1 0,x2,.ptr p3 0,.int .i64 (k:Int)] s=k6 [x2,.ptr p3 0] s':=by
 have c3:(iM zt zg zy zr xt xg xy xr)[3]? =some (cL .u32 zr xr):=rfl;have lI:=λ(K:AV->St->Option (AV×St))(s:St)=>Er (c:=c) .u32 zr xr K s
 intro m;induction m with
 |zero=>
  intro k s V hk h;obtain rfl:k=min xr.length 12:=by omega
  refine⟨s,V,h,λF k6 f hf=> ?_⟩;obtain⟨f,rfl⟩:∃g,f=g+1:=⟨f - 1,by omega⟩
  have h1:=h.kx.keep p1 _ LU LS;rw[mG];by_cases h3:xr.length<=12
  .have e:min xr.length 12=xr.length:=(by omega);rw[e];simp[h1,c3,lI]
  .have e:min xr.length 12=12:=(by omega);have hd:decide ((12:Int)<(xr.length:Int))=true:=H5 (by omega);rw[e];simp[h1,c3,lI,hd]
 |succ m ih=>
  intro k s V hk h;have zR:k<xr.length:=by omega
  have hk12:k<12:=by omega
  have Ah:=hx _ (Zb9 zR);have kM:k<=1000000:=by omega
  have d12:decide ((k:Int)<12)=true:=H5 (by omega);have nw:=λ(K:AV->AB->Option (AV×St))=>aaB s K
  have xM:xr[k]<=4294967296:=by omega
  have h1:=h.kx.keep p1 _ LU LS;have gr:=h.out.aA;have A:=aax hc (V3:=V3) (V4:=V4) (V5:=V) (hT.kx h.kx gr sT) (hG.kx h.kx gr sG) lt lg hz ha xr[k] Ah;have gn:=Grew.af gr.wf (.cells (eM ts gs xr[k]).1.cells 0);have hS:s9 ts gs xr (k+1)=s9 ts gs xr k++(if(eM ts gs xr[k]).2=true then [(eM ts gs xr[k]).1]else []):=by
    rw[s9];simp[Zb4,zR]
  have C4:∀(K:AV->St->Option (AV×St)),ak c (.store 6) [.ptr s.next 0,.agg (eM ts gs xr[k]).1.cells] (af s (.cells [.int .u8 0,.int .i64 0,.str [],.str [],.str [],.int .i64 0] 0)) K=K .undef (af s (.cells (eM ts gs xr[k]).1.cells 0)):=λK=>dQ c K s 6 (.agg (eM ts gs xr[k]).1.cells) [.int .u8 0,.int .i64 0,.str [],.str [],.str [],.int .i64 0] rfl rfl rfl
  have aP:=λ(K:AV->Option (AV×St))(t:T AB)=>aaA .u32 .i64 zr xr zR K t
  have hg:=h.aA gn;have Uc:=h.h3;have Xj:=hg.h3;have ll:=D3 ts gs xr k;have cu5:∀A B D E G:AV,cut [A,B,D,E,G] 0 5=some [A,B,D,E,G]:=λA B D E G=>bQ rfl
  have gx:=aD s (.cells (eM ts gs xr[k]).1.cells 0);by_cases hb:(eM ts gs xr[k]).2=true
  . rw[hb]at A;rw[Za7 hb]at hS;obtain⟨s5,s6,V5,a1,a2,a3,a4,a5,a6,a7⟩:=hg.push (c:=c) (bytes:=72) (i:=4) (z:=[.int .u8 0,.int .i64 0,.str [],.str [],.str [],.int .i64 0]) (x:= .agg (eM ts gs xr[k]).1.cells) hA I2 iU (λA B=>rfl) (λA=>by simp) rfl rfl rfl (by decide) (by rw[Zb3];omega) (by rw[Zb3];omega);have e:(s9 ts gs xr k).map Rl.cells++[(.agg (eM ts gs xr[k]).1.cells:AV).cells]=(s9 ts gs xr (k+1)).map Rl.cells:=(by rw[hS,Zd9];rfl);rw[e]at a3;obtain⟨s7,V7,b1,b2⟩:=ih (k+1) s6 V5 (by omega) a3;refine⟨s7,V7,b1,λF k6 f hf=> ?_⟩;obtain⟨f,rfl⟩:∃g,f=g+1:=⟨f - 1,by omega⟩
    have b3:=b2 F k6 f (by omega);generalize (eM ts gs xr[k]).1=R at*
    clear b2 ih a3 a4 a5 a6 e hS hb ll hg h;have w2:=R7 kM;have w3:=Vy xM;rw[<-b3,mG];simp (disch:=omega) [-aT,fY,Zb1,Ze3,h1,Uc,Xj,lI,aP,c3,zR,d12,nw,w3,A,C4,cu5,gx,a1,a2,a7,w2]
  . have gQ:(eM ts gs xr[k]).2=false:=(by simpa using hb);rw[gQ]at A;rw[Za5 hb,Ze8]at hS;rw[<-hS]at hg;obtain⟨s7,V7,b1,b2⟩:=ih (k+1) _ V (by omega) hg;refine⟨s7,V7,b1,λF k6 f hf=> ?_⟩;obtain⟨f,rfl⟩:∃g,f=g+1:=⟨f - 1,by omega⟩
    have b3:=b2 F k6 f (by omega);generalize (eM ts gs xr[k]).1=R at*
    clear b2 ih hS hb gQ ll hg h;have w2:=R7 kM;have w3:=Vy xM;rw[<-b3,mG];simp (disch:=omega) [-aT,fY,Zb1,Ze3,h1,Uc,Xj,lI,aP,c3,zR,d12,nw,w3,A,C4,cu5,gx,w2]
theorem SG(hc:cE c){xs:List Nat}(hx:∀x∈xs,x<65536)(hl:xs.length<=9223372036854775807)(z:Bool)(x1:AV){st:St}{p4 p5:Pos}(C3:p4≠p5)(Bp:st.next.toNat<=p5.toNat){W:AV}:∀(m k:Nat)(s:St)(V:AV)(rows:List (List AV)),k+m=min xs.length 12->
  GL st s p4 p5 V W (u9 xs k) rows->∃s' V' Ep,GL st s' p4 p5 V' W (u9 xs (min xs.length 12)) Ep/\∀(F:Nat)(_:5<=F)(k2:List AV->St->Option (AV×St))(f:Nat),m<f->
    dW c F k2 f [cL .u16 z xs,x1,.ptr p4 0,.ptr p5 0,.int .i64 (k:Int)] s=k2 [x1,.ptr p4 0,.ptr p5 0] s':=by
 intro m;induction m with
 |zero=>
  intro k s V rows hk h;obtain rfl:k=min xs.length 12:=by omega
  refine⟨s,V,rows,h,λF _ k2 f hf=> ?_⟩;obtain⟨f,rfl⟩:∃g,f=g+1:=⟨f - 1,by omega⟩
  have lI:∀(K:AV->St->Option (AV×St))(s:St),ak c (.lenB .l) [cL .u16 z xs] s K=K (.int .i64 (xs.length:Int)) s:=λK s=>by unfold cL;rw[jZ];simp
  rw[se];by_cases Ql:xs.length<=12
  .have e:min xs.length 12=xs.length:=(by omega);rw[e];simp[lI]
  .have e:min xs.length 12=12:=(by omega);rw[e];have hd:decide (12<xs.length)=true:=H5 (by omega);have KA:(12:Nat)<xs.length:=(by omega);have T3:decide ((12:Int)<(xs.length:Int))=true:=H5 (by omega);simp[lI,T3]
 |succ m ih=>
  intro k s V rows hk h;obtain⟨s1,V1,r1,h1,e1⟩:=SE hc hx z x1 C3 Bp (k:=k) (by omega) (by omega) h;obtain⟨s2,V2,r2,h2,e2⟩:=ih (k+1) s1 V1 r1 (by omega) h1;refine⟨s2,V2,r2,h2,λF hF k2 f hf=> ?_⟩;obtain⟨f,rfl⟩:∃g,f=g+1:=⟨f - 1,by omega⟩
  rw[e1 F hF k2 f,e2 F hF k2 f (by omega)]
structure YL(st s:St)(p4 p5:Pos)(V W:AV)(gs:List aN)(rows:List (List AV))(ys:List Ty):Prop where
 gl:GL st s p4 p5 V W gs rows
 ty:Mk 3 st s W (ys.map Ty.cells)
 w4:aZ W≠some p4
 w5:aZ W≠some p5
 wV:∀b,aZ W=some b->aZ V≠some b
 wI:∀(i:Nat)(r:List AV)(v:AV)(b:Pos),rows[i]? =some r->r[8]? =some v->aZ v=some b->aZ W≠some b
theorem YL.start{st s:St}{p4 p5:Pos}{V:AV}{gs:List aN}{rows:List (List AV)}(h:GL st s p4 p5 V .ah gs rows):YL st s p4 p5 V .ah gs rows []:=
 ⟨h,Mk.start h.out.pL h.out.aA,λe=>(nomatch e),λe=>(nomatch e),λ_ e=>(nomatch e),λ_ _ _ _ _ _ _ e=>(nomatch e)⟩
theorem YL.push{st s:St}{p4 p5:Pos}{V W:AV}{gs:List aN}{rows:List (List AV)}{ys:List Ty}(h:YL st s p4 p5 V W gs rows ys)(C3:p4≠p5)(Bp:st.next.toNat<=p5.toNat)(t:Ty)(hlen:ys.length<=1000000):
   ∃s5 s6 W5,(∀(K:AV->St->Option (AV×St)),ak c (.buildSlice 3 1 [.str [],.str [],.int .u8 0] [0]) [.agg t.cells] s (λy q=>ak c (.append 3 40) [W,y] q K)=K W5 s5)/\
    (∀(K:AV->St->Option (AV×St)),ak c (.store 1) [.ptr p5 1,W5] s5 K=K .undef s6)/\YL st s6 p4 p5 V W5 gs rows (ys++[t]):=by
 have hw:=h.gl.out.aA.wf;obtain⟨s5,W5,a1,a2,a3,a4⟩:=h.ty.push (c:=c) (R:=AV×St) (bytes:=40) (z:=[.str [],.str [],.int .u8 0]) (x:= .agg t.cells) rfl rfl rfl (by decide) (by rw[Zb3];omega) (by rw[Zb3];omega);have e:(ys++[t]).map Ty.cells=ys.map Ty.cells++[(.agg t.cells:AV).cells]:=by rw[Zd9];rfl
 rw[<-e]at a2;have y4:=a3 p4 _ h.w4 h.gl.h4;have y5:=a3 p5 _ h.w5 h.gl.h5;have l4:=hw p4 _ h.gl.h4;have l5:=hw p5 _ h.gl.h5;have b4:aZ W5≠some p4:=λe=>by have:=a4 _ e;omega
 have b5:aZ W5≠some p5:=λe=>by have:=a4 _ e;omega
 have Lu:=a2.aA.wf p5 _ y5;obtain⟨vc,v1⟩:=a2.cells;have aK:∀(K:AV->St->Option (AV×St)),ak c (.store 1) [.ptr p5 1,W5] s5 K=K .undef (cm s5 p5 (.cells [V,W5] 0)):=λK=>by rw[dG c K s5 1 p5 1 W5 [V,W] y5 (by rw[vc];rfl) (by simp) (by rw[vc];exact v1),vc];rfl
 have M6:=a2.store (p:=p5) (b:= .cells [V,W5] 0) Bp Lu b5;have keep:∀(u:AV)(n:Nat)(rw:List (List AV)),Mk n st s u rw->(∀b,aZ u=some b->aZ W≠some b/\b≠p5)->Mk n st (cm s5 p5 (.cells [V,W5] 0)) u rw:=λu n rw hu cj=>
   R5 hu M6.aA λb y hb hy=>by rw[br (λe=>(cj b hb).2 e.symm)];exact a3 b y (cj b hb).1 hy
 have newW:∀b,aZ W5=some b->s.next.toNat<=b.toNat:=a4;refine⟨s5,_,W5,a1,aK,⟨⟨keep V 9 rows h.gl.out λb hb=>⟨λe=>h.wV b e hb,λe=>h.gl.n5 (by rw[hb,e])⟩,h.gl.len,λi g r hi hr=> ?_,by rw[br (λe=>C3 e.symm)];exact y4,dF _ _ _,h.gl.n4,h.gl.n5⟩,M6,b4,b5,λb hb e=> ?_,λi r v b hr h8 hv e=> ?_⟩⟩
 .obtain⟨v,e1,e2,e3⟩:=h.gl.qU i g r hi hr;have h8:r[8]? =some v:=(by rw[e1];rfl);exact⟨v,e1,keep v 1 _ e2 λb hb=>⟨h.wI i r v b hr h8 hb,(e3 b hb).2.2⟩,e3⟩
 .have:=newW b hb;have:=h.gl.out.own.lt hw e;omega
 .have p1:=newW b e;have hi:i<gs.length:=(by rw[<-h.gl.len];exact(Za0.1 hr).1);obtain⟨u,e1,e2,_⟩:=h.gl.qU i gs[i] r (H4 hi) hr;have:u=v:=(by rw[e1]at h8;exact Zg0 h8);subst this;have:=e2.own.lt hw hv;omega
def iO(gs:List aN):List (List Nat):=gs.map λg=>g.name
def Nj(bg:List Nat)(i k n:Nat):Ty:=⟨bl i,bl k,1+((bg.getD n 0 % 4:Nat):Int)⟩
def R8(bg:List Nat)(n:Nat):Bool:=decide (n<bg.length)&&decide (bg.getD n 0 % 4<2)
def wK(bg:List Nat)(i k n:Nat)(ys:List Ty):List Ty:=if R8 bg n=true then ys++[Nj bg i k n]else ys
theorem R9(bg:List Nat)(i k n:Nat)(ys:List Ty):(wK bg i k n ys).length<=ys.length+1:=by unfold wK;split<;>simp
def iP(names:List (List Nat))(bg:List Nat)(i:Nat):Nat->Nat->Nat->List Ty->Nat×List Ty
 |0,_,n,ys=>(n,ys)
 |m+1,k,n,ys=>if bl i∈names then(if bl k∈names then iP names bg i m (k+1) (n+1) (wK bg i k n ys)else iP names bg i m (k+1) n ys)else(n,ys)
theorem GL.there(hc:cE c){st s:St}{p4 p5:Pos}{V W:AV}{gs:List aN}{rows:List (List AV)}(h:GL st s p4 p5 V W gs rows)(hl:gs.length<=1000)(x:Nat)(hx:x<1000000):
  c 45 [.agg [V,W],.int .i64 (x:Int)] s=some (.bool (decide (bl x∈iO gs)),s):=
 aaw hc h.out.own h.out.row (names:=iO gs) (by rw[iO,Zb3,h.len]) (λi h1 h2=>by
  have h3:i<gs.length:=by rw[<-h.len];exact h1
  obtain⟨v,e,_⟩:=h.qU i gs[i] rows[i] (H4 h3) (H4 h1);rw[e];simp[iO,aN.az]) (by rw[h.len];exact hl) x hx h.out.aA.wf
theorem SH{R:Type}(h:T AB)(ok:AV->Bool)(xs:List (List AV))(i j:Nat)(K1:AV->Option R):jV (.load none) [.fp xs i j] h ok K1=rj (xs[i]?.bind λcs=>cs[j]?) K1:=by unfold jV;rw[uy,uy];cases hx:(xs[i]?.bind λcs=>cs[j]?)<;>rfl
theorem Yo{R:Type}(a b:List Nat)(k:Int)(s:St)(K:AV->AB->Option R):F0 (.buildSlice 3 1 [.str [],.str [],.int .u8 0] [0]) [.agg [.str a,.str b,.int .u8 k]] s K=K (.slice s.next 0 1 (some 1) 3) (.cells [.str a,.str b,.int .u8 k] 0):=rfl
theorem VB(a b:List Nat)(k:Int)(K:AV->Option (AV×St)):ey (.build [.str [],.str [],.int .u8 0] [(0,1),(1,1),(2,1)]) [.str a,.str b,.int .u8 k] K=K (.agg [.str a,.str b,.int .u8 k]):=rfl
theorem acm (hc:cE c){bg:List Nat}(ht:∀x∈bg,x<256)(z:Bool){st:St}{p4 p5:Pos}(C3:p4≠p5)(Bp:st.next.toNat<=p5.toNat){V:AV}{gs:List aN}(Yp:gs.length<=1000){rows:List (List AV)}{i:Nat}(hi:i<1000):
  ∀(m k n:Nat)(s:St)(W:AV)(ys:List Ty),k+m=312->ys.length<=n->n+m<=1000000->YL st s p4 p5 V W gs rows ys->
  ∃ s' W',YL st s' p4 p5 V W' gs rows (iP (iO gs) bg i m k n ys).2/\∀(F:Nat)(k8:List AV->St->Option (AV×St))(f:Nat),m<f->
    fV c F k8 f [cL .u8 z bg,.ptr p4 0,.ptr p5 0,.int .i64 (n:Int),.int .i64 (i:Int),.int .i64 (k:Int)] s=k8 [cL .u8 z bg,.ptr p4 0,.ptr p5 0,.int .i64 ((iP (iO gs) bg i m k n ys).1:Int),.int .i64 (i:Int)] s':=by
 intro m;induction m with
 |zero=>
  intro k n s W ys hk hy hn h;obtain rfl:k=312:=by omega
  refine⟨s,W,h,λF k8 f hf=> ?_⟩;obtain⟨f,rfl⟩:∃g,f=g+1:=⟨f - 1,by omega⟩
  rw[fj];simp[iP]
 |succ m ih  =>
  intro k n s W ys hk hy hn h;have T1:=h.gl.there hc Yp i (by omega);have T2:=h.gl.there hc Yp k (by omega);have hd:decide ((k:Int)<312)=true:=H5 (by omega);have w:ay .i64 ((k:Int)+1)=((k+1:Nat):Int):=wrap64 (by omega) (by omega);have w2:ay .i64 ((n:Int)+1)=((n+1:Nat):Int):=wrap64 (by omega) (by omega);have h5:=h.gl.h5;have cu:cut [V,W] 0 2=some [V,W]:=rfl;have lI:∀(K:AV->St->Option (AV×St))(s:St),ak c (.lenB .l) [cL .u8 z bg] s K=K (.int .i64 (bg.length:Int)) s:=λK s=>by unfold cL;rw[jZ];simp
  by_cases OE:bl i∈iO gs
  . by_cases rQ:bl k∈iO gs
    .   have eT:iP (iO gs) bg i (m+1) k n ys=iP (iO gs) bg i m (k+1) (n+1) (wK bg i k n ys):=(by rw[iP,Za7 OE,Za7 rQ]);rw[eT];have hl:=R9 bg i k n ys;by_cases j7:n<bg.length
        . have ix:∀(K:AV->St->Option (AV×St))(s:St),ak c (.idxA 1 none) [cL .u8 z bg,.int .i64 (n:Int)] s K=K (.fp (bg.map λ(i:Nat)=>[.int .u8 (i:Int)]) n 0) s:=λK s=>by unfold cL;rw[QE];simp[j7]
          have pix:∀(K:AV->Option (AV×St)),ey (.idxA 1 none) [cL .u8 z bg,.int .i64 (n:Int)] K=K (.fp (bg.map λ(i:Nat)=>[.int .u8 (i:Int)]) n 0):=λK=>by unfold cL;rw[Zo];simp[j7]
          obtain⟨x,hx⟩:∃x,bg[n]=x:=⟨_,rfl⟩
          have hx8:x<256:=(by rw[<-hx];exact ht _ (Zb9 j7));have gd:bg.getD n 0=x:=(by simp[Zb4,j7,hx]);have r1:=λ(s:St)(K:AV->St->Option (AV×St))=>bN (c:=c) (k:= .u8) (a:=(x:Int)) (b:=4) (by omega) (by omega) s K
          have r2:=λ(K:AV->Option (AV×St))=>wo (k:= .u8) (a:=(x:Int)) (b:=4) (by omega) (by omega) K
          have w8:ay .u8 (1+(x:Int) % 4)=1+(x:Int) % 4:=wQ (by omega) (by omega);have eC:R8 bg n=decide (x % 4<2):=(by unfold R8;rw[gd,H5 j7,Zg6]);have d2:decide ((x:Int) % 4<2)=decide (x % 4<2):=decide_eq_decide.2 (by omega);by_cases hx4:x % 4<2
          . have eY:wK bg i k n ys=ys++[Nj bg i k n]:=(by unfold wK;rw[eC,Za7 (H5 hx4)]);rw[eY]at hl ⊢;obtain⟨s5,s6,W5,a1,a2,a3⟩:=h.push (c:=c) C3 Bp (Nj bg i k n) (by omega);have eU:(Nj bg i k n).cells=[.str (bl i),.str (bl k),.int .u8 (1+(x:Int) % 4)]:=(by unfold Nj Ty.cells;rw[gd];simp);have a1':∀K,ak c (.append 3 40) [W,.slice s.next 0 1 (some 1) 3] (af s (.cells [.str (bl i),.str (bl k),.int .u8 (1+(x:Int) % 4)] 0)) K=K W5 s5:=λK=>by have h1:=a1 K;rw[Tr (es:=3) (z:=[.str [],.str [],.int .u8 0]) (x:= .agg (Nj bg i k n).cells) rfl rfl]at h1;rw[<-eU];exact h1
            have N1:=qN hc i (by omega) s h.gl.out.aA.wf;have N2:=qN hc k (by omega) s h.gl.out.aA.wf;obtain⟨s',W',b1,b2⟩:=ih (k+1) (n+1) s6 W5 _ (by omega) (by omega) (by omega) a3;refine⟨s',W',b1,λF k8 f hf=> ?_⟩;obtain⟨f,rfl⟩:∃g,f=g+1:=⟨f - 1,by omega⟩
            rw[<-b2 F k8 f (by omega),fj];simp[-aT,-uA,-xk,h5,cu,T1,T2,OE,rQ,hd,fY,lI,j7,ix,pix,hx,r1,r2,d2,hx4,w8,N1,N2,SH,Yo,VB,a1',a2,w,w2]
          . have eY:wK bg i k n ys=ys:=(by unfold wK;rw[eC,Za5 (by simp;omega)]);rw[eY];obtain⟨s',W',b1,b2⟩:=ih (k+1) (n+1) s W ys (by omega) (by omega) (by omega) h;refine⟨s',W',b1,λF k8 f hf=> ?_⟩;obtain⟨f,rfl⟩:∃g,f=g+1:=⟨f - 1,by omega⟩
            have d2':decide ((x:Int) % 4<2)=false:=Za2 (by omega);rw[<-b2 F k8 f (by omega),fj];simp[-aT,-uA,-xk,h5,cu,T1,T2,OE,rQ,hd,fY,lI,j7,ix,hx,r1,d2',w,w2]
        . have eY:wK bg i k n ys=ys:=(by unfold wK R8;rw[Za2 j7,Bool.false_and,Za5 (by decide)]);rw[eY];obtain⟨s',W',b1,b2⟩:=ih (k+1) (n+1) s W ys (by omega) (by omega) (by omega) h;refine⟨s',W',b1,λF k8 f hf=> ?_⟩;obtain⟨f,rfl⟩:∃g,f=g+1:=⟨f - 1,by omega⟩
          rw[<-b2 F k8 f (by omega),fj];simp[-aT,-uA,-xk,h5,cu,T1,T2,OE,rQ,hd,fY,lI,j7,w,w2]
    .   have eT:iP (iO gs) bg i (m+1) k n ys=iP (iO gs) bg i m (k+1) n ys:=(by rw[iP,Za7 OE,Za5 rQ]);rw[eT];obtain⟨s',W',b1,b2⟩:=ih (k+1) n s W ys (by omega) (by omega) (by omega) h;refine⟨s',W',b1,λF k8 f hf=> ?_⟩;obtain⟨f,rfl⟩:∃g,f=g+1:=⟨f - 1,by omega⟩
        rw[<-b2 F k8 f (by omega),fj];simp[-aT,-uA,-xk,h5,cu,T1,T2,OE,rQ,hd,fY,w]
  . have eT:iP (iO gs) bg i (m+1) k n ys=(n,ys):=(by rw[iP,Za5 OE]);rw[eT];refine⟨s,W,h,λF k8 f hf=> ?_⟩;obtain⟨f,rfl⟩:∃g,f=g+1:=⟨f - 1,by omega⟩
    rw[fj];simp[-aT,-uA,-xk,h5,cu,T1,OE,hd,fY]
theorem G6(names:List (List Nat))(bg:List Nat)(i:Nat):∀(m k n:Nat)(ys:List Ty),ys.length<=n->(iP names bg i m k n ys).2.length<=(iP names bg i m k n ys).1/\(iP names bg i m k n ys).1<=n+m
 |0,k,n,ys,h=>by unfold iP;exact⟨h,by omega⟩
 |m +   1,k,n,ys,h=>by
  unfold iP;split
  . split
    .   have hl:=R9 bg i k n ys;have:=G6 names bg i m (k+1) (n+1) (wK bg i k n ys) (by omega);omega
    .   have:=G6 names bg i m (k+1) n ys h;omega
  .exact⟨h,by omega⟩
def G7(names:List (List Nat))(bg:List Nat):Nat->Nat->Nat->List Ty->List Ty
 |0,_,_,ys=>ys
 |m+1,i,n,ys=>G7 names bg m (i+1) (iP names bg i m (i+1) n ys).1 (iP names bg i m (i+1) n ys).2
theorem abO(hc:cE c){bg:List Nat}(ht:∀x∈bg,x<256)(z:Bool){st:St}{p4 p5:Pos}(C3:p4≠p5)(Bp:st.next.toNat<=p5.toNat){V:AV}{gs:List aN}(Yp:gs.length<=1000){rows:List (List AV)}:
  ∀(m i n:Nat)(s:St)(W:AV)(ys:List Ty),i+m=312->ys.length<=n->n+m*312<=1000000->YL st s p4 p5 V W gs rows ys->
  ∃s' W',YL st s' p4 p5 V W' gs rows (G7 (iO gs) bg m i n ys)/\∀(F:Nat)(_:400<=F)(k6:List AV->St->Option (AV×St))(f:Nat),m<f->
   fW c F k6 f [cL .u8 z bg,.ptr p4 0,.ptr p5 0,.int .i64 (n:Int),.int .i64 (i:Int)] s=k6 [.ptr p4 0,.ptr p5 0] s':=by
 intro m;induction m with
 |zero=>
  intro i n s W ys hk hy hn h;obtain rfl:i=312:=by omega
  refine⟨s,W,h,λF _ k6 f hf=> ?_⟩;obtain⟨f,rfl⟩:∃g,f=g+1:=⟨f - 1,by omega⟩
  rw[r9];simp
 |succ m ih=>
  intro i n s W ys hk hy hn h;have hd:decide ((i:Int)<312)=true:=H5 (by omega);have b1: -9223372036854775808<=(i:Int)+1:=by omega
  have b2:(i:Int)+1<=9223372036854775807:=by omega
  have e3:((i+1:Nat):Int)=(i:Int)+1:=by omega
  obtain⟨s1,W1,h1,e1⟩:=acm hc ht z C3 Bp Yp (i:=i) (by omega) m (i+1) n s W ys (by omega) hy (by omega) h;have hl:=G6 (iO gs) bg i m (i+1) n ys hy;obtain⟨s2,W2,h2,e2⟩:=ih (i+1) _ s1 W1 _ (by omega) hl.1 (by omega) h1;refine⟨s2,W2,h2,λF hF k6 f hf=> ?_⟩;obtain⟨f,rfl⟩:∃g,f=g+1:=⟨f - 1,by omega⟩
  have Og:=λk8=>e1 F k8 F (by omega)
  rw[<-e2 F hF k6 f (by omega),r9];clear e1 e2 hl;have w:ay .i64 ((i:Int)+1)=(i:Int)+1:=wrap64 b1 b2;rw[e3]at Og ⊢;simp[hd,w,Og]
structure RS(st s:St)(V W:AV)(gs:List aN)(rows:List (List AV))(ys:List Ty):Prop where
 aA:Grew st s
 out:Mk 9 st s V rows
 len:rows.length=gs.length
 qU:∀(i:Nat)(g:aN)(r:List AV),gs[i]? =some g->rows[i]? =some r->∃v,r=g.az v/\Mk 1 st s v (g.tg.map G2)/\∀b,aZ v=some b->aZ V≠some b/\aZ W≠some b
 ty:Mk 3 st s W (ys.map Ty.cells)
 wV:∀b,aZ W=some b->aZ V≠some b
def ep(xs:List Nat):List aN:=u9 xs (min xs.length 12)
def uI(xs bg:List Nat):List Ty:=G7 (iO (ep xs)) bg 312 0 0 []
theorem xC(xs:List Nat):(ep xs).length<=12:=by unfold ep;rw[Eo];omega
theorem abP(hc:cE c){xs bg:List Nat}(hx:∀x∈xs,x<65536)(hl:xs.length<=9223372036854775807)(ht:∀x∈bg,x<256)(z z2:Bool)(st:St)(hw:Wf st):
   ∃V W s' rows,c 23 [cL .u16 z xs,cL .u8 z2 bg] st=some (.agg [V,W],s')/\RS st s' V W (ep xs) rows (uI xs bg):=by
 have dI:Wf (af st (.cells [.ah,.ah] 0)):=bR hw;have g1:=Grew.af hw (.cells [.ah,.ah] 0);have g2:=Grew.af dI (.cells [.ah,.ah] 0);have Yd:st.next≠(af st (.cells [.ah,.ah] 0)).next:=by rw[c9];exact Pos.Mi _
 have Bp:st.next.toNat<=(af st (.cells [.ah,.ah] 0)).next.toNat:=by rw[c9,Pos.ax];omega
 have G0:GL st (af (af st (.cells [.ah,.ah] 0)) (.cells [.ah,.ah] 0)) st.next (af st (.cells [.ah,.ah] 0)).next .ah .ah (u9 xs 0) []:=
   ⟨Mk.start hw (g1.trans g2),rfl,λi g r hi _=>by simp[u9]at hi,g2.get (aD _ _),aD _ _,λe=>(nomatch e),λe=>(nomatch e)⟩
 obtain⟨s1,V,rows,h1,e1⟩:=SG hc hx hl z (cL .u8 z2 bg) Yd Bp (min xs.length 12) 0 _ .ah [] (by omega) G0;obtain⟨s2,W,h2,e2⟩:=abO hc ht z2 Yd Bp (gs:=ep xs) (by have:=xC xs;omega) 312 0 0 s1 .ah [] (by omega) (by simp) (by omega) (YL.start h1);have Og:∀k2:List AV->St->Option (AV×St),dW c 400 k2 400 [cL .u16 z xs,cL .u8 z2 bg,.ptr st.next 0,.ptr (af st (.cells [.ah,.ah] 0)).next 0,.int .i64 0] (af (af st (.cells [.ah,.ah] 0)) (.cells [.ah,.ah] 0))=k2 [cL .u8 z2 bg,.ptr st.next 0,.ptr (af st (.cells [.ah,.ah] 0)).next 0] s1:=λk2=>e1 400 (by omega) k2 400 (by omega)
 have Xs:∀k6:List AV->St->Option (AV×St),fW c 400 k6 400 [cL .u8 z2 bg,.ptr st.next 0,.ptr (af st (.cells [.ah,.ah] 0)).next 0,.int .i64 0,.int .i64 0] s1=k6 [.ptr st.next 0,.ptr (af st (.cells [.ah,.ah] 0)).next 0] s2:=λk6=>e2 400 (by omega) k6 400 (by omega)
 have h5:=h2.gl.h5;have h4:=h2.gl.h4;have l4:=h2.gl.out.aA.wf _ _ h4;obtain⟨vc,v1⟩:=h2.gl.out.cells;obtain⟨wc,w1⟩:=h2.ty.cells;have one:aO [V,W]=true:=by
   have v2:V.one=true:=qa v1;have w2:W.one=true:=qa w1;simp only[aO,v2,w2]
 have cu:cut [V,W] 0 2=some [V,W]:=rfl;have C4:∀(K:AV->St->Option (AV×St)),ak c (.store 2) [.ptr st.next 0,.agg [V,W]] s2 K=K .undef (cm s2 st.next (.cells [V,W] 0)):=λK=>by rw[dG c K s2 2 st.next 0 (.agg [V,W]) [.ah,.ah] h4 rfl (by simp) one];rfl
 have A:=h2.gl.out.store (p:=st.next) (b:= .cells [V,W] 0) (Za4 _) l4 h2.gl.n4;have B:=h2.ty.store (p:=st.next) (b:= .cells [V,W] 0) (Za4 _) l4 h2.w4;have ins:∀u∈[V,W],gy u:=λu hu=>by
   simp only[Za9,Ze5,Zi9]at hu;rcases hu with rfl|rfl
   .exact A.inst
   .exact B.inst
 obtain⟨sa,t1,ta,tA⟩:=A.DV (l:=[V,W]) (by simp) ins;obtain⟨sb,t2,tb,tB⟩:=B.DV (l:=[V,W]) (by simp) ins;have On:sb=sa:=by rw[t1]at t2;exact(Prod.mk.inj t2).2.symm
 subst On;refine⟨V,W,sb,rows,?_,⟨tA.aA,tA,h2.gl.len,λi g r hi hr=> ?_,tB,h2.wV⟩⟩
 .rw[CZ hc 400 (r:=(.agg [V,W],cm s2 st.next (.cells [V,W] 0))),t1];rw[Fx];simp[Og,Xs,h5,cu,C4]
 . obtain⟨v,q1,q2,q3⟩:=h2.gl.qU i g r hi hr;have h8:r[8]? =some v:=(by rw[q1];rfl);refine⟨v,q1,?_,λb hb=>⟨(q3 b hb).1,h2.wI i r v b hr h8 hb⟩⟩;rcases ta with rfl|rfl
   .exact q2.store (p:=st.next) (b:= .cells [V,W] 0) (Za4 _) l4 (λe=>(q3 _ e).2.1 rfl)
   . (exfalso;have cj:rows≠[]:=λe=>by rw[e]at hr;simp at hr);rcases tA.loose with⟨b,off,n,rfl⟩|⟨_,e⟩
     .  have p1:=tA.new b (nG _ _ _ _);have p2:=tA.own.lt hw (nG _ _ _ _);omega
     .  exact cj e
def fE(xt:List Nat):List aR:=mD xt (min xt.length 3)
def rM(xt xg:List Nat):List Nat:=xg.take (min xg.length (gq xt (min xt.length 3)))
def jQ(xt xg:List Nat):List aN:=ep (rM xt xg)
def Yq(xt xg xy:List Nat):List Ty:=uI (rM xt xg) xy
def kR(xt xg xy:List Nat):List Int:=if 0<xy.length % 4 then wJ xg (jQ xt xg).length else []
def acn(xt xg xr:List Nat):List Rl:=s9 (fE xt) (jQ xt xg) xr (min xr.length 12)
def mQ(xt xg xy xr:List Nat):bX:=⟨true,fE xt,true,jQ xt xg,true,Yq xt xg xy,true,kR xt xg xy,true,acn xt xg xr⟩
theorem Yr(x:Nat):0<tN x:=by
 have:0<tA x:=by unfold tA;split<;>(try split)<;>(try split)<;>omega
 unfold tN;split<;>(try split)<;>omega
theorem JP{xs:List Nat}{k:Nat}{t:aR}(h:t∈mD xs k):∃i x,t=gC i x:=by
 unfold mD at h;simp only[Zf3]at h;obtain⟨i,_,rfl⟩:=h;exact⟨_,_,rfl⟩
theorem Ys{xs:List Nat}{k:Nat}:∀t∈mD xs k,0<jf t.sh t.a t.b/\jf t.sh t.a t.b<=1000:=λt h=>by obtain⟨i,x,rfl⟩:=JP h;have e:jf (gC i x).sh (gC i x).a (gC i x).b=((tN x:Nat):Int):=H8 x;have h1:=Yr x;have h2:=Lq x;rw[e];omega
theorem Ro{xs:List Nat}{k:Nat}:∀t∈mD xs k,(0<=t.a/\t.a<=1000000)/\0<=t.b/\t.b<=1000000:=λt h=>by obtain⟨i,x,rfl⟩:=JP h;have h1:=Pr x;have h2:=Pt x;show(0<=((tA x:Nat):Int)/\((tA x:Nat):Int)<=1000000)/\0<=((tB x:Nat):Int)/\((tB x:Nat):Int)<=1000000;omega
theorem RS.gs{st sL sR:St}{V W:AV}{gs:List aN}{rows:List (List AV)}{ys:List Ty}(h:RS sL sR V W gs rows ys)(h0:Wf st)(g:Grew st sL):GS st sR V gs rows/\GS.lZ sL.next.toNat V rows:=
 ⟨⟨h.out.back h0 g,h.len,λi t r hi hr=>by
   obtain⟨v,e1,e2,e3⟩:=h.qU i t r hi hr;exact⟨v,e1,e2.back h0 g,λb hb=>(e3 b hb).1⟩⟩,h.out.new,λi r v b hr h8 hb=>by
   have hi:i<gs.length:=(by rw[<-h.len];exact(Za0.1 hr).1);obtain⟨u,e1,e2,_⟩:=h.qU i gs[i] r (H4 hi) hr;have:u=v:=(by rw[e1]at h8;exact Zg0 h8);subst this;exact e2.new b hb⟩
theorem TS.lZ.le{n m:Nat}{V:AV}{rows:List (List AV)}(h:TS.lZ n V rows)(hm:m<=n):TS.lZ m V rows:=⟨λb hb=>Zc7 hm (h.1 b hb),λi r v b h1 h2 h3=>Zc7 hm (h.2 i r v b h1 h2 h3)⟩
theorem GS.lZ.le{n m:Nat}{V:AV}{rows:List (List AV)}(h:GS.lZ n V rows)(hm:m<=n):GS.lZ m V rows:=⟨λb hb=>Zc7 hm (h.1 b hb),λi r v b h1 h2 h3=>Zc7 hm (h.2 i r v b h1 h2 h3)⟩
theorem PS.ade{s s':St}{V1 V2 V3 V4 V5:AV}{p:bX}{r1 r2:List (List AV)}(h1:TS s s' V1 p.ts r1)(h2:GS s s' V2 p.gs r2)(h3:Mk 3 s s' V3 (p.ys.map Ty.cells))(h4:Mk 1 s s' V4 (p.cs.map cU))(h5:Mk 6 s s' V5 (p.rs.map Rl.cells)):
   ∃gY,Go.Ai.tidy s (.agg [V1,V2,V3,V4,V5],s')=(.agg [V1,V2,V3,V4,V5],gY)/\PS s gY [V1,V2,V3,V4,V5] p:=by
 obtain⟨gY,e,g,k⟩:=Mk.Zy (s:=s) (s':=s') (l:=[V1,V2,V3,V4,V5]) (λu hu=>by
   simp only[Za9,Ze5,Zi9]at hu;rcases hu with rfl|rfl|rfl|rfl|rfl
   .exact h1.out.inst
   .exact h2.out.inst
   .exact h3.inst
   .exact h4.inst
   .exact h5.inst) h1.out.pL h1.out.aA
 obtain⟨a1,b1⟩:=k 7 V1 r1 (by simp) h1.out;obtain⟨a2,b2⟩:=k 9 V2 r2 (by simp) h2.out;obtain⟨a3,_⟩:=k 3 V3 _ (by simp) h3;obtain⟨a4,_⟩:=k 1 V4 _ (by simp) h4;obtain⟨a5,_⟩:=k 6 V5 _ (by simp) h5;refine⟨gY,e,g,V1,V2,V3,V4,V5,r1,r2,rfl,⟨a1,h1.len,λi t r hi hr=> ?_⟩,⟨a2,h2.len,λi t r hi hr=> ?_⟩,a3,a4,a5⟩
 . rcases b1 with rfl|rfl
   .exact h1.qU i t r hi hr
   .simp at hr
 . rcases b2 with rfl|rfl
   .exact h2.qU i t r hi hr
   .simp at hr
theorem Yt{R:Type}(k k':IntKind)(z:Bool)(l:List Nat){i:Nat}(h:i<=l.length)(K:AV->Option R):ey (.sliceL 1 false true false) [cL k z l,.int k' (i:Int)] K=K (cL k (z&&l.isEmpty) (l.take i)):=by unfold cL;rw[WU,Zb3,Za7 h];simp only[Zo3,List.map_take];rfl
theorem Yu{R:Type}(k:IntKind)(z:Bool)(l:List Nat)(K:AV->Option R):ey (.lenB .l) [cL k z l] K=K (.int .i64 (l.length:Int)):=by unfold cL;rw[QA];simp
theorem aaC{R:Type}(s:St)(K:AV->AB->Option R):F0 (.alloc [.ah,.ah]) [] s K=K (.ptr s.next 0) (.cells [.ah,.ah] 0):=rfl
theorem abw (hc:cE c) {xt xg xy xr:List Nat}(ht:∀x∈xt,x<256)(hg:∀x∈xg,x<65536)(hy:∀x∈xy,x<256)(hr:∀x∈xr,x<4294967296)(lt:xt.length<=9223372036854775807)(lg:xg.length<=9223372036854775807)(lr:xr.length<=9223372036854775807)(ly:xy.length<=9223372036854775807)
  (zt zg zy zr:Bool) (st:St) (hw:Wf st):∃Vs s',c 6 [.agg (iM zt zg zy zr xt xg xy xr)] st=some (.agg Vs,s')/\PS st s' Vs (mQ xt xg xy xr):=by
 have w1:Wf (af st (.cells (iM zt zg zy zr xt xg xy xr) 0)):=bR hw;have w2:Wf (af (af st (.cells (iM zt zg zy zr xt xg xy xr) 0)) (.cells [.ah,.ah,.ah,.ah,.ah] 0)):=bR w1;have g1:=Grew.af hw (.cells (iM zt zg zy zr xt xg xy xr) 0);have g2:=Grew.af w1 (.cells [.ah,.ah,.ah,.ah,.ah] 0);have g3:=Grew.af w2 (.cells [.ah,.ah,.ah,.ah,.ah] 0);obtain⟨p1,gR⟩:∃p1,p1=st.next:=⟨_,rfl⟩
 obtain⟨p2,vF⟩:∃p2,p2=(af st (.cells (iM zt zg zy zr xt xg xy xr) 0)).next:=⟨_,rfl⟩
 obtain⟨p3,TF⟩:∃p3,p3=(af (af st (.cells (iM zt zg zy zr xt xg xy xr) 0)) (.cells [.ah,.ah,.ah,.ah,.ah] 0)).next:=⟨_,rfl⟩
 obtain⟨s3,Be⟩:∃s3,s3=af (af (af st (.cells (iM zt zg zy zr xt xg xy xr) 0)) (.cells [.ah,.ah,.ah,.ah,.ah] 0)) (.cells [.ah,.ah,.ah,.ah,.ah] 0):=⟨_,rfl⟩
 have n1:st.next.toNat=p1.toNat:=by rw[gR]
 have n2:p2.toNat=p1.toNat+1:=by rw[vF,c9,Pos.ax,gR]
 have n3:p3.toNat=p2.toNat+1:=by rw[TF,c9,Pos.ax,vF]
 have n4:s3.next.toNat=p3.toNat+1:=by rw[Be,c9,Pos.ax,TF]
 have G3:Grew st s3:=by rw[Be];exact(g1.trans g2).trans g3
 have H1:s3.heap.get p1=some (.cells (iM zt zg zy zr xt xg xy xr) 0):=by rw[Be,gR];exact g3.get (g2.get (aD _ _))
 have H2:s3.heap.get p2=some (.cells [.ah,.ah,.ah,.ah,.ah] 0):=by rw[Be,vF];exact g3.get (aD _ _)
 have H3:s3.heap.get p3=some (.cells [.ah,.ah,.ah,.ah,.ah] 0):=by rw[Be,TF];exact aD _ _
 have d13:p1≠p3:=λe=>by subst e;omega
 have d23:p2≠p3:=λe=>by subst e;omega
 have W3:=G3.wf
 obtain⟨sL,V1,r1,T1,e1⟩:=Ym (c:=c) (x2:= .ptr p2 0) hc ht lt (zt:=zt) (zg:=zg) (zy:=zy) (zr:=zr) (xg:=xg) (xy:=xy) (xr:=xr) W3 H1 d13 (by omega) (by omega) (st:=st) (min xt.length 3) 0 s3 .ah [] (by omega)
  ⟨⟨Mk.start hw G3,rfl,λi t r hi _=>by simp[mD]at hi⟩,KX.refl W3,H3,⟨λb e=>(nomatch e),λi r v b hr _ _=>by simp at hr⟩⟩
 have GL:=T1.tab.out.aA;have WL:=GL.wf;have lN:=T1.kx.next;have L1:=T1.kx.keep p1 _ d13 H1;have L2:=T1.kx.keep p2 _ d23 H2;have L3:=T1.h3;have mlen:(fE xt).length<=3:=by unfold fE;rw[DY];omega
 obtain⟨m,hm⟩:∃m:Nat,m=min xg.length (gq xt (min xt.length 3)):=⟨_,rfl⟩
 have hmx:xg.take m=rM xt xg:=by rw[hm];rfl
 obtain⟨V2,V3,sR,r2,cR,R⟩:=abP hc (xs:=rM xt xg) (bg:=xy) (λx hx=>hg x (List.mem_of_mem_take hx)) (by have:=List.length_take_le m xg;rw[hmx]at this;omega) hy (zg&&xg.isEmpty) zy sL WL;have GR:=GL.trans R.aA;have WR:=GR.wf;obtain⟨GSR,SR⟩:=R.gs hw GL;have rN:=R.aA.next;have gx:=Grew.af WR (.cells [V2,V3] 0);obtain⟨sX,hsX⟩:∃sX,sX=af sR (.cells [V2,V3] 0):=⟨_,rfl⟩
 have WX:Wf sX:=by rw[hsX];exact gx.wf
 have GX:Grew sR sX:=by rw[hsX];exact gx
 have X1:=GX.get (R.aA.get L1);have X2:=GX.get (R.aA.get L2);have X3:=GX.get (R.aA.get L3);have X8:sX.heap.get sR.next=some (.cells [V2,V3] 0):=by rw[hsX];exact aD _ _
 have n8:sR.next≠p3:=fun e=>by have:sR.next.toNat=p3.toNat:=by rw[e]
                               omega
 have lX:=WX _ _ X3;obtain⟨vc2,v2⟩:=R.out.cells;obtain⟨vc3,v3⟩:=R.ty.cells;have ji:∀(K:AV->St->Option (AV×St)),ak c (.store 1) [.ptr p3 (0+1),V2] sX K=K .undef (cm sX p3 (.cells [V1,V2,.ah,.ah,.ah] 0)):=λK=>by rw[dG c K sX 1 p3 (0+1) V2 [V1,.ah,.ah,.ah,.ah] X3 (by rw[vc2];rfl) (by simp) (by rw[vc2];exact v2),vc2];rfl
 have Cx:∀(K:AV->St->Option (AV×St)),ak c (.store 1) [.ptr p3 (0+2),V3] (cm sX p3 (.cells [V1,V2,.ah,.ah,.ah] 0)) K=K .undef (cm sX p3 (.cells [V1,V2,V3,.ah,.ah] 0)):=λK=>by rw[dG c K _ 1 p3 (0+2) V3 [V1,V2,.ah,.ah,.ah] (dF _ _ _) (by rw[vc3];rfl) (by simp) (by rw[vc3];exact v3),vc3,abh];rfl
 obtain⟨sB,hsB⟩:∃sB,sB=cm sX p3 (.cells [V1,V2,V3,.ah,.ah] 0):=⟨_,rfl⟩
 have kXB:KX p3 sX sB:=by rw[hsB];exact(KX.refl WX).store lX _
 have WB:=kXB.wf;have GB:Grew st sB:=by rw[hsB];exact wu hw (GR.trans GX) (by omega) lX _
 have kRB:KX p3 sR sB:=((KX.refl WR).aA GX).trans kXB;have kLB:KX p3 sL sB:=((KX.refl WL).aA R.aA).trans kRB;have B1:=kXB.keep p1 _ d13 X1;have B2:=kXB.keep p2 _ d23 X2;have B3:sB.heap.get p3=some (.cells [V1,V2,V3,.ah,.ah] 0):=by rw[hsB];exact dF _ _ _
 have lB:=WB _ _ B3;have Yv:TS.lZ (p3.toNat+1) V1 r1:=T1.since.le (by omega);have Yw:GS.lZ (p3.toNat+1) V2 r2:=SR.le (by omega);have TB:=T1.tab.kx kLB GB Yv;have GSB:=GSR.kx kRB GB Yw;have s3V:∀b,aZ V3=some b->p3.toNat+1<=b.toNat:=λb hb=>by have:=R.ty.new b hb;omega
 have YB:=Mk.kx (R.ty.back hw GL) kRB GB s3V;have Yp:(jQ xt xg).length<=12:=xC _;have hgn:(jQ xt xg).length<=xg.length:=by unfold jQ ep;rw[Eo, <-hmx,Zi7];omega
 have l2:∀(K:AV->St->Option (AV×St))(s':St),ak c (.lenB .l) [V2] s' K=K (.int .i64 ((jQ xt xg).length:Int)) s':=λK s'=>by rw[QS.lenB R.out.own,R.len];rfl
 have C0:LL st sB sB p3 1 .ah ((wJ xg 0).map cU) (λA=>[V1,V2,V3,A,.ah]):=⟨Mk.start hw GB,KX.refl WB,B3,λb e=>(nomatch e)⟩
 obtain⟨sC1,V41,C1,e2⟩:=Vz (c:=c) (x2:= .ptr p2 0) hg (zt:=zt) (zg:=zg) (zy:=zy) (zr:=zr) (xt:=xt) (xy:=xy) (xr:=xr) (st:=st) (V1:=V1) (V3:=V3) hgn (by omega) WB B1 d13 lB (by omega) l2 (jQ xt xg).length 0 sB .ah (by omega) C0;have ld2:∀(K:AV->St->Option (AV×St)),ak c (.load none) [.ptr p1 (0+2)] sB K=K (cL .u8 zy xy) sB:=λK=>by rw[iH,B1];rfl
 have key:∃Vs s',iR c 400 (.agg (iM zt zg zy zr xt xg xy xr)) st=some (.agg Vs,s')/\∃gY,Go.Ai.tidy st (.agg Vs,s')=(.agg Vs,gY)/\PS st gY Vs (mQ xt xg xy xr):=by
  obtain⟨Q,hQ⟩:∃Q:Option (AV×St)->Prop,Q=λo=>∃Vs s',o=some (.agg Vs,s')/\∃gY,Go.Ai.tidy st (.agg Vs,s')=(.agg Vs,gY)/\PS st gY Vs (mQ xt xg xy xr):=⟨_,rfl⟩
  have LQ:Q (iR c 400 (.agg (iM zt zg zy zr xt xg xy xr)) st)->∃Vs s',iR c 400 (.agg (iM zt zg zy zr xt xg xy xr)) st=some (.agg Vs,s')/\∃gY,Go.Ai.tidy st (.agg Vs,s')=(.agg Vs,gY)/\PS st gY Vs (mQ xt xg xy xr):=λh=>by rw[hQ]at h;exact h
  apply LQ;clear LQ;have Og:∀(k2:List AV->St->Option (AV×St)),dV c 400 k2 400 [.ptr p1 0,.ptr p2 0,.ptr p3 0,.int .i64 0,.int .i64 0] s3=k2 [.ptr p1 0,.ptr p2 0,.ptr p3 0,.int .i64 (gq xt (min xt.length 3):Int)] sL:=λk2=>e1 400 k2 400 (by omega)
  have Xs:∀(k4:List AV->St->Option (AV×St)),fU c 400 k4 400 [.ptr p1 0,.ptr p2 0,.ptr p3 0,.int .i64 0] sB=k4 [.ptr p1 0,.ptr p2 0,.ptr p3 0] sC1:=λk4=>e2 400 k4 400 (by omega)
  have ra1:∀(K:AV->Option (AV×St)),jV (.load none) [.ptr p1 (0+1)] sL.heap (λ_=>true) K=K (cL .u16 zg xg):=λK=>by rw[nZ,L1];rfl
  have ra2:∀(K:AV->Option (AV×St)),jV (.load none) [.ptr p1 (0+2)] sL.heap (λ_=>true) K=K (cL .u8 zy xy):=λK=>by rw[nZ,L1];rfl
  have rb0:∀(K:AV->Option (AV×St)),jV (.load none) [.ptr sR.next (0+0)] sX.heap (λ_=>true) K=K V2:=λK=>by rw[nZ,X8];rfl
  have rb1:=λ(K:AV->Option (AV×St))=>v9 K (p:=sR.next) (o:=0+1) (h:=(cm sX p3 (.cells [V1,V2,.ah,.ah,.ah] 0)).heap) (h2:=sX.heap) (v:=V3) (by rw[br (λe=>n8 e.symm),X8];rfl) (by rw[X8];rfl) R.ty.own.beq
  have pm:∀(K:AV->Option (AV×St)),ey .minB [.int .i64 (xg.length:Int),.int .i64 (gq xt (min xt.length 3):Int)] K=K (.int .i64 (m:Int)):=λK=>by rw[cV K (λH n=>HW H n _ _ _ _),hm];congr 2;generalize gq xt (min xt.length 3)=a;omega
  have C4:∀(K:AV->St->Option (AV×St)),ak c (.store 2) [.ptr sR.next 0,.agg [V2,V3]] (af sR (.cells [.ah,.ah] 0)) K=K .undef sX:=λK=>by
    rw[hsX];exact dQ c K sR 2 (.agg [V2,V3]) [.ah,.ah] rfl rfl (by
        have a2:V2.one=true:=qa v2;have a3:V3.one=true:=qa v3;show aO [V2,V3]=true;simp only[aO,a2,a3])
  rw[Fv,oW,show AV.cells (.agg (iM zt zg zy zr xt xg xy xr))=iM zt zg zy zr xt xg xy xr from rfl,iW,iW, <-Be, <-TF, <-vF, <-gR,aE,aE,Og,
    aH,aH,aH,aH,dD,bk,ra1,bk,ra1,Yu,bZ,pm,Yt _ _ _ _ (by omega),bk,ra2,hmx,kA,cR,iV,aaC,C4,bk,rb0,bk,ji,bk,rb1,bk,Cx, <-hsB]
  refine qb (P:=λj=>∀sC V4,LL st sB sC p3 1 V4 ((kR xt xg xy).map cU) (λA=>[V1,V2,V3,A,.ah])->Q (j [.ptr p1 0,.ptr p2 0,.ptr p3 0] sC)) ?_ ?_
  . intro sC V4 hC;have GC:=hC.out.aA;have WC:=GC.wf;have nC:=hC.kx.next;have C1':=hC.kx.keep p1 _ d13 B1;have C2':=hC.kx.keep p2 _ d23 B2;have TC:=TB.kx hC.kx GC Yv;have GSC:=GSB.kx hC.kx GC Yw;have YC:=Mk.kx YB hC.kx GC s3V
    obtain⟨sD,V5,D1,e3⟩:=VA (c:=c) (x2:= .ptr p2 0) hc hr lr (zt:=zt) (zg:=zg) (zy:=zy) (zr:=zr) (xt:=xt) (xg:=xg) (xy:=xy) (V3:=V3) (V4:=V4) WC C1' d13 (by omega) (by omega) TC Yv GSC Yw (show(fE xt).length<=1000 by omega) (show(jQ xt xg).length<=1000 by omega) Ys Ro (min xr.length 12) 0 sC .ah (by omega)
        ⟨Mk.start hw GC,KX.refl WC,hC.h3,λb e=>(nomatch e)⟩
    have e3':∀(k6:List AV->St->Option (AV×St)),fT c 400 k6 400 [.ptr p1 0,.ptr p2 0,.ptr p3 0,.int .i64 0] sC=k6 [.ptr p2 0,.ptr p3 0] sD:=λk6=>e3 400 k6 400 (by omega)
    have GD:=D1.out.aA;have WD:=GD.wf;have D2':=D1.kx.keep p2 _ d23 C2';have s4V:∀b,aZ V4=some b->p3.toNat+1<=b.toNat:=λb hb=>by have:=hC.since b hb;omega
    have s5V:∀b,aZ V5=some b->p3.toNat+1<=b.toNat:=λb hb=>by have:=D1.since b hb;omega
    have TD:=TC.kx D1.kx GD Yv;have GSD:=GSC.kx D1.kx GD Yw;have YD:=Mk.kx YC D1.kx GD s3V;have CD:=Mk.kx hC.out D1.kx GD s4V;have lD:=WD _ _ D2';have ld5:∀(K:AV->St->Option (AV×St)),ak c (.load (some 5)) [.ptr p3 0] sD K=K (.agg [V1,V2,V3,V4,V5]) sD:=λK=>by rw[rJ,D1.h3];rfl
    have one5:aO [V1,V2,V3,V4,V5]=true:=by
        have a1:V1.one=true:=qa TD.out.cells.2;have a2:V2.one=true:=qa v2;have a3:V3.one=true:=qa v3;have a4:V4.one=true:=qa CD.cells.2;have a5:V5.one=true:=qa D1.out.cells.2;simp only[aO,a1,a2,a3,a4,a5,Zi6]
    have sto5:∀(K:AV->St->Option (AV×St)),ak c (.store 5) [.ptr p2 0,.agg [V1,V2,V3,V4,V5]] sD K=K .undef (cm sD p2 (.cells [V1,V2,V3,V4,V5] 0)):=λK=>by rw[dG c K _ 5 p2 0 (.agg [V1,V2,V3,V4,V5]) _ D2' rfl (by simp) one5];rfl
    have kE:KX p2 sD (cm sD p2 (.cells [V1,V2,V3,V4,V5] 0)):=(KX.refl WD).store lD _;have GE:=wu hw GD (show st.next.toNat<=p2.toNat by omega) lD (.cells [V1,V2,V3,V4,V5] 0);obtain⟨gY,t1,t2⟩:=PS.ade (p:=mQ xt xg xy xr) (TD.kx kE GE (Yv.le (by omega))) (GSD.kx kE GE (Yw.le (by omega))) (Mk.kx YD kE GE λb hb=>by have:=s3V b hb;omega) (Mk.kx CD kE GE λb hb=>by have:=s4V b hb;omega) (Mk.kx D1.out kE GE λb hb=>by have:=s5V b hb;omega);have hfin:Q (some (.agg [V1,V2,V3,V4,V5],cm sD p2 (.cells [V1,V2,V3,V4,V5] 0))):=(by rw[hQ];exact⟨_,_,rfl,gY,t1,t2⟩);rw[aH,aH,aH,dD,aE,e3',aH,aH,dD,ld5,sto5,QF,dF];exact hfin
  . intro j hj;rw[cS,ld2,Er,bN (by omega) (by omega),abd];by_cases h4:0<xy.length % 4
    .   rw[H5 (show(0:Int)<(xy.length:Int) % 4 by omega),jL,aE,Xs,aH,aH,aH,dD];refine hj sC1 V41 ?_;have:kR xt xg xy=wJ xg (jQ xt xg).length:=(by unfold kR;rw[Za7 h4]);rw[this];exact C1
    .   rw[Za2 (show ¬(0:Int)<(xy.length:Int) % 4 by omega),jW];refine hj sB .ah ?_;have:kR xt xg xy=[]:=(by unfold kR;rw[Za5 h4]);rw[this];exact C0
 obtain⟨Vs,s',k1,gY,k2,k3⟩:=key;refine⟨Vs,gY,?_,k3⟩;rw[CX hc 400 (r:=(.agg Vs,s')) k1,k2]
theorem xI{P:Nat->Bool}:∀(m k i:Nat),k<=i->i<k+m->P i=true->0<=scan P m k
 |0,_,_,_,_,_=>by omega
 |m +   1,k,i,h1,h2,hp=>by
  unfold scan;split
  .omega
  . rename_i hk;exact xI m (k+1) i (by
        rcases Zh5 k i with h|h
        .omega
        .obtain rfl:i=k:=(by omega);exact absurd hp hk) (by omega) hp
theorem Sa{ts:List aR}(h1:∀t∈ts,rq t=0)(h2:∀(i j:Nat)(a b:aR),i<j->ts[i]? =some a->ts[j]? =some b->a.name≠b.name):∀m k,(fG ts m k).2=0
 |0,_=>rfl
 |m+    1,k=>by
  unfold fG;cases e:ts[k]? with
  |none=>rfl
  |some t=>
   have ht:rq t=0:=h1 t (Zb5 e);simp only;rw[Za5 (by simp[ht]),Za5]
   .    exact Sa h1 h2 m (k+1)
   .    intro hs;obtain⟨_,aV,hp⟩:=wA k 0 hs;generalize (scan (m7 ts t.name) k 0).toNat=i at*
        unfold m7 at hp;obtain⟨a,ha,hb⟩:=Zd3.1 (Zg2 hp);exact h2 i k a t (by omega) ha e hb
theorem Sb{gs:List aN}(h1:∀g∈gs,fR g=0)(h2:∀(i j:Nat)(a b:aN),i<j->gs[i]? =some a->gs[j]? =some b->a.name≠b.name)(hl:gs.length<=64):∀m k,(jM gs m k).2=0
 |0,_=>rfl
 |m+    1,k=>by
  unfold jM;cases e:gs[k]? with
  |none=>rfl
  |some t=>
   have ht:fR t=0:=h1 t (Zb5 e);have hk:k<gs.length:=(Za0.1 e).1;simp only;rw[Za5 (by simp[ht]),Za5,Za5 (by omega)]
   .    exact Sb h1 h2 hl m (k+1)
   .    intro hs;obtain⟨_,aV,hp⟩:=wA k 0 hs;generalize (scan (jH gs t.name) k 0).toNat=i at*
        unfold jH at hp;obtain⟨a,ha,hb⟩:=Zd3.1 (Zg2 hp);exact h2 i k a t (by omega) ha e hb
theorem Sc{gs:List aN}{ts:List Ty}(h:∀(k:Nat)(t:Ty),ts[k]? =some t->Pq t (j0 ts k)=false/\kV gs t=false/\oa t (j0 ts k)=false/\k<256):∀m k,(fS gs ts m k).2=0
 |0,_=>rfl
 |m+1,k=>by
  unfold fS;cases e:ts[k]? with
  |none=>rfl
  |some t=>
   obtain⟨a,b,d,f⟩:=h k t e;simp only;rw[Za5 (by simp[a]),Za5 (by simp[b]),Za5 (by simp[d]),Za5 (by omega)];exact Sc h m (k+1)
theorem Nk{l:List Nat}{n:Nat}(h:∀x∈l,x<n)(h0:0<n)(i:Nat):l.getD i 0<n:=by
 rw[Zb4];cases e:l[i]? with
 |none=>simpa using h0
 |some x=>simpa using h x (Zb5 e)
theorem mg{α:Type}{f:Nat->α}{k i:Nat}{t:α}(h:((List.range k).map f)[i]? =some t):i<k/\t=f i:=by
 have hi:i<k:=by simpa using(Za0.1 h).1
 rw[Zc0,Zl1 hi,Ze2,H0]at h;exact⟨hi,h.symm⟩
theorem aco:∀i<3,∀x<256,rq (gC i x)=0:=by decide+kernel
theorem Yx:∀x<256,dN (gC 0 x)=((tN x:Nat):Int):=by decide+kernel
theorem Om{xt:List Nat}(hx:∀x∈xt,x<256):(bG (fE xt)).2=0:=by
 unfold bG;rw[Za5 (by unfold fE;rw[DY];omega)];refine Sa (λt ht=> ?_) (λi j a b Q3 ha hb e=> ?_) _ _
 .obtain⟨i,hi⟩:=Zd5.1 ht;obtain⟨h1,rfl⟩:=mg hi;exact aco i (by omega) _ (Nk hx (by omega) i)
 .obtain⟨h1,rfl⟩:=mg ha;obtain⟨h2,rfl⟩:=mg hb;have e:dK i=dK j:=e;unfold dK at e;simp only[Zf4,Zk6,true_and]at e;omega
theorem VC(p:Prop)[Decidable p](i:Nat):qV (if p then bl i else [])=true:=by
 split
 .unfold qV;rw[Ni];simp
 .rfl
theorem acp:∀a b d e:Bool,(CJ none (((if a=true then [0]else [])++(if b=true then [1]else [])++(if d=true then [2]else [])++(if e=true then [3]else [])).map bl)=true/\(((if a=true then [0]else [])++(if b=true then [1]else [])++(if d=true then [2]else [])++(if e=true then [3]else [])).map bl:List (List Nat)).length<=4):=by decide+kernel
theorem adf(x:Nat):CJ none (vO x 4)=true/\(vO x 4).length<=4:=by
 have e:vO x 4=(((if Ag x 0=true then [0]else [])++(if Ag x 1=true then [1]else [])++(if Ag x 2=true then [2]else [])++(if Ag x 3=true then [3]else [])).map bl):=by
  unfold vO;rw[show List.range 4=[0,1,2,3]from rfl];cases h0:Ag x 0<;>cases h1:Ag x 1<;>cases h2:Ag x 2<;>cases h3:Ag x 3<;>simp[h0,h1,h2,h3]
 rw[e];exact acp _ _ _ _
theorem acq(i x:Nat):fR (rD i x)=0:=by
 have t:=adf x;have n:jG (rD i x).name=true:=Ni _;have a:qV (rD i x).xV=true:=VC (x % 2=1) _;have b:qV (rD i x).sK=true:=VC (4<x % 8) _;have d:qV (rD i x).m8=true:=VC (x % 3=2) _;unfold fR;rw[Za5 (by rw[n,a,b,d];simp),Za5 (by show ¬ ¬(0<=((x % 4*500:Nat):Int)/\((x % 4*500:Nat):Int)<=9999);omega),
  Za5 (by show ¬ ¬(0<=((x % 3:Nat):Int)/\((x % 3:Nat):Int)<=2);omega),Za5 (by show ¬4<(vO x 4).length;omega),Za5 (by show ¬CJ none (vO x 4)=false;rw[t.1];simp)]
theorem Es{a b:Nat}(ha:a<676)(hb:b<676)(h:bl a=bl b):a=b:=by unfold bl at h;simp only[Zf4,Zk6]at h;omega
theorem xJ{a b:Nat}(ha:a<676)(hb:b<676):aB (bl a) (bl b)=decide (a<b):=by
 unfold bl;simp only[aB,yQ,eo];by_cases h1:97+a / 26 % 26<97+b / 26 % 26
 .rw[H5 h1,H5 (show a<b by omega)]
 . rw[  Za2 h1];by_cases h2:97+a / 26 % 26=97+b / 26 % 26
   . rw[H5 h2];by_cases h3:97+a % 26<97+b % 26
     .  rw[H5 h3,H5 (show a<b by omega)]
     .  rw[Za2 h3,Za2 (show ¬a<b by omega)];simp only;split<;>rfl
   .rw[Za2 h2,Za2 (show ¬a<b by omega)]
theorem C5{i:Nat}(h:i<12):wH i=25*i:=by
 have:∀i<12,wH i=25*i:=by decide+kernel
 exact this i h
theorem abQ(xs:List Nat):(jM (ep xs) 101 0).2=0:=by
 refine Sb (λg hg=> ?_) (λi j a b Q3 ha hb e=> ?_) (by have:=xC xs;omega) _ _
 .obtain⟨i,hi⟩:=Zd5.1 hg;obtain⟨h1,rfl⟩:=mg hi;exact acq _ _
 .obtain⟨h1,rfl⟩:=mg ha;obtain⟨h2,rfl⟩:=mg hb;have e:bl (wH i)=bl (wH j):=e;rw[C5 (by omega),C5 (by omega)]at e;have:=Es (by omega) (by omega) e;omega
theorem tZ{xs:List Nat}{a:Nat}(ha:a<676)(h:bl a∈iO (ep xs)):∃i,i<12/\a=25*i/\∃j,j<(ep xs).length/\jH (ep xs) (bl a) j=true:=by
 unfold iO at h;obtain⟨g,hg,e⟩:=Zf3.1 h;obtain⟨i,hi⟩:=Zd5.1 hg;have hl:=(Za0.1 hi).1;obtain⟨h1,rfl⟩:=mg hi;have e:bl (wH i)=bl a:=e;have e2:=e;rw[C5 (by omega)]at e;have:=Es (by omega) ha e;refine⟨i,by omega,this.symm,i,hl,?_⟩;unfold jH;rw[hi];exact H5 (congrArg some e2)
def xW(p:Nat×Nat×Int):Ty:=⟨bl p.1,bl p.2.1,p.2.2⟩
def Aj(p:Nat×Nat×Int):Nat:=p.1*312+p.2.1
def I3(names:List (List Nat))(ys:List Ty)(q:Nat):Prop:=
 ∃ps:List (Nat×Nat×Int),ys=ps.map xW/\(∀p∈ps,p.1<p.2.1/\p.2.1<312/\bl p.1∈names/\bl p.2.1∈names/\(p.2.2=1\/p.2.2=2)/\Aj p<q)/\ps.Pairwise λa b=>Aj a<Aj b
theorem I3.up{names:List (List Nat)}{ys:List Ty}{q q':Nat}(h:I3 names ys q)(hq:q<=q'):I3 names ys q':=by
 obtain⟨ps,e,h1,h2⟩:=h;exact⟨ps,e,λp hp=>by obtain⟨a,b,d,f,g,i⟩:=h1 p hp;exact⟨a,b,d,f,g,by omega⟩,h2⟩
theorem I3.next{names:List (List Nat)}{bg:List Nat}{ys:List Ty}{i k n:Nat}(h:I3 names ys (i*312+k))(hk:k<312)(AW:i<k)(hi:bl i∈names)(kW:bl k∈names):I3 names (wK bg i k n ys) (i*312+(k+1)):=by
 unfold wK;split
 . rename_i hc;obtain⟨ps,e,h1,h2⟩:=h;unfold R8 at hc;simp only[Za8,Ze1]at hc;refine⟨ps++[(i,k,1+((bg.getD n 0 % 4:Nat):Int))],by rw[Zd9,e];rfl,λp hp=> ?_,?_⟩
   . rcases Zd7.1 hp with hp|hp
     .  obtain⟨a,b,d,f,g,j⟩:=h1 p hp;exact⟨a,b,d,f,g,by omega⟩
     .  simp only[Za9,Ze5,Zi9]at hp;subst hp;exact⟨AW,hk,hi,kW,by show 1+((bg.getD n 0 % 4:Nat):Int)=1\/1+((bg.getD n 0 % 4:Nat):Int)=2;omega,by show i*312+k<_;omega⟩
   .rw[List.pairwise_append];refine⟨h2,List.pairwise_singleton _ _,λa ha b hb=> ?_⟩;simp only[Za9,Ze5,Zi9]at hb;subst hb;exact(h1 a ha).2.2.2.2.2
 .exact h.up (by omega)
theorem J6{names:List (List Nat)}{bg:List Nat}{i:Nat}:∀(m k n:Nat)(ys:List Ty),k+m<=312->i<k->I3 names ys (i*312+k)->I3 names (iP names bg i m k n ys).2 (i*312+312)
 |0,k,n,ys,h1,_,h=>by unfold iP;exact h.up (by omega)
 |m +   1,k,n,ys,h1,h2,h=>by
  unfold iP;split
  . rename_i hi;split
    .   rename_i hk;exact J6 m (k+1) (n+1) _ (by omega) (by omega) (h.next (by omega) h2 hi hk)
    .   exact J6 m (k+1) n ys (by omega) (by omega) (h.up (by omega))
  .exact h.up (by omega)
theorem OG{names:List (List Nat)}{bg:List Nat}:∀(m i n:Nat)(ys:List Ty),i+m=312->I3 names ys (i*312)->∃q,I3 names (G7 names bg m i n ys) q
 |0,i,n,ys,_,h=>⟨_,h⟩
 |m+1,i,n,ys,h1,h=>by
  unfold G7;exact OG m (i+1) _ _ (by omega) ((J6 m (i+1) n ys (by omega) (by omega) (h.up (by omega))).up (by omega))
def Ud(i j:Nat):Nat:=i*(23 - i) / 2+(j - i - 1)
theorem acr:((List.range 12).all λi=>(List.range 12).all λj=>(List.range 12).all λa=>(List.range 12).all λb=> !(decide (i<j)&&decide (a<b)&&(decide (i<a)||(decide (i=a)&&decide (j<b))))||decide (Ud i j<Ud a b))=true:=by decide+kernel
theorem adg(i:Nat)(hi:i<12)(j:Nat)(hj:j<12)(a:Nat)(ha:a<12)(b:Nat)(hb:b<12)(h1:i<j)(h2:a<b)(h3:i<a\/i=a/\j<b):Ud i j<Ud a b:=by
 have h:=Zc9.1 (Zc9.1 (Zc9.1 (Zc9.1 acr i (Zk5.2 hi)) j (Zk5.2 hj)) a (Zk5.2 ha)) b (Zk5.2 hb);have d3:(decide (i<a)||(decide (i=a)&&decide (j<b)))=true:=by
  rcases h3 with h3|⟨h3,h4⟩
  .rw[H5 h3];rfl
  .rw[H5 h3,H5 h4];simp
 rw[H5 h1,H5 h2,d3]at h;simpa using h
theorem adh:∀i<12,∀j<12,i<j->Ud i j<66:=by decide+kernel
theorem Yy{N:Nat}:∀{l:List Nat}{k:Nat},l.Pairwise (· < ·)->(∀x∈l,k<=x/\x<N)->l.length<=N - k
 |[],_,_,_=>by simp
 |x::l,k,h,hk=>by
  obtain⟨h1,h2⟩:=List.pairwise_cons.1 h;have hx:=hk x (by simp);have:=Yy (k:=x+1) h2 λy hy=>⟨h1 y hy,(hk y (Za6 _ hy)).2⟩
  simp only[Ze6];omega
theorem Oi(xs bg:List Nat):(uI xs bg).length<=66/\(fS (ep xs) (uI xs bg) 101 0).2=0:=by
 obtain⟨q,ps,e,h1,h2⟩:=OG (names:=iO (ep xs)) (bg:=bg) 312 0 0 [] rfl ⟨[],rfl,λp hp=>by simp at hp,List.Pairwise.nil⟩;have e:uI xs bg=ps.map xW:=e;have hlen:ps.length<=66:=by
   have:=Yy (N:=66) (k:=0) (l:=ps.map λp=>Ud (p.1 / 25) (p.2.1 / 25)) (by
     rw[List.pairwise_map];refine List.Pairwise.imp_of_mem (λ{a b} ha hb On=> ?_) h2;obtain⟨a1,a2,a3,a4,_⟩:=h1 a ha;obtain⟨b1,b2,b3,b4,_⟩:=h1 b hb;obtain⟨i,hi,e1,_⟩:=tZ (by omega) a3;obtain⟨j,hj,e2,_⟩:=tZ (by omega) a4;obtain⟨i',Is,e3,_⟩:=tZ (by omega) b3;obtain⟨j',wW,e4,_⟩:=tZ (by omega) b4;unfold Aj at On;exact adg _ (by omega) _ (by omega) _ (by omega) _ (by omega) (by omega) (by omega) (by omega)) (λx hx=>by
     obtain⟨p,hp,rfl⟩:=Zf3.1 hx;obtain⟨a1,a2,a3,a4,_⟩:=h1 p hp;obtain⟨i,hi,e1,_⟩:=tZ (by omega) a3;obtain⟨j,hj,e2,_⟩:=tZ (by omega) a4;exact⟨Zk2 _,adh _ (by omega) _ (by omega) (by omega)⟩)
   simpa using this
 refine⟨by rw[e,Zb3];exact hlen,Sc (λk t ht=> ?_) 101 0⟩;rw[e,Zc0]at ht;obtain⟨p,hp,rfl⟩:=Zd3.1 ht;have hk:k<ps.length:=(Za0.1 hp).1;obtain⟨a1,a2,a3,a4,a5,_⟩:=h1 p (Zb5 hp);have kn:IX (xW p)=true:=by unfold IX xW;rcases a5 with h|h<;>simp[h]
 have ls:aB (xW p).a (xW p).b=true:=(xJ (by omega) (by omega)).trans (H5 a1);have prev:∀u,j0 (uI xs bg) k=some u->eF (xW p) u=false/\eF u (xW p)=true:=λu hu=>by
   unfold j0 at hu;by_cases h0:k=0
   .rw[Za7 h0]at hu;cases hu
   rw[Za5 h0,e,Zc0]at hu;obtain⟨r,hr,rfl⟩:=Zd3.1 hu;obtain⟨b1,b2,b3,b4,b5,_⟩:=h1 r (Zb5 hr);have lt:Aj r<Aj p:=by
     have hr1:=(Za0.1 hr)
     have gR:=(Za0.1 hp)
     obtain⟨w1,R6⟩:=hr1;obtain⟨w2,vF⟩:=gR;rw[<-R6, <-vF];exact List.pairwise_iff_getElem.1 h2 (k - 1) k w1 w2 (by omega)
   unfold Aj at lt;unfold eF xW;simp only;rw[xJ (by omega) (by omega),xJ (by omega) (by omega),xJ (by omega) (by omega),xJ (by omega) (by omega)];by_cases hq:r.1=p.1
   .rw[hq,Za2 (show ¬p.1<p.1 by omega),Za2 (show ¬p.2.1<r.2.1 by omega),H5 (show r.2.1<p.2.1 by omega)];simp
   .rw[Za2 (show ¬p.1<r.1 by omega),H5 (show r.1<p.1 by omega),Za2 (show ¬bl p.1=bl r.1 from λh=>hq (Es (by omega) (by omega) h).symm)];simp
 have unk:kV (ep xs) (xW p)=false:=by obtain⟨_,_,_,i,hi,g1⟩:=tZ (by omega) a3;obtain⟨_,_,_,j,hj,g2⟩:=tZ (by omega) a4;have s1:=xI (ep xs).length 0 i (by omega) (by omega) g1;have s2:=xI (ep xs).length 0 j (by omega) (by omega) g2;unfold kV;rw[Za2 (show ¬scan (jH (ep xs) (xW p).a) (ep xs).length 0<0 from λh=>by have h:scan (jH (ep xs) (bl p.1)) (ep xs).length 0<0:=h;omega),Za2 (show ¬scan (jH (ep xs) (xW p).b) (ep xs).length 0<0 from λh=>by have h:scan (jH (ep xs) (bl p.2.1)) (ep xs).length 0<0:=h;omega)];rfl
 refine⟨?_,unk,?_,by omega⟩
 . unfold Pq;rw[kn,ls];cases hv:j0 (uI xs bg) k with
   |none=>rfl
   |some u=>simp[(prev u hv).1]
 . unfold oa;cases hv:j0 (uI xs bg) k with
   |none=>rfl
   |some u=>simp[(prev u hv).2]
theorem Yz(xs bg:List Nat):(cH (ep xs) (uI xs bg)).2=0:=by unfold cH;rw[Za5 (by rw[abQ];simp)];exact(Oi xs bg).2
theorem OH{xt:List Nat}(hx:∀x∈xt,x<256):∀k,k<=3->bC (mD xt k)=((gq xt k:Nat):Int)
 |0,_=>rfl
 |k+1,h=>by
  have ih:=OH hx k (by omega);have e:mD xt (k+1)=mD xt k++[gC k (xt.getD k 0)]:=by unfold mD;rw[Zi4,Zd9];rfl
  have z:dN (gC k (xt.getD k 0))=((tN (xt.getD k 0):Nat):Int):=Yx _ (Nk hx (by omega) k);rw[e];unfold bC at ih ⊢;rw[Zd9,List.sum_append,ih];simp only[Zd4,Zh6,List.sum_cons,List.sum_nil,z];have e2:gq xt (k+1)=gq xt k+tN (xt.getD k 0):=rfl;omega
theorem VD{xt xg xy:List Nat}(hx:∀x∈xt,x<256)(z1 z2 z3 z4 z5:Bool)(rs:List Rl):(ia ⟨z1,fE xt,z2,jQ xt xg,z3,Yq xt xg xy,z4,kR xt xg xy,z5,rs⟩).2=0:=by
 unfold ia;rw[Za5 (by show ¬(bG (fE xt)).2≠0;rw[Om hx];simp),Za5 (by show ¬(cH (ep (rM xt xg)) (uI (rM xt xg) xy)).2≠0;rw[Yz];simp)];rw[Za5 (by
  show ¬((kR xt xg xy).length≠0/\(kR xt xg xy).length≠(jQ xt xg).length);unfold kR;split
  .rw[DZ];simp
  .simp),Za5 (by
  show ¬qM (kR xt xg xy)=false;rw[   show qM (kR xt xg xy)=true from by
    unfold qM kR;rw[Zc9];intro y hy;split at hy
    .   unfold wJ at hy;obtain⟨i,_,rfl⟩:=Zf3.1 hy;rw[Za8];exact⟨H5 (by omega),H5 (by omega)⟩
    .   simp at hy]
  simp),Za5]
 show ¬bC (fE xt)<((jQ xt xg).length:Int)
 unfold fE jQ ep;rw[Eo,OH hx _ (by omega)];unfold rM;rw[Zi7];omega
theorem YA{p:bX}{a:Nat}(ha:a<p.gs.length):¬gi p (jS p.gs a)<0:=by have:=xI (P:=jH p.gs (jS p.gs a)) p.gs.length 0 a (by omega) (by omega) (by unfold jH jS;rw[H4 ha];simp);unfold gi;omega
theorem acs{p:bX}(hd:∀(i j:Nat)(a b:aR),i<j->p.ts[i]? =some a->p.ts[j]? =some b->a.name≠b.name){t:Nat}(ht:t<p.ts.length):ti p (qv p.ts t)=(t:Int):=by
 have h0:=xI (P:=m7 p.ts (qv p.ts t)) p.ts.length 0 t (by omega) (by omega) (by unfold m7 qv;rw[H4 ht];simp);obtain⟨_,h1,h2⟩:=wA p.ts.length 0 h0;unfold ti;generalize scan (m7 p.ts (qv p.ts t)) p.ts.length 0=k at*
 unfold m7 qv at h2;rw[H4 ht]at h2;obtain⟨u,hu,e⟩:=Zd3.1 (Zg2 h2);rcases Nat.lt_trichotomy k.toNat t with h|h|h
 .exact absurd e (hd _ _ _ _ h hu (H4 ht))
 .omega
 .exact absurd e.symm (hd _ _ _ _ h (H4 ht) hu)
theorem Xw{p:bX}(hg:∀g∈p.gs,g.m8=[]\/jG g.m8=true)(hgd:∀(i j:Nat)(a b:aN),i<j->p.gs[i]? =some a->p.gs[j]? =some b->a.name≠b.name)(htd:∀(i j:Nat)(a b:aR),i<j->p.ts[i]? =some a->p.ts[j]? =some b->a.name≠b.name)
   (cv:∀t∈p.ts,dN t=jf t.sh t.a t.b/\0<dN t) (x:Nat) (h:(eM p.ts p.gs x).2=true):qJ p (eM p.ts p.gs x).1=0:=by
 unfold eM at h ⊢;by_cases h0:p.gs.length=0\/p.ts.length=0
 .rw[Za7 h0]at h;cases h
 rw[Za5 h0]at h ⊢;have hw:(G1 (x / 18))<=7:=by unfold G1;split<;>omega
 have ha:x / 18 / 5 % p.gs.length<p.gs.length:=Zh8 _ (by omega);have hb:x / 18 / 5 / p.gs.length % p.gs.length<p.gs.length:=Zh8 _ (by omega);have b9:x / 18 / 5 / 7 % p.ts.length<p.ts.length:=Zh8 _ (by omega);have hn:x / 18 / 5 / 11 % 4<4:=Zh8 _ (by omega);have k1:1<=1+x % 18:=by omega
 have k2:1+x % 18<=18:=by omega
 generalize 1+x % 18=k at*
 generalize G1 (x / 18)=w at*
 generalize x / 18 / 5=z at*
 generalize z % p.gs.length=a at*
 generalize z / p.gs.length % p.gs.length=b at*
 generalize z / 7 % p.ts.length=t at*
 generalize z / 11 % 4=n at*
 have g1:=YA ha;have g2:=YA hb;have g3:xH p.gs a=[]\/jG (xH p.gs a)=true:=by unfold xH;rw[H4 ha];exact hg _ (Zb9 ha)
 have g4:=acs htd b9;have g5:tY p.ts t=ru p ((t:Nat):Int)/\0<tY p.ts t:=by have:=cv _ (Zb9 b9);unfold tY ru;rw[Int.toNat_natCast,H4 b9];simp only;omega
 have g6:0<=((z / 13:Nat):Int) % tY p.ts t/\((z / 13:Nat):Int) % tY p.ts t<=tY p.ts t - 1:=⟨Zp1 _ (by omega),by have:=Zn9 ((z / 13:Nat):Int) g5.2;omega⟩
 have g7:a≠b->jS p.gs a≠jS p.gs b:=λOn e=>by
   unfold jS at e;rw[H4 ha,H4 hb]at e;rcases Nat.lt_or_gt_of_ne On with h|h
   .exact hgd _ _ _ _ h (H4 ha) (H4 hb) e
   .exact hgd _ _ _ _ h (H4 hb) (H4 ha) e.symm
 clear hg ha hb b9 h0 hgd htd cv;obtain⟨g5,_⟩:=g5;rw[g5]at g6;rcases Tz k1 k2 with rfl|rfl|rfl|rfl|rfl|rfl|rfl|rfl|rfl|rfl|rfl|rfl|rfl|rfl|rfl|rfl|rfl|rfl
 all_goals
   unfold D4 at h ⊢;unfold qJ J2 CO RW LP uN;simp[kd]at h ⊢
   first
   |done
   |omega
   |(simp[*];done)
   |(simp[*];omega)
   |grind
theorem JQ{ts:List aR}{gs:List aN}{xr:List Nat}:∀{k:Nat}{r:Rl},r∈s9 ts gs xr k->∃x,(eM ts gs x).2=true/\r=(eM ts gs x).1
 |0,_,h=>by cases h
 |k +   1,r,h=>by
  unfold s9 at h;rcases Zd7.1 h with h|h
  .exact JQ h
  . split at h
    .   rename_i e;simp only[Za9,Ze5,Zi9]at h;exact⟨_,e,h⟩
    .   cases h
theorem OI{p:bX}(h:∀r∈p.rs,qJ p r=0)(hl:p.rs.length<=64):∀m i,(jv p m i).2=0
 |0,_=>rfl
 |m+1,i=>by
  unfold jv;cases e:p.rs[i]? with
  |none=>rfl
  |some r=>
   have:=(Za0.1 e).1;simp only;rw[Za5 (by rw[h r (Zb5 e)];simp),Za5 (by omega)];exact OI h hl m (i+1)
theorem Eu{xt:List Nat}{i:Nat}{t:aR}(h:(fE xt)[i]? =some t):i<3/\t=gC i (xt.getD i 0):=by
 obtain⟨h1,h2⟩:=mg h;exact⟨by omega,h2⟩
theorem G9{xs:List Nat}{i:Nat}{g:aN}(h:(ep xs)[i]? =some g):i<12/\g=rD i (xs.getD i 0):=by
 obtain⟨h1,h2⟩:=mg h;exact⟨by omega,h2⟩
theorem Gv{xt:List Nat}:∀(i j:Nat)(a b:aR),i<j->(fE xt)[i]? =some a->(fE xt)[j]? =some b->a.name≠b.name:=λi j a b Q3 ha hb e=>by obtain⟨h1,rfl⟩:=Eu ha;obtain⟨h2,rfl⟩:=Eu hb;have e:dK i=dK j:=e;unfold dK at e;simp only[Zf4,Zk6,true_and]at e;omega
theorem Gu{xs:List Nat}:∀(i j:Nat)(a b:aN),i<j->(ep xs)[i]? =some a->(ep xs)[j]? =some b->a.name≠b.name:=λi j a b Q3 ha hb e=>by obtain⟨h1,rfl⟩:=G9 ha;obtain⟨h2,rfl⟩:=G9 hb;have e:bl (wH i)=bl (wH j):=e;rw[C5 (by omega),C5 (by omega)]at e;have:=Es (by omega) (by omega) e;omega
theorem Oj{xs:List Nat}:∀g∈ep xs,g.m8=[]\/jG g.m8=true:=λg hg=>by
 obtain⟨i,hi⟩:=Zd5.1 hg;obtain⟨_,rfl⟩:=G9 hi;show(if(xs.getD i 0) % 3=2 then bl ((xs.getD i 0) % 5)else [])=[]\/jG (if(xs.getD i 0) % 3=2 then bl ((xs.getD i 0) % 5)else [])=true;split
 .exact .inr (Ni _)
 .exact .inl rfl
theorem BQ{xt:List Nat}(hx:∀x∈xt,x<256):∀t∈fE xt,dN t=jf t.sh t.a t.b/\0<dN t:=λt ht=>by
 obtain⟨i,hi⟩:=Zd5.1 ht;obtain⟨h1,rfl⟩:=Eu hi;have aV:=Nk hx (by omega) i;have z:dN (gC i (xt.getD i 0))=((tN (xt.getD i 0):Nat):Int):=Yx _ aV;have e:jf (gC i (xt.getD i 0)).sh (gC i (xt.getD i 0)).a (gC i (xt.getD i 0)).b=((tN (xt.getD i 0):Nat):Int):=H8 _;have h1:=Yr (xt.getD i 0);exact⟨by rw[z,e],by rw[z];omega⟩
theorem Vd{xt xg xy xr:List Nat}(hx:∀x∈xt,x<256):(g9 (mQ xt xg xy xr)).2=0:=by
 unfold g9;have hb:(ia (mQ xt xg xy xr)).2=0:=VD hx _ _ _ _ _ _;rw[Za5 (by rw[hb];simp)];refine OI (λr hr=> ?_) ?_ _ _
 .obtain⟨x,h1,rfl⟩:=JQ hr;exact Xw (p:=mQ xt xg xy xr) Oj Gu Gv (BQ hx) x h1
 .have:=D3 (fE xt) (jQ xt xg) xr (min xr.length 12);show(s9 _ _ _ _).length<=64;omega
end
end Go.Proofs.YtoeleelojgimfaaGreatDoor
