/- A valid problem out of numbers. -/
import Derived.Test.YtoeleelojgimfaaGreatDoorWLawsB
set_option linter.all false
set_option maxRecDepth 100000
set_option maxHeartbeats 4000000
namespace Go.Proofs.YtoeleelojgimfaaGreatDoor
noncomputable section
open Go Go.Ai Go.Proofs
attribute [local go_sem ↓] bW BH ev XM yJ getLT zn Nc RH xw xx Km LX LY LZ ID IE IF IG II IJ L4 L5 IK IL IM IN IP Qc Qd Qe
attribute [local go_sem] bW BH ev
section
variable(c:ai)(F:Nat)(x0 x1 x2 x3 x4 x5 x6 x7 x8 x9 R8 R9:AV)(s:St)
def jG:Sh:=(sq sl (sq sl (sq sl (sq (sq sl (sb (sp 0 [1,2,3,4,5] [(2,[1,2,3,4])] (sq (sq sl (sc sl sl)) (sq (sb (sq sl (sq sl (sq sl sl)))) sl))))) (sq sl (sq sl (sj [1,2,3] (sq sl (sc (sq sl (sb (sp 1 [1,2,3,9] [(4,[1,2,3])] (sq (sq sl (sc sl sl)) (sq (sb (sq sl sl)) sl))))) sl)) (sq (sq sl (sb (sp 2 [1,2,3,11] [(6,[2,3])] (sq (sq sl (sc sl sl)) (sj [1,2,3,11] (sb (sq sl (sq sl (sc (sq sl sl) sl)))) sl))))) (sq sl sl)))))))))
def vY:PX 6 jG:=⟨_,by conv=>lhs;reduce⟩
def u5:PL 6 jG 2:=⟨_,by conv=>lhs;reduce⟩
def gh(k6:Q2):Nat->Q2
 |0,_,_=>none
 |n+1,vs,s=>jr c F bY (gh k6 n) [k6] u5.1 vs s
def mX(k6:Q2)(n:Nat)(vs:List AV)(s:St):=(by dsimp only[gh,u5,go_sem,Int.reduceOfNat]:gh c F k6 (n+1) vs s=_)
def u6:PL 6 jG 1:=⟨_,by conv=>lhs;reduce⟩
def gj(k4:Q2):Nat->Q2
 |0,_,_=>none
 |n+1,vs,s=>jr c F bY (gj k4 n) [k4] u6.1 vs s
def sI(k4:Q2)(n:Nat)(vs:List AV)(s:St):=(by dsimp only[gj,u6,go_sem,Int.reduceOfNat]:gj c F k4 (n+1) vs s=_)
def u7:PL 6 jG 0:=⟨_,by conv=>lhs;reduce⟩
def dV(k2:Q2):Nat->Q2
 |0,_,_=>none
 |n+1,vs,s=>jr c F bY (dV k2 n) [k2] u7.1 vs s
def sJ(k2:Q2)(n:Nat)(vs:List AV)(s:St):=(by dsimp only[dV,u7,go_sem,Int.reduceOfNat]:dV c F k2 (n+1) vs s=_)
def pN:Un->List Q2->Nat->Q2
 |.z,[k2]=>dV c F k2
 |(.s .z),[k4]=>gj c F k4
 |(.s (.s .z)),[k6]=>gh c F k6
 |_,_=>λ_=>kz
def jd:O2:=bW c F (pN c F) vY.1 [x0] s
def F9:=(by dsimp only[jd,vY, ↓pN,go_sem,Int.reduceOfNat]:jd c F x0 s=_)
def nM:Sh:=(sq sl (sq sl (sq sl (sq sl (sq (sq sl (sb (sp 0 [1,2,5,6,7,8] [(2,[7])] (sq (sq sl (sc sl sl)) (sj [1,2,5,6,7,8] (sb (sq sl (sj [1,2,5,6,7,8,9] (sq sl (sc sl sl)) (sq sl (sc sl sl))))) sl))))) (sq sl sl))))))
def ue:PX 7 nM:=⟨_,by conv=>lhs;reduce⟩
def sK:PL 7 nM 0:=⟨_,by conv=>lhs;reduce⟩
def di(k2:Q2):Nat->Q2
 |0,_,_=>none
 |n+1,vs,s=>jr c F bY (di k2 n) [k2] sK.1 vs s
def iV(k2:Q2)(n:Nat)(vs:List AV)(s:St):=(by dsimp only[di,sK,go_sem,Int.reduceOfNat,Int.reduceNegSucc]:di c F k2 (n+1) vs s=_)
def nN:Un->List Q2->Nat->Q2
 |.z,[k2]=>di c F k2
 |_,_=>λ_=>kz
def pO:O2:=bW c F (nN c F) ue.1 [x0,x1] s
def Dc:=(by dsimp only[pO,ue, ↓nN,go_sem,Int.reduceOfNat,Int.reduceNegSucc]:pO c F x0 x1 s=_)
def mY:Sh:=(sq sl (sq sl (sq (sq sl (sb (sp 0 [3,7,8,9] [(2,[3])] (sq sl (sq (sc sl sl) (sj [3,7,8,9] (sb (sq sl (sq sl (sb (sq sl (sc sl (sq sl (sc sl sl)))))))) sl)))))) (sq sl sl))))
def sM:PX 9 mY:=⟨_,by conv=>lhs;reduce⟩
def rF:PL 9 mY 0:=⟨_,by conv=>lhs;reduce⟩
def gF(k2:Q2):Nat->Q2
 |0,_,_=>none
 |n+1,vs,s=>jr c F bY (gF k2 n) [k2] rF.1 vs s
def qe(k2:Q2)(n:Nat)(vs:List AV)(s:St):=(by dsimp only[gF,rF,go_sem,Int.reduceOfNat]:gF c F k2 (n+1) vs s=_)
def mZ:Un->List Q2->Nat->Q2
 |.z,[k2]=>gF c F k2
 |_,_=>λ_=>kz
def oJ:O2:=bW c F (mZ c F) sM.1 [x0] s
def Cp:=(by dsimp only[oJ,sM, ↓mZ,go_sem,Int.reduceOfNat]:oJ c F x0 s=_)
def qi:Sh:=(sq sl (sq sl sl))
def qj:PX 10 qi:=⟨_,by conv=>lhs;reduce⟩
def lZ:O2:=bW c F bY qj.1 [x0,x1] s
def zq:=(by dsimp only[lZ,qj,go_sem,Int.reduceOfNat]:lZ c F x0 x1 s=_)
def Ct:Sh:=(sq sl (sq (sq sl (sc (sq sl sl) sl)) (sq sl (sq sl (sq (sq sl (sb (sp 0 [5,6,16,17] [(2,[6])] (sq sl (sq (sc sl sl) (sj [5,6,16,17] (sb (sq sl (sq sl (sc sl sl)))) sl)))))) (sq sl sl))))))
def JJ:PX 17 Ct:=⟨_,by conv=>lhs;reduce⟩
def HE:PL 17 Ct 0:=⟨_,by conv=>lhs;reduce⟩
def qC(k2:Q2):Nat->Q2
 |0,_,_=>none
 |n+1,vs,s=>jr c F bY (qC k2 n) [k2] HE.1 vs s
def wM(k2:Q2)(n:Nat)(vs:List AV)(s:St):=(by dsimp only[qC,HE,go_sem,Int.reduceOfNat]:qC c F k2 (n+1) vs s=_)
def Cu:Un->List Q2->Nat->Q2
 |.z,[k2]=>qC c F k2
 |_,_=>λ_=>kz
def HF:O2:=bW c F (Cu c F) JJ.1 [x0,x1] s
def Tj:=(by dsimp only[HF,JJ, ↓Cu,go_sem,Int.reduceOfNat]:HF c F x0 x1 s=_)
def yq:Sh:=(sq sl (sq (sq sl (sc (sq sl sl) sl)) (sq sl (sq sl (sq sl (sq (sq sl (sb (sp 0 [7,8,9,37,38] [(2,[9])] (sq sl (sq (sc sl sl) (sq (sb (sq sl sl)) sl)))))) (sq sl sl)))))))
def FF:PX 18 yq:=⟨_,by conv=>lhs;reduce⟩
def Dp:PL 18 yq 0:=⟨_,by conv=>lhs;reduce⟩
def nF(k2:Q2):Nat->Q2
 |0,_,_=>none
 |n+1,vs,s=>jr c F bY (nF k2 n) [k2] Dp.1 vs s
def Av(k2:Q2)(n:Nat)(vs:List AV)(s:St):=(by dsimp only[nF,Dp,go_sem,Int.reduceOfNat]:nF c F k2 (n+1) vs s=_)
def yu:Un->List Q2->Nat->Q2
 |.z,[k2]=>nF c F k2
 |_,_=>λ_=>kz
def Cw:O2:=bW c F (yu c F) FF.1 [x0,x1,x2] s
def Pz:=(by dsimp only[Cw,FF, ↓yu,go_sem,Int.reduceOfNat]:Cw c F x0 x1 x2 s=_)
def O9:Sh:=(sq sl (sq (sq sl (sc (sq sl sl) sl)) (sq sl (sq sl sl))))
def Pa:PX 19 O9:=⟨_,by conv=>lhs;reduce⟩
def NM:O2:=bW c F bY Pa.1 [x0,x1,x2] s
def Yd:=(by dsimp only[NM,Pa,go_sem,Int.reduceOfNat]:NM c F x0 x1 x2 s=_)
def oK:Sh:=(sq sl (sq sl (sq (sq sl (sb (sp 0 [1,5,8,9,10] [(2,[5])] (sq sl (sq (sc sl sl) (sj [1,5,8,9,10] (sb (sq sl (sq sl (sc sl sl)))) sl)))))) (sq sl sl))))
def u9:PX 20 oK:=⟨_,by conv=>lhs;reduce⟩
def uf:PL 20 oK 0:=⟨_,by conv=>lhs;reduce⟩
def ir(k2:Q2):Nat->Q2
 |0,_,_=>none
 |n+1,vs,s=>jr c F bY (ir k2 n) [k2] uf.1 vs s
def lY(k2:Q2)(n:Nat)(vs:List AV)(s:St):=(by dsimp only[ir,uf,go_sem,Int.reduceOfNat]:ir c F k2 (n+1) vs s=_)
def oM:Un->List Q2->Nat->Q2
 |.z,[k2]=>ir c F k2
 |_,_=>λ_=>kz
def qK:O2:=bW c F (oM c F) u9.1 [x0,x1] s
def EI:=(by dsimp only[qK,u9, ↓oM,go_sem,Int.reduceOfNat]:qK c F x0 x1 s=_)
def oN:Sh:=(sq sl (sq sl (sq sl (sj [1,4,5] (sq sl (sb (sq sl (sc sl (sq sl (sc sl (sq sl (sc sl (sq sl (sc (sq sl sl) sl)))))))))) (sq (sq sl (sb (sp 0 [1,4,5,7] [(3,[4,5])] (sq (sq sl (sc sl sl)) (sj [1,4,5,7] (sb (sq sl (sc (sq sl sl) sl))) sl))))) (sq sl sl))))))
def ve:PX 21 oN:=⟨_,by conv=>lhs;reduce⟩
def ug:PL 21 oN 0:=⟨_,by conv=>lhs;reduce⟩
def fP(k3:Q2):Nat->Q2
 |0,_,_=>none
 |n+1,vs,s=>jr c F bY (fP k3 n) [k3] ug.1 vs s
def jy(k3:Q2)(n:Nat)(vs:List AV)(s:St):=(by dsimp only[fP,ug,go_sem,Int.reduceOfNat]:fP c F k3 (n+1) vs s=_)
def oO:Un->List Q2->Nat->Q2
 |.z,[k3]=>fP c F k3
 |_,_=>λ_=>kz
def qL:O2:=bW c F (oO c F) ve.1 [x0,x1] s
def ES:=(by dsimp only[qL,ve, ↓oO,go_sem,Int.reduceOfNat]:qL c F x0 x1 s=_)
def vZ:Sh:=(sq sl (sq (sq sl (sb (sq sl (sc (sq sl sl) (sq sl (sc (sq sl sl) sl)))))) (sq sl sl)))
def v7:PX 22 vZ:=⟨_,by conv=>lhs;reduce⟩
def rR:O2:=bW c F bY v7.1 [x0] s
def Ga:=(by dsimp only[rR,v7,go_sem,Int.reduceOfNat]:rR c F x0 s=_)
def gO:Sh:=(sq sl (sq sl (sq (sq sl (sb (sp 0 [0,1,4,5,6] [(2,[1,4,5])] (sq (sq sl (sc sl sl)) (sj [0,1,4,5,6] (sb (sq sl (sq sl (sj [0,1,4,5,6,7,8] (sq sl (sc sl sl)) (sj [0,1,4,5,6,7,8] (sq sl (sc sl sl)) (sj [0,1,4,5,6,7,8] (sq sl (sc sl sl)) (sq (sq sl (sb (sp 1 [0,1,4,5,6,7,8,9] [(4,[0,1,4,5,6,8])] (sq (sq sl (sc sl sl)) (sj [0,1,4,5,6,7,8,9] (sb (sq sl (sc (sq sl sl) sl))) sl))))) (sq sl sl)))))))) sl))))) (sq sl (sq (sq sl (sb (sp 2 [1,4,5,12,13] [(6,[4,5])] (sq (sq sl (sc sl sl)) (sq (sb (sq sl (sb (sp 3 [1,4,5,12,13,14] [(8,[1,4,5,12,13])] (sq (sq sl (sc sl sl)) (sj [1,4,5,12,13,14] (sb (sq (sq sl (sc sl sl)) (sq (sq sl (sc sl sl)) (sj [1,4,5,12,13,14] (sq sl (sc (sq sl sl) sl)) sl)))) sl)))))) sl))))) (sq sl sl))))))
def v8:PX 23 gO:=⟨_,by conv=>lhs;reduce⟩
def vg:PL 23 gO 3:=⟨_,by conv=>lhs;reduce⟩
def gq(k8:Q2):Nat->Q2
 |0,_,_=>none
 |n+1,vs,s=>jr c F bY (gq k8 n) [k8] vg.1 vs s
def fq(k8:Q2)(n:Nat)(vs:List AV)(s:St):=(by dsimp only[gq,vg,go_sem,Int.reduceOfNat]:gq c F k8 (n+1) vs s=_)
def vh:Un->List Q2->Nat->Q2
 |(.s (.s (.s .z))),[k8]=>gq c F k8
 |_,_=>λ_=>kz
def vk:PL 23 gO 2:=⟨_,by conv=>lhs;reduce⟩
def gw(k6:Q2):Nat->Q2
 |0,_,_=>none
 |n+1,vs,s=>jr c F (vh c F) (gw k6 n) [k6] vk.1 vs s
def sN(k6:Q2)(n:Nat)(vs:List AV)(s:St):=(by dsimp only[gw,vk, ↓vh,go_sem,Int.reduceOfNat]:gw c F k6 (n+1) vs s=_)
def vn:PL 23 gO 1:=⟨_,by conv=>lhs;reduce⟩
def eZ(k4:Q2):Nat->Q2
 |0,_,_=>none
 |n+1,vs,s=>jr c F bY (eZ k4 n) [k4] vn.1 vs s
def m5(k4:Q2)(n:Nat)(vs:List AV)(s:St):=(by dsimp only[eZ,vn,go_sem,Int.reduceOfNat]:eZ c F k4 (n+1) vs s=_)
def vp:Un->List Q2->Nat->Q2
 |(.s .z),[k4]=>eZ c F k4
 |_,_=>λ_=>kz
def vq:PL 23 gO 0:=⟨_,by conv=>lhs;reduce⟩
def dW(k2:Q2):Nat->Q2
 |0,_,_=>none
 |n+1,vs,s=>jr c F (vp c F) (dW k2 n) [k2] vq.1 vs s
def sO(k2:Q2)(n:Nat)(vs:List AV)(s:St):=(by dsimp only[dW,vq, ↓vp,go_sem,Int.reduceOfNat]:dW c F k2 (n+1) vs s=_)
def pP:Un->List Q2->Nat->Q2
 |.z,[k2]=>dW c F k2
 |(.s .z),[k4]=>eZ c F k4
 |(.s (.s .z)),[k6]=>gw c F k6
 |(.s (.s (.s .z))),[k8]=>gq c F k8
 |_,_=>λ_=>kz
def rS:O2:=bW c F (pP c F) v8.1 [x0,x1] s
def Gb:=(by dsimp only[rS,v8, ↓pP,go_sem,Int.reduceOfNat]:rS c F x0 x1 s=_)
def vr:Sh:=(sq sl (sq sl (sq sl (sj [1,2,4,6] (sq sl (sc sl sl)) (sq sl (sq sl (sq (sq sl (sc (sq sl sl) sl)) (sq sl (sq sl (sj [1,2,4,6,11] (sq sl (sb (sj [1,2,4,6,9,10,11,12,58,59] (sq sl (sc sl (sq sl (sc sl (sq sl (sc sl (sq sl (sc sl sl)))))))) (sc (sq sl (sj [4,6,9,10] (sq sl (sc sl sl)) (sj [4,6,9,10] (sq sl (sc sl sl)) (sq sl sl)))) (sj [1,2,4,6,9,11,12,58,100] (sq sl (sc sl sl)) (sc (sq sl (sj [4,6] (sq sl (sc sl sl)) (sq sl sl))) (sq sl (sc (sj [4,6] (sq sl (sc sl sl)) (sq sl sl)) (sq sl (sc (sq sl (sq sl sl)) (sj [1,2,4,6,11,12,164] (sq sl (sc sl sl)) (sc sl sl)))))))))))) (sj [4,6] (sq sl (sc sl sl)) (sq sl sl))))))))))))
def vt:PX 24 vr:=⟨_,by conv=>lhs;reduce⟩
def iw:O2:=bW c F bY vt.1 [x0,x1] s
def ET:=(by dsimp only[iw,vt,go_sem,Int.reduceOfNat]:iw c F x0 x1 s=_)
def m7:Sh:=(sq sl (sq sl (sq (sq sl (sb (sp 0 [1,3,4] [(2,[3])] (sq (sq sl (sc sl sl)) (sq (sb sl) sl))))) (sq sl sl))))
def sP:PX 25 m7:=⟨_,by conv=>lhs;reduce⟩
def rH:PL 25 m7 0:=⟨_,by conv=>lhs;reduce⟩
def gC(k2:Q2):Nat->Q2
 |0,_,_=>none
 |n+1,vs,s=>jr c F bY (gC k2 n) [k2] rH.1 vs s
def p7(k2:Q2)(n:Nat)(vs:List AV)(s:St):=(by dsimp only[gC,rH,go_sem,Int.reduceOfNat]:gC c F k2 (n+1) vs s=_)
def m8:Un->List Q2->Nat->Q2
 |.z,[k2]=>gC c F k2
 |_,_=>λ_=>kz
def oP:O2:=bW c F (m8 c F) sP.1 [x0] s
def Cl:=(by dsimp only[oP,sP, ↓m8,go_sem,Int.reduceOfNat]:oP c F x0 s=_)
def yM:Sh:=(sq sl (sq sl (sj [5] (sq sl (sc sl sl)) (sq sl sl))))
def yN:PX 26 yM:=⟨_,by conv=>lhs;reduce⟩
def vu:O2:=bW c F bY yN.1 [x0,x1] s
def I0:=(by dsimp only[vu,yN,go_sem,Int.reduceOfNat]:vu c F x0 x1 s=_)
def oQ:Sh:=(sq sl (sq (sq sl (sb (sp 0 [0,1,5] [(1,[4]),(2,[])] (sq (sq sl (sc sl sl)) (sq (sb (sq sl (sq sl (sc (sq sl (sq sl sl)) sl)))) sl))))) (sq sl sl)))
def vw:PX 27 oQ:=⟨_,by conv=>lhs;reduce⟩
def uh:PL 27 oQ 0:=⟨_,by conv=>lhs;reduce⟩
def ij(k1 k2:Q2):Nat->Q2
 |0,_,_=>none
 |n+1,vs,s=>jr c F bY (ij k1 k2 n) [k1,k2] uh.1 vs s
def lV(k1 k2:Q2)(n:Nat)(vs:List AV)(s:St):=(by dsimp only[ij,uh,go_sem,Int.reduceOfNat,Int.reduceNegSucc]:ij c F k1 k2 (n+1) vs s=_)
def oR:Un->List Q2->Nat->Q2
 |.z,[k1,k2]=>ij c F k1 k2
 |_,_=>λ_=>kz
def qM:O2:=bW c F (oR c F) vw.1 [x0,x1] s
def uS:=(by dsimp only[qM,vw, ↓oR,go_sem,Int.reduceOfNat,Int.reduceNegSucc]:qM c F x0 x1 s=_)
def m9:Sh:=(sq sl (sq (sq sl (sb (sp 0 [0,1,7,8] [(1,[4]),(2,[])] (sq sl (sq (sc sl sl) (sq (sb (sq sl (sq sl (sc (sq sl sl) sl)))) sl)))))) (sq sl sl)))
def sQ:PX 28 m9:=⟨_,by conv=>lhs;reduce⟩
def rI:PL 28 m9 0:=⟨_,by conv=>lhs;reduce⟩
def gD(k1 k2:Q2):Nat->Q2
 |0,_,_=>none
 |n+1,vs,s=>jr c F bY (gD k1 k2 n) [k1,k2] rI.1 vs s
def kC(k1 k2:Q2)(n:Nat)(vs:List AV)(s:St):=(by dsimp only[gD,rI,go_sem,Int.reduceOfNat,Int.reduceNegSucc]:gD c F k1 k2 (n+1) vs s=_)
def nc:Un->List Q2->Nat->Q2
 |.z,[k1,k2]=>gD c F k1 k2
 |_,_=>λ_=>kz
def oU:O2:=bW c F (nc c F) sQ.1 [x0,x1] s
def Cm:=(by dsimp only[oU,sQ, ↓nc,go_sem,Int.reduceOfNat,Int.reduceNegSucc]:oU c F x0 x1 s=_)
def AE:Sh:=(sq sl (sq sl sl))
def AG:PX 29 AE:=⟨_,by conv=>lhs;reduce⟩
def wT:O2:=bW c F bY AG.1 [x0,x1] s
def Kv:=(by dsimp only[wT,AG,go_sem,Int.reduceOfNat]:wT c F x0 x1 s=_)
def HG:Sh:=(sq sl (sq sl (sq sl sl)))
def HH:PX 39 HG:=⟨_,by conv=>lhs;reduce⟩
def EU:O2:=bW c F bY HH.1 [x0,x1] s
def R2:=(by dsimp only[EU,HH,go_sem,Int.reduceOfNat]:EU c F x0 x1 s=_)
def Dq:Sh:=(sq sl (sq sl sl))
def Dr:PX 40 Dq:=⟨_,by conv=>lhs;reduce⟩
def AH:O2:=bW c F bY Dr.1 [x0] s
def Nm:=(by dsimp only[AH,Dr,go_sem,Int.reduceOfNat]:AH c F x0 s=_)
def HI:Sh:=(sq sl (sq (sq sl (sc (sq sl sl) sl)) (sq sl sl)))
def HJ:PX 42 HI:=⟨_,by conv=>lhs;reduce⟩
def EV:O2:=bW c F bY HJ.1 [x0] s
def Sa:=(by dsimp only[EV,HJ,go_sem,Int.reduceOfNat]:EV c F x0 s=_)
def v9:Sh:=(sq sl (sq sl sl))
def we:PX 43 v9:=⟨_,by conv=>lhs;reduce⟩
def rU:O2:=bW c F bY we.1 [x0] s
def Gc:=(by dsimp only[rU,we,go_sem,Int.reduceOfNat]:rU c F x0 s=_)
def uj:Sh:=(sq sl (sq sl sl))
def uk:PX 44 uj:=⟨_,by conv=>lhs;reduce⟩
def pQ:O2:=bW c F bY uk.1 [x0] s
def Ds:=(by dsimp only[pQ,uk,go_sem,Int.reduceOfNat]:pQ c F x0 s=_)
def oV:Sh:=(sq sl (sq (sq sl (sb (sp 0 [1,2,5] [(1,[4]),(2,[])] (sq (sq sl (sc sl sl)) (sq (sb (sq sl (sc (sq sl sl) sl))) sl))))) (sq sl sl)))
def vz:PX 45 oV:=⟨_,by conv=>lhs;reduce⟩
def um:PL 45 oV 0:=⟨_,by conv=>lhs;reduce⟩
def iy(k1 k2:Q2):Nat->Q2
 |0,_,_=>none
 |n+1,vs,s=>jr c F bY (iy k1 k2 n) [k1,k2] um.1 vs s
def l6(k1 k2:Q2)(n:Nat)(vs:List AV)(s:St):=(by dsimp only[iy,um,go_sem,Int.reduceOfNat]:iy c F k1 k2 (n+1) vs s=_)
def oW:Un->List Q2->Nat->Q2
 |.z,[k1,k2]=>iy c F k1 k2
 |_,_=>λ_=>kz
def qN:O2:=bW c F (oW c F) vz.1 [x0,x1] s
def EW:=(by dsimp only[qN,vz, ↓oW,go_sem,Int.reduceOfNat]:qN c F x0 x1 s=_)
def Dt:Sh:=(sq sl (sq (sq sl (sq sl (sc (sq sl sl) sl))) (sq sl sl)))
def Du:PX 46 Dt:=⟨_,by conv=>lhs;reduce⟩
def AI:O2:=bW c F bY Du.1 [x0,x1,x2] s
def Nq:=(by dsimp only[AI,Du,go_sem,Int.reduceOfNat]:AI c F x0 x1 x2 s=_)
def AK:Sh:=(sq sl (sq sl sl))
def AL:PX 62 AK:=⟨_,by conv=>lhs;reduce⟩
def wU:O2:=bW c F bY AL.1 [x0,x1] s
def Kt:=(by dsimp only[wU,AL,go_sem,Int.reduceOfNat]:wU c F x0 x1 s=_)
def AM:Sh:=(sq sl (sq (sq sl (sc (sq sl sl) sl)) (sq sl (sq sl (sq (sq sl (sb (sp 0 [2,8,9,23,24,25] [(1,[6,7]),(2,[])] (sq sl (sq (sc sl sl) (sj [2,8,9,23,24,25] (sb (sq sl (sq (sb (sq sl (sc (sq sl sl) (sq sl (sc (sq sl sl) (sq sl (sc (sq sl sl) sl))))))) (sq sl (sc sl sl))))) sl)))))) (sq sl sl))))))
def HK:PX 65 AM:=⟨_,by conv=>lhs;reduce⟩
def FG:PL 65 AM 0:=⟨_,by conv=>lhs;reduce⟩
def o9(k1 k2:Q2):Nat->Q2
 |0,_,_=>none
 |n+1,vs,s=>jr c F bY (o9 k1 k2 n) [k1,k2] FG.1 vs s
def uT(k1 k2:Q2)(n:Nat)(vs:List AV)(s:St):=(by dsimp only[o9,FG,go_sem,Int.reduceOfNat,Int.reduceNegSucc]:o9 c F k1 k2 (n+1) vs s=_)
def AN:Un->List Q2->Nat->Q2
 |.z,[k1,k2]=>o9 c F k1 k2
 |_,_=>λ_=>kz
def EX:O2:=bW c F (AN c F) HK.1 [x0,x1,x2] s
def RZ:=(by dsimp only[EX,HK, ↓AN,go_sem,Int.reduceOfNat,Int.reduceNegSucc]:EX c F x0 x1 x2 s=_)
end
section
variable{c:ai}(hc:bU c)(F:Nat){x0 x1 x2 x3 x4 x5 x6 x7 x8 x9 R8 R9:AV}{s:St}{r:AV×St}
include hc
theorem Dv(h:jd c F x0 s=some r):c 6 [x0] s=some (tidy s r):=hc.oL F (pN c F) jG 3 (by kernel_rfl) (λi hi=>match i,hi with|0,_=>jM 0 (by kernel_rfl) (λ_ _ _=>by kernel_rfl) (λ_ _ _ _=>by kernel_rfl)|1,_=>jM 1 (by kernel_rfl) (λ_ _ _=>by kernel_rfl) (λ_ _ _ _=>by kernel_rfl)|2,_=>jM 2 (by kernel_rfl) (λ_ _ _=>by kernel_rfl) (λ_ _ _ _=>by kernel_rfl)|n+3,h=>absurd h (by omega)) (by kernel_rfl) h
theorem Be(h:pO c F x0 x1 s=some r):c 7 [x0,x1] s=some (tidy s r):=hc.o1 F (nN c F) nM (by kernel_rfl) (by kernel_rfl) (λ_ _ _=>by kernel_rfl) (λ_ _ _ _=>by kernel_rfl) (by kernel_rfl) h
theorem Ax(h:oJ c F x0 s=some r):c 9 [x0] s=some (tidy s r):=hc.o1 F (mZ c F) mY (by kernel_rfl) (by kernel_rfl) (λ_ _ _=>by kernel_rfl) (λ_ _ _ _=>by kernel_rfl) (by kernel_rfl) h
theorem xS(h:lZ c F x0 x1 s=some r):c 10 [x0,x1] s=some (tidy s r):=hc.o0 F qi (by kernel_rfl) (by kernel_rfl) h
theorem Py(h:HF c F x0 x1 s=some r):c 17 [x0,x1] s=some (tidy s r):=hc.o1 F (Cu c F) Ct (by kernel_rfl) (by kernel_rfl) (λ_ _ _=>by kernel_rfl) (λ_ _ _ _=>by kernel_rfl) (by kernel_rfl) h
theorem Mi(h:Cw c F x0 x1 x2 s=some r):c 18 [x0,x1,x2] s=some (tidy s r):=hc.o1 F (yu c F) yq (by kernel_rfl) (by kernel_rfl) (λ_ _ _=>by kernel_rfl) (λ_ _ _ _=>by kernel_rfl) (by kernel_rfl) h
theorem Tk(h:NM c F x0 x1 x2 s=some r):c 19 [x0,x1,x2] s=some (tidy s r):=hc.o0 F O9 (by kernel_rfl) (by kernel_rfl) h
theorem Co(h:qK c F x0 x1 s=some r):c 20 [x0,x1] s=some (tidy s r):=hc.o1 F (oM c F) oK (by kernel_rfl) (by kernel_rfl) (λ_ _ _=>by kernel_rfl) (λ_ _ _ _=>by kernel_rfl) (by kernel_rfl) h
theorem Cx(h:qL c F x0 x1 s=some r):c 21 [x0,x1] s=some (tidy s r):=hc.o1 F (oO c F) oN (by kernel_rfl) (by kernel_rfl) (λ_ _ _=>by kernel_rfl) (λ_ _ _ _=>by kernel_rfl) (by kernel_rfl) h
theorem Dw(h:rR c F x0 s=some r):c 22 [x0] s=some (tidy s r):=hc.o0 F vZ (by kernel_rfl) (by kernel_rfl) h
theorem Dx(h:rS c F x0 x1 s=some r):c 23 [x0,x1] s=some (tidy s r):=hc.oL F (pP c F) gO 4 (by kernel_rfl) (λi hi=>match i,hi with|0,_=>jM 0 (by kernel_rfl) (λ_ _ _=>by kernel_rfl) (λ_ _ _ _=>by kernel_rfl)|1,_=>jM 1 (by kernel_rfl) (λ_ _ _=>by kernel_rfl) (λ_ _ _ _=>by kernel_rfl)|2,_=>jM 2 (by kernel_rfl) (λ_ _ _=>by kernel_rfl) (λ_ _ _ _=>by kernel_rfl)|3,_=>jM 3 (by kernel_rfl) (λ_ _ _=>by kernel_rfl) (λ_ _ _ _=>by kernel_rfl)|n+4,h=>absurd h (by omega)) (by kernel_rfl) h
theorem Cy(h:iw c F x0 x1 s=some r):c 24 [x0,x1] s=some (tidy s r):=hc.o0 F vr (by kernel_rfl) (by kernel_rfl) h
theorem Ao(h:oP c F x0 s=some r):c 25 [x0] s=some (tidy s r):=hc.o1 F (m8 c F) m7 (by kernel_rfl) (by kernel_rfl) (λ_ _ _=>by kernel_rfl) (λ_ _ _ _=>by kernel_rfl) (by kernel_rfl) h
theorem FV(h:vu c F x0 x1 s=some r):c 26 [x0,x1] s=some (tidy s r):=hc.o0 F yM (by kernel_rfl) (by kernel_rfl) h
theorem su(h:qM c F x0 x1 s=some r):c 27 [x0,x1] s=some (tidy s r):=hc.o1 F (oR c F) oQ (by kernel_rfl) (by kernel_rfl) (λ_ _ _=>by kernel_rfl) (λ_ _ _ _=>by kernel_rfl) (by kernel_rfl) h
theorem Ar(h:oU c F x0 x1 s=some r):c 28 [x0,x1] s=some (tidy s r):=hc.o1 F (nc c F) m9 (by kernel_rfl) (by kernel_rfl) (λ_ _ _=>by kernel_rfl) (λ_ _ _ _=>by kernel_rfl) (by kernel_rfl) h
theorem Ho(h:wT c F x0 x1 s=some r):c 29 [x0,x1] s=some (tidy s r):=hc.o0 F AE (by kernel_rfl) (by kernel_rfl) h
theorem Nr(h:EU c F x0 x1 s=some r):c 39 [x0,x1] s=some (tidy s r):=hc.o0 F HG (by kernel_rfl) (by kernel_rfl) h
theorem Ks(h:AH c F x0 s=some r):c 40 [x0] s=some (tidy s r):=hc.o0 F Dq (by kernel_rfl) (by kernel_rfl) h
theorem Ns(h:EV c F x0 s=some r):c 42 [x0] s=some (tidy s r):=hc.o0 F HI (by kernel_rfl) (by kernel_rfl) h
theorem Dy(h:rU c F x0 s=some r):c 43 [x0] s=some (tidy s r):=hc.o0 F v9 (by kernel_rfl) (by kernel_rfl) h
theorem Bh(h:pQ c F x0 s=some r):c 44 [x0] s=some (tidy s r):=hc.o0 F uj (by kernel_rfl) (by kernel_rfl) h
theorem Cz(h:qN c F x0 x1 s=some r):c 45 [x0,x1] s=some (tidy s r):=hc.o1 F (oW c F) oV (by kernel_rfl) (by kernel_rfl) (λ_ _ _=>by kernel_rfl) (λ_ _ _ _=>by kernel_rfl) (by kernel_rfl) h
theorem Ku(h:AI c F x0 x1 x2 s=some r):c 46 [x0,x1,x2] s=some (tidy s r):=hc.o0 F Dt (by kernel_rfl) (by kernel_rfl) h
theorem Hj(h:wU c F x0 x1 s=some r):c 62 [x0,x1] s=some (tidy s r):=hc.o0 F AK (by kernel_rfl) (by kernel_rfl) h
theorem Np(h:EX c F x0 x1 x2 s=some r):c 65 [x0,x1,x2] s=some (tidy s r):=hc.o1 F (AN c F) AM (by kernel_rfl) (by kernel_rfl) (λ_ _ _=>by kernel_rfl) (λ_ _ _ _=>by kernel_rfl) (by kernel_rfl) h
end
end
section
open Go Go.Ai Go.Proofs
variable{c:ai}
def dJ(i:Nat):List Nat:=[116,97+i % 26]
def bn(i:Nat):List Nat:=[97+i / 26 % 26,97+i % 26]
theorem abb(hc:bU c)(i:Nat)(hi:i<1000000)(st:St)(hw:Wf st):c 43 [.int .i64 (i:Int)] st=some (.str (dJ i),st):=by
 have hg:=Grew.af hw (.cells [.int .u8 116,.int .u8 (97+(i:Int) % 26)] 0);rw[Dy hc 1 (r:=(.str (dJ i),af st (.cells [.int .u8 116,.int .u8 (97+(i:Int) % 26)] 0))),aK (Plain.str _) hg.keeps];rw[Gc];have w1:ax .i64 (97+(i:Int) % 26)=97+(i:Int) % 26:=wrap64 (by omega) (by omega);have w2:ax .u8 (97+(i:Int) % 26)=97+(i:Int) % 26:=xk (by omega) (by omega);have r1:=λ(s:St)(K:AV->St->Option (AV×St))=>bO (c:=c) (k:= .i64) (a:=(i:Int)) (b:=26) (by omega) (by omega) s K
 have two:=λ(s:St)(K:AV->St->Option (AV×St))=>RE (c:=c) (x:=116) (y:=97+(i:Int) % 26) 116 (97+i % 26) rfl (by omega) (by omega) (by omega) s K
 simp[-aT,r1,tW,w1,w2,two,dJ]
theorem rq(hc:bU c)(i:Nat)(hi:i<1000000)(st:St)(hw:Wf st):c 44 [.int .i64 (i:Int)] st=some (.str (bn i),st):=by
 have hg:=Grew.af hw (.cells [.int .u8 (97+(i:Int) / 26 % 26),.int .u8 (97+(i:Int) % 26)] 0);rw[Bh hc 1 (r:=(.str (bn i),af st (.cells [.int .u8 (97+(i:Int) / 26 % 26),.int .u8 (97+(i:Int) % 26)] 0))),aK (Plain.str _) hg.keeps];rw[Ds];have w1:ax .i64 (97+(i:Int) % 26)=97+(i:Int) % 26:=wrap64 (by omega) (by omega);have w2:ax .u8 (97+(i:Int) % 26)=97+(i:Int) % 26:=xk (by omega) (by omega);have w3:ax .i64 (97+(i:Int) / 26 % 26)=97+(i:Int) / 26 % 26:=wrap64 (by omega) (by omega);have w4:ax .u8 (97+(i:Int) / 26 % 26)=97+(i:Int) / 26 % 26:=xk (by omega) (by omega);have r1:=λ(s:St)(K:AV->St->Option (AV×St))=>bO (c:=c) (k:= .i64) (a:=(i:Int)) (b:=26) (by omega) (by omega) s K
 have r2:=λ(s:St)(K:AV->St->Option (AV×St))=>eW (c:=c) (a:=(i:Int)) (b:=26) (by omega) (by omega) (by omega) s K
 have r3:=λ(s:St)(K:AV->St->Option (AV×St))=>bO (c:=c) (k:= .i64) (a:=(i:Int) / 26) (b:=26) (by omega) (by omega) s K
 have two:=λ(s:St)(K:AV->St->Option (AV×St))=>RE (c:=c) (x:=97+(i:Int) / 26 % 26) (y:=97+(i:Int) % 26) (97+i / 26 % 26) (97+i % 26) (by omega) (by omega) (by omega) (by omega) s K
 simp[-aT,r1,r2,r3,tW,w1,w2,w3,w4,two,bn]
def iU(sh a b:Int):Int:=if sh=2 then 2*a+b else if sh=3 then a+2*b else a
theorem An(hc:bU c){l:List AV}{sh a b:Int}(h1:l[1]? =some (.int .u8 sh))(h2:l[2]? =some (.int .i64 a))(h3:l[3]? =some (.int .i64 b))(ha:0<=a/\a<=1000000)(hb:0<=b/\b<=1000000)(st:St)(hw:Wf st):
   c 22 [.agg l] st=some (.int .i64 (iU sh a b),st):=by
 have hg:=Grew.af hw (.cells l 0);have p1:=aC st (.cells l 0);rw[Dw hc 1 (r:=(.int .i64 (iU sh a b),af st (.cells l 0))),aK (Plain.int _ _) hg.keeps];rw[Ga];have w1:ax .i64 (2*a)=2*a:=wrap64 (by omega) (by omega);have w2:ax .i64 (2*b)=2*b:=wrap64 (by omega) (by omega);have w3:ax .i64 (2*a+b)=2*a+b:=wrap64 (by omega) (by omega);have w4:ax .i64 (a+2*b)=a+2*b:=wrap64 (by omega) (by omega);unfold iU;by_cases e2:sh=2
 .subst e2;simp[p1,h1,h2,h3,w1,w3]
 . by_cases e3:sh=3
   .subst e3;simp[p1,h1,h2,h3,w2,w4]
   .have d2:decide (sh=2)=false:=Za2 e2;have d3:decide (sh=3)=false:=Za2 e3;simp[p1,h1,h2,h3,e2,e3,d2,d3]
def NN(i:Nat):List AV:=[.int .i64 (i:Int)]
def nO:List AV:=[.str [],.int .u8 0,.int .i64 0,.int .i64 0,.ah,.int .i64 0,.int .i64 0]
def eG(nm:List Nat)(sh a b:Int)(x:Nat)(v:AV):List AV:=[.str nm,.int .u8 sh,.int .i64 a,.int .i64 b,v,.int .i64 (x:Int),.int .i64 (255 - (x:Int))]
def KO(x i:Nat):Bool:=decide (x / 2 ^ i % 2=1)&&decide (0<x % 3)
theorem acv(x i:Nat):KO x i=(decide (x / 2 ^ i % 2=1)&&decide (0<x % 3)):=by rw[KO]
def uU(x k:Nat):List Nat:=(List.range k).filter (KO x)
theorem Pb(x k:Nat):uU x (k+1)=uU x k++(if KO x k=true then [k]else []):=by
 unfold uU;rw[Zi7,List.filter_append];congr 1;cases h:KO x k with
 |true=>simp[h]
 |false=>simp[h]
theorem R5(x k:Nat):(uU x k).length<=k:=by have:=Zm2 (KO x) (List.range k);rw[Zo7]at this;exact this
structure TI(st s:St)(p4 p5:Pos)(nm:List Nat)(sh a b:Int)(x k:Nat)(v:AV):Prop where
 out:Mk 1 st s v ((uU x k).map NN)
 h4:s.heap.get p4=some (.cells nO 0)
 h5:s.heap.get p5=some (.cells (eG nm sh a b x v) 0)
 n4:bg v≠some p4
 n5:bg v≠some p5
theorem V6(hc:bU c){nm:List Nat}{sh a b:Int}{x n:Nat}(ha:0<=a/\a<=1000000)(hb:0<=b/\b<=1000000)(hx:x<1000000)(hn:iU sh a b=(n:Int))(hn64:n<=64){st:St}{p4 p5:Pos}(h4:st.next.toNat<=p4.toNat)(h5:st.next.toNat<=p5.toNat)(Dz:p4≠p5)
  (F:Nat) (k3):∀(m k:Nat)(s:St)(v:AV),TI st s p4 p5 nm sh a b x k v->n<=k+m->k<=n->
  ∃s' v',TI st s' p4 p5 nm sh a b x n v'/\fP c F k3 (m+1) [.int .i64 (x:Int),.ptr p4 0,.ptr p5 0,.int .i64 (k:Int)] s=k3 [.ptr p4 0,.ptr p5 0] s':=by
 intro m;induction m with
 |zero=>
  intro k s v hT h1 h2;obtain rfl:k=n:=by omega
  refine⟨s,v,hT,?_⟩;have S:=An hc (l:=eG nm sh a b x v) rfl rfl rfl ha hb s hT.out.aA.wf;have cu:cut (eG nm sh a b x v) 0 7=some (eG nm sh a b x v):=bI rfl;rw[hn]at S;rw[jy];simp[hT.h5,cu,S]
 |succ m ih=>
  intro k s v hT h1 h2;have hw:=hT.out.aA.wf;have S:=An hc (l:=eG nm sh a b x v) rfl rfl rfl ha hb s hw;have cu:cut (eG nm sh a b x v) 0 7=some (eG nm sh a b x v):=bI rfl;rw[hn]at S;clear hn;by_cases h:k<n
  . have JC:(0:Int)<=(x:Int):=Int.natCast_nonneg x;have w:ax .i64 ((k:Int)+1)=((k+1:Nat):Int):=wrap64 (by omega) (by omega);have sr:=λ(s:St)(K:AV->St->Option (AV×St))=>RD (c:=c) (a:=(x:Int)) (i:=k) (Zc4 h2 hn64) s K
    have p0:(0:Int)<=(x:Int) / 2 ^ k:=Zp6 JC (Int.le_of_lt (Int.pow_pos (by omega)));have r1:=λ(s:St)(K:AV->St->Option (AV×St))=>bO (c:=c) (k:= .i64) (a:=(x:Int) / 2 ^ k) (b:=2) p0 (by decide) s K
    have r2:=λ(s:St)(K:AV->St->Option (AV×St))=>bO (c:=c) (k:= .i64) (a:=(x:Int)) (b:=3) JC (by decide) s K
    have d1:decide ((x:Int) / 2 ^ k % 2=1)=decide (x / 2 ^ k % 2=1):=(by have:((x:Int) / 2 ^ k % 2=1)↔(x / 2 ^ k % 2=1):=(by rw[show((x:Int) / 2 ^ k % 2)=((x / 2 ^ k % 2:Nat):Int)by simp];omega);exact decide_eq_decide.2 this);have d2:decide (0<(x:Int) % 3)=decide (0<x % 3):=decide_eq_decide.2 (by omega);have c4:(eG nm sh a b x v)[4]? =some v:=rfl;have hl:decide ((k:Int)<(n:Int))=true:=H5 (Int.ofNat_lt.2 h);have fin:=acv x k;cases hq:KO x k with
    |   true=>
        have hrl:((uU x k).map NN).length<=64:=(by rw[Zb2];have:=R5 x k;omega);obtain⟨s5,v5,a1,a2,a3,a4⟩:=hT.out.push (c:=c) (R:=AV×St) (bytes:=8) (z:=[.int .i64 0]) (x:= .int .i64 (k:Int)) rfl rfl rfl (by decide) (by omega) (by omega);have e:(uU x (k+1)).map NN=(uU x k).map NN++[(.int .i64 (k:Int):AV).cells]:=(by rw[Pb,Za8 hq,Zd7];rfl);rw[<-e]at a2;have y4:=a3 p4 _ hT.n4 hT.h4;have y5:=a3 p5 _ hT.n5 hT.h5;have l4:=hw p4 _ hT.h4;have l5:=hw p5 _ hT.h5;have b4:bg v5≠some p4:=λe=>by have:=a4 _ e;omega
        have b5:bg v5≠some p5:=λe=>by have:=a4 _ e;omega
        have hw5:=a2.aA.wf;have YU:=hw5 p5 _ y5;have M:=a2.store (p:=p5) (b:= .cells (eG nm sh a b x v5) 0) h5 YU b5;obtain⟨vc,v1⟩:=a2.cells;have aJ:∀(K:AV->St->Option (AV×St)),ak c (.store 1) [.ptr p5 4,v5] s5 K=K .undef (cv s5 p5 (.cells (eG nm sh a b x v5) 0)):=λK=>by rw[dU c K s5 1 p5 4 v5 (eG nm sh a b x v) y5 (by rw[vc];rfl) (by simp[eG]) (by rw[vc];exact v1),vc];rfl
        have T5:TI st (cv s5 p5 (.cells (eG nm sh a b x v5) 0)) p4 p5 nm sh a b x (k+1) v5:=⟨M,by rw[bt (λe=>Dz e.symm)];exact y4,ej _ _ _,b4,b5⟩
        obtain⟨s',v',b1,b2⟩:=ih (k+1) _ v5 T5 (by omega) (by omega);refine⟨s',v',b1,?_⟩;rw[<-b2,jy];rw[fin,Za7]at hq;simp[-aT,hT.h5,cu,S,h,fA,sr,r1,r2,d1,d2,hq.1,hq.2,c4,a1,aJ,w]
    |   false=>
        have e:(uU x (k+1))=(uU x k):=(by rw[Pb,Za5 (by rw[hq];decide),Ze8]);obtain⟨s',v',b1,b2⟩:=ih (k+1) s v ⟨by rw[e];exact hT.out,hT.h4,hT.h5,hT.n4,hT.n5⟩ (by omega) (by omega);refine⟨s',v',b1,?_⟩;rw[<-b2,jy];rw[fin]at hq;cases g1:decide (x / 2 ^ k % 2=1)with
        |false=>simp[-aT,hT.h5,cu,S,h,fA,sr,r1,r2,d1,d2,g1,c4,w]
        |true=>
         rw[g1,Zf5]at hq;simp[-aT,hT.h5,cu,S,h,fA,sr,r1,r2,d1,d2,g1,hq,c4,w]
  .obtain rfl:k=n:=(by omega);refine⟨s,v,hT,?_⟩;rw[jy];simp[hT.h5,cu,S]
theorem iG(s:St)(cs:List AV)(o:Nat)(v:AV)(ho:o<cs.length)(h1:v.cells=[v])(h2:v.one=true)(K:AV->St->Option (AV×St)):ak c (.store 1) [.ptr s.next o,v] (af s (.cells cs 0)) K=K .undef (af s (.cells (cs.set o v) 0)):=by
 rw[dU c K (af s (.cells cs 0)) 1 s.next o v cs (aC _ _) (by rw[h1];rfl) (by omega) (by rw[h1];simp[aQ,h2]),h1,zm _ _ ho,M3]
def j9(x:Nat):Nat:=1+x % 4
def tA(x:Nat):Nat:=if x % 4=0 then 1+x / 4 % 6 else if x % 4=1 then 1+x / 4 % 3 else if x % 4=2 then 1+x / 4 % 2 else 1+x / 4 % 5
def tB(x:Nat):Nat:=if x % 4=0 then 0 else if x % 4=1 then x / 4 / 3 % 3 else if x % 4=2 then 1+x / 4 / 2 % 2 else min (1+x / 4 % 5) (x / 4 / 5 % 4)
def tN(x:Nat):Nat:=if x % 4=1 then 2*tA x+tB x else if x % 4=2 then tA x+2*tB x else tA x
theorem Qj(x:Nat):tA x<=6:=by unfold tA;split<;>(try split)<;>(try split)<;>omega
theorem Qk(x:Nat):tB x<=3:=by unfold tB;split<;>(try split)<;>(try split)<;>omega
theorem Mh(x:Nat):tN x<=16:=by have:=Qj x;have:=Qk x;unfold tN;split<;>(try split)<;>omega
theorem IZ(x:Nat):iU ((j9 x:Nat):Int) ((tA x:Nat):Int) ((tB x:Nat):Int)=((tN x:Nat):Int):=by
 unfold iU tN j9;by_cases h1:x % 4=1
 .rw[Za8 (by omega),Za8 h1];omega
 . by_cases h2:x % 4=2
   .rw[Za5 (by omega),Za8 (by omega),Za5 h1,Za8 h2];omega
   .rw[Za5 (by omega),Za5 (by omega),Za5 h1,Za5 h2]
theorem abc(hc:bU c)(i x:Nat)(hi:i<1000000)(hx:x<256)(st:St)(hw:Wf st):∃v s',c 21 [.int .i64 (i:Int),.int .i64 (x:Int)] st=some (.agg (eG (dJ i) (j9 x:Nat) (tA x:Nat) (tB x:Nat) x v),s')/\Mk 1 st s' v ((uU x (tN x)).map NN):=by
 have dI:Wf (af st (.cells nO 0)):=bR hw;have g1:=Grew.af hw (.cells nO 0);have W:=abb hc i hi (af st (.cells nO 0)) dI;have hA:=Qj x;have hB:=Qk x;have hN:=Mh x;have g2:=Grew.af dI (.cells (eG (dJ i) (j9 x:Nat) (tA x:Nat) (tB x:Nat) x .ah) 0);have x1:(af (af st (.cells nO 0)) (.cells (eG (dJ i) (j9 x:Nat) (tA x:Nat) (tB x:Nat) x .ah) 0)).heap.get st.next=some (.cells nO 0):=g2.get (aC _ _);have x2:(af (af st (.cells nO 0)) (.cells (eG (dJ i) (j9 x:Nat) (tA x:Nat) (tB x:Nat) x .ah) 0)).heap.get (af st (.cells nO 0)).next=some (.cells (eG (dJ i) (j9 x:Nat) (tA x:Nat) (tB x:Nat) x .ah) 0):=aC _ _;have YV:st.next≠(af st (.cells nO 0)).next:=by rw[c9];exact Pos.M7 _
 have T0:TI st (af (af st (.cells nO 0)) (.cells (eG (dJ i) (j9 x:Nat) (tA x:Nat) (tB x:Nat) x .ah) 0)) st.next (af st (.cells nO 0)).next (dJ i) (j9 x:Nat) (tA x:Nat) (tB x:Nat) x 0 .ah:=
   ⟨Mk.start hw (g1.trans g2),x1,x2,λe=>(nomatch e),λe=>(nomatch e)⟩
 obtain⟨s',v,hT,L⟩:=V6 hc (n:=tN x) (by omega) (by omega) (by omega) (IZ x) (by omega) (p4:=st.next) (p5:=(af st (.cells nO 0)).next) (Za4 _) (by rw[c9,Pos.az];omega) YV (tN x+1)
   (λvs s96=>ji vs λx4 vs=>ji vs λx5 vs=>pX vs (ak c (.load (some 7)) [x5] s96 λx86 s97=>ak c (.store 7) [x4,x86] s97 λ_ YW=>Ua (some 7) x4 YW λv99=>some (v99,YW))) (tN x) 0 (af (af st (.cells nO 0)) (.cells (eG (dJ i) (j9 x:Nat) (tA x:Nat) (tB x:Nat) x .ah) 0)) .ah T0 (by omega) (by omega)
 have M:=hT.out;obtain⟨vc,v1⟩:=M.cells;have one:aQ (eG (dJ i) (j9 x:Nat) (tA x:Nat) (tB x:Nat) x v)=true:=by
   simp only[aQ]at v1;unfold eG;simp only[aQ,AV.one,v1,Zj2,Zk9]at*
 have hcut:cut (eG (dJ i) (j9 x:Nat) (tA x:Nat) (tB x:Nat) x v) 0 7=some (eG (dJ i) (j9 x:Nat) (tA x:Nat) (tB x:Nat) x v):=bI rfl;have jz:∀(K:AV->St->Option (AV×St)),ak c (.store 7) [.ptr st.next 0,.agg (eG (dJ i) (j9 x:Nat) (tA x:Nat) (tB x:Nat) x v)] s' K=K .undef (cv s' st.next (.cells (eG (dJ i) (j9 x:Nat) (tA x:Nat) (tB x:Nat) x v) 0)):=λK=>by rw[dU c K s' 7 st.next 0 (.agg (eG (dJ i) (j9 x:Nat) (tA x:Nat) (tB x:Nat) x v)) _ hT.h4 rfl (by simp[nO]) one];rfl
 have M2:=M.store (p:=st.next) (b:= .cells (eG (dJ i) (j9 x:Nat) (tA x:Nat) (tB x:Nat) x v) 0) (Za4 _) (M.aA.wf _ _ hT.h4) hT.n4;have mem:v∈eG (dJ i) (j9 x:Nat) (tA x:Nat) (tB x:Nat) x v:=by simp[eG]
 have low:∀y∈dJ i,y<256:=by intro y hy;simp[dJ]at hy;omega
 obtain⟨jR,t1,_,t3⟩:=M2.Ex mem (λu hu=>by simp only[eG,Za9,Ze4,Zj0]at hu;rcases hu with rfl|rfl|rfl|rfl|rfl|rfl|rfl<;>first|exact gJ.str low|exact gJ.int _ _|exact M.inst);refine⟨v,jR,?_,t3⟩;rw[Cx hc (tN x+1) (r:=(.agg (eG (dJ i) (j9 x:Nat) (tA x:Nat) (tB x:Nat) x v),cv s' st.next (.cells (eG (dJ i) (j9 x:Nat) (tA x:Nat) (tB x:Nat) x v) 0))),t1];have L2:fP c (tN x+1) (λvs s96=>ji vs λx4 vs=>ji vs λx5 vs=>pX vs (ak c (.load (some 7)) [x5] s96 λx86 s97=>ak c (.store 7) [x4,x86] s97 λ_ YW=>Ua (some 7) x4 YW λv99=>some (v99,YW))) (tN x+1) [.int .i64 (x:Int),.ptr st.next 0,.ptr (af st (.cells nO 0)).next 0,.int .i64 0] (af (af st (.cells nO 0)) (.cells (eG (dJ i) (j9 x:Nat) (tA x:Nat) (tB x:Nat) x .ah) 0))=some (.agg (eG (dJ i) (j9 x:Nat) (tA x:Nat) (tB x:Nat) x v),cv s' st.next (.cells (eG (dJ i) (j9 x:Nat) (tA x:Nat) (tB x:Nat) x v) 0)):=by
   rw[show(0:Int)=((0:Nat):Int)from rfl,L];simp[hT.h5,hcut,jz]
 generalize hF:tN x+1=F at L2 ⊢;clear hF L hT M2 jz T0 x1 x2 g2;have q1:=λ(s:St)(K:AV->St->Option (AV×St))=>bO (c:=c) (k:= .i64) (a:=(x:Int)) (b:=4) (by omega) (by omega) s K
 have q2:=λ(s:St)(K:AV->St->Option (AV×St))=>eW (c:=c) (a:=(x:Int)) (b:=4) (by omega) (by omega) (by omega) s K
 have q3:=λ(n:Int)(hn:0<n)(s:St)(K:AV->St->Option (AV×St))=>bO (c:=c) (k:= .i64) (a:=(x:Int) / 4) (b:=n) (by omega) hn s K
 have w1:ax .i64 (1+(x:Int) % 4)=1+(x:Int) % 4:=wrap64 (by omega) (by omega);have w2:ax .u8 (1+(x:Int) % 4)=1+(x:Int) % 4:=xk (by omega) (by omega);have w3:ax .i64 (255 - (x:Int))=255 - (x:Int):=wrap64 (by omega) (by omega);have al:∀(s:St)(K:AV->St->Option (AV×St)),ak c (.alloc [.str [],.int .u8 0,.int .i64 0,.int .i64 0,.ah,.int .i64 0,.int .i64 0]) [] s K=K (.ptr s.next 0) (af s (.cells nO 0)):=λs K=>rfl
 have UQ:∀(nm:List Nat)(sh u y:Int)(s:St)(K:AV->St->Option (AV×St)),ak c (.build [.str [],.int .u8 0,.int .i64 0,.int .i64 0,.ah,.int .i64 0,.int .i64 0] [(0,1),(1,1),(5,1),(6,1)]) [.str nm,.int .u8 sh,.int .i64 u,.int .i64 y] s K=K (.agg [.str nm,.int .u8 sh,.int .i64 0,.int .i64 0,.ah,.int .i64 u,.int .i64 y]) s:=λnm sh u y s K=>rfl
 have DA:∀(nm:List Nat)(sh u y:Int)(s:St)(K:AV->St->Option (AV×St)),ak c (.store 7) [.ptr s.next 0,.agg [.str nm,.int .u8 sh,.int .i64 0,.int .i64 0,.ah,.int .i64 u,.int .i64 y]] (af s (.cells nO 0)) K=K .undef (af s (.cells [.str nm,.int .u8 sh,.int .i64 0,.int .i64 0,.ah,.int .i64 u,.int .i64 y] 0)):=λnm sh u y s K=>dx c K s 7 (.agg [.str nm,.int .u8 sh,.int .i64 0,.int .i64 0,.ah,.int .i64 u,.int .i64 y]) nO rfl rfl rfl
 have V8:∀(nm:List Nat)(sh p q u y z:Int)(s:St)(K:AV->St->Option (AV×St)),ak c (.store 1) [.ptr s.next 2,.int .i64 z] (af s (.cells [.str nm,.int .u8 sh,.int .i64 p,.int .i64 q,.ah,.int .i64 u,.int .i64 y] 0)) K=K .undef (af s (.cells [.str nm,.int .u8 sh,.int .i64 z,.int .i64 q,.ah,.int .i64 u,.int .i64 y] 0)):=λnm sh p q u y z s K=>iG s _ 2 (.int .i64 z) (by simp) rfl rfl K
 have V9:∀(nm:List Nat)(sh p q u y z:Int)(s:St)(K:AV->St->Option (AV×St)),ak c (.store 1) [.ptr s.next 3,.int .i64 z] (af s (.cells [.str nm,.int .u8 sh,.int .i64 p,.int .i64 q,.ah,.int .i64 u,.int .i64 y] 0)) K=K .undef (af s (.cells [.str nm,.int .u8 sh,.int .i64 p,.int .i64 z,.ah,.int .i64 u,.int .i64 y] 0)):=λnm sh p q u y z s K=>iG s _ 3 (.int .i64 z) (by simp) rfl rfl K
 rw[ES];simp only[al];generalize (af st (.cells nO 0))=s1 at W dI L2 YV;have a1:ax .i64 1=1:=rfl;have h4:x % 4=0\/x % 4=1\/x % 4=2\/x % 4=3:=by omega
 rcases h4 with h|h|h|h
 .have e4:(x:Int) % 4=0:=(by omega);have eS:((j9 x:Nat):Int)=1:=(by unfold j9;omega);have eA:((tA x:Nat):Int)=1+(x:Int) / 4 % 6:=(by unfold tA;rw[Za8 h];omega);have eB:((tB x:Nat):Int)=0:=(by unfold tB;rw[Za8 h];rfl);simp only[eG,eS,eA,eB]at L2 ⊢;simp (disch:=omega) [-aT,-ig,-jO,-eE,UQ,DA,V8,V9,W,bO,eW,e4,tW,wrap64,xk,fA,Zb0,L2]
 .have e4:(x:Int) % 4=1:=(by omega);have eS:((j9 x:Nat):Int)=2:=(by unfold j9;omega);have eA:((tA x:Nat):Int)=1+(x:Int) / 4 % 3:=(by unfold tA;rw[Za5 (by omega),Za8 h];omega);have eB:((tB x:Nat):Int)=(x:Int) / 4 / 3 % 3:=(by unfold tB;rw[Za5 (by omega),Za8 h];omega);simp only[eG,eS,eA,eB]at L2 ⊢;simp (disch:=omega) [-aT,-ig,-jO,-eE,UQ,DA,V8,V9,W,bO,eW,e4,tW,wrap64,xk,fA,Zb0,L2]
 .have e4:(x:Int) % 4=2:=(by omega);have eS:((j9 x:Nat):Int)=3:=(by unfold j9;omega);have eA:((tA x:Nat):Int)=1+(x:Int) / 4 % 2:=(by unfold tA;rw[Za5 (by omega),Za5 (by omega),Za8 h];omega);have eB:((tB x:Nat):Int)=1+(x:Int) / 4 / 2 % 2:=(by unfold tB;rw[Za5 (by omega),Za5 (by omega),Za8 h];omega);simp only[eG,eS,eA,eB]at L2 ⊢;simp (disch:=omega) [-aT,-ig,-jO,-eE,UQ,DA,V8,V9,W,bO,eW,e4,tW,wrap64,xk,fA,Zb0,L2]
 . have e4:(x:Int) % 4=3:=(by omega);have eS:((j9 x:Nat):Int)=4:=(by unfold j9;omega);have eA:((tA x:Nat):Int)=1+(x:Int) / 4 % 5:=(by unfold tA;rw[Za5 (by omega),Za5 (by omega),Za5 (by omega)];omega);obtain⟨mb,hmb⟩:∃mb:Int,mb=min (1+(x:Int) / 4 % 5) ((x:Int) / 4 / 5 % 4):=⟨_,rfl⟩
   have ZJ:∀(s:St)(K:AV->St->Option (AV×St)),ak c .minB [.int .i64 (1+(x:Int) / 4 % 5),.int .i64 ((x:Int) / 4 / 5 % 4)] s K=K (.int .i64 mb) s:=λs K=>by rw[hmb];exact Uk c K s _ _ _ _
   have eB:((tB x:Nat):Int)=mb:=(by rw[hmb];unfold tB;rw[Za5 (by omega),Za5 (by omega),Za5 (by omega)];omega);clear hmb;simp only[eG,eS,eA,eB]at L2 ⊢;simp (disch:=omega) [-aT,-ig,-jO,-eE,-Uk,ZJ,UQ,DA,V8,V9,W,bO,eW,e4,tW,wrap64,xk,fA,Zb0,L2]
theorem BR{R:Type}(K:AV->Option R){b:Pos}{off len es es':Nat}{cap:Option Nat}{k:IntKind}{i:Nat}(h:i<len):fJ (.idxA es none) [.slice b off len cap es',.int k (i:Int)] K=K (.ptr b (off+i*es)):=
 dP K (λH n=>by
  simp only[ay.run,nk,iN];have:Nat.blt i len=true:=by rw[Zp2];exact h
  rw[this])
theorem SN{es:Nat}{s:St}{v:AV}{rows:List (List AV)}(h:QS es s v rows)(hr:∀r∈rows,r.length=es){i:Nat}(hi:i<rows.length):
   ∃b off cap cs,v= .slice b off rows.length cap es/\s.heap.get b=some (.cells cs 0)/\∀j u,rows[i][j]? =some u->cs[off+i*es+j]? =some u:=by
 rcases h with⟨rfl,rfl⟩|⟨b,off,cap,cs,rfl,g1,g2,g3,g4⟩|⟨b,off,rfl,rfl⟩
 .simp at hi
 rotate_left
 .simp at hi
 . (refine⟨b,off,cap,cs,rfl,g1,λj u hj=> ?_⟩;have hj2:j<es:=(by rw[<-hr _ (Zb9 hi)];exact(Za1.1 hj).1);have:=Go.Ai.Al hr i j rows[i] u (H4 hi) hj;rw[<-g3]at this;have aU:i*es+j<rows.length*es:=by have:(i+1)*es<=rows.length*es:=Zg3 _ hi;rw[Zi9]at this;omega);rw[Zb8,Za8 aU,Zc8]at this;rw[<-this];congr 1;omega
theorem Wa(hc:bU c){s:St}{V W:AV}{rows:List (List AV)}(h:QS 9 s V rows)(hr:∀r∈rows,r.length=9){names:List (List Nat)}(hlen:names.length=rows.length)(hn:∀(i:Nat)(h1:i<rows.length)(h2:i<names.length),rows[i][0]? =some (.str names[i]))(abD:rows.length<=1000)
  {q:Pos} (hq:s.heap.get q=some (.cells [V,W] 0)) (x:Nat) (hx:x<1000000) (hw:Wf s) (F:Nat) (k1 k2):∀(m k f:Nat),m<f->k+m=rows.length->bn x∉names.take k->
  iy c F k1 k2 f [.int .i64 (x:Int),.ptr q 0,.int .i64 (k:Int)] s=if bn x∈names then k1 [.bool true] s else k2 [] s:=by
 intro m;have N:=rq hc x hx s hw;have cu:∀j:Nat,(cellsOf (s.heap.get q)).bind (λcs=>cs[0]?)=some V:=λ_=>by rw[hq];rfl
 induction m with
 |zero=>
  intro k f hf h1 kq;obtain⟨f,rfl⟩:∃g,f=g+1:=⟨f - 1,by omega⟩
  obtain rfl:k=rows.length:=by omega
  rw[<-hlen,Zh6]at kq;rw[Za5 kq,l6];have lI:=λ(K:AV->St->Option (AV×St))=>h.lenB (c:=c) K s
  simp[hq,lI]
 |succ m ih=>
  intro k f hf h1 kq;obtain⟨f,rfl⟩:∃g,f=g+1:=⟨f - 1,by omega⟩
  have hk:k<rows.length:=by omega
  have lK:k<names.length:=by omega
  have lI:=λ(K:AV->St->Option (AV×St))=>h.lenB (c:=c) K s
  have w:ax .i64 ((k:Int)+1)=((k+1:Nat):Int):=wrap64 (by omega) (by omega);obtain⟨b,off,cap,cs,e,g1,g2⟩:=SN h hr hk;have nm:=g2 0 _ (hn k hk lK);have hb:=h.beq;have r1:=λ(K:AV->Option (AV×St))=>wJ K (o:=0) (v:=V) (h:=s.heap) (h2:=s.heap) (p:=q) (by rw[hq];rfl) (by rw[hq];rfl) hb
  have r2:=λ(K:AV->Option (AV×St))=>wJ K (o:=off+k*9) (v:= .str names[k]) (h:=s.heap) (h2:=s.heap) (p:=b) (by rw[g1];exact nm) (by rw[g1];exact nm) (by simp[eH,j6,fO,jV.2 rfl])
  have ix:=λ(K:AV->Option (AV×St))=>BR K (b:=b) (off:=off) (es:=9) (es':=9) (cap:=cap) (k:= .i64) hk
  rw[<-e]at ix;by_cases heq:names[k]=bn x
  .have mem:bn x∈names:=(by rw[<-heq];exact Zb9 lK);rw[Za8 mem,l6];simp[hq,lI,hk,N,r1,r2,ix,heq]
  . have hno2:bn x∉names.take (k+1):=by
        rw[Zd1 lK,Zd8,Zd2];rintro(h|h)
        .exact kq h
        .exact heq h.symm
    rw[<-ih (k+1) f (by omega) (by omega) hno2,l6];have d:decide (names[k]=bn x)=false:=Za2 heq;simp[hq,lI,hk,N,r1,r2,ix,heq,d,w]
theorem abd(hc:bU c){s:St}{V W:AV}{rows:List (List AV)}(h:QS 9 s V rows)(hr:∀r∈rows,r.length=9){names:List (List Nat)}(hlen:names.length=rows.length)(hn:∀(i:Nat)(h1:i<rows.length)(h2:i<names.length),rows[i][0]? =some (.str names[i]))(abD:rows.length<=1000)
   (x:Nat) (hx:x<1000000) (hw:Wf s):c 45 [.agg [V,W],.int .i64 (x:Int)] s=some (.bool (decide (bn x∈names)),s):=by
 have hg:=Grew.af hw (.cells [V,W] 0);have h2:QS 9 (af s (.cells [V,W] 0)) V rows:=h.mono λb y _ hy=>hg.get hy
 have L:=Wa hc h2 hr hlen hn abD (aC s (.cells [V,W] 0)) x hx (bR hw) (rows.length+1) (λvs s13=>ji vs λx4 vs=>pX vs (some (x4,s13))) (λvs s14=>pX vs (ak c .move [.bool false] s14 λx4 s15=>some (x4,s15))) rows.length 0 (rows.length+1) (by omega) (by omega) (by simp);rw[Cz hc (rows.length+1) (r:=(.bool (decide (bn x∈names)),af s (.cells [V,W] 0))),aK (Plain.bool _) hg.keeps];rw[EW];by_cases hm:bn x∈names
 .rw[Za8 hm]at L;simp at L;simp[L,hm]
 .rw[Za5 hm]at L;simp at L;simp[L,hm]
end
section
open Go Go.Ai Go.Proofs
def j5(gs:List aO)(i:Nat):List Nat:=match gs[i]? with|some g=>g.name|none=>[]
def xX(gs:List aO)(i:Nat):List Nat:=match gs[i]? with|some g=>g.nJ|none=>[]
def qO(ts:List aL)(i:Nat):List Nat:=match ts[i]? with|some t=>t.name|none=>[]
def uo(ts:List aL)(i:Nat):Int:=match ts[i]? with|some t=>iU t.sh t.a t.b|none=>0
def EG(ts:List aL)(gs:List aO)(k wt a b t n z:Nat):Rl×Bool:=
 if k=1\/k=2\/k=3\/k=4\/k=5 then(⟨k,wt,j5 gs a,j5 gs b,[],if k=4 then((n+1:Nat):Int)else if k=1 then(n:Int)else 0⟩,decide (a≠b))
 else if k=6\/k=7 then(⟨k,wt,j5 gs a,[],qO ts t,if k=7 then((z / 13:Nat):Int) % uo ts t else 0⟩,true)
 else if k=10 then(⟨k,wt,if z % 3=0 then j5 gs a else [],[],[],0⟩,true)
 else if k=17 then(⟨k,wt,xX gs a,[],qO ts t,0⟩,decide (xX gs a≠[]))
 else(⟨k,wt,[],[],if 0<z % 3 then qO ts t else [],if k=15\/k=16 then(n:Int)else 0⟩,true)
def HL(y:Nat):Nat:=if 1<y % 5 then 1+y % 7 else 0
def eM(ts:List aL)(gs:List aO)(x:Nat):Rl×Bool:=
 if gs.length=0\/ts.length=0 then(⟨((1+x % 18:Nat):Int),(HL (x / 18):Int),[],[],[],0⟩,false)
 else EG ts gs (1+x % 18) (HL (x / 18)) (x / 18 / 5 % gs.length) (x / 18 / 5 / gs.length % gs.length) (x / 18 / 5 / 7 % ts.length) (x / 18 / 5 / 11 % 4) (x / 18 / 5)
theorem NO(i:Nat):jS (bn i)=true:=by unfold jS bn;have h1:i / 26 % 26<26:=Zi6 _ (by omega);have h2:i % 26<26:=Zi6 _ (by omega);simp;omega
variable{c:ai}
theorem Pc{cs row:List AV}{o n:Nat}(hl:row.length=n)(h0:0<n)(h:∀(j:Nat)(u:AV),row[j]? =some u->cs[o+j]? =some u):cut cs o n=some row:=by
 have h1:=h (n - 1) row[n - 1] (H4 (by omega));have h2:=(Za1.1 h1).1;unfold cut;have:Nat.ble (o+n) cs.length=true:=by rw[Nat.ble_eq];omega
 rw[this];simp only;congr 1;refine Zh9 λi=> ?_
 rw[Zb8];split
 .rename_i hi;rw[Zc8,h i _ (H4 (by omega)),H4 (by omega)]
 .rw[Zb5 (by omega)]
theorem TS.row{s0 s:St}{V:AV}{ts:List aL}{rows:List (List AV)}(h:TS s0 s V ts rows){i:Nat}(hi:i<ts.length):
   ∃b off cap cs v,V= .slice b off rows.length cap 7/\s.heap.get b=some (.cells cs 0)/\cut cs (off+i*7) 7=some (ts[i].au v)/\cs[off+i*7]? =some (.str ts[i].name):=by
 have hr:i<rows.length:=by rw[h.len];exact hi
 obtain⟨b,off,cap,cs,e,g1,g2⟩:=SN h.out.own h.out.row hr;obtain⟨v,e1,_,_⟩:=h.pZ i ts[i] rows[i] (H4 hi) (H4 hr);refine⟨b,off,cap,cs,v,e,g1,?_,?_⟩
 .rw[<-e1];exact Pc (h.out.row _ (Zb9 hr)) (by omega) g2
 . have:=g2 0 (.str ts[i].name) (by rw[e1];rfl)
   rwa [Zf0]at this
theorem GS.row{s0 s:St}{V:AV}{gs:List aO}{rows:List (List AV)}(h:GS s0 s V gs rows){i:Nat}(hi:i<gs.length):
   ∃b off cap cs v,V= .slice b off rows.length cap 9/\s.heap.get b=some (.cells cs 0)/\cut cs (off+i*9) 9=some (gs[i].au v)/\cs[off+i*9]? =some (.str gs[i].name)/\cs[off+i*9+5]? =some (.str gs[i].nJ):=by
 have hr:i<rows.length:=by rw[h.len];exact hi
 obtain⟨b,off,cap,cs,e,g1,g2⟩:=SN h.out.own h.out.row hr;obtain⟨v,e1,_,_⟩:=h.pZ i gs[i] rows[i] (H4 hi) (H4 hr);refine⟨b,off,cap,cs,v,e,g1,?_,?_,?_⟩
 .rw[<-e1];exact Pc (h.out.row _ (Zb9 hr)) (by omega) g2
 . have:=g2 0 (.str gs[i].name) (by rw[e1];rfl)
   rwa [Zf0]at this
 .exact g2 5 (.str gs[i].nJ) (by rw[e1];rfl)
theorem QS.abE{R:Type}{es:Nat}{s:St}{v:AV}{rows:List (List AV)}(h:QS es s v rows)(K:AV->Option R):fJ (.lenB .l) [v] K=K (.int .i64 (rows.length:Int)):=by
 rcases h with⟨rfl,rfl⟩|⟨b,off,cap,cs,rfl,_⟩|⟨b,off,rfl,rfl⟩<;>exact dP K (λH n=>rfl)
abbrev dX(k w:Int)(a b t:List Nat)(n:Int):List AV:=[.int .u8 k,.int .i64 w,.str a,.str b,.str t,.int .i64 n]
theorem acw(k w n w':Int)(a b t:List Nat)(s:St)(K:AV->St->Option (AV×St)):ak c (.store 1) [.ptr s.next 1,.int .i64 w'] (af s (.cells (dX k w a b t n) 0)) K=K .undef (af s (.cells (dX k w' a b t n) 0)):=iG s _ 1 (.int .i64 w') (by simp) rfl rfl K
theorem UR(k w n:Int)(a b t u:List Nat)(s:St)(K:AV->St->Option (AV×St)):ak c (.store 1) [.ptr s.next 2,.str u] (af s (.cells (dX k w a b t n) 0)) K=K .undef (af s (.cells (dX k w u b t n) 0)):=iG s _ 2 (.str u) (by simp) rfl rfl K
theorem acy(k w n:Int)(a b t u:List Nat)(s:St)(K:AV->St->Option (AV×St)):ak c (.store 1) [.ptr s.next 3,.str u] (af s (.cells (dX k w a b t n) 0)) K=K .undef (af s (.cells (dX k w a u t n) 0)):=iG s _ 3 (.str u) (by simp) rfl rfl K
theorem US(k w n:Int)(a b t u:List Nat)(s:St)(K:AV->St->Option (AV×St)):ak c (.store 1) [.ptr s.next 4,.str u] (af s (.cells (dX k w a b t n) 0)) K=K .undef (af s (.cells (dX k w a b u n) 0)):=iG s _ 4 (.str u) (by simp) rfl rfl K
theorem zL(k w n n':Int)(a b t:List Nat)(s:St)(K:AV->St->Option (AV×St)):ak c (.store 1) [.ptr s.next 5,.int .i64 n'] (af s (.cells (dX k w a b t n) 0)) K=K .undef (af s (.cells (dX k w a b t n') 0)):=iG s _ 5 (.int .i64 n') (by simp) rfl rfl K
theorem ac3{ts:List aL}(h:∀t∈ts,0<iU t.sh t.a t.b/\iU t.sh t.a t.b<=1000){t:Nat}(ht:t<ts.length):uo ts t=iU ts[t].sh ts[t].a ts[t].b/\0<uo ts t/\uo ts t<=1000:=by
 have e:uo ts t=iU ts[t].sh ts[t].a ts[t].b:=by unfold uo;rw[H4 ht]
 rw[e];exact⟨rfl,h _ (Zb9 ht)⟩
theorem abe (hc : bU c){s0 s:St}{V1 V2 V3 V4 V5:AV}{ts:List aL}{gs:List aO}{r1 r2:List (List AV)}(hT:TS s0 s V1 ts r1)(hG:GS s0 s V2 gs r2)(lt:ts.length<=1000)(lg:gs.length<=1000)
   (hz:∀t∈ts,0<iU t.sh t.a t.b/\iU t.sh t.a t.b<=1000) (ha:∀t∈ts,(0<=t.a/\t.a<=1000000)/\0<=t.b/\t.b<=1000000) (x:Nat) (hx:x<4294967296):
   c 24 [.agg [V1,V2,V3,V4,V5],.int .i64 (x:Int)] s=some (.tuple [.agg (eM ts gs x).1.cells,.bool (eM ts gs x).2],s):=by
 have hw:=hT.out.aA.wf;have plain:∀(r:Rl)(b:Bool),Plain (.tuple [.agg r.cells,.bool b]):=λr b=>Plain.tuple λv hv=>by
   simp only[Za9,Ze4,Zj0]at hv;rcases hv with rfl|rfl
   .exact Plain.agg λv hv=>by simp only[Rl.cells,Za9,Ze4,Zj0]at hv;rcases hv with rfl|rfl|rfl|rfl|rfl|rfl<;>first|exact Plain.int _ _|exact Plain.str _
   .exact Plain.bool _
 suffices key:∃s',iw c 1 (.agg [V1,V2,V3,V4,V5]) (.int .i64 (x:Int)) s=some (.tuple [.agg (eM ts gs x).1.cells,.bool (eM ts gs x).2],s')/\bF s s' by
   obtain⟨s',k1,k2⟩:=key;rw[Cy hc 1 (r:=(.tuple [.agg (eM ts gs x).1.cells,.bool (eM ts gs x).2],s')) k1,aK (plain _ _) k2]
 have dI:Wf (af s (.cells [V1,V2,V3,V4,V5] 0)):=bR hw;have g1:=Grew.af hw (.cells [V1,V2,V3,V4,V5] 0);have nu:Wf (af (af s (.cells [V1,V2,V3,V4,V5] 0)) (.cells (dX 0 0 [] [] [] 0) 0)):=bR dI;have g2:=Grew.af dI (.cells (dX 0 0 [] [] [] 0) 0);have g12:=g1.trans g2;obtain⟨s2,xL⟩:∃s2,s2=af (af s (.cells [V1,V2,V3,V4,V5] 0)) (.cells (dX 0 0 [] [] [] 0) 0):=⟨_,rfl⟩
 obtain⟨p4,hp4⟩:∃p4,p4=(af s (.cells [V1,V2,V3,V4,V5] 0)).next:=⟨_,rfl⟩
 have abf:Wf s2:=by rw[xL];exact nu
 have Wb:Grew s s2:=by rw[xL];exact g12
 have b2:s2.heap.get s.next=some (.cells [V1,V2,V3,V4,V5] 0):=by rw[xL];exact g2.get (aC _ _)
 have b4:s2.heap.get p4=some (.cells (dX 0 0 [] [] [] 0) 0):=by rw[xL,hp4];exact aC _ _
 have n4:s.next.toNat<p4.toNat:=by rw[hp4,c9,Pos.az];omega
 have n6:p4.toNat<s2.next.toNat:=abf _ _ b4;have gS:∀b:AB,Grew s2 (af s2 b):=λb=>Grew.af abf b
 have hP:∀b:AB,(af s2 b).heap.get s.next=some (.cells [V1,V2,V3,V4,V5] 0):=λb=>(gS b).get b2
 have hX:∀b:AB,(af s2 b).heap.get p4=some (.cells (dX 0 0 [] [] [] 0) 0):=λb=>(gS b).get b4
 have fin:∀(k w n:Int)(a b t:List Nat)(K:AV->St->Option (AV×St)),ak c (.store 6) [.ptr p4 0,.agg (dX k w a b t n)] (af s2 (.cells (dX k w a b t n) 0)) K=K .undef (cv (af s2 (.cells (dX k w a b t n) 0)) p4 (.cells (dX k w a b t n) 0)):=λk w n a b t K=>by rw[dU c K _ 6 p4 0 (.agg (dX k w a b t n)) _ (hX _) rfl (by simp) rfl];rfl
 have kp:∀(k w n:Int)(a b t:List Nat),bF s (cv (af s2 (.cells (dX k w a b t n) 0)) p4 (.cells (dX k w a b t n) 0)):=λk w n a b t q y hq=>by have:=hw _ _ hq;rw[bt (λe=>by subst e;omega)];exact(Wb.trans (gS _)).get hq
 have cu:∀(k w n:Int)(a b t:List Nat),cut (dX k w a b t n) 0 6=some (dX k w a b t n):=λk w n a b t=>bI rfl
 obtain⟨Q,hQ⟩:∃Q:Option (AV×St)->Prop,Q=λo=>∃s',o=some (.tuple [.agg (eM ts gs x).1.cells,.bool (eM ts gs x).2],s')/\bF s s':=⟨_,rfl⟩
 have wW:∀(k w n:Int)(a b t:List Nat)(bb:Bool),(⟨k,w,a,b,t,n⟩:Rl)=(eM ts gs x).1->bb=(eM ts gs x).2->Q (some (.tuple [.agg (dX k w a b t n),.bool bb],cv (af s2 (.cells (dX k w a b t n) 0)) p4 (.cells (dX k w a b t n) 0))):=λk w n a b t bb h1 h2=>by
   rw[hQ];exact⟨_,by rw[<-h1, <-h2];rfl,kp _ _ _ _ _ _⟩
 have MD:Q (iw c 1 (.agg [V1,V2,V3,V4,V5]) (.int .i64 (x:Int)) s)->∃s',iw c 1 (.agg [V1,V2,V3,V4,V5]) (.int .i64 (x:Int)) s=some (.tuple [.agg (eM ts gs x).1.cells,.bool (eM ts gs x).2],s')/\bF s s':=λh=>by rw[hQ]at h;exact h
 apply MD;clear MD;obtain⟨r,hr⟩:∃r:Nat,r=x % 18:=⟨_,rfl⟩
 obtain⟨k,hk⟩:∃k:Nat,k=1+x % 18:=⟨_,rfl⟩
 obtain⟨y,hy⟩:∃y:Nat,y=x / 18:=⟨_,rfl⟩
 obtain⟨y5,hy5⟩:∃y5:Nat,y5=y % 5:=⟨_,rfl⟩
 obtain⟨y7,hy7⟩:∃y7:Nat,y7=y % 7:=⟨_,rfl⟩
 obtain⟨z,hz5⟩:∃z:Nat,z=y / 5:=⟨_,rfl⟩
 obtain⟨w,YX⟩:∃w:Nat,w=HL y:=⟨_,rfl⟩
 have E1:(x:Int) % 18=(r:Int):=by omega
 have W1:ax .i64 (1+(r:Int))=(k:Int):=(wrap64 (by omega) (by omega)).trans (by omega);have W8:ax .u8 (k:Int)=(k:Int):=xk (by omega) (by omega);have E2:(x:Int) / 18=(y:Int):=by omega
 have E3:(y:Int) % 5=(y5:Int):=by omega
 have E4:(y:Int) % 7=(y7:Int):=by omega
 have W2:ax .i64 (1+(y7:Int))=1+(y7:Int):=wrap64 (by omega) (by omega);have E5:(y:Int) / 5=(z:Int):=by omega
 obtain⟨g,hg⟩:∃g,g=gs.length:=⟨_,rfl⟩
 obtain⟨T,hTl⟩:∃T,T=ts.length:=⟨_,rfl⟩
 have pl2:∀(K:AV->Option (AV×St)),fJ (.lenB .l) [V2] K=K (.int .i64 (g:Int)):=λK=>by rw[hg, <-hG.len];exact QS.abE hG.out.own K
 have pl1:∀(K:AV->Option (AV×St)),fJ (.lenB .l) [V1] K=K (.int .i64 (T:Int)):=λK=>by rw[hTl, <-hT.len];exact QS.abE hT.out.own K
 have OJ:∀(l:List AV)(K:AV->Option (AV×St)),kW (.load none) [.ptr s.next (0+1)] (af s2 (.cells l 0)).heap (λ_=>true) K=K V2:=λl K=>by rw[oC,hP];rfl
 have rd0:∀(l:List AV)(K:AV->Option (AV×St)),kW (.load none) [.ptr s.next (0+0)] (af s2 (.cells l 0)).heap (λ_=>true) K=K V1:=λl K=>by rw[oC,hP];rfl
 have UQ:∀(k':Int)(s':St)(K:AV->St->Option (AV×St)),ak c (.build [.int .u8 0,.int .i64 0,.str [],.str [],.str [],.int .i64 0] [(0,1)]) [.int .u8 k'] s' K=K (.agg (dX k' 0 [] [] [] 0)) s':=λk' s' K=>rfl
 have sto0:∀(k':Int)(K:AV->St->Option (AV×St)),ak c (.store 6) [.ptr s2.next 0,.agg (dX k' 0 [] [] [] 0)] (af s2 (.cells (dX 0 0 [] [] [] 0) 0)) K=K .undef (af s2 (.cells (dX k' 0 [] [] [] 0) 0)):=λk' K=>dx c K s2 6 (.agg (dX k' 0 [] [] [] 0)) (dX 0 0 [] [] [] 0) rfl rfl rfl
 rw[ET];rw[pH,jk,show AV.cells (.agg [V1,V2,V3,V4,V5])=[V1,V2,V3,V4,V5]from rfl, <-xL, <-hp4,aE,aE,bO (by omega) (by omega),E1,pF,W1,Ki,W8,UQ,jk,sto0,aE,eW (by omega) (by omega) (by omega),E2,aE];refine qy (P:=λj=>Q (j [.int .i64 (y:Int),.ptr s.next 0,.ptr p4 0,.ptr s2.next 0] (af s2 (.cells (dX k w [] [] [] 0) 0)))) ?_ ?_
 . rw[  aF, aF, aF, aF,cX,aE,eW (by omega) (by omega) (by omega),E5,aE,bl,OJ,pl2,bl,rd0,pl1,dM,dM,aE,fo,aE];by_cases hg0:g=0
   . rw[H5 (show(g:Int)=0 by omega),XA,XA,Vw,iO];have hR:eM ts gs x=(⟨(k:Int),(w:Int),[],[],[],0⟩,false):=by
        unfold eM;rw[Za8 (.inl (by omega)), <-hk, <-hy, <-YX]
     have:=wW k w 0 [] [] [] false (by rw[hR]) (by rw[hR]);simp[cu,fin];exact this
   rw[Za2 (show ¬(g:Int)=0 by omega),tU,aE,tU,fo,Vx];by_cases hT0:T=0
   . rw[H5 (show(T:Int)=0 by omega),iO];have hR:eM ts gs x=(⟨(k:Int),(w:Int),[],[],[],0⟩,false):=by
        unfold eM;rw[Za8 (.inr (by omega)), <-hk, <-hy, <-YX]
     have:=wW k w 0 [] [] [] false (by rw[hR]) (by rw[hR]);simp[cu,fin];exact this
   rw[Za2 (show ¬(T:Int)=0 by omega),lF];obtain⟨a,ea⟩:∃a:Nat,a=z % g:=⟨_,rfl⟩
   obtain⟨zg,ezg⟩:∃zg:Nat,zg=z / g:=⟨_,rfl⟩
   obtain⟨b,eb⟩:∃b:Nat,b=zg % g:=⟨_,rfl⟩
   obtain⟨z7,ez7⟩:∃z7:Nat,z7=z / 7:=⟨_,rfl⟩
   obtain⟨t,et⟩:∃t:Nat,t=z7 % T:=⟨_,rfl⟩
   obtain⟨YY,ez11⟩:∃YY:Nat,YY=z / 11:=⟨_,rfl⟩
   obtain⟨n,en⟩:∃n:Nat,n=YY % 4:=⟨_,rfl⟩
   have hR:eM ts gs x=EG ts gs k w a b t n z:=by
     unfold eM;rw[Za5 (by omega), <-hk, <-hy, <-YX, <-hz5, <-hg, <-hTl, <-ea, <-ezg, <-eb, <-ez7, <-et, <-ez11, <-en]
   have Ea:(z:Int) % (g:Int)=(a:Int):=(by rw[ea];exact(Zm7 _ _).symm);have Ezg:(z:Int) / (g:Int)=(zg:Int):=(by rw[ezg];exact(Int.natCast_ediv _ _).symm);have Eb:(zg:Int) % (g:Int)=(b:Int):=(by rw[eb];exact(Zm7 _ _).symm);have Ez7:(z:Int) / 7=(z7:Int):=(by omega);have Et:(z7:Int) % (T:Int)=(t:Int):=(by rw[et];exact(Zm7 _ _).symm);have Ez11:(z:Int) / 11=(YY:Int):=(by omega);have En:(YY:Int) % 4=(n:Int):=(by omega);have za:a<g:=(by rw[ea];exact Zi6 _ (by omega));have zb:b<g:=(by rw[eb];exact Zi6 _ (by omega));have zt:t<T:=(by rw[et];exact Zi6 _ (by omega));have gp:0<(g:Int):=(by omega);have Tp:0<(T:Int):=(by omega);rw[dM,dM,Ey (by omega) gp,Ea,dM,dM,RB (by omega) (by omega) gp,Ezg,dM,Ey (by omega) gp,Eb,dM,RB (by omega) (by omega) (by omega),Ez7,dM,Ey (by omega) Tp,Et,dM,dM,dM,
     aE,eW (by omega) (by omega) (by omega),Ez11,bO (by omega) (by omega),En,aE]
   (clear Ea Ezg Eb Ez7 Et Ez11 En ea ezg eb ez7 et ez11;have sy:1<=k:=(by omega);have lK:k<=18:=(by omega);obtain⟨bA,oA,U8,csA,vA,eA,hA,_,nA,dA⟩:=hG.row (i:=a) (by omega);obtain⟨bB,oB,capB,csB,vB,eB,hB,_,nB,_⟩:=hG.row (i:=b) (by omega);obtain⟨bT,oT,capT,csT,vT,eT,hTb,cT,nT⟩:=hT.row (i:=t) (by omega);have gA:gs[a].name=j5 gs a/\gs[a].nJ=xX gs a:=(by unfold j5 xX;rw[H4 (by omega)];exact⟨rfl,rfl⟩);have gB:gs[b].name=j5 gs b:=(by unfold j5;rw[H4 (by omega)]);have gT:ts[t].name=qO ts t:=(by unfold qO;rw[H4 (by omega)]);rw[gA.1]at nA;rw[gA.2]at dA;rw[gB]at nB;rw[gT]at nT;have Wc:∀l:List AV,(af s2 (.cells l 0)).heap.get bA=some (.cells csA 0):=λl=>(gS _).get (Wb.get hA));have abF:∀l:List AV,(af s2 (.cells l 0)).heap.get bB=some (.cells csB 0):=λl=>(gS _).get (Wb.get hB)
   have heapT:∀l:List AV,(af s2 (.cells l 0)).heap.get bT=some (.cells csT 0):=λl=>(gS _).get (Wb.get hTb)
   have ixA:∀(K:AV->Option (AV×St)),fJ (.idxA 9 none) [V2,.int .i64 (a:Int)] K=K (.ptr bA (oA+a*9)):=λK=>by rw[eA];exact BR K (by rw[hG.len];omega)
   have ixB:∀(K:AV->Option (AV×St)),fJ (.idxA 9 none) [V2,.int .i64 (b:Int)] K=K (.ptr bB (oB+b*9)):=λK=>by rw[eB];exact BR K (by rw[hG.len];omega)
   have ixT:∀(K:AV->Option (AV×St)),fJ (.idxA 7 none) [V1,.int .i64 (t:Int)] K=K (.ptr bT (oT+t*7)):=λK=>by rw[eT];exact BR K (by rw[hT.len];omega)
   have sxA:∀(K:AV->St->Option (AV×St))(s':St),ak c (.idxA 9 none) [V2,.int .i64 (a:Int)] s' K=K (.ptr bA (oA+a*9)) s':=λK s'=>by rw[eA];exact Aj c K s' (by rw[hG.len];omega)
   have sxT:∀(K:AV->St->Option (AV×St))(s':St),ak c (.idxA 7 none) [V1,.int .i64 (t:Int)] s' K=K (.ptr bT (oT+t*7)) s':=λK s'=>by rw[eT];exact Aj c K s' (by rw[hT.len];omega)
   have cA:=λ(l l':List AV)(K:AV->Option (AV×St))=>wH K (o:=1) (v:=V2) (h:=(af s2 (.cells l 0)).heap) (h2:=(af s2 (.cells l' 0)).heap) (p:=s.next) (by rw[hP];rfl) (by rw[hP];rfl) hG.out.own.beq
   have cP:=λ(l l':List AV)(K:AV->Option (AV×St))=>wH K (o:=0) (v:=V1) (h:=(af s2 (.cells l 0)).heap) (h2:=(af s2 (.cells l' 0)).heap) (p:=s.next) (by rw[hP];rfl) (by rw[hP];rfl) hT.out.own.beq
   have sb:∀u:List Nat,eH (.str u) (.str u)=true:=λu=>by simp[eH,j6,fO,jV.2 rfl]
   clear eA eB eT;generalize oA+a*9=qA at*
   generalize oB+b*9=qB at*
   generalize oT+t*7=qT at*
   have cB:=λ(l l':List AV)(K:AV->Option (AV×St))=>wH K (o:=qB+0) (v:= .str (j5 gs b)) (h:=(af s2 (.cells l 0)).heap) (h2:=(af s2 (.cells l' 0)).heap) (p:=bB) (by rw[abF];exact nB) (by rw[abF];exact nB) (sb _)
   have cTn:=λ(l l':List AV)(K:AV->Option (AV×St))=>wH K (o:=qT+0) (v:= .str (qO ts t)) (h:=(af s2 (.cells l 0)).heap) (h2:=(af s2 (.cells l' 0)).heap) (p:=bT) (by rw[heapT];exact nT) (by rw[heapT];exact nT) (sb _)
   have rdA:∀(l:List AV)(K:AV->Option (AV×St)),kW (.load none) [.ptr bA (qA+0)] (af s2 (.cells l 0)).heap (λ_=>true) K=K (.str (j5 gs a)):=λl K=>by rw[oC,Wc,Zf0,show(cellsOf (some (.cells csA 0))).bind (λcs=>cs[qA]?)=some (.str (j5 gs a))from nA];rfl
   have su2:∀(k w n:Int)(a b t u:List Nat)(K:AV->St->Option (AV×St)),ak c (.store 1) [.ptr s2.next (0+2),.str u] (af s2 (.cells (dX k w a b t n) 0)) K=K .undef (af s2 (.cells (dX k w u b t n) 0)):=λk w n a b t u K=>UR k w n a b t u s2 K
   have su3:∀(k w n:Int)(a b t u:List Nat)(K:AV->St->Option (AV×St)),ak c (.store 1) [.ptr s2.next (0+3),.str u] (af s2 (.cells (dX k w a b t n) 0)) K=K .undef (af s2 (.cells (dX k w a u t n) 0)):=λk w n a b t u K=>acy k w n a b t u s2 K
   have su4:∀(k w n:Int)(a b t u:List Nat)(K:AV->St->Option (AV×St)),ak c (.store 1) [.ptr s2.next (0+4),.str u] (af s2 (.cells (dX k w a b t n) 0)) K=K .undef (af s2 (.cells (dX k w a b u n) 0)):=λk w n a b t u K=>US k w n a b t u s2 K
   have Pd:∀(k w n:Int)(a b t:List Nat)(K:AV->St->Option (AV×St)),ak c (.load none) [.ptr s2.next (0+0)] (af s2 (.cells (dX k w a b t n) 0)) K=K (.int .u8 k) (af s2 (.cells (dX k w a b t n) 0)):=λk w n a b t K=>by rw[iP,aC];rfl
   refine qy (P:=λj=>¬(k=1\/k=2\/k=3\/k=4\/k=5\/k=6\/k=7\/k=10\/k=17)->Q (j [.int .i64 (z:Int),.ptr s.next 0,.ptr p4 0,.ptr s2.next 0,.int .i64 (t:Int)] (af s2 (.cells (dX k w [] [] [] (if k=15\/k=16 then(n:Int)else 0)) 0)))) ?_ ?_
   . intro hns;obtain⟨z3,e3⟩:∃z3:Nat,z3=z % 3:=⟨_,rfl⟩
     have E6:(z:Int) % 3=(z3:Int):=(by omega);have hf:=hR;unfold EG at hf;rw[Za5 (by omega),Za5 (by omega),Za5 (by omega),Za5 (by omega), <-e3]at hf;obtain⟨n',Q3⟩:∃n':Int,n'=(if k=15\/k=16 then(n:Int)else 0):=⟨_,rfl⟩
     rw[<-Q3]at hf ⊢;by_cases h3:0<z3
     .  have hd:decide (0<z3)=true:=H5 h3;rw[Za8 h3]at hf;have:=wW k w n' [] [] (qO ts t) true (by rw[hf]) (by rw[hf]);simp (disch:=omega) [-eE,fA,Zb0,bO,E6,hd,hP,sxT,heapT,nT,US,cu,fin,ej];exact this
     .  have hd:decide (0<z3)=false:=Za2 h3;rw[Za5 h3]at hf;have:=wW k w n' [] [] [] true (by rw[hf]) (by rw[hf]);simp (disch:=omega) [-eE,fA,bO,E6,hd,cu,fin,ej];exact this
   . intro  j40 SP;rw[cU,Pd];refine qy (P:=λj=>Q (j [.int .i64 (z:Int),.ptr s.next 0,.ptr p4 0,.ptr s2.next 0,.int .i64 (a:Int),.int .i64 (b:Int),.int .i64 (t:Int),.int .i64 (n:Int),.int .u8 (k:Int),.bool (decide (k=1\/k=2\/k=3\/k=4\/k=5))] (af s2 (.cells (dX k w [] [] [] 0) 0)))) ?_ ?_
     .  rw[ aF, aF, aF,aF,aF,aF,aF,aF,aF,aF,cX];by_cases h5:k=1\/k=2\/k=3\/k=4\/k=5
        . rw[ H5 h5,iO];have hf:=hR;unfold EG at hf;rw[Za8 h5]at hf;have fF:Q (some (.tuple [.agg (dX k w (j5 gs a) (j5 gs b) [] (if k=4 then(n:Int)+1 else if k=1 then(n:Int)else 0)),.bool (!decide ((a:Int)=(b:Int)))],cv (af s2 (.cells (dX k w (j5 gs a) (j5 gs b) [] (if k=4 then(n:Int)+1 else if k=1 then(n:Int)else 0)) 0)) p4 (.cells (dX k w (j5 gs a) (j5 gs b) [] (if k=4 then(n:Int)+1 else if k=1 then(n:Int)else 0)) 0))):=
            wW k w _ (j5 gs a) (j5 gs b) [] _ (by rw[hf];rfl) (by rw[hf];simp;omega)
          have wn:ax .i64 ((n:Int)+1)=(n:Int)+1:=wrap64 (by omega) (by omega);clear wW SP;rw[bl,OJ,dM,ixA,bl,rdA,bl,su2,bl,cA,dM,ixB,bl,cB,bl,su3];refine qy (P:=λj=>Q (j [.ptr p4 0,.ptr s2.next 0,.int .i64 (a:Int),.int .i64 (b:Int)] (af s2 (.cells (dX k w (j5 gs a) (j5 gs b) [] (if k=1\/k=4 then(n:Int)else 0)) 0)))) ?_ ?_
          . rw[ aF,aF,aF,aF,cX];refine qy (P:=λj=>Q (j [.ptr p4 0,.ptr s2.next 0,.int .i64 (a:Int),.int .i64 (b:Int)] (af s2 (.cells (dX k w (j5 gs a) (j5 gs b) [] (if k=4 then(n:Int)+1 else if k=1 then(n:Int)else 0)) 0)))) ?_ ?_
            . generalize (if k=4 then(n:Int)+1 else if k=1 then(n:Int)else 0)=n6 at*
              simp[cu,fin,ej];exact fF
            . intro j hj;by_cases h4:k=4
              .have hd:decide ((k:Int)=4)=true:=H5 (by omega);rw[Za8 h4]at hj;rw[Za8 (.inr h4),cU,Pd,fo,hd,iO];simp[wn,zL];exact hj
              .have hd:decide ((k:Int)=4)=false:=Za2 (by omega);rw[Za5 h4]at hj;rw[show(if k=1\/k=4 then(n:Int)else 0)=(if k=1 then(n:Int)else 0)by by_cases h1:k=1<;>simp[h1,h4],cU,Pd,fo,hd,lF];exact hj
          . intro j hj;rw[cU,Pd,fo,aE];by_cases h1:k=1
            .rw[Za8 (.inl h1)]at hj;rw[H5 (show(k:Int)=1 by omega)];simp[zL];exact hj
            . rw[Za2 (show ¬(k:Int)=1 by omega)];by_cases h4:k=4
              .rw[Za8 (.inr h4)]at hj;have hd:decide ((k:Int)=4)=true:=H5 (by omega);rw[tU,cU,tU,Pd,tU,fo,hd];simp[zL];exact hj
              .rw[Za5 (by omega)]at hj;have hd:decide ((k:Int)=4)=false:=Za2 (by omega);rw[tU,cU,tU,Pd,tU,fo,hd];simp;exact hj
        . rw[ Za2 h5, lF];refine qy (P:=λj=>Q (j [.int .i64 (z:Int),.ptr s.next 0,.ptr p4 0,.ptr s2.next 0,.int .i64 (a:Int),.int .i64 (t:Int),.int .i64 (n:Int),.int .u8 (k:Int),.bool (decide (k=6\/k=7))] (af s2 (.cells (dX k w [] [] [] 0) 0)))) ?_ ?_
          . rw[ aF, aF,aF,aF,aF,aF,aF,aF,aF,cX];by_cases YZ:k=6\/k=7
            . rw[ H5 YZ,iO];have hf:=hR;unfold EG at hf;rw[Za5 h5,Za8 YZ]at hf;obtain⟨sz1,sz2,sz3⟩:=ac3 hz (t:=t) (by omega);obtain⟨ha1,ha2⟩:=ha _ (Zb9 (show t<ts.length by omega));obtain⟨ME,e13⟩:∃ME:Nat,ME=z / 13:=⟨_,rfl⟩
              have E13:(z:Int) / 13=(ME:Int):=(by omega);rw[<-e13]at hf;have SZ:∀l:List AV,c 22 [.agg (ts[t].au vT)] (af s2 (.cells l 0))=some (.int .i64 (uo ts t),af s2 (.cells l 0)):=λl=>by rw[sz1];exact An hc rfl rfl rfl ha1 ha2 _ (bR abf)
              have fF:Q (some (.tuple [.agg (dX k w (j5 gs a) [] (qO ts t) (if k=7 then(ME:Int) % uo ts t else 0)),.bool true],cv (af s2 (.cells (dX k w (j5 gs a) [] (qO ts t) (if k=7 then(ME:Int) % uo ts t else 0)) 0)) p4 (.cells (dX k w (j5 gs a) [] (qO ts t) (if k=7 then(ME:Int) % uo ts t else 0)) 0))):=
                wW k w _ (j5 gs a) [] (qO ts t) _ (by rw[hf]) (by rw[hf])
              clear wW SP;rw[bl,OJ,dM,ixA,bl,rdA,bl,su2,bl,cP,dM,ixT,bl,cTn,bl,su4];refine qy (P:=λj=>Q (j [.ptr p4 0,.ptr s2.next 0] (af s2 (.cells (dX k w (j5 gs a) [] (qO ts t) (if k=7 then(ME:Int) % uo ts t else 0)) 0)))) ?_ ?_
              . generalize (if k=7 then(ME:Int) % uo ts t else 0)=n6 at*
                simp[cu,fin,ej];exact fF
              . intro j hj;by_cases h7:k=7
                . have hd:decide ((k:Int)=7)=true:=H5 (by omega);rw[Za8 h7]at hj;have q:=λ(K:AV->St->Option (AV×St))(s':St)=>bO (c:=c) (k:= .i64) (a:=(ME:Int)) (b:=uo ts t) (by omega) sz2 s' K
                  generalize uo ts t=Z at*
                  rw[cU,Pd,fo,hd,iO,aE,eW (by omega) (by omega) (by omega),E13];simp[-eE,q,hP,sxT,heapT,cT,SZ,zL];exact hj
                .have hd:decide ((k:Int)=7)=false:=Za2 (by omega);rw[Za5 h7]at hj;rw[cU,Pd,fo,hd,lF];exact hj
            . rw[ Za2 YZ,lF,fo,aE];by_cases h10:k=10
              . have hf:=hR;unfold EG at hf;rw[Za5 h5,Za5 YZ,Za8 h10]at hf;obtain⟨z3,e3⟩:∃z3:Nat,z3=z % 3:=⟨_,rfl⟩
                have E6:(z:Int) % 3=(z3:Int):=(by omega);rw[<-e3]at hf;rw[H5 (show(k:Int)=10 by omega),iO];by_cases h3:z3=0
                .have hd:decide ((z3:Int)=0)=true:=H5 (by omega);rw[Za8 h3]at hf;have fF:=wW k w 0 (j5 gs a) [] [] true (by rw[hf]) (by rw[hf]);rw[qw,aE,bO (by omega) (by omega),E6,fo,hd,iO];simp[hP,sxA,Wc,nA,UR,cu,fin,ej];exact fF
                .have hd:decide ((z3:Int)=0)=false:=Za2 (by omega);rw[Za5 h3]at hf;have fF:=wW k w 0 [] [] [] true (by rw[hf]) (by rw[hf]);rw[qw,aE,bO (by omega) (by omega),E6,fo,hd,lF];simp[cu,fin,ej];exact fF
              . rw[ Za2 (show ¬(k:Int)=10 by omega),lF,fo,aE];by_cases h17:k=17
                . have hf:=hR;unfold EG at hf;rw[Za5 h5,Za5 YZ,Za5 h10,Za8 h17]at hf;rw[H5 (show(k:Int)=17 by omega),iO];have fF:=wW k w 0 (xX gs a) [] (qO ts t) (!decide (xX gs a=[])) (by rw[hf]) (by rw[hf];simp);have n46:p4≠s2.next:=λe=>by subst e;omega
                  have cD:=λ(K:AV->Option (AV×St))=>wH K (o:=0+2) (v:= .str (xX gs a)) (h:=(cv (af s2 (.cells (dX k w (xX gs a) [] (qO ts t) 0) 0)) p4 (.cells (dX k w (xX gs a) [] (qO ts t) 0) 0)).heap) (h2:=(af s2 (.cells (dX k w (xX gs a) [] (qO ts t) 0) 0)).heap) (p:=s2.next) (by rw[bt n46,aC];rfl) (by rw[aC];rfl) (sb _)
                  have rdD:∀(l:List AV)(K:AV->Option (AV×St)),kW (.load none) [.ptr bA (qA+5)] (af s2 (.cells l 0)).heap (λ_=>true) K=K (.str (xX gs a)):=λl K=>by rw[oC,Wc,show(cellsOf (some (.cells csA 0))).bind (λcs=>cs[qA+5]?)=some (.str (xX gs a))from dA];rfl
                  have rdR:∀(K:AV->Option (AV×St)),kW (.load (some 6)) [.ptr s2.next 0] (af s2 (.cells (dX k w (xX gs a) [] (qO ts t) 0) 0)).heap (λ_=>true) K=K (.agg (dX k w (xX gs a) [] (qO ts t) 0)):=λK=>by rw[Cj,aC];rfl
                  rw[bl,OJ,dM,ixA,bl,rdD,bl,su2,bl,cP,dM,ixT,bl,cTn,bl,su4,rdR,fin,bl,cD,Z3,dM,Rs,ej];exact fF
                . rw[ Za2 (show ¬(k:Int)=17 by omega),lF];have hj:=SP (by omega);clear SP wW;by_cases h15:k=15
                  .have hd:decide ((k:Int)=15)=true:=H5 (by omega);rw[Za8 (.inl h15)]at hj;rw[qw,fo,aE,hd,iO];simp[zL];exact hj
                  . have hd:decide ((k:Int)=15)=false:=Za2 (by omega);by_cases h16:k=16
                    .have Lo:decide ((k:Int)=16)=true:=H5 (by omega);rw[Za8 (.inr h16)]at hj;rw[qw,fo,aE,hd,lF,fo,aE,Lo];simp[zL];exact hj
                    .have Lo:decide ((k:Int)=16)=false:=Za2 (by omega);rw[Za5 (by omega)]at hj;rw[qw,fo,aE,hd,lF,fo,aE,Lo];simp;exact hj
          . intro j hj;by_cases h6:k=6
            .rw[H5 (.inl h6)]at hj;rw[fo,aE,H5 (show(k:Int)=6 by omega),iO];exact hj
            .rw[fo,aE,Za2 (show ¬(k:Int)=6 by omega),lF,fo,aE];rw[show decide ((k:Int)=7)=decide (k=6\/k=7)by rw[decide_eq_decide];omega];exact hj
     .  intro j hj;clear wW SP hR;rcases Us sy lK with rfl|rfl|rfl|rfl|rfl|rfl|rfl|rfl|rfl|rfl|rfl|rfl|rfl|rfl|rfl|rfl|rfl|rfl
        all_goals
          simp at hj ⊢;exact hj
 . intro j hj;by_cases h1:1<y5
   .have e:((w:Nat):Int)=1+(y7:Int):=(by rw[YX];unfold HL;rw[Za8 (by omega)];omega);rw[e]at hj;have hd:decide ((1:Int)<(y5:Int))=true:=H5 (by omega);simp (disch:=omega) [-eE,bO,E3,E4,hd,W2,acw];exact hj
   .have e:((w:Nat):Int)=0:=(by rw[YX];unfold HL;rw[Za5 (by omega)];rfl);rw[e]at hj;have hd:decide ((1:Int)<(y5:Int))=false:=Za2 (by omega);simp (disch:=omega) [-eE,bO,E3,hd];exact hj
structure KX(p:Pos)(sA s:St):Prop where
 wf:Wf s
 next:sA.next.toNat<=s.next.toNat
 keep:∀(b:Pos)(x:AB),b≠p->sA.heap.get b=some x->s.heap.get b=some x
theorem KX.refl{p:Pos}{s:St}(hw:Wf s):KX p s s:=⟨hw,Za4 _,λ_ _ _ h=>h⟩
theorem KX.trans{p:Pos}{a b d:St}(h:KX p a b)(g:KX p b d):KX p a d:=⟨g.wf,Zc4 h.next g.next,λq x hq hx=>g.keep q x hq (h.keep q x hq hx)⟩
theorem KX.aA{p:Pos}{a b d:St}(h:KX p a b)(g:Grew b d):KX p a d:=⟨g.wf,Zc4 h.next g.next,λq x hq hx=>g.get (h.keep q x hq hx)⟩
theorem KX.store{p:Pos}{a b:St}(h:KX p a b)(hp:p.toNat<b.next.toNat)(x:AB):KX p a (cv b p x):=
 ⟨C7 h.wf hp,h.next,λq y hq hy=>by rw[bt (λe=>hq e.symm)];exact h.keep q y hq hy⟩
def TS.mH(n:Nat)(V:AV)(rows:List (List AV)):Prop:=(∀b,bg V=some b->n<=b.toNat)/\∀(i:Nat)(r:List AV)(v:AV)(b:Pos),rows[i]? =some r->r[4]? =some v->bg v=some b->n<=b.toNat
def GS.mH(n:Nat)(V:AV)(rows:List (List AV)):Prop:=(∀b,bg V=some b->n<=b.toNat)/\∀(i:Nat)(r:List AV)(v:AV)(b:Pos),rows[i]? =some r->r[8]? =some v->bg v=some b->n<=b.toNat
theorem Ap{st s:St}{p:Pos}(h0:Wf st)(h:Grew st s)(hp:st.next.toNat<=p.toNat)(vS:p.toNat<s.next.toNat)(b:AB):Grew st (cv s p b):=
 ⟨C7 h.wf vS,λq x hq=>by have:=h0 _ _ hq;rw[bt (λe=>by rw[e]at hp;omega)];exact h.get hq,by rw[Eu];exact h.next⟩
theorem TS.kx{st sA s:St}{p:Pos}{V:AV}{ts:List aL}{rows:List (List AV)}(h:TS st sA V ts rows)(k:KX p sA s)(g:Grew st s)(hs:TS.mH (p.toNat+1) V rows):TS st s V ts rows:=
 h.sY g λb x _ hb hx=>k.keep b x (λe=>by
  subst e;rcases hb with hb|⟨i,r,v,h1,h2,h3⟩
  .have:=hs.1 _ hb;omega
  .have:=hs.2 i r v _ h1 h2 h3;omega) hx
theorem GS.kx{st sA s:St}{p:Pos}{V:AV}{ts:List aO}{rows:List (List AV)}(h:GS st sA V ts rows)(k:KX p sA s)(g:Grew st s)(hs:GS.mH (p.toNat+1) V rows):GS st s V ts rows:=
 h.sY g λb x _ hb hx=>k.keep b x (λe=>by
  subst e;rcases hb with hb|⟨i,r,v,h1,h2,h3⟩
  .have:=hs.1 _ hb;omega
  .have:=hs.2 i r v _ h1 h2 h3;omega) hx
theorem Mk.kx{es:Nat}{st sA s:St}{p:Pos}{V:AV}{rows:List (List AV)}(h:Mk es st sA V rows)(k:KX p sA s)(g:Grew st s)(hs:∀b,bg V=some b->p.toNat+1<=b.toNat):Mk es st s V rows:=
 Mk.sY h g λb x hb hx=>k.keep b x (λe=>by subst e;have:=hs _ hb;omega) hx
theorem TS.push{st s:St}{V:AV}{ts:List aL}{rows:List (List AV)}(h:TS st s V ts rows){t:aL}{v:AV}(M:Mk 1 st s v (t.mE.map cW))(hv:∀b,bg v=some b->bg V≠some b)(hlen:ts.length<=1000):
   ∃s5 V5,(∀(K:AV->St->Option (AV×St)),ak c (.buildSlice 7 1 [.str [],.int .u8 0,.int .i64 0,.int .i64 0,.ah,.int .i64 0,.int .i64 0] [0]) [.agg (t.au v)] s (λy q=>ak c (.append 7 80) [V,y] q K)=K V5 s5)/\
    TS st s5 V5 (ts++[t]) (rows++[t.au v])/\(∀(p:Pos)(b:AB),bg V≠some p->s.heap.get p=some b->s5.heap.get p=some b)/\∀b,bg V5=some b->s.next.toNat<=b.toNat:=by
 have hl:=h.len;have hw:=h.out.aA.wf;obtain⟨s5,V5,a1,a2,a3,a4⟩:=h.out.push (c:=c) (R:=AV×St) (bytes:=80) (z:=[.str [],.int .u8 0,.int .i64 0,.int .i64 0,.ah,.int .i64 0,.int .i64 0]) (x:= .agg (t.au v)) rfl rfl (t.KA M.cells.2) (by decide) (by omega) (by omega);have small:∀(u:AV)(rw:List (List AV)),Mk 1 st s u rw->(∀b,bg u=some b->bg V≠some b)->Mk 1 st s5 u rw/\∀b,bg u=some b->bg V5≠some b:=λu rw hu cG=>
   ⟨Mk.sY hu a2.aA λb y hb hy=>a3 b y (cG b hb) hy,λb hb e=>by have p1:=a4 b e;have p2:=hu.own.lt hw hb;omega⟩
 refine⟨s5,V5,a1,⟨a2,by simp[hl],λi t' r hi hr=> ?_⟩,a3,a4⟩;by_cases Bs:i<ts.length
 .rw[Zc1 (by rw[hl];exact Bs)]at hr;rw[Zc1 Bs]at hi;obtain⟨u,e1,e2,e3⟩:=h.pZ i t' r hi hr;obtain⟨f1,f2⟩:=small u _ e2 e3;exact⟨u,e1,f1,f2⟩
 .have js:=(Za1.1 hi).1;simp at js;obtain rfl:i=ts.length:=(by omega);rw[Zc3 (by rw[hl];exact Za4 _)]at hr;rw[Zc3 (Za4 _)]at hi;simp[hl]at hr hi;subst hi;subst hr;obtain⟨f1,f2⟩:=small v _ M hv;exact⟨v,rfl,f1,f2⟩
def HM(s:List Nat):List AV:=[.str s]
def AO(x k:Nat):Bool:=decide (x / 2 ^ (6+2*k) % 4=1)
theorem ac4(x k:Nat):AO x k=decide (x / 2 ^ (6+2*k) % 4=1):=by rw[AO]
def wj(x k:Nat):List (List Nat):=((List.range k).filter (AO x)).map bn
theorem SQ(x k:Nat):wj x (k+1)=wj x k++(if AO x k=true then [bn k]else []):=by
 unfold wj;rw[Zi7,List.filter_append,Zd7];congr 1;cases h:AO x k with
 |true=>simp[h]
 |false=>simp[h]
theorem acz(x k:Nat):(wj x k).length<=k:=by have:=Zm2 (AO x) (List.range k);rw[Zo7]at this;unfold wj;rw[Zb2];exact this
structure GI(s0 s:St)(p8:Pos)(g:aO)(x k:Nat)(v:AV):Prop where
 out:Mk 1 s0 s v ((wj x k).map HM)
 h8:s.heap.get p8=some (.cells (g.au v) 0)
 n8:bg v≠some p8
theorem Tw(hc:bU c){g:aO}{x:Nat}(hx:x<1000000){s0:St}{p8:Pos}(h8:s0.next.toNat<=p8.toNat)(x0 x1 x4 x5 x6:AV)
  :∀(m k:Nat)(s:St)(v:AV),GI s0 s p8 g x k v->k+m=4->
  ∃s' v',GI s0 s' p8 g x 4 v'/\∀(F:Nat)(k4:List AV->St->Option (AV×St))(f:Nat),m<f->eZ c F k4 f [x0,x1,x4,x5,x6,.int .i64 (x:Int),.ptr p8 0,.int .i64 (k:Int)] s=k4 [x0,x1,x4,x5,x6,.ptr p8 0] s':=by
 intro m;induction m with
 |zero=>
  intro k s v hT h1;obtain rfl:k=4:=by omega
  refine⟨s,v,hT,λF k4 f hf=> ?_⟩;obtain⟨f,rfl⟩:∃g,f=g+1:=⟨f - 1,by omega⟩
  rw[m5];simp
 |succ m ih=>
  intro k s v hT h1;have hw:=hT.out.aA.wf;have h:k<4:=by omega
  . have JC:(0:Int)<=(x:Int):=Int.natCast_nonneg x;have w:ax .i64 ((k:Int)+1)=((k+1:Nat):Int):=wrap64 (by omega) (by omega);have w1:ax .i64 (2*(k:Int))=2*(k:Int):=wrap64 (by omega) (by omega);have w2:ax .i64 (6+2*(k:Int))=6+2*(k:Int):=wrap64 (by omega) (by omega);have e2:6+2*(k:Int)=((6+2*k:Nat):Int):=(by omega);have hk64:6+2*k<=64:=(by omega);have sr:∀(s:St)(K:AV->St->Option (AV×St)),ak c (.bin .shr .num) [.int .i64 (x:Int),.int .i64 (6+2*(k:Int))] s K=K (.int .i64 ((x:Int) / 2 ^ (6+2*k))) s:=λs K=>by rw[e2];exact RD hk64 s K
    have p0:(0:Int)<=(x:Int) / 2 ^ (6+2*k):=Zp6 JC (Int.le_of_lt (Int.pow_pos (by decide)));have r1:=λ(s:St)(K:AV->St->Option (AV×St))=>bO (c:=c) (k:= .i64) (a:=(x:Int) / 2 ^ (6+2*k)) (b:=4) p0 (by decide) s K
    have d1:decide ((x:Int) / 2 ^ (6+2*k) % 4=1)=decide (x / 2 ^ (6+2*k) % 4=1):=(by have:((x:Int) / 2 ^ (6+2*k) % 4=1)↔(x / 2 ^ (6+2*k) % 4=1):=(by rw[show((x:Int) / 2 ^ (6+2*k) % 4)=((x / 2 ^ (6+2*k) % 4:Nat):Int)by simp];omega);exact decide_eq_decide.2 this);have c8:(g.au v)[8]? =some v:=rfl;have fin:=ac4 x k;have N:=rq hc k (by omega) s hw;have hd:decide ((k:Int)<4)=true:=H5 (by omega);cases hq:AO x k with
    |   true=>
        have hrl:((wj x k).map HM).length<=4:=(by rw[Zb2];have:=acz x k;omega);obtain⟨s5,v5,a1,a2,a3,a4⟩:=hT.out.push (c:=c) (R:=AV×St) (bytes:=16) (z:=[.str []]) (x:= .str (bn k)) rfl rfl rfl (by decide) (by omega) (by omega);have e:(wj x (k+1)).map HM=(wj x k).map HM++[(.str (bn k):AV).cells]:=(by rw[SQ,Za8 hq,Zd7];rfl);rw[<-e]at a2;have y8:=a3 p8 _ hT.n8 hT.h8;have l8:=hw p8 _ hT.h8;have b8:bg v5≠some p8:=λe=>by have:=a4 _ e;omega
        have hw5:=a2.aA.wf;have l8':=hw5 p8 _ y8;have M:=a2.store (p:=p8) (b:= .cells (g.au v5) 0) h8 l8' b8;obtain⟨vc,v1⟩:=a2.cells;have aJ:∀(K:AV->St->Option (AV×St)),ak c (.store 1) [.ptr p8 8,v5] s5 K=K .undef (cv s5 p8 (.cells (g.au v5) 0)):=λK=>by rw[dU c K s5 1 p8 8 v5 (g.au v) y8 (by rw[vc];rfl) (by simp[aO.au]) (by rw[vc];exact v1),vc];rfl
        obtain⟨s',v',b1,b2⟩:=ih (k+1) _ v5 ⟨M,ej _ _ _,b8⟩ (by omega);refine⟨s',v',b1,λF k4 f hf=> ?_⟩;obtain⟨f,rfl⟩:∃g,f=g+1:=⟨f - 1,by omega⟩
        rw[<-b2 F k4 f (by omega),m5];rw[fin]at hq;simp[-aT,hT.h8,hd,fA,sr,r1,d1,hq,c8,N,a1,aJ,w,w1,w2]
    |   false=>
        have e:(wj x (k+1))=(wj x k):=(by rw[SQ,Za5 (by rw[hq];decide),Ze8]);obtain⟨s',v',b1,b2⟩:=ih (k+1) s v ⟨by rw[e];exact hT.out,hT.h8,hT.n8⟩ (by omega);refine⟨s',v',b1,λF k4 f hf=> ?_⟩;obtain⟨f,rfl⟩:∃g,f=g+1:=⟨f - 1,by omega⟩
        rw[<-b2 F k4 f (by omega),m5];rw[fin]at hq;simp[-aT,hd,fA,sr,r1,d1,hq,w,w1,w2]
def wX(i:Nat):Nat:=25*i % 312+i / 12
def rV(i x:Nat):aO:=⟨bn (wX i),if x % 2=1 then bn (x % 3)else [],if 4<x % 8 then bn (x % 8)else [],((x % 4*500:Nat):Int),((x % 3:Nat):Int),if x % 3=2 then bn (x % 5)else [],decide (x % 5=0),decide (x % 7=0),true,wj x 4⟩
theorem SS{es:Nat}{s0 s s':St}{v:AV}{rows:List (List AV)}(h:Mk es s0 s v rows)(hg:Grew s0 s')(hk:∀b x,bg v=some b->s.heap.get b=some x->s'.heap.get b=some x):Mk es s0 s' v rows:=
 ⟨h.sk,hg,h.own.mono hk,h.new,h.row,h.cap,λb hb=>hk b _ hb (h.tight b hb)⟩
structure GL(st s:St)(p4 p5:Pos)(V W:AV)(gs:List aO)(rows:List (List AV)):Prop where
 out:Mk 9 st s V rows
 len:rows.length=gs.length
 pZ:∀(i:Nat)(g:aO)(r:List AV),gs[i]? =some g->rows[i]? =some r->∃v,r=g.au v/\Mk 1 st s v (g.tg.map HM)/\∀b,bg v=some b->bg V≠some b/\b≠p4/\b≠p5
 h4:s.heap.get p4=some (.cells [.ah,.ah] 0)
 h5:s.heap.get p5=some (.cells [V,W] 0)
 n4:bg V≠some p4
 n5:bg V≠some p5
theorem acA(g:aO){v:AV}(h:aQ [v]=true):aQ (g.au v)=true:=by
 simp only[aQ]at h;unfold aO.au;simp only[aQ,AV.one,h,Zj2,Zk9]at*
theorem GL.push{st s s1:St}{p4 p5:Pos}{V W:AV}{gs:List aO}{rows:List (List AV)}(h:GL st s p4 p5 V W gs rows)(Dz:p4≠p5)(BS:st.next.toNat<=p5.toNat){g:aO}{v:AV}(M:Mk 1 s s1 v (g.tg.map HM))(hlen:rows.length<=1000):
   ∃ s5 s6 V5,(∀(K:AV->St->Option (AV×St)),ak c (.buildSlice 9 1 [.str [],.str [],.str [],.int .i64 0,.int .i64 0,.str [],.bool false,.bool false,.ah] [0]) [.agg (g.au v)] s1 (λy t=>ak c (.append 9 112) [V,y] t K)=K V5 s5)/\
     (∀(K:AV->St->Option (AV×St)),ak c (.store 1) [.ptr p5 0,V5] s5 K=K .undef s6)/\s1.heap.get p5=some (.cells [V,W] 0)/\GL st s6 p4 p5 V5 W (gs++[g]) (rows++[g.au v]):=by
 have hw:=h.out.aA.wf;have O1:=h.out.grow M.aA;obtain⟨s5,V5,a1,a2,a3,a4⟩:=O1.push (c:=c) (R:=AV×St) (bytes:=112) (z:=[.str [],.str [],.str [],.int .i64 0,.int .i64 0,.str [],.bool false,.bool false,.ah]) (x:= .agg (g.au v)) rfl rfl (acA g M.cells.2) (by decide) (by omega) (by omega);have y4:=a3 p4 _ h.n4 (M.aA.get h.h4);have y5:=a3 p5 _ h.n5 (M.aA.get h.h5);have l4:=hw p4 _ h.h4;have l5:=hw p5 _ h.h5;have nx:=M.aA.next;have b4:bg V5≠some p4:=λe=>by have:=a4 _ e;omega
 have b5:bg V5≠some p5:=λe=>by have:=a4 _ e;omega
 have YU:=a2.aA.wf p5 _ y5;obtain⟨vc,v1⟩:=a2.cells;have aJ:∀(K:AV->St->Option (AV×St)),ak c (.store 1) [.ptr p5 0,V5] s5 K=K .undef (cv s5 p5 (.cells [V5,W] 0)):=λK=>by rw[dU c K s5 1 p5 0 V5 [V,W] y5 (by rw[vc];rfl) (by simp) (by rw[vc];exact v1),vc];rfl
 have M6:=a2.store (p:=p5) (b:= .cells [V5,W] 0) BS YU b5;have Mv:=M.back h.out.sk h.out.aA;have vV:∀b,bg v=some b->bg V≠some b/\b≠p4/\b≠p5:=λb hb=>by
   have p1:=M.new b hb;refine⟨λe=> ?_,λe=> ?_,λe=> ?_⟩
   .have:=h.out.own.lt hw e;omega
   .subst e;omega
   .subst e;omega
 have small:∀(u:AV)(rw:List (List AV)),Mk 1 st s1 u rw->(∀b,bg u=some b->bg V≠some b/\b≠p4/\b≠p5)->Mk 1 st (cv s5 p5 (.cells [V5,W] 0)) u rw/\∀b,bg u=some b->bg V5≠some b/\b≠p4/\b≠p5:=λu rw hu cG=>by
   refine⟨SS hu M6.aA λb y hb hy=> ?_,λb hb=>⟨λe=> ?_,(cG b hb).2⟩⟩
   .rw[bt (λe=>(cG b hb).2.2 e.symm)];exact a3 b y (cG b hb).1 hy
   .have p1:=a4 b e;have p2:=hu.own.lt hu.aA.wf hb;omega
 refine⟨s5,_,V5,a1,aJ,M.aA.get h.h5,⟨M6,by simp[h.len],λi t r hi SU=> ?_,by rw[bt (λe=>Dz e.symm)];exact y4,ej _ _ _,b4,b5⟩⟩;by_cases Bs:i<gs.length
 .rw[Zc1 (by rw[h.len];exact Bs)]at SU;rw[Zc1 Bs]at hi;obtain⟨u,e1,e2,e3⟩:=h.pZ i t r hi SU;obtain⟨f1,f2⟩:=small u _ (e2.grow M.aA) e3;exact⟨u,e1,f1,f2⟩
 .have js:=(Za1.1 hi).1;simp at js;obtain rfl:i=gs.length:=(by omega);rw[Zc3 (by rw[h.len];exact Za4 _)]at SU;rw[Zc3 (Za4 _)]at hi;simp[h.len]at SU hi;subst hi;subst SU;obtain⟨f1,f2⟩:=small v _ Mv vV;exact⟨v,rfl,f1,f2⟩
def cM(k:IntKind)(z:Bool)(l:List Nat):AV:=ro 1 z (l.map λ(i:Nat)=>[.int k (i:Int)])
def vC(xs:List Nat)(k:Nat):List aO:=(List.range k).map λi=>rV i (xs.getD i 0)
theorem Y0(xs:List Nat)(k:Nat)(h:k<xs.length):vC xs (k+1)=vC xs k++[rV k xs[k]]:=by
 unfold vC;rw[Zi7,Zd7];simp[Zc0,h]
theorem EY(xs:List Nat)(k:Nat):(vC xs k).length=k:=by simp[vC]
def zG:List AV:=[.str [],.str [],.str [],.int .i64 0,.int .i64 0,.str [],.bool false,.bool false,.ah]
theorem mI(s:St)(K:AV->St->Option (AV×St)):ak c (.alloc [.str [],.str [],.str [],.int .i64 0,.int .i64 0,.str [],.bool false,.bool false,.ah]) [] s K=K (.ptr s.next 0) (af s (.cells zG 0)):=rfl
theorem mJ(nm:List Nat)(u y:Int)(b d:Bool)(s:St)(K:AV->St->Option (AV×St)):ak c (.build [.str [],.str [],.str [],.int .i64 0,.int .i64 0,.str [],.bool false,.bool false,.ah] [(0,1),(3,1),(4,1),(6,1),(7,1)]) [.str nm,.int .i64 u,.int .i64 y,.bool b,.bool d] s K=K (.agg [.str nm,.str [],.str [],.int .i64 u,.int .i64 y,.str [],.bool b,.bool d,.ah]) s:=rfl
theorem mK(nm:List Nat)(u y:Int)(b d:Bool)(s:St)(K:AV->St->Option (AV×St)):ak c (.store 9) [.ptr s.next 0,.agg [.str nm,.str [],.str [],.int .i64 u,.int .i64 y,.str [],.bool b,.bool d,.ah]] (af s (.cells zG 0)) K=K .undef (af s (.cells [.str nm,.str [],.str [],.int .i64 u,.int .i64 y,.str [],.bool b,.bool d,.ah] 0)):=
 dx c K s 9 (.agg [.str nm,.str [],.str [],.int .i64 u,.int .i64 y,.str [],.bool b,.bool d,.ah]) zG rfl rfl rfl
theorem n9(nm r ct dt z:List Nat)(u y:Int)(b d:Bool)(s:St)(K:AV->St->Option (AV×St)):ak c (.store 1) [.ptr s.next 1,.str z] (af s (.cells [.str nm,.str r,.str ct,.int .i64 u,.int .i64 y,.str dt,.bool b,.bool d,.ah] 0)) K=K .undef (af s (.cells [.str nm,.str z,.str ct,.int .i64 u,.int .i64 y,.str dt,.bool b,.bool d,.ah] 0)):=iG s _ 1 (.str z) (by simp) rfl rfl K
theorem oa(nm r ct dt z:List Nat)(u y:Int)(b d:Bool)(s:St)(K:AV->St->Option (AV×St)):ak c (.store 1) [.ptr s.next 2,.str z] (af s (.cells [.str nm,.str r,.str ct,.int .i64 u,.int .i64 y,.str dt,.bool b,.bool d,.ah] 0)) K=K .undef (af s (.cells [.str nm,.str r,.str z,.int .i64 u,.int .i64 y,.str dt,.bool b,.bool d,.ah] 0)):=iG s _ 2 (.str z) (by simp) rfl rfl K
theorem ob(nm r ct dt z:List Nat)(u y:Int)(b d:Bool)(s:St)(K:AV->St->Option (AV×St)):ak c (.store 1) [.ptr s.next 5,.str z] (af s (.cells [.str nm,.str r,.str ct,.int .i64 u,.int .i64 y,.str dt,.bool b,.bool d,.ah] 0)) K=K .undef (af s (.cells [.str nm,.str r,.str ct,.int .i64 u,.int .i64 y,.str z,.bool b,.bool d,.ah] 0)):=iG s _ 5 (.str z) (by simp) rfl rfl K
theorem Pe(i x:Nat)(v:AV):(rV i x).au v=[.str (bn (wX i)),.str (if x % 2=1 then bn (x % 3)else []),.str (if 4<x % 8 then bn (x % 8)else []),.int .i64 ((x % 4*500:Nat):Int),.int .i64 ((x % 3:Nat):Int),.str (if x % 3=2 then bn (x % 5)else []),.bool (decide (x % 5=0)),.bool (decide (x % 7=0)),v]:=rfl
theorem Tz(hc:bU c){xs:List Nat}(hx:∀x∈xs,x<65536)(z:Bool)(x1:AV){st s:St}{p4 p5:Pos}(Dz:p4≠p5)(BS:st.next.toNat<=p5.toNat){V W:AV}{rows:List (List AV)}{k:Nat}(hk:k<xs.length)(hk12:k<12)
   (h:GL st s p4 p5 V W (vC xs k) rows):∃s' V' EZ,GL st s' p4 p5 V' W (vC xs (k+1)) EZ/\∀(F:Nat)(_:5<=F)(k2:List AV->St->Option (AV×St))(f:Nat),
     dW c F k2 (f+1) [cM .u16 z xs,x1,.ptr p4 0,.ptr p5 0,.int .i64 (k:Int)] s=dW c F k2 f [cM .u16 z xs,x1,.ptr p4 0,.ptr p5 0,.int .i64 ((k+1:Nat):Int)] s':=by
 have hw:=h.out.aA.wf;have TO:=hx _ (Zb9 hk);generalize AP:xs[k]=x at TO;have M0:Mk 1 s (af s (.cells ((rV k x).au .ah) 0)) .ah []:=Mk.start hw (Grew.af hw _);obtain⟨s1,v1,hG,L⟩:=Tw hc (g:=rV k x) (x:=x) (by omega) (s0:=s) (p8:=s.next) (Za4 _) (cM .u16 z xs) x1 (.ptr p4 0) (.ptr p5 0) (.int .i64 (k:Int)) 4 0 _ .ah ⟨M0,aC _ _,λe=>(nomatch e)⟩ rfl;have M:Mk 1 s s1 v1 ((rV k x).tg.map HM):=hG.out;obtain⟨s5,s6,V5,a1,a2,a3,a4⟩:=h.push (c:=c) Dz BS M (by rw[h.len,EY];omega);have e:vC xs k++[rV k x]=vC xs (k+1):=by rw[Y0 xs k hk,AP]
 rw[e]at a4;refine⟨s6,V5,_,a4,λF hF k2 f=> ?_⟩;have L':∀k4:List AV->St->Option (AV×St),eZ c F k4 F [cM .u16 z xs,x1,.ptr p4 0,.ptr p5 0,.int .i64 (k:Int),.int .i64 (x:Int),.ptr s.next 0,.int .i64 0] (af s (.cells ((rV k x).au .ah) 0))=k4 [cM .u16 z xs,x1,.ptr p4 0,.ptr p5 0,.int .i64 (k:Int),.ptr s.next 0] s1:=λk4=>L F k4 F (by omega)
 clear a4 M M0 L;have lI:∀(K:AV->St->Option (AV×St))(s:St),ak c (.lenB .l) [cM .u16 z xs] s K=K (.int .i64 (xs.length:Int)) s:=λK s=>by unfold cM;rw[ke];simp
 have ix:∀(K:AV->St->Option (AV×St))(s:St),ak c (.idxA 1 none) [cM .u16 z xs,.int .i64 (k:Int)] s K=K (.fp (xs.map λ(i:Nat)=>[.int .u16 (i:Int)]) k 0) s:=λK s=>by unfold cM;rw[Rr];simp[hk]
 have ld:((xs.map λ(i:Nat)=>[AV.int .u16 (i:Int)])[k]?.bind λcs=>cs[0]?)=some (.int .u16 (x:Int)):=by simp[hk,AP]
 have w0:ax .i64 (x:Int)=(x:Int):=wrap64 (by omega) (by omega);have N1:=rq hc (wX k) (by unfold wX;omega) s hw;have wm:cut ((rV k x).au v1) 0 9=some ((rV k x).au v1):=bI rfl;have N2:∀(b:AB)(j:Nat)(i:Int),i=(j:Int)->j<1000000->c 44 [.int .i64 i] (af s b)=some (.str (bn j),af s b):=λb j i e hj=>by rw[e];exact rq hc j hj _ (bR hw)
 have N3:=λb=>N2 b (x % 3) ((x:Int) % 3) (by omega) (by omega)
 have N8:=λb=>N2 b (x % 8) ((x:Int) % 8) (by omega) (by omega)
 have N5:=λb=>N2 b (x % 5) ((x:Int) % 5) (by omega) (by omega)
 have eg:25*(k:Int) % 312+(k:Int) / 12=((wX k:Nat):Int):=by unfold wX;omega
 rw[<-eg]at N1;have HN:decide ((k:Int)<12)=true:=H5 (by omega);have d5:decide ((x:Int) % 5=0)=decide (x % 5=0):=decide_eq_decide.2 (by omega);have d7:decide ((x:Int) % 7=0)=decide (x % 7=0):=decide_eq_decide.2 (by omega);have u4:((x % 4*500:Nat):Int)=(x:Int) % 4*500:=by omega
 have u3:((x % 3:Nat):Int)=(x:Int) % 3:=by omega
 simp only[Pe]at a1 L' hG wm;clear N2;have h8:=hG.h8;rw[Pe]at h8;rw[u4,u3]at L' h8 a1 wm;rw[sO];by_cases c1:x % 2=1
 . by_cases c2:4<x % 8
   . by_cases c3:x % 3=2
     .  have e1:decide ((x:Int) % 2=1)=true:=H5 (by omega);have e2:decide (4<(x:Int) % 8)=true:=H5 (by omega);have e3:decide ((x:Int) % 3=2)=true:=H5 (by omega);simp only[Za8 c1,Za8 c2,Za8 c3]at L' h8 a1 wm;simp (maxSteps:=2000000) (disch:=omega) [-aT,-ig,-jk,-eE,-jO,mI,mJ,mK,n9,oa,ob,lI,ix,ld,hk,AP,Zb0,HN,mD,w0,bO,eW,wrap64,N1,N3,N8,N5,d5,d7,e1,e2,e3,fA,L',a1,a2,a3,h8,wm]
     .  have e1:decide ((x:Int) % 2=1)=true:=H5 (by omega);have e2:decide (4<(x:Int) % 8)=true:=H5 (by omega);have e3:decide ((x:Int) % 3=2)=false:=Za2 (by omega);simp only[Za8 c1,Za8 c2,Za5 c3]at L' h8 a1 wm;simp (maxSteps:=2000000) (disch:=omega) [-aT,-ig,-jk,-eE,-jO,mI,mJ,mK,n9,oa,ob,lI,ix,ld,hk,AP,Zb0,HN,mD,w0,bO,eW,wrap64,N1,N3,N8,N5,d5,d7,e1,e2,e3,fA,L',a1,a2,a3,h8,wm]
   . by_cases c3:x % 3=2
     .  have e1:decide ((x:Int) % 2=1)=true:=H5 (by omega);have e2:decide (4<(x:Int) % 8)=false:=Za2 (by omega);have e3:decide ((x:Int) % 3=2)=true:=H5 (by omega);simp only[Za8 c1,Za5 c2,Za8 c3]at L' h8 a1 wm;simp (maxSteps:=2000000) (disch:=omega) [-aT,-ig,-jk,-eE,-jO,mI,mJ,mK,n9,oa,ob,lI,ix,ld,hk,AP,Zb0,HN,mD,w0,bO,eW,wrap64,N1,N3,N8,N5,d5,d7,e1,e2,e3,fA,L',a1,a2,a3,h8,wm]
     .  have e1:decide ((x:Int) % 2=1)=true:=H5 (by omega);have e2:decide (4<(x:Int) % 8)=false:=Za2 (by omega);have e3:decide ((x:Int) % 3=2)=false:=Za2 (by omega);simp only[Za8 c1,Za5 c2,Za5 c3]at L' h8 a1 wm;simp (maxSteps:=2000000) (disch:=omega) [-aT,-ig,-jk,-eE,-jO,mI,mJ,mK,n9,oa,ob,lI,ix,ld,hk,AP,Zb0,HN,mD,w0,bO,eW,wrap64,N1,N3,N8,N5,d5,d7,e1,e2,e3,fA,L',a1,a2,a3,h8,wm]
 . by_cases c2:4<x % 8
   . by_cases c3:x % 3=2
     .  have e1:decide ((x:Int) % 2=1)=false:=Za2 (by omega);have e2:decide (4<(x:Int) % 8)=true:=H5 (by omega);have e3:decide ((x:Int) % 3=2)=true:=H5 (by omega);simp only[Za5 c1,Za8 c2,Za8 c3]at L' h8 a1 wm;simp (maxSteps:=2000000) (disch:=omega) [-aT,-ig,-jk,-eE,-jO,mI,mJ,mK,n9,oa,ob,lI,ix,ld,hk,AP,Zb0,HN,mD,w0,bO,eW,wrap64,N1,N3,N8,N5,d5,d7,e1,e2,e3,fA,L',a1,a2,a3,h8,wm]
     .  have e1:decide ((x:Int) % 2=1)=false:=Za2 (by omega);have e2:decide (4<(x:Int) % 8)=true:=H5 (by omega);have e3:decide ((x:Int) % 3=2)=false:=Za2 (by omega);simp only[Za5 c1,Za8 c2,Za5 c3]at L' h8 a1 wm;simp (maxSteps:=2000000) (disch:=omega) [-aT,-ig,-jk,-eE,-jO,mI,mJ,mK,n9,oa,ob,lI,ix,ld,hk,AP,Zb0,HN,mD,w0,bO,eW,wrap64,N1,N3,N8,N5,d5,d7,e1,e2,e3,fA,L',a1,a2,a3,h8,wm]
   . by_cases c3:x % 3=2
     .  have e1:decide ((x:Int) % 2=1)=false:=Za2 (by omega);have e2:decide (4<(x:Int) % 8)=false:=Za2 (by omega);have e3:decide ((x:Int) % 3=2)=true:=H5 (by omega);simp only[Za5 c1,Za5 c2,Za8 c3]at L' h8 a1 wm;simp (maxSteps:=2000000) (disch:=omega) [-aT,-ig,-jk,-eE,-jO,mI,mJ,mK,n9,oa,ob,lI,ix,ld,hk,AP,Zb0,HN,mD,w0,bO,eW,wrap64,N1,N3,N8,N5,d5,d7,e1,e2,e3,fA,L',a1,a2,a3,h8,wm]
     .  have e1:decide ((x:Int) % 2=1)=false:=Za2 (by omega);have e2:decide (4<(x:Int) % 8)=false:=Za2 (by omega);have e3:decide ((x:Int) % 3=2)=false:=Za2 (by omega);simp only[Za5 c1,Za5 c2,Za5 c3]at L' h8 a1 wm;simp (maxSteps:=2000000) (disch:=omega) [-aT,-ig,-jk,-eE,-jO,mI,mJ,mK,n9,oa,ob,lI,ix,ld,hk,AP,Zb0,HN,mD,w0,bO,eW,wrap64,N1,N3,N8,N5,d5,d7,e1,e2,e3,fA,L',a1,a2,a3,h8,wm]
def gK(i x:Nat):aL:=⟨dJ i,((j9 x:Nat):Int),((tA x:Nat):Int),((tB x:Nat):Int),true,(uU x (tN x)).map λ(k:Nat)=>(k:Int),((x:Nat):Int),255 - ((x:Nat):Int)⟩
def mT(xs:List Nat)(k:Nat):List aL:=(List.range k).map λi=>gK i (xs.getD i 0)
theorem Y3(xs:List Nat)(k:Nat)(h:k<xs.length):mT xs (k+1)=mT xs k++[gK k xs[k]]:=by
 unfold mT;rw[Zi7,Zd7];simp[Zc0,h]
theorem ED(xs:List Nat)(k:Nat):(mT xs k).length=k:=by simp[mT]
def gG(xs:List Nat):Nat->Nat
 |0=>0
 |k+1=>gG xs k+tN (xs.getD k 0)
theorem Pg(xs:List Nat):∀k,gG xs k<=k*16
 |0=>Za4 _
 |k+1=>by have:=Pg xs k;have:=Mh (xs.getD k 0);unfold gG;omega
theorem Wd(i x:Nat)(v:AV):(gK i x).au v=eG (dJ i) (j9 x:Nat) (tA x:Nat) (tB x:Nat) x v:=rfl
theorem abg(i x:Nat):(gK i x).mE.map cW=(uU x (tN x)).map NN:=by unfold gK;rw[Zf8];rfl
theorem QS.owner{es:Nat}{s:St}{v:AV}{rows:List (List AV)}(h:QS es s v rows)(h0:rows≠[]):∃b,bg v=some b:=by
 rcases h with⟨_,e⟩|⟨b,off,cap,cs,rfl,_⟩|⟨b,off,_,e⟩
 .exact absurd e h0
 . (refine⟨b,?_⟩;have:rows.length≠0:=λe=>h0 (Zb1 e));simp only[bg];rw[Za5 (λe=>this e.2)]
 .exact absurd e h0
structure LL(st sA s:St)(p3:Pos)(es:Nat)(V:AV)(rows:List (List AV))(W:AV->List AV):Prop where
 out:Mk es st s V rows
 kx:KX p3 sA s
 h3:s.heap.get p3=some (.cells (W V) 0)
 since:∀b,bg V=some b->sA.next.toNat<=b.toNat
theorem LL.aA{st sA s s':St}{p3:Pos}{es:Nat}{V:AV}{rows:List (List AV)}{W:AV->List AV}(h:LL st sA s p3 es V rows W)(g:Grew s s'):LL st sA s' p3 es V rows W:=
 ⟨h.out.grow g,h.kx.aA g,g.get h.h3,h.since⟩
theorem LL.push{st sA s:St}{p3:Pos}{es bytes i:Nat}{V:AV}{rows:List (List AV)}{W:AV->List AV}(h:LL st sA s p3 es V rows W)(hA:Wf sA)(JK:p3.toNat<sA.next.toNat)(jg:st.next.toNat<=p3.toNat)(hi:∀A B,(W A).set i B=W B)(js:∀A,i<(W A).length)
   {z:List AV} {x:AV} (hz:z.length=es) (hx:x.cells.length=es) (h1:aQ x.cells=true) (dc:es≠0) (hb:(2*(rows.length+1)+768)*bytes<=281474976710656) (hn:rows.length<=4000000):
   ∃s5 s6 V5,(∀(K:AV->St->Option (AV×St)),ak c (.buildSlice es 1 z [0]) [x] s (λy q=>ak c (.append es bytes) [V,y] q K)=K V5 s5)/\(∀(K:AV->St->Option (AV×St)),ak c (.store 1) [.ptr p3 i,V5] s5 K=K .undef s6)/\
    LL st sA s6 p3 es V5 (rows++[x.cells]) W/\(∀(p:Pos)(b:AB),p≠p3->bg V≠some p->s.heap.get p=some b->s6.heap.get p=some b)/\(∀b,bg V5=some b->s.next.toNat<=b.toNat)/\s.next.toNat<=s6.next.toNat/\s5.heap.get p3=some (.cells (W V) 0):=by
 have hw:=h.out.aA.wf;obtain⟨s5,V5,a1,a2,a3,a4⟩:=h.out.push (c:=c) (R:=AV×St) (bytes:=bytes) hz hx h1 dc hb hn;have nV:bg V≠some p3:=λe=>by have:=h.since _ e;omega
 have y3:=a3 p3 _ nV h.h3;have n5:bg V5≠some p3:=λe=>by have:=a4 _ e;have:=hw _ _ h.h3;omega
 have l3:=a2.aA.wf p3 _ y3;obtain⟨vc,v1⟩:=a2.cells;obtain⟨b,Y4⟩:=QS.owner a2.own (by simp);have nx:s.next.toNat<=s5.next.toNat:=by have:=a4 b Y4;have:=a2.own.lt a2.aA.wf Y4;omega
 refine⟨s5,cv s5 p3 (.cells (W V5) 0),V5,a1,λK=> ?_,⟨a2.store jg l3 n5,?_,ej _ _ _,λb hb=> ?_⟩,λp b hp hv hg=> ?_,a4,nx,y3⟩
 .rw[dU c K s5 1 p3 i V5 (W V) y3 (by rw[vc];rfl) (by have:=js V;omega) (by rw[vc];exact v1),vc];rw[zm _ _ (js V),hi]
 .refine KX.store ⟨a2.aA.wf,Zc4 h.kx.next nx,λq y hq hy=> ?_⟩ l3 _;refine a3 q y (λe=> ?_) (h.kx.keep q y hq hy);have:=h.since _ e;have:=hA _ _ hy;omega
 .have:=a4 b hb;have:=h.kx.next;omega
 .rw[bt (λe=>hp e.symm)];exact a3 p b hv hg
structure TL(st sA s:St)(p3:Pos)(V:AV)(ts:List aL)(rows:List (List AV))(W:AV->List AV):Prop where
 tab:TS st s V ts rows
 kx:KX p3 sA s
 h3:s.heap.get p3=some (.cells (W V) 0)
 since:TS.mH sA.next.toNat V rows
theorem TL.push{st sA s:St}{p3:Pos}{i:Nat}{V:AV}{ts:List aL}{rows:List (List AV)}{W:AV->List AV}(h:TL st sA s p3 V ts rows W)(hA:Wf sA)(JK:p3.toNat<sA.next.toNat)(jg:st.next.toNat<=p3.toNat)(hi:∀A B,(W A).set i B=W B)(js:∀A,i<(W A).length)
   {t:aL} {v:AV} (M:Mk 1 st s v (t.mE.map cW)) (hv:∀b,bg v=some b->bg V≠some b) (Gn:∀b,bg v=some b->sA.next.toNat<=b.toNat) (hlen:ts.length<=1000):
   ∃ s5 s6 V5,(∀(K:AV->St->Option (AV×St)),ak c (.buildSlice 7 1 [.str [],.int .u8 0,.int .i64 0,.int .i64 0,.ah,.int .i64 0,.int .i64 0] [0]) [.agg (t.au v)] s (λy q=>ak c (.append 7 80) [V,y] q K)=K V5 s5)/\
     (∀(K:AV->St->Option (AV×St)),ak c (.store 1) [.ptr p3 i,V5] s5 K=K .undef s6)/\TL st sA s6 p3 V5 (ts++[t]) (rows++[t.au v]) W/\(∀(p:Pos)(b:AB),p≠p3->bg V≠some p->s.heap.get p=some b->s6.heap.get p=some b)/\s5.heap.get p3=some (.cells (W V) 0):=by
 have hw:=h.tab.out.aA.wf;obtain⟨s5,V5,a1,a2,a3,a4⟩:=h.tab.push (c:=c) M hv hlen;have nV:bg V≠some p3:=λe=>by have:=h.since.1 _ e;omega
 have y3:=a3 p3 _ nV h.h3;have l3:=a2.out.aA.wf p3 _ y3;obtain⟨vc,v1⟩:=a2.out.cells;obtain⟨b,Y4⟩:=QS.owner a2.out.own (by simp);have nx:s.next.toNat<=s5.next.toNat:=by have:=a4 b Y4;have:=a2.out.own.lt a2.out.aA.wf Y4;omega
 have sn:TS.mH sA.next.toNat V5 (rows++[t.au v]):=by
   refine⟨λb hb=>by have:=a4 b hb;have:=h.kx.next;omega,λj r u b hr h4 hb=> ?_⟩;by_cases hj:j<rows.length
   .rw[Zc1 hj]at hr;exact h.since.2 j r u b hr h4 hb
   .have hjl:=(Za1.1 hr).1;simp at hjl;obtain rfl:j=rows.length:=(by omega);rw[Zc3 (Za4 _)]at hr;simp at hr;subst hr;have:v=u:=(by simpa [aL.au]using h4);subst this;exact Gn b hb
 have k5:KX p3 sA s5:=⟨a2.out.aA.wf,Zc4 h.kx.next nx,λq y hq hy=>a3 q y (λe=>by
   have:=h.since.1 _ e;have:=hA _ _ hy;omega) (h.kx.keep q y hq hy)⟩
 have kS:KX p3 s5 (cv s5 p3 (.cells (W V5) 0)):=(KX.refl a2.out.aA.wf).store l3 _;have sn3:TS.mH (p3.toNat+1) V5 (rows++[t.au v]):=⟨λb hb=>by have:=sn.1 b hb;omega,λj r u b h1 h2 h3=>by have:=sn.2 j r u b h1 h2 h3;omega⟩
 refine⟨s5,cv s5 p3 (.cells (W V5) 0),V5,a1,λK=> ?_,⟨a2.kx kS (Ap h.tab.out.sk a2.out.aA jg l3 _) sn3,k5.store l3 _,ej _ _ _,sn⟩,λp b hp hv hg=> ?_,y3⟩
 .rw[dU c K s5 1 p3 i V5 (W V) y3 (by rw[vc];rfl) (by have:=js V;omega) (by rw[vc];exact v1),vc];rw[zm _ _ (js V),hi]
 .rw[bt (λe=>hp e.symm)];exact a3 p b hv hg
def iW(zt zg zy zr:Bool)(xt xg xy xr:List Nat):List AV:=[cM .u8 zt xt,cM .u16 zg xg,cM .u8 zy xy,cM .u32 zr xr]
theorem E0{R:Type}(k:IntKind)(z:Bool)(l:List Nat)(K:AV->St->Option R)(s:St):ak c (.lenB .l) [cM k z l] s K=K (.int .i64 (l.length:Int)) s:=by unfold cM;rw[ke];simp
theorem UT{R:Type}(k k':IntKind)(z:Bool)(l:List Nat){i:Nat}(h:i<l.length)(K:AV->St->Option R)(s:St):ak c (.idxA 1 none) [cM k z l,.int k' (i:Int)] s (λv s'=>ak c (.load none) [v] s' K)=K (.int k (l[i]:Int)) s:=by
 unfold cM;simp[h]
theorem adT{a b d:Nat}(h:d=a+b)(hl:a+b<=1000000):ax .i64 ((a:Int)+(b:Int))=(d:Int):=(wrap64 (by omega) (by omega)).trans (by omega)
theorem Y5(hc:bU c){xt:List Nat}(hx:∀x∈xt,x<256){zt zg zy zr:Bool}{xg xy xr:List Nat}{st sA s:St}{p1 p3:Pos}{V x2:AV}{rows:List (List AV)}(hA:Wf sA)(MG:sA.heap.get p1=some (.cells (iW zt zg zy zr xt xg xy xr) 0))(MH:p1≠p3)(JK:p3.toNat<sA.next.toNat)(jg:st.next.toNat<=p3.toNat)
  {k:Nat} (hk:k<xt.length) (hk3:k<3) (h:TL st sA s p3 V (mT xt k) rows (λV=>[V,.ah,.ah,.ah,.ah])):
  ∃s' V' EZ,TL st sA s' p3 V' (mT xt (k+1)) EZ (λV=>[V,.ah,.ah,.ah,.ah])/\∀(F:Nat)(k2:List AV->St->Option (AV×St))(f:Nat),
   dV c F k2 (f+1) [.ptr p1 0,x2,.ptr p3 0,.int .i64 (gG xt k:Int),.int .i64 (k:Int)] s=dV c F k2 f [.ptr p1 0,x2,.ptr p3 0,.int .i64 (gG xt (k+1):Int),.int .i64 ((k+1:Nat):Int)] s':=by
 have AP:=hx _ (Zb9 hk);have d1:decide ((k:Int)<(xt.length:Int))=true:=H5 (by omega);have d2:decide ((k:Int)<3)=true:=H5 (by omega);have w2:ax .i64 ((k:Int)+1)=((k+1:Nat):Int):=wrap64 (by omega) (by omega);have w3:ax .i64 (xt[k]:Int)=(xt[k]:Int):=wrap64 (by omega) (by omega);have hw:=h.tab.out.aA.wf;have h1:=h.kx.keep p1 _ MH MG;obtain⟨v,s1,C,M⟩:=abc hc k xt[k] (by omega) AP s hw;have g1:=M.aA;have gn:=Grew.af g1.wf (.cells ((gK k xt[k]).au v) 0);have hM:Mk 1 st (af s1 (.cells ((gK k xt[k]).au v) 0)) v ((gK k xt[k]).mE.map cW):=by rw[abg];exact(M.back h.tab.out.sk h.tab.out.aA).grow gn
 have T1:TL st sA (af s1 (.cells ((gK k xt[k]).au v) 0)) p3 V (mT xt k) rows (λV=>[V,.ah,.ah,.ah,.ah]):=
  ⟨h.tab.sY (h.tab.out.aA.trans (g1.trans gn)) λb x _ _ hb=>gn.get (g1.get hb),h.kx.aA (g1.trans gn),gn.get (g1.get h.h3),h.since⟩
 obtain⟨s5,s6,V5,a1,a2,a3,a4,a5⟩:=T1.push (c:=c) (i:=0) hA JK jg (λA B=>rfl) (λA=>by simp) hM (λb hb e=>by
  have p1:=M.new b hb;have p2:=h.tab.out.own.lt hw e;omega) (λb hb=>by have:=M.new b hb;have:=h.kx.next;omega) (by rw[ED];omega)
 have p6:s6.heap.get s1.next=some (.cells ((gK k xt[k]).au v) 0):=a4 s1.next _ (λe=>by have:=h.kx.next;have:=g1.next;rw[<-e]at JK;omega) (λe=>by
  have p2:=h.tab.out.own.lt hw e;have:=g1.next;omega) (aC _ _)
 have e:=Y3 xt k hk;rw[<-e]at a3;refine⟨s6,V5,_,a3,λF k2 f=> ?_⟩;have hs:=An hc (l:=(gK k xt[k]).au v) (sh:=((j9 xt[k]:Nat):Int)) (a:=((tA xt[k]:Nat):Int)) (b:=((tB xt[k]:Nat):Int)) rfl rfl rfl (by have:=Qj xt[k];omega) (by have:=Qk xt[k];omega) s6 a3.tab.out.aA.wf;rw[IZ]at hs;have hS:gG xt (k+1)=gG xt k+tN xt[k]:=by
  rw[gG];simp[Zc0,hk]
 have w1:ax .i64 ((gG xt k:Int)+(tN xt[k]:Int))=((gG xt (k+1):Nat):Int):=adT hS (by have:=Pg xt k;have:=Mh xt[k];exact Zc4 (Nat.add_le_add ‹_› ‹_›) (by omega));have lI:=λ(K:AV->St->Option (AV×St))(s:St)=>E0 (c:=c) .u8 zt xt K s
 have aI:=λ(K:AV->St->Option (AV×St))(s:St)=>UT (c:=c) .u8 .i64 zt xt hk K s
 have c0:(iW zt zg zy zr xt xg xy xr)[0]? =some (cM .u8 zt xt):=rfl;have cu:cut ((gK k xt[k]).au v) 0 7=some ((gK k xt[k]).au v):=bI rfl;rw[<-Wd]at C;have DA:∀(K:AV->St->Option (AV×St)),ak c (.store 7) [.ptr s1.next 0,.agg ((gK k xt[k]).au v)] (af s1 (.cells [.str [],.int .u8 0,.int .i64 0,.int .i64 0,.ah,.int .i64 0,.int .i64 0] 0)) K=K .undef (af s1 (.cells ((gK k xt[k]).au v) 0)):=λK=>dx c K s1 7 (.agg ((gK k xt[k]).au v)) [.str [],.int .u8 0,.int .i64 0,.int .i64 0,.ah,.int .i64 0,.int .i64 0] rfl rfl ((gK k xt[k]).KA M.cells.2)
 have UU:=T1.h3;have g6:=aC s1 (.cells ((gK k xt[k]).au v) 0);generalize (gK k xt[k]).au v=tc at*
 generalize gG xt (k+1)=S1 at*
 clear hS e T1 a3 a4 hM M h;rw[sJ];simp (disch:=omega) [-aT,Zb0,h1,lI,aI,c0,hk,hk3,d1,d2,w3,C,DA,UU,g6,cu,a1,a2,a5,p6,hs,w1,w2]
theorem Y6(hc:bU c){xt:List Nat}(hx:∀x∈xt,x<256)(hl:xt.length<=9223372036854775807){zt zg zy zr:Bool}{xg xy xr:List Nat}{st sA:St}{p1 p3:Pos}{x2:AV}(hA:Wf sA)(MG:sA.heap.get p1=some (.cells (iW zt zg zy zr xt xg xy xr) 0))(MH:p1≠p3)(JK:p3.toNat<sA.next.toNat)(jg:st.next.toNat<=p3.toNat):
  ∀(m k:Nat)(s:St)(V:AV)(rows:List (List AV)),k+m=min xt.length 3->TL st sA s p3 V (mT xt k) rows (λV=>[V,.ah,.ah,.ah,.ah])->
  ∃ s' V' EZ,TL st sA s' p3 V' (mT xt (min xt.length 3)) EZ (λV=>[V,.ah,.ah,.ah,.ah])/\∀(F:Nat)(k2:List AV->St->Option (AV×St))(f:Nat),m<f->
    dV c F k2 f [.ptr p1 0,x2,.ptr p3 0,.int .i64 (gG xt k:Int),.int .i64 (k:Int)] s=k2 [.ptr p1 0,x2,.ptr p3 0,.int .i64 (gG xt (min xt.length 3):Int)] s':=by
 intro m;induction m with
 |zero=>
  intro k s V rows hk h;obtain rfl:k=min xt.length 3:=by omega
  refine⟨s,V,rows,h,λF k2 f hf=> ?_⟩;obtain⟨f,rfl⟩:∃g,f=g+1:=⟨f - 1,by omega⟩
  have h1:=h.kx.keep p1 _ MH MG;have c0:(iW zt zg zy zr xt xg xy xr)[0]? =some (cM .u8 zt xt):=rfl;have lI:=λ(K:AV->St->Option (AV×St))(s:St)=>E0 (c:=c) .u8 zt xt K s
  generalize gG xt (min xt.length 3)=S at*
  rw[sJ];by_cases h3:xt.length<=3
  .have e:min xt.length 3=xt.length:=(by omega);rw[e];simp[h1,c0,lI]
  .have e:min xt.length 3=3:=(by omega);have hd:decide ((3:Int)<(xt.length:Int))=true:=H5 (by omega);rw[e];simp[h1,c0,lI,hd]
 |succ m ih=>
  intro k s V rows hk h;obtain⟨s1,V1,r1,h1,e1⟩:=Y5 (x2:=x2) hc hx hA MG MH JK jg (k:=k) (by omega) (by omega) h;obtain⟨s2,V2,r2,h2,e2⟩:=ih (k+1) s1 V1 r1 (by omega) h1;refine⟨s2,V2,r2,h2,λF k2 f hf=> ?_⟩;obtain⟨f,rfl⟩:∃g,f=g+1:=⟨f - 1,by omega⟩
  rw[e1 F k2 f,e2 F k2 f (by omega)]
theorem SV{k:Nat}(h:k<=1000000):ax .i64 ((k:Int)+1)=((k+1:Nat):Int):=wrap64 (by omega) (by omega)
theorem We{x:Nat}(h:x<=4294967296):ax .i64 (x:Int)=(x:Int):=wrap64 (by omega) (by omega)
def wY(xg:List Nat)(k:Nat):List Int:=(List.range k).map λi=>((xg.getD i 0 / 3 % 4:Nat):Int)
theorem Y7(xg:List Nat)(k:Nat)(h:k<xg.length):wY xg (k+1)=wY xg k++[((xg[k] / 3 % 4:Nat):Int)]:=by
 unfold wY;rw[Zi7,Zd7];simp[Zc0,h]
theorem EE(xg:List Nat)(k:Nat):(wY xg k).length=k:=by simp[wY]
theorem Wg{xg:List Nat}(hx:∀x∈xg,x<65536){zt zg zy zr:Bool}{xt xy xr:List Nat}{st sA:St}{p1 p3:Pos}{x2 V1 V2 V3:AV}{n:Nat}(hn:n<=xg.length)(Yv:n<=1000)(hA:Wf sA)(MG:sA.heap.get p1=some (.cells (iW zt zg zy zr xt xg xy xr) 0))(MH:p1≠p3)(JK:p3.toNat<sA.next.toNat)(jg:st.next.toNat<=p3.toNat)
  (l2:∀(K:AV->St->Option (AV×St))(s':St),ak c (.lenB .l) [V2] s' K=K (.int .i64 (n:Int)) s'):
  ∀(m k:Nat)(s:St)(V:AV),k+m=n->LL st sA s p3 1 V ((wY xg k).map cW) (λA=>[V1,V2,V3,A,.ah])->
  ∃s' V',LL st sA s' p3 1 V' ((wY xg n).map cW) (λA=>[V1,V2,V3,A,.ah])/\∀(F:Nat)(k4:List AV->St->Option (AV×St))(f:Nat),m<f->
   gj c F k4 f [.ptr p1 0,x2,.ptr p3 0,.int .i64 (k:Int)] s=k4 [.ptr p1 0,x2,.ptr p3 0] s':=by
 intro m;induction m with
 |zero=>
  intro k s V hk h;obtain rfl:k=n:=by omega
  refine⟨s,V,h,λF k4 f hf=> ?_⟩;obtain⟨f,rfl⟩:∃g,f=g+1:=⟨f - 1,by omega⟩
  rw[sI];simp[h.h3,l2]
 |succ m ih=>
  intro k s V hk h;have Ra:k<n:=by omega
  have Aq:k<xg.length:=by omega
  have AP:=hx _ (Zb9 Aq);obtain⟨v,hv⟩:∃v:Nat,v=xg[k] / 3 % 4:=⟨_,rfl⟩
  have E:(xg[k]:Int) / 3 % 4=(v:Int):=by omega
  have h1:=h.kx.keep p1 _ MH MG;obtain⟨s5,s6,V5,a1,a2,a3,a4,a5,a6,a7⟩:=h.push (c:=c) (bytes:=8) (i:=3) (z:=[.int .i64 0]) (x:= .int .i64 (v:Int)) hA JK jg (λA B=>rfl) (λA=>by simp) rfl rfl rfl (by decide) (by rw[Zb2,EE];omega) (by rw[Zb2,EE];omega);have e:(wY xg k).map cW++[(.int .i64 (v:Int):AV).cells]=(wY xg (k+1)).map cW:=by rw[Y7 xg k Aq,Zd7,hv];rfl
  rw[e]at a3;obtain⟨s7,V7,b1,b2⟩:=ih (k+1) s6 V5 (by omega) a3;refine⟨s7,V7,b1,λF k4 f hf=> ?_⟩;obtain⟨f,rfl⟩:∃g,f=g+1:=⟨f - 1,by omega⟩
  have b3:=b2 F k4 f (by omega);have aI:=λ(K:AV->St->Option (AV×St))(s:St)=>UT (c:=c) .u16 .i64 zg xg Aq K s
  have c1:(iW zt zg zy zr xt xg xy xr)[1]? =some (cM .u16 zg xg):=rfl;have UU:=h.h3;clear b2 ih a3 a4 a5 a6 e hv;have k6:k<=1000000:=by omega
  have x6:xg[k]<=4294967296:=by omega
  have w2:=SV k6;have w3:=We x6;rw[<-b3,sI];simp (disch:=omega) [-aT,-eE,-jO,bO,eW,Zb0,Zd9,h1,UU,l2,aI,c1,Ra,w3,E,a1,a2,a7,w2]
def tF(ts:List aL)(gs:List aO)(xr:List Nat):Nat->List Rl
 |0=>[]
 |k+1=>tF ts gs xr k++(if(eM ts gs (xr.getD k 0)).2=true then [(eM ts gs (xr.getD k 0)).1]else [])
theorem EF(ts:List aL)(gs:List aO)(xr:List Nat):∀k,(tF ts gs xr k).length<=k
 |0=>Za4 _
 |k+1=>by have:=EF ts gs xr k;unfold tF;rw[Ze0];split<;>simp<;>omega
theorem abh{R:Type}(k k':IntKind)(z:Bool)(l:List Nat){i:Nat}(h:i<l.length)(K:AV->Option R)(t:T AB):fJ (.idxA 1 none) [cM k z l,.int k' (i:Int)] (λv=>kW (.load none) [v] t (λ_=>true) K)=K (.int k (l[i]:Int)):=by
 unfold cM;simp[h]
theorem abi{R:Type}(s:St)(K:AV->AB->Option R):GO (.alloc [.int .u8 0,.int .i64 0,.str [],.str [],.str [],.int .i64 0]) [] s K=K (.ptr s.next 0) (.cells [.int .u8 0,.int .i64 0,.str [],.str [],.str [],.int .i64 0] 0):=rfl
theorem Wh(hc:bU c){xr:List Nat}(hx:∀x∈xr,x<4294967296)(hl:xr.length<=9223372036854775807){zt zg zy zr:Bool}{xt xg xy:List Nat}{st sA:St}{p1 p3:Pos}{x2 V1 V2 V3 V4:AV}(hA:Wf sA)(MG:sA.heap.get p1=some (.cells (iW zt zg zy zr xt xg xy xr) 0))(MH:p1≠p3)(JK:p3.toNat<sA.next.toNat)(jg:st.next.toNat<=p3.toNat)
  {ts:List aL} {gs:List aO} {r1 r2:List (List AV)} (hT:TS st sA V1 ts r1) (sT:TS.mH (p3.toNat+1) V1 r1) (hG:GS st sA V2 gs r2) (sG:GS.mH (p3.toNat+1) V2 r2) (lt:ts.length<=1000) (lg:gs.length<=1000)
  (hz:∀t∈ts,0<iU t.sh t.a t.b/\iU t.sh t.a t.b<=1000) (ha:∀t∈ts,(0<=t.a/\t.a<=1000000)/\0<=t.b/\t.b<=1000000):
  ∀(m k:Nat)(s:St)(V:AV),k+m=min xr.length 12->LL st sA s p3 6 V ((tF ts gs xr k).map Rl.cells) (λA=>[V1,V2,V3,V4,A])->
  ∃ s' V',LL st sA s' p3 6 V' ((tF ts gs xr (min xr.length 12)).map Rl.cells) (λA=>[V1,V2,V3,V4,A])/\∀(F:Nat)(k6:List AV->St->Option (AV×St))(f:Nat),m<f->
    gh c F k6 f [.ptr p1 0,x2,.ptr p3 0,.int .i64 (k:Int)] s=k6 [x2,.ptr p3 0] s':=by
 have c3:(iW zt zg zy zr xt xg xy xr)[3]? =some (cM .u32 zr xr):=rfl;have lI:=λ(K:AV->St->Option (AV×St))(s:St)=>E0 (c:=c) .u32 zr xr K s
 intro m;induction m with
 |zero=>
  intro k s V hk h;obtain rfl:k=min xr.length 12:=by omega
  refine⟨s,V,h,λF k6 f hf=> ?_⟩;obtain⟨f,rfl⟩:∃g,f=g+1:=⟨f - 1,by omega⟩
  have h1:=h.kx.keep p1 _ MH MG;rw[mX];by_cases h3:xr.length<=12
  .have e:min xr.length 12=xr.length:=(by omega);rw[e];simp[h1,c3,lI]
  .have e:min xr.length 12=12:=(by omega);have hd:decide ((12:Int)<(xr.length:Int))=true:=H5 (by omega);rw[e];simp[h1,c3,lI,hd]
 |succ m ih=>
  intro k s V hk h;have Aq:k<xr.length:=by omega
  have hk12:k<12:=by omega
  have AP:=hx _ (Zb9 Aq);have kM:k<=1000000:=by omega
  have d12:decide ((k:Int)<12)=true:=H5 (by omega);have nw:=λ(K:AV->AB->Option (AV×St))=>abi s K
  have xM:xr[k]<=4294967296:=by omega
  have h1:=h.kx.keep p1 _ MH MG;have gr:=h.out.aA;have A:=abe hc (V3:=V3) (V4:=V4) (V5:=V) (hT.kx h.kx gr sT) (hG.kx h.kx gr sG) lt lg hz ha xr[k] AP;have gn:=Grew.af gr.wf (.cells (eM ts gs xr[k]).1.cells 0);have hS:tF ts gs xr (k+1)=tF ts gs xr k++(if(eM ts gs xr[k]).2=true then [(eM ts gs xr[k]).1]else []):=by
    rw[tF];simp[Zc0,Aq]
  have DA:∀(K:AV->St->Option (AV×St)),ak c (.store 6) [.ptr s.next 0,.agg (eM ts gs xr[k]).1.cells] (af s (.cells [.int .u8 0,.int .i64 0,.str [],.str [],.str [],.int .i64 0] 0)) K=K .undef (af s (.cells (eM ts gs xr[k]).1.cells 0)):=λK=>dx c K s 6 (.agg (eM ts gs xr[k]).1.cells) [.int .u8 0,.int .i64 0,.str [],.str [],.str [],.int .i64 0] rfl rfl rfl
  have aP:=λ(K:AV->Option (AV×St))(t:T AB)=>abh .u32 .i64 zr xr Aq K t
  have hg:=h.aA gn;have UU:=h.h3;have XX:=hg.h3;have ll:=EF ts gs xr k;have cu5:∀A B D E G:AV,cut [A,B,D,E,G] 0 5=some [A,B,D,E,G]:=λA B D E G=>bI rfl
  have gx:=aC s (.cells (eM ts gs xr[k]).1.cells 0);by_cases hb:(eM ts gs xr[k]).2=true
  . rw[hb]at A;rw[Za8 hb]at hS;obtain⟨s5,s6,V5,a1,a2,a3,a4,a5,a6,a7⟩:=hg.push (c:=c) (bytes:=72) (i:=4) (z:=[.int .u8 0,.int .i64 0,.str [],.str [],.str [],.int .i64 0]) (x:= .agg (eM ts gs xr[k]).1.cells) hA JK jg (λA B=>rfl) (λA=>by simp) rfl rfl rfl (by decide) (by rw[Zb2];omega) (by rw[Zb2];omega);have e:(tF ts gs xr k).map Rl.cells++[(.agg (eM ts gs xr[k]).1.cells:AV).cells]=(tF ts gs xr (k+1)).map Rl.cells:=(by rw[hS,Zd7];rfl);rw[e]at a3;obtain⟨s7,V7,b1,b2⟩:=ih (k+1) s6 V5 (by omega) a3;refine⟨s7,V7,b1,λF k6 f hf=> ?_⟩;obtain⟨f,rfl⟩:∃g,f=g+1:=⟨f - 1,by omega⟩
    have b3:=b2 F k6 f (by omega);generalize (eM ts gs xr[k]).1=R at*
    clear b2 ih a3 a4 a5 a6 e hS hb ll hg h;have w2:=SV kM;have w3:=We xM;rw[<-b3,mX];simp (disch:=omega) [-aT,fA,Zb0,Zd9,h1,UU,XX,lI,aP,c3,Aq,d12,nw,w3,A,DA,cu5,gx,a1,a2,a7,w2]
  . have jf:(eM ts gs xr[k]).2=false:=(by simpa using hb);rw[jf]at A;rw[Za5 hb,Ze8]at hS;rw[<-hS]at hg;obtain⟨s7,V7,b1,b2⟩:=ih (k+1) _ V (by omega) hg;refine⟨s7,V7,b1,λF k6 f hf=> ?_⟩;obtain⟨f,rfl⟩:∃g,f=g+1:=⟨f - 1,by omega⟩
    have b3:=b2 F k6 f (by omega);generalize (eM ts gs xr[k]).1=R at*
    clear b2 ih hS hb jf ll hg h;have w2:=SV kM;have w3:=We xM;rw[<-b3,mX];simp (disch:=omega) [-aT,fA,Zb0,Zd9,h1,UU,XX,lI,aP,c3,Aq,d12,nw,w3,A,DA,cu5,gx,w2]
theorem TA(hc:bU c){xs:List Nat}(hx:∀x∈xs,x<65536)(hl:xs.length<=9223372036854775807)(z:Bool)(x1:AV){st:St}{p4 p5:Pos}(Dz:p4≠p5)(BS:st.next.toNat<=p5.toNat){W:AV}:∀(m k:Nat)(s:St)(V:AV)(rows:List (List AV)),k+m=min xs.length 12->
  GL st s p4 p5 V W (vC xs k) rows->∃s' V' EZ,GL st s' p4 p5 V' W (vC xs (min xs.length 12)) EZ/\∀(F:Nat)(_:5<=F)(k2:List AV->St->Option (AV×St))(f:Nat),m<f->
    dW c F k2 f [cM .u16 z xs,x1,.ptr p4 0,.ptr p5 0,.int .i64 (k:Int)] s=k2 [x1,.ptr p4 0,.ptr p5 0] s':=by
 intro m;induction m with
 |zero=>
  intro k s V rows hk h;obtain rfl:k=min xs.length 12:=by omega
  refine⟨s,V,rows,h,λF _ k2 f hf=> ?_⟩;obtain⟨f,rfl⟩:∃g,f=g+1:=⟨f - 1,by omega⟩
  have lI:∀(K:AV->St->Option (AV×St))(s:St),ak c (.lenB .l) [cM .u16 z xs] s K=K (.int .i64 (xs.length:Int)) s:=λK s=>by unfold cM;rw[ke];simp
  rw[sO];by_cases Q7:xs.length<=12
  .have e:min xs.length 12=xs.length:=(by omega);rw[e];simp[lI]
  .have e:min xs.length 12=12:=(by omega);rw[e];have hd:decide (12<xs.length)=true:=H5 (by omega);have Lo:(12:Nat)<xs.length:=(by omega);have UM:decide ((12:Int)<(xs.length:Int))=true:=H5 (by omega);simp[lI,UM]
 |succ m ih=>
  intro k s V rows hk h;obtain⟨s1,V1,r1,h1,e1⟩:=Tz hc hx z x1 Dz BS (k:=k) (by omega) (by omega) h;obtain⟨s2,V2,r2,h2,e2⟩:=ih (k+1) s1 V1 r1 (by omega) h1;refine⟨s2,V2,r2,h2,λF hF k2 f hf=> ?_⟩;obtain⟨f,rfl⟩:∃g,f=g+1:=⟨f - 1,by omega⟩
  rw[e1 F hF k2 f,e2 F hF k2 f (by omega)]
structure YL(st s:St)(p4 p5:Pos)(V W:AV)(gs:List aO)(rows:List (List AV))(ys:List Ty):Prop where
 gl:GL st s p4 p5 V W gs rows
 ty:Mk 3 st s W (ys.map Ty.cells)
 w4:bg W≠some p4
 w5:bg W≠some p5
 wV:∀b,bg W=some b->bg V≠some b
 wI:∀(i:Nat)(r:List AV)(v:AV)(b:Pos),rows[i]? =some r->r[8]? =some v->bg v=some b->bg W≠some b
theorem YL.start{st s:St}{p4 p5:Pos}{V:AV}{gs:List aO}{rows:List (List AV)}(h:GL st s p4 p5 V .ah gs rows):YL st s p4 p5 V .ah gs rows []:=
 ⟨h,Mk.start h.out.sk h.out.aA,λe=>(nomatch e),λe=>(nomatch e),λ_ e=>(nomatch e),λ_ _ _ _ _ _ _ e=>(nomatch e)⟩
theorem YL.push{st s:St}{p4 p5:Pos}{V W:AV}{gs:List aO}{rows:List (List AV)}{ys:List Ty}(h:YL st s p4 p5 V W gs rows ys)(Dz:p4≠p5)(BS:st.next.toNat<=p5.toNat)(t:Ty)(hlen:ys.length<=1000000):
   ∃s5 s6 W5,(∀(K:AV->St->Option (AV×St)),ak c (.buildSlice 3 1 [.str [],.str [],.int .u8 0] [0]) [.agg t.cells] s (λy q=>ak c (.append 3 40) [W,y] q K)=K W5 s5)/\
    (∀(K:AV->St->Option (AV×St)),ak c (.store 1) [.ptr p5 1,W5] s5 K=K .undef s6)/\YL st s6 p4 p5 V W5 gs rows (ys++[t]):=by
 have hw:=h.gl.out.aA.wf;obtain⟨s5,W5,a1,a2,a3,a4⟩:=h.ty.push (c:=c) (R:=AV×St) (bytes:=40) (z:=[.str [],.str [],.int .u8 0]) (x:= .agg t.cells) rfl rfl rfl (by decide) (by rw[Zb2];omega) (by rw[Zb2];omega);have e:(ys++[t]).map Ty.cells=ys.map Ty.cells++[(.agg t.cells:AV).cells]:=by rw[Zd7];rfl
 rw[<-e]at a2;have y4:=a3 p4 _ h.w4 h.gl.h4;have y5:=a3 p5 _ h.w5 h.gl.h5;have l4:=hw p4 _ h.gl.h4;have l5:=hw p5 _ h.gl.h5;have b4:bg W5≠some p4:=λe=>by have:=a4 _ e;omega
 have b5:bg W5≠some p5:=λe=>by have:=a4 _ e;omega
 have YU:=a2.aA.wf p5 _ y5;obtain⟨vc,v1⟩:=a2.cells;have aJ:∀(K:AV->St->Option (AV×St)),ak c (.store 1) [.ptr p5 1,W5] s5 K=K .undef (cv s5 p5 (.cells [V,W5] 0)):=λK=>by rw[dU c K s5 1 p5 1 W5 [V,W] y5 (by rw[vc];rfl) (by simp) (by rw[vc];exact v1),vc];rfl
 have M6:=a2.store (p:=p5) (b:= .cells [V,W5] 0) BS YU b5;have keep:∀(u:AV)(n:Nat)(rw:List (List AV)),Mk n st s u rw->(∀b,bg u=some b->bg W≠some b/\b≠p5)->Mk n st (cv s5 p5 (.cells [V,W5] 0)) u rw:=λu n rw hu cG=>
   SS hu M6.aA λb y hb hy=>by rw[bt (λe=>(cG b hb).2 e.symm)];exact a3 b y (cG b hb).1 hy
 have newW:∀b,bg W5=some b->s.next.toNat<=b.toNat:=a4;refine⟨s5,_,W5,a1,aJ,⟨⟨keep V 9 rows h.gl.out λb hb=>⟨λe=>h.wV b e hb,λe=>h.gl.n5 (by rw[hb,e])⟩,h.gl.len,λi g r hi hr=> ?_,by rw[bt (λe=>Dz e.symm)];exact y4,ej _ _ _,h.gl.n4,h.gl.n5⟩,M6,b4,b5,λb hb e=> ?_,λi r v b hr h8 hv e=> ?_⟩⟩
 .obtain⟨v,e1,e2,e3⟩:=h.gl.pZ i g r hi hr;have h8:r[8]? =some v:=(by rw[e1];rfl);exact⟨v,e1,keep v 1 _ e2 λb hb=>⟨h.wI i r v b hr h8 hb,(e3 b hb).2.2⟩,e3⟩
 .have:=newW b hb;have:=h.gl.out.own.lt hw e;omega
 .have p1:=newW b e;have hi:i<gs.length:=(by rw[<-h.gl.len];exact(Za1.1 hr).1);obtain⟨u,e1,e2,_⟩:=h.gl.pZ i gs[i] r (H4 hi) hr;have:u=v:=(by rw[e1]at h8;exact Zg7 h8);subst this;have:=e2.own.lt hw hv;omega
def iY(gs:List aO):List (List Nat):=gs.map λg=>g.name
def NP(bh:List Nat)(i k n:Nat):Ty:=⟨bn i,bn k,1+((bh.getD n 0 % 4:Nat):Int)⟩
def SW(bh:List Nat)(n:Nat):Bool:=decide (n<bh.length)&&decide (bh.getD n 0 % 4<2)
def wZ(bh:List Nat)(i k n:Nat)(ys:List Ty):List Ty:=if SW bh n=true then ys++[NP bh i k n]else ys
theorem SX(bh:List Nat)(i k n:Nat)(ys:List Ty):(wZ bh i k n ys).length<=ys.length+1:=by unfold wZ;split<;>simp
def iZ(names:List (List Nat))(bh:List Nat)(i:Nat):Nat->Nat->Nat->List Ty->Nat×List Ty
 |0,_,n,ys=>(n,ys)
 |m+1,k,n,ys=>if bn i∈names then(if bn k∈names then iZ names bh i m (k+1) (n+1) (wZ bh i k n ys)else iZ names bh i m (k+1) n ys)else(n,ys)
theorem GL.there(hc:bU c){st s:St}{p4 p5:Pos}{V W:AV}{gs:List aO}{rows:List (List AV)}(h:GL st s p4 p5 V W gs rows)(hl:gs.length<=1000)(x:Nat)(hx:x<1000000):
  c 45 [.agg [V,W],.int .i64 (x:Int)] s=some (.bool (decide (bn x∈iY gs)),s):=
 abd hc h.out.own h.out.row (names:=iY gs) (by rw[iY,Zb2,h.len]) (λi h1 h2=>by
  have h3:i<gs.length:=by rw[<-h.len];exact h1
  obtain⟨v,e,_⟩:=h.pZ i gs[i] rows[i] (H4 h3) (H4 h1);rw[e];simp[iY,aO.au]) (by rw[h.len];exact hl) x hx h.out.aA.wf
theorem TE{R:Type}(h:T AB)(ok:AV->Bool)(xs:List (List AV))(i j:Nat)(K1:AV->Option R):kW (.load none) [.fp xs i j] h ok K1=rP (xs[i]?.bind λcs=>cs[j]?) K1:=by unfold kW;rw[uJ,uJ];cases hx:(xs[i]?.bind λcs=>cs[j]?)<;>rfl
theorem Y8{R:Type}(a b:List Nat)(k:Int)(s:St)(K:AV->AB->Option R):GO (.buildSlice 3 1 [.str [],.str [],.int .u8 0] [0]) [.agg [.str a,.str b,.int .u8 k]] s K=K (.slice s.next 0 1 (some 1) 3) (.cells [.str a,.str b,.int .u8 k] 0):=rfl
theorem Wi(a b:List Nat)(k:Int)(K:AV->Option (AV×St)):fJ (.build [.str [],.str [],.int .u8 0] [(0,1),(1,1),(2,1)]) [.str a,.str b,.int .u8 k] K=K (.agg [.str a,.str b,.int .u8 k]):=rfl
theorem ac5 (hc:bU c){bh:List Nat}(ht:∀x∈bh,x<256)(z:Bool){st:St}{p4 p5:Pos}(Dz:p4≠p5)(BS:st.next.toNat<=p5.toNat){V:AV}{gs:List aO}(Y9:gs.length<=1000){rows:List (List AV)}{i:Nat}(hi:i<1000):
  ∀(m k n:Nat)(s:St)(W:AV)(ys:List Ty),k+m=312->ys.length<=n->n+m<=1000000->YL st s p4 p5 V W gs rows ys->
  ∃ s' W',YL st s' p4 p5 V W' gs rows (iZ (iY gs) bh i m k n ys).2/\∀(F:Nat)(k8:List AV->St->Option (AV×St))(f:Nat),m<f->
    gq c F k8 f [cM .u8 z bh,.ptr p4 0,.ptr p5 0,.int .i64 (n:Int),.int .i64 (i:Int),.int .i64 (k:Int)] s=k8 [cM .u8 z bh,.ptr p4 0,.ptr p5 0,.int .i64 ((iZ (iY gs) bh i m k n ys).1:Int),.int .i64 (i:Int)] s':=by
 intro m;induction m with
 |zero=>
  intro k n s W ys hk hy hn h;obtain rfl:k=312:=by omega
  refine⟨s,W,h,λF k8 f hf=> ?_⟩;obtain⟨f,rfl⟩:∃g,f=g+1:=⟨f - 1,by omega⟩
  rw[fq];simp[iZ]
 |succ m ih  =>
  intro k n s W ys hk hy hn h;have T1:=h.gl.there hc Y9 i (by omega);have T2:=h.gl.there hc Y9 k (by omega);have hd:decide ((k:Int)<312)=true:=H5 (by omega);have w:ax .i64 ((k:Int)+1)=((k+1:Nat):Int):=wrap64 (by omega) (by omega);have w2:ax .i64 ((n:Int)+1)=((n+1:Nat):Int):=wrap64 (by omega) (by omega);have h5:=h.gl.h5;have cu:cut [V,W] 0 2=some [V,W]:=rfl;have lI:∀(K:AV->St->Option (AV×St))(s:St),ak c (.lenB .l) [cM .u8 z bh] s K=K (.int .i64 (bh.length:Int)) s:=λK s=>by unfold cM;rw[ke];simp
  by_cases Ph:bn i∈iY gs
  . by_cases sy:bn k∈iY gs
    .   have eT:iZ (iY gs) bh i (m+1) k n ys=iZ (iY gs) bh i m (k+1) (n+1) (wZ bh i k n ys):=(by rw[iZ,Za8 Ph,Za8 sy]);rw[eT];have hl:=SX bh i k n ys;by_cases ku:n<bh.length
        . have ix:∀(K:AV->St->Option (AV×St))(s:St),ak c (.idxA 1 none) [cM .u8 z bh,.int .i64 (n:Int)] s K=K (.fp (bh.map λ(i:Nat)=>[.int .u8 (i:Int)]) n 0) s:=λK s=>by unfold cM;rw[Rr];simp[ku]
          have pix:∀(K:AV->Option (AV×St)),fJ (.idxA 1 none) [cM .u8 z bh,.int .i64 (n:Int)] K=K (.fp (bh.map λ(i:Nat)=>[.int .u8 (i:Int)]) n 0):=λK=>by unfold cM;rw[aaa];simp[ku]
          obtain⟨x,hx⟩:∃x,bh[n]=x:=⟨_,rfl⟩
          have hx8:x<256:=(by rw[<-hx];exact ht _ (Zb9 ku));have gd:bh.getD n 0=x:=(by simp[Zc0,ku,hx]);have r1:=λ(s:St)(K:AV->St->Option (AV×St))=>bO (c:=c) (k:= .u8) (a:=(x:Int)) (b:=4) (by omega) (by omega) s K
          have r2:=λ(K:AV->Option (AV×St))=>Ey (k:= .u8) (a:=(x:Int)) (b:=4) (by omega) (by omega) K
          have w8:ax .u8 (1+(x:Int) % 4)=1+(x:Int) % 4:=xk (by omega) (by omega);have eC:SW bh n=decide (x % 4<2):=(by unfold SW;rw[gd,H5 ku,Zf5]);have d2:decide ((x:Int) % 4<2)=decide (x % 4<2):=decide_eq_decide.2 (by omega);by_cases hx4:x % 4<2
          . have eY:wZ bh i k n ys=ys++[NP bh i k n]:=(by unfold wZ;rw[eC,Za8 (H5 hx4)]);rw[eY]at hl ⊢;obtain⟨s5,s6,W5,a1,a2,a3⟩:=h.push (c:=c) Dz BS (NP bh i k n) (by omega);have eU:(NP bh i k n).cells=[.str (bn i),.str (bn k),.int .u8 (1+(x:Int) % 4)]:=(by unfold NP Ty.cells;rw[gd];simp);have a1':∀K,ak c (.append 3 40) [W,.slice s.next 0 1 (some 1) 3] (af s (.cells [.str (bn i),.str (bn k),.int .u8 (1+(x:Int) % 4)] 0)) K=K W5 s5:=λK=>by have h1:=a1 K;rw[Um (es:=3) (z:=[.str [],.str [],.int .u8 0]) (x:= .agg (NP bh i k n).cells) rfl rfl]at h1;rw[<-eU];exact h1
            have N1:=rq hc i (by omega) s h.gl.out.aA.wf;have N2:=rq hc k (by omega) s h.gl.out.aA.wf;obtain⟨s',W',b1,b2⟩:=ih (k+1) (n+1) s6 W5 _ (by omega) (by omega) (by omega) a3;refine⟨s',W',b1,λF k8 f hf=> ?_⟩;obtain⟨f,rfl⟩:∃g,f=g+1:=⟨f - 1,by omega⟩
            rw[<-b2 F k8 f (by omega),fq];simp[-aT,-uL,-xK,h5,cu,T1,T2,Ph,sy,hd,fA,lI,ku,ix,pix,hx,r1,r2,d2,hx4,w8,N1,N2,TE,Y8,Wi,a1',a2,w,w2]
          . have eY:wZ bh i k n ys=ys:=(by unfold wZ;rw[eC,Za5 (by simp;omega)]);rw[eY];obtain⟨s',W',b1,b2⟩:=ih (k+1) (n+1) s W ys (by omega) (by omega) (by omega) h;refine⟨s',W',b1,λF k8 f hf=> ?_⟩;obtain⟨f,rfl⟩:∃g,f=g+1:=⟨f - 1,by omega⟩
            have d2':decide ((x:Int) % 4<2)=false:=Za2 (by omega);rw[<-b2 F k8 f (by omega),fq];simp[-aT,-uL,-xK,h5,cu,T1,T2,Ph,sy,hd,fA,lI,ku,ix,hx,r1,d2',w,w2]
        . have eY:wZ bh i k n ys=ys:=(by unfold wZ SW;rw[Za2 ku,Bool.false_and,Za5 (by decide)]);rw[eY];obtain⟨s',W',b1,b2⟩:=ih (k+1) (n+1) s W ys (by omega) (by omega) (by omega) h;refine⟨s',W',b1,λF k8 f hf=> ?_⟩;obtain⟨f,rfl⟩:∃g,f=g+1:=⟨f - 1,by omega⟩
          rw[<-b2 F k8 f (by omega),fq];simp[-aT,-uL,-xK,h5,cu,T1,T2,Ph,sy,hd,fA,lI,ku,w,w2]
    .   have eT:iZ (iY gs) bh i (m+1) k n ys=iZ (iY gs) bh i m (k+1) n ys:=(by rw[iZ,Za8 Ph,Za5 sy]);rw[eT];obtain⟨s',W',b1,b2⟩:=ih (k+1) n s W ys (by omega) (by omega) (by omega) h;refine⟨s',W',b1,λF k8 f hf=> ?_⟩;obtain⟨f,rfl⟩:∃g,f=g+1:=⟨f - 1,by omega⟩
        rw[<-b2 F k8 f (by omega),fq];simp[-aT,-uL,-xK,h5,cu,T1,T2,Ph,sy,hd,fA,w]
  . have eT:iZ (iY gs) bh i (m+1) k n ys=(n,ys):=(by rw[iZ,Za5 Ph]);rw[eT];refine⟨s,W,h,λF k8 f hf=> ?_⟩;obtain⟨f,rfl⟩:∃g,f=g+1:=⟨f - 1,by omega⟩
    rw[fq];simp[-aT,-uL,-xK,h5,cu,T1,Ph,hd,fA]
theorem HO(names:List (List Nat))(bh:List Nat)(i:Nat):∀(m k n:Nat)(ys:List Ty),ys.length<=n->(iZ names bh i m k n ys).2.length<=(iZ names bh i m k n ys).1/\(iZ names bh i m k n ys).1<=n+m
 |0,k,n,ys,h=>by unfold iZ;exact⟨h,by omega⟩
 |m +   1,k,n,ys,h=>by
  unfold iZ;split
  . split
    .   have hl:=SX bh i k n ys;have:=HO names bh i m (k+1) (n+1) (wZ bh i k n ys) (by omega);omega
    .   have:=HO names bh i m (k+1) n ys h;omega
  .exact⟨h,by omega⟩
def HP(names:List (List Nat))(bh:List Nat):Nat->Nat->Nat->List Ty->List Ty
 |0,_,_,ys=>ys
 |m+1,i,n,ys=>HP names bh m (i+1) (iZ names bh i m (i+1) n ys).1 (iZ names bh i m (i+1) n ys).2
theorem acB(hc:bU c){bh:List Nat}(ht:∀x∈bh,x<256)(z:Bool){st:St}{p4 p5:Pos}(Dz:p4≠p5)(BS:st.next.toNat<=p5.toNat){V:AV}{gs:List aO}(Y9:gs.length<=1000){rows:List (List AV)}:
  ∀(m i n:Nat)(s:St)(W:AV)(ys:List Ty),i+m=312->ys.length<=n->n+m*312<=1000000->YL st s p4 p5 V W gs rows ys->
  ∃s' W',YL st s' p4 p5 V W' gs rows (HP (iY gs) bh m i n ys)/\∀(F:Nat)(_:400<=F)(k6:List AV->St->Option (AV×St))(f:Nat),m<f->
   gw c F k6 f [cM .u8 z bh,.ptr p4 0,.ptr p5 0,.int .i64 (n:Int),.int .i64 (i:Int)] s=k6 [.ptr p4 0,.ptr p5 0] s':=by
 intro m;induction m with
 |zero=>
  intro i n s W ys hk hy hn h;obtain rfl:i=312:=by omega
  refine⟨s,W,h,λF _ k6 f hf=> ?_⟩;obtain⟨f,rfl⟩:∃g,f=g+1:=⟨f - 1,by omega⟩
  rw[sN];simp
 |succ m ih=>
  intro i n s W ys hk hy hn h;have hd:decide ((i:Int)<312)=true:=H5 (by omega);have b1: -9223372036854775808<=(i:Int)+1:=by omega
  have b2:(i:Int)+1<=9223372036854775807:=by omega
  have e3:((i+1:Nat):Int)=(i:Int)+1:=by omega
  obtain⟨s1,W1,h1,e1⟩:=ac5 hc ht z Dz BS Y9 (i:=i) (by omega) m (i+1) n s W ys (by omega) hy (by omega) h;have hl:=HO (iY gs) bh i m (i+1) n ys hy;obtain⟨s2,W2,h2,e2⟩:=ih (i+1) _ s1 W1 _ (by omega) hl.1 (by omega) h1;refine⟨s2,W2,h2,λF hF k6 f hf=> ?_⟩;obtain⟨f,rfl⟩:∃g,f=g+1:=⟨f - 1,by omega⟩
  have OQ:=λk8=>e1 F k8 F (by omega)
  rw[<-e2 F hF k6 f (by omega),sN];clear e1 e2 hl;have w:ax .i64 ((i:Int)+1)=(i:Int)+1:=wrap64 b1 b2;rw[e3]at OQ ⊢;simp[hd,w,OQ]
structure RS(st s:St)(V W:AV)(gs:List aO)(rows:List (List AV))(ys:List Ty):Prop where
 aA:Grew st s
 out:Mk 9 st s V rows
 len:rows.length=gs.length
 pZ:∀(i:Nat)(g:aO)(r:List AV),gs[i]? =some g->rows[i]? =some r->∃v,r=g.au v/\Mk 1 st s v (g.tg.map HM)/\∀b,bg v=some b->bg V≠some b/\bg W≠some b
 ty:Mk 3 st s W (ys.map Ty.cells)
 wV:∀b,bg W=some b->bg V≠some b
def ew(xs:List Nat):List aO:=vC xs (min xs.length 12)
def uV(xs bh:List Nat):List Ty:=HP (iY (ew xs)) bh 312 0 0 []
theorem xT(xs:List Nat):(ew xs).length<=12:=by unfold ew;rw[EY];omega
theorem acC(hc:bU c){xs bh:List Nat}(hx:∀x∈xs,x<65536)(hl:xs.length<=9223372036854775807)(ht:∀x∈bh,x<256)(z z2:Bool)(st:St)(hw:Wf st):
   ∃V W s' rows,c 23 [cM .u16 z xs,cM .u8 z2 bh] st=some (.agg [V,W],s')/\RS st s' V W (ew xs) rows (uV xs bh):=by
 have dI:Wf (af st (.cells [.ah,.ah] 0)):=bR hw;have g1:=Grew.af hw (.cells [.ah,.ah] 0);have g2:=Grew.af dI (.cells [.ah,.ah] 0);have YV:st.next≠(af st (.cells [.ah,.ah] 0)).next:=by rw[c9];exact Pos.M7 _
 have BS:st.next.toNat<=(af st (.cells [.ah,.ah] 0)).next.toNat:=by rw[c9,Pos.az];omega
 have G0:GL st (af (af st (.cells [.ah,.ah] 0)) (.cells [.ah,.ah] 0)) st.next (af st (.cells [.ah,.ah] 0)).next .ah .ah (vC xs 0) []:=
   ⟨Mk.start hw (g1.trans g2),rfl,λi g r hi _=>by simp[vC]at hi,g2.get (aC _ _),aC _ _,λe=>(nomatch e),λe=>(nomatch e)⟩
 obtain⟨s1,V,rows,h1,e1⟩:=TA hc hx hl z (cM .u8 z2 bh) YV BS (min xs.length 12) 0 _ .ah [] (by omega) G0;obtain⟨s2,W,h2,e2⟩:=acB hc ht z2 YV BS (gs:=ew xs) (by have:=xT xs;omega) 312 0 0 s1 .ah [] (by omega) (by simp) (by omega) (YL.start h1);have OQ:∀k2:List AV->St->Option (AV×St),dW c 400 k2 400 [cM .u16 z xs,cM .u8 z2 bh,.ptr st.next 0,.ptr (af st (.cells [.ah,.ah] 0)).next 0,.int .i64 0] (af (af st (.cells [.ah,.ah] 0)) (.cells [.ah,.ah] 0))=k2 [cM .u8 z2 bh,.ptr st.next 0,.ptr (af st (.cells [.ah,.ah] 0)).next 0] s1:=λk2=>e1 400 (by omega) k2 400 (by omega)
 have X6:∀k6:List AV->St->Option (AV×St),gw c 400 k6 400 [cM .u8 z2 bh,.ptr st.next 0,.ptr (af st (.cells [.ah,.ah] 0)).next 0,.int .i64 0,.int .i64 0] s1=k6 [.ptr st.next 0,.ptr (af st (.cells [.ah,.ah] 0)).next 0] s2:=λk6=>e2 400 (by omega) k6 400 (by omega)
 have h5:=h2.gl.h5;have h4:=h2.gl.h4;have l4:=h2.gl.out.aA.wf _ _ h4;obtain⟨vc,v1⟩:=h2.gl.out.cells;obtain⟨wc,w1⟩:=h2.ty.cells;have one:aQ [V,W]=true:=by
   have v2:V.one=true:=qx v1;have w2:W.one=true:=qx w1;simp only[aQ,v2,w2]
 have cu:cut [V,W] 0 2=some [V,W]:=rfl;have DA:∀(K:AV->St->Option (AV×St)),ak c (.store 2) [.ptr st.next 0,.agg [V,W]] s2 K=K .undef (cv s2 st.next (.cells [V,W] 0)):=λK=>by rw[dU c K s2 2 st.next 0 (.agg [V,W]) [.ah,.ah] h4 rfl (by simp) one];rfl
 have A:=h2.gl.out.store (p:=st.next) (b:= .cells [V,W] 0) (Za4 _) l4 h2.gl.n4;have B:=h2.ty.store (p:=st.next) (b:= .cells [V,W] 0) (Za4 _) l4 h2.w4;have ins:∀u∈[V,W],gJ u:=λu hu=>by
   simp only[Za9,Ze4,Zj0]at hu;rcases hu with rfl|rfl
   .exact A.inst
   .exact B.inst
 obtain⟨sa,t1,ta,tA⟩:=A.Ex (l:=[V,W]) (by simp) ins;obtain⟨sb,t2,tb,tB⟩:=B.Ex (l:=[V,W]) (by simp) ins;have OW:sb=sa:=by rw[t1]at t2;exact(Prod.mk.inj t2).2.symm
 subst OW;refine⟨V,W,sb,rows,?_,⟨tA.aA,tA,h2.gl.len,λi g r hi hr=> ?_,tB,h2.wV⟩⟩
 .rw[Dx hc 400 (r:=(.agg [V,W],cv s2 st.next (.cells [V,W] 0))),t1];rw[Gb];simp[OQ,X6,h5,cu,DA]
 . obtain⟨v,q1,q2,q3⟩:=h2.gl.pZ i g r hi hr;have h8:r[8]? =some v:=(by rw[q1];rfl);refine⟨v,q1,?_,λb hb=>⟨(q3 b hb).1,h2.wI i r v b hr h8 hb⟩⟩;rcases ta with rfl|rfl
   .exact q2.store (p:=st.next) (b:= .cells [V,W] 0) (Za4 _) l4 (λe=>(q3 _ e).2.1 rfl)
   . (exfalso;have cG:rows≠[]:=λe=>by rw[e]at hr;simp at hr);rcases tA.loose with⟨b,off,n,rfl⟩|⟨_,e⟩
     .  have p1:=tA.new b (nZ _ _ _ _);have p2:=tA.own.lt hw (nZ _ _ _ _);omega
     .  exact cG e
def fe(xt:List Nat):List aL:=mT xt (min xt.length 3)
def sv(xt xg:List Nat):List Nat:=xg.take (min xg.length (gG xt (min xt.length 3)))
def jZ(xt xg:List Nat):List aO:=ew (sv xt xg)
def Za(xt xg xy:List Nat):List Ty:=uV (sv xt xg) xy
def lu(xt xg xy:List Nat):List Int:=if 0<xy.length % 4 then wY xg (jZ xt xg).length else []
def ac6(xt xg xr:List Nat):List Rl:=tF (fe xt) (jZ xt xg) xr (min xr.length 12)
def mF(xt xg xy xr:List Nat):bZ:=⟨true,fe xt,true,jZ xt xg,true,Za xt xg xy,true,lu xt xg xy,true,ac6 xt xg xr⟩
theorem Zb(x:Nat):0<tN x:=by
 have:0<tA x:=by unfold tA;split<;>(try split)<;>(try split)<;>omega
 unfold tN;split<;>(try split)<;>omega
theorem Kw{xs:List Nat}{k:Nat}{t:aL}(h:t∈mT xs k):∃i x,t=gK i x:=by
 unfold mT at h;simp only[Zf4]at h;obtain⟨i,_,rfl⟩:=h;exact⟨_,_,rfl⟩
theorem Zc{xs:List Nat}{k:Nat}:∀t∈mT xs k,0<iU t.sh t.a t.b/\iU t.sh t.a t.b<=1000:=λt h=>by obtain⟨i,x,rfl⟩:=Kw h;have e:iU (gK i x).sh (gK i x).a (gK i x).b=((tN x:Nat):Int):=IZ x;have h1:=Zb x;have h2:=Mh x;rw[e];omega
theorem R7{xs:List Nat}{k:Nat}:∀t∈mT xs k,(0<=t.a/\t.a<=1000000)/\0<=t.b/\t.b<=1000000:=λt h=>by obtain⟨i,x,rfl⟩:=Kw h;have h1:=Qj x;have h2:=Qk x;show(0<=((tA x:Nat):Int)/\((tA x:Nat):Int)<=1000000)/\0<=((tB x:Nat):Int)/\((tB x:Nat):Int)<=1000000;omega
theorem RS.gs{st sL sR:St}{V W:AV}{gs:List aO}{rows:List (List AV)}{ys:List Ty}(h:RS sL sR V W gs rows ys)(h0:Wf st)(g:Grew st sL):GS st sR V gs rows/\GS.mH sL.next.toNat V rows:=
 ⟨⟨h.out.back h0 g,h.len,λi t r hi hr=>by
   obtain⟨v,e1,e2,e3⟩:=h.pZ i t r hi hr;exact⟨v,e1,e2.back h0 g,λb hb=>(e3 b hb).1⟩⟩,h.out.new,λi r v b hr h8 hb=>by
   have hi:i<gs.length:=(by rw[<-h.len];exact(Za1.1 hr).1);obtain⟨u,e1,e2,_⟩:=h.pZ i gs[i] r (H4 hi) hr;have:u=v:=(by rw[e1]at h8;exact Zg7 h8);subst this;exact e2.new b hb⟩
theorem TS.mH.le{n m:Nat}{V:AV}{rows:List (List AV)}(h:TS.mH n V rows)(hm:m<=n):TS.mH m V rows:=⟨λb hb=>Zc4 hm (h.1 b hb),λi r v b h1 h2 h3=>Zc4 hm (h.2 i r v b h1 h2 h3)⟩
theorem GS.mH.le{n m:Nat}{V:AV}{rows:List (List AV)}(h:GS.mH n V rows)(hm:m<=n):GS.mH m V rows:=⟨λb hb=>Zc4 hm (h.1 b hb),λi r v b h1 h2 h3=>Zc4 hm (h.2 i r v b h1 h2 h3)⟩
theorem PS.adU{s s':St}{V1 V2 V3 V4 V5:AV}{p:bZ}{r1 r2:List (List AV)}(h1:TS s s' V1 p.ts r1)(h2:GS s s' V2 p.gs r2)(h3:Mk 3 s s' V3 (p.ys.map Ty.cells))(h4:Mk 1 s s' V4 (p.cs.map cW))(h5:Mk 6 s s' V5 (p.rs.map Rl.cells)):
   ∃jR,Go.Ai.tidy s (.agg [V1,V2,V3,V4,V5],s')=(.agg [V1,V2,V3,V4,V5],jR)/\PS s jR [V1,V2,V3,V4,V5] p:=by
 obtain⟨jR,e,g,k⟩:=Mk.aaj (s:=s) (s':=s') (l:=[V1,V2,V3,V4,V5]) (λu hu=>by
   simp only[Za9,Ze4,Zj0]at hu;rcases hu with rfl|rfl|rfl|rfl|rfl
   .exact h1.out.inst
   .exact h2.out.inst
   .exact h3.inst
   .exact h4.inst
   .exact h5.inst) h1.out.sk h1.out.aA
 obtain⟨a1,b1⟩:=k 7 V1 r1 (by simp) h1.out;obtain⟨a2,b2⟩:=k 9 V2 r2 (by simp) h2.out;obtain⟨a3,_⟩:=k 3 V3 _ (by simp) h3;obtain⟨a4,_⟩:=k 1 V4 _ (by simp) h4;obtain⟨a5,_⟩:=k 6 V5 _ (by simp) h5;refine⟨jR,e,g,V1,V2,V3,V4,V5,r1,r2,rfl,⟨a1,h1.len,λi t r hi hr=> ?_⟩,⟨a2,h2.len,λi t r hi hr=> ?_⟩,a3,a4,a5⟩
 . rcases b1 with rfl|rfl
   .exact h1.pZ i t r hi hr
   .simp at hr
 . rcases b2 with rfl|rfl
   .exact h2.pZ i t r hi hr
   .simp at hr
theorem Zd{R:Type}(k k':IntKind)(z:Bool)(l:List Nat){i:Nat}(h:i<=l.length)(K:AV->Option R):fJ (.sliceL 1 false true false) [cM k z l,.int k' (i:Int)] K=K (cM k (z&&l.isEmpty) (l.take i)):=by unfold cM;rw[XB,Zb2,Za8 h];simp only[Zp0,Zm9];rfl
theorem Ze{R:Type}(k:IntKind)(z:Bool)(l:List Nat)(K:AV->Option R):fJ (.lenB .l) [cM k z l] K=K (.int .i64 (l.length:Int)):=by unfold cM;rw[Ro];simp
theorem abj{R:Type}(s:St)(K:AV->AB->Option R):GO (.alloc [.ah,.ah]) [] s K=K (.ptr s.next 0) (.cells [.ah,.ah] 0):=rfl
theorem acg (hc:bU c) {xt xg xy xr:List Nat}(ht:∀x∈xt,x<256)(hg:∀x∈xg,x<65536)(hy:∀x∈xy,x<256)(hr:∀x∈xr,x<4294967296)(lt:xt.length<=9223372036854775807)(lg:xg.length<=9223372036854775807)(lr:xr.length<=9223372036854775807)(ly:xy.length<=9223372036854775807)
  (zt zg zy zr:Bool) (st:St) (hw:Wf st):∃Vs s',c 6 [.agg (iW zt zg zy zr xt xg xy xr)] st=some (.agg Vs,s')/\PS st s' Vs (mF xt xg xy xr):=by
 have w1:Wf (af st (.cells (iW zt zg zy zr xt xg xy xr) 0)):=bR hw;have w2:Wf (af (af st (.cells (iW zt zg zy zr xt xg xy xr) 0)) (.cells [.ah,.ah,.ah,.ah,.ah] 0)):=bR w1;have g1:=Grew.af hw (.cells (iW zt zg zy zr xt xg xy xr) 0);have g2:=Grew.af w1 (.cells [.ah,.ah,.ah,.ah,.ah] 0);have g3:=Grew.af w2 (.cells [.ah,.ah,.ah,.ah,.ah] 0);obtain⟨p1,gY⟩:∃p1,p1=st.next:=⟨_,rfl⟩
 obtain⟨p2,vS⟩:∃p2,p2=(af st (.cells (iW zt zg zy zr xt xg xy xr) 0)).next:=⟨_,rfl⟩
 obtain⟨p3,Uv⟩:∃p3,p3=(af (af st (.cells (iW zt zg zy zr xt xg xy xr) 0)) (.cells [.ah,.ah,.ah,.ah,.ah] 0)).next:=⟨_,rfl⟩
 obtain⟨s3,BI⟩:∃s3,s3=af (af (af st (.cells (iW zt zg zy zr xt xg xy xr) 0)) (.cells [.ah,.ah,.ah,.ah,.ah] 0)) (.cells [.ah,.ah,.ah,.ah,.ah] 0):=⟨_,rfl⟩
 have n1:st.next.toNat=p1.toNat:=by rw[gY]
 have n2:p2.toNat=p1.toNat+1:=by rw[vS,c9,Pos.az,gY]
 have n3:p3.toNat=p2.toNat+1:=by rw[Uv,c9,Pos.az,vS]
 have n4:s3.next.toNat=p3.toNat+1:=by rw[BI,c9,Pos.az,Uv]
 have G3:Grew st s3:=by rw[BI];exact(g1.trans g2).trans g3
 have H1:s3.heap.get p1=some (.cells (iW zt zg zy zr xt xg xy xr) 0):=by rw[BI,gY];exact g3.get (g2.get (aC _ _))
 have H2:s3.heap.get p2=some (.cells [.ah,.ah,.ah,.ah,.ah] 0):=by rw[BI,vS];exact g3.get (aC _ _)
 have H3:s3.heap.get p3=some (.cells [.ah,.ah,.ah,.ah,.ah] 0):=by rw[BI,Uv];exact aC _ _
 have d13:p1≠p3:=λe=>by subst e;omega
 have d23:p2≠p3:=λe=>by subst e;omega
 have W3:=G3.wf
 obtain⟨sL,V1,r1,T1,e1⟩:=Y6 (c:=c) (x2:= .ptr p2 0) hc ht lt (zt:=zt) (zg:=zg) (zy:=zy) (zr:=zr) (xg:=xg) (xy:=xy) (xr:=xr) W3 H1 d13 (by omega) (by omega) (st:=st) (min xt.length 3) 0 s3 .ah [] (by omega)
  ⟨⟨Mk.start hw G3,rfl,λi t r hi _=>by simp[mT]at hi⟩,KX.refl W3,H3,⟨λb e=>(nomatch e),λi r v b hr _ _=>by simp at hr⟩⟩
 have GL:=T1.tab.out.aA;have WL:=GL.wf;have lN:=T1.kx.next;have L1:=T1.kx.keep p1 _ d13 H1;have L2:=T1.kx.keep p2 _ d23 H2;have L3:=T1.h3;have mlen:(fe xt).length<=3:=by unfold fe;rw[ED];omega
 obtain⟨m,hm⟩:∃m:Nat,m=min xg.length (gG xt (min xt.length 3)):=⟨_,rfl⟩
 have hmx:xg.take m=sv xt xg:=by rw[hm];rfl
 obtain⟨V2,V3,sR,r2,cR,R⟩:=acC hc (xs:=sv xt xg) (bh:=xy) (λx hx=>hg x (List.mem_of_mem_take hx)) (by have:=List.length_take_le m xg;rw[hmx]at this;omega) hy (zg&&xg.isEmpty) zy sL WL;have GR:=GL.trans R.aA;have WR:=GR.wf;obtain⟨GSR,SR⟩:=R.gs hw GL;have rN:=R.aA.next;have gx:=Grew.af WR (.cells [V2,V3] 0);obtain⟨sX,hsX⟩:∃sX,sX=af sR (.cells [V2,V3] 0):=⟨_,rfl⟩
 have WX:Wf sX:=by rw[hsX];exact gx.wf
 have GX:Grew sR sX:=by rw[hsX];exact gx
 have X1:=GX.get (R.aA.get L1);have X2:=GX.get (R.aA.get L2);have X3:=GX.get (R.aA.get L3);have X8:sX.heap.get sR.next=some (.cells [V2,V3] 0):=by rw[hsX];exact aC _ _
 have n8:sR.next≠p3:=fun e=>by have:sR.next.toNat=p3.toNat:=by rw[e]
                               omega
 have lX:=WX _ _ X3;obtain⟨vc2,v2⟩:=R.out.cells;obtain⟨vc3,v3⟩:=R.ty.cells;have jz:∀(K:AV->St->Option (AV×St)),ak c (.store 1) [.ptr p3 (0+1),V2] sX K=K .undef (cv sX p3 (.cells [V1,V2,.ah,.ah,.ah] 0)):=λK=>by rw[dU c K sX 1 p3 (0+1) V2 [V1,.ah,.ah,.ah,.ah] X3 (by rw[vc2];rfl) (by simp) (by rw[vc2];exact v2),vc2];rfl
 have C9:∀(K:AV->St->Option (AV×St)),ak c (.store 1) [.ptr p3 (0+2),V3] (cv sX p3 (.cells [V1,V2,.ah,.ah,.ah] 0)) K=K .undef (cv sX p3 (.cells [V1,V2,V3,.ah,.ah] 0)):=λK=>by rw[dU c K _ 1 p3 (0+2) V3 [V1,V2,.ah,.ah,.ah] (ej _ _ _) (by rw[vc3];rfl) (by simp) (by rw[vc3];exact v3),vc3,ab0];rfl
 obtain⟨sB,hsB⟩:∃sB,sB=cv sX p3 (.cells [V1,V2,V3,.ah,.ah] 0):=⟨_,rfl⟩
 have kXB:KX p3 sX sB:=by rw[hsB];exact(KX.refl WX).store lX _
 have WB:=kXB.wf;have GB:Grew st sB:=by rw[hsB];exact Ap hw (GR.trans GX) (by omega) lX _
 have kRB:KX p3 sR sB:=((KX.refl WR).aA GX).trans kXB;have kLB:KX p3 sL sB:=((KX.refl WL).aA R.aA).trans kRB;have B1:=kXB.keep p1 _ d13 X1;have B2:=kXB.keep p2 _ d23 X2;have B3:sB.heap.get p3=some (.cells [V1,V2,V3,.ah,.ah] 0):=by rw[hsB];exact ej _ _ _
 have lB:=WB _ _ B3;have Zf:TS.mH (p3.toNat+1) V1 r1:=T1.since.le (by omega);have Zg:GS.mH (p3.toNat+1) V2 r2:=SR.le (by omega);have TB:=T1.tab.kx kLB GB Zf;have GSB:=GSR.kx kRB GB Zg;have s3V:∀b,bg V3=some b->p3.toNat+1<=b.toNat:=λb hb=>by have:=R.ty.new b hb;omega
 have YB:=Mk.kx (R.ty.back hw GL) kRB GB s3V;have Y9:(jZ xt xg).length<=12:=xT _;have hgn:(jZ xt xg).length<=xg.length:=by unfold jZ ew;rw[EY, <-hmx,Zh5];omega
 have l2:∀(K:AV->St->Option (AV×St))(s':St),ak c (.lenB .l) [V2] s' K=K (.int .i64 ((jZ xt xg).length:Int)) s':=λK s'=>by rw[QS.lenB R.out.own,R.len];rfl
 have C0:LL st sB sB p3 1 .ah ((wY xg 0).map cW) (λA=>[V1,V2,V3,A,.ah]):=⟨Mk.start hw GB,KX.refl WB,B3,λb e=>(nomatch e)⟩
 obtain⟨sC1,V41,C1,e2⟩:=Wg (c:=c) (x2:= .ptr p2 0) hg (zt:=zt) (zg:=zg) (zy:=zy) (zr:=zr) (xt:=xt) (xy:=xy) (xr:=xr) (st:=st) (V1:=V1) (V3:=V3) hgn (by omega) WB B1 d13 lB (by omega) l2 (jZ xt xg).length 0 sB .ah (by omega) C0;have ld2:∀(K:AV->St->Option (AV×St)),ak c (.load none) [.ptr p1 (0+2)] sB K=K (cM .u8 zy xy) sB:=λK=>by rw[iP,B1];rfl
 have key:∃Vs s',jd c 400 (.agg (iW zt zg zy zr xt xg xy xr)) st=some (.agg Vs,s')/\∃jR,Go.Ai.tidy st (.agg Vs,s')=(.agg Vs,jR)/\PS st jR Vs (mF xt xg xy xr):=by
  obtain⟨Q,hQ⟩:∃Q:Option (AV×St)->Prop,Q=λo=>∃Vs s',o=some (.agg Vs,s')/\∃jR,Go.Ai.tidy st (.agg Vs,s')=(.agg Vs,jR)/\PS st jR Vs (mF xt xg xy xr):=⟨_,rfl⟩
  have MD:Q (jd c 400 (.agg (iW zt zg zy zr xt xg xy xr)) st)->∃Vs s',jd c 400 (.agg (iW zt zg zy zr xt xg xy xr)) st=some (.agg Vs,s')/\∃jR,Go.Ai.tidy st (.agg Vs,s')=(.agg Vs,jR)/\PS st jR Vs (mF xt xg xy xr):=λh=>by rw[hQ]at h;exact h
  apply MD;clear MD;have OQ:∀(k2:List AV->St->Option (AV×St)),dV c 400 k2 400 [.ptr p1 0,.ptr p2 0,.ptr p3 0,.int .i64 0,.int .i64 0] s3=k2 [.ptr p1 0,.ptr p2 0,.ptr p3 0,.int .i64 (gG xt (min xt.length 3):Int)] sL:=λk2=>e1 400 k2 400 (by omega)
  have X6:∀(k4:List AV->St->Option (AV×St)),gj c 400 k4 400 [.ptr p1 0,.ptr p2 0,.ptr p3 0,.int .i64 0] sB=k4 [.ptr p1 0,.ptr p2 0,.ptr p3 0] sC1:=λk4=>e2 400 k4 400 (by omega)
  have ra1:∀(K:AV->Option (AV×St)),kW (.load none) [.ptr p1 (0+1)] sL.heap (λ_=>true) K=K (cM .u16 zg xg):=λK=>by rw[oC,L1];rfl
  have ra2:∀(K:AV->Option (AV×St)),kW (.load none) [.ptr p1 (0+2)] sL.heap (λ_=>true) K=K (cM .u8 zy xy):=λK=>by rw[oC,L1];rfl
  have rb0:∀(K:AV->Option (AV×St)),kW (.load none) [.ptr sR.next (0+0)] sX.heap (λ_=>true) K=K V2:=λK=>by rw[oC,X8];rfl
  have rb1:=λ(K:AV->Option (AV×St))=>wH K (p:=sR.next) (o:=0+1) (h:=(cv sX p3 (.cells [V1,V2,.ah,.ah,.ah] 0)).heap) (h2:=sX.heap) (v:=V3) (by rw[bt (λe=>n8 e.symm),X8];rfl) (by rw[X8];rfl) R.ty.own.beq
  have pm:∀(K:AV->Option (AV×St)),fJ .minB [.int .i64 (xg.length:Int),.int .i64 (gG xt (min xt.length 3):Int)] K=K (.int .i64 (m:Int)):=λK=>by rw[dP K (λH n=>Uj H n _ _ _ _),hm];congr 2;generalize gG xt (min xt.length 3)=a;omega
  have DA:∀(K:AV->St->Option (AV×St)),ak c (.store 2) [.ptr sR.next 0,.agg [V2,V3]] (af sR (.cells [.ah,.ah] 0)) K=K .undef sX:=λK=>by
    rw[hsX];exact dx c K sR 2 (.agg [V2,V3]) [.ah,.ah] rfl rfl (by
        have a2:V2.one=true:=qx v2;have a3:V3.one=true:=qx v3;show aQ [V2,V3]=true;simp only[aQ,a2,a3])
  rw[F9,pH,show AV.cells (.agg (iW zt zg zy zr xt xg xy xr))=iW zt zg zy zr xt xg xy xr from rfl,jk,jk, <-BI, <-Uv, <-vS, <-gY,aE,aE,OQ,
    aF,aF,aF,aF,cX,bl,ra1,bl,ra1,Ze,dM,pm,Zd _ _ _ _ (by omega),bl,ra2,hmx,kI,cR,ic,abj,DA,bl,rb0,bl,jz,bl,rb1,bl,C9, <-hsB]
  refine qy (P:=λj=>∀sC V4,LL st sB sC p3 1 V4 ((lu xt xg xy).map cW) (λA=>[V1,V2,V3,A,.ah])->Q (j [.ptr p1 0,.ptr p2 0,.ptr p3 0] sC)) ?_ ?_
  . intro sC V4 hC;have GC:=hC.out.aA;have WC:=GC.wf;have nC:=hC.kx.next;have C1':=hC.kx.keep p1 _ d13 B1;have C2':=hC.kx.keep p2 _ d23 B2;have TC:=TB.kx hC.kx GC Zf;have GSC:=GSB.kx hC.kx GC Zg;have YC:=Mk.kx YB hC.kx GC s3V
    obtain⟨sD,V5,D1,e3⟩:=Wh (c:=c) (x2:= .ptr p2 0) hc hr lr (zt:=zt) (zg:=zg) (zy:=zy) (zr:=zr) (xt:=xt) (xg:=xg) (xy:=xy) (V3:=V3) (V4:=V4) WC C1' d13 (by omega) (by omega) TC Zf GSC Zg (show(fe xt).length<=1000 by omega) (show(jZ xt xg).length<=1000 by omega) Zc R7 (min xr.length 12) 0 sC .ah (by omega)
        ⟨Mk.start hw GC,KX.refl WC,hC.h3,λb e=>(nomatch e)⟩
    have e3':∀(k6:List AV->St->Option (AV×St)),gh c 400 k6 400 [.ptr p1 0,.ptr p2 0,.ptr p3 0,.int .i64 0] sC=k6 [.ptr p2 0,.ptr p3 0] sD:=λk6=>e3 400 k6 400 (by omega)
    have GD:=D1.out.aA;have WD:=GD.wf;have D2':=D1.kx.keep p2 _ d23 C2';have s4V:∀b,bg V4=some b->p3.toNat+1<=b.toNat:=λb hb=>by have:=hC.since b hb;omega
    have s5V:∀b,bg V5=some b->p3.toNat+1<=b.toNat:=λb hb=>by have:=D1.since b hb;omega
    have TD:=TC.kx D1.kx GD Zf;have GSD:=GSC.kx D1.kx GD Zg;have YD:=Mk.kx YC D1.kx GD s3V;have CD:=Mk.kx hC.out D1.kx GD s4V;have lD:=WD _ _ D2';have ld5:∀(K:AV->St->Option (AV×St)),ak c (.load (some 5)) [.ptr p3 0] sD K=K (.agg [V1,V2,V3,V4,V5]) sD:=λK=>by rw[sg,D1.h3];rfl
    have one5:aQ [V1,V2,V3,V4,V5]=true:=by
        have a1:V1.one=true:=qx TD.out.cells.2;have a2:V2.one=true:=qx v2;have a3:V3.one=true:=qx v3;have a4:V4.one=true:=qx CD.cells.2;have a5:V5.one=true:=qx D1.out.cells.2;simp only[aQ,a1,a2,a3,a4,a5,Zj2]
    have sto5:∀(K:AV->St->Option (AV×St)),ak c (.store 5) [.ptr p2 0,.agg [V1,V2,V3,V4,V5]] sD K=K .undef (cv sD p2 (.cells [V1,V2,V3,V4,V5] 0)):=λK=>by rw[dU c K _ 5 p2 0 (.agg [V1,V2,V3,V4,V5]) _ D2' rfl (by simp) one5];rfl
    have kE:KX p2 sD (cv sD p2 (.cells [V1,V2,V3,V4,V5] 0)):=(KX.refl WD).store lD _;have GE:=Ap hw GD (show st.next.toNat<=p2.toNat by omega) lD (.cells [V1,V2,V3,V4,V5] 0);obtain⟨jR,t1,t2⟩:=PS.adU (p:=mF xt xg xy xr) (TD.kx kE GE (Zf.le (by omega))) (GSD.kx kE GE (Zg.le (by omega))) (Mk.kx YD kE GE λb hb=>by have:=s3V b hb;omega) (Mk.kx CD kE GE λb hb=>by have:=s4V b hb;omega) (Mk.kx D1.out kE GE λb hb=>by have:=s5V b hb;omega);have hfin:Q (some (.agg [V1,V2,V3,V4,V5],cv sD p2 (.cells [V1,V2,V3,V4,V5] 0))):=(by rw[hQ];exact⟨_,_,rfl,jR,t1,t2⟩);rw[aF,aF,aF,cX,aE,e3',aF,aF,cX,ld5,sto5,Rs,ej];exact hfin
  . intro j hj;rw[cU,ld2,E0,bO (by omega) (by omega),abV];by_cases h4:0<xy.length % 4
    .   rw[H5 (show(0:Int)<(xy.length:Int) % 4 by omega),iO,aE,X6,aF,aF,aF,cX];refine hj sC1 V41 ?_;have:lu xt xg xy=wY xg (jZ xt xg).length:=(by unfold lu;rw[Za8 h4]);rw[this];exact C1
    .   rw[Za2 (show ¬(0:Int)<(xy.length:Int) % 4 by omega),lF];refine hj sB .ah ?_;have:lu xt xg xy=[]:=(by unfold lu;rw[Za5 h4]);rw[this];exact C0
 obtain⟨Vs,s',k1,jR,k2,k3⟩:=key;refine⟨Vs,jR,?_,k3⟩;rw[Dv hc 400 (r:=(.agg Vs,s')) k1,k2]
theorem xY{P:Nat->Bool}:∀(m k i:Nat),k<=i->i<k+m->P i=true->0<=scan P m k
 |0,_,_,_,_,_=>by omega
 |m +   1,k,i,h1,h2,hp=>by
  unfold scan;split
  .omega
  . rename_i hk;exact xY m (k+1) i (by
        rcases Zh8 k i with h|h
        .omega
        .obtain rfl:i=k:=(by omega);exact absurd hp hk) (by omega) hp
theorem SY{ts:List aL}(h1:∀t∈ts,mU t=0)(h2:∀(i j:Nat)(a b:aL),i<j->ts[i]? =some a->ts[j]? =some b->a.name≠b.name):∀m k,(fM ts m k).2=0
 |0,_=>rfl
 |m+    1,k=>by
  unfold fM;cases e:ts[k]? with
  |none=>rfl
  |some t=>
   have ht:mU t=0:=h1 t (Zb6 e);simp only;rw[Za5 (by simp[ht]),Za5]
   .    exact SY h1 h2 m (k+1)
   .    intro hs;obtain⟨_,aU,hp⟩:=wO k 0 hs;generalize (scan (nI ts t.name) k 0).toNat=i at*
        unfold nI at hp;obtain⟨a,ha,hb⟩:=Zd4.1 (Zg2 hp);exact h2 i k a t (by omega) ha e hb
theorem S5{gs:List aO}(h1:∀g∈gs,fZ g=0)(h2:∀(i j:Nat)(a b:aO),i<j->gs[i]? =some a->gs[j]? =some b->a.name≠b.name)(hl:gs.length<=64):∀m k,(jX gs m k).2=0
 |0,_=>rfl
 |m+    1,k=>by
  unfold jX;cases e:gs[k]? with
  |none=>rfl
  |some t=>
   have ht:fZ t=0:=h1 t (Zb6 e);have hk:k<gs.length:=(Za1.1 e).1;simp only;rw[Za5 (by simp[ht]),Za5,Za5 (by omega)]
   .    exact S5 h1 h2 hl m (k+1)
   .    intro hs;obtain⟨_,aU,hp⟩:=wO k 0 hs;generalize (scan (jT gs t.name) k 0).toNat=i at*
        unfold jT at hp;obtain⟨a,ha,hb⟩:=Zd4.1 (Zg2 hp);exact h2 i k a t (by omega) ha e hb
theorem S6{gs:List aO}{ts:List Ty}(h:∀(k:Nat)(t:Ty),ts[k]? =some t->Qi t (kf ts k)=false/\lJ gs t=false/\oF t (kf ts k)=false/\k<256):∀m k,(gb gs ts m k).2=0
 |0,_=>rfl
 |m+1,k=>by
  unfold gb;cases e:ts[k]? with
  |none=>rfl
  |some t=>
   obtain⟨a,b,d,f⟩:=h k t e;simp only;rw[Za5 (by simp[a]),Za5 (by simp[b]),Za5 (by simp[d]),Za5 (by omega)];exact S6 h m (k+1)
theorem IV{l:List Nat}{n:Nat}(h:∀x∈l,x<n)(h0:0<n)(i:Nat):l.getD i 0<n:=by
 rw[Zc0];cases e:l[i]? with
 |none=>simpa using h0
 |some x=>simpa using h x (Zb6 e)
theorem mL{α:Type}{f:Nat->α}{k i:Nat}{t:α}(h:((List.range k).map f)[i]? =some t):i<k/\t=f i:=by
 have hi:i<k:=by simpa using(Za1.1 h).1
 rw[Zb7,Zk7 hi,Ze5,H0]at h;exact⟨hi,h.symm⟩
theorem Yh:∀i<3,∀x<256,mU (gK i x)=0:=by decide+kernel
theorem Zh:∀x<256,cq (gK 0 x)=((tN x:Nat):Int):=by decide+kernel
theorem OV{xt:List Nat}(hx:∀x∈xt,x<256):(bD (fe xt)).2=0:=by
 unfold bD;rw[Za5 (by unfold fe;rw[ED];omega)];refine SY (λt ht=> ?_) (λi j a b RI ha hb e=> ?_) _ _
 .obtain⟨i,hi⟩:=Zd3.1 ht;obtain⟨h1,rfl⟩:=mL hi;exact Yh i (by omega) _ (IV hx (by omega) i)
 .obtain⟨h1,rfl⟩:=mL ha;obtain⟨h2,rfl⟩:=mL hb;have e:dJ i=dJ j:=e;unfold dJ at e;simp only[Zg0,Zl6,true_and]at e;omega
theorem Wj(p:Prop)[Decidable p](i:Nat):rE (if p then bn i else [])=true:=by
 split
 .unfold rE;rw[NO];simp
 .rfl
theorem ac7:∀a b d e:Bool,(Dh none (((if a=true then [0]else [])++(if b=true then [1]else [])++(if d=true then [2]else [])++(if e=true then [3]else [])).map bn)=true/\(((if a=true then [0]else [])++(if b=true then [1]else [])++(if d=true then [2]else [])++(if e=true then [3]else [])).map bn:List (List Nat)).length<=4):=by decide+kernel
theorem adV(x:Nat):Dh none (wj x 4)=true/\(wj x 4).length<=4:=by
 have e:wj x 4=(((if AO x 0=true then [0]else [])++(if AO x 1=true then [1]else [])++(if AO x 2=true then [2]else [])++(if AO x 3=true then [3]else [])).map bn):=by
  unfold wj;rw[show List.range 4=[0,1,2,3]from rfl];cases h0:AO x 0<;>cases h1:AO x 1<;>cases h2:AO x 2<;>cases h3:AO x 3<;>simp[h0,h1,h2,h3]
 rw[e];exact ac7 _ _ _ _
theorem ac8(i x:Nat):fZ (rV i x)=0:=by
 have t:=adV x;have n:jS (rV i x).name=true:=NO _;have a:rE (rV i x).yp=true:=Wj (x % 2=1) _;have b:rE (rV i x).s9=true:=Wj (4<x % 8) _;have d:rE (rV i x).nJ=true:=Wj (x % 3=2) _;unfold fZ;rw[Za5 (by rw[n,a,b,d];simp),Za5 (by show ¬ ¬(0<=((x % 4*500:Nat):Int)/\((x % 4*500:Nat):Int)<=9999);omega),
  Za5 (by show ¬ ¬(0<=((x % 3:Nat):Int)/\((x % 3:Nat):Int)<=2);omega),Za5 (by show ¬4<(wj x 4).length;omega),Za5 (by show ¬Dh none (wj x 4)=false;rw[t.1];simp)]
theorem E7{a b:Nat}(ha:a<676)(hb:b<676)(h:bn a=bn b):a=b:=by unfold bn at h;simp only[Zg0,Zl6]at h;omega
theorem xZ{a b:Nat}(ha:a<676)(hb:b<676):aB (bn a) (bn b)=decide (a<b):=by
 unfold bn;simp only[aB,zl,eu];by_cases h1:97+a / 26 % 26<97+b / 26 % 26
 .rw[H5 h1,H5 (show a<b by omega)]
 . rw[  Za2 h1];by_cases h2:97+a / 26 % 26=97+b / 26 % 26
   . rw[H5 h2];by_cases h3:97+a % 26<97+b % 26
     .  rw[H5 h3,H5 (show a<b by omega)]
     .  rw[Za2 h3,Za2 (show ¬a<b by omega)];simp only;split<;>rfl
   .rw[Za2 h2,Za2 (show ¬a<b by omega)]
theorem DB{i:Nat}(h:i<12):wX i=25*i:=by
 have:∀i<12,wX i=25*i:=by decide+kernel
 exact this i h
theorem acD(xs:List Nat):(jX (ew xs) 101 0).2=0:=by
 refine S5 (λg hg=> ?_) (λi j a b RI ha hb e=> ?_) (by have:=xT xs;omega) _ _
 .obtain⟨i,hi⟩:=Zd3.1 hg;obtain⟨h1,rfl⟩:=mL hi;exact ac8 _ _
 .obtain⟨h1,rfl⟩:=mL ha;obtain⟨h2,rfl⟩:=mL hb;have e:bn (wX i)=bn (wX j):=e;rw[DB (by omega),DB (by omega)]at e;have:=E7 (by omega) (by omega) e;omega
theorem uq{xs:List Nat}{a:Nat}(ha:a<676)(h:bn a∈iY (ew xs)):∃i,i<12/\a=25*i/\∃j,j<(ew xs).length/\jT (ew xs) (bn a) j=true:=by
 unfold iY at h;obtain⟨g,hg,e⟩:=Zf4.1 h;obtain⟨i,hi⟩:=Zd3.1 hg;have hl:=(Za1.1 hi).1;obtain⟨h1,rfl⟩:=mL hi;have e:bn (wX i)=bn a:=e;have e2:=e;rw[DB (by omega)]at e;have:=E7 (by omega) ha e;refine⟨i,by omega,this.symm,i,hl,?_⟩;unfold jT;rw[hi];exact H5 (congrArg some e2)
def yw(p:Nat×Nat×Int):Ty:=⟨bn p.1,bn p.2.1,p.2.2⟩
def AQ(p:Nat×Nat×Int):Nat:=p.1*312+p.2.1
def JL(names:List (List Nat))(ys:List Ty)(q:Nat):Prop:=
 ∃ps:List (Nat×Nat×Int),ys=ps.map yw/\(∀p∈ps,p.1<p.2.1/\p.2.1<312/\bn p.1∈names/\bn p.2.1∈names/\(p.2.2=1\/p.2.2=2)/\AQ p<q)/\ps.Pairwise λa b=>AQ a<AQ b
theorem JL.up{names:List (List Nat)}{ys:List Ty}{q q':Nat}(h:JL names ys q)(hq:q<=q'):JL names ys q':=by
 obtain⟨ps,e,h1,h2⟩:=h;exact⟨ps,e,λp hp=>by obtain⟨a,b,d,f,g,i⟩:=h1 p hp;exact⟨a,b,d,f,g,by omega⟩,h2⟩
theorem JL.next{names:List (List Nat)}{bh:List Nat}{ys:List Ty}{i k n:Nat}(h:JL names ys (i*312+k))(hk:k<312)(Bs:i<k)(hi:bn i∈names)(lK:bn k∈names):JL names (wZ bh i k n ys) (i*312+(k+1)):=by
 unfold wZ;split
 . rename_i hc;obtain⟨ps,e,h1,h2⟩:=h;unfold SW at hc;simp only[Za7,Ze1]at hc;refine⟨ps++[(i,k,1+((bh.getD n 0 % 4:Nat):Int))],by rw[Zd7,e];rfl,λp hp=> ?_,?_⟩
   . rcases Zd8.1 hp with hp|hp
     .  obtain⟨a,b,d,f,g,j⟩:=h1 p hp;exact⟨a,b,d,f,g,by omega⟩
     .  simp only[Za9,Ze4,Zj0]at hp;subst hp;exact⟨Bs,hk,hi,lK,by show 1+((bh.getD n 0 % 4:Nat):Int)=1\/1+((bh.getD n 0 % 4:Nat):Int)=2;omega,by show i*312+k<_;omega⟩
   .rw[List.pairwise_append];refine⟨h2,List.pairwise_singleton _ _,λa ha b hb=> ?_⟩;simp only[Za9,Ze4,Zj0]at hb;subst hb;exact(h1 a ha).2.2.2.2.2
 .exact h.up (by omega)
theorem KP{names:List (List Nat)}{bh:List Nat}{i:Nat}:∀(m k n:Nat)(ys:List Ty),k+m<=312->i<k->JL names ys (i*312+k)->JL names (iZ names bh i m k n ys).2 (i*312+312)
 |0,k,n,ys,h1,_,h=>by unfold iZ;exact h.up (by omega)
 |m +   1,k,n,ys,h1,h2,h=>by
  unfold iZ;split
  . rename_i hi;split
    .   rename_i hk;exact KP m (k+1) (n+1) _ (by omega) (by omega) (h.next (by omega) h2 hi hk)
    .   exact KP m (k+1) n ys (by omega) (by omega) (h.up (by omega))
  .exact h.up (by omega)
theorem Pj{names:List (List Nat)}{bh:List Nat}:∀(m i n:Nat)(ys:List Ty),i+m=312->JL names ys (i*312)->∃q,JL names (HP names bh m i n ys) q
 |0,i,n,ys,_,h=>⟨_,h⟩
 |m+1,i,n,ys,h1,h=>by
  unfold HP;exact Pj m (i+1) _ _ (by omega) ((KP m (i+1) n ys (by omega) (by omega) (h.up (by omega))).up (by omega))
def UW(i j:Nat):Nat:=i*(23 - i) / 2+(j - i - 1)
theorem ac9:((List.range 12).all λi=>(List.range 12).all λj=>(List.range 12).all λa=>(List.range 12).all λb=> !(decide (i<j)&&decide (a<b)&&(decide (i<a)||(decide (i=a)&&decide (j<b))))||decide (UW i j<UW a b))=true:=by decide+kernel
theorem adW(i:Nat)(hi:i<12)(j:Nat)(hj:j<12)(a:Nat)(ha:a<12)(b:Nat)(hb:b<12)(h1:i<j)(h2:a<b)(h3:i<a\/i=a/\j<b):UW i j<UW a b:=by
 have h:=Zd0.1 (Zd0.1 (Zd0.1 (Zd0.1 ac9 i (Zk4.2 hi)) j (Zk4.2 hj)) a (Zk4.2 ha)) b (Zk4.2 hb);have d3:(decide (i<a)||(decide (i=a)&&decide (j<b)))=true:=by
  rcases h3 with h3|⟨h3,h4⟩
  .rw[H5 h3];rfl
  .rw[H5 h3,H5 h4];simp
 rw[H5 h1,H5 h2,d3]at h;simpa using h
theorem adX:∀i<12,∀j<12,i<j->UW i j<66:=by decide+kernel
theorem Zi{N:Nat}:∀{l:List Nat}{k:Nat},l.Pairwise (· < ·)->(∀x∈l,k<=x/\x<N)->l.length<=N - k
 |[],_,_,_=>by simp
 |x::l,k,h,hk=>by
  obtain⟨h1,h2⟩:=List.pairwise_cons.1 h;have hx:=hk x (by simp);have:=Zi (k:=x+1) h2 λy hy=>⟨h1 y hy,(hk y (Za6 _ hy)).2⟩
  simp only[Ze2];omega
theorem OS(xs bh:List Nat):(uV xs bh).length<=66/\(gb (ew xs) (uV xs bh) 101 0).2=0:=by
 obtain⟨q,ps,e,h1,h2⟩:=Pj (names:=iY (ew xs)) (bh:=bh) 312 0 0 [] rfl ⟨[],rfl,λp hp=>by simp at hp,List.Pairwise.nil⟩;have e:uV xs bh=ps.map yw:=e;have hlen:ps.length<=66:=by
   have:=Zi (N:=66) (k:=0) (l:=ps.map λp=>UW (p.1 / 25) (p.2.1 / 25)) (by
     rw[List.pairwise_map];refine List.Pairwise.imp_of_mem (λ{a b} ha hb OW=> ?_) h2;obtain⟨a1,a2,a3,a4,_⟩:=h1 a ha;obtain⟨b1,b2,b3,b4,_⟩:=h1 b hb;obtain⟨i,hi,e1,_⟩:=uq (by omega) a3;obtain⟨j,hj,e2,_⟩:=uq (by omega) a4;obtain⟨i',Jg,e3,_⟩:=uq (by omega) b3;obtain⟨j',xD,e4,_⟩:=uq (by omega) b4;unfold AQ at OW;exact adW _ (by omega) _ (by omega) _ (by omega) _ (by omega) (by omega) (by omega) (by omega)) (λx hx=>by
     obtain⟨p,hp,rfl⟩:=Zf4.1 hx;obtain⟨a1,a2,a3,a4,_⟩:=h1 p hp;obtain⟨i,hi,e1,_⟩:=uq (by omega) a3;obtain⟨j,hj,e2,_⟩:=uq (by omega) a4;exact⟨Zj5 _,adX _ (by omega) _ (by omega) (by omega)⟩)
   simpa using this
 refine⟨by rw[e,Zb2];exact hlen,S6 (λk t ht=> ?_) 101 0⟩;rw[e,Zb7]at ht;obtain⟨p,hp,rfl⟩:=Zd4.1 ht;have hk:k<ps.length:=(Za1.1 hp).1;obtain⟨a1,a2,a3,a4,a5,_⟩:=h1 p (Zb6 hp);have kn:JH (yw p)=true:=by unfold JH yw;rcases a5 with h|h<;>simp[h]
 have ls:aB (yw p).a (yw p).b=true:=(xZ (by omega) (by omega)).trans (H5 a1);have prev:∀u,kf (uV xs bh) k=some u->eF (yw p) u=false/\eF u (yw p)=true:=λu hu=>by
   unfold kf at hu;by_cases h0:k=0
   .rw[Za8 h0]at hu;cases hu
   rw[Za5 h0,e,Zb7]at hu;obtain⟨r,hr,rfl⟩:=Zd4.1 hu;obtain⟨b1,b2,b3,b4,b5,_⟩:=h1 r (Zb6 hr);have lt:AQ r<AQ p:=by
     have hr1:=(Za1.1 hr)
     have gY:=(Za1.1 hp)
     obtain⟨w1,SU⟩:=hr1;obtain⟨w2,vS⟩:=gY;rw[<-SU, <-vS];exact List.pairwise_iff_getElem.1 h2 (k - 1) k w1 w2 (by omega)
   unfold AQ at lt;unfold eF yw;simp only;rw[xZ (by omega) (by omega),xZ (by omega) (by omega),xZ (by omega) (by omega),xZ (by omega) (by omega)];by_cases hq:r.1=p.1
   .rw[hq,Za2 (show ¬p.1<p.1 by omega),Za2 (show ¬p.2.1<r.2.1 by omega),H5 (show r.2.1<p.2.1 by omega)];simp
   .rw[Za2 (show ¬p.1<r.1 by omega),H5 (show r.1<p.1 by omega),Za2 (show ¬bn p.1=bn r.1 from λh=>hq (E7 (by omega) (by omega) h).symm)];simp
 have unk:lJ (ew xs) (yw p)=false:=by obtain⟨_,_,_,i,hi,g1⟩:=uq (by omega) a3;obtain⟨_,_,_,j,hj,g2⟩:=uq (by omega) a4;have s1:=xY (ew xs).length 0 i (by omega) (by omega) g1;have s2:=xY (ew xs).length 0 j (by omega) (by omega) g2;unfold lJ;rw[Za2 (show ¬scan (jT (ew xs) (yw p).a) (ew xs).length 0<0 from λh=>by have h:scan (jT (ew xs) (bn p.1)) (ew xs).length 0<0:=h;omega),Za2 (show ¬scan (jT (ew xs) (yw p).b) (ew xs).length 0<0 from λh=>by have h:scan (jT (ew xs) (bn p.2.1)) (ew xs).length 0<0:=h;omega)];rfl
 refine⟨?_,unk,?_,by omega⟩
 . unfold Qi;rw[kn,ls];cases hv:kf (uV xs bh) k with
   |none=>rfl
   |some u=>simp[(prev u hv).1]
 . unfold oF;cases hv:kf (uV xs bh) k with
   |none=>rfl
   |some u=>simp[(prev u hv).2]
theorem Zj(xs bh:List Nat):(cI (ew xs) (uV xs bh)).2=0:=by unfold cI;rw[Za5 (by rw[acD];simp)];exact(OS xs bh).2
theorem Pk{xt:List Nat}(hx:∀x∈xt,x<256):∀k,k<=3->aX (mT xt k)=((gG xt k:Nat):Int)
 |0,_=>rfl
 |k+1,h=>by
  have ih:=Pk hx k (by omega);have e:mT xt (k+1)=mT xt k++[gK k (xt.getD k 0)]:=by unfold mT;rw[Zi7,Zd7];rfl
  have z:cq (gK k (xt.getD k 0))=((tN (xt.getD k 0):Nat):Int):=Zh _ (IV hx (by omega) k);rw[e];unfold aX at ih ⊢;rw[Zd7,List.sum_append,ih];simp only[Zc6,Zf7,List.sum_cons,List.sum_nil,z];have e2:gG xt (k+1)=gG xt k+tN (xt.getD k 0):=rfl;omega
theorem Wk{xt xg xy:List Nat}(hx:∀x∈xt,x<256)(z1 z2 z3 z4 z5:Bool)(rs:List Rl):(iu ⟨z1,fe xt,z2,jZ xt xg,z3,Za xt xg xy,z4,lu xt xg xy,z5,rs⟩).2=0:=by
 unfold iu;rw[Za5 (by show ¬(bD (fe xt)).2≠0;rw[OV hx];simp),Za5 (by show ¬(cI (ew (sv xt xg)) (uV (sv xt xg) xy)).2≠0;rw[Zj];simp)];rw[Za5 (by
  show ¬((lu xt xg xy).length≠0/\(lu xt xg xy).length≠(jZ xt xg).length);unfold lu;split
  .rw[EE];simp
  .simp),Za5 (by
  show ¬rj (lu xt xg xy)=false;rw[   show rj (lu xt xg xy)=true from by
    unfold rj lu;rw[Zd0];intro y hy;split at hy
    .   unfold wY at hy;obtain⟨i,_,rfl⟩:=Zf4.1 hy;rw[Za7];exact⟨H5 (by omega),H5 (by omega)⟩
    .   simp at hy]
  simp),Za5]
 show ¬aX (fe xt)<((jZ xt xg).length:Int)
 unfold fe jZ ew;rw[EY,Pk hx _ (by omega)];unfold sv;rw[Zh5];omega
theorem Zk{p:bZ}{a:Nat}(ha:a<p.gs.length):¬gi p (j5 p.gs a)<0:=by have:=xY (P:=jT p.gs (j5 p.gs a)) p.gs.length 0 a (by omega) (by omega) (by unfold jT j5;rw[H4 ha];simp);unfold gi;omega
theorem ada{p:bZ}(hd:∀(i j:Nat)(a b:aL),i<j->p.ts[i]? =some a->p.ts[j]? =some b->a.name≠b.name){t:Nat}(ht:t<p.ts.length):ti p (qO p.ts t)=(t:Int):=by
 have h0:=xY (P:=nI p.ts (qO p.ts t)) p.ts.length 0 t (by omega) (by omega) (by unfold nI qO;rw[H4 ht];simp);obtain⟨_,h1,h2⟩:=wO p.ts.length 0 h0;unfold ti;generalize scan (nI p.ts (qO p.ts t)) p.ts.length 0=k at*
 unfold nI qO at h2;rw[H4 ht]at h2;obtain⟨u,hu,e⟩:=Zd4.1 (Zg2 h2);rcases Nat.lt_trichotomy k.toNat t with h|h|h
 .exact absurd e (hd _ _ _ _ h hu (H4 ht))
 .omega
 .exact absurd e.symm (hd _ _ _ _ h (H4 ht) hu)
theorem X9{p:bZ}(hg:∀g∈p.gs,g.nJ=[]\/jS g.nJ=true)(hgd:∀(i j:Nat)(a b:aO),i<j->p.gs[i]? =some a->p.gs[j]? =some b->a.name≠b.name)(htd:∀(i j:Nat)(a b:aL),i<j->p.ts[i]? =some a->p.ts[j]? =some b->a.name≠b.name)
   (b7:∀t∈p.ts,cq t=iU t.sh t.a t.b/\0<cq t) (x:Nat) (h:(eM p.ts p.gs x).2=true):q8 p (eM p.ts p.gs x).1=0:=by
 unfold eM at h ⊢;by_cases h0:p.gs.length=0\/p.ts.length=0
 .rw[Za8 h0]at h;cases h
 rw[Za5 h0]at h ⊢;have hw:(HL (x / 18))<=7:=by unfold HL;split<;>omega
 have ha:x / 18 / 5 % p.gs.length<p.gs.length:=Zi6 _ (by omega);have hb:x / 18 / 5 / p.gs.length % p.gs.length<p.gs.length:=Zi6 _ (by omega);have cm:x / 18 / 5 / 7 % p.ts.length<p.ts.length:=Zi6 _ (by omega);have hn:x / 18 / 5 / 11 % 4<4:=Zi6 _ (by omega);have k1:1<=1+x % 18:=by omega
 have k2:1+x % 18<=18:=by omega
 generalize 1+x % 18=k at*
 generalize HL (x / 18)=w at*
 generalize x / 18 / 5=z at*
 generalize z % p.gs.length=a at*
 generalize z / p.gs.length % p.gs.length=b at*
 generalize z / 7 % p.ts.length=t at*
 generalize z / 11 % 4=n at*
 have g1:=Zk ha;have g2:=Zk hb;have g3:xX p.gs a=[]\/jS (xX p.gs a)=true:=by unfold xX;rw[H4 ha];exact hg _ (Zb9 ha)
 have g4:=ada htd cm;have g5:uo p.ts t=rQ p ((t:Nat):Int)/\0<uo p.ts t:=by have:=b7 _ (Zb9 cm);unfold uo rQ;rw[Zi0,H4 cm];simp only;omega
 have g6:0<=((z / 13:Nat):Int) % uo p.ts t/\((z / 13:Nat):Int) % uo p.ts t<=uo p.ts t - 1:=⟨Zp8 _ (by omega),by have:=Zo4 ((z / 13:Nat):Int) g5.2;omega⟩
 have g7:a≠b->j5 p.gs a≠j5 p.gs b:=λOW e=>by
   unfold j5 at e;rw[H4 ha,H4 hb]at e;rcases Nat.lt_or_gt_of_ne OW with h|h
   .exact hgd _ _ _ _ h (H4 ha) (H4 hb) e
   .exact hgd _ _ _ _ h (H4 hb) (H4 ha) e.symm
 clear hg ha hb cm h0 hgd htd b7;obtain⟨g5,_⟩:=g5;rw[g5]at g6;rcases Us k1 k2 with rfl|rfl|rfl|rfl|rfl|rfl|rfl|rfl|rfl|rfl|rfl|rfl|rfl|rfl|rfl|rfl|rfl|rfl
 all_goals
   unfold EG at h ⊢;unfold q8 KL Dl SI MC uZ;simp[kd]at h ⊢
   first
   |done
   |omega
   |(simp[*];done)
   |(simp[*];omega)
   |grind
theorem Ky{ts:List aL}{gs:List aO}{xr:List Nat}:∀{k:Nat}{r:Rl},r∈tF ts gs xr k->∃x,(eM ts gs x).2=true/\r=(eM ts gs x).1
 |0,_,h=>by cases h
 |k +   1,r,h=>by
  unfold tF at h;rcases Zd8.1 h with h|h
  .exact Ky h
  . split at h
    .   rename_i e;simp only[Za9,Ze4,Zj0]at h;exact⟨_,e,h⟩
    .   cases h
theorem Pm{p:bZ}(h:∀r∈p.rs,q8 p r=0)(hl:p.rs.length<=64):∀m i,(jF p m i).2=0
 |0,_=>rfl
 |m+1,i=>by
  unfold jF;cases e:p.rs[i]? with
  |none=>rfl
  |some r=>
   have:=(Za1.1 e).1;simp only;rw[Za5 (by rw[h r (Zb6 e)];simp),Za5 (by omega)];exact Pm h hl m (i+1)
theorem zu{xt:List Nat}{i:Nat}{t:aL}(h:(fe xt)[i]? =some t):i<3/\t=gK i (xt.getD i 0):=by
 obtain⟨h1,h2⟩:=mL h;exact⟨by omega,h2⟩
theorem HQ{xs:List Nat}{i:Nat}{g:aO}(h:(ew xs)[i]? =some g):i<12/\g=rV i (xs.getD i 0):=by
 obtain⟨h1,h2⟩:=mL h;exact⟨by omega,h2⟩
theorem Hr{xt:List Nat}:∀(i j:Nat)(a b:aL),i<j->(fe xt)[i]? =some a->(fe xt)[j]? =some b->a.name≠b.name:=λi j a b RI ha hb e=>by obtain⟨h1,rfl⟩:=zu ha;obtain⟨h2,rfl⟩:=zu hb;have e:dJ i=dJ j:=e;unfold dJ at e;simp only[Zg0,Zl6,true_and]at e;omega
theorem Hq{xs:List Nat}:∀(i j:Nat)(a b:aO),i<j->(ew xs)[i]? =some a->(ew xs)[j]? =some b->a.name≠b.name:=λi j a b RI ha hb e=>by obtain⟨h1,rfl⟩:=HQ ha;obtain⟨h2,rfl⟩:=HQ hb;have e:bn (wX i)=bn (wX j):=e;rw[DB (by omega),DB (by omega)]at e;have:=E7 (by omega) (by omega) e;omega
theorem OT{xs:List Nat}:∀g∈ew xs,g.nJ=[]\/jS g.nJ=true:=λg hg=>by
 obtain⟨i,hi⟩:=Zd3.1 hg;obtain⟨_,rfl⟩:=HQ hi;show(if(xs.getD i 0) % 3=2 then bn ((xs.getD i 0) % 5)else [])=[]\/jS (if(xs.getD i 0) % 3=2 then bn ((xs.getD i 0) % 5)else [])=true;split
 .exact .inr (NO _)
 .exact .inl rfl
theorem Cn{xt:List Nat}(hx:∀x∈xt,x<256):∀t∈fe xt,cq t=iU t.sh t.a t.b/\0<cq t:=λt ht=>by
 obtain⟨i,hi⟩:=Zd3.1 ht;obtain⟨h1,rfl⟩:=zu hi;have aU:=IV hx (by omega) i;have z:cq (gK i (xt.getD i 0))=((tN (xt.getD i 0):Nat):Int):=Zh _ aU;have e:iU (gK i (xt.getD i 0)).sh (gK i (xt.getD i 0)).a (gK i (xt.getD i 0)).b=((tN (xt.getD i 0):Nat):Int):=IZ _;have h1:=Zb (xt.getD i 0);exact⟨by rw[z,e],by rw[z];omega⟩
theorem VL{xt xg xy xr:List Nat}(hx:∀x∈xt,x<256):(iq (mF xt xg xy xr)).2=0:=by
 unfold iq;have hb:(iu (mF xt xg xy xr)).2=0:=Wk hx _ _ _ _ _ _;rw[Za5 (by rw[hb];simp)];refine Pm (λr hr=> ?_) ?_ _ _
 .obtain⟨x,h1,rfl⟩:=Ky hr;exact X9 (p:=mF xt xg xy xr) OT Hq Hr (Cn hx) x h1
 .have:=EF (fe xt) (jZ xt xg) xr (min xr.length 12);show(tF _ _ _ _).length<=64;omega
end
end Go.Proofs.YtoeleelojgimfaaGreatDoor
