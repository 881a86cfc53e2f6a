/- Functions, plainly. -/
import Derived.Test.YtgihekklfnjkiaaGreatDoorALawsE
set_option linter.all false
set_option maxRecDepth 100000
set_option maxHeartbeats 4000000
namespace Go.Proofs.YtgihekklfnjkiaaGreatDoor
noncomputable section
open Go Go.Ai Go.Proofs
attribute [local go_sem ↓] bh BI ev evX Fz getLT DI X5 kat BG BH Tw Ra Rb Rc LX LY LZ L8 L9 Ma Re Rf Mb Mc Md Me Mf Z3 Z4 Z5
attribute [local go_sem] bh BI ev
section
variable(c:aj)(F:Nat)(x0 x1 x2 x3 x4 x5 x6 x7 x8 x9 Y3 Y4:AV)(s:St)
def Qu:Sh:=(sq sl (sq (sq sl (sq sl (sc (sq sl sl) sl))) (sq sl (sq sl (sq (sq sl (sb (sp 0 [1,4,7,22,23,24] [(2,[4,7])] (sq sl (sq (sc sl sl) (sj [1,4,7,22,23,24] (sb (sq sl (sq sl (sc sl sl)))) sl)))))) (sq sl sl))))))
def abM:PX 30 Qu:=⟨_,by conv=>lhs;reduce⟩
def ZG:PL 30 Qu 0:=⟨_,by conv=>lhs;reduce⟩
def ze(k2:Q2):Nat->Q2
 |0,_,_=>none
 |n+1,vs,s=>dU c F bk (ze k2 n) [k2] ZG.1 vs s
def GQ(k2:Q2)(n:Nat)(vs:List AV)(s:St):=(by dsimp only[ze,ZG,go_sem,Int.reduceOfNat]:ze c F k2 (n+1) vs s=_)
def Qv:Un->List Q2->Nat->Q2
 |.z,[k2]=>ze c F k2
 |_,_=>λ_=>fj
def ZH:O2:=bh c F (Qv c F) abM.1 [x0,x1] s
def akA:=(by dsimp only[ZH,abM, ↓Qv,go_sem,Int.reduceOfNat]:ZH c F x0 x1 s=_)
def abN:Sh:=(sq sl (sq sl sl))
def abO:PX 32 abN:=⟨_,by conv=>lhs;reduce⟩
def ZI:O2:=bh c F bk abO.1 [x0] s
def akB:=(by dsimp only[ZI,abO,go_sem,Int.reduceOfNat]:ZI c F x0 s=_)
def Sg:Sh:=(sq sl (sq sl sl))
def Si:PX 33 Sg:=⟨_,by conv=>lhs;reduce⟩
def NY:O2:=bh c F bk Si.1 [x0] s
def afb:=(by dsimp only[NY,Si,go_sem,Int.reduceOfNat]:NY c F x0 s=_)
def JN:Sh:=(sq sl (sq (sq sl (sq sl (sc (sq sl sl) sl))) (sq sl (sq (sq sl (sb (sp 0 [1,7,18,19,20] [(2,[7])] (sq sl (sq (sc sl sl) (sj [1,7,18,19,20] (sb (sq sl (sq sl (sc sl sl)))) sl)))))) (sq sl sl)))))
def Wj:PX 74 JN:=⟨_,by conv=>lhs;reduce⟩
def Sj:PL 74 JN 0:=⟨_,by conv=>lhs;reduce⟩
def uW(k2:Q2):Nat->Q2
 |0,_,_=>none
 |n+1,vs,s=>dU c F bk (uW k2 n) [k2] Sj.1 vs s
def B7(k2:Q2)(n:Nat)(vs:List AV)(s:St):=(by dsimp only[uW,Sj,go_sem,Int.reduceOfNat]:uW c F k2 (n+1) vs s=_)
def JO:Un->List Q2->Nat->Q2
 |.z,[k2]=>uW c F k2
 |_,_=>λ_=>fj
def Qw:O2:=bh c F (JO c F) Wj.1 [x0,x1] s
def agT:=(by dsimp only[Qw,Wj, ↓JO,go_sem,Int.reduceOfNat]:Qw c F x0 x1 s=_)
end
section
variable{c:aj}(hc:Sem c)(F:Nat){x0 x1 x2 x3 x4 x5 x6 x7 x8 x9 Y3 Y4:AV}{s:St}{r:AV×St}
include hc
theorem agS(h:ZH c F x0 x1 s=some r):c 30 [x0,x1] s=some (tidy s r):=hc.o1 F (Qv c F) Qu (by kernel_rfl) (by kernel_rfl) (λ_ _ _=>by kernel_rfl) (λ_ _ _ _=>by kernel_rfl) (by kernel_rfl) h
theorem agU(h:ZI c F x0 s=some r):c 32 [x0] s=some (tidy s r):=hc.o0 F abN (by kernel_rfl) (by kernel_rfl) h
theorem acM(h:NY c F x0 s=some r):c 33 [x0] s=some (tidy s r):=hc.o0 F Sg (by kernel_rfl) (by kernel_rfl) h
theorem adZ(h:Qw c F x0 x1 s=some r):c 74 [x0,x1] s=some (tidy s r):=hc.o1 F (JO c F) JN (by kernel_rfl) (by kernel_rfl) (λ_ _ _=>by kernel_rfl) (λ_ _ _ _=>by kernel_rfl) (by kernel_rfl) h
end
attribute [local go_sem ↓] bh BI ev evX Fz getLT DI X5 kat BG BH Tw Ra Rb Rc LX LY LZ L8 L9 Ma Re Rf Mb Mc Md Me Mf Z3 Z4 Z5
attribute [local go_sem] bh BI ev
section
variable(c:aj)(F:Nat)(x0 x1 x2 x3 x4 x5 x6 x7 x8 x9 Y3 Y4:AV)(s:St)
def Ey:Sh:=(sq sl (sq sl (sq sl (sq sl sl))))
def Ez:PX 9 Ey:=⟨_,by conv=>lhs;reduce⟩
def tM:O2:=bh c F bk Ez.1 [x0] s
def Um:=(by dsimp only[tM,Ez,go_sem,Int.reduceOfNat]:tM c F x0 s=_)
def vt:Sh:=(sq sl (sq sl (sq sl (sq sl (sq (sq sl (sb (sp 0 [1,2,5,6,7,8] [(2,[7])] (sq (sq sl (sc sl sl)) (sj [1,2,5,6,7,8] (sb (sq sl (sj [1,2,5,6,7,8,9] (sq sl (sc sl sl)) (sq sl (sc sl sl))))) sl))))) (sq sl sl))))))
def CY:PX 10 vt:=⟨_,by conv=>lhs;reduce⟩
def Bw:PL 10 vt 0:=⟨_,by conv=>lhs;reduce⟩
def fK(k2:Q2):Nat->Q2
 |0,_,_=>none
 |n+1,vs,s=>dU c F bk (fK k2 n) [k2] Bw.1 vs s
def ni(k2:Q2)(n:Nat)(vs:List AV)(s:St):=(by dsimp only[fK,Bw,go_sem,Int.reduceOfNat,Int.reduceNegSucc]:fK c F k2 (n+1) vs s=_)
def vu:Un->List Q2->Nat->Q2
 |.z,[k2]=>fK c F k2
 |_,_=>λ_=>fj
def xV:O2:=bh c F (vu c F) CY.1 [x0,x1] s
def Ru:=(by dsimp only[xV,CY, ↓vu,go_sem,Int.reduceOfNat,Int.reduceNegSucc]:xV c F x0 x1 s=_)
def ov:Sh:=(sq sl (sq sl (sq sl (sq (sq sl (sb (sp 0 [1,2,3,4,5] [(2,[1,2,3,4])] (sq (sq sl (sc sl sl)) (sq (sb (sq sl (sq sl (sq sl sl)))) sl))))) (sq sl (sq sl (sj [1,2,3] (sq sl (sc (sq sl (sb (sp 1 [1,2,3,9] [(4,[1,2,3])] (sq (sq sl (sc sl sl)) (sq (sb (sq sl sl)) sl))))) sl)) (sq (sq sl (sb (sp 2 [1,2,3,11] [(6,[2,3])] (sq (sq sl (sc sl sl)) (sj [1,2,3,11] (sb (sq sl (sq sl (sc (sq sl sl) sl)))) sl))))) (sq sl sl)))))))))
def FO:PX 15 ov:=⟨_,by conv=>lhs;reduce⟩
def EA:PL 15 ov 2:=⟨_,by conv=>lhs;reduce⟩
def ke(k6:Q2):Nat->Q2
 |0,_,_=>none
 |n+1,vs,s=>dU c F bk (ke k6 n) [k6] EA.1 vs s
def uq(k6:Q2)(n:Nat)(vs:List AV)(s:St):=(by dsimp only[ke,EA,go_sem,Int.reduceOfNat]:ke c F k6 (n+1) vs s=_)
def EB:PL 15 ov 1:=⟨_,by conv=>lhs;reduce⟩
def j9(k4:Q2):Nat->Q2
 |0,_,_=>none
 |n+1,vs,s=>dU c F bk (j9 k4 n) [k4] EB.1 vs s
def Bp(k4:Q2)(n:Nat)(vs:List AV)(s:St):=(by dsimp only[j9,EB,go_sem,Int.reduceOfNat]:j9 c F k4 (n+1) vs s=_)
def EC:PL 15 ov 0:=⟨_,by conv=>lhs;reduce⟩
def gL(k2:Q2):Nat->Q2
 |0,_,_=>none
 |n+1,vs,s=>dU c F bk (gL k2 n) [k2] EC.1 vs s
def Bo(k2:Q2)(n:Nat)(vs:List AV)(s:St):=(by dsimp only[gL,EC,go_sem,Int.reduceOfNat]:gL c F k2 (n+1) vs s=_)
def xW:Un->List Q2->Nat->Q2
 |.z,[k2]=>gL c F k2
 |(.s .z),[k4]=>j9 c F k4
 |(.s (.s .z)),[k6]=>ke c F k6
 |_,_=>λ_=>fj
def nJ:O2:=bh c F (xW c F) FO.1 [x0] s
def Xf:=(by dsimp only[nJ,FO, ↓xW,go_sem,Int.reduceOfNat]:nJ c F x0 s=_)
def zq:Sh:=(sq sl (sq sl (sq (sq sl (sc (sq sl sl) sl)) (sq sl (sq (sq sl (sb (sp 0 [5,6,21,22] [(2,[6])] (sq sl (sq (sc sl sl) (sq (sb (sq sl sl)) sl)))))) (sq sl sl))))))
def IK:PX 19 zq:=⟨_,by conv=>lhs;reduce⟩
def FP:PL 19 zq 0:=⟨_,by conv=>lhs;reduce⟩
def om(k2:Q2):Nat->Q2
 |0,_,_=>none
 |n+1,vs,s=>dU c F bk (om k2 n) [k2] FP.1 vs s
def CO(k2:Q2)(n:Nat)(vs:List AV)(s:St):=(by dsimp only[om,FP,go_sem,Int.reduceOfNat]:om c F k2 (n+1) vs s=_)
def zu:Un->List Q2->Nat->Q2
 |.z,[k2]=>om c F k2
 |_,_=>λ_=>fj
def Cf:O2:=bh c F (zu c F) IK.1 [x0,x1] s
def Yy:=(by dsimp only[Cf,IK, ↓zu,go_sem,Int.reduceOfNat]:Cf c F x0 x1 s=_)
def IL:Sh:=(sq sl (sq sl sl))
def IM:PX 22 IL:=⟨_,by conv=>lhs;reduce⟩
def Cg:O2:=bh c F bk IM.1 [x0,x1] s
def Yr:=(by dsimp only[Cg,IM,go_sem,Int.reduceOfNat]:Cg c F x0 x1 s=_)
def KO:Sh:=(sq sl (sq sl sl))
def KP:PX 23 KO:=⟨_,by conv=>lhs;reduce⟩
def EF:O2:=bh c F bk KP.1 [x0,x1] s
def aaE:=(by dsimp only[EF,KP,go_sem,Int.reduceOfNat]:EF c F x0 x1 s=_)
def KQ:Sh:=(sq sl (sq sl (sj [5] (sq sl (sc sl sl)) (sq sl sl))))
def KR:PX 24 KQ:=⟨_,by conv=>lhs;reduce⟩
def EG:O2:=bh c F bk KR.1 [x0,x1] s
def aaG:=(by dsimp only[EG,KR,go_sem,Int.reduceOfNat]:EG c F x0 x1 s=_)
def zw:Sh:=(sq sl (sq sl (sq (sq sl (sc (sq sl sl) sl)) (sq (sq sl (sb (sp 0 [5,24,25,26] [(1,[4]),(2,[])] (sq sl (sq (sc sl sl) (sq (sb (sq sl (sq sl (sc (sq sl sl) sl)))) sl)))))) (sq sl sl)))))
def IP:PX 28 zw:=⟨_,by conv=>lhs;reduce⟩
def FR:PL 28 zw 0:=⟨_,by conv=>lhs;reduce⟩
def oe(k1 k2:Q2):Nat->Q2
 |0,_,_=>none
 |n+1,vs,s=>dU c F bk (oe k1 k2 n) [k1,k2] FR.1 vs s
def pL(k1 k2:Q2)(n:Nat)(vs:List AV)(s:St):=(by dsimp only[oe,FR,go_sem,Int.reduceOfNat,Int.reduceNegSucc]:oe c F k1 k2 (n+1) vs s=_)
def zx:Un->List Q2->Nat->Q2
 |.z,[k1,k2]=>oe c F k1 k2
 |_,_=>λ_=>fj
def Ci:O2:=bh c F (zx c F) IP.1 [x0,x1] s
def Ib:=(by dsimp only[Ci,IP, ↓zx,go_sem,Int.reduceOfNat,Int.reduceNegSucc]:Ci c F x0 x1 s=_)
def ur:Sh:=(sq sl (sq sl (sq (sq sl (sb (sp 0 [1,3,4] [(2,[3])] (sq (sq sl (sc sl sl)) (sq (sb sl) sl))))) (sq sl sl))))
def Bx:PX 35 ur:=⟨_,by conv=>lhs;reduce⟩
def Ak:PL 35 ur 0:=⟨_,by conv=>lhs;reduce⟩
def kz(k2:Q2):Nat->Q2
 |0,_,_=>none
 |n+1,vs,s=>dU c F bk (kz k2 n) [k2] Ak.1 vs s
def yu(k2:Q2)(n:Nat)(vs:List AV)(s:St):=(by dsimp only[kz,Ak,go_sem,Int.reduceOfNat]:kz c F k2 (n+1) vs s=_)
def uu:Un->List Q2->Nat->Q2
 |.z,[k2]=>kz c F k2
 |_,_=>λ_=>fj
def wR:O2:=bh c F (uu c F) Bx.1 [x0] s
def PZ:=(by dsimp only[wR,Bx, ↓uu,go_sem,Int.reduceOfNat]:wR c F x0 s=_)
def wS:Sh:=(sq sl (sq (sq sl (sb (sp 0 [0,1,5] [(1,[4]),(2,[])] (sq (sq sl (sc sl sl)) (sq (sb (sq sl (sq sl (sc (sq sl (sq sl sl)) sl)))) sl))))) (sq sl sl)))
def EJ:PX 36 wS:=⟨_,by conv=>lhs;reduce⟩
def CZ:PL 36 wS 0:=⟨_,by conv=>lhs;reduce⟩
def mz(k1 k2:Q2):Nat->Q2
 |0,_,_=>none
 |n+1,vs,s=>dU c F bk (mz k1 k2 n) [k1,k2] CZ.1 vs s
def sK(k1 k2:Q2)(n:Nat)(vs:List AV)(s:St):=(by dsimp only[mz,CZ,go_sem,Int.reduceOfNat,Int.reduceNegSucc]:mz c F k1 k2 (n+1) vs s=_)
def wT:Un->List Q2->Nat->Q2
 |.z,[k1,k2]=>mz c F k1 k2
 |_,_=>λ_=>fj
def zz:O2:=bh c F (wT c F) EJ.1 [x0,x1] s
def DO:=(by dsimp only[zz,EJ, ↓wT,go_sem,Int.reduceOfNat,Int.reduceNegSucc]:zz c F x0 x1 s=_)
def AE:Sh:=(sq sl (sq (sq sl (sc (sq sl sl) sl)) (sq sl (sq (sq sl (sb (sp 0 [0,5,32,33,34] [(1,[4]),(2,[5])] (sq sl (sq (sc sl sl) (sj [0,5,32,33,34] (sb (sq sl (sq (sq sl (sc (sq sl sl) sl)) (sq sl (sc sl sl))))) sl)))))) (sq sl sl)))))
def KT:PX 37 AE:=⟨_,by conv=>lhs;reduce⟩
def IQ:PL 37 AE 0:=⟨_,by conv=>lhs;reduce⟩
def mq(k1 k2:Q2):Nat->Q2
 |0,_,_=>none
 |n+1,vs,s=>dU c F bk (mq k1 k2 n) [k1,k2] IQ.1 vs s
def gH(k1 k2:Q2)(n:Nat)(vs:List AV)(s:St):=(by dsimp only[mq,IQ,go_sem,Int.reduceOfNat,Int.reduceNegSucc]:mq c F k1 k2 (n+1) vs s=_)
def AG:Un->List Q2->Nat->Q2
 |.z,[k1,k2]=>mq c F k1 k2
 |_,_=>λ_=>fj
def EK:O2:=bh c F (AG c F) KT.1 [x0,x1] s
def At:=(by dsimp only[EK,KT, ↓AG,go_sem,Int.reduceOfNat,Int.reduceNegSucc]:EK c F x0 x1 s=_)
def IU:Sh:=(sq sl (sq sl (sq sl (sq sl sl))))
def IV:PX 41 IU:=⟨_,by conv=>lhs;reduce⟩
def Cj:O2:=bh c F bk IV.1 [x0,x1] s
def Yo:=(by dsimp only[Cj,IV,go_sem,Int.reduceOfNat]:Cj c F x0 x1 s=_)
def wU:Sh:=(sq sl (sq sl (sq sl (sj [1,4,5] (sq sl (sb (sq sl (sc sl (sq sl (sc sl (sq sl (sc sl (sq sl (sc (sq sl sl) sl)))))))))) (sq (sq sl (sb (sp 0 [1,4,5,7] [(3,[4,5])] (sq (sq sl (sc sl sl)) (sj [1,4,5,7] (sb (sq sl (sc (sq sl sl) sl))) sl))))) (sq sl sl))))))
def EL:PX 45 wU:=⟨_,by conv=>lhs;reduce⟩
def C8:PL 45 wU 0:=⟨_,by conv=>lhs;reduce⟩
def jE(k3:Q2):Nat->Q2
 |0,_,_=>none
 |n+1,vs,s=>dU c F bk (jE k3 n) [k3] C8.1 vs s
def nZ(k3:Q2)(n:Nat)(vs:List AV)(s:St):=(by dsimp only[jE,C8,go_sem,Int.reduceOfNat]:jE c F k3 (n+1) vs s=_)
def wW:Un->List Q2->Nat->Q2
 |.z,[k3]=>jE c F k3
 |_,_=>λ_=>fj
def zA:O2:=bh c F (wW c F) EL.1 [x0,x1] s
def UF:=(by dsimp only[zA,EL, ↓wW,go_sem,Int.reduceOfNat]:zA c F x0 x1 s=_)
def FT:Sh:=(sq sl (sq (sq sl (sb (sq sl (sc (sq sl sl) (sq sl (sc (sq sl sl) sl)))))) (sq sl sl)))
def FU:PX 46 FT:=⟨_,by conv=>lhs;reduce⟩
def AH:O2:=bh c F bk FU.1 [x0] s
def Xd:=(by dsimp only[AH,FU,go_sem,Int.reduceOfNat]:AH c F x0 s=_)
def kJ:Sh:=(sq sl (sq sl (sq (sq sl (sb (sp 0 [0,1,4,5,6] [(2,[1,4,5])] (sq (sq sl (sc sl sl)) (sj [0,1,4,5,6] (sb (sq sl (sq sl (sj [0,1,4,5,6,7,8] (sq sl (sc sl sl)) (sj [0,1,4,5,6,7,8] (sq sl (sc sl sl)) (sj [0,1,4,5,6,7,8] (sq sl (sc sl sl)) (sq (sq sl (sb (sp 1 [0,1,4,5,6,7,8,9] [(4,[0,1,4,5,6,8])] (sq (sq sl (sc sl sl)) (sj [0,1,4,5,6,7,8,9] (sb (sq sl (sc (sq sl sl) sl))) sl))))) (sq sl sl)))))))) sl))))) (sq sl (sq (sq sl (sb (sp 2 [1,4,5,12,13] [(6,[4,5])] (sq (sq sl (sc sl sl)) (sq (sb (sq sl (sb (sp 3 [1,4,5,12,13,14] [(8,[1,4,5,12,13])] (sq (sq sl (sc sl sl)) (sj [1,4,5,12,13,14] (sb (sq (sq sl (sc sl sl)) (sq (sq sl (sc sl sl)) (sj [1,4,5,12,13,14] (sq sl (sc (sq sl sl) sl)) sl)))) sl)))))) sl))))) (sq sl sl))))))
def FV:PX 47 kJ:=⟨_,by conv=>lhs;reduce⟩
def EM:PL 47 kJ 3:=⟨_,by conv=>lhs;reduce⟩
def kg(k8:Q2):Nat->Q2
 |0,_,_=>none
 |n+1,vs,s=>dU c F bk (kg k8 n) [k8] EM.1 vs s
def iW(k8:Q2)(n:Nat)(vs:List AV)(s:St):=(by dsimp only[kg,EM,go_sem,Int.reduceOfNat]:kg c F k8 (n+1) vs s=_)
def EN:Un->List Q2->Nat->Q2
 |(.s (.s (.s .z))),[k8]=>kg c F k8
 |_,_=>λ_=>fj
def EO:PL 47 kJ 2:=⟨_,by conv=>lhs;reduce⟩
def ki(k6:Q2):Nat->Q2
 |0,_,_=>none
 |n+1,vs,s=>dU c F (EN c F) (ki k6 n) [k6] EO.1 vs s
def Bq(k6:Q2)(n:Nat)(vs:List AV)(s:St):=(by dsimp only[ki,EO, ↓EN,go_sem,Int.reduceOfNat]:ki c F k6 (n+1) vs s=_)
def EP:PL 47 kJ 1:=⟨_,by conv=>lhs;reduce⟩
def iP(k4:Q2):Nat->Q2
 |0,_,_=>none
 |n+1,vs,s=>dU c F bk (iP k4 n) [k4] EP.1 vs s
def um(k4:Q2)(n:Nat)(vs:List AV)(s:St):=(by dsimp only[iP,EP,go_sem,Int.reduceOfNat]:iP c F k4 (n+1) vs s=_)
def ER:Un->List Q2->Nat->Q2
 |(.s .z),[k4]=>iP c F k4
 |_,_=>λ_=>fj
def ES:PL 47 kJ 0:=⟨_,by conv=>lhs;reduce⟩
def gK(k2:Q2):Nat->Q2
 |0,_,_=>none
 |n+1,vs,s=>dU c F (ER c F) (gK k2 n) [k2] ES.1 vs s
def Bn(k2:Q2)(n:Nat)(vs:List AV)(s:St):=(by dsimp only[gK,ES, ↓ER,go_sem,Int.reduceOfNat]:gK c F k2 (n+1) vs s=_)
def xX:Un->List Q2->Nat->Q2
 |.z,[k2]=>gK c F k2
 |(.s .z),[k4]=>iP c F k4
 |(.s (.s .z)),[k6]=>ki c F k6
 |(.s (.s (.s .z))),[k8]=>kg c F k8
 |_,_=>λ_=>fj
def AI:O2:=bh c F (xX c F) FV.1 [x0,x1] s
def Xe:=(by dsimp only[AI,FV, ↓xX,go_sem,Int.reduceOfNat]:AI c F x0 x1 s=_)
def ET:Sh:=(sq sl (sq sl (sq sl (sj [1,2,4,6] (sq sl (sc sl sl)) (sq sl (sq sl (sq (sq sl (sc (sq sl sl) sl)) (sq sl (sq sl (sj [1,2,4,6,11] (sq sl (sb (sj [1,2,4,6,9,10,11,12,58,59] (sq sl (sc sl (sq sl (sc sl (sq sl (sc sl (sq sl (sc sl sl)))))))) (sc (sq sl (sj [4,6,9,10] (sq sl (sc sl sl)) (sj [4,6,9,10] (sq sl (sc sl sl)) (sq sl sl)))) (sj [1,2,4,6,9,11,12,58,100] (sq sl (sc sl sl)) (sc (sq sl (sj [4,6] (sq sl (sc sl sl)) (sq sl sl))) (sq sl (sc (sj [4,6] (sq sl (sc sl sl)) (sq sl sl)) (sq sl (sc (sq sl (sq sl sl)) (sj [1,2,4,6,11,12,164] (sq sl (sc sl sl)) (sc sl sl)))))))))))) (sj [4,6] (sq sl (sc sl sl)) (sq sl sl))))))))))))
def EU:PX 48 ET:=⟨_,by conv=>lhs;reduce⟩
def mC:O2:=bh c F bk EU.1 [x0,x1] s
def UH:=(by dsimp only[mC,EU,go_sem,Int.reduceOfNat]:mC c F x0 x1 s=_)
def AK:Sh:=(sq sl (sq sl (sq sl (sq (sq sl (sb (sp 0 [0,1,5,6,7,16,17,18] [(2,[0,1,5,6,7])] (sq sl (sq (sc sl sl) (sj [0,1,5,6,7,16,17,18] (sb (sq sl (sq sl (sc (sq sl (sq sl (sc sl sl))) sl)))) sl)))))) (sj [5] (sq sl (sb (sq sl (sc sl (sq sl (sc sl (sq sl (sc (sq sl (sc sl sl)) sl)))))))) (sq sl sl))))))
def KU:PX 71 AK:=⟨_,by conv=>lhs;reduce⟩
def IW:PL 71 AK 0:=⟨_,by conv=>lhs;reduce⟩
def o6(k2:Q2):Nat->Q2
 |0,_,_=>none
 |n+1,vs,s=>dU c F bk (o6 k2 n) [k2] IW.1 vs s
def DM(k2:Q2)(n:Nat)(vs:List AV)(s:St):=(by dsimp only[o6,IW,go_sem,Int.reduceOfNat]:o6 c F k2 (n+1) vs s=_)
def AL:Un->List Q2->Nat->Q2
 |.z,[k2]=>o6 c F k2
 |_,_=>λ_=>fj
def EV:O2:=bh c F (AL c F) KU.1 [x0,x1] s
def aaD:=(by dsimp only[EV,KU, ↓AL,go_sem,Int.reduceOfNat]:EV c F x0 x1 s=_)
def Ck:Sh:=(sq sl (sq sl (sq (sq sl (sc (sq sl sl) sl)) (sq sl (sq (sq sl (sb (sp 0 [2,7,8,23,24,25] [(2,[8])] (sq sl (sq (sc sl sl) (sj [2,7,8,23,24,25] (sb (sq sl (sq sl (sc sl sl)))) sl)))))) (sq sl sl))))))
def NZ:PX 72 Ck:=⟨_,by conv=>lhs;reduce⟩
def KV:PL 72 Ck 0:=⟨_,by conv=>lhs;reduce⟩
def qc(k2:Q2):Nat->Q2
 |0,_,_=>none
 |n+1,vs,s=>dU c F bk (qc k2 n) [k2] KV.1 vs s
def FD(k2:Q2)(n:Nat)(vs:List AV)(s:St):=(by dsimp only[qc,KV,go_sem,Int.reduceOfNat]:qc c F k2 (n+1) vs s=_)
def Cl:Un->List Q2->Nat->Q2
 |.z,[k2]=>qc c F k2
 |_,_=>λ_=>fj
def Ho:O2:=bh c F (Cl c F) NZ.1 [x0,x1,x2] s
def acC:=(by dsimp only[Ho,NZ, ↓Cl,go_sem,Int.reduceOfNat]:Ho c F x0 x1 x2 s=_)
def sP:Sh:=(sq sl (sj [0,1] (sq sl (sc sl sl)) (sq sl (sj [0,6] (sq sl (sc sl sl)) (sq sl (sq sl (sq (sb (sp 0 [7,8] [(2,[7])] (sq (sq sl (sc sl sl)) (sb sl)))) (sq sl sl))))))))
def Al:PX 79 sP:=⟨_,by conv=>lhs;reduce⟩
def zB:PL 79 sP 0:=⟨_,by conv=>lhs;reduce⟩
def jP(k2:Q2):Nat->Q2
 |0,_,_=>none
 |n+1,vs,s=>dU c F bk (jP k2 n) [k2] zB.1 vs s
def lf(k2:Q2)(n:Nat)(vs:List AV)(s:St):=(by dsimp only[jP,zB,go_sem,Int.reduceOfNat]:jP c F k2 (n+1) vs s=_)
def sQ:Un->List Q2->Nat->Q2
 |.z,[k2]=>jP c F k2
 |_,_=>λ_=>fj
def vw:O2:=bh c F (sQ c F) Al.1 [x0,x1] s
def Ad:=(by dsimp only[vw,Al, ↓sQ,go_sem,Int.reduceOfNat]:vw c F x0 x1 s=_)
def EW:Sh:=sl
def EX:PX 82 EW:=⟨_,by conv=>lhs;reduce⟩
def zC:O2:=bh c F bk EX.1 [x0,x1,x2] s
def Uc:=(by dsimp only[zC,EX,go_sem,Int.reduceOfNat]:zC c F x0 x1 x2 s=_)
def FW:Sh:=(sq sl (sq sl sl))
def FX:PX 85 FW:=⟨_,by conv=>lhs;reduce⟩
def AM:O2:=bh c F bk FX.1 [x0] s
def Xc:=(by dsimp only[AM,FX,go_sem,Int.reduceOfNat]:AM c F x0 s=_)
def C9:Sh:=(sq sl (sq sl sl))
def Da:PX 86 C9:=⟨_,by conv=>lhs;reduce⟩
def xY:O2:=bh c F bk Da.1 [x0] s
def RY:=(by dsimp only[xY,Da,go_sem,Int.reduceOfNat]:xY c F x0 s=_)
def wX:Sh:=(sq sl (sq (sq sl (sb (sp 0 [1,2,5] [(1,[4]),(2,[])] (sq (sq sl (sc sl sl)) (sq (sb (sq sl (sc (sq sl sl) sl))) sl))))) (sq sl sl)))
def EY:PX 87 wX:=⟨_,by conv=>lhs;reduce⟩
def Db:PL 87 wX 0:=⟨_,by conv=>lhs;reduce⟩
def mB(k1 k2:Q2):Nat->Q2
 |0,_,_=>none
 |n+1,vs,s=>dU c F bk (mB k1 k2 n) [k1,k2] Db.1 vs s
def sO(k1 k2:Q2)(n:Nat)(vs:List AV)(s:St):=(by dsimp only[mB,Db,go_sem,Int.reduceOfNat]:mB c F k1 k2 (n+1) vs s=_)
def wY:Un->List Q2->Nat->Q2
 |.z,[k1,k2]=>mB c F k1 k2
 |_,_=>λ_=>fj
def zD:O2:=bh c F (wY c F) EY.1 [x0,x1] s
def UG:=(by dsimp only[zD,EY, ↓wY,go_sem,Int.reduceOfNat]:zD c F x0 x1 s=_)
def KW:Sh:=(sq sl (sq sl (sq (sq sl (sc sl sl)) (sq sl (sq sl (sc sl sl))))))
def KY:PX 90 KW:=⟨_,by conv=>lhs;reduce⟩
def EZ:O2:=bh c F bk KY.1 [x0,x1,x2] s
def aas:=(by dsimp only[EZ,KY,go_sem,Int.reduceOfNat]:EZ c F x0 x1 x2 s=_)
def By:Sh:=(sq sl (sq sl (sq sl (sc sl sl))))
def Bz:PX 91 By:=⟨_,by conv=>lhs;reduce⟩
def wZ:O2:=bh c F bk Bz.1 [x0,x1,x2] s
def PJ:=(by dsimp only[wZ,Bz,go_sem,Int.reduceOfNat]:wZ c F x0 x1 x2 s=_)
def BA:Sh:=(sq sl (sq sl (sq sl (sc sl sl))))
def BB:PX 92 BA:=⟨_,by conv=>lhs;reduce⟩
def w7:O2:=bh c F bk BB.1 [x0,x1,x2] s
def PM:=(by dsimp only[w7,BB,go_sem,Int.reduceOfNat]:w7 c F x0 x1 x2 s=_)
def IX:Sh:=(sq sl (sq sl (sq sl (sc (sq sl (sq sl (sc sl sl))) sl))))
def IY:PX 93 IX:=⟨_,by conv=>lhs;reduce⟩
def Cm:O2:=bh c F bk IY.1 [x0,x1,x2] s
def Yh:=(by dsimp only[Cm,IY,go_sem,Int.reduceOfNat]:Cm c F x0 x1 x2 s=_)
def E0:Sh:=(sq sl (sq sl (sq sl (sc sl sl))))
def E7:PX 94 E0:=⟨_,by conv=>lhs;reduce⟩
def zE:O2:=bh c F bk E7.1 [x0,x1,x2] s
def TQ:=(by dsimp only[zE,E7,go_sem,Int.reduceOfNat]:zE c F x0 x1 x2 s=_)
def Sk:Sh:=(sq sl (sq sl (sq sl (sq sl (sc sl sl)))))
def Sl:PX 95 Sk:=⟨_,by conv=>lhs;reduce⟩
def N4:O2:=bh c F bk Sl.1 [x0,x1,x2] s
def ae8:=(by dsimp only[N4,Sl,go_sem,Int.reduceOfNat]:N4 c F x0 x1 x2 s=_)
def Cn:Sh:=(sq sl (sq sl (sq sl (sq (sq sl (sc sl sl)) (sq sl (sq (sb (sp 0 [0,2,4,6,7,8] [(2,[0,2,4,6,7,8])] (sq (sq sl (sc sl sl)) (sb sl)))) (sq sl (sc sl sl))))))))
def N6:PX 96 Cn:=⟨_,by conv=>lhs;reduce⟩
def KZ:PL 96 Cn 0:=⟨_,by conv=>lhs;reduce⟩
def p7(k2:Q2):Nat->Q2
 |0,_,_=>none
 |n+1,vs,s=>dU c F bk (p7 k2 n) [k2] KZ.1 vs s
def rY(k2:Q2)(n:Nat)(vs:List AV)(s:St):=(by dsimp only[p7,KZ,go_sem,Int.reduceOfNat]:p7 c F k2 (n+1) vs s=_)
def Co:Un->List Q2->Nat->Q2
 |.z,[k2]=>p7 c F k2
 |_,_=>λ_=>fj
def Hp:O2:=bh c F (Co c F) N6.1 [x0,x1,x2] s
def acs:=(by dsimp only[Hp,N6, ↓Co,go_sem,Int.reduceOfNat]:Hp c F x0 x1 x2 s=_)
def Dc:Sh:=(sq sl sl)
def Dd:PX 97 Dc:=⟨_,by conv=>lhs;reduce⟩
def xZ:O2:=bh c F bk Dd.1 [x0,x1,x2] s
def Rn:=(by dsimp only[xZ,Dd,go_sem,Int.reduceOfNat]:xZ c F x0 x1 x2 s=_)
def N7:Sh:=(sq sl sl)
def N9:PX 98 N7:=⟨_,by conv=>lhs;reduce⟩
def Hq:O2:=bh c F bk N9.1 [x0,x1,x2] s
def acy:=(by dsimp only[Hq,N9,go_sem,Int.reduceOfNat]:Hq c F x0 x1 x2 s=_)
def AN:Sh:=(sq sl (sq sl (sb (sp 0 [0,2,4,11,12,13] [(2,[])] (sq sl (sq (sc sl sl) (sj [0,2,4,11,12,13] (sb (sq sl (sq sl (sc sl sl)))) sl)))))))
def K7:PX 99 AN:=⟨_,by conv=>lhs;reduce⟩
def IZ:PL 99 AN 0:=⟨_,by conv=>lhs;reduce⟩
def jN(k2:Q2):Nat->Q2
 |0,_,_=>none
 |n+1,vs,s=>dU c F bk (jN k2 n) [k2] IZ.1 vs s
def iM(k2:Q2)(n:Nat)(vs:List AV)(s:St):=(by dsimp only[jN,IZ,go_sem,Int.reduceOfNat]:jN c F k2 (n+1) vs s=_)
def AO:Un->List Q2->Nat->Q2
 |.z,[k2]=>jN c F k2
 |_,_=>λ_=>fj
def E8:O2:=bh c F (AO c F) K7.1 [x0,x1,x2] s
def aax:=(by dsimp only[E8,K7, ↓AO,go_sem,Int.reduceOfNat]:E8 c F x0 x1 x2 s=_)
def qt:Sh:=(sq sl (sq sl (sb (sp 0 [0,2,4,18,19,20] [(2,[])] (sq sl (sq (sc sl sl) (sj [0,2,4,18,19,20] (sb (sq sl (sq (sq sl (sc sl sl)) (sq sl (sq (sq sl (sb (sp 1 [0,2,4,6,8,9,18,19,20,54,55,56] [(4,[0,2,4,6,8,9,18,19,20])] (sq sl (sq (sc sl sl) (sq (sb (sq sl (sq sl (sb (sp 2 [0,2,4,6,8,9,18,19,20,54,55,56,60,61,62] [(6,[0,2,4,6,8,9,18,19,20,54,55,56])] (sq sl (sq (sc sl sl) (sj [0,2,4,6,8,9,18,19,20,54,55,56,60,61,62] (sb (sq sl (sq sl (sq sl (sc (sq sl sl) sl))))) sl)))))))) sl)))))) (sq sl (sc sl sl))))))) sl)))))))
def K8:PX 100 qt:=⟨_,by conv=>lhs;reduce⟩
def I0:PL 100 qt 2:=⟨_,by conv=>lhs;reduce⟩
def jO(k6:Q2):Nat->Q2
 |0,_,_=>none
 |n+1,vs,s=>dU c F bk (jO k6 n) [k6] I0.1 vs s
def wm(k6:Q2)(n:Nat)(vs:List AV)(s:St):=(by dsimp only[jO,I0,go_sem,Int.reduceOfNat]:jO c F k6 (n+1) vs s=_)
def I3:Un->List Q2->Nat->Q2
 |(.s (.s .z)),[k6]=>jO c F k6
 |_,_=>λ_=>fj
def I6:PL 100 qt 1:=⟨_,by conv=>lhs;reduce⟩
def mo(k4:Q2):Nat->Q2
 |0,_,_=>none
 |n+1,vs,s=>dU c F (I3 c F) (mo k4 n) [k4] I6.1 vs s
def wq(k4:Q2)(n:Nat)(vs:List AV)(s:St):=(by dsimp only[mo,I6, ↓I3,go_sem,Int.reduceOfNat]:mo c F k4 (n+1) vs s=_)
def I7:Un->List Q2->Nat->Q2
 |(.s .z),[k4]=>mo c F k4
 |(.s (.s .z)),[k6]=>jO c F k6
 |_,_=>λ_=>fj
def I8:PL 100 qt 0:=⟨_,by conv=>lhs;reduce⟩
def gG(k2:Q2):Nat->Q2
 |0,_,_=>none
 |n+1,vs,s=>dU c F (I7 c F) (gG k2 n) [k2] I8.1 vs s
def nh(k2:Q2)(n:Nat)(vs:List AV)(s:St):=(by dsimp only[gG,I8, ↓I7,go_sem,Int.reduceOfNat]:gG c F k2 (n+1) vs s=_)
def AP:Un->List Q2->Nat->Q2
 |.z,[k2]=>gG c F k2
 |(.s .z),[k4]=>mo c F k4
 |(.s (.s .z)),[k6]=>jO c F k6
 |_,_=>λ_=>fj
def E9:O2:=bh c F (AP c F) K8.1 [x0,x1,x2] s
def aay:=(by dsimp only[E9,K8, ↓AP,go_sem,Int.reduceOfNat]:E9 c F x0 x1 x2 s=_)
def K9:Sh:=(sq sl sl)
def La:PX 101 K9:=⟨_,by conv=>lhs;reduce⟩
def Fa:O2:=bh c F bk La.1 [x0,x1,x2] s
def aaw:=(by dsimp only[Fa,La,go_sem,Int.reduceOfNat]:Fa c F x0 x1 x2 s=_)
def sg:Sh:=(sq sl (sq sl (sb (sp 0 [0,2,4,13,14,15] [(2,[])] (sq sl (sq (sc sl sl) (sq (sb (sq sl (sq sl (sb (sp 1 [0,2,4,6,7,8,13,14,15] [(4,[0,2,4,13,14,15])] (sq (sq sl (sc sl sl)) (sj [0,2,4,6,7,8,13,14,15] (sb (sq sl (sq sl (sc sl sl)))) sl))))))) sl)))))))
def FY:PX 102 sg:=⟨_,by conv=>lhs;reduce⟩
def Fb:PL 102 sg 1:=⟨_,by conv=>lhs;reduce⟩
def gC(k4:Q2):Nat->Q2
 |0,_,_=>none
 |n+1,vs,s=>dU c F bk (gC k4 n) [k4] Fb.1 vs s
def iV(k4:Q2)(n:Nat)(vs:List AV)(s:St):=(by dsimp only[gC,Fb,go_sem,Int.reduceOfNat]:gC c F k4 (n+1) vs s=_)
def Fc:Un->List Q2->Nat->Q2
 |(.s .z),[k4]=>gC c F k4
 |_,_=>λ_=>fj
def Fe:PL 102 sg 0:=⟨_,by conv=>lhs;reduce⟩
def mZ(k2:Q2):Nat->Q2
 |0,_,_=>none
 |n+1,vs,s=>dU c F (Fc c F) (mZ k2 n) [k2] Fe.1 vs s
def A9(k2:Q2)(n:Nat)(vs:List AV)(s:St):=(by dsimp only[mZ,Fe, ↓Fc,go_sem,Int.reduceOfNat]:mZ c F k2 (n+1) vs s=_)
def ya:Un->List Q2->Nat->Q2
 |.z,[k2]=>mZ c F k2
 |(.s .z),[k4]=>gC c F k4
 |_,_=>λ_=>fj
def AQ:O2:=bh c F (ya c F) FY.1 [x0,x1,x2] s
def Ws:=(by dsimp only[AQ,FY, ↓ya,go_sem,Int.reduceOfNat]:AQ c F x0 x1 x2 s=_)
def I9:Sh:=(sq sl (sq (sq sl (sc sl sl)) sl))
def Ja:PX 103 I9:=⟨_,by conv=>lhs;reduce⟩
def Cp:O2:=bh c F bk Ja.1 [x0,x1,x2] s
def H7:=(by dsimp only[Cp,Ja,go_sem,Int.reduceOfNat]:Cp c F x0 x1 x2 s=_)
def Oa:Sh:=(sq sl sl)
def Ob:PX 104 Oa:=⟨_,by conv=>lhs;reduce⟩
def Hr:O2:=bh c F bk Ob.1 [x0,x1,x2] s
def acz:=(by dsimp only[Hr,Ob,go_sem,Int.reduceOfNat]:Hr c F x0 x1 x2 s=_)
def Lb:Sh:=(sq sl sl)
def Lc:PX 105 Lb:=⟨_,by conv=>lhs;reduce⟩
def Ff:O2:=bh c F bk Lc.1 [x0,x1,x2] s
def aaz:=(by dsimp only[Ff,Lc,go_sem,Int.reduceOfNat]:Ff c F x0 x1 x2 s=_)
def yb:Sh:=(sq sl (sq sl (sb (sp 0 [0,2,4,11,12,13] [(2,[])] (sq sl (sq (sc sl sl) (sj [0,2,4,11,12,13] (sb (sq sl (sq sl (sc sl sl)))) sl)))))))
def FZ:PX 106 yb:=⟨_,by conv=>lhs;reduce⟩
def Fg:PL 106 yb 0:=⟨_,by conv=>lhs;reduce⟩
def iN(k2:Q2):Nat->Q2
 |0,_,_=>none
 |n+1,vs,s=>dU c F bk (iN k2 n) [k2] Fg.1 vs s
def kQ(k2:Q2)(n:Nat)(vs:List AV)(s:St):=(by dsimp only[iN,Fg,go_sem,Int.reduceOfNat]:iN c F k2 (n+1) vs s=_)
def yc:Un->List Q2->Nat->Q2
 |.z,[k2]=>iN c F k2
 |_,_=>λ_=>fj
def AR:O2:=bh c F (yc c F) FZ.1 [x0,x1,x2] s
def Wu:=(by dsimp only[AR,FZ, ↓yc,go_sem,Int.reduceOfNat]:AR c F x0 x1 x2 s=_)
def Pm:Sh:=(sq sl sl)
def Pn:PX 107 Pm:=⟨_,by conv=>lhs;reduce⟩
def JP:O2:=bh c F bk Pn.1 [x0,x1,x2] s
def adQ:=(by dsimp only[JP,Pn,go_sem,Int.reduceOfNat]:JP c F x0 x1 x2 s=_)
def Oc:Sh:=(sq sl (sq sl (sq sl sl)))
def Od:PX 161 Oc:=⟨_,by conv=>lhs;reduce⟩
def Hs:O2:=bh c F bk Od.1 [x0,x1] s
def acm:=(by dsimp only[Hs,Od,go_sem,Int.reduceOfNat]:Hs c F x0 x1 s=_)
def Po:Sh:=(sq sl (sq sl (sq sl sl)))
def Pp:PX 162 Po:=⟨_,by conv=>lhs;reduce⟩
def JQ:O2:=bh c F bk Pp.1 [x0,x1,x2] s
def adO:=(by dsimp only[JQ,Pp,go_sem,Int.reduceOfNat]:JQ c F x0 x1 x2 s=_)
def AS:Sh:=(sq sl (sq (sq sl (sb (sp 0 [0,3,20,21,22] [(1,[8]),(2,[])] (sq sl (sq (sc sl sl) (sq (sb (sq sl (sq sl (sc (sq sl sl) sl)))) sl)))))) (sq sl sl)))
def Ld:PX 163 AS:=⟨_,by conv=>lhs;reduce⟩
def Jb:PL 163 AS 0:=⟨_,by conv=>lhs;reduce⟩
def oX(k1 k2:Q2):Nat->Q2
 |0,_,_=>none
 |n+1,vs,s=>dU c F bk (oX k1 k2 n) [k1,k2] Jb.1 vs s
def qy(k1 k2:Q2)(n:Nat)(vs:List AV)(s:St):=(by dsimp only[oX,Jb,go_sem,Int.reduceOfNat]:oX c F k1 k2 (n+1) vs s=_)
def AT:Un->List Q2->Nat->Q2
 |.z,[k1,k2]=>oX c F k1 k2
 |_,_=>λ_=>fj
def Fh:O2:=bh c F (AT c F) Ld.1 [x0,x1,x2,x3] s
def aap:=(by dsimp only[Fh,Ld, ↓AT,go_sem,Int.reduceOfNat]:Fh c F x0 x1 x2 x3 s=_)
def uK:Sh:=(sq sl (sq sl (sb (sp 0 [0,2,3,5,15,16,17] [(2,[])] (sq sl (sq (sc sl sl) (sj [0,2,3,5,15,16,17] (sb (sq sl (sq (sq sl (sc sl sl)) (sq sl (sb (sp 1 [0,2,3,5,8,9,10,15,16,17] [(4,[0,2,3,5,15,16,17])] (sq (sq sl (sc sl sl)) (sj [0,2,3,5,8,9,10,15,16,17] (sb (sq sl (sq sl (sc sl sl)))) sl)))))))) sl)))))))
def Le:PX 164 uK:=⟨_,by conv=>lhs;reduce⟩
def Jd:PL 164 uK 1:=⟨_,by conv=>lhs;reduce⟩
def iH(k4:Q2):Nat->Q2
 |0,_,_=>none
 |n+1,vs,s=>dU c F bk (iH k4 n) [k4] Jd.1 vs s
def mX(k4:Q2)(n:Nat)(vs:List AV)(s:St):=(by dsimp only[iH,Jd,go_sem,Int.reduceOfNat]:iH c F k4 (n+1) vs s=_)
def Je:Un->List Q2->Nat->Q2
 |(.s .z),[k4]=>iH c F k4
 |_,_=>λ_=>fj
def Jf:PL 164 uK 0:=⟨_,by conv=>lhs;reduce⟩
def jM(k2:Q2):Nat->Q2
 |0,_,_=>none
 |n+1,vs,s=>dU c F (Je c F) (jM k2 n) [k2] Jf.1 vs s
def qz(k2:Q2)(n:Nat)(vs:List AV)(s:St):=(by dsimp only[jM,Jf, ↓Je,go_sem,Int.reduceOfNat]:jM c F k2 (n+1) vs s=_)
def AU:Un->List Q2->Nat->Q2
 |.z,[k2]=>jM c F k2
 |(.s .z),[k4]=>iH c F k4
 |_,_=>λ_=>fj
def Fi:O2:=bh c F (AU c F) Le.1 [x0,x1,x2,x3] s
def aat:=(by dsimp only[Fi,Le, ↓AU,go_sem,Int.reduceOfNat]:Fi c F x0 x1 x2 x3 s=_)
def Am:Sh:=(sq sl (sq sl sl))
def An:PX 165 Am:=⟨_,by conv=>lhs;reduce⟩
def vz:O2:=bh c F bk An.1 [x0,x1,x2] s
def Of:=(by dsimp only[vz,An,go_sem,Int.reduceOfNat]:vz c F x0 x1 x2 s=_)
def w9:Sh:=(sq sl (sq sl (sb (sp 0 [0,2,4,18,19,20] [(2,[])] (sq sl (sq (sc sl sl) (sj [0,2,4,18,19,20] (sb (sq sl (sq (sq sl (sc sl sl)) (sq sl (sq (sq sl (sb (sp 1 [0,2,4,6,8,18,19,20,38,39,40] [(4,[0,2,4,8,18,19,20])] (sq sl (sq (sc sl sl) (sj [0,2,4,6,8,18,19,20,38,39,40] (sb (sq sl (sq sl (sc sl sl)))) sl)))))) sl))))) sl)))))))
def Oe:PX 166 w9:=⟨_,by conv=>lhs;reduce⟩
def Lf:PL 166 w9 1:=⟨_,by conv=>lhs;reduce⟩
def nH(k4:Q2):Nat->Q2
 |0,_,_=>none
 |n+1,vs,s=>dU c F bk (nH k4 n) [k4] Lf.1 vs s
def rZ(k4:Q2)(n:Nat)(vs:List AV)(s:St):=(by dsimp only[nH,Lf,go_sem,Int.reduceOfNat]:nH c F k4 (n+1) vs s=_)
def Lg:Un->List Q2->Nat->Q2
 |(.s .z),[k4]=>nH c F k4
 |_,_=>λ_=>fj
def Lh:PL 166 w9 0:=⟨_,by conv=>lhs;reduce⟩
def gY(k2:Q2):Nat->Q2
 |0,_,_=>none
 |n+1,vs,s=>dU c F (Lg c F) (gY k2 n) [k2] Lh.1 vs s
def xO(k2:Q2)(n:Nat)(vs:List AV)(s:St):=(by dsimp only[gY,Lh, ↓Lg,go_sem,Int.reduceOfNat]:gY c F k2 (n+1) vs s=_)
def Cq:Un->List Q2->Nat->Q2
 |.z,[k2]=>gY c F k2
 |(.s .z),[k4]=>nH c F k4
 |_,_=>λ_=>fj
def Ht:O2:=bh c F (Cq c F) Oe.1 [x0,x1,x2] s
def acw:=(by dsimp only[Ht,Oe, ↓Cq,go_sem,Int.reduceOfNat]:Ht c F x0 x1 x2 s=_)
def zF:Sh:=(sq (sq sl (sb (sp 0 [0,1,2,6,7,8] [(1,[]),(2,[0,2])] (sq sl (sq (sc sl sl) (sq (sb (sq sl (sq sl (sc sl sl)))) sl)))))) (sq sl (sc sl sl)))
def Jh:PX 167 zF:=⟨_,by conv=>lhs;reduce⟩
def F0:PL 167 zF 0:=⟨_,by conv=>lhs;reduce⟩
def od(k1 k2:Q2):Nat->Q2
 |0,_,_=>none
 |n+1,vs,s=>dU c F bk (od k1 k2 n) [k1,k2] F0.1 vs s
def uT(k1 k2:Q2)(n:Nat)(vs:List AV)(s:St):=(by dsimp only[od,F0,go_sem,Int.reduceOfNat]:od c F k1 k2 (n+1) vs s=_)
def zH:Un->List Q2->Nat->Q2
 |.z,[k1,k2]=>od c F k1 k2
 |_,_=>λ_=>fj
def Cr:O2:=bh c F (zH c F) Jh.1 [x0,x1,x2] s
def yX:=(by dsimp only[Cr,Jh, ↓zH,go_sem,Int.reduceOfNat]:Cr c F x0 x1 x2 s=_)
def Li:Sh:=(sq sl (sq sl sl))
def Lj:PX 168 Li:=⟨_,by conv=>lhs;reduce⟩
def Fj:O2:=bh c F bk Lj.1 [x0,x1,x2] s
def aaq:=(by dsimp only[Fj,Lj,go_sem,Int.reduceOfNat]:Fj c F x0 x1 x2 s=_)
def F6:Sh:=(sq sl (sq sl sl))
def F7:PX 169 F6:=⟨_,by conv=>lhs;reduce⟩
def AW:O2:=bh c F bk F7.1 [x0,x1,x2] s
def Wq:=(by dsimp only[AW,F7,go_sem,Int.reduceOfNat]:AW c F x0 x1 x2 s=_)
def Ji:Sh:=(sq sl (sq sl sl))
def Jj:PX 170 Ji:=⟨_,by conv=>lhs;reduce⟩
def Cs:O2:=bh c F bk Jj.1 [x0,x1,x2] s
def Yd:=(by dsimp only[Cs,Jj,go_sem,Int.reduceOfNat]:Cs c F x0 x1 x2 s=_)
def Fk:Sh:=(sq sl (sj [0,1,2] (sq sl (sc sl sl)) (sq sl sl)))
def Fl:PX 171 Fk:=⟨_,by conv=>lhs;reduce⟩
def zI:O2:=bh c F bk Fl.1 [x0,x1,x2] s
def TV:=(by dsimp only[zI,Fl,go_sem,Int.reduceOfNat]:zI c F x0 x1 x2 s=_)
def Jk:Sh:=(sq sl (sc sl sl))
def Jl:PX 172 Jk:=⟨_,by conv=>lhs;reduce⟩
def Ct:O2:=bh c F bk Jl.1 [x0,x1,x2] s
def Ia:=(by dsimp only[Ct,Jl,go_sem,Int.reduceOfNat]:Ct c F x0 x1 x2 s=_)
def F8:Sh:=(sq sl (sc sl sl))
def F9:PX 173 F8:=⟨_,by conv=>lhs;reduce⟩
def AX:O2:=bh c F bk F9.1 [x0,x1,x2] s
def FC:=(by dsimp only[AX,F9,go_sem,Int.reduceOfNat]:AX c F x0 x1 x2 s=_)
def Ll:Sh:=(sq sl (sq sl sl))
def Lm:PX 174 Ll:=⟨_,by conv=>lhs;reduce⟩
def Fm:O2:=bh c F bk Lm.1 [x0,x1,x2] s
def aau:=(by dsimp only[Fm,Lm,go_sem,Int.reduceOfNat]:Fm c F x0 x1 x2 s=_)
end
section
variable{c:aj}(hc:bu c)(F:Nat){x0 x1 x2 x3 x4 x5 x6 x7 x8 x9 Y3 Y4:AV}{s:St}{r:AV×St}
include hc
theorem P8(h:tM c F x0 s=some r):c 9 [x0] s=some (tidy s r):=hc.o0 F Ey (by kernel_rfl) (by kernel_rfl) h
theorem Oh(h:xV c F x0 x1 s=some r):c 10 [x0,x1] s=some (tidy s r):=hc.o1 F (vu c F) vt (by kernel_rfl) (by kernel_rfl) (λ_ _ _=>by kernel_rfl) (λ_ _ _ _=>by kernel_rfl) (by kernel_rfl) h
theorem R7(h:nJ c F x0 s=some r):c 15 [x0] s=some (tidy s r):=hc.oL F (xW c F) ov 3 (by kernel_rfl) (λi hi=>match i,hi with|0,_=>dc 0 (by kernel_rfl) (λ_ _ _=>by kernel_rfl) (λ_ _ _ _=>by kernel_rfl)|1,_=>dc 1 (by kernel_rfl) (λ_ _ _=>by kernel_rfl) (λ_ _ _ _=>by kernel_rfl)|2,_=>dc 2 (by kernel_rfl) (λ_ _ _=>by kernel_rfl) (λ_ _ _ _=>by kernel_rfl)|n+3,h=>absurd h (by omega)) (by kernel_rfl) h
theorem Uo(h:Cf c F x0 x1 s=some r):c 19 [x0,x1] s=some (tidy s r):=hc.o1 F (zu c F) zq (by kernel_rfl) (by kernel_rfl) (λ_ _ _=>by kernel_rfl) (λ_ _ _ _=>by kernel_rfl) (by kernel_rfl) h
theorem Ug(h:Cg c F x0 x1 s=some r):c 22 [x0,x1] s=some (tidy s r):=hc.o0 F IL (by kernel_rfl) (by kernel_rfl) h
theorem Wz(h:EF c F x0 x1 s=some r):c 23 [x0,x1] s=some (tidy s r):=hc.o0 F KO (by kernel_rfl) (by kernel_rfl) h
theorem WE(h:EG c F x0 x1 s=some r):c 24 [x0,x1] s=some (tidy s r):=hc.o0 F KQ (by kernel_rfl) (by kernel_rfl) h
theorem DN(h:Ci c F x0 x1 s=some r):c 28 [x0,x1] s=some (tidy s r):=hc.o1 F (zx c F) zw (by kernel_rfl) (by kernel_rfl) (λ_ _ _=>by kernel_rfl) (λ_ _ _ _=>by kernel_rfl) (by kernel_rfl) h
theorem MX(h:wR c F x0 s=some r):c 35 [x0] s=some (tidy s r):=hc.o1 F (uu c F) ur (by kernel_rfl) (by kernel_rfl) (λ_ _ _=>by kernel_rfl) (λ_ _ _ _=>by kernel_rfl) (by kernel_rfl) h
theorem Bc(h:zz c F x0 x1 s=some r):c 36 [x0,x1] s=some (tidy s r):=hc.o1 F (wT c F) wS (by kernel_rfl) (by kernel_rfl) (λ_ _ _=>by kernel_rfl) (λ_ _ _ _=>by kernel_rfl) (by kernel_rfl) h
theorem xP(h:EK c F x0 x1 s=some r):c 37 [x0,x1] s=some (tidy s r):=hc.o1 F (AG c F) AE (by kernel_rfl) (by kernel_rfl) (λ_ _ _=>by kernel_rfl) (λ_ _ _ _=>by kernel_rfl) (by kernel_rfl) h
theorem Ud(h:Cj c F x0 x1 s=some r):c 41 [x0,x1] s=some (tidy s r):=hc.o0 F IU (by kernel_rfl) (by kernel_rfl) h
theorem Qc(h:zA c F x0 x1 s=some r):c 45 [x0,x1] s=some (tidy s r):=hc.o1 F (wW c F) wU (by kernel_rfl) (by kernel_rfl) (λ_ _ _=>by kernel_rfl) (λ_ _ _ _=>by kernel_rfl) (by kernel_rfl) h
theorem RZ(h:AH c F x0 s=some r):c 46 [x0] s=some (tidy s r):=hc.o0 F FT (by kernel_rfl) (by kernel_rfl) h
theorem R6(h:AI c F x0 x1 s=some r):c 47 [x0,x1] s=some (tidy s r):=hc.oL F (xX c F) kJ 4 (by kernel_rfl) (λi hi=>match i,hi with|0,_=>dc 0 (by kernel_rfl) (λ_ _ _=>by kernel_rfl) (λ_ _ _ _=>by kernel_rfl)|1,_=>dc 1 (by kernel_rfl) (λ_ _ _=>by kernel_rfl) (λ_ _ _ _=>by kernel_rfl)|2,_=>dc 2 (by kernel_rfl) (λ_ _ _=>by kernel_rfl) (λ_ _ _ _=>by kernel_rfl)|3,_=>dc 3 (by kernel_rfl) (λ_ _ _=>by kernel_rfl) (λ_ _ _ _=>by kernel_rfl)|n+4,h=>absurd h (by omega)) (by kernel_rfl) h
theorem Qe(h:mC c F x0 x1 s=some r):c 48 [x0,x1] s=some (tidy s r):=hc.o0 F ET (by kernel_rfl) (by kernel_rfl) h
theorem Wy(h:EV c F x0 x1 s=some r):c 71 [x0,x1] s=some (tidy s r):=hc.o1 F (AL c F) AK (by kernel_rfl) (by kernel_rfl) (λ_ _ _=>by kernel_rfl) (λ_ _ _ _=>by kernel_rfl) (by kernel_rfl) h
theorem Yq(h:Ho c F x0 x1 x2 s=some r):c 72 [x0,x1,x2] s=some (tidy s r):=hc.o1 F (Cl c F) Ck (by kernel_rfl) (by kernel_rfl) (λ_ _ _=>by kernel_rfl) (λ_ _ _ _=>by kernel_rfl) (by kernel_rfl) h
theorem GH(h:n7 c F x0 x1 s=some r):c 73 [x0,x1] s=some (tidy s r):=hc.o0 F qH (by kernel_rfl) (by kernel_rfl) h
theorem Ub(h:Ej c F x0 s=some r):c 78 [x0] s=some (tidy s r):=hc.o0 F Kq (by kernel_rfl) (by kernel_rfl) h
theorem yp(h:vw c F x0 x1 s=some r):c 79 [x0,x1] s=some (tidy s r):=hc.o1 F (sQ c F) sP (by kernel_rfl) (by kernel_rfl) (λ_ _ _=>by kernel_rfl) (λ_ _ _ _=>by kernel_rfl) (by kernel_rfl) h
theorem PY(h:zC c F x0 x1 x2 s=some r):c 82 [x0,x1,x2] s=some (tidy s r):=hc.o0 F EW (by kernel_rfl) (by kernel_rfl) h
theorem RX(h:AM c F x0 s=some r):c 85 [x0] s=some (tidy s r):=hc.o0 F FW (by kernel_rfl) (by kernel_rfl) h
theorem Ol(h:xY c F x0 s=some r):c 86 [x0] s=some (tidy s r):=hc.o0 F C9 (by kernel_rfl) (by kernel_rfl) h
theorem Qd(h:zD c F x0 x1 s=some r):c 87 [x0,x1] s=some (tidy s r):=hc.o1 F (wY c F) wX (by kernel_rfl) (by kernel_rfl) (λ_ _ _=>by kernel_rfl) (λ_ _ _ _=>by kernel_rfl) (by kernel_rfl) h
theorem Wn(h:EZ c F x0 x1 x2 s=some r):c 90 [x0,x1,x2] s=some (tidy s r):=hc.o0 F KW (by kernel_rfl) (by kernel_rfl) h
theorem MN(h:wZ c F x0 x1 x2 s=some r):c 91 [x0,x1,x2] s=some (tidy s r):=hc.o0 F By (by kernel_rfl) (by kernel_rfl) h
theorem MO(h:w7 c F x0 x1 x2 s=some r):c 92 [x0,x1,x2] s=some (tidy s r):=hc.o0 F BA (by kernel_rfl) (by kernel_rfl) h
theorem TP(h:Cm c F x0 x1 x2 s=some r):c 93 [x0,x1,x2] s=some (tidy s r):=hc.o0 F IX (by kernel_rfl) (by kernel_rfl) h
theorem PN(h:zE c F x0 x1 x2 s=some r):c 94 [x0,x1,x2] s=some (tidy s r):=hc.o0 F E0 (by kernel_rfl) (by kernel_rfl) h
theorem acq(h:N4 c F x0 x1 x2 s=some r):c 95 [x0,x1,x2] s=some (tidy s r):=hc.o0 F Sk (by kernel_rfl) (by kernel_rfl) h
theorem Yi(h:Hp c F x0 x1 x2 s=some r):c 96 [x0,x1,x2] s=some (tidy s r):=hc.o1 F (Co c F) Cn (by kernel_rfl) (by kernel_rfl) (λ_ _ _=>by kernel_rfl) (λ_ _ _ _=>by kernel_rfl) (by kernel_rfl) h
theorem Og(h:xZ c F x0 x1 x2 s=some r):c 97 [x0,x1,x2] s=some (tidy s r):=hc.o0 F Dc (by kernel_rfl) (by kernel_rfl) h
theorem Ym(h:Hq c F x0 x1 x2 s=some r):c 98 [x0,x1,x2] s=some (tidy s r):=hc.o0 F N7 (by kernel_rfl) (by kernel_rfl) h
theorem Wt(h:E8 c F x0 x1 x2 s=some r):c 99 [x0,x1,x2] s=some (tidy s r):=hc.o1 F (AO c F) AN (by kernel_rfl) (by kernel_rfl) (λ_ _ _=>by kernel_rfl) (λ_ _ _ _=>by kernel_rfl) (by kernel_rfl) h
theorem Wv(h:E9 c F x0 x1 x2 s=some r):c 100 [x0,x1,x2] s=some (tidy s r):=hc.oL F (AP c F) qt 3 (by kernel_rfl) (λi hi=>match i,hi with|0,_=>dc 0 (by kernel_rfl) (λ_ _ _=>by kernel_rfl) (λ_ _ _ _=>by kernel_rfl)|1,_=>dc 1 (by kernel_rfl) (λ_ _ _=>by kernel_rfl) (λ_ _ _ _=>by kernel_rfl)|2,_=>dc 2 (by kernel_rfl) (λ_ _ _=>by kernel_rfl) (λ_ _ _ _=>by kernel_rfl)|n+3,h=>absurd h (by omega)) (by kernel_rfl) h
theorem Wr(h:Fa c F x0 x1 x2 s=some r):c 101 [x0,x1,x2] s=some (tidy s r):=hc.o0 F K9 (by kernel_rfl) (by kernel_rfl) h
theorem Ro(h:AQ c F x0 x1 x2 s=some r):c 102 [x0,x1,x2] s=some (tidy s r):=hc.oL F (ya c F) sg 2 (by kernel_rfl) (λi hi=>match i,hi with|0,_=>dc 0 (by kernel_rfl) (λ_ _ _=>by kernel_rfl) (λ_ _ _ _=>by kernel_rfl)|1,_=>dc 1 (by kernel_rfl) (λ_ _ _=>by kernel_rfl) (λ_ _ _ _=>by kernel_rfl)|n+2,h=>absurd h (by omega)) (by kernel_rfl) h
theorem TW(h:Cp c F x0 x1 x2 s=some r):c 103 [x0,x1,x2] s=some (tidy s r):=hc.o0 F I9 (by kernel_rfl) (by kernel_rfl) h
theorem Yn(h:Hr c F x0 x1 x2 s=some r):c 104 [x0,x1,x2] s=some (tidy s r):=hc.o0 F Oa (by kernel_rfl) (by kernel_rfl) h
theorem Ww(h:Ff c F x0 x1 x2 s=some r):c 105 [x0,x1,x2] s=some (tidy s r):=hc.o0 F Lb (by kernel_rfl) (by kernel_rfl) h
theorem Rp(h:AR c F x0 x1 x2 s=some r):c 106 [x0,x1,x2] s=some (tidy s r):=hc.o1 F (yc c F) yb (by kernel_rfl) (by kernel_rfl) (λ_ _ _=>by kernel_rfl) (λ_ _ _ _=>by kernel_rfl) (by kernel_rfl) h
theorem aav(h:JP c F x0 x1 x2 s=some r):c 107 [x0,x1,x2] s=some (tidy s r):=hc.o0 F Pm (by kernel_rfl) (by kernel_rfl) h
theorem LD(h:qI c F x0 x1 s=some r):c 138 [x0,x1] s=some (tidy s r):=hc.o1 F (oW c F) oV (by kernel_rfl) (by kernel_rfl) (λ_ _ _=>by kernel_rfl) (λ_ _ _ _=>by kernel_rfl) (by kernel_rfl) h
theorem Yg(h:Hs c F x0 x1 s=some r):c 161 [x0,x1] s=some (tidy s r):=hc.o0 F Oc (by kernel_rfl) (by kernel_rfl) h
theorem aar(h:JQ c F x0 x1 x2 s=some r):c 162 [x0,x1,x2] s=some (tidy s r):=hc.o0 F Po (by kernel_rfl) (by kernel_rfl) h
theorem Wl(h:Fh c F x0 x1 x2 x3 s=some r):c 163 [x0,x1,x2,x3] s=some (tidy s r):=hc.o1 F (AT c F) AS (by kernel_rfl) (by kernel_rfl) (λ_ _ _=>by kernel_rfl) (λ_ _ _ _=>by kernel_rfl) (by kernel_rfl) h
theorem Wo(h:Fi c F x0 x1 x2 x3 s=some r):c 164 [x0,x1,x2,x3] s=some (tidy s r):=hc.oL F (AU c F) uK 2 (by kernel_rfl) (λi hi=>match i,hi with|0,_=>dc 0 (by kernel_rfl) (λ_ _ _=>by kernel_rfl) (λ_ _ _ _=>by kernel_rfl)|1,_=>dc 1 (by kernel_rfl) (λ_ _ _=>by kernel_rfl) (λ_ _ _ _=>by kernel_rfl)|n+2,h=>absurd h (by omega)) (by kernel_rfl) h
theorem LB(h:vz c F x0 x1 x2 s=some r):c 165 [x0,x1,x2] s=some (tidy s r):=hc.o0 F Am (by kernel_rfl) (by kernel_rfl) h
theorem Yl(h:Ht c F x0 x1 x2 s=some r):c 166 [x0,x1,x2] s=some (tidy s r):=hc.oL F (Cq c F) w9 2 (by kernel_rfl) (λi hi=>match i,hi with|0,_=>dc 0 (by kernel_rfl) (λ_ _ _=>by kernel_rfl) (λ_ _ _ _=>by kernel_rfl)|1,_=>dc 1 (by kernel_rfl) (λ_ _ _=>by kernel_rfl) (λ_ _ _ _=>by kernel_rfl)|n+2,h=>absurd h (by omega)) (by kernel_rfl) h
theorem T8(h:Cr c F x0 x1 x2 s=some r):c 167 [x0,x1,x2] s=some (tidy s r):=hc.o1 F (zH c F) zF (by kernel_rfl) (by kernel_rfl) (λ_ _ _=>by kernel_rfl) (λ_ _ _ _=>by kernel_rfl) (by kernel_rfl) h
theorem Wm(h:Fj c F x0 x1 x2 s=some r):c 168 [x0,x1,x2] s=some (tidy s r):=hc.o0 F Li (by kernel_rfl) (by kernel_rfl) h
theorem Rm(h:AW c F x0 x1 x2 s=some r):c 169 [x0,x1,x2] s=some (tidy s r):=hc.o0 F F6 (by kernel_rfl) (by kernel_rfl) h
theorem TJ(h:Cs c F x0 x1 x2 s=some r):c 170 [x0,x1,x2] s=some (tidy s r):=hc.o0 F Ji (by kernel_rfl) (by kernel_rfl) h
theorem PT(h:zI c F x0 x1 x2 s=some r):c 171 [x0,x1,x2] s=some (tidy s r):=hc.o0 F Fk (by kernel_rfl) (by kernel_rfl) h
theorem T7(h:Ct c F x0 x1 x2 s=some r):c 172 [x0,x1,x2] s=some (tidy s r):=hc.o0 F Jk (by kernel_rfl) (by kernel_rfl) h
theorem Rr(h:AX c F x0 x1 x2 s=some r):c 173 [x0,x1,x2] s=some (tidy s r):=hc.o0 F F8 (by kernel_rfl) (by kernel_rfl) h
theorem Wp(h:Fm c F x0 x1 x2 s=some r):c 174 [x0,x1,x2] s=some (tidy s r):=hc.o0 F Ll (by kernel_rfl) (by kernel_rfl) h
end
end
end Go.Proofs.YtgihekklfnjkiaaGreatDoor
section
end
namespace Go.Proofs.YtgihekklfnjkiaaGreatDoor
noncomputable section
open Go Go.Ai Go.Proofs
attribute [local go_sem ↓] bh BI ev evX Fz getLT DI X5 kat BG BH Tw Ra Rb Rc LX LY LZ L8 L9 Ma Re Rf Mb Mc Md Me Mf Z3 Z4 Z5
attribute [local go_sem] bh BI ev
section
variable(c:aj)(F:Nat)(x0 x1 x2 x3 x4 x5 x6 x7 x8 x9 Y3 Y4:AV)(s:St)
def Pq:Sh:=(sq sl (sq (sc (sq sl (sq sl sl)) sl) (sq sl (sq sl sl))))
def Pr:PX 140 Pq:=⟨_,by conv=>lhs;reduce⟩
def JR:O2:=bh c F bk Pr.1 [x0,x1] s
def adS:=(by dsimp only[JR,Pr,go_sem,Int.reduceOfNat]:JR c F x0 x1 s=_)
def Ln:Sh:=(sq sl (sq sl (sq sl (sq sl (sq sl (sq sl (sq sl (sq sl (sq sl (sq sl (sq sl (sq sl sl))))))))))))
def Lo:PX 191 Ln:=⟨_,by conv=>lhs;reduce⟩
def Fo:O2:=bh c F bk Lo.1 [x0,x1] s
def aaA:=(by dsimp only[Fo,Lo,go_sem,Int.reduceOfNat]:Fo c F x0 x1 s=_)
end
section
variable{c:aj}(hc:bu c)(F:Nat){x0 x1 x2 x3 x4 x5 x6 x7 x8 x9 Y3 Y4:AV}{s:St}{r:AV×St}
include hc
theorem aaB(h:JR c F x0 x1 s=some r):c 140 [x0,x1] s=some (tidy s r):=hc.o0 F Pq (by kernel_rfl) (by kernel_rfl) h
theorem Wx(h:Fo c F x0 x1 s=some r):c 191 [x0,x1] s=some (tidy s r):=hc.o0 F Ln (by kernel_rfl) (by kernel_rfl) h
end
attribute [local go_sem ↓] bh BI ev evX Fz getLT DI X5 kat BG BH Tw Ra Rb Rc LX LY LZ L8 L9 Ma Re Rf Mb Mc Md Me Mf Z3 Z4 Z5
attribute [local go_sem] bh BI ev
section
variable(c:aj)(F:Nat)(x0 x1 x2 x3 x4 x5 x6 x7 x8 x9 Y3 Y4:AV)(s:St)
def rQ:Sh:=(sq sl (sq sl (sq (sq sl (sc (sq sl sl) sl)) (sq sl (sq sl (sq sl (sq (sq sl (sc (sq sl sl) sl)) (sq (sq sl (sb (sp 0 [5,6,8,9,10,11,12,13] [(1,[4]),(2,[5,6,8,10,11,12])] (sq (sq sl (sc sl sl)) (sq (sb (sq sl (sq (sq sl (sc (sq sl sl) sl)) (sq (sq sl (sc (sq sl sl) sl)) (sq sl (sq sl sl)))))) sl))))) (sq sl (sq sl sl))))))))))
def zJ:PX 7 rQ:=⟨_,by conv=>lhs;reduce⟩
def yD:PL 7 rQ 0:=⟨_,by conv=>lhs;reduce⟩
def jt(k1 k2:Q2):Nat->Q2
 |0,_,_=>none
 |n+1,vs,s=>dU c F bk (jt k1 k2 n) [k1,k2] yD.1 vs s
def vN(k1 k2:Q2)(n:Nat)(vs:List AV)(s:St):=(by dsimp only[jt,yD,go_sem,Int.reduceOfNat,Int.reduceNegSucc]:jt c F k1 k2 (n+1) vs s=_)
def rU:Un->List Q2->Nat->Q2
 |.z,[k1,k2]=>jt c F k1 k2
 |_,_=>λ_=>fj
def uv:O2:=bh c F (rU c F) zJ.1 [x0,x1] s
def Nf:=(by dsimp only[uv,zJ, ↓rU,go_sem,Int.reduceOfNat,Int.reduceNegSucc]:uv c F x0 x1 s=_)
def AY:Sh:=(sq sl (sq (sq sl (sb (sp 0 [0,1,5] [(1,[4]),(2,[])] (sq (sq sl (sc sl sl)) (sq (sb (sq sl (sc (sq sl sl) sl))) sl))))) (sq sl sl)))
def Lp:PX 29 AY:=⟨_,by conv=>lhs;reduce⟩
def Jm:PL 29 AY 0:=⟨_,by conv=>lhs;reduce⟩
def o8(k1 k2:Q2):Nat->Q2
 |0,_,_=>none
 |n+1,vs,s=>dU c F bk (o8 k1 k2 n) [k1,k2] Jm.1 vs s
def DR(k1 k2:Q2)(n:Nat)(vs:List AV)(s:St):=(by dsimp only[o8,Jm,go_sem,Int.reduceOfNat]:o8 c F k1 k2 (n+1) vs s=_)
def AZ:Un->List Q2->Nat->Q2
 |.z,[k1,k2]=>o8 c F k1 k2
 |_,_=>λ_=>fj
def Fp:O2:=bh c F (AZ c F) Lp.1 [x0,x1] s
def aaH:=(by dsimp only[Fp,Lp, ↓AZ,go_sem,Int.reduceOfNat]:Fp c F x0 x1 s=_)
end
section
variable{c:aj}(hc:bu c)(F:Nat){x0 x1 x2 x3 x4 x5 x6 x7 x8 x9 Y3 Y4:AV}{s:St}{r:AV×St}
include hc
theorem Jw(h:uv c F x0 x1 s=some r):c 7 [x0,x1] s=some (tidy s r):=hc.o1 F (rU c F) rQ (by kernel_rfl) (by kernel_rfl) (λ_ _ _=>by kernel_rfl) (λ_ _ _ _=>by kernel_rfl) (by kernel_rfl) h
theorem WG(h:Fp c F x0 x1 s=some r):c 29 [x0,x1] s=some (tidy s r):=hc.o1 F (AZ c F) AY (by kernel_rfl) (by kernel_rfl) (λ_ _ _=>by kernel_rfl) (λ_ _ _ _=>by kernel_rfl) (by kernel_rfl) h
theorem Nd(h:xT c F x0 x1 s=some r):c 31 [x0,x1] s=some (tidy s r):=hc.o1 F (vq c F) vn (by kernel_rfl) (by kernel_rfl) (λ_ _ _=>by kernel_rfl) (λ_ _ _ _=>by kernel_rfl) (by kernel_rfl) h
end
end
end Go.Proofs.YtgihekklfnjkiaaGreatDoor
