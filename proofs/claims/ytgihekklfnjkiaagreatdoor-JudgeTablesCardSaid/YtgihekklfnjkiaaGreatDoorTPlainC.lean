/- Functions, plainly. -/
import Derived.Test.YtgihekklfnjkiaaGreatDoorTLawsE
set_option linter.all false
set_option linter.unusedSectionVars false
set_option linter.deprecated false
namespace Go.Proofs.YtgihekklfnjkiaaGreatDoor
noncomputable section
set_option linter.all false
set_option maxRecDepth 100000
set_option maxHeartbeats 4000000
open Go Go.Ai Go.Proofs
attribute [local go_sem ↓] aZ GW ev evX Ht getLT GV aa3 kat DC DD WT WU WV WW Qq Qr Qt Qu Qv Qw WY WZ Qx Qy Qz QC QD acq acs acu
attribute [local go_sem] aZ GW ev
section
variable(c : au)(F : Nat)(x0 x1 x2 x3 x4 x5 x6 x7 x8 x9 x10 x11 : AV)(s : St)
def ve:Sh:=(sq sl (sq sl (sq sl (sq sl (sq (sq sl (sb (sp 0 [1,2,5,6,7,8] [(2,[7])] (sq (sq sl (sc sl sl)) (sj [1,2,5,6,7,8] (sb (sq sl (sj [1,2,5,6,7,8,9] (sq sl (sc sl sl)) (sq sl (sc sl sl))))) sl))))) (sq sl sl))))))
def CS:PX 10 ve:=⟨_,by conv=>lhs;reduce⟩
def BD:PL 10 ve 0:=⟨_,by conv=>lhs;reduce⟩
def fo(k2:Q2):Nat->Q2
 |0,_,_=>none
 |n+1,vs,s=>dL c F aX (fo k2 n) [k2] BD.1 vs s
def mO(k2:Q2)(n:Nat)(vs:List AV)(s:St):=(by dsimp only[fo,BD,go_sem,Int.reduceOfNat,Int.reduceNegSucc]:fo c F k2 (n+1) vs s=_)
def vg:Un->List Q2->Nat->Q2
 | .z,[k2]=>fo c F k2
 |_,_=>λ_=>eP
def xU:O2:=aZ c F (vg c F) CS.1 [x0,x1] s
def QN:=(by dsimp only[xU,CS, ↓vg,go_sem,Int.reduceOfNat,Int.reduceNegSucc]:xU c F x0 x1 s=_)
def nP:Sh:=(sq sl (sq sl (sq sl (sq (sq sl (sb (sp 0 [1,2,3,4,5] [(2,[1,2,3,4])] (sq (sq sl (sc sl sl)) (sq (sb (sq sl (sq sl (sq sl sl)))) sl))))) (sq sl (sq sl (sj [1,2,3] (sq sl (sc (sq sl (sb (sp 1 [1,2,3,9] [(4,[1,2,3])] (sq (sq sl (sc sl sl)) (sq (sb (sq sl sl)) sl))))) sl)) (sq (sq sl (sb (sp 2 [1,2,3,11] [(6,[2,3])] (sq (sq sl (sc sl sl)) (sj [1,2,3,11] (sb (sq sl (sq sl (sc (sq sl sl) sl)))) sl))))) (sq sl sl)))))))))
def Fz:PX 15 nP:=⟨_,by conv=>lhs;reduce⟩
def Er:PL 15 nP 2:=⟨_,by conv=>lhs;reduce⟩
def jV(k6:Q2):Nat->Q2
 |0,_,_=>none
 |n+1,vs,s=>dL c F aX (jV k6 n) [k6] Er.1 vs s
def tV(k6:Q2)(n:Nat)(vs:List AV)(s:St):=(by dsimp only[jV,Er,go_sem,Int.reduceOfNat]:jV c F k6 (n+1) vs s=_)
def Es:PL 15 nP 1:=⟨_,by conv=>lhs;reduce⟩
def jU(k4:Q2):Nat->Q2
 |0,_,_=>none
 |n+1,vs,s=>dL c F aX (jU k4 n) [k4] Es.1 vs s
def Bp(k4:Q2)(n:Nat)(vs:List AV)(s:St):=(by dsimp only[jU,Es,go_sem,Int.reduceOfNat]:jU c F k4 (n+1) vs s=_)
def Eu:PL 15 nP 0:=⟨_,by conv=>lhs;reduce⟩
def gy(k2:Q2):Nat->Q2
 |0,_,_=>none
 |n+1,vs,s=>dL c F aX (gy k2 n) [k2] Eu.1 vs s
def Bo(k2:Q2)(n:Nat)(vs:List AV)(s:St):=(by dsimp only[gy,Eu,go_sem,Int.reduceOfNat]:gy c F k2 (n+1) vs s=_)
def xV:Un->List Q2->Nat->Q2
 | .z,[k2]=>gy c F k2
 |(.s .z),[k4]=>jU c F k4
 |(.s (.s .z)),[k6]=>jV c F k6
 |_,_=>λ_=>eP
def mZ:O2:=aZ c F (xV c F) Fz.1 [x0] s
def VP:=(by dsimp only[mZ,Fz, ↓xV,go_sem,Int.reduceOfNat]:mZ c F x0 s=_)
def zC:Sh:=(sq sl (sq sl (sq (sq sl (sc (sq sl sl) sl)) (sq sl (sq (sq sl (sb (sp 0 [5,6,21,22] [(2,[6])] (sq sl (sq (sc sl sl) (sq (sb (sq sl sl)) sl)))))) (sq sl sl))))))
def Ib:PX 19 zC:=⟨_,by conv=>lhs;reduce⟩
def FA:PL 19 zC 0:=⟨_,by conv=>lhs;reduce⟩
def nK(k2:Q2):Nat->Q2
 |0,_,_=>none
 |n+1,vs,s=>dL c F aX (nK k2 n) [k2] FA.1 vs s
def CJ(k2:Q2)(n:Nat)(vs:List AV)(s:St):=(by dsimp only[nK,FA,go_sem,Int.reduceOfNat]:nK c F k2 (n+1) vs s=_)
def zD:Un->List Q2->Nat->Q2
 | .z,[k2]=>nK c F k2
 |_,_=>λ_=>eP
def Cg:O2:=aZ c F (zD c F) Ib.1 [x0,x1] s
def Xt:=(by dsimp only[Cg,Ib, ↓zD,go_sem,Int.reduceOfNat]:Cg c F x0 x1 s=_)
def Kf:Sh:=(sq sl (sq sl (sj [5] (sq sl (sc sl sl)) (sq sl sl))))
def Kg:PX 24 Kf:=⟨_,by conv=>lhs;reduce⟩
def Ey:O2:=aZ c F aX Kg.1 [x0,x1] s
def Zs:=(by dsimp only[Ey,Kg,go_sem,Int.reduceOfNat]:Ey c F x0 x1 s=_)
def uf:Sh:=(sq sl (sq sl (sq (sq sl (sb (sp 0 [1,3,4] [(2,[3])] (sq (sq sl (sc sl sl)) (sq (sb sl) sl))))) (sq sl sl))))
def BE:PX 35 uf:=⟨_,by conv=>lhs;reduce⟩
def Aw:PL 35 uf 0:=⟨_,by conv=>lhs;reduce⟩
def j5(k2:Q2):Nat->Q2
 |0,_,_=>none
 |n+1,vs,s=>dL c F aX (j5 k2 n) [k2] Aw.1 vs s
def yu(k2:Q2)(n:Nat)(vs:List AV)(s:St):=(by dsimp only[j5,Aw,go_sem,Int.reduceOfNat]:j5 c F k2 (n+1) vs s=_)
def ug:Un->List Q2->Nat->Q2
 | .z,[k2]=>j5 c F k2
 |_,_=>λ_=>eP
def wM:O2:=aZ c F (ug c F) BE.1 [x0] s
def Pb:=(by dsimp only[wM,BE, ↓ug,go_sem,Int.reduceOfNat]:wM c F x0 s=_)
def wO:Sh:=(sq sl (sq (sq sl (sb (sp 0 [0,1,5] [(1,[4]),(2,[])] (sq (sq sl (sc sl sl)) (sq (sb (sq sl (sq sl (sc (sq sl (sq sl sl)) sl)))) sl))))) (sq sl sl)))
def Ez:PX 36 wO:=⟨_,by conv=>lhs;reduce⟩
def CU:PL 36 wO 0:=⟨_,by conv=>lhs;reduce⟩
def lY(k1 k2:Q2):Nat->Q2
 |0,_,_=>none
 |n+1,vs,s=>dL c F aX (lY k1 k2 n) [k1,k2] CU.1 vs s
def rX(k1 k2:Q2)(n:Nat)(vs:List AV)(s:St):=(by dsimp only[lY,CU,go_sem,Int.reduceOfNat,Int.reduceNegSucc]:lY c F k1 k2 (n+1) vs s=_)
def wP:Un->List Q2->Nat->Q2
 | .z,[k1,k2]=>lY c F k1 k2
 |_,_=>λ_=>eP
def zE:O2:=aZ c F (wP c F) Ez.1 [x0,x1] s
def DH:=(by dsimp only[zE,Ez, ↓wP,go_sem,Int.reduceOfNat,Int.reduceNegSucc]:zE c F x0 x1 s=_)
def AN:Sh:=(sq sl (sq (sq sl (sc (sq sl sl) sl)) (sq sl (sq (sq sl (sb (sp 0 [0,5,32,33,34] [(1,[4]),(2,[5])] (sq sl (sq (sc sl sl) (sj [0,5,32,33,34] (sb (sq sl (sq (sq sl (sc (sq sl sl) sl)) (sq sl (sc sl sl))))) sl)))))) (sq sl sl)))))
def Kh:PX 37 AN:=⟨_,by conv=>lhs;reduce⟩
def Ie:PL 37 AN 0:=⟨_,by conv=>lhs;reduce⟩
def lW(k1 k2:Q2):Nat->Q2
 |0,_,_=>none
 |n+1,vs,s=>dL c F aX (lW k1 k2 n) [k1,k2] Ie.1 vs s
def fZ(k1 k2:Q2)(n:Nat)(vs:List AV)(s:St):=(by dsimp only[lW,Ie,go_sem,Int.reduceOfNat,Int.reduceNegSucc]:lW c F k1 k2 (n+1) vs s=_)
def AO:Un->List Q2->Nat->Q2
 | .z,[k1,k2]=>lW c F k1 k2
 |_,_=>λ_=>eP
def EA:O2:=aZ c F (AO c F) Kh.1 [x0,x1] s
def AK:=(by dsimp only[EA,Kh, ↓AO,go_sem,Int.reduceOfNat,Int.reduceNegSucc]:EA c F x0 x1 s=_)
def Ig:Sh:=(sq sl (sq sl (sq sl (sq sl sl))))
def Ih:PX 41 Ig:=⟨_,by conv=>lhs;reduce⟩
def Ci:O2:=aZ c F aX Ih.1 [x0,x1] s
def Xp:=(by dsimp only[Ci,Ih,go_sem,Int.reduceOfNat]:Ci c F x0 x1 s=_)
def wQ:Sh:=(sq sl (sq sl (sq sl (sj [1,4,5] (sq sl (sb (sq sl (sc sl (sq sl (sc sl (sq sl (sc sl (sq sl (sc (sq sl sl) sl)))))))))) (sq (sq sl (sb (sp 0 [1,4,5,7] [(3,[4,5])] (sq (sq sl (sc sl sl)) (sj [1,4,5,7] (sb (sq sl (sc (sq sl sl) sl))) sl))))) (sq sl sl))))))
def EB:PX 45 wQ:=⟨_,by conv=>lhs;reduce⟩
def CV:PL 45 wQ 0:=⟨_,by conv=>lhs;reduce⟩
def js(k3:Q2):Nat->Q2
 |0,_,_=>none
 |n+1,vs,s=>dL c F aX (js k3 n) [k3] CV.1 vs s
def nF(k3:Q2)(n:Nat)(vs:List AV)(s:St):=(by dsimp only[js,CV,go_sem,Int.reduceOfNat]:js c F k3 (n+1) vs s=_)
def wR:Un->List Q2->Nat->Q2
 | .z,[k3]=>js c F k3
 |_,_=>λ_=>eP
def zF:O2:=aZ c F (wR c F) EB.1 [x0,x1] s
def Tz:=(by dsimp only[zF,EB, ↓wR,go_sem,Int.reduceOfNat]:zF c F x0 x1 s=_)
def FC:Sh:=(sq sl (sq (sq sl (sb (sq sl (sc (sq sl sl) (sq sl (sc (sq sl sl) sl)))))) (sq sl sl)))
def FD:PX 46 FC:=⟨_,by conv=>lhs;reduce⟩
def AP:O2:=aZ c F aX FD.1 [x0] s
def VN:=(by dsimp only[AP,FD,go_sem,Int.reduceOfNat]:AP c F x0 s=_)
def kB:Sh:=(sq sl (sq sl (sq (sq sl (sb (sp 0 [0,1,4,5,6] [(2,[1,4,5])] (sq (sq sl (sc sl sl)) (sj [0,1,4,5,6] (sb (sq sl (sq sl (sj [0,1,4,5,6,7,8] (sq sl (sc sl sl)) (sj [0,1,4,5,6,7,8] (sq sl (sc sl sl)) (sj [0,1,4,5,6,7,8] (sq sl (sc sl sl)) (sq (sq sl (sb (sp 1 [0,1,4,5,6,7,8,9] [(4,[0,1,4,5,6,8])] (sq (sq sl (sc sl sl)) (sj [0,1,4,5,6,7,8,9] (sb (sq sl (sc (sq sl sl) sl))) sl))))) (sq sl sl)))))))) sl))))) (sq sl (sq (sq sl (sb (sp 2 [1,4,5,12,13] [(6,[4,5])] (sq (sq sl (sc sl sl)) (sq (sb (sq sl (sb (sp 3 [1,4,5,12,13,14] [(8,[1,4,5,12,13])] (sq (sq sl (sc sl sl)) (sj [1,4,5,12,13,14] (sb (sq (sq sl (sc sl sl)) (sq (sq sl (sc sl sl)) (sj [1,4,5,12,13,14] (sq sl (sc (sq sl sl) sl)) sl)))) sl)))))) sl))))) (sq sl sl))))))
def FE:PX 47 kB:=⟨_,by conv=>lhs;reduce⟩
def EC:PL 47 kB 3:=⟨_,by conv=>lhs;reduce⟩
def jW(k8:Q2):Nat->Q2
 |0,_,_=>none
 |n+1,vs,s=>dL c F aX (jW k8 n) [k8] EC.1 vs s
def iO(k8:Q2)(n:Nat)(vs:List AV)(s:St):=(by dsimp only[jW,EC,go_sem,Int.reduceOfNat]:jW c F k8 (n+1) vs s=_)
def ED:Un->List Q2->Nat->Q2
 |(.s (.s (.s .z))),[k8]=>jW c F k8
 |_,_=>λ_=>eP
def EE:PL 47 kB 2:=⟨_,by conv=>lhs;reduce⟩
def jX(k6:Q2):Nat->Q2
 |0,_,_=>none
 |n+1,vs,s=>dL c F (ED c F) (jX k6 n) [k6] EE.1 vs s
def Bq(k6:Q2)(n:Nat)(vs:List AV)(s:St):=(by dsimp only[jX,EE, ↓ED,go_sem,Int.reduceOfNat]:jX c F k6 (n+1) vs s=_)
def EF:PL 47 kB 1:=⟨_,by conv=>lhs;reduce⟩
def iG(k4:Q2):Nat->Q2
 |0,_,_=>none
 |n+1,vs,s=>dL c F aX (iG k4 n) [k4] EF.1 vs s
def tU(k4:Q2)(n:Nat)(vs:List AV)(s:St):=(by dsimp only[iG,EF,go_sem,Int.reduceOfNat]:iG c F k4 (n+1) vs s=_)
def EG:Un->List Q2->Nat->Q2
 |(.s .z),[k4]=>iG c F k4
 |_,_=>λ_=>eP
def EH:PL 47 kB 0:=⟨_,by conv=>lhs;reduce⟩
def gw(k2:Q2):Nat->Q2
 |0,_,_=>none
 |n+1,vs,s=>dL c F (EG c F) (gw k2 n) [k2] EH.1 vs s
def Bn(k2:Q2)(n:Nat)(vs:List AV)(s:St):=(by dsimp only[gw,EH, ↓EG,go_sem,Int.reduceOfNat]:gw c F k2 (n+1) vs s=_)
def xW:Un->List Q2->Nat->Q2
 | .z,[k2]=>gw c F k2
 |(.s .z),[k4]=>iG c F k4
 |(.s (.s .z)),[k6]=>jX c F k6
 |(.s (.s (.s .z))),[k8]=>jW c F k8
 |_,_=>λ_=>eP
def AQ:O2:=aZ c F (xW c F) FE.1 [x0,x1] s
def VO:=(by dsimp only[AQ,FE, ↓xW,go_sem,Int.reduceOfNat]:AQ c F x0 x1 s=_)
def EI:Sh:=(sq sl (sq sl (sq sl (sj [1,2,4,6] (sq sl (sc sl sl)) (sq sl (sq sl (sq (sq sl (sc (sq sl sl) sl)) (sq sl (sq sl (sj [1,2,4,6,11] (sq sl (sb (sj [1,2,4,6,9,10,11,12,58,59] (sq sl (sc sl (sq sl (sc sl (sq sl (sc sl (sq sl (sc sl sl)))))))) (sc (sq sl (sj [4,6,9,10] (sq sl (sc sl sl)) (sj [4,6,9,10] (sq sl (sc sl sl)) (sq sl sl)))) (sj [1,2,4,6,9,11,12,58,100] (sq sl (sc sl sl)) (sc (sq sl (sj [4,6] (sq sl (sc sl sl)) (sq sl sl))) (sq sl (sc (sj [4,6] (sq sl (sc sl sl)) (sq sl sl)) (sq sl (sc (sq sl (sq sl sl)) (sj [1,2,4,6,11,12,164] (sq sl (sc sl sl)) (sc sl sl)))))))))))) (sj [4,6] (sq sl (sc sl sl)) (sq sl sl))))))))))))
def EJ:PX 48 EI:=⟨_,by conv=>lhs;reduce⟩
def mg:O2:=aZ c F aX EJ.1 [x0,x1] s
def TE:=(by dsimp only[mg,EJ,go_sem,Int.reduceOfNat]:mg c F x0 x1 s=_)
def sy:Sh:=(sq sl (sj [0,1] (sq sl (sc sl sl)) (sq sl (sj [0,6] (sq sl (sc sl sl)) (sq sl (sq sl (sq (sb (sp 0 [7,8] [(2,[7])] (sq (sq sl (sc sl sl)) (sb sl)))) (sq sl sl))))))))
def Ay:PX 79 sy:=⟨_,by conv=>lhs;reduce⟩
def zH:PL 79 sy 0:=⟨_,by conv=>lhs;reduce⟩
def jH(k2:Q2):Nat->Q2
 |0,_,_=>none
 |n+1,vs,s=>dL c F aX (jH k2 n) [k2] zH.1 vs s
def kT(k2:Q2)(n:Nat)(vs:List AV)(s:St):=(by dsimp only[jH,zH,go_sem,Int.reduceOfNat]:jH c F k2 (n+1) vs s=_)
def sF:Un->List Q2->Nat->Q2
 | .z,[k2]=>jH c F k2
 |_,_=>λ_=>eP
def vh:O2:=aZ c F (sF c F) Ay.1 [x0,x1] s
def Am:=(by dsimp only[vh,Ay, ↓sF,go_sem,Int.reduceOfNat]:vh c F x0 x1 s=_)
def EK:Sh:=sl
def EL:PX 82 EK:=⟨_,by conv=>lhs;reduce⟩
def zI:O2:=aZ c F aX EL.1 [x0,x1,x2] s
def Tc:=(by dsimp only[zI,EL,go_sem,Int.reduceOfNat]:zI c F x0 x1 x2 s=_)
def FF:Sh:=(sq sl (sq sl sl))
def FG:PX 85 FF:=⟨_,by conv=>lhs;reduce⟩
def AR:O2:=aZ c F aX FG.1 [x0] s
def VM:=(by dsimp only[AR,FG,go_sem,Int.reduceOfNat]:AR c F x0 s=_)
def CW:Sh:=(sq sl (sq sl sl))
def CX:PX 86 CW:=⟨_,by conv=>lhs;reduce⟩
def xX:O2:=aZ c F aX CX.1 [x0] s
def Rj:=(by dsimp only[xX,CX,go_sem,Int.reduceOfNat]:xX c F x0 s=_)
def wS:Sh:=(sq sl (sq (sq sl (sb (sp 0 [1,2,5] [(1,[4]),(2,[])] (sq (sq sl (sc sl sl)) (sq (sb (sq sl (sc (sq sl sl) sl))) sl))))) (sq sl sl)))
def EM:PX 87 wS:=⟨_,by conv=>lhs;reduce⟩
def CY:PL 87 wS 0:=⟨_,by conv=>lhs;reduce⟩
def l9(k1 k2:Q2):Nat->Q2
 |0,_,_=>none
 |n+1,vs,s=>dL c F aX (l9 k1 k2 n) [k1,k2] CY.1 vs s
def r9(k1 k2:Q2)(n:Nat)(vs:List AV)(s:St):=(by dsimp only[l9,CY,go_sem,Int.reduceOfNat]:l9 c F k1 k2 (n+1) vs s=_)
def wT:Un->List Q2->Nat->Q2
 | .z,[k1,k2]=>l9 c F k1 k2
 |_,_=>λ_=>eP
def zJ:O2:=aZ c F (wT c F) EM.1 [x0,x1] s
def TA:=(by dsimp only[zJ,EM, ↓wT,go_sem,Int.reduceOfNat]:zJ c F x0 x1 s=_)
def Ki:Sh:=(sq sl (sq sl (sq (sq sl (sc sl sl)) (sq sl (sq sl (sc sl sl))))))
def Kj:PX 90 Ki:=⟨_,by conv=>lhs;reduce⟩
def EN:O2:=aZ c F aX Kj.1 [x0,x1,x2] s
def Zh:=(by dsimp only[EN,Kj,go_sem,Int.reduceOfNat]:EN c F x0 x1 x2 s=_)
def BF:Sh:=(sq sl (sq sl (sq sl (sc sl sl))))
def BG:PX 91 BF:=⟨_,by conv=>lhs;reduce⟩
def wU:O2:=aZ c F aX BG.1 [x0,x1,x2] s
def OX:=(by dsimp only[wU,BG,go_sem,Int.reduceOfNat]:wU c F x0 x1 x2 s=_)
def BH:Sh:=(sq sl (sq sl (sq sl (sc sl sl))))
def BI:PX 92 BH:=⟨_,by conv=>lhs;reduce⟩
def wW:O2:=aZ c F aX BI.1 [x0,x1,x2] s
def OY:=(by dsimp only[wW,BI,go_sem,Int.reduceOfNat]:wW c F x0 x1 x2 s=_)
def Ii:Sh:=(sq sl (sq sl (sq sl (sc (sq sl (sq sl (sc sl sl))) sl))))
def Ij:PX 93 Ii:=⟨_,by conv=>lhs;reduce⟩
def Cj:O2:=aZ c F aX Ij.1 [x0,x1,x2] s
def Xg:=(by dsimp only[Cj,Ij,go_sem,Int.reduceOfNat]:Cj c F x0 x1 x2 s=_)
def EO:Sh:=(sq sl (sq sl (sq sl (sc sl sl))))
def EP:PX 94 EO:=⟨_,by conv=>lhs;reduce⟩
def zK:O2:=aZ c F aX EP.1 [x0,x1,x2] s
def SP:=(by dsimp only[zK,EP,go_sem,Int.reduceOfNat]:zK c F x0 x1 x2 s=_)
def Rx:Sh:=(sq sl (sq sl (sq sl (sq sl (sc sl sl)))))
def Ry:PX 95 Rx:=⟨_,by conv=>lhs;reduce⟩
def Nj:O2:=aZ c F aX Ry.1 [x0,x1,x2] s
def adQ:=(by dsimp only[Nj,Ry,go_sem,Int.reduceOfNat]:Nj c F x0 x1 x2 s=_)
def Ck:Sh:=(sq sl (sq sl (sq sl (sq (sq sl (sc sl sl)) (sq sl (sq (sb (sp 0 [0,2,4,6,7,8] [(2,[0,2,4,6,7,8])] (sq (sq sl (sc sl sl)) (sb sl)))) (sq sl (sc sl sl))))))))
def Nk:PX 96 Ck:=⟨_,by conv=>lhs;reduce⟩
def Kk:PL 96 Ck 0:=⟨_,by conv=>lhs;reduce⟩
def pH(k2:Q2):Nat->Q2
 |0,_,_=>none
 |n+1,vs,s=>dL c F aX (pH k2 n) [k2] Kk.1 vs s
def rq(k2:Q2)(n:Nat)(vs:List AV)(s:St):=(by dsimp only[pH,Kk,go_sem,Int.reduceOfNat]:pH c F k2 (n+1) vs s=_)
def Cl:Un->List Q2->Nat->Q2
 | .z,[k2]=>pH c F k2
 |_,_=>λ_=>eP
def Gz:O2:=aZ c F (Cl c F) Nk.1 [x0,x1,x2] s
def abd:=(by dsimp only[Gz,Nk, ↓Cl,go_sem,Int.reduceOfNat]:Gz c F x0 x1 x2 s=_)
def CZ:Sh:=(sq sl sl)
def C8:PX 97 CZ:=⟨_,by conv=>lhs;reduce⟩
def xY:O2:=aZ c F aX C8.1 [x0,x1,x2] s
def QI:=(by dsimp only[xY,C8,go_sem,Int.reduceOfNat]:xY c F x0 x1 x2 s=_)
def Nl:Sh:=(sq sl sl)
def Nn:PX 98 Nl:=⟨_,by conv=>lhs;reduce⟩
def GF:O2:=aZ c F aX Nn.1 [x0,x1,x2] s
def abh:=(by dsimp only[GF,Nn,go_sem,Int.reduceOfNat]:GF c F x0 x1 x2 s=_)
def AS:Sh:=(sq sl (sq sl (sb (sp 0 [0,2,4,11,12,13] [(2,[])] (sq sl (sq (sc sl sl) (sj [0,2,4,11,12,13] (sb (sq sl (sq sl (sc sl sl)))) sl)))))))
def Kl:PX 99 AS:=⟨_,by conv=>lhs;reduce⟩
def Ik:PL 99 AS 0:=⟨_,by conv=>lhs;reduce⟩
def jF(k2:Q2):Nat->Q2
 |0,_,_=>none
 |n+1,vs,s=>dL c F aX (jF k2 n) [k2] Ik.1 vs s
def iD(k2:Q2)(n:Nat)(vs:List AV)(s:St):=(by dsimp only[jF,Ik,go_sem,Int.reduceOfNat]:jF c F k2 (n+1) vs s=_)
def AT:Un->List Q2->Nat->Q2
 | .z,[k2]=>jF c F k2
 |_,_=>λ_=>eP
def ER:O2:=aZ c F (AT c F) Kl.1 [x0,x1,x2] s
def Zm:=(by dsimp only[ER,Kl, ↓AT,go_sem,Int.reduceOfNat]:ER c F x0 x1 x2 s=_)
def pW:Sh:=(sq sl (sq sl (sb (sp 0 [0,2,4,18,19,20] [(2,[])] (sq sl (sq (sc sl sl) (sj [0,2,4,18,19,20] (sb (sq sl (sq (sq sl (sc sl sl)) (sq sl (sq (sq sl (sb (sp 1 [0,2,4,6,8,9,18,19,20,54,55,56] [(4,[0,2,4,6,8,9,18,19,20])] (sq sl (sq (sc sl sl) (sq (sb (sq sl (sq sl (sb (sp 2 [0,2,4,6,8,9,18,19,20,54,55,56,60,61,62] [(6,[0,2,4,6,8,9,18,19,20,54,55,56])] (sq sl (sq (sc sl sl) (sj [0,2,4,6,8,9,18,19,20,54,55,56,60,61,62] (sb (sq sl (sq sl (sq sl (sc (sq sl sl) sl))))) sl)))))))) sl)))))) (sq sl (sc sl sl))))))) sl)))))))
def Km:PX 100 pW:=⟨_,by conv=>lhs;reduce⟩
def Il:PL 100 pW 2:=⟨_,by conv=>lhs;reduce⟩
def jG(k6:Q2):Nat->Q2
 |0,_,_=>none
 |n+1,vs,s=>dL c F aX (jG k6 n) [k6] Il.1 vs s
def vX(k6:Q2)(n:Nat)(vs:List AV)(s:St):=(by dsimp only[jG,Il,go_sem,Int.reduceOfNat]:jG c F k6 (n+1) vs s=_)
def Im:Un->List Q2->Nat->Q2
 |(.s (.s .z)),[k6]=>jG c F k6
 |_,_=>λ_=>eP
def Io:PL 100 pW 1:=⟨_,by conv=>lhs;reduce⟩
def lV(k4:Q2):Nat->Q2
 |0,_,_=>none
 |n+1,vs,s=>dL c F (Im c F) (lV k4 n) [k4] Io.1 vs s
def vY(k4:Q2)(n:Nat)(vs:List AV)(s:St):=(by dsimp only[lV,Io, ↓Im,go_sem,Int.reduceOfNat]:lV c F k4 (n+1) vs s=_)
def Ip:Un->List Q2->Nat->Q2
 |(.s .z),[k4]=>lV c F k4
 |(.s (.s .z)),[k6]=>jG c F k6
 |_,_=>λ_=>eP
def Iq:PL 100 pW 0:=⟨_,by conv=>lhs;reduce⟩
def fX(k2:Q2):Nat->Q2
 |0,_,_=>none
 |n+1,vs,s=>dL c F (Ip c F) (fX k2 n) [k2] Iq.1 vs s
def mN(k2:Q2)(n:Nat)(vs:List AV)(s:St):=(by dsimp only[fX,Iq, ↓Ip,go_sem,Int.reduceOfNat]:fX c F k2 (n+1) vs s=_)
def AU:Un->List Q2->Nat->Q2
 | .z,[k2]=>fX c F k2
 |(.s .z),[k4]=>lV c F k4
 |(.s (.s .z)),[k6]=>jG c F k6
 |_,_=>λ_=>eP
def ES:O2:=aZ c F (AU c F) Km.1 [x0,x1,x2] s
def Zn:=(by dsimp only[ES,Km, ↓AU,go_sem,Int.reduceOfNat]:ES c F x0 x1 x2 s=_)
def Kn:Sh:=(sq sl sl)
def Ko:PX 101 Kn:=⟨_,by conv=>lhs;reduce⟩
def ET:O2:=aZ c F aX Ko.1 [x0,x1,x2] s
def Zl:=(by dsimp only[ET,Ko,go_sem,Int.reduceOfNat]:ET c F x0 x1 x2 s=_)
def rE:Sh:=(sq sl (sq sl (sb (sp 0 [0,2,4,13,14,15] [(2,[])] (sq sl (sq (sc sl sl) (sq (sb (sq sl (sq sl (sb (sp 1 [0,2,4,6,7,8,13,14,15] [(4,[0,2,4,13,14,15])] (sq (sq sl (sc sl sl)) (sj [0,2,4,6,7,8,13,14,15] (sb (sq sl (sq sl (sc sl sl)))) sl))))))) sl)))))))
def FH:PX 102 rE:=⟨_,by conv=>lhs;reduce⟩
def EU:PL 102 rE 1:=⟨_,by conv=>lhs;reduce⟩
def fW(k4:Q2):Nat->Q2
 |0,_,_=>none
 |n+1,vs,s=>dL c F aX (fW k4 n) [k4] EU.1 vs s
def iN(k4:Q2)(n:Nat)(vs:List AV)(s:St):=(by dsimp only[fW,EU,go_sem,Int.reduceOfNat]:fW c F k4 (n+1) vs s=_)
def EV:Un->List Q2->Nat->Q2
 |(.s .z),[k4]=>fW c F k4
 |_,_=>λ_=>eP
def EW:PL 102 rE 0:=⟨_,by conv=>lhs;reduce⟩
def mM(k2:Q2):Nat->Q2
 |0,_,_=>none
 |n+1,vs,s=>dL c F (EV c F) (mM k2 n) [k2] EW.1 vs s
def Ba(k2:Q2)(n:Nat)(vs:List AV)(s:St):=(by dsimp only[mM,EW, ↓EV,go_sem,Int.reduceOfNat]:mM c F k2 (n+1) vs s=_)
def xZ:Un->List Q2->Nat->Q2
 | .z,[k2]=>mM c F k2
 |(.s .z),[k4]=>fW c F k4
 |_,_=>λ_=>eP
def AW:O2:=aZ c F (xZ c F) FH.1 [x0,x1,x2] s
def Vj:=(by dsimp only[AW,FH, ↓xZ,go_sem,Int.reduceOfNat]:AW c F x0 x1 x2 s=_)
def Ir:Sh:=(sq sl (sq (sq sl (sc sl sl)) sl))
def It:PX 103 Ir:=⟨_,by conv=>lhs;reduce⟩
def Cm:O2:=aZ c F aX It.1 [x0,x1,x2] s
def Hy:=(by dsimp only[Cm,It,go_sem,Int.reduceOfNat]:Cm c F x0 x1 x2 s=_)
def Np:Sh:=(sq sl sl)
def Nq:PX 104 Np:=⟨_,by conv=>lhs;reduce⟩
def GH:O2:=aZ c F aX Nq.1 [x0,x1,x2] s
def abi:=(by dsimp only[GH,Nq,go_sem,Int.reduceOfNat]:GH c F x0 x1 x2 s=_)
def Kq:Sh:=(sq sl sl)
def Kr:PX 105 Kq:=⟨_,by conv=>lhs;reduce⟩
def EX:O2:=aZ c F aX Kr.1 [x0,x1,x2] s
def Zo:=(by dsimp only[EX,Kr,go_sem,Int.reduceOfNat]:EX c F x0 x1 x2 s=_)
def ya:Sh:=(sq sl (sq sl (sb (sp 0 [0,2,4,11,12,13] [(2,[])] (sq sl (sq (sc sl sl) (sj [0,2,4,11,12,13] (sb (sq sl (sq sl (sc sl sl)))) sl)))))))
def FJ:PX 106 ya:=⟨_,by conv=>lhs;reduce⟩
def EY:PL 106 ya 0:=⟨_,by conv=>lhs;reduce⟩
def iE(k2:Q2):Nat->Q2
 |0,_,_=>none
 |n+1,vs,s=>dL c F aX (iE k2 n) [k2] EY.1 vs s
def kG(k2:Q2)(n:Nat)(vs:List AV)(s:St):=(by dsimp only[iE,EY,go_sem,Int.reduceOfNat]:iE c F k2 (n+1) vs s=_)
def yb:Un->List Q2->Nat->Q2
 | .z,[k2]=>iE c F k2
 |_,_=>λ_=>eP
def AX:O2:=aZ c F (yb c F) FJ.1 [x0,x1,x2] s
def Vl:=(by dsimp only[AX,FJ, ↓yb,go_sem,Int.reduceOfNat]:AX c F x0 x1 x2 s=_)
def OE:Sh:=(sq sl sl)
def OG:PX 107 OE:=⟨_,by conv=>lhs;reduce⟩
def Jf:O2:=aZ c F aX OG.1 [x0,x1,x2] s
def acD:=(by dsimp only[Jf,OG,go_sem,Int.reduceOfNat]:Jf c F x0 x1 x2 s=_)
def Nr:Sh:=(sq sl (sq sl (sq sl sl)))
def Ns:PX 161 Nr:=⟨_,by conv=>lhs;reduce⟩
def GJ:O2:=aZ c F aX Ns.1 [x0,x1] s
def abb:=(by dsimp only[GJ,Ns,go_sem,Int.reduceOfNat]:GJ c F x0 x1 s=_)
def OH:Sh:=(sq sl (sq sl (sq sl sl)))
def OI:PX 162 OH:=⟨_,by conv=>lhs;reduce⟩
def Jh:O2:=aZ c F aX OI.1 [x0,x1,x2] s
def acz:=(by dsimp only[Jh,OI,go_sem,Int.reduceOfNat]:Jh c F x0 x1 x2 s=_)
def AY:Sh:=(sq sl (sq (sq sl (sb (sp 0 [0,3,20,21,22] [(1,[8]),(2,[])] (sq sl (sq (sc sl sl) (sq (sb (sq sl (sq sl (sc (sq sl sl) sl)))) sl)))))) (sq sl sl)))
def Ks:PX 163 AY:=⟨_,by conv=>lhs;reduce⟩
def Iu:PL 163 AY 0:=⟨_,by conv=>lhs;reduce⟩
def oD(k1 k2:Q2):Nat->Q2
 |0,_,_=>none
 |n+1,vs,s=>dL c F aX (oD k1 k2 n) [k1,k2] Iu.1 vs s
def qc(k1 k2:Q2)(n:Nat)(vs:List AV)(s:St):=(by dsimp only[oD,Iu,go_sem,Int.reduceOfNat]:oD c F k1 k2 (n+1) vs s=_)
def AZ:Un->List Q2->Nat->Q2
 | .z,[k1,k2]=>oD c F k1 k2
 |_,_=>λ_=>eP
def EZ:O2:=aZ c F (AZ c F) Ks.1 [x0,x1,x2,x3] s
def Ze:=(by dsimp only[EZ,Ks, ↓AZ,go_sem,Int.reduceOfNat]:EZ c F x0 x1 x2 x3 s=_)
def uC:Sh:=(sq sl (sq sl (sb (sp 0 [0,2,3,5,15,16,17] [(2,[])] (sq sl (sq (sc sl sl) (sj [0,2,3,5,15,16,17] (sb (sq sl (sq (sq sl (sc sl sl)) (sq sl (sb (sp 1 [0,2,3,5,8,9,10,15,16,17] [(4,[0,2,3,5,15,16,17])] (sq (sq sl (sc sl sl)) (sj [0,2,3,5,8,9,10,15,16,17] (sb (sq sl (sq sl (sc sl sl)))) sl)))))))) sl)))))))
def Kt:PX 164 uC:=⟨_,by conv=>lhs;reduce⟩
def Iv:PL 164 uC 1:=⟨_,by conv=>lhs;reduce⟩
def iu(k4:Q2):Nat->Q2
 |0,_,_=>none
 |n+1,vs,s=>dL c F aX (iu k4 n) [k4] Iv.1 vs s
def mL(k4:Q2)(n:Nat)(vs:List AV)(s:St):=(by dsimp only[iu,Iv,go_sem,Int.reduceOfNat]:iu c F k4 (n+1) vs s=_)
def Iw:Un->List Q2->Nat->Q2
 |(.s .z),[k4]=>iu c F k4
 |_,_=>λ_=>eP
def Iy:PL 164 uC 0:=⟨_,by conv=>lhs;reduce⟩
def jE(k2:Q2):Nat->Q2
 |0,_,_=>none
 |n+1,vs,s=>dL c F (Iw c F) (jE k2 n) [k2] Iy.1 vs s
def qd(k2:Q2)(n:Nat)(vs:List AV)(s:St):=(by dsimp only[jE,Iy, ↓Iw,go_sem,Int.reduceOfNat]:jE c F k2 (n+1) vs s=_)
def A3:Un->List Q2->Nat->Q2
 | .z,[k2]=>jE c F k2
 |(.s .z),[k4]=>iu c F k4
 |_,_=>λ_=>eP
def E0:O2:=aZ c F (A3 c F) Kt.1 [x0,x1,x2,x3] s
def Zi:=(by dsimp only[E0,Kt, ↓A3,go_sem,Int.reduceOfNat]:E0 c F x0 x1 x2 x3 s=_)
def Az:Sh:=(sq sl (sq sl sl))
def AA:PX 165 Az:=⟨_,by conv=>lhs;reduce⟩
def vk:O2:=aZ c F aX AA.1 [x0,x1,x2] s
def Nu:=(by dsimp only[vk,AA,go_sem,Int.reduceOfNat]:vk c F x0 x1 x2 s=_)
def wX:Sh:=(sq sl (sq sl (sb (sp 0 [0,2,4,18,19,20] [(2,[])] (sq sl (sq (sc sl sl) (sj [0,2,4,18,19,20] (sb (sq sl (sq (sq sl (sc sl sl)) (sq sl (sq (sq sl (sb (sp 1 [0,2,4,6,8,18,19,20,38,39,40] [(4,[0,2,4,8,18,19,20])] (sq sl (sq (sc sl sl) (sj [0,2,4,6,8,18,19,20,38,39,40] (sb (sq sl (sq sl (sc sl sl)))) sl)))))) sl))))) sl)))))))
def Nt:PX 166 wX:=⟨_,by conv=>lhs;reduce⟩
def Ku:PL 166 wX 1:=⟨_,by conv=>lhs;reduce⟩
def mX(k4:Q2):Nat->Q2
 |0,_,_=>none
 |n+1,vs,s=>dL c F aX (mX k4 n) [k4] Ku.1 vs s
def ru(k4:Q2)(n:Nat)(vs:List AV)(s:St):=(by dsimp only[mX,Ku,go_sem,Int.reduceOfNat]:mX c F k4 (n+1) vs s=_)
def Kv:Un->List Q2->Nat->Q2
 |(.s .z),[k4]=>mX c F k4
 |_,_=>λ_=>eP
def Kw:PL 166 wX 0:=⟨_,by conv=>lhs;reduce⟩
def gQ(k2:Q2):Nat->Q2
 |0,_,_=>none
 |n+1,vs,s=>dL c F (Kv c F) (gQ k2 n) [k2] Kw.1 vs s
def xL(k2:Q2)(n:Nat)(vs:List AV)(s:St):=(by dsimp only[gQ,Kw, ↓Kv,go_sem,Int.reduceOfNat]:gQ c F k2 (n+1) vs s=_)
def Cn:Un->List Q2->Nat->Q2
 | .z,[k2]=>gQ c F k2
 |(.s .z),[k4]=>mX c F k4
 |_,_=>λ_=>eP
def GK:O2:=aZ c F (Cn c F) Nt.1 [x0,x1,x2] s
def abg:=(by dsimp only[GK,Nt, ↓Cn,go_sem,Int.reduceOfNat]:GK c F x0 x1 x2 s=_)
def zL:Sh:=(sq (sq sl (sb (sp 0 [0,1,2,6,7,8] [(1,[]),(2,[0,2])] (sq sl (sq (sc sl sl) (sq (sb (sq sl (sq sl (sc sl sl)))) sl)))))) (sq sl (sc sl sl)))
def Iz:PX 167 zL:=⟨_,by conv=>lhs;reduce⟩
def FK:PL 167 zL 0:=⟨_,by conv=>lhs;reduce⟩
def nI(k1 k2:Q2):Nat->Q2
 |0,_,_=>none
 |n+1,vs,s=>dL c F aX (nI k1 k2 n) [k1,k2] FK.1 vs s
def uJ(k1 k2:Q2)(n:Nat)(vs:List AV)(s:St):=(by dsimp only[nI,FK,go_sem,Int.reduceOfNat]:nI c F k1 k2 (n+1) vs s=_)
def zM:Un->List Q2->Nat->Q2
 | .z,[k1,k2]=>nI c F k1 k2
 |_,_=>λ_=>eP
def Co:O2:=aZ c F (zM c F) Iz.1 [x0,x1,x2] s
def y9:=(by dsimp only[Co,Iz, ↓zM,go_sem,Int.reduceOfNat]:Co c F x0 x1 x2 s=_)
def Ky:Sh:=(sq sl (sq sl sl))
def Kz:PX 168 Ky:=⟨_,by conv=>lhs;reduce⟩
def E7:O2:=aZ c F aX Kz.1 [x0,x1,x2] s
def Zf:=(by dsimp only[E7,Kz,go_sem,Int.reduceOfNat]:E7 c F x0 x1 x2 s=_)
def FL:Sh:=(sq sl (sq sl sl))
def FM:PX 169 FL:=⟨_,by conv=>lhs;reduce⟩
def A4:O2:=aZ c F aX FM.1 [x0,x1,x2] s
def Vh:=(by dsimp only[A4,FM,go_sem,Int.reduceOfNat]:A4 c F x0 x1 x2 s=_)
def IA:Sh:=(sq sl (sq sl sl))
def IB:PX 170 IA:=⟨_,by conv=>lhs;reduce⟩
def Cp:O2:=aZ c F aX IB.1 [x0,x1,x2] s
def Xc:=(by dsimp only[Cp,IB,go_sem,Int.reduceOfNat]:Cp c F x0 x1 x2 s=_)
def E8:Sh:=(sq sl (sj [0,1,2] (sq sl (sc sl sl)) (sq sl sl)))
def E9:PX 171 E8:=⟨_,by conv=>lhs;reduce⟩
def zN:O2:=aZ c F aX E9.1 [x0,x1,x2] s
def SU:=(by dsimp only[zN,E9,go_sem,Int.reduceOfNat]:zN c F x0 x1 x2 s=_)
def IC:Sh:=(sq sl (sc sl sl))
def ID:PX 172 IC:=⟨_,by conv=>lhs;reduce⟩
def Cq:O2:=aZ c F aX ID.1 [x0,x1,x2] s
def HC:=(by dsimp only[Cq,ID,go_sem,Int.reduceOfNat]:Cq c F x0 x1 x2 s=_)
def FN:Sh:=(sq sl (sc sl sl))
def FO:PX 173 FN:=⟨_,by conv=>lhs;reduce⟩
def A5:O2:=aZ c F aX FO.1 [x0,x1,x2] s
def Fl:=(by dsimp only[A5,FO,go_sem,Int.reduceOfNat]:A5 c F x0 x1 x2 s=_)
def KA:Sh:=(sq sl (sq sl sl))
def KB:PX 174 KA:=⟨_,by conv=>lhs;reduce⟩
def Fa:O2:=aZ c F aX KB.1 [x0,x1,x2] s
def Zj:=(by dsimp only[Fa,KB,go_sem,Int.reduceOfNat]:Fa c F x0 x1 x2 s=_)
end
section
variable{c : au}(hc : bH c)(F : Nat){x0 x1 x2 x3 x4 x5 x6 x7 x8 x9 x10 x11 : AV}{s : St}{r : AV × St}
include hc
theorem Nw(h:xU c F x0 x1 s=some r):c 10 [x0,x1] s=some (tidy s r):=hc.o1 F (vg c F) ve (by kernel_rfl) (by kernel_rfl) (λ_ _ _=>by kernel_rfl) (λ_ _ _ _=>by kernel_rfl) (by kernel_rfl) h
theorem Rp(h:mZ c F x0 s=some r):c 15 [x0] s=some (tidy s r):=hc.oL F (xV c F) nP 3 (by kernel_rfl) (λi hi=>match i,hi with|0,_=>cC 0 (by kernel_rfl) (λ_ _ _=>by kernel_rfl) (λ_ _ _ _=>by kernel_rfl)|1,_=>cC 1 (by kernel_rfl) (λ_ _ _=>by kernel_rfl) (λ_ _ _ _=>by kernel_rfl)|2,_=>cC 2 (by kernel_rfl) (λ_ _ _=>by kernel_rfl) (λ_ _ _ _=>by kernel_rfl)|n+3,h=>absurd h (by omega)) (by kernel_rfl) h
theorem Tf(h:Cg c F x0 x1 s=some r):c 19 [x0,x1] s=some (tidy s r):=hc.o1 F (zD c F) zC (by kernel_rfl) (by kernel_rfl) (λ_ _ _=>by kernel_rfl) (λ_ _ _ _=>by kernel_rfl) (by kernel_rfl) h
theorem Vp(h:Ey c F x0 x1 s=some r):c 24 [x0,x1] s=some (tidy s r):=hc.o0 F Kf (by kernel_rfl) (by kernel_rfl) h
theorem Mb(h:wM c F x0 s=some r):c 35 [x0] s=some (tidy s r):=hc.o1 F (ug c F) uf (by kernel_rfl) (by kernel_rfl) (λ_ _ _=>by kernel_rfl) (λ_ _ _ _=>by kernel_rfl) (by kernel_rfl) h
theorem Bb(h:zE c F x0 x1 s=some r):c 36 [x0,x1] s=some (tidy s r):=hc.o1 F (wP c F) wO (by kernel_rfl) (by kernel_rfl) (λ_ _ _=>by kernel_rfl) (λ_ _ _ _=>by kernel_rfl) (by kernel_rfl) h
theorem xN(h:EA c F x0 x1 s=some r):c 37 [x0,x1] s=some (tidy s r):=hc.o1 F (AO c F) AN (by kernel_rfl) (by kernel_rfl) (λ_ _ _=>by kernel_rfl) (λ_ _ _ _=>by kernel_rfl) (by kernel_rfl) h
theorem Td(h:Ci c F x0 x1 s=some r):c 41 [x0,x1] s=some (tidy s r):=hc.o0 F Ig (by kernel_rfl) (by kernel_rfl) h
theorem Pn(h:zF c F x0 x1 s=some r):c 45 [x0,x1] s=some (tidy s r):=hc.o1 F (wR c F) wQ (by kernel_rfl) (by kernel_rfl) (λ_ _ _=>by kernel_rfl) (λ_ _ _ _=>by kernel_rfl) (by kernel_rfl) h
theorem Rk(h:AP c F x0 s=some r):c 46 [x0] s=some (tidy s r):=hc.o0 F FC (by kernel_rfl) (by kernel_rfl) h
theorem Ro(h:AQ c F x0 x1 s=some r):c 47 [x0,x1] s=some (tidy s r):=hc.oL F (xW c F) kB 4 (by kernel_rfl) (λi hi=>match i,hi with|0,_=>cC 0 (by kernel_rfl) (λ_ _ _=>by kernel_rfl) (λ_ _ _ _=>by kernel_rfl)|1,_=>cC 1 (by kernel_rfl) (λ_ _ _=>by kernel_rfl) (λ_ _ _ _=>by kernel_rfl)|2,_=>cC 2 (by kernel_rfl) (λ_ _ _=>by kernel_rfl) (λ_ _ _ _=>by kernel_rfl)|3,_=>cC 3 (by kernel_rfl) (λ_ _ _=>by kernel_rfl) (λ_ _ _ _=>by kernel_rfl)|n+4,h=>absurd h (by omega)) (by kernel_rfl) h
theorem Pp(h:mg c F x0 x1 s=some r):c 48 [x0,x1] s=some (tidy s r):=hc.o0 F EI (by kernel_rfl) (by kernel_rfl) h
theorem Tb(h:Ee c F x0 s=some r):c 78 [x0] s=some (tidy s r):=hc.o0 F JL (by kernel_rfl) (by kernel_rfl) h
theorem yq(h:vh c F x0 x1 s=some r):c 79 [x0,x1] s=some (tidy s r):=hc.o1 F (sF c F) sy (by kernel_rfl) (by kernel_rfl) (λ_ _ _=>by kernel_rfl) (λ_ _ _ _=>by kernel_rfl) (by kernel_rfl) h
theorem Pa(h:zI c F x0 x1 x2 s=some r):c 82 [x0,x1,x2] s=some (tidy s r):=hc.o0 F EK (by kernel_rfl) (by kernel_rfl) h
theorem Ri(h:AR c F x0 s=some r):c 85 [x0] s=some (tidy s r):=hc.o0 F FF (by kernel_rfl) (by kernel_rfl) h
theorem ND(h:xX c F x0 s=some r):c 86 [x0] s=some (tidy s r):=hc.o0 F CW (by kernel_rfl) (by kernel_rfl) h
theorem Po(h:zJ c F x0 x1 s=some r):c 87 [x0,x1] s=some (tidy s r):=hc.o1 F (wT c F) wS (by kernel_rfl) (by kernel_rfl) (λ_ _ _=>by kernel_rfl) (λ_ _ _ _=>by kernel_rfl) (by kernel_rfl) h
theorem Ve(h:EN c F x0 x1 x2 s=some r):c 90 [x0,x1,x2] s=some (tidy s r):=hc.o0 F Ki (by kernel_rfl) (by kernel_rfl) h
theorem LW(h:wU c F x0 x1 x2 s=some r):c 91 [x0,x1,x2] s=some (tidy s r):=hc.o0 F BF (by kernel_rfl) (by kernel_rfl) h
theorem LX(h:wW c F x0 x1 x2 s=some r):c 92 [x0,x1,x2] s=some (tidy s r):=hc.o0 F BH (by kernel_rfl) (by kernel_rfl) h
theorem SN(h:Cj c F x0 x1 x2 s=some r):c 93 [x0,x1,x2] s=some (tidy s r):=hc.o0 F Ii (by kernel_rfl) (by kernel_rfl) h
theorem OZ(h:zK c F x0 x1 x2 s=some r):c 94 [x0,x1,x2] s=some (tidy s r):=hc.o0 F EO (by kernel_rfl) (by kernel_rfl) h
theorem abc(h:Nj c F x0 x1 x2 s=some r):c 95 [x0,x1,x2] s=some (tidy s r):=hc.o0 F Rx (by kernel_rfl) (by kernel_rfl) h
theorem Xh(h:Gz c F x0 x1 x2 s=some r):c 96 [x0,x1,x2] s=some (tidy s r):=hc.o1 F (Cl c F) Ck (by kernel_rfl) (by kernel_rfl) (λ_ _ _=>by kernel_rfl) (λ_ _ _ _=>by kernel_rfl) (by kernel_rfl) h
theorem Nv(h:xY c F x0 x1 x2 s=some r):c 97 [x0,x1,x2] s=some (tidy s r):=hc.o0 F CZ (by kernel_rfl) (by kernel_rfl) h
theorem Xm(h:GF c F x0 x1 x2 s=some r):c 98 [x0,x1,x2] s=some (tidy s r):=hc.o0 F Nl (by kernel_rfl) (by kernel_rfl) h
theorem Vk(h:ER c F x0 x1 x2 s=some r):c 99 [x0,x1,x2] s=some (tidy s r):=hc.o1 F (AT c F) AS (by kernel_rfl) (by kernel_rfl) (λ_ _ _=>by kernel_rfl) (λ_ _ _ _=>by kernel_rfl) (by kernel_rfl) h
theorem Vm(h:ES c F x0 x1 x2 s=some r):c 100 [x0,x1,x2] s=some (tidy s r):=hc.oL F (AU c F) pW 3 (by kernel_rfl) (λi hi=>match i,hi with|0,_=>cC 0 (by kernel_rfl) (λ_ _ _=>by kernel_rfl) (λ_ _ _ _=>by kernel_rfl)|1,_=>cC 1 (by kernel_rfl) (λ_ _ _=>by kernel_rfl) (λ_ _ _ _=>by kernel_rfl)|2,_=>cC 2 (by kernel_rfl) (λ_ _ _=>by kernel_rfl) (λ_ _ _ _=>by kernel_rfl)|n+3,h=>absurd h (by omega)) (by kernel_rfl) h
theorem Vi(h:ET c F x0 x1 x2 s=some r):c 101 [x0,x1,x2] s=some (tidy s r):=hc.o0 F Kn (by kernel_rfl) (by kernel_rfl) h
theorem QJ(h:AW c F x0 x1 x2 s=some r):c 102 [x0,x1,x2] s=some (tidy s r):=hc.oL F (xZ c F) rE 2 (by kernel_rfl) (λi hi=>match i,hi with|0,_=>cC 0 (by kernel_rfl) (λ_ _ _=>by kernel_rfl) (λ_ _ _ _=>by kernel_rfl)|1,_=>cC 1 (by kernel_rfl) (λ_ _ _=>by kernel_rfl) (λ_ _ _ _=>by kernel_rfl)|n+2,h=>absurd h (by omega)) (by kernel_rfl) h
theorem SV(h:Cm c F x0 x1 x2 s=some r):c 103 [x0,x1,x2] s=some (tidy s r):=hc.o0 F Ir (by kernel_rfl) (by kernel_rfl) h
theorem Xn(h:GH c F x0 x1 x2 s=some r):c 104 [x0,x1,x2] s=some (tidy s r):=hc.o0 F Np (by kernel_rfl) (by kernel_rfl) h
theorem Vn(h:EX c F x0 x1 x2 s=some r):c 105 [x0,x1,x2] s=some (tidy s r):=hc.o0 F Kq (by kernel_rfl) (by kernel_rfl) h
theorem QK(h:AX c F x0 x1 x2 s=some r):c 106 [x0,x1,x2] s=some (tidy s r):=hc.o1 F (yb c F) ya (by kernel_rfl) (by kernel_rfl) (λ_ _ _=>by kernel_rfl) (λ_ _ _ _=>by kernel_rfl) (by kernel_rfl) h
theorem Zk(h:Jf c F x0 x1 x2 s=some r):c 107 [x0,x1,x2] s=some (tidy s r):=hc.o0 F OE (by kernel_rfl) (by kernel_rfl) h
theorem Xf(h:GJ c F x0 x1 s=some r):c 161 [x0,x1] s=some (tidy s r):=hc.o0 F Nr (by kernel_rfl) (by kernel_rfl) h
theorem Zg(h:Jh c F x0 x1 x2 s=some r):c 162 [x0,x1,x2] s=some (tidy s r):=hc.o0 F OH (by kernel_rfl) (by kernel_rfl) h
theorem Vc(h:EZ c F x0 x1 x2 x3 s=some r):c 163 [x0,x1,x2,x3] s=some (tidy s r):=hc.o1 F (AZ c F) AY (by kernel_rfl) (by kernel_rfl) (λ_ _ _=>by kernel_rfl) (λ_ _ _ _=>by kernel_rfl) (by kernel_rfl) h
theorem Vf(h:E0 c F x0 x1 x2 x3 s=some r):c 164 [x0,x1,x2,x3] s=some (tidy s r):=hc.oL F (A3 c F) uC 2 (by kernel_rfl) (λi hi=>match i,hi with|0,_=>cC 0 (by kernel_rfl) (λ_ _ _=>by kernel_rfl) (λ_ _ _ _=>by kernel_rfl)|1,_=>cC 1 (by kernel_rfl) (λ_ _ _=>by kernel_rfl) (λ_ _ _ _=>by kernel_rfl)|n+2,h=>absurd h (by omega)) (by kernel_rfl) h
theorem KQ(h:vk c F x0 x1 x2 s=some r):c 165 [x0,x1,x2] s=some (tidy s r):=hc.o0 F Az (by kernel_rfl) (by kernel_rfl) h
theorem Xl(h:GK c F x0 x1 x2 s=some r):c 166 [x0,x1,x2] s=some (tidy s r):=hc.oL F (Cn c F) wX 2 (by kernel_rfl) (λi hi=>match i,hi with|0,_=>cC 0 (by kernel_rfl) (λ_ _ _=>by kernel_rfl) (λ_ _ _ _=>by kernel_rfl)|1,_=>cC 1 (by kernel_rfl) (λ_ _ _=>by kernel_rfl) (λ_ _ _ _=>by kernel_rfl)|n+2,h=>absurd h (by omega)) (by kernel_rfl) h
theorem S9(h:Co c F x0 x1 x2 s=some r):c 167 [x0,x1,x2] s=some (tidy s r):=hc.o1 F (zM c F) zL (by kernel_rfl) (by kernel_rfl) (λ_ _ _=>by kernel_rfl) (λ_ _ _ _=>by kernel_rfl) (by kernel_rfl) h
theorem Vd(h:E7 c F x0 x1 x2 s=some r):c 168 [x0,x1,x2] s=some (tidy s r):=hc.o0 F Ky (by kernel_rfl) (by kernel_rfl) h
theorem QH(h:A4 c F x0 x1 x2 s=some r):c 169 [x0,x1,x2] s=some (tidy s r):=hc.o0 F FL (by kernel_rfl) (by kernel_rfl) h
theorem SL(h:Cp c F x0 x1 x2 s=some r):c 170 [x0,x1,x2] s=some (tidy s r):=hc.o0 F IA (by kernel_rfl) (by kernel_rfl) h
theorem O8(h:zN c F x0 x1 x2 s=some r):c 171 [x0,x1,x2] s=some (tidy s r):=hc.o0 F E8 (by kernel_rfl) (by kernel_rfl) h
theorem S8(h:Cq c F x0 x1 x2 s=some r):c 172 [x0,x1,x2] s=some (tidy s r):=hc.o0 F IC (by kernel_rfl) (by kernel_rfl) h
theorem QM(h:A5 c F x0 x1 x2 s=some r):c 173 [x0,x1,x2] s=some (tidy s r):=hc.o0 F FN (by kernel_rfl) (by kernel_rfl) h
theorem Vg(h:Fa c F x0 x1 x2 s=some r):c 174 [x0,x1,x2] s=some (tidy s r):=hc.o0 F KA (by kernel_rfl) (by kernel_rfl) h
end
end
end Go.Proofs.YtgihekklfnjkiaaGreatDoor
section
end
namespace Go.Proofs.YtgihekklfnjkiaaGreatDoor
noncomputable section
set_option linter.all false
set_option maxRecDepth 100000
set_option maxHeartbeats 4000000
open Go Go.Ai Go.Proofs
attribute [local go_sem ↓] aZ GW ev evX Ht getLT GV aa3 kat DC DD WT WU WV WW Qq Qr Qt Qu Qv Qw WY WZ Qx Qy Qz QC QD acq acs acu
attribute [local go_sem] aZ GW ev
section
variable(c : au)(F : Nat)(x0 x1 x2 x3 x4 x5 x6 x7 x8 x9 x10 x11 : AV)(s : St)
def OJ:Sh:=(sq sl (sq (sc (sq sl (sq sl sl)) sl) (sq sl (sq sl sl))))
def OK:PX 140 OJ:=⟨_,by conv=>lhs;reduce⟩
def Ji:O2:=aZ c F aX OK.1 [x0,x1] s
def acE:=(by dsimp only[Ji,OK,go_sem,Int.reduceOfNat]:Ji c F x0 x1 s=_)
def KC:Sh:=(sq sl (sq sl (sq sl (sq sl (sq sl (sq sl (sq sl (sq sl (sq sl (sq sl (sq sl (sq sl sl))))))))))))
def KD:PX 191 KC:=⟨_,by conv=>lhs;reduce⟩
def Fb:O2:=aZ c F aX KD.1 [x0,x1] s
def Zp:=(by dsimp only[Fb,KD,go_sem,Int.reduceOfNat]:Fb c F x0 x1 s=_)
end
section
variable{c : au}(hc : bH c)(F : Nat){x0 x1 x2 x3 x4 x5 x6 x7 x8 x9 x10 x11 : AV}{s : St}{r : AV × St}
include hc
theorem Zq(h:Ji c F x0 x1 s=some r):c 140 [x0,x1] s=some (tidy s r):=hc.o0 F OJ (by kernel_rfl) (by kernel_rfl) h
theorem Vo(h:Fb c F x0 x1 s=some r):c 191 [x0,x1] s=some (tidy s r):=hc.o0 F KC (by kernel_rfl) (by kernel_rfl) h
end
end
end Go.Proofs.YtgihekklfnjkiaaGreatDoor
