/- Functions, plainly. -/
import Derived.Test.YtmldijpopgaaeaaGreatDoorSLawsD
set_option linter.all false
set_option maxRecDepth 100000
set_option maxHeartbeats 4000000
namespace Go.Proofs.YtmldijpopgaaeaaGreatDoor
noncomputable section
open Go Go.Ai Go.Proofs
attribute [local go_sem ↓] aY uK ev evX CW getLT Af PJ XK yE yF Mx H9 Ia Ib CX CY CZ C8 C9 Da Ic Ie Db Dc Dd De Df OE OG OH
attribute [local go_sem] aY uK ev
section
variable(c:aj)(F:Nat)(x0 x1 x2 x3 x4 x5 x6 x7 x8 x9 F6 Ng:AV)(s:St)
def NM:Sh:=(sq sl (sq (sq sl (sq sl (sc (sq sl sl) sl))) (sq sl (sq sl (sq sl (sq (sq sl (sb (sp 0 [7,8,9,38,39,40] [(2,[9])] (sq sl (sq (sc sl sl) (sj [7,8,9,38,39,40] (sb (sq sl (sq sl (sj [7,8,9,10,12,38,39,40] (sq sl (sb (sj [7,8,9,10,11,38,39,40,46,59] (sq sl (sc sl (sq sl (sc sl (sq sl (sc sl (sq sl (sc sl sl)))))))) (sc sl (sq sl (sc sl (sq sl (sc sl (sq sl (sc sl (sq sl (sc sl (sq sl (sc sl (sq sl (sc sl sl)))))))))))))))) (sq sl (sc sl sl)))))) sl)))))) (sq sl sl)))))))
def Zv:PX 9 NM:=⟨_,by conv=>lhs;reduce⟩
def VW:PL 9 NM 0:=⟨_,by conv=>lhs;reduce⟩
def pZ(k2:Q2):Nat->Q2
 |0,_,_=>none
 |n+1,vs,s=>eu c F aZ (pZ k2 n) [k2] VW.1 vs s
def OM(k2:Q2)(n:Nat)(vs:List AV)(s:St):=(by dsimp only[pZ,VW,go_sem,Int.reduceOfNat]:pZ c F k2 (n+1) vs s=_)
def NN:Un->List Q2->Nat->Q2
 |.z,[k2]=>pZ c F k2
 |_,_=>λ_=>fI
def UY:O2:=aY c F (NN c F) Zv.1 [x0,x1] s
def aiS:=(by dsimp only[UY,Zv, ↓NN,go_sem,Int.reduceOfNat]:UY c F x0 x1 s=_)
def Si:Sh:=(sq sl (sq sl sl))
def Sj:PX 29 Si:=⟨_,by conv=>lhs;reduce⟩
def NO:O2:=aY c F aZ Sj.1 [x0,x1,x2] s
def aeP:=(by dsimp only[NO,Sj,go_sem,Int.reduceOfNat]:NO c F x0 x1 x2 s=_)
def oY:Sh:=(sq sl (sq sl sl))
def oZ:PX 30 oY:=⟨_,by conv=>lhs;reduce⟩
def kg:O2:=aY c F aZ oZ.1 [x0,x1] s
def yU:=(by dsimp only[kg,oZ,go_sem,Int.reduceOfNat]:kg c F x0 x1 s=_)
def NP:Sh:=(sq sl (sq sl sl))
def NQ:PX 31 NP:=⟨_,by conv=>lhs;reduce⟩
def Hx:O2:=aY c F aZ NQ.1 [x0,x1,x2] s
def ach:=(by dsimp only[Hx,NQ,go_sem,Int.reduceOfNat]:Hx c F x0 x1 x2 s=_)
def kD:Sh:=(sq sl (sq (sq sl (sb (sp 0 [0,1,7,8] [(1,[4]),(2,[])] (sq sl (sq (sc sl sl) (sq (sb (sq sl (sq sl (sc (sq sl sl) sl)))) sl)))))) (sq sl sl)))
def qy:PX 64 kD:=⟨_,by conv=>lhs;reduce⟩
def pU:PL 64 kD 0:=⟨_,by conv=>lhs;reduce⟩
def dJ(k1 k2:Q2):Nat->Q2
 |0,_,_=>none
 |n+1,vs,s=>eu c F aZ (dJ k1 k2 n) [k1,k2] pU.1 vs s
def oW(k1 k2:Q2)(n:Nat)(vs:List AV)(s:St):=(by dsimp only[dJ,pU,go_sem,Int.reduceOfNat,Int.reduceNegSucc]:dJ c F k1 k2 (n+1) vs s=_)
def kF:Un->List Q2->Nat->Q2
 |.z,[k1,k2]=>dJ c F k1 k2
 |_,_=>λ_=>fI
def lZ:O2:=aY c F (kF c F) qy.1 [x0,x1] s
def AO:=(by dsimp only[lZ,qy, ↓kF,go_sem,Int.reduceOfNat,Int.reduceNegSucc]:lZ c F x0 x1 s=_)
end
section
variable{c:aj}(hc:Sem c)(F:Nat){x0 x1 x2 x3 x4 x5 x6 x7 x8 x9 F6 Ng:AV}{s:St}{r:AV×St}
include hc
theorem aeT(h:UY c F x0 x1 s=some r):c 9 [x0,x1] s=some (tidy s r):=hc.o1 F (NN c F) NM (by kernel_rfl) (by kernel_rfl) (λ_ _ _=>by kernel_rfl) (λ_ _ _ _=>by kernel_rfl) (by kernel_rfl) h
theorem aci(h:NO c F x0 x1 x2 s=some r):c 29 [x0,x1,x2] s=some (tidy s r):=hc.o0 F Si (by kernel_rfl) (by kernel_rfl) h
theorem xE(h:kg c F x0 x1 s=some r):c 30 [x0,x1] s=some (tidy s r):=hc.o0 F oY (by kernel_rfl) (by kernel_rfl) h
theorem Yj(h:Hx c F x0 x1 x2 s=some r):c 31 [x0,x1,x2] s=some (tidy s r):=hc.o0 F NP (by kernel_rfl) (by kernel_rfl) h
theorem zE(h:lZ c F x0 x1 s=some r):c 64 [x0,x1] s=some (tidy s r):=hc.o1 F (kF c F) kD (by kernel_rfl) (by kernel_rfl) (λ_ _ _=>by kernel_rfl) (λ_ _ _ _=>by kernel_rfl) (by kernel_rfl) h
end
attribute [local go_sem ↓] aY uK ev evX CW getLT Af PJ XK yE yF Mx H9 Ia Ib CX CY CZ C8 C9 Da Ic Ie Db Dc Dd De Df OE OG OH
attribute [local go_sem] aY uK ev
section
variable(c:aj)(F:Nat)(x0 x1 x2 x3 x4 x5 x6 x7 x8 x9 F6 Ng:AV)(s:St)
def E0:Sh:=(sq sl (sq sl (sq sl (sq sl sl))))
def E7:PX 4 E0:=⟨_,by conv=>lhs;reduce⟩
def tS:O2:=aY c F aZ E7.1 [x0] s
def Ue:=(by dsimp only[tS,E7,go_sem,Int.reduceOfNat]:tS c F x0 s=_)
def vH:Sh:=(sq sl (sq sl (sq sl (sq sl (sq (sq sl (sb (sp 0 [1,2,5,6,7,8] [(2,[7])] (sq (sq sl (sc sl sl)) (sj [1,2,5,6,7,8] (sb (sq sl (sj [1,2,5,6,7,8,9] (sq sl (sc sl sl)) (sq sl (sc sl sl))))) sl))))) (sq sl sl))))))
def Ds:PX 5 vH:=⟨_,by conv=>lhs;reduce⟩
def BH:PL 5 vH 0:=⟨_,by conv=>lhs;reduce⟩
def fy(k2:Q2):Nat->Q2
 |0,_,_=>none
 |n+1,vs,s=>eu c F aZ (fy k2 n) [k2] BH.1 vs s
def nD(k2:Q2)(n:Nat)(vs:List AV)(s:St):=(by dsimp only[fy,BH,go_sem,Int.reduceOfNat,Int.reduceNegSucc]:fy c F k2 (n+1) vs s=_)
def vI:Un->List Q2->Nat->Q2
 |.z,[k2]=>fy c F k2
 |_,_=>λ_=>fI
def yh:O2:=aY c F (vI c F) Ds.1 [x0,x1] s
def Rr:=(by dsimp only[yh,Ds, ↓vI,go_sem,Int.reduceOfNat,Int.reduceNegSucc]:yh c F x0 x1 s=_)
def IQ:Sh:=(sq sl (sq sl sl))
def IU:PX 6 IQ:=⟨_,by conv=>lhs;reduce⟩
def Cr:O2:=aY c F aZ IU.1 [x0,x1] s
def Ya:=(by dsimp only[Cr,IU,go_sem,Int.reduceOfNat]:Cr c F x0 x1 s=_)
def Gh:Sh:=(sq sl (sq sl (sq (sq sl (sc (sq sl sl) sl)) (sq sl sl))))
def Gi:PX 11 Gh:=⟨_,by conv=>lhs;reduce⟩
def AT:O2:=aY c F aZ Gi.1 [x0,x1,x2] s
def Wn:=(by dsimp only[AT,Gi,go_sem,Int.reduceOfNat]:AT c F x0 x1 x2 s=_)
def IV:Sh:=(sq sl (sq sl (sq (sq sl (sc (sq sl sl) sl)) (sq sl sl))))
def IW:PX 12 IV:=⟨_,by conv=>lhs;reduce⟩
def Cs:O2:=aY c F aZ IW.1 [x0,x1,x2] s
def Yb:=(by dsimp only[Cs,IW,go_sem,Int.reduceOfNat]:Cs c F x0 x1 x2 s=_)
def oI:Sh:=(sq sl (sq sl (sq sl (sq (sq sl (sb (sp 0 [1,2,3,4,5] [(2,[1,2,3,4])] (sq (sq sl (sc sl sl)) (sq (sb (sq sl (sq sl (sq sl sl)))) sl))))) (sq sl (sq sl (sj [1,2,3] (sq sl (sc (sq sl (sb (sp 1 [1,2,3,9] [(4,[1,2,3])] (sq (sq sl (sc sl sl)) (sq (sb (sq sl sl)) sl))))) sl)) (sq (sq sl (sb (sp 2 [1,2,3,11] [(6,[2,3])] (sq (sq sl (sc sl sl)) (sj [1,2,3,11] (sb (sq sl (sq sl (sc (sq sl sl) sl)))) sl))))) (sq sl sl)))))))))
def Gj:PX 14 oI:=⟨_,by conv=>lhs;reduce⟩
def E8:PL 14 oI 2:=⟨_,by conv=>lhs;reduce⟩
def j8(k6:Q2):Nat->Q2
 |0,_,_=>none
 |n+1,vs,s=>eu c F aZ (j8 k6 n) [k6] E8.1 vs s
def uw(k6:Q2)(n:Nat)(vs:List AV)(s:St):=(by dsimp only[j8,E8,go_sem,Int.reduceOfNat]:j8 c F k6 (n+1) vs s=_)
def E9:PL 14 oI 1:=⟨_,by conv=>lhs;reduce⟩
def j7(k4:Q2):Nat->Q2
 |0,_,_=>none
 |n+1,vs,s=>eu c F aZ (j7 k4 n) [k4] E9.1 vs s
def BA(k4:Q2)(n:Nat)(vs:List AV)(s:St):=(by dsimp only[j7,E9,go_sem,Int.reduceOfNat]:j7 c F k4 (n+1) vs s=_)
def Fa:PL 14 oI 0:=⟨_,by conv=>lhs;reduce⟩
def gO(k2:Q2):Nat->Q2
 |0,_,_=>none
 |n+1,vs,s=>eu c F aZ (gO k2 n) [k2] Fa.1 vs s
def Bz(k2:Q2)(n:Nat)(vs:List AV)(s:St):=(by dsimp only[gO,Fa,go_sem,Int.reduceOfNat]:gO c F k2 (n+1) vs s=_)
def yj:Un->List Q2->Nat->Q2
 |.z,[k2]=>gO c F k2
 |(.s .z),[k4]=>j7 c F k4
 |(.s (.s .z)),[k6]=>j8 c F k6
 |_,_=>λ_=>fI
def nQ:O2:=aY c F (yj c F) Gj.1 [x0] s
def WU:=(by dsimp only[nQ,Gj, ↓yj,go_sem,Int.reduceOfNat]:nQ c F x0 s=_)
def uz:Sh:=(sq sl (sq sl (sq (sq sl (sb (sp 0 [1,3,4] [(2,[3])] (sq (sq sl (sc sl sl)) (sq (sb sl) sl))))) (sq sl sl))))
def BJ:PX 16 uz:=⟨_,by conv=>lhs;reduce⟩
def AD:PL 16 uz 0:=⟨_,by conv=>lhs;reduce⟩
def ku(k2:Q2):Nat->Q2
 |0,_,_=>none
 |n+1,vs,s=>eu c F aZ (ku k2 n) [k2] AD.1 vs s
def yK(k2:Q2)(n:Nat)(vs:List AV)(s:St):=(by dsimp only[ku,AD,go_sem,Int.reduceOfNat]:ku c F k2 (n+1) vs s=_)
def uA:Un->List Q2->Nat->Q2
 |.z,[k2]=>ku c F k2
 |_,_=>λ_=>fI
def wU:O2:=aY c F (uA c F) BJ.1 [x0] s
def P0:=(by dsimp only[wU,BJ, ↓uA,go_sem,Int.reduceOfNat]:wU c F x0 s=_)
def KR:Sh:=(sq sl (sq sl (sj [5] (sq sl (sc sl sl)) (sq sl sl))))
def KS:PX 17 KR:=⟨_,by conv=>lhs;reduce⟩
def Fb:O2:=aY c F aZ KS.1 [x0,x1] s
def aat:=(by dsimp only[Fb,KS,go_sem,Int.reduceOfNat]:Fb c F x0 x1 s=_)
def wW:Sh:=(sq sl (sq (sq sl (sb (sp 0 [0,1,5] [(1,[4]),(2,[])] (sq (sq sl (sc sl sl)) (sq (sb (sq sl (sq sl (sc (sq sl (sq sl sl)) sl)))) sl))))) (sq sl sl)))
def Fc:PX 18 wW:=⟨_,by conv=>lhs;reduce⟩
def Dt:PL 18 wW 0:=⟨_,by conv=>lhs;reduce⟩
def mD(k1 k2:Q2):Nat->Q2
 |0,_,_=>none
 |n+1,vs,s=>eu c F aZ (mD k1 k2 n) [k1,k2] Dt.1 vs s
def sP(k1 k2:Q2)(n:Nat)(vs:List AV)(s:St):=(by dsimp only[mD,Dt,go_sem,Int.reduceOfNat,Int.reduceNegSucc]:mD c F k1 k2 (n+1) vs s=_)
def wX:Un->List Q2->Nat->Q2
 |.z,[k1,k2]=>mD c F k1 k2
 |_,_=>λ_=>fI
def zQ:O2:=aY c F (wX c F) Fc.1 [x0,x1] s
def Ek:=(by dsimp only[zQ,Fc, ↓wX,go_sem,Int.reduceOfNat,Int.reduceNegSucc]:zQ c F x0 x1 s=_)
def AU:Sh:=(sq sl (sq (sq sl (sc (sq sl sl) sl)) (sq sl (sq (sq sl (sb (sp 0 [0,5,32,33,34] [(1,[4]),(2,[5])] (sq sl (sq (sc sl sl) (sj [0,5,32,33,34] (sb (sq sl (sq (sq sl (sc (sq sl sl) sl)) (sq sl (sc sl sl))))) sl)))))) (sq sl sl)))))
def KT:PX 19 AU:=⟨_,by conv=>lhs;reduce⟩
def IX:PL 19 AU 0:=⟨_,by conv=>lhs;reduce⟩
def mC(k1 k2:Q2):Nat->Q2
 |0,_,_=>none
 |n+1,vs,s=>eu c F aZ (mC k1 k2 n) [k1,k2] IX.1 vs s
def gJ(k1 k2:Q2)(n:Nat)(vs:List AV)(s:St):=(by dsimp only[mC,IX,go_sem,Int.reduceOfNat,Int.reduceNegSucc]:mC c F k1 k2 (n+1) vs s=_)
def AW:Un->List Q2->Nat->Q2
 |.z,[k1,k2]=>mC c F k1 k2
 |_,_=>λ_=>fI
def Fe:O2:=aY c F (AW c F) KT.1 [x0,x1] s
def AM:=(by dsimp only[Fe,KT, ↓AW,go_sem,Int.reduceOfNat,Int.reduceNegSucc]:Fe c F x0 x1 s=_)
def IY:Sh:=(sq sl (sq sl (sq sl (sq sl sl))))
def IZ:PX 32 IY:=⟨_,by conv=>lhs;reduce⟩
def Ct:O2:=aY c F aZ IZ.1 [x0,x1] s
def X9:=(by dsimp only[Ct,IZ,go_sem,Int.reduceOfNat]:Ct c F x0 x1 s=_)
def AX:Sh:=(sq sl (sq sl (sq sl (sq (sq sl (sb (sp 0 [0,1,5,6,7,16,17,18] [(2,[0,1,5,6,7])] (sq sl (sq (sc sl sl) (sj [0,1,5,6,7,16,17,18] (sb (sq sl (sq sl (sc (sq sl (sq sl (sc sl sl))) sl)))) sl)))))) (sj [5] (sq sl (sb (sq sl (sc sl (sq sl (sc sl (sq sl (sc (sq sl (sc sl sl)) sl)))))))) (sq sl sl))))))
def KU:PX 33 AX:=⟨_,by conv=>lhs;reduce⟩
def I0:PL 33 AX 0:=⟨_,by conv=>lhs;reduce⟩
def pE(k2:Q2):Nat->Q2
 |0,_,_=>none
 |n+1,vs,s=>eu c F aZ (pE k2 n) [k2] I0.1 vs s
def Ej(k2:Q2)(n:Nat)(vs:List AV)(s:St):=(by dsimp only[pE,I0,go_sem,Int.reduceOfNat]:pE c F k2 (n+1) vs s=_)
def AY:Un->List Q2->Nat->Q2
 |.z,[k2]=>pE c F k2
 |_,_=>λ_=>fI
def Ff:O2:=aY c F (AY c F) KU.1 [x0,x1] s
def aas:=(by dsimp only[Ff,KU, ↓AY,go_sem,Int.reduceOfNat]:Ff c F x0 x1 s=_)
def wY:Sh:=(sq sl (sq sl (sq sl (sj [1,4,5] (sq sl (sb (sq sl (sc sl (sq sl (sc sl (sq sl (sc sl (sq sl (sc (sq sl sl) sl)))))))))) (sq (sq sl (sb (sp 0 [1,4,5,7] [(3,[4,5])] (sq (sq sl (sc sl sl)) (sj [1,4,5,7] (sb (sq sl (sc (sq sl sl) sl))) sl))))) (sq sl sl))))))
def Fg:PX 37 wY:=⟨_,by conv=>lhs;reduce⟩
def Du:PL 37 wY 0:=⟨_,by conv=>lhs;reduce⟩
def jF(k3:Q2):Nat->Q2
 |0,_,_=>none
 |n+1,vs,s=>eu c F aZ (jF k3 n) [k3] Du.1 vs s
def oc(k3:Q2)(n:Nat)(vs:List AV)(s:St):=(by dsimp only[jF,Du,go_sem,Int.reduceOfNat]:jF c F k3 (n+1) vs s=_)
def wZ:Un->List Q2->Nat->Q2
 |.z,[k3]=>jF c F k3
 |_,_=>λ_=>fI
def zR:O2:=aY c F (wZ c F) Fg.1 [x0,x1] s
def Uz:=(by dsimp only[zR,Fg, ↓wZ,go_sem,Int.reduceOfNat]:zR c F x0 x1 s=_)
def Gk:Sh:=(sq sl (sq (sq sl (sb (sq sl (sc (sq sl sl) (sq sl (sc (sq sl sl) sl)))))) (sq sl sl)))
def Gl:PX 38 Gk:=⟨_,by conv=>lhs;reduce⟩
def AZ:O2:=aY c F aZ Gl.1 [x0] s
def WS:=(by dsimp only[AZ,Gl,go_sem,Int.reduceOfNat]:AZ c F x0 s=_)
def kP:Sh:=(sq sl (sq sl (sq (sq sl (sb (sp 0 [0,1,4,5,6] [(2,[1,4,5])] (sq (sq sl (sc sl sl)) (sj [0,1,4,5,6] (sb (sq sl (sq sl (sj [0,1,4,5,6,7,8] (sq sl (sc sl sl)) (sj [0,1,4,5,6,7,8] (sq sl (sc sl sl)) (sj [0,1,4,5,6,7,8] (sq sl (sc sl sl)) (sq (sq sl (sb (sp 1 [0,1,4,5,6,7,8,9] [(4,[0,1,4,5,6,8])] (sq (sq sl (sc sl sl)) (sj [0,1,4,5,6,7,8,9] (sb (sq sl (sc (sq sl sl) sl))) sl))))) (sq sl sl)))))))) sl))))) (sq sl (sq (sq sl (sb (sp 2 [1,4,5,12,13] [(6,[4,5])] (sq (sq sl (sc sl sl)) (sq (sb (sq sl (sb (sp 3 [1,4,5,12,13,14] [(8,[1,4,5,12,13])] (sq (sq sl (sc sl sl)) (sj [1,4,5,12,13,14] (sb (sq (sq sl (sc sl sl)) (sq (sq sl (sc sl sl)) (sj [1,4,5,12,13,14] (sq sl (sc (sq sl sl) sl)) sl)))) sl)))))) sl))))) (sq sl sl))))))
def Gm:PX 39 kP:=⟨_,by conv=>lhs;reduce⟩
def Fh:PL 39 kP 3:=⟨_,by conv=>lhs;reduce⟩
def j9(k8:Q2):Nat->Q2
 |0,_,_=>none
 |n+1,vs,s=>eu c F aZ (j9 k8 n) [k8] Fh.1 vs s
def iY(k8:Q2)(n:Nat)(vs:List AV)(s:St):=(by dsimp only[j9,Fh,go_sem,Int.reduceOfNat]:j9 c F k8 (n+1) vs s=_)
def Fi:Un->List Q2->Nat->Q2
 |(.s (.s (.s .z))),[k8]=>j9 c F k8
 |_,_=>λ_=>fI
def Fj:PL 39 kP 2:=⟨_,by conv=>lhs;reduce⟩
def ke(k6:Q2):Nat->Q2
 |0,_,_=>none
 |n+1,vs,s=>eu c F (Fi c F) (ke k6 n) [k6] Fj.1 vs s
def BB(k6:Q2)(n:Nat)(vs:List AV)(s:St):=(by dsimp only[ke,Fj, ↓Fi,go_sem,Int.reduceOfNat]:ke c F k6 (n+1) vs s=_)
def Fk:PL 39 kP 1:=⟨_,by conv=>lhs;reduce⟩
def iP(k4:Q2):Nat->Q2
 |0,_,_=>none
 |n+1,vs,s=>eu c F aZ (iP k4 n) [k4] Fk.1 vs s
def uv(k4:Q2)(n:Nat)(vs:List AV)(s:St):=(by dsimp only[iP,Fk,go_sem,Int.reduceOfNat]:iP c F k4 (n+1) vs s=_)
def Fl:Un->List Q2->Nat->Q2
 |(.s .z),[k4]=>iP c F k4
 |_,_=>λ_=>fI
def Fm:PL 39 kP 0:=⟨_,by conv=>lhs;reduce⟩
def gM(k2:Q2):Nat->Q2
 |0,_,_=>none
 |n+1,vs,s=>eu c F (Fl c F) (gM k2 n) [k2] Fm.1 vs s
def By(k2:Q2)(n:Nat)(vs:List AV)(s:St):=(by dsimp only[gM,Fm, ↓Fl,go_sem,Int.reduceOfNat]:gM c F k2 (n+1) vs s=_)
def yl:Un->List Q2->Nat->Q2
 |.z,[k2]=>gM c F k2
 |(.s .z),[k4]=>iP c F k4
 |(.s (.s .z)),[k6]=>ke c F k6
 |(.s (.s (.s .z))),[k8]=>j9 c F k8
 |_,_=>λ_=>fI
def A0:O2:=aY c F (yl c F) Gm.1 [x0,x1] s
def WT:=(by dsimp only[A0,Gm, ↓yl,go_sem,Int.reduceOfNat]:A0 c F x0 x1 s=_)
def Fo:Sh:=(sq sl (sq sl (sq sl (sj [1,2,4,6] (sq sl (sc sl sl)) (sq sl (sq sl (sq (sq sl (sc (sq sl sl) sl)) (sq sl (sq sl (sj [1,2,4,6,11] (sq sl (sb (sj [1,2,4,6,9,10,11,12,58,59] (sq sl (sc sl (sq sl (sc sl (sq sl (sc sl (sq sl (sc sl sl)))))))) (sc (sq sl (sj [4,6,9,10] (sq sl (sc sl sl)) (sj [4,6,9,10] (sq sl (sc sl sl)) (sq sl sl)))) (sj [1,2,4,6,9,11,12,58,100] (sq sl (sc sl sl)) (sc (sq sl (sj [4,6] (sq sl (sc sl sl)) (sq sl sl))) (sq sl (sc (sj [4,6] (sq sl (sc sl sl)) (sq sl sl)) (sq sl (sc (sq sl (sq sl sl)) (sj [1,2,4,6,11,12,164] (sq sl (sc sl sl)) (sc sl sl)))))))))))) (sj [4,6] (sq sl (sc sl sl)) (sq sl sl))))))))))))
def Fp:PX 40 Fo:=⟨_,by conv=>lhs;reduce⟩
def mH:O2:=aY c F aZ Fp.1 [x0,x1] s
def UB:=(by dsimp only[mH,Fp,go_sem,Int.reduceOfNat]:mH c F x0 x1 s=_)
def sY:Sh:=(sq sl (sj [0,1] (sq sl (sc sl sl)) (sq sl (sj [0,6] (sq sl (sc sl sl)) (sq sl (sq sl (sq (sb (sp 0 [7,8] [(2,[7])] (sq (sq sl (sc sl sl)) (sb sl)))) (sq sl sl))))))))
def AE:PX 57 sY:=⟨_,by conv=>lhs;reduce⟩
def zS:PL 57 sY 0:=⟨_,by conv=>lhs;reduce⟩
def jP(k2:Q2):Nat->Q2
 |0,_,_=>none
 |n+1,vs,s=>eu c F aZ (jP k2 n) [k2] zS.1 vs s
def lu(k2:Q2)(n:Nat)(vs:List AV)(s:St):=(by dsimp only[jP,zS,go_sem,Int.reduceOfNat]:jP c F k2 (n+1) vs s=_)
def sZ:Un->List Q2->Nat->Q2
 |.z,[k2]=>jP c F k2
 |_,_=>λ_=>fI
def vJ:O2:=aY c F (sZ c F) AE.1 [x0,x1] s
def Au:=(by dsimp only[vJ,AE, ↓sZ,go_sem,Int.reduceOfNat]:vJ c F x0 x1 s=_)
def Fq:Sh:=sl
def Fs:PX 65 Fq:=⟨_,by conv=>lhs;reduce⟩
def zU:O2:=aY c F aZ Fs.1 [x0,x1,x2] s
def TZ:=(by dsimp only[zU,Fs,go_sem,Int.reduceOfNat]:zU c F x0 x1 x2 s=_)
def Gn:Sh:=(sq sl (sq sl sl))
def Gp:PX 68 Gn:=⟨_,by conv=>lhs;reduce⟩
def A3:O2:=aY c F aZ Gp.1 [x0] s
def WQ:=(by dsimp only[A3,Gp,go_sem,Int.reduceOfNat]:A3 c F x0 s=_)
def Dv:Sh:=(sq sl (sq sl sl))
def Dw:PX 69 Dv:=⟨_,by conv=>lhs;reduce⟩
def ym:O2:=aY c F aZ Dw.1 [x0] s
def RZ:=(by dsimp only[ym,Dw,go_sem,Int.reduceOfNat]:ym c F x0 s=_)
def w9:Sh:=(sq sl (sq (sq sl (sb (sp 0 [1,2,5] [(1,[4]),(2,[])] (sq (sq sl (sc sl sl)) (sq (sb (sq sl (sc (sq sl sl) sl))) sl))))) (sq sl sl)))
def Ft:PX 70 w9:=⟨_,by conv=>lhs;reduce⟩
def Dx:PL 70 w9 0:=⟨_,by conv=>lhs;reduce⟩
def mG(k1 k2:Q2):Nat->Q2
 |0,_,_=>none
 |n+1,vs,s=>eu c F aZ (mG k1 k2 n) [k1,k2] Dx.1 vs s
def sV(k1 k2:Q2)(n:Nat)(vs:List AV)(s:St):=(by dsimp only[mG,Dx,go_sem,Int.reduceOfNat]:mG c F k1 k2 (n+1) vs s=_)
def xe:Un->List Q2->Nat->Q2
 |.z,[k1,k2]=>mG c F k1 k2
 |_,_=>λ_=>fI
def zV:O2:=aY c F (xe c F) Ft.1 [x0,x1] s
def UA:=(by dsimp only[zV,Ft, ↓xe,go_sem,Int.reduceOfNat]:zV c F x0 x1 s=_)
def KV:Sh:=(sq sl (sq sl (sq (sq sl (sc sl sl)) (sq sl (sq sl (sc sl sl))))))
def KW:PX 77 KV:=⟨_,by conv=>lhs;reduce⟩
def Fu:O2:=aY c F aZ KW.1 [x0,x1,x2] s
def aah:=(by dsimp only[Fu,KW,go_sem,Int.reduceOfNat]:Fu c F x0 x1 x2 s=_)
def BK:Sh:=(sq sl (sq sl (sq sl (sc sl sl))))
def BL:PX 78 BK:=⟨_,by conv=>lhs;reduce⟩
def xj:O2:=aY c F aZ BL.1 [x0,x1,x2] s
def PR:=(by dsimp only[xj,BL,go_sem,Int.reduceOfNat]:xj c F x0 x1 x2 s=_)
def BN:Sh:=(sq sl (sq sl (sq sl (sc sl sl))))
def BO:PX 79 BN:=⟨_,by conv=>lhs;reduce⟩
def xk:O2:=aY c F aZ BO.1 [x0,x1,x2] s
def PT:=(by dsimp only[xk,BO,go_sem,Int.reduceOfNat]:xk c F x0 x1 x2 s=_)
def I3:Sh:=(sq sl (sq sl (sq sl (sc (sq sl (sq sl (sc sl sl))) sl))))
def I6:PX 80 I3:=⟨_,by conv=>lhs;reduce⟩
def Cu:O2:=aY c F aZ I6.1 [x0,x1,x2] s
def XW:=(by dsimp only[Cu,I6,go_sem,Int.reduceOfNat]:Cu c F x0 x1 x2 s=_)
def Fv:Sh:=(sq sl (sq sl (sq sl (sc sl sl))))
def Fw:PX 81 Fv:=⟨_,by conv=>lhs;reduce⟩
def zW:O2:=aY c F aZ Fw.1 [x0,x1,x2] s
def TH:=(by dsimp only[zW,Fw,go_sem,Int.reduceOfNat]:zW c F x0 x1 x2 s=_)
def Sk:Sh:=(sq sl (sq sl (sq sl (sq sl (sc sl sl)))))
def Sl:PX 82 Sk:=⟨_,by conv=>lhs;reduce⟩
def NR:O2:=aY c F aZ Sl.1 [x0,x1,x2] s
def aeJ:=(by dsimp only[NR,Sl,go_sem,Int.reduceOfNat]:NR c F x0 x1 x2 s=_)
def Cv:Sh:=(sq sl (sq sl (sq sl (sq (sq sl (sc sl sl)) (sq sl (sq (sb (sp 0 [0,2,4,6,7,8] [(2,[0,2,4,6,7,8])] (sq (sq sl (sc sl sl)) (sb sl)))) (sq sl (sc sl sl))))))))
def NS:PX 83 Cv:=⟨_,by conv=>lhs;reduce⟩
def KY:PL 83 Cv 0:=⟨_,by conv=>lhs;reduce⟩
def qg(k2:Q2):Nat->Q2
 |0,_,_=>none
 |n+1,vs,s=>eu c F aZ (qg k2 n) [k2] KY.1 vs s
def rZ(k2:Q2)(n:Nat)(vs:List AV)(s:St):=(by dsimp only[qg,KY,go_sem,Int.reduceOfNat]:qg c F k2 (n+1) vs s=_)
def Cw:Un->List Q2->Nat->Q2
 |.z,[k2]=>qg c F k2
 |_,_=>λ_=>fI
def Hy:O2:=aY c F (Cw c F) NS.1 [x0,x1,x2] s
def ab3:=(by dsimp only[Hy,NS, ↓Cw,go_sem,Int.reduceOfNat]:Hy c F x0 x1 x2 s=_)
def Dy:Sh:=(sq sl sl)
def Dz:PX 84 Dy:=⟨_,by conv=>lhs;reduce⟩
def yo:O2:=aY c F aZ Dz.1 [x0,x1,x2] s
def Rj:=(by dsimp only[yo,Dz,go_sem,Int.reduceOfNat]:yo c F x0 x1 x2 s=_)
def NT:Sh:=(sq sl sl)
def NU:PX 85 NT:=⟨_,by conv=>lhs;reduce⟩
def Hz:O2:=aY c F aZ NU.1 [x0,x1,x2] s
def ab8:=(by dsimp only[Hz,NU,go_sem,Int.reduceOfNat]:Hz c F x0 x1 x2 s=_)
def A4:Sh:=(sq sl (sq sl (sb (sp 0 [0,2,4,11,12,13] [(2,[])] (sq sl (sq (sc sl sl) (sj [0,2,4,11,12,13] (sb (sq sl (sq sl (sc sl sl)))) sl)))))))
def KZ:PX 86 A4:=⟨_,by conv=>lhs;reduce⟩
def I7:PL 86 A4 0:=⟨_,by conv=>lhs;reduce⟩
def jN(k2:Q2):Nat->Q2
 |0,_,_=>none
 |n+1,vs,s=>eu c F aZ (jN k2 n) [k2] I7.1 vs s
def iM(k2:Q2)(n:Nat)(vs:List AV)(s:St):=(by dsimp only[jN,I7,go_sem,Int.reduceOfNat]:jN c F k2 (n+1) vs s=_)
def A5:Un->List Q2->Nat->Q2
 |.z,[k2]=>jN c F k2
 |_,_=>λ_=>fI
def Fx:O2:=aY c F (A5 c F) KZ.1 [x0,x1,x2] s
def aam:=(by dsimp only[Fx,KZ, ↓A5,go_sem,Int.reduceOfNat]:Fx c F x0 x1 x2 s=_)
def qz:Sh:=(sq sl (sq sl (sb (sp 0 [0,2,4,18,19,20] [(2,[])] (sq sl (sq (sc sl sl) (sj [0,2,4,18,19,20] (sb (sq sl (sq (sq sl (sc sl sl)) (sq sl (sq (sq sl (sb (sp 1 [0,2,4,6,8,9,18,19,20,54,55,56] [(4,[0,2,4,6,8,9,18,19,20])] (sq sl (sq (sc sl sl) (sq (sb (sq sl (sq sl (sb (sp 2 [0,2,4,6,8,9,18,19,20,54,55,56,60,61,62] [(6,[0,2,4,6,8,9,18,19,20,54,55,56])] (sq sl (sq (sc sl sl) (sj [0,2,4,6,8,9,18,19,20,54,55,56,60,61,62] (sb (sq sl (sq sl (sq sl (sc (sq sl sl) sl))))) sl)))))))) sl)))))) (sq sl (sc sl sl))))))) sl)))))))
def K7:PX 87 qz:=⟨_,by conv=>lhs;reduce⟩
def I8:PL 87 qz 2:=⟨_,by conv=>lhs;reduce⟩
def jO(k6:Q2):Nat->Q2
 |0,_,_=>none
 |n+1,vs,s=>eu c F aZ (jO k6 n) [k6] I8.1 vs s
def wD(k6:Q2)(n:Nat)(vs:List AV)(s:St):=(by dsimp only[jO,I8,go_sem,Int.reduceOfNat]:jO c F k6 (n+1) vs s=_)
def I9:Un->List Q2->Nat->Q2
 |(.s (.s .z)),[k6]=>jO c F k6
 |_,_=>λ_=>fI
def Ja:PL 87 qz 1:=⟨_,by conv=>lhs;reduce⟩
def mA(k4:Q2):Nat->Q2
 |0,_,_=>none
 |n+1,vs,s=>eu c F (I9 c F) (mA k4 n) [k4] Ja.1 vs s
def wE(k4:Q2)(n:Nat)(vs:List AV)(s:St):=(by dsimp only[mA,Ja, ↓I9,go_sem,Int.reduceOfNat]:mA c F k4 (n+1) vs s=_)
def Jb:Un->List Q2->Nat->Q2
 |(.s .z),[k4]=>mA c F k4
 |(.s (.s .z)),[k6]=>jO c F k6
 |_,_=>λ_=>fI
def Jd:PL 87 qz 0:=⟨_,by conv=>lhs;reduce⟩
def gH(k2:Q2):Nat->Q2
 |0,_,_=>none
 |n+1,vs,s=>eu c F (Jb c F) (gH k2 n) [k2] Jd.1 vs s
def ny(k2:Q2)(n:Nat)(vs:List AV)(s:St):=(by dsimp only[gH,Jd, ↓Jb,go_sem,Int.reduceOfNat]:gH c F k2 (n+1) vs s=_)
def A7:Un->List Q2->Nat->Q2
 |.z,[k2]=>gH c F k2
 |(.s .z),[k4]=>mA c F k4
 |(.s (.s .z)),[k6]=>jO c F k6
 |_,_=>λ_=>fI
def Fy:O2:=aY c F (A7 c F) K7.1 [x0,x1,x2] s
def aan:=(by dsimp only[Fy,K7, ↓A7,go_sem,Int.reduceOfNat]:Fy c F x0 x1 x2 s=_)
def K8:Sh:=(sq sl sl)
def K9:PX 88 K8:=⟨_,by conv=>lhs;reduce⟩
def Fz:O2:=aY c F aZ K9.1 [x0,x1,x2] s
def aal:=(by dsimp only[Fz,K9,go_sem,Int.reduceOfNat]:Fz c F x0 x1 x2 s=_)
def sg:Sh:=(sq sl (sq sl (sb (sp 0 [0,2,4,13,14,15] [(2,[])] (sq sl (sq (sc sl sl) (sq (sb (sq sl (sq sl (sb (sp 1 [0,2,4,6,7,8,13,14,15] [(4,[0,2,4,13,14,15])] (sq (sq sl (sc sl sl)) (sj [0,2,4,6,7,8,13,14,15] (sb (sq sl (sq sl (sc sl sl)))) sl))))))) sl)))))))
def Gq:PX 89 sg:=⟨_,by conv=>lhs;reduce⟩
def FA:PL 89 sg 1:=⟨_,by conv=>lhs;reduce⟩
def gG(k4:Q2):Nat->Q2
 |0,_,_=>none
 |n+1,vs,s=>eu c F aZ (gG k4 n) [k4] FA.1 vs s
def iX(k4:Q2)(n:Nat)(vs:List AV)(s:St):=(by dsimp only[gG,FA,go_sem,Int.reduceOfNat]:gG c F k4 (n+1) vs s=_)
def FB:Un->List Q2->Nat->Q2
 |(.s .z),[k4]=>gG c F k4
 |_,_=>λ_=>fI
def FC:PL 89 sg 0:=⟨_,by conv=>lhs;reduce⟩
def nu(k2:Q2):Nat->Q2
 |0,_,_=>none
 |n+1,vs,s=>eu c F (FB c F) (nu k2 n) [k2] FC.1 vs s
def Bn(k2:Q2)(n:Nat)(vs:List AV)(s:St):=(by dsimp only[nu,FC, ↓FB,go_sem,Int.reduceOfNat]:nu c F k2 (n+1) vs s=_)
def yp:Un->List Q2->Nat->Q2
 |.z,[k2]=>nu c F k2
 |(.s .z),[k4]=>gG c F k4
 |_,_=>λ_=>fI
def A8:O2:=aY c F (yp c F) Gq.1 [x0,x1,x2] s
def Wg:=(by dsimp only[A8,Gq, ↓yp,go_sem,Int.reduceOfNat]:A8 c F x0 x1 x2 s=_)
def Je:Sh:=(sq sl (sq (sq sl (sc sl sl)) sl))
def Jf:PX 90 Je:=⟨_,by conv=>lhs;reduce⟩
def Cx:O2:=aY c F aZ Jf.1 [x0,x1,x2] s
def Ij:=(by dsimp only[Cx,Jf,go_sem,Int.reduceOfNat]:Cx c F x0 x1 x2 s=_)
def NV:Sh:=(sq sl sl)
def NW:PX 91 NV:=⟨_,by conv=>lhs;reduce⟩
def HA:O2:=aY c F aZ NW.1 [x0,x1,x2] s
def ab9:=(by dsimp only[HA,NW,go_sem,Int.reduceOfNat]:HA c F x0 x1 x2 s=_)
def La:Sh:=(sq sl sl)
def Lb:PX 92 La:=⟨_,by conv=>lhs;reduce⟩
def FD:O2:=aY c F aZ Lb.1 [x0,x1,x2] s
def aao:=(by dsimp only[FD,Lb,go_sem,Int.reduceOfNat]:FD c F x0 x1 x2 s=_)
def yq:Sh:=(sq sl (sq sl (sb (sp 0 [0,2,4,11,12,13] [(2,[])] (sq sl (sq (sc sl sl) (sj [0,2,4,11,12,13] (sb (sq sl (sq sl (sc sl sl)))) sl)))))))
def Gr:PX 93 yq:=⟨_,by conv=>lhs;reduce⟩
def FE:PL 93 yq 0:=⟨_,by conv=>lhs;reduce⟩
def iN(k2:Q2):Nat->Q2
 |0,_,_=>none
 |n+1,vs,s=>eu c F aZ (iN k2 n) [k2] FE.1 vs s
def kT(k2:Q2)(n:Nat)(vs:List AV)(s:St):=(by dsimp only[iN,FE,go_sem,Int.reduceOfNat]:iN c F k2 (n+1) vs s=_)
def yu:Un->List Q2->Nat->Q2
 |.z,[k2]=>iN c F k2
 |_,_=>λ_=>fI
def A9:O2:=aY c F (yu c F) Gr.1 [x0,x1,x2] s
def Wi:=(by dsimp only[A9,Gr, ↓yu,go_sem,Int.reduceOfNat]:A9 c F x0 x1 x2 s=_)
def Pj:Sh:=(sq sl sl)
def Pk:PX 94 Pj:=⟨_,by conv=>lhs;reduce⟩
def JS:O2:=aY c F aZ Pk.1 [x0,x1,x2] s
def ads:=(by dsimp only[JS,Pk,go_sem,Int.reduceOfNat]:JS c F x0 x1 x2 s=_)
def NX:Sh:=(sq sl (sq sl (sq sl sl)))
def NY:PX 138 NX:=⟨_,by conv=>lhs;reduce⟩
def HC:O2:=aY c F aZ NY.1 [x0,x1] s
def ab1:=(by dsimp only[HC,NY,go_sem,Int.reduceOfNat]:HC c F x0 x1 s=_)
def Pm:Sh:=(sq sl (sq sl (sq sl sl)))
def Pn:PX 139 Pm:=⟨_,by conv=>lhs;reduce⟩
def JU:O2:=aY c F aZ Pn.1 [x0,x1,x2] s
def adp:=(by dsimp only[JU,Pn,go_sem,Int.reduceOfNat]:JU c F x0 x1 x2 s=_)
def Ba:Sh:=(sq sl (sq (sq sl (sb (sp 0 [0,3,20,21,22] [(1,[8]),(2,[])] (sq sl (sq (sc sl sl) (sq (sb (sq sl (sq sl (sc (sq sl sl) sl)))) sl)))))) (sq sl sl)))
def Lc:PX 140 Ba:=⟨_,by conv=>lhs;reduce⟩
def Jh:PL 140 Ba 0:=⟨_,by conv=>lhs;reduce⟩
def pn(k1 k2:Q2):Nat->Q2
 |0,_,_=>none
 |n+1,vs,s=>eu c F aZ (pn k1 k2 n) [k1,k2] Jh.1 vs s
def qG(k1 k2:Q2)(n:Nat)(vs:List AV)(s:St):=(by dsimp only[pn,Jh,go_sem,Int.reduceOfNat]:pn c F k1 k2 (n+1) vs s=_)
def Bb:Un->List Q2->Nat->Q2
 |.z,[k1,k2]=>pn c F k1 k2
 |_,_=>λ_=>fI
def FF:O2:=aY c F (Bb c F) Lc.1 [x0,x1,x2,x3] s
def aae:=(by dsimp only[FF,Lc, ↓Bb,go_sem,Int.reduceOfNat]:FF c F x0 x1 x2 x3 s=_)
def uO:Sh:=(sq sl (sq sl (sb (sp 0 [0,2,3,5,15,16,17] [(2,[])] (sq sl (sq (sc sl sl) (sj [0,2,3,5,15,16,17] (sb (sq sl (sq (sq sl (sc sl sl)) (sq sl (sb (sp 1 [0,2,3,5,8,9,10,15,16,17] [(4,[0,2,3,5,15,16,17])] (sq (sq sl (sc sl sl)) (sj [0,2,3,5,8,9,10,15,16,17] (sb (sq sl (sq sl (sc sl sl)))) sl)))))))) sl)))))))
def Ld:PX 141 uO:=⟨_,by conv=>lhs;reduce⟩
def Ji:PL 141 uO 1:=⟨_,by conv=>lhs;reduce⟩
def iG(k4:Q2):Nat->Q2
 |0,_,_=>none
 |n+1,vs,s=>eu c F aZ (iG k4 n) [k4] Ji.1 vs s
def ni(k4:Q2)(n:Nat)(vs:List AV)(s:St):=(by dsimp only[iG,Ji,go_sem,Int.reduceOfNat]:iG c F k4 (n+1) vs s=_)
def Jj:Un->List Q2->Nat->Q2
 |(.s .z),[k4]=>iG c F k4
 |_,_=>λ_=>fI
def Jk:PL 141 uO 0:=⟨_,by conv=>lhs;reduce⟩
def jM(k2:Q2):Nat->Q2
 |0,_,_=>none
 |n+1,vs,s=>eu c F (Jj c F) (jM k2 n) [k2] Jk.1 vs s
def qI(k2:Q2)(n:Nat)(vs:List AV)(s:St):=(by dsimp only[jM,Jk, ↓Jj,go_sem,Int.reduceOfNat]:jM c F k2 (n+1) vs s=_)
def Bc:Un->List Q2->Nat->Q2
 |.z,[k2]=>jM c F k2
 |(.s .z),[k4]=>iG c F k4
 |_,_=>λ_=>fI
def FG:O2:=aY c F (Bc c F) Ld.1 [x0,x1,x2,x3] s
def aai:=(by dsimp only[FG,Ld, ↓Bc,go_sem,Int.reduceOfNat]:FG c F x0 x1 x2 x3 s=_)
def AG:Sh:=(sq sl (sq sl sl))
def AH:PX 142 AG:=⟨_,by conv=>lhs;reduce⟩
def vK:O2:=aY c F aZ AH.1 [x0,x1,x2] s
def N4:=(by dsimp only[vK,AH,go_sem,Int.reduceOfNat]:vK c F x0 x1 x2 s=_)
def xq:Sh:=(sq sl (sq sl (sb (sp 0 [0,2,4,18,19,20] [(2,[])] (sq sl (sq (sc sl sl) (sj [0,2,4,18,19,20] (sb (sq sl (sq (sq sl (sc sl sl)) (sq sl (sq (sq sl (sb (sp 1 [0,2,4,6,8,18,19,20,38,39,40] [(4,[0,2,4,8,18,19,20])] (sq sl (sq (sc sl sl) (sj [0,2,4,6,8,18,19,20,38,39,40] (sb (sq sl (sq sl (sc sl sl)))) sl)))))) sl))))) sl)))))))
def NZ:PX 143 xq:=⟨_,by conv=>lhs;reduce⟩
def Le:PL 143 xq 1:=⟨_,by conv=>lhs;reduce⟩
def nO(k4:Q2):Nat->Q2
 |0,_,_=>none
 |n+1,vs,s=>eu c F aZ (nO k4 n) [k4] Le.1 vs s
def r9(k4:Q2)(n:Nat)(vs:List AV)(s:St):=(by dsimp only[nO,Le,go_sem,Int.reduceOfNat]:nO c F k4 (n+1) vs s=_)
def Lf:Un->List Q2->Nat->Q2
 |(.s .z),[k4]=>nO c F k4
 |_,_=>λ_=>fI
def Lg:PL 143 xq 0:=⟨_,by conv=>lhs;reduce⟩
def ig(k2:Q2):Nat->Q2
 |0,_,_=>none
 |n+1,vs,s=>eu c F (Lf c F) (ig k2 n) [k2] Lg.1 vs s
def xY(k2:Q2)(n:Nat)(vs:List AV)(s:St):=(by dsimp only[ig,Lg, ↓Lf,go_sem,Int.reduceOfNat]:ig c F k2 (n+1) vs s=_)
def Cy:Un->List Q2->Nat->Q2
 |.z,[k2]=>ig c F k2
 |(.s .z),[k4]=>nO c F k4
 |_,_=>λ_=>fI
def HD:O2:=aY c F (Cy c F) NZ.1 [x0,x1,x2] s
def ab7:=(by dsimp only[HD,NZ, ↓Cy,go_sem,Int.reduceOfNat]:HD c F x0 x1 x2 s=_)
def zX:Sh:=(sq (sq sl (sb (sp 0 [0,1,2,6,7,8] [(1,[]),(2,[0,2])] (sq sl (sq (sc sl sl) (sq (sb (sq sl (sq sl (sc sl sl)))) sl)))))) (sq sl (sc sl sl)))
def Jl:PX 144 zX:=⟨_,by conv=>lhs;reduce⟩
def Gs:PL 144 zX 0:=⟨_,by conv=>lhs;reduce⟩
def ov(k1 k2:Q2):Nat->Q2
 |0,_,_=>none
 |n+1,vs,s=>eu c F aZ (ov k1 k2 n) [k1,k2] Gs.1 vs s
def u7(k1 k2:Q2)(n:Nat)(vs:List AV)(s:St):=(by dsimp only[ov,Gs,go_sem,Int.reduceOfNat]:ov c F k1 k2 (n+1) vs s=_)
def zY:Un->List Q2->Nat->Q2
 |.z,[k1,k2]=>ov c F k1 k2
 |_,_=>λ_=>fI
def Cz:O2:=aY c F (zY c F) Jl.1 [x0,x1,x2] s
def zw:=(by dsimp only[Cz,Jl, ↓zY,go_sem,Int.reduceOfNat]:Cz c F x0 x1 x2 s=_)
def Lh:Sh:=(sq sl (sq sl sl))
def Li:PX 145 Lh:=⟨_,by conv=>lhs;reduce⟩
def FH:O2:=aY c F aZ Li.1 [x0,x1,x2] s
def aaf:=(by dsimp only[FH,Li,go_sem,Int.reduceOfNat]:FH c F x0 x1 x2 s=_)
def Gt:Sh:=(sq sl (sq sl sl))
def Gu:PX 146 Gt:=⟨_,by conv=>lhs;reduce⟩
def Be:O2:=aY c F aZ Gu.1 [x0,x1,x2] s
def Wd:=(by dsimp only[Be,Gu,go_sem,Int.reduceOfNat]:Be c F x0 x1 x2 s=_)
def Jm:Sh:=(sq sl (sq sl sl))
def Jn:PX 147 Jm:=⟨_,by conv=>lhs;reduce⟩
def CA:O2:=aY c F aZ Jn.1 [x0,x1,x2] s
def XQ:=(by dsimp only[CA,Jn,go_sem,Int.reduceOfNat]:CA c F x0 x1 x2 s=_)
def FJ:Sh:=(sq sl (sj [0,1,2] (sq sl (sc sl sl)) (sq sl sl)))
def FK:PX 148 FJ:=⟨_,by conv=>lhs;reduce⟩
def zZ:O2:=aY c F aZ FK.1 [x0,x1,x2] s
def TO:=(by dsimp only[zZ,FK,go_sem,Int.reduceOfNat]:zZ c F x0 x1 x2 s=_)
def Jo:Sh:=(sq sl (sc sl sl))
def Jp:PX 149 Jo:=⟨_,by conv=>lhs;reduce⟩
def CB:O2:=aY c F aZ Jp.1 [x0,x1,x2] s
def Il:=(by dsimp only[CB,Jp,go_sem,Int.reduceOfNat]:CB c F x0 x1 x2 s=_)
def Gv:Sh:=(sq sl (sc sl sl))
def Gw:PX 150 Gv:=⟨_,by conv=>lhs;reduce⟩
def Bf:O2:=aY c F aZ Gw.1 [x0,x1,x2] s
def FZ:=(by dsimp only[Bf,Gw,go_sem,Int.reduceOfNat]:Bf c F x0 x1 x2 s=_)
def Lj:Sh:=(sq sl (sq sl sl))
def Ll:PX 151 Lj:=⟨_,by conv=>lhs;reduce⟩
def FL:O2:=aY c F aZ Ll.1 [x0,x1,x2] s
def aaj:=(by dsimp only[FL,Ll,go_sem,Int.reduceOfNat]:FL c F x0 x1 x2 s=_)
end
section
variable{c:aj}(hc:bw c)(F:Nat){x0 x1 x2 x3 x4 x5 x6 x7 x8 x9 F6 Ng:AV}{s:St}{r:AV×St}
include hc
theorem P9(h:tS c F x0 s=some r):c 4 [x0] s=some (tidy s r):=hc.o0 F E0 (by kernel_rfl) (by kernel_rfl) h
theorem N7(h:yh c F x0 x1 s=some r):c 5 [x0,x1] s=some (tidy s r):=hc.o1 F (vI c F) vH (by kernel_rfl) (by kernel_rfl) (λ_ _ _=>by kernel_rfl) (λ_ _ _ _=>by kernel_rfl) (by kernel_rfl) h
theorem T7(h:Cr c F x0 x1 s=some r):c 6 [x0,x1] s=some (tidy s r):=hc.o0 F IQ (by kernel_rfl) (by kernel_rfl) h
theorem Rq(h:AT c F x0 x1 x2 s=some r):c 11 [x0,x1,x2] s=some (tidy s r):=hc.o0 F Gh (by kernel_rfl) (by kernel_rfl) h
theorem T8(h:Cs c F x0 x1 x2 s=some r):c 12 [x0,x1,x2] s=some (tidy s r):=hc.o0 F IV (by kernel_rfl) (by kernel_rfl) h
theorem R8(h:nQ c F x0 s=some r):c 14 [x0] s=some (tidy s r):=hc.oL F (yj c F) oI 3 (by kernel_rfl) (λi hi=>match i,hi with|0,_=>cW 0 (by kernel_rfl) (λ_ _ _=>by kernel_rfl) (λ_ _ _ _=>by kernel_rfl)|1,_=>cW 1 (by kernel_rfl) (λ_ _ _=>by kernel_rfl) (λ_ _ _ _=>by kernel_rfl)|2,_=>cW 2 (by kernel_rfl) (λ_ _ _=>by kernel_rfl) (λ_ _ _ _=>by kernel_rfl)|n+3,h=>absurd h (by omega)) (by kernel_rfl) h
theorem MK(h:wU c F x0 s=some r):c 16 [x0] s=some (tidy s r):=hc.o1 F (uA c F) uz (by kernel_rfl) (by kernel_rfl) (λ_ _ _=>by kernel_rfl) (λ_ _ _ _=>by kernel_rfl) (by kernel_rfl) h
theorem Wo(h:Fb c F x0 x1 s=some r):c 17 [x0,x1] s=some (tidy s r):=hc.o0 F KR (by kernel_rfl) (by kernel_rfl) h
theorem Bo(h:zQ c F x0 x1 s=some r):c 18 [x0,x1] s=some (tidy s r):=hc.o1 F (wX c F) wW (by kernel_rfl) (by kernel_rfl) (λ_ _ _=>by kernel_rfl) (λ_ _ _ _=>by kernel_rfl) (by kernel_rfl) h
theorem xZ(h:Fe c F x0 x1 s=some r):c 19 [x0,x1] s=some (tidy s r):=hc.o1 F (AW c F) AU (by kernel_rfl) (by kernel_rfl) (λ_ _ _=>by kernel_rfl) (λ_ _ _ _=>by kernel_rfl) (by kernel_rfl) h
theorem T4(h:Ct c F x0 x1 s=some r):c 32 [x0,x1] s=some (tidy s r):=hc.o0 F IY (by kernel_rfl) (by kernel_rfl) h
theorem Wm(h:Ff c F x0 x1 s=some r):c 33 [x0,x1] s=some (tidy s r):=hc.o1 F (AY c F) AX (by kernel_rfl) (by kernel_rfl) (λ_ _ _=>by kernel_rfl) (λ_ _ _ _=>by kernel_rfl) (by kernel_rfl) h
theorem Qg(h:zR c F x0 x1 s=some r):c 37 [x0,x1] s=some (tidy s r):=hc.o1 F (wZ c F) wY (by kernel_rfl) (by kernel_rfl) (λ_ _ _=>by kernel_rfl) (λ_ _ _ _=>by kernel_rfl) (by kernel_rfl) h
theorem R4(h:AZ c F x0 s=some r):c 38 [x0] s=some (tidy s r):=hc.o0 F Gk (by kernel_rfl) (by kernel_rfl) h
theorem R7(h:A0 c F x0 x1 s=some r):c 39 [x0,x1] s=some (tidy s r):=hc.oL F (yl c F) kP 4 (by kernel_rfl) (λi hi=>match i,hi with|0,_=>cW 0 (by kernel_rfl) (λ_ _ _=>by kernel_rfl) (λ_ _ _ _=>by kernel_rfl)|1,_=>cW 1 (by kernel_rfl) (λ_ _ _=>by kernel_rfl) (λ_ _ _ _=>by kernel_rfl)|2,_=>cW 2 (by kernel_rfl) (λ_ _ _=>by kernel_rfl) (λ_ _ _ _=>by kernel_rfl)|3,_=>cW 3 (by kernel_rfl) (λ_ _ _=>by kernel_rfl) (λ_ _ _ _=>by kernel_rfl)|n+4,h=>absurd h (by omega)) (by kernel_rfl) h
theorem Qi(h:mH c F x0 x1 s=some r):c 40 [x0,x1] s=some (tidy s r):=hc.o0 F Fo (by kernel_rfl) (by kernel_rfl) h
theorem TY(h:EO c F x0 s=some r):c 56 [x0] s=some (tidy s r):=hc.o0 F Kt (by kernel_rfl) (by kernel_rfl) h
theorem yJ(h:vJ c F x0 x1 s=some r):c 57 [x0,x1] s=some (tidy s r):=hc.o1 F (sZ c F) sY (by kernel_rfl) (by kernel_rfl) (λ_ _ _=>by kernel_rfl) (λ_ _ _ _=>by kernel_rfl) (by kernel_rfl) h
theorem PZ(h:zU c F x0 x1 x2 s=some r):c 65 [x0,x1,x2] s=some (tidy s r):=hc.o0 F Fq (by kernel_rfl) (by kernel_rfl) h
theorem RY(h:A3 c F x0 s=some r):c 68 [x0] s=some (tidy s r):=hc.o0 F Gn (by kernel_rfl) (by kernel_rfl) h
theorem Ob(h:ym c F x0 s=some r):c 69 [x0] s=some (tidy s r):=hc.o0 F Dv (by kernel_rfl) (by kernel_rfl) h
theorem Qh(h:zV c F x0 x1 s=some r):c 70 [x0,x1] s=some (tidy s r):=hc.o1 F (xe c F) w9 (by kernel_rfl) (by kernel_rfl) (λ_ _ _=>by kernel_rfl) (λ_ _ _ _=>by kernel_rfl) (by kernel_rfl) h
theorem V8(h:Fu c F x0 x1 x2 s=some r):c 77 [x0,x1,x2] s=some (tidy s r):=hc.o0 F KV (by kernel_rfl) (by kernel_rfl) h
theorem MC(h:xj c F x0 x1 x2 s=some r):c 78 [x0,x1,x2] s=some (tidy s r):=hc.o0 F BK (by kernel_rfl) (by kernel_rfl) h
theorem MD(h:xk c F x0 x1 x2 s=some r):c 79 [x0,x1,x2] s=some (tidy s r):=hc.o0 F BN (by kernel_rfl) (by kernel_rfl) h
theorem TG(h:Cu c F x0 x1 x2 s=some r):c 80 [x0,x1,x2] s=some (tidy s r):=hc.o0 F I3 (by kernel_rfl) (by kernel_rfl) h
theorem PW(h:zW c F x0 x1 x2 s=some r):c 81 [x0,x1,x2] s=some (tidy s r):=hc.o0 F Fv (by kernel_rfl) (by kernel_rfl) h
theorem ab2(h:NR c F x0 x1 x2 s=some r):c 82 [x0,x1,x2] s=some (tidy s r):=hc.o0 F Sk (by kernel_rfl) (by kernel_rfl) h
theorem XX(h:Hy c F x0 x1 x2 s=some r):c 83 [x0,x1,x2] s=some (tidy s r):=hc.o1 F (Cw c F) Cv (by kernel_rfl) (by kernel_rfl) (λ_ _ _=>by kernel_rfl) (λ_ _ _ _=>by kernel_rfl) (by kernel_rfl) h
theorem N6(h:yo c F x0 x1 x2 s=some r):c 84 [x0,x1,x2] s=some (tidy s r):=hc.o0 F Dy (by kernel_rfl) (by kernel_rfl) h
theorem X6(h:Hz c F x0 x1 x2 s=some r):c 85 [x0,x1,x2] s=some (tidy s r):=hc.o0 F NT (by kernel_rfl) (by kernel_rfl) h
theorem Wh(h:Fx c F x0 x1 x2 s=some r):c 86 [x0,x1,x2] s=some (tidy s r):=hc.o1 F (A5 c F) A4 (by kernel_rfl) (by kernel_rfl) (λ_ _ _=>by kernel_rfl) (λ_ _ _ _=>by kernel_rfl) (by kernel_rfl) h
theorem Wj(h:Fy c F x0 x1 x2 s=some r):c 87 [x0,x1,x2] s=some (tidy s r):=hc.oL F (A7 c F) qz 3 (by kernel_rfl) (λi hi=>match i,hi with|0,_=>cW 0 (by kernel_rfl) (λ_ _ _=>by kernel_rfl) (λ_ _ _ _=>by kernel_rfl)|1,_=>cW 1 (by kernel_rfl) (λ_ _ _=>by kernel_rfl) (λ_ _ _ _=>by kernel_rfl)|2,_=>cW 2 (by kernel_rfl) (λ_ _ _=>by kernel_rfl) (λ_ _ _ _=>by kernel_rfl)|n+3,h=>absurd h (by omega)) (by kernel_rfl) h
theorem We(h:Fz c F x0 x1 x2 s=some r):c 88 [x0,x1,x2] s=some (tidy s r):=hc.o0 F K8 (by kernel_rfl) (by kernel_rfl) h
theorem Rk(h:A8 c F x0 x1 x2 s=some r):c 89 [x0,x1,x2] s=some (tidy s r):=hc.oL F (yp c F) sg 2 (by kernel_rfl) (λi hi=>match i,hi with|0,_=>cW 0 (by kernel_rfl) (λ_ _ _=>by kernel_rfl) (λ_ _ _ _=>by kernel_rfl)|1,_=>cW 1 (by kernel_rfl) (λ_ _ _=>by kernel_rfl) (λ_ _ _ _=>by kernel_rfl)|n+2,h=>absurd h (by omega)) (by kernel_rfl) h
theorem TP(h:Cx c F x0 x1 x2 s=some r):c 90 [x0,x1,x2] s=some (tidy s r):=hc.o0 F Je (by kernel_rfl) (by kernel_rfl) h
theorem X7(h:HA c F x0 x1 x2 s=some r):c 91 [x0,x1,x2] s=some (tidy s r):=hc.o0 F NV (by kernel_rfl) (by kernel_rfl) h
theorem Wk(h:FD c F x0 x1 x2 s=some r):c 92 [x0,x1,x2] s=some (tidy s r):=hc.o0 F La (by kernel_rfl) (by kernel_rfl) h
theorem Rm(h:A9 c F x0 x1 x2 s=some r):c 93 [x0,x1,x2] s=some (tidy s r):=hc.o1 F (yu c F) yq (by kernel_rfl) (by kernel_rfl) (λ_ _ _=>by kernel_rfl) (λ_ _ _ _=>by kernel_rfl) (by kernel_rfl) h
theorem aak(h:JS c F x0 x1 x2 s=some r):c 94 [x0,x1,x2] s=some (tidy s r):=hc.o0 F Pj (by kernel_rfl) (by kernel_rfl) h
theorem XV(h:HC c F x0 x1 s=some r):c 138 [x0,x1] s=some (tidy s r):=hc.o0 F NX (by kernel_rfl) (by kernel_rfl) h
theorem aag(h:JU c F x0 x1 x2 s=some r):c 139 [x0,x1,x2] s=some (tidy s r):=hc.o0 F Pm (by kernel_rfl) (by kernel_rfl) h
theorem VY(h:FF c F x0 x1 x2 x3 s=some r):c 140 [x0,x1,x2,x3] s=some (tidy s r):=hc.o1 F (Bb c F) Ba (by kernel_rfl) (by kernel_rfl) (λ_ _ _=>by kernel_rfl) (λ_ _ _ _=>by kernel_rfl) (by kernel_rfl) h
theorem V9(h:FG c F x0 x1 x2 x3 s=some r):c 141 [x0,x1,x2,x3] s=some (tidy s r):=hc.oL F (Bc c F) uO 2 (by kernel_rfl) (λi hi=>match i,hi with|0,_=>cW 0 (by kernel_rfl) (λ_ _ _=>by kernel_rfl) (λ_ _ _ _=>by kernel_rfl)|1,_=>cW 1 (by kernel_rfl) (λ_ _ _=>by kernel_rfl) (λ_ _ _ _=>by kernel_rfl)|n+2,h=>absurd h (by omega)) (by kernel_rfl) h
theorem Lx(h:vK c F x0 x1 x2 s=some r):c 142 [x0,x1,x2] s=some (tidy s r):=hc.o0 F AG (by kernel_rfl) (by kernel_rfl) h
theorem X5(h:HD c F x0 x1 x2 s=some r):c 143 [x0,x1,x2] s=some (tidy s r):=hc.oL F (Cy c F) xq 2 (by kernel_rfl) (λi hi=>match i,hi with|0,_=>cW 0 (by kernel_rfl) (λ_ _ _=>by kernel_rfl) (λ_ _ _ _=>by kernel_rfl)|1,_=>cW 1 (by kernel_rfl) (λ_ _ _=>by kernel_rfl) (λ_ _ _ _=>by kernel_rfl)|n+2,h=>absurd h (by omega)) (by kernel_rfl) h
theorem TV(h:Cz c F x0 x1 x2 s=some r):c 144 [x0,x1,x2] s=some (tidy s r):=hc.o1 F (zY c F) zX (by kernel_rfl) (by kernel_rfl) (λ_ _ _=>by kernel_rfl) (λ_ _ _ _=>by kernel_rfl) (by kernel_rfl) h
theorem VZ(h:FH c F x0 x1 x2 s=some r):c 145 [x0,x1,x2] s=some (tidy s r):=hc.o0 F Lh (by kernel_rfl) (by kernel_rfl) h
theorem Ri(h:Be c F x0 x1 x2 s=some r):c 146 [x0,x1,x2] s=some (tidy s r):=hc.o0 F Gt (by kernel_rfl) (by kernel_rfl) h
theorem TE(h:CA c F x0 x1 x2 s=some r):c 147 [x0,x1,x2] s=some (tidy s r):=hc.o0 F Jm (by kernel_rfl) (by kernel_rfl) h
theorem PY(h:zZ c F x0 x1 x2 s=some r):c 148 [x0,x1,x2] s=some (tidy s r):=hc.o0 F FJ (by kernel_rfl) (by kernel_rfl) h
theorem TU(h:CB c F x0 x1 x2 s=some r):c 149 [x0,x1,x2] s=some (tidy s r):=hc.o0 F Jo (by kernel_rfl) (by kernel_rfl) h
theorem Ro(h:Bf c F x0 x1 x2 s=some r):c 150 [x0,x1,x2] s=some (tidy s r):=hc.o0 F Gv (by kernel_rfl) (by kernel_rfl) h
theorem Wc(h:FL c F x0 x1 x2 s=some r):c 151 [x0,x1,x2] s=some (tidy s r):=hc.o0 F Lj (by kernel_rfl) (by kernel_rfl) h
end
end
end Go.Proofs.YtmldijpopgaaeaaGreatDoor
section
end
namespace Go.Proofs.YtmldijpopgaaeaaGreatDoor
noncomputable section
open Go Go.Ai Go.Proofs
attribute [local go_sem ↓] aY uK ev evX CW getLT Af PJ XK yE yF Mx H9 Ia Ib CX CY CZ C8 C9 Da Ic Ie Db Dc Dd De Df OE OG OH
attribute [local go_sem] aY uK ev
section
variable(c:aj)(F:Nat)(x0 x1 x2 x3 x4 x5 x6 x7 x8 x9 F6 Ng:AV)(s:St)
def Po:Sh:=(sq sl (sq (sc (sq sl (sq sl sl)) sl) (sq sl (sq sl sl))))
def Pp:PX 113 Po:=⟨_,by conv=>lhs;reduce⟩
def JV:O2:=aY c F aZ Pp.1 [x0,x1] s
def adu:=(by dsimp only[JV,Pp,go_sem,Int.reduceOfNat]:JV c F x0 x1 s=_)
def Lm:Sh:=(sq sl (sq sl (sq sl (sq sl (sq sl (sq sl (sq sl (sq sl (sq sl (sq sl (sq sl (sq sl sl))))))))))))
def Ln:PX 163 Lm:=⟨_,by conv=>lhs;reduce⟩
def FM:O2:=aY c F aZ Ln.1 [x0,x1] s
def aap:=(by dsimp only[FM,Ln,go_sem,Int.reduceOfNat]:FM c F x0 x1 s=_)
end
section
variable{c:aj}(hc:bw c)(F:Nat){x0 x1 x2 x3 x4 x5 x6 x7 x8 x9 F6 Ng:AV}{s:St}{r:AV×St}
include hc
theorem aaq(h:JV c F x0 x1 s=some r):c 113 [x0,x1] s=some (tidy s r):=hc.o0 F Po (by kernel_rfl) (by kernel_rfl) h
theorem Wl(h:FM c F x0 x1 s=some r):c 163 [x0,x1] s=some (tidy s r):=hc.o0 F Lm (by kernel_rfl) (by kernel_rfl) h
end
attribute [local go_sem ↓] aY uK ev evX CW getLT Af PJ XK yE yF Mx H9 Ia Ib CX CY CZ C8 C9 Da Ic Ie Db Dc Dd De Df OE OG OH
attribute [local go_sem] aY uK ev
section
variable(c:aj)(F:Nat)(x0 x1 x2 x3 x4 x5 x6 x7 x8 x9 F6 Ng:AV)(s:St)
def Jq:Sh:=(sq sl (sq sl (sq (sq sl (sc (sq sl sl) sl)) (sq sl (sq sl (sq sl (sq sl sl)))))))
def Jr:PX 13 Jq:=⟨_,by conv=>lhs;reduce⟩
def CC:O2:=aY c F aZ Jr.1 [x0,x1,x2] s
def Yi:=(by dsimp only[CC,Jr,go_sem,Int.reduceOfNat]:CC c F x0 x1 x2 s=_)
def FN:Sh:=sl
def FO:PX 34 FN:=⟨_,by conv=>lhs;reduce⟩
def z8:O2:=aY c F aZ FO.1 [x0,x1,x2] s
def Uf:=(by dsimp only[z8,FO,go_sem,Int.reduceOfNat]:z8 c F x0 x1 x2 s=_)
end
section
variable{c:aj}(hc:bw c)(F:Nat){x0 x1 x2 x3 x4 x5 x6 x7 x8 x9 F6 Ng:AV}{s:St}{r:AV×St}
include hc
theorem MO(h:yf c F x0 s=some r):c 8 [x0] s=some (tidy s r):=hc.o1 F (vF c F) vE (by kernel_rfl) (by kernel_rfl) (λ_ _ _=>by kernel_rfl) (λ_ _ _ _=>by kernel_rfl) (by kernel_rfl) h
theorem Uh(h:CC c F x0 x1 x2 s=some r):c 13 [x0,x1,x2] s=some (tidy s r):=hc.o0 F Jq (by kernel_rfl) (by kernel_rfl) h
theorem Qa(h:z8 c F x0 x1 x2 s=some r):c 34 [x0,x1,x2] s=some (tidy s r):=hc.o0 F FN (by kernel_rfl) (by kernel_rfl) h
end
attribute [local go_sem ↓] aY uK ev evX CW getLT Af PJ XK yE yF Mx H9 Ia Ib CX CY CZ C8 C9 Da Ic Ie Db Dc Dd De Df OE OG OH
attribute [local go_sem] aY uK ev
section
variable(c:aj)(F:Nat)(x0 x1 x2 x3 x4 x5 x6 x7 x8 x9 F6 Ng:AV)(s:St)
def Bg:Sh:=(sq sl (sq (sq sl (sb (sp 0 [0,1,5] [(1,[4]),(2,[])] (sq (sq sl (sc sl sl)) (sq (sb (sq sl (sc (sq sl sl) sl))) sl))))) (sq sl sl)))
def Lo:PX 10 Bg:=⟨_,by conv=>lhs;reduce⟩
def Js:PL 10 Bg 0:=⟨_,by conv=>lhs;reduce⟩
def pF(k1 k2:Q2):Nat->Q2
 |0,_,_=>none
 |n+1,vs,s=>eu c F aZ (pF k1 k2 n) [k1,k2] Js.1 vs s
def Eo(k1 k2:Q2)(n:Nat)(vs:List AV)(s:St):=(by dsimp only[pF,Js,go_sem,Int.reduceOfNat]:pF c F k1 k2 (n+1) vs s=_)
def Bh:Un->List Q2->Nat->Q2
 |.z,[k1,k2]=>pF c F k1 k2
 |_,_=>λ_=>fI
def FP:O2:=aY c F (Bh c F) Lo.1 [x0,x1] s
def aau:=(by dsimp only[FP,Lo, ↓Bh,go_sem,Int.reduceOfNat]:FP c F x0 x1 s=_)
end
section
variable{c:aj}(hc:bw c)(F:Nat){x0 x1 x2 x3 x4 x5 x6 x7 x8 x9 F6 Ng:AV}{s:St}{r:AV×St}
include hc
theorem Wp(h:FP c F x0 x1 s=some r):c 10 [x0,x1] s=some (tidy s r):=hc.o1 F (Bh c F) Bg (by kernel_rfl) (by kernel_rfl) (λ_ _ _=>by kernel_rfl) (λ_ _ _ _=>by kernel_rfl) (by kernel_rfl) h
end
attribute [local go_sem ↓] aY uK ev evX CW getLT Af PJ XK yE yF Mx H9 Ia Ib CX CY CZ C8 C9 Da Ic Ie Db Dc Dd De Df OE OG OH
attribute [local go_sem] aY uK ev
section
variable(c:aj)(F:Nat)(x0 x1 x2 x3 x4 x5 x6 x7 x8 x9 F6 Ng:AV)(s:St)
def mM:Sh:=(sq sl (sq sl (sq (sq sl (sc (sq sl sl) sl)) (sq sl (sq (sq sl (sc (sq sl sl) sl)) (sq sl (sq (sq sl (sc (sq sl sl) sl)) (sq sl (sq sl (sq (sq sl (sb (sp 0 [9,10,12,13,14,15,16] [(1,[8]),(2,[])] (sq (sq sl (sc sl sl)) (sq (sb (sq sl (sq (sq sl (sc (sq sl sl) sl)) (sq sl (sq sl (sb (sp 1 [9,10,12,13,14,15,16,17,18,19] [(1,[8]),(4,[9,10,12,13,14,15,16])] (sq (sq sl (sc sl sl)) (sq (sb (sq sl (sc (sq sl sl) sl))) sl))))))))) sl))))) (sq sl sl)))))))))))
def yT:PX 3 mM:=⟨_,by conv=>lhs;reduce⟩
def xJ:PL 3 mM 1:=⟨_,by conv=>lhs;reduce⟩
def gh(k1 k4:Q2):Nat->Q2
 |0,_,_=>none
 |n+1,vs,s=>eu c F aZ (gh k1 k4 n) [k1,k4] xJ.1 vs s
def vg(k1 k4:Q2)(n:Nat)(vs:List AV)(s:St):=(by dsimp only[gh,xJ,go_sem,Int.reduceOfNat]:gh c F k1 k4 (n+1) vs s=_)
def xK:Un->List Q2->Nat->Q2
 |(.s .z),[k1,k4]=>gh c F k1 k4
 |_,_=>λ_=>fI
def xL:PL 3 mM 0:=⟨_,by conv=>lhs;reduce⟩
def iV(k1 k2:Q2):Nat->Q2
 |0,_,_=>none
 |n+1,vs,s=>eu c F (xK c F) (iV k1 k2 n) [k1,k2] xL.1 vs s
def vh(k1 k2:Q2)(n:Nat)(vs:List AV)(s:St):=(by dsimp only[iV,xL, ↓xK,go_sem,Int.reduceOfNat]:iV c F k1 k2 (n+1) vs s=_)
def qL:Un->List Q2->Nat->Q2
 |.z,[k1,k2]=>iV c F k1 k2
 |(.s .z),[k1,k4]=>gh c F k1 k4
 |_,_=>λ_=>fI
def oa:O2:=aY c F (qL c F) yT.1 [x0,x1,x2,x3] s
def mL:=(by dsimp only[oa,yT, ↓qL,go_sem,Int.reduceOfNat]:oa c F x0 x1 x2 x3 s=_)
end
section
variable{c:aj}(hc:bw c)(F:Nat){x0 x1 x2 x3 x4 x5 x6 x7 x8 x9 F6 Ng:AV}{s:St}{r:AV×St}
include hc
theorem Ip(h:oa c F x0 x1 x2 x3 s=some r):c 3 [x0,x1,x2,x3] s=some (tidy s r):=hc.oL F (qL c F) mM 2 (by kernel_rfl) (λi hi=>match i,hi with|0,_=>cW 0 (by kernel_rfl) (λ_ _ _=>by kernel_rfl) (λ_ _ _ _=>by kernel_rfl)|1,_=>cW 1 (by kernel_rfl) (λ_ _ _=>by kernel_rfl) (λ_ _ _ _=>by kernel_rfl)|n+2,h=>absurd h (by omega)) (by kernel_rfl) h
end
end
end Go.Proofs.YtmldijpopgaaeaaGreatDoor
