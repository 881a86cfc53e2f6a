/- Functions, plainly. -/
import Derived.Test.YtgihekklfnjkiaaGreatDoorTWalk
set_option linter.all false
set_option linter.unusedSectionVars false
set_option linter.deprecated false
namespace Go.Proofs.YtgihekklfnjkiaaGreatDoor
noncomputable section
open Go Go.Ai Go.Proofs
def Pc:eV:=vW [(246,F0),(14,YV)]
def Sem(c:au):Prop:=c=run Pc gg
def gA(f:Nat):dO:=yj gg f
abbrev PX(f:Nat)(s:Sh):={a:Tx // txF (gA f) s=a}
abbrev PL(f:Nat)(s:Sh)(i:Nat):={a:List Pos×Tx // txL (iy (gA f) s i)=a}
theorem Sem.o0{c:au}(hc:Sem c)(F:Nat){f:FuncId}{args:List AV}{st:St}{r:AV×St}(s:Sh)(hk:(Al (Pc f)&& !Al (gg.get (key f))&&(fQ (gA f).code s).isEmpty)=true)
  {k:O2} (hd:II c F (agb []) (gA f) s args st=k) (h:k=some r):c f args st=some (tidy st r):=by
 subst hc;exact ake s hk hd h
theorem Sem.o1{c:au}(hc:Sem c)(F:Nat){f:FuncId}{args:List AV}{st:St}{r:AV×St}(Ls:Un->List Q2->Nat->Q2)(s:Sh)(hk:(Al (Pc f)&& !Al (gg.get (key f))&&Nat.beq (fQ (gA f).code s).length 1)=true)
  (hs:(adC (iy (gA f) s 0).2&&Nat.beq (lpJ (iy (gA f) s 0).2) 0)=true) (h0:∀K' vs st,tT Ls (gA f) s 0 K' 0 vs st=none)
  (h1:∀K' n vs st,tT Ls (gA f) s 0 K' (n+1) vs st=Qm (den c F (tT Ls (gA f) s) (iy (gA f) s 0).1 (lpB (iy (gA f) s 0).2)) (lpI (iy (gA f) s 0).2) (lpO (iy (gA f) s 0).2) K' (tT Ls (gA f) s 0 K' n) vs st)
  {k:O2} (hd:II c F (tT Ls (gA f) s) (gA f) s args st=k) (h:k=some r):c f args st=some (tidy st r):=by
 subst hc;exact akf Ls s hk hs h0 h1 hd h
theorem Sem.oL{c:au}(hc:Sem c)(F:Nat){f:FuncId}{args:List AV}{st:St}{r:AV×St}(Ls:Un->List Q2->Nat->Q2)(s:Sh)(n:Nat)(hk:(Al (Pc f)&& !Al (gg.get (key f))&&Nat.beq (fQ (gA f).code s).length n)=true)
  (hL:∀i,i<n->Dt c F (tT Ls (gA f) s) (iy (gA f) s i).1 (iy (gA f) s i).2) {k:O2} (hd:II c F (tT Ls (gA f) s) (gA f) s args st=k) (h:k=some r):c f args st=some (tidy st r):=by
 subst hc;exact adL Ls s n hk hL hd h
end
noncomputable section
set_option linter.all false
set_option maxRecDepth 100000
set_option maxHeartbeats 4000000
open Go Go.Ai Go.Proofs
attribute [local go_sem ↓] aZ GW ev evX Ht getLT GV aa3 kat DC DD WT WU WV WW Qq Qr Qt Qu Qv Qw WY WZ Qx Qy Qz QC QD acq acs acu
attribute [local go_sem] aZ GW ev
section
variable(c : au)(F : Nat)(x0 x1 x2 x3 x4 x5 x6 x7 x8 x9 x10 x11 : AV)(s : St)
def MG:Sh:=(sq sl (sq (sq sl (sq sl (sc (sq sl sl) sl))) (sq sl sl)))
def MH:PX 16 MG:=⟨_,by conv=>lhs;reduce⟩
def Gv:O2:=aZ c F aX MH.1 [x0,x1] s
def Mo:=(by dsimp only[Gv,MH,go_sem,Int.reduceOfNat]:Gv c F x0 x1 s=_)
def MI:Sh:=(sq sl (sq (sq sl (sq sl (sc (sq sl sl) sl))) (sq (sq sl (sq sl (sc (sq sl sl) sl))) (sq (sq sl (sc (sq sl sl) sl)) (sq (sq sl (sb (sp 0 [1,47,48,49] [(1,[2,3]),(2,[1])] (sq sl (sq (sc sl sl) (sq (sb (sq sl (sq sl (sc (sq sl sl) sl)))) sl)))))) (sq (sq sl (sc (sq sl sl) sl)) (sq sl sl)))))))
def XV:PX 49 MI:=⟨_,by conv=>lhs;reduce⟩
def UD:PL 49 MI 0:=⟨_,by conv=>lhs;reduce⟩
def sK(k1 k2:Q2):Nat->Q2
 |0,_,_=>none
 |n+1,vs,s=>dL c F aX (sK k1 k2 n) [k1,k2] UD.1 vs s
def Oi(k1 k2:Q2)(n:Nat)(vs:List AV)(s:St):=(by dsimp only[sK,UD,go_sem,Int.reduceOfNat]:sK c F k1 k2 (n+1) vs s=_)
def MJ:Un->List Q2->Nat->Q2
 | .z,[k1,k2]=>sK c F k1 k2
 |_,_=>λ_=>eP
def TJ:O2:=aZ c F (MJ c F) XV.1 [x0] s
def aif:=(by dsimp only[TJ,XV, ↓MJ,go_sem,Int.reduceOfNat]:TJ c F x0 s=_)
def XW:Sh:=(sq sl (sq sl sl))
def XX:PX 50 XW:=⟨_,by conv=>lhs;reduce⟩
def TM:O2:=aZ c F aX XX.1 [] s
def aik:=(by dsimp only[TM,XX,go_sem,Int.reduceOfNat]:TM c F s=_)
def Jq:Sh:=(sq sl (sj [3,4,5] (sb (sq sl (sc (sq sl sl) (sq sl (sc (sq sl sl) (sq sl (sc (sq sl sl) (sj [3,4,5,28] (sq sl (sc sl (sq sl (sc sl sl)))) (sc (sq sl sl) (sq sl (sc (sq sl sl) (sq sl (sc (sq sl sl) sl))))))))))))) (sq sl (sq (sq sl (sc (sq sl sl) sl)) (sq sl (sj [3,5,9] (sq sl (sc sl sl)) (sq (sq sl (sc (sq sl sl) sl)) (sq sl sl))))))))
def Jr:PX 51 Jq:=⟨_,by conv=>lhs;reduce⟩
def DY:O2:=aZ c F aX Jr.1 [x0,x1,x2] s
def ZC:=(by dsimp only[DY,Jr,go_sem,Int.reduceOfNat]:DY c F x0 x1 x2 s=_)
def MK:Sh:=(sq sl (sq (sq sl (sq sl (sc (sq sl sl) sl))) (sq sl (sq (sq sl (sb (sp 0 [1,6,21,22,23] [(1,[2,3]),(2,[])] (sq sl (sq (sc sl sl) (sq (sb (sq sl (sq (sq sl (sq sl (sc (sq sl sl) sl))) (sq sl (sc (sq sl sl) sl))))) sl)))))) (sq sl sl)))))
def XY:PX 56 MK:=⟨_,by conv=>lhs;reduce⟩
def UE:PL 56 MK 0:=⟨_,by conv=>lhs;reduce⟩
def xw(k1 k2:Q2):Nat->Q2
 |0,_,_=>none
 |n+1,vs,s=>dL c F aX (xw k1 k2 n) [k1,k2] UE.1 vs s
def DS(k1 k2:Q2)(n:Nat)(vs:List AV)(s:St):=(by dsimp only[xw,UE,go_sem,Int.reduceOfNat]:xw c F k1 k2 (n+1) vs s=_)
def ML:Un->List Q2->Nat->Q2
 | .z,[k1,k2]=>xw c F k1 k2
 |_,_=>λ_=>eP
def TN:O2:=aZ c F (ML c F) XY.1 [x0] s
def XD:=(by dsimp only[TN,XY, ↓ML,go_sem,Int.reduceOfNat]:TN c F x0 s=_)
def MM:Sh:=(sq sl (sq (sq sl (sc (sq sl sl) sl)) (sq sl (sq (sq sl (sb (sp 0 [5,23,24,25] [(2,[5])] (sq sl (sq (sc sl sl) (sq (sb (sq sl sl)) sl)))))) (sq sl sl)))))
def XZ:PX 58 MM:=⟨_,by conv=>lhs;reduce⟩
def UF:PL 58 MM 0:=⟨_,by conv=>lhs;reduce⟩
def xq(k2:Q2):Nat->Q2
 |0,_,_=>none
 |n+1,vs,s=>dL c F aX (xq k2 n) [k2] UF.1 vs s
def DK(k2:Q2)(n:Nat)(vs:List AV)(s:St):=(by dsimp only[xq,UF,go_sem,Int.reduceOfNat]:xq c F k2 (n+1) vs s=_)
def MN:Un->List Q2->Nat->Q2
 | .z,[k2]=>xq c F k2
 |_,_=>λ_=>eP
def TO:O2:=aZ c F (MN c F) XZ.1 [x0,x1] s
def Xy:=(by dsimp only[TO,XZ, ↓MN,go_sem,Int.reduceOfNat]:TO c F x0 x1 s=_)
def X0:Sh:=(sq sl (sq (sq sl (sc (sq sl sl) sl)) (sq sl sl)))
def X4:PX 59 X0:=⟨_,by conv=>lhs;reduce⟩
def TP:O2:=aZ c F aX X4.1 [x0] s
def ah5:=(by dsimp only[TP,X4,go_sem,Int.reduceOfNat]:TP c F x0 s=_)
def DZ:Sh:=(sq sl (sq sl (sq (sq sl (sb (sp 0 [1,5,14,15,16] [(1,[2,3,4]),(2,[1,5])] (sq sl (sq (sc sl sl) (sq (sb (sq sl (sq sl (sq sl (sc (sq sl sl) sl))))) sl)))))) (sq (sq sl (sb (sp 1 [1,5,30,31,32] [(1,[2,3,4]),(4,[5])] (sq sl (sq (sc sl sl) (sj [1,5,30,31,32] (sb (sq sl (sq sl (sj [1,5,9,11,30,31,32] (sq sl (sc sl sl)) (sq sl (sc (sq sl sl) sl)))))) sl)))))) (sq sl sl)))))
def X5:PX 68 DZ:=⟨_,by conv=>lhs;reduce⟩
def UG:PL 68 DZ 1:=⟨_,by conv=>lhs;reduce⟩
def ni(k1 k4:Q2):Nat->Q2
 |0,_,_=>none
 |n+1,vs,s=>dL c F aX (ni k1 k4 n) [k1,k4] UG.1 vs s
def yy(k1 k4:Q2)(n:Nat)(vs:List AV)(s:St):=(by dsimp only[ni,UG,go_sem,Int.reduceOfNat]:ni c F k1 k4 (n+1) vs s=_)
def UH:PL 68 DZ 0:=⟨_,by conv=>lhs;reduce⟩
def kV(k1 k2:Q2):Nat->Q2
 |0,_,_=>none
 |n+1,vs,s=>dL c F aX (kV k1 k2 n) [k1,k2] UH.1 vs s
def yx(k1 k2:Q2)(n:Nat)(vs:List AV)(s:St):=(by dsimp only[kV,UH,go_sem,Int.reduceOfNat]:kV c F k1 k2 (n+1) vs s=_)
def MO:Un->List Q2->Nat->Q2
 | .z,[k1,k2]=>kV c F k1 k2
 |(.s .z),[k1,k4]=>ni c F k1 k4
 |_,_=>λ_=>eP
def DP:O2:=aZ c F (MO c F) X5.1 [x0] s
def aic:=(by dsimp only[DP,X5, ↓MO,go_sem,Int.reduceOfNat]:DP c F x0 s=_)
def D0:Sh:=(sq sl (sq (sq sl (sc (sq sl sl) sl)) (sq (sq sl (sb (sp 0 [0,10,11,12] [(1,[2,3]),(2,[])] (sq sl (sq (sc sl sl) (sq (sb (sq sl (sq (sq sl (sq sl (sc (sq sl sl) sl))) (sq sl (sc (sq sl sl) sl))))) sl)))))) (sq sl sl))))
def Ox:PX 88 D0:=⟨_,by conv=>lhs;reduce⟩
def MP:PL 88 D0 0:=⟨_,by conv=>lhs;reduce⟩
def qO(k1 k2:Q2):Nat->Q2
 |0,_,_=>none
 |n+1,vs,s=>dL c F aX (qO k1 k2 n) [k1,k2] MP.1 vs s
def zh(k1 k2:Q2)(n:Nat)(vs:List AV)(s:St):=(by dsimp only[qO,MP,go_sem,Int.reduceOfNat]:qO c F k1 k2 (n+1) vs s=_)
def D4:Un->List Q2->Nat->Q2
 | .z,[k1,k2]=>qO c F k1 k2
 |_,_=>λ_=>eP
def I3:O2:=aZ c F (D4 c F) Ox.1 [x0] s
def Og:=(by dsimp only[I3,Ox, ↓D4,go_sem,Int.reduceOfNat]:I3 c F x0 s=_)
def Js:Sh:=(sq sl (sq sl (sq sl sl)))
def Ju:PX 89 Js:=⟨_,by conv=>lhs;reduce⟩
def D5:O2:=aZ c F aX Ju.1 [x0] s
def ZA:=(by dsimp only[D5,Ju,go_sem,Int.reduceOfNat]:D5 c F x0 s=_)
def Jv:Sh:=(sq sl (sq sl sl))
def Jw:PX 108 Jv:=⟨_,by conv=>lhs;reduce⟩
def D6:O2:=aZ c F aX Jw.1 [x0,x1] s
def ZB:=(by dsimp only[D6,Jw,go_sem,Int.reduceOfNat]:D6 c F x0 x1 s=_)
def ada:Sh:=(sq sl (sq sl sl))
def adb:PX 109 ada:=⟨_,by conv=>lhs;reduce⟩
def abC:O2:=aZ c F aX adb.1 [x0,x1] s
def alX:=(by dsimp only[abC,adb,go_sem,Int.reduceOfNat]:abC c F x0 x1 s=_)
def Pq:Sh:=(sq sl (sq (sq sl (sc (sq sl sl) sl)) (sq (sq sl (sb (sp 0 [0,13,14] [(1,[2]),(2,[])] (sq sl (sq (sc sl sl) (sq (sb (sq sl (sq sl (sc (sq sl sl) sl)))) sl)))))) (sq sl sl))))
def aal:PX 110 Pq:=⟨_,by conv=>lhs;reduce⟩
def X6:PL 110 Pq 0:=⟨_,by conv=>lhs;reduce⟩
def uM(k1 k2:Q2):Nat->Q2
 |0,_,_=>none
 |n+1,vs,s=>dL c F aX (uM k1 k2 n) [k1,k2] X6.1 vs s
def QU(k1 k2:Q2)(n:Nat)(vs:List AV)(s:St):=(by dsimp only[uM,X6,go_sem,Int.reduceOfNat]:uM c F k1 k2 (n+1) vs s=_)
def Pr:Un->List Q2->Nat->Q2
 | .z,[k1,k2]=>uM c F k1 k2
 |_,_=>λ_=>eP
def X7:O2:=aZ c F (Pr c F) aal.1 [x0] s
def ajq:=(by dsimp only[X7,aal, ↓Pr,go_sem,Int.reduceOfNat]:X7 c F x0 s=_)
def aam:Sh:=(sq sl (sq sl (sq (sq sl (sc (sq sl sl) sl)) (sq sl sl))))
def aan:PX 111 aam:=⟨_,by conv=>lhs;reduce⟩
def X9:O2:=aZ c F aX aan.1 [x0,x1] s
def ajt:=(by dsimp only[X9,aan,go_sem,Int.reduceOfNat]:X9 c F x0 x1 s=_)
def uV:Sh:=(sq sl (sq (sq sl (sc (sq sl sl) sl)) (sq sl sl)))
def uW:PX 117 uV:=⟨_,by conv=>lhs;reduce⟩
def pz:O2:=aZ c F aX uW.1 [x0] s
def jS:=(by dsimp only[pz,uW,go_sem,Int.reduceOfNat]:pz c F x0 s=_)
def Ya:Sh:=(sq sl (sq sl (sq sl sl)))
def Yb:PX 120 Ya:=⟨_,by conv=>lhs;reduce⟩
def TQ:O2:=aZ c F aX Yb.1 [x0] s
def ah3:=(by dsimp only[TQ,Yb,go_sem,Int.reduceOfNat]:TQ c F x0 s=_)
def aao:Sh:=(sq sl (sq sl (sq (sq sl (sc (sq sl sl) sl)) (sq sl sl))))
def aap:PX 121 aao:=⟨_,by conv=>lhs;reduce⟩
def Yc:O2:=aZ c F aX aap.1 [x0] s
def ajp:=(by dsimp only[Yc,aap,go_sem,Int.reduceOfNat]:Yc c F x0 s=_)
def Oy:Sh:=(sq sl (sq (sq sl (sc (sq sl sl) sl)) (sq sl sl)))
def Oz:PX 122 Oy:=⟨_,by conv=>lhs;reduce⟩
def I6:O2:=aZ c F aX Oz.1 [x0] s
def acQ:=(by dsimp only[I6,Oz,go_sem,Int.reduceOfNat]:I6 c F x0 s=_)
def aaq:Sh:=(sq sl (sq sl sl))
def aar:PX 128 aaq:=⟨_,by conv=>lhs;reduce⟩
def Yd:O2:=aZ c F aX aar.1 [] s
def aju:=(by dsimp only[Yd,aar,go_sem,Int.reduceOfNat]:Yd c F s=_)
def MQ:Sh:=(sq sl (sq (sq sl (sc (sq sl sl) sl)) (sq (sq sl (sq sl (sc (sq sl sl) sl))) (sq (sq sl (sq sl (sc (sq sl sl) sl))) (sq (sq sl (sc (sq sl sl) sl)) (sq sl (sq sl (sq sl sl))))))))
def MR:PX 129 MQ:=⟨_,by conv=>lhs;reduce⟩
def zZ:O2:=aZ c F aX MR.1 [x0,x1] s
def wm:=(by dsimp only[zZ,MR,go_sem,Int.reduceOfNat]:zZ c F x0 x1 s=_)
def UI:Sh:=(sq sl (sq (sq sl (sq sl (sc (sq sl sl) sl))) (sq sl sl)))
def UJ:PX 130 UI:=⟨_,by conv=>lhs;reduce⟩
def Pt:O2:=aZ c F aX UJ.1 [x0,x1] s
def afJ:=(by dsimp only[Pt,UJ,go_sem,Int.reduceOfNat]:Pt c F x0 x1 s=_)
def Cb:Sh:=(sq sl (sq (sq sl (sc (sq sl sl) sl)) (sq (sq sl (sc (sq sl sl) sl)) (sq (sq sl (sb (sp 0 [0,1,2,3,30,31,32] [(1,[8]),(2,[0,1,2,3])] (sq sl (sq (sc sl sl) (sq (sb (sq sl (sq sl (sq sl (sc (sq sl sl) sl))))) sl)))))) (sq sl (sq (sq sl (sc (sq sl sl) sl)) (sq (sq sl (sc (sq sl sl) sl)) (sq sl (sq sl sl)))))))))
def MT:PX 131 Cb:=⟨_,by conv=>lhs;reduce⟩
def Jy:PL 131 Cb 0:=⟨_,by conv=>lhs;reduce⟩
def mY(k1 k2:Q2):Nat->Q2
 |0,_,_=>none
 |n+1,vs,s=>dL c F aX (mY k1 k2 n) [k1,k2] Jy.1 vs s
def xP(k1 k2:Q2)(n:Nat)(vs:List AV)(s:St):=(by dsimp only[mY,Jy,go_sem,Int.reduceOfNat]:mY c F k1 k2 (n+1) vs s=_)
def Cc:Un->List Q2->Nat->Q2
 | .z,[k1,k2]=>mY c F k1 k2
 |_,_=>λ_=>eP
def z8:O2:=aZ c F (Cc c F) MT.1 [x0,x1,x2,x3] s
def wq:=(by dsimp only[z8,MT, ↓Cc,go_sem,Int.reduceOfNat]:z8 c F x0 x1 x2 x3 s=_)
def Jz:Sh:=(sq sl (sq sl sl))
def JA:PX 136 Jz:=⟨_,by conv=>lhs;reduce⟩
def D7:O2:=aZ c F aX JA.1 [x0] s
def Zz:=(by dsimp only[D7,JA,go_sem,Int.reduceOfNat]:D7 c F x0 s=_)
def HT:Sh:=(sq sl (sq sl sl))
def HU:PX 137 HT:=⟨_,by conv=>lhs;reduce⟩
def Cd:O2:=aZ c F aX HU.1 [x0,x1,x2] s
def HN:=(by dsimp only[Cd,HU,go_sem,Int.reduceOfNat]:Cd c F x0 x1 x2 s=_)
def MU:Sh:=(sq sl (sq sl (sq sl (sq (sb (sq sl (sc (sq sl sl) (sq sl (sc (sq sl sl) sl))))) (sq (sq sl (sb (sp 0 [1,3,4,18,19,20] [(1,[2]),(3,[1])] (sq sl (sq (sc sl sl) (sq (sb (sq sl (sq (sq sl (sc (sq sl sl) sl)) sl))) sl)))))) (sq (sq sl (sc (sq sl sl) sl)) (sq sl sl)))))))
def Ye:PX 158 MU:=⟨_,by conv=>lhs;reduce⟩
def UK:PL 158 MU 0:=⟨_,by conv=>lhs;reduce⟩
def sJ(k1 k3:Q2):Nat->Q2
 |0,_,_=>none
 |n+1,vs,s=>dL c F aX (sJ k1 k3 n) [k1,k3] UK.1 vs s
def Of(k1 k3:Q2)(n:Nat)(vs:List AV)(s:St):=(by dsimp only[sJ,UK,go_sem,Int.reduceOfNat,Int.reduceNegSucc]:sJ c F k1 k3 (n+1) vs s=_)
def MV:Un->List Q2->Nat->Q2
 | .z,[k1,k3]=>sJ c F k1 k3
 |_,_=>λ_=>eP
def TR:O2:=aZ c F (MV c F) Ye.1 [x0] s
def ah0:=(by dsimp only[TR,Ye, ↓MV,go_sem,Int.reduceOfNat,Int.reduceNegSucc]:TR c F x0 s=_)
def mz:Sh:=(sq sl (sq sl sl))
def mA:PX 159 mz:=⟨_,by conv=>lhs;reduce⟩
def iL:O2:=aZ c F aX mA.1 [x0,x1] s
def vn:=(by dsimp only[iL,mA,go_sem,Int.reduceOfNat]:iL c F x0 x1 s=_)
def JB:Sh:=(sq sl (sq sl sl))
def JC:PX 160 JB:=⟨_,by conv=>lhs;reduce⟩
def D8:O2:=aZ c F aX JC.1 [x0,x1] s
def Zw:=(by dsimp only[D8,JC,go_sem,Int.reduceOfNat]:D8 c F x0 x1 s=_)
def iX:Sh:=(sq sl (sq (sq sl (sb (sp 0 [0,1,7,8] [(1,[4]),(2,[])] (sq sl (sq (sc sl sl) (sq (sb (sq sl (sq sl (sc (sq sl sl) sl)))) sl)))))) (sq sl sl)))
def nM:PX 175 iX:=⟨_,by conv=>lhs;reduce⟩
def nk:PL 175 iX 0:=⟨_,by conv=>lhs;reduce⟩
def cS(k1 k2:Q2):Nat->Q2
 |0,_,_=>none
 |n+1,vs,s=>dL c F aX (cS k1 k2 n) [k1,k2] nk.1 vs s
def mq(k1 k2:Q2)(n:Nat)(vs:List AV)(s:St):=(by dsimp only[cS,nk,go_sem,Int.reduceOfNat,Int.reduceNegSucc]:cS c F k1 k2 (n+1) vs s=_)
def iY:Un->List Q2->Nat->Q2
 | .z,[k1,k2]=>cS c F k1 k2
 |_,_=>λ_=>eP
def jM:O2:=aZ c F (iY c F) nM.1 [x0,x1] s
def xQ:=(by dsimp only[jM,nM, ↓iY,go_sem,Int.reduceOfNat,Int.reduceNegSucc]:jM c F x0 x1 s=_)
def Yf:Sh:=(sq sl (sq sl sl))
def Yg:PX 176 Yf:=⟨_,by conv=>lhs;reduce⟩
def TU:O2:=aZ c F aX Yg.1 [x0,x1] s
def aih:=(by dsimp only[TU,Yg,go_sem,Int.reduceOfNat]:TU c F x0 x1 s=_)
def iZ:Sh:=(sq sl (sq (sq sl (sb (sp 0 [0,1,7,8] [(1,[4]),(2,[])] (sq sl (sq (sc sl sl) (sq (sb (sq sl (sq sl (sc (sq sl sl) sl)))) sl)))))) (sq sl sl)))
def nO:PX 177 iZ:=⟨_,by conv=>lhs;reduce⟩
def nu:PL 177 iZ 0:=⟨_,by conv=>lhs;reduce⟩
def cQ(k1 k2:Q2):Nat->Q2
 |0,_,_=>none
 |n+1,vs,s=>dL c F aX (cQ k1 k2 n) [k1,k2] nu.1 vs s
def mo(k1 k2:Q2)(n:Nat)(vs:List AV)(s:St):=(by dsimp only[cQ,nu,go_sem,Int.reduceOfNat,Int.reduceNegSucc]:cQ c F k1 k2 (n+1) vs s=_)
def ja:Un->List Q2->Nat->Q2
 | .z,[k1,k2]=>cQ c F k1 k2
 |_,_=>λ_=>eP
def jN:O2:=aZ c F (ja c F) nO.1 [x0,x1] s
def xO:=(by dsimp only[jN,nO, ↓ja,go_sem,Int.reduceOfNat,Int.reduceNegSucc]:jN c F x0 x1 s=_)
def UL:Sh:=(sq sl (sq sl sl))
def UM:PX 178 UL:=⟨_,by conv=>lhs;reduce⟩
def Pu:O2:=aZ c F aX UM.1 [x0,x1] s
def afF:=(by dsimp only[Pu,UM,go_sem,Int.reduceOfNat]:Pu c F x0 x1 s=_)
def OA:Sh:=(sq sl (sq (sq sl (sb (sq sl (sc (sq sl sl) (sq sl (sc (sq sl sl) (sq sl (sc (sq sl sl) (sq sl (sc (sq sl sl) sl)))))))))) (sq sl sl)))
def OB:PX 180 OA:=⟨_,by conv=>lhs;reduce⟩
def I7:O2:=aZ c F aX OB.1 [x0] s
def acJ:=(by dsimp only[I7,OB,go_sem,Int.reduceOfNat]:I7 c F x0 s=_)
def I8:Sh:=(sq sl (sq (sb (sq sl (sc (sq sl sl) (sq sl (sc (sq sl sl) (sq sl (sc (sq sl sl) (sq sl (sc (sq sl sl) sl))))))))) (sq (sq sl (sb (sp 0 [1,52,53,54] [(1,[2]),(3,[])] (sq sl (sq (sc sl sl) (sq (sb (sq sl (sq sl (sc (sq sl sl) sl)))) sl)))))) (sq sl sl))))
def UN:PX 182 I8:=⟨_,by conv=>lhs;reduce⟩
def Rq:PL 182 I8 0:=⟨_,by conv=>lhs;reduce⟩
def qC(k1 k3:Q2):Nat->Q2
 |0,_,_=>none
 |n+1,vs,s=>dL c F aX (qC k1 k3 n) [k1,k3] Rq.1 vs s
def Ml(k1 k3:Q2)(n:Nat)(vs:List AV)(s:St):=(by dsimp only[qC,Rq,go_sem,Int.reduceOfNat]:qC c F k1 k3 (n+1) vs s=_)
def I9:Un->List Q2->Nat->Q2
 | .z,[k1,k3]=>qC c F k1 k3
 |_,_=>λ_=>eP
def Pv:O2:=aZ c F (I9 c F) UN.1 [x0] s
def afI:=(by dsimp only[Pv,UN, ↓I9,go_sem,Int.reduceOfNat]:Pv c F x0 s=_)
def Rr:Sh:=(sq sl (sq sl (sq sl sl)))
def Rs:PX 183 Rr:=⟨_,by conv=>lhs;reduce⟩
def MW:O2:=aZ c F aX Rs.1 [x0] s
def ad8:=(by dsimp only[MW,Rs,go_sem,Int.reduceOfNat]:MW c F x0 s=_)
def JE:Sh:=(sq sl (sq sl sl))
def JF:PX 184 JE:=⟨_,by conv=>lhs;reduce⟩
def strings_Compare:O2:=aZ c F aX JF.1 [x0,x1] s
def Zy:=(by dsimp only[strings_Compare,JF,go_sem,Int.reduceOfNat]:strings_Compare c F x0 x1 s=_)
def rP:Sh:=(sq sl (sq sl (sq sl (sq (sq sl (sc (sq sl sl) sl)) (sq sl (sq (sq sl (sc (sq sl sl) sl)) (sq (sq sl (sc (sq sl (sq sl (sq sl (sq sl sl)))) sl)) (sq sl (sq (sq sl (sc (sq sl (sq sl (sq sl sl))) sl)) (sq sl (sq sl (sq sl sl))))))))))))
def rQ:PX 185 rP:=⟨_,by conv=>lhs;reduce⟩
def ny:O2:=aZ c F aX rQ.1 [x0,x1,x2] s
def Da:=(by dsimp only[ny,rQ,go_sem,Int.reduceOfNat]:ny c F x0 x1 x2 s=_)
def Yh:Sh:=(sq sl (sq sl sl))
def Yi:PX 186 Yh:=⟨_,by conv=>lhs;reduce⟩
def TV:O2:=aZ c F aX Yi.1 [x0,x1,x2] s
def XA:=(by dsimp only[TV,Yi,go_sem,Int.reduceOfNat]:TV c F x0 x1 x2 s=_)
def fA:Sh:=(sq sl (sq sl (sq sl (sq (sb (sp 0 [0,2,4,8,9,10] [(2,[0,2,4,8,9])] (sq (sq sl (sc sl sl)) (sb (sq sl (sq sl (sc sl sl))))))) (sq sl sl)))))
def jt:PX 189 fA:=⟨_,by conv=>lhs;reduce⟩
def jg:PL 189 fA 0:=⟨_,by conv=>lhs;reduce⟩
def bk(k2:Q2):Nat->Q2
 |0,_,_=>none
 |n+1,vs,s=>dL c F aX (bk k2 n) [k2] jg.1 vs s
def eO(k2:Q2)(n:Nat)(vs:List AV)(s:St):=(by dsimp only[bk,jg,go_sem,Int.reduceOfNat]:bk c F k2 (n+1) vs s=_)
def fB:Un->List Q2->Nat->Q2
 | .z,[k2]=>bk c F k2
 |_,_=>λ_=>eP
def fL:O2:=aZ c F (fB c F) jt.1 [x0,x1,x2] s
def qD:=(by dsimp only[fL,jt, ↓fB,go_sem,Int.reduceOfNat]:fL c F x0 x1 x2 s=_)
def Px:Sh:=(sq sl (sq (sq sl (sb (sp 0 [0,3] [(1,[2]),(2,[0])] (sq (sq sl (sc sl sl)) (sq (sb (sq sl (sc (sq sl sl) sl))) sl))))) (sq sl sl)))
def aas:PX 203 Px:=⟨_,by conv=>lhs;reduce⟩
def Yj:PL 203 Px 0:=⟨_,by conv=>lhs;reduce⟩
def uN(k1 k2:Q2):Nat->Q2
 |0,_,_=>none
 |n+1,vs,s=>dL c F aX (uN k1 k2 n) [k1,k2] Yj.1 vs s
def QV(k1 k2:Q2)(n:Nat)(vs:List AV)(s:St):=(by dsimp only[uN,Yj,go_sem,Int.reduceOfNat]:uN c F k1 k2 (n+1) vs s=_)
def Py:Un->List Q2->Nat->Q2
 | .z,[k1,k2]=>uN c F k1 k2
 |_,_=>λ_=>eP
def Yk:O2:=aZ c F (Py c F) aas.1 [x0] s
def ajr:=(by dsimp only[Yk,aas, ↓Py,go_sem,Int.reduceOfNat]:Yk c F x0 s=_)
def JG:Sh:=(sq sl (sq (sq sl (sc (sq sl sl) sl)) (sq sl sl)))
def JH:PX 204 JG:=⟨_,by conv=>lhs;reduce⟩
def D9:O2:=aZ c F aX JH.1 [x0,x1] s
def Zt:=(by dsimp only[D9,JH,go_sem,Int.reduceOfNat]:D9 c F x0 x1 s=_)
def MX:Sh:=(sq sl (sq (sq sl (sc (sq sl sl) sl)) (sq sl sl)))
def MY:PX 209 MX:=⟨_,by conv=>lhs;reduce⟩
def Gw:O2:=aZ c F aX MY.1 [x0,x1] s
def abm:=(by dsimp only[Gw,MY,go_sem,Int.reduceOfNat]:Gw c F x0 x1 s=_)
def MZ:Sh:=(sq sl (sq (sq sl (sc (sq sl sl) sl)) (sq sl sl)))
def M7:PX 214 MZ:=⟨_,by conv=>lhs;reduce⟩
def Gx:O2:=aZ c F aX M7.1 [x0,x1] s
def abn:=(by dsimp only[Gx,M7,go_sem,Int.reduceOfNat]:Gx c F x0 x1 s=_)
def OC:Sh:=(sq sl (sq (sq sl (sc (sq sl sl) sl)) (sq sl sl)))
def OD:PX 219 OC:=⟨_,by conv=>lhs;reduce⟩
def Ja:O2:=aZ c F aX OD.1 [x0,x1] s
def acI:=(by dsimp only[Ja,OD,go_sem,Int.reduceOfNat]:Ja c F x0 x1 s=_)
def M9:Sh:=(sq sl (sq (sq sl (sc (sq sl sl) sl)) (sq (sq sl (sb (sp 0 [0,13,14] [(1,[2]),(2,[])] (sq sl (sq (sc sl sl) (sq (sb (sq sl (sq sl (sc (sq sl sl) sl)))) sl)))))) (sq sl sl))))
def Yl:PX 225 M9:=⟨_,by conv=>lhs;reduce⟩
def UO:PL 225 M9 0:=⟨_,by conv=>lhs;reduce⟩
def sI(k1 k2:Q2):Nat->Q2
 |0,_,_=>none
 |n+1,vs,s=>dL c F aX (sI k1 k2 n) [k1,k2] UO.1 vs s
def Oe(k1 k2:Q2)(n:Nat)(vs:List AV)(s:St):=(by dsimp only[sI,UO,go_sem,Int.reduceOfNat]:sI c F k1 k2 (n+1) vs s=_)
def Na:Un->List Q2->Nat->Q2
 | .z,[k1,k2]=>sI c F k1 k2
 |_,_=>λ_=>eP
def TW:O2:=aZ c F (Na c F) Yl.1 [x0] s
def ahW:=(by dsimp only[TW,Yl, ↓Na,go_sem,Int.reduceOfNat]:TW c F x0 s=_)
def Ym:Sh:=(sq sl (sq sl sl))
def Yn:PX 226 Ym:=⟨_,by conv=>lhs;reduce⟩
def TX:O2:=aZ c F aX Yn.1 [x0] s
def ahZ:=(by dsimp only[TX,Yn,go_sem,Int.reduceOfNat]:TX c F x0 s=_)
def Ao:Sh:=(sq sl (sq sl sl))
def Ap:PX 227 Ao:=⟨_,by conv=>lhs;reduce⟩
def bytealg_CompareString:O2:=aZ c F aX Ap.1 [x0,x1] s
def Nx:=(by dsimp only[bytealg_CompareString,Ap,go_sem,Int.reduceOfNat]:bytealg_CompareString c F x0 x1 s=_)
end
section
variable{c : au}(hc : Sem c)(F : Nat){x0 x1 x2 x3 x4 x5 x6 x7 x8 x9 x10 x11 : AV}{s : St}{r : AV × St}
include hc
theorem HQ(h:Gv c F x0 x1 s=some r):c 16 [x0,x1] s=some (tidy s r):=hc.o0 F MG (by kernel_rfl) (by kernel_rfl) h
theorem aeb(h:TJ c F x0 s=some r):c 49 [x0] s=some (tidy s r):=hc.o1 F (MJ c F) MI (by kernel_rfl) (by kernel_rfl) (λ_ _ _=>by kernel_rfl) (λ_ _ _ _=>by kernel_rfl) (by kernel_rfl) h
theorem aed(h:TM c F s=some r):c 50 [] s=some (tidy s r):=hc.o0 F XW (by kernel_rfl) (by kernel_rfl) h
theorem Vy(h:DY c F x0 x1 x2 s=some r):c 51 [x0,x1,x2] s=some (tidy s r):=hc.o0 F Jq (by kernel_rfl) (by kernel_rfl) h
theorem Q5(h:TN c F x0 s=some r):c 56 [x0] s=some (tidy s r):=hc.o1 F (ML c F) MK (by kernel_rfl) (by kernel_rfl) (λ_ _ _=>by kernel_rfl) (λ_ _ _ _=>by kernel_rfl) (by kernel_rfl) h
theorem QW(h:TO c F x0 x1 s=some r):c 58 [x0,x1] s=some (tidy s r):=hc.o1 F (MN c F) MM (by kernel_rfl) (by kernel_rfl) (λ_ _ _=>by kernel_rfl) (λ_ _ _ _=>by kernel_rfl) (by kernel_rfl) h
theorem ad5(h:TP c F x0 s=some r):c 59 [x0] s=some (tidy s r):=hc.o0 F X0 (by kernel_rfl) (by kernel_rfl) h
theorem aea(h:DP c F x0 s=some r):c 68 [x0] s=some (tidy s r):=hc.oL F (MO c F) DZ 2 (by kernel_rfl) (λi hi=>match i,hi with|0,_=>cC 0 (by kernel_rfl) (λ_ _ _=>by kernel_rfl) (λ_ _ _ _=>by kernel_rfl)|1,_=>cC 1 (by kernel_rfl) (λ_ _ _=>by kernel_rfl) (λ_ _ _ _=>by kernel_rfl)|n+2,h=>absurd h (by omega)) (by kernel_rfl) h
theorem Jl(h:I3 c F x0 s=some r):c 88 [x0] s=some (tidy s r):=hc.o1 F (D4 c F) D0 (by kernel_rfl) (by kernel_rfl) (λ_ _ _=>by kernel_rfl) (λ_ _ _ _=>by kernel_rfl) (by kernel_rfl) h
theorem Vv(h:D5 c F x0 s=some r):c 89 [x0] s=some (tidy s r):=hc.o0 F Js (by kernel_rfl) (by kernel_rfl) h
theorem Vx(h:D6 c F x0 x1 s=some r):c 108 [x0,x1] s=some (tidy s r):=hc.o0 F Jv (by kernel_rfl) (by kernel_rfl) h
theorem aii(h:abC c F x0 x1 s=some r):c 109 [x0,x1] s=some (tidy s r):=hc.o0 F ada (by kernel_rfl) (by kernel_rfl) h
theorem afD(h:X7 c F x0 s=some r):c 110 [x0] s=some (tidy s r):=hc.o1 F (Pr c F) Pq (by kernel_rfl) (by kernel_rfl) (λ_ _ _=>by kernel_rfl) (λ_ _ _ _=>by kernel_rfl) (by kernel_rfl) h
theorem afH(h:X9 c F x0 x1 s=some r):c 111 [x0,x1] s=some (tidy s r):=hc.o0 F aam (by kernel_rfl) (by kernel_rfl) h
theorem jf(h:pz c F x0 s=some r):c 117 [x0] s=some (tidy s r):=hc.o0 F uV (by kernel_rfl) (by kernel_rfl) h
theorem ad4(h:TQ c F x0 s=some r):c 120 [x0] s=some (tidy s r):=hc.o0 F Ya (by kernel_rfl) (by kernel_rfl) h
theorem afC(h:Yc c F x0 s=some r):c 121 [x0] s=some (tidy s r):=hc.o0 F aao (by kernel_rfl) (by kernel_rfl) h
theorem Zx(h:I6 c F x0 s=some r):c 122 [x0] s=some (tidy s r):=hc.o0 F Oy (by kernel_rfl) (by kernel_rfl) h
theorem afK(h:Yd c F s=some r):c 128 [] s=some (tidy s r):=hc.o0 F aaq (by kernel_rfl) (by kernel_rfl) h
theorem HJ(h:zZ c F x0 x1 s=some r):c 129 [x0,x1] s=some (tidy s r):=hc.o0 F MQ (by kernel_rfl) (by kernel_rfl) h
theorem acT(h:Pt c F x0 x1 s=some r):c 130 [x0,x1] s=some (tidy s r):=hc.o0 F UI (by kernel_rfl) (by kernel_rfl) h
theorem zk(h:z8 c F x0 x1 x2 x3 s=some r):c 131 [x0,x1,x2,x3] s=some (tidy s r):=hc.o1 F (Cc c F) Cb (by kernel_rfl) (by kernel_rfl) (λ_ _ _=>by kernel_rfl) (λ_ _ _ _=>by kernel_rfl) (by kernel_rfl) h
theorem Vu(h:D7 c F x0 s=some r):c 136 [x0] s=some (tidy s r):=hc.o0 F Jz (by kernel_rfl) (by kernel_rfl) h
theorem DO(h:Cd c F x0 x1 x2 s=some r):c 137 [x0,x1,x2] s=some (tidy s r):=hc.o0 F HT (by kernel_rfl) (by kernel_rfl) h
theorem ad2(h:TR c F x0 s=some r):c 158 [x0] s=some (tidy s r):=hc.o1 F (MV c F) MU (by kernel_rfl) (by kernel_rfl) (λ_ _ _=>by kernel_rfl) (λ_ _ _ _=>by kernel_rfl) (by kernel_rfl) h
theorem uy(h:iL c F x0 x1 s=some r):c 159 [x0,x1] s=some (tidy s r):=hc.o0 F mz (by kernel_rfl) (by kernel_rfl) h
theorem Vr(h:D8 c F x0 x1 s=some r):c 160 [x0,x1] s=some (tidy s r):=hc.o0 F JB (by kernel_rfl) (by kernel_rfl) h
theorem wu(h:jM c F x0 x1 s=some r):c 175 [x0,x1] s=some (tidy s r):=hc.o1 F (iY c F) iX (by kernel_rfl) (by kernel_rfl) (λ_ _ _=>by kernel_rfl) (λ_ _ _ _=>by kernel_rfl) (by kernel_rfl) h
theorem aec(h:TU c F x0 x1 s=some r):c 176 [x0,x1] s=some (tidy s r):=hc.o0 F Yf (by kernel_rfl) (by kernel_rfl) h
theorem v7(h:jN c F x0 x1 s=some r):c 177 [x0,x1] s=some (tidy s r):=hc.o1 F (ja c F) iZ (by kernel_rfl) (by kernel_rfl) (λ_ _ _=>by kernel_rfl) (λ_ _ _ _=>by kernel_rfl) (by kernel_rfl) h
theorem acP(h:Pu c F x0 x1 s=some r):c 178 [x0,x1] s=some (tidy s r):=hc.o0 F UL (by kernel_rfl) (by kernel_rfl) h
theorem Zv(h:I7 c F x0 s=some r):c 180 [x0] s=some (tidy s r):=hc.o0 F OA (by kernel_rfl) (by kernel_rfl) h
theorem acR(h:Pv c F x0 s=some r):c 182 [x0] s=some (tidy s r):=hc.o1 F (I9 c F) I8 (by kernel_rfl) (by kernel_rfl) (λ_ _ _=>by kernel_rfl) (λ_ _ _ _=>by kernel_rfl) (by kernel_rfl) h
theorem abq(h:MW c F x0 s=some r):c 183 [x0] s=some (tidy s r):=hc.o0 F Rr (by kernel_rfl) (by kernel_rfl) h
theorem Vt(h:strings_Compare c F x0 x1 s=some r):c 184 [x0,x1] s=some (tidy s r):=hc.o0 F JE (by kernel_rfl) (by kernel_rfl) h
theorem Bh(h:ny c F x0 x1 x2 s=some r):c 185 [x0,x1,x2] s=some (tidy s r):=hc.o0 F rP (by kernel_rfl) (by kernel_rfl) h
theorem QY(h:TV c F x0 x1 x2 s=some r):c 186 [x0,x1,x2] s=some (tidy s r):=hc.o0 F Yh (by kernel_rfl) (by kernel_rfl) h
theorem pL(h:fL c F x0 x1 x2 s=some r):c 189 [x0,x1,x2] s=some (tidy s r):=hc.o1 F (fB c F) fA (by kernel_rfl) (by kernel_rfl) (λ_ _ _=>by kernel_rfl) (λ_ _ _ _=>by kernel_rfl) (by kernel_rfl) h
theorem afE(h:Yk c F x0 s=some r):c 203 [x0] s=some (tidy s r):=hc.o1 F (Py c F) Px (by kernel_rfl) (by kernel_rfl) (λ_ _ _=>by kernel_rfl) (λ_ _ _ _=>by kernel_rfl) (by kernel_rfl) h
theorem Vq(h:D9 c F x0 x1 s=some r):c 204 [x0,x1] s=some (tidy s r):=hc.o0 F JG (by kernel_rfl) (by kernel_rfl) h
theorem Xv(h:Gw c F x0 x1 s=some r):c 209 [x0,x1] s=some (tidy s r):=hc.o0 F MX (by kernel_rfl) (by kernel_rfl) h
theorem Xw(h:Gx c F x0 x1 s=some r):c 214 [x0,x1] s=some (tidy s r):=hc.o0 F MZ (by kernel_rfl) (by kernel_rfl) h
theorem Zu(h:Ja c F x0 x1 s=some r):c 219 [x0,x1] s=some (tidy s r):=hc.o0 F OC (by kernel_rfl) (by kernel_rfl) h
theorem adY(h:TW c F x0 s=some r):c 225 [x0] s=some (tidy s r):=hc.o1 F (Na c F) M9 (by kernel_rfl) (by kernel_rfl) (λ_ _ _=>by kernel_rfl) (λ_ _ _ _=>by kernel_rfl) (by kernel_rfl) h
theorem ad1(h:TX c F x0 s=some r):c 226 [x0] s=some (tidy s r):=hc.o0 F Ym (by kernel_rfl) (by kernel_rfl) h
theorem KV(h:bytealg_CompareString c F x0 x1 s=some r):c 227 [x0,x1] s=some (tidy s r):=hc.o0 F Ao (by kernel_rfl) (by kernel_rfl) h
end
set_option linter.all false
set_option maxRecDepth 100000
set_option maxHeartbeats 4000000
open Go Go.Ai Go.Proofs
attribute [local go_sem ↓] aZ GW ev evX Ht getLT GV aa3 kat DC DD WT WU WV WW Qq Qr Qt Qu Qv Qw WY WZ Qx Qy Qz QC QD acq acs acu
attribute [local go_sem] aZ GW ev
section
variable(c : au)(F : Nat)(x0 x1 x2 x3 x4 x5 x6 x7 x8 x9 x10 x11 : AV)(s : St)
def uX:Sh:=(sq sl (sq sl (sq (sq sl (sb (sp 0 [0,3,4] [(2,[3])] (sq (sq sl (sc sl sl)) (sq (sb sl) sl))))) (sq sl sl))))
def CO:PX 13 uX:=⟨_,by conv=>lhs;reduce⟩
def Br:PL 13 uX 0:=⟨_,by conv=>lhs;reduce⟩
def kH(k2:Q2):Nat->Q2
 |0,_,_=>none
 |n+1,vs,s=>dL c F aX (kH k2 n) [k2] Br.1 vs s
def qR(k2:Q2)(n:Nat)(vs:List AV)(s:St):=(by dsimp only[kH,Br,go_sem,Int.reduceOfNat]:kH c F k2 (n+1) vs s=_)
def uY:Un->List Q2->Nat->Q2
 | .z,[k2]=>kH c F k2
 |_,_=>λ_=>eP
def xR:O2:=aZ c F (uY c F) CO.1 [x0] s
def Rc:=(by dsimp only[xR,CO, ↓uY,go_sem,Int.reduceOfNat]:xR c F x0 s=_)
def zu:Sh:=(sq sl (sq sl sl))
def zw:PX 17 zu:=⟨_,by conv=>lhs;reduce⟩
def tW:O2:=aZ c F aX zw.1 [x0] s
def MA:=(by dsimp only[tW,zw,go_sem,Int.reduceOfNat]:tW c F x0 s=_)
def wE:Sh:=(sq sl (sq (sq sl (sq sl (sc (sq sl sl) sl))) (sq sl (sq (sq sl (sb (sp 0 [1,7,40,41] [(2,[1,7])] (sq sl (sq (sc sl sl) (sq (sb (sq sl (sq sl (sq sl (sq sl (sb (sp 1 [1,7,8,9,10,11,40,41] [(4,[1,7,40,41])] (sq (sq sl (sc sl sl)) (sq (sb (sq sl (sq sl (sq sl (sq sl sl))))) (sq (sq sl sl) sl)))))))))) sl)))))) (sq (sq sl (sb (sp 2 [1,7,131,132] [(6,[1,7])] (sq sl (sq (sc sl sl) (sq (sb (sq sl sl)) sl)))))) (sq sl (sq (sq sl (sb (sp 3 [1,7,13,159,160,161] [(8,[7])] (sq sl (sq (sc sl sl) (sq (sb (sq sl (sq sl (sq sl (sq (sq sl (sb (sp 4 [1,7,13,17,18,19,159,160,161,166,167,168] [(10,[1,7,13,18,19,159,160,161])] (sq sl (sq (sc sl sl) (sq (sb (sq sl (sq sl (sq sl sl)))) sl)))))) sl))))) sl)))))) (sq sl sl))))))))
def ade:PX 18 wE:=⟨_,by conv=>lhs;reduce⟩
def aat:PL 18 wE 4:=⟨_,by conv=>lhs;reduce⟩
def xH(On:Q2):Nat->Q2
 |0,_,_=>none
 |n+1,vs,s=>dL c F aX (xH On n) [On] aat.1 vs s
def UB(On:Q2)(n:Nat)(vs:List AV)(s:St):=(by dsimp only[xH,aat,go_sem,Int.reduceOfNat]:xH c F On (n+1) vs s=_)
def aau:Un->List Q2->Nat->Q2
 |(.s (.s (.s (.s .z)))),[On]=>xH c F On
 |_,_=>λ_=>eP
def aav:PL 18 wE 3:=⟨_,by conv=>lhs;reduce⟩
def Bm(k8:Q2):Nat->Q2
 |0,_,_=>none
 |n+1,vs,s=>dL c F (aau c F) (Bm k8 n) [k8] aav.1 vs s
def UC(k8:Q2)(n:Nat)(vs:List AV)(s:St):=(by dsimp only[Bm,aav, ↓aau,go_sem,Int.reduceOfNat]:Bm c F k8 (n+1) vs s=_)
def aaw:PL 18 wE 2:=⟨_,by conv=>lhs;reduce⟩
def Bl(k6:Q2):Nat->Q2
 |0,_,_=>none
 |n+1,vs,s=>dL c F aX (Bl k6 n) [k6] aaw.1 vs s
def UA(k6:Q2)(n:Nat)(vs:List AV)(s:St):=(by dsimp only[Bl,aaw,go_sem,Int.reduceOfNat]:Bl c F k6 (n+1) vs s=_)
def aax:PL 18 wE 1:=⟨_,by conv=>lhs;reduce⟩
def xG(k4:Q2):Nat->Q2
 |0,_,_=>none
 |n+1,vs,s=>dL c F aX (xG k4 n) [k4] aax.1 vs s
def Uy(k4:Q2)(n:Nat)(vs:List AV)(s:St):=(by dsimp only[xG,aax,go_sem,Int.reduceOfNat]:xG c F k4 (n+1) vs s=_)
def aay:Un->List Q2->Nat->Q2
 |(.s .z),[k4]=>xG c F k4
 |_,_=>λ_=>eP
def aaz:PL 18 wE 0:=⟨_,by conv=>lhs;reduce⟩
def Bk(k2:Q2):Nat->Q2
 |0,_,_=>none
 |n+1,vs,s=>dL c F (aay c F) (Bk k2 n) [k2] aaz.1 vs s
def Uz(k2:Q2)(n:Nat)(vs:List AV)(s:St):=(by dsimp only[Bk,aaz, ↓aay,go_sem,Int.reduceOfNat]:Bk c F k2 (n+1) vs s=_)
def TY:Un->List Q2->Nat->Q2
 | .z,[k2]=>Bk c F k2
 |(.s .z),[k4]=>xG c F k4
 |(.s (.s .z)),[k6]=>Bl c F k6
 |(.s (.s (.s .z))),[k8]=>Bm c F k8
 |(.s (.s (.s (.s .z)))),[On]=>xH c F On
 |_,_=>λ_=>eP
def abD:O2:=aZ c F (TY c F) ade.1 [x0] s
def amn:=(by dsimp only[abD,ade, ↓TY,go_sem,Int.reduceOfNat]:abD c F x0 s=_)
def se:Sh:=(sq sl (sq sl (sq (sq sl (sb (sp 0 [0,3,4] [(2,[3])] (sq (sq sl (sc sl sl)) (sq (sb sl) sl))))) (sq sl sl))))
def Aq:PX 52 se:=⟨_,by conv=>lhs;reduce⟩
def zx:PL 52 se 0:=⟨_,by conv=>lhs;reduce⟩
def jI(k2:Q2):Nat->Q2
 |0,_,_=>none
 |n+1,vs,s=>dL c F aX (jI k2 n) [k2] zx.1 vs s
def xz(k2:Q2)(n:Nat)(vs:List AV)(s:St):=(by dsimp only[jI,zx,go_sem,Int.reduceOfNat]:jI c F k2 (n+1) vs s=_)
def sg:Un->List Q2->Nat->Q2
 | .z,[k2]=>jI c F k2
 |_,_=>λ_=>eP
def uZ:O2:=aZ c F (sg c F) Aq.1 [x0] s
def NA:=(by dsimp only[uZ,Aq, ↓sg,go_sem,Int.reduceOfNat]:uZ c F x0 s=_)
def su:Sh:=(sq sl (sq sl (sq (sq sl (sb (sp 0 [0,3,4] [(2,[3])] (sq (sq sl (sc sl sl)) (sq (sb sl) sl))))) (sq sl sl))))
def Ar:PX 53 su:=⟨_,by conv=>lhs;reduce⟩
def zA:PL 53 su 0:=⟨_,by conv=>lhs;reduce⟩
def jJ(k2:Q2):Nat->Q2
 |0,_,_=>none
 |n+1,vs,s=>dL c F aX (jJ k2 n) [k2] zA.1 vs s
def xA(k2:Q2)(n:Nat)(vs:List AV)(s:St):=(by dsimp only[jJ,zA,go_sem,Int.reduceOfNat]:jJ c F k2 (n+1) vs s=_)
def sw:Un->List Q2->Nat->Q2
 | .z,[k2]=>jJ c F k2
 |_,_=>λ_=>eP
def u0:O2:=aZ c F (sw c F) Ar.1 [x0] s
def NB:=(by dsimp only[u0,Ar, ↓sw,go_sem,Int.reduceOfNat]:u0 c F x0 s=_)
def u6:Sh:=(sq sl (sq sl (sq (sq sl (sb (sp 0 [0,3,4] [(2,[3])] (sq (sq sl (sc sl sl)) (sq (sb sl) sl))))) (sq sl sl))))
def CP:PX 54 u6:=⟨_,by conv=>lhs;reduce⟩
def Bt:PL 54 u6 0:=⟨_,by conv=>lhs;reduce⟩
def kJ(k2:Q2):Nat->Q2
 |0,_,_=>none
 |n+1,vs,s=>dL c F aX (kJ k2 n) [k2] Bt.1 vs s
def qU(k2:Q2)(n:Nat)(vs:List AV)(s:St):=(by dsimp only[kJ,Bt,go_sem,Int.reduceOfNat]:kJ c F k2 (n+1) vs s=_)
def u7:Un->List Q2->Nat->Q2
 | .z,[k2]=>kJ c F k2
 |_,_=>λ_=>eP
def xS:O2:=aZ c F (u7 c F) CP.1 [x0] s
def Re:=(by dsimp only[xS,CP, ↓u7,go_sem,Int.reduceOfNat]:xS c F x0 s=_)
def tX:Sh:=(sq sl (sq sl (sq (sq sl (sb (sp 0 [0,3,4] [(2,[3])] (sq (sq sl (sc sl sl)) (sq (sb sl) sl))))) (sq sl sl))))
def Bu:PX 55 tX:=⟨_,by conv=>lhs;reduce⟩
def At:PL 55 tX 0:=⟨_,by conv=>lhs;reduce⟩
def j8(k2:Q2):Nat->Q2
 |0,_,_=>none
 |n+1,vs,s=>dL c F aX (j8 k2 n) [k2] At.1 vs s
def qh(k2:Q2)(n:Nat)(vs:List AV)(s:St):=(by dsimp only[j8,At,go_sem,Int.reduceOfNat]:j8 c F k2 (n+1) vs s=_)
def tY:Un->List Q2->Nat->Q2
 | .z,[k2]=>j8 c F k2
 |_,_=>λ_=>eP
def wF:O2:=aZ c F (tY c F) Bu.1 [x0] s
def Pj:=(by dsimp only[wF,Bu, ↓tY,go_sem,Int.reduceOfNat]:wF c F x0 s=_)
def BU:Sh:=(sq sl (sq sl (sq (sq sl (sb (sp 0 [1,2,11,12] [(2,[1,2])] (sq sl (sq (sc sl sl) (sq (sb (sq sl sl)) sl)))))) (sq sl (sq (sq sl (sb (sp 1 [1,2,34,35] [(4,[1,2])] (sq sl (sq (sc sl sl) (sq (sb (sq sl sl)) sl)))))) (sq sl (sq sl sl)))))))
def UP:PX 57 BU:=⟨_,by conv=>lhs;reduce⟩
def Ru:PL 57 BU 1:=⟨_,by conv=>lhs;reduce⟩
def uS(k4:Q2):Nat->Q2
 |0,_,_=>none
 |n+1,vs,s=>dL c F aX (uS k4 n) [k4] Ru.1 vs s
def MC(k4:Q2)(n:Nat)(vs:List AV)(s:St):=(by dsimp only[uS,Ru,go_sem,Int.reduceOfNat]:uS c F k4 (n+1) vs s=_)
def Rv:PL 57 BU 0:=⟨_,by conv=>lhs;reduce⟩
def uR(k2:Q2):Nat->Q2
 |0,_,_=>none
 |n+1,vs,s=>dL c F aX (uR k2 n) [k2] Rv.1 vs s
def MB(k2:Q2)(n:Nat)(vs:List AV)(s:St):=(by dsimp only[uR,Rv,go_sem,Int.reduceOfNat]:uR c F k2 (n+1) vs s=_)
def Jb:Un->List Q2->Nat->Q2
 | .z,[k2]=>uR c F k2
 |(.s .z),[k4]=>uS c F k4
 |_,_=>λ_=>eP
def PC:O2:=aZ c F (Jb c F) UP.1 [x0] s
def af3:=(by dsimp only[PC,UP, ↓Jb,go_sem,Int.reduceOfNat]:PC c F x0 s=_)
def Yo:Sh:=(sq sl (sq sl (sq (sq sl (sc (sq sl sl) sl)) (sq sl sl))))
def Yp:PX 60 Yo:=⟨_,by conv=>lhs;reduce⟩
def TZ:O2:=aZ c F aX Yp.1 [x0,x1] s
def XM:=(by dsimp only[TZ,Yp,go_sem,Int.reduceOfNat]:TZ c F x0 x1 s=_)
def aaA:Sh:=(sq sl (sq sl (sq sl sl)))
def aaB:PX 61 aaA:=⟨_,by conv=>lhs;reduce⟩
def Yq:O2:=aZ c F aX aaB.1 [x0,x1] s
def ajB:=(by dsimp only[Yq,aaB,go_sem,Int.reduceOfNat]:Yq c F x0 x1 s=_)
def Nb:Sh:=(sq sl (sq sl (sq (sq sl (sb (sp 0 [0,1,2,7,8] [(2,[7])] (sq (sq sl (sc sl sl)) (sj [0,1,2,7,8] (sb (sq sl (sc sl sl))) sl))))) (sq sl sl))))
def Yr:PX 62 Nb:=⟨_,by conv=>lhs;reduce⟩
def UQ:PL 62 Nb 0:=⟨_,by conv=>lhs;reduce⟩
def xx(k2:Q2):Nat->Q2
 |0,_,_=>none
 |n+1,vs,s=>dL c F aX (xx k2 n) [k2] UQ.1 vs s
def DV(k2:Q2)(n:Nat)(vs:List AV)(s:St):=(by dsimp only[xx,UQ,go_sem,Int.reduceOfNat]:xx c F k2 (n+1) vs s=_)
def Nc:Un->List Q2->Nat->Q2
 | .z,[k2]=>xx c F k2
 |_,_=>λ_=>eP
def T6:O2:=aZ c F (Nc c F) Yr.1 [x0,x1,x2] s
def aiu:=(by dsimp only[T6,Yr, ↓Nc,go_sem,Int.reduceOfNat]:T6 c F x0 x1 x2 s=_)
def Ys:Sh:=(sq sl (sq sl sl))
def Yt:PX 63 Ys:=⟨_,by conv=>lhs;reduce⟩
def T7:O2:=aZ c F aX Yt.1 [x0,x1,x2] s
def aiC:=(by dsimp only[T7,Yt,go_sem,Int.reduceOfNat]:T7 c F x0 x1 x2 s=_)
def UR:Sh:=(sq sl (sq sl (sq sl sl)))
def US:PX 64 UR:=⟨_,by conv=>lhs;reduce⟩
def PD:O2:=aZ c F aX US.1 [x0,x1,x2] s
def afV:=(by dsimp only[PD,US,go_sem,Int.reduceOfNat]:PD c F x0 x1 x2 s=_)
def Yu:Sh:=(sq sl (sq sl sl))
def Yv:PX 65 Yu:=⟨_,by conv=>lhs;reduce⟩
def T8:O2:=aZ c F aX Yv.1 [x0,x1,x2] s
def aiD:=(by dsimp only[T8,Yv,go_sem,Int.reduceOfNat]:T8 c F x0 x1 x2 s=_)
def UT:Sh:=(sq sl (sq sl (sq sl sl)))
def UU:PX 66 UT:=⟨_,by conv=>lhs;reduce⟩
def PG:O2:=aZ c F aX UU.1 [x0,x1,x2] s
def afW:=(by dsimp only[PG,UU,go_sem,Int.reduceOfNat]:PG c F x0 x1 x2 s=_)
def pQ:Sh:=(sq sl (sq sl (sq (sq sl (sb (sp 0 [0,5,6] [(2,[5])] (sq (sq sl (sc sl sl)) (sq (sb (sq sl (sb (sp 1 [0,5,6,41,42,43] [(4,[0,5,6])] (sq sl (sq (sc sl sl) (sq (sb (sq sl (sq sl (sb (sp 2 [0,5,6,41,42,43,47,48,49] [(6,[0,5,6,41,42,43])] (sq sl (sq (sc sl sl) (sj [0,5,6,41,42,43,47,48,49] (sb (sq sl (sq sl (sq sl (sc (sq sl sl) sl))))) sl)))))))) sl))))))) sl))))) (sq sl sl))))
def JI:PX 67 pQ:=⟨_,by conv=>lhs;reduce⟩
def HV:PL 67 pQ 2:=⟨_,by conv=>lhs;reduce⟩
def jK(k6:Q2):Nat->Q2
 |0,_,_=>none
 |n+1,vs,s=>dL c F aX (jK k6 n) [k6] HV.1 vs s
def wz(k6:Q2)(n:Nat)(vs:List AV)(s:St):=(by dsimp only[jK,HV,go_sem,Int.reduceOfNat]:jK c F k6 (n+1) vs s=_)
def HW:Un->List Q2->Nat->Q2
 |(.s (.s .z)),[k6]=>jK c F k6
 |_,_=>λ_=>eP
def HX:PL 67 pQ 1:=⟨_,by conv=>lhs;reduce⟩
def fq(k4:Q2):Nat->Q2
 |0,_,_=>none
 |n+1,vs,s=>dL c F (HW c F) (fq k4 n) [k4] HX.1 vs s
def wD(k4:Q2)(n:Nat)(vs:List AV)(s:St):=(by dsimp only[fq,HX, ↓HW,go_sem,Int.reduceOfNat]:fq c F k4 (n+1) vs s=_)
def HZ:Un->List Q2->Nat->Q2
 |(.s .z),[k4]=>fq c F k4
 |(.s (.s .z)),[k6]=>jK c F k6
 |_,_=>λ_=>eP
def H6:PL 67 pQ 0:=⟨_,by conv=>lhs;reduce⟩
def oI(k2:Q2):Nat->Q2
 |0,_,_=>none
 |n+1,vs,s=>dL c F (HZ c F) (oI k2 n) [k2] H6.1 vs s
def wC(k2:Q2)(n:Nat)(vs:List AV)(s:St):=(by dsimp only[oI,H6, ↓HZ,go_sem,Int.reduceOfNat]:oI c F k2 (n+1) vs s=_)
def AM:Un->List Q2->Nat->Q2
 | .z,[k2]=>oI c F k2
 |(.s .z),[k4]=>fq c F k4
 |(.s (.s .z)),[k6]=>jK c F k6
 |_,_=>λ_=>eP
def Ec:O2:=aZ c F (AM c F) JI.1 [x0,x1] s
def ZM:=(by dsimp only[Ec,JI, ↓AM,go_sem,Int.reduceOfNat]:Ec c F x0 x1 s=_)
def Fx:Sh:=(sq sl (sq sl (sq sl (sq (sq sl (sc (sq sl sl) sl)) (sq sl sl)))))
def Fy:PX 69 Fx:=⟨_,by conv=>lhs;reduce⟩
def uB:O2:=aZ c F aX Fy.1 [x0,x1,x2] s
def VL:=(by dsimp only[uB,Fy,go_sem,Int.reduceOfNat]:uB c F x0 x1 x2 s=_)
def JJ:Sh:=(sq sl (sq (sq sl (sc (sq sl sl) sl)) (sq sl (sq (sq sl (sc (sq sl sl) sl)) (sq sl sl)))))
def JK:PX 70 JJ:=⟨_,by conv=>lhs;reduce⟩
def Ed:O2:=aZ c F aX JK.1 [x0,x1,x2] s
def Jn:=(by dsimp only[Ed,JK,go_sem,Int.reduceOfNat]:Ed c F x0 x1 x2 s=_)
def yE:Sh:=(sq sl (sq sl sl))
def yF:PX 73 yE:=⟨_,by conv=>lhs;reduce⟩
def sx:O2:=aZ c F aX yF.1 [x0,x1] s
def KY:=(by dsimp only[sx,yF,go_sem,Int.reduceOfNat]:sx c F x0 x1 s=_)
def JL:Sh:=(sq sl (sq sl sl))
def JM:PX 78 JL:=⟨_,by conv=>lhs;reduce⟩
def Ee:O2:=aZ c F aX JM.1 [x0] s
def Zr:=(by dsimp only[Ee,JM,go_sem,Int.reduceOfNat]:Ee c F x0 s=_)
def Bv:Sh:=(sq sl (sq sl (sq sl sl)))
def Bw:PX 112 Bv:=⟨_,by conv=>lhs;reduce⟩
def wG:O2:=aZ c F aX Bw.1 [x0] s
def Pk:=(by dsimp only[wG,Bw,go_sem,Int.reduceOfNat]:wG c F x0 s=_)
def Bx:Sh:=(sq sl (sq sl (sq sl sl)))
def By:PX 113 Bx:=⟨_,by conv=>lhs;reduce⟩
def wH:O2:=aZ c F aX By.1 [x0] s
def Pm:=(by dsimp only[wH,By,go_sem,Int.reduceOfNat]:wH c F x0 s=_)
def pR:Sh:=(sq sl (sq (sq sl (sc (sq sl sl) sl)) (sq sl sl)))
def pS:PX 114 pR:=⟨_,by conv=>lhs;reduce⟩
def lz:O2:=aZ c F aX pS.1 [x0] s
def pN:=(by dsimp only[lz,pS,go_sem,Int.reduceOfNat]:lz c F x0 s=_)
def Bz:Sh:=(sq sl (sq (sq sl (sc (sq sl sl) sl)) (sq sl sl)))
def BA:PX 115 Bz:=⟨_,by conv=>lhs;reduce⟩
def wJ:O2:=aZ c F aX BA.1 [x0] s
def Bi:=(by dsimp only[wJ,BA,go_sem,Int.reduceOfNat]:wJ c F x0 s=_)
def pT:Sh:=(sq sl (sq (sq sl (sc (sq sl sl) sl)) (sq sl sl)))
def pU:PX 116 pT:=⟨_,by conv=>lhs;reduce⟩
def lC:O2:=aZ c F aX pU.1 [x0] s
def pO:=(by dsimp only[lC,pU,go_sem,Int.reduceOfNat]:lC c F x0 s=_)
def tI:Sh:=(sq sl (sq (sq sl (sc (sq sl sl) sl)) (sq sl sl)))
def tJ:PX 118 tI:=⟨_,by conv=>lhs;reduce⟩
def nZ:O2:=aZ c F aX tJ.1 [x0] s
def tu:=(by dsimp only[nZ,tJ,go_sem,Int.reduceOfNat]:nZ c F x0 s=_)
def qY:Sh:=(sq sl (sq (sq sl (sc (sq sl sl) sl)) (sq sl sl)))
def qZ:PX 119 qY:=⟨_,by conv=>lhs;reduce⟩
def mT:O2:=aZ c F aX qZ.1 [x0] s
def qW:=(by dsimp only[mT,qZ,go_sem,Int.reduceOfNat]:mT c F x0 s=_)
def Nd:Sh:=(sq sl (sq (sq sl (sc (sq sl sl) sl)) (sq (sq sl (sb (sp 0 [1,17,18,19] [(1,[4,5,6]),(2,[])] (sq sl (sq (sc sl sl) (sq (sb (sq sl (sq sl (sq (sq sl (sc (sq sl sl) sl)) sl)))) sl)))))) (sq sl sl))))
def Yw:PX 123 Nd:=⟨_,by conv=>lhs;reduce⟩
def UW:PL 123 Nd 0:=⟨_,by conv=>lhs;reduce⟩
def sM(k1 k2:Q2):Nat->Q2
 |0,_,_=>none
 |n+1,vs,s=>dL c F aX (sM k1 k2 n) [k1,k2] UW.1 vs s
def yA(k1 k2:Q2)(n:Nat)(vs:List AV)(s:St):=(by dsimp only[sM,UW,go_sem,Int.reduceOfNat]:sM c F k1 k2 (n+1) vs s=_)
def Nf:Un->List Q2->Nat->Q2
 | .z,[k1,k2]=>sM c F k1 k2
 |_,_=>λ_=>eP
def T9:O2:=aZ c F (Nf c F) Yw.1 [x0,x1] s
def XI:=(by dsimp only[T9,Yw, ↓Nf,go_sem,Int.reduceOfNat]:T9 c F x0 x1 s=_)
def Jd:Sh:=(sq sl (sq sl (sq sl (sq (sq sl (sb (sp 0 [5,23,24,25] [(2,[5])] (sq sl (sq (sc sl sl) (sj [5,23,24,25] (sb (sq sl (sq sl (sc sl sl)))) sl)))))) (sq sl sl)))))
def UX:PX 124 Jd:=⟨_,by conv=>lhs;reduce⟩
def Rw:PL 124 Jd 0:=⟨_,by conv=>lhs;reduce⟩
def uQ(k2:Q2):Nat->Q2
 |0,_,_=>none
 |n+1,vs,s=>dL c F aX (uQ k2 n) [k2] Rw.1 vs s
def Ca(k2:Q2)(n:Nat)(vs:List AV)(s:St):=(by dsimp only[uQ,Rw,go_sem,Int.reduceOfNat]:uQ c F k2 (n+1) vs s=_)
def Je:Un->List Q2->Nat->Q2
 | .z,[k2]=>uQ c F k2
 |_,_=>λ_=>eP
def PI:O2:=aZ c F (Je c F) UX.1 [x0] s
def afY:=(by dsimp only[PI,UX, ↓Je,go_sem,Int.reduceOfNat]:PI c F x0 s=_)
def aaC:Sh:=(sq sl (sq sl (sq sl (sq (sq sl (sc (sq sl sl) sl)) (sq sl sl)))))
def aaD:PX 125 aaC:=⟨_,by conv=>lhs;reduce⟩
def Yx:O2:=aZ c F aX aaD.1 [x0,x1,x2] s
def ajA:=(by dsimp only[Yx,aaD,go_sem,Int.reduceOfNat]:Yx c F x0 x1 x2 s=_)
def UY:Sh:=(sq sl (sq sl (sq sl sl)))
def UZ:PX 126 UY:=⟨_,by conv=>lhs;reduce⟩
def PJ:O2:=aZ c F aX UZ.1 [x0,x1,x2] s
def afR:=(by dsimp only[PJ,UZ,go_sem,Int.reduceOfNat]:PJ c F x0 x1 x2 s=_)
def U0:Sh:=(sq sl (sq sl (sq sl sl)))
def U6:PX 127 U0:=⟨_,by conv=>lhs;reduce⟩
def PM:O2:=aZ c F aX U6.1 [x0,x1,x2] s
def afS:=(by dsimp only[PM,U6,go_sem,Int.reduceOfNat]:PM c F x0 x1 x2 s=_)
def JN:Sh:=(sq sl (sq (sq sl (sc (sq sl sl) sl)) (sq sl (sq (sq sl (sc (sq sl sl) sl)) (sq sl sl)))))
def JO:PX 132 JN:=⟨_,by conv=>lhs;reduce⟩
def Ef:O2:=aZ c F aX JO.1 [x0,x1] s
def Jo:=(by dsimp only[Ef,JO,go_sem,Int.reduceOfNat]:Ef c F x0 x1 s=_)
def kL:Sh:=(sq sl (sq sl (sq (sq sl (sc (sq sl sl) sl)) (sq (sq sl (sb (sp 0 [0,1,5,6] [(2,[0,5])] (sq (sq sl (sc sl sl)) (sj [0,1,5,6] (sb (sq sl (sq sl (sc (sq sl sl) sl)))) sl))))) (sq sl (sq sl sl))))))
def qu:PX 133 kL:=⟨_,by conv=>lhs;reduce⟩
def pV:PL 133 kL 0:=⟨_,by conv=>lhs;reduce⟩
def eZ(k2:Q2):Nat->Q2
 |0,_,_=>none
 |n+1,vs,s=>dL c F aX (eZ k2 n) [k2] pV.1 vs s
def jL(k2:Q2)(n:Nat)(vs:List AV)(s:St):=(by dsimp only[eZ,pV,go_sem,Int.reduceOfNat,Int.reduceNegSucc]:eZ c F k2 (n+1) vs s=_)
def kO:Un->List Q2->Nat->Q2
 | .z,[k2]=>eZ c F k2
 |_,_=>λ_=>eP
def mj:O2:=aZ c F (kO c F) qu.1 [x0,x1] s
def qq:=(by dsimp only[mj,qu, ↓kO,go_sem,Int.reduceOfNat,Int.reduceNegSucc]:mj c F x0 x1 s=_)
def CQ:Sh:=(sq sl (sq sl sl))
def CR:PX 134 CQ:=⟨_,by conv=>lhs;reduce⟩
def xT:O2:=aZ c F aX CR.1 [x0,x1] s
def Rg:=(by dsimp only[xT,CR,go_sem,Int.reduceOfNat]:xT c F x0 x1 s=_)
def rU:Sh:=(sq sl (sq sl sl))
def rV:PX 135 rU:=⟨_,by conv=>lhs;reduce⟩
def nD:O2:=aZ c F aX rV.1 [x0,x1] s
def Db:=(by dsimp only[nD,rV,go_sem,Int.reduceOfNat]:nD c F x0 x1 s=_)
def tZ:Sh:=(sq sl (sq (sq sl (sb (sp 0 [0,1,7,8] [(1,[4]),(2,[])] (sq sl (sq (sc sl sl) (sq (sb (sq sl (sq sl (sc (sq sl sl) sl)))) sl)))))) (sq sl sl)))
def BB:PX 138 tZ:=⟨_,by conv=>lhs;reduce⟩
def Au:PL 138 tZ 0:=⟨_,by conv=>lhs;reduce⟩
def j6(k1 k2:Q2):Nat->Q2
 |0,_,_=>none
 |n+1,vs,s=>dL c F aX (j6 k1 k2 n) [k1,k2] Au.1 vs s
def yB(k1 k2:Q2)(n:Nat)(vs:List AV)(s:St):=(by dsimp only[j6,Au,go_sem,Int.reduceOfNat,Int.reduceNegSucc]:j6 c F k1 k2 (n+1) vs s=_)
def ua:Un->List Q2->Nat->Q2
 | .z,[k1,k2]=>j6 c F k1 k2
 |_,_=>λ_=>eP
def wK:O2:=aZ c F (ua c F) BB.1 [x0,x1] s
def Pg:=(by dsimp only[wK,BB, ↓ua,go_sem,Int.reduceOfNat,Int.reduceNegSucc]:wK c F x0 x1 s=_)
def ud:Sh:=(sq sl (sq sl (sq (sq sl (sb (sp 0 [0,3,4] [(2,[3])] (sq (sq sl (sc sl sl)) (sq (sb sl) sl))))) (sq sl sl))))
def BC:PX 179 ud:=⟨_,by conv=>lhs;reduce⟩
def Av:PL 179 ud 0:=⟨_,by conv=>lhs;reduce⟩
def j7(k2:Q2):Nat->Q2
 |0,_,_=>none
 |n+1,vs,s=>dL c F aX (j7 k2 n) [k2] Av.1 vs s
def qg(k2:Q2)(n:Nat)(vs:List AV)(s:St):=(by dsimp only[j7,Av,go_sem,Int.reduceOfNat]:j7 c F k2 (n+1) vs s=_)
def ue:Un->List Q2->Nat->Q2
 | .z,[k2]=>j7 c F k2
 |_,_=>λ_=>eP
def wL:O2:=aZ c F (ue c F) BC.1 [x0] s
def Ph:=(by dsimp only[wL,BC, ↓ue,go_sem,Int.reduceOfNat]:wL c F x0 s=_)
def zB:Sh:=(sq sl (sq sl (sq (sq sl (sb (sp 0 [1,2,5,15,16] [(2,[1,2,5])] (sq sl (sq (sc sl sl) (sq (sb (sq sl sl)) sl)))))) (sq sl (sq sl (sq (sb (sp 1 [2,5,7] [(4,[5])] (sq (sq sl (sc sl sl)) (sb (sq sl (sq sl (sq sl (sb (sp 2 [2,5,7,8,36,37,38] [(6,[2,5,7])] (sq sl (sq (sc sl sl) (sj [2,5,7,8,36,37,38] (sb (sq sl (sq sl (sc (sq sl sl) sl)))) sl)))))))))))) (sq sl sl)))))))
def Yy:PX 181 zB:=⟨_,by conv=>lhs;reduce⟩
def U7:PL 181 zB 2:=⟨_,by conv=>lhs;reduce⟩
def sN(k6:Q2):Nat->Q2
 |0,_,_=>none
 |n+1,vs,s=>dL c F aX (sN k6 n) [k6] U7.1 vs s
def yC(k6:Q2)(n:Nat)(vs:List AV)(s:St):=(by dsimp only[sN,U7,go_sem,Int.reduceOfNat,Int.reduceNegSucc]:sN c F k6 (n+1) vs s=_)
def U8:Un->List Q2->Nat->Q2
 |(.s (.s .z)),[k6]=>sN c F k6
 |_,_=>λ_=>eP
def U9:PL 181 zB 1:=⟨_,by conv=>lhs;reduce⟩
def pn(k4:Q2):Nat->Q2
 |0,_,_=>none
 |n+1,vs,s=>dL c F (U8 c F) (pn k4 n) [k4] U9.1 vs s
def DU(k4:Q2)(n:Nat)(vs:List AV)(s:St):=(by dsimp only[pn,U9, ↓U8,go_sem,Int.reduceOfNat,Int.reduceNegSucc]:pn c F k4 (n+1) vs s=_)
def Va:PL 181 zB 0:=⟨_,by conv=>lhs;reduce⟩
def sO(k2:Q2):Nat->Q2
 |0,_,_=>none
 |n+1,vs,s=>dL c F aX (sO k2 n) [k2] Va.1 vs s
def Oj(k2:Q2)(n:Nat)(vs:List AV)(s:St):=(by dsimp only[sO,Va,go_sem,Int.reduceOfNat,Int.reduceNegSucc]:sO c F k2 (n+1) vs s=_)
def Ng:Un->List Q2->Nat->Q2
 | .z,[k2]=>sO c F k2
 |(.s .z),[k4]=>pn c F k4
 |(.s (.s .z)),[k6]=>sN c F k6
 |_,_=>λ_=>eP
def Ua:O2:=aZ c F (Ng c F) Yy.1 [x0,x1] s
def ais:=(by dsimp only[Ua,Yy, ↓Ng,go_sem,Int.reduceOfNat,Int.reduceNegSucc]:Ua c F x0 x1 s=_)
def lF:Sh:=(sq sl (sq (sq sl (sb (sp 0 [0,1,7,8] [(1,[4]),(2,[])] (sq sl (sq (sc sl sl) (sq (sb (sq sl (sq sl (sc (sq sl sl) sl)))) sl)))))) (sq sl sl)))
def rf:PX 187 lF:=⟨_,by conv=>lhs;reduce⟩
def qw:PL 187 lF 0:=⟨_,by conv=>lhs;reduce⟩
def dN(k1 k2:Q2):Nat->Q2
 |0,_,_=>none
 |n+1,vs,s=>dL c F aX (dN k1 k2 n) [k1,k2] qw.1 vs s
def eG(k1 k2:Q2)(n:Nat)(vs:List AV)(s:St):=(by dsimp only[dN,qw,go_sem,Int.reduceOfNat,Int.reduceNegSucc]:dN c F k1 k2 (n+1) vs s=_)
def lH:Un->List Q2->Nat->Q2
 | .z,[k1,k2]=>dN c F k1 k2
 |_,_=>λ_=>eP
def mU:O2:=aZ c F (lH c F) rf.1 [x0,x1] s
def qX:=(by dsimp only[mU,rf, ↓lH,go_sem,Int.reduceOfNat,Int.reduceNegSucc]:mU c F x0 x1 s=_)
def n7:Sh:=(sq sl (sq (sq sl (sb (sp 0 [0,1,7,8] [(1,[4]),(2,[])] (sq sl (sq (sc sl sl) (sq (sb (sq sl (sq sl (sc (sq sl sl) sl)))) sl)))))) (sq sl sl)))
def u9:PX 188 n7:=⟨_,by conv=>lhs;reduce⟩
def ux:PL 188 n7 0:=⟨_,by conv=>lhs;reduce⟩
def fc(k1 k2:Q2):Nat->Q2
 |0,_,_=>none
 |n+1,vs,s=>dL c F aX (fc k1 k2 n) [k1,k2] ux.1 vs s
def fN(k1 k2:Q2)(n:Nat)(vs:List AV)(s:St):=(by dsimp only[fc,ux,go_sem,Int.reduceOfNat,Int.reduceNegSucc]:fc c F k1 k2 (n+1) vs s=_)
def n9:Un->List Q2->Nat->Q2
 | .z,[k1,k2]=>fc c F k1 k2
 |_,_=>λ_=>eP
def pE:O2:=aZ c F (n9 c F) u9.1 [x0,x1] s
def uT:=(by dsimp only[pE,u9, ↓n9,go_sem,Int.reduceOfNat,Int.reduceNegSucc]:pE c F x0 x1 s=_)
def H7:Sh:=(sq sl (sq sl sl))
def H8:PX 205 H7:=⟨_,by conv=>lhs;reduce⟩
def Ce:O2:=aZ c F aX H8.1 [x0,x1,x2,x3] s
def XE:=(by dsimp only[Ce,H8,go_sem,Int.reduceOfNat]:Ce c F x0 x1 x2 x3 s=_)
def H9:Sh:=(sq sl (sq sl sl))
def Ia:PX 206 H9:=⟨_,by conv=>lhs;reduce⟩
def Cf:O2:=aZ c F aX Ia.1 [x0,x1,x2,x3] s
def XF:=(by dsimp only[Cf,Ia,go_sem,Int.reduceOfNat]:Cf c F x0 x1 x2 x3 s=_)
def JP:Sh:=(sq sl (sq sl sl))
def JQ:PX 207 JP:=⟨_,by conv=>lhs;reduce⟩
def Eg:O2:=aZ c F aX JQ.1 [x0,x1] s
def ZI:=(by dsimp only[Eg,JQ,go_sem,Int.reduceOfNat]:Eg c F x0 x1 s=_)
def JR:Sh:=(sq sl (sq sl (sq (sb (sq sl (sc (sq sl sl) (sq sl (sc (sq sl sl) sl))))) (sq sl sl))))
def JS:PX 210 JR:=⟨_,by conv=>lhs;reduce⟩
def Eh:O2:=aZ c F aX JS.1 [x0,x1,x2,x3] s
def ZD:=(by dsimp only[Eh,JS,go_sem,Int.reduceOfNat]:Eh c F x0 x1 x2 x3 s=_)
def JU:Sh:=(sq sl (sq (sq sl (sc (sq sl sl) sl)) (sq sl sl)))
def JV:PX 211 JU:=⟨_,by conv=>lhs;reduce⟩
def Ei:O2:=aZ c F aX JV.1 [x0,x1,x2,x3] s
def ZE:=(by dsimp only[Ei,JV,go_sem,Int.reduceOfNat]:Ei c F x0 x1 x2 x3 s=_)
def JX:Sh:=(sq sl (sq (sq sl (sc (sq sl sl) sl)) (sq sl sl)))
def JY:PX 212 JX:=⟨_,by conv=>lhs;reduce⟩
def Ej:O2:=aZ c F aX JY.1 [x0,x1] s
def ZJ:=(by dsimp only[Ej,JY,go_sem,Int.reduceOfNat]:Ej c F x0 x1 s=_)
def JZ:Sh:=(sq sl (sq sl sl))
def J5:PX 215 JZ:=⟨_,by conv=>lhs;reduce⟩
def Ek:O2:=aZ c F aX J5.1 [x0,x1,x2,x3] s
def ZF:=(by dsimp only[Ek,J5,go_sem,Int.reduceOfNat]:Ek c F x0 x1 x2 x3 s=_)
def J6:Sh:=(sq sl (sq sl sl))
def J7:PX 216 J6:=⟨_,by conv=>lhs;reduce⟩
def El:O2:=aZ c F aX J7.1 [x0,x1,x2,x3] s
def ZG:=(by dsimp only[El,J7,go_sem,Int.reduceOfNat]:El c F x0 x1 x2 x3 s=_)
def J8:Sh:=(sq sl (sq sl sl))
def J9:PX 217 J8:=⟨_,by conv=>lhs;reduce⟩
def Em:O2:=aZ c F aX J9.1 [x0,x1] s
def ZK:=(by dsimp only[Em,J9,go_sem,Int.reduceOfNat]:Em c F x0 x1 s=_)
def Nh:Sh:=(sq sl (sq sl sl))
def Ni:PX 220 Nh:=⟨_,by conv=>lhs;reduce⟩
def Gy:O2:=aZ c F aX Ni.1 [x0,x1,x2,x3] s
def abu:=(by dsimp only[Gy,Ni,go_sem,Int.reduceOfNat]:Gy c F x0 x1 x2 x3 s=_)
def Ka:Sh:=(sq sl (sq sl sl))
def Kb:PX 221 Ka:=⟨_,by conv=>lhs;reduce⟩
def Eo:O2:=aZ c F aX Kb.1 [x0,x1,x2,x3] s
def ZH:=(by dsimp only[Eo,Kb,go_sem,Int.reduceOfNat]:Eo c F x0 x1 x2 x3 s=_)
def Kc:Sh:=(sq sl (sq sl sl))
def Ke:PX 222 Kc:=⟨_,by conv=>lhs;reduce⟩
def Ep:O2:=aZ c F aX Ke.1 [x0,x1] s
def ZL:=(by dsimp only[Ep,Ke,go_sem,Int.reduceOfNat]:Ep c F x0 x1 s=_)
def aaE:Sh:=(sq sl (sq sl sl))
def aaF:PX 224 aaE:=⟨_,by conv=>lhs;reduce⟩
def Yz:O2:=aZ c F aX aaF.1 [x0,x1,x2] s
def ajy:=(by dsimp only[Yz,aaF,go_sem,Int.reduceOfNat]:Yz c F x0 x1 x2 s=_)
def adf:Sh:=(sq sl (sq sl sl))
def adg:PX 238 adf:=⟨_,by conv=>lhs;reduce⟩
def abE:O2:=aZ c F aX adg.1 [x0,x1] s
def al9:=(by dsimp only[abE,adg,go_sem,Int.reduceOfNat]:abE c F x0 x1 s=_)
end
section
variable{c : au}(hc : Sem c)(F : Nat){x0 x1 x2 x3 x4 x5 x6 x7 x8 x9 x10 x11 : AV}{s : St}{r : AV × St}
include hc
theorem Ny(h:xR c F x0 s=some r):c 13 [x0] s=some (tidy s r):=hc.o1 F (uY c F) uX (by kernel_rfl) (by kernel_rfl) (λ_ _ _=>by kernel_rfl) (λ_ _ _ _=>by kernel_rfl) (by kernel_rfl) h
theorem IZ(h:tW c F x0 s=some r):c 17 [x0] s=some (tidy s r):=hc.o0 F zu (by kernel_rfl) (by kernel_rfl) h
theorem aiN(h:abD c F x0 s=some r):c 18 [x0] s=some (tidy s r):=hc.oL F (TY c F) wE 5 (by kernel_rfl) (λi hi=>match i,hi with|0,_=>cC 0 (by kernel_rfl) (λ_ _ _=>by kernel_rfl) (λ_ _ _ _=>by kernel_rfl)|1,_=>cC 1 (by kernel_rfl) (λ_ _ _=>by kernel_rfl) (λ_ _ _ _=>by kernel_rfl)|2,_=>cC 2 (by kernel_rfl) (λ_ _ _=>by kernel_rfl) (λ_ _ _ _=>by kernel_rfl)|3,_=>cC 3 (by kernel_rfl) (λ_ _ _=>by kernel_rfl) (λ_ _ _ _=>by kernel_rfl)|4,_=>cC 4 (by kernel_rfl) (λ_ _ _=>by kernel_rfl) (λ_ _ _ _=>by kernel_rfl)|n+5,h=>absurd h (by omega)) (by kernel_rfl) h
theorem K7(h:uZ c F x0 s=some r):c 52 [x0] s=some (tidy s r):=hc.o1 F (sg c F) se (by kernel_rfl) (by kernel_rfl) (λ_ _ _=>by kernel_rfl) (λ_ _ _ _=>by kernel_rfl) (by kernel_rfl) h
theorem K8(h:u0 c F x0 s=some r):c 53 [x0] s=some (tidy s r):=hc.o1 F (sw c F) su (by kernel_rfl) (by kernel_rfl) (λ_ _ _=>by kernel_rfl) (λ_ _ _ _=>by kernel_rfl) (by kernel_rfl) h
theorem Nz(h:xS c F x0 s=some r):c 54 [x0] s=some (tidy s r):=hc.o1 F (u7 c F) u6 (by kernel_rfl) (by kernel_rfl) (λ_ _ _=>by kernel_rfl) (λ_ _ _ _=>by kernel_rfl) (by kernel_rfl) h
theorem Mx(h:wF c F x0 s=some r):c 55 [x0] s=some (tidy s r):=hc.o1 F (tY c F) tX (by kernel_rfl) (by kernel_rfl) (λ_ _ _=>by kernel_rfl) (λ_ _ _ _=>by kernel_rfl) (by kernel_rfl) h
theorem ac5(h:PC c F x0 s=some r):c 57 [x0] s=some (tidy s r):=hc.oL F (Jb c F) BU 2 (by kernel_rfl) (λi hi=>match i,hi with|0,_=>cC 0 (by kernel_rfl) (λ_ _ _=>by kernel_rfl) (λ_ _ _ _=>by kernel_rfl)|1,_=>cC 1 (by kernel_rfl) (λ_ _ _=>by kernel_rfl) (λ_ _ _ _=>by kernel_rfl)|n+2,h=>absurd h (by omega)) (by kernel_rfl) h
theorem Rb(h:TZ c F x0 x1 s=some r):c 60 [x0,x1] s=some (tidy s r):=hc.o0 F Yo (by kernel_rfl) (by kernel_rfl) h
theorem afX(h:Yq c F x0 x1 s=some r):c 61 [x0,x1] s=some (tidy s r):=hc.o0 F aaA (by kernel_rfl) (by kernel_rfl) h
theorem aeh(h:T6 c F x0 x1 x2 s=some r):c 62 [x0,x1,x2] s=some (tidy s r):=hc.o1 F (Nc c F) Nb (by kernel_rfl) (by kernel_rfl) (λ_ _ _=>by kernel_rfl) (λ_ _ _ _=>by kernel_rfl) (by kernel_rfl) h
theorem aek(h:T7 c F x0 x1 x2 s=some r):c 63 [x0,x1,x2] s=some (tidy s r):=hc.o0 F Ys (by kernel_rfl) (by kernel_rfl) h
theorem ac0(h:PD c F x0 x1 x2 s=some r):c 64 [x0,x1,x2] s=some (tidy s r):=hc.o0 F UR (by kernel_rfl) (by kernel_rfl) h
theorem ael(h:T8 c F x0 x1 x2 s=some r):c 65 [x0,x1,x2] s=some (tidy s r):=hc.o0 F Yu (by kernel_rfl) (by kernel_rfl) h
theorem ac1(h:PG c F x0 x1 x2 s=some r):c 66 [x0,x1,x2] s=some (tidy s r):=hc.o0 F UT (by kernel_rfl) (by kernel_rfl) h
theorem VK(h:Ec c F x0 x1 s=some r):c 67 [x0,x1] s=some (tidy s r):=hc.oL F (AM c F) pQ 3 (by kernel_rfl) (λi hi=>match i,hi with|0,_=>cC 0 (by kernel_rfl) (λ_ _ _=>by kernel_rfl) (λ_ _ _ _=>by kernel_rfl)|1,_=>cC 1 (by kernel_rfl) (λ_ _ _=>by kernel_rfl) (λ_ _ _ _=>by kernel_rfl)|2,_=>cC 2 (by kernel_rfl) (λ_ _ _=>by kernel_rfl) (λ_ _ _ _=>by kernel_rfl)|n+3,h=>absurd h (by omega)) (by kernel_rfl) h
theorem CM(h:uB c F x0 x1 x2 s=some r):c 69 [x0,x1,x2] s=some (tidy s r):=hc.o0 F Fx (by kernel_rfl) (by kernel_rfl) h
theorem Fs(h:Ed c F x0 x1 x2 s=some r):c 70 [x0,x1,x2] s=some (tidy s r):=hc.o0 F JJ (by kernel_rfl) (by kernel_rfl) h
theorem HR(h:sx c F x0 x1 s=some r):c 73 [x0,x1] s=some (tidy s r):=hc.o0 F yE (by kernel_rfl) (by kernel_rfl) h
theorem My(h:wG c F x0 s=some r):c 112 [x0] s=some (tidy s r):=hc.o0 F Bv (by kernel_rfl) (by kernel_rfl) h
theorem Mz(h:wH c F x0 s=some r):c 113 [x0] s=some (tidy s r):=hc.o0 F Bx (by kernel_rfl) (by kernel_rfl) h
theorem oG(h:lz c F x0 s=some r):c 114 [x0] s=some (tidy s r):=hc.o0 F pR (by kernel_rfl) (by kernel_rfl) h
theorem zo(h:wJ c F x0 s=some r):c 115 [x0] s=some (tidy s r):=hc.o0 F Bz (by kernel_rfl) (by kernel_rfl) h
theorem oH(h:lC c F x0 s=some r):c 116 [x0] s=some (tidy s r):=hc.o0 F pT (by kernel_rfl) (by kernel_rfl) h
theorem qV(h:nZ c F x0 s=some r):c 118 [x0] s=some (tidy s r):=hc.o0 F tI (by kernel_rfl) (by kernel_rfl) h
theorem pM(h:mT c F x0 s=some r):c 119 [x0] s=some (tidy s r):=hc.o0 F qY (by kernel_rfl) (by kernel_rfl) h
theorem Q6(h:T9 c F x0 x1 s=some r):c 123 [x0,x1] s=some (tidy s r):=hc.o1 F (Nf c F) Nd (by kernel_rfl) (by kernel_rfl) (λ_ _ _=>by kernel_rfl) (λ_ _ _ _=>by kernel_rfl) (by kernel_rfl) h
theorem ac2(h:PI c F x0 s=some r):c 124 [x0] s=some (tidy s r):=hc.o1 F (Je c F) Jd (by kernel_rfl) (by kernel_rfl) (λ_ _ _=>by kernel_rfl) (λ_ _ _ _=>by kernel_rfl) (by kernel_rfl) h
theorem afU(h:Yx c F x0 x1 x2 s=some r):c 125 [x0,x1,x2] s=some (tidy s r):=hc.o0 F aaC (by kernel_rfl) (by kernel_rfl) h
theorem acX(h:PJ c F x0 x1 x2 s=some r):c 126 [x0,x1,x2] s=some (tidy s r):=hc.o0 F UY (by kernel_rfl) (by kernel_rfl) h
theorem acY(h:PM c F x0 x1 x2 s=some r):c 127 [x0,x1,x2] s=some (tidy s r):=hc.o0 F U0 (by kernel_rfl) (by kernel_rfl) h
theorem Ft(h:Ef c F x0 x1 s=some r):c 132 [x0,x1] s=some (tidy s r):=hc.o0 F JN (by kernel_rfl) (by kernel_rfl) h
theorem oU(h:mj c F x0 x1 s=some r):c 133 [x0,x1] s=some (tidy s r):=hc.o1 F (kO c F) kL (by kernel_rfl) (by kernel_rfl) (λ_ _ _=>by kernel_rfl) (λ_ _ _ _=>by kernel_rfl) (by kernel_rfl) h
theorem NC(h:xT c F x0 x1 s=some r):c 134 [x0,x1] s=some (tidy s r):=hc.o0 F CQ (by kernel_rfl) (by kernel_rfl) h
theorem Bj(h:nD c F x0 x1 s=some r):c 135 [x0,x1] s=some (tidy s r):=hc.o0 F rU (by kernel_rfl) (by kernel_rfl) h
theorem Mq(h:wK c F x0 x1 s=some r):c 138 [x0,x1] s=some (tidy s r):=hc.o1 F (ua c F) tZ (by kernel_rfl) (by kernel_rfl) (λ_ _ _=>by kernel_rfl) (λ_ _ _ _=>by kernel_rfl) (by kernel_rfl) h
theorem Mw(h:wL c F x0 s=some r):c 179 [x0] s=some (tidy s r):=hc.o1 F (ue c F) ud (by kernel_rfl) (by kernel_rfl) (λ_ _ _=>by kernel_rfl) (λ_ _ _ _=>by kernel_rfl) (by kernel_rfl) h
theorem aeg(h:Ua c F x0 x1 s=some r):c 181 [x0,x1] s=some (tidy s r):=hc.oL F (Ng c F) zB 3 (by kernel_rfl) (λi hi=>match i,hi with|0,_=>cC 0 (by kernel_rfl) (λ_ _ _=>by kernel_rfl) (λ_ _ _ _=>by kernel_rfl)|1,_=>cC 1 (by kernel_rfl) (λ_ _ _=>by kernel_rfl) (λ_ _ _ _=>by kernel_rfl)|2,_=>cC 2 (by kernel_rfl) (λ_ _ _=>by kernel_rfl) (λ_ _ _ _=>by kernel_rfl)|n+3,h=>absurd h (by omega)) (by kernel_rfl) h
theorem pP(h:mU c F x0 x1 s=some r):c 187 [x0,x1] s=some (tidy s r):=hc.o1 F (lH c F) lF (by kernel_rfl) (by kernel_rfl) (λ_ _ _=>by kernel_rfl) (λ_ _ _ _=>by kernel_rfl) (by kernel_rfl) h
theorem tC(h:pE c F x0 x1 s=some r):c 188 [x0,x1] s=some (tidy s r):=hc.o1 F (n9 c F) n7 (by kernel_rfl) (by kernel_rfl) (λ_ _ _=>by kernel_rfl) (λ_ _ _ _=>by kernel_rfl) (by kernel_rfl) h
theorem Ts(h:Ce c F x0 x1 x2 x3 s=some r):c 205 [x0,x1,x2,x3] s=some (tidy s r):=hc.o0 F H7 (by kernel_rfl) (by kernel_rfl) h
theorem Tt(h:Cf c F x0 x1 x2 x3 s=some r):c 206 [x0,x1,x2,x3] s=some (tidy s r):=hc.o0 F H9 (by kernel_rfl) (by kernel_rfl) h
theorem VG(h:Eg c F x0 x1 s=some r):c 207 [x0,x1] s=some (tidy s r):=hc.o0 F JP (by kernel_rfl) (by kernel_rfl) h
theorem Vz(h:Eh c F x0 x1 x2 x3 s=some r):c 210 [x0,x1,x2,x3] s=some (tidy s r):=hc.o0 F JR (by kernel_rfl) (by kernel_rfl) h
theorem VC(h:Ei c F x0 x1 x2 x3 s=some r):c 211 [x0,x1,x2,x3] s=some (tidy s r):=hc.o0 F JU (by kernel_rfl) (by kernel_rfl) h
theorem VH(h:Ej c F x0 x1 s=some r):c 212 [x0,x1] s=some (tidy s r):=hc.o0 F JX (by kernel_rfl) (by kernel_rfl) h
theorem VD(h:Ek c F x0 x1 x2 x3 s=some r):c 215 [x0,x1,x2,x3] s=some (tidy s r):=hc.o0 F JZ (by kernel_rfl) (by kernel_rfl) h
theorem VE(h:El c F x0 x1 x2 x3 s=some r):c 216 [x0,x1,x2,x3] s=some (tidy s r):=hc.o0 F J6 (by kernel_rfl) (by kernel_rfl) h
theorem VI(h:Em c F x0 x1 s=some r):c 217 [x0,x1] s=some (tidy s r):=hc.o0 F J8 (by kernel_rfl) (by kernel_rfl) h
theorem XG(h:Gy c F x0 x1 x2 x3 s=some r):c 220 [x0,x1,x2,x3] s=some (tidy s r):=hc.o0 F Nh (by kernel_rfl) (by kernel_rfl) h
theorem VF(h:Eo c F x0 x1 x2 x3 s=some r):c 221 [x0,x1,x2,x3] s=some (tidy s r):=hc.o0 F Ka (by kernel_rfl) (by kernel_rfl) h
theorem VJ(h:Ep c F x0 x1 s=some r):c 222 [x0,x1] s=some (tidy s r):=hc.o0 F Kc (by kernel_rfl) (by kernel_rfl) h
theorem afT(h:Yz c F x0 x1 x2 s=some r):c 224 [x0,x1,x2] s=some (tidy s r):=hc.o0 F aaE (by kernel_rfl) (by kernel_rfl) h
theorem ail(h:abE c F x0 x1 s=some r):c 238 [x0,x1] s=some (tidy s r):=hc.o0 F adf (by kernel_rfl) (by kernel_rfl) h
end
end
end Go.Proofs.YtgihekklfnjkiaaGreatDoor
