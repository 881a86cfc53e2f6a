/- Functions, plainly. -/
import Derived.Test.YtgihekklfnjkiaaGreatDoorGWalk
set_option linter.all false
set_option linter.unusedSectionVars false
set_option linter.deprecated false
namespace Go.Proofs.YtgihekklfnjkiaaGreatDoor
noncomputable section
open Go Go.Ai Go.Proofs
def SN:eP:=vC [(246,FC),(14,Yr)]
def Sem(c:aj):Prop:=c=run SN gg
def gA(f:Nat):dN:=xO gg f
abbrev PX(f:Nat)(s:Sh):={a:Tx // txF (gA f) s=a}
abbrev PL(f:Nat)(s:Sh)(i:Nat):={a:List Pos×Tx // txL (iw (gA f) s i)=a}
theorem Sem.o0{c:aj}(hc:Sem c)(F:Nat){f:FuncId}{args:List AV}{st:St}{r:AV×St}(s:Sh)(hk:(zH (SN f)&& !zH (gg.get (key f))&&(fP (gA f).code s).isEmpty)=true)
  {k:O2} (hd:Ik c F (af3 []) (gA f) s args st=k) (h:k=some r):c f args st=some (tidy st r):=by
 subst hc;exact ajY s hk hd h
theorem Sem.o1{c:aj}(hc:Sem c)(F:Nat){f:FuncId}{args:List AV}{st:St}{r:AV×St}(Ls:Un->List Q2->Nat->Q2)(s:Sh)(hk:(zH (SN f)&& !zH (gg.get (key f))&&Nat.beq (fP (gA f).code s).length 1)=true)
  (hs:(adr (iw (gA f) s 0).2&&Nat.beq (lpJ (iw (gA f) s 0).2) 0)=true) (h0:∀K' vs st,tS Ls (gA f) s 0 K' 0 vs st=none)
  (h1:∀K' n vs st,tS Ls (gA f) s 0 K' (n+1) vs st=Pg (den c F (tS Ls (gA f) s) (iw (gA f) s 0).1 (lpB (iw (gA f) s 0).2)) (lpI (iw (gA f) s 0).2) (lpO (iw (gA f) s 0).2) K' (tS Ls (gA f) s 0 K' n) vs st)
  {k:O2} (hd:Ik c F (tS Ls (gA f) s) (gA f) s args st=k) (h:k=some r):c f args st=some (tidy st r):=by
 subst hc;exact ajZ Ls s hk hs h0 h1 hd h
theorem Sem.oL{c:aj}(hc:Sem c)(F:Nat){f:FuncId}{args:List AV}{st:St}{r:AV×St}(Ls:Un->List Q2->Nat->Q2)(s:Sh)(n:Nat)(hk:(zH (SN f)&& !zH (gg.get (key f))&&Nat.beq (fP (gA f).code s).length n)=true)
  (hL:∀i,i<n->CS c F (tS Ls (gA f) s) (iw (gA f) s i).1 (iw (gA f) s i).2) {k:O2} (hd:Ik c F (tS Ls (gA f) s) (gA f) s args st=k) (h:k=some r):c f args st=some (tidy st r):=by
 subst hc;exact adA Ls s n hk hL hd h
end
noncomputable section
set_option linter.all false
set_option maxRecDepth 100000
set_option maxHeartbeats 4000000
open Go Go.Ai Go.Proofs
attribute [local go_sem ↓] bf Gk ev evX GH getLT Gj aaM kat C9 Da V9 Wc Wd We Pn Po Pp Pq Pr Pt Wg Wh Pu Pv Px Py Pz ab7 ab8 ab9
attribute [local go_sem] bf Gk ev
section
variable(c : aj)(F : Nat)(x0 x1 x2 x3 x4 x5 x6 x7 x8 x9 x10 x11 : AV)(s : St)
def LP:Sh:=(sq sl (sq (sq sl (sq sl (sc (sq sl sl) sl))) (sq (sq sl (sq sl (sc (sq sl sl) sl))) (sq (sq sl (sc (sq sl sl) sl)) (sq (sq sl (sb (sp 0 [1,47,48,49] [(1,[2,3]),(2,[1])] (sq sl (sq (sc sl sl) (sq (sb (sq sl (sq sl (sc (sq sl sl) sl)))) sl)))))) (sq (sq sl (sc (sq sl sl) sl)) (sq sl sl)))))))
def Xr:PX 49 LP:=⟨_,by conv=>lhs;reduce⟩
def TX:PL 49 LP 0:=⟨_,by conv=>lhs;reduce⟩
def sF(k1 k2:Q2):Nat->Q2
 |0,_,_=>none
 |n+1,vs,s=>dR c F aY (sF k1 k2 n) [k1,k2] TX.1 vs s
def Nu(k1 k2:Q2)(n:Nat)(vs:List AV)(s:St):=(by dsimp only[sF,TX,go_sem,Int.reduceOfNat]:sF c F k1 k2 (n+1) vs s=_)
def LQ:Un->List Q2->Nat->Q2
 | .z,[k1,k2]=>sF c F k1 k2
 |_,_=>λ_=>fD
def SY:O2:=bf c F (LQ c F) Xr.1 [x0] s
def ah6:=(by dsimp only[SY,Xr, ↓LQ,go_sem,Int.reduceOfNat]:SY c F x0 s=_)
def Xs:Sh:=(sq sl (sq sl sl))
def Xt:PX 50 Xs:=⟨_,by conv=>lhs;reduce⟩
def S6:O2:=bf c F aY Xt.1 [] s
def aib:=(by dsimp only[S6,Xt,go_sem,Int.reduceOfNat]:S6 c F s=_)
def IN:Sh:=(sq sl (sj [3,4,5] (sb (sq sl (sc (sq sl sl) (sq sl (sc (sq sl sl) (sq sl (sc (sq sl sl) (sj [3,4,5,28] (sq sl (sc sl (sq sl (sc sl sl)))) (sc (sq sl sl) (sq sl (sc (sq sl sl) (sq sl (sc (sq sl sl) sl))))))))))))) (sq sl (sq (sq sl (sc (sq sl sl) sl)) (sq sl (sj [3,5,9] (sq sl (sc sl sl)) (sq (sq sl (sc (sq sl sl) sl)) (sq sl sl))))))))
def IP:PX 51 IN:=⟨_,by conv=>lhs;reduce⟩
def Du:O2:=bf c F aY IP.1 [x0,x1,x2] s
def Zf:=(by dsimp only[Du,IP,go_sem,Int.reduceOfNat]:Du c F x0 x1 x2 s=_)
def LR:Sh:=(sq sl (sq (sq sl (sq sl (sc (sq sl sl) sl))) (sq sl (sq (sq sl (sb (sp 0 [1,6,21,22,23] [(1,[2,3]),(2,[])] (sq sl (sq (sc sl sl) (sq (sb (sq sl (sq (sq sl (sq sl (sc (sq sl sl) sl))) (sq sl (sc (sq sl sl) sl))))) sl)))))) (sq sl sl)))))
def Xu:PX 56 LR:=⟨_,by conv=>lhs;reduce⟩
def TY:PL 56 LR 0:=⟨_,by conv=>lhs;reduce⟩
def wM(k1 k2:Q2):Nat->Q2
 |0,_,_=>none
 |n+1,vs,s=>dR c F aY (wM k1 k2 n) [k1,k2] TY.1 vs s
def Dn(k1 k2:Q2)(n:Nat)(vs:List AV)(s:St):=(by dsimp only[wM,TY,go_sem,Int.reduceOfNat]:wM c F k1 k2 (n+1) vs s=_)
def LS:Un->List Q2->Nat->Q2
 | .z,[k1,k2]=>wM c F k1 k2
 |_,_=>λ_=>fD
def S7:O2:=bf c F (LS c F) Xu.1 [x0] s
def Xa:=(by dsimp only[S7,Xu, ↓LS,go_sem,Int.reduceOfNat]:S7 c F x0 s=_)
def LU:Sh:=(sq sl (sq (sq sl (sc (sq sl sl) sl)) (sq sl (sq (sq sl (sb (sp 0 [5,23,24,25] [(2,[5])] (sq sl (sq (sc sl sl) (sq (sb (sq sl sl)) sl)))))) (sq sl sl)))))
def Xv:PX 58 LU:=⟨_,by conv=>lhs;reduce⟩
def TZ:PL 58 LU 0:=⟨_,by conv=>lhs;reduce⟩
def wL(k2:Q2):Nat->Q2
 |0,_,_=>none
 |n+1,vs,s=>dR c F aY (wL k2 n) [k2] TZ.1 vs s
def Di(k2:Q2)(n:Nat)(vs:List AV)(s:St):=(by dsimp only[wL,TZ,go_sem,Int.reduceOfNat]:wL c F k2 (n+1) vs s=_)
def LV:Un->List Q2->Nat->Q2
 | .z,[k2]=>wL c F k2
 |_,_=>λ_=>fD
def S8:O2:=bf c F (LV c F) Xv.1 [x0,x1] s
def W4:=(by dsimp only[S8,Xv, ↓LV,go_sem,Int.reduceOfNat]:S8 c F x0 x1 s=_)
def Xw:Sh:=(sq sl (sq (sq sl (sc (sq sl sl) sl)) (sq sl sl)))
def Xx:PX 59 Xw:=⟨_,by conv=>lhs;reduce⟩
def S9:O2:=bf c F aY Xx.1 [x0] s
def ahX:=(by dsimp only[S9,Xx,go_sem,Int.reduceOfNat]:S9 c F x0 s=_)
def Dv:Sh:=(sq sl (sq sl (sq (sq sl (sb (sp 0 [1,5,14,15,16] [(1,[2,3,4]),(2,[1,5])] (sq sl (sq (sc sl sl) (sq (sb (sq sl (sq sl (sq sl (sc (sq sl sl) sl))))) sl)))))) (sq (sq sl (sb (sp 1 [1,5,30,31,32] [(1,[2,3,4]),(4,[5])] (sq sl (sq (sc sl sl) (sj [1,5,30,31,32] (sb (sq sl (sq sl (sj [1,5,9,11,30,31,32] (sq sl (sc sl sl)) (sq sl (sc (sq sl sl) sl)))))) sl)))))) (sq sl sl)))))
def Xy:PX 68 Dv:=⟨_,by conv=>lhs;reduce⟩
def T4:PL 68 Dv 1:=⟨_,by conv=>lhs;reduce⟩
def nD(k1 k4:Q2):Nat->Q2
 |0,_,_=>none
 |n+1,vs,s=>dR c F aY (nD k1 k4 n) [k1,k4] T4.1 vs s
def xY(k1 k4:Q2)(n:Nat)(vs:List AV)(s:St):=(by dsimp only[nD,T4,go_sem,Int.reduceOfNat]:nD c F k1 k4 (n+1) vs s=_)
def T6:PL 68 Dv 0:=⟨_,by conv=>lhs;reduce⟩
def kP(k1 k2:Q2):Nat->Q2
 |0,_,_=>none
 |n+1,vs,s=>dR c F aY (kP k1 k2 n) [k1,k2] T6.1 vs s
def xX(k1 k2:Q2)(n:Nat)(vs:List AV)(s:St):=(by dsimp only[kP,T6,go_sem,Int.reduceOfNat]:kP c F k1 k2 (n+1) vs s=_)
def LW:Un->List Q2->Nat->Q2
 | .z,[k1,k2]=>kP c F k1 k2
 |(.s .z),[k1,k4]=>nD c F k1 k4
 |_,_=>λ_=>fD
def Dm:O2:=bf c F (LW c F) Xy.1 [x0] s
def ah4:=(by dsimp only[Dm,Xy, ↓LW,go_sem,Int.reduceOfNat]:Dm c F x0 s=_)
def Dw:Sh:=(sq sl (sq (sq sl (sc (sq sl sl) sl)) (sq (sq sl (sb (sp 0 [0,10,11,12] [(1,[2,3]),(2,[])] (sq sl (sq (sc sl sl) (sq (sb (sq sl (sq (sq sl (sq sl (sc (sq sl sl) sl))) (sq sl (sc (sq sl sl) sl))))) sl)))))) (sq sl sl))))
def NC:PX 88 Dw:=⟨_,by conv=>lhs;reduce⟩
def LX:PL 88 Dw 0:=⟨_,by conv=>lhs;reduce⟩
def qN(k1 k2:Q2):Nat->Q2
 |0,_,_=>none
 |n+1,vs,s=>dR c F aY (qN k1 k2 n) [k1,k2] LX.1 vs s
def yM(k1 k2:Q2)(n:Nat)(vs:List AV)(s:St):=(by dsimp only[qN,LX,go_sem,Int.reduceOfNat]:qN c F k1 k2 (n+1) vs s=_)
def Dx:Un->List Q2->Nat->Q2
 | .z,[k1,k2]=>qN c F k1 k2
 |_,_=>λ_=>fD
def Iu:O2:=bf c F (Dx c F) NC.1 [x0] s
def Ns:=(by dsimp only[Iu,NC, ↓Dx,go_sem,Int.reduceOfNat]:Iu c F x0 s=_)
def IQ:Sh:=(sq sl (sq sl (sq sl sl)))
def IU:PX 89 IQ:=⟨_,by conv=>lhs;reduce⟩
def Dy:O2:=bf c F aY IU.1 [x0] s
def Zd:=(by dsimp only[Dy,IU,go_sem,Int.reduceOfNat]:Dy c F x0 s=_)
def IV:Sh:=(sq sl (sq sl sl))
def IW:PX 108 IV:=⟨_,by conv=>lhs;reduce⟩
def Dz:O2:=bf c F aY IW.1 [x0,x1] s
def Ze:=(by dsimp only[Dz,IW,go_sem,Int.reduceOfNat]:Dz c F x0 x1 s=_)
def acZ:Sh:=(sq sl (sq sl sl))
def ac0:PX 109 acZ:=⟨_,by conv=>lhs;reduce⟩
def abn:O2:=bf c F aY ac0.1 [x0,x1] s
def alE:=(by dsimp only[abn,ac0,go_sem,Int.reduceOfNat]:abn c F x0 x1 s=_)
def Oq:Sh:=(sq sl (sq (sq sl (sc (sq sl sl) sl)) (sq (sq sl (sb (sp 0 [0,13,14] [(1,[2]),(2,[])] (sq sl (sq (sc sl sl) (sq (sb (sq sl (sq sl (sc (sq sl sl) sl)))) sl)))))) (sq sl sl))))
def Z4:PX 110 Oq:=⟨_,by conv=>lhs;reduce⟩
def Xz:PL 110 Oq 0:=⟨_,by conv=>lhs;reduce⟩
def uG(k1 k2:Q2):Nat->Q2
 |0,_,_=>none
 |n+1,vs,s=>dR c F aY (uG k1 k2 n) [k1,k2] Xz.1 vs s
def P9(k1 k2:Q2)(n:Nat)(vs:List AV)(s:St):=(by dsimp only[uG,Xz,go_sem,Int.reduceOfNat]:uG c F k1 k2 (n+1) vs s=_)
def Ot:Un->List Q2->Nat->Q2
 | .z,[k1,k2]=>uG c F k1 k2
 |_,_=>λ_=>fD
def XA:O2:=bf c F (Ot c F) Z4.1 [x0] s
def aja:=(by dsimp only[XA,Z4, ↓Ot,go_sem,Int.reduceOfNat]:XA c F x0 s=_)
def Z5:Sh:=(sq sl (sq sl (sq (sq sl (sc (sq sl sl) sl)) (sq sl sl))))
def Z6:PX 111 Z5:=⟨_,by conv=>lhs;reduce⟩
def XB:O2:=bf c F aY Z6.1 [x0,x1] s
def ajd:=(by dsimp only[XB,Z6,go_sem,Int.reduceOfNat]:XB c F x0 x1 s=_)
def uP:Sh:=(sq sl (sq (sq sl (sc (sq sl sl) sl)) (sq sl sl)))
def uQ:PX 117 uP:=⟨_,by conv=>lhs;reduce⟩
def pK:O2:=bf c F aY uQ.1 [x0] s
def jR:=(by dsimp only[pK,uQ,go_sem,Int.reduceOfNat]:pK c F x0 s=_)
def XC:Sh:=(sq sl (sq sl (sq sl sl)))
def XD:PX 120 XC:=⟨_,by conv=>lhs;reduce⟩
def Ta:O2:=bf c F aY XD.1 [x0] s
def ahV:=(by dsimp only[Ta,XD,go_sem,Int.reduceOfNat]:Ta c F x0 s=_)
def Z7:Sh:=(sq sl (sq sl (sq (sq sl (sc (sq sl sl) sl)) (sq sl sl))))
def Z8:PX 121 Z7:=⟨_,by conv=>lhs;reduce⟩
def XE:O2:=bf c F aY Z8.1 [x0] s
def ai9:=(by dsimp only[XE,Z8,go_sem,Int.reduceOfNat]:XE c F x0 s=_)
def ND:Sh:=(sq sl (sq (sq sl (sc (sq sl sl) sl)) (sq sl sl)))
def NF:PX 122 ND:=⟨_,by conv=>lhs;reduce⟩
def Iv:O2:=bf c F aY NF.1 [x0] s
def acF:=(by dsimp only[Iv,NF,go_sem,Int.reduceOfNat]:Iv c F x0 s=_)
def Z9:Sh:=(sq sl (sq sl sl))
def aaa:PX 128 Z9:=⟨_,by conv=>lhs;reduce⟩
def XF:O2:=bf c F aY aaa.1 [] s
def aje:=(by dsimp only[XF,aaa,go_sem,Int.reduceOfNat]:XF c F s=_)
def LY:Sh:=(sq sl (sq (sq sl (sc (sq sl sl) sl)) (sq (sq sl (sq sl (sc (sq sl sl) sl))) (sq (sq sl (sq sl (sc (sq sl sl) sl))) (sq (sq sl (sc (sq sl sl) sl)) (sq sl (sq sl (sq sl sl))))))))
def LZ:PX 129 LY:=⟨_,by conv=>lhs;reduce⟩
def zu:O2:=bf c F aY LZ.1 [x0,x1] s
def vJ:=(by dsimp only[zu,LZ,go_sem,Int.reduceOfNat]:zu c F x0 x1 s=_)
def T7:Sh:=(sq sl (sq (sq sl (sq sl (sc (sq sl sl) sl))) (sq sl sl)))
def T8:PX 130 T7:=⟨_,by conv=>lhs;reduce⟩
def Ou:O2:=bf c F aY T8.1 [x0,x1] s
def afF:=(by dsimp only[Ou,T8,go_sem,Int.reduceOfNat]:Ou c F x0 x1 s=_)
def Bz:Sh:=(sq sl (sq (sq sl (sc (sq sl sl) sl)) (sq (sq sl (sc (sq sl sl) sl)) (sq (sq sl (sb (sp 0 [0,1,2,3,30,31,32] [(1,[8]),(2,[0,1,2,3])] (sq sl (sq (sc sl sl) (sq (sb (sq sl (sq sl (sq sl (sc (sq sl sl) sl))))) sl)))))) (sq sl (sq (sq sl (sc (sq sl sl) sl)) (sq (sq sl (sc (sq sl sl) sl)) (sq sl (sq sl sl)))))))))
def L8:PX 131 Bz:=⟨_,by conv=>lhs;reduce⟩
def IX:PL 131 Bz 0:=⟨_,by conv=>lhs;reduce⟩
def nk(k1 k2:Q2):Nat->Q2
 |0,_,_=>none
 |n+1,vs,s=>dR c F aY (nk k1 k2 n) [k1,k2] IX.1 vs s
def xk(k1 k2:Q2)(n:Nat)(vs:List AV)(s:St):=(by dsimp only[nk,IX,go_sem,Int.reduceOfNat]:nk c F k1 k2 (n+1) vs s=_)
def BA:Un->List Q2->Nat->Q2
 | .z,[k1,k2]=>nk c F k1 k2
 |_,_=>λ_=>fD
def zw:O2:=bf c F (BA c F) L8.1 [x0,x1,x2,x3] s
def vK:=(by dsimp only[zw,L8, ↓BA,go_sem,Int.reduceOfNat]:zw c F x0 x1 x2 x3 s=_)
def IY:Sh:=(sq sl (sq sl sl))
def IZ:PX 136 IY:=⟨_,by conv=>lhs;reduce⟩
def DA:O2:=bf c F aY IZ.1 [x0] s
def Zc:=(by dsimp only[DA,IZ,go_sem,Int.reduceOfNat]:DA c F x0 s=_)
def Hp:Sh:=(sq sl (sq sl sl))
def Hq:PX 137 Hp:=⟨_,by conv=>lhs;reduce⟩
def BB:O2:=bf c F aY Hq.1 [x0,x1,x2] s
def He:=(by dsimp only[BB,Hq,go_sem,Int.reduceOfNat]:BB c F x0 x1 x2 s=_)
def L9:Sh:=(sq sl (sq sl (sq sl (sq (sb (sq sl (sc (sq sl sl) (sq sl (sc (sq sl sl) sl))))) (sq (sq sl (sb (sp 0 [1,3,4,18,19,20] [(1,[2]),(3,[1])] (sq sl (sq (sc sl sl) (sq (sb (sq sl (sq (sq sl (sc (sq sl sl) sl)) sl))) sl)))))) (sq (sq sl (sc (sq sl sl) sl)) (sq sl sl)))))))
def XG:PX 158 L9:=⟨_,by conv=>lhs;reduce⟩
def T9:PL 158 L9 0:=⟨_,by conv=>lhs;reduce⟩
def sy(k1 k3:Q2):Nat->Q2
 |0,_,_=>none
 |n+1,vs,s=>dR c F aY (sy k1 k3 n) [k1,k3] T9.1 vs s
def Nr(k1 k3:Q2)(n:Nat)(vs:List AV)(s:St):=(by dsimp only[sy,T9,go_sem,Int.reduceOfNat,Int.reduceNegSucc]:sy c F k1 k3 (n+1) vs s=_)
def Ma:Un->List Q2->Nat->Q2
 | .z,[k1,k3]=>sy c F k1 k3
 |_,_=>λ_=>fD
def Tb:O2:=bf c F (Ma c F) XG.1 [x0] s
def ahS:=(by dsimp only[Tb,XG, ↓Ma,go_sem,Int.reduceOfNat,Int.reduceNegSucc]:Tb c F x0 s=_)
def mD:Sh:=(sq sl (sq sl sl))
def mE:PX 159 mD:=⟨_,by conv=>lhs;reduce⟩
def iL:O2:=bf c F aY mE.1 [x0,x1] s
def uW:=(by dsimp only[iL,mE,go_sem,Int.reduceOfNat]:iL c F x0 x1 s=_)
def I0:Sh:=(sq sl (sq sl sl))
def I3:PX 160 I0:=⟨_,by conv=>lhs;reduce⟩
def DB:O2:=bf c F aY I3.1 [x0,x1] s
def Y9:=(by dsimp only[DB,I3,go_sem,Int.reduceOfNat]:DB c F x0 x1 s=_)
def iV:Sh:=(sq sl (sq (sq sl (sb (sp 0 [0,1,7,8] [(1,[4]),(2,[])] (sq sl (sq (sc sl sl) (sq (sb (sq sl (sq sl (sc (sq sl sl) sl)))) sl)))))) (sq sl sl)))
def n9:PX 175 iV:=⟨_,by conv=>lhs;reduce⟩
def nE:PL 175 iV 0:=⟨_,by conv=>lhs;reduce⟩
def cU(k1 k2:Q2):Nat->Q2
 |0,_,_=>none
 |n+1,vs,s=>dR c F aY (cU k1 k2 n) [k1,k2] nE.1 vs s
def mC(k1 k2:Q2)(n:Nat)(vs:List AV)(s:St):=(by dsimp only[cU,nE,go_sem,Int.reduceOfNat,Int.reduceNegSucc]:cU c F k1 k2 (n+1) vs s=_)
def iW:Un->List Q2->Nat->Q2
 | .z,[k1,k2]=>cU c F k1 k2
 |_,_=>λ_=>fD
def jK:O2:=bf c F (iW c F) n9.1 [x0,x1] s
def xp:=(by dsimp only[jK,n9, ↓iW,go_sem,Int.reduceOfNat,Int.reduceNegSucc]:jK c F x0 x1 s=_)
def XH:Sh:=(sq sl (sq sl sl))
def XI:PX 176 XH:=⟨_,by conv=>lhs;reduce⟩
def Tc:O2:=bf c F aY XI.1 [x0,x1] s
def ah7:=(by dsimp only[Tc,XI,go_sem,Int.reduceOfNat]:Tc c F x0 x1 s=_)
def iX:Sh:=(sq sl (sq (sq sl (sb (sp 0 [0,1,7,8] [(1,[4]),(2,[])] (sq sl (sq (sc sl sl) (sq (sb (sq sl (sq sl (sc (sq sl sl) sl)))) sl)))))) (sq sl sl)))
def oa:PX 177 iX:=⟨_,by conv=>lhs;reduce⟩
def nF:PL 177 iX 0:=⟨_,by conv=>lhs;reduce⟩
def cS(k1 k2:Q2):Nat->Q2
 |0,_,_=>none
 |n+1,vs,s=>dR c F aY (cS k1 k2 n) [k1,k2] nF.1 vs s
def mB(k1 k2:Q2)(n:Nat)(vs:List AV)(s:St):=(by dsimp only[cS,nF,go_sem,Int.reduceOfNat,Int.reduceNegSucc]:cS c F k1 k2 (n+1) vs s=_)
def iY:Un->List Q2->Nat->Q2
 | .z,[k1,k2]=>cS c F k1 k2
 |_,_=>λ_=>fD
def jL:O2:=bf c F (iY c F) oa.1 [x0,x1] s
def xj:=(by dsimp only[jL,oa, ↓iY,go_sem,Int.reduceOfNat,Int.reduceNegSucc]:jL c F x0 x1 s=_)
def Ua:Sh:=(sq sl (sq sl sl))
def Ub:PX 178 Ua:=⟨_,by conv=>lhs;reduce⟩
def Ov:O2:=bf c F aY Ub.1 [x0,x1] s
def afB:=(by dsimp only[Ov,Ub,go_sem,Int.reduceOfNat]:Ov c F x0 x1 s=_)
def NG:Sh:=(sq sl (sq (sq sl (sb (sq sl (sc (sq sl sl) (sq sl (sc (sq sl sl) (sq sl (sc (sq sl sl) (sq sl (sc (sq sl sl) sl)))))))))) (sq sl sl)))
def NH:PX 180 NG:=⟨_,by conv=>lhs;reduce⟩
def Iw:O2:=bf c F aY NH.1 [x0] s
def acy:=(by dsimp only[Iw,NH,go_sem,Int.reduceOfNat]:Iw c F x0 s=_)
def Iy:Sh:=(sq sl (sq (sb (sq sl (sc (sq sl sl) (sq sl (sc (sq sl sl) (sq sl (sc (sq sl sl) (sq sl (sc (sq sl sl) sl))))))))) (sq (sq sl (sb (sp 0 [1,52,53,54] [(1,[2]),(3,[])] (sq sl (sq (sc sl sl) (sq (sb (sq sl (sq sl (sc (sq sl sl) sl)))) sl)))))) (sq sl sl))))
def Uc:PX 182 Iy:=⟨_,by conv=>lhs;reduce⟩
def Qz:PL 182 Iy 0:=⟨_,by conv=>lhs;reduce⟩
def qD(k1 k3:Q2):Nat->Q2
 |0,_,_=>none
 |n+1,vs,s=>dR c F aY (qD k1 k3 n) [k1,k3] Qz.1 vs s
def Lv(k1 k3:Q2)(n:Nat)(vs:List AV)(s:St):=(by dsimp only[qD,Qz,go_sem,Int.reduceOfNat]:qD c F k1 k3 (n+1) vs s=_)
def Iz:Un->List Q2->Nat->Q2
 | .z,[k1,k3]=>qD c F k1 k3
 |_,_=>λ_=>fD
def Ox:O2:=bf c F (Iz c F) Uc.1 [x0] s
def afE:=(by dsimp only[Ox,Uc, ↓Iz,go_sem,Int.reduceOfNat]:Ox c F x0 s=_)
def QC:Sh:=(sq sl (sq sl (sq sl sl)))
def QD:PX 183 QC:=⟨_,by conv=>lhs;reduce⟩
def Mb:O2:=bf c F aY QD.1 [x0] s
def adY:=(by dsimp only[Mb,QD,go_sem,Int.reduceOfNat]:Mb c F x0 s=_)
def I6:Sh:=(sq sl (sq sl sl))
def I7:PX 184 I6:=⟨_,by conv=>lhs;reduce⟩
def strings_Compare:O2:=bf c F aY I7.1 [x0,x1] s
def Zb:=(by dsimp only[strings_Compare,I7,go_sem,Int.reduceOfNat]:strings_Compare c F x0 x1 s=_)
def rM:Sh:=(sq sl (sq sl (sq sl (sq (sq sl (sc (sq sl sl) sl)) (sq sl (sq (sq sl (sc (sq sl sl) sl)) (sq (sq sl (sc (sq sl (sq sl (sq sl (sq sl sl)))) sl)) (sq sl (sq (sq sl (sc (sq sl (sq sl (sq sl sl))) sl)) (sq sl (sq sl (sq sl sl))))))))))))
def rP:PX 185 rM:=⟨_,by conv=>lhs;reduce⟩
def nI:O2:=bf c F aY rP.1 [x0,x1,x2] s
def Cu:=(by dsimp only[nI,rP,go_sem,Int.reduceOfNat]:nI c F x0 x1 x2 s=_)
def XJ:Sh:=(sq sl (sq sl sl))
def XK:PX 186 XJ:=⟨_,by conv=>lhs;reduce⟩
def Td:O2:=bf c F aY XK.1 [x0,x1,x2] s
def W7:=(by dsimp only[Td,XK,go_sem,Int.reduceOfNat]:Td c F x0 x1 x2 s=_)
def fA:Sh:=(sq sl (sq sl (sq sl (sq (sb (sp 0 [0,2,4,8,9,10] [(2,[0,2,4,8,9])] (sq (sq sl (sc sl sl)) (sb (sq sl (sq sl (sc sl sl))))))) (sq sl sl)))))
def js:PX 189 fA:=⟨_,by conv=>lhs;reduce⟩
def jf:PL 189 fA 0:=⟨_,by conv=>lhs;reduce⟩
def bn(k2:Q2):Nat->Q2
 |0,_,_=>none
 |n+1,vs,s=>dR c F aY (bn k2 n) [k2] jf.1 vs s
def eM(k2:Q2)(n:Nat)(vs:List AV)(s:St):=(by dsimp only[bn,jf,go_sem,Int.reduceOfNat]:bn c F k2 (n+1) vs s=_)
def fB:Un->List Q2->Nat->Q2
 | .z,[k2]=>bn c F k2
 |_,_=>λ_=>fD
def fL:O2:=bf c F (fB c F) js.1 [x0,x1,x2] s
def qE:=(by dsimp only[fL,js, ↓fB,go_sem,Int.reduceOfNat]:fL c F x0 x1 x2 s=_)
def Oy:Sh:=(sq sl (sq (sq sl (sb (sp 0 [0,3] [(1,[2]),(2,[0])] (sq (sq sl (sc sl sl)) (sq (sb (sq sl (sc (sq sl sl) sl))) sl))))) (sq sl sl)))
def aab:PX 203 Oy:=⟨_,by conv=>lhs;reduce⟩
def XL:PL 203 Oy 0:=⟨_,by conv=>lhs;reduce⟩
def uH(k1 k2:Q2):Nat->Q2
 |0,_,_=>none
 |n+1,vs,s=>dR c F aY (uH k1 k2 n) [k1,k2] XL.1 vs s
def Qa(k1 k2:Q2)(n:Nat)(vs:List AV)(s:St):=(by dsimp only[uH,XL,go_sem,Int.reduceOfNat]:uH c F k1 k2 (n+1) vs s=_)
def Oz:Un->List Q2->Nat->Q2
 | .z,[k1,k2]=>uH c F k1 k2
 |_,_=>λ_=>fD
def XM:O2:=bf c F (Oz c F) aab.1 [x0] s
def ajb:=(by dsimp only[XM,aab, ↓Oz,go_sem,Int.reduceOfNat]:XM c F x0 s=_)
def I8:Sh:=(sq sl (sq (sq sl (sc (sq sl sl) sl)) (sq sl sl)))
def I9:PX 204 I8:=⟨_,by conv=>lhs;reduce⟩
def DC:O2:=bf c F aY I9.1 [x0,x1] s
def Y6:=(by dsimp only[DC,I9,go_sem,Int.reduceOfNat]:DC c F x0 x1 s=_)
def Mc:Sh:=(sq sl (sq (sq sl (sc (sq sl sl) sl)) (sq sl sl)))
def Md:PX 209 Mc:=⟨_,by conv=>lhs;reduce⟩
def FY:O2:=bf c F aY Md.1 [x0,x1] s
def abb:=(by dsimp only[FY,Md,go_sem,Int.reduceOfNat]:FY c F x0 x1 s=_)
def Me:Sh:=(sq sl (sq (sq sl (sc (sq sl sl) sl)) (sq sl sl)))
def Mf:PX 214 Me:=⟨_,by conv=>lhs;reduce⟩
def FZ:O2:=bf c F aY Mf.1 [x0,x1] s
def abc:=(by dsimp only[FZ,Mf,go_sem,Int.reduceOfNat]:FZ c F x0 x1 s=_)
def NI:Sh:=(sq sl (sq (sq sl (sc (sq sl sl) sl)) (sq sl sl)))
def NJ:PX 219 NI:=⟨_,by conv=>lhs;reduce⟩
def IA:O2:=bf c F aY NJ.1 [x0,x1] s
def acw:=(by dsimp only[IA,NJ,go_sem,Int.reduceOfNat]:IA c F x0 x1 s=_)
def Mg:Sh:=(sq sl (sq (sq sl (sc (sq sl sl) sl)) (sq (sq sl (sb (sp 0 [0,13,14] [(1,[2]),(2,[])] (sq sl (sq (sc sl sl) (sq (sb (sq sl (sq sl (sc (sq sl sl) sl)))) sl)))))) (sq sl sl))))
def XN:PX 225 Mg:=⟨_,by conv=>lhs;reduce⟩
def Ud:PL 225 Mg 0:=⟨_,by conv=>lhs;reduce⟩
def sx(k1 k2:Q2):Nat->Q2
 |0,_,_=>none
 |n+1,vs,s=>dR c F aY (sx k1 k2 n) [k1,k2] Ud.1 vs s
def Nq(k1 k2:Q2)(n:Nat)(vs:List AV)(s:St):=(by dsimp only[sx,Ud,go_sem,Int.reduceOfNat]:sx c F k1 k2 (n+1) vs s=_)
def Mh:Un->List Q2->Nat->Q2
 | .z,[k1,k2]=>sx c F k1 k2
 |_,_=>λ_=>fD
def Te:O2:=bf c F (Mh c F) XN.1 [x0] s
def ahO:=(by dsimp only[Te,XN, ↓Mh,go_sem,Int.reduceOfNat]:Te c F x0 s=_)
def XO:Sh:=(sq sl (sq sl sl))
def XP:PX 226 XO:=⟨_,by conv=>lhs;reduce⟩
def Tf:O2:=bf c F aY XP.1 [x0] s
def ahR:=(by dsimp only[Tf,XP,go_sem,Int.reduceOfNat]:Tf c F x0 s=_)
def zK:Sh:=(sq sl (sq sl sl))
def zL:PX 227 zK:=⟨_,by conv=>lhs;reduce⟩
def bytealg_CompareString:O2:=bf c F aY zL.1 [x0,x1] s
def ME:=(by dsimp only[bytealg_CompareString,zL,go_sem,Int.reduceOfNat]:bytealg_CompareString c F x0 x1 s=_)
end
section
variable{c : aj}(hc : Sem c)(F : Nat){x0 x1 x2 x3 x4 x5 x6 x7 x8 x9 x10 x11 : AV}{s : St}{r : AV × St}
include hc
theorem ad1(h:SY c F x0 s=some r):c 49 [x0] s=some (tidy s r):=hc.o1 F (LQ c F) LP (by kernel_rfl) (by kernel_rfl) (λ_ _ _=>by kernel_rfl) (λ_ _ _ _=>by kernel_rfl) (by kernel_rfl) h
theorem ad3(h:S6 c F s=some r):c 50 [] s=some (tidy s r):=hc.o0 F Xs (by kernel_rfl) (by kernel_rfl) h
theorem UW(h:Du c F x0 x1 x2 s=some r):c 51 [x0,x1,x2] s=some (tidy s r):=hc.o0 F IN (by kernel_rfl) (by kernel_rfl) h
theorem Qg(h:S7 c F x0 s=some r):c 56 [x0] s=some (tidy s r):=hc.o1 F (LS c F) LR (by kernel_rfl) (by kernel_rfl) (λ_ _ _=>by kernel_rfl) (λ_ _ _ _=>by kernel_rfl) (by kernel_rfl) h
theorem Qb(h:S8 c F x0 x1 s=some r):c 58 [x0,x1] s=some (tidy s r):=hc.o1 F (LV c F) LU (by kernel_rfl) (by kernel_rfl) (λ_ _ _=>by kernel_rfl) (λ_ _ _ _=>by kernel_rfl) (by kernel_rfl) h
theorem adV(h:S9 c F x0 s=some r):c 59 [x0] s=some (tidy s r):=hc.o0 F Xw (by kernel_rfl) (by kernel_rfl) h
theorem ad0(h:Dm c F x0 s=some r):c 68 [x0] s=some (tidy s r):=hc.oL F (LW c F) Dv 2 (by kernel_rfl) (λi hi=>match i,hi with|0,_=>cr 0 (by kernel_rfl) (λ_ _ _=>by kernel_rfl) (λ_ _ _ _=>by kernel_rfl)|1,_=>cr 1 (by kernel_rfl) (λ_ _ _=>by kernel_rfl) (λ_ _ _ _=>by kernel_rfl)|n+2,h=>absurd h (by omega)) (by kernel_rfl) h
theorem IJ(h:Iu c F x0 s=some r):c 88 [x0] s=some (tidy s r):=hc.o1 F (Dx c F) Dw (by kernel_rfl) (by kernel_rfl) (λ_ _ _=>by kernel_rfl) (λ_ _ _ _=>by kernel_rfl) (by kernel_rfl) h
theorem UT(h:Dy c F x0 s=some r):c 89 [x0] s=some (tidy s r):=hc.o0 F IQ (by kernel_rfl) (by kernel_rfl) h
theorem UU(h:Dz c F x0 x1 s=some r):c 108 [x0,x1] s=some (tidy s r):=hc.o0 F IV (by kernel_rfl) (by kernel_rfl) h
theorem ah8(h:abn c F x0 x1 s=some r):c 109 [x0,x1] s=some (tidy s r):=hc.o0 F acZ (by kernel_rfl) (by kernel_rfl) h
theorem afz(h:XA c F x0 s=some r):c 110 [x0] s=some (tidy s r):=hc.o1 F (Ot c F) Oq (by kernel_rfl) (by kernel_rfl) (λ_ _ _=>by kernel_rfl) (λ_ _ _ _=>by kernel_rfl) (by kernel_rfl) h
theorem afD(h:XB c F x0 x1 s=some r):c 111 [x0,x1] s=some (tidy s r):=hc.o0 F Z5 (by kernel_rfl) (by kernel_rfl) h
theorem je(h:pK c F x0 s=some r):c 117 [x0] s=some (tidy s r):=hc.o0 F uP (by kernel_rfl) (by kernel_rfl) h
theorem adU(h:Ta c F x0 s=some r):c 120 [x0] s=some (tidy s r):=hc.o0 F XC (by kernel_rfl) (by kernel_rfl) h
theorem afy(h:XE c F x0 s=some r):c 121 [x0] s=some (tidy s r):=hc.o0 F Z7 (by kernel_rfl) (by kernel_rfl) h
theorem Za(h:Iv c F x0 s=some r):c 122 [x0] s=some (tidy s r):=hc.o0 F ND (by kernel_rfl) (by kernel_rfl) h
theorem afG(h:XF c F s=some r):c 128 [] s=some (tidy s r):=hc.o0 F Z9 (by kernel_rfl) (by kernel_rfl) h
theorem G8(h:zu c F x0 x1 s=some r):c 129 [x0,x1] s=some (tidy s r):=hc.o0 F LY (by kernel_rfl) (by kernel_rfl) h
theorem acI(h:Ou c F x0 x1 s=some r):c 130 [x0,x1] s=some (tidy s r):=hc.o0 F T7 (by kernel_rfl) (by kernel_rfl) h
theorem yP(h:zw c F x0 x1 x2 x3 s=some r):c 131 [x0,x1,x2,x3] s=some (tidy s r):=hc.o1 F (BA c F) Bz (by kernel_rfl) (by kernel_rfl) (λ_ _ _=>by kernel_rfl) (λ_ _ _ _=>by kernel_rfl) (by kernel_rfl) h
theorem US(h:DA c F x0 s=some r):c 136 [x0] s=some (tidy s r):=hc.o0 F IY (by kernel_rfl) (by kernel_rfl) h
theorem Dl(h:BB c F x0 x1 x2 s=some r):c 137 [x0,x1,x2] s=some (tidy s r):=hc.o0 F Hp (by kernel_rfl) (by kernel_rfl) h
theorem adS(h:Tb c F x0 s=some r):c 158 [x0] s=some (tidy s r):=hc.o1 F (Ma c F) L9 (by kernel_rfl) (by kernel_rfl) (λ_ _ _=>by kernel_rfl) (λ_ _ _ _=>by kernel_rfl) (by kernel_rfl) h
theorem uk(h:iL c F x0 x1 s=some r):c 159 [x0,x1] s=some (tidy s r):=hc.o0 F mD (by kernel_rfl) (by kernel_rfl) h
theorem UQ(h:DB c F x0 x1 s=some r):c 160 [x0,x1] s=some (tidy s r):=hc.o0 F I0 (by kernel_rfl) (by kernel_rfl) h
theorem vL(h:jK c F x0 x1 s=some r):c 175 [x0,x1] s=some (tidy s r):=hc.o1 F (iW c F) iV (by kernel_rfl) (by kernel_rfl) (λ_ _ _=>by kernel_rfl) (λ_ _ _ _=>by kernel_rfl) (by kernel_rfl) h
theorem ad2(h:Tc c F x0 x1 s=some r):c 176 [x0,x1] s=some (tidy s r):=hc.o0 F XH (by kernel_rfl) (by kernel_rfl) h
theorem vG(h:jL c F x0 x1 s=some r):c 177 [x0,x1] s=some (tidy s r):=hc.o1 F (iY c F) iX (by kernel_rfl) (by kernel_rfl) (λ_ _ _=>by kernel_rfl) (λ_ _ _ _=>by kernel_rfl) (by kernel_rfl) h
theorem acE(h:Ov c F x0 x1 s=some r):c 178 [x0,x1] s=some (tidy s r):=hc.o0 F Ua (by kernel_rfl) (by kernel_rfl) h
theorem Y8(h:Iw c F x0 s=some r):c 180 [x0] s=some (tidy s r):=hc.o0 F NG (by kernel_rfl) (by kernel_rfl) h
theorem acG(h:Ox c F x0 s=some r):c 182 [x0] s=some (tidy s r):=hc.o1 F (Iz c F) Iy (by kernel_rfl) (by kernel_rfl) (λ_ _ _=>by kernel_rfl) (λ_ _ _ _=>by kernel_rfl) (by kernel_rfl) h
theorem abf(h:Mb c F x0 s=some r):c 183 [x0] s=some (tidy s r):=hc.o0 F QC (by kernel_rfl) (by kernel_rfl) h
theorem UR(h:strings_Compare c F x0 x1 s=some r):c 184 [x0,x1] s=some (tidy s r):=hc.o0 F I6 (by kernel_rfl) (by kernel_rfl) h
theorem AK(h:nI c F x0 x1 x2 s=some r):c 185 [x0,x1,x2] s=some (tidy s r):=hc.o0 F rM (by kernel_rfl) (by kernel_rfl) h
theorem Qd(h:Td c F x0 x1 x2 s=some r):c 186 [x0,x1,x2] s=some (tidy s r):=hc.o0 F XJ (by kernel_rfl) (by kernel_rfl) h
theorem pQ(h:fL c F x0 x1 x2 s=some r):c 189 [x0,x1,x2] s=some (tidy s r):=hc.o1 F (fB c F) fA (by kernel_rfl) (by kernel_rfl) (λ_ _ _=>by kernel_rfl) (λ_ _ _ _=>by kernel_rfl) (by kernel_rfl) h
theorem afA(h:XM c F x0 s=some r):c 203 [x0] s=some (tidy s r):=hc.o1 F (Oz c F) Oy (by kernel_rfl) (by kernel_rfl) (λ_ _ _=>by kernel_rfl) (λ_ _ _ _=>by kernel_rfl) (by kernel_rfl) h
theorem UP(h:DC c F x0 x1 s=some r):c 204 [x0,x1] s=some (tidy s r):=hc.o0 F I8 (by kernel_rfl) (by kernel_rfl) h
theorem WW(h:FY c F x0 x1 s=some r):c 209 [x0,x1] s=some (tidy s r):=hc.o0 F Mc (by kernel_rfl) (by kernel_rfl) h
theorem WY(h:FZ c F x0 x1 s=some r):c 214 [x0,x1] s=some (tidy s r):=hc.o0 F Me (by kernel_rfl) (by kernel_rfl) h
theorem Y7(h:IA c F x0 x1 s=some r):c 219 [x0,x1] s=some (tidy s r):=hc.o0 F NI (by kernel_rfl) (by kernel_rfl) h
theorem adO(h:Te c F x0 s=some r):c 225 [x0] s=some (tidy s r):=hc.o1 F (Mh c F) Mg (by kernel_rfl) (by kernel_rfl) (λ_ _ _=>by kernel_rfl) (λ_ _ _ _=>by kernel_rfl) (by kernel_rfl) h
theorem adR(h:Tf c F x0 s=some r):c 226 [x0] s=some (tidy s r):=hc.o0 F XO (by kernel_rfl) (by kernel_rfl) h
theorem Ko(h:bytealg_CompareString c F x0 x1 s=some r):c 227 [x0,x1] s=some (tidy s r):=hc.o0 F zK (by kernel_rfl) (by kernel_rfl) h
end
set_option linter.all false
set_option maxRecDepth 100000
set_option maxHeartbeats 4000000
open Go Go.Ai Go.Proofs
attribute [local go_sem ↓] bf Gk ev evX GH getLT Gj aaM kat C9 Da V9 Wc Wd We Pn Po Pp Pq Pr Pt Wg Wh Pu Pv Px Py Pz ab7 ab8 ab9
attribute [local go_sem] bf Gk ev
section
variable(c : aj)(F : Nat)(x0 x1 x2 x3 x4 x5 x6 x7 x8 x9 x10 x11 : AV)(s : St)
def vQ:Sh:=(sq sl (sq (sq sl (sq sl (sc (sq sl sl) sl))) (sq sl (sq (sq sl (sb (sp 0 [1,7,40,41] [(2,[1,7])] (sq sl (sq (sc sl sl) (sq (sb (sq sl (sq sl (sq sl (sq sl (sb (sp 1 [1,7,8,9,10,11,40,41] [(4,[1,7,40,41])] (sq (sq sl (sc sl sl)) (sq (sb (sq sl (sq sl (sq sl (sq sl sl))))) (sq (sq sl sl) sl)))))))))) sl)))))) (sq (sq sl (sb (sp 2 [1,7,131,132] [(6,[1,7])] (sq sl (sq (sc sl sl) (sq (sb (sq sl sl)) sl)))))) (sq sl (sq (sq sl (sb (sp 3 [1,7,13,159,160,161] [(8,[7])] (sq sl (sq (sc sl sl) (sq (sb (sq sl (sq sl (sq sl (sq (sq sl (sb (sp 4 [1,7,13,17,18,19,159,160,161,166,167,168] [(10,[1,7,13,18,19,159,160,161])] (sq sl (sq (sc sl sl) (sq (sb (sq sl (sq sl (sq sl sl)))) sl)))))) sl))))) sl)))))) (sq sl sl))))))))
def ac1:PX 18 vQ:=⟨_,by conv=>lhs;reduce⟩
def aac:PL 18 vQ 4:=⟨_,by conv=>lhs;reduce⟩
def wX(Ny:Q2):Nat->Q2
 |0,_,_=>none
 |n+1,vs,s=>dR c F aY (wX Ny n) [Ny] aac.1 vs s
def TV(Ny:Q2)(n:Nat)(vs:List AV)(s:St):=(by dsimp only[wX,aac,go_sem,Int.reduceOfNat]:wX c F Ny (n+1) vs s=_)
def aad:Un->List Q2->Nat->Q2
 |(.s (.s (.s (.s .z)))),[Ny]=>wX c F Ny
 |_,_=>λ_=>fD
def aae:PL 18 vQ 3:=⟨_,by conv=>lhs;reduce⟩
def AQ(k8:Q2):Nat->Q2
 |0,_,_=>none
 |n+1,vs,s=>dR c F (aad c F) (AQ k8 n) [k8] aae.1 vs s
def TW(k8:Q2)(n:Nat)(vs:List AV)(s:St):=(by dsimp only[AQ,aae, ↓aad,go_sem,Int.reduceOfNat]:AQ c F k8 (n+1) vs s=_)
def aaf:PL 18 vQ 2:=⟨_,by conv=>lhs;reduce⟩
def AP(k6:Q2):Nat->Q2
 |0,_,_=>none
 |n+1,vs,s=>dR c F aY (AP k6 n) [k6] aaf.1 vs s
def TU(k6:Q2)(n:Nat)(vs:List AV)(s:St):=(by dsimp only[AP,aaf,go_sem,Int.reduceOfNat]:AP c F k6 (n+1) vs s=_)
def aag:PL 18 vQ 1:=⟨_,by conv=>lhs;reduce⟩
def wW(k4:Q2):Nat->Q2
 |0,_,_=>none
 |n+1,vs,s=>dR c F aY (wW k4 n) [k4] aag.1 vs s
def TQ(k4:Q2)(n:Nat)(vs:List AV)(s:St):=(by dsimp only[wW,aag,go_sem,Int.reduceOfNat]:wW c F k4 (n+1) vs s=_)
def aah:Un->List Q2->Nat->Q2
 |(.s .z),[k4]=>wW c F k4
 |_,_=>λ_=>fD
def aai:PL 18 vQ 0:=⟨_,by conv=>lhs;reduce⟩
def AO(k2:Q2):Nat->Q2
 |0,_,_=>none
 |n+1,vs,s=>dR c F (aah c F) (AO k2 n) [k2] aai.1 vs s
def TR(k2:Q2)(n:Nat)(vs:List AV)(s:St):=(by dsimp only[AO,aai, ↓aah,go_sem,Int.reduceOfNat]:AO c F k2 (n+1) vs s=_)
def Th:Un->List Q2->Nat->Q2
 | .z,[k2]=>AO c F k2
 |(.s .z),[k4]=>wW c F k4
 |(.s (.s .z)),[k6]=>AP c F k6
 |(.s (.s (.s .z))),[k8]=>AQ c F k8
 |(.s (.s (.s (.s .z)))),[Ny]=>wX c F Ny
 |_,_=>λ_=>fD
def abo:O2:=bf c F (Th c F) ac1.1 [x0] s
def al3:=(by dsimp only[abo,ac1, ↓Th,go_sem,Int.reduceOfNat]:abo c F x0 s=_)
def Bm:Sh:=(sq sl (sq sl (sq (sq sl (sb (sp 0 [1,2,11,12] [(2,[1,2])] (sq sl (sq (sc sl sl) (sq (sb (sq sl sl)) sl)))))) (sq sl (sq (sq sl (sb (sp 1 [1,2,34,35] [(4,[1,2])] (sq sl (sq (sc sl sl) (sq (sb (sq sl sl)) sl)))))) (sq sl (sq sl sl)))))))
def Ue:PX 57 Bm:=⟨_,by conv=>lhs;reduce⟩
def QG:PL 57 Bm 1:=⟨_,by conv=>lhs;reduce⟩
def uM(k4:Q2):Nat->Q2
 |0,_,_=>none
 |n+1,vs,s=>dR c F aY (uM k4 n) [k4] QG.1 vs s
def LJ(k4:Q2)(n:Nat)(vs:List AV)(s:St):=(by dsimp only[uM,QG,go_sem,Int.reduceOfNat]:uM c F k4 (n+1) vs s=_)
def QH:PL 57 Bm 0:=⟨_,by conv=>lhs;reduce⟩
def uL(k2:Q2):Nat->Q2
 |0,_,_=>none
 |n+1,vs,s=>dR c F aY (uL k2 n) [k2] QH.1 vs s
def LG(k2:Q2)(n:Nat)(vs:List AV)(s:St):=(by dsimp only[uL,QH,go_sem,Int.reduceOfNat]:uL c F k2 (n+1) vs s=_)
def IB:Un->List Q2->Nat->Q2
 | .z,[k2]=>uL c F k2
 |(.s .z),[k4]=>uM c F k4
 |_,_=>λ_=>fD
def OC:O2:=bf c F (IB c F) Ue.1 [x0] s
def afV:=(by dsimp only[OC,Ue, ↓IB,go_sem,Int.reduceOfNat]:OC c F x0 s=_)
def XQ:Sh:=(sq sl (sq sl (sq (sq sl (sc (sq sl sl) sl)) (sq sl sl))))
def XS:PX 60 XQ:=⟨_,by conv=>lhs;reduce⟩
def Ti:O2:=bf c F aY XS.1 [x0,x1] s
def Xj:=(by dsimp only[Ti,XS,go_sem,Int.reduceOfNat]:Ti c F x0 x1 s=_)
def aaj:Sh:=(sq sl (sq sl (sq sl sl)))
def aak:PX 61 aaj:=⟨_,by conv=>lhs;reduce⟩
def XT:O2:=bf c F aY aak.1 [x0,x1] s
def ajk:=(by dsimp only[XT,aak,go_sem,Int.reduceOfNat]:XT c F x0 x1 s=_)
def Mi:Sh:=(sq sl (sq sl (sq (sq sl (sb (sp 0 [0,1,2,7,8] [(2,[7])] (sq (sq sl (sc sl sl)) (sj [0,1,2,7,8] (sb (sq sl (sc sl sl))) sl))))) (sq sl sl))))
def XU:PX 62 Mi:=⟨_,by conv=>lhs;reduce⟩
def Uf:PL 62 Mi 0:=⟨_,by conv=>lhs;reduce⟩
def wO(k2:Q2):Nat->Q2
 |0,_,_=>none
 |n+1,vs,s=>dR c F aY (wO k2 n) [k2] Uf.1 vs s
def Dr(k2:Q2)(n:Nat)(vs:List AV)(s:St):=(by dsimp only[wO,Uf,go_sem,Int.reduceOfNat]:wO c F k2 (n+1) vs s=_)
def Mj:Un->List Q2->Nat->Q2
 | .z,[k2]=>wO c F k2
 |_,_=>λ_=>fD
def Tj:O2:=bf c F (Mj c F) XU.1 [x0,x1,x2] s
def aim:=(by dsimp only[Tj,XU, ↓Mj,go_sem,Int.reduceOfNat]:Tj c F x0 x1 x2 s=_)
def XV:Sh:=(sq sl (sq sl sl))
def XW:PX 63 XV:=⟨_,by conv=>lhs;reduce⟩
def Tk:O2:=bf c F aY XW.1 [x0,x1,x2] s
def aiq:=(by dsimp only[Tk,XW,go_sem,Int.reduceOfNat]:Tk c F x0 x1 x2 s=_)
def Ug:Sh:=(sq sl (sq sl (sq sl sl)))
def Uh:PX 64 Ug:=⟨_,by conv=>lhs;reduce⟩
def OD:O2:=bf c F aY Uh.1 [x0,x1,x2] s
def afR:=(by dsimp only[OD,Uh,go_sem,Int.reduceOfNat]:OD c F x0 x1 x2 s=_)
def XX:Sh:=(sq sl (sq sl sl))
def XY:PX 65 XX:=⟨_,by conv=>lhs;reduce⟩
def Tl:O2:=bf c F aY XY.1 [x0,x1,x2] s
def air:=(by dsimp only[Tl,XY,go_sem,Int.reduceOfNat]:Tl c F x0 x1 x2 s=_)
def Ui:Sh:=(sq sl (sq sl (sq sl sl)))
def Uj:PX 66 Ui:=⟨_,by conv=>lhs;reduce⟩
def OE:O2:=bf c F aY Uj.1 [x0,x1,x2] s
def afS:=(by dsimp only[OE,Uj,go_sem,Int.reduceOfNat]:OE c F x0 x1 x2 s=_)
def pV:Sh:=(sq sl (sq sl (sq (sq sl (sb (sp 0 [0,5,6] [(2,[5])] (sq (sq sl (sc sl sl)) (sq (sb (sq sl (sb (sp 1 [0,5,6,41,42,43] [(4,[0,5,6])] (sq sl (sq (sc sl sl) (sq (sb (sq sl (sq sl (sb (sp 2 [0,5,6,41,42,43,47,48,49] [(6,[0,5,6,41,42,43])] (sq sl (sq (sc sl sl) (sj [0,5,6,41,42,43,47,48,49] (sb (sq sl (sq sl (sq sl (sc (sq sl sl) sl))))) sl)))))))) sl))))))) sl))))) (sq sl sl))))
def Ja:PX 67 pV:=⟨_,by conv=>lhs;reduce⟩
def Hr:PL 67 pV 2:=⟨_,by conv=>lhs;reduce⟩
def jI(k6:Q2):Nat->Q2
 |0,_,_=>none
 |n+1,vs,s=>dR c F aY (jI k6 n) [k6] Hr.1 vs s
def vN(k6:Q2)(n:Nat)(vs:List AV)(s:St):=(by dsimp only[jI,Hr,go_sem,Int.reduceOfNat]:jI c F k6 (n+1) vs s=_)
def Hs:Un->List Q2->Nat->Q2
 |(.s (.s .z)),[k6]=>jI c F k6
 |_,_=>λ_=>fD
def Ht:PL 67 pV 1:=⟨_,by conv=>lhs;reduce⟩
def fq(k4:Q2):Nat->Q2
 |0,_,_=>none
 |n+1,vs,s=>dR c F (Hs c F) (fq k4 n) [k4] Ht.1 vs s
def vP(k4:Q2)(n:Nat)(vs:List AV)(s:St):=(by dsimp only[fq,Ht, ↓Hs,go_sem,Int.reduceOfNat]:fq c F k4 (n+1) vs s=_)
def Hu:Un->List Q2->Nat->Q2
 |(.s .z),[k4]=>fq c F k4
 |(.s (.s .z)),[k6]=>jI c F k6
 |_,_=>λ_=>fD
def Hv:PL 67 pV 0:=⟨_,by conv=>lhs;reduce⟩
def oW(k2:Q2):Nat->Q2
 |0,_,_=>none
 |n+1,vs,s=>dR c F (Hu c F) (oW k2 n) [k2] Hv.1 vs s
def vO(k2:Q2)(n:Nat)(vs:List AV)(s:St):=(by dsimp only[oW,Hv, ↓Hu,go_sem,Int.reduceOfNat]:oW c F k2 (n+1) vs s=_)
def z8:Un->List Q2->Nat->Q2
 | .z,[k2]=>oW c F k2
 |(.s .z),[k4]=>fq c F k4
 |(.s (.s .z)),[k6]=>jI c F k6
 |_,_=>λ_=>fD
def DD:O2:=bf c F (z8 c F) Ja.1 [x0,x1] s
def Zp:=(by dsimp only[DD,Ja, ↓z8,go_sem,Int.reduceOfNat]:DD c F x0 x1 s=_)
def E8:Sh:=(sq sl (sq sl (sq sl (sq (sq sl (sc (sq sl sl) sl)) (sq sl sl)))))
def E9:PX 69 E8:=⟨_,by conv=>lhs;reduce⟩
def ur:O2:=bf c F aY E9.1 [x0,x1,x2] s
def U7:=(by dsimp only[ur,E9,go_sem,Int.reduceOfNat]:ur c F x0 x1 x2 s=_)
def Jb:Sh:=(sq sl (sq (sq sl (sc (sq sl sl) sl)) (sq sl (sq (sq sl (sc (sq sl sl) sl)) (sq sl sl)))))
def Jd:PX 70 Jb:=⟨_,by conv=>lhs;reduce⟩
def DE:O2:=bf c F aY Jd.1 [x0,x1,x2] s
def IL:=(by dsimp only[DE,Jd,go_sem,Int.reduceOfNat]:DE c F x0 x1 x2 s=_)
def yd:Sh:=(sq sl (sq sl sl))
def ye:PX 73 yd:=⟨_,by conv=>lhs;reduce⟩
def se:O2:=bf c F aY ye.1 [x0,x1] s
def Kr:=(by dsimp only[se,ye,go_sem,Int.reduceOfNat]:se c F x0 x1 s=_)
def Je:Sh:=(sq sl (sq sl sl))
def Jf:PX 78 Je:=⟨_,by conv=>lhs;reduce⟩
def DF:O2:=bf c F aY Jf.1 [x0] s
def Y0:=(by dsimp only[DF,Jf,go_sem,Int.reduceOfNat]:DF c F x0 s=_)
def pW:Sh:=(sq sl (sq (sq sl (sc (sq sl sl) sl)) (sq sl sl)))
def pX:PX 114 pW:=⟨_,by conv=>lhs;reduce⟩
def lu:O2:=bf c F aY pX.1 [x0] s
def pS:=(by dsimp only[lu,pX,go_sem,Int.reduceOfNat]:lu c F x0 s=_)
def AY:Sh:=(sq sl (sq (sq sl (sc (sq sl sl) sl)) (sq sl sl)))
def AZ:PX 115 AY:=⟨_,by conv=>lhs;reduce⟩
def vR:O2:=bf c F aY AZ.1 [x0] s
def AM:=(by dsimp only[vR,AZ,go_sem,Int.reduceOfNat]:vR c F x0 s=_)
def pY:Sh:=(sq sl (sq (sq sl (sc (sq sl sl) sl)) (sq sl sl)))
def pZ:PX 116 pY:=⟨_,by conv=>lhs;reduce⟩
def lz:O2:=bf c F aY pZ.1 [x0] s
def pT:=(by dsimp only[lz,pZ,go_sem,Int.reduceOfNat]:lz c F x0 s=_)
def tH:Sh:=(sq sl (sq (sq sl (sc (sq sl sl) sl)) (sq sl sl)))
def tI:PX 118 tH:=⟨_,by conv=>lhs;reduce⟩
def ov:O2:=bf c F aY tI.1 [x0] s
def tu:=(by dsimp only[ov,tI,go_sem,Int.reduceOfNat]:ov c F x0 s=_)
def qU:Sh:=(sq sl (sq (sq sl (sc (sq sl sl) sl)) (sq sl sl)))
def qV:PX 119 qU:=⟨_,by conv=>lhs;reduce⟩
def mY:O2:=bf c F aY qV.1 [x0] s
def qQ:=(by dsimp only[mY,qV,go_sem,Int.reduceOfNat]:mY c F x0 s=_)
def Ml:Sh:=(sq sl (sq (sq sl (sc (sq sl sl) sl)) (sq (sq sl (sb (sp 0 [1,17,18,19] [(1,[4,5,6]),(2,[])] (sq sl (sq (sc sl sl) (sq (sb (sq sl (sq sl (sq (sq sl (sc (sq sl sl) sl)) sl)))) sl)))))) (sq sl sl))))
def XZ:PX 123 Ml:=⟨_,by conv=>lhs;reduce⟩
def Uk:PL 123 Ml 0:=⟨_,by conv=>lhs;reduce⟩
def sH(k1 k2:Q2):Nat->Q2
 |0,_,_=>none
 |n+1,vs,s=>dR c F aY (sH k1 k2 n) [k1,k2] Uk.1 vs s
def xZ(k1 k2:Q2)(n:Nat)(vs:List AV)(s:St):=(by dsimp only[sH,Uk,go_sem,Int.reduceOfNat]:sH c F k1 k2 (n+1) vs s=_)
def Mm:Un->List Q2->Nat->Q2
 | .z,[k1,k2]=>sH c F k1 k2
 |_,_=>λ_=>fD
def Tm:O2:=bf c F (Mm c F) XZ.1 [x0,x1] s
def Xf:=(by dsimp only[Tm,XZ, ↓Mm,go_sem,Int.reduceOfNat]:Tm c F x0 x1 s=_)
def IC:Sh:=(sq sl (sq sl (sq sl (sq (sq sl (sb (sp 0 [5,23,24,25] [(2,[5])] (sq sl (sq (sc sl sl) (sj [5,23,24,25] (sb (sq sl (sq sl (sc sl sl)))) sl)))))) (sq sl sl)))))
def Ul:PX 124 IC:=⟨_,by conv=>lhs;reduce⟩
def QI:PL 124 IC 0:=⟨_,by conv=>lhs;reduce⟩
def uK(k2:Q2):Nat->Q2
 |0,_,_=>none
 |n+1,vs,s=>dR c F aY (uK k2 n) [k2] QI.1 vs s
def By(k2:Q2)(n:Nat)(vs:List AV)(s:St):=(by dsimp only[uK,QI,go_sem,Int.reduceOfNat]:uK c F k2 (n+1) vs s=_)
def ID:Un->List Q2->Nat->Q2
 | .z,[k2]=>uK c F k2
 |_,_=>λ_=>fD
def OG:O2:=bf c F (ID c F) Ul.1 [x0] s
def afU:=(by dsimp only[OG,Ul, ↓ID,go_sem,Int.reduceOfNat]:OG c F x0 s=_)
def aal:Sh:=(sq sl (sq sl (sq sl (sq (sq sl (sc (sq sl sl) sl)) (sq sl sl)))))
def aam:PX 125 aal:=⟨_,by conv=>lhs;reduce⟩
def X0:O2:=bf c F aY aam.1 [x0,x1,x2] s
def ajj:=(by dsimp only[X0,aam,go_sem,Int.reduceOfNat]:X0 c F x0 x1 x2 s=_)
def Um:Sh:=(sq sl (sq sl (sq sl sl)))
def Uo:PX 126 Um:=⟨_,by conv=>lhs;reduce⟩
def OH:O2:=bf c F aY Uo.1 [x0,x1,x2] s
def afN:=(by dsimp only[OH,Uo,go_sem,Int.reduceOfNat]:OH c F x0 x1 x2 s=_)
def Up:Sh:=(sq sl (sq sl (sq sl sl)))
def Uq:PX 127 Up:=⟨_,by conv=>lhs;reduce⟩
def OI:O2:=bf c F aY Uq.1 [x0,x1,x2] s
def afO:=(by dsimp only[OI,Uq,go_sem,Int.reduceOfNat]:OI c F x0 x1 x2 s=_)
def Jh:Sh:=(sq sl (sq (sq sl (sc (sq sl sl) sl)) (sq sl (sq (sq sl (sc (sq sl sl) sl)) (sq sl sl)))))
def Ji:PX 132 Jh:=⟨_,by conv=>lhs;reduce⟩
def DG:O2:=bf c F aY Ji.1 [x0,x1] s
def IM:=(by dsimp only[DG,Ji,go_sem,Int.reduceOfNat]:DG c F x0 x1 s=_)
def kG:Sh:=(sq sl (sq sl (sq (sq sl (sc (sq sl sl) sl)) (sq (sq sl (sb (sp 0 [0,1,5,6] [(2,[0,5])] (sq (sq sl (sc sl sl)) (sj [0,1,5,6] (sb (sq sl (sq sl (sc (sq sl sl) sl)))) sl))))) (sq sl (sq sl sl))))))
def qw:PX 133 kG:=⟨_,by conv=>lhs;reduce⟩
def p7:PL 133 kG 0:=⟨_,by conv=>lhs;reduce⟩
def eR(k2:Q2):Nat->Q2
 |0,_,_=>none
 |n+1,vs,s=>dR c F aY (eR k2 n) [k2] p7.1 vs s
def jJ(k2:Q2)(n:Nat)(vs:List AV)(s:St):=(by dsimp only[eR,p7,go_sem,Int.reduceOfNat,Int.reduceNegSucc]:eR c F k2 (n+1) vs s=_)
def kH:Un->List Q2->Nat->Q2
 | .z,[k2]=>eR c F k2
 |_,_=>λ_=>fD
def mq:O2:=bf c F (kH c F) qw.1 [x0,x1] s
def qt:=(by dsimp only[mq,qw, ↓kH,go_sem,Int.reduceOfNat,Int.reduceNegSucc]:mq c F x0 x1 s=_)
def Cj:Sh:=(sq sl (sq sl sl))
def Ck:PX 134 Cj:=⟨_,by conv=>lhs;reduce⟩
def xq:O2:=bf c F aY Ck.1 [x0,x1] s
def Qo:=(by dsimp only[xq,Ck,go_sem,Int.reduceOfNat]:xq c F x0 x1 s=_)
def rQ:Sh:=(sq sl (sq sl sl))
def rU:PX 135 rQ:=⟨_,by conv=>lhs;reduce⟩
def nJ:O2:=bf c F aY rU.1 [x0,x1] s
def Cv:=(by dsimp only[nJ,rU,go_sem,Int.reduceOfNat]:nJ c F x0 x1 s=_)
def tY:Sh:=(sq sl (sq (sq sl (sb (sp 0 [0,1,7,8] [(1,[4]),(2,[])] (sq sl (sq (sc sl sl) (sq (sb (sq sl (sq sl (sc (sq sl sl) sl)))) sl)))))) (sq sl sl)))
def A0:PX 138 tY:=⟨_,by conv=>lhs;reduce⟩
def zM:PL 138 tY 0:=⟨_,by conv=>lhs;reduce⟩
def j7(k1 k2:Q2):Nat->Q2
 |0,_,_=>none
 |n+1,vs,s=>dR c F aY (j7 k1 k2 n) [k1,k2] zM.1 vs s
def ya(k1 k2:Q2)(n:Nat)(vs:List AV)(s:St):=(by dsimp only[j7,zM,go_sem,Int.reduceOfNat,Int.reduceNegSucc]:j7 c F k1 k2 (n+1) vs s=_)
def tZ:Un->List Q2->Nat->Q2
 | .z,[k1,k2]=>j7 c F k1 k2
 |_,_=>λ_=>fD
def vS:O2:=bf c F (tZ c F) A0.1 [x0,x1] s
def Ol:=(by dsimp only[vS,A0, ↓tZ,go_sem,Int.reduceOfNat,Int.reduceNegSucc]:vS c F x0 x1 s=_)
def yU:Sh:=(sq sl (sq sl (sq (sq sl (sb (sp 0 [1,2,5,15,16] [(2,[1,2,5])] (sq sl (sq (sc sl sl) (sq (sb (sq sl sl)) sl)))))) (sq sl (sq sl (sq (sb (sp 1 [2,5,7] [(4,[5])] (sq (sq sl (sc sl sl)) (sb (sq sl (sq sl (sq sl (sb (sp 2 [2,5,7,8,36,37,38] [(6,[2,5,7])] (sq sl (sq (sc sl sl) (sj [2,5,7,8,36,37,38] (sb (sq sl (sq sl (sc (sq sl sl) sl)))) sl)))))))))))) (sq sl sl)))))))
def X4:PX 181 yU:=⟨_,by conv=>lhs;reduce⟩
def Ur:PL 181 yU 2:=⟨_,by conv=>lhs;reduce⟩
def sI(k6:Q2):Nat->Q2
 |0,_,_=>none
 |n+1,vs,s=>dR c F aY (sI k6 n) [k6] Ur.1 vs s
def yb(k6:Q2)(n:Nat)(vs:List AV)(s:St):=(by dsimp only[sI,Ur,go_sem,Int.reduceOfNat,Int.reduceNegSucc]:sI c F k6 (n+1) vs s=_)
def Ut:Un->List Q2->Nat->Q2
 |(.s (.s .z)),[k6]=>sI c F k6
 |_,_=>λ_=>fD
def Uu:PL 181 yU 1:=⟨_,by conv=>lhs;reduce⟩
def pJ(k4:Q2):Nat->Q2
 |0,_,_=>none
 |n+1,vs,s=>dR c F (Ut c F) (pJ k4 n) [k4] Uu.1 vs s
def Dq(k4:Q2)(n:Nat)(vs:List AV)(s:St):=(by dsimp only[pJ,Uu, ↓Ut,go_sem,Int.reduceOfNat,Int.reduceNegSucc]:pJ c F k4 (n+1) vs s=_)
def Uv:PL 181 yU 0:=⟨_,by conv=>lhs;reduce⟩
def sJ(k2:Q2):Nat->Q2
 |0,_,_=>none
 |n+1,vs,s=>dR c F aY (sJ k2 n) [k2] Uv.1 vs s
def Nv(k2:Q2)(n:Nat)(vs:List AV)(s:St):=(by dsimp only[sJ,Uv,go_sem,Int.reduceOfNat,Int.reduceNegSucc]:sJ c F k2 (n+1) vs s=_)
def Mn:Un->List Q2->Nat->Q2
 | .z,[k2]=>sJ c F k2
 |(.s .z),[k4]=>pJ c F k4
 |(.s (.s .z)),[k6]=>sI c F k6
 |_,_=>λ_=>fD
def Tn:O2:=bf c F (Mn c F) X4.1 [x0,x1] s
def aik:=(by dsimp only[Tn,X4, ↓Mn,go_sem,Int.reduceOfNat,Int.reduceNegSucc]:Tn c F x0 x1 s=_)
def lC:Sh:=(sq sl (sq (sq sl (sb (sp 0 [0,1,7,8] [(1,[4]),(2,[])] (sq sl (sq (sc sl sl) (sq (sb (sq sl (sq sl (sc (sq sl sl) sl)))) sl)))))) (sq sl sl)))
def qW:PX 187 lC:=⟨_,by conv=>lhs;reduce⟩
def qx:PL 187 lC 0:=⟨_,by conv=>lhs;reduce⟩
def dM(k1 k2:Q2):Nat->Q2
 |0,_,_=>none
 |n+1,vs,s=>dR c F aY (dM k1 k2 n) [k1,k2] qx.1 vs s
def eE(k1 k2:Q2)(n:Nat)(vs:List AV)(s:St):=(by dsimp only[dM,qx,go_sem,Int.reduceOfNat,Int.reduceNegSucc]:dM c F k1 k2 (n+1) vs s=_)
def lF:Un->List Q2->Nat->Q2
 | .z,[k1,k2]=>dM c F k1 k2
 |_,_=>λ_=>fD
def mZ:O2:=bf c F (lF c F) qW.1 [x0,x1] s
def qR:=(by dsimp only[mZ,qW, ↓lF,go_sem,Int.reduceOfNat,Int.reduceNegSucc]:mZ c F x0 x1 s=_)
def oC:Sh:=(sq sl (sq (sq sl (sb (sp 0 [0,1,7,8] [(1,[4]),(2,[])] (sq sl (sq (sc sl sl) (sq (sb (sq sl (sq sl (sc (sq sl sl) sl)))) sl)))))) (sq sl sl)))
def uR:PX 188 oC:=⟨_,by conv=>lhs;reduce⟩
def uj:PL 188 oC 0:=⟨_,by conv=>lhs;reduce⟩
def eW(k1 k2:Q2):Nat->Q2
 |0,_,_=>none
 |n+1,vs,s=>dR c F aY (eW k1 k2 n) [k1,k2] uj.1 vs s
def fO(k1 k2:Q2)(n:Nat)(vs:List AV)(s:St):=(by dsimp only[eW,uj,go_sem,Int.reduceOfNat,Int.reduceNegSucc]:eW c F k1 k2 (n+1) vs s=_)
def oD:Un->List Q2->Nat->Q2
 | .z,[k1,k2]=>eW c F k1 k2
 |_,_=>λ_=>fD
def pL:O2:=bf c F (oD c F) uR.1 [x0,x1] s
def uN:=(by dsimp only[pL,uR, ↓oD,go_sem,Int.reduceOfNat,Int.reduceNegSucc]:pL c F x0 x1 s=_)
def Hw:Sh:=(sq sl (sq sl sl))
def Hx:PX 205 Hw:=⟨_,by conv=>lhs;reduce⟩
def BC:O2:=bf c F aY Hx.1 [x0,x1,x2,x3] s
def Xb:=(by dsimp only[BC,Hx,go_sem,Int.reduceOfNat]:BC c F x0 x1 x2 x3 s=_)
def Hy:Sh:=(sq sl (sq sl sl))
def Hz:PX 206 Hy:=⟨_,by conv=>lhs;reduce⟩
def BD:O2:=bf c F aY Hz.1 [x0,x1,x2,x3] s
def Xc:=(by dsimp only[BD,Hz,go_sem,Int.reduceOfNat]:BD c F x0 x1 x2 x3 s=_)
def Jj:Sh:=(sq sl (sq sl sl))
def Jk:PX 207 Jj:=⟨_,by conv=>lhs;reduce⟩
def DH:O2:=bf c F aY Jk.1 [x0,x1] s
def Zl:=(by dsimp only[DH,Jk,go_sem,Int.reduceOfNat]:DH c F x0 x1 s=_)
def Jl:Sh:=(sq sl (sq sl (sq (sb (sq sl (sc (sq sl sl) (sq sl (sc (sq sl sl) sl))))) (sq sl sl))))
def Jm:PX 210 Jl:=⟨_,by conv=>lhs;reduce⟩
def DI:O2:=bf c F aY Jm.1 [x0,x1,x2,x3] s
def Zg:=(by dsimp only[DI,Jm,go_sem,Int.reduceOfNat]:DI c F x0 x1 x2 x3 s=_)
def Jn:Sh:=(sq sl (sq (sq sl (sc (sq sl sl) sl)) (sq sl sl)))
def Jo:PX 211 Jn:=⟨_,by conv=>lhs;reduce⟩
def DJ:O2:=bf c F aY Jo.1 [x0,x1,x2,x3] s
def Zh:=(by dsimp only[DJ,Jo,go_sem,Int.reduceOfNat]:DJ c F x0 x1 x2 x3 s=_)
def Jp:Sh:=(sq sl (sq (sq sl (sc (sq sl sl) sl)) (sq sl sl)))
def Jq:PX 212 Jp:=⟨_,by conv=>lhs;reduce⟩
def DK:O2:=bf c F aY Jq.1 [x0,x1] s
def Zm:=(by dsimp only[DK,Jq,go_sem,Int.reduceOfNat]:DK c F x0 x1 s=_)
def Jr:Sh:=(sq sl (sq sl sl))
def Js:PX 215 Jr:=⟨_,by conv=>lhs;reduce⟩
def DM:O2:=bf c F aY Js.1 [x0,x1,x2,x3] s
def Zi:=(by dsimp only[DM,Js,go_sem,Int.reduceOfNat]:DM c F x0 x1 x2 x3 s=_)
def Ju:Sh:=(sq sl (sq sl sl))
def Jv:PX 216 Ju:=⟨_,by conv=>lhs;reduce⟩
def DN:O2:=bf c F aY Jv.1 [x0,x1,x2,x3] s
def Zj:=(by dsimp only[DN,Jv,go_sem,Int.reduceOfNat]:DN c F x0 x1 x2 x3 s=_)
def Jw:Sh:=(sq sl (sq sl sl))
def Jy:PX 217 Jw:=⟨_,by conv=>lhs;reduce⟩
def DO:O2:=bf c F aY Jy.1 [x0,x1] s
def Zn:=(by dsimp only[DO,Jy,go_sem,Int.reduceOfNat]:DO c F x0 x1 s=_)
def Mo:Sh:=(sq sl (sq sl sl))
def Mp:PX 220 Mo:=⟨_,by conv=>lhs;reduce⟩
def F0:O2:=bf c F aY Mp.1 [x0,x1,x2,x3] s
def abh:=(by dsimp only[F0,Mp,go_sem,Int.reduceOfNat]:F0 c F x0 x1 x2 x3 s=_)
def Jz:Sh:=(sq sl (sq sl sl))
def JA:PX 221 Jz:=⟨_,by conv=>lhs;reduce⟩
def DP:O2:=bf c F aY JA.1 [x0,x1,x2,x3] s
def Zk:=(by dsimp only[DP,JA,go_sem,Int.reduceOfNat]:DP c F x0 x1 x2 x3 s=_)
def JB:Sh:=(sq sl (sq sl sl))
def JC:PX 222 JB:=⟨_,by conv=>lhs;reduce⟩
def DQ:O2:=bf c F aY JC.1 [x0,x1] s
def Zo:=(by dsimp only[DQ,JC,go_sem,Int.reduceOfNat]:DQ c F x0 x1 s=_)
def aan:Sh:=(sq sl (sq sl sl))
def aao:PX 224 aan:=⟨_,by conv=>lhs;reduce⟩
def X5:O2:=bf c F aY aao.1 [x0,x1,x2] s
def ajh:=(by dsimp only[X5,aao,go_sem,Int.reduceOfNat]:X5 c F x0 x1 x2 s=_)
def ac2:Sh:=(sq sl (sq sl sl))
def ac3:PX 238 ac2:=⟨_,by conv=>lhs;reduce⟩
def abp:O2:=bf c F aY ac3.1 [x0,x1] s
def alN:=(by dsimp only[abp,ac3,go_sem,Int.reduceOfNat]:abp c F x0 x1 s=_)
end
section
variable{c : aj}(hc : Sem c)(F : Nat){x0 x1 x2 x3 x4 x5 x6 x7 x8 x9 x10 x11 : AV}{s : St}{r : AV × St}
include hc
theorem aiB(h:abo c F x0 s=some r):c 18 [x0] s=some (tidy s r):=hc.oL F (Th c F) vQ 5 (by kernel_rfl) (λi hi=>match i,hi with|0,_=>cr 0 (by kernel_rfl) (λ_ _ _=>by kernel_rfl) (λ_ _ _ _=>by kernel_rfl)|1,_=>cr 1 (by kernel_rfl) (λ_ _ _=>by kernel_rfl) (λ_ _ _ _=>by kernel_rfl)|2,_=>cr 2 (by kernel_rfl) (λ_ _ _=>by kernel_rfl) (λ_ _ _ _=>by kernel_rfl)|3,_=>cr 3 (by kernel_rfl) (λ_ _ _=>by kernel_rfl) (λ_ _ _ _=>by kernel_rfl)|4,_=>cr 4 (by kernel_rfl) (λ_ _ _=>by kernel_rfl) (λ_ _ _ _=>by kernel_rfl)|n+5,h=>absurd h (by omega)) (by kernel_rfl) h
theorem acU(h:OC c F x0 s=some r):c 57 [x0] s=some (tidy s r):=hc.oL F (IB c F) Bm 2 (by kernel_rfl) (λi hi=>match i,hi with|0,_=>cr 0 (by kernel_rfl) (λ_ _ _=>by kernel_rfl) (λ_ _ _ _=>by kernel_rfl)|1,_=>cr 1 (by kernel_rfl) (λ_ _ _=>by kernel_rfl) (λ_ _ _ _=>by kernel_rfl)|n+2,h=>absurd h (by omega)) (by kernel_rfl) h
theorem Qk(h:Ti c F x0 x1 s=some r):c 60 [x0,x1] s=some (tidy s r):=hc.o0 F XQ (by kernel_rfl) (by kernel_rfl) h
theorem afT(h:XT c F x0 x1 s=some r):c 61 [x0,x1] s=some (tidy s r):=hc.o0 F aaj (by kernel_rfl) (by kernel_rfl) h
theorem ad7(h:Tj c F x0 x1 x2 s=some r):c 62 [x0,x1,x2] s=some (tidy s r):=hc.o1 F (Mj c F) Mi (by kernel_rfl) (by kernel_rfl) (λ_ _ _=>by kernel_rfl) (λ_ _ _ _=>by kernel_rfl) (by kernel_rfl) h
theorem ad8(h:Tk c F x0 x1 x2 s=some r):c 63 [x0,x1,x2] s=some (tidy s r):=hc.o0 F XV (by kernel_rfl) (by kernel_rfl) h
theorem acR(h:OD c F x0 x1 x2 s=some r):c 64 [x0,x1,x2] s=some (tidy s r):=hc.o0 F Ug (by kernel_rfl) (by kernel_rfl) h
theorem ad9(h:Tl c F x0 x1 x2 s=some r):c 65 [x0,x1,x2] s=some (tidy s r):=hc.o0 F XX (by kernel_rfl) (by kernel_rfl) h
theorem acS(h:OE c F x0 x1 x2 s=some r):c 66 [x0,x1,x2] s=some (tidy s r):=hc.o0 F Ui (by kernel_rfl) (by kernel_rfl) h
theorem U6(h:DD c F x0 x1 s=some r):c 67 [x0,x1] s=some (tidy s r):=hc.oL F (z8 c F) pV 3 (by kernel_rfl) (λi hi=>match i,hi with|0,_=>cr 0 (by kernel_rfl) (λ_ _ _=>by kernel_rfl) (λ_ _ _ _=>by kernel_rfl)|1,_=>cr 1 (by kernel_rfl) (λ_ _ _=>by kernel_rfl) (λ_ _ _ _=>by kernel_rfl)|2,_=>cr 2 (by kernel_rfl) (λ_ _ _=>by kernel_rfl) (λ_ _ _ _=>by kernel_rfl)|n+3,h=>absurd h (by omega)) (by kernel_rfl) h
theorem Cf(h:ur c F x0 x1 x2 s=some r):c 69 [x0,x1,x2] s=some (tidy s r):=hc.o0 F E8 (by kernel_rfl) (by kernel_rfl) h
theorem EY(h:DE c F x0 x1 x2 s=some r):c 70 [x0,x1,x2] s=some (tidy s r):=hc.o0 F Jb (by kernel_rfl) (by kernel_rfl) h
theorem Hi(h:se c F x0 x1 s=some r):c 73 [x0,x1] s=some (tidy s r):=hc.o0 F yd (by kernel_rfl) (by kernel_rfl) h
theorem oU(h:lu c F x0 s=some r):c 114 [x0] s=some (tidy s r):=hc.o0 F pW (by kernel_rfl) (by kernel_rfl) h
theorem yR(h:vR c F x0 s=some r):c 115 [x0] s=some (tidy s r):=hc.o0 F AY (by kernel_rfl) (by kernel_rfl) h
theorem oV(h:lz c F x0 s=some r):c 116 [x0] s=some (tidy s r):=hc.o0 F pY (by kernel_rfl) (by kernel_rfl) h
theorem qP(h:ov c F x0 s=some r):c 118 [x0] s=some (tidy s r):=hc.o0 F tH (by kernel_rfl) (by kernel_rfl) h
theorem pR(h:mY c F x0 s=some r):c 119 [x0] s=some (tidy s r):=hc.o0 F qU (by kernel_rfl) (by kernel_rfl) h
theorem Qh(h:Tm c F x0 x1 s=some r):c 123 [x0,x1] s=some (tidy s r):=hc.o1 F (Mm c F) Ml (by kernel_rfl) (by kernel_rfl) (λ_ _ _=>by kernel_rfl) (λ_ _ _ _=>by kernel_rfl) (by kernel_rfl) h
theorem acT(h:OG c F x0 s=some r):c 124 [x0] s=some (tidy s r):=hc.o1 F (ID c F) IC (by kernel_rfl) (by kernel_rfl) (λ_ _ _=>by kernel_rfl) (λ_ _ _ _=>by kernel_rfl) (by kernel_rfl) h
theorem afQ(h:X0 c F x0 x1 x2 s=some r):c 125 [x0,x1,x2] s=some (tidy s r):=hc.o0 F aal (by kernel_rfl) (by kernel_rfl) h
theorem acO(h:OH c F x0 x1 x2 s=some r):c 126 [x0,x1,x2] s=some (tidy s r):=hc.o0 F Um (by kernel_rfl) (by kernel_rfl) h
theorem acP(h:OI c F x0 x1 x2 s=some r):c 127 [x0,x1,x2] s=some (tidy s r):=hc.o0 F Up (by kernel_rfl) (by kernel_rfl) h
theorem EZ(h:DG c F x0 x1 s=some r):c 132 [x0,x1] s=some (tidy s r):=hc.o0 F Jh (by kernel_rfl) (by kernel_rfl) h
theorem pg(h:mq c F x0 x1 s=some r):c 133 [x0,x1] s=some (tidy s r):=hc.o1 F (kH c F) kG (by kernel_rfl) (by kernel_rfl) (λ_ _ _=>by kernel_rfl) (λ_ _ _ _=>by kernel_rfl) (by kernel_rfl) h
theorem MF(h:xq c F x0 x1 s=some r):c 134 [x0,x1] s=some (tidy s r):=hc.o0 F Cj (by kernel_rfl) (by kernel_rfl) h
theorem AN(h:nJ c F x0 x1 s=some r):c 135 [x0,x1] s=some (tidy s r):=hc.o0 F rQ (by kernel_rfl) (by kernel_rfl) h
theorem LA(h:vS c F x0 x1 s=some r):c 138 [x0,x1] s=some (tidy s r):=hc.o1 F (tZ c F) tY (by kernel_rfl) (by kernel_rfl) (λ_ _ _=>by kernel_rfl) (λ_ _ _ _=>by kernel_rfl) (by kernel_rfl) h
theorem ad6(h:Tn c F x0 x1 s=some r):c 181 [x0,x1] s=some (tidy s r):=hc.oL F (Mn c F) yU 3 (by kernel_rfl) (λi hi=>match i,hi with|0,_=>cr 0 (by kernel_rfl) (λ_ _ _=>by kernel_rfl) (λ_ _ _ _=>by kernel_rfl)|1,_=>cr 1 (by kernel_rfl) (λ_ _ _=>by kernel_rfl) (λ_ _ _ _=>by kernel_rfl)|2,_=>cr 2 (by kernel_rfl) (λ_ _ _=>by kernel_rfl) (λ_ _ _ _=>by kernel_rfl)|n+3,h=>absurd h (by omega)) (by kernel_rfl) h
theorem pU(h:mZ c F x0 x1 s=some r):c 187 [x0,x1] s=some (tidy s r):=hc.o1 F (lF c F) lC (by kernel_rfl) (by kernel_rfl) (λ_ _ _=>by kernel_rfl) (λ_ _ _ _=>by kernel_rfl) (by kernel_rfl) h
theorem tC(h:pL c F x0 x1 s=some r):c 188 [x0,x1] s=some (tidy s r):=hc.o1 F (oD c F) oC (by kernel_rfl) (by kernel_rfl) (λ_ _ _=>by kernel_rfl) (λ_ _ _ _=>by kernel_rfl) (by kernel_rfl) h
theorem SH(h:BC c F x0 x1 x2 x3 s=some r):c 205 [x0,x1,x2,x3] s=some (tidy s r):=hc.o0 F Hw (by kernel_rfl) (by kernel_rfl) h
theorem SJ(h:BD c F x0 x1 x2 x3 s=some r):c 206 [x0,x1,x2,x3] s=some (tidy s r):=hc.o0 F Hy (by kernel_rfl) (by kernel_rfl) h
theorem U2(h:DH c F x0 x1 s=some r):c 207 [x0,x1] s=some (tidy s r):=hc.o0 F Jj (by kernel_rfl) (by kernel_rfl) h
theorem UX(h:DI c F x0 x1 x2 x3 s=some r):c 210 [x0,x1,x2,x3] s=some (tidy s r):=hc.o0 F Jl (by kernel_rfl) (by kernel_rfl) h
theorem UY(h:DJ c F x0 x1 x2 x3 s=some r):c 211 [x0,x1,x2,x3] s=some (tidy s r):=hc.o0 F Jn (by kernel_rfl) (by kernel_rfl) h
theorem U3(h:DK c F x0 x1 s=some r):c 212 [x0,x1] s=some (tidy s r):=hc.o0 F Jp (by kernel_rfl) (by kernel_rfl) h
theorem UZ(h:DM c F x0 x1 x2 x3 s=some r):c 215 [x0,x1,x2,x3] s=some (tidy s r):=hc.o0 F Jr (by kernel_rfl) (by kernel_rfl) h
theorem U0(h:DN c F x0 x1 x2 x3 s=some r):c 216 [x0,x1,x2,x3] s=some (tidy s r):=hc.o0 F Ju (by kernel_rfl) (by kernel_rfl) h
theorem U4(h:DO c F x0 x1 s=some r):c 217 [x0,x1] s=some (tidy s r):=hc.o0 F Jw (by kernel_rfl) (by kernel_rfl) h
theorem Xd(h:F0 c F x0 x1 x2 x3 s=some r):c 220 [x0,x1,x2,x3] s=some (tidy s r):=hc.o0 F Mo (by kernel_rfl) (by kernel_rfl) h
theorem U1(h:DP c F x0 x1 x2 x3 s=some r):c 221 [x0,x1,x2,x3] s=some (tidy s r):=hc.o0 F Jz (by kernel_rfl) (by kernel_rfl) h
theorem U5(h:DQ c F x0 x1 s=some r):c 222 [x0,x1] s=some (tidy s r):=hc.o0 F JB (by kernel_rfl) (by kernel_rfl) h
theorem afP(h:X5 c F x0 x1 x2 s=some r):c 224 [x0,x1,x2] s=some (tidy s r):=hc.o0 F aan (by kernel_rfl) (by kernel_rfl) h
theorem aic(h:abp c F x0 x1 s=some r):c 238 [x0,x1] s=some (tidy s r):=hc.o0 F ac2 (by kernel_rfl) (by kernel_rfl) h
end
end
end Go.Proofs.YtgihekklfnjkiaaGreatDoor
