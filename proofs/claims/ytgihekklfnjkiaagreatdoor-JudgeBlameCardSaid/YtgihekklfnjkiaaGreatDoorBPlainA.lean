/- Functions, plainly. -/
import Derived.Test.YtgihekklfnjkiaaGreatDoorBWalk
set_option linter.all false
set_option maxRecDepth 100000
set_option maxHeartbeats 4000000
namespace Go.Proofs.YtgihekklfnjkiaaGreatDoor
noncomputable section
open Go Go.Ai Go.Proofs
def SK:eP:=vw [(246,Fu),(14,Yl)]
def Sem(c:aj):Prop:=c=run SK gg
def gA(f:Nat):dM:=xN gg f
abbrev PX(f:Nat)(s:Sh):={a:Tx // txF (gA f) s=a}
abbrev PL(f:Nat)(s:Sh)(i:Nat):={a:List Pos×Tx // txL (iu (gA f) s i)=a}
theorem Sem.o0{c:aj}(hc:Sem c)(F:Nat){f:FuncId}{args:List AV}{st:St}{r:AV×St}(s:Sh)(hk:(zB (SK f)&& !zB (gg.get (key f))&&(fM (gA f).code s).isEmpty)=true)
  {k:O2} (hd:H6 c F (afS []) (gA f) s args st=k) (h:k=some r):c f args st=some (tidy st r):=by
 subst hc;exact ajU s hk hd h
theorem Sem.o1{c:aj}(hc:Sem c)(F:Nat){f:FuncId}{args:List AV}{st:St}{r:AV×St}(Ls:Un->List Q2->Nat->Q2)(s:Sh)(hk:(zB (SK f)&& !zB (gg.get (key f))&&Nat.beq (fM (gA f).code s).length 1)=true)
  (hs:(adj (iu (gA f) s 0).2&&Nat.beq (lpJ (iu (gA f) s 0).2) 0)=true) (h0:∀K' vs st,tI Ls (gA f) s 0 K' 0 vs st=none)
  (h1:∀K' n vs st,tI Ls (gA f) s 0 K' (n+1) vs st=Pa (den c F (tI Ls (gA f) s) (iu (gA f) s 0).1 (lpB (iu (gA f) s 0).2)) (lpI (iu (gA f) s 0).2) (lpO (iu (gA f) s 0).2) K' (tI Ls (gA f) s 0 K' n) vs st)
  {k:O2} (hd:H6 c F (tI Ls (gA f) s) (gA f) s args st=k) (h:k=some r):c f args st=some (tidy st r):=by
 subst hc;exact ajV Ls s hk hs h0 h1 hd h
theorem Sem.oL{c:aj}(hc:Sem c)(F:Nat){f:FuncId}{args:List AV}{st:St}{r:AV×St}(Ls:Un->List Q2->Nat->Q2)(s:Sh)(n:Nat)(hk:(zB (SK f)&& !zB (gg.get (key f))&&Nat.beq (fM (gA f).code s).length n)=true)
  (hL:∀i,i<n->CO c F (tI Ls (gA f) s) (iu (gA f) s i).1 (iu (gA f) s i).2) {k:O2} (hd:H6 c F (tI Ls (gA f) s) (gA f) s args st=k) (h:k=some r):c f args st=some (tidy st r):=by
 subst hc;exact ads Ls s n hk hL hd h
end
noncomputable section
open Go Go.Ai Go.Proofs
attribute [local go_sem ↓] bf Gd ev evX Gu getLT Gc aaI kat CX CY VV VW VX VY Ph Pj Pk Pm Pn Po VZ V8 Pp Pq Pr Pt Pu ab1 ab2 ab3
attribute [local go_sem] bf Gd ev
section
variable(c:aj)(F:Nat)(x0 x1 x2 x3 x4 x5 x6 x7 x8 x9 x10 x11:AV)(s:St)
def LM:Sh:=(sq sl (sq (sq sl (sq sl (sc (sq sl sl) sl))) (sq (sq sl (sq sl (sc (sq sl sl) sl))) (sq (sq sl (sc (sq sl sl) sl)) (sq (sq sl (sb (sp 0 [1,47,48,49] [(1,[2,3]),(2,[1])] (sq sl (sq (sc sl sl) (sq (sb (sq sl (sq sl (sc (sq sl sl) sl)))) sl)))))) (sq (sq sl (sc (sq sl sl) sl)) (sq sl sl)))))))
def Xl:PX 49 LM:=⟨_,by conv=>lhs;reduce⟩
def TW:PL 49 LM 0:=⟨_,by conv=>lhs;reduce⟩
def r9(k1 k2:Q2):Nat->Q2
 |0,_,_=>none
 |n+1,vs,s=>dZ c F aZ (r9 k1 k2 n) [k1,k2] TW.1 vs s
def Nh(k1 k2:Q2)(n:Nat)(vs:List AV)(s:St):=(by dsimp only[r9,TW,go_sem,Int.reduceOfNat]:r9 c F k1 k2 (n+1) vs s=_)
def LN:Un->List Q2->Nat->Q2
 |.z,[k1,k2]=>r9 c F k1 k2
 |_,_=>λ_=>fD
def SU:O2:=bf c F (LN c F) Xl.1 [x0] s
def ahZ:=(by dsimp only[SU,Xl, ↓LN,go_sem,Int.reduceOfNat]:SU c F x0 s=_)
def Xm:Sh:=(sq sl (sq sl sl))
def Xn:PX 50 Xm:=⟨_,by conv=>lhs;reduce⟩
def SV:O2:=bf c F aZ Xn.1 [] s
def ah4:=(by dsimp only[SV,Xn,go_sem,Int.reduceOfNat]:SV c F s=_)
def IF:Sh:=(sq sl (sj [3,4,5] (sb (sq sl (sc (sq sl sl) (sq sl (sc (sq sl sl) (sq sl (sc (sq sl sl) (sj [3,4,5,28] (sq sl (sc sl (sq sl (sc sl sl)))) (sc (sq sl sl) (sq sl (sc (sq sl sl) (sq sl (sc (sq sl sl) sl))))))))))))) (sq sl (sq (sq sl (sc (sq sl sl) sl)) (sq sl (sj [3,5,9] (sq sl (sc sl sl)) (sq (sq sl (sc (sq sl sl) sl)) (sq sl sl))))))))
def IG:PX 51 IF:=⟨_,by conv=>lhs;reduce⟩
def Dq:O2:=bf c F aZ IG.1 [x0,x1,x2] s
def Y8:=(by dsimp only[Dq,IG,go_sem,Int.reduceOfNat]:Dq c F x0 x1 x2 s=_)
def LO:Sh:=(sq sl (sq (sq sl (sq sl (sc (sq sl sl) sl))) (sq sl (sq (sq sl (sb (sp 0 [1,6,21,22,23] [(1,[2,3]),(2,[])] (sq sl (sq (sc sl sl) (sq (sb (sq sl (sq (sq sl (sq sl (sc (sq sl sl) sl))) (sq sl (sc (sq sl sl) sl))))) sl)))))) (sq sl sl)))))
def Xo:PX 56 LO:=⟨_,by conv=>lhs;reduce⟩
def TX:PL 56 LO 0:=⟨_,by conv=>lhs;reduce⟩
def wF(k1 k2:Q2):Nat->Q2
 |0,_,_=>none
 |n+1,vs,s=>dZ c F aZ (wF k1 k2 n) [k1,k2] TX.1 vs s
def Di(k1 k2:Q2)(n:Nat)(vs:List AV)(s:St):=(by dsimp only[wF,TX,go_sem,Int.reduceOfNat]:wF c F k1 k2 (n+1) vs s=_)
def LP:Un->List Q2->Nat->Q2
 |.z,[k1,k2]=>wF c F k1 k2
 |_,_=>λ_=>fD
def SX:O2:=bf c F (LP c F) Xo.1 [x0] s
def WY:=(by dsimp only[SX,Xo, ↓LP,go_sem,Int.reduceOfNat]:SX c F x0 s=_)
def LQ:Sh:=(sq sl (sq (sq sl (sc (sq sl sl) sl)) (sq sl (sq (sq sl (sb (sp 0 [5,23,24,25] [(2,[5])] (sq sl (sq (sc sl sl) (sq (sb (sq sl sl)) sl)))))) (sq sl sl)))))
def Xp:PX 58 LQ:=⟨_,by conv=>lhs;reduce⟩
def TY:PL 58 LQ 0:=⟨_,by conv=>lhs;reduce⟩
def wE(k2:Q2):Nat->Q2
 |0,_,_=>none
 |n+1,vs,s=>dZ c F aZ (wE k2 n) [k2] TY.1 vs s
def De(k2:Q2)(n:Nat)(vs:List AV)(s:St):=(by dsimp only[wE,TY,go_sem,Int.reduceOfNat]:wE c F k2 (n+1) vs s=_)
def LR:Un->List Q2->Nat->Q2
 |.z,[k2]=>wE c F k2
 |_,_=>λ_=>fD
def SY:O2:=bf c F (LR c F) Xp.1 [x0,x1] s
def WT:=(by dsimp only[SY,Xp, ↓LR,go_sem,Int.reduceOfNat]:SY c F x0 x1 s=_)
def Xq:Sh:=(sq sl (sq (sq sl (sc (sq sl sl) sl)) (sq sl sl)))
def Xr:PX 59 Xq:=⟨_,by conv=>lhs;reduce⟩
def S6:O2:=bf c F aZ Xr.1 [x0] s
def ahQ:=(by dsimp only[S6,Xr,go_sem,Int.reduceOfNat]:S6 c F x0 s=_)
def Dr:Sh:=(sq sl (sq sl (sq (sq sl (sb (sp 0 [1,5,14,15,16] [(1,[2,3,4]),(2,[1,5])] (sq sl (sq (sc sl sl) (sq (sb (sq sl (sq sl (sq sl (sc (sq sl sl) sl))))) sl)))))) (sq (sq sl (sb (sp 1 [1,5,30,31,32] [(1,[2,3,4]),(4,[5])] (sq sl (sq (sc sl sl) (sj [1,5,30,31,32] (sb (sq sl (sq sl (sj [1,5,9,11,30,31,32] (sq sl (sc sl sl)) (sq sl (sc (sq sl sl) sl)))))) sl)))))) (sq sl sl)))))
def Xs:PX 68 Dr:=⟨_,by conv=>lhs;reduce⟩
def TZ:PL 68 Dr 1:=⟨_,by conv=>lhs;reduce⟩
def nu(k1 k4:Q2):Nat->Q2
 |0,_,_=>none
 |n+1,vs,s=>dZ c F aZ (nu k1 k4 n) [k1,k4] TZ.1 vs s
def xW(k1 k4:Q2)(n:Nat)(vs:List AV)(s:St):=(by dsimp only[nu,TZ,go_sem,Int.reduceOfNat]:nu c F k1 k4 (n+1) vs s=_)
def T4:PL 68 Dr 0:=⟨_,by conv=>lhs;reduce⟩
def kO(k1 k2:Q2):Nat->Q2
 |0,_,_=>none
 |n+1,vs,s=>dZ c F aZ (kO k1 k2 n) [k1,k2] T4.1 vs s
def xV(k1 k2:Q2)(n:Nat)(vs:List AV)(s:St):=(by dsimp only[kO,T4,go_sem,Int.reduceOfNat]:kO c F k1 k2 (n+1) vs s=_)
def LS:Un->List Q2->Nat->Q2
 |.z,[k1,k2]=>kO c F k1 k2
 |(.s .z),[k1,k4]=>nu c F k1 k4
 |_,_=>λ_=>fD
def Dh:O2:=bf c F (LS c F) Xs.1 [x0] s
def ahX:=(by dsimp only[Dh,Xs, ↓LS,go_sem,Int.reduceOfNat]:Dh c F x0 s=_)
def Ds:Sh:=(sq sl (sq (sq sl (sc (sq sl sl) sl)) (sq (sq sl (sb (sp 0 [0,10,11,12] [(1,[2,3]),(2,[])] (sq sl (sq (sc sl sl) (sq (sb (sq sl (sq (sq sl (sq sl (sc (sq sl sl) sl))) (sq sl (sc (sq sl sl) sl))))) sl)))))) (sq sl sl))))
def Ns:PX 88 Ds:=⟨_,by conv=>lhs;reduce⟩
def LU:PL 88 Ds 0:=⟨_,by conv=>lhs;reduce⟩
def qE(k1 k2:Q2):Nat->Q2
 |0,_,_=>none
 |n+1,vs,s=>dZ c F aZ (qE k1 k2 n) [k1,k2] LU.1 vs s
def yI(k1 k2:Q2)(n:Nat)(vs:List AV)(s:St):=(by dsimp only[qE,LU,go_sem,Int.reduceOfNat]:qE c F k1 k2 (n+1) vs s=_)
def Dt:Un->List Q2->Nat->Q2
 |.z,[k1,k2]=>qE c F k1 k2
 |_,_=>λ_=>fD
def Ik:O2:=bf c F (Dt c F) Ns.1 [x0] s
def Nf:=(by dsimp only[Ik,Ns, ↓Dt,go_sem,Int.reduceOfNat]:Ik c F x0 s=_)
def II:Sh:=(sq sl (sq sl (sq sl sl)))
def IJ:PX 89 II:=⟨_,by conv=>lhs;reduce⟩
def Du:O2:=bf c F aZ IJ.1 [x0] s
def Y6:=(by dsimp only[Du,IJ,go_sem,Int.reduceOfNat]:Du c F x0 s=_)
def IK:Sh:=(sq sl (sq sl sl))
def IL:PX 108 IK:=⟨_,by conv=>lhs;reduce⟩
def Dv:O2:=bf c F aZ IL.1 [x0,x1] s
def Y7:=(by dsimp only[Dv,IL,go_sem,Int.reduceOfNat]:Dv c F x0 x1 s=_)
def acR:Sh:=(sq sl (sq sl sl))
def acS:PX 109 acR:=⟨_,by conv=>lhs;reduce⟩
def abi:O2:=bf c F aZ acS.1 [x0,x1] s
def alJ:=(by dsimp only[abi,acS,go_sem,Int.reduceOfNat]:abi c F x0 x1 s=_)
def Oh:Sh:=(sq sl (sq (sq sl (sc (sq sl sl) sl)) (sq (sq sl (sb (sp 0 [0,13,14] [(1,[2]),(2,[])] (sq sl (sq (sc sl sl) (sq (sb (sq sl (sq sl (sc (sq sl sl) sl)))) sl)))))) (sq sl sl))))
def ZW:PX 110 Oh:=⟨_,by conv=>lhs;reduce⟩
def Xt:PL 110 Oh 0:=⟨_,by conv=>lhs;reduce⟩
def uD(k1 k2:Q2):Nat->Q2
 |0,_,_=>none
 |n+1,vs,s=>dZ c F aZ (uD k1 k2 n) [k1,k2] Xt.1 vs s
def Qa(k1 k2:Q2)(n:Nat)(vs:List AV)(s:St):=(by dsimp only[uD,Xt,go_sem,Int.reduceOfNat]:uD c F k1 k2 (n+1) vs s=_)
def Oi:Un->List Q2->Nat->Q2
 |.z,[k1,k2]=>uD c F k1 k2
 |_,_=>λ_=>fD
def Xu:O2:=bf c F (Oi c F) ZW.1 [x0] s
def ai7:=(by dsimp only[Xu,ZW, ↓Oi,go_sem,Int.reduceOfNat]:Xu c F x0 s=_)
def ZX:Sh:=(sq sl (sq sl (sq (sq sl (sc (sq sl sl) sl)) (sq sl sl))))
def ZY:PX 111 ZX:=⟨_,by conv=>lhs;reduce⟩
def Xv:O2:=bf c F aZ ZY.1 [x0,x1] s
def aja:=(by dsimp only[Xv,ZY,go_sem,Int.reduceOfNat]:Xv c F x0 x1 s=_)
def uM:Sh:=(sq sl (sq (sq sl (sc (sq sl sl) sl)) (sq sl sl)))
def uN:PX 117 uM:=⟨_,by conv=>lhs;reduce⟩
def pz:O2:=bf c F aZ uN.1 [x0] s
def jQ:=(by dsimp only[pz,uN,go_sem,Int.reduceOfNat]:pz c F x0 s=_)
def Xw:Sh:=(sq sl (sq sl (sq sl sl)))
def Xx:PX 120 Xw:=⟨_,by conv=>lhs;reduce⟩
def S7:O2:=bf c F aZ Xx.1 [x0] s
def ahO:=(by dsimp only[S7,Xx,go_sem,Int.reduceOfNat]:S7 c F x0 s=_)
def ZZ:Sh:=(sq sl (sq sl (sq (sq sl (sc (sq sl sl) sl)) (sq sl sl))))
def Z0:PX 121 ZZ:=⟨_,by conv=>lhs;reduce⟩
def Xy:O2:=bf c F aZ Z0.1 [x0] s
def ai6:=(by dsimp only[Xy,Z0,go_sem,Int.reduceOfNat]:Xy c F x0 s=_)
def Nt:Sh:=(sq sl (sq (sq sl (sc (sq sl sl) sl)) (sq sl sl)))
def Nu:PX 122 Nt:=⟨_,by conv=>lhs;reduce⟩
def Il:O2:=bf c F aZ Nu.1 [x0] s
def acw:=(by dsimp only[Il,Nu,go_sem,Int.reduceOfNat]:Il c F x0 s=_)
def Z3:Sh:=(sq sl (sq sl sl))
def Z4:PX 128 Z3:=⟨_,by conv=>lhs;reduce⟩
def Xz:O2:=bf c F aZ Z4.1 [] s
def ajb:=(by dsimp only[Xz,Z4,go_sem,Int.reduceOfNat]:Xz c F s=_)
def LV:Sh:=(sq sl (sq (sq sl (sc (sq sl sl) sl)) (sq (sq sl (sq sl (sc (sq sl sl) sl))) (sq (sq sl (sq sl (sc (sq sl sl) sl))) (sq (sq sl (sc (sq sl sl) sl)) (sq sl (sq sl (sq sl sl))))))))
def LW:PX 129 LV:=⟨_,by conv=>lhs;reduce⟩
def zn:O2:=bf c F aZ LW.1 [x0,x1] s
def vI:=(by dsimp only[zn,LW,go_sem,Int.reduceOfNat]:zn c F x0 x1 s=_)
def T6:Sh:=(sq sl (sq (sq sl (sq sl (sc (sq sl sl) sl))) (sq sl sl)))
def T7:PX 130 T6:=⟨_,by conv=>lhs;reduce⟩
def Oj:O2:=bf c F aZ T7.1 [x0,x1] s
def afu:=(by dsimp only[Oj,T7,go_sem,Int.reduceOfNat]:Oj c F x0 x1 s=_)
def Bv:Sh:=(sq sl (sq (sq sl (sc (sq sl sl) sl)) (sq (sq sl (sc (sq sl sl) sl)) (sq (sq sl (sb (sp 0 [0,1,2,3,30,31,32] [(1,[8]),(2,[0,1,2,3])] (sq sl (sq (sc sl sl) (sq (sb (sq sl (sq sl (sq sl (sc (sq sl sl) sl))))) sl)))))) (sq sl (sq (sq sl (sc (sq sl sl) sl)) (sq (sq sl (sc (sq sl sl) sl)) (sq sl (sq sl sl)))))))))
def LX:PX 131 Bv:=⟨_,by conv=>lhs;reduce⟩
def IM:PL 131 Bv 0:=⟨_,by conv=>lhs;reduce⟩
def mZ(k1 k2:Q2):Nat->Q2
 |0,_,_=>none
 |n+1,vs,s=>dZ c F aZ (mZ k1 k2 n) [k1,k2] IM.1 vs s
def xe(k1 k2:Q2)(n:Nat)(vs:List AV)(s:St):=(by dsimp only[mZ,IM,go_sem,Int.reduceOfNat]:mZ c F k1 k2 (n+1) vs s=_)
def Bw:Un->List Q2->Nat->Q2
 |.z,[k1,k2]=>mZ c F k1 k2
 |_,_=>λ_=>fD
def zo:O2:=bf c F (Bw c F) LX.1 [x0,x1,x2,x3] s
def vJ:=(by dsimp only[zo,LX, ↓Bw,go_sem,Int.reduceOfNat]:zo c F x0 x1 x2 x3 s=_)
def IN:Sh:=(sq sl (sq sl sl))
def IP:PX 136 IN:=⟨_,by conv=>lhs;reduce⟩
def Dw:O2:=bf c F aZ IP.1 [x0] s
def Y5:=(by dsimp only[Dw,IP,go_sem,Int.reduceOfNat]:Dw c F x0 s=_)
def G8:Sh:=(sq sl (sq sl sl))
def He:PX 137 G8:=⟨_,by conv=>lhs;reduce⟩
def Bx:O2:=bf c F aZ He.1 [x0,x1,x2] s
def GO:=(by dsimp only[Bx,He,go_sem,Int.reduceOfNat]:Bx c F x0 x1 x2 s=_)
def LY:Sh:=(sq sl (sq sl (sq sl (sq (sb (sq sl (sc (sq sl sl) (sq sl (sc (sq sl sl) sl))))) (sq (sq sl (sb (sp 0 [1,3,4,18,19,20] [(1,[2]),(3,[1])] (sq sl (sq (sc sl sl) (sq (sb (sq sl (sq (sq sl (sc (sq sl sl) sl)) sl))) sl)))))) (sq (sq sl (sc (sq sl sl) sl)) (sq sl sl)))))))
def XA:PX 158 LY:=⟨_,by conv=>lhs;reduce⟩
def T8:PL 158 LY 0:=⟨_,by conv=>lhs;reduce⟩
def rZ(k1 k3:Q2):Nat->Q2
 |0,_,_=>none
 |n+1,vs,s=>dZ c F aZ (rZ k1 k3 n) [k1,k3] T8.1 vs s
def Nd(k1 k3:Q2)(n:Nat)(vs:List AV)(s:St):=(by dsimp only[rZ,T8,go_sem,Int.reduceOfNat,Int.reduceNegSucc]:rZ c F k1 k3 (n+1) vs s=_)
def LZ:Un->List Q2->Nat->Q2
 |.z,[k1,k3]=>rZ c F k1 k3
 |_,_=>λ_=>fD
def S8:O2:=bf c F (LZ c F) XA.1 [x0] s
def ahL:=(by dsimp only[S8,XA, ↓LZ,go_sem,Int.reduceOfNat,Int.reduceNegSucc]:S8 c F x0 s=_)
def mA:Sh:=(sq sl (sq sl sl))
def mB:PX 159 mA:=⟨_,by conv=>lhs;reduce⟩
def iI:O2:=bf c F aZ mB.1 [x0,x1] s
def uV:=(by dsimp only[iI,mB,go_sem,Int.reduceOfNat]:iI c F x0 x1 s=_)
def IQ:Sh:=(sq sl (sq sl sl))
def IU:PX 160 IQ:=⟨_,by conv=>lhs;reduce⟩
def Dx:O2:=bf c F aZ IU.1 [x0,x1] s
def Y0:=(by dsimp only[Dx,IU,go_sem,Int.reduceOfNat]:Dx c F x0 x1 s=_)
def iT:Sh:=(sq sl (sq (sq sl (sb (sp 0 [0,1,7,8] [(1,[4]),(2,[])] (sq sl (sq (sc sl sl) (sq (sb (sq sl (sq sl (sc (sq sl sl) sl)))) sl)))))) (sq sl sl)))
def nW:PX 175 iT:=⟨_,by conv=>lhs;reduce⟩
def nv:PL 175 iT 0:=⟨_,by conv=>lhs;reduce⟩
def cU(k1 k2:Q2):Nat->Q2
 |0,_,_=>none
 |n+1,vs,s=>dZ c F aZ (cU k1 k2 n) [k1,k2] nv.1 vs s
def mz(k1 k2:Q2)(n:Nat)(vs:List AV)(s:St):=(by dsimp only[cU,nv,go_sem,Int.reduceOfNat,Int.reduceNegSucc]:cU c F k1 k2 (n+1) vs s=_)
def iU:Un->List Q2->Nat->Q2
 |.z,[k1,k2]=>cU c F k1 k2
 |_,_=>λ_=>fD
def jI:O2:=bf c F (iU c F) nW.1 [x0,x1] s
def xj:=(by dsimp only[jI,nW, ↓iU,go_sem,Int.reduceOfNat,Int.reduceNegSucc]:jI c F x0 x1 s=_)
def XB:Sh:=(sq sl (sq sl sl))
def XC:PX 176 XB:=⟨_,by conv=>lhs;reduce⟩
def S9:O2:=bf c F aZ XC.1 [x0,x1] s
def ah0:=(by dsimp only[S9,XC,go_sem,Int.reduceOfNat]:S9 c F x0 x1 s=_)
def iV:Sh:=(sq sl (sq (sq sl (sb (sp 0 [0,1,7,8] [(1,[4]),(2,[])] (sq sl (sq (sc sl sl) (sq (sb (sq sl (sq sl (sc (sq sl sl) sl)))) sl)))))) (sq sl sl)))
def nX:PX 177 iV:=⟨_,by conv=>lhs;reduce⟩
def ny:PL 177 iV 0:=⟨_,by conv=>lhs;reduce⟩
def cS(k1 k2:Q2):Nat->Q2
 |0,_,_=>none
 |n+1,vs,s=>dZ c F aZ (cS k1 k2 n) [k1,k2] ny.1 vs s
def mq(k1 k2:Q2)(n:Nat)(vs:List AV)(s:St):=(by dsimp only[cS,ny,go_sem,Int.reduceOfNat,Int.reduceNegSucc]:cS c F k1 k2 (n+1) vs s=_)
def iW:Un->List Q2->Nat->Q2
 |.z,[k1,k2]=>cS c F k1 k2
 |_,_=>λ_=>fD
def jJ:O2:=bf c F (iW c F) nX.1 [x0,x1] s
def w9:=(by dsimp only[jJ,nX, ↓iW,go_sem,Int.reduceOfNat,Int.reduceNegSucc]:jJ c F x0 x1 s=_)
def T9:Sh:=(sq sl (sq sl sl))
def Ua:PX 178 T9:=⟨_,by conv=>lhs;reduce⟩
def Ol:O2:=bf c F aZ Ua.1 [x0,x1] s
def afp:=(by dsimp only[Ol,Ua,go_sem,Int.reduceOfNat]:Ol c F x0 x1 s=_)
def Nv:Sh:=(sq sl (sq (sq sl (sb (sq sl (sc (sq sl sl) (sq sl (sc (sq sl sl) (sq sl (sc (sq sl sl) (sq sl (sc (sq sl sl) sl)))))))))) (sq sl sl)))
def Nw:PX 180 Nv:=⟨_,by conv=>lhs;reduce⟩
def Im:O2:=bf c F aZ Nw.1 [x0] s
def acn:=(by dsimp only[Im,Nw,go_sem,Int.reduceOfNat]:Im c F x0 s=_)
def Io:Sh:=(sq sl (sq (sb (sq sl (sc (sq sl sl) (sq sl (sc (sq sl sl) (sq sl (sc (sq sl sl) (sq sl (sc (sq sl sl) sl))))))))) (sq (sq sl (sb (sp 0 [1,52,53,54] [(1,[2]),(3,[])] (sq sl (sq (sc sl sl) (sq (sb (sq sl (sq sl (sc (sq sl sl) sl)))) sl)))))) (sq sl sl))))
def Ub:PX 182 Io:=⟨_,by conv=>lhs;reduce⟩
def QC:PL 182 Io 0:=⟨_,by conv=>lhs;reduce⟩
def qk(k1 k3:Q2):Nat->Q2
 |0,_,_=>none
 |n+1,vs,s=>dZ c F aZ (qk k1 k3 n) [k1,k3] QC.1 vs s
def Lq(k1 k3:Q2)(n:Nat)(vs:List AV)(s:St):=(by dsimp only[qk,QC,go_sem,Int.reduceOfNat]:qk c F k1 k3 (n+1) vs s=_)
def Ip:Un->List Q2->Nat->Q2
 |.z,[k1,k3]=>qk c F k1 k3
 |_,_=>λ_=>fD
def Om:O2:=bf c F (Ip c F) Ub.1 [x0] s
def afs:=(by dsimp only[Om,Ub, ↓Ip,go_sem,Int.reduceOfNat]:Om c F x0 s=_)
def QD:Sh:=(sq sl (sq sl (sq sl sl)))
def QE:PX 183 QD:=⟨_,by conv=>lhs;reduce⟩
def L8:O2:=bf c F aZ QE.1 [x0] s
def adS:=(by dsimp only[L8,QE,go_sem,Int.reduceOfNat]:L8 c F x0 s=_)
def IV:Sh:=(sq sl (sq sl sl))
def IW:PX 184 IV:=⟨_,by conv=>lhs;reduce⟩
def strings_Compare:O2:=bf c F aZ IW.1 [x0,x1] s
def Y4:=(by dsimp only[strings_Compare,IW,go_sem,Int.reduceOfNat]:strings_Compare c F x0 x1 s=_)
def ry:Sh:=(sq sl (sq sl (sq sl (sq (sq sl (sc (sq sl sl) sl)) (sq sl (sq (sq sl (sc (sq sl sl) sl)) (sq (sq sl (sc (sq sl (sq sl (sq sl (sq sl sl)))) sl)) (sq sl (sq (sq sl (sc (sq sl (sq sl (sq sl sl))) sl)) (sq sl (sq sl (sq sl sl))))))))))))
def rD:PX 185 ry:=⟨_,by conv=>lhs;reduce⟩
def nE:O2:=bf c F aZ rD.1 [x0,x1,x2] s
def Cp:=(by dsimp only[nE,rD,go_sem,Int.reduceOfNat]:nE c F x0 x1 x2 s=_)
def XD:Sh:=(sq sl (sq sl sl))
def XE:PX 186 XD:=⟨_,by conv=>lhs;reduce⟩
def Ta:O2:=bf c F aZ XE.1 [x0,x1,x2] s
def WV:=(by dsimp only[Ta,XE,go_sem,Int.reduceOfNat]:Ta c F x0 x1 x2 s=_)
def fk:Sh:=(sq sl (sq sl (sq sl (sq (sb (sp 0 [0,2,4,8,9,10] [(2,[0,2,4,8,9])] (sq (sq sl (sc sl sl)) (sb (sq sl (sq sl (sc sl sl))))))) (sq sl sl)))))
def jr:PX 189 fk:=⟨_,by conv=>lhs;reduce⟩
def je:PL 189 fk 0:=⟨_,by conv=>lhs;reduce⟩
def bk(k2:Q2):Nat->Q2
 |0,_,_=>none
 |n+1,vs,s=>dZ c F aZ (bk k2 n) [k2] je.1 vs s
def eN(k2:Q2)(n:Nat)(vs:List AV)(s:St):=(by dsimp only[bk,je,go_sem,Int.reduceOfNat]:bk c F k2 (n+1) vs s=_)
def fo:Un->List Q2->Nat->Q2
 |.z,[k2]=>bk c F k2
 |_,_=>λ_=>fD
def fG:O2:=bf c F (fo c F) jr.1 [x0,x1,x2] s
def qm:=(by dsimp only[fG,jr, ↓fo,go_sem,Int.reduceOfNat]:fG c F x0 x1 x2 s=_)
def On:Sh:=(sq sl (sq (sq sl (sb (sp 0 [0,3] [(1,[2]),(2,[0])] (sq (sq sl (sc sl sl)) (sq (sb (sq sl (sc (sq sl sl) sl))) sl))))) (sq sl sl)))
def Z5:PX 203 On:=⟨_,by conv=>lhs;reduce⟩
def XF:PL 203 On 0:=⟨_,by conv=>lhs;reduce⟩
def uE(k1 k2:Q2):Nat->Q2
 |0,_,_=>none
 |n+1,vs,s=>dZ c F aZ (uE k1 k2 n) [k1,k2] XF.1 vs s
def Qb(k1 k2:Q2)(n:Nat)(vs:List AV)(s:St):=(by dsimp only[uE,XF,go_sem,Int.reduceOfNat]:uE c F k1 k2 (n+1) vs s=_)
def Oo:Un->List Q2->Nat->Q2
 |.z,[k1,k2]=>uE c F k1 k2
 |_,_=>λ_=>fD
def XG:O2:=bf c F (Oo c F) Z5.1 [x0] s
def ai8:=(by dsimp only[XG,Z5, ↓Oo,go_sem,Int.reduceOfNat]:XG c F x0 s=_)
def IX:Sh:=(sq sl (sq (sq sl (sc (sq sl sl) sl)) (sq sl sl)))
def IY:PX 204 IX:=⟨_,by conv=>lhs;reduce⟩
def Dy:O2:=bf c F aZ IY.1 [x0,x1] s
def YX:=(by dsimp only[Dy,IY,go_sem,Int.reduceOfNat]:Dy c F x0 x1 s=_)
def L9:Sh:=(sq sl (sq (sq sl (sc (sq sl sl) sl)) (sq sl sl)))
def Ma:PX 209 L9:=⟨_,by conv=>lhs;reduce⟩
def FR:O2:=bf c F aZ Ma.1 [x0,x1] s
def aa5:=(by dsimp only[FR,Ma,go_sem,Int.reduceOfNat]:FR c F x0 x1 s=_)
def Mb:Sh:=(sq sl (sq (sq sl (sc (sq sl sl) sl)) (sq sl sl)))
def Mc:PX 214 Mb:=⟨_,by conv=>lhs;reduce⟩
def FT:O2:=bf c F aZ Mc.1 [x0,x1] s
def aa6:=(by dsimp only[FT,Mc,go_sem,Int.reduceOfNat]:FT c F x0 x1 s=_)
def Nx:Sh:=(sq sl (sq (sq sl (sc (sq sl sl) sl)) (sq sl sl)))
def Ny:PX 219 Nx:=⟨_,by conv=>lhs;reduce⟩
def Iq:O2:=bf c F aZ Ny.1 [x0,x1] s
def acm:=(by dsimp only[Iq,Ny,go_sem,Int.reduceOfNat]:Iq c F x0 x1 s=_)
def Md:Sh:=(sq sl (sq (sq sl (sc (sq sl sl) sl)) (sq (sq sl (sb (sp 0 [0,13,14] [(1,[2]),(2,[])] (sq sl (sq (sc sl sl) (sq (sb (sq sl (sq sl (sc (sq sl sl) sl)))) sl)))))) (sq sl sl))))
def XH:PX 225 Md:=⟨_,by conv=>lhs;reduce⟩
def Uc:PL 225 Md 0:=⟨_,by conv=>lhs;reduce⟩
def rY(k1 k2:Q2):Nat->Q2
 |0,_,_=>none
 |n+1,vs,s=>dZ c F aZ (rY k1 k2 n) [k1,k2] Uc.1 vs s
def Nc(k1 k2:Q2)(n:Nat)(vs:List AV)(s:St):=(by dsimp only[rY,Uc,go_sem,Int.reduceOfNat]:rY c F k1 k2 (n+1) vs s=_)
def Me:Un->List Q2->Nat->Q2
 |.z,[k1,k2]=>rY c F k1 k2
 |_,_=>λ_=>fD
def Tb:O2:=bf c F (Me c F) XH.1 [x0] s
def ahH:=(by dsimp only[Tb,XH, ↓Me,go_sem,Int.reduceOfNat]:Tb c F x0 s=_)
def XI:Sh:=(sq sl (sq sl sl))
def XJ:PX 226 XI:=⟨_,by conv=>lhs;reduce⟩
def Tc:O2:=bf c F aZ XJ.1 [x0] s
def ahK:=(by dsimp only[Tc,XJ,go_sem,Int.reduceOfNat]:Tc c F x0 s=_)
def zF:Sh:=(sq sl (sq sl sl))
def zH:PX 227 zF:=⟨_,by conv=>lhs;reduce⟩
def bytealg_CompareString:O2:=bf c F aZ zH.1 [x0,x1] s
def MA:=(by dsimp only[bytealg_CompareString,zH,go_sem,Int.reduceOfNat]:bytealg_CompareString c F x0 x1 s=_)
end
section
variable{c:aj}(hc:Sem c)(F:Nat){x0 x1 x2 x3 x4 x5 x6 x7 x8 x9 x10 x11:AV}{s:St}{r:AV×St}
include hc
theorem adV(h:SU c F x0 s=some r):c 49 [x0] s=some (tidy s r):=hc.o1 F (LN c F) LM (by kernel_rfl) (by kernel_rfl) (λ_ _ _=>by kernel_rfl) (λ_ _ _ _=>by kernel_rfl) (by kernel_rfl) h
theorem adX(h:SV c F s=some r):c 50 [] s=some (tidy s r):=hc.o0 F Xm (by kernel_rfl) (by kernel_rfl) h
theorem UR(h:Dq c F x0 x1 x2 s=some r):c 51 [x0,x1,x2] s=some (tidy s r):=hc.o0 F IF (by kernel_rfl) (by kernel_rfl) h
theorem Qh(h:SX c F x0 s=some r):c 56 [x0] s=some (tidy s r):=hc.o1 F (LP c F) LO (by kernel_rfl) (by kernel_rfl) (λ_ _ _=>by kernel_rfl) (λ_ _ _ _=>by kernel_rfl) (by kernel_rfl) h
theorem Qc(h:SY c F x0 x1 s=some r):c 58 [x0,x1] s=some (tidy s r):=hc.o1 F (LR c F) LQ (by kernel_rfl) (by kernel_rfl) (λ_ _ _=>by kernel_rfl) (λ_ _ _ _=>by kernel_rfl) (by kernel_rfl) h
theorem adP(h:S6 c F x0 s=some r):c 59 [x0] s=some (tidy s r):=hc.o0 F Xq (by kernel_rfl) (by kernel_rfl) h
theorem adU(h:Dh c F x0 s=some r):c 68 [x0] s=some (tidy s r):=hc.oL F (LS c F) Dr 2 (by kernel_rfl) (λi hi=>match i,hi with|0,_=>cH 0 (by kernel_rfl) (λ_ _ _=>by kernel_rfl) (λ_ _ _ _=>by kernel_rfl)|1,_=>cH 1 (by kernel_rfl) (λ_ _ _=>by kernel_rfl) (λ_ _ _ _=>by kernel_rfl)|n+2,h=>absurd h (by omega)) (by kernel_rfl) h
theorem IB(h:Ik c F x0 s=some r):c 88 [x0] s=some (tidy s r):=hc.o1 F (Dt c F) Ds (by kernel_rfl) (by kernel_rfl) (λ_ _ _=>by kernel_rfl) (λ_ _ _ _=>by kernel_rfl) (by kernel_rfl) h
theorem UP(h:Du c F x0 s=some r):c 89 [x0] s=some (tidy s r):=hc.o0 F II (by kernel_rfl) (by kernel_rfl) h
theorem UQ(h:Dv c F x0 x1 s=some r):c 108 [x0,x1] s=some (tidy s r):=hc.o0 F IK (by kernel_rfl) (by kernel_rfl) h
theorem ah1(h:abi c F x0 x1 s=some r):c 109 [x0,x1] s=some (tidy s r):=hc.o0 F acR (by kernel_rfl) (by kernel_rfl) h
theorem afn(h:Xu c F x0 s=some r):c 110 [x0] s=some (tidy s r):=hc.o1 F (Oi c F) Oh (by kernel_rfl) (by kernel_rfl) (λ_ _ _=>by kernel_rfl) (λ_ _ _ _=>by kernel_rfl) (by kernel_rfl) h
theorem afr(h:Xv c F x0 x1 s=some r):c 111 [x0,x1] s=some (tidy s r):=hc.o0 F ZX (by kernel_rfl) (by kernel_rfl) h
theorem jd(h:pz c F x0 s=some r):c 117 [x0] s=some (tidy s r):=hc.o0 F uM (by kernel_rfl) (by kernel_rfl) h
theorem adO(h:S7 c F x0 s=some r):c 120 [x0] s=some (tidy s r):=hc.o0 F Xw (by kernel_rfl) (by kernel_rfl) h
theorem afm(h:Xy c F x0 s=some r):c 121 [x0] s=some (tidy s r):=hc.o0 F ZZ (by kernel_rfl) (by kernel_rfl) h
theorem Y3(h:Il c F x0 s=some r):c 122 [x0] s=some (tidy s r):=hc.o0 F Nt (by kernel_rfl) (by kernel_rfl) h
theorem afv(h:Xz c F s=some r):c 128 [] s=some (tidy s r):=hc.o0 F Z3 (by kernel_rfl) (by kernel_rfl) h
theorem GN(h:zn c F x0 x1 s=some r):c 129 [x0,x1] s=some (tidy s r):=hc.o0 F LV (by kernel_rfl) (by kernel_rfl) h
theorem acA(h:Oj c F x0 x1 s=some r):c 130 [x0,x1] s=some (tidy s r):=hc.o0 F T6 (by kernel_rfl) (by kernel_rfl) h
theorem yL(h:zo c F x0 x1 x2 x3 s=some r):c 131 [x0,x1,x2,x3] s=some (tidy s r):=hc.o1 F (Bw c F) Bv (by kernel_rfl) (by kernel_rfl) (λ_ _ _=>by kernel_rfl) (λ_ _ _ _=>by kernel_rfl) (by kernel_rfl) h
theorem UO(h:Dw c F x0 s=some r):c 136 [x0] s=some (tidy s r):=hc.o0 F IN (by kernel_rfl) (by kernel_rfl) h
theorem Dg(h:Bx c F x0 x1 x2 s=some r):c 137 [x0,x1,x2] s=some (tidy s r):=hc.o0 F G8 (by kernel_rfl) (by kernel_rfl) h
theorem adM(h:S8 c F x0 s=some r):c 158 [x0] s=some (tidy s r):=hc.o1 F (LZ c F) LY (by kernel_rfl) (by kernel_rfl) (λ_ _ _=>by kernel_rfl) (λ_ _ _ _=>by kernel_rfl) (by kernel_rfl) h
theorem tY(h:iI c F x0 x1 s=some r):c 159 [x0,x1] s=some (tidy s r):=hc.o0 F mA (by kernel_rfl) (by kernel_rfl) h
theorem UM(h:Dx c F x0 x1 s=some r):c 160 [x0,x1] s=some (tidy s r):=hc.o0 F IQ (by kernel_rfl) (by kernel_rfl) h
theorem vK(h:jI c F x0 x1 s=some r):c 175 [x0,x1] s=some (tidy s r):=hc.o1 F (iU c F) iT (by kernel_rfl) (by kernel_rfl) (λ_ _ _=>by kernel_rfl) (λ_ _ _ _=>by kernel_rfl) (by kernel_rfl) h
theorem adW(h:S9 c F x0 x1 s=some r):c 176 [x0,x1] s=some (tidy s r):=hc.o0 F XB (by kernel_rfl) (by kernel_rfl) h
theorem vG(h:jJ c F x0 x1 s=some r):c 177 [x0,x1] s=some (tidy s r):=hc.o1 F (iW c F) iV (by kernel_rfl) (by kernel_rfl) (λ_ _ _=>by kernel_rfl) (λ_ _ _ _=>by kernel_rfl) (by kernel_rfl) h
theorem acv(h:Ol c F x0 x1 s=some r):c 178 [x0,x1] s=some (tidy s r):=hc.o0 F T9 (by kernel_rfl) (by kernel_rfl) h
theorem YZ(h:Im c F x0 s=some r):c 180 [x0] s=some (tidy s r):=hc.o0 F Nv (by kernel_rfl) (by kernel_rfl) h
theorem acy(h:Om c F x0 s=some r):c 182 [x0] s=some (tidy s r):=hc.o1 F (Ip c F) Io (by kernel_rfl) (by kernel_rfl) (λ_ _ _=>by kernel_rfl) (λ_ _ _ _=>by kernel_rfl) (by kernel_rfl) h
theorem aa9(h:L8 c F x0 s=some r):c 183 [x0] s=some (tidy s r):=hc.o0 F QD (by kernel_rfl) (by kernel_rfl) h
theorem UN(h:strings_Compare c F x0 x1 s=some r):c 184 [x0,x1] s=some (tidy s r):=hc.o0 F IV (by kernel_rfl) (by kernel_rfl) h
theorem Az(h:nE c F x0 x1 x2 s=some r):c 185 [x0,x1,x2] s=some (tidy s r):=hc.o0 F ry (by kernel_rfl) (by kernel_rfl) h
theorem Qe(h:Ta c F x0 x1 x2 s=some r):c 186 [x0,x1,x2] s=some (tidy s r):=hc.o0 F XD (by kernel_rfl) (by kernel_rfl) h
theorem pJ(h:fG c F x0 x1 x2 s=some r):c 189 [x0,x1,x2] s=some (tidy s r):=hc.o1 F (fo c F) fk (by kernel_rfl) (by kernel_rfl) (λ_ _ _=>by kernel_rfl) (λ_ _ _ _=>by kernel_rfl) (by kernel_rfl) h
theorem afo(h:XG c F x0 s=some r):c 203 [x0] s=some (tidy s r):=hc.o1 F (Oo c F) On (by kernel_rfl) (by kernel_rfl) (λ_ _ _=>by kernel_rfl) (λ_ _ _ _=>by kernel_rfl) (by kernel_rfl) h
theorem UL(h:Dy c F x0 x1 s=some r):c 204 [x0,x1] s=some (tidy s r):=hc.o0 F IX (by kernel_rfl) (by kernel_rfl) h
theorem WO(h:FR c F x0 x1 s=some r):c 209 [x0,x1] s=some (tidy s r):=hc.o0 F L9 (by kernel_rfl) (by kernel_rfl) h
theorem WQ(h:FT c F x0 x1 s=some r):c 214 [x0,x1] s=some (tidy s r):=hc.o0 F Mb (by kernel_rfl) (by kernel_rfl) h
theorem YY(h:Iq c F x0 x1 s=some r):c 219 [x0,x1] s=some (tidy s r):=hc.o0 F Nx (by kernel_rfl) (by kernel_rfl) h
theorem adI(h:Tb c F x0 s=some r):c 225 [x0] s=some (tidy s r):=hc.o1 F (Me c F) Md (by kernel_rfl) (by kernel_rfl) (λ_ _ _=>by kernel_rfl) (λ_ _ _ _=>by kernel_rfl) (by kernel_rfl) h
theorem adL(h:Tc c F x0 s=some r):c 226 [x0] s=some (tidy s r):=hc.o0 F XI (by kernel_rfl) (by kernel_rfl) h
theorem Ke(h:bytealg_CompareString c F x0 x1 s=some r):c 227 [x0,x1] s=some (tidy s r):=hc.o0 F zF (by kernel_rfl) (by kernel_rfl) h
end
attribute [local go_sem ↓] bf Gd ev evX Gu getLT Gc aaI kat CX CY VV VW VX VY Ph Pj Pk Pm Pn Po VZ V8 Pp Pq Pr Pt Pu ab1 ab2 ab3
attribute [local go_sem] bf Gd ev
section
variable(c:aj)(F:Nat)(x0 x1 x2 x3 x4 x5 x6 x7 x8 x9 x10 x11:AV)(s:St)
def uO:Sh:=(sq sl (sq sl (sq (sq sl (sb (sp 0 [0,3,4] [(2,[3])] (sq (sq sl (sc sl sl)) (sq (sb sl) sl))))) (sq sl sl))))
def Cb:PX 13 uO:=⟨_,by conv=>lhs;reduce⟩
def AN:PL 13 uO 0:=⟨_,by conv=>lhs;reduce⟩
def kD(k2:Q2):Nat->Q2
 |0,_,_=>none
 |n+1,vs,s=>dZ c F aZ (kD k2 n) [k2] AN.1 vs s
def yH(k2:Q2)(n:Nat)(vs:List AV)(s:St):=(by dsimp only[kD,AN,go_sem,Int.reduceOfNat]:kD c F k2 (n+1) vs s=_)
def uP:Un->List Q2->Nat->Q2
 |.z,[k2]=>kD c F k2
 |_,_=>λ_=>fD
def xk:O2:=bf c F (uP c F) Cb.1 [x0] s
def P6:=(by dsimp only[xk,Cb, ↓uP,go_sem,Int.reduceOfNat]:xk c F x0 s=_)
def vP:Sh:=(sq sl (sq (sq sl (sq sl (sc (sq sl sl) sl))) (sq sl (sq (sq sl (sb (sp 0 [1,7,40,41] [(2,[1,7])] (sq sl (sq (sc sl sl) (sq (sb (sq sl (sq sl (sq sl (sq sl (sb (sp 1 [1,7,8,9,10,11,40,41] [(4,[1,7,40,41])] (sq (sq sl (sc sl sl)) (sq (sb (sq sl (sq sl (sq sl (sq sl sl))))) (sq (sq sl sl) sl)))))))))) sl)))))) (sq (sq sl (sb (sp 2 [1,7,131,132] [(6,[1,7])] (sq sl (sq (sc sl sl) (sq (sb (sq sl sl)) sl)))))) (sq sl (sq (sq sl (sb (sp 3 [1,7,13,159,160,161] [(8,[7])] (sq sl (sq (sc sl sl) (sq (sb (sq sl (sq sl (sq sl (sq (sq sl (sb (sp 4 [1,7,13,17,18,19,159,160,161,166,167,168] [(10,[1,7,13,18,19,159,160,161])] (sq sl (sq (sc sl sl) (sq (sb (sq sl (sq sl (sq sl sl)))) sl)))))) sl))))) sl)))))) (sq sl sl))))))))
def acT:PX 18 vP:=⟨_,by conv=>lhs;reduce⟩
def Z6:PL 18 vP 4:=⟨_,by conv=>lhs;reduce⟩
def wS(Nn:Q2):Nat->Q2
 |0,_,_=>none
 |n+1,vs,s=>dZ c F aZ (wS Nn n) [Nn] Z6.1 vs s
def TU(Nn:Q2)(n:Nat)(vs:List AV)(s:St):=(by dsimp only[wS,Z6,go_sem,Int.reduceOfNat]:wS c F Nn (n+1) vs s=_)
def Z7:Un->List Q2->Nat->Q2
 |(.s (.s (.s (.s .z)))),[Nn]=>wS c F Nn
 |_,_=>λ_=>fD
def Z8:PL 18 vP 3:=⟨_,by conv=>lhs;reduce⟩
def AH(k8:Q2):Nat->Q2
 |0,_,_=>none
 |n+1,vs,s=>dZ c F (Z7 c F) (AH k8 n) [k8] Z8.1 vs s
def TV(k8:Q2)(n:Nat)(vs:List AV)(s:St):=(by dsimp only[AH,Z8, ↓Z7,go_sem,Int.reduceOfNat]:AH c F k8 (n+1) vs s=_)
def Z9:PL 18 vP 2:=⟨_,by conv=>lhs;reduce⟩
def AG(k6:Q2):Nat->Q2
 |0,_,_=>none
 |n+1,vs,s=>dZ c F aZ (AG k6 n) [k6] Z9.1 vs s
def TR(k6:Q2)(n:Nat)(vs:List AV)(s:St):=(by dsimp only[AG,Z9,go_sem,Int.reduceOfNat]:AG c F k6 (n+1) vs s=_)
def aaa:PL 18 vP 1:=⟨_,by conv=>lhs;reduce⟩
def wR(k4:Q2):Nat->Q2
 |0,_,_=>none
 |n+1,vs,s=>dZ c F aZ (wR k4 n) [k4] aaa.1 vs s
def TP(k4:Q2)(n:Nat)(vs:List AV)(s:St):=(by dsimp only[wR,aaa,go_sem,Int.reduceOfNat]:wR c F k4 (n+1) vs s=_)
def aab:Un->List Q2->Nat->Q2
 |(.s .z),[k4]=>wR c F k4
 |_,_=>λ_=>fD
def aac:PL 18 vP 0:=⟨_,by conv=>lhs;reduce⟩
def AE(k2:Q2):Nat->Q2
 |0,_,_=>none
 |n+1,vs,s=>dZ c F (aab c F) (AE k2 n) [k2] aac.1 vs s
def TQ(k2:Q2)(n:Nat)(vs:List AV)(s:St):=(by dsimp only[AE,aac, ↓aab,go_sem,Int.reduceOfNat]:AE c F k2 (n+1) vs s=_)
def Td:Un->List Q2->Nat->Q2
 |.z,[k2]=>AE c F k2
 |(.s .z),[k4]=>wR c F k4
 |(.s (.s .z)),[k6]=>AG c F k6
 |(.s (.s (.s .z))),[k8]=>AH c F k8
 |(.s (.s (.s (.s .z)))),[Nn]=>wS c F Nn
 |_,_=>λ_=>fD
def abj:O2:=bf c F (Td c F) acT.1 [x0] s
def ama:=(by dsimp only[abj,acT, ↓Td,go_sem,Int.reduceOfNat]:abj c F x0 s=_)
def Bf:Sh:=(sq sl (sq sl (sq (sq sl (sb (sp 0 [1,2,11,12] [(2,[1,2])] (sq sl (sq (sc sl sl) (sq (sb (sq sl sl)) sl)))))) (sq sl (sq (sq sl (sb (sp 1 [1,2,34,35] [(4,[1,2])] (sq sl (sq (sc sl sl) (sq (sb (sq sl sl)) sl)))))) (sq sl (sq sl sl)))))))
def Ud:PX 57 Bf:=⟨_,by conv=>lhs;reduce⟩
def QG:PL 57 Bf 1:=⟨_,by conv=>lhs;reduce⟩
def uJ(k4:Q2):Nat->Q2
 |0,_,_=>none
 |n+1,vs,s=>dZ c F aZ (uJ k4 n) [k4] QG.1 vs s
def LD(k4:Q2)(n:Nat)(vs:List AV)(s:St):=(by dsimp only[uJ,QG,go_sem,Int.reduceOfNat]:uJ c F k4 (n+1) vs s=_)
def QH:PL 57 Bf 0:=⟨_,by conv=>lhs;reduce⟩
def uI(k2:Q2):Nat->Q2
 |0,_,_=>none
 |n+1,vs,s=>dZ c F aZ (uI k2 n) [k2] QH.1 vs s
def LC(k2:Q2)(n:Nat)(vs:List AV)(s:St):=(by dsimp only[uI,QH,go_sem,Int.reduceOfNat]:uI c F k2 (n+1) vs s=_)
def Ir:Un->List Q2->Nat->Q2
 |.z,[k2]=>uI c F k2
 |(.s .z),[k4]=>uJ c F k4
 |_,_=>λ_=>fD
def Ot:O2:=bf c F (Ir c F) Ud.1 [x0] s
def afK:=(by dsimp only[Ot,Ud, ↓Ir,go_sem,Int.reduceOfNat]:Ot c F x0 s=_)
def XK:Sh:=(sq sl (sq sl (sq (sq sl (sc (sq sl sl) sl)) (sq sl sl))))
def XL:PX 60 XK:=⟨_,by conv=>lhs;reduce⟩
def Te:O2:=bf c F aZ XL.1 [x0,x1] s
def Xb:=(by dsimp only[Te,XL,go_sem,Int.reduceOfNat]:Te c F x0 x1 s=_)
def aad:Sh:=(sq sl (sq sl (sq sl sl)))
def aae:PX 61 aad:=⟨_,by conv=>lhs;reduce⟩
def XM:O2:=bf c F aZ aae.1 [x0,x1] s
def ajh:=(by dsimp only[XM,aae,go_sem,Int.reduceOfNat]:XM c F x0 x1 s=_)
def Mf:Sh:=(sq sl (sq sl (sq (sq sl (sb (sp 0 [0,1,2,7,8] [(2,[7])] (sq (sq sl (sc sl sl)) (sj [0,1,2,7,8] (sb (sq sl (sc sl sl))) sl))))) (sq sl sl))))
def XN:PX 62 Mf:=⟨_,by conv=>lhs;reduce⟩
def Ue:PL 62 Mf 0:=⟨_,by conv=>lhs;reduce⟩
def wG(k2:Q2):Nat->Q2
 |0,_,_=>none
 |n+1,vs,s=>dZ c F aZ (wG k2 n) [k2] Ue.1 vs s
def Dl(k2:Q2)(n:Nat)(vs:List AV)(s:St):=(by dsimp only[wG,Ue,go_sem,Int.reduceOfNat]:wG c F k2 (n+1) vs s=_)
def Mg:Un->List Q2->Nat->Q2
 |.z,[k2]=>wG c F k2
 |_,_=>λ_=>fD
def Tf:O2:=bf c F (Mg c F) XN.1 [x0,x1,x2] s
def aie:=(by dsimp only[Tf,XN, ↓Mg,go_sem,Int.reduceOfNat]:Tf c F x0 x1 x2 s=_)
def XO:Sh:=(sq sl (sq sl sl))
def XP:PX 63 XO:=⟨_,by conv=>lhs;reduce⟩
def Th:O2:=bf c F aZ XP.1 [x0,x1,x2] s
def aij:=(by dsimp only[Th,XP,go_sem,Int.reduceOfNat]:Th c F x0 x1 x2 s=_)
def Uf:Sh:=(sq sl (sq sl (sq sl sl)))
def Ug:PX 64 Uf:=⟨_,by conv=>lhs;reduce⟩
def Ou:O2:=bf c F aZ Ug.1 [x0,x1,x2] s
def afG:=(by dsimp only[Ou,Ug,go_sem,Int.reduceOfNat]:Ou c F x0 x1 x2 s=_)
def XQ:Sh:=(sq sl (sq sl sl))
def XS:PX 65 XQ:=⟨_,by conv=>lhs;reduce⟩
def Ti:O2:=bf c F aZ XS.1 [x0,x1,x2] s
def aik:=(by dsimp only[Ti,XS,go_sem,Int.reduceOfNat]:Ti c F x0 x1 x2 s=_)
def Uh:Sh:=(sq sl (sq sl (sq sl sl)))
def Ui:PX 66 Uh:=⟨_,by conv=>lhs;reduce⟩
def Ov:O2:=bf c F aZ Ui.1 [x0,x1,x2] s
def afH:=(by dsimp only[Ov,Ui,go_sem,Int.reduceOfNat]:Ov c F x0 x1 x2 s=_)
def pO:Sh:=(sq sl (sq sl (sq (sq sl (sb (sp 0 [0,5,6] [(2,[5])] (sq (sq sl (sc sl sl)) (sq (sb (sq sl (sb (sp 1 [0,5,6,41,42,43] [(4,[0,5,6])] (sq sl (sq (sc sl sl) (sq (sb (sq sl (sq sl (sb (sp 2 [0,5,6,41,42,43,47,48,49] [(6,[0,5,6,41,42,43])] (sq sl (sq (sc sl sl) (sj [0,5,6,41,42,43,47,48,49] (sb (sq sl (sq sl (sq sl (sc (sq sl sl) sl))))) sl)))))))) sl))))))) sl))))) (sq sl sl))))
def IZ:PX 67 pO:=⟨_,by conv=>lhs;reduce⟩
def Hf:PL 67 pO 2:=⟨_,by conv=>lhs;reduce⟩
def jG(k6:Q2):Nat->Q2
 |0,_,_=>none
 |n+1,vs,s=>dZ c F aZ (jG k6 n) [k6] Hf.1 vs s
def vM(k6:Q2)(n:Nat)(vs:List AV)(s:St):=(by dsimp only[jG,Hf,go_sem,Int.reduceOfNat]:jG c F k6 (n+1) vs s=_)
def Hg:Un->List Q2->Nat->Q2
 |(.s (.s .z)),[k6]=>jG c F k6
 |_,_=>λ_=>fD
def Hh:PL 67 pO 1:=⟨_,by conv=>lhs;reduce⟩
def fe(k4:Q2):Nat->Q2
 |0,_,_=>none
 |n+1,vs,s=>dZ c F (Hg c F) (fe k4 n) [k4] Hh.1 vs s
def vO(k4:Q2)(n:Nat)(vs:List AV)(s:St):=(by dsimp only[fe,Hh, ↓Hg,go_sem,Int.reduceOfNat]:fe c F k4 (n+1) vs s=_)
def Hi:Un->List Q2->Nat->Q2
 |(.s .z),[k4]=>fe c F k4
 |(.s (.s .z)),[k6]=>jG c F k6
 |_,_=>λ_=>fD
def Hj:PL 67 pO 0:=⟨_,by conv=>lhs;reduce⟩
def oP(k2:Q2):Nat->Q2
 |0,_,_=>none
 |n+1,vs,s=>dZ c F (Hi c F) (oP k2 n) [k2] Hj.1 vs s
def vN(k2:Q2)(n:Nat)(vs:List AV)(s:St):=(by dsimp only[oP,Hj, ↓Hi,go_sem,Int.reduceOfNat]:oP c F k2 (n+1) vs s=_)
def zV:Un->List Q2->Nat->Q2
 |.z,[k2]=>oP c F k2
 |(.s .z),[k4]=>fe c F k4
 |(.s (.s .z)),[k6]=>jG c F k6
 |_,_=>λ_=>fD
def Dz:O2:=bf c F (zV c F) IZ.1 [x0,x1] s
def Zi:=(by dsimp only[Dz,IZ, ↓zV,go_sem,Int.reduceOfNat]:Dz c F x0 x1 s=_)
def EU:Sh:=(sq sl (sq sl (sq sl (sq (sq sl (sc (sq sl sl) sl)) (sq sl sl)))))
def EV:PX 69 EU:=⟨_,by conv=>lhs;reduce⟩
def uf:O2:=bf c F aZ EV.1 [x0,x1,x2] s
def U3:=(by dsimp only[uf,EV,go_sem,Int.reduceOfNat]:uf c F x0 x1 x2 s=_)
def I0:Sh:=(sq sl (sq (sq sl (sc (sq sl sl) sl)) (sq sl (sq (sq sl (sc (sq sl sl) sl)) (sq sl sl)))))
def I3:PX 70 I0:=⟨_,by conv=>lhs;reduce⟩
def DA:O2:=bf c F aZ I3.1 [x0,x1,x2] s
def IC:=(by dsimp only[DA,I3,go_sem,Int.reduceOfNat]:DA c F x0 x1 x2 s=_)
def ya:Sh:=(sq sl (sq sl sl))
def yb:PX 73 ya:=⟨_,by conv=>lhs;reduce⟩
def rQ:O2:=bf c F aZ yb.1 [x0,x1] s
def Kg:=(by dsimp only[rQ,yb,go_sem,Int.reduceOfNat]:rQ c F x0 x1 s=_)
def I6:Sh:=(sq sl (sq sl sl))
def I7:PX 78 I6:=⟨_,by conv=>lhs;reduce⟩
def DB:O2:=bf c F aZ I7.1 [x0] s
def YV:=(by dsimp only[DB,I7,go_sem,Int.reduceOfNat]:DB c F x0 s=_)
def pP:Sh:=(sq sl (sq (sq sl (sc (sq sl sl) sl)) (sq sl sl)))
def pQ:PX 114 pP:=⟨_,by conv=>lhs;reduce⟩
def kZ:O2:=bf c F aZ pQ.1 [x0] s
def pL:=(by dsimp only[kZ,pQ,go_sem,Int.reduceOfNat]:kZ c F x0 s=_)
def AP:Sh:=(sq sl (sq (sq sl (sc (sq sl sl) sl)) (sq sl sl)))
def AQ:PX 115 AP:=⟨_,by conv=>lhs;reduce⟩
def vQ:O2:=bf c F aZ AQ.1 [x0] s
def AA:=(by dsimp only[vQ,AQ,go_sem,Int.reduceOfNat]:vQ c F x0 s=_)
def pR:Sh:=(sq sl (sq (sq sl (sc (sq sl sl) sl)) (sq sl sl)))
def pS:PX 116 pR:=⟨_,by conv=>lhs;reduce⟩
def lf:O2:=bf c F aZ pS.1 [x0] s
def pM:=(by dsimp only[lf,pS,go_sem,Int.reduceOfNat]:lf c F x0 s=_)
def tj:Sh:=(sq sl (sq (sq sl (sc (sq sl sl) sl)) (sq sl sl)))
def tq:PX 118 tj:=⟨_,by conv=>lhs;reduce⟩
def oq:O2:=bf c F aZ tq.1 [x0] s
def sV:=(by dsimp only[oq,tq,go_sem,Int.reduceOfNat]:oq c F x0 s=_)
def qK:Sh:=(sq sl (sq (sq sl (sc (sq sl sl) sl)) (sq sl sl)))
def qL:PX 119 qK:=⟨_,by conv=>lhs;reduce⟩
def mU:O2:=bf c F aZ qL.1 [x0] s
def qI:=(by dsimp only[mU,qL,go_sem,Int.reduceOfNat]:mU c F x0 s=_)
def Mh:Sh:=(sq sl (sq (sq sl (sc (sq sl sl) sl)) (sq (sq sl (sb (sp 0 [1,17,18,19] [(1,[4,5,6]),(2,[])] (sq sl (sq (sc sl sl) (sq (sb (sq sl (sq sl (sq (sq sl (sc (sq sl sl) sl)) sl)))) sl)))))) (sq sl sl))))
def XT:PX 123 Mh:=⟨_,by conv=>lhs;reduce⟩
def Uj:PL 123 Mh 0:=⟨_,by conv=>lhs;reduce⟩
def se(k1 k2:Q2):Nat->Q2
 |0,_,_=>none
 |n+1,vs,s=>dZ c F aZ (se k1 k2 n) [k1,k2] Uj.1 vs s
def xX(k1 k2:Q2)(n:Nat)(vs:List AV)(s:St):=(by dsimp only[se,Uj,go_sem,Int.reduceOfNat]:se c F k1 k2 (n+1) vs s=_)
def Mi:Un->List Q2->Nat->Q2
 |.z,[k1,k2]=>se c F k1 k2
 |_,_=>λ_=>fD
def Tj:O2:=bf c F (Mi c F) XT.1 [x0,x1] s
def W9:=(by dsimp only[Tj,XT, ↓Mi,go_sem,Int.reduceOfNat]:Tj c F x0 x1 s=_)
def It:Sh:=(sq sl (sq sl (sq sl (sq (sq sl (sb (sp 0 [5,23,24,25] [(2,[5])] (sq sl (sq (sc sl sl) (sj [5,23,24,25] (sb (sq sl (sq sl (sc sl sl)))) sl)))))) (sq sl sl)))))
def Uk:PX 124 It:=⟨_,by conv=>lhs;reduce⟩
def QI:PL 124 It 0:=⟨_,by conv=>lhs;reduce⟩
def uH(k2:Q2):Nat->Q2
 |0,_,_=>none
 |n+1,vs,s=>dZ c F aZ (uH k2 n) [k2] QI.1 vs s
def Bu(k2:Q2)(n:Nat)(vs:List AV)(s:St):=(by dsimp only[uH,QI,go_sem,Int.reduceOfNat]:uH c F k2 (n+1) vs s=_)
def Iu:Un->List Q2->Nat->Q2
 |.z,[k2]=>uH c F k2
 |_,_=>λ_=>fD
def Ox:O2:=bf c F (Iu c F) Uk.1 [x0] s
def afJ:=(by dsimp only[Ox,Uk, ↓Iu,go_sem,Int.reduceOfNat]:Ox c F x0 s=_)
def aaf:Sh:=(sq sl (sq sl (sq sl (sq (sq sl (sc (sq sl sl) sl)) (sq sl sl)))))
def aag:PX 125 aaf:=⟨_,by conv=>lhs;reduce⟩
def XU:O2:=bf c F aZ aag.1 [x0,x1,x2] s
def ajg:=(by dsimp only[XU,aag,go_sem,Int.reduceOfNat]:XU c F x0 x1 x2 s=_)
def Ul:Sh:=(sq sl (sq sl (sq sl sl)))
def Um:PX 126 Ul:=⟨_,by conv=>lhs;reduce⟩
def Oy:O2:=bf c F aZ Um.1 [x0,x1,x2] s
def afC:=(by dsimp only[Oy,Um,go_sem,Int.reduceOfNat]:Oy c F x0 x1 x2 s=_)
def Uo:Sh:=(sq sl (sq sl (sq sl sl)))
def Up:PX 127 Uo:=⟨_,by conv=>lhs;reduce⟩
def Oz:O2:=bf c F aZ Up.1 [x0,x1,x2] s
def afD:=(by dsimp only[Oz,Up,go_sem,Int.reduceOfNat]:Oz c F x0 x1 x2 s=_)
def I8:Sh:=(sq sl (sq (sq sl (sc (sq sl sl) sl)) (sq sl (sq (sq sl (sc (sq sl sl) sl)) (sq sl sl)))))
def I9:PX 132 I8:=⟨_,by conv=>lhs;reduce⟩
def DC:O2:=bf c F aZ I9.1 [x0,x1] s
def ID:=(by dsimp only[DC,I9,go_sem,Int.reduceOfNat]:DC c F x0 x1 s=_)
def kG:Sh:=(sq sl (sq sl (sq (sq sl (sc (sq sl sl) sl)) (sq (sq sl (sb (sp 0 [0,1,5,6] [(2,[0,5])] (sq (sq sl (sc sl sl)) (sj [0,1,5,6] (sb (sq sl (sq sl (sc (sq sl sl) sl)))) sl))))) (sq sl (sq sl sl))))))
def qh:PX 133 kG:=⟨_,by conv=>lhs;reduce⟩
def pT:PL 133 kG 0:=⟨_,by conv=>lhs;reduce⟩
def eR(k2:Q2):Nat->Q2
 |0,_,_=>none
 |n+1,vs,s=>dZ c F aZ (eR k2 n) [k2] pT.1 vs s
def jH(k2:Q2)(n:Nat)(vs:List AV)(s:St):=(by dsimp only[eR,pT,go_sem,Int.reduceOfNat,Int.reduceNegSucc]:eR c F k2 (n+1) vs s=_)
def kH:Un->List Q2->Nat->Q2
 |.z,[k2]=>eR c F k2
 |_,_=>λ_=>fD
def mj:O2:=bf c F (kH c F) qh.1 [x0,x1] s
def qf:=(by dsimp only[mj,qh, ↓kH,go_sem,Int.reduceOfNat,Int.reduceNegSucc]:mj c F x0 x1 s=_)
def Cc:Sh:=(sq sl (sq sl sl))
def Cd:PX 134 Cc:=⟨_,by conv=>lhs;reduce⟩
def xp:O2:=bf c F aZ Cd.1 [x0,x1] s
def Qp:=(by dsimp only[xp,Cd,go_sem,Int.reduceOfNat]:xp c F x0 x1 s=_)
def rE:Sh:=(sq sl (sq sl sl))
def rF:PX 135 rE:=⟨_,by conv=>lhs;reduce⟩
def nF:O2:=bf c F aZ rF.1 [x0,x1] s
def Cq:=(by dsimp only[nF,rF,go_sem,Int.reduceOfNat]:nF c F x0 x1 s=_)
def tL:Sh:=(sq sl (sq (sq sl (sb (sp 0 [0,1,7,8] [(1,[4]),(2,[])] (sq sl (sq (sc sl sl) (sq (sb (sq sl (sq sl (sc (sq sl sl) sl)))) sl)))))) (sq sl sl)))
def AR:PX 138 tL:=⟨_,by conv=>lhs;reduce⟩
def zI:PL 138 tL 0:=⟨_,by conv=>lhs;reduce⟩
def j5(k1 k2:Q2):Nat->Q2
 |0,_,_=>none
 |n+1,vs,s=>dZ c F aZ (j5 k1 k2 n) [k1,k2] zI.1 vs s
def xY(k1 k2:Q2)(n:Nat)(vs:List AV)(s:St):=(by dsimp only[j5,zI,go_sem,Int.reduceOfNat,Int.reduceNegSucc]:j5 c F k1 k2 (n+1) vs s=_)
def tM:Un->List Q2->Nat->Q2
 |.z,[k1,k2]=>j5 c F k1 k2
 |_,_=>λ_=>fD
def vR:O2:=bf c F (tM c F) AR.1 [x0,x1] s
def Od:=(by dsimp only[vR,AR, ↓tM,go_sem,Int.reduceOfNat,Int.reduceNegSucc]:vR c F x0 x1 s=_)
def yQ:Sh:=(sq sl (sq sl (sq (sq sl (sb (sp 0 [1,2,5,15,16] [(2,[1,2,5])] (sq sl (sq (sc sl sl) (sq (sb (sq sl sl)) sl)))))) (sq sl (sq sl (sq (sb (sp 1 [2,5,7] [(4,[5])] (sq (sq sl (sc sl sl)) (sb (sq sl (sq sl (sq sl (sb (sp 2 [2,5,7,8,36,37,38] [(6,[2,5,7])] (sq sl (sq (sc sl sl) (sj [2,5,7,8,36,37,38] (sb (sq sl (sq sl (sc (sq sl sl) sl)))) sl)))))))))))) (sq sl sl)))))))
def XV:PX 181 yQ:=⟨_,by conv=>lhs;reduce⟩
def Uq:PL 181 yQ 2:=⟨_,by conv=>lhs;reduce⟩
def sg(k6:Q2):Nat->Q2
 |0,_,_=>none
 |n+1,vs,s=>dZ c F aZ (sg k6 n) [k6] Uq.1 vs s
def xZ(k6:Q2)(n:Nat)(vs:List AV)(s:St):=(by dsimp only[sg,Uq,go_sem,Int.reduceOfNat,Int.reduceNegSucc]:sg c F k6 (n+1) vs s=_)
def Ur:Un->List Q2->Nat->Q2
 |(.s (.s .z)),[k6]=>sg c F k6
 |_,_=>λ_=>fD
def Ut:PL 181 yQ 1:=⟨_,by conv=>lhs;reduce⟩
def pn(k4:Q2):Nat->Q2
 |0,_,_=>none
 |n+1,vs,s=>dZ c F (Ur c F) (pn k4 n) [k4] Ut.1 vs s
def Dk(k4:Q2)(n:Nat)(vs:List AV)(s:St):=(by dsimp only[pn,Ut, ↓Ur,go_sem,Int.reduceOfNat,Int.reduceNegSucc]:pn c F k4 (n+1) vs s=_)
def Uu:PL 181 yQ 0:=⟨_,by conv=>lhs;reduce⟩
def su(k2:Q2):Nat->Q2
 |0,_,_=>none
 |n+1,vs,s=>dZ c F aZ (su k2 n) [k2] Uu.1 vs s
def Ni(k2:Q2)(n:Nat)(vs:List AV)(s:St):=(by dsimp only[su,Uu,go_sem,Int.reduceOfNat,Int.reduceNegSucc]:su c F k2 (n+1) vs s=_)
def Mj:Un->List Q2->Nat->Q2
 |.z,[k2]=>su c F k2
 |(.s .z),[k4]=>pn c F k4
 |(.s (.s .z)),[k6]=>sg c F k6
 |_,_=>λ_=>fD
def Tk:O2:=bf c F (Mj c F) XV.1 [x0,x1] s
def aic:=(by dsimp only[Tk,XV, ↓Mj,go_sem,Int.reduceOfNat,Int.reduceNegSucc]:Tk c F x0 x1 s=_)
def lq:Sh:=(sq sl (sq (sq sl (sb (sp 0 [0,1,7,8] [(1,[4]),(2,[])] (sq sl (sq (sc sl sl) (sq (sb (sq sl (sq sl (sc (sq sl sl) sl)))) sl)))))) (sq sl sl)))
def qM:PX 187 lq:=⟨_,by conv=>lhs;reduce⟩
def qi:PL 187 lq 0:=⟨_,by conv=>lhs;reduce⟩
def dL(k1 k2:Q2):Nat->Q2
 |0,_,_=>none
 |n+1,vs,s=>dZ c F aZ (dL k1 k2 n) [k1,k2] qi.1 vs s
def eE(k1 k2:Q2)(n:Nat)(vs:List AV)(s:St):=(by dsimp only[dL,qi,go_sem,Int.reduceOfNat,Int.reduceNegSucc]:dL c F k1 k2 (n+1) vs s=_)
def lu:Un->List Q2->Nat->Q2
 |.z,[k1,k2]=>dL c F k1 k2
 |_,_=>λ_=>fD
def mV:O2:=bf c F (lu c F) qM.1 [x0,x1] s
def qJ:=(by dsimp only[mV,qM, ↓lu,go_sem,Int.reduceOfNat,Int.reduceNegSucc]:mV c F x0 x1 s=_)
def ot:Sh:=(sq sl (sq (sq sl (sb (sp 0 [0,1,7,8] [(1,[4]),(2,[])] (sq sl (sq (sc sl sl) (sq (sb (sq sl (sq sl (sc (sq sl sl) sl)))) sl)))))) (sq sl sl)))
def uQ:PX 188 ot:=⟨_,by conv=>lhs;reduce⟩
def tX:PL 188 ot 0:=⟨_,by conv=>lhs;reduce⟩
def eV(k1 k2:Q2):Nat->Q2
 |0,_,_=>none
 |n+1,vs,s=>dZ c F aZ (eV k1 k2 n) [k1,k2] tX.1 vs s
def fK(k1 k2:Q2)(n:Nat)(vs:List AV)(s:St):=(by dsimp only[eV,tX,go_sem,Int.reduceOfNat,Int.reduceNegSucc]:eV c F k1 k2 (n+1) vs s=_)
def ov:Un->List Q2->Nat->Q2
 |.z,[k1,k2]=>eV c F k1 k2
 |_,_=>λ_=>fD
def pE:O2:=bf c F (ov c F) uQ.1 [x0,x1] s
def uK:=(by dsimp only[pE,uQ, ↓ov,go_sem,Int.reduceOfNat,Int.reduceNegSucc]:pE c F x0 x1 s=_)
def Hl:Sh:=(sq sl (sq sl sl))
def Ho:PX 205 Hl:=⟨_,by conv=>lhs;reduce⟩
def By:O2:=bf c F aZ Ho.1 [x0,x1,x2,x3] s
def WZ:=(by dsimp only[By,Ho,go_sem,Int.reduceOfNat]:By c F x0 x1 x2 x3 s=_)
def Hp:Sh:=(sq sl (sq sl sl))
def Hq:PX 206 Hp:=⟨_,by conv=>lhs;reduce⟩
def Bz:O2:=bf c F aZ Hq.1 [x0,x1,x2,x3] s
def W4:=(by dsimp only[Bz,Hq,go_sem,Int.reduceOfNat]:Bz c F x0 x1 x2 x3 s=_)
def Ja:Sh:=(sq sl (sq sl sl))
def Jb:PX 207 Ja:=⟨_,by conv=>lhs;reduce⟩
def DD:O2:=bf c F aZ Jb.1 [x0,x1] s
def Ze:=(by dsimp only[DD,Jb,go_sem,Int.reduceOfNat]:DD c F x0 x1 s=_)
def Jd:Sh:=(sq sl (sq sl (sq (sb (sq sl (sc (sq sl sl) (sq sl (sc (sq sl sl) sl))))) (sq sl sl))))
def Je:PX 210 Jd:=⟨_,by conv=>lhs;reduce⟩
def DE:O2:=bf c F aZ Je.1 [x0,x1,x2,x3] s
def Y9:=(by dsimp only[DE,Je,go_sem,Int.reduceOfNat]:DE c F x0 x1 x2 x3 s=_)
def Jf:Sh:=(sq sl (sq (sq sl (sc (sq sl sl) sl)) (sq sl sl)))
def Jh:PX 211 Jf:=⟨_,by conv=>lhs;reduce⟩
def DF:O2:=bf c F aZ Jh.1 [x0,x1,x2,x3] s
def Za:=(by dsimp only[DF,Jh,go_sem,Int.reduceOfNat]:DF c F x0 x1 x2 x3 s=_)
def Ji:Sh:=(sq sl (sq (sq sl (sc (sq sl sl) sl)) (sq sl sl)))
def Jj:PX 212 Ji:=⟨_,by conv=>lhs;reduce⟩
def DG:O2:=bf c F aZ Jj.1 [x0,x1] s
def Zf:=(by dsimp only[DG,Jj,go_sem,Int.reduceOfNat]:DG c F x0 x1 s=_)
def Jk:Sh:=(sq sl (sq sl sl))
def Jl:PX 215 Jk:=⟨_,by conv=>lhs;reduce⟩
def DH:O2:=bf c F aZ Jl.1 [x0,x1,x2,x3] s
def Zb:=(by dsimp only[DH,Jl,go_sem,Int.reduceOfNat]:DH c F x0 x1 x2 x3 s=_)
def Jm:Sh:=(sq sl (sq sl sl))
def Jn:PX 216 Jm:=⟨_,by conv=>lhs;reduce⟩
def DI:O2:=bf c F aZ Jn.1 [x0,x1,x2,x3] s
def Zc:=(by dsimp only[DI,Jn,go_sem,Int.reduceOfNat]:DI c F x0 x1 x2 x3 s=_)
def Jo:Sh:=(sq sl (sq sl sl))
def Jp:PX 217 Jo:=⟨_,by conv=>lhs;reduce⟩
def DJ:O2:=bf c F aZ Jp.1 [x0,x1] s
def Zg:=(by dsimp only[DJ,Jp,go_sem,Int.reduceOfNat]:DJ c F x0 x1 s=_)
def Ml:Sh:=(sq sl (sq sl sl))
def Mm:PX 220 Ml:=⟨_,by conv=>lhs;reduce⟩
def FU:O2:=bf c F aZ Mm.1 [x0,x1,x2,x3] s
def abb:=(by dsimp only[FU,Mm,go_sem,Int.reduceOfNat]:FU c F x0 x1 x2 x3 s=_)
def Jq:Sh:=(sq sl (sq sl sl))
def Jr:PX 221 Jq:=⟨_,by conv=>lhs;reduce⟩
def DK:O2:=bf c F aZ Jr.1 [x0,x1,x2,x3] s
def Zd:=(by dsimp only[DK,Jr,go_sem,Int.reduceOfNat]:DK c F x0 x1 x2 x3 s=_)
def Js:Sh:=(sq sl (sq sl sl))
def Ju:PX 222 Js:=⟨_,by conv=>lhs;reduce⟩
def DM:O2:=bf c F aZ Ju.1 [x0,x1] s
def Zh:=(by dsimp only[DM,Ju,go_sem,Int.reduceOfNat]:DM c F x0 x1 s=_)
def aah:Sh:=(sq sl (sq sl sl))
def aai:PX 224 aah:=⟨_,by conv=>lhs;reduce⟩
def XW:O2:=bf c F aZ aai.1 [x0,x1,x2] s
def aje:=(by dsimp only[XW,aai,go_sem,Int.reduceOfNat]:XW c F x0 x1 x2 s=_)
def acU:Sh:=(sq sl (sq sl sl))
def acV:PX 238 acU:=⟨_,by conv=>lhs;reduce⟩
def abk:O2:=bf c F aZ acV.1 [x0,x1] s
def alS:=(by dsimp only[abk,acV,go_sem,Int.reduceOfNat]:abk c F x0 x1 s=_)
end
section
variable{c:aj}(hc:Sem c)(F:Nat){x0 x1 x2 x3 x4 x5 x6 x7 x8 x9 x10 x11:AV}{s:St}{r:AV×St}
include hc
theorem aiv(h:abj c F x0 s=some r):c 18 [x0] s=some (tidy s r):=hc.oL F (Td c F) vP 5 (by kernel_rfl) (λi hi=>match i,hi with|0,_=>cH 0 (by kernel_rfl) (λ_ _ _=>by kernel_rfl) (λ_ _ _ _=>by kernel_rfl)|1,_=>cH 1 (by kernel_rfl) (λ_ _ _=>by kernel_rfl) (λ_ _ _ _=>by kernel_rfl)|2,_=>cH 2 (by kernel_rfl) (λ_ _ _=>by kernel_rfl) (λ_ _ _ _=>by kernel_rfl)|3,_=>cH 3 (by kernel_rfl) (λ_ _ _=>by kernel_rfl) (λ_ _ _ _=>by kernel_rfl)|4,_=>cH 4 (by kernel_rfl) (λ_ _ _=>by kernel_rfl) (λ_ _ _ _=>by kernel_rfl)|n+5,h=>absurd h (by omega)) (by kernel_rfl) h
theorem acM(h:Ot c F x0 s=some r):c 57 [x0] s=some (tidy s r):=hc.oL F (Ir c F) Bf 2 (by kernel_rfl) (λi hi=>match i,hi with|0,_=>cH 0 (by kernel_rfl) (λ_ _ _=>by kernel_rfl) (λ_ _ _ _=>by kernel_rfl)|1,_=>cH 1 (by kernel_rfl) (λ_ _ _=>by kernel_rfl) (λ_ _ _ _=>by kernel_rfl)|n+2,h=>absurd h (by omega)) (by kernel_rfl) h
theorem Ql(h:Te c F x0 x1 s=some r):c 60 [x0,x1] s=some (tidy s r):=hc.o0 F XK (by kernel_rfl) (by kernel_rfl) h
theorem afI(h:XM c F x0 x1 s=some r):c 61 [x0,x1] s=some (tidy s r):=hc.o0 F aad (by kernel_rfl) (by kernel_rfl) h
theorem ad1(h:Tf c F x0 x1 x2 s=some r):c 62 [x0,x1,x2] s=some (tidy s r):=hc.o1 F (Mg c F) Mf (by kernel_rfl) (by kernel_rfl) (λ_ _ _=>by kernel_rfl) (λ_ _ _ _=>by kernel_rfl) (by kernel_rfl) h
theorem ad2(h:Th c F x0 x1 x2 s=some r):c 63 [x0,x1,x2] s=some (tidy s r):=hc.o0 F XO (by kernel_rfl) (by kernel_rfl) h
theorem acJ(h:Ou c F x0 x1 x2 s=some r):c 64 [x0,x1,x2] s=some (tidy s r):=hc.o0 F Uf (by kernel_rfl) (by kernel_rfl) h
theorem ad3(h:Ti c F x0 x1 x2 s=some r):c 65 [x0,x1,x2] s=some (tidy s r):=hc.o0 F XQ (by kernel_rfl) (by kernel_rfl) h
theorem acK(h:Ov c F x0 x1 x2 s=some r):c 66 [x0,x1,x2] s=some (tidy s r):=hc.o0 F Uh (by kernel_rfl) (by kernel_rfl) h
theorem U2(h:Dz c F x0 x1 s=some r):c 67 [x0,x1] s=some (tidy s r):=hc.oL F (zV c F) pO 3 (by kernel_rfl) (λi hi=>match i,hi with|0,_=>cH 0 (by kernel_rfl) (λ_ _ _=>by kernel_rfl) (λ_ _ _ _=>by kernel_rfl)|1,_=>cH 1 (by kernel_rfl) (λ_ _ _=>by kernel_rfl) (λ_ _ _ _=>by kernel_rfl)|2,_=>cH 2 (by kernel_rfl) (λ_ _ _=>by kernel_rfl) (λ_ _ _ _=>by kernel_rfl)|n+3,h=>absurd h (by omega)) (by kernel_rfl) h
theorem B8(h:uf c F x0 x1 x2 s=some r):c 69 [x0,x1,x2] s=some (tidy s r):=hc.o0 F EU (by kernel_rfl) (by kernel_rfl) h
theorem EP(h:DA c F x0 x1 x2 s=some r):c 70 [x0,x1,x2] s=some (tidy s r):=hc.o0 F I0 (by kernel_rfl) (by kernel_rfl) h
theorem GV(h:rQ c F x0 x1 s=some r):c 73 [x0,x1] s=some (tidy s r):=hc.o0 F ya (by kernel_rfl) (by kernel_rfl) h
theorem oN(h:kZ c F x0 s=some r):c 114 [x0] s=some (tidy s r):=hc.o0 F pP (by kernel_rfl) (by kernel_rfl) h
theorem yN(h:vQ c F x0 s=some r):c 115 [x0] s=some (tidy s r):=hc.o0 F AP (by kernel_rfl) (by kernel_rfl) h
theorem oO(h:lf c F x0 s=some r):c 116 [x0] s=some (tidy s r):=hc.o0 F pR (by kernel_rfl) (by kernel_rfl) h
theorem qH(h:oq c F x0 s=some r):c 118 [x0] s=some (tidy s r):=hc.o0 F tj (by kernel_rfl) (by kernel_rfl) h
theorem pK(h:mU c F x0 s=some r):c 119 [x0] s=some (tidy s r):=hc.o0 F qK (by kernel_rfl) (by kernel_rfl) h
theorem Qi(h:Tj c F x0 x1 s=some r):c 123 [x0,x1] s=some (tidy s r):=hc.o1 F (Mi c F) Mh (by kernel_rfl) (by kernel_rfl) (λ_ _ _=>by kernel_rfl) (λ_ _ _ _=>by kernel_rfl) (by kernel_rfl) h
theorem acL(h:Ox c F x0 s=some r):c 124 [x0] s=some (tidy s r):=hc.o1 F (Iu c F) It (by kernel_rfl) (by kernel_rfl) (λ_ _ _=>by kernel_rfl) (λ_ _ _ _=>by kernel_rfl) (by kernel_rfl) h
theorem afF(h:XU c F x0 x1 x2 s=some r):c 125 [x0,x1,x2] s=some (tidy s r):=hc.o0 F aaf (by kernel_rfl) (by kernel_rfl) h
theorem acG(h:Oy c F x0 x1 x2 s=some r):c 126 [x0,x1,x2] s=some (tidy s r):=hc.o0 F Ul (by kernel_rfl) (by kernel_rfl) h
theorem acH(h:Oz c F x0 x1 x2 s=some r):c 127 [x0,x1,x2] s=some (tidy s r):=hc.o0 F Uo (by kernel_rfl) (by kernel_rfl) h
theorem ER(h:DC c F x0 x1 s=some r):c 132 [x0,x1] s=some (tidy s r):=hc.o0 F I8 (by kernel_rfl) (by kernel_rfl) h
theorem oY(h:mj c F x0 x1 s=some r):c 133 [x0,x1] s=some (tidy s r):=hc.o1 F (kH c F) kG (by kernel_rfl) (by kernel_rfl) (λ_ _ _=>by kernel_rfl) (λ_ _ _ _=>by kernel_rfl) (by kernel_rfl) h
theorem MB(h:xp c F x0 x1 s=some r):c 134 [x0,x1] s=some (tidy s r):=hc.o0 F Cc (by kernel_rfl) (by kernel_rfl) h
theorem AD(h:nF c F x0 x1 s=some r):c 135 [x0,x1] s=some (tidy s r):=hc.o0 F rE (by kernel_rfl) (by kernel_rfl) h
theorem Lw(h:vR c F x0 x1 s=some r):c 138 [x0,x1] s=some (tidy s r):=hc.o1 F (tM c F) tL (by kernel_rfl) (by kernel_rfl) (λ_ _ _=>by kernel_rfl) (λ_ _ _ _=>by kernel_rfl) (by kernel_rfl) h
theorem ad0(h:Tk c F x0 x1 s=some r):c 181 [x0,x1] s=some (tidy s r):=hc.oL F (Mj c F) yQ 3 (by kernel_rfl) (λi hi=>match i,hi with|0,_=>cH 0 (by kernel_rfl) (λ_ _ _=>by kernel_rfl) (λ_ _ _ _=>by kernel_rfl)|1,_=>cH 1 (by kernel_rfl) (λ_ _ _=>by kernel_rfl) (λ_ _ _ _=>by kernel_rfl)|2,_=>cH 2 (by kernel_rfl) (λ_ _ _=>by kernel_rfl) (λ_ _ _ _=>by kernel_rfl)|n+3,h=>absurd h (by omega)) (by kernel_rfl) h
theorem pN(h:mV c F x0 x1 s=some r):c 187 [x0,x1] s=some (tidy s r):=hc.o1 F (lu c F) lq (by kernel_rfl) (by kernel_rfl) (λ_ _ _=>by kernel_rfl) (λ_ _ _ _=>by kernel_rfl) (by kernel_rfl) h
theorem sW(h:pE c F x0 x1 s=some r):c 188 [x0,x1] s=some (tidy s r):=hc.o1 F (ov c F) ot (by kernel_rfl) (by kernel_rfl) (λ_ _ _=>by kernel_rfl) (λ_ _ _ _=>by kernel_rfl) (by kernel_rfl) h
theorem SE(h:By c F x0 x1 x2 x3 s=some r):c 205 [x0,x1,x2,x3] s=some (tidy s r):=hc.o0 F Hl (by kernel_rfl) (by kernel_rfl) h
theorem SG(h:Bz c F x0 x1 x2 x3 s=some r):c 206 [x0,x1,x2,x3] s=some (tidy s r):=hc.o0 F Hp (by kernel_rfl) (by kernel_rfl) h
theorem UY(h:DD c F x0 x1 s=some r):c 207 [x0,x1] s=some (tidy s r):=hc.o0 F Ja (by kernel_rfl) (by kernel_rfl) h
theorem US(h:DE c F x0 x1 x2 x3 s=some r):c 210 [x0,x1,x2,x3] s=some (tidy s r):=hc.o0 F Jd (by kernel_rfl) (by kernel_rfl) h
theorem UT(h:DF c F x0 x1 x2 x3 s=some r):c 211 [x0,x1,x2,x3] s=some (tidy s r):=hc.o0 F Jf (by kernel_rfl) (by kernel_rfl) h
theorem UZ(h:DG c F x0 x1 s=some r):c 212 [x0,x1] s=some (tidy s r):=hc.o0 F Ji (by kernel_rfl) (by kernel_rfl) h
theorem UU(h:DH c F x0 x1 x2 x3 s=some r):c 215 [x0,x1,x2,x3] s=some (tidy s r):=hc.o0 F Jk (by kernel_rfl) (by kernel_rfl) h
theorem UW(h:DI c F x0 x1 x2 x3 s=some r):c 216 [x0,x1,x2,x3] s=some (tidy s r):=hc.o0 F Jm (by kernel_rfl) (by kernel_rfl) h
theorem U0(h:DJ c F x0 x1 s=some r):c 217 [x0,x1] s=some (tidy s r):=hc.o0 F Jo (by kernel_rfl) (by kernel_rfl) h
theorem W6(h:FU c F x0 x1 x2 x3 s=some r):c 220 [x0,x1,x2,x3] s=some (tidy s r):=hc.o0 F Ml (by kernel_rfl) (by kernel_rfl) h
theorem UX(h:DK c F x0 x1 x2 x3 s=some r):c 221 [x0,x1,x2,x3] s=some (tidy s r):=hc.o0 F Jq (by kernel_rfl) (by kernel_rfl) h
theorem U1(h:DM c F x0 x1 s=some r):c 222 [x0,x1] s=some (tidy s r):=hc.o0 F Js (by kernel_rfl) (by kernel_rfl) h
theorem afE(h:XW c F x0 x1 x2 s=some r):c 224 [x0,x1,x2] s=some (tidy s r):=hc.o0 F aah (by kernel_rfl) (by kernel_rfl) h
theorem ah5(h:abk c F x0 x1 s=some r):c 238 [x0,x1] s=some (tidy s r):=hc.o0 F acU (by kernel_rfl) (by kernel_rfl) h
end
end
end Go.Proofs.YtgihekklfnjkiaaGreatDoor
