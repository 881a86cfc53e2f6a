/- Functions of the program, plainly, and what they answer. -/
import Derived.Test.YtlkadmkojjceiaaGreatDoorVAwake
set_option linter.all false
set_option maxRecDepth 100000
set_option maxHeartbeats 4000000
namespace Go.Proofs.YtlkadmkojjceiaaGreatDoor
noncomputable section
open Go Go.Ai Go.Proofs
def CR:dS:=yf [(327,KE),(12,Nf)]
def Sem(c:ah):Prop:=c=run CR gg
def gA(f:Nat):cw:=rG gg f
abbrev PX(f:Nat)(s:Sh):={a:Tx // txF (gA f) s=a}
abbrev PL(f:Nat)(s:Sh)(i:Nat):={a:List Pos×Tx // txL (eX (gA f) s i)=a}
theorem Sem.o0{c:ah}(hc:Sem c)(F:Nat){f:FuncId}{args:List AV}{st:St}{r:AV×St}(s:Sh)(hk:(ud (CR f)&& !ud (gg.get (key f))&&(dQ (gA f).code s).isEmpty)=true)
  {k:O2} (hd:Bz c F (UE []) (gA f) s args st=k) (h:k=some r):c f args st=some (tidy st r):=by
 subst hc;exact Yx s hk hd h
theorem Sem.o1{c:ah}(hc:Sem c)(F:Nat){f:FuncId}{args:List AV}{st:St}{r:AV×St}(Ls:Un->List Q2->Nat->Q2)(s:Sh)(hk:(ud (CR f)&& !ud (gg.get (key f))&&Nat.beq (dQ (gA f).code s).length 1)=true)
  (hs:(RA (eX (gA f) s 0).2&&Nat.beq (lpJ (eX (gA f) s 0).2) 0)=true) (h0:∀K' vs st,nr Ls (gA f) s 0 K' 0 vs st=none)
  (h1:∀K' n vs st,nr Ls (gA f) s 0 K' (n+1) vs st=G4 (den c F (nr Ls (gA f) s) (eX (gA f) s 0).1 (lpB (eX (gA f) s 0).2)) (lpI (eX (gA f) s 0).2) (lpO (eX (gA f) s 0).2) K' (nr Ls (gA f) s 0 K' n) vs st)
  {k:O2} (hd:Bz c F (nr Ls (gA f) s) (gA f) s args st=k) (h:k=some r):c f args st=some (tidy st r):=by
 subst hc;exact Yy Ls s hk hs h0 h1 hd h
theorem Sem.oL{c:ah}(hc:Sem c)(F:Nat){f:FuncId}{args:List AV}{st:St}{r:AV×St}(Ls:Un->List Q2->Nat->Q2)(s:Sh)(n:Nat)(hk:(ud (CR f)&& !ud (gg.get (key f))&&Nat.beq (dQ (gA f).code s).length n)=true)
  (hL:∀i,i<n->yC c F (nr Ls (gA f) s) (eX (gA f) s i).1 (eX (gA f) s i).2) {k:O2} (hd:Bz c F (nr Ls (gA f) s) (gA f) s args st=k) (h:k=some r):c f args st=some (tidy st r):=by
 subst hc;exact RK Ls s n hk hL hd h
end
noncomputable section
open Go Go.Ai Go.Proofs
attribute [local go_sem ↓] bf nX ev Qu w5 getLT tV FX Lo rE rF Dr A3 A4 A5 w6 w7 w8 w9 xe xg A6 A7 xj xk xp xq xw Fl Fm Fo
attribute [local go_sem] bf nX ev
section
variable(c:ah)(F:Nat)(x0 x1 x2 x3 x4 x5 x6 x7 x8 x9 xA ue:AV)(s:St)
def Du:Sh:=(sq sl (sq sl sl))
def Dv:PX 44 Du:=⟨_,by conv=>lhs;reduce⟩
def Aq:O2:=bf c F bh Dv.1 [x0,x1] s
def O5:=(by dsimp only[Aq,Dv,go_sem,Int.reduceOfNat]:Aq c F x0 x1 s=_)
def pN:Sh:=(sq sl (sq sl (sq (sq sl (sc (sq sl sl) sl)) (sq (sq sl (sb (sp 0 [1,6] [(1,[2,3]),(2,[])] (sq (sq sl (sc sl sl)) (sq (sb (sq (sq sl (sq sl (sc (sq sl sl) sl))) (sq sl (sc (sq sl sl) sl)))) sl))))) (sq sl sl)))))
def yL:PX 53 pN:=⟨_,by conv=>lhs;reduce⟩
def xB:PL 53 pN 0:=⟨_,by conv=>lhs;reduce⟩
def fI(k1 k2:Q2):Nat->Q2
 |0,_,_=>none
 |n+1,vs,s=>cX c F bh (fI k1 k2 n) [k1,k2] xB.1 vs s
def lZ(k1 k2:Q2)(n:Nat)(vs:List AV)(s:St):=(by dsimp only[fI,xB,go_sem,Int.reduceOfNat]:fI c F k1 k2 (n+1) vs s=_)
def pO:Un->List Q2->Nat->Q2
 |.z,[k1,k2]=>fI c F k1 k2
 |_,_=>λ_=>dZ
def sv:O2:=bf c F (pO c F) yL.1 [x0] s
def I0:=(by dsimp only[sv,yL, ↓pO,go_sem,Int.reduceOfNat]:sv c F x0 s=_)
def Lz:Sh:=(sq sl (sq (sq sl (sc (sq sl sl) sl)) (sq sl sl)))
def LA:PX 72 Lz:=⟨_,by conv=>lhs;reduce⟩
def I1:O2:=bf c F bh LA.1 [x0] s
def Wa:=(by dsimp only[I1,LA,go_sem,Int.reduceOfNat]:I1 c F x0 s=_)
def Dw:Sh:=(sq sl (sq (sq sl (sq sl (sc (sq sl sl) sl))) (sq sl (sq (sq sl (sb (sp 0 [1,6,21,22,23] [(1,[2,3]),(2,[])] (sq sl (sq (sc sl sl) (sq (sb (sq sl (sq (sq sl (sq sl (sc (sq sl sl) sl))) (sq sl (sc (sq sl sl) sl))))) sl)))))) (sq sl sl)))))
def LB:PX 77 Dw:=⟨_,by conv=>lhs;reduce⟩
def J2:PL 77 Dw 0:=⟨_,by conv=>lhs;reduce⟩
def qA(k1 k2:Q2):Nat->Q2
 |0,_,_=>none
 |n+1,vs,s=>cX c F bh (qA k1 k2 n) [k1,k2] J2.1 vs s
def yM(k1 k2:Q2)(n:Nat)(vs:List AV)(s:St):=(by dsimp only[qA,J2,go_sem,Int.reduceOfNat]:qA c F k1 k2 (n+1) vs s=_)
def Dx:Un->List Q2->Nat->Q2
 |.z,[k1,k2]=>qA c F k1 k2
 |_,_=>λ_=>dZ
def I2:O2:=bf c F (Dx c F) LB.1 [x0] s
def LC:=(by dsimp only[I2,LB, ↓Dx,go_sem,Int.reduceOfNat]:I2 c F x0 s=_)
def Dy:Sh:=(sq sl (sq (sq sl (sc (sq sl sl) sl)) (sq sl (sq (sq sl (sb (sp 0 [5,23,24,25] [(2,[5])] (sq sl (sq (sc sl sl) (sq (sb (sq sl sl)) sl)))))) (sq sl sl)))))
def LD:PX 86 Dy:=⟨_,by conv=>lhs;reduce⟩
def J3:PL 86 Dy 0:=⟨_,by conv=>lhs;reduce⟩
def qB(k2:Q2):Nat->Q2
 |0,_,_=>none
 |n+1,vs,s=>cX c F bh (qB k2 n) [k2] J3.1 vs s
def yN(k2:Q2)(n:Nat)(vs:List AV)(s:St):=(by dsimp only[qB,J3,go_sem,Int.reduceOfNat]:qB c F k2 (n+1) vs s=_)
def Dz:Un->List Q2->Nat->Q2
 |.z,[k2]=>qB c F k2
 |_,_=>λ_=>dZ
def I3:O2:=bf c F (Dz c F) LD.1 [x0,x1] s
def LF:=(by dsimp only[I3,LD, ↓Dz,go_sem,Int.reduceOfNat]:I3 c F x0 x1 s=_)
def yO:Sh:=(sq sl (sq sl sl))
def yP:PX 101 yO:=⟨_,by conv=>lhs;reduce⟩
def sw:O2:=bf c F bh yP.1 [x0] s
def I4:=(by dsimp only[sw,yP,go_sem,Int.reduceOfNat]:sw c F x0 s=_)
def pP:Sh:=(sq sl (sq sl (sq (sq sl (sc (sq sl sl) sl)) (sq sl (sq (sq sl (sc (sq sl sl) sl)) (sq (sq sl (sc (sq sl sl) sl)) (sq (sq sl (sb (sp 0 [1,7] [(1,[2,3]),(2,[1])] (sq (sq sl (sc sl sl)) (sq (sb (sq sl (sc (sq sl sl) sl))) sl))))) (sq (sq sl (sc (sq sl sl) sl)) (sq sl sl)))))))))
def yQ:PX 108 pP:=⟨_,by conv=>lhs;reduce⟩
def xC:PL 108 pP 0:=⟨_,by conv=>lhs;reduce⟩
def fJ(k1 k2:Q2):Nat->Q2
 |0,_,_=>none
 |n+1,vs,s=>cX c F bh (fJ k1 k2 n) [k1,k2] xC.1 vs s
def uf(k1 k2:Q2)(n:Nat)(vs:List AV)(s:St):=(by dsimp only[fJ,xC,go_sem,Int.reduceOfNat]:fJ c F k1 k2 (n+1) vs s=_)
def pQ:Un->List Q2->Nat->Q2
 |.z,[k1,k2]=>fJ c F k1 k2
 |_,_=>λ_=>dZ
def sx:O2:=bf c F (pQ c F) yQ.1 [x0] s
def I5:=(by dsimp only[sx,yQ, ↓pQ,go_sem,Int.reduceOfNat]:sx c F x0 s=_)
def yR:Sh:=(sq sl (sq sl (sq (sq sl (sc (sq sl sl) sl)) (sq (sq sl (sc (sq sl sl) sl)) (sq (sq sl (sc (sq sl sl) sl)) (sq (sq sl (sc (sq sl sl) sl)) (sq (sq sl (sc (sq sl sl) sl)) (sq (sq sl (sc (sq sl sl) sl)) (sq (sq sl (sc (sq sl sl) sl)) (sq sl (sq (sq sl (sc (sq sl sl) sl)) (sq sl (sq sl (sj [2,3,5,6,7,8] (sq sl (sc sl sl)) (sj [3,5,7,8] (sq sl (sc sl sl)) (sq (sq sl (sc (sq sl sl) sl)) (sq sl sl)))))))))))))))))
def yS:PX 109 yR:=⟨_,by conv=>lhs;reduce⟩
def sy:O2:=bf c F bh yS.1 [x0,x1] s
def I6:=(by dsimp only[sy,yS,go_sem,Int.reduceOfNat]:sy c F x0 x1 s=_)
def pR:Sh:=(sq sl (sq sl (sq (sq sl (sb (sp 0 [0,1,5,6] [(2,[5])] (sq (sq sl (sc sl sl)) (sq (sb sl) sl))))) (sq sl sl))))
def yT:PX 111 pR:=⟨_,by conv=>lhs;reduce⟩
def xD:PL 111 pR 0:=⟨_,by conv=>lhs;reduce⟩
def fK(k2:Q2):Nat->Q2
 |0,_,_=>none
 |n+1,vs,s=>cX c F bh (fK k2 n) [k2] xD.1 vs s
def ug(k2:Q2)(n:Nat)(vs:List AV)(s:St):=(by dsimp only[fK,xD,go_sem,Int.reduceOfNat]:fK c F k2 (n+1) vs s=_)
def pS:Un->List Q2->Nat->Q2
 |.z,[k2]=>fK c F k2
 |_,_=>λ_=>dZ
def sF:O2:=bf c F (pS c F) yT.1 [x0,x1] s
def I7:=(by dsimp only[sF,yT, ↓pS,go_sem,Int.reduceOfNat]:sF c F x0 x1 s=_)
def LG:Sh:=(sq sl (sq sl (sq sl sl)))
def LH:PX 116 LG:=⟨_,by conv=>lhs;reduce⟩
def I8:O2:=bf c F bh LH.1 [x0] s
def Wb:=(by dsimp only[I8,LH,go_sem,Int.reduceOfNat]:I8 c F x0 s=_)
def Fs:Sh:=(sq sl (sq (sq sl (sc (sq sl sl) sl)) (sq sl sl)))
def Ft:PX 117 Fs:=⟨_,by conv=>lhs;reduce⟩
def BD:O2:=bf c F bh Ft.1 [x0] s
def QG:=(by dsimp only[BD,Ft,go_sem,Int.reduceOfNat]:BD c F x0 s=_)
def zX:Sh:=(sq sl (sj [] (sq sl (sb (sq sl (sc (sq sl (sc (sq sl sl) sl)) (sq sl (sc (sq sl (sc (sq sl sl) sl)) (sq sl (sc (sq sl (sc (sq sl sl) sl)) (sq sl (sc (sq sl (sc (sq sl sl) sl)) sl)))))))))) (sq sl sl)))
def zY:PX 118 zX:=⟨_,by conv=>lhs;reduce⟩
def uI:O2:=bf c F bh zY.1 [x0] s
def Kn:=(by dsimp only[uI,zY,go_sem,Int.reduceOfNat]:uI c F x0 s=_)
def DA:Sh:=(sq sl (sq (sq sl (sq sl (sc (sq sl sl) sl))) (sq (sq sl (sq sl (sc (sq sl sl) sl))) (sq (sq sl (sc (sq sl sl) sl)) (sq (sq sl (sb (sp 0 [1,47,48,49] [(1,[2,3]),(2,[1])] (sq sl (sq (sc sl sl) (sq (sb (sq sl (sq sl (sc (sq sl sl) sl)))) sl)))))) (sq (sq sl (sc (sq sl sl) sl)) (sq sl sl)))))))
def LJ:PX 119 DA:=⟨_,by conv=>lhs;reduce⟩
def J4:PL 119 DA 0:=⟨_,by conv=>lhs;reduce⟩
def mI(k1 k2:Q2):Nat->Q2
 |0,_,_=>none
 |n+1,vs,s=>cX c F bh (mI k1 k2 n) [k1,k2] J4.1 vs s
def Fu(k1 k2:Q2)(n:Nat)(vs:List AV)(s:St):=(by dsimp only[mI,J4,go_sem,Int.reduceOfNat]:mI c F k1 k2 (n+1) vs s=_)
def DB:Un->List Q2->Nat->Q2
 |.z,[k1,k2]=>mI c F k1 k2
 |_,_=>λ_=>dZ
def I9:O2:=bf c F (DB c F) LJ.1 [x0] s
def Wc:=(by dsimp only[I9,LJ, ↓DB,go_sem,Int.reduceOfNat]:I9 c F x0 s=_)
def LL:Sh:=(sq sl (sq sl sl))
def LN:PX 120 LL:=⟨_,by conv=>lhs;reduce⟩
def Ja:O2:=bf c F bh LN.1 [] s
def Wd:=(by dsimp only[Ja,LN,go_sem,Int.reduceOfNat]:Ja c F s=_)
def B0:Sh:=(sq sl (sj [3,4,5] (sb (sq sl (sc (sq sl sl) (sq sl (sc (sq sl sl) (sq sl (sc (sq sl sl) (sj [3,4,5,28] (sq sl (sc sl (sq sl (sc sl sl)))) (sc (sq sl sl) (sq sl (sc (sq sl sl) (sq sl (sc (sq sl sl) sl))))))))))))) (sq sl (sq (sq sl (sc (sq sl sl) sl)) (sq sl (sj [3,5,9] (sq sl (sc sl sl)) (sq (sq sl (sc (sq sl sl) sl)) (sq sl sl))))))))
def B4:PX 121 B0:=⟨_,by conv=>lhs;reduce⟩
def yU:O2:=bf c F bh B4.1 [x0,x1,x2] s
def Nm:=(by dsimp only[yU,B4,go_sem,Int.reduceOfNat]:yU c F x0 x1 x2 s=_)
def N8:Sh:=(sq sl (sq sl (sq (sq sl (sc (sq sl sl) sl)) (sq sl sl))))
def N9:PX 125 N8:=⟨_,by conv=>lhs;reduce⟩
def LO:O2:=bf c F bh N9.1 [x0] s
def XE:=(by dsimp only[LO,N9,go_sem,Int.reduceOfNat]:LO c F x0 s=_)
def DC:Sh:=(sq sl (sq sl (sq sl (sq (sb (sq sl (sc (sq sl sl) (sq sl (sc (sq sl sl) sl))))) (sq (sq sl (sb (sp 0 [1,3,4,18,19,20] [(1,[2]),(3,[1])] (sq sl (sq (sc sl sl) (sq (sb (sq sl (sq (sq sl (sc (sq sl sl) sl)) sl))) sl)))))) (sq (sq sl (sc (sq sl sl) sl)) (sq sl sl)))))))
def LP:PX 129 DC:=⟨_,by conv=>lhs;reduce⟩
def J5:PL 129 DC 0:=⟨_,by conv=>lhs;reduce⟩
def mJ(k1 k3:Q2):Nat->Q2
 |0,_,_=>none
 |n+1,vs,s=>cX c F bh (mJ k1 k3 n) [k1,k3] J5.1 vs s
def Fv(k1 k3:Q2)(n:Nat)(vs:List AV)(s:St):=(by dsimp only[mJ,J5,go_sem,Int.reduceOfNat,Int.reduceNegSucc]:mJ c F k1 k3 (n+1) vs s=_)
def DD:Un->List Q2->Nat->Q2
 |.z,[k1,k3]=>mJ c F k1 k3
 |_,_=>λ_=>dZ
def Jb:O2:=bf c F (DD c F) LP.1 [x0] s
def We:=(by dsimp only[Jb,LP, ↓DD,go_sem,Int.reduceOfNat,Int.reduceNegSucc]:Jb c F x0 s=_)
def jA:Sh:=(sq sl (sq (sq sl (sc (sq sl sl) sl)) (sq (sq sl (sb (sp 0 [0,4] [(1,[2,3]),(2,[])] (sq (sq sl (sc sl sl)) (sq (sb (sq (sq sl (sq sl (sc (sq sl sl) sl))) (sq sl (sb (sp 1 [0,4,6] [(1,[2,3]),(4,[0,4])] (sq (sq sl (sc sl sl)) (sq (sb (sq sl (sc (sq sl sl) sl))) sl))))))) sl))))) (sq sl sl))))
def uh:PX 136 jA:=⟨_,by conv=>lhs;reduce⟩
def sG:PL 136 jA 1:=⟨_,by conv=>lhs;reduce⟩
def dF(k1 k4:Q2):Nat->Q2
 |0,_,_=>none
 |n+1,vs,s=>cX c F bh (dF k1 k4 n) [k1,k4] sG.1 vs s
def qC(k1 k4:Q2)(n:Nat)(vs:List AV)(s:St):=(by dsimp only[dF,sG,go_sem,Int.reduceOfNat]:dF c F k1 k4 (n+1) vs s=_)
def sH:Un->List Q2->Nat->Q2
 |(.s .z),[k1,k4]=>dF c F k1 k4
 |_,_=>λ_=>dZ
def sI:PL 136 jA 0:=⟨_,by conv=>lhs;reduce⟩
def eH(k1 k2:Q2):Nat->Q2
 |0,_,_=>none
 |n+1,vs,s=>cX c F (sH c F) (eH k1 k2 n) [k1,k2] sI.1 vs s
def qD(k1 k2:Q2)(n:Nat)(vs:List AV)(s:St):=(by dsimp only[eH,sI, ↓sH,go_sem,Int.reduceOfNat]:eH c F k1 k2 (n+1) vs s=_)
def l6:Un->List Q2->Nat->Q2
 |.z,[k1,k2]=>eH c F k1 k2
 |(.s .z),[k1,k4]=>dF c F k1 k4
 |_,_=>λ_=>dZ
def om:O2:=bf c F (l6 c F) uh.1 [x0] s
def Ev:=(by dsimp only[om,uh, ↓l6,go_sem,Int.reduceOfNat]:om c F x0 s=_)
def jd:Sh:=(sq sl (sq (sq sl (sb (sp 0 [1,4] [(1,[2,3]),(2,[1])] (sq (sq sl (sc sl sl)) (sq (sb (sq (sq sl (sq sl (sc (sq sl sl) sl))) (sq (sq sl (sc (sq sl sl) sl)) (sq sl (sc (sq sl sl) sl))))) sl))))) (sq (sq sl (sb (sp 1 [1,6] [(1,[2,3]),(4,[])] (sq (sq sl (sc sl sl)) (sq (sb (sq sl (sq sl (sq (sq sl (sc (sq sl sl) sl)) (sq (sq sl (sc (sq sl sl) sl)) (sq (sq sl (sc (sq sl sl) sl)) (sq sl (sc (sq sl sl) sl)))))))) sl))))) (sq sl sl))))
def sJ:PX 137 jd:=⟨_,by conv=>lhs;reduce⟩
def rI:PL 137 jd 1:=⟨_,by conv=>lhs;reduce⟩
def fE(k1 k4:Q2):Nat->Q2
 |0,_,_=>none
 |n+1,vs,s=>cX c F bh (fE k1 k4 n) [k1,k4] rI.1 vs s
def jZ(k1 k4:Q2)(n:Nat)(vs:List AV)(s:St):=(by dsimp only[fE,rI,go_sem,Int.reduceOfNat]:fE c F k1 k4 (n+1) vs s=_)
def rJ:PL 137 jd 0:=⟨_,by conv=>lhs;reduce⟩
def fF(k1 k2:Q2):Nat->Q2
 |0,_,_=>none
 |n+1,vs,s=>cX c F bh (fF k1 k2 n) [k1,k2] rJ.1 vs s
def o6(k1 k2:Q2)(n:Nat)(vs:List AV)(s:St):=(by dsimp only[fF,rJ,go_sem,Int.reduceOfNat]:fF c F k1 k2 (n+1) vs s=_)
def lz:Un->List Q2->Nat->Q2
 |.z,[k1,k2]=>fF c F k1 k2
 |(.s .z),[k1,k4]=>fE c F k1 k4
 |_,_=>λ_=>dZ
def nu:O2:=bf c F (lz c F) sJ.1 [x0] s
def sK:=(by dsimp only[nu,sJ, ↓lz,go_sem,Int.reduceOfNat]:nu c F x0 s=_)
def zZ:Sh:=(sq sl (sq sl (sq (sq sl (sc (sq sl sl) sl)) (sq sl sl))))
def z7:PX 138 zZ:=⟨_,by conv=>lhs;reduce⟩
def uJ:O2:=bf c F bh z7.1 [x0] s
def Ko:=(by dsimp only[uJ,z7,go_sem,Int.reduceOfNat]:uJ c F x0 s=_)
def Ba:Sh:=(sq sl (sq sl sl))
def Bb:PX 139 Ba:=⟨_,by conv=>lhs;reduce⟩
def wB:O2:=bf c F bh Bb.1 [x0] s
def LQ:=(by dsimp only[wB,Bb,go_sem,Int.reduceOfNat]:wB c F x0 s=_)
def Bc:Sh:=(sq sl (sq sl sl))
def Bd:PX 140 Bc:=⟨_,by conv=>lhs;reduce⟩
def wC:O2:=bf c F bh Bd.1 [x0] s
def LR:=(by dsimp only[wC,Bd,go_sem,Int.reduceOfNat]:wC c F x0 s=_)
def xE:Sh:=(sq sl (sq (sq sl (sc (sq sl sl) sl)) (sq (sq sl (sc (sq sl sl) sl)) (sq sl sl))))
def xF:PX 141 xE:=⟨_,by conv=>lhs;reduce⟩
def qQ:O2:=bf c F bh xF.1 [x0] s
def Hh:=(by dsimp only[qQ,xF,go_sem,Int.reduceOfNat]:qQ c F x0 s=_)
def xG:Sh:=(sq sl (sq sl sl))
def xH:PX 142 xG:=⟨_,by conv=>lhs;reduce⟩
def qR:O2:=bf c F bh xH.1 [x0] s
def Hi:=(by dsimp only[qR,xH,go_sem,Int.reduceOfNat]:qR c F x0 s=_)
def uK:Sh:=(sq sl (sq (sq sl (sb (sp 0 [0,1,5] [(1,[4]),(2,[])] (sq (sq sl (sc sl sl)) (sq (sb (sq sl (sc (sq sl sl) sl))) sl))))) (sq sl sl)))
def B5:PX 143 uK:=⟨_,by conv=>lhs;reduce⟩
def Be:PL 143 uK 0:=⟨_,by conv=>lhs;reduce⟩
def iD(k1 k2:Q2):Nat->Q2
 |0,_,_=>none
 |n+1,vs,s=>cX c F bh (iD k1 k2 n) [k1,k2] Be.1 vs s
def yV(k1 k2:Q2)(n:Nat)(vs:List AV)(s:St):=(by dsimp only[iD,Be,go_sem,Int.reduceOfNat,Int.reduceNegSucc]:iD c F k1 k2 (n+1) vs s=_)
def uL:Un->List Q2->Nat->Q2
 |.z,[k1,k2]=>iD c F k1 k2
 |_,_=>λ_=>dZ
def yW:O2:=bf c F (uL c F) B5.1 [x0,x1] s
def Nn:=(by dsimp only[yW,B5, ↓uL,go_sem,Int.reduceOfNat,Int.reduceNegSucc]:yW c F x0 x1 s=_)
def uM:Sh:=(sq sl (sq (sq sl (sc (sq sl sl) sl)) (sq (sq sl (sb (sp 0 [0,3] [(1,[2]),(2,[])] (sq (sq sl (sc sl sl)) (sq (sb (sq sl (sc (sq sl sl) sl))) sl))))) (sq sl sl))))
def B6:PX 144 uM:=⟨_,by conv=>lhs;reduce⟩
def Bf:PL 144 uM 0:=⟨_,by conv=>lhs;reduce⟩
def iE(k1 k2:Q2):Nat->Q2
 |0,_,_=>none
 |n+1,vs,s=>cX c F bh (iE k1 k2 n) [k1,k2] Bf.1 vs s
def yX(k1 k2:Q2)(n:Nat)(vs:List AV)(s:St):=(by dsimp only[iE,Bf,go_sem,Int.reduceOfNat]:iE c F k1 k2 (n+1) vs s=_)
def uN:Un->List Q2->Nat->Q2
 |.z,[k1,k2]=>iE c F k1 k2
 |_,_=>λ_=>dZ
def yY:O2:=bf c F (uN c F) B6.1 [x0] s
def Np:=(by dsimp only[yY,B6, ↓uN,go_sem,Int.reduceOfNat]:yY c F x0 s=_)
def nv:Sh:=(sq sl (sq (sq sl (sb (sp 0 [0,1,5] [(1,[4]),(2,[])] (sq (sq sl (sc sl sl)) (sq (sb (sq sl (sc (sq sl sl) sl))) sl))))) (sq sl sl)))
def u9:PX 145 nv:=⟨_,by conv=>lhs;reduce⟩
def uj:PL 145 nv 0:=⟨_,by conv=>lhs;reduce⟩
def eT(k1 k2:Q2):Nat->Q2
 |0,_,_=>none
 |n+1,vs,s=>cX c F bh (eT k1 k2 n) [k1,k2] uj.1 vs s
def rK(k1 k2:Q2)(n:Nat)(vs:List AV)(s:St):=(by dsimp only[eT,uj,go_sem,Int.reduceOfNat,Int.reduceNegSucc]:eT c F k1 k2 (n+1) vs s=_)
def ny:Un->List Q2->Nat->Q2
 |.z,[k1,k2]=>eT c F k1 k2
 |_,_=>λ_=>dZ
def pT:O2:=bf c F (ny c F) u9.1 [x0,x1] s
def FZ:=(by dsimp only[pT,u9, ↓ny,go_sem,Int.reduceOfNat,Int.reduceNegSucc]:pT c F x0 x1 s=_)
def yZ:Sh:=(sq sl (sq (sq sl (sc (sq sl sl) sl)) (sq (sq sl (sb (sp 0 [0,10,11,12] [(1,[2,3]),(2,[])] (sq sl (sq (sc sl sl) (sq (sb (sq sl (sq (sq sl (sq sl (sc (sq sl sl) sl))) (sq sl (sc (sq sl sl) sl))))) sl)))))) (sq sl sl))))
def Fw:PX 148 yZ:=⟨_,by conv=>lhs;reduce⟩
def DE:PL 148 yZ 0:=⟨_,by conv=>lhs;reduce⟩
def lA(k1 k2:Q2):Nat->Q2
 |0,_,_=>none
 |n+1,vs,s=>cX c F bh (lA k1 k2 n) [k1,k2] DE.1 vs s
def sL(k1 k2:Q2)(n:Nat)(vs:List AV)(s:St):=(by dsimp only[lA,DE,go_sem,Int.reduceOfNat]:lA c F k1 k2 (n+1) vs s=_)
def y7:Un->List Q2->Nat->Q2
 |.z,[k1,k2]=>lA c F k1 k2
 |_,_=>λ_=>dZ
def BE:O2:=bf c F (y7 c F) Fw.1 [x0] s
def Fx:=(by dsimp only[BE,Fw, ↓y7,go_sem,Int.reduceOfNat]:BE c F x0 s=_)
def xI:Sh:=(sq sl (sq sl sl))
def xJ:PX 149 xI:=⟨_,by conv=>lhs;reduce⟩
def qT:O2:=bf c F bh xJ.1 [x0,x1,x2] s
def Hj:=(by dsimp only[qT,xJ,go_sem,Int.reduceOfNat]:qT c F x0 x1 x2 s=_)
def B7:Sh:=(sq sl (sq sl (sq sl sl)))
def B8:PX 150 B7:=⟨_,by conv=>lhs;reduce⟩
def y8:O2:=bf c F bh B8.1 [x0] s
def Nq:=(by dsimp only[y8,B8,go_sem,Int.reduceOfNat]:y8 c F x0 s=_)
def B9:Sh:=(sq sl (sq sl sl))
def Ca:PX 169 B9:=⟨_,by conv=>lhs;reduce⟩
def y9:O2:=bf c F bh Ca.1 [x0,x1] s
def Nr:=(by dsimp only[y9,Ca,go_sem,Int.reduceOfNat]:y9 c F x0 x1 s=_)
def QH:Sh:=(sq sl (sq sl sl))
def QI:PX 170 QH:=⟨_,by conv=>lhs;reduce⟩
def O6:O2:=bf c F bh QI.1 [x0,x1] s
def ZS:=(by dsimp only[O6,QI,go_sem,Int.reduceOfNat]:O6 c F x0 x1 s=_)
def F0:Sh:=(sq sl (sq (sq sl (sc (sq sl sl) sl)) (sq (sq sl (sb (sp 0 [0,13,14] [(1,[2]),(2,[])] (sq sl (sq (sc sl sl) (sq (sb (sq sl (sq sl (sc (sq sl sl) sl)))) sl)))))) (sq sl sl))))
def Oa:PX 171 F0:=⟨_,by conv=>lhs;reduce⟩
def LU:PL 171 F0 0:=⟨_,by conv=>lhs;reduce⟩
def oq(k1 k2:Q2):Nat->Q2
 |0,_,_=>none
 |n+1,vs,s=>cX c F bh (oq k1 k2 n) [k1,k2] LU.1 vs s
def Hl(k1 k2:Q2)(n:Nat)(vs:List AV)(s:St):=(by dsimp only[oq,LU,go_sem,Int.reduceOfNat]:oq c F k1 k2 (n+1) vs s=_)
def F7:Un->List Q2->Nat->Q2
 |.z,[k1,k2]=>oq c F k1 k2
 |_,_=>λ_=>dZ
def LV:O2:=bf c F (F7 c F) Oa.1 [x0] s
def XF:=(by dsimp only[LV,Oa, ↓F7,go_sem,Int.reduceOfNat]:LV c F x0 s=_)
def Ob:Sh:=(sq sl (sq sl (sq (sq sl (sc (sq sl sl) sl)) (sq sl sl))))
def Oc:PX 172 Ob:=⟨_,by conv=>lhs;reduce⟩
def LW:O2:=bf c F bh Oc.1 [x0,x1] s
def XG:=(by dsimp only[LW,Oc,go_sem,Int.reduceOfNat]:LW c F x0 x1 s=_)
def Fy:Sh:=(sq sl (sq (sq sl (sb (sq sl (sc (sq sl sl) (sq sl (sc (sq sl sl) (sq sl (sc (sq sl sl) (sq sl (sc (sq sl sl) sl)))))))))) (sq sl sl)))
def Fz:PX 173 Fy:=⟨_,by conv=>lhs;reduce⟩
def BF:O2:=bf c F bh Fz.1 [x0] s
def QJ:=(by dsimp only[BF,Fz,go_sem,Int.reduceOfNat]:BF c F x0 s=_)
def F8:Sh:=(sq sl (sq (sq sl (sb (sp 0 [0,3] [(1,[2]),(2,[0])] (sq (sq sl (sc sl sl)) (sq (sb (sq sl (sc (sq sl sl) sl))) sl))))) (sq sl sl)))
def Od:PX 184 F8:=⟨_,by conv=>lhs;reduce⟩
def LX:PL 184 F8 0:=⟨_,by conv=>lhs;reduce⟩
def ot(k1 k2:Q2):Nat->Q2
 |0,_,_=>none
 |n+1,vs,s=>cX c F bh (ot k1 k2 n) [k1,k2] LX.1 vs s
def Ho(k1 k2:Q2)(n:Nat)(vs:List AV)(s:St):=(by dsimp only[ot,LX,go_sem,Int.reduceOfNat]:ot c F k1 k2 (n+1) vs s=_)
def F9:Un->List Q2->Nat->Q2
 |.z,[k1,k2]=>ot c F k1 k2
 |_,_=>λ_=>dZ
def LY:O2:=bf c F (F9 c F) Od.1 [x0] s
def XH:=(by dsimp only[LY,Od, ↓F9,go_sem,Int.reduceOfNat]:LY c F x0 s=_)
def pU:Sh:=(sq sl (sq sl (sq (sq sl (sc (sq sl sl) sl)) (sq (sq sl (sc (sq sl sl) sl)) (sq (sq sl (sb (sp 0 [1,3,4] [(1,[2]),(2,[1])] (sq (sq sl (sc sl sl)) (sq (sb (sq sl (sc (sq sl sl) sl))) sl))))) (sq (sq sl (sc (sq sl sl) sl)) (sq sl sl)))))))
def zd:PX 189 pU:=⟨_,by conv=>lhs;reduce⟩
def xK:PL 189 pU 0:=⟨_,by conv=>lhs;reduce⟩
def fL(k1 k2:Q2):Nat->Q2
 |0,_,_=>none
 |n+1,vs,s=>cX c F bh (fL k1 k2 n) [k1,k2] xK.1 vs s
def uk(k1 k2:Q2)(n:Nat)(vs:List AV)(s:St):=(by dsimp only[fL,xK,go_sem,Int.reduceOfNat]:fL c F k1 k2 (n+1) vs s=_)
def pV:Un->List Q2->Nat->Q2
 |.z,[k1,k2]=>fL c F k1 k2
 |_,_=>λ_=>dZ
def sM:O2:=bf c F (pV c F) zd.1 [x0] s
def Jc:=(by dsimp only[sM,zd, ↓pV,go_sem,Int.reduceOfNat]:sM c F x0 s=_)
def pW:Sh:=(sq sl (sq (sq sl (sc (sq sl sl) sl)) (sq (sq sl (sc (sq sl sl) sl)) (sq (sq sl (sc (sq sl sl) sl)) (sq (sq sl (sc (sq sl sl) sl)) (sq (sq sl (sb (sp 0 [1,3] [(1,[2]),(2,[])] (sq (sq sl (sc sl sl)) (sq (sb (sq sl (sc (sq sl sl) sl))) sl))))) (sq sl sl)))))))
def zf:PX 190 pW:=⟨_,by conv=>lhs;reduce⟩
def xL:PL 190 pW 0:=⟨_,by conv=>lhs;reduce⟩
def fM(k1 k2:Q2):Nat->Q2
 |0,_,_=>none
 |n+1,vs,s=>cX c F bh (fM k1 k2 n) [k1,k2] xL.1 vs s
def um(k1 k2:Q2)(n:Nat)(vs:List AV)(s:St):=(by dsimp only[fM,xL,go_sem,Int.reduceOfNat]:fM c F k1 k2 (n+1) vs s=_)
def pX:Un->List Q2->Nat->Q2
 |.z,[k1,k2]=>fM c F k1 k2
 |_,_=>λ_=>dZ
def sN:O2:=bf c F (pX c F) zf.1 [x0] s
def Jd:=(by dsimp only[sN,zf, ↓pX,go_sem,Int.reduceOfNat]:sN c F x0 s=_)
def xM:Sh:=(sq sl (sq sl sl))
def xN:PX 191 xM:=⟨_,by conv=>lhs;reduce⟩
def qU:O2:=bf c F bh xN.1 [x0,x1] s
def Hp:=(by dsimp only[qU,xN,go_sem,Int.reduceOfNat]:qU c F x0 x1 s=_)
def iK:Sh:=(sq sl (sq sl sl))
def iL:PX 196 iK:=⟨_,by conv=>lhs;reduce⟩
def fe:O2:=bf c F bh iL.1 [x0,x1] s
def oR:=(by dsimp only[fe,iL,go_sem,Int.reduceOfNat]:fe c F x0 x1 s=_)
def Cb:Sh:=(sq sl (sq sl sl))
def Cc:PX 197 Cb:=⟨_,by conv=>lhs;reduce⟩
def zg:O2:=bf c F bh Cc.1 [x0,x1] s
def Ns:=(by dsimp only[zg,Cc,go_sem,Int.reduceOfNat]:zg c F x0 x1 s=_)
def zh:Sh:=(sq sl (sq sl (sq (sq sl (sb (sp 0 [1,5,14,15,16] [(1,[2,3,4]),(2,[1,5])] (sq sl (sq (sc sl sl) (sq (sb (sq sl (sq sl (sq sl (sc (sq sl sl) sl))))) sl)))))) (sq (sq sl (sb (sp 1 [1,5,30,31,32] [(1,[2,3,4]),(4,[5])] (sq sl (sq (sc sl sl) (sj [1,5,30,31,32] (sb (sq sl (sq sl (sj [1,5,9,11,30,31,32] (sq sl (sc sl sl)) (sq sl (sc (sq sl sl) sl)))))) sl)))))) (sq sl sl)))))
def LZ:PX 198 zh:=⟨_,by conv=>lhs;reduce⟩
def J6:PL 198 zh 1:=⟨_,by conv=>lhs;reduce⟩
def jv(k1 k4:Q2):Nat->Q2
 |0,_,_=>none
 |n+1,vs,s=>cX c F bh (jv k1 k4 n) [k1,k4] J6.1 vs s
def rL(k1 k4:Q2)(n:Nat)(vs:List AV)(s:St):=(by dsimp only[jv,J6,go_sem,Int.reduceOfNat]:jv c F k1 k4 (n+1) vs s=_)
def J7:PL 198 zh 0:=⟨_,by conv=>lhs;reduce⟩
def ig(k1 k2:Q2):Nat->Q2
 |0,_,_=>none
 |n+1,vs,s=>cX c F bh (ig k1 k2 n) [k1,k2] J7.1 vs s
def rM(k1 k2:Q2)(n:Nat)(vs:List AV)(s:St):=(by dsimp only[ig,J7,go_sem,Int.reduceOfNat]:ig c F k1 k2 (n+1) vs s=_)
def DF:Un->List Q2->Nat->Q2
 |.z,[k1,k2]=>ig c F k1 k2
 |(.s .z),[k1,k4]=>jv c F k1 k4
 |_,_=>λ_=>dZ
def zi:O2:=bf c F (DF c F) LZ.1 [x0] s
def Wg:=(by dsimp only[zi,LZ, ↓DF,go_sem,Int.reduceOfNat]:zi c F x0 s=_)
def fu:Sh:=(sq sl (sq (sq sl (sb (sp 0 [0,1,7,8] [(1,[4]),(2,[])] (sq sl (sq (sc sl sl) (sq (sb (sq sl (sq sl (sc (sq sl sl) sl)))) sl)))))) (sq sl sl)))
def jG:PX 213 fu:=⟨_,by conv=>lhs;reduce⟩
def jw:PL 213 fu 0:=⟨_,by conv=>lhs;reduce⟩
def bQ(k1 k2:Q2):Nat->Q2
 |0,_,_=>none
 |n+1,vs,s=>cX c F bh (bQ k1 k2 n) [k1,k2] jw.1 vs s
def iM(k1 k2:Q2)(n:Nat)(vs:List AV)(s:St):=(by dsimp only[bQ,jw,go_sem,Int.reduceOfNat,Int.reduceNegSucc]:bQ c F k1 k2 (n+1) vs s=_)
def fy:Un->List Q2->Nat->Q2
 |.z,[k1,k2]=>bQ c F k1 k2
 |_,_=>λ_=>dZ
def fT:O2:=bf c F (fy c F) jG.1 [x0,x1] s
def qV:=(by dsimp only[fT,jG, ↓fy,go_sem,Int.reduceOfNat,Int.reduceNegSucc]:fT c F x0 x1 s=_)
def L5:Sh:=(sq sl (sq sl sl))
def L6:PX 214 L5:=⟨_,by conv=>lhs;reduce⟩
def Je:O2:=bf c F bh L6.1 [x0,x1] s
def Wh:=(by dsimp only[Je,L6,go_sem,Int.reduceOfNat]:Je c F x0 x1 s=_)
def fA:Sh:=(sq sl (sq (sq sl (sb (sp 0 [0,1,7,8] [(1,[4]),(2,[])] (sq sl (sq (sc sl sl) (sq (sb (sq sl (sq sl (sc (sq sl sl) sl)))) sl)))))) (sq sl sl)))
def jH:PX 215 fA:=⟨_,by conv=>lhs;reduce⟩
def jx:PL 215 fA 0:=⟨_,by conv=>lhs;reduce⟩
def bR(k1 k2:Q2):Nat->Q2
 |0,_,_=>none
 |n+1,vs,s=>cX c F bh (bR k1 k2 n) [k1,k2] jx.1 vs s
def iN(k1 k2:Q2)(n:Nat)(vs:List AV)(s:St):=(by dsimp only[bR,jx,go_sem,Int.reduceOfNat,Int.reduceNegSucc]:bR c F k1 k2 (n+1) vs s=_)
def fB:Un->List Q2->Nat->Q2
 |.z,[k1,k2]=>bR c F k1 k2
 |_,_=>λ_=>dZ
def fU:O2:=bf c F (fB c F) jH.1 [x0,x1] s
def qW:=(by dsimp only[fU,jH, ↓fB,go_sem,Int.reduceOfNat,Int.reduceNegSucc]:fU c F x0 x1 s=_)
def J8:Sh:=(sq sl (sq sl sl))
def J9:PX 216 J8:=⟨_,by conv=>lhs;reduce⟩
def Ga:O2:=bf c F bh J9.1 [x0,x1] s
def TZ:=(by dsimp only[Ga,J9,go_sem,Int.reduceOfNat]:Ga c F x0 x1 s=_)
def Cd:Sh:=(sq sl (sq (sq sl (sc (sq sl sl) sl)) (sq sl sl)))
def Ce:PX 217 Cd:=⟨_,by conv=>lhs;reduce⟩
def zj:O2:=bf c F bh Ce.1 [x0,x1] s
def Nt:=(by dsimp only[zj,Ce,go_sem,Int.reduceOfNat]:zj c F x0 x1 s=_)
def DG:Sh:=(sq sl (sq (sq sl (sc (sq sl sl) sl)) (sq sl sl)))
def DH:PX 222 DG:=⟨_,by conv=>lhs;reduce⟩
def Ar:O2:=bf c F bh DH.1 [x0,x1] s
def O7:=(by dsimp only[Ar,DH,go_sem,Int.reduceOfNat]:Ar c F x0 x1 s=_)
def DI:Sh:=(sq sl (sq (sq sl (sc (sq sl sl) sl)) (sq sl sl)))
def DJ:PX 227 DI:=⟨_,by conv=>lhs;reduce⟩
def At:O2:=bf c F bh DJ.1 [x0,x1] s
def O8:=(by dsimp only[At,DJ,go_sem,Int.reduceOfNat]:At c F x0 x1 s=_)
def FA:Sh:=(sq sl (sq (sq sl (sc (sq sl sl) sl)) (sq sl sl)))
def FB:PX 232 FA:=⟨_,by conv=>lhs;reduce⟩
def BG:O2:=bf c F bh FB.1 [x0,x1] s
def QK:=(by dsimp only[BG,FB,go_sem,Int.reduceOfNat]:BG c F x0 x1 s=_)
def qX:Sh:=(sq sl (sq (sq sl (sc (sq sl sl) sl)) (sq (sq sl (sb (sp 0 [0,3] [(1,[2]),(2,[])] (sq (sq sl (sc sl sl)) (sq (sb (sq sl (sc (sq sl sl) sl))) sl))))) (sq sl sl))))
def z8:PX 251 qX:=⟨_,by conv=>lhs;reduce⟩
def zk:PL 251 qX 0:=⟨_,by conv=>lhs;reduce⟩
def gp(k1 k2:Q2):Nat->Q2
 |0,_,_=>none
 |n+1,vs,s=>cX c F bh (gp k1 k2 n) [k1,k2] zk.1 vs s
def ve(k1 k2:Q2)(n:Nat)(vs:List AV)(s:St):=(by dsimp only[gp,zk,go_sem,Int.reduceOfNat]:gp c F k1 k2 (n+1) vs s=_)
def qY:Un->List Q2->Nat->Q2
 |.z,[k1,k2]=>gp c F k1 k2
 |_,_=>λ_=>dZ
def uO:O2:=bf c F (qY c F) z8.1 [x0] s
def Kp:=(by dsimp only[uO,z8, ↓qY,go_sem,Int.reduceOfNat]:uO c F x0 s=_)
def Oe:Sh:=(sq sl (sq sl sl))
def Of:PX 256 Oe:=⟨_,by conv=>lhs;reduce⟩
def L7:O2:=bf c F bh Of.1 [] s
def XI:=(by dsimp only[L7,Of,go_sem,Int.reduceOfNat]:L7 c F s=_)
def DK:Sh:=(sq sl (sq (sq sl (sc (sq sl sl) sl)) (sq (sq sl (sq sl (sc (sq sl sl) sl))) (sq (sq sl (sq sl (sc (sq sl sl) sl))) (sq (sq sl (sc (sq sl sl) sl)) (sq sl (sq sl (sq sl sl))))))))
def DM:PX 257 DK:=⟨_,by conv=>lhs;reduce⟩
def tW:O2:=bf c F bh DM.1 [x0,x1] s
def pY:=(by dsimp only[tW,DM,go_sem,Int.reduceOfNat]:tW c F x0 x1 s=_)
def Ka:Sh:=(sq sl (sq (sq sl (sq sl (sc (sq sl sl) sl))) (sq sl sl)))
def Kb:PX 258 Ka:=⟨_,by conv=>lhs;reduce⟩
def Gb:O2:=bf c F bh Kb.1 [x0,x1] s
def T6:=(by dsimp only[Gb,Kb,go_sem,Int.reduceOfNat]:Gb c F x0 x1 s=_)
def wD:Sh:=(sq sl (sq (sq sl (sc (sq sl sl) sl)) (sq (sq sl (sc (sq sl sl) sl)) (sq (sq sl (sb (sp 0 [0,1,2,3,30,31,32] [(1,[8]),(2,[0,1,2,3])] (sq sl (sq (sc sl sl) (sq (sb (sq sl (sq sl (sq sl (sc (sq sl sl) sl))))) sl)))))) (sq sl (sq (sq sl (sc (sq sl sl) sl)) (sq (sq sl (sc (sq sl sl) sl)) (sq sl (sq sl sl)))))))))
def DN:PX 259 wD:=⟨_,by conv=>lhs;reduce⟩
def Cf:PL 259 wD 0:=⟨_,by conv=>lhs;reduce⟩
def jq(k1 k2:Q2):Nat->Q2
 |0,_,_=>none
 |n+1,vs,s=>cX c F bh (jq k1 k2 n) [k1,k2] Cf.1 vs s
def qZ(k1 k2:Q2)(n:Nat)(vs:List AV)(s:St):=(by dsimp only[jq,Cf,go_sem,Int.reduceOfNat]:jq c F k1 k2 (n+1) vs s=_)
def wE:Un->List Q2->Nat->Q2
 |.z,[k1,k2]=>jq c F k1 k2
 |_,_=>λ_=>dZ
def tX:O2:=bf c F (wE c F) DN.1 [x0,x1,x2,x3] s
def pZ:=(by dsimp only[tX,DN, ↓wE,go_sem,Int.reduceOfNat]:tX c F x0 x1 x2 x3 s=_)
def Cg:Sh:=(sq sl (sq sl sl))
def Ci:PX 297 Cg:=⟨_,by conv=>lhs;reduce⟩
def zl:O2:=bf c F bh Ci.1 [x0] s
def Nu:=(by dsimp only[zl,Ci,go_sem,Int.reduceOfNat]:zl c F x0 s=_)
def BH:Sh:=(sq sl (sq (sb (sq sl (sc (sq sl sl) (sq sl (sc (sq sl sl) (sq sl (sc (sq sl sl) (sq sl (sc (sq sl sl) sl))))))))) (sq (sq sl (sb (sp 0 [1,52,53,54] [(1,[2]),(3,[])] (sq sl (sq (sc sl sl) (sq (sb (sq sl (sq sl (sc (sq sl sl) sl)))) sl)))))) (sq sl sl))))
def Kc:PX 298 BH:=⟨_,by conv=>lhs;reduce⟩
def Hq:PL 298 BH 0:=⟨_,by conv=>lhs;reduce⟩
def kR(k1 k3:Q2):Nat->Q2
 |0,_,_=>none
 |n+1,vs,s=>cX c F bh (kR k1 k3 n) [k1,k3] Hq.1 vs s
def DO(k1 k3:Q2)(n:Nat)(vs:List AV)(s:St):=(by dsimp only[kR,Hq,go_sem,Int.reduceOfNat]:kR c F k1 k3 (n+1) vs s=_)
def BI:Un->List Q2->Nat->Q2
 |.z,[k1,k3]=>kR c F k1 k3
 |_,_=>λ_=>dZ
def Gc:O2:=bf c F (BI c F) Kc.1 [x0] s
def T7:=(by dsimp only[Gc,Kc, ↓BI,go_sem,Int.reduceOfNat]:Gc c F x0 s=_)
def Hr:Sh:=(sq sl (sq sl (sq sl sl)))
def Hs:PX 299 Hr:=⟨_,by conv=>lhs;reduce⟩
def DP:O2:=bf c F bh Hs.1 [x0] s
def RR:=(by dsimp only[DP,Hs,go_sem,Int.reduceOfNat]:DP c F x0 s=_)
def Cj:Sh:=(sq sl (sq sl sl))
def Ck:PX 300 Cj:=⟨_,by conv=>lhs;reduce⟩
def zm:O2:=bf c F bh Ck.1 [x0,x1] s
def Nv:=(by dsimp only[zm,Ck,go_sem,Int.reduceOfNat]:zm c F x0 x1 s=_)
def Bg:Sh:=(sq sl (sq sl sl))
def Bh:PX 301 Bg:=⟨_,by conv=>lhs;reduce⟩
def wF:O2:=bf c F bh Bh.1 [x0,x1,x2] s
def L8:=(by dsimp only[wF,Bh,go_sem,Int.reduceOfNat]:wF c F x0 x1 x2 s=_)
def lU:Sh:=(sq sl (sq sl (sq sl (sq (sq sl (sc (sq sl sl) sl)) (sq sl (sq (sq sl (sc (sq sl sl) sl)) (sq (sq sl (sc (sq sl (sq sl (sq sl (sq sl sl)))) sl)) (sq sl (sq (sq sl (sc (sq sl (sq sl (sq sl sl))) sl)) (sq sl (sq sl (sq sl sl))))))))))))
def lV:PX 302 lU:=⟨_,by conv=>lhs;reduce⟩
def jy:O2:=bf c F bh lV.1 [x0,x1,x2] s
def yc:=(by dsimp only[jy,lV,go_sem,Int.reduceOfNat]:jy c F x0 x1 x2 s=_)
def L9:Sh:=(sq sl (sq sl sl))
def Ma:PX 303 L9:=⟨_,by conv=>lhs;reduce⟩
def Jf:O2:=bf c F bh Ma.1 [x0,x1,x2] s
def Wi:=(by dsimp only[Jf,Ma,go_sem,Int.reduceOfNat]:Jf c F x0 x1 x2 s=_)
def DQ:Sh:=(sq sl (sq (sq sl (sc (sq sl sl) sl)) (sq (sq sl (sb (sp 0 [0,13,14] [(1,[2]),(2,[])] (sq sl (sq (sc sl sl) (sq (sb (sq sl (sq sl (sc (sq sl sl) sl)))) sl)))))) (sq sl sl))))
def Mb:PX 317 DQ:=⟨_,by conv=>lhs;reduce⟩
def Ke:PL 317 DQ 0:=⟨_,by conv=>lhs;reduce⟩
def mK(k1 k2:Q2):Nat->Q2
 |0,_,_=>none
 |n+1,vs,s=>cX c F bh (mK k1 k2 n) [k1,k2] Ke.1 vs s
def FC(k1 k2:Q2)(n:Nat)(vs:List AV)(s:St):=(by dsimp only[mK,Ke,go_sem,Int.reduceOfNat]:mK c F k1 k2 (n+1) vs s=_)
def DR:Un->List Q2->Nat->Q2
 |.z,[k1,k2]=>mK c F k1 k2
 |_,_=>λ_=>dZ
def Jg:O2:=bf c F (DR c F) Mb.1 [x0] s
def Wj:=(by dsimp only[Jg,Mb, ↓DR,go_sem,Int.reduceOfNat]:Jg c F x0 s=_)
def Mc:Sh:=(sq sl (sq sl sl))
def Md:PX 318 Mc:=⟨_,by conv=>lhs;reduce⟩
def Jh:O2:=bf c F bh Md.1 [x0] s
def Wk:=(by dsimp only[Jh,Md,go_sem,Int.reduceOfNat]:Jh c F x0 s=_)
def ou:Sh:=(sq sl (sq (sq sl (sc (sq sl sl) sl)) (sq sl sl)))
def ov:PX 319 ou:=⟨_,by conv=>lhs;reduce⟩
def kg:O2:=bf c F bh ov.1 [x0] s
def ow:=(by dsimp only[kg,ov,go_sem,Int.reduceOfNat]:kg c F x0 s=_)
def uo:Sh:=(sq sl (sq sl sl))
def uq:PX 320 uo:=⟨_,by conv=>lhs;reduce⟩
def oA:O2:=bf c F bh uq.1 [x0,x1] s
def Ew:=(by dsimp only[oA,uq,go_sem,Int.reduceOfNat]:oA c F x0 x1 s=_)
def c9:Sh:=(sq sl (sq sl (sq sl (sq (sb (sp 0 [0,2,4,8,9,10] [(2,[0,2,4,8,9])] (sq (sq sl (sc sl sl)) (sb (sq sl (sq sl (sc sl sl))))))) (sq sl sl)))))
def fN:PX 321 c9:=⟨_,by conv=>lhs;reduce⟩
def fG:PL 321 c9 0:=⟨_,by conv=>lhs;reduce⟩
def aO(k2:Q2):Nat->Q2
 |0,_,_=>none
 |n+1,vs,s=>cX c F bh (aO k2 n) [k2] fG.1 vs s
def cP(k2:Q2)(n:Nat)(vs:List AV)(s:St):=(by dsimp only[aO,fG,go_sem,Int.reduceOfNat]:aO c F k2 (n+1) vs s=_)
def dc:Un->List Q2->Nat->Q2
 |.z,[k2]=>aO c F k2
 |_,_=>λ_=>dZ
def dJ:O2:=bf c F (dc c F) fN.1 [x0,x1,x2] s
def kS:=(by dsimp only[dJ,fN, ↓dc,go_sem,Int.reduceOfNat]:dJ c F x0 x1 x2 s=_)
end
section
variable{c:ah}(hc:Sem c)(F:Nat){x0 x1 x2 x3 x4 x5 x6 x7 x8 x9 xA ue:AV}{s:St}{r:AV×St}
include hc
theorem Me(h:Aq c F x0 x1 s=some r):c 44 [x0,x1] s=some (tidy s r):=hc.o0 F Du (by kernel_rfl) (by kernel_rfl) h
theorem Gd(h:sv c F x0 s=some r):c 53 [x0] s=some (tidy s r):=hc.o1 F (pO c F) pN (by kernel_rfl) (by kernel_rfl) (λ_ _ _=>by kernel_rfl) (λ_ _ _ _=>by kernel_rfl) (by kernel_rfl) h
theorem RS(h:I1 c F x0 s=some r):c 72 [x0] s=some (tidy s r):=hc.o0 F Lz (by kernel_rfl) (by kernel_rfl) h
theorem Ht(h:I2 c F x0 s=some r):c 77 [x0] s=some (tidy s r):=hc.o1 F (Dx c F) Dw (by kernel_rfl) (by kernel_rfl) (λ_ _ _=>by kernel_rfl) (λ_ _ _ _=>by kernel_rfl) (by kernel_rfl) h
theorem Hu(h:I3 c F x0 x1 s=some r):c 86 [x0,x1] s=some (tidy s r):=hc.o1 F (Dz c F) Dy (by kernel_rfl) (by kernel_rfl) (λ_ _ _=>by kernel_rfl) (λ_ _ _ _=>by kernel_rfl) (by kernel_rfl) h
theorem Ge(h:sw c F x0 s=some r):c 101 [x0] s=some (tidy s r):=hc.o0 F yO (by kernel_rfl) (by kernel_rfl) h
theorem Gf(h:sx c F x0 s=some r):c 108 [x0] s=some (tidy s r):=hc.o1 F (pQ c F) pP (by kernel_rfl) (by kernel_rfl) (λ_ _ _=>by kernel_rfl) (λ_ _ _ _=>by kernel_rfl) (by kernel_rfl) h
theorem Gg(h:sy c F x0 x1 s=some r):c 109 [x0,x1] s=some (tidy s r):=hc.o0 F yR (by kernel_rfl) (by kernel_rfl) h
theorem Gh(h:sF c F x0 x1 s=some r):c 111 [x0,x1] s=some (tidy s r):=hc.o1 F (pS c F) pR (by kernel_rfl) (by kernel_rfl) (λ_ _ _=>by kernel_rfl) (λ_ _ _ _=>by kernel_rfl) (by kernel_rfl) h
theorem RT(h:I8 c F x0 s=some r):c 116 [x0] s=some (tidy s r):=hc.o0 F LG (by kernel_rfl) (by kernel_rfl) h
theorem Nw(h:BD c F x0 s=some r):c 117 [x0] s=some (tidy s r):=hc.o0 F Fs (by kernel_rfl) (by kernel_rfl) h
theorem Hv(h:uI c F x0 s=some r):c 118 [x0] s=some (tidy s r):=hc.o0 F zX (by kernel_rfl) (by kernel_rfl) h
theorem RU(h:I9 c F x0 s=some r):c 119 [x0] s=some (tidy s r):=hc.o1 F (DB c F) DA (by kernel_rfl) (by kernel_rfl) (λ_ _ _=>by kernel_rfl) (λ_ _ _ _=>by kernel_rfl) (by kernel_rfl) h
theorem RV(h:Ja c F s=some r):c 120 [] s=some (tidy s r):=hc.o0 F LL (by kernel_rfl) (by kernel_rfl) h
theorem Kq(h:yU c F x0 x1 x2 s=some r):c 121 [x0,x1,x2] s=some (tidy s r):=hc.o0 F B0 (by kernel_rfl) (by kernel_rfl) h
theorem T8(h:LO c F x0 s=some r):c 125 [x0] s=some (tidy s r):=hc.o0 F N8 (by kernel_rfl) (by kernel_rfl) h
theorem RW(h:Jb c F x0 s=some r):c 129 [x0] s=some (tidy s r):=hc.o1 F (DD c F) DC (by kernel_rfl) (by kernel_rfl) (λ_ _ _=>by kernel_rfl) (λ_ _ _ _=>by kernel_rfl) (by kernel_rfl) h
theorem Cy(h:om c F x0 s=some r):c 136 [x0] s=some (tidy s r):=hc.oL F (l6 c F) jA 2 (by kernel_rfl) (λi hi=>match i,hi with|0,_=>iq 0 (by kernel_rfl) (λ_ _ _=>by kernel_rfl) (λ_ _ _ _=>by kernel_rfl)|1,_=>iq 1 (by kernel_rfl) (λ_ _ _=>by kernel_rfl) (λ_ _ _ _=>by kernel_rfl)|n+2,h=>absurd h (by omega)) (by kernel_rfl) h
theorem qE(h:nu c F x0 s=some r):c 137 [x0] s=some (tidy s r):=hc.oL F (lz c F) jd 2 (by kernel_rfl) (λi hi=>match i,hi with|0,_=>iq 0 (by kernel_rfl) (λ_ _ _=>by kernel_rfl) (λ_ _ _ _=>by kernel_rfl)|1,_=>iq 1 (by kernel_rfl) (λ_ _ _=>by kernel_rfl) (λ_ _ _ _=>by kernel_rfl)|n+2,h=>absurd h (by omega)) (by kernel_rfl) h
theorem Hw(h:uJ c F x0 s=some r):c 138 [x0] s=some (tidy s r):=hc.o0 F zZ (by kernel_rfl) (by kernel_rfl) h
theorem Ji(h:wB c F x0 s=some r):c 139 [x0] s=some (tidy s r):=hc.o0 F Ba (by kernel_rfl) (by kernel_rfl) h
theorem Jj(h:wC c F x0 s=some r):c 140 [x0] s=some (tidy s r):=hc.o0 F Bc (by kernel_rfl) (by kernel_rfl) h
theorem Ex(h:qQ c F x0 s=some r):c 141 [x0] s=some (tidy s r):=hc.o0 F xE (by kernel_rfl) (by kernel_rfl) h
theorem Ey(h:qR c F x0 s=some r):c 142 [x0] s=some (tidy s r):=hc.o0 F xG (by kernel_rfl) (by kernel_rfl) h
theorem Kr(h:yW c F x0 x1 s=some r):c 143 [x0,x1] s=some (tidy s r):=hc.o1 F (uL c F) uK (by kernel_rfl) (by kernel_rfl) (λ_ _ _=>by kernel_rfl) (λ_ _ _ _=>by kernel_rfl) (by kernel_rfl) h
theorem Ks(h:yY c F x0 s=some r):c 144 [x0] s=some (tidy s r):=hc.o1 F (uN c F) uM (by kernel_rfl) (by kernel_rfl) (λ_ _ _=>by kernel_rfl) (λ_ _ _ _=>by kernel_rfl) (by kernel_rfl) h
theorem DS(h:pT c F x0 x1 s=some r):c 145 [x0,x1] s=some (tidy s r):=hc.o1 F (ny c F) nv (by kernel_rfl) (by kernel_rfl) (λ_ _ _=>by kernel_rfl) (λ_ _ _ _=>by kernel_rfl) (by kernel_rfl) h
theorem Cl(h:BE c F x0 s=some r):c 148 [x0] s=some (tidy s r):=hc.o1 F (y7 c F) yZ (by kernel_rfl) (by kernel_rfl) (λ_ _ _=>by kernel_rfl) (λ_ _ _ _=>by kernel_rfl) (by kernel_rfl) h
theorem Ez(h:qT c F x0 x1 x2 s=some r):c 149 [x0,x1,x2] s=some (tidy s r):=hc.o0 F xI (by kernel_rfl) (by kernel_rfl) h
theorem Kt(h:y8 c F x0 s=some r):c 150 [x0] s=some (tidy s r):=hc.o0 F B7 (by kernel_rfl) (by kernel_rfl) h
theorem Ku(h:y9 c F x0 x1 s=some r):c 169 [x0,x1] s=some (tidy s r):=hc.o0 F B9 (by kernel_rfl) (by kernel_rfl) h
theorem Wl(h:O6 c F x0 x1 s=some r):c 170 [x0,x1] s=some (tidy s r):=hc.o0 F QH (by kernel_rfl) (by kernel_rfl) h
theorem T9(h:LV c F x0 s=some r):c 171 [x0] s=some (tidy s r):=hc.o1 F (F7 c F) F0 (by kernel_rfl) (by kernel_rfl) (λ_ _ _=>by kernel_rfl) (λ_ _ _ _=>by kernel_rfl) (by kernel_rfl) h
theorem Ua(h:LW c F x0 x1 s=some r):c 172 [x0,x1] s=some (tidy s r):=hc.o0 F Ob (by kernel_rfl) (by kernel_rfl) h
theorem Nx(h:BF c F x0 s=some r):c 173 [x0] s=some (tidy s r):=hc.o0 F Fy (by kernel_rfl) (by kernel_rfl) h
theorem Ub(h:LY c F x0 s=some r):c 184 [x0] s=some (tidy s r):=hc.o1 F (F9 c F) F8 (by kernel_rfl) (by kernel_rfl) (λ_ _ _=>by kernel_rfl) (λ_ _ _ _=>by kernel_rfl) (by kernel_rfl) h
theorem Gi(h:sM c F x0 s=some r):c 189 [x0] s=some (tidy s r):=hc.o1 F (pV c F) pU (by kernel_rfl) (by kernel_rfl) (λ_ _ _=>by kernel_rfl) (λ_ _ _ _=>by kernel_rfl) (by kernel_rfl) h
theorem Gj(h:sN c F x0 s=some r):c 190 [x0] s=some (tidy s r):=hc.o1 F (pX c F) pW (by kernel_rfl) (by kernel_rfl) (λ_ _ _=>by kernel_rfl) (λ_ _ _ _=>by kernel_rfl) (by kernel_rfl) h
theorem EA(h:qU c F x0 x1 s=some r):c 191 [x0,x1] s=some (tidy s r):=hc.o0 F xM (by kernel_rfl) (by kernel_rfl) h
theorem nV(h:fe c F x0 x1 s=some r):c 196 [x0,x1] s=some (tidy s r):=hc.o0 F iK (by kernel_rfl) (by kernel_rfl) h
theorem Kv(h:zg c F x0 x1 s=some r):c 197 [x0,x1] s=some (tidy s r):=hc.o0 F Cb (by kernel_rfl) (by kernel_rfl) h
theorem RX(h:zi c F x0 s=some r):c 198 [x0] s=some (tidy s r):=hc.oL F (DF c F) zh 2 (by kernel_rfl) (λi hi=>match i,hi with|0,_=>iq 0 (by kernel_rfl) (λ_ _ _=>by kernel_rfl) (λ_ _ _ _=>by kernel_rfl)|1,_=>iq 1 (by kernel_rfl) (λ_ _ _=>by kernel_rfl) (λ_ _ _ _=>by kernel_rfl)|n+2,h=>absurd h (by omega)) (by kernel_rfl) h
theorem p6(h:fT c F x0 x1 s=some r):c 213 [x0,x1] s=some (tidy s r):=hc.o1 F (fy c F) fu (by kernel_rfl) (by kernel_rfl) (λ_ _ _=>by kernel_rfl) (λ_ _ _ _=>by kernel_rfl) (by kernel_rfl) h
theorem RY(h:Je c F x0 x1 s=some r):c 214 [x0,x1] s=some (tidy s r):=hc.o0 F L5 (by kernel_rfl) (by kernel_rfl) h
theorem p7(h:fU c F x0 x1 s=some r):c 215 [x0,x1] s=some (tidy s r):=hc.o1 F (fB c F) fA (by kernel_rfl) (by kernel_rfl) (λ_ _ _=>by kernel_rfl) (λ_ _ _ _=>by kernel_rfl) (by kernel_rfl) h
theorem QL(h:Ga c F x0 x1 s=some r):c 216 [x0,x1] s=some (tidy s r):=hc.o0 F J8 (by kernel_rfl) (by kernel_rfl) h
theorem Kw(h:zj c F x0 x1 s=some r):c 217 [x0,x1] s=some (tidy s r):=hc.o0 F Cd (by kernel_rfl) (by kernel_rfl) h
theorem Mf(h:Ar c F x0 x1 s=some r):c 222 [x0,x1] s=some (tidy s r):=hc.o0 F DG (by kernel_rfl) (by kernel_rfl) h
theorem Mg(h:At c F x0 x1 s=some r):c 227 [x0,x1] s=some (tidy s r):=hc.o0 F DI (by kernel_rfl) (by kernel_rfl) h
theorem Ny(h:BG c F x0 x1 s=some r):c 232 [x0,x1] s=some (tidy s r):=hc.o0 F FA (by kernel_rfl) (by kernel_rfl) h
theorem Hx(h:uO c F x0 s=some r):c 251 [x0] s=some (tidy s r):=hc.o1 F (qY c F) qX (by kernel_rfl) (by kernel_rfl) (λ_ _ _=>by kernel_rfl) (λ_ _ _ _=>by kernel_rfl) (by kernel_rfl) h
theorem Uc(h:L7 c F s=some r):c 256 [] s=some (tidy s r):=hc.o0 F Oe (by kernel_rfl) (by kernel_rfl) h
theorem Bi(h:tW c F x0 x1 s=some r):c 257 [x0,x1] s=some (tidy s r):=hc.o0 F DK (by kernel_rfl) (by kernel_rfl) h
theorem QM(h:Gb c F x0 x1 s=some r):c 258 [x0,x1] s=some (tidy s r):=hc.o0 F Ka (by kernel_rfl) (by kernel_rfl) h
theorem sO(h:tX c F x0 x1 x2 x3 s=some r):c 259 [x0,x1,x2,x3] s=some (tidy s r):=hc.o1 F (wE c F) wD (by kernel_rfl) (by kernel_rfl) (λ_ _ _=>by kernel_rfl) (λ_ _ _ _=>by kernel_rfl) (by kernel_rfl) h
theorem Ky(h:zl c F x0 s=some r):c 297 [x0] s=some (tidy s r):=hc.o0 F Cg (by kernel_rfl) (by kernel_rfl) h
theorem QN(h:Gc c F x0 s=some r):c 298 [x0] s=some (tidy s r):=hc.o1 F (BI c F) BH (by kernel_rfl) (by kernel_rfl) (λ_ _ _=>by kernel_rfl) (λ_ _ _ _=>by kernel_rfl) (by kernel_rfl) h
theorem O9(h:DP c F x0 s=some r):c 299 [x0] s=some (tidy s r):=hc.o0 F Hr (by kernel_rfl) (by kernel_rfl) h
theorem Kz(h:zm c F x0 x1 s=some r):c 300 [x0,x1] s=some (tidy s r):=hc.o0 F Cj (by kernel_rfl) (by kernel_rfl) h
theorem Jk(h:wF c F x0 x1 x2 s=some r):c 301 [x0,x1,x2] s=some (tidy s r):=hc.o0 F Bg (by kernel_rfl) (by kernel_rfl) h
theorem vg(h:jy c F x0 x1 x2 s=some r):c 302 [x0,x1,x2] s=some (tidy s r):=hc.o0 F lU (by kernel_rfl) (by kernel_rfl) h
theorem RZ(h:Jf c F x0 x1 x2 s=some r):c 303 [x0,x1,x2] s=some (tidy s r):=hc.o0 F L9 (by kernel_rfl) (by kernel_rfl) h
theorem R4(h:Jg c F x0 s=some r):c 317 [x0] s=some (tidy s r):=hc.o1 F (DR c F) DQ (by kernel_rfl) (by kernel_rfl) (λ_ _ _=>by kernel_rfl) (λ_ _ _ _=>by kernel_rfl) (by kernel_rfl) h
theorem R5(h:Jh c F x0 s=some r):c 318 [x0] s=some (tidy s r):=hc.o0 F Mc (by kernel_rfl) (by kernel_rfl) h
theorem mX(h:kg c F x0 s=some r):c 319 [x0] s=some (tidy s r):=hc.o0 F ou (by kernel_rfl) (by kernel_rfl) h
theorem Cz(h:oA c F x0 x1 s=some r):c 320 [x0,x1] s=some (tidy s r):=hc.o0 F uo (by kernel_rfl) (by kernel_rfl) h
theorem kz(h:dJ c F x0 x1 x2 s=some r):c 321 [x0,x1,x2] s=some (tidy s r):=hc.o1 F (dc c F) c9 (by kernel_rfl) (by kernel_rfl) (λ_ _ _=>by kernel_rfl) (λ_ _ _ _=>by kernel_rfl) (by kernel_rfl) h
end
end
section
open Go Go.Ai Go.Proofs
variable{c:ah}
def eC(s:List Nat):Bool:=decide (1<=s.length)&&decide (s.length<=12)&&s.all λc=>decide (97<=c/\c<=122)
theorem aek(s:List Nat)(hs:s.length<=12)(F:Nat)(st:St)(k1 k2):∀(m k:Nat),s.length<=k+m->k<=s.length->
  iE c F k1 k2 (m+1) [.str s,.int .i64 (k:Int)] st=if(s.drop k).all (λc=>decide (97<=c/\c<=122))=true then k2 [] st else k1 [.bool false] st:=by
 intro m;induction m with
 |zero=>
  intro k h1 h2;rw[yX];obtain rfl:k=s.length:=by omega
  simp
 |succ m ih=>
  intro k h1 h2;rw[yX];by_cases h:k<s.length
  . have e:s.drop k=s[k]::s.drop (k+1):=Za7 h;have:=ih (k+1) (by omega) (by omega);have w:aD .i64 ((k:Int)+1)=((k+1:Nat):Int):=wrap64 (by omega) (by omega);rw[e,Zm8];generalize (s.drop (k+1)).all _=rest at this ⊢;by_cases h3:(s[k]:Int)<97
    .   have h5:decide (97<=s[k]/\s[k]<=122)=false:=(by simp;omega);simp[h,h3,h5]
    .   by_cases h4:122<(s[k]:Int)
        .have h5:decide (97<=s[k]/\s[k]<=122)=false:=(by simp;omega);simp[h,h3,h4,h5]
        .have h5:decide (97<=s[k]/\s[k]<=122)=true:=(by simp;omega);rw[h5,Ze1, <-this];simp[h,h3,h4,w]
  .obtain rfl:k=s.length:=(by omega);simp
theorem CQ(hc:Sem c)(s:List Nat)(st:St):c 144 [.str s] st=some (.bool (eC s),st):=by
 rw[Ks hc (s.length+1) (r:=(.bool (eC s),st)),au (Plain.bool _) (aP.refl st)];rw[Np];by_cases h0:(s.length:Int)<1
 .have h1:¬1<=s.length:=(by omega);simp[eC,h0,h1]
 . by_cases h1:12<(s.length:Int)
   .have h2:¬s.length<=12:=(by omega);simp[eC,h0,h1,h2]
   . have h2:s.length<=12:=(by omega);have h3:1<=s.length:=(by omega);have L:∀k1 k2,iE c (s.length+1) k1 k2 (s.length+1) [.str s,.int .i64 0] st=if(s.drop 0).all (λc=>decide (97<=c/\c<=122))=true then k2 [] st else k1 [.bool false] st:=
        λk1 k2=>aek (c:=c) s h2 (s.length+1) st k1 k2 s.length 0 (by omega) (by omega)
     rw[Zb7]at L;have e:eC s=s.all λc=>decide (97<=c/\c<=122):=(by simp[eC,h2,h3]);rw[e];generalize (s.all _)=b at L ⊢;simp[h0,h1,L];cases b<;>simp
structure aG where
 name:List Nat
 sh:Int
 a:Int
 b:Int
 oz:Bool
 cA:List Int
 x:Int
 y:Int
def ints(z:Bool)(l:List Int):AV:=ro 1 z (l.map λi=>[.int .i64 i])
def aG.cells(t:aG):List AV:=[.str t.name,.int .u8 t.sh,.int .i64 t.a,.int .i64 t.b,ints t.oz t.cA,.int .i64 t.x,.int .i64 t.y]
@[simp] theorem acN(z:Bool)(l:List Int):(ints z l).one=true:=aaT _ _ _
@[simp] theorem age(z:Bool)(l:List Int):(ints z l).cells=[ints z l]:=OV _ _ _
def cK(t:aG):Int:=
 if t.sh=1 then(if 1<=t.a/\t.a<=24/\t.b=0 then t.a else 0)
 else if t.sh=2 then(if 1<=t.a/\t.a<=11/\0<=t.b/\t.b<=2 then 2*t.a+t.b else 0)
 else if t.sh=3 then(if 1<=t.a/\t.a<=8/\1<=t.b/\t.b<=8 then t.a+2*t.b else 0)
 else if t.sh=4 then(if 1<=t.a/\t.a<=24/\0<=t.b/\t.b<=t.a then t.a else 0)
 else 0
theorem eD(hc:Sem c)(n lo hi:Int)(st:St):c 149 [.int .i64 n,.int .i64 lo,.int .i64 hi] st=some (.bool (decide (lo<=n/\n<=hi)),st):=by
 rw[Ez hc 1 (r:=(.bool (decide (lo<=n/\n<=hi)),st)),au (Plain.bool _) (aP.refl st)];rw[Hj];by_cases h:lo<=n<;>simp[h]
theorem Jl(hc:Sem c)(t:aG)(st:St)(hw:Wf st):c 118 [.agg t.cells] st=some (.int .i64 (cK t),st):=by
 rw[Hv hc 1 (r:=(.int .i64 (cK t),af st (.cells t.cells 0))),au (Plain.int _ _) (bt hw)];rw[Kn];obtain⟨name,sh,a,b,oz,cA,x,y⟩:=t;by_cases h1:sh=1
 .subst h1;by_cases h2:1<=a/\a<=24<;>by_cases h3:b=0<;>simp[aG.cells,AV.cells,eD hc,cK,dY,h2,h3]
 by_cases h4:sh=2
 . subst h4;by_cases h2:1<=a/\a<=11
   . by_cases h3:0<=b/\b<=2
     .  have w1:aD .i64 (2*a)=2*a:=wrap64 (by omega) (by omega);have w2:aD .i64 (2*a+b)=2*a+b:=wrap64 (by omega) (by omega);simp[aG.cells,AV.cells,eD hc,cK,dY,h2,h3,w1,w2]
     .  simp[aG.cells,AV.cells,eD hc,cK,dY,h2,h3]
   .simp[aG.cells,AV.cells,eD hc,cK,dY,h2];omega
 by_cases h5:sh=3
 . subst h5;by_cases h2:1<=a/\a<=8
   . by_cases h3:1<=b/\b<=8
     .  have w1:aD .i64 (2*b)=2*b:=wrap64 (by omega) (by omega);have w2:aD .i64 (a+2*b)=a+2*b:=wrap64 (by omega) (by omega);simp[aG.cells,AV.cells,eD hc,cK,dY,h2,h3,w1,w2]
     .  simp[aG.cells,AV.cells,eD hc,cK,dY,h2,h3]
   .simp[aG.cells,AV.cells,eD hc,cK,dY,h2];omega
 by_cases h6:sh=4
 . subst h6;by_cases h2:1<=a/\a<=24
   . by_cases h3:0<=b/\b<=a
     .  simp[aG.cells,AV.cells,eD hc,cK,dY,h2,h3]
     .  simp[aG.cells,AV.cells,eD hc,cK,dY,h2,h3]
   .simp[aG.cells,AV.cells,eD hc,cK,dY,h2];omega
 simp[aG.cells,AV.cells,eD hc,cK,dY,h1,h4,h5,h6]
theorem Ud(hc:Sem c)(a b:Int)(st:St):c 217 [.int .i64 a,.int .i64 b] st=some (.int .i64 (if 1<=a/\a<=24/\b=0 then a else 0),st):=by
 rw[Kw hc 1 (r:=(.int .i64 (if 1<=a/\a<=24/\b=0 then a else 0),st)),au (Plain.int _ _) (aP.refl st)];rw[Nt];by_cases h1:a<1
 .have:¬1<=a:=(by omega);simp[h1,this]
 . by_cases h2:24<a
   .have:¬a<=24:=(by omega);simp[h1,h2,this]
   .have h3:1<=a:=(by omega);have h4:a<=24:=(by omega);by_cases h5:b=0<;>simp[h1,h2,h3,h4,h5]
theorem Wm(hc:Sem c)(a b:Int)(st:St):c 222 [.int .i64 a,.int .i64 b] st=some (.int .i64 (if 1<=a/\a<=11/\0<=b/\b<=2 then 2*a+b else 0),st):=by
 rw[Mf hc 1 (r:=(.int .i64 (if 1<=a/\a<=11/\0<=b/\b<=2 then 2*a+b else 0),st)),au (Plain.int _ _) (aP.refl st)];rw[O7];by_cases h1:a<1
 .have:¬1<=a:=(by omega);simp[h1,this]
 by_cases h2:11<a
 .have:¬a<=11:=(by omega);simp[h1,h2,this]
 by_cases h3:b<0
 .have:¬0<=b:=(by omega);simp[h1,h2,h3,this]
 by_cases h4:2<b
 .have:¬b<=2:=(by omega);simp[h1,h2,h3,h4,this]
 have h5:1<=a:=by omega
 have h6:a<=11:=by omega
 have h7:0<=b:=by omega
 have h8:b<=2:=by omega
 have w1:aD .i64 (2*a)=2*a:=wrap64 (by omega) (by omega);have w2:aD .i64 (2*a+b)=2*a+b:=wrap64 (by omega) (by omega);simp[h1,h2,h3,h4,h5,h6,h7,h8,w1,w2]
theorem Wn(hc:Sem c)(a b:Int)(st:St):c 227 [.int .i64 a,.int .i64 b] st=some (.int .i64 (if 1<=a/\a<=8/\1<=b/\b<=8 then a+2*b else 0),st):=by
 rw[Mg hc 1 (r:=(.int .i64 (if 1<=a/\a<=8/\1<=b/\b<=8 then a+2*b else 0),st)),au (Plain.int _ _) (aP.refl st)];rw[O8];by_cases h1:a<1
 .have:¬1<=a:=(by omega);simp[h1,this]
 by_cases h2:8<a
 .have:¬a<=8:=(by omega);simp[h1,h2,this]
 by_cases h3:b<1
 .have:¬1<=b:=(by omega);simp[h1,h2,h3,this]
 by_cases h4:8<b
 .have:¬b<=8:=(by omega);simp[h1,h2,h3,h4,this]
 have h5:1<=a:=by omega
 have h6:a<=8:=by omega
 have h7:1<=b:=by omega
 have h8:b<=8:=by omega
 have w1:aD .i64 (2*b)=2*b:=wrap64 (by omega) (by omega);have w2:aD .i64 (a+2*b)=a+2*b:=wrap64 (by omega) (by omega);simp[h1,h2,h3,h4,h5,h6,h7,h8,w1,w2]
theorem XJ(hc:Sem c)(a b:Int)(st:St):c 232 [.int .i64 a,.int .i64 b] st=some (.int .i64 (if 1<=a/\a<=24/\0<=b/\b<=a then a else 0),st):=by
 rw[Ny hc 1 (r:=(.int .i64 (if 1<=a/\a<=24/\0<=b/\b<=a then a else 0),st)),au (Plain.int _ _) (aP.refl st)];rw[QK];by_cases h1:a<1
 .have:¬1<=a:=(by omega);simp[h1,this]
 by_cases h2:24<a
 .have:¬a<=24:=(by omega);simp[h1,h2,this]
 by_cases h3:b<0
 .have:¬0<=b:=(by omega);simp[h1,h2,h3,this]
 by_cases h4:a<b
 .have:¬b<=a:=(by omega);simp[h1,h2,h3,h4,this]
 have h5:1<=a:=by omega
 have h6:a<=24:=by omega
 have h7:0<=b:=by omega
 have h8:b<=a:=by omega
 simp[h1,h2,h3,h4,h5,h6,h7,h8]
def sP(sh:Int):List AV:=
 if sh=1 then [.str [114,111,117,110,100],.func 217 [] [],.func 218 [] [],.func 219 [] [],.func 220 [] [],.func 221 [] []]
 else if sh=2 then [.str [108,111,110,103],.func 222 [] [],.func 223 [] [],.func 224 [] [],.func 225 [] [],.func 226 [] []]
 else if sh=3 then [.str [104,111,114,115,101,115,104,111,101],.func 227 [] [],.func 228 [] [],.func 229 [] [],.func 230 [] [],.func 231 [] []]
 else if sh=4 then [.str [114,111,119],.func 232 [] [],.func 233 [] [],.func 234 [] [],.func 235 [] [],.func 236 [] []]
 else [.str [],.iQ,.iQ,.iQ,.iQ,.iQ]
theorem plain_fn(f:Nat):Plain (.func f [] []):=Plain.func f (by simp) (by simp)
theorem aa9(sh:Int):∀v∈sP sh,Plain v:=by
 unfold sP;intro v hv
 repeat' split at hv
 all_goals
  simp only[Za5,Zd2,Zh6]at hv;rcases hv with rfl|rfl|rfl|rfl|rfl|rfl<;>first|exact Plain.str _|exact Plain.iQ|exact plain_fn _
theorem vh(hc:Sem c)(sh:Int)(st:St)(hw:Wf st):c 173 [.int .u8 sh] st=some (.tuple [.agg (sP sh),.bool (decide (1<=sh/\sh<=4))],st):=by
 have hp:Plain (.tuple [.agg (sP sh),.bool (decide (1<=sh/\sh<=4))]):=Plain.tuple λv hv=>by
   simp only[Za5,Zd2,Zh6]at hv;rcases hv with rfl|rfl
   .exact Plain.agg (aa9 sh)
   .exact Plain.bool _
 rw[Nx hc 1 (r:=(.tuple [.agg (sP sh),.bool (decide (1<=sh/\sh<=4))],af st (.cells (sP sh) 0))),au hp (bt hw)];rw[QJ];by_cases h1:sh=1
 .subst h1;simp[sP,AV.cells,aZ,AV.one,bK,bG,aH,dX]
 by_cases h2:sh=2
 .subst h2;simp[sP,AV.cells,aZ,AV.one,bK,bG,aH,dX]
 by_cases h3:sh=3
 .subst h3;simp[sP,AV.cells,aZ,AV.one,bK,bG,aH,dX]
 by_cases h4:sh=4
 .subst h4;simp[sP,AV.cells,aZ,AV.one,bK,bG,aH,dX]
 have h5:decide (1<=sh/\sh<=4)=false:=by simp;omega
 rw[h5];simp[sP,AV.cells,aZ,AV.one,bK,bG,aH,dX,h1,h2,h3,h4]
theorem R6(hc:Sem c)(t:aG)(st:St)(hw:Wf st):c 125 [.agg t.cells] st=some (.int .i64 (cK t),st):=by
 rw[T8 hc 1 (r:=(.int .i64 (cK t),af (af st (.cells t.cells 0)) (.cells (sP t.sh) 0))),au (Plain.int _ _) ((bt hw).trans (bt (bE hw)))];rw[XE];obtain⟨name,sh,a,b,oz,cA,x,y⟩:=t;by_cases h1:sh=1
 .subst h1;simp[aG.cells,AV.cells,vh hc,hw,cK,sP,aZ,AV.one,Ud hc]
 by_cases h2:sh=2
 .subst h2;simp[aG.cells,AV.cells,vh hc,hw,cK,sP,aZ,AV.one,Wm hc]
 by_cases h3:sh=3
 .subst h3;simp[aG.cells,AV.cells,vh hc,hw,cK,sP,aZ,AV.one,Wn hc]
 by_cases h4:sh=4
 .subst h4;simp[aG.cells,AV.cells,vh hc,hw,cK,sP,aZ,AV.one,XJ hc]
 have h5:decide (1<=sh/\sh<=4)=false:=by simp;omega
 simp[aG.cells,AV.cells,vh hc,hw,cK,sP,aZ,AV.one,h1,h2,h3,h4,h5]
def cL:Nat:=9223372036854775808
theorem Gk(s:List Nat)(hs:s.length<=12)(F:Nat)(st:St)(k1 k2):∀(m k:Nat),s.length<=k+m->k<=s.length->
  gp c F k1 k2 (m+1) [.str s,.int .i64 (k:Int)] st=if(s.drop k).all (λc=>decide (97<=c/\c<=122))=true then k2 [] st else k1 [.bool false] st:=by
 intro m;induction m with
 |zero=>
  intro k h1 h2;rw[ve];obtain rfl:k=s.length:=by omega
  simp
 |succ m ih=>
  intro k h1 h2;rw[ve];by_cases h:k<s.length
  . have e:s.drop k=s[k]::s.drop (k+1):=Za7 h;have:=ih (k+1) (by omega) (by omega);have w:aD .i64 ((k:Int)+1)=((k+1:Nat):Int):=wrap64 (by omega) (by omega);rw[e,Zm8];generalize (s.drop (k+1)).all _=rest at this ⊢;by_cases h3:(s[k]:Int)<97
    .   have h5:decide (97<=s[k]/\s[k]<=122)=false:=(by simp;omega);simp[h,h3,h5]
    .   by_cases h4:122<(s[k]:Int)
        .have h5:decide (97<=s[k]/\s[k]<=122)=false:=(by simp;omega);simp[h,h3,h4,h5]
        .have h5:decide (97<=s[k]/\s[k]<=122)=true:=(by simp;omega);rw[h5,Ze1, <-this];simp[h,h3,h4,w]
  .obtain rfl:k=s.length:=(by omega);simp
theorem Jm(hc:Sem c)(s:List Nat)(st:St):c 251 [.str s] st=some (.bool (eC s),st):=by
 rw[Hx hc (s.length+1) (r:=(.bool (eC s),st)),au (Plain.bool _) (aP.refl st)];rw[Kp];by_cases h0:(s.length:Int)=0
 .have h1:¬1<=s.length:=(by omega);have h2:s=[]:=Za8 (by omega);subst h2;simp[eC]
 . by_cases h1:12<(s.length:Int)
   .have h2:¬s.length<=12:=(by omega);have h3:¬s=[]:=(by intro e;subst e;simp at h0);simp[eC,h1,h2,h3]
   . have h2:s.length<=12:=(by omega);have h3:1<=s.length:=(by omega);have h4:¬s=[]:=(by intro e;subst e;simp at h0);have L:∀k1 k2,gp c (s.length+1) k1 k2 (s.length+1) [.str s,.int .i64 0] st=if(s.drop 0).all (λc=>decide (97<=c/\c<=122))=true then k2 [] st else k1 [.bool false] st:=
        λk1 k2=>Gk (c:=c) s h2 (s.length+1) st k1 k2 s.length 0 (by omega) (by omega)
     rw[Zb7]at L;have e:eC s=s.all λc=>decide (97<=c/\c<=122):=(by simp[eC,h2,h3]);rw[e];generalize (s.all _)=b at L ⊢;simp[h1,h4,L];cases b<;>simp
theorem QO(s:List Nat)(hs:s.length<=12)(F:Nat)(st:St)(k1 k2):∀(m k:Nat),s.length<=k+m->k<=s.length->
  mK c F k1 k2 (m+1) [.str s,.int .i64 (s.length:Int),.int .i64 (k:Int)] st=if(s.drop k).all (λc=>decide (97<=c/\c<=122))=true then k2 [] st else k1 [.bool false] st:=by
 intro m;induction m with
 |zero=>
  intro k h1 h2;rw[FC];obtain rfl:k=s.length:=by omega
  simp
 |succ m ih=>
  intro k h1 h2;rw[FC];by_cases h:k<s.length
  . have e:s.drop k=s[k]::s.drop (k+1):=Za7 h;have:=ih (k+1) (by omega) (by omega);have w:aD .i64 ((k:Int)+1)=((k+1:Nat):Int):=wrap64 (by omega) (by omega);rw[e,Zm8];generalize (s.drop (k+1)).all _=rest at this ⊢;by_cases h3:(s[k]:Int)<97
    .   have h5:decide (97<=s[k]/\s[k]<=122)=false:=(by simp;omega);simp[h,h3,h5]
    .   by_cases h4:122<(s[k]:Int)
        .have h5:decide (97<=s[k]/\s[k]<=122)=false:=(by simp;omega);simp[h,h3,h4,h5]
        .have h5:decide (97<=s[k]/\s[k]<=122)=true:=(by simp;omega);rw[h5,Ze1, <-this];simp[h,h3,h4,w]
  .obtain rfl:k=s.length:=(by omega);simp
theorem BJ(hc:Sem c)(s:List Nat)(st:St):c 317 [.str s] st=some (.bool (eC s),st):=by
 rw[R4 hc (s.length+1) (r:=(.bool (eC s),st)),au (Plain.bool _) (aP.refl st)];rw[Wj];by_cases h0:(s.length:Int)=0
 .have h1:¬1<=s.length:=(by omega);have h2:s=[]:=Za8 (by omega);subst h2;simp[eC]
 . by_cases h1:12<(s.length:Int)
   .have h2:¬s.length<=12:=(by omega);have h3:¬s=[]:=(by intro e;subst e;simp at h0);simp[eC,h1,h2,h3]
   . have h2:s.length<=12:=(by omega);have h3:1<=s.length:=(by omega);have h4:¬s=[]:=(by intro e;subst e;simp at h0);have L:∀k1 k2,mK c (s.length+1) k1 k2 (s.length+1) [.str s,.int .i64 (s.length:Int),.int .i64 0] st=if(s.drop 0).all (λc=>decide (97<=c/\c<=122))=true then k2 [] st else k1 [.bool false] st:=
        λk1 k2=>QO (c:=c) s h2 (s.length+1) st k1 k2 s.length 0 (by omega) (by omega)
     rw[Zb7]at L;have e:eC s=s.all λc=>decide (97<=c/\c<=122):=(by simp[eC,h2,h3]);rw[e];generalize (s.all _)=b at L ⊢;simp[h1,h4,L];cases b<;>simp
theorem R7(s:List Nat)(hs:s.length<=12)(F:Nat)(st:St)(k1 k2):∀(m k:Nat),s.length<=k+m->k<=s.length->
  oq c F k1 k2 (m+1) [.str s,.int .i64 (s.length:Int),.int .i64 (k:Int)] st=if(s.drop k).all (λc=>decide (97<=c/\c<=122))=true then k2 [] st else k1 [.bool false] st:=by
 intro m;induction m with
 |zero=>
  intro k h1 h2;rw[Hl];obtain rfl:k=s.length:=by omega
  simp
 |succ m ih=>
  intro k h1 h2;rw[Hl];by_cases h:k<s.length
  . have e:s.drop k=s[k]::s.drop (k+1):=Za7 h;have:=ih (k+1) (by omega) (by omega);have w:aD .i64 ((k:Int)+1)=((k+1:Nat):Int):=wrap64 (by omega) (by omega);rw[e,Zm8];generalize (s.drop (k+1)).all _=rest at this ⊢;by_cases h3:(s[k]:Int)<97
    .   have h5:decide (97<=s[k]/\s[k]<=122)=false:=(by simp;omega);simp[h,h3,h5]
    .   by_cases h4:122<(s[k]:Int)
        .have h5:decide (97<=s[k]/\s[k]<=122)=false:=(by simp;omega);simp[h,h3,h4,h5]
        .have h5:decide (97<=s[k]/\s[k]<=122)=true:=(by simp;omega);rw[h5,Ze1, <-this];simp[h,h3,h4,w]
  .obtain rfl:k=s.length:=(by omega);simp
theorem Wo(hc:Sem c)(s:List Nat)(st:St):c 171 [.str s] st=some (.bool (eC s),st):=by
 rw[T9 hc (s.length+1) (r:=(.bool (eC s),st)),au (Plain.bool _) (aP.refl st)];rw[XF];by_cases h0:(s.length:Int)=0
 .have h1:¬1<=s.length:=(by omega);have h2:s=[]:=Za8 (by omega);subst h2;simp[eC]
 . by_cases h1:12<(s.length:Int)
   .have h2:¬s.length<=12:=(by omega);have h3:¬s=[]:=(by intro e;subst e;simp at h0);simp[eC,h1,h2,h3]
   . have h2:s.length<=12:=(by omega);have h3:1<=s.length:=(by omega);have h4:¬s=[]:=(by intro e;subst e;simp at h0);have L:∀k1 k2,oq c (s.length+1) k1 k2 (s.length+1) [.str s,.int .i64 (s.length:Int),.int .i64 0] st=if(s.drop 0).all (λc=>decide (97<=c/\c<=122))=true then k2 [] st else k1 [.bool false] st:=
        λk1 k2=>R7 (c:=c) s h2 (s.length+1) st k1 k2 s.length 0 (by omega) (by omega)
     rw[Zb7]at L;have e:eC s=s.all λc=>decide (97<=c/\c<=122):=(by simp[eC,h2,h3]);rw[e];generalize (s.all _)=b at L ⊢;simp[h1,h4,L];cases b<;>simp
theorem R8(s:List Nat)(hs:s.length<cL)(F:Nat)(st:St)(k1 k2):∀(m k:Nat),s.length<=k+m->k<=s.length->
  ot c F k1 k2 (m+1) [.str s,.int .i64 (k:Int)] st=if(s.drop k).all (λc=>decide (97<=c/\c<=122))=true then k2 [.str s] st else k1 [.bool false] st:=by
 intro m;induction m with
 |zero=>
  intro k h1 h2;rw[Ho];obtain rfl:k=s.length:=by omega
  simp
 |succ m ih=>
  intro k h1 h2;rw[Ho];by_cases h:k<s.length
  . have e:s.drop k=s[k]::s.drop (k+1):=Za7 h;have:=ih (k+1) (by omega) (by omega);have w:aD .i64 ((k:Int)+1)=((k+1:Nat):Int):=wrap64 (by omega) (by unfold cL at hs;omega);rw[e,Zm8];generalize (s.drop (k+1)).all _=rest at this ⊢;by_cases h3:(s[k]:Int)<97
    .   have h5:decide (97<=s[k]/\s[k]<=122)=false:=(by simp;omega);simp[h,h3,h5]
    .   by_cases h4:122<(s[k]:Int)
        .have h5:decide (97<=s[k]/\s[k]<=122)=false:=(by simp;omega);simp[h,h3,h4,h5]
        .have h5:decide (97<=s[k]/\s[k]<=122)=true:=(by simp;omega);rw[h5,Ze1, <-this];simp[h,h3,h4,w]
  .obtain rfl:k=s.length:=(by omega);simp
theorem Wp(hc:Sem c)(s:List Nat)(hs:s.length<cL)(st:St):c 184 [.str s] st=some (.bool (eC s),st):=by
 rw[Ub hc (s.length+1) (r:=(.bool (eC s),st)),au (Plain.bool _) (aP.refl st)];rw[XH];have L:∀k1 k2,ot c (s.length+1) k1 k2 (s.length+1) [.str s,.int .i64 0] st=if(s.drop 0).all (λc=>decide (97<=c/\c<=122))=true then k2 [.str s] st else k1 [.bool false] st:=
   λk1 k2=>R8 (c:=c) s hs (s.length+1) st k1 k2 s.length 0 (by omega) (by omega)
 rw[Zb7]at L;have e:eC s=(decide (1<=s.length)&&decide (s.length<=12)&&s.all λc=>decide (97<=c/\c<=122)):=rfl;rw[e];generalize (s.all _)=b at L ⊢;simp[L];cases b
 .simp
 . by_cases h1:(1:Int)<=s.length
   . have h2:1<=s.length:=(by omega);by_cases h3:(s.length:Int)<=12
     .  have h4:s.length<=12:=(by omega);simp[h1,h2,h3,h4]
     .  have h4:¬s.length<=12:=(by omega);simp[h1,h2,h3,h4]
   .have h2:¬1<=s.length:=(by omega);simp[h1,h2]
def lB(s:List Nat):Bool:=decide (s=[])||eC s
theorem BK(hc:Sem c)(s:List Nat)(st:St):c 318 [.str s] st=some (.bool (lB s),st):=by
 rw[R5 hc 1 (r:=(.bool (lB s),st)),au (Plain.bool _) (aP.refl st)];rw[Wk];by_cases h:s=[]<;>simp[h,lB,BJ hc]
def uP(n last:Int):List Int->Bool
 |[]=>true
 |k::l=>decide (last<k)&&decide (k<n)&&uP n k l
def q7(t:aG):Int:=
 if eC t.name=false then 4 else if cK t=0 then 10 else if uP (cK t) (-1) t.cA=false then 11
 else if 0<=t.x/\t.x<=1000/\0<=t.y/\t.y<=1000 then 0 else 2
structure aG.Ok(t:aG):Prop where
 name:t.name.length<cL
 cA:t.cA.length<cL
theorem Wq(l:List Int)(k:Nat)(h:k<l.length):((l.map λi=>[AV.int .i64 i])[k]?.bind λcs=>cs[0]?)=some (.int .i64 l[k]):=by
 simp[Zb5,H1 h]
theorem QT(p:Pos)(n:Int)(z:Bool)(l:List Int)(hl:l.length<cL)(F:Nat)(st:St)(k1 k3):∀(m k:Nat)(last:Int),l.length<=k+m->k<=l.length->
  mJ c F k1 k3 (m+1) [.ptr p 0,.int .i64 n,.int .i64 last,ints z l,.int .i64 (l.length:Int),.int .i64 (k:Int)] st=if uP n last (l.drop k)=true then k3 [.ptr p 0] st else k1 [.int .i64 11] st:=by
 intro m;induction m with
 |zero=>
  intro k last h1 h2;rw[Fv];obtain rfl:k=l.length:=by omega
  simp[uP]
 |succ m ih=>
  intro k last h1 h2;rw[Fv];by_cases h:k<l.length
  . have e:l.drop k=l[k]::l.drop (k+1):=Za7 h;have:=ih (k+1) l[k] (by omega) (by omega);have w:aD .i64 ((k:Int)+1)=((k+1:Nat):Int):=wrap64 (by omega) (by unfold cL at hl;omega);have g:=Wq l k h;rw[e,uP];generalize uP n l[k] (l.drop (k+1))=rest at this ⊢;by_cases h3:l[k]<=last
    .   have h4:¬last<l[k]:=(by omega);simp[ints,h,h3,h4,g]
    .   have h4:last<l[k]:=(by omega);by_cases h5:n<=l[k]
        .have h6:¬l[k]<n:=(by omega);simp[ints,h,h3,h4,h5,h6,g]
        .have h6:l[k]<n:=(by omega);simp only[h4,h6,Zj2,Ze1];rw[<-this];simp[ints,h,h3,h4,h5,h6,g,w]
  .obtain rfl:k=l.length:=(by omega);simp[uP]
theorem acO(hc:Sem c)(t:aG)(ht:t.Ok)(st:St)(hw:Wf st):c 129 [.agg t.cells] st=some (.int .i64 (q7 t),st):=by
 rw[RW hc (t.cA.length+1) (r:=(.int .i64 (q7 t),af st (.cells t.cells 0))),au (Plain.int _ _) (bt hw)];rw[We];have hs:=R6 hc t (af st (.cells t.cells 0)) (bE hw);have hn:=Wp hc t.name ht.name;have hg:(af st (.cells t.cells 0)).heap.get st.next=some (.cells t.cells 0):=aE _ _;have c0:t.cells[0]? =some (.str t.name):=rfl;have c4:t.cells[4]? =some (ints t.oz t.cA):=rfl;have c5:t.cells[5]? =some (.int .i64 t.x):=rfl;have c6:t.cells[6]? =some (.int .i64 t.y):=rfl;have cc:cut t.cells 0 7=some t.cells:=bK rfl
 have L:∀k1 k3,mJ c (t.cA.length+1) k1 k3 (t.cA.length+1) [.ptr st.next 0,.int .i64 (cK t),.int .i64 (-1),ints t.oz t.cA,.int .i64 (t.cA.length:Int),.int .i64 0] (af st (.cells t.cells 0))=
     if uP (cK t) (-1) (t.cA.drop 0)=true then k3 [.ptr st.next 0] (af st (.cells t.cells 0))else k1 [.int .i64 11] (af st (.cells t.cells 0)):=
   λk1 k3=>QT st.next (cK t) t.oz t.cA ht.cA _ _ k1 k3 t.cA.length 0 (-1) (by omega) (by omega)
 rw[Zb7]at L;have lI:∀(K:AV->St->Option (AV×St))(s:St),ai c (.lenB .l) [ints t.oz t.cA] s K=K (.int .i64 (t.cA.length:Int)) s:=λK s=>by unfold ints;rw[bX];simp
 unfold q7;generalize t.cells=tc at*
 generalize cK t=sz at*
 generalize uP sz (-1) t.cA=op at*
 by_cases h1:eC t.name=true
 . by_cases h2:sz=0
   .simp[AV.cells,hs,hn,hg,c0,cc,h1,h2]
   . cases op
     .  simp[AV.cells,hs,hn,hg,c0,c4,cc,h1,h2,lI,L]
     .  by_cases h3:t.x<0
        .have:¬0<=t.x:=(by omega);simp[AV.cells,hs,hn,hg,c0,c4,c5,c6,cc,h1,h2,lI,L,h3,this]
        by_cases h4:1000<t.x
        .have:¬t.x<=1000:=(by omega);simp[AV.cells,hs,hn,hg,c0,c4,c5,c6,cc,h1,h2,lI,L,h3,h4,this]
        by_cases h5:t.y<0
        .have:¬0<=t.y:=(by omega);simp[AV.cells,hs,hn,hg,c0,c4,c5,c6,cc,h1,h2,lI,L,h3,h4,h5,this]
        by_cases h6:1000<t.y
        .have:¬t.y<=1000:=(by omega);simp[AV.cells,hs,hn,hg,c0,c4,c5,c6,cc,h1,h2,lI,L,h3,h4,h5,h6,this]
        have h7:0<=t.x:=(by omega);have h8:t.x<=1000:=(by omega);have h9:0<=t.y:=(by omega);have Kf:t.y<=1000:=(by omega);simp[AV.cells,hs,hn,hg,c0,c4,c5,c6,cc,h1,h2,lI,L,h3,h4,h5,h6,h7,h8,h9,Kf]
 .simp[AV.cells,hs,hn,hg,c0,cc,h1]
theorem zn(t:aG):0<=cK t/\cK t<=1000:=by
 unfold cK;repeat' split
 all_goals omega
theorem Ue(hc:Sem c)(p:Pos)(t:aG)(hl:t.cA.length<cL)(n:Int)(hn:0<=n/\n<=1000)(F:Nat)(st:St)(hp:st.heap.get p=some (.cells t.cells 0))(k1 k2):∀(m k:Nat)(last:Int),t.cA.length<=k+m->k<=t.cA.length-> -1<=last->(∀h:0<k,∀h':k - 1<t.cA.length,t.cA[k - 1]=last)->(k=0->last= -1)->
  fL c F k1 k2 (m+1) [.ptr p 0,.int .i64 n,.int .i64 (k:Int)] st=if uP n last (t.cA.drop k)=true then k2 [.ptr p 0] st else k1 [.int .i64 11] st:=by
 have c4:t.cells[4]? =some (ints t.oz t.cA):=rfl;have lI:∀(K:AV->St->Option (AV×St))(s:St),ai c (.lenB .l) [ints t.oz t.cA] s K=K (.int .i64 (t.cA.length:Int)) s:=λK s=>by unfold ints;rw[bX];simp
 intro m;induction m with
 |zero=>
  intro k last h1 h2 _ _ _;rw[uk];obtain rfl:k=t.cA.length:=by omega
  simp[uP,hp,c4,lI]
 |succ m ih=>
  intro k last h1 h2 z9 agf hz;rw[uk];by_cases h:k<t.cA.length
  . have e:t.cA.drop k=t.cA[k]::t.cA.drop (k+1):=Za7 h;have w:aD .i64 ((k:Int)+1)=((k+1:Nat):Int):=wrap64 (by omega) (by unfold cL at hl;omega);have wn:aD .i64 (n - 1)=n - 1:=wrap64 (by omega) (by omega);have g:=Wq t.cA k h;rw[e,uP];by_cases h3:0<=t.cA[k]/\t.cA[k]<=n - 1
    .   have h6:t.cA[k]<n:=(by omega);have:=ih (k+1) t.cA[k] (by omega) (by omega) (by omega) (λ_ _=>by simp) (λh=>by omega);generalize uP n t.cA[k] (t.cA.drop (k+1))=rest at this ⊢;by_cases h0:k=0
        .have h4:last<t.cA[k]:=(by rw[hz h0];omega);have hk:¬0<k:=(by omega);simp only[h4,h6,Zj2,Ze1];rw[<-this];simp[hp,c4,lI,ints,h,h3,wn,eD hc,hk,w]
        . have hk:0<k:=(by omega);have oB:k - 1<t.cA.length:=(by omega);have u5:=agf (by omega) oB;have wk:aD .i64 ((k:Int) - 1)=((k - 1:Nat):Int):=(by rw[wrap64 (by omega) (by unfold cL at hl;omega)];omega);by_cases h5:t.cA[k]<=last
          .have h4:¬last<t.cA[k]:=(by omega);simp[hp,c4,lI,ints,h,h3,h4,h5,wn,eD hc,hk,oB,u5,wk]
          .have h4:last<t.cA[k]:=(by omega);simp only[h4,h6,Zj2,Ze1];rw[<-this];simp[hp,c4,lI,ints,h,h3,h5,wn,eD hc,hk,oB,u5,wk,w]
    .   have h4:(decide (last<t.cA[k])&&decide (t.cA[k]<n))=false:=(by simp;omega);rw[h4,Bool.false_and];simp[hp,c4,lI,ints,h,h3,wn,eD hc]
  .obtain rfl:k=t.cA.length:=(by omega);simp[uP,hp,c4,lI]
theorem XK(hc:Sem c)(t:aG)(ht:t.Ok)(st:St)(hw:Wf st):c 189 [.agg t.cells] st=some (.int .i64 (q7 t),st):=by
 rw[Gi hc (t.cA.length+1) (r:=(.int .i64 (q7 t),af st (.cells t.cells 0))),au (Plain.int _ _) (bt hw)];rw[Jc];have hs:=Jl hc t (af st (.cells t.cells 0)) (bE hw);have hn:=Jm hc t.name;have hg:(af st (.cells t.cells 0)).heap.get st.next=some (.cells t.cells 0):=aE _ _;have c0:t.cells[0]? =some (.str t.name):=rfl;have c4:t.cells[4]? =some (ints t.oz t.cA):=rfl;have c5:t.cells[5]? =some (.int .i64 t.x):=rfl;have c6:t.cells[6]? =some (.int .i64 t.y):=rfl;have cc:cut t.cells 0 7=some t.cells:=bK rfl;have hz:0<=cK t/\cK t<=1000:=zn t
 have L:∀k1 k3,fL c (t.cA.length+1) k1 k3 (t.cA.length+1) [.ptr st.next 0,.int .i64 (cK t),.int .i64 0] (af st (.cells t.cells 0))=
     if uP (cK t) (-1) (t.cA.drop 0)=true then k3 [.ptr st.next 0] (af st (.cells t.cells 0))else k1 [.int .i64 11] (af st (.cells t.cells 0)):=
   λk1 k3=>Ue hc st.next t ht.cA (cK t) hz _ _ hg k1 k3 t.cA.length 0 (-1) (by omega) (by omega) (by omega) (λh=>by omega) (λ_=>rfl)
 rw[Zb7]at L;unfold q7;generalize t.cells=tc at*
 generalize cK t=sz at*
 generalize uP sz (-1) t.cA=op at*
 by_cases h1:eC t.name=true
 . by_cases h2:sz=0
   .simp[AV.cells,hs,hn,hg,c0,cc,h1,h2]
   . cases op
     .  simp[AV.cells,hs,hn,hg,c0,cc,h1,h2,L]
     .  by_cases h3:0<=t.x/\t.x<=1000
        . by_cases h4:0<=t.y/\t.y<=1000
          .simp[AV.cells,hs,hn,hg,c0,c5,c6,cc,h1,h2,L,h3,h4,eD hc]
          .simp[AV.cells,hs,hn,hg,c0,c5,c6,cc,h1,h2,L,h3,h4,eD hc]
        . have h5:¬(0<=t.x/\t.x<=1000/\0<=t.y/\t.y<=1000):=λh=>h3 ⟨h.1,h.2.1⟩
          rw[Za1 h5];simp[AV.cells,hs,hn,hg,c0,c5,cc,h1,h2,L,h3,eD hc]
 .simp[AV.cells,hs,hn,hg,c0,cc,h1]
def scan(P:Nat->Bool):Nat->Nat->Int
 |0,_=> -1
 |m+1,k=>if P k=true then(k:Int)else scan P m (k+1)
theorem Hy(P:Nat->Bool):∀(m k:Nat),-1<=scan P m k/\(scan P m k<0->scan P m k= -1)
 |0,_=>by simp[scan]
 |m+1,k=>by
  unfold scan;split
  .omega
  .exact Hy P m (k+1)
theorem QU{P Q:Nat->Bool}:∀(m k:Nat),(∀i,k<=i->i<k+m->P i=Q i)->scan P m k=scan Q m k
 |0,_,_=>rfl
 |m+1,k,h=>by
  unfold scan;rw[h k (by omega) (by omega),QU m (k+1) λi h1 h2=>h i (by omega) (by omega)]
theorem Jn{P:Nat->Bool}:∀(m k:Nat),0<=scan P m k->k<=(scan P m k).toNat/\(scan P m k).toNat<k+m/\P (scan P m k).toNat=true
 |0,k,h=>by simp[scan]at h
 |m +1,k,h=>by
  unfold scan at h ⊢;split
  .rename_i hp;simp;exact hp
  .rename_i hp;rw[Za1 hp]at h;have:=Jn m (k+1) h;exact⟨by omega,by omega,this.2.2⟩
def tabs(z:Bool)(ts:List aG):AV:=ro 7 z (ts.map aG.cells)
@[simp] theorem aG.c0(t:aG):t.cells[0]? =some (.str t.name):=id rfl
@[simp] theorem aG.c1(t:aG):t.cells[1]? =some (.int .u8 t.sh):=id rfl
@[simp] theorem aG.c2(t:aG):t.cells[2]? =some (.int .i64 t.a):=id rfl
@[simp] theorem aG.c3(t:aG):t.cells[3]? =some (.int .i64 t.b):=id rfl
@[simp] theorem aG.c4(t:aG):t.cells[4]? =some (ints t.oz t.cA):=id rfl
@[simp] theorem aG.c5(t:aG):t.cells[5]? =some (.int .i64 t.x):=id rfl
@[simp] theorem aG.c6(t:aG):t.cells[6]? =some (.int .i64 t.y):=id rfl
@[simp] theorem aG.cc(t:aG):cut t.cells 0 7=some t.cells:=bK rfl
theorem aG.len(t:aG):t.cells.length=7:=id rfl
@[simp] theorem aG.one(t:aG):aZ t.cells=true:=by unfold aG.cells;simp only[aZ,acN];rfl
@[simp] theorem Mh(l:List AV):(AV.agg l).cells=l:=id rfl
def iF(ts:List aG)(s:List Nat)(i:Nat):Bool:=decide (ts[i]?.map aG.name=some s)
def dx(ts:List aG):Nat->Nat->Int×Int
 |0,_=>(0,0)
 |  m+1,k=>match ts[k]? with
    |none=>(0,0)
    |some t=>if q7 t≠0 then((k:Int),q7 t)else if 0<=scan (iF ts t.name) k 0 then((k:Int),5)else dx ts m (k+1)
def bn(ts:List aG):Int×Int:=if 16<ts.length then(0,7)else dx ts ts.length 0
theorem Jo(ts:List aG):∀(m m' k:Nat),ts.length<=k+m->ts.length<=k+m'->dx ts m k=dx ts m' k
 |0,0,_,_,_=>rfl
 |0,m'+1,k,h,_=>by rw[dx,dx,Zb3 (by omega)]
 |m+1,0,k,_,h=>by rw[dx,dx,Zb3 (by omega)]
 |m+1,m'+1,k,h,h'=>by
  rw[dx,dx,Jo ts m m' (k+1) (by omega) (by omega)]
theorem Jp(ts:List aG):∀(m k:Nat),(dx ts m k).2=0->(dx ts m k).1=0
 |0,_,_=>rfl
 |m +   1,k,h=>by
  rw[dx]at h ⊢;split at h
  .rfl
  . split at h
    .   rename_i aR;exact absurd h aR
    .   split at h
        .simp at h
        .rename_i h1 h2;rw[Za1 h1,Za1 h2];exact Jp ts m (k+1) h
theorem R9(z:Bool)(ts:List aG)(k:Nat)(hk:k<ts.length)(hl:ts.length<=16)(F:Nat)(st:St)(k1 k4):∀(m j:Nat),k<=j+m->j<=k->
  dF c F k1 k4 (m+1) [tabs z ts,.int .i64 (k:Int),.int .i64 (j:Int)] st=if 0<=scan (iF ts ts[k].name) (k - j) j then k1 [.int .i64 (k:Int),.int .i64 5] st else k4 [tabs z ts,.int .i64 (k:Int)] st:=by
 intro m;induction m with
 |zero=>
  intro j h1 h2;obtain rfl:j=k:=by omega
  rw[qC];simp[scan]
 |succ m ih=>
  intro j h1 h2;rw[qC];by_cases h:j<k
  . have hj:j<ts.length:=(by omega);have e:k - j=(k - (j+1))+1:=(by omega);have w:aD .i64 ((j:Int)+1)=((j+1:Nat):Int):=wrap64 (by omega) (by omega);rw[e,scan];by_cases h3:ts[j].name=ts[k].name
    .   have:iF ts ts[k].name j=true:=(by simp[iF,hj,h3]);rw[Za2 this];simp[tabs,h,hj,hk,h3]
    .   have:¬iF ts ts[k].name j=true:=(by simp[iF,hj,h3]);rw[Za1 this, <-ih (j+1) (by omega) (by omega)];simp[tabs,h,hj,hk,h3,w]
  .obtain rfl:j=k:=(by omega);simp[scan]
theorem QV(hc:Sem c)(z:Bool)(ts:List aG)(cT:∀t∈ts,t.Ok)(hl:ts.length<=16)(st:St)(hw:Wf st)(k1 k2):∀(m k:Nat),ts.length<=k+m->k<=ts.length->
  eH c 20 k1 k2 (m+1) [tabs z ts,.int .i64 (k:Int)] st=if(dx ts m k).2=0 then k2 [] st else k1 [.int .i64 (dx ts m k).1,.int .i64 (dx ts m k).2] st:=by
 intro m;induction m with
 |zero=>
  intro k h1 h2;obtain rfl:k=ts.length:=by omega
  rw[qD];simp[dx,tabs]
 |succ m ih=>
  intro k h1 h2;rw[qD];by_cases h:k<ts.length
  . have w:aD .i64 ((k:Int)+1)=((k+1:Nat):Int):=wrap64 (by omega) (by omega);have hch:=XK hc ts[k] (cT _ (Zc2 h)) st hw;have L:∀k1 k4,dF c 20 k1 k4 20 [tabs z ts,.int .i64 (k:Int),.int .i64 0] st=if 0<=scan (iF ts ts[k].name) (k - 0) 0 then k1 [.int .i64 (k:Int),.int .i64 5] st else k4 [tabs z ts,.int .i64 (k:Int)] st:=
        λk1 k4=>R9 z ts k h hl 20 st k1 k4 19 0 (by omega) (by omega)
    rw[Zl5]at L;rw[dx,H1 h];simp only;by_cases h3:q7 ts[k]=0
    .   by_cases h4:0<=scan (iF ts ts[k].name) k 0
        .simp[tabs,h,hch,h3,h4]at L ⊢;rw[L];simp
        .have:=ih (k+1) (by omega) (by omega);simp[tabs,h,hch,h3,h4]at L this ⊢;rw[L];simp[w,this]
    .   simp[tabs,h,hch,h3]
  .obtain rfl:k=ts.length:=(by omega);simp[dx,tabs]
theorem Sa(hc:Sem c)(z:Bool)(ts:List aG)(cT:∀t∈ts,t.Ok)(st:St)(hw:Wf st):c 136 [tabs z ts] st=some (.tuple [.int .i64 (bn ts).1,.int .i64 (bn ts).2],st):=by
 rw[Cy hc 20 (r:=(.tuple [.int .i64 (bn ts).1,.int .i64 (bn ts).2],st)),au (Plain.tuple (by simp[Plain.int])) (aP.refl st)];rw[Ev];by_cases h:16<ts.length
 .have hi:(16:Int)<ts.length:=(by omega);simp[tabs,bn,h,hi]
 . have hi:¬(16:Int)<ts.length:=(by omega);have L:∀k1 k2,eH c 20 k1 k2 20 [tabs z ts,.int .i64 0] st=if(dx ts 19 0).2=0 then k2 [] st else k1 [.int .i64 (dx ts 19 0).1,.int .i64 (dx ts 19 0).2] st:=
     λk1 k2=>QV hc z ts cT (by omega) st hw k1 k2 19 0 (by omega) (by omega)
   have e:bn ts=dx ts 19 0:=(by rw[bn,Za1 h];exact Jo ts _ _ 0 (by omega) (by omega));rw[e];simp[tabs,hi]at L ⊢;rw[L];by_cases h2:(dx ts 19 0).2=0
   .have:=Jp ts 19 0 h2;simp[h2,this]
   .simp[h2]
theorem Wr(hc:Sem c)(x t:aG)(p:Pos)(st:St)(hw:Wf st)(hp:st.heap.get p=some (.cells t.cells 0)):c 197 [.agg x.cells,.ptr p 0] st=some (.bool (decide (x.name=t.name)),st):=by
 rw[Kv hc 1 (r:=(.bool (decide (x.name=t.name)),af st (.cells x.cells 0))),au (Plain.bool _) (bt hw)];rw[Ns];have:(af st (.cells x.cells 0)).heap.get p=some (.cells t.cells 0):=bt hw _ _ hp;simp[this]
theorem acP(hc:Sem c)(x:aG)(s:List Nat)(p:Pos)(st:St)(hw:Wf st)(hp:st.heap.get p=some (.cells [.str s] 0)):c 216 [.agg x.cells,.ptr p 0] st=some (.bool (decide (x.name=s)),st):=by
 rw[QL hc 1 (r:=(.bool (decide (x.name=s)),af st (.cells x.cells 0))),au (Plain.bool _) (bt hw)];rw[TZ];have:(af st (.cells x.cells 0)).heap.get p=some (.cells [.str s] 0):=bt hw _ _ hp;simp[this]
theorem aba(z:Bool)(rs:List (List AV))(hl:rs.length<cL)(di:∀cs∈rs,cs.length=7)(g:Nat)(v:List AV)(P:Nat->Bool)(st:St)(F:Nat)(k1 k2)
  (hP:∀i (h:i<rs.length),c g (.agg rs[i]::v) st=some (.bool (P i),st)):∀(m k:Nat),rs.length<=k+m->k<=rs.length->
  bR c F k1 k2 (m+1) [ro 7 z rs,.func g [] v,.int .i64 (rs.length:Int),.int .i64 (k:Int)] st=if 0<=scan P (rs.length - k) k then k1 [.int .i64 (scan P (rs.length - k) k)] st else k2 [] st:=by
 intro m;induction m with
 |zero=>
  intro k h1 h2;obtain rfl:k=rs.length:=by omega
  rw[iN];simp[scan]
 |succ m ih=>
  intro k h1 h2;rw[iN];by_cases h:k<rs.length
  . have e:rs.length - k=(rs.length - (k+1))+1:=(by omega);have w:aD .i64 ((k:Int)+1)=((k+1:Nat):Int):=wrap64 (by omega) (by unfold cL at hl;omega);have hcut:cut rs[k] 0 7=some rs[k]:=bK (di _ (Zc2 h));have hp:=hP k h;rw[e,scan];cases hb:P k
    .   simp only[Zd5,Zd9];rw[<-ih (k+1) (by omega) (by omega)];simp[h,hcut,hp,hb,w]
    .   simp[h,hcut,hp,hb]
  .obtain rfl:k=rs.length:=(by omega);simp[scan]
theorem YE(hc:Sem c)(z:Bool)(rs:List (List AV))(hl:rs.length<cL)(di:∀cs∈rs,cs.length=7)(g:Nat)(v:List AV)(P:Nat->Bool)(st:St)
   (hP:∀i (h:i<rs.length),c g (.agg rs[i]::v) st=some (.bool (P i),st)):c 215 [ro 7 z rs,.func g [] v] st=some (.int .i64 (scan P rs.length 0),st):=by
 rw[p7 hc (rs.length+1) (r:=(.int .i64 (scan P rs.length 0),st)),au (Plain.int _ _) (aP.refl st)];rw[qW];have L:∀k1 k2,bR c (rs.length+1) k1 k2 (rs.length+1) [ro 7 z rs,.func g [] v,.int .i64 (rs.length:Int),.int .i64 0] st=if 0<=scan P (rs.length - 0) 0 then k1 [.int .i64 (scan P (rs.length - 0) 0)] st else k2 [] st:=
   λk1 k2=>aba z rs hl di g v P st _ k1 k2 hP rs.length 0 (by omega) (by omega)
 rw[Zl5]at L;by_cases h:0<=scan P rs.length 0
 .simp[L,h]
 .have:=(Hy P rs.length 0).2 (by omega);simp[L,this]
theorem Ws(hc:Sem c)(z:Bool)(rs:List (List AV))(hl:rs.length<cL)(di:∀cs∈rs,cs.length=7)(g:Nat)(v:List AV)(P:Nat->Bool)(st:St)
  (hP:∀i (h:i<rs.length),c g (.agg rs[i]::v) st=some (.bool (P i),st)):c 196 [ro 7 z rs,.func g [] v] st=some (.bool (decide (0<=scan P rs.length 0)),st):=by
 rw[nV hc 1 (r:=(.bool (decide (0<=scan P rs.length 0)),st)),au (Plain.bool _) (aP.refl st)];rw[oR];simp[YE hc z rs hl di g v P st hP]
theorem Uf(hc:Sem c)(z:Bool)(ts:List aG)(cT:∀t∈ts,t.Ok)(hl:ts.length<=16)(F:Nat)(k1 k2):∀(m k:Nat)(st:St),Wf st->ts.length<=k+m->k<=ts.length->
  ∃st',Grew st st'/\lA c F k1 k2 (m+1) [tabs z ts,tabs z ts,.int .i64 (ts.length:Int),.int .i64 (k:Int)] st=if(dx ts m k).2=0 then k2 [] st' else k1 [.int .i64 (dx ts m k).1,.int .i64 (dx ts m k).2] st':=by
 intro m;induction m with
 |zero=>
  intro k st hw h1 h2;obtain rfl:k=ts.length:=by omega
  refine⟨st,Grew.refl hw,?_⟩;rw[sL];simp[dx,tabs]
 |succ m ih=>
  intro k st hw h1 h2;by_cases h:k<ts.length
  . have w:aD .i64 ((k:Int)+1)=((k+1:Nat):Int):=wrap64 (by omega) (by omega);have bV:Wf (af st (.cells ts[k].cells 0)):=bE hw;have hg:=Grew.af hw (.cells ts[k].cells 0);have hch:=acO hc ts[k] (cT _ (Zc2 h)) _ bV;have hco:=Ws hc (z&&(ts.map aG.cells).isEmpty) ((ts.map aG.cells).take k) (by simp[cL];omega) (λcs eZ=>by
          have:=List.mem_of_mem_take eZ;simp only[Zd8]at this;obtain⟨t,_,rfl⟩:=this;rfl) 197 [.ptr st.next 0] (iF ts ts[k].name) (af st (.cells ts[k].cells 0)) (λi hi=>by
          have zW:i<k:=(by simp at hi;omega);have hi3:i<ts.length:=(by omega);have:=Wr hc ts[i] ts[k] st.next (af st (.cells ts[k].cells 0)) bV (aE _ _);simp only[Zk3,Zk8];rw[this];simp[iF,hi3])
    have hlen:((ts.map aG.cells).take k).length=k:=(by simp;omega);rw[hlen]at hco;rw[sL,dx,H1 h];simp only;by_cases h3:q7 ts[k]=0
    .   by_cases h4:0<=scan (iF ts ts[k].name) k 0
        .refine⟨_,hg,?_⟩;have n9:k<=ts.length:=(by omega);simp only[tabs,List.isEmpty_map]at hco ⊢;simp[h,hch,h3,h4,n9,hco,aG.len]
        .obtain⟨st',g1,g2⟩:=ih (k+1) _ bV (by omega) (by omega);refine⟨st',hg.trans g1,?_⟩;have n9:k<=ts.length:=(by omega);have e3:¬q7 ts[k]≠0:=(by rw[h3];simp);simp only[e3,h4,Zd9];rw[<-g2];simp only[tabs,List.isEmpty_map]at hco ⊢;simp[h,hch,h3,h4,n9,hco,w,aG.len]
    .   refine⟨_,hg,?_⟩;simp[tabs,h,hch,h3,aG.len]
  .obtain rfl:k=ts.length:=(by omega);refine⟨st,Grew.refl hw,?_⟩;rw[sL];simp[dx,tabs]
theorem Og(hc:Sem c)(z:Bool)(ts:List aG)(cT:∀t∈ts,t.Ok)(st:St)(hw:Wf st):c 148 [tabs z ts] st=some (.tuple [.int .i64 (bn ts).1,.int .i64 (bn ts).2],st):=by
 have n8:Plain (.tuple [.int .i64 (bn ts).1,.int .i64 (bn ts).2]):=Plain.tuple (by simp[Plain.int]);by_cases h:16<ts.length
 .rw[Cl hc 20 (r:=(.tuple [.int .i64 (bn ts).1,.int .i64 (bn ts).2],st)),au n8 (aP.refl st)];rw[Fx];have hi:(16:Int)<ts.length:=(by omega);simp[tabs,bn,h,hi]
 . have hi:¬(16:Int)<ts.length:=(by omega);have e:bn ts=dx ts 19 0:=(by rw[bn,Za1 h];exact Jo ts _ _ 0 (by omega) (by omega));have hex:=λk1 k2=>Uf hc z ts cT (by omega) 20 k1 k2 19 0 st hw (by omega) (by omega)
   obtain⟨st',hg,L⟩:=hex (λvs s36=>eB vs λx2 vs=>eB vs λx3 vs=>gu vs (some (.tuple [x2,x3],s36))) (λvs s37=>gu vs (
     ai c .move [(.int .i64 0)] s37 λx2 s38=>ai c .move [(.int .i64 0)] s38 λx3 s39=>some (.tuple [x2,x3],s39)))
   rw[Cl hc 20 (r:=(.tuple [.int .i64 (bn ts).1,.int .i64 (bn ts).2],st')),au n8 hg.keeps];rw[Fx,e];simp only[tabs]at L;simp[tabs,hi]at L ⊢;rw[L];by_cases h2:(dx ts 19 0).2=0
   .have:=Jp ts 19 0 h2;simp[h2,this]
   .simp[h2]
def bP(ts:List aG):Int:=(ts.map cK).sum
theorem Jq(ts:List aG):0<=bP ts/\bP ts<=1000*ts.length:=by
 induction ts with
 |nil=>simp[bP]
 |cons t ts ih=>
  have:=zn t;simp only[bP,Zb8,List.sum_cons,Zd7]at ih ⊢;omega
theorem Jr(ts:List aG)(t:aG):bP (ts++[t])=bP ts+cK t:=by simp[bP]
def zo(ts:List aG)(t:Int):Int:=if t<0\/(ts.length:Int)<=t\/(bn ts).2≠0 then 0 else bP (ts.take t.toNat)
theorem Pa(hc:Sem c)(z:Bool)(ts:List aG)(cT:∀t∈ts,t.Ok)(st:St)(hw:Wf st):c 116 [tabs z ts] st=some (.bool (decide ((bn ts).2=0)),st):=by
 rw[RT hc 1 (r:=(.bool (decide ((bn ts).2=0)),st)),au (Plain.bool _) (aP.refl st)];rw[Wb];simp[Og hc z ts cT st hw]
theorem Ts{ts:List aG}(h:(bn ts).2=0):ts.length<=16:=by
 unfold bn at h;split at h
 .simp at h
 .omega
theorem ZT(hc:Sem c)(z:Bool)(ts:List aG)(hl:ts.length<=16)(F:Nat)(k2):∀(m k:Nat)(st:St),Wf st->ts.length<=k+m->k<=ts.length->
  ∃st',Grew st st'/\qB c F k2 (m+1) [.int .i64 (bP (ts.take k)),tabs z ts,.int .i64 (ts.length:Int),.int .i64 (k:Int)] st=k2 [.int .i64 (bP ts)] st':=by
 intro m;induction m with
 |zero=>
  intro k st hw h1 h2;obtain rfl:k=ts.length:=by omega
  refine⟨st,Grew.refl hw,?_⟩;rw[yN];simp
 |succ m ih=>
  intro k st hw h1 h2;by_cases h:k<ts.length
  . have w:aD .i64 ((k:Int)+1)=((k+1:Nat):Int):=wrap64 (by omega) (by omega);have bV:Wf (af st (.cells ts[k].cells 0)):=bE hw;have hg:=Grew.af hw (.cells ts[k].cells 0);have hs:=R6 hc ts[k] _ bV;have e:bP (ts.take (k+1))=bP (ts.take k)+cK ts[k]:=by
        rw[Zb4 h,Jr]
    have b1:=Jq (ts.take k);have b2:=zn ts[k];have b3:(ts.take k).length<=16:=(by simp;omega);have w2:aD .i64 (bP (ts.take k)+cK ts[k])=bP (ts.take (k+1)):=(by rw[e];exact wrap64 (by omega) (by omega));obtain⟨st',g1,g2⟩:=ih (k+1) _ bV (by omega) (by omega);refine⟨st',hg.trans g1,?_⟩;rw[<-g2,yN];simp[tabs,h,hs,w,w2,aG.len]
  .obtain rfl:k=ts.length:=(by omega);refine⟨st,Grew.refl hw,?_⟩;rw[yN];simp
theorem acQ(hc:Sem c)(z:Bool)(ts:List aG)(cT:∀t∈ts,t.Ok)(k:Int)(st:St)(hw:Wf st):c 86 [tabs z ts,.int .i64 k] st=some (.int .i64 (zo ts k),st):=by
 have lT:∀(K:AV->St->Option (AV×St))(s:St),ai c (.lenB .l) [tabs z ts] s K=K (.int .i64 (ts.length:Int)) s:=λK s=>by unfold tabs;rw[bX];simp
 have hv:=Pa hc z ts cT st hw;by_cases h:k<0\/(ts.length:Int)<=k\/(bn ts).2≠0
 . have e:zo ts k=0:=(by rw[zo,Za2 h]);rw[Hu hc 1 (r:=(.int .i64 (zo ts k),st)),au (Plain.int _ _) (aP.refl st)];rw[LF,e];by_cases h1:k<0
   .simp[h1]
   . by_cases h2:(ts.length:Int)<=k
     .  simp[h1,h2,lT]
     .  have h3:(bn ts).2≠0:=h.resolve_left h1 |>.resolve_left h2;simp[h1,h2,h3,lT,hv]
 . have e:zo ts k=bP (ts.take k.toNat):=(by rw[zo,Za1 h]);have h1:¬k<0:=λe=>h (.inl e)
   have h2:¬(ts.length:Int)<=k:=λe=>h (.inr (.inl e))
   have h3:(bn ts).2=0:=Zh1 λe=>h (.inr (.inr e))
   have hl:=Ts h3;obtain⟨n,rfl⟩:∃n:Nat,k=(n:Int):=⟨k.toNat,by omega⟩
   have hn:n<=ts.length:=(by omega);have hex:=λk2=>ZT hc (z&&ts.isEmpty) (ts.take n) (by simp;omega) 20 k2 19 0 st hw (by simp;omega) (by omega)
   obtain⟨st',hg,L⟩:=hex (λvs Wt=>eB vs λx5 vs=>gu vs (ai c .move [x5] Wt λx34 Wu=>ai c .move [x34] Wu λx4 Wv=>some (x4,Wv)));rw[Hu hc 20 (r:=(.int .i64 (zo ts (n:Int)),st')),au (Plain.int _ _) hg.keeps];rw[LF,e];have h4:¬ts.length<=n:=(by omega);have hm:min n ts.length=n:=(by omega);simp[tabs,bP,hm]at L;simp[h1,h4,h3,lT,hv];simp[tabs,hn,hm,bP,L]
theorem XL(hc:Sem c)(z:Bool)(ts:List aG)(hl:ts.length<=16)(st:St)(hw:Wf st):c 117 [tabs z ts] st=some (.int .i64 (if h:0<ts.length then cK (ts[ts.length - 1]'(by omega))else 0),st):=by
 rw[Nw hc 1 (r:=(.int .i64 (if h:0<ts.length then cK (ts[ts.length - 1]'(by omega))else 0),st)),au (Plain.int _ _) (aP.refl st)];rw[QG];by_cases h:0<ts.length
 . have h1:¬(ts.length:Int)=0:=(by omega);have h2:ts≠[]:=λe=>by subst e;simp at h
   have w:aD .i64 ((ts.length:Int) - 1)=((ts.length - 1:Nat):Int):=(by rw[wrap64 (by omega) (by omega)];omega);have h3:ts.length - 1<ts.length:=(by omega);have hs:=R6 hc (ts[ts.length - 1]'(by omega)) st hw;simp[tabs,h,h1,h2,w,h3,hs]
 .have h1:ts=[]:=Za8 (by omega);subst h1;simp[tabs]
theorem abb{ts:List aG}(hv:(bn ts).2=0):zo ts ((ts.length:Int) - 1)+(if h:0<ts.length then cK (ts[ts.length - 1]'(by omega))else 0)=bP ts:=by
 by_cases h:0<ts.length
 .rw[dif_pos h,zo,Za1 (by simp[hv];omega)];have e:((ts.length:Int) - 1).toNat=ts.length - 1:=(by omega);rw[e, <-Jr, <-Zb4 (by omega)];rw[show ts.length - 1+1=ts.length by omega,Zk7]
 .have h1:ts=[]:=Za8 (by omega);subst h1;simp[zo,bP]
theorem Au(hc:Sem c)(z:Bool)(ts:List aG)(cT:∀t∈ts,t.Ok)(st:St)(hw:Wf st):c 72 [tabs z ts] st=some (.int .i64 (if(bn ts).2=0 then bP ts else 0),st):=by
 rw[RS hc 1 (r:=(.int .i64 (if(bn ts).2=0 then bP ts else 0),st)),au (Plain.int _ _) (aP.refl st)];rw[Wa];have lT:∀(K:AV->St->Option (AV×St))(s:St),ai c (.lenB .l) [tabs z ts] s K=K (.int .i64 (ts.length:Int)) s:=λK s=>by unfold tabs;rw[bX];simp
 have hv:=Pa hc z ts cT st hw;by_cases h:(bn ts).2=0
 .have hl:=Ts h;have w:aD .i64 ((ts.length:Int) - 1)=(ts.length:Int) - 1:=wrap64 (by omega) (by omega);have hf:=acQ hc z ts cT ((ts.length:Int) - 1) st hw;have z9:=XL hc z ts hl st hw;have b:=Jq ts;have e:=abb h;rw[Za2 h, <-e];rw[<-e]at b;generalize zo ts ((ts.length:Int) - 1)=x at hf b ⊢;generalize (if h:0<ts.length then cK (ts[ts.length - 1]'(by omega))else 0)=y at z9 b ⊢;have w2:aD .i64 (x+y)=x+y:=wrap64 (by omega) (by omega);simp[hv,h,lT,w,hf,z9,w2]
 .simp[hv,h]
theorem ael(hc:Sem c)(z:Bool)(ts:List aG)(cT:∀t∈ts,t.Ok)(hl:ts.length<cL)(s:List Nat)(st:St)(hw:Wf st):c 172 [tabs z ts,.str s] st=
   some (.tuple [.int .i64 (if 0<=scan (iF ts s) ts.length 0/\(bn ts).2=0 then scan (iF ts s) ts.length 0 else 0),.bool (decide (0<=scan (iF ts s) ts.length 0/\(bn ts).2=0))],st):=by
 rw[Ua hc 1 (r:=(.tuple [.int .i64 (if 0<=scan (iF ts s) ts.length 0/\(bn ts).2=0 then scan (iF ts s) ts.length 0 else 0),.bool (decide (0<=scan (iF ts s) ts.length 0/\(bn ts).2=0))],af st (.cells [.str s] 0))),
   au (Plain.tuple (by simp[Plain.int,Plain.bool])) (bt hw)]
 rw[XG];have bV:Wf (af st (.cells [.str s] 0)):=bE hw;have hi:=YE hc z (ts.map aG.cells) (by simpa using hl) (λcs eZ=>by
     simp only[Zd8]at eZ;obtain⟨t,_,rfl⟩:=eZ;rfl) 216 [.ptr st.next 0] (iF ts s) (af st (.cells [.str s] 0)) (λi hi=>by
     have hi3:i<ts.length:=(by simpa using hi);have:=acP hc ts[i] s st.next (af st (.cells [.str s] 0)) bV (aE _ _);simp only[Zk8];rw[this];simp[iF,hi3])
 rw[Zb0]at hi;have hv:=Pa hc z ts cT _ bV;simp only[tabs]at hv ⊢;have e:(AV.str s).cells=[.str s]:=rfl;by_cases h1:0<=scan (iF ts s) ts.length 0
 . have h2:¬scan (iF ts s) ts.length 0<0:=(by omega);by_cases h3:(bn ts).2=0
   .simp[e,hi,h1,h2,h3,hv]
   .simp[e,hi,h1,h2,h3,hv]
 .have h2:scan (iF ts s) ts.length 0<0:=(by omega);simp[e,hi,h1,h2]
structure aL where
 name:List Nat
 l7:List Nat
 jB:List Nat
 since:Int
 side:Int
 l8:List Nat
 host:Bool
 access:Bool
 tz:Bool
 tg:List (List Nat)
def ee(z:Bool)(l:List (List Nat)):AV:=ro 1 z (l.map λs=>[.str s])
def aL.cells(g:aL):List AV:=[.str g.name,.str g.l7,.str g.jB,.int .i64 g.since,.int .i64 g.side,.str g.l8,.bool g.host,.bool g.access,ee g.tz g.tg]
@[simp] theorem acR(z:Bool)(l:List (List Nat)):(ee z l).one=true:=aaT _ _ _
@[simp] theorem agK{R:Type}(c:ah)(K:AV->St->Option R)(st:St)(z:Bool)(l:List (List Nat)):ai c (.lenB .l) [ee z l] st K=K (.int .i64 (l.length:Int)) st:=by unfold ee;rw[bX];simp
@[simp] theorem agL{R:Type}(c:ah)(K:AV->St->Option R)(st:St)(z:Bool)(l:List Int):ai c (.lenB .l) [ints z l] st K=K (.int .i64 (l.length:Int)) st:=by unfold ints;rw[bX];simp
@[simp] theorem aL.c0(t:aL):t.cells[0]? =some (.str t.name):=id rfl
@[simp] theorem aL.c1(t:aL):t.cells[1]? =some (.str t.l7):=id rfl
@[simp] theorem aL.c2(t:aL):t.cells[2]? =some (.str t.jB):=id rfl
@[simp] theorem aL.c3(t:aL):t.cells[3]? =some (.int .i64 t.since):=id rfl
@[simp] theorem aL.c4(t:aL):t.cells[4]? =some (.int .i64 t.side):=id rfl
@[simp] theorem aL.c5(t:aL):t.cells[5]? =some (.str t.l8):=id rfl
@[simp] theorem aL.c6(t:aL):t.cells[6]? =some (.bool t.host):=id rfl
@[simp] theorem aL.c7(t:aL):t.cells[7]? =some (.bool t.access):=id rfl
@[simp] theorem aL.c8(t:aL):t.cells[8]? =some (ee t.tz t.tg):=id rfl
@[simp] theorem aL.cc(t:aL):cut t.cells 0 9=some t.cells:=bK rfl
theorem aL.len(t:aL):t.cells.length=9:=id rfl
@[simp] theorem aL.one(t:aL):aZ t.cells=true:=by unfold aL.cells;simp only[aZ,acR];rfl
def bk(z:Bool)(gs:List aL):AV:=ro 9 z (gs.map aL.cells)
@[simp] theorem acS{R:Type}(c:ah)(K:AV->St->Option R)(st:St)(z:Bool)(l:List aL):ai c (.lenB .l) [bk z l] st K=K (.int .i64 (l.length:Int)) st:=by unfold bk;rw[bX];simp
def aft(last:Option (List Nat))(s:List Nat):Bool:=match last with
 |none=>true
 |some p=>aA p s
@[simp] theorem Ww(s:List Nat):aft none s=true:=id rfl
@[simp] theorem Wx(p s:List Nat):aft (some p) s=aA p s:=id rfl
def Cm(last:Option (List Nat)):List (List Nat)->Bool
 |[]=>true
 |s::l=>eC s&&aft last s&&Cm (some s) l
theorem Wy(last:Option (List Nat))(s:List Nat)(l:List (List Nat)):Cm last (s::l)=(eC s&&aft last s&&Cm (some s) l):=rfl
def fj(g:aL):Int:=
 if(eC g.name&&lB g.l7&&lB g.jB&&lB g.l8)=false then 4 else if ¬(0<=g.since/\g.since<=9999)then 21 else if ¬(0<=g.side/\g.side<=2)then 20
 else if 4<g.tg.length then 22 else if Cm none g.tg=false then 22 else 0
theorem sQ:∀(a:List Nat),aA a a=false
 |[]=>rfl
 |x::a=>by
  unfold aA;simp[Cw,dK,sQ a]
theorem FD:∀(a b:List Nat),aA a b=true->aA b a=false
 |[],[],h=>by simp[aA]at h
 |[],_::_,_=>rfl
 |_::_,[],h=>by simp[aA]at h
 |x ::a,y::b,h=>by
  unfold aA at h ⊢;simp only[Cw,dK]at h ⊢;by_cases h1:x<y
  .have:¬y<x:=(by omega);have h3:¬y=x:=(by omega);simp[this,h3]
  . by_cases h2:x=y
    .subst h2;simp at h ⊢; exact FD a b h
    .simp[h1,h2]at h
theorem zp:∀(a b:List Nat),aA a b=false->aA b a=false->a=b
 |[],[],_,_=>rfl
 |[],_::_,h,_=>by simp[aA]at h
 |_::_,[],_,h=>by simp[aA]at h
 |x ::a,y::b,h,k=>by
  unfold aA at h k;simp only[Cw,dK]at h k;by_cases h1:x<y
  .simp[h1]at h
  . by_cases h2:y<x
    .   simp[h2]at k
    .   have:x=y:=(by omega);subst this;simp at h k;rw[zp a b h k]
theorem Js:∀(a b d:List Nat),aA a b=true->aA b d=true->aA a d=true
 |_,[],[],_,h=>by simp[aA]at h
 |_,_::_,[],_,h=>by simp[aA]at h
 |[],_,_::_,_,_=>rfl
 |_::_,[],_::_,h,_=>by simp[aA]at h
 |x ::a   ,y::b,z::d,h,k=>by
  unfold aA at h k ⊢;simp only[Cw,dK]at h k ⊢;by_cases h1:x<y
  . by_cases h2:y<z
    .   have:x<z:=(by omega);simp[this]
    .   by_cases h3:y=z
        .subst h3;simp[h1]
        .simp[h2,h3]at k
  . by_cases h2:x=y
    .   subst h2;simp at h;by_cases h4:x<z
        .simp[h4]
        . by_cases h5:x=z
          .subst h5;simp at k ⊢; exact Js a b d h k
          .simp[h4,h5]at k
    .   simp[h1,h2]at h
theorem Pb(hc:Sem c)(p:Pos)(g:aL)(hl:g.tg.length<=4)(F:Nat)(st:St)(hp:st.heap.get p=some (.cells g.cells 0))(k1 k3):∀(m k:Nat),g.tg.length<=k+m->k<=g.tg.length->
  kR c F k1 k3 (m+1) [.ptr p 0,ee g.tz g.tg,.int .i64 (g.tg.length:Int),.int .i64 (k:Int)] st=if Cm (if k=0 then none else g.tg[k - 1]?) (g.tg.drop k)=true then k3 [] st else k1 [.int .i64 22] st:=by
 intro m;induction m with
 |zero=>
  intro k h1 h2;rw[DO];obtain rfl:k=g.tg.length:=by omega
  simp[Cm]
 |succ m ih=>
  intro k h1 h2;rw[DO];by_cases h:k<g.tg.length
  . have e:g.tg.drop k=g.tg[k]::g.tg.drop (k+1):=Za7 h;have w:aD .i64 ((k:Int)+1)=((k+1:Nat):Int):=wrap64 (by omega) (by omega);have hn:=BJ hc g.tg[k] st;have:=ih (k+1) (by omega) (by omega);have e2:(if k+1=0 then none else g.tg[k+1 - 1]?)=some g.tg[k]:=(by rw[Za1 (by omega),Ze2,H1 h]);rw[e2]at this;rw[e,Wy];generalize Cm (some g.tg[k]) (g.tg.drop (k+1))=rest at this ⊢;by_cases h3:eC g.tg[k]=true
    .   by_cases h0:k=0
        .have hk:¬0<k:=(by omega);simp only[h3,Za2 h0,Ze1,Ww];rw[<-this];simp[ee,h,hn,h3,hk,w]
        . have hk:0<k:=(by omega);have oB:k - 1<g.tg.length:=(by omega);have wk:aD .i64 ((k:Int) - 1)=((k - 1:Nat):Int):=(by rw[wrap64 (by omega) (by omega)];omega);simp only[h3,Za1 h0,H1 oB,Ze1,Wx];cases hb:aA g.tg[k - 1] g.tg[k]
          .simp[ee,h,hn,h3,hk,oB,wk,hp,hb]
          .simp only[Ze1];rw[<-this];simp[ee,h,hn,h3,hk,oB,wk,hp,hb,w]
    .   simp[ee,h,hn,h3]
  .obtain rfl:k=g.tg.length:=(by omega);simp[Cm]
theorem Sb(hc:Sem c)(g:aL)(st:St)(hw:Wf st):c 298 [.agg g.cells] st=some (.int .i64 (fj g),st):=by
 rw[QN hc 6 (r:=(.int .i64 (fj g),af st (.cells g.cells 0))),au (Plain.int _ _) (bt hw)];rw[T7];have n0:=BJ hc g.name;have n1:=BK hc g.l7;have n2:=BK hc g.jB;have n5:=BK hc g.l8;by_cases hn:(eC g.name&&lB g.l7&&lB g.jB&&lB g.l8)=true
 . have Wz:=hn;simp only[Za6]at Wz;obtain⟨⟨⟨b0,b1⟩,b2⟩,b5⟩:=Wz;unfold fj;rw[hn];by_cases h1:g.since<0
   .have:¬(0<=g.since/\g.since<=9999):=(by omega);simp[n0,n1,n2,n5,b0,b1,b2,b5,h1,this]
   by_cases h2:9999<g.since
   .have:¬(0<=g.since/\g.since<=9999):=(by omega);simp[n0,n1,n2,n5,b0,b1,b2,b5,h1,h2,this]
   have h3:0<=g.since/\g.since<=9999:=(by omega);by_cases h4:g.side<0
   .have:¬(0<=g.side/\g.side<=2):=(by omega);simp[n0,n1,n2,n5,b0,b1,b2,b5,h1,h2,h3,h4,this]
   by_cases h5:2<g.side
   .have:¬(0<=g.side/\g.side<=2):=(by omega);simp[n0,n1,n2,n5,b0,b1,b2,b5,h1,h2,h3,h4,h5,this]
   have h6:0<=g.side/\g.side<=2:=(by omega);by_cases h7:4<g.tg.length
   .have h8:(4:Int)<g.tg.length:=(by omega);simp[n0,n1,n2,n5,b0,b1,b2,b5,h1,h2,h3,h4,h5,h6,h7,h8]
   . have h8:¬(4:Int)<g.tg.length:=(by omega);have L:∀k1 k3,kR c 6 k1 k3 6 [.ptr st.next 0,ee g.tz g.tg,.int .i64 (g.tg.length:Int),.int .i64 0] (af st (.cells g.cells 0))=if Cm none (g.tg.drop 0)=true then k3 [] (af st (.cells g.cells 0))else k1 [.int .i64 22] (af st (.cells g.cells 0)):=
        λk1 k3=>Pb hc st.next g (by omega) 6 _ (aE _ _) k1 k3 5 0 (by omega) (by omega)
     rw[Zb7]at L;generalize Cm none g.tg=b at L ⊢;cases b<;>simp[n0,n1,n2,n5,b0,b1,b2,b5,h1,h2,h3,h4,h5,h6,h7,h8,L]
 . have Vr:(eC g.name&&lB g.l7&&lB g.jB&&lB g.l8)=false:=(by simpa using hn);have hx:fj g=4:=(by unfold fj;rw[Vr];simp);rw[hx];cases b0:eC g.name
   .simp[n0,b0]
   . cases b1:lB g.l7
     .  simp[n0,n1,b0,b1]
     .  cases b2:lB g.jB
        .simp[n0,n1,n2,b0,b1,b2]
        . cases b5:lB g.l8
          .simp[n0,n1,n2,n5,b0,b1,b2,b5]
          .simp[b0,b1,b2,b5]at hn
theorem Sc (hc:Sem c)(p:Pos)(g:aL)(hl:g.tg.length<=4)(F:Nat)(st:St)(hp:st.heap.get p=some (.cells g.cells 0))(k1 k2):∀(m k:Nat),g.tg.length<=k+m->k<=g.tg.length->
  fM c F k1 k2 (m+1) [.ptr p 0,.int .i64 (k:Int)] st=if Cm (if k=0 then none else g.tg[k - 1]?) (g.tg.drop k)=true then k2 [] st else k1 [.int .i64 22] st:=by
 intro m;induction m with
 |zero=>
  intro k h1 h2;rw[um];obtain rfl:k=g.tg.length:=by omega
  simp[Cm,hp]
 |succ m ih   =>
  intro k h1 h2;rw[um];by_cases h:k<g.tg.length
  . have e:g.tg.drop k=g.tg[k]::g.tg.drop (k+1):=Za7 h;have w:aD .i64 ((k:Int)+1)=((k+1:Nat):Int):=wrap64 (by omega) (by omega);have hn:=CQ hc g.tg[k] st;have:=ih (k+1) (by omega) (by omega);have e2:(if k+1=0 then none else g.tg[k+1 - 1]?)=some g.tg[k]:=(by rw[Za1 (by omega),Ze2,H1 h]);rw[e2]at this;rw[e,Wy];generalize Cm (some g.tg[k]) (g.tg.drop (k+1))=rest at this ⊢;by_cases h3:eC g.tg[k]=true
    .   by_cases h0:k=0
        .have hk:¬0<k:=(by omega);simp only[h3,Za2 h0,Ze1,Ww];rw[<-this];simp[ee,hp,h,hn,h3,hk,w]
        . have hk:0<k:=(by omega);have oB:k - 1<g.tg.length:=(by omega);have wk:aD .i64 ((k:Int) - 1)=((k - 1:Nat):Int):=(by rw[wrap64 (by omega) (by omega)];omega);simp only[h3,Za1 h0,H1 oB,Ze1,Wx];have ho:(aA g.tg[k] g.tg[k - 1]||decide (g.tg[k]=g.tg[k - 1]))= !aA g.tg[k - 1] g.tg[k]:=by
            cases h5:aA g.tg[k - 1] g.tg[k]
            . cases h6:aA g.tg[k] g.tg[k - 1]
              .simp[zp _ _ h6 h5]
              .rfl
            . (rw[FD _ _ h5];have:g.tg[k]≠g.tg[k - 1]:=λe=>by rw[e,sQ]at h5;cases h5);simp[this]
          cases hb:aA g.tg[k - 1] g.tg[k]
          .rw[hb]at ho;simp[ee,hp,h,hn,h3,hk,oB,wk,ho]
          .rw[hb]at ho;simp only[Ze1];rw[<-this];simp[ee,hp,h,hn,h3,hk,oB,wk,ho,w]
    .   simp[ee,hp,h,hn,h3]
  .obtain rfl:k=g.tg.length:=(by omega);simp[Cm,hp]
theorem WA(hc:Sem c)(g:aL)(st:St)(hw:Wf st):c 190 [.agg g.cells] st=some (.int .i64 (fj g),st):=by
 rw[Gj hc 6 (r:=(.int .i64 (fj g),af st (.cells g.cells 0))),au (Plain.int _ _) (bt hw)];rw[Jd];have n0:=CQ hc g.name;have n1:=CQ hc g.l7;have n2:=CQ hc g.jB;have n5:=CQ hc g.l8;have en:eC []=false:=rfl;by_cases hn:(eC g.name&&lB g.l7&&lB g.jB&&lB g.l8)=true
 . have Wz:=hn;simp only[Za6,lB,Zg9,Zc8]at Wz;obtain⟨⟨⟨b0,b1⟩,b2⟩,b5⟩:=Wz;unfold fj;rw[hn];have hor:∀r:List Nat,r=[]\/eC r=true->(r=[]\/(¬r=[]/\eC r=true)):=λr h=>by
     by_cases e:r=[]
     .  exact .inl e
     .  exact .inr ⟨e,h.resolve_left e⟩
   have d1:=hor _ b1;have d2:=hor _ b2;have d5:=hor _ b5;by_cases h1:g.since<0
   .have:¬(0<=g.since/\g.since<=9999):=(by omega);rcases d1 with e1|⟨e1,f1⟩<;>rcases d2 with e2|⟨e2,f2⟩<;>rcases d5 with e5|⟨e5,f5⟩<;>simp[*]
   by_cases h2:9999<g.since
   .have:¬(0<=g.since/\g.since<=9999):=(by omega);rcases d1 with e1|⟨e1,f1⟩<;>rcases d2 with e2|⟨e2,f2⟩<;>rcases d5 with e5|⟨e5,f5⟩<;>simp[*]
   have h3:0<=g.since/\g.since<=9999:=(by omega);clear b1 b2 b5 hn hor;by_cases h6:0<=g.side/\g.side<=2
   . have h7:g.side=0\/g.side=1\/g.side=2:=(by omega);by_cases h8:4<g.tg.length
     .  have h9:(4:Int)<g.tg.length:=(by omega);rcases h7 with h7|h7|h7<;>rcases d1 with e1|⟨e1,f1⟩<;>rcases d2 with e2|⟨e2,f2⟩<;>rcases d5 with e5|⟨e5,f5⟩<;>simp[n0,n1,n2,n5,en,b0, *]
     .  have h9:¬(4:Int)<g.tg.length:=(by omega);have L:∀k1 k3,fM c 6 k1 k3 6 [.ptr st.next 0,.int .i64 0] (af st (.cells g.cells 0))=if Cm none (g.tg.drop 0)=true then k3 [] (af st (.cells g.cells 0))else k1 [.int .i64 22] (af st (.cells g.cells 0)):=
          λk1 k3=>Sc hc st.next g (by omega) 6 _ (aE _ _) k1 k3 5 0 (by omega) (by omega)
        rw[Zb7]at L;generalize Cm none g.tg=b at L ⊢;rcases h7 with h7|h7|h7<;>cases b<;>rcases d1 with e1|⟨e1,f1⟩<;>rcases d2 with e2|⟨e2,f2⟩<;>rcases d5 with e5|⟨e5,f5⟩<;>simp[n0,n1,n2,n5,en,b0, *]
   .have g0:¬g.side=0:=(by omega);have g1:¬g.side=1:=(by omega);have g2:¬g.side=2:=(by omega);rcases d1 with e1|⟨e1,f1⟩<;>rcases d2 with e2|⟨e2,f2⟩<;>rcases d5 with e5|⟨e5,f5⟩<;>simp[n0,n1,n2,n5,en,b0, *]
 . have Vr  :(eC g.name&&lB g.l7&&lB g.jB&&lB g.l8)=false:=(by simpa using hn);have hx:fj g=4:=(by unfold fj;rw[Vr];simp);rw[hx];have hsm:∀r:List Nat,lB r=false->¬r=[]/\eC r=false:=λr h=>by simpa [lB]using h
   have yp:∀r:List Nat,lB r=true->(r=[]\/(¬r=[]/\eC r=true)):=λr h=>by
     by_cases e:r=[]
     .  exact .inl e
     .  right;simp[lB,e]at h;exact⟨e,h⟩
   cases b0:eC g.name
   .simp[n0,b0]
   . cases  b1:lB g.l7
     .  obtain⟨q1,q2⟩:=hsm _ b1;simp[n0,n1,b0,q1,q2]
     .  have d1:=yp _ b1;cases b2:lB g.jB
        .obtain⟨q1,q2⟩:=hsm _ b2;rcases d1 with e1|⟨e1,f1⟩<;>simp[n0,n1,n2,b0, *]
        . have d2:=yp _ b2;cases b5:lB g.l8
          .obtain⟨q1,q2⟩:=hsm _ b5;rcases d1 with e1|⟨e1,f1⟩<;>rcases d2 with e2|⟨e2,f2⟩<;>simp[n0,n1,n2,n5,b0, *]
          .simp[b0,b1,b2,b5]at hn
structure Ty where
 a:List Nat
 b:List Nat
 k:Int
def Ty.cells(t:Ty):List AV:=[.str t.a,.str t.b,.int .u8 t.k]
@[simp] theorem Ty.c0(t:Ty):t.cells[0]? =some (.str t.a):=id rfl
@[simp] theorem Ty.c1(t:Ty):t.cells[1]? =some (.str t.b):=id rfl
@[simp] theorem Ty.c2(t:Ty):t.cells[2]? =some (.int .u8 t.k):=id rfl
@[simp] theorem Ty.cc(t:Ty):cut t.cells 0 3=some t.cells:=bK rfl
theorem Ty.len(t:Ty):t.cells.length=3:=id rfl
@[simp] theorem Ty.one(t:Ty):aZ t.cells=true:=id rfl
@[simp] theorem afE{R:Type}(c:ah)(K:AV->St->Option R)(st:St)(t:Ty)(x y z:AV):ai c (.store 3) [.ptr st.next 0,.agg t.cells] (af st (.cells [x,y,z] 0)) K=K .undef (af st (.cells t.cells 0)):=dR c K st 3 (.agg t.cells) [x,y,z] rfl rfl t.one
def cj(z:Bool)(ts:List Ty):AV:=ro 3 z (ts.map Ty.cells)
@[simp] theorem acT{R:Type}(c:ah)(K:AV->St->Option R)(st:St)(z:Bool)(l:List Ty):ai c (.lenB .l) [cj z l] st K=K (.int .i64 (l.length:Int)) st:=by unfold cj;rw[bX];simp
def gV(gs:List aL)(s:List Nat)(i:Nat):Bool:=decide (gs[i]?.map aL.name=some s)
theorem aem(z:Bool)(gs:List aL)(s:List Nat)(hl:gs.length<cL)(F:Nat)(st:St)(k1 k2):∀(m k:Nat),gs.length<=k+m->k<=gs.length->
  iD c F k1 k2 (m+1) [bk z gs,.str s,.int .i64 (k:Int)] st=if 0<=scan (gV gs s) (gs.length - k) k then k1 [.int .i64 (scan (gV gs s) (gs.length - k) k)] st else k2 [] st:=by
 intro m;induction m with
 |zero=>
  intro k h1 h2;obtain rfl:k=gs.length:=by omega
  rw[yV];simp[scan]
 |succ m ih=>
  intro k h1 h2;rw[yV];by_cases h:k<gs.length
  . have e:gs.length - k=(gs.length - (k+1))+1:=(by omega);have w:aD .i64 ((k:Int)+1)=((k+1:Nat):Int):=wrap64 (by omega) (by unfold cL at hl;omega);rw[e,scan];by_cases h3:gs[k].name=s
    .   have:gV gs s k=true:=(by simp[gV,h,h3]);simp only[this,Zf0];simp[bk,h,h3]
    .   have:gV gs s k=false:=(by simp[gV,h,h3]);simp only[this,Zd5,Zd9];rw[<-ih (k+1) (by omega) (by omega)];simp[bk,h,h3,w]
  .obtain rfl:k=gs.length:=(by omega);simp[scan]
theorem QW(hc:Sem c)(z:Bool)(gs:List aL)(s:List Nat)(hl:gs.length<cL)(st:St):c 143 [bk z gs,.str s] st=some (.int .i64 (scan (gV gs s) gs.length 0),st):=by
 rw[Kr hc (gs.length+1) (r:=(.int .i64 (scan (gV gs s) gs.length 0),st)),au (Plain.int _ _) (aP.refl st)];rw[Nn];have L:∀k1 k2,iD c (gs.length+1) k1 k2 (gs.length+1) [bk z gs,.str s,.int .i64 0] st=if 0<=scan (gV gs s) (gs.length - 0) 0 then k1 [.int .i64 (scan (gV gs s) (gs.length - 0) 0)] st else k2 [] st:=
   λk1 k2=>aem z gs s hl _ st k1 k2 gs.length 0 (by omega) (by omega)
 rw[Zl5]at L;by_cases h:0<=scan (gV gs s) gs.length 0
 .simp[L,h]
 .have:=(Hy (gV gs s) gs.length 0).2 (by omega);simp[L,this]
def eg(s t:Ty):Bool:=aA s.a t.a||(decide (s.a=t.a)&&aA s.b t.b)
theorem Tt(hc:Sem c)(s t:Ty)(st:St)(hw:Wf st):c 191 [.agg s.cells,.agg t.cells] st=some (.bool (eg s t),st):=by
 rw[EA hc 1 (r:=(.bool (eg s t),af (af st (.cells s.cells 0)) (.cells t.cells 0))),au (Plain.bool _) ((bt hw).trans (bt (bE hw)))];rw[Hp];by_cases h2:s.a=t.a
 .simp[eg,h2,sQ]
 .cases h1:aA s.a t.a<;>simp[eg,h1,h2]
def zq(a b:List Nat):Int:=if aA a b=true then -1 else if aA b a=true then 1 else 0
theorem afg(hc:Sem c)(a b:List Nat)(st:St):c 327 [.str a,.str b] st=some (.int .i64 (zq a b),st):=by unfold Sem at hc;subst hc;refine Qh (s:=KE) (by rfl) ?_;show some (AV.int .i64 (match aA a b with|true=>.negSucc 0|false=>match aA b a with|true=>.ofNat 1|false=>.ofNat 0),st)=_;unfold zq;generalize aA a b=p;generalize aA b a=q;cases p<;>cases q<;>rfl
theorem Pc(hc:Sem c)(a b:List Nat)(st:St):c 320 [.str a,.str b] st=some (.int .i64 (zq a b),st):=by
 rw[Cz hc 1 (r:=(.int .i64 (zq a b),st)),au (Plain.int _ _) (aP.refl st)];rw[Ew];simp[afg hc]
theorem QX(hc:Sem c)(a b:List Nat)(st:St):c 300 [.str a,.str b] st=some (.int .i64 (zq a b),st):=by
 rw[Kz hc 1 (r:=(.int .i64 (zq a b),st)),au (Plain.int _ _) (aP.refl st)];rw[Nv];simp[Pc hc]
theorem YF{a b:List Nat}:zq a b=0↔a=b:=by
 unfold zq;cases h1:aA a b
 . cases h2:aA b a
   .simp;exact zp _ _ h1 h2
   .simp;intro e;subst e;rw[sQ]at h2;cases h2
 .simp;intro e;subst e;rw[sQ]at h1;cases h1
def oC(s t:Ty):Int:=if s.a=t.a then zq s.b t.b else zq s.a t.a
theorem DT(hc:Sem c)(s t:Ty)(st:St)(hw:Wf st):c 258 [.agg s.cells,.agg t.cells] st=some (.int .i64 (oC s t),st):=by
 rw[QM hc 1 (r:=(.int .i64 (oC s t),af (af st (.cells s.cells 0)) (.cells t.cells 0))),au (Plain.int _ _) ((bt hw).trans (bt (bE hw)))];rw[T6];by_cases h:s.a=t.a
 .have:zq t.a t.a=0:=YF.2 rfl;simp[oC,QX hc,h,this]
 . have:¬zq s.a t.a=0:=λe=>h (YF.1 e)
   simp[oC,QX hc,h,this]
theorem Sd{s t:Ty}:oC s t<0↔eg s t=true:=by
 unfold oC eg zq;by_cases h:s.a=t.a
 .simp only[h,sQ,Zf0];cases aA s.b t.b<;>cases aA t.b s.b<;>simp
 .simp only[h,Zd9];cases aA s.a t.a<;>cases aA t.a s.a<;>simp
theorem Nj{s t:Ty}:0<oC s t↔eg t s=true:=by
 unfold oC eg zq;by_cases h:s.a=t.a
 . simp only[h,sQ,Zf0];cases h1:aA s.b t.b
   .cases aA t.b s.b<;>simp
   .simp[FD _ _ h1]
 . have h':¬t.a=s.a:=λe=>h e.symm
   simp only[h,h',Zd9];cases h1:aA s.a t.a
   .cases aA t.a s.a<;>simp
   .simp[FD _ _ h1]
theorem YG(hc:Sem c)(a b:List Nat)(k:Int)(aK:aA a b=true)(st:St)(hw:Wf st):c 303 [.str a,.str b,.int .u8 k] st=some (.agg (Ty.cells ⟨a,b,k⟩),st):=by
 rw[RZ hc 1 (r:=(.agg (Ty.cells ⟨a,b,k⟩),af st (.cells (Ty.cells ⟨a,b,k⟩) 0))),au (Plain.agg (by simp[Ty.cells,Plain.str,Plain.int])) (bt hw)];rw[Wi];have m1:∀(K:AV->St->Option (AV×St))(s:St),ai c .minB [.str a,.str b] s K=K (.str a) s:=λK s=>aY c K (λH n=>by simp[az.run,CI,aK]) s
 have m2:∀(K:AV->St->Option (AV×St))(s:St),ai c .maxB [.str a,.str b] s K=K (.str b) s:=λK s=>aY c K (λH n=>by simp[az.run,CJ,aK]) s
 simp[m1,m2,bG,aH,dX,AV.cells,aZ,AV.one,bK,Ty.cells]
def gM(gs:List aL):Nat->Nat->Int×Int
 |0,_=>(0,0)
 |  m+1,k=>match gs[k]? with
    |none=>(0,0)
    |some g=>if fj g≠0 then((k:Int),fj g)else if 0<=scan (gV gs g.name) k 0 then((k:Int),5)else if 64<=k then((k:Int),7)else gM gs m (k+1)
def lC(ts:List Ty)(k:Nat):Option Ty:=if k=0 then none else ts[k - 1]?
def FE(t:Ty):Bool:=decide (t.k=1)||decide (t.k=2)
def UL(t:Ty)(p:Option Ty):Bool:= !FE t|| !aA t.a t.b||(match p with|none=>false|some p=>eg t p)
def p8(t:Ty)(p:Option Ty):Bool:=match p with|none=>false|some p=> !eg p t
def jS(gs:List aL)(t:Ty):Bool:=decide (scan (gV gs t.a) gs.length 0<0)||decide (scan (gV gs t.b) gs.length 0<0)
def eM(gs:List aL)(ts:List Ty):Nat->Nat->Int×Int
 |0,_=>(0,0)
 |  m+1,k=>match ts[k]? with
    |none=>(0,0)
    |some t=>if UL t (lC ts k)=true then((gs.length:Int)+k,23)else if jS gs t=true then((gs.length:Int)+k,6)
     else if p8 t (lC ts k)=true then((gs.length:Int)+k,5)else if 256<=k then((gs.length:Int)+k,7)else eM gs ts m (k+1)
def bJ(gs:List aL)(ts:List Ty):Int×Int:=if(gM gs 101 0).2≠0 then gM gs 101 0 else eM gs ts 101 0
theorem WB{gs:List aL}{s:List Nat}{k:Nat}(hk:k<=gs.length):scan (gV (gs.take k) s) k 0=scan (gV gs s) k 0:=
 QU k 0 λi _ hi=>by simp[gV,Zb1,show i<k by omega]
theorem Jt (gs:List aL)(ts:List Ty):∀(m k:Nat),(eM gs ts m k).2=0->(eM gs ts m k).1=0
 |0,_,_=>rfl
 |m +   1,k , h=>by
  rw[eM]at h ⊢;split at h
  .rfl
  . split   at h
    .   simp at h
    .   split at h
        .simp at h
        . split at h
          .simp at h
          . split at h
            .simp at h
            .rename_i h1 h2 h3 h4;rw[Za1 h1,Za1 h2,Za1 h3,Za1 h4];exact Jt gs ts m (k+1) h
abbrev Ju(s:List Nat):List AV:=[.str s]
theorem acU(l:List (List Nat)):∀r∈l.map Ju,r.length=1:=λr hr=>by simp only[Zd8]at hr;obtain⟨m,_,rfl⟩:=hr;rfl
theorem acV{s:St}(z:Bool)(l:List (List Nat)):Src 1 s (ee z l) (l.map Ju):=Src.ro z _
theorem abc(hc:Sem c){src:AV}(l:List (List Nat))(hl:l.length<=1000)(s:St)(hw:Wf s)(h:Src 1 s src (l.map Ju)):∃v s',c 319 [src] s=some (v,s')/\Mk 1 s s' v (l.map Ju):=by
 rcases h.nil with⟨rfl,h0⟩|hn
 . (refine⟨.aq,s,?_,by rw[h0];exact Mk.start hw (Grew.refl hw)⟩;rw[mX hc 1 (r:=(.aq,s)),au Plain.aq (aP.refl s)];rw[ow];have e:∀(K:AV->St->Option (AV×St))(s:St),ai c (.bin .eql .slice) [.aq,.aq] s K=K (.bool true) s:=λK s=>aY c K (λH n=>rfl) s);simp[e]
 .obtain⟨v,s',a1,a2⟩:=Fk (c:=c) (R:=AV×St) (bytes:=16) (z:=[.str []]) (acU l) (by decide) (by simp;omega) (by simp;omega) s hw h;obtain⟨fq,t1,t2⟩:=a2.tidy;refine⟨v,fq,?_,t2⟩;rw[mX hc 1 (r:=(v,s')),t1];rw[ow];simp only[aJ,hn,mU];rw[a1]
def aL.aC(g:aL)(v:AV):List AV:=[.str g.name,.str g.l7,.str g.jB,.int .i64 g.since,.int .i64 g.side,.str g.l8,.bool g.host,.bool g.access,v]
theorem aL.abd(g:aL):g.aC (ee g.tz g.tg)=g.cells:=rfl
theorem aL.Se(t:aL){v:AV}(h:aZ [v]=true):aZ (t.aC v)=true:=by
 simp only[aZ]at h;unfold aL.aC;simp only[aZ,AV.one,h,Zj4,Zj3]at*
structure aL.Low(g:aL):Prop where
 name:∀x∈g.name,x<256
 l7:∀x∈g.l7,x<256
 jB:∀x∈g.jB,x<256
 l8:∀x∈g.l8,x<256
theorem abe(hc:Sem c)(g:aL)(hg:g.Low)(hl:g.tg.length<=1000){src:AV}(s:St)(hw:Wf s)(h:Src 1 s src (g.tg.map Ju))(h1:src.cells=[src])(h2:src.one=true):
  ∃v s',c 299 [.agg (g.aC src)] s=some (.agg (g.aC v),s')/\Mk 1 s s' v (g.tg.map Ju):=by
 let zero:List AV:=[.str [],.str [],.str [],.int .i64 0,.int .i64 0,.str [],.bool false,.bool false,.aq]
 have e8:Wf (af (af s (.cells (g.aC src) 0)) (.cells zero 0)):=bE (bE hw);have wZ:=(Grew.af hw (.cells (g.aC src) 0)).trans (Grew.af (bE hw) (.cells zero 0));obtain⟨v,s3,h3,M⟩:=abc hc g.tg hl _ e8 (h.ax wZ);have M0:=M.back hw wZ;have hx:s3.heap.get s.next=some (.cells (g.aC src) 0):=M.ax.get yE;have hy:s3.heap.get (af s (.cells (g.aC src) 0)).next=some (.cells zero 0):=M.ax.get (aE _ _);obtain⟨hvc,hvo⟩:=M.cells;have aR:s.next≠(af s (.cells (g.aC src) 0)).next:=Pos.RD _;have ZP:s.next.toNat<s3.next.toNat:=by have:=M.ax.next;rw[dD,dD,Pos.aB,Pos.aB]at this;omega
 have acz:(af s (.cells (g.aC src) 0)).next.toNat<s3.next.toNat:=by have:=M.ax.next;rw[dD,Pos.aB]at this;omega
 have vo:v.one=true:=aa0 hvo;have yp:aH (g.aC src) 8 [v]=g.aC v:=rfl;have SW:aZ (g.aC v)=true:=g.Se hvo;have hro0:aZ (g.aC src)=true:=g.Se (by simp only[aZ,h2]);have new:∀b,cZ v=some b->(af s (.cells (g.aC src) 0)).next.toNat<b.toNat:=λb hb=>by have:=M.new b hb;rw[dD,Pos.aB]at this;omega
 have K5:s.next.toNat<(af s (.cells (g.aC src) 0)).next.toNat:=by rw[dD,Pos.aB];omega
 let s4:=eG s3 s.next (.cells (g.aC v) 0)
 let s5:=eG s4 (af s (.cells (g.aC src) 0)).next (.cells (g.aC v) 0)
 have hx4:s4.heap.get s.next=some (.cells (g.aC v) 0):=oe _ _ _;have hy4:s4.heap.get (af s (.cells (g.aC src) 0)).next=some (.cells zero 0):=by show(eG s3 s.next (.cells (g.aC v) 0)).heap.get _=_;rw[b9 aR];exact hy
 have hy5:s5.heap.get (af s (.cells (g.aC src) 0)).next=some (.cells (g.aC v) 0):=oe _ _ _;have M4:Mk 1 s s4 v (g.tg.map Ju):=M0.store (Za3 _) ZP (λe=>by have:=new _ e;omega);have M5:Mk 1 s s5 v (g.tg.map Ju):=M4.store (by omega) acz (λe=>by have:=new _ e;omega);have hi:∀u∈g.aC v,fc u:=λu hu=>by
  simp only[aL.aC,Za5,Zd2,Zh6]at hu;rcases hu with rfl|rfl|rfl|rfl|rfl|rfl|rfl|rfl|rfl
  .exact fc.str hg.name
  .exact fc.str hg.l7
  .exact fc.str hg.jB
  .exact fc.int _ _
  .exact fc.int _ _
  .exact fc.str hg.l8
  .exact fc.bool _
  .exact fc.bool _
  .exact M.inst
 obtain⟨fq,t1,_,t2⟩:=M5.OX (l:=g.aC v) (by simp[aL.aC]) hi;refine⟨v,fq,?_,t2⟩;rw[O9 hc 1 (r:=(.agg (g.aC v),s5)),t1];rw[RR];have aN:=λ(K:AV->St->Option (AV×St))=>jt c K s3 1 s.next 8 v (g.aC src) hx (by rw[hvc];rfl) (by simp[aL.aC]) (by rw[hvc];exact hvo)
 rw[hvc,yp]at aN;have jO:=λ(K:AV->St->Option (AV×St))=>jt c K s4 9 (af s (.cells (g.aC src) 0)).next 0 (.agg (g.aC v)) _ hy4 rfl (by simp[zero,aL.aC]) SW
 have hsp2:aH zero 0 (AV.agg (g.aC v)).cells=g.aC v:=rfl;rw[hsp2]at jO;have hcut:cut (g.aC v) 0 9=some (g.aC v):=bK rfl;have g8:(g.aC src)[8]? =some src:=rfl;have st2':∀(K:AV->St->Option (AV×St)),ai c (.store 9) [.ptr (af s (.cells (g.aC src) 0)).next 0,.agg (g.aC v)] (eG s3 s.next (.cells (g.aC v) 0)) K=K .undef s5:=λK=>jO K
 have bx:∀(K:AV->St->Option (AV×St)),ai c .box [.agg (g.aC src)] s K=K (.ptr s.next 0) (af s (.cells (g.aC src) 0)):=λK=>by rw[tT];rfl
 simp[bx,h3,g8,zero,aN,hcut];rw[st2'];simp only[hy5,ak,Ze5,hcut,AZ]
theorem Ug(b:Pos)(off:Nat):¬Plain (.ptr b off):=λh=>by
 have:=h (λ_=>⟨0,0,0⟩) (λ_=>⟨0,0,0⟩) (b.toNat+1) 0 (λ_=>none) _ (.ptr b off (by omega));cases this with
 |ptr _ _ h=>omega
theorem acW{s s':St}{b:Pos}{off:Nat}:tidy s (.ptr b off,s')=(.ptr b off,s'):=by unfold tidy;rw[Za1];exact λh=>Ug _ _ h.1
theorem afh(hc:Sem c)(s:St):c 256 [] s=some (.ptr (af s (.map [] 0)).next 0,af (af s (.map [] 0)) (.cells [.aq,.aq,.map s.next] 0)):=by
 rw[Uc hc 1 (r:=(.ptr (af s (.map [] 0)).next 0,af (af s (.map [] 0)) (.cells [.aq,.aq,.map s.next] 0))),acW];rw[XI];simp[bG,aH,dX,AV.cells]
def jI(k:Option Pos)(n es:Nat):AV:=match k with
 |none=>.aq
 |some b=>.slice b 0 n none es
theorem Jv{k:Option Pos}{n es:Nat}(h:k=none->n=0):∀H p,az.run H p (.lenB .l) [jI k n es]=some (.val (.int .i64 (n:Int))):=λH p=>by
 cases k with
 |none=>rw[h rfl];rfl
 |some b=>rfl
def ZU(s0 s:St)(bp:Pos)(gk tk:Option Pos)(g:aL)(row:List AV):Prop:=g.Low/\g.tg.length<=4/\∃v,row=g.aC v/\v.cells=[v]/\v.one=true/\QS 1 s v (g.tg.map Ju)/\∀p,cZ v=some p->p≠bp/\gk≠some p/\tk≠some p/\s0.heap.get p=none
theorem abf{es:Nat}{s:St}{v:AV}{rows:List (List AV)}(h:QS es s v rows){b:Pos}(hb:cZ v=some b):∃cs,s.heap.get b=some (.cells cs 0):=by
 rcases h with⟨rfl,rfl⟩|⟨b',off,cap,cs,rfl,h1,_⟩|⟨b',off,rfl,rfl⟩
 .cases hb
 .obtain rfl:=Tl hb;exact⟨cs,h1⟩
 .rw[ju]at hb;cases hb
theorem ZU.to{s0 s s':St}{bp:Pos}{gk tk Kg Hz:Option Pos}{g:aL}{row:List AV}(h:ZU s0 s bp gk tk g row)
   (hk:∀p cs,p≠bp->gk≠some p->tk≠some p->s.heap.get p=some (.cells cs 0)->s'.heap.get p=some (.cells cs 0)/\Kg≠some p/\Hz≠some p):ZU s0 s' bp Kg Hz g row:=by
 obtain⟨h1,h2,v,h3,h4,h5,h6,h7⟩:=h;refine⟨h1,h2,v,h3,h4,h5,h6.mono λb x hb hx=> ?_,λp hp=> ?_⟩
 .obtain⟨cs,h8⟩:=abf h6 hb;rw[h8]at hx;cases hx;obtain⟨a1,a2,a3,_⟩:=h7 b hb;exact(hk b cs a1 a2 a3 h8).1
 .obtain⟨cs,h8⟩:=abf h6 hp;obtain⟨a1,a2,a3,a4⟩:=h7 p hp;exact⟨a1,(hk p cs a1 a2 a3 h8).2.1,(hk p cs a1 a2 a3 h8).2.2,a4⟩
structure ff(s0 s:St)(bp mp:Pos)(gs:List aL)(ts:List Ty)(gk tk:Option Pos):Prop where
 wf:Wf s
 keeps:aP s0 s
 next:s0.next.toNat<=s.next.toNat
 book:s.heap.get bp=some (.cells [jI gk gs.length 9,jI tk ts.length 3,.map mp] 0)
 DU:∃es cl,s.heap.get mp=some (.map es cl)/\es.map (·.1)=gs.map λg=>.str g.name
 rN:(gk=none->gs=[])/\∀b,gk=some b->∃cs,s.heap.get b=some (.cells cs 0)/\cs.length=gs.length*9
 Bj:(tk=none->ts=[])/\∀b,tk=some b->s.heap.get b=some (.cells (ts.flatMap Ty.cells) 0)
 dg:gk≠some bp
 dt:tk≠some bp
 Tu:∀b,gk=some b->tk≠some b
 fb:s0.heap.get bp=none
 fm:s0.heap.get mp=none
 fg:∀b,gk=some b->s0.heap.get b=none
 ft:∀b,tk=some b->s0.heap.get b=none
 Pd:∀es cl,s.heap.get mp=some (.map es cl)->∀e∈es,∃i:Nat,e.2.1= .int .i64 (i:Int)/\i<gs.length
 Pe:∀es cl,s.heap.get mp=some (.map es cl)->es.map (λe=>e.2.1)=(List.range gs.length).map λ(i:Nat)=>AV.int .i64 (i:Int)
 rows:∀b cs,gk=some b->s.heap.get b=some (.cells cs 0)->∀(i:Nat)(g:aL),gs[i]? =some g->ZU s0 s bp gk tk g ((cs.drop (i*9)).take 9)
theorem ff.lt{s0 s:St}{bp mp:Pos}{gs:List aL}{ts:List Ty}{gk tk:Option Pos}(h:ff s0 s bp mp gs ts gk tk):bp.toNat<s.next.toNat/\mp.toNat<s.next.toNat:=by
 obtain⟨es,cl,h1,_⟩:=h.DU;exact⟨h.wf _ _ h.book,h.wf _ _ h1⟩
theorem ff.ax{s0 s s':St}{bp mp:Pos}{gs:List aL}{ts:List Ty}{gk tk:Option Pos}(h:ff s0 s bp mp gs ts gk tk)(g:Grew s s'):ff s0 s' bp mp gs ts gk tk where
 wf:=g.wf
 keeps:=h.keeps.trans g.keeps
 next:=Zc3 h.next g.next
 book:=g.get h.book
 DU:=let⟨es,cl,h1,h2⟩:=h.DU;⟨es,cl,g.get h1,h2⟩
 rN:=⟨h.rN.1,λb hb=>let⟨cs,h1,h2⟩:=h.rN.2 b hb;⟨cs,g.get h1,h2⟩⟩
 Bj:=⟨h.Bj.1,λb hb=>g.get (h.Bj.2 b hb)⟩
 dg:=h.dg
 dt:=h.dt
 Tu:=h.Tu
 fb:=h.fb
 fm:=h.fm
 fg:=h.fg
 ft:=h.ft
 Pd:=λes cl hm=>by obtain⟨es0,cl0,h1,h2⟩:=h.DU;have:=g.get h1;rw[hm]at this;cases this;exact h.Pd _ _ h1
 Pe:=λes cl hm=>by obtain⟨es0,cl0,h1,h2⟩:=h.DU;have:=g.get h1;rw[hm]at this;cases this;exact h.Pe _ _ h1
 rows:=λb cs hb hs i u hu=>by
  obtain⟨WC,h1,h2⟩:=h.rN.2 b hb;have:=g.get h1;rw[hs]at this;cases this;exact(h.rows b _ hb h1 i u hu).to λp cs _ a2 a3 hx=>⟨g.get hx,a2,a3⟩
theorem ff.start{s:St}(hw:Wf s):ff s (af (af s (.map [] 0)) (.cells [.aq,.aq,.map s.next] 0)) (af s (.map [] 0)).next s.next [] [] none none where
 wf:=bE (bE hw)
 keeps:=(bt hw).trans (bt (bE hw))
 next:=by simp only[dD,Pos.aB];omega
 book:=aE _ _
 DU:=⟨[],0,yE,rfl⟩
 rN:=⟨λ_=>rfl,λb h=>by cases h⟩
 Bj:=⟨λ_=>rfl,λb h=>by cases h⟩
 dg:=λh=>by cases h
 dt:=λh=>by cases h
 Tu:=λb h=>by cases h
 fb:=by
  cases h:s.heap.get (af s (.map [] 0)).next with
  |none=>rfl
  |some x=>have:=hw _ _ h;rw[dD,Pos.aB]at this;omega
 fm:=by
  cases h:s.heap.get s.next with
  |none=>rfl
  |some x=>have:=hw _ _ h;omega
 fg:=λb h=>by cases h
 ft:=λb h=>by cases h
 Pd:=λes cl hm e he=>by have:(af (af s (.map [] 0)) (.cells [.aq,.aq,.map s.next] 0)).heap.get s.next=some (.map [] 0):=yE;rw[hm]at this;cases this;cases he
 Pe:=λes cl hm=>by have:(af (af s (.map [] 0)) (.cells [.aq,.aq,.map s.next] 0)).heap.get s.next=some (.map [] 0):=yE;rw[hm]at this;cases this;rfl
 rows:=λb cs h=>by cases h
theorem Gl(s:List Nat):∀(gs:List aL)(es:List (AV×AV×Nat))(i:Nat),es.map (·.1)=gs.map (λg=>.str g.name)->
  (s∈gs.map aL.name/\∃j v,iT .s (.str s) es i=some (some (j,v)))\/(s∉gs.map aL.name/\iT .s (.str s) es i=some none)
 |[],es,i,h=>by
  have:es=[]:=by simpa using h
  subst this;exact .inr ⟨by simp,rfl⟩
 |g::gs,[],i,h=>by simp at h
 |g ::gs,(k,v,n)::es,i,h=>by
  simp only[Zb8,Zh4]at h;obtain⟨h1,h2⟩:=h;subst h1;by_cases e:s=g.name
  .subst e;exact .inl ⟨by simp,i,v,by simp[iT,uE,dW]⟩
  . rcases Gl s gs es (i+1) h2 with⟨a,b⟩|⟨a,b⟩
    .   left;refine⟨by simp at a ⊢; exact .inr a,?_⟩;simpa [iT,uE,dW,e]using b
    .   right;refine⟨by simp at a ⊢; exact⟨e,a⟩,?_⟩;simpa [iT,uE,dW,e]using b
theorem Jw{gs:List aL}{s:List Nat}:0<=scan (gV gs s) gs.length 0↔s∈gs.map aL.name:=by
 constructor
 .intro h;obtain⟨_,h2,h3⟩:=Jn _ _ h;simp only[gV,Zc8]at h3;rw[H1 (by omega)]at h3;simp only[Ze0,H0]at h3;rw[<-h3];exact Zd8.2 ⟨_,Zc2 _,rfl⟩
 . intro  h;obtain⟨g,hg,rfl⟩:=Zd8.1 h;obtain⟨i,hi,rfl⟩:=Zg6.1 hg;have key:∀(m k:Nat),k<=i->i<k+m->0<=scan (gV gs gs[i].name) m k:=by
    intro m;induction m with
    |zero=>intro k h1 h2;omega
    |   succ m ih=>
        intro k h1 h2;unfold scan;split
        .omega
        . rename_i aR;by_cases e:k=i
          .subst e;simp[gV,hi]at aR
          .exact ih (k+1) (by omega) (by omega)
   exact key _ _ (by omega) (by omega)
theorem YH(hc:Sem c)(s:St)(bp mp:Pos)(x y:AV)(h:s.heap.get bp=some (.cells [x,y,.map mp] 0)):c 297 [.ptr bp 0] s=some (.bool false,s):=by
 rw[Ky hc 1 (r:=(.bool false,s)),au (Plain.bool _) (aP.refl s)];rw[Nu];have e1:∀(K:AV->St->Option (AV×St))(s:St),ai c (.bin .eql .ptr) [.ptr bp 0,.gR] s K=K (.bool false) s:=λK s=>aY c K (λH n=>rfl) s
 have e2:∀(K:AV->St->Option (AV×St))(s:St),ai c (.bin .eql .map) [.map mp,.nZ] s K=K (.bool false) s:=λK s=>aY c K (λH n=>rfl) s
 simp[e1,e2,h]
theorem ZV(z:Bool)(l:List (List Nat)):(ee z l).cells=[ee z l]:=by unfold ee ro;split<;>rfl
theorem acX(z:Bool)(l:List (List Nat)):(ee z l).one=true:=by unfold ee ro;split<;>rfl
theorem YI{s:List Nat}(h:eC s=true):∀x∈s,x<256:=λx hx=>by simp only[eC,Za6,Zd6,Zc8]at h;have:=h.2 x hx;omega
theorem Sf{s:List Nat}(h:lB s=true):∀x∈s,x<256:=λx hx=>by
 simp only[lB,Zg9,Zc8]at h;rcases h with h|h
 .rw[h]at hx;cases hx
 .exact YI h x hx
theorem Tv{g:aL}(h:fj g=0):g.Low:=by
 unfold fj at h;split at h
 .simp at h
 .rename_i hn;simp only[Bool.not_eq_false,Za6]at hn;exact⟨YI hn.1.1.1,Sf hn.1.1.2,Sf hn.1.2,Sf hn.2⟩
theorem YJ{s:St}(hw:Wf s){k:Option Pos}{n es bytes:Nat}{q:Pos}{row:List AV}(hk:k=none->n=0)(eZ:∀b,k=some b->∃cs,s.heap.get b=some (.cells cs 0)/\cs.length=n*es)(hq:s.heap.get q=some (.cells row 0))(hr:row.length=es)
  (h1:aZ row=true) (di:es≠0) (hb:(2*(n+1)+768)*bytes<=281474976710656) (hn:n<=1000):
  ∃ s5 kO,(∀(K:AV->St->Option (AV×St)),ai c (.append es bytes) [jI k n es,.slice q 0 1 (some 1) es] s K=K (.slice s.next 0 (n+1) none es) s5)/\s5.heap.get s.next=some (.cells kO 0)/\kO.length=(n+1)*es/\
    (∀b cs,k=some b->s.heap.get b=some (.cells cs 0)->kO=cs++row)/\(k=none->kO=row)/\s5.next=s.next.succ/\Wf s5/\∀p,k≠some p->p.toNat<s.next.toNat->s5.heap.get p=s.heap.get p:=by
 have hx:cq es 1 (λb=>s.heap.get b) (.slice q 0 1 (some 1) es)=some row:=by simp only[cq,dK,Zn1,H2 di,hq];exact bK hr
 cases k with
 |none=>
  obtain rfl:=hk rfl;refine⟨af s (.cells row 0),row,λK=>VO c K (m:=1) rfl (by omega) (by omega) (by omega) hx,aE _ _,by omega,λb cs h=>(by cases h),λ_=>rfl,rfl,bE hw,λp _ hp=>qN hp⟩
 |some b=>
  obtain⟨cs,h2,h3⟩:=eZ b rfl;have ho:cq es n (λb=>s.heap.get b) (.slice b 0 n none es)=some cs:=by
    by_cases h0:n=0
    .   subst h0;have:cs=[]:=Za8 (by omega);subst this;simp[cq,dK]
    .   have:¬n*es=0:=λe=>by rcases Nat.mul_eq_zero.1 e with e|e<;>omega
        simp only[cq,dK,H2 this,h2];exact bK h3
  refine⟨dst s b (.cells (cs++row) 0),cs++row,λK=>aed c K (m:=1) rfl (by omega) hb (by omega) h2 ho hx h1,RE _ _ _,?_,λb' cs2 e h=> ?_,λh=>(by cases h),rfl,aaU hw,λp hp hl=>Ql (λe=>hp (by rw[e])) hl⟩
  .rw[Zd1,h3,hr,Zi2,Zn1]
  .cases e;rw[h2]at h;cases h;rfl
def sR(gs:List aL)(g:aL):Int:=if fj g≠0 then fj g else if 0<=scan (gV gs g.name) gs.length 0 then 5 else if gs.length=64 then 7 else 0
theorem afi (hc : Sem c){s0 s:St}{bp mp:Pos}{gs:List aL}{ts:List Ty}{gk tk:Option Pos}(HA:Wf s0)(B:ff s0 s bp mp gs ts gk tk)(hl:gs.length<=64)(g:aL):
   ∃s',c 257 [.ptr bp 0,.agg g.cells] s=some (.int .i64 (sR gs g),s')/\(sR gs g≠0->s'=s)/\(sR gs g=0->∃Kg,ff s0 s' bp mp (gs++[g]) ts Kg tk):=by
 have bV:Wf (af s (.cells g.cells 0)):=bE B.wf;have B1:=B.ax (Grew.af B.wf (.cells g.cells 0));generalize Lx:af s (.cells g.cells 0)=s1 at bV B1;have YK:s1.heap.get s.next=some (.cells g.cells 0):=by rw[<-Lx];exact aE _ _
 have kM:=YH hc s1 bp mp _ _ B1.book;have hch:=Sb hc g s1 bV;have lG:∀(K:AV->St->Option (AV×St))(s:St),ai c (.lenB .l) [jI gk gs.length 9] s K=K (.int .i64 (gs.length:Int)) s:=λK s=>aY c K (Jv λh=>by rw[B.rN.1 h];rfl) s
 have lG2:∀(K:AV->Option (AV×St)),gh (.lenB .l) [jI gk gs.length 9] K=K (.int .i64 (gs.length:Int)):=λK=>cF K (Jv λh=>by rw[B.rN.1 h];rfl)
 obtain⟨es,cl,je,hm2⟩:=B1.DU;have fail:∀e:Int,e≠0->sR gs g=e->tW c 1 (.ptr bp 0) (.agg g.cells) s=some (.int .i64 e,s1)->∃s',c 257 [.ptr bp 0,.agg g.cells] s=some (.int .i64 (sR gs g),s')/\(sR gs g≠0->s'=s)/\(sR gs g=0->∃Kg,ff s0 s' bp mp (gs++[g]) ts Kg tk):=λe he ha h=>by
   refine⟨s,?_,λ_=>rfl,λh0=>absurd (ha.symm.trans h0) he⟩;rw[Bi hc 1 h,ha,au (Plain.int _ _) (by rw[<-Lx];exact bt B.wf)]
 have eb:∀(K:AV->St->Option (AV×St)),ai c .box [.agg g.cells] s K=K (.ptr s.next 0) s1:=λK=>by rw[tT, <-Lx];rfl
 have h64:((gs.length:Int)=64)↔gs.length=64:=by omega
 by_cases h1:fj g=0
 . rcases Gl  g.name gs es 0 hm2 with⟨rA,j,v,hf⟩|⟨rA,hf⟩
   . have hsc:=Jw.2 rA;refine fail 5 (by omega) (by simp[sR,h1,hsc]) ?_;rw[pY];have lk:=λ(K:AV->Option (AV×St))=>Th K (.int .i64 0) (h:=s1.heap) (k:= .str g.name) je hf
     simp[eb,kM,hch,h1,YK,B1.book,lk]
   . have hsc: ¬0<=scan (gV gs g.name) gs.length 0:=λh=>rA (Jw.1 h)
     have lk:=λ(K:AV->Option (AV×St))=>Th K (.int .i64 0) (h:=s1.heap) (k:= .str g.name) je hf
     by_cases h2:gs.length=64
     .  have h2d:decide ((gs.length:Int)=64)=true:=H4 (by omega);refine fail 7 (by omega) (by unfold sR;rw[Za1 (by simp[h1]),Za1 hsc,Za2 h2]) ?_;rw[pY];simp[eb,kM,hch,h1,YK,B1.book,lk,lG,h2d]
     .  have htg:g.tg.length<=4:=by
          unfold fj at h1;split at h1
          .simp at h1
          . split at h1
            .simp at h1
            . split at h1
              .simp at h1
              . split at h1
                .simp at h1
                .omega
        have he:sR gs g=0:=(by unfold sR;rw[Za1 (by simp[h1]),Za1 hsc,Za1 h2]);have h2d:decide ((gs.length:Int)=64)=false:=H2 (by omega);have lt1:=B1.lt;have n8:s.next.toNat<s1.next.toNat:=(by rw[<-Lx,dD,Pos.aB];omega);have Tw:mp≠bp:=λe=>by rw[e,B1.book]at je;cases je
        have nmp:mp≠s.next:=λe=>by rw[e,YK]at je;cases je
        let JU:=es++[(AV.str g.name,AV.int .i64 (gs.length:Int),cl)]
        let s2:=eG s1 mp (.map JU (cl+1))
        have e8:Wf s2:=G6 bV lt1.2;have b2:s2.heap.get bp=some (.cells [jI gk gs.length 9,jI tk ts.length 3,.map mp] 0):=(by show(eG _ _ _).heap.get bp=_;rw[b9 Tw];exact B1.book);have p2:s2.heap.get s.next=some (.cells g.cells 0):=(by show(eG _ _ _).heap.get _=_;rw[b9 nmp];exact YK);have m2:s2.heap.get mp=some (.map JU (cl+1)):=oe _ _ _;obtain⟨v,s3,q1,M⟩:=abe hc g (Tv h1) (by omega) s2 e8 (acV g.tz g.tg) (ZV _ _) (acX _ _);rw[aL.abd]at q1
        let row:=g.aC v
        have q2:=M.ax;have q3:row.length=9:=rfl;have vone:v.one=true:=aa0 M.cells.2;have q4:aZ row=true:=g.Se M.cells.2;have hw4:Wf (af s3 (.cells row 0)):=bE q2.wf;have YL:=q2.trans (Grew.af q2.wf (.cells row 0));have dA:∀p x,s2.heap.get p=some x->p.toNat<(af s3 (.cells row 0)).next.toNat:=λp x h=>hw4 p x (YL.get h)
        have eZ:∀b,gk=some b->∃cs,(af s3 (.cells row 0)).heap.get b=some (.cells cs 0)/\cs.length=gs.length*9:=λb hb=>by
          obtain⟨cs,h3,h4⟩:=B1.rN.2 b hb;have:mp≠b:=λe=>by rw[e,h3]at je;cases je
          exact⟨cs,YL.get (by show(eG _ _ _).heap.get b=_;rw[b9 this];exact h3),h4⟩
        obtain⟨s5,kO,r1,r2,r3,ra,rb,r4,r5,r6⟩:=YJ (c:=c) (es:=9) (bytes:=112) hw4 (k:=gk) (n:=gs.length) (λh=>by rw[B.rN.1 h];rfl) eZ (aE _ _) q3 q4 (by omega) (by omega) (by omega);have hs4:(af s3 (.cells row 0)).next=s3.next.succ:=rfl;have keep:∀p x,s2.heap.get p=some x->gk≠some p->s5.heap.get p=some x:=λp x h aR=>by rw[r6 p aR (dA p x h)];exact YL.get h
        have b5:=keep bp _ b2 B.dg
        let gv:=AV.slice (af s3 (.cells row 0)).next 0 (gs.length+1) none 9
        let s6:=eG s5 bp (.cells [gv,jI tk ts.length 3,.map mp] 0)
        have acY:bp.toNat<s5.next.toNat:=r5 _ _ b5;have nb4:bp≠(af s3 (.cells row 0)).next:=λe=>by have:=dA _ _ b2;rw[e]at this;omega
        have st6:∀(K:AV->St->Option (AV×St)),ai c (.store 1) [.ptr bp 0,gv] s5 K=K .undef s6:=λK=>jt c K s5 1 bp 0 gv _ b5 rfl (by simp) rfl
        have g6:∀p,p≠bp->s6.heap.get p=s5.heap.get p:=λp h=>b9 (λe=>h e.symm)
        have ZW:∀p:Pos,s0.next.toNat<=p.toNat->s0.heap.get p=none:=λp h=>by
          cases hx:s0.heap.get p with
          |none=>rfl
          |some x=>have:=HA _ _ hx;omega
        have nx:s0.next.toNat<=(af s3 (.cells row 0)).next.toNat:=Zc3 B1.next (Zc3 (by show s1.next.toNat<=s2.next.toNat;exact Za3 _) YL.next)
        have WD : ff s0 s6 bp mp (gs++[g]) ts (some (af s3 (.cells row 0)).next) tk:={
          wf:=G6 r5 acY
          keeps:=λp x hp=>by
            have n1:p≠bp:=λe=>by rw[e,B.fb]at hp;cases hp
            have n2:mp≠p:=λe=>by rw[<-e,B.fm]at hp;cases hp
            have n3:gk≠some p:=λe=>by rw[B.fg p e]at hp;cases hp
            rw[g6 p n1];exact keep p x (by show(eG _ _ _).heap.get p=_;rw[b9 n2];exact B1.keeps p x hp) n3
          next:=by show s0.next.toNat<=s5.next.toNat;rw[r4,Pos.aB];omega
          book:=by show(eG _ _ _).heap.get bp=_;rw[oe];simp[gv,jI]
          DU:=⟨JU,cl+1,by
            rw[g6 mp Tw];exact keep mp _ m2 (λe=>by obtain⟨cs,h3,_⟩:=B1.rN.2 mp e;rw[h3]at je;cases je),by simp[JU,hm2]⟩
          rN:=⟨λh=>(by cases h),λb hb=>by cases hb;refine⟨kO,?_,by rw[r3];simp⟩;rw[g6 _ (λe=>nb4 e.symm)];exact r2⟩
          Bj:=⟨B.Bj.1,λb hb=>by
            have h3:=B1.Bj.2 b hb;have n1:b≠bp:=λe=>B.dt (by rw[<-e];exact hb)
            have n2:mp≠b:=λe=>by rw[e,h3]at je;cases je
            have n3:gk≠some b:=λe=>B.Tu b e hb
            rw[g6 b n1];exact keep b _ (by show(eG _ _ _).heap.get b=_;rw[b9 n2];exact h3) n3⟩
          dg:=λe=>nb4 (by injection e with e;exact e.symm)
          dt:=B.dt
          Tu:=λb hb ht=>by
            (cases hb;have h3:=B1.Bj.2 _ ht;have n2:mp≠(af s3 (.cells row 0)).next:=λe=>by rw[e,h3]at je;cases je);have:=dA _ _ (show s2.heap.get (af s3 (.cells row 0)).next=_ from(b9 n2).trans h3);omega
          fb:=B.fb
          fm:=B.fm
          fg:=λb hb=>by cases hb;exact ZW _ nx
          ft:=B.ft
          Pd:=λes' cl' hm e he=>by
            have m6:s6.heap.get mp=some (.map JU (cl+1)):=by
              rw[g6 mp Tw];exact keep mp _ m2 (λe=>by obtain⟨cs,h3,_⟩:=B1.rN.2 mp e;rw[h3]at je;cases je)
            rw[hm]at m6;cases m6;rcases Zd4.1 he with he|he
            .obtain⟨i,e1,e2⟩:=B1.Pd _ _ je e he;exact⟨i,e1,by simp;omega⟩
            .simp only[Za5,Zd2,Zh6]at he;subst he;exact⟨gs.length,rfl,by simp⟩
          Pe:=λes' cl' hm=>by
            have m6:s6.heap.get mp=some (.map JU (cl+1)):=by
              rw[g6 mp Tw];exact keep mp _ m2 (λe=>by obtain⟨cs,h3,_⟩:=B1.rN.2 mp e;rw[h3]at je;cases je)
            rw[hm]at m6;cases m6;have h:=B1.Pe _ _ je;rw[Zh3,h,Zd1,List.length_singleton,List.range_succ,Zh3];rfl
          rows:=  λb cs hb hs i u hu=>by
            cases hb;have YM:s6.heap.get (af s3 (.cells row 0)).next=some (.cells kO 0):=(by rw[g6 _ (λe=>nb4 e.symm)];exact r2);rw[hs]at YM;cases YM;by_cases hi:i<gs.length
            . rw[Zc9 hi]at hu;cases QY:gk with
              |none=>rw[B.rN.1 QY]at hi;simp at hi
              | some b0=>
                obtain⟨WC,h3,h4⟩:=B1.rN.2 b0 QY;have n0:mp≠b0:=λe=>by rw[e,h3]at je;cases je
                have e0:=ra b0 WC QY (YL.get (by show(eG _ _ _).heap.get b0=_;rw[b9 n0];exact h3));have R0:=B1.rows b0 WC QY h3 i u hu;rw[e0,Zf6 (by omega),List.take_append_of_le_length (by simp;omega)];(refine R0.to λp cs a1 a2 a3 hx=> ?_);have n1:mp≠p:=λe=>by rw[e,hx]at je;cases je
                have x2:s2.heap.get p=some (.cells cs 0):=(by show(eG _ _ _).heap.get p=_;rw[b9 n1];exact hx);have aK:=dA p _ x2;refine⟨by rw[g6 p a1];exact keep p _ x2 a2,λe=> ?_,a3⟩;cases e;omega
            . have zW:i=gs.length:=(by have:=(H5.1 hu).1;simp at this;omega);subst zW;simp at hu;subst hu;have er:(kO.drop (gs.length*9)).take 9=row:=by
                cases QY:gk with
                | none=>
                  rw[rb QY,B.rN.1 QY];exact Zf8 (by simp[q3])
                | some b0=>
                  obtain⟨WC,h3,h4⟩:=B1.rN.2 b0 QY;have n0:mp≠b0:=λe=>by rw[e,h3]at je;cases je
                  rw[ra b0 WC QY (YL.get (by show(eG _ _ _).heap.get b0=_;rw[b9 n0];exact h3)), <-h4];rw[Zf6 (Za3 _)];simp[Zf8 (Nat.le_of_eq q3)]
              (rw[er];have u0:∀p x,s2.heap.get p=some x->p.toNat<s2.next.toNat:=λp x h=>e8 p x h);refine⟨Tv h1,htg,v,rfl,M.cells.1,vone,M.own.mono λb x hb hx=> ?_,λp hp=> ?_⟩
              . have tY:=M.new b hb;have zP:=M.own.lt M.ax.wf hb;have nb:b≠bp:=λe=>by have:=u0 _ _ b2;rw[e]at tY;omega
                have ng:gk≠some b:=λe=>by
                  obtain⟨WC,h3,_⟩:=B1.rN.2 b e;have n0:mp≠b:=λe=>by rw[e,h3]at je;cases je
                  have:=u0 b _ (by show(eG _ _ _).heap.get b=_;rw[b9 n0];exact h3);omega
                rw[g6 b nb,r6 b ng (by rw[hs4,Pos.aB];omega)];exact(Grew.af q2.wf (.cells row 0)).get hx
              . have tY:=M.new p hp;have zP:=M.own.lt M.ax.wf hp;refine⟨λe=>by have:=u0 _ _ b2;rw[e]at tY;omega,λe=> ?_,λe=> ?_,ZW p (by have h9:=B1.next;rw[show s2.next=s1.next from Dn _ _ _]at tY;omega)⟩
                .cases e;rw[hs4,Pos.aB]at zP;omega
                . have h3:=B1.Bj.2 p e;have n2:mp≠p:=λe=>by rw[e,h3]at je;cases je
                  have:=u0 p _ (by show(eG _ _ _).heap.get p=_;rw[b9 n2];exact h3);omega }
        refine⟨s6,?_,λh=>absurd he h,λ_=>⟨_,WD⟩⟩;rw[he];rw[Bi hc 1 (r:=(.int .i64 0,s6))]
        . rw[Yu (b:=bp) B.book];rw[WD.book];intro e;have e:=congrArg (λo=>match o with|some (AB.cells (v::_) _)=>cS v|_=>none) e;simp only[jI,cS]at e;cases gk with
          |none=>simp[cS,B.rN.1 rfl]at e
          |some b=>simp[cS]at e
        (rw[pY];have stm:=λ(K:AV->St->Option (AV×St))=>XC c K (v:= .int .i64 (gs.length:Int)) je hf);have bq:fC (jI gk gs.length 9) (jI gk gs.length 9)=true:=(by cases gk;exact OW;exact Lj _ _ _ _);have b3:s3.heap.get bp=some (.cells [jI gk gs.length 9,jI tk ts.length 3,.map mp] 0):=q2.get b2;have vk:=λ(K:AV->Option (AV×St))=>An K (p:=bp) (o:=0) (h:=s3.heap) (h2:=s2.heap) (v:=jI gk gs.length 9) (by rw[b3];rfl) (by rw[b2];rfl) bq
        have yq:bG (bF [AV.str [],AV.str [],AV.str [],.int .i64 0,.int .i64 0,.str [],.bool false,.bool false,.aq] 1) [(0,9)] [AV.agg (g.aC v)]=some row:=by
          have:(g.aC v).length=9:=q3;show _=some (g.aC v);simp[bG,bF,dK,dX,this,aH]
        simp[eb,kM,hch,h1,YK,B1.book,lk,lG,lG2,h2d,stm];show BA ((cellsOf (T.get s.next s2.heap)).bind λcs=>cut cs 0 9) _=_;rw[p2];simp only[ak,Ze5,aL.cc,AZ];show OT (c 299 [AV.agg g.cells] s2) _=_;rw[q1];simp only[kP];show lS (.load none) [.ptr bp 0] s3.heap (λv=>mE (.load none) [.ptr bp 0] v (vR [] s2.heap)) _=_;rw[vk];simp only[yq,AZ,r1];exact st6 _
 .refine fail (fj g) h1 (by simp[sR,h1]) ?_;rw[pY];simp[eb,kM,hch,h1,YK]
theorem Jx{r s t:Ty}(h:eg r s=true)(k:eg s t=true):eg r t=true:=by
 simp only[eg,Zg9,Za6,Zc8]at h k ⊢;rcases h with h|⟨h1,h2⟩<;>rcases k with k|⟨k1,k2⟩
 .exact .inl (Js _ _ _ h k)
 .exact .inl (by rw[<-k1];exact h)
 .exact .inl (by rw[h1];exact k)
 .exact .inr ⟨h1.trans k1,Js _ _ _ h2 k2⟩
theorem ZX{s t:Ty}(h:eg s t=false)(k:eg t s=false):s.a=t.a/\s.b=t.b:=by simp only[eg,Zk6]at h k;have e:=zp _ _ h.1 k.1;refine⟨e,?_⟩;have h2:=h.2;have k2:=k.2;simp only[e,Zj2,Ze1]at h2 k2;exact zp _ _ h2 k2
theorem aen{r s t:Ty}(h:eg r s=true)(k:eg t s=false):eg r t=true:=by
 cases h2:eg s t
 .obtain⟨e1,e2⟩:=ZX h2 k;unfold eg at h ⊢; rw[<-e1, <-e2];exact h
 .exact Jx h h2
theorem adP{x:Int}(h1:0<=x)(h2:x<=18446744073709551615):aD .u64 x=x:=by
 unfold aD UU UW;simp only;split
 . split
   .rfl
   .contradiction
 .contradiction
theorem WE(K:AV->St->Option (AV×St))(st:St)(a:Nat):ai c (.bin .shr .num) [.int .u64 (a:Int),.int .u64 1] st K=K (.int .u64 ((a / 2:Nat):Int)) st:=by
 refine aY c K (λH n=> ?_) st;have:(a:Int).fdiv 2=((a / 2:Nat):Int):=by rw[Int.fdiv_eq_ediv_of_nonneg _ (by omega)];rfl
 simp only[az.run,gS,mY,ej];show some (ct.val (AV.int .u64 ((a:Int).fdiv 2)))=_;rw[this]
theorem WG(H:Pos->Option AB)(n:Pos)(es:Nat)(b:Pos)(len:Nat)(k:IntKind)(i:Nat)(h:i<len):az.run H n (.idxA es none) [.slice b 0 len none es,.int k (i:Int)]=some (.val (.ptr b (i*es))):=by
 simp[az.run,mD,ir,Cw,h]
theorem Dq(ts:List Ty)(i:Nat)(h:i<ts.length):cut (ts.flatMap Ty.cells) (i*3) 3=some ts[i].cells:=by
 induction ts generalizing i with
 |nil=>simp at h
 |cons t ts ih=>
  cases i with
  |zero=>rw[Zm1];unfold cut;rw[dX,H4 (by simp[Ty.len])];simp[Ty.cells]
  |succ i=>
   have h':i<ts.length:=(by simpa using h);have:=ih i h';unfold cut at this ⊢;rw[dX]at this ⊢;(split at this<;>first|(cases this;done)|skip);rename_i hle;simp only[Zc8]at hle;rw[H4 (by rw[Zm1,Zd1,Ty.len];omega)];simp only[H0]at this ⊢;rw[Zm1,show(i+1)*3=i*3+1+1+1 by omega,Zm0, <-this];rfl
theorem aeo(hc:Sem c)(ts:List Ty)(hl:ts.length<=1000)(t:Ty)(q:Nat)(hq:q<=ts.length)(u0:∀h (hh:h<ts.length),h<q->eg ts[h] t=true)(hhi:∀h (hh:h<ts.length),q<=h->eg ts[h] t=false)
  (b:Pos) (x4:Pos) (s:St) (hw:Wf s) (hb:s.heap.get b=some (.cells (ts.flatMap Ty.cells) 0)) (hx:s.heap.get x4=some (.cells t.cells 0)) (F:Nat) (k2):∀(m i j:Nat),j<=i+m->i<=q->q<=j->j<=ts.length->
  aO c F k2 (m+1) [.slice b 0 ts.length none 3,.func 258 [] [],.ptr x4 0,.int .i64 (ts.length:Int),.int .i64 (i:Int),.int .i64 (j:Int)] s=
    k2 [.slice b 0 ts.length none 3,.func 258 [] [],.ptr x4 0,.int .i64 (ts.length:Int),.int .i64 (q:Int)] s:=by
 intro m;induction m with
 |zero=>
  intro i j h1 h2 h3 h4;obtain rfl:i=q:=by omega
  obtain rfl:j=i:=by omega
  rw[cP];simp
 |succ m ih=>
  intro i j h1 h2 h3 h4;rw[cP];by_cases h:i<j
  . let d:=(i+j) / 2
    have hd1:i<=d:=(by omega);have hd2:d<j:=(by omega);have hd3:d<ts.length:=(by omega);have w1:aD .i64 ((i:Int)+(j:Int))=((i+j:Nat):Int):=(by rw[wrap64 (by omega) (by omega)];omega);have w2:aD .u64 ((i+j:Nat):Int)=((i+j:Nat):Int):=adP (by omega) (by omega);have w3:aD .i64 (((i+j) / 2:Nat):Int)=((d:Nat):Int):=wrap64 (by omega) (by omega);have w4:aD .i64 ((d:Int)+1)=((d+1:Nat):Int):=wrap64 (by omega) (by omega);have ix:=λ(K:AV->Option (AV×St))=>cF K (λH n=>WG H n 3 b ts.length .i64 d hd3)
    have ho:=DT hc ts[d] t s hw;have fg:=Dq ts d hd3
    clear_value d
    by_cases hn:d<q
    .   have WH:oC ts[d] t<0:=Sd.2 (u0 d hd3 hn);rw[<-ih (d+1) j (by omega) (by omega) h3 h4];simp only[dO,eS,aJ,Am,Int.ofNat_lt,h,Zj2,nW,Nd,w1,VL,w2,WE,w3,VF,ix,NW,hb,fg,hx,ak,Ze5,Ty.cc,AZ,oZ,Zg8,Zf4,Ze4,ho,kP,Yl,WH,w4]
    .   have WH:¬oC ts[d] t<0:=λe=>by have:=Sd.1 e;rw[hhi d hd3 (by omega)]at this;cases this
        rw[<-ih i d (by omega) h2 (by omega) (by omega)];simp only[dO,eS,aJ,Am,Int.ofNat_lt,h,Zj2,nW,Nd,w1,VL,w2,WE,w3,VF,ix,NW,hb,fg,hx,ak,Ze5,Ty.cc,AZ,oZ,Zg8,Zf4,Ze4,ho,kP,Yl,WH,Zo2,mU]
  .obtain rfl:i=q:=(by omega);obtain rfl:j=i:=(by omega);simp
def DV(ts:List Ty)(t:Ty)(q:Nat):Bool:=match ts[q]? with
 |some u=>decide (oC u t=0)
 |none=>false
theorem acZ(x4:Pos)(s:St)(F:Nat)(k2)(m:Nat):aO c F k2 (m+1) [.aq,.func 258 [] [],.ptr x4 0,.int .i64 0,.int .i64 0,.int .i64 0] s=
  k2 [.aq,.func 258 [] [],.ptr x4 0,.int .i64 0,.int .i64 0] s:=by
 rw[cP];simp
def slvT(k:Option Pos)(n:Nat):AV:=match k with
 |none=>.aq
 |some b=>.slice b (0+n*3) (n - n) none 3
theorem agh(hc:Sem c)(ts:List Ty)(hl:ts.length<=1000)(t:Ty)(q:Nat)(hq:q<=ts.length)(u0:∀h (hh:h<ts.length),h<q->eg ts[h] t=true)(hhi:∀h (hh:h<ts.length),q<=h->eg ts[h] t=false)
  (tk:Option Pos) (s:St) (hw:Wf s) (h0:tk=none->ts=[]) (hb:∀b,tk=some b->s.heap.get b=some (.cells (ts.flatMap Ty.cells) 0)):
  c 321 [jI tk ts.length 3,.agg t.cells,.func 258 [] []] s=some (.tuple [.int .i64 (q:Int),.bool (DV ts t q)],s):=by
 have bV:Wf (af s (.cells t.cells 0)):=bE hw;have n8:Plain (.tuple [.int .i64 (q:Int),.bool (DV ts t q)]):=Plain.tuple (by simp[Plain.int,Plain.bool]);rw[kz hc 1001 (r:=(.tuple [.int .i64 (q:Int),.bool (DV ts t q)],af s (.cells t.cells 0))),au n8 (bt hw)];rw[kS];cases tk with
 |none=>
  obtain rfl:=h0 rfl;obtain rfl:q=0:=by simpa using hq
  have l0:∀(K:AV->St->Option (AV×St))(s:St),ai c (.lenB .l) [.aq] s K=K (.int .i64 0) s:=λK s=>aY c K (λH n=>rfl) s
  have L:∀k2,aO c 1001 k2 1001 [.aq,.func 258 [] [],.ptr s.next 0,.int .i64 0,.int .i64 0,.int .i64 0] (af s (.cells t.cells 0))=_:=λk2=>acZ (c:=c) s.next _ 1001 k2 1000
  simp only[jI,tT,aJ,l0,Mh,L,dO,eS,Zn3];simp[DV,l0,L]
 |some b=>
  have tY:(af s (.cells t.cells 0)).heap.get b=some (.cells (ts.flatMap Ty.cells) 0):=bt hw _ _ (hb b rfl);have l0:∀(K:AV->St->Option (AV×St))(s:St),ai c (.lenB .l) [.slice b 0 ts.length none 3] s K=K (.int .i64 (ts.length:Int)) s:=λK s=>aY c K (λH n=>rfl) s
  have L:∀k2,aO c 1001 k2 1001 [.slice b 0 ts.length none 3,.func 258 [] [],.ptr s.next 0,.int .i64 (ts.length:Int),.int .i64 0,.int .i64 (ts.length:Int)] (af s (.cells t.cells 0))=
    k2 [.slice b 0 ts.length none 3,.func 258 [] [],.ptr s.next 0,.int .i64 (ts.length:Int),.int .i64 (q:Int)] (af s (.cells t.cells 0)):=
    λk2=>aeo hc ts hl t q hq u0 hhi b s.next _ bV tY (aE _ _) 1001 k2 1000 0 ts.length (by omega) (by omega) (by omega) (by omega)
  simp only[jI,tT,aJ,l0,Mh,L,dO,eS];by_cases h:q<ts.length
  . have ix:=λ(K:AV->Option (AV×St))=>cF K (λH n=>WG H n 3 b ts.length .i64 q h)
    have ho:=DT hc ts[q] t _ bV;have fg:=Dq ts q h;have ef:DV ts t q=decide (oC ts[q] t=0):=(by unfold DV;rw[H1 h]);simp[h,ix,tY,fg,ho,ef,AV.cells]
  .have ef:DV ts t q=false:=(by unfold DV;rw[Zb3 (by omega)]);simp[h,ef,AV.cells]
def HB(ts:List Ty)(t:Ty):Nat:=match ts.getLast? with
 |none=>0
 |some u=>if eg u t=true then ts.length else ts.length - 1
def Mi(ts:List Ty):Prop:=∀i j (hj:j<ts.length)(hij:i<j),eg (ts[i]'(by omega)) ts[j]=true
theorem afj{ts:List Ty}{t:Ty}(hs:Mi ts)(ht:∀u,ts.getLast? =some u->eg t u=false):HB ts t<=ts.length/\(∀h (hh:h<ts.length),h<HB ts t->eg ts[h] t=true)/\(∀h (hh:h<ts.length),HB ts t<=h->eg ts[h] t=false)/\
  DV ts t (HB ts t)=p8 t ts.getLast? :=by
 unfold HB;cases hl:ts.getLast? with
 |none=>
  have:ts=[]:=by simpa using hl
  subst this;simp[DV,p8]
 |some u=>
  have aR:ts≠[]:=λe=>by subst e;simp at hl
  have Zk:0<ts.length:=List.length_pos_iff.2 aR;have hu:ts[ts.length - 1]'(by omega)=u:=by have:=List.getLast?_eq_getElem? (l:=ts);rw[hl,H1 (by omega)]at this;exact(Zf9 this).symm
  have htu:=ht u hl;simp only;cases hb:eg u t
  . simp only[Zd5,Zd9];refine⟨by omega,λh hh aK=> ?_,λh hh hle=> ?_,?_⟩
    .   have:=hs h (ts.length - 1) (by omega) aK;rw[hu]at this;exact aen this htu
    .   obtain rfl:h=ts.length - 1:=(by omega);rw[hu];exact hb
    .   (unfold DV;rw[H1 (by omega),hu];have h1:¬oC u t<0:=λe=>by rw[Sd.1 e]at hb;cases hb);have h2:¬0<oC u t:=λe=>by rw[Nj.1 e]at htu;cases htu
        have:oC u t=0:=(by omega);simp[this,p8,hb]
  . simp only[Zf0];refine⟨by omega,λh hh _=> ?_,λh hh hle=>by omega,?_⟩
    .   by_cases e:h=ts.length - 1
        .subst e;rw[hu];exact hb
        .have:=hs h (ts.length - 1) (by omega) (by omega);rw[hu]at this;exact Jx this hb
    .   unfold DV;rw[Zb3 (by omega)];simp[p8,hb]
theorem VS(hc:Sem c){s0 s:St}{bp mp:Pos}{gs:List aL}{ts:List Ty}{gk tk:Option Pos}(B:ff s0 s bp mp gs ts gk tk)(hl:ts.length<=1000)(t:Ty)(aK:aA t.a t.b=true)(hs:Mi ts)(ht:∀u,ts.getLast? =some u->eg t u=false):
  c 301 [.ptr bp 0,.str t.a,.str t.b] s=some (.tuple [.int .i64 (HB ts t:Int),.bool (p8 t ts.getLast?)],s):=by
 obtain⟨p1,p2,p3,p4⟩:=afj hs ht;rw[<-p4];have e0:∀u:Ty,eg u ⟨t.a,t.b,0⟩=eg u t:=λu=>rfl
 have e1:DV ts ⟨t.a,t.b,0⟩ (HB ts t)=DV ts t (HB ts t):=rfl;have XX:=YG hc t.a t.b 0 aK s B.wf;have JQ:=agh hc ts hl ⟨t.a,t.b,0⟩ (HB ts t) p1 (λh hh hq=>by rw[e0];exact p2 h hh hq) (λh hh hq=>by rw[e0];exact p3 h hh hq) tk s B.wf B.Bj.1 B.Bj.2;rw[e1]at JQ;rw[Jk hc 1 (r:=(.tuple [.int .i64 (HB ts t:Int),.bool (DV ts t (HB ts t))],s)),au (Plain.tuple (by simp[Plain.int,Plain.bool])) (aP.refl s)];rw[L8];have bq:fC (jI tk ts.length 3) (jI tk ts.length 3)=true:=by cases tk;exact OW;exact Lj _ _ _ _
 have vk:=λ(K:AV->Option (AV×St))=>An K (p:=bp) (o:=1) (h:=s.heap) (h2:=s.heap) (v:=jI tk ts.length 3) (by rw[B.book];rfl) (by rw[B.book];rfl) bq
 simp[XX,vk,JQ]
theorem iY(b:Pos)(off n es:Nat):¬Plain (.slice b off n none es):=λh=>by have:=h (λ_=>⟨0,0,off+n*es⟩) (λ_=>⟨0,0,0⟩) (b.toNat+1) 0 (λ_=>none) _ (.slice b off n none es n ⟨0,0+off,none⟩ (Za3 _) (λc h=>by cases h) (λ_=>⟨by omega,rfl,by simp⟩) (λ_=>by omega));have:=this.SH rfl;omega
theorem abg(hc:Sem c){s:St}(hw:Wf s){tk:Option Pos}{ts:List Ty}{q:Pos}{row:List AV}(h0:tk=none->ts=[])(hb:∀b,tk=some b->s.heap.get b=some (.cells (ts.flatMap Ty.cells) 0))(hq:s.heap.get q=some (.cells row 0))(hr:row.length=3)
   (h1:aZ row=true) (hl:ts.length<=1000):
   ∃ s5,c 302 [jI tk ts.length 3,.int .i64 (ts.length:Int),.slice q 0 1 (some 1) 3] s=some (.slice s.next 0 (ts.length+1) none 3,s5)/\s5.heap.get s.next=some (.cells (ts.flatMap Ty.cells++row) 0)/\
     s5.next=s.next.succ/\Wf s5/\∀p,tk≠some p->p.toNat<s.next.toNat->s5.heap.get p=s.heap.get p:=by
 have hlen:∀ts:List Ty,(ts.flatMap Ty.cells).length=ts.length*3:=λts=>by
   induction ts with
   |nil=>rfl
   |cons t ts ih=>rw[Zm1,Zd1,ih,Ty.len,Zd7];omega
 obtain⟨s5,kO,r1,r2,r3,r4,r5,r6,r7,r8⟩:=YJ (c:=c) (es:=3) (bytes:=40) hw (k:=tk) (n:=ts.length) (λh=>by rw[h0 h];rfl) (λb zP=>⟨_,hb b zP,hlen ts⟩) hq hr h1 (by omega) (by omega) (by omega);refine⟨s5,?_,?_,r6,r7,r8⟩
 . rw[vg hc 1 (r:=(.slice s.next 0 (ts.length+1) none 3,s5))]
   .unfold tidy;rw[Za1];exact λh=>iY _ _ _ _ h.1
   rw[yc];have sl:∀(K:AV->St->Option (AV×St))(s:St),ai c (.sliceL 3 true false false) [jI tk ts.length 3,.int .i64 (ts.length:Int)] s K=K (slvT tk ts.length) s:=λK s=>by
     refine aY c K (λH n=> ?_) s;cases tk with
     |none=>rw[h0 rfl];rfl
     |some b=>simp[jI,slvT,az.run,oT,bounds,ir,dK,dX]
   have l1:∀(K:AV->St->Option (AV×St))(s:St),ai c (.lenB .l) [.slice q 0 1 (some 1) 3] s K=K (.int .i64 1) s:=λK s=>aY c K (λH n=>rfl) s
   have l2:∀(K:AV->St->Option (AV×St))(s:St),ai c (.lenB .l) [jI tk ts.length 3] s K=K (.int .i64 (ts.length:Int)) s:=λK s=>aY c K (Jv λh=>by rw[h0 h];rfl) s
   simp[sl,l1,l2,r1]
 . cases tk with
   |none=>rw[r2,r5 rfl,h0 rfl];rfl
   |some b=>rw[r2,r4 b _ rfl (hb b rfl)]
def sS(gs:List aL)(ts:List Ty)(t:Ty):Int:=if FE t=false then 23 else if jS gs t=true then 6 else if p8 t ts.getLast? =true then 5 else 0
theorem WI(H:Pos->Option AB)(n:Pos)(es:Nat)(b:Pos)(len:Nat)(cp:Option Nat)(k:IntKind)(i:Nat)(h:i<len):az.run H n (.idxA es none) [.slice b 0 len cp es,.int k (i:Int)]=some (.val (.ptr b (i*es))):=by
 simp[az.run,mD,ir,Cw,h]
theorem YN{gs:List aL}{es:List (AV×AV×Nat)}(h:es.map (·.1)=gs.map λg=>.str g.name)(s:List Nat):
   (¬scan (gV gs s) gs.length 0<0/\∃j v,iT .s (.str s) es 0=some (some (j,v)))\/(scan (gV gs s) gs.length 0<0/\iT .s (.str s) es 0=some none):=by
 rcases Gl s gs es 0 h with⟨a,b⟩|⟨a,b⟩
 .left;have:=Jw.2 a;exact⟨by omega,b⟩
 . (right;refine⟨?_,b⟩;have:¬0<=scan (gV gs s) gs.length 0:=λe=>a (Jw.1 e));omega
theorem ac0{s:St}{bp mp:Pos}{x y:AV}{es:List (AV×AV×Nat)}{cl:Nat}{gs:List aL}(hb:s.heap.get bp=some (.cells [x,y,.map mp] 0))(hm:s.heap.get mp=some (.map es cl))(he:es.map (·.1)=gs.map λg=>.str g.name)
   (t:Ty) (lb:Pos) (Kh:s.heap.get lb=some (.cells [.str t.a,.str t.b] 0)) (F:Nat) (k1 k2):
   jq c F k1 k2 3 [.ptr bp 0,.str t.a,.str t.b,.int .u8 t.k,.slice lb 0 2 (some 2) 1,.int .i64 2,.int .i64 ((0:Nat):Int)] s=if jS gs t=true then k1 [.int .i64 6] s else k2 [.ptr bp 0,.str t.a,.str t.b,.int .u8 t.k] s:=by
 have w0:aD .i64 (((0:Nat):Int)+1)=((1:Nat):Int):=rfl;have w1:aD .i64 (((1:Nat):Int)+1)=((2:Nat):Int):=rfl;have i0:∀(K:AV->St->Option (AV×St))(s:St),ai c (.idxA 1 none) [.slice lb 0 2 (some 2) 1,.int .i64 ((0:Nat):Int)] s K=K (.ptr lb 0) s:=λK s=>aY c K (λH n=>WI H n 1 lb 2 (some 2) .i64 0 (by omega)) s
 have i1:∀(K:AV->St->Option (AV×St))(s:St),ai c (.idxA 1 none) [.slice lb 0 2 (some 2) 1,.int .i64 ((1:Nat):Int)] s K=K (.ptr lb 1) s:=λK s=>aY c K (λH n=>WI H n 1 lb 2 (some 2) .i64 1 (by omega)) s
 have d0:decide (((0:Nat):Int)<2)=true:=rfl;have d1:decide (((1:Nat):Int)<2)=true:=rfl;have d2:decide (((2:Nat):Int)<2)=false:=rfl;have e0:([AV.str t.a,.str t.b]:List AV)[0]? =some (.str t.a):=rfl;have e1:([AV.str t.a,.str t.b]:List AV)[1]? =some (.str t.b):=rfl;have e2:([x,y,AV.map mp]:List AV)[2]? =some (.map mp):=rfl;rw[qZ];rcases YN he t.a with⟨n1,j,v,f1⟩|⟨n1,f1⟩
 . have lk1:=λ(K:AV->St->Option (AV×St))=>Fi c K (.int .i64 0) (k:= .str t.a) hm f1
   simp only[dO,eS,Am,d0,nW,i0,tS,Kh,hb,ak,Ze5,e0,e2,wW,aJ,tR,od,Zb6,lk1,AK,Ze8,Zg1,Nc,Zm9,mU,Nd,w0];rw[qZ];rcases YN he t.b with⟨n2,j,v,f2⟩|⟨n2,f2⟩
   . have lk2:=λ(K:AV->St->Option (AV×St))=>Fi c K (.int .i64 0) (k:= .str t.b) hm f2
     simp only[dO,eS,Am,d1,nW,i1,tS,Kh,hb,ak,Ze5,e1,e2,wW,aJ,tR,od,Zb6,lk2,AK,Ze8,Zg1,Nc,Zm9,mU,Nd,w1];rw[qZ];have:jS gs t=false:=(by simp[jS,n1,n2]);rw[this];simp only[dO,eS,Am,d2,mU,Zd5,Zd9]
   . have lk2:=λ(K:AV->St->Option (AV×St))=>Fi c K (.int .i64 0) (k:= .str t.b) hm f2
     have:jS gs t=true:=(by simp[jS,n2]);rw[this];simp only[dO,eS,Am,d1,nW,i1,tS,Kh,hb,ak,Ze5,e1,e2,wW,aJ,tR,od,Zb6,lk2,AK,Ze8,Zg1,Nc,Zl6,Zf0]
 . have lk1:=λ(K:AV->St->Option (AV×St))=>Fi c K (.int .i64 0) (k:= .str t.a) hm f1
   have:jS gs t=true:=(by simp[jS,n1]);rw[this];simp only[dO,eS,Am,d0,nW,i0,tS,Kh,hb,ak,Ze5,e0,e2,wW,aJ,tR,od,Zb6,lk1,AK,Ze8,Zg1,Nc,Zl6,Zf0]
theorem afk (hc:Sem c){s0 s:St}{bp mp:Pos}{gs:List aL}{ts:List Ty}{gk tk:Option Pos}(HA:Wf s0)(B:ff s0 s bp mp gs ts gk tk)(hl:ts.length<=200)(t:Ty)(aK:aA t.a t.b=true)(hs:Mi ts)(ht:∀u,ts.getLast? =some u->eg t u=false):
   ∃s',c 259 [.ptr bp 0,.str t.a,.str t.b,.int .u8 t.k] s=some (.int .i64 (sS gs ts t),s')/\(sS gs ts t≠0->s'=s)/\(sS gs ts t=0->∃Hz,ff s0 s' bp mp gs (ts++[t]) gk Hz):=by
 have aR:¬t.a=t.b:=λe=>by rw[e,sQ]at aK;cases aK
 have kM:=YH hc s bp mp _ _ B.book;have YO:FE t=true->(t.k=1\/(¬t.k=1/\t.k=2)):=λq=>by
   simp only[FE,Zg9,Zc8]at q;by_cases e:t.k=1
   .exact .inl e
   .exact .inr ⟨e,q.resolve_left e⟩
 by_cases hk:FE t=true
 . have bV  :Wf (af s (.cells [.str t.a,.str t.b] 0)):=bE B.wf;have B1:=B.ax (Grew.af B.wf (.cells [.str t.a,.str t.b] 0));have FF:=Grew.af B.wf (.cells [.str t.a,.str t.b] 0);have Kh:(af s (.cells [.str t.a,.str t.b] 0)).heap.get s.next=some (.cells [.str t.a,.str t.b] 0):=aE _ _;generalize Lx:af s (.cells [.str t.a,.str t.b] 0)=s1 at bV B1 FF Kh;obtain⟨es,cl,je,hm2⟩:=B1.DU;have L:∀k1 k2,jq c 3 k1 k2 3 [.ptr bp 0,.str t.a,.str t.b,.int .u8 t.k,.slice s.next 0 2 (some 2) 1,.int .i64 2,.int .i64 0] s1=if jS gs t=true then k1 [.int .i64 6] s1 else k2 [.ptr bp 0,.str t.a,.str t.b,.int .u8 t.k] s1:=λk1 k2=>ac0 (c:=c) B1.book je hm2 t s.next Kh 3 k1 k2
   have n8:=VS hc B1 (by omega) t aK hs ht;have l2:∀(K:AV->St->Option (AV×St))(s:St),ai c (.lenB .l) [.slice (af s (.cells [] 0)).next 0 2 (some 2) 1] s K=K (.int .i64 2) s:=λK s=>aY c K (λH n=>rfl) s
   have lT:∀(K:AV->St->Option (AV×St))(s:St),ai c (.lenB .l) [jI tk ts.length 3] s K=K (.int .i64 (ts.length:Int)) s:=λK s=>aY c K (Jv λh=>by rw[B.Bj.1 h];rfl) s
   have YP:∀(K:AV->St->Option (AV×St)),ai c (.buildSlice 1 2 [(.str [])] [0,1]) [.str t.a,.str t.b] s K=K (.slice s.next 0 2 (some 2) 1) s1:=λK=>by rw[cr, <-Lx];have:bG (bF [AV.str []] 2) ([0,1].map λi=>(i*1,1)) [.str t.a,.str t.b]=some [.str t.a,.str t.b]:=(by simp[bG,bF,dK,dX,aH,AV.cells]);rw[this];rfl
   have l3:∀(K:AV->St->Option (AV×St))(p:Pos)(s:St),ai c (.lenB .l) [.slice p 0 2 (some 2) 1] s K=K (.int .i64 2) s:=λK p s=>aY c K (λH n=>rfl) s
   have Sg:¬(ts.length:Int)=256:=(by omega);have fail:∀e:Int,e≠0->sS gs ts t=e->tX c 3 (.ptr bp 0) (.str t.a) (.str t.b) (.int .u8 t.k) s=some (.int .i64 e,s1)->∃s',c 259 [.ptr bp 0,.str t.a,.str t.b,.int .u8 t.k] s=some (.int .i64 (sS gs ts t),s')/\(sS gs ts t≠0->s'=s)/\(sS gs ts t=0->∃Hz,ff s0 s' bp mp gs (ts++[t]) gk Hz):=λe he ha h=>by
     refine⟨s,?_,λ_=>rfl,λh0=>absurd (ha.symm.trans h0) he⟩;rw[sO hc 3 h,ha,au (Plain.int _ _) FF.keeps]
   cases hu:jS gs t
   . cases  hd:p8 t ts.getLast?
     .  have he:sS gs ts t=0:=(by simp[sS,hk,hu,hd]);rw[hd]at n8;have hplc:(HB ts t:Int)=ts.length:=by
          unfold HB;cases hq:ts.getLast? with
          |none=> have:ts=[]:=by simpa using hq
                  subst this;rfl
          | some u=>
            rw[hq]at hd;simp only[p8,Bool.not_eq_false']at hd;simp only[hd,Zf0]
        rw[hplc]at n8;have XX:=YG hc t.a t.b t.k aK s1 bV
        let s2:=af s1 (.cells t.cells 0)
        have g2:=Grew.af bV (.cells t.cells 0);have B2:=B1.ax g2;obtain⟨s5,r1,r2,r3,r4,r5⟩:=abg hc (s:=s2) g2.wf (tk:=tk) (ts:=ts) (q:=s1.next) (row:=t.cells) B.Bj.1 B2.Bj.2 (aE _ _) rfl t.one (by omega);have WJ:=B2.lt;have b5:s5.heap.get bp=some (.cells [jI gk gs.length 9,jI tk ts.length 3,.map mp] 0):=by rw[r5 bp B.dt WJ.1];exact B2.book
        let tv:=AV.slice s2.next 0 (ts.length+1) none 3
        let s6:=eG s5 bp (.cells [jI gk gs.length 9,tv,.map mp] 0)
        have acY:bp.toNat<s5.next.toNat:=r4 _ _ b5;have nb2:bp≠s2.next:=λe=>absurd (show bp.toNat<s2.next.toNat from WJ.1) (by rw[e];exact Zm7 _)
        have st6:∀(K:AV->St->Option (AV×St)),ai c (.store 1) [.ptr bp 1,tv] s5 K=K .undef s6:=λK=>jt c K s5 1 bp 1 tv _ b5 rfl (by simp) rfl
        have g6:∀p,p≠bp->s6.heap.get p=s5.heap.get p:=λp h=>b9 (λe=>h e.symm)
        have ZW:∀p:Pos,s0.next.toNat<=p.toNat->s0.heap.get p=none:=λp h=>by
          cases hx:s0.heap.get p with
          |none=>rfl
          |some x=>have:=HA _ _ hx;omega
        obtain⟨JU,cl2,hm3,hm4⟩:=B2.DU;have Tw:mp≠bp:=λe=>by rw[e,B2.book]at hm3;cases hm3
        have nmt:tk≠some mp:=λe=>by rw[B2.Bj.2 mp e]at hm3;cases hm3
        have WD:ff s0 s6 bp mp gs (ts++[t]) gk (some s2.next):={
          wf:=G6 r4 acY
          keeps:=λp x hp=>by
            have n1:p≠bp:=λe=>by rw[e,B.fb]at hp;cases hp
            have n3:tk≠some p:=λe=>by rw[B.ft p e]at hp;cases hp
            have h2:=B2.keeps p x hp;rw[g6 p n1,r5 p n3 (B2.wf _ _ h2)];exact h2
          next:=by show s0.next.toNat<=s5.next.toNat;exact Zc3 B2.next (by rw[r3,Pos.aB];exact Nat.le_succ _)
          book:=by show(eG _ _ _).heap.get bp=_;rw[oe];simp[tv,jI]
          DU:=⟨JU,cl2,by rw[g6 mp Tw,r5 mp nmt WJ.2];exact hm3,hm4⟩
          rN:=⟨B.rN.1,λb hb=>by obtain⟨cs,h3,h4⟩:=B2.rN.2 b hb;refine⟨cs,?_,h4⟩;rw[g6 b (λe=>B.dg (by rw[<-e];exact hb)),r5 b (B.Tu b hb) (B2.wf _ _ h3)];exact h3⟩
          Bj:=⟨λh=>(by cases h),λb hb=>by cases hb;rw[g6 _ (λe=>nb2 e.symm),r2];simp⟩
          dg:=B.dg
          dt:=λe=>nb2 (by injection e with e;exact e.symm)
          Tu:=λb hb h=>by
            cases h;obtain⟨cs,h3,h4⟩:=B2.rN.2 _ hb;exact absurd (show s2.next.toNat<s2.next.toNat from B2.wf _ _ h3) (Zm7 _)
          fb:=B.fb
          fm:=B.fm
          fg:=B.fg
          ft:=λb hb=>by cases hb;exact ZW _ B2.next
          Pd:=λes' cl' hm=>by have m6:s6.heap.get mp=s2.heap.get mp:=(by rw[g6 mp Tw,r5 mp nmt WJ.2]);rw[m6]at hm;exact B2.Pd _ _ hm
          Pe:=λes' cl' hm=>by have m6:s6.heap.get mp=s2.heap.get mp:=(by rw[g6 mp Tw,r5 mp nmt WJ.2]);rw[m6]at hm;exact B2.Pe _ _ hm
          rows:=λb cs hb hs i u hu=>by
            obtain⟨WC,h3,h4⟩:=B2.rN.2 b hb;have x6:s6.heap.get b=s2.heap.get b:=(by rw[g6 b (λe=>B.dg (by rw[<-e];exact hb)),r5 b (B.Tu b hb) (B2.wf _ _ h3)]);rw[x6]at hs;(refine(B2.rows b cs hb hs i u hu).to λp cs a1 a2 a3 hx=> ?_);have aK:p.toNat<s2.next.toNat:=B2.wf _ _ hx;refine⟨by rw[g6 p a1,r5 p a3 aK];exact hx,a2,λe=> ?_⟩;cases e;exact absurd aK (Zm7 _) }
        refine⟨s6,?_,λh=>absurd he h,λ_=>⟨_,WD⟩⟩;rw[he];rw[sO hc 3 (r:=(.int .i64 0,s6))]
        . rw[Yu (b:=bp) B.book];rw[WD.book];intro e;have e:=congrArg (λo=>match o with|some (AB.cells (_::v::_) _)=>cS v|_=>none) e;simp only[jI,cS]at e;cases tk with
          |none=>simp[cS,B.Bj.1 rfl]at e
          |some b=>simp[cS]at e
        (rw[pZ];have bq:fC (jI tk ts.length 3) (jI tk ts.length 3)=true:=(by cases tk;exact OW;exact Lj _ _ _ _);have vk:=λ(K:AV->Option (AV×St))=>An K (p:=bp) (o:=1) (h:=s1.heap) (h2:=s1.heap) (v:=jI tk ts.length 3) (by rw[B1.book];rfl) (by rw[B1.book];rfl) bq);have yq:bG (bF [AV.str [],AV.str [],.int .u8 0] 1) [(0,3)] [AV.agg t.cells]=some t.cells:=by
          simp[bG,bF,dK,dX,Ty.cells,aH]
        have adT:decide ((ts.length:Int)=256)=false:=H2 Sg;rw[hu]at L;rcases YO hk with f|⟨f,f2⟩
        .have d1:decide (t.k=1)=true:=H4 f;simp[-cr,kM,aR,YP,l3,d1,L,n8,B1.book,lT,adT,XX,vk,yq];show OT (c 302 [jI tk ts.length 3,.int .i64 (ts.length:Int),.slice s1.next 0 1 (some 1) 3] s2) _=_;rw[r1];exact st6 _
        .have d1:decide (t.k=1)=false:=H2 f;have d2:decide (t.k=2)=true:=H4 f2;simp[-cr,kM,aR,YP,l3,d1,d2,L,n8,B1.book,lT,adT,XX,vk,yq];show OT (c 302 [jI tk ts.length 3,.int .i64 (ts.length:Int),.slice s1.next 0 1 (some 1) 3] s2) _=_;rw[r1];exact st6 _
     .  refine fail 5 (by omega) (by simp[sS,hk,hu,hd]) ?_;rw[hd]at n8;rw[hu]at L;rw[pZ];rcases YO hk with f|⟨f,f2⟩
        .have d1:decide (t.k=1)=true:=H4 f;simp[-cr,kM,aR,YP,l3,d1,L,n8]
        .have d1:decide (t.k=1)=false:=H2 f;have d2:decide (t.k=2)=true:=H4 f2;simp[-cr,kM,aR,YP,l3,d1,d2,L,n8]
   . refine fail 6 (by omega) (by simp[sS,hk,hu]) ?_;rw[hu]at L;rw[pZ];rcases YO hk with f|⟨f,f2⟩
     .  have d1:decide (t.k=1)=true:=H4 f;simp[-cr,kM,aR,YP,l3,d1,L]
     .  have d1:decide (t.k=1)=false:=H2 f;have d2:decide (t.k=2)=true:=H4 f2;simp[-cr,kM,aR,YP,l3,d1,d2,L]
 .have hkf:¬t.k=1/\¬t.k=2:=(by simpa [FE]using hk);have he:sS gs ts t=23:=(by simp[sS,hk]);refine⟨s,?_,λ_=>rfl,λh0=>absurd (he.symm.trans h0) (by omega)⟩;rw[sO hc 3 (r:=(.int .i64 23,s)),he,au (Plain.int _ _) (aP.refl s)];rw[pZ];simp[kM,hkf]
@[simp] theorem agM{R:Type}(K:AV->Option R)(z:Bool)(l:List aL):gh (.lenB .l) [bk z l] K=K (.int .i64 (l.length:Int)):=by unfold bk;rw[acq];simp
theorem ac1{gs:List aL}{k:Nat}(h:k<gs.length)(hk:k<=64):sR (gs.take k) gs[k]=if fj gs[k]≠0 then fj gs[k]else if 0<=scan (gV gs gs[k].name) k 0 then 5 else if 64<=k then 7 else 0:=by
 have hl:(gs.take k).length=k:=by simp;omega
 unfold sR;rw[hl,WB (by omega)];have:(k=64)↔64<=k:=by omega
 simp only[this]
@[simp] theorem agi{R:Type}(c:ah)(K:AV->St->Option R)(st:St)(t:aL)(cs:List AV)(h:cs.length=9):ai c (.store 9) [.ptr st.next 0,.agg t.cells] (af st (.cells cs 0)) K=K .undef (af st (.cells t.cells 0)):=dR c K st 9 (.agg t.cells) cs rfl h.symm t.one
theorem aep (hc:Sem c){s0:St}(HA:Wf s0)(z:Bool)(gs:List aL)(hl:gs.length<=100)(bp mp rp:Pos)(F:Nat)(k1 k2):∀(m k:Nat)(s:St)(gk:Option Pos),ff s0 s bp mp (gs.take k) [] gk none->gs.length<=k+m->k<=gs.length->k<=64->
  ∃ s',aP s0 s'/\(((gM gs m k).2=0/\(∃Kg,ff s0 s' bp mp gs [] Kg none)/\ig c F k1 k2 (m+1) [.ptr rp 0,.ptr bp 0,bk z gs,.int .i64 (gs.length:Int),.int .i64 (k:Int)] s=k2 [.ptr rp 0,.ptr bp 0] s')\/
    ((gM gs m k).2≠0/\ig c F k1 k2 (m+1) [.ptr rp 0,.ptr bp 0,bk z gs,.int .i64 (gs.length:Int),.int .i64 (k:Int)] s=k1 [.gR,.int .i64 (gM gs m k).1,.int .i64 (gM gs m k).2] s')):=by
 intro m;induction m with
 |zero=>
  intro k s gk B h1 h2 h3;obtain rfl:k=gs.length:=by omega
  refine⟨s,B.keeps,.inl ⟨rfl,⟨gk,by simpa using B⟩,?_⟩⟩;rw[rM];simp
 |succ m ih   =>
  intro k s gk B h1 h2 h3;by_cases h:k<gs.length
  . have w:aD .i64 ((k:Int)+1)=((k+1:Nat):Int):=wrap64 (by omega) (by omega);have B1:=B.ax (Grew.af B.wf (.cells gs[k].cells 0));obtain⟨s2,a1,a2,a3⟩:=afi hc HA B1 (by simp;omega) gs[k];have hA:=ac1 h h3;have step:∀(K:AV->St->Option (AV×St)),(ai c (.idxA 9 none) [bk z gs,.int .i64 (k:Int)] s λx19 s12=>ai c (.load (some 9)) [x19] s12 K)=K (.agg gs[k].cells) s:=λK=>by
        simp[bk,h]
    by_cases he:sR (gs.take k) gs[k]=0
    .   obtain⟨Kg,B2⟩:=a3 he;have e1:gs.take k++[gs[k]]=gs.take (k+1):=(Zb4 h).symm;rw[e1]at B2;rw[hA]at he;have c1:fj gs[k]=0:=by
         by_cases e:fj gs[k]=0
         .  exact e
         .  rw[Za2 e]at he;exact absurd he e
        (rw[Za1 (by rw[c1];simp)]at he;have c2:¬0<=scan (gV gs gs[k].name) k 0:=λe=>by rw[Za2 e]at he;cases he);(rw[Za1 c2]at he;have c3:¬64<=k:=λe=>by rw[Za2 e]at he;cases he);have ec:gM gs (m+1) k=gM gs m (k+1):=by
         rw[gM,H1 h];simp only;rw[Za1 (by rw[c1];simp),Za1 c2,Za1 c3]
        obtain⟨s',g1,g2⟩:=ih (k+1) s2 Kg B2 (by omega) (by omega) (by omega);refine⟨s',g1,?_⟩;rw[ec];have eL:ig c F k1 k2 (m+1+1) [.ptr rp 0,.ptr bp 0,bk z gs,.int .i64 (gs.length:Int),.int .i64 (k:Int)] s=ig c F k1 k2 (m+1) [.ptr rp 0,.ptr bp 0,bk z gs,.int .i64 (gs.length:Int),.int .i64 ((k+1:Nat):Int)] s2:=by
         rw[rM];have hz:sR (gs.take k) gs[k]=0:=(by rw[hA,Za1 (by rw[c1];simp),Za1 c2,Za1 c3]);rw[hz]at a1;simp[bk,h,a1,w]
        rw[eL];exact g2
    .   obtain rfl:=a2 he;have ec:gM gs (m+1) k=((k:Int),sR (gs.take k) gs[k]):=by
         rw[gM,H1 h];simp only;rw[hA]at he ⊢;by_cases c1:fj gs[k]=0
         .  have e1:¬fj gs[k]≠0:=(by rw[c1];simp);by_cases c2:0<=scan (gV gs gs[k].name) k 0
            .simp only[e1,c2,Zd9,Zf0]
            . by_cases c3:64<=k
              .simp only[e1,c2,c3,Zd9,Zf0]
              .rw[Za1 e1,Za1 c2,Za1 c3]at he;exact absurd rfl he
         .  have e1:fj gs[k]≠0:=c1;rw[Za2 e1,Za2 e1]
        refine⟨_,B1.keeps,.inr ⟨by rw[ec];exact he,?_⟩⟩;rw[ec,rM];simp[bk,h,a1,he]
  .obtain rfl:k=gs.length:=(by omega);have ec:gM gs (m+1) gs.length=(0,0):=(by rw[gM,Zb3 (by omega)]);refine⟨s,B.keeps,.inl ⟨by rw[ec],⟨gk,by simpa using B⟩,?_⟩⟩;rw[rM];simp
theorem Pg{ts:List Ty}{k:Nat}(h:k<ts.length):(ts.take k).getLast? =lC ts k:=by
 unfold lC;by_cases h0:k=0
 .simp[h0]
 .rw[Za1 h0,List.getLast?_eq_getElem?];have:(ts.take k).length=k:=(by simp;omega);rw[this,Zb1,Za2 (by omega)]
theorem ac2{ts:List Ty}{k:Nat}(h:k<ts.length)(hs:Mi (ts.take k))(hb:∀u,lC ts k=some u->eg u ts[k]=true):Mi (ts.take (k+1)):=by
 intro i j hj hij;have BT:j<k+1:=by simp at hj;omega
 simp only[Zk3];by_cases e:j=k
 . subst e;have h1:lC ts j=some (ts[j - 1]'(by omega)):=(by rw[lC,Za1 (by omega),H1 (by omega)]);have h2:=hb _ h1;by_cases e2:i=j - 1
   .subst e2;exact h2
   .have h3:=hs i (j - 1) (by simp;omega) (by omega);simp only[Zk3]at h3;exact Jx h3 h2
 .have:=hs i j (by simp;omega) hij;simpa only[Zk3]using this
def QZ(t:Ty)(p:Option Ty):Bool:=match p with|none=>false|some p=>eg t p
theorem ac3(t:Ty)(p:Option Ty):UL t p=(!FE t|| !aA t.a t.b||QZ t p):=by cases p<;>rfl
def WL(t:Ty)(p:Option Ty):Bool:=aA t.a t.b&& !QZ t p
def eK(gs:List aL)(ts:List Ty)(k:Nat)(t:Ty):Int:=if WL t (lC ts k)=true then sS gs (ts.take k) t else 23
theorem aeq (hc:Sem c){s0:St}(HA:Wf s0)(z z2:Bool)(gs:List aL)(ts:List Ty)(hl:gs.length<=100)(jW:ts.length<=100)(bp mp rp:Pos)(K3:s0.heap.get rp=some (.cells [bk z gs,cj z2 ts] 0))(gk:Option Pos)(F:Nat)(k1 k4):∀(m k:Nat)(s:St)(tk:Option Pos),ff s0 s bp mp gs (ts.take k) gk tk->Mi (ts.take k)->ts.length<=k+m->k<=ts.length->
  ∃s',aP s0 s'/\((eM gs ts m k).2=0->(∃Hz,ff s0 s' bp mp gs ts gk Hz)/\Mi ts)/\jv c F k1 k4 (m+1) [.ptr rp 0,.ptr bp 0,cj z2 ts,.int .i64 (ts.length:Int),.int .i64 (k:Int)] s=if(eM gs ts m k).2=0 then k4 [.ptr bp 0] s' else k1 [.gR,.int .i64 (eM gs ts m k).1,.int .i64 (eM gs ts m k).2] s':=by
 intro m;induction m with
 |zero=>
  intro k s tk B hs h1 h2;obtain rfl:k=ts.length:=by omega
  refine⟨s,B.keeps,λ_=>⟨⟨tk,by simpa using B⟩,by simpa using hs⟩,?_⟩;rw[rL];simp[eM]
 |succ m ih   =>
  intro k s tk B hs h1 h2;by_cases h:k<ts.length
  . have w:aD .i64 ((k:Int)+1)=((k+1:Nat):Int):=wrap64 (by omega) (by omega);have wg:aD .i64 ((gs.length:Int)+(k:Int))=(gs.length:Int)+k:=wrap64 (by omega) (by omega);have B1:=B.ax (Grew.af B.wf (.cells ts[k].cells 0));have dH:(af s (.cells ts[k].cells 0)).heap.get rp=some (.cells [bk z gs,cj z2 ts] 0):=B1.keeps _ _ K3;have bV:=B1.wf;have Sg:¬256<=k:=(by omega);have ec:eM gs ts (m+1) k=if eK gs ts k ts[k]≠0 then((gs.length:Int)+k,eK gs ts k ts[k])else eM gs ts m (k+1):=by rw[eM,H1 h];simp only[Sg,Zd9];rw[ac3];unfold eK WL sS;rw[Pg h];cases FE ts[k]<;>cases aA ts[k].a ts[k].b<;>cases QZ ts[k] (lC ts k)<;>cases jS gs ts[k]<;>cases p8 ts[k] (lC ts k)<;>simp
    have OK   :WL ts[k] (lC ts k)=true->∃s',aP s0 s'/\(eK gs ts k ts[k]=0->(eM gs ts m (k+1)).2=0->(∃Hz,ff s0 s' bp mp gs ts gk Hz)/\Mi ts)/\∃s2,c 259 [.ptr bp 0,.str ts[k].a,.str ts[k].b,.int .u8 ts[k].k] (af s (.cells ts[k].cells 0))=some (.int .i64 (eK gs ts k ts[k]),s2)/\s2.heap.get rp=some (.cells [bk z gs,cj z2 ts] 0)/\
          (eK gs ts k ts[k]≠0->s'=s2)/\(eK gs ts k ts[k]=0->
            jv c F k1 k4 (m+1) [.ptr rp 0,.ptr bp 0,cj z2 ts,.int .i64 (ts.length:Int),.int .i64 ((k+1:Nat):Int)] s2=if(eM gs ts m (k+1)).2=0 then k4 [.ptr bp 0] s' else k1 [.gR,.int .i64 (eM gs ts m (k+1)).1,.int .i64 (eM gs ts m (k+1)).2] s'):=λcT=>by
        have WM:=cT;simp only[WL,Za6,Zh2]at WM;obtain⟨b2,b3⟩:=WM;have agj:∀u,(ts.take k).getLast? =some u->eg ts[k] u=false:=λu hu=>by rw[Pg h]at hu;rw[hu]at b3;exact b3
        obtain⟨s2,a1,a2,a3⟩:=afk hc HA B1 (by simp;omega) ts[k] b2 hs agj;have et:eK gs ts k ts[k]=sS gs (ts.take k) ts[k]:=(by unfold eK;rw[Za2 cT]);rw[<-et]at a1 a2 a3;by_cases h0:eK gs ts k ts[k]=0
        . obtain⟨Hz,B2⟩:=a3 h0;have e1:ts.take k++[ts[k]]=ts.take (k+1):=(Zb4 h).symm;rw[e1]at B2;have hd:p8 ts[k] (lC ts k)=false:=by
            rw[et,sS,Pg h]at h0;cases hq:p8 ts[k] (lC ts k)
            .rfl
            . rw[hq]at h0;split at h0
              .simp at h0
              .split at h0<;>simp at h0
          have A0:=ac2 h hs (λu hu2=>by rw[hu2]at hd;simpa [p8]using hd);obtain⟨s',g1,gB,g2⟩:=ih (k+1) s2 Hz B2 A0 (by omega) (by omega);exact⟨s',g1,λ_=>gB,s2,a1,B2.keeps _ _ K3,λe=>absurd h0 e,λ_=>g2⟩
        .obtain rfl:=a2 h0;exact⟨_,B1.keeps,λe=>absurd e h0,_,a1,dH,λ_=>rfl,λe=>absurd e h0⟩
    rw[ec];cases cT:WL ts[k] (lC ts k)
    ·
        have e23:eK gs ts k ts[k]=23:=(by unfold eK;rw[cT];rfl);refine⟨_,B1.keeps,λe=>(by rw[e23,Za2 (by decide)]at e;cases e),?_⟩;rw[rL,e23];cases q1:aA ts[k].a ts[k].b
        .simp[cj,h,q1,dY,dH,wg]
        . have q2:QZ ts[k] (lC ts k)=true:=(by simpa [WL,q1]using cT);have wU:¬k=0:=λe=>by rw[lC,Za2 e]at q2;cases q2
          have oB:k - 1<ts.length:=(by omega);have wk:aD .i64 ((k:Int) - 1)=((k - 1:Nat):Int):=(by rw[wrap64 (by omega) (by omega)];omega);have q3:eg ts[k] ts[k - 1]=true:=(by rw[lC,Za1 wU,H1 oB]at q2;exact q2);have ho:=DT hc ts[k - 1] ts[k] _ bV;have zR:¬oC ts[k - 1] ts[k]<=0:=(by have:=Nj.2 q3;omega);simp[cj,h,q1,dY,dH,wg,wU,oB,wk,ho,zR]
    .   obtain⟨s',g1,gB,s2,t1,t2,t3,t4⟩:=OK cT;refine⟨s',g1,λe=>by
          by_cases he:eK gs ts k ts[k]=0
          .exact gB he (by rw[Za1 (by simp[he])]at e;exact e)
          .rw[Za2 he]at e;exact absurd e he,?_⟩
        rw[rL];have WM:=cT;simp only[WL,Za6,Zh2]at WM;obtain⟨q1,q2⟩:=WM;by_cases he:eK gs ts k ts[k]=0
        . have t4:=t4 he;rw[he]at t1;simp only[he,ne_eq,not_true,Zd9];rw[<-t4];by_cases wU:k=0
          .have dk:decide ((k:Int)=0)=true:=H4 (by omega);have dk':decide (k=0)=true:=H4 wU;clear wU;simp[cj,h,q1,dY,dH,dk,dk',t1,w]
          . have oB:k - 1<ts.length:=(by omega);have wk:aD .i64 ((k:Int) - 1)=((k - 1:Nat):Int):=(by rw[wrap64 (by omega) (by omega)];omega);have q3:eg ts[k] ts[k - 1]=false:=(by rw[lC,Za1 wU,H1 oB]at q2;exact q2);have ho:=DT hc ts[k - 1] ts[k] _ bV;have zR:oC ts[k - 1] ts[k]<=0:=by
              have:¬0<oC ts[k - 1] ts[k]:=λe=>by rw[Nj.1 e]at q3;cases q3
              omega
            simp[cj,h,q1,dY,dH,wU,oB,wk,ho,zR,t1,w]
        . obtain rfl:=t3 he;simp only[he,ne_eq,Zl4,Zf0,Zd9];by_cases wU:k=0
          .have dk:decide ((k:Int)=0)=true:=H4 (by omega);have dk':decide (k=0)=true:=H4 wU;clear wU;simp[cj,h,q1,dY,dH,dk,dk',t1,t2,wg,he]
          . have oB:k - 1<ts.length:=(by omega);have wk:aD .i64 ((k:Int) - 1)=((k - 1:Nat):Int):=(by rw[wrap64 (by omega) (by omega)];omega);have q3:eg ts[k] ts[k - 1]=false:=(by rw[lC,Za1 wU,H1 oB]at q2;exact q2);have ho:=DT hc ts[k - 1] ts[k] _ bV;have zR:oC ts[k - 1] ts[k]<=0:=by
              have:¬0<oC ts[k - 1] ts[k]:=λe=>by rw[Nj.1 e]at q3;cases q3
              omega
            simp[cj,h,q1,dY,dH,wU,oB,wk,ho,zR,t1,t2,wg,he]
  .obtain rfl:k=ts.length:=(by omega);refine⟨s,B.keeps,λ_=>⟨⟨tk,by simpa using B⟩,by simpa using hs⟩,?_⟩;rw[rL];have ec:eM gs ts (m+1) ts.length=(0,0):=(by rw[eM,Zb3 (by omega)]);simp[ec]
theorem Si(hc:Sem c)(z z2:Bool)(gs:List aL)(ts:List Ty)(hl:gs.length<=100)(jW:ts.length<=100)(s:St)(hw:Wf s):
   ∃v s',c 198 [.agg [bk z gs,cj z2 ts]] s=some (.tuple [v,.int .i64 (bJ gs ts).1,.int .i64 (bJ gs ts).2],s')/\aP s s'/\((bJ gs ts).2=0->∃bp mp gk tk,v= .ptr bp 0/\ff (af s (.cells [bk z gs,cj z2 ts] 0)) s' bp mp gs ts gk tk/\Mi ts):=by
 let s0:=af s (.cells [bk z gs,cj z2 ts] 0)
 have HA:Wf s0:=bE hw;have k0:aP s s0:=bt hw;have K3:s0.heap.get s.next=some (.cells [bk z gs,cj z2 ts] 0):=aE _ _;have OH:=afh hc s0;have B:=ff.start HA
 have finish:∀{v:AV}{s':St},zi c 102 (.agg [bk z gs,cj z2 ts]) s=some (.tuple [v,.int .i64 (bJ gs ts).1,.int .i64 (bJ gs ts).2],s')->aP s0 s'->((bJ gs ts).2=0->∃bp mp gk tk,v= .ptr bp 0/\ff s0 s' bp mp gs ts gk tk/\Mi ts)->
     ∃v s',c 198 [.agg [bk z gs,cj z2 ts]] s=some (.tuple [v,.int .i64 (bJ gs ts).1,.int .i64 (bJ gs ts).2],s')/\aP s s'/\((bJ gs ts).2=0->∃bp mp gk tk,v= .ptr bp 0/\ff s0 s' bp mp gs ts gk tk/\Mi ts):=λ{v s'} h hk hB=>by
   have h2:=RX hc 102 h;unfold tidy at h2;split at h2
   .rename_i hp;exact⟨v,s,h2,aP.refl s,λe=>by obtain⟨bp,mp,gk,tk,rfl,_⟩:=hB e;exact absurd hp.1 TY⟩
   .exact⟨v,s',h2,k0.trans hk,hB⟩
 obtain⟨s1,g1,g2⟩:=aep hc HA z gs hl (af s0 (.map [] 0)).next s0.next s.next 102 (λvs s30=>eB vs λx2 vs=>eB vs λx3 vs=>eB vs λx4 vs=>gu vs (some (.tuple [x2,x3,x4],s30))) (λvs s31=>eB vs λx1 vs=>eB vs λx5 vs=>gu vs (
   ai c (.fieldA 1) [x1] s31 λx29 s32=>ai c (.load none) [x29] s32 λOh Wt=>ai c (.lenB .l) [Oh] Wt λx31 Wu=>ai c .move [(.int .i64 0)] Wu λx32 Wv=>
   jv c 102 (λvs WN=>eB vs λx2 vs=>eB vs λx3 vs=>eB vs λx4 vs=>gu vs (some (.tuple [x2,x3,x4],WN))) (λvs WO=>eB vs λx5 vs=>gu vs (
     ai c .move [x5] WO λQ0 WQ=>ai c .move [Q0] WQ λx2 WR=>ai c .move [(.int .i64 0)] WR λx3 WS=>ai c .move [(.int .i64 0)] WS λx4 WT=>some (.tuple [x2,x3,x4],WT))) 102 [x1,x5,Oh,x31,x32] Wv)) 101 0 _ none B (by omega) (by omega) (by omega)
 have abh:∀r,ig c 102 (λvs s30=>eB vs λx2 vs=>eB vs λx3 vs=>eB vs λx4 vs=>gu vs (some (.tuple [x2,x3,x4],s30))) (λvs s31=>eB vs λx1 vs=>eB vs λx5 vs=>gu vs (
   ai c (.fieldA 1) [x1] s31 λx29 s32=>ai c (.load none) [x29] s32 λOh Wt=>ai c (.lenB .l) [Oh] Wt λx31 Wu=>ai c .move [(.int .i64 0)] Wu λx32 Wv=>
   jv c 102 (λvs WN=>eB vs λx2 vs=>eB vs λx3 vs=>eB vs λx4 vs=>gu vs (some (.tuple [x2,x3,x4],WN))) (λvs WO=>eB vs λx5 vs=>gu vs (
     ai c .move [x5] WO λQ0 WQ=>ai c .move [Q0] WQ λx2 WR=>ai c .move [(.int .i64 0)] WR λx3 WS=>ai c .move [(.int .i64 0)] WS λx4 WT=>some (.tuple [x2,x3,x4],WT))) 102 [x1,x5,Oh,x31,x32] Wv)) 102 [.ptr s.next 0,.ptr (af s0 (.map [] 0)).next 0,bk z gs,.int .i64 (gs.length:Int),.int .i64 ((0:Nat):Int)] (af (af s0 (.map [] 0)) (.cells [.aq,.aq,.map s0.next] 0))=r->zi c 102 (.agg [bk z gs,cj z2 ts]) s=r:=λr h=>by
   rw[<-h,Wg];have hb:=(B.keeps _ _ K3)
   simp only[tT,Mh,aJ,oY];show OT (c 256 [] s0) _=_;rw[OH];simp only[kP,od,tS,hb,ak,Ze5,Ze8,Zb6,wW,acS];rfl
 rcases g2 with⟨q1,⟨Kg,B2⟩,q3⟩|⟨q1,q3⟩
 . have e:bJ gs ts=eM gs ts 101 0:=(by rw[bJ,Za1 (by simp[q1])]);obtain⟨s2,r1,rB,r2⟩:=aeq hc HA z z2 gs ts hl jW (af s0 (.map [] 0)).next s0.next s.next K3 Kg 102 (λvs WN=>eB vs λx2 vs=>eB vs λx3 vs=>eB vs λx4 vs=>gu vs (some (.tuple [x2,x3,x4],WN))) (λvs WO=>eB vs λx5 vs=>gu vs (
     ai c .move [x5] WO λQ0 WQ=>ai c .move [Q0] WQ λx2 WR=>ai c .move [(.int .i64 0)] WR λx3 WS=>ai c .move [(.int .i64 0)] WS λx4 WT=>some (.tuple [x2,x3,x4],WT))) 101 0 s1 none (by simpa using B2) (by intro i j hj;simp at hj) (by omega) (by omega)
   have tY:s1.heap.get s.next=some (.cells [bk z gs,cj z2 ts] 0):=B2.keeps _ _ K3;have hL:=abh _ q3;simp only[dO,eS,od,tS,tY,ak,Ze5,Zg1,Ze8,Zb6,wW,acT,aJ]at hL;have YM:=r2;rw[show(((0:Nat):Int))=0 from rfl]at YM;simp only[aJ,Nat.reduceAdd]at YM;rw[YM]at hL;rw[e]at finish ⊢;by_cases h2:(eM gs ts 101 0).2=0
   . have h3:=Jt gs ts 101 0 h2;rw[Za2 h2]at hL;simp only[dO,eS]at hL;exact finish (by rw[h2,h3];exact hL) r1 (λe=>by
        obtain⟨⟨Hz,B3⟩,hs⟩:=rB e;exact⟨_,_,_,_,rfl,B3,hs⟩)
   .rw[Za1 h2]at hL;simp only[dO,eS]at hL;exact finish hL r1 (λe=>absurd e h2)
 .have e:bJ gs ts=gM gs 101 0:=(by rw[bJ,Za2 q1]);have hL:=abh _ q3;simp only[dO,eS]at hL;rw[e]at finish ⊢;exact finish hL g1 (λe=>absurd e q1)
structure Rl where
 k:Int
 wt:Int
 a:List Nat
 b:List Nat
 t:List Nat
 n:Int
def Rl.cells(r:Rl):List AV:=[.int .u8 r.k,.int .i64 r.wt,.str r.a,.str r.b,.str r.t,.int .i64 r.n]
@[simp] theorem Rl.c0(t:Rl):t.cells[0]? =some (.int .u8 t.k):=id rfl
@[simp] theorem Rl.c1(t:Rl):t.cells[1]? =some (.int .i64 t.wt):=id rfl
@[simp] theorem Rl.c2(t:Rl):t.cells[2]? =some (.str t.a):=id rfl
@[simp] theorem Rl.c3(t:Rl):t.cells[3]? =some (.str t.b):=id rfl
@[simp] theorem Rl.c4(t:Rl):t.cells[4]? =some (.str t.t):=id rfl
@[simp] theorem Rl.c5(t:Rl):t.cells[5]? =some (.int .i64 t.n):=id rfl
@[simp] theorem Rl.cc(t:Rl):cut t.cells 0 6=some t.cells:=bK rfl
@[simp] theorem Rl.one(t:Rl):aZ t.cells=true:=id rfl
def iG(z:Bool)(rs:List Rl):AV:=ro 6 z (rs.map Rl.cells)
@[simp] theorem agN{R:Type}(c:ah)(K:AV->St->Option R)(st:St)(z:Bool)(l:List Rl):ai c (.lenB .l) [iG z l] st K=K (.int .i64 (l.length:Int)) st:=by unfold iG;rw[bX];simp
@[simp] theorem agk{R:Type}(c:ah)(K:AV->St->Option R)(st:St)(z:Bool)(l:List aG):ai c (.lenB .l) [tabs z l] st K=K (.int .i64 (l.length:Int)) st:=by unfold tabs;rw[bX];simp
structure aS where
 tz:Bool
 ts:List aG
 gz:Bool
 gs:List aL
 yz:Bool
 ys:List Ty
 cz:Bool
 cs:List Int
 rz:Bool
 rs:List Rl
def aS.cells(p:aS):List AV:=[tabs p.tz p.ts,bk p.gz p.gs,cj p.yz p.ys,ints p.cz p.cs,iG p.rz p.rs]
@[simp] theorem aS.c0(p:aS):p.cells[0]? =some (tabs p.tz p.ts):=id rfl
@[simp] theorem aS.c1(p:aS):p.cells[1]? =some (bk p.gz p.gs):=id rfl
@[simp] theorem aS.c2(p:aS):p.cells[2]? =some (cj p.yz p.ys):=id rfl
@[simp] theorem aS.c3(p:aS):p.cells[3]? =some (ints p.cz p.cs):=id rfl
@[simp] theorem aS.c4(p:aS):p.cells[4]? =some (iG p.rz p.rs):=id rfl
@[simp] theorem aS.cc(p:aS):cut p.cells 0 5=some p.cells:=bK rfl
structure aS.gW(p:aS):Prop where
 ts:p.ts.length<=100
 gs:p.gs.length<=100
 ys:p.ys.length<=100
 cs:p.cs.length<=100
 rs:p.rs.length<=100
 ok:∀t∈p.ts,t.Ok
def kC(l:List Int):Bool:=l.all λc=>decide (0<=c)&&decide (c<64)
def fH(p:aS):Int×Int:=
 if(bn p.ts).2≠0 then bn p.ts else if(bJ p.gs p.ys).2≠0 then bJ p.gs p.ys
 else if p.cs.length≠0/\p.cs.length≠p.gs.length then(0,44)else if kC p.cs=false then(0,44)
 else if bP p.ts<p.gs.length then(0,45)else(0,0)
theorem XM{p:aS}(h:(fH p).2=0):(fH p).1=0:=by
 unfold fH at h ⊢;by_cases h1:(bn p.ts).2≠0
 .rw[Za2 h1]at h;exact absurd h h1
 rw[Za1 h1]at h ⊢;by_cases h2:(bJ p.gs p.ys).2≠0
 .rw[Za2 h2]at h;exact absurd h h2
 rw[Za1 h2]
 repeat' split
 all_goals rfl
theorem ZY(p:aS)(hp:p.gW)(q:Pos)(F:Nat)(s:St)(k1 k2):∀(m k:Nat),p.cs.length<=k+m->k<=p.cs.length->
  mI c F k1 k2 (m+1) [.ptr q 0,ints p.cz p.cs,.int .i64 (p.cs.length:Int),.int .i64 (k:Int)] s=if kC (p.cs.drop k)=true then k2 [.ptr q 0] s else k1 [.int .i64 0,.int .i64 44] s:=by
 have hl:=hp.cs;intro m;induction m with
 |zero=>
  intro k h1 h2;obtain rfl:k=p.cs.length:=by omega
  rw[Fu];simp[kC]
 |succ m ih=>
  intro k h1 h2;rw[Fu];by_cases h:k<p.cs.length
  . have e:p.cs.drop k=p.cs[k]::p.cs.drop (k+1):=Za7 h;have w:aD .i64 ((k:Int)+1)=((k+1:Nat):Int):=wrap64 (by omega) (by omega);have:=ih (k+1) (by omega) (by omega);have ec:kC (p.cs.drop k)=((decide (0<=p.cs[k])&&decide (p.cs[k]<64))&&kC (p.cs.drop (k+1))):=(by rw[e];rfl);rw[ec];generalize kC (p.cs.drop (k+1))=rest at this ⊢;by_cases h3:p.cs[k]<0
    .   have h4:(decide (0<=p.cs[k])&&decide (p.cs[k]<64))=false:=(by simp;omega);rw[h4];simp[ints,h,h3]
    .   by_cases h5:64<=p.cs[k]
        .have h4:(decide (0<=p.cs[k])&&decide (p.cs[k]<64))=false:=(by simp;omega);rw[h4];simp[ints,h,h3,h5]
        .have h4:(decide (0<=p.cs[k])&&decide (p.cs[k]<64))=true:=(by simp;omega);rw[h4,Ze1, <-this];simp[ints,h,h3,h5,w]
  .obtain rfl:k=p.cs.length:=(by omega);simp[kC]
theorem Uh(p:aS)(hp:p.gW)(q:Pos)(F:Nat)(s:St)(hq:s.heap.get q=some (.cells p.cells 0))(k1 k2):∀(m k:Nat),p.cs.length<=k+m->k<=p.cs.length->
  fJ c F k1 k2 (m+1) [.ptr q 0,.int .i64 (k:Int)] s=if kC (p.cs.drop k)=true then k2 [.ptr q 0] s else k1 [.int .i64 0,.int .i64 44] s:=by
 have hl:=hp.cs;intro m;induction m with
 |zero=>
  intro k h1 h2;obtain rfl:k=p.cs.length:=by omega
  rw[uf];simp[kC,hq]
 |succ m ih=>
  intro k h1 h2;rw[uf];by_cases h:k<p.cs.length
  . have e:p.cs.drop k=p.cs[k]::p.cs.drop (k+1):=Za7 h;have w:aD .i64 ((k:Int)+1)=((k+1:Nat):Int):=wrap64 (by omega) (by omega);have:=ih (k+1) (by omega) (by omega);have ec:kC (p.cs.drop k)=((decide (0<=p.cs[k])&&decide (p.cs[k]<64))&&kC (p.cs.drop (k+1))):=(by rw[e];rfl);rw[ec];generalize kC (p.cs.drop (k+1))=rest at this ⊢;by_cases h3:p.cs[k]<0
    .   have h4:(decide (0<=p.cs[k])&&decide (p.cs[k]<64))=false:=(by simp;omega);rw[h4];simp[hq,ints,h,h3]
    .   by_cases h5:64<=p.cs[k]
        .have h4:(decide (0<=p.cs[k])&&decide (p.cs[k]<64))=false:=(by simp;omega);rw[h4];simp[hq,ints,h,h3,h5]
        .have h4:(decide (0<=p.cs[k])&&decide (p.cs[k]<64))=true:=(by simp;omega);rw[h4,Ze1, <-this];simp[hq,ints,h,h3,h5,w]
  .obtain rfl:k=p.cs.length:=(by omega);simp[kC,hq]
theorem Ui(hc:Sem c)(z:Bool)(ts:List aG)(hl:ts.length<=100)(F:Nat)(s:St)(hw:Wf s)(k2):∀(m k:Nat),ts.length<=k+m->k<=ts.length->
  fK c F k2 (m+1) [tabs z ts,.int .i64 (ts.length:Int),.int .i64 (bP (ts.take k)),.int .i64 (k:Int)] s=k2 [.int .i64 (bP ts)] s:=by
 intro m;induction m with
 |zero=>
  intro k h1 h2;obtain rfl:k=ts.length:=by omega
  rw[ug];simp
 |succ m ih=>
  intro k h1 h2;rw[ug];by_cases h:k<ts.length
  . have w:aD .i64 ((k:Int)+1)=((k+1:Nat):Int):=wrap64 (by omega) (by omega);have hs:=Jl hc ts[k] s hw;have e:bP (ts.take (k+1))=bP (ts.take k)+cK ts[k]:=by
        rw[Zb4 h,Jr]
    have b1:=Jq (ts.take k);have b2:=zn ts[k];have b3:(ts.take k).length<=100:=(by simp;omega);have w2:aD .i64 (bP (ts.take k)+cK ts[k])=bP (ts.take (k+1)):=(by rw[e];exact wrap64 (by omega) (by omega));rw[<-ih (k+1) (by omega) (by omega)];simp[tabs,h,hs,w,w2]
  .obtain rfl:k=ts.length:=(by omega);simp
theorem Oi(hc:Sem c)(z:Bool)(ts:List aG)(hl:ts.length<=100)(s:St)(hw:Wf s):c 101 [tabs z ts] s=some (.int .i64 (bP ts),s):=by
 have hF:c 111 [tabs z ts,.int .i64 (ts.length:Int)] s=some (.int .i64 (bP ts),s):=by
  rw[Gh hc 101 (r:=(.int .i64 (bP ts),s)),au (Plain.int _ _) (aP.refl s)];rw[I7];have L:∀k2,fK c 101 k2 101 [tabs z ts,.int .i64 (ts.length:Int),.int .i64 0,.int .i64 0] s=k2 [.int .i64 (bP ts)] s:=λk2=>by have:=Ui hc z ts hl 101 s hw k2 100 0 (by omega) (by omega);simpa [bP]using this
  simp[L]
 rw[Ge hc 1 (r:=(.int .i64 (bP ts),s)),au (Plain.int _ _) (aP.refl s)];rw[I4];simp[hF]
theorem ZZ{d:Nat}(z:Bool)(l:List Int):ew (d+1) (ints z l):=ew.ro λr hr v hv=>by simp only[Zd8]at hr;obtain⟨i,_,rfl⟩:=hr;simp only[Zc7]at hv;subst hv;exact ew.int _ _
theorem Z0{d:Nat}(z:Bool)(l:List (List Nat)):ew (d+1) (ee z l):=ew.ro λr hr v hv=>by simp only[Zd8]at hr;obtain⟨i,_,rfl⟩:=hr;simp only[Zc7]at hv;subst hv;exact ew.str _
theorem Jy(z:Bool)(l:List aL):ew 3 (bk z l):=ew.ro λr hr v hv=>by simp only[Zd8]at hr;obtain⟨g,_,rfl⟩:=hr;simp only[aL.cells,Za5,Zd2,Zh6]at hv;rcases hv with rfl|rfl|rfl|rfl|rfl|rfl|rfl|rfl|rfl<;>first|exact ew.str _|exact ew.int _ _|exact ew.bool _|exact Z0 _ _
theorem abi(z:Bool)(l:List Rl):ew 3 (iG z l):=ew.ro λr hr v hv=>by simp only[Zd8]at hr;obtain⟨g,_,rfl⟩:=hr;simp only[Rl.cells,Za5,Zd2,Zh6]at hv;rcases hv with rfl|rfl|rfl|rfl|rfl|rfl<;>first|exact ew.str _|exact ew.int _ _|exact ew.bool _
theorem gO(z z2:Bool)(gs:List aL)(ts:List Ty):bG [.aq,.aq] [(0,1),(1,1)] [bk z gs,cj z2 ts]=some [bk z gs,cj z2 ts]:=by have e1:(bk z gs).cells=[bk z gs]:=OV _ _ _;have e2:(cj z2 ts).cells=[cj z2 ts]:=OV _ _ _;unfold bG;rw[e1];show bG [bk z gs,.aq] [(1,1)] [cj z2 ts]=_;unfold bG;rw[e2];rfl
def Mj(c:ah)(p:aS):Prop:=(∀st,Wf st->c 150 [.agg [bk p.gz p.gs,cj p.yz p.ys]] st=some (.tuple [.int .i64 (bJ p.gs p.ys).1,.int .i64 (bJ p.gs p.ys).2],st))/\
 ∀st,Wf st->c 137 [.agg [bk p.gz p.gs,cj p.yz p.ys]] st=some (.tuple [.int .i64 (bJ p.gs p.ys).1,.int .i64 (bJ p.gs p.ys).2],st)
theorem ac4 (hc:Sem c)(p:aS)(hp:p.gW)(hR:Mj c p)(st:St)(hw:Wf st):c 119 [.agg p.cells] st=some (.tuple [.int .i64 (fH p).1,.int .i64 (fH p).2],st):=by
 have bV:Wf (af st (.cells p.cells 0)):=bE hw;have FF:=Grew.af hw (.cells p.cells 0);have dH:(af st (.cells p.cells 0)).heap.get st.next=some (.cells p.cells 0):=aE _ _;have A:=Og hc p.tz p.ts hp.ok _ bV;have B:=hR.1 _ bV;have D:=Au hc p.tz p.ts hp.ok _ bV;have L:∀k1 k2,mI c 101 k1 k2 101 [.ptr st.next 0,ints p.cz p.cs,.int .i64 (p.cs.length:Int),.int .i64 0] (af st (.cells p.cells 0))=if kC p.cs=true then k2 [.ptr st.next 0] (af st (.cells p.cells 0))else k1 [.int .i64 0,.int .i64 44] (af st (.cells p.cells 0)):=
   λk1 k2=>ZY (c:=c) p hp st.next 101 (af st (.cells p.cells 0)) k1 k2 100 0 (by have:=hp.cs;omega) (by omega)
 have vk:=λ(K:AV->Option (AV×St))=>An K (p:=st.next) (o:=1) (h:=(af st (.cells p.cells 0)).heap) (h2:=(af st (.cells p.cells 0)).heap) (v:=bk p.gz p.gs) (by rw[dH];rfl) (by rw[dH];rfl) (wX (Jy _ _))
 rw[RU hc 101 (r:=(.tuple [.int .i64 (fH p).1,.int .i64 (fH p).2],af st (.cells p.cells 0))),au (Plain.tuple (by simp[Plain.int])) FF.keeps];rw[Wc];unfold fH;by_cases h1:(bn p.ts).2=0
 . by_cases h2:(bJ p.gs p.ys).2=0
   . simp only[h1,Zf0]at D;by_cases h3:p.cs.length=0
     .  have h4:p.cs=[]:=(by simpa using h3);have L1:kC p.cs=true:=(by rw[h4];rfl);have e0:((p.cs.length:Nat):Int)=0:=(by omega);simp only[L1,Zf0,e0]at L;by_cases h6:bP p.ts<p.gs.length
        .simp[gO,h1,h2,h3,A,B,D,dH,L1,L,vk,h6]
        .simp[gO,h1,h2,h3,A,B,D,dH,L1,L,vk,h6]
     .  by_cases h4:p.cs.length=p.gs.length
        . cases h5:kC p.cs with
          | false=>
            simp only[h5,Zd5,Zd9,h4]at L;have h7:0<p.cs.length:=(by omega);have h8:0<p.gs.length:=(by omega);simp[gO,h1,h2,h3,h4,h5,h7,h8,A,B,dH,L]
          | true=>
            simp only[h5,Zf0,h4]at L;have h7:0<p.cs.length:=(by omega);have h8:0<p.gs.length:=(by omega);by_cases h6:bP p.ts<p.gs.length
            .simp[gO,h1,h2,h3,h4,h5,h7,h8,A,B,D,dH,L,vk,h6]
            .simp[gO,h1,h2,h3,h4,h5,h7,h8,A,B,D,dH,L,vk,h6]
        .have h7:0<p.cs.length:=(by omega);have h4i:¬((p.cs.length:Int)=(p.gs.length:Int)):=(by omega);simp[gO,h1,h2,h3,h4,h4i,h7,A,B,dH]
   .simp[gO,h1,h2,A,B,dH]
 .simp[h1,A,dH]
theorem XN (hc:Sem c)(p:aS)(hp:p.gW)(hR:Mj c p)(st:St)(hw:Wf st):c 108 [.agg p.cells] st=some (.tuple [.int .i64 (fH p).1,.int .i64 (fH p).2],st):=by
 have bV:Wf (af st (.cells p.cells 0)):=bE hw;have FF:=Grew.af hw (.cells p.cells 0);have dH:(af st (.cells p.cells 0)).heap.get st.next=some (.cells p.cells 0):=aE _ _;have A:=Sa hc p.tz p.ts hp.ok _ bV;have B:=hR.2 _ bV;have D:=Oi hc p.tz p.ts hp.ts _ bV;have L:∀k1 k2,fJ c 101 k1 k2 101 [.ptr st.next 0,.int .i64 0] (af st (.cells p.cells 0))=if kC p.cs=true then k2 [.ptr st.next 0] (af st (.cells p.cells 0))else k1 [.int .i64 0,.int .i64 44] (af st (.cells p.cells 0)):=
   λk1 k2=>Uh (c:=c) p hp st.next 101 (af st (.cells p.cells 0)) dH k1 k2 100 0 (by have:=hp.cs;omega) (by omega)
 have vk:=λ(K:AV->Option (AV×St))=>An K (p:=st.next) (o:=1) (h:=(af st (.cells p.cells 0)).heap) (h2:=(af st (.cells p.cells 0)).heap) (v:=bk p.gz p.gs) (by rw[dH];rfl) (by rw[dH];rfl) (wX (Jy _ _))
 rw[Gf hc 101 (r:=(.tuple [.int .i64 (fH p).1,.int .i64 (fH p).2],af st (.cells p.cells 0))),au (Plain.tuple (by simp[Plain.int])) FF.keeps];rw[I5];unfold fH;by_cases h1:(bn p.ts).2=0
 . by_cases h2:(bJ p.gs p.ys).2=0
   . by_cases h3:p.cs.length=0
     .  have h4:p.cs=[]:=(by simpa using h3);have L1:kC p.cs=true:=(by rw[h4];rfl);simp only[L1,Zf0]at L;by_cases h6:bP p.ts<p.gs.length
        .simp[gO,h1,h2,h3,A,B,D,dH,L1,L,vk,h6]
        .simp[gO,h1,h2,h3,A,B,D,dH,L1,L,vk,h6]
     .  by_cases h4:p.cs.length=p.gs.length
        . cases h5:kC p.cs with
          | false=>
            simp only[h5,Zd5,Zd9]at L;have h7:0<p.cs.length:=(by omega);have h8:0<p.gs.length:=(by omega);have h9:¬p.gs=[]:=(by intro e;rw[e]at h8;simp at h8);have Kf:¬p.cs=[]:=(by intro e;rw[e]at h7;simp at h7);simp[gO,h1,h2,h3,h4,h5,h7,h8,h9,Kf,A,B,dH,L]
          | true=>
            simp only[h5,Zf0]at L;have h7:0<p.cs.length:=(by omega);have h8:0<p.gs.length:=(by omega);have h9:¬p.gs=[]:=(by intro e;rw[e]at h8;simp at h8);have Kf:¬p.cs=[]:=(by intro e;rw[e]at h7;simp at h7);by_cases h6:bP p.ts<p.gs.length
            .simp[gO,h1,h2,h3,h4,h5,h7,h8,h9,Kf,A,B,D,dH,L,vk,h6]
            .simp[gO,h1,h2,h3,h4,h5,h7,h8,h9,Kf,A,B,D,dH,L,vk,h6]
        .have h7:0<p.cs.length:=(by omega);have h4i:¬((p.cs.length:Int)=(p.gs.length:Int)):=(by omega);have Kf:¬p.cs=[]:=(by intro e;rw[e]at h7;simp at h7);simp[gO,h1,h2,h3,h4,h4i,h7,Kf,A,B,dH]
   .simp[gO,h1,h2,A,B,dH]
 .simp[h1,A,dH]
theorem abj(z:Bool)(rs:List (List AV))(hl:rs.length<cL)(di:∀cs∈rs,cs.length=9)(g:Nat)(v:List AV)(P:Nat->Bool)(st:St)(F:Nat)(k1 k2)
  (hP:∀i (h:i<rs.length),c g (.agg rs[i]::v) st=some (.bool (P i),st)):∀(m k:Nat),rs.length<=k+m->k<=rs.length->
  bQ c F k1 k2 (m+1) [ro 9 z rs,.func g [] v,.int .i64 (rs.length:Int),.int .i64 (k:Int)] st=if 0<=scan P (rs.length - k) k then k1 [.int .i64 (scan P (rs.length - k) k)] st else k2 [] st:=by
 intro m;induction m with
 |zero=>
  intro k h1 h2;obtain rfl:k=rs.length:=by omega
  rw[iM];simp[scan]
 |succ m ih=>
  intro k h1 h2;rw[iM];by_cases h:k<rs.length
  . have e:rs.length - k=(rs.length - (k+1))+1:=(by omega);have w:aD .i64 ((k:Int)+1)=((k+1:Nat):Int):=wrap64 (by omega) (by unfold cL at hl;omega);have hcut:cut rs[k] 0 9=some rs[k]:=bK (di _ (Zc2 h));have hp:=hP k h;rw[e,scan];cases hb:P k
    .   simp only[Zd5,Zd9];rw[<-ih (k+1) (by omega) (by omega)];simp[h,hcut,hp,hb,w]
    .   simp[h,hcut,hp,hb]
  .obtain rfl:k=rs.length:=(by omega);simp[scan]
theorem aer(hc:Sem c)(z:Bool)(rs:List (List AV))(hl:rs.length<cL)(di:∀cs∈rs,cs.length=9)(g:Nat)(v:List AV)(P:Nat->Bool)(st:St)
   (hP:∀i (h:i<rs.length),c g (.agg rs[i]::v) st=some (.bool (P i),st)):c 213 [ro 9 z rs,.func g [] v] st=some (.int .i64 (scan P rs.length 0),st):=by
 rw[p6 hc (rs.length+1) (r:=(.int .i64 (scan P rs.length 0),st)),au (Plain.int _ _) (aP.refl st)];rw[qV];have L:∀k1 k2,bQ c (rs.length+1) k1 k2 (rs.length+1) [ro 9 z rs,.func g [] v,.int .i64 (rs.length:Int),.int .i64 0] st=if 0<=scan P (rs.length - 0) 0 then k1 [.int .i64 (scan P (rs.length - 0) 0)] st else k2 [] st:=
   λk1 k2=>abj z rs hl di g v P st _ k1 k2 hP rs.length 0 (by omega) (by omega)
 rw[Zl5]at L;by_cases h:0<=scan P rs.length 0
 .simp[L,h]
 .have:=(Hy P rs.length 0).2 (by omega);simp[L,this]
theorem aes(hc:Sem c)(g:aL)(s:List Nat)(p:Pos)(st:St)(hw:Wf st)(hp:st.heap.get p=some (.cells [.str s] 0)):c 214 [.agg g.cells,.ptr p 0] st=some (.bool (decide (g.name=s)),st):=by
 rw[RY hc 1 (r:=(.bool (decide (g.name=s)),af st (.cells g.cells 0))),au (Plain.bool _) (bt hw)];rw[Wh];have:(af st (.cells g.cells 0)).heap.get p=some (.cells [.str s] 0):=bt hw _ _ hp;simp[this]
theorem afl(hc:Sem c)(p:aS)(hp:p.gW)(s:List Nat)(st:St)(hw:Wf st):c 170 [.agg p.cells,.str s] st=some (.int .i64 (scan (gV p.gs s) p.gs.length 0),st):=by
 have bV:Wf (af st (.cells p.cells 0)):=bE hw;have e8:=bE (b:= .cells [.str s] 0) bV;have hg:=(Grew.af hw (.cells p.cells 0)).trans (Grew.af bV (.cells [.str s] 0));have dH:(af (af st (.cells p.cells 0)) (.cells [.str s] 0)).heap.get st.next=some (.cells p.cells 0):=by have:=aE st (.cells p.cells 0);exact(Grew.af bV (.cells [.str s] 0)).get this
 have hi:=aer hc p.gz (p.gs.map aL.cells) (by have:=hp.gs;simp;unfold cL;omega) (λcs eZ=>by
   simp only[Zd8]at eZ;obtain⟨t,_,rfl⟩:=eZ;rfl) 214 [.ptr (af st (.cells p.cells 0)).next 0] (gV p.gs s) (af (af st (.cells p.cells 0)) (.cells [.str s] 0)) (λi hi=>by
   have hi3:i<p.gs.length:=(by simpa using hi);have:=aes hc p.gs[i] s (af st (.cells p.cells 0)).next _ e8 (aE _ _);simp only[Zk8];rw[this];simp[gV,hi3])
 rw[Zb0]at hi;rw[Wl hc 1 (r:=(.int .i64 (scan (gV p.gs s) p.gs.length 0),af (af st (.cells p.cells 0)) (.cells [.str s] 0))),au (Plain.int _ _) hg.keeps];rw[ZS];have e:(AV.str s).cells=[.str s]:=rfl;simp[e,hi,dH,bk]
structure Kd where
 w:List Nat
 a:Int
 b:Bool
 t:Int
 n:Bool
 lo:Int
 q8:Bool
 f:AV
def Kd.cells(k:Kd):List AV:=[.str k.w,.int .u8 k.a,.bool k.b,.int .u8 k.t,.bool k.n,.int .i64 k.lo,.bool k.q8,k.f]
@[simp] theorem Kd.c0(t:Kd):t.cells[0]? =some (.str t.w):=id rfl
@[simp] theorem Kd.c1(t:Kd):t.cells[1]? =some (.int .u8 t.a):=id rfl
@[simp] theorem Kd.c2(t:Kd):t.cells[2]? =some (.bool t.b):=id rfl
@[simp] theorem Kd.c3(t:Kd):t.cells[3]? =some (.int .u8 t.t):=id rfl
@[simp] theorem Kd.c4(t:Kd):t.cells[4]? =some (.bool t.n):=id rfl
@[simp] theorem Kd.c5(t:Kd):t.cells[5]? =some (.int .i64 t.lo):=id rfl
@[simp] theorem Kd.c6(t:Kd):t.cells[6]? =some (.bool t.q8):=id rfl
@[simp] theorem Kd.cc(t:Kd):cut t.cells 0 8=some t.cells:=bK rfl
def Bk(k:Kd)(r:Rl):Bool:=(decide (k.a≠0)||decide (r.a=[]))&&(k.b||decide (r.b=[]))&&(decide (k.t≠0)||decide (r.t=[]))&&(k.n||decide (r.n=0))
theorem ac5 (hc:Sem c)(k:Kd)(r:Rl)(st:St)(hw:Wf st):c 169 [.agg k.cells,.agg r.cells] st=some (.bool (Bk k r),st):=by
 have bV:Wf (af st (.cells k.cells 0)):=bE hw;have wZ:=Grew.af bV (.cells r.cells 0);have hg:=(Grew.af hw (.cells k.cells 0)).trans wZ;have p1:=wZ.get (aE st (.cells k.cells 0));have p2:=aE (af st (.cells k.cells 0)) (.cells r.cells 0);rw[Ku hc 1 (r:=(.bool (Bk k r),af (af st (.cells k.cells 0)) (.cells r.cells 0))),au (Plain.bool _) hg.keeps];rw[Nr];unfold Bk;by_cases h0:k.a=0;rotate_left
 . cases  h2:k.b with
   |true=>
    by_cases h4:k.t=0;rotate_left
    .   cases h6:k.n with
        | true=>
          simp[h0,h2,h4,h6]
        | false=>
          by_cases h7:r.n=0
          .simp[h0,h2,h4,h6,h7]
          .simp[h0,h2,h4,h6,h7]
    by_cases h5:r.t=[]
    .   cases h6:k.n with
        | true=>
          simp[h0,h2,h4,h5,h6]
        | false=>
          by_cases h7:r.n=0
          .simp[h0,h2,h4,h5,h6,h7]
          .simp[h0,h2,h4,h5,h6,h7]
    .   simp[h0,h2,h4,h5]
   |false   =>
    by_cases h3:r.b=[]
    .   by_cases h4:k.t=0;rotate_left
        . cases h6:k.n with
          | true=>
            simp[h0,h2,h3,h4,h6]
          | false=>
            by_cases h7:r.n=0
            .simp[h0,h2,h3,h4,h6,h7]
            .simp[h0,h2,h3,h4,h6,h7]
        by_cases h5:r.t=[]
        . cases h6:k.n with
          | true=>
            simp[h0,h2,h3,h4,h5,h6]
          | false=>
            by_cases h7:r.n=0
            .simp[h0,h2,h3,h4,h5,h6,h7]
            .simp[h0,h2,h3,h4,h5,h6,h7]
        .simp[h0,h2,h3,h4,h5]
    .   simp[h0,h2,h3]
 by_cases h1:r.a=[]
 . cases  h2:k.b with
   |true=>
    by_cases h4:k.t=0;rotate_left
    .   cases h6:k.n with
        | true=>
          simp[h0,h1,h2,h4,h6]
        | false=>
          by_cases h7:r.n=0
          .simp[h0,h1,h2,h4,h6,h7]
          .simp[h0,h1,h2,h4,h6,h7]
    by_cases h5:r.t=[]
    .   cases h6:k.n with
        | true=>
          simp[h0,h1,h2,h4,h5,h6]
        | false=>
          by_cases h7:r.n=0
          .simp[h0,h1,h2,h4,h5,h6,h7]
          .simp[h0,h1,h2,h4,h5,h6,h7]
    .   simp[h0,h1,h2,h4,h5]
   |false   =>
    by_cases h3:r.b=[]
    .   by_cases h4:k.t=0;rotate_left
        . cases h6:k.n with
          | true=>
            simp[h0,h1,h2,h3,h4,h6]
          | false=>
            by_cases h7:r.n=0
            .simp[h0,h1,h2,h3,h4,h6,h7]
            .simp[h0,h1,h2,h3,h4,h6,h7]
        by_cases h5:r.t=[]
        . cases h6:k.n with
          | true=>
            simp[h0,h1,h2,h3,h4,h5,h6]
          | false=>
            by_cases h7:r.n=0
            .simp[h0,h1,h2,h3,h4,h5,h6,h7]
            .simp[h0,h1,h2,h3,h4,h5,h6,h7]
        .simp[h0,h1,h2,h3,h4,h5]
    .   simp[h0,h1,h2,h3]
 .simp[h0,h1]
theorem xO{R:Type}(P:(List AV->St->Option R)->Prop){A:(List AV->St->Option R)->Option R}{T:List AV->St->Option R}{r:Option R}(hT:P T)(hA:∀j,P j->A j=r):gK A T=r:=hA T hT
theorem Jz{R:Type}(c:ah)(K:AV->St->Option R)(st:St)(es:Nat)(z:Bool)(rs:List (List AV))(k k':IntKind)(i j:Nat)(h:i<j)(h2:j<=rs.length):
  ai c (.sliceL es true true false) [ro es z rs,.int k (i:Int),.int k' (j:Int)] st K=K (ro es false ((rs.take j).drop i)) st:=by
 have:∀H n,az.run H n (.sliceL es true true false) [ro es z rs,.int k (i:Int),.int k' (j:Int)]=some (.val (ro es false ((rs.take j).drop i))):=λH n=>by
  rw[Yi (by intro e;subst e;simp at h2;omega)];have h3:i<=j:=by omega
  simp[az.run,oT,bounds,ir,dX,dK,h3,h2,ro]
 exact aY c K this st
theorem Tz(ts:List aG):∀(m k:Nat),(dx ts m k).2=0->∀i,k<=i->i<k+m->∀h:i<ts.length,q7 ts[i]=0
 |0,k,_,i,h1,h2,_=>by omega
 |m +   1,k,h,i,h1,h2,hi=>by
  have hk:k<ts.length:=by omega
  rw[dx,H1 hk]at h;simp only at h;by_cases h3:q7 ts[k]=0
  . rw[Za1 (by simp[h3])]at h;by_cases h4:0<=scan (iF ts ts[k].name) k 0
    .   rw[Za2 h4]at h;simp at h
    .   rw[Za1 h4]at h;by_cases e:i=k
        .subst e;exact h3
        .exact Tz ts m (k+1) h i (by omega) (by omega) hi
  .rw[Za2 h3]at h;exact absurd h h3
theorem Bl{ts:List aG}(h:(bn ts).2=0)(i:Nat)(hi:i<ts.length):q7 ts[i]=0:=by
 unfold bn at h;split at h
 .simp at h
 .exact Tz ts ts.length 0 h i (by omega) (by omega) hi
theorem FG{t:aG}(h:q7 t=0):(bn [t]).2=0:=by
 simp[bn,dx,h,scan]
def gi(p:aS)(s:List Nat):Int:=scan (gV p.gs s) p.gs.length 0
def ti(p:aS)(s:List Nat):Int:=scan (iF p.ts s) p.ts.length 0
def sU(p:aS)(i:Int):Int:=match p.ts[i.toNat]? with
 |some t=>cK t
 |none=>0
def wG(k:Kd)(r:Rl)(m:Int):Int:=if k.n=true/\(r.n<k.lo\/m<r.n)then 42 else 0
def Q1(k:Kd)(p:aS)(r:Rl):Int:=
 if(k.t=116/\ti p r.t<0)\/(k.t=101/\r.t≠[]/\ti p r.t<0)then 6
 else wG k r (if k.q8=true then sU p (ti p r.t) - 1 else 24)
def WU(k:Kd)(p:aS)(r:Rl):Int:=
 if k.a=100/\eC r.a=false then 4 else if k.b=true/\r.a=r.b then 5 else Q1 k p r
def Gm(k:Kd)(p:aS)(r:Rl):Int:=
 if k.w=[]then 40 else if r.wt<0\/1000<r.wt then 41 else if Bk k r=false then 43
 else if(k.a=103/\gi p r.a<0)\/(k.a=101/\r.a≠[]/\gi p r.a<0)\/(k.b=true/\gi p r.b<0)then 6
 else WU k p r
theorem abk (hc : Sem c)(k:Kd)(hk:k.q8=true->k.t=116)(p:aS)(hp:p.gW)(hv:(bn p.ts).2=0)(r:Rl)(st:St)(hw:Wf st):
   c 121 [.agg k.cells,.agg p.cells,.agg r.cells] st=some (.int .i64 (Gm k p r),st):=by
 have bV:Wf (af st (.cells k.cells 0)):=bE hw;have e8:=bE (b:= .cells p.cells 0) bV;have hg3:=Grew.af e8 (.cells r.cells 0);have wZ:=Grew.af bV (.cells p.cells 0);have hg:=((Grew.af hw (.cells k.cells 0)).trans wZ).trans hg3;have WV:=hg.wf;have p1:=hg3.get (wZ.get (aE st (.cells k.cells 0)));have p2:=hg3.get (aE (af st (.cells k.cells 0)) (.cells p.cells 0));have p3:=aE (af (af st (.cells k.cells 0)) (.cells p.cells 0)) (.cells r.cells 0);have A:=λs=>afl hc p hp s _ WV
 have B:=ac5 hc k r _ WV;have D:=ael hc p.tz p.ts hp.ok (by have:=hp.ts;unfold cL;omega) r.t _ WV;have N:=Wo hc r.a (af (af (af st (.cells k.cells 0)) (.cells p.cells 0)) (.cells r.cells 0));rw[Kq hc 1 (r:=(.int .i64 (Gm k p r),af (af (af st (.cells k.cells 0)) (.cells p.cells 0)) (.cells r.cells 0))),au (Plain.int _ _) hg.keeps];rw[Nm];simp only[tT,aJ,AV.cells];generalize af (af (af st (.cells k.cells 0)) (.cells p.cells 0)) (.cells r.cells 0)=s at*
 generalize (af (af st (.cells k.cells 0)) (.cells p.cells 0)).next=q3 at*
 generalize (af st (.cells k.cells 0)).next=q2 at*
 generalize st.next=q1 at*
 refine xO (P:=λj=>j [.ptr q1 0,.ptr q2 0,.ptr q3 0] s=some (.int .i64 (Q1 k p r),s)) ?_ ?_
 . have D2  : c 172 [tabs p.tz p.ts,.str r.t] s=some (.tuple [.int .i64 (if 0<=ti p r.t then ti p r.t else 0),.bool (decide (0<=ti p r.t))],s):=(by simp only[hv,Zn2]at D;exact D);have JT:=Jn (P:=iF p.ts r.t) p.ts.length 0;clear D A B N hg wZ hg3 hw bV e8;unfold Q1;by_cases ht:0<=ti p r.t
   . have Ml  : ¬ ti p r.t<0:=(by omega);obtain⟨i,hi⟩:∃i:Nat,ti p r.t=(i:Int):=⟨(ti p r.t).toNat,by omega⟩
     have jY:i<p.ts.length:=(by have:=(JT ht).2.1;unfold ti at hi;rw[hi]at this;simpa using this);simp only[ht,Zf0,Zj2]at D2;by_cases h1:k.t=116
     .  simp[ p1,p2,p3,D2,h1,Ml];refine xO (P:=λj=>∀m,j [.ptr q1 0,.ptr q3 0,.int .i64 m] s=some (.int .i64 (wG k r m),s)) ?_ ?_
        . intro m;unfold wG;cases hn:k.n with
          |false=>simp[p1,hn]
          | true=>
            by_cases e1:r.n<k.lo
            .simp[p1,p3,hn,e1]
            . by_cases e2:m<r.n
              .simp[p1,p3,hn,e1,e2]
              .simp[p1,p3,hn,e1,e2]
        . intro j hj;cases hs:k.q8 with
          |false=>simp[p1,hs,hj]
          | true=>
            have w:aD .i64 ((i:Int)+1)=(i:Int)+1:=(by have:=hp.ts;exact wrap64 (by omega) (by omega));have cnt:=Au hc false [p.ts[i]] (λt ht=>by simp only[Zc7]at ht;subst ht;exact hp.ok _ (Zc2 jY)) s WV;rw[Za2 (FG (Bl hv i jY)),show bP [p.ts[i]]=cK p.ts[i]by simp[bP]]at cnt;have b:=zn p.ts[i];have w2:aD .i64 (cK p.ts[i] - 1)=cK p.ts[i] - 1:=wrap64 (by omega) (by omega);have hcut:∀K:AV->St->Option (AV×St),ai c (.sliceL 7 true true false) [tabs p.tz p.ts,.int .i64 (i:Int),.int .i64 ((i:Int)+1)] s K=K (tabs false [p.ts[i]]) s:=λK=>by
              (unfold tabs;have:=Jz c K s 7 p.tz (p.ts.map aG.cells) .i64 .i64 i (i+1) (by omega) (by rw[Zb0];omega);rw[show((i:Int)+1)=((i+1:Nat):Int)by omega,this];have e:((p.ts.map aG.cells).take (i+1)).drop i=[p.ts[i]].map aG.cells:=by rw[Zb4 (by simpa using jY),Zf6 (by simp;omega)];simp);rw[e]
            have e3:sU p (i:Int)=cK p.ts[i]:=(by simp[sU,jY]);simp[p1,p2,hs,hi,e3,w,hcut,cnt,hj,w2]
     .  by_cases h2 :k.t=101
        . by_cases h3:r.t=[]
          . simp only[h3]at D2 Ml hi;simp[p1,p2,p3,D2,h1,h2,h3,Ml];refine xO (P:=λj=>∀m,j [.ptr q1 0,.ptr q3 0,.int .i64 m] s=some (.int .i64 (wG k r m),s)) ?_ ?_
            . intro m;unfold wG;cases hn:k.n with
              |false=>simp[p1,hn]
              | true=>
                by_cases e1:r.n<k.lo
                .simp[p1,p3,hn,e1]
                . by_cases e2:m<r.n
                  .simp[p1,p3,hn,e1,e2]
                  .simp[p1,p3,hn,e1,e2]
            . intro j hj;cases hs:k.q8 with
              |false=>simp[p1,hs,hj]
              | true=>
                have w:aD .i64 ((i:Int)+1)=(i:Int)+1:=(by have:=hp.ts;exact wrap64 (by omega) (by omega));have cnt:=Au hc false [p.ts[i]] (λt ht=>by simp only[Zc7]at ht;subst ht;exact hp.ok _ (Zc2 jY)) s WV;rw[Za2 (FG (Bl hv i jY)),show bP [p.ts[i]]=cK p.ts[i]by simp[bP]]at cnt;have b:=zn p.ts[i];have w2:aD .i64 (cK p.ts[i] - 1)=cK p.ts[i] - 1:=wrap64 (by omega) (by omega);have hcut:∀K:AV->St->Option (AV×St),ai c (.sliceL 7 true true false) [tabs p.tz p.ts,.int .i64 (i:Int),.int .i64 ((i:Int)+1)] s K=K (tabs false [p.ts[i]]) s:=λK=>by
                  (unfold tabs;have:=Jz c K s 7 p.tz (p.ts.map aG.cells) .i64 .i64 i (i+1) (by omega) (by rw[Zb0];omega);rw[show((i:Int)+1)=((i+1:Nat):Int)by omega,this];have e:((p.ts.map aG.cells).take (i+1)).drop i=[p.ts[i]].map aG.cells:=by rw[Zb4 (by simpa using jY),Zf6 (by simp;omega)];simp);rw[e]
                have e3:sU p (i:Int)=cK p.ts[i]:=(by simp[sU,jY]);simp[p1,p2,hs,hi,e3,w,hcut,cnt,hj,w2]
          . simp[ p1,p2,p3,D2,h1,h2,h3,Ml];refine xO (P:=λj=>∀m,j [.ptr q1 0,.ptr q3 0,.int .i64 m] s=some (.int .i64 (wG k r m),s)) ?_ ?_
            . intro m;unfold wG;cases hn:k.n with
              |false=>simp[p1,hn]
              | true=>
                by_cases e1:r.n<k.lo
                .simp[p1,p3,hn,e1]
                . by_cases e2:m<r.n
                  .simp[p1,p3,hn,e1,e2]
                  .simp[p1,p3,hn,e1,e2]
            . intro j hj;cases hs:k.q8 with
              |false=>simp[p1,hs,hj]
              | true=>
                have w:aD .i64 ((i:Int)+1)=(i:Int)+1:=(by have:=hp.ts;exact wrap64 (by omega) (by omega));have cnt:=Au hc false [p.ts[i]] (λt ht=>by simp only[Zc7]at ht;subst ht;exact hp.ok _ (Zc2 jY)) s WV;rw[Za2 (FG (Bl hv i jY)),show bP [p.ts[i]]=cK p.ts[i]by simp[bP]]at cnt;have b:=zn p.ts[i];have w2:aD .i64 (cK p.ts[i] - 1)=cK p.ts[i] - 1:=wrap64 (by omega) (by omega);have hcut:∀K:AV->St->Option (AV×St),ai c (.sliceL 7 true true false) [tabs p.tz p.ts,.int .i64 (i:Int),.int .i64 ((i:Int)+1)] s K=K (tabs false [p.ts[i]]) s:=λK=>by
                  (unfold tabs;have:=Jz c K s 7 p.tz (p.ts.map aG.cells) .i64 .i64 i (i+1) (by omega) (by rw[Zb0];omega);rw[show((i:Int)+1)=((i+1:Nat):Int)by omega,this];have e:((p.ts.map aG.cells).take (i+1)).drop i=[p.ts[i]].map aG.cells:=by rw[Zb4 (by simpa using jY),Zf6 (by simp;omega)];simp);rw[e]
                have e3:sU p (i:Int)=cK p.ts[i]:=(by simp[sU,jY]);simp[p1,p2,hs,hi,e3,w,hcut,cnt,hj,w2]
        . simp[ p1,p2,p3,D2,h1,h2,Ml];refine xO (P:=λj=>∀m,j [.ptr q1 0,.ptr q3 0,.int .i64 m] s=some (.int .i64 (wG k r m),s)) ?_ ?_
          . intro m;unfold wG;cases hn:k.n with
            |false=>simp[p1,hn]
            | true=>
              by_cases e1:r.n<k.lo
              .simp[p1,p3,hn,e1]
              . by_cases e2:m<r.n
                .simp[p1,p3,hn,e1,e2]
                .simp[p1,p3,hn,e1,e2]
          . intro j hj;cases hs:k.q8 with
            |false=>simp[p1,hs,hj]
            | true=>
              have w:aD .i64 ((i:Int)+1)=(i:Int)+1:=(by have:=hp.ts;exact wrap64 (by omega) (by omega));have cnt:=Au hc false [p.ts[i]] (λt ht=>by simp only[Zc7]at ht;subst ht;exact hp.ok _ (Zc2 jY)) s WV;rw[Za2 (FG (Bl hv i jY)),show bP [p.ts[i]]=cK p.ts[i]by simp[bP]]at cnt;have b:=zn p.ts[i];have w2:aD .i64 (cK p.ts[i] - 1)=cK p.ts[i] - 1:=wrap64 (by omega) (by omega);have hcut:∀K:AV->St->Option (AV×St),ai c (.sliceL 7 true true false) [tabs p.tz p.ts,.int .i64 (i:Int),.int .i64 ((i:Int)+1)] s K=K (tabs false [p.ts[i]]) s:=λK=>by
                (unfold tabs;have:=Jz c K s 7 p.tz (p.ts.map aG.cells) .i64 .i64 i (i+1) (by omega) (by rw[Zb0];omega);rw[show((i:Int)+1)=((i+1:Nat):Int)by omega,this];have e:((p.ts.map aG.cells).take (i+1)).drop i=[p.ts[i]].map aG.cells:=by rw[Zb4 (by simpa using jY),Zf6 (by simp;omega)];simp);rw[e]
              have e3:sU p (i:Int)=cK p.ts[i]:=(by simp[sU,jY]);simp[p1,p2,hs,hi,e3,w,hcut,cnt,hj,w2]
   . have Ml  : ti p r.t<0:=(by omega);simp only[ht,Zd9,Zo2]at D2;by_cases h1:k.t=116
     .  simp[p1,p2,p3,D2,h1,Ml]
     .  by_cases h2:k.t=101
        . by_cases h3:r.t=[]
          . simp only[h3]at D2 Ml;simp[p1,p2,p3,D2,h1,h2,h3,Ml];refine xO (P:=λj=>∀m,j [.ptr q1 0,.ptr q3 0,.int .i64 m] s=some (.int .i64 (wG k r m),s)) ?_ ?_
            . intro m;unfold wG;cases hn:k.n with
              |false=>simp[p1,hn]
              | true=>
                by_cases e1:r.n<k.lo
                .simp[p1,p3,hn,e1]
                . by_cases e2:m<r.n
                  .simp[p1,p3,hn,e1,e2]
                  .simp[p1,p3,hn,e1,e2]
            . intro j hj;have hs:k.q8=false:=by
                cases h:k.q8 with
                |false=>rfl
                |true=>exact absurd (hk h) h1
              simp[p1,hs,hj]
          .simp[p1,p2,p3,D2,h1,h2,h3,Ml]
        . simp[ p1,p2,p3,D2,h1,h2,Ml];refine xO (P:=λj=>∀m,j [.ptr q1 0,.ptr q3 0,.int .i64 m] s=some (.int .i64 (wG k r m),s)) ?_ ?_
          . intro m;unfold wG;cases hn:k.n with
            |false=>simp[p1,hn]
            | true=>
              by_cases e1:r.n<k.lo
              .simp[p1,p3,hn,e1]
              . by_cases e2:m<r.n
                .simp[p1,p3,hn,e1,e2]
                .simp[p1,p3,hn,e1,e2]
          . intro j hj;have hs:k.q8=false:=by
              cases h:k.q8 with
              |false=>rfl
              |true=>exact absurd (hk h) h1
            simp[p1,hs,hj]
 . intro  j hj;have A2:∀nm,c 170 [.agg p.cells,.str nm] s=some (.int .i64 (gi p nm),s):=A;have cc:cut r.cells 0 6=some r.cells:=bK rfl;clear A D hg wZ hg3 hw bV e8;unfold Gm;by_cases h0:k.w=[]
   .simp[p1,h0]
   by_cases h1:r.wt<0
   .simp[p1,p3,h0,h1]
   by_cases h2:1000<r.wt
   .simp[p1,p3,h0,h1,h2]
   cases h3:Bk k r with
   |false=>simp[p1,p3,h0,h1,h2,B,h3]
   |true=>
   simp[p1,p3,h0,h1,h2,B,h3];refine xO (P:=λj'=>∀b:Bool,j' [.ptr q1 0,.ptr q2 0,.ptr q3 0,.bool b] s=some (.int .i64 (if b=true then 6 else WU k p r),s)) ?_ ?_
   . intro  b;cases b with
     |true=>simp
     |  false =>
        unfold WU;by_cases a1:k.a=100
        . cases a2:eC r.a with
          |false=>simp[p1,p3,a1,a2,N]
          | true=>
            cases b1:k.b with
            |false=>simp[p1,p3,a1,a2,N,b1,hj]
            | true=>
              by_cases b2:r.a=r.b
              .rw[b2]at a2 N;simp[p1,p3,a1,a2,N,b1,b2]
              .simp[p1,p3,a1,a2,N,b1,b2,hj]
        . cases b1:k.b with
          |false=>simp[p1,p3,a1,b1,hj]
          | true=>
            by_cases b2:r.a=r.b
            .simp[p1,p3,a1,b1,b2]
            .simp[p1,p3,a1,b1,b2,hj]
   . intro  j' BT;have K6:=BT true;have K0:=BT false;simp only[Zf0,Zd5,Zd9]at K6 K0;clear BT hj;by_cases a1:k.a=103
     .  by_cases g1:gi p r.a<0
        .simp[p1,p2,p3,a1,A2,g1,K6]
        . cases b1:k.b with
          |false=>simp[p1,p2,p3,a1,A2,g1,b1,K0]
          | true=>
            by_cases g2:gi p r.b<0
            .simp[p1,p2,p3,a1,A2,g1,g2,b1,K6]
            .simp[p1,p2,p3,a1,A2,g1,g2,b1,K0]
     .  by_cases a2:k.a=101
        . by_cases e:r.a=[]
          . cases b1:k.b with
            |false=>simp[p1,p2,p3,a1,a2,e,A2,b1,K0]
            | true=>
              by_cases g2:gi p r.b<0
              .simp[p1,p2,p3,a1,a2,e,A2,g2,b1,K6]
              .simp[p1,p2,p3,a1,a2,e,A2,g2,b1,K0]
          . by_cases g1:gi p r.a<0
            .simp[p1,p2,p3,a1,a2,e,A2,g1,K6]
            . cases b1:k.b with
              |false=>simp[p1,p2,p3,a1,a2,e,A2,g1,b1,K0]
              | true=>
                by_cases g2:gi p r.b<0
                .simp[p1,p2,p3,a1,a2,e,A2,g1,g2,b1,K6]
                .simp[p1,p2,p3,a1,a2,e,A2,g1,g2,b1,K0]
        . cases b1:k.b with
          |false=>simp[p1,p2,p3,a1,a2,A2,b1,K0]
          | true=>
            by_cases g2:gi p r.b<0
            .simp[p1,p2,p3,a1,a2,A2,g2,b1,K6]
            .simp[p1,p2,p3,a1,a2,A2,g2,b1,K0]
def kd:Nat->Kd
 |1=>⟨[97,112,97,114,116],103,true,0,true,0,false,.func 151 [] []⟩
 |2=>⟨[98,101,115,105,100,101],103,true,0,false,0,false,.func 152 [] []⟩
 |3=>⟨[97,99,114,111,115,115],103,true,0,false,0,false,.func 153 [] []⟩
 |4=>⟨[110,101,97,114],103,true,0,true,1,false,.func 154 [] []⟩
 |5=>⟨[116,111,103,101,116,104,101,114],103,true,0,false,0,false,.func 155 [] []⟩
 |6=>⟨[97,116],103,false,116,false,0,false,.func 156 [] []⟩
 |7=>⟨[115,101,97,116],103,false,116,true,0,true,.func 157 [] []⟩
 |8=>⟨[97,108,116,101,114,110,97,116,101],0,false,101,false,0,false,.func 158 [] []⟩
 |9=>⟨[104,111,115,116],0,false,101,false,0,false,.func 159 [] []⟩
 |10=>⟨[114,101,97,99,104],101,false,0,false,0,false,.func 160 [] []⟩
 |11=>⟨[115,112,101,97,107],0,false,101,false,0,false,.func 161 [] []⟩
 |12=>⟨[112,101,97,99,101],0,false,101,false,0,false,.func 162 [] []⟩
 |13=>⟨[99,111,109,112,97,110,121],0,false,101,false,0,false,.func 163 [] []⟩
 |14=>⟨[104,111,110,111,117,114],0,false,101,false,0,false,.func 164 [] []⟩
 |15=>⟨[102,105,108,108],0,false,101,true,0,false,.func 165 [] []⟩
 |16=>⟨[108,105,109,105,116],0,false,101,true,0,false,.func 166 [] []⟩
 |17=>⟨[107,105,116,99,104,101,110],100,false,116,false,0,false,.func 167 [] []⟩
 |18=>⟨[109,105,120],0,false,101,false,0,false,.func 168 [] []⟩
 |_=>⟨[],0,false,0,false,0,false,.iQ⟩
def TA:List (AV×AV×Nat):=[(.int .u8 1,.agg (kd 1).cells,0),(.int .u8 2,.agg (kd 2).cells,1),(.int .u8 3,.agg (kd 3).cells,2),(.int .u8 4,.agg (kd 4).cells,3),(.int .u8 5,.agg (kd 5).cells,4),(.int .u8 6,.agg (kd 6).cells,5),(.int .u8 7,.agg (kd 7).cells,6),(.int .u8 8,.agg (kd 8).cells,7),(.int .u8 9,.agg (kd 9).cells,8),(.int .u8 10,.agg (kd 10).cells,9),(.int .u8 11,.agg (kd 11).cells,10),(.int .u8 12,.agg (kd 12).cells,11),(.int .u8 13,.agg (kd 13).cells,12),(.int .u8 14,.agg (kd 14).cells,13),(.int .u8 15,.agg (kd 15).cells,14),(.int .u8 16,.agg (kd 16).cells,15),(.int .u8 17,.agg (kd 17).cells,16),(.int .u8 18,.agg (kd 18).cells,17)]
theorem Uj(p:Pos):¬Plain (.map p):=λh=>by have:=h (λ_=>(⟨0,0,0⟩:Go.Ai.Loc)) (λ_=>⟨1,0,0⟩) (p.toNat+1) (p.toNat+1) (λ_=>none) _ (.map p (Nat.lt_succ_self _));cases this
theorem ac6(st:St)(p:Pos)(s':St):tidy st (.map p,s')=(.map p,s'):=by unfold tidy;rw[Za1];exact λe=>Uj p e.1
theorem cC{R:Type}(c:ah)(K:AV->St->Option R)(st:St)(z:List AV)(ps:List (Nat×Nat))(xs l:List AV)(h:bG z ps xs=some l):ai c (.build z ps) xs st K=K (.agg l) st:=by rw[aaS,h];rfl
theorem cN{R:Type}(c:ah)(K:AV->St->Option R)(st:St)(es:List (AV×AV×Nat))(cl:Nat)(k:IntKind)(x:Int)(v:AV)(hf:iT .i (.int k x) es 0=some none):
  ai c (.mapSet .i) [.map st.next,.int k x,v] (af st (.map es cl)) K=K .undef (af st (.map (es++[(.int k x,v,cl)]) (cl+1))):=by
 have:az.run (λb=>(af st (.map es cl)).heap.get b) (af st (.map es cl)).next (.mapSet .i) [.map st.next,.int k x,v]=some (.aF .undef none (some (st.next,.map (es++[(.int k x,v,cl)]) (cl+1))) none):=by
  simp[az.run,wN,hf,Y9]
 unfold ai aV;rw[this];show K .undef (eG (af st (.map es cl)) st.next _)=_;rw[RB]
theorem ac7(hc:Sem c)(s:St):c 120 [] s=some (.map s.next,af s (.map TA 18)):=by
 rw[RV hc 1 (r:=(.map s.next,af s (.map TA 18))),ac6];rw[Wd];rw[aJ,aaV];rw[cC (l:=(kd 1).cells) (h:=rfl),cN (hf:=rfl)];rw[cC (l:=(kd 2).cells) (h:=rfl),cN (hf:=rfl)];rw[cC (l:=(kd 3).cells) (h:=rfl),cN (hf:=rfl)];rw[cC (l:=(kd 4).cells) (h:=rfl),cN (hf:=rfl)];rw[cC (l:=(kd 5).cells) (h:=rfl),cN (hf:=rfl)];rw[cC (l:=(kd 6).cells) (h:=rfl),cN (hf:=rfl)];rw[cC (l:=(kd 7).cells) (h:=rfl),cN (hf:=rfl)];rw[cC (l:=(kd 8).cells) (h:=rfl),cN (hf:=rfl)];rw[cC (l:=(kd 9).cells) (h:=rfl),cN (hf:=rfl)];rw[cC (l:=(kd 10).cells) (h:=rfl),cN (hf:=rfl)];rw[cC (l:=(kd 11).cells) (h:=rfl),cN (hf:=rfl)];rw[cC (l:=(kd 12).cells) (h:=rfl),cN (hf:=rfl)];rw[cC (l:=(kd 13).cells) (h:=rfl),cN (hf:=rfl)];rw[cC (l:=(kd 14).cells) (h:=rfl),cN (hf:=rfl)];rw[cC (l:=(kd 15).cells) (h:=rfl),cN (hf:=rfl)];rw[cC (l:=(kd 16).cells) (h:=rfl),cN (hf:=rfl)];rw[cC (l:=(kd 17).cells) (h:=rfl),cN (hf:=rfl)];rw[cC (l:=(kd 18).cells) (h:=rfl),cN (hf:=rfl)];rw[aJ,aJ]
 .rfl
theorem aet{R:Type}(c:ah)(K:AV->St->Option R)(st:St)(m:Pos)(cl:Nat)(h:st.heap.get m=some (.map TA cl))(n:Nat):
   ai c (.lookup .i (.agg [.str [],.int .u8 0,.bool false,.int .u8 0,.bool false,.int .i64 0,.bool false,.iQ]) false) [.map m,.int .u8 (n:Int)] st K=K (.agg (kd n).cells) st:=by
 have e:iT .i (.int .u8 (n:Int)) TA 0=some (if 1<=n/\n<=18 then some (n - 1,.agg (kd n).cells)else none):=by
   by_cases h:n<=18
   .have:n=0\/n=1\/n=2\/n=3\/n=4\/n=5\/n=6\/n=7\/n=8\/n=9\/n=10\/n=11\/n=12\/n=13\/n=14\/n=15\/n=16\/n=17\/n=18:=(by omega);rcases this with rfl|rfl|rfl|rfl|rfl|rfl|rfl|rfl|rfl|rfl|rfl|rfl|rfl|rfl|rfl|rfl|rfl|rfl|rfl<;>rfl
   . have Wz:∀j:Int,j<=18->AG (n:Int) j=false:=λj hj=>by rw[iV];simp;omega
     rw[Za1 (by omega)];simp[TA,iT,uE,Wz,cv]
 have:∀z:AV,az.run (λb=>st.heap.get b) st.next (.lookup .i z false) [.map m,.int .u8 (n:Int)]=some (.val (if 1<=n/\n<=18 then .agg (kd n).cells else z)):=λz=>by
   simp only[az.run,wM,h,e];by_cases h1:1<=n/\n<=18
   .rw[Za2 h1,Za2 h1]
   .rw[Za1 h1,Za1 h1]
 unfold ai aV;rw[this];by_cases h1:1<=n/\n<=18
 .rw[Za2 h1]
 .rw[Za1 h1];have:kd n=⟨[],0,false,0,false,0,false,.iQ⟩:=(by unfold kd;split<;>first|rfl|omega);rw[this];rfl
theorem aeu(n:Nat):(kd n).q8=true->(kd n).t=116:=by unfold kd;split<;>simp
def Rl.Ok(r:Rl):Prop:=0<=r.k/\r.k<256
def vX(p:aS)(r:Rl):Int:=Gm (kd r.k.toNat) p r
def eI(p:aS):Nat->Nat->Int×Int
 |0,_=>(0,0)
 |  m+1,i=>match p.rs[i]? with
    |none=>(0,0)
    |some r=>if vX p r≠0 then((i:Int),vX p r)else if i=64 then((i:Int),7)else eI p m (i+1)
theorem Gn(p:aS):∀(m i:Nat),(eI p m i).2=0->(eI p m i).1=0
 |0,_,_=>rfl
 |m+    1,i,h=>by
  rw[eI]at h ⊢;cases h0:p.rs[i]? with
  |none=>rfl
  |some r=>
   rw[h0]at h;simp only at h ⊢;by_cases h1:vX p r=0
   .    rw[Za1 (by simp[h1])]at h ⊢;by_cases h2:i=64
        .rw[Za2 h2]at h;simp at h
        .rw[Za1 h2]at h ⊢; exact Gn p m (i+1) h
   .    rw[Za2 h1]at h;exact absurd h h1
def cg(p:aS):Int×Int:=if(fH p).2≠0 then fH p else eI p 100 0
theorem Z3(hc:Sem c)(p:aS)(hp:p.gW)(hr:∀r∈p.rs,r.Ok)(hv:(bn p.ts).2=0)(q1 mp:Pos)(cl:Nat)(F:Nat)(k1 k2):∀(m k:Nat)(st:St),Wf st->st.heap.get q1=some (.cells p.cells 0)->st.heap.get mp=some (.map TA cl)->p.rs.length<=k+m->k<=p.rs.length->
  ∃st',Grew st st'/\qA c F k1 k2 (m+1) [.ptr q1 0,.map mp,iG p.rz p.rs,.int .i64 (p.rs.length:Int),.int .i64 (k:Int)] st=if(eI p m k).2=0 then k2 [] st' else k1 [.int .i64 (eI p m k).1,.int .i64 (eI p m k).2] st':=by
 have hl:=hp.rs;intro m;induction m with
 |zero=>
  intro k st hw h1 h2 h3 h4;obtain rfl:k=p.rs.length:=by omega
  refine⟨st,Grew.refl hw,?_⟩;rw[yM];simp[eI]
 |succ m ih=>
  intro k st hw hq hm h3 h4;by_cases h:k<p.rs.length
  . have w:aD .i64 ((k:Int)+1)=((k+1:Nat):Int):=wrap64 (by omega) (by omega);have bV:Wf (af st (.cells p.rs[k].cells 0)):=bE hw;have hg:=Grew.af hw (.cells p.rs[k].cells 0);have hq1:=hg.get hq;have je:=hg.get hm;have hn:=aE st (.cells p.rs[k].cells 0);obtain⟨n,hk⟩:∃n:Nat,p.rs[k].k=(n:Int):=⟨p.rs[k].k.toNat,by have:=(hr _ (Zc2 h)).1;omega⟩
    have KQ:=abk hc (kd n) (aeu n) p hp hv p.rs[k] _ bV;have hS:vX p p.rs[k]=Gm (kd n) p p.rs[k]:=(by unfold vX;rw[hk];rfl);have Iy:=λ(K:AV->St->Option (AV×St))=>aet c K _ mp cl je n
    have oX:=λ(K:AV->St->Option (AV×St))=>dR c K st 6 (.agg p.rs[k].cells) [.int .u8 0,.int .i64 0,.str [],.str [],.str [],.int .i64 0] rfl rfl (Rl.one _)
    rw[show(AV.agg p.rs[k].cells).cells=p.rs[k].cells from rfl]at oX;rw[<-hS]at KQ;rw[<-hk]at Iy;obtain⟨st',g1,g2⟩:=ih (k+1) _ bV hq1 je (by omega) (by omega);rw[yM,eI,H1 h];simp only;by_cases h5:vX p p.rs[k]=0
    .   rw[Za1 (by simp[h5])];by_cases h6:k=64
        .refine⟨_,hg,?_⟩;rw[Za2 h6];have WW:decide ((k:Int)=64)=true:=(by simp only[Zc8];omega);simp[-dR,oX,iG,h,hq1,je,Iy,KQ,h5,WW]
        .refine⟨st',hg.trans g1,?_⟩;rw[Za1 h6, <-g2];have WW:¬(k:Int)=64:=(by omega);simp[-dR,oX,iG,h,hq1,je,Iy,KQ,h5,WW,w]
    .   refine⟨_,hg,?_⟩;rw[Za2 h5];simp[-dR,oX,iG,h,hq1,je,Iy,KQ,h5]
  .obtain rfl:k=p.rs.length:=(by omega);refine⟨st,Grew.refl hw,?_⟩;rw[yM];simp[eI]
theorem Oj{p:aS}(h:(fH p).2=0):(bn p.ts).2=0:=by
 unfold fH at h;by_cases h1:(bn p.ts).2=0
 .exact h1
 .rw[Za2 h1]at h;exact absurd h h1
theorem Uk(hc:Sem c)(p:aS)(hp:p.gW)(hR:Mj c p)(hr:∀r∈p.rs,r.Ok)(st:St)(hw:Wf st):c 77 [.agg p.cells] st=some (.tuple [.int .i64 (cg p).1,.int .i64 (cg p).2],st):=by
 have n8:Plain (.tuple [.int .i64 (cg p).1,.int .i64 (cg p).2]):=Plain.tuple (by simp[Plain.int]);have bV:Wf (af st (.cells p.cells 0)):=bE hw;have FF:=Grew.af hw (.cells p.cells 0);have dH:(af st (.cells p.cells 0)).heap.get st.next=some (.cells p.cells 0):=aE _ _;have B:=ac4 hc p hp hR _ bV;by_cases h:(fH p).2=0
 . have hv:=Oj h;have K:=ac7 hc (af st (.cells p.cells 0));have e8:Wf (af (af st (.cells p.cells 0)) (.map TA 18)):=bE bV;have wZ:=Grew.af bV (.map TA 18);obtain⟨st',g1,g2⟩:=Z3 hc p hp hr hv st.next (af st (.cells p.cells 0)).next 18 101 (λvs s50=>eB vs λx2 vs=>eB vs λx3 vs=>gu vs (
   some (.tuple [x2,x3],s50))) (λvs s51=>gu vs (
   ai c .move [(.int .i64 0)] s51 λx2 s52=>
 ai c .move [(.int .i64 0)] s52 λx3 s53=>
 some (.tuple [x2,x3],s53))) 100 0 _ e8 (wZ.get dH) (aE _ _) (by have:=hp.rs;omega) (by omega)
   have e:cg p=eI p 100 0:=(by unfold cg;rw[Za1 (by simp[h])]);have e0:=XM h;rw[Ht hc 101 (r:=(.tuple [.int .i64 (cg p).1,.int .i64 (cg p).2],st')),au n8 ((FF.trans wZ).trans g1).keeps];rw[LC,e];simp at g2;simp[dH,B,h,K,g2];by_cases h2:(eI p 100 0).2=0
   .have:=Gn p 100 0 h2;simp[h2,this]
   .simp[h2]
 .have e:cg p=fH p:=(by unfold cg;rw[Za2 h]);rw[Ht hc 101 (r:=(.tuple [.int .i64 (cg p).1,.int .i64 (cg p).2],af st (.cells p.cells 0))),au n8 FF.keeps];rw[LC,e];simp[dH,B,h]
def j4(k:Int):Bool:=decide (k=1)||decide (k=2)||decide (k=3)||decide (k=4)||decide (k=5)
theorem HC(hc:Sem c)(k:Int)(st:St):c 139 [.int .u8 k] st=some (.bool (j4 k),st):=by
 rw[Ji hc 1 (r:=(.bool (j4 k),st)),au (Plain.bool _) (aP.refl st)];rw[LQ];unfold j4;by_cases e0:k=1
 .simp[e0]
 by_cases e1:k=2
 .simp[e0,e1]
 by_cases e2:k=3
 .simp[e0,e1,e2]
 by_cases e3:k=4
 .simp[e0,e1,e2,e3]
 by_cases e4:k=5
 .simp[e0,e1,e2,e3,e4]
 simp[e0,e1,e2,e3,e4]
def uQ(k:Int):Bool:=decide (k=6)||decide (k=7)||decide (k=10)
theorem abl(hc:Sem c)(k:Int)(st:St):c 140 [.int .u8 k] st=some (.bool (uQ k),st):=by
 rw[Jj hc 1 (r:=(.bool (uQ k),st)),au (Plain.bool _) (aP.refl st)];rw[LR];unfold uQ;by_cases e0:k=6
 .simp[e0]
 by_cases e1:k=7
 .simp[e0,e1]
 by_cases e2:k=10
 .simp[e0,e1,e2]
 simp[e0,e1,e2]
def Mm(k:Int):Bool:=decide (k=1)||decide (k=4)||decide (k=7)||decide (k=15)||decide (k=16)
theorem TB(hc:Sem c)(k:Int)(st:St):c 142 [.int .u8 k] st=some (.bool (Mm k),st):=by
 rw[Ey hc 1 (r:=(.bool (Mm k),st)),au (Plain.bool _) (aP.refl st)];rw[Hi];unfold Mm;by_cases e0:k=1
 .simp[e0]
 by_cases e1:k=4
 .simp[e0,e1]
 by_cases e2:k=7
 .simp[e0,e1,e2]
 by_cases e3:k=15
 .simp[e0,e1,e2,e3]
 by_cases e4:k=16
 .simp[e0,e1,e2,e3,e4]
 simp[e0,e1,e2,e3,e4]
def p9(k:Int):Int:=if j4 k=true\/k=10 then 0 else if k=6\/k=7\/k=17 then 1 else 2
theorem TC(hc:Sem c)(k:Int)(st:St):c 141 [.int .u8 k] st=some (.int .i64 (p9 k),st):=by
 rw[Ex hc 1 (r:=(.int .i64 (p9 k),st)),au (Plain.int _ _) (aP.refl st)];rw[Hh];have t:=HC hc k st;unfold p9;cases h:j4 k with
 |true=>simp[t,h]
 |false=>
  by_cases e1:k=10
  .rw[e1]at t h;simp[t,h,e1]
  by_cases e2:k=6
  .rw[e2]at t h;simp[t,h,e2]
  by_cases e3:k=7
  .rw[e3]at t h;simp[t,h,e3]
  by_cases e4:k=17
  .rw[e4]at t h;simp[t,h,e4]
  simp[t,h,e1,e2,e3,e4]
def wl:List AV:=(List.range 19).map λi=>.str (kd i).w
theorem WX{R:Type}(c:ah)(K:AV->St->Option R)(st:St)(es len:Nat)(z:List AV)(ps:List Nat)(xs l:List AV)(h:bG (bF z len) (ps.map λi=>(i*es,es)) xs=some l):
  ai c (.buildSlice es len z ps) xs st K=K (.slice st.next 0 len (some len) es) (af st (.cells l 0)):=by
 rw[cr,h];rfl
theorem afm(n:Nat)(h:n<19):wl[n]? =some (.str (kd n).w):=by simp[wl,h]
theorem aev(hc:Sem c)(n:Nat)(hn:n<256)(st:St)(hw:Wf st):c 138 [.int .u8 (n:Int)] st=some (.str (kd n).w,st):=by
 have w:aD .i64 (n:Int)=(n:Int):=wrap64 (by omega) (by omega);rw[Hw hc 1 (r:=(.str (kd n).w,af st (.cells wl 0))),au (Plain.str _) (bt hw)];rw[Ko];rw[aJ,WX (l:=wl) (h:=rfl)];have hlen:∀(K:AV->St->Option (AV×St))(s:St),ai c (.lenB .l) [.slice st.next 0 19 (some 19) 1] s K=K (.int .i64 19) s:=λK s=>aY c K (λH n=>rfl) s
 by_cases h:19<=n
 .have e:(kd n).w=[]:=(by unfold kd;split<;>first|rfl|omega);have hi:(19:Int)<=(n:Int):=(by omega);simp[w,h,hi,e,hlen]
 . have hi:¬(19:Int)<=(n:Int):=(by omega);have h':n<19:=(by omega);have hidx:∀(K:AV->St->Option (AV×St))(s:St),ai c (.idxA 1 none) [.slice st.next 0 19 (some 19) 1,.int .u8 (n:Int)] s K=K (.ptr st.next n) s:=λK s=>aY c K (λH m=>by
    simp[az.run,mD,ir,Cw,h']) s
   simp[w,h,hi,h',afm,hlen,hidx]
theorem WY(z:Bool)(ts:List aG)(s:List Nat)(hl:ts.length<=100)(F:Nat)(st:St)(k1 k2):∀(m k:Nat),ts.length<=k+m->k<=ts.length->
  eT c F k1 k2 (m+1) [tabs z ts,.str s,.int .i64 (k:Int)] st=if 0<=scan (iF ts s) (ts.length - k) k then k1 [.int .i64 (scan (iF ts s) (ts.length - k) k)] st else k2 [] st:=by
 intro m;induction m with
 |zero=>
  intro k h1 h2;obtain rfl:k=ts.length:=by omega
  rw[rK];simp[scan]
 |succ m ih=>
  intro k h1 h2;rw[rK];by_cases h:k<ts.length
  . have e:ts.length - k=(ts.length - (k+1))+1:=(by omega);have w:aD .i64 ((k:Int)+1)=((k+1:Nat):Int):=wrap64 (by omega) (by omega);rw[e,scan];by_cases hb:ts[k].name=s
    .   have zP:iF ts s k=true:=(by simp[iF,h,hb]);rw[zP];simp[tabs,h,hb]
    .   have zP:iF ts s k=false:=(by simp[iF,h,hb]);rw[zP];simp only[Zd5,Zd9];rw[<-ih (k+1) (by omega) (by omega)];simp[tabs,h,hb,w]
  .obtain rfl:k=ts.length:=(by omega);simp[scan]
theorem Z4(hc:Sem c)(z:Bool)(ts:List aG)(s:List Nat)(hl:ts.length<=100)(st:St):c 145 [tabs z ts,.str s] st=some (.int .i64 (scan (iF ts s) ts.length 0),st):=by
 rw[DS hc 101 (r:=(.int .i64 (scan (iF ts s) ts.length 0),st)),au (Plain.int _ _) (aP.refl st)];rw[FZ];have L:∀k1 k2,eT c 101 k1 k2 101 [tabs z ts,.str s,.int .i64 0] st=if 0<=scan (iF ts s) ts.length 0 then k1 [.int .i64 (scan (iF ts s) ts.length 0)] st else k2 [] st:=
   λk1 k2=>WY z ts s hl 101 st k1 k2 100 0 (by omega) (by omega)
 have g:=Hy (iF ts s) ts.length 0;by_cases h:0<=scan (iF ts s) ts.length 0
 .simp only[h,Zf0]at L;simp[L]
 .simp only[h,Zd9]at L;have:=g.2 (by omega);simp[L,this]
end
end Go.Proofs.YtlkadmkojjceiaaGreatDoor
