/- Functions of the program, plainly, and what they answer. -/
import Derived.Test.YtgjikjcfjddloaaGreatDoorXAwake
set_option linter.all false
set_option maxRecDepth 100000
set_option maxHeartbeats 4000000
namespace Go.Proofs.YtgjikjcfjddloaaGreatDoor
noncomputable section
open Go Go.Ai Go.Proofs
def yV:ff:=Ar [(329,N5),(18,QE)]
def Sem(c:ah):Prop:=c=run yV gg
def gA(f:Nat):dB:=uE gg f
abbrev PX(f:Nat)(s:Sh):={a:Tx // txF (gA f) s=a}
abbrev PL(f:Nat)(s:Sh)(i:Nat):={a:List Pos×Tx // txL (gj (gA f) s i)=a}
theorem Sem.o0{c:ah}(hc:Sem c)(F:Nat){f:FuncId}{args:List AV}{st:St}{r:AV×St}(s:Sh)(hk:(wP (yV f)&& !wP (gg.get (key f))&&(fe (gA f).code s).isEmpty)=true)
  {k:O2} (hd:DO c F (Yw []) (gA f) s args st=k) (h:k=some r):c f args st=some (tidy st r):=by
 subst hc;exact ab3 s hk hd h
theorem Sem.o1{c:ah}(hc:Sem c)(F:Nat){f:FuncId}{args:List AV}{st:St}{r:AV×St}(Ls:Un->List Q2->Nat->Q2)(s:Sh)(hk:(wP (yV f)&& !wP (gg.get (key f))&&Nat.beq (fe (gA f).code s).length 1)=true)
  (hs:(Vn (gj (gA f) s 0).2&&Nat.beq (lpJ (gj (gA f) s 0).2) 0)=true) (h0:∀K' vs st,o7 Ls (gA f) s 0 K' 0 vs st=none)
  (h1:∀K' n vs st,o7 Ls (gA f) s 0 K' (n+1) vs st=JT (den c F (o7 Ls (gA f) s) (gj (gA f) s 0).1 (lpB (gj (gA f) s 0).2)) (lpI (gj (gA f) s 0).2) (lpO (gj (gA f) s 0).2) K' (o7 Ls (gA f) s 0 K' n) vs st)
  {k:O2} (hd:DO c F (o7 Ls (gA f) s) (gA f) s args st=k) (h:k=some r):c f args st=some (tidy st r):=by
 subst hc;exact ab4 Ls s hk hs h0 h1 hd h
theorem Sem.oL{c:ah}(hc:Sem c)(F:Nat){f:FuncId}{args:List AV}{st:St}{r:AV×St}(Ls:Un->List Q2->Nat->Q2)(s:Sh)(n:Nat)(hk:(wP (yV f)&& !wP (gg.get (key f))&&Nat.beq (fe (gA f).code s).length n)=true)
  (hL:∀i,i<n->AN c F (o7 Ls (gA f) s) (gj (gA f) s i).1 (gj (gA f) s i).2) {k:O2} (hd:DO c F (o7 Ls (gA f) s) (gA f) s args st=k) (h:k=some r):c f args st=some (tidy st r):=by
 subst hc;exact Vx Ls s n hk hL hd h
end
noncomputable section
open Go Go.Ai Go.Proofs
attribute [local go_sem ↓] aT jK ev JZ uD getLT oO AX FX nB nC zb tr tu tA oc od oe oh om oq tB tC ot ou ov ow oA yO yP yQ
attribute [local go_sem] aT jK ev
section
variable(c:ah)(F:Nat)(x0 x1 x2 x3 x4 x5 x6 x7 x8 x9 pY qo:AV)(s:St)
def F0:Sh:=(sq sl (sq (sq sl (sq sl (sc (sq sl sl) sl))) (sq sl (sq (sq sl (sb (sp 0 [1,6,21,22,23] [(1,[2,3]),(2,[])] (sq sl (sq (sc sl sl) (sq (sb (sq sl (sq (sq sl (sq sl (sc (sq sl sl) sl))) (sq sl (sc (sq sl sl) sl))))) sl)))))) (sq sl sl)))))
def OW:PX 45 F0:=⟨_,by conv=>lhs;reduce⟩
def Nk:PL 45 F0 0:=⟨_,by conv=>lhs;reduce⟩
def tD(k1 k2:Q2):Nat->Q2
 |0,_,_=>none
 |n+1,vs,s=>eg c F bf (tD k1 k2 n) [k1,k2] Nk.1 vs s
def A0(k1 k2:Q2)(n:Nat)(vs:List AV)(s:St):=(by dsimp only[tD,Nk,go_sem,Int.reduceOfNat]:tD c F k1 k2 (n+1) vs s=_)
def F6:Un->List Q2->Nat->Q2
 |.z,[k1,k2]=>tD c F k1 k2
 |_,_=>λ_=>eO
def LP:O2:=aT c F (F6 c F) OW.1 [x0] s
def OX:=(by dsimp only[LP,OW, ↓F6,go_sem,Int.reduceOfNat]:LP c F x0 s=_)
def F7:Sh:=(sq sl (sq (sq sl (sc (sq sl sl) sl)) (sq sl (sq (sq sl (sb (sp 0 [5,23,24,25] [(2,[5])] (sq sl (sq (sc sl sl) (sq (sb (sq sl sl)) sl)))))) (sq sl sl)))))
def OY:PX 49 F7:=⟨_,by conv=>lhs;reduce⟩
def Nl:PL 49 F7 0:=⟨_,by conv=>lhs;reduce⟩
def tE(k2:Q2):Nat->Q2
 |0,_,_=>none
 |n+1,vs,s=>eg c F bf (tE k2 n) [k2] Nl.1 vs s
def A3(k2:Q2)(n:Nat)(vs:List AV)(s:St):=(by dsimp only[tE,Nl,go_sem,Int.reduceOfNat]:tE c F k2 (n+1) vs s=_)
def F8:Un->List Q2->Nat->Q2
 |.z,[k2]=>tE c F k2
 |_,_=>λ_=>eO
def LQ:O2:=aT c F (F8 c F) OY.1 [x0,x1] s
def OZ:=(by dsimp only[LQ,OY, ↓F8,go_sem,Int.reduceOfNat]:LQ c F x0 x1 s=_)
def O0:Sh:=(sq sl (sq (sq sl (sc (sq sl sl) sl)) (sq sl sl)))
def O3:PX 59 O0:=⟨_,by conv=>lhs;reduce⟩
def LR:O2:=aT c F bf O3.1 [x0] s
def Z5:=(by dsimp only[LR,O3,go_sem,Int.reduceOfNat]:LR c F x0 s=_)
def F9:Sh:=(sq sl (sq sl sl))
def Ga:PX 69 F9:=⟨_,by conv=>lhs;reduce⟩
def CG:O2:=aT c F bf Ga.1 [x0,x1] s
def SL:=(by dsimp only[CG,Ga,go_sem,Int.reduceOfNat]:CG c F x0 x1 s=_)
def Gb:Sh:=(sq sl (sq (sq sl (sq sl (sc (sq sl sl) sl))) (sq (sq sl (sq sl (sc (sq sl sl) sl))) (sq (sq sl (sc (sq sl sl) sl)) (sq (sq sl (sb (sp 0 [1,47,48,49] [(1,[2,3]),(2,[1])] (sq sl (sq (sc sl sl) (sq (sb (sq sl (sq sl (sc (sq sl sl) sl)))) sl)))))) (sq (sq sl (sc (sq sl sl) sl)) (sq sl sl)))))))
def O4:PX 83 Gb:=⟨_,by conv=>lhs;reduce⟩
def Nm:PL 83 Gb 0:=⟨_,by conv=>lhs;reduce⟩
def oB(k1 k2:Q2):Nat->Q2
 |0,_,_=>none
 |n+1,vs,s=>eg c F bf (oB k1 k2 n) [k1,k2] Nm.1 vs s
def H7(k1 k2:Q2)(n:Nat)(vs:List AV)(s:St):=(by dsimp only[oB,Nm,go_sem,Int.reduceOfNat]:oB c F k1 k2 (n+1) vs s=_)
def Gc:Un->List Q2->Nat->Q2
 |.z,[k1,k2]=>oB c F k1 k2
 |_,_=>λ_=>eO
def LU:O2:=aT c F (Gc c F) O4.1 [x0] s
def Z6:=(by dsimp only[LU,O4, ↓Gc,go_sem,Int.reduceOfNat]:LU c F x0 s=_)
def O5:Sh:=(sq sl (sq sl sl))
def O6:PX 84 O5:=⟨_,by conv=>lhs;reduce⟩
def LV:O2:=aT c F bf O6.1 [] s
def Z7:=(by dsimp only[LV,O6,go_sem,Int.reduceOfNat]:LV c F s=_)
def Ep:Sh:=(sq sl (sj [3,4,5] (sb (sq sl (sc (sq sl sl) (sq sl (sc (sq sl sl) (sq sl (sc (sq sl sl) (sj [3,4,5,28] (sq sl (sc sl (sq sl (sc sl sl)))) (sc (sq sl sl) (sq sl (sc (sq sl sl) (sq sl (sc (sq sl sl) sl))))))))))))) (sq sl (sq (sq sl (sc (sq sl sl) sl)) (sq sl (sj [3,5,9] (sq sl (sc sl sl)) (sq (sq sl (sc (sq sl sl) sl)) (sq sl sl))))))))
def Er:PX 85 Ep:=⟨_,by conv=>lhs;reduce⟩
def A4:O2:=aT c F bf Er.1 [x0,x1,x2] s
def QN:=(by dsimp only[A4,Er,go_sem,Int.reduceOfNat]:A4 c F x0 x1 x2 s=_)
def O7:Sh:=(sq sl (sq sl (sq sl sl)))
def O8:PX 87 O7:=⟨_,by conv=>lhs;reduce⟩
def LW:O2:=aT c F bf O8.1 [x0] s
def Z8:=(by dsimp only[LW,O8,go_sem,Int.reduceOfNat]:LW c F x0 s=_)
def RP:Sh:=(sq sl (sq sl (sq (sq sl (sc (sq sl sl) sl)) (sq sl sl))))
def RQ:PX 88 RP:=⟨_,by conv=>lhs;reduce⟩
def O9:O2:=aT c F bf RQ.1 [x0] s
def abl:=(by dsimp only[O9,RQ,go_sem,Int.reduceOfNat]:O9 c F x0 s=_)
def H8:Sh:=(sq sl (sq (sq sl (sc (sq sl sl) sl)) (sq sl sl)))
def H9:PX 94 H8:=⟨_,by conv=>lhs;reduce⟩
def DS:O2:=aT c F bf H9.1 [x0] s
def Ut:=(by dsimp only[DS,H9,go_sem,Int.reduceOfNat]:DS c F x0 s=_)
def Gd:Sh:=(sq sl (sq sl (sq sl (sq (sb (sq sl (sc (sq sl sl) (sq sl (sc (sq sl sl) sl))))) (sq (sq sl (sb (sp 0 [1,3,4,18,19,20] [(1,[2]),(3,[1])] (sq sl (sq (sc sl sl) (sq (sb (sq sl (sq (sq sl (sc (sq sl sl) sl)) sl))) sl)))))) (sq (sq sl (sc (sq sl sl) sl)) (sq sl sl)))))))
def Pa:PX 96 Gd:=⟨_,by conv=>lhs;reduce⟩
def Nn:PL 96 Gd 0:=⟨_,by conv=>lhs;reduce⟩
def oC(k1 k3:Q2):Nat->Q2
 |0,_,_=>none
 |n+1,vs,s=>eg c F bf (oC k1 k3 n) [k1,k3] Nn.1 vs s
def Ia(k1 k3:Q2)(n:Nat)(vs:List AV)(s:St):=(by dsimp only[oC,Nn,go_sem,Int.reduceOfNat,Int.reduceNegSucc]:oC c F k1 k3 (n+1) vs s=_)
def Ge:Un->List Q2->Nat->Q2
 |.z,[k1,k3]=>oC c F k1 k3
 |_,_=>λ_=>eO
def LX:O2:=aT c F (Ge c F) Pa.1 [x0] s
def Z9:=(by dsimp only[LX,Pa, ↓Ge,go_sem,Int.reduceOfNat,Int.reduceNegSucc]:LX c F x0 s=_)
def rP:Sh:=(sq sl (sq sl (sq (sq sl (sc (sq sl sl) sl)) (sq (sq sl (sb (sp 0 [1,6] [(1,[2,3]),(2,[])] (sq (sq sl (sc sl sl)) (sq (sb (sq (sq sl (sq sl (sc (sq sl sl) sl))) (sq sl (sc (sq sl sl) sl)))) sl))))) (sq sl sl)))))
def A5:PX 105 rP:=⟨_,by conv=>lhs;reduce⟩
def zN:PL 105 rP 0:=⟨_,by conv=>lhs;reduce⟩
def gX(k1 k2:Q2):Nat->Q2
 |0,_,_=>none
 |n+1,vs,s=>eg c F bf (gX k1 k2 n) [k1,k2] zN.1 vs s
def nJ(k1 k2:Q2)(n:Nat)(vs:List AV)(s:St):=(by dsimp only[gX,zN,go_sem,Int.reduceOfNat]:gX c F k1 k2 (n+1) vs s=_)
def rQ:Un->List Q2->Nat->Q2
 |.z,[k1,k2]=>gX c F k1 k2
 |_,_=>λ_=>eO
def u6:O2:=aT c F (rQ c F) A5.1 [x0] s
def LY:=(by dsimp only[u6,A5, ↓rQ,go_sem,Int.reduceOfNat]:u6 c F x0 s=_)
def Cc:Sh:=(sq sl (sj [] (sq sl (sb (sq sl (sc (sq sl (sc (sq sl sl) sl)) (sq sl (sc (sq sl (sc (sq sl sl) sl)) (sq sl (sc (sq sl (sc (sq sl sl) sl)) (sq sl (sc (sq sl (sc (sq sl sl) sl)) sl)))))))))) (sq sl sl)))
def Cd:PX 111 Cc:=⟨_,by conv=>lhs;reduce⟩
def xE:O2:=aT c F bf Cd.1 [x0] s
def NM:=(by dsimp only[xE,Cd,go_sem,Int.reduceOfNat]:xE c F x0 s=_)
def rR:Sh:=(sq sl (sq sl (sq (sq sl (sb (sp 0 [0,1,5,6] [(2,[5])] (sq (sq sl (sc sl sl)) (sq (sb sl) sl))))) (sq sl sl))))
def A6:PX 112 rR:=⟨_,by conv=>lhs;reduce⟩
def zO:PL 112 rR 0:=⟨_,by conv=>lhs;reduce⟩
def eW(k2:Q2):Nat->Q2
 |0,_,_=>none
 |n+1,vs,s=>eg c F bf (eW k2 n) [k2] zO.1 vs s
def kC(k2:Q2)(n:Nat)(vs:List AV)(s:St):=(by dsimp only[eW,zO,go_sem,Int.reduceOfNat]:eW c F k2 (n+1) vs s=_)
def rS:Un->List Q2->Nat->Q2
 |.z,[k2]=>eW c F k2
 |_,_=>λ_=>eO
def u7:O2:=aT c F (rS c F) A6.1 [x0,x1] s
def A7:=(by dsimp only[u7,A6, ↓rS,go_sem,Int.reduceOfNat]:u7 c F x0 x1 s=_)
def A8:Sh:=(sq sl (sq sl sl))
def A9:PX 114 A8:=⟨_,by conv=>lhs;reduce⟩
def u9:O2:=aT c F bf A9.1 [x0] s
def LZ:=(by dsimp only[u9,A9,go_sem,Int.reduceOfNat]:u9 c F x0 s=_)
def eR:Sh:=(sq sl (sq (sq sl (sb (sp 0 [0,1,7,8] [(1,[4]),(2,[])] (sq sl (sq (sc sl sl) (sq (sb (sq sl (sq sl (sc (sq sl sl) sl)))) sl)))))) (sq sl sl)))
def kK:PX 126 eR:=⟨_,by conv=>lhs;reduce⟩
def kq:PL 126 eR 0:=⟨_,by conv=>lhs;reduce⟩
def bX(k1 k2:Q2):Nat->Q2
 |0,_,_=>none
 |n+1,vs,s=>eg c F bf (bX k1 k2 n) [k1,k2] kq.1 vs s
def cS(k1 k2:Q2)(n:Nat)(vs:List AV)(s:St):=(by dsimp only[bX,kq,go_sem,Int.reduceOfNat,Int.reduceNegSucc]:bX c F k1 k2 (n+1) vs s=_)
def eS:Un->List Q2->Nat->Q2
 |.z,[k1,k2]=>bX c F k1 k2
 |_,_=>λ_=>eO
def fq:O2:=aT c F (eS c F) kK.1 [x0,x1] s
def kL:=(by dsimp only[fq,kK, ↓eS,go_sem,Int.reduceOfNat,Int.reduceNegSucc]:fq c F x0 x1 s=_)
def RR:Sh:=(sq sl (sq sl (sq (sq sl (sc (sq sl sl) sl)) (sq sl sl))))
def RS:PX 128 RR:=⟨_,by conv=>lhs;reduce⟩
def Pb:O2:=aT c F bf RS.1 [x0,x1] s
def abm:=(by dsimp only[Pb,RS,go_sem,Int.reduceOfNat]:Pb c F x0 x1 s=_)
def Ba:Sh:=(sq sl (sq (sq sl (sc (sq sl sl) sl)) (sq (sq sl (sb (sp 0 [0,10,11,12] [(1,[2,3]),(2,[])] (sq sl (sq (sc sl sl) (sq (sb (sq sl (sq (sq sl (sq sl (sc (sq sl sl) sl))) (sq sl (sc (sq sl sl) sl))))) sl)))))) (sq sl sl))))
def Ib:PX 129 Ba:=⟨_,by conv=>lhs;reduce⟩
def Gf:PL 129 Ba 0:=⟨_,by conv=>lhs;reduce⟩
def nh(k1 k2:Q2):Nat->Q2
 |0,_,_=>none
 |n+1,vs,s=>eg c F bf (nh k1 k2 n) [k1,k2] Gf.1 vs s
def ve(k1 k2:Q2)(n:Nat)(vs:List AV)(s:St):=(by dsimp only[nh,Gf,go_sem,Int.reduceOfNat]:nh c F k1 k2 (n+1) vs s=_)
def Bb:Un->List Q2->Nat->Q2
 |.z,[k1,k2]=>nh c F k1 k2
 |_,_=>λ_=>eO
def DT:O2:=aT c F (Bb c F) Ib.1 [x0] s
def Ic:=(by dsimp only[DT,Ib, ↓Bb,go_sem,Int.reduceOfNat]:DT c F x0 s=_)
def Es:Sh:=(sq sl (sq sl (sq sl sl)))
def Et:PX 130 Es:=⟨_,by conv=>lhs;reduce⟩
def Bc:O2:=aT c F bf Et.1 [x0] s
def QO:=(by dsimp only[Bc,Et,go_sem,Int.reduceOfNat]:Bc c F x0 s=_)
def Eu:Sh:=(sq sl (sq sl sl))
def Ev:PX 149 Eu:=⟨_,by conv=>lhs;reduce⟩
def Bd:O2:=aT c F bf Ev.1 [x0,x1] s
def QT:=(by dsimp only[Bd,Ev,go_sem,Int.reduceOfNat]:Bd c F x0 x1 s=_)
def Uu:Sh:=(sq sl (sq sl sl))
def Uv:PX 150 Uu:=⟨_,by conv=>lhs;reduce⟩
def SM:O2:=aT c F bf Uv.1 [x0,x1] s
def adl:=(by dsimp only[SM,Uv,go_sem,Int.reduceOfNat]:SM c F x0 x1 s=_)
def IY:Sh:=(sq sl (sq (sq sl (sc (sq sl sl) sl)) (sq (sq sl (sb (sp 0 [0,13,14] [(1,[2]),(2,[])] (sq sl (sq (sc sl sl) (sq (sb (sq sl (sq sl (sc (sq sl sl) sl)))) sl)))))) (sq sl sl))))
def RT:PX 151 IY:=⟨_,by conv=>lhs;reduce⟩
def Pc:PL 151 IY 0:=⟨_,by conv=>lhs;reduce⟩
def qp(k1 k2:Q2):Nat->Q2
 |0,_,_=>none
 |n+1,vs,s=>eg c F bf (qp k1 k2 n) [k1,k2] Pc.1 vs s
def J4(k1 k2:Q2)(n:Nat)(vs:List AV)(s:St):=(by dsimp only[qp,Pc,go_sem,Int.reduceOfNat]:qp c F k1 k2 (n+1) vs s=_)
def IZ:Un->List Q2->Nat->Q2
 |.z,[k1,k2]=>qp c F k1 k2
 |_,_=>λ_=>eO
def Pd:O2:=aT c F (IZ c F) RT.1 [x0] s
def abn:=(by dsimp only[Pd,RT, ↓IZ,go_sem,Int.reduceOfNat]:Pd c F x0 s=_)
def Ie:Sh:=(sq sl (sq (sq sl (sb (sq sl (sc (sq sl sl) (sq sl (sc (sq sl sl) (sq sl (sc (sq sl sl) (sq sl (sc (sq sl sl) sl)))))))))) (sq sl sl)))
def Ig:PX 152 Ie:=⟨_,by conv=>lhs;reduce⟩
def DU:O2:=aT c F bf Ig.1 [x0] s
def Uw:=(by dsimp only[DU,Ig,go_sem,Int.reduceOfNat]:DU c F x0 s=_)
def I0:Sh:=(sq sl (sq (sq sl (sb (sp 0 [0,3] [(1,[2]),(2,[0])] (sq (sq sl (sc sl sl)) (sq (sb (sq sl (sc (sq sl sl) sl))) sl))))) (sq sl sl)))
def RU:PX 163 I0:=⟨_,by conv=>lhs;reduce⟩
def Pe:PL 163 I0 0:=⟨_,by conv=>lhs;reduce⟩
def qq(k1 k2:Q2):Nat->Q2
 |0,_,_=>none
 |n+1,vs,s=>eg c F bf (qq k1 k2 n) [k1,k2] Pe.1 vs s
def J5(k1 k2:Q2)(n:Nat)(vs:List AV)(s:St):=(by dsimp only[qq,Pe,go_sem,Int.reduceOfNat]:qq c F k1 k2 (n+1) vs s=_)
def I1:Un->List Q2->Nat->Q2
 |.z,[k1,k2]=>qq c F k1 k2
 |_,_=>λ_=>eO
def Pg:O2:=aT c F (I1 c F) RU.1 [x0] s
def abo:=(by dsimp only[Pg,RU, ↓I1,go_sem,Int.reduceOfNat]:Pg c F x0 s=_)
def rU:Sh:=(sq sl (sq sl (sq (sq sl (sc (sq sl sl) sl)) (sq sl (sq (sq sl (sc (sq sl sl) sl)) (sq (sq sl (sc (sq sl sl) sl)) (sq (sq sl (sb (sp 0 [1,7] [(1,[2,3]),(2,[1])] (sq (sq sl (sc sl sl)) (sq (sb (sq sl (sc (sq sl sl) sl))) sl))))) (sq (sq sl (sc (sq sl sl) sl)) (sq sl sl)))))))))
def Be:PX 168 rU:=⟨_,by conv=>lhs;reduce⟩
def zP:PL 168 rU 0:=⟨_,by conv=>lhs;reduce⟩
def gY(k1 k2:Q2):Nat->Q2
 |0,_,_=>none
 |n+1,vs,s=>eg c F bf (gY k1 k2 n) [k1,k2] zP.1 vs s
def wQ(k1 k2:Q2)(n:Nat)(vs:List AV)(s:St):=(by dsimp only[gY,zP,go_sem,Int.reduceOfNat]:gY c F k1 k2 (n+1) vs s=_)
def rV:Un->List Q2->Nat->Q2
 |.z,[k1,k2]=>gY c F k1 k2
 |_,_=>λ_=>eO
def vg:O2:=aT c F (rV c F) Be.1 [x0] s
def L5:=(by dsimp only[vg,Be, ↓rV,go_sem,Int.reduceOfNat]:vg c F x0 s=_)
def Bf:Sh:=(sq sl (sq sl (sq (sq sl (sc (sq sl sl) sl)) (sq (sq sl (sc (sq sl sl) sl)) (sq (sq sl (sc (sq sl sl) sl)) (sq (sq sl (sc (sq sl sl) sl)) (sq (sq sl (sc (sq sl sl) sl)) (sq (sq sl (sc (sq sl sl) sl)) (sq (sq sl (sc (sq sl sl) sl)) (sq sl (sq (sq sl (sc (sq sl sl) sl)) (sq sl (sq sl (sj [2,3,5,6,7,8] (sq sl (sc sl sl)) (sj [3,5,7,8] (sq sl (sc sl sl)) (sq (sq sl (sc (sq sl sl) sl)) (sq sl sl)))))))))))))))))
def Bg:PX 169 Bf:=⟨_,by conv=>lhs;reduce⟩
def vh:O2:=aT c F bf Bg.1 [x0,x1] s
def L6:=(by dsimp only[vh,Bg,go_sem,Int.reduceOfNat]:vh c F x0 x1 s=_)
def zQ:Sh:=(sq sl (sq sl sl))
def zR:PX 170 zQ:=⟨_,by conv=>lhs;reduce⟩
def tW:O2:=aT c F bf zR.1 [x0,x1,x2] s
def J6:=(by dsimp only[tW,zR,go_sem,Int.reduceOfNat]:tW c F x0 x1 x2 s=_)
def gK:Sh:=(sq sl (sq (sq sl (sb (sp 0 [0,1,7,8] [(1,[4]),(2,[])] (sq sl (sq (sc sl sl) (sq (sb (sq sl (sq sl (sc (sq sl sl) sl)))) sl)))))) (sq sl sl)))
def kM:PX 177 gK:=⟨_,by conv=>lhs;reduce⟩
def ku:PL 177 gK 0:=⟨_,by conv=>lhs;reduce⟩
def cG(k1 k2:Q2):Nat->Q2
 |0,_,_=>none
 |n+1,vs,s=>eg c F bf (cG k1 k2 n) [k1,k2] ku.1 vs s
def jN(k1 k2:Q2)(n:Nat)(vs:List AV)(s:St):=(by dsimp only[cG,ku,go_sem,Int.reduceOfNat,Int.reduceNegSucc]:cG c F k1 k2 (n+1) vs s=_)
def gL:Un->List Q2->Nat->Q2
 |.z,[k1,k2]=>cG c F k1 k2
 |_,_=>λ_=>eO
def iw:O2:=aT c F (gL c F) kM.1 [x0,x1] s
def tX:=(by dsimp only[iw,kM, ↓gL,go_sem,Int.reduceOfNat,Int.reduceNegSucc]:iw c F x0 x1 s=_)
def Np:Sh:=(sq sl (sq sl sl))
def Nq:PX 178 Np:=⟨_,by conv=>lhs;reduce⟩
def I2:O2:=aT c F bf Nq.1 [x0,x1] s
def XX:=(by dsimp only[I2,Nq,go_sem,Int.reduceOfNat]:I2 c F x0 x1 s=_)
def jO:Sh:=(sq sl (sq sl sl))
def jP:PX 179 jO:=⟨_,by conv=>lhs;reduce⟩
def gw:O2:=aT c F bf jP.1 [x0,x1] s
def qW:=(by dsimp only[gw,jP,go_sem,Int.reduceOfNat]:gw c F x0 x1 s=_)
def Ew:Sh:=(sq sl (sq sl sl))
def Ex:PX 180 Ew:=⟨_,by conv=>lhs;reduce⟩
def Bh:O2:=aT c F bf Ex.1 [x0,x1] s
def QU:=(by dsimp only[Bh,Ex,go_sem,Int.reduceOfNat]:Bh c F x0 x1 s=_)
def Bi:Sh:=(sq sl (sq sl (sq (sq sl (sb (sp 0 [1,5,14,15,16] [(1,[2,3,4]),(2,[1,5])] (sq sl (sq (sc sl sl) (sq (sb (sq sl (sq sl (sq sl (sc (sq sl sl) sl))))) sl)))))) (sq (sq sl (sb (sp 1 [1,5,30,31,32] [(1,[2,3,4]),(4,[5])] (sq sl (sq (sc sl sl) (sj [1,5,30,31,32] (sb (sq sl (sq sl (sj [1,5,9,11,30,31,32] (sq sl (sc sl sl)) (sq sl (sc (sq sl sl) sl)))))) sl)))))) (sq sl sl)))))
def Ph:PX 181 Bi:=⟨_,by conv=>lhs;reduce⟩
def Nr:PL 181 Bi 1:=⟨_,by conv=>lhs;reduce⟩
def kz(k1 k4:Q2):Nat->Q2
 |0,_,_=>none
 |n+1,vs,s=>eg c F bf (kz k1 k4 n) [k1,k4] Nr.1 vs s
def uG(k1 k4:Q2)(n:Nat)(vs:List AV)(s:St):=(by dsimp only[kz,Nr,go_sem,Int.reduceOfNat]:kz c F k1 k4 (n+1) vs s=_)
def Ns:PL 181 Bi 0:=⟨_,by conv=>lhs;reduce⟩
def ju(k1 k2:Q2):Nat->Q2
 |0,_,_=>none
 |n+1,vs,s=>eg c F bf (ju k1 k2 n) [k1,k2] Ns.1 vs s
def uH(k1 k2:Q2)(n:Nat)(vs:List AV)(s:St):=(by dsimp only[ju,Ns,go_sem,Int.reduceOfNat]:ju c F k1 k2 (n+1) vs s=_)
def Gg:Un->List Q2->Nat->Q2
 |.z,[k1,k2]=>ju c F k1 k2
 |(.s .z),[k1,k4]=>kz c F k1 k4
 |_,_=>λ_=>eO
def Bj:O2:=aT c F (Gg c F) Ph.1 [x0] s
def aaa:=(by dsimp only[Bj,Ph, ↓Gg,go_sem,Int.reduceOfNat]:Bj c F x0 s=_)
def Pj:Sh:=(sq sl (sq sl sl))
def Pk:PX 196 Pj:=⟨_,by conv=>lhs;reduce⟩
def L7:O2:=aT c F bf Pk.1 [x0,x1] s
def aab:=(by dsimp only[L7,Pk,go_sem,Int.reduceOfNat]:L7 c F x0 x1 s=_)
def Ey:Sh:=(sq sl (sq (sq sl (sc (sq sl sl) sl)) (sq sl sl)))
def Ez:PX 197 Ey:=⟨_,by conv=>lhs;reduce⟩
def Bk:O2:=aT c F bf Ez.1 [x0,x1] s
def QV:=(by dsimp only[Bk,Ez,go_sem,Int.reduceOfNat]:Bk c F x0 x1 s=_)
def Gh:Sh:=(sq sl (sq (sq sl (sc (sq sl sl) sl)) (sq sl sl)))
def Gi:PX 202 Gh:=⟨_,by conv=>lhs;reduce⟩
def CH:O2:=aT c F bf Gi.1 [x0,x1] s
def SN:=(by dsimp only[CH,Gi,go_sem,Int.reduceOfNat]:CH c F x0 x1 s=_)
def Gj:Sh:=(sq sl (sq (sq sl (sc (sq sl sl) sl)) (sq sl sl)))
def Gk:PX 207 Gj:=⟨_,by conv=>lhs;reduce⟩
def CI:O2:=aT c F bf Gk.1 [x0,x1] s
def SP:=(by dsimp only[CI,Gk,go_sem,Int.reduceOfNat]:CI c F x0 x1 s=_)
def Ih:Sh:=(sq sl (sq (sq sl (sc (sq sl sl) sl)) (sq sl sl)))
def Ii:PX 212 Ih:=⟨_,by conv=>lhs;reduce⟩
def DV:O2:=aT c F bf Ii.1 [x0,x1] s
def Ux:=(by dsimp only[DV,Ii,go_sem,Int.reduceOfNat]:DV c F x0 x1 s=_)
def kD:Sh:=(sq sl (sq (sq sl (sc (sq sl sl) sl)) (sq (sq sl (sb (sp 0 [0,4] [(1,[2,3]),(2,[])] (sq (sq sl (sc sl sl)) (sq (sb (sq (sq sl (sq sl (sc (sq sl sl) sl))) (sq sl (sb (sp 1 [0,4,6] [(1,[2,3]),(4,[0,4])] (sq (sq sl (sc sl sl)) (sq (sb (sq sl (sc (sq sl sl) sl))) sl))))))) sl))))) (sq sl sl))))
def wR:PX 232 kD:=⟨_,by conv=>lhs;reduce⟩
def vk:PL 232 kD 1:=⟨_,by conv=>lhs;reduce⟩
def eP(k1 k4:Q2):Nat->Q2
 |0,_,_=>none
 |n+1,vs,s=>eg c F bf (eP k1 k4 n) [k1,k4] vk.1 vs s
def tF(k1 k4:Q2)(n:Nat)(vs:List AV)(s:St):=(by dsimp only[eP,vk,go_sem,Int.reduceOfNat]:eP c F k1 k4 (n+1) vs s=_)
def vn:Un->List Q2->Nat->Q2
 |(.s .z),[k1,k4]=>eP c F k1 k4
 |_,_=>λ_=>eO
def vp:PL 232 kD 0:=⟨_,by conv=>lhs;reduce⟩
def fL(k1 k2:Q2):Nat->Q2
 |0,_,_=>none
 |n+1,vs,s=>eg c F (vn c F) (fL k1 k2 n) [k1,k2] vp.1 vs s
def tG(k1 k2:Q2)(n:Nat)(vs:List AV)(s:St):=(by dsimp only[fL,vp, ↓vn,go_sem,Int.reduceOfNat]:fL c F k1 k2 (n+1) vs s=_)
def nK:Un->List Q2->Nat->Q2
 |.z,[k1,k2]=>fL c F k1 k2
 |(.s .z),[k1,k4]=>eP c F k1 k4
 |_,_=>λ_=>eO
def qt:O2:=aT c F (nK c F) wR.1 [x0] s
def G9:=(by dsimp only[qt,wR, ↓nK,go_sem,Int.reduceOfNat]:qt c F x0 s=_)
def j6:Sh:=(sq sl (sq (sq sl (sb (sp 0 [1,4] [(1,[2,3]),(2,[1])] (sq (sq sl (sc sl sl)) (sq (sb (sq (sq sl (sq sl (sc (sq sl sl) sl))) (sq (sq sl (sc (sq sl sl) sl)) (sq sl (sc (sq sl sl) sl))))) sl))))) (sq (sq sl (sb (sp 1 [1,6] [(1,[2,3]),(4,[])] (sq (sq sl (sc sl sl)) (sq (sb (sq sl (sq sl (sq (sq sl (sc (sq sl sl) sl)) (sq (sq sl (sc (sq sl sl) sl)) (sq (sq sl (sc (sq sl sl) sl)) (sq sl (sc (sq sl sl) sl)))))))) sl))))) (sq sl sl))))
def vq:PX 233 j6:=⟨_,by conv=>lhs;reduce⟩
def uI:PL 233 j6 1:=⟨_,by conv=>lhs;reduce⟩
def gS(k1 k4:Q2):Nat->Q2
 |0,_,_=>none
 |n+1,vs,s=>eg c F bf (gS k1 k4 n) [k1,k4] uI.1 vs s
def lD(k1 k4:Q2)(n:Nat)(vs:List AV)(s:St):=(by dsimp only[gS,uI,go_sem,Int.reduceOfNat]:gS c F k1 k4 (n+1) vs s=_)
def uJ:PL 233 j6 0:=⟨_,by conv=>lhs;reduce⟩
def gU(k1 k2:Q2):Nat->Q2
 |0,_,_=>none
 |n+1,vs,s=>eg c F bf (gU k1 k2 n) [k1,k2] uJ.1 vs s
def ri(k1 k2:Q2)(n:Nat)(vs:List AV)(s:St):=(by dsimp only[gU,uJ,go_sem,Int.reduceOfNat]:gU c F k1 k2 (n+1) vs s=_)
def ni:Un->List Q2->Nat->Q2
 |.z,[k1,k2]=>gU c F k1 k2
 |(.s .z),[k1,k4]=>gS c F k1 k4
 |_,_=>λ_=>eO
def o8:O2:=aT c F (ni c F) vq.1 [x0] s
def vr:=(by dsimp only[o8,vq, ↓ni,go_sem,Int.reduceOfNat]:o8 c F x0 s=_)
def Ce:Sh:=(sq sl (sq sl (sq (sq sl (sc (sq sl sl) sl)) (sq sl sl))))
def Cf:PX 234 Ce:=⟨_,by conv=>lhs;reduce⟩
def xF:O2:=aT c F bf Cf.1 [x0] s
def NN:=(by dsimp only[xF,Cf,go_sem,Int.reduceOfNat]:xF c F x0 s=_)
def Dl:Sh:=(sq sl (sq sl sl))
def Dm:PX 235 Dl:=⟨_,by conv=>lhs;reduce⟩
def ze:O2:=aT c F bf Dm.1 [x0] s
def Pm:=(by dsimp only[ze,Dm,go_sem,Int.reduceOfNat]:ze c F x0 s=_)
def Dn:Sh:=(sq sl (sq sl sl))
def Dp:PX 236 Dn:=⟨_,by conv=>lhs;reduce⟩
def zf:O2:=aT c F bf Dp.1 [x0] s
def Pn:=(by dsimp only[zf,Dp,go_sem,Int.reduceOfNat]:zf c F x0 s=_)
def zS:Sh:=(sq sl (sq (sq sl (sc (sq sl sl) sl)) (sq (sq sl (sc (sq sl sl) sl)) (sq sl sl))))
def zT:PX 237 zS:=⟨_,by conv=>lhs;reduce⟩
def tY:O2:=aT c F bf zT.1 [x0] s
def J7:=(by dsimp only[tY,zT,go_sem,Int.reduceOfNat]:tY c F x0 s=_)
def zU:Sh:=(sq sl (sq sl sl))
def zV:PX 238 zU:=⟨_,by conv=>lhs;reduce⟩
def tZ:O2:=aT c F bf zV.1 [x0] s
def J8:=(by dsimp only[tZ,zV,go_sem,Int.reduceOfNat]:tZ c F x0 s=_)
def xG:Sh:=(sq sl (sq (sq sl (sb (sp 0 [0,1,5] [(1,[4]),(2,[])] (sq (sq sl (sc sl sl)) (sq (sb (sq sl (sc (sq sl sl) sl))) sl))))) (sq sl sl)))
def EA:PX 239 xG:=⟨_,by conv=>lhs;reduce⟩
def Dq:PL 239 xG 0:=⟨_,by conv=>lhs;reduce⟩
def jB(k1 k2:Q2):Nat->Q2
 |0,_,_=>none
 |n+1,vs,s=>eg c F bf (jB k1 k2 n) [k1,k2] Dq.1 vs s
def Bl(k1 k2:Q2)(n:Nat)(vs:List AV)(s:St):=(by dsimp only[jB,Dq,go_sem,Int.reduceOfNat,Int.reduceNegSucc]:jB c F k1 k2 (n+1) vs s=_)
def xH:Un->List Q2->Nat->Q2
 |.z,[k1,k2]=>jB c F k1 k2
 |_,_=>λ_=>eO
def Bm:O2:=aT c F (xH c F) EA.1 [x0,x1] s
def QW:=(by dsimp only[Bm,EA, ↓xH,go_sem,Int.reduceOfNat,Int.reduceNegSucc]:Bm c F x0 x1 s=_)
def xI:Sh:=(sq sl (sq (sq sl (sc (sq sl sl) sl)) (sq (sq sl (sb (sp 0 [0,3] [(1,[2]),(2,[])] (sq (sq sl (sc sl sl)) (sq (sb (sq sl (sc (sq sl sl) sl))) sl))))) (sq sl sl))))
def EB:PX 240 xI:=⟨_,by conv=>lhs;reduce⟩
def Dr:PL 240 xI 0:=⟨_,by conv=>lhs;reduce⟩
def jC(k1 k2:Q2):Nat->Q2
 |0,_,_=>none
 |n+1,vs,s=>eg c F bf (jC k1 k2 n) [k1,k2] Dr.1 vs s
def Bn(k1 k2:Q2)(n:Nat)(vs:List AV)(s:St):=(by dsimp only[jC,Dr,go_sem,Int.reduceOfNat]:jC c F k1 k2 (n+1) vs s=_)
def xJ:Un->List Q2->Nat->Q2
 |.z,[k1,k2]=>jC c F k1 k2
 |_,_=>λ_=>eO
def Bo:O2:=aT c F (xJ c F) EB.1 [x0] s
def QX:=(by dsimp only[Bo,EB, ↓xJ,go_sem,Int.reduceOfNat]:Bo c F x0 s=_)
def o9:Sh:=(sq sl (sq (sq sl (sb (sp 0 [0,1,5] [(1,[4]),(2,[])] (sq (sq sl (sc sl sl)) (sq (sb (sq sl (sc (sq sl sl) sl))) sl))))) (sq sl sl)))
def xX:PX 241 o9:=⟨_,by conv=>lhs;reduce⟩
def wS:PL 241 o9 0:=⟨_,by conv=>lhs;reduce⟩
def fW(k1 k2:Q2):Nat->Q2
 |0,_,_=>none
 |n+1,vs,s=>eg c F bf (fW k1 k2 n) [k1,k2] wS.1 vs s
def uK(k1 k2:Q2)(n:Nat)(vs:List AV)(s:St):=(by dsimp only[fW,wS,go_sem,Int.reduceOfNat,Int.reduceNegSucc]:fW c F k1 k2 (n+1) vs s=_)
def pn:Un->List Q2->Nat->Q2
 |.z,[k1,k2]=>fW c F k1 k2
 |_,_=>λ_=>eO
def rW:O2:=aT c F (pn c F) xX.1 [x0,x1] s
def I3:=(by dsimp only[rW,xX, ↓pn,go_sem,Int.reduceOfNat,Int.reduceNegSucc]:rW c F x0 x1 s=_)
def RV:Sh:=(sq sl (sq sl sl))
def RW:PX 250 RV:=⟨_,by conv=>lhs;reduce⟩
def Po:O2:=aT c F bf RW.1 [] s
def abp:=(by dsimp only[Po,RW,go_sem,Int.reduceOfNat]:Po c F s=_)
def Gl:Sh:=(sq sl (sq (sq sl (sc (sq sl sl) sl)) (sq (sq sl (sq sl (sc (sq sl sl) sl))) (sq (sq sl (sq sl (sc (sq sl sl) sl))) (sq (sq sl (sc (sq sl sl) sl)) (sq sl (sq sl (sq sl sl))))))))
def Gm:PX 251 Gl:=⟨_,by conv=>lhs;reduce⟩
def wK:O2:=aT c F bf Gm.1 [x0,x1] s
def rX:=(by dsimp only[wK,Gm,go_sem,Int.reduceOfNat]:wK c F x0 x1 s=_)
def Nt:Sh:=(sq sl (sq (sq sl (sq sl (sc (sq sl sl) sl))) (sq sl sl)))
def Nu:PX 252 Nt:=⟨_,by conv=>lhs;reduce⟩
def I4:O2:=aT c F bf Nu.1 [x0,x1] s
def XY:=(by dsimp only[I4,Nu,go_sem,Int.reduceOfNat]:I4 c F x0 x1 s=_)
def zg:Sh:=(sq sl (sq (sq sl (sc (sq sl sl) sl)) (sq (sq sl (sc (sq sl sl) sl)) (sq (sq sl (sb (sp 0 [0,1,2,3,30,31,32] [(1,[8]),(2,[0,1,2,3])] (sq sl (sq (sc sl sl) (sq (sb (sq sl (sq sl (sq sl (sc (sq sl sl) sl))))) sl)))))) (sq sl (sq (sq sl (sc (sq sl sl) sl)) (sq (sq sl (sc (sq sl sl) sl)) (sq sl (sq sl sl)))))))))
def Gn:PX 253 zg:=⟨_,by conv=>lhs;reduce⟩
def EC:PL 253 zg 0:=⟨_,by conv=>lhs;reduce⟩
def kf(k1 k2:Q2):Nat->Q2
 |0,_,_=>none
 |n+1,vs,s=>eg c F bf (kf k1 k2 n) [k1,k2] EC.1 vs s
def ua(k1 k2:Q2)(n:Nat)(vs:List AV)(s:St):=(by dsimp only[kf,EC,go_sem,Int.reduceOfNat]:kf c F k1 k2 (n+1) vs s=_)
def zh:Un->List Q2->Nat->Q2
 |.z,[k1,k2]=>kf c F k1 k2
 |_,_=>λ_=>eO
def wL:O2:=aT c F (zh c F) Gn.1 [x0,x1,x2,x3] s
def rY:=(by dsimp only[wL,Gn, ↓zh,go_sem,Int.reduceOfNat]:wL c F x0 x1 x2 x3 s=_)
def rZ:Sh:=(sq sl (sq sl (sq (sq sl (sc (sq sl sl) sl)) (sq (sq sl (sc (sq sl sl) sl)) (sq (sq sl (sb (sp 0 [1,3,4] [(1,[2]),(2,[1])] (sq (sq sl (sc sl sl)) (sq (sb (sq sl (sc (sq sl sl) sl))) sl))))) (sq (sq sl (sc (sq sl sl) sl)) (sq sl sl)))))))
def Bp:PX 289 rZ:=⟨_,by conv=>lhs;reduce⟩
def zW:PL 289 rZ 0:=⟨_,by conv=>lhs;reduce⟩
def gZ(k1 k2:Q2):Nat->Q2
 |0,_,_=>none
 |n+1,vs,s=>eg c F bf (gZ k1 k2 n) [k1,k2] zW.1 vs s
def wT(k1 k2:Q2)(n:Nat)(vs:List AV)(s:St):=(by dsimp only[gZ,zW,go_sem,Int.reduceOfNat]:gZ c F k1 k2 (n+1) vs s=_)
def r9:Un->List Q2->Nat->Q2
 |.z,[k1,k2]=>gZ c F k1 k2
 |_,_=>λ_=>eO
def vt:O2:=aT c F (r9 c F) Bp.1 [x0] s
def L8:=(by dsimp only[vt,Bp, ↓r9,go_sem,Int.reduceOfNat]:vt c F x0 s=_)
def sg:Sh:=(sq sl (sq (sq sl (sc (sq sl sl) sl)) (sq (sq sl (sc (sq sl sl) sl)) (sq (sq sl (sc (sq sl sl) sl)) (sq (sq sl (sc (sq sl sl) sl)) (sq (sq sl (sb (sp 0 [1,3] [(1,[2]),(2,[])] (sq (sq sl (sc sl sl)) (sq (sb (sq sl (sc (sq sl sl) sl))) sl))))) (sq sl sl)))))))
def Bq:PX 290 sg:=⟨_,by conv=>lhs;reduce⟩
def zX:PL 290 sg 0:=⟨_,by conv=>lhs;reduce⟩
def g7(k1 k2:Q2):Nat->Q2
 |0,_,_=>none
 |n+1,vs,s=>eg c F bf (g7 k1 k2 n) [k1,k2] zX.1 vs s
def wU(k1 k2:Q2)(n:Nat)(vs:List AV)(s:St):=(by dsimp only[g7,zX,go_sem,Int.reduceOfNat]:g7 c F k1 k2 (n+1) vs s=_)
def si:Un->List Q2->Nat->Q2
 |.z,[k1,k2]=>g7 c F k1 k2
 |_,_=>λ_=>eO
def vu:O2:=aT c F (si c F) Bq.1 [x0] s
def L9:=(by dsimp only[vu,Bq, ↓si,go_sem,Int.reduceOfNat]:vu c F x0 s=_)
def zY:Sh:=(sq sl (sq sl sl))
def zZ:PX 291 zY:=⟨_,by conv=>lhs;reduce⟩
def ud:O2:=aT c F bf zZ.1 [x0,x1] s
def J9:=(by dsimp only[ud,zZ,go_sem,Int.reduceOfNat]:ud c F x0 x1 s=_)
def ED:Sh:=(sq sl (sq sl sl))
def EE:PX 297 ED:=⟨_,by conv=>lhs;reduce⟩
def Br:O2:=aT c F bf EE.1 [x0] s
def QY:=(by dsimp only[Br,EE,go_sem,Int.reduceOfNat]:Br c F x0 s=_)
def DW:Sh:=(sq sl (sq (sb (sq sl (sc (sq sl sl) (sq sl (sc (sq sl sl) (sq sl (sc (sq sl sl) (sq sl (sc (sq sl sl) sl))))))))) (sq (sq sl (sb (sp 0 [1,52,53,54] [(1,[2]),(3,[])] (sq sl (sq (sc sl sl) (sq (sb (sq sl (sq sl (sc (sq sl sl) sl)))) sl)))))) (sq sl sl))))
def Nv:PX 298 DW:=⟨_,by conv=>lhs;reduce⟩
def Ka:PL 298 DW 0:=⟨_,by conv=>lhs;reduce⟩
def mM(k1 k3:Q2):Nat->Q2
 |0,_,_=>none
 |n+1,vs,s=>eg c F bf (mM k1 k3 n) [k1,k3] Ka.1 vs s
def Gp(k1 k3:Q2)(n:Nat)(vs:List AV)(s:St):=(by dsimp only[mM,Ka,go_sem,Int.reduceOfNat]:mM c F k1 k3 (n+1) vs s=_)
def DX:Un->List Q2->Nat->Q2
 |.z,[k1,k3]=>mM c F k1 k3
 |_,_=>λ_=>eO
def I5:O2:=aT c F (DX c F) Nv.1 [x0] s
def XZ:=(by dsimp only[I5,Nv, ↓DX,go_sem,Int.reduceOfNat]:I5 c F x0 s=_)
def Kb:Sh:=(sq sl (sq sl (sq sl sl)))
def Kc:PX 299 Kb:=⟨_,by conv=>lhs;reduce⟩
def Gq:O2:=aT c F bf Kc.1 [x0] s
def VG:=(by dsimp only[Gq,Kc,go_sem,Int.reduceOfNat]:Gq c F x0 s=_)
def EF:Sh:=(sq sl (sq sl sl))
def EG:PX 300 EF:=⟨_,by conv=>lhs;reduce⟩
def Bs:O2:=aT c F bf EG.1 [x0,x1] s
def QZ:=(by dsimp only[Bs,EG,go_sem,Int.reduceOfNat]:Bs c F x0 x1 s=_)
def Ds:Sh:=(sq sl (sq sl sl))
def Dt:PX 301 Ds:=⟨_,by conv=>lhs;reduce⟩
def zi:O2:=aT c F bf Dt.1 [x0,x1,x2] s
def Pp:=(by dsimp only[zi,Dt,go_sem,Int.reduceOfNat]:zi c F x0 x1 x2 s=_)
def nE:Sh:=(sq sl (sq sl (sq sl (sq (sq sl (sc (sq sl sl) sl)) (sq sl (sq (sq sl (sc (sq sl sl) sl)) (sq (sq sl (sc (sq sl (sq sl (sq sl (sq sl sl)))) sl)) (sq sl (sq (sq sl (sc (sq sl (sq sl (sq sl sl))) sl)) (sq sl (sq sl (sq sl sl))))))))))))
def nF:PX 302 nE:=⟨_,by conv=>lhs;reduce⟩
def kA:O2:=aT c F bf nF.1 [x0,x1,x2] s
def Ao:=(by dsimp only[kA,nF,go_sem,Int.reduceOfNat]:kA c F x0 x1 x2 s=_)
def Pq:Sh:=(sq sl (sq sl sl))
def Pr:PX 303 Pq:=⟨_,by conv=>lhs;reduce⟩
def Ma:O2:=aT c F bf Pr.1 [x0,x1,x2] s
def aac:=(by dsimp only[Ma,Pr,go_sem,Int.reduceOfNat]:Ma c F x0 x1 x2 s=_)
def ue:Sh:=(sq sl (sq (sq sl (sc (sq sl sl) sl)) (sq (sq sl (sb (sp 0 [0,3] [(1,[2]),(2,[])] (sq (sq sl (sc sl sl)) (sq (sb (sq sl (sc (sq sl sl) sl))) sl))))) (sq sl sl))))
def Cg:PX 317 ue:=⟨_,by conv=>lhs;reduce⟩
def Bt:PL 317 ue 0:=⟨_,by conv=>lhs;reduce⟩
def iH(k1 k2:Q2):Nat->Q2
 |0,_,_=>none
 |n+1,vs,s=>eg c F bf (iH k1 k2 n) [k1,k2] Bt.1 vs s
def xY(k1 k2:Q2)(n:Nat)(vs:List AV)(s:St):=(by dsimp only[iH,Bt,go_sem,Int.reduceOfNat]:iH c F k1 k2 (n+1) vs s=_)
def uf:Un->List Q2->Nat->Q2
 |.z,[k1,k2]=>iH c F k1 k2
 |_,_=>λ_=>eO
def xK:O2:=aT c F (uf c F) Cg.1 [x0] s
def NO:=(by dsimp only[xK,Cg, ↓uf,go_sem,Int.reduceOfNat]:xK c F x0 s=_)
def Gr:Sh:=(sq sl (sq (sq sl (sc (sq sl sl) sl)) (sq (sq sl (sb (sp 0 [0,13,14] [(1,[2]),(2,[])] (sq sl (sq (sc sl sl) (sq (sb (sq sl (sq sl (sc (sq sl sl) sl)))) sl)))))) (sq sl sl))))
def Pt:PX 319 Gr:=⟨_,by conv=>lhs;reduce⟩
def Nw:PL 319 Gr 0:=⟨_,by conv=>lhs;reduce⟩
def oD(k1 k2:Q2):Nat->Q2
 |0,_,_=>none
 |n+1,vs,s=>eg c F bf (oD k1 k2 n) [k1,k2] Nw.1 vs s
def Ij(k1 k2:Q2)(n:Nat)(vs:List AV)(s:St):=(by dsimp only[oD,Nw,go_sem,Int.reduceOfNat]:oD c F k1 k2 (n+1) vs s=_)
def Gs:Un->List Q2->Nat->Q2
 |.z,[k1,k2]=>oD c F k1 k2
 |_,_=>λ_=>eO
def Mb:O2:=aT c F (Gs c F) Pt.1 [x0] s
def aad:=(by dsimp only[Mb,Pt, ↓Gs,go_sem,Int.reduceOfNat]:Mb c F x0 s=_)
def Pu:Sh:=(sq sl (sq sl sl))
def Pv:PX 320 Pu:=⟨_,by conv=>lhs;reduce⟩
def Mc:O2:=aT c F bf Pv.1 [x0] s
def aae:=(by dsimp only[Mc,Pv,go_sem,Int.reduceOfNat]:Mc c F x0 s=_)
def qu:Sh:=(sq sl (sq (sq sl (sc (sq sl sl) sl)) (sq sl sl)))
def qv:PX 321 qu:=⟨_,by conv=>lhs;reduce⟩
def lR:O2:=aT c F bf qv.1 [x0] s
def qw:=(by dsimp only[lR,qv,go_sem,Int.reduceOfNat]:lR c F x0 s=_)
def wV:Sh:=(sq sl (sq sl sl))
def wW:PX 322 wV:=⟨_,by conv=>lhs;reduce⟩
def qx:O2:=aT c F bf wW.1 [x0,x1] s
def He:=(by dsimp only[qx,wW,go_sem,Int.reduceOfNat]:qx c F x0 x1 s=_)
def eD:Sh:=(sq sl (sq sl (sq sl (sq (sb (sp 0 [0,2,4,8,9,10] [(2,[0,2,4,8,9])] (sq (sq sl (sc sl sl)) (sb (sq sl (sq sl (sc sl sl))))))) (sq sl sl)))))
def g9:PX 323 eD:=⟨_,by conv=>lhs;reduce⟩
def gV:PL 323 eD 0:=⟨_,by conv=>lhs;reduce⟩
def aX(k2:Q2):Nat->Q2
 |0,_,_=>none
 |n+1,vs,s=>eg c F bf (aX k2 n) [k2] gV.1 vs s
def dZ(k2:Q2)(n:Nat)(vs:List AV)(s:St):=(by dsimp only[aX,gV,go_sem,Int.reduceOfNat]:aX c F k2 (n+1) vs s=_)
def eE:Un->List Q2->Nat->Q2
 |.z,[k2]=>aX c F k2
 |_,_=>λ_=>eO
def eX:O2:=aT c F (eE c F) g9.1 [x0,x1,x2] s
def mN:=(by dsimp only[eX,g9, ↓eE,go_sem,Int.reduceOfNat]:eX c F x0 x1 x2 s=_)
end
section
variable{c:ah}(hc:Sem c)(F:Nat){x0 x1 x2 x3 x4 x5 x6 x7 x8 x9 pY qo:AV}{s:St}{r:AV×St}
include hc
theorem Ke(h:LP c F x0 s=some r):c 45 [x0] s=some (tidy s r):=hc.o1 F (F6 c F) F0 (by kernel_rfl) (by kernel_rfl) (λ_ _ _=>by kernel_rfl) (λ_ _ _ _=>by kernel_rfl) (by kernel_rfl) h
theorem Kf(h:LQ c F x0 x1 s=some r):c 49 [x0,x1] s=some (tidy s r):=hc.o1 F (F8 c F) F7 (by kernel_rfl) (by kernel_rfl) (λ_ _ _=>by kernel_rfl) (λ_ _ _ _=>by kernel_rfl) (by kernel_rfl) h
theorem VH(h:LR c F x0 s=some r):c 59 [x0] s=some (tidy s r):=hc.o0 F O0 (by kernel_rfl) (by kernel_rfl) h
theorem Px(h:CG c F x0 x1 s=some r):c 69 [x0,x1] s=some (tidy s r):=hc.o0 F F9 (by kernel_rfl) (by kernel_rfl) h
theorem VI(h:LU c F x0 s=some r):c 83 [x0] s=some (tidy s r):=hc.o1 F (Gc c F) Gb (by kernel_rfl) (by kernel_rfl) (λ_ _ _=>by kernel_rfl) (λ_ _ _ _=>by kernel_rfl) (by kernel_rfl) h
theorem VJ(h:LV c F s=some r):c 84 [] s=some (tidy s r):=hc.o0 F O5 (by kernel_rfl) (by kernel_rfl) h
theorem NP(h:A4 c F x0 x1 x2 s=some r):c 85 [x0,x1,x2] s=some (tidy s r):=hc.o0 F Ep (by kernel_rfl) (by kernel_rfl) h
theorem VK(h:LW c F x0 s=some r):c 87 [x0] s=some (tidy s r):=hc.o0 F O7 (by kernel_rfl) (by kernel_rfl) h
theorem X0(h:O9 c F x0 s=some r):c 88 [x0] s=some (tidy s r):=hc.o0 F RP (by kernel_rfl) (by kernel_rfl) h
theorem Q0(h:DS c F x0 s=some r):c 94 [x0] s=some (tidy s r):=hc.o0 F H8 (by kernel_rfl) (by kernel_rfl) h
theorem VL(h:LX c F x0 s=some r):c 96 [x0] s=some (tidy s r):=hc.o1 F (Ge c F) Gd (by kernel_rfl) (by kernel_rfl) (λ_ _ _=>by kernel_rfl) (λ_ _ _ _=>by kernel_rfl) (by kernel_rfl) h
theorem I6(h:u6 c F x0 s=some r):c 105 [x0] s=some (tidy s r):=hc.o1 F (rQ c F) rP (by kernel_rfl) (by kernel_rfl) (λ_ _ _=>by kernel_rfl) (λ_ _ _ _=>by kernel_rfl) (by kernel_rfl) h
theorem Kg(h:xE c F x0 s=some r):c 111 [x0] s=some (tidy s r):=hc.o0 F Cc (by kernel_rfl) (by kernel_rfl) h
theorem xZ(h:u7 c F x0 x1 s=some r):c 112 [x0,x1] s=some (tidy s r):=hc.o1 F (rS c F) rR (by kernel_rfl) (by kernel_rfl) (λ_ _ _=>by kernel_rfl) (λ_ _ _ _=>by kernel_rfl) (by kernel_rfl) h
theorem I7(h:u9 c F x0 s=some r):c 114 [x0] s=some (tidy s r):=hc.o0 F A8 (by kernel_rfl) (by kernel_rfl) h
theorem sk(h:fq c F x0 x1 s=some r):c 126 [x0,x1] s=some (tidy s r):=hc.o1 F (eS c F) eR (by kernel_rfl) (by kernel_rfl) (λ_ _ _=>by kernel_rfl) (λ_ _ _ _=>by kernel_rfl) (by kernel_rfl) h
theorem X1(h:Pb c F x0 x1 s=some r):c 128 [x0,x1] s=some (tidy s r):=hc.o0 F RR (by kernel_rfl) (by kernel_rfl) h
theorem EH(h:DT c F x0 s=some r):c 129 [x0] s=some (tidy s r):=hc.o1 F (Bb c F) Ba (by kernel_rfl) (by kernel_rfl) (λ_ _ _=>by kernel_rfl) (λ_ _ _ _=>by kernel_rfl) (by kernel_rfl) h
theorem NQ(h:Bc c F x0 s=some r):c 130 [x0] s=some (tidy s r):=hc.o0 F Es (by kernel_rfl) (by kernel_rfl) h
theorem NR(h:Bd c F x0 x1 s=some r):c 149 [x0,x1] s=some (tidy s r):=hc.o0 F Eu (by kernel_rfl) (by kernel_rfl) h
theorem aaf(h:SM c F x0 x1 s=some r):c 150 [x0,x1] s=some (tidy s r):=hc.o0 F Uu (by kernel_rfl) (by kernel_rfl) h
theorem X2(h:Pd c F x0 s=some r):c 151 [x0] s=some (tidy s r):=hc.o1 F (IZ c F) IY (by kernel_rfl) (by kernel_rfl) (λ_ _ _=>by kernel_rfl) (λ_ _ _ _=>by kernel_rfl) (by kernel_rfl) h
theorem Q3(h:DU c F x0 s=some r):c 152 [x0] s=some (tidy s r):=hc.o0 F Ie (by kernel_rfl) (by kernel_rfl) h
theorem X3(h:Pg c F x0 s=some r):c 163 [x0] s=some (tidy s r):=hc.o1 F (I1 c F) I0 (by kernel_rfl) (by kernel_rfl) (λ_ _ _=>by kernel_rfl) (λ_ _ _ _=>by kernel_rfl) (by kernel_rfl) h
theorem I8(h:vg c F x0 s=some r):c 168 [x0] s=some (tidy s r):=hc.o1 F (rV c F) rU (by kernel_rfl) (by kernel_rfl) (λ_ _ _=>by kernel_rfl) (λ_ _ _ _=>by kernel_rfl) (by kernel_rfl) h
theorem I9(h:vh c F x0 x1 s=some r):c 169 [x0,x1] s=some (tidy s r):=hc.o0 F Bf (by kernel_rfl) (by kernel_rfl) h
theorem Hf(h:tW c F x0 x1 x2 s=some r):c 170 [x0,x1,x2] s=some (tidy s r):=hc.o0 F zQ (by kernel_rfl) (by kernel_rfl) h
theorem sr(h:iw c F x0 x1 s=some r):c 177 [x0,x1] s=some (tidy s r):=hc.o1 F (gL c F) gK (by kernel_rfl) (by kernel_rfl) (λ_ _ _=>by kernel_rfl) (λ_ _ _ _=>by kernel_rfl) (by kernel_rfl) h
theorem Uy(h:I2 c F x0 x1 s=some r):c 178 [x0,x1] s=some (tidy s r):=hc.o0 F Np (by kernel_rfl) (by kernel_rfl) h
theorem qa(h:gw c F x0 x1 s=some r):c 179 [x0,x1] s=some (tidy s r):=hc.o0 F jO (by kernel_rfl) (by kernel_rfl) h
theorem NT(h:Bh c F x0 x1 s=some r):c 180 [x0,x1] s=some (tidy s r):=hc.o0 F Ew (by kernel_rfl) (by kernel_rfl) h
theorem VM(h:Bj c F x0 s=some r):c 181 [x0] s=some (tidy s r):=hc.oL F (Gg c F) Bi 2 (by kernel_rfl) (λi hi=>match i,hi with|0,_=>mZ 0 (by kernel_rfl) (λ_ _ _=>by kernel_rfl) (λ_ _ _ _=>by kernel_rfl)|1,_=>mZ 1 (by kernel_rfl) (λ_ _ _=>by kernel_rfl) (λ_ _ _ _=>by kernel_rfl)|n+2,h=>absurd h (by omega)) (by kernel_rfl) h
theorem VN(h:L7 c F x0 x1 s=some r):c 196 [x0,x1] s=some (tidy s r):=hc.o0 F Pj (by kernel_rfl) (by kernel_rfl) h
theorem NU(h:Bk c F x0 x1 s=some r):c 197 [x0,x1] s=some (tidy s r):=hc.o0 F Ey (by kernel_rfl) (by kernel_rfl) h
theorem Py(h:CH c F x0 x1 s=some r):c 202 [x0,x1] s=some (tidy s r):=hc.o0 F Gh (by kernel_rfl) (by kernel_rfl) h
theorem Pz(h:CI c F x0 x1 s=some r):c 207 [x0,x1] s=some (tidy s r):=hc.o0 F Gj (by kernel_rfl) (by kernel_rfl) h
theorem Q5(h:DV c F x0 x1 s=some r):c 212 [x0,x1] s=some (tidy s r):=hc.o0 F Ih (by kernel_rfl) (by kernel_rfl) h
theorem EZ(h:qt c F x0 s=some r):c 232 [x0] s=some (tidy s r):=hc.oL F (nK c F) kD 2 (by kernel_rfl) (λi hi=>match i,hi with|0,_=>mZ 0 (by kernel_rfl) (λ_ _ _=>by kernel_rfl) (λ_ _ _ _=>by kernel_rfl)|1,_=>mZ 1 (by kernel_rfl) (λ_ _ _=>by kernel_rfl) (λ_ _ _ _=>by kernel_rfl)|n+2,h=>absurd h (by omega)) (by kernel_rfl) h
theorem tH(h:o8 c F x0 s=some r):c 233 [x0] s=some (tidy s r):=hc.oL F (ni c F) j6 2 (by kernel_rfl) (λi hi=>match i,hi with|0,_=>mZ 0 (by kernel_rfl) (λ_ _ _=>by kernel_rfl) (λ_ _ _ _=>by kernel_rfl)|1,_=>mZ 1 (by kernel_rfl) (λ_ _ _=>by kernel_rfl) (λ_ _ _ _=>by kernel_rfl)|n+2,h=>absurd h (by omega)) (by kernel_rfl) h
theorem Kh(h:xF c F x0 s=some r):c 234 [x0] s=some (tidy s r):=hc.o0 F Ce (by kernel_rfl) (by kernel_rfl) h
theorem Md(h:ze c F x0 s=some r):c 235 [x0] s=some (tidy s r):=hc.o0 F Dl (by kernel_rfl) (by kernel_rfl) h
theorem Me(h:zf c F x0 s=some r):c 236 [x0] s=some (tidy s r):=hc.o0 F Dn (by kernel_rfl) (by kernel_rfl) h
theorem Hg(h:tY c F x0 s=some r):c 237 [x0] s=some (tidy s r):=hc.o0 F zS (by kernel_rfl) (by kernel_rfl) h
theorem Hh(h:tZ c F x0 s=some r):c 238 [x0] s=some (tidy s r):=hc.o0 F zU (by kernel_rfl) (by kernel_rfl) h
theorem NV(h:Bm c F x0 x1 s=some r):c 239 [x0,x1] s=some (tidy s r):=hc.o1 F (xH c F) xG (by kernel_rfl) (by kernel_rfl) (λ_ _ _=>by kernel_rfl) (λ_ _ _ _=>by kernel_rfl) (by kernel_rfl) h
theorem NW(h:Bo c F x0 s=some r):c 240 [x0] s=some (tidy s r):=hc.o1 F (xJ c F) xI (by kernel_rfl) (by kernel_rfl) (λ_ _ _=>by kernel_rfl) (λ_ _ _ _=>by kernel_rfl) (by kernel_rfl) h
theorem Gt(h:rW c F x0 x1 s=some r):c 241 [x0,x1] s=some (tidy s r):=hc.o1 F (pn c F) o9 (by kernel_rfl) (by kernel_rfl) (λ_ _ _=>by kernel_rfl) (λ_ _ _ _=>by kernel_rfl) (by kernel_rfl) h
theorem X4(h:Po c F s=some r):c 250 [] s=some (tidy s r):=hc.o0 F RV (by kernel_rfl) (by kernel_rfl) h
theorem Du(h:wK c F x0 x1 s=some r):c 251 [x0,x1] s=some (tidy s r):=hc.o0 F Gl (by kernel_rfl) (by kernel_rfl) h
theorem Uz(h:I4 c F x0 x1 s=some r):c 252 [x0,x1] s=some (tidy s r):=hc.o0 F Nt (by kernel_rfl) (by kernel_rfl) h
theorem vw(h:wL c F x0 x1 x2 x3 s=some r):c 253 [x0,x1,x2,x3] s=some (tidy s r):=hc.o1 F (zh c F) zg (by kernel_rfl) (by kernel_rfl) (λ_ _ _=>by kernel_rfl) (λ_ _ _ _=>by kernel_rfl) (by kernel_rfl) h
theorem Ja(h:vt c F x0 s=some r):c 289 [x0] s=some (tidy s r):=hc.o1 F (r9 c F) rZ (by kernel_rfl) (by kernel_rfl) (λ_ _ _=>by kernel_rfl) (λ_ _ _ _=>by kernel_rfl) (by kernel_rfl) h
theorem Jb(h:vu c F x0 s=some r):c 290 [x0] s=some (tidy s r):=hc.o1 F (si c F) sg (by kernel_rfl) (by kernel_rfl) (λ_ _ _=>by kernel_rfl) (λ_ _ _ _=>by kernel_rfl) (by kernel_rfl) h
theorem Hi(h:ud c F x0 x1 s=some r):c 291 [x0,x1] s=some (tidy s r):=hc.o0 F zY (by kernel_rfl) (by kernel_rfl) h
theorem NX(h:Br c F x0 s=some r):c 297 [x0] s=some (tidy s r):=hc.o0 F ED (by kernel_rfl) (by kernel_rfl) h
theorem UA(h:I5 c F x0 s=some r):c 298 [x0] s=some (tidy s r):=hc.o1 F (DX c F) DW (by kernel_rfl) (by kernel_rfl) (λ_ _ _=>by kernel_rfl) (λ_ _ _ _=>by kernel_rfl) (by kernel_rfl) h
theorem SQ(h:Gq c F x0 s=some r):c 299 [x0] s=some (tidy s r):=hc.o0 F Kb (by kernel_rfl) (by kernel_rfl) h
theorem NY(h:Bs c F x0 x1 s=some r):c 300 [x0,x1] s=some (tidy s r):=hc.o0 F EF (by kernel_rfl) (by kernel_rfl) h
theorem Mf(h:zi c F x0 x1 x2 s=some r):c 301 [x0,x1,x2] s=some (tidy s r):=hc.o0 F Ds (by kernel_rfl) (by kernel_rfl) h
theorem ya(h:kA c F x0 x1 x2 s=some r):c 302 [x0,x1,x2] s=some (tidy s r):=hc.o0 F nE (by kernel_rfl) (by kernel_rfl) h
theorem VO(h:Ma c F x0 x1 x2 s=some r):c 303 [x0,x1,x2] s=some (tidy s r):=hc.o0 F Pq (by kernel_rfl) (by kernel_rfl) h
theorem Ki(h:xK c F x0 s=some r):c 317 [x0] s=some (tidy s r):=hc.o1 F (uf c F) ue (by kernel_rfl) (by kernel_rfl) (λ_ _ _=>by kernel_rfl) (λ_ _ _ _=>by kernel_rfl) (by kernel_rfl) h
theorem VP(h:Mb c F x0 s=some r):c 319 [x0] s=some (tidy s r):=hc.o1 F (Gs c F) Gr (by kernel_rfl) (by kernel_rfl) (λ_ _ _=>by kernel_rfl) (λ_ _ _ _=>by kernel_rfl) (by kernel_rfl) h
theorem VQ(h:Mc c F x0 s=some r):c 320 [x0] s=some (tidy s r):=hc.o0 F Pu (by kernel_rfl) (by kernel_rfl) h
theorem oP(h:lR c F x0 s=some r):c 321 [x0] s=some (tidy s r):=hc.o0 F qu (by kernel_rfl) (by kernel_rfl) h
theorem E0(h:qx c F x0 x1 s=some r):c 322 [x0,x1] s=some (tidy s r):=hc.o0 F wV (by kernel_rfl) (by kernel_rfl) h
theorem l8(h:eX c F x0 x1 x2 s=some r):c 323 [x0,x1,x2] s=some (tidy s r):=hc.o1 F (eE c F) eD (by kernel_rfl) (by kernel_rfl) (λ_ _ _=>by kernel_rfl) (λ_ _ _ _=>by kernel_rfl) (by kernel_rfl) h
end
end
section
open Go Go.Ai Go.Proofs
variable{c:ah}
def e9(s:List Nat):Bool:=decide (1<=s.length)&&decide (s.length<=12)&&s.all λc=>decide (97<=c/\c<=122)
theorem aiM(s:List Nat)(hs:s.length<=12)(F:Nat)(st:St)(k1 k2):∀(m k:Nat),s.length<=k+m->k<=s.length->
  jC c F k1 k2 (m+1) [.str s,.int .i64 (k:Int)] st=if(s.drop k).all (λc=>decide (97<=c/\c<=122))=true then k2 [] st else k1 [.bool false] st:=by
 intro m;induction m with
 |zero=>
  intro k h1 h2;rw[Bn];obtain rfl:k=s.length:=by omega
  simp
 |succ m ih=>
  intro k h1 h2;rw[Bn];by_cases h:k<s.length
  . have e:s.drop k=s[k]::s.drop (k+1):=Za8 h;have:=ih (k+1) (by omega) (by omega);have w:au .i64 ((k:Int)+1)=((k+1:Nat):Int):=wrap64 (by omega) (by omega);rw[e,Zl0];generalize (s.drop (k+1)).all _=rest at this ⊢;by_cases h3:(s[k]:Int)<97
    .   have h5:decide (97<=s[k]/\s[k]<=122)=false:=(by simp;omega);simp[h,h3,h5]
    .   by_cases h4:122<(s[k]:Int)
        .have h5:decide (97<=s[k]/\s[k]<=122)=false:=(by simp;omega);simp[h,h3,h4,h5]
        .have h5:decide (97<=s[k]/\s[k]<=122)=true:=(by simp;omega);rw[h5,Ze4, <-this];simp[h,h3,h4,w]
  .obtain rfl:k=s.length:=(by omega);simp
theorem Fp(hc:Sem c)(s:List Nat)(st:St):c 240 [.str s] st=some (.bool (e9 s),st):=by
 rw[NW hc (s.length+1) (r:=(.bool (e9 s),st)),ak (Plain.bool _) (aM.refl st)];rw[QX];by_cases h0:(s.length:Int)<1
 .have h1:¬1<=s.length:=(by omega);simp[e9,h0,h1]
 . by_cases h1:12<(s.length:Int)
   .have h2:¬s.length<=12:=(by omega);simp[e9,h0,h1,h2]
   . have h2:s.length<=12:=(by omega);have h3:1<=s.length:=(by omega);have L:∀k1 k2,jC c (s.length+1) k1 k2 (s.length+1) [.str s,.int .i64 0] st=if(s.drop 0).all (λc=>decide (97<=c/\c<=122))=true then k2 [] st else k1 [.bool false] st:=
        λk1 k2=>aiM (c:=c) s h2 (s.length+1) st k1 k2 s.length 0 (by omega) (by omega)
     rw[Zb7]at L;have e:e9 s=s.all λc=>decide (97<=c/\c<=122):=(by simp[e9,h2,h3]);rw[e];generalize (s.all _)=b at L ⊢;simp[h0,h1,L];cases b<;>simp
structure aG where
 name:List Nat
 sh:Int
 a:Int
 b:Int
 oz:Bool
 cY:List Int
 x:Int
 y:Int
def ints(z:Bool)(l:List Int):AV:=ro 1 z (l.map λi=>[.int .i64 i])
def aG.cells(t:aG):List AV:=[.str t.name,.int .u8 t.sh,.int .i64 t.a,.int .i64 t.b,ints t.oz t.cY,.int .i64 t.x,.int .i64 t.y]
@[simp] theorem agQ(z:Bool)(l:List Int):(ints z l).one=true:=aez _ _ _
def bh(t:aG):Int:=
 if t.sh=1 then(if 1<=t.a/\t.a<=24/\t.b=0 then t.a else 0)
 else if t.sh=2 then(if 1<=t.a/\t.a<=11/\0<=t.b/\t.b<=2 then 2*t.a+t.b else 0)
 else if t.sh=3 then(if 1<=t.a/\t.a<=8/\1<=t.b/\t.b<=8 then t.a+2*t.b else 0)
 else if t.sh=4 then(if 1<=t.a/\t.a<=24/\0<=t.b/\t.b<=t.a then t.a else 0)
 else 0
theorem fF(hc:Sem c)(n lo hi:Int)(st:St):c 170 [.int .i64 n,.int .i64 lo,.int .i64 hi] st=some (.bool (decide (lo<=n/\n<=hi)),st):=by
 rw[Hf hc 1 (r:=(.bool (decide (lo<=n/\n<=hi)),st)),ak (Plain.bool _) (aM.refl st)];rw[J6];by_cases h:lo<=n<;>simp[h]
theorem Bu(hc:Sem c)(t:aG)(st:St)(hw:Wf st):c 111 [.agg t.cells] st=some (.int .i64 (bh t),st):=by
 rw[Kg hc 1 (r:=(.int .i64 (bh t),af st (.cells t.cells 0))),ak (Plain.int _ _) (bK hw)];rw[NM];obtain⟨name,sh,a,b,oz,cY,x,y⟩:=t;by_cases h1:sh=1
 .subst h1;by_cases h2:1<=a/\a<=24<;>by_cases h3:b=0<;>simp[aG.cells,AV.cells,fF hc,bh,fo,h2,h3]
 by_cases h4:sh=2
 . subst h4;by_cases h2:1<=a/\a<=11
   . by_cases h3:0<=b/\b<=2
     .  have w1:au .i64 (2*a)=2*a:=wrap64 (by omega) (by omega);have w2:au .i64 (2*a+b)=2*a+b:=wrap64 (by omega) (by omega);simp[aG.cells,AV.cells,fF hc,bh,fo,h2,h3,w1,w2]
     .  simp[aG.cells,AV.cells,fF hc,bh,fo,h2,h3]
   .simp[aG.cells,AV.cells,fF hc,bh,fo,h2];omega
 by_cases h5:sh=3
 . subst h5;by_cases h2:1<=a/\a<=8
   . by_cases h3:1<=b/\b<=8
     .  have w1:au .i64 (2*b)=2*b:=wrap64 (by omega) (by omega);have w2:au .i64 (a+2*b)=a+2*b:=wrap64 (by omega) (by omega);simp[aG.cells,AV.cells,fF hc,bh,fo,h2,h3,w1,w2]
     .  simp[aG.cells,AV.cells,fF hc,bh,fo,h2,h3]
   .simp[aG.cells,AV.cells,fF hc,bh,fo,h2];omega
 by_cases h6:sh=4
 . subst h6;by_cases h2:1<=a/\a<=24
   . by_cases h3:0<=b/\b<=a
     .  simp[aG.cells,AV.cells,fF hc,bh,fo,h2,h3]
     .  simp[aG.cells,AV.cells,fF hc,bh,fo,h2,h3]
   .simp[aG.cells,AV.cells,fF hc,bh,fo,h2];omega
 simp[aG.cells,AV.cells,fF hc,bh,fo,h1,h4,h5,h6]
theorem X5(hc:Sem c)(a b:Int)(st:St):c 197 [.int .i64 a,.int .i64 b] st=some (.int .i64 (if 1<=a/\a<=24/\b=0 then a else 0),st):=by
 rw[NU hc 1 (r:=(.int .i64 (if 1<=a/\a<=24/\b=0 then a else 0),st)),ak (Plain.int _ _) (aM.refl st)];rw[QV];by_cases h1:a<1
 .have:¬1<=a:=(by omega);simp[h1,this]
 . by_cases h2:24<a
   .have:¬a<=24:=(by omega);simp[h1,h2,this]
   .have h3:1<=a:=(by omega);have h4:a<=24:=(by omega);by_cases h5:b=0<;>simp[h1,h2,h3,h4,h5]
theorem aag(hc:Sem c)(a b:Int)(st:St):c 202 [.int .i64 a,.int .i64 b] st=some (.int .i64 (if 1<=a/\a<=11/\0<=b/\b<=2 then 2*a+b else 0),st):=by
 rw[Py hc 1 (r:=(.int .i64 (if 1<=a/\a<=11/\0<=b/\b<=2 then 2*a+b else 0),st)),ak (Plain.int _ _) (aM.refl st)];rw[SN];by_cases h1:a<1
 .have:¬1<=a:=(by omega);simp[h1,this]
 by_cases h2:11<a
 .have:¬a<=11:=(by omega);simp[h1,h2,this]
 by_cases h3:b<0
 .have:¬0<=b:=(by omega);simp[h1,h2,h3,this]
 by_cases h4:2<b
 .have:¬b<=2:=(by omega);simp[h1,h2,h3,h4,this]
 have h5:1<=a:=by omega
 have h6:a<=11:=by omega
 have h7:0<=b:=by omega
 have h8:b<=2:=by omega
 have w1:au .i64 (2*a)=2*a:=wrap64 (by omega) (by omega);have w2:au .i64 (2*a+b)=2*a+b:=wrap64 (by omega) (by omega);simp[h1,h2,h3,h4,h5,h6,h7,h8,w1,w2]
theorem aah(hc:Sem c)(a b:Int)(st:St):c 207 [.int .i64 a,.int .i64 b] st=some (.int .i64 (if 1<=a/\a<=8/\1<=b/\b<=8 then a+2*b else 0),st):=by
 rw[Pz hc 1 (r:=(.int .i64 (if 1<=a/\a<=8/\1<=b/\b<=8 then a+2*b else 0),st)),ak (Plain.int _ _) (aM.refl st)];rw[SP];by_cases h1:a<1
 .have:¬1<=a:=(by omega);simp[h1,this]
 by_cases h2:8<a
 .have:¬a<=8:=(by omega);simp[h1,h2,this]
 by_cases h3:b<1
 .have:¬1<=b:=(by omega);simp[h1,h2,h3,this]
 by_cases h4:8<b
 .have:¬b<=8:=(by omega);simp[h1,h2,h3,h4,this]
 have h5:1<=a:=by omega
 have h6:a<=8:=by omega
 have h7:1<=b:=by omega
 have h8:b<=8:=by omega
 have w1:au .i64 (2*b)=2*b:=wrap64 (by omega) (by omega);have w2:au .i64 (a+2*b)=a+2*b:=wrap64 (by omega) (by omega);simp[h1,h2,h3,h4,h5,h6,h7,h8,w1,w2]
theorem abq(hc:Sem c)(a b:Int)(st:St):c 212 [.int .i64 a,.int .i64 b] st=some (.int .i64 (if 1<=a/\a<=24/\0<=b/\b<=a then a else 0),st):=by
 rw[Q5 hc 1 (r:=(.int .i64 (if 1<=a/\a<=24/\0<=b/\b<=a then a else 0),st)),ak (Plain.int _ _) (aM.refl st)];rw[Ux];by_cases h1:a<1
 .have:¬1<=a:=(by omega);simp[h1,this]
 by_cases h2:24<a
 .have:¬a<=24:=(by omega);simp[h1,h2,this]
 by_cases h3:b<0
 .have:¬0<=b:=(by omega);simp[h1,h2,h3,this]
 by_cases h4:a<b
 .have:¬b<=a:=(by omega);simp[h1,h2,h3,h4,this]
 have h5:1<=a:=by omega
 have h6:a<=24:=by omega
 have h7:0<=b:=by omega
 have h8:b<=a:=by omega
 simp[h1,h2,h3,h4,h5,h6,h7,h8]
def vz(sh:Int):List AV:=
 if sh=1 then [.str [114,111,117,110,100],.func 197 [] [],.func 198 [] [],.func 199 [] [],.func 200 [] [],.func 201 [] []]
 else if sh=2 then [.str [108,111,110,103],.func 202 [] [],.func 203 [] [],.func 204 [] [],.func 205 [] [],.func 206 [] []]
 else if sh=3 then [.str [104,111,114,115,101,115,104,111,101],.func 207 [] [],.func 208 [] [],.func 209 [] [],.func 210 [] [],.func 211 [] []]
 else if sh=4 then [.str [114,111,119],.func 212 [] [],.func 213 [] [],.func 214 [] [],.func 215 [] [],.func 216 [] []]
 else [.str [],.jR,.jR,.jR,.jR,.jR]
theorem plain_fn(f:Nat):Plain (.func f [] []):=Plain.func f (by simp) (by simp)
theorem aeT(sh:Int):∀v∈vz sh,Plain v:=by
 unfold vz;intro v hv
 repeat' split at hv
 all_goals
  simp only[Za7,Zd0,Zh3]at hv;rcases hv with rfl|rfl|rfl|rfl|rfl|rfl<;>first|exact Plain.str _|exact Plain.jR|exact plain_fn _
theorem yb(hc:Sem c)(sh:Int)(st:St)(hw:Wf st):c 152 [.int .u8 sh] st=some (.tuple [.agg (vz sh),.bool (decide (1<=sh/\sh<=4))],st):=by
 have hp:Plain (.tuple [.agg (vz sh),.bool (decide (1<=sh/\sh<=4))]):=Plain.tuple λv hv=>by
   simp only[Za7,Zd0,Zh3]at hv;rcases hv with rfl|rfl
   .exact Plain.agg (aeT sh)
   .exact Plain.bool _
 rw[Q3 hc 1 (r:=(.tuple [.agg (vz sh),.bool (decide (1<=sh/\sh<=4))],af st (.cells (vz sh) 0))),ak hp (bK hw)];rw[Uw];by_cases h1:sh=1
 .subst h1;simp[vz,AV.cells,bg,AV.one,bJ,cI,aL,cF]
 by_cases h2:sh=2
 .subst h2;simp[vz,AV.cells,bg,AV.one,bJ,cI,aL,cF]
 by_cases h3:sh=3
 .subst h3;simp[vz,AV.cells,bg,AV.one,bJ,cI,aL,cF]
 by_cases h4:sh=4
 .subst h4;simp[vz,AV.cells,bg,AV.one,bJ,cI,aL,cF]
 have h5:decide (1<=sh/\sh<=4)=false:=by simp;omega
 rw[h5];simp[vz,AV.cells,bg,AV.one,bJ,cI,aL,cF,h1,h2,h3,h4]
theorem Kj(hc:Sem c)(t:aG)(st:St)(hw:Wf st):c 88 [.agg t.cells] st=some (.int .i64 (bh t),st):=by
 rw[X0 hc 1 (r:=(.int .i64 (bh t),af (af st (.cells t.cells 0)) (.cells (vz t.sh) 0))),ak (Plain.int _ _) ((bK hw).trans (bK (bM hw)))];rw[abl];obtain⟨name,sh,a,b,oz,cY,x,y⟩:=t;by_cases h1:sh=1
 .subst h1;simp[aG.cells,AV.cells,yb hc,hw,bh,vz,bg,AV.one,X5 hc]
 by_cases h2:sh=2
 .subst h2;simp[aG.cells,AV.cells,yb hc,hw,bh,vz,bg,AV.one,aag hc]
 by_cases h3:sh=3
 .subst h3;simp[aG.cells,AV.cells,yb hc,hw,bh,vz,bg,AV.one,aah hc]
 by_cases h4:sh=4
 .subst h4;simp[aG.cells,AV.cells,yb hc,hw,bh,vz,bg,AV.one,abq hc]
 have h5:decide (1<=sh/\sh<=4)=false:=by simp;omega
 simp[aG.cells,AV.cells,yb hc,hw,bh,vz,bg,AV.one,h1,h2,h3,h4,h5]
def dM:Nat:=9223372036854775808
theorem Jc(s:List Nat)(hs:s.length<=12)(F:Nat)(st:St)(k1 k2):∀(m k:Nat),s.length<=k+m->k<=s.length->
  iH c F k1 k2 (m+1) [.str s,.int .i64 (k:Int)] st=if(s.drop k).all (λc=>decide (97<=c/\c<=122))=true then k2 [] st else k1 [.bool false] st:=by
 intro m;induction m with
 |zero=>
  intro k h1 h2;rw[xY];obtain rfl:k=s.length:=by omega
  simp
 |succ m ih=>
  intro k h1 h2;rw[xY];by_cases h:k<s.length
  . have e:s.drop k=s[k]::s.drop (k+1):=Za8 h;have:=ih (k+1) (by omega) (by omega);have w:au .i64 ((k:Int)+1)=((k+1:Nat):Int):=wrap64 (by omega) (by omega);rw[e,Zl0];generalize (s.drop (k+1)).all _=rest at this ⊢;by_cases h3:(s[k]:Int)<97
    .   have h5:decide (97<=s[k]/\s[k]<=122)=false:=(by simp;omega);simp[h,h3,h5]
    .   by_cases h4:122<(s[k]:Int)
        .have h5:decide (97<=s[k]/\s[k]<=122)=false:=(by simp;omega);simp[h,h3,h4,h5]
        .have h5:decide (97<=s[k]/\s[k]<=122)=true:=(by simp;omega);rw[h5,Ze4, <-this];simp[h,h3,h4,w]
  .obtain rfl:k=s.length:=(by omega);simp
theorem Mg(hc:Sem c)(s:List Nat)(st:St):c 317 [.str s] st=some (.bool (e9 s),st):=by
 rw[Ki hc (s.length+1) (r:=(.bool (e9 s),st)),ak (Plain.bool _) (aM.refl st)];rw[NO];by_cases h0:(s.length:Int)=0
 .have h1:¬1<=s.length:=(by omega);have h2:s=[]:=Zb0 (by omega);subst h2;simp[e9]
 . by_cases h1:12<(s.length:Int)
   .have h2:¬s.length<=12:=(by omega);have h3:¬s=[]:=(by intro e;subst e;simp at h0);simp[e9,h1,h2,h3]
   . have h2:s.length<=12:=(by omega);have h3:1<=s.length:=(by omega);have h4:¬s=[]:=(by intro e;subst e;simp at h0);have L:∀k1 k2,iH c (s.length+1) k1 k2 (s.length+1) [.str s,.int .i64 0] st=if(s.drop 0).all (λc=>decide (97<=c/\c<=122))=true then k2 [] st else k1 [.bool false] st:=
        λk1 k2=>Jc (c:=c) s h2 (s.length+1) st k1 k2 s.length 0 (by omega) (by omega)
     rw[Zb7]at L;have e:e9 s=s.all λc=>decide (97<=c/\c<=122):=(by simp[e9,h2,h3]);rw[e];generalize (s.all _)=b at L ⊢;simp[h1,h4,L];cases b<;>simp
theorem UB(s:List Nat)(hs:s.length<=12)(F:Nat)(st:St)(k1 k2):∀(m k:Nat),s.length<=k+m->k<=s.length->
  oD c F k1 k2 (m+1) [.str s,.int .i64 (s.length:Int),.int .i64 (k:Int)] st=if(s.drop k).all (λc=>decide (97<=c/\c<=122))=true then k2 [] st else k1 [.bool false] st:=by
 intro m;induction m with
 |zero=>
  intro k h1 h2;rw[Ij];obtain rfl:k=s.length:=by omega
  simp
 |succ m ih=>
  intro k h1 h2;rw[Ij];by_cases h:k<s.length
  . have e:s.drop k=s[k]::s.drop (k+1):=Za8 h;have:=ih (k+1) (by omega) (by omega);have w:au .i64 ((k:Int)+1)=((k+1:Nat):Int):=wrap64 (by omega) (by omega);rw[e,Zl0];generalize (s.drop (k+1)).all _=rest at this ⊢;by_cases h3:(s[k]:Int)<97
    .   have h5:decide (97<=s[k]/\s[k]<=122)=false:=(by simp;omega);simp[h,h3,h5]
    .   by_cases h4:122<(s[k]:Int)
        .have h5:decide (97<=s[k]/\s[k]<=122)=false:=(by simp;omega);simp[h,h3,h4,h5]
        .have h5:decide (97<=s[k]/\s[k]<=122)=true:=(by simp;omega);rw[h5,Ze4, <-this];simp[h,h3,h4,w]
  .obtain rfl:k=s.length:=(by omega);simp
theorem DY(hc:Sem c)(s:List Nat)(st:St):c 319 [.str s] st=some (.bool (e9 s),st):=by
 rw[VP hc (s.length+1) (r:=(.bool (e9 s),st)),ak (Plain.bool _) (aM.refl st)];rw[aad];by_cases h0:(s.length:Int)=0
 .have h1:¬1<=s.length:=(by omega);have h2:s=[]:=Zb0 (by omega);subst h2;simp[e9]
 . by_cases h1:12<(s.length:Int)
   .have h2:¬s.length<=12:=(by omega);have h3:¬s=[]:=(by intro e;subst e;simp at h0);simp[e9,h1,h2,h3]
   . have h2:s.length<=12:=(by omega);have h3:1<=s.length:=(by omega);have h4:¬s=[]:=(by intro e;subst e;simp at h0);have L:∀k1 k2,oD c (s.length+1) k1 k2 (s.length+1) [.str s,.int .i64 (s.length:Int),.int .i64 0] st=if(s.drop 0).all (λc=>decide (97<=c/\c<=122))=true then k2 [] st else k1 [.bool false] st:=
        λk1 k2=>UB (c:=c) s h2 (s.length+1) st k1 k2 s.length 0 (by omega) (by omega)
     rw[Zb7]at L;have e:e9 s=s.all λc=>decide (97<=c/\c<=122):=(by simp[e9,h2,h3]);rw[e];generalize (s.all _)=b at L ⊢;simp[h1,h4,L];cases b<;>simp
theorem VR(s:List Nat)(hs:s.length<=12)(F:Nat)(st:St)(k1 k2):∀(m k:Nat),s.length<=k+m->k<=s.length->
  qp c F k1 k2 (m+1) [.str s,.int .i64 (s.length:Int),.int .i64 (k:Int)] st=if(s.drop k).all (λc=>decide (97<=c/\c<=122))=true then k2 [] st else k1 [.bool false] st:=by
 intro m;induction m with
 |zero=>
  intro k h1 h2;rw[J4];obtain rfl:k=s.length:=by omega
  simp
 |succ m ih=>
  intro k h1 h2;rw[J4];by_cases h:k<s.length
  . have e:s.drop k=s[k]::s.drop (k+1):=Za8 h;have:=ih (k+1) (by omega) (by omega);have w:au .i64 ((k:Int)+1)=((k+1:Nat):Int):=wrap64 (by omega) (by omega);rw[e,Zl0];generalize (s.drop (k+1)).all _=rest at this ⊢;by_cases h3:(s[k]:Int)<97
    .   have h5:decide (97<=s[k]/\s[k]<=122)=false:=(by simp;omega);simp[h,h3,h5]
    .   by_cases h4:122<(s[k]:Int)
        .have h5:decide (97<=s[k]/\s[k]<=122)=false:=(by simp;omega);simp[h,h3,h4,h5]
        .have h5:decide (97<=s[k]/\s[k]<=122)=true:=(by simp;omega);rw[h5,Ze4, <-this];simp[h,h3,h4,w]
  .obtain rfl:k=s.length:=(by omega);simp
theorem aai(hc:Sem c)(s:List Nat)(st:St):c 151 [.str s] st=some (.bool (e9 s),st):=by
 rw[X2 hc (s.length+1) (r:=(.bool (e9 s),st)),ak (Plain.bool _) (aM.refl st)];rw[abn];by_cases h0:(s.length:Int)=0
 .have h1:¬1<=s.length:=(by omega);have h2:s=[]:=Zb0 (by omega);subst h2;simp[e9]
 . by_cases h1:12<(s.length:Int)
   .have h2:¬s.length<=12:=(by omega);have h3:¬s=[]:=(by intro e;subst e;simp at h0);simp[e9,h1,h2,h3]
   . have h2:s.length<=12:=(by omega);have h3:1<=s.length:=(by omega);have h4:¬s=[]:=(by intro e;subst e;simp at h0);have L:∀k1 k2,qp c (s.length+1) k1 k2 (s.length+1) [.str s,.int .i64 (s.length:Int),.int .i64 0] st=if(s.drop 0).all (λc=>decide (97<=c/\c<=122))=true then k2 [] st else k1 [.bool false] st:=
        λk1 k2=>VR (c:=c) s h2 (s.length+1) st k1 k2 s.length 0 (by omega) (by omega)
     rw[Zb7]at L;have e:e9 s=s.all λc=>decide (97<=c/\c<=122):=(by simp[e9,h2,h3]);rw[e];generalize (s.all _)=b at L ⊢;simp[h1,h4,L];cases b<;>simp
theorem VS(s:List Nat)(hs:s.length<dM)(F:Nat)(st:St)(k1 k2):∀(m k:Nat),s.length<=k+m->k<=s.length->
  qq c F k1 k2 (m+1) [.str s,.int .i64 (k:Int)] st=if(s.drop k).all (λc=>decide (97<=c/\c<=122))=true then k2 [.str s] st else k1 [.bool false] st:=by
 intro m;induction m with
 |zero=>
  intro k h1 h2;rw[J5];obtain rfl:k=s.length:=by omega
  simp
 |succ m ih=>
  intro k h1 h2;rw[J5];by_cases h:k<s.length
  . have e:s.drop k=s[k]::s.drop (k+1):=Za8 h;have:=ih (k+1) (by omega) (by omega);have w:au .i64 ((k:Int)+1)=((k+1:Nat):Int):=wrap64 (by omega) (by unfold dM at hs;omega);rw[e,Zl0];generalize (s.drop (k+1)).all _=rest at this ⊢;by_cases h3:(s[k]:Int)<97
    .   have h5:decide (97<=s[k]/\s[k]<=122)=false:=(by simp;omega);simp[h,h3,h5]
    .   by_cases h4:122<(s[k]:Int)
        .have h5:decide (97<=s[k]/\s[k]<=122)=false:=(by simp;omega);simp[h,h3,h4,h5]
        .have h5:decide (97<=s[k]/\s[k]<=122)=true:=(by simp;omega);rw[h5,Ze4, <-this];simp[h,h3,h4,w]
  .obtain rfl:k=s.length:=(by omega);simp
theorem aaj(hc:Sem c)(s:List Nat)(hs:s.length<dM)(st:St):c 163 [.str s] st=some (.bool (e9 s),st):=by
 rw[X3 hc (s.length+1) (r:=(.bool (e9 s),st)),ak (Plain.bool _) (aM.refl st)];rw[abo];have L:∀k1 k2,qq c (s.length+1) k1 k2 (s.length+1) [.str s,.int .i64 0] st=if(s.drop 0).all (λc=>decide (97<=c/\c<=122))=true then k2 [.str s] st else k1 [.bool false] st:=
   λk1 k2=>VS (c:=c) s hs (s.length+1) st k1 k2 s.length 0 (by omega) (by omega)
 rw[Zb7]at L;have e:e9 s=(decide (1<=s.length)&&decide (s.length<=12)&&s.all λc=>decide (97<=c/\c<=122)):=rfl;rw[e];generalize (s.all _)=b at L ⊢;simp[L];cases b
 .simp
 . by_cases h1:(1:Int)<=s.length
   . have h2:1<=s.length:=(by omega);by_cases h3:(s.length:Int)<=12
     .  have h4:s.length<=12:=(by omega);simp[h1,h2,h3,h4]
     .  have h4:¬s.length<=12:=(by omega);simp[h1,h2,h3,h4]
   .have h2:¬1<=s.length:=(by omega);simp[h1,h2]
def nj(s:List Nat):Bool:=decide (s=[])||e9 s
theorem DZ(hc:Sem c)(s:List Nat)(st:St):c 320 [.str s] st=some (.bool (nj s),st):=by
 rw[VQ hc 1 (r:=(.bool (nj s),st)),ak (Plain.bool _) (aM.refl st)];rw[aae];by_cases h:s=[]<;>simp[h,nj,DY hc]
def xL(n last:Int):List Int->Bool
 |[]=>true
 |k::l=>decide (last<k)&&decide (k<n)&&xL n k l
def lF(t:aG):Int:=
 if e9 t.name=false then 4 else if bh t=0 then 10 else if xL (bh t) (-1) t.cY=false then 11
 else if 0<=t.x/\t.x<=1000/\0<=t.y/\t.y<=1000 then 0 else 2
structure aG.Ok(t:aG):Prop where
 name:t.name.length<dM
 cY:t.cY.length<dM
theorem aak(l:List Int)(k:Nat)(h:k<l.length):((l.map λi=>[AV.int .i64 i])[k]?.bind λcs=>cs[0]?)=some (.int .i64 l[k]):=by
 simp[Zb5,H1 h]
theorem UC(p:Pos)(n:Int)(z:Bool)(l:List Int)(hl:l.length<dM)(F:Nat)(st:St)(k1 k3):∀(m k:Nat)(last:Int),l.length<=k+m->k<=l.length->
  oC c F k1 k3 (m+1) [.ptr p 0,.int .i64 n,.int .i64 last,ints z l,.int .i64 (l.length:Int),.int .i64 (k:Int)] st=if xL n last (l.drop k)=true then k3 [.ptr p 0] st else k1 [.int .i64 11] st:=by
 intro m;induction m with
 |zero=>
  intro k last h1 h2;rw[Ia];obtain rfl:k=l.length:=by omega
  simp[xL]
 |succ m ih=>
  intro k last h1 h2;rw[Ia];by_cases h:k<l.length
  . have e:l.drop k=l[k]::l.drop (k+1):=Za8 h;have:=ih (k+1) l[k] (by omega) (by omega);have w:au .i64 ((k:Int)+1)=((k+1:Nat):Int):=wrap64 (by omega) (by unfold dM at hl;omega);have g:=aak l k h;rw[e,xL];generalize xL n l[k] (l.drop (k+1))=rest at this ⊢;by_cases h3:l[k]<=last
    .   have h4:¬last<l[k]:=(by omega);simp[ints,h,h3,h4,g]
    .   have h4:last<l[k]:=(by omega);by_cases h5:n<=l[k]
        .have h6:¬l[k]<n:=(by omega);simp[ints,h,h3,h4,h5,h6,g]
        .have h6:l[k]<n:=(by omega);simp only[h4,h6,Zf6,Ze4];rw[<-this];simp[ints,h,h3,h4,h5,h6,g,w]
  .obtain rfl:k=l.length:=(by omega);simp[xL]
theorem aal(hc:Sem c)(t:aG)(ht:t.Ok)(st:St)(hw:Wf st):c 96 [.agg t.cells] st=some (.int .i64 (lF t),st):=by
 rw[VL hc (t.cY.length+1) (r:=(.int .i64 (lF t),af st (.cells t.cells 0))),ak (Plain.int _ _) (bK hw)];rw[Z9];have hs:=Kj hc t (af st (.cells t.cells 0)) (bM hw);have hn:=aaj hc t.name ht.name;have hg:(af st (.cells t.cells 0)).heap.get st.next=some (.cells t.cells 0):=aC _ _;have c0:t.cells[0]? =some (.str t.name):=rfl;have c4:t.cells[4]? =some (ints t.oz t.cY):=rfl;have c5:t.cells[5]? =some (.int .i64 t.x):=rfl;have c6:t.cells[6]? =some (.int .i64 t.y):=rfl;have cc:cut t.cells 0 7=some t.cells:=bJ rfl
 have L:∀k1 k3,oC c (t.cY.length+1) k1 k3 (t.cY.length+1) [.ptr st.next 0,.int .i64 (bh t),.int .i64 (-1),ints t.oz t.cY,.int .i64 (t.cY.length:Int),.int .i64 0] (af st (.cells t.cells 0))=
     if xL (bh t) (-1) (t.cY.drop 0)=true then k3 [.ptr st.next 0] (af st (.cells t.cells 0))else k1 [.int .i64 11] (af st (.cells t.cells 0)):=
   λk1 k3=>UC st.next (bh t) t.oz t.cY ht.cY _ _ k1 k3 t.cY.length 0 (-1) (by omega) (by omega)
 rw[Zb7]at L;have lI:∀(K:AV->St->Option (AV×St))(s:St),ai c (.lenB .l) [ints t.oz t.cY] s K=K (.int .i64 (t.cY.length:Int)) s:=λK s=>by unfold ints;rw[bW];simp
 unfold lF;generalize t.cells=tc at*
 generalize bh t=sz at*
 generalize xL sz (-1) t.cY=op at*
 by_cases h1:e9 t.name=true
 . by_cases h2:sz=0
   .simp[AV.cells,hs,hn,hg,c0,cc,h1,h2]
   . cases op
     .  simp[AV.cells,hs,hn,hg,c0,c4,cc,h1,h2,lI,L]
     .  by_cases h3:t.x<0
        .have:¬0<=t.x:=(by omega);simp[AV.cells,hs,hn,hg,c0,c4,c5,c6,cc,h1,h2,lI,L,h3,this]
        by_cases h4:1000<t.x
        .have:¬t.x<=1000:=(by omega);simp[AV.cells,hs,hn,hg,c0,c4,c5,c6,cc,h1,h2,lI,L,h3,h4,this]
        by_cases h5:t.y<0
        .have:¬0<=t.y:=(by omega);simp[AV.cells,hs,hn,hg,c0,c4,c5,c6,cc,h1,h2,lI,L,h3,h4,h5,this]
        by_cases h6:1000<t.y
        .have:¬t.y<=1000:=(by omega);simp[AV.cells,hs,hn,hg,c0,c4,c5,c6,cc,h1,h2,lI,L,h3,h4,h5,h6,this]
        have h7:0<=t.x:=(by omega);have h8:t.x<=1000:=(by omega);have h9:0<=t.y:=(by omega);have Nx:t.y<=1000:=(by omega);simp[AV.cells,hs,hn,hg,c0,c4,c5,c6,cc,h1,h2,lI,L,h3,h4,h5,h6,h7,h8,h9,Nx]
 .simp[AV.cells,hs,hn,hg,c0,cc,h1]
theorem tI(t:aG):0<=bh t/\bh t<=1000:=by
 unfold bh;repeat' split
 all_goals omega
theorem X6(hc:Sem c)(p:Pos)(t:aG)(hl:t.cY.length<dM)(n:Int)(hn:0<=n/\n<=1000)(F:Nat)(st:St)(hp:st.heap.get p=some (.cells t.cells 0))(k1 k2):∀(m k:Nat)(last:Int),t.cY.length<=k+m->k<=t.cY.length-> -1<=last->(∀h:0<k,∀h':k - 1<t.cY.length,t.cY[k - 1]=last)->(k=0->last= -1)->
  gZ c F k1 k2 (m+1) [.ptr p 0,.int .i64 n,.int .i64 (k:Int)] st=if xL n last (t.cY.drop k)=true then k2 [.ptr p 0] st else k1 [.int .i64 11] st:=by
 have c4:t.cells[4]? =some (ints t.oz t.cY):=rfl;have lI:∀(K:AV->St->Option (AV×St))(s:St),ai c (.lenB .l) [ints t.oz t.cY] s K=K (.int .i64 (t.cY.length:Int)) s:=λK s=>by unfold ints;rw[bW];simp
 intro m;induction m with
 |zero=>
  intro k last h1 h2 _ _ _;rw[wT];obtain rfl:k=t.cY.length:=by omega
  simp[xL,hp,c4,lI]
 |succ m ih=>
  intro k last h1 h2 hla YD hz;rw[wT];by_cases h:k<t.cY.length
  . have e:t.cY.drop k=t.cY[k]::t.cY.drop (k+1):=Za8 h;have w:au .i64 ((k:Int)+1)=((k+1:Nat):Int):=wrap64 (by omega) (by unfold dM at hl;omega);have wn:au .i64 (n - 1)=n - 1:=wrap64 (by omega) (by omega);have g:=aak t.cY k h;rw[e,xL];by_cases h3:0<=t.cY[k]/\t.cY[k]<=n - 1
    .   have h6:t.cY[k]<n:=(by omega);have:=ih (k+1) t.cY[k] (by omega) (by omega) (by omega) (λ_ _=>by simp) (λh=>by omega);generalize xL n t.cY[k] (t.cY.drop (k+1))=rest at this ⊢;by_cases h0:k=0
        .have h4:last<t.cY[k]:=(by rw[hz h0];omega);have hk:¬0<k:=(by omega);simp only[h4,h6,Zf6,Ze4];rw[<-this];simp[hp,c4,lI,ints,h,h3,wn,fF hc,hk,w]
        . have hk:0<k:=(by omega);have qy:k - 1<t.cY.length:=(by omega);have xU:=YD (by omega) qy;have wk:au .i64 ((k:Int) - 1)=((k - 1:Nat):Int):=(by rw[wrap64 (by omega) (by unfold dM at hl;omega)];omega);by_cases h5:t.cY[k]<=last
          .have h4:¬last<t.cY[k]:=(by omega);simp[hp,c4,lI,ints,h,h3,h4,h5,wn,fF hc,hk,qy,xU,wk]
          .have h4:last<t.cY[k]:=(by omega);simp only[h4,h6,Zf6,Ze4];rw[<-this];simp[hp,c4,lI,ints,h,h3,h5,wn,fF hc,hk,qy,xU,wk,w]
    .   have h4:(decide (last<t.cY[k])&&decide (t.cY[k]<n))=false:=(by simp;omega);rw[h4,Zj2];simp[hp,c4,lI,ints,h,h3,wn,fF hc]
  .obtain rfl:k=t.cY.length:=(by omega);simp[xL,hp,c4,lI]
theorem abr(hc:Sem c)(t:aG)(ht:t.Ok)(st:St)(hw:Wf st):c 289 [.agg t.cells] st=some (.int .i64 (lF t),st):=by
 rw[Ja hc (t.cY.length+1) (r:=(.int .i64 (lF t),af st (.cells t.cells 0))),ak (Plain.int _ _) (bK hw)];rw[L8];have hs:=Bu hc t (af st (.cells t.cells 0)) (bM hw);have hn:=Mg hc t.name;have hg:(af st (.cells t.cells 0)).heap.get st.next=some (.cells t.cells 0):=aC _ _;have c0:t.cells[0]? =some (.str t.name):=rfl;have c4:t.cells[4]? =some (ints t.oz t.cY):=rfl;have c5:t.cells[5]? =some (.int .i64 t.x):=rfl;have c6:t.cells[6]? =some (.int .i64 t.y):=rfl;have cc:cut t.cells 0 7=some t.cells:=bJ rfl;have hz:0<=bh t/\bh t<=1000:=tI t
 have L:∀k1 k3,gZ c (t.cY.length+1) k1 k3 (t.cY.length+1) [.ptr st.next 0,.int .i64 (bh t),.int .i64 0] (af st (.cells t.cells 0))=
     if xL (bh t) (-1) (t.cY.drop 0)=true then k3 [.ptr st.next 0] (af st (.cells t.cells 0))else k1 [.int .i64 11] (af st (.cells t.cells 0)):=
   λk1 k3=>X6 hc st.next t ht.cY (bh t) hz _ _ hg k1 k3 t.cY.length 0 (-1) (by omega) (by omega) (by omega) (λh=>by omega) (λ_=>rfl)
 rw[Zb7]at L;unfold lF;generalize t.cells=tc at*
 generalize bh t=sz at*
 generalize xL sz (-1) t.cY=op at*
 by_cases h1:e9 t.name=true
 . by_cases h2:sz=0
   .simp[AV.cells,hs,hn,hg,c0,cc,h1,h2]
   . cases op
     .  simp[AV.cells,hs,hn,hg,c0,cc,h1,h2,L]
     .  by_cases h3:0<=t.x/\t.x<=1000
        . by_cases h4:0<=t.y/\t.y<=1000
          .simp[AV.cells,hs,hn,hg,c0,c5,c6,cc,h1,h2,L,h3,h4,fF hc]
          .simp[AV.cells,hs,hn,hg,c0,c5,c6,cc,h1,h2,L,h3,h4,fF hc]
        . have h5:¬(0<=t.x/\t.x<=1000/\0<=t.y/\t.y<=1000):=λh=>h3 ⟨h.1,h.2.1⟩
          rw[Za2 h5];simp[AV.cells,hs,hn,hg,c0,c5,cc,h1,h2,L,h3,fF hc]
 .simp[AV.cells,hs,hn,hg,c0,cc,h1]
def scan(P:Nat->Bool):Nat->Nat->Int
 |0,_=> -1
 |m+1,k=>if P k=true then(k:Int)else scan P m (k+1)
theorem Kk(P:Nat->Bool):∀(m k:Nat),-1<=scan P m k/\(scan P m k<0->scan P m k= -1)
 |0,_=>by simp[scan]
 |m+1,k=>by
  unfold scan;split
  .omega
  .exact Kk P m (k+1)
theorem UD{P Q:Nat->Bool}:∀(m k:Nat),(∀i,k<=i->i<k+m->P i=Q i)->scan P m k=scan Q m k
 |0,_,_=>rfl
 |m+1,k,h=>by
  unfold scan;rw[h k (by omega) (by omega),UD m (k+1) λi h1 h2=>h i (by omega) (by omega)]
theorem Mh{P:Nat->Bool}:∀(m k:Nat),0<=scan P m k->k<=(scan P m k).toNat/\(scan P m k).toNat<k+m/\P (scan P m k).toNat=true
 |0,k,h=>by simp[scan]at h
 |m +1,k,h=>by
  unfold scan at h ⊢;split
  .rename_i hp;simp;exact hp
  .rename_i hp;rw[Za2 hp]at h;have:=Mh m (k+1) h;exact⟨by omega,by omega,this.2.2⟩
def tabs(z:Bool)(ts:List aG):AV:=ro 7 z (ts.map aG.cells)
@[simp] theorem aG.c0(t:aG):t.cells[0]? =some (.str t.name):=id rfl
@[simp] theorem aG.c1(t:aG):t.cells[1]? =some (.int .u8 t.sh):=id rfl
@[simp] theorem aG.c2(t:aG):t.cells[2]? =some (.int .i64 t.a):=id rfl
@[simp] theorem aG.c3(t:aG):t.cells[3]? =some (.int .i64 t.b):=id rfl
@[simp] theorem aG.c4(t:aG):t.cells[4]? =some (ints t.oz t.cY):=id rfl
@[simp] theorem aG.c5(t:aG):t.cells[5]? =some (.int .i64 t.x):=id rfl
@[simp] theorem aG.c6(t:aG):t.cells[6]? =some (.int .i64 t.y):=id rfl
@[simp] theorem aG.cc(t:aG):cut t.cells 0 7=some t.cells:=bJ rfl
theorem aG.len(t:aG):t.cells.length=7:=id rfl
@[simp] theorem aG.one(t:aG):bg t.cells=true:=by unfold aG.cells;simp only[bg,agQ];rfl
@[simp] theorem PA(l:List AV):(AV.agg l).cells=l:=id rfl
def iX(ts:List aG)(s:List Nat)(i:Nat):Bool:=decide (ts[i]?.map aG.name=some s)
def eH(ts:List aG):Nat->Nat->Int×Int
 |0,_=>(0,0)
 |  m+1,k=>match ts[k]? with
    |none=>(0,0)
    |some t=>if lF t≠0 then((k:Int),lF t)else if 0<=scan (iX ts t.name) k 0 then((k:Int),5)else eH ts m (k+1)
def bA(ts:List aG):Int×Int:=if 16<ts.length then(0,7)else eH ts ts.length 0
theorem Mi(ts:List aG):∀(m m' k:Nat),ts.length<=k+m->ts.length<=k+m'->eH ts m k=eH ts m' k
 |0,0,_,_,_=>rfl
 |0,m'+1,k,h,_=>by rw[eH,eH,Zc4 (by omega)]
 |m+1,0,k,_,h=>by rw[eH,eH,Zc4 (by omega)]
 |m+1,m'+1,k,h,h'=>by
  rw[eH,eH,Mi ts m m' (k+1) (by omega) (by omega)]
theorem Mj(ts:List aG):∀(m k:Nat),(eH ts m k).2=0->(eH ts m k).1=0
 |0,_,_=>rfl
 |m +   1,k,h=>by
  rw[eH]at h ⊢;split at h
  .rfl
  . split at h
    .   rename_i cU;exact absurd h cU
    .   split at h
        .simp at h
        .rename_i h1 h2;rw[Za2 h1,Za2 h2];exact Mj ts m (k+1) h
theorem VT(z:Bool)(ts:List aG)(k:Nat)(hk:k<ts.length)(hl:ts.length<=16)(F:Nat)(st:St)(k1 k4):∀(m j:Nat),k<=j+m->j<=k->
  eP c F k1 k4 (m+1) [tabs z ts,.int .i64 (k:Int),.int .i64 (j:Int)] st=if 0<=scan (iX ts ts[k].name) (k - j) j then k1 [.int .i64 (k:Int),.int .i64 5] st else k4 [tabs z ts,.int .i64 (k:Int)] st:=by
 intro m;induction m with
 |zero=>
  intro j h1 h2;obtain rfl:j=k:=by omega
  rw[tF];simp[scan]
 |succ m ih=>
  intro j h1 h2;rw[tF];by_cases h:j<k
  . have hj:j<ts.length:=(by omega);have e:k - j=(k - (j+1))+1:=(by omega);have w:au .i64 ((j:Int)+1)=((j+1:Nat):Int):=wrap64 (by omega) (by omega);rw[e,scan];by_cases h3:ts[j].name=ts[k].name
    .   have:iX ts ts[k].name j=true:=(by simp[iX,hj,h3]);rw[Za4 this];simp[tabs,h,hj,hk,h3]
    .   have:¬iX ts ts[k].name j=true:=(by simp[iX,hj,h3]);rw[Za2 this, <-ih (j+1) (by omega) (by omega)];simp[tabs,h,hj,hk,h3,w]
  .obtain rfl:j=k:=(by omega);simp[scan]
theorem UE(hc:Sem c)(z:Bool)(ts:List aG)(cQ:∀t∈ts,t.Ok)(hl:ts.length<=16)(st:St)(hw:Wf st)(k1 k2):∀(m k:Nat),ts.length<=k+m->k<=ts.length->
  fL c 20 k1 k2 (m+1) [tabs z ts,.int .i64 (k:Int)] st=if(eH ts m k).2=0 then k2 [] st else k1 [.int .i64 (eH ts m k).1,.int .i64 (eH ts m k).2] st:=by
 intro m;induction m with
 |zero=>
  intro k h1 h2;obtain rfl:k=ts.length:=by omega
  rw[tG];simp[eH,tabs]
 |succ m ih=>
  intro k h1 h2;rw[tG];by_cases h:k<ts.length
  . have w:au .i64 ((k:Int)+1)=((k+1:Nat):Int):=wrap64 (by omega) (by omega);have hch:=abr hc ts[k] (cQ _ (Zc6 h)) st hw;have L:∀k1 k4,eP c 20 k1 k4 20 [tabs z ts,.int .i64 (k:Int),.int .i64 0] st=if 0<=scan (iX ts ts[k].name) (k - 0) 0 then k1 [.int .i64 (k:Int),.int .i64 5] st else k4 [tabs z ts,.int .i64 (k:Int)] st:=
        λk1 k4=>VT z ts k h hl 20 st k1 k4 19 0 (by omega) (by omega)
    rw[Zl5]at L;rw[eH,H1 h];simp only;by_cases h3:lF ts[k]=0
    .   by_cases h4:0<=scan (iX ts ts[k].name) k 0
        .simp[tabs,h,hch,h3,h4]at L ⊢;rw[L];simp
        .have:=ih (k+1) (by omega) (by omega);simp[tabs,h,hch,h3,h4]at L this ⊢;rw[L];simp[w,this]
    .   simp[tabs,h,hch,h3]
  .obtain rfl:k=ts.length:=(by omega);simp[eH,tabs]
theorem VU(hc:Sem c)(z:Bool)(ts:List aG)(cQ:∀t∈ts,t.Ok)(st:St)(hw:Wf st):c 232 [tabs z ts] st=some (.tuple [.int .i64 (bA ts).1,.int .i64 (bA ts).2],st):=by
 rw[EZ hc 20 (r:=(.tuple [.int .i64 (bA ts).1,.int .i64 (bA ts).2],st)),ak (Plain.tuple (by simp[Plain.int])) (aM.refl st)];rw[G9];by_cases h:16<ts.length
 .have hi:(16:Int)<ts.length:=(by omega);simp[tabs,bA,h,hi]
 . have hi:¬(16:Int)<ts.length:=(by omega);have L:∀k1 k2,fL c 20 k1 k2 20 [tabs z ts,.int .i64 0] st=if(eH ts 19 0).2=0 then k2 [] st else k1 [.int .i64 (eH ts 19 0).1,.int .i64 (eH ts 19 0).2] st:=
     λk1 k2=>UE hc z ts cQ (by omega) st hw k1 k2 19 0 (by omega) (by omega)
   have e:bA ts=eH ts 19 0:=(by rw[bA,Za2 h];exact Mi ts _ _ 0 (by omega) (by omega));rw[e];simp[tabs,hi]at L ⊢;rw[L];by_cases h2:(eH ts 19 0).2=0
   .have:=Mj ts 19 0 h2;simp[h2,this]
   .simp[h2]
theorem aam(hc:Sem c)(x t:aG)(p:Pos)(st:St)(hw:Wf st)(hp:st.heap.get p=some (.cells t.cells 0)):c 180 [.agg x.cells,.ptr p 0] st=some (.bool (decide (x.name=t.name)),st):=by
 rw[NT hc 1 (r:=(.bool (decide (x.name=t.name)),af st (.cells x.cells 0))),ak (Plain.bool _) (bK hw)];rw[QU];have:(af st (.cells x.cells 0)).heap.get p=some (.cells t.cells 0):=bK hw _ _ hp;simp[this]
theorem agR(hc:Sem c)(x:aG)(s:List Nat)(p:Pos)(st:St)(hw:Wf st)(hp:st.heap.get p=some (.cells [.str s] 0)):c 178 [.agg x.cells,.ptr p 0] st=some (.bool (decide (x.name=s)),st):=by
 rw[Uy hc 1 (r:=(.bool (decide (x.name=s)),af st (.cells x.cells 0))),ak (Plain.bool _) (bK hw)];rw[XX];have:(af st (.cells x.cells 0)).heap.get p=some (.cells [.str s] 0):=bK hw _ _ hp;simp[this]
theorem aeU(z:Bool)(rs:List (List AV))(hl:rs.length<dM)(eF:∀cs∈rs,cs.length=7)(g:Nat)(v:List AV)(P:Nat->Bool)(st:St)(F:Nat)(k1 k2)
  (hP:∀i (h:i<rs.length),c g (.agg rs[i]::v) st=some (.bool (P i),st)):∀(m k:Nat),rs.length<=k+m->k<=rs.length->
  cG c F k1 k2 (m+1) [ro 7 z rs,.func g [] v,.int .i64 (rs.length:Int),.int .i64 (k:Int)] st=if 0<=scan P (rs.length - k) k then k1 [.int .i64 (scan P (rs.length - k) k)] st else k2 [] st:=by
 intro m;induction m with
 |zero=>
  intro k h1 h2;obtain rfl:k=rs.length:=by omega
  rw[jN];simp[scan]
 |succ m ih=>
  intro k h1 h2;rw[jN];by_cases h:k<rs.length
  . have e:rs.length - k=(rs.length - (k+1))+1:=(by omega);have w:au .i64 ((k:Int)+1)=((k+1:Nat):Int):=wrap64 (by omega) (by unfold dM at hl;omega);have hcut:cut rs[k] 0 7=some rs[k]:=bJ (eF _ (Zc6 h));have hp:=hP k h;rw[e,scan];cases hb:P k
    .   simp only[Zd4,Ze1];rw[<-ih (k+1) (by omega) (by omega)];simp[h,hcut,hp,hb,w]
    .   simp[h,hcut,hp,hb]
  .obtain rfl:k=rs.length:=(by omega);simp[scan]
theorem ab7(hc:Sem c)(z:Bool)(rs:List (List AV))(hl:rs.length<dM)(eF:∀cs∈rs,cs.length=7)(g:Nat)(v:List AV)(P:Nat->Bool)(st:St)
   (hP:∀i (h:i<rs.length),c g (.agg rs[i]::v) st=some (.bool (P i),st)):c 177 [ro 7 z rs,.func g [] v] st=some (.int .i64 (scan P rs.length 0),st):=by
 rw[sr hc (rs.length+1) (r:=(.int .i64 (scan P rs.length 0),st)),ak (Plain.int _ _) (aM.refl st)];rw[tX];have L:∀k1 k2,cG c (rs.length+1) k1 k2 (rs.length+1) [ro 7 z rs,.func g [] v,.int .i64 (rs.length:Int),.int .i64 0] st=if 0<=scan P (rs.length - 0) 0 then k1 [.int .i64 (scan P (rs.length - 0) 0)] st else k2 [] st:=
   λk1 k2=>aeU z rs hl eF g v P st _ k1 k2 hP rs.length 0 (by omega) (by omega)
 rw[Zl5]at L;by_cases h:0<=scan P rs.length 0
 .simp[L,h]
 .have:=(Kk P rs.length 0).2 (by omega);simp[L,this]
theorem aan(hc:Sem c)(z:Bool)(rs:List (List AV))(hl:rs.length<dM)(eF:∀cs∈rs,cs.length=7)(g:Nat)(v:List AV)(P:Nat->Bool)(st:St)
  (hP:∀i (h:i<rs.length),c g (.agg rs[i]::v) st=some (.bool (P i),st)):c 179 [ro 7 z rs,.func g [] v] st=some (.bool (decide (0<=scan P rs.length 0)),st):=by
 rw[qa hc 1 (r:=(.bool (decide (0<=scan P rs.length 0)),st)),ak (Plain.bool _) (aM.refl st)];rw[qW];simp[ab7 hc z rs hl eF g v P st hP]
theorem X7(hc:Sem c)(z:Bool)(ts:List aG)(cQ:∀t∈ts,t.Ok)(hl:ts.length<=16)(F:Nat)(k1 k2):∀(m k:Nat)(st:St),Wf st->ts.length<=k+m->k<=ts.length->
  ∃st',Grew st st'/\nh c F k1 k2 (m+1) [tabs z ts,tabs z ts,.int .i64 (ts.length:Int),.int .i64 (k:Int)] st=if(eH ts m k).2=0 then k2 [] st' else k1 [.int .i64 (eH ts m k).1,.int .i64 (eH ts m k).2] st':=by
 intro m;induction m with
 |zero=>
  intro k st hw h1 h2;obtain rfl:k=ts.length:=by omega
  refine⟨st,Grew.refl hw,?_⟩;rw[ve];simp[eH,tabs]
 |succ m ih=>
  intro k st hw h1 h2;by_cases h:k<ts.length
  . have w:au .i64 ((k:Int)+1)=((k+1:Nat):Int):=wrap64 (by omega) (by omega);have cw:Wf (af st (.cells ts[k].cells 0)):=bM hw;have hg:=Grew.af hw (.cells ts[k].cells 0);have hch:=aal hc ts[k] (cQ _ (Zc6 h)) _ cw;have hco:=aan hc (z&&(ts.map aG.cells).isEmpty) ((ts.map aG.cells).take k) (by simp[dM];omega) (λcs fT=>by
          have:=List.mem_of_mem_take fT;simp only[Zf2]at this;obtain⟨t,_,rfl⟩:=this;rfl) 180 [.ptr st.next 0] (iX ts ts[k].name) (af st (.cells ts[k].cells 0)) (λi hi=>by
          have Cb:i<k:=(by simp at hi;omega);have hi3:i<ts.length:=(by omega);have:=aam hc ts[i] ts[k] st.next (af st (.cells ts[k].cells 0)) cw (aC _ _);simp only[Zm1,Zi2];rw[this];simp[iX,hi3])
    have hlen:((ts.map aG.cells).take k).length=k:=(by simp;omega);rw[hlen]at hco;rw[ve,eH,H1 h];simp only;by_cases h3:lF ts[k]=0
    .   by_cases h4:0<=scan (iX ts ts[k].name) k 0
        .refine⟨_,hg,?_⟩;have qh:k<=ts.length:=(by omega);simp only[tabs,List.isEmpty_map]at hco ⊢;simp[h,hch,h3,h4,qh,hco,aG.len]
        .obtain⟨st',g1,g2⟩:=ih (k+1) _ cw (by omega) (by omega);refine⟨st',hg.trans g1,?_⟩;have qh:k<=ts.length:=(by omega);have e3:¬lF ts[k]≠0:=(by rw[h3];simp);simp only[e3,h4,Ze1];rw[<-g2];simp only[tabs,List.isEmpty_map]at hco ⊢;simp[h,hch,h3,h4,qh,hco,w,aG.len]
    .   refine⟨_,hg,?_⟩;simp[tabs,h,hch,h3,aG.len]
  .obtain rfl:k=ts.length:=(by omega);refine⟨st,Grew.refl hw,?_⟩;rw[ve];simp[eH,tabs]
theorem RX(hc:Sem c)(z:Bool)(ts:List aG)(cQ:∀t∈ts,t.Ok)(st:St)(hw:Wf st):c 129 [tabs z ts] st=some (.tuple [.int .i64 (bA ts).1,.int .i64 (bA ts).2],st):=by
 have mH:Plain (.tuple [.int .i64 (bA ts).1,.int .i64 (bA ts).2]):=Plain.tuple (by simp[Plain.int]);by_cases h:16<ts.length
 .rw[EH hc 20 (r:=(.tuple [.int .i64 (bA ts).1,.int .i64 (bA ts).2],st)),ak mH (aM.refl st)];rw[Ic];have hi:(16:Int)<ts.length:=(by omega);simp[tabs,bA,h,hi]
 . have hi:¬(16:Int)<ts.length:=(by omega);have e:bA ts=eH ts 19 0:=(by rw[bA,Za2 h];exact Mi ts _ _ 0 (by omega) (by omega));have hex:=λk1 k2=>X7 hc z ts cQ (by omega) 20 k1 k2 19 0 st hw (by omega) (by omega)
   obtain⟨st',hg,L⟩:=hex (λvs s36=>eV vs λx2 vs=>eV vs λx3 vs=>gP vs (some (.tuple [x2,x3],s36))) (λvs s37=>gP vs (
     ai c .move [(.int .i64 0)] s37 λx2 s38=>ai c .move [(.int .i64 0)] s38 λx3 s39=>some (.tuple [x2,x3],s39)))
   rw[EH hc 20 (r:=(.tuple [.int .i64 (bA ts).1,.int .i64 (bA ts).2],st')),ak mH hg.keeps];rw[Ic,e];simp only[tabs]at L;simp[tabs,hi]at L ⊢;rw[L];by_cases h2:(eH ts 19 0).2=0
   .have:=Mj ts 19 0 h2;simp[h2,this]
   .simp[h2]
def aO(ts:List aG):Int:=(ts.map bh).sum
theorem pz(ts:List aG):0<=aO ts/\aO ts<=1000*ts.length:=by
 induction ts with
 |nil=>simp[aO]
 |cons t ts ih=>
  have:=tI t;simp only[aO,Zb4,List.sum_cons,Zb2]at ih ⊢;omega
theorem E5(ts:List aG)(t:aG):aO (ts++[t])=aO ts+bh t:=by simp[aO]
def yR(ts:List aG)(t:Int):Int:=if t<0\/(ts.length:Int)<=t\/(bA ts).2≠0 then 0 else aO (ts.take t.toNat)
theorem Ml(hc:Sem c)(z:Bool)(ts:List aG)(cQ:∀t∈ts,t.Ok)(st:St)(hw:Wf st):c 87 [tabs z ts] st=some (.bool (decide ((bA ts).2=0)),st):=by
 rw[VK hc 1 (r:=(.bool (decide ((bA ts).2=0)),st)),ak (Plain.bool _) (aM.refl st)];rw[Z8];simp[RX hc z ts cQ st hw]
theorem PC{ts:List aG}(h:(bA ts).2=0):ts.length<=16:=by
 unfold bA at h;split at h
 .simp at h
 .omega
theorem adm(hc:Sem c)(z:Bool)(ts:List aG)(hl:ts.length<=16)(F:Nat)(k2):∀(m k:Nat)(st:St),Wf st->ts.length<=k+m->k<=ts.length->
  ∃st',Grew st st'/\tE c F k2 (m+1) [.int .i64 (aO (ts.take k)),tabs z ts,.int .i64 (ts.length:Int),.int .i64 (k:Int)] st=k2 [.int .i64 (aO ts)] st':=by
 intro m;induction m with
 |zero=>
  intro k st hw h1 h2;obtain rfl:k=ts.length:=by omega
  refine⟨st,Grew.refl hw,?_⟩;rw[A3];simp
 |succ m ih=>
  intro k st hw h1 h2;by_cases h:k<ts.length
  . have w:au .i64 ((k:Int)+1)=((k+1:Nat):Int):=wrap64 (by omega) (by omega);have cw:Wf (af st (.cells ts[k].cells 0)):=bM hw;have hg:=Grew.af hw (.cells ts[k].cells 0);have hs:=Kj hc ts[k] _ cw;have e:aO (ts.take (k+1))=aO (ts.take k)+bh ts[k]:=by
        rw[Zc2 h,E5]
    have b1:=pz (ts.take k);have b2:=tI ts[k];have b3:(ts.take k).length<=16:=(by simp;omega);have w2:au .i64 (aO (ts.take k)+bh ts[k])=aO (ts.take (k+1)):=(by rw[e];exact wrap64 (by omega) (by omega));obtain⟨st',g1,g2⟩:=ih (k+1) _ cw (by omega) (by omega);refine⟨st',hg.trans g1,?_⟩;rw[<-g2,A3];simp[tabs,h,hs,w,w2,aG.len]
  .obtain rfl:k=ts.length:=(by omega);refine⟨st,Grew.refl hw,?_⟩;rw[A3];simp
theorem aao(hc:Sem c)(z:Bool)(ts:List aG)(cQ:∀t∈ts,t.Ok)(k:Int)(st:St)(hw:Wf st):c 49 [tabs z ts,.int .i64 k] st=some (.int .i64 (yR ts k),st):=by
 have lT:∀(K:AV->St->Option (AV×St))(s:St),ai c (.lenB .l) [tabs z ts] s K=K (.int .i64 (ts.length:Int)) s:=λK s=>by unfold tabs;rw[bW];simp
 have hv:=Ml hc z ts cQ st hw;by_cases h:k<0\/(ts.length:Int)<=k\/(bA ts).2≠0
 . have e:yR ts k=0:=(by rw[yR,Za4 h]);rw[Kf hc 1 (r:=(.int .i64 (yR ts k),st)),ak (Plain.int _ _) (aM.refl st)];rw[OZ,e];by_cases h1:k<0
   .simp[h1]
   . by_cases h2:(ts.length:Int)<=k
     .  simp[h1,h2,lT]
     .  have h3:(bA ts).2≠0:=h.resolve_left h1 |>.resolve_left h2;simp[h1,h2,h3,lT,hv]
 . have e:yR ts k=aO (ts.take k.toNat):=(by rw[yR,Za2 h]);have h1:¬k<0:=λe=>h (.inl e)
   have h2:¬(ts.length:Int)<=k:=λe=>h (.inr (.inl e))
   have h3:(bA ts).2=0:=Zj5 λe=>h (.inr (.inr e))
   have hl:=PC h3;obtain⟨n,rfl⟩:∃n:Nat,k=(n:Int):=⟨k.toNat,by omega⟩
   have hn:n<=ts.length:=(by omega);have hex:=λk2=>adm hc (z&&ts.isEmpty) (ts.take n) (by simp;omega) 20 k2 19 0 st hw (by simp;omega) (by omega)
   obtain⟨st',hg,L⟩:=hex (λvs s33=>eV vs λx5 vs=>gP vs (ai c .move [x5] s33 λx34 s34=>ai c .move [x34] s34 λx4 s35=>some (x4,s35)));rw[Kf hc 20 (r:=(.int .i64 (yR ts (n:Int)),st')),ak (Plain.int _ _) hg.keeps];rw[OZ,e];have h4:¬ts.length<=n:=(by omega);have hm:min n ts.length=n:=(by omega);simp[tabs,aO,hm]at L;simp[h1,h4,h3,lT,hv];simp[tabs,hn,hm,aO,L]
theorem abt(hc:Sem c)(z:Bool)(ts:List aG)(hl:ts.length<=16)(st:St)(hw:Wf st):c 94 [tabs z ts] st=some (.int .i64 (if h:0<ts.length then bh (ts[ts.length - 1]'(by omega))else 0),st):=by
 rw[Q0 hc 1 (r:=(.int .i64 (if h:0<ts.length then bh (ts[ts.length - 1]'(by omega))else 0),st)),ak (Plain.int _ _) (aM.refl st)];rw[Ut];by_cases h:0<ts.length
 . have h1:¬(ts.length:Int)=0:=(by omega);have h2:ts≠[]:=λe=>by subst e;simp at h
   have w:au .i64 ((ts.length:Int) - 1)=((ts.length - 1:Nat):Int):=(by rw[wrap64 (by omega) (by omega)];omega);have h3:ts.length - 1<ts.length:=(by omega);have hs:=Kj hc (ts[ts.length - 1]'(by omega)) st hw;simp[tabs,h,h1,h2,w,h3,hs]
 .have h1:ts=[]:=Zb0 (by omega);subst h1;simp[tabs]
theorem aeV{ts:List aG}(hv:(bA ts).2=0):yR ts ((ts.length:Int) - 1)+(if h:0<ts.length then bh (ts[ts.length - 1]'(by omega))else 0)=aO ts:=by
 by_cases h:0<ts.length
 .rw[dif_pos h,yR,Za2 (by simp[hv];omega)];have e:((ts.length:Int) - 1).toNat=ts.length - 1:=(by omega);rw[e, <-E5, <-Zc2 (by omega)];rw[show ts.length - 1+1=ts.length by omega,Zk1]
 .have h1:ts=[]:=Zb0 (by omega);subst h1;simp[yR,aO]
theorem CJ(hc:Sem c)(z:Bool)(ts:List aG)(cQ:∀t∈ts,t.Ok)(st:St)(hw:Wf st):c 59 [tabs z ts] st=some (.int .i64 (if(bA ts).2=0 then aO ts else 0),st):=by
 rw[VH hc 1 (r:=(.int .i64 (if(bA ts).2=0 then aO ts else 0),st)),ak (Plain.int _ _) (aM.refl st)];rw[Z5];have lT:∀(K:AV->St->Option (AV×St))(s:St),ai c (.lenB .l) [tabs z ts] s K=K (.int .i64 (ts.length:Int)) s:=λK s=>by unfold tabs;rw[bW];simp
 have hv:=Ml hc z ts cQ st hw;by_cases h:(bA ts).2=0
 .have hl:=PC h;have w:au .i64 ((ts.length:Int) - 1)=(ts.length:Int) - 1:=wrap64 (by omega) (by omega);have hf:=aao hc z ts cQ ((ts.length:Int) - 1) st hw;have hla:=abt hc z ts hl st hw;have b:=pz ts;have e:=aeV h;rw[Za4 h, <-e];rw[<-e]at b;generalize yR ts ((ts.length:Int) - 1)=x at hf b ⊢;generalize (if h:0<ts.length then bh (ts[ts.length - 1]'(by omega))else 0)=y at hla b ⊢;have w2:au .i64 (x+y)=x+y:=wrap64 (by omega) (by omega);simp[hv,h,lT,w,hf,hla,w2]
 .simp[hv,h]
theorem ab8(hc:Sem c)(z:Bool)(ts:List aG)(cQ:∀t∈ts,t.Ok)(hl:ts.length<dM)(s:List Nat)(st:St)(hw:Wf st):c 128 [tabs z ts,.str s] st=
   some (.tuple [.int .i64 (if 0<=scan (iX ts s) ts.length 0/\(bA ts).2=0 then scan (iX ts s) ts.length 0 else 0),.bool (decide (0<=scan (iX ts s) ts.length 0/\(bA ts).2=0))],st):=by
 rw[X1 hc 1 (r:=(.tuple [.int .i64 (if 0<=scan (iX ts s) ts.length 0/\(bA ts).2=0 then scan (iX ts s) ts.length 0 else 0),.bool (decide (0<=scan (iX ts s) ts.length 0/\(bA ts).2=0))],af st (.cells [.str s] 0))),
   ak (Plain.tuple (by simp[Plain.int,Plain.bool])) (bK hw)]
 rw[abm];have cw:Wf (af st (.cells [.str s] 0)):=bM hw;have hi:=ab7 hc z (ts.map aG.cells) (by simpa using hl) (λcs fT=>by
     simp only[Zf2]at fT;obtain⟨t,_,rfl⟩:=fT;rfl) 178 [.ptr st.next 0] (iX ts s) (af st (.cells [.str s] 0)) (λi hi=>by
     have hi3:i<ts.length:=(by simpa using hi);have:=agR hc ts[i] s st.next (af st (.cells [.str s] 0)) cw (aC _ _);simp only[Zi2];rw[this];simp[iX,hi3])
 rw[Zb3]at hi;have hv:=Ml hc z ts cQ _ cw;simp only[tabs]at hv ⊢;have e:(AV.str s).cells=[.str s]:=rfl;by_cases h1:0<=scan (iX ts s) ts.length 0
 . have h2:¬scan (iX ts s) ts.length 0<0:=(by omega);by_cases h3:(bA ts).2=0
   .simp[e,hi,h1,h2,h3,hv]
   .simp[e,hi,h1,h2,h3,hv]
 .have h2:scan (iX ts s) ts.length 0<0:=(by omega);simp[e,hi,h1,h2]
structure aQ where
 name:List Nat
 nL:List Nat
 kE:List Nat
 since:Int
 side:Int
 nM:List Nat
 host:Bool
 access:Bool
 tz:Bool
 tg:List (List Nat)
def fu(z:Bool)(l:List (List Nat)):AV:=ro 1 z (l.map λs=>[.str s])
def aQ.cells(g:aQ):List AV:=[.str g.name,.str g.nL,.str g.kE,.int .i64 g.since,.int .i64 g.side,.str g.nM,.bool g.host,.bool g.access,fu g.tz g.tg]
@[simp] theorem agS(z:Bool)(l:List (List Nat)):(fu z l).one=true:=aez _ _ _
@[simp] theorem ak6{R:Type}(c:ah)(K:AV->St->Option R)(st:St)(z:Bool)(l:List (List Nat)):ai c (.lenB .l) [fu z l] st K=K (.int .i64 (l.length:Int)) st:=by unfold fu;rw[bW];simp
@[simp] theorem ak7{R:Type}(c:ah)(K:AV->St->Option R)(st:St)(z:Bool)(l:List Int):ai c (.lenB .l) [ints z l] st K=K (.int .i64 (l.length:Int)) st:=by unfold ints;rw[bW];simp
@[simp] theorem aQ.c0(t:aQ):t.cells[0]? =some (.str t.name):=id rfl
@[simp] theorem aQ.c1(t:aQ):t.cells[1]? =some (.str t.nL):=id rfl
@[simp] theorem aQ.c2(t:aQ):t.cells[2]? =some (.str t.kE):=id rfl
@[simp] theorem aQ.c3(t:aQ):t.cells[3]? =some (.int .i64 t.since):=id rfl
@[simp] theorem aQ.c4(t:aQ):t.cells[4]? =some (.int .i64 t.side):=id rfl
@[simp] theorem aQ.c5(t:aQ):t.cells[5]? =some (.str t.nM):=id rfl
@[simp] theorem aQ.c6(t:aQ):t.cells[6]? =some (.bool t.host):=id rfl
@[simp] theorem aQ.c7(t:aQ):t.cells[7]? =some (.bool t.access):=id rfl
@[simp] theorem aQ.c8(t:aQ):t.cells[8]? =some (fu t.tz t.tg):=id rfl
@[simp] theorem aQ.cc(t:aQ):cut t.cells 0 9=some t.cells:=bJ rfl
theorem aQ.len(t:aQ):t.cells.length=9:=id rfl
@[simp] theorem aQ.one(t:aQ):bg t.cells=true:=by unfold aQ.cells;simp only[bg,agS];rfl
def bC(z:Bool)(gs:List aQ):AV:=ro 9 z (gs.map aQ.cells)
@[simp] theorem aap{R:Type}(c:ah)(K:AV->St->Option R)(st:St)(z:Bool)(l:List aQ):ai c (.lenB .l) [bC z l] st K=K (.int .i64 (l.length:Int)) st:=by unfold bC;rw[bW];simp
def aft(last:Option (List Nat))(s:List Nat):Bool:=match last with
 |none=>true
 |some p=>aD p s
@[simp] theorem aaq(s:List Nat):aft none s=true:=id rfl
@[simp] theorem aar(p s:List Nat):aft (some p) s=aD p s:=id rfl
def EI(last:Option (List Nat)):List (List Nat)->Bool
 |[]=>true
 |s::l=>e9 s&&aft last s&&EI (some s) l
theorem aas(last:Option (List Nat))(s:List Nat)(l:List (List Nat)):EI last (s::l)=(e9 s&&aft last s&&EI (some s) l):=rfl
def fC(g:aQ):Int:=
 if(e9 g.name&&nj g.nL&&nj g.kE&&nj g.nM)=false then 4 else if ¬(0<=g.since/\g.since<=9999)then 21 else if ¬(0<=g.side/\g.side<=2)then 20
 else if 4<g.tg.length then 22 else if EI none g.tg=false then 22 else 0
theorem vA:∀(a:List Nat),aD a a=false
 |[]=>rfl
 |x::a=>by
  unfold aD;simp[EW,cW,vA a]
theorem Ik:∀(a b:List Nat),aD a b=true->aD b a=false
 |[],[],h=>by simp[aD]at h
 |[],_::_,_=>rfl
 |_::_,[],h=>by simp[aD]at h
 |x ::a,y::b,h=>by
  unfold aD at h ⊢;simp only[EW,cW]at h ⊢;by_cases h1:x<y
  .have:¬y<x:=(by omega);have h3:¬y=x:=(by omega);simp[this,h3]
  . by_cases h2:x=y
    .subst h2;simp at h ⊢; exact Ik a b h
    .simp[h1,h2]at h
theorem Bv:∀(a b:List Nat),aD a b=false->aD b a=false->a=b
 |[],[],_,_=>rfl
 |[],_::_,h,_=>by simp[aD]at h
 |_::_,[],_,h=>by simp[aD]at h
 |x ::a,y::b,h,k=>by
  unfold aD at h k;simp only[EW,cW]at h k;by_cases h1:x<y
  .simp[h1]at h
  . by_cases h2:y<x
    .   simp[h2]at k
    .   have:x=y:=(by omega);subst this;simp at h k;rw[Bv a b h k]
theorem Mm:∀(a b d:List Nat),aD a b=true->aD b d=true->aD a d=true
 |_,[],[],_,h=>by simp[aD]at h
 |_,_::_,[],_,h=>by simp[aD]at h
 |[],_,_::_,_,_=>rfl
 |_::_,[],_::_,h,_=>by simp[aD]at h
 |x ::a   ,y::b,z::d,h,k=>by
  unfold aD at h k ⊢;simp only[EW,cW]at h k ⊢;by_cases h1:x<y
  . by_cases h2:y<z
    .   have:x<z:=(by omega);simp[this]
    .   by_cases h3:y=z
        .subst h3;simp[h1]
        .simp[h2,h3]at k
  . by_cases h2:x=y
    .   subst h2;simp at h;by_cases h4:x<z
        .simp[h4]
        . by_cases h5:x=z
          .subst h5;simp at k ⊢; exact Mm a b d h k
          .simp[h4,h5]at k
    .   simp[h1,h2]at h
theorem SR(hc:Sem c)(p:Pos)(g:aQ)(hl:g.tg.length<=4)(F:Nat)(st:St)(hp:st.heap.get p=some (.cells g.cells 0))(k1 k3):∀(m k:Nat),g.tg.length<=k+m->k<=g.tg.length->
  mM c F k1 k3 (m+1) [.ptr p 0,fu g.tz g.tg,.int .i64 (g.tg.length:Int),.int .i64 (k:Int)] st=if EI (if k=0 then none else g.tg[k - 1]?) (g.tg.drop k)=true then k3 [] st else k1 [.int .i64 22] st:=by
 intro m;induction m with
 |zero=>
  intro k h1 h2;rw[Gp];obtain rfl:k=g.tg.length:=by omega
  simp[EI]
 |succ m ih=>
  intro k h1 h2;rw[Gp];by_cases h:k<g.tg.length
  . have e:g.tg.drop k=g.tg[k]::g.tg.drop (k+1):=Za8 h;have w:au .i64 ((k:Int)+1)=((k+1:Nat):Int):=wrap64 (by omega) (by omega);have hn:=DY hc g.tg[k] st;have:=ih (k+1) (by omega) (by omega);have e2:(if k+1=0 then none else g.tg[k+1 - 1]?)=some g.tg[k]:=(by rw[Za2 (by omega),Zf0,H1 h]);rw[e2]at this;rw[e,aas];generalize EI (some g.tg[k]) (g.tg.drop (k+1))=rest at this ⊢;by_cases h3:e9 g.tg[k]=true
    .   by_cases h0:k=0
        .have hk:¬0<k:=(by omega);simp only[h3,Za4 h0,Ze4,aaq];rw[<-this];simp[fu,h,hn,h3,hk,w]
        . have hk:0<k:=(by omega);have qy:k - 1<g.tg.length:=(by omega);have wk:au .i64 ((k:Int) - 1)=((k - 1:Nat):Int):=(by rw[wrap64 (by omega) (by omega)];omega);simp only[h3,Za2 h0,H1 qy,Ze4,aar];cases hb:aD g.tg[k - 1] g.tg[k]
          .simp[fu,h,hn,h3,hk,qy,wk,hp,hb]
          .simp only[Ze4];rw[<-this];simp[fu,h,hn,h3,hk,qy,wk,hp,hb,w]
    .   simp[fu,h,hn,h3]
  .obtain rfl:k=g.tg.length:=(by omega);simp[EI]
theorem VV(hc:Sem c)(g:aQ)(st:St)(hw:Wf st):c 298 [.agg g.cells] st=some (.int .i64 (fC g),st):=by
 rw[UA hc 6 (r:=(.int .i64 (fC g),af st (.cells g.cells 0))),ak (Plain.int _ _) (bK hw)];rw[XZ];have n0:=DY hc g.name;have n1:=DZ hc g.nL;have n2:=DZ hc g.kE;have n5:=DZ hc g.nM;by_cases hn:(e9 g.name&&nj g.nL&&nj g.kE&&nj g.nM)=true
 . have hn2:=hn;simp only[Za9]at hn2;obtain⟨⟨⟨b0,b1⟩,b2⟩,b5⟩:=hn2;unfold fC;rw[hn];by_cases h1:g.since<0
   .have:¬(0<=g.since/\g.since<=9999):=(by omega);simp[n0,n1,n2,n5,b0,b1,b2,b5,h1,this]
   by_cases h2:9999<g.since
   .have:¬(0<=g.since/\g.since<=9999):=(by omega);simp[n0,n1,n2,n5,b0,b1,b2,b5,h1,h2,this]
   have h3:0<=g.since/\g.since<=9999:=(by omega);by_cases h4:g.side<0
   .have:¬(0<=g.side/\g.side<=2):=(by omega);simp[n0,n1,n2,n5,b0,b1,b2,b5,h1,h2,h3,h4,this]
   by_cases h5:2<g.side
   .have:¬(0<=g.side/\g.side<=2):=(by omega);simp[n0,n1,n2,n5,b0,b1,b2,b5,h1,h2,h3,h4,h5,this]
   have h6:0<=g.side/\g.side<=2:=(by omega);by_cases h7:4<g.tg.length
   .have h8:(4:Int)<g.tg.length:=(by omega);simp[n0,n1,n2,n5,b0,b1,b2,b5,h1,h2,h3,h4,h5,h6,h7,h8]
   . have h8:¬(4:Int)<g.tg.length:=(by omega);have L:∀k1 k3,mM c 6 k1 k3 6 [.ptr st.next 0,fu g.tz g.tg,.int .i64 (g.tg.length:Int),.int .i64 0] (af st (.cells g.cells 0))=if EI none (g.tg.drop 0)=true then k3 [] (af st (.cells g.cells 0))else k1 [.int .i64 22] (af st (.cells g.cells 0)):=
        λk1 k3=>SR hc st.next g (by omega) 6 _ (aC _ _) k1 k3 5 0 (by omega) (by omega)
     rw[Zb7]at L;generalize EI none g.tg=b at L ⊢;cases b<;>simp[n0,n1,n2,n5,b0,b1,b2,b5,h1,h2,h3,h4,h5,h6,h7,h8,L]
 . have Zm:(e9 g.name&&nj g.nL&&nj g.kE&&nj g.nM)=false:=(by simpa using hn);have hx:fC g=4:=(by unfold fC;rw[Zm];simp);rw[hx];cases b0:e9 g.name
   .simp[n0,b0]
   . cases b1:nj g.nL
     .  simp[n0,n1,b0,b1]
     .  cases b2:nj g.kE
        .simp[n0,n1,n2,b0,b1,b2]
        . cases b5:nj g.nM
          .simp[n0,n1,n2,n5,b0,b1,b2,b5]
          .simp[b0,b1,b2,b5]at hn
theorem VW (hc:Sem c)(p:Pos)(g:aQ)(hl:g.tg.length<=4)(F:Nat)(st:St)(hp:st.heap.get p=some (.cells g.cells 0))(k1 k2):∀(m k:Nat),g.tg.length<=k+m->k<=g.tg.length->
  g7 c F k1 k2 (m+1) [.ptr p 0,.int .i64 (k:Int)] st=if EI (if k=0 then none else g.tg[k - 1]?) (g.tg.drop k)=true then k2 [] st else k1 [.int .i64 22] st:=by
 intro m;induction m with
 |zero=>
  intro k h1 h2;rw[wU];obtain rfl:k=g.tg.length:=by omega
  simp[EI,hp]
 |succ m ih   =>
  intro k h1 h2;rw[wU];by_cases h:k<g.tg.length
  . have e:g.tg.drop k=g.tg[k]::g.tg.drop (k+1):=Za8 h;have w:au .i64 ((k:Int)+1)=((k+1:Nat):Int):=wrap64 (by omega) (by omega);have hn:=Fp hc g.tg[k] st;have:=ih (k+1) (by omega) (by omega);have e2:(if k+1=0 then none else g.tg[k+1 - 1]?)=some g.tg[k]:=(by rw[Za2 (by omega),Zf0,H1 h]);rw[e2]at this;rw[e,aas];generalize EI (some g.tg[k]) (g.tg.drop (k+1))=rest at this ⊢;by_cases h3:e9 g.tg[k]=true
    .   by_cases h0:k=0
        .have hk:¬0<k:=(by omega);simp only[h3,Za4 h0,Ze4,aaq];rw[<-this];simp[fu,hp,h,hn,h3,hk,w]
        . have hk:0<k:=(by omega);have qy:k - 1<g.tg.length:=(by omega);have wk:au .i64 ((k:Int) - 1)=((k - 1:Nat):Int):=(by rw[wrap64 (by omega) (by omega)];omega);simp only[h3,Za2 h0,H1 qy,Ze4,aar];have ho:(aD g.tg[k] g.tg[k - 1]||decide (g.tg[k]=g.tg[k - 1]))= !aD g.tg[k - 1] g.tg[k]:=by
            cases h5:aD g.tg[k - 1] g.tg[k]
            . cases h6:aD g.tg[k] g.tg[k - 1]
              .simp[Bv _ _ h6 h5]
              .rfl
            . (rw[Ik _ _ h5];have:g.tg[k]≠g.tg[k - 1]:=λe=>by rw[e,vA]at h5;cases h5);simp[this]
          cases hb:aD g.tg[k - 1] g.tg[k]
          .rw[hb]at ho;simp[fu,hp,h,hn,h3,hk,qy,wk,ho]
          .rw[hb]at ho;simp only[Ze4];rw[<-this];simp[fu,hp,h,hn,h3,hk,qy,wk,ho,w]
    .   simp[fu,hp,h,hn,h3]
  .obtain rfl:k=g.tg.length:=(by omega);simp[EI,hp]
theorem aat(hc:Sem c)(g:aQ)(st:St)(hw:Wf st):c 290 [.agg g.cells] st=some (.int .i64 (fC g),st):=by
 rw[Jb hc 6 (r:=(.int .i64 (fC g),af st (.cells g.cells 0))),ak (Plain.int _ _) (bK hw)];rw[L9];have n0:=Fp hc g.name;have n1:=Fp hc g.nL;have n2:=Fp hc g.kE;have n5:=Fp hc g.nM;have en:e9 []=false:=rfl;by_cases hn:(e9 g.name&&nj g.nL&&nj g.kE&&nj g.nM)=true
 . have hn2:=hn;simp only[Za9,nj,Zi0,Zd3]at hn2;obtain⟨⟨⟨b0,b1⟩,b2⟩,b5⟩:=hn2;unfold fC;rw[hn];have hor:∀r:List Nat,r=[]\/e9 r=true->(r=[]\/(¬r=[]/\e9 r=true)):=λr h=>by
     by_cases e:r=[]
     .  exact .inl e
     .  exact .inr ⟨e,h.resolve_left e⟩
   have d1:=hor _ b1;have d2:=hor _ b2;have d5:=hor _ b5;by_cases h1:g.since<0
   .have:¬(0<=g.since/\g.since<=9999):=(by omega);rcases d1 with e1|⟨e1,f1⟩<;>rcases d2 with e2|⟨e2,f2⟩<;>rcases d5 with e5|⟨e5,f5⟩<;>simp[*]
   by_cases h2:9999<g.since
   .have:¬(0<=g.since/\g.since<=9999):=(by omega);rcases d1 with e1|⟨e1,f1⟩<;>rcases d2 with e2|⟨e2,f2⟩<;>rcases d5 with e5|⟨e5,f5⟩<;>simp[*]
   have h3:0<=g.since/\g.since<=9999:=(by omega);clear b1 b2 b5 hn hor;by_cases h6:0<=g.side/\g.side<=2
   . have h7:g.side=0\/g.side=1\/g.side=2:=(by omega);by_cases h8:4<g.tg.length
     .  have h9:(4:Int)<g.tg.length:=(by omega);rcases h7 with h7|h7|h7<;>rcases d1 with e1|⟨e1,f1⟩<;>rcases d2 with e2|⟨e2,f2⟩<;>rcases d5 with e5|⟨e5,f5⟩<;>simp[n0,n1,n2,n5,en,b0, *]
     .  have h9:¬(4:Int)<g.tg.length:=(by omega);have L:∀k1 k3,g7 c 6 k1 k3 6 [.ptr st.next 0,.int .i64 0] (af st (.cells g.cells 0))=if EI none (g.tg.drop 0)=true then k3 [] (af st (.cells g.cells 0))else k1 [.int .i64 22] (af st (.cells g.cells 0)):=
          λk1 k3=>VW hc st.next g (by omega) 6 _ (aC _ _) k1 k3 5 0 (by omega) (by omega)
        rw[Zb7]at L;generalize EI none g.tg=b at L ⊢;rcases h7 with h7|h7|h7<;>cases b<;>rcases d1 with e1|⟨e1,f1⟩<;>rcases d2 with e2|⟨e2,f2⟩<;>rcases d5 with e5|⟨e5,f5⟩<;>simp[n0,n1,n2,n5,en,b0, *]
   .have g0:¬g.side=0:=(by omega);have g1:¬g.side=1:=(by omega);have g2:¬g.side=2:=(by omega);rcases d1 with e1|⟨e1,f1⟩<;>rcases d2 with e2|⟨e2,f2⟩<;>rcases d5 with e5|⟨e5,f5⟩<;>simp[n0,n1,n2,n5,en,b0, *]
 . have Zm  :(e9 g.name&&nj g.nL&&nj g.kE&&nj g.nM)=false:=(by simpa using hn);have hx:fC g=4:=(by unfold fC;rw[Zm];simp);rw[hx];have hsm:∀r:List Nat,nj r=false->¬r=[]/\e9 r=false:=λr h=>by simpa [nj]using h
   have Az:∀r:List Nat,nj r=true->(r=[]\/(¬r=[]/\e9 r=true)):=λr h=>by
     by_cases e:r=[]
     .  exact .inl e
     .  right;simp[nj,e]at h;exact⟨e,h⟩
   cases b0:e9 g.name
   .simp[n0,b0]
   . cases  b1:nj g.nL
     .  obtain⟨q1,q2⟩:=hsm _ b1;simp[n0,n1,b0,q1,q2]
     .  have d1:=Az _ b1;cases b2:nj g.kE
        .obtain⟨q1,q2⟩:=hsm _ b2;rcases d1 with e1|⟨e1,f1⟩<;>simp[n0,n1,n2,b0, *]
        . have d2:=Az _ b2;cases b5:nj g.nM
          .obtain⟨q1,q2⟩:=hsm _ b5;rcases d1 with e1|⟨e1,f1⟩<;>rcases d2 with e2|⟨e2,f2⟩<;>simp[n0,n1,n2,n5,b0, *]
          .simp[b0,b1,b2,b5]at hn
structure Ty where
 a:List Nat
 b:List Nat
 k:Int
def Ty.cells(t:Ty):List AV:=[.str t.a,.str t.b,.int .u8 t.k]
@[simp] theorem Ty.c0(t:Ty):t.cells[0]? =some (.str t.a):=id rfl
@[simp] theorem Ty.c1(t:Ty):t.cells[1]? =some (.str t.b):=id rfl
@[simp] theorem Ty.c2(t:Ty):t.cells[2]? =some (.int .u8 t.k):=id rfl
@[simp] theorem Ty.cc(t:Ty):cut t.cells 0 3=some t.cells:=bJ rfl
theorem Ty.len(t:Ty):t.cells.length=3:=id rfl
@[simp] theorem Ty.one(t:Ty):bg t.cells=true:=id rfl
@[simp] theorem aka{R:Type}(c:ah)(K:AV->St->Option R)(st:St)(t:Ty)(x y z:AV):ai c (.store 3) [.ptr st.next 0,.agg t.cells] (af st (.cells [x,y,z] 0)) K=K .undef (af st (.cells t.cells 0)):=kj c K st 3 (.agg t.cells) [x,y,z] rfl rfl t.one
def cT(z:Bool)(ts:List Ty):AV:=ro 3 z (ts.map Ty.cells)
@[simp] theorem agT{R:Type}(c:ah)(K:AV->St->Option R)(st:St)(z:Bool)(l:List Ty):ai c (.lenB .l) [cT z l] st K=K (.int .i64 (l.length:Int)) st:=by unfold cT;rw[bW];simp
def iY(gs:List aQ)(s:List Nat)(i:Nat):Bool:=decide (gs[i]?.map aQ.name=some s)
theorem aiN(z:Bool)(gs:List aQ)(s:List Nat)(hl:gs.length<dM)(F:Nat)(st:St)(k1 k2):∀(m k:Nat),gs.length<=k+m->k<=gs.length->
  jB c F k1 k2 (m+1) [bC z gs,.str s,.int .i64 (k:Int)] st=if 0<=scan (iY gs s) (gs.length - k) k then k1 [.int .i64 (scan (iY gs s) (gs.length - k) k)] st else k2 [] st:=by
 intro m;induction m with
 |zero=>
  intro k h1 h2;obtain rfl:k=gs.length:=by omega
  rw[Bl];simp[scan]
 |succ m ih=>
  intro k h1 h2;rw[Bl];by_cases h:k<gs.length
  . have e:gs.length - k=(gs.length - (k+1))+1:=(by omega);have w:au .i64 ((k:Int)+1)=((k+1:Nat):Int):=wrap64 (by omega) (by unfold dM at hl;omega);rw[e,scan];by_cases h3:gs[k].name=s
    .   have:iY gs s k=true:=(by simp[iY,h,h3]);simp only[this,Zf9];simp[bC,h,h3]
    .   have:iY gs s k=false:=(by simp[iY,h,h3]);simp only[this,Zd4,Ze1];rw[<-ih (k+1) (by omega) (by omega)];simp[bC,h,h3,w]
  .obtain rfl:k=gs.length:=(by omega);simp[scan]
theorem UF(hc:Sem c)(z:Bool)(gs:List aQ)(s:List Nat)(hl:gs.length<dM)(st:St):c 239 [bC z gs,.str s] st=some (.int .i64 (scan (iY gs s) gs.length 0),st):=by
 rw[NV hc (gs.length+1) (r:=(.int .i64 (scan (iY gs s) gs.length 0),st)),ak (Plain.int _ _) (aM.refl st)];rw[QW];have L:∀k1 k2,jB c (gs.length+1) k1 k2 (gs.length+1) [bC z gs,.str s,.int .i64 0] st=if 0<=scan (iY gs s) (gs.length - 0) 0 then k1 [.int .i64 (scan (iY gs s) (gs.length - 0) 0)] st else k2 [] st:=
   λk1 k2=>aiN z gs s hl _ st k1 k2 gs.length 0 (by omega) (by omega)
 rw[Zl5]at L;by_cases h:0<=scan (iY gs s) gs.length 0
 .simp[L,h]
 .have:=(Kk (iY gs s) gs.length 0).2 (by omega);simp[L,this]
def fy(s t:Ty):Bool:=aD s.a t.a||(decide (s.a=t.a)&&aD s.b t.b)
theorem Xk(hc:Sem c)(s t:Ty)(st:St)(hw:Wf st):c 291 [.agg s.cells,.agg t.cells] st=some (.bool (fy s t),st):=by
 rw[Hi hc 1 (r:=(.bool (fy s t),af (af st (.cells s.cells 0)) (.cells t.cells 0))),ak (Plain.bool _) ((bK hw).trans (bK (bM hw)))];rw[J9];by_cases h2:s.a=t.a
 .simp[fy,h2,vA]
 .cases h1:aD s.a t.a<;>simp[fy,h1,h2]
def Bw(a b:List Nat):Int:=if aD a b=true then -1 else if aD b a=true then 1 else 0
theorem ajK(hc:Sem c)(a b:List Nat)(st:St):c 329 [.str a,.str b] st=some (.int .i64 (Bw a b),st):=by unfold Sem at hc;subst hc;refine T7 (s:=N5) (by rfl) ?_;show some (AV.int .i64 (match aD a b with|true=>.negSucc 0|false=>match aD b a with|true=>.ofNat 1|false=>.ofNat 0),st)=_;unfold Bw;generalize aD a b=p;generalize aD b a=q;cases p<;>cases q<;>rfl
theorem SS(hc:Sem c)(a b:List Nat)(st:St):c 322 [.str a,.str b] st=some (.int .i64 (Bw a b),st):=by
 rw[E0 hc 1 (r:=(.int .i64 (Bw a b),st)),ak (Plain.int _ _) (aM.refl st)];rw[He];simp[ajK hc]
theorem UG(hc:Sem c)(a b:List Nat)(st:St):c 300 [.str a,.str b] st=some (.int .i64 (Bw a b),st):=by
 rw[NY hc 1 (r:=(.int .i64 (Bw a b),st)),ak (Plain.int _ _) (aM.refl st)];rw[QZ];simp[SS hc]
theorem ab9{a b:List Nat}:Bw a b=0↔a=b:=by
 unfold Bw;cases h1:aD a b
 . cases h2:aD b a
   .simp;exact Bv _ _ h1 h2
   .simp;intro e;subst e;rw[vA]at h2;cases h2
 .simp;intro e;subst e;rw[vA]at h1;cases h1
def qz(s t:Ty):Int:=if s.a=t.a then Bw s.b t.b else Bw s.a t.a
theorem Gu(hc:Sem c)(s t:Ty)(st:St)(hw:Wf st):c 252 [.agg s.cells,.agg t.cells] st=some (.int .i64 (qz s t),st):=by
 rw[Uz hc 1 (r:=(.int .i64 (qz s t),af (af st (.cells s.cells 0)) (.cells t.cells 0))),ak (Plain.int _ _) ((bK hw).trans (bK (bM hw)))];rw[XY];by_cases h:s.a=t.a
 .have:Bw t.a t.a=0:=ab9.2 rfl;simp[qz,UG hc,h,this]
 . have:¬Bw s.a t.a=0:=λe=>h (ab9.1 e)
   simp[qz,UG hc,h,this]
theorem VX{s t:Ty}:qz s t<0↔fy s t=true:=by
 unfold qz fy Bw;by_cases h:s.a=t.a
 .simp only[h,vA,Zf9];cases aD s.b t.b<;>cases aD t.b s.b<;>simp
 .simp only[h,Ze1];cases aD s.a t.a<;>cases aD t.a s.a<;>simp
theorem QL{s t:Ty}:0<qz s t↔fy t s=true:=by
 unfold qz fy Bw;by_cases h:s.a=t.a
 . simp only[h,vA,Zf9];cases h1:aD s.b t.b
   .cases aD t.b s.b<;>simp
   .simp[Ik _ _ h1]
 . have h':¬t.a=s.a:=λe=>h e.symm
   simp only[h,h',Ze1];cases h1:aD s.a t.a
   .cases aD t.a s.a<;>simp
   .simp[Ik _ _ h1]
theorem acd(hc:Sem c)(a b:List Nat)(k:Int)(bw:aD a b=true)(st:St)(hw:Wf st):c 303 [.str a,.str b,.int .u8 k] st=some (.agg (Ty.cells ⟨a,b,k⟩),st):=by
 rw[VO hc 1 (r:=(.agg (Ty.cells ⟨a,b,k⟩),af st (.cells (Ty.cells ⟨a,b,k⟩) 0))),ak (Plain.agg (by simp[Ty.cells,Plain.str,Plain.int])) (bK hw)];rw[aac];have m1:∀(K:AV->St->Option (AV×St))(s:St),ai c .minB [.str a,.str b] s K=K (.str a) s:=λK s=>aP c K (λH n=>by simp[ax.run,Fh,bw]) s
 have m2:∀(K:AV->St->Option (AV×St))(s:St),ai c .maxB [.str a,.str b] s K=K (.str b) s:=λK s=>aP c K (λH n=>by simp[ax.run,Fi,bw]) s
 simp[m1,m2,cI,aL,cF,AV.cells,bg,AV.one,bJ,Ty.cells]
def gW(gs:List aQ):Nat->Nat->Int×Int
 |0,_=>(0,0)
 |  m+1,k=>match gs[k]? with
    |none=>(0,0)
    |some g=>if fC g≠0 then((k:Int),fC g)else if 0<=scan (iY gs g.name) k 0 then((k:Int),5)else if 64<=k then((k:Int),7)else gW gs m (k+1)
def nk(ts:List Ty)(k:Nat):Option Ty:=if k=0 then none else ts[k - 1]?
def Il(t:Ty):Bool:=decide (t.k=1)||decide (t.k=2)
def YE(t:Ty)(p:Option Ty):Bool:= !Il t|| !aD t.a t.b||(match p with|none=>false|some p=>fy t p)
def su(t:Ty)(p:Option Ty):Bool:=match p with|none=>false|some p=> !fy p t
def lf(gs:List aQ)(t:Ty):Bool:=decide (scan (iY gs t.a) gs.length 0<0)||decide (scan (iY gs t.b) gs.length 0<0)
def fQ(gs:List aQ)(ts:List Ty):Nat->Nat->Int×Int
 |0,_=>(0,0)
 |  m+1,k=>match ts[k]? with
    |none=>(0,0)
    |some t=>if YE t (nk ts k)=true then((gs.length:Int)+k,23)else if lf gs t=true then((gs.length:Int)+k,6)
     else if su t (nk ts k)=true then((gs.length:Int)+k,5)else if 256<=k then((gs.length:Int)+k,7)else fQ gs ts m (k+1)
def bV(gs:List aQ)(ts:List Ty):Int×Int:=if(gW gs 101 0).2≠0 then gW gs 101 0 else fQ gs ts 101 0
theorem aau{gs:List aQ}{s:List Nat}{k:Nat}(hk:k<=gs.length):scan (iY (gs.take k) s) k 0=scan (iY gs s) k 0:=
 UD k 0 λi _ hi=>by simp[iY,Zb8,show i<k by omega]
theorem Mn (gs:List aQ)(ts:List Ty):∀(m k:Nat),(fQ gs ts m k).2=0->(fQ gs ts m k).1=0
 |0,_,_=>rfl
 |m +   1,k , h=>by
  rw[fQ]at h ⊢;split at h
  .rfl
  . split   at h
    .   simp at h
    .   split at h
        .simp at h
        . split at h
          .simp at h
          . split at h
            .simp at h
            .rename_i h1 h2 h3 h4;rw[Za2 h1,Za2 h2,Za2 h3,Za2 h4];exact Mn gs ts m (k+1) h
abbrev Mo(s:List Nat):List AV:=[.str s]
theorem agU(l:List (List Nat)):∀r∈l.map Mo,r.length=1:=λr hr=>by simp only[Zf2]at hr;obtain⟨m,_,rfl⟩:=hr;rfl
theorem agV{s:St}(z:Bool)(l:List (List Nat)):Src 1 s (fu z l) (l.map Mo):=Src.ro z _
theorem aeW(hc:Sem c){src:AV}(l:List (List Nat))(hl:l.length<=1000)(s:St)(hw:Wf s)(h:Src 1 s src (l.map Mo)):∃v s',c 321 [src] s=some (v,s')/\Mk 1 s s' v (l.map Mo):=by
 rcases h.nil with⟨rfl,h0⟩|hn
 . (refine⟨.av,s,?_,by rw[h0];exact Mk.start hw (Grew.refl hw)⟩;rw[oP hc 1 (r:=(.av,s)),ak Plain.av (aM.refl s)];rw[qw];have e:∀(K:AV->St->Option (AV×St))(s:St),ai c (.bin .eql .slice) [.av,.av] s K=K (.bool true) s:=λK s=>aP c K (λH n=>rfl) s);simp[e]
 .obtain⟨v,s',a1,a2⟩:=Xd (c:=c) (R:=AV×St) (bytes:=16) (z:=[.str []]) (agU l) (by decide) (by simp;omega) (by simp;omega) s hw h;obtain⟨eY,t1,t2⟩:=a2.tidy;refine⟨v,eY,?_,t2⟩;rw[oP hc 1 (r:=(v,s')),t1];rw[qw];simp only[aj,hn,bG];rw[a1]
def aQ.ay(g:aQ)(v:AV):List AV:=[.str g.name,.str g.nL,.str g.kE,.int .i64 g.since,.int .i64 g.side,.str g.nM,.bool g.host,.bool g.access,v]
theorem aQ.aeX(g:aQ):g.ay (fu g.tz g.tg)=g.cells:=rfl
theorem aQ.VY(t:aQ){v:AV}(h:bg [v]=true):bg (t.ay v)=true:=by
 simp only[bg]at h;unfold aQ.ay;simp only[bg,AV.one,h,Zk0,Zk9]at*
structure aQ.Low(g:aQ):Prop where
 name:∀x∈g.name,x<256
 nL:∀x∈g.nL,x<256
 kE:∀x∈g.kE,x<256
 nM:∀x∈g.nM,x<256
theorem aeY(hc:Sem c)(g:aQ)(hg:g.Low)(hl:g.tg.length<=1000){src:AV}(s:St)(hw:Wf s)(h:Src 1 s src (g.tg.map Mo))(h1:src.cells=[src])(h2:src.one=true):
  ∃v s',c 299 [.agg (g.ay src)] s=some (.agg (g.ay v),s')/\Mk 1 s s' v (g.tg.map Mo):=by
 let zero:List AV:=[.str [],.str [],.str [],.int .i64 0,.int .i64 0,.str [],.bool false,.bool false,.av]
 have cZ:Wf (af (af s (.cells (g.ay src) 0)) (.cells zero 0)):=bM (bM hw);have zI:=(Grew.af hw (.cells (g.ay src) 0)).trans (Grew.af (bM hw) (.cells zero 0));obtain⟨v,s3,h3,M⟩:=aeW hc g.tg hl _ cZ (h.aN zI);have M0:=M.back hw zI;have hx:s3.heap.get s.next=some (.cells (g.ay src) 0):=M.aN.get AP;have hy:s3.heap.get (af s (.cells (g.ay src) 0)).next=some (.cells zero 0):=M.aN.get (aC _ _);obtain⟨hvc,hvo⟩:=M.cells;have cU:s.next≠(af s (.cells (g.ay src) 0)).next:=Pos.Vp _;have adj:s.next.toNat<s3.next.toNat:=by have:=M.aN.next;rw[dX,dX,Pos.aB,Pos.aB]at this;omega
 have agB:(af s (.cells (g.ay src) 0)).next.toNat<s3.next.toNat:=by have:=M.aN.next;rw[dX,Pos.aB]at this;omega
 have vo:v.one=true:=aeG hvo;have Az:aL (g.ay src) 8 [v]=g.ay v:=rfl;have WS:bg (g.ay v)=true:=g.VY hvo;have hro0:bg (g.ay src)=true:=g.VY (by simp only[bg,h2]);have new:∀b,dY v=some b->(af s (.cells (g.ay src) 0)).next.toNat<b.toNat:=λb hb=>by have:=M.new b hb;rw[dX,Pos.aB]at this;omega
 have Ov:s.next.toNat<(af s (.cells (g.ay src) 0)).next.toNat:=by rw[dX,Pos.aB];omega
 let s4:=cR s3 s.next (.cells (g.ay v) 0)
 let s5:=cR s4 (af s (.cells (g.ay src) 0)).next (.cells (g.ay v) 0)
 have hx4:s4.heap.get s.next=some (.cells (g.ay v) 0):=je _ _ _;have hy4:s4.heap.get (af s (.cells (g.ay src) 0)).next=some (.cells zero 0):=by show(cR s3 s.next (.cells (g.ay v) 0)).heap.get _=_;rw[cu cU];exact hy
 have hy5:s5.heap.get (af s (.cells (g.ay src) 0)).next=some (.cells (g.ay v) 0):=je _ _ _;have M4:Mk 1 s s4 v (g.tg.map Mo):=M0.store (Za3 _) adj (λe=>by have:=new _ e;omega);have M5:Mk 1 s s5 v (g.tg.map Mo):=M4.store (by omega) agB (λe=>by have:=new _ e;omega);have hi:∀u∈g.ay v,gu u:=λu hu=>by
  simp only[aQ.ay,Za7,Zd0,Zh3]at hu;rcases hu with rfl|rfl|rfl|rfl|rfl|rfl|rfl|rfl|rfl
  .exact gu.str hg.name
  .exact gu.str hg.nL
  .exact gu.str hg.kE
  .exact gu.int _ _
  .exact gu.int _ _
  .exact gu.str hg.nM
  .exact gu.bool _
  .exact gu.bool _
  .exact M.inst
 obtain⟨eY,t1,_,t2⟩:=M5.SA (l:=g.ay v) (by simp[aQ.ay]) hi;refine⟨v,eY,?_,t2⟩;rw[SQ hc 1 (r:=(.agg (g.ay v),s5)),t1];rw[VG];have aW:=λ(K:AV->St->Option (AV×St))=>jA c K s3 1 s.next 8 v (g.ay src) hx (by rw[hvc];rfl) (by simp[aQ.ay]) (by rw[hvc];exact hvo)
 rw[hvc,Az]at aW;have kY:=λ(K:AV->St->Option (AV×St))=>jA c K s4 9 (af s (.cells (g.ay src) 0)).next 0 (.agg (g.ay v)) _ hy4 rfl (by simp[zero,aQ.ay]) WS
 have hsp2:aL zero 0 (AV.agg (g.ay v)).cells=g.ay v:=rfl;rw[hsp2]at kY;have hcut:cut (g.ay v) 0 9=some (g.ay v):=bJ rfl;have g8:(g.ay src)[8]? =some src:=rfl;have st2':∀(K:AV->St->Option (AV×St)),ai c (.store 9) [.ptr (af s (.cells (g.ay src) 0)).next 0,.agg (g.ay v)] (cR s3 s.next (.cells (g.ay v) 0)) K=K .undef s5:=λK=>kY K
 have bx:∀(K:AV->St->Option (AV×St)),ai c .box [.agg (g.ay src)] s K=K (.ptr s.next 0) (af s (.cells (g.ay src) 0)):=λK=>by rw[cP];rfl
 simp[bx,h3,g8,zero,aW,hcut];rw[st2'];simp only[hy5,aF,Zg2,hcut,De]
theorem X8(b:Pos)(off:Nat):¬Plain (.ptr b off):=λh=>by
 have:=h (λ_=>⟨0,0,0⟩) (λ_=>⟨0,0,0⟩) (b.toNat+1) 0 (λ_=>none) _ (.ptr b off (by omega));cases this with
 |ptr _ _ h=>omega
theorem agW{s s':St}{b:Pos}{off:Nat}:tidy s (.ptr b off,s')=(.ptr b off,s'):=by unfold tidy;rw[Za2];exact λh=>X8 _ _ h.1
theorem ajL(hc:Sem c)(s:St):c 250 [] s=some (.ptr (af s (.map [] 0)).next 0,af (af s (.map [] 0)) (.cells [.av,.av,.map s.next] 0)):=by
 rw[X4 hc 1 (r:=(.ptr (af s (.map [] 0)).next 0,af (af s (.map [] 0)) (.cells [.av,.av,.map s.next] 0))),agW];rw[abp];simp[cI,aL,cF,AV.cells]
def kN(k:Option Pos)(n es:Nat):AV:=match k with
 |none=>.av
 |some b=>.slice b 0 n none es
theorem Mp{k:Option Pos}{n es:Nat}(h:k=none->n=0):∀H p,ax.run H p (.lenB .l) [kN k n es]=some (.val (.int .i64 (n:Int))):=λH p=>by
 cases k with
 |none=>rw[h rfl];rfl
 |some b=>rfl
def adn(s0 s:St)(bp:Pos)(gk tk:Option Pos)(g:aQ)(row:List AV):Prop:=g.Low/\g.tg.length<=4/\∃v,row=g.ay v/\v.cells=[v]/\v.one=true/\QS 1 s v (g.tg.map Mo)/\∀p,dY v=some p->p≠bp/\gk≠some p/\tk≠some p/\s0.heap.get p=none
theorem aeZ{es:Nat}{s:St}{v:AV}{rows:List (List AV)}(h:QS es s v rows){b:Pos}(hb:dY v=some b):∃cs,s.heap.get b=some (.cells cs 0):=by
 rcases h with⟨rfl,rfl⟩|⟨b',off,cap,cs,rfl,h1,_⟩|⟨b',off,rfl,rfl⟩
 .cases hb
 .obtain rfl:=HW hb;exact⟨cs,h1⟩
 .rw[iW]at hb;cases hb
theorem adn.to{s0 s s':St}{bp:Pos}{gk tk Ny Kl:Option Pos}{g:aQ}{row:List AV}(h:adn s0 s bp gk tk g row)
   (hk:∀p cs,p≠bp->gk≠some p->tk≠some p->s.heap.get p=some (.cells cs 0)->s'.heap.get p=some (.cells cs 0)/\Ny≠some p/\Kl≠some p):adn s0 s' bp Ny Kl g row:=by
 obtain⟨h1,h2,v,h3,h4,h5,h6,h7⟩:=h;refine⟨h1,h2,v,h3,h4,h5,h6.mono λb x hb hx=> ?_,λp hp=> ?_⟩
 .obtain⟨cs,h8⟩:=aeZ h6 hb;rw[h8]at hx;cases hx;obtain⟨a1,a2,a3,_⟩:=h7 b hb;exact(hk b cs a1 a2 a3 h8).1
 .obtain⟨cs,h8⟩:=aeZ h6 hp;obtain⟨a1,a2,a3,a4⟩:=h7 p hp;exact⟨a1,(hk p cs a1 a2 a3 h8).2.1,(hk p cs a1 a2 a3 h8).2.2,a4⟩
structure gx(s0 s:St)(bp mp:Pos)(gs:List aQ)(ts:List Ty)(gk tk:Option Pos):Prop where
 wf:Wf s
 keeps:aM s0 s
 next:s0.next.toNat<=s.next.toNat
 book:s.heap.get bp=some (.cells [kN gk gs.length 9,kN tk ts.length 3,.map mp] 0)
 Gv:∃es cl,s.heap.get mp=some (.map es cl)/\es.map (·.1)=gs.map λg=>.str g.name
 uL:(gk=none->gs=[])/\∀b,gk=some b->∃cs,s.heap.get b=some (.cells cs 0)/\cs.length=gs.length*9
 Dv:(tk=none->ts=[])/\∀b,tk=some b->s.heap.get b=some (.cells (ts.flatMap Ty.cells) 0)
 dg:gk≠some bp
 dt:tk≠some bp
 Xl:∀b,gk=some b->tk≠some b
 fb:s0.heap.get bp=none
 fm:s0.heap.get mp=none
 fg:∀b,gk=some b->s0.heap.get b=none
 ft:∀b,tk=some b->s0.heap.get b=none
 SU:∀es cl,s.heap.get mp=some (.map es cl)->∀e∈es,∃i:Nat,e.2.1= .int .i64 (i:Int)/\i<gs.length
 SV:∀es cl,s.heap.get mp=some (.map es cl)->es.map (λe=>e.2.1)=(List.range gs.length).map λ(i:Nat)=>AV.int .i64 (i:Int)
 rows:∀b cs,gk=some b->s.heap.get b=some (.cells cs 0)->∀(i:Nat)(g:aQ),gs[i]? =some g->adn s0 s bp gk tk g ((cs.drop (i*9)).take 9)
theorem gx.lt{s0 s:St}{bp mp:Pos}{gs:List aQ}{ts:List Ty}{gk tk:Option Pos}(h:gx s0 s bp mp gs ts gk tk):bp.toNat<s.next.toNat/\mp.toNat<s.next.toNat:=by
 obtain⟨es,cl,h1,_⟩:=h.Gv;exact⟨h.wf _ _ h.book,h.wf _ _ h1⟩
theorem gx.aN{s0 s s':St}{bp mp:Pos}{gs:List aQ}{ts:List Ty}{gk tk:Option Pos}(h:gx s0 s bp mp gs ts gk tk)(g:Grew s s'):gx s0 s' bp mp gs ts gk tk where
 wf:=g.wf
 keeps:=h.keeps.trans g.keeps
 next:=Zd6 h.next g.next
 book:=g.get h.book
 Gv:=let⟨es,cl,h1,h2⟩:=h.Gv;⟨es,cl,g.get h1,h2⟩
 uL:=⟨h.uL.1,λb hb=>let⟨cs,h1,h2⟩:=h.uL.2 b hb;⟨cs,g.get h1,h2⟩⟩
 Dv:=⟨h.Dv.1,λb hb=>g.get (h.Dv.2 b hb)⟩
 dg:=h.dg
 dt:=h.dt
 Xl:=h.Xl
 fb:=h.fb
 fm:=h.fm
 fg:=h.fg
 ft:=h.ft
 SU:=λes cl hm=>by obtain⟨es0,cl0,h1,h2⟩:=h.Gv;have:=g.get h1;rw[hm]at this;cases this;exact h.SU _ _ h1
 SV:=λes cl hm=>by obtain⟨es0,cl0,h1,h2⟩:=h.Gv;have:=g.get h1;rw[hm]at this;cases this;exact h.SV _ _ h1
 rows:=λb cs hb hs i u hu=>by
  obtain⟨cs0,h1,h2⟩:=h.uL.2 b hb;have:=g.get h1;rw[hs]at this;cases this;exact(h.rows b _ hb h1 i u hu).to λp cs _ a2 a3 hx=>⟨g.get hx,a2,a3⟩
theorem gx.start{s:St}(hw:Wf s):gx s (af (af s (.map [] 0)) (.cells [.av,.av,.map s.next] 0)) (af s (.map [] 0)).next s.next [] [] none none where
 wf:=bM (bM hw)
 keeps:=(bK hw).trans (bK (bM hw))
 next:=by simp only[dX,Pos.aB];omega
 book:=aC _ _
 Gv:=⟨[],0,AP,rfl⟩
 uL:=⟨λ_=>rfl,λb h=>by cases h⟩
 Dv:=⟨λ_=>rfl,λb h=>by cases h⟩
 dg:=λh=>by cases h
 dt:=λh=>by cases h
 Xl:=λb h=>by cases h
 fb:=by
  cases h:s.heap.get (af s (.map [] 0)).next with
  |none=>rfl
  |some x=>have:=hw _ _ h;rw[dX,Pos.aB]at this;omega
 fm:=by
  cases h:s.heap.get s.next with
  |none=>rfl
  |some x=>have:=hw _ _ h;omega
 fg:=λb h=>by cases h
 ft:=λb h=>by cases h
 SU:=λes cl hm e he=>by have:(af (af s (.map [] 0)) (.cells [.av,.av,.map s.next] 0)).heap.get s.next=some (.map [] 0):=AP;rw[hm]at this;cases this;cases he
 SV:=λes cl hm=>by have:(af (af s (.map [] 0)) (.cells [.av,.av,.map s.next] 0)).heap.get s.next=some (.map [] 0):=AP;rw[hm]at this;cases this;rfl
 rows:=λb cs h=>by cases h
theorem Jd(s:List Nat):∀(gs:List aQ)(es:List (AV×AV×Nat))(i:Nat),es.map (·.1)=gs.map (λg=>.str g.name)->
  (s∈gs.map aQ.name/\∃j v,jU .s (.str s) es i=some (some (j,v)))\/(s∉gs.map aQ.name/\jU .s (.str s) es i=some none)
 |[],es,i,h=>by
  have:es=[]:=by simpa using h
  subst this;exact .inr ⟨by simp,rfl⟩
 |g::gs,[],i,h=>by simp at h
 |g ::gs,(k,v,n)::es,i,h=>by
  simp only[Zb4,Zj3]at h;obtain⟨h1,h2⟩:=h;subst h1;by_cases e:s=g.name
  .subst e;exact .inl ⟨by simp,i,v,by simp[jU,yW,fk]⟩
  . rcases Jd s gs es (i+1) h2 with⟨a,b⟩|⟨a,b⟩
    .   left;refine⟨by simp at a ⊢; exact .inr a,?_⟩;simpa [jU,yW,fk,e]using b
    .   right;refine⟨by simp at a ⊢; exact⟨e,a⟩,?_⟩;simpa [jU,yW,fk,e]using b
theorem Mq{gs:List aQ}{s:List Nat}:0<=scan (iY gs s) gs.length 0↔s∈gs.map aQ.name:=by
 constructor
 .intro h;obtain⟨_,h2,h3⟩:=Mh _ _ h;simp only[iY,Zd3]at h3;rw[H1 (by omega)]at h3;simp only[Ze3,H0]at h3;rw[<-h3];exact Zf2.2 ⟨_,Zc6 _,rfl⟩
 . intro  h;obtain⟨g,hg,rfl⟩:=Zf2.1 h;obtain⟨i,hi,rfl⟩:=Zg9.1 hg;have key:∀(m k:Nat),k<=i->i<k+m->0<=scan (iY gs gs[i].name) m k:=by
    intro m;induction m with
    |zero=>intro k h1 h2;omega
    |   succ m ih=>
        intro k h1 h2;unfold scan;split
        .omega
        . rename_i cU;by_cases e:k=i
          .subst e;simp[iY,hi]at cU
          .exact ih (k+1) (by omega) (by omega)
   exact key _ _ (by omega) (by omega)
theorem ace(hc:Sem c)(s:St)(bp mp:Pos)(x y:AV)(h:s.heap.get bp=some (.cells [x,y,.map mp] 0)):c 297 [.ptr bp 0] s=some (.bool false,s):=by
 rw[NX hc 1 (r:=(.bool false,s)),ak (Plain.bool _) (aM.refl s)];rw[QY];have e1:∀(K:AV->St->Option (AV×St))(s:St),ai c (.bin .eql .ptr) [.ptr bp 0,.fH] s K=K (.bool false) s:=λK s=>aP c K (λH n=>rfl) s
 have e2:∀(K:AV->St->Option (AV×St))(s:St),ai c (.bin .eql .map) [.map mp,.qe] s K=K (.bool false) s:=λK s=>aP c K (λH n=>rfl) s
 simp[e1,e2,h]
theorem ado(z:Bool)(l:List (List Nat)):(fu z l).cells=[fu z l]:=by unfold fu ro;split<;>rfl
theorem agX(z:Bool)(l:List (List Nat)):(fu z l).one=true:=by unfold fu ro;split<;>rfl
theorem acf{s:List Nat}(h:e9 s=true):∀x∈s,x<256:=λx hx=>by simp only[e9,Za9,Ze5,Zd3]at h;have:=h.2 x hx;omega
theorem VZ{s:List Nat}(h:nj s=true):∀x∈s,x<256:=λx hx=>by
 simp only[nj,Zi0,Zd3]at h;rcases h with h|h
 .rw[h]at hx;cases hx
 .exact acf h x hx
theorem Xm{g:aQ}(h:fC g=0):g.Low:=by
 unfold fC at h;split at h
 .simp at h
 .rename_i hn;simp only[Bool.not_eq_false,Za9]at hn;exact⟨acf hn.1.1.1,VZ hn.1.1.2,VZ hn.1.2,VZ hn.2⟩
theorem acg{s:St}(hw:Wf s){k:Option Pos}{n es bytes:Nat}{q:Pos}{row:List AV}(hk:k=none->n=0)(fT:∀b,k=some b->∃cs,s.heap.get b=some (.cells cs 0)/\cs.length=n*es)(hq:s.heap.get q=some (.cells row 0))(hr:row.length=es)
  (h1:bg row=true) (eF:es≠0) (hb:(2*(n+1)+768)*bytes<=281474976710656) (hn:n<=1000):
  ∃ s5 mG,(∀(K:AV->St->Option (AV×St)),ai c (.append es bytes) [kN k n es,.slice q 0 1 (some 1) es] s K=K (.slice s.next 0 (n+1) none es) s5)/\s5.heap.get s.next=some (.cells mG 0)/\mG.length=(n+1)*es/\
    (∀b cs,k=some b->s.heap.get b=some (.cells cs 0)->mG=cs++row)/\(k=none->mG=row)/\s5.next=s.next.succ/\Wf s5/\∀p,k≠some p->p.toNat<s.next.toNat->s5.heap.get p=s.heap.get p:=by
 have hx:cJ es 1 (λb=>s.heap.get b) (.slice q 0 1 (some 1) es)=some row:=by simp only[cJ,cW,Zo6,H3 eF,hq];exact bJ hr
 cases k with
 |none=>
  obtain rfl:=hk rfl;refine⟨af s (.cells row 0),row,λK=>ZI c K (m:=1) rfl (by omega) (by omega) (by omega) hx,aC _ _,by omega,λb cs h=>(by cases h),λ_=>rfl,rfl,bM hw,λp _ hp=>mI hp⟩
 |some b=>
  obtain⟨cs,h2,h3⟩:=fT b rfl;have ho:cJ es n (λb=>s.heap.get b) (.slice b 0 n none es)=some cs:=by
    by_cases h0:n=0
    .   subst h0;have:cs=[]:=Zb0 (by omega);subst this;simp[cJ,cW]
    .   have:¬n*es=0:=λe=>by rcases Nat.mul_eq_zero.1 e with e|e<;>omega
        simp only[cJ,cW,H3 this,h2];exact bJ h3
  refine⟨dst s b (.cells (cs++row) 0),cs++row,λK=>aiC c K (m:=1) rfl (by omega) hb (by omega) h2 ho hx h1,Vq _ _ _,?_,λb' cs2 e h=> ?_,λh=>(by cases h),rfl,aeA hw,λp hp hl=>Ub (λe=>hp (by rw[e])) hl⟩
  .rw[Zb1,h3,hr,Zj7,Zo6]
  .cases e;rw[h2]at h;cases h;rfl
def vB(gs:List aQ)(g:aQ):Int:=if fC g≠0 then fC g else if 0<=scan (iY gs g.name) gs.length 0 then 5 else if gs.length=64 then 7 else 0
theorem ajM (hc : Sem c){s0 s:St}{bp mp:Pos}{gs:List aQ}{ts:List Ty}{gk tk:Option Pos}(Km:Wf s0)(B:gx s0 s bp mp gs ts gk tk)(hl:gs.length<=64)(g:aQ):
   ∃s',c 251 [.ptr bp 0,.agg g.cells] s=some (.int .i64 (vB gs g),s')/\(vB gs g≠0->s'=s)/\(vB gs g=0->∃Ny,gx s0 s' bp mp (gs++[g]) ts Ny tk):=by
 have cw:Wf (af s (.cells g.cells 0)):=bM B.wf;have B1:=B.aN (Grew.af B.wf (.cells g.cells 0));generalize J3:af s (.cells g.cells 0)=s1 at cw B1;have hpg:s1.heap.get s.next=some (.cells g.cells 0):=by rw[<-J3];exact aC _ _
 have kH:=ace hc s1 bp mp _ _ B1.book;have hch:=VV hc g s1 cw;have lG:∀(K:AV->St->Option (AV×St))(s:St),ai c (.lenB .l) [kN gk gs.length 9] s K=K (.int .i64 (gs.length:Int)) s:=λK s=>aP c K (Mp λh=>by rw[B.uL.1 h];rfl) s
 have lG2:∀(K:AV->Option (AV×St)),dI (.lenB .l) [kN gk gs.length 9] K=K (.int .i64 (gs.length:Int)):=λK=>cM K (Mp λh=>by rw[B.uL.1 h];rfl)
 obtain⟨es,cl,j7,hm2⟩:=B1.Gv;have fail:∀e:Int,e≠0->vB gs g=e->wK c 1 (.ptr bp 0) (.agg g.cells) s=some (.int .i64 e,s1)->∃s',c 251 [.ptr bp 0,.agg g.cells] s=some (.int .i64 (vB gs g),s')/\(vB gs g≠0->s'=s)/\(vB gs g=0->∃Ny,gx s0 s' bp mp (gs++[g]) ts Ny tk):=λe he ha h=>by
   refine⟨s,?_,λ_=>rfl,λh0=>absurd (ha.symm.trans h0) he⟩;rw[Du hc 1 h,ha,ak (Plain.int _ _) (by rw[<-J3];exact bK B.wf)]
 have eb:∀(K:AV->St->Option (AV×St)),ai c .box [.agg g.cells] s K=K (.ptr s.next 0) s1:=λK=>by rw[cP, <-J3];rfl
 have h64:((gs.length:Int)=64)↔gs.length=64:=by omega
 by_cases h1:fC g=0
 . rcases Jd  g.name gs es 0 hm2 with⟨uA,j,v,hf⟩|⟨uA,hf⟩
   . have hsc:=Mq.2 uA;refine fail 5 (by omega) (by simp[vB,h1,hsc]) ?_;rw[rX];have lk:=λ(K:AV->Option (AV×St))=>W8 K (.int .i64 0) (h:=s1.heap) (k:= .str g.name) j7 hf
     simp[eb,kH,hch,h1,hpg,B1.book,lk]
   . have hsc: ¬0<=scan (iY gs g.name) gs.length 0:=λh=>uA (Mq.1 h)
     have lk:=λ(K:AV->Option (AV×St))=>W8 K (.int .i64 0) (h:=s1.heap) (k:= .str g.name) j7 hf
     by_cases h2:gs.length=64
     .  have h2d:decide ((gs.length:Int)=64)=true:=H2 (by omega);refine fail 7 (by omega) (by unfold vB;rw[Za2 (by simp[h1]),Za2 hsc,Za4 h2]) ?_;rw[rX];simp[eb,kH,hch,h1,hpg,B1.book,lk,lG,h2d]
     .  have htg:g.tg.length<=4:=by
          unfold fC at h1;split at h1
          .simp at h1
          . split at h1
            .simp at h1
            . split at h1
              .simp at h1
              . split at h1
                .simp at h1
                .omega
        have he:vB gs g=0:=(by unfold vB;rw[Za2 (by simp[h1]),Za2 hsc,Za2 h2]);have h2d:decide ((gs.length:Int)=64)=false:=H3 (by omega);have lt1:=B1.lt;have mH:s.next.toNat<s1.next.toNat:=(by rw[<-J3,dX,Pos.aB];omega);have Xn:mp≠bp:=λe=>by rw[e,B1.book]at j7;cases j7
        have nmp:mp≠s.next:=λe=>by rw[e,hpg]at j7;cases j7
        let Nb:=es++[(AV.str g.name,AV.int .i64 (gs.length:Int),cl)]
        let s2:=cR s1 mp (.map Nb (cl+1))
        have cZ:Wf s2:=JX cw lt1.2;have b2:s2.heap.get bp=some (.cells [kN gk gs.length 9,kN tk ts.length 3,.map mp] 0):=(by show(cR _ _ _).heap.get bp=_;rw[cu Xn];exact B1.book);have p2:s2.heap.get s.next=some (.cells g.cells 0):=(by show(cR _ _ _).heap.get _=_;rw[cu nmp];exact hpg);have m2:s2.heap.get mp=some (.map Nb (cl+1)):=je _ _ _;obtain⟨v,s3,q1,M⟩:=aeY hc g (Xm h1) (by omega) s2 cZ (agV g.tz g.tg) (ado _ _) (agX _ _);rw[aQ.aeX]at q1
        let row:=g.ay v
        have q2:=M.aN;have q3:row.length=9:=rfl;have vone:v.one=true:=aeG M.cells.2;have q4:bg row=true:=g.VY M.cells.2;have hw4:Wf (af s3 (.cells row 0)):=bM q2.wf;have gr4:=q2.trans (Grew.af q2.wf (.cells row 0));have c9:∀p x,s2.heap.get p=some x->p.toNat<(af s3 (.cells row 0)).next.toNat:=λp x h=>hw4 p x (gr4.get h)
        have fT:∀b,gk=some b->∃cs,(af s3 (.cells row 0)).heap.get b=some (.cells cs 0)/\cs.length=gs.length*9:=λb hb=>by
          obtain⟨cs,h3,h4⟩:=B1.uL.2 b hb;have:mp≠b:=λe=>by rw[e,h3]at j7;cases j7
          exact⟨cs,gr4.get (by show(cR _ _ _).heap.get b=_;rw[cu this];exact h3),h4⟩
        obtain⟨s5,mG,r1,r2,r3,ra,rb,r4,r5,r6⟩:=acg (c:=c) (es:=9) (bytes:=112) hw4 (k:=gk) (n:=gs.length) (λh=>by rw[B.uL.1 h];rfl) fT (aC _ _) q3 q4 (by omega) (by omega) (by omega);have hs4:(af s3 (.cells row 0)).next=s3.next.succ:=rfl;have keep:∀p x,s2.heap.get p=some x->gk≠some p->s5.heap.get p=some x:=λp x h cU=>by rw[r6 p cU (c9 p x h)];exact gr4.get h
        have b5:=keep bp _ b2 B.dg
        let gv:=AV.slice (af s3 (.cells row 0)).next 0 (gs.length+1) none 9
        let s6:=cR s5 bp (.cells [gv,kN tk ts.length 3,.map mp] 0)
        have agY:bp.toNat<s5.next.toNat:=r5 _ _ b5;have nb4:bp≠(af s3 (.cells row 0)).next:=λe=>by have:=c9 _ _ b2;rw[e]at this;omega
        have st6:∀(K:AV->St->Option (AV×St)),ai c (.store 1) [.ptr bp 0,gv] s5 K=K .undef s6:=λK=>jA c K s5 1 bp 0 gv _ b5 rfl (by simp) rfl
        have g6:∀p,p≠bp->s6.heap.get p=s5.heap.get p:=λp h=>cu (λe=>h e.symm)
        have adp:∀p:Pos,s0.next.toNat<=p.toNat->s0.heap.get p=none:=λp h=>by
          cases hx:s0.heap.get p with
          |none=>rfl
          |some x=>have:=Km _ _ hx;omega
        have nx:s0.next.toNat<=(af s3 (.cells row 0)).next.toNat:=Zd6 B1.next (Zd6 (by show s1.next.toNat<=s2.next.toNat;exact Za3 _) gr4.next)
        have aav:gx s0 s6 bp mp (gs++[g]) ts (some (af s3 (.cells row 0)).next) tk:={
          wf:=JX r5 agY
          keeps:=λp x hp=>by
            have n1:p≠bp:=λe=>by rw[e,B.fb]at hp;cases hp
            have n2:mp≠p:=λe=>by rw[<-e,B.fm]at hp;cases hp
            have n3:gk≠some p:=λe=>by rw[B.fg p e]at hp;cases hp
            rw[g6 p n1];exact keep p x (by show(cR _ _ _).heap.get p=_;rw[cu n2];exact B1.keeps p x hp) n3
          next:=by show s0.next.toNat<=s5.next.toNat;rw[r4,Pos.aB];omega
          book:=by show(cR _ _ _).heap.get bp=_;rw[je];simp[gv,kN]
          Gv:=⟨Nb,cl+1,by
            rw[g6 mp Xn];exact keep mp _ m2 (λe=>by obtain⟨cs,h3,_⟩:=B1.uL.2 mp e;rw[h3]at j7;cases j7),by simp[Nb,hm2]⟩
          uL:=⟨λh=>(by cases h),λb hb=>by cases hb;refine⟨mG,?_,by rw[r3];simp⟩;rw[g6 _ (λe=>nb4 e.symm)];exact r2⟩
          Dv:=⟨B.Dv.1,λb hb=>by
            have h3:=B1.Dv.2 b hb;have n1:b≠bp:=λe=>B.dt (by rw[<-e];exact hb)
            have n2:mp≠b:=λe=>by rw[e,h3]at j7;cases j7
            have n3:gk≠some b:=λe=>B.Xl b e hb
            rw[g6 b n1];exact keep b _ (by show(cR _ _ _).heap.get b=_;rw[cu n2];exact h3) n3⟩
          dg:=λe=>nb4 (by injection e with e;exact e.symm)
          dt:=B.dt
          Xl:=λb hb ht=>by
            (cases hb;have h3:=B1.Dv.2 _ ht;have n2:mp≠(af s3 (.cells row 0)).next:=λe=>by rw[e,h3]at j7;cases j7);have:=c9 _ _ (show s2.heap.get (af s3 (.cells row 0)).next=_ from(cu n2).trans h3);omega
          fb:=B.fb
          fm:=B.fm
          fg:=λb hb=>by cases hb;exact adp _ nx
          ft:=B.ft
          SU:=λes' cl' hm e he=>by
            have m6:s6.heap.get mp=some (.map Nb (cl+1)):=by
              rw[g6 mp Xn];exact keep mp _ m2 (λe=>by obtain⟨cs,h3,_⟩:=B1.uL.2 mp e;rw[h3]at j7;cases j7)
            rw[hm]at m6;cases m6;rcases Zd5.1 he with he|he
            .obtain⟨i,e1,e2⟩:=B1.SU _ _ j7 e he;exact⟨i,e1,by simp;omega⟩
            .simp only[Za7,Zd0,Zh3]at he;subst he;exact⟨gs.length,rfl,by simp⟩
          SV:=λes' cl' hm=>by
            have m6:s6.heap.get mp=some (.map Nb (cl+1)):=by
              rw[g6 mp Xn];exact keep mp _ m2 (λe=>by obtain⟨cs,h3,_⟩:=B1.uL.2 mp e;rw[h3]at j7;cases j7)
            rw[hm]at m6;cases m6;have h:=B1.SV _ _ j7;rw[Zg3,h,Zb1,Zk3,List.range_succ,Zg3];rfl
          rows:=  λb cs hb hs i u hu=>by
            cases hb;have r2':s6.heap.get (af s3 (.cells row 0)).next=some (.cells mG 0):=(by rw[g6 _ (λe=>nb4 e.symm)];exact r2);rw[hs]at r2';cases r2';by_cases hi:i<gs.length
            . rw[Zd9 hi]at hu;cases UH:gk with
              |none=>rw[B.uL.1 UH]at hi;simp at hi
              | some b0=>
                obtain⟨cs0,h3,h4⟩:=B1.uL.2 b0 UH;have n0:mp≠b0:=λe=>by rw[e,h3]at j7;cases j7
                have e0:=ra b0 cs0 UH (gr4.get (by show(cR _ _ _).heap.get b0=_;rw[cu n0];exact h3));have R0:=B1.rows b0 cs0 UH h3 i u hu;rw[e0,Zh0 (by omega),Zj8 (by simp;omega)];(refine R0.to λp cs a1 a2 a3 hx=> ?_);have n1:mp≠p:=λe=>by rw[e,hx]at j7;cases j7
                have x2:s2.heap.get p=some (.cells cs 0):=(by show(cR _ _ _).heap.get p=_;rw[cu n1];exact hx);have bw:=c9 p _ x2;refine⟨by rw[g6 p a1];exact keep p _ x2 a2,λe=> ?_,a3⟩;cases e;omega
            . have Cb:i=gs.length:=(by have:=(H5.1 hu).1;simp at this;omega);subst Cb;simp at hu;subst hu;have er:(mG.drop (gs.length*9)).take 9=row:=by
                cases UH:gk with
                | none=>
                  rw[rb UH,B.uL.1 UH];exact Zg0 (by simp[q3])
                | some b0=>
                  obtain⟨cs0,h3,h4⟩:=B1.uL.2 b0 UH;have n0:mp≠b0:=λe=>by rw[e,h3]at j7;cases j7
                  rw[ra b0 cs0 UH (gr4.get (by show(cR _ _ _).heap.get b0=_;rw[cu n0];exact h3)), <-h4];rw[Zh0 (Za3 _)];simp[Zg0 (Nat.le_of_eq q3)]
              (rw[er];have xT:∀p x,s2.heap.get p=some x->p.toNat<s2.next.toNat:=λp x h=>cZ p x h);refine⟨Xm h1,htg,v,rfl,M.cells.1,vone,M.own.mono λb x hb hx=> ?_,λp hp=> ?_⟩
              . have nD:=M.new b hb;have l6:=M.own.lt M.aN.wf hb;have nb:b≠bp:=λe=>by have:=xT _ _ b2;rw[e]at nD;omega
                have ng:gk≠some b:=λe=>by
                  obtain⟨cs0,h3,_⟩:=B1.uL.2 b e;have n0:mp≠b:=λe=>by rw[e,h3]at j7;cases j7
                  have:=xT b _ (by show(cR _ _ _).heap.get b=_;rw[cu n0];exact h3);omega
                rw[g6 b nb,r6 b ng (by rw[hs4,Pos.aB];omega)];exact(Grew.af q2.wf (.cells row 0)).get hx
              . have nD:=M.new p hp;have l6:=M.own.lt M.aN.wf hp;refine⟨λe=>by have:=xT _ _ b2;rw[e]at nD;omega,λe=> ?_,λe=> ?_,adp p (by have h9:=B1.next;rw[show s2.next=s1.next from y9 _ _ _]at nD;omega)⟩
                .cases e;rw[hs4,Pos.aB]at l6;omega
                . have h3:=B1.Dv.2 p e;have n2:mp≠p:=λe=>by rw[e,h3]at j7;cases j7
                  have:=xT p _ (by show(cR _ _ _).heap.get p=_;rw[cu n2];exact h3);omega }
        refine⟨s6,?_,λh=>absurd he h,λ_=>⟨_,aav⟩⟩;rw[he];rw[Du hc 1 (r:=(.int .i64 0,s6))]
        . rw[ab0 (b:=bp) B.book];rw[aav.book];intro e;have e:=congrArg (λo=>match o with|some (AB.cells (v::_) _)=>dH v|_=>none) e;simp only[kN,dH]at e;cases gk with
          |none=>simp[dH,B.uL.1 rfl]at e
          |some b=>simp[dH]at e
        (rw[rX];have stm:=λ(K:AV->St->Option (AV×St))=>abi c K (v:= .int .i64 (gs.length:Int)) j7 hf);have bq:dN (kN gk gs.length 9) (kN gk gs.length 9)=true:=(by cases gk;exact Sz;exact OK _ _ _ _);have b3:s3.heap.get bp=some (.cells [kN gk gs.length 9,kN tk ts.length 3,.map mp] 0):=q2.get b2;have rj:=λ(K:AV->Option (AV×St))=>FU K (p:=bp) (o:=0) (h:=s3.heap) (h2:=s2.heap) (v:=kN gk gs.length 9) (by rw[b3];rfl) (by rw[b2];rfl) bq
        have AA:cI (bZ [AV.str [],AV.str [],AV.str [],.int .i64 0,.int .i64 0,.str [],.bool false,.bool false,.av] 1) [(0,9)] [AV.agg (g.ay v)]=some row:=by
          have:(g.ay v).length=9:=q3;show _=some (g.ay v);simp[cI,bZ,cW,cF,this,aL]
        simp[eb,kH,hch,h1,hpg,B1.book,lk,lG,lG2,h2d,stm];show DP ((cellsOf (T.get s.next s2.heap)).bind λcs=>cut cs 0 9) _=_;rw[p2];simp only[aF,Zg2,aQ.cc,De];show OG (c 299 [AV.agg g.cells] s2) _=_;rw[q1];simp only[aJ];show fP (.load none) [.ptr bp 0] s3.heap (λv=>eA (.load none) [.ptr bp 0] v (iV [] s2.heap)) _=_;rw[rj];simp only[AA,De,r1];exact st6 _
 .refine fail (fC g) h1 (by simp[vB,h1]) ?_;rw[rX];simp[eb,kH,hch,h1,hpg]
theorem Mt{r s t:Ty}(h:fy r s=true)(k:fy s t=true):fy r t=true:=by
 simp only[fy,Zi0,Za9,Zd3]at h k ⊢;rcases h with h|⟨h1,h2⟩<;>rcases k with k|⟨k1,k2⟩
 .exact .inl (Mm _ _ _ h k)
 .exact .inl (by rw[<-k1];exact h)
 .exact .inl (by rw[h1];exact k)
 .exact .inr ⟨h1.trans k1,Mm _ _ _ h2 k2⟩
theorem adq{s t:Ty}(h:fy s t=false)(k:fy t s=false):s.a=t.a/\s.b=t.b:=by simp only[fy,Zm4]at h k;have e:=Bv _ _ h.1 k.1;refine⟨e,?_⟩;have h2:=h.2;have k2:=k.2;simp only[e,Zf6,Ze4]at h2 k2;exact Bv _ _ h2 k2
theorem aiO{r s t:Ty}(h:fy r s=true)(k:fy t s=false):fy r t=true:=by
 cases h2:fy s t
 .obtain⟨e1,e2⟩:=adq h2 k;unfold fy at h ⊢; rw[<-e1, <-e2];exact h
 .exact Mt h h2
theorem QI{x:Int}(h1:0<=x)(h2:x<=18446744073709551615):au .u64 x=x:=by
 unfold au Wr Ws;simp only;split
 . split
   .rfl
   .contradiction
 .contradiction
theorem aaw(K:AV->St->Option (AV×St))(st:St)(a:Nat):ai c (.bin .shr .num) [.int .u64 (a:Int),.int .u64 1] st K=K (.int .u64 ((a / 2:Nat):Int)) st:=by
 refine aP c K (λH n=> ?_) st;have:(a:Int).fdiv 2=((a / 2:Nat):Int):=by rw[Zp7 _ (by omega)];rfl
 simp only[ax.run,fI,jT,eJ];show some (cL.val (AV.int .u64 ((a:Int).fdiv 2)))=_;rw[this]
theorem aax(H:Pos->Option AB)(n:Pos)(es:Nat)(b:Pos)(len:Nat)(k:IntKind)(i:Nat)(h:i<len):ax.run H n (.idxA es none) [.slice b 0 len none es,.int k (i:Int)]=some (.val (.ptr b (i*es))):=by
 simp[ax.run,mK,eM,EW,h]
theorem FW(ts:List Ty)(i:Nat)(h:i<ts.length):cut (ts.flatMap Ty.cells) (i*3) 3=some ts[i].cells:=by
 induction ts generalizing i with
 |nil=>simp at h
 |cons t ts ih=>
  cases i with
  |zero=>rw[Zn8];unfold cut;rw[cF,H2 (by simp[Ty.len])];simp[Ty.cells]
  |succ i=>
   have h':i<ts.length:=(by simpa using h);have:=ih i h';unfold cut at this ⊢;rw[cF]at this ⊢;(split at this<;>first|(cases this;done)|skip);rename_i hle;simp only[Zd3]at hle;rw[H2 (by rw[Zn8,Zb1,Ty.len];omega)];simp only[H0]at this ⊢;rw[Zn8,show(i+1)*3=i*3+1+1+1 by omega,Zn7, <-this];rfl
theorem aiP(hc:Sem c)(ts:List Ty)(hl:ts.length<=1000)(t:Ty)(q:Nat)(hq:q<=ts.length)(xT:∀h (hh:h<ts.length),h<q->fy ts[h] t=true)(hhi:∀h (hh:h<ts.length),q<=h->fy ts[h] t=false)
  (b:Pos) (x4:Pos) (s:St) (hw:Wf s) (hb:s.heap.get b=some (.cells (ts.flatMap Ty.cells) 0)) (hx:s.heap.get x4=some (.cells t.cells 0)) (F:Nat) (k2):∀(m i j:Nat),j<=i+m->i<=q->q<=j->j<=ts.length->
  aX c F k2 (m+1) [.slice b 0 ts.length none 3,.func 252 [] [],.ptr x4 0,.int .i64 (ts.length:Int),.int .i64 (i:Int),.int .i64 (j:Int)] s=
    k2 [.slice b 0 ts.length none 3,.func 252 [] [],.ptr x4 0,.int .i64 (ts.length:Int),.int .i64 (q:Int)] s:=by
 intro m;induction m with
 |zero=>
  intro i j h1 h2 h3 h4;obtain rfl:i=q:=by omega
  obtain rfl:j=i:=by omega
  rw[dZ];simp
 |succ m ih=>
  intro i j h1 h2 h3 h4;rw[dZ];by_cases h:i<j
  . let d:=(i+j) / 2
    have hd1:i<=d:=(by omega);have hd2:d<j:=(by omega);have hd3:d<ts.length:=(by omega);have w1:au .i64 ((i:Int)+(j:Int))=((i+j:Nat):Int):=(by rw[wrap64 (by omega) (by omega)];omega);have w2:au .u64 ((i+j:Nat):Int)=((i+j:Nat):Int):=QI (by omega) (by omega);have w3:au .i64 (((i+j) / 2:Nat):Int)=((d:Nat):Int):=wrap64 (by omega) (by omega);have w4:au .i64 ((d:Int)+1)=((d+1:Nat):Int):=wrap64 (by omega) (by omega);have ix:=λ(K:AV->Option (AV×St))=>cM K (λH n=>aax H n 3 b ts.length .i64 d hd3)
    have ho:=Gu hc ts[d] t s hw;have fg:=FW ts d hd3
    clear_value d
    by_cases hn:d<q
    .   have agZ:qz ts[d] t<0:=VX.2 (xT d hd3 hn);rw[<-ih (d+1) j (by omega) (by omega) h3 h4];simp only[aE,aH,aj,aU,Int.ofNat_lt,h,Zf6,bk,dR,w1,y8,w2,aaw,w3,gJ,ix,RD,hb,fg,hx,aF,Zg2,Ty.cc,De,zF,Ze6,Ze9,Ze8,ho,aJ,abQ,agZ,w4]
    .   have agZ:¬qz ts[d] t<0:=λe=>by have:=VX.1 e;rw[hhi d hd3 (by omega)]at this;cases this
        rw[<-ih i d (by omega) h2 (by omega) (by omega)];simp only[aE,aH,aj,aU,Int.ofNat_lt,h,Zf6,bk,dR,w1,y8,w2,aaw,w3,gJ,ix,RD,hb,fg,hx,aF,Zg2,Ty.cc,De,zF,Ze6,Ze9,Ze8,ho,aJ,abQ,agZ,Zq0,bG]
  .obtain rfl:i=q:=(by omega);obtain rfl:j=i:=(by omega);simp
def EJ(ts:List Ty)(t:Ty)(q:Nat):Bool:=match ts[q]? with
 |some u=>decide (qz u t=0)
 |none=>false
theorem ag0(x4:Pos)(s:St)(F:Nat)(k2)(m:Nat):aX c F k2 (m+1) [.av,.func 252 [] [],.ptr x4 0,.int .i64 0,.int .i64 0,.int .i64 0] s=
  k2 [.av,.func 252 [] [],.ptr x4 0,.int .i64 0,.int .i64 0] s:=by
 rw[dZ];simp
def slvT(k:Option Pos)(n:Nat):AV:=match k with
 |none=>.av
 |some b=>.slice b (0+n*3) (n - n) none 3
theorem akG(hc:Sem c)(ts:List Ty)(hl:ts.length<=1000)(t:Ty)(q:Nat)(hq:q<=ts.length)(xT:∀h (hh:h<ts.length),h<q->fy ts[h] t=true)(hhi:∀h (hh:h<ts.length),q<=h->fy ts[h] t=false)
  (tk:Option Pos) (s:St) (hw:Wf s) (h0:tk=none->ts=[]) (hb:∀b,tk=some b->s.heap.get b=some (.cells (ts.flatMap Ty.cells) 0)):
  c 323 [kN tk ts.length 3,.agg t.cells,.func 252 [] []] s=some (.tuple [.int .i64 (q:Int),.bool (EJ ts t q)],s):=by
 have cw:Wf (af s (.cells t.cells 0)):=bM hw;have mH:Plain (.tuple [.int .i64 (q:Int),.bool (EJ ts t q)]):=Plain.tuple (by simp[Plain.int,Plain.bool]);rw[l8 hc 1001 (r:=(.tuple [.int .i64 (q:Int),.bool (EJ ts t q)],af s (.cells t.cells 0))),ak mH (bK hw)];rw[mN];cases tk with
 |none=>
  obtain rfl:=h0 rfl;obtain rfl:q=0:=by simpa using hq
  have l0:∀(K:AV->St->Option (AV×St))(s:St),ai c (.lenB .l) [.av] s K=K (.int .i64 0) s:=λK s=>aP c K (λH n=>rfl) s
  have L:∀k2,aX c 1001 k2 1001 [.av,.func 252 [] [],.ptr s.next 0,.int .i64 0,.int .i64 0,.int .i64 0] (af s (.cells t.cells 0))=_:=λk2=>ag0 (c:=c) s.next _ 1001 k2 1000
  simp only[kN,cP,aj,l0,PA,L,aE,aH,Zc3];simp[EJ,l0,L]
 |some b=>
  have nD:(af s (.cells t.cells 0)).heap.get b=some (.cells (ts.flatMap Ty.cells) 0):=bK hw _ _ (hb b rfl);have l0:∀(K:AV->St->Option (AV×St))(s:St),ai c (.lenB .l) [.slice b 0 ts.length none 3] s K=K (.int .i64 (ts.length:Int)) s:=λK s=>aP c K (λH n=>rfl) s
  have L:∀k2,aX c 1001 k2 1001 [.slice b 0 ts.length none 3,.func 252 [] [],.ptr s.next 0,.int .i64 (ts.length:Int),.int .i64 0,.int .i64 (ts.length:Int)] (af s (.cells t.cells 0))=
    k2 [.slice b 0 ts.length none 3,.func 252 [] [],.ptr s.next 0,.int .i64 (ts.length:Int),.int .i64 (q:Int)] (af s (.cells t.cells 0)):=
    λk2=>aiP hc ts hl t q hq xT hhi b s.next _ cw nD (aC _ _) 1001 k2 1000 0 ts.length (by omega) (by omega) (by omega) (by omega)
  simp only[kN,cP,aj,l0,PA,L,aE,aH];by_cases h:q<ts.length
  . have ix:=λ(K:AV->Option (AV×St))=>cM K (λH n=>aax H n 3 b ts.length .i64 q h)
    have ho:=Gu hc ts[q] t _ cw;have fg:=FW ts q h;have ef:EJ ts t q=decide (qz ts[q] t=0):=(by unfold EJ;rw[H1 h]);simp[h,ix,nD,fg,ho,ef,AV.cells]
  .have ef:EJ ts t q=false:=(by unfold EJ;rw[Zc4 (by omega)]);simp[h,ef,AV.cells]
def Kn(ts:List Ty)(t:Ty):Nat:=match ts.getLast? with
 |none=>0
 |some u=>if fy u t=true then ts.length else ts.length - 1
def PE(ts:List Ty):Prop:=∀i j (hj:j<ts.length)(hij:i<j),fy (ts[i]'(by omega)) ts[j]=true
theorem ajN{ts:List Ty}{t:Ty}(hs:PE ts)(ht:∀u,ts.getLast? =some u->fy t u=false):Kn ts t<=ts.length/\(∀h (hh:h<ts.length),h<Kn ts t->fy ts[h] t=true)/\(∀h (hh:h<ts.length),Kn ts t<=h->fy ts[h] t=false)/\
  EJ ts t (Kn ts t)=su t ts.getLast? :=by
 unfold Kn;cases hl:ts.getLast? with
 |none=>
  have:ts=[]:=by simpa using hl
  subst this;simp[EJ,su]
 |some u=>
  have cU:ts≠[]:=λe=>by subst e;simp at hl
  have acH:0<ts.length:=Zm7.2 cU;have hu:ts[ts.length - 1]'(by omega)=u:=by have:=List.getLast?_eq_getElem? (l:=ts);rw[hl,H1 (by omega)]at this;exact(Zf4 this).symm
  have htu:=ht u hl;simp only;cases hb:fy u t
  . simp only[Zd4,Ze1];refine⟨by omega,λh hh bw=> ?_,λh hh hle=> ?_,?_⟩
    .   have:=hs h (ts.length - 1) (by omega) bw;rw[hu]at this;exact aiO this htu
    .   obtain rfl:h=ts.length - 1:=(by omega);rw[hu];exact hb
    .   (unfold EJ;rw[H1 (by omega),hu];have h1:¬qz u t<0:=λe=>by rw[VX.1 e]at hb;cases hb);have h2:¬0<qz u t:=λe=>by rw[QL.1 e]at htu;cases htu
        have:qz u t=0:=(by omega);simp[this,su,hb]
  . simp only[Zf9];refine⟨by omega,λh hh _=> ?_,λh hh hle=>by omega,?_⟩
    .   by_cases e:h=ts.length - 1
        .subst e;rw[hu];exact hb
        .have:=hs h (ts.length - 1) (by omega) (by omega);rw[hu]at this;exact Mt this hb
    .   unfold EJ;rw[Zc4 (by omega)];simp[su,hb]
theorem ZL(hc:Sem c){s0 s:St}{bp mp:Pos}{gs:List aQ}{ts:List Ty}{gk tk:Option Pos}(B:gx s0 s bp mp gs ts gk tk)(hl:ts.length<=1000)(t:Ty)(bw:aD t.a t.b=true)(hs:PE ts)(ht:∀u,ts.getLast? =some u->fy t u=false):
  c 301 [.ptr bp 0,.str t.a,.str t.b] s=some (.tuple [.int .i64 (Kn ts t:Int),.bool (su t ts.getLast?)],s):=by
 obtain⟨p1,p2,p3,p4⟩:=ajN hs ht;rw[<-p4];have e0:∀u:Ty,fy u ⟨t.a,t.b,0⟩=fy u t:=λu=>rfl
 have e1:EJ ts ⟨t.a,t.b,0⟩ (Kn ts t)=EJ ts t (Kn ts t):=rfl;have hpr:=acd hc t.a t.b 0 bw s B.wf;have B8:=akG hc ts hl ⟨t.a,t.b,0⟩ (Kn ts t) p1 (λh hh hq=>by rw[e0];exact p2 h hh hq) (λh hh hq=>by rw[e0];exact p3 h hh hq) tk s B.wf B.Dv.1 B.Dv.2;rw[e1]at B8;rw[Mf hc 1 (r:=(.tuple [.int .i64 (Kn ts t:Int),.bool (EJ ts t (Kn ts t))],s)),ak (Plain.tuple (by simp[Plain.int,Plain.bool])) (aM.refl s)];rw[Pp];have bq:dN (kN tk ts.length 3) (kN tk ts.length 3)=true:=by cases tk;exact Sz;exact OK _ _ _ _
 have rj:=λ(K:AV->Option (AV×St))=>FU K (p:=bp) (o:=1) (h:=s.heap) (h2:=s.heap) (v:=kN tk ts.length 3) (by rw[B.book];rfl) (by rw[B.book];rfl) bq
 simp[hpr,rj,B8]
theorem j3(b:Pos)(off n es:Nat):¬Plain (.slice b off n none es):=λh=>by have:=h (λ_=>⟨0,0,off+n*es⟩) (λ_=>⟨0,0,0⟩) (b.toNat+1) 0 (λ_=>none) _ (.slice b off n none es n ⟨0,0+off,none⟩ (Za3 _) (λc h=>by cases h) (λ_=>⟨by omega,rfl,by simp⟩) (λ_=>by omega));have:=this.Wy rfl;omega
theorem ae0(hc:Sem c){s:St}(hw:Wf s){tk:Option Pos}{ts:List Ty}{q:Pos}{row:List AV}(h0:tk=none->ts=[])(hb:∀b,tk=some b->s.heap.get b=some (.cells (ts.flatMap Ty.cells) 0))(hq:s.heap.get q=some (.cells row 0))(hr:row.length=3)
   (h1:bg row=true) (hl:ts.length<=1000):
   ∃ s5,c 302 [kN tk ts.length 3,.int .i64 (ts.length:Int),.slice q 0 1 (some 1) 3] s=some (.slice s.next 0 (ts.length+1) none 3,s5)/\s5.heap.get s.next=some (.cells (ts.flatMap Ty.cells++row) 0)/\
     s5.next=s.next.succ/\Wf s5/\∀p,tk≠some p->p.toNat<s.next.toNat->s5.heap.get p=s.heap.get p:=by
 have hlen:∀ts:List Ty,(ts.flatMap Ty.cells).length=ts.length*3:=λts=>by
   induction ts with
   |nil=>rfl
   |cons t ts ih=>rw[Zn8,Zb1,ih,Ty.len,Zb2];omega
 obtain⟨s5,mG,r1,r2,r3,r4,r5,r6,r7,r8⟩:=acg (c:=c) (es:=3) (bytes:=40) hw (k:=tk) (n:=ts.length) (λh=>by rw[h0 h];rfl) (λb l6=>⟨_,hb b l6,hlen ts⟩) hq hr h1 (by omega) (by omega) (by omega);refine⟨s5,?_,?_,r6,r7,r8⟩
 . rw[ya hc 1 (r:=(.slice s.next 0 (ts.length+1) none 3,s5))]
   .unfold tidy;rw[Za2];exact λh=>j3 _ _ _ _ h.1
   rw[Ao];have sl:∀(K:AV->St->Option (AV×St))(s:St),ai c (.sliceL 3 true false false) [kN tk ts.length 3,.int .i64 (ts.length:Int)] s K=K (slvT tk ts.length) s:=λK s=>by
     refine aP c K (λH n=> ?_) s;cases tk with
     |none=>rw[h0 rfl];rfl
     |some b=>simp[kN,slvT,ax.run,lu,bounds,eM,cW,cF]
   have l1:∀(K:AV->St->Option (AV×St))(s:St),ai c (.lenB .l) [.slice q 0 1 (some 1) 3] s K=K (.int .i64 1) s:=λK s=>aP c K (λH n=>rfl) s
   have l2:∀(K:AV->St->Option (AV×St))(s:St),ai c (.lenB .l) [kN tk ts.length 3] s K=K (.int .i64 (ts.length:Int)) s:=λK s=>aP c K (Mp λh=>by rw[h0 h];rfl) s
   simp[sl,l1,l2,r1]
 . cases tk with
   |none=>rw[r2,r5 rfl,h0 rfl];rfl
   |some b=>rw[r2,r4 b _ rfl (hb b rfl)]
def vC(gs:List aQ)(ts:List Ty)(t:Ty):Int:=if Il t=false then 23 else if lf gs t=true then 6 else if su t ts.getLast? =true then 5 else 0
theorem aay(H:Pos->Option AB)(n:Pos)(es:Nat)(b:Pos)(len:Nat)(cp:Option Nat)(k:IntKind)(i:Nat)(h:i<len):ax.run H n (.idxA es none) [.slice b 0 len cp es,.int k (i:Int)]=some (.val (.ptr b (i*es))):=by
 simp[ax.run,mK,eM,EW,h]
theorem ach{gs:List aQ}{es:List (AV×AV×Nat)}(h:es.map (·.1)=gs.map λg=>.str g.name)(s:List Nat):
   (¬scan (iY gs s) gs.length 0<0/\∃j v,jU .s (.str s) es 0=some (some (j,v)))\/(scan (iY gs s) gs.length 0<0/\jU .s (.str s) es 0=some none):=by
 rcases Jd s gs es 0 h with⟨a,b⟩|⟨a,b⟩
 .left;have:=Mq.2 a;exact⟨by omega,b⟩
 . (right;refine⟨?_,b⟩;have:¬0<=scan (iY gs s) gs.length 0:=λe=>a (Mq.1 e));omega
theorem ag1{s:St}{bp mp:Pos}{x y:AV}{es:List (AV×AV×Nat)}{cl:Nat}{gs:List aQ}(hb:s.heap.get bp=some (.cells [x,y,.map mp] 0))(hm:s.heap.get mp=some (.map es cl))(he:es.map (·.1)=gs.map λg=>.str g.name)
   (t:Ty) (lb:Pos) (hlb:s.heap.get lb=some (.cells [.str t.a,.str t.b] 0)) (F:Nat) (k1 k2):
   kf c F k1 k2 3 [.ptr bp 0,.str t.a,.str t.b,.int .u8 t.k,.slice lb 0 2 (some 2) 1,.int .i64 2,.int .i64 ((0:Nat):Int)] s=if lf gs t=true then k1 [.int .i64 6] s else k2 [.ptr bp 0,.str t.a,.str t.b,.int .u8 t.k] s:=by
 have w0:au .i64 (((0:Nat):Int)+1)=((1:Nat):Int):=rfl;have w1:au .i64 (((1:Nat):Int)+1)=((2:Nat):Int):=rfl;have i0:∀(K:AV->St->Option (AV×St))(s:St),ai c (.idxA 1 none) [.slice lb 0 2 (some 2) 1,.int .i64 ((0:Nat):Int)] s K=K (.ptr lb 0) s:=λK s=>aP c K (λH n=>aay H n 1 lb 2 (some 2) .i64 0 (by omega)) s
 have i1:∀(K:AV->St->Option (AV×St))(s:St),ai c (.idxA 1 none) [.slice lb 0 2 (some 2) 1,.int .i64 ((1:Nat):Int)] s K=K (.ptr lb 1) s:=λK s=>aP c K (λH n=>aay H n 1 lb 2 (some 2) .i64 1 (by omega)) s
 have d0:decide (((0:Nat):Int)<2)=true:=rfl;have d1:decide (((1:Nat):Int)<2)=true:=rfl;have d2:decide (((2:Nat):Int)<2)=false:=rfl;have e0:([AV.str t.a,.str t.b]:List AV)[0]? =some (.str t.a):=rfl;have e1:([AV.str t.a,.str t.b]:List AV)[1]? =some (.str t.b):=rfl;have e2:([x,y,AV.map mp]:List AV)[2]? =some (.map mp):=rfl;rw[ua];rcases ach he t.a with⟨n1,j,v,f1⟩|⟨n1,f1⟩
 . have lk1:=λ(K:AV->St->Option (AV×St))=>HU c K (.int .i64 0) (k:= .str t.a) hm f1
   simp only[aE,aH,aU,d0,bk,i0,dS,hlb,hb,aF,Zg2,e0,e2,bP,aj,wJ,cO,Zc7,lk1,bE,Za5,Za6,eC,Zb9,bG,dR,w0];rw[ua];rcases ach he t.b with⟨n2,j,v,f2⟩|⟨n2,f2⟩
   . have lk2:=λ(K:AV->St->Option (AV×St))=>HU c K (.int .i64 0) (k:= .str t.b) hm f2
     simp only[aE,aH,aU,d1,bk,i1,dS,hlb,hb,aF,Zg2,e1,e2,bP,aj,wJ,cO,Zc7,lk2,bE,Za5,Za6,eC,Zb9,bG,dR,w1];rw[ua];have:lf gs t=false:=(by simp[lf,n1,n2]);rw[this];simp only[aE,aH,aU,d2,bG,Zd4,Ze1]
   . have lk2:=λ(K:AV->St->Option (AV×St))=>HU c K (.int .i64 0) (k:= .str t.b) hm f2
     have:lf gs t=true:=(by simp[lf,n2]);rw[this];simp only[aE,aH,aU,d1,bk,i1,dS,hlb,hb,aF,Zg2,e1,e2,bP,aj,wJ,cO,Zc7,lk2,bE,Za5,Za6,eC,Ze7,Zf9]
 . have lk1:=λ(K:AV->St->Option (AV×St))=>HU c K (.int .i64 0) (k:= .str t.a) hm f1
   have:lf gs t=true:=(by simp[lf,n1]);rw[this];simp only[aE,aH,aU,d0,bk,i0,dS,hlb,hb,aF,Zg2,e0,e2,bP,aj,wJ,cO,Zc7,lk1,bE,Za5,Za6,eC,Ze7,Zf9]
theorem ajO (hc:Sem c){s0 s:St}{bp mp:Pos}{gs:List aQ}{ts:List Ty}{gk tk:Option Pos}(Km:Wf s0)(B:gx s0 s bp mp gs ts gk tk)(hl:ts.length<=200)(t:Ty)(bw:aD t.a t.b=true)(hs:PE ts)(ht:∀u,ts.getLast? =some u->fy t u=false):
   ∃s',c 253 [.ptr bp 0,.str t.a,.str t.b,.int .u8 t.k] s=some (.int .i64 (vC gs ts t),s')/\(vC gs ts t≠0->s'=s)/\(vC gs ts t=0->∃Kl,gx s0 s' bp mp gs (ts++[t]) gk Kl):=by
 have cU:¬t.a=t.b:=λe=>by rw[e,vA]at bw;cases bw
 have kH:=ace hc s bp mp _ _ B.book;have Xo:Il t=true->(t.k=1\/(¬t.k=1/\t.k=2)):=λq=>by
   simp only[Il,Zi0,Zd3]at q;by_cases e:t.k=1
   .exact .inl e
   .exact .inr ⟨e,q.resolve_left e⟩
 by_cases hk:Il t=true
 . have cw  :Wf (af s (.cells [.str t.a,.str t.b] 0)):=bM B.wf;have B1:=B.aN (Grew.af B.wf (.cells [.str t.a,.str t.b] 0));have Im:=Grew.af B.wf (.cells [.str t.a,.str t.b] 0);have hlb:(af s (.cells [.str t.a,.str t.b] 0)).heap.get s.next=some (.cells [.str t.a,.str t.b] 0):=aC _ _;generalize J3:af s (.cells [.str t.a,.str t.b] 0)=s1 at cw B1 Im hlb;obtain⟨es,cl,j7,hm2⟩:=B1.Gv;have L:∀k1 k2,kf c 3 k1 k2 3 [.ptr bp 0,.str t.a,.str t.b,.int .u8 t.k,.slice s.next 0 2 (some 2) 1,.int .i64 2,.int .i64 0] s1=if lf gs t=true then k1 [.int .i64 6] s1 else k2 [.ptr bp 0,.str t.a,.str t.b,.int .u8 t.k] s1:=λk1 k2=>ag1 (c:=c) B1.book j7 hm2 t s.next hlb 3 k1 k2
   have mH:=ZL hc B1 (by omega) t bw hs ht;have l2:∀(K:AV->St->Option (AV×St))(s:St),ai c (.lenB .l) [.slice (af s (.cells [] 0)).next 0 2 (some 2) 1] s K=K (.int .i64 2) s:=λK s=>aP c K (λH n=>rfl) s
   have lT:∀(K:AV->St->Option (AV×St))(s:St),ai c (.lenB .l) [kN tk ts.length 3] s K=K (.int .i64 (ts.length:Int)) s:=λK s=>aP c K (Mp λh=>by rw[B.Dv.1 h];rfl) s
   have bsl:∀(K:AV->St->Option (AV×St)),ai c (.buildSlice 1 2 [(.str [])] [0,1]) [.str t.a,.str t.b] s K=K (.slice s.next 0 2 (some 2) 1) s1:=λK=>by rw[eo, <-J3];have:cI (bZ [AV.str []] 2) ([0,1].map λi=>(i*1,1)) [.str t.a,.str t.b]=some [.str t.a,.str t.b]:=(by simp[cI,bZ,cW,cF,aL,AV.cells]);rw[this];rfl
   have l3:∀(K:AV->St->Option (AV×St))(p:Pos)(s:St),ai c (.lenB .l) [.slice p 0 2 (some 2) 1] s K=K (.int .i64 2) s:=λK p s=>aP c K (λH n=>rfl) s
   have V0:¬(ts.length:Int)=256:=(by omega);have fail:∀e:Int,e≠0->vC gs ts t=e->wL c 3 (.ptr bp 0) (.str t.a) (.str t.b) (.int .u8 t.k) s=some (.int .i64 e,s1)->∃s',c 253 [.ptr bp 0,.str t.a,.str t.b,.int .u8 t.k] s=some (.int .i64 (vC gs ts t),s')/\(vC gs ts t≠0->s'=s)/\(vC gs ts t=0->∃Kl,gx s0 s' bp mp gs (ts++[t]) gk Kl):=λe he ha h=>by
     refine⟨s,?_,λ_=>rfl,λh0=>absurd (ha.symm.trans h0) he⟩;rw[vw hc 3 h,ha,ak (Plain.int _ _) Im.keeps]
   cases hu:lf gs t
   . cases  hd:su t ts.getLast?
     .  have he:vC gs ts t=0:=(by simp[vC,hk,hu,hd]);rw[hd]at mH;have hplc:(Kn ts t:Int)=ts.length:=by
          unfold Kn;cases hq:ts.getLast? with
          |none=> have:ts=[]:=by simpa using hq
                  subst this;rfl
          | some u=>
            rw[hq]at hd;simp only[su,Bool.not_eq_false']at hd;simp only[hd,Zf9]
        rw[hplc]at mH;have hpr:=acd hc t.a t.b t.k bw s1 cw
        let s2:=af s1 (.cells t.cells 0)
        have g2:=Grew.af cw (.cells t.cells 0);have B2:=B1.aN g2;obtain⟨s5,r1,r2,r3,r4,r5⟩:=ae0 hc (s:=s2) g2.wf (tk:=tk) (ts:=ts) (q:=s1.next) (row:=t.cells) B.Dv.1 B2.Dv.2 (aC _ _) rfl t.one (by omega);have lt2:=B2.lt;have b5:s5.heap.get bp=some (.cells [kN gk gs.length 9,kN tk ts.length 3,.map mp] 0):=by rw[r5 bp B.dt lt2.1];exact B2.book
        let tv:=AV.slice s2.next 0 (ts.length+1) none 3
        let s6:=cR s5 bp (.cells [kN gk gs.length 9,tv,.map mp] 0)
        have agY:bp.toNat<s5.next.toNat:=r4 _ _ b5;have nb2:bp≠s2.next:=λe=>absurd (show bp.toNat<s2.next.toNat from lt2.1) (by rw[e];exact Zo4 _)
        have st6:∀(K:AV->St->Option (AV×St)),ai c (.store 1) [.ptr bp 1,tv] s5 K=K .undef s6:=λK=>jA c K s5 1 bp 1 tv _ b5 rfl (by simp) rfl
        have g6:∀p,p≠bp->s6.heap.get p=s5.heap.get p:=λp h=>cu (λe=>h e.symm)
        have adp:∀p:Pos,s0.next.toNat<=p.toNat->s0.heap.get p=none:=λp h=>by
          cases hx:s0.heap.get p with
          |none=>rfl
          |some x=>have:=Km _ _ hx;omega
        obtain⟨Nb,cl2,hm3,hm4⟩:=B2.Gv;have Xn:mp≠bp:=λe=>by rw[e,B2.book]at hm3;cases hm3
        have nmt:tk≠some mp:=λe=>by rw[B2.Dv.2 mp e]at hm3;cases hm3
        have aav:gx s0 s6 bp mp gs (ts++[t]) gk (some s2.next):={
          wf:=JX r4 agY
          keeps:=λp x hp=>by
            have n1:p≠bp:=λe=>by rw[e,B.fb]at hp;cases hp
            have n3:tk≠some p:=λe=>by rw[B.ft p e]at hp;cases hp
            have h2:=B2.keeps p x hp;rw[g6 p n1,r5 p n3 (B2.wf _ _ h2)];exact h2
          next:=by show s0.next.toNat<=s5.next.toNat;exact Zd6 B2.next (by rw[r3,Pos.aB];exact Nat.le_succ _)
          book:=by show(cR _ _ _).heap.get bp=_;rw[je];simp[tv,kN]
          Gv:=⟨Nb,cl2,by rw[g6 mp Xn,r5 mp nmt lt2.2];exact hm3,hm4⟩
          uL:=⟨B.uL.1,λb hb=>by obtain⟨cs,h3,h4⟩:=B2.uL.2 b hb;refine⟨cs,?_,h4⟩;rw[g6 b (λe=>B.dg (by rw[<-e];exact hb)),r5 b (B.Xl b hb) (B2.wf _ _ h3)];exact h3⟩
          Dv:=⟨λh=>(by cases h),λb hb=>by cases hb;rw[g6 _ (λe=>nb2 e.symm),r2];simp⟩
          dg:=B.dg
          dt:=λe=>nb2 (by injection e with e;exact e.symm)
          Xl:=λb hb h=>by
            cases h;obtain⟨cs,h3,h4⟩:=B2.uL.2 _ hb;exact absurd (show s2.next.toNat<s2.next.toNat from B2.wf _ _ h3) (Zo4 _)
          fb:=B.fb
          fm:=B.fm
          fg:=B.fg
          ft:=λb hb=>by cases hb;exact adp _ B2.next
          SU:=λes' cl' hm=>by have m6:s6.heap.get mp=s2.heap.get mp:=(by rw[g6 mp Xn,r5 mp nmt lt2.2]);rw[m6]at hm;exact B2.SU _ _ hm
          SV:=λes' cl' hm=>by have m6:s6.heap.get mp=s2.heap.get mp:=(by rw[g6 mp Xn,r5 mp nmt lt2.2]);rw[m6]at hm;exact B2.SV _ _ hm
          rows:=λb cs hb hs i u hu=>by
            obtain⟨cs0,h3,h4⟩:=B2.uL.2 b hb;have x6:s6.heap.get b=s2.heap.get b:=(by rw[g6 b (λe=>B.dg (by rw[<-e];exact hb)),r5 b (B.Xl b hb) (B2.wf _ _ h3)]);rw[x6]at hs;(refine(B2.rows b cs hb hs i u hu).to λp cs a1 a2 a3 hx=> ?_);have bw:p.toNat<s2.next.toNat:=B2.wf _ _ hx;refine⟨by rw[g6 p a1,r5 p a3 bw];exact hx,a2,λe=> ?_⟩;cases e;exact absurd bw (Zo4 _) }
        refine⟨s6,?_,λh=>absurd he h,λ_=>⟨_,aav⟩⟩;rw[he];rw[vw hc 3 (r:=(.int .i64 0,s6))]
        . rw[ab0 (b:=bp) B.book];rw[aav.book];intro e;have e:=congrArg (λo=>match o with|some (AB.cells (_::v::_) _)=>dH v|_=>none) e;simp only[kN,dH]at e;cases tk with
          |none=>simp[dH,B.Dv.1 rfl]at e
          |some b=>simp[dH]at e
        (rw[rY];have bq:dN (kN tk ts.length 3) (kN tk ts.length 3)=true:=(by cases tk;exact Sz;exact OK _ _ _ _);have rj:=λ(K:AV->Option (AV×St))=>FU K (p:=bp) (o:=1) (h:=s1.heap) (h2:=s1.heap) (v:=kN tk ts.length 3) (by rw[B1.book];rfl) (by rw[B1.book];rfl) bq);have AA:cI (bZ [AV.str [],AV.str [],.int .u8 0] 1) [(0,3)] [AV.agg t.cells]=some t.cells:=by
          simp[cI,bZ,cW,cF,Ty.cells,aL]
        have aih:decide ((ts.length:Int)=256)=false:=H3 V0;rw[hu]at L;rcases Xo hk with f|⟨f,f2⟩
        .have d1:decide (t.k=1)=true:=H2 f;simp[-eo,kH,cU,bsl,l3,d1,L,mH,B1.book,lT,aih,hpr,rj,AA];show OG (c 302 [kN tk ts.length 3,.int .i64 (ts.length:Int),.slice s1.next 0 1 (some 1) 3] s2) _=_;rw[r1];exact st6 _
        .have d1:decide (t.k=1)=false:=H3 f;have d2:decide (t.k=2)=true:=H2 f2;simp[-eo,kH,cU,bsl,l3,d1,d2,L,mH,B1.book,lT,aih,hpr,rj,AA];show OG (c 302 [kN tk ts.length 3,.int .i64 (ts.length:Int),.slice s1.next 0 1 (some 1) 3] s2) _=_;rw[r1];exact st6 _
     .  refine fail 5 (by omega) (by simp[vC,hk,hu,hd]) ?_;rw[hd]at mH;rw[hu]at L;rw[rY];rcases Xo hk with f|⟨f,f2⟩
        .have d1:decide (t.k=1)=true:=H2 f;simp[-eo,kH,cU,bsl,l3,d1,L,mH]
        .have d1:decide (t.k=1)=false:=H3 f;have d2:decide (t.k=2)=true:=H2 f2;simp[-eo,kH,cU,bsl,l3,d1,d2,L,mH]
   . refine fail 6 (by omega) (by simp[vC,hk,hu]) ?_;rw[hu]at L;rw[rY];rcases Xo hk with f|⟨f,f2⟩
     .  have d1:decide (t.k=1)=true:=H2 f;simp[-eo,kH,cU,bsl,l3,d1,L]
     .  have d1:decide (t.k=1)=false:=H3 f;have d2:decide (t.k=2)=true:=H2 f2;simp[-eo,kH,cU,bsl,l3,d1,d2,L]
 .have hkf:¬t.k=1/\¬t.k=2:=(by simpa [Il]using hk);have he:vC gs ts t=23:=(by simp[vC,hk]);refine⟨s,?_,λ_=>rfl,λh0=>absurd (he.symm.trans h0) (by omega)⟩;rw[vw hc 3 (r:=(.int .i64 23,s)),he,ak (Plain.int _ _) (aM.refl s)];rw[rY];simp[kH,hkf]
@[simp] theorem ak8{R:Type}(K:AV->Option R)(z:Bool)(l:List aQ):dI (.lenB .l) [bC z l] K=K (.int .i64 (l.length:Int)):=by unfold bC;rw[agv];simp
theorem ag2{gs:List aQ}{k:Nat}(h:k<gs.length)(hk:k<=64):vB (gs.take k) gs[k]=if fC gs[k]≠0 then fC gs[k]else if 0<=scan (iY gs gs[k].name) k 0 then 5 else if 64<=k then 7 else 0:=by
 have hl:(gs.take k).length=k:=by simp;omega
 unfold vB;rw[hl,aau (by omega)];have:(k=64)↔64<=k:=by omega
 simp only[this]
@[simp] theorem akH{R:Type}(c:ah)(K:AV->St->Option R)(st:St)(t:aQ)(cs:List AV)(h:cs.length=9):ai c (.store 9) [.ptr st.next 0,.agg t.cells] (af st (.cells cs 0)) K=K .undef (af st (.cells t.cells 0)):=kj c K st 9 (.agg t.cells) cs rfl h.symm t.one
theorem aiQ (hc:Sem c){s0:St}(Km:Wf s0)(z:Bool)(gs:List aQ)(hl:gs.length<=100)(bp mp rp:Pos)(F:Nat)(k1 k2):∀(m k:Nat)(s:St)(gk:Option Pos),gx s0 s bp mp (gs.take k) [] gk none->gs.length<=k+m->k<=gs.length->k<=64->
  ∃ s',aM s0 s'/\(((gW gs m k).2=0/\(∃Ny,gx s0 s' bp mp gs [] Ny none)/\ju c F k1 k2 (m+1) [.ptr rp 0,.ptr bp 0,bC z gs,.int .i64 (gs.length:Int),.int .i64 (k:Int)] s=k2 [.ptr rp 0,.ptr bp 0] s')\/
    ((gW gs m k).2≠0/\ju c F k1 k2 (m+1) [.ptr rp 0,.ptr bp 0,bC z gs,.int .i64 (gs.length:Int),.int .i64 (k:Int)] s=k1 [.fH,.int .i64 (gW gs m k).1,.int .i64 (gW gs m k).2] s')):=by
 intro m;induction m with
 |zero=>
  intro k s gk B h1 h2 h3;obtain rfl:k=gs.length:=by omega
  refine⟨s,B.keeps,.inl ⟨rfl,⟨gk,by simpa using B⟩,?_⟩⟩;rw[uH];simp
 |succ m ih   =>
  intro k s gk B h1 h2 h3;by_cases h:k<gs.length
  . have w:au .i64 ((k:Int)+1)=((k+1:Nat):Int):=wrap64 (by omega) (by omega);have B1:=B.aN (Grew.af B.wf (.cells gs[k].cells 0));obtain⟨s2,a1,a2,a3⟩:=ajM hc Km B1 (by simp;omega) gs[k];have hA:=ag2 h h3;have step:∀(K:AV->St->Option (AV×St)),(ai c (.idxA 9 none) [bC z gs,.int .i64 (k:Int)] s λx19 s12=>ai c (.load (some 9)) [x19] s12 K)=K (.agg gs[k].cells) s:=λK=>by
        simp[bC,h]
    by_cases he:vB (gs.take k) gs[k]=0
    .   obtain⟨Ny,B2⟩:=a3 he;have e1:gs.take k++[gs[k]]=gs.take (k+1):=(Zc2 h).symm;rw[e1]at B2;rw[hA]at he;have c1:fC gs[k]=0:=by
         by_cases e:fC gs[k]=0
         .  exact e
         .  rw[Za4 e]at he;exact absurd he e
        (rw[Za2 (by rw[c1];simp)]at he;have c2:¬0<=scan (iY gs gs[k].name) k 0:=λe=>by rw[Za4 e]at he;cases he);(rw[Za2 c2]at he;have c3:¬64<=k:=λe=>by rw[Za4 e]at he;cases he);have ec:gW gs (m+1) k=gW gs m (k+1):=by
         rw[gW,H1 h];simp only;rw[Za2 (by rw[c1];simp),Za2 c2,Za2 c3]
        obtain⟨s',g1,g2⟩:=ih (k+1) s2 Ny B2 (by omega) (by omega) (by omega);refine⟨s',g1,?_⟩;rw[ec];have eL:ju c F k1 k2 (m+1+1) [.ptr rp 0,.ptr bp 0,bC z gs,.int .i64 (gs.length:Int),.int .i64 (k:Int)] s=ju c F k1 k2 (m+1) [.ptr rp 0,.ptr bp 0,bC z gs,.int .i64 (gs.length:Int),.int .i64 ((k+1:Nat):Int)] s2:=by
         rw[uH];have hz:vB (gs.take k) gs[k]=0:=(by rw[hA,Za2 (by rw[c1];simp),Za2 c2,Za2 c3]);rw[hz]at a1;simp[bC,h,a1,w]
        rw[eL];exact g2
    .   obtain rfl:=a2 he;have ec:gW gs (m+1) k=((k:Int),vB (gs.take k) gs[k]):=by
         rw[gW,H1 h];simp only;rw[hA]at he ⊢;by_cases c1:fC gs[k]=0
         .  have e1:¬fC gs[k]≠0:=(by rw[c1];simp);by_cases c2:0<=scan (iY gs gs[k].name) k 0
            .simp only[e1,c2,Ze1,Zf9]
            . by_cases c3:64<=k
              .simp only[e1,c2,c3,Ze1,Zf9]
              .rw[Za2 e1,Za2 c2,Za2 c3]at he;exact absurd rfl he
         .  have e1:fC gs[k]≠0:=c1;rw[Za4 e1,Za4 e1]
        refine⟨_,B1.keeps,.inr ⟨by rw[ec];exact he,?_⟩⟩;rw[ec,uH];simp[bC,h,a1,he]
  .obtain rfl:k=gs.length:=(by omega);have ec:gW gs (m+1) gs.length=(0,0):=(by rw[gW,Zc4 (by omega)]);refine⟨s,B.keeps,.inl ⟨by rw[ec],⟨gk,by simpa using B⟩,?_⟩⟩;rw[uH];simp
theorem SW{ts:List Ty}{k:Nat}(h:k<ts.length):(ts.take k).getLast? =nk ts k:=by
 unfold nk;by_cases h0:k=0
 .simp[h0]
 .rw[Za2 h0,List.getLast?_eq_getElem?];have:(ts.take k).length=k:=(by simp;omega);rw[this,Zb8,Za4 (by omega)]
theorem ag3{ts:List Ty}{k:Nat}(h:k<ts.length)(hs:PE (ts.take k))(hb:∀u,nk ts k=some u->fy u ts[k]=true):PE (ts.take (k+1)):=by
 intro i j hj hij;have Ei:j<k+1:=by simp at hj;omega
 simp only[Zm1];by_cases e:j=k
 . subst e;have h1:nk ts j=some (ts[j - 1]'(by omega)):=(by rw[nk,Za2 (by omega),H1 (by omega)]);have h2:=hb _ h1;by_cases e2:i=j - 1
   .subst e2;exact h2
   .have h3:=hs i (j - 1) (by simp;omega) (by omega);simp only[Zm1]at h3;exact Mt h3 h2
 .have:=hs i j (by simp;omega) hij;simpa only[Zm1]using this
def UI(t:Ty)(p:Option Ty):Bool:=match p with|none=>false|some p=>fy t p
theorem ag4(t:Ty)(p:Option Ty):YE t p=(!Il t|| !aD t.a t.b||UI t p):=by cases p<;>rfl
def okT(t:Ty)(p:Option Ty):Bool:=aD t.a t.b&& !UI t p
def eK(gs:List aQ)(ts:List Ty)(k:Nat)(t:Ty):Int:=if okT t (nk ts k)=true then vC gs (ts.take k) t else 23
theorem aiR (hc:Sem c){s0:St}(Km:Wf s0)(z z2:Bool)(gs:List aQ)(ts:List Ty)(hl:gs.length<=100)(kF:ts.length<=100)(bp mp rp:Pos)(Ot:s0.heap.get rp=some (.cells [bC z gs,cT z2 ts] 0))(gk:Option Pos)(F:Nat)(k1 k4):∀(m k:Nat)(s:St)(tk:Option Pos),gx s0 s bp mp gs (ts.take k) gk tk->PE (ts.take k)->ts.length<=k+m->k<=ts.length->
  ∃s',aM s0 s'/\((fQ gs ts m k).2=0->(∃Kl,gx s0 s' bp mp gs ts gk Kl)/\PE ts)/\kz c F k1 k4 (m+1) [.ptr rp 0,.ptr bp 0,cT z2 ts,.int .i64 (ts.length:Int),.int .i64 (k:Int)] s=if(fQ gs ts m k).2=0 then k4 [.ptr bp 0] s' else k1 [.fH,.int .i64 (fQ gs ts m k).1,.int .i64 (fQ gs ts m k).2] s':=by
 intro m;induction m with
 |zero=>
  intro k s tk B hs h1 h2;obtain rfl:k=ts.length:=by omega
  refine⟨s,B.keeps,λ_=>⟨⟨tk,by simpa using B⟩,by simpa using hs⟩,?_⟩;rw[uG];simp[fQ]
 |succ m ih   =>
  intro k s tk B hs h1 h2;by_cases h:k<ts.length
  . have w:au .i64 ((k:Int)+1)=((k+1:Nat):Int):=wrap64 (by omega) (by omega);have wg:au .i64 ((gs.length:Int)+(k:Int))=(gs.length:Int)+k:=wrap64 (by omega) (by omega);have B1:=B.aN (Grew.af B.wf (.cells ts[k].cells 0));have eG:(af s (.cells ts[k].cells 0)).heap.get rp=some (.cells [bC z gs,cT z2 ts] 0):=B1.keeps _ _ Ot;have cw:=B1.wf;have V0:¬256<=k:=(by omega);have ec:fQ gs ts (m+1) k=if eK gs ts k ts[k]≠0 then((gs.length:Int)+k,eK gs ts k ts[k])else fQ gs ts m (k+1):=by rw[fQ,H1 h];simp only[V0,Ze1];rw[ag4];unfold eK okT vC;rw[SW h];cases Il ts[k]<;>cases aD ts[k].a ts[k].b<;>cases UI ts[k] (nk ts k)<;>cases lf gs ts[k]<;>cases su ts[k] (nk ts k)<;>simp
    have Sq   :okT ts[k] (nk ts k)=true->∃s',aM s0 s'/\(eK gs ts k ts[k]=0->(fQ gs ts m (k+1)).2=0->(∃Kl,gx s0 s' bp mp gs ts gk Kl)/\PE ts)/\∃s2,c 253 [.ptr bp 0,.str ts[k].a,.str ts[k].b,.int .u8 ts[k].k] (af s (.cells ts[k].cells 0))=some (.int .i64 (eK gs ts k ts[k]),s2)/\s2.heap.get rp=some (.cells [bC z gs,cT z2 ts] 0)/\
          (eK gs ts k ts[k]≠0->s'=s2)/\(eK gs ts k ts[k]=0->
            kz c F k1 k4 (m+1) [.ptr rp 0,.ptr bp 0,cT z2 ts,.int .i64 (ts.length:Int),.int .i64 ((k+1:Nat):Int)] s2=if(fQ gs ts m (k+1)).2=0 then k4 [.ptr bp 0] s' else k1 [.fH,.int .i64 (fQ gs ts m (k+1)).1,.int .i64 (fQ gs ts m (k+1)).2] s'):=λcQ=>by
        have aaz:=cQ;simp only[okT,Za9,Zi6]at aaz;obtain⟨b2,b3⟩:=aaz;have akI:∀u,(ts.take k).getLast? =some u->fy ts[k] u=false:=λu hu=>by rw[SW h]at hu;rw[hu]at b3;exact b3
        obtain⟨s2,a1,a2,a3⟩:=ajO hc Km B1 (by simp;omega) ts[k] b2 hs akI;have et:eK gs ts k ts[k]=vC gs (ts.take k) ts[k]:=(by unfold eK;rw[Za4 cQ]);rw[<-et]at a1 a2 a3;by_cases h0:eK gs ts k ts[k]=0
        . obtain⟨Kl,B2⟩:=a3 h0;have e1:ts.take k++[ts[k]]=ts.take (k+1):=(Zc2 h).symm;rw[e1]at B2;have hd:su ts[k] (nk ts k)=false:=by
            rw[et,vC,SW h]at h0;cases hq:su ts[k] (nk ts k)
            .rfl
            . rw[hq]at h0;split at h0
              .simp at h0
              .split at h0<;>simp at h0
          have Dg:=ag3 h hs (λu hu2=>by rw[hu2]at hd;simpa [su]using hd);obtain⟨s',g1,gB,g2⟩:=ih (k+1) s2 Kl B2 Dg (by omega) (by omega);exact⟨s',g1,λ_=>gB,s2,a1,B2.keeps _ _ Ot,λe=>absurd h0 e,λ_=>g2⟩
        .obtain rfl:=a2 h0;exact⟨_,B1.keeps,λe=>absurd e h0,_,a1,eG,λ_=>rfl,λe=>absurd e h0⟩
    rw[ec];cases cQ:okT ts[k] (nk ts k)
    ·
        have e23:eK gs ts k ts[k]=23:=(by unfold eK;rw[cQ];rfl);refine⟨_,B1.keeps,λe=>(by rw[e23,Za4 (by decide)]at e;cases e),?_⟩;rw[uG,e23];cases q1:aD ts[k].a ts[k].b
        .simp[cT,h,q1,fo,eG,wg]
        . have q2:UI ts[k] (nk ts k)=true:=(by simpa [okT,q1]using cQ);have zD:¬k=0:=λe=>by rw[nk,Za4 e]at q2;cases q2
          have qy:k - 1<ts.length:=(by omega);have wk:au .i64 ((k:Int) - 1)=((k - 1:Nat):Int):=(by rw[wrap64 (by omega) (by omega)];omega);have q3:fy ts[k] ts[k - 1]=true:=(by rw[nk,Za2 zD,H1 qy]at q2;exact q2);have ho:=Gu hc ts[k - 1] ts[k] _ cw;have B6:¬qz ts[k - 1] ts[k]<=0:=(by have:=QL.2 q3;omega);simp[cT,h,q1,fo,eG,wg,zD,qy,wk,ho,B6]
    .   obtain⟨s',g1,gB,s2,t1,t2,t3,t4⟩:=Sq cQ;refine⟨s',g1,λe=>by
          by_cases he:eK gs ts k ts[k]=0
          .exact gB he (by rw[Za2 (by simp[he])]at e;exact e)
          .rw[Za4 he]at e;exact absurd e he,?_⟩
        rw[uG];have aaz:=cQ;simp only[okT,Za9,Zi6]at aaz;obtain⟨q1,q2⟩:=aaz;by_cases he:eK gs ts k ts[k]=0
        . have t4:=t4 he;rw[he]at t1;simp only[he,ne_eq,not_true,Ze1];rw[<-t4];by_cases zD:k=0
          .have dk:decide ((k:Int)=0)=true:=H2 (by omega);have dk':decide (k=0)=true:=H2 zD;clear zD;simp[cT,h,q1,fo,eG,dk,dk',t1,w]
          . have qy:k - 1<ts.length:=(by omega);have wk:au .i64 ((k:Int) - 1)=((k - 1:Nat):Int):=(by rw[wrap64 (by omega) (by omega)];omega);have q3:fy ts[k] ts[k - 1]=false:=(by rw[nk,Za2 zD,H1 qy]at q2;exact q2);have ho:=Gu hc ts[k - 1] ts[k] _ cw;have B6:qz ts[k - 1] ts[k]<=0:=by
              have:¬0<qz ts[k - 1] ts[k]:=λe=>by rw[QL.1 e]at q3;cases q3
              omega
            simp[cT,h,q1,fo,eG,zD,qy,wk,ho,B6,t1,w]
        . obtain rfl:=t3 he;simp only[he,ne_eq,Zn3,Zf9,Ze1];by_cases zD:k=0
          .have dk:decide ((k:Int)=0)=true:=H2 (by omega);have dk':decide (k=0)=true:=H2 zD;clear zD;simp[cT,h,q1,fo,eG,dk,dk',t1,t2,wg,he]
          . have qy:k - 1<ts.length:=(by omega);have wk:au .i64 ((k:Int) - 1)=((k - 1:Nat):Int):=(by rw[wrap64 (by omega) (by omega)];omega);have q3:fy ts[k] ts[k - 1]=false:=(by rw[nk,Za2 zD,H1 qy]at q2;exact q2);have ho:=Gu hc ts[k - 1] ts[k] _ cw;have B6:qz ts[k - 1] ts[k]<=0:=by
              have:¬0<qz ts[k - 1] ts[k]:=λe=>by rw[QL.1 e]at q3;cases q3
              omega
            simp[cT,h,q1,fo,eG,zD,qy,wk,ho,B6,t1,t2,wg,he]
  .obtain rfl:k=ts.length:=(by omega);refine⟨s,B.keeps,λ_=>⟨⟨tk,by simpa using B⟩,by simpa using hs⟩,?_⟩;rw[uG];have ec:fQ gs ts (m+1) ts.length=(0,0):=(by rw[fQ,Zc4 (by omega)]);simp[ec]
theorem V6(hc:Sem c)(z z2:Bool)(gs:List aQ)(ts:List Ty)(hl:gs.length<=100)(kF:ts.length<=100)(s:St)(hw:Wf s):
   ∃v s',c 181 [.agg [bC z gs,cT z2 ts]] s=some (.tuple [v,.int .i64 (bV gs ts).1,.int .i64 (bV gs ts).2],s')/\aM s s'/\((bV gs ts).2=0->∃bp mp gk tk,v= .ptr bp 0/\gx (af s (.cells [bC z gs,cT z2 ts] 0)) s' bp mp gs ts gk tk/\PE ts):=by
 let s0:=af s (.cells [bC z gs,cT z2 ts] 0)
 have Km:Wf s0:=bM hw;have k0:aM s s0:=bK hw;have Ot:s0.heap.get s.next=some (.cells [bC z gs,cT z2 ts] 0):=aC _ _;have Le:=ajL hc s0;have B:=gx.start Km
 have finish:∀{v:AV}{s':St},Bj c 102 (.agg [bC z gs,cT z2 ts]) s=some (.tuple [v,.int .i64 (bV gs ts).1,.int .i64 (bV gs ts).2],s')->aM s0 s'->((bV gs ts).2=0->∃bp mp gk tk,v= .ptr bp 0/\gx s0 s' bp mp gs ts gk tk/\PE ts)->
     ∃v s',c 181 [.agg [bC z gs,cT z2 ts]] s=some (.tuple [v,.int .i64 (bV gs ts).1,.int .i64 (bV gs ts).2],s')/\aM s s'/\((bV gs ts).2=0->∃bp mp gk tk,v= .ptr bp 0/\gx s0 s' bp mp gs ts gk tk/\PE ts):=λ{v s'} h hk hB=>by
   have h2:=VM hc 102 h;unfold tidy at h2;split at h2
   .rename_i hp;exact⟨v,s,h2,aM.refl s,λe=>by obtain⟨bp,mp,gk,tk,rfl,_⟩:=hB e;exact absurd hp.1 XT⟩
   .exact⟨v,s',h2,k0.trans hk,hB⟩
 obtain⟨s1,g1,g2⟩:=aiQ hc Km z gs hl (af s0 (.map [] 0)).next s0.next s.next 102 (λvs s30=>eV vs λx2 vs=>eV vs λx3 vs=>eV vs λx4 vs=>gP vs (some (.tuple [x2,x3,x4],s30))) (λvs s31=>eV vs λx1 vs=>eV vs λx5 vs=>gP vs (
   ai c (.fieldA 1) [x1] s31 λx29 s32=>ai c (.load none) [x29] s32 λBx s33=>ai c (.lenB .l) [Bx] s33 λIo s34=>ai c .move [(.int .i64 0)] s34 λIp s35=>
   kz c 102 (λvs s80=>eV vs λx2 vs=>eV vs λx3 vs=>eV vs λx4 vs=>gP vs (some (.tuple [x2,x3,x4],s80))) (λvs s81=>eV vs λx5 vs=>gP vs (
     ai c .move [x5] s81 λx74 s82=>ai c .move [x74] s82 λx2 s83=>ai c .move [(.int .i64 0)] s83 λx3 s84=>ai c .move [(.int .i64 0)] s84 λx4 s85=>some (.tuple [x2,x3,x4],s85))) 102 [x1,x5,Bx,Io,Ip] s35)) 101 0 _ none B (by omega) (by omega) (by omega)
 have ae1:∀r,ju c 102 (λvs s30=>eV vs λx2 vs=>eV vs λx3 vs=>eV vs λx4 vs=>gP vs (some (.tuple [x2,x3,x4],s30))) (λvs s31=>eV vs λx1 vs=>eV vs λx5 vs=>gP vs (
   ai c (.fieldA 1) [x1] s31 λx29 s32=>ai c (.load none) [x29] s32 λBx s33=>ai c (.lenB .l) [Bx] s33 λIo s34=>ai c .move [(.int .i64 0)] s34 λIp s35=>
   kz c 102 (λvs s80=>eV vs λx2 vs=>eV vs λx3 vs=>eV vs λx4 vs=>gP vs (some (.tuple [x2,x3,x4],s80))) (λvs s81=>eV vs λx5 vs=>gP vs (
     ai c .move [x5] s81 λx74 s82=>ai c .move [x74] s82 λx2 s83=>ai c .move [(.int .i64 0)] s83 λx3 s84=>ai c .move [(.int .i64 0)] s84 λx4 s85=>some (.tuple [x2,x3,x4],s85))) 102 [x1,x5,Bx,Io,Ip] s35)) 102 [.ptr s.next 0,.ptr (af s0 (.map [] 0)).next 0,bC z gs,.int .i64 (gs.length:Int),.int .i64 ((0:Nat):Int)] (af (af s0 (.map [] 0)) (.cells [.av,.av,.map s0.next] 0))=r->Bj c 102 (.agg [bC z gs,cT z2 ts]) s=r:=λr h=>by
   rw[<-h,aaa];have hb:=(B.keeps _ _ Ot)
   simp only[cP,PA,aj,aK];show OG (c 250 [] s0) _=_;rw[Le];simp only[aJ,cO,dS,hb,aF,Zg2,Za5,Zc7,bP,aap];rfl
 rcases g2 with⟨q1,⟨Ny,B2⟩,q3⟩|⟨q1,q3⟩
 . have e:bV gs ts=fQ gs ts 101 0:=(by rw[bV,Za2 (by simp[q1])]);obtain⟨s2,r1,rB,r2⟩:=aiR hc Km z z2 gs ts hl kF (af s0 (.map [] 0)).next s0.next s.next Ot Ny 102 (λvs s80=>eV vs λx2 vs=>eV vs λx3 vs=>eV vs λx4 vs=>gP vs (some (.tuple [x2,x3,x4],s80))) (λvs s81=>eV vs λx5 vs=>gP vs (
     ai c .move [x5] s81 λx74 s82=>ai c .move [x74] s82 λx2 s83=>ai c .move [(.int .i64 0)] s83 λx3 s84=>ai c .move [(.int .i64 0)] s84 λx4 s85=>some (.tuple [x2,x3,x4],s85))) 101 0 s1 none (by simpa using B2) (by intro i j hj;simp at hj) (by omega) (by omega)
   have nD:s1.heap.get s.next=some (.cells [bC z gs,cT z2 ts] 0):=B2.keeps _ _ Ot;have hL:=ae1 _ q3;simp only[aE,aH,cO,dS,nD,aF,Zg2,Za6,Za5,Zc7,bP,agT,aj]at hL;have r2':=r2;rw[show(((0:Nat):Int))=0 from rfl]at r2';simp only[aj,Nat.reduceAdd]at r2';rw[r2']at hL;rw[e]at finish ⊢;by_cases h2:(fQ gs ts 101 0).2=0
   . have h3:=Mn gs ts 101 0 h2;rw[Za4 h2]at hL;simp only[aE,aH]at hL;exact finish (by rw[h2,h3];exact hL) r1 (λe=>by
        obtain⟨⟨Kl,B3⟩,hs⟩:=rB e;exact⟨_,_,_,_,rfl,B3,hs⟩)
   .rw[Za2 h2]at hL;simp only[aE,aH]at hL;exact finish hL r1 (λe=>absurd e h2)
 .have e:bV gs ts=gW gs 101 0:=(by rw[bV,Za4 q1]);have hL:=ae1 _ q3;simp only[aE,aH]at hL;rw[e]at finish ⊢;exact finish hL g1 (λe=>absurd e q1)
structure Rl where
 k:Int
 wt:Int
 a:List Nat
 b:List Nat
 t:List Nat
 n:Int
def Rl.cells(r:Rl):List AV:=[.int .u8 r.k,.int .i64 r.wt,.str r.a,.str r.b,.str r.t,.int .i64 r.n]
@[simp] theorem Rl.c0(t:Rl):t.cells[0]? =some (.int .u8 t.k):=id rfl
@[simp] theorem Rl.c1(t:Rl):t.cells[1]? =some (.int .i64 t.wt):=id rfl
@[simp] theorem Rl.c2(t:Rl):t.cells[2]? =some (.str t.a):=id rfl
@[simp] theorem Rl.c3(t:Rl):t.cells[3]? =some (.str t.b):=id rfl
@[simp] theorem Rl.c4(t:Rl):t.cells[4]? =some (.str t.t):=id rfl
@[simp] theorem Rl.c5(t:Rl):t.cells[5]? =some (.int .i64 t.n):=id rfl
@[simp] theorem Rl.cc(t:Rl):cut t.cells 0 6=some t.cells:=bJ rfl
@[simp] theorem Rl.one(t:Rl):bg t.cells=true:=id rfl
def jD(z:Bool)(rs:List Rl):AV:=ro 6 z (rs.map Rl.cells)
@[simp] theorem ak9{R:Type}(c:ah)(K:AV->St->Option R)(st:St)(z:Bool)(l:List Rl):ai c (.lenB .l) [jD z l] st K=K (.int .i64 (l.length:Int)) st:=by unfold jD;rw[bW];simp
@[simp] theorem akJ{R:Type}(c:ah)(K:AV->St->Option R)(st:St)(z:Bool)(l:List aG):ai c (.lenB .l) [tabs z l] st K=K (.int .i64 (l.length:Int)) st:=by unfold tabs;rw[bW];simp
structure aR where
 tz:Bool
 ts:List aG
 gz:Bool
 gs:List aQ
 yz:Bool
 ys:List Ty
 cz:Bool
 cs:List Int
 rz:Bool
 rs:List Rl
def aR.cells(p:aR):List AV:=[tabs p.tz p.ts,bC p.gz p.gs,cT p.yz p.ys,ints p.cz p.cs,jD p.rz p.rs]
@[simp] theorem aR.c0(p:aR):p.cells[0]? =some (tabs p.tz p.ts):=id rfl
@[simp] theorem aR.c1(p:aR):p.cells[1]? =some (bC p.gz p.gs):=id rfl
@[simp] theorem aR.c2(p:aR):p.cells[2]? =some (cT p.yz p.ys):=id rfl
@[simp] theorem aR.c3(p:aR):p.cells[3]? =some (ints p.cz p.cs):=id rfl
@[simp] theorem aR.c4(p:aR):p.cells[4]? =some (jD p.rz p.rs):=id rfl
@[simp] theorem aR.cc(p:aR):cut p.cells 0 5=some p.cells:=bJ rfl
structure aR.ic(p:aR):Prop where
 ts:p.ts.length<=100
 gs:p.gs.length<=100
 ys:p.ys.length<=100
 cs:p.cs.length<=100
 rs:p.rs.length<=100
 ok:∀t∈p.ts,t.Ok
def mb(l:List Int):Bool:=l.all λc=>decide (0<=c)&&decide (c<64)
def fM(p:aR):Int×Int:=
 if(bA p.ts).2≠0 then bA p.ts else if(bV p.gs p.ys).2≠0 then bV p.gs p.ys
 else if p.cs.length≠0/\p.cs.length≠p.gs.length then(0,44)else if mb p.cs=false then(0,44)
 else if aO p.ts<p.gs.length then(0,45)else(0,0)
theorem abu{p:aR}(h:(fM p).2=0):(fM p).1=0:=by
 unfold fM at h ⊢;by_cases h1:(bA p.ts).2≠0
 .rw[Za4 h1]at h;exact absurd h h1
 rw[Za2 h1]at h ⊢;by_cases h2:(bV p.gs p.ys).2≠0
 .rw[Za4 h2]at h;exact absurd h h2
 rw[Za2 h2]
 repeat' split
 all_goals rfl
theorem adr(p:aR)(hp:p.ic)(q:Pos)(F:Nat)(s:St)(k1 k2):∀(m k:Nat),p.cs.length<=k+m->k<=p.cs.length->
  oB c F k1 k2 (m+1) [.ptr q 0,ints p.cz p.cs,.int .i64 (p.cs.length:Int),.int .i64 (k:Int)] s=if mb (p.cs.drop k)=true then k2 [.ptr q 0] s else k1 [.int .i64 0,.int .i64 44] s:=by
 have hl:=hp.cs;intro m;induction m with
 |zero=>
  intro k h1 h2;obtain rfl:k=p.cs.length:=by omega
  rw[H7];simp[mb]
 |succ m ih=>
  intro k h1 h2;rw[H7];by_cases h:k<p.cs.length
  . have e:p.cs.drop k=p.cs[k]::p.cs.drop (k+1):=Za8 h;have w:au .i64 ((k:Int)+1)=((k+1:Nat):Int):=wrap64 (by omega) (by omega);have:=ih (k+1) (by omega) (by omega);have ec:mb (p.cs.drop k)=((decide (0<=p.cs[k])&&decide (p.cs[k]<64))&&mb (p.cs.drop (k+1))):=(by rw[e];rfl);rw[ec];generalize mb (p.cs.drop (k+1))=rest at this ⊢;by_cases h3:p.cs[k]<0
    .   have h4:(decide (0<=p.cs[k])&&decide (p.cs[k]<64))=false:=(by simp;omega);rw[h4];simp[ints,h,h3]
    .   by_cases h5:64<=p.cs[k]
        .have h4:(decide (0<=p.cs[k])&&decide (p.cs[k]<64))=false:=(by simp;omega);rw[h4];simp[ints,h,h3,h5]
        .have h4:(decide (0<=p.cs[k])&&decide (p.cs[k]<64))=true:=(by simp;omega);rw[h4,Ze4, <-this];simp[ints,h,h3,h5,w]
  .obtain rfl:k=p.cs.length:=(by omega);simp[mb]
theorem X9(p:aR)(hp:p.ic)(q:Pos)(F:Nat)(s:St)(hq:s.heap.get q=some (.cells p.cells 0))(k1 k2):∀(m k:Nat),p.cs.length<=k+m->k<=p.cs.length->
  gY c F k1 k2 (m+1) [.ptr q 0,.int .i64 (k:Int)] s=if mb (p.cs.drop k)=true then k2 [.ptr q 0] s else k1 [.int .i64 0,.int .i64 44] s:=by
 have hl:=hp.cs;intro m;induction m with
 |zero=>
  intro k h1 h2;obtain rfl:k=p.cs.length:=by omega
  rw[wQ];simp[mb,hq]
 |succ m ih=>
  intro k h1 h2;rw[wQ];by_cases h:k<p.cs.length
  . have e:p.cs.drop k=p.cs[k]::p.cs.drop (k+1):=Za8 h;have w:au .i64 ((k:Int)+1)=((k+1:Nat):Int):=wrap64 (by omega) (by omega);have:=ih (k+1) (by omega) (by omega);have ec:mb (p.cs.drop k)=((decide (0<=p.cs[k])&&decide (p.cs[k]<64))&&mb (p.cs.drop (k+1))):=(by rw[e];rfl);rw[ec];generalize mb (p.cs.drop (k+1))=rest at this ⊢;by_cases h3:p.cs[k]<0
    .   have h4:(decide (0<=p.cs[k])&&decide (p.cs[k]<64))=false:=(by simp;omega);rw[h4];simp[hq,ints,h,h3]
    .   by_cases h5:64<=p.cs[k]
        .have h4:(decide (0<=p.cs[k])&&decide (p.cs[k]<64))=false:=(by simp;omega);rw[h4];simp[hq,ints,h,h3,h5]
        .have h4:(decide (0<=p.cs[k])&&decide (p.cs[k]<64))=true:=(by simp;omega);rw[h4,Ze4, <-this];simp[hq,ints,h,h3,h5,w]
  .obtain rfl:k=p.cs.length:=(by omega);simp[mb,hq]
theorem Ya(hc:Sem c)(z:Bool)(ts:List aG)(hl:ts.length<=100)(F:Nat)(s:St)(hw:Wf s)(k2):∀(m k:Nat),ts.length<=k+m->k<=ts.length->
  eW c F k2 (m+1) [tabs z ts,.int .i64 (ts.length:Int),.int .i64 (aO (ts.take k)),.int .i64 (k:Int)] s=k2 [.int .i64 (aO ts)] s:=by
 intro m;induction m with
 |zero=>
  intro k h1 h2;obtain rfl:k=ts.length:=by omega
  rw[kC];simp
 |succ m ih=>
  intro k h1 h2;rw[kC];by_cases h:k<ts.length
  . have w:au .i64 ((k:Int)+1)=((k+1:Nat):Int):=wrap64 (by omega) (by omega);have hs:=Bu hc ts[k] s hw;have e:aO (ts.take (k+1))=aO (ts.take k)+bh ts[k]:=by
        rw[Zc2 h,E5]
    have b1:=pz (ts.take k);have b2:=tI ts[k];have b3:(ts.take k).length<=100:=(by simp;omega);have w2:au .i64 (aO (ts.take k)+bh ts[k])=aO (ts.take (k+1)):=(by rw[e];exact wrap64 (by omega) (by omega));rw[<-ih (k+1) (by omega) (by omega)];simp[tabs,h,hs,w,w2]
  .obtain rfl:k=ts.length:=(by omega);simp
theorem RY(hc:Sem c)(z:Bool)(ts:List aG)(hl:ts.length<=100)(s:St)(hw:Wf s):c 114 [tabs z ts] s=some (.int .i64 (aO ts),s):=by
 have hF:c 112 [tabs z ts,.int .i64 (ts.length:Int)] s=some (.int .i64 (aO ts),s):=by
  rw[xZ hc 101 (r:=(.int .i64 (aO ts),s)),ak (Plain.int _ _) (aM.refl s)];rw[A7];have L:∀k2,eW c 101 k2 101 [tabs z ts,.int .i64 (ts.length:Int),.int .i64 0,.int .i64 0] s=k2 [.int .i64 (aO ts)] s:=λk2=>by have:=Ya hc z ts hl 101 s hw k2 100 0 (by omega) (by omega);simpa [aO]using this
  simp[L]
 rw[I7 hc 1 (r:=(.int .i64 (aO ts),s)),ak (Plain.int _ _) (aM.refl s)];rw[LZ];simp[hF]
theorem Mu{d:Nat}(z:Bool)(l:List Int):dD (d+1) (ints z l):=dD.ro λr hr v hv=>by simp only[Zf2]at hr;obtain⟨i,_,rfl⟩:=hr;simp only[Zc9]at hv;subst hv;exact dD.int _ _
theorem ads{d:Nat}(z:Bool)(l:List (List Nat)):dD (d+1) (fu z l):=dD.ro λr hr v hv=>by simp only[Zf2]at hr;obtain⟨i,_,rfl⟩:=hr;simp only[Zc9]at hv;subst hv;exact dD.str _
theorem By(z:Bool)(l:List aQ):dD 3 (bC z l):=dD.ro λr hr v hv=>by simp only[Zf2]at hr;obtain⟨g,_,rfl⟩:=hr;simp only[aQ.cells,Za7,Zd0,Zh3]at hv;rcases hv with rfl|rfl|rfl|rfl|rfl|rfl|rfl|rfl|rfl<;>first|exact dD.str _|exact dD.int _ _|exact dD.bool _|exact ads _ _
theorem UJ(z:Bool)(l:List aG):dD 3 (tabs z l):=dD.ro λr hr v hv=>by simp only[Zf2]at hr;obtain⟨g,_,rfl⟩:=hr;simp only[aG.cells,Za7,Zd0,Zh3]at hv;rcases hv with rfl|rfl|rfl|rfl|rfl|rfl|rfl<;>first|exact dD.str _|exact dD.int _ _|exact dD.bool _|exact Mu _ _
theorem Xp(z:Bool)(l:List Rl):dD 3 (jD z l):=dD.ro λr hr v hv=>by simp only[Zf2]at hr;obtain⟨g,_,rfl⟩:=hr;simp only[Rl.cells,Za7,Zd0,Zh3]at hv;rcases hv with rfl|rfl|rfl|rfl|rfl|rfl<;>first|exact dD.str _|exact dD.int _ _|exact dD.bool _
theorem iZ(z z2:Bool)(gs:List aQ)(ts:List Ty):cI [.av,.av] [(0,1),(1,1)] [bC z gs,cT z2 ts]=some [bC z gs,cT z2 ts]:=by have e1:(bC z gs).cells=[bC z gs]:=ZH _ _ _;have e2:(cT z2 ts).cells=[cT z2 ts]:=ZH _ _ _;unfold cI;rw[e1];show cI [bC z gs,.av] [(1,1)] [cT z2 ts]=_;unfold cI;rw[e2];rfl
def PG(c:ah)(p:aR):Prop:=(∀st,Wf st->c 130 [.agg [bC p.gz p.gs,cT p.yz p.ys]] st=some (.tuple [.int .i64 (bV p.gs p.ys).1,.int .i64 (bV p.gs p.ys).2],st))/\
 ∀st,Wf st->c 233 [.agg [bC p.gz p.gs,cT p.yz p.ys]] st=some (.tuple [.int .i64 (bV p.gs p.ys).1,.int .i64 (bV p.gs p.ys).2],st)
theorem ag5 (hc:Sem c)(p:aR)(hp:p.ic)(hR:PG c p)(st:St)(hw:Wf st):c 83 [.agg p.cells] st=some (.tuple [.int .i64 (fM p).1,.int .i64 (fM p).2],st):=by
 have cw:Wf (af st (.cells p.cells 0)):=bM hw;have Im:=Grew.af hw (.cells p.cells 0);have eG:(af st (.cells p.cells 0)).heap.get st.next=some (.cells p.cells 0):=aC _ _;have A:=RX hc p.tz p.ts hp.ok _ cw;have B:=hR.1 _ cw;have D:=CJ hc p.tz p.ts hp.ok _ cw;have L:∀k1 k2,oB c 101 k1 k2 101 [.ptr st.next 0,ints p.cz p.cs,.int .i64 (p.cs.length:Int),.int .i64 0] (af st (.cells p.cells 0))=if mb p.cs=true then k2 [.ptr st.next 0] (af st (.cells p.cells 0))else k1 [.int .i64 0,.int .i64 44] (af st (.cells p.cells 0)):=
   λk1 k2=>adr (c:=c) p hp st.next 101 (af st (.cells p.cells 0)) k1 k2 100 0 (by have:=hp.cs;omega) (by omega)
 have rj:=λ(K:AV->Option (AV×St))=>FU K (p:=st.next) (o:=1) (h:=(af st (.cells p.cells 0)).heap) (h2:=(af st (.cells p.cells 0)).heap) (v:=bC p.gz p.gs) (by rw[eG];rfl) (by rw[eG];rfl) (q9 (By _ _))
 rw[VI hc 101 (r:=(.tuple [.int .i64 (fM p).1,.int .i64 (fM p).2],af st (.cells p.cells 0))),ak (Plain.tuple (by simp[Plain.int])) Im.keeps];rw[Z6];unfold fM;by_cases h1:(bA p.ts).2=0
 . by_cases h2:(bV p.gs p.ys).2=0
   . simp only[h1,Zf9]at D;by_cases h3:p.cs.length=0
     .  have h4:p.cs=[]:=(by simpa using h3);have L1:mb p.cs=true:=(by rw[h4];rfl);have e0:((p.cs.length:Nat):Int)=0:=(by omega);simp only[L1,Zf9,e0]at L;by_cases h6:aO p.ts<p.gs.length
        .simp[iZ,h1,h2,h3,A,B,D,eG,L1,L,rj,h6]
        .simp[iZ,h1,h2,h3,A,B,D,eG,L1,L,rj,h6]
     .  by_cases h4:p.cs.length=p.gs.length
        . cases h5:mb p.cs with
          | false=>
            simp only[h5,Zd4,Ze1,h4]at L;have h7:0<p.cs.length:=(by omega);have h8:0<p.gs.length:=(by omega);simp[iZ,h1,h2,h3,h4,h5,h7,h8,A,B,eG,L]
          | true=>
            simp only[h5,Zf9,h4]at L;have h7:0<p.cs.length:=(by omega);have h8:0<p.gs.length:=(by omega);by_cases h6:aO p.ts<p.gs.length
            .simp[iZ,h1,h2,h3,h4,h5,h7,h8,A,B,D,eG,L,rj,h6]
            .simp[iZ,h1,h2,h3,h4,h5,h7,h8,A,B,D,eG,L,rj,h6]
        .have h7:0<p.cs.length:=(by omega);have h4i:¬((p.cs.length:Int)=(p.gs.length:Int)):=(by omega);simp[iZ,h1,h2,h3,h4,h4i,h7,A,B,eG]
   .simp[iZ,h1,h2,A,B,eG]
 .simp[h1,A,eG]
theorem abv (hc:Sem c)(p:aR)(hp:p.ic)(hR:PG c p)(st:St)(hw:Wf st):c 168 [.agg p.cells] st=some (.tuple [.int .i64 (fM p).1,.int .i64 (fM p).2],st):=by
 have cw:Wf (af st (.cells p.cells 0)):=bM hw;have Im:=Grew.af hw (.cells p.cells 0);have eG:(af st (.cells p.cells 0)).heap.get st.next=some (.cells p.cells 0):=aC _ _;have A:=VU hc p.tz p.ts hp.ok _ cw;have B:=hR.2 _ cw;have D:=RY hc p.tz p.ts hp.ts _ cw;have L:∀k1 k2,gY c 101 k1 k2 101 [.ptr st.next 0,.int .i64 0] (af st (.cells p.cells 0))=if mb p.cs=true then k2 [.ptr st.next 0] (af st (.cells p.cells 0))else k1 [.int .i64 0,.int .i64 44] (af st (.cells p.cells 0)):=
   λk1 k2=>X9 (c:=c) p hp st.next 101 (af st (.cells p.cells 0)) eG k1 k2 100 0 (by have:=hp.cs;omega) (by omega)
 have rj:=λ(K:AV->Option (AV×St))=>FU K (p:=st.next) (o:=1) (h:=(af st (.cells p.cells 0)).heap) (h2:=(af st (.cells p.cells 0)).heap) (v:=bC p.gz p.gs) (by rw[eG];rfl) (by rw[eG];rfl) (q9 (By _ _))
 rw[I8 hc 101 (r:=(.tuple [.int .i64 (fM p).1,.int .i64 (fM p).2],af st (.cells p.cells 0))),ak (Plain.tuple (by simp[Plain.int])) Im.keeps];rw[L5];unfold fM;by_cases h1:(bA p.ts).2=0
 . by_cases h2:(bV p.gs p.ys).2=0
   . by_cases h3:p.cs.length=0
     .  have h4:p.cs=[]:=(by simpa using h3);have L1:mb p.cs=true:=(by rw[h4];rfl);simp only[L1,Zf9]at L;by_cases h6:aO p.ts<p.gs.length
        .simp[iZ,h1,h2,h3,A,B,D,eG,L1,L,rj,h6]
        .simp[iZ,h1,h2,h3,A,B,D,eG,L1,L,rj,h6]
     .  by_cases h4:p.cs.length=p.gs.length
        . cases h5:mb p.cs with
          | false=>
            simp only[h5,Zd4,Ze1]at L;have h7:0<p.cs.length:=(by omega);have h8:0<p.gs.length:=(by omega);have h9:¬p.gs=[]:=(by intro e;rw[e]at h8;simp at h8);have Nx:¬p.cs=[]:=(by intro e;rw[e]at h7;simp at h7);simp[iZ,h1,h2,h3,h4,h5,h7,h8,h9,Nx,A,B,eG,L]
          | true=>
            simp only[h5,Zf9]at L;have h7:0<p.cs.length:=(by omega);have h8:0<p.gs.length:=(by omega);have h9:¬p.gs=[]:=(by intro e;rw[e]at h8;simp at h8);have Nx:¬p.cs=[]:=(by intro e;rw[e]at h7;simp at h7);by_cases h6:aO p.ts<p.gs.length
            .simp[iZ,h1,h2,h3,h4,h5,h7,h8,h9,Nx,A,B,D,eG,L,rj,h6]
            .simp[iZ,h1,h2,h3,h4,h5,h7,h8,h9,Nx,A,B,D,eG,L,rj,h6]
        .have h7:0<p.cs.length:=(by omega);have h4i:¬((p.cs.length:Int)=(p.gs.length:Int)):=(by omega);have Nx:¬p.cs=[]:=(by intro e;rw[e]at h7;simp at h7);simp[iZ,h1,h2,h3,h4,h4i,h7,Nx,A,B,eG]
   .simp[iZ,h1,h2,A,B,eG]
 .simp[h1,A,eG]
theorem ae2(z:Bool)(rs:List (List AV))(hl:rs.length<dM)(eF:∀cs∈rs,cs.length=9)(g:Nat)(v:List AV)(P:Nat->Bool)(st:St)(F:Nat)(k1 k2)
  (hP:∀i (h:i<rs.length),c g (.agg rs[i]::v) st=some (.bool (P i),st)):∀(m k:Nat),rs.length<=k+m->k<=rs.length->
  bX c F k1 k2 (m+1) [ro 9 z rs,.func g [] v,.int .i64 (rs.length:Int),.int .i64 (k:Int)] st=if 0<=scan P (rs.length - k) k then k1 [.int .i64 (scan P (rs.length - k) k)] st else k2 [] st:=by
 intro m;induction m with
 |zero=>
  intro k h1 h2;obtain rfl:k=rs.length:=by omega
  rw[cS];simp[scan]
 |succ m ih=>
  intro k h1 h2;rw[cS];by_cases h:k<rs.length
  . have e:rs.length - k=(rs.length - (k+1))+1:=(by omega);have w:au .i64 ((k:Int)+1)=((k+1:Nat):Int):=wrap64 (by omega) (by unfold dM at hl;omega);have hcut:cut rs[k] 0 9=some rs[k]:=bJ (eF _ (Zc6 h));have hp:=hP k h;rw[e,scan];cases hb:P k
    .   simp only[Zd4,Ze1];rw[<-ih (k+1) (by omega) (by omega)];simp[h,hcut,hp,hb,w]
    .   simp[h,hcut,hp,hb]
  .obtain rfl:k=rs.length:=(by omega);simp[scan]
theorem aiS(hc:Sem c)(z:Bool)(rs:List (List AV))(hl:rs.length<dM)(eF:∀cs∈rs,cs.length=9)(g:Nat)(v:List AV)(P:Nat->Bool)(st:St)
   (hP:∀i (h:i<rs.length),c g (.agg rs[i]::v) st=some (.bool (P i),st)):c 126 [ro 9 z rs,.func g [] v] st=some (.int .i64 (scan P rs.length 0),st):=by
 rw[sk hc (rs.length+1) (r:=(.int .i64 (scan P rs.length 0),st)),ak (Plain.int _ _) (aM.refl st)];rw[kL];have L:∀k1 k2,bX c (rs.length+1) k1 k2 (rs.length+1) [ro 9 z rs,.func g [] v,.int .i64 (rs.length:Int),.int .i64 0] st=if 0<=scan P (rs.length - 0) 0 then k1 [.int .i64 (scan P (rs.length - 0) 0)] st else k2 [] st:=
   λk1 k2=>ae2 z rs hl eF g v P st _ k1 k2 hP rs.length 0 (by omega) (by omega)
 rw[Zl5]at L;by_cases h:0<=scan P rs.length 0
 .simp[L,h]
 .have:=(Kk P rs.length 0).2 (by omega);simp[L,this]
theorem aiT(hc:Sem c)(g:aQ)(s:List Nat)(p:Pos)(st:St)(hw:Wf st)(hp:st.heap.get p=some (.cells [.str s] 0)):c 196 [.agg g.cells,.ptr p 0] st=some (.bool (decide (g.name=s)),st):=by
 rw[VN hc 1 (r:=(.bool (decide (g.name=s)),af st (.cells g.cells 0))),ak (Plain.bool _) (bK hw)];rw[aab];have:(af st (.cells g.cells 0)).heap.get p=some (.cells [.str s] 0):=bK hw _ _ hp;simp[this]
theorem ajP(hc:Sem c)(p:aR)(hp:p.ic)(s:List Nat)(st:St)(hw:Wf st):c 150 [.agg p.cells,.str s] st=some (.int .i64 (scan (iY p.gs s) p.gs.length 0),st):=by
 have cw:Wf (af st (.cells p.cells 0)):=bM hw;have cZ:=bM (b:= .cells [.str s] 0) cw;have hg:=(Grew.af hw (.cells p.cells 0)).trans (Grew.af cw (.cells [.str s] 0));have eG:(af (af st (.cells p.cells 0)) (.cells [.str s] 0)).heap.get st.next=some (.cells p.cells 0):=by have:=aC st (.cells p.cells 0);exact(Grew.af cw (.cells [.str s] 0)).get this
 have hi:=aiS hc p.gz (p.gs.map aQ.cells) (by have:=hp.gs;simp;unfold dM;omega) (λcs fT=>by
   simp only[Zf2]at fT;obtain⟨t,_,rfl⟩:=fT;rfl) 196 [.ptr (af st (.cells p.cells 0)).next 0] (iY p.gs s) (af (af st (.cells p.cells 0)) (.cells [.str s] 0)) (λi hi=>by
   have hi3:i<p.gs.length:=(by simpa using hi);have:=aiT hc p.gs[i] s (af st (.cells p.cells 0)).next _ cZ (aC _ _);simp only[Zi2];rw[this];simp[iY,hi3])
 rw[Zb3]at hi;rw[aaf hc 1 (r:=(.int .i64 (scan (iY p.gs s) p.gs.length 0),af (af st (.cells p.cells 0)) (.cells [.str s] 0))),ak (Plain.int _ _) hg.keeps];rw[adl];have e:(AV.str s).cells=[.str s]:=rfl;simp[e,hi,eG,bC]
structure Kd where
 w:List Nat
 a:Int
 b:Bool
 t:Int
 n:Bool
 lo:Int
 ug:Bool
 f:AV
def Kd.cells(k:Kd):List AV:=[.str k.w,.int .u8 k.a,.bool k.b,.int .u8 k.t,.bool k.n,.int .i64 k.lo,.bool k.ug,k.f]
@[simp] theorem Kd.c0(t:Kd):t.cells[0]? =some (.str t.w):=id rfl
@[simp] theorem Kd.c1(t:Kd):t.cells[1]? =some (.int .u8 t.a):=id rfl
@[simp] theorem Kd.c2(t:Kd):t.cells[2]? =some (.bool t.b):=id rfl
@[simp] theorem Kd.c3(t:Kd):t.cells[3]? =some (.int .u8 t.t):=id rfl
@[simp] theorem Kd.c4(t:Kd):t.cells[4]? =some (.bool t.n):=id rfl
@[simp] theorem Kd.c5(t:Kd):t.cells[5]? =some (.int .i64 t.lo):=id rfl
@[simp] theorem Kd.c6(t:Kd):t.cells[6]? =some (.bool t.ug):=id rfl
@[simp] theorem Kd.cc(t:Kd):cut t.cells 0 8=some t.cells:=bJ rfl
def Dw(k:Kd)(r:Rl):Bool:=(decide (k.a≠0)||decide (r.a=[]))&&(k.b||decide (r.b=[]))&&(decide (k.t≠0)||decide (r.t=[]))&&(k.n||decide (r.n=0))
theorem ag6 (hc:Sem c)(k:Kd)(r:Rl)(st:St)(hw:Wf st):c 149 [.agg k.cells,.agg r.cells] st=some (.bool (Dw k r),st):=by
 have cw:Wf (af st (.cells k.cells 0)):=bM hw;have zI:=Grew.af cw (.cells r.cells 0);have hg:=(Grew.af hw (.cells k.cells 0)).trans zI;have p1:=zI.get (aC st (.cells k.cells 0));have p2:=aC (af st (.cells k.cells 0)) (.cells r.cells 0);rw[NR hc 1 (r:=(.bool (Dw k r),af (af st (.cells k.cells 0)) (.cells r.cells 0))),ak (Plain.bool _) hg.keeps];rw[QT];unfold Dw;by_cases h0:k.a=0;rotate_left
 . cases  h2:k.b with
   |true=>
    by_cases h4:k.t=0;rotate_left
    .   cases h6:k.n with
        | true=>
          simp[h0,h2,h4,h6]
        | false=>
          by_cases h7:r.n=0
          .simp[h0,h2,h4,h6,h7]
          .simp[h0,h2,h4,h6,h7]
    by_cases h5:r.t=[]
    .   cases h6:k.n with
        | true=>
          simp[h0,h2,h4,h5,h6]
        | false=>
          by_cases h7:r.n=0
          .simp[h0,h2,h4,h5,h6,h7]
          .simp[h0,h2,h4,h5,h6,h7]
    .   simp[h0,h2,h4,h5]
   |false   =>
    by_cases h3:r.b=[]
    .   by_cases h4:k.t=0;rotate_left
        . cases h6:k.n with
          | true=>
            simp[h0,h2,h3,h4,h6]
          | false=>
            by_cases h7:r.n=0
            .simp[h0,h2,h3,h4,h6,h7]
            .simp[h0,h2,h3,h4,h6,h7]
        by_cases h5:r.t=[]
        . cases h6:k.n with
          | true=>
            simp[h0,h2,h3,h4,h5,h6]
          | false=>
            by_cases h7:r.n=0
            .simp[h0,h2,h3,h4,h5,h6,h7]
            .simp[h0,h2,h3,h4,h5,h6,h7]
        .simp[h0,h2,h3,h4,h5]
    .   simp[h0,h2,h3]
 by_cases h1:r.a=[]
 . cases  h2:k.b with
   |true=>
    by_cases h4:k.t=0;rotate_left
    .   cases h6:k.n with
        | true=>
          simp[h0,h1,h2,h4,h6]
        | false=>
          by_cases h7:r.n=0
          .simp[h0,h1,h2,h4,h6,h7]
          .simp[h0,h1,h2,h4,h6,h7]
    by_cases h5:r.t=[]
    .   cases h6:k.n with
        | true=>
          simp[h0,h1,h2,h4,h5,h6]
        | false=>
          by_cases h7:r.n=0
          .simp[h0,h1,h2,h4,h5,h6,h7]
          .simp[h0,h1,h2,h4,h5,h6,h7]
    .   simp[h0,h1,h2,h4,h5]
   |false   =>
    by_cases h3:r.b=[]
    .   by_cases h4:k.t=0;rotate_left
        . cases h6:k.n with
          | true=>
            simp[h0,h1,h2,h3,h4,h6]
          | false=>
            by_cases h7:r.n=0
            .simp[h0,h1,h2,h3,h4,h6,h7]
            .simp[h0,h1,h2,h3,h4,h6,h7]
        by_cases h5:r.t=[]
        . cases h6:k.n with
          | true=>
            simp[h0,h1,h2,h3,h4,h5,h6]
          | false=>
            by_cases h7:r.n=0
            .simp[h0,h1,h2,h3,h4,h5,h6,h7]
            .simp[h0,h1,h2,h3,h4,h5,h6,h7]
        .simp[h0,h1,h2,h3,h4,h5]
    .   simp[h0,h1,h2,h3]
 .simp[h0,h1]
theorem z0{R:Type}(P:(List AV->St->Option R)->Prop){A:(List AV->St->Option R)->Option R}{T:List AV->St->Option R}{r:Option R}(hT:P T)(hA:∀j,P j->A j=r):ki A T=r:=hA T hT
theorem Mw{R:Type}(c:ah)(K:AV->St->Option R)(st:St)(es:Nat)(z:Bool)(rs:List (List AV))(k k':IntKind)(i j:Nat)(h:i<j)(h2:j<=rs.length):
  ai c (.sliceL es true true false) [ro es z rs,.int k (i:Int),.int k' (j:Int)] st K=K (ro es false ((rs.take j).drop i)) st:=by
 have:∀H n,ax.run H n (.sliceL es true true false) [ro es z rs,.int k (i:Int),.int k' (j:Int)]=some (.val (ro es false ((rs.take j).drop i))):=λH n=>by
  rw[abN (by intro e;subst e;simp at h2;omega)];have h3:i<=j:=by omega
  simp[ax.run,lu,bounds,eM,cF,cW,h3,h2,ro]
 exact aP c K this st
theorem Xq(ts:List aG):∀(m k:Nat),(eH ts m k).2=0->∀i,k<=i->i<k+m->∀h:i<ts.length,lF ts[i]=0
 |0,k,_,i,h1,h2,_=>by omega
 |m +   1,k,h,i,h1,h2,hi=>by
  have hk:k<ts.length:=by omega
  rw[eH,H1 hk]at h;simp only at h;by_cases h3:lF ts[k]=0
  . rw[Za2 (by simp[h3])]at h;by_cases h4:0<=scan (iX ts ts[k].name) k 0
    .   rw[Za4 h4]at h;simp at h
    .   rw[Za2 h4]at h;by_cases e:i=k
        .subst e;exact h3
        .exact Xq ts m (k+1) h i (by omega) (by omega) hi
  .rw[Za4 h3]at h;exact absurd h h3
theorem Dx{ts:List aG}(h:(bA ts).2=0)(i:Nat)(hi:i<ts.length):lF ts[i]=0:=by
 unfold bA at h;split at h
 .simp at h
 .exact Xq ts ts.length 0 h i (by omega) (by omega) hi
theorem Iq{t:aG}(h:lF t=0):(bA [t]).2=0:=by
 simp[bA,eH,h,scan]
def gi(p:aR)(s:List Nat):Int:=scan (iY p.gs s) p.gs.length 0
def ti(p:aR)(s:List Nat):Int:=scan (iX p.ts s) p.ts.length 0
def vD(p:aR)(i:Int):Int:=match p.ts[i.toNat]? with
 |some t=>bh t
 |none=>0
def zj(k:Kd)(r:Rl)(m:Int):Int:=if k.n=true/\(r.n<k.lo\/m<r.n)then 42 else 0
def UK(k:Kd)(p:aR)(r:Rl):Int:=
 if(k.t=116/\ti p r.t<0)\/(k.t=101/\r.t≠[]/\ti p r.t<0)then 6
 else zj k r (if k.ug=true then vD p (ti p r.t) - 1 else 24)
def aaA(k:Kd)(p:aR)(r:Rl):Int:=
 if k.a=100/\e9 r.a=false then 4 else if k.b=true/\r.a=r.b then 5 else UK k p r
def Je(k:Kd)(p:aR)(r:Rl):Int:=
 if k.w=[]then 40 else if r.wt<0\/1000<r.wt then 41 else if Dw k r=false then 43
 else if(k.a=103/\gi p r.a<0)\/(k.a=101/\r.a≠[]/\gi p r.a<0)\/(k.b=true/\gi p r.b<0)then 6
 else aaA k p r
theorem ae3 (hc : Sem c)(k:Kd)(hk:k.ug=true->k.t=116)(p:aR)(hp:p.ic)(hv:(bA p.ts).2=0)(r:Rl)(st:St)(hw:Wf st):
   c 85 [.agg k.cells,.agg p.cells,.agg r.cells] st=some (.int .i64 (Je k p r),st):=by
 have cw:Wf (af st (.cells k.cells 0)):=bM hw;have cZ:=bM (b:= .cells p.cells 0) cw;have hg3:=Grew.af cZ (.cells r.cells 0);have zI:=Grew.af cw (.cells p.cells 0);have hg:=((Grew.af hw (.cells k.cells 0)).trans zI).trans hg3;have hw3:=hg.wf;have p1:=hg3.get (zI.get (aC st (.cells k.cells 0)));have p2:=hg3.get (aC (af st (.cells k.cells 0)) (.cells p.cells 0));have p3:=aC (af (af st (.cells k.cells 0)) (.cells p.cells 0)) (.cells r.cells 0);have A:=λs=>ajP hc p hp s _ hw3
 have B:=ag6 hc k r _ hw3;have D:=ab8 hc p.tz p.ts hp.ok (by have:=hp.ts;unfold dM;omega) r.t _ hw3;have N:=aai hc r.a (af (af (af st (.cells k.cells 0)) (.cells p.cells 0)) (.cells r.cells 0));rw[NP hc 1 (r:=(.int .i64 (Je k p r),af (af (af st (.cells k.cells 0)) (.cells p.cells 0)) (.cells r.cells 0))),ak (Plain.int _ _) hg.keeps];rw[QN];simp only[cP,aj,AV.cells];generalize af (af (af st (.cells k.cells 0)) (.cells p.cells 0)) (.cells r.cells 0)=s at*
 generalize (af (af st (.cells k.cells 0)) (.cells p.cells 0)).next=q3 at*
 generalize (af st (.cells k.cells 0)).next=q2 at*
 generalize st.next=q1 at*
 refine z0 (P:=λj=>j [.ptr q1 0,.ptr q2 0,.ptr q3 0] s=some (.int .i64 (UK k p r),s)) ?_ ?_
 . have D2  : c 128 [tabs p.tz p.ts,.str r.t] s=some (.tuple [.int .i64 (if 0<=ti p r.t then ti p r.t else 0),.bool (decide (0<=ti p r.t))],s):=(by simp only[hv,Zn5]at D;exact D);have Na:=Mh (P:=iX p.ts r.t) p.ts.length 0;clear D A B N hg zI hg3 hw cw cZ;unfold UK;by_cases ht:0<=ti p r.t
   . have PI  : ¬ ti p r.t<0:=(by omega);obtain⟨i,hi⟩:∃i:Nat,ti p r.t=(i:Int):=⟨(ti p r.t).toNat,by omega⟩
     have fU:i<p.ts.length:=(by have:=(Na ht).2.1;unfold ti at hi;rw[hi]at this;simpa using this);simp only[ht,Zf9,Zf6]at D2;by_cases h1:k.t=116
     .  simp[ p1,p2,p3,D2,h1,PI];refine z0 (P:=λj=>∀m,j [.ptr q1 0,.ptr q3 0,.int .i64 m] s=some (.int .i64 (zj k r m),s)) ?_ ?_
        . intro m;unfold zj;cases hn:k.n with
          |false=>simp[p1,hn]
          | true=>
            by_cases e1:r.n<k.lo
            .simp[p1,p3,hn,e1]
            . by_cases e2:m<r.n
              .simp[p1,p3,hn,e1,e2]
              .simp[p1,p3,hn,e1,e2]
        . intro j hj;cases hs:k.ug with
          |false=>simp[p1,hs,hj]
          | true=>
            have w:au .i64 ((i:Int)+1)=(i:Int)+1:=(by have:=hp.ts;exact wrap64 (by omega) (by omega));have cnt:=CJ hc false [p.ts[i]] (λt ht=>by simp only[Zc9]at ht;subst ht;exact hp.ok _ (Zc6 fU)) s hw3;rw[Za4 (Iq (Dx hv i fU)),show aO [p.ts[i]]=bh p.ts[i]by simp[aO]]at cnt;have b:=tI p.ts[i];have w2:au .i64 (bh p.ts[i] - 1)=bh p.ts[i] - 1:=wrap64 (by omega) (by omega);have hcut:∀K:AV->St->Option (AV×St),ai c (.sliceL 7 true true false) [tabs p.tz p.ts,.int .i64 (i:Int),.int .i64 ((i:Int)+1)] s K=K (tabs false [p.ts[i]]) s:=λK=>by
              (unfold tabs;have:=Mw c K s 7 p.tz (p.ts.map aG.cells) .i64 .i64 i (i+1) (by omega) (by rw[Zb3];omega);rw[show((i:Int)+1)=((i+1:Nat):Int)by omega,this];have e:((p.ts.map aG.cells).take (i+1)).drop i=[p.ts[i]].map aG.cells:=by rw[Zc2 (by simpa using fU),Zh0 (by simp;omega)];simp);rw[e]
            have e3:vD p (i:Int)=bh p.ts[i]:=(by simp[vD,fU]);simp[p1,p2,hs,hi,e3,w,hcut,cnt,hj,w2]
     .  by_cases h2 :k.t=101
        . by_cases h3:r.t=[]
          . simp only[h3]at D2 PI hi;simp[p1,p2,p3,D2,h1,h2,h3,PI];refine z0 (P:=λj=>∀m,j [.ptr q1 0,.ptr q3 0,.int .i64 m] s=some (.int .i64 (zj k r m),s)) ?_ ?_
            . intro m;unfold zj;cases hn:k.n with
              |false=>simp[p1,hn]
              | true=>
                by_cases e1:r.n<k.lo
                .simp[p1,p3,hn,e1]
                . by_cases e2:m<r.n
                  .simp[p1,p3,hn,e1,e2]
                  .simp[p1,p3,hn,e1,e2]
            . intro j hj;cases hs:k.ug with
              |false=>simp[p1,hs,hj]
              | true=>
                have w:au .i64 ((i:Int)+1)=(i:Int)+1:=(by have:=hp.ts;exact wrap64 (by omega) (by omega));have cnt:=CJ hc false [p.ts[i]] (λt ht=>by simp only[Zc9]at ht;subst ht;exact hp.ok _ (Zc6 fU)) s hw3;rw[Za4 (Iq (Dx hv i fU)),show aO [p.ts[i]]=bh p.ts[i]by simp[aO]]at cnt;have b:=tI p.ts[i];have w2:au .i64 (bh p.ts[i] - 1)=bh p.ts[i] - 1:=wrap64 (by omega) (by omega);have hcut:∀K:AV->St->Option (AV×St),ai c (.sliceL 7 true true false) [tabs p.tz p.ts,.int .i64 (i:Int),.int .i64 ((i:Int)+1)] s K=K (tabs false [p.ts[i]]) s:=λK=>by
                  (unfold tabs;have:=Mw c K s 7 p.tz (p.ts.map aG.cells) .i64 .i64 i (i+1) (by omega) (by rw[Zb3];omega);rw[show((i:Int)+1)=((i+1:Nat):Int)by omega,this];have e:((p.ts.map aG.cells).take (i+1)).drop i=[p.ts[i]].map aG.cells:=by rw[Zc2 (by simpa using fU),Zh0 (by simp;omega)];simp);rw[e]
                have e3:vD p (i:Int)=bh p.ts[i]:=(by simp[vD,fU]);simp[p1,p2,hs,hi,e3,w,hcut,cnt,hj,w2]
          . simp[ p1,p2,p3,D2,h1,h2,h3,PI];refine z0 (P:=λj=>∀m,j [.ptr q1 0,.ptr q3 0,.int .i64 m] s=some (.int .i64 (zj k r m),s)) ?_ ?_
            . intro m;unfold zj;cases hn:k.n with
              |false=>simp[p1,hn]
              | true=>
                by_cases e1:r.n<k.lo
                .simp[p1,p3,hn,e1]
                . by_cases e2:m<r.n
                  .simp[p1,p3,hn,e1,e2]
                  .simp[p1,p3,hn,e1,e2]
            . intro j hj;cases hs:k.ug with
              |false=>simp[p1,hs,hj]
              | true=>
                have w:au .i64 ((i:Int)+1)=(i:Int)+1:=(by have:=hp.ts;exact wrap64 (by omega) (by omega));have cnt:=CJ hc false [p.ts[i]] (λt ht=>by simp only[Zc9]at ht;subst ht;exact hp.ok _ (Zc6 fU)) s hw3;rw[Za4 (Iq (Dx hv i fU)),show aO [p.ts[i]]=bh p.ts[i]by simp[aO]]at cnt;have b:=tI p.ts[i];have w2:au .i64 (bh p.ts[i] - 1)=bh p.ts[i] - 1:=wrap64 (by omega) (by omega);have hcut:∀K:AV->St->Option (AV×St),ai c (.sliceL 7 true true false) [tabs p.tz p.ts,.int .i64 (i:Int),.int .i64 ((i:Int)+1)] s K=K (tabs false [p.ts[i]]) s:=λK=>by
                  (unfold tabs;have:=Mw c K s 7 p.tz (p.ts.map aG.cells) .i64 .i64 i (i+1) (by omega) (by rw[Zb3];omega);rw[show((i:Int)+1)=((i+1:Nat):Int)by omega,this];have e:((p.ts.map aG.cells).take (i+1)).drop i=[p.ts[i]].map aG.cells:=by rw[Zc2 (by simpa using fU),Zh0 (by simp;omega)];simp);rw[e]
                have e3:vD p (i:Int)=bh p.ts[i]:=(by simp[vD,fU]);simp[p1,p2,hs,hi,e3,w,hcut,cnt,hj,w2]
        . simp[ p1,p2,p3,D2,h1,h2,PI];refine z0 (P:=λj=>∀m,j [.ptr q1 0,.ptr q3 0,.int .i64 m] s=some (.int .i64 (zj k r m),s)) ?_ ?_
          . intro m;unfold zj;cases hn:k.n with
            |false=>simp[p1,hn]
            | true=>
              by_cases e1:r.n<k.lo
              .simp[p1,p3,hn,e1]
              . by_cases e2:m<r.n
                .simp[p1,p3,hn,e1,e2]
                .simp[p1,p3,hn,e1,e2]
          . intro j hj;cases hs:k.ug with
            |false=>simp[p1,hs,hj]
            | true=>
              have w:au .i64 ((i:Int)+1)=(i:Int)+1:=(by have:=hp.ts;exact wrap64 (by omega) (by omega));have cnt:=CJ hc false [p.ts[i]] (λt ht=>by simp only[Zc9]at ht;subst ht;exact hp.ok _ (Zc6 fU)) s hw3;rw[Za4 (Iq (Dx hv i fU)),show aO [p.ts[i]]=bh p.ts[i]by simp[aO]]at cnt;have b:=tI p.ts[i];have w2:au .i64 (bh p.ts[i] - 1)=bh p.ts[i] - 1:=wrap64 (by omega) (by omega);have hcut:∀K:AV->St->Option (AV×St),ai c (.sliceL 7 true true false) [tabs p.tz p.ts,.int .i64 (i:Int),.int .i64 ((i:Int)+1)] s K=K (tabs false [p.ts[i]]) s:=λK=>by
                (unfold tabs;have:=Mw c K s 7 p.tz (p.ts.map aG.cells) .i64 .i64 i (i+1) (by omega) (by rw[Zb3];omega);rw[show((i:Int)+1)=((i+1:Nat):Int)by omega,this];have e:((p.ts.map aG.cells).take (i+1)).drop i=[p.ts[i]].map aG.cells:=by rw[Zc2 (by simpa using fU),Zh0 (by simp;omega)];simp);rw[e]
              have e3:vD p (i:Int)=bh p.ts[i]:=(by simp[vD,fU]);simp[p1,p2,hs,hi,e3,w,hcut,cnt,hj,w2]
   . have PI  : ti p r.t<0:=(by omega);simp only[ht,Ze1,Zq0]at D2;by_cases h1:k.t=116
     .  simp[p1,p2,p3,D2,h1,PI]
     .  by_cases h2:k.t=101
        . by_cases h3:r.t=[]
          . simp only[h3]at D2 PI;simp[p1,p2,p3,D2,h1,h2,h3,PI];refine z0 (P:=λj=>∀m,j [.ptr q1 0,.ptr q3 0,.int .i64 m] s=some (.int .i64 (zj k r m),s)) ?_ ?_
            . intro m;unfold zj;cases hn:k.n with
              |false=>simp[p1,hn]
              | true=>
                by_cases e1:r.n<k.lo
                .simp[p1,p3,hn,e1]
                . by_cases e2:m<r.n
                  .simp[p1,p3,hn,e1,e2]
                  .simp[p1,p3,hn,e1,e2]
            . intro j hj;have hs:k.ug=false:=by
                cases h:k.ug with
                |false=>rfl
                |true=>exact absurd (hk h) h1
              simp[p1,hs,hj]
          .simp[p1,p2,p3,D2,h1,h2,h3,PI]
        . simp[ p1,p2,p3,D2,h1,h2,PI];refine z0 (P:=λj=>∀m,j [.ptr q1 0,.ptr q3 0,.int .i64 m] s=some (.int .i64 (zj k r m),s)) ?_ ?_
          . intro m;unfold zj;cases hn:k.n with
            |false=>simp[p1,hn]
            | true=>
              by_cases e1:r.n<k.lo
              .simp[p1,p3,hn,e1]
              . by_cases e2:m<r.n
                .simp[p1,p3,hn,e1,e2]
                .simp[p1,p3,hn,e1,e2]
          . intro j hj;have hs:k.ug=false:=by
              cases h:k.ug with
              |false=>rfl
              |true=>exact absurd (hk h) h1
            simp[p1,hs,hj]
 . intro  j hj;have A2:∀nm,c 150 [.agg p.cells,.str nm] s=some (.int .i64 (gi p nm),s):=A;have cc:cut r.cells 0 6=some r.cells:=bJ rfl;clear A D hg zI hg3 hw cw cZ;unfold Je;by_cases h0:k.w=[]
   .simp[p1,h0]
   by_cases h1:r.wt<0
   .simp[p1,p3,h0,h1]
   by_cases h2:1000<r.wt
   .simp[p1,p3,h0,h1,h2]
   cases h3:Dw k r with
   |false=>simp[p1,p3,h0,h1,h2,B,h3]
   |true=>
   simp[p1,p3,h0,h1,h2,B,h3];refine z0 (P:=λj'=>∀b:Bool,j' [.ptr q1 0,.ptr q2 0,.ptr q3 0,.bool b] s=some (.int .i64 (if b=true then 6 else aaA k p r),s)) ?_ ?_
   . intro  b;cases b with
     |true=>simp
     |  false =>
        unfold aaA;by_cases a1:k.a=100
        . cases a2:e9 r.a with
          |false=>simp[p1,p3,a1,a2,N]
          | true=>
            cases b1:k.b with
            |false=>simp[p1,p3,a1,a2,N,b1,hj]
            | true=>
              by_cases b2:r.a=r.b
              .rw[b2]at a2 N;simp[p1,p3,a1,a2,N,b1,b2]
              .simp[p1,p3,a1,a2,N,b1,b2,hj]
        . cases b1:k.b with
          |false=>simp[p1,p3,a1,b1,hj]
          | true=>
            by_cases b2:r.a=r.b
            .simp[p1,p3,a1,b1,b2]
            .simp[p1,p3,a1,b1,b2,hj]
   . intro  j' Ei;have K6:=Ei true;have K0:=Ei false;simp only[Zf9,Zd4,Ze1]at K6 K0;clear Ei hj;by_cases a1:k.a=103
     .  by_cases g1:gi p r.a<0
        .simp[p1,p2,p3,a1,A2,g1,K6]
        . cases b1:k.b with
          |false=>simp[p1,p2,p3,a1,A2,g1,b1,K0]
          | true=>
            by_cases g2:gi p r.b<0
            .simp[p1,p2,p3,a1,A2,g1,g2,b1,K6]
            .simp[p1,p2,p3,a1,A2,g1,g2,b1,K0]
     .  by_cases a2:k.a=101
        . by_cases e:r.a=[]
          . cases b1:k.b with
            |false=>simp[p1,p2,p3,a1,a2,e,A2,b1,K0]
            | true=>
              by_cases g2:gi p r.b<0
              .simp[p1,p2,p3,a1,a2,e,A2,g2,b1,K6]
              .simp[p1,p2,p3,a1,a2,e,A2,g2,b1,K0]
          . by_cases g1:gi p r.a<0
            .simp[p1,p2,p3,a1,a2,e,A2,g1,K6]
            . cases b1:k.b with
              |false=>simp[p1,p2,p3,a1,a2,e,A2,g1,b1,K0]
              | true=>
                by_cases g2:gi p r.b<0
                .simp[p1,p2,p3,a1,a2,e,A2,g1,g2,b1,K6]
                .simp[p1,p2,p3,a1,a2,e,A2,g1,g2,b1,K0]
        . cases b1:k.b with
          |false=>simp[p1,p2,p3,a1,a2,A2,b1,K0]
          | true=>
            by_cases g2:gi p r.b<0
            .simp[p1,p2,p3,a1,a2,A2,g2,b1,K6]
            .simp[p1,p2,p3,a1,a2,A2,g2,b1,K0]
def kd:Nat->Kd
 |1=>⟨[97,112,97,114,116],103,true,0,true,0,false,.func 131 [] []⟩
 |2=>⟨[98,101,115,105,100,101],103,true,0,false,0,false,.func 132 [] []⟩
 |3=>⟨[97,99,114,111,115,115],103,true,0,false,0,false,.func 133 [] []⟩
 |4=>⟨[110,101,97,114],103,true,0,true,1,false,.func 134 [] []⟩
 |5=>⟨[116,111,103,101,116,104,101,114],103,true,0,false,0,false,.func 135 [] []⟩
 |6=>⟨[97,116],103,false,116,false,0,false,.func 136 [] []⟩
 |7=>⟨[115,101,97,116],103,false,116,true,0,true,.func 137 [] []⟩
 |8=>⟨[97,108,116,101,114,110,97,116,101],0,false,101,false,0,false,.func 138 [] []⟩
 |9=>⟨[104,111,115,116],0,false,101,false,0,false,.func 139 [] []⟩
 |10=>⟨[114,101,97,99,104],101,false,0,false,0,false,.func 140 [] []⟩
 |11=>⟨[115,112,101,97,107],0,false,101,false,0,false,.func 141 [] []⟩
 |12=>⟨[112,101,97,99,101],0,false,101,false,0,false,.func 142 [] []⟩
 |13=>⟨[99,111,109,112,97,110,121],0,false,101,false,0,false,.func 143 [] []⟩
 |14=>⟨[104,111,110,111,117,114],0,false,101,false,0,false,.func 144 [] []⟩
 |15=>⟨[102,105,108,108],0,false,101,true,0,false,.func 145 [] []⟩
 |16=>⟨[108,105,109,105,116],0,false,101,true,0,false,.func 146 [] []⟩
 |17=>⟨[107,105,116,99,104,101,110],100,false,116,false,0,false,.func 147 [] []⟩
 |18=>⟨[109,105,120],0,false,101,false,0,false,.func 148 [] []⟩
 |_=>⟨[],0,false,0,false,0,false,.jR⟩
def Xr:List (AV×AV×Nat):=[(.int .u8 1,.agg (kd 1).cells,0),(.int .u8 2,.agg (kd 2).cells,1),(.int .u8 3,.agg (kd 3).cells,2),(.int .u8 4,.agg (kd 4).cells,3),(.int .u8 5,.agg (kd 5).cells,4),(.int .u8 6,.agg (kd 6).cells,5),(.int .u8 7,.agg (kd 7).cells,6),(.int .u8 8,.agg (kd 8).cells,7),(.int .u8 9,.agg (kd 9).cells,8),(.int .u8 10,.agg (kd 10).cells,9),(.int .u8 11,.agg (kd 11).cells,10),(.int .u8 12,.agg (kd 12).cells,11),(.int .u8 13,.agg (kd 13).cells,12),(.int .u8 14,.agg (kd 14).cells,13),(.int .u8 15,.agg (kd 15).cells,14),(.int .u8 16,.agg (kd 16).cells,15),(.int .u8 17,.agg (kd 17).cells,16),(.int .u8 18,.agg (kd 18).cells,17)]
theorem Yb(p:Pos):¬Plain (.map p):=λh=>by have:=h (λ_=>(⟨0,0,0⟩:Go.Ai.Loc)) (λ_=>⟨1,0,0⟩) (p.toNat+1) (p.toNat+1) (λ_=>none) _ (.map p (Nat.lt_succ_self _));cases this
theorem ag7(st:St)(p:Pos)(s':St):tidy st (.map p,s')=(.map p,s'):=by unfold tidy;rw[Za2];exact λe=>Yb p e.1
theorem dU{R:Type}(c:ah)(K:AV->St->Option R)(st:St)(z:List AV)(ps:List (Nat×Nat))(xs l:List AV)(h:cI z ps xs=some l):ai c (.build z ps) xs st K=K (.agg l) st:=by rw[aex,h];rfl
theorem dV{R:Type}(c:ah)(K:AV->St->Option R)(st:St)(es:List (AV×AV×Nat))(cl:Nat)(k:IntKind)(x:Int)(v:AV)(hf:jU .i (.int k x) es 0=some none):
  ai c (.mapSet .i) [.map st.next,.int k x,v] (af st (.map es cl)) K=K .undef (af st (.map (es++[(.int k x,v,cl)]) (cl+1))):=by
 have:ax.run (λb=>(af st (.map es cl)).heap.get b) (af st (.map es cl)).next (.mapSet .i) [.map st.next,.int k x,v]=some (.aI .undef none (some (st.next,.map (es++[(.int k x,v,cl)]) (cl+1))) none):=by
  simp[ax.run,zw,hf,acv]
 unfold ai bY;rw[this];show K .undef (cR (af st (.map es cl)) st.next _)=_;rw[JW]
theorem ag8(hc:Sem c)(s:St):c 84 [] s=some (.map s.next,af s (.map Xr 18)):=by
 rw[VJ hc 1 (r:=(.map s.next,af s (.map Xr 18))),ag7];rw[Z7];rw[aj,aeC];rw[dU (l:=(kd 1).cells) (h:=rfl),dV (hf:=rfl)];rw[dU (l:=(kd 2).cells) (h:=rfl),dV (hf:=rfl)];rw[dU (l:=(kd 3).cells) (h:=rfl),dV (hf:=rfl)];rw[dU (l:=(kd 4).cells) (h:=rfl),dV (hf:=rfl)];rw[dU (l:=(kd 5).cells) (h:=rfl),dV (hf:=rfl)];rw[dU (l:=(kd 6).cells) (h:=rfl),dV (hf:=rfl)];rw[dU (l:=(kd 7).cells) (h:=rfl),dV (hf:=rfl)];rw[dU (l:=(kd 8).cells) (h:=rfl),dV (hf:=rfl)];rw[dU (l:=(kd 9).cells) (h:=rfl),dV (hf:=rfl)];rw[dU (l:=(kd 10).cells) (h:=rfl),dV (hf:=rfl)];rw[dU (l:=(kd 11).cells) (h:=rfl),dV (hf:=rfl)];rw[dU (l:=(kd 12).cells) (h:=rfl),dV (hf:=rfl)];rw[dU (l:=(kd 13).cells) (h:=rfl),dV (hf:=rfl)];rw[dU (l:=(kd 14).cells) (h:=rfl),dV (hf:=rfl)];rw[dU (l:=(kd 15).cells) (h:=rfl),dV (hf:=rfl)];rw[dU (l:=(kd 16).cells) (h:=rfl),dV (hf:=rfl)];rw[dU (l:=(kd 17).cells) (h:=rfl),dV (hf:=rfl)];rw[dU (l:=(kd 18).cells) (h:=rfl),dV (hf:=rfl)];rw[aj,aj]
 .rfl
theorem aiU{R:Type}(c:ah)(K:AV->St->Option R)(st:St)(m:Pos)(cl:Nat)(h:st.heap.get m=some (.map Xr cl))(n:Nat):
   ai c (.lookup .i (.agg [.str [],.int .u8 0,.bool false,.int .u8 0,.bool false,.int .i64 0,.bool false,.jR]) false) [.map m,.int .u8 (n:Int)] st K=K (.agg (kd n).cells) st:=by
 have e:jU .i (.int .u8 (n:Int)) Xr 0=some (if 1<=n/\n<=18 then some (n - 1,.agg (kd n).cells)else none):=by
   by_cases h:n<=18
   .have:n=0\/n=1\/n=2\/n=3\/n=4\/n=5\/n=6\/n=7\/n=8\/n=9\/n=10\/n=11\/n=12\/n=13\/n=14\/n=15\/n=16\/n=17\/n=18:=(by omega);rcases this with rfl|rfl|rfl|rfl|rfl|rfl|rfl|rfl|rfl|rfl|rfl|rfl|rfl|rfl|rfl|rfl|rfl|rfl|rfl<;>rfl
   . have hn2:∀j:Int,j<=18->yK (n:Int) j=false:=λj hj=>by rw[mU];simp;omega
     rw[Za2 (by omega)];simp[Xr,jU,yW,hn2,cV]
 have:∀z:AV,ax.run (λb=>st.heap.get b) st.next (.lookup .i z false) [.map m,.int .u8 (n:Int)]=some (.val (if 1<=n/\n<=18 then .agg (kd n).cells else z)):=λz=>by
   simp only[ax.run,zu,h,e];by_cases h1:1<=n/\n<=18
   .rw[Za4 h1,Za4 h1]
   .rw[Za2 h1,Za2 h1]
 unfold ai bY;rw[this];by_cases h1:1<=n/\n<=18
 .rw[Za4 h1]
 .rw[Za2 h1];have:kd n=⟨[],0,false,0,false,0,false,.jR⟩:=(by unfold kd;split<;>first|rfl|omega);rw[this];rfl
theorem aiV(n:Nat):(kd n).ug=true->(kd n).t=116:=by unfold kd;split<;>simp
def Rl.Ok(r:Rl):Prop:=0<=r.k/\r.k<256
def yS(p:aR)(r:Rl):Int:=Je (kd r.k.toNat) p r
def fN(p:aR):Nat->Nat->Int×Int
 |0,_=>(0,0)
 |  m+1,i=>match p.rs[i]? with
    |none=>(0,0)
    |some r=>if yS p r≠0 then((i:Int),yS p r)else if i=64 then((i:Int),7)else fN p m (i+1)
theorem Jf(p:aR):∀(m i:Nat),(fN p m i).2=0->(fN p m i).1=0
 |0,_,_=>rfl
 |m+    1,i,h=>by
  rw[fN]at h ⊢;cases h0:p.rs[i]? with
  |none=>rfl
  |some r=>
   rw[h0]at h;simp only at h ⊢;by_cases h1:yS p r=0
   .    rw[Za2 (by simp[h1])]at h ⊢;by_cases h2:i=64
        .rw[Za4 h2]at h;simp at h
        .rw[Za2 h2]at h ⊢; exact Jf p m (i+1) h
   .    rw[Za4 h1]at h;exact absurd h h1
def bI(p:aR):Int×Int:=if(fM p).2≠0 then fM p else fN p 100 0
theorem adt(hc:Sem c)(p:aR)(hp:p.ic)(hr:∀r∈p.rs,r.Ok)(hv:(bA p.ts).2=0)(q1 mp:Pos)(cl:Nat)(F:Nat)(k1 k2):∀(m k:Nat)(st:St),Wf st->st.heap.get q1=some (.cells p.cells 0)->st.heap.get mp=some (.map Xr cl)->p.rs.length<=k+m->k<=p.rs.length->
  ∃st',Grew st st'/\tD c F k1 k2 (m+1) [.ptr q1 0,.map mp,jD p.rz p.rs,.int .i64 (p.rs.length:Int),.int .i64 (k:Int)] st=if(fN p m k).2=0 then k2 [] st' else k1 [.int .i64 (fN p m k).1,.int .i64 (fN p m k).2] st':=by
 have hl:=hp.rs;intro m;induction m with
 |zero=>
  intro k st hw h1 h2 h3 h4;obtain rfl:k=p.rs.length:=by omega
  refine⟨st,Grew.refl hw,?_⟩;rw[A0];simp[fN]
 |succ m ih=>
  intro k st hw hq hm h3 h4;by_cases h:k<p.rs.length
  . have w:au .i64 ((k:Int)+1)=((k+1:Nat):Int):=wrap64 (by omega) (by omega);have cw:Wf (af st (.cells p.rs[k].cells 0)):=bM hw;have hg:=Grew.af hw (.cells p.rs[k].cells 0);have hq1:=hg.get hq;have j7:=hg.get hm;have hn:=aC st (.cells p.rs[k].cells 0);obtain⟨n,hk⟩:∃n:Nat,p.rs[k].k=(n:Int):=⟨p.rs[k].k.toNat,by have:=(hr _ (Zc6 h)).1;omega⟩
    have Og:=ae3 hc (kd n) (aiV n) p hp hv p.rs[k] _ cw;have hS:yS p p.rs[k]=Je (kd n) p p.rs[k]:=(by unfold yS;rw[hk];rfl);have Lo:=λ(K:AV->St->Option (AV×St))=>aiU c K _ mp cl j7 n
    have q8:=λ(K:AV->St->Option (AV×St))=>kj c K st 6 (.agg p.rs[k].cells) [.int .u8 0,.int .i64 0,.str [],.str [],.str [],.int .i64 0] rfl rfl (Rl.one _)
    rw[show(AV.agg p.rs[k].cells).cells=p.rs[k].cells from rfl]at q8;rw[<-hS]at Og;rw[<-hk]at Lo;obtain⟨st',g1,g2⟩:=ih (k+1) _ cw hq1 j7 (by omega) (by omega);rw[A0,fN,H1 h];simp only;by_cases h5:yS p p.rs[k]=0
    .   rw[Za2 (by simp[h5])];by_cases h6:k=64
        .refine⟨_,hg,?_⟩;rw[Za4 h6];have h6i:decide ((k:Int)=64)=true:=(by simp only[Zd3];omega);simp[-kj,q8,jD,h,hq1,j7,Lo,Og,h5,h6i]
        .refine⟨st',hg.trans g1,?_⟩;rw[Za2 h6, <-g2];have h6i:¬(k:Int)=64:=(by omega);simp[-kj,q8,jD,h,hq1,j7,Lo,Og,h5,h6i,w]
    .   refine⟨_,hg,?_⟩;rw[Za4 h5];simp[-kj,q8,jD,h,hq1,j7,Lo,Og,h5]
  .obtain rfl:k=p.rs.length:=(by omega);refine⟨st,Grew.refl hw,?_⟩;rw[A0];simp[fN]
theorem RZ{p:aR}(h:(fM p).2=0):(bA p.ts).2=0:=by
 unfold fM at h;by_cases h1:(bA p.ts).2=0
 .exact h1
 .rw[Za4 h1]at h;exact absurd h h1
theorem Yc(hc:Sem c)(p:aR)(hp:p.ic)(hR:PG c p)(hr:∀r∈p.rs,r.Ok)(st:St)(hw:Wf st):c 45 [.agg p.cells] st=some (.tuple [.int .i64 (bI p).1,.int .i64 (bI p).2],st):=by
 have mH:Plain (.tuple [.int .i64 (bI p).1,.int .i64 (bI p).2]):=Plain.tuple (by simp[Plain.int]);have cw:Wf (af st (.cells p.cells 0)):=bM hw;have Im:=Grew.af hw (.cells p.cells 0);have eG:(af st (.cells p.cells 0)).heap.get st.next=some (.cells p.cells 0):=aC _ _;have B:=ag5 hc p hp hR _ cw;by_cases h:(fM p).2=0
 . have hv:=RZ h;have K:=ag8 hc (af st (.cells p.cells 0));have cZ:Wf (af (af st (.cells p.cells 0)) (.map Xr 18)):=bM cw;have zI:=Grew.af cw (.map Xr 18);obtain⟨st',g1,g2⟩:=adt hc p hp hr hv st.next (af st (.cells p.cells 0)).next 18 101 (λvs s50=>eV vs λx2 vs=>eV vs λx3 vs=>gP vs (
   some (.tuple [x2,x3],s50))) (λvs s51=>gP vs (
   ai c .move [(.int .i64 0)] s51 λx2 s52=>
 ai c .move [(.int .i64 0)] s52 λx3 s53=>
 some (.tuple [x2,x3],s53))) 100 0 _ cZ (zI.get eG) (aC _ _) (by have:=hp.rs;omega) (by omega)
   have e:bI p=fN p 100 0:=(by unfold bI;rw[Za2 (by simp[h])]);have e0:=abu h;rw[Ke hc 101 (r:=(.tuple [.int .i64 (bI p).1,.int .i64 (bI p).2],st')),ak mH ((Im.trans zI).trans g1).keeps];rw[OX,e];simp at g2;simp[eG,B,h,K,g2];by_cases h2:(fN p 100 0).2=0
   .have:=Jf p 100 0 h2;simp[h2,this]
   .simp[h2]
 .have e:bI p=fM p:=(by unfold bI;rw[Za4 h]);rw[Ke hc 101 (r:=(.tuple [.int .i64 (bI p).1,.int .i64 (bI p).2],af st (.cells p.cells 0))),ak mH Im.keeps];rw[OX,e];simp[eG,B,h]
def lH(k:Int):Bool:=decide (k=1)||decide (k=2)||decide (k=3)||decide (k=4)||decide (k=5)
theorem Ko(hc:Sem c)(k:Int)(st:St):c 235 [.int .u8 k] st=some (.bool (lH k),st):=by
 rw[Md hc 1 (r:=(.bool (lH k),st)),ak (Plain.bool _) (aM.refl st)];rw[Pm];unfold lH;by_cases e0:k=1
 .simp[e0]
 by_cases e1:k=2
 .simp[e0,e1]
 by_cases e2:k=3
 .simp[e0,e1,e2]
 by_cases e3:k=4
 .simp[e0,e1,e2,e3]
 by_cases e4:k=5
 .simp[e0,e1,e2,e3,e4]
 simp[e0,e1,e2,e3,e4]
def xM(k:Int):Bool:=decide (k=6)||decide (k=7)||decide (k=10)
theorem ae4(hc:Sem c)(k:Int)(st:St):c 236 [.int .u8 k] st=some (.bool (xM k),st):=by
 rw[Me hc 1 (r:=(.bool (xM k),st)),ak (Plain.bool _) (aM.refl st)];rw[Pn];unfold xM;by_cases e0:k=6
 .simp[e0]
 by_cases e1:k=7
 .simp[e0,e1]
 by_cases e2:k=10
 .simp[e0,e1,e2]
 simp[e0,e1,e2]
def PJ(k:Int):Bool:=decide (k=1)||decide (k=4)||decide (k=7)||decide (k=15)||decide (k=16)
theorem Xs(hc:Sem c)(k:Int)(st:St):c 238 [.int .u8 k] st=some (.bool (PJ k),st):=by
 rw[Hh hc 1 (r:=(.bool (PJ k),st)),ak (Plain.bool _) (aM.refl st)];rw[J8];unfold PJ;by_cases e0:k=1
 .simp[e0]
 by_cases e1:k=4
 .simp[e0,e1]
 by_cases e2:k=7
 .simp[e0,e1,e2]
 by_cases e3:k=15
 .simp[e0,e1,e2,e3]
 by_cases e4:k=16
 .simp[e0,e1,e2,e3,e4]
 simp[e0,e1,e2,e3,e4]
def sv(k:Int):Int:=if lH k=true\/k=10 then 0 else if k=6\/k=7\/k=17 then 1 else 2
theorem Xt(hc:Sem c)(k:Int)(st:St):c 237 [.int .u8 k] st=some (.int .i64 (sv k),st):=by
 rw[Hg hc 1 (r:=(.int .i64 (sv k),st)),ak (Plain.int _ _) (aM.refl st)];rw[J7];have t:=Ko hc k st;unfold sv;cases h:lH k with
 |true=>simp[t,h]
 |false=>
  by_cases e1:k=10
  .rw[e1]at t h;simp[t,h,e1]
  by_cases e2:k=6
  .rw[e2]at t h;simp[t,h,e2]
  by_cases e3:k=7
  .rw[e3]at t h;simp[t,h,e3]
  by_cases e4:k=17
  .rw[e4]at t h;simp[t,h,e4]
  simp[t,h,e1,e2,e3,e4]
def wl:List AV:=(List.range 19).map λi=>.str (kd i).w
theorem aaB{R:Type}(c:ah)(K:AV->St->Option R)(st:St)(es len:Nat)(z:List AV)(ps:List Nat)(xs l:List AV)(h:cI (bZ z len) (ps.map λi=>(i*es,es)) xs=some l):
  ai c (.buildSlice es len z ps) xs st K=K (.slice st.next 0 len (some len) es) (af st (.cells l 0)):=by
 rw[eo,h];rfl
theorem ajQ(n:Nat)(h:n<19):wl[n]? =some (.str (kd n).w):=by simp[wl,h]
theorem aiW(hc:Sem c)(n:Nat)(hn:n<256)(st:St)(hw:Wf st):c 234 [.int .u8 (n:Int)] st=some (.str (kd n).w,st):=by
 have w:au .i64 (n:Int)=(n:Int):=wrap64 (by omega) (by omega);rw[Kh hc 1 (r:=(.str (kd n).w,af st (.cells wl 0))),ak (Plain.str _) (bK hw)];rw[NN];rw[aj,aaB (l:=wl) (h:=rfl)];have hlen:∀(K:AV->St->Option (AV×St))(s:St),ai c (.lenB .l) [.slice st.next 0 19 (some 19) 1] s K=K (.int .i64 19) s:=λK s=>aP c K (λH n=>rfl) s
 by_cases h:19<=n
 .have e:(kd n).w=[]:=(by unfold kd;split<;>first|rfl|omega);have hi:(19:Int)<=(n:Int):=(by omega);simp[w,h,hi,e,hlen]
 . have hi:¬(19:Int)<=(n:Int):=(by omega);have h':n<19:=(by omega);have hidx:∀(K:AV->St->Option (AV×St))(s:St),ai c (.idxA 1 none) [.slice st.next 0 19 (some 19) 1,.int .u8 (n:Int)] s K=K (.ptr st.next n) s:=λK s=>aP c K (λH m=>by
    simp[ax.run,mK,eM,EW,h']) s
   simp[w,h,hi,h',ajQ,hlen,hidx]
theorem aaC(z:Bool)(ts:List aG)(s:List Nat)(hl:ts.length<=100)(F:Nat)(st:St)(k1 k2):∀(m k:Nat),ts.length<=k+m->k<=ts.length->
  fW c F k1 k2 (m+1) [tabs z ts,.str s,.int .i64 (k:Int)] st=if 0<=scan (iX ts s) (ts.length - k) k then k1 [.int .i64 (scan (iX ts s) (ts.length - k) k)] st else k2 [] st:=by
 intro m;induction m with
 |zero=>
  intro k h1 h2;obtain rfl:k=ts.length:=by omega
  rw[uK];simp[scan]
 |succ m ih=>
  intro k h1 h2;rw[uK];by_cases h:k<ts.length
  . have e:ts.length - k=(ts.length - (k+1))+1:=(by omega);have w:au .i64 ((k:Int)+1)=((k+1:Nat):Int):=wrap64 (by omega) (by omega);rw[e,scan];by_cases hb:ts[k].name=s
    .   have l6:iX ts s k=true:=(by simp[iX,h,hb]);rw[l6];simp[tabs,h,hb]
    .   have l6:iX ts s k=false:=(by simp[iX,h,hb]);rw[l6];simp only[Zd4,Ze1];rw[<-ih (k+1) (by omega) (by omega)];simp[tabs,h,hb,w]
  .obtain rfl:k=ts.length:=(by omega);simp[scan]
theorem adu(hc:Sem c)(z:Bool)(ts:List aG)(s:List Nat)(hl:ts.length<=100)(st:St):c 241 [tabs z ts,.str s] st=some (.int .i64 (scan (iX ts s) ts.length 0),st):=by
 rw[Gt hc 101 (r:=(.int .i64 (scan (iX ts s) ts.length 0),st)),ak (Plain.int _ _) (aM.refl st)];rw[I3];have L:∀k1 k2,fW c 101 k1 k2 101 [tabs z ts,.str s,.int .i64 0] st=if 0<=scan (iX ts s) ts.length 0 then k1 [.int .i64 (scan (iX ts s) ts.length 0)] st else k2 [] st:=
   λk1 k2=>aaC z ts s hl 101 st k1 k2 100 0 (by omega) (by omega)
 have g:=Kk (iX ts s) ts.length 0;by_cases h:0<=scan (iX ts s) ts.length 0
 .simp only[h,Zf9]at L;simp[L]
 .simp only[h,Ze1]at L;have:=g.2 (by omega);simp[L,this]
end
end Go.Proofs.YtgjikjcfjddloaaGreatDoor
