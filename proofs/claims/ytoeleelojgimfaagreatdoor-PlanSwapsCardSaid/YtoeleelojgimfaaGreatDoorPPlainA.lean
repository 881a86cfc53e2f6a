/- Functions, plainly. -/
import Derived.Test.YtoeleelojgimfaaGreatDoorPAwake
set_option linter.all false
set_option maxRecDepth 100000
set_option maxHeartbeats 4000000
namespace Go.Proofs.YtoeleelojgimfaaGreatDoor
noncomputable section
open Go Go.Ai Go.Proofs
def Eg:dR:=ud [(238,Fz),(15,HU)]
def Sem(c:ai):Prop:=c=run Eg gg
def gA(f:Nat):b7:=pN gg f
abbrev PX(f:Nat)(s:Sh):={a:Tx // txF (gA f) s=a}
abbrev PL(f:Nat)(s:Sh)(i:Nat):={a:List Pos×Tx // txL (eV (gA f) s i)=a}
theorem Sem.o0{c:ai}(hc:Sem c)(F:Nat){f:FuncId}{args:List AV}{st:St}{r:AV×St}(s:Sh)(hk:(qR (Eg f)&& !qR (gg.get (key f))&&(dP (gA f).code s).isEmpty)=true)
  {k:O2} (hd:xP c F (Ph []) (gA f) s args st=k) (h:k=some r):c f args st=some (tidy st r):=by
 subst hc;exact Tv s hk hd h
theorem Sem.o1{c:ai}(hc:Sem c)(F:Nat){f:FuncId}{args:List AV}{st:St}{r:AV×St}(Ls:Un->List Q2->Nat->Q2)(s:Sh)(hk:(qR (Eg f)&& !qR (gg.get (key f))&&Nat.beq (dP (gA f).code s).length 1)=true)
  (hs:(Mg (eV (gA f) s 0).2&&Nat.beq (WQ (eV (gA f) s 0).2) 0)=true) (h0:∀K' vs st,mC Ls (gA f) s 0 K' 0 vs st=none)
  (h1:∀K' n vs st,mC Ls (gA f) s 0 K' (n+1) vs st=Cs (den c F (mC Ls (gA f) s) (eV (gA f) s 0).1 (lpB (eV (gA f) s 0).2)) (lpI (eV (gA f) s 0).2) (WS (eV (gA f) s 0).2) K' (mC Ls (gA f) s 0 K' n) vs st)
  {k:O2} (hd:xP c F (mC Ls (gA f) s) (gA f) s args st=k) (h:k=some r):c f args st=some (tidy st r):=by
 subst hc;exact Tw Ls s hk hs h0 h1 hd h
theorem Sem.oL{c:ai}(hc:Sem c)(F:Nat){f:FuncId}{args:List AV}{st:St}{r:AV×St}(Ls:Un->List Q2->Nat->Q2)(s:Sh)(n:Nat)(hk:(qR (Eg f)&& !qR (gg.get (key f))&&Nat.beq (dP (gA f).code s).length n)=true)
  (hL:∀i,i<n->uw c F (mC Ls (gA f) s) (eV (gA f) s i).1 (eV (gA f) s i).2) {k:O2} (hd:xP c F (mC Ls (gA f) s) (gA f) s args st=k) (h:k=some r):c f args st=some (tidy st r):=by
 subst hc;exact MC Ls s n hk hL hd h
end
noncomputable section
open Go Go.Ai Go.Proofs
attribute [local go_sem ↓] b6 HX ev evX zN getLT Bd QW Tu yR yS Mo QX QY QZ Mp Mr Ms Mt Mu Mw Q0 Q1 Mx My Mz MA MB UQ UR US
attribute [local go_sem] b6 HX ev
section
variable(c:ai)(F:Nat)(x0 x1 x2 x3 x4 x5 x6 x7 x8 x9 XB XC:AV)(s:St)
def He:Sh:=(sq sl (sq (sq sl (sc (sq sl sl) sl)) (sq sl sl)))
def Hf:PX 30 He:=⟨_,by conv=>lhs;reduce⟩
def Ev:O2:=b6 c F cg Hf.1 [x0] s
def RD:=(by dsimp only[Ev,Hf,go_sem,Int.reduceOfNat]:Ev c F x0 s=_)
def Ak:Sh:=(sq sl (sq (sq sl (sc (sq sl sl) sl)) (sq sl (sq (sq sl (sb (sp 0 [5,23,24,25] [(2,[5])] (sq sl (sq (sc sl sl) (sq (sb (sq sl sl)) sl)))))) (sq sl sl)))))
def Hg:PX 41 Ak:=⟨_,by conv=>lhs;reduce⟩
def E7:PL 41 Ak 0:=⟨_,by conv=>lhs;reduce⟩
def oO(k2:Q2):Nat->Q2
 |0,_,_=>none
 |n+1,vs,s=>j8 c F cg (oO k2 n) [k2] E7.1 vs s
def uK(k2:Q2)(n:Nat)(vs:List AV)(s:St):=(by dsimp only[oO,E7,go_sem,Int.reduceOfNat]:oO c F k2 (n+1) vs s=_)
def Al:Un->List Q2->Nat->Q2
 |.z,[k2]=>oO c F k2
 |_,_=>λ_=>lW
def Ew:O2:=b6 c F (Al c F) Hg.1 [x0,x1] s
def GH:=(by dsimp only[Ew,Hg, ↓Al,go_sem,Int.reduceOfNat]:Ew c F x0 x1 s=_)
def Hh:Sh:=(sq sl (sq sl (sq sl sl)))
def Hi:PX 47 Hh:=⟨_,by conv=>lhs;reduce⟩
def Ex:O2:=b6 c F cg Hi.1 [x0] s
def RB:=(by dsimp only[Ex,Hi,go_sem,Int.reduceOfNat]:Ex c F x0 s=_)
def Bq:Sh:=(sq sl (sq (sq sl (sc (sq sl sl) sl)) (sq sl sl)))
def Br:PX 48 Bq:=⟨_,by conv=>lhs;reduce⟩
def xX:O2:=b6 c F cg Br.1 [x0] s
def LF:=(by dsimp only[xX,Br,go_sem,Int.reduceOfNat]:xX c F x0 s=_)
def Am:Sh:=(sq sl (sq (sq sl (sq sl (sc (sq sl sl) sl))) (sq sl (sq (sq sl (sb (sp 0 [1,6,21,22,23] [(1,[2,3]),(2,[])] (sq sl (sq (sc sl sl) (sq (sb (sq sl (sq (sq sl (sq sl (sc (sq sl sl) sl))) (sq sl (sc (sq sl sl) sl))))) sl)))))) (sq sl sl)))))
def Hj:PX 49 Am:=⟨_,by conv=>lhs;reduce⟩
def E8:PL 49 Am 0:=⟨_,by conv=>lhs;reduce⟩
def oP(k1 k2:Q2):Nat->Q2
 |0,_,_=>none
 |n+1,vs,s=>j8 c F cg (oP k1 k2 n) [k1,k2] E8.1 vs s
def uO(k1 k2:Q2)(n:Nat)(vs:List AV)(s:St):=(by dsimp only[oP,E8,go_sem,Int.reduceOfNat]:oP c F k1 k2 (n+1) vs s=_)
def An:Un->List Q2->Nat->Q2
 |.z,[k1,k2]=>oP c F k1 k2
 |_,_=>λ_=>lW
def Ey:O2:=b6 c F (An c F) Hj.1 [x0] s
def GO:=(by dsimp only[Ey,Hj, ↓An,go_sem,Int.reduceOfNat]:Ey c F x0 s=_)
def I4:Sh:=(sq sl (sq sl (sq (sq sl (sc (sq sl sl) sl)) (sq sl sl))))
def I5:PX 63 I4:=⟨_,by conv=>lhs;reduce⟩
def Hl:O2:=b6 c F cg I5.1 [x0] s
def Sv:=(by dsimp only[Hl,I5,go_sem,Int.reduceOfNat]:Hl c F x0 s=_)
def Ao:Sh:=(sq sl (sq sl (sq sl (sq (sb (sq sl (sc (sq sl sl) (sq sl (sc (sq sl sl) sl))))) (sq (sq sl (sb (sp 0 [1,3,4,18,19,20] [(1,[2]),(3,[1])] (sq sl (sq (sc sl sl) (sq (sb (sq sl (sq (sq sl (sc (sq sl sl) sl)) sl))) sl)))))) (sq (sq sl (sc (sq sl sl) sl)) (sq sl sl)))))))
def Ho:PX 64 Ao:=⟨_,by conv=>lhs;reduce⟩
def E9:PL 64 Ao 0:=⟨_,by conv=>lhs;reduce⟩
def lJ(k1 k3:Q2):Nat->Q2
 |0,_,_=>none
 |n+1,vs,s=>j8 c F cg (lJ k1 k3 n) [k1,k3] E9.1 vs s
def Bi(k1 k3:Q2)(n:Nat)(vs:List AV)(s:St):=(by dsimp only[lJ,E9,go_sem,Int.reduceOfNat,Int.reduceNegSucc]:lJ c F k1 k3 (n+1) vs s=_)
def Ap:Un->List Q2->Nat->Q2
 |.z,[k1,k3]=>lJ c F k1 k3
 |_,_=>λ_=>lW
def Ez:O2:=b6 c F (Ap c F) Ho.1 [x0] s
def Ry:=(by dsimp only[Ez,Ho, ↓Ap,go_sem,Int.reduceOfNat,Int.reduceNegSucc]:Ez c F x0 s=_)
def ve:Sh:=(sq sl (sq (sq sl (sc (sq sl sl) sl)) (sq (sq sl (sb (sp 0 [0,10,11,12] [(1,[2,3]),(2,[])] (sq sl (sq (sc sl sl) (sq (sb (sq sl (sq (sq sl (sq sl (sc (sq sl sl) sl))) (sq sl (sc (sq sl sl) sl))))) sl)))))) (sq sl sl))))
def Bs:PX 66 ve:=⟨_,by conv=>lhs;reduce⟩
def Aq:PL 66 ve 0:=⟨_,by conv=>lhs;reduce⟩
def kT(k1 k2:Q2):Nat->Q2
 |0,_,_=>none
 |n+1,vs,s=>j8 c F cg (kT k1 k2 n) [k1,k2] Aq.1 vs s
def qk(k1 k2:Q2)(n:Nat)(vs:List AV)(s:St):=(by dsimp only[kT,Aq,go_sem,Int.reduceOfNat]:kT c F k1 k2 (n+1) vs s=_)
def vg:Un->List Q2->Nat->Q2
 |.z,[k1,k2]=>kT c F k1 k2
 |_,_=>λ_=>lW
def xY:O2:=b6 c F (vg c F) Bs.1 [x0] s
def Bj:=(by dsimp only[xY,Bs, ↓vg,go_sem,Int.reduceOfNat]:xY c F x0 s=_)
def Ar:Sh:=(sq sl (sq (sq sl (sq sl (sc (sq sl sl) sl))) (sq (sq sl (sq sl (sc (sq sl sl) sl))) (sq (sq sl (sc (sq sl sl) sl)) (sq (sq sl (sb (sp 0 [1,47,48,49] [(1,[2,3]),(2,[1])] (sq sl (sq (sc sl sl) (sq (sb (sq sl (sq sl (sc (sq sl sl) sl)))) sl)))))) (sq (sq sl (sc (sq sl sl) sl)) (sq sl sl)))))))
def Hp:PX 67 Ar:=⟨_,by conv=>lhs;reduce⟩
def Fa:PL 67 Ar 0:=⟨_,by conv=>lhs;reduce⟩
def lK(k1 k2:Q2):Nat->Q2
 |0,_,_=>none
 |n+1,vs,s=>j8 c F cg (lK k1 k2 n) [k1,k2] Fa.1 vs s
def Bk(k1 k2:Q2)(n:Nat)(vs:List AV)(s:St):=(by dsimp only[lK,Fa,go_sem,Int.reduceOfNat]:lK c F k1 k2 (n+1) vs s=_)
def At:Un->List Q2->Nat->Q2
 |.z,[k1,k2]=>lK c F k1 k2
 |_,_=>λ_=>lW
def EA:O2:=b6 c F (At c F) Hp.1 [x0] s
def RT:=(by dsimp only[EA,Hp, ↓At,go_sem,Int.reduceOfNat]:EA c F x0 s=_)
def Hq:Sh:=(sq sl (sq sl sl))
def Hr:PX 68 Hq:=⟨_,by conv=>lhs;reduce⟩
def EB:O2:=b6 c F cg Hr.1 [] s
def RY:=(by dsimp only[EB,Hr,go_sem,Int.reduceOfNat]:EB c F s=_)
def yp:Sh:=(sq sl (sj [3,4,5] (sb (sq sl (sc (sq sl sl) (sq sl (sc (sq sl sl) (sq sl (sc (sq sl sl) (sj [3,4,5,28] (sq sl (sc sl (sq sl (sc sl sl)))) (sc (sq sl sl) (sq sl (sc (sq sl sl) (sq sl (sc (sq sl sl) sl))))))))))))) (sq sl (sq (sq sl (sc (sq sl sl) sl)) (sq sl (sj [3,5,9] (sq sl (sc sl sl)) (sq (sq sl (sc (sq sl sl) sl)) (sq sl sl))))))))
def yq:PX 69 yp:=⟨_,by conv=>lhs;reduce⟩
def vh:O2:=b6 c F cg yq.1 [x0,x1,x2] s
def Il:=(by dsimp only[vh,yq,go_sem,Int.reduceOfNat]:vh c F x0 x1 x2 s=_)
def Bt:Sh:=(sq sl (sq (sq sl (sb (sq sl (sc (sq sl sl) (sq sl (sc (sq sl sl) (sq sl (sc (sq sl sl) (sq sl (sc (sq sl sl) sl)))))))))) (sq sl sl)))
def Bu:PX 76 Bt:=⟨_,by conv=>lhs;reduce⟩
def xZ:O2:=b6 c F cg Bu.1 [x0] s
def Lw:=(by dsimp only[xZ,Bu,go_sem,Int.reduceOfNat]:xZ c F x0 s=_)
def BX:Sh:=(sq sl (sq (sq sl (sb (sp 0 [0,3] [(1,[2]),(2,[0])] (sq (sq sl (sc sl sl)) (sq (sb (sq sl (sc (sq sl sl) sl))) sl))))) (sq sl sl)))
def I6:PX 77 BX:=⟨_,by conv=>lhs;reduce⟩
def Hs:PL 77 BX 0:=⟨_,by conv=>lhs;reduce⟩
def m5(k1 k2:Q2):Nat->Q2
 |0,_,_=>none
 |n+1,vs,s=>j8 c F cg (m5 k1 k2 n) [k1,k2] Hs.1 vs s
def CG(k1 k2:Q2)(n:Nat)(vs:List AV)(s:St):=(by dsimp only[m5,Hs,go_sem,Int.reduceOfNat]:m5 c F k1 k2 (n+1) vs s=_)
def BZ:Un->List Q2->Nat->Q2
 |.z,[k1,k2]=>m5 c F k1 k2
 |_,_=>λ_=>lW
def Ht:O2:=b6 c F (BZ c F) I6.1 [x0] s
def Sx:=(by dsimp only[Ht,I6, ↓BZ,go_sem,Int.reduceOfNat]:Ht c F x0 s=_)
def iw:Sh:=(sq sl (sq sl sl))
def iy:PX 78 iw:=⟨_,by conv=>lhs;reduce⟩
def ff:O2:=b6 c F cg iy.1 [x0,x1] s
def nv:=(by dsimp only[ff,iy,go_sem,Int.reduceOfNat]:ff c F x0 x1 s=_)
def yu:Sh:=(sq sl (sq sl sl))
def yw:PX 79 yu:=⟨_,by conv=>lhs;reduce⟩
def vk:O2:=b6 c F cg yw.1 [x0,x1] s
def Ie:=(by dsimp only[vk,yw,go_sem,Int.reduceOfNat]:vk c F x0 x1 s=_)
def yx:Sh:=(sq sl (sq sl (sq sl sl)))
def yy:PX 80 yx:=⟨_,by conv=>lhs;reduce⟩
def vn:O2:=b6 c F cg yy.1 [x0] s
def Ij:=(by dsimp only[vn,yy,go_sem,Int.reduceOfNat]:vn c F x0 s=_)
def yA:Sh:=(sq sl (sq sl sl))
def yB:PX 99 yA:=⟨_,by conv=>lhs;reduce⟩
def vp:O2:=b6 c F cg yB.1 [x0,x1] s
def Ik:=(by dsimp only[vp,yB,go_sem,Int.reduceOfNat]:vp c F x0 x1 s=_)
def LV:Sh:=(sq sl (sq sl sl))
def LW:PX 100 LV:=⟨_,by conv=>lhs;reduce⟩
def J7:O2:=b6 c F cg LW.1 [x0,x1] s
def Vo:=(by dsimp only[J7,LW,go_sem,Int.reduceOfNat]:J7 c F x0 x1 s=_)
def B0:Sh:=(sq sl (sq (sq sl (sc (sq sl sl) sl)) (sq (sq sl (sb (sp 0 [0,13,14] [(1,[2]),(2,[])] (sq sl (sq (sc sl sl) (sq (sb (sq sl (sq sl (sc (sq sl sl) sl)))) sl)))))) (sq sl sl))))
def I7:PX 101 B0:=⟨_,by conv=>lhs;reduce⟩
def Hu:PL 101 B0 0:=⟨_,by conv=>lhs;reduce⟩
def mZ(k1 k2:Q2):Nat->Q2
 |0,_,_=>none
 |n+1,vs,s=>j8 c F cg (mZ k1 k2 n) [k1,k2] Hu.1 vs s
def CE(k1 k2:Q2)(n:Nat)(vs:List AV)(s:St):=(by dsimp only[mZ,Hu,go_sem,Int.reduceOfNat]:mZ c F k1 k2 (n+1) vs s=_)
def B4:Un->List Q2->Nat->Q2
 |.z,[k1,k2]=>mZ c F k1 k2
 |_,_=>λ_=>lW
def Hv:O2:=b6 c F (B4 c F) I7.1 [x0] s
def Sw:=(by dsimp only[Hv,I7, ↓B4,go_sem,Int.reduceOfNat]:Hv c F x0 s=_)
def I8:Sh:=(sq sl (sq sl (sq (sq sl (sc (sq sl sl) sl)) (sq sl sl))))
def I9:PX 102 I8:=⟨_,by conv=>lhs;reduce⟩
def Hw:O2:=b6 c F cg I9.1 [x0,x1] s
def Sz:=(by dsimp only[Hw,I9,go_sem,Int.reduceOfNat]:Hw c F x0 x1 s=_)
def yC:Sh:=(sq sl (sq (sq sl (sc (sq sl sl) sl)) (sq sl sl)))
def yD:PX 108 yC:=⟨_,by conv=>lhs;reduce⟩
def vq:O2:=b6 c F cg yD.1 [x0,x1] s
def Ia:=(by dsimp only[vq,yD,go_sem,Int.reduceOfNat]:vq c F x0 x1 s=_)
def Au:Sh:=(sq sl (sq (sq sl (sc (sq sl sl) sl)) (sq sl sl)))
def Av:PX 113 Au:=⟨_,by conv=>lhs;reduce⟩
def wL:O2:=b6 c F cg Av.1 [x0,x1] s
def JT:=(by dsimp only[wL,Av,go_sem,Int.reduceOfNat]:wL c F x0 x1 s=_)
def Aw:Sh:=(sq sl (sq (sq sl (sc (sq sl sl) sl)) (sq sl sl)))
def Ax:PX 118 Aw:=⟨_,by conv=>lhs;reduce⟩
def wM:O2:=b6 c F cg Ax.1 [x0,x1] s
def JU:=(by dsimp only[wM,Ax,go_sem,Int.reduceOfNat]:wM c F x0 x1 s=_)
def Bv:Sh:=(sq sl (sq (sq sl (sc (sq sl sl) sl)) (sq sl sl)))
def Bw:PX 123 Bv:=⟨_,by conv=>lhs;reduce⟩
def ya:O2:=b6 c F cg Bw.1 [x0,x1] s
def Lv:=(by dsimp only[ya,Bw,go_sem,Int.reduceOfNat]:ya c F x0 x1 s=_)
def fy:Sh:=(sq sl (sq (sq sl (sb (sp 0 [0,1,7,8] [(1,[4]),(2,[])] (sq sl (sq (sc sl sl) (sq (sb (sq sl (sq sl (sc (sq sl sl) sl)))) sl)))))) (sq sl sl)))
def jx:PX 128 fy:=⟨_,by conv=>lhs;reduce⟩
def iZ:PL 128 fy 0:=⟨_,by conv=>lhs;reduce⟩
def bL(k1 k2:Q2):Nat->Q2
 |0,_,_=>none
 |n+1,vs,s=>j8 c F cg (bL k1 k2 n) [k1,k2] iZ.1 vs s
def ir(k1 k2:Q2)(n:Nat)(vs:List AV)(s:St):=(by dsimp only[bL,iZ,go_sem,Int.reduceOfNat,Int.reduceNegSucc]:bL c F k1 k2 (n+1) vs s=_)
def fA:Un->List Q2->Nat->Q2
 |.z,[k1,k2]=>bL c F k1 k2
 |_,_=>λ_=>lW
def fO:O2:=b6 c F (fA c F) jx.1 [x0,x1] s
def oZ:=(by dsimp only[fO,jx, ↓fA,go_sem,Int.reduceOfNat,Int.reduceNegSucc]:fO c F x0 x1 s=_)
def vr:Sh:=(sq sl (sq sl (sq (sq sl (sb (sp 0 [1,5,14,15,16] [(1,[2,3,4]),(2,[1,5])] (sq sl (sq (sc sl sl) (sq (sb (sq sl (sq sl (sq sl (sc (sq sl sl) sl))))) sl)))))) (sq (sq sl (sb (sp 1 [1,5,30,31,32] [(1,[2,3,4]),(4,[5])] (sq sl (sq (sc sl sl) (sj [1,5,30,31,32] (sb (sq sl (sq sl (sj [1,5,9,11,30,31,32] (sq sl (sc sl sl)) (sq sl (sc (sq sl sl) sl)))))) sl)))))) (sq sl sl)))))
def Hx:PX 129 vr:=⟨_,by conv=>lhs;reduce⟩
def Fb:PL 129 vr 1:=⟨_,by conv=>lhs;reduce⟩
def iY(k1 k4:Q2):Nat->Q2
 |0,_,_=>none
 |n+1,vs,s=>j8 c F cg (iY k1 k4 n) [k1,k4] Fb.1 vs s
def pR(k1 k4:Q2)(n:Nat)(vs:List AV)(s:St):=(by dsimp only[iY,Fb,go_sem,Int.reduceOfNat]:iY c F k1 k4 (n+1) vs s=_)
def Fe:PL 129 vr 0:=⟨_,by conv=>lhs;reduce⟩
def gL(k1 k2:Q2):Nat->Q2
 |0,_,_=>none
 |n+1,vs,s=>j8 c F cg (gL k1 k2 n) [k1,k2] Fe.1 vs s
def pQ(k1 k2:Q2)(n:Nat)(vs:List AV)(s:St):=(by dsimp only[gL,Fe,go_sem,Int.reduceOfNat]:gL c F k1 k2 (n+1) vs s=_)
def Ay:Un->List Q2->Nat->Q2
 |.z,[k1,k2]=>gL c F k1 k2
 |(.s .z),[k1,k4]=>iY c F k1 k4
 |_,_=>λ_=>lW
def uM:O2:=b6 c F (Ay c F) Hx.1 [x0] s
def RP:=(by dsimp only[uM,Hx, ↓Ay,go_sem,Int.reduceOfNat]:uM c F x0 s=_)
def fB:Sh:=(sq sl (sq (sq sl (sb (sp 0 [0,1,7,8] [(1,[4]),(2,[])] (sq sl (sq (sc sl sl) (sq (sb (sq sl (sq sl (sc (sq sl sl) sl)))) sl)))))) (sq sl sl)))
def jy:PX 144 fB:=⟨_,by conv=>lhs;reduce⟩
def ja:PL 144 fB 0:=⟨_,by conv=>lhs;reduce⟩
def bM(k1 k2:Q2):Nat->Q2
 |0,_,_=>none
 |n+1,vs,s=>j8 c F cg (bM k1 k2 n) [k1,k2] ja.1 vs s
def iu(k1 k2:Q2)(n:Nat)(vs:List AV)(s:St):=(by dsimp only[bM,ja,go_sem,Int.reduceOfNat,Int.reduceNegSucc]:bM c F k1 k2 (n+1) vs s=_)
def fC:Un->List Q2->Nat->Q2
 |.z,[k1,k2]=>bM c F k1 k2
 |_,_=>λ_=>lW
def fP:O2:=b6 c F (fC c F) jy.1 [x0,x1] s
def o8:=(by dsimp only[fP,jy, ↓fC,go_sem,Int.reduceOfNat,Int.reduceNegSucc]:fP c F x0 x1 s=_)
def Hy:Sh:=(sq sl (sq sl sl))
def Hz:PX 145 Hy:=⟨_,by conv=>lhs;reduce⟩
def EC:O2:=b6 c F cg Hz.1 [x0,x1] s
def RU:=(by dsimp only[EC,Hz,go_sem,Int.reduceOfNat]:EC c F x0 x1 s=_)
def Ff:Sh:=(sq sl (sq sl sl))
def Fg:PX 146 Ff:=⟨_,by conv=>lhs;reduce⟩
def B5:O2:=b6 c F cg Fg.1 [x0,x1] s
def OX:=(by dsimp only[B5,Fg,go_sem,Int.reduceOfNat]:B5 c F x0 x1 s=_)
def Ja:Sh:=(sq sl (sq sl sl))
def Jb:PX 172 Ja:=⟨_,by conv=>lhs;reduce⟩
def HA:O2:=b6 c F cg Jb.1 [] s
def SA:=(by dsimp only[HA,Jb,go_sem,Int.reduceOfNat]:HA c F s=_)
def Az:Sh:=(sq sl (sq (sq sl (sc (sq sl sl) sl)) (sq (sq sl (sq sl (sc (sq sl sl) sl))) (sq (sq sl (sq sl (sc (sq sl sl) sl))) (sq (sq sl (sc (sq sl sl) sl)) (sq sl (sq sl (sq sl sl))))))))
def AA:PX 173 Az:=⟨_,by conv=>lhs;reduce⟩
def qK:O2:=b6 c F cg AA.1 [x0,x1] s
def ob:=(by dsimp only[qK,AA,go_sem,Int.reduceOfNat]:qK c F x0 x1 s=_)
def Fh:Sh:=(sq sl (sq (sq sl (sq sl (sc (sq sl sl) sl))) (sq sl sl)))
def Fi:PX 174 Fh:=⟨_,by conv=>lhs;reduce⟩
def B6:O2:=b6 c F cg Fi.1 [x0,x1] s
def O3:=(by dsimp only[B6,Fi,go_sem,Int.reduceOfNat]:B6 c F x0 x1 s=_)
def td:Sh:=(sq sl (sq (sq sl (sc (sq sl sl) sl)) (sq (sq sl (sc (sq sl sl) sl)) (sq (sq sl (sb (sp 0 [0,1,2,3,30,31,32] [(1,[8]),(2,[0,1,2,3])] (sq sl (sq (sc sl sl) (sq (sb (sq sl (sq sl (sq sl (sc (sq sl sl) sl))))) sl)))))) (sq sl (sq (sq sl (sc (sq sl sl) sl)) (sq (sq sl (sc (sq sl sl) sl)) (sq sl (sq sl sl)))))))))
def AD:PX 175 td:=⟨_,by conv=>lhs;reduce⟩
def yE:PL 175 td 0:=⟨_,by conv=>lhs;reduce⟩
def iQ(k1 k2:Q2):Nat->Q2
 |0,_,_=>none
 |n+1,vs,s=>j8 c F cg (iQ k1 k2 n) [k1,k2] yE.1 vs s
def o7(k1 k2:Q2)(n:Nat)(vs:List AV)(s:St):=(by dsimp only[iQ,yE,go_sem,Int.reduceOfNat]:iQ c F k1 k2 (n+1) vs s=_)
def th:Un->List Q2->Nat->Q2
 |.z,[k1,k2]=>iQ c F k1 k2
 |_,_=>λ_=>lW
def qL:O2:=b6 c F (th c F) AD.1 [x0,x1,x2,x3] s
def oc:=(by dsimp only[qL,AD, ↓th,go_sem,Int.reduceOfNat]:qL c F x0 x1 x2 x3 s=_)
def yF:Sh:=(sq sl (sq sl sl))
def yG:PX 191 yF:=⟨_,by conv=>lhs;reduce⟩
def vt:O2:=b6 c F cg yG.1 [x0] s
def Ii:=(by dsimp only[vt,yG,go_sem,Int.reduceOfNat]:vt c F x0 s=_)
def yb:Sh:=(sq sl (sq (sb (sq sl (sc (sq sl sl) (sq sl (sc (sq sl sl) (sq sl (sc (sq sl sl) (sq sl (sc (sq sl sl) sl))))))))) (sq (sq sl (sb (sp 0 [1,52,53,54] [(1,[2]),(3,[])] (sq sl (sq (sc sl sl) (sq (sb (sq sl (sq sl (sc (sq sl sl) sl)))) sl)))))) (sq sl sl))))
def Fj:PX 192 yb:=⟨_,by conv=>lhs;reduce⟩
def C6:PL 192 yb 0:=⟨_,by conv=>lhs;reduce⟩
def kC(k1 k3:Q2):Nat->Q2
 |0,_,_=>none
 |n+1,vs,s=>j8 c F cg (kC k1 k3 n) [k1,k3] C6.1 vs s
def zV(k1 k3:Q2)(n:Nat)(vs:List AV)(s:St):=(by dsimp only[kC,C6,go_sem,Int.reduceOfNat]:kC c F k1 k3 (n+1) vs s=_)
def yc:Un->List Q2->Nat->Q2
 |.z,[k1,k3]=>kC c F k1 k3
 |_,_=>λ_=>lW
def B7:O2:=b6 c F (yc c F) Fj.1 [x0] s
def O0:=(by dsimp only[B7,Fj, ↓yc,go_sem,Int.reduceOfNat]:B7 c F x0 s=_)
def C7:Sh:=(sq sl (sq sl (sq sl sl)))
def C8:PX 193 C7:=⟨_,by conv=>lhs;reduce⟩
def AE:O2:=b6 c F cg C8.1 [x0] s
def M9:=(by dsimp only[AE,C8,go_sem,Int.reduceOfNat]:AE c F x0 s=_)
def yH:Sh:=(sq sl (sq sl sl))
def yI:PX 194 yH:=⟨_,by conv=>lhs;reduce⟩
def vu:O2:=b6 c F cg yI.1 [x0,x1] s
def Ih:=(by dsimp only[vu,yI,go_sem,Int.reduceOfNat]:vu c F x0 x1 s=_)
def xK:Sh:=(sq sl (sq sl sl))
def xL:PX 195 xK:=⟨_,by conv=>lhs;reduce⟩
def tj:O2:=b6 c F cg xL.1 [x0,x1,x2] s
def GM:=(by dsimp only[tj,xL,go_sem,Int.reduceOfNat]:tj c F x0 x1 x2 s=_)
def kX:Sh:=(sq sl (sq sl (sq sl (sq (sq sl (sc (sq sl sl) sl)) (sq sl (sq (sq sl (sc (sq sl sl) sl)) (sq (sq sl (sc (sq sl (sq sl (sq sl (sq sl sl)))) sl)) (sq sl (sq (sq sl (sc (sq sl (sq sl (sq sl sl))) sl)) (sq sl (sq sl (sq sl sl))))))))))))
def kY:PX 196 kX:=⟨_,by conv=>lhs;reduce⟩
def jd:O2:=b6 c F cg kY.1 [x0,x1,x2] s
def ua:=(by dsimp only[jd,kY,go_sem,Int.reduceOfNat]:jd c F x0 x1 x2 s=_)
def HB:Sh:=(sq sl (sq sl sl))
def HC:PX 197 HB:=⟨_,by conv=>lhs;reduce⟩
def ED:O2:=b6 c F cg HC.1 [x0,x1,x2] s
def RE:=(by dsimp only[ED,HC,go_sem,Int.reduceOfNat]:ED c F x0 x1 x2 s=_)
def AG:Sh:=(sq sl (sq (sq sl (sc (sq sl sl) sl)) (sq (sq sl (sb (sp 0 [0,13,14] [(1,[2]),(2,[])] (sq sl (sq (sc sl sl) (sq (sb (sq sl (sq sl (sc (sq sl sl) sl)))) sl)))))) (sq sl sl))))
def HD:PX 220 AG:=⟨_,by conv=>lhs;reduce⟩
def Fk:PL 220 AG 0:=⟨_,by conv=>lhs;reduce⟩
def lH(k1 k2:Q2):Nat->Q2
 |0,_,_=>none
 |n+1,vs,s=>j8 c F cg (lH k1 k2 n) [k1,k2] Fk.1 vs s
def Bh(k1 k2:Q2)(n:Nat)(vs:List AV)(s:St):=(by dsimp only[lH,Fk,go_sem,Int.reduceOfNat]:lH c F k1 k2 (n+1) vs s=_)
def AH:Un->List Q2->Nat->Q2
 |.z,[k1,k2]=>lH c F k1 k2
 |_,_=>λ_=>lW
def EE:O2:=b6 c F (AH c F) HD.1 [x0] s
def Ru:=(by dsimp only[EE,HD, ↓AH,go_sem,Int.reduceOfNat]:EE c F x0 s=_)
def HE:Sh:=(sq sl (sq sl sl))
def HF:PX 221 HE:=⟨_,by conv=>lhs;reduce⟩
def EF:O2:=b6 c F cg HF.1 [x0] s
def Rx:=(by dsimp only[EF,HF,go_sem,Int.reduceOfNat]:EF c F x0 s=_)
def nk:Sh:=(sq sl (sq (sq sl (sc (sq sl sl) sl)) (sq sl sl)))
def nr:PX 222 nk:=⟨_,by conv=>lhs;reduce⟩
def j3:O2:=b6 c F cg nr.1 [x0] s
def nc:=(by dsimp only[j3,nr,go_sem,Int.reduceOfNat]:j3 c F x0 s=_)
def qZ:Sh:=(sq sl (sq sl sl))
def q7:PX 223 qZ:=⟨_,by conv=>lhs;reduce⟩
def nu:O2:=b6 c F cg q7.1 [x0,x1] s
def AK:=(by dsimp only[nu,q7,go_sem,Int.reduceOfNat]:nu c F x0 x1 s=_)
def di:Sh:=(sq sl (sq sl (sq sl (sq (sb (sp 0 [0,2,4,8,9,10] [(2,[0,2,4,8,9])] (sq (sq sl (sc sl sl)) (sb (sq sl (sq sl (sc sl sl))))))) (sq sl sl)))))
def fK:PX 224 di:=⟨_,by conv=>lhs;reduce⟩
def fH:PL 224 di 0:=⟨_,by conv=>lhs;reduce⟩
def aM(k2:Q2):Nat->Q2
 |0,_,_=>none
 |n+1,vs,s=>j8 c F cg (aM k2 n) [k2] fH.1 vs s
def cM(k2:Q2)(n:Nat)(vs:List AV)(s:St):=(by dsimp only[aM,fH,go_sem,Int.reduceOfNat]:aM c F k2 (n+1) vs s=_)
def dm:Un->List Q2->Nat->Q2
 |.z,[k2]=>aM c F k2
 |_,_=>λ_=>lW
def dH:O2:=b6 c F (dm c F) fK.1 [x0,x1,x2] s
def kD:=(by dsimp only[dH,fK, ↓dm,go_sem,Int.reduceOfNat]:dH c F x0 x1 x2 s=_)
end
section
variable{c:ai}(hc:Sem c)(F:Nat){x0 x1 x2 x3 x4 x5 x6 x7 x8 x9 XB XC:AV}{s:St}{r:AV×St}
include hc
theorem MX(h:Ev c F x0 s=some r):c 30 [x0] s=some (tidy s r):=hc.o0 F He (by kernel_rfl) (by kernel_rfl) h
theorem CI(h:Ew c F x0 x1 s=some r):c 41 [x0,x1] s=some (tidy s r):=hc.o1 F (Al c F) Ak (by kernel_rfl) (by kernel_rfl) (λ_ _ _=>by kernel_rfl) (λ_ _ _ _=>by kernel_rfl) (by kernel_rfl) h
theorem MW(h:Ex c F x0 s=some r):c 47 [x0] s=some (tidy s r):=hc.o0 F Hh (by kernel_rfl) (by kernel_rfl) h
theorem Ig(h:xX c F x0 s=some r):c 48 [x0] s=some (tidy s r):=hc.o0 F Bq (by kernel_rfl) (by kernel_rfl) h
theorem CP(h:Ey c F x0 s=some r):c 49 [x0] s=some (tidy s r):=hc.o1 F (An c F) Am (by kernel_rfl) (by kernel_rfl) (λ_ _ _=>by kernel_rfl) (λ_ _ _ _=>by kernel_rfl) (by kernel_rfl) h
theorem OU(h:Hl c F x0 s=some r):c 63 [x0] s=some (tidy s r):=hc.o0 F I4 (by kernel_rfl) (by kernel_rfl) h
theorem MU(h:Ez c F x0 s=some r):c 64 [x0] s=some (tidy s r):=hc.o1 F (Ap c F) Ao (by kernel_rfl) (by kernel_rfl) (λ_ _ _=>by kernel_rfl) (λ_ _ _ _=>by kernel_rfl) (by kernel_rfl) h
theorem yl(h:xY c F x0 s=some r):c 66 [x0] s=some (tidy s r):=hc.o1 F (vg c F) ve (by kernel_rfl) (by kernel_rfl) (λ_ _ _=>by kernel_rfl) (λ_ _ _ _=>by kernel_rfl) (by kernel_rfl) h
theorem Nd(h:EA c F x0 s=some r):c 67 [x0] s=some (tidy s r):=hc.o1 F (At c F) Ar (by kernel_rfl) (by kernel_rfl) (λ_ _ _=>by kernel_rfl) (λ_ _ _ _=>by kernel_rfl) (by kernel_rfl) h
theorem Ng(h:EB c F s=some r):c 68 [] s=some (tidy s r):=hc.o0 F Hq (by kernel_rfl) (by kernel_rfl) h
theorem Fu(h:vh c F x0 x1 x2 s=some r):c 69 [x0,x1,x2] s=some (tidy s r):=hc.o0 F yp (by kernel_rfl) (by kernel_rfl) h
theorem Ic(h:xZ c F x0 s=some r):c 76 [x0] s=some (tidy s r):=hc.o0 F Bt (by kernel_rfl) (by kernel_rfl) h
theorem OW(h:Ht c F x0 s=some r):c 77 [x0] s=some (tidy s r):=hc.o1 F (BZ c F) BX (by kernel_rfl) (by kernel_rfl) (λ_ _ _=>by kernel_rfl) (λ_ _ _ _=>by kernel_rfl) (by kernel_rfl) h
theorem mP(h:ff c F x0 x1 s=some r):c 78 [x0,x1] s=some (tidy s r):=hc.o0 F iw (by kernel_rfl) (by kernel_rfl) h
theorem Fo(h:vk c F x0 x1 s=some r):c 79 [x0,x1] s=some (tidy s r):=hc.o0 F yu (by kernel_rfl) (by kernel_rfl) h
theorem Fs(h:vn c F x0 s=some r):c 80 [x0] s=some (tidy s r):=hc.o0 F yx (by kernel_rfl) (by kernel_rfl) h
theorem Ft(h:vp c F x0 x1 s=some r):c 99 [x0,x1] s=some (tidy s r):=hc.o0 F yA (by kernel_rfl) (by kernel_rfl) h
theorem RV(h:J7 c F x0 x1 s=some r):c 100 [x0,x1] s=some (tidy s r):=hc.o0 F LV (by kernel_rfl) (by kernel_rfl) h
theorem OV(h:Hv c F x0 s=some r):c 101 [x0] s=some (tidy s r):=hc.o1 F (B4 c F) B0 (by kernel_rfl) (by kernel_rfl) (λ_ _ _=>by kernel_rfl) (λ_ _ _ _=>by kernel_rfl) (by kernel_rfl) h
theorem OZ(h:Hw c F x0 x1 s=some r):c 102 [x0,x1] s=some (tidy s r):=hc.o0 F I8 (by kernel_rfl) (by kernel_rfl) h
theorem Fm(h:vq c F x0 x1 s=some r):c 108 [x0,x1] s=some (tidy s r):=hc.o0 F yC (by kernel_rfl) (by kernel_rfl) h
theorem Gz(h:wL c F x0 x1 s=some r):c 113 [x0,x1] s=some (tidy s r):=hc.o0 F Au (by kernel_rfl) (by kernel_rfl) h
theorem GF(h:wM c F x0 x1 s=some r):c 118 [x0,x1] s=some (tidy s r):=hc.o0 F Aw (by kernel_rfl) (by kernel_rfl) h
theorem Ib(h:ya c F x0 x1 s=some r):c 123 [x0,x1] s=some (tidy s r):=hc.o0 F Bv (by kernel_rfl) (by kernel_rfl) h
theorem n9(h:fO c F x0 x1 s=some r):c 128 [x0,x1] s=some (tidy s r):=hc.o1 F (fA c F) fy (by kernel_rfl) (by kernel_rfl) (λ_ _ _=>by kernel_rfl) (λ_ _ _ _=>by kernel_rfl) (by kernel_rfl) h
theorem Nc(h:uM c F x0 s=some r):c 129 [x0] s=some (tidy s r):=hc.oL F (Ay c F) vr 2 (by kernel_rfl) (λi hi=>match i,hi with|0,_=>mB 0 (by kernel_rfl) (λ_ _ _=>by kernel_rfl) (λ_ _ _ _=>by kernel_rfl)|1,_=>mB 1 (by kernel_rfl) (λ_ _ _=>by kernel_rfl) (λ_ _ _ _=>by kernel_rfl)|n+2,h=>absurd h (by omega)) (by kernel_rfl) h
theorem od(h:fP c F x0 x1 s=some r):c 144 [x0,x1] s=some (tidy s r):=hc.o1 F (fC c F) fB (by kernel_rfl) (by kernel_rfl) (λ_ _ _=>by kernel_rfl) (λ_ _ _ _=>by kernel_rfl) (by kernel_rfl) h
theorem Nf(h:EC c F x0 x1 s=some r):c 145 [x0,x1] s=some (tidy s r):=hc.o0 F Hy (by kernel_rfl) (by kernel_rfl) h
theorem LC(h:B5 c F x0 x1 s=some r):c 146 [x0,x1] s=some (tidy s r):=hc.o0 F Ff (by kernel_rfl) (by kernel_rfl) h
theorem O5(h:HA c F s=some r):c 172 [] s=some (tidy s r):=hc.o0 F Ja (by kernel_rfl) (by kernel_rfl) h
theorem xG(h:qK c F x0 x1 s=some r):c 173 [x0,x1] s=some (tidy s r):=hc.o0 F Az (by kernel_rfl) (by kernel_rfl) h
theorem LJ(h:B6 c F x0 x1 s=some r):c 174 [x0,x1] s=some (tidy s r):=hc.o0 F Fh (by kernel_rfl) (by kernel_rfl) h
theorem qo(h:qL c F x0 x1 x2 x3 s=some r):c 175 [x0,x1,x2,x3] s=some (tidy s r):=hc.o1 F (th c F) td (by kernel_rfl) (by kernel_rfl) (λ_ _ _=>by kernel_rfl) (λ_ _ _ _=>by kernel_rfl) (by kernel_rfl) h
theorem Fq(h:vt c F x0 s=some r):c 191 [x0] s=some (tidy s r):=hc.o0 F yF (by kernel_rfl) (by kernel_rfl) h
theorem LG(h:B7 c F x0 s=some r):c 192 [x0] s=some (tidy s r):=hc.o1 F (yc c F) yb (by kernel_rfl) (by kernel_rfl) (λ_ _ _=>by kernel_rfl) (λ_ _ _ _=>by kernel_rfl) (by kernel_rfl) h
theorem JY(h:AE c F x0 s=some r):c 193 [x0] s=some (tidy s r):=hc.o0 F C7 (by kernel_rfl) (by kernel_rfl) h
theorem Fp(h:vu c F x0 x1 s=some r):c 194 [x0,x1] s=some (tidy s r):=hc.o0 F yH (by kernel_rfl) (by kernel_rfl) h
theorem Ee(h:tj c F x0 x1 x2 s=some r):c 195 [x0,x1,x2] s=some (tidy s r):=hc.o0 F xK (by kernel_rfl) (by kernel_rfl) h
theorem rR(h:jd c F x0 x1 x2 s=some r):c 196 [x0,x1,x2] s=some (tidy s r):=hc.o0 F kX (by kernel_rfl) (by kernel_rfl) h
theorem M7(h:ED c F x0 x1 x2 s=some r):c 197 [x0,x1,x2] s=some (tidy s r):=hc.o0 F HB (by kernel_rfl) (by kernel_rfl) h
theorem MQ(h:EE c F x0 s=some r):c 220 [x0] s=some (tidy s r):=hc.o1 F (AH c F) AG (by kernel_rfl) (by kernel_rfl) (λ_ _ _=>by kernel_rfl) (λ_ _ _ _=>by kernel_rfl) (by kernel_rfl) h
theorem MT(h:EF c F x0 s=some r):c 221 [x0] s=some (tidy s r):=hc.o0 F HE (by kernel_rfl) (by kernel_rfl) h
theorem lY(h:j3 c F x0 s=some r):c 222 [x0] s=some (tidy s r):=hc.o0 F nk (by kernel_rfl) (by kernel_rfl) h
theorem yW(h:nu c F x0 x1 s=some r):c 223 [x0,x1] s=some (tidy s r):=hc.o0 F qZ (by kernel_rfl) (by kernel_rfl) h
theorem j9(h:dH c F x0 x1 x2 s=some r):c 224 [x0,x1,x2] s=some (tidy s r):=hc.o1 F (dm c F) di (by kernel_rfl) (by kernel_rfl) (λ_ _ _=>by kernel_rfl) (λ_ _ _ _=>by kernel_rfl) (by kernel_rfl) h
end
end
end Go.Proofs.YtoeleelojgimfaaGreatDoor
