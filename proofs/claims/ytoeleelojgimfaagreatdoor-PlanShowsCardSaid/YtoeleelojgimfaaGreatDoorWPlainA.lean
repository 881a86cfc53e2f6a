/- Functions, plainly. -/
import Derived.Test.YtoeleelojgimfaaGreatDoorWAwake
set_option linter.all false
set_option maxRecDepth 100000
set_option maxHeartbeats 4000000
namespace Go.Proofs.YtoeleelojgimfaaGreatDoor
noncomputable section
open Go Go.Ai Go.Proofs
def yc:dQ:=uu [(238,Gf),(15,IB)]
def Sem(c:ai):Prop:=c=run yc gg
def gA(f:Nat):cj:=pY gg f
abbrev PX(f:Nat)(s:Sh):={a:Tx // txF (gA f) s=a}
abbrev PL(f:Nat)(s:Sh)(i:Nat):={a:List Pos×Tx // txL (eR (gA f) s i)=a}
theorem Sem.o0{c:ai}(hc:Sem c)(F:Nat){f:FuncId}{args:List AV}{st:St}{r:AV×St}(s:Sh)(hk:(rC (yc f)&& !rC (gg.get (key f))&&(dO (gA f).code s).isEmpty)=true)
  {k:O2} (hd:yf c F (P8 []) (gA f) s args st=k) (h:k=some r):c f args st=some (tidy st r):=by
 subst hc;exact Uq s hk hd h
theorem Sem.o1{c:ai}(hc:Sem c)(F:Nat){f:FuncId}{args:List AV}{st:St}{r:AV×St}(Ls:Un->List Q2->Nat->Q2)(s:Sh)(hk:(rC (yc f)&& !rC (gg.get (key f))&&Nat.beq (dO (gA f).code s).length 1)=true)
  (hs:(M1 (eR (gA f) s 0).2&&Nat.beq (Xy (eR (gA f) s 0).2) 0)=true) (h0:∀K' vs st,mS Ls (gA f) s 0 K' 0 vs st=none)
  (h1:∀K' n vs st,mS Ls (gA f) s 0 K' (n+1) vs st=C5 (den c F (mS Ls (gA f) s) (eR (gA f) s 0).1 (lpB (eR (gA f) s 0).2)) (lpI (eR (gA f) s 0).2) (Xz (eR (gA f) s 0).2) K' (mS Ls (gA f) s 0 K' n) vs st)
  {k:O2} (hd:yf c F (mS Ls (gA f) s) (gA f) s args st=k) (h:k=some r):c f args st=some (tidy st r):=by
 subst hc;exact Ur Ls s hk hs h0 h1 hd h
theorem Sem.oL{c:ai}(hc:Sem c)(F:Nat){f:FuncId}{args:List AV}{st:St}{r:AV×St}(Ls:Un->List Q2->Nat->Q2)(s:Sh)(n:Nat)(hk:(rC (yc f)&& !rC (gg.get (key f))&&Nat.beq (dO (gA f).code s).length n)=true)
  (hL:∀i,i<n->uH c F (mS Ls (gA f) s) (eR (gA f) s i).1 (eR (gA f) s i).2) {k:O2} (hd:yf c F (mS Ls (gA f) s) (gA f) s args st=k) (h:k=some r):c f args st=some (tidy st r):=by
 subst hc;exact Nd Ls s n hk hL hd h
end
noncomputable section
open Go Go.Ai Go.Proofs
attribute [local go_sem ↓] bW BH ev XM yJ getLT zn Nc RH xw xx Km LX LY LZ ID IE IF IG II IJ L4 L5 IK IL IM IN IP Qc Qd Qe
attribute [local go_sem] bW BH ev
section
variable(c:ai)(F:Nat)(x0 x1 x2 x3 x4 x5 x6 x7 x8 x9 R8 R9:AV)(s:St)
def HR:Sh:=(sq sl (sq (sq sl (sc (sq sl sl) sl)) (sq sl sl)))
def HS:PX 30 HR:=⟨_,by conv=>lhs;reduce⟩
def E8:O2:=bW c F bY HS.1 [x0] s
def Sp:=(by dsimp only[E8,HS,go_sem,Int.reduceOfNat]:E8 c F x0 s=_)
def AR:Sh:=(sq sl (sq (sq sl (sc (sq sl sl) sl)) (sq sl (sq (sq sl (sb (sp 0 [5,23,24,25] [(2,[5])] (sq sl (sq (sc sl sl) (sq (sb (sq sl sl)) sl)))))) (sq sl sl)))))
def HT:PX 41 AR:=⟨_,by conv=>lhs;reduce⟩
def FH:PL 41 AR 0:=⟨_,by conv=>lhs;reduce⟩
def pn(k2:Q2):Nat->Q2
 |0,_,_=>none
 |n+1,vs,s=>jr c F bY (pn k2 n) [k2] FH.1 vs s
def uW(k2:Q2)(n:Nat)(vs:List AV)(s:St):=(by dsimp only[pn,FH,go_sem,Int.reduceOfNat]:pn c F k2 (n+1) vs s=_)
def AS:Un->List Q2->Nat->Q2
 |.z,[k2]=>pn c F k2
 |_,_=>λ_=>kz
def E9:O2:=bW c F (AS c F) HT.1 [x0,x1] s
def Hy:=(by dsimp only[E9,HT, ↓AS,go_sem,Int.reduceOfNat]:E9 c F x0 x1 s=_)
def HU:Sh:=(sq sl (sq sl (sq sl sl)))
def HV:PX 47 HU:=⟨_,by conv=>lhs;reduce⟩
def Fa:O2:=bW c F bY HV.1 [x0] s
def Sn:=(by dsimp only[Fa,HV,go_sem,Int.reduceOfNat]:Fa c F x0 s=_)
def BT:Sh:=(sq sl (sq (sq sl (sc (sq sl sl) sl)) (sq sl sl)))
def BU:PX 48 BT:=⟨_,by conv=>lhs;reduce⟩
def yx:O2:=bW c F bY BU.1 [x0] s
def Mu:=(by dsimp only[yx,BU,go_sem,Int.reduceOfNat]:yx c F x0 s=_)
def AT:Sh:=(sq sl (sq (sq sl (sq sl (sc (sq sl sl) sl))) (sq sl (sq (sq sl (sb (sp 0 [1,6,21,22,23] [(1,[2,3]),(2,[])] (sq sl (sq (sc sl sl) (sq (sb (sq sl (sq (sq sl (sq sl (sc (sq sl sl) sl))) (sq sl (sc (sq sl sl) sl))))) sl)))))) (sq sl sl)))))
def HW:PX 49 AT:=⟨_,by conv=>lhs;reduce⟩
def FI:PL 49 AT 0:=⟨_,by conv=>lhs;reduce⟩
def pz(k1 k2:Q2):Nat->Q2
 |0,_,_=>none
 |n+1,vs,s=>jr c F bY (pz k1 k2 n) [k1,k2] FI.1 vs s
def u0(k1 k2:Q2)(n:Nat)(vs:List AV)(s:St):=(by dsimp only[pz,FI,go_sem,Int.reduceOfNat]:pz c F k1 k2 (n+1) vs s=_)
def AU:Un->List Q2->Nat->Q2
 |.z,[k1,k2]=>pz c F k1 k2
 |_,_=>λ_=>kz
def Fb:O2:=bW c F (AU c F) HW.1 [x0] s
def HD:=(by dsimp only[Fb,HW, ↓AU,go_sem,Int.reduceOfNat]:Fb c F x0 s=_)
def JM:Sh:=(sq sl (sq sl (sq (sq sl (sc (sq sl sl) sl)) (sq sl sl))))
def JN:PX 63 JM:=⟨_,by conv=>lhs;reduce⟩
def HX:O2:=bW c F bY JN.1 [x0] s
def Tm:=(by dsimp only[HX,JN,go_sem,Int.reduceOfNat]:HX c F x0 s=_)
def AW:Sh:=(sq sl (sq sl (sq sl (sq (sb (sq sl (sc (sq sl sl) (sq sl (sc (sq sl sl) sl))))) (sq (sq sl (sb (sp 0 [1,3,4,18,19,20] [(1,[2]),(3,[1])] (sq sl (sq (sc sl sl) (sq (sb (sq sl (sq (sq sl (sc (sq sl sl) sl)) sl))) sl)))))) (sq (sq sl (sc (sq sl sl) sl)) (sq sl sl)))))))
def HY:PX 64 AW:=⟨_,by conv=>lhs;reduce⟩
def FJ:PL 64 AW 0:=⟨_,by conv=>lhs;reduce⟩
def mj(k1 k3:Q2):Nat->Q2
 |0,_,_=>none
 |n+1,vs,s=>jr c F bY (mj k1 k3 n) [k1,k3] FJ.1 vs s
def BM(k1 k3:Q2)(n:Nat)(vs:List AV)(s:St):=(by dsimp only[mj,FJ,go_sem,Int.reduceOfNat,Int.reduceNegSucc]:mj c F k1 k3 (n+1) vs s=_)
def AX:Un->List Q2->Nat->Q2
 |.z,[k1,k3]=>mj c F k1 k3
 |_,_=>λ_=>kz
def Fe:O2:=bW c F (AX c F) HY.1 [x0] s
def Sk:=(by dsimp only[Fe,HY, ↓AX,go_sem,Int.reduceOfNat,Int.reduceNegSucc]:Fe c F x0 s=_)
def vD:Sh:=(sq sl (sq (sq sl (sc (sq sl sl) sl)) (sq (sq sl (sb (sp 0 [0,10,11,12] [(1,[2,3]),(2,[])] (sq sl (sq (sc sl sl) (sq (sb (sq sl (sq (sq sl (sq sl (sc (sq sl sl) sl))) (sq sl (sc (sq sl sl) sl))))) sl)))))) (sq sl sl))))
def BV:PX 66 vD:=⟨_,by conv=>lhs;reduce⟩
def AY:PL 66 vD 0:=⟨_,by conv=>lhs;reduce⟩
def lA(k1 k2:Q2):Nat->Q2
 |0,_,_=>none
 |n+1,vs,s=>jr c F bY (lA k1 k2 n) [k1,k2] AY.1 vs s
def qF(k1 k2:Q2)(n:Nat)(vs:List AV)(s:St):=(by dsimp only[lA,AY,go_sem,Int.reduceOfNat]:lA c F k1 k2 (n+1) vs s=_)
def vE:Un->List Q2->Nat->Q2
 |.z,[k1,k2]=>lA c F k1 k2
 |_,_=>λ_=>kz
def yy:O2:=bW c F (vE c F) BV.1 [x0] s
def BN:=(by dsimp only[yy,BV, ↓vE,go_sem,Int.reduceOfNat]:yy c F x0 s=_)
def AZ:Sh:=(sq sl (sq (sq sl (sq sl (sc (sq sl sl) sl))) (sq (sq sl (sq sl (sc (sq sl sl) sl))) (sq (sq sl (sc (sq sl sl) sl)) (sq (sq sl (sb (sp 0 [1,47,48,49] [(1,[2,3]),(2,[1])] (sq sl (sq (sc sl sl) (sq (sb (sq sl (sq sl (sc (sq sl sl) sl)))) sl)))))) (sq (sq sl (sc (sq sl sl) sl)) (sq sl sl)))))))
def HZ:PX 67 AZ:=⟨_,by conv=>lhs;reduce⟩
def FK:PL 67 AZ 0:=⟨_,by conv=>lhs;reduce⟩
def mo(k1 k2:Q2):Nat->Q2
 |0,_,_=>none
 |n+1,vs,s=>jr c F bY (mo k1 k2 n) [k1,k2] FK.1 vs s
def BO(k1 k2:Q2)(n:Nat)(vs:List AV)(s:St):=(by dsimp only[mo,FK,go_sem,Int.reduceOfNat]:mo c F k1 k2 (n+1) vs s=_)
def A0:Un->List Q2->Nat->Q2
 |.z,[k1,k2]=>mo c F k1 k2
 |_,_=>λ_=>kz
def Ff:O2:=bW c F (A0 c F) HZ.1 [x0] s
def SE:=(by dsimp only[Ff,HZ, ↓A0,go_sem,Int.reduceOfNat]:Ff c F x0 s=_)
def H6:Sh:=(sq sl (sq sl sl))
def H7:PX 68 H6:=⟨_,by conv=>lhs;reduce⟩
def Fg:O2:=bW c F bY H7.1 [] s
def SK:=(by dsimp only[Fg,H7,go_sem,Int.reduceOfNat]:Fg c F s=_)
def yO:Sh:=(sq sl (sj [3,4,5] (sb (sq sl (sc (sq sl sl) (sq sl (sc (sq sl sl) (sq sl (sc (sq sl sl) (sj [3,4,5,28] (sq sl (sc sl (sq sl (sc sl sl)))) (sc (sq sl sl) (sq sl (sc (sq sl sl) (sq sl (sc (sq sl sl) sl))))))))))))) (sq sl (sq (sq sl (sc (sq sl sl) sl)) (sq sl (sj [3,5,9] (sq sl (sc sl sl)) (sq (sq sl (sc (sq sl sl) sl)) (sq sl sl))))))))
def yP:PX 69 yO:=⟨_,by conv=>lhs;reduce⟩
def vF:O2:=bW c F bY yP.1 [x0,x1,x2] s
def Ja:=(by dsimp only[vF,yP,go_sem,Int.reduceOfNat]:vF c F x0 x1 x2 s=_)
def BW:Sh:=(sq sl (sq (sq sl (sb (sq sl (sc (sq sl sl) (sq sl (sc (sq sl sl) (sq sl (sc (sq sl sl) (sq sl (sc (sq sl sl) sl)))))))))) (sq sl sl)))
def BX:PX 76 BW:=⟨_,by conv=>lhs;reduce⟩
def yA:O2:=bW c F bY BX.1 [x0] s
def Ml:=(by dsimp only[yA,BX,go_sem,Int.reduceOfNat]:yA c F x0 s=_)
def CA:Sh:=(sq sl (sq (sq sl (sb (sp 0 [0,3] [(1,[2]),(2,[0])] (sq (sq sl (sc sl sl)) (sq (sb (sq sl (sc (sq sl sl) sl))) sl))))) (sq sl sl)))
def JO:PX 77 CA:=⟨_,by conv=>lhs;reduce⟩
def H8:PL 77 CA 0:=⟨_,by conv=>lhs;reduce⟩
def nH(k1 k2:Q2):Nat->Q2
 |0,_,_=>none
 |n+1,vs,s=>jr c F bY (nH k1 k2 n) [k1,k2] H8.1 vs s
def De(k1 k2:Q2)(n:Nat)(vs:List AV)(s:St):=(by dsimp only[nH,H8,go_sem,Int.reduceOfNat]:nH c F k1 k2 (n+1) vs s=_)
def CB:Un->List Q2->Nat->Q2
 |.z,[k1,k2]=>nH c F k1 k2
 |_,_=>λ_=>kz
def H9:O2:=bW c F (CB c F) JO.1 [x0] s
def To:=(by dsimp only[H9,JO, ↓CB,go_sem,Int.reduceOfNat]:H9 c F x0 s=_)
def iD:Sh:=(sq sl (sq sl sl))
def iE:PX 78 iD:=⟨_,by conv=>lhs;reduce⟩
def fj:O2:=bW c F bY iE.1 [x0,x1] s
def nS:=(by dsimp only[fj,iE,go_sem,Int.reduceOfNat]:fj c F x0 x1 s=_)
def yQ:Sh:=(sq sl (sq sl sl))
def yR:PX 79 yQ:=⟨_,by conv=>lhs;reduce⟩
def vG:O2:=bW c F bY yR.1 [x0,x1] s
def I4:=(by dsimp only[vG,yR,go_sem,Int.reduceOfNat]:vG c F x0 x1 s=_)
def yS:Sh:=(sq sl (sq sl (sq sl sl)))
def yT:PX 80 yS:=⟨_,by conv=>lhs;reduce⟩
def vH:O2:=bW c F bY yT.1 [x0] s
def I8:=(by dsimp only[vH,yT,go_sem,Int.reduceOfNat]:vH c F x0 s=_)
def yU:Sh:=(sq sl (sq sl sl))
def yV:PX 99 yU:=⟨_,by conv=>lhs;reduce⟩
def vI:O2:=bW c F bY yV.1 [x0,x1] s
def I9:=(by dsimp only[vI,yV,go_sem,Int.reduceOfNat]:vI c F x0 x1 s=_)
def MI:Sh:=(sq sl (sq sl sl))
def MJ:PX 100 MI:=⟨_,by conv=>lhs;reduce⟩
def KQ:O2:=bW c F bY MJ.1 [x0,x1] s
def VZ:=(by dsimp only[KQ,MJ,go_sem,Int.reduceOfNat]:KQ c F x0 x1 s=_)
def CC:Sh:=(sq sl (sq (sq sl (sc (sq sl sl) sl)) (sq (sq sl (sb (sp 0 [0,13,14] [(1,[2]),(2,[])] (sq sl (sq (sc sl sl) (sq (sb (sq sl (sq sl (sc (sq sl sl) sl)))) sl)))))) (sq sl sl))))
def JP:PX 101 CC:=⟨_,by conv=>lhs;reduce⟩
def Ia:PL 101 CC 0:=⟨_,by conv=>lhs;reduce⟩
def nG(k1 k2:Q2):Nat->Q2
 |0,_,_=>none
 |n+1,vs,s=>jr c F bY (nG k1 k2 n) [k1,k2] Ia.1 vs s
def Dd(k1 k2:Q2)(n:Nat)(vs:List AV)(s:St):=(by dsimp only[nG,Ia,go_sem,Int.reduceOfNat]:nG c F k1 k2 (n+1) vs s=_)
def CE:Un->List Q2->Nat->Q2
 |.z,[k1,k2]=>nG c F k1 k2
 |_,_=>λ_=>kz
def Ib:O2:=bW c F (CE c F) JP.1 [x0] s
def Tn:=(by dsimp only[Ib,JP, ↓CE,go_sem,Int.reduceOfNat]:Ib c F x0 s=_)
def JQ:Sh:=(sq sl (sq sl (sq (sq sl (sc (sq sl sl) sl)) (sq sl sl))))
def JR:PX 102 JQ:=⟨_,by conv=>lhs;reduce⟩
def Ic:O2:=bW c F bY JR.1 [x0,x1] s
def Tr:=(by dsimp only[Ic,JR,go_sem,Int.reduceOfNat]:Ic c F x0 x1 s=_)
def yW:Sh:=(sq sl (sq (sq sl (sc (sq sl sl) sl)) (sq sl sl)))
def yX:PX 108 yW:=⟨_,by conv=>lhs;reduce⟩
def vJ:O2:=bW c F bY yX.1 [x0,x1] s
def I1:=(by dsimp only[vJ,yX,go_sem,Int.reduceOfNat]:vJ c F x0 x1 s=_)
def A3:Sh:=(sq sl (sq (sq sl (sc (sq sl sl) sl)) (sq sl sl)))
def A4:PX 113 A3:=⟨_,by conv=>lhs;reduce⟩
def w6:O2:=bW c F bY A4.1 [x0,x1] s
def KB:=(by dsimp only[w6,A4,go_sem,Int.reduceOfNat]:w6 c F x0 x1 s=_)
def A5:Sh:=(sq sl (sq (sq sl (sc (sq sl sl) sl)) (sq sl sl)))
def A6:PX 118 A5:=⟨_,by conv=>lhs;reduce⟩
def w7:O2:=bW c F bY A6.1 [x0,x1] s
def KC:=(by dsimp only[w7,A6,go_sem,Int.reduceOfNat]:w7 c F x0 x1 s=_)
def BZ:Sh:=(sq sl (sq (sq sl (sc (sq sl sl) sl)) (sq sl sl)))
def B0:PX 123 BZ:=⟨_,by conv=>lhs;reduce⟩
def yB:O2:=bW c F bY B0.1 [x0,x1] s
def Mj:=(by dsimp only[yB,B0,go_sem,Int.reduceOfNat]:yB c F x0 x1 s=_)
def fC:Sh:=(sq sl (sq (sq sl (sb (sp 0 [0,1,7,8] [(1,[4]),(2,[])] (sq sl (sq (sc sl sl) (sq (sb (sq sl (sq sl (sc (sq sl sl) sl)))) sl)))))) (sq sl sl)))
def jH:PX 128 fC:=⟨_,by conv=>lhs;reduce⟩
def ju:PL 128 fC 0:=⟨_,by conv=>lhs;reduce⟩
def bM(k1 k2:Q2):Nat->Q2
 |0,_,_=>none
 |n+1,vs,s=>jr c F bY (bM k1 k2 n) [k1,k2] ju.1 vs s
def iB(k1 k2:Q2)(n:Nat)(vs:List AV)(s:St):=(by dsimp only[bM,ju,go_sem,Int.reduceOfNat,Int.reduceNegSucc]:bM c F k1 k2 (n+1) vs s=_)
def fD:Un->List Q2->Nat->Q2
 |.z,[k1,k2]=>bM c F k1 k2
 |_,_=>λ_=>kz
def fW:O2:=bW c F (fD c F) jH.1 [x0,x1] s
def pK:=(by dsimp only[fW,jH, ↓fD,go_sem,Int.reduceOfNat,Int.reduceNegSucc]:fW c F x0 x1 s=_)
def vK:Sh:=(sq sl (sq sl (sq (sq sl (sb (sp 0 [1,5,14,15,16] [(1,[2,3,4]),(2,[1,5])] (sq sl (sq (sc sl sl) (sq (sb (sq sl (sq sl (sq sl (sc (sq sl sl) sl))))) sl)))))) (sq (sq sl (sb (sp 1 [1,5,30,31,32] [(1,[2,3,4]),(4,[5])] (sq sl (sq (sc sl sl) (sj [1,5,30,31,32] (sb (sq sl (sq sl (sj [1,5,9,11,30,31,32] (sq sl (sc sl sl)) (sq sl (sc (sq sl sl) sl)))))) sl)))))) (sq sl sl)))))
def Ie:PX 129 vK:=⟨_,by conv=>lhs;reduce⟩
def FM:PL 129 vK 1:=⟨_,by conv=>lhs;reduce⟩
def jt(k1 k4:Q2):Nat->Q2
 |0,_,_=>none
 |n+1,vs,s=>jr c F bY (jt k1 k4 n) [k1,k4] FM.1 vs s
def qh(k1 k4:Q2)(n:Nat)(vs:List AV)(s:St):=(by dsimp only[jt,FM,go_sem,Int.reduceOfNat]:jt c F k1 k4 (n+1) vs s=_)
def FN:PL 129 vK 0:=⟨_,by conv=>lhs;reduce⟩
def gV(k1 k2:Q2):Nat->Q2
 |0,_,_=>none
 |n+1,vs,s=>jr c F bY (gV k1 k2 n) [k1,k2] FN.1 vs s
def qg(k1 k2:Q2)(n:Nat)(vs:List AV)(s:St):=(by dsimp only[gV,FN,go_sem,Int.reduceOfNat]:gV c F k1 k2 (n+1) vs s=_)
def A7:Un->List Q2->Nat->Q2
 |.z,[k1,k2]=>gV c F k1 k2
 |(.s .z),[k1,k4]=>jt c F k1 k4
 |_,_=>λ_=>kz
def uY:O2:=bW c F (A7 c F) Ie.1 [x0] s
def SB:=(by dsimp only[uY,Ie, ↓A7,go_sem,Int.reduceOfNat]:uY c F x0 s=_)
def fE:Sh:=(sq sl (sq (sq sl (sb (sp 0 [0,1,7,8] [(1,[4]),(2,[])] (sq sl (sq (sc sl sl) (sq (sb (sq sl (sq sl (sc (sq sl sl) sl)))) sl)))))) (sq sl sl)))
def jI:PX 144 fE:=⟨_,by conv=>lhs;reduce⟩
def jv:PL 144 fE 0:=⟨_,by conv=>lhs;reduce⟩
def bN(k1 k2:Q2):Nat->Q2
 |0,_,_=>none
 |n+1,vs,s=>jr c F bY (bN k1 k2 n) [k1,k2] jv.1 vs s
def iC(k1 k2:Q2)(n:Nat)(vs:List AV)(s:St):=(by dsimp only[bN,jv,go_sem,Int.reduceOfNat,Int.reduceNegSucc]:bN c F k1 k2 (n+1) vs s=_)
def fG:Un->List Q2->Nat->Q2
 |.z,[k1,k2]=>bN c F k1 k2
 |_,_=>λ_=>kz
def fX:O2:=bW c F (fG c F) jI.1 [x0,x1] s
def pM:=(by dsimp only[fX,jI, ↓fG,go_sem,Int.reduceOfNat,Int.reduceNegSucc]:fX c F x0 x1 s=_)
def Ig:Sh:=(sq sl (sq sl sl))
def Ih:PX 145 Ig:=⟨_,by conv=>lhs;reduce⟩
def Fh:O2:=bW c F bY Ih.1 [x0,x1] s
def SG:=(by dsimp only[Fh,Ih,go_sem,Int.reduceOfNat]:Fh c F x0 x1 s=_)
def FO:Sh:=(sq sl (sq sl sl))
def FP:PX 146 FO:=⟨_,by conv=>lhs;reduce⟩
def CG:O2:=bW c F bY FP.1 [x0,x1] s
def PE:=(by dsimp only[CG,FP,go_sem,Int.reduceOfNat]:CG c F x0 x1 s=_)
def JS:Sh:=(sq sl (sq sl sl))
def JT:PX 172 JS:=⟨_,by conv=>lhs;reduce⟩
def Ii:O2:=bW c F bY JT.1 [] s
def Ts:=(by dsimp only[Ii,JT,go_sem,Int.reduceOfNat]:Ii c F s=_)
def A8:Sh:=(sq sl (sq (sq sl (sc (sq sl sl) sl)) (sq (sq sl (sq sl (sc (sq sl sl) sl))) (sq (sq sl (sq sl (sc (sq sl sl) sl))) (sq (sq sl (sc (sq sl sl) sl)) (sq sl (sq sl (sq sl sl))))))))
def A9:PX 173 A8:=⟨_,by conv=>lhs;reduce⟩
def q9:O2:=bW c F bY A9.1 [x0,x1] s
def oG:=(by dsimp only[q9,A9,go_sem,Int.reduceOfNat]:q9 c F x0 x1 s=_)
def FQ:Sh:=(sq sl (sq (sq sl (sq sl (sc (sq sl sl) sl))) (sq sl sl)))
def FR:PX 174 FQ:=⟨_,by conv=>lhs;reduce⟩
def CH:O2:=bW c F bY FR.1 [x0,x1] s
def PM:=(by dsimp only[CH,FR,go_sem,Int.reduceOfNat]:CH c F x0 x1 s=_)
def tG:Sh:=(sq sl (sq (sq sl (sc (sq sl sl) sl)) (sq (sq sl (sc (sq sl sl) sl)) (sq (sq sl (sb (sp 0 [0,1,2,3,30,31,32] [(1,[8]),(2,[0,1,2,3])] (sq sl (sq (sc sl sl) (sq (sb (sq sl (sq sl (sq sl (sc (sq sl sl) sl))))) sl)))))) (sq sl (sq (sq sl (sc (sq sl sl) sl)) (sq (sq sl (sc (sq sl sl) sl)) (sq sl (sq sl sl)))))))))
def Ba:PX 175 tG:=⟨_,by conv=>lhs;reduce⟩
def yY:PL 175 tG 0:=⟨_,by conv=>lhs;reduce⟩
def ja(k1 k2:Q2):Nat->Q2
 |0,_,_=>none
 |n+1,vs,s=>jr c F bY (ja k1 k2 n) [k1,k2] yY.1 vs s
def pL(k1 k2:Q2)(n:Nat)(vs:List AV)(s:St):=(by dsimp only[ja,yY,go_sem,Int.reduceOfNat]:ja c F k1 k2 (n+1) vs s=_)
def tH:Un->List Q2->Nat->Q2
 |.z,[k1,k2]=>ja c F k1 k2
 |_,_=>λ_=>kz
def ri:O2:=bW c F (tH c F) Ba.1 [x0,x1,x2,x3] s
def oH:=(by dsimp only[ri,Ba, ↓tH,go_sem,Int.reduceOfNat]:ri c F x0 x1 x2 x3 s=_)
def yZ:Sh:=(sq sl (sq sl sl))
def y6:PX 191 yZ:=⟨_,by conv=>lhs;reduce⟩
def vL:O2:=bW c F bY y6.1 [x0] s
def I7:=(by dsimp only[vL,y6,go_sem,Int.reduceOfNat]:vL c F x0 s=_)
def yC:Sh:=(sq sl (sq (sb (sq sl (sc (sq sl sl) (sq sl (sc (sq sl sl) (sq sl (sc (sq sl sl) (sq sl (sc (sq sl sl) sl))))))))) (sq (sq sl (sb (sp 0 [1,52,53,54] [(1,[2]),(3,[])] (sq sl (sq (sc sl sl) (sq (sb (sq sl (sq sl (sc (sq sl sl) sl)))) sl)))))) (sq sl sl))))
def FT:PX 192 yC:=⟨_,by conv=>lhs;reduce⟩
def DC:PL 192 yC 0:=⟨_,by conv=>lhs;reduce⟩
def kJ(k1 k3:Q2):Nat->Q2
 |0,_,_=>none
 |n+1,vs,s=>jr c F bY (kJ k1 k3 n) [k1,k3] DC.1 vs s
def Ay(k1 k3:Q2)(n:Nat)(vs:List AV)(s:St):=(by dsimp only[kJ,DC,go_sem,Int.reduceOfNat]:kJ c F k1 k3 (n+1) vs s=_)
def yD:Un->List Q2->Nat->Q2
 |.z,[k1,k3]=>kJ c F k1 k3
 |_,_=>λ_=>kz
def CI:O2:=bW c F (yD c F) FT.1 [x0] s
def PJ:=(by dsimp only[CI,FT, ↓yD,go_sem,Int.reduceOfNat]:CI c F x0 s=_)
def DD:Sh:=(sq sl (sq sl (sq sl sl)))
def DE:PX 193 DD:=⟨_,by conv=>lhs;reduce⟩
def Bb:O2:=bW c F bY DE.1 [x0] s
def NF:=(by dsimp only[Bb,DE,go_sem,Int.reduceOfNat]:Bb c F x0 s=_)
def y9:Sh:=(sq sl (sq sl sl))
def zc:PX 194 y9:=⟨_,by conv=>lhs;reduce⟩
def vM:O2:=bW c F bY zc.1 [x0,x1] s
def I6:=(by dsimp only[vM,zc,go_sem,Int.reduceOfNat]:vM c F x0 x1 s=_)
def ya:Sh:=(sq sl (sq sl sl))
def yb:PX 195 ya:=⟨_,by conv=>lhs;reduce⟩
def tI:O2:=bW c F bY yb.1 [x0,x1,x2] s
def HB:=(by dsimp only[tI,yb,go_sem,Int.reduceOfNat]:tI c F x0 x1 x2 s=_)
def lM:Sh:=(sq sl (sq sl (sq sl (sq (sq sl (sc (sq sl sl) sl)) (sq sl (sq (sq sl (sc (sq sl sl) sl)) (sq (sq sl (sc (sq sl (sq sl (sq sl (sq sl sl)))) sl)) (sq sl (sq (sq sl (sc (sq sl (sq sl (sq sl sl))) sl)) (sq sl (sq sl (sq sl sl))))))))))))
def lO:PX 196 lM:=⟨_,by conv=>lhs;reduce⟩
def jw:O2:=bW c F bY lO.1 [x0,x1,x2] s
def ur:=(by dsimp only[jw,lO,go_sem,Int.reduceOfNat]:jw c F x0 x1 x2 s=_)
def Ij:Sh:=(sq sl (sq sl sl))
def Ik:PX 197 Ij:=⟨_,by conv=>lhs;reduce⟩
def Fi:O2:=bW c F bY Ik.1 [x0,x1,x2] s
def Sq:=(by dsimp only[Fi,Ik,go_sem,Int.reduceOfNat]:Fi c F x0 x1 x2 s=_)
def Bc:Sh:=(sq sl (sq (sq sl (sc (sq sl sl) sl)) (sq (sq sl (sb (sp 0 [0,13,14] [(1,[2]),(2,[])] (sq sl (sq (sc sl sl) (sq (sb (sq sl (sq sl (sc (sq sl sl) sl)))) sl)))))) (sq sl sl))))
def Il:PX 220 Bc:=⟨_,by conv=>lhs;reduce⟩
def FU:PL 220 Bc 0:=⟨_,by conv=>lhs;reduce⟩
def mh(k1 k2:Q2):Nat->Q2
 |0,_,_=>none
 |n+1,vs,s=>jr c F bY (mh k1 k2 n) [k1,k2] FU.1 vs s
def BL(k1 k2:Q2)(n:Nat)(vs:List AV)(s:St):=(by dsimp only[mh,FU,go_sem,Int.reduceOfNat]:mh c F k1 k2 (n+1) vs s=_)
def Bd:Un->List Q2->Nat->Q2
 |.z,[k1,k2]=>mh c F k1 k2
 |_,_=>λ_=>kz
def Fj:O2:=bW c F (Bd c F) Il.1 [x0] s
def Sd:=(by dsimp only[Fj,Il, ↓Bd,go_sem,Int.reduceOfNat]:Fj c F x0 s=_)
def Im:Sh:=(sq sl (sq sl sl))
def Io:PX 221 Im:=⟨_,by conv=>lhs;reduce⟩
def Fk:O2:=bW c F bY Io.1 [x0] s
def Si:=(by dsimp only[Fk,Io,go_sem,Int.reduceOfNat]:Fk c F x0 s=_)
def nP:Sh:=(sq sl (sq (sq sl (sc (sq sl sl) sl)) (sq sl sl)))
def nQ:PX 222 nP:=⟨_,by conv=>lhs;reduce⟩
def kg:O2:=bW c F bY nQ.1 [x0] s
def nL:=(by dsimp only[kg,nQ,go_sem,Int.reduceOfNat]:kg c F x0 s=_)
def rJ:Sh:=(sq sl (sq sl sl))
def rK:PX 223 rJ:=⟨_,by conv=>lhs;reduce⟩
def nR:O2:=bW c F bY rK.1 [x0,x1] s
def Bf:=(by dsimp only[nR,rK,go_sem,Int.reduceOfNat]:nR c F x0 x1 s=_)
def dm:Sh:=(sq sl (sq sl (sq sl (sq (sb (sp 0 [0,2,4,8,9,10] [(2,[0,2,4,8,9])] (sq (sq sl (sc sl sl)) (sb (sq sl (sq sl (sc sl sl))))))) (sq sl sl)))))
def fQ:PX 224 dm:=⟨_,by conv=>lhs;reduce⟩
def fN:PL 224 dm 0:=⟨_,by conv=>lhs;reduce⟩
def aN(k2:Q2):Nat->Q2
 |0,_,_=>none
 |n+1,vs,s=>jr c F bY (aN k2 n) [k2] fN.1 vs s
def cN(k2:Q2)(n:Nat)(vs:List AV)(s:St):=(by dsimp only[aN,fN,go_sem,Int.reduceOfNat]:aN c F k2 (n+1) vs s=_)
def dw:Un->List Q2->Nat->Q2
 |.z,[k2]=>aN c F k2
 |_,_=>λ_=>kz
def dG:O2:=bW c F (dw c F) fQ.1 [x0,x1,x2] s
def kK:=(by dsimp only[dG,fQ, ↓dw,go_sem,Int.reduceOfNat]:dG c F x0 x1 x2 s=_)
end
section
variable{c:ai}(hc:Sem c)(F:Nat){x0 x1 x2 x3 x4 x5 x6 x7 x8 x9 R8 R9:AV}{s:St}{r:AV×St}
include hc
theorem NA(h:E8 c F x0 s=some r):c 30 [x0] s=some (tidy s r):=hc.o0 F HR (by kernel_rfl) (by kernel_rfl) h
theorem Dg(h:E9 c F x0 x1 s=some r):c 41 [x0,x1] s=some (tidy s r):=hc.o1 F (AS c F) AR (by kernel_rfl) (by kernel_rfl) (λ_ _ _=>by kernel_rfl) (λ_ _ _ _=>by kernel_rfl) (by kernel_rfl) h
theorem Nz(h:Fa c F x0 s=some r):c 47 [x0] s=some (tidy s r):=hc.o0 F HU (by kernel_rfl) (by kernel_rfl) h
theorem I5(h:yx c F x0 s=some r):c 48 [x0] s=some (tidy s r):=hc.o0 F BT (by kernel_rfl) (by kernel_rfl) h
theorem Dm(h:Fb c F x0 s=some r):c 49 [x0] s=some (tidy s r):=hc.o1 F (AU c F) AT (by kernel_rfl) (by kernel_rfl) (λ_ _ _=>by kernel_rfl) (λ_ _ _ _=>by kernel_rfl) (by kernel_rfl) h
theorem PB(h:HX c F x0 s=some r):c 63 [x0] s=some (tidy s r):=hc.o0 F JM (by kernel_rfl) (by kernel_rfl) h
theorem Nx(h:Fe c F x0 s=some r):c 64 [x0] s=some (tidy s r):=hc.o1 F (AX c F) AW (by kernel_rfl) (by kernel_rfl) (λ_ _ _=>by kernel_rfl) (λ_ _ _ _=>by kernel_rfl) (by kernel_rfl) h
theorem yL(h:yy c F x0 s=some r):c 66 [x0] s=some (tidy s r):=hc.o1 F (vE c F) vD (by kernel_rfl) (by kernel_rfl) (λ_ _ _=>by kernel_rfl) (λ_ _ _ _=>by kernel_rfl) (by kernel_rfl) h
theorem NJ(h:Ff c F x0 s=some r):c 67 [x0] s=some (tidy s r):=hc.o1 F (A0 c F) AZ (by kernel_rfl) (by kernel_rfl) (λ_ _ _=>by kernel_rfl) (λ_ _ _ _=>by kernel_rfl) (by kernel_rfl) h
theorem NL(h:Fg c F s=some r):c 68 [] s=some (tidy s r):=hc.o0 F H6 (by kernel_rfl) (by kernel_rfl) h
theorem F8(h:vF c F x0 x1 x2 s=some r):c 69 [x0,x1,x2] s=some (tidy s r):=hc.o0 F yO (by kernel_rfl) (by kernel_rfl) h
theorem I3(h:yA c F x0 s=some r):c 76 [x0] s=some (tidy s r):=hc.o0 F BW (by kernel_rfl) (by kernel_rfl) h
theorem PD(h:H9 c F x0 s=some r):c 77 [x0] s=some (tidy s r):=hc.o1 F (CB c F) CA (by kernel_rfl) (by kernel_rfl) (λ_ _ _=>by kernel_rfl) (λ_ _ _ _=>by kernel_rfl) (by kernel_rfl) h
theorem ni(h:fj c F x0 x1 s=some r):c 78 [x0,x1] s=some (tidy s r):=hc.o0 F iD (by kernel_rfl) (by kernel_rfl) h
theorem FX(h:vG c F x0 x1 s=some r):c 79 [x0,x1] s=some (tidy s r):=hc.o0 F yQ (by kernel_rfl) (by kernel_rfl) h
theorem F0(h:vH c F x0 s=some r):c 80 [x0] s=some (tidy s r):=hc.o0 F yS (by kernel_rfl) (by kernel_rfl) h
theorem F7(h:vI c F x0 x1 s=some r):c 99 [x0,x1] s=some (tidy s r):=hc.o0 F yU (by kernel_rfl) (by kernel_rfl) h
theorem SH(h:KQ c F x0 x1 s=some r):c 100 [x0,x1] s=some (tidy s r):=hc.o0 F MI (by kernel_rfl) (by kernel_rfl) h
theorem PC(h:Ib c F x0 s=some r):c 101 [x0] s=some (tidy s r):=hc.o1 F (CE c F) CC (by kernel_rfl) (by kernel_rfl) (λ_ _ _=>by kernel_rfl) (λ_ _ _ _=>by kernel_rfl) (by kernel_rfl) h
theorem PI(h:Ic c F x0 x1 s=some r):c 102 [x0,x1] s=some (tidy s r):=hc.o0 F JQ (by kernel_rfl) (by kernel_rfl) h
theorem FW(h:vJ c F x0 x1 s=some r):c 108 [x0,x1] s=some (tidy s r):=hc.o0 F yW (by kernel_rfl) (by kernel_rfl) h
theorem Hv(h:w6 c F x0 x1 s=some r):c 113 [x0,x1] s=some (tidy s r):=hc.o0 F A3 (by kernel_rfl) (by kernel_rfl) h
theorem Hw(h:w7 c F x0 x1 s=some r):c 118 [x0,x1] s=some (tidy s r):=hc.o0 F A5 (by kernel_rfl) (by kernel_rfl) h
theorem I2(h:yB c F x0 x1 s=some r):c 123 [x0,x1] s=some (tidy s r):=hc.o0 F BZ (by kernel_rfl) (by kernel_rfl) h
theorem oE(h:fW c F x0 x1 s=some r):c 128 [x0,x1] s=some (tidy s r):=hc.o1 F (fD c F) fC (by kernel_rfl) (by kernel_rfl) (λ_ _ _=>by kernel_rfl) (λ_ _ _ _=>by kernel_rfl) (by kernel_rfl) h
theorem NI(h:uY c F x0 s=some r):c 129 [x0] s=some (tidy s r):=hc.oL F (A7 c F) vK 2 (by kernel_rfl) (λi hi=>match i,hi with|0,_=>jM 0 (by kernel_rfl) (λ_ _ _=>by kernel_rfl) (λ_ _ _ _=>by kernel_rfl)|1,_=>jM 1 (by kernel_rfl) (λ_ _ _=>by kernel_rfl) (λ_ _ _ _=>by kernel_rfl)|n+2,h=>absurd h (by omega)) (by kernel_rfl) h
theorem oI(h:fX c F x0 x1 s=some r):c 144 [x0,x1] s=some (tidy s r):=hc.o1 F (fG c F) fE (by kernel_rfl) (by kernel_rfl) (λ_ _ _=>by kernel_rfl) (λ_ _ _ _=>by kernel_rfl) (by kernel_rfl) h
theorem NK(h:Fh c F x0 x1 s=some r):c 145 [x0,x1] s=some (tidy s r):=hc.o0 F Ig (by kernel_rfl) (by kernel_rfl) h
theorem Ms(h:CG c F x0 x1 s=some r):c 146 [x0,x1] s=some (tidy s r):=hc.o0 F FO (by kernel_rfl) (by kernel_rfl) h
theorem PO(h:Ii c F s=some r):c 172 [] s=some (tidy s r):=hc.o0 F JS (by kernel_rfl) (by kernel_rfl) h
theorem xW(h:q9 c F x0 x1 s=some r):c 173 [x0,x1] s=some (tidy s r):=hc.o0 F A8 (by kernel_rfl) (by kernel_rfl) h
theorem My(h:CH c F x0 x1 s=some r):c 174 [x0,x1] s=some (tidy s r):=hc.o0 F FQ (by kernel_rfl) (by kernel_rfl) h
theorem qI(h:ri c F x0 x1 x2 x3 s=some r):c 175 [x0,x1,x2,x3] s=some (tidy s r):=hc.o1 F (tH c F) tG (by kernel_rfl) (by kernel_rfl) (λ_ _ _=>by kernel_rfl) (λ_ _ _ _=>by kernel_rfl) (by kernel_rfl) h
theorem FZ(h:vL c F x0 s=some r):c 191 [x0] s=some (tidy s r):=hc.o0 F yZ (by kernel_rfl) (by kernel_rfl) h
theorem Mw(h:CI c F x0 s=some r):c 192 [x0] s=some (tidy s r):=hc.o1 F (yD c F) yC (by kernel_rfl) (by kernel_rfl) (λ_ _ _=>by kernel_rfl) (λ_ _ _ _=>by kernel_rfl) (by kernel_rfl) h
theorem KG(h:Bb c F x0 s=some r):c 193 [x0] s=some (tidy s r):=hc.o0 F DD (by kernel_rfl) (by kernel_rfl) h
theorem FY(h:vM c F x0 x1 s=some r):c 194 [x0,x1] s=some (tidy s r):=hc.o0 F y9 (by kernel_rfl) (by kernel_rfl) h
theorem EP(h:tI c F x0 x1 x2 s=some r):c 195 [x0,x1,x2] s=some (tidy s r):=hc.o0 F ya (by kernel_rfl) (by kernel_rfl) h
theorem sF(h:jw c F x0 x1 x2 s=some r):c 196 [x0,x1,x2] s=some (tidy s r):=hc.o0 F lM (by kernel_rfl) (by kernel_rfl) h
theorem ND(h:Fi c F x0 x1 x2 s=some r):c 197 [x0,x1,x2] s=some (tidy s r):=hc.o0 F Ij (by kernel_rfl) (by kernel_rfl) h
theorem Nt(h:Fj c F x0 s=some r):c 220 [x0] s=some (tidy s r):=hc.o1 F (Bd c F) Bc (by kernel_rfl) (by kernel_rfl) (λ_ _ _=>by kernel_rfl) (λ_ _ _ _=>by kernel_rfl) (by kernel_rfl) h
theorem Nw(h:Fk c F x0 s=some r):c 221 [x0] s=some (tidy s r):=hc.o0 F Im (by kernel_rfl) (by kernel_rfl) h
theorem mG(h:kg c F x0 s=some r):c 222 [x0] s=some (tidy s r):=hc.o0 F nP (by kernel_rfl) (by kernel_rfl) h
theorem zx(h:nR c F x0 x1 s=some r):c 223 [x0,x1] s=some (tidy s r):=hc.o0 F rJ (by kernel_rfl) (by kernel_rfl) h
theorem kA(h:dG c F x0 x1 x2 s=some r):c 224 [x0,x1,x2] s=some (tidy s r):=hc.o1 F (dw c F) dm (by kernel_rfl) (by kernel_rfl) (λ_ _ _=>by kernel_rfl) (λ_ _ _ _=>by kernel_rfl) (by kernel_rfl) h
end
end
end Go.Proofs.YtoeleelojgimfaaGreatDoor
