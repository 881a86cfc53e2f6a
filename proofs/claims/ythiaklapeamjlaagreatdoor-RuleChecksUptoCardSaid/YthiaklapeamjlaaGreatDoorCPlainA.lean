/- The check functions of the program and of the reference as plain functions. -/
import Derived.Test.YthiaklapeamjlaaGreatDoorCTabs
import Derived.Test.YthiaklapeamjlaaGreatDoorCEvalD
import Derived.Test.YthiaklapeamjlaaGreatDoorCEvalE
set_option linter.all false
set_option linter.unusedSectionVars false
set_option linter.deprecated false
namespace Go.Proofs.YthiaklapeamjlaaGreatDoor
noncomputable section
open Go Go.Ai Go.Proofs
def Fx:dQ:=xw [(328,Bh),(18,QE)]
def Sem (c:ak):Prop:=c=run Fx gg
def gA (f:Nat):cL:=tA gg f
abbrev PX (f:Nat) (s:Sh):={a:Tx // txF (gA f) s=a}
abbrev PL (f:Nat) (s:Sh) (i:Nat):={a:List Pos×Tx // txL (iI (gA f) s i)=a}
theorem Sem.o0 {c:ak} (hc:Sem c) (F:Nat) {f:FuncId} {args:List AV} {st:St} {r:AV×St} (s:Sh) (hk:(AN (Fx f)&& !AN (gg.get (key f))&&(eW (gA f).code s).isEmpty)=true)
  {k:O2} (hd:Ii c F (YX []) (gA f) s args st=k) (h:k=some r):c f args st=some (tidy st r):=by
 subst hc;exact acV s hk hd h
theorem Sem.o1 {c:ak} (hc:Sem c) (F:Nat) {f:FuncId} {args:List AV} {st:St} {r:AV×St} (Ls:Un->List Q2->Nat->Q2) (s:Sh) (hk:(AN (Fx f)&& !AN (gg.get (key f))&&Nat.beq (eW (gA f).code s).length 1)=true)
  (hs:(ZX (iI (gA f) s 0).2&&Nat.beq (lpJ (iI (gA f) s 0).2) 0)=true) (h0: ∀K' vs st,zx Ls (gA f) s 0 K' 0 vs st=none)
  (h1: ∀K' n vs st,zx Ls (gA f) s 0 K' (n+1) vs st=On (den c F (zx Ls (gA f) s) (iI (gA f) s 0).1 (lpB (iI (gA f) s 0).2)) (lpI (iI (gA f) s 0).2) (lpO (iI (gA f) s 0).2) K' (zx Ls (gA f) s 0 K' n) vs st)
  {k:O2} (hd:Ii c F (zx Ls (gA f) s) (gA f) s args st=k) (h:k=some r):c f args st=some (tidy st r):=by
 subst hc;exact aiQ Ls s hk hs h0 h1 hd h
theorem Sem.oL {c:ak} (hc:Sem c) (F:Nat) {f:FuncId} {args:List AV} {st:St} {r:AV×St} (Ls:Un->List Q2->Nat->Q2) (s:Sh) (n:Nat) (hk:(AN (Fx f)&& !AN (gg.get (key f))&&Nat.beq (eW (gA f).code s).length n)=true)
  (hL: ∀i,i<n->BJ c F (zx Ls (gA f) s) (iI (gA f) s i).1 (iI (gA f) s i).2) {k:O2} (hd:Ii c F (zx Ls (gA f) s) (gA f) s args st=k) (h:k=some r):c f args st=some (tidy st r):=by
 subst hc;exact acW Ls s n hk hL hd h
end
noncomputable section
set_option linter.all false
set_option maxRecDepth 100000
set_option maxHeartbeats 4000000
open Go Go.Ai Go.Proofs
attribute [local go_sem ↓] aW QG ev evX EY getLT Hf aag kat D4 D5 VP aah aai aaj VQ VR VS VT VU VV aak aal VW VX VY VZ V8 adS adT adU
attribute [local go_sem] aW QG ev
section
variable (c : ak) (F : Nat) (x0 x1 x2 x3 x4 x5 x6 x7 x8 x9 x10 x11 : AV) (s : St)
def FA:Sh:=(sq sl (sq sl sl))
def FB:PX 19 FA:=⟨_,by conv=>lhs;reduce⟩
def Bv:O2:=aW c F aV FB.1 [x0,x1] s
def Ts:=(by dsimp only[Bv,FB,go_sem,Int.reduceOfNat]:Bv c F x0 x1 s=_)
def FC:Sh:=(sq sl (sq (sq sl (sq sl (sc (sq sl sl) sl))) (sq sl (sq (sq sl (sb (sp 0 [1,6,21,22,23] [(1,[2,3]),(2,[])] (sq sl (sq (sc sl sl) (sq (sb (sq sl (sq (sq sl (sq sl (sc (sq sl sl) sl))) (sq sl (sc (sq sl sl) sl))))) sl)))))) (sq sl sl)))))
def Ph:PX 21 FC:=⟨_,by conv=>lhs;reduce⟩
def MM:PL 21 FC 0:=⟨_,by conv=>lhs;reduce⟩
def rX (k1 k2:Q2):Nat->Q2
 |0,_,_=>none
 |n+1,vs,s=>eo c F aV (rX k1 k2 n) [k1,k2] MM.1 vs s
def zH (k1 k2:Q2) (n:Nat) (vs:List AV) (s:St):=(by dsimp only[rX,MM,go_sem,Int.reduceOfNat]:rX c F k1 k2 (n+1) vs s=_)
def FD:Un->List Q2->Nat->Q2
 | .z,[k1,k2]=>rX c F k1 k2
 |_,_=>fun _=>eZ
def LW:O2:=aW c F (FD c F) Ph.1 [x0] s
def OL:=(by dsimp only[LW,Ph, ↓FD,go_sem,Int.reduceOfNat]:LW c F x0 s=_)
def qX:Sh:=(sq sl (sq sl (sq (sq sl (sc (sq sl sl) sl)) (sq (sq sl (sb (sp 0 [1,6] [(1,[2,3]),(2,[])] (sq (sq sl (sc sl sl)) (sq (sb (sq (sq sl (sq sl (sc (sq sl sl) sl))) (sq sl (sc (sq sl sl) sl)))) sl))))) (sq sl sl)))))
def zN:PX 23 qX:=⟨_,by conv=>lhs;reduce⟩
def yx:PL 23 qX 0:=⟨_,by conv=>lhs;reduce⟩
def gp (k1 k2:Q2):Nat->Q2
 |0,_,_=>none
 |n+1,vs,s=>eo c F aV (gp k1 k2 n) [k1,k2] yx.1 vs s
def nD (k1 k2:Q2) (n:Nat) (vs:List AV) (s:St):=(by dsimp only[gp,yx,go_sem,Int.reduceOfNat]:gp c F k1 k2 (n+1) vs s=_)
def qY:Un->List Q2->Nat->Q2
 | .z,[k1,k2]=>gp c F k1 k2
 |_,_=>fun _=>eZ
def uF:O2:=aW c F (qY c F) zN.1 [x0] s
def LO:=(by dsimp only[uF,zN, ↓qY,go_sem,Int.reduceOfNat]:uF c F x0 s=_)
def FE:Sh:=(sq sl (sq (sq sl (sq sl (sc (sq sl sl) sl))) (sq (sq sl (sq sl (sc (sq sl sl) sl))) (sq (sq sl (sc (sq sl sl) sl)) (sq (sq sl (sb (sp 0 [1,47,48,49] [(1,[2,3]),(2,[1])] (sq sl (sq (sc sl sl) (sq (sb (sq sl (sq sl (sc (sq sl sl) sl)))) sl)))))) (sq (sq sl (sc (sq sl sl) sl)) (sq sl sl)))))))
def Pj:PX 66 FE:=⟨_,by conv=>lhs;reduce⟩
def MN:PL 66 FE 0:=⟨_,by conv=>lhs;reduce⟩
def nU (k1 k2:Q2):Nat->Q2
 |0,_,_=>none
 |n+1,vs,s=>eo c F aV (nU k1 k2 n) [k1,k2] MN.1 vs s
def Hr (k1 k2:Q2) (n:Nat) (vs:List AV) (s:St):=(by dsimp only[nU,MN,go_sem,Int.reduceOfNat]:nU c F k1 k2 (n+1) vs s=_)
def FF:Un->List Q2->Nat->Q2
 | .z,[k1,k2]=>nU c F k1 k2
 |_,_=>fun _=>eZ
def LX:O2:=aW c F (FF c F) Pj.1 [x0] s
def aaM:=(by dsimp only[LX,Pj, ↓FF,go_sem,Int.reduceOfNat]:LX c F x0 s=_)
def Pk:Sh:=(sq sl (sq sl sl))
def Pm:PX 67 Pk:=⟨_,by conv=>lhs;reduce⟩
def LY:O2:=aW c F aV Pm.1 [] s
def aaS:=(by dsimp only[LY,Pm,go_sem,Int.reduceOfNat]:LY c F s=_)
def C9:Sh:=(sq sl (sj [3,4,5] (sb (sq sl (sc (sq sl sl) (sq sl (sc (sq sl sl) (sq sl (sc (sq sl sl) (sj [3,4,5,28] (sq sl (sc sl (sq sl (sc sl sl)))) (sc (sq sl sl) (sq sl (sc (sq sl sl) (sq sl (sc (sq sl sl) sl))))))))))))) (sq sl (sq (sq sl (sc (sq sl sl) sl)) (sq sl (sj [3,5,9] (sq sl (sc sl sl)) (sq (sq sl (sc (sq sl sl) sl)) (sq sl sl))))))))
def Da:PX 68 C9:=⟨_,by conv=>lhs;reduce⟩
def zO:O2:=aW c F aV Da.1 [x0,x1,x2] s
def Rg:=(by dsimp only[zO,Da,go_sem,Int.reduceOfNat]:zO c F x0 x1 x2 s=_)
def FG:Sh:=(sq sl (sq (sq sl (sc (sq sl sl) sl)) (sq sl (sq (sq sl (sb (sp 0 [5,23,24,25] [(2,[5])] (sq sl (sq (sc sl sl) (sq (sb (sq sl sl)) sl)))))) (sq sl sl)))))
def Pn:PX 70 FG:=⟨_,by conv=>lhs;reduce⟩
def MO:PL 70 FG 0:=⟨_,by conv=>lhs;reduce⟩
def rV (k2:Q2):Nat->Q2
 |0,_,_=>none
 |n+1,vs,s=>eo c F aV (rV k2 n) [k2] MO.1 vs s
def zz (k2:Q2) (n:Nat) (vs:List AV) (s:St):=(by dsimp only[rV,MO,go_sem,Int.reduceOfNat]:rV c F k2 (n+1) vs s=_)
def FH:Un->List Q2->Nat->Q2
 | .z,[k2]=>rV c F k2
 |_,_=>fun _=>eZ
def LZ:O2:=aW c F (FH c F) Pn.1 [x0,x1] s
def OH:=(by dsimp only[LZ,Pn, ↓FH,go_sem,Int.reduceOfNat]:LZ c F x0 x1 s=_)
def Po:Sh:=(sq sl (sq (sq sl (sc (sq sl sl) sl)) (sq sl sl)))
def Pp:PX 71 Po:=⟨_,by conv=>lhs;reduce⟩
def L8:O2:=aW c F aV Pp.1 [x0] s
def aay:=(by dsimp only[L8,Pp,go_sem,Int.reduceOfNat]:L8 c F x0 s=_)
def zP:Sh:=(sq sl (sq sl (sq (sq sl (sb (sp 0 [1,5,14,15,16] [(1,[2,3,4]),(2,[1,5])] (sq sl (sq (sc sl sl) (sq (sb (sq sl (sq sl (sq sl (sc (sq sl sl) sl))))) sl)))))) (sq (sq sl (sb (sp 1 [1,5,30,31,32] [(1,[2,3,4]),(4,[5])] (sq sl (sq (sc sl sl) (sj [1,5,30,31,32] (sb (sq sl (sq sl (sj [1,5,9,11,30,31,32] (sq sl (sc sl sl)) (sq sl (sc (sq sl sl) sl)))))) sl)))))) (sq sl sl)))))
def Pq:PX 80 zP:=⟨_,by conv=>lhs;reduce⟩
def MP:PL 80 zP 1:=⟨_,by conv=>lhs;reduce⟩
def jH (k1 k4:Q2):Nat->Q2
 |0,_,_=>none
 |n+1,vs,s=>eo c F aV (jH k1 k4 n) [k1,k4] MP.1 vs s
def tD (k1 k4:Q2) (n:Nat) (vs:List AV) (s:St):=(by dsimp only[jH,MP,go_sem,Int.reduceOfNat]:jH c F k1 k4 (n+1) vs s=_)
def MQ:PL 80 zP 0:=⟨_,by conv=>lhs;reduce⟩
def iF (k1 k2:Q2):Nat->Q2
 |0,_,_=>none
 |n+1,vs,s=>eo c F aV (iF k1 k2 n) [k1,k2] MQ.1 vs s
def tC (k1 k2:Q2) (n:Nat) (vs:List AV) (s:St):=(by dsimp only[iF,MQ,go_sem,Int.reduceOfNat]:iF c F k1 k2 (n+1) vs s=_)
def FI:Un->List Q2->Nat->Q2
 | .z,[k1,k2]=>iF c F k1 k2
 |(.s .z),[k1,k4]=>jH c F k1 k4
 |_,_=>fun _=>eZ
def zF:O2:=aW c F (FI c F) Pq.1 [x0] s
def aaK:=(by dsimp only[zF,Pq, ↓FI,go_sem,Int.reduceOfNat]:zF c F x0 s=_)
def qZ:Sh:=(sq sl (sq sl (sq (sq sl (sc (sq sl sl) sl)) (sq sl (sq (sq sl (sc (sq sl sl) sl)) (sq (sq sl (sc (sq sl sl) sl)) (sq (sq sl (sb (sp 0 [1,7] [(1,[2,3]),(2,[1])] (sq (sq sl (sc sl sl)) (sq (sb (sq sl (sc (sq sl sl) sl))) sl))))) (sq (sq sl (sc (sq sl sl) sl)) (sq sl sl)))))))))
def zQ:PX 83 qZ:=⟨_,by conv=>lhs;reduce⟩
def yy:PL 83 qZ 0:=⟨_,by conv=>lhs;reduce⟩
def fZ (k1 k2:Q2):Nat->Q2
 |0,_,_=>none
 |n+1,vs,s=>eo c F aV (fZ k1 k2 n) [k1,k2] yy.1 vs s
def vz (k1 k2:Q2) (n:Nat) (vs:List AV) (s:St):=(by dsimp only[fZ,yy,go_sem,Int.reduceOfNat]:fZ c F k1 k2 (n+1) vs s=_)
def rf:Un->List Q2->Nat->Q2
 | .z,[k1,k2]=>fZ c F k1 k2
 |_,_=>fun _=>eZ
def uG:O2:=aW c F (rf c F) zQ.1 [x0] s
def LI:=(by dsimp only[uG,zQ, ↓rf,go_sem,Int.reduceOfNat]:uG c F x0 s=_)
def zR:Sh:=(sq sl (sq sl (sq (sq sl (sc (sq sl sl) sl)) (sq (sq sl (sc (sq sl sl) sl)) (sq (sq sl (sc (sq sl sl) sl)) (sq (sq sl (sc (sq sl sl) sl)) (sq (sq sl (sc (sq sl sl) sl)) (sq (sq sl (sc (sq sl sl) sl)) (sq (sq sl (sc (sq sl sl) sl)) (sq sl (sq (sq sl (sc (sq sl sl) sl)) (sq sl (sq sl (sj [2,3,5,6,7,8] (sq sl (sc sl sl)) (sj [3,5,7,8] (sq sl (sc sl sl)) (sq (sq sl (sc (sq sl sl) sl)) (sq sl sl)))))))))))))))))
def zS:PX 84 zR:=⟨_,by conv=>lhs;reduce⟩
def uH:O2:=aW c F aV zS.1 [x0,x1] s
def LN:=(by dsimp only[uH,zS,go_sem,Int.reduceOfNat]:uH c F x0 x1 s=_)
def ri:Sh:=(sq sl (sq sl (sq (sq sl (sb (sp 0 [0,1,5,6] [(2,[5])] (sq (sq sl (sc sl sl)) (sq (sb sl) sl))))) (sq sl sl))))
def zU:PX 119 ri:=⟨_,by conv=>lhs;reduce⟩
def yA:PL 119 ri 0:=⟨_,by conv=>lhs;reduce⟩
def gh (k2:Q2):Nat->Q2
 |0,_,_=>none
 |n+1,vs,s=>eo c F aV (gh k2 n) [k2] yA.1 vs s
def vA (k2:Q2) (n:Nat) (vs:List AV) (s:St):=(by dsimp only[gh,yA,go_sem,Int.reduceOfNat]:gh c F k2 (n+1) vs s=_)
def rj:Un->List Q2->Nat->Q2
 | .z,[k2]=>gh c F k2
 |_,_=>fun _=>eZ
def uI:O2:=aW c F (rj c F) zU.1 [x0,x1] s
def LF:=(by dsimp only[uI,zU, ↓rj,go_sem,Int.reduceOfNat]:uI c F x0 x1 s=_)
def AT:Sh:=(sq sl (sj [] (sq sl (sb (sq sl (sc (sq sl (sc (sq sl sl) sl)) (sq sl (sc (sq sl (sc (sq sl sl) sl)) (sq sl (sc (sq sl (sc (sq sl sl) sl)) (sq sl (sc (sq sl (sc (sq sl sl) sl)) sl)))))))))) (sq sl sl)))
def AU:PX 120 AT:=⟨_,by conv=>lhs;reduce⟩
def vW:O2:=aW c F aV AU.1 [x0] s
def Nq:=(by dsimp only[vW,AU,go_sem,Int.reduceOfNat]:vW c F x0 s=_)
def zV:Sh:=(sq sl (sq (sq sl (sc (sq sl sl) sl)) (sq (sq sl (sb (sp 0 [0,10,11,12] [(1,[2,3]),(2,[])] (sq sl (sq (sc sl sl) (sq (sb (sq sl (sq (sq sl (sq sl (sc (sq sl sl) sl))) (sq sl (sc (sq sl sl) sl))))) sl)))))) (sq sl sl))))
def Hx:PX 130 zV:=⟨_,by conv=>lhs;reduce⟩
def FJ:PL 130 zV 0:=⟨_,by conv=>lhs;reduce⟩
def mK (k1 k2:Q2):Nat->Q2
 |0,_,_=>none
 |n+1,vs,s=>eo c F aV (mK k1 k2 n) [k1,k2] FJ.1 vs s
def uq (k1 k2:Q2) (n:Nat) (vs:List AV) (s:St):=(by dsimp only[mK,FJ,go_sem,Int.reduceOfNat]:mK c F k1 k2 (n+1) vs s=_)
def zW:Un->List Q2->Nat->Q2
 | .z,[k1,k2]=>mK c F k1 k2
 |_,_=>fun _=>eZ
def CH:O2:=aW c F (zW c F) Hx.1 [x0] s
def Hi:=(by dsimp only[CH,Hx, ↓zW,go_sem,Int.reduceOfNat]:CH c F x0 s=_)
def Db:Sh:=(sq sl (sq sl (sq sl sl)))
def Dc:PX 131 Db:=⟨_,by conv=>lhs;reduce⟩
def zX:O2:=aW c F aV Dc.1 [x0] s
def Re:=(by dsimp only[zX,Dc,go_sem,Int.reduceOfNat]:zX c F x0 s=_)
def Dd:Sh:=(sq sl (sq sl sl))
def De:PX 150 Dd:=⟨_,by conv=>lhs;reduce⟩
def zY:O2:=aW c F aV De.1 [x0,x1] s
def Rf:=(by dsimp only[zY,De,go_sem,Int.reduceOfNat]:zY c F x0 x1 s=_)
def Vk:Sh:=(sq sl (sq sl sl))
def Vl:PX 151 Vk:=⟨_,by conv=>lhs;reduce⟩
def TA:O2:=aW c F aV Vl.1 [x0,x1] s
def ad8:=(by dsimp only[TA,Vl,go_sem,Int.reduceOfNat]:TA c F x0 x1 s=_)
def IM:Sh:=(sq sl (sq (sq sl (sc (sq sl sl) sl)) (sq (sq sl (sb (sp 0 [0,13,14] [(1,[2]),(2,[])] (sq sl (sq (sc sl sl) (sq (sb (sq sl (sq sl (sc (sq sl sl) sl)))) sl)))))) (sq sl sl))))
def Sj:PX 152 IM:=⟨_,by conv=>lhs;reduce⟩
def Pr:PL 152 IM 0:=⟨_,by conv=>lhs;reduce⟩
def pN (k1 k2:Q2):Nat->Q2
 |0,_,_=>none
 |n+1,vs,s=>eo c F aV (pN k1 k2 n) [k1,k2] Pr.1 vs s
def JB (k1 k2:Q2) (n:Nat) (vs:List AV) (s:St):=(by dsimp only[pN,Pr,go_sem,Int.reduceOfNat]:pN c F k1 k2 (n+1) vs s=_)
def IN:Un->List Q2->Nat->Q2
 | .z,[k1,k2]=>pN c F k1 k2
 |_,_=>fun _=>eZ
def Pt:O2:=aW c F (IN c F) Sj.1 [x0] s
def abU:=(by dsimp only[Pt,Sj, ↓IN,go_sem,Int.reduceOfNat]:Pt c F x0 s=_)
def Sk:Sh:=(sq sl (sq sl (sq (sq sl (sc (sq sl sl) sl)) (sq sl sl))))
def Sl:PX 153 Sk:=⟨_,by conv=>lhs;reduce⟩
def Pu:O2:=aW c F aV Sl.1 [x0,x1] s
def abY:=(by dsimp only[Pu,Sl,go_sem,Int.reduceOfNat]:Pu c F x0 x1 s=_)
def pX:Sh:=(sq sl (sq (sq sl (sc (sq sl sl) sl)) (sq sl sl)))
def pY:PX 157 pX:=⟨_,by conv=>lhs;reduce⟩
def kW:O2:=aW c F aV pY.1 [x0] s
def gO:=(by dsimp only[kW,pY,go_sem,Int.reduceOfNat]:kW c F x0 s=_)
def Pv:Sh:=(sq sl (sq sl (sq sl sl)))
def Px:PX 160 Pv:=⟨_,by conv=>lhs;reduce⟩
def L9:O2:=aW c F aV Px.1 [x0] s
def aaw:=(by dsimp only[L9,Px,go_sem,Int.reduceOfNat]:L9 c F x0 s=_)
def Sn:Sh:=(sq sl (sq sl (sq (sq sl (sc (sq sl sl) sl)) (sq sl sl))))
def So:PX 161 Sn:=⟨_,by conv=>lhs;reduce⟩
def Py:O2:=aW c F aV So.1 [x0] s
def abT:=(by dsimp only[Py,So,go_sem,Int.reduceOfNat]:Py c F x0 s=_)
def Hy:Sh:=(sq sl (sq (sq sl (sc (sq sl sl) sl)) (sq sl sl)))
def Hz:PX 162 Hy:=⟨_,by conv=>lhs;reduce⟩
def CI:O2:=aW c F aV Hz.1 [x0] s
def UQ:=(by dsimp only[CI,Hz,go_sem,Int.reduceOfNat]:CI c F x0 s=_)
def Sq:Sh:=(sq sl (sq sl sl))
def Sr:PX 168 Sq:=⟨_,by conv=>lhs;reduce⟩
def Pz:O2:=aW c F aV Sr.1 [] s
def abZ:=(by dsimp only[Pz,Sr,go_sem,Int.reduceOfNat]:Pz c F s=_)
def FK:Sh:=(sq sl (sq (sq sl (sc (sq sl sl) sl)) (sq (sq sl (sq sl (sc (sq sl sl) sl))) (sq (sq sl (sq sl (sc (sq sl sl) sl))) (sq (sq sl (sc (sq sl sl) sl)) (sq sl (sq sl (sq sl sl))))))))
def FL:PX 169 FK:=⟨_,by conv=>lhs;reduce⟩
def vp:O2:=aW c F aV FL.1 [x0,x1] s
def qO:=(by dsimp only[vp,FL,go_sem,Int.reduceOfNat]:vp c F x0 x1 s=_)
def MR:Sh:=(sq sl (sq (sq sl (sq sl (sc (sq sl sl) sl))) (sq sl sl)))
def MT:PX 170 MR:=⟨_,by conv=>lhs;reduce⟩
def IP:O2:=aW c F aV MT.1 [x0,x1] s
def Yl:=(by dsimp only[IP,MT,go_sem,Int.reduceOfNat]:IP c F x0 x1 s=_)
def xX:Sh:=(sq sl (sq (sq sl (sc (sq sl sl) sl)) (sq (sq sl (sc (sq sl sl) sl)) (sq (sq sl (sb (sp 0 [0,1,2,3,30,31,32] [(1,[8]),(2,[0,1,2,3])] (sq sl (sq (sc sl sl) (sq (sb (sq sl (sq sl (sq sl (sc (sq sl sl) sl))))) sl)))))) (sq sl (sq (sq sl (sc (sq sl sl) sl)) (sq (sq sl (sc (sq sl sl) sl)) (sq sl (sq sl sl)))))))))
def FM:PX 171 xX:=⟨_,by conv=>lhs;reduce⟩
def Df:PL 171 xX 0:=⟨_,by conv=>lhs;reduce⟩
def jE (k1 k2:Q2):Nat->Q2
 |0,_,_=>none
 |n+1,vs,s=>eo c F aV (jE k1 k2 n) [k1,k2] Df.1 vs s
def sK (k1 k2:Q2) (n:Nat) (vs:List AV) (s:St):=(by dsimp only[jE,Df,go_sem,Int.reduceOfNat]:jE c F k1 k2 (n+1) vs s=_)
def xY:Un->List Q2->Nat->Q2
 | .z,[k1,k2]=>jE c F k1 k2
 |_,_=>fun _=>eZ
def vq:O2:=aW c F (xY c F) FM.1 [x0,x1,x2,x3] s
def qP:=(by dsimp only[vq,FM, ↓xY,go_sem,Int.reduceOfNat]:vq c F x0 x1 x2 x3 s=_)
def Dg:Sh:=(sq sl (sq sl sl))
def Dh:PX 176 Dg:=⟨_,by conv=>lhs;reduce⟩
def zZ:O2:=aW c F aV Dh.1 [x0] s
def Rd:=(by dsimp only[zZ,Dh,go_sem,Int.reduceOfNat]:zZ c F x0 s=_)
def Cc:Sh:=(sq sl (sq sl sl))
def Cd:PX 177 Cc:=⟨_,by conv=>lhs;reduce⟩
def xZ:O2:=aW c F aV Cd.1 [x0,x1,x2] s
def B4:=(by dsimp only[xZ,Cd,go_sem,Int.reduceOfNat]:xZ c F x0 x1 x2 s=_)
def jP:Sh:=(sq sl (sq (sq sl (sc (sq sl sl) sl)) (sq (sq sl (sb (sp 0 [0,4] [(1,[2,3]),(2,[])] (sq (sq sl (sc sl sl)) (sq (sb (sq (sq sl (sq sl (sc (sq sl sl) sl))) (sq sl (sb (sp 1 [0,4,6] [(1,[2,3]),(4,[0,4])] (sq (sq sl (sc sl sl)) (sq (sb (sq sl (sc (sq sl sl) sl))) sl))))))) sl))))) (sq sl sl))))
def vB:PX 178 jP:=⟨_,by conv=>lhs;reduce⟩
def uJ:PL 178 jP 1:=⟨_,by conv=>lhs;reduce⟩
def dU (k1 k4:Q2):Nat->Q2
 |0,_,_=>none
 |n+1,vs,s=>eo c F aV (dU k1 k4 n) [k1,k4] uJ.1 vs s
def rT (k1 k4:Q2) (n:Nat) (vs:List AV) (s:St):=(by dsimp only[dU,uJ,go_sem,Int.reduceOfNat]:dU c F k1 k4 (n+1) vs s=_)
def uK:Un->List Q2->Nat->Q2
 |(.s .z),[k1,k4]=>dU c F k1 k4
 |_,_=>fun _=>eZ
def uL:PL 178 jP 0:=⟨_,by conv=>lhs;reduce⟩
def e8 (k1 k2:Q2):Nat->Q2
 |0,_,_=>none
 |n+1,vs,s=>eo c F (uK c F) (e8 k1 k2 n) [k1,k2] uL.1 vs s
def rU (k1 k2:Q2) (n:Nat) (vs:List AV) (s:St):=(by dsimp only[e8,uL, ↓uK,go_sem,Int.reduceOfNat]:e8 c F k1 k2 (n+1) vs s=_)
def nE:Un->List Q2->Nat->Q2
 | .z,[k1,k2]=>e8 c F k1 k2
 |(.s .z),[k1,k4]=>dU c F k1 k4
 |_,_=>fun _=>eZ
def pZ:O2:=aW c F (nE c F) vB.1 [x0] s
def Ge:=(by dsimp only[pZ,vB, ↓nE,go_sem,Int.reduceOfNat]:pZ c F x0 s=_)
def jz:Sh:=(sq sl (sq (sq sl (sb (sp 0 [1,4] [(1,[2,3]),(2,[1])] (sq (sq sl (sc sl sl)) (sq (sb (sq (sq sl (sq sl (sc (sq sl sl) sl))) (sq (sq sl (sc (sq sl sl) sl)) (sq sl (sc (sq sl sl) sl))))) sl))))) (sq (sq sl (sb (sp 1 [1,6] [(1,[2,3]),(4,[])] (sq (sq sl (sc sl sl)) (sq (sb (sq sl (sq sl (sq (sq sl (sc (sq sl sl) sl)) (sq (sq sl (sc (sq sl sl) sl)) (sq (sq sl (sc (sq sl sl) sl)) (sq sl (sc (sq sl sl) sl)))))))) sl))))) (sq sl sl))))
def uM:PX 179 jz:=⟨_,by conv=>lhs;reduce⟩
def tM:PL 179 jz 1:=⟨_,by conv=>lhs;reduce⟩
def fT (k1 k4:Q2):Nat->Q2
 |0,_,_=>none
 |n+1,vs,s=>eo c F aV (fT k1 k4 n) [k1,k4] tM.1 vs s
def kD (k1 k4:Q2) (n:Nat) (vs:List AV) (s:St):=(by dsimp only[fT,tM,go_sem,Int.reduceOfNat]:fT c F k1 k4 (n+1) vs s=_)
def tN:PL 179 jz 0:=⟨_,by conv=>lhs;reduce⟩
def fS (k1 k2:Q2):Nat->Q2
 |0,_,_=>none
 |n+1,vs,s=>eo c F aV (fS k1 k2 n) [k1,k2] tN.1 vs s
def qF (k1 k2:Q2) (n:Nat) (vs:List AV) (s:St):=(by dsimp only[fS,tN,go_sem,Int.reduceOfNat]:fS c F k1 k2 (n+1) vs s=_)
def mU:Un->List Q2->Nat->Q2
 | .z,[k1,k2]=>fS c F k1 k2
 |(.s .z),[k1,k4]=>fT c F k1 k4
 |_,_=>fun _=>eZ
def oJ:O2:=aW c F (mU c F) uM.1 [x0] s
def uu:=(by dsimp only[oJ,uM, ↓mU,go_sem,Int.reduceOfNat]:oJ c F x0 s=_)
def z8:Sh:=(sq sl (sq sl sl))
def Aa:PX 180 z8:=⟨_,by conv=>lhs;reduce⟩
def uN:O2:=aW c F aV Aa.1 [x0] s
def LG:=(by dsimp only[uN,Aa,go_sem,Int.reduceOfNat]:uN c F x0 s=_)
def AW:Sh:=(sq sl (sq sl (sq (sq sl (sc (sq sl sl) sl)) (sq sl sl))))
def AX:PX 181 AW:=⟨_,by conv=>lhs;reduce⟩
def vX:O2:=aW c F aV AX.1 [x0] s
def NA:=(by dsimp only[vX,AX,go_sem,Int.reduceOfNat]:vX c F x0 s=_)
def Ce:Sh:=(sq sl (sq sl sl))
def Cf:PX 182 Ce:=⟨_,by conv=>lhs;reduce⟩
def ya:O2:=aW c F aV Cf.1 [x0] s
def OM:=(by dsimp only[ya,Cf,go_sem,Int.reduceOfNat]:ya c F x0 s=_)
def Cg:Sh:=(sq sl (sq sl sl))
def Ch:PX 183 Cg:=⟨_,by conv=>lhs;reduce⟩
def yb:O2:=aW c F aV Ch.1 [x0] s
def ON:=(by dsimp only[yb,Ch,go_sem,Int.reduceOfNat]:yb c F x0 s=_)
def yB:Sh:=(sq sl (sq (sq sl (sc (sq sl sl) sl)) (sq (sq sl (sc (sq sl sl) sl)) (sq sl sl))))
def yC:PX 184 yB:=⟨_,by conv=>lhs;reduce⟩
def sN:O2:=aW c F aV yC.1 [x0] s
def JN:=(by dsimp only[sN,yC,go_sem,Int.reduceOfNat]:sN c F x0 s=_)
def yD:Sh:=(sq sl (sq sl sl))
def yE:PX 185 yD:=⟨_,by conv=>lhs;reduce⟩
def sO:O2:=aW c F aV yE.1 [x0] s
def JM:=(by dsimp only[sO,yE,go_sem,Int.reduceOfNat]:sO c F x0 s=_)
def vY:Sh:=(sq sl (sq (sq sl (sb (sp 0 [0,1,5] [(1,[4]),(2,[])] (sq (sq sl (sc sl sl)) (sq (sb (sq sl (sc (sq sl sl) sl))) sl))))) (sq sl sl)))
def Di:PX 186 vY:=⟨_,by conv=>lhs;reduce⟩
def Ci:PL 186 vY 0:=⟨_,by conv=>lhs;reduce⟩
def iY (k1 k2:Q2):Nat->Q2
 |0,_,_=>none
 |n+1,vs,s=>eo c F aV (iY k1 k2 n) [k1,k2] Ci.1 vs s
def zB (k1 k2:Q2) (n:Nat) (vs:List AV) (s:St):=(by dsimp only[iY,Ci,go_sem,Int.reduceOfNat,Int.reduceNegSucc]:iY c F k1 k2 (n+1) vs s=_)
def vZ:Un->List Q2->Nat->Q2
 | .z,[k1,k2]=>iY c F k1 k2
 |_,_=>fun _=>eZ
def Ab:O2:=aW c F (vZ c F) Di.1 [x0,x1] s
def Rb:=(by dsimp only[Ab,Di, ↓vZ,go_sem,Int.reduceOfNat,Int.reduceNegSucc]:Ab c F x0 x1 s=_)
def v7:Sh:=(sq sl (sq (sq sl (sc (sq sl sl) sl)) (sq (sq sl (sb (sp 0 [0,3] [(1,[2]),(2,[])] (sq (sq sl (sc sl sl)) (sq (sb (sq sl (sc (sq sl sl) sl))) sl))))) (sq sl sl))))
def Dj:PX 187 v7:=⟨_,by conv=>lhs;reduce⟩
def Cj:PL 187 v7 0:=⟨_,by conv=>lhs;reduce⟩
def iW (k1 k2:Q2):Nat->Q2
 |0,_,_=>none
 |n+1,vs,s=>eo c F aV (iW k1 k2 n) [k1,k2] Cj.1 vs s
def zy (k1 k2:Q2) (n:Nat) (vs:List AV) (s:St):=(by dsimp only[iW,Cj,go_sem,Int.reduceOfNat]:iW c F k1 k2 (n+1) vs s=_)
def v8:Un->List Q2->Nat->Q2
 | .z,[k1,k2]=>iW c F k1 k2
 |_,_=>fun _=>eZ
def Ac:O2:=aW c F (v8 c F) Dj.1 [x0] s
def Q4:=(by dsimp only[Ac,Dj, ↓v8,go_sem,Int.reduceOfNat]:Ac c F x0 s=_)
def oK:Sh:=(sq sl (sq (sq sl (sb (sp 0 [0,1,5] [(1,[4]),(2,[])] (sq (sq sl (sc sl sl)) (sq (sb (sq sl (sc (sq sl sl) sl))) sl))))) (sq sl sl)))
def wJ:PX 188 oK:=⟨_,by conv=>lhs;reduce⟩
def vC:PL 188 oK 0:=⟨_,by conv=>lhs;reduce⟩
def fA (k1 k2:Q2):Nat->Q2
 |0,_,_=>none
 |n+1,vs,s=>eo c F aV (fA k1 k2 n) [k1,k2] vC.1 vs s
def tE (k1 k2:Q2) (n:Nat) (vs:List AV) (s:St):=(by dsimp only[fA,vC,go_sem,Int.reduceOfNat,Int.reduceNegSucc]:fA c F k1 k2 (n+1) vs s=_)
def oM:Un->List Q2->Nat->Q2
 | .z,[k1,k2]=>fA c F k1 k2
 |_,_=>fun _=>eZ
def rm:O2:=aW c F (oM c F) wJ.1 [x0,x1] s
def Iw:=(by dsimp only[rm,wJ, ↓oM,go_sem,Int.reduceOfNat,Int.reduceNegSucc]:rm c F x0 x1 s=_)
def yF:Sh:=(sq sl (sq sl sl))
def yG:PX 204 yF:=⟨_,by conv=>lhs;reduce⟩
def sP:O2:=aW c F aV yG.1 [x0,x1,x2] s
def Jw:=(by dsimp only[sP,yG,go_sem,Int.reduceOfNat]:sP c F x0 x1 x2 s=_)
def FN:Sh:=(sq sl (sq sl (sq sl (sq (sb (sq sl (sc (sq sl sl) (sq sl (sc (sq sl sl) sl))))) (sq (sq sl (sb (sp 0 [1,3,4,18,19,20] [(1,[2]),(3,[1])] (sq sl (sq (sc sl sl) (sq (sb (sq sl (sq (sq sl (sc (sq sl sl) sl)) sl))) sl)))))) (sq (sq sl (sc (sq sl sl) sl)) (sq sl sl)))))))
def PC:PX 225 FN:=⟨_,by conv=>lhs;reduce⟩
def MU:PL 225 FN 0:=⟨_,by conv=>lhs;reduce⟩
def nT (k1 k3:Q2):Nat->Q2
 |0,_,_=>none
 |n+1,vs,s=>eo c F aV (nT k1 k3 n) [k1,k3] MU.1 vs s
def Hh (k1 k3:Q2) (n:Nat) (vs:List AV) (s:St):=(by dsimp only[nT,MU,go_sem,Int.reduceOfNat,Int.reduceNegSucc]:nT c F k1 k3 (n+1) vs s=_)
def FO:Un->List Q2->Nat->Q2
 | .z,[k1,k3]=>nT c F k1 k3
 |_,_=>fun _=>eZ
def Ma:O2:=aW c F (FO c F) PC.1 [x0] s
def aat:=(by dsimp only[Ma,PC, ↓FO,go_sem,Int.reduceOfNat,Int.reduceNegSucc]:Ma c F x0 s=_)
def jq:Sh:=(sq sl (sq sl sl))
def jr:PX 226 jq:=⟨_,by conv=>lhs;reduce⟩
def fG:O2:=aW c F aV jr.1 [x0,x1] s
def qo:=(by dsimp only[fG,jr,go_sem,Int.reduceOfNat]:fG c F x0 x1 s=_)
def Dk:Sh:=(sq sl (sq sl sl))
def Dl:PX 227 Dk:=⟨_,by conv=>lhs;reduce⟩
def Ad:O2:=aW c F aV Dl.1 [x0,x1] s
def Q9:=(by dsimp only[Ad,Dl,go_sem,Int.reduceOfNat]:Ad c F x0 x1 s=_)
def fN:Sh:=(sq sl (sq (sq sl (sb (sp 0 [0,1,7,8] [(1,[4]),(2,[])] (sq sl (sq (sc sl sl) (sq (sb (sq sl (sq sl (sc (sq sl sl) sl)))) sl)))))) (sq sl sl)))
def jU:PX 242 fN:=⟨_,by conv=>lhs;reduce⟩
def jI:PL 242 fN 0:=⟨_,by conv=>lhs;reduce⟩
def bT (k1 k2:Q2):Nat->Q2
 |0,_,_=>none
 |n+1,vs,s=>eo c F aV (bT k1 k2 n) [k1,k2] jI.1 vs s
def ji (k1 k2:Q2) (n:Nat) (vs:List AV) (s:St):=(by dsimp only[bT,jI,go_sem,Int.reduceOfNat,Int.reduceNegSucc]:bT c F k1 k2 (n+1) vs s=_)
def fO:Un->List Q2->Nat->Q2
 | .z,[k1,k2]=>bT c F k1 k2
 |_,_=>fun _=>eZ
def gI:O2:=aW c F (fO c F) jU.1 [x0,x1] s
def sL:=(by dsimp only[gI,jU, ↓fO,go_sem,Int.reduceOfNat,Int.reduceNegSucc]:gI c F x0 x1 s=_)
def PD:Sh:=(sq sl (sq sl sl))
def PG:PX 243 PD:=⟨_,by conv=>lhs;reduce⟩
def Mb:O2:=aW c F aV PG.1 [x0,x1] s
def aaN:=(by dsimp only[Mb,PG,go_sem,Int.reduceOfNat]:Mb c F x0 x1 s=_)
def fP:Sh:=(sq sl (sq (sq sl (sb (sp 0 [0,1,7,8] [(1,[4]),(2,[])] (sq sl (sq (sc sl sl) (sq (sb (sq sl (sq sl (sc (sq sl sl) sl)))) sl)))))) (sq sl sl)))
def jV:PX 244 fP:=⟨_,by conv=>lhs;reduce⟩
def jJ:PL 244 fP 0:=⟨_,by conv=>lhs;reduce⟩
def bS (k1 k2:Q2):Nat->Q2
 |0,_,_=>none
 |n+1,vs,s=>eo c F aV (bS k1 k2 n) [k1,k2] jJ.1 vs s
def jg (k1 k2:Q2) (n:Nat) (vs:List AV) (s:St):=(by dsimp only[bS,jJ,go_sem,Int.reduceOfNat,Int.reduceNegSucc]:bS c F k1 k2 (n+1) vs s=_)
def fQ:Un->List Q2->Nat->Q2
 | .z,[k1,k2]=>bS c F k1 k2
 |_,_=>fun _=>eZ
def gJ:O2:=aW c F (fQ c F) jV.1 [x0,x1] s
def sJ:=(by dsimp only[gJ,jV, ↓fQ,go_sem,Int.reduceOfNat,Int.reduceNegSucc]:gJ c F x0 x1 s=_)
def MV:Sh:=(sq sl (sq sl sl))
def MW:PX 245 MV:=⟨_,by conv=>lhs;reduce⟩
def IQ:O2:=aW c F aV MW.1 [x0,x1] s
def Yh:=(by dsimp only[IQ,MW,go_sem,Int.reduceOfNat]:IQ c F x0 x1 s=_)
def HE:Sh:=(sq sl (sq (sq sl (sb (sq sl (sc (sq sl sl) (sq sl (sc (sq sl sl) (sq sl (sc (sq sl sl) (sq sl (sc (sq sl sl) sl)))))))))) (sq sl sl)))
def HF:PX 246 HE:=⟨_,by conv=>lhs;reduce⟩
def CJ:O2:=aW c F aV HF.1 [x0] s
def UH:=(by dsimp only[CJ,HF,go_sem,Int.reduceOfNat]:CJ c F x0 s=_)
def CL:Sh:=(sq sl (sq (sb (sq sl (sc (sq sl sl) (sq sl (sc (sq sl sl) (sq sl (sc (sq sl sl) (sq sl (sc (sq sl sl) sl))))))))) (sq (sq sl (sb (sp 0 [1,52,53,54] [(1,[2]),(3,[])] (sq sl (sq (sc sl sl) (sq (sb (sq sl (sq sl (sc (sq sl sl) sl)))) sl)))))) (sq sl sl))))
def MX:PX 248 CL:=⟨_,by conv=>lhs;reduce⟩
def Ka:PL 248 CL 0:=⟨_,by conv=>lhs;reduce⟩
def mq (k1 k3:Q2):Nat->Q2
 |0,_,_=>none
 |n+1,vs,s=>eo c F aV (mq k1 k3 n) [k1,k3] Ka.1 vs s
def E0 (k1 k3:Q2) (n:Nat) (vs:List AV) (s:St):=(by dsimp only[mq,Ka,go_sem,Int.reduceOfNat]:mq c F k1 k3 (n+1) vs s=_)
def CM:Un->List Q2->Nat->Q2
 | .z,[k1,k3]=>mq c F k1 k3
 |_,_=>fun _=>eZ
def IU:O2:=aW c F (CM c F) MX.1 [x0] s
def Yk:=(by dsimp only[IU,MX, ↓CM,go_sem,Int.reduceOfNat]:IU c F x0 s=_)
def Kb:Sh:=(sq sl (sq sl (sq sl sl)))
def Kc:PX 249 Kb:=⟨_,by conv=>lhs;reduce⟩
def FP:O2:=aW c F aV Kc.1 [x0] s
def Wp:=(by dsimp only[FP,Kc,go_sem,Int.reduceOfNat]:FP c F x0 s=_)
def Dm:Sh:=(sq sl (sq sl sl))
def Dn:PX 250 Dm:=⟨_,by conv=>lhs;reduce⟩
def strings_Compare:O2:=aW c F aV Dn.1 [x0,x1] s
def Rc:=(by dsimp only[strings_Compare,Dn,go_sem,Int.reduceOfNat]:strings_Compare c F x0 x1 s=_)
def nk:Sh:=(sq sl (sq sl (sq sl (sq (sq sl (sc (sq sl sl) sl)) (sq sl (sq (sq sl (sc (sq sl sl) sl)) (sq (sq sl (sc (sq sl (sq sl (sq sl (sq sl sl)))) sl)) (sq sl (sq (sq sl (sc (sq sl (sq sl (sq sl sl))) sl)) (sq sl (sq sl (sq sl sl))))))))))))
def nu:PX 251 nk:=⟨_,by conv=>lhs;reduce⟩
def jK:O2:=aW c F aV nu.1 [x0,x1,x2] s
def yS:=(by dsimp only[jK,nu,go_sem,Int.reduceOfNat]:jK c F x0 x1 x2 s=_)
def PI:Sh:=(sq sl (sq sl sl))
def PJ:PX 252 PI:=⟨_,by conv=>lhs;reduce⟩
def Mc:O2:=aW c F aV PJ.1 [x0,x1,x2] s
def OI:=(by dsimp only[Mc,PJ,go_sem,Int.reduceOfNat]:Mc c F x0 x1 x2 s=_)
def dN:Sh:=(sq sl (sq sl (sq sl (sq (sb (sp 0 [0,2,4,8,9,10] [(2,[0,2,4,8,9])] (sq (sq sl (sc sl sl)) (sb (sq sl (sq sl (sc sl sl))))))) (sq sl sl)))))
def gq:PX 255 dN:=⟨_,by conv=>lhs;reduce⟩
def fV:PL 255 dN 0:=⟨_,by conv=>lhs;reduce⟩
def aR (k2:Q2):Nat->Q2
 |0,_,_=>none
 |n+1,vs,s=>eo c F aV (aR k2 n) [k2] fV.1 vs s
def dz (k2:Q2) (n:Nat) (vs:List AV) (s:St):=(by dsimp only[aR,fV,go_sem,Int.reduceOfNat]:aR c F k2 (n+1) vs s=_)
def dO:Un->List Q2->Nat->Q2
 | .z,[k2]=>aR c F k2
 |_,_=>fun _=>eZ
def dY:O2:=aW c F (dO c F) gq.1 [x0,x1,x2] s
def mz:=(by dsimp only[dY,gq, ↓dO,go_sem,Int.reduceOfNat]:dY c F x0 x1 x2 s=_)
def rq:Sh:=(sq sl (sq sl (sq (sq sl (sc (sq sl sl) sl)) (sq (sq sl (sc (sq sl sl) sl)) (sq (sq sl (sb (sp 0 [1,3,4] [(1,[2]),(2,[1])] (sq (sq sl (sc sl sl)) (sq (sb (sq sl (sc (sq sl sl) sl))) sl))))) (sq (sq sl (sc (sq sl sl) sl)) (sq sl sl)))))))
def Ae:PX 256 rq:=⟨_,by conv=>lhs;reduce⟩
def yH:PL 256 rq 0:=⟨_,by conv=>lhs;reduce⟩
def fX (k1 k2:Q2):Nat->Q2
 |0,_,_=>none
 |n+1,vs,s=>eo c F aV (fX k1 k2 n) [k1,k2] yH.1 vs s
def vu (k1 k2:Q2) (n:Nat) (vs:List AV) (s:St):=(by dsimp only[fX,yH,go_sem,Int.reduceOfNat]:fX c F k1 k2 (n+1) vs s=_)
def ru:Un->List Q2->Nat->Q2
 | .z,[k1,k2]=>fX c F k1 k2
 |_,_=>fun _=>eZ
def uO:O2:=aW c F (ru c F) Ae.1 [x0] s
def Lt:=(by dsimp only[uO,Ae, ↓ru,go_sem,Int.reduceOfNat]:uO c F x0 s=_)
def ry:Sh:=(sq sl (sq (sq sl (sc (sq sl sl) sl)) (sq (sq sl (sc (sq sl sl) sl)) (sq (sq sl (sc (sq sl sl) sl)) (sq (sq sl (sc (sq sl sl) sl)) (sq (sq sl (sb (sp 0 [1,3] [(1,[2]),(2,[])] (sq (sq sl (sc sl sl)) (sq (sb (sq sl (sc (sq sl sl) sl))) sl))))) (sq sl sl)))))))
def Af:PX 257 ry:=⟨_,by conv=>lhs;reduce⟩
def yI:PL 257 ry 0:=⟨_,by conv=>lhs;reduce⟩
def fY (k1 k2:Q2):Nat->Q2
 |0,_,_=>none
 |n+1,vs,s=>eo c F aV (fY k1 k2 n) [k1,k2] yI.1 vs s
def vw (k1 k2:Q2) (n:Nat) (vs:List AV) (s:St):=(by dsimp only[fY,yI,go_sem,Int.reduceOfNat]:fY c F k1 k2 (n+1) vs s=_)
def rC:Un->List Q2->Nat->Q2
 | .z,[k1,k2]=>fY c F k1 k2
 |_,_=>fun _=>eZ
def uP:O2:=aW c F (rC c F) Af.1 [x0] s
def Lz:=(by dsimp only[uP,Af, ↓rC,go_sem,Int.reduceOfNat]:uP c F x0 s=_)
def yJ:Sh:=(sq sl (sq sl sl))
def yK:PX 258 yJ:=⟨_,by conv=>lhs;reduce⟩
def sQ:O2:=aW c F aV yK.1 [x0,x1] s
def JF:=(by dsimp only[sQ,yK,go_sem,Int.reduceOfNat]:sQ c F x0 x1 s=_)
def IV:Sh:=(sq sl (sq (sq sl (sb (sp 0 [0,3] [(1,[2]),(2,[0])] (sq (sq sl (sc sl sl)) (sq (sb (sq sl (sc (sq sl sl) sl))) sl))))) (sq sl sl)))
def Ss:PX 282 IV:=⟨_,by conv=>lhs;reduce⟩
def PM:PL 282 IV 0:=⟨_,by conv=>lhs;reduce⟩
def pO (k1 k2:Q2):Nat->Q2
 |0,_,_=>none
 |n+1,vs,s=>eo c F aV (pO k1 k2 n) [k1,k2] PM.1 vs s
def JC (k1 k2:Q2) (n:Nat) (vs:List AV) (s:St):=(by dsimp only[pO,PM,go_sem,Int.reduceOfNat]:pO c F k1 k2 (n+1) vs s=_)
def IW:Un->List Q2->Nat->Q2
 | .z,[k1,k2]=>pO c F k1 k2
 |_,_=>fun _=>eZ
def PN:O2:=aW c F (IW c F) Ss.1 [x0] s
def abV:=(by dsimp only[PN,Ss, ↓IW,go_sem,Int.reduceOfNat]:PN c F x0 s=_)
def Dp:Sh:=(sq sl (sq (sq sl (sc (sq sl sl) sl)) (sq sl sl)))
def Dq:PX 283 Dp:=⟨_,by conv=>lhs;reduce⟩
def Ag:O2:=aW c F aV Dq.1 [x0,x1] s
def Q5:=(by dsimp only[Ag,Dq,go_sem,Int.reduceOfNat]:Ag c F x0 x1 s=_)
def FQ:Sh:=(sq sl (sq (sq sl (sc (sq sl sl) sl)) (sq sl sl)))
def FR:PX 288 FQ:=⟨_,by conv=>lhs;reduce⟩
def Bw:O2:=aW c F aV FR.1 [x0,x1] s
def Tk:=(by dsimp only[Bw,FR,go_sem,Int.reduceOfNat]:Bw c F x0 x1 s=_)
def FT:Sh:=(sq sl (sq (sq sl (sc (sq sl sl) sl)) (sq sl sl)))
def FU:PX 293 FT:=⟨_,by conv=>lhs;reduce⟩
def Bx:O2:=aW c F aV FU.1 [x0,x1] s
def Tl:=(by dsimp only[Bx,FU,go_sem,Int.reduceOfNat]:Bx c F x0 x1 s=_)
def HG:Sh:=(sq sl (sq (sq sl (sc (sq sl sl) sl)) (sq sl sl)))
def HJ:PX 298 HG:=⟨_,by conv=>lhs;reduce⟩
def CN:O2:=aW c F aV HJ.1 [x0,x1] s
def UG:=(by dsimp only[CN,HJ,go_sem,Int.reduceOfNat]:CN c F x0 x1 s=_)
def FV:Sh:=(sq sl (sq (sq sl (sc (sq sl sl) sl)) (sq (sq sl (sb (sp 0 [0,13,14] [(1,[2]),(2,[])] (sq sl (sq (sc sl sl) (sq (sb (sq sl (sq sl (sc (sq sl sl) sl)))) sl)))))) (sq sl sl))))
def PO:PX 304 FV:=⟨_,by conv=>lhs;reduce⟩
def MY:PL 304 FV 0:=⟨_,by conv=>lhs;reduce⟩
def nS (k1 k2:Q2):Nat->Q2
 |0,_,_=>none
 |n+1,vs,s=>eo c F aV (nS k1 k2 n) [k1,k2] MY.1 vs s
def Hg (k1 k2:Q2) (n:Nat) (vs:List AV) (s:St):=(by dsimp only[nS,MY,go_sem,Int.reduceOfNat]:nS c F k1 k2 (n+1) vs s=_)
def FW:Un->List Q2->Nat->Q2
 | .z,[k1,k2]=>nS c F k1 k2
 |_,_=>fun _=>eZ
def Md:O2:=aW c F (FW c F) PO.1 [x0] s
def aao:=(by dsimp only[Md,PO, ↓FW,go_sem,Int.reduceOfNat]:Md c F x0 s=_)
def PR:Sh:=(sq sl (sq sl sl))
def PT:PX 305 PR:=⟨_,by conv=>lhs;reduce⟩
def Me:O2:=aW c F aV PT.1 [x0] s
def aar:=(by dsimp only[Me,PT,go_sem,Int.reduceOfNat]:Me c F x0 s=_)
def vD:Sh:=(sq sl (sq sl sl))
def vE:PX 306 vD:=⟨_,by conv=>lhs;reduce⟩
def bytealg_CompareString:O2:=aW c F aV vE.1 [x0,x1] s
def Gg:=(by dsimp only[bytealg_CompareString,vE,go_sem,Int.reduceOfNat]:bytealg_CompareString c F x0 x1 s=_)
def sR:Sh:=(sq sl (sq (sq sl (sc (sq sl sl) sl)) (sq (sq sl (sb (sp 0 [0,3] [(1,[2]),(2,[])] (sq (sq sl (sc sl sl)) (sq (sb (sq sl (sc (sq sl sl) sl))) sl))))) (sq sl sl))))
def AY:PX 309 sR:=⟨_,by conv=>lhs;reduce⟩
def Ah:PL 309 sR 0:=⟨_,by conv=>lhs;reduce⟩
def gN (k1 k2:Q2):Nat->Q2
 |0,_,_=>none
 |n+1,vs,s=>eo c F aV (gN k1 k2 n) [k1,k2] Ah.1 vs s
def wC (k1 k2:Q2) (n:Nat) (vs:List AV) (s:St):=(by dsimp only[gN,Ah,go_sem,Int.reduceOfNat]:gN c F k1 k2 (n+1) vs s=_)
def sS:Un->List Q2->Nat->Q2
 | .z,[k1,k2]=>gN c F k1 k2
 |_,_=>fun _=>eZ
def we:O2:=aW c F (sS c F) AY.1 [x0] s
def Ns:=(by dsimp only[we,AY, ↓sS,go_sem,Int.reduceOfNat]:we c F x0 s=_)
end
section
variable {c : ak} (hc : Sem c) (F : Nat) {x0 x1 x2 x3 x4 x5 x6 x7 x8 x9 x10 x11 : AV} {s : St} {r : AV × St}
include hc
theorem OR (h:Bv c F x0 x1 s=some r):c 19 [x0,x1] s=some (tidy s r):=hc.o0 F FA (by kernel_rfl) (by kernel_rfl) h
theorem JK (h:LW c F x0 s=some r):c 21 [x0] s=some (tidy s r):=hc.o1 F (FD c F) FC (by kernel_rfl) (by kernel_rfl) (fun _ _ _=>by kernel_rfl) (fun _ _ _ _=>by kernel_rfl) (by kernel_rfl) h
theorem Iz (h:uF c F x0 s=some r):c 23 [x0] s=some (tidy s r):=hc.o1 F (qY c F) qX (by kernel_rfl) (by kernel_rfl) (fun _ _ _=>by kernel_rfl) (fun _ _ _ _=>by kernel_rfl) (by kernel_rfl) h
theorem Ws (h:LX c F x0 s=some r):c 66 [x0] s=some (tidy s r):=hc.o1 F (FF c F) FE (by kernel_rfl) (by kernel_rfl) (fun _ _ _=>by kernel_rfl) (fun _ _ _ _=>by kernel_rfl) (by kernel_rfl) h
theorem Wu (h:LY c F s=some r):c 67 [] s=some (tidy s r):=hc.o0 F Pk (by kernel_rfl) (by kernel_rfl) h
theorem Nz (h:zO c F x0 x1 x2 s=some r):c 68 [x0,x1,x2] s=some (tidy s r):=hc.o0 F C9 (by kernel_rfl) (by kernel_rfl) h
theorem JE (h:LZ c F x0 x1 s=some r):c 70 [x0,x1] s=some (tidy s r):=hc.o1 F (FH c F) FG (by kernel_rfl) (by kernel_rfl) (fun _ _ _=>by kernel_rfl) (fun _ _ _ _=>by kernel_rfl) (by kernel_rfl) h
theorem Wk (h:L8 c F x0 s=some r):c 71 [x0] s=some (tidy s r):=hc.o0 F Po (by kernel_rfl) (by kernel_rfl) h
theorem Wr (h:zF c F x0 s=some r):c 80 [x0] s=some (tidy s r):=hc.oL F (FI c F) zP 2 (by kernel_rfl) (fun i hi=>match i,hi with|0,_=>eX 0 (by kernel_rfl) (fun _ _ _=>by kernel_rfl) (fun _ _ _ _=>by kernel_rfl)|1,_=>eX 1 (by kernel_rfl) (fun _ _ _=>by kernel_rfl) (fun _ _ _ _=>by kernel_rfl)|n+2,h=>absurd h (by omega)) (by kernel_rfl) h
theorem Iu (h:uG c F x0 s=some r):c 83 [x0] s=some (tidy s r):=hc.o1 F (rf c F) qZ (by kernel_rfl) (by kernel_rfl) (fun _ _ _=>by kernel_rfl) (fun _ _ _ _=>by kernel_rfl) (by kernel_rfl) h
theorem Iy (h:uH c F x0 x1 s=some r):c 84 [x0,x1] s=some (tidy s r):=hc.o0 F zR (by kernel_rfl) (by kernel_rfl) h
theorem Ir (h:uI c F x0 x1 s=some r):c 119 [x0,x1] s=some (tidy s r):=hc.o1 F (rj c F) ri (by kernel_rfl) (by kernel_rfl) (fun _ _ _=>by kernel_rfl) (fun _ _ _ _=>by kernel_rfl) (by kernel_rfl) h
theorem Jy (h:vW c F x0 s=some r):c 120 [x0] s=some (tidy s r):=hc.o0 F AT (by kernel_rfl) (by kernel_rfl) h
theorem CW (h:CH c F x0 s=some r):c 130 [x0] s=some (tidy s r):=hc.o1 F (zW c F) zV (by kernel_rfl) (by kernel_rfl) (fun _ _ _=>by kernel_rfl) (fun _ _ _ _=>by kernel_rfl) (by kernel_rfl) h
theorem Nx (h:zX c F x0 s=some r):c 131 [x0] s=some (tidy s r):=hc.o0 F Db (by kernel_rfl) (by kernel_rfl) h
theorem Ny (h:zY c F x0 x1 s=some r):c 150 [x0,x1] s=some (tidy s r):=hc.o0 F Dd (by kernel_rfl) (by kernel_rfl) h
theorem aaO (h:TA c F x0 x1 s=some r):c 151 [x0,x1] s=some (tidy s r):=hc.o0 F Vk (by kernel_rfl) (by kernel_rfl) h
theorem Ye (h:Pt c F x0 s=some r):c 152 [x0] s=some (tidy s r):=hc.o1 F (IN c F) IM (by kernel_rfl) (by kernel_rfl) (fun _ _ _=>by kernel_rfl) (fun _ _ _ _=>by kernel_rfl) (by kernel_rfl) h
theorem Yj (h:Pu c F x0 x1 s=some r):c 153 [x0,x1] s=some (tidy s r):=hc.o0 F Sk (by kernel_rfl) (by kernel_rfl) h
theorem fU (h:kW c F x0 s=some r):c 157 [x0] s=some (tidy s r):=hc.o0 F pX (by kernel_rfl) (by kernel_rfl) h
theorem Wj (h:L9 c F x0 s=some r):c 160 [x0] s=some (tidy s r):=hc.o0 F Pv (by kernel_rfl) (by kernel_rfl) h
theorem Yd (h:Py c F x0 s=some r):c 161 [x0] s=some (tidy s r):=hc.o0 F Sn (by kernel_rfl) (by kernel_rfl) h
theorem Ra (h:CI c F x0 s=some r):c 162 [x0] s=some (tidy s r):=hc.o0 F Hy (by kernel_rfl) (by kernel_rfl) h
theorem Yn (h:Pz c F s=some r):c 168 [] s=some (tidy s r):=hc.o0 F Sq (by kernel_rfl) (by kernel_rfl) h
theorem BZ (h:vp c F x0 x1 s=some r):c 169 [x0,x1] s=some (tidy s r):=hc.o0 F FK (by kernel_rfl) (by kernel_rfl) h
theorem UU (h:IP c F x0 x1 s=some r):c 170 [x0,x1] s=some (tidy s r):=hc.o0 F MR (by kernel_rfl) (by kernel_rfl) h
theorem ux (h:vq c F x0 x1 x2 x3 s=some r):c 171 [x0,x1,x2,x3] s=some (tidy s r):=hc.o1 F (xY c F) xX (by kernel_rfl) (by kernel_rfl) (fun _ _ _=>by kernel_rfl) (fun _ _ _ _=>by kernel_rfl) (by kernel_rfl) h
theorem Nw (h:zZ c F x0 s=some r):c 176 [x0] s=some (tidy s r):=hc.o0 F Dg (by kernel_rfl) (by kernel_rfl) h
theorem zE (h:xZ c F x0 x1 x2 s=some r):c 177 [x0,x1,x2] s=some (tidy s r):=hc.o0 F Cc (by kernel_rfl) (by kernel_rfl) h
theorem D6 (h:pZ c F x0 s=some r):c 178 [x0] s=some (tidy s r):=hc.oL F (nE c F) jP 2 (by kernel_rfl) (fun i hi=>match i,hi with|0,_=>eX 0 (by kernel_rfl) (fun _ _ _=>by kernel_rfl) (fun _ _ _ _=>by kernel_rfl)|1,_=>eX 1 (by kernel_rfl) (fun _ _ _=>by kernel_rfl) (fun _ _ _ _=>by kernel_rfl)|n+2,h=>absurd h (by omega)) (by kernel_rfl) h
theorem rW (h:oJ c F x0 s=some r):c 179 [x0] s=some (tidy s r):=hc.oL F (mU c F) jz 2 (by kernel_rfl) (fun i hi=>match i,hi with|0,_=>eX 0 (by kernel_rfl) (fun _ _ _=>by kernel_rfl) (fun _ _ _ _=>by kernel_rfl)|1,_=>eX 1 (by kernel_rfl) (fun _ _ _=>by kernel_rfl) (fun _ _ _ _=>by kernel_rfl)|n+2,h=>absurd h (by omega)) (by kernel_rfl) h
theorem It (h:uN c F x0 s=some r):c 180 [x0] s=some (tidy s r):=hc.o0 F z8 (by kernel_rfl) (by kernel_rfl) h
theorem JO (h:vX c F x0 s=some r):c 181 [x0] s=some (tidy s r):=hc.o0 F AW (by kernel_rfl) (by kernel_rfl) h
theorem LL (h:ya c F x0 s=some r):c 182 [x0] s=some (tidy s r):=hc.o0 F Ce (by kernel_rfl) (by kernel_rfl) h
theorem LM (h:yb c F x0 s=some r):c 183 [x0] s=some (tidy s r):=hc.o0 F Cg (by kernel_rfl) (by kernel_rfl) h
theorem Gi (h:sN c F x0 s=some r):c 184 [x0] s=some (tidy s r):=hc.o0 F yB (by kernel_rfl) (by kernel_rfl) h
theorem Gh (h:sO c F x0 s=some r):c 185 [x0] s=some (tidy s r):=hc.o0 F yD (by kernel_rfl) (by kernel_rfl) h
theorem Nu (h:Ab c F x0 x1 s=some r):c 186 [x0,x1] s=some (tidy s r):=hc.o1 F (vZ c F) vY (by kernel_rfl) (by kernel_rfl) (fun _ _ _=>by kernel_rfl) (fun _ _ _ _=>by kernel_rfl) (by kernel_rfl) h
theorem Np (h:Ac c F x0 s=some r):c 187 [x0] s=some (tidy s r):=hc.o1 F (v8 c F) v7 (by kernel_rfl) (by kernel_rfl) (fun _ _ _=>by kernel_rfl) (fun _ _ _ _=>by kernel_rfl) (by kernel_rfl) h
theorem E6 (h:rm c F x0 x1 s=some r):c 188 [x0,x1] s=some (tidy s r):=hc.o1 F (oM c F) oK (by kernel_rfl) (by kernel_rfl) (fun _ _ _=>by kernel_rfl) (fun _ _ _ _=>by kernel_rfl) (by kernel_rfl) h
theorem Gd (h:sP c F x0 x1 x2 s=some r):c 204 [x0,x1,x2] s=some (tidy s r):=hc.o0 F yF (by kernel_rfl) (by kernel_rfl) h
theorem Wg (h:Ma c F x0 s=some r):c 225 [x0] s=some (tidy s r):=hc.o1 F (FO c F) FN (by kernel_rfl) (by kernel_rfl) (fun _ _ _=>by kernel_rfl) (fun _ _ _ _=>by kernel_rfl) (by kernel_rfl) h
theorem pn (h:fG c F x0 x1 s=some r):c 226 [x0,x1] s=some (tidy s r):=hc.o0 F jq (by kernel_rfl) (by kernel_rfl) h
theorem Nt (h:Ad c F x0 x1 s=some r):c 227 [x0,x1] s=some (tidy s r):=hc.o0 F Dk (by kernel_rfl) (by kernel_rfl) h
theorem qQ (h:gI c F x0 x1 s=some r):c 242 [x0,x1] s=some (tidy s r):=hc.o1 F (fO c F) fN (by kernel_rfl) (by kernel_rfl) (fun _ _ _=>by kernel_rfl) (fun _ _ _ _=>by kernel_rfl) (by kernel_rfl) h
theorem Wt (h:Mb c F x0 x1 s=some r):c 243 [x0,x1] s=some (tidy s r):=hc.o0 F PD (by kernel_rfl) (by kernel_rfl) h
theorem qL (h:gJ c F x0 x1 s=some r):c 244 [x0,x1] s=some (tidy s r):=hc.o1 F (fQ c F) fP (by kernel_rfl) (by kernel_rfl) (fun _ _ _=>by kernel_rfl) (fun _ _ _ _=>by kernel_rfl) (by kernel_rfl) h
theorem UM (h:IQ c F x0 x1 s=some r):c 245 [x0,x1] s=some (tidy s r):=hc.o0 F MV (by kernel_rfl) (by kernel_rfl) h
theorem Q8 (h:CJ c F x0 s=some r):c 246 [x0] s=some (tidy s r):=hc.o0 F HE (by kernel_rfl) (by kernel_rfl) h
theorem UR (h:IU c F x0 s=some r):c 248 [x0] s=some (tidy s r):=hc.o1 F (CM c F) CL (by kernel_rfl) (by kernel_rfl) (fun _ _ _=>by kernel_rfl) (fun _ _ _ _=>by kernel_rfl) (by kernel_rfl) h
theorem To (h:FP c F x0 s=some r):c 249 [x0] s=some (tidy s r):=hc.o0 F Kb (by kernel_rfl) (by kernel_rfl) h
theorem Nv (h:strings_Compare c F x0 x1 s=some r):c 250 [x0,x1] s=some (tidy s r):=hc.o0 F Dm (by kernel_rfl) (by kernel_rfl) h
theorem wD (h:jK c F x0 x1 x2 s=some r):c 251 [x0,x1,x2] s=some (tidy s r):=hc.o0 F nk (by kernel_rfl) (by kernel_rfl) h
theorem JG (h:Mc c F x0 x1 x2 s=some r):c 252 [x0,x1,x2] s=some (tidy s r):=hc.o0 F PI (by kernel_rfl) (by kernel_rfl) h
theorem lg (h:dY c F x0 x1 x2 s=some r):c 255 [x0,x1,x2] s=some (tidy s r):=hc.o1 F (dO c F) dN (by kernel_rfl) (by kernel_rfl) (fun _ _ _=>by kernel_rfl) (fun _ _ _ _=>by kernel_rfl) (by kernel_rfl) h
theorem Im (h:uO c F x0 s=some r):c 256 [x0] s=some (tidy s r):=hc.o1 F (ru c F) rq (by kernel_rfl) (by kernel_rfl) (fun _ _ _=>by kernel_rfl) (fun _ _ _ _=>by kernel_rfl) (by kernel_rfl) h
theorem Io (h:uP c F x0 s=some r):c 257 [x0] s=some (tidy s r):=hc.o1 F (rC c F) ry (by kernel_rfl) (by kernel_rfl) (fun _ _ _=>by kernel_rfl) (fun _ _ _ _=>by kernel_rfl) (by kernel_rfl) h
theorem Gf (h:sQ c F x0 x1 s=some r):c 258 [x0,x1] s=some (tidy s r):=hc.o0 F yJ (by kernel_rfl) (by kernel_rfl) h
theorem Yf (h:PN c F x0 s=some r):c 282 [x0] s=some (tidy s r):=hc.o1 F (IW c F) IV (by kernel_rfl) (by kernel_rfl) (fun _ _ _=>by kernel_rfl) (fun _ _ _ _=>by kernel_rfl) (by kernel_rfl) h
theorem Nr (h:Ag c F x0 x1 s=some r):c 283 [x0,x1] s=some (tidy s r):=hc.o0 F Dp (by kernel_rfl) (by kernel_rfl) h
theorem OD (h:Bw c F x0 x1 s=some r):c 288 [x0,x1] s=some (tidy s r):=hc.o0 F FQ (by kernel_rfl) (by kernel_rfl) h
theorem OE (h:Bx c F x0 x1 s=some r):c 293 [x0,x1] s=some (tidy s r):=hc.o0 F FT (by kernel_rfl) (by kernel_rfl) h
theorem Q7 (h:CN c F x0 x1 s=some r):c 298 [x0,x1] s=some (tidy s r):=hc.o0 F HG (by kernel_rfl) (by kernel_rfl) h
theorem V9 (h:Md c F x0 s=some r):c 304 [x0] s=some (tidy s r):=hc.o1 F (FW c F) FV (by kernel_rfl) (by kernel_rfl) (fun _ _ _=>by kernel_rfl) (fun _ _ _ _=>by kernel_rfl) (by kernel_rfl) h
theorem We (h:Me c F x0 s=some r):c 305 [x0] s=some (tidy s r):=hc.o0 F PR (by kernel_rfl) (by kernel_rfl) h
theorem D8 (h:bytealg_CompareString c F x0 x1 s=some r):c 306 [x0,x1] s=some (tidy s r):=hc.o0 F vD (by kernel_rfl) (by kernel_rfl) h
theorem JA (h:we c F x0 s=some r):c 309 [x0] s=some (tidy s r):=hc.o1 F (sS c F) sR (by kernel_rfl) (by kernel_rfl) (fun _ _ _=>by kernel_rfl) (fun _ _ _ _=>by kernel_rfl) (by kernel_rfl) h
end
end
end Go.Proofs.YthiaklapeamjlaaGreatDoor
