/- Functions of the program, plainly, and what they answer. -/
import Derived.Test.YtgjikjcfjddloaaGreatDoorRAwake
set_option linter.all false
set_option maxRecDepth 100000
set_option maxHeartbeats 4000000
namespace Go.Proofs.YtgjikjcfjddloaaGreatDoor
noncomputable section
open Go Go.Ai Go.Proofs
def ym:fh:=yl [(329,KZ),(18,Nu)]
def Sem(c:ai):Prop:=c=run ym gg
def gA(f:Nat):dc:=tD gg f
abbrev PX(f:Nat)(s:Sh):={a:Tx // txF (gA f) s=a}
abbrev PL(f:Nat)(s:Sh)(i:Nat):={a:List Pos×Tx // txL (gj (gA f) s i)=a}
theorem Sem.o0{c:ai}(hc:Sem c)(F:Nat){f:FuncId}{args:List AV}{st:St}{r:AV×St}(s:Sh)(hk:(vg (ym f)&& !vg (gg.get (key f))&&(fe (gA f).code s).isEmpty)=true)
  {k:O2} (hd:B4 c F (VQ []) (gA f) s args st=k) (h:k=some r):c f args st=some (tidy st r):=by
 subst hc;exact aaq s hk hd h
theorem Sem.o1{c:ai}(hc:Sem c)(F:Nat){f:FuncId}{args:List AV}{st:St}{r:AV×St}(Ls:Un->List Q2->Nat->Q2)(s:Sh)(hk:(vg (ym f)&& !vg (gg.get (key f))&&Nat.beq (fe (gA f).code s).length 1)=true)
  (hs:(SB (gj (gA f) s 0).2&&Nat.beq (lpJ (gj (gA f) s 0).2) 0)=true) (h0:∀K' vs st,oP Ls (gA f) s 0 K' 0 vs st=none)
  (h1:∀K' n vs st,oP Ls (gA f) s 0 K' (n+1) vs st=Hy (den c F (oP Ls (gA f) s) (gj (gA f) s 0).1 (lpB (gj (gA f) s 0).2)) (lpI (gj (gA f) s 0).2) (lpO (gj (gA f) s 0).2) K' (oP Ls (gA f) s 0 K' n) vs st)
  {k:O2} (hd:B4 c F (oP Ls (gA f) s) (gA f) s args st=k) (h:k=some r):c f args st=some (tidy st r):=by
 subst hc;exact aar Ls s hk hs h0 h1 hd h
theorem Sem.oL{c:ai}(hc:Sem c)(F:Nat){f:FuncId}{args:List AV}{st:St}{r:AV×St}(Ls:Un->List Q2->Nat->Q2)(s:Sh)(n:Nat)(hk:(vg (ym f)&& !vg (gg.get (key f))&&Nat.beq (fe (gA f).code s).length n)=true)
  (hL:∀i,i<n->yH c F (oP Ls (gA f) s) (gj (gA f) s i).1 (gj (gA f) s i).2) {k:O2} (hd:B4 c F (oP Ls (gA f) s) (gA f) s args st=k) (h:k=some r):c f args st=some (tidy st r):=by
 subst hc;exact SN Ls s n hk hL hd h
end
noncomputable section
open Go Go.Ai Go.Proofs
attribute [local go_sem ↓] bD mj ev LP ve getLT qV B6 HC pL pM AP v7 v8 v9 sk su sv sw sx sy we wj sF sH sI sJ sK Be Bf Bg
attribute [local go_sem] bD mj ev
section
variable(c:ai)(F:Nat)(x0 x1 x2 x3 x4 x5 x6 x7 x8 x9 yR yS:AV)(s:St)
def DZ:Sh:=(sq sl (sq (sq sl (sq sl (sc (sq sl sl) sl))) (sq sl (sq (sq sl (sb (sp 0 [1,6,21,22,23] [(1,[2,3]),(2,[])] (sq sl (sq (sc sl sl) (sq (sb (sq sl (sq (sq sl (sq sl (sc (sq sl sl) sl))) (sq sl (sc (sq sl sl) sl))))) sl)))))) (sq sl sl)))))
def L5:PX 45 DZ:=⟨_,by conv=>lhs;reduce⟩
def Kj:PL 45 DZ 0:=⟨_,by conv=>lhs;reduce⟩
def rU(k1 k2:Q2):Nat->Q2
 |0,_,_=>none
 |n+1,vs,s=>gY c F bM (rU k1 k2 n) [k1,k2] Kj.1 vs s
def yT(k1 k2:Q2)(n:Nat)(vs:List AV)(s:St):=(by dsimp only[rU,Kj,go_sem,Int.reduceOfNat]:rU c F k1 k2 (n+1) vs s=_)
def D3:Un->List Q2->Nat->Q2
 |.z,[k1,k2]=>rU c F k1 k2
 |_,_=>λ_=>jr
def Jl:O2:=bD c F (D3 c F) L5.1 [x0] s
def L6:=(by dsimp only[Jl,L5, ↓D3,go_sem,Int.reduceOfNat]:Jl c F x0 s=_)
def D4:Sh:=(sq sl (sq (sq sl (sc (sq sl sl) sl)) (sq sl (sq (sq sl (sb (sp 0 [5,23,24,25] [(2,[5])] (sq sl (sq (sc sl sl) (sq (sb (sq sl sl)) sl)))))) (sq sl sl)))))
def L7:PX 49 D4:=⟨_,by conv=>lhs;reduce⟩
def Kk:PL 49 D4 0:=⟨_,by conv=>lhs;reduce⟩
def rV(k2:Q2):Nat->Q2
 |0,_,_=>none
 |n+1,vs,s=>gY c F bM (rV k2 n) [k2] Kk.1 vs s
def yU(k2:Q2)(n:Nat)(vs:List AV)(s:St):=(by dsimp only[rV,Kk,go_sem,Int.reduceOfNat]:rV c F k2 (n+1) vs s=_)
def D5:Un->List Q2->Nat->Q2
 |.z,[k2]=>rV c F k2
 |_,_=>λ_=>jr
def Jm:O2:=bD c F (D5 c F) L7.1 [x0,x1] s
def L8:=(by dsimp only[Jm,L7, ↓D5,go_sem,Int.reduceOfNat]:Jm c F x0 x1 s=_)
def L9:Sh:=(sq sl (sq (sq sl (sc (sq sl sl) sl)) (sq sl sl)))
def Ma:PX 59 L9:=⟨_,by conv=>lhs;reduce⟩
def Jn:O2:=bD c F bM Ma.1 [x0] s
def XW:=(by dsimp only[Jn,Ma,go_sem,Int.reduceOfNat]:Jn c F x0 s=_)
def D6:Sh:=(sq sl (sq (sq sl (sq sl (sc (sq sl sl) sl))) (sq (sq sl (sq sl (sc (sq sl sl) sl))) (sq (sq sl (sc (sq sl sl) sl)) (sq (sq sl (sb (sp 0 [1,47,48,49] [(1,[2,3]),(2,[1])] (sq sl (sq (sc sl sl) (sq (sb (sq sl (sq sl (sc (sq sl sl) sl)))) sl)))))) (sq (sq sl (sc (sq sl sl) sl)) (sq sl sl)))))))
def Mb:PX 83 D6:=⟨_,by conv=>lhs;reduce⟩
def Kl:PL 83 D6 0:=⟨_,by conv=>lhs;reduce⟩
def n7(k1 k2:Q2):Nat->Q2
 |0,_,_=>none
 |n+1,vs,s=>gY c F bM (n7 k1 k2 n) [k1,k2] Kl.1 vs s
def FI(k1 k2:Q2)(n:Nat)(vs:List AV)(s:St):=(by dsimp only[n7,Kl,go_sem,Int.reduceOfNat]:n7 c F k1 k2 (n+1) vs s=_)
def D7:Un->List Q2->Nat->Q2
 |.z,[k1,k2]=>n7 c F k1 k2
 |_,_=>λ_=>jr
def Jo:O2:=bD c F (D7 c F) Mb.1 [x0] s
def XX:=(by dsimp only[Jo,Mb, ↓D7,go_sem,Int.reduceOfNat]:Jo c F x0 s=_)
def Mc:Sh:=(sq sl (sq sl sl))
def Md:PX 84 Mc:=⟨_,by conv=>lhs;reduce⟩
def Jp:O2:=bD c F bM Md.1 [] s
def XY:=(by dsimp only[Jp,Md,go_sem,Int.reduceOfNat]:Jp c F s=_)
def CC:Sh:=(sq sl (sj [3,4,5] (sb (sq sl (sc (sq sl sl) (sq sl (sc (sq sl sl) (sq sl (sc (sq sl sl) (sj [3,4,5,28] (sq sl (sc sl (sq sl (sc sl sl)))) (sc (sq sl sl) (sq sl (sc (sq sl sl) (sq sl (sc (sq sl sl) sl))))))))))))) (sq sl (sq (sq sl (sc (sq sl sl) sl)) (sq sl (sj [3,5,9] (sq sl (sc sl sl)) (sq (sq sl (sc (sq sl sl) sl)) (sq sl sl))))))))
def CE:PX 85 CC:=⟨_,by conv=>lhs;reduce⟩
def yV:O2:=bD c F bM CE.1 [x0,x1,x2] s
def NK:=(by dsimp only[yV,CE,go_sem,Int.reduceOfNat]:yV c F x0 x1 x2 s=_)
def Me:Sh:=(sq sl (sq sl (sq sl sl)))
def Mf:PX 87 Me:=⟨_,by conv=>lhs;reduce⟩
def Jq:O2:=bD c F bM Mf.1 [x0] s
def XZ:=(by dsimp only[Jq,Mf,go_sem,Int.reduceOfNat]:Jq c F x0 s=_)
def OM:Sh:=(sq sl (sq sl (sq (sq sl (sc (sq sl sl) sl)) (sq sl sl))))
def ON:PX 88 OM:=⟨_,by conv=>lhs;reduce⟩
def Mg:O2:=bD c F bM ON.1 [x0] s
def Zv:=(by dsimp only[Mg,ON,go_sem,Int.reduceOfNat]:Mg c F x0 s=_)
def FJ:Sh:=(sq sl (sq (sq sl (sc (sq sl sl) sl)) (sq sl sl)))
def FK:PX 94 FJ:=⟨_,by conv=>lhs;reduce⟩
def B9:O2:=bD c F bM FK.1 [x0] s
def RE:=(by dsimp only[B9,FK,go_sem,Int.reduceOfNat]:B9 c F x0 s=_)
def D8:Sh:=(sq sl (sq sl (sq sl (sq (sb (sq sl (sc (sq sl sl) (sq sl (sc (sq sl sl) sl))))) (sq (sq sl (sb (sp 0 [1,3,4,18,19,20] [(1,[2]),(3,[1])] (sq sl (sq (sc sl sl) (sq (sb (sq sl (sq (sq sl (sc (sq sl sl) sl)) sl))) sl)))))) (sq (sq sl (sc (sq sl sl) sl)) (sq sl sl)))))))
def Mh:PX 96 D8:=⟨_,by conv=>lhs;reduce⟩
def Km:PL 96 D8 0:=⟨_,by conv=>lhs;reduce⟩
def n9(k1 k3:Q2):Nat->Q2
 |0,_,_=>none
 |n+1,vs,s=>gY c F bM (n9 k1 k3 n) [k1,k3] Km.1 vs s
def FL(k1 k3:Q2)(n:Nat)(vs:List AV)(s:St):=(by dsimp only[n9,Km,go_sem,Int.reduceOfNat,Int.reduceNegSucc]:n9 c F k1 k3 (n+1) vs s=_)
def D9:Un->List Q2->Nat->Q2
 |.z,[k1,k3]=>n9 c F k1 k3
 |_,_=>λ_=>jr
def Jr:O2:=bD c F (D9 c F) Mh.1 [x0] s
def X0:=(by dsimp only[Jr,Mh, ↓D9,go_sem,Int.reduceOfNat,Int.reduceNegSucc]:Jr c F x0 s=_)
def eM:Sh:=(sq sl (sq (sq sl (sb (sp 0 [0,1,7,8] [(1,[4]),(2,[])] (sq sl (sq (sc sl sl) (sq (sb (sq sl (sq sl (sc (sq sl sl) sl)))) sl)))))) (sq sl sl)))
def kU:PX 126 eM:=⟨_,by conv=>lhs;reduce⟩
def kG:PL 126 eM 0:=⟨_,by conv=>lhs;reduce⟩
def bO(k1 k2:Q2):Nat->Q2
 |0,_,_=>none
 |n+1,vs,s=>gY c F bM (bO k1 k2 n) [k1,k2] kG.1 vs s
def cQ(k1 k2:Q2)(n:Nat)(vs:List AV)(s:St):=(by dsimp only[bO,kG,go_sem,Int.reduceOfNat,Int.reduceNegSucc]:bO c F k1 k2 (n+1) vs s=_)
def eN:Un->List Q2->Nat->Q2
 |.z,[k1,k2]=>bO c F k1 k2
 |_,_=>λ_=>jr
def fo:O2:=bD c F (eN c F) kU.1 [x0,x1] s
def kV:=(by dsimp only[fo,kU, ↓eN,go_sem,Int.reduceOfNat,Int.reduceNegSucc]:fo c F x0 x1 s=_)
def OO:Sh:=(sq sl (sq sl (sq (sq sl (sc (sq sl sl) sl)) (sq sl sl))))
def OP:PX 128 OO:=⟨_,by conv=>lhs;reduce⟩
def Mi:O2:=bD c F bM OP.1 [x0,x1] s
def Zw:=(by dsimp only[Mi,OP,go_sem,Int.reduceOfNat]:Mi c F x0 x1 s=_)
def yW:Sh:=(sq sl (sq (sq sl (sc (sq sl sl) sl)) (sq (sq sl (sb (sp 0 [0,10,11,12] [(1,[2,3]),(2,[])] (sq sl (sq (sc sl sl) (sq (sb (sq sl (sq (sq sl (sq sl (sc (sq sl sl) sl))) (sq sl (sc (sq sl sl) sl))))) sl)))))) (sq sl sl))))
def FM:PX 129 yW:=⟨_,by conv=>lhs;reduce⟩
def Ec:PL 129 yW 0:=⟨_,by conv=>lhs;reduce⟩
def ny(k1 k2:Q2):Nat->Q2
 |0,_,_=>none
 |n+1,vs,s=>gY c F bM (ny k1 k2 n) [k1,k2] Ec.1 vs s
def uk(k1 k2:Q2)(n:Nat)(vs:List AV)(s:St):=(by dsimp only[ny,Ec,go_sem,Int.reduceOfNat]:ny c F k1 k2 (n+1) vs s=_)
def yX:Un->List Q2->Nat->Q2
 |.z,[k1,k2]=>ny c F k1 k2
 |_,_=>λ_=>jr
def Ca:O2:=bD c F (yX c F) FM.1 [x0] s
def FN:=(by dsimp only[Ca,FM, ↓yX,go_sem,Int.reduceOfNat]:Ca c F x0 s=_)
def CG:Sh:=(sq sl (sq sl (sq sl sl)))
def CH:PX 130 CG:=⟨_,by conv=>lhs;reduce⟩
def yY:O2:=bD c F bM CH.1 [x0] s
def NL:=(by dsimp only[yY,CH,go_sem,Int.reduceOfNat]:yY c F x0 s=_)
def CI:Sh:=(sq sl (sq sl sl))
def CJ:PX 149 CI:=⟨_,by conv=>lhs;reduce⟩
def yZ:O2:=bD c F bM CJ.1 [x0,x1] s
def NM:=(by dsimp only[yZ,CJ,go_sem,Int.reduceOfNat]:yZ c F x0 x1 s=_)
def RF:Sh:=(sq sl (sq sl sl))
def RH:PX 150 RF:=⟨_,by conv=>lhs;reduce⟩
def PJ:O2:=bD c F bM RH.1 [x0,x1] s
def abB:=(by dsimp only[PJ,RH,go_sem,Int.reduceOfNat]:PJ c F x0 x1 s=_)
def Gw:Sh:=(sq sl (sq (sq sl (sc (sq sl sl) sl)) (sq (sq sl (sb (sp 0 [0,13,14] [(1,[2]),(2,[])] (sq sl (sq (sc sl sl) (sq (sb (sq sl (sq sl (sc (sq sl sl) sl)))) sl)))))) (sq sl sl))))
def OQ:PX 151 Gw:=⟨_,by conv=>lhs;reduce⟩
def Mj:PL 151 Gw 0:=⟨_,by conv=>lhs;reduce⟩
def pX(k1 k2:Q2):Nat->Q2
 |0,_,_=>none
 |n+1,vs,s=>gY c F bM (pX k1 k2 n) [k1,k2] Mj.1 vs s
def HI(k1 k2:Q2)(n:Nat)(vs:List AV)(s:St):=(by dsimp only[pX,Mj,go_sem,Int.reduceOfNat]:pX c F k1 k2 (n+1) vs s=_)
def Gx:Un->List Q2->Nat->Q2
 |.z,[k1,k2]=>pX c F k1 k2
 |_,_=>λ_=>jr
def Ml:O2:=bD c F (Gx c F) OQ.1 [x0] s
def Zx:=(by dsimp only[Ml,OQ, ↓Gx,go_sem,Int.reduceOfNat]:Ml c F x0 s=_)
def FO:Sh:=(sq sl (sq (sq sl (sb (sq sl (sc (sq sl sl) (sq sl (sc (sq sl sl) (sq sl (sc (sq sl sl) (sq sl (sc (sq sl sl) sl)))))))))) (sq sl sl)))
def FP:PX 152 FO:=⟨_,by conv=>lhs;reduce⟩
def Cb:O2:=bD c F bM FP.1 [x0] s
def RI:=(by dsimp only[Cb,FP,go_sem,Int.reduceOfNat]:Cb c F x0 s=_)
def Gy:Sh:=(sq sl (sq (sq sl (sb (sp 0 [0,3] [(1,[2]),(2,[0])] (sq (sq sl (sc sl sl)) (sq (sb (sq sl (sc (sq sl sl) sl))) sl))))) (sq sl sl)))
def OR:PX 163 Gy:=⟨_,by conv=>lhs;reduce⟩
def Mm:PL 163 Gy 0:=⟨_,by conv=>lhs;reduce⟩
def pY(k1 k2:Q2):Nat->Q2
 |0,_,_=>none
 |n+1,vs,s=>gY c F bM (pY k1 k2 n) [k1,k2] Mm.1 vs s
def HJ(k1 k2:Q2)(n:Nat)(vs:List AV)(s:St):=(by dsimp only[pY,Mm,go_sem,Int.reduceOfNat]:pY c F k1 k2 (n+1) vs s=_)
def Gz:Un->List Q2->Nat->Q2
 |.z,[k1,k2]=>pY c F k1 k2
 |_,_=>λ_=>jr
def Mn:O2:=bD c F (Gz c F) OR.1 [x0] s
def Zy:=(by dsimp only[Mn,OR, ↓Gz,go_sem,Int.reduceOfNat]:Mn c F x0 s=_)
def gR:Sh:=(sq sl (sq (sq sl (sb (sp 0 [0,1,7,8] [(1,[4]),(2,[])] (sq sl (sq (sc sl sl) (sq (sb (sq sl (sq sl (sc (sq sl sl) sl)))) sl)))))) (sq sl sl)))
def kW:PX 177 gR:=⟨_,by conv=>lhs;reduce⟩
def kH:PL 177 gR 0:=⟨_,by conv=>lhs;reduce⟩
def cE(k1 k2:Q2):Nat->Q2
 |0,_,_=>none
 |n+1,vs,s=>gY c F bM (cE k1 k2 n) [k1,k2] kH.1 vs s
def jQ(k1 k2:Q2)(n:Nat)(vs:List AV)(s:St):=(by dsimp only[cE,kH,go_sem,Int.reduceOfNat,Int.reduceNegSucc]:cE c F k1 k2 (n+1) vs s=_)
def gU:Un->List Q2->Nat->Q2
 |.z,[k1,k2]=>cE c F k1 k2
 |_,_=>λ_=>jr
def iG:O2:=bD c F (gU c F) kW.1 [x0,x1] s
def sO:=(by dsimp only[iG,kW, ↓gU,go_sem,Int.reduceOfNat,Int.reduceNegSucc]:iG c F x0 x1 s=_)
def Kn:Sh:=(sq sl (sq sl sl))
def Ko:PX 178 Kn:=⟨_,by conv=>lhs;reduce⟩
def GF:O2:=bD c F bM Ko.1 [x0,x1] s
def Vq:=(by dsimp only[GF,Ko,go_sem,Int.reduceOfNat]:GF c F x0 x1 s=_)
def jR:Sh:=(sq sl (sq sl sl))
def jS:PX 179 jR:=⟨_,by conv=>lhs;reduce⟩
def gF:O2:=bD c F bM jS.1 [x0,x1] s
def qj:=(by dsimp only[gF,jS,go_sem,Int.reduceOfNat]:gF c F x0 x1 s=_)
def CL:Sh:=(sq sl (sq sl sl))
def CM:PX 180 CL:=⟨_,by conv=>lhs;reduce⟩
def y6:O2:=bD c F bM CM.1 [x0,x1] s
def NN:=(by dsimp only[y6,CM,go_sem,Int.reduceOfNat]:y6 c F x0 x1 s=_)
def y9:Sh:=(sq sl (sq sl (sq (sq sl (sb (sp 0 [1,5,14,15,16] [(1,[2,3,4]),(2,[1,5])] (sq sl (sq (sc sl sl) (sq (sb (sq sl (sq sl (sq sl (sc (sq sl sl) sl))))) sl)))))) (sq (sq sl (sb (sp 1 [1,5,30,31,32] [(1,[2,3,4]),(4,[5])] (sq sl (sq (sc sl sl) (sj [1,5,30,31,32] (sb (sq sl (sq sl (sj [1,5,9,11,30,31,32] (sq sl (sc sl sl)) (sq sl (sc (sq sl sl) sl)))))) sl)))))) (sq sl sl)))))
def Mo:PX 181 y9:=⟨_,by conv=>lhs;reduce⟩
def Kp:PL 181 y9 1:=⟨_,by conv=>lhs;reduce⟩
def kI(k1 k4:Q2):Nat->Q2
 |0,_,_=>none
 |n+1,vs,s=>gY c F bM (kI k1 k4 n) [k1,k4] Kp.1 vs s
def tF(k1 k4:Q2)(n:Nat)(vs:List AV)(s:St):=(by dsimp only[kI,Kp,go_sem,Int.reduceOfNat]:kI c F k1 k4 (n+1) vs s=_)
def Kq:PL 181 y9 0:=⟨_,by conv=>lhs;reduce⟩
def ju(k1 k2:Q2):Nat->Q2
 |0,_,_=>none
 |n+1,vs,s=>gY c F bM (ju k1 k2 n) [k1,k2] Kq.1 vs s
def tG(k1 k2:Q2)(n:Nat)(vs:List AV)(s:St):=(by dsimp only[ju,Kq,go_sem,Int.reduceOfNat]:ju c F k1 k2 (n+1) vs s=_)
def Ed:Un->List Q2->Nat->Q2
 |.z,[k1,k2]=>ju c F k1 k2
 |(.s .z),[k1,k4]=>kI c F k1 k4
 |_,_=>λ_=>jr
def zc:O2:=bD c F (Ed c F) Mo.1 [x0] s
def X4:=(by dsimp only[zc,Mo, ↓Ed,go_sem,Int.reduceOfNat]:zc c F x0 s=_)
def Mp:Sh:=(sq sl (sq sl sl))
def Mt:PX 196 Mp:=⟨_,by conv=>lhs;reduce⟩
def Js:O2:=bD c F bM Mt.1 [x0,x1] s
def X5:=(by dsimp only[Js,Mt,go_sem,Int.reduceOfNat]:Js c F x0 x1 s=_)
def CN:Sh:=(sq sl (sq (sq sl (sc (sq sl sl) sl)) (sq sl sl)))
def CO:PX 197 CN:=⟨_,by conv=>lhs;reduce⟩
def zd:O2:=bD c F bM CO.1 [x0,x1] s
def NO:=(by dsimp only[zd,CO,go_sem,Int.reduceOfNat]:zd c F x0 x1 s=_)
def Ee:Sh:=(sq sl (sq (sq sl (sc (sq sl sl) sl)) (sq sl sl)))
def Ef:PX 202 Ee:=⟨_,by conv=>lhs;reduce⟩
def AS:O2:=bD c F bM Ef.1 [x0,x1] s
def PM:=(by dsimp only[AS,Ef,go_sem,Int.reduceOfNat]:AS c F x0 x1 s=_)
def Eg:Sh:=(sq sl (sq (sq sl (sc (sq sl sl) sl)) (sq sl sl)))
def Eh:PX 207 Eg:=⟨_,by conv=>lhs;reduce⟩
def AT:O2:=bD c F bM Eh.1 [x0,x1] s
def PN:=(by dsimp only[AT,Eh,go_sem,Int.reduceOfNat]:AT c F x0 x1 s=_)
def FQ:Sh:=(sq sl (sq (sq sl (sc (sq sl sl) sl)) (sq sl sl)))
def FR:PX 212 FQ:=⟨_,by conv=>lhs;reduce⟩
def Cc:O2:=bD c F bM FR.1 [x0,x1] s
def RJ:=(by dsimp only[Cc,FR,go_sem,Int.reduceOfNat]:Cc c F x0 x1 s=_)
def ke:Sh:=(sq sl (sq (sq sl (sb (sp 0 [1,4] [(1,[2,3]),(2,[1])] (sq (sq sl (sc sl sl)) (sq (sb (sq (sq sl (sq sl (sc (sq sl sl) sl))) (sq (sq sl (sc (sq sl sl) sl)) (sq sl (sc (sq sl sl) sl))))) sl))))) (sq (sq sl (sb (sp 1 [1,6] [(1,[2,3]),(4,[])] (sq (sq sl (sc sl sl)) (sq (sb (sq sl (sq sl (sq (sq sl (sc (sq sl sl) sl)) (sq (sq sl (sc (sq sl sl) sl)) (sq (sq sl (sc (sq sl sl) sl)) (sq sl (sc (sq sl sl) sl)))))))) sl))))) (sq sl sl))))
def um:PX 233 ke:=⟨_,by conv=>lhs;reduce⟩
def tH:PL 233 ke 1:=⟨_,by conv=>lhs;reduce⟩
def gZ(k1 k4:Q2):Nat->Q2
 |0,_,_=>none
 |n+1,vs,s=>gY c F bM (gZ k1 k4 n) [k1,k4] tH.1 vs s
def lY(k1 k4:Q2)(n:Nat)(vs:List AV)(s:St):=(by dsimp only[gZ,tH,go_sem,Int.reduceOfNat]:gZ c F k1 k4 (n+1) vs s=_)
def tI:PL 233 ke 0:=⟨_,by conv=>lhs;reduce⟩
def g9(k1 k2:Q2):Nat->Q2
 |0,_,_=>none
 |n+1,vs,s=>gY c F bM (g9 k1 k2 n) [k1,k2] tI.1 vs s
def qq(k1 k2:Q2)(n:Nat)(vs:List AV)(s:St):=(by dsimp only[g9,tI,go_sem,Int.reduceOfNat]:g9 c F k1 k2 (n+1) vs s=_)
def nD:Un->List Q2->Nat->Q2
 |.z,[k1,k2]=>g9 c F k1 k2
 |(.s .z),[k1,k4]=>gZ c F k1 k4
 |_,_=>λ_=>jr
def oQ:O2:=bD c F (nD c F) um.1 [x0] s
def uq:=(by dsimp only[oQ,um, ↓nD,go_sem,Int.reduceOfNat]:oQ c F x0 s=_)
def vF:Sh:=(sq sl (sq (sq sl (sb (sp 0 [0,1,5] [(1,[4]),(2,[])] (sq (sq sl (sc sl sl)) (sq (sb (sq sl (sc (sq sl sl) sl))) sl))))) (sq sl sl)))
def CP:PX 239 vF:=⟨_,by conv=>lhs;reduce⟩
def BE:PL 239 vF 0:=⟨_,by conv=>lhs;reduce⟩
def jE(k1 k2:Q2):Nat->Q2
 |0,_,_=>none
 |n+1,vs,s=>gY c F bM (jE k1 k2 n) [k1,k2] BE.1 vs s
def ze(k1 k2:Q2)(n:Nat)(vs:List AV)(s:St):=(by dsimp only[jE,BE,go_sem,Int.reduceOfNat,Int.reduceNegSucc]:jE c F k1 k2 (n+1) vs s=_)
def vG:Un->List Q2->Nat->Q2
 |.z,[k1,k2]=>jE c F k1 k2
 |_,_=>λ_=>jr
def zf:O2:=bD c F (vG c F) CP.1 [x0,x1] s
def NP:=(by dsimp only[zf,CP, ↓vG,go_sem,Int.reduceOfNat,Int.reduceNegSucc]:zf c F x0 x1 s=_)
def vH:Sh:=(sq sl (sq (sq sl (sc (sq sl sl) sl)) (sq (sq sl (sb (sp 0 [0,3] [(1,[2]),(2,[])] (sq (sq sl (sc sl sl)) (sq (sb (sq sl (sc (sq sl sl) sl))) sl))))) (sq sl sl))))
def CQ:PX 240 vH:=⟨_,by conv=>lhs;reduce⟩
def BF:PL 240 vH 0:=⟨_,by conv=>lhs;reduce⟩
def jF(k1 k2:Q2):Nat->Q2
 |0,_,_=>none
 |n+1,vs,s=>gY c F bM (jF k1 k2 n) [k1,k2] BF.1 vs s
def zh(k1 k2:Q2)(n:Nat)(vs:List AV)(s:St):=(by dsimp only[jF,BF,go_sem,Int.reduceOfNat]:jF c F k1 k2 (n+1) vs s=_)
def vI:Un->List Q2->Nat->Q2
 |.z,[k1,k2]=>jF c F k1 k2
 |_,_=>λ_=>jr
def zi:O2:=bD c F (vI c F) CQ.1 [x0] s
def NQ:=(by dsimp only[zi,CQ, ↓vI,go_sem,Int.reduceOfNat]:zi c F x0 s=_)
def OS:Sh:=(sq sl (sq sl sl))
def OT:PX 250 OS:=⟨_,by conv=>lhs;reduce⟩
def Mu:O2:=bD c F bM OT.1 [] s
def Zz:=(by dsimp only[Mu,OT,go_sem,Int.reduceOfNat]:Mu c F s=_)
def Ei:Sh:=(sq sl (sq (sq sl (sc (sq sl sl) sl)) (sq (sq sl (sq sl (sc (sq sl sl) sl))) (sq (sq sl (sq sl (sc (sq sl sl) sl))) (sq (sq sl (sc (sq sl sl) sl)) (sq sl (sq sl (sq sl sl))))))))
def Ej:PX 251 Ei:=⟨_,by conv=>lhs;reduce⟩
def uY:O2:=bD c F bM Ej.1 [x0,x1] s
def qW:=(by dsimp only[uY,Ej,go_sem,Int.reduceOfNat]:uY c F x0 x1 s=_)
def Kr:Sh:=(sq sl (sq (sq sl (sq sl (sc (sq sl sl) sl))) (sq sl sl)))
def Ks:PX 252 Kr:=⟨_,by conv=>lhs;reduce⟩
def GG:O2:=bD c F bM Ks.1 [x0,x1] s
def Vr:=(by dsimp only[GG,Ks,go_sem,Int.reduceOfNat]:GG c F x0 x1 s=_)
def xk:Sh:=(sq sl (sq (sq sl (sc (sq sl sl) sl)) (sq (sq sl (sc (sq sl sl) sl)) (sq (sq sl (sb (sp 0 [0,1,2,3,30,31,32] [(1,[8]),(2,[0,1,2,3])] (sq sl (sq (sc sl sl) (sq (sb (sq sl (sq sl (sq sl (sc (sq sl sl) sl))))) sl)))))) (sq sl (sq (sq sl (sc (sq sl sl) sl)) (sq (sq sl (sc (sq sl sl) sl)) (sq sl (sq sl sl)))))))))
def Ek:PX 253 xk:=⟨_,by conv=>lhs;reduce⟩
def CR:PL 253 xk 0:=⟨_,by conv=>lhs;reduce⟩
def kC(k1 k2:Q2):Nat->Q2
 |0,_,_=>none
 |n+1,vs,s=>gY c F bM (kC k1 k2 n) [k1,k2] CR.1 vs s
def sP(k1 k2:Q2)(n:Nat)(vs:List AV)(s:St):=(by dsimp only[kC,CR,go_sem,Int.reduceOfNat]:kC c F k1 k2 (n+1) vs s=_)
def xp:Un->List Q2->Nat->Q2
 |.z,[k1,k2]=>kC c F k1 k2
 |_,_=>λ_=>jr
def uZ:O2:=bD c F (xp c F) Ek.1 [x0,x1,x2,x3] s
def qX:=(by dsimp only[uZ,Ek, ↓xp,go_sem,Int.reduceOfNat]:uZ c F x0 x1 x2 x3 s=_)
def qY:Sh:=(sq sl (sq (sq sl (sc (sq sl sl) sl)) (sq (sq sl (sc (sq sl sl) sl)) (sq (sq sl (sc (sq sl sl) sl)) (sq (sq sl (sc (sq sl sl) sl)) (sq (sq sl (sb (sp 0 [1,3] [(1,[2]),(2,[])] (sq (sq sl (sc sl sl)) (sq (sb (sq sl (sc (sq sl sl) sl))) sl))))) (sq sl sl)))))))
def zj:PX 290 qY:=⟨_,by conv=>lhs;reduce⟩
def xR:PL 290 qY 0:=⟨_,by conv=>lhs;reduce⟩
def iz(k1 k2:Q2):Nat->Q2
 |0,_,_=>none
 |n+1,vs,s=>gY c F bM (iz k1 k2 n) [k1,k2] xR.1 vs s
def vk(k1 k2:Q2)(n:Nat)(vs:List AV)(s:St):=(by dsimp only[iz,xR,go_sem,Int.reduceOfNat]:iz c F k1 k2 (n+1) vs s=_)
def qZ:Un->List Q2->Nat->Q2
 |.z,[k1,k2]=>iz c F k1 k2
 |_,_=>λ_=>jr
def ur:O2:=bD c F (qZ c F) zj.1 [x0] s
def Jt:=(by dsimp only[ur,zj, ↓qZ,go_sem,Int.reduceOfNat]:ur c F x0 s=_)
def xS:Sh:=(sq sl (sq sl sl))
def xT:PX 291 xS:=⟨_,by conv=>lhs;reduce⟩
def sQ:O2:=bD c F bM xT.1 [x0,x1] s
def HK:=(by dsimp only[sQ,xT,go_sem,Int.reduceOfNat]:sQ c F x0 x1 s=_)
def CS:Sh:=(sq sl (sq sl sl))
def CT:PX 297 CS:=⟨_,by conv=>lhs;reduce⟩
def zk:O2:=bD c F bM CT.1 [x0] s
def NR:=(by dsimp only[zk,CT,go_sem,Int.reduceOfNat]:zk c F x0 s=_)
def Cd:Sh:=(sq sl (sq (sb (sq sl (sc (sq sl sl) (sq sl (sc (sq sl sl) (sq sl (sc (sq sl sl) (sq sl (sc (sq sl sl) sl))))))))) (sq (sq sl (sb (sp 0 [1,52,53,54] [(1,[2]),(3,[])] (sq sl (sq (sc sl sl) (sq (sb (sq sl (sq sl (sc (sq sl sl) sl)))) sl)))))) (sq sl sl))))
def Kt:PX 298 Cd:=⟨_,by conv=>lhs;reduce⟩
def HL:PL 298 Cd 0:=⟨_,by conv=>lhs;reduce⟩
def mW(k1 k3:Q2):Nat->Q2
 |0,_,_=>none
 |n+1,vs,s=>gY c F bM (mW k1 k3 n) [k1,k3] HL.1 vs s
def El(k1 k3:Q2)(n:Nat)(vs:List AV)(s:St):=(by dsimp only[mW,HL,go_sem,Int.reduceOfNat]:mW c F k1 k3 (n+1) vs s=_)
def Ce:Un->List Q2->Nat->Q2
 |.z,[k1,k3]=>mW c F k1 k3
 |_,_=>λ_=>jr
def GH:O2:=bD c F (Ce c F) Kt.1 [x0] s
def Vt:=(by dsimp only[GH,Kt, ↓Ce,go_sem,Int.reduceOfNat]:GH c F x0 s=_)
def HM:Sh:=(sq sl (sq sl (sq sl sl)))
def HN:PX 299 HM:=⟨_,by conv=>lhs;reduce⟩
def Em:O2:=bD c F bM HN.1 [x0] s
def S7:=(by dsimp only[Em,HN,go_sem,Int.reduceOfNat]:Em c F x0 s=_)
def CU:Sh:=(sq sl (sq sl sl))
def CV:PX 300 CU:=⟨_,by conv=>lhs;reduce⟩
def zl:O2:=bD c F bM CV.1 [x0,x1] s
def NT:=(by dsimp only[zl,CV,go_sem,Int.reduceOfNat]:zl c F x0 x1 s=_)
def BG:Sh:=(sq sl (sq sl sl))
def BH:PX 301 BG:=⟨_,by conv=>lhs;reduce⟩
def xq:O2:=bD c F bM BH.1 [x0,x1,x2] s
def Mw:=(by dsimp only[xq,BH,go_sem,Int.reduceOfNat]:xq c F x0 x1 x2 s=_)
def nL:Sh:=(sq sl (sq sl (sq sl (sq (sq sl (sc (sq sl sl) sl)) (sq sl (sq (sq sl (sc (sq sl sl) sl)) (sq (sq sl (sc (sq sl (sq sl (sq sl (sq sl sl)))) sl)) (sq sl (sq (sq sl (sc (sq sl (sq sl (sq sl sl))) sl)) (sq sl (sq sl (sq sl sl))))))))))))
def nM:PX 302 nL:=⟨_,by conv=>lhs;reduce⟩
def kK:O2:=bD c F bM nM.1 [x0,x1,x2] s
def yh:=(by dsimp only[kK,nM,go_sem,Int.reduceOfNat]:kK c F x0 x1 x2 s=_)
def Mx:Sh:=(sq sl (sq sl sl))
def My:PX 303 Mx:=⟨_,by conv=>lhs;reduce⟩
def Ju:O2:=bD c F bM My.1 [x0,x1,x2] s
def X6:=(by dsimp only[Ju,My,go_sem,Int.reduceOfNat]:Ju c F x0 x1 x2 s=_)
def Eo:Sh:=(sq sl (sq (sq sl (sc (sq sl sl) sl)) (sq (sq sl (sb (sp 0 [0,13,14] [(1,[2]),(2,[])] (sq sl (sq (sc sl sl) (sq (sb (sq sl (sq sl (sc (sq sl sl) sl)))) sl)))))) (sq sl sl))))
def Mz:PX 319 Eo:=⟨_,by conv=>lhs;reduce⟩
def Ku:PL 319 Eo 0:=⟨_,by conv=>lhs;reduce⟩
def oa(k1 k2:Q2):Nat->Q2
 |0,_,_=>none
 |n+1,vs,s=>gY c F bM (oa k1 k2 n) [k1,k2] Ku.1 vs s
def FT(k1 k2:Q2)(n:Nat)(vs:List AV)(s:St):=(by dsimp only[oa,Ku,go_sem,Int.reduceOfNat]:oa c F k1 k2 (n+1) vs s=_)
def Ep:Un->List Q2->Nat->Q2
 |.z,[k1,k2]=>oa c F k1 k2
 |_,_=>λ_=>jr
def Jv:O2:=bD c F (Ep c F) Mz.1 [x0] s
def X7:=(by dsimp only[Jv,Mz, ↓Ep,go_sem,Int.reduceOfNat]:Jv c F x0 s=_)
def MA:Sh:=(sq sl (sq sl sl))
def MB:PX 320 MA:=⟨_,by conv=>lhs;reduce⟩
def Jw:O2:=bD c F bM MB.1 [x0] s
def X9:=(by dsimp only[Jw,MB,go_sem,Int.reduceOfNat]:Jw c F x0 s=_)
def pZ:Sh:=(sq sl (sq (sq sl (sc (sq sl sl) sl)) (sq sl sl)))
def p7:PX 321 pZ:=⟨_,by conv=>lhs;reduce⟩
def mA:O2:=bD c F bM p7.1 [x0] s
def p9:=(by dsimp only[mA,p7,go_sem,Int.reduceOfNat]:mA c F x0 s=_)
def vn:Sh:=(sq sl (sq sl sl))
def vp:PX 322 vn:=⟨_,by conv=>lhs;reduce⟩
def qa:O2:=bD c F bM vp.1 [x0,x1] s
def EW:=(by dsimp only[qa,vp,go_sem,Int.reduceOfNat]:qa c F x0 x1 s=_)
def eE:Sh:=(sq sl (sq sl (sq sl (sq (sb (sp 0 [0,2,4,8,9,10] [(2,[0,2,4,8,9])] (sq (sq sl (sc sl sl)) (sb (sq sl (sq sl (sc sl sl))))))) (sq sl sl)))))
def iA:PX 323 eE:=⟨_,by conv=>lhs;reduce⟩
def ia:PL 323 eE 0:=⟨_,by conv=>lhs;reduce⟩
def aS(k2:Q2):Nat->Q2
 |0,_,_=>none
 |n+1,vs,s=>gY c F bM (aS k2 n) [k2] ia.1 vs s
def dV(k2:Q2)(n:Nat)(vs:List AV)(s:St):=(by dsimp only[aS,ia,go_sem,Int.reduceOfNat]:aS c F k2 (n+1) vs s=_)
def eF:Un->List Q2->Nat->Q2
 |.z,[k2]=>aS c F k2
 |_,_=>λ_=>jr
def eW:O2:=bD c F (eF c F) iA.1 [x0,x1,x2] s
def mX:=(by dsimp only[eW,iA, ↓eF,go_sem,Int.reduceOfNat]:eW c F x0 x1 x2 s=_)
end
section
variable{c:ai}(hc:Sem c)(F:Nat){x0 x1 x2 x3 x4 x5 x6 x7 x8 x9 yR yS:AV}{s:St}{r:AV×St}
include hc
theorem HO(h:Jl c F x0 s=some r):c 45 [x0] s=some (tidy s r):=hc.o1 F (D3 c F) DZ (by kernel_rfl) (by kernel_rfl) (λ_ _ _=>by kernel_rfl) (λ_ _ _ _=>by kernel_rfl) (by kernel_rfl) h
theorem HP(h:Jm c F x0 x1 s=some r):c 49 [x0,x1] s=some (tidy s r):=hc.o1 F (D5 c F) D4 (by kernel_rfl) (by kernel_rfl) (λ_ _ _=>by kernel_rfl) (λ_ _ _ _=>by kernel_rfl) (by kernel_rfl) h
theorem S8(h:Jn c F x0 s=some r):c 59 [x0] s=some (tidy s r):=hc.o0 F L9 (by kernel_rfl) (by kernel_rfl) h
theorem S9(h:Jo c F x0 s=some r):c 83 [x0] s=some (tidy s r):=hc.o1 F (D7 c F) D6 (by kernel_rfl) (by kernel_rfl) (λ_ _ _=>by kernel_rfl) (λ_ _ _ _=>by kernel_rfl) (by kernel_rfl) h
theorem Ta(h:Jp c F s=some r):c 84 [] s=some (tidy s r):=hc.o0 F Mc (by kernel_rfl) (by kernel_rfl) h
theorem KH(h:yV c F x0 x1 x2 s=some r):c 85 [x0,x1,x2] s=some (tidy s r):=hc.o0 F CC (by kernel_rfl) (by kernel_rfl) h
theorem Tb(h:Jq c F x0 s=some r):c 87 [x0] s=some (tidy s r):=hc.o0 F Me (by kernel_rfl) (by kernel_rfl) h
theorem Vu(h:Mg c F x0 s=some r):c 88 [x0] s=some (tidy s r):=hc.o0 F OM (by kernel_rfl) (by kernel_rfl) h
theorem NU(h:B9 c F x0 s=some r):c 94 [x0] s=some (tidy s r):=hc.o0 F FJ (by kernel_rfl) (by kernel_rfl) h
theorem Tc(h:Jr c F x0 s=some r):c 96 [x0] s=some (tidy s r):=hc.o1 F (D9 c F) D8 (by kernel_rfl) (by kernel_rfl) (λ_ _ _=>by kernel_rfl) (λ_ _ _ _=>by kernel_rfl) (by kernel_rfl) h
theorem q7(h:fo c F x0 x1 s=some r):c 126 [x0,x1] s=some (tidy s r):=hc.o1 F (eN c F) eM (by kernel_rfl) (by kernel_rfl) (λ_ _ _=>by kernel_rfl) (λ_ _ _ _=>by kernel_rfl) (by kernel_rfl) h
theorem Vv(h:Mi c F x0 x1 s=some r):c 128 [x0,x1] s=some (tidy s r):=hc.o0 F OO (by kernel_rfl) (by kernel_rfl) h
theorem CW(h:Ca c F x0 s=some r):c 129 [x0] s=some (tidy s r):=hc.o1 F (yX c F) yW (by kernel_rfl) (by kernel_rfl) (λ_ _ _=>by kernel_rfl) (λ_ _ _ _=>by kernel_rfl) (by kernel_rfl) h
theorem KI(h:yY c F x0 s=some r):c 130 [x0] s=some (tidy s r):=hc.o0 F CG (by kernel_rfl) (by kernel_rfl) h
theorem KJ(h:yZ c F x0 x1 s=some r):c 149 [x0,x1] s=some (tidy s r):=hc.o0 F CI (by kernel_rfl) (by kernel_rfl) h
theorem Ya(h:PJ c F x0 x1 s=some r):c 150 [x0,x1] s=some (tidy s r):=hc.o0 F RF (by kernel_rfl) (by kernel_rfl) h
theorem Vw(h:Ml c F x0 s=some r):c 151 [x0] s=some (tidy s r):=hc.o1 F (Gx c F) Gw (by kernel_rfl) (by kernel_rfl) (λ_ _ _=>by kernel_rfl) (λ_ _ _ _=>by kernel_rfl) (by kernel_rfl) h
theorem NV(h:Cb c F x0 s=some r):c 152 [x0] s=some (tidy s r):=hc.o0 F FO (by kernel_rfl) (by kernel_rfl) h
theorem Vx(h:Mn c F x0 s=some r):c 163 [x0] s=some (tidy s r):=hc.o1 F (Gz c F) Gy (by kernel_rfl) (by kernel_rfl) (λ_ _ _=>by kernel_rfl) (λ_ _ _ _=>by kernel_rfl) (by kernel_rfl) h
theorem q9(h:iG c F x0 x1 s=some r):c 177 [x0,x1] s=some (tidy s r):=hc.o1 F (gU c F) gR (by kernel_rfl) (by kernel_rfl) (λ_ _ _=>by kernel_rfl) (λ_ _ _ _=>by kernel_rfl) (by kernel_rfl) h
theorem RK(h:GF c F x0 x1 s=some r):c 178 [x0,x1] s=some (tidy s r):=hc.o0 F Kn (by kernel_rfl) (by kernel_rfl) h
theorem pK(h:gF c F x0 x1 s=some r):c 179 [x0,x1] s=some (tidy s r):=hc.o0 F jR (by kernel_rfl) (by kernel_rfl) h
theorem KL(h:y6 c F x0 x1 s=some r):c 180 [x0,x1] s=some (tidy s r):=hc.o0 F CL (by kernel_rfl) (by kernel_rfl) h
theorem Td(h:zc c F x0 s=some r):c 181 [x0] s=some (tidy s r):=hc.oL F (Ed c F) y9 2 (by kernel_rfl) (λi hi=>match i,hi with|0,_=>j5 0 (by kernel_rfl) (λ_ _ _=>by kernel_rfl) (λ_ _ _ _=>by kernel_rfl)|1,_=>j5 1 (by kernel_rfl) (λ_ _ _=>by kernel_rfl) (λ_ _ _ _=>by kernel_rfl)|n+2,h=>absurd h (by omega)) (by kernel_rfl) h
theorem Te(h:Js c F x0 x1 s=some r):c 196 [x0,x1] s=some (tidy s r):=hc.o0 F Mp (by kernel_rfl) (by kernel_rfl) h
theorem KM(h:zd c F x0 x1 s=some r):c 197 [x0,x1] s=some (tidy s r):=hc.o0 F CN (by kernel_rfl) (by kernel_rfl) h
theorem MC(h:AS c F x0 x1 s=some r):c 202 [x0,x1] s=some (tidy s r):=hc.o0 F Ee (by kernel_rfl) (by kernel_rfl) h
theorem MD(h:AT c F x0 x1 s=some r):c 207 [x0,x1] s=some (tidy s r):=hc.o0 F Eg (by kernel_rfl) (by kernel_rfl) h
theorem NW(h:Cc c F x0 x1 s=some r):c 212 [x0,x1] s=some (tidy s r):=hc.o0 F FQ (by kernel_rfl) (by kernel_rfl) h
theorem rW(h:oQ c F x0 s=some r):c 233 [x0] s=some (tidy s r):=hc.oL F (nD c F) ke 2 (by kernel_rfl) (λi hi=>match i,hi with|0,_=>j5 0 (by kernel_rfl) (λ_ _ _=>by kernel_rfl) (λ_ _ _ _=>by kernel_rfl)|1,_=>j5 1 (by kernel_rfl) (λ_ _ _=>by kernel_rfl) (λ_ _ _ _=>by kernel_rfl)|n+2,h=>absurd h (by omega)) (by kernel_rfl) h
theorem KN(h:zf c F x0 x1 s=some r):c 239 [x0,x1] s=some (tidy s r):=hc.o1 F (vG c F) vF (by kernel_rfl) (by kernel_rfl) (λ_ _ _=>by kernel_rfl) (λ_ _ _ _=>by kernel_rfl) (by kernel_rfl) h
theorem KO(h:zi c F x0 s=some r):c 240 [x0] s=some (tidy s r):=hc.o1 F (vI c F) vH (by kernel_rfl) (by kernel_rfl) (λ_ _ _=>by kernel_rfl) (λ_ _ _ _=>by kernel_rfl) (by kernel_rfl) h
theorem Vy(h:Mu c F s=some r):c 250 [] s=some (tidy s r):=hc.o0 F OS (by kernel_rfl) (by kernel_rfl) h
theorem BI(h:uY c F x0 x1 s=some r):c 251 [x0,x1] s=some (tidy s r):=hc.o0 F Ei (by kernel_rfl) (by kernel_rfl) h
theorem RL(h:GG c F x0 x1 s=some r):c 252 [x0,x1] s=some (tidy s r):=hc.o0 F Kr (by kernel_rfl) (by kernel_rfl) h
theorem uu(h:uZ c F x0 x1 x2 x3 s=some r):c 253 [x0,x1,x2,x3] s=some (tidy s r):=hc.o1 F (xp c F) xk (by kernel_rfl) (by kernel_rfl) (λ_ _ _=>by kernel_rfl) (λ_ _ _ _=>by kernel_rfl) (by kernel_rfl) h
theorem GJ(h:ur c F x0 s=some r):c 290 [x0] s=some (tidy s r):=hc.o1 F (qZ c F) qY (by kernel_rfl) (by kernel_rfl) (λ_ _ _=>by kernel_rfl) (λ_ _ _ _=>by kernel_rfl) (by kernel_rfl) h
theorem EX(h:sQ c F x0 x1 s=some r):c 291 [x0,x1] s=some (tidy s r):=hc.o0 F xS (by kernel_rfl) (by kernel_rfl) h
theorem KP(h:zk c F x0 s=some r):c 297 [x0] s=some (tidy s r):=hc.o0 F CS (by kernel_rfl) (by kernel_rfl) h
theorem RM(h:GH c F x0 s=some r):c 298 [x0] s=some (tidy s r):=hc.o1 F (Ce c F) Cd (by kernel_rfl) (by kernel_rfl) (λ_ _ _=>by kernel_rfl) (λ_ _ _ _=>by kernel_rfl) (by kernel_rfl) h
theorem PO(h:Em c F x0 s=some r):c 299 [x0] s=some (tidy s r):=hc.o0 F HM (by kernel_rfl) (by kernel_rfl) h
theorem KQ(h:zl c F x0 x1 s=some r):c 300 [x0,x1] s=some (tidy s r):=hc.o0 F CU (by kernel_rfl) (by kernel_rfl) h
theorem Jx(h:xq c F x0 x1 x2 s=some r):c 301 [x0,x1,x2] s=some (tidy s r):=hc.o0 F BG (by kernel_rfl) (by kernel_rfl) h
theorem wo(h:kK c F x0 x1 x2 s=some r):c 302 [x0,x1,x2] s=some (tidy s r):=hc.o0 F nL (by kernel_rfl) (by kernel_rfl) h
theorem Tf(h:Ju c F x0 x1 x2 s=some r):c 303 [x0,x1,x2] s=some (tidy s r):=hc.o0 F Mx (by kernel_rfl) (by kernel_rfl) h
theorem Tg(h:Jv c F x0 s=some r):c 319 [x0] s=some (tidy s r):=hc.o1 F (Ep c F) Eo (by kernel_rfl) (by kernel_rfl) (λ_ _ _=>by kernel_rfl) (λ_ _ _ _=>by kernel_rfl) (by kernel_rfl) h
theorem Th(h:Jw c F x0 s=some r):c 320 [x0] s=some (tidy s r):=hc.o0 F MA (by kernel_rfl) (by kernel_rfl) h
theorem ot(h:mA c F x0 s=some r):c 321 [x0] s=some (tidy s r):=hc.o0 F pZ (by kernel_rfl) (by kernel_rfl) h
theorem Di(h:qa c F x0 x1 s=some r):c 322 [x0,x1] s=some (tidy s r):=hc.o0 F vn (by kernel_rfl) (by kernel_rfl) h
theorem mG(h:eW c F x0 x1 x2 s=some r):c 323 [x0,x1,x2] s=some (tidy s r):=hc.o1 F (eF c F) eE (by kernel_rfl) (by kernel_rfl) (λ_ _ _=>by kernel_rfl) (λ_ _ _ _=>by kernel_rfl) (by kernel_rfl) h
end
end
section
open Go Go.Ai Go.Proofs
variable{c:ai}
def fI(s:List Nat):Bool:=decide (1<=s.length)&&decide (s.length<=12)&&s.all λc=>decide (97<=c/\c<=122)
theorem ahs(s:List Nat)(hs:s.length<=12)(F:Nat)(st:St)(k1 k2):∀(m k:Nat),s.length<=k+m->k<=s.length->
  jF c F k1 k2 (m+1) [.str s,.int .i64 (k:Int)] st=if(s.drop k).all (λc=>decide (97<=c/\c<=122))=true then k2 [] st else k1 [.bool false] st:=by
 intro m;induction m with
 |zero=>
  intro k h1 h2;rw[zh];obtain rfl:k=s.length:=by omega
  simp
 |succ m ih=>
  intro k h1 h2;rw[zh];by_cases h:k<s.length
  . have e:s.drop k=s[k]::s.drop (k+1):=Zc3 h;have:=ih (k+1) (by omega) (by omega);have w:au .i64 ((k:Int)+1)=((k+1:Nat):Int):=wrap64 (by omega) (by omega);rw[e,Zm1];generalize (s.drop (k+1)).all _=rest at this ⊢;by_cases h3:(s[k]:Int)<97
    .   have h5:decide (97<=s[k]/\s[k]<=122)=false:=(by simp;omega);simp[h,h3,h5]
    .   by_cases h4:122<(s[k]:Int)
        .have h5:decide (97<=s[k]/\s[k]<=122)=false:=(by simp;omega);simp[h,h3,h4,h5]
        .have h5:decide (97<=s[k]/\s[k]<=122)=true:=(by simp;omega);rw[h5,Zg0, <-this];simp[h,h3,h4,w]
  .obtain rfl:k=s.length:=(by omega);simp
theorem HR(hc:Sem c)(s:List Nat)(st:St):c 240 [.str s] st=some (.bool (fI s),st):=by
 rw[KO hc (s.length+1) (r:=(.bool (fI s),st)),aD (Plain.bool _) (aT.refl st)];rw[NQ];by_cases h0:(s.length:Int)<1
 .have h1:¬1<=s.length:=(by omega);simp[fI,h0,h1]
 . by_cases h1:12<(s.length:Int)
   .have h2:¬s.length<=12:=(by omega);simp[fI,h0,h1,h2]
   . have h2:s.length<=12:=(by omega);have h3:1<=s.length:=(by omega);have L:∀k1 k2,jF c (s.length+1) k1 k2 (s.length+1) [.str s,.int .i64 0] st=if(s.drop 0).all (λc=>decide (97<=c/\c<=122))=true then k2 [] st else k1 [.bool false] st:=
        λk1 k2=>ahs (c:=c) s h2 (s.length+1) st k1 k2 s.length 0 (by omega) (by omega)
     rw[Zc9]at L;have e:fI s=s.all λc=>decide (97<=c/\c<=122):=(by simp[fI,h2,h3]);rw[e];generalize (s.all _)=b at L ⊢;simp[h0,h1,L];cases b<;>simp
structure aK where
 name:List Nat
 sh:Int
 a:Int
 b:Int
 oz:Bool
 ou:List Int
 x:Int
 y:Int
def ints(z:Bool)(l:List Int):AV:=ro 1 z (l.map λi=>[.int .i64 i])
def aK.cells(t:aK):List AV:=[.str t.name,.int .u8 t.sh,.int .i64 t.a,.int .i64 t.b,ints t.oz t.ou,.int .i64 t.x,.int .i64 t.y]
@[simp] theorem afC(z:Bool)(l:List Int):(ints z l).one=true:=ac8 _ _ _
def bH(t:aK):Int:=
 if t.sh=1 then(if 1<=t.a/\t.a<=24/\t.b=0 then t.a else 0)
 else if t.sh=2 then(if 1<=t.a/\t.a<=11/\0<=t.b/\t.b<=2 then 2*t.a+t.b else 0)
 else if t.sh=3 then(if 1<=t.a/\t.a<=8/\1<=t.b/\t.b<=8 then t.a+2*t.b else 0)
 else if t.sh=4 then(if 1<=t.a/\t.a<=24/\0<=t.b/\t.b<=t.a then t.a else 0)
 else 0
theorem Vz(hc:Sem c)(a b:Int)(st:St):c 197 [.int .i64 a,.int .i64 b] st=some (.int .i64 (if 1<=a/\a<=24/\b=0 then a else 0),st):=by
 rw[KM hc 1 (r:=(.int .i64 (if 1<=a/\a<=24/\b=0 then a else 0),st)),aD (Plain.int _ _) (aT.refl st)];rw[NO];by_cases h1:a<1
 .have:¬1<=a:=(by omega);simp[h1,this]
 . by_cases h2:24<a
   .have:¬a<=24:=(by omega);simp[h1,h2,this]
   .have h3:1<=a:=(by omega);have h4:a<=24:=(by omega);by_cases h5:b=0<;>simp[h1,h2,h3,h4,h5]
theorem Yb(hc:Sem c)(a b:Int)(st:St):c 202 [.int .i64 a,.int .i64 b] st=some (.int .i64 (if 1<=a/\a<=11/\0<=b/\b<=2 then 2*a+b else 0),st):=by
 rw[MC hc 1 (r:=(.int .i64 (if 1<=a/\a<=11/\0<=b/\b<=2 then 2*a+b else 0),st)),aD (Plain.int _ _) (aT.refl st)];rw[PM];by_cases h1:a<1
 .have:¬1<=a:=(by omega);simp[h1,this]
 by_cases h2:11<a
 .have:¬a<=11:=(by omega);simp[h1,h2,this]
 by_cases h3:b<0
 .have:¬0<=b:=(by omega);simp[h1,h2,h3,this]
 by_cases h4:2<b
 .have:¬b<=2:=(by omega);simp[h1,h2,h3,h4,this]
 have h5:1<=a:=by omega
 have h6:a<=11:=by omega
 have h7:0<=b:=by omega
 have h8:b<=2:=by omega
 have w1:au .i64 (2*a)=2*a:=wrap64 (by omega) (by omega);have w2:au .i64 (2*a+b)=2*a+b:=wrap64 (by omega) (by omega);simp[h1,h2,h3,h4,h5,h6,h7,h8,w1,w2]
theorem Yc(hc:Sem c)(a b:Int)(st:St):c 207 [.int .i64 a,.int .i64 b] st=some (.int .i64 (if 1<=a/\a<=8/\1<=b/\b<=8 then a+2*b else 0),st):=by
 rw[MD hc 1 (r:=(.int .i64 (if 1<=a/\a<=8/\1<=b/\b<=8 then a+2*b else 0),st)),aD (Plain.int _ _) (aT.refl st)];rw[PN];by_cases h1:a<1
 .have:¬1<=a:=(by omega);simp[h1,this]
 by_cases h2:8<a
 .have:¬a<=8:=(by omega);simp[h1,h2,this]
 by_cases h3:b<1
 .have:¬1<=b:=(by omega);simp[h1,h2,h3,this]
 by_cases h4:8<b
 .have:¬b<=8:=(by omega);simp[h1,h2,h3,h4,this]
 have h5:1<=a:=by omega
 have h6:a<=8:=by omega
 have h7:1<=b:=by omega
 have h8:b<=8:=by omega
 have w1:au .i64 (2*b)=2*b:=wrap64 (by omega) (by omega);have w2:au .i64 (a+2*b)=a+2*b:=wrap64 (by omega) (by omega);simp[h1,h2,h3,h4,h5,h6,h7,h8,w1,w2]
theorem ZA(hc:Sem c)(a b:Int)(st:St):c 212 [.int .i64 a,.int .i64 b] st=some (.int .i64 (if 1<=a/\a<=24/\0<=b/\b<=a then a else 0),st):=by
 rw[NW hc 1 (r:=(.int .i64 (if 1<=a/\a<=24/\0<=b/\b<=a then a else 0),st)),aD (Plain.int _ _) (aT.refl st)];rw[RJ];by_cases h1:a<1
 .have:¬1<=a:=(by omega);simp[h1,this]
 by_cases h2:24<a
 .have:¬a<=24:=(by omega);simp[h1,h2,this]
 by_cases h3:b<0
 .have:¬0<=b:=(by omega);simp[h1,h2,h3,this]
 by_cases h4:a<b
 .have:¬b<=a:=(by omega);simp[h1,h2,h3,h4,this]
 have h5:1<=a:=by omega
 have h6:a<=24:=by omega
 have h7:0<=b:=by omega
 have h8:b<=a:=by omega
 simp[h1,h2,h3,h4,h5,h6,h7,h8]
def uv(sh:Int):List AV:=
 if sh=1 then [.str [114,111,117,110,100],.func 197 [] [],.func 198 [] [],.func 199 [] [],.func 200 [] [],.func 201 [] []]
 else if sh=2 then [.str [108,111,110,103],.func 202 [] [],.func 203 [] [],.func 204 [] [],.func 205 [] [],.func 206 [] []]
 else if sh=3 then [.str [104,111,114,115,101,115,104,111,101],.func 207 [] [],.func 208 [] [],.func 209 [] [],.func 210 [] [],.func 211 [] []]
 else if sh=4 then [.str [114,111,119],.func 212 [] [],.func 213 [] [],.func 214 [] [],.func 215 [] [],.func 216 [] []]
 else [.str [],.jV,.jV,.jV,.jV,.jV]
theorem plain_fn(f:Nat):Plain (.func f [] []):=Plain.func f (by simp) (by simp)
theorem ady(sh:Int):∀v∈uv sh,Plain v:=by
 unfold uv;intro v hv
 repeat' split at hv
 all_goals
  simp only[Zb2,Ze9,Zj8]at hv;rcases hv with rfl|rfl|rfl|rfl|rfl|rfl<;>first|exact Plain.str _|exact Plain.jV|exact plain_fn _
theorem wq(hc:Sem c)(sh:Int)(st:St)(hw:Wf st):c 152 [.int .u8 sh] st=some (.tuple [.agg (uv sh),.bool (decide (1<=sh/\sh<=4))],st):=by
 have hp:Plain (.tuple [.agg (uv sh),.bool (decide (1<=sh/\sh<=4))]):=Plain.tuple λv hv=>by
   simp only[Zb2,Ze9,Zj8]at hv;rcases hv with rfl|rfl
   .exact Plain.agg (ady sh)
   .exact Plain.bool _
 rw[NV hc 1 (r:=(.tuple [.agg (uv sh),.bool (decide (1<=sh/\sh<=4))],af st (.cells (uv sh) 0))),aD hp (cN hw)];rw[RI];by_cases h1:sh=1
 .subst h1;simp[uv,AV.cells,aR,AV.one,bY,cW,aJ,cI]
 by_cases h2:sh=2
 .subst h2;simp[uv,AV.cells,aR,AV.one,bY,cW,aJ,cI]
 by_cases h3:sh=3
 .subst h3;simp[uv,AV.cells,aR,AV.one,bY,cW,aJ,cI]
 by_cases h4:sh=4
 .subst h4;simp[uv,AV.cells,aR,AV.one,bY,cW,aJ,cI]
 have h5:decide (1<=sh/\sh<=4)=false:=by simp;omega
 rw[h5];simp[uv,AV.cells,aR,AV.one,bY,cW,aJ,cI,h1,h2,h3,h4]
theorem HS(hc:Sem c)(t:aK)(st:St)(hw:Wf st):c 88 [.agg t.cells] st=some (.int .i64 (bH t),st):=by
 rw[Vu hc 1 (r:=(.int .i64 (bH t),af (af st (.cells t.cells 0)) (.cells (uv t.sh) 0))),aD (Plain.int _ _) ((cN hw).trans (cN (bU hw)))];rw[Zv];obtain⟨name,sh,a,b,oz,ou,x,y⟩:=t;by_cases h1:sh=1
 .subst h1;simp[aK.cells,AV.cells,wq hc,hw,bH,uv,aR,AV.one,Vz hc]
 by_cases h2:sh=2
 .subst h2;simp[aK.cells,AV.cells,wq hc,hw,bH,uv,aR,AV.one,Yb hc]
 by_cases h3:sh=3
 .subst h3;simp[aK.cells,AV.cells,wq hc,hw,bH,uv,aR,AV.one,Yc hc]
 by_cases h4:sh=4
 .subst h4;simp[aK.cells,AV.cells,wq hc,hw,bH,uv,aR,AV.one,ZA hc]
 have h5:decide (1<=sh/\sh<=4)=false:=by simp;omega
 simp[aK.cells,AV.cells,wq hc,hw,bH,uv,aR,AV.one,h1,h2,h3,h4,h5]
def pG:Nat:=9223372036854775808
theorem RN(s:List Nat)(hs:s.length<=12)(F:Nat)(st:St)(k1 k2):∀(m k:Nat),s.length<=k+m->k<=s.length->
  oa c F k1 k2 (m+1) [.str s,.int .i64 (s.length:Int),.int .i64 (k:Int)] st=if(s.drop k).all (λc=>decide (97<=c/\c<=122))=true then k2 [] st else k1 [.bool false] st:=by
 intro m;induction m with
 |zero=>
  intro k h1 h2;rw[FT];obtain rfl:k=s.length:=by omega
  simp
 |succ m ih=>
  intro k h1 h2;rw[FT];by_cases h:k<s.length
  . have e:s.drop k=s[k]::s.drop (k+1):=Zc3 h;have:=ih (k+1) (by omega) (by omega);have w:au .i64 ((k:Int)+1)=((k+1:Nat):Int):=wrap64 (by omega) (by omega);rw[e,Zm1];generalize (s.drop (k+1)).all _=rest at this ⊢;by_cases h3:(s[k]:Int)<97
    .   have h5:decide (97<=s[k]/\s[k]<=122)=false:=(by simp;omega);simp[h,h3,h5]
    .   by_cases h4:122<(s[k]:Int)
        .have h5:decide (97<=s[k]/\s[k]<=122)=false:=(by simp;omega);simp[h,h3,h4,h5]
        .have h5:decide (97<=s[k]/\s[k]<=122)=true:=(by simp;omega);rw[h5,Zg0, <-this];simp[h,h3,h4,w]
  .obtain rfl:k=s.length:=(by omega);simp
theorem Cf(hc:Sem c)(s:List Nat)(st:St):c 319 [.str s] st=some (.bool (fI s),st):=by
 rw[Tg hc (s.length+1) (r:=(.bool (fI s),st)),aD (Plain.bool _) (aT.refl st)];rw[X7];by_cases h0:(s.length:Int)=0
 .have h1:¬1<=s.length:=(by omega);have h2:s=[]:=Zb1 (by omega);subst h2;simp[fI]
 . by_cases h1:12<(s.length:Int)
   .have h2:¬s.length<=12:=(by omega);have h3:¬s=[]:=(by intro e;subst e;simp at h0);simp[fI,h1,h2,h3]
   . have h2:s.length<=12:=(by omega);have h3:1<=s.length:=(by omega);have h4:¬s=[]:=(by intro e;subst e;simp at h0);have L:∀k1 k2,oa c (s.length+1) k1 k2 (s.length+1) [.str s,.int .i64 (s.length:Int),.int .i64 0] st=if(s.drop 0).all (λc=>decide (97<=c/\c<=122))=true then k2 [] st else k1 [.bool false] st:=
        λk1 k2=>RN (c:=c) s h2 (s.length+1) st k1 k2 s.length 0 (by omega) (by omega)
     rw[Zc9]at L;have e:fI s=s.all λc=>decide (97<=c/\c<=122):=(by simp[fI,h2,h3]);rw[e];generalize (s.all _)=b at L ⊢;simp[h1,h4,L];cases b<;>simp
theorem Ti(s:List Nat)(hs:s.length<=12)(F:Nat)(st:St)(k1 k2):∀(m k:Nat),s.length<=k+m->k<=s.length->
  pX c F k1 k2 (m+1) [.str s,.int .i64 (s.length:Int),.int .i64 (k:Int)] st=if(s.drop k).all (λc=>decide (97<=c/\c<=122))=true then k2 [] st else k1 [.bool false] st:=by
 intro m;induction m with
 |zero=>
  intro k h1 h2;rw[HI];obtain rfl:k=s.length:=by omega
  simp
 |succ m ih=>
  intro k h1 h2;rw[HI];by_cases h:k<s.length
  . have e:s.drop k=s[k]::s.drop (k+1):=Zc3 h;have:=ih (k+1) (by omega) (by omega);have w:au .i64 ((k:Int)+1)=((k+1:Nat):Int):=wrap64 (by omega) (by omega);rw[e,Zm1];generalize (s.drop (k+1)).all _=rest at this ⊢;by_cases h3:(s[k]:Int)<97
    .   have h5:decide (97<=s[k]/\s[k]<=122)=false:=(by simp;omega);simp[h,h3,h5]
    .   by_cases h4:122<(s[k]:Int)
        .have h5:decide (97<=s[k]/\s[k]<=122)=false:=(by simp;omega);simp[h,h3,h4,h5]
        .have h5:decide (97<=s[k]/\s[k]<=122)=true:=(by simp;omega);rw[h5,Zg0, <-this];simp[h,h3,h4,w]
  .obtain rfl:k=s.length:=(by omega);simp
theorem Yd(hc:Sem c)(s:List Nat)(st:St):c 151 [.str s] st=some (.bool (fI s),st):=by
 rw[Vw hc (s.length+1) (r:=(.bool (fI s),st)),aD (Plain.bool _) (aT.refl st)];rw[Zx];by_cases h0:(s.length:Int)=0
 .have h1:¬1<=s.length:=(by omega);have h2:s=[]:=Zb1 (by omega);subst h2;simp[fI]
 . by_cases h1:12<(s.length:Int)
   .have h2:¬s.length<=12:=(by omega);have h3:¬s=[]:=(by intro e;subst e;simp at h0);simp[fI,h1,h2,h3]
   . have h2:s.length<=12:=(by omega);have h3:1<=s.length:=(by omega);have h4:¬s=[]:=(by intro e;subst e;simp at h0);have L:∀k1 k2,pX c (s.length+1) k1 k2 (s.length+1) [.str s,.int .i64 (s.length:Int),.int .i64 0] st=if(s.drop 0).all (λc=>decide (97<=c/\c<=122))=true then k2 [] st else k1 [.bool false] st:=
        λk1 k2=>Ti (c:=c) s h2 (s.length+1) st k1 k2 s.length 0 (by omega) (by omega)
     rw[Zc9]at L;have e:fI s=s.all λc=>decide (97<=c/\c<=122):=(by simp[fI,h2,h3]);rw[e];generalize (s.all _)=b at L ⊢;simp[h1,h4,L];cases b<;>simp
theorem Tj(s:List Nat)(hs:s.length<pG)(F:Nat)(st:St)(k1 k2):∀(m k:Nat),s.length<=k+m->k<=s.length->
  pY c F k1 k2 (m+1) [.str s,.int .i64 (k:Int)] st=if(s.drop k).all (λc=>decide (97<=c/\c<=122))=true then k2 [.str s] st else k1 [.bool false] st:=by
 intro m;induction m with
 |zero=>
  intro k h1 h2;rw[HJ];obtain rfl:k=s.length:=by omega
  simp
 |succ m ih=>
  intro k h1 h2;rw[HJ];by_cases h:k<s.length
  . have e:s.drop k=s[k]::s.drop (k+1):=Zc3 h;have:=ih (k+1) (by omega) (by omega);have w:au .i64 ((k:Int)+1)=((k+1:Nat):Int):=wrap64 (by omega) (by unfold pG at hs;omega);rw[e,Zm1];generalize (s.drop (k+1)).all _=rest at this ⊢;by_cases h3:(s[k]:Int)<97
    .   have h5:decide (97<=s[k]/\s[k]<=122)=false:=(by simp;omega);simp[h,h3,h5]
    .   by_cases h4:122<(s[k]:Int)
        .have h5:decide (97<=s[k]/\s[k]<=122)=false:=(by simp;omega);simp[h,h3,h4,h5]
        .have h5:decide (97<=s[k]/\s[k]<=122)=true:=(by simp;omega);rw[h5,Zg0, <-this];simp[h,h3,h4,w]
  .obtain rfl:k=s.length:=(by omega);simp
theorem Ye(hc:Sem c)(s:List Nat)(hs:s.length<pG)(st:St):c 163 [.str s] st=some (.bool (fI s),st):=by
 rw[Vx hc (s.length+1) (r:=(.bool (fI s),st)),aD (Plain.bool _) (aT.refl st)];rw[Zy];have L:∀k1 k2,pY c (s.length+1) k1 k2 (s.length+1) [.str s,.int .i64 0] st=if(s.drop 0).all (λc=>decide (97<=c/\c<=122))=true then k2 [.str s] st else k1 [.bool false] st:=
   λk1 k2=>Tj (c:=c) s hs (s.length+1) st k1 k2 s.length 0 (by omega) (by omega)
 rw[Zc9]at L;have e:fI s=(decide (1<=s.length)&&decide (s.length<=12)&&s.all λc=>decide (97<=c/\c<=122)):=rfl;rw[e];generalize (s.all _)=b at L ⊢;simp[L];cases b
 .simp
 . by_cases h1:(1:Int)<=s.length
   . have h2:1<=s.length:=(by omega);by_cases h3:(s.length:Int)<=12
     .  have h4:s.length<=12:=(by omega);simp[h1,h2,h3,h4]
     .  have h4:¬s.length<=12:=(by omega);simp[h1,h2,h3,h4]
   .have h2:¬1<=s.length:=(by omega);simp[h1,h2]
def lO(s:List Nat):Bool:=decide (s=[])||fI s
theorem Cg(hc:Sem c)(s:List Nat)(st:St):c 320 [.str s] st=some (.bool (lO s),st):=by
 rw[Th hc 1 (r:=(.bool (lO s),st)),aD (Plain.bool _) (aT.refl st)];rw[X9];by_cases h:s=[]<;>simp[h,lO,Cf hc]
def Jy(n last:Int):List Int->Bool
 |[]=>true
 |k::l=>decide (last<k)&&decide (k<n)&&Jy n k l
def nE(t:aK):Int:=
 if fI t.name=false then 4 else if bH t=0 then 10 else if Jy (bH t) (-1) t.ou=false then 11
 else if 0<=t.x/\t.x<=1000/\0<=t.y/\t.y<=1000 then 0 else 2
structure aK.Ok(t:aK):Prop where
 name:t.name.length<pG
 ou:t.ou.length<pG
theorem Yf(l:List Int)(k:Nat)(h:k<l.length):((l.map λi=>[AV.int .i64 i])[k]?.bind λcs=>cs[0]?)=some (.int .i64 l[k]):=by
 simp[Zb6,H4 h]
theorem RO(p:Pos)(n:Int)(z:Bool)(l:List Int)(hl:l.length<pG)(F:Nat)(st:St)(k1 k3):∀(m k:Nat)(last:Int),l.length<=k+m->k<=l.length->
  n9 c F k1 k3 (m+1) [.ptr p 0,.int .i64 n,.int .i64 last,ints z l,.int .i64 (l.length:Int),.int .i64 (k:Int)] st=if Jy n last (l.drop k)=true then k3 [.ptr p 0] st else k1 [.int .i64 11] st:=by
 intro m;induction m with
 |zero=>
  intro k last h1 h2;rw[FL];obtain rfl:k=l.length:=by omega
  simp[Jy]
 |succ m ih=>
  intro k last h1 h2;rw[FL];by_cases h:k<l.length
  . have e:l.drop k=l[k]::l.drop (k+1):=Zc3 h;have:=ih (k+1) l[k] (by omega) (by omega);have w:au .i64 ((k:Int)+1)=((k+1:Nat):Int):=wrap64 (by omega) (by unfold pG at hl;omega);have g:=Yf l k h;rw[e,Jy];generalize Jy n l[k] (l.drop (k+1))=rest at this ⊢;by_cases h3:l[k]<=last
    .   have h4:¬last<l[k]:=(by omega);simp[ints,h,h3,h4,g]
    .   have h4:last<l[k]:=(by omega);by_cases h5:n<=l[k]
        .have h6:¬l[k]<n:=(by omega);simp[ints,h,h3,h4,h5,h6,g]
        .have h6:l[k]<n:=(by omega);simp only[h4,h6,Zg2,Zg0];rw[<-this];simp[ints,h,h3,h4,h5,h6,g,w]
  .obtain rfl:k=l.length:=(by omega);simp[Jy]
theorem Yg(hc:Sem c)(t:aK)(ht:t.Ok)(st:St)(hw:Wf st):c 96 [.agg t.cells] st=some (.int .i64 (nE t),st):=by
 rw[Tc hc (t.ou.length+1) (r:=(.int .i64 (nE t),af st (.cells t.cells 0))),aD (Plain.int _ _) (cN hw)];rw[X0];have hs:=HS hc t (af st (.cells t.cells 0)) (bU hw);have hn:=Ye hc t.name ht.name;have hg:(af st (.cells t.cells 0)).heap.get st.next=some (.cells t.cells 0):=aE _ _;have c0:t.cells[0]? =some (.str t.name):=rfl;have c4:t.cells[4]? =some (ints t.oz t.ou):=rfl;have c5:t.cells[5]? =some (.int .i64 t.x):=rfl;have c6:t.cells[6]? =some (.int .i64 t.y):=rfl;have cc:cut t.cells 0 7=some t.cells:=bY rfl
 have L:∀k1 k3,n9 c (t.ou.length+1) k1 k3 (t.ou.length+1) [.ptr st.next 0,.int .i64 (bH t),.int .i64 (-1),ints t.oz t.ou,.int .i64 (t.ou.length:Int),.int .i64 0] (af st (.cells t.cells 0))=
     if Jy (bH t) (-1) (t.ou.drop 0)=true then k3 [.ptr st.next 0] (af st (.cells t.cells 0))else k1 [.int .i64 11] (af st (.cells t.cells 0)):=
   λk1 k3=>RO st.next (bH t) t.oz t.ou ht.ou _ _ k1 k3 t.ou.length 0 (-1) (by omega) (by omega)
 rw[Zc9]at L;have lI:∀(K:AV->St->Option (AV×St))(s:St),aj c (.lenB .l) [ints t.oz t.ou] s K=K (.int .i64 (t.ou.length:Int)) s:=λK s=>by unfold ints;rw[lF];simp
 unfold nE;generalize t.cells=tc at*
 generalize bH t=sz at*
 generalize Jy sz (-1) t.ou=op at*
 by_cases h1:fI t.name=true
 . by_cases h2:sz=0
   .simp[AV.cells,hs,hn,hg,c0,cc,h1,h2]
   . cases op
     .  simp[AV.cells,hs,hn,hg,c0,c4,cc,h1,h2,lI,L]
     .  by_cases h3:t.x<0
        .have:¬0<=t.x:=(by omega);simp[AV.cells,hs,hn,hg,c0,c4,c5,c6,cc,h1,h2,lI,L,h3,this]
        by_cases h4:1000<t.x
        .have:¬t.x<=1000:=(by omega);simp[AV.cells,hs,hn,hg,c0,c4,c5,c6,cc,h1,h2,lI,L,h3,h4,this]
        by_cases h5:t.y<0
        .have:¬0<=t.y:=(by omega);simp[AV.cells,hs,hn,hg,c0,c4,c5,c6,cc,h1,h2,lI,L,h3,h4,h5,this]
        by_cases h6:1000<t.y
        .have:¬t.y<=1000:=(by omega);simp[AV.cells,hs,hn,hg,c0,c4,c5,c6,cc,h1,h2,lI,L,h3,h4,h5,h6,this]
        have h7:0<=t.x:=(by omega);have h8:t.x<=1000:=(by omega);have h9:0<=t.y:=(by omega);have h10:t.y<=1000:=(by omega);simp[AV.cells,hs,hn,hg,c0,c4,c5,c6,cc,h1,h2,lI,L,h3,h4,h5,h6,h7,h8,h9,h10]
 .simp[AV.cells,hs,hn,hg,c0,cc,h1]
theorem Er(t:aK):0<=bH t/\bH t<=1000:=by
 unfold bH;repeat' split
 all_goals omega
def scan(P:Nat->Bool):Nat->Nat->Int
 |0,_=> -1
 |m+1,k=>if P k=true then(k:Int)else scan P m (k+1)
theorem NF(P:Nat->Bool):∀(m k:Nat),-1<=scan P m k/\(scan P m k<0->scan P m k= -1)
 |0,_=>by simp[scan]
 |m+1,k=>by
  unfold scan;split
  .omega
  .exact NF P m (k+1)
theorem RP{P Q:Nat->Bool}:∀(m k:Nat),(∀i,k<=i->i<k+m->P i=Q i)->scan P m k=scan Q m k
 |0,_,_=>rfl
 |m+1,k,h=>by
  unfold scan;rw[h k (by omega) (by omega),RP m (k+1) λi h1 h2=>h i (by omega) (by omega)]
theorem AU{P:Nat->Bool}:∀(m k:Nat),0<=scan P m k->k<=(scan P m k).toNat/\(scan P m k).toNat<k+m/\P (scan P m k).toNat=true
 |0,k,h=>by simp[scan]at h
 |m +1,k,h=>by
  unfold scan at h ⊢;split
  .rename_i hp;simp;exact hp
  .rename_i hp;rw[Za3 hp]at h;have:=AU m (k+1) h;exact⟨by omega,by omega,this.2.2⟩
def tabs(z:Bool)(ts:List aK):AV:=ro 7 z (ts.map aK.cells)
@[simp] theorem aK.c0(t:aK):t.cells[0]? =some (.str t.name):=id rfl
@[simp] theorem aK.c1(t:aK):t.cells[1]? =some (.int .u8 t.sh):=id rfl
@[simp] theorem aK.c2(t:aK):t.cells[2]? =some (.int .i64 t.a):=id rfl
@[simp] theorem aK.c3(t:aK):t.cells[3]? =some (.int .i64 t.b):=id rfl
@[simp] theorem aK.c4(t:aK):t.cells[4]? =some (ints t.oz t.ou):=id rfl
@[simp] theorem aK.c5(t:aK):t.cells[5]? =some (.int .i64 t.x):=id rfl
@[simp] theorem aK.c6(t:aK):t.cells[6]? =some (.int .i64 t.y):=id rfl
@[simp] theorem aK.cc(t:aK):cut t.cells 0 7=some t.cells:=bY rfl
theorem aK.len(t:aK):t.cells.length=7:=id rfl
@[simp] theorem aK.one(t:aK):aR t.cells=true:=by unfold aK.cells;simp only[aR,afC];rfl
@[simp] theorem ME(l:List AV):(AV.agg l).cells=l:=id rfl
def nN(ts:List aK)(s:List Nat)(i:Nat):Bool:=decide (ts[i]?.map aK.name=some s)
def ic(ts:List aK):Nat->Nat->Int×Int
 |0,_=>(0,0)
 |  m+1,k=>match ts[k]? with
    |none=>(0,0)
    |some t=>if nE t≠0 then((k:Int),nE t)else if 0<=scan (nN ts t.name) k 0 then((k:Int),5)else ic ts m (k+1)
def bI(ts:List aK):Int×Int:=if 16<ts.length then(0,7)else ic ts ts.length 0
theorem RQ(ts:List aK):∀(m m' k:Nat),ts.length<=k+m->ts.length<=k+m'->ic ts m k=ic ts m' k
 |0,0,_,_,_=>rfl
 |0,m'+1,k,h,_=>by rw[ic,ic,Zb5 (by omega)]
 |m+1,0,k,_,h=>by rw[ic,ic,Zb5 (by omega)]
 |m+1,m'+1,k,h,h'=>by
  rw[ic,ic,RQ ts m m' (k+1) (by omega) (by omega)]
theorem RR(ts:List aK):∀(m k:Nat),(ic ts m k).2=0->(ic ts m k).1=0
 |0,_,_=>rfl
 |m +   1,k,h=>by
  rw[ic]at h ⊢;split at h
  .rfl
  . split at h
    .   rename_i cL;exact absurd h cL
    .   split at h
        .simp at h
        .rename_i h1 h2;rw[Za3 h1,Za3 h2];exact RR ts m (k+1) h
theorem Yh(hc:Sem c)(x t:aK)(p:Pos)(st:St)(hw:Wf st)(hp:st.heap.get p=some (.cells t.cells 0)):c 180 [.agg x.cells,.ptr p 0] st=some (.bool (decide (x.name=t.name)),st):=by
 rw[KL hc 1 (r:=(.bool (decide (x.name=t.name)),af st (.cells x.cells 0))),aD (Plain.bool _) (cN hw)];rw[NN];have:(af st (.cells x.cells 0)).heap.get p=some (.cells t.cells 0):=cN hw _ _ hp;simp[this]
theorem afD(hc:Sem c)(x:aK)(s:List Nat)(p:Pos)(st:St)(hw:Wf st)(hp:st.heap.get p=some (.cells [.str s] 0)):c 178 [.agg x.cells,.ptr p 0] st=some (.bool (decide (x.name=s)),st):=by
 rw[RK hc 1 (r:=(.bool (decide (x.name=s)),af st (.cells x.cells 0))),aD (Plain.bool _) (cN hw)];rw[Vq];have:(af st (.cells x.cells 0)).heap.get p=some (.cells [.str s] 0):=cN hw _ _ hp;simp[this]
theorem adz(z:Bool)(rs:List (List AV))(hl:rs.length<pG)(ee:∀cs∈rs,cs.length=7)(g:Nat)(v:List AV)(P:Nat->Bool)(st:St)(F:Nat)(k1 k2)
  (hP:∀i (h:i<rs.length),c g (.agg rs[i]::v) st=some (.bool (P i),st)):∀(m k:Nat),rs.length<=k+m->k<=rs.length->
  cE c F k1 k2 (m+1) [ro 7 z rs,.func g [] v,.int .i64 (rs.length:Int),.int .i64 (k:Int)] st=if 0<=scan P (rs.length - k) k then k1 [.int .i64 (scan P (rs.length - k) k)] st else k2 [] st:=by
 intro m;induction m with
 |zero=>
  intro k h1 h2;obtain rfl:k=rs.length:=by omega
  rw[jQ];simp[scan]
 |succ m ih=>
  intro k h1 h2;rw[jQ];by_cases h:k<rs.length
  . have e:rs.length - k=(rs.length - (k+1))+1:=(by omega);have w:au .i64 ((k:Int)+1)=((k+1:Nat):Int):=wrap64 (by omega) (by unfold pG at hl;omega);have hcut:cut rs[k] 0 7=some rs[k]:=bY (ee _ (Zc0 h));have hp:=hP k h;rw[e,scan];cases hb:P k
    .   simp only[Ze5,Zf9];rw[<-ih (k+1) (by omega) (by omega)];simp[h,hcut,hp,hb,w]
    .   simp[h,hcut,hp,hb]
  .obtain rfl:k=rs.length:=(by omega);simp[scan]
theorem aaw(hc:Sem c)(z:Bool)(rs:List (List AV))(hl:rs.length<pG)(ee:∀cs∈rs,cs.length=7)(g:Nat)(v:List AV)(P:Nat->Bool)(st:St)
   (hP:∀i (h:i<rs.length),c g (.agg rs[i]::v) st=some (.bool (P i),st)):c 177 [ro 7 z rs,.func g [] v] st=some (.int .i64 (scan P rs.length 0),st):=by
 rw[q9 hc (rs.length+1) (r:=(.int .i64 (scan P rs.length 0),st)),aD (Plain.int _ _) (aT.refl st)];rw[sO];have L:∀k1 k2,cE c (rs.length+1) k1 k2 (rs.length+1) [ro 7 z rs,.func g [] v,.int .i64 (rs.length:Int),.int .i64 0] st=if 0<=scan P (rs.length - 0) 0 then k1 [.int .i64 (scan P (rs.length - 0) 0)] st else k2 [] st:=
   λk1 k2=>adz z rs hl ee g v P st _ k1 k2 hP rs.length 0 (by omega) (by omega)
 rw[Zl6]at L;by_cases h:0<=scan P rs.length 0
 .simp[L,h]
 .have:=(NF P rs.length 0).2 (by omega);simp[L,this]
theorem Yi(hc:Sem c)(z:Bool)(rs:List (List AV))(hl:rs.length<pG)(ee:∀cs∈rs,cs.length=7)(g:Nat)(v:List AV)(P:Nat->Bool)(st:St)
  (hP:∀i (h:i<rs.length),c g (.agg rs[i]::v) st=some (.bool (P i),st)):c 179 [ro 7 z rs,.func g [] v] st=some (.bool (decide (0<=scan P rs.length 0)),st):=by
 rw[pK hc 1 (r:=(.bool (decide (0<=scan P rs.length 0)),st)),aD (Plain.bool _) (aT.refl st)];rw[qj];simp[aaw hc z rs hl ee g v P st hP]
theorem VA(hc:Sem c)(z:Bool)(ts:List aK)(dP:∀t∈ts,t.Ok)(hl:ts.length<=16)(F:Nat)(k1 k2):∀(m k:Nat)(st:St),Wf st->ts.length<=k+m->k<=ts.length->
  ∃st',Grew st st'/\ny c F k1 k2 (m+1) [tabs z ts,tabs z ts,.int .i64 (ts.length:Int),.int .i64 (k:Int)] st=if(ic ts m k).2=0 then k2 [] st' else k1 [.int .i64 (ic ts m k).1,.int .i64 (ic ts m k).2] st':=by
 intro m;induction m with
 |zero=>
  intro k st hw h1 h2;obtain rfl:k=ts.length:=by omega
  refine⟨st,Grew.refl hw,?_⟩;rw[uk];simp[ic,tabs]
 |succ m ih=>
  intro k st hw h1 h2;by_cases h:k<ts.length
  . have w:au .i64 ((k:Int)+1)=((k+1:Nat):Int):=wrap64 (by omega) (by omega);have dm:Wf (af st (.cells ts[k].cells 0)):=bU hw;have hg:=Grew.af hw (.cells ts[k].cells 0);have hch:=Yg hc ts[k] (dP _ (Zc0 h)) _ dm;have hco:=Yi hc (z&&(ts.map aK.cells).isEmpty) ((ts.map aK.cells).take k) (by simp[pG];omega) (λcs gy=>by
          have:=List.mem_of_mem_take gy;simp only[Ze3]at this;obtain⟨t,_,rfl⟩:=this;rfl) 180 [.ptr st.next 0] (nN ts ts[k].name) (af st (.cells ts[k].cells 0)) (λi hi=>by
          have Qp:i<k:=(by simp at hi;omega);have hi3:i<ts.length:=(by omega);have:=Yh hc ts[i] ts[k] st.next (af st (.cells ts[k].cells 0)) dm (aE _ _);simp only[Zo0,Zk5];rw[this];simp[nN,hi3])
    have hlen:((ts.map aK.cells).take k).length=k:=(by simp;omega);rw[hlen]at hco;rw[uk,ic,H4 h];simp only;by_cases h3:nE ts[k]=0
    .   by_cases h4:0<=scan (nN ts ts[k].name) k 0
        .refine⟨_,hg,?_⟩;have kF:k<=ts.length:=(by omega);simp only[tabs,Zq8]at hco ⊢;simp[h,hch,h3,h4,kF,hco,aK.len]
        .obtain⟨st',g1,g2⟩:=ih (k+1) _ dm (by omega) (by omega);refine⟨st',hg.trans g1,?_⟩;have kF:k<=ts.length:=(by omega);have e3:¬nE ts[k]≠0:=(by rw[h3];simp);simp only[e3,h4,Zf9];rw[<-g2];simp only[tabs,Zq8]at hco ⊢;simp[h,hch,h3,h4,kF,hco,w,aK.len]
    .   refine⟨_,hg,?_⟩;simp[tabs,h,hch,h3,aK.len]
  .obtain rfl:k=ts.length:=(by omega);refine⟨st,Grew.refl hw,?_⟩;rw[uk];simp[ic,tabs]
theorem OU(hc:Sem c)(z:Bool)(ts:List aK)(dP:∀t∈ts,t.Ok)(st:St)(hw:Wf st):c 129 [tabs z ts] st=some (.tuple [.int .i64 (bI ts).1,.int .i64 (bI ts).2],st):=by
 have pR:Plain (.tuple [.int .i64 (bI ts).1,.int .i64 (bI ts).2]):=Plain.tuple (by simp[Plain.int]);by_cases h:16<ts.length
 .rw[CW hc 20 (r:=(.tuple [.int .i64 (bI ts).1,.int .i64 (bI ts).2],st)),aD pR (aT.refl st)];rw[FN];have hi:(16:Int)<ts.length:=(by omega);simp[tabs,bI,h,hi]
 . have hi:¬(16:Int)<ts.length:=(by omega);have e:bI ts=ic ts 19 0:=(by rw[bI,Za3 h];exact RQ ts _ _ 0 (by omega) (by omega));have hex:=λk1 k2=>VA hc z ts dP (by omega) 20 k1 k2 19 0 st hw (by omega) (by omega)
   obtain⟨st',hg,L⟩:=hex (λvs s36=>iR vs λx2 vs=>iR vs λx3 vs=>om vs (some (.tuple [x2,x3],s36))) (λvs s37=>om vs (
     aj c .move [(.int .i64 0)] s37 λx2 s38=>aj c .move [(.int .i64 0)] s38 λx3 s39=>some (.tuple [x2,x3],s39)))
   rw[CW hc 20 (r:=(.tuple [.int .i64 (bI ts).1,.int .i64 (bI ts).2],st')),aD pR hg.keeps];rw[FN,e];simp only[tabs]at L;simp[tabs,hi]at L ⊢;rw[L];by_cases h2:(ic ts 19 0).2=0
   .have:=RR ts 19 0 h2;simp[h2,this]
   .simp[h2]
def aY(ts:List aK):Int:=(ts.map bH).sum
theorem oR(ts:List aK):0<=aY ts/\aY ts<=1000*ts.length:=by
 induction ts with
 |nil=>simp[aY]
 |cons t ts ih=>
  have:=Er t;simp only[aY,Zb8,Zq4,Zc5]at ih ⊢;omega
theorem RT(ts:List aK)(t:aK):aY (ts++[t])=aY ts+bH t:=by simp[aY]
def wR(ts:List aK)(t:Int):Int:=if t<0\/(ts.length:Int)<=t\/(bI ts).2≠0 then 0 else aY (ts.take t.toNat)
theorem Jz(hc:Sem c)(z:Bool)(ts:List aK)(dP:∀t∈ts,t.Ok)(st:St)(hw:Wf st):c 87 [tabs z ts] st=some (.bool (decide ((bI ts).2=0)),st):=by
 rw[Tb hc 1 (r:=(.bool (decide ((bI ts).2=0)),st)),aD (Plain.bool _) (aT.refl st)];rw[XZ];simp[OU hc z ts dP st hw]
theorem MF{ts:List aK}(h:(bI ts).2=0):ts.length<=16:=by
 unfold bI at h;split at h
 .simp at h
 .omega
theorem abD(hc:Sem c)(z:Bool)(ts:List aK)(hl:ts.length<=16)(F:Nat)(k2):∀(m k:Nat)(st:St),Wf st->ts.length<=k+m->k<=ts.length->
  ∃st',Grew st st'/\rV c F k2 (m+1) [.int .i64 (aY (ts.take k)),tabs z ts,.int .i64 (ts.length:Int),.int .i64 (k:Int)] st=k2 [.int .i64 (aY ts)] st':=by
 intro m;induction m with
 |zero=>
  intro k st hw h1 h2;obtain rfl:k=ts.length:=by omega
  refine⟨st,Grew.refl hw,?_⟩;rw[yU];simp
 |succ m ih=>
  intro k st hw h1 h2;by_cases h:k<ts.length
  . have w:au .i64 ((k:Int)+1)=((k+1:Nat):Int):=wrap64 (by omega) (by omega);have dm:Wf (af st (.cells ts[k].cells 0)):=bU hw;have hg:=Grew.af hw (.cells ts[k].cells 0);have hs:=HS hc ts[k] _ dm;have e:aY (ts.take (k+1))=aY (ts.take k)+bH ts[k]:=by
        rw[Ze0 h,RT]
    have b1:=oR (ts.take k);have b2:=Er ts[k];have b3:(ts.take k).length<=16:=(by simp;omega);have w2:au .i64 (aY (ts.take k)+bH ts[k])=aY (ts.take (k+1)):=(by rw[e];exact wrap64 (by omega) (by omega));obtain⟨st',g1,g2⟩:=ih (k+1) _ dm (by omega) (by omega);refine⟨st',hg.trans g1,?_⟩;rw[<-g2,yU];simp[tabs,h,hs,w,w2,aK.len]
  .obtain rfl:k=ts.length:=(by omega);refine⟨st,Grew.refl hw,?_⟩;rw[yU];simp
theorem Yj(hc:Sem c)(z:Bool)(ts:List aK)(dP:∀t∈ts,t.Ok)(k:Int)(st:St)(hw:Wf st):c 49 [tabs z ts,.int .i64 k] st=some (.int .i64 (wR ts k),st):=by
 have lT:∀(K:AV->St->Option (AV×St))(s:St),aj c (.lenB .l) [tabs z ts] s K=K (.int .i64 (ts.length:Int)) s:=λK s=>by unfold tabs;rw[lF];simp
 have hv:=Jz hc z ts dP st hw;by_cases h:k<0\/(ts.length:Int)<=k\/(bI ts).2≠0
 . have e:wR ts k=0:=(by rw[wR,Za9 h]);rw[HP hc 1 (r:=(.int .i64 (wR ts k),st)),aD (Plain.int _ _) (aT.refl st)];rw[L8,e];by_cases h1:k<0
   .simp[h1]
   . by_cases h2:(ts.length:Int)<=k
     .  simp[h1,h2,lT]
     .  have h3:(bI ts).2≠0:=h.resolve_left h1 |>.resolve_left h2;simp[h1,h2,h3,lT,hv]
 . have e:wR ts k=aY (ts.take k.toNat):=(by rw[wR,Za3 h]);have h1:¬k<0:=λe=>h (.inl e)
   have h2:¬(ts.length:Int)<=k:=λe=>h (.inr (.inl e))
   have h3:(bI ts).2=0:=Zm9 λe=>h (.inr (.inr e))
   have hl:=MF h3;obtain⟨n,rfl⟩:∃n:Nat,k=(n:Int):=⟨k.toNat,by omega⟩
   have hn:n<=ts.length:=(by omega);have hex:=λk2=>abD hc (z&&ts.isEmpty) (ts.take n) (by simp;omega) 20 k2 19 0 st hw (by simp;omega) (by omega)
   obtain⟨st',hg,L⟩:=hex (λvs s33=>iR vs λx5 vs=>om vs (aj c .move [x5] s33 λx34 s34=>aj c .move [x34] s34 λx4 s35=>some (x4,s35)));rw[HP hc 20 (r:=(.int .i64 (wR ts (n:Int)),st')),aD (Plain.int _ _) hg.keeps];rw[L8,e];have h4:¬ts.length<=n:=(by omega);have hm:min n ts.length=n:=(by omega);simp[tabs,aY,hm]at L;simp[h1,h4,h3,lT,hv];simp[tabs,hn,hm,aY,L]
theorem ZB(hc:Sem c)(z:Bool)(ts:List aK)(hl:ts.length<=16)(st:St)(hw:Wf st):c 94 [tabs z ts] st=some (.int .i64 (if h:0<ts.length then bH (ts[ts.length - 1]'(by omega))else 0),st):=by
 rw[NU hc 1 (r:=(.int .i64 (if h:0<ts.length then bH (ts[ts.length - 1]'(by omega))else 0),st)),aD (Plain.int _ _) (aT.refl st)];rw[RE];by_cases h:0<ts.length
 . have h1:¬(ts.length:Int)=0:=(by omega);have h2:ts≠[]:=λe=>by subst e;simp at h
   have w:au .i64 ((ts.length:Int) - 1)=((ts.length - 1:Nat):Int):=(by rw[wrap64 (by omega) (by omega)];omega);have h3:ts.length - 1<ts.length:=(by omega);have hs:=HS hc (ts[ts.length - 1]'(by omega)) st hw;simp[tabs,h,h1,h2,w,h3,hs]
 .have h1:ts=[]:=Zb1 (by omega);subst h1;simp[tabs]
theorem adA{ts:List aK}(hv:(bI ts).2=0):wR ts ((ts.length:Int) - 1)+(if h:0<ts.length then bH (ts[ts.length - 1]'(by omega))else 0)=aY ts:=by
 by_cases h:0<ts.length
 .rw[dif_pos h,wR,Za3 (by simp[hv];omega)];have e:((ts.length:Int) - 1).toNat=ts.length - 1:=(by omega);rw[e, <-RT, <-Ze0 (by omega)];rw[show ts.length - 1+1=ts.length by omega,Zi9]
 .have h1:ts=[]:=Zb1 (by omega);subst h1;simp[wR,aY]
theorem AW(hc:Sem c)(z:Bool)(ts:List aK)(dP:∀t∈ts,t.Ok)(st:St)(hw:Wf st):c 59 [tabs z ts] st=some (.int .i64 (if(bI ts).2=0 then aY ts else 0),st):=by
 rw[S8 hc 1 (r:=(.int .i64 (if(bI ts).2=0 then aY ts else 0),st)),aD (Plain.int _ _) (aT.refl st)];rw[XW];have lT:∀(K:AV->St->Option (AV×St))(s:St),aj c (.lenB .l) [tabs z ts] s K=K (.int .i64 (ts.length:Int)) s:=λK s=>by unfold tabs;rw[lF];simp
 have hv:=Jz hc z ts dP st hw;by_cases h:(bI ts).2=0
 .have hl:=MF h;have w:au .i64 ((ts.length:Int) - 1)=(ts.length:Int) - 1:=wrap64 (by omega) (by omega);have hf:=Yj hc z ts dP ((ts.length:Int) - 1) st hw;have hla:=ZB hc z ts hl st hw;have b:=oR ts;have e:=adA h;rw[Za9 h, <-e];rw[<-e]at b;generalize wR ts ((ts.length:Int) - 1)=x at hf b ⊢;generalize (if h:0<ts.length then bH (ts[ts.length - 1]'(by omega))else 0)=y at hla b ⊢;have w2:au .i64 (x+y)=x+y:=wrap64 (by omega) (by omega);simp[hv,h,lT,w,hf,hla,w2]
 .simp[hv,h]
theorem aax(hc:Sem c)(z:Bool)(ts:List aK)(dP:∀t∈ts,t.Ok)(hl:ts.length<pG)(s:List Nat)(st:St)(hw:Wf st):c 128 [tabs z ts,.str s] st=
   some (.tuple [.int .i64 (if 0<=scan (nN ts s) ts.length 0/\(bI ts).2=0 then scan (nN ts s) ts.length 0 else 0),.bool (decide (0<=scan (nN ts s) ts.length 0/\(bI ts).2=0))],st):=by
 rw[Vv hc 1 (r:=(.tuple [.int .i64 (if 0<=scan (nN ts s) ts.length 0/\(bI ts).2=0 then scan (nN ts s) ts.length 0 else 0),.bool (decide (0<=scan (nN ts s) ts.length 0/\(bI ts).2=0))],af st (.cells [.str s] 0))),
   aD (Plain.tuple (by simp[Plain.int,Plain.bool])) (cN hw)]
 rw[Zw];have dm:Wf (af st (.cells [.str s] 0)):=bU hw;have hi:=aaw hc z (ts.map aK.cells) (by simpa using hl) (λcs gy=>by
     simp only[Ze3]at gy;obtain⟨t,_,rfl⟩:=gy;rfl) 178 [.ptr st.next 0] (nN ts s) (af st (.cells [.str s] 0)) (λi hi=>by
     have hi3:i<ts.length:=(by simpa using hi);have:=afD hc ts[i] s st.next (af st (.cells [.str s] 0)) dm (aE _ _);simp only[Zk5];rw[this];simp[nN,hi3])
 rw[Zb3]at hi;have hv:=Jz hc z ts dP _ dm;simp only[tabs]at hv ⊢;have e:(AV.str s).cells=[.str s]:=rfl;by_cases h1:0<=scan (nN ts s) ts.length 0
 . have h2:¬scan (nN ts s) ts.length 0<0:=(by omega);by_cases h3:(bI ts).2=0
   .simp[e,hi,h1,h2,h3,hv]
   .simp[e,hi,h1,h2,h3,hv]
 .have h2:scan (nN ts s) ts.length 0<0:=(by omega);simp[e,hi,h1,h2]
structure aL where
 name:List Nat
 vK:List Nat
 pN:List Nat
 since:Int
 side:Int
 mI:List Nat
 host:Bool
 access:Bool
 tz:Bool
 tg:List (List Nat)
def mB(z:Bool)(l:List (List Nat)):AV:=ro 1 z (l.map λs=>[.str s])
def aL.cells(g:aL):List AV:=[.str g.name,.str g.vK,.str g.pN,.int .i64 g.since,.int .i64 g.side,.str g.mI,.bool g.host,.bool g.access,mB g.tz g.tg]
@[simp] theorem afE(z:Bool)(l:List (List Nat)):(mB z l).one=true:=ac8 _ _ _
@[simp] theorem ajE{R:Type}(c:ai)(K:AV->St->Option R)(st:St)(z:Bool)(l:List (List Nat)):aj c (.lenB .l) [mB z l] st K=K (.int .i64 (l.length:Int)) st:=by unfold mB;rw[lF];simp
@[simp] theorem ajF{R:Type}(c:ai)(K:AV->St->Option R)(st:St)(z:Bool)(l:List Int):aj c (.lenB .l) [ints z l] st K=K (.int .i64 (l.length:Int)) st:=by unfold ints;rw[lF];simp
@[simp] theorem aL.c0(t:aL):t.cells[0]? =some (.str t.name):=id rfl
@[simp] theorem aL.c1(t:aL):t.cells[1]? =some (.str t.vK):=id rfl
@[simp] theorem aL.c2(t:aL):t.cells[2]? =some (.str t.pN):=id rfl
@[simp] theorem aL.c3(t:aL):t.cells[3]? =some (.int .i64 t.since):=id rfl
@[simp] theorem aL.c4(t:aL):t.cells[4]? =some (.int .i64 t.side):=id rfl
@[simp] theorem aL.c5(t:aL):t.cells[5]? =some (.str t.mI):=id rfl
@[simp] theorem aL.c6(t:aL):t.cells[6]? =some (.bool t.host):=id rfl
@[simp] theorem aL.c7(t:aL):t.cells[7]? =some (.bool t.access):=id rfl
@[simp] theorem aL.c8(t:aL):t.cells[8]? =some (mB t.tz t.tg):=id rfl
@[simp] theorem aL.cc(t:aL):cut t.cells 0 9=some t.cells:=bY rfl
@[simp] theorem aL.one(t:aL):aR t.cells=true:=by unfold aL.cells;simp only[aR,afE];rfl
def cS(z:Bool)(gs:List aL):AV:=ro 9 z (gs.map aL.cells)
@[simp] theorem afF{R:Type}(c:ai)(K:AV->St->Option R)(st:St)(z:Bool)(l:List aL):aj c (.lenB .l) [cS z l] st K=K (.int .i64 (l.length:Int)) st:=by unfold cS;rw[lF];simp
def aft(last:Option (List Nat))(s:List Nat):Bool:=match last with
 |none=>true
 |some p=>aC p s
@[simp] theorem Yk(s:List Nat):aft none s=true:=id rfl
@[simp] theorem Yl(p s:List Nat):aft (some p) s=aC p s:=id rfl
def zn(last:Option (List Nat)):List (List Nat)->Bool
 |[]=>true
 |s::l=>fI s&&aft last s&&zn (some s) l
theorem Ym(last:Option (List Nat))(s:List Nat)(l:List (List Nat)):zn last (s::l)=(fI s&&aft last s&&zn (some s) l):=rfl
def fH(g:aL):Int:=
 if(fI g.name&&lO g.vK&&lO g.pN&&lO g.mI)=false then 4 else if ¬(0<=g.since/\g.since<=9999)then 21 else if ¬(0<=g.side/\g.side<=2)then 20
 else if 4<g.tg.length then 22 else if zn none g.tg=false then 22 else 0
theorem uw:∀(a:List Nat),aC a a=false
 |[]=>rfl
 |x::a=>by
  unfold aC;simp[Df,cX,uw a]
theorem FU:∀(a b:List Nat),aC a b=true->aC b a=false
 |[],[],h=>by simp[aC]at h
 |[],_::_,_=>rfl
 |_::_,[],h=>by simp[aC]at h
 |x ::a,y::b,h=>by
  unfold aC at h ⊢;simp only[Df,cX]at h ⊢;by_cases h1:x<y
  .have:¬y<x:=(by omega);have h3:¬y=x:=(by omega);simp[this,h3]
  . by_cases h2:x=y
    .subst h2;simp at h ⊢; exact FU a b h
    .simp[h1,h2]at h
theorem zo:∀(a b:List Nat),aC a b=false->aC b a=false->a=b
 |[],[],_,_=>rfl
 |[],_::_,h,_=>by simp[aC]at h
 |_::_,[],_,h=>by simp[aC]at h
 |x ::a,y::b,h,k=>by
  unfold aC at h k;simp only[Df,cX]at h k;by_cases h1:x<y
  .simp[h1]at h
  . by_cases h2:y<x
    .   simp[h2]at k
    .   have:x=y:=(by omega);subst this;simp at h k;rw[zo a b h k]
theorem JA:∀(a b d:List Nat),aC a b=true->aC b d=true->aC a d=true
 |_,[],[],_,h=>by simp[aC]at h
 |_,_::_,[],_,h=>by simp[aC]at h
 |[],_,_::_,_,_=>rfl
 |_::_,[],_::_,h,_=>by simp[aC]at h
 |x ::a   ,y::b,z::d,h,k=>by
  unfold aC at h k ⊢;simp only[Df,cX]at h k ⊢;by_cases h1:x<y
  . by_cases h2:y<z
    .   have:x<z:=(by omega);simp[this]
    .   by_cases h3:y=z
        .subst h3;simp[h1]
        .simp[h2,h3]at k
  . by_cases h2:x=y
    .   subst h2;simp at h;by_cases h4:x<z
        .simp[h4]
        . by_cases h5:x=z
          .subst h5;simp at k ⊢; exact JA a b d h k
          .simp[h4,h5]at k
    .   simp[h1,h2]at h
theorem PR(hc:Sem c)(p:Pos)(g:aL)(hl:g.tg.length<=4)(F:Nat)(st:St)(hp:st.heap.get p=some (.cells g.cells 0))(k1 k3):∀(m k:Nat),g.tg.length<=k+m->k<=g.tg.length->
  mW c F k1 k3 (m+1) [.ptr p 0,mB g.tz g.tg,.int .i64 (g.tg.length:Int),.int .i64 (k:Int)] st=if zn (if k=0 then none else g.tg[k - 1]?) (g.tg.drop k)=true then k3 [] st else k1 [.int .i64 22] st:=by
 intro m;induction m with
 |zero=>
  intro k h1 h2;rw[El];obtain rfl:k=g.tg.length:=by omega
  simp[zn]
 |succ m ih=>
  intro k h1 h2;rw[El];by_cases h:k<g.tg.length
  . have e:g.tg.drop k=g.tg[k]::g.tg.drop (k+1):=Zc3 h;have w:au .i64 ((k:Int)+1)=((k+1:Nat):Int):=wrap64 (by omega) (by omega);have hn:=Cf hc g.tg[k] st;have:=ih (k+1) (by omega) (by omega);have e2:(if k+1=0 then none else g.tg[k+1 - 1]?)=some g.tg[k]:=(by rw[Za3 (by omega),Zf4,H4 h]);rw[e2]at this;rw[e,Ym];generalize zn (some g.tg[k]) (g.tg.drop (k+1))=rest at this ⊢;by_cases h3:fI g.tg[k]=true
    .   by_cases h0:k=0
        .have hk:¬0<k:=(by omega);simp only[h3,Za9 h0,Zg0,Yk];rw[<-this];simp[mB,h,hn,h3,hk,w]
        . have hk:0<k:=(by omega);have mR:k - 1<g.tg.length:=(by omega);have wk:au .i64 ((k:Int) - 1)=((k - 1:Nat):Int):=(by rw[wrap64 (by omega) (by omega)];omega);simp only[h3,Za3 h0,H4 mR,Zg0,Yl];cases hb:aC g.tg[k - 1] g.tg[k]
          .simp[mB,h,hn,h3,hk,mR,wk,hp,hb]
          .simp only[Zg0];rw[<-this];simp[mB,h,hn,h3,hk,mR,wk,hp,hb,w]
    .   simp[mB,h,hn,h3]
  .obtain rfl:k=g.tg.length:=(by omega);simp[zn]
theorem Tk(hc:Sem c)(g:aL)(st:St)(hw:Wf st):c 298 [.agg g.cells] st=some (.int .i64 (fH g),st):=by
 rw[RM hc 6 (r:=(.int .i64 (fH g),af st (.cells g.cells 0))),aD (Plain.int _ _) (cN hw)];rw[Vt];have n0:=Cf hc g.name;have n1:=Cg hc g.vK;have n2:=Cg hc g.pN;have n5:=Cg hc g.mI;by_cases hn:(fI g.name&&lO g.vK&&lO g.pN&&lO g.mI)=true
 . have UI:=hn;simp only[Zb0]at UI;obtain⟨⟨⟨b0,b1⟩,b2⟩,b5⟩:=UI;unfold fH;rw[hn];by_cases h1:g.since<0
   .have:¬(0<=g.since/\g.since<=9999):=(by omega);simp[n0,n1,n2,n5,b0,b1,b2,b5,h1,this]
   by_cases h2:9999<g.since
   .have:¬(0<=g.since/\g.since<=9999):=(by omega);simp[n0,n1,n2,n5,b0,b1,b2,b5,h1,h2,this]
   have h3:0<=g.since/\g.since<=9999:=(by omega);by_cases h4:g.side<0
   .have:¬(0<=g.side/\g.side<=2):=(by omega);simp[n0,n1,n2,n5,b0,b1,b2,b5,h1,h2,h3,h4,this]
   by_cases h5:2<g.side
   .have:¬(0<=g.side/\g.side<=2):=(by omega);simp[n0,n1,n2,n5,b0,b1,b2,b5,h1,h2,h3,h4,h5,this]
   have h6:0<=g.side/\g.side<=2:=(by omega);by_cases h7:4<g.tg.length
   .have h8:(4:Int)<g.tg.length:=(by omega);simp[n0,n1,n2,n5,b0,b1,b2,b5,h1,h2,h3,h4,h5,h6,h7,h8]
   . have h8:¬(4:Int)<g.tg.length:=(by omega);have L:∀k1 k3,mW c 6 k1 k3 6 [.ptr st.next 0,mB g.tz g.tg,.int .i64 (g.tg.length:Int),.int .i64 0] (af st (.cells g.cells 0))=if zn none (g.tg.drop 0)=true then k3 [] (af st (.cells g.cells 0))else k1 [.int .i64 22] (af st (.cells g.cells 0)):=
        λk1 k3=>PR hc st.next g (by omega) 6 _ (aE _ _) k1 k3 5 0 (by omega) (by omega)
     rw[Zc9]at L;generalize zn none g.tg=b at L ⊢;cases b<;>simp[n0,n1,n2,n5,b0,b1,b2,b5,h1,h2,h3,h4,h5,h6,h7,h8,L]
 . have QX:(fI g.name&&lO g.vK&&lO g.pN&&lO g.mI)=false:=(by simpa using hn);have hx:fH g=4:=(by unfold fH;rw[QX];simp);rw[hx];cases b0:fI g.name
   .simp[n0,b0]
   . cases b1:lO g.vK
     .  simp[n0,n1,b0,b1]
     .  cases b2:lO g.pN
        .simp[n0,n1,n2,b0,b1,b2]
        . cases b5:lO g.mI
          .simp[n0,n1,n2,n5,b0,b1,b2,b5]
          .simp[b0,b1,b2,b5]at hn
theorem Tl (hc:Sem c)(p:Pos)(g:aL)(hl:g.tg.length<=4)(F:Nat)(st:St)(hp:st.heap.get p=some (.cells g.cells 0))(k1 k2):∀(m k:Nat),g.tg.length<=k+m->k<=g.tg.length->
  iz c F k1 k2 (m+1) [.ptr p 0,.int .i64 (k:Int)] st=if zn (if k=0 then none else g.tg[k - 1]?) (g.tg.drop k)=true then k2 [] st else k1 [.int .i64 22] st:=by
 intro m;induction m with
 |zero=>
  intro k h1 h2;rw[vk];obtain rfl:k=g.tg.length:=by omega
  simp[zn,hp]
 |succ m ih   =>
  intro k h1 h2;rw[vk];by_cases h:k<g.tg.length
  . have e:g.tg.drop k=g.tg[k]::g.tg.drop (k+1):=Zc3 h;have w:au .i64 ((k:Int)+1)=((k+1:Nat):Int):=wrap64 (by omega) (by omega);have hn:=HR hc g.tg[k] st;have:=ih (k+1) (by omega) (by omega);have e2:(if k+1=0 then none else g.tg[k+1 - 1]?)=some g.tg[k]:=(by rw[Za3 (by omega),Zf4,H4 h]);rw[e2]at this;rw[e,Ym];generalize zn (some g.tg[k]) (g.tg.drop (k+1))=rest at this ⊢;by_cases h3:fI g.tg[k]=true
    .   by_cases h0:k=0
        .have hk:¬0<k:=(by omega);simp only[h3,Za9 h0,Zg0,Yk];rw[<-this];simp[mB,hp,h,hn,h3,hk,w]
        . have hk:0<k:=(by omega);have mR:k - 1<g.tg.length:=(by omega);have wk:au .i64 ((k:Int) - 1)=((k - 1:Nat):Int):=(by rw[wrap64 (by omega) (by omega)];omega);simp only[h3,Za3 h0,H4 mR,Zg0,Yl];have ho:(aC g.tg[k] g.tg[k - 1]||decide (g.tg[k]=g.tg[k - 1]))= !aC g.tg[k - 1] g.tg[k]:=by
            cases h5:aC g.tg[k - 1] g.tg[k]
            . cases h6:aC g.tg[k] g.tg[k - 1]
              .simp[zo _ _ h6 h5]
              .rfl
            . (rw[FU _ _ h5];have:g.tg[k]≠g.tg[k - 1]:=λe=>by rw[e,uw]at h5;cases h5);simp[this]
          cases hb:aC g.tg[k - 1] g.tg[k]
          .rw[hb]at ho;simp[mB,hp,h,hn,h3,hk,mR,wk,ho]
          .rw[hb]at ho;simp only[Zg0];rw[<-this];simp[mB,hp,h,hn,h3,hk,mR,wk,ho,w]
    .   simp[mB,hp,h,hn,h3]
  .obtain rfl:k=g.tg.length:=(by omega);simp[zn,hp]
theorem Yn(hc:Sem c)(g:aL)(st:St)(hw:Wf st):c 290 [.agg g.cells] st=some (.int .i64 (fH g),st):=by
 rw[GJ hc 6 (r:=(.int .i64 (fH g),af st (.cells g.cells 0))),aD (Plain.int _ _) (cN hw)];rw[Jt];have n0:=HR hc g.name;have n1:=HR hc g.vK;have n2:=HR hc g.pN;have n5:=HR hc g.mI;have en:fI []=false:=rfl;by_cases hn:(fI g.name&&lO g.vK&&lO g.pN&&lO g.mI)=true
 . have UI:=hn;simp only[Zb0,lO,Zi2,Ze2]at UI;obtain⟨⟨⟨b0,b1⟩,b2⟩,b5⟩:=UI;unfold fH;rw[hn];have hor:∀r:List Nat,r=[]\/fI r=true->(r=[]\/(¬r=[]/\fI r=true)):=λr h=>by
     by_cases e:r=[]
     .  exact .inl e
     .  exact .inr ⟨e,h.resolve_left e⟩
   have d1:=hor _ b1;have d2:=hor _ b2;have d5:=hor _ b5;by_cases h1:g.since<0
   .have:¬(0<=g.since/\g.since<=9999):=(by omega);rcases d1 with e1|⟨e1,f1⟩<;>rcases d2 with e2|⟨e2,f2⟩<;>rcases d5 with e5|⟨e5,f5⟩<;>simp[*]
   by_cases h2:9999<g.since
   .have:¬(0<=g.since/\g.since<=9999):=(by omega);rcases d1 with e1|⟨e1,f1⟩<;>rcases d2 with e2|⟨e2,f2⟩<;>rcases d5 with e5|⟨e5,f5⟩<;>simp[*]
   have h3:0<=g.since/\g.since<=9999:=(by omega);clear b1 b2 b5 hn hor;by_cases h6:0<=g.side/\g.side<=2
   . have h7:g.side=0\/g.side=1\/g.side=2:=(by omega);by_cases h8:4<g.tg.length
     .  have h9:(4:Int)<g.tg.length:=(by omega);rcases h7 with h7|h7|h7<;>rcases d1 with e1|⟨e1,f1⟩<;>rcases d2 with e2|⟨e2,f2⟩<;>rcases d5 with e5|⟨e5,f5⟩<;>simp[n0,n1,n2,n5,en,b0, *]
     .  have h9:¬(4:Int)<g.tg.length:=(by omega);have L:∀k1 k3,iz c 6 k1 k3 6 [.ptr st.next 0,.int .i64 0] (af st (.cells g.cells 0))=if zn none (g.tg.drop 0)=true then k3 [] (af st (.cells g.cells 0))else k1 [.int .i64 22] (af st (.cells g.cells 0)):=
          λk1 k3=>Tl hc st.next g (by omega) 6 _ (aE _ _) k1 k3 5 0 (by omega) (by omega)
        rw[Zc9]at L;generalize zn none g.tg=b at L ⊢;rcases h7 with h7|h7|h7<;>cases b<;>rcases d1 with e1|⟨e1,f1⟩<;>rcases d2 with e2|⟨e2,f2⟩<;>rcases d5 with e5|⟨e5,f5⟩<;>simp[n0,n1,n2,n5,en,b0, *]
   .have g0:¬g.side=0:=(by omega);have g1:¬g.side=1:=(by omega);have g2:¬g.side=2:=(by omega);rcases d1 with e1|⟨e1,f1⟩<;>rcases d2 with e2|⟨e2,f2⟩<;>rcases d5 with e5|⟨e5,f5⟩<;>simp[n0,n1,n2,n5,en,b0, *]
 . have QX  :(fI g.name&&lO g.vK&&lO g.pN&&lO g.mI)=false:=(by simpa using hn);have hx:fH g=4:=(by unfold fH;rw[QX];simp);rw[hx];have hsm:∀r:List Nat,lO r=false->¬r=[]/\fI r=false:=λr h=>by simpa [lO]using h
   have yy:∀r:List Nat,lO r=true->(r=[]\/(¬r=[]/\fI r=true)):=λr h=>by
     by_cases e:r=[]
     .  exact .inl e
     .  right;simp[lO,e]at h;exact⟨e,h⟩
   cases b0:fI g.name
   .simp[n0,b0]
   . cases  b1:lO g.vK
     .  obtain⟨q1,q2⟩:=hsm _ b1;simp[n0,n1,b0,q1,q2]
     .  have d1:=yy _ b1;cases b2:lO g.pN
        .obtain⟨q1,q2⟩:=hsm _ b2;rcases d1 with e1|⟨e1,f1⟩<;>simp[n0,n1,n2,b0, *]
        . have d2:=yy _ b2;cases b5:lO g.mI
          .obtain⟨q1,q2⟩:=hsm _ b5;rcases d1 with e1|⟨e1,f1⟩<;>rcases d2 with e2|⟨e2,f2⟩<;>simp[n0,n1,n2,n5,b0, *]
          .simp[b0,b1,b2,b5]at hn
structure Ty where
 a:List Nat
 b:List Nat
 k:Int
def Ty.cells(t:Ty):List AV:=[.str t.a,.str t.b,.int .u8 t.k]
@[simp] theorem Ty.c0(t:Ty):t.cells[0]? =some (.str t.a):=id rfl
@[simp] theorem Ty.c1(t:Ty):t.cells[1]? =some (.str t.b):=id rfl
@[simp] theorem Ty.c2(t:Ty):t.cells[2]? =some (.int .u8 t.k):=id rfl
@[simp] theorem Ty.cc(t:Ty):cut t.cells 0 3=some t.cells:=bY rfl
theorem Ty.len(t:Ty):t.cells.length=3:=id rfl
@[simp] theorem Ty.one(t:Ty):aR t.cells=true:=id rfl
@[simp] theorem aiJ{R:Type}(c:ai)(K:AV->St->Option R)(st:St)(t:Ty)(x y z:AV):aj c (.store 3) [.ptr st.next 0,.agg t.cells] (af st (.cells [x,y,z] 0)) K=K .undef (af st (.cells t.cells 0)):=eG c K st 3 (.agg t.cells) [x,y,z] rfl rfl t.one
def fJ(z:Bool)(ts:List Ty):AV:=ro 3 z (ts.map Ty.cells)
@[simp] theorem afG{R:Type}(c:ai)(K:AV->St->Option R)(st:St)(z:Bool)(l:List Ty):aj c (.lenB .l) [fJ z l] st K=K (.int .i64 (l.length:Int)) st:=by unfold fJ;rw[lF];simp
def fY(gs:List aL)(s:List Nat)(i:Nat):Bool:=decide (gs[i]?.map aL.name=some s)
theorem aht(z:Bool)(gs:List aL)(s:List Nat)(hl:gs.length<pG)(F:Nat)(st:St)(k1 k2):∀(m k:Nat),gs.length<=k+m->k<=gs.length->
  jE c F k1 k2 (m+1) [cS z gs,.str s,.int .i64 (k:Int)] st=if 0<=scan (fY gs s) (gs.length - k) k then k1 [.int .i64 (scan (fY gs s) (gs.length - k) k)] st else k2 [] st:=by
 intro m;induction m with
 |zero=>
  intro k h1 h2;obtain rfl:k=gs.length:=by omega
  rw[ze];simp[scan]
 |succ m ih=>
  intro k h1 h2;rw[ze];by_cases h:k<gs.length
  . have e:gs.length - k=(gs.length - (k+1))+1:=(by omega);have w:au .i64 ((k:Int)+1)=((k+1:Nat):Int):=wrap64 (by omega) (by unfold pG at hl;omega);rw[e,scan];by_cases h3:gs[k].name=s
    .   have:fY gs s k=true:=(by simp[fY,h,h3]);simp only[this,Zh0];simp[cS,h,h3]
    .   have:fY gs s k=false:=(by simp[fY,h,h3]);simp only[this,Ze5,Zf9];rw[<-ih (k+1) (by omega) (by omega)];simp[cS,h,h3,w]
  .obtain rfl:k=gs.length:=(by omega);simp[scan]
theorem abE(hc:Sem c)(z:Bool)(gs:List aL)(s:List Nat)(hl:gs.length<pG)(st:St):c 239 [cS z gs,.str s] st=some (.int .i64 (scan (fY gs s) gs.length 0),st):=by
 rw[KN hc (gs.length+1) (r:=(.int .i64 (scan (fY gs s) gs.length 0),st)),aD (Plain.int _ _) (aT.refl st)];rw[NP];have L:∀k1 k2,jE c (gs.length+1) k1 k2 (gs.length+1) [cS z gs,.str s,.int .i64 0] st=if 0<=scan (fY gs s) (gs.length - 0) 0 then k1 [.int .i64 (scan (fY gs s) (gs.length - 0) 0)] st else k2 [] st:=
   λk1 k2=>aht z gs s hl _ st k1 k2 gs.length 0 (by omega) (by omega)
 rw[Zl6]at L;by_cases h:0<=scan (fY gs s) gs.length 0
 .simp[L,h]
 .have:=(NF (fY gs s) gs.length 0).2 (by omega);simp[L,this]
def eJ(s t:Ty):Bool:=aC s.a t.a||(decide (s.a=t.a)&&aC s.b t.b)
theorem UJ(hc:Sem c)(s t:Ty)(st:St)(hw:Wf st):c 291 [.agg s.cells,.agg t.cells] st=some (.bool (eJ s t),st):=by
 rw[EX hc 1 (r:=(.bool (eJ s t),af (af st (.cells s.cells 0)) (.cells t.cells 0))),aD (Plain.bool _) ((cN hw).trans (cN (bU hw)))];rw[HK];by_cases h2:s.a=t.a
 .simp[eJ,h2,uw]
 .cases h1:aC s.a t.a<;>simp[eJ,h1,h2]
def zp(a b:List Nat):Int:=if aC a b=true then -1 else if aC b a=true then 1 else 0
theorem aik(hc:Sem c)(a b:List Nat)(st:St):c 329 [.str a,.str b] st=some (.int .i64 (zp a b),st):=by unfold Sem at hc;subst hc;refine Q9 (s:=KZ) (by rfl) ?_;show some (AV.int .i64 (match aC a b with|true=>.negSucc 0|false=>match aC b a with|true=>.ofNat 1|false=>.ofNat 0),st)=_;unfold zp;generalize aC a b=p;generalize aC b a=q;cases p<;>cases q<;>rfl
theorem PT(hc:Sem c)(a b:List Nat)(st:St):c 322 [.str a,.str b] st=some (.int .i64 (zp a b),st):=by
 rw[Di hc 1 (r:=(.int .i64 (zp a b),st)),aD (Plain.int _ _) (aT.refl st)];rw[EW];simp[aik hc]
theorem RU(hc:Sem c)(a b:List Nat)(st:St):c 300 [.str a,.str b] st=some (.int .i64 (zp a b),st):=by
 rw[KQ hc 1 (r:=(.int .i64 (zp a b),st)),aD (Plain.int _ _) (aT.refl st)];rw[NT];simp[PT hc]
theorem aay{a b:List Nat}:zp a b=0↔a=b:=by
 unfold zp;cases h1:aC a b
 . cases h2:aC b a
   .simp;exact zo _ _ h1 h2
   .simp;intro e;subst e;rw[uw]at h2;cases h2
 .simp;intro e;subst e;rw[uw]at h1;cases h1
def qb(s t:Ty):Int:=if s.a=t.a then zp s.b t.b else zp s.a t.a
theorem Es(hc:Sem c)(s t:Ty)(st:St)(hw:Wf st):c 252 [.agg s.cells,.agg t.cells] st=some (.int .i64 (qb s t),st):=by
 rw[RL hc 1 (r:=(.int .i64 (qb s t),af (af st (.cells s.cells 0)) (.cells t.cells 0))),aD (Plain.int _ _) ((cN hw).trans (cN (bU hw)))];rw[Vr];by_cases h:s.a=t.a
 .have:zp t.a t.a=0:=aay.2 rfl;simp[qb,RU hc,h,this]
 . have:¬zp s.a t.a=0:=λe=>h (aay.1 e)
   simp[qb,RU hc,h,this]
theorem Tm{s t:Ty}:qb s t<0↔eJ s t=true:=by
 unfold qb eJ zp;by_cases h:s.a=t.a
 .simp only[h,uw,Zh0];cases aC s.b t.b<;>cases aC t.b s.b<;>simp
 .simp only[h,Zf9];cases aC s.a t.a<;>cases aC t.a s.a<;>simp
theorem NG{s t:Ty}:0<qb s t↔eJ t s=true:=by
 unfold qb eJ zp;by_cases h:s.a=t.a
 . simp only[h,uw,Zh0];cases h1:aC s.b t.b
   .cases aC t.b s.b<;>simp
   .simp[FU _ _ h1]
 . have h':¬t.a=s.a:=λe=>h e.symm
   simp only[h,h',Zf9];cases h1:aC s.a t.a
   .cases aC t.a s.a<;>simp
   .simp[FU _ _ h1]
theorem aaz(hc:Sem c)(a b:List Nat)(k:Int)(aO:aC a b=true)(st:St)(hw:Wf st):c 303 [.str a,.str b,.int .u8 k] st=some (.agg (Ty.cells ⟨a,b,k⟩),st):=by
 rw[Tf hc 1 (r:=(.agg (Ty.cells ⟨a,b,k⟩),af st (.cells (Ty.cells ⟨a,b,k⟩) 0))),aD (Plain.agg (by simp[Ty.cells,Plain.str,Plain.int])) (cN hw)];rw[X6];have m1:∀(K:AV->St->Option (AV×St))(s:St),aj c .minB [.str a,.str b] s K=K (.str a) s:=λK s=>aH c K (λH n=>by simp[av.run,Dm,aO]) s
 have m2:∀(K:AV->St->Option (AV×St))(s:St),aj c .maxB [.str a,.str b] s K=K (.str b) s:=λK s=>aH c K (λH n=>by simp[av.run,Dn,aO]) s
 simp[m1,m2,cW,aJ,cI,AV.cells,aR,AV.one,bY,Ty.cells]
def ij(gs:List aL):Nat->Nat->Int×Int
 |0,_=>(0,0)
 |  m+1,k=>match gs[k]? with
    |none=>(0,0)
    |some g=>if fH g≠0 then((k:Int),fH g)else if 0<=scan (fY gs g.name) k 0 then((k:Int),5)else if 64<=k then((k:Int),7)else ij gs m (k+1)
def kf(ts:List Ty)(k:Nat):Option Ty:=if k=0 then none else ts[k - 1]?
def CX(t:Ty):Bool:=decide (t.k=1)||decide (t.k=2)
def NH(t:Ty)(p:Option Ty):Bool:= !CX t|| !aC t.a t.b||(match p with|none=>false|some p=>eJ t p)
def ov(t:Ty)(p:Option Ty):Bool:=match p with|none=>false|some p=> !eJ p t
def jM(gs:List aL)(t:Ty):Bool:=decide (scan (fY gs t.a) gs.length 0<0)||decide (scan (fY gs t.b) gs.length 0<0)
def fq(gs:List aL)(ts:List Ty):Nat->Nat->Int×Int
 |0,_=>(0,0)
 |  m+1,k=>match ts[k]? with
    |none=>(0,0)
    |some t=>if NH t (kf ts k)=true then((gs.length:Int)+k,23)else if jM gs t=true then((gs.length:Int)+k,6)
     else if ov t (kf ts k)=true then((gs.length:Int)+k,5)else if 256<=k then((gs.length:Int)+k,7)else fq gs ts m (k+1)
def bQ(gs:List aL)(ts:List Ty):Int×Int:=if(ij gs 101 0).2≠0 then ij gs 101 0 else fq gs ts 101 0
theorem Yo{gs:List aL}{s:List Nat}{k:Nat}(hk:k<=gs.length):scan (fY (gs.take k) s) k 0=scan (fY gs s) k 0:=
 RP k 0 λi _ hi=>by simp[fY,Zc4,show i<k by omega]
theorem JB (gs:List aL)(ts:List Ty):∀(m k:Nat),(fq gs ts m k).2=0->(fq gs ts m k).1=0
 |0,_,_=>rfl
 |m +   1,k , h=>by
  rw[fq]at h ⊢;split at h
  .rfl
  . split   at h
    .   simp at h
    .   split at h
        .simp at h
        . split at h
          .simp at h
          . split at h
            .simp at h
            .rename_i h1 h2 h3 h4;rw[Za3 h1,Za3 h2,Za3 h3,Za3 h4];exact JB gs ts m (k+1) h
abbrev JC(s:List Nat):List AV:=[.str s]
theorem afH(l:List (List Nat)):∀r∈l.map JC,r.length=1:=λr hr=>by simp only[Ze3]at hr;obtain⟨m,_,rfl⟩:=hr;rfl
theorem afI{s:St}(z:Bool)(l:List (List Nat)):Src 1 s (mB z l) (l.map JC):=Src.ro z _
theorem adB(hc:Sem c){src:AV}(l:List (List Nat))(hl:l.length<=1000)(s:St)(hw:Wf s)(h:Src 1 s src (l.map JC)):∃v s',c 321 [src] s=some (v,s')/\Mk 1 s s' v (l.map JC):=by
 rcases h.nil with⟨rfl,h0⟩|hn
 . (refine⟨.ah,s,?_,by rw[h0];exact Mk.start hw (Grew.refl hw)⟩;rw[ot hc 1 (r:=(.ah,s)),aD Plain.ah (aT.refl s)];rw[p9];have e:∀(K:AV->St->Option (AV×St))(s:St),aj c (.bin .eql .slice) [.ah,.ah] s K=K (.bool true) s:=λK s=>aH c K (λH n=>rfl) s);simp[e]
 .obtain⟨v,s',a1,a2⟩:=adi (c:=c) (R:=AV×St) (bytes:=16) (z:=[.str []]) (afH l) (by decide) (by simp;omega) (by simp;omega) s hw h;obtain⟨iy,t1,t2⟩:=a2.tidy;refine⟨v,iy,?_,t2⟩;rw[ot hc 1 (r:=(v,s')),t1];rw[p9];simp only[ak,hn,cG];rw[a1]
def aL.ax(g:aL)(v:AV):List AV:=[.str g.name,.str g.vK,.str g.pN,.int .i64 g.since,.int .i64 g.side,.str g.mI,.bool g.host,.bool g.access,v]
theorem aL.adC(g:aL):g.ax (mB g.tz g.tg)=g.cells:=rfl
theorem aL.Tn(t:aL){v:AV}(h:aR [v]=true):aR (t.ax v)=true:=by
 simp only[aR]at h;unfold aL.ax;simp only[aR,AV.one,h,Zl1,Zn1]at*
structure aL.Low(g:aL):Prop where
 name:∀x∈g.name,x<256
 vK:∀x∈g.vK,x<256
 pN:∀x∈g.pN,x<256
 mI:∀x∈g.mI,x<256
theorem adD(hc:Sem c)(g:aL)(hg:g.Low)(hl:g.tg.length<=1000){src:AV}(s:St)(hw:Wf s)(h:Src 1 s src (g.tg.map JC))(h1:src.cells=[src])(h2:src.one=true):
  ∃v s',c 299 [.agg (g.ax src)] s=some (.agg (g.ax v),s')/\Mk 1 s s' v (g.tg.map JC):=by
 let zero:List AV:=[.str [],.str [],.str [],.int .i64 0,.int .i64 0,.str [],.bool false,.bool false,.ah]
 have jy:Wf (af (af s (.cells (g.ax src) 0)) (.cells zero 0)):=bU (bU hw);have BA:=(Grew.af hw (.cells (g.ax src) 0)).trans (Grew.af (bU hw) (.cells zero 0));obtain⟨v,s3,h3,M⟩:=adB hc g.tg hl _ jy (h.aF BA);have M0:=M.back hw BA;have hx:s3.heap.get s.next=some (.cells (g.ax src) 0):=M.aF.get yK;have hy:s3.heap.get (af s (.cells (g.ax src) 0)).next=some (.cells zero 0):=M.aF.get (aE _ _);obtain⟨hvc,hvo⟩:=M.cells;have cL:s.next≠(af s (.cells (g.ax src) 0)).next:=Pos.SE _;have abz:s.next.toNat<s3.next.toNat:=by have:=M.aF.next;rw[dM,dM,Pos.aB,Pos.aB]at this;omega
 have afh:(af s (.cells (g.ax src) 0)).next.toNat<s3.next.toNat:=by have:=M.aF.next;rw[dM,Pos.aB]at this;omega
 have vo:v.one=true:=ug hvo;have yy:aJ (g.ax src) 8 [v]=g.ax v:=rfl;have Uh:aR (g.ax v)=true:=g.Tn hvo;have hro0:aR (g.ax src)=true:=g.Tn (by simp only[aR,h2]);have new:∀b,br v=some b->(af s (.cells (g.ax src) 0)).next.toNat<b.toNat:=λb hb=>by have:=M.new b hb;rw[dM,Pos.aB]at this;omega
 have Lq:s.next.toNat<(af s (.cells (g.ax src) 0)).next.toNat:=by rw[dM,Pos.aB];omega
 let s4:=cj s3 s.next (.cells (g.ax v) 0)
 let s5:=cj s4 (af s (.cells (g.ax src) 0)).next (.cells (g.ax v) 0)
 have hx4:s4.heap.get s.next=some (.cells (g.ax v) 0):=dB _ _ _;have hy4:s4.heap.get (af s (.cells (g.ax src) 0)).next=some (.cells zero 0):=by show(cj s3 s.next (.cells (g.ax v) 0)).heap.get _=_;rw[bC cL];exact hy
 have hy5:s5.heap.get (af s (.cells (g.ax src) 0)).next=some (.cells (g.ax v) 0):=dB _ _ _;have M4:Mk 1 s s4 v (g.tg.map JC):=M0.store (Za5 _) abz (λe=>by have:=new _ e;omega);have M5:Mk 1 s s5 v (g.tg.map JC):=M4.store (by omega) afh (λe=>by have:=new _ e;omega);have hi:∀u∈g.ax v,je u:=λu hu=>by
  simp only[aL.ax,Zb2,Ze9,Zj8]at hu;rcases hu with rfl|rfl|rfl|rfl|rfl|rfl|rfl|rfl|rfl
  .exact je.str hg.name
  .exact je.str hg.vK
  .exact je.str hg.pN
  .exact je.int _ _
  .exact je.int _ _
  .exact je.str hg.mI
  .exact je.bool _
  .exact je.bool _
  .exact M.inst
 obtain⟨iy,t1,_,t2⟩:=M5.Jf (l:=g.ax v) (by simp[aL.ax]) hi;refine⟨v,iy,?_,t2⟩;rw[PO hc 1 (r:=(.agg (g.ax v),s5)),t1];rw[S7];have aQ:=λ(K:AV->St->Option (AV×St))=>eV c K s3 1 s.next 8 v (g.ax src) hx (by rw[hvc];rfl) (by simp[aL.ax]) (by rw[hvc];exact hvo)
 rw[hvc,yy]at aQ;have kP:=λ(K:AV->St->Option (AV×St))=>eV c K s4 9 (af s (.cells (g.ax src) 0)).next 0 (.agg (g.ax v)) _ hy4 rfl (by simp[zero,aL.ax]) Uh
 have hsp2:aJ zero 0 (AV.agg (g.ax v)).cells=g.ax v:=rfl;rw[hsp2]at kP;have hcut:cut (g.ax v) 0 9=some (g.ax v):=bY rfl;have g8:(g.ax src)[8]? =some src:=rfl;have st2':∀(K:AV->St->Option (AV×St)),aj c (.store 9) [.ptr (af s (.cells (g.ax src) 0)).next 0,.agg (g.ax v)] (cj s3 s.next (.cells (g.ax v) 0)) K=K .undef s5:=λK=>kP K
 have bx:∀(K:AV->St->Option (AV×St)),aj c .box [.agg (g.ax src)] s K=K (.ptr s.next 0) (af s (.cells (g.ax src) 0)):=λK=>by rw[ff];rfl
 simp[bx,h3,g8,zero,aQ,hcut];rw[st2'];simp only[hy5,bF,Ze6,hcut,ue]
theorem VB(b:Pos)(off:Nat):¬Plain (.ptr b off):=λh=>by
 have:=h (λ_=>⟨0,0,0⟩) (λ_=>⟨0,0,0⟩) (b.toNat+1) 0 (λ_=>none) _ (.ptr b off (by omega));cases this with
 |ptr _ _ h=>omega
theorem afJ{s s':St}{b:Pos}{off:Nat}:tidy s (.ptr b off,s')=(.ptr b off,s'):=by unfold tidy;rw[Za3];exact λh=>VB _ _ h.1
theorem ail(hc:Sem c)(s:St):c 250 [] s=some (.ptr (af s (.map [] 0)).next 0,af (af s (.map [] 0)) (.cells [.ah,.ah,.map s.next] 0)):=by
 rw[Vy hc 1 (r:=(.ptr (af s (.map [] 0)).next 0,af (af s (.map [] 0)) (.cells [.ah,.ah,.map s.next] 0))),afJ];rw[Zz];simp[cW,aJ,cI,AV.cells]
def kX(k:Option Pos)(n es:Nat):AV:=match k with
 |none=>.ah
 |some b=>.slice b 0 n none es
theorem JD{k:Option Pos}{n es:Nat}(h:k=none->n=0):∀H p,av.run H p (.lenB .l) [kX k n es]=some (.val (.int .i64 (n:Int))):=λH p=>by
 cases k with
 |none=>rw[h rfl];rfl
 |some b=>rfl
def abF(s0 s:St)(bp:Pos)(gk tk:Option Pos)(g:aL)(row:List AV):Prop:=g.Low/\g.tg.length<=4/\∃v,row=g.ax v/\v.cells=[v]/\v.one=true/\QS 1 s v (g.tg.map JC)/\∀p,br v=some p->p≠bp/\gk≠some p/\tk≠some p/\s0.heap.get p=none
theorem adE{es:Nat}{s:St}{v:AV}{rows:List (List AV)}(h:QS es s v rows){b:Pos}(hb:br v=some b):∃cs,s.heap.get b=some (.cells cs 0):=by
 rcases h with⟨rfl,rfl⟩|⟨b',off,cap,cs,rfl,h1,_⟩|⟨b',off,rfl,rfl⟩
 .cases hb
 .obtain rfl:=FD hb;exact⟨cs,h1⟩
 .rw[jf]at hb;cases hb
theorem abF.to{s0 s s':St}{bp:Pos}{gk tk Kv qc:Option Pos}{g:aL}{row:List AV}(h:abF s0 s bp gk tk g row)
   (hk:∀p cs,p≠bp->gk≠some p->tk≠some p->s.heap.get p=some (.cells cs 0)->s'.heap.get p=some (.cells cs 0)/\Kv≠some p/\qc≠some p):abF s0 s' bp Kv qc g row:=by
 obtain⟨h1,h2,v,h3,h4,h5,h6,h7⟩:=h;refine⟨h1,h2,v,h3,h4,h5,h6.mono λb x hb hx=> ?_,λp hp=> ?_⟩
 .obtain⟨cs,h8⟩:=adE h6 hb;rw[h8]at hx;cases hx;obtain⟨a1,a2,a3,_⟩:=h7 b hb;exact(hk b cs a1 a2 a3 h8).1
 .obtain⟨cs,h8⟩:=adE h6 hp;obtain⟨a1,a2,a3,a4⟩:=h7 p hp;exact⟨a1,(hk p cs a1 a2 a3 h8).2.1,(hk p cs a1 a2 a3 h8).2.2,a4⟩
structure gG(s0 s:St)(bp mp:Pos)(gs:List aL)(ts:List Ty)(gk tk:Option Pos):Prop where
 wf:Wf s
 keeps:aT s0 s
 next:s0.next.toNat<=s.next.toNat
 book:s.heap.get bp=some (.cells [kX gk gs.length 9,kX tk ts.length 3,.map mp] 0)
 Eu:∃es cl,s.heap.get mp=some (.map es cl)/\es.map (·.1)=gs.map λg=>.str g.name
 tJ:(gk=none->gs=[])/\∀b,gk=some b->∃cs,s.heap.get b=some (.cells cs 0)/\cs.length=gs.length*9
 BJ:(tk=none->ts=[])/\∀b,tk=some b->s.heap.get b=some (.cells (ts.flatMap Ty.cells) 0)
 dg:gk≠some bp
 dt:tk≠some bp
 UK:∀b,gk=some b->tk≠some b
 fb:s0.heap.get bp=none
 fm:s0.heap.get mp=none
 fg:∀b,gk=some b->s0.heap.get b=none
 ft:∀b,tk=some b->s0.heap.get b=none
 PU:∀es cl,s.heap.get mp=some (.map es cl)->∀e∈es,∃i:Nat,e.2.1= .int .i64 (i:Int)/\i<gs.length
 PV:∀es cl,s.heap.get mp=some (.map es cl)->es.map (λe=>e.2.1)=(List.range gs.length).map λ(i:Nat)=>AV.int .i64 (i:Int)
 rows:∀b cs,gk=some b->s.heap.get b=some (.cells cs 0)->∀(i:Nat)(g:aL),gs[i]? =some g->abF s0 s bp gk tk g ((cs.drop (i*9)).take 9)
theorem gG.lt{s0 s:St}{bp mp:Pos}{gs:List aL}{ts:List Ty}{gk tk:Option Pos}(h:gG s0 s bp mp gs ts gk tk):bp.toNat<s.next.toNat/\mp.toNat<s.next.toNat:=by
 obtain⟨es,cl,h1,_⟩:=h.Eu;exact⟨h.wf _ _ h.book,h.wf _ _ h1⟩
theorem gG.aF{s0 s s':St}{bp mp:Pos}{gs:List aL}{ts:List Ty}{gk tk:Option Pos}(h:gG s0 s bp mp gs ts gk tk)(g:Grew s s'):gG s0 s' bp mp gs ts gk tk where
 wf:=g.wf
 keeps:=h.keeps.trans g.keeps
 next:=Zd4 h.next g.next
 book:=g.get h.book
 Eu:=let⟨es,cl,h1,h2⟩:=h.Eu;⟨es,cl,g.get h1,h2⟩
 tJ:=⟨h.tJ.1,λb hb=>let⟨cs,h1,h2⟩:=h.tJ.2 b hb;⟨cs,g.get h1,h2⟩⟩
 BJ:=⟨h.BJ.1,λb hb=>g.get (h.BJ.2 b hb)⟩
 dg:=h.dg
 dt:=h.dt
 UK:=h.UK
 fb:=h.fb
 fm:=h.fm
 fg:=h.fg
 ft:=h.ft
 PU:=λes cl hm=>by obtain⟨es0,cl0,h1,h2⟩:=h.Eu;have:=g.get h1;rw[hm]at this;cases this;exact h.PU _ _ h1
 PV:=λes cl hm=>by obtain⟨es0,cl0,h1,h2⟩:=h.Eu;have:=g.get h1;rw[hm]at this;cases this;exact h.PV _ _ h1
 rows:=λb cs hb hs i u hu=>by
  obtain⟨Yp,h1,h2⟩:=h.tJ.2 b hb;have:=g.get h1;rw[hs]at this;cases this;exact(h.rows b _ hb h1 i u hu).to λp cs _ a2 a3 hx=>⟨g.get hx,a2,a3⟩
theorem gG.start{s:St}(hw:Wf s):gG s (af (af s (.map [] 0)) (.cells [.ah,.ah,.map s.next] 0)) (af s (.map [] 0)).next s.next [] [] none none where
 wf:=bU (bU hw)
 keeps:=(cN hw).trans (cN (bU hw))
 next:=by simp only[dM,Pos.aB];omega
 book:=aE _ _
 Eu:=⟨[],0,yK,rfl⟩
 tJ:=⟨λ_=>rfl,λb h=>by cases h⟩
 BJ:=⟨λ_=>rfl,λb h=>by cases h⟩
 dg:=λh=>by cases h
 dt:=λh=>by cases h
 UK:=λb h=>by cases h
 fb:=by
  cases h:s.heap.get (af s (.map [] 0)).next with
  |none=>rfl
  |some x=>have:=hw _ _ h;rw[dM,Pos.aB]at this;omega
 fm:=by
  cases h:s.heap.get s.next with
  |none=>rfl
  |some x=>have:=hw _ _ h;omega
 fg:=λb h=>by cases h
 ft:=λb h=>by cases h
 PU:=λes cl hm e he=>by have:(af (af s (.map [] 0)) (.cells [.ah,.ah,.map s.next] 0)).heap.get s.next=some (.map [] 0):=yK;rw[hm]at this;cases this;cases he
 PV:=λes cl hm=>by have:(af (af s (.map [] 0)) (.cells [.ah,.ah,.map s.next] 0)).heap.get s.next=some (.map [] 0):=yK;rw[hm]at this;cases this;rfl
 rows:=λb cs h=>by cases h
theorem GM(s:List Nat):∀(gs:List aL)(es:List (AV×AV×Nat))(i:Nat),es.map (·.1)=gs.map (λg=>.str g.name)->
  (s∈gs.map aL.name/\∃j v,jY .s (.str s) es i=some (some (j,v)))\/(s∉gs.map aL.name/\jY .s (.str s) es i=some none)
 |[],es,i,h=>by
  have:es=[]:=by simpa using h
  subst this;exact .inr ⟨by simp,rfl⟩
 |g::gs,[],i,h=>by simp at h
 |g ::gs,(k,v,n)::es,i,h=>by
  simp only[Zb8,Zh2]at h;obtain⟨h1,h2⟩:=h;subst h1;by_cases e:s=g.name
  .subst e;exact .inl ⟨by simp,i,v,by simp[jY,Ay,fX]⟩
  . rcases GM s gs es (i+1) h2 with⟨a,b⟩|⟨a,b⟩
    .   left;refine⟨by simp at a ⊢; exact .inr a,?_⟩;simpa [jY,Ay,fX,e]using b
    .   right;refine⟨by simp at a ⊢; exact⟨e,a⟩,?_⟩;simpa [jY,Ay,fX,e]using b
theorem JE{gs:List aL}{s:List Nat}:0<=scan (fY gs s) gs.length 0↔s∈gs.map aL.name:=by
 constructor
 .intro h;obtain⟨_,h2,h3⟩:=AU _ _ h;simp only[fY,Ze2]at h3;rw[H4 (by omega)]at h3;simp only[Zf1,H0]at h3;rw[<-h3];exact Ze3.2 ⟨_,Zc0 _,rfl⟩
 . intro  h;obtain⟨g,hg,rfl⟩:=Ze3.1 h;obtain⟨i,hi,rfl⟩:=Zm6.1 hg;have key:∀(m k:Nat),k<=i->i<k+m->0<=scan (fY gs gs[i].name) m k:=by
    intro m;induction m with
    |zero=>intro k h1 h2;omega
    |   succ m ih=>
        intro k h1 h2;unfold scan;split
        .omega
        . rename_i cL;by_cases e:k=i
          .subst e;simp[fY,hi]at cL
          .exact ih (k+1) (by omega) (by omega)
   exact key _ _ (by omega) (by omega)
theorem aaA(hc:Sem c)(s:St)(bp mp:Pos)(x y:AV)(h:s.heap.get bp=some (.cells [x,y,.map mp] 0)):c 297 [.ptr bp 0] s=some (.bool false,s):=by
 rw[KP hc 1 (r:=(.bool false,s)),aD (Plain.bool _) (aT.refl s)];rw[NR];have e1:∀(K:AV->St->Option (AV×St))(s:St),aj c (.bin .eql .ptr) [.ptr bp 0,.fP] s K=K (.bool false) s:=λK s=>aH c K (λH n=>rfl) s
 have e2:∀(K:AV->St->Option (AV×St))(s:St),aj c (.bin .eql .map) [.map mp,.pP] s K=K (.bool false) s:=λK s=>aH c K (λH n=>rfl) s
 simp[e1,e2,h]
theorem abG(z:Bool)(l:List (List Nat)):(mB z l).cells=[mB z l]:=by unfold mB ro;split<;>rfl
theorem afK(z:Bool)(l:List (List Nat)):(mB z l).one=true:=by unfold mB ro;split<;>rfl
theorem aaB{s:List Nat}(h:fI s=true):∀x∈s,x<256:=λx hx=>by simp only[fI,Zb0,Zd9,Ze2]at h;have:=h.2 x hx;omega
theorem To{s:List Nat}(h:lO s=true):∀x∈s,x<256:=λx hx=>by
 simp only[lO,Zi2,Ze2]at h;rcases h with h|h
 .rw[h]at hx;cases hx
 .exact aaB h x hx
theorem UL{g:aL}(h:fH g=0):g.Low:=by
 unfold fH at h;split at h
 .simp at h
 .rename_i hn;simp only[Bool.not_eq_false,Zb0]at hn;exact⟨aaB hn.1.1.1,To hn.1.1.2,To hn.1.2,To hn.2⟩
theorem aaC{s:St}(hw:Wf s){k:Option Pos}{n es bytes:Nat}{q:Pos}{row:List AV}(hk:k=none->n=0)(gy:∀b,k=some b->∃cs,s.heap.get b=some (.cells cs 0)/\cs.length=n*es)(hq:s.heap.get q=some (.cells row 0))(hr:row.length=es)
  (h1:aR row=true) (ee:es≠0) (hb:(2*(n+1)+768)*bytes<=281474976710656) (hn:n<=1000):
  ∃ s5 mP,(∀(K:AV->St->Option (AV×St)),aj c (.append es bytes) [kX k n es,.slice q 0 1 (some 1) es] s K=K (.slice s.next 0 (n+1) none es) s5)/\s5.heap.get s.next=some (.cells mP 0)/\mP.length=(n+1)*es/\
    (∀b cs,k=some b->s.heap.get b=some (.cells cs 0)->mP=cs++row)/\(k=none->mP=row)/\s5.next=s.next.succ/\Wf s5/\∀p,k≠some p->p.toNat<s.next.toNat->s5.heap.get p=s.heap.get p:=by
 have hx:cH es 1 (λb=>s.heap.get b) (.slice q 0 1 (some 1) es)=some row:=by simp only[cH,cX,Zp1,Za0 ee,hq];exact bY hr
 cases k with
 |none=>
  obtain rfl:=hk rfl;refine⟨af s (.cells row 0),row,λK=>Xq c K (m:=1) rfl (by omega) (by omega) (by omega) hx,aE _ _,by omega,λb cs h=>(by cases h),λ_=>rfl,rfl,bU hw,λp _ hp=>mQ hp⟩
 |some b=>
  obtain⟨cs,h2,h3⟩:=gy b rfl;have ho:cH es n (λb=>s.heap.get b) (.slice b 0 n none es)=some cs:=by
    by_cases h0:n=0
    .   subst h0;have:cs=[]:=Zb1 (by omega);subst this;simp[cH,cX]
    .   have:¬n*es=0:=λe=>by rcases Nat.mul_eq_zero.1 e with e|e<;>omega
        simp only[cH,cX,Za0 this,h2];exact bY h3
  refine⟨dst s b (.cells (cs++row) 0),cs++row,λK=>ahf c K (m:=1) rfl (by omega) hb (by omega) h2 ho hx h1,SG _ _ _,?_,λb' cs2 e h=> ?_,λh=>(by cases h),rfl,ac9 hw,λp hp hl=>Re (λe=>hp (by rw[e])) hl⟩
  .rw[Zc1,h3,hr,Zj9,Zp1]
  .cases e;rw[h2]at h;cases h;rfl
def ux(gs:List aL)(g:aL):Int:=if fH g≠0 then fH g else if 0<=scan (fY gs g.name) gs.length 0 then 5 else if gs.length=64 then 7 else 0
theorem aim (hc : Sem c){s0 s:St}{bp mp:Pos}{gs:List aL}{ts:List Ty}{gk tk:Option Pos}(BK:Wf s0)(B:gG s0 s bp mp gs ts gk tk)(hl:gs.length<=64)(g:aL):
   ∃s',c 251 [.ptr bp 0,.agg g.cells] s=some (.int .i64 (ux gs g),s')/\(ux gs g≠0->s'=s)/\(ux gs g=0->∃Kv,gG s0 s' bp mp (gs++[g]) ts Kv tk):=by
 have dm:Wf (af s (.cells g.cells 0)):=bU B.wf;have B1:=B.aF (Grew.af B.wf (.cells g.cells 0));generalize OJ:af s (.cells g.cells 0)=s1 at dm B1;have hpg:s1.heap.get s.next=some (.cells g.cells 0):=by rw[<-OJ];exact aE _ _
 have mE:=aaA hc s1 bp mp _ _ B1.book;have hch:=Tk hc g s1 dm;have lG:∀(K:AV->St->Option (AV×St))(s:St),aj c (.lenB .l) [kX gk gs.length 9] s K=K (.int .i64 (gs.length:Int)) s:=λK s=>aH c K (JD λh=>by rw[B.tJ.1 h];rfl) s
 have lG2:∀(K:AV->Option (AV×St)),dK (.lenB .l) [kX gk gs.length 9] K=K (.int .i64 (gs.length:Int)):=λK=>b7 K (JD λh=>by rw[B.tJ.1 h];rfl)
 obtain⟨es,cl,kg,hm2⟩:=B1.Eu;have fail:∀e:Int,e≠0->ux gs g=e->uY c 1 (.ptr bp 0) (.agg g.cells) s=some (.int .i64 e,s1)->∃s',c 251 [.ptr bp 0,.agg g.cells] s=some (.int .i64 (ux gs g),s')/\(ux gs g≠0->s'=s)/\(ux gs g=0->∃Kv,gG s0 s' bp mp (gs++[g]) ts Kv tk):=λe he ha h=>by
   refine⟨s,?_,λ_=>rfl,λh0=>absurd (ha.symm.trans h0) he⟩;rw[BI hc 1 h,ha,aD (Plain.int _ _) (by rw[<-OJ];exact cN B.wf)]
 have eb:∀(K:AV->St->Option (AV×St)),aj c .box [.agg g.cells] s K=K (.ptr s.next 0) s1:=λK=>by rw[ff, <-OJ];rfl
 have h64:((gs.length:Int)=64)↔gs.length=64:=by omega
 by_cases h1:fH g=0
 . rcases GM  g.name gs es 0 hm2 with⟨tr,j,v,hf⟩|⟨tr,hf⟩
   . have hsc:=JE.2 tr;refine fail 5 (by omega) (by simp[ux,h1,hsc]) ?_;rw[qW];have lk:=λ(K:AV->Option (AV×St))=>Ux K (.int .i64 0) (h:=s1.heap) (k:= .str g.name) kg hf
     simp[eb,mE,hch,h1,hpg,B1.book,lk]
   . have hsc: ¬0<=scan (fY gs g.name) gs.length 0:=λh=>tr (JE.1 h)
     have lk:=λ(K:AV->Option (AV×St))=>Ux K (.int .i64 0) (h:=s1.heap) (k:= .str g.name) kg hf
     by_cases h2:gs.length=64
     .  have h2d:decide ((gs.length:Int)=64)=true:=H5 (by omega);refine fail 7 (by omega) (by unfold ux;rw[Za3 (by simp[h1]),Za3 hsc,Za9 h2]) ?_;rw[qW];simp[eb,mE,hch,h1,hpg,B1.book,lk,lG,h2d]
     .  have htg:g.tg.length<=4:=by
          unfold fH at h1;split at h1
          .simp at h1
          . split at h1
            .simp at h1
            . split at h1
              .simp at h1
              . split at h1
                .simp at h1
                .omega
        have he:ux gs g=0:=(by unfold ux;rw[Za3 (by simp[h1]),Za3 hsc,Za3 h2]);have h2d:decide ((gs.length:Int)=64)=false:=Za0 (by omega);have lt1:=B1.lt;have pR:s.next.toNat<s1.next.toNat:=(by rw[<-OJ,dM,Pos.aB];omega);have UM:mp≠bp:=λe=>by rw[e,B1.book]at kg;cases kg
        have nmp:mp≠s.next:=λe=>by rw[e,hpg]at kg;cases kg
        let J9:=es++[(AV.str g.name,AV.int .i64 (gs.length:Int),cl)]
        let s2:=cj s1 mp (.map J9 (cl+1))
        have jy:Wf s2:=HB dm lt1.2;have b2:s2.heap.get bp=some (.cells [kX gk gs.length 9,kX tk ts.length 3,.map mp] 0):=(by show(cj _ _ _).heap.get bp=_;rw[bC UM];exact B1.book);have p2:s2.heap.get s.next=some (.cells g.cells 0):=(by show(cj _ _ _).heap.get _=_;rw[bC nmp];exact hpg);have m2:s2.heap.get mp=some (.map J9 (cl+1)):=dB _ _ _;obtain⟨v,s3,q1,M⟩:=adD hc g (UL h1) (by omega) s2 jy (afI g.tz g.tg) (abG _ _) (afK _ _);rw[aL.adC]at q1
        let row:=g.ax v
        have q2:=M.aF;have q3:row.length=9:=rfl;have vone:v.one=true:=ug M.cells.2;have q4:aR row=true:=g.Tn M.cells.2;have hw4:Wf (af s3 (.cells row 0)):=bU q2.wf;have gr4:=q2.trans (Grew.af q2.wf (.cells row 0));have cY:∀p x,s2.heap.get p=some x->p.toNat<(af s3 (.cells row 0)).next.toNat:=λp x h=>hw4 p x (gr4.get h)
        have gy:∀b,gk=some b->∃cs,(af s3 (.cells row 0)).heap.get b=some (.cells cs 0)/\cs.length=gs.length*9:=λb hb=>by
          obtain⟨cs,h3,h4⟩:=B1.tJ.2 b hb;have:mp≠b:=λe=>by rw[e,h3]at kg;cases kg
          exact⟨cs,gr4.get (by show(cj _ _ _).heap.get b=_;rw[bC this];exact h3),h4⟩
        obtain⟨s5,mP,r1,r2,r3,ra,rb,r4,r5,r6⟩:=aaC (c:=c) (es:=9) (bytes:=112) hw4 (k:=gk) (n:=gs.length) (λh=>by rw[B.tJ.1 h];rfl) gy (aE _ _) q3 q4 (by omega) (by omega) (by omega);have hs4:(af s3 (.cells row 0)).next=s3.next.succ:=rfl;have keep:∀p x,s2.heap.get p=some x->gk≠some p->s5.heap.get p=some x:=λp x h cL=>by rw[r6 p cL (cY p x h)];exact gr4.get h
        have b5:=keep bp _ b2 B.dg
        let gv:=AV.slice (af s3 (.cells row 0)).next 0 (gs.length+1) none 9
        let s6:=cj s5 bp (.cells [gv,kX tk ts.length 3,.map mp] 0)
        have afL:bp.toNat<s5.next.toNat:=r5 _ _ b5;have nb4:bp≠(af s3 (.cells row 0)).next:=λe=>by have:=cY _ _ b2;rw[e]at this;omega
        have st6:∀(K:AV->St->Option (AV×St)),aj c (.store 1) [.ptr bp 0,gv] s5 K=K .undef s6:=λK=>eV c K s5 1 bp 0 gv _ b5 rfl (by simp) rfl
        have g6:∀p,p≠bp->s6.heap.get p=s5.heap.get p:=λp h=>bC (λe=>h e.symm)
        have abH:∀p:Pos,s0.next.toNat<=p.toNat->s0.heap.get p=none:=λp h=>by
          cases hx:s0.heap.get p with
          |none=>rfl
          |some x=>have:=BK _ _ hx;omega
        have nx:s0.next.toNat<=(af s3 (.cells row 0)).next.toNat:=Zd4 B1.next (Zd4 (by show s1.next.toNat<=s2.next.toNat;exact Za5 _) gr4.next)
        have Yq : gG s0 s6 bp mp (gs++[g]) ts (some (af s3 (.cells row 0)).next) tk:={
          wf:=HB r5 afL
          keeps:=λp x hp=>by
            have n1:p≠bp:=λe=>by rw[e,B.fb]at hp;cases hp
            have n2:mp≠p:=λe=>by rw[<-e,B.fm]at hp;cases hp
            have n3:gk≠some p:=λe=>by rw[B.fg p e]at hp;cases hp
            rw[g6 p n1];exact keep p x (by show(cj _ _ _).heap.get p=_;rw[bC n2];exact B1.keeps p x hp) n3
          next:=by show s0.next.toNat<=s5.next.toNat;rw[r4,Pos.aB];omega
          book:=by show(cj _ _ _).heap.get bp=_;rw[dB];simp[gv,kX]
          Eu:=⟨J9,cl+1,by
            rw[g6 mp UM];exact keep mp _ m2 (λe=>by obtain⟨cs,h3,_⟩:=B1.tJ.2 mp e;rw[h3]at kg;cases kg),by simp[J9,hm2]⟩
          tJ:=⟨λh=>(by cases h),λb hb=>by cases hb;refine⟨mP,?_,by rw[r3];simp⟩;rw[g6 _ (λe=>nb4 e.symm)];exact r2⟩
          BJ:=⟨B.BJ.1,λb hb=>by
            have h3:=B1.BJ.2 b hb;have n1:b≠bp:=λe=>B.dt (by rw[<-e];exact hb)
            have n2:mp≠b:=λe=>by rw[e,h3]at kg;cases kg
            have n3:gk≠some b:=λe=>B.UK b e hb
            rw[g6 b n1];exact keep b _ (by show(cj _ _ _).heap.get b=_;rw[bC n2];exact h3) n3⟩
          dg:=λe=>nb4 (by injection e with e;exact e.symm)
          dt:=B.dt
          UK:=λb hb ht=>by
            (cases hb;have h3:=B1.BJ.2 _ ht;have n2:mp≠(af s3 (.cells row 0)).next:=λe=>by rw[e,h3]at kg;cases kg);have:=cY _ _ (show s2.heap.get (af s3 (.cells row 0)).next=_ from(bC n2).trans h3);omega
          fb:=B.fb
          fm:=B.fm
          fg:=λb hb=>by cases hb;exact abH _ nx
          ft:=B.ft
          PU:=λes' cl' hm e he=>by
            have m6:s6.heap.get mp=some (.map J9 (cl+1)):=by
              rw[g6 mp UM];exact keep mp _ m2 (λe=>by obtain⟨cs,h3,_⟩:=B1.tJ.2 mp e;rw[h3]at kg;cases kg)
            rw[hm]at m6;cases m6;rcases Zd5.1 he with he|he
            .obtain⟨i,e1,e2⟩:=B1.PU _ _ kg e he;exact⟨i,e1,by simp;omega⟩
            .simp only[Zb2,Ze9,Zj8]at he;subst he;exact⟨gs.length,rfl,by simp⟩
          PV:=λes' cl' hm=>by
            have m6:s6.heap.get mp=some (.map J9 (cl+1)):=by
              rw[g6 mp UM];exact keep mp _ m2 (λe=>by obtain⟨cs,h3,_⟩:=B1.tJ.2 mp e;rw[h3]at kg;cases kg)
            rw[hm]at m6;cases m6;have h:=B1.PV _ _ kg;rw[Ze4,h,Zc1,Zk6,Zk1,Ze4];rfl
          rows:=  λb cs hb hs i u hu=>by
            cases hb;have r2':s6.heap.get (af s3 (.cells row 0)).next=some (.cells mP 0):=(by rw[g6 _ (λe=>nb4 e.symm)];exact r2);rw[hs]at r2';cases r2';by_cases hi:i<gs.length
            . rw[Zc6 hi]at hu;cases RV:gk with
              |none=>rw[B.tJ.1 RV]at hi;simp at hi
              | some b0=>
                obtain⟨Yp,h3,h4⟩:=B1.tJ.2 b0 RV;have n0:mp≠b0:=λe=>by rw[e,h3]at kg;cases kg
                have e0:=ra b0 Yp RV (gr4.get (by show(cj _ _ _).heap.get b0=_;rw[bC n0];exact h3));have R0:=B1.rows b0 Yp RV h3 i u hu;rw[e0,Zh5 (by omega),Zl5 (by simp;omega)];(refine R0.to λp cs a1 a2 a3 hx=> ?_);have n1:mp≠p:=λe=>by rw[e,hx]at kg;cases kg
                have x2:s2.heap.get p=some (.cells cs 0):=(by show(cj _ _ _).heap.get p=_;rw[bC n1];exact hx);have aO:=cY p _ x2;refine⟨by rw[g6 p a1];exact keep p _ x2 a2,λe=> ?_,a3⟩;cases e;omega
            . have Qp:i=gs.length:=(by have:=(Za1.1 hu).1;simp at this;omega);subst Qp;simp at hu;subst hu;have er:(mP.drop (gs.length*9)).take 9=row:=by
                cases RV:gk with
                | none=>
                  rw[rb RV,B.tJ.1 RV];exact Zg8 (by simp[q3])
                | some b0=>
                  obtain⟨Yp,h3,h4⟩:=B1.tJ.2 b0 RV;have n0:mp≠b0:=λe=>by rw[e,h3]at kg;cases kg
                  rw[ra b0 Yp RV (gr4.get (by show(cj _ _ _).heap.get b0=_;rw[bC n0];exact h3)), <-h4];rw[Zh5 (Za5 _)];simp[Zg8 (Nat.le_of_eq q3)]
              (rw[er];have Ag:∀p x,s2.heap.get p=some x->p.toNat<s2.next.toNat:=λp x h=>jy p x h);refine⟨UL h1,htg,v,rfl,M.cells.1,vone,M.own.mono λb x hb hx=> ?_,λp hp=> ?_⟩
              . have Br:=M.new b hb;have CA:=M.own.lt M.aF.wf hb;have nb:b≠bp:=λe=>by have:=Ag _ _ b2;rw[e]at Br;omega
                have ng:gk≠some b:=λe=>by
                  obtain⟨Yp,h3,_⟩:=B1.tJ.2 b e;have n0:mp≠b:=λe=>by rw[e,h3]at kg;cases kg
                  have:=Ag b _ (by show(cj _ _ _).heap.get b=_;rw[bC n0];exact h3);omega
                rw[g6 b nb,r6 b ng (by rw[hs4,Pos.aB];omega)];exact(Grew.af q2.wf (.cells row 0)).get hx
              . have Br:=M.new p hp;have CA:=M.own.lt M.aF.wf hp;refine⟨λe=>by have:=Ag _ _ b2;rw[e]at Br;omega,λe=> ?_,λe=> ?_,abH p (by have h9:=B1.next;rw[show s2.next=s1.next from AM _ _ _]at Br;omega)⟩
                .cases e;rw[hs4,Pos.aB]at CA;omega
                . have h3:=B1.BJ.2 p e;have n2:mp≠p:=λe=>by rw[e,h3]at kg;cases kg
                  have:=Ag p _ (by show(cj _ _ _).heap.get p=_;rw[bC n2];exact h3);omega }
        refine⟨s6,?_,λh=>absurd he h,λ_=>⟨_,Yq⟩⟩;rw[he];rw[BI hc 1 (r:=(.int .i64 0,s6))]
        . rw[SH (b:=bp) B.book];rw[Yq.book];intro e;have e:=congrArg (λo=>match o with|some (AB.cells (v::_) _)=>dD v|_=>none) e;simp only[kX,dD]at e;cases gk with
          |none=>simp[dD,B.tJ.1 rfl]at e
          |some b=>simp[dD]at e
        (rw[qW];have stm:=λ(K:AV->St->Option (AV×St))=>Zs c K (v:= .int .i64 (gs.length:Int)) kg hf);have bq:fE (kX gk gs.length 9) (kX gk gs.length 9)=true:=(by cases gk;exact Pu;exact LG _ _ _ _);have b3:s3.heap.get bp=some (.cells [kX gk gs.length 9,kX tk ts.length 3,.map mp] 0):=q2.get b2;have wu:=λ(K:AV->Option (AV×St))=>AN K (p:=bp) (o:=0) (h:=s3.heap) (h2:=s2.heap) (v:=kX gk gs.length 9) (by rw[b3];rfl) (by rw[b2];rfl) bq
        have C9:cW (cC [AV.str [],AV.str [],AV.str [],.int .i64 0,.int .i64 0,.str [],.bool false,.bool false,.ah] 1) [(0,9)] [AV.agg (g.ax v)]=some row:=by
          have:(g.ax v).length=9:=q3;show _=some (g.ax v);simp[cW,cC,cX,cI,this,aJ]
        simp[eb,mE,hch,h1,hpg,B1.book,lk,lG,lG2,h2d,stm];show B5 ((cellsOf (T.get s.next s2.heap)).bind λcs=>cut cs 0 9) _=_;rw[p2];simp only[bF,Ze6,aL.cc,ue];show LB (c 299 [AV.agg g.cells] s2) _=_;rw[q1];simp only[aW];show jB (.load none) [.ptr bp 0] s3.heap (λv=>mT (.load none) [.ptr bp 0] v (th [] s2.heap)) _=_;rw[wu];simp only[C9,ue,r1];exact st6 _
 .refine fail (fH g) h1 (by simp[ux,h1]) ?_;rw[qW];simp[eb,mE,hch,h1,hpg]
theorem JF{r s t:Ty}(h:eJ r s=true)(k:eJ s t=true):eJ r t=true:=by
 simp only[eJ,Zi2,Zb0,Ze2]at h k ⊢;rcases h with h|⟨h1,h2⟩<;>rcases k with k|⟨k1,k2⟩
 .exact .inl (JA _ _ _ h k)
 .exact .inl (by rw[<-k1];exact h)
 .exact .inl (by rw[h1];exact k)
 .exact .inr ⟨h1.trans k1,JA _ _ _ h2 k2⟩
theorem abI{s t:Ty}(h:eJ s t=false)(k:eJ t s=false):s.a=t.a/\s.b=t.b:=by simp only[eJ,Zm8]at h k;have e:=zo _ _ h.1 k.1;refine⟨e,?_⟩;have h2:=h.2;have k2:=k.2;simp only[e,Zg2,Zg0]at h2 k2;exact zo _ _ h2 k2
theorem ahu{r s t:Ty}(h:eJ r s=true)(k:eJ t s=false):eJ r t=true:=by
 cases h2:eJ s t
 .obtain⟨e1,e2⟩:=abI h2 k;unfold eJ at h ⊢; rw[<-e1, <-e2];exact h
 .exact JF h h2
theorem NB{x:Int}(h1:0<=x)(h2:x<=18446744073709551615):au .u64 x=x:=by
 unfold au TN TO;simp only;split
 . split
   .rfl
   .contradiction
 .contradiction
theorem Yr(K:AV->St->Option (AV×St))(st:St)(a:Nat):aj c (.bin .shr .num) [.int .u64 (a:Int),.int .u64 1] st K=K (.int .u64 ((a / 2:Nat):Int)) st:=by
 refine aH c K (λH n=> ?_) st;have:(a:Int).fdiv 2=((a / 2:Nat):Int):=by rw[Zm7 _ (by omega)];rfl
 simp only[av.run,fQ,jX,ek];show some (cO.val (AV.int .u64 ((a:Int).fdiv 2)))=_;rw[this]
theorem Ys(H:Pos->Option AB)(n:Pos)(es:Nat)(b:Pos)(len:Nat)(k:IntKind)(i:Nat)(h:i<len):av.run H n (.idxA es none) [.slice b 0 len none es,.int k (i:Int)]=some (.val (.ptr b (i*es))):=by
 simp[av.run,mS,eI,Df,h]
theorem AO(ts:List Ty)(i:Nat)(h:i<ts.length):cut (ts.flatMap Ty.cells) (i*3) 3=some ts[i].cells:=by
 induction ts generalizing i with
 |nil=>simp at h
 |cons t ts ih=>
  cases i with
  |zero=>rw[Zo1];unfold cut;rw[cI,H5 (by simp[Ty.len])];simp[Ty.cells]
  |succ i=>
   have h':i<ts.length:=(by simpa using h);have:=ih i h';unfold cut at this ⊢;rw[cI]at this ⊢;(split at this<;>first|(cases this;done)|skip);rename_i hle;simp only[Ze2]at hle;rw[H5 (by rw[Zo1,Zc1,Ty.len];omega)];simp only[H0]at this ⊢;rw[Zo1,show(i+1)*3=i*3+1+1+1 by omega,Zn7, <-this];rfl
theorem ahv(hc:Sem c)(ts:List Ty)(hl:ts.length<=1000)(t:Ty)(q:Nat)(hq:q<=ts.length)(Ag:∀h (hh:h<ts.length),h<q->eJ ts[h] t=true)(hhi:∀h (hh:h<ts.length),q<=h->eJ ts[h] t=false)
  (b:Pos) (x4:Pos) (s:St) (hw:Wf s) (hb:s.heap.get b=some (.cells (ts.flatMap Ty.cells) 0)) (hx:s.heap.get x4=some (.cells t.cells 0)) (F:Nat) (k2):∀(m i j:Nat),j<=i+m->i<=q->q<=j->j<=ts.length->
  aS c F k2 (m+1) [.slice b 0 ts.length none 3,.func 252 [] [],.ptr x4 0,.int .i64 (ts.length:Int),.int .i64 (i:Int),.int .i64 (j:Int)] s=
    k2 [.slice b 0 ts.length none 3,.func 252 [] [],.ptr x4 0,.int .i64 (ts.length:Int),.int .i64 (q:Int)] s:=by
 intro m;induction m with
 |zero=>
  intro i j h1 h2 h3 h4;obtain rfl:i=q:=by omega
  obtain rfl:j=i:=by omega
  rw[dV];simp
 |succ m ih=>
  intro i j h1 h2 h3 h4;rw[dV];by_cases h:i<j
  . let d:=(i+j) / 2
    have hd1:i<=d:=(by omega);have QJ:d<j:=(by omega);have hd3:d<ts.length:=(by omega);have w1:au .i64 ((i:Int)+(j:Int))=((i+j:Nat):Int):=(by rw[wrap64 (by omega) (by omega)];omega);have w2:au .u64 ((i+j:Nat):Int)=((i+j:Nat):Int):=NB (by omega) (by omega);have w3:au .i64 (((i+j) / 2:Nat):Int)=((d:Nat):Int):=wrap64 (by omega) (by omega);have w4:au .i64 ((d:Int)+1)=((d+1:Nat):Int):=wrap64 (by omega) (by omega);have ix:=λ(K:AV->Option (AV×St))=>b7 K (λH n=>Ys H n 3 b ts.length .i64 d hd3)
    have ho:=Es hc ts[d] t s hw;have fg:=AO ts d hd3
    clear_value d
    by_cases hn:d<q
    .   have afM:qb ts[d] t<0:=Tm.2 (Ag d hd3 hn);rw[<-ih (d+1) j (by omega) (by omega) h3 h4];simp only[aA,bf,ak,b9,Int.ofNat_lt,h,Zg2,bR,fG,w1,w6,w2,Yr,w3,cJ,ix,Gt,hb,fg,hx,bF,Ze6,Ty.cc,ue,FA,Zf0,Zf7,Zf2,ho,aW,aac,afM,w4]
    .   have afM:¬qb ts[d] t<0:=λe=>by have:=Tm.1 e;rw[hhi d hd3 (by omega)]at this;cases this
        rw[<-ih i d (by omega) h2 (by omega) (by omega)];simp only[aA,bf,ak,b9,Int.ofNat_lt,h,Zg2,bR,fG,w1,w6,w2,Yr,w3,cJ,ix,Gt,hb,fg,hx,bF,Ze6,Ty.cc,ue,FA,Zf0,Zf7,Zf2,ho,aW,aac,afM,decide_false,cG]
  .obtain rfl:i=q:=(by omega);obtain rfl:j=i:=(by omega);simp
def CY(ts:List Ty)(t:Ty)(q:Nat):Bool:=match ts[q]? with
 |some u=>decide (qb u t=0)
 |none=>false
theorem afN(x4:Pos)(s:St)(F:Nat)(k2)(m:Nat):aS c F k2 (m+1) [.ah,.func 252 [] [],.ptr x4 0,.int .i64 0,.int .i64 0,.int .i64 0] s=
  k2 [.ah,.func 252 [] [],.ptr x4 0,.int .i64 0,.int .i64 0] s:=by
 rw[dV];simp
def slvT(k:Option Pos)(n:Nat):AV:=match k with
 |none=>.ah
 |some b=>.slice b (0+n*3) (n - n) none 3
theorem ajg(hc:Sem c)(ts:List Ty)(hl:ts.length<=1000)(t:Ty)(q:Nat)(hq:q<=ts.length)(Ag:∀h (hh:h<ts.length),h<q->eJ ts[h] t=true)(hhi:∀h (hh:h<ts.length),q<=h->eJ ts[h] t=false)
  (tk:Option Pos) (s:St) (hw:Wf s) (h0:tk=none->ts=[]) (hb:∀b,tk=some b->s.heap.get b=some (.cells (ts.flatMap Ty.cells) 0)):
  c 323 [kX tk ts.length 3,.agg t.cells,.func 252 [] []] s=some (.tuple [.int .i64 (q:Int),.bool (CY ts t q)],s):=by
 have dm:Wf (af s (.cells t.cells 0)):=bU hw;have pR:Plain (.tuple [.int .i64 (q:Int),.bool (CY ts t q)]):=Plain.tuple (by simp[Plain.int,Plain.bool]);rw[mG hc 1001 (r:=(.tuple [.int .i64 (q:Int),.bool (CY ts t q)],af s (.cells t.cells 0))),aD pR (cN hw)];rw[mX];cases tk with
 |none=>
  obtain rfl:=h0 rfl;obtain rfl:q=0:=by simpa using hq
  have l0:∀(K:AV->St->Option (AV×St))(s:St),aj c (.lenB .l) [.ah] s K=K (.int .i64 0) s:=λK s=>aH c K (λH n=>rfl) s
  have L:∀k2,aS c 1001 k2 1001 [.ah,.func 252 [] [],.ptr s.next 0,.int .i64 0,.int .i64 0,.int .i64 0] (af s (.cells t.cells 0))=_:=λk2=>afN (c:=c) s.next _ 1001 k2 1000
  simp only[kX,ff,ak,l0,ME,L,aA,bf,Zg5];simp[CY,l0,L]
 |some b=>
  have Br:(af s (.cells t.cells 0)).heap.get b=some (.cells (ts.flatMap Ty.cells) 0):=cN hw _ _ (hb b rfl);have l0:∀(K:AV->St->Option (AV×St))(s:St),aj c (.lenB .l) [.slice b 0 ts.length none 3] s K=K (.int .i64 (ts.length:Int)) s:=λK s=>aH c K (λH n=>rfl) s
  have L:∀k2,aS c 1001 k2 1001 [.slice b 0 ts.length none 3,.func 252 [] [],.ptr s.next 0,.int .i64 (ts.length:Int),.int .i64 0,.int .i64 (ts.length:Int)] (af s (.cells t.cells 0))=
    k2 [.slice b 0 ts.length none 3,.func 252 [] [],.ptr s.next 0,.int .i64 (ts.length:Int),.int .i64 (q:Int)] (af s (.cells t.cells 0)):=
    λk2=>ahv hc ts hl t q hq Ag hhi b s.next _ dm Br (aE _ _) 1001 k2 1000 0 ts.length (by omega) (by omega) (by omega) (by omega)
  simp only[kX,ff,ak,l0,ME,L,aA,bf];by_cases h:q<ts.length
  . have ix:=λ(K:AV->Option (AV×St))=>b7 K (λH n=>Ys H n 3 b ts.length .i64 q h)
    have ho:=Es hc ts[q] t _ dm;have fg:=AO ts q h;have ef:CY ts t q=decide (qb ts[q] t=0):=(by unfold CY;rw[H4 h]);simp[h,ix,Br,fg,ho,ef,AV.cells]
  .have ef:CY ts t q=false:=(by unfold CY;rw[Zb5 (by omega)]);simp[h,ef,AV.cells]
def HT(ts:List Ty)(t:Ty):Nat:=match ts.getLast? with
 |none=>0
 |some u=>if eJ u t=true then ts.length else ts.length - 1
def MG(ts:List Ty):Prop:=∀i j (hj:j<ts.length)(XB:i<j),eJ (ts[i]'(by omega)) ts[j]=true
theorem ain{ts:List Ty}{t:Ty}(hs:MG ts)(ht:∀u,ts.getLast? =some u->eJ t u=false):HT ts t<=ts.length/\(∀h (hh:h<ts.length),h<HT ts t->eJ ts[h] t=true)/\(∀h (hh:h<ts.length),HT ts t<=h->eJ ts[h] t=false)/\
  CY ts t (HT ts t)=ov t ts.getLast? :=by
 unfold HT;cases hl:ts.getLast? with
 |none=>
  have:ts=[]:=by simpa using hl
  subst this;simp[CY,ov]
 |some u=>
  have cL:ts≠[]:=λe=>by subst e;simp at hl
  have aa2:0<ts.length:=List.length_pos_iff.2 cL;have hu:ts[ts.length - 1]'(by omega)=u:=by have:=List.getLast?_eq_getElem? (l:=ts);rw[hl,H4 (by omega)]at this;exact(Zg4 this).symm
  have htu:=ht u hl;simp only;cases hb:eJ u t
  . simp only[Ze5,Zf9];refine⟨by omega,λh hh aO=> ?_,λh hh hle=> ?_,?_⟩
    .   have:=hs h (ts.length - 1) (by omega) aO;rw[hu]at this;exact ahu this htu
    .   obtain rfl:h=ts.length - 1:=(by omega);rw[hu];exact hb
    .   (unfold CY;rw[H4 (by omega),hu];have h1:¬qb u t<0:=λe=>by rw[Tm.1 e]at hb;cases hb);have h2:¬0<qb u t:=λe=>by rw[NG.1 e]at htu;cases htu
        have:qb u t=0:=(by omega);simp[this,ov,hb]
  . simp only[Zh0];refine⟨by omega,λh hh _=> ?_,λh hh hle=>by omega,?_⟩
    .   by_cases e:h=ts.length - 1
        .subst e;rw[hu];exact hb
        .have:=hs h (ts.length - 1) (by omega) (by omega);rw[hu]at this;exact JF this hb
    .   unfold CY;rw[Zb5 (by omega)];simp[ov,hb]
theorem w9(hc:Sem c){s0 s:St}{bp mp:Pos}{gs:List aL}{ts:List Ty}{gk tk:Option Pos}(B:gG s0 s bp mp gs ts gk tk)(hl:ts.length<=1000)(t:Ty)(aO:aC t.a t.b=true)(hs:MG ts)(ht:∀u,ts.getLast? =some u->eJ t u=false):
  c 301 [.ptr bp 0,.str t.a,.str t.b] s=some (.tuple [.int .i64 (HT ts t:Int),.bool (ov t ts.getLast?)],s):=by
 obtain⟨p1,p2,p3,p4⟩:=ain hs ht;rw[<-p4];have e0:∀u:Ty,eJ u ⟨t.a,t.b,0⟩=eJ u t:=λu=>rfl
 have e1:CY ts ⟨t.a,t.b,0⟩ (HT ts t)=CY ts t (HT ts t):=rfl;have hpr:=aaz hc t.a t.b 0 aO s B.wf;have Ac:=ajg hc ts hl ⟨t.a,t.b,0⟩ (HT ts t) p1 (λh hh hq=>by rw[e0];exact p2 h hh hq) (λh hh hq=>by rw[e0];exact p3 h hh hq) tk s B.wf B.BJ.1 B.BJ.2;rw[e1]at Ac;rw[Jx hc 1 (r:=(.tuple [.int .i64 (HT ts t:Int),.bool (CY ts t (HT ts t))],s)),aD (Plain.tuple (by simp[Plain.int,Plain.bool])) (aT.refl s)];rw[Mw];have bq:fE (kX tk ts.length 3) (kX tk ts.length 3)=true:=by cases tk;exact Pu;exact LG _ _ _ _
 have wu:=λ(K:AV->Option (AV×St))=>AN K (p:=bp) (o:=1) (h:=s.heap) (h2:=s.heap) (v:=kX tk ts.length 3) (by rw[B.book];rfl) (by rw[B.book];rfl) bq
 simp[hpr,wu,Ac]
theorem yM(b:Pos)(off n es:Nat):¬Plain (.slice b off n none es):=λh=>by have:=h (λ_=>⟨0,0,off+n*es⟩) (λ_=>⟨0,0,0⟩) (b.toNat+1) 0 (λ_=>none) _ (.slice b off n none es n ⟨0,0+off,none⟩ (Za5 _) (λc h=>by cases h) (λ_=>⟨by omega,rfl,by simp⟩) (λ_=>by omega));have:=this.TW rfl;omega
theorem adF(hc:Sem c){s:St}(hw:Wf s){tk:Option Pos}{ts:List Ty}{q:Pos}{row:List AV}(h0:tk=none->ts=[])(hb:∀b,tk=some b->s.heap.get b=some (.cells (ts.flatMap Ty.cells) 0))(hq:s.heap.get q=some (.cells row 0))(hr:row.length=3)
   (h1:aR row=true) (hl:ts.length<=1000):
   ∃ s5,c 302 [kX tk ts.length 3,.int .i64 (ts.length:Int),.slice q 0 1 (some 1) 3] s=some (.slice s.next 0 (ts.length+1) none 3,s5)/\s5.heap.get s.next=some (.cells (ts.flatMap Ty.cells++row) 0)/\
     s5.next=s.next.succ/\Wf s5/\∀p,tk≠some p->p.toNat<s.next.toNat->s5.heap.get p=s.heap.get p:=by
 have hlen:∀ts:List Ty,(ts.flatMap Ty.cells).length=ts.length*3:=λts=>by
   induction ts with
   |nil=>rfl
   |cons t ts ih=>rw[Zo1,Zc1,ih,Ty.len,Zc5];omega
 obtain⟨s5,mP,r1,r2,r3,r4,r5,r6,r7,r8⟩:=aaC (c:=c) (es:=3) (bytes:=40) hw (k:=tk) (n:=ts.length) (λh=>by rw[h0 h];rfl) (λb CA=>⟨_,hb b CA,hlen ts⟩) hq hr h1 (by omega) (by omega) (by omega);refine⟨s5,?_,?_,r6,r7,r8⟩
 . rw[wo hc 1 (r:=(.slice s.next 0 (ts.length+1) none 3,s5))]
   .unfold tidy;rw[Za3];exact λh=>yM _ _ _ _ h.1
   rw[yh];have sl:∀(K:AV->St->Option (AV×St))(s:St),aj c (.sliceL 3 true false false) [kX tk ts.length 3,.int .i64 (ts.length:Int)] s K=K (slvT tk ts.length) s:=λK s=>by
     refine aH c K (λH n=> ?_) s;cases tk with
     |none=>rw[h0 rfl];rfl
     |some b=>simp[kX,slvT,av.run,lS,bounds,eI,cX,cI]
   have l1:∀(K:AV->St->Option (AV×St))(s:St),aj c (.lenB .l) [.slice q 0 1 (some 1) 3] s K=K (.int .i64 1) s:=λK s=>aH c K (λH n=>rfl) s
   have l2:∀(K:AV->St->Option (AV×St))(s:St),aj c (.lenB .l) [kX tk ts.length 3] s K=K (.int .i64 (ts.length:Int)) s:=λK s=>aH c K (JD λh=>by rw[h0 h];rfl) s
   simp[sl,l1,l2,r1]
 . cases tk with
   |none=>rw[r2,r5 rfl,h0 rfl];rfl
   |some b=>rw[r2,r4 b _ rfl (hb b rfl)]
def uy(gs:List aL)(ts:List Ty)(t:Ty):Int:=if CX t=false then 23 else if jM gs t=true then 6 else if ov t ts.getLast? =true then 5 else 0
theorem Yt(H:Pos->Option AB)(n:Pos)(es:Nat)(b:Pos)(len:Nat)(cp:Option Nat)(k:IntKind)(i:Nat)(h:i<len):av.run H n (.idxA es none) [.slice b 0 len cp es,.int k (i:Int)]=some (.val (.ptr b (i*es))):=by
 simp[av.run,mS,eI,Df,h]
theorem aaD{gs:List aL}{es:List (AV×AV×Nat)}(h:es.map (·.1)=gs.map λg=>.str g.name)(s:List Nat):
   (¬scan (fY gs s) gs.length 0<0/\∃j v,jY .s (.str s) es 0=some (some (j,v)))\/(scan (fY gs s) gs.length 0<0/\jY .s (.str s) es 0=some none):=by
 rcases GM s gs es 0 h with⟨a,b⟩|⟨a,b⟩
 .left;have:=JE.2 a;exact⟨by omega,b⟩
 . (right;refine⟨?_,b⟩;have:¬0<=scan (fY gs s) gs.length 0:=λe=>a (JE.1 e));omega
theorem afO{s:St}{bp mp:Pos}{x y:AV}{es:List (AV×AV×Nat)}{cl:Nat}{gs:List aL}(hb:s.heap.get bp=some (.cells [x,y,.map mp] 0))(hm:s.heap.get mp=some (.map es cl))(he:es.map (·.1)=gs.map λg=>.str g.name)
   (t:Ty) (lb:Pos) (Yu:s.heap.get lb=some (.cells [.str t.a,.str t.b] 0)) (F:Nat) (k1 k2):
   kC c F k1 k2 3 [.ptr bp 0,.str t.a,.str t.b,.int .u8 t.k,.slice lb 0 2 (some 2) 1,.int .i64 2,.int .i64 ((0:Nat):Int)] s=if jM gs t=true then k1 [.int .i64 6] s else k2 [.ptr bp 0,.str t.a,.str t.b,.int .u8 t.k] s:=by
 have w0:au .i64 (((0:Nat):Int)+1)=((1:Nat):Int):=rfl;have w1:au .i64 (((1:Nat):Int)+1)=((2:Nat):Int):=rfl;have i0:∀(K:AV->St->Option (AV×St))(s:St),aj c (.idxA 1 none) [.slice lb 0 2 (some 2) 1,.int .i64 ((0:Nat):Int)] s K=K (.ptr lb 0) s:=λK s=>aH c K (λH n=>Yt H n 1 lb 2 (some 2) .i64 0 (by omega)) s
 have i1:∀(K:AV->St->Option (AV×St))(s:St),aj c (.idxA 1 none) [.slice lb 0 2 (some 2) 1,.int .i64 ((1:Nat):Int)] s K=K (.ptr lb 1) s:=λK s=>aH c K (λH n=>Yt H n 1 lb 2 (some 2) .i64 1 (by omega)) s
 have d0:decide (((0:Nat):Int)<2)=true:=rfl;have d1:decide (((1:Nat):Int)<2)=true:=rfl;have d2:decide (((2:Nat):Int)<2)=false:=rfl;have e0:([AV.str t.a,.str t.b]:List AV)[0]? =some (.str t.a):=rfl;have e1:([AV.str t.a,.str t.b]:List AV)[1]? =some (.str t.b):=rfl;have e2:([x,y,AV.map mp]:List AV)[2]? =some (.map mp):=rfl;rw[sP];rcases aaD he t.a with⟨n1,j,v,f1⟩|⟨n1,f1⟩
 . have lk1:=λ(K:AV->St->Option (AV×St))=>FC c K (.int .i64 0) (k:= .str t.a) hm f1
   simp only[aA,bf,b9,d0,bR,i0,dG,Yu,hb,bF,Ze6,e0,e2,ew,ak,uV,bN,Zd1,lk1,eX,Za8,Zb7,mV,Ze1,cG,fG,w0];rw[sP];rcases aaD he t.b with⟨n2,j,v,f2⟩|⟨n2,f2⟩
   . have lk2:=λ(K:AV->St->Option (AV×St))=>FC c K (.int .i64 0) (k:= .str t.b) hm f2
     simp only[aA,bf,b9,d1,bR,i1,dG,Yu,hb,bF,Ze6,e1,e2,ew,ak,uV,bN,Zd1,lk2,eX,Za8,Zb7,mV,Ze1,cG,fG,w1];rw[sP];have:jM gs t=false:=(by simp[jM,n1,n2]);rw[this];simp only[aA,bf,b9,d2,cG,Ze5,Zf9]
   . have lk2:=λ(K:AV->St->Option (AV×St))=>FC c K (.int .i64 0) (k:= .str t.b) hm f2
     have:jM gs t=true:=(by simp[jM,n2]);rw[this];simp only[aA,bf,b9,d1,bR,i1,dG,Yu,hb,bF,Ze6,e1,e2,ew,ak,uV,bN,Zd1,lk2,eX,Za8,Zb7,mV,Zh6,Zh0]
 . have lk1:=λ(K:AV->St->Option (AV×St))=>FC c K (.int .i64 0) (k:= .str t.a) hm f1
   have:jM gs t=true:=(by simp[jM,n1]);rw[this];simp only[aA,bf,b9,d0,bR,i0,dG,Yu,hb,bF,Ze6,e0,e2,ew,ak,uV,bN,Zd1,lk1,eX,Za8,Zb7,mV,Zh6,Zh0]
theorem aio (hc:Sem c){s0 s:St}{bp mp:Pos}{gs:List aL}{ts:List Ty}{gk tk:Option Pos}(BK:Wf s0)(B:gG s0 s bp mp gs ts gk tk)(hl:ts.length<=200)(t:Ty)(aO:aC t.a t.b=true)(hs:MG ts)(ht:∀u,ts.getLast? =some u->eJ t u=false):
   ∃s',c 253 [.ptr bp 0,.str t.a,.str t.b,.int .u8 t.k] s=some (.int .i64 (uy gs ts t),s')/\(uy gs ts t≠0->s'=s)/\(uy gs ts t=0->∃qc,gG s0 s' bp mp gs (ts++[t]) gk qc):=by
 have cL:¬t.a=t.b:=λe=>by rw[e,uw]at aO;cases aO
 have mE:=aaA hc s bp mp _ _ B.book;have UN:CX t=true->(t.k=1\/(¬t.k=1/\t.k=2)):=λq=>by
   simp only[CX,Zi2,Ze2]at q;by_cases e:t.k=1
   .exact .inl e
   .exact .inr ⟨e,q.resolve_left e⟩
 by_cases hk:CX t=true
 . have dm  :Wf (af s (.cells [.str t.a,.str t.b] 0)):=bU B.wf;have B1:=B.aF (Grew.af B.wf (.cells [.str t.a,.str t.b] 0));have OV:=Grew.af B.wf (.cells [.str t.a,.str t.b] 0);have Yu:(af s (.cells [.str t.a,.str t.b] 0)).heap.get s.next=some (.cells [.str t.a,.str t.b] 0):=aE _ _;generalize OJ:af s (.cells [.str t.a,.str t.b] 0)=s1 at dm B1 OV Yu;obtain⟨es,cl,kg,hm2⟩:=B1.Eu;have L:∀k1 k2,kC c 3 k1 k2 3 [.ptr bp 0,.str t.a,.str t.b,.int .u8 t.k,.slice s.next 0 2 (some 2) 1,.int .i64 2,.int .i64 0] s1=if jM gs t=true then k1 [.int .i64 6] s1 else k2 [.ptr bp 0,.str t.a,.str t.b,.int .u8 t.k] s1:=λk1 k2=>afO (c:=c) B1.book kg hm2 t s.next Yu 3 k1 k2
   have pR:=w9 hc B1 (by omega) t aO hs ht;have l2:∀(K:AV->St->Option (AV×St))(s:St),aj c (.lenB .l) [.slice (af s (.cells [] 0)).next 0 2 (some 2) 1] s K=K (.int .i64 2) s:=λK s=>aH c K (λH n=>rfl) s
   have lT:∀(K:AV->St->Option (AV×St))(s:St),aj c (.lenB .l) [kX tk ts.length 3] s K=K (.int .i64 (ts.length:Int)) s:=λK s=>aH c K (JD λh=>by rw[B.BJ.1 h];rfl) s
   have bsl:∀(K:AV->St->Option (AV×St)),aj c (.buildSlice 1 2 [(.str [])] [0,1]) [.str t.a,.str t.b] s K=K (.slice s.next 0 2 (some 2) 1) s1:=λK=>by rw[aX, <-OJ];have:cW (cC [AV.str []] 2) ([0,1].map λi=>(i*1,1)) [.str t.a,.str t.b]=some [.str t.a,.str t.b]:=(by simp[cW,cC,cX,cI,aJ,AV.cells]);rw[this];rfl
   have l3:∀(K:AV->St->Option (AV×St))(p:Pos)(s:St),aj c (.lenB .l) [.slice p 0 2 (some 2) 1] s K=K (.int .i64 2) s:=λK p s=>aH c K (λH n=>rfl) s
   have Tq:¬(ts.length:Int)=256:=(by omega);have fail:∀e:Int,e≠0->uy gs ts t=e->uZ c 3 (.ptr bp 0) (.str t.a) (.str t.b) (.int .u8 t.k) s=some (.int .i64 e,s1)->∃s',c 253 [.ptr bp 0,.str t.a,.str t.b,.int .u8 t.k] s=some (.int .i64 (uy gs ts t),s')/\(uy gs ts t≠0->s'=s)/\(uy gs ts t=0->∃qc,gG s0 s' bp mp gs (ts++[t]) gk qc):=λe he ha h=>by
     refine⟨s,?_,λ_=>rfl,λh0=>absurd (ha.symm.trans h0) he⟩;rw[uu hc 3 h,ha,aD (Plain.int _ _) OV.keeps]
   cases hu:jM gs t
   . cases  hd:ov t ts.getLast?
     .  have he:uy gs ts t=0:=(by simp[uy,hk,hu,hd]);rw[hd]at pR;have hplc:(HT ts t:Int)=ts.length:=by
          unfold HT;cases hq:ts.getLast? with
          |none=> have:ts=[]:=by simpa using hq
                  subst this;rfl
          | some u=>
            rw[hq]at hd;simp only[ov,Bool.not_eq_false']at hd;simp only[hd,Zh0]
        rw[hplc]at pR;have hpr:=aaz hc t.a t.b t.k aO s1 dm
        let s2:=af s1 (.cells t.cells 0)
        have g2:=Grew.af dm (.cells t.cells 0);have B2:=B1.aF g2;obtain⟨s5,r1,r2,r3,r4,r5⟩:=adF hc (s:=s2) g2.wf (tk:=tk) (ts:=ts) (q:=s1.next) (row:=t.cells) B.BJ.1 B2.BJ.2 (aE _ _) rfl t.one (by omega);have lt2:=B2.lt;have b5:s5.heap.get bp=some (.cells [kX gk gs.length 9,kX tk ts.length 3,.map mp] 0):=by rw[r5 bp B.dt lt2.1];exact B2.book
        let tv:=AV.slice s2.next 0 (ts.length+1) none 3
        let s6:=cj s5 bp (.cells [kX gk gs.length 9,tv,.map mp] 0)
        have afL:bp.toNat<s5.next.toNat:=r4 _ _ b5;have nb2:bp≠s2.next:=λe=>absurd (show bp.toNat<s2.next.toNat from lt2.1) (by rw[e];exact Zo9 _)
        have st6:∀(K:AV->St->Option (AV×St)),aj c (.store 1) [.ptr bp 1,tv] s5 K=K .undef s6:=λK=>eV c K s5 1 bp 1 tv _ b5 rfl (by simp) rfl
        have g6:∀p,p≠bp->s6.heap.get p=s5.heap.get p:=λp h=>bC (λe=>h e.symm)
        have abH:∀p:Pos,s0.next.toNat<=p.toNat->s0.heap.get p=none:=λp h=>by
          cases hx:s0.heap.get p with
          |none=>rfl
          |some x=>have:=BK _ _ hx;omega
        obtain⟨J9,cl2,hm3,hm4⟩:=B2.Eu;have UM:mp≠bp:=λe=>by rw[e,B2.book]at hm3;cases hm3
        have nmt:tk≠some mp:=λe=>by rw[B2.BJ.2 mp e]at hm3;cases hm3
        have Yq:gG s0 s6 bp mp gs (ts++[t]) gk (some s2.next):={
          wf:=HB r4 afL
          keeps:=λp x hp=>by
            have n1:p≠bp:=λe=>by rw[e,B.fb]at hp;cases hp
            have n3:tk≠some p:=λe=>by rw[B.ft p e]at hp;cases hp
            have h2:=B2.keeps p x hp;rw[g6 p n1,r5 p n3 (B2.wf _ _ h2)];exact h2
          next:=by show s0.next.toNat<=s5.next.toNat;exact Zd4 B2.next (by rw[r3,Pos.aB];exact Nat.le_succ _)
          book:=by show(cj _ _ _).heap.get bp=_;rw[dB];simp[tv,kX]
          Eu:=⟨J9,cl2,by rw[g6 mp UM,r5 mp nmt lt2.2];exact hm3,hm4⟩
          tJ:=⟨B.tJ.1,λb hb=>by obtain⟨cs,h3,h4⟩:=B2.tJ.2 b hb;refine⟨cs,?_,h4⟩;rw[g6 b (λe=>B.dg (by rw[<-e];exact hb)),r5 b (B.UK b hb) (B2.wf _ _ h3)];exact h3⟩
          BJ:=⟨λh=>(by cases h),λb hb=>by cases hb;rw[g6 _ (λe=>nb2 e.symm),r2];simp⟩
          dg:=B.dg
          dt:=λe=>nb2 (by injection e with e;exact e.symm)
          UK:=λb hb h=>by
            cases h;obtain⟨cs,h3,h4⟩:=B2.tJ.2 _ hb;exact absurd (show s2.next.toNat<s2.next.toNat from B2.wf _ _ h3) (Zo9 _)
          fb:=B.fb
          fm:=B.fm
          fg:=B.fg
          ft:=λb hb=>by cases hb;exact abH _ B2.next
          PU:=λes' cl' hm=>by have m6:s6.heap.get mp=s2.heap.get mp:=(by rw[g6 mp UM,r5 mp nmt lt2.2]);rw[m6]at hm;exact B2.PU _ _ hm
          PV:=λes' cl' hm=>by have m6:s6.heap.get mp=s2.heap.get mp:=(by rw[g6 mp UM,r5 mp nmt lt2.2]);rw[m6]at hm;exact B2.PV _ _ hm
          rows:=λb cs hb hs i u hu=>by
            obtain⟨Yp,h3,h4⟩:=B2.tJ.2 b hb;have x6:s6.heap.get b=s2.heap.get b:=(by rw[g6 b (λe=>B.dg (by rw[<-e];exact hb)),r5 b (B.UK b hb) (B2.wf _ _ h3)]);rw[x6]at hs;(refine(B2.rows b cs hb hs i u hu).to λp cs a1 a2 a3 hx=> ?_);have aO:p.toNat<s2.next.toNat:=B2.wf _ _ hx;refine⟨by rw[g6 p a1,r5 p a3 aO];exact hx,a2,λe=> ?_⟩;cases e;exact absurd aO (Zo9 _) }
        refine⟨s6,?_,λh=>absurd he h,λ_=>⟨_,Yq⟩⟩;rw[he];rw[uu hc 3 (r:=(.int .i64 0,s6))]
        . rw[SH (b:=bp) B.book];rw[Yq.book];intro e;have e:=congrArg (λo=>match o with|some (AB.cells (_::v::_) _)=>dD v|_=>none) e;simp only[kX,dD]at e;cases tk with
          |none=>simp[dD,B.BJ.1 rfl]at e
          |some b=>simp[dD]at e
        (rw[qX];have bq:fE (kX tk ts.length 3) (kX tk ts.length 3)=true:=(by cases tk;exact Pu;exact LG _ _ _ _);have wu:=λ(K:AV->Option (AV×St))=>AN K (p:=bp) (o:=1) (h:=s1.heap) (h2:=s1.heap) (v:=kX tk ts.length 3) (by rw[B1.book];rfl) (by rw[B1.book];rfl) bq);have C9:cW (cC [AV.str [],AV.str [],.int .u8 0] 1) [(0,3)] [AV.agg t.cells]=some t.cells:=by
          simp[cW,cC,cX,cI,Ty.cells,aJ]
        have agS:decide ((ts.length:Int)=256)=false:=Za0 Tq;rw[hu]at L;rcases UN hk with f|⟨f,f2⟩
        .have d1:decide (t.k=1)=true:=H5 f;simp[-aX,mE,cL,bsl,l3,d1,L,pR,B1.book,lT,agS,hpr,wu,C9];show LB (c 302 [kX tk ts.length 3,.int .i64 (ts.length:Int),.slice s1.next 0 1 (some 1) 3] s2) _=_;rw[r1];exact st6 _
        .have d1:decide (t.k=1)=false:=Za0 f;have d2:decide (t.k=2)=true:=H5 f2;simp[-aX,mE,cL,bsl,l3,d1,d2,L,pR,B1.book,lT,agS,hpr,wu,C9];show LB (c 302 [kX tk ts.length 3,.int .i64 (ts.length:Int),.slice s1.next 0 1 (some 1) 3] s2) _=_;rw[r1];exact st6 _
     .  refine fail 5 (by omega) (by simp[uy,hk,hu,hd]) ?_;rw[hd]at pR;rw[hu]at L;rw[qX];rcases UN hk with f|⟨f,f2⟩
        .have d1:decide (t.k=1)=true:=H5 f;simp[-aX,mE,cL,bsl,l3,d1,L,pR]
        .have d1:decide (t.k=1)=false:=Za0 f;have d2:decide (t.k=2)=true:=H5 f2;simp[-aX,mE,cL,bsl,l3,d1,d2,L,pR]
   . refine fail 6 (by omega) (by simp[uy,hk,hu]) ?_;rw[hu]at L;rw[qX];rcases UN hk with f|⟨f,f2⟩
     .  have d1:decide (t.k=1)=true:=H5 f;simp[-aX,mE,cL,bsl,l3,d1,L]
     .  have d1:decide (t.k=1)=false:=Za0 f;have d2:decide (t.k=2)=true:=H5 f2;simp[-aX,mE,cL,bsl,l3,d1,d2,L]
 .have hkf:¬t.k=1/\¬t.k=2:=(by simpa [CX]using hk);have he:uy gs ts t=23:=(by simp[uy,hk]);refine⟨s,?_,λ_=>rfl,λh0=>absurd (he.symm.trans h0) (by omega)⟩;rw[uu hc 3 (r:=(.int .i64 23,s)),he,aD (Plain.int _ _) (aT.refl s)];rw[qX];simp[mE,hkf]
@[simp] theorem ajG{R:Type}(K:AV->Option R)(z:Bool)(l:List aL):dK (.lenB .l) [cS z l] K=K (.int .i64 (l.length:Int)):=by unfold cS;rw[Xj];simp
theorem afP{gs:List aL}{k:Nat}(h:k<gs.length)(hk:k<=64):ux (gs.take k) gs[k]=if fH gs[k]≠0 then fH gs[k]else if 0<=scan (fY gs gs[k].name) k 0 then 5 else if 64<=k then 7 else 0:=by
 have hl:(gs.take k).length=k:=by simp;omega
 unfold ux;rw[hl,Yo (by omega)];have:(k=64)↔64<=k:=by omega
 simp only[this]
@[simp] theorem ajh{R:Type}(c:ai)(K:AV->St->Option R)(st:St)(t:aL)(cs:List AV)(h:cs.length=9):aj c (.store 9) [.ptr st.next 0,.agg t.cells] (af st (.cells cs 0)) K=K .undef (af st (.cells t.cells 0)):=eG c K st 9 (.agg t.cells) cs rfl h.symm t.one
theorem ahw (hc:Sem c){s0:St}(BK:Wf s0)(z:Bool)(gs:List aL)(hl:gs.length<=100)(bp mp rp:Pos)(F:Nat)(k1 k2):∀(m k:Nat)(s:St)(gk:Option Pos),gG s0 s bp mp (gs.take k) [] gk none->gs.length<=k+m->k<=gs.length->k<=64->
  ∃ s',aT s0 s'/\(((ij gs m k).2=0/\(∃Kv,gG s0 s' bp mp gs [] Kv none)/\ju c F k1 k2 (m+1) [.ptr rp 0,.ptr bp 0,cS z gs,.int .i64 (gs.length:Int),.int .i64 (k:Int)] s=k2 [.ptr rp 0,.ptr bp 0] s')\/
    ((ij gs m k).2≠0/\ju c F k1 k2 (m+1) [.ptr rp 0,.ptr bp 0,cS z gs,.int .i64 (gs.length:Int),.int .i64 (k:Int)] s=k1 [.fP,.int .i64 (ij gs m k).1,.int .i64 (ij gs m k).2] s')):=by
 intro m;induction m with
 |zero=>
  intro k s gk B h1 h2 h3;obtain rfl:k=gs.length:=by omega
  refine⟨s,B.keeps,.inl ⟨rfl,⟨gk,by simpa using B⟩,?_⟩⟩;rw[tG];simp
 |succ m ih   =>
  intro k s gk B h1 h2 h3;by_cases h:k<gs.length
  . have w:au .i64 ((k:Int)+1)=((k+1:Nat):Int):=wrap64 (by omega) (by omega);have B1:=B.aF (Grew.af B.wf (.cells gs[k].cells 0));obtain⟨s2,a1,a2,a3⟩:=aim hc BK B1 (by simp;omega) gs[k];have hA:=afP h h3;have step:∀(K:AV->St->Option (AV×St)),(aj c (.idxA 9 none) [cS z gs,.int .i64 (k:Int)] s λx19 s12=>aj c (.load (some 9)) [x19] s12 K)=K (.agg gs[k].cells) s:=λK=>by
        simp[cS,h]
    by_cases he:ux (gs.take k) gs[k]=0
    .   obtain⟨Kv,B2⟩:=a3 he;have e1:gs.take k++[gs[k]]=gs.take (k+1):=(Ze0 h).symm;rw[e1]at B2;rw[hA]at he;have c1:fH gs[k]=0:=by
         by_cases e:fH gs[k]=0
         .  exact e
         .  rw[Za9 e]at he;exact absurd he e
        (rw[Za3 (by rw[c1];simp)]at he;have c2:¬0<=scan (fY gs gs[k].name) k 0:=λe=>by rw[Za9 e]at he;cases he);(rw[Za3 c2]at he;have c3:¬64<=k:=λe=>by rw[Za9 e]at he;cases he);have ec:ij gs (m+1) k=ij gs m (k+1):=by
         rw[ij,H4 h];simp only;rw[Za3 (by rw[c1];simp),Za3 c2,Za3 c3]
        obtain⟨s',g1,g2⟩:=ih (k+1) s2 Kv B2 (by omega) (by omega) (by omega);refine⟨s',g1,?_⟩;rw[ec];have eL:ju c F k1 k2 (m+1+1) [.ptr rp 0,.ptr bp 0,cS z gs,.int .i64 (gs.length:Int),.int .i64 (k:Int)] s=ju c F k1 k2 (m+1) [.ptr rp 0,.ptr bp 0,cS z gs,.int .i64 (gs.length:Int),.int .i64 ((k+1:Nat):Int)] s2:=by
         rw[tG];have hz:ux (gs.take k) gs[k]=0:=(by rw[hA,Za3 (by rw[c1];simp),Za3 c2,Za3 c3]);rw[hz]at a1;simp[cS,h,a1,w]
        rw[eL];exact g2
    .   obtain rfl:=a2 he;have ec:ij gs (m+1) k=((k:Int),ux (gs.take k) gs[k]):=by
         rw[ij,H4 h];simp only;rw[hA]at he ⊢;by_cases c1:fH gs[k]=0
         .  have e1:¬fH gs[k]≠0:=(by rw[c1];simp);by_cases c2:0<=scan (fY gs gs[k].name) k 0
            .simp only[e1,c2,Zf9,Zh0]
            . by_cases c3:64<=k
              .simp only[e1,c2,c3,Zf9,Zh0]
              .rw[Za3 e1,Za3 c2,Za3 c3]at he;exact absurd rfl he
         .  have e1:fH gs[k]≠0:=c1;rw[Za9 e1,Za9 e1]
        refine⟨_,B1.keeps,.inr ⟨by rw[ec];exact he,?_⟩⟩;rw[ec,tG];simp[cS,h,a1,he]
  .obtain rfl:k=gs.length:=(by omega);have ec:ij gs (m+1) gs.length=(0,0):=(by rw[ij,Zb5 (by omega)]);refine⟨s,B.keeps,.inl ⟨by rw[ec],⟨gk,by simpa using B⟩,?_⟩⟩;rw[tG];simp
theorem PW{ts:List Ty}{k:Nat}(h:k<ts.length):(ts.take k).getLast? =kf ts k:=by
 unfold kf;by_cases h0:k=0
 .simp[h0]
 .rw[Za3 h0,List.getLast?_eq_getElem?];have:(ts.take k).length=k:=(by simp;omega);rw[this,Zc4,Za9 (by omega)]
theorem afQ{ts:List Ty}{k:Nat}(h:k<ts.length)(hs:MG (ts.take k))(hb:∀u,kf ts k=some u->eJ u ts[k]=true):MG (ts.take (k+1)):=by
 intro i j hj XB;have Bn:j<k+1:=by simp at hj;omega
 simp only[Zo0];by_cases e:j=k
 . subst e;have h1:kf ts j=some (ts[j - 1]'(by omega)):=(by rw[kf,Za3 (by omega),H4 (by omega)]);have h2:=hb _ h1;by_cases e2:i=j - 1
   .subst e2;exact h2
   .have h3:=hs i (j - 1) (by simp;omega) (by omega);simp only[Zo0]at h3;exact JF h3 h2
 .have:=hs i j (by simp;omega) XB;simpa only[Zo0]using this
def RW(t:Ty)(p:Option Ty):Bool:=match p with|none=>false|some p=>eJ t p
theorem afR(t:Ty)(p:Option Ty):NH t p=(!CX t|| !aC t.a t.b||RW t p):=by cases p<;>rfl
def Yv(t:Ty)(p:Option Ty):Bool:=aC t.a t.b&& !RW t p
def eK(gs:List aL)(ts:List Ty)(k:Nat)(t:Ty):Int:=if Yv t (kf ts k)=true then uy gs (ts.take k) t else 23
theorem ahx (hc:Sem c){s0:St}(BK:Wf s0)(z z2:Bool)(gs:List aL)(ts:List Ty)(hl:gs.length<=100)(nK:ts.length<=100)(bp mp rp:Pos)(Lo:s0.heap.get rp=some (.cells [cS z gs,fJ z2 ts] 0))(gk:Option Pos)(F:Nat)(k1 k4):∀(m k:Nat)(s:St)(tk:Option Pos),gG s0 s bp mp gs (ts.take k) gk tk->MG (ts.take k)->ts.length<=k+m->k<=ts.length->
  ∃s',aT s0 s'/\((fq gs ts m k).2=0->(∃qc,gG s0 s' bp mp gs ts gk qc)/\MG ts)/\kI c F k1 k4 (m+1) [.ptr rp 0,.ptr bp 0,fJ z2 ts,.int .i64 (ts.length:Int),.int .i64 (k:Int)] s=if(fq gs ts m k).2=0 then k4 [.ptr bp 0] s' else k1 [.fP,.int .i64 (fq gs ts m k).1,.int .i64 (fq gs ts m k).2] s':=by
 intro m;induction m with
 |zero=>
  intro k s tk B hs h1 h2;obtain rfl:k=ts.length:=by omega
  refine⟨s,B.keeps,λ_=>⟨⟨tk,by simpa using B⟩,by simpa using hs⟩,?_⟩;rw[tF];simp[fq]
 |succ m ih   =>
  intro k s tk B hs h1 h2;by_cases h:k<ts.length
  . have w:au .i64 ((k:Int)+1)=((k+1:Nat):Int):=wrap64 (by omega) (by omega);have wg:au .i64 ((gs.length:Int)+(k:Int))=(gs.length:Int)+k:=wrap64 (by omega) (by omega);have B1:=B.aF (Grew.af B.wf (.cells ts[k].cells 0));have fc:(af s (.cells ts[k].cells 0)).heap.get rp=some (.cells [cS z gs,fJ z2 ts] 0):=B1.keeps _ _ Lo;have dm:=B1.wf;have Tq:¬256<=k:=(by omega);have ec:fq gs ts (m+1) k=if eK gs ts k ts[k]≠0 then((gs.length:Int)+k,eK gs ts k ts[k])else fq gs ts m (k+1):=by rw[fq,H4 h];simp only[Tq,Zf9];rw[afR];unfold eK Yv uy;rw[PW h];cases CX ts[k]<;>cases aC ts[k].a ts[k].b<;>cases RW ts[k] (kf ts k)<;>cases jM gs ts[k]<;>cases ov ts[k] (kf ts k)<;>simp
    have Pm   :Yv ts[k] (kf ts k)=true->∃s',aT s0 s'/\(eK gs ts k ts[k]=0->(fq gs ts m (k+1)).2=0->(∃qc,gG s0 s' bp mp gs ts gk qc)/\MG ts)/\∃s2,c 253 [.ptr bp 0,.str ts[k].a,.str ts[k].b,.int .u8 ts[k].k] (af s (.cells ts[k].cells 0))=some (.int .i64 (eK gs ts k ts[k]),s2)/\s2.heap.get rp=some (.cells [cS z gs,fJ z2 ts] 0)/\
          (eK gs ts k ts[k]≠0->s'=s2)/\(eK gs ts k ts[k]=0->
            kI c F k1 k4 (m+1) [.ptr rp 0,.ptr bp 0,fJ z2 ts,.int .i64 (ts.length:Int),.int .i64 ((k+1:Nat):Int)] s2=if(fq gs ts m (k+1)).2=0 then k4 [.ptr bp 0] s' else k1 [.fP,.int .i64 (fq gs ts m (k+1)).1,.int .i64 (fq gs ts m (k+1)).2] s'):=λdP=>by
        have Yw:=dP;simp only[Yv,Zb0,Zi6]at Yw;obtain⟨b2,b3⟩:=Yw;have aji:∀u,(ts.take k).getLast? =some u->eJ ts[k] u=false:=λu hu=>by rw[PW h]at hu;rw[hu]at b3;exact b3
        obtain⟨s2,a1,a2,a3⟩:=aio hc BK B1 (by simp;omega) ts[k] b2 hs aji;have et:eK gs ts k ts[k]=uy gs (ts.take k) ts[k]:=(by unfold eK;rw[Za9 dP]);rw[<-et]at a1 a2 a3;by_cases h0:eK gs ts k ts[k]=0
        . obtain⟨qc,B2⟩:=a3 h0;have e1:ts.take k++[ts[k]]=ts.take (k+1):=(Ze0 h).symm;rw[e1]at B2;have hd:ov ts[k] (kf ts k)=false:=by
            rw[et,uy,PW h]at h0;cases hq:ov ts[k] (kf ts k)
            .rfl
            . rw[hq]at h0;split at h0
              .simp at h0
              .split at h0<;>simp at h0
          have Bz:=afQ h hs (λu hu2=>by rw[hu2]at hd;simpa [ov]using hd);obtain⟨s',g1,gB,g2⟩:=ih (k+1) s2 qc B2 Bz (by omega) (by omega);exact⟨s',g1,λ_=>gB,s2,a1,B2.keeps _ _ Lo,λe=>absurd h0 e,λ_=>g2⟩
        .obtain rfl:=a2 h0;exact⟨_,B1.keeps,λe=>absurd e h0,_,a1,fc,λ_=>rfl,λe=>absurd e h0⟩
    rw[ec];cases dP:Yv ts[k] (kf ts k)
    ·
        have e23:eK gs ts k ts[k]=23:=(by unfold eK;rw[dP];rfl);refine⟨_,B1.keeps,λe=>(by rw[e23,Za9 (by decide)]at e;cases e),?_⟩;rw[tF,e23];cases q1:aC ts[k].a ts[k].b
        .simp[fJ,h,q1,uf,fc,wg]
        . have q2:RW ts[k] (kf ts k)=true:=(by simpa [Yv,q1]using dP);have xI:¬k=0:=λe=>by rw[kf,Za9 e]at q2;cases q2
          have mR:k - 1<ts.length:=(by omega);have wk:au .i64 ((k:Int) - 1)=((k - 1:Nat):Int):=(by rw[wrap64 (by omega) (by omega)];omega);have q3:eJ ts[k] ts[k - 1]=true:=(by rw[kf,Za3 xI,H4 mR]at q2;exact q2);have ho:=Es hc ts[k - 1] ts[k] _ dm;have Aa:¬qb ts[k - 1] ts[k]<=0:=(by have:=NG.2 q3;omega);simp[fJ,h,q1,uf,fc,wg,xI,mR,wk,ho,Aa]
    .   obtain⟨s',g1,gB,s2,t1,t2,t3,t4⟩:=Pm dP;refine⟨s',g1,λe=>by
          by_cases he:eK gs ts k ts[k]=0
          .exact gB he (by rw[Za3 (by simp[he])]at e;exact e)
          .rw[Za9 he]at e;exact absurd e he,?_⟩
        rw[tF];have Yw:=dP;simp only[Yv,Zb0,Zi6]at Yw;obtain⟨q1,q2⟩:=Yw;by_cases he:eK gs ts k ts[k]=0
        . have t4:=t4 he;rw[he]at t1;simp only[he,ne_eq,not_true,Zf9];rw[<-t4];by_cases xI:k=0
          .have dk:decide ((k:Int)=0)=true:=H5 (by omega);have dk':decide (k=0)=true:=H5 xI;clear xI;simp[fJ,h,q1,uf,fc,dk,dk',t1,w]
          . have mR:k - 1<ts.length:=(by omega);have wk:au .i64 ((k:Int) - 1)=((k - 1:Nat):Int):=(by rw[wrap64 (by omega) (by omega)];omega);have q3:eJ ts[k] ts[k - 1]=false:=(by rw[kf,Za3 xI,H4 mR]at q2;exact q2);have ho:=Es hc ts[k - 1] ts[k] _ dm;have Aa:qb ts[k - 1] ts[k]<=0:=by
              have:¬0<qb ts[k - 1] ts[k]:=λe=>by rw[NG.1 e]at q3;cases q3
              omega
            simp[fJ,h,q1,uf,fc,xI,mR,wk,ho,Aa,t1,w]
        . obtain rfl:=t3 he;simp only[he,ne_eq,Zq2,Zh0,Zf9];by_cases xI:k=0
          .have dk:decide ((k:Int)=0)=true:=H5 (by omega);have dk':decide (k=0)=true:=H5 xI;clear xI;simp[fJ,h,q1,uf,fc,dk,dk',t1,t2,wg,he]
          . have mR:k - 1<ts.length:=(by omega);have wk:au .i64 ((k:Int) - 1)=((k - 1:Nat):Int):=(by rw[wrap64 (by omega) (by omega)];omega);have q3:eJ ts[k] ts[k - 1]=false:=(by rw[kf,Za3 xI,H4 mR]at q2;exact q2);have ho:=Es hc ts[k - 1] ts[k] _ dm;have Aa:qb ts[k - 1] ts[k]<=0:=by
              have:¬0<qb ts[k - 1] ts[k]:=λe=>by rw[NG.1 e]at q3;cases q3
              omega
            simp[fJ,h,q1,uf,fc,xI,mR,wk,ho,Aa,t1,t2,wg,he]
  .obtain rfl:k=ts.length:=(by omega);refine⟨s,B.keeps,λ_=>⟨⟨tk,by simpa using B⟩,by simpa using hs⟩,?_⟩;rw[tF];have ec:fq gs ts (m+1) ts.length=(0,0):=(by rw[fq,Zb5 (by omega)]);simp[ec]
theorem Tr(hc:Sem c)(z z2:Bool)(gs:List aL)(ts:List Ty)(hl:gs.length<=100)(nK:ts.length<=100)(s:St)(hw:Wf s):
   ∃v s',c 181 [.agg [cS z gs,fJ z2 ts]] s=some (.tuple [v,.int .i64 (bQ gs ts).1,.int .i64 (bQ gs ts).2],s')/\aT s s'/\((bQ gs ts).2=0->∃bp mp gk tk,v= .ptr bp 0/\gG (af s (.cells [cS z gs,fJ z2 ts] 0)) s' bp mp gs ts gk tk/\MG ts):=by
 let s0:=af s (.cells [cS z gs,fJ z2 ts] 0)
 have BK:Wf s0:=bU hw;have k0:aT s s0:=cN hw;have Lo:s0.heap.get s.next=some (.cells [cS z gs,fJ z2 ts] 0):=aE _ _;have Ph:=ail hc s0;have B:=gG.start BK
 have finish:∀{v:AV}{s':St},zc c 102 (.agg [cS z gs,fJ z2 ts]) s=some (.tuple [v,.int .i64 (bQ gs ts).1,.int .i64 (bQ gs ts).2],s')->aT s0 s'->((bQ gs ts).2=0->∃bp mp gk tk,v= .ptr bp 0/\gG s0 s' bp mp gs ts gk tk/\MG ts)->
     ∃v s',c 181 [.agg [cS z gs,fJ z2 ts]] s=some (.tuple [v,.int .i64 (bQ gs ts).1,.int .i64 (bQ gs ts).2],s')/\aT s s'/\((bQ gs ts).2=0->∃bp mp gk tk,v= .ptr bp 0/\gG s0 s' bp mp gs ts gk tk/\MG ts):=λ{v s'} h hk hB=>by
   have h2:=Td hc 102 h;unfold tidy at h2;split at h2
   .rename_i hp;exact⟨v,s,h2,aT.refl s,λe=>by obtain⟨bp,mp,gk,tk,rfl,_⟩:=hB e;exact absurd hp.1 Vm⟩
   .exact⟨v,s',h2,k0.trans hk,hB⟩
 obtain⟨s1,g1,g2⟩:=ahw hc BK z gs hl (af s0 (.map [] 0)).next s0.next s.next 102 (λvs s30=>iR vs λx2 vs=>iR vs λx3 vs=>iR vs λx4 vs=>om vs (some (.tuple [x2,x3,x4],s30))) (λvs s31=>iR vs λx1 vs=>iR vs λx5 vs=>om vs (
   aj c (.fieldA 1) [x1] s31 λx29 s32=>aj c (.load none) [x29] s32 λHU s33=>aj c (.lenB .l) [HU] s33 λMH s34=>aj c .move [(.int .i64 0)] s34 λMI s35=>
   kI c 102 (λvs s80=>iR vs λx2 vs=>iR vs λx3 vs=>iR vs λx4 vs=>om vs (some (.tuple [x2,x3,x4],s80))) (λvs s81=>iR vs λx5 vs=>om vs (
     aj c .move [x5] s81 λx74 s82=>aj c .move [x74] s82 λx2 s83=>aj c .move [(.int .i64 0)] s83 λx3 s84=>aj c .move [(.int .i64 0)] s84 λx4 s85=>some (.tuple [x2,x3,x4],s85))) 102 [x1,x5,HU,MH,MI] s35)) 101 0 _ none B (by omega) (by omega) (by omega)
 have adG:∀r,ju c 102 (λvs s30=>iR vs λx2 vs=>iR vs λx3 vs=>iR vs λx4 vs=>om vs (some (.tuple [x2,x3,x4],s30))) (λvs s31=>iR vs λx1 vs=>iR vs λx5 vs=>om vs (
   aj c (.fieldA 1) [x1] s31 λx29 s32=>aj c (.load none) [x29] s32 λHU s33=>aj c (.lenB .l) [HU] s33 λMH s34=>aj c .move [(.int .i64 0)] s34 λMI s35=>
   kI c 102 (λvs s80=>iR vs λx2 vs=>iR vs λx3 vs=>iR vs λx4 vs=>om vs (some (.tuple [x2,x3,x4],s80))) (λvs s81=>iR vs λx5 vs=>om vs (
     aj c .move [x5] s81 λx74 s82=>aj c .move [x74] s82 λx2 s83=>aj c .move [(.int .i64 0)] s83 λx3 s84=>aj c .move [(.int .i64 0)] s84 λx4 s85=>some (.tuple [x2,x3,x4],s85))) 102 [x1,x5,HU,MH,MI] s35)) 102 [.ptr s.next 0,.ptr (af s0 (.map [] 0)).next 0,cS z gs,.int .i64 (gs.length:Int),.int .i64 ((0:Nat):Int)] (af (af s0 (.map [] 0)) (.cells [.ah,.ah,.map s0.next] 0))=r->zc c 102 (.agg [cS z gs,fJ z2 ts]) s=r:=λr h=>by
   rw[<-h,X4];have hb:=(B.keeps _ _ Lo)
   simp only[ff,ME,ak,bg];show LB (c 250 [] s0) _=_;rw[Ph];simp only[aW,bN,dG,hb,bF,Ze6,Za8,Zd1,ew,afF];rfl
 rcases g2 with⟨q1,⟨Kv,B2⟩,q3⟩|⟨q1,q3⟩
 . have e:bQ gs ts=fq gs ts 101 0:=(by rw[bQ,Za3 (by simp[q1])]);obtain⟨s2,r1,rB,r2⟩:=ahx hc BK z z2 gs ts hl nK (af s0 (.map [] 0)).next s0.next s.next Lo Kv 102 (λvs s80=>iR vs λx2 vs=>iR vs λx3 vs=>iR vs λx4 vs=>om vs (some (.tuple [x2,x3,x4],s80))) (λvs s81=>iR vs λx5 vs=>om vs (
     aj c .move [x5] s81 λx74 s82=>aj c .move [x74] s82 λx2 s83=>aj c .move [(.int .i64 0)] s83 λx3 s84=>aj c .move [(.int .i64 0)] s84 λx4 s85=>some (.tuple [x2,x3,x4],s85))) 101 0 s1 none (by simpa using B2) (by intro i j hj;simp at hj) (by omega) (by omega)
   have Br:s1.heap.get s.next=some (.cells [cS z gs,fJ z2 ts] 0):=B2.keeps _ _ Lo;have hL:=adG _ q3;simp only[aA,bf,bN,dG,Br,bF,Ze6,Zb7,Za8,Zd1,ew,afG,ak]at hL;have r2':=r2;rw[show(((0:Nat):Int))=0 from rfl]at r2';simp only[ak,Nat.reduceAdd]at r2';rw[r2']at hL;rw[e]at finish ⊢;by_cases h2:(fq gs ts 101 0).2=0
   . have h3:=JB gs ts 101 0 h2;rw[Za9 h2]at hL;simp only[aA,bf]at hL;exact finish (by rw[h2,h3];exact hL) r1 (λe=>by
        obtain⟨⟨qc,B3⟩,hs⟩:=rB e;exact⟨_,_,_,_,rfl,B3,hs⟩)
   .rw[Za3 h2]at hL;simp only[aA,bf]at hL;exact finish hL r1 (λe=>absurd e h2)
 .have e:bQ gs ts=ij gs 101 0:=(by rw[bQ,Za9 q1]);have hL:=adG _ q3;simp only[aA,bf]at hL;rw[e]at finish ⊢;exact finish hL g1 (λe=>absurd e q1)
structure Rl where
 k:Int
 wt:Int
 a:List Nat
 b:List Nat
 t:List Nat
 n:Int
def Rl.cells(r:Rl):List AV:=[.int .u8 r.k,.int .i64 r.wt,.str r.a,.str r.b,.str r.t,.int .i64 r.n]
@[simp] theorem Rl.c0(t:Rl):t.cells[0]? =some (.int .u8 t.k):=id rfl
@[simp] theorem Rl.c1(t:Rl):t.cells[1]? =some (.int .i64 t.wt):=id rfl
@[simp] theorem Rl.c2(t:Rl):t.cells[2]? =some (.str t.a):=id rfl
@[simp] theorem Rl.c3(t:Rl):t.cells[3]? =some (.str t.b):=id rfl
@[simp] theorem Rl.c4(t:Rl):t.cells[4]? =some (.str t.t):=id rfl
@[simp] theorem Rl.c5(t:Rl):t.cells[5]? =some (.int .i64 t.n):=id rfl
@[simp] theorem Rl.cc(t:Rl):cut t.cells 0 6=some t.cells:=bY rfl
@[simp] theorem Rl.one(t:Rl):aR t.cells=true:=id rfl
def HV(z:Bool)(rs:List Rl):AV:=ro 6 z (rs.map Rl.cells)
@[simp] theorem ajH{R:Type}(c:ai)(K:AV->St->Option R)(st:St)(z:Bool)(l:List Rl):aj c (.lenB .l) [HV z l] st K=K (.int .i64 (l.length:Int)) st:=by unfold HV;rw[lF];simp
structure bX where
 tz:Bool
 ts:List aK
 gz:Bool
 gs:List aL
 yz:Bool
 ys:List Ty
 cz:Bool
 cs:List Int
 rz:Bool
 rs:List Rl
def bX.cells(p:bX):List AV:=[tabs p.tz p.ts,cS p.gz p.gs,fJ p.yz p.ys,ints p.cz p.cs,HV p.rz p.rs]
@[simp] theorem bX.c0(p:bX):p.cells[0]? =some (tabs p.tz p.ts):=id rfl
@[simp] theorem bX.c1(p:bX):p.cells[1]? =some (cS p.gz p.gs):=id rfl
@[simp] theorem bX.c2(p:bX):p.cells[2]? =some (fJ p.yz p.ys):=id rfl
@[simp] theorem bX.c3(p:bX):p.cells[3]? =some (ints p.cz p.cs):=id rfl
@[simp] theorem bX.c4(p:bX):p.cells[4]? =some (HV p.rz p.rs):=id rfl
@[simp] theorem bX.cc(p:bX):cut p.cells 0 5=some p.cells:=bY rfl
structure bX.HW(p:bX):Prop where
 ts:p.ts.length<=100
 gs:p.gs.length<=100
 ys:p.ys.length<=100
 cs:p.cs.length<=100
 rs:p.rs.length<=100
 ok:∀t∈p.ts,t.Ok
def u0(l:List Int):Bool:=l.all λc=>decide (0<=c)&&decide (c<64)
def jG(p:bX):Int×Int:=
 if(bI p.ts).2≠0 then bI p.ts else if(bQ p.gs p.ys).2≠0 then bQ p.gs p.ys
 else if p.cs.length≠0/\p.cs.length≠p.gs.length then(0,44)else if u0 p.cs=false then(0,44)
 else if aY p.ts<p.gs.length then(0,45)else(0,0)
theorem ZC{p:bX}(h:(jG p).2=0):(jG p).1=0:=by
 unfold jG at h ⊢;by_cases h1:(bI p.ts).2≠0
 .rw[Za9 h1]at h;exact absurd h h1
 rw[Za3 h1]at h ⊢;by_cases h2:(bQ p.gs p.ys).2≠0
 .rw[Za9 h2]at h;exact absurd h h2
 rw[Za3 h2]
 repeat' split
 all_goals rfl
theorem abJ(p:bX)(hp:p.HW)(q:Pos)(F:Nat)(s:St)(k1 k2):∀(m k:Nat),p.cs.length<=k+m->k<=p.cs.length->
  n7 c F k1 k2 (m+1) [.ptr q 0,ints p.cz p.cs,.int .i64 (p.cs.length:Int),.int .i64 (k:Int)] s=if u0 (p.cs.drop k)=true then k2 [.ptr q 0] s else k1 [.int .i64 0,.int .i64 44] s:=by
 have hl:=hp.cs;intro m;induction m with
 |zero=>
  intro k h1 h2;obtain rfl:k=p.cs.length:=by omega
  rw[FI];simp[u0]
 |succ m ih=>
  intro k h1 h2;rw[FI];by_cases h:k<p.cs.length
  . have e:p.cs.drop k=p.cs[k]::p.cs.drop (k+1):=Zc3 h;have w:au .i64 ((k:Int)+1)=((k+1:Nat):Int):=wrap64 (by omega) (by omega);have:=ih (k+1) (by omega) (by omega);have ec:u0 (p.cs.drop k)=((decide (0<=p.cs[k])&&decide (p.cs[k]<64))&&u0 (p.cs.drop (k+1))):=(by rw[e];rfl);rw[ec];generalize u0 (p.cs.drop (k+1))=rest at this ⊢;by_cases h3:p.cs[k]<0
    .   have h4:(decide (0<=p.cs[k])&&decide (p.cs[k]<64))=false:=(by simp;omega);rw[h4];simp[ints,h,h3]
    .   by_cases h5:64<=p.cs[k]
        .have h4:(decide (0<=p.cs[k])&&decide (p.cs[k]<64))=false:=(by simp;omega);rw[h4];simp[ints,h,h3,h5]
        .have h4:(decide (0<=p.cs[k])&&decide (p.cs[k]<64))=true:=(by simp;omega);rw[h4,Zg0, <-this];simp[ints,h,h3,h5,w]
  .obtain rfl:k=p.cs.length:=(by omega);simp[u0]
theorem abK{d:Nat}(z:Bool)(l:List (List Nat)):jt (d+1) (mB z l):=jt.ro λr hr v hv=>by simp only[Ze3]at hr;obtain⟨i,_,rfl⟩:=hr;simp only[Zd7]at hv;subst hv;exact jt.str _
theorem abL(z:Bool)(l:List aL):jt 3 (cS z l):=jt.ro λr hr v hv=>by simp only[Ze3]at hr;obtain⟨g,_,rfl⟩:=hr;simp only[aL.cells,Zb2,Ze9,Zj8]at hv;rcases hv with rfl|rfl|rfl|rfl|rfl|rfl|rfl|rfl|rfl<;>first|exact jt.str _|exact jt.int _ _|exact jt.bool _|exact abK _ _
theorem uz(z z2:Bool)(gs:List aL)(ts:List Ty):cW [.ah,.ah] [(0,1),(1,1)] [cS z gs,fJ z2 ts]=some [cS z gs,fJ z2 ts]:=by have e1:(cS z gs).cells=[cS z gs]:=Xp _ _ _;have e2:(fJ z2 ts).cells=[fJ z2 ts]:=Xp _ _ _;unfold cW;rw[e1];show cW [cS z gs,.ah] [(1,1)] [fJ z2 ts]=_;unfold cW;rw[e2];rfl
def Yx(c:ai)(p:bX):Prop:=(∀st,Wf st->c 130 [.agg [cS p.gz p.gs,fJ p.yz p.ys]] st=some (.tuple [.int .i64 (bQ p.gs p.ys).1,.int .i64 (bQ p.gs p.ys).2],st))/\
 ∀st,Wf st->c 233 [.agg [cS p.gz p.gs,fJ p.yz p.ys]] st=some (.tuple [.int .i64 (bQ p.gs p.ys).1,.int .i64 (bQ p.gs p.ys).2],st)
theorem afS (hc:Sem c)(p:bX)(hp:p.HW)(hR:Yx c p)(st:St)(hw:Wf st):c 83 [.agg p.cells] st=some (.tuple [.int .i64 (jG p).1,.int .i64 (jG p).2],st):=by
 have dm:Wf (af st (.cells p.cells 0)):=bU hw;have OV:=Grew.af hw (.cells p.cells 0);have fc:(af st (.cells p.cells 0)).heap.get st.next=some (.cells p.cells 0):=aE _ _;have A:=OU hc p.tz p.ts hp.ok _ dm;have B:=hR.1 _ dm;have D:=AW hc p.tz p.ts hp.ok _ dm;have L:∀k1 k2,n7 c 101 k1 k2 101 [.ptr st.next 0,ints p.cz p.cs,.int .i64 (p.cs.length:Int),.int .i64 0] (af st (.cells p.cells 0))=if u0 p.cs=true then k2 [.ptr st.next 0] (af st (.cells p.cells 0))else k1 [.int .i64 0,.int .i64 44] (af st (.cells p.cells 0)):=
   λk1 k2=>abJ (c:=c) p hp st.next 101 (af st (.cells p.cells 0)) k1 k2 100 0 (by have:=hp.cs;omega) (by omega)
 have wu:=λ(K:AV->Option (AV×St))=>AN K (p:=st.next) (o:=1) (h:=(af st (.cells p.cells 0)).heap) (h2:=(af st (.cells p.cells 0)).heap) (v:=cS p.gz p.gs) (by rw[fc];rfl) (by rw[fc];rfl) (adf (abL _ _))
 rw[S9 hc 101 (r:=(.tuple [.int .i64 (jG p).1,.int .i64 (jG p).2],af st (.cells p.cells 0))),aD (Plain.tuple (by simp[Plain.int])) OV.keeps];rw[XX];unfold jG;by_cases h1:(bI p.ts).2=0
 . by_cases h2:(bQ p.gs p.ys).2=0
   . simp only[h1,Zh0]at D;by_cases h3:p.cs.length=0
     .  have h4:p.cs=[]:=(by simpa using h3);have L1:u0 p.cs=true:=(by rw[h4];rfl);have e0:((p.cs.length:Nat):Int)=0:=(by omega);simp only[L1,Zh0,e0]at L;by_cases h6:aY p.ts<p.gs.length
        .simp[uz,h1,h2,h3,A,B,D,fc,L1,L,wu,h6]
        .simp[uz,h1,h2,h3,A,B,D,fc,L1,L,wu,h6]
     .  by_cases h4:p.cs.length=p.gs.length
        . cases h5:u0 p.cs with
          | false=>
            simp only[h5,Ze5,Zf9,h4]at L;have h7:0<p.cs.length:=(by omega);have h8:0<p.gs.length:=(by omega);simp[uz,h1,h2,h3,h4,h5,h7,h8,A,B,fc,L]
          | true=>
            simp only[h5,Zh0,h4]at L;have h7:0<p.cs.length:=(by omega);have h8:0<p.gs.length:=(by omega);by_cases h6:aY p.ts<p.gs.length
            .simp[uz,h1,h2,h3,h4,h5,h7,h8,A,B,D,fc,L,wu,h6]
            .simp[uz,h1,h2,h3,h4,h5,h7,h8,A,B,D,fc,L,wu,h6]
        .have h7:0<p.cs.length:=(by omega);have h4i:¬((p.cs.length:Int)=(p.gs.length:Int)):=(by omega);simp[uz,h1,h2,h3,h4,h4i,h7,A,B,fc]
   .simp[uz,h1,h2,A,B,fc]
 .simp[h1,A,fc]
end
section
open Go Go.Ai Go.Proofs
abbrev dO(i:Int):List AV:=[.int .i64 i]
abbrev MJ(s:List Nat):List AV:=[.str s]
def aK.ax(t:aK)(v:AV):List AV:=[.str t.name,.int .u8 t.sh,.int .i64 t.a,.int .i64 t.b,v,.int .i64 t.x,.int .i64 t.y]
theorem aK.Tn(t:aK){v:AV}(h:aR [v]=true):aR (t.ax v)=true:=by
 simp only[aR]at h;unfold aK.ax;simp only[aR,AV.one,h,Zl1,Zn1]at*
structure TS(s0 s:St)(V:AV)(ts:List aK)(rows:List (List AV)):Prop where
 out:Mk 7 s0 s V rows
 len:rows.length=ts.length
 tK:∀(i:Nat)(t:aK)(r:List AV),ts[i]? =some t->rows[i]? =some r->∃v,r=t.ax v/\Mk 1 s0 s v (t.ou.map dO)/\∀b,br v=some b->br V≠some b
structure GS(s0 s:St)(V:AV)(ts:List aL)(rows:List (List AV)):Prop where
 out:Mk 9 s0 s V rows
 len:rows.length=ts.length
 tK:∀(i:Nat)(t:aL)(r:List AV),ts[i]? =some t->rows[i]? =some r->∃v,r=t.ax v/\Mk 1 s0 s v (t.tg.map MJ)/\∀b,br v=some b->br V≠some b
structure PS(s0 s:St)(Vs:List AV)(p:bX):Prop where
 aF:Grew s0 s
 all:∃V1 V2 V3 V4 V5 r1 r2,Vs=[V1,V2,V3,V4,V5]/\TS s0 s V1 p.ts r1/\GS s0 s V2 p.gs r2/\Mk 3 s0 s V3 (p.ys.map Ty.cells)/\Mk 1 s0 s V4 (p.cs.map dO)/\Mk 6 s0 s V5 (p.rs.map Rl.cells)
theorem TS.wQ{s0 s s':St}{V:AV}{ts:List aK}{rows:List (List AV)}(h:TS s0 s V ts rows)(hg:Grew s0 s')(hk:∀b x,s0.next.toNat<=b.toNat->(br V=some b\/∃(i:Nat) (r:List AV) (v:AV),rows[i]? =some r/\r[4]? =some v/\br v=some b)->s.heap.get b=some x->s'.heap.get b=some x):TS s0 s' V ts rows:=
 ⟨Mk.wQ h.out hg λb x hb hx=>hk b x (h.out.new b hb) (.inl hb) hx,h.len,λi t r hi hr=>by
  obtain⟨v,e1,e2,e3⟩:=h.tK i t r hi hr;exact⟨v,e1,Mk.wQ e2 hg λb x hb hx=>hk b x (e2.new b hb) (.inr ⟨i,r,v,hr,by rw[e1];rfl,hb⟩) hx,e3⟩⟩
theorem GS.wQ{s0 s s':St}{V:AV}{ts:List aL}{rows:List (List AV)}(h:GS s0 s V ts rows)(hg:Grew s0 s')(hk:∀b x,s0.next.toNat<=b.toNat->(br V=some b\/∃(i:Nat) (r:List AV) (v:AV),rows[i]? =some r/\r[8]? =some v/\br v=some b)->s.heap.get b=some x->s'.heap.get b=some x):GS s0 s' V ts rows:=
 ⟨Mk.wQ h.out hg λb x hb hx=>hk b x (h.out.new b hb) (.inl hb) hx,h.len,λi t r hi hr=>by
  obtain⟨v,e1,e2,e3⟩:=h.tK i t r hi hr;exact⟨v,e1,Mk.wQ e2 hg λb x hb hx=>hk b x (e2.new b hb) (.inr ⟨i,r,v,hr,by rw[e1];rfl,hb⟩) hx,e3⟩⟩
variable{c:ai}
def aK.gH(t t':aK):Prop:=∃z,t'={ t with oz:=z }
def aL.gH(g g':aL):Prop:=∃z,g'={ g with tz:=z }
theorem Yy{α:Type}(f:α->AV)(s:St)(d:Nat)(l:List α)(hf:∀a∈l,dZ s d (f a)=f a):(l.map λa=>[f a]).map (λr=>r.map (dZ s d))=l.map λa=>[f a]:=by
 rw[Zh1];refine Zk2 λa ha=> ?_
 simp only[Function.comp,Zb8,Zf8,hf a ha]
theorem xU(s:St)(d:Nat)(k:IntKind)(i:Int):dZ s d (.int k i)= .int k i:=by cases d<;>rfl
theorem AX(s:St)(d:Nat)(l:List Nat):dZ s d (.str l)= .str l:=by cases d<;>rfl
theorem afT(s:St)(d:Nat)(b:Bool):dZ s d (.bool b)= .bool b:=by cases d<;>rfl
theorem PY{s0 s:St}{v:AV}{l:List Int}(h:Mk 1 s0 s v (l.map dO))(d:Nat):∃z,dZ s (d+1) v=ints z l:=by
 obtain⟨z,hz⟩:=h.own.dZ (d:=d) h.row;refine⟨z,?_⟩;rw[hz];unfold ints;rw[Yy (λi=>AV.int .i64 i) s d l λa _=>xU s d _ _]
theorem afU{s0 s:St}{v:AV}{l:List (List Nat)}(h:Mk 1 s0 s v (l.map MJ))(d:Nat):∃z,dZ s (d+1) v=mB z l:=by
 obtain⟨z,hz⟩:=h.own.dZ (d:=d) h.row;refine⟨z,?_⟩;rw[hz];unfold mB;rw[Yy (λi=>AV.str i) s d l λa _=>AX s d _]
theorem ahy{s0 s:St}{v:AV}{l:List Ty}(h:Mk 3 s0 s v (l.map Ty.cells))(d:Nat):∃z,dZ s (d+1) v=fJ z l:=by
 obtain⟨z,hz⟩:=h.own.dZ (d:=d) h.row;refine⟨z,?_⟩;rw[hz];unfold fJ;rw[Zh1];congr 1;refine Zk2 λa _=> ?_
 simp only[Function.comp,Ty.cells,Zb8,Zf8,AX,xU]
theorem ahz{s0 s:St}{v:AV}{l:List Rl}(h:Mk 6 s0 s v (l.map Rl.cells))(d:Nat):∃z,dZ s (d+1) v=HV z l:=by
 obtain⟨z,hz⟩:=h.own.dZ (d:=d) h.row;refine⟨z,?_⟩;rw[hz];unfold HV;rw[Zh1];congr 1;refine Zk2 λa _=> ?_
 simp only[Function.comp,Rl.cells,Zb8,Zf8,AX,xU]
theorem PZ{α:Type}(P:α->α->Prop)(cells:α->List AV)(g:List AV->List AV):∀(ts:List α)(rows:List (List AV)),rows.length=ts.length->(∀(i:Nat)(t:α)(r:List AV),ts[i]? =some t->rows[i]? =some r->∃t',P t t'/\g r=cells t')->
  ∃wz:List α,rows.map g=wz.map cells/\wz.length=ts.length/\∀(i:Nat)(t t':α),ts[i]? =some t->wz[i]? =some t'->P t t'
 |[],rows,hl,_=>⟨[],by rw[Zb1 hl];rfl,rfl,λi t t' h=>by simp at h⟩
 |t::ts,[],hl,_=>by simp at hl
 |t::ts,r::rows,hl,h=>by
  obtain⟨t',h1,h2⟩:=h 0 t r rfl rfl;obtain⟨wz,k1,k2,k3⟩:=PZ P cells g ts rows (by simpa using hl) (λi t r h3 h4=>h (i+1) t r (by simpa using h3) (by simpa using h4));refine⟨t'::wz,by simp[h2,k1],by simp[k2],λi u u' h3 h4=> ?_⟩;cases i with
  |zero=>simp at h3 h4;subst h3;subst h4;exact h1
  |succ i=>exact k3 i u u' (by simpa using h3) (by simpa using h4)
theorem TS.dZ{s0 s:St}{V:AV}{ts:List aK}{rows:List (List AV)}(h:TS s0 s V ts rows)(d:Nat):∃z wz,Go.Ai.dZ s (d+2) V=tabs z wz/\wz.length=ts.length/\∀(i:Nat)(t t':aK),ts[i]? =some t->wz[i]? =some t'->t.gH t':=by
 obtain⟨z,hz⟩:=h.out.own.dZ (d:=d+1) h.out.row;obtain⟨wz,k1,k2,k3⟩:=PZ aK.gH aK.cells (λr=>r.map (Go.Ai.dZ s (d+1))) ts rows h.len λi t r hi hr=>by
  obtain⟨v,rfl,hM,_⟩:=h.tK i t r hi hr;obtain⟨z2,hz2⟩:=PY hM d;refine⟨{ t with oz:=z2 },⟨z2,rfl⟩,?_⟩;simp only[aK.ax,aK.cells,Zb8,Zf8,AX,xU,hz2]
 refine⟨z,wz,?_,k2,k3⟩;rw[hz,k1];rfl
theorem GS.dZ{s0 s:St}{V:AV}{ts:List aL}{rows:List (List AV)}(h:GS s0 s V ts rows)(d:Nat):∃z wz,Go.Ai.dZ s (d+2) V=cS z wz/\wz.length=ts.length/\∀(i:Nat)(t t':aL),ts[i]? =some t->wz[i]? =some t'->t.gH t':=by
 obtain⟨z,hz⟩:=h.out.own.dZ (d:=d+1) h.out.row;obtain⟨wz,k1,k2,k3⟩:=PZ aL.gH aL.cells (λr=>r.map (Go.Ai.dZ s (d+1))) ts rows h.len λi t r hi hr=>by
  obtain⟨v,rfl,hM,_⟩:=h.tK i t r hi hr;obtain⟨z2,hz2⟩:=afU hM d;refine⟨{ t with tz:=z2 },⟨z2,rfl⟩,?_⟩;simp only[aL.ax,aL.cells,Zb8,Zf8,AX,xU,afT,hz2]
 refine⟨z,wz,?_,k2,k3⟩;rw[hz,k1];rfl
end
noncomputable section
open Go Go.Ai Go.Proofs
attribute [local go_sem ↓] bD mj ev LP ve getLT qV B6 HC pL pM AP v7 v8 v9 sk su sv sw sx sy we wj sF sH sI sJ sK Be Bf Bg
attribute [local go_sem] bD mj ev
section
variable(c:ai)(F:Nat)(x0 x1 x2 x3 x4 x5 x6 x7 x8 x9 yR yS:AV)(s:St)
end
section
variable{c:ai}(hc:Sem c)(F:Nat){x0 x1 x2 x3 x4 x5 x6 x7 x8 x9 yR yS:AV}{s:St}{r:AV×St}
include hc
end
end
section
open Go Go.Ai Go.Proofs
variable{c:ai}
structure bX.gH(p p':bX):Prop where
 tl:p'.ts.length=p.ts.length
 ts:∀(i:Nat)(t t':aK),p.ts[i]? =some t->p'.ts[i]? =some t'->t.gH t'
 gl:p'.gs.length=p.gs.length
 gs:∀(i:Nat)(t t':aL),p.gs[i]? =some t->p'.gs[i]? =some t'->t.gH t'
 ys:p'.ys=p.ys
 cs:p'.cs=p.cs
 rs:p'.rs=p.rs
theorem PS.dZ{s0 s:St}{Vs:List AV}{p:bX}(h:PS s0 s Vs p)(d:Nat):∃p',Go.Ai.dZ s (d+3) (.agg Vs)= .agg p'.cells/\p.gH p':=by obtain⟨V1,V2,V3,V4,V5,r1,r2,rfl,h1,h2,h3,h4,h5⟩:=h.all;obtain⟨z1,wz,e1,l1,k1⟩:=h1.dZ d;obtain⟨z2,gs',e2,l2,k2⟩:=h2.dZ d;obtain⟨z3,e3⟩:=ahy h3 (d+1);obtain⟨z4,e4⟩:=PY h4 (d+1);obtain⟨z5,e5⟩:=ahz h5 (d+1);refine⟨⟨z1,wz,z2,gs',z3,p.ys,z4,p.cs,z5,p.rs⟩,?_,⟨l1,k1,l2,k2,rfl,rfl,rfl⟩⟩;rw[SI];simp only[Zb8,Zf8,e1,e2,e3,e4,e5];rfl
theorem adH(z:Bool)(rs:List (List AV))(hl:rs.length<pG)(ee:∀cs∈rs,cs.length=9)(g:Nat)(v:List AV)(P:Nat->Bool)(st:St)(F:Nat)(k1 k2)
  (hP:∀i (h:i<rs.length),c g (.agg rs[i]::v) st=some (.bool (P i),st)):∀(m k:Nat),rs.length<=k+m->k<=rs.length->
  bO c F k1 k2 (m+1) [ro 9 z rs,.func g [] v,.int .i64 (rs.length:Int),.int .i64 (k:Int)] st=if 0<=scan P (rs.length - k) k then k1 [.int .i64 (scan P (rs.length - k) k)] st else k2 [] st:=by
 intro m;induction m with
 |zero=>
  intro k h1 h2;obtain rfl:k=rs.length:=by omega
  rw[cQ];simp[scan]
 |succ m ih=>
  intro k h1 h2;rw[cQ];by_cases h:k<rs.length
  . have e:rs.length - k=(rs.length - (k+1))+1:=(by omega);have w:au .i64 ((k:Int)+1)=((k+1:Nat):Int):=wrap64 (by omega) (by unfold pG at hl;omega);have hcut:cut rs[k] 0 9=some rs[k]:=bY (ee _ (Zc0 h));have hp:=hP k h;rw[e,scan];cases hb:P k
    .   simp only[Ze5,Zf9];rw[<-ih (k+1) (by omega) (by omega)];simp[h,hcut,hp,hb,w]
    .   simp[h,hcut,hp,hb]
  .obtain rfl:k=rs.length:=(by omega);simp[scan]
theorem ahA(hc:Sem c)(z:Bool)(rs:List (List AV))(hl:rs.length<pG)(ee:∀cs∈rs,cs.length=9)(g:Nat)(v:List AV)(P:Nat->Bool)(st:St)
   (hP:∀i (h:i<rs.length),c g (.agg rs[i]::v) st=some (.bool (P i),st)):c 126 [ro 9 z rs,.func g [] v] st=some (.int .i64 (scan P rs.length 0),st):=by
 rw[q7 hc (rs.length+1) (r:=(.int .i64 (scan P rs.length 0),st)),aD (Plain.int _ _) (aT.refl st)];rw[kV];have L:∀k1 k2,bO c (rs.length+1) k1 k2 (rs.length+1) [ro 9 z rs,.func g [] v,.int .i64 (rs.length:Int),.int .i64 0] st=if 0<=scan P (rs.length - 0) 0 then k1 [.int .i64 (scan P (rs.length - 0) 0)] st else k2 [] st:=
   λk1 k2=>adH z rs hl ee g v P st _ k1 k2 hP rs.length 0 (by omega) (by omega)
 rw[Zl6]at L;by_cases h:0<=scan P rs.length 0
 .simp[L,h]
 .have:=(NF P rs.length 0).2 (by omega);simp[L,this]
theorem ahB(hc:Sem c)(g:aL)(s:List Nat)(p:Pos)(st:St)(hw:Wf st)(hp:st.heap.get p=some (.cells [.str s] 0)):c 196 [.agg g.cells,.ptr p 0] st=some (.bool (decide (g.name=s)),st):=by
 rw[Te hc 1 (r:=(.bool (decide (g.name=s)),af st (.cells g.cells 0))),aD (Plain.bool _) (cN hw)];rw[X5];have:(af st (.cells g.cells 0)).heap.get p=some (.cells [.str s] 0):=cN hw _ _ hp;simp[this]
theorem aip(hc:Sem c)(p:bX)(hp:p.HW)(s:List Nat)(st:St)(hw:Wf st):c 150 [.agg p.cells,.str s] st=some (.int .i64 (scan (fY p.gs s) p.gs.length 0),st):=by
 have dm:Wf (af st (.cells p.cells 0)):=bU hw;have jy:=bU (b:= .cells [.str s] 0) dm;have hg:=(Grew.af hw (.cells p.cells 0)).trans (Grew.af dm (.cells [.str s] 0));have fc:(af (af st (.cells p.cells 0)) (.cells [.str s] 0)).heap.get st.next=some (.cells p.cells 0):=by have:=aE st (.cells p.cells 0);exact(Grew.af dm (.cells [.str s] 0)).get this
 have hi:=ahA hc p.gz (p.gs.map aL.cells) (by have:=hp.gs;simp;unfold pG;omega) (λcs gy=>by
   simp only[Ze3]at gy;obtain⟨t,_,rfl⟩:=gy;rfl) 196 [.ptr (af st (.cells p.cells 0)).next 0] (fY p.gs s) (af (af st (.cells p.cells 0)) (.cells [.str s] 0)) (λi hi=>by
   have hi3:i<p.gs.length:=(by simpa using hi);have:=ahB hc p.gs[i] s (af st (.cells p.cells 0)).next _ jy (aE _ _);simp only[Zk5];rw[this];simp[fY,hi3])
 rw[Zb3]at hi;rw[Ya hc 1 (r:=(.int .i64 (scan (fY p.gs s) p.gs.length 0),af (af st (.cells p.cells 0)) (.cells [.str s] 0))),aD (Plain.int _ _) hg.keeps];rw[abB];have e:(AV.str s).cells=[.str s]:=rfl;simp[e,hi,fc,cS]
structure Kd where
 w:List Nat
 a:Int
 b:Bool
 t:Int
 n:Bool
 lo:Int
 AY:Bool
 f:AV
def Kd.cells(k:Kd):List AV:=[.str k.w,.int .u8 k.a,.bool k.b,.int .u8 k.t,.bool k.n,.int .i64 k.lo,.bool k.AY,k.f]
@[simp] theorem Kd.c0(t:Kd):t.cells[0]? =some (.str t.w):=id rfl
@[simp] theorem Kd.c1(t:Kd):t.cells[1]? =some (.int .u8 t.a):=id rfl
@[simp] theorem Kd.c2(t:Kd):t.cells[2]? =some (.bool t.b):=id rfl
@[simp] theorem Kd.c3(t:Kd):t.cells[3]? =some (.int .u8 t.t):=id rfl
@[simp] theorem Kd.c4(t:Kd):t.cells[4]? =some (.bool t.n):=id rfl
@[simp] theorem Kd.c5(t:Kd):t.cells[5]? =some (.int .i64 t.lo):=id rfl
@[simp] theorem Kd.c6(t:Kd):t.cells[6]? =some (.bool t.AY):=id rfl
@[simp] theorem Kd.cc(t:Kd):cut t.cells 0 8=some t.cells:=bY rfl
def HX(k:Kd)(r:Rl):Bool:=(decide (k.a≠0)||decide (r.a=[]))&&(k.b||decide (r.b=[]))&&(decide (k.t≠0)||decide (r.t=[]))&&(k.n||decide (r.n=0))
theorem afV (hc:Sem c)(k:Kd)(r:Rl)(st:St)(hw:Wf st):c 149 [.agg k.cells,.agg r.cells] st=some (.bool (HX k r),st):=by
 have dm:Wf (af st (.cells k.cells 0)):=bU hw;have BA:=Grew.af dm (.cells r.cells 0);have hg:=(Grew.af hw (.cells k.cells 0)).trans BA;have p1:=BA.get (aE st (.cells k.cells 0));have p2:=aE (af st (.cells k.cells 0)) (.cells r.cells 0);rw[KJ hc 1 (r:=(.bool (HX k r),af (af st (.cells k.cells 0)) (.cells r.cells 0))),aD (Plain.bool _) hg.keeps];rw[NM];unfold HX;by_cases h0:k.a=0;rotate_left
 . cases  h2:k.b with
   |true=>
    by_cases h4:k.t=0;rotate_left
    .   cases h6:k.n with
        | true=>
          simp[h0,h2,h4,h6]
        | false=>
          by_cases h7:r.n=0
          .simp[h0,h2,h4,h6,h7]
          .simp[h0,h2,h4,h6,h7]
    by_cases h5:r.t=[]
    .   cases h6:k.n with
        | true=>
          simp[h0,h2,h4,h5,h6]
        | false=>
          by_cases h7:r.n=0
          .simp[h0,h2,h4,h5,h6,h7]
          .simp[h0,h2,h4,h5,h6,h7]
    .   simp[h0,h2,h4,h5]
   |false   =>
    by_cases h3:r.b=[]
    .   by_cases h4:k.t=0;rotate_left
        . cases h6:k.n with
          | true=>
            simp[h0,h2,h3,h4,h6]
          | false=>
            by_cases h7:r.n=0
            .simp[h0,h2,h3,h4,h6,h7]
            .simp[h0,h2,h3,h4,h6,h7]
        by_cases h5:r.t=[]
        . cases h6:k.n with
          | true=>
            simp[h0,h2,h3,h4,h5,h6]
          | false=>
            by_cases h7:r.n=0
            .simp[h0,h2,h3,h4,h5,h6,h7]
            .simp[h0,h2,h3,h4,h5,h6,h7]
        .simp[h0,h2,h3,h4,h5]
    .   simp[h0,h2,h3]
 by_cases h1:r.a=[]
 . cases  h2:k.b with
   |true=>
    by_cases h4:k.t=0;rotate_left
    .   cases h6:k.n with
        | true=>
          simp[h0,h1,h2,h4,h6]
        | false=>
          by_cases h7:r.n=0
          .simp[h0,h1,h2,h4,h6,h7]
          .simp[h0,h1,h2,h4,h6,h7]
    by_cases h5:r.t=[]
    .   cases h6:k.n with
        | true=>
          simp[h0,h1,h2,h4,h5,h6]
        | false=>
          by_cases h7:r.n=0
          .simp[h0,h1,h2,h4,h5,h6,h7]
          .simp[h0,h1,h2,h4,h5,h6,h7]
    .   simp[h0,h1,h2,h4,h5]
   |false   =>
    by_cases h3:r.b=[]
    .   by_cases h4:k.t=0;rotate_left
        . cases h6:k.n with
          | true=>
            simp[h0,h1,h2,h3,h4,h6]
          | false=>
            by_cases h7:r.n=0
            .simp[h0,h1,h2,h3,h4,h6,h7]
            .simp[h0,h1,h2,h3,h4,h6,h7]
        by_cases h5:r.t=[]
        . cases h6:k.n with
          | true=>
            simp[h0,h1,h2,h3,h4,h5,h6]
          | false=>
            by_cases h7:r.n=0
            .simp[h0,h1,h2,h3,h4,h5,h6,h7]
            .simp[h0,h1,h2,h3,h4,h5,h6,h7]
        .simp[h0,h1,h2,h3,h4,h5]
    .   simp[h0,h1,h2,h3]
 .simp[h0,h1]
end
end Go.Proofs.YtgjikjcfjddloaaGreatDoor
