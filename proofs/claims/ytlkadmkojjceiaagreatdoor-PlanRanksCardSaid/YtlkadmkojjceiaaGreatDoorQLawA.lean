/- Functions of the program, plainly, and what they answer. -/
import Derived.Test.YtlkadmkojjceiaaGreatDoorQAwake
set_option linter.all false
set_option maxRecDepth 100000
set_option maxHeartbeats 4000000
namespace Go.Proofs.YtlkadmkojjceiaaGreatDoor
noncomputable section
open Go Go.Ai Go.Proofs
def Bu:dZ:=vr [(327,Ib),(12,Kg)]
def Sem(c:ai):Prop:=c=run Bu gg
def gA(f:Nat):cI:=qj gg f
abbrev PX(f:Nat)(s:Sh):={a:Tx // txF (gA f) s=a}
abbrev PL(f:Nat)(s:Sh)(i:Nat):={a:List Pos×Tx // txL (fC (gA f) s i)=a}
theorem Sem.o0{c:ai}(hc:Sem c)(F:Nat){f:FuncId}{args:List AV}{st:St}{r:AV×St}(s:Sh)(hk:(su (Bu f)&& !su (gg.get (key f))&&(dY (gA f).code s).isEmpty)=true)
  {k:O2} (hd:zl c F (R4 []) (gA f) s args st=k) (h:k=some r):c f args st=some (tidy st r):=by
 subst hc;exact Wq s hk hd h
theorem Sem.o1{c:ai}(hc:Sem c)(F:Nat){f:FuncId}{args:List AV}{st:St}{r:AV×St}(Ls:Un->List Q2->Nat->Q2)(s:Sh)(hk:(su (Bu f)&& !su (gg.get (key f))&&Nat.beq (dY (gA f).code s).length 1)=true)
  (hs:(O9 (fC (gA f) s 0).2&&Nat.beq (ZU (fC (gA f) s 0).2) 0)=true) (h0:∀K' vs st,m7 Ls (gA f) s 0 K' 0 vs st=none)
  (h1:∀K' n vs st,m7 Ls (gA f) s 0 K' (n+1) vs st=Ek (den c F (m7 Ls (gA f) s) (fC (gA f) s 0).1 (lpB (fC (gA f) s 0).2)) (lpI (fC (gA f) s 0).2) (ZV (fC (gA f) s 0).2) K' (m7 Ls (gA f) s 0 K' n) vs st)
  {k:O2} (hd:zl c F (m7 Ls (gA f) s) (gA f) s args st=k) (h:k=some r):c f args st=some (tidy st r):=by
 subst hc;exact Wr Ls s hk hs h0 h1 hd h
theorem Sem.oL{c:ai}(hc:Sem c)(F:Nat){f:FuncId}{args:List AV}{st:St}{r:AV×St}(Ls:Un->List Q2->Nat->Q2)(s:Sh)(n:Nat)(hk:(su (Bu f)&& !su (gg.get (key f))&&Nat.beq (dY (gA f).code s).length n)=true)
  (hL:∀i,i<n->vL c F (m7 Ls (gA f) s) (fC (gA f) s i).1 (fC (gA f) s i).2) {k:O2} (hd:zl c F (m7 Ls (gA f) s) (gA f) s args st=k) (h:k=some r):c f args st=some (tidy st r):=by
 subst hc;exact Pe Ls s n hk hL hd h
end
noncomputable section
open Go Go.Ai Go.Proofs
attribute [local go_sem ↓] bQ ug ev TF xA getLT vU IX N7 ue uf Gf Eo Ep Er AI AK AL AM AN AO Es Eu AP AQ AR AS AT Kj Kk Kl
attribute [local go_sem] bQ ug ev
section
variable(c:ai)(F:Nat)(x0 x1 x2 x3 x4 x5 x6 x7 x8 x9 Bv Bw:AV)(s:St)
def I3:Sh:=(sq sl (sq (sq sl (sc (sq sl sl) sl)) (sq sl sl)))
def I4:PX 72 I3:=⟨_,by conv=>lhs;reduce⟩
def Gj:O2:=bQ c F b7 I4.1 [x0] s
def T6:=(by dsimp only[Gj,I4,go_sem,Int.reduceOfNat]:Gj c F x0 s=_)
def Bx:Sh:=(sq sl (sq (sq sl (sq sl (sc (sq sl sl) sl))) (sq sl (sq (sq sl (sb (sp 0 [1,6,21,22,23] [(1,[2,3]),(2,[])] (sq sl (sq (sc sl sl) (sq (sb (sq sl (sq (sq sl (sq sl (sc (sq sl sl) sl))) (sq sl (sc (sq sl sl) sl))))) sl)))))) (sq sl sl)))))
def I5:PX 77 Bx:=⟨_,by conv=>lhs;reduce⟩
def Hy:PL 77 Bx 0:=⟨_,by conv=>lhs;reduce⟩
def pJ(k1 k2:Q2):Nat->Q2
 |0,_,_=>none
 |n+1,vs,s=>fX c F b7 (pJ k1 k2 n) [k1,k2] Hy.1 vs s
def vX(k1 k2:Q2)(n:Nat)(vs:List AV)(s:St):=(by dsimp only[pJ,Hy,go_sem,Int.reduceOfNat]:pJ c F k1 k2 (n+1) vs s=_)
def By:Un->List Q2->Nat->Q2
 |.z,[k1,k2]=>pJ c F k1 k2
 |_,_=>λ_=>iE
def Gk:O2:=bQ c F (By c F) I5.1 [x0] s
def I6:=(by dsimp only[Gk,I5, ↓By,go_sem,Int.reduceOfNat]:Gk c F x0 s=_)
def Bz:Sh:=(sq sl (sq (sq sl (sc (sq sl sl) sl)) (sq sl (sq (sq sl (sb (sp 0 [5,23,24,25] [(2,[5])] (sq sl (sq (sc sl sl) (sq (sb (sq sl sl)) sl)))))) (sq sl sl)))))
def I7:PX 86 Bz:=⟨_,by conv=>lhs;reduce⟩
def Hz:PL 86 Bz 0:=⟨_,by conv=>lhs;reduce⟩
def pK(k2:Q2):Nat->Q2
 |0,_,_=>none
 |n+1,vs,s=>fX c F b7 (pK k2 n) [k2] Hz.1 vs s
def vY(k2:Q2)(n:Nat)(vs:List AV)(s:St):=(by dsimp only[pK,Hz,go_sem,Int.reduceOfNat]:pK c F k2 (n+1) vs s=_)
def BA:Un->List Q2->Nat->Q2
 |.z,[k2]=>pK c F k2
 |_,_=>λ_=>iE
def Gl:O2:=bQ c F (BA c F) I7.1 [x0,x1] s
def I8:=(by dsimp only[Gl,I7, ↓BA,go_sem,Int.reduceOfNat]:Gl c F x0 x1 s=_)
def I9:Sh:=(sq sl (sq sl (sq sl sl)))
def Ja:PX 116 I9:=⟨_,by conv=>lhs;reduce⟩
def Gm:O2:=bQ c F b7 Ja.1 [x0] s
def T7:=(by dsimp only[Gm,Ja,go_sem,Int.reduceOfNat]:Gm c F x0 s=_)
def CT:Sh:=(sq sl (sq (sq sl (sc (sq sl sl) sl)) (sq sl sl)))
def CU:PX 117 CT:=⟨_,by conv=>lhs;reduce⟩
def zo:O2:=bQ c F b7 CU.1 [x0] s
def Om:=(by dsimp only[zo,CU,go_sem,Int.reduceOfNat]:zo c F x0 s=_)
def BB:Sh:=(sq sl (sq (sq sl (sq sl (sc (sq sl sl) sl))) (sq (sq sl (sq sl (sc (sq sl sl) sl))) (sq (sq sl (sc (sq sl sl) sl)) (sq (sq sl (sb (sp 0 [1,47,48,49] [(1,[2,3]),(2,[1])] (sq sl (sq (sc sl sl) (sq (sb (sq sl (sq sl (sc (sq sl sl) sl)))) sl)))))) (sq (sq sl (sc (sq sl sl) sl)) (sq sl sl)))))))
def Jb:PX 119 BB:=⟨_,by conv=>lhs;reduce⟩
def HA:PL 119 BB 0:=⟨_,by conv=>lhs;reduce⟩
def mD(k1 k2:Q2):Nat->Q2
 |0,_,_=>none
 |n+1,vs,s=>fX c F b7 (mD k1 k2 n) [k1,k2] HA.1 vs s
def CV(k1 k2:Q2)(n:Nat)(vs:List AV)(s:St):=(by dsimp only[mD,HA,go_sem,Int.reduceOfNat]:mD c F k1 k2 (n+1) vs s=_)
def BC:Un->List Q2->Nat->Q2
 |.z,[k1,k2]=>mD c F k1 k2
 |_,_=>λ_=>iE
def Gn:O2:=bQ c F (BC c F) Jb.1 [x0] s
def T8:=(by dsimp only[Gn,Jb, ↓BC,go_sem,Int.reduceOfNat]:Gn c F x0 s=_)
def Jc:Sh:=(sq sl (sq sl sl))
def Jd:PX 120 Jc:=⟨_,by conv=>lhs;reduce⟩
def Gp:O2:=bQ c F b7 Jd.1 [] s
def T9:=(by dsimp only[Gp,Jd,go_sem,Int.reduceOfNat]:Gp c F s=_)
def zN:Sh:=(sq sl (sj [3,4,5] (sb (sq sl (sc (sq sl sl) (sq sl (sc (sq sl sl) (sq sl (sc (sq sl sl) (sj [3,4,5,28] (sq sl (sc sl (sq sl (sc sl sl)))) (sc (sq sl sl) (sq sl (sc (sq sl sl) (sq sl (sc (sq sl sl) sl))))))))))))) (sq sl (sq (sq sl (sc (sq sl sl) sl)) (sq sl (sj [3,5,9] (sq sl (sc sl sl)) (sq (sq sl (sc (sq sl sl) sl)) (sq sl sl))))))))
def zO:PX 121 zN:=⟨_,by conv=>lhs;reduce⟩
def vZ:O2:=bQ c F b7 zO.1 [x0,x1,x2] s
def Kw:=(by dsimp only[vZ,zO,go_sem,Int.reduceOfNat]:vZ c F x0 x1 x2 s=_)
def Lm:Sh:=(sq sl (sq sl (sq (sq sl (sc (sq sl sl) sl)) (sq sl sl))))
def Ln:PX 125 Lm:=⟨_,by conv=>lhs;reduce⟩
def Je:O2:=bQ c F b7 Ln.1 [x0] s
def Vl:=(by dsimp only[Je,Ln,go_sem,Int.reduceOfNat]:Je c F x0 s=_)
def BD:Sh:=(sq sl (sq sl (sq sl (sq (sb (sq sl (sc (sq sl sl) (sq sl (sc (sq sl sl) sl))))) (sq (sq sl (sb (sp 0 [1,3,4,18,19,20] [(1,[2]),(3,[1])] (sq sl (sq (sc sl sl) (sq (sb (sq sl (sq (sq sl (sc (sq sl sl) sl)) sl))) sl)))))) (sq (sq sl (sc (sq sl sl) sl)) (sq sl sl)))))))
def Jf:PX 129 BD:=⟨_,by conv=>lhs;reduce⟩
def HB:PL 129 BD 0:=⟨_,by conv=>lhs;reduce⟩
def mE(k1 k3:Q2):Nat->Q2
 |0,_,_=>none
 |n+1,vs,s=>fX c F b7 (mE k1 k3 n) [k1,k3] HB.1 vs s
def CW(k1 k3:Q2)(n:Nat)(vs:List AV)(s:St):=(by dsimp only[mE,HB,go_sem,Int.reduceOfNat,Int.reduceNegSucc]:mE c F k1 k3 (n+1) vs s=_)
def BE:Un->List Q2->Nat->Q2
 |.z,[k1,k3]=>mE c F k1 k3
 |_,_=>λ_=>iE
def Gq:O2:=bQ c F (BE c F) Jf.1 [x0] s
def Ua:=(by dsimp only[Gq,Jf, ↓BE,go_sem,Int.reduceOfNat,Int.reduceNegSucc]:Gq c F x0 s=_)
def jy:Sh:=(sq sl (sq (sq sl (sb (sp 0 [1,4] [(1,[2,3]),(2,[1])] (sq (sq sl (sc sl sl)) (sq (sb (sq (sq sl (sq sl (sc (sq sl sl) sl))) (sq (sq sl (sc (sq sl sl) sl)) (sq sl (sc (sq sl sl) sl))))) sl))))) (sq (sq sl (sb (sp 1 [1,6] [(1,[2,3]),(4,[])] (sq (sq sl (sc sl sl)) (sq (sb (sq sl (sq sl (sq (sq sl (sc (sq sl sl) sl)) (sq (sq sl (sc (sq sl sl) sl)) (sq (sq sl (sc (sq sl sl) sl)) (sq sl (sc (sq sl sl) sl)))))))) sl))))) (sq sl sl))))
def qQ:PX 137 jy:=⟨_,by conv=>lhs;reduce⟩
def qk:PL 137 jy 1:=⟨_,by conv=>lhs;reduce⟩
def fY(k1 k4:Q2):Nat->Q2
 |0,_,_=>none
 |n+1,vs,s=>fX c F b7 (fY k1 k4 n) [k1,k4] qk.1 vs s
def kC(k1 k4:Q2)(n:Nat)(vs:List AV)(s:St):=(by dsimp only[fY,qk,go_sem,Int.reduceOfNat]:fY c F k1 k4 (n+1) vs s=_)
def qm:PL 137 jy 0:=⟨_,by conv=>lhs;reduce⟩
def fZ(k1 k2:Q2):Nat->Q2
 |0,_,_=>none
 |n+1,vs,s=>fX c F b7 (fZ k1 k2 n) [k1,k2] qm.1 vs s
def oh(k1 k2:Q2)(n:Nat)(vs:List AV)(s:St):=(by dsimp only[fZ,qm,go_sem,Int.reduceOfNat]:fZ c F k1 k2 (n+1) vs s=_)
def lU:Un->List Q2->Nat->Q2
 |.z,[k1,k2]=>fZ c F k1 k2
 |(.s .z),[k1,k4]=>fY c F k1 k4
 |_,_=>λ_=>iE
def m8:O2:=bQ c F (lU c F) qQ.1 [x0] s
def qR:=(by dsimp only[m8,qQ, ↓lU,go_sem,Int.reduceOfNat]:m8 c F x0 s=_)
def sQ:Sh:=(sq sl (sq (sq sl (sb (sp 0 [0,1,5] [(1,[4]),(2,[])] (sq (sq sl (sc sl sl)) (sq (sb (sq sl (sc (sq sl sl) sl))) sl))))) (sq sl sl)))
def zP:PX 143 sQ:=⟨_,by conv=>lhs;reduce⟩
def yU:PL 143 sQ 0:=⟨_,by conv=>lhs;reduce⟩
def iP(k1 k2:Q2):Nat->Q2
 |0,_,_=>none
 |n+1,vs,s=>fX c F b7 (iP k1 k2 n) [k1,k2] yU.1 vs s
def v7(k1 k2:Q2)(n:Nat)(vs:List AV)(s:St):=(by dsimp only[iP,yU,go_sem,Int.reduceOfNat,Int.reduceNegSucc]:iP c F k1 k2 (n+1) vs s=_)
def sS:Un->List Q2->Nat->Q2
 |.z,[k1,k2]=>iP c F k1 k2
 |_,_=>λ_=>iE
def v8:O2:=bQ c F (sS c F) zP.1 [x0,x1] s
def Ky:=(by dsimp only[v8,zP, ↓sS,go_sem,Int.reduceOfNat,Int.reduceNegSucc]:v8 c F x0 x1 s=_)
def sU:Sh:=(sq sl (sq (sq sl (sc (sq sl sl) sl)) (sq (sq sl (sb (sp 0 [0,3] [(1,[2]),(2,[])] (sq (sq sl (sc sl sl)) (sq (sb (sq sl (sc (sq sl sl) sl))) sl))))) (sq sl sl))))
def zQ:PX 144 sU:=⟨_,by conv=>lhs;reduce⟩
def yV:PL 144 sU 0:=⟨_,by conv=>lhs;reduce⟩
def iQ(k1 k2:Q2):Nat->Q2
 |0,_,_=>none
 |n+1,vs,s=>fX c F b7 (iQ k1 k2 n) [k1,k2] yV.1 vs s
def v9(k1 k2:Q2)(n:Nat)(vs:List AV)(s:St):=(by dsimp only[iQ,yV,go_sem,Int.reduceOfNat]:iQ c F k1 k2 (n+1) vs s=_)
def sV:Un->List Q2->Nat->Q2
 |.z,[k1,k2]=>iQ c F k1 k2
 |_,_=>λ_=>iE
def we:O2:=bQ c F (sV c F) zQ.1 [x0] s
def Kz:=(by dsimp only[we,zQ, ↓sV,go_sem,Int.reduceOfNat]:we c F x0 s=_)
def wh:Sh:=(sq sl (sq (sq sl (sc (sq sl sl) sl)) (sq (sq sl (sb (sp 0 [0,10,11,12] [(1,[2,3]),(2,[])] (sq sl (sq (sc sl sl) (sq (sb (sq sl (sq (sq sl (sq sl (sc (sq sl sl) sl))) (sq sl (sc (sq sl sl) sl))))) sl)))))) (sq sl sl))))
def CX:PX 148 wh:=⟨_,by conv=>lhs;reduce⟩
def BI:PL 148 wh 0:=⟨_,by conv=>lhs;reduce⟩
def lV(k1 k2:Q2):Nat->Q2
 |0,_,_=>none
 |n+1,vs,s=>fX c F b7 (lV k1 k2 n) [k1,k2] BI.1 vs s
def qU(k1 k2:Q2)(n:Nat)(vs:List AV)(s:St):=(by dsimp only[lV,BI,go_sem,Int.reduceOfNat]:lV c F k1 k2 (n+1) vs s=_)
def wj:Un->List Q2->Nat->Q2
 |.z,[k1,k2]=>lV c F k1 k2
 |_,_=>λ_=>iE
def zp:O2:=bQ c F (wj c F) CX.1 [x0] s
def CY:=(by dsimp only[zp,CX, ↓wj,go_sem,Int.reduceOfNat]:zp c F x0 s=_)
def zR:Sh:=(sq sl (sq sl (sq sl sl)))
def zS:PX 150 zR:=⟨_,by conv=>lhs;reduce⟩
def wm:O2:=bQ c F b7 zS.1 [x0] s
def KA:=(by dsimp only[wm,zS,go_sem,Int.reduceOfNat]:wm c F x0 s=_)
def zT:Sh:=(sq sl (sq sl sl))
def zU:PX 169 zT:=⟨_,by conv=>lhs;reduce⟩
def wo:O2:=bQ c F b7 zU.1 [x0,x1] s
def KB:=(by dsimp only[wo,zU,go_sem,Int.reduceOfNat]:wo c F x0 x1 s=_)
def On:Sh:=(sq sl (sq sl sl))
def Oo:PX 170 On:=⟨_,by conv=>lhs;reduce⟩
def Mz:O2:=bQ c F b7 Oo.1 [x0,x1] s
def X9:=(by dsimp only[Mz,Oo,go_sem,Int.reduceOfNat]:Mz c F x0 x1 s=_)
def Dz:Sh:=(sq sl (sq (sq sl (sc (sq sl sl) sl)) (sq (sq sl (sb (sp 0 [0,13,14] [(1,[2]),(2,[])] (sq sl (sq (sc sl sl) (sq (sb (sq sl (sq sl (sc (sq sl sl) sl)))) sl)))))) (sq sl sl))))
def Lo:PX 171 Dz:=⟨_,by conv=>lhs;reduce⟩
def Jg:PL 171 Dz 0:=⟨_,by conv=>lhs;reduce⟩
def nN(k1 k2:Q2):Nat->Q2
 |0,_,_=>none
 |n+1,vs,s=>fX c F b7 (nN k1 k2 n) [k1,k2] Jg.1 vs s
def EE(k1 k2:Q2)(n:Nat)(vs:List AV)(s:St):=(by dsimp only[nN,Jg,go_sem,Int.reduceOfNat]:nN c F k1 k2 (n+1) vs s=_)
def DA:Un->List Q2->Nat->Q2
 |.z,[k1,k2]=>nN c F k1 k2
 |_,_=>λ_=>iE
def Jh:O2:=bQ c F (DA c F) Lo.1 [x0] s
def Vm:=(by dsimp only[Jh,Lo, ↓DA,go_sem,Int.reduceOfNat]:Jh c F x0 s=_)
def Lp:Sh:=(sq sl (sq sl (sq (sq sl (sc (sq sl sl) sl)) (sq sl sl))))
def Lq:PX 172 Lp:=⟨_,by conv=>lhs;reduce⟩
def Ji:O2:=bQ c F b7 Lq.1 [x0,x1] s
def Vn:=(by dsimp only[Ji,Lq,go_sem,Int.reduceOfNat]:Ji c F x0 x1 s=_)
def CZ:Sh:=(sq sl (sq (sq sl (sb (sq sl (sc (sq sl sl) (sq sl (sc (sq sl sl) (sq sl (sc (sq sl sl) (sq sl (sc (sq sl sl) sl)))))))))) (sq sl sl)))
def C2:PX 173 CZ:=⟨_,by conv=>lhs;reduce⟩
def zq:O2:=bQ c F b7 C2.1 [x0] s
def Oq:=(by dsimp only[zq,C2,go_sem,Int.reduceOfNat]:zq c F x0 s=_)
def DB:Sh:=(sq sl (sq (sq sl (sb (sp 0 [0,3] [(1,[2]),(2,[0])] (sq (sq sl (sc sl sl)) (sq (sb (sq sl (sc (sq sl sl) sl))) sl))))) (sq sl sl)))
def Lr:PX 184 DB:=⟨_,by conv=>lhs;reduce⟩
def Jj:PL 184 DB 0:=⟨_,by conv=>lhs;reduce⟩
def nO(k1 k2:Q2):Nat->Q2
 |0,_,_=>none
 |n+1,vs,s=>fX c F b7 (nO k1 k2 n) [k1,k2] Jj.1 vs s
def EF(k1 k2:Q2)(n:Nat)(vs:List AV)(s:St):=(by dsimp only[nO,Jj,go_sem,Int.reduceOfNat]:nO c F k1 k2 (n+1) vs s=_)
def DC:Un->List Q2->Nat->Q2
 |.z,[k1,k2]=>nO c F k1 k2
 |_,_=>λ_=>iE
def Jk:O2:=bQ c F (DC c F) Lr.1 [x0] s
def Vo:=(by dsimp only[Jk,Lr, ↓DC,go_sem,Int.reduceOfNat]:Jk c F x0 s=_)
def oM:Sh:=(sq sl (sq (sq sl (sc (sq sl sl) sl)) (sq (sq sl (sc (sq sl sl) sl)) (sq (sq sl (sc (sq sl sl) sl)) (sq (sq sl (sc (sq sl sl) sl)) (sq (sq sl (sb (sp 0 [1,3] [(1,[2]),(2,[])] (sq (sq sl (sc sl sl)) (sq (sb (sq sl (sc (sq sl sl) sl))) sl))))) (sq sl sl)))))))
def wq:PX 190 oM:=⟨_,by conv=>lhs;reduce⟩
def uY:PL 190 oM 0:=⟨_,by conv=>lhs;reduce⟩
def gC(k1 k2:Q2):Nat->Q2
 |0,_,_=>none
 |n+1,vs,s=>fX c F b7 (gC k1 k2 n) [k1,k2] uY.1 vs s
def sw(k1 k2:Q2)(n:Nat)(vs:List AV)(s:St):=(by dsimp only[gC,uY,go_sem,Int.reduceOfNat]:gC c F k1 k2 (n+1) vs s=_)
def oN:Un->List Q2->Nat->Q2
 |.z,[k1,k2]=>gC c F k1 k2
 |_,_=>λ_=>iE
def qV:O2:=bQ c F (oN c F) wq.1 [x0] s
def Gr:=(by dsimp only[qV,wq, ↓oN,go_sem,Int.reduceOfNat]:qV c F x0 s=_)
def uZ:Sh:=(sq sl (sq sl sl))
def u0:PX 191 uZ:=⟨_,by conv=>lhs;reduce⟩
def pW:O2:=bQ c F b7 u0.1 [x0,x1] s
def EG:=(by dsimp only[pW,u0,go_sem,Int.reduceOfNat]:pW c F x0 x1 s=_)
def iZ:Sh:=(sq sl (sq sl sl))
def ja:PX 196 iZ:=⟨_,by conv=>lhs;reduce⟩
def fH:O2:=bQ c F b7 ja.1 [x0,x1] s
def ob:=(by dsimp only[fH,ja,go_sem,Int.reduceOfNat]:fH c F x0 x1 s=_)
def zV:Sh:=(sq sl (sq sl sl))
def zW:PX 197 zV:=⟨_,by conv=>lhs;reduce⟩
def wu:O2:=bQ c F b7 zW.1 [x0,x1] s
def KC:=(by dsimp only[wu,zW,go_sem,Int.reduceOfNat]:wu c F x0 x1 s=_)
def wz:Sh:=(sq sl (sq sl (sq (sq sl (sb (sp 0 [1,5,14,15,16] [(1,[2,3,4]),(2,[1,5])] (sq sl (sq (sc sl sl) (sq (sb (sq sl (sq sl (sq sl (sc (sq sl sl) sl))))) sl)))))) (sq (sq sl (sb (sp 1 [1,5,30,31,32] [(1,[2,3,4]),(4,[5])] (sq sl (sq (sc sl sl) (sj [1,5,30,31,32] (sb (sq sl (sq sl (sj [1,5,9,11,30,31,32] (sq sl (sc sl sl)) (sq sl (sc (sq sl sl) sl)))))) sl)))))) (sq sl sl)))))
def Jl:PX 198 wz:=⟨_,by conv=>lhs;reduce⟩
def HC:PL 198 wz 1:=⟨_,by conv=>lhs;reduce⟩
def jM(k1 k4:Q2):Nat->Q2
 |0,_,_=>none
 |n+1,vs,s=>fX c F b7 (jM k1 k4 n) [k1,k4] HC.1 vs s
def qo(k1 k4:Q2)(n:Nat)(vs:List AV)(s:St):=(by dsimp only[jM,HC,go_sem,Int.reduceOfNat]:jM c F k1 k4 (n+1) vs s=_)
def HD:PL 198 wz 0:=⟨_,by conv=>lhs;reduce⟩
def iI(k1 k2:Q2):Nat->Q2
 |0,_,_=>none
 |n+1,vs,s=>fX c F b7 (iI k1 k2 n) [k1,k2] HD.1 vs s
def qp(k1 k2:Q2)(n:Nat)(vs:List AV)(s:St):=(by dsimp only[iI,HD,go_sem,Int.reduceOfNat]:iI c F k1 k2 (n+1) vs s=_)
def BJ:Un->List Q2->Nat->Q2
 |.z,[k1,k2]=>iI c F k1 k2
 |(.s .z),[k1,k4]=>jM c F k1 k4
 |_,_=>λ_=>iE
def wA:O2:=bQ c F (BJ c F) Jl.1 [x0] s
def Ub:=(by dsimp only[wA,Jl, ↓BJ,go_sem,Int.reduceOfNat]:wA c F x0 s=_)
def fR:Sh:=(sq sl (sq (sq sl (sb (sp 0 [0,1,7,8] [(1,[4]),(2,[])] (sq sl (sq (sc sl sl) (sq (sb (sq sl (sq sl (sc (sq sl sl) sl)))) sl)))))) (sq sl sl)))
def jY:PX 213 fR:=⟨_,by conv=>lhs;reduce⟩
def jN:PL 213 fR 0:=⟨_,by conv=>lhs;reduce⟩
def bW(k1 k2:Q2):Nat->Q2
 |0,_,_=>none
 |n+1,vs,s=>fX c F b7 (bW k1 k2 n) [k1,k2] jN.1 vs s
def jd(k1 k2:Q2)(n:Nat)(vs:List AV)(s:St):=(by dsimp only[bW,jN,go_sem,Int.reduceOfNat,Int.reduceNegSucc]:bW c F k1 k2 (n+1) vs s=_)
def fS:Un->List Q2->Nat->Q2
 |.z,[k1,k2]=>bW c F k1 k2
 |_,_=>λ_=>iE
def gP:O2:=bQ c F (fS c F) jY.1 [x0,x1] s
def pX:=(by dsimp only[gP,jY, ↓fS,go_sem,Int.reduceOfNat,Int.reduceNegSucc]:gP c F x0 x1 s=_)
def Jm:Sh:=(sq sl (sq sl sl))
def Jn:PX 214 Jm:=⟨_,by conv=>lhs;reduce⟩
def Gs:O2:=bQ c F b7 Jn.1 [x0,x1] s
def Uc:=(by dsimp only[Gs,Jn,go_sem,Int.reduceOfNat]:Gs c F x0 x1 s=_)
def fT:Sh:=(sq sl (sq (sq sl (sb (sp 0 [0,1,7,8] [(1,[4]),(2,[])] (sq sl (sq (sc sl sl) (sq (sb (sq sl (sq sl (sc (sq sl sl) sl)))) sl)))))) (sq sl sl)))
def jZ:PX 215 fT:=⟨_,by conv=>lhs;reduce⟩
def jO:PL 215 fT 0:=⟨_,by conv=>lhs;reduce⟩
def bX(k1 k2:Q2):Nat->Q2
 |0,_,_=>none
 |n+1,vs,s=>fX c F b7 (bX k1 k2 n) [k1,k2] jO.1 vs s
def je(k1 k2:Q2)(n:Nat)(vs:List AV)(s:St):=(by dsimp only[bX,jO,go_sem,Int.reduceOfNat,Int.reduceNegSucc]:bX c F k1 k2 (n+1) vs s=_)
def fU:Un->List Q2->Nat->Q2
 |.z,[k1,k2]=>bX c F k1 k2
 |_,_=>λ_=>iE
def gQ:O2:=bQ c F (fU c F) jZ.1 [x0,x1] s
def pY:=(by dsimp only[gQ,jZ, ↓fU,go_sem,Int.reduceOfNat,Int.reduceNegSucc]:gQ c F x0 x1 s=_)
def HE:Sh:=(sq sl (sq sl sl))
def HF:PX 216 HE:=⟨_,by conv=>lhs;reduce⟩
def DD:O2:=bQ c F b7 HF.1 [x0,x1] s
def RB:=(by dsimp only[DD,HF,go_sem,Int.reduceOfNat]:DD c F x0 x1 s=_)
def zX:Sh:=(sq sl (sq (sq sl (sc (sq sl sl) sl)) (sq sl sl)))
def zY:PX 217 zX:=⟨_,by conv=>lhs;reduce⟩
def wB:O2:=bQ c F b7 zY.1 [x0,x1] s
def KD:=(by dsimp only[wB,zY,go_sem,Int.reduceOfNat]:wB c F x0 x1 s=_)
def BK:Sh:=(sq sl (sq (sq sl (sc (sq sl sl) sl)) (sq sl sl)))
def BL:PX 222 BK:=⟨_,by conv=>lhs;reduce⟩
def xX:O2:=bQ c F b7 BL.1 [x0,x1] s
def MA:=(by dsimp only[xX,BL,go_sem,Int.reduceOfNat]:xX c F x0 x1 s=_)
def BM:Sh:=(sq sl (sq (sq sl (sc (sq sl sl) sl)) (sq sl sl)))
def BN:PX 227 BM:=⟨_,by conv=>lhs;reduce⟩
def xY:O2:=bQ c F b7 BN.1 [x0,x1] s
def MB:=(by dsimp only[xY,BN,go_sem,Int.reduceOfNat]:xY c F x0 x1 s=_)
def C3:Sh:=(sq sl (sq (sq sl (sc (sq sl sl) sl)) (sq sl sl)))
def C4:PX 232 C3:=⟨_,by conv=>lhs;reduce⟩
def zu:O2:=bQ c F b7 C4.1 [x0,x1] s
def Ot:=(by dsimp only[zu,C4,go_sem,Int.reduceOfNat]:zu c F x0 x1 s=_)
def Lt:Sh:=(sq sl (sq sl sl))
def Lu:PX 256 Lt:=⟨_,by conv=>lhs;reduce⟩
def Jo:O2:=bQ c F b7 Lu.1 [] s
def Vp:=(by dsimp only[Jo,Lu,go_sem,Int.reduceOfNat]:Jo c F s=_)
def BO:Sh:=(sq sl (sq (sq sl (sc (sq sl sl) sl)) (sq (sq sl (sq sl (sc (sq sl sl) sl))) (sq (sq sl (sq sl (sc (sq sl sl) sl))) (sq (sq sl (sc (sq sl sl) sl)) (sq sl (sq sl (sq sl sl))))))))
def BP:PX 257 BO:=⟨_,by conv=>lhs;reduce⟩
def rU:O2:=bQ c F b7 BP.1 [x0,x1] s
def oO:=(by dsimp only[rU,BP,go_sem,Int.reduceOfNat]:rU c F x0 x1 s=_)
def HG:Sh:=(sq sl (sq (sq sl (sq sl (sc (sq sl sl) sl))) (sq sl sl)))
def HH:PX 258 HG:=⟨_,by conv=>lhs;reduce⟩
def DE:O2:=bQ c F b7 HH.1 [x0,x1] s
def RD:=(by dsimp only[DE,HH,go_sem,Int.reduceOfNat]:DE c F x0 x1 s=_)
def uy:Sh:=(sq sl (sq (sq sl (sc (sq sl sl) sl)) (sq (sq sl (sc (sq sl sl) sl)) (sq (sq sl (sb (sp 0 [0,1,2,3,30,31,32] [(1,[8]),(2,[0,1,2,3])] (sq sl (sq (sc sl sl) (sq (sb (sq sl (sq sl (sq sl (sc (sq sl sl) sl))))) sl)))))) (sq sl (sq (sq sl (sc (sq sl sl) sl)) (sq (sq sl (sc (sq sl sl) sl)) (sq sl (sq sl sl)))))))))
def BQ:PX 259 uy:=⟨_,by conv=>lhs;reduce⟩
def zZ:PL 259 uy 0:=⟨_,by conv=>lhs;reduce⟩
def jH(k1 k2:Q2):Nat->Q2
 |0,_,_=>none
 |n+1,vs,s=>fX c F b7 (jH k1 k2 n) [k1,k2] zZ.1 vs s
def p9(k1 k2:Q2)(n:Nat)(vs:List AV)(s:St):=(by dsimp only[jH,zZ,go_sem,Int.reduceOfNat]:jH c F k1 k2 (n+1) vs s=_)
def uz:Un->List Q2->Nat->Q2
 |.z,[k1,k2]=>jH c F k1 k2
 |_,_=>λ_=>iE
def rV:O2:=bQ c F (uz c F) BQ.1 [x0,x1,x2,x3] s
def oP:=(by dsimp only[rV,BQ, ↓uz,go_sem,Int.reduceOfNat]:rV c F x0 x1 x2 x3 s=_)
def z6:Sh:=(sq sl (sq sl sl))
def z8:PX 297 z6:=⟨_,by conv=>lhs;reduce⟩
def wD:O2:=bQ c F b7 z8.1 [x0] s
def KE:=(by dsimp only[wD,z8,go_sem,Int.reduceOfNat]:wD c F x0 s=_)
def zw:Sh:=(sq sl (sq (sb (sq sl (sc (sq sl sl) (sq sl (sc (sq sl sl) (sq sl (sc (sq sl sl) (sq sl (sc (sq sl sl) sl))))))))) (sq (sq sl (sb (sp 0 [1,52,53,54] [(1,[2]),(3,[])] (sq sl (sq (sc sl sl) (sq (sb (sq sl (sq sl (sc (sq sl sl) sl)))) sl)))))) (sq sl sl))))
def HI:PX 298 zw:=⟨_,by conv=>lhs;reduce⟩
def EH:PL 298 zw 0:=⟨_,by conv=>lhs;reduce⟩
def lq(k1 k3:Q2):Nat->Q2
 |0,_,_=>none
 |n+1,vs,s=>fX c F b7 (lq k1 k3 n) [k1,k3] EH.1 vs s
def BR(k1 k3:Q2)(n:Nat)(vs:List AV)(s:St):=(by dsimp only[lq,EH,go_sem,Int.reduceOfNat]:lq c F k1 k3 (n+1) vs s=_)
def zx:Un->List Q2->Nat->Q2
 |.z,[k1,k3]=>lq c F k1 k3
 |_,_=>λ_=>iE
def DF:O2:=bQ c F (zx c F) HI.1 [x0] s
def RE:=(by dsimp only[DF,HI, ↓zx,go_sem,Int.reduceOfNat]:DF c F x0 s=_)
def EI:Sh:=(sq sl (sq sl (sq sl sl)))
def EJ:PX 299 EI:=⟨_,by conv=>lhs;reduce⟩
def BS:O2:=bQ c F b7 EJ.1 [x0] s
def Pu:=(by dsimp only[BS,EJ,go_sem,Int.reduceOfNat]:BS c F x0 s=_)
def z9:Sh:=(sq sl (sq sl sl))
def Aa:PX 300 z9:=⟨_,by conv=>lhs;reduce⟩
def wE:O2:=bQ c F b7 Aa.1 [x0,x1] s
def KF:=(by dsimp only[wE,Aa,go_sem,Int.reduceOfNat]:wE c F x0 x1 s=_)
def yW:Sh:=(sq sl (sq sl sl))
def yX:PX 301 yW:=⟨_,by conv=>lhs;reduce⟩
def uA:O2:=bQ c F b7 yX.1 [x0,x1,x2] s
def Jp:=(by dsimp only[uA,yX,go_sem,Int.reduceOfNat]:uA c F x0 x1 x2 s=_)
def mg:Sh:=(sq sl (sq sl (sq sl (sq (sq sl (sc (sq sl sl) sl)) (sq sl (sq (sq sl (sc (sq sl sl) sl)) (sq (sq sl (sc (sq sl (sq sl (sq sl (sq sl sl)))) sl)) (sq sl (sq (sq sl (sc (sq sl (sq sl (sq sl sl))) sl)) (sq sl (sq sl (sq sl sl))))))))))))
def mh:PX 302 mg:=⟨_,by conv=>lhs;reduce⟩
def jP:O2:=bQ c F b7 mh.1 [x0,x1,x2] s
def vq:=(by dsimp only[jP,mh,go_sem,Int.reduceOfNat]:jP c F x0 x1 x2 s=_)
def Jq:Sh:=(sq sl (sq sl sl))
def Jr:PX 303 Jq:=⟨_,by conv=>lhs;reduce⟩
def Gt:O2:=bQ c F b7 Jr.1 [x0,x1,x2] s
def Ud:=(by dsimp only[Gt,Jr,go_sem,Int.reduceOfNat]:Gt c F x0 x1 x2 s=_)
def BT:Sh:=(sq sl (sq (sq sl (sc (sq sl sl) sl)) (sq (sq sl (sb (sp 0 [0,13,14] [(1,[2]),(2,[])] (sq sl (sq (sc sl sl) (sq (sb (sq sl (sq sl (sc (sq sl sl) sl)))) sl)))))) (sq sl sl))))
def Js:PX 317 BT:=⟨_,by conv=>lhs;reduce⟩
def HJ:PL 317 BT 0:=⟨_,by conv=>lhs;reduce⟩
def mF(k1 k2:Q2):Nat->Q2
 |0,_,_=>none
 |n+1,vs,s=>fX c F b7 (mF k1 k2 n) [k1,k2] HJ.1 vs s
def C5(k1 k2:Q2)(n:Nat)(vs:List AV)(s:St):=(by dsimp only[mF,HJ,go_sem,Int.reduceOfNat]:mF c F k1 k2 (n+1) vs s=_)
def BU:Un->List Q2->Nat->Q2
 |.z,[k1,k2]=>mF c F k1 k2
 |_,_=>λ_=>iE
def Gu:O2:=bQ c F (BU c F) Js.1 [x0] s
def Ue:=(by dsimp only[Gu,Js, ↓BU,go_sem,Int.reduceOfNat]:Gu c F x0 s=_)
def Jt:Sh:=(sq sl (sq sl sl))
def Ju:PX 318 Jt:=⟨_,by conv=>lhs;reduce⟩
def Gv:O2:=bQ c F b7 Ju.1 [x0] s
def Uf:=(by dsimp only[Gv,Ju,go_sem,Int.reduceOfNat]:Gv c F x0 s=_)
def nP:Sh:=(sq sl (sq (sq sl (sc (sq sl sl) sl)) (sq sl sl)))
def nQ:PX 319 nP:=⟨_,by conv=>lhs;reduce⟩
def kK:O2:=bQ c F b7 nQ.1 [x0] s
def nR:=(by dsimp only[kK,nQ,go_sem,Int.reduceOfNat]:kK c F x0 s=_)
def sx:Sh:=(sq sl (sq sl sl))
def sy:PX 320 sx:=⟨_,by conv=>lhs;reduce⟩
def nS:O2:=bQ c F b7 sy.1 [x0,x1] s
def Cg:=(by dsimp only[nS,sy,go_sem,Int.reduceOfNat]:nS c F x0 x1 s=_)
def dH:Sh:=(sq sl (sq sl (sq sl (sq (sb (sp 0 [0,2,4,8,9,10] [(2,[0,2,4,8,9])] (sq (sq sl (sc sl sl)) (sb (sq sl (sq sl (sc sl sl))))))) (sq sl sl)))))
def gD:PX 321 dH:=⟨_,by conv=>lhs;reduce⟩
def gh:PL 321 dH 0:=⟨_,by conv=>lhs;reduce⟩
def aR(k2:Q2):Nat->Q2
 |0,_,_=>none
 |n+1,vs,s=>fX c F b7 (aR k2 n) [k2] gh.1 vs s
def c9(k2:Q2)(n:Nat)(vs:List AV)(s:St):=(by dsimp only[aR,gh,go_sem,Int.reduceOfNat]:aR c F k2 (n+1) vs s=_)
def dI:Un->List Q2->Nat->Q2
 |.z,[k2]=>aR c F k2
 |_,_=>λ_=>iE
def dR:O2:=bQ c F (dI c F) gD.1 [x0,x1,x2] s
def lu:=(by dsimp only[dR,gD, ↓dI,go_sem,Int.reduceOfNat]:dR c F x0 x1 x2 s=_)
end
section
variable{c:ai}(hc:Sem c)(F:Nat){x0 x1 x2 x3 x4 x5 x6 x7 x8 x9 Bv Bw:AV}{s:St}{r:AV×St}
include hc
theorem Pv(h:Gj c F x0 s=some r):c 72 [x0] s=some (tidy s r):=hc.o0 F I3 (by kernel_rfl) (by kernel_rfl) h
theorem EK(h:Gk c F x0 s=some r):c 77 [x0] s=some (tidy s r):=hc.o1 F (By c F) Bx (by kernel_rfl) (by kernel_rfl) (λ_ _ _=>by kernel_rfl) (λ_ _ _ _=>by kernel_rfl) (by kernel_rfl) h
theorem EL(h:Gl c F x0 x1 s=some r):c 86 [x0,x1] s=some (tidy s r):=hc.o1 F (BA c F) Bz (by kernel_rfl) (by kernel_rfl) (λ_ _ _=>by kernel_rfl) (λ_ _ _ _=>by kernel_rfl) (by kernel_rfl) h
theorem Px(h:Gm c F x0 s=some r):c 116 [x0] s=some (tidy s r):=hc.o0 F I9 (by kernel_rfl) (by kernel_rfl) h
theorem KG(h:zo c F x0 s=some r):c 117 [x0] s=some (tidy s r):=hc.o0 F CT (by kernel_rfl) (by kernel_rfl) h
theorem Py(h:Gn c F x0 s=some r):c 119 [x0] s=some (tidy s r):=hc.o1 F (BC c F) BB (by kernel_rfl) (by kernel_rfl) (λ_ _ _=>by kernel_rfl) (λ_ _ _ _=>by kernel_rfl) (by kernel_rfl) h
theorem Pz(h:Gp c F s=some r):c 120 [] s=some (tidy s r):=hc.o0 F Jc (by kernel_rfl) (by kernel_rfl) h
theorem HR(h:vZ c F x0 x1 x2 s=some r):c 121 [x0,x1,x2] s=some (tidy s r):=hc.o0 F zN (by kernel_rfl) (by kernel_rfl) h
theorem RF(h:Je c F x0 s=some r):c 125 [x0] s=some (tidy s r):=hc.o0 F Lm (by kernel_rfl) (by kernel_rfl) h
theorem PA(h:Gq c F x0 s=some r):c 129 [x0] s=some (tidy s r):=hc.o1 F (BE c F) BD (by kernel_rfl) (by kernel_rfl) (λ_ _ _=>by kernel_rfl) (λ_ _ _ _=>by kernel_rfl) (by kernel_rfl) h
theorem pL(h:m8 c F x0 s=some r):c 137 [x0] s=some (tidy s r):=hc.oL F (lU c F) jy 2 (by kernel_rfl) (λi hi=>match i,hi with|0,_=>eF 0 (by kernel_rfl) (λ_ _ _=>by kernel_rfl) (λ_ _ _ _=>by kernel_rfl)|1,_=>eF 1 (by kernel_rfl) (λ_ _ _=>by kernel_rfl) (λ_ _ _ _=>by kernel_rfl)|n+2,h=>absurd h (by omega)) (by kernel_rfl) h
theorem HS(h:v8 c F x0 x1 s=some r):c 143 [x0,x1] s=some (tidy s r):=hc.o1 F (sS c F) sQ (by kernel_rfl) (by kernel_rfl) (λ_ _ _=>by kernel_rfl) (λ_ _ _ _=>by kernel_rfl) (by kernel_rfl) h
theorem HT(h:we c F x0 s=some r):c 144 [x0] s=some (tidy s r):=hc.o1 F (sV c F) sU (by kernel_rfl) (by kernel_rfl) (λ_ _ _=>by kernel_rfl) (λ_ _ _ _=>by kernel_rfl) (by kernel_rfl) h
theorem Ab(h:zp c F x0 s=some r):c 148 [x0] s=some (tidy s r):=hc.o1 F (wj c F) wh (by kernel_rfl) (by kernel_rfl) (λ_ _ _=>by kernel_rfl) (λ_ _ _ _=>by kernel_rfl) (by kernel_rfl) h
theorem HU(h:wm c F x0 s=some r):c 150 [x0] s=some (tidy s r):=hc.o0 F zR (by kernel_rfl) (by kernel_rfl) h
theorem HV(h:wo c F x0 x1 s=some r):c 169 [x0,x1] s=some (tidy s r):=hc.o0 F zT (by kernel_rfl) (by kernel_rfl) h
theorem Ug(h:Mz c F x0 x1 s=some r):c 170 [x0,x1] s=some (tidy s r):=hc.o0 F On (by kernel_rfl) (by kernel_rfl) h
theorem RH(h:Jh c F x0 s=some r):c 171 [x0] s=some (tidy s r):=hc.o1 F (DA c F) Dz (by kernel_rfl) (by kernel_rfl) (λ_ _ _=>by kernel_rfl) (λ_ _ _ _=>by kernel_rfl) (by kernel_rfl) h
theorem RI(h:Ji c F x0 x1 s=some r):c 172 [x0,x1] s=some (tidy s r):=hc.o0 F Lp (by kernel_rfl) (by kernel_rfl) h
theorem KH(h:zq c F x0 s=some r):c 173 [x0] s=some (tidy s r):=hc.o0 F CZ (by kernel_rfl) (by kernel_rfl) h
theorem RJ(h:Jk c F x0 s=some r):c 184 [x0] s=some (tidy s r):=hc.o1 F (DC c F) DB (by kernel_rfl) (by kernel_rfl) (λ_ _ _=>by kernel_rfl) (λ_ _ _ _=>by kernel_rfl) (by kernel_rfl) h
theorem DG(h:qV c F x0 s=some r):c 190 [x0] s=some (tidy s r):=hc.o1 F (oN c F) oM (by kernel_rfl) (by kernel_rfl) (λ_ _ _=>by kernel_rfl) (λ_ _ _ _=>by kernel_rfl) (by kernel_rfl) h
theorem Ci(h:pW c F x0 x1 s=some r):c 191 [x0,x1] s=some (tidy s r):=hc.o0 F uZ (by kernel_rfl) (by kernel_rfl) h
theorem nD(h:fH c F x0 x1 s=some r):c 196 [x0,x1] s=some (tidy s r):=hc.o0 F iZ (by kernel_rfl) (by kernel_rfl) h
theorem HW(h:wu c F x0 x1 s=some r):c 197 [x0,x1] s=some (tidy s r):=hc.o0 F zV (by kernel_rfl) (by kernel_rfl) h
theorem PB(h:wA c F x0 s=some r):c 198 [x0] s=some (tidy s r):=hc.oL F (BJ c F) wz 2 (by kernel_rfl) (λi hi=>match i,hi with|0,_=>eF 0 (by kernel_rfl) (λ_ _ _=>by kernel_rfl) (λ_ _ _ _=>by kernel_rfl)|1,_=>eF 1 (by kernel_rfl) (λ_ _ _=>by kernel_rfl) (λ_ _ _ _=>by kernel_rfl)|n+2,h=>absurd h (by omega)) (by kernel_rfl) h
theorem oQ(h:gP c F x0 x1 s=some r):c 213 [x0,x1] s=some (tidy s r):=hc.o1 F (fS c F) fR (by kernel_rfl) (by kernel_rfl) (λ_ _ _=>by kernel_rfl) (λ_ _ _ _=>by kernel_rfl) (by kernel_rfl) h
theorem PC(h:Gs c F x0 x1 s=some r):c 214 [x0,x1] s=some (tidy s r):=hc.o0 F Jm (by kernel_rfl) (by kernel_rfl) h
theorem oR(h:gQ c F x0 x1 s=some r):c 215 [x0,x1] s=some (tidy s r):=hc.o1 F (fU c F) fT (by kernel_rfl) (by kernel_rfl) (λ_ _ _=>by kernel_rfl) (λ_ _ _ _=>by kernel_rfl) (by kernel_rfl) h
theorem Ou(h:DD c F x0 x1 s=some r):c 216 [x0,x1] s=some (tidy s r):=hc.o0 F HE (by kernel_rfl) (by kernel_rfl) h
theorem HX(h:wB c F x0 x1 s=some r):c 217 [x0,x1] s=some (tidy s r):=hc.o0 F zX (by kernel_rfl) (by kernel_rfl) h
theorem Jv(h:xX c F x0 x1 s=some r):c 222 [x0,x1] s=some (tidy s r):=hc.o0 F BK (by kernel_rfl) (by kernel_rfl) h
theorem Jw(h:xY c F x0 x1 s=some r):c 227 [x0,x1] s=some (tidy s r):=hc.o0 F BM (by kernel_rfl) (by kernel_rfl) h
theorem KI(h:zu c F x0 x1 s=some r):c 232 [x0,x1] s=some (tidy s r):=hc.o0 F C3 (by kernel_rfl) (by kernel_rfl) h
theorem RK(h:Jo c F s=some r):c 256 [] s=some (tidy s r):=hc.o0 F Lt (by kernel_rfl) (by kernel_rfl) h
theorem yY(h:rU c F x0 x1 s=some r):c 257 [x0,x1] s=some (tidy s r):=hc.o0 F BO (by kernel_rfl) (by kernel_rfl) h
theorem Ov(h:DE c F x0 x1 s=some r):c 258 [x0,x1] s=some (tidy s r):=hc.o0 F HG (by kernel_rfl) (by kernel_rfl) h
theorem qW(h:rV c F x0 x1 x2 x3 s=some r):c 259 [x0,x1,x2,x3] s=some (tidy s r):=hc.o1 F (uz c F) uy (by kernel_rfl) (by kernel_rfl) (λ_ _ _=>by kernel_rfl) (λ_ _ _ _=>by kernel_rfl) (by kernel_rfl) h
theorem HY(h:wD c F x0 s=some r):c 297 [x0] s=some (tidy s r):=hc.o0 F z6 (by kernel_rfl) (by kernel_rfl) h
theorem Ow(h:DF c F x0 s=some r):c 298 [x0] s=some (tidy s r):=hc.o1 F (zx c F) zw (by kernel_rfl) (by kernel_rfl) (λ_ _ _=>by kernel_rfl) (λ_ _ _ _=>by kernel_rfl) (by kernel_rfl) h
theorem MC(h:BS c F x0 s=some r):c 299 [x0] s=some (tidy s r):=hc.o0 F EI (by kernel_rfl) (by kernel_rfl) h
theorem HZ(h:wE c F x0 x1 s=some r):c 300 [x0,x1] s=some (tidy s r):=hc.o0 F z9 (by kernel_rfl) (by kernel_rfl) h
theorem Gw(h:uA c F x0 x1 x2 s=some r):c 301 [x0,x1,x2] s=some (tidy s r):=hc.o0 F yW (by kernel_rfl) (by kernel_rfl) h
theorem tH(h:jP c F x0 x1 x2 s=some r):c 302 [x0,x1,x2] s=some (tidy s r):=hc.o0 F mg (by kernel_rfl) (by kernel_rfl) h
theorem PD(h:Gt c F x0 x1 x2 s=some r):c 303 [x0,x1,x2] s=some (tidy s r):=hc.o0 F Jq (by kernel_rfl) (by kernel_rfl) h
theorem PE(h:Gu c F x0 s=some r):c 317 [x0] s=some (tidy s r):=hc.o1 F (BU c F) BT (by kernel_rfl) (by kernel_rfl) (λ_ _ _=>by kernel_rfl) (λ_ _ _ _=>by kernel_rfl) (by kernel_rfl) h
theorem PG(h:Gv c F x0 s=some r):c 318 [x0] s=some (tidy s r):=hc.o0 F Jt (by kernel_rfl) (by kernel_rfl) h
theorem mN(h:kK c F x0 s=some r):c 319 [x0] s=some (tidy s r):=hc.o0 F nP (by kernel_rfl) (by kernel_rfl) h
theorem At(h:nS c F x0 x1 s=some r):c 320 [x0,x1] s=some (tidy s r):=hc.o0 F sx (by kernel_rfl) (by kernel_rfl) h
theorem kT(h:dR c F x0 x1 x2 s=some r):c 321 [x0,x1,x2] s=some (tidy s r):=hc.o1 F (dI c F) dH (by kernel_rfl) (by kernel_rfl) (λ_ _ _=>by kernel_rfl) (λ_ _ _ _=>by kernel_rfl) (by kernel_rfl) h
end
end
section
open Go Go.Ai Go.Proofs
variable{c:ai}
def eP(s:List Nat):Bool:=decide (1<=s.length)&&decide (s.length<=12)&&s.all λc=>decide (97<=c/\c<=122)
theorem adG(s:List Nat)(hs:s.length<=12)(F:Nat)(st:St)(k1 k2):∀(m k:Nat),s.length<=k+m->k<=s.length->
  iQ c F k1 k2 (m+1) [.str s,.int .i64 (k:Int)] st=if(s.drop k).all (λc=>decide (97<=c/\c<=122))=true then k2 [] st else k1 [.bool false] st:=by
 intro m;induction m with
 |zero=>
  intro k h1 h2;rw[v9];obtain rfl:k=s.length:=by omega
  simp
 |succ m ih=>
  intro k h1 h2;rw[v9];by_cases h:k<s.length
  . have e:s.drop k=s[k]::s.drop (k+1):=Zc7 h;have:=ih (k+1) (by omega) (by omega);have w:aq .i64 ((k:Int)+1)=((k+1:Nat):Int):=wrap64 (by omega) (by omega);rw[e,Zo2];generalize (s.drop (k+1)).all _=rest at this ⊢;by_cases h3:(s[k]:Int)<97
    .   have h5:decide (97<=s[k]/\s[k]<=122)=false:=(by simp;omega);simp[h,h3,h5]
    .   by_cases h4:122<(s[k]:Int)
        .have h5:decide (97<=s[k]/\s[k]<=122)=false:=(by simp;omega);simp[h,h3,h4,h5]
        .have h5:decide (97<=s[k]/\s[k]<=122)=true:=(by simp;omega);rw[h5,Zf4, <-this];simp[h,h3,h4,w]
  .obtain rfl:k=s.length:=(by omega);simp
theorem EN(hc:Sem c)(s:List Nat)(st:St):c 144 [.str s] st=some (.bool (eP s),st):=by
 rw[HT hc (s.length+1) (r:=(.bool (eP s),st)),aG (Plain.bool _) (bt.refl st)];rw[Kz];by_cases h0:(s.length:Int)<1
 .have h1:¬1<=s.length:=(by omega);simp[eP,h0,h1]
 . by_cases h1:12<(s.length:Int)
   .have h2:¬s.length<=12:=(by omega);simp[eP,h0,h1,h2]
   . have h2:s.length<=12:=(by omega);have h3:1<=s.length:=(by omega);have L:∀k1 k2,iQ c (s.length+1) k1 k2 (s.length+1) [.str s,.int .i64 0] st=if(s.drop 0).all (λc=>decide (97<=c/\c<=122))=true then k2 [] st else k1 [.bool false] st:=
        λk1 k2=>adG (c:=c) s h2 (s.length+1) st k1 k2 s.length 0 (by omega) (by omega)
     rw[Ze3]at L;have e:eP s=s.all λc=>decide (97<=c/\c<=122):=(by simp[eP,h2,h3]);rw[e];generalize (s.all _)=b at L ⊢;simp[h0,h1,L];cases b<;>simp
structure aU where
 name:List Nat
 sh:Int
 a:Int
 b:Int
 oz:Bool
 pM:List Int
 x:Int
 y:Int
def ints(z:Bool)(l:List Int):AV:=ro 1 z (l.map λi=>[.int .i64 i])
def aU.cells(t:aU):List AV:=[.str t.name,.int .u8 t.sh,.int .i64 t.a,.int .i64 t.b,ints t.oz t.pM,.int .i64 t.x,.int .i64 t.y]
@[simp] theorem abZ(z:Bool)(l:List Int):(ints z l).one=true:=ZZ _ _ _
def eD(t:aU):Int:=
 if t.sh=1 then(if 1<=t.a/\t.a<=24/\t.b=0 then t.a else 0)
 else if t.sh=2 then(if 1<=t.a/\t.a<=11/\0<=t.b/\t.b<=2 then 2*t.a+t.b else 0)
 else if t.sh=3 then(if 1<=t.a/\t.a<=8/\1<=t.b/\t.b<=8 then t.a+2*t.b else 0)
 else if t.sh=4 then(if 1<=t.a/\t.a<=24/\0<=t.b/\t.b<=t.a then t.a else 0)
 else 0
theorem RL(hc:Sem c)(a b:Int)(st:St):c 217 [.int .i64 a,.int .i64 b] st=some (.int .i64 (if 1<=a/\a<=24/\b=0 then a else 0),st):=by
 rw[HX hc 1 (r:=(.int .i64 (if 1<=a/\a<=24/\b=0 then a else 0),st)),aG (Plain.int _ _) (bt.refl st)];rw[KD];by_cases h1:a<1
 .have:¬1<=a:=(by omega);simp[h1,this]
 . by_cases h2:24<a
   .have:¬a<=24:=(by omega);simp[h1,h2,this]
   .have h3:1<=a:=(by omega);have h4:a<=24:=(by omega);by_cases h5:b=0<;>simp[h1,h2,h3,h4,h5]
theorem Uh(hc:Sem c)(a b:Int)(st:St):c 222 [.int .i64 a,.int .i64 b] st=some (.int .i64 (if 1<=a/\a<=11/\0<=b/\b<=2 then 2*a+b else 0),st):=by
 rw[Jv hc 1 (r:=(.int .i64 (if 1<=a/\a<=11/\0<=b/\b<=2 then 2*a+b else 0),st)),aG (Plain.int _ _) (bt.refl st)];rw[MA];by_cases h1:a<1
 .have:¬1<=a:=(by omega);simp[h1,this]
 by_cases h2:11<a
 .have:¬a<=11:=(by omega);simp[h1,h2,this]
 by_cases h3:b<0
 .have:¬0<=b:=(by omega);simp[h1,h2,h3,this]
 by_cases h4:2<b
 .have:¬b<=2:=(by omega);simp[h1,h2,h3,h4,this]
 have h5:1<=a:=by omega
 have h6:a<=11:=by omega
 have h7:0<=b:=by omega
 have h8:b<=2:=by omega
 have w1:aq .i64 (2*a)=2*a:=wrap64 (by omega) (by omega);have w2:aq .i64 (2*a+b)=2*a+b:=wrap64 (by omega) (by omega);simp[h1,h2,h3,h4,h5,h6,h7,h8,w1,w2]
theorem Ui(hc:Sem c)(a b:Int)(st:St):c 227 [.int .i64 a,.int .i64 b] st=some (.int .i64 (if 1<=a/\a<=8/\1<=b/\b<=8 then a+2*b else 0),st):=by
 rw[Jw hc 1 (r:=(.int .i64 (if 1<=a/\a<=8/\1<=b/\b<=8 then a+2*b else 0),st)),aG (Plain.int _ _) (bt.refl st)];rw[MB];by_cases h1:a<1
 .have:¬1<=a:=(by omega);simp[h1,this]
 by_cases h2:8<a
 .have:¬a<=8:=(by omega);simp[h1,h2,this]
 by_cases h3:b<1
 .have:¬1<=b:=(by omega);simp[h1,h2,h3,this]
 by_cases h4:8<b
 .have:¬b<=8:=(by omega);simp[h1,h2,h3,h4,this]
 have h5:1<=a:=by omega
 have h6:a<=8:=by omega
 have h7:1<=b:=by omega
 have h8:b<=8:=by omega
 have w1:aq .i64 (2*b)=2*b:=wrap64 (by omega) (by omega);have w2:aq .i64 (a+2*b)=a+2*b:=wrap64 (by omega) (by omega);simp[h1,h2,h3,h4,h5,h6,h7,h8,w1,w2]
theorem Vq(hc:Sem c)(a b:Int)(st:St):c 232 [.int .i64 a,.int .i64 b] st=some (.int .i64 (if 1<=a/\a<=24/\0<=b/\b<=a then a else 0),st):=by
 rw[KI hc 1 (r:=(.int .i64 (if 1<=a/\a<=24/\0<=b/\b<=a then a else 0),st)),aG (Plain.int _ _) (bt.refl st)];rw[Ot];by_cases h1:a<1
 .have:¬1<=a:=(by omega);simp[h1,this]
 by_cases h2:24<a
 .have:¬a<=24:=(by omega);simp[h1,h2,this]
 by_cases h3:b<0
 .have:¬0<=b:=(by omega);simp[h1,h2,h3,this]
 by_cases h4:a<b
 .have:¬b<=a:=(by omega);simp[h1,h2,h3,h4,this]
 have h5:1<=a:=by omega
 have h6:a<=24:=by omega
 have h7:0<=b:=by omega
 have h8:b<=a:=by omega
 simp[h1,h2,h3,h4,h5,h6,h7,h8]
def qX(sh:Int):List AV:=
 if sh=1 then [.str [114,111,117,110,100],.func 217 [] [],.func 218 [] [],.func 219 [] [],.func 220 [] [],.func 221 [] []]
 else if sh=2 then [.str [108,111,110,103],.func 222 [] [],.func 223 [] [],.func 224 [] [],.func 225 [] [],.func 226 [] []]
 else if sh=3 then [.str [104,111,114,115,101,115,104,111,101],.func 227 [] [],.func 228 [] [],.func 229 [] [],.func 230 [] [],.func 231 [] []]
 else if sh=4 then [.str [114,111,119],.func 232 [] [],.func 233 [] [],.func 234 [] [],.func 235 [] [],.func 236 [] []]
 else [.str [],.jk,.jk,.jk,.jk,.jk]
theorem plain_fn(f:Nat):Plain (.func f [] []):=Plain.func f (by simp) (by simp)
theorem aai(sh:Int):∀v∈qX sh,Plain v:=by
 unfold qX;intro v hv
 repeat' split at hv
 all_goals
  simp only[Zb1,Ze6,Zj6]at hv;rcases hv with rfl|rfl|rfl|rfl|rfl|rfl<;>first|exact Plain.str _|exact Plain.jk|exact plain_fn _
theorem tI(hc:Sem c)(sh:Int)(st:St)(hw:Wf st):c 173 [.int .u8 sh] st=some (.tuple [.agg (qX sh),.bool (decide (1<=sh/\sh<=4))],st):=by
 have hp:Plain (.tuple [.agg (qX sh),.bool (decide (1<=sh/\sh<=4))]):=Plain.tuple λv hv=>by
   simp only[Zb1,Ze6,Zj6]at hv;rcases hv with rfl|rfl
   .exact Plain.agg (aai sh)
   .exact Plain.bool _
 rw[KH hc 1 (r:=(.tuple [.agg (qX sh),.bool (decide (1<=sh/\sh<=4))],ah st (.cells (qX sh) 0))),aG hp (cw hw)];rw[Oq];by_cases h1:sh=1
 .subst h1;simp[qX,AV.cells,aL,AV.one,bV,cj,aF,di]
 by_cases h2:sh=2
 .subst h2;simp[qX,AV.cells,aL,AV.one,bV,cj,aF,di]
 by_cases h3:sh=3
 .subst h3;simp[qX,AV.cells,aL,AV.one,bV,cj,aF,di]
 by_cases h4:sh=4
 .subst h4;simp[qX,AV.cells,aL,AV.one,bV,cj,aF,di]
 have h5:decide (1<=sh/\sh<=4)=false:=by simp;omega
 rw[h5];simp[qX,AV.cells,aL,AV.one,bV,cj,aF,di,h1,h2,h3,h4]
theorem PI(hc:Sem c)(t:aU)(st:St)(hw:Wf st):c 125 [.agg t.cells] st=some (.int .i64 (eD t),st):=by
 rw[RF hc 1 (r:=(.int .i64 (eD t),ah (ah st (.cells t.cells 0)) (.cells (qX t.sh) 0))),aG (Plain.int _ _) ((cw hw).trans (cw (bK hw)))];rw[Vl];obtain⟨name,sh,a,b,oz,pM,x,y⟩:=t;by_cases h1:sh=1
 .subst h1;simp[aU.cells,AV.cells,tI hc,hw,eD,qX,aL,AV.one,RL hc]
 by_cases h2:sh=2
 .subst h2;simp[aU.cells,AV.cells,tI hc,hw,eD,qX,aL,AV.one,Uh hc]
 by_cases h3:sh=3
 .subst h3;simp[aU.cells,AV.cells,tI hc,hw,eD,qX,aL,AV.one,Ui hc]
 by_cases h4:sh=4
 .subst h4;simp[aU.cells,AV.cells,tI hc,hw,eD,qX,aL,AV.one,Vq hc]
 have h5:decide (1<=sh/\sh<=4)=false:=by simp;omega
 simp[aU.cells,AV.cells,tI hc,hw,eD,qX,aL,AV.one,h1,h2,h3,h4,h5]
def nU:Nat:=9223372036854775808
theorem Ox(s:List Nat)(hs:s.length<=12)(F:Nat)(st:St)(k1 k2):∀(m k:Nat),s.length<=k+m->k<=s.length->
  mF c F k1 k2 (m+1) [.str s,.int .i64 (s.length:Int),.int .i64 (k:Int)] st=if(s.drop k).all (λc=>decide (97<=c/\c<=122))=true then k2 [] st else k1 [.bool false] st:=by
 intro m;induction m with
 |zero=>
  intro k h1 h2;rw[C5];obtain rfl:k=s.length:=by omega
  simp
 |succ m ih=>
  intro k h1 h2;rw[C5];by_cases h:k<s.length
  . have e:s.drop k=s[k]::s.drop (k+1):=Zc7 h;have:=ih (k+1) (by omega) (by omega);have w:aq .i64 ((k:Int)+1)=((k+1:Nat):Int):=wrap64 (by omega) (by omega);rw[e,Zo2];generalize (s.drop (k+1)).all _=rest at this ⊢;by_cases h3:(s[k]:Int)<97
    .   have h5:decide (97<=s[k]/\s[k]<=122)=false:=(by simp;omega);simp[h,h3,h5]
    .   by_cases h4:122<(s[k]:Int)
        .have h5:decide (97<=s[k]/\s[k]<=122)=false:=(by simp;omega);simp[h,h3,h4,h5]
        .have h5:decide (97<=s[k]/\s[k]<=122)=true:=(by simp;omega);rw[h5,Zf4, <-this];simp[h,h3,h4,w]
  .obtain rfl:k=s.length:=(by omega);simp
theorem zA(hc:Sem c)(s:List Nat)(st:St):c 317 [.str s] st=some (.bool (eP s),st):=by
 rw[PE hc (s.length+1) (r:=(.bool (eP s),st)),aG (Plain.bool _) (bt.refl st)];rw[Ue];by_cases h0:(s.length:Int)=0
 .have h1:¬1<=s.length:=(by omega);have h2:s=[]:=Zb2 (by omega);subst h2;simp[eP]
 . by_cases h1:12<(s.length:Int)
   .have h2:¬s.length<=12:=(by omega);have h3:¬s=[]:=(by intro e;subst e;simp at h0);simp[eP,h1,h2,h3]
   . have h2:s.length<=12:=(by omega);have h3:1<=s.length:=(by omega);have h4:¬s=[]:=(by intro e;subst e;simp at h0);have L:∀k1 k2,mF c (s.length+1) k1 k2 (s.length+1) [.str s,.int .i64 (s.length:Int),.int .i64 0] st=if(s.drop 0).all (λc=>decide (97<=c/\c<=122))=true then k2 [] st else k1 [.bool false] st:=
        λk1 k2=>Ox (c:=c) s h2 (s.length+1) st k1 k2 s.length 0 (by omega) (by omega)
     rw[Ze3]at L;have e:eP s=s.all λc=>decide (97<=c/\c<=122):=(by simp[eP,h2,h3]);rw[e];generalize (s.all _)=b at L ⊢;simp[h1,h4,L];cases b<;>simp
theorem PJ(s:List Nat)(hs:s.length<=12)(F:Nat)(st:St)(k1 k2):∀(m k:Nat),s.length<=k+m->k<=s.length->
  nN c F k1 k2 (m+1) [.str s,.int .i64 (s.length:Int),.int .i64 (k:Int)] st=if(s.drop k).all (λc=>decide (97<=c/\c<=122))=true then k2 [] st else k1 [.bool false] st:=by
 intro m;induction m with
 |zero=>
  intro k h1 h2;rw[EE];obtain rfl:k=s.length:=by omega
  simp
 |succ m ih=>
  intro k h1 h2;rw[EE];by_cases h:k<s.length
  . have e:s.drop k=s[k]::s.drop (k+1):=Zc7 h;have:=ih (k+1) (by omega) (by omega);have w:aq .i64 ((k:Int)+1)=((k+1:Nat):Int):=wrap64 (by omega) (by omega);rw[e,Zo2];generalize (s.drop (k+1)).all _=rest at this ⊢;by_cases h3:(s[k]:Int)<97
    .   have h5:decide (97<=s[k]/\s[k]<=122)=false:=(by simp;omega);simp[h,h3,h5]
    .   by_cases h4:122<(s[k]:Int)
        .have h5:decide (97<=s[k]/\s[k]<=122)=false:=(by simp;omega);simp[h,h3,h4,h5]
        .have h5:decide (97<=s[k]/\s[k]<=122)=true:=(by simp;omega);rw[h5,Zf4, <-this];simp[h,h3,h4,w]
  .obtain rfl:k=s.length:=(by omega);simp
theorem Uj(hc:Sem c)(s:List Nat)(st:St):c 171 [.str s] st=some (.bool (eP s),st):=by
 rw[RH hc (s.length+1) (r:=(.bool (eP s),st)),aG (Plain.bool _) (bt.refl st)];rw[Vm];by_cases h0:(s.length:Int)=0
 .have h1:¬1<=s.length:=(by omega);have h2:s=[]:=Zb2 (by omega);subst h2;simp[eP]
 . by_cases h1:12<(s.length:Int)
   .have h2:¬s.length<=12:=(by omega);have h3:¬s=[]:=(by intro e;subst e;simp at h0);simp[eP,h1,h2,h3]
   . have h2:s.length<=12:=(by omega);have h3:1<=s.length:=(by omega);have h4:¬s=[]:=(by intro e;subst e;simp at h0);have L:∀k1 k2,nN c (s.length+1) k1 k2 (s.length+1) [.str s,.int .i64 (s.length:Int),.int .i64 0] st=if(s.drop 0).all (λc=>decide (97<=c/\c<=122))=true then k2 [] st else k1 [.bool false] st:=
        λk1 k2=>PJ (c:=c) s h2 (s.length+1) st k1 k2 s.length 0 (by omega) (by omega)
     rw[Ze3]at L;have e:eP s=s.all λc=>decide (97<=c/\c<=122):=(by simp[eP,h2,h3]);rw[e];generalize (s.all _)=b at L ⊢;simp[h1,h4,L];cases b<;>simp
theorem PM(s:List Nat)(hs:s.length<nU)(F:Nat)(st:St)(k1 k2):∀(m k:Nat),s.length<=k+m->k<=s.length->
  nO c F k1 k2 (m+1) [.str s,.int .i64 (k:Int)] st=if(s.drop k).all (λc=>decide (97<=c/\c<=122))=true then k2 [.str s] st else k1 [.bool false] st:=by
 intro m;induction m with
 |zero=>
  intro k h1 h2;rw[EF];obtain rfl:k=s.length:=by omega
  simp
 |succ m ih=>
  intro k h1 h2;rw[EF];by_cases h:k<s.length
  . have e:s.drop k=s[k]::s.drop (k+1):=Zc7 h;have:=ih (k+1) (by omega) (by omega);have w:aq .i64 ((k:Int)+1)=((k+1:Nat):Int):=wrap64 (by omega) (by unfold nU at hs;omega);rw[e,Zo2];generalize (s.drop (k+1)).all _=rest at this ⊢;by_cases h3:(s[k]:Int)<97
    .   have h5:decide (97<=s[k]/\s[k]<=122)=false:=(by simp;omega);simp[h,h3,h5]
    .   by_cases h4:122<(s[k]:Int)
        .have h5:decide (97<=s[k]/\s[k]<=122)=false:=(by simp;omega);simp[h,h3,h4,h5]
        .have h5:decide (97<=s[k]/\s[k]<=122)=true:=(by simp;omega);rw[h5,Zf4, <-this];simp[h,h3,h4,w]
  .obtain rfl:k=s.length:=(by omega);simp
theorem Uk(hc:Sem c)(s:List Nat)(hs:s.length<nU)(st:St):c 184 [.str s] st=some (.bool (eP s),st):=by
 rw[RJ hc (s.length+1) (r:=(.bool (eP s),st)),aG (Plain.bool _) (bt.refl st)];rw[Vo];have L:∀k1 k2,nO c (s.length+1) k1 k2 (s.length+1) [.str s,.int .i64 0] st=if(s.drop 0).all (λc=>decide (97<=c/\c<=122))=true then k2 [.str s] st else k1 [.bool false] st:=
   λk1 k2=>PM (c:=c) s hs (s.length+1) st k1 k2 s.length 0 (by omega) (by omega)
 rw[Ze3]at L;have e:eP s=(decide (1<=s.length)&&decide (s.length<=12)&&s.all λc=>decide (97<=c/\c<=122)):=rfl;rw[e];generalize (s.all _)=b at L ⊢;simp[L];cases b
 .simp
 . by_cases h1:(1:Int)<=s.length
   . have h2:1<=s.length:=(by omega);by_cases h3:(s.length:Int)<=12
     .  have h4:s.length<=12:=(by omega);simp[h1,h2,h3,h4]
     .  have h4:¬s.length<=12:=(by omega);simp[h1,h2,h3,h4]
   .have h2:¬1<=s.length:=(by omega);simp[h1,h2]
def ki(s:List Nat):Bool:=decide (s=[])||eP s
theorem zB(hc:Sem c)(s:List Nat)(st:St):c 318 [.str s] st=some (.bool (ki s),st):=by
 rw[PG hc 1 (r:=(.bool (ki s),st)),aG (Plain.bool _) (bt.refl st)];rw[Uf];by_cases h:s=[]<;>simp[h,ki,zA hc]
def Gx(n last:Int):List Int->Bool
 |[]=>true
 |k::l=>decide (last<k)&&decide (k<n)&&Gx n k l
def sY(t:aU):Int:=
 if eP t.name=false then 4 else if eD t=0 then 10 else if Gx (eD t) (-1) t.pM=false then 11
 else if 0<=t.x/\t.x<=1000/\0<=t.y/\t.y<=1000 then 0 else 2
structure aU.Ok(t:aU):Prop where
 name:t.name.length<nU
 pM:t.pM.length<nU
theorem ab0(l:List Int)(k:Nat)(h:k<l.length):((l.map λi=>[AV.int .i64 i])[k]?.bind λcs=>cs[0]?)=some (.int .i64 l[k]):=by
 simp[Zc1,H5 h]
theorem Oy(p:Pos)(n:Int)(z:Bool)(l:List Int)(hl:l.length<nU)(F:Nat)(st:St)(k1 k3):∀(m k:Nat)(last:Int),l.length<=k+m->k<=l.length->
  mE c F k1 k3 (m+1) [.ptr p 0,.int .i64 n,.int .i64 last,ints z l,.int .i64 (l.length:Int),.int .i64 (k:Int)] st=if Gx n last (l.drop k)=true then k3 [.ptr p 0] st else k1 [.int .i64 11] st:=by
 intro m;induction m with
 |zero=>
  intro k last h1 h2;rw[CW];obtain rfl:k=l.length:=by omega
  simp[Gx]
 |succ m ih=>
  intro k last h1 h2;rw[CW];by_cases h:k<l.length
  . have e:l.drop k=l[k]::l.drop (k+1):=Zc7 h;have:=ih (k+1) l[k] (by omega) (by omega);have w:aq .i64 ((k:Int)+1)=((k+1:Nat):Int):=wrap64 (by omega) (by unfold nU at hl;omega);have g:=ab0 l k h;rw[e,Gx];generalize Gx n l[k] (l.drop (k+1))=rest at this ⊢;by_cases h3:l[k]<=last
    .   have h4:¬last<l[k]:=(by omega);simp[ints,h,h3,h4,g]
    .   have h4:last<l[k]:=(by omega);by_cases h5:n<=l[k]
        .have h6:¬l[k]<n:=(by omega);simp[ints,h,h3,h4,h5,h6,g]
        .have h6:l[k]<n:=(by omega);simp only[h4,h6,Zg2,Zf4];rw[<-this];simp[ints,h,h3,h4,h5,h6,g,w]
  .obtain rfl:k=l.length:=(by omega);simp[Gx]
theorem ab1(hc:Sem c)(t:aU)(ht:t.Ok)(st:St)(hw:Wf st):c 129 [.agg t.cells] st=some (.int .i64 (sY t),st):=by
 rw[PA hc (t.pM.length+1) (r:=(.int .i64 (sY t),ah st (.cells t.cells 0))),aG (Plain.int _ _) (cw hw)];rw[Ua];have hs:=PI hc t (ah st (.cells t.cells 0)) (bK hw);have hn:=Uk hc t.name ht.name;have hg:(ah st (.cells t.cells 0)).heap.get st.next=some (.cells t.cells 0):=aD _ _;have c0:t.cells[0]? =some (.str t.name):=rfl;have c4:t.cells[4]? =some (ints t.oz t.pM):=rfl;have c5:t.cells[5]? =some (.int .i64 t.x):=rfl;have c6:t.cells[6]? =some (.int .i64 t.y):=rfl;have cc:cut t.cells 0 7=some t.cells:=bV rfl
 have L:∀k1 k3,mE c (t.pM.length+1) k1 k3 (t.pM.length+1) [.ptr st.next 0,.int .i64 (eD t),.int .i64 (-1),ints t.oz t.pM,.int .i64 (t.pM.length:Int),.int .i64 0] (ah st (.cells t.cells 0))=
     if Gx (eD t) (-1) (t.pM.drop 0)=true then k3 [.ptr st.next 0] (ah st (.cells t.cells 0))else k1 [.int .i64 11] (ah st (.cells t.cells 0)):=
   λk1 k3=>Oy st.next (eD t) t.oz t.pM ht.pM _ _ k1 k3 t.pM.length 0 (-1) (by omega) (by omega)
 rw[Ze3]at L;have lI:∀(K:AV->St->Option (AV×St))(s:St),ak c (.lenB .l) [ints t.oz t.pM] s K=K (.int .i64 (t.pM.length:Int)) s:=λK s=>by unfold ints;rw[kJ];simp
 unfold sY;generalize t.cells=tc at*
 generalize eD t=sz at*
 generalize Gx sz (-1) t.pM=op at*
 by_cases h1:eP t.name=true
 . by_cases h2:sz=0
   .simp[AV.cells,hs,hn,hg,c0,cc,h1,h2]
   . cases op
     .  simp[AV.cells,hs,hn,hg,c0,c4,cc,h1,h2,lI,L]
     .  by_cases h3:t.x<0
        .have:¬0<=t.x:=(by omega);simp[AV.cells,hs,hn,hg,c0,c4,c5,c6,cc,h1,h2,lI,L,h3,this]
        by_cases h4:1000<t.x
        .have:¬t.x<=1000:=(by omega);simp[AV.cells,hs,hn,hg,c0,c4,c5,c6,cc,h1,h2,lI,L,h3,h4,this]
        by_cases h5:t.y<0
        .have:¬0<=t.y:=(by omega);simp[AV.cells,hs,hn,hg,c0,c4,c5,c6,cc,h1,h2,lI,L,h3,h4,h5,this]
        by_cases h6:1000<t.y
        .have:¬t.y<=1000:=(by omega);simp[AV.cells,hs,hn,hg,c0,c4,c5,c6,cc,h1,h2,lI,L,h3,h4,h5,h6,this]
        have h7:0<=t.x:=(by omega);have h8:t.x<=1000:=(by omega);have h9:0<=t.y:=(by omega);have h10:t.y<=1000:=(by omega);simp[AV.cells,hs,hn,hg,c0,c4,c5,c6,cc,h1,h2,lI,L,h3,h4,h5,h6,h7,h8,h9,h10]
 .simp[AV.cells,hs,hn,hg,c0,cc,h1]
theorem EO(t:aU):0<=eD t/\eD t<=1000:=by
 unfold eD;repeat' split
 all_goals omega
def scan(P:Nat->Bool):Nat->Nat->Int
 |0,_=> -1
 |m+1,k=>if P k=true then(k:Int)else scan P m (k+1)
theorem Kq(P:Nat->Bool):∀(m k:Nat),-1<=scan P m k/\(scan P m k<0->scan P m k= -1)
 |0,_=>by simp[scan]
 |m+1,k=>by
  unfold scan;split
  .omega
  .exact Kq P m (k+1)
theorem Oz{P Q:Nat->Bool}:∀(m k:Nat),(∀i,k<=i->i<k+m->P i=Q i)->scan P m k=scan Q m k
 |0,_,_=>rfl
 |m+1,k,h=>by
  unfold scan;rw[h k (by omega) (by omega),Oz m (k+1) λi h1 h2=>h i (by omega) (by omega)]
theorem xZ{P:Nat->Bool}:∀(m k:Nat),0<=scan P m k->k<=(scan P m k).toNat/\(scan P m k).toNat<k+m/\P (scan P m k).toNat=true
 |0,k,h=>by simp[scan]at h
 |m +1,k,h=>by
  unfold scan at h ⊢;split
  .rename_i hp;simp;exact hp
  .rename_i hp;rw[Za5 hp]at h;have:=xZ m (k+1) h;exact⟨by omega,by omega,this.2.2⟩
def tabs(z:Bool)(ts:List aU):AV:=ro 7 z (ts.map aU.cells)
@[simp] theorem aU.c0(t:aU):t.cells[0]? =some (.str t.name):=id rfl
@[simp] theorem aU.c1(t:aU):t.cells[1]? =some (.int .u8 t.sh):=id rfl
@[simp] theorem aU.c2(t:aU):t.cells[2]? =some (.int .i64 t.a):=id rfl
@[simp] theorem aU.c3(t:aU):t.cells[3]? =some (.int .i64 t.b):=id rfl
@[simp] theorem aU.c4(t:aU):t.cells[4]? =some (ints t.oz t.pM):=id rfl
@[simp] theorem aU.c5(t:aU):t.cells[5]? =some (.int .i64 t.x):=id rfl
@[simp] theorem aU.c6(t:aU):t.cells[6]? =some (.int .i64 t.y):=id rfl
@[simp] theorem aU.cc(t:aU):cut t.cells 0 7=some t.cells:=bV rfl
theorem aU.len(t:aU):t.cells.length=7:=id rfl
@[simp] theorem aU.one(t:aU):aL t.cells=true:=by unfold aU.cells;simp only[aL,abZ];rfl
@[simp] theorem Jx(l:List AV):(AV.agg l).cells=l:=id rfl
def nW(ts:List aU)(s:List Nat)(i:Nat):Bool:=decide (ts[i]?.map aU.name=some s)
def gj(ts:List aU):Nat->Nat->Int×Int
 |0,_=>(0,0)
 |  m+1,k=>match ts[k]? with
    |none=>(0,0)
    |some t=>if sY t≠0 then((k:Int),sY t)else if 0<=scan (nW ts t.name) k 0 then((k:Int),5)else gj ts m (k+1)
def bH(ts:List aU):Int×Int:=if 16<ts.length then(0,7)else gj ts ts.length 0
theorem OA(ts:List aU):∀(m m' k:Nat),ts.length<=k+m->ts.length<=k+m'->gj ts m k=gj ts m' k
 |0,0,_,_,_=>rfl
 |0,m'+1,k,h,_=>by rw[gj,gj,Zc0 (by omega)]
 |m+1,0,k,_,h=>by rw[gj,gj,Zc0 (by omega)]
 |m+1,m'+1,k,h,h'=>by
  rw[gj,gj,OA ts m m' (k+1) (by omega) (by omega)]
theorem OB(ts:List aU):∀(m k:Nat),(gj ts m k).2=0->(gj ts m k).1=0
 |0,_,_=>rfl
 |m +   1,k,h=>by
  rw[gj]at h ⊢;split at h
  .rfl
  . split at h
    .   rename_i cF;exact absurd h cF
    .   split at h
        .simp at h
        .rename_i h1 h2;rw[Za5 h1,Za5 h2];exact OB ts m (k+1) h
theorem Ul(hc:Sem c)(x t:aU)(p:Pos)(st:St)(hw:Wf st)(hp:st.heap.get p=some (.cells t.cells 0)):c 197 [.agg x.cells,.ptr p 0] st=some (.bool (decide (x.name=t.name)),st):=by
 rw[HW hc 1 (r:=(.bool (decide (x.name=t.name)),ah st (.cells x.cells 0))),aG (Plain.bool _) (cw hw)];rw[KC];have:(ah st (.cells x.cells 0)).heap.get p=some (.cells t.cells 0):=cw hw _ _ hp;simp[this]
theorem ab2(hc:Sem c)(x:aU)(s:List Nat)(p:Pos)(st:St)(hw:Wf st)(hp:st.heap.get p=some (.cells [.str s] 0)):c 216 [.agg x.cells,.ptr p 0] st=some (.bool (decide (x.name=s)),st):=by
 rw[Ou hc 1 (r:=(.bool (decide (x.name=s)),ah st (.cells x.cells 0))),aG (Plain.bool _) (cw hw)];rw[RB];have:(ah st (.cells x.cells 0)).heap.get p=some (.cells [.str s] 0):=cw hw _ _ hp;simp[this]
theorem aaj(z:Bool)(rs:List (List AV))(hl:rs.length<nU)(dF:∀cs∈rs,cs.length=7)(g:Nat)(v:List AV)(P:Nat->Bool)(st:St)(F:Nat)(k1 k2)
  (hP:∀i (h:i<rs.length),c g (.agg rs[i]::v) st=some (.bool (P i),st)):∀(m k:Nat),rs.length<=k+m->k<=rs.length->
  bX c F k1 k2 (m+1) [ro 7 z rs,.func g [] v,.int .i64 (rs.length:Int),.int .i64 (k:Int)] st=if 0<=scan P (rs.length - k) k then k1 [.int .i64 (scan P (rs.length - k) k)] st else k2 [] st:=by
 intro m;induction m with
 |zero=>
  intro k h1 h2;obtain rfl:k=rs.length:=by omega
  rw[je];simp[scan]
 |succ m ih=>
  intro k h1 h2;rw[je];by_cases h:k<rs.length
  . have e:rs.length - k=(rs.length - (k+1))+1:=(by omega);have w:aq .i64 ((k:Int)+1)=((k+1:Nat):Int):=wrap64 (by omega) (by unfold nU at hl;omega);have hcut:cut rs[k] 0 7=some rs[k]:=bV (dF _ (Zc6 h));have hp:=hP k h;rw[e,scan];cases hb:P k
    .   simp only[Zf1,Zf9];rw[<-ih (k+1) (by omega) (by omega)];simp[h,hcut,hp,hb,w]
    .   simp[h,hcut,hp,hb]
  .obtain rfl:k=rs.length:=(by omega);simp[scan]
theorem WE(hc:Sem c)(z:Bool)(rs:List (List AV))(hl:rs.length<nU)(dF:∀cs∈rs,cs.length=7)(g:Nat)(v:List AV)(P:Nat->Bool)(st:St)
   (hP:∀i (h:i<rs.length),c g (.agg rs[i]::v) st=some (.bool (P i),st)):c 215 [ro 7 z rs,.func g [] v] st=some (.int .i64 (scan P rs.length 0),st):=by
 rw[oR hc (rs.length+1) (r:=(.int .i64 (scan P rs.length 0),st)),aG (Plain.int _ _) (bt.refl st)];rw[pY];have L:∀k1 k2,bX c (rs.length+1) k1 k2 (rs.length+1) [ro 7 z rs,.func g [] v,.int .i64 (rs.length:Int),.int .i64 0] st=if 0<=scan P (rs.length - 0) 0 then k1 [.int .i64 (scan P (rs.length - 0) 0)] st else k2 [] st:=
   λk1 k2=>aaj z rs hl dF g v P st _ k1 k2 hP rs.length 0 (by omega) (by omega)
 rw[Zo7]at L;by_cases h:0<=scan P rs.length 0
 .simp[L,h]
 .have:=(Kq P rs.length 0).2 (by omega);simp[L,this]
theorem Um(hc:Sem c)(z:Bool)(rs:List (List AV))(hl:rs.length<nU)(dF:∀cs∈rs,cs.length=7)(g:Nat)(v:List AV)(P:Nat->Bool)(st:St)
  (hP:∀i (h:i<rs.length),c g (.agg rs[i]::v) st=some (.bool (P i),st)):c 196 [ro 7 z rs,.func g [] v] st=some (.bool (decide (0<=scan P rs.length 0)),st):=by
 rw[nD hc 1 (r:=(.bool (decide (0<=scan P rs.length 0)),st)),aG (Plain.bool _) (bt.refl st)];rw[ob];simp[WE hc z rs hl dF g v P st hP]
theorem RM(hc:Sem c)(z:Bool)(ts:List aU)(dw:∀t∈ts,t.Ok)(hl:ts.length<=16)(F:Nat)(k1 k2):∀(m k:Nat)(st:St),Wf st->ts.length<=k+m->k<=ts.length->
  ∃st',Grew st st'/\lV c F k1 k2 (m+1) [tabs z ts,tabs z ts,.int .i64 (ts.length:Int),.int .i64 (k:Int)] st=if(gj ts m k).2=0 then k2 [] st' else k1 [.int .i64 (gj ts m k).1,.int .i64 (gj ts m k).2] st':=by
 intro m;induction m with
 |zero=>
  intro k st hw h1 h2;obtain rfl:k=ts.length:=by omega
  refine⟨st,Grew.refl hw,?_⟩;rw[qU];simp[gj,tabs]
 |succ m ih=>
  intro k st hw h1 h2;by_cases h:k<ts.length
  . have w:aq .i64 ((k:Int)+1)=((k+1:Nat):Int):=wrap64 (by omega) (by omega);have dc:Wf (ah st (.cells ts[k].cells 0)):=bK hw;have hg:=Grew.ah hw (.cells ts[k].cells 0);have hch:=ab1 hc ts[k] (dw _ (Zc6 h)) _ dc;have hco:=Um hc (z&&(ts.map aU.cells).isEmpty) ((ts.map aU.cells).take k) (by simp[nU];omega) (λcs fV=>by
          have:=Zl7 fV;simp only[Zg0]at this;obtain⟨t,_,rfl⟩:=this;rfl) 197 [.ptr st.next 0] (nW ts ts[k].name) (ah st (.cells ts[k].cells 0)) (λi hi=>by
          have QU:i<k:=(by simp at hi;omega);have hi3:i<ts.length:=(by omega);have:=Ul hc ts[i] ts[k] st.next (ah st (.cells ts[k].cells 0)) dc (aD _ _);simp only[Zn4,Zo0];rw[this];simp[nW,hi3])
    have hlen:((ts.map aU.cells).take k).length=k:=(by simp;omega);rw[hlen]at hco;rw[qU,gj,H5 h];simp only;by_cases h3:sY ts[k]=0
    .   by_cases h4:0<=scan (nW ts ts[k].name) k 0
        .refine⟨_,hg,?_⟩;have iu:k<=ts.length:=(by omega);simp only[tabs,Zp8]at hco ⊢;simp[h,hch,h3,h4,iu,hco,aU.len]
        .obtain⟨st',g1,g2⟩:=ih (k+1) _ dc (by omega) (by omega);refine⟨st',hg.trans g1,?_⟩;have iu:k<=ts.length:=(by omega);have e3:¬sY ts[k]≠0:=(by rw[h3];simp);simp only[e3,h4,Zf9];rw[<-g2];simp only[tabs,Zp8]at hco ⊢;simp[h,hch,h3,h4,iu,hco,w,aU.len]
    .   refine⟨_,hg,?_⟩;simp[tabs,h,hch,h3,aU.len]
  .obtain rfl:k=ts.length:=(by omega);refine⟨st,Grew.refl hw,?_⟩;rw[qU];simp[gj,tabs]
theorem Lv(hc:Sem c)(z:Bool)(ts:List aU)(dw:∀t∈ts,t.Ok)(st:St)(hw:Wf st):c 148 [tabs z ts] st=some (.tuple [.int .i64 (bH ts).1,.int .i64 (bH ts).2],st):=by
 have pE:Plain (.tuple [.int .i64 (bH ts).1,.int .i64 (bH ts).2]):=Plain.tuple (by simp[Plain.int]);by_cases h:16<ts.length
 .rw[Ab hc 20 (r:=(.tuple [.int .i64 (bH ts).1,.int .i64 (bH ts).2],st)),aG pE (bt.refl st)];rw[CY];have hi:(16:Int)<ts.length:=(by omega);simp[tabs,bH,h,hi]
 . have hi:¬(16:Int)<ts.length:=(by omega);have e:bH ts=gj ts 19 0:=(by rw[bH,Za5 h];exact OA ts _ _ 0 (by omega) (by omega));have hex:=λk1 k2=>RM hc z ts dw (by omega) 20 k1 k2 19 0 st hw (by omega) (by omega)
   obtain⟨st',hg,L⟩:=hex (λvs s36=>ju vs λx2 vs=>ju vs λx3 vs=>pH vs (some (.tuple [x2,x3],s36))) (λvs s37=>pH vs (
     ak c .move [(.int .i64 0)] s37 λx2 s38=>ak c .move [(.int .i64 0)] s38 λx3 s39=>some (.tuple [x2,x3],s39)))
   rw[Ab hc 20 (r:=(.tuple [.int .i64 (bH ts).1,.int .i64 (bH ts).2],st')),aG pE hg.keeps];rw[CY,e];simp only[tabs]at L;simp[tabs,hi]at L ⊢;rw[L];by_cases h2:(gj ts 19 0).2=0
   .have:=OB ts 19 0 h2;simp[h2,this]
   .simp[h2]
def bF(ts:List aU):Int:=(ts.map eD).sum
theorem uB(ts:List aU):0<=bF ts/\bF ts<=1000*ts.length:=by
 induction ts with
 |nil=>simp[bF]
 |cons t ts ih=>
  have:=EO t;simp only[bF,Zd6,List.sum_cons,Zd4]at ih ⊢;omega
theorem OC(ts:List aU)(t:aU):bF (ts++[t])=bF ts+eD t:=by simp[bF]
def wF(ts:List aU)(t:Int):Int:=if t<0\/(ts.length:Int)<=t\/(bH ts).2≠0 then 0 else bF (ts.take t.toNat)
theorem MD(hc:Sem c)(z:Bool)(ts:List aU)(dw:∀t∈ts,t.Ok)(st:St)(hw:Wf st):c 116 [tabs z ts] st=some (.bool (decide ((bH ts).2=0)),st):=by
 rw[Px hc 1 (r:=(.bool (decide ((bH ts).2=0)),st)),aG (Plain.bool _) (bt.refl st)];rw[T7];simp[Lv hc z ts dw st hw]
theorem Q5{ts:List aU}(h:(bH ts).2=0):ts.length<=16:=by
 unfold bH at h;split at h
 .simp at h
 .omega
theorem Yb(hc:Sem c)(z:Bool)(ts:List aU)(hl:ts.length<=16)(F:Nat)(k2):∀(m k:Nat)(st:St),Wf st->ts.length<=k+m->k<=ts.length->
  ∃st',Grew st st'/\pK c F k2 (m+1) [.int .i64 (bF (ts.take k)),tabs z ts,.int .i64 (ts.length:Int),.int .i64 (k:Int)] st=k2 [.int .i64 (bF ts)] st':=by
 intro m;induction m with
 |zero=>
  intro k st hw h1 h2;obtain rfl:k=ts.length:=by omega
  refine⟨st,Grew.refl hw,?_⟩;rw[vY];simp
 |succ m ih=>
  intro k st hw h1 h2;by_cases h:k<ts.length
  . have w:aq .i64 ((k:Int)+1)=((k+1:Nat):Int):=wrap64 (by omega) (by omega);have dc:Wf (ah st (.cells ts[k].cells 0)):=bK hw;have hg:=Grew.ah hw (.cells ts[k].cells 0);have hs:=PI hc ts[k] _ dc;have e:bF (ts.take (k+1))=bF (ts.take k)+eD ts[k]:=by
        rw[Zc4 h,OC]
    have b1:=uB (ts.take k);have b2:=EO ts[k];have b3:(ts.take k).length<=16:=(by simp;omega);have w2:aq .i64 (bF (ts.take k)+eD ts[k])=bF (ts.take (k+1)):=(by rw[e];exact wrap64 (by omega) (by omega));obtain⟨st',g1,g2⟩:=ih (k+1) _ dc (by omega) (by omega);refine⟨st',hg.trans g1,?_⟩;rw[<-g2,vY];simp[tabs,h,hs,w,w2,aU.len]
  .obtain rfl:k=ts.length:=(by omega);refine⟨st,Grew.refl hw,?_⟩;rw[vY];simp
theorem ab3(hc:Sem c)(z:Bool)(ts:List aU)(dw:∀t∈ts,t.Ok)(k:Int)(st:St)(hw:Wf st):c 86 [tabs z ts,.int .i64 k] st=some (.int .i64 (wF ts k),st):=by
 have lT:∀(K:AV->St->Option (AV×St))(s:St),ak c (.lenB .l) [tabs z ts] s K=K (.int .i64 (ts.length:Int)) s:=λK s=>by unfold tabs;rw[kJ];simp
 have hv:=MD hc z ts dw st hw;by_cases h:k<0\/(ts.length:Int)<=k\/(bH ts).2≠0
 . have e:wF ts k=0:=(by rw[wF,Za7 h]);rw[EL hc 1 (r:=(.int .i64 (wF ts k),st)),aG (Plain.int _ _) (bt.refl st)];rw[I8,e];by_cases h1:k<0
   .simp[h1]
   . by_cases h2:(ts.length:Int)<=k
     .  simp[h1,h2,lT]
     .  have h3:(bH ts).2≠0:=h.resolve_left h1 |>.resolve_left h2;simp[h1,h2,h3,lT,hv]
 . have e:wF ts k=bF (ts.take k.toNat):=(by rw[wF,Za5 h]);have h1:¬k<0:=λe=>h (.inl e)
   have h2:¬(ts.length:Int)<=k:=λe=>h (.inr (.inl e))
   have h3:(bH ts).2=0:=Classical.byContradiction λe=>h (.inr (.inr e))
   have hl:=Q5 h3;obtain⟨n,rfl⟩:∃n:Nat,k=(n:Int):=⟨k.toNat,by omega⟩
   have hn:n<=ts.length:=(by omega);have hex:=λk2=>Yb hc (z&&ts.isEmpty) (ts.take n) (by simp;omega) 20 k2 19 0 st hw (by simp;omega) (by omega)
   obtain⟨st',hg,L⟩:=hex (λvs s33=>ju vs λx5 vs=>pH vs (ak c .move [x5] s33 λx34 s34=>ak c .move [x34] s34 λx4 s35=>some (x4,s35)));rw[EL hc 20 (r:=(.int .i64 (wF ts (n:Int)),st')),aG (Plain.int _ _) hg.keeps];rw[I8,e];have h4:¬ts.length<=n:=(by omega);have hm:min n ts.length=n:=(by omega);simp[tabs,bF,hm]at L;simp[h1,h4,h3,lT,hv];simp[tabs,hn,hm,bF,L]
theorem Vr(hc:Sem c)(z:Bool)(ts:List aU)(hl:ts.length<=16)(st:St)(hw:Wf st):c 117 [tabs z ts] st=some (.int .i64 (if h:0<ts.length then eD (ts[ts.length - 1]'(by omega))else 0),st):=by
 rw[KG hc 1 (r:=(.int .i64 (if h:0<ts.length then eD (ts[ts.length - 1]'(by omega))else 0),st)),aG (Plain.int _ _) (bt.refl st)];rw[Om];by_cases h:0<ts.length
 . have h1:¬(ts.length:Int)=0:=(by omega);have h2:ts≠[]:=λe=>by subst e;simp at h
   have w:aq .i64 ((ts.length:Int) - 1)=((ts.length - 1:Nat):Int):=(by rw[wrap64 (by omega) (by omega)];omega);have h3:ts.length - 1<ts.length:=(by omega);have hs:=PI hc (ts[ts.length - 1]'(by omega)) st hw;simp[tabs,h,h1,h2,w,h3,hs]
 .have h1:ts=[]:=Zb2 (by omega);subst h1;simp[tabs]
theorem aak{ts:List aU}(hv:(bH ts).2=0):wF ts ((ts.length:Int) - 1)+(if h:0<ts.length then eD (ts[ts.length - 1]'(by omega))else 0)=bF ts:=by
 by_cases h:0<ts.length
 .rw[dif_pos h,wF,Za5 (by simp[hv];omega)];have e:((ts.length:Int) - 1).toNat=ts.length - 1:=(by omega);rw[e, <-OC, <-Zc4 (by omega)];rw[show ts.length - 1+1=ts.length by omega,Zi7]
 .have h1:ts=[]:=Zb2 (by omega);subst h1;simp[wF,bF]
theorem ya(hc:Sem c)(z:Bool)(ts:List aU)(dw:∀t∈ts,t.Ok)(st:St)(hw:Wf st):c 72 [tabs z ts] st=some (.int .i64 (if(bH ts).2=0 then bF ts else 0),st):=by
 rw[Pv hc 1 (r:=(.int .i64 (if(bH ts).2=0 then bF ts else 0),st)),aG (Plain.int _ _) (bt.refl st)];rw[T6];have lT:∀(K:AV->St->Option (AV×St))(s:St),ak c (.lenB .l) [tabs z ts] s K=K (.int .i64 (ts.length:Int)) s:=λK s=>by unfold tabs;rw[kJ];simp
 have hv:=MD hc z ts dw st hw;by_cases h:(bH ts).2=0
 .have hl:=Q5 h;have w:aq .i64 ((ts.length:Int) - 1)=(ts.length:Int) - 1:=wrap64 (by omega) (by omega);have hf:=ab3 hc z ts dw ((ts.length:Int) - 1) st hw;have hla:=Vr hc z ts hl st hw;have b:=uB ts;have e:=aak h;rw[Za7 h, <-e];rw[<-e]at b;generalize wF ts ((ts.length:Int) - 1)=x at hf b ⊢;generalize (if h:0<ts.length then eD (ts[ts.length - 1]'(by omega))else 0)=y at hla b ⊢;have w2:aq .i64 (x+y)=x+y:=wrap64 (by omega) (by omega);simp[hv,h,lT,w,hf,hla,w2]
 .simp[hv,h]
theorem adH(hc:Sem c)(z:Bool)(ts:List aU)(dw:∀t∈ts,t.Ok)(hl:ts.length<nU)(s:List Nat)(st:St)(hw:Wf st):c 172 [tabs z ts,.str s] st=
   some (.tuple [.int .i64 (if 0<=scan (nW ts s) ts.length 0/\(bH ts).2=0 then scan (nW ts s) ts.length 0 else 0),.bool (decide (0<=scan (nW ts s) ts.length 0/\(bH ts).2=0))],st):=by
 rw[RI hc 1 (r:=(.tuple [.int .i64 (if 0<=scan (nW ts s) ts.length 0/\(bH ts).2=0 then scan (nW ts s) ts.length 0 else 0),.bool (decide (0<=scan (nW ts s) ts.length 0/\(bH ts).2=0))],ah st (.cells [.str s] 0))),
   aG (Plain.tuple (by simp[Plain.int,Plain.bool])) (cw hw)]
 rw[Vn];have dc:Wf (ah st (.cells [.str s] 0)):=bK hw;have hi:=WE hc z (ts.map aU.cells) (by simpa using hl) (λcs fV=>by
     simp only[Zg0]at fV;obtain⟨t,_,rfl⟩:=fV;rfl) 216 [.ptr st.next 0] (nW ts s) (ah st (.cells [.str s] 0)) (λi hi=>by
     have hi3:i<ts.length:=(by simpa using hi);have:=ab2 hc ts[i] s st.next (ah st (.cells [.str s] 0)) dc (aD _ _);simp only[Zo0];rw[this];simp[nW,hi3])
 rw[Za9]at hi;have hv:=MD hc z ts dw _ dc;simp only[tabs]at hv ⊢;have e:(AV.str s).cells=[.str s]:=rfl;by_cases h1:0<=scan (nW ts s) ts.length 0
 . have h2:¬scan (nW ts s) ts.length 0<0:=(by omega);by_cases h3:(bH ts).2=0
   .simp[e,hi,h1,h2,h3,hv]
   .simp[e,hi,h1,h2,h3,hv]
 .have h2:scan (nW ts s) ts.length 0<0:=(by omega);simp[e,hi,h1,h2]
structure aM where
 name:List Nat
 sZ:List Nat
 nE:List Nat
 since:Int
 side:Int
 kV:List Nat
 host:Bool
 access:Bool
 tz:Bool
 tg:List (List Nat)
def kL(z:Bool)(l:List (List Nat)):AV:=ro 1 z (l.map λs=>[.str s])
def aM.cells(g:aM):List AV:=[.str g.name,.str g.sZ,.str g.nE,.int .i64 g.since,.int .i64 g.side,.str g.kV,.bool g.host,.bool g.access,kL g.tz g.tg]
@[simp] theorem ab4(z:Bool)(l:List (List Nat)):(kL z l).one=true:=ZZ _ _ _
@[simp] theorem afT{R:Type}(c:ai)(K:AV->St->Option R)(st:St)(z:Bool)(l:List (List Nat)):ak c (.lenB .l) [kL z l] st K=K (.int .i64 (l.length:Int)) st:=by unfold kL;rw[kJ];simp
@[simp] theorem afU{R:Type}(c:ai)(K:AV->St->Option R)(st:St)(z:Bool)(l:List Int):ak c (.lenB .l) [ints z l] st K=K (.int .i64 (l.length:Int)) st:=by unfold ints;rw[kJ];simp
@[simp] theorem aM.c0(t:aM):t.cells[0]? =some (.str t.name):=id rfl
@[simp] theorem aM.c1(t:aM):t.cells[1]? =some (.str t.sZ):=id rfl
@[simp] theorem aM.c2(t:aM):t.cells[2]? =some (.str t.nE):=id rfl
@[simp] theorem aM.c3(t:aM):t.cells[3]? =some (.int .i64 t.since):=id rfl
@[simp] theorem aM.c4(t:aM):t.cells[4]? =some (.int .i64 t.side):=id rfl
@[simp] theorem aM.c5(t:aM):t.cells[5]? =some (.str t.kV):=id rfl
@[simp] theorem aM.c6(t:aM):t.cells[6]? =some (.bool t.host):=id rfl
@[simp] theorem aM.c7(t:aM):t.cells[7]? =some (.bool t.access):=id rfl
@[simp] theorem aM.c8(t:aM):t.cells[8]? =some (kL t.tz t.tg):=id rfl
@[simp] theorem aM.cc(t:aM):cut t.cells 0 9=some t.cells:=bV rfl
@[simp] theorem aM.one(t:aM):aL t.cells=true:=by unfold aM.cells;simp only[aL,ab4];rfl
def cr(z:Bool)(gs:List aM):AV:=ro 9 z (gs.map aM.cells)
@[simp] theorem ab5{R:Type}(c:ai)(K:AV->St->Option R)(st:St)(z:Bool)(l:List aM):ak c (.lenB .l) [cr z l] st K=K (.int .i64 (l.length:Int)) st:=by unfold cr;rw[kJ];simp
def aft(last:Option (List Nat))(s:List Nat):Bool:=match last with
 |none=>true
 |some p=>ay p s
@[simp] theorem Uo(s:List Nat):aft none s=true:=id rfl
@[simp] theorem Up(p s:List Nat):aft (some p) s=ay p s:=id rfl
def wG(last:Option (List Nat)):List (List Nat)->Bool
 |[]=>true
 |s::l=>eP s&&aft last s&&wG (some s) l
theorem Uq(last:Option (List Nat))(s:List Nat)(l:List (List Nat)):wG last (s::l)=(eP s&&aft last s&&wG (some s) l):=rfl
def eM(g:aM):Int:=
 if(eP g.name&&ki g.sZ&&ki g.nE&&ki g.kV)=false then 4 else if ¬(0<=g.since/\g.since<=9999)then 21 else if ¬(0<=g.side/\g.side<=2)then 20
 else if 4<g.tg.length then 22 else if wG none g.tg=false then 22 else 0
theorem qY:∀(a:List Nat),ay a a=false
 |[]=>rfl
 |x::a=>by
  unfold ay;simp[Ap,cQ,qY a]
theorem C6:∀(a b:List Nat),ay a b=true->ay b a=false
 |[],[],h=>by simp[ay]at h
 |[],_::_,_=>rfl
 |_::_,[],h=>by simp[ay]at h
 |x ::a,y::b,h=>by
  unfold ay at h ⊢;simp only[Ap,cQ]at h ⊢;by_cases h1:x<y
  .have:¬y<x:=(by omega);have h3:¬y=x:=(by omega);simp[this,h3]
  . by_cases h2:x=y
    .subst h2;simp at h ⊢; exact C6 a b h
    .simp[h1,h2]at h
theorem wH:∀(a b:List Nat),ay a b=false->ay b a=false->a=b
 |[],[],_,_=>rfl
 |[],_::_,h,_=>by simp[ay]at h
 |_::_,[],_,h=>by simp[ay]at h
 |x ::a,y::b,h,k=>by
  unfold ay at h k;simp only[Ap,cQ]at h k;by_cases h1:x<y
  .simp[h1]at h
  . by_cases h2:y<x
    .   simp[h2]at k
    .   have:x=y:=(by omega);subst this;simp at h k;rw[wH a b h k]
theorem Gy:∀(a b d:List Nat),ay a b=true->ay b d=true->ay a d=true
 |_,[],[],_,h=>by simp[ay]at h
 |_,_::_,[],_,h=>by simp[ay]at h
 |[],_,_::_,_,_=>rfl
 |_::_,[],_::_,h,_=>by simp[ay]at h
 |x ::a   ,y::b,z::d,h,k=>by
  unfold ay at h k ⊢;simp only[Ap,cQ]at h k ⊢;by_cases h1:x<y
  . by_cases h2:y<z
    .   have:x<z:=(by omega);simp[this]
    .   by_cases h3:y=z
        .subst h3;simp[h1]
        .simp[h2,h3]at k
  . by_cases h2:x=y
    .   subst h2;simp at h;by_cases h4:x<z
        .simp[h4]
        . by_cases h5:x=z
          .subst h5;simp at k ⊢; exact Gy a b d h k
          .simp[h4,h5]at k
    .   simp[h1,h2]at h
theorem ME(hc:Sem c)(p:Pos)(g:aM)(hl:g.tg.length<=4)(F:Nat)(st:St)(hp:st.heap.get p=some (.cells g.cells 0))(k1 k3):∀(m k:Nat),g.tg.length<=k+m->k<=g.tg.length->
  lq c F k1 k3 (m+1) [.ptr p 0,kL g.tz g.tg,.int .i64 (g.tg.length:Int),.int .i64 (k:Int)] st=if wG (if k=0 then none else g.tg[k - 1]?) (g.tg.drop k)=true then k3 [] st else k1 [.int .i64 22] st:=by
 intro m;induction m with
 |zero=>
  intro k h1 h2;rw[BR];obtain rfl:k=g.tg.length:=by omega
  simp[wG]
 |succ m ih=>
  intro k h1 h2;rw[BR];by_cases h:k<g.tg.length
  . have e:g.tg.drop k=g.tg[k]::g.tg.drop (k+1):=Zc7 h;have w:aq .i64 ((k:Int)+1)=((k+1:Nat):Int):=wrap64 (by omega) (by omega);have hn:=zA hc g.tg[k] st;have:=ih (k+1) (by omega) (by omega);have e2:(if k+1=0 then none else g.tg[k+1 - 1]?)=some g.tg[k]:=(by rw[Za5 (by omega),Ze9,H5 h]);rw[e2]at this;rw[e,Uq];generalize wG (some g.tg[k]) (g.tg.drop (k+1))=rest at this ⊢;by_cases h3:eP g.tg[k]=true
    .   by_cases h0:k=0
        .have hk:¬0<k:=(by omega);simp only[h3,Za7 h0,Zf4,Uo];rw[<-this];simp[kL,h,hn,h3,hk,w]
        . have hk:0<k:=(by omega);have kg:k - 1<g.tg.length:=(by omega);have wk:aq .i64 ((k:Int) - 1)=((k - 1:Nat):Int):=(by rw[wrap64 (by omega) (by omega)];omega);simp only[h3,Za5 h0,H5 kg,Zf4,Up];cases hb:ay g.tg[k - 1] g.tg[k]
          .simp[kL,h,hn,h3,hk,kg,wk,hp,hb]
          .simp only[Zf4];rw[<-this];simp[kL,h,hn,h3,hk,kg,wk,hp,hb,w]
    .   simp[kL,h,hn,h3]
  .obtain rfl:k=g.tg.length:=(by omega);simp[wG]
theorem PN(hc:Sem c)(g:aM)(st:St)(hw:Wf st):c 298 [.agg g.cells] st=some (.int .i64 (eM g),st):=by
 rw[Ow hc 6 (r:=(.int .i64 (eM g),ah st (.cells g.cells 0))),aG (Plain.int _ _) (cw hw)];rw[RE];have n0:=zA hc g.name;have n1:=zB hc g.sZ;have n2:=zB hc g.nE;have n5:=zB hc g.kV;by_cases hn:(eP g.name&&ki g.sZ&&ki g.nE&&ki g.kV)=true
 . have Lw:=hn;simp only[Za8]at Lw;obtain⟨⟨⟨b0,b1⟩,b2⟩,b5⟩:=Lw;unfold eM;rw[hn];by_cases h1:g.since<0
   .have:¬(0<=g.since/\g.since<=9999):=(by omega);simp[n0,n1,n2,n5,b0,b1,b2,b5,h1,this]
   by_cases h2:9999<g.since
   .have:¬(0<=g.since/\g.since<=9999):=(by omega);simp[n0,n1,n2,n5,b0,b1,b2,b5,h1,h2,this]
   have h3:0<=g.since/\g.since<=9999:=(by omega);by_cases h4:g.side<0
   .have:¬(0<=g.side/\g.side<=2):=(by omega);simp[n0,n1,n2,n5,b0,b1,b2,b5,h1,h2,h3,h4,this]
   by_cases h5:2<g.side
   .have:¬(0<=g.side/\g.side<=2):=(by omega);simp[n0,n1,n2,n5,b0,b1,b2,b5,h1,h2,h3,h4,h5,this]
   have h6:0<=g.side/\g.side<=2:=(by omega);by_cases h7:4<g.tg.length
   .have h8:(4:Int)<g.tg.length:=(by omega);simp[n0,n1,n2,n5,b0,b1,b2,b5,h1,h2,h3,h4,h5,h6,h7,h8]
   . have h8:¬(4:Int)<g.tg.length:=(by omega);have L:∀k1 k3,lq c 6 k1 k3 6 [.ptr st.next 0,kL g.tz g.tg,.int .i64 (g.tg.length:Int),.int .i64 0] (ah st (.cells g.cells 0))=if wG none (g.tg.drop 0)=true then k3 [] (ah st (.cells g.cells 0))else k1 [.int .i64 22] (ah st (.cells g.cells 0)):=
        λk1 k3=>ME hc st.next g (by omega) 6 _ (aD _ _) k1 k3 5 0 (by omega) (by omega)
     rw[Ze3]at L;generalize wG none g.tg=b at L ⊢;cases b<;>simp[n0,n1,n2,n5,b0,b1,b2,b5,h1,h2,h3,h4,h5,h6,h7,h8,L]
 . have NB:(eP g.name&&ki g.sZ&&ki g.nE&&ki g.kV)=false:=(by simpa using hn);have hx:eM g=4:=(by unfold eM;rw[NB];simp);rw[hx];cases b0:eP g.name
   .simp[n0,b0]
   . cases b1:ki g.sZ
     .  simp[n0,n1,b0,b1]
     .  cases b2:ki g.nE
        .simp[n0,n1,n2,b0,b1,b2]
        . cases b5:ki g.kV
          .simp[n0,n1,n2,n5,b0,b1,b2,b5]
          .simp[b0,b1,b2,b5]at hn
theorem PO (hc:Sem c)(p:Pos)(g:aM)(hl:g.tg.length<=4)(F:Nat)(st:St)(hp:st.heap.get p=some (.cells g.cells 0))(k1 k2):∀(m k:Nat),g.tg.length<=k+m->k<=g.tg.length->
  gC c F k1 k2 (m+1) [.ptr p 0,.int .i64 (k:Int)] st=if wG (if k=0 then none else g.tg[k - 1]?) (g.tg.drop k)=true then k2 [] st else k1 [.int .i64 22] st:=by
 intro m;induction m with
 |zero=>
  intro k h1 h2;rw[sw];obtain rfl:k=g.tg.length:=by omega
  simp[wG,hp]
 |succ m ih   =>
  intro k h1 h2;rw[sw];by_cases h:k<g.tg.length
  . have e:g.tg.drop k=g.tg[k]::g.tg.drop (k+1):=Zc7 h;have w:aq .i64 ((k:Int)+1)=((k+1:Nat):Int):=wrap64 (by omega) (by omega);have hn:=EN hc g.tg[k] st;have:=ih (k+1) (by omega) (by omega);have e2:(if k+1=0 then none else g.tg[k+1 - 1]?)=some g.tg[k]:=(by rw[Za5 (by omega),Ze9,H5 h]);rw[e2]at this;rw[e,Uq];generalize wG (some g.tg[k]) (g.tg.drop (k+1))=rest at this ⊢;by_cases h3:eP g.tg[k]=true
    .   by_cases h0:k=0
        .have hk:¬0<k:=(by omega);simp only[h3,Za7 h0,Zf4,Uo];rw[<-this];simp[kL,hp,h,hn,h3,hk,w]
        . have hk:0<k:=(by omega);have kg:k - 1<g.tg.length:=(by omega);have wk:aq .i64 ((k:Int) - 1)=((k - 1:Nat):Int):=(by rw[wrap64 (by omega) (by omega)];omega);simp only[h3,Za5 h0,H5 kg,Zf4,Up];have ho:(ay g.tg[k] g.tg[k - 1]||decide (g.tg[k]=g.tg[k - 1]))= !ay g.tg[k - 1] g.tg[k]:=by
            cases h5:ay g.tg[k - 1] g.tg[k]
            . cases h6:ay g.tg[k] g.tg[k - 1]
              .simp[wH _ _ h6 h5]
              .rfl
            . (rw[C6 _ _ h5];have:g.tg[k]≠g.tg[k - 1]:=λe=>by rw[e,qY]at h5;cases h5);simp[this]
          cases hb:ay g.tg[k - 1] g.tg[k]
          .rw[hb]at ho;simp[kL,hp,h,hn,h3,hk,kg,wk,ho]
          .rw[hb]at ho;simp only[Zf4];rw[<-this];simp[kL,hp,h,hn,h3,hk,kg,wk,ho,w]
    .   simp[kL,hp,h,hn,h3]
  .obtain rfl:k=g.tg.length:=(by omega);simp[wG,hp]
theorem Ur(hc:Sem c)(g:aM)(st:St)(hw:Wf st):c 190 [.agg g.cells] st=some (.int .i64 (eM g),st):=by
 rw[DG hc 6 (r:=(.int .i64 (eM g),ah st (.cells g.cells 0))),aG (Plain.int _ _) (cw hw)];rw[Gr];have n0:=EN hc g.name;have n1:=EN hc g.sZ;have n2:=EN hc g.nE;have n5:=EN hc g.kV;have en:eP []=false:=rfl;by_cases hn:(eP g.name&&ki g.sZ&&ki g.nE&&ki g.kV)=true
 . have Lw:=hn;simp only[Za8,ki,Zh3,Zd1]at Lw;obtain⟨⟨⟨b0,b1⟩,b2⟩,b5⟩:=Lw;unfold eM;rw[hn];have hor:∀r:List Nat,r=[]\/eP r=true->(r=[]\/(¬r=[]/\eP r=true)):=λr h=>by
     by_cases e:r=[]
     .  exact .inl e
     .  exact .inr ⟨e,h.resolve_left e⟩
   have d1:=hor _ b1;have d2:=hor _ b2;have d5:=hor _ b5;by_cases h1:g.since<0
   .have:¬(0<=g.since/\g.since<=9999):=(by omega);rcases d1 with e1|⟨e1,f1⟩<;>rcases d2 with e2|⟨e2,f2⟩<;>rcases d5 with e5|⟨e5,f5⟩<;>simp[*]
   by_cases h2:9999<g.since
   .have:¬(0<=g.since/\g.since<=9999):=(by omega);rcases d1 with e1|⟨e1,f1⟩<;>rcases d2 with e2|⟨e2,f2⟩<;>rcases d5 with e5|⟨e5,f5⟩<;>simp[*]
   have h3:0<=g.since/\g.since<=9999:=(by omega);clear b1 b2 b5 hn hor;by_cases h6:0<=g.side/\g.side<=2
   . have h7:g.side=0\/g.side=1\/g.side=2:=(by omega);by_cases h8:4<g.tg.length
     .  have h9:(4:Int)<g.tg.length:=(by omega);rcases h7 with h7|h7|h7<;>rcases d1 with e1|⟨e1,f1⟩<;>rcases d2 with e2|⟨e2,f2⟩<;>rcases d5 with e5|⟨e5,f5⟩<;>simp[n0,n1,n2,n5,en,b0, *]
     .  have h9:¬(4:Int)<g.tg.length:=(by omega);have L:∀k1 k3,gC c 6 k1 k3 6 [.ptr st.next 0,.int .i64 0] (ah st (.cells g.cells 0))=if wG none (g.tg.drop 0)=true then k3 [] (ah st (.cells g.cells 0))else k1 [.int .i64 22] (ah st (.cells g.cells 0)):=
          λk1 k3=>PO hc st.next g (by omega) 6 _ (aD _ _) k1 k3 5 0 (by omega) (by omega)
        rw[Ze3]at L;generalize wG none g.tg=b at L ⊢;rcases h7 with h7|h7|h7<;>cases b<;>rcases d1 with e1|⟨e1,f1⟩<;>rcases d2 with e2|⟨e2,f2⟩<;>rcases d5 with e5|⟨e5,f5⟩<;>simp[n0,n1,n2,n5,en,b0, *]
   .have g0:¬g.side=0:=(by omega);have g1:¬g.side=1:=(by omega);have g2:¬g.side=2:=(by omega);rcases d1 with e1|⟨e1,f1⟩<;>rcases d2 with e2|⟨e2,f2⟩<;>rcases d5 with e5|⟨e5,f5⟩<;>simp[n0,n1,n2,n5,en,b0, *]
 . have NB  :(eP g.name&&ki g.sZ&&ki g.nE&&ki g.kV)=false:=(by simpa using hn);have hx:eM g=4:=(by unfold eM;rw[NB];simp);rw[hx];have hsm:∀r:List Nat,ki r=false->¬r=[]/\eP r=false:=λr h=>by simpa [ki]using h
   have vE:∀r:List Nat,ki r=true->(r=[]\/(¬r=[]/\eP r=true)):=λr h=>by
     by_cases e:r=[]
     .  exact .inl e
     .  right;simp[ki,e]at h;exact⟨e,h⟩
   cases b0:eP g.name
   .simp[n0,b0]
   . cases  b1:ki g.sZ
     .  obtain⟨q1,q2⟩:=hsm _ b1;simp[n0,n1,b0,q1,q2]
     .  have d1:=vE _ b1;cases b2:ki g.nE
        .obtain⟨q1,q2⟩:=hsm _ b2;rcases d1 with e1|⟨e1,f1⟩<;>simp[n0,n1,n2,b0, *]
        . have d2:=vE _ b2;cases b5:ki g.kV
          .obtain⟨q1,q2⟩:=hsm _ b5;rcases d1 with e1|⟨e1,f1⟩<;>rcases d2 with e2|⟨e2,f2⟩<;>simp[n0,n1,n2,n5,b0, *]
          .simp[b0,b1,b2,b5]at hn
structure Ty where
 a:List Nat
 b:List Nat
 k:Int
def Ty.cells(t:Ty):List AV:=[.str t.a,.str t.b,.int .u8 t.k]
@[simp] theorem Ty.c0(t:Ty):t.cells[0]? =some (.str t.a):=id rfl
@[simp] theorem Ty.c1(t:Ty):t.cells[1]? =some (.str t.b):=id rfl
@[simp] theorem Ty.c2(t:Ty):t.cells[2]? =some (.int .u8 t.k):=id rfl
@[simp] theorem Ty.cc(t:Ty):cut t.cells 0 3=some t.cells:=bV rfl
theorem Ty.len(t:Ty):t.cells.length=3:=id rfl
@[simp] theorem Ty.one(t:Ty):aL t.cells=true:=id rfl
@[simp] theorem aeV{R:Type}(c:ai)(K:AV->St->Option R)(st:St)(t:Ty)(x y z:AV):ak c (.store 3) [.ptr st.next 0,.agg t.cells] (ah st (.cells [x,y,z] 0)) K=K .undef (ah st (.cells t.cells 0)):=dK c K st 3 (.agg t.cells) [x,y,z] rfl rfl t.one
def eR(z:Bool)(ts:List Ty):AV:=ro 3 z (ts.map Ty.cells)
@[simp] theorem ab6{R:Type}(c:ai)(K:AV->St->Option R)(st:St)(z:Bool)(l:List Ty):ak c (.lenB .l) [eR z l] st K=K (.int .i64 (l.length:Int)) st:=by unfold eR;rw[kJ];simp
def fy(gs:List aM)(s:List Nat)(i:Nat):Bool:=decide (gs[i]?.map aM.name=some s)
theorem adI(z:Bool)(gs:List aM)(s:List Nat)(hl:gs.length<nU)(F:Nat)(st:St)(k1 k2):∀(m k:Nat),gs.length<=k+m->k<=gs.length->
  iP c F k1 k2 (m+1) [cr z gs,.str s,.int .i64 (k:Int)] st=if 0<=scan (fy gs s) (gs.length - k) k then k1 [.int .i64 (scan (fy gs s) (gs.length - k) k)] st else k2 [] st:=by
 intro m;induction m with
 |zero=>
  intro k h1 h2;obtain rfl:k=gs.length:=by omega
  rw[v7];simp[scan]
 |succ m ih=>
  intro k h1 h2;rw[v7];by_cases h:k<gs.length
  . have e:gs.length - k=(gs.length - (k+1))+1:=(by omega);have w:aq .i64 ((k:Int)+1)=((k+1:Nat):Int):=wrap64 (by omega) (by unfold nU at hl;omega);rw[e,scan];by_cases h3:gs[k].name=s
    .   have:fy gs s k=true:=(by simp[fy,h,h3]);simp only[this,Zg5];simp[cr,h,h3]
    .   have:fy gs s k=false:=(by simp[fy,h,h3]);simp only[this,Zf1,Zf9];rw[<-ih (k+1) (by omega) (by omega)];simp[cr,h,h3,w]
  .obtain rfl:k=gs.length:=(by omega);simp[scan]
theorem Yc(hc:Sem c)(z:Bool)(gs:List aM)(s:List Nat)(hl:gs.length<nU)(st:St):c 143 [cr z gs,.str s] st=some (.int .i64 (scan (fy gs s) gs.length 0),st):=by
 rw[HS hc (gs.length+1) (r:=(.int .i64 (scan (fy gs s) gs.length 0),st)),aG (Plain.int _ _) (bt.refl st)];rw[Ky];have L:∀k1 k2,iP c (gs.length+1) k1 k2 (gs.length+1) [cr z gs,.str s,.int .i64 0] st=if 0<=scan (fy gs s) (gs.length - 0) 0 then k1 [.int .i64 (scan (fy gs s) (gs.length - 0) 0)] st else k2 [] st:=
   λk1 k2=>adI z gs s hl _ st k1 k2 gs.length 0 (by omega) (by omega)
 rw[Zo7]at L;by_cases h:0<=scan (fy gs s) gs.length 0
 .simp[L,h]
 .have:=(Kq (fy gs s) gs.length 0).2 (by omega);simp[L,this]
def dO(s t:Ty):Bool:=ay s.a t.a||(decide (s.a=t.a)&&ay s.b t.b)
theorem Q6(hc:Sem c)(s t:Ty)(st:St)(hw:Wf st):c 191 [.agg s.cells,.agg t.cells] st=some (.bool (dO s t),st):=by
 rw[Ci hc 1 (r:=(.bool (dO s t),ah (ah st (.cells s.cells 0)) (.cells t.cells 0))),aG (Plain.bool _) ((cw hw).trans (cw (bK hw)))];rw[EG];by_cases h2:s.a=t.a
 .simp[dO,h2,qY]
 .cases h1:ay s.a t.a<;>simp[dO,h1,h2]
def wJ(a b:List Nat):Int:=if ay a b=true then -1 else if ay b a=true then 1 else 0
theorem aez(hc:Sem c)(a b:List Nat)(st:St):c 327 [.str a,.str b] st=some (.int .i64 (wJ a b),st):=by unfold Sem at hc;subst hc;refine NL (s:=Ib) (by rfl) ?_;show some (AV.int .i64 (match ay a b with|true=>.negSucc 0|false=>match ay b a with|true=>.ofNat 1|false=>.ofNat 0),st)=_;unfold wJ;generalize ay a b=p;generalize ay b a=q;cases p<;>cases q<;>rfl
theorem MF(hc:Sem c)(a b:List Nat)(st:St):c 320 [.str a,.str b] st=some (.int .i64 (wJ a b),st):=by
 rw[At hc 1 (r:=(.int .i64 (wJ a b),st)),aG (Plain.int _ _) (bt.refl st)];rw[Cg];simp[aez hc]
theorem OD(hc:Sem c)(a b:List Nat)(st:St):c 300 [.str a,.str b] st=some (.int .i64 (wJ a b),st):=by
 rw[HZ hc 1 (r:=(.int .i64 (wJ a b),st)),aG (Plain.int _ _) (bt.refl st)];rw[KF];simp[MF hc]
theorem WG{a b:List Nat}:wJ a b=0↔a=b:=by
 unfold wJ;cases h1:ay a b
 . cases h2:ay b a
   .simp;exact wH _ _ h1 h2
   .simp;intro e;subst e;rw[qY]at h2;cases h2
 .simp;intro e;subst e;rw[qY]at h1;cases h1
def nX(s t:Ty):Int:=if s.a=t.a then wJ s.b t.b else wJ s.a t.a
theorem BV(hc:Sem c)(s t:Ty)(st:St)(hw:Wf st):c 258 [.agg s.cells,.agg t.cells] st=some (.int .i64 (nX s t),st):=by
 rw[Ov hc 1 (r:=(.int .i64 (nX s t),ah (ah st (.cells s.cells 0)) (.cells t.cells 0))),aG (Plain.int _ _) ((cw hw).trans (cw (bK hw)))];rw[RD];by_cases h:s.a=t.a
 .have:wJ t.a t.a=0:=WG.2 rfl;simp[nX,OD hc,h,this]
 . have:¬wJ s.a t.a=0:=λe=>h (WG.1 e)
   simp[nX,OD hc,h,this]
theorem PR{s t:Ty}:nX s t<0↔dO s t=true:=by
 unfold nX dO wJ;by_cases h:s.a=t.a
 .simp only[h,qY,Zg5];cases ay s.b t.b<;>cases ay t.b s.b<;>simp
 .simp only[h,Zf9];cases ay s.a t.a<;>cases ay t.a s.a<;>simp
theorem Kr{s t:Ty}:0<nX s t↔dO t s=true:=by
 unfold nX dO wJ;by_cases h:s.a=t.a
 . simp only[h,qY,Zg5];cases h1:ay s.b t.b
   .cases ay t.b s.b<;>simp
   .simp[C6 _ _ h1]
 . have h':¬t.a=s.a:=λe=>h e.symm
   simp only[h,h',Zf9];cases h1:ay s.a t.a
   .cases ay t.a s.a<;>simp
   .simp[C6 _ _ h1]
theorem WH(hc:Sem c)(a b:List Nat)(k:Int)(aT:ay a b=true)(st:St)(hw:Wf st):c 303 [.str a,.str b,.int .u8 k] st=some (.agg (Ty.cells ⟨a,b,k⟩),st):=by
 rw[PD hc 1 (r:=(.agg (Ty.cells ⟨a,b,k⟩),ah st (.cells (Ty.cells ⟨a,b,k⟩) 0))),aG (Plain.agg (by simp[Ty.cells,Plain.str,Plain.int])) (cw hw)];rw[Ud];have m1:∀(K:AV->St->Option (AV×St))(s:St),ak c .minB [.str a,.str b] s K=K (.str a) s:=λK s=>aK c K (λH n=>by simp[av.run,Ay,aT]) s
 have m2:∀(K:AV->St->Option (AV×St))(s:St),ak c .maxB [.str a,.str b] s K=K (.str b) s:=λK s=>aK c K (λH n=>by simp[av.run,Az,aT]) s
 simp[m1,m2,cj,aF,di,AV.cells,aL,AV.one,bV,Ty.cells]
def gq(gs:List aM):Nat->Nat->Int×Int
 |0,_=>(0,0)
 |  m+1,k=>match gs[k]? with
    |none=>(0,0)
    |some g=>if eM g≠0 then((k:Int),eM g)else if 0<=scan (fy gs g.name) k 0 then((k:Int),5)else if 64<=k then((k:Int),7)else gq gs m (k+1)
def jz(ts:List Ty)(k:Nat):Option Ty:=if k=0 then none else ts[k - 1]?
def Ac(t:Ty):Bool:=decide (t.k=1)||decide (t.k=2)
def Ks(t:Ty)(p:Option Ty):Bool:= !Ac t|| !ay t.a t.b||(match p with|none=>false|some p=>dO t p)
def mO(t:Ty)(p:Option Ty):Bool:=match p with|none=>false|some p=> !dO p t
def iW(gs:List aM)(t:Ty):Bool:=decide (scan (fy gs t.a) gs.length 0<0)||decide (scan (fy gs t.b) gs.length 0<0)
def ej(gs:List aM)(ts:List Ty):Nat->Nat->Int×Int
 |0,_=>(0,0)
 |  m+1,k=>match ts[k]? with
    |none=>(0,0)
    |some t=>if Ks t (jz ts k)=true then((gs.length:Int)+k,23)else if iW gs t=true then((gs.length:Int)+k,6)
     else if mO t (jz ts k)=true then((gs.length:Int)+k,5)else if 256<=k then((gs.length:Int)+k,7)else ej gs ts m (k+1)
def bG(gs:List aM)(ts:List Ty):Int×Int:=if(gq gs 101 0).2≠0 then gq gs 101 0 else ej gs ts 101 0
theorem Us{gs:List aM}{s:List Nat}{k:Nat}(hk:k<=gs.length):scan (fy (gs.take k) s) k 0=scan (fy gs s) k 0:=
 Oz k 0 λi _ hi=>by simp[fy,Zb8,show i<k by omega]
theorem Gz (gs:List aM)(ts:List Ty):∀(m k:Nat),(ej gs ts m k).2=0->(ej gs ts m k).1=0
 |0,_,_=>rfl
 |m +   1,k , h=>by
  rw[ej]at h ⊢;split at h
  .rfl
  . split   at h
    .   simp at h
    .   split at h
        .simp at h
        . split at h
          .simp at h
          . split at h
            .simp at h
            .rename_i h1 h2 h3 h4;rw[Za5 h1,Za5 h2,Za5 h3,Za5 h4];exact Gz gs ts m (k+1) h
abbrev GF(s:List Nat):List AV:=[.str s]
theorem ab7(l:List (List Nat)):∀r∈l.map GF,r.length=1:=λr hr=>by simp only[Zg0]at hr;obtain⟨m,_,rfl⟩:=hr;rfl
theorem ab8{s:St}(z:Bool)(l:List (List Nat)):Src 1 s (kL z l) (l.map GF):=Src.ro z _
theorem aal(hc:Sem c){src:AV}(l:List (List Nat))(hl:l.length<=1000)(s:St)(hw:Wf s)(h:Src 1 s src (l.map GF)):∃v s',c 319 [src] s=some (v,s')/\Mk 1 s s' v (l.map GF):=by
 rcases h.nil with⟨rfl,h0⟩|hn
 . (refine⟨.af,s,?_,by rw[h0];exact Mk.start hw (Grew.refl hw)⟩;rw[mN hc 1 (r:=(.af,s)),aG Plain.af (bt.refl s)];rw[nR];have e:∀(K:AV->St->Option (AV×St))(s:St),ak c (.bin .eql .slice) [.af,.af] s K=K (.bool true) s:=λK s=>aK c K (λH n=>rfl) s);simp[e]
 .obtain⟨v,s',a1,a2⟩:=QZ (c:=c) (R:=AV×St) (bytes:=16) (z:=[.str []]) (ab7 l) (by decide) (by simp;omega) (by simp;omega) s hw h;obtain⟨gO,t1,t2⟩:=a2.tidy;refine⟨v,gO,?_,t2⟩;rw[mN hc 1 (r:=(v,s')),t1];rw[nR];simp only[aC,hn,eI];rw[a1]
def aM.aA(g:aM)(v:AV):List AV:=[.str g.name,.str g.sZ,.str g.nE,.int .i64 g.since,.int .i64 g.side,.str g.kV,.bool g.host,.bool g.access,v]
theorem aM.aam(g:aM):g.aA (kL g.tz g.tg)=g.cells:=rfl
theorem aM.MG(t:aM){v:AV}(h:aL [v]=true):aL (t.aA v)=true:=by
 simp only[aL]at h;unfold aM.aA;simp only[aL,AV.one,h,Zi8,Zk8]at*
structure aM.Low(g:aM):Prop where
 name:∀x∈g.name,x<256
 sZ:∀x∈g.sZ,x<256
 nE:∀x∈g.nE,x<256
 kV:∀x∈g.kV,x<256
theorem aan(hc:Sem c)(g:aM)(hg:g.Low)(hl:g.tg.length<=1000){src:AV}(s:St)(hw:Wf s)(h:Src 1 s src (g.tg.map GF))(h1:src.cells=[src])(h2:src.one=true):
  ∃v s',c 299 [.agg (g.aA src)] s=some (.agg (g.aA v),s')/\Mk 1 s s' v (g.tg.map GF):=by
 let zero:List AV:=[.str [],.str [],.str [],.int .i64 0,.int .i64 0,.str [],.bool false,.bool false,.af]
 have nI:Wf (ah (ah s (.cells (g.aA src) 0)) (.cells zero 0)):=bK (bK hw);have yP:=(Grew.ah hw (.cells (g.aA src) 0)).trans (Grew.ah (bK hw) (.cells zero 0));obtain⟨v,s3,h3,M⟩:=aal hc g.tg hl _ nI (h.aE yP);have M0:=M.back hw yP;have hx:s3.heap.get s.next=some (.cells (g.aA src) 0):=M.aE.get vO;have hy:s3.heap.get (ah s (.cells (g.aA src) 0)).next=some (.cells zero 0):=M.aE.get (aD _ _);obtain⟨hvc,hvo⟩:=M.cells;have cF:s.next≠(ah s (.cells (g.aA src) 0)).next:=Pos.Pb _;have X5:s.next.toNat<s3.next.toNat:=by have:=M.aE.next;rw[cN,cN,Pos.az,Pos.az]at this;omega
 have abH:(ah s (.cells (g.aA src) 0)).next.toNat<s3.next.toNat:=by have:=M.aE.next;rw[cN,Pos.az]at this;omega
 have vo:v.one=true:=qL hvo;have vE:aF (g.aA src) 8 [v]=g.aA v:=rfl;have Qy:aL (g.aA v)=true:=g.MG hvo;have hro0:aL (g.aA src)=true:=g.MG (by simp only[aL,h2]);have new:∀b,aZ v=some b->(ah s (.cells (g.aA src) 0)).next.toNat<b.toNat:=λb hb=>by have:=M.new b hb;rw[cN,Pos.az]at this;omega
 have CI:s.next.toNat<(ah s (.cells (g.aA src) 0)).next.toNat:=by rw[cN,Pos.az];omega
 let s4:=b9 s3 s.next (.cells (g.aA v) 0)
 let s5:=b9 s4 (ah s (.cells (g.aA src) 0)).next (.cells (g.aA v) 0)
 have hx4:s4.heap.get s.next=some (.cells (g.aA v) 0):=dx _ _ _;have hy4:s4.heap.get (ah s (.cells (g.aA src) 0)).next=some (.cells zero 0):=by show(b9 s3 s.next (.cells (g.aA v) 0)).heap.get _=_;rw[bk cF];exact hy
 have hy5:s5.heap.get (ah s (.cells (g.aA src) 0)).next=some (.cells (g.aA v) 0):=dx _ _ _;have M4:Mk 1 s s4 v (g.tg.map GF):=M0.store (Za6 _) X5 (λe=>by have:=new _ e;omega);have M5:Mk 1 s s5 v (g.tg.map GF):=M4.store (by omega) abH (λe=>by have:=new _ e;omega);have hi:∀u∈g.aA v,iq u:=λu hu=>by
  simp only[aM.aA,Zb1,Ze6,Zj6]at hu;rcases hu with rfl|rfl|rfl|rfl|rfl|rfl|rfl|rfl|rfl
  .exact iq.str hg.name
  .exact iq.str hg.sZ
  .exact iq.str hg.nE
  .exact iq.int _ _
  .exact iq.int _ _
  .exact iq.str hg.kV
  .exact iq.bool _
  .exact iq.bool _
  .exact M.inst
 obtain⟨gO,t1,_,t2⟩:=M5.Gd (l:=g.aA v) (by simp[aM.aA]) hi;refine⟨v,gO,?_,t2⟩;rw[MC hc 1 (r:=(.agg (g.aA v),s5)),t1];rw[Pu];have aN:=λ(K:AV->St->Option (AV×St))=>dh c K s3 1 s.next 8 v (g.aA src) hx (by rw[hvc];rfl) (by simp[aM.aA]) (by rw[hvc];exact hvo)
 rw[hvc,vE]at aN;have jT:=λ(K:AV->St->Option (AV×St))=>dh c K s4 9 (ah s (.cells (g.aA src) 0)).next 0 (.agg (g.aA v)) _ hy4 rfl (by simp[zero,aM.aA]) Qy
 have hsp2:aF zero 0 (AV.agg (g.aA v)).cells=g.aA v:=rfl;rw[hsp2]at jT;have hcut:cut (g.aA v) 0 9=some (g.aA v):=bV rfl;have g8:(g.aA src)[8]? =some src:=rfl;have st2':∀(K:AV->St->Option (AV×St)),ak c (.store 9) [.ptr (ah s (.cells (g.aA src) 0)).next 0,.agg (g.aA v)] (b9 s3 s.next (.cells (g.aA v) 0)) K=K .undef s5:=λK=>jT K
 have bx:∀(K:AV->St->Option (AV×St)),ak c .box [.agg (g.aA src)] s K=K (.ptr s.next 0) (ah s (.cells (g.aA src) 0)):=λK=>by rw[pT];rfl
 simp[bx,h3,g8,zero,aN,hcut];rw[st2'];simp only[hy5,aQ,Ze7,hcut,uQ]
theorem RN(b:Pos)(off:Nat):¬Plain (.ptr b off):=λh=>by
 have:=h (λ_=>⟨0,0,0⟩) (λ_=>⟨0,0,0⟩) (b.toNat+1) 0 (λ_=>none) _ (.ptr b off (by omega));cases this with
 |ptr _ _ h=>omega
theorem ab9{s s':St}{b:Pos}{off:Nat}:tidy s (.ptr b off,s')=(.ptr b off,s'):=by unfold tidy;rw[Za5];exact λh=>RN _ _ h.1
theorem aeA(hc:Sem c)(s:St):c 256 [] s=some (.ptr (ah s (.map [] 0)).next 0,ah (ah s (.map [] 0)) (.cells [.af,.af,.map s.next] 0)):=by
 rw[RK hc 1 (r:=(.ptr (ah s (.map [] 0)).next 0,ah (ah s (.map [] 0)) (.cells [.af,.af,.map s.next] 0))),ab9];rw[Vp];simp[cj,aF,di,AV.cells]
def j0(k:Option Pos)(n es:Nat):AV:=match k with
 |none=>.af
 |some b=>.slice b 0 n none es
theorem GG{k:Option Pos}{n es:Nat}(h:k=none->n=0):∀H p,av.run H p (.lenB .l) [j0 k n es]=some (.val (.int .i64 (n:Int))):=λH p=>by
 cases k with
 |none=>rw[h rfl];rfl
 |some b=>rfl
def Yd(s0 s:St)(bp:Pos)(gk tk:Option Pos)(g:aM)(row:List AV):Prop:=g.Low/\g.tg.length<=4/\∃v,row=g.aA v/\v.cells=[v]/\v.one=true/\QS 1 s v (g.tg.map GF)/\∀p,aZ v=some p->p≠bp/\gk≠some p/\tk≠some p/\s0.heap.get p=none
theorem aao{es:Nat}{s:St}{v:AV}{rows:List (List AV)}(h:QS es s v rows){b:Pos}(hb:aZ v=some b):∃cs,s.heap.get b=some (.cells cs 0):=by
 rcases h with⟨rfl,rfl⟩|⟨b',off,cap,cs,rfl,h1,_⟩|⟨b',off,rfl,rfl⟩
 .cases hb
 .obtain rfl:=QX hb;exact⟨cs,h1⟩
 .rw[jL]at hb;cases hb
theorem Yd.to{s0 s s':St}{bp:Pos}{gk tk HK EP:Option Pos}{g:aM}{row:List AV}(h:Yd s0 s bp gk tk g row)
   (hk:∀p cs,p≠bp->gk≠some p->tk≠some p->s.heap.get p=some (.cells cs 0)->s'.heap.get p=some (.cells cs 0)/\HK≠some p/\EP≠some p):Yd s0 s' bp HK EP g row:=by
 obtain⟨h1,h2,v,h3,h4,h5,h6,h7⟩:=h;refine⟨h1,h2,v,h3,h4,h5,h6.mono λb x hb hx=> ?_,λp hp=> ?_⟩
 .obtain⟨cs,h8⟩:=aao h6 hb;rw[h8]at hx;cases hx;obtain⟨a1,a2,a3,_⟩:=h7 b hb;exact(hk b cs a1 a2 a3 h8).1
 .obtain⟨cs,h8⟩:=aao h6 hp;obtain⟨a1,a2,a3,a4⟩:=h7 p hp;exact⟨a1,(hk p cs a1 a2 a3 h8).2.1,(hk p cs a1 a2 a3 h8).2.2,a4⟩
structure fI(s0 s:St)(bp mp:Pos)(gs:List aM)(ts:List Ty)(gk tk:Option Pos):Prop where
 wf:Wf s
 keeps:bt s0 s
 next:s0.next.toNat<=s.next.toNat
 book:s.heap.get bp=some (.cells [j0 gk gs.length 9,j0 tk ts.length 3,.map mp] 0)
 BW:∃es cl,s.heap.get mp=some (.map es cl)/\es.map (·.1)=gs.map λg=>.str g.name
 qq:(gk=none->gs=[])/\∀b,gk=some b->∃cs,s.heap.get b=some (.cells cs 0)/\cs.length=gs.length*9
 yZ:(tk=none->ts=[])/\∀b,tk=some b->s.heap.get b=some (.cells (ts.flatMap Ty.cells) 0)
 dg:gk≠some bp
 dt:tk≠some bp
 Q7:∀b,gk=some b->tk≠some b
 fb:s0.heap.get bp=none
 fm:s0.heap.get mp=none
 fg:∀b,gk=some b->s0.heap.get b=none
 ft:∀b,tk=some b->s0.heap.get b=none
 MH:∀es cl,s.heap.get mp=some (.map es cl)->∀e∈es,∃i:Nat,e.2.1= .int .i64 (i:Int)/\i<gs.length
 MI:∀es cl,s.heap.get mp=some (.map es cl)->es.map (λe=>e.2.1)=(List.range gs.length).map λ(i:Nat)=>AV.int .i64 (i:Int)
 rows:∀b cs,gk=some b->s.heap.get b=some (.cells cs 0)->∀(i:Nat)(g:aM),gs[i]? =some g->Yd s0 s bp gk tk g ((cs.drop (i*9)).take 9)
theorem fI.lt{s0 s:St}{bp mp:Pos}{gs:List aM}{ts:List Ty}{gk tk:Option Pos}(h:fI s0 s bp mp gs ts gk tk):bp.toNat<s.next.toNat/\mp.toNat<s.next.toNat:=by
 obtain⟨es,cl,h1,_⟩:=h.BW;exact⟨h.wf _ _ h.book,h.wf _ _ h1⟩
theorem fI.aE{s0 s s':St}{bp mp:Pos}{gs:List aM}{ts:List Ty}{gk tk:Option Pos}(h:fI s0 s bp mp gs ts gk tk)(g:Grew s s'):fI s0 s' bp mp gs ts gk tk where
 wf:=g.wf
 keeps:=h.keeps.trans g.keeps
 next:=Zc8 h.next g.next
 book:=g.get h.book
 BW:=let⟨es,cl,h1,h2⟩:=h.BW;⟨es,cl,g.get h1,h2⟩
 qq:=⟨h.qq.1,λb hb=>let⟨cs,h1,h2⟩:=h.qq.2 b hb;⟨cs,g.get h1,h2⟩⟩
 yZ:=⟨h.yZ.1,λb hb=>g.get (h.yZ.2 b hb)⟩
 dg:=h.dg
 dt:=h.dt
 Q7:=h.Q7
 fb:=h.fb
 fm:=h.fm
 fg:=h.fg
 ft:=h.ft
 MH:=λes cl hm=>by obtain⟨ZQ,cl0,h1,h2⟩:=h.BW;have:=g.get h1;rw[hm]at this;cases this;exact h.MH _ _ h1
 MI:=λes cl hm=>by obtain⟨ZQ,cl0,h1,h2⟩:=h.BW;have:=g.get h1;rw[hm]at this;cases this;exact h.MI _ _ h1
 rows:=λb cs hb hs i u hu=>by
  obtain⟨Ut,h1,h2⟩:=h.qq.2 b hb;have:=g.get h1;rw[hs]at this;cases this;exact(h.rows b _ hb h1 i u hu).to λp cs _ a2 a3 hx=>⟨g.get hx,a2,a3⟩
theorem fI.start{s:St}(hw:Wf s):fI s (ah (ah s (.map [] 0)) (.cells [.af,.af,.map s.next] 0)) (ah s (.map [] 0)).next s.next [] [] none none where
 wf:=bK (bK hw)
 keeps:=(cw hw).trans (cw (bK hw))
 next:=by simp only[cN,Pos.az];omega
 book:=aD _ _
 BW:=⟨[],0,vO,rfl⟩
 qq:=⟨λ_=>rfl,λb h=>by cases h⟩
 yZ:=⟨λ_=>rfl,λb h=>by cases h⟩
 dg:=λh=>by cases h
 dt:=λh=>by cases h
 Q7:=λb h=>by cases h
 fb:=by
  cases h:s.heap.get (ah s (.map [] 0)).next with
  |none=>rfl
  |some x=>have:=hw _ _ h;rw[cN,Pos.az]at this;omega
 fm:=by
  cases h:s.heap.get s.next with
  |none=>rfl
  |some x=>have:=hw _ _ h;omega
 fg:=λb h=>by cases h
 ft:=λb h=>by cases h
 MH:=λes cl hm e he=>by have:(ah (ah s (.map [] 0)) (.cells [.af,.af,.map s.next] 0)).heap.get s.next=some (.map [] 0):=vO;rw[hm]at this;cases this;cases he
 MI:=λes cl hm=>by have:(ah (ah s (.map [] 0)) (.cells [.af,.af,.map s.next] 0)).heap.get s.next=some (.map [] 0):=vO;rw[hm]at this;cases this;rfl
 rows:=λb cs h=>by cases h
theorem DI(s:List Nat):∀(gs:List aM)(es:List (AV×AV×Nat))(i:Nat),es.map (·.1)=gs.map (λg=>.str g.name)->
  (s∈gs.map aM.name/\∃j v,jr .s (.str s) es i=some (some (j,v)))\/(s∉gs.map aM.name/\jr .s (.str s) es i=some none)
 |[],es,i,h=>by
  have:es=[]:=by simpa using h
  subst this;exact .inr ⟨by simp,rfl⟩
 |g::gs,[],i,h=>by simp at h
 |g ::gs,(k,v,n)::es,i,h=>by
  simp only[Zd6,Zh2]at h;obtain⟨h1,h2⟩:=h;subst h1;by_cases e:s=g.name
  .subst e;exact .inl ⟨by simp,i,v,by simp[jr,xL,fu]⟩
  . rcases DI s gs es (i+1) h2 with⟨a,b⟩|⟨a,b⟩
    .   left;refine⟨by simp at a ⊢; exact .inr a,?_⟩;simpa [jr,xL,fu,e]using b
    .   right;refine⟨by simp at a ⊢; exact⟨e,a⟩,?_⟩;simpa [jr,xL,fu,e]using b
theorem GH{gs:List aM}{s:List Nat}:0<=scan (fy gs s) gs.length 0↔s∈gs.map aM.name:=by
 constructor
 .intro h;obtain⟨_,h2,h3⟩:=xZ _ _ h;simp only[fy,Zd1]at h3;rw[H5 (by omega)]at h3;simp only[Ze8,H4]at h3;rw[<-h3];exact Zg0.2 ⟨_,Zc6 _,rfl⟩
 . intro  h;obtain⟨g,hg,rfl⟩:=Zg0.1 h;obtain⟨i,hi,rfl⟩:=Zl5.1 hg;have key:∀(m k:Nat),k<=i->i<k+m->0<=scan (fy gs gs[i].name) m k:=by
    intro m;induction m with
    |zero=>intro k h1 h2;omega
    |   succ m ih=>
        intro k h1 h2;unfold scan;split
        .omega
        . rename_i cF;by_cases e:k=i
          .subst e;simp[fy,hi]at cF
          .exact ih (k+1) (by omega) (by omega)
   exact key _ _ (by omega) (by omega)
theorem WI(hc:Sem c)(s:St)(bp mp:Pos)(x y:AV)(h:s.heap.get bp=some (.cells [x,y,.map mp] 0)):c 297 [.ptr bp 0] s=some (.bool false,s):=by
 rw[HY hc 1 (r:=(.bool false,s)),aG (Plain.bool _) (bt.refl s)];rw[KE];have e1:∀(K:AV->St->Option (AV×St))(s:St),ak c (.bin .eql .ptr) [.ptr bp 0,.iC] s K=K (.bool false) s:=λK s=>aK c K (λH n=>rfl) s
 have e2:∀(K:AV->St->Option (AV×St))(s:St),ak c (.bin .eql .map) [.map mp,.nF] s K=K (.bool false) s:=λK s=>aK c K (λH n=>rfl) s
 simp[e1,e2,h]
theorem Ye(z:Bool)(l:List (List Nat)):(kL z l).cells=[kL z l]:=by unfold kL ro;split<;>rfl
theorem acd(z:Bool)(l:List (List Nat)):(kL z l).one=true:=by unfold kL ro;split<;>rfl
theorem WJ{s:List Nat}(h:eP s=true):∀x∈s,x<256:=λx hx=>by simp only[eP,Za8,Zd3,Zd1]at h;have:=h.2 x hx;omega
theorem PT{s:List Nat}(h:ki s=true):∀x∈s,x<256:=λx hx=>by
 simp only[ki,Zh3,Zd1]at h;rcases h with h|h
 .rw[h]at hx;cases hx
 .exact WJ h x hx
theorem Q8{g:aM}(h:eM g=0):g.Low:=by
 unfold eM at h;split at h
 .simp at h
 .rename_i hn;simp only[Bool.not_eq_false,Za8]at hn;exact⟨WJ hn.1.1.1,PT hn.1.1.2,PT hn.1.2,PT hn.2⟩
theorem WM{s:St}(hw:Wf s){k:Option Pos}{n es bytes:Nat}{q:Pos}{row:List AV}(hk:k=none->n=0)(fV:∀b,k=some b->∃cs,s.heap.get b=some (.cells cs 0)/\cs.length=n*es)(hq:s.heap.get q=some (.cells row 0))(hr:row.length=es)
  (h1:aL row=true) (dF:es≠0) (hb:(2*(n+1)+768)*bytes<=281474976710656) (hn:n<=1000):
  ∃ s5 lf,(∀(K:AV->St->Option (AV×St)),ak c (.append es bytes) [j0 k n es,.slice q 0 1 (some 1) es] s K=K (.slice s.next 0 (n+1) none es) s5)/\s5.heap.get s.next=some (.cells lf 0)/\lf.length=(n+1)*es/\
    (∀b cs,k=some b->s.heap.get b=some (.cells cs 0)->lf=cs++row)/\(k=none->lf=row)/\s5.next=s.next.succ/\Wf s5/\∀p,k≠some p->p.toNat<s.next.toNat->s5.heap.get p=s.heap.get p:=by
 have hx:cg es 1 (λb=>s.heap.get b) (.slice q 0 1 (some 1) es)=some row:=by simp only[cg,cQ,Zo4,Za2 dF,hq];exact bV hr
 cases k with
 |none=>
  obtain rfl:=hk rfl;refine⟨ah s (.cells row 0),row,λK=>To c K (m:=1) rfl (by omega) (by omega) (by omega) hx,aD _ _,by omega,λb cs h=>(by cases h),λ_=>rfl,rfl,bK hw,λp _ hp=>pS hp⟩
 |some b=>
  obtain⟨cs,h2,h3⟩:=fV b rfl;have ho:cg es n (λb=>s.heap.get b) (.slice b 0 n none es)=some cs:=by
    by_cases h0:n=0
    .   subst h0;have:cs=[]:=Zb2 (by omega);subst this;simp[cg,cQ]
    .   have:¬n*es=0:=λe=>by rcases Nat.mul_eq_zero.1 e with e|e<;>omega
        simp only[cg,cQ,Za2 this,h2];exact bV h3
  refine⟨dst s b (.cells (cs++row) 0),cs++row,λK=>adq c K (m:=1) rfl (by omega) hb (by omega) h2 ho hx h1,Pc _ _ _,?_,λb' cs2 e h=> ?_,λh=>(by cases h),rfl,Z0 hw,λp hp hl=>NQ (λe=>hp (by rw[e])) hl⟩
  .rw[Zd7,h3,hr,Zi9,Zo4]
  .cases e;rw[h2]at h;cases h;rfl
def qZ(gs:List aM)(g:aM):Int:=if eM g≠0 then eM g else if 0<=scan (fy gs g.name) gs.length 0 then 5 else if gs.length=64 then 7 else 0
theorem aeB (hc : Sem c){s0 s:St}{bp mp:Pos}{gs:List aM}{ts:List Ty}{gk tk:Option Pos}(ER:Wf s0)(B:fI s0 s bp mp gs ts gk tk)(hl:gs.length<=64)(g:aM):
   ∃s',c 257 [.ptr bp 0,.agg g.cells] s=some (.int .i64 (qZ gs g),s')/\(qZ gs g≠0->s'=s)/\(qZ gs g=0->∃HK,fI s0 s' bp mp (gs++[g]) ts HK tk):=by
 have dc:Wf (ah s (.cells g.cells 0)):=bK B.wf;have B1:=B.aE (Grew.ah B.wf (.cells g.cells 0));generalize Oj:ah s (.cells g.cells 0)=s1 at dc B1;have WN:s1.heap.get s.next=some (.cells g.cells 0):=by rw[<-Oj];exact aD _ _
 have kP:=WI hc s1 bp mp _ _ B1.book;have hch:=PN hc g s1 dc;have lG:∀(K:AV->St->Option (AV×St))(s:St),ak c (.lenB .l) [j0 gk gs.length 9] s K=K (.int .i64 (gs.length:Int)) s:=λK s=>aK c K (GG λh=>by rw[B.qq.1 h];rfl) s
 have lG2:∀(K:AV->Option (AV×St)),dJ (.lenB .l) [j0 gk gs.length 9] K=K (.int .i64 (gs.length:Int)):=λK=>bU K (GG λh=>by rw[B.qq.1 h];rfl)
 obtain⟨es,cl,jA,hm2⟩:=B1.BW;have fail:∀e:Int,e≠0->qZ gs g=e->rU c 1 (.ptr bp 0) (.agg g.cells) s=some (.int .i64 e,s1)->∃s',c 257 [.ptr bp 0,.agg g.cells] s=some (.int .i64 (qZ gs g),s')/\(qZ gs g≠0->s'=s)/\(qZ gs g=0->∃HK,fI s0 s' bp mp (gs++[g]) ts HK tk):=λe he ha h=>by
   refine⟨s,?_,λ_=>rfl,λh0=>absurd (ha.symm.trans h0) he⟩;rw[yY hc 1 h,ha,aG (Plain.int _ _) (by rw[<-Oj];exact cw B.wf)]
 have eb:∀(K:AV->St->Option (AV×St)),ak c .box [.agg g.cells] s K=K (.ptr s.next 0) s1:=λK=>by rw[pT, <-Oj];rfl
 have h64:((gs.length:Int)=64)↔gs.length=64:=by omega
 by_cases h1:eM g=0
 . rcases DI  g.name gs es 0 hm2 with⟨qf,j,v,hf⟩|⟨qf,hf⟩
   . have hsc:=GH.2 qf;refine fail 5 (by omega) (by simp[qZ,h1,hsc]) ?_;rw[oO];have lk:=λ(K:AV->Option (AV×St))=>QO K (.int .i64 0) (h:=s1.heap) (k:= .str g.name) jA hf
     simp[eb,kP,hch,h1,WN,B1.book,lk]
   . have hsc: ¬0<=scan (fy gs g.name) gs.length 0:=λh=>qf (GH.1 h)
     have lk:=λ(K:AV->Option (AV×St))=>QO K (.int .i64 0) (h:=s1.heap) (k:= .str g.name) jA hf
     by_cases h2:gs.length=64
     .  have h2d:decide ((gs.length:Int)=64)=true:=Za0 (by omega);refine fail 7 (by omega) (by unfold qZ;rw[Za5 (by simp[h1]),Za5 hsc,Za7 h2]) ?_;rw[oO];simp[eb,kP,hch,h1,WN,B1.book,lk,lG,h2d]
     .  have htg:g.tg.length<=4:=by
          unfold eM at h1;split at h1
          .simp at h1
          . split at h1
            .simp at h1
            . split at h1
              .simp at h1
              . split at h1
                .simp at h1
                .omega
        have he:qZ gs g=0:=(by unfold qZ;rw[Za5 (by simp[h1]),Za5 hsc,Za5 h2]);have h2d:decide ((gs.length:Int)=64)=false:=Za2 (by omega);have lt1:=B1.lt;have pE:s.next.toNat<s1.next.toNat:=(by rw[<-Oj,cN,Pos.az];omega);have Q9:mp≠bp:=λe=>by rw[e,B1.book]at jA;cases jA
        have nmp:mp≠s.next:=λe=>by rw[e,WN]at jA;cases jA
        let Hp:=es++[(AV.str g.name,AV.int .i64 (gs.length:Int),cl)]
        let s2:=b9 s1 mp (.map Hp (cl+1))
        have nI:Wf s2:=Em dc lt1.2;have b2:s2.heap.get bp=some (.cells [j0 gk gs.length 9,j0 tk ts.length 3,.map mp] 0):=(by show(b9 _ _ _).heap.get bp=_;rw[bk Q9];exact B1.book);have p2:s2.heap.get s.next=some (.cells g.cells 0):=(by show(b9 _ _ _).heap.get _=_;rw[bk nmp];exact WN);have m2:s2.heap.get mp=some (.map Hp (cl+1)):=dx _ _ _;obtain⟨v,s3,q1,M⟩:=aan hc g (Q8 h1) (by omega) s2 nI (ab8 g.tz g.tg) (Ye _ _) (acd _ _);rw[aM.aam]at q1
        let row:=g.aA v
        have q2:=M.aE;have q3:row.length=9:=rfl;have vone:v.one=true:=qL M.cells.2;have q4:aL row=true:=g.MG M.cells.2;have hw4:Wf (ah s3 (.cells row 0)):=bK q2.wf;have WO:=q2.trans (Grew.ah q2.wf (.cells row 0));have dL:∀p x,s2.heap.get p=some x->p.toNat<(ah s3 (.cells row 0)).next.toNat:=λp x h=>hw4 p x (WO.get h)
        have fV:∀b,gk=some b->∃cs,(ah s3 (.cells row 0)).heap.get b=some (.cells cs 0)/\cs.length=gs.length*9:=λb hb=>by
          obtain⟨cs,h3,h4⟩:=B1.qq.2 b hb;have:mp≠b:=λe=>by rw[e,h3]at jA;cases jA
          exact⟨cs,WO.get (by show(b9 _ _ _).heap.get b=_;rw[bk this];exact h3),h4⟩
        obtain⟨s5,lf,r1,r2,r3,ra,rb,r4,r5,r6⟩:=WM (c:=c) (es:=9) (bytes:=112) hw4 (k:=gk) (n:=gs.length) (λh=>by rw[B.qq.1 h];rfl) fV (aD _ _) q3 q4 (by omega) (by omega) (by omega);have hs4:(ah s3 (.cells row 0)).next=s3.next.succ:=rfl;have keep:∀p x,s2.heap.get p=some x->gk≠some p->s5.heap.get p=some x:=λp x h cF=>by rw[r6 p cF (dL p x h)];exact WO.get h
        have b5:=keep bp _ b2 B.dg
        let gv:=AV.slice (ah s3 (.cells row 0)).next 0 (gs.length+1) none 9
        let s6:=b9 s5 bp (.cells [gv,j0 tk ts.length 3,.map mp] 0)
        have ace:bp.toNat<s5.next.toNat:=r5 _ _ b5;have nb4:bp≠(ah s3 (.cells row 0)).next:=λe=>by have:=dL _ _ b2;rw[e]at this;omega
        have st6:∀(K:AV->St->Option (AV×St)),ak c (.store 1) [.ptr bp 0,gv] s5 K=K .undef s6:=λK=>dh c K s5 1 bp 0 gv _ b5 rfl (by simp) rfl
        have g6:∀p,p≠bp->s6.heap.get p=s5.heap.get p:=λp h=>bk (λe=>h e.symm)
        have Yf:∀p:Pos,s0.next.toNat<=p.toNat->s0.heap.get p=none:=λp h=>by
          cases hx:s0.heap.get p with
          |none=>rfl
          |some x=>have:=ER _ _ hx;omega
        have nx:s0.next.toNat<=(ah s3 (.cells row 0)).next.toNat:=Zc8 B1.next (Zc8 (by show s1.next.toNat<=s2.next.toNat;exact Za6 _) WO.next)
        have Uu : fI s0 s6 bp mp (gs++[g]) ts (some (ah s3 (.cells row 0)).next) tk:={
          wf:=Em r5 ace
          keeps:=λp x hp=>by
            have n1:p≠bp:=λe=>by rw[e,B.fb]at hp;cases hp
            have n2:mp≠p:=λe=>by rw[<-e,B.fm]at hp;cases hp
            have n3:gk≠some p:=λe=>by rw[B.fg p e]at hp;cases hp
            rw[g6 p n1];exact keep p x (by show(b9 _ _ _).heap.get p=_;rw[bk n2];exact B1.keeps p x hp) n3
          next:=by show s0.next.toNat<=s5.next.toNat;rw[r4,Pos.az];omega
          book:=by show(b9 _ _ _).heap.get bp=_;rw[dx];simp[gv,j0]
          BW:=⟨Hp,cl+1,by
            rw[g6 mp Q9];exact keep mp _ m2 (λe=>by obtain⟨cs,h3,_⟩:=B1.qq.2 mp e;rw[h3]at jA;cases jA),by simp[Hp,hm2]⟩
          qq:=⟨λh=>(by cases h),λb hb=>by cases hb;refine⟨lf,?_,by rw[r3];simp⟩;rw[g6 _ (λe=>nb4 e.symm)];exact r2⟩
          yZ:=⟨B.yZ.1,λb hb=>by
            have h3:=B1.yZ.2 b hb;have n1:b≠bp:=λe=>B.dt (by rw[<-e];exact hb)
            have n2:mp≠b:=λe=>by rw[e,h3]at jA;cases jA
            have n3:gk≠some b:=λe=>B.Q7 b e hb
            rw[g6 b n1];exact keep b _ (by show(b9 _ _ _).heap.get b=_;rw[bk n2];exact h3) n3⟩
          dg:=λe=>nb4 (by injection e with e;exact e.symm)
          dt:=B.dt
          Q7:=λb hb ht=>by
            (cases hb;have h3:=B1.yZ.2 _ ht;have n2:mp≠(ah s3 (.cells row 0)).next:=λe=>by rw[e,h3]at jA;cases jA);have:=dL _ _ (show s2.heap.get (ah s3 (.cells row 0)).next=_ from(bk n2).trans h3);omega
          fb:=B.fb
          fm:=B.fm
          fg:=λb hb=>by cases hb;exact Yf _ nx
          ft:=B.ft
          MH:=λes' cl' hm e he=>by
            have m6:s6.heap.get mp=some (.map Hp (cl+1)):=by
              rw[g6 mp Q9];exact keep mp _ m2 (λe=>by obtain⟨cs,h3,_⟩:=B1.qq.2 mp e;rw[h3]at jA;cases jA)
            rw[hm]at m6;cases m6;rcases Zc9.1 he with he|he
            .obtain⟨i,e1,e2⟩:=B1.MH _ _ jA e he;exact⟨i,e1,by simp;omega⟩
            .simp only[Zb1,Ze6,Zj6]at he;subst he;exact⟨gs.length,rfl,by simp⟩
          MI:=λes' cl' hm=>by
            have m6:s6.heap.get mp=some (.map Hp (cl+1)):=by
              rw[g6 mp Q9];exact keep mp _ m2 (λe=>by obtain⟨cs,h3,_⟩:=B1.qq.2 mp e;rw[h3]at jA;cases jA)
            rw[hm]at m6;cases m6;have h:=B1.MI _ _ jA;rw[Ze2,h,Zd7,List.length_singleton,Zj2,Ze2];rfl
          rows:=  λb cs hb hs i u hu=>by
            cases hb;have Lx:s6.heap.get (ah s3 (.cells row 0)).next=some (.cells lf 0):=(by rw[g6 _ (λe=>nb4 e.symm)];exact r2);rw[hs]at Lx;cases Lx;by_cases hi:i<gs.length
            . rw[Zb7 hi]at hu;cases OE:gk with
              |none=>rw[B.qq.1 OE]at hi;simp at hi
              | some b0=>
                obtain⟨Ut,h3,h4⟩:=B1.qq.2 b0 OE;have n0:mp≠b0:=λe=>by rw[e,h3]at jA;cases jA
                have e0:=ra b0 Ut OE (WO.get (by show(b9 _ _ _).heap.get b0=_;rw[bk n0];exact h3));have R0:=B1.rows b0 Ut OE h3 i u hu;rw[e0,Zg3 (by omega),List.take_append_of_le_length (by simp;omega)];(refine R0.to λp cs a1 a2 a3 hx=> ?_);have n1:mp≠p:=λe=>by rw[e,hx]at jA;cases jA
                have x2:s2.heap.get p=some (.cells cs 0):=(by show(b9 _ _ _).heap.get p=_;rw[bk n1];exact hx);have aT:=dL p _ x2;refine⟨by rw[g6 p a1];exact keep p _ x2 a2,λe=> ?_,a3⟩;cases e;omega
            . have QU:i=gs.length:=(by have:=(Za3.1 hu).1;simp at this;omega);subst QU;simp at hu;subst hu;have er:(lf.drop (gs.length*9)).take 9=row:=by
                cases OE:gk with
                | none=>
                  rw[rb OE,B.qq.1 OE];exact Zf3 (by simp[q3])
                | some b0=>
                  obtain⟨Ut,h3,h4⟩:=B1.qq.2 b0 OE;have n0:mp≠b0:=λe=>by rw[e,h3]at jA;cases jA
                  rw[ra b0 Ut OE (WO.get (by show(b9 _ _ _).heap.get b0=_;rw[bk n0];exact h3)), <-h4];rw[Zg3 (Za6 _)];simp[Zf3 (Nat.le_of_eq q3)]
              (rw[er];have xz:∀p x,s2.heap.get p=some x->p.toNat<s2.next.toNat:=λp x h=>nI p x h);refine⟨Q8 h1,htg,v,rfl,M.cells.1,vone,M.own.mono λb x hb hx=> ?_,λp hp=> ?_⟩
              . have yJ:=M.new b hb;have Nq:=M.own.lt M.aE.wf hb;have nb:b≠bp:=λe=>by have:=xz _ _ b2;rw[e]at yJ;omega
                have ng:gk≠some b:=λe=>by
                  obtain⟨Ut,h3,_⟩:=B1.qq.2 b e;have n0:mp≠b:=λe=>by rw[e,h3]at jA;cases jA
                  have:=xz b _ (by show(b9 _ _ _).heap.get b=_;rw[bk n0];exact h3);omega
                rw[g6 b nb,r6 b ng (by rw[hs4,Pos.az];omega)];exact(Grew.ah q2.wf (.cells row 0)).get hx
              . have yJ:=M.new p hp;have Nq:=M.own.lt M.aE.wf hp;refine⟨λe=>by have:=xz _ _ b2;rw[e]at yJ;omega,λe=> ?_,λe=> ?_,Yf p (by have h9:=B1.next;rw[show s2.next=s1.next from Br _ _ _]at yJ;omega)⟩
                .cases e;rw[hs4,Pos.az]at Nq;omega
                . have h3:=B1.yZ.2 p e;have n2:mp≠p:=λe=>by rw[e,h3]at jA;cases jA
                  have:=xz p _ (by show(b9 _ _ _).heap.get p=_;rw[bk n2];exact h3);omega }
        refine⟨s6,?_,λh=>absurd he h,λ_=>⟨_,Uu⟩⟩;rw[he];rw[yY hc 1 (r:=(.int .i64 0,s6))]
        . rw[Wm (b:=bp) B.book];rw[Uu.book];intro e;have e:=congrArg (λo=>match o with|some (AB.cells (v::_) _)=>cS v|_=>none) e;simp only[j0,cS]at e;cases gk with
          |none=>simp[cS,B.qq.1 rfl]at e
          |some b=>simp[cS]at e
        (rw[oO];have stm:=λ(K:AV->St->Option (AV×St))=>Vi c K (v:= .int .i64 (gs.length:Int)) jA hf);have bq:fj (j0 gk gs.length 9) (j0 gk gs.length 9)=true:=(by cases gk;exact Mo;exact IP _ _ _ _);have b3:s3.heap.get bp=some (.cells [j0 gk gs.length 9,j0 tk ts.length 3,.map mp] 0):=q2.get b2;have u5:=λ(K:AV->Option (AV×St))=>xV K (p:=bp) (o:=0) (h:=s3.heap) (h2:=s2.heap) (v:=j0 gk gs.length 9) (by rw[b3];rfl) (by rw[b2];rfl) bq
        have Aj:cj (bM [AV.str [],AV.str [],AV.str [],.int .i64 0,.int .i64 0,.str [],.bool false,.bool false,.af] 1) [(0,9)] [AV.agg (g.aA v)]=some row:=by
          have:(g.aA v).length=9:=q3;show _=some (g.aA v);simp[cj,bM,cQ,di,this,aF]
        simp[eb,kP,hch,h1,WN,B1.book,lk,lG,lG2,h2d,stm];show zm ((cellsOf (T.get s.next s2.heap)).bind λcs=>cut cs 0 9) _=_;rw[p2];simp only[aQ,Ze7,aM.cc,uQ];show Ml (c 299 [AV.agg g.cells] s2) _=_;rw[q1];simp only[eZ];show kR (.load none) [.ptr bp 0] s3.heap (λv=>pP (.load none) [.ptr bp 0] v (vu [] s2.heap)) _=_;rw[u5];simp only[Aj,uQ,r1];exact st6 _
 .refine fail (eM g) h1 (by simp[qZ,h1]) ?_;rw[oO];simp[eb,kP,hch,h1,WN]
theorem GJ{r s t:Ty}(h:dO r s=true)(k:dO s t=true):dO r t=true:=by
 simp only[dO,Zh3,Za8,Zd1]at h k ⊢;rcases h with h|⟨h1,h2⟩<;>rcases k with k|⟨k1,k2⟩
 .exact .inl (Gy _ _ _ h k)
 .exact .inl (by rw[<-k1];exact h)
 .exact .inl (by rw[h1];exact k)
 .exact .inr ⟨h1.trans k1,Gy _ _ _ h2 k2⟩
theorem Yg{s t:Ty}(h:dO s t=false)(k:dO t s=false):s.a=t.a/\s.b=t.b:=by simp only[dO,Zl6]at h k;have e:=wH _ _ h.1 k.1;refine⟨e,?_⟩;have h2:=h.2;have k2:=k.2;simp only[e,Zg2,Zf4]at h2 k2;exact wH _ _ h2 k2
theorem adJ{r s t:Ty}(h:dO r s=true)(k:dO t s=false):dO r t=true:=by
 cases h2:dO s t
 .obtain⟨e1,e2⟩:=Yg h2 k;unfold dO at h ⊢; rw[<-e1, <-e2];exact h
 .exact GJ h h2
theorem acX{x:Int}(h1:0<=x)(h2:x<=18446744073709551615):aq .u64 x=x:=by
 unfold aq Qc Qd;simp only;split
 . split
   .rfl
   .contradiction
 .contradiction
theorem Uv(K:AV->St->Option (AV×St))(st:St)(a:Nat):ak c (.bin .shr .num) [.int .u64 (a:Int),.int .u64 1] st K=K (.int .u64 ((a / 2:Nat):Int)) st:=by
 refine aK c K (λH n=> ?_) st;have:(a:Int).fdiv 2=((a / 2:Nat):Int):=by rw[Zp3 _ (by omega)];rfl
 simp only[av.run,gI,lC,dN];show some (cq.val (AV.int .u64 ((a:Int).fdiv 2)))=_;rw[this]
theorem Uw(H:Pos->Option AB)(n:Pos)(es:Nat)(b:Pos)(len:Nat)(k:IntKind)(i:Nat)(h:i<len):av.run H n (.idxA es none) [.slice b 0 len none es,.int k (i:Int)]=some (.val (.ptr b (i*es))):=by
 simp[av.run,nG,fO,Ap,h]
theorem Bs(ts:List Ty)(i:Nat)(h:i<ts.length):cut (ts.flatMap Ty.cells) (i*3) 3=some ts[i].cells:=by
 induction ts generalizing i with
 |nil=>simp at h
 |cons t ts ih=>
  cases i with
  |zero=>rw[Zn5];unfold cut;rw[di,Za0 (by simp[Ty.len])];simp[Ty.cells]
  |succ i=>
   have h':i<ts.length:=(by simpa using h);have:=ih i h';unfold cut at this ⊢;rw[di]at this ⊢;(split at this<;>first|(cases this;done)|skip);rename_i hle;simp only[Zd1]at hle;rw[Za0 (by rw[Zn5,Zd7,Ty.len];omega)];simp only[H4]at this ⊢;rw[Zn5,show(i+1)*3=i*3+1+1+1 by omega,List.getElem_cons_succ, <-this];rfl
theorem adK(hc:Sem c)(ts:List Ty)(hl:ts.length<=1000)(t:Ty)(q:Nat)(hq:q<=ts.length)(xz:∀h (hh:h<ts.length),h<q->dO ts[h] t=true)(hhi:∀h (hh:h<ts.length),q<=h->dO ts[h] t=false)
  (b:Pos) (x4:Pos) (s:St) (hw:Wf s) (hb:s.heap.get b=some (.cells (ts.flatMap Ty.cells) 0)) (hx:s.heap.get x4=some (.cells t.cells 0)) (F:Nat) (k2):∀(m i j:Nat),j<=i+m->i<=q->q<=j->j<=ts.length->
  aR c F k2 (m+1) [.slice b 0 ts.length none 3,.func 258 [] [],.ptr x4 0,.int .i64 (ts.length:Int),.int .i64 (i:Int),.int .i64 (j:Int)] s=
    k2 [.slice b 0 ts.length none 3,.func 258 [] [],.ptr x4 0,.int .i64 (ts.length:Int),.int .i64 (q:Int)] s:=by
 intro m;induction m with
 |zero=>
  intro i j h1 h2 h3 h4;obtain rfl:i=q:=by omega
  obtain rfl:j=i:=by omega
  rw[c9];simp
 |succ m ih=>
  intro i j h1 h2 h3 h4;rw[c9];by_cases h:i<j
  . let d:=(i+j) / 2
    have hd1:i<=d:=(by omega);have Nr:d<j:=(by omega);have WQ:d<ts.length:=(by omega);have w1:aq .i64 ((i:Int)+(j:Int))=((i+j:Nat):Int):=(by rw[wrap64 (by omega) (by omega)];omega);have w2:aq .u64 ((i+j:Nat):Int)=((i+j:Nat):Int):=acX (by omega) (by omega);have w3:aq .i64 (((i+j) / 2:Nat):Int)=((d:Nat):Int):=wrap64 (by omega) (by omega);have w4:aq .i64 ((d:Int)+1)=((d+1:Nat):Int):=wrap64 (by omega) (by omega);have ix:=λ(K:AV->Option (AV×St))=>bU K (λH n=>Uw H n 3 b ts.length .i64 d WQ)
    have ho:=BV hc ts[d] t s hw;have fg:=Bs ts d WQ
    clear_value d
    by_cases hn:d<q
    .   have acf:nX ts[d] t<0:=PR.2 (xz d WQ hn);rw[<-ih (d+1) j (by omega) (by omega) h3 h4];simp only[aB,bu,aC,eJ,Int.ofNat_lt,h,Zg2,e8,iA,w1,Mm,w2,Uv,w3,cZ,ix,Dx,hb,fg,hx,aQ,Ze7,Ty.cc,uQ,IL,Ze0,Zf0,Zf7,ho,eZ,Wa,acf,w4]
    .   have acf:¬nX ts[d] t<0:=λe=>by have:=PR.1 e;rw[hhi d WQ (by omega)]at this;cases this
        rw[<-ih i d (by omega) h2 (by omega) (by omega)];simp only[aB,bu,aC,eJ,Int.ofNat_lt,h,Zg2,e8,iA,w1,Mm,w2,Uv,w3,cZ,ix,Dx,hb,fg,hx,aQ,Ze7,Ty.cc,uQ,IL,Ze0,Zf0,Zf7,ho,eZ,Wa,acf,decide_false,eI]
  .obtain rfl:i=q:=(by omega);obtain rfl:j=i:=(by omega);simp
def BX(ts:List Ty)(t:Ty)(q:Nat):Bool:=match ts[q]? with
 |some u=>decide (nX u t=0)
 |none=>false
theorem acg(x4:Pos)(s:St)(F:Nat)(k2)(m:Nat):aR c F k2 (m+1) [.af,.func 258 [] [],.ptr x4 0,.int .i64 0,.int .i64 0,.int .i64 0] s=
  k2 [.af,.func 258 [] [],.ptr x4 0,.int .i64 0,.int .i64 0] s:=by
 rw[c9];simp
def slvT(k:Option Pos)(n:Nat):AV:=match k with
 |none=>.af
 |some b=>.slice b (0+n*3) (n - n) none 3
theorem afu(hc:Sem c)(ts:List Ty)(hl:ts.length<=1000)(t:Ty)(q:Nat)(hq:q<=ts.length)(xz:∀h (hh:h<ts.length),h<q->dO ts[h] t=true)(hhi:∀h (hh:h<ts.length),q<=h->dO ts[h] t=false)
  (tk:Option Pos) (s:St) (hw:Wf s) (h0:tk=none->ts=[]) (hb:∀b,tk=some b->s.heap.get b=some (.cells (ts.flatMap Ty.cells) 0)):
  c 321 [j0 tk ts.length 3,.agg t.cells,.func 258 [] []] s=some (.tuple [.int .i64 (q:Int),.bool (BX ts t q)],s):=by
 have dc:Wf (ah s (.cells t.cells 0)):=bK hw;have pE:Plain (.tuple [.int .i64 (q:Int),.bool (BX ts t q)]):=Plain.tuple (by simp[Plain.int,Plain.bool]);rw[kT hc 1001 (r:=(.tuple [.int .i64 (q:Int),.bool (BX ts t q)],ah s (.cells t.cells 0))),aG pE (cw hw)];rw[lu];cases tk with
 |none=>
  obtain rfl:=h0 rfl;obtain rfl:q=0:=by simpa using hq
  have l0:∀(K:AV->St->Option (AV×St))(s:St),ak c (.lenB .l) [.af] s K=K (.int .i64 0) s:=λK s=>aK c K (λH n=>rfl) s
  have L:∀k2,aR c 1001 k2 1001 [.af,.func 258 [] [],.ptr s.next 0,.int .i64 0,.int .i64 0,.int .i64 0] (ah s (.cells t.cells 0))=_:=λk2=>acg (c:=c) s.next _ 1001 k2 1000
  simp only[j0,pT,aC,l0,Jx,L,aB,bu,Zj8];simp[BX,l0,L]
 |some b=>
  have yJ:(ah s (.cells t.cells 0)).heap.get b=some (.cells (ts.flatMap Ty.cells) 0):=cw hw _ _ (hb b rfl);have l0:∀(K:AV->St->Option (AV×St))(s:St),ak c (.lenB .l) [.slice b 0 ts.length none 3] s K=K (.int .i64 (ts.length:Int)) s:=λK s=>aK c K (λH n=>rfl) s
  have L:∀k2,aR c 1001 k2 1001 [.slice b 0 ts.length none 3,.func 258 [] [],.ptr s.next 0,.int .i64 (ts.length:Int),.int .i64 0,.int .i64 (ts.length:Int)] (ah s (.cells t.cells 0))=
    k2 [.slice b 0 ts.length none 3,.func 258 [] [],.ptr s.next 0,.int .i64 (ts.length:Int),.int .i64 (q:Int)] (ah s (.cells t.cells 0)):=
    λk2=>adK hc ts hl t q hq xz hhi b s.next _ dc yJ (aD _ _) 1001 k2 1000 0 ts.length (by omega) (by omega) (by omega) (by omega)
  simp only[j0,pT,aC,l0,Jx,L,aB,bu];by_cases h:q<ts.length
  . have ix:=λ(K:AV->Option (AV×St))=>bU K (λH n=>Uw H n 3 b ts.length .i64 q h)
    have ho:=BV hc ts[q] t _ dc;have fg:=Bs ts q h;have ef:BX ts t q=decide (nX ts[q] t=0):=(by unfold BX;rw[H5 h]);simp[h,ix,yJ,fg,ho,ef,AV.cells]
  .have ef:BX ts t q=false:=(by unfold BX;rw[Zc0 (by omega)]);simp[h,ef,AV.cells]
def ES(ts:List Ty)(t:Ty):Nat:=match ts.getLast? with
 |none=>0
 |some u=>if dO u t=true then ts.length else ts.length - 1
def Jy(ts:List Ty):Prop:=∀i j (hj:j<ts.length)(WS:i<j),dO (ts[i]'(by omega)) ts[j]=true
theorem aeC{ts:List Ty}{t:Ty}(hs:Jy ts)(ht:∀u,ts.getLast? =some u->dO t u=false):ES ts t<=ts.length/\(∀h (hh:h<ts.length),h<ES ts t->dO ts[h] t=true)/\(∀h (hh:h<ts.length),ES ts t<=h->dO ts[h] t=false)/\
  BX ts t (ES ts t)=mO t ts.getLast? :=by
 unfold ES;cases hl:ts.getLast? with
 |none=>
  have:ts=[]:=by simpa using hl
  subst this;simp[BX,mO]
 |some u=>
  have cF:ts≠[]:=λe=>by subst e;simp at hl
  have SA:0<ts.length:=List.length_pos_iff.2 cF;have hu:ts[ts.length - 1]'(by omega)=u:=by have:=List.getLast?_eq_getElem? (l:=ts);rw[hl,H5 (by omega)]at this;exact(Zh4 this).symm
  have htu:=ht u hl;simp only;cases hb:dO u t
  . simp only[Zf1,Zf9];refine⟨by omega,λh hh aT=> ?_,λh hh hle=> ?_,?_⟩
    .   have:=hs h (ts.length - 1) (by omega) aT;rw[hu]at this;exact adJ this htu
    .   obtain rfl:h=ts.length - 1:=(by omega);rw[hu];exact hb
    .   (unfold BX;rw[H5 (by omega),hu];have h1:¬nX u t<0:=λe=>by rw[PR.1 e]at hb;cases hb);have h2:¬0<nX u t:=λe=>by rw[Kr.1 e]at htu;cases htu
        have:nX u t=0:=(by omega);simp[this,mO,hb]
  . simp only[Zg5];refine⟨by omega,λh hh _=> ?_,λh hh hle=>by omega,?_⟩
    .   by_cases e:h=ts.length - 1
        .subst e;rw[hu];exact hb
        .have:=hs h (ts.length - 1) (by omega) (by omega);rw[hu]at this;exact GJ this hb
    .   unfold BX;rw[Zc0 (by omega)];simp[mO,hb]
theorem TG(hc:Sem c){s0 s:St}{bp mp:Pos}{gs:List aM}{ts:List Ty}{gk tk:Option Pos}(B:fI s0 s bp mp gs ts gk tk)(hl:ts.length<=1000)(t:Ty)(aT:ay t.a t.b=true)(hs:Jy ts)(ht:∀u,ts.getLast? =some u->dO t u=false):
  c 301 [.ptr bp 0,.str t.a,.str t.b] s=some (.tuple [.int .i64 (ES ts t:Int),.bool (mO t ts.getLast?)],s):=by
 obtain⟨p1,p2,p3,p4⟩:=aeC hs ht;rw[<-p4];have e0:∀u:Ty,dO u ⟨t.a,t.b,0⟩=dO u t:=λu=>rfl
 have e1:BX ts ⟨t.a,t.b,0⟩ (ES ts t)=BX ts t (ES ts t):=rfl;have hpr:=WH hc t.a t.b 0 aT s B.wf;have Hj:=afu hc ts hl ⟨t.a,t.b,0⟩ (ES ts t) p1 (λh hh hq=>by rw[e0];exact p2 h hh hq) (λh hh hq=>by rw[e0];exact p3 h hh hq) tk s B.wf B.yZ.1 B.yZ.2;rw[e1]at Hj;rw[Gw hc 1 (r:=(.tuple [.int .i64 (ES ts t:Int),.bool (BX ts t (ES ts t))],s)),aG (Plain.tuple (by simp[Plain.int,Plain.bool])) (bt.refl s)];rw[Jp];have bq:fj (j0 tk ts.length 3) (j0 tk ts.length 3)=true:=by cases tk;exact Mo;exact IP _ _ _ _
 have u5:=λ(K:AV->Option (AV×St))=>xV K (p:=bp) (o:=1) (h:=s.heap) (h2:=s.heap) (v:=j0 tk ts.length 3) (by rw[B.book];rfl) (by rw[B.book];rfl) bq
 simp[hpr,u5,Hj]
theorem mL(b:Pos)(off n es:Nat):¬Plain (.slice b off n none es):=λh=>by have:=h (λ_=>⟨0,0,off+n*es⟩) (λ_=>⟨0,0,0⟩) (b.toNat+1) 0 (λ_=>none) _ (.slice b off n none es n ⟨0,0+off,none⟩ (Za6 _) (λc h=>by cases h) (λ_=>⟨by omega,rfl,by simp⟩) (λ_=>by omega));have:=this.Qj rfl;omega
theorem aap(hc:Sem c){s:St}(hw:Wf s){tk:Option Pos}{ts:List Ty}{q:Pos}{row:List AV}(h0:tk=none->ts=[])(hb:∀b,tk=some b->s.heap.get b=some (.cells (ts.flatMap Ty.cells) 0))(hq:s.heap.get q=some (.cells row 0))(hr:row.length=3)
   (h1:aL row=true) (hl:ts.length<=1000):
   ∃ s5,c 302 [j0 tk ts.length 3,.int .i64 (ts.length:Int),.slice q 0 1 (some 1) 3] s=some (.slice s.next 0 (ts.length+1) none 3,s5)/\s5.heap.get s.next=some (.cells (ts.flatMap Ty.cells++row) 0)/\
     s5.next=s.next.succ/\Wf s5/\∀p,tk≠some p->p.toNat<s.next.toNat->s5.heap.get p=s.heap.get p:=by
 have hlen:∀ts:List Ty,(ts.flatMap Ty.cells).length=ts.length*3:=λts=>by
   induction ts with
   |nil=>rfl
   |cons t ts ih=>rw[Zn5,Zd7,ih,Ty.len,Zd4];omega
 obtain⟨s5,lf,r1,r2,r3,r4,r5,r6,r7,r8⟩:=WM (c:=c) (es:=3) (bytes:=40) hw (k:=tk) (n:=ts.length) (λh=>by rw[h0 h];rfl) (λb Nq=>⟨_,hb b Nq,hlen ts⟩) hq hr h1 (by omega) (by omega) (by omega);refine⟨s5,?_,?_,r6,r7,r8⟩
 . rw[tH hc 1 (r:=(.slice s.next 0 (ts.length+1) none 3,s5))]
   .unfold tidy;rw[Za5];exact λh=>mL _ _ _ _ h.1
   rw[vq];have sl:∀(K:AV->St->Option (AV×St))(s:St),ak c (.sliceL 3 true false false) [j0 tk ts.length 3,.int .i64 (ts.length:Int)] s K=K (slvT tk ts.length) s:=λK s=>by
     refine aK c K (λH n=> ?_) s;cases tk with
     |none=>rw[h0 rfl];rfl
     |some b=>simp[j0,slvT,av.run,iK,bounds,fO,cQ,di]
   have l1:∀(K:AV->St->Option (AV×St))(s:St),ak c (.lenB .l) [.slice q 0 1 (some 1) 3] s K=K (.int .i64 1) s:=λK s=>aK c K (λH n=>rfl) s
   have l2:∀(K:AV->St->Option (AV×St))(s:St),ak c (.lenB .l) [j0 tk ts.length 3] s K=K (.int .i64 (ts.length:Int)) s:=λK s=>aK c K (GG λh=>by rw[h0 h];rfl) s
   simp[sl,l1,l2,r1]
 . cases tk with
   |none=>rw[r2,r5 rfl,h0 rfl];rfl
   |some b=>rw[r2,r4 b _ rfl (hb b rfl)]
def q7(gs:List aM)(ts:List Ty)(t:Ty):Int:=if Ac t=false then 23 else if iW gs t=true then 6 else if mO t ts.getLast? =true then 5 else 0
theorem Ux(H:Pos->Option AB)(n:Pos)(es:Nat)(b:Pos)(len:Nat)(cp:Option Nat)(k:IntKind)(i:Nat)(h:i<len):av.run H n (.idxA es none) [.slice b 0 len cp es,.int k (i:Int)]=some (.val (.ptr b (i*es))):=by
 simp[av.run,nG,fO,Ap,h]
theorem WT{gs:List aM}{es:List (AV×AV×Nat)}(h:es.map (·.1)=gs.map λg=>.str g.name)(s:List Nat):
   (¬scan (fy gs s) gs.length 0<0/\∃j v,jr .s (.str s) es 0=some (some (j,v)))\/(scan (fy gs s) gs.length 0<0/\jr .s (.str s) es 0=some none):=by
 rcases DI s gs es 0 h with⟨a,b⟩|⟨a,b⟩
 .left;have:=GH.2 a;exact⟨by omega,b⟩
 . (right;refine⟨?_,b⟩;have:¬0<=scan (fy gs s) gs.length 0:=λe=>a (GH.1 e));omega
theorem ach{s:St}{bp mp:Pos}{x y:AV}{es:List (AV×AV×Nat)}{cl:Nat}{gs:List aM}(hb:s.heap.get bp=some (.cells [x,y,.map mp] 0))(hm:s.heap.get mp=some (.map es cl))(he:es.map (·.1)=gs.map λg=>.str g.name)
   (t:Ty) (lb:Pos) (Uy:s.heap.get lb=some (.cells [.str t.a,.str t.b] 0)) (F:Nat) (k1 k2):
   jH c F k1 k2 3 [.ptr bp 0,.str t.a,.str t.b,.int .u8 t.k,.slice lb 0 2 (some 2) 1,.int .i64 2,.int .i64 ((0:Nat):Int)] s=if iW gs t=true then k1 [.int .i64 6] s else k2 [.ptr bp 0,.str t.a,.str t.b,.int .u8 t.k] s:=by
 have w0:aq .i64 (((0:Nat):Int)+1)=((1:Nat):Int):=rfl;have w1:aq .i64 (((1:Nat):Int)+1)=((2:Nat):Int):=rfl;have i0:∀(K:AV->St->Option (AV×St))(s:St),ak c (.idxA 1 none) [.slice lb 0 2 (some 2) 1,.int .i64 ((0:Nat):Int)] s K=K (.ptr lb 0) s:=λK s=>aK c K (λH n=>Ux H n 1 lb 2 (some 2) .i64 0 (by omega)) s
 have i1:∀(K:AV->St->Option (AV×St))(s:St),ak c (.idxA 1 none) [.slice lb 0 2 (some 2) 1,.int .i64 ((1:Nat):Int)] s K=K (.ptr lb 1) s:=λK s=>aK c K (λH n=>Ux H n 1 lb 2 (some 2) .i64 1 (by omega)) s
 have d0:decide (((0:Nat):Int)<2)=true:=rfl;have d1:decide (((1:Nat):Int)<2)=true:=rfl;have d2:decide (((2:Nat):Int)<2)=false:=rfl;have e0:([AV.str t.a,.str t.b]:List AV)[0]? =some (.str t.a):=rfl;have e1:([AV.str t.a,.str t.b]:List AV)[1]? =some (.str t.b):=rfl;have e2:([x,y,AV.map mp]:List AV)[2]? =some (.map mp):=rfl;rw[p9];rcases WT he t.a with⟨n1,j,v,f1⟩|⟨n1,f1⟩
 . have lk1:=λ(K:AV->St->Option (AV×St))=>CP c K (.int .i64 0) (k:= .str t.a) hm f1
   simp only[aB,bu,eJ,d0,e8,i0,iG,Uy,hb,aQ,Ze7,e0,e2,uP,aC,rR,cC,Zd9,lk1,yw,Zb3,Ze5,rQ,Zk0,eI,iA,w0];rw[p9];rcases WT he t.b with⟨n2,j,v,f2⟩|⟨n2,f2⟩
   . have lk2:=λ(K:AV->St->Option (AV×St))=>CP c K (.int .i64 0) (k:= .str t.b) hm f2
     simp only[aB,bu,eJ,d1,e8,i1,iG,Uy,hb,aQ,Ze7,e1,e2,uP,aC,rR,cC,Zd9,lk2,yw,Zb3,Ze5,rQ,Zk0,eI,iA,w1];rw[p9];have:iW gs t=false:=(by simp[iW,n1,n2]);rw[this];simp only[aB,bu,eJ,d2,eI,Zf1,Zf9]
   . have lk2:=λ(K:AV->St->Option (AV×St))=>CP c K (.int .i64 0) (k:= .str t.b) hm f2
     have:iW gs t=true:=(by simp[iW,n2]);rw[this];simp only[aB,bu,eJ,d1,e8,i1,iG,Uy,hb,aQ,Ze7,e1,e2,uP,aC,rR,cC,Zd9,lk2,yw,Zb3,Ze5,rQ,Zn0,Zg5]
 . have lk1:=λ(K:AV->St->Option (AV×St))=>CP c K (.int .i64 0) (k:= .str t.a) hm f1
   have:iW gs t=true:=(by simp[iW,n1]);rw[this];simp only[aB,bu,eJ,d0,e8,i0,iG,Uy,hb,aQ,Ze7,e0,e2,uP,aC,rR,cC,Zd9,lk1,yw,Zb3,Ze5,rQ,Zn0,Zg5]
theorem aeD (hc:Sem c){s0 s:St}{bp mp:Pos}{gs:List aM}{ts:List Ty}{gk tk:Option Pos}(ER:Wf s0)(B:fI s0 s bp mp gs ts gk tk)(hl:ts.length<=200)(t:Ty)(aT:ay t.a t.b=true)(hs:Jy ts)(ht:∀u,ts.getLast? =some u->dO t u=false):
   ∃s',c 259 [.ptr bp 0,.str t.a,.str t.b,.int .u8 t.k] s=some (.int .i64 (q7 gs ts t),s')/\(q7 gs ts t≠0->s'=s)/\(q7 gs ts t=0->∃EP,fI s0 s' bp mp gs (ts++[t]) gk EP):=by
 have cF:¬t.a=t.b:=λe=>by rw[e,qY]at aT;cases aT
 have kP:=WI hc s bp mp _ _ B.book;have WU:Ac t=true->(t.k=1\/(¬t.k=1/\t.k=2)):=λq=>by
   simp only[Ac,Zh3,Zd1]at q;by_cases e:t.k=1
   .exact .inl e
   .exact .inr ⟨e,q.resolve_left e⟩
 by_cases hk:Ac t=true
 . have dc  :Wf (ah s (.cells [.str t.a,.str t.b] 0)):=bK B.wf;have B1:=B.aE (Grew.ah B.wf (.cells [.str t.a,.str t.b] 0));have Ly:=Grew.ah B.wf (.cells [.str t.a,.str t.b] 0);have Uy:(ah s (.cells [.str t.a,.str t.b] 0)).heap.get s.next=some (.cells [.str t.a,.str t.b] 0):=aD _ _;generalize Oj:ah s (.cells [.str t.a,.str t.b] 0)=s1 at dc B1 Ly Uy;obtain⟨es,cl,jA,hm2⟩:=B1.BW;have L:∀k1 k2,jH c 3 k1 k2 3 [.ptr bp 0,.str t.a,.str t.b,.int .u8 t.k,.slice s.next 0 2 (some 2) 1,.int .i64 2,.int .i64 0] s1=if iW gs t=true then k1 [.int .i64 6] s1 else k2 [.ptr bp 0,.str t.a,.str t.b,.int .u8 t.k] s1:=λk1 k2=>ach (c:=c) B1.book jA hm2 t s.next Uy 3 k1 k2
   have pE:=TG hc B1 (by omega) t aT hs ht;have l2:∀(K:AV->St->Option (AV×St))(s:St),ak c (.lenB .l) [.slice (ah s (.cells [] 0)).next 0 2 (some 2) 1] s K=K (.int .i64 2) s:=λK s=>aK c K (λH n=>rfl) s
   have lT:∀(K:AV->St->Option (AV×St))(s:St),ak c (.lenB .l) [j0 tk ts.length 3] s K=K (.int .i64 (ts.length:Int)) s:=λK s=>aK c K (GG λh=>by rw[B.yZ.1 h];rfl) s
   have WV:∀(K:AV->St->Option (AV×St)),ak c (.buildSlice 1 2 [(.str [])] [0,1]) [.str t.a,.str t.b] s K=K (.slice s.next 0 2 (some 2) 1) s1:=λK=>by rw[bf, <-Oj];have:cj (bM [AV.str []] 2) ([0,1].map λi=>(i*1,1)) [.str t.a,.str t.b]=some [.str t.a,.str t.b]:=(by simp[cj,bM,cQ,di,aF,AV.cells]);rw[this];rfl
   have l3:∀(K:AV->St->Option (AV×St))(p:Pos)(s:St),ak c (.lenB .l) [.slice p 0 2 (some 2) 1] s K=K (.int .i64 2) s:=λK p s=>aK c K (λH n=>rfl) s
   have PU:¬(ts.length:Int)=256:=(by omega);have fail:∀e:Int,e≠0->q7 gs ts t=e->rV c 3 (.ptr bp 0) (.str t.a) (.str t.b) (.int .u8 t.k) s=some (.int .i64 e,s1)->∃s',c 259 [.ptr bp 0,.str t.a,.str t.b,.int .u8 t.k] s=some (.int .i64 (q7 gs ts t),s')/\(q7 gs ts t≠0->s'=s)/\(q7 gs ts t=0->∃EP,fI s0 s' bp mp gs (ts++[t]) gk EP):=λe he ha h=>by
     refine⟨s,?_,λ_=>rfl,λh0=>absurd (ha.symm.trans h0) he⟩;rw[qW hc 3 h,ha,aG (Plain.int _ _) Ly.keeps]
   cases hu:iW gs t
   . cases  hd:mO t ts.getLast?
     .  have he:q7 gs ts t=0:=(by simp[q7,hk,hu,hd]);rw[hd]at pE;have hplc:(ES ts t:Int)=ts.length:=by
          unfold ES;cases hq:ts.getLast? with
          |none=> have:ts=[]:=by simpa using hq
                  subst this;rfl
          | some u=>
            rw[hq]at hd;simp only[mO,Bool.not_eq_false']at hd;simp only[hd,Zg5]
        rw[hplc]at pE;have hpr:=WH hc t.a t.b t.k aT s1 dc
        let s2:=ah s1 (.cells t.cells 0)
        have g2:=Grew.ah dc (.cells t.cells 0);have B2:=B1.aE g2;obtain⟨s5,r1,r2,r3,r4,r5⟩:=aap hc (s:=s2) g2.wf (tk:=tk) (ts:=ts) (q:=s1.next) (row:=t.cells) B.yZ.1 B2.yZ.2 (aD _ _) rfl t.one (by omega);have lt2:=B2.lt;have b5:s5.heap.get bp=some (.cells [j0 gk gs.length 9,j0 tk ts.length 3,.map mp] 0):=by rw[r5 bp B.dt lt2.1];exact B2.book
        let tv:=AV.slice s2.next 0 (ts.length+1) none 3
        let s6:=b9 s5 bp (.cells [j0 gk gs.length 9,tv,.map mp] 0)
        have ace:bp.toNat<s5.next.toNat:=r4 _ _ b5;have nb2:bp≠s2.next:=λe=>absurd (show bp.toNat<s2.next.toNat from lt2.1) (by rw[e];exact Zo1 _)
        have st6:∀(K:AV->St->Option (AV×St)),ak c (.store 1) [.ptr bp 1,tv] s5 K=K .undef s6:=λK=>dh c K s5 1 bp 1 tv _ b5 rfl (by simp) rfl
        have g6:∀p,p≠bp->s6.heap.get p=s5.heap.get p:=λp h=>bk (λe=>h e.symm)
        have Yf:∀p:Pos,s0.next.toNat<=p.toNat->s0.heap.get p=none:=λp h=>by
          cases hx:s0.heap.get p with
          |none=>rfl
          |some x=>have:=ER _ _ hx;omega
        obtain⟨Hp,cl2,hm3,hm4⟩:=B2.BW;have Q9:mp≠bp:=λe=>by rw[e,B2.book]at hm3;cases hm3
        have nmt:tk≠some mp:=λe=>by rw[B2.yZ.2 mp e]at hm3;cases hm3
        have Uu:fI s0 s6 bp mp gs (ts++[t]) gk (some s2.next):={
          wf:=Em r4 ace
          keeps:=λp x hp=>by
            have n1:p≠bp:=λe=>by rw[e,B.fb]at hp;cases hp
            have n3:tk≠some p:=λe=>by rw[B.ft p e]at hp;cases hp
            have h2:=B2.keeps p x hp;rw[g6 p n1,r5 p n3 (B2.wf _ _ h2)];exact h2
          next:=by show s0.next.toNat<=s5.next.toNat;exact Zc8 B2.next (by rw[r3,Pos.az];exact Nat.le_succ _)
          book:=by show(b9 _ _ _).heap.get bp=_;rw[dx];simp[tv,j0]
          BW:=⟨Hp,cl2,by rw[g6 mp Q9,r5 mp nmt lt2.2];exact hm3,hm4⟩
          qq:=⟨B.qq.1,λb hb=>by obtain⟨cs,h3,h4⟩:=B2.qq.2 b hb;refine⟨cs,?_,h4⟩;rw[g6 b (λe=>B.dg (by rw[<-e];exact hb)),r5 b (B.Q7 b hb) (B2.wf _ _ h3)];exact h3⟩
          yZ:=⟨λh=>(by cases h),λb hb=>by cases hb;rw[g6 _ (λe=>nb2 e.symm),r2];simp⟩
          dg:=B.dg
          dt:=λe=>nb2 (by injection e with e;exact e.symm)
          Q7:=λb hb h=>by
            cases h;obtain⟨cs,h3,h4⟩:=B2.qq.2 _ hb;exact absurd (show s2.next.toNat<s2.next.toNat from B2.wf _ _ h3) (Zo1 _)
          fb:=B.fb
          fm:=B.fm
          fg:=B.fg
          ft:=λb hb=>by cases hb;exact Yf _ B2.next
          MH:=λes' cl' hm=>by have m6:s6.heap.get mp=s2.heap.get mp:=(by rw[g6 mp Q9,r5 mp nmt lt2.2]);rw[m6]at hm;exact B2.MH _ _ hm
          MI:=λes' cl' hm=>by have m6:s6.heap.get mp=s2.heap.get mp:=(by rw[g6 mp Q9,r5 mp nmt lt2.2]);rw[m6]at hm;exact B2.MI _ _ hm
          rows:=λb cs hb hs i u hu=>by
            obtain⟨Ut,h3,h4⟩:=B2.qq.2 b hb;have x6:s6.heap.get b=s2.heap.get b:=(by rw[g6 b (λe=>B.dg (by rw[<-e];exact hb)),r5 b (B.Q7 b hb) (B2.wf _ _ h3)]);rw[x6]at hs;(refine(B2.rows b cs hb hs i u hu).to λp cs a1 a2 a3 hx=> ?_);have aT:p.toNat<s2.next.toNat:=B2.wf _ _ hx;refine⟨by rw[g6 p a1,r5 p a3 aT];exact hx,a2,λe=> ?_⟩;cases e;exact absurd aT (Zo1 _) }
        refine⟨s6,?_,λh=>absurd he h,λ_=>⟨_,Uu⟩⟩;rw[he];rw[qW hc 3 (r:=(.int .i64 0,s6))]
        . rw[Wm (b:=bp) B.book];rw[Uu.book];intro e;have e:=congrArg (λo=>match o with|some (AB.cells (_::v::_) _)=>cS v|_=>none) e;simp only[j0,cS]at e;cases tk with
          |none=>simp[cS,B.yZ.1 rfl]at e
          |some b=>simp[cS]at e
        (rw[oP];have bq:fj (j0 tk ts.length 3) (j0 tk ts.length 3)=true:=(by cases tk;exact Mo;exact IP _ _ _ _);have u5:=λ(K:AV->Option (AV×St))=>xV K (p:=bp) (o:=1) (h:=s1.heap) (h2:=s1.heap) (v:=j0 tk ts.length 3) (by rw[B1.book];rfl) (by rw[B1.book];rfl) bq);have Aj:cj (bM [AV.str [],AV.str [],.int .u8 0] 1) [(0,3)] [AV.agg t.cells]=some t.cells:=by
          simp[cj,bM,cQ,di,Ty.cells,aF]
        have ac1:decide ((ts.length:Int)=256)=false:=Za2 PU;rw[hu]at L;rcases WU hk with f|⟨f,f2⟩
        .have d1:decide (t.k=1)=true:=Za0 f;simp[-bf,kP,cF,WV,l3,d1,L,pE,B1.book,lT,ac1,hpr,u5,Aj];show Ml (c 302 [j0 tk ts.length 3,.int .i64 (ts.length:Int),.slice s1.next 0 1 (some 1) 3] s2) _=_;rw[r1];exact st6 _
        .have d1:decide (t.k=1)=false:=Za2 f;have d2:decide (t.k=2)=true:=Za0 f2;simp[-bf,kP,cF,WV,l3,d1,d2,L,pE,B1.book,lT,ac1,hpr,u5,Aj];show Ml (c 302 [j0 tk ts.length 3,.int .i64 (ts.length:Int),.slice s1.next 0 1 (some 1) 3] s2) _=_;rw[r1];exact st6 _
     .  refine fail 5 (by omega) (by simp[q7,hk,hu,hd]) ?_;rw[hd]at pE;rw[hu]at L;rw[oP];rcases WU hk with f|⟨f,f2⟩
        .have d1:decide (t.k=1)=true:=Za0 f;simp[-bf,kP,cF,WV,l3,d1,L,pE]
        .have d1:decide (t.k=1)=false:=Za2 f;have d2:decide (t.k=2)=true:=Za0 f2;simp[-bf,kP,cF,WV,l3,d1,d2,L,pE]
   . refine fail 6 (by omega) (by simp[q7,hk,hu]) ?_;rw[hu]at L;rw[oP];rcases WU hk with f|⟨f,f2⟩
     .  have d1:decide (t.k=1)=true:=Za0 f;simp[-bf,kP,cF,WV,l3,d1,L]
     .  have d1:decide (t.k=1)=false:=Za2 f;have d2:decide (t.k=2)=true:=Za0 f2;simp[-bf,kP,cF,WV,l3,d1,d2,L]
 .have hkf:¬t.k=1/\¬t.k=2:=(by simpa [Ac]using hk);have he:q7 gs ts t=23:=(by simp[q7,hk]);refine⟨s,?_,λ_=>rfl,λh0=>absurd (he.symm.trans h0) (by omega)⟩;rw[qW hc 3 (r:=(.int .i64 23,s)),he,aG (Plain.int _ _) (bt.refl s)];rw[oP];simp[kP,hkf]
@[simp] theorem afV{R:Type}(K:AV->Option R)(z:Bool)(l:List aM):dJ (.lenB .l) [cr z l] K=K (.int .i64 (l.length:Int)):=by unfold cr;rw[Tj];simp
theorem aci{gs:List aM}{k:Nat}(h:k<gs.length)(hk:k<=64):qZ (gs.take k) gs[k]=if eM gs[k]≠0 then eM gs[k]else if 0<=scan (fy gs gs[k].name) k 0 then 5 else if 64<=k then 7 else 0:=by
 have hl:(gs.take k).length=k:=by simp;omega
 unfold qZ;rw[hl,Us (by omega)];have:(k=64)↔64<=k:=by omega
 simp only[this]
@[simp] theorem afv{R:Type}(c:ai)(K:AV->St->Option R)(st:St)(t:aM)(cs:List AV)(h:cs.length=9):ak c (.store 9) [.ptr st.next 0,.agg t.cells] (ah st (.cells cs 0)) K=K .undef (ah st (.cells t.cells 0)):=dK c K st 9 (.agg t.cells) cs rfl h.symm t.one
theorem adL (hc:Sem c){s0:St}(ER:Wf s0)(z:Bool)(gs:List aM)(hl:gs.length<=100)(bp mp rp:Pos)(F:Nat)(k1 k2):∀(m k:Nat)(s:St)(gk:Option Pos),fI s0 s bp mp (gs.take k) [] gk none->gs.length<=k+m->k<=gs.length->k<=64->
  ∃ s',bt s0 s'/\(((gq gs m k).2=0/\(∃HK,fI s0 s' bp mp gs [] HK none)/\iI c F k1 k2 (m+1) [.ptr rp 0,.ptr bp 0,cr z gs,.int .i64 (gs.length:Int),.int .i64 (k:Int)] s=k2 [.ptr rp 0,.ptr bp 0] s')\/
    ((gq gs m k).2≠0/\iI c F k1 k2 (m+1) [.ptr rp 0,.ptr bp 0,cr z gs,.int .i64 (gs.length:Int),.int .i64 (k:Int)] s=k1 [.iC,.int .i64 (gq gs m k).1,.int .i64 (gq gs m k).2] s')):=by
 intro m;induction m with
 |zero=>
  intro k s gk B h1 h2 h3;obtain rfl:k=gs.length:=by omega
  refine⟨s,B.keeps,.inl ⟨rfl,⟨gk,by simpa using B⟩,?_⟩⟩;rw[qp];simp
 |succ m ih   =>
  intro k s gk B h1 h2 h3;by_cases h:k<gs.length
  . have w:aq .i64 ((k:Int)+1)=((k+1:Nat):Int):=wrap64 (by omega) (by omega);have B1:=B.aE (Grew.ah B.wf (.cells gs[k].cells 0));obtain⟨s2,a1,a2,a3⟩:=aeB hc ER B1 (by simp;omega) gs[k];have hA:=aci h h3;have step:∀(K:AV->St->Option (AV×St)),(ak c (.idxA 9 none) [cr z gs,.int .i64 (k:Int)] s λx19 s12=>ak c (.load (some 9)) [x19] s12 K)=K (.agg gs[k].cells) s:=λK=>by
        simp[cr,h]
    by_cases he:qZ (gs.take k) gs[k]=0
    .   obtain⟨HK,B2⟩:=a3 he;have e1:gs.take k++[gs[k]]=gs.take (k+1):=(Zc4 h).symm;rw[e1]at B2;rw[hA]at he;have c1:eM gs[k]=0:=by
         by_cases e:eM gs[k]=0
         .  exact e
         .  rw[Za7 e]at he;exact absurd he e
        (rw[Za5 (by rw[c1];simp)]at he;have c2:¬0<=scan (fy gs gs[k].name) k 0:=λe=>by rw[Za7 e]at he;cases he);(rw[Za5 c2]at he;have c3:¬64<=k:=λe=>by rw[Za7 e]at he;cases he);have ec:gq gs (m+1) k=gq gs m (k+1):=by
         rw[gq,H5 h];simp only;rw[Za5 (by rw[c1];simp),Za5 c2,Za5 c3]
        obtain⟨s',g1,g2⟩:=ih (k+1) s2 HK B2 (by omega) (by omega) (by omega);refine⟨s',g1,?_⟩;rw[ec];have eL:iI c F k1 k2 (m+1+1) [.ptr rp 0,.ptr bp 0,cr z gs,.int .i64 (gs.length:Int),.int .i64 (k:Int)] s=iI c F k1 k2 (m+1) [.ptr rp 0,.ptr bp 0,cr z gs,.int .i64 (gs.length:Int),.int .i64 ((k+1:Nat):Int)] s2:=by
         rw[qp];have hz:qZ (gs.take k) gs[k]=0:=(by rw[hA,Za5 (by rw[c1];simp),Za5 c2,Za5 c3]);rw[hz]at a1;simp[cr,h,a1,w]
        rw[eL];exact g2
    .   obtain rfl:=a2 he;have ec:gq gs (m+1) k=((k:Int),qZ (gs.take k) gs[k]):=by
         rw[gq,H5 h];simp only;rw[hA]at he ⊢;by_cases c1:eM gs[k]=0
         .  have e1:¬eM gs[k]≠0:=(by rw[c1];simp);by_cases c2:0<=scan (fy gs gs[k].name) k 0
            .simp only[e1,c2,Zf9,Zg5]
            . by_cases c3:64<=k
              .simp only[e1,c2,c3,Zf9,Zg5]
              .rw[Za5 e1,Za5 c2,Za5 c3]at he;exact absurd rfl he
         .  have e1:eM gs[k]≠0:=c1;rw[Za7 e1,Za7 e1]
        refine⟨_,B1.keeps,.inr ⟨by rw[ec];exact he,?_⟩⟩;rw[ec,qp];simp[cr,h,a1,he]
  .obtain rfl:k=gs.length:=(by omega);have ec:gq gs (m+1) gs.length=(0,0):=(by rw[gq,Zc0 (by omega)]);refine⟨s,B.keeps,.inl ⟨by rw[ec],⟨gk,by simpa using B⟩,?_⟩⟩;rw[qp];simp
theorem MJ{ts:List Ty}{k:Nat}(h:k<ts.length):(ts.take k).getLast? =jz ts k:=by
 unfold jz;by_cases h0:k=0
 .simp[h0]
 .rw[Za5 h0,List.getLast?_eq_getElem?];have:(ts.take k).length=k:=(by simp;omega);rw[this,Zb8,Za7 (by omega)]
theorem acj{ts:List Ty}{k:Nat}(h:k<ts.length)(hs:Jy (ts.take k))(hb:∀u,jz ts k=some u->dO u ts[k]=true):Jy (ts.take (k+1)):=by
 intro i j hj WS;have yG:j<k+1:=by simp at hj;omega
 simp only[Zn4];by_cases e:j=k
 . subst e;have h1:jz ts j=some (ts[j - 1]'(by omega)):=(by rw[jz,Za5 (by omega),H5 (by omega)]);have h2:=hb _ h1;by_cases e2:i=j - 1
   .subst e2;exact h2
   .have h3:=hs i (j - 1) (by simp;omega) (by omega);simp only[Zn4]at h3;exact GJ h3 h2
 .have:=hs i j (by simp;omega) WS;simpa only[Zn4]using this
def OG(t:Ty)(p:Option Ty):Bool:=match p with|none=>false|some p=>dO t p
theorem ack(t:Ty)(p:Option Ty):Ks t p=(!Ac t|| !ay t.a t.b||OG t p):=by cases p<;>rfl
def Uz(t:Ty)(p:Option Ty):Bool:=ay t.a t.b&& !OG t p
def eK(gs:List aM)(ts:List Ty)(k:Nat)(t:Ty):Int:=if Uz t (jz ts k)=true then q7 gs (ts.take k) t else 23
theorem adM (hc:Sem c){s0:St}(ER:Wf s0)(z z2:Bool)(gs:List aM)(ts:List Ty)(hl:gs.length<=100)(kZ:ts.length<=100)(bp mp rp:Pos)(Iy:s0.heap.get rp=some (.cells [cr z gs,eR z2 ts] 0))(gk:Option Pos)(F:Nat)(k1 k4):∀(m k:Nat)(s:St)(tk:Option Pos),fI s0 s bp mp gs (ts.take k) gk tk->Jy (ts.take k)->ts.length<=k+m->k<=ts.length->
  ∃s',bt s0 s'/\((ej gs ts m k).2=0->(∃EP,fI s0 s' bp mp gs ts gk EP)/\Jy ts)/\jM c F k1 k4 (m+1) [.ptr rp 0,.ptr bp 0,eR z2 ts,.int .i64 (ts.length:Int),.int .i64 (k:Int)] s=if(ej gs ts m k).2=0 then k4 [.ptr bp 0] s' else k1 [.iC,.int .i64 (ej gs ts m k).1,.int .i64 (ej gs ts m k).2] s':=by
 intro m;induction m with
 |zero=>
  intro k s tk B hs h1 h2;obtain rfl:k=ts.length:=by omega
  refine⟨s,B.keeps,λ_=>⟨⟨tk,by simpa using B⟩,by simpa using hs⟩,?_⟩;rw[qo];simp[ej]
 |succ m ih   =>
  intro k s tk B hs h1 h2;by_cases h:k<ts.length
  . have w:aq .i64 ((k:Int)+1)=((k+1:Nat):Int):=wrap64 (by omega) (by omega);have wg:aq .i64 ((gs.length:Int)+(k:Int))=(gs.length:Int)+k:=wrap64 (by omega) (by omega);have B1:=B.aE (Grew.ah B.wf (.cells ts[k].cells 0));have fE:(ah s (.cells ts[k].cells 0)).heap.get rp=some (.cells [cr z gs,eR z2 ts] 0):=B1.keeps _ _ Iy;have dc:=B1.wf;have PU:¬256<=k:=(by omega);have ec:ej gs ts (m+1) k=if eK gs ts k ts[k]≠0 then((gs.length:Int)+k,eK gs ts k ts[k])else ej gs ts m (k+1):=by rw[ej,H5 h];simp only[PU,Zf9];rw[ack];unfold eK Uz q7;rw[MJ h];cases Ac ts[k]<;>cases ay ts[k].a ts[k].b<;>cases OG ts[k] (jz ts k)<;>cases iW gs ts[k]<;>cases mO ts[k] (jz ts k)<;>simp
    have Mc   :Uz ts[k] (jz ts k)=true->∃s',bt s0 s'/\(eK gs ts k ts[k]=0->(ej gs ts m (k+1)).2=0->(∃EP,fI s0 s' bp mp gs ts gk EP)/\Jy ts)/\∃s2,c 259 [.ptr bp 0,.str ts[k].a,.str ts[k].b,.int .u8 ts[k].k] (ah s (.cells ts[k].cells 0))=some (.int .i64 (eK gs ts k ts[k]),s2)/\s2.heap.get rp=some (.cells [cr z gs,eR z2 ts] 0)/\
          (eK gs ts k ts[k]≠0->s'=s2)/\(eK gs ts k ts[k]=0->
            jM c F k1 k4 (m+1) [.ptr rp 0,.ptr bp 0,eR z2 ts,.int .i64 (ts.length:Int),.int .i64 ((k+1:Nat):Int)] s2=if(ej gs ts m (k+1)).2=0 then k4 [.ptr bp 0] s' else k1 [.iC,.int .i64 (ej gs ts m (k+1)).1,.int .i64 (ej gs ts m (k+1)).2] s'):=λdw=>by
        have UA:=dw;simp only[Uz,Za8,Zh7]at UA;obtain⟨b2,b3⟩:=UA;have afw:∀u,(ts.take k).getLast? =some u->dO ts[k] u=false:=λu hu=>by rw[MJ h]at hu;rw[hu]at b3;exact b3
        obtain⟨s2,a1,a2,a3⟩:=aeD hc ER B1 (by simp;omega) ts[k] b2 hs afw;have et:eK gs ts k ts[k]=q7 gs (ts.take k) ts[k]:=(by unfold eK;rw[Za7 dw]);rw[<-et]at a1 a2 a3;by_cases h0:eK gs ts k ts[k]=0
        . obtain⟨EP,B2⟩:=a3 h0;have e1:ts.take k++[ts[k]]=ts.take (k+1):=(Zc4 h).symm;rw[e1]at B2;have hd:mO ts[k] (jz ts k)=false:=by
            rw[et,q7,MJ h]at h0;cases hq:mO ts[k] (jz ts k)
            .rfl
            . rw[hq]at h0;split at h0
              .simp at h0
              .split at h0<;>simp at h0
          have pI:=acj h hs (λu hu2=>by rw[hu2]at hd;simpa [mO]using hd);obtain⟨s',g1,gB,g2⟩:=ih (k+1) s2 EP B2 pI (by omega) (by omega);exact⟨s',g1,λ_=>gB,s2,a1,B2.keeps _ _ Iy,λe=>absurd h0 e,λ_=>g2⟩
        .obtain rfl:=a2 h0;exact⟨_,B1.keeps,λe=>absurd e h0,_,a1,fE,λ_=>rfl,λe=>absurd e h0⟩
    rw[ec];cases dw:Uz ts[k] (jz ts k)
    ·
        have e23:eK gs ts k ts[k]=23:=(by unfold eK;rw[dw];rfl);refine⟨_,B1.keeps,λe=>(by rw[e23,Za7 (by decide)]at e;cases e),?_⟩;rw[qo,e23];cases q1:ay ts[k].a ts[k].b
        .simp[eR,h,q1,qK,fE,wg]
        . have q2:OG ts[k] (jz ts k)=true:=(by simpa [Uz,q1]using dw);have uN:¬k=0:=λe=>by rw[jz,Za7 e]at q2;cases q2
          have kg:k - 1<ts.length:=(by omega);have wk:aq .i64 ((k:Int) - 1)=((k - 1:Nat):Int):=(by rw[wrap64 (by omega) (by omega)];omega);have q3:dO ts[k] ts[k - 1]=true:=(by rw[jz,Za5 uN,H5 kg]at q2;exact q2);have ho:=BV hc ts[k - 1] ts[k] _ dc;have xk:¬nX ts[k - 1] ts[k]<=0:=(by have:=Kr.2 q3;omega);simp[eR,h,q1,qK,fE,wg,uN,kg,wk,ho,xk]
    .   obtain⟨s',g1,gB,s2,t1,t2,t3,t4⟩:=Mc dw;refine⟨s',g1,λe=>by
          by_cases he:eK gs ts k ts[k]=0
          .exact gB he (by rw[Za5 (by simp[he])]at e;exact e)
          .rw[Za7 he]at e;exact absurd e he,?_⟩
        rw[qo];have UA:=dw;simp only[Uz,Za8,Zh7]at UA;obtain⟨q1,q2⟩:=UA;by_cases he:eK gs ts k ts[k]=0
        . have t4:=t4 he;rw[he]at t1;simp only[he,ne_eq,not_true,Zf9];rw[<-t4];by_cases uN:k=0
          .have dk:decide ((k:Int)=0)=true:=Za0 (by omega);have dk':decide (k=0)=true:=Za0 uN;clear uN;simp[eR,h,q1,qK,fE,dk,dk',t1,w]
          . have kg:k - 1<ts.length:=(by omega);have wk:aq .i64 ((k:Int) - 1)=((k - 1:Nat):Int):=(by rw[wrap64 (by omega) (by omega)];omega);have q3:dO ts[k] ts[k - 1]=false:=(by rw[jz,Za5 uN,H5 kg]at q2;exact q2);have ho:=BV hc ts[k - 1] ts[k] _ dc;have xk:nX ts[k - 1] ts[k]<=0:=by
              have:¬0<nX ts[k - 1] ts[k]:=λe=>by rw[Kr.1 e]at q3;cases q3
              omega
            simp[eR,h,q1,qK,fE,uN,kg,wk,ho,xk,t1,w]
        . obtain rfl:=t3 he;simp only[he,ne_eq,not_false_eq_true,Zg5,Zf9];by_cases uN:k=0
          .have dk:decide ((k:Int)=0)=true:=Za0 (by omega);have dk':decide (k=0)=true:=Za0 uN;clear uN;simp[eR,h,q1,qK,fE,dk,dk',t1,t2,wg,he]
          . have kg:k - 1<ts.length:=(by omega);have wk:aq .i64 ((k:Int) - 1)=((k - 1:Nat):Int):=(by rw[wrap64 (by omega) (by omega)];omega);have q3:dO ts[k] ts[k - 1]=false:=(by rw[jz,Za5 uN,H5 kg]at q2;exact q2);have ho:=BV hc ts[k - 1] ts[k] _ dc;have xk:nX ts[k - 1] ts[k]<=0:=by
              have:¬0<nX ts[k - 1] ts[k]:=λe=>by rw[Kr.1 e]at q3;cases q3
              omega
            simp[eR,h,q1,qK,fE,uN,kg,wk,ho,xk,t1,t2,wg,he]
  .obtain rfl:k=ts.length:=(by omega);refine⟨s,B.keeps,λ_=>⟨⟨tk,by simpa using B⟩,by simpa using hs⟩,?_⟩;rw[qo];have ec:ej gs ts (m+1) ts.length=(0,0):=(by rw[ej,Zc0 (by omega)]);simp[ec]
theorem PV(hc:Sem c)(z z2:Bool)(gs:List aM)(ts:List Ty)(hl:gs.length<=100)(kZ:ts.length<=100)(s:St)(hw:Wf s):
   ∃v s',c 198 [.agg [cr z gs,eR z2 ts]] s=some (.tuple [v,.int .i64 (bG gs ts).1,.int .i64 (bG gs ts).2],s')/\bt s s'/\((bG gs ts).2=0->∃bp mp gk tk,v= .ptr bp 0/\fI (ah s (.cells [cr z gs,eR z2 ts] 0)) s' bp mp gs ts gk tk/\Jy ts):=by
 let s0:=ah s (.cells [cr z gs,eR z2 ts] 0)
 have ER:Wf s0:=bK hw;have k0:bt s s0:=cw hw;have Iy:s0.heap.get s.next=some (.cells [cr z gs,eR z2 ts] 0):=aD _ _;have SD:=aeA hc s0;have B:=fI.start ER
 have finish:∀{v:AV}{s':St},wA c 102 (.agg [cr z gs,eR z2 ts]) s=some (.tuple [v,.int .i64 (bG gs ts).1,.int .i64 (bG gs ts).2],s')->bt s0 s'->((bG gs ts).2=0->∃bp mp gk tk,v= .ptr bp 0/\fI s0 s' bp mp gs ts gk tk/\Jy ts)->
     ∃v s',c 198 [.agg [cr z gs,eR z2 ts]] s=some (.tuple [v,.int .i64 (bG gs ts).1,.int .i64 (bG gs ts).2],s')/\bt s s'/\((bG gs ts).2=0->∃bp mp gk tk,v= .ptr bp 0/\fI s0 s' bp mp gs ts gk tk/\Jy ts):=λ{v s'} h hk hB=>by
   have h2:=PB hc 102 h;unfold tidy at h2;split at h2
   .rename_i hp;exact⟨v,s,h2,bt.refl s,λe=>by obtain⟨bp,mp,gk,tk,rfl,_⟩:=hB e;exact absurd hp.1 RA⟩
   .exact⟨v,s',h2,k0.trans hk,hB⟩
 obtain⟨s1,g1,g2⟩:=adL hc ER z gs hl (ah s0 (.map [] 0)).next s0.next s.next 102 (λvs s30=>ju vs λx2 vs=>ju vs λx3 vs=>ju vs λx4 vs=>pH vs (some (.tuple [x2,x3,x4],s30))) (λvs s31=>ju vs λx1 vs=>ju vs λx5 vs=>pH vs (
   ak c (.fieldA 1) [x1] s31 λx29 s32=>ak c (.load none) [x29] s32 λx30 s33=>ak c (.lenB .l) [x30] s33 λx31 s34=>ak c .move [(.int .i64 0)] s34 λx32 s35=>
   jM c 102 (λvs s80=>ju vs λx2 vs=>ju vs λx3 vs=>ju vs λx4 vs=>pH vs (some (.tuple [x2,x3,x4],s80))) (λvs s81=>ju vs λx5 vs=>pH vs (
     ak c .move [x5] s81 λx74 s82=>ak c .move [x74] s82 λx2 s83=>ak c .move [(.int .i64 0)] s83 λx3 s84=>ak c .move [(.int .i64 0)] s84 λx4 s85=>some (.tuple [x2,x3,x4],s85))) 102 [x1,x5,x30,x31,x32] s35)) 101 0 _ none B (by omega) (by omega) (by omega)
 have aaq:∀r,iI c 102 (λvs s30=>ju vs λx2 vs=>ju vs λx3 vs=>ju vs λx4 vs=>pH vs (some (.tuple [x2,x3,x4],s30))) (λvs s31=>ju vs λx1 vs=>ju vs λx5 vs=>pH vs (
   ak c (.fieldA 1) [x1] s31 λx29 s32=>ak c (.load none) [x29] s32 λx30 s33=>ak c (.lenB .l) [x30] s33 λx31 s34=>ak c .move [(.int .i64 0)] s34 λx32 s35=>
   jM c 102 (λvs s80=>ju vs λx2 vs=>ju vs λx3 vs=>ju vs λx4 vs=>pH vs (some (.tuple [x2,x3,x4],s80))) (λvs s81=>ju vs λx5 vs=>pH vs (
     ak c .move [x5] s81 λx74 s82=>ak c .move [x74] s82 λx2 s83=>ak c .move [(.int .i64 0)] s83 λx3 s84=>ak c .move [(.int .i64 0)] s84 λx4 s85=>some (.tuple [x2,x3,x4],s85))) 102 [x1,x5,x30,x31,x32] s35)) 102 [.ptr s.next 0,.ptr (ah s0 (.map [] 0)).next 0,cr z gs,.int .i64 (gs.length:Int),.int .i64 ((0:Nat):Int)] (ah (ah s0 (.map [] 0)) (.cells [.af,.af,.map s0.next] 0))=r->wA c 102 (.agg [cr z gs,eR z2 ts]) s=r:=λr h=>by
   rw[<-h,Ub];have hb:=(B.keeps _ _ Iy)
   simp only[pT,Jx,aC,fM];show Ml (c 256 [] s0) _=_;rw[SD];simp only[eZ,cC,iG,hb,aQ,Ze7,Zb3,Zd9,uP,ab5];rfl
 rcases g2 with⟨q1,⟨HK,B2⟩,q3⟩|⟨q1,q3⟩
 . have e:bG gs ts=ej gs ts 101 0:=(by rw[bG,Za5 (by simp[q1])]);obtain⟨s2,r1,rB,r2⟩:=adM hc ER z z2 gs ts hl kZ (ah s0 (.map [] 0)).next s0.next s.next Iy HK 102 (λvs s80=>ju vs λx2 vs=>ju vs λx3 vs=>ju vs λx4 vs=>pH vs (some (.tuple [x2,x3,x4],s80))) (λvs s81=>ju vs λx5 vs=>pH vs (
     ak c .move [x5] s81 λx74 s82=>ak c .move [x74] s82 λx2 s83=>ak c .move [(.int .i64 0)] s83 λx3 s84=>ak c .move [(.int .i64 0)] s84 λx4 s85=>some (.tuple [x2,x3,x4],s85))) 101 0 s1 none (by simpa using B2) (by intro i j hj;simp at hj) (by omega) (by omega)
   have yJ:s1.heap.get s.next=some (.cells [cr z gs,eR z2 ts] 0):=B2.keeps _ _ Iy;have hL:=aaq _ q3;simp only[aB,bu,cC,iG,yJ,aQ,Ze7,Ze5,Zb3,Zd9,uP,ab6,aC]at hL;have Lx:=r2;rw[show(((0:Nat):Int))=0 from rfl]at Lx;simp only[aC,Nat.reduceAdd]at Lx;rw[Lx]at hL;rw[e]at finish ⊢;by_cases h2:(ej gs ts 101 0).2=0
   . have h3:=Gz gs ts 101 0 h2;rw[Za7 h2]at hL;simp only[aB,bu]at hL;exact finish (by rw[h2,h3];exact hL) r1 (λe=>by
        obtain⟨⟨EP,B3⟩,hs⟩:=rB e;exact⟨_,_,_,_,rfl,B3,hs⟩)
   .rw[Za5 h2]at hL;simp only[aB,bu]at hL;exact finish hL r1 (λe=>absurd e h2)
 .have e:bG gs ts=gq gs 101 0:=(by rw[bG,Za7 q1]);have hL:=aaq _ q3;simp only[aB,bu]at hL;rw[e]at finish ⊢;exact finish hL g1 (λe=>absurd e q1)
structure Rl where
 k:Int
 wt:Int
 a:List Nat
 b:List Nat
 t:List Nat
 n:Int
def Rl.cells(r:Rl):List AV:=[.int .u8 r.k,.int .i64 r.wt,.str r.a,.str r.b,.str r.t,.int .i64 r.n]
@[simp] theorem Rl.c0(t:Rl):t.cells[0]? =some (.int .u8 t.k):=id rfl
@[simp] theorem Rl.c1(t:Rl):t.cells[1]? =some (.int .i64 t.wt):=id rfl
@[simp] theorem Rl.c2(t:Rl):t.cells[2]? =some (.str t.a):=id rfl
@[simp] theorem Rl.c3(t:Rl):t.cells[3]? =some (.str t.b):=id rfl
@[simp] theorem Rl.c4(t:Rl):t.cells[4]? =some (.str t.t):=id rfl
@[simp] theorem Rl.c5(t:Rl):t.cells[5]? =some (.int .i64 t.n):=id rfl
@[simp] theorem Rl.cc(t:Rl):cut t.cells 0 6=some t.cells:=bV rfl
@[simp] theorem Rl.one(t:Rl):aL t.cells=true:=id rfl
def ET(z:Bool)(rs:List Rl):AV:=ro 6 z (rs.map Rl.cells)
@[simp] theorem afW{R:Type}(c:ai)(K:AV->St->Option R)(st:St)(z:Bool)(l:List Rl):ak c (.lenB .l) [ET z l] st K=K (.int .i64 (l.length:Int)) st:=by unfold ET;rw[kJ];simp
structure bZ where
 tz:Bool
 ts:List aU
 gz:Bool
 gs:List aM
 yz:Bool
 ys:List Ty
 cz:Bool
 cs:List Int
 rz:Bool
 rs:List Rl
def bZ.cells(p:bZ):List AV:=[tabs p.tz p.ts,cr p.gz p.gs,eR p.yz p.ys,ints p.cz p.cs,ET p.rz p.rs]
@[simp] theorem bZ.c0(p:bZ):p.cells[0]? =some (tabs p.tz p.ts):=id rfl
@[simp] theorem bZ.c1(p:bZ):p.cells[1]? =some (cr p.gz p.gs):=id rfl
@[simp] theorem bZ.c2(p:bZ):p.cells[2]? =some (eR p.yz p.ys):=id rfl
@[simp] theorem bZ.c3(p:bZ):p.cells[3]? =some (ints p.cz p.cs):=id rfl
@[simp] theorem bZ.c4(p:bZ):p.cells[4]? =some (ET p.rz p.rs):=id rfl
@[simp] theorem bZ.cc(p:bZ):cut p.cells 0 5=some p.cells:=bV rfl
structure bZ.Ad(p:bZ):Prop where
 ts:p.ts.length<=100
 gs:p.gs.length<=100
 ys:p.ys.length<=100
 cs:p.cs.length<=100
 rs:p.rs.length<=100
 ok:∀t∈p.ts,t.Ok
def rW(l:List Int):Bool:=l.all λc=>decide (0<=c)&&decide (c<64)
def iR(p:bZ):Int×Int:=
 if(bH p.ts).2≠0 then bH p.ts else if(bG p.gs p.ys).2≠0 then bG p.gs p.ys
 else if p.cs.length≠0/\p.cs.length≠p.gs.length then(0,44)else if rW p.cs=false then(0,44)
 else if bF p.ts<p.gs.length then(0,45)else(0,0)
theorem Vt{p:bZ}(h:(iR p).2=0):(iR p).1=0:=by
 unfold iR at h ⊢;by_cases h1:(bH p.ts).2≠0
 .rw[Za7 h1]at h;exact absurd h h1
 rw[Za5 h1]at h ⊢;by_cases h2:(bG p.gs p.ys).2≠0
 .rw[Za7 h2]at h;exact absurd h h2
 rw[Za5 h2]
 repeat' split
 all_goals rfl
theorem Yh(p:bZ)(hp:p.Ad)(q:Pos)(F:Nat)(s:St)(k1 k2):∀(m k:Nat),p.cs.length<=k+m->k<=p.cs.length->
  mD c F k1 k2 (m+1) [.ptr q 0,ints p.cz p.cs,.int .i64 (p.cs.length:Int),.int .i64 (k:Int)] s=if rW (p.cs.drop k)=true then k2 [.ptr q 0] s else k1 [.int .i64 0,.int .i64 44] s:=by
 have hl:=hp.cs;intro m;induction m with
 |zero=>
  intro k h1 h2;obtain rfl:k=p.cs.length:=by omega
  rw[CV];simp[rW]
 |succ m ih=>
  intro k h1 h2;rw[CV];by_cases h:k<p.cs.length
  . have e:p.cs.drop k=p.cs[k]::p.cs.drop (k+1):=Zc7 h;have w:aq .i64 ((k:Int)+1)=((k+1:Nat):Int):=wrap64 (by omega) (by omega);have:=ih (k+1) (by omega) (by omega);have ec:rW (p.cs.drop k)=((decide (0<=p.cs[k])&&decide (p.cs[k]<64))&&rW (p.cs.drop (k+1))):=(by rw[e];rfl);rw[ec];generalize rW (p.cs.drop (k+1))=rest at this ⊢;by_cases h3:p.cs[k]<0
    .   have h4:(decide (0<=p.cs[k])&&decide (p.cs[k]<64))=false:=(by simp;omega);rw[h4];simp[ints,h,h3]
    .   by_cases h5:64<=p.cs[k]
        .have h4:(decide (0<=p.cs[k])&&decide (p.cs[k]<64))=false:=(by simp;omega);rw[h4];simp[ints,h,h3,h5]
        .have h4:(decide (0<=p.cs[k])&&decide (p.cs[k]<64))=true:=(by simp;omega);rw[h4,Zf4, <-this];simp[ints,h,h3,h5,w]
  .obtain rfl:k=p.cs.length:=(by omega);simp[rW]
theorem Yi{d:Nat}(z:Bool)(l:List (List Nat)):iH (d+1) (kL z l):=iH.ro λr hr v hv=>by simp only[Zg0]at hr;obtain⟨i,_,rfl⟩:=hr;simp only[Zc3]at hv;subst hv;exact iH.str _
theorem Yj(z:Bool)(l:List aM):iH 3 (cr z l):=iH.ro λr hr v hv=>by simp only[Zg0]at hr;obtain⟨g,_,rfl⟩:=hr;simp only[aM.cells,Zb1,Ze6,Zj6]at hv;rcases hv with rfl|rfl|rfl|rfl|rfl|rfl|rfl|rfl|rfl<;>first|exact iH.str _|exact iH.int _ _|exact iH.bool _|exact Yi _ _
theorem q8(z z2:Bool)(gs:List aM)(ts:List Ty):cj [.af,.af] [(0,1),(1,1)] [cr z gs,eR z2 ts]=some [cr z gs,eR z2 ts]:=by have e1:(cr z gs).cells=[cr z gs]:=Tn _ _ _;have e2:(eR z2 ts).cells=[eR z2 ts]:=Tn _ _ _;unfold cj;rw[e1];show cj [cr z gs,.af] [(1,1)] [eR z2 ts]=_;unfold cj;rw[e2];rfl
def UB(c:ai)(p:bZ):Prop:=(∀st,Wf st->c 150 [.agg [cr p.gz p.gs,eR p.yz p.ys]] st=some (.tuple [.int .i64 (bG p.gs p.ys).1,.int .i64 (bG p.gs p.ys).2],st))/\
 ∀st,Wf st->c 137 [.agg [cr p.gz p.gs,eR p.yz p.ys]] st=some (.tuple [.int .i64 (bG p.gs p.ys).1,.int .i64 (bG p.gs p.ys).2],st)
theorem acm (hc:Sem c)(p:bZ)(hp:p.Ad)(hR:UB c p)(st:St)(hw:Wf st):c 119 [.agg p.cells] st=some (.tuple [.int .i64 (iR p).1,.int .i64 (iR p).2],st):=by
 have dc:Wf (ah st (.cells p.cells 0)):=bK hw;have Ly:=Grew.ah hw (.cells p.cells 0);have fE:(ah st (.cells p.cells 0)).heap.get st.next=some (.cells p.cells 0):=aD _ _;have A:=Lv hc p.tz p.ts hp.ok _ dc;have B:=hR.1 _ dc;have D:=ya hc p.tz p.ts hp.ok _ dc;have L:∀k1 k2,mD c 101 k1 k2 101 [.ptr st.next 0,ints p.cz p.cs,.int .i64 (p.cs.length:Int),.int .i64 0] (ah st (.cells p.cells 0))=if rW p.cs=true then k2 [.ptr st.next 0] (ah st (.cells p.cells 0))else k1 [.int .i64 0,.int .i64 44] (ah st (.cells p.cells 0)):=
   λk1 k2=>Yh (c:=c) p hp st.next 101 (ah st (.cells p.cells 0)) k1 k2 100 0 (by have:=hp.cs;omega) (by omega)
 have u5:=λ(K:AV->Option (AV×St))=>xV K (p:=st.next) (o:=1) (h:=(ah st (.cells p.cells 0)).heap) (h2:=(ah st (.cells p.cells 0)).heap) (v:=cr p.gz p.gs) (by rw[fE];rfl) (by rw[fE];rfl) (Z5 (Yj _ _))
 rw[Py hc 101 (r:=(.tuple [.int .i64 (iR p).1,.int .i64 (iR p).2],ah st (.cells p.cells 0))),aG (Plain.tuple (by simp[Plain.int])) Ly.keeps];rw[T8];unfold iR;by_cases h1:(bH p.ts).2=0
 . by_cases h2:(bG p.gs p.ys).2=0
   . simp only[h1,Zg5]at D;by_cases h3:p.cs.length=0
     .  have h4:p.cs=[]:=(by simpa using h3);have L1:rW p.cs=true:=(by rw[h4];rfl);have e0:((p.cs.length:Nat):Int)=0:=(by omega);simp only[L1,Zg5,e0]at L;by_cases h6:bF p.ts<p.gs.length
        .simp[q8,h1,h2,h3,A,B,D,fE,L1,L,u5,h6]
        .simp[q8,h1,h2,h3,A,B,D,fE,L1,L,u5,h6]
     .  by_cases h4:p.cs.length=p.gs.length
        . cases h5:rW p.cs with
          | false=>
            simp only[h5,Zf1,Zf9,h4]at L;have h7:0<p.cs.length:=(by omega);have h8:0<p.gs.length:=(by omega);simp[q8,h1,h2,h3,h4,h5,h7,h8,A,B,fE,L]
          | true=>
            simp only[h5,Zg5,h4]at L;have h7:0<p.cs.length:=(by omega);have h8:0<p.gs.length:=(by omega);by_cases h6:bF p.ts<p.gs.length
            .simp[q8,h1,h2,h3,h4,h5,h7,h8,A,B,D,fE,L,u5,h6]
            .simp[q8,h1,h2,h3,h4,h5,h7,h8,A,B,D,fE,L,u5,h6]
        .have h7:0<p.cs.length:=(by omega);have h4i:¬((p.cs.length:Int)=(p.gs.length:Int)):=(by omega);simp[q8,h1,h2,h3,h4,h4i,h7,A,B,fE]
   .simp[q8,h1,h2,A,B,fE]
 .simp[h1,A,fE]
end
section
open Go Go.Ai Go.Proofs
abbrev cv(i:Int):List AV:=[.int .i64 i]
abbrev rowS(s:List Nat):List AV:=[.str s]
def aU.aA(t:aU)(v:AV):List AV:=[.str t.name,.int .u8 t.sh,.int .i64 t.a,.int .i64 t.b,v,.int .i64 t.x,.int .i64 t.y]
theorem aU.MG(t:aU){v:AV}(h:aL [v]=true):aL (t.aA v)=true:=by
 simp only[aL]at h;unfold aU.aA;simp only[aL,AV.one,h,Zi8,Zk8]at*
structure TS(s0 s:St)(V:AV)(ts:List aU)(rows:List (List AV)):Prop where
 out:Mk 7 s0 s V rows
 len:rows.length=ts.length
 qt:∀(i:Nat)(t:aU)(r:List AV),ts[i]? =some t->rows[i]? =some r->∃v,r=t.aA v/\Mk 1 s0 s v (t.pM.map cv)/\∀b,aZ v=some b->aZ V≠some b
structure GS(s0 s:St)(V:AV)(ts:List aM)(rows:List (List AV)):Prop where
 out:Mk 9 s0 s V rows
 len:rows.length=ts.length
 qt:∀(i:Nat)(t:aM)(r:List AV),ts[i]? =some t->rows[i]? =some r->∃v,r=t.aA v/\Mk 1 s0 s v (t.tg.map rowS)/\∀b,aZ v=some b->aZ V≠some b
structure PS(s0 s:St)(Vs:List AV)(p:bZ):Prop where
 aE:Grew s0 s
 all:∃V1 V2 V3 V4 V5 r1 r2,Vs=[V1,V2,V3,V4,V5]/\TS s0 s V1 p.ts r1/\GS s0 s V2 p.gs r2/\Mk 3 s0 s V3 (p.ys.map Ty.cells)/\Mk 1 s0 s V4 (p.cs.map cv)/\Mk 6 s0 s V5 (p.rs.map Rl.cells)
theorem TS.ud{s0 s s':St}{V:AV}{ts:List aU}{rows:List (List AV)}(h:TS s0 s V ts rows)(hg:Grew s0 s')(hk:∀b x,s0.next.toNat<=b.toNat->(aZ V=some b\/∃(i:Nat) (r:List AV) (v:AV),rows[i]? =some r/\r[4]? =some v/\aZ v=some b)->s.heap.get b=some x->s'.heap.get b=some x):TS s0 s' V ts rows:=
 ⟨Mk.ud h.out hg λb x hb hx=>hk b x (h.out.new b hb) (.inl hb) hx,h.len,λi t r hi hr=>by
  obtain⟨v,e1,e2,e3⟩:=h.qt i t r hi hr;exact⟨v,e1,Mk.ud e2 hg λb x hb hx=>hk b x (e2.new b hb) (.inr ⟨i,r,v,hr,by rw[e1];rfl,hb⟩) hx,e3⟩⟩
theorem GS.ud{s0 s s':St}{V:AV}{ts:List aM}{rows:List (List AV)}(h:GS s0 s V ts rows)(hg:Grew s0 s')(hk:∀b x,s0.next.toNat<=b.toNat->(aZ V=some b\/∃(i:Nat) (r:List AV) (v:AV),rows[i]? =some r/\r[8]? =some v/\aZ v=some b)->s.heap.get b=some x->s'.heap.get b=some x):GS s0 s' V ts rows:=
 ⟨Mk.ud h.out hg λb x hb hx=>hk b x (h.out.new b hb) (.inl hb) hx,h.len,λi t r hi hr=>by
  obtain⟨v,e1,e2,e3⟩:=h.qt i t r hi hr;exact⟨v,e1,Mk.ud e2 hg λb x hb hx=>hk b x (e2.new b hb) (.inr ⟨i,r,v,hr,by rw[e1];rfl,hb⟩) hx,e3⟩⟩
theorem TS.vQ{s0 s1 s s':St}{V:AV}{ts:List aU}{rows:List (List AV)}(h:TS s1 s V ts rows)(h0:Wf s0)(zK:Grew s0 s1)(hg:Grew s0 s')(hk:∀q b,s1.next.toNat<=q.toNat->s.heap.get q=some b->s'.heap.get q=some b):TS s0 s' V ts rows:=
 ⟨Mk.vQ h.out h0 zK hg hk,h.len,λi t r hi hr=>by obtain⟨v,e1,e2,e3⟩:=h.qt i t r hi hr;exact⟨v,e1,Mk.vQ e2 h0 zK hg hk,e3⟩⟩
theorem GS.vQ{s0 s1 s s':St}{V:AV}{ts:List aM}{rows:List (List AV)}(h:GS s1 s V ts rows)(h0:Wf s0)(zK:Grew s0 s1)(hg:Grew s0 s')(hk:∀q b,s1.next.toNat<=q.toNat->s.heap.get q=some b->s'.heap.get q=some b):GS s0 s' V ts rows:=
 ⟨Mk.vQ h.out h0 zK hg hk,h.len,λi t r hi hr=>by obtain⟨v,e1,e2,e3⟩:=h.qt i t r hi hr;exact⟨v,e1,Mk.vQ e2 h0 zK hg hk,e3⟩⟩
variable{c:ai}
def aU.fN(t t':aU):Prop:=∃z,t'={ t with oz:=z }
def aM.fN(g g':aM):Prop:=∃z,g'={ g with tz:=z }
theorem UC{α:Type}(f:α->AV)(s:St)(d:Nat)(l:List α)(hf:∀a∈l,dz s d (f a)=f a):(l.map λa=>[f a]).map (λr=>r.map (dz s d))=l.map λa=>[f a]:=by
 rw[Zg4];refine Zj3 λa ha=> ?_
 simp only[Function.comp,Zd6,Zi1,hf a ha]
theorem EU(s:St)(d:Nat)(k:IntKind)(i:Int):dz s d (.int k i)= .int k i:=by cases d<;>rfl
theorem EV(s:St)(d:Nat)(l:List Nat):dz s d (.str l)= .str l:=by cases d<;>rfl
theorem acn(s:St)(d:Nat)(b:Bool):dz s d (.bool b)= .bool b:=by cases d<;>rfl
theorem UD{s0 s:St}{v:AV}{l:List Int}(h:Mk 1 s0 s v (l.map cv))(d:Nat):∃z,dz s (d+1) v=ints z l:=by
 obtain⟨z,hz⟩:=h.own.dz (d:=d) h.row;refine⟨z,?_⟩;rw[hz];unfold ints;rw[UC (λi=>AV.int .i64 i) s d l λa _=>EU s d _ _]
theorem aco{s0 s:St}{v:AV}{l:List (List Nat)}(h:Mk 1 s0 s v (l.map rowS))(d:Nat):∃z,dz s (d+1) v=kL z l:=by
 obtain⟨z,hz⟩:=h.own.dz (d:=d) h.row;refine⟨z,?_⟩;rw[hz];unfold kL;rw[UC (λi=>AV.str i) s d l λa _=>EV s d _]
theorem adN{s0 s:St}{v:AV}{l:List Ty}(h:Mk 3 s0 s v (l.map Ty.cells))(d:Nat):∃z,dz s (d+1) v=eR z l:=by
 obtain⟨z,hz⟩:=h.own.dz (d:=d) h.row;refine⟨z,?_⟩;rw[hz];unfold eR;rw[Zg4];congr 1;refine Zj3 λa _=> ?_
 simp only[Function.comp,Ty.cells,Zd6,Zi1,EV,EU]
theorem adO{s0 s:St}{v:AV}{l:List Rl}(h:Mk 6 s0 s v (l.map Rl.cells))(d:Nat):∃z,dz s (d+1) v=ET z l:=by
 obtain⟨z,hz⟩:=h.own.dz (d:=d) h.row;refine⟨z,?_⟩;rw[hz];unfold ET;rw[Zg4];congr 1;refine Zj3 λa _=> ?_
 simp only[Function.comp,Rl.cells,Zd6,Zi1,EV,EU]
theorem MK{α:Type}(P:α->α->Prop)(cells:α->List AV)(g:List AV->List AV):∀(ts:List α)(rows:List (List AV)),rows.length=ts.length->(∀(i:Nat)(t:α)(r:List AV),ts[i]? =some t->rows[i]? =some r->∃t',P t t'/\g r=cells t')->
  ∃tJ:List α,rows.map g=tJ.map cells/\tJ.length=ts.length/\∀(i:Nat)(t t':α),ts[i]? =some t->tJ[i]? =some t'->P t t'
 |[],rows,hl,_=>⟨[],by rw[Zb2 hl];rfl,rfl,λi t t' h=>by simp at h⟩
 |t::ts,[],hl,_=>by simp at hl
 |t::ts,r::rows,hl,h=>by
  obtain⟨t',h1,h2⟩:=h 0 t r rfl rfl;obtain⟨tJ,k1,k2,k3⟩:=MK P cells g ts rows (by simpa using hl) (λi t r h3 h4=>h (i+1) t r (by simpa using h3) (by simpa using h4));refine⟨t'::tJ,by simp[h2,k1],by simp[k2],λi u u' h3 h4=> ?_⟩;cases i with
  |zero=>simp at h3 h4;subst h3;subst h4;exact h1
  |succ i=>exact k3 i u u' (by simpa using h3) (by simpa using h4)
theorem TS.dz{s0 s:St}{V:AV}{ts:List aU}{rows:List (List AV)}(h:TS s0 s V ts rows)(d:Nat):∃z tJ,Go.Ai.dz s (d+2) V=tabs z tJ/\tJ.length=ts.length/\∀(i:Nat)(t t':aU),ts[i]? =some t->tJ[i]? =some t'->t.fN t':=by
 obtain⟨z,hz⟩:=h.out.own.dz (d:=d+1) h.out.row;obtain⟨tJ,k1,k2,k3⟩:=MK aU.fN aU.cells (λr=>r.map (Go.Ai.dz s (d+1))) ts rows h.len λi t r hi hr=>by
  obtain⟨v,rfl,hM,_⟩:=h.qt i t r hi hr;obtain⟨z2,hz2⟩:=UD hM d;refine⟨{ t with oz:=z2 },⟨z2,rfl⟩,?_⟩;simp only[aU.aA,aU.cells,Zd6,Zi1,EV,EU,hz2]
 refine⟨z,tJ,?_,k2,k3⟩;rw[hz,k1];rfl
theorem GS.dz{s0 s:St}{V:AV}{ts:List aM}{rows:List (List AV)}(h:GS s0 s V ts rows)(d:Nat):∃z tJ,Go.Ai.dz s (d+2) V=cr z tJ/\tJ.length=ts.length/\∀(i:Nat)(t t':aM),ts[i]? =some t->tJ[i]? =some t'->t.fN t':=by
 obtain⟨z,hz⟩:=h.out.own.dz (d:=d+1) h.out.row;obtain⟨tJ,k1,k2,k3⟩:=MK aM.fN aM.cells (λr=>r.map (Go.Ai.dz s (d+1))) ts rows h.len λi t r hi hr=>by
  obtain⟨v,rfl,hM,_⟩:=h.qt i t r hi hr;obtain⟨z2,hz2⟩:=aco hM d;refine⟨{ t with tz:=z2 },⟨z2,rfl⟩,?_⟩;simp only[aM.aA,aM.cells,Zd6,Zi1,EV,EU,acn,hz2]
 refine⟨z,tJ,?_,k2,k3⟩;rw[hz,k1];rfl
end
noncomputable section
open Go Go.Ai Go.Proofs
attribute [local go_sem ↓] bQ ug ev TF xA getLT vU IX N7 ue uf Gf Eo Ep Er AI AK AL AM AN AO Es Eu AP AQ AR AS AT Kj Kk Kl
attribute [local go_sem] bQ ug ev
section
variable(c:ai)(F:Nat)(x0 x1 x2 x3 x4 x5 x6 x7 x8 x9 Bv Bw:AV)(s:St)
end
section
variable{c:ai}(hc:Sem c)(F:Nat){x0 x1 x2 x3 x4 x5 x6 x7 x8 x9 Bv Bw:AV}{s:St}{r:AV×St}
include hc
end
end
section
open Go Go.Ai Go.Proofs
variable{c:ai}
structure bZ.fN(p p':bZ):Prop where
 tl:p'.ts.length=p.ts.length
 ts:∀(i:Nat)(t t':aU),p.ts[i]? =some t->p'.ts[i]? =some t'->t.fN t'
 gl:p'.gs.length=p.gs.length
 gs:∀(i:Nat)(t t':aM),p.gs[i]? =some t->p'.gs[i]? =some t'->t.fN t'
 ys:p'.ys=p.ys
 cs:p'.cs=p.cs
 rs:p'.rs=p.rs
theorem PS.dz{s0 s:St}{Vs:List AV}{p:bZ}(h:PS s0 s Vs p)(d:Nat):∃p',Go.Ai.dz s (d+3) (.agg Vs)= .agg p'.cells/\p.fN p':=by obtain⟨V1,V2,V3,V4,V5,r1,r2,rfl,h1,h2,h3,h4,h5⟩:=h.all;obtain⟨z1,tJ,e1,l1,k1⟩:=h1.dz d;obtain⟨z2,gs',e2,l2,k2⟩:=h2.dz d;obtain⟨z3,e3⟩:=adN h3 (d+1);obtain⟨z4,e4⟩:=UD h4 (d+1);obtain⟨z5,e5⟩:=adO h5 (d+1);refine⟨⟨z1,tJ,z2,gs',z3,p.ys,z4,p.cs,z5,p.rs⟩,?_,⟨l1,k1,l2,k2,rfl,rfl,rfl⟩⟩;rw[Wn];simp only[Zd6,Zi1,e1,e2,e3,e4,e5];rfl
theorem aar(z:Bool)(rs:List (List AV))(hl:rs.length<nU)(dF:∀cs∈rs,cs.length=9)(g:Nat)(v:List AV)(P:Nat->Bool)(st:St)(F:Nat)(k1 k2)
  (hP:∀i (h:i<rs.length),c g (.agg rs[i]::v) st=some (.bool (P i),st)):∀(m k:Nat),rs.length<=k+m->k<=rs.length->
  bW c F k1 k2 (m+1) [ro 9 z rs,.func g [] v,.int .i64 (rs.length:Int),.int .i64 (k:Int)] st=if 0<=scan P (rs.length - k) k then k1 [.int .i64 (scan P (rs.length - k) k)] st else k2 [] st:=by
 intro m;induction m with
 |zero=>
  intro k h1 h2;obtain rfl:k=rs.length:=by omega
  rw[jd];simp[scan]
 |succ m ih=>
  intro k h1 h2;rw[jd];by_cases h:k<rs.length
  . have e:rs.length - k=(rs.length - (k+1))+1:=(by omega);have w:aq .i64 ((k:Int)+1)=((k+1:Nat):Int):=wrap64 (by omega) (by unfold nU at hl;omega);have hcut:cut rs[k] 0 9=some rs[k]:=bV (dF _ (Zc6 h));have hp:=hP k h;rw[e,scan];cases hb:P k
    .   simp only[Zf1,Zf9];rw[<-ih (k+1) (by omega) (by omega)];simp[h,hcut,hp,hb,w]
    .   simp[h,hcut,hp,hb]
  .obtain rfl:k=rs.length:=(by omega);simp[scan]
theorem adP(hc:Sem c)(z:Bool)(rs:List (List AV))(hl:rs.length<nU)(dF:∀cs∈rs,cs.length=9)(g:Nat)(v:List AV)(P:Nat->Bool)(st:St)
   (hP:∀i (h:i<rs.length),c g (.agg rs[i]::v) st=some (.bool (P i),st)):c 213 [ro 9 z rs,.func g [] v] st=some (.int .i64 (scan P rs.length 0),st):=by
 rw[oQ hc (rs.length+1) (r:=(.int .i64 (scan P rs.length 0),st)),aG (Plain.int _ _) (bt.refl st)];rw[pX];have L:∀k1 k2,bW c (rs.length+1) k1 k2 (rs.length+1) [ro 9 z rs,.func g [] v,.int .i64 (rs.length:Int),.int .i64 0] st=if 0<=scan P (rs.length - 0) 0 then k1 [.int .i64 (scan P (rs.length - 0) 0)] st else k2 [] st:=
   λk1 k2=>aar z rs hl dF g v P st _ k1 k2 hP rs.length 0 (by omega) (by omega)
 rw[Zo7]at L;by_cases h:0<=scan P rs.length 0
 .simp[L,h]
 .have:=(Kq P rs.length 0).2 (by omega);simp[L,this]
theorem adQ(hc:Sem c)(g:aM)(s:List Nat)(p:Pos)(st:St)(hw:Wf st)(hp:st.heap.get p=some (.cells [.str s] 0)):c 214 [.agg g.cells,.ptr p 0] st=some (.bool (decide (g.name=s)),st):=by
 rw[PC hc 1 (r:=(.bool (decide (g.name=s)),ah st (.cells g.cells 0))),aG (Plain.bool _) (cw hw)];rw[Uc];have:(ah st (.cells g.cells 0)).heap.get p=some (.cells [.str s] 0):=cw hw _ _ hp;simp[this]
theorem aeE(hc:Sem c)(p:bZ)(hp:p.Ad)(s:List Nat)(st:St)(hw:Wf st):c 170 [.agg p.cells,.str s] st=some (.int .i64 (scan (fy p.gs s) p.gs.length 0),st):=by
 have dc:Wf (ah st (.cells p.cells 0)):=bK hw;have nI:=bK (b:= .cells [.str s] 0) dc;have hg:=(Grew.ah hw (.cells p.cells 0)).trans (Grew.ah dc (.cells [.str s] 0));have fE:(ah (ah st (.cells p.cells 0)) (.cells [.str s] 0)).heap.get st.next=some (.cells p.cells 0):=by have:=aD st (.cells p.cells 0);exact(Grew.ah dc (.cells [.str s] 0)).get this
 have hi:=adP hc p.gz (p.gs.map aM.cells) (by have:=hp.gs;simp;unfold nU;omega) (λcs fV=>by
   simp only[Zg0]at fV;obtain⟨t,_,rfl⟩:=fV;rfl) 214 [.ptr (ah st (.cells p.cells 0)).next 0] (fy p.gs s) (ah (ah st (.cells p.cells 0)) (.cells [.str s] 0)) (λi hi=>by
   have hi3:i<p.gs.length:=(by simpa using hi);have:=adQ hc p.gs[i] s (ah st (.cells p.cells 0)).next _ nI (aD _ _);simp only[Zo0];rw[this];simp[fy,hi3])
 rw[Za9]at hi;rw[Ug hc 1 (r:=(.int .i64 (scan (fy p.gs s) p.gs.length 0),ah (ah st (.cells p.cells 0)) (.cells [.str s] 0))),aG (Plain.int _ _) hg.keeps];rw[X9];have e:(AV.str s).cells=[.str s]:=rfl;simp[e,hi,fE,cr]
structure Kd where
 w:List Nat
 a:Int
 b:Bool
 t:Int
 n:Bool
 lo:Int
 yb:Bool
 f:AV
def Kd.cells(k:Kd):List AV:=[.str k.w,.int .u8 k.a,.bool k.b,.int .u8 k.t,.bool k.n,.int .i64 k.lo,.bool k.yb,k.f]
@[simp] theorem Kd.c0(t:Kd):t.cells[0]? =some (.str t.w):=id rfl
@[simp] theorem Kd.c1(t:Kd):t.cells[1]? =some (.int .u8 t.a):=id rfl
@[simp] theorem Kd.c2(t:Kd):t.cells[2]? =some (.bool t.b):=id rfl
@[simp] theorem Kd.c3(t:Kd):t.cells[3]? =some (.int .u8 t.t):=id rfl
@[simp] theorem Kd.c4(t:Kd):t.cells[4]? =some (.bool t.n):=id rfl
@[simp] theorem Kd.c5(t:Kd):t.cells[5]? =some (.int .i64 t.lo):=id rfl
@[simp] theorem Kd.c6(t:Kd):t.cells[6]? =some (.bool t.yb):=id rfl
@[simp] theorem Kd.cc(t:Kd):cut t.cells 0 8=some t.cells:=bV rfl
def EW(k:Kd)(r:Rl):Bool:=(decide (k.a≠0)||decide (r.a=[]))&&(k.b||decide (r.b=[]))&&(decide (k.t≠0)||decide (r.t=[]))&&(k.n||decide (r.n=0))
theorem acp (hc:Sem c)(k:Kd)(r:Rl)(st:St)(hw:Wf st):c 169 [.agg k.cells,.agg r.cells] st=some (.bool (EW k r),st):=by
 have dc:Wf (ah st (.cells k.cells 0)):=bK hw;have yP:=Grew.ah dc (.cells r.cells 0);have hg:=(Grew.ah hw (.cells k.cells 0)).trans yP;have p1:=yP.get (aD st (.cells k.cells 0));have p2:=aD (ah st (.cells k.cells 0)) (.cells r.cells 0);rw[HV hc 1 (r:=(.bool (EW k r),ah (ah st (.cells k.cells 0)) (.cells r.cells 0))),aG (Plain.bool _) hg.keeps];rw[KB];unfold EW;by_cases h0:k.a=0;rotate_left
 . cases  h2:k.b with
   |true=>
    by_cases h4:k.t=0;rotate_left
    .   cases h6:k.n with
        | true=>
          simp[h0,h2,h4,h6]
        | false=>
          by_cases h7:r.n=0
          .simp[h0,h2,h4,h6,h7]
          .simp[h0,h2,h4,h6,h7]
    by_cases h5:r.t=[]
    .   cases h6:k.n with
        | true=>
          simp[h0,h2,h4,h5,h6]
        | false=>
          by_cases h7:r.n=0
          .simp[h0,h2,h4,h5,h6,h7]
          .simp[h0,h2,h4,h5,h6,h7]
    .   simp[h0,h2,h4,h5]
   |false   =>
    by_cases h3:r.b=[]
    .   by_cases h4:k.t=0;rotate_left
        . cases h6:k.n with
          | true=>
            simp[h0,h2,h3,h4,h6]
          | false=>
            by_cases h7:r.n=0
            .simp[h0,h2,h3,h4,h6,h7]
            .simp[h0,h2,h3,h4,h6,h7]
        by_cases h5:r.t=[]
        . cases h6:k.n with
          | true=>
            simp[h0,h2,h3,h4,h5,h6]
          | false=>
            by_cases h7:r.n=0
            .simp[h0,h2,h3,h4,h5,h6,h7]
            .simp[h0,h2,h3,h4,h5,h6,h7]
        .simp[h0,h2,h3,h4,h5]
    .   simp[h0,h2,h3]
 by_cases h1:r.a=[]
 . cases  h2:k.b with
   |true=>
    by_cases h4:k.t=0;rotate_left
    .   cases h6:k.n with
        | true=>
          simp[h0,h1,h2,h4,h6]
        | false=>
          by_cases h7:r.n=0
          .simp[h0,h1,h2,h4,h6,h7]
          .simp[h0,h1,h2,h4,h6,h7]
    by_cases h5:r.t=[]
    .   cases h6:k.n with
        | true=>
          simp[h0,h1,h2,h4,h5,h6]
        | false=>
          by_cases h7:r.n=0
          .simp[h0,h1,h2,h4,h5,h6,h7]
          .simp[h0,h1,h2,h4,h5,h6,h7]
    .   simp[h0,h1,h2,h4,h5]
   |false   =>
    by_cases h3:r.b=[]
    .   by_cases h4:k.t=0;rotate_left
        . cases h6:k.n with
          | true=>
            simp[h0,h1,h2,h3,h4,h6]
          | false=>
            by_cases h7:r.n=0
            .simp[h0,h1,h2,h3,h4,h6,h7]
            .simp[h0,h1,h2,h3,h4,h6,h7]
        by_cases h5:r.t=[]
        . cases h6:k.n with
          | true=>
            simp[h0,h1,h2,h3,h4,h5,h6]
          | false=>
            by_cases h7:r.n=0
            .simp[h0,h1,h2,h3,h4,h5,h6,h7]
            .simp[h0,h1,h2,h3,h4,h5,h6,h7]
        .simp[h0,h1,h2,h3,h4,h5]
    .   simp[h0,h1,h2,h3]
 .simp[h0,h1]
end
end Go.Proofs.YtlkadmkojjceiaaGreatDoor
