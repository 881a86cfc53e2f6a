/- Functions, plainly. -/
import Derived.Test.YtgihekklfnjkiaaGreatDoorDWalk
set_option linter.all false
set_option linter.unusedSectionVars false
set_option linter.deprecated false
namespace Go.Proofs.YtgihekklfnjkiaaGreatDoor
noncomputable section
open Go Go.Ai Go.Proofs
def Tb:fc:=vL [(246,FN),(14,YF)]
def Sem(c:aj):Prop:=c=run Tb gg
def gA(f:Nat):dV:=xU gg f
abbrev PX(f:Nat)(s:Sh):={a:Tx // txF (gA f) s=a}
abbrev PL(f:Nat)(s:Sh)(i:Nat):={a:List Pos×Tx // txL (iu (gA f) s i)=a}
theorem Sem.o0{c:aj}(hc:Sem c)(F:Nat){f:FuncId}{args:List AV}{st:St}{r:AV×St}(s:Sh)(hk:(zM (Tb f)&& !zM (gg.get (key f))&&(fS (gA f).code s).isEmpty)=true)
  {k:O2} (hd:IA c F (agc []) (gA f) s args st=k) (h:k=some r):c f args st=some (tidy st r):=by
 subst hc;exact aj9 s hk hd h
theorem Sem.o1{c:aj}(hc:Sem c)(F:Nat){f:FuncId}{args:List AV}{st:St}{r:AV×St}(Ls:Un->List Q2->Nat->Q2)(s:Sh)(hk:(zM (Tb f)&& !zM (gg.get (key f))&&Nat.beq (fS (gA f).code s).length 1)=true)
  (hs:(adB (iu (gA f) s 0).2&&Nat.beq (lpJ (iu (gA f) s 0).2) 0)=true) (h0:∀K' vs st,ud Ls (gA f) s 0 K' 0 vs st=none)
  (h1:∀K' n vs st,ud Ls (gA f) s 0 K' (n+1) vs st=Px (den c F (ud Ls (gA f) s) (iu (gA f) s 0).1 (lpB (iu (gA f) s 0).2)) (lpI (iu (gA f) s 0).2) (lpO (iu (gA f) s 0).2) K' (ud Ls (gA f) s 0 K' n) vs st)
  {k:O2} (hd:IA c F (ud Ls (gA f) s) (gA f) s args st=k) (h:k=some r):c f args st=some (tidy st r):=by
 subst hc;exact aka Ls s hk hs h0 h1 hd h
theorem Sem.oL{c:aj}(hc:Sem c)(F:Nat){f:FuncId}{args:List AV}{st:St}{r:AV×St}(Ls:Un->List Q2->Nat->Q2)(s:Sh)(n:Nat)(hk:(zM (Tb f)&& !zM (gg.get (key f))&&Nat.beq (fS (gA f).code s).length n)=true)
  (hL:∀i,i<n->Da c F (ud Ls (gA f) s) (iu (gA f) s i).1 (iu (gA f) s i).2) {k:O2} (hd:IA c F (ud Ls (gA f) s) (gA f) s args st=k) (h:k=some r):c f args st=some (tidy st r):=by
 subst hc;exact adJ Ls s n hk hL hd h
end
noncomputable section
set_option linter.all false
set_option maxRecDepth 100000
set_option maxHeartbeats 4000000
open Go Go.Ai Go.Proofs
attribute [local go_sem ↓] bf Gv ev evX GV getLT Gu aaW kat Dh Di Wp Wq Wr Ws PG PI PJ PM PN PO Wt Wu PR PT PW PY PZ acm acn aco
attribute [local go_sem] bf Gv ev
section
variable(c : aj)(F : Nat)(x0 x1 x2 x3 x4 x5 x6 x7 x8 x9 x10 T7 : AV)(s : St)
def Md:Sh:=(sq sl (sq (sq sl (sq sl (sc (sq sl sl) sl))) (sq (sq sl (sq sl (sc (sq sl sl) sl))) (sq (sq sl (sc (sq sl sl) sl)) (sq (sq sl (sb (sp 0 [1,47,48,49] [(1,[2,3]),(2,[1])] (sq sl (sq (sc sl sl) (sq (sb (sq sl (sq sl (sc (sq sl sl) sl)))) sl)))))) (sq (sq sl (sc (sq sl sl) sl)) (sq sl sl)))))))
def XD:PX 49 Md:=⟨_,by conv=>lhs;reduce⟩
def Uf:PL 49 Md 0:=⟨_,by conv=>lhs;reduce⟩
def sU(k1 k2:Q2):Nat->Q2
 |0,_,_=>none
 |n+1,vs,s=>dZ c F aY (sU k1 k2 n) [k1,k2] Uf.1 vs s
def NI(k1 k2:Q2)(n:Nat)(vs:List AV)(s:St):=(by dsimp only[sU,Uf,go_sem,Int.reduceOfNat]:sU c F k1 k2 (n+1) vs s=_)
def Me:Un->List Q2->Nat->Q2
 | .z,[k1,k2]=>sU c F k1 k2
 |_,_=>λ_=>fy
def Tj:O2:=bf c F (Me c F) XD.1 [x0] s
def aii:=(by dsimp only[Tj,XD, ↓Me,go_sem,Int.reduceOfNat]:Tj c F x0 s=_)
def XE:Sh:=(sq sl (sq sl sl))
def XF:PX 50 XE:=⟨_,by conv=>lhs;reduce⟩
def Tk:O2:=bf c F aY XF.1 [] s
def ain:=(by dsimp only[Tk,XF,go_sem,Int.reduceOfNat]:Tk c F s=_)
def Jb:Sh:=(sq sl (sj [3,4,5] (sb (sq sl (sc (sq sl sl) (sq sl (sc (sq sl sl) (sq sl (sc (sq sl sl) (sj [3,4,5,28] (sq sl (sc sl (sq sl (sc sl sl)))) (sc (sq sl sl) (sq sl (sc (sq sl sl) (sq sl (sc (sq sl sl) sl))))))))))))) (sq sl (sq (sq sl (sc (sq sl sl) sl)) (sq sl (sj [3,5,9] (sq sl (sc sl sl)) (sq (sq sl (sc (sq sl sl) sl)) (sq sl sl))))))))
def Jd:PX 51 Jb:=⟨_,by conv=>lhs;reduce⟩
def DC:O2:=bf c F aY Jd.1 [x0,x1,x2] s
def Zt:=(by dsimp only[DC,Jd,go_sem,Int.reduceOfNat]:DC c F x0 x1 x2 s=_)
def Mf:Sh:=(sq sl (sq (sq sl (sq sl (sc (sq sl sl) sl))) (sq sl (sq (sq sl (sb (sp 0 [1,6,21,22,23] [(1,[2,3]),(2,[])] (sq sl (sq (sc sl sl) (sq (sb (sq sl (sq (sq sl (sq sl (sc (sq sl sl) sl))) (sq sl (sc (sq sl sl) sl))))) sl)))))) (sq sl sl)))))
def XG:PX 56 Mf:=⟨_,by conv=>lhs;reduce⟩
def Ug:PL 56 Mf 0:=⟨_,by conv=>lhs;reduce⟩
def wR(k1 k2:Q2):Nat->Q2
 |0,_,_=>none
 |n+1,vs,s=>dZ c F aY (wR k1 k2 n) [k1,k2] Ug.1 vs s
def Dw(k1 k2:Q2)(n:Nat)(vs:List AV)(s:St):=(by dsimp only[wR,Ug,go_sem,Int.reduceOfNat]:wR c F k1 k2 (n+1) vs s=_)
def Mg:Un->List Q2->Nat->Q2
 | .z,[k1,k2]=>wR c F k1 k2
 |_,_=>λ_=>fy
def Tl:O2:=bf c F (Mg c F) XG.1 [x0] s
def Xm:=(by dsimp only[Tl,XG, ↓Mg,go_sem,Int.reduceOfNat]:Tl c F x0 s=_)
def Mh:Sh:=(sq sl (sq (sq sl (sc (sq sl sl) sl)) (sq sl (sq (sq sl (sb (sp 0 [5,23,24,25] [(2,[5])] (sq sl (sq (sc sl sl) (sq (sb (sq sl sl)) sl)))))) (sq sl sl)))))
def XH:PX 58 Mh:=⟨_,by conv=>lhs;reduce⟩
def Uh:PL 58 Mh 0:=⟨_,by conv=>lhs;reduce⟩
def wQ(k2:Q2):Nat->Q2
 |0,_,_=>none
 |n+1,vs,s=>dZ c F aY (wQ k2 n) [k2] Uh.1 vs s
def Dr(k2:Q2)(n:Nat)(vs:List AV)(s:St):=(by dsimp only[wQ,Uh,go_sem,Int.reduceOfNat]:wQ c F k2 (n+1) vs s=_)
def Mi:Un->List Q2->Nat->Q2
 | .z,[k2]=>wQ c F k2
 |_,_=>λ_=>fy
def Tm:O2:=bf c F (Mi c F) XH.1 [x0,x1] s
def Xi:=(by dsimp only[Tm,XH, ↓Mi,go_sem,Int.reduceOfNat]:Tm c F x0 x1 s=_)
def XI:Sh:=(sq sl (sq (sq sl (sc (sq sl sl) sl)) (sq sl sl)))
def XJ:PX 59 XI:=⟨_,by conv=>lhs;reduce⟩
def Tn:O2:=bf c F aY XJ.1 [x0] s
def ah8:=(by dsimp only[Tn,XJ,go_sem,Int.reduceOfNat]:Tn c F x0 s=_)
def DD:Sh:=(sq sl (sq sl (sq (sq sl (sb (sp 0 [1,5,14,15,16] [(1,[2,3,4]),(2,[1,5])] (sq sl (sq (sc sl sl) (sq (sb (sq sl (sq sl (sq sl (sc (sq sl sl) sl))))) sl)))))) (sq (sq sl (sb (sp 1 [1,5,30,31,32] [(1,[2,3,4]),(4,[5])] (sq sl (sq (sc sl sl) (sj [1,5,30,31,32] (sb (sq sl (sq sl (sj [1,5,9,11,30,31,32] (sq sl (sc sl sl)) (sq sl (sc (sq sl sl) sl)))))) sl)))))) (sq sl sl)))))
def XK:PX 68 DD:=⟨_,by conv=>lhs;reduce⟩
def Ui:PL 68 DD 1:=⟨_,by conv=>lhs;reduce⟩
def ny(k1 k4:Q2):Nat->Q2
 |0,_,_=>none
 |n+1,vs,s=>dZ c F aY (ny k1 k4 n) [k1,k4] Ui.1 vs s
def yd(k1 k4:Q2)(n:Nat)(vs:List AV)(s:St):=(by dsimp only[ny,Ui,go_sem,Int.reduceOfNat]:ny c F k1 k4 (n+1) vs s=_)
def Uj:PL 68 DD 0:=⟨_,by conv=>lhs;reduce⟩
def kO(k1 k2:Q2):Nat->Q2
 |0,_,_=>none
 |n+1,vs,s=>dZ c F aY (kO k1 k2 n) [k1,k2] Uj.1 vs s
def yc(k1 k2:Q2)(n:Nat)(vs:List AV)(s:St):=(by dsimp only[kO,Uj,go_sem,Int.reduceOfNat]:kO c F k1 k2 (n+1) vs s=_)
def Mj:Un->List Q2->Nat->Q2
 | .z,[k1,k2]=>kO c F k1 k2
 |(.s .z),[k1,k4]=>ny c F k1 k4
 |_,_=>λ_=>fy
def Dv:O2:=bf c F (Mj c F) XK.1 [x0] s
def aif:=(by dsimp only[Dv,XK, ↓Mj,go_sem,Int.reduceOfNat]:Dv c F x0 s=_)
def DE:Sh:=(sq sl (sq (sq sl (sc (sq sl sl) sl)) (sq (sq sl (sb (sp 0 [0,10,11,12] [(1,[2,3]),(2,[])] (sq sl (sq (sc sl sl) (sq (sb (sq sl (sq (sq sl (sq sl (sc (sq sl sl) sl))) (sq sl (sc (sq sl sl) sl))))) sl)))))) (sq sl sl))))
def NQ:PX 88 DE:=⟨_,by conv=>lhs;reduce⟩
def Ml:PL 88 DE 0:=⟨_,by conv=>lhs;reduce⟩
def ry(k1 k2:Q2):Nat->Q2
 |0,_,_=>none
 |n+1,vs,s=>dZ c F aY (ry k1 k2 n) [k1,k2] Ml.1 vs s
def yR(k1 k2:Q2)(n:Nat)(vs:List AV)(s:St):=(by dsimp only[ry,Ml,go_sem,Int.reduceOfNat]:ry c F k1 k2 (n+1) vs s=_)
def DF:Un->List Q2->Nat->Q2
 | .z,[k1,k2]=>ry c F k1 k2
 |_,_=>λ_=>fy
def IL:O2:=bf c F (DF c F) NQ.1 [x0] s
def NG:=(by dsimp only[IL,NQ, ↓DF,go_sem,Int.reduceOfNat]:IL c F x0 s=_)
def Je:Sh:=(sq sl (sq sl (sq sl sl)))
def Jf:PX 89 Je:=⟨_,by conv=>lhs;reduce⟩
def DG:O2:=bf c F aY Jf.1 [x0] s
def Zr:=(by dsimp only[DG,Jf,go_sem,Int.reduceOfNat]:DG c F x0 s=_)
def Jh:Sh:=(sq sl (sq sl sl))
def Ji:PX 108 Jh:=⟨_,by conv=>lhs;reduce⟩
def DH:O2:=bf c F aY Ji.1 [x0,x1] s
def Zs:=(by dsimp only[DH,Ji,go_sem,Int.reduceOfNat]:DH c F x0 x1 s=_)
def ac9:Sh:=(sq sl (sq sl sl))
def ada:PX 109 ac9:=⟨_,by conv=>lhs;reduce⟩
def aby:O2:=bf c F aY ada.1 [x0,x1] s
def alM:=(by dsimp only[aby,ada,go_sem,Int.reduceOfNat]:aby c F x0 x1 s=_)
def OH:Sh:=(sq sl (sq (sq sl (sc (sq sl sl) sl)) (sq (sq sl (sb (sp 0 [0,13,14] [(1,[2]),(2,[])] (sq sl (sq (sc sl sl) (sq (sb (sq sl (sq sl (sc (sq sl sl) sl)))) sl)))))) (sq sl sl))))
def aad:PX 110 OH:=⟨_,by conv=>lhs;reduce⟩
def XL:PL 110 OH 0:=⟨_,by conv=>lhs;reduce⟩
def uO(k1 k2:Q2):Nat->Q2
 |0,_,_=>none
 |n+1,vs,s=>dZ c F aY (uO k1 k2 n) [k1,k2] XL.1 vs s
def Qm(k1 k2:Q2)(n:Nat)(vs:List AV)(s:St):=(by dsimp only[uO,XL,go_sem,Int.reduceOfNat]:uO c F k1 k2 (n+1) vs s=_)
def OI:Un->List Q2->Nat->Q2
 | .z,[k1,k2]=>uO c F k1 k2
 |_,_=>λ_=>fy
def XM:O2:=bf c F (OI c F) aad.1 [x0] s
def ajl:=(by dsimp only[XM,aad, ↓OI,go_sem,Int.reduceOfNat]:XM c F x0 s=_)
def aae:Sh:=(sq sl (sq sl (sq (sq sl (sc (sq sl sl) sl)) (sq sl sl))))
def aaf:PX 111 aae:=⟨_,by conv=>lhs;reduce⟩
def XN:O2:=bf c F aY aaf.1 [x0,x1] s
def ajo:=(by dsimp only[XN,aaf,go_sem,Int.reduceOfNat]:XN c F x0 x1 s=_)
def uX:Sh:=(sq sl (sq (sq sl (sc (sq sl sl) sl)) (sq sl sl)))
def uY:PX 117 uX:=⟨_,by conv=>lhs;reduce⟩
def pS:O2:=bf c F aY uY.1 [x0] s
def jN:=(by dsimp only[pS,uY,go_sem,Int.reduceOfNat]:pS c F x0 s=_)
def XO:Sh:=(sq sl (sq sl (sq sl sl)))
def XP:PX 120 XO:=⟨_,by conv=>lhs;reduce⟩
def To:O2:=bf c F aY XP.1 [x0] s
def ah6:=(by dsimp only[To,XP,go_sem,Int.reduceOfNat]:To c F x0 s=_)
def aag:Sh:=(sq sl (sq sl (sq (sq sl (sc (sq sl sl) sl)) (sq sl sl))))
def aah:PX 121 aag:=⟨_,by conv=>lhs;reduce⟩
def XQ:O2:=bf c F aY aah.1 [x0] s
def ajk:=(by dsimp only[XQ,aah,go_sem,Int.reduceOfNat]:XQ c F x0 s=_)
def NR:Sh:=(sq sl (sq (sq sl (sc (sq sl sl) sl)) (sq sl sl)))
def NS:PX 122 NR:=⟨_,by conv=>lhs;reduce⟩
def IM:O2:=bf c F aY NS.1 [x0] s
def acP:=(by dsimp only[IM,NS,go_sem,Int.reduceOfNat]:IM c F x0 s=_)
def aai:Sh:=(sq sl (sq sl sl))
def aaj:PX 128 aai:=⟨_,by conv=>lhs;reduce⟩
def XS:O2:=bf c F aY aaj.1 [] s
def ajp:=(by dsimp only[XS,aaj,go_sem,Int.reduceOfNat]:XS c F s=_)
def Mm:Sh:=(sq sl (sq (sq sl (sc (sq sl sl) sl)) (sq (sq sl (sq sl (sc (sq sl sl) sl))) (sq (sq sl (sq sl (sc (sq sl sl) sl))) (sq (sq sl (sc (sq sl sl) sl)) (sq sl (sq sl (sq sl sl))))))))
def Mn:PX 129 Mm:=⟨_,by conv=>lhs;reduce⟩
def zD:O2:=bf c F aY Mn.1 [x0,x1] s
def vU:=(by dsimp only[zD,Mn,go_sem,Int.reduceOfNat]:zD c F x0 x1 s=_)
def Uk:Sh:=(sq sl (sq (sq sl (sq sl (sc (sq sl sl) sl))) (sq sl sl)))
def Ul:PX 130 Uk:=⟨_,by conv=>lhs;reduce⟩
def OJ:O2:=bf c F aY Ul.1 [x0,x1] s
def afO:=(by dsimp only[OJ,Ul,go_sem,Int.reduceOfNat]:OJ c F x0 x1 s=_)
def BF:Sh:=(sq sl (sq (sq sl (sc (sq sl sl) sl)) (sq (sq sl (sc (sq sl sl) sl)) (sq (sq sl (sb (sp 0 [0,1,2,3,30,31,32] [(1,[8]),(2,[0,1,2,3])] (sq sl (sq (sc sl sl) (sq (sb (sq sl (sq sl (sq sl (sc (sq sl sl) sl))))) sl)))))) (sq sl (sq (sq sl (sc (sq sl sl) sl)) (sq (sq sl (sc (sq sl sl) sl)) (sq sl (sq sl sl)))))))))
def Mo:PX 131 BF:=⟨_,by conv=>lhs;reduce⟩
def Jj:PL 131 BF 0:=⟨_,by conv=>lhs;reduce⟩
def ni(k1 k2:Q2):Nat->Q2
 |0,_,_=>none
 |n+1,vs,s=>dZ c F aY (ni k1 k2 n) [k1,k2] Jj.1 vs s
def xw(k1 k2:Q2)(n:Nat)(vs:List AV)(s:St):=(by dsimp only[ni,Jj,go_sem,Int.reduceOfNat]:ni c F k1 k2 (n+1) vs s=_)
def BG:Un->List Q2->Nat->Q2
 | .z,[k1,k2]=>ni c F k1 k2
 |_,_=>λ_=>fy
def zE:O2:=bf c F (BG c F) Mo.1 [x0,x1,x2,x3] s
def vW:=(by dsimp only[zE,Mo, ↓BG,go_sem,Int.reduceOfNat]:zE c F x0 x1 x2 x3 s=_)
def Jk:Sh:=(sq sl (sq sl sl))
def Jl:PX 136 Jk:=⟨_,by conv=>lhs;reduce⟩
def DI:O2:=bf c F aY Jl.1 [x0] s
def Zq:=(by dsimp only[DI,Jl,go_sem,Int.reduceOfNat]:DI c F x0 s=_)
def HC:Sh:=(sq sl (sq sl sl))
def HD:PX 137 HC:=⟨_,by conv=>lhs;reduce⟩
def BH:O2:=bf c F aY HD.1 [x0,x1,x2] s
def Ht:=(by dsimp only[BH,HD,go_sem,Int.reduceOfNat]:BH c F x0 x1 x2 s=_)
def Mp:Sh:=(sq sl (sq sl (sq sl (sq (sb (sq sl (sc (sq sl sl) (sq sl (sc (sq sl sl) sl))))) (sq (sq sl (sb (sp 0 [1,3,4,18,19,20] [(1,[2]),(3,[1])] (sq sl (sq (sc sl sl) (sq (sb (sq sl (sq (sq sl (sc (sq sl sl) sl)) sl))) sl)))))) (sq (sq sl (sc (sq sl sl) sl)) (sq sl sl)))))))
def XT:PX 158 Mp:=⟨_,by conv=>lhs;reduce⟩
def Um:PL 158 Mp 0:=⟨_,by conv=>lhs;reduce⟩
def sS(k1 k3:Q2):Nat->Q2
 |0,_,_=>none
 |n+1,vs,s=>dZ c F aY (sS k1 k3 n) [k1,k3] Um.1 vs s
def NF(k1 k3:Q2)(n:Nat)(vs:List AV)(s:St):=(by dsimp only[sS,Um,go_sem,Int.reduceOfNat,Int.reduceNegSucc]:sS c F k1 k3 (n+1) vs s=_)
def Mq:Un->List Q2->Nat->Q2
 | .z,[k1,k3]=>sS c F k1 k3
 |_,_=>λ_=>fy
def Tq:O2:=bf c F (Mq c F) XT.1 [x0] s
def ah3:=(by dsimp only[Tq,XT, ↓Mq,go_sem,Int.reduceOfNat,Int.reduceNegSucc]:Tq c F x0 s=_)
def mA:Sh:=(sq sl (sq sl sl))
def mB:PX 159 mA:=⟨_,by conv=>lhs;reduce⟩
def iH:O2:=bf c F aY mB.1 [x0,x1] s
def ve:=(by dsimp only[iH,mB,go_sem,Int.reduceOfNat]:iH c F x0 x1 s=_)
def Jm:Sh:=(sq sl (sq sl sl))
def Jn:PX 160 Jm:=⟨_,by conv=>lhs;reduce⟩
def DJ:O2:=bf c F aY Jn.1 [x0,x1] s
def Zn:=(by dsimp only[DJ,Jn,go_sem,Int.reduceOfNat]:DJ c F x0 x1 s=_)
def iT:Sh:=(sq sl (sq (sq sl (sb (sp 0 [0,1,7,8] [(1,[4]),(2,[])] (sq sl (sq (sc sl sl) (sq (sb (sq sl (sq sl (sc (sq sl sl) sl)))) sl)))))) (sq sl sl)))
def oc:PX 175 iT:=⟨_,by conv=>lhs;reduce⟩
def nD:PL 175 iT 0:=⟨_,by conv=>lhs;reduce⟩
def cY(k1 k2:Q2):Nat->Q2
 |0,_,_=>none
 |n+1,vs,s=>dZ c F aY (cY k1 k2 n) [k1,k2] nD.1 vs s
def mz(k1 k2:Q2)(n:Nat)(vs:List AV)(s:St):=(by dsimp only[cY,nD,go_sem,Int.reduceOfNat,Int.reduceNegSucc]:cY c F k1 k2 (n+1) vs s=_)
def iU:Un->List Q2->Nat->Q2
 | .z,[k1,k2]=>cY c F k1 k2
 |_,_=>λ_=>fy
def jH:O2:=bf c F (iU c F) oc.1 [x0,x1] s
def xx:=(by dsimp only[jH,oc, ↓iU,go_sem,Int.reduceOfNat,Int.reduceNegSucc]:jH c F x0 x1 s=_)
def XU:Sh:=(sq sl (sq sl sl))
def XV:PX 176 XU:=⟨_,by conv=>lhs;reduce⟩
def Tr:O2:=bf c F aY XV.1 [x0,x1] s
def aij:=(by dsimp only[Tr,XV,go_sem,Int.reduceOfNat]:Tr c F x0 x1 s=_)
def iV:Sh:=(sq sl (sq (sq sl (sb (sp 0 [0,1,7,8] [(1,[4]),(2,[])] (sq sl (sq (sc sl sl) (sq (sb (sq sl (sq sl (sc (sq sl sl) sl)))) sl)))))) (sq sl sl)))
def od:PX 177 iV:=⟨_,by conv=>lhs;reduce⟩
def nE:PL 177 iV 0:=⟨_,by conv=>lhs;reduce⟩
def cX(k1 k2:Q2):Nat->Q2
 |0,_,_=>none
 |n+1,vs,s=>dZ c F aY (cX k1 k2 n) [k1,k2] nE.1 vs s
def mq(k1 k2:Q2)(n:Nat)(vs:List AV)(s:St):=(by dsimp only[cX,nE,go_sem,Int.reduceOfNat,Int.reduceNegSucc]:cX c F k1 k2 (n+1) vs s=_)
def iW:Un->List Q2->Nat->Q2
 | .z,[k1,k2]=>cX c F k1 k2
 |_,_=>λ_=>fy
def jI:O2:=bf c F (iW c F) od.1 [x0,x1] s
def xq:=(by dsimp only[jI,od, ↓iW,go_sem,Int.reduceOfNat,Int.reduceNegSucc]:jI c F x0 x1 s=_)
def Uo:Sh:=(sq sl (sq sl sl))
def Up:PX 178 Uo:=⟨_,by conv=>lhs;reduce⟩
def OK:O2:=bf c F aY Up.1 [x0,x1] s
def afK:=(by dsimp only[OK,Up,go_sem,Int.reduceOfNat]:OK c F x0 x1 s=_)
def NT:Sh:=(sq sl (sq (sq sl (sb (sq sl (sc (sq sl sl) (sq sl (sc (sq sl sl) (sq sl (sc (sq sl sl) (sq sl (sc (sq sl sl) sl)))))))))) (sq sl sl)))
def NU:PX 180 NT:=⟨_,by conv=>lhs;reduce⟩
def IN:O2:=bf c F aY NU.1 [x0] s
def acI:=(by dsimp only[IN,NU,go_sem,Int.reduceOfNat]:IN c F x0 s=_)
def IP:Sh:=(sq sl (sq (sb (sq sl (sc (sq sl sl) (sq sl (sc (sq sl sl) (sq sl (sc (sq sl sl) (sq sl (sc (sq sl sl) sl))))))))) (sq (sq sl (sb (sp 0 [1,52,53,54] [(1,[2]),(3,[])] (sq sl (sq (sc sl sl) (sq (sb (sq sl (sq sl (sc (sq sl sl) sl)))) sl)))))) (sq sl sl))))
def Uq:PX 182 IP:=⟨_,by conv=>lhs;reduce⟩
def QO:PL 182 IP 0:=⟨_,by conv=>lhs;reduce⟩
def qR(k1 k3:Q2):Nat->Q2
 |0,_,_=>none
 |n+1,vs,s=>dZ c F aY (qR k1 k3 n) [k1,k3] QO.1 vs s
def LP(k1 k3:Q2)(n:Nat)(vs:List AV)(s:St):=(by dsimp only[qR,QO,go_sem,Int.reduceOfNat]:qR c F k1 k3 (n+1) vs s=_)
def IQ:Un->List Q2->Nat->Q2
 | .z,[k1,k3]=>qR c F k1 k3
 |_,_=>λ_=>fy
def OL:O2:=bf c F (IQ c F) Uq.1 [x0] s
def afN:=(by dsimp only[OL,Uq, ↓IQ,go_sem,Int.reduceOfNat]:OL c F x0 s=_)
def QT:Sh:=(sq sl (sq sl (sq sl sl)))
def QU:PX 183 QT:=⟨_,by conv=>lhs;reduce⟩
def Mr:O2:=bf c F aY QU.1 [x0] s
def ad7:=(by dsimp only[Mr,QU,go_sem,Int.reduceOfNat]:Mr c F x0 s=_)
def Jo:Sh:=(sq sl (sq sl sl))
def Jp:PX 184 Jo:=⟨_,by conv=>lhs;reduce⟩
def strings_Compare:O2:=bf c F aY Jp.1 [x0,x1] s
def Zp:=(by dsimp only[strings_Compare,Jp,go_sem,Int.reduceOfNat]:strings_Compare c F x0 x1 s=_)
def sw:Sh:=(sq sl (sq sl (sq sl (sq (sq sl (sc (sq sl sl) sl)) (sq sl (sq (sq sl (sc (sq sl sl) sl)) (sq (sq sl (sc (sq sl (sq sl (sq sl (sq sl sl)))) sl)) (sq sl (sq (sq sl (sc (sq sl (sq sl (sq sl sl))) sl)) (sq sl (sq sl (sq sl sl))))))))))))
def sx:PX 185 sw:=⟨_,by conv=>lhs;reduce⟩
def nH:O2:=bf c F aY sx.1 [x0,x1,x2] s
def CE:=(by dsimp only[nH,sx,go_sem,Int.reduceOfNat]:nH c F x0 x1 x2 s=_)
def XW:Sh:=(sq sl (sq sl sl))
def XX:PX 186 XW:=⟨_,by conv=>lhs;reduce⟩
def Ts:O2:=bf c F aY XX.1 [x0,x1,x2] s
def Xk:=(by dsimp only[Ts,XX,go_sem,Int.reduceOfNat]:Ts c F x0 x1 x2 s=_)
def fE:Sh:=(sq sl (sq sl (sq sl (sq (sb (sp 0 [0,2,4,8,9,10] [(2,[0,2,4,8,9])] (sq (sq sl (sc sl sl)) (sb (sq sl (sq sl (sc sl sl))))))) (sq sl sl)))))
def jq:PX 189 fE:=⟨_,by conv=>lhs;reduce⟩
def je:PL 189 fE 0:=⟨_,by conv=>lhs;reduce⟩
def bn(k2:Q2):Nat->Q2
 |0,_,_=>none
 |n+1,vs,s=>dZ c F aY (bn k2 n) [k2] je.1 vs s
def eZ(k2:Q2)(n:Nat)(vs:List AV)(s:St):=(by dsimp only[bn,je,go_sem,Int.reduceOfNat]:bn c F k2 (n+1) vs s=_)
def fG:Un->List Q2->Nat->Q2
 | .z,[k2]=>bn c F k2
 |_,_=>λ_=>fy
def fN:O2:=bf c F (fG c F) jq.1 [x0,x1,x2] s
def qU:=(by dsimp only[fN,jq, ↓fG,go_sem,Int.reduceOfNat]:fN c F x0 x1 x2 s=_)
def OM:Sh:=(sq sl (sq (sq sl (sb (sp 0 [0,3] [(1,[2]),(2,[0])] (sq (sq sl (sc sl sl)) (sq (sb (sq sl (sc (sq sl sl) sl))) sl))))) (sq sl sl)))
def aak:PX 203 OM:=⟨_,by conv=>lhs;reduce⟩
def XY:PL 203 OM 0:=⟨_,by conv=>lhs;reduce⟩
def uP(k1 k2:Q2):Nat->Q2
 |0,_,_=>none
 |n+1,vs,s=>dZ c F aY (uP k1 k2 n) [k1,k2] XY.1 vs s
def Qn(k1 k2:Q2)(n:Nat)(vs:List AV)(s:St):=(by dsimp only[uP,XY,go_sem,Int.reduceOfNat]:uP c F k1 k2 (n+1) vs s=_)
def ON:Un->List Q2->Nat->Q2
 | .z,[k1,k2]=>uP c F k1 k2
 |_,_=>λ_=>fy
def XZ:O2:=bf c F (ON c F) aak.1 [x0] s
def ajm:=(by dsimp only[XZ,aak, ↓ON,go_sem,Int.reduceOfNat]:XZ c F x0 s=_)
def Jq:Sh:=(sq sl (sq (sq sl (sc (sq sl sl) sl)) (sq sl sl)))
def Jr:PX 204 Jq:=⟨_,by conv=>lhs;reduce⟩
def DK:O2:=bf c F aY Jr.1 [x0,x1] s
def Zk:=(by dsimp only[DK,Jr,go_sem,Int.reduceOfNat]:DK c F x0 x1 s=_)
def Ms:Sh:=(sq sl (sq (sq sl (sc (sq sl sl) sl)) (sq sl sl)))
def Mt:PX 209 Ms:=⟨_,by conv=>lhs;reduce⟩
def Ge:O2:=bf c F aY Mt.1 [x0,x1] s
def abl:=(by dsimp only[Ge,Mt,go_sem,Int.reduceOfNat]:Ge c F x0 x1 s=_)
def Mu:Sh:=(sq sl (sq (sq sl (sc (sq sl sl) sl)) (sq sl sl)))
def Mw:PX 214 Mu:=⟨_,by conv=>lhs;reduce⟩
def Gf:O2:=bf c F aY Mw.1 [x0,x1] s
def abm:=(by dsimp only[Gf,Mw,go_sem,Int.reduceOfNat]:Gf c F x0 x1 s=_)
def NV:Sh:=(sq sl (sq (sq sl (sc (sq sl sl) sl)) (sq sl sl)))
def NW:PX 219 NV:=⟨_,by conv=>lhs;reduce⟩
def IU:O2:=bf c F aY NW.1 [x0,x1] s
def acH:=(by dsimp only[IU,NW,go_sem,Int.reduceOfNat]:IU c F x0 x1 s=_)
def Mx:Sh:=(sq sl (sq (sq sl (sc (sq sl sl) sl)) (sq (sq sl (sb (sp 0 [0,13,14] [(1,[2]),(2,[])] (sq sl (sq (sc sl sl) (sq (sb (sq sl (sq sl (sc (sq sl sl) sl)))) sl)))))) (sq sl sl))))
def X0:PX 225 Mx:=⟨_,by conv=>lhs;reduce⟩
def Ur:PL 225 Mx 0:=⟨_,by conv=>lhs;reduce⟩
def sQ(k1 k2:Q2):Nat->Q2
 |0,_,_=>none
 |n+1,vs,s=>dZ c F aY (sQ k1 k2 n) [k1,k2] Ur.1 vs s
def ND(k1 k2:Q2)(n:Nat)(vs:List AV)(s:St):=(by dsimp only[sQ,Ur,go_sem,Int.reduceOfNat]:sQ c F k1 k2 (n+1) vs s=_)
def My:Un->List Q2->Nat->Q2
 | .z,[k1,k2]=>sQ c F k1 k2
 |_,_=>λ_=>fy
def Tt:O2:=bf c F (My c F) X0.1 [x0] s
def ahZ:=(by dsimp only[Tt,X0, ↓My,go_sem,Int.reduceOfNat]:Tt c F x0 s=_)
def X4:Sh:=(sq sl (sq sl sl))
def X5:PX 226 X4:=⟨_,by conv=>lhs;reduce⟩
def Tu:O2:=bf c F aY X5.1 [x0] s
def ah2:=(by dsimp only[Tu,X5,go_sem,Int.reduceOfNat]:Tu c F x0 s=_)
def zP:Sh:=(sq sl (sq sl sl))
def zQ:PX 227 zP:=⟨_,by conv=>lhs;reduce⟩
def bytealg_CompareString:O2:=bf c F aY zQ.1 [x0,x1] s
def MU:=(by dsimp only[bytealg_CompareString,zQ,go_sem,Int.reduceOfNat]:bytealg_CompareString c F x0 x1 s=_)
end
section
variable{c : aj}(hc : Sem c)(F : Nat){x0 x1 x2 x3 x4 x5 x6 x7 x8 x9 x10 T7 : AV}{s : St}{r : AV × St}
include hc
theorem aea(h:Tj c F x0 s=some r):c 49 [x0] s=some (tidy s r):=hc.o1 F (Me c F) Md (by kernel_rfl) (by kernel_rfl) (λ_ _ _=>by kernel_rfl) (λ_ _ _ _=>by kernel_rfl) (by kernel_rfl) h
theorem aec(h:Tk c F s=some r):c 50 [] s=some (tidy s r):=hc.o0 F XE (by kernel_rfl) (by kernel_rfl) h
theorem Va(h:DC c F x0 x1 x2 s=some r):c 51 [x0,x1,x2] s=some (tidy s r):=hc.o0 F Jb (by kernel_rfl) (by kernel_rfl) h
theorem Qu(h:Tl c F x0 s=some r):c 56 [x0] s=some (tidy s r):=hc.o1 F (Mg c F) Mf (by kernel_rfl) (by kernel_rfl) (λ_ _ _=>by kernel_rfl) (λ_ _ _ _=>by kernel_rfl) (by kernel_rfl) h
theorem Qo(h:Tm c F x0 x1 s=some r):c 58 [x0,x1] s=some (tidy s r):=hc.o1 F (Mi c F) Mh (by kernel_rfl) (by kernel_rfl) (λ_ _ _=>by kernel_rfl) (λ_ _ _ _=>by kernel_rfl) (by kernel_rfl) h
theorem ad4(h:Tn c F x0 s=some r):c 59 [x0] s=some (tidy s r):=hc.o0 F XI (by kernel_rfl) (by kernel_rfl) h
theorem ad9(h:Dv c F x0 s=some r):c 68 [x0] s=some (tidy s r):=hc.oL F (Mj c F) DD 2 (by kernel_rfl) (λi hi=>match i,hi with|0,_=>cS 0 (by kernel_rfl) (λ_ _ _=>by kernel_rfl) (λ_ _ _ _=>by kernel_rfl)|1,_=>cS 1 (by kernel_rfl) (λ_ _ _=>by kernel_rfl) (λ_ _ _ _=>by kernel_rfl)|n+2,h=>absurd h (by omega)) (by kernel_rfl) h
theorem I6(h:IL c F x0 s=some r):c 88 [x0] s=some (tidy s r):=hc.o1 F (DF c F) DE (by kernel_rfl) (by kernel_rfl) (λ_ _ _=>by kernel_rfl) (λ_ _ _ _=>by kernel_rfl) (by kernel_rfl) h
theorem U8(h:DG c F x0 s=some r):c 89 [x0] s=some (tidy s r):=hc.o0 F Je (by kernel_rfl) (by kernel_rfl) h
theorem U9(h:DH c F x0 x1 s=some r):c 108 [x0,x1] s=some (tidy s r):=hc.o0 F Jh (by kernel_rfl) (by kernel_rfl) h
theorem aik(h:aby c F x0 x1 s=some r):c 109 [x0,x1] s=some (tidy s r):=hc.o0 F ac9 (by kernel_rfl) (by kernel_rfl) h
theorem afI(h:XM c F x0 s=some r):c 110 [x0] s=some (tidy s r):=hc.o1 F (OI c F) OH (by kernel_rfl) (by kernel_rfl) (λ_ _ _=>by kernel_rfl) (λ_ _ _ _=>by kernel_rfl) (by kernel_rfl) h
theorem afM(h:XN c F x0 x1 s=some r):c 111 [x0,x1] s=some (tidy s r):=hc.o0 F aae (by kernel_rfl) (by kernel_rfl) h
theorem jd(h:pS c F x0 s=some r):c 117 [x0] s=some (tidy s r):=hc.o0 F uX (by kernel_rfl) (by kernel_rfl) h
theorem ad3(h:To c F x0 s=some r):c 120 [x0] s=some (tidy s r):=hc.o0 F XO (by kernel_rfl) (by kernel_rfl) h
theorem afH(h:XQ c F x0 s=some r):c 121 [x0] s=some (tidy s r):=hc.o0 F aag (by kernel_rfl) (by kernel_rfl) h
theorem Zo(h:IM c F x0 s=some r):c 122 [x0] s=some (tidy s r):=hc.o0 F NR (by kernel_rfl) (by kernel_rfl) h
theorem afP(h:XS c F s=some r):c 128 [] s=some (tidy s r):=hc.o0 F aai (by kernel_rfl) (by kernel_rfl) h
theorem Hs(h:zD c F x0 x1 s=some r):c 129 [x0,x1] s=some (tidy s r):=hc.o0 F Mm (by kernel_rfl) (by kernel_rfl) h
theorem acS(h:OJ c F x0 x1 s=some r):c 130 [x0,x1] s=some (tidy s r):=hc.o0 F Uk (by kernel_rfl) (by kernel_rfl) h
theorem yU(h:zE c F x0 x1 x2 x3 s=some r):c 131 [x0,x1,x2,x3] s=some (tidy s r):=hc.o1 F (BG c F) BF (by kernel_rfl) (by kernel_rfl) (λ_ _ _=>by kernel_rfl) (λ_ _ _ _=>by kernel_rfl) (by kernel_rfl) h
theorem U7(h:DI c F x0 s=some r):c 136 [x0] s=some (tidy s r):=hc.o0 F Jk (by kernel_rfl) (by kernel_rfl) h
theorem Du(h:BH c F x0 x1 x2 s=some r):c 137 [x0,x1,x2] s=some (tidy s r):=hc.o0 F HC (by kernel_rfl) (by kernel_rfl) h
theorem ad1(h:Tq c F x0 s=some r):c 158 [x0] s=some (tidy s r):=hc.o1 F (Mq c F) Mp (by kernel_rfl) (by kernel_rfl) (λ_ _ _=>by kernel_rfl) (λ_ _ _ _=>by kernel_rfl) (by kernel_rfl) h
theorem uy(h:iH c F x0 x1 s=some r):c 159 [x0,x1] s=some (tidy s r):=hc.o0 F mA (by kernel_rfl) (by kernel_rfl) h
theorem U5(h:DJ c F x0 x1 s=some r):c 160 [x0,x1] s=some (tidy s r):=hc.o0 F Jm (by kernel_rfl) (by kernel_rfl) h
theorem vX(h:jH c F x0 x1 s=some r):c 175 [x0,x1] s=some (tidy s r):=hc.o1 F (iU c F) iT (by kernel_rfl) (by kernel_rfl) (λ_ _ _=>by kernel_rfl) (λ_ _ _ _=>by kernel_rfl) (by kernel_rfl) h
theorem aeb(h:Tr c F x0 x1 s=some r):c 176 [x0,x1] s=some (tidy s r):=hc.o0 F XU (by kernel_rfl) (by kernel_rfl) h
theorem vQ(h:jI c F x0 x1 s=some r):c 177 [x0,x1] s=some (tidy s r):=hc.o1 F (iW c F) iV (by kernel_rfl) (by kernel_rfl) (λ_ _ _=>by kernel_rfl) (λ_ _ _ _=>by kernel_rfl) (by kernel_rfl) h
theorem acO(h:OK c F x0 x1 s=some r):c 178 [x0,x1] s=some (tidy s r):=hc.o0 F Uo (by kernel_rfl) (by kernel_rfl) h
theorem Zm(h:IN c F x0 s=some r):c 180 [x0] s=some (tidy s r):=hc.o0 F NT (by kernel_rfl) (by kernel_rfl) h
theorem acQ(h:OL c F x0 s=some r):c 182 [x0] s=some (tidy s r):=hc.o1 F (IQ c F) IP (by kernel_rfl) (by kernel_rfl) (λ_ _ _=>by kernel_rfl) (λ_ _ _ _=>by kernel_rfl) (by kernel_rfl) h
theorem abp(h:Mr c F x0 s=some r):c 183 [x0] s=some (tidy s r):=hc.o0 F QT (by kernel_rfl) (by kernel_rfl) h
theorem U6(h:strings_Compare c F x0 x1 s=some r):c 184 [x0,x1] s=some (tidy s r):=hc.o0 F Jo (by kernel_rfl) (by kernel_rfl) h
theorem AS(h:nH c F x0 x1 x2 s=some r):c 185 [x0,x1,x2] s=some (tidy s r):=hc.o0 F sw (by kernel_rfl) (by kernel_rfl) h
theorem Qq(h:Ts c F x0 x1 x2 s=some r):c 186 [x0,x1,x2] s=some (tidy s r):=hc.o0 F XW (by kernel_rfl) (by kernel_rfl) h
theorem p7(h:fN c F x0 x1 x2 s=some r):c 189 [x0,x1,x2] s=some (tidy s r):=hc.o1 F (fG c F) fE (by kernel_rfl) (by kernel_rfl) (λ_ _ _=>by kernel_rfl) (λ_ _ _ _=>by kernel_rfl) (by kernel_rfl) h
theorem afJ(h:XZ c F x0 s=some r):c 203 [x0] s=some (tidy s r):=hc.o1 F (ON c F) OM (by kernel_rfl) (by kernel_rfl) (λ_ _ _=>by kernel_rfl) (λ_ _ _ _=>by kernel_rfl) (by kernel_rfl) h
theorem U4(h:DK c F x0 x1 s=some r):c 204 [x0,x1] s=some (tidy s r):=hc.o0 F Jq (by kernel_rfl) (by kernel_rfl) h
theorem Xf(h:Ge c F x0 x1 s=some r):c 209 [x0,x1] s=some (tidy s r):=hc.o0 F Ms (by kernel_rfl) (by kernel_rfl) h
theorem Xg(h:Gf c F x0 x1 s=some r):c 214 [x0,x1] s=some (tidy s r):=hc.o0 F Mu (by kernel_rfl) (by kernel_rfl) h
theorem Zl(h:IU c F x0 x1 s=some r):c 219 [x0,x1] s=some (tidy s r):=hc.o0 F NV (by kernel_rfl) (by kernel_rfl) h
theorem adX(h:Tt c F x0 s=some r):c 225 [x0] s=some (tidy s r):=hc.o1 F (My c F) Mx (by kernel_rfl) (by kernel_rfl) (λ_ _ _=>by kernel_rfl) (λ_ _ _ _=>by kernel_rfl) (by kernel_rfl) h
theorem ad0(h:Tu c F x0 s=some r):c 226 [x0] s=some (tidy s r):=hc.o0 F X4 (by kernel_rfl) (by kernel_rfl) h
theorem KI(h:bytealg_CompareString c F x0 x1 s=some r):c 227 [x0,x1] s=some (tidy s r):=hc.o0 F zP (by kernel_rfl) (by kernel_rfl) h
end
set_option linter.all false
set_option maxRecDepth 100000
set_option maxHeartbeats 4000000
open Go Go.Ai Go.Proofs
attribute [local go_sem ↓] bf Gv ev evX GV getLT Gu aaW kat Dh Di Wp Wq Wr Ws PG PI PJ PM PN PO Wt Wu PR PT PW PY PZ acm acn aco
attribute [local go_sem] bf Gv ev
section
variable(c : aj)(F : Nat)(x0 x1 x2 x3 x4 x5 x6 x7 x8 x9 x10 T7 : AV)(s : St)
def we:Sh:=(sq sl (sq (sq sl (sq sl (sc (sq sl sl) sl))) (sq sl (sq (sq sl (sb (sp 0 [1,7,40,41] [(2,[1,7])] (sq sl (sq (sc sl sl) (sq (sb (sq sl (sq sl (sq sl (sq sl (sb (sp 1 [1,7,8,9,10,11,40,41] [(4,[1,7,40,41])] (sq (sq sl (sc sl sl)) (sq (sb (sq sl (sq sl (sq sl (sq sl sl))))) (sq (sq sl sl) sl)))))))))) sl)))))) (sq (sq sl (sb (sp 2 [1,7,131,132] [(6,[1,7])] (sq sl (sq (sc sl sl) (sq (sb (sq sl sl)) sl)))))) (sq sl (sq (sq sl (sb (sp 3 [1,7,13,159,160,161] [(8,[7])] (sq sl (sq (sc sl sl) (sq (sb (sq sl (sq sl (sq sl (sq (sq sl (sb (sp 4 [1,7,13,17,18,19,159,160,161,166,167,168] [(10,[1,7,13,18,19,159,160,161])] (sq sl (sq (sc sl sl) (sq (sb (sq sl (sq sl (sq sl sl)))) sl)))))) sl))))) sl)))))) (sq sl sl))))))))
def adb:PX 18 we:=⟨_,by conv=>lhs;reduce⟩
def aal:PL 18 we 4:=⟨_,by conv=>lhs;reduce⟩
def w7(NM:Q2):Nat->Q2
 |0,_,_=>none
 |n+1,vs,s=>dZ c F aY (w7 NM n) [NM] aal.1 vs s
def Ud(NM:Q2)(n:Nat)(vs:List AV)(s:St):=(by dsimp only[w7,aal,go_sem,Int.reduceOfNat]:w7 c F NM (n+1) vs s=_)
def aam:Un->List Q2->Nat->Q2
 |(.s (.s (.s (.s .z)))),[NM]=>w7 c F NM
 |_,_=>λ_=>fy
def aan:PL 18 we 3:=⟨_,by conv=>lhs;reduce⟩
def AY(k8:Q2):Nat->Q2
 |0,_,_=>none
 |n+1,vs,s=>dZ c F (aam c F) (AY k8 n) [k8] aan.1 vs s
def Ue(k8:Q2)(n:Nat)(vs:List AV)(s:St):=(by dsimp only[AY,aan, ↓aam,go_sem,Int.reduceOfNat]:AY c F k8 (n+1) vs s=_)
def aao:PL 18 we 2:=⟨_,by conv=>lhs;reduce⟩
def AX(k6:Q2):Nat->Q2
 |0,_,_=>none
 |n+1,vs,s=>dZ c F aY (AX k6 n) [k6] aao.1 vs s
def Uc(k6:Q2)(n:Nat)(vs:List AV)(s:St):=(by dsimp only[AX,aao,go_sem,Int.reduceOfNat]:AX c F k6 (n+1) vs s=_)
def aap:PL 18 we 1:=⟨_,by conv=>lhs;reduce⟩
def wZ(k4:Q2):Nat->Q2
 |0,_,_=>none
 |n+1,vs,s=>dZ c F aY (wZ k4 n) [k4] aap.1 vs s
def Ua(k4:Q2)(n:Nat)(vs:List AV)(s:St):=(by dsimp only[wZ,aap,go_sem,Int.reduceOfNat]:wZ c F k4 (n+1) vs s=_)
def aaq:Un->List Q2->Nat->Q2
 |(.s .z),[k4]=>wZ c F k4
 |_,_=>λ_=>fy
def aar:PL 18 we 0:=⟨_,by conv=>lhs;reduce⟩
def AW(k2:Q2):Nat->Q2
 |0,_,_=>none
 |n+1,vs,s=>dZ c F (aaq c F) (AW k2 n) [k2] aar.1 vs s
def Ub(k2:Q2)(n:Nat)(vs:List AV)(s:St):=(by dsimp only[AW,aar, ↓aaq,go_sem,Int.reduceOfNat]:AW c F k2 (n+1) vs s=_)
def Tv:Un->List Q2->Nat->Q2
 | .z,[k2]=>AW c F k2
 |(.s .z),[k4]=>wZ c F k4
 |(.s (.s .z)),[k6]=>AX c F k6
 |(.s (.s (.s .z))),[k8]=>AY c F k8
 |(.s (.s (.s (.s .z)))),[NM]=>w7 c F NM
 |_,_=>λ_=>fy
def abz:O2:=bf c F (Tv c F) adb.1 [x0] s
def amb:=(by dsimp only[abz,adb, ↓Tv,go_sem,Int.reduceOfNat]:abz c F x0 s=_)
def Bs:Sh:=(sq sl (sq sl (sq (sq sl (sb (sp 0 [1,2,11,12] [(2,[1,2])] (sq sl (sq (sc sl sl) (sq (sb (sq sl sl)) sl)))))) (sq sl (sq (sq sl (sb (sp 1 [1,2,34,35] [(4,[1,2])] (sq sl (sq (sc sl sl) (sq (sb (sq sl sl)) sl)))))) (sq sl (sq sl sl)))))))
def Ut:PX 57 Bs:=⟨_,by conv=>lhs;reduce⟩
def QX:PL 57 Bs 1:=⟨_,by conv=>lhs;reduce⟩
def uU(k4:Q2):Nat->Q2
 |0,_,_=>none
 |n+1,vs,s=>dZ c F aY (uU k4 n) [k4] QX.1 vs s
def L9(k4:Q2)(n:Nat)(vs:List AV)(s:St):=(by dsimp only[uU,QX,go_sem,Int.reduceOfNat]:uU c F k4 (n+1) vs s=_)
def QY:PL 57 Bs 0:=⟨_,by conv=>lhs;reduce⟩
def uT(k2:Q2):Nat->Q2
 |0,_,_=>none
 |n+1,vs,s=>dZ c F aY (uT k2 n) [k2] QY.1 vs s
def L8(k2:Q2)(n:Nat)(vs:List AV)(s:St):=(by dsimp only[uT,QY,go_sem,Int.reduceOfNat]:uT c F k2 (n+1) vs s=_)
def IV:Un->List Q2->Nat->Q2
 | .z,[k2]=>uT c F k2
 |(.s .z),[k4]=>uU c F k4
 |_,_=>λ_=>fy
def OQ:O2:=bf c F (IV c F) Ut.1 [x0] s
def af4:=(by dsimp only[OQ,Ut, ↓IV,go_sem,Int.reduceOfNat]:OQ c F x0 s=_)
def X6:Sh:=(sq sl (sq sl (sq (sq sl (sc (sq sl sl) sl)) (sq sl sl))))
def X7:PX 60 X6:=⟨_,by conv=>lhs;reduce⟩
def Tw:O2:=bf c F aY X7.1 [x0,x1] s
def Xv:=(by dsimp only[Tw,X7,go_sem,Int.reduceOfNat]:Tw c F x0 x1 s=_)
def aas:Sh:=(sq sl (sq sl (sq sl sl)))
def aat:PX 61 aas:=⟨_,by conv=>lhs;reduce⟩
def X9:O2:=bf c F aY aat.1 [x0,x1] s
def ajv:=(by dsimp only[X9,aat,go_sem,Int.reduceOfNat]:X9 c F x0 x1 s=_)
def Mz:Sh:=(sq sl (sq sl (sq (sq sl (sb (sp 0 [0,1,2,7,8] [(2,[7])] (sq (sq sl (sc sl sl)) (sj [0,1,2,7,8] (sb (sq sl (sc sl sl))) sl))))) (sq sl sl))))
def Ya:PX 62 Mz:=⟨_,by conv=>lhs;reduce⟩
def Uu:PL 62 Mz 0:=⟨_,by conv=>lhs;reduce⟩
def wS(k2:Q2):Nat->Q2
 |0,_,_=>none
 |n+1,vs,s=>dZ c F aY (wS k2 n) [k2] Uu.1 vs s
def Dz(k2:Q2)(n:Nat)(vs:List AV)(s:St):=(by dsimp only[wS,Uu,go_sem,Int.reduceOfNat]:wS c F k2 (n+1) vs s=_)
def MA:Un->List Q2->Nat->Q2
 | .z,[k2]=>wS c F k2
 |_,_=>λ_=>fy
def Tz:O2:=bf c F (MA c F) Ya.1 [x0,x1,x2] s
def aix:=(by dsimp only[Tz,Ya, ↓MA,go_sem,Int.reduceOfNat]:Tz c F x0 x1 x2 s=_)
def Yb:Sh:=(sq sl (sq sl sl))
def Yc:PX 63 Yb:=⟨_,by conv=>lhs;reduce⟩
def TA:O2:=bf c F aY Yc.1 [x0,x1,x2] s
def aiB:=(by dsimp only[TA,Yc,go_sem,Int.reduceOfNat]:TA c F x0 x1 x2 s=_)
def Uv:Sh:=(sq sl (sq sl (sq sl sl)))
def Uw:PX 64 Uv:=⟨_,by conv=>lhs;reduce⟩
def OR:O2:=bf c F aY Uw.1 [x0,x1,x2] s
def af0:=(by dsimp only[OR,Uw,go_sem,Int.reduceOfNat]:OR c F x0 x1 x2 s=_)
def Yd:Sh:=(sq sl (sq sl sl))
def Ye:PX 65 Yd:=⟨_,by conv=>lhs;reduce⟩
def TE:O2:=bf c F aY Ye.1 [x0,x1,x2] s
def aiC:=(by dsimp only[TE,Ye,go_sem,Int.reduceOfNat]:TE c F x0 x1 x2 s=_)
def Ux:Sh:=(sq sl (sq sl (sq sl sl)))
def Uy:PX 66 Ux:=⟨_,by conv=>lhs;reduce⟩
def OS:O2:=bf c F aY Uy.1 [x0,x1,x2] s
def af1:=(by dsimp only[OS,Uy,go_sem,Int.reduceOfNat]:OS c F x0 x1 x2 s=_)
def qg:Sh:=(sq sl (sq sl (sq (sq sl (sb (sp 0 [0,5,6] [(2,[5])] (sq (sq sl (sc sl sl)) (sq (sb (sq sl (sb (sp 1 [0,5,6,41,42,43] [(4,[0,5,6])] (sq sl (sq (sc sl sl) (sq (sb (sq sl (sq sl (sb (sp 2 [0,5,6,41,42,43,47,48,49] [(6,[0,5,6,41,42,43])] (sq sl (sq (sc sl sl) (sj [0,5,6,41,42,43,47,48,49] (sb (sq sl (sq sl (sq sl (sc (sq sl sl) sl))))) sl)))))))) sl))))))) sl))))) (sq sl sl))))
def Js:PX 67 qg:=⟨_,by conv=>lhs;reduce⟩
def HE:PL 67 qg 2:=⟨_,by conv=>lhs;reduce⟩
def jF(k6:Q2):Nat->Q2
 |0,_,_=>none
 |n+1,vs,s=>dZ c F aY (jF k6 n) [k6] HE.1 vs s
def vZ(k6:Q2)(n:Nat)(vs:List AV)(s:St):=(by dsimp only[jF,HE,go_sem,Int.reduceOfNat]:jF c F k6 (n+1) vs s=_)
def HF:Un->List Q2->Nat->Q2
 |(.s (.s .z)),[k6]=>jF c F k6
 |_,_=>λ_=>fy
def HG:PL 67 qg 1:=⟨_,by conv=>lhs;reduce⟩
def fB(k4:Q2):Nat->Q2
 |0,_,_=>none
 |n+1,vs,s=>dZ c F (HF c F) (fB k4 n) [k4] HG.1 vs s
def v8(k4:Q2)(n:Nat)(vs:List AV)(s:St):=(by dsimp only[fB,HG, ↓HF,go_sem,Int.reduceOfNat]:fB c F k4 (n+1) vs s=_)
def HJ:Un->List Q2->Nat->Q2
 |(.s .z),[k4]=>fB c F k4
 |(.s (.s .z)),[k6]=>jF c F k6
 |_,_=>λ_=>fy
def HN:PL 67 qg 0:=⟨_,by conv=>lhs;reduce⟩
def o9(k2:Q2):Nat->Q2
 |0,_,_=>none
 |n+1,vs,s=>dZ c F (HJ c F) (o9 k2 n) [k2] HN.1 vs s
def v7(k2:Q2)(n:Nat)(vs:List AV)(s:St):=(by dsimp only[o9,HN, ↓HJ,go_sem,Int.reduceOfNat]:o9 c F k2 (n+1) vs s=_)
def Ae:Un->List Q2->Nat->Q2
 | .z,[k2]=>o9 c F k2
 |(.s .z),[k4]=>fB c F k4
 |(.s (.s .z)),[k6]=>jF c F k6
 |_,_=>λ_=>fy
def DM:O2:=bf c F (Ae c F) Js.1 [x0,x1] s
def ZD:=(by dsimp only[DM,Js, ↓Ae,go_sem,Int.reduceOfNat]:DM c F x0 x1 s=_)
def Fj:Sh:=(sq sl (sq sl (sq sl (sq (sq sl (sc (sq sl sl) sl)) (sq sl sl)))))
def Fk:PX 69 Fj:=⟨_,by conv=>lhs;reduce⟩
def uD:O2:=bf c F aY Fk.1 [x0,x1,x2] s
def Vl:=(by dsimp only[uD,Fk,go_sem,Int.reduceOfNat]:uD c F x0 x1 x2 s=_)
def Ju:Sh:=(sq sl (sq (sq sl (sc (sq sl sl) sl)) (sq sl (sq (sq sl (sc (sq sl sl) sl)) (sq sl sl)))))
def Jv:PX 70 Ju:=⟨_,by conv=>lhs;reduce⟩
def DN:O2:=bf c F aY Jv.1 [x0,x1,x2] s
def I8:=(by dsimp only[DN,Jv,go_sem,Int.reduceOfNat]:DN c F x0 x1 x2 s=_)
def qG:Sh:=(sq sl (sq sl sl))
def yh:PX 73 qG:=⟨_,by conv=>lhs;reduce⟩
def nP:O2:=bf c F aY yh.1 [x0,x1] s
def xY:=(by dsimp only[nP,yh,go_sem,Int.reduceOfNat]:nP c F x0 x1 s=_)
def Jw:Sh:=(sq sl (sq sl sl))
def Jy:PX 78 Jw:=⟨_,by conv=>lhs;reduce⟩
def DO:O2:=bf c F aY Jy.1 [x0] s
def Zf:=(by dsimp only[DO,Jy,go_sem,Int.reduceOfNat]:DO c F x0 s=_)
def qh:Sh:=(sq sl (sq (sq sl (sc (sq sl sl) sl)) (sq sl sl)))
def qi:PX 114 qh:=⟨_,by conv=>lhs;reduce⟩
def lf:O2:=bf c F aY qi.1 [x0] s
def qd:=(by dsimp only[lf,qi,go_sem,Int.reduceOfNat]:lf c F x0 s=_)
def A8:Sh:=(sq sl (sq (sq sl (sc (sq sl sl) sl)) (sq sl sl)))
def A9:PX 115 A8:=⟨_,by conv=>lhs;reduce⟩
def wj:O2:=bf c F aY A9.1 [x0] s
def AT:=(by dsimp only[wj,A9,go_sem,Int.reduceOfNat]:wj c F x0 s=_)
def qj:Sh:=(sq sl (sq (sq sl (sc (sq sl sl) sl)) (sq sl sl)))
def qk:PX 116 qj:=⟨_,by conv=>lhs;reduce⟩
def lq:O2:=bf c F aY qk.1 [x0] s
def qe:=(by dsimp only[lq,qk,go_sem,Int.reduceOfNat]:lq c F x0 s=_)
def tR:Sh:=(sq sl (sq (sq sl (sc (sq sl sl) sl)) (sq sl sl)))
def tS:PX 118 tR:=⟨_,by conv=>lhs;reduce⟩
def oD:O2:=bf c F aY tS.1 [x0] s
def tK:=(by dsimp only[oD,tS,go_sem,Int.reduceOfNat]:oD c F x0 s=_)
def rI:Sh:=(sq sl (sq (sq sl (sc (sq sl sl) sl)) (sq sl sl)))
def rJ:PX 119 rI:=⟨_,by conv=>lhs;reduce⟩
def mX:O2:=bf c F aY rJ.1 [x0] s
def rF:=(by dsimp only[mX,rJ,go_sem,Int.reduceOfNat]:mX c F x0 s=_)
def MB:Sh:=(sq sl (sq (sq sl (sc (sq sl sl) sl)) (sq (sq sl (sb (sp 0 [1,17,18,19] [(1,[4,5,6]),(2,[])] (sq sl (sq (sc sl sl) (sq (sb (sq sl (sq sl (sq (sq sl (sc (sq sl sl) sl)) sl)))) sl)))))) (sq sl sl))))
def Yf:PX 123 MB:=⟨_,by conv=>lhs;reduce⟩
def Uz:PL 123 MB 0:=⟨_,by conv=>lhs;reduce⟩
def sV(k1 k2:Q2):Nat->Q2
 |0,_,_=>none
 |n+1,vs,s=>dZ c F aY (sV k1 k2 n) [k1,k2] Uz.1 vs s
def ye(k1 k2:Q2)(n:Nat)(vs:List AV)(s:St):=(by dsimp only[sV,Uz,go_sem,Int.reduceOfNat]:sV c F k1 k2 (n+1) vs s=_)
def MC:Un->List Q2->Nat->Q2
 | .z,[k1,k2]=>sV c F k1 k2
 |_,_=>λ_=>fy
def TF:O2:=bf c F (MC c F) Yf.1 [x0,x1] s
def Xr:=(by dsimp only[TF,Yf, ↓MC,go_sem,Int.reduceOfNat]:TF c F x0 x1 s=_)
def IW:Sh:=(sq sl (sq sl (sq sl (sq (sq sl (sb (sp 0 [5,23,24,25] [(2,[5])] (sq sl (sq (sc sl sl) (sj [5,23,24,25] (sb (sq sl (sq sl (sc sl sl)))) sl)))))) (sq sl sl)))))
def UA:PX 124 IW:=⟨_,by conv=>lhs;reduce⟩
def QZ:PL 124 IW 0:=⟨_,by conv=>lhs;reduce⟩
def uS(k2:Q2):Nat->Q2
 |0,_,_=>none
 |n+1,vs,s=>dZ c F aY (uS k2 n) [k2] QZ.1 vs s
def BE(k2:Q2)(n:Nat)(vs:List AV)(s:St):=(by dsimp only[uS,QZ,go_sem,Int.reduceOfNat]:uS c F k2 (n+1) vs s=_)
def IX:Un->List Q2->Nat->Q2
 | .z,[k2]=>uS c F k2
 |_,_=>λ_=>fy
def OT:O2:=bf c F (IX c F) UA.1 [x0] s
def af3:=(by dsimp only[OT,UA, ↓IX,go_sem,Int.reduceOfNat]:OT c F x0 s=_)
def aau:Sh:=(sq sl (sq sl (sq sl (sq (sq sl (sc (sq sl sl) sl)) (sq sl sl)))))
def aav:PX 125 aau:=⟨_,by conv=>lhs;reduce⟩
def Yg:O2:=bf c F aY aav.1 [x0,x1,x2] s
def aju:=(by dsimp only[Yg,aav,go_sem,Int.reduceOfNat]:Yg c F x0 x1 x2 s=_)
def UB:Sh:=(sq sl (sq sl (sq sl sl)))
def UC:PX 126 UB:=⟨_,by conv=>lhs;reduce⟩
def OU:O2:=bf c F aY UC.1 [x0,x1,x2] s
def afW:=(by dsimp only[OU,UC,go_sem,Int.reduceOfNat]:OU c F x0 x1 x2 s=_)
def UD:Sh:=(sq sl (sq sl (sq sl sl)))
def UE:PX 127 UD:=⟨_,by conv=>lhs;reduce⟩
def OV:O2:=bf c F aY UE.1 [x0,x1,x2] s
def afX:=(by dsimp only[OV,UE,go_sem,Int.reduceOfNat]:OV c F x0 x1 x2 s=_)
def Jz:Sh:=(sq sl (sq (sq sl (sc (sq sl sl) sl)) (sq sl (sq (sq sl (sc (sq sl sl) sl)) (sq sl sl)))))
def JA:PX 132 Jz:=⟨_,by conv=>lhs;reduce⟩
def DP:O2:=bf c F aY JA.1 [x0,x1] s
def I9:=(by dsimp only[DP,JA,go_sem,Int.reduceOfNat]:DP c F x0 x1 s=_)
def kD:Sh:=(sq sl (sq sl (sq (sq sl (sc (sq sl sl) sl)) (sq (sq sl (sb (sp 0 [0,1,5,6] [(2,[0,5])] (sq (sq sl (sc sl sl)) (sj [0,1,5,6] (sb (sq sl (sq sl (sc (sq sl sl) sl)))) sl))))) (sq sl (sq sl sl))))))
def qM:PX 133 kD:=⟨_,by conv=>lhs;reduce⟩
def qm:PL 133 kD 0:=⟨_,by conv=>lhs;reduce⟩
def fe(k2:Q2):Nat->Q2
 |0,_,_=>none
 |n+1,vs,s=>dZ c F aY (fe k2 n) [k2] qm.1 vs s
def jG(k2:Q2)(n:Nat)(vs:List AV)(s:St):=(by dsimp only[fe,qm,go_sem,Int.reduceOfNat,Int.reduceNegSucc]:fe c F k2 (n+1) vs s=_)
def kF:Un->List Q2->Nat->Q2
 | .z,[k2]=>fe c F k2
 |_,_=>λ_=>fy
def mj:O2:=bf c F (kF c F) qM.1 [x0,x1] s
def qK:=(by dsimp only[mj,qM, ↓kF,go_sem,Int.reduceOfNat,Int.reduceNegSucc]:mj c F x0 x1 s=_)
def Cs:Sh:=(sq sl (sq sl sl))
def Ct:PX 134 Cs:=⟨_,by conv=>lhs;reduce⟩
def xz:O2:=bf c F aY Ct.1 [x0,x1] s
def QE:=(by dsimp only[xz,Ct,go_sem,Int.reduceOfNat]:xz c F x0 x1 s=_)
def sy:Sh:=(sq sl (sq sl sl))
def sF:PX 135 sy:=⟨_,by conv=>lhs;reduce⟩
def nI:O2:=bf c F aY sF.1 [x0,x1] s
def CH:=(by dsimp only[nI,sF,go_sem,Int.reduceOfNat]:nI c F x0 x1 s=_)
def oR:Sh:=(sq sl (sq (sq sl (sb (sp 0 [0,1,7,8] [(1,[4]),(2,[])] (sq sl (sq (sc sl sl) (sq (sb (sq sl (sq sl (sc (sq sl sl) sl)))) sl)))))) (sq sl sl)))
def Ba:PX 138 oR:=⟨_,by conv=>lhs;reduce⟩
def zR:PL 138 oR 0:=⟨_,by conv=>lhs;reduce⟩
def iq(k1 k2:Q2):Nat->Q2
 |0,_,_=>none
 |n+1,vs,s=>dZ c F aY (iq k1 k2 n) [k1,k2] zR.1 vs s
def iZ(k1 k2:Q2)(n:Nat)(vs:List AV)(s:St):=(by dsimp only[iq,zR,go_sem,Int.reduceOfNat,Int.reduceNegSucc]:iq c F k1 k2 (n+1) vs s=_)
def oU:Un->List Q2->Nat->Q2
 | .z,[k1,k2]=>iq c F k1 k2
 |_,_=>λ_=>fy
def qH:O2:=bf c F (oU c F) Ba.1 [x0,x1] s
def AO:=(by dsimp only[qH,Ba, ↓oU,go_sem,Int.reduceOfNat,Int.reduceNegSucc]:qH c F x0 x1 s=_)
def yZ:Sh:=(sq sl (sq sl (sq (sq sl (sb (sp 0 [1,2,5,15,16] [(2,[1,2,5])] (sq sl (sq (sc sl sl) (sq (sb (sq sl sl)) sl)))))) (sq sl (sq sl (sq (sb (sp 1 [2,5,7] [(4,[5])] (sq (sq sl (sc sl sl)) (sb (sq sl (sq sl (sq sl (sb (sp 2 [2,5,7,8,36,37,38] [(6,[2,5,7])] (sq sl (sq (sc sl sl) (sj [2,5,7,8,36,37,38] (sb (sq sl (sq sl (sc (sq sl sl) sl)))) sl)))))))))))) (sq sl sl)))))))
def Yh:PX 181 yZ:=⟨_,by conv=>lhs;reduce⟩
def UF:PL 181 yZ 2:=⟨_,by conv=>lhs;reduce⟩
def sW(k6:Q2):Nat->Q2
 |0,_,_=>none
 |n+1,vs,s=>dZ c F aY (sW k6 n) [k6] UF.1 vs s
def yf(k6:Q2)(n:Nat)(vs:List AV)(s:St):=(by dsimp only[sW,UF,go_sem,Int.reduceOfNat,Int.reduceNegSucc]:sW c F k6 (n+1) vs s=_)
def UG:Un->List Q2->Nat->Q2
 |(.s (.s .z)),[k6]=>sW c F k6
 |_,_=>λ_=>fy
def UH:PL 181 yZ 1:=⟨_,by conv=>lhs;reduce⟩
def pR(k4:Q2):Nat->Q2
 |0,_,_=>none
 |n+1,vs,s=>dZ c F (UG c F) (pR k4 n) [k4] UH.1 vs s
def Dy(k4:Q2)(n:Nat)(vs:List AV)(s:St):=(by dsimp only[pR,UH, ↓UG,go_sem,Int.reduceOfNat,Int.reduceNegSucc]:pR c F k4 (n+1) vs s=_)
def UI:PL 181 yZ 0:=⟨_,by conv=>lhs;reduce⟩
def sY(k2:Q2):Nat->Q2
 |0,_,_=>none
 |n+1,vs,s=>dZ c F aY (sY k2 n) [k2] UI.1 vs s
def NJ(k2:Q2)(n:Nat)(vs:List AV)(s:St):=(by dsimp only[sY,UI,go_sem,Int.reduceOfNat,Int.reduceNegSucc]:sY c F k2 (n+1) vs s=_)
def MD:Un->List Q2->Nat->Q2
 | .z,[k2]=>sY c F k2
 |(.s .z),[k4]=>pR c F k4
 |(.s (.s .z)),[k6]=>sW c F k6
 |_,_=>λ_=>fy
def TG:O2:=bf c F (MD c F) Yh.1 [x0,x1] s
def aiv:=(by dsimp only[TG,Yh, ↓MD,go_sem,Int.reduceOfNat,Int.reduceNegSucc]:TG c F x0 x1 s=_)
def lu:Sh:=(sq sl (sq (sq sl (sb (sp 0 [0,1,7,8] [(1,[4]),(2,[])] (sq sl (sq (sc sl sl) (sq (sb (sq sl (sq sl (sc (sq sl sl) sl)))) sl)))))) (sq sl sl)))
def rM:PX 187 lu:=⟨_,by conv=>lhs;reduce⟩
def qN:PL 187 lu 0:=⟨_,by conv=>lhs;reduce⟩
def dU(k1 k2:Q2):Nat->Q2
 |0,_,_=>none
 |n+1,vs,s=>dZ c F aY (dU k1 k2 n) [k1,k2] qN.1 vs s
def eO(k1 k2:Q2)(n:Nat)(vs:List AV)(s:St):=(by dsimp only[dU,qN,go_sem,Int.reduceOfNat,Int.reduceNegSucc]:dU c F k1 k2 (n+1) vs s=_)
def lz:Un->List Q2->Nat->Q2
 | .z,[k1,k2]=>dU c F k1 k2
 |_,_=>λ_=>fy
def mY:O2:=bf c F (lz c F) rM.1 [x0,x1] s
def rH:=(by dsimp only[mY,rM, ↓lz,go_sem,Int.reduceOfNat,Int.reduceNegSucc]:mY c F x0 x1 s=_)
def oE:Sh:=(sq sl (sq (sq sl (sb (sp 0 [0,1,7,8] [(1,[4]),(2,[])] (sq sl (sq (sc sl sl) (sq (sb (sq sl (sq sl (sc (sq sl sl) sl)))) sl)))))) (sq sl sl)))
def uZ:PX 188 oE:=⟨_,by conv=>lhs;reduce⟩
def ux:PL 188 oE 0:=⟨_,by conv=>lhs;reduce⟩
def ff(k1 k2:Q2):Nat->Q2
 |0,_,_=>none
 |n+1,vs,s=>dZ c F aY (ff k1 k2 n) [k1,k2] ux.1 vs s
def fQ(k1 k2:Q2)(n:Nat)(vs:List AV)(s:St):=(by dsimp only[ff,ux,go_sem,Int.reduceOfNat,Int.reduceNegSucc]:ff c F k1 k2 (n+1) vs s=_)
def oF:Un->List Q2->Nat->Q2
 | .z,[k1,k2]=>ff c F k1 k2
 |_,_=>λ_=>fy
def pT:O2:=bf c F (oF c F) uZ.1 [x0,x1] s
def uV:=(by dsimp only[pT,uZ, ↓oF,go_sem,Int.reduceOfNat,Int.reduceNegSucc]:pT c F x0 x1 s=_)
def HO:Sh:=(sq sl (sq sl sl))
def HP:PX 205 HO:=⟨_,by conv=>lhs;reduce⟩
def BI:O2:=bf c F aY HP.1 [x0,x1,x2,x3] s
def Xn:=(by dsimp only[BI,HP,go_sem,Int.reduceOfNat]:BI c F x0 x1 x2 x3 s=_)
def HQ:Sh:=(sq sl (sq sl sl))
def HR:PX 206 HQ:=⟨_,by conv=>lhs;reduce⟩
def BJ:O2:=bf c F aY HR.1 [x0,x1,x2,x3] s
def Xo:=(by dsimp only[BJ,HR,go_sem,Int.reduceOfNat]:BJ c F x0 x1 x2 x3 s=_)
def JB:Sh:=(sq sl (sq sl sl))
def JC:PX 207 JB:=⟨_,by conv=>lhs;reduce⟩
def DQ:O2:=bf c F aY JC.1 [x0,x1] s
def Zz:=(by dsimp only[DQ,JC,go_sem,Int.reduceOfNat]:DQ c F x0 x1 s=_)
def JE:Sh:=(sq sl (sq sl (sq (sb (sq sl (sc (sq sl sl) (sq sl (sc (sq sl sl) sl))))) (sq sl sl))))
def JF:PX 210 JE:=⟨_,by conv=>lhs;reduce⟩
def DR:O2:=bf c F aY JF.1 [x0,x1,x2,x3] s
def Zu:=(by dsimp only[DR,JF,go_sem,Int.reduceOfNat]:DR c F x0 x1 x2 x3 s=_)
def JG:Sh:=(sq sl (sq (sq sl (sc (sq sl sl) sl)) (sq sl sl)))
def JH:PX 211 JG:=⟨_,by conv=>lhs;reduce⟩
def DS:O2:=bf c F aY JH.1 [x0,x1,x2,x3] s
def Zv:=(by dsimp only[DS,JH,go_sem,Int.reduceOfNat]:DS c F x0 x1 x2 x3 s=_)
def JI:Sh:=(sq sl (sq (sq sl (sc (sq sl sl) sl)) (sq sl sl)))
def JJ:PX 212 JI:=⟨_,by conv=>lhs;reduce⟩
def DT:O2:=bf c F aY JJ.1 [x0,x1] s
def ZA:=(by dsimp only[DT,JJ,go_sem,Int.reduceOfNat]:DT c F x0 x1 s=_)
def JK:Sh:=(sq sl (sq sl sl))
def JL:PX 215 JK:=⟨_,by conv=>lhs;reduce⟩
def DU:O2:=bf c F aY JL.1 [x0,x1,x2,x3] s
def Zw:=(by dsimp only[DU,JL,go_sem,Int.reduceOfNat]:DU c F x0 x1 x2 x3 s=_)
def JM:Sh:=(sq sl (sq sl sl))
def JN:PX 216 JM:=⟨_,by conv=>lhs;reduce⟩
def DV:O2:=bf c F aY JN.1 [x0,x1,x2,x3] s
def Zx:=(by dsimp only[DV,JN,go_sem,Int.reduceOfNat]:DV c F x0 x1 x2 x3 s=_)
def JO:Sh:=(sq sl (sq sl sl))
def JP:PX 217 JO:=⟨_,by conv=>lhs;reduce⟩
def DW:O2:=bf c F aY JP.1 [x0,x1] s
def ZB:=(by dsimp only[DW,JP,go_sem,Int.reduceOfNat]:DW c F x0 x1 s=_)
def ME:Sh:=(sq sl (sq sl sl))
def MF:PX 220 ME:=⟨_,by conv=>lhs;reduce⟩
def Gg:O2:=bf c F aY MF.1 [x0,x1,x2,x3] s
def abr:=(by dsimp only[Gg,MF,go_sem,Int.reduceOfNat]:Gg c F x0 x1 x2 x3 s=_)
def JQ:Sh:=(sq sl (sq sl sl))
def JR:PX 221 JQ:=⟨_,by conv=>lhs;reduce⟩
def DX:O2:=bf c F aY JR.1 [x0,x1,x2,x3] s
def Zy:=(by dsimp only[DX,JR,go_sem,Int.reduceOfNat]:DX c F x0 x1 x2 x3 s=_)
def JS:Sh:=(sq sl (sq sl sl))
def JU:PX 222 JS:=⟨_,by conv=>lhs;reduce⟩
def DY:O2:=bf c F aY JU.1 [x0,x1] s
def ZC:=(by dsimp only[DY,JU,go_sem,Int.reduceOfNat]:DY c F x0 x1 s=_)
def aaw:Sh:=(sq sl (sq sl sl))
def aax:PX 224 aaw:=⟨_,by conv=>lhs;reduce⟩
def Yi:O2:=bf c F aY aax.1 [x0,x1,x2] s
def ajs:=(by dsimp only[Yi,aax,go_sem,Int.reduceOfNat]:Yi c F x0 x1 x2 s=_)
def ade:Sh:=(sq sl (sq sl sl))
def adf:PX 238 ade:=⟨_,by conv=>lhs;reduce⟩
def abA:O2:=bf c F aY adf.1 [x0,x1] s
def alV:=(by dsimp only[abA,adf,go_sem,Int.reduceOfNat]:abA c F x0 x1 s=_)
end
section
variable{c : aj}(hc : Sem c)(F : Nat){x0 x1 x2 x3 x4 x5 x6 x7 x8 x9 x10 T7 : AV}{s : St}{r : AV × St}
include hc
theorem aiM(h:abz c F x0 s=some r):c 18 [x0] s=some (tidy s r):=hc.oL F (Tv c F) we 5 (by kernel_rfl) (λi hi=>match i,hi with|0,_=>cS 0 (by kernel_rfl) (λ_ _ _=>by kernel_rfl) (λ_ _ _ _=>by kernel_rfl)|1,_=>cS 1 (by kernel_rfl) (λ_ _ _=>by kernel_rfl) (λ_ _ _ _=>by kernel_rfl)|2,_=>cS 2 (by kernel_rfl) (λ_ _ _=>by kernel_rfl) (λ_ _ _ _=>by kernel_rfl)|3,_=>cS 3 (by kernel_rfl) (λ_ _ _=>by kernel_rfl) (λ_ _ _ _=>by kernel_rfl)|4,_=>cS 4 (by kernel_rfl) (λ_ _ _=>by kernel_rfl) (λ_ _ _ _=>by kernel_rfl)|n+5,h=>absurd h (by omega)) (by kernel_rfl) h
theorem ac4(h:OQ c F x0 s=some r):c 57 [x0] s=some (tidy s r):=hc.oL F (IV c F) Bs 2 (by kernel_rfl) (λi hi=>match i,hi with|0,_=>cS 0 (by kernel_rfl) (λ_ _ _=>by kernel_rfl) (λ_ _ _ _=>by kernel_rfl)|1,_=>cS 1 (by kernel_rfl) (λ_ _ _=>by kernel_rfl) (λ_ _ _ _=>by kernel_rfl)|n+2,h=>absurd h (by omega)) (by kernel_rfl) h
theorem Qy(h:Tw c F x0 x1 s=some r):c 60 [x0,x1] s=some (tidy s r):=hc.o0 F X6 (by kernel_rfl) (by kernel_rfl) h
theorem af2(h:X9 c F x0 x1 s=some r):c 61 [x0,x1] s=some (tidy s r):=hc.o0 F aas (by kernel_rfl) (by kernel_rfl) h
theorem aeg(h:Tz c F x0 x1 x2 s=some r):c 62 [x0,x1,x2] s=some (tidy s r):=hc.o1 F (MA c F) Mz (by kernel_rfl) (by kernel_rfl) (λ_ _ _=>by kernel_rfl) (λ_ _ _ _=>by kernel_rfl) (by kernel_rfl) h
theorem aeh(h:TA c F x0 x1 x2 s=some r):c 63 [x0,x1,x2] s=some (tidy s r):=hc.o0 F Yb (by kernel_rfl) (by kernel_rfl) h
theorem ac1(h:OR c F x0 x1 x2 s=some r):c 64 [x0,x1,x2] s=some (tidy s r):=hc.o0 F Uv (by kernel_rfl) (by kernel_rfl) h
theorem aei(h:TE c F x0 x1 x2 s=some r):c 65 [x0,x1,x2] s=some (tidy s r):=hc.o0 F Yd (by kernel_rfl) (by kernel_rfl) h
theorem ac2(h:OS c F x0 x1 x2 s=some r):c 66 [x0,x1,x2] s=some (tidy s r):=hc.o0 F Ux (by kernel_rfl) (by kernel_rfl) h
theorem Vk(h:DM c F x0 x1 s=some r):c 67 [x0,x1] s=some (tidy s r):=hc.oL F (Ae c F) qg 3 (by kernel_rfl) (λi hi=>match i,hi with|0,_=>cS 0 (by kernel_rfl) (λ_ _ _=>by kernel_rfl) (λ_ _ _ _=>by kernel_rfl)|1,_=>cS 1 (by kernel_rfl) (λ_ _ _=>by kernel_rfl) (λ_ _ _ _=>by kernel_rfl)|2,_=>cS 2 (by kernel_rfl) (λ_ _ _=>by kernel_rfl) (λ_ _ _ _=>by kernel_rfl)|n+3,h=>absurd h (by omega)) (by kernel_rfl) h
theorem Cp(h:uD c F x0 x1 x2 s=some r):c 69 [x0,x1,x2] s=some (tidy s r):=hc.o0 F Fj (by kernel_rfl) (by kernel_rfl) h
theorem Ff(h:DN c F x0 x1 x2 s=some r):c 70 [x0,x1,x2] s=some (tidy s r):=hc.o0 F Ju (by kernel_rfl) (by kernel_rfl) h
theorem Hx(h:nP c F x0 x1 s=some r):c 73 [x0,x1] s=some (tidy s r):=hc.o0 F qG (by kernel_rfl) (by kernel_rfl) h
theorem o7(h:lf c F x0 s=some r):c 114 [x0] s=some (tidy s r):=hc.o0 F qh (by kernel_rfl) (by kernel_rfl) h
theorem yW(h:wj c F x0 s=some r):c 115 [x0] s=some (tidy s r):=hc.o0 F A8 (by kernel_rfl) (by kernel_rfl) h
theorem o8(h:lq c F x0 s=some r):c 116 [x0] s=some (tidy s r):=hc.o0 F qj (by kernel_rfl) (by kernel_rfl) h
theorem rE(h:oD c F x0 s=some r):c 118 [x0] s=some (tidy s r):=hc.o0 F tR (by kernel_rfl) (by kernel_rfl) h
theorem qc(h:mX c F x0 s=some r):c 119 [x0] s=some (tidy s r):=hc.o0 F rI (by kernel_rfl) (by kernel_rfl) h
theorem Qv(h:TF c F x0 x1 s=some r):c 123 [x0,x1] s=some (tidy s r):=hc.o1 F (MC c F) MB (by kernel_rfl) (by kernel_rfl) (λ_ _ _=>by kernel_rfl) (λ_ _ _ _=>by kernel_rfl) (by kernel_rfl) h
theorem ac3(h:OT c F x0 s=some r):c 124 [x0] s=some (tidy s r):=hc.o1 F (IX c F) IW (by kernel_rfl) (by kernel_rfl) (λ_ _ _=>by kernel_rfl) (λ_ _ _ _=>by kernel_rfl) (by kernel_rfl) h
theorem afZ(h:Yg c F x0 x1 x2 s=some r):c 125 [x0,x1,x2] s=some (tidy s r):=hc.o0 F aau (by kernel_rfl) (by kernel_rfl) h
theorem acY(h:OU c F x0 x1 x2 s=some r):c 126 [x0,x1,x2] s=some (tidy s r):=hc.o0 F UB (by kernel_rfl) (by kernel_rfl) h
theorem acZ(h:OV c F x0 x1 x2 s=some r):c 127 [x0,x1,x2] s=some (tidy s r):=hc.o0 F UD (by kernel_rfl) (by kernel_rfl) h
theorem Fg(h:DP c F x0 x1 s=some r):c 132 [x0,x1] s=some (tidy s r):=hc.o0 F Jz (by kernel_rfl) (by kernel_rfl) h
theorem pJ(h:mj c F x0 x1 s=some r):c 133 [x0,x1] s=some (tidy s r):=hc.o1 F (kF c F) kD (by kernel_rfl) (by kernel_rfl) (λ_ _ _=>by kernel_rfl) (λ_ _ _ _=>by kernel_rfl) (by kernel_rfl) h
theorem MV(h:xz c F x0 x1 s=some r):c 134 [x0,x1] s=some (tidy s r):=hc.o0 F Cs (by kernel_rfl) (by kernel_rfl) h
theorem AU(h:nI c F x0 x1 s=some r):c 135 [x0,x1] s=some (tidy s r):=hc.o0 F sy (by kernel_rfl) (by kernel_rfl) h
theorem LV(h:qH c F x0 x1 s=some r):c 138 [x0,x1] s=some (tidy s r):=hc.o1 F (oU c F) oR (by kernel_rfl) (by kernel_rfl) (λ_ _ _=>by kernel_rfl) (λ_ _ _ _=>by kernel_rfl) (by kernel_rfl) h
theorem aef(h:TG c F x0 x1 s=some r):c 181 [x0,x1] s=some (tidy s r):=hc.oL F (MD c F) yZ 3 (by kernel_rfl) (λi hi=>match i,hi with|0,_=>cS 0 (by kernel_rfl) (λ_ _ _=>by kernel_rfl) (λ_ _ _ _=>by kernel_rfl)|1,_=>cS 1 (by kernel_rfl) (λ_ _ _=>by kernel_rfl) (λ_ _ _ _=>by kernel_rfl)|2,_=>cS 2 (by kernel_rfl) (λ_ _ _=>by kernel_rfl) (λ_ _ _ _=>by kernel_rfl)|n+3,h=>absurd h (by omega)) (by kernel_rfl) h
theorem qf(h:mY c F x0 x1 s=some r):c 187 [x0,x1] s=some (tidy s r):=hc.o1 F (lz c F) lu (by kernel_rfl) (by kernel_rfl) (λ_ _ _=>by kernel_rfl) (λ_ _ _ _=>by kernel_rfl) (by kernel_rfl) h
theorem tL(h:pT c F x0 x1 s=some r):c 188 [x0,x1] s=some (tidy s r):=hc.o1 F (oF c F) oE (by kernel_rfl) (by kernel_rfl) (λ_ _ _=>by kernel_rfl) (λ_ _ _ _=>by kernel_rfl) (by kernel_rfl) h
theorem S6(h:BI c F x0 x1 x2 x3 s=some r):c 205 [x0,x1,x2,x3] s=some (tidy s r):=hc.o0 F HO (by kernel_rfl) (by kernel_rfl) h
theorem S7(h:BJ c F x0 x1 x2 x3 s=some r):c 206 [x0,x1,x2,x3] s=some (tidy s r):=hc.o0 F HQ (by kernel_rfl) (by kernel_rfl) h
theorem Vg(h:DQ c F x0 x1 s=some r):c 207 [x0,x1] s=some (tidy s r):=hc.o0 F JB (by kernel_rfl) (by kernel_rfl) h
theorem Vb(h:DR c F x0 x1 x2 x3 s=some r):c 210 [x0,x1,x2,x3] s=some (tidy s r):=hc.o0 F JE (by kernel_rfl) (by kernel_rfl) h
theorem Vc(h:DS c F x0 x1 x2 x3 s=some r):c 211 [x0,x1,x2,x3] s=some (tidy s r):=hc.o0 F JG (by kernel_rfl) (by kernel_rfl) h
theorem Vh(h:DT c F x0 x1 s=some r):c 212 [x0,x1] s=some (tidy s r):=hc.o0 F JI (by kernel_rfl) (by kernel_rfl) h
theorem Vd(h:DU c F x0 x1 x2 x3 s=some r):c 215 [x0,x1,x2,x3] s=some (tidy s r):=hc.o0 F JK (by kernel_rfl) (by kernel_rfl) h
theorem Ve(h:DV c F x0 x1 x2 x3 s=some r):c 216 [x0,x1,x2,x3] s=some (tidy s r):=hc.o0 F JM (by kernel_rfl) (by kernel_rfl) h
theorem Vi(h:DW c F x0 x1 s=some r):c 217 [x0,x1] s=some (tidy s r):=hc.o0 F JO (by kernel_rfl) (by kernel_rfl) h
theorem Xp(h:Gg c F x0 x1 x2 x3 s=some r):c 220 [x0,x1,x2,x3] s=some (tidy s r):=hc.o0 F ME (by kernel_rfl) (by kernel_rfl) h
theorem Vf(h:DX c F x0 x1 x2 x3 s=some r):c 221 [x0,x1,x2,x3] s=some (tidy s r):=hc.o0 F JQ (by kernel_rfl) (by kernel_rfl) h
theorem Vj(h:DY c F x0 x1 s=some r):c 222 [x0,x1] s=some (tidy s r):=hc.o0 F JS (by kernel_rfl) (by kernel_rfl) h
theorem afY(h:Yi c F x0 x1 x2 s=some r):c 224 [x0,x1,x2] s=some (tidy s r):=hc.o0 F aaw (by kernel_rfl) (by kernel_rfl) h
theorem aio(h:abA c F x0 x1 s=some r):c 238 [x0,x1] s=some (tidy s r):=hc.o0 F ade (by kernel_rfl) (by kernel_rfl) h
end
end
end Go.Proofs.YtgihekklfnjkiaaGreatDoor
