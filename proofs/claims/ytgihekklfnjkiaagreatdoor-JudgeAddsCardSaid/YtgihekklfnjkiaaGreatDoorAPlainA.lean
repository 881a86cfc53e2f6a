/- Functions, plainly. -/
import Derived.Test.YtgihekklfnjkiaaGreatDoorAWalk
set_option linter.all false
set_option maxRecDepth 100000
set_option maxHeartbeats 4000000
namespace Go.Proofs.YtgihekklfnjkiaaGreatDoor
noncomputable section
open Go Go.Ai Go.Proofs
def GK:fk:=vZ [(246,Gl),(14,Z0)]
def Sem(c:aj):Prop:=c=run GK gg
def gA(f:Nat):dY:=ym gg f
abbrev PX(f:Nat)(s:Sh):={a:Tx // txF (gA f) s=a}
abbrev PL(f:Nat)(s:Sh)(i:Nat):={a:List Pos×Tx // txL (iK (gA f) s i)=a}
theorem Sem.o0{c:aj}(hc:Sem c)(F:Nat){f:FuncId}{args:List AV}{st:St}{r:AV×St}(s:Sh)(hk:(Ac (GK f)&& !Ac (gg.get (key f))&&(fY (gA f).code s).isEmpty)=true)
  {k:O2} (hd:Jq c F (ahs []) (gA f) s args st=k) (h:k=some r):c f args st=some (tidy st r):=by
 subst hc;exact als s hk hd h
theorem Sem.o1{c:aj}(hc:Sem c)(F:Nat){f:FuncId}{args:List AV}{st:St}{r:AV×St}(Ls:Un->List Q2->Nat->Q2)(s:Sh)(hk:(Ac (GK f)&& !Ac (gg.get (key f))&&Nat.beq (fY (gA f).code s).length 1)=true)
  (hs:(aeT (iK (gA f) s 0).2&&Nat.beq (lpJ (iK (gA f) s 0).2) 0)=true) (h0:∀K' vs st,uj Ls (gA f) s 0 K' 0 vs st=none)
  (h1:∀K' n vs st,uj Ls (gA f) s 0 K' (n+1) vs st=Q3 (den c F (uj Ls (gA f) s) (iK (gA f) s 0).1 (lpB (iK (gA f) s 0).2)) (lpI (iK (gA f) s 0).2) (lpO (iK (gA f) s 0).2) K' (uj Ls (gA f) s 0 K' n) vs st)
  {k:O2} (hd:Jq c F (uj Ls (gA f) s) (gA f) s args st=k) (h:k=some r):c f args st=some (tidy st r):=by
 subst hc;exact alu Ls s hk hs h0 h1 hd h
theorem Sem.oL{c:aj}(hc:Sem c)(F:Nat){f:FuncId}{args:List AV}{st:St}{r:AV×St}(Ls:Un->List Q2->Nat->Q2)(s:Sh)(n:Nat)(hk:(Ac (GK f)&& !Ac (gg.get (key f))&&Nat.beq (fY (gA f).code s).length n)=true)
  (hL:∀i,i<n->Dz c F (uj Ls (gA f) s) (iK (gA f) s i).1 (iK (gA f) s i).2) {k:O2} (hd:Jq c F (uj Ls (gA f) s) (gA f) s args st=k) (h:k=some r):c f args st=some (tidy st r):=by
 subst hc;exact ae4 Ls s n hk hL hd h
end
noncomputable section
open Go Go.Ai Go.Proofs
attribute [local go_sem ↓] bh BI ev evX Fz getLT DI X5 kat BG BH Tw Ra Rb Rc LX LY LZ L8 L9 Ma Re Rf Mb Mc Md Me Mf Z3 Z4 Z5
attribute [local go_sem] bh BI ev
section
variable(c:aj)(F:Nat)(x0 x1 x2 x3 x4 x5 x6 x7 x8 x9 Y3 Y4:AV)(s:St)
def Nw:Sh:=(sq sl (sq (sq sl (sq sl (sc (sq sl sl) sl))) (sq (sq sl (sq sl (sc (sq sl sl) sl))) (sq (sq sl (sc (sq sl sl) sl)) (sq (sq sl (sb (sp 0 [1,47,48,49] [(1,[2,3]),(2,[1])] (sq sl (sq (sc sl sl) (sq (sb (sq sl (sq sl (sc (sq sl sl) sl)))) sl)))))) (sq (sq sl (sc (sq sl sl) sl)) (sq sl sl)))))))
def Y5:PX 49 Nw:=⟨_,by conv=>lhs;reduce⟩
def VG:PL 49 Nw 0:=⟨_,by conv=>lhs;reduce⟩
def sY(k1 k2:Q2):Nat->Q2
 |0,_,_=>none
 |n+1,vs,s=>dU c F bk (sY k1 k2 n) [k1,k2] VG.1 vs s
def OW(k1 k2:Q2)(n:Nat)(vs:List AV)(s:St):=(by dsimp only[sY,VG,go_sem,Int.reduceOfNat]:sY c F k1 k2 (n+1) vs s=_)
def Nx:Un->List Q2->Nat->Q2
 |.z,[k1,k2]=>sY c F k1 k2
 |_,_=>λ_=>fj
def UL:O2:=bh c F (Nx c F) Y5.1 [x0] s
def ajy:=(by dsimp only[UL,Y5, ↓Nx,go_sem,Int.reduceOfNat]:UL c F x0 s=_)
def Y6:Sh:=(sq sl (sq sl sl))
def Y7:PX 50 Y6:=⟨_,by conv=>lhs;reduce⟩
def UM:O2:=bh c F bk Y7.1 [] s
def ajD:=(by dsimp only[UM,Y7,go_sem,Int.reduceOfNat]:UM c F s=_)
def J6:Sh:=(sq sl (sj [3,4,5] (sb (sq sl (sc (sq sl sl) (sq sl (sc (sq sl sl) (sq sl (sc (sq sl sl) (sj [3,4,5,28] (sq sl (sc sl (sq sl (sc sl sl)))) (sc (sq sl sl) (sq sl (sc (sq sl sl) (sq sl (sc (sq sl sl) sl))))))))))))) (sq sl (sq (sq sl (sc (sq sl sl) sl)) (sq sl (sj [3,5,9] (sq sl (sc sl sl)) (sq (sq sl (sc (sq sl sl) sl)) (sq sl sl))))))))
def J7:PX 51 J6:=⟨_,by conv=>lhs;reduce⟩
def D6:O2:=bh c F bk J7.1 [x0,x1,x2] s
def aaR:=(by dsimp only[D6,J7,go_sem,Int.reduceOfNat]:D6 c F x0 x1 x2 s=_)
def Ny:Sh:=(sq sl (sq (sq sl (sq sl (sc (sq sl sl) sl))) (sq sl (sq (sq sl (sb (sp 0 [1,6,21,22,23] [(1,[2,3]),(2,[])] (sq sl (sq (sc sl sl) (sq (sb (sq sl (sq (sq sl (sq sl (sc (sq sl sl) sl))) (sq sl (sc (sq sl sl) sl))))) sl)))))) (sq sl sl)))))
def Y8:PX 56 Ny:=⟨_,by conv=>lhs;reduce⟩
def VH:PL 56 Ny 0:=⟨_,by conv=>lhs;reduce⟩
def xA(k1 k2:Q2):Nat->Q2
 |0,_,_=>none
 |n+1,vs,s=>dU c F bk (xA k1 k2 n) [k1,k2] VH.1 vs s
def DW(k1 k2:Q2)(n:Nat)(vs:List AV)(s:St):=(by dsimp only[xA,VH,go_sem,Int.reduceOfNat]:xA c F k1 k2 (n+1) vs s=_)
def Nz:Un->List Q2->Nat->Q2
 |.z,[k1,k2]=>xA c F k1 k2
 |_,_=>λ_=>fj
def UN:O2:=bh c F (Nz c F) Y8.1 [x0] s
def YM:=(by dsimp only[UN,Y8, ↓Nz,go_sem,Int.reduceOfNat]:UN c F x0 s=_)
def NA:Sh:=(sq sl (sq (sq sl (sc (sq sl sl) sl)) (sq sl (sq (sq sl (sb (sp 0 [5,23,24,25] [(2,[5])] (sq sl (sq (sc sl sl) (sq (sb (sq sl sl)) sl)))))) (sq sl sl)))))
def Y9:PX 58 NA:=⟨_,by conv=>lhs;reduce⟩
def VI:PL 58 NA 0:=⟨_,by conv=>lhs;reduce⟩
def xz(k2:Q2):Nat->Q2
 |0,_,_=>none
 |n+1,vs,s=>dU c F bk (xz k2 n) [k2] VI.1 vs s
def DS(k2:Q2)(n:Nat)(vs:List AV)(s:St):=(by dsimp only[xz,VI,go_sem,Int.reduceOfNat]:xz c F k2 (n+1) vs s=_)
def NB:Un->List Q2->Nat->Q2
 |.z,[k2]=>xz c F k2
 |_,_=>λ_=>fj
def UO:O2:=bh c F (NB c F) Y9.1 [x0,x1] s
def YH:=(by dsimp only[UO,Y9, ↓NB,go_sem,Int.reduceOfNat]:UO c F x0 x1 s=_)
def Za:Sh:=(sq sl (sq (sq sl (sc (sq sl sl) sl)) (sq sl sl)))
def Zb:PX 59 Za:=⟨_,by conv=>lhs;reduce⟩
def UP:O2:=bh c F bk Zb.1 [x0] s
def ajp:=(by dsimp only[UP,Zb,go_sem,Int.reduceOfNat]:UP c F x0 s=_)
def D7:Sh:=(sq sl (sq sl (sq (sq sl (sb (sp 0 [1,5,14,15,16] [(1,[2,3,4]),(2,[1,5])] (sq sl (sq (sc sl sl) (sq (sb (sq sl (sq sl (sq sl (sc (sq sl sl) sl))))) sl)))))) (sq (sq sl (sb (sp 1 [1,5,30,31,32] [(1,[2,3,4]),(4,[5])] (sq sl (sq (sc sl sl) (sj [1,5,30,31,32] (sb (sq sl (sq sl (sj [1,5,9,11,30,31,32] (sq sl (sc sl sl)) (sq sl (sc (sq sl sl) sl)))))) sl)))))) (sq sl sl)))))
def Zc:PX 68 D7:=⟨_,by conv=>lhs;reduce⟩
def VJ:PL 68 D7 1:=⟨_,by conv=>lhs;reduce⟩
def nO(k1 k4:Q2):Nat->Q2
 |0,_,_=>none
 |n+1,vs,s=>dU c F bk (nO k1 k4 n) [k1,k4] VJ.1 vs s
def yy(k1 k4:Q2)(n:Nat)(vs:List AV)(s:St):=(by dsimp only[nO,VJ,go_sem,Int.reduceOfNat]:nO c F k1 k4 (n+1) vs s=_)
def VK:PL 68 D7 0:=⟨_,by conv=>lhs;reduce⟩
def lq(k1 k2:Q2):Nat->Q2
 |0,_,_=>none
 |n+1,vs,s=>dU c F bk (lq k1 k2 n) [k1,k2] VK.1 vs s
def yx(k1 k2:Q2)(n:Nat)(vs:List AV)(s:St):=(by dsimp only[lq,VK,go_sem,Int.reduceOfNat]:lq c F k1 k2 (n+1) vs s=_)
def NC:Un->List Q2->Nat->Q2
 |.z,[k1,k2]=>lq c F k1 k2
 |(.s .z),[k1,k4]=>nO c F k1 k4
 |_,_=>λ_=>fj
def DV:O2:=bh c F (NC c F) Zc.1 [x0] s
def ajw:=(by dsimp only[DV,Zc, ↓NC,go_sem,Int.reduceOfNat]:DV c F x0 s=_)
def D8:Sh:=(sq sl (sq (sq sl (sc (sq sl sl) sl)) (sq (sq sl (sb (sp 0 [0,10,11,12] [(1,[2,3]),(2,[])] (sq sl (sq (sc sl sl) (sq (sb (sq sl (sq (sq sl (sq sl (sc (sq sl sl) sl))) (sq sl (sc (sq sl sl) sl))))) sl)))))) (sq sl sl))))
def Pb:PX 88 D8:=⟨_,by conv=>lhs;reduce⟩
def ND:PL 88 D8 0:=⟨_,by conv=>lhs;reduce⟩
def rD(k1 k2:Q2):Nat->Q2
 |0,_,_=>none
 |n+1,vs,s=>dU c F bk (rD k1 k2 n) [k1,k2] ND.1 vs s
def zh(k1 k2:Q2)(n:Nat)(vs:List AV)(s:St):=(by dsimp only[rD,ND,go_sem,Int.reduceOfNat]:rD c F k1 k2 (n+1) vs s=_)
def D9:Un->List Q2->Nat->Q2
 |.z,[k1,k2]=>rD c F k1 k2
 |_,_=>λ_=>fj
def JE:O2:=bh c F (D9 c F) Pb.1 [x0] s
def OU:=(by dsimp only[JE,Pb, ↓D9,go_sem,Int.reduceOfNat]:JE c F x0 s=_)
def J8:Sh:=(sq sl (sq sl (sq sl sl)))
def J9:PX 89 J8:=⟨_,by conv=>lhs;reduce⟩
def Ec:O2:=bh c F bk J9.1 [x0] s
def aaP:=(by dsimp only[Ec,J9,go_sem,Int.reduceOfNat]:Ec c F x0 s=_)
def Ka:Sh:=(sq sl (sq sl sl))
def Kb:PX 108 Ka:=⟨_,by conv=>lhs;reduce⟩
def Ed:O2:=bh c F bk Kb.1 [x0,x1] s
def aaQ:=(by dsimp only[Ed,Kb,go_sem,Int.reduceOfNat]:Ed c F x0 x1 s=_)
def aet:Sh:=(sq sl (sq sl sl))
def aeu:PX 109 aet:=⟨_,by conv=>lhs;reduce⟩
def ac1:O2:=bh c F bk aeu.1 [x0,x1] s
def anf:=(by dsimp only[ac1,aeu,go_sem,Int.reduceOfNat]:ac1 c F x0 x1 s=_)
def Qf:Sh:=(sq sl (sq (sq sl (sc (sq sl sl) sl)) (sq (sq sl (sb (sp 0 [0,13,14] [(1,[2]),(2,[])] (sq sl (sq (sc sl sl) (sq (sb (sq sl (sq sl (sc (sq sl sl) sl)))) sl)))))) (sq sl sl))))
def abq:PX 110 Qf:=⟨_,by conv=>lhs;reduce⟩
def Zd:PL 110 Qf 0:=⟨_,by conv=>lhs;reduce⟩
def uX(k1 k2:Q2):Nat->Q2
 |0,_,_=>none
 |n+1,vs,s=>dU c F bk (uX k1 k2 n) [k1,k2] Zd.1 vs s
def Ry(k1 k2:Q2)(n:Nat)(vs:List AV)(s:St):=(by dsimp only[uX,Zd,go_sem,Int.reduceOfNat]:uX c F k1 k2 (n+1) vs s=_)
def Qg:Un->List Q2->Nat->Q2
 |.z,[k1,k2]=>uX c F k1 k2
 |_,_=>λ_=>fj
def Ze:O2:=bh c F (Qg c F) abq.1 [x0] s
def akF:=(by dsimp only[Ze,abq, ↓Qg,go_sem,Int.reduceOfNat]:Ze c F x0 s=_)
def abr:Sh:=(sq sl (sq sl (sq (sq sl (sc (sq sl sl) sl)) (sq sl sl))))
def abt:PX 111 abr:=⟨_,by conv=>lhs;reduce⟩
def Zf:O2:=bh c F bk abt.1 [x0,x1] s
def akI:=(by dsimp only[Zf,abt,go_sem,Int.reduceOfNat]:Zf c F x0 x1 s=_)
def vh:Sh:=(sq sl (sq (sq sl (sc (sq sl sl) sl)) (sq sl sl)))
def vk:PX 117 vh:=⟨_,by conv=>lhs;reduce⟩
def pV:O2:=bh c F bk vk.1 [x0] s
def j8:=(by dsimp only[pV,vk,go_sem,Int.reduceOfNat]:pV c F x0 s=_)
def Zg:Sh:=(sq sl (sq sl (sq sl sl)))
def Zh:PX 120 Zg:=⟨_,by conv=>lhs;reduce⟩
def UQ:O2:=bh c F bk Zh.1 [x0] s
def ajn:=(by dsimp only[UQ,Zh,go_sem,Int.reduceOfNat]:UQ c F x0 s=_)
def abu:Sh:=(sq sl (sq sl (sq (sq sl (sc (sq sl sl) sl)) (sq sl sl))))
def abv:PX 121 abu:=⟨_,by conv=>lhs;reduce⟩
def Zi:O2:=bh c F bk abv.1 [x0] s
def akE:=(by dsimp only[Zi,abv,go_sem,Int.reduceOfNat]:Zi c F x0 s=_)
def Pc:Sh:=(sq sl (sq (sq sl (sc (sq sl sl) sl)) (sq sl sl)))
def Pe:PX 122 Pc:=⟨_,by conv=>lhs;reduce⟩
def JF:O2:=bh c F bk Pe.1 [x0] s
def aea:=(by dsimp only[JF,Pe,go_sem,Int.reduceOfNat]:JF c F x0 s=_)
def abw:Sh:=(sq sl (sq sl sl))
def abx:PX 128 abw:=⟨_,by conv=>lhs;reduce⟩
def Zj:O2:=bh c F bk abx.1 [] s
def akJ:=(by dsimp only[Zj,abx,go_sem,Int.reduceOfNat]:Zj c F s=_)
def NF:Sh:=(sq sl (sq (sq sl (sc (sq sl sl) sl)) (sq (sq sl (sq sl (sc (sq sl sl) sl))) (sq (sq sl (sq sl (sc (sq sl sl) sl))) (sq (sq sl (sc (sq sl sl) sl)) (sq sl (sq sl (sq sl sl))))))))
def NG:PX 129 NF:=⟨_,by conv=>lhs;reduce⟩
def zU:O2:=bh c F bk NG.1 [x0,x1] s
def wE:=(by dsimp only[zU,NG,go_sem,Int.reduceOfNat]:zU c F x0 x1 s=_)
def VL:Sh:=(sq sl (sq (sq sl (sq sl (sc (sq sl sl) sl))) (sq sl sl)))
def VM:PX 130 VL:=⟨_,by conv=>lhs;reduce⟩
def Qh:O2:=bh c F bk VM.1 [x0,x1] s
def ag5:=(by dsimp only[Qh,VM,go_sem,Int.reduceOfNat]:Qh c F x0 x1 s=_)
def Ca:Sh:=(sq sl (sq (sq sl (sc (sq sl sl) sl)) (sq (sq sl (sc (sq sl sl) sl)) (sq (sq sl (sb (sp 0 [0,1,2,3,30,31,32] [(1,[8]),(2,[0,1,2,3])] (sq sl (sq (sc sl sl) (sq (sb (sq sl (sq sl (sq sl (sc (sq sl sl) sl))))) sl)))))) (sq sl (sq (sq sl (sc (sq sl sl) sl)) (sq (sq sl (sc (sq sl sl) sl)) (sq sl (sq sl sl)))))))))
def NH:PX 131 Ca:=⟨_,by conv=>lhs;reduce⟩
def Kc:PL 131 Ca 0:=⟨_,by conv=>lhs;reduce⟩
def nI(k1 k2:Q2):Nat->Q2
 |0,_,_=>none
 |n+1,vs,s=>dU c F bk (nI k1 k2 n) [k1,k2] Kc.1 vs s
def xR(k1 k2:Q2)(n:Nat)(vs:List AV)(s:St):=(by dsimp only[nI,Kc,go_sem,Int.reduceOfNat]:nI c F k1 k2 (n+1) vs s=_)
def Cb:Un->List Q2->Nat->Q2
 |.z,[k1,k2]=>nI c F k1 k2
 |_,_=>λ_=>fj
def zV:O2:=bh c F (Cb c F) NH.1 [x0,x1,x2,x3] s
def wG:=(by dsimp only[zV,NH, ↓Cb,go_sem,Int.reduceOfNat]:zV c F x0 x1 x2 x3 s=_)
def Ke:Sh:=(sq sl (sq sl sl))
def Kf:PX 136 Ke:=⟨_,by conv=>lhs;reduce⟩
def Ee:O2:=bh c F bk Kf.1 [x0] s
def aaO:=(by dsimp only[Ee,Kf,go_sem,Int.reduceOfNat]:Ee c F x0 s=_)
def Iy:Sh:=(sq sl (sq sl sl))
def Iz:PX 137 Iy:=⟨_,by conv=>lhs;reduce⟩
def Cc:O2:=bh c F bk Iz.1 [x0,x1,x2] s
def Io:=(by dsimp only[Cc,Iz,go_sem,Int.reduceOfNat]:Cc c F x0 x1 x2 s=_)
def NI:Sh:=(sq sl (sq sl (sq sl (sq (sb (sq sl (sc (sq sl sl) (sq sl (sc (sq sl sl) sl))))) (sq (sq sl (sb (sp 0 [1,3,4,18,19,20] [(1,[2]),(3,[1])] (sq sl (sq (sc sl sl) (sq (sb (sq sl (sq (sq sl (sc (sq sl sl) sl)) sl))) sl)))))) (sq (sq sl (sc (sq sl sl) sl)) (sq sl sl)))))))
def Zk:PX 158 NI:=⟨_,by conv=>lhs;reduce⟩
def VN:PL 158 NI 0:=⟨_,by conv=>lhs;reduce⟩
def sW(k1 k3:Q2):Nat->Q2
 |0,_,_=>none
 |n+1,vs,s=>dU c F bk (sW k1 k3 n) [k1,k3] VN.1 vs s
def OT(k1 k3:Q2)(n:Nat)(vs:List AV)(s:St):=(by dsimp only[sW,VN,go_sem,Int.reduceOfNat,Int.reduceNegSucc]:sW c F k1 k3 (n+1) vs s=_)
def NJ:Un->List Q2->Nat->Q2
 |.z,[k1,k3]=>sW c F k1 k3
 |_,_=>λ_=>fj
def UR:O2:=bh c F (NJ c F) Zk.1 [x0] s
def ajk:=(by dsimp only[UR,Zk, ↓NJ,go_sem,Int.reduceOfNat,Int.reduceNegSucc]:UR c F x0 s=_)
def mK:Sh:=(sq sl (sq sl sl))
def mL:PX 159 mK:=⟨_,by conv=>lhs;reduce⟩
def iT:O2:=bh c F bk mL.1 [x0,x1] s
def vC:=(by dsimp only[iT,mL,go_sem,Int.reduceOfNat]:iT c F x0 x1 s=_)
def Kg:Sh:=(sq sl (sq sl sl))
def Kh:PX 160 Kg:=⟨_,by conv=>lhs;reduce⟩
def Ef:O2:=bh c F bk Kh.1 [x0,x1] s
def aaL:=(by dsimp only[Ef,Kh,go_sem,Int.reduceOfNat]:Ef c F x0 x1 s=_)
def jf:Sh:=(sq sl (sq (sq sl (sb (sp 0 [0,1,7,8] [(1,[4]),(2,[])] (sq sl (sq (sc sl sl) (sq (sb (sq sl (sq sl (sc (sq sl sl) sl)))) sl)))))) (sq sl sl)))
def oq:PX 175 jf:=⟨_,by conv=>lhs;reduce⟩
def nP:PL 175 jf 0:=⟨_,by conv=>lhs;reduce⟩
def dB(k1 k2:Q2):Nat->Q2
 |0,_,_=>none
 |n+1,vs,s=>dU c F bk (dB k1 k2 n) [k1,k2] nP.1 vs s
def mJ(k1 k2:Q2)(n:Nat)(vs:List AV)(s:St):=(by dsimp only[dB,nP,go_sem,Int.reduceOfNat,Int.reduceNegSucc]:dB c F k1 k2 (n+1) vs s=_)
def jg:Un->List Q2->Nat->Q2
 |.z,[k1,k2]=>dB c F k1 k2
 |_,_=>λ_=>fj
def jU:O2:=bh c F (jg c F) oq.1 [x0,x1] s
def xS:=(by dsimp only[jU,oq, ↓jg,go_sem,Int.reduceOfNat,Int.reduceNegSucc]:jU c F x0 x1 s=_)
def Zl:Sh:=(sq sl (sq sl sl))
def Zm:PX 176 Zl:=⟨_,by conv=>lhs;reduce⟩
def US:O2:=bh c F bk Zm.1 [x0,x1] s
def ajz:=(by dsimp only[US,Zm,go_sem,Int.reduceOfNat]:US c F x0 x1 s=_)
def ji:Sh:=(sq sl (sq (sq sl (sb (sp 0 [0,1,7,8] [(1,[4]),(2,[])] (sq sl (sq (sc sl sl) (sq (sb (sq sl (sq sl (sc (sq sl sl) sl)))) sl)))))) (sq sl sl)))
def ot:PX 177 ji:=⟨_,by conv=>lhs;reduce⟩
def nQ:PL 177 ji 0:=⟨_,by conv=>lhs;reduce⟩
def dz(k1 k2:Q2):Nat->Q2
 |0,_,_=>none
 |n+1,vs,s=>dU c F bk (dz k1 k2 n) [k1,k2] nQ.1 vs s
def mI(k1 k2:Q2)(n:Nat)(vs:List AV)(s:St):=(by dsimp only[dz,nQ,go_sem,Int.reduceOfNat,Int.reduceNegSucc]:dz c F k1 k2 (n+1) vs s=_)
def jk:Un->List Q2->Nat->Q2
 |.z,[k1,k2]=>dz c F k1 k2
 |_,_=>λ_=>fj
def jV:O2:=bh c F (jk c F) ot.1 [x0,x1] s
def xQ:=(by dsimp only[jV,ot, ↓jk,go_sem,Int.reduceOfNat,Int.reduceNegSucc]:jV c F x0 x1 s=_)
def VO:Sh:=(sq sl (sq sl sl))
def VP:PX 178 VO:=⟨_,by conv=>lhs;reduce⟩
def Qi:O2:=bh c F bk VP.1 [x0,x1] s
def ag1:=(by dsimp only[Qi,VP,go_sem,Int.reduceOfNat]:Qi c F x0 x1 s=_)
def Pg:Sh:=(sq sl (sq (sq sl (sb (sq sl (sc (sq sl sl) (sq sl (sc (sq sl sl) (sq sl (sc (sq sl sl) (sq sl (sc (sq sl sl) sl)))))))))) (sq sl sl)))
def Ph:PX 180 Pg:=⟨_,by conv=>lhs;reduce⟩
def JG:O2:=bh c F bk Ph.1 [x0] s
def ad3:=(by dsimp only[JG,Ph,go_sem,Int.reduceOfNat]:JG c F x0 s=_)
def JH:Sh:=(sq sl (sq (sb (sq sl (sc (sq sl sl) (sq sl (sc (sq sl sl) (sq sl (sc (sq sl sl) (sq sl (sc (sq sl sl) sl))))))))) (sq (sq sl (sb (sp 0 [1,52,53,54] [(1,[2]),(3,[])] (sq sl (sq (sc sl sl) (sq (sb (sq sl (sq sl (sc (sq sl sl) sl)))) sl)))))) (sq sl sl))))
def VQ:PX 182 JH:=⟨_,by conv=>lhs;reduce⟩
def R9:PL 182 JH 0:=⟨_,by conv=>lhs;reduce⟩
def qV(k1 k3:Q2):Nat->Q2
 |0,_,_=>none
 |n+1,vs,s=>dU c F bk (qV k1 k3 n) [k1,k3] R9.1 vs s
def Ng(k1 k3:Q2)(n:Nat)(vs:List AV)(s:St):=(by dsimp only[qV,R9,go_sem,Int.reduceOfNat]:qV c F k1 k3 (n+1) vs s=_)
def JI:Un->List Q2->Nat->Q2
 |.z,[k1,k3]=>qV c F k1 k3
 |_,_=>λ_=>fj
def Qj:O2:=bh c F (JI c F) VQ.1 [x0] s
def ag4:=(by dsimp only[Qj,VQ, ↓JI,go_sem,Int.reduceOfNat]:Qj c F x0 s=_)
def Sa:Sh:=(sq sl (sq sl (sq sl sl)))
def Sb:PX 183 Sa:=⟨_,by conv=>lhs;reduce⟩
def NK:O2:=bh c F bk Sb.1 [x0] s
def afn:=(by dsimp only[NK,Sb,go_sem,Int.reduceOfNat]:NK c F x0 s=_)
def Ki:Sh:=(sq sl (sq sl sl))
def Kj:PX 184 Ki:=⟨_,by conv=>lhs;reduce⟩
def strings_Compare:O2:=bh c F bk Kj.1 [x0,x1] s
def aaN:=(by dsimp only[strings_Compare,Kj,go_sem,Int.reduceOfNat]:strings_Compare c F x0 x1 s=_)
def sy:Sh:=(sq sl (sq sl (sq sl (sq (sq sl (sc (sq sl sl) sl)) (sq sl (sq (sq sl (sc (sq sl sl) sl)) (sq (sq sl (sc (sq sl (sq sl (sq sl (sq sl sl)))) sl)) (sq sl (sq (sq sl (sc (sq sl (sq sl (sq sl sl))) sl)) (sq sl (sq sl (sq sl sl))))))))))))
def sF:PX 185 sy:=⟨_,by conv=>lhs;reduce⟩
def nS:O2:=bh c F bk sF.1 [x0,x1,x2] s
def Df:=(by dsimp only[nS,sF,go_sem,Int.reduceOfNat]:nS c F x0 x1 x2 s=_)
def Zn:Sh:=(sq sl (sq sl sl))
def Zo:PX 186 Zn:=⟨_,by conv=>lhs;reduce⟩
def UT:O2:=bh c F bk Zo.1 [x0,x1,x2] s
def YJ:=(by dsimp only[UT,Zo,go_sem,Int.reduceOfNat]:UT c F x0 x1 x2 s=_)
def fO:Sh:=(sq sl (sq sl (sq sl (sq (sb (sp 0 [0,2,4,8,9,10] [(2,[0,2,4,8,9])] (sq (sq sl (sc sl sl)) (sb (sq sl (sq sl (sc sl sl))))))) (sq sl sl)))))
def jF:PX 189 fO:=⟨_,by conv=>lhs;reduce⟩
def jv:PL 189 fO 0:=⟨_,by conv=>lhs;reduce⟩
def bt(k2:Q2):Nat->Q2
 |0,_,_=>none
 |n+1,vs,s=>dU c F bk (bt k2 n) [k2] jv.1 vs s
def fh(k2:Q2)(n:Nat)(vs:List AV)(s:St):=(by dsimp only[bt,jv,go_sem,Int.reduceOfNat]:bt c F k2 (n+1) vs s=_)
def fP:Un->List Q2->Nat->Q2
 |.z,[k2]=>bt c F k2
 |_,_=>λ_=>fj
def fU:O2:=bh c F (fP c F) jF.1 [x0,x1,x2] s
def qW:=(by dsimp only[fU,jF, ↓fP,go_sem,Int.reduceOfNat]:fU c F x0 x1 x2 s=_)
def Qk:Sh:=(sq sl (sq (sq sl (sb (sp 0 [0,3] [(1,[2]),(2,[0])] (sq (sq sl (sc sl sl)) (sq (sb (sq sl (sc (sq sl sl) sl))) sl))))) (sq sl sl)))
def aby:PX 203 Qk:=⟨_,by conv=>lhs;reduce⟩
def Zp:PL 203 Qk 0:=⟨_,by conv=>lhs;reduce⟩
def uY(k1 k2:Q2):Nat->Q2
 |0,_,_=>none
 |n+1,vs,s=>dU c F bk (uY k1 k2 n) [k1,k2] Zp.1 vs s
def Rz(k1 k2:Q2)(n:Nat)(vs:List AV)(s:St):=(by dsimp only[uY,Zp,go_sem,Int.reduceOfNat]:uY c F k1 k2 (n+1) vs s=_)
def Ql:Un->List Q2->Nat->Q2
 |.z,[k1,k2]=>uY c F k1 k2
 |_,_=>λ_=>fj
def Zq:O2:=bh c F (Ql c F) aby.1 [x0] s
def akG:=(by dsimp only[Zq,aby, ↓Ql,go_sem,Int.reduceOfNat]:Zq c F x0 s=_)
def Kk:Sh:=(sq sl (sq (sq sl (sc (sq sl sl) sl)) (sq sl sl)))
def Kl:PX 204 Kk:=⟨_,by conv=>lhs;reduce⟩
def Eg:O2:=bh c F bk Kl.1 [x0,x1] s
def aaI:=(by dsimp only[Eg,Kl,go_sem,Int.reduceOfNat]:Eg c F x0 x1 s=_)
def NL:Sh:=(sq sl (sq (sq sl (sc (sq sl sl) sl)) (sq sl sl)))
def NM:PX 209 NL:=⟨_,by conv=>lhs;reduce⟩
def Hi:O2:=bh c F bk NM.1 [x0,x1] s
def acO:=(by dsimp only[Hi,NM,go_sem,Int.reduceOfNat]:Hi c F x0 x1 s=_)
def NN:Sh:=(sq sl (sq (sq sl (sc (sq sl sl) sl)) (sq sl sl)))
def NO:PX 214 NN:=⟨_,by conv=>lhs;reduce⟩
def Hj:O2:=bh c F bk NO.1 [x0,x1] s
def acP:=(by dsimp only[Hj,NO,go_sem,Int.reduceOfNat]:Hj c F x0 x1 s=_)
def Pj:Sh:=(sq sl (sq (sq sl (sc (sq sl sl) sl)) (sq sl sl)))
def Pk:PX 219 Pj:=⟨_,by conv=>lhs;reduce⟩
def JJ:O2:=bh c F bk Pk.1 [x0,x1] s
def ad2:=(by dsimp only[JJ,Pk,go_sem,Int.reduceOfNat]:JJ c F x0 x1 s=_)
def NP:Sh:=(sq sl (sq (sq sl (sc (sq sl sl) sl)) (sq (sq sl (sb (sp 0 [0,13,14] [(1,[2]),(2,[])] (sq sl (sq (sc sl sl) (sq (sb (sq sl (sq sl (sc (sq sl sl) sl)))) sl)))))) (sq sl sl))))
def Zr:PX 225 NP:=⟨_,by conv=>lhs;reduce⟩
def VR:PL 225 NP 0:=⟨_,by conv=>lhs;reduce⟩
def sV(k1 k2:Q2):Nat->Q2
 |0,_,_=>none
 |n+1,vs,s=>dU c F bk (sV k1 k2 n) [k1,k2] VR.1 vs s
def OS(k1 k2:Q2)(n:Nat)(vs:List AV)(s:St):=(by dsimp only[sV,VR,go_sem,Int.reduceOfNat]:sV c F k1 k2 (n+1) vs s=_)
def NQ:Un->List Q2->Nat->Q2
 |.z,[k1,k2]=>sV c F k1 k2
 |_,_=>λ_=>fj
def UU:O2:=bh c F (NQ c F) Zr.1 [x0] s
def ajg:=(by dsimp only[UU,Zr, ↓NQ,go_sem,Int.reduceOfNat]:UU c F x0 s=_)
def Zs:Sh:=(sq sl (sq sl sl))
def Zt:PX 226 Zs:=⟨_,by conv=>lhs;reduce⟩
def UW:O2:=bh c F bk Zt.1 [x0] s
def ajj:=(by dsimp only[UW,Zt,go_sem,Int.reduceOfNat]:UW c F x0 s=_)
def Ag:Sh:=(sq sl (sq sl sl))
def Ah:PX 227 Ag:=⟨_,by conv=>lhs;reduce⟩
def bytealg_CompareString:O2:=bh c F bk Ah.1 [x0,x1] s
def Oi:=(by dsimp only[bytealg_CompareString,Ah,go_sem,Int.reduceOfNat]:bytealg_CompareString c F x0 x1 s=_)
end
section
variable{c:aj}(hc:Sem c)(F:Nat){x0 x1 x2 x3 x4 x5 x6 x7 x8 x9 Y3 Y4:AV}{s:St}{r:AV×St}
include hc
theorem afq(h:UL c F x0 s=some r):c 49 [x0] s=some (tidy s r):=hc.o1 F (Nx c F) Nw (by kernel_rfl) (by kernel_rfl) (λ_ _ _=>by kernel_rfl) (λ_ _ _ _=>by kernel_rfl) (by kernel_rfl) h
theorem afs(h:UM c F s=some r):c 50 [] s=some (tidy s r):=hc.o0 F Y6 (by kernel_rfl) (by kernel_rfl) h
theorem WS(h:D6 c F x0 x1 x2 s=some r):c 51 [x0,x1,x2] s=some (tidy s r):=hc.o0 F J6 (by kernel_rfl) (by kernel_rfl) h
theorem RH(h:UN c F x0 s=some r):c 56 [x0] s=some (tidy s r):=hc.o1 F (Nz c F) Ny (by kernel_rfl) (by kernel_rfl) (λ_ _ _=>by kernel_rfl) (λ_ _ _ _=>by kernel_rfl) (by kernel_rfl) h
theorem RA(h:UO c F x0 x1 s=some r):c 58 [x0,x1] s=some (tidy s r):=hc.o1 F (NB c F) NA (by kernel_rfl) (by kernel_rfl) (λ_ _ _=>by kernel_rfl) (λ_ _ _ _=>by kernel_rfl) (by kernel_rfl) h
theorem afk(h:UP c F x0 s=some r):c 59 [x0] s=some (tidy s r):=hc.o0 F Za (by kernel_rfl) (by kernel_rfl) h
theorem afp(h:DV c F x0 s=some r):c 68 [x0] s=some (tidy s r):=hc.oL F (NC c F) D7 2 (by kernel_rfl) (λi hi=>match i,hi with|0,_=>dc 0 (by kernel_rfl) (λ_ _ _=>by kernel_rfl) (λ_ _ _ _=>by kernel_rfl)|1,_=>dc 1 (by kernel_rfl) (λ_ _ _=>by kernel_rfl) (λ_ _ _ _=>by kernel_rfl)|n+2,h=>absurd h (by omega)) (by kernel_rfl) h
theorem JX(h:JE c F x0 s=some r):c 88 [x0] s=some (tidy s r):=hc.o1 F (D9 c F) D8 (by kernel_rfl) (by kernel_rfl) (λ_ _ _=>by kernel_rfl) (λ_ _ _ _=>by kernel_rfl) (by kernel_rfl) h
theorem WO(h:Ec c F x0 s=some r):c 89 [x0] s=some (tidy s r):=hc.o0 F J8 (by kernel_rfl) (by kernel_rfl) h
theorem WQ(h:Ed c F x0 x1 s=some r):c 108 [x0,x1] s=some (tidy s r):=hc.o0 F Ka (by kernel_rfl) (by kernel_rfl) h
theorem ajA(h:ac1 c F x0 x1 s=some r):c 109 [x0,x1] s=some (tidy s r):=hc.o0 F aet (by kernel_rfl) (by kernel_rfl) h
theorem agZ(h:Ze c F x0 s=some r):c 110 [x0] s=some (tidy s r):=hc.o1 F (Qg c F) Qf (by kernel_rfl) (by kernel_rfl) (λ_ _ _=>by kernel_rfl) (λ_ _ _ _=>by kernel_rfl) (by kernel_rfl) h
theorem ag3(h:Zf c F x0 x1 s=some r):c 111 [x0,x1] s=some (tidy s r):=hc.o0 F abr (by kernel_rfl) (by kernel_rfl) h
theorem ju(h:pV c F x0 s=some r):c 117 [x0] s=some (tidy s r):=hc.o0 F vh (by kernel_rfl) (by kernel_rfl) h
theorem afj(h:UQ c F x0 s=some r):c 120 [x0] s=some (tidy s r):=hc.o0 F Zg (by kernel_rfl) (by kernel_rfl) h
theorem agY(h:Zi c F x0 s=some r):c 121 [x0] s=some (tidy s r):=hc.o0 F abu (by kernel_rfl) (by kernel_rfl) h
theorem aaM(h:JF c F x0 s=some r):c 122 [x0] s=some (tidy s r):=hc.o0 F Pc (by kernel_rfl) (by kernel_rfl) h
theorem ag6(h:Zj c F s=some r):c 128 [] s=some (tidy s r):=hc.o0 F abw (by kernel_rfl) (by kernel_rfl) h
theorem Im(h:zU c F x0 x1 s=some r):c 129 [x0,x1] s=some (tidy s r):=hc.o0 F NF (by kernel_rfl) (by kernel_rfl) h
theorem aed(h:Qh c F x0 x1 s=some r):c 130 [x0,x1] s=some (tidy s r):=hc.o0 F VL (by kernel_rfl) (by kernel_rfl) h
theorem zk(h:zV c F x0 x1 x2 x3 s=some r):c 131 [x0,x1,x2,x3] s=some (tidy s r):=hc.o1 F (Cb c F) Ca (by kernel_rfl) (by kernel_rfl) (λ_ _ _=>by kernel_rfl) (λ_ _ _ _=>by kernel_rfl) (by kernel_rfl) h
theorem WN(h:Ee c F x0 s=some r):c 136 [x0] s=some (tidy s r):=hc.o0 F Ke (by kernel_rfl) (by kernel_rfl) h
theorem DU(h:Cc c F x0 x1 x2 s=some r):c 137 [x0,x1,x2] s=some (tidy s r):=hc.o0 F Iy (by kernel_rfl) (by kernel_rfl) h
theorem afh(h:UR c F x0 s=some r):c 158 [x0] s=some (tidy s r):=hc.o1 F (NJ c F) NI (by kernel_rfl) (by kernel_rfl) (λ_ _ _=>by kernel_rfl) (λ_ _ _ _=>by kernel_rfl) (by kernel_rfl) h
theorem uD(h:iT c F x0 x1 s=some r):c 159 [x0,x1] s=some (tidy s r):=hc.o0 F mK (by kernel_rfl) (by kernel_rfl) h
theorem WJ(h:Ef c F x0 x1 s=some r):c 160 [x0,x1] s=some (tidy s r):=hc.o0 F Kg (by kernel_rfl) (by kernel_rfl) h
theorem wH(h:jU c F x0 x1 s=some r):c 175 [x0,x1] s=some (tidy s r):=hc.o1 F (jg c F) jf (by kernel_rfl) (by kernel_rfl) (λ_ _ _=>by kernel_rfl) (λ_ _ _ _=>by kernel_rfl) (by kernel_rfl) h
theorem afr(h:US c F x0 x1 s=some r):c 176 [x0,x1] s=some (tidy s r):=hc.o0 F Zl (by kernel_rfl) (by kernel_rfl) h
theorem wz(h:jV c F x0 x1 s=some r):c 177 [x0,x1] s=some (tidy s r):=hc.o1 F (jk c F) ji (by kernel_rfl) (by kernel_rfl) (λ_ _ _=>by kernel_rfl) (λ_ _ _ _=>by kernel_rfl) (by kernel_rfl) h
theorem ad9(h:Qi c F x0 x1 s=some r):c 178 [x0,x1] s=some (tidy s r):=hc.o0 F VO (by kernel_rfl) (by kernel_rfl) h
theorem aaK(h:JG c F x0 s=some r):c 180 [x0] s=some (tidy s r):=hc.o0 F Pg (by kernel_rfl) (by kernel_rfl) h
theorem aeb(h:Qj c F x0 s=some r):c 182 [x0] s=some (tidy s r):=hc.o1 F (JI c F) JH (by kernel_rfl) (by kernel_rfl) (λ_ _ _=>by kernel_rfl) (λ_ _ _ _=>by kernel_rfl) (by kernel_rfl) h
theorem acS(h:NK c F x0 s=some r):c 183 [x0] s=some (tidy s r):=hc.o0 F Sa (by kernel_rfl) (by kernel_rfl) h
theorem WM(h:strings_Compare c F x0 x1 s=some r):c 184 [x0,x1] s=some (tidy s r):=hc.o0 F Ki (by kernel_rfl) (by kernel_rfl) h
theorem Bh(h:nS c F x0 x1 x2 s=some r):c 185 [x0,x1,x2] s=some (tidy s r):=hc.o0 F sy (by kernel_rfl) (by kernel_rfl) h
theorem RD(h:UT c F x0 x1 x2 s=some r):c 186 [x0,x1,x2] s=some (tidy s r):=hc.o0 F Zn (by kernel_rfl) (by kernel_rfl) h
theorem qd(h:fU c F x0 x1 x2 s=some r):c 189 [x0,x1,x2] s=some (tidy s r):=hc.o1 F (fP c F) fO (by kernel_rfl) (by kernel_rfl) (λ_ _ _=>by kernel_rfl) (λ_ _ _ _=>by kernel_rfl) (by kernel_rfl) h
theorem ag0(h:Zq c F x0 s=some r):c 203 [x0] s=some (tidy s r):=hc.o1 F (Ql c F) Qk (by kernel_rfl) (by kernel_rfl) (λ_ _ _=>by kernel_rfl) (λ_ _ _ _=>by kernel_rfl) (by kernel_rfl) h
theorem WH(h:Eg c F x0 x1 s=some r):c 204 [x0,x1] s=some (tidy s r):=hc.o0 F Kk (by kernel_rfl) (by kernel_rfl) h
theorem YE(h:Hi c F x0 x1 s=some r):c 209 [x0,x1] s=some (tidy s r):=hc.o0 F NL (by kernel_rfl) (by kernel_rfl) h
theorem YF(h:Hj c F x0 x1 s=some r):c 214 [x0,x1] s=some (tidy s r):=hc.o0 F NN (by kernel_rfl) (by kernel_rfl) h
theorem aaJ(h:JJ c F x0 x1 s=some r):c 219 [x0,x1] s=some (tidy s r):=hc.o0 F Pj (by kernel_rfl) (by kernel_rfl) h
theorem afd(h:UU c F x0 s=some r):c 225 [x0] s=some (tidy s r):=hc.o1 F (NQ c F) NP (by kernel_rfl) (by kernel_rfl) (λ_ _ _=>by kernel_rfl) (λ_ _ _ _=>by kernel_rfl) (by kernel_rfl) h
theorem afg(h:UW c F x0 s=some r):c 226 [x0] s=some (tidy s r):=hc.o0 F Zs (by kernel_rfl) (by kernel_rfl) h
theorem LJ(h:bytealg_CompareString c F x0 x1 s=some r):c 227 [x0,x1] s=some (tidy s r):=hc.o0 F Ag (by kernel_rfl) (by kernel_rfl) h
end
attribute [local go_sem ↓] bh BI ev evX Fz getLT DI X5 kat BG BH Tw Ra Rb Rc LX LY LZ L8 L9 Ma Re Rf Mb Mc Md Me Mf Z3 Z4 Z5
attribute [local go_sem] bh BI ev
section
variable(c:aj)(F:Nat)(x0 x1 x2 x3 x4 x5 x6 x7 x8 x9 Y3 Y4:AV)(s:St)
def wP:Sh:=(sq sl (sq (sq sl (sq sl (sc (sq sl sl) sl))) (sq sl (sq (sq sl (sb (sp 0 [1,7,40,41] [(2,[1,7])] (sq sl (sq (sc sl sl) (sq (sb (sq sl (sq sl (sq sl (sq sl (sb (sp 1 [1,7,8,9,10,11,40,41] [(4,[1,7,40,41])] (sq (sq sl (sc sl sl)) (sq (sb (sq sl (sq sl (sq sl (sq sl sl))))) (sq (sq sl sl) sl)))))))))) sl)))))) (sq (sq sl (sb (sp 2 [1,7,131,132] [(6,[1,7])] (sq sl (sq (sc sl sl) (sq (sb (sq sl sl)) sl)))))) (sq sl (sq (sq sl (sb (sp 3 [1,7,13,159,160,161] [(8,[7])] (sq sl (sq (sc sl sl) (sq (sb (sq sl (sq sl (sq sl (sq (sq sl (sb (sp 4 [1,7,13,17,18,19,159,160,161,166,167,168] [(10,[1,7,13,18,19,159,160,161])] (sq sl (sq (sc sl sl) (sq (sb (sq sl (sq sl (sq sl sl)))) sl)))))) sl))))) sl)))))) (sq sl sl))))))))
def aev:PX 18 wP:=⟨_,by conv=>lhs;reduce⟩
def abz:PL 18 wP 4:=⟨_,by conv=>lhs;reduce⟩
def xJ(JV:Q2):Nat->Q2
 |0,_,_=>none
 |n+1,vs,s=>dU c F bk (xJ JV n) [JV] abz.1 vs s
def VE(JV:Q2)(n:Nat)(vs:List AV)(s:St):=(by dsimp only[xJ,abz,go_sem,Int.reduceOfNat]:xJ c F JV (n+1) vs s=_)
def abA:Un->List Q2->Nat->Q2
 |(.s (.s (.s (.s .z)))),[JV]=>xJ c F JV
 |_,_=>λ_=>fj
def abB:PL 18 wP 3:=⟨_,by conv=>lhs;reduce⟩
def Bm(k8:Q2):Nat->Q2
 |0,_,_=>none
 |n+1,vs,s=>dU c F (abA c F) (Bm k8 n) [k8] abB.1 vs s
def VF(k8:Q2)(n:Nat)(vs:List AV)(s:St):=(by dsimp only[Bm,abB, ↓abA,go_sem,Int.reduceOfNat]:Bm c F k8 (n+1) vs s=_)
def abC:PL 18 wP 2:=⟨_,by conv=>lhs;reduce⟩
def Bl(k6:Q2):Nat->Q2
 |0,_,_=>none
 |n+1,vs,s=>dU c F bk (Bl k6 n) [k6] abC.1 vs s
def VD(k6:Q2)(n:Nat)(vs:List AV)(s:St):=(by dsimp only[Bl,abC,go_sem,Int.reduceOfNat]:Bl c F k6 (n+1) vs s=_)
def abD:PL 18 wP 1:=⟨_,by conv=>lhs;reduce⟩
def xI(k4:Q2):Nat->Q2
 |0,_,_=>none
 |n+1,vs,s=>dU c F bk (xI k4 n) [k4] abD.1 vs s
def Vz(k4:Q2)(n:Nat)(vs:List AV)(s:St):=(by dsimp only[xI,abD,go_sem,Int.reduceOfNat]:xI c F k4 (n+1) vs s=_)
def abE:Un->List Q2->Nat->Q2
 |(.s .z),[k4]=>xI c F k4
 |_,_=>λ_=>fj
def abF:PL 18 wP 0:=⟨_,by conv=>lhs;reduce⟩
def Bk(k2:Q2):Nat->Q2
 |0,_,_=>none
 |n+1,vs,s=>dU c F (abE c F) (Bk k2 n) [k2] abF.1 vs s
def VC(k2:Q2)(n:Nat)(vs:List AV)(s:St):=(by dsimp only[Bk,abF, ↓abE,go_sem,Int.reduceOfNat]:Bk c F k2 (n+1) vs s=_)
def UX:Un->List Q2->Nat->Q2
 |.z,[k2]=>Bk c F k2
 |(.s .z),[k4]=>xI c F k4
 |(.s (.s .z)),[k6]=>Bl c F k6
 |(.s (.s (.s .z))),[k8]=>Bm c F k8
 |(.s (.s (.s (.s .z)))),[JV]=>xJ c F JV
 |_,_=>λ_=>fj
def ac2:O2:=bh c F (UX c F) aev.1 [x0] s
def anF:=(by dsimp only[ac2,aev, ↓UX,go_sem,Int.reduceOfNat]:ac2 c F x0 s=_)
def vn:Sh:=(sq sl (sq (sq sl (sc (sq sl sl) sl)) (sq (sq sl (sb (sp 0 [0,1,5] [(1,[4]),(2,[])] (sq (sq sl (sc sl sl)) (sq (sb (sq sl (sc (sq sl sl) sl))) sl))))) (sq sl sl))))
def CV:PX 31 vn:=⟨_,by conv=>lhs;reduce⟩
def Bs:PL 31 vn 0:=⟨_,by conv=>lhs;reduce⟩
def kT(k1 k2:Q2):Nat->Q2
 |0,_,_=>none
 |n+1,vs,s=>dU c F bk (kT k1 k2 n) [k1,k2] Bs.1 vs s
def zf(k1 k2:Q2)(n:Nat)(vs:List AV)(s:St):=(by dsimp only[kT,Bs,go_sem,Int.reduceOfNat]:kT c F k1 k2 (n+1) vs s=_)
def vq:Un->List Q2->Nat->Q2
 |.z,[k1,k2]=>kT c F k1 k2
 |_,_=>λ_=>fj
def xT:O2:=bh c F (vq c F) CV.1 [x0,x1] s
def Rw:=(by dsimp only[xT,CV, ↓vq,go_sem,Int.reduceOfNat]:xT c F x0 x1 s=_)
def BQ:Sh:=(sq sl (sq sl (sq (sq sl (sb (sp 0 [1,2,11,12] [(2,[1,2])] (sq sl (sq (sc sl sl) (sq (sb (sq sl sl)) sl)))))) (sq sl (sq (sq sl (sb (sp 1 [1,2,34,35] [(4,[1,2])] (sq sl (sq (sc sl sl) (sq (sb (sq sl sl)) sl)))))) (sq sl (sq sl sl)))))))
def VS:PX 57 BQ:=⟨_,by conv=>lhs;reduce⟩
def Sd:PL 57 BQ 1:=⟨_,by conv=>lhs;reduce⟩
def u9(k4:Q2):Nat->Q2
 |0,_,_=>none
 |n+1,vs,s=>dU c F bk (u9 k4 n) [k4] Sd.1 vs s
def Ns(k4:Q2)(n:Nat)(vs:List AV)(s:St):=(by dsimp only[u9,Sd,go_sem,Int.reduceOfNat]:u9 c F k4 (n+1) vs s=_)
def Se:PL 57 BQ 0:=⟨_,by conv=>lhs;reduce⟩
def u7(k2:Q2):Nat->Q2
 |0,_,_=>none
 |n+1,vs,s=>dU c F bk (u7 k2 n) [k2] Se.1 vs s
def Nr(k2:Q2)(n:Nat)(vs:List AV)(s:St):=(by dsimp only[u7,Se,go_sem,Int.reduceOfNat]:u7 c F k2 (n+1) vs s=_)
def JK:Un->List Q2->Nat->Q2
 |.z,[k2]=>u7 c F k2
 |(.s .z),[k4]=>u9 c F k4
 |_,_=>λ_=>fj
def Qn:O2:=bh c F (JK c F) VS.1 [x0] s
def ahk:=(by dsimp only[Qn,VS, ↓JK,go_sem,Int.reduceOfNat]:Qn c F x0 s=_)
def Zu:Sh:=(sq sl (sq sl (sq (sq sl (sc (sq sl sl) sl)) (sq sl sl))))
def Zv:PX 60 Zu:=⟨_,by conv=>lhs;reduce⟩
def UY:O2:=bh c F bk Zv.1 [x0,x1] s
def YS:=(by dsimp only[UY,Zv,go_sem,Int.reduceOfNat]:UY c F x0 x1 s=_)
def abG:Sh:=(sq sl (sq sl (sq sl sl)))
def abH:PX 61 abG:=⟨_,by conv=>lhs;reduce⟩
def Zw:O2:=bh c F bk abH.1 [x0,x1] s
def akP:=(by dsimp only[Zw,abH,go_sem,Int.reduceOfNat]:Zw c F x0 x1 s=_)
def NR:Sh:=(sq sl (sq sl (sq (sq sl (sb (sp 0 [0,1,2,7,8] [(2,[7])] (sq (sq sl (sc sl sl)) (sj [0,1,2,7,8] (sb (sq sl (sc sl sl))) sl))))) (sq sl sl))))
def Zx:PX 62 NR:=⟨_,by conv=>lhs;reduce⟩
def VT:PL 62 NR 0:=⟨_,by conv=>lhs;reduce⟩
def xB(k2:Q2):Nat->Q2
 |0,_,_=>none
 |n+1,vs,s=>dU c F bk (xB k2 n) [k2] VT.1 vs s
def DZ(k2:Q2)(n:Nat)(vs:List AV)(s:St):=(by dsimp only[xB,VT,go_sem,Int.reduceOfNat]:xB c F k2 (n+1) vs s=_)
def NS:Un->List Q2->Nat->Q2
 |.z,[k2]=>xB c F k2
 |_,_=>λ_=>fj
def UZ:O2:=bh c F (NS c F) Zx.1 [x0,x1,x2] s
def ajM:=(by dsimp only[UZ,Zx, ↓NS,go_sem,Int.reduceOfNat]:UZ c F x0 x1 x2 s=_)
def Zy:Sh:=(sq sl (sq sl sl))
def Zz:PX 63 Zy:=⟨_,by conv=>lhs;reduce⟩
def U0:O2:=bh c F bk Zz.1 [x0,x1,x2] s
def ajQ:=(by dsimp only[U0,Zz,go_sem,Int.reduceOfNat]:U0 c F x0 x1 x2 s=_)
def VU:Sh:=(sq sl (sq sl (sq sl sl)))
def VV:PX 64 VU:=⟨_,by conv=>lhs;reduce⟩
def Qo:O2:=bh c F bk VV.1 [x0,x1,x2] s
def ahg:=(by dsimp only[Qo,VV,go_sem,Int.reduceOfNat]:Qo c F x0 x1 x2 s=_)
def ZA:Sh:=(sq sl (sq sl sl))
def ZB:PX 65 ZA:=⟨_,by conv=>lhs;reduce⟩
def U6:O2:=bh c F bk ZB.1 [x0,x1,x2] s
def ajR:=(by dsimp only[U6,ZB,go_sem,Int.reduceOfNat]:U6 c F x0 x1 x2 s=_)
def VW:Sh:=(sq sl (sq sl (sq sl sl)))
def VX:PX 66 VW:=⟨_,by conv=>lhs;reduce⟩
def Qp:O2:=bh c F bk VX.1 [x0,x1,x2] s
def ahh:=(by dsimp only[Qp,VX,go_sem,Int.reduceOfNat]:Qp c F x0 x1 x2 s=_)
def qi:Sh:=(sq sl (sq sl (sq (sq sl (sb (sp 0 [0,5,6] [(2,[5])] (sq (sq sl (sc sl sl)) (sq (sb (sq sl (sb (sp 1 [0,5,6,41,42,43] [(4,[0,5,6])] (sq sl (sq (sc sl sl) (sq (sb (sq sl (sq sl (sb (sp 2 [0,5,6,41,42,43,47,48,49] [(6,[0,5,6,41,42,43])] (sq sl (sq (sc sl sl) (sj [0,5,6,41,42,43,47,48,49] (sb (sq sl (sq sl (sq sl (sc (sq sl sl) sl))))) sl)))))))) sl))))))) sl))))) (sq sl sl))))
def Km:PX 67 qi:=⟨_,by conv=>lhs;reduce⟩
def IA:PL 67 qi 2:=⟨_,by conv=>lhs;reduce⟩
def jR(k6:Q2):Nat->Q2
 |0,_,_=>none
 |n+1,vs,s=>dU c F bk (jR k6 n) [k6] IA.1 vs s
def wK(k6:Q2)(n:Nat)(vs:List AV)(s:St):=(by dsimp only[jR,IA,go_sem,Int.reduceOfNat]:jR c F k6 (n+1) vs s=_)
def IB:Un->List Q2->Nat->Q2
 |(.s (.s .z)),[k6]=>jR c F k6
 |_,_=>λ_=>fj
def IC:PL 67 qi 1:=⟨_,by conv=>lhs;reduce⟩
def fL(k4:Q2):Nat->Q2
 |0,_,_=>none
 |n+1,vs,s=>dU c F (IB c F) (fL k4 n) [k4] IC.1 vs s
def wO(k4:Q2)(n:Nat)(vs:List AV)(s:St):=(by dsimp only[fL,IC, ↓IB,go_sem,Int.reduceOfNat]:fL c F k4 (n+1) vs s=_)
def ID:Un->List Q2->Nat->Q2
 |(.s .z),[k4]=>fL c F k4
 |(.s (.s .z)),[k6]=>jR c F k6
 |_,_=>λ_=>fj
def IE:PL 67 qi 0:=⟨_,by conv=>lhs;reduce⟩
def pn(k2:Q2):Nat->Q2
 |0,_,_=>none
 |n+1,vs,s=>dU c F (ID c F) (pn k2 n) [k2] IE.1 vs s
def wM(k2:Q2)(n:Nat)(vs:List AV)(s:St):=(by dsimp only[pn,IE, ↓ID,go_sem,Int.reduceOfNat]:pn c F k2 (n+1) vs s=_)
def Az:Un->List Q2->Nat->Q2
 |.z,[k2]=>pn c F k2
 |(.s .z),[k4]=>fL c F k4
 |(.s (.s .z)),[k6]=>jR c F k6
 |_,_=>λ_=>fj
def Eh:O2:=bh c F (Az c F) Km.1 [x0,x1] s
def aa1:=(by dsimp only[Eh,Km, ↓Az,go_sem,Int.reduceOfNat]:Eh c F x0 x1 s=_)
def FM:Sh:=(sq sl (sq sl (sq sl (sq (sq sl (sc (sq sl sl) sl)) (sq sl sl)))))
def FN:PX 69 FM:=⟨_,by conv=>lhs;reduce⟩
def uJ:O2:=bh c F bk FN.1 [x0,x1,x2] s
def Xb:=(by dsimp only[uJ,FN,go_sem,Int.reduceOfNat]:uJ c F x0 x1 x2 s=_)
def Kn:Sh:=(sq sl (sq (sq sl (sc (sq sl sl) sl)) (sq sl (sq (sq sl (sc (sq sl sl) sl)) (sq sl sl)))))
def Ko:PX 70 Kn:=⟨_,by conv=>lhs;reduce⟩
def Ei:O2:=bh c F bk Ko.1 [x0,x1,x2] s
def JY:=(by dsimp only[Ei,Ko,go_sem,Int.reduceOfNat]:Ei c F x0 x1 x2 s=_)
def qH:Sh:=(sq sl (sq sl sl))
def yC:PX 73 qH:=⟨_,by conv=>lhs;reduce⟩
def n7:O2:=bh c F bk yC.1 [x0,x1] s
def yq:=(by dsimp only[n7,yC,go_sem,Int.reduceOfNat]:n7 c F x0 x1 s=_)
def Kq:Sh:=(sq sl (sq sl sl))
def Kr:PX 78 Kq:=⟨_,by conv=>lhs;reduce⟩
def Ej:O2:=bh c F bk Kr.1 [x0] s
def aaC:=(by dsimp only[Ej,Kr,go_sem,Int.reduceOfNat]:Ej c F x0 s=_)
def qj:Sh:=(sq sl (sq (sq sl (sc (sq sl sl) sl)) (sq sl sl)))
def qk:PX 114 qj:=⟨_,by conv=>lhs;reduce⟩
def lO:O2:=bh c F bk qk.1 [x0] s
def qf:=(by dsimp only[lO,qk,go_sem,Int.reduceOfNat]:lO c F x0 s=_)
def Bt:Sh:=(sq sl (sq (sq sl (sc (sq sl sl) sl)) (sq sl sl)))
def Bu:PX 115 Bt:=⟨_,by conv=>lhs;reduce⟩
def wQ:O2:=bh c F bk Bu.1 [x0] s
def Bi:=(by dsimp only[wQ,Bu,go_sem,Int.reduceOfNat]:wQ c F x0 s=_)
def qm:Sh:=(sq sl (sq (sq sl (sc (sq sl sl) sl)) (sq sl sl)))
def qp:PX 116 qm:=⟨_,by conv=>lhs;reduce⟩
def lQ:O2:=bh c F bk qp.1 [x0] s
def qg:=(by dsimp only[lQ,qp,go_sem,Int.reduceOfNat]:lQ c F x0 s=_)
def tX:Sh:=(sq sl (sq (sq sl (sc (sq sl sl) sl)) (sq sl sl)))
def tY:PX 118 tX:=⟨_,by conv=>lhs;reduce⟩
def oI:O2:=bh c F bk tY.1 [x0] s
def tR:=(by dsimp only[oI,tY,go_sem,Int.reduceOfNat]:oI c F x0 s=_)
def rJ:Sh:=(sq sl (sq (sq sl (sc (sq sl sl) sl)) (sq sl sl)))
def rM:PX 119 rJ:=⟨_,by conv=>lhs;reduce⟩
def nD:O2:=bh c F bk rM.1 [x0] s
def rH:=(by dsimp only[nD,rM,go_sem,Int.reduceOfNat]:nD c F x0 s=_)
def NT:Sh:=(sq sl (sq (sq sl (sc (sq sl sl) sl)) (sq (sq sl (sb (sp 0 [1,17,18,19] [(1,[4,5,6]),(2,[])] (sq sl (sq (sc sl sl) (sq (sb (sq sl (sq sl (sq (sq sl (sc (sq sl sl) sl)) sl)))) sl)))))) (sq sl sl))))
def ZC:PX 123 NT:=⟨_,by conv=>lhs;reduce⟩
def VY:PL 123 NT 0:=⟨_,by conv=>lhs;reduce⟩
def sZ(k1 k2:Q2):Nat->Q2
 |0,_,_=>none
 |n+1,vs,s=>dU c F bk (sZ k1 k2 n) [k1,k2] VY.1 vs s
def yA(k1 k2:Q2)(n:Nat)(vs:List AV)(s:St):=(by dsimp only[sZ,VY,go_sem,Int.reduceOfNat]:sZ c F k1 k2 (n+1) vs s=_)
def NU:Un->List Q2->Nat->Q2
 |.z,[k1,k2]=>sZ c F k1 k2
 |_,_=>λ_=>fj
def U7:O2:=bh c F (NU c F) ZC.1 [x0,x1] s
def YQ:=(by dsimp only[U7,ZC, ↓NU,go_sem,Int.reduceOfNat]:U7 c F x0 x1 s=_)
def JL:Sh:=(sq sl (sq sl (sq sl (sq (sq sl (sb (sp 0 [5,23,24,25] [(2,[5])] (sq sl (sq (sc sl sl) (sj [5,23,24,25] (sb (sq sl (sq sl (sc sl sl)))) sl)))))) (sq sl sl)))))
def VZ:PX 124 JL:=⟨_,by conv=>lhs;reduce⟩
def Sf:PL 124 JL 0:=⟨_,by conv=>lhs;reduce⟩
def u6(k2:Q2):Nat->Q2
 |0,_,_=>none
 |n+1,vs,s=>dU c F bk (u6 k2 n) [k2] Sf.1 vs s
def B9(k2:Q2)(n:Nat)(vs:List AV)(s:St):=(by dsimp only[u6,Sf,go_sem,Int.reduceOfNat]:u6 c F k2 (n+1) vs s=_)
def JM:Un->List Q2->Nat->Q2
 |.z,[k2]=>u6 c F k2
 |_,_=>λ_=>fj
def Qq:O2:=bh c F (JM c F) VZ.1 [x0] s
def ahj:=(by dsimp only[Qq,VZ, ↓JM,go_sem,Int.reduceOfNat]:Qq c F x0 s=_)
def abI:Sh:=(sq sl (sq sl (sq sl (sq (sq sl (sc (sq sl sl) sl)) (sq sl sl)))))
def abJ:PX 125 abI:=⟨_,by conv=>lhs;reduce⟩
def ZD:O2:=bh c F bk abJ.1 [x0,x1,x2] s
def akO:=(by dsimp only[ZD,abJ,go_sem,Int.reduceOfNat]:ZD c F x0 x1 x2 s=_)
def V8:Sh:=(sq sl (sq sl (sq sl sl)))
def V9:PX 126 V8:=⟨_,by conv=>lhs;reduce⟩
def Qr:O2:=bh c F bk V9.1 [x0,x1,x2] s
def ahc:=(by dsimp only[Qr,V9,go_sem,Int.reduceOfNat]:Qr c F x0 x1 x2 s=_)
def Wc:Sh:=(sq sl (sq sl (sq sl sl)))
def Wd:PX 127 Wc:=⟨_,by conv=>lhs;reduce⟩
def Qt:O2:=bh c F bk Wd.1 [x0,x1,x2] s
def ahd:=(by dsimp only[Qt,Wd,go_sem,Int.reduceOfNat]:Qt c F x0 x1 x2 s=_)
def Ks:Sh:=(sq sl (sq (sq sl (sc (sq sl sl) sl)) (sq sl (sq (sq sl (sc (sq sl sl) sl)) (sq sl sl)))))
def Kt:PX 132 Ks:=⟨_,by conv=>lhs;reduce⟩
def Ek:O2:=bh c F bk Kt.1 [x0,x1] s
def JZ:=(by dsimp only[Ek,Kt,go_sem,Int.reduceOfNat]:Ek c F x0 x1 s=_)
def kW:Sh:=(sq sl (sq sl (sq (sq sl (sc (sq sl sl) sl)) (sq (sq sl (sb (sp 0 [0,1,5,6] [(2,[0,5])] (sq (sq sl (sc sl sl)) (sj [0,1,5,6] (sb (sq sl (sq sl (sc (sq sl sl) sl)))) sl))))) (sq sl (sq sl sl))))))
def qO:PX 133 kW:=⟨_,by conv=>lhs;reduce⟩
def qq:PL 133 kW 0:=⟨_,by conv=>lhs;reduce⟩
def fu(k2:Q2):Nat->Q2
 |0,_,_=>none
 |n+1,vs,s=>dU c F bk (fu k2 n) [k2] qq.1 vs s
def jS(k2:Q2)(n:Nat)(vs:List AV)(s:St):=(by dsimp only[fu,qq,go_sem,Int.reduceOfNat,Int.reduceNegSucc]:fu c F k2 (n+1) vs s=_)
def kX:Un->List Q2->Nat->Q2
 |.z,[k2]=>fu c F k2
 |_,_=>λ_=>fj
def mF:O2:=bh c F (kX c F) qO.1 [x0,x1] s
def qM:=(by dsimp only[mF,qO, ↓kX,go_sem,Int.reduceOfNat,Int.reduceNegSucc]:mF c F x0 x1 s=_)
def CW:Sh:=(sq sl (sq sl sl))
def CX:PX 134 CW:=⟨_,by conv=>lhs;reduce⟩
def xU:O2:=bh c F bk CX.1 [x0,x1] s
def RV:=(by dsimp only[xU,CX,go_sem,Int.reduceOfNat]:xU c F x0 x1 s=_)
def sH:Sh:=(sq sl (sq sl sl))
def sI:PX 135 sH:=⟨_,by conv=>lhs;reduce⟩
def nU:O2:=bh c F bk sI.1 [x0,x1] s
def Dg:=(by dsimp only[nU,sI,go_sem,Int.reduceOfNat]:nU c F x0 x1 s=_)
def oV:Sh:=(sq sl (sq (sq sl (sb (sp 0 [0,1,7,8] [(1,[4]),(2,[])] (sq sl (sq (sc sl sl) (sq (sb (sq sl (sq sl (sc (sq sl sl) sl)))) sl)))))) (sq sl sl)))
def Bv:PX 138 oV:=⟨_,by conv=>lhs;reduce⟩
def Aj:PL 138 oV 0:=⟨_,by conv=>lhs;reduce⟩
def iJ(k1 k2:Q2):Nat->Q2
 |0,_,_=>none
 |n+1,vs,s=>dU c F bk (iJ k1 k2 n) [k1,k2] Aj.1 vs s
def js(k1 k2:Q2)(n:Nat)(vs:List AV)(s:St):=(by dsimp only[iJ,Aj,go_sem,Int.reduceOfNat,Int.reduceNegSucc]:iJ c F k1 k2 (n+1) vs s=_)
def oW:Un->List Q2->Nat->Q2
 |.z,[k1,k2]=>iJ c F k1 k2
 |_,_=>λ_=>fj
def qI:O2:=bh c F (oW c F) Bv.1 [x0,x1] s
def Bb:=(by dsimp only[qI,Bv, ↓oW,go_sem,Int.reduceOfNat,Int.reduceNegSucc]:qI c F x0 x1 s=_)
def zo:Sh:=(sq sl (sq sl (sq (sq sl (sb (sp 0 [1,2,5,15,16] [(2,[1,2,5])] (sq sl (sq (sc sl sl) (sq (sb (sq sl sl)) sl)))))) (sq sl (sq sl (sq (sb (sp 1 [2,5,7] [(4,[5])] (sq (sq sl (sc sl sl)) (sb (sq sl (sq sl (sq sl (sb (sp 2 [2,5,7,8,36,37,38] [(6,[2,5,7])] (sq sl (sq (sc sl sl) (sj [2,5,7,8,36,37,38] (sb (sq sl (sq sl (sc (sq sl sl) sl)))) sl)))))))))))) (sq sl sl)))))))
def ZE:PX 181 zo:=⟨_,by conv=>lhs;reduce⟩
def We:PL 181 zo 2:=⟨_,by conv=>lhs;reduce⟩
def td(k6:Q2):Nat->Q2
 |0,_,_=>none
 |n+1,vs,s=>dU c F bk (td k6 n) [k6] We.1 vs s
def yB(k6:Q2)(n:Nat)(vs:List AV)(s:St):=(by dsimp only[td,We,go_sem,Int.reduceOfNat,Int.reduceNegSucc]:td c F k6 (n+1) vs s=_)
def Wg:Un->List Q2->Nat->Q2
 |(.s (.s .z)),[k6]=>td c F k6
 |_,_=>λ_=>fj
def Wh:PL 181 zo 1:=⟨_,by conv=>lhs;reduce⟩
def pU(k4:Q2):Nat->Q2
 |0,_,_=>none
 |n+1,vs,s=>dU c F (Wg c F) (pU k4 n) [k4] Wh.1 vs s
def DY(k4:Q2)(n:Nat)(vs:List AV)(s:St):=(by dsimp only[pU,Wh, ↓Wg,go_sem,Int.reduceOfNat,Int.reduceNegSucc]:pU c F k4 (n+1) vs s=_)
def Wi:PL 181 zo 0:=⟨_,by conv=>lhs;reduce⟩
def th(k2:Q2):Nat->Q2
 |0,_,_=>none
 |n+1,vs,s=>dU c F bk (th k2 n) [k2] Wi.1 vs s
def OX(k2:Q2)(n:Nat)(vs:List AV)(s:St):=(by dsimp only[th,Wi,go_sem,Int.reduceOfNat,Int.reduceNegSucc]:th c F k2 (n+1) vs s=_)
def NV:Un->List Q2->Nat->Q2
 |.z,[k2]=>th c F k2
 |(.s .z),[k4]=>pU c F k4
 |(.s (.s .z)),[k6]=>td c F k6
 |_,_=>λ_=>fj
def U8:O2:=bh c F (NV c F) ZE.1 [x0,x1] s
def ajK:=(by dsimp only[U8,ZE, ↓NV,go_sem,Int.reduceOfNat,Int.reduceNegSucc]:U8 c F x0 x1 s=_)
def lR:Sh:=(sq sl (sq (sq sl (sb (sp 0 [0,1,7,8] [(1,[4]),(2,[])] (sq sl (sq (sc sl sl) (sq (sb (sq sl (sq sl (sc (sq sl sl) sl)))) sl)))))) (sq sl sl)))
def rP:PX 187 lR:=⟨_,by conv=>lhs;reduce⟩
def qP:PL 187 lR 0:=⟨_,by conv=>lhs;reduce⟩
def dX(k1 k2:Q2):Nat->Q2
 |0,_,_=>none
 |n+1,vs,s=>dU c F bk (dX k1 k2 n) [k1,k2] qP.1 vs s
def eW(k1 k2:Q2)(n:Nat)(vs:List AV)(s:St):=(by dsimp only[dX,qP,go_sem,Int.reduceOfNat,Int.reduceNegSucc]:dX c F k1 k2 (n+1) vs s=_)
def lS:Un->List Q2->Nat->Q2
 |.z,[k1,k2]=>dX c F k1 k2
 |_,_=>λ_=>fj
def nE:O2:=bh c F (lS c F) rP.1 [x0,x1] s
def rI:=(by dsimp only[nE,rP, ↓lS,go_sem,Int.reduceOfNat,Int.reduceNegSucc]:nE c F x0 x1 s=_)
def oJ:Sh:=(sq sl (sq (sq sl (sb (sp 0 [0,1,7,8] [(1,[4]),(2,[])] (sq sl (sq (sc sl sl) (sq (sb (sq sl (sq sl (sc (sq sl sl) sl)))) sl)))))) (sq sl sl)))
def vr:PX 188 oJ:=⟨_,by conv=>lhs;reduce⟩
def uC:PL 188 oJ 0:=⟨_,by conv=>lhs;reduce⟩
def fA(k1 k2:Q2):Nat->Q2
 |0,_,_=>none
 |n+1,vs,s=>dU c F bk (fA k1 k2 n) [k1,k2] uC.1 vs s
def fW(k1 k2:Q2)(n:Nat)(vs:List AV)(s:St):=(by dsimp only[fA,uC,go_sem,Int.reduceOfNat,Int.reduceNegSucc]:fA c F k1 k2 (n+1) vs s=_)
def oK:Un->List Q2->Nat->Q2
 |.z,[k1,k2]=>fA c F k1 k2
 |_,_=>λ_=>fj
def pW:O2:=bh c F (oK c F) vr.1 [x0,x1] s
def ve:=(by dsimp only[pW,vr, ↓oK,go_sem,Int.reduceOfNat,Int.reduceNegSucc]:pW c F x0 x1 s=_)
def IF:Sh:=(sq sl (sq sl sl))
def IG:PX 205 IF:=⟨_,by conv=>lhs;reduce⟩
def Cd:O2:=bh c F bk IG.1 [x0,x1,x2,x3] s
def YN:=(by dsimp only[Cd,IG,go_sem,Int.reduceOfNat]:Cd c F x0 x1 x2 x3 s=_)
def II:Sh:=(sq sl (sq sl sl))
def IJ:PX 206 II:=⟨_,by conv=>lhs;reduce⟩
def Ce:O2:=bh c F bk IJ.1 [x0,x1,x2,x3] s
def YO:=(by dsimp only[Ce,IJ,go_sem,Int.reduceOfNat]:Ce c F x0 x1 x2 x3 s=_)
def Ku:Sh:=(sq sl (sq sl sl))
def Kv:PX 207 Ku:=⟨_,by conv=>lhs;reduce⟩
def El:O2:=bh c F bk Kv.1 [x0,x1] s
def aaX:=(by dsimp only[El,Kv,go_sem,Int.reduceOfNat]:El c F x0 x1 s=_)
def Kw:Sh:=(sq sl (sq sl (sq (sb (sq sl (sc (sq sl sl) (sq sl (sc (sq sl sl) sl))))) (sq sl sl))))
def Ky:PX 210 Kw:=⟨_,by conv=>lhs;reduce⟩
def Em:O2:=bh c F bk Ky.1 [x0,x1,x2,x3] s
def aaS:=(by dsimp only[Em,Ky,go_sem,Int.reduceOfNat]:Em c F x0 x1 x2 x3 s=_)
def Kz:Sh:=(sq sl (sq (sq sl (sc (sq sl sl) sl)) (sq sl sl)))
def KA:PX 211 Kz:=⟨_,by conv=>lhs;reduce⟩
def Eo:O2:=bh c F bk KA.1 [x0,x1,x2,x3] s
def aaT:=(by dsimp only[Eo,KA,go_sem,Int.reduceOfNat]:Eo c F x0 x1 x2 x3 s=_)
def KB:Sh:=(sq sl (sq (sq sl (sc (sq sl sl) sl)) (sq sl sl)))
def KC:PX 212 KB:=⟨_,by conv=>lhs;reduce⟩
def Ep:O2:=bh c F bk KC.1 [x0,x1] s
def aaY:=(by dsimp only[Ep,KC,go_sem,Int.reduceOfNat]:Ep c F x0 x1 s=_)
def KD:Sh:=(sq sl (sq sl sl))
def KE:PX 215 KD:=⟨_,by conv=>lhs;reduce⟩
def Er:O2:=bh c F bk KE.1 [x0,x1,x2,x3] s
def aaU:=(by dsimp only[Er,KE,go_sem,Int.reduceOfNat]:Er c F x0 x1 x2 x3 s=_)
def KF:Sh:=(sq sl (sq sl sl))
def KG:PX 216 KF:=⟨_,by conv=>lhs;reduce⟩
def Es:O2:=bh c F bk KG.1 [x0,x1,x2,x3] s
def aaV:=(by dsimp only[Es,KG,go_sem,Int.reduceOfNat]:Es c F x0 x1 x2 x3 s=_)
def KH:Sh:=(sq sl (sq sl sl))
def KI:PX 217 KH:=⟨_,by conv=>lhs;reduce⟩
def Eu:O2:=bh c F bk KI.1 [x0,x1] s
def aaZ:=(by dsimp only[Eu,KI,go_sem,Int.reduceOfNat]:Eu c F x0 x1 s=_)
def NW:Sh:=(sq sl (sq sl sl))
def NX:PX 220 NW:=⟨_,by conv=>lhs;reduce⟩
def Hl:O2:=bh c F bk NX.1 [x0,x1,x2,x3] s
def acU:=(by dsimp only[Hl,NX,go_sem,Int.reduceOfNat]:Hl c F x0 x1 x2 x3 s=_)
def KJ:Sh:=(sq sl (sq sl sl))
def KL:PX 221 KJ:=⟨_,by conv=>lhs;reduce⟩
def Ew:O2:=bh c F bk KL.1 [x0,x1,x2,x3] s
def aaW:=(by dsimp only[Ew,KL,go_sem,Int.reduceOfNat]:Ew c F x0 x1 x2 x3 s=_)
def KM:Sh:=(sq sl (sq sl sl))
def KN:PX 222 KM:=⟨_,by conv=>lhs;reduce⟩
def Ex:O2:=bh c F bk KN.1 [x0,x1] s
def aa0:=(by dsimp only[Ex,KN,go_sem,Int.reduceOfNat]:Ex c F x0 x1 s=_)
def abK:Sh:=(sq sl (sq sl sl))
def abL:PX 224 abK:=⟨_,by conv=>lhs;reduce⟩
def ZF:O2:=bh c F bk abL.1 [x0,x1,x2] s
def akM:=(by dsimp only[ZF,abL,go_sem,Int.reduceOfNat]:ZF c F x0 x1 x2 s=_)
def aew:Sh:=(sq sl (sq sl sl))
def aex:PX 238 aew:=⟨_,by conv=>lhs;reduce⟩
def ac3:O2:=bh c F bk aex.1 [x0,x1] s
def ano:=(by dsimp only[ac3,aex,go_sem,Int.reduceOfNat]:ac3 c F x0 x1 s=_)
end
section
variable{c:aj}(hc:Sem c)(F:Nat){x0 x1 x2 x3 x4 x5 x6 x7 x8 x9 Y3 Y4:AV}{s:St}{r:AV×St}
include hc
theorem aj2(h:ac2 c F x0 s=some r):c 18 [x0] s=some (tidy s r):=hc.oL F (UX c F) wP 5 (by kernel_rfl) (λi hi=>match i,hi with|0,_=>dc 0 (by kernel_rfl) (λ_ _ _=>by kernel_rfl) (λ_ _ _ _=>by kernel_rfl)|1,_=>dc 1 (by kernel_rfl) (λ_ _ _=>by kernel_rfl) (λ_ _ _ _=>by kernel_rfl)|2,_=>dc 2 (by kernel_rfl) (λ_ _ _=>by kernel_rfl) (λ_ _ _ _=>by kernel_rfl)|3,_=>dc 3 (by kernel_rfl) (λ_ _ _=>by kernel_rfl) (λ_ _ _ _=>by kernel_rfl)|4,_=>dc 4 (by kernel_rfl) (λ_ _ _=>by kernel_rfl) (λ_ _ _ _=>by kernel_rfl)|n+5,h=>absurd h (by omega)) (by kernel_rfl) h
theorem aeo(h:Qn c F x0 s=some r):c 57 [x0] s=some (tidy s r):=hc.oL F (JK c F) BQ 2 (by kernel_rfl) (λi hi=>match i,hi with|0,_=>dc 0 (by kernel_rfl) (λ_ _ _=>by kernel_rfl) (λ_ _ _ _=>by kernel_rfl)|1,_=>dc 1 (by kernel_rfl) (λ_ _ _=>by kernel_rfl) (λ_ _ _ _=>by kernel_rfl)|n+2,h=>absurd h (by omega)) (by kernel_rfl) h
theorem RO(h:UY c F x0 x1 s=some r):c 60 [x0,x1] s=some (tidy s r):=hc.o0 F Zu (by kernel_rfl) (by kernel_rfl) h
theorem ahi(h:Zw c F x0 x1 s=some r):c 61 [x0,x1] s=some (tidy s r):=hc.o0 F abG (by kernel_rfl) (by kernel_rfl) h
theorem afx(h:UZ c F x0 x1 x2 s=some r):c 62 [x0,x1,x2] s=some (tidy s r):=hc.o1 F (NS c F) NR (by kernel_rfl) (by kernel_rfl) (λ_ _ _=>by kernel_rfl) (λ_ _ _ _=>by kernel_rfl) (by kernel_rfl) h
theorem afy(h:U0 c F x0 x1 x2 s=some r):c 63 [x0,x1,x2] s=some (tidy s r):=hc.o0 F Zy (by kernel_rfl) (by kernel_rfl) h
theorem ael(h:Qo c F x0 x1 x2 s=some r):c 64 [x0,x1,x2] s=some (tidy s r):=hc.o0 F VU (by kernel_rfl) (by kernel_rfl) h
theorem afz(h:U6 c F x0 x1 x2 s=some r):c 65 [x0,x1,x2] s=some (tidy s r):=hc.o0 F ZA (by kernel_rfl) (by kernel_rfl) h
theorem aem(h:Qp c F x0 x1 x2 s=some r):c 66 [x0,x1,x2] s=some (tidy s r):=hc.o0 F VW (by kernel_rfl) (by kernel_rfl) h
theorem Xa(h:Eh c F x0 x1 s=some r):c 67 [x0,x1] s=some (tidy s r):=hc.oL F (Az c F) qi 3 (by kernel_rfl) (λi hi=>match i,hi with|0,_=>dc 0 (by kernel_rfl) (λ_ _ _=>by kernel_rfl) (λ_ _ _ _=>by kernel_rfl)|1,_=>dc 1 (by kernel_rfl) (λ_ _ _=>by kernel_rfl) (λ_ _ _ _=>by kernel_rfl)|2,_=>dc 2 (by kernel_rfl) (λ_ _ _=>by kernel_rfl) (λ_ _ _ _=>by kernel_rfl)|n+3,h=>absurd h (by omega)) (by kernel_rfl) h
theorem CR(h:uJ c F x0 x1 x2 s=some r):c 69 [x0,x1,x2] s=some (tidy s r):=hc.o0 F FM (by kernel_rfl) (by kernel_rfl) h
theorem FH(h:Ei c F x0 x1 x2 s=some r):c 70 [x0,x1,x2] s=some (tidy s r):=hc.o0 F Kn (by kernel_rfl) (by kernel_rfl) h
theorem It(h:n7 c F x0 x1 s=some r):c 73 [x0,x1] s=some (tidy s r):=hc.o0 F qH (by kernel_rfl) (by kernel_rfl) h
theorem o9(h:lO c F x0 s=some r):c 114 [x0] s=some (tidy s r):=hc.o0 F qj (by kernel_rfl) (by kernel_rfl) h
theorem zm(h:wQ c F x0 s=some r):c 115 [x0] s=some (tidy s r):=hc.o0 F Bt (by kernel_rfl) (by kernel_rfl) h
theorem pg(h:lQ c F x0 s=some r):c 116 [x0] s=some (tidy s r):=hc.o0 F qm (by kernel_rfl) (by kernel_rfl) h
theorem rF(h:oI c F x0 s=some r):c 118 [x0] s=some (tidy s r):=hc.o0 F tX (by kernel_rfl) (by kernel_rfl) h
theorem qe(h:nD c F x0 s=some r):c 119 [x0] s=some (tidy s r):=hc.o0 F rJ (by kernel_rfl) (by kernel_rfl) h
theorem RI(h:U7 c F x0 x1 s=some r):c 123 [x0,x1] s=some (tidy s r):=hc.o1 F (NU c F) NT (by kernel_rfl) (by kernel_rfl) (λ_ _ _=>by kernel_rfl) (λ_ _ _ _=>by kernel_rfl) (by kernel_rfl) h
theorem aen(h:Qq c F x0 s=some r):c 124 [x0] s=some (tidy s r):=hc.o1 F (JM c F) JL (by kernel_rfl) (by kernel_rfl) (λ_ _ _=>by kernel_rfl) (λ_ _ _ _=>by kernel_rfl) (by kernel_rfl) h
theorem ahf(h:ZD c F x0 x1 x2 s=some r):c 125 [x0,x1,x2] s=some (tidy s r):=hc.o0 F abI (by kernel_rfl) (by kernel_rfl) h
theorem aei(h:Qr c F x0 x1 x2 s=some r):c 126 [x0,x1,x2] s=some (tidy s r):=hc.o0 F V8 (by kernel_rfl) (by kernel_rfl) h
theorem aej(h:Qt c F x0 x1 x2 s=some r):c 127 [x0,x1,x2] s=some (tidy s r):=hc.o0 F Wc (by kernel_rfl) (by kernel_rfl) h
theorem FJ(h:Ek c F x0 x1 s=some r):c 132 [x0,x1] s=some (tidy s r):=hc.o0 F Ks (by kernel_rfl) (by kernel_rfl) h
theorem pM(h:mF c F x0 x1 s=some r):c 133 [x0,x1] s=some (tidy s r):=hc.o1 F (kX c F) kW (by kernel_rfl) (by kernel_rfl) (λ_ _ _=>by kernel_rfl) (λ_ _ _ _=>by kernel_rfl) (by kernel_rfl) h
theorem Oj(h:xU c F x0 x1 s=some r):c 134 [x0,x1] s=some (tidy s r):=hc.o0 F CW (by kernel_rfl) (by kernel_rfl) h
theorem Bj(h:nU c F x0 x1 s=some r):c 135 [x0,x1] s=some (tidy s r):=hc.o0 F sH (by kernel_rfl) (by kernel_rfl) h
theorem Nk(h:qI c F x0 x1 s=some r):c 138 [x0,x1] s=some (tidy s r):=hc.o1 F (oW c F) oV (by kernel_rfl) (by kernel_rfl) (λ_ _ _=>by kernel_rfl) (λ_ _ _ _=>by kernel_rfl) (by kernel_rfl) h
theorem afw(h:U8 c F x0 x1 s=some r):c 181 [x0,x1] s=some (tidy s r):=hc.oL F (NV c F) zo 3 (by kernel_rfl) (λi hi=>match i,hi with|0,_=>dc 0 (by kernel_rfl) (λ_ _ _=>by kernel_rfl) (λ_ _ _ _=>by kernel_rfl)|1,_=>dc 1 (by kernel_rfl) (λ_ _ _=>by kernel_rfl) (λ_ _ _ _=>by kernel_rfl)|2,_=>dc 2 (by kernel_rfl) (λ_ _ _=>by kernel_rfl) (λ_ _ _ _=>by kernel_rfl)|n+3,h=>absurd h (by omega)) (by kernel_rfl) h
theorem qh(h:nE c F x0 x1 s=some r):c 187 [x0,x1] s=some (tidy s r):=hc.o1 F (lS c F) lR (by kernel_rfl) (by kernel_rfl) (λ_ _ _=>by kernel_rfl) (λ_ _ _ _=>by kernel_rfl) (by kernel_rfl) h
theorem tS(h:pW c F x0 x1 s=some r):c 188 [x0,x1] s=some (tidy s r):=hc.o1 F (oK c F) oJ (by kernel_rfl) (by kernel_rfl) (λ_ _ _=>by kernel_rfl) (λ_ _ _ _=>by kernel_rfl) (by kernel_rfl) h
theorem UA(h:Cd c F x0 x1 x2 x3 s=some r):c 205 [x0,x1,x2,x3] s=some (tidy s r):=hc.o0 F IF (by kernel_rfl) (by kernel_rfl) h
theorem UB(h:Ce c F x0 x1 x2 x3 s=some r):c 206 [x0,x1,x2,x3] s=some (tidy s r):=hc.o0 F II (by kernel_rfl) (by kernel_rfl) h
theorem WZ(h:El c F x0 x1 s=some r):c 207 [x0,x1] s=some (tidy s r):=hc.o0 F Ku (by kernel_rfl) (by kernel_rfl) h
theorem WT(h:Em c F x0 x1 x2 x3 s=some r):c 210 [x0,x1,x2,x3] s=some (tidy s r):=hc.o0 F Kw (by kernel_rfl) (by kernel_rfl) h
theorem WU(h:Eo c F x0 x1 x2 x3 s=some r):c 211 [x0,x1,x2,x3] s=some (tidy s r):=hc.o0 F Kz (by kernel_rfl) (by kernel_rfl) h
theorem W6(h:Ep c F x0 x1 s=some r):c 212 [x0,x1] s=some (tidy s r):=hc.o0 F KB (by kernel_rfl) (by kernel_rfl) h
theorem WV(h:Er c F x0 x1 x2 x3 s=some r):c 215 [x0,x1,x2,x3] s=some (tidy s r):=hc.o0 F KD (by kernel_rfl) (by kernel_rfl) h
theorem WW(h:Es c F x0 x1 x2 x3 s=some r):c 216 [x0,x1,x2,x3] s=some (tidy s r):=hc.o0 F KF (by kernel_rfl) (by kernel_rfl) h
theorem W7(h:Eu c F x0 x1 s=some r):c 217 [x0,x1] s=some (tidy s r):=hc.o0 F KH (by kernel_rfl) (by kernel_rfl) h
theorem YP(h:Hl c F x0 x1 x2 x3 s=some r):c 220 [x0,x1,x2,x3] s=some (tidy s r):=hc.o0 F NW (by kernel_rfl) (by kernel_rfl) h
theorem WY(h:Ew c F x0 x1 x2 x3 s=some r):c 221 [x0,x1,x2,x3] s=some (tidy s r):=hc.o0 F KJ (by kernel_rfl) (by kernel_rfl) h
theorem W9(h:Ex c F x0 x1 s=some r):c 222 [x0,x1] s=some (tidy s r):=hc.o0 F KM (by kernel_rfl) (by kernel_rfl) h
theorem ahe(h:ZF c F x0 x1 x2 s=some r):c 224 [x0,x1,x2] s=some (tidy s r):=hc.o0 F abK (by kernel_rfl) (by kernel_rfl) h
theorem ajE(h:ac3 c F x0 x1 s=some r):c 238 [x0,x1] s=some (tidy s r):=hc.o0 F aew (by kernel_rfl) (by kernel_rfl) h
end
end
end Go.Proofs.YtgihekklfnjkiaaGreatDoor
