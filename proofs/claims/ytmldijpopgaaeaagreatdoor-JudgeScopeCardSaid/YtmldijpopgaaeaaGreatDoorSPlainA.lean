/- Functions, plainly. -/
import Derived.Test.YtmldijpopgaaeaaGreatDoorSWalk
set_option linter.all false
set_option maxRecDepth 100000
set_option maxHeartbeats 4000000
namespace Go.Proofs.YtmldijpopgaaeaaGreatDoor
noncomputable section
open Go Go.Ai Go.Proofs
def Qc:fc:=wq [(225,GN),(7,ZQ)]
def Sem(c:aj):Prop:=c=run Qc gg
def gA(f:Nat):dR:=yG gg f
abbrev PX(f:Nat)(s:Sh):={a:Tx // txF (gA f) s=a}
abbrev PL(f:Nat)(s:Sh)(i:Nat):={a:List Pos×Tx // txL (iK (gA f) s i)=a}
theorem Sem.o0{c:aj}(hc:Sem c)(F:Nat){f:FuncId}{args:List AV}{st:St}{r:AV×St}(s:Sh)(hk:(Ar (Qc f)&& !Ar (gg.get (key f))&&(fZ (gA f).code s).isEmpty)=true)
  {k:O2} (hd:Jy c F (aha []) (gA f) s args st=k) (h:k=some r):c f args st=some (tidy st r):=by
 subst hc;exact ala s hk hd h
theorem Sem.o1{c:aj}(hc:Sem c)(F:Nat){f:FuncId}{args:List AV}{st:St}{r:AV×St}(Ls:Un->List Q2->Nat->Q2)(s:Sh)(hk:(Ar (Qc f)&& !Ar (gg.get (key f))&&Nat.beq (fZ (gA f).code s).length 1)=true)
  (hs:(aeu (iK (gA f) s 0).2&&Nat.beq (lpJ (iK (gA f) s 0).2) 0)=true) (h0:∀K' vs st,ur Ls (gA f) s 0 K' 0 vs st=none)
  (h1:∀K' n vs st,ur Ls (gA f) s 0 K' (n+1) vs st=Q7 (den c F (ur Ls (gA f) s) (iK (gA f) s 0).1 (lpB (iK (gA f) s 0).2)) (lpI (iK (gA f) s 0).2) (lpO (iK (gA f) s 0).2) K' (ur Ls (gA f) s 0 K' n) vs st)
  {k:O2} (hd:Jy c F (ur Ls (gA f) s) (gA f) s args st=k) (h:k=some r):c f args st=some (tidy st r):=by
 subst hc;exact alb Ls s hk hs h0 h1 hd h
theorem Sem.oL{c:aj}(hc:Sem c)(F:Nat){f:FuncId}{args:List AV}{st:St}{r:AV×St}(Ls:Un->List Q2->Nat->Q2)(s:Sh)(n:Nat)(hk:(Ar (Qc f)&& !Ar (gg.get (key f))&&Nat.beq (fZ (gA f).code s).length n)=true)
  (hL:∀i,i<n->D0 c F (ur Ls (gA f) s) (iK (gA f) s i).1 (iK (gA f) s i).2) {k:O2} (hd:Jy c F (ur Ls (gA f) s) (gA f) s args st=k) (h:k=some r):c f args st=some (tidy st r):=by
 subst hc;exact aeD Ls s n hk hL hd h
end
noncomputable section
open Go Go.Ai Go.Proofs
attribute [local go_sem ↓] aY uK ev evX CW getLT Af PJ XK yE yF Mx H9 Ia Ib CX CY CZ C8 C9 Da Ic Ie Db Dc Dd De Df OE OG OH
attribute [local go_sem] aY uK ev
section
variable(c:aj)(F:Nat)(x0 x1 x2 x3 x4 x5 x6 x7 x8 x9 F6 Ng:AV)(s:St)
def Nh:Sh:=(sq sl (sq (sq sl (sq sl (sc (sq sl sl) sl))) (sq sl (sq (sq sl (sb (sp 0 [1,6,21,22,23] [(1,[2,3]),(2,[])] (sq sl (sq (sc sl sl) (sq (sb (sq sl (sq (sq sl (sq sl (sc (sq sl sl) sl))) (sq sl (sc (sq sl sl) sl))))) sl)))))) (sq sl sl)))))
def YS:PX 28 Nh:=⟨_,by conv=>lhs;reduce⟩
def Vq:PL 28 Nh 0:=⟨_,by conv=>lhs;reduce⟩
def xH(k1 k2:Q2):Nat->Q2
 |0,_,_=>none
 |n+1,vs,s=>eu c F aZ (xH k1 k2 n) [k1,k2] Vq.1 vs s
def Ex(k1 k2:Q2)(n:Nat)(vs:List AV)(s:St):=(by dsimp only[xH,Vq,go_sem,Int.reduceOfNat]:xH c F k1 k2 (n+1) vs s=_)
def Ni:Un->List Q2->Nat->Q2
 |.z,[k1,k2]=>xH c F k1 k2
 |_,_=>λ_=>fI
def UF:O2:=aY c F (Ni c F) YS.1 [x0] s
def Yw:=(by dsimp only[UF,YS, ↓Ni,go_sem,Int.reduceOfNat]:UF c F x0 s=_)
def YT:Sh:=(sq sl (sq sl sl))
def YU:PX 42 YT:=⟨_,by conv=>lhs;reduce⟩
def UG:O2:=aY c F aZ YU.1 [] s
def ajm:=(by dsimp only[UG,YU,go_sem,Int.reduceOfNat]:UG c F s=_)
def Nj:Sh:=(sq sl (sq (sq sl (sc (sq sl sl) sl)) (sq sl (sq (sq sl (sb (sp 0 [5,23,24,25] [(2,[5])] (sq sl (sq (sc sl sl) (sq (sb (sq sl sl)) sl)))))) (sq sl sl)))))
def YV:PX 43 Nj:=⟨_,by conv=>lhs;reduce⟩
def Vr:PL 43 Nj 0:=⟨_,by conv=>lhs;reduce⟩
def xG(k2:Q2):Nat->Q2
 |0,_,_=>none
 |n+1,vs,s=>eu c F aZ (xG k2 n) [k2] Vr.1 vs s
def Er(k2:Q2)(n:Nat)(vs:List AV)(s:St):=(by dsimp only[xG,Vr,go_sem,Int.reduceOfNat]:xG c F k2 (n+1) vs s=_)
def Nk:Un->List Q2->Nat->Q2
 |.z,[k2]=>xG c F k2
 |_,_=>λ_=>fI
def UH:O2:=aY c F (Nk c F) YV.1 [x0,x1] s
def Ys:=(by dsimp only[UH,YV, ↓Nk,go_sem,Int.reduceOfNat]:UH c F x0 x1 s=_)
def YW:Sh:=(sq sl (sq (sq sl (sc (sq sl sl) sl)) (sq sl sl)))
def YX:PX 44 YW:=⟨_,by conv=>lhs;reduce⟩
def UI:O2:=aY c F aZ YX.1 [x0] s
def ai8:=(by dsimp only[UI,YX,go_sem,Int.reduceOfNat]:UI c F x0 s=_)
def ED:Sh:=(sq sl (sq sl (sq (sq sl (sb (sp 0 [1,5,14,15,16] [(1,[2,3,4]),(2,[1,5])] (sq sl (sq (sc sl sl) (sq (sb (sq sl (sq sl (sq sl (sc (sq sl sl) sl))))) sl)))))) (sq (sq sl (sb (sp 1 [1,5,30,31,32] [(1,[2,3,4]),(4,[5])] (sq sl (sq (sc sl sl) (sj [1,5,30,31,32] (sb (sq sl (sq sl (sj [1,5,9,11,30,31,32] (sq sl (sc sl sl)) (sq sl (sc (sq sl sl) sl)))))) sl)))))) (sq sl sl)))))
def YY:PX 53 ED:=⟨_,by conv=>lhs;reduce⟩
def Vt:PL 53 ED 1:=⟨_,by conv=>lhs;reduce⟩
def nS(k1 k4:Q2):Nat->Q2
 |0,_,_=>none
 |n+1,vs,s=>eu c F aZ (nS k1 k4 n) [k1,k4] Vt.1 vs s
def yN(k1 k4:Q2)(n:Nat)(vs:List AV)(s:St):=(by dsimp only[nS,Vt,go_sem,Int.reduceOfNat]:nS c F k1 k4 (n+1) vs s=_)
def Vu:PL 53 ED 0:=⟨_,by conv=>lhs;reduce⟩
def lz(k1 k2:Q2):Nat->Q2
 |0,_,_=>none
 |n+1,vs,s=>eu c F aZ (lz k1 k2 n) [k1,k2] Vu.1 vs s
def yM(k1 k2:Q2)(n:Nat)(vs:List AV)(s:St):=(by dsimp only[lz,Vu,go_sem,Int.reduceOfNat]:lz c F k1 k2 (n+1) vs s=_)
def Nl:Un->List Q2->Nat->Q2
 |.z,[k1,k2]=>lz c F k1 k2
 |(.s .z),[k1,k4]=>nS c F k1 k4
 |_,_=>λ_=>fI
def Ew:O2:=aY c F (Nl c F) YY.1 [x0] s
def ajf:=(by dsimp only[Ew,YY, ↓Nl,go_sem,Int.reduceOfNat]:Ew c F x0 s=_)
def Nn:Sh:=(sq sl (sq (sq sl (sq sl (sc (sq sl sl) sl))) (sq (sq sl (sq sl (sc (sq sl sl) sl))) (sq (sq sl (sc (sq sl sl) sl)) (sq (sq sl (sb (sp 0 [1,47,48,49] [(1,[2,3]),(2,[1])] (sq sl (sq (sc sl sl) (sq (sb (sq sl (sq sl (sc (sq sl sl) sl)))) sl)))))) (sq (sq sl (sc (sq sl sl) sl)) (sq sl sl)))))))
def YZ:PX 62 Nn:=⟨_,by conv=>lhs;reduce⟩
def Vv:PL 62 Nn 0:=⟨_,by conv=>lhs;reduce⟩
def tq(k1 k2:Q2):Nat->Q2
 |0,_,_=>none
 |n+1,vs,s=>eu c F aZ (tq k1 k2 n) [k1,k2] Vv.1 vs s
def OT(k1 k2:Q2)(n:Nat)(vs:List AV)(s:St):=(by dsimp only[tq,Vv,go_sem,Int.reduceOfNat]:tq c F k1 k2 (n+1) vs s=_)
def Np:Un->List Q2->Nat->Q2
 |.z,[k1,k2]=>tq c F k1 k2
 |_,_=>λ_=>fI
def UJ:O2:=aY c F (Np c F) YZ.1 [x0] s
def ajh:=(by dsimp only[UJ,YZ, ↓Np,go_sem,Int.reduceOfNat]:UJ c F x0 s=_)
def J9:Sh:=(sq sl (sj [3,4,5] (sb (sq sl (sc (sq sl sl) (sq sl (sc (sq sl sl) (sq sl (sc (sq sl sl) (sj [3,4,5,28] (sq sl (sc sl (sq sl (sc sl sl)))) (sc (sq sl sl) (sq sl (sc (sq sl sl) (sq sl (sc (sq sl sl) sl))))))))))))) (sq sl (sq (sq sl (sc (sq sl sl) sl)) (sq sl (sj [3,5,9] (sq sl (sc sl sl)) (sq (sq sl (sc (sq sl sl) sl)) (sq sl sl))))))))
def Ka:PX 63 J9:=⟨_,by conv=>lhs;reduce⟩
def EE:O2:=aY c F aZ Ka.1 [x0,x1,x2] s
def aaE:=(by dsimp only[EE,Ka,go_sem,Int.reduceOfNat]:EE c F x0 x1 x2 s=_)
def vC:Sh:=(sq sl (sq (sq sl (sc (sq sl sl) sl)) (sq sl sl)))
def vD:PX 74 vC:=⟨_,by conv=>lhs;reduce⟩
def qd:O2:=aY c F aZ vD.1 [x0] s
def j6:=(by dsimp only[qd,vD,go_sem,Int.reduceOfNat]:qd c F x0 s=_)
def Y0:Sh:=(sq sl (sq sl (sq sl sl)))
def Y3:PX 95 Y0:=⟨_,by conv=>lhs;reduce⟩
def UK:O2:=aY c F aZ Y3.1 [x0] s
def ai6:=(by dsimp only[UK,Y3,go_sem,Int.reduceOfNat]:UK c F x0 s=_)
def aba:Sh:=(sq sl (sq sl (sq (sq sl (sc (sq sl sl) sl)) (sq sl sl))))
def abb:PX 96 aba:=⟨_,by conv=>lhs;reduce⟩
def Y4:O2:=aY c F aZ abb.1 [x0] s
def akn:=(by dsimp only[Y4,abb,go_sem,Int.reduceOfNat]:Y4 c F x0 s=_)
def O9:Sh:=(sq sl (sq (sq sl (sc (sq sl sl) sl)) (sq sl sl)))
def Pa:PX 97 O9:=⟨_,by conv=>lhs;reduce⟩
def JJ:O2:=aY c F aZ Pa.1 [x0] s
def adL:=(by dsimp only[JJ,Pa,go_sem,Int.reduceOfNat]:JJ c F x0 s=_)
def abc:Sh:=(sq sl (sq sl sl))
def abd:PX 103 abc:=⟨_,by conv=>lhs;reduce⟩
def Y5:O2:=aY c F aZ abd.1 [] s
def aks:=(by dsimp only[Y5,abd,go_sem,Int.reduceOfNat]:Y5 c F s=_)
def Nq:Sh:=(sq sl (sq (sq sl (sc (sq sl sl) sl)) (sq (sq sl (sq sl (sc (sq sl sl) sl))) (sq (sq sl (sq sl (sc (sq sl sl) sl))) (sq (sq sl (sc (sq sl sl) sl)) (sq sl (sq sl (sq sl sl))))))))
def Nr:PX 104 Nq:=⟨_,by conv=>lhs;reduce⟩
def Ak:O2:=aY c F aZ Nr.1 [x0,x1] s
def wJ:=(by dsimp only[Ak,Nr,go_sem,Int.reduceOfNat]:Ak c F x0 x1 s=_)
def Vx:Sh:=(sq sl (sq (sq sl (sq sl (sc (sq sl sl) sl))) (sq sl sl)))
def Vy:PX 105 Vx:=⟨_,by conv=>lhs;reduce⟩
def Qj:O2:=aY c F aZ Vy.1 [x0,x1] s
def agN:=(by dsimp only[Qj,Vy,go_sem,Int.reduceOfNat]:Qj c F x0 x1 s=_)
def Cm:Sh:=(sq sl (sq (sq sl (sc (sq sl sl) sl)) (sq (sq sl (sc (sq sl sl) sl)) (sq (sq sl (sb (sp 0 [0,1,2,3,30,31,32] [(1,[8]),(2,[0,1,2,3])] (sq sl (sq (sc sl sl) (sq (sb (sq sl (sq sl (sq sl (sc (sq sl sl) sl))))) sl)))))) (sq sl (sq (sq sl (sc (sq sl sl) sl)) (sq (sq sl (sc (sq sl sl) sl)) (sq sl (sq sl sl)))))))))
def Ns:PX 106 Cm:=⟨_,by conv=>lhs;reduce⟩
def Kb:PL 106 Cm 0:=⟨_,by conv=>lhs;reduce⟩
def nP(k1 k2:Q2):Nat->Q2
 |0,_,_=>none
 |n+1,vs,s=>eu c F aZ (nP k1 k2 n) [k1,k2] Kb.1 vs s
def yd(k1 k2:Q2)(n:Nat)(vs:List AV)(s:St):=(by dsimp only[nP,Kb,go_sem,Int.reduceOfNat]:nP c F k1 k2 (n+1) vs s=_)
def Cn:Un->List Q2->Nat->Q2
 |.z,[k1,k2]=>nP c F k1 k2
 |_,_=>λ_=>fI
def Al:O2:=aY c F (Cn c F) Ns.1 [x0,x1,x2,x3] s
def wK:=(by dsimp only[Al,Ns, ↓Cn,go_sem,Int.reduceOfNat]:Al c F x0 x1 x2 x3 s=_)
def Kc:Sh:=(sq sl (sq sl sl))
def Ke:PX 111 Kc:=⟨_,by conv=>lhs;reduce⟩
def EF:O2:=aY c F aZ Ke.1 [x0] s
def aaB:=(by dsimp only[EF,Ke,go_sem,Int.reduceOfNat]:EF c F x0 s=_)
def ID:Sh:=(sq sl (sq sl sl))
def IE:PX 112 ID:=⟨_,by conv=>lhs;reduce⟩
def Co:O2:=aY c F aZ IE.1 [x0,x1,x2] s
def Iu:=(by dsimp only[Co,IE,go_sem,Int.reduceOfNat]:Co c F x0 x1 x2 s=_)
def EG:Sh:=(sq sl (sq (sq sl (sc (sq sl sl) sl)) (sq (sq sl (sb (sp 0 [0,10,11,12] [(1,[2,3]),(2,[])] (sq sl (sq (sc sl sl) (sq (sb (sq sl (sq (sq sl (sq sl (sc (sq sl sl) sl))) (sq sl (sc (sq sl sl) sl))))) sl)))))) (sq sl sl))))
def Pb:PX 121 EG:=⟨_,by conv=>lhs;reduce⟩
def Nt:PL 121 EG 0:=⟨_,by conv=>lhs;reduce⟩
def rF(k1 k2:Q2):Nat->Q2
 |0,_,_=>none
 |n+1,vs,s=>eu c F aZ (rF k1 k2 n) [k1,k2] Nt.1 vs s
def zI(k1 k2:Q2)(n:Nat)(vs:List AV)(s:St):=(by dsimp only[rF,Nt,go_sem,Int.reduceOfNat]:rF c F k1 k2 (n+1) vs s=_)
def EH:Un->List Q2->Nat->Q2
 |.z,[k1,k2]=>rF c F k1 k2
 |_,_=>λ_=>fI
def JK:O2:=aY c F (EH c F) Pb.1 [x0] s
def OR:=(by dsimp only[JK,Pb, ↓EH,go_sem,Int.reduceOfNat]:JK c F x0 s=_)
def Kf:Sh:=(sq sl (sq sl (sq sl sl)))
def Kg:PX 122 Kf:=⟨_,by conv=>lhs;reduce⟩
def EI:O2:=aY c F aZ Kg.1 [x0] s
def aaC:=(by dsimp only[EI,Kg,go_sem,Int.reduceOfNat]:EI c F x0 s=_)
def Kh:Sh:=(sq sl (sq sl sl))
def Ki:PX 123 Kh:=⟨_,by conv=>lhs;reduce⟩
def EJ:O2:=aY c F aZ Ki.1 [x0,x1] s
def aaD:=(by dsimp only[EJ,Ki,go_sem,Int.reduceOfNat]:EJ c F x0 x1 s=_)
def ad4:Sh:=(sq sl (sq sl sl))
def ad5:PX 124 ad4:=⟨_,by conv=>lhs;reduce⟩
def acB:O2:=aY c F aZ ad5.1 [x0,x1] s
def am3:=(by dsimp only[acB,ad5,go_sem,Int.reduceOfNat]:acB c F x0 x1 s=_)
def Qk:Sh:=(sq sl (sq (sq sl (sc (sq sl sl) sl)) (sq (sq sl (sb (sp 0 [0,13,14] [(1,[2]),(2,[])] (sq sl (sq (sc sl sl) (sq (sb (sq sl (sq sl (sc (sq sl sl) sl)))) sl)))))) (sq sl sl))))
def abe:PX 125 Qk:=⟨_,by conv=>lhs;reduce⟩
def Y6:PL 125 Qk 0:=⟨_,by conv=>lhs;reduce⟩
def vk(k1 k2:Q2):Nat->Q2
 |0,_,_=>none
 |n+1,vs,s=>eu c F aZ (vk k1 k2 n) [k1,k2] Y6.1 vs s
def Ry(k1 k2:Q2)(n:Nat)(vs:List AV)(s:St):=(by dsimp only[vk,Y6,go_sem,Int.reduceOfNat]:vk c F k1 k2 (n+1) vs s=_)
def Ql:Un->List Q2->Nat->Q2
 |.z,[k1,k2]=>vk c F k1 k2
 |_,_=>λ_=>fI
def Y7:O2:=aY c F (Ql c F) abe.1 [x0] s
def ako:=(by dsimp only[Y7,abe, ↓Ql,go_sem,Int.reduceOfNat]:Y7 c F x0 s=_)
def abf:Sh:=(sq sl (sq sl (sq (sq sl (sc (sq sl sl) sl)) (sq sl sl))))
def abg:PX 126 abf:=⟨_,by conv=>lhs;reduce⟩
def Y8:O2:=aY c F aZ abg.1 [x0,x1] s
def akr:=(by dsimp only[Y8,abg,go_sem,Int.reduceOfNat]:Y8 c F x0 x1 s=_)
def Pc:Sh:=(sq sl (sq (sq sl (sb (sq sl (sc (sq sl sl) (sq sl (sc (sq sl sl) (sq sl (sc (sq sl sl) (sq sl (sc (sq sl sl) sl)))))))))) (sq sl sl)))
def Pe:PX 152 Pc:=⟨_,by conv=>lhs;reduce⟩
def JL:O2:=aY c F aZ Pe.1 [x0] s
def adE:=(by dsimp only[JL,Pe,go_sem,Int.reduceOfNat]:JL c F x0 s=_)
def JM:Sh:=(sq sl (sq (sb (sq sl (sc (sq sl sl) (sq sl (sc (sq sl sl) (sq sl (sc (sq sl sl) (sq sl (sc (sq sl sl) sl))))))))) (sq (sq sl (sb (sp 0 [1,52,53,54] [(1,[2]),(3,[])] (sq sl (sq (sc sl sl) (sq (sb (sq sl (sq sl (sc (sq sl sl) sl)))) sl)))))) (sq sl sl))))
def Vz:PX 154 JM:=⟨_,by conv=>lhs;reduce⟩
def Sa:PL 154 JM 0:=⟨_,by conv=>lhs;reduce⟩
def qV(k1 k3:Q2):Nat->Q2
 |0,_,_=>none
 |n+1,vs,s=>eu c F aZ (qV k1 k3 n) [k1,k3] Sa.1 vs s
def MR(k1 k3:Q2)(n:Nat)(vs:List AV)(s:St):=(by dsimp only[qV,Sa,go_sem,Int.reduceOfNat]:qV c F k1 k3 (n+1) vs s=_)
def JN:Un->List Q2->Nat->Q2
 |.z,[k1,k3]=>qV c F k1 k3
 |_,_=>λ_=>fI
def Qm:O2:=aY c F (JN c F) Vz.1 [x0] s
def agM:=(by dsimp only[Qm,Vz, ↓JN,go_sem,Int.reduceOfNat]:Qm c F x0 s=_)
def Sb:Sh:=(sq sl (sq sl (sq sl sl)))
def Sc:PX 155 Sb:=⟨_,by conv=>lhs;reduce⟩
def Nu:O2:=aY c F aZ Sc.1 [x0] s
def ae7:=(by dsimp only[Nu,Sc,go_sem,Int.reduceOfNat]:Nu c F x0 s=_)
def Kj:Sh:=(sq sl (sq sl sl))
def Kk:PX 156 Kj:=⟨_,by conv=>lhs;reduce⟩
def strings_Compare:O2:=aY c F aZ Kk.1 [x0,x1] s
def aaA:=(by dsimp only[strings_Compare,Kk,go_sem,Int.reduceOfNat]:strings_Compare c F x0 x1 s=_)
def sJ:Sh:=(sq sl (sq sl (sq sl (sq (sq sl (sc (sq sl sl) sl)) (sq sl (sq (sq sl (sc (sq sl sl) sl)) (sq (sq sl (sc (sq sl (sq sl (sq sl (sq sl sl)))) sl)) (sq sl (sq (sq sl (sc (sq sl (sq sl (sq sl sl))) sl)) (sq sl (sq sl (sq sl sl))))))))))))
def sK:PX 157 sJ:=⟨_,by conv=>lhs;reduce⟩
def nX:O2:=aY c F aZ sK.1 [x0,x1,x2] s
def DB:=(by dsimp only[nX,sK,go_sem,Int.reduceOfNat]:nX c F x0 x1 x2 s=_)
def Y9:Sh:=(sq sl (sq sl sl))
def Za:PX 158 Y9:=⟨_,by conv=>lhs;reduce⟩
def UL:O2:=aY c F aZ Za.1 [x0,x1,x2] s
def Yu:=(by dsimp only[UL,Za,go_sem,Int.reduceOfNat]:UL c F x0 x1 x2 s=_)
def fE:Sh:=(sq sl (sq sl (sq sl (sq (sb (sp 0 [0,2,4,8,9,10] [(2,[0,2,4,8,9])] (sq (sq sl (sc sl sl)) (sb (sq sl (sq sl (sc sl sl))))))) (sq sl sl)))))
def jG:PX 161 fE:=⟨_,by conv=>lhs;reduce⟩
def jy:PL 161 fE 0:=⟨_,by conv=>lhs;reduce⟩
def bn(k2:Q2):Nat->Q2
 |0,_,_=>none
 |n+1,vs,s=>eu c F aZ (bn k2 n) [k2] jy.1 vs s
def eV(k2:Q2)(n:Nat)(vs:List AV)(s:St):=(by dsimp only[bn,jy,go_sem,Int.reduceOfNat]:bn c F k2 (n+1) vs s=_)
def fG:Un->List Q2->Nat->Q2
 |.z,[k2]=>bn c F k2
 |_,_=>λ_=>fI
def fR:O2:=aY c F (fG c F) jG.1 [x0,x1,x2] s
def qW:=(by dsimp only[fR,jG, ↓fG,go_sem,Int.reduceOfNat]:fR c F x0 x1 x2 s=_)
def Nw:Sh:=(sq sl (sq sl (sq sl (sq (sb (sq sl (sc (sq sl sl) (sq sl (sc (sq sl sl) sl))))) (sq (sq sl (sb (sp 0 [1,3,4,18,19,20] [(1,[2]),(3,[1])] (sq sl (sq (sc sl sl) (sq (sb (sq sl (sq (sq sl (sc (sq sl sl) sl)) sl))) sl)))))) (sq (sq sl (sc (sq sl sl) sl)) (sq sl sl)))))))
def Zb:PX 169 Nw:=⟨_,by conv=>lhs;reduce⟩
def VC:PL 169 Nw 0:=⟨_,by conv=>lhs;reduce⟩
def tj(k1 k3:Q2):Nat->Q2
 |0,_,_=>none
 |n+1,vs,s=>eu c F aZ (tj k1 k3 n) [k1,k3] VC.1 vs s
def OQ(k1 k3:Q2)(n:Nat)(vs:List AV)(s:St):=(by dsimp only[tj,VC,go_sem,Int.reduceOfNat,Int.reduceNegSucc]:tj c F k1 k3 (n+1) vs s=_)
def Nx:Un->List Q2->Nat->Q2
 |.z,[k1,k3]=>tj c F k1 k3
 |_,_=>λ_=>fI
def UM:O2:=aY c F (Nx c F) Zb.1 [x0] s
def ai3:=(by dsimp only[UM,Zb, ↓Nx,go_sem,Int.reduceOfNat,Int.reduceNegSucc]:UM c F x0 s=_)
def mR:Sh:=(sq sl (sq sl sl))
def mS:PX 170 mR:=⟨_,by conv=>lhs;reduce⟩
def iW:O2:=aY c F aZ mS.1 [x0,x1] s
def vL:=(by dsimp only[iW,mS,go_sem,Int.reduceOfNat]:iW c F x0 x1 s=_)
def Kl:Sh:=(sq sl (sq sl sl))
def Km:PX 171 Kl:=⟨_,by conv=>lhs;reduce⟩
def EK:O2:=aY c F aZ Km.1 [x0,x1] s
def aay:=(by dsimp only[EK,Km,go_sem,Int.reduceOfNat]:EK c F x0 x1 s=_)
def jk:Sh:=(sq sl (sq (sq sl (sb (sp 0 [0,1,7,8] [(1,[4]),(2,[])] (sq sl (sq (sc sl sl) (sq (sb (sq sl (sq sl (sc (sq sl sl) sl)))) sl)))))) (sq sl sl)))
def oG:PX 172 jk:=⟨_,by conv=>lhs;reduce⟩
def nU:PL 172 jk 0:=⟨_,by conv=>lhs;reduce⟩
def dh(k1 k2:Q2):Nat->Q2
 |0,_,_=>none
 |n+1,vs,s=>eu c F aZ (dh k1 k2 n) [k1,k2] nU.1 vs s
def mQ(k1 k2:Q2)(n:Nat)(vs:List AV)(s:St):=(by dsimp only[dh,nU,go_sem,Int.reduceOfNat,Int.reduceNegSucc]:dh c F k1 k2 (n+1) vs s=_)
def jq:Un->List Q2->Nat->Q2
 |.z,[k1,k2]=>dh c F k1 k2
 |_,_=>λ_=>fI
def jU:O2:=aY c F (jq c F) oG.1 [x0,x1] s
def ye:=(by dsimp only[jU,oG, ↓jq,go_sem,Int.reduceOfNat,Int.reduceNegSucc]:jU c F x0 x1 s=_)
def Zc:Sh:=(sq sl (sq sl sl))
def Zd:PX 173 Zc:=⟨_,by conv=>lhs;reduce⟩
def UN:O2:=aY c F aZ Zd.1 [x0,x1] s
def aji:=(by dsimp only[UN,Zd,go_sem,Int.reduceOfNat]:UN c F x0 x1 s=_)
def jr:Sh:=(sq sl (sq (sq sl (sb (sp 0 [0,1,7,8] [(1,[4]),(2,[])] (sq sl (sq (sc sl sl) (sq (sb (sq sl (sq sl (sc (sq sl sl) sl)))) sl)))))) (sq sl sl)))
def oH:PX 174 jr:=⟨_,by conv=>lhs;reduce⟩
def nW:PL 174 jr 0:=⟨_,by conv=>lhs;reduce⟩
def dc(k1 k2:Q2):Nat->Q2
 |0,_,_=>none
 |n+1,vs,s=>eu c F aZ (dc k1 k2 n) [k1,k2] nW.1 vs s
def mP(k1 k2:Q2)(n:Nat)(vs:List AV)(s:St):=(by dsimp only[dc,nW,go_sem,Int.reduceOfNat,Int.reduceNegSucc]:dc c F k1 k2 (n+1) vs s=_)
def js:Un->List Q2->Nat->Q2
 |.z,[k1,k2]=>dc c F k1 k2
 |_,_=>λ_=>fI
def jV:O2:=aY c F (js c F) oH.1 [x0,x1] s
def yc:=(by dsimp only[jV,oH, ↓js,go_sem,Int.reduceOfNat,Int.reduceNegSucc]:jV c F x0 x1 s=_)
def VD:Sh:=(sq sl (sq sl sl))
def VE:PX 175 VD:=⟨_,by conv=>lhs;reduce⟩
def Qn:O2:=aY c F aZ VE.1 [x0,x1] s
def agJ:=(by dsimp only[Qn,VE,go_sem,Int.reduceOfNat]:Qn c F x0 x1 s=_)
def Kn:Sh:=(sq sl (sq (sq sl (sc (sq sl sl) sl)) (sq sl sl)))
def Ko:PX 182 Kn:=⟨_,by conv=>lhs;reduce⟩
def EL:O2:=aY c F aZ Ko.1 [x0,x1] s
def aav:=(by dsimp only[EL,Ko,go_sem,Int.reduceOfNat]:EL c F x0 x1 s=_)
def Ny:Sh:=(sq sl (sq (sq sl (sc (sq sl sl) sl)) (sq sl sl)))
def Nz:PX 187 Ny:=⟨_,by conv=>lhs;reduce⟩
def Hu:O2:=aY c F aZ Nz.1 [x0,x1] s
def ack:=(by dsimp only[Hu,Nz,go_sem,Int.reduceOfNat]:Hu c F x0 x1 s=_)
def NA:Sh:=(sq sl (sq (sq sl (sc (sq sl sl) sl)) (sq sl sl)))
def NB:PX 192 NA:=⟨_,by conv=>lhs;reduce⟩
def Hv:O2:=aY c F aZ NB.1 [x0,x1] s
def acm:=(by dsimp only[Hv,NB,go_sem,Int.reduceOfNat]:Hv c F x0 x1 s=_)
def Pg:Sh:=(sq sl (sq (sq sl (sc (sq sl sl) sl)) (sq sl sl)))
def Ph:PX 197 Pg:=⟨_,by conv=>lhs;reduce⟩
def JO:O2:=aY c F aZ Ph.1 [x0,x1] s
def adD:=(by dsimp only[JO,Ph,go_sem,Int.reduceOfNat]:JO c F x0 x1 s=_)
def NC:Sh:=(sq sl (sq (sq sl (sc (sq sl sl) sl)) (sq (sq sl (sb (sp 0 [0,13,14] [(1,[2]),(2,[])] (sq sl (sq (sc sl sl) (sq (sb (sq sl (sq sl (sc (sq sl sl) sl)))) sl)))))) (sq sl sl))))
def Ze:PX 203 NC:=⟨_,by conv=>lhs;reduce⟩
def VF:PL 203 NC 0:=⟨_,by conv=>lhs;reduce⟩
def th(k1 k2:Q2):Nat->Q2
 |0,_,_=>none
 |n+1,vs,s=>eu c F aZ (th k1 k2 n) [k1,k2] VF.1 vs s
def OP(k1 k2:Q2)(n:Nat)(vs:List AV)(s:St):=(by dsimp only[th,VF,go_sem,Int.reduceOfNat]:th c F k1 k2 (n+1) vs s=_)
def ND:Un->List Q2->Nat->Q2
 |.z,[k1,k2]=>th c F k1 k2
 |_,_=>λ_=>fI
def UO:O2:=aY c F (ND c F) Ze.1 [x0] s
def aiZ:=(by dsimp only[UO,Ze, ↓ND,go_sem,Int.reduceOfNat]:UO c F x0 s=_)
def Zf:Sh:=(sq sl (sq sl sl))
def Zg:PX 204 Zf:=⟨_,by conv=>lhs;reduce⟩
def UP:O2:=aY c F aZ Zg.1 [x0] s
def ai2:=(by dsimp only[UP,Zg,go_sem,Int.reduceOfNat]:UP c F x0 s=_)
def Ay:Sh:=(sq sl (sq sl sl))
def Az:PX 205 Ay:=⟨_,by conv=>lhs;reduce⟩
def bytealg_CompareString:O2:=aY c F aZ Az.1 [x0,x1] s
def N9:=(by dsimp only[bytealg_CompareString,Az,go_sem,Int.reduceOfNat]:bytealg_CompareString c F x0 x1 s=_)
def Qo:Sh:=(sq sl (sq (sq sl (sb (sp 0 [0,3] [(1,[2]),(2,[0])] (sq (sq sl (sc sl sl)) (sq (sb (sq sl (sc (sq sl sl) sl))) sl))))) (sq sl sl)))
def abh:PX 213 Qo:=⟨_,by conv=>lhs;reduce⟩
def Zh:PL 213 Qo 0:=⟨_,by conv=>lhs;reduce⟩
def vn(k1 k2:Q2):Nat->Q2
 |0,_,_=>none
 |n+1,vs,s=>eu c F aZ (vn k1 k2 n) [k1,k2] Zh.1 vs s
def Rz(k1 k2:Q2)(n:Nat)(vs:List AV)(s:St):=(by dsimp only[vn,Zh,go_sem,Int.reduceOfNat]:vn c F k1 k2 (n+1) vs s=_)
def Qp:Un->List Q2->Nat->Q2
 |.z,[k1,k2]=>vn c F k1 k2
 |_,_=>λ_=>fI
def Zi:O2:=aY c F (Qp c F) abh.1 [x0] s
def akp:=(by dsimp only[Zi,abh, ↓Qp,go_sem,Int.reduceOfNat]:Zi c F x0 s=_)
end
section
variable{c:aj}(hc:Sem c)(F:Nat){x0 x1 x2 x3 x4 x5 x6 x7 x8 x9 F6 Ng:AV}{s:St}{r:AV×St}
include hc
theorem RH(h:UF c F x0 s=some r):c 28 [x0] s=some (tidy s r):=hc.o1 F (Ni c F) Nh (by kernel_rfl) (by kernel_rfl) (λ_ _ _=>by kernel_rfl) (λ_ _ _ _=>by kernel_rfl) (by kernel_rfl) h
theorem afc(h:UG c F s=some r):c 42 [] s=some (tidy s r):=hc.o0 F YT (by kernel_rfl) (by kernel_rfl) h
theorem RA(h:UH c F x0 x1 s=some r):c 43 [x0,x1] s=some (tidy s r):=hc.o1 F (Nk c F) Nj (by kernel_rfl) (by kernel_rfl) (λ_ _ _=>by kernel_rfl) (λ_ _ _ _=>by kernel_rfl) (by kernel_rfl) h
theorem ae4(h:UI c F x0 s=some r):c 44 [x0] s=some (tidy s r):=hc.o0 F YW (by kernel_rfl) (by kernel_rfl) h
theorem ae9(h:Ew c F x0 s=some r):c 53 [x0] s=some (tidy s r):=hc.oL F (Nl c F) ED 2 (by kernel_rfl) (λi hi=>match i,hi with|0,_=>cW 0 (by kernel_rfl) (λ_ _ _=>by kernel_rfl) (λ_ _ _ _=>by kernel_rfl)|1,_=>cW 1 (by kernel_rfl) (λ_ _ _=>by kernel_rfl) (λ_ _ _ _=>by kernel_rfl)|n+2,h=>absurd h (by omega)) (by kernel_rfl) h
theorem afa(h:UJ c F x0 s=some r):c 62 [x0] s=some (tidy s r):=hc.o1 F (Np c F) Nn (by kernel_rfl) (by kernel_rfl) (λ_ _ _=>by kernel_rfl) (λ_ _ _ _=>by kernel_rfl) (by kernel_rfl) h
theorem Ww(h:EE c F x0 x1 x2 s=some r):c 63 [x0,x1,x2] s=some (tidy s r):=hc.o0 F J9 (by kernel_rfl) (by kernel_rfl) h
theorem jx(h:qd c F x0 s=some r):c 74 [x0] s=some (tidy s r):=hc.o0 F vC (by kernel_rfl) (by kernel_rfl) h
theorem ae3(h:UK c F x0 s=some r):c 95 [x0] s=some (tidy s r):=hc.o0 F Y0 (by kernel_rfl) (by kernel_rfl) h
theorem agG(h:Y4 c F x0 s=some r):c 96 [x0] s=some (tidy s r):=hc.o0 F aba (by kernel_rfl) (by kernel_rfl) h
theorem aaz(h:JJ c F x0 s=some r):c 97 [x0] s=some (tidy s r):=hc.o0 F O9 (by kernel_rfl) (by kernel_rfl) h
theorem agO(h:Y5 c F s=some r):c 103 [] s=some (tidy s r):=hc.o0 F abc (by kernel_rfl) (by kernel_rfl) h
theorem It(h:Ak c F x0 x1 s=some r):c 104 [x0,x1] s=some (tidy s r):=hc.o0 F Nq (by kernel_rfl) (by kernel_rfl) h
theorem adO(h:Qj c F x0 x1 s=some r):c 105 [x0,x1] s=some (tidy s r):=hc.o0 F Vx (by kernel_rfl) (by kernel_rfl) h
theorem zL(h:Al c F x0 x1 x2 x3 s=some r):c 106 [x0,x1,x2,x3] s=some (tidy s r):=hc.o1 F (Cn c F) Cm (by kernel_rfl) (by kernel_rfl) (λ_ _ _=>by kernel_rfl) (λ_ _ _ _=>by kernel_rfl) (by kernel_rfl) h
theorem Wt(h:EF c F x0 s=some r):c 111 [x0] s=some (tidy s r):=hc.o0 F Kc (by kernel_rfl) (by kernel_rfl) h
theorem Eu(h:Co c F x0 x1 x2 s=some r):c 112 [x0,x1,x2] s=some (tidy s r):=hc.o0 F ID (by kernel_rfl) (by kernel_rfl) h
theorem J5(h:JK c F x0 s=some r):c 121 [x0] s=some (tidy s r):=hc.o1 F (EH c F) EG (by kernel_rfl) (by kernel_rfl) (λ_ _ _=>by kernel_rfl) (λ_ _ _ _=>by kernel_rfl) (by kernel_rfl) h
theorem Wu(h:EI c F x0 s=some r):c 122 [x0] s=some (tidy s r):=hc.o0 F Kf (by kernel_rfl) (by kernel_rfl) h
theorem Wv(h:EJ c F x0 x1 s=some r):c 123 [x0,x1] s=some (tidy s r):=hc.o0 F Kh (by kernel_rfl) (by kernel_rfl) h
theorem ajj(h:acB c F x0 x1 s=some r):c 124 [x0,x1] s=some (tidy s r):=hc.o0 F ad4 (by kernel_rfl) (by kernel_rfl) h
theorem agH(h:Y7 c F x0 s=some r):c 125 [x0] s=some (tidy s r):=hc.o1 F (Ql c F) Qk (by kernel_rfl) (by kernel_rfl) (λ_ _ _=>by kernel_rfl) (λ_ _ _ _=>by kernel_rfl) (by kernel_rfl) h
theorem agL(h:Y8 c F x0 x1 s=some r):c 126 [x0,x1] s=some (tidy s r):=hc.o0 F abf (by kernel_rfl) (by kernel_rfl) h
theorem aax(h:JL c F x0 s=some r):c 152 [x0] s=some (tidy s r):=hc.o0 F Pc (by kernel_rfl) (by kernel_rfl) h
theorem adM(h:Qm c F x0 s=some r):c 154 [x0] s=some (tidy s r):=hc.o1 F (JN c F) JM (by kernel_rfl) (by kernel_rfl) (λ_ _ _=>by kernel_rfl) (λ_ _ _ _=>by kernel_rfl) (by kernel_rfl) h
theorem acp(h:Nu c F x0 s=some r):c 155 [x0] s=some (tidy s r):=hc.o0 F Sb (by kernel_rfl) (by kernel_rfl) h
theorem Ws(h:strings_Compare c F x0 x1 s=some r):c 156 [x0,x1] s=some (tidy s r):=hc.o0 F Kj (by kernel_rfl) (by kernel_rfl) h
theorem Br(h:nX c F x0 x1 x2 s=some r):c 157 [x0,x1,x2] s=some (tidy s r):=hc.o0 F sJ (by kernel_rfl) (by kernel_rfl) h
theorem RD(h:UL c F x0 x1 x2 s=some r):c 158 [x0,x1,x2] s=some (tidy s r):=hc.o0 F Y9 (by kernel_rfl) (by kernel_rfl) h
theorem qh(h:fR c F x0 x1 x2 s=some r):c 161 [x0,x1,x2] s=some (tidy s r):=hc.o1 F (fG c F) fE (by kernel_rfl) (by kernel_rfl) (λ_ _ _=>by kernel_rfl) (λ_ _ _ _=>by kernel_rfl) (by kernel_rfl) h
theorem ae2(h:UM c F x0 s=some r):c 169 [x0] s=some (tidy s r):=hc.o1 F (Nx c F) Nw (by kernel_rfl) (by kernel_rfl) (λ_ _ _=>by kernel_rfl) (λ_ _ _ _=>by kernel_rfl) (by kernel_rfl) h
theorem uI(h:iW c F x0 x1 s=some r):c 170 [x0,x1] s=some (tidy s r):=hc.o0 F mR (by kernel_rfl) (by kernel_rfl) h
theorem Wr(h:EK c F x0 x1 s=some r):c 171 [x0,x1] s=some (tidy s r):=hc.o0 F Kl (by kernel_rfl) (by kernel_rfl) h
theorem wL(h:jU c F x0 x1 s=some r):c 172 [x0,x1] s=some (tidy s r):=hc.o1 F (jq c F) jk (by kernel_rfl) (by kernel_rfl) (λ_ _ _=>by kernel_rfl) (λ_ _ _ _=>by kernel_rfl) (by kernel_rfl) h
theorem afb(h:UN c F x0 x1 s=some r):c 173 [x0,x1] s=some (tidy s r):=hc.o0 F Zc (by kernel_rfl) (by kernel_rfl) h
theorem wG(h:jV c F x0 x1 s=some r):c 174 [x0,x1] s=some (tidy s r):=hc.o1 F (js c F) jr (by kernel_rfl) (by kernel_rfl) (λ_ _ _=>by kernel_rfl) (λ_ _ _ _=>by kernel_rfl) (by kernel_rfl) h
theorem adK(h:Qn c F x0 x1 s=some r):c 175 [x0,x1] s=some (tidy s r):=hc.o0 F VD (by kernel_rfl) (by kernel_rfl) h
theorem Wq(h:EL c F x0 x1 s=some r):c 182 [x0,x1] s=some (tidy s r):=hc.o0 F Kn (by kernel_rfl) (by kernel_rfl) h
theorem Yp(h:Hu c F x0 x1 s=some r):c 187 [x0,x1] s=some (tidy s r):=hc.o0 F Ny (by kernel_rfl) (by kernel_rfl) h
theorem Yq(h:Hv c F x0 x1 s=some r):c 192 [x0,x1] s=some (tidy s r):=hc.o0 F NA (by kernel_rfl) (by kernel_rfl) h
theorem aaw(h:JO c F x0 x1 s=some r):c 197 [x0,x1] s=some (tidy s r):=hc.o0 F Pg (by kernel_rfl) (by kernel_rfl) h
theorem aeY(h:UO c F x0 s=some r):c 203 [x0] s=some (tidy s r):=hc.o1 F (ND c F) NC (by kernel_rfl) (by kernel_rfl) (λ_ _ _=>by kernel_rfl) (λ_ _ _ _=>by kernel_rfl) (by kernel_rfl) h
theorem ae1(h:UP c F x0 s=some r):c 204 [x0] s=some (tidy s r):=hc.o0 F Zf (by kernel_rfl) (by kernel_rfl) h
theorem LB(h:bytealg_CompareString c F x0 x1 s=some r):c 205 [x0,x1] s=some (tidy s r):=hc.o0 F Ay (by kernel_rfl) (by kernel_rfl) h
theorem agI(h:Zi c F x0 s=some r):c 213 [x0] s=some (tidy s r):=hc.o1 F (Qp c F) Qo (by kernel_rfl) (by kernel_rfl) (λ_ _ _=>by kernel_rfl) (λ_ _ _ _=>by kernel_rfl) (by kernel_rfl) h
end
attribute [local go_sem ↓] aY uK ev evX CW getLT Af PJ XK yE yF Mx H9 Ia Ib CX CY CZ C8 C9 Da Ic Ie Db Dc Dd De Df OE OG OH
attribute [local go_sem] aY uK ev
section
variable(c:aj)(F:Nat)(x0 x1 x2 x3 x4 x5 x6 x7 x8 x9 F6 Ng:AV)(s:St)
def vE:Sh:=(sq sl (sq sl (sq (sq sl (sb (sp 0 [0,3,4] [(2,[3])] (sq (sq sl (sc sl sl)) (sq (sb sl) sl))))) (sq sl sl))))
def Dp:PX 8 vE:=⟨_,by conv=>lhs;reduce⟩
def BC:PL 8 vE 0:=⟨_,by conv=>lhs;reduce⟩
def kV(k2:Q2):Nat->Q2
 |0,_,_=>none
 |n+1,vs,s=>eu c F aZ (kV k2 n) [k2] BC.1 vs s
def zD(k2:Q2)(n:Nat)(vs:List AV)(s:St):=(by dsimp only[kV,BC,go_sem,Int.reduceOfNat]:kV c F k2 (n+1) vs s=_)
def vF:Un->List Q2->Nat->Q2
 |.z,[k2]=>kV c F k2
 |_,_=>λ_=>fI
def yf:O2:=aY c F (vF c F) Dp.1 [x0] s
def Rt:=(by dsimp only[yf,Dp, ↓vF,go_sem,Int.reduceOfNat]:yf c F x0 s=_)
def wR:Sh:=(sq sl (sq (sq sl (sq sl (sc (sq sl sl) sl))) (sq sl (sq (sq sl (sb (sp 0 [1,7,40,41] [(2,[1,7])] (sq sl (sq (sc sl sl) (sq (sb (sq sl (sq sl (sq sl (sq sl (sb (sp 1 [1,7,8,9,10,11,40,41] [(4,[1,7,40,41])] (sq (sq sl (sc sl sl)) (sq (sb (sq sl (sq sl (sq sl (sq sl sl))))) (sq (sq sl sl) sl)))))))))) sl)))))) (sq (sq sl (sb (sp 2 [1,7,131,132] [(6,[1,7])] (sq sl (sq (sc sl sl) (sq (sb (sq sl sl)) sl)))))) (sq sl (sq (sq sl (sb (sp 3 [1,7,13,159,160,161] [(8,[7])] (sq sl (sq (sc sl sl) (sq (sb (sq sl (sq sl (sq sl (sq (sq sl (sb (sp 4 [1,7,13,17,18,19,159,160,161,166,167,168] [(10,[1,7,13,18,19,159,160,161])] (sq sl (sq (sc sl sl) (sq (sb (sq sl (sq sl (sq sl sl)))) sl)))))) sl))))) sl)))))) (sq sl sl))))))))
def ad6:PX 15 wR:=⟨_,by conv=>lhs;reduce⟩
def abi:PL 15 wR 4:=⟨_,by conv=>lhs;reduce⟩
def xU(OY:Q2):Nat->Q2
 |0,_,_=>none
 |n+1,vs,s=>eu c F aZ (xU OY n) [OY] abi.1 vs s
def Vo(OY:Q2)(n:Nat)(vs:List AV)(s:St):=(by dsimp only[xU,abi,go_sem,Int.reduceOfNat]:xU c F OY (n+1) vs s=_)
def abj:Un->List Q2->Nat->Q2
 |(.s (.s (.s (.s .z)))),[OY]=>xU c F OY
 |_,_=>λ_=>fI
def abk:PL 15 wR 3:=⟨_,by conv=>lhs;reduce⟩
def Bx(k8:Q2):Nat->Q2
 |0,_,_=>none
 |n+1,vs,s=>eu c F (abj c F) (Bx k8 n) [k8] abk.1 vs s
def Vp(k8:Q2)(n:Nat)(vs:List AV)(s:St):=(by dsimp only[Bx,abk, ↓abj,go_sem,Int.reduceOfNat]:Bx c F k8 (n+1) vs s=_)
def abl:PL 15 wR 2:=⟨_,by conv=>lhs;reduce⟩
def Bw(k6:Q2):Nat->Q2
 |0,_,_=>none
 |n+1,vs,s=>eu c F aZ (Bw k6 n) [k6] abl.1 vs s
def Vn(k6:Q2)(n:Nat)(vs:List AV)(s:St):=(by dsimp only[Bw,abl,go_sem,Int.reduceOfNat]:Bw c F k6 (n+1) vs s=_)
def abm:PL 15 wR 1:=⟨_,by conv=>lhs;reduce⟩
def xT(k4:Q2):Nat->Q2
 |0,_,_=>none
 |n+1,vs,s=>eu c F aZ (xT k4 n) [k4] abm.1 vs s
def Vl(k4:Q2)(n:Nat)(vs:List AV)(s:St):=(by dsimp only[xT,abm,go_sem,Int.reduceOfNat]:xT c F k4 (n+1) vs s=_)
def abn:Un->List Q2->Nat->Q2
 |(.s .z),[k4]=>xT c F k4
 |_,_=>λ_=>fI
def abo:PL 15 wR 0:=⟨_,by conv=>lhs;reduce⟩
def Bu(k2:Q2):Nat->Q2
 |0,_,_=>none
 |n+1,vs,s=>eu c F (abn c F) (Bu k2 n) [k2] abo.1 vs s
def Vm(k2:Q2)(n:Nat)(vs:List AV)(s:St):=(by dsimp only[Bu,abo, ↓abn,go_sem,Int.reduceOfNat]:Bu c F k2 (n+1) vs s=_)
def UQ:Un->List Q2->Nat->Q2
 |.z,[k2]=>Bu c F k2
 |(.s .z),[k4]=>xT c F k4
 |(.s (.s .z)),[k6]=>Bw c F k6
 |(.s (.s (.s .z))),[k8]=>Bx c F k8
 |(.s (.s (.s (.s .z)))),[OY]=>xU c F OY
 |_,_=>λ_=>fI
def acC:O2:=aY c F (UQ c F) ad6.1 [x0] s
def anu:=(by dsimp only[acC,ad6, ↓UQ,go_sem,Int.reduceOfNat]:acC c F x0 s=_)
def B7:Sh:=(sq sl (sq sl (sq (sq sl (sb (sp 0 [1,2,11,12] [(2,[1,2])] (sq sl (sq (sc sl sl) (sq (sb (sq sl sl)) sl)))))) (sq sl (sq (sq sl (sb (sp 1 [1,2,34,35] [(4,[1,2])] (sq sl (sq (sc sl sl) (sq (sb (sq sl sl)) sl)))))) (sq sl (sq sl sl)))))))
def VG:PX 41 B7:=⟨_,by conv=>lhs;reduce⟩
def Se:PL 41 B7 1:=⟨_,by conv=>lhs;reduce⟩
def vu(k4:Q2):Nat->Q2
 |0,_,_=>none
 |n+1,vs,s=>eu c F aZ (vu k4 n) [k4] Se.1 vs s
def Nb(k4:Q2)(n:Nat)(vs:List AV)(s:St):=(by dsimp only[vu,Se,go_sem,Int.reduceOfNat]:vu c F k4 (n+1) vs s=_)
def Sf:PL 41 B7 0:=⟨_,by conv=>lhs;reduce⟩
def vt(k2:Q2):Nat->Q2
 |0,_,_=>none
 |n+1,vs,s=>eu c F aZ (vt k2 n) [k2] Sf.1 vs s
def Na(k2:Q2)(n:Nat)(vs:List AV)(s:St):=(by dsimp only[vt,Sf,go_sem,Int.reduceOfNat]:vt c F k2 (n+1) vs s=_)
def JP:Un->List Q2->Nat->Q2
 |.z,[k2]=>vt c F k2
 |(.s .z),[k4]=>vu c F k4
 |_,_=>λ_=>fI
def Qr:O2:=aY c F (JP c F) VG.1 [x0] s
def ag2:=(by dsimp only[Qr,VG, ↓JP,go_sem,Int.reduceOfNat]:Qr c F x0 s=_)
def Zj:Sh:=(sq sl (sq sl (sq (sq sl (sc (sq sl sl) sl)) (sq sl sl))))
def Zk:PX 45 Zj:=⟨_,by conv=>lhs;reduce⟩
def UR:O2:=aY c F aZ Zk.1 [x0,x1] s
def YI:=(by dsimp only[UR,Zk,go_sem,Int.reduceOfNat]:UR c F x0 x1 s=_)
def abp:Sh:=(sq sl (sq sl (sq sl sl)))
def abq:PX 46 abp:=⟨_,by conv=>lhs;reduce⟩
def Zl:O2:=aY c F aZ abq.1 [x0,x1] s
def aky:=(by dsimp only[Zl,abq,go_sem,Int.reduceOfNat]:Zl c F x0 x1 s=_)
def NF:Sh:=(sq sl (sq sl (sq (sq sl (sb (sp 0 [0,1,2,7,8] [(2,[7])] (sq (sq sl (sc sl sl)) (sj [0,1,2,7,8] (sb (sq sl (sc sl sl))) sl))))) (sq sl sl))))
def Zm:PX 47 NF:=⟨_,by conv=>lhs;reduce⟩
def VH:PL 47 NF 0:=⟨_,by conv=>lhs;reduce⟩
def xI(k2:Q2):Nat->Q2
 |0,_,_=>none
 |n+1,vs,s=>eu c F aZ (xI k2 n) [k2] VH.1 vs s
def EA(k2:Q2)(n:Nat)(vs:List AV)(s:St):=(by dsimp only[xI,VH,go_sem,Int.reduceOfNat]:xI c F k2 (n+1) vs s=_)
def NG:Un->List Q2->Nat->Q2
 |.z,[k2]=>xI c F k2
 |_,_=>λ_=>fI
def US:O2:=aY c F (NG c F) Zm.1 [x0,x1,x2] s
def ajw:=(by dsimp only[US,Zm, ↓NG,go_sem,Int.reduceOfNat]:US c F x0 x1 x2 s=_)
def Zn:Sh:=(sq sl (sq sl sl))
def Zo:PX 48 Zn:=⟨_,by conv=>lhs;reduce⟩
def UT:O2:=aY c F aZ Zo.1 [x0,x1,x2] s
def ajA:=(by dsimp only[UT,Zo,go_sem,Int.reduceOfNat]:UT c F x0 x1 x2 s=_)
def VI:Sh:=(sq sl (sq sl (sq sl sl)))
def VJ:PX 49 VI:=⟨_,by conv=>lhs;reduce⟩
def Qt:O2:=aY c F aZ VJ.1 [x0,x1,x2] s
def agY:=(by dsimp only[Qt,VJ,go_sem,Int.reduceOfNat]:Qt c F x0 x1 x2 s=_)
def Zp:Sh:=(sq sl (sq sl sl))
def Zq:PX 50 Zp:=⟨_,by conv=>lhs;reduce⟩
def UU:O2:=aY c F aZ Zq.1 [x0,x1,x2] s
def ajB:=(by dsimp only[UU,Zq,go_sem,Int.reduceOfNat]:UU c F x0 x1 x2 s=_)
def VK:Sh:=(sq sl (sq sl (sq sl sl)))
def VL:PX 51 VK:=⟨_,by conv=>lhs;reduce⟩
def Qu:O2:=aY c F aZ VL.1 [x0,x1,x2] s
def agZ:=(by dsimp only[Qu,VL,go_sem,Int.reduceOfNat]:Qu c F x0 x1 x2 s=_)
def qp:Sh:=(sq sl (sq sl (sq (sq sl (sb (sp 0 [0,5,6] [(2,[5])] (sq (sq sl (sc sl sl)) (sq (sb (sq sl (sb (sp 1 [0,5,6,41,42,43] [(4,[0,5,6])] (sq sl (sq (sc sl sl) (sq (sb (sq sl (sq sl (sb (sp 2 [0,5,6,41,42,43,47,48,49] [(6,[0,5,6,41,42,43])] (sq sl (sq (sc sl sl) (sj [0,5,6,41,42,43,47,48,49] (sb (sq sl (sq sl (sq sl (sc (sq sl sl) sl))))) sl)))))))) sl))))))) sl))))) (sq sl sl))))
def Kq:PX 52 qp:=⟨_,by conv=>lhs;reduce⟩
def IF:PL 52 qp 2:=⟨_,by conv=>lhs;reduce⟩
def jR(k6:Q2):Nat->Q2
 |0,_,_=>none
 |n+1,vs,s=>eu c F aZ (jR k6 n) [k6] IF.1 vs s
def wO(k6:Q2)(n:Nat)(vs:List AV)(s:St):=(by dsimp only[jR,IF,go_sem,Int.reduceOfNat]:jR c F k6 (n+1) vs s=_)
def IG:Un->List Q2->Nat->Q2
 |(.s (.s .z)),[k6]=>jR c F k6
 |_,_=>λ_=>fI
def II:PL 52 qp 1:=⟨_,by conv=>lhs;reduce⟩
def fA(k4:Q2):Nat->Q2
 |0,_,_=>none
 |n+1,vs,s=>eu c F (IG c F) (fA k4 n) [k4] II.1 vs s
def wQ(k4:Q2)(n:Nat)(vs:List AV)(s:St):=(by dsimp only[fA,II, ↓IG,go_sem,Int.reduceOfNat]:fA c F k4 (n+1) vs s=_)
def IJ:Un->List Q2->Nat->Q2
 |(.s .z),[k4]=>fA c F k4
 |(.s (.s .z)),[k6]=>jR c F k6
 |_,_=>λ_=>fI
def IK:PL 52 qp 0:=⟨_,by conv=>lhs;reduce⟩
def pJ(k2:Q2):Nat->Q2
 |0,_,_=>none
 |n+1,vs,s=>eu c F (IJ c F) (pJ k2 n) [k2] IK.1 vs s
def wP(k2:Q2)(n:Nat)(vs:List AV)(s:St):=(by dsimp only[pJ,IK, ↓IJ,go_sem,Int.reduceOfNat]:pJ c F k2 (n+1) vs s=_)
def AS:Un->List Q2->Nat->Q2
 |.z,[k2]=>pJ c F k2
 |(.s .z),[k4]=>fA c F k4
 |(.s (.s .z)),[k6]=>jR c F k6
 |_,_=>λ_=>fI
def EM:O2:=aY c F (AS c F) Kq.1 [x0,x1] s
def aaO:=(by dsimp only[EM,Kq, ↓AS,go_sem,Int.reduceOfNat]:EM c F x0 x1 s=_)
def Gf:Sh:=(sq sl (sq sl (sq sl (sq (sq sl (sc (sq sl sl) sl)) (sq sl sl)))))
def Gg:PX 54 Gf:=⟨_,by conv=>lhs;reduce⟩
def uN:O2:=aY c F aZ Gg.1 [x0,x1,x2] s
def WO:=(by dsimp only[uN,Gg,go_sem,Int.reduceOfNat]:uN c F x0 x1 x2 s=_)
def Kr:Sh:=(sq sl (sq (sq sl (sc (sq sl sl) sl)) (sq sl (sq (sq sl (sc (sq sl sl) sl)) (sq sl sl)))))
def Ks:PX 55 Kr:=⟨_,by conv=>lhs;reduce⟩
def EN:O2:=aY c F aZ Ks.1 [x0,x1,x2] s
def J6:=(by dsimp only[EN,Ks,go_sem,Int.reduceOfNat]:EN c F x0 x1 x2 s=_)
def Kt:Sh:=(sq sl (sq sl sl))
def Ku:PX 56 Kt:=⟨_,by conv=>lhs;reduce⟩
def EO:O2:=aY c F aZ Ku.1 [x0] s
def aar:=(by dsimp only[EO,Ku,go_sem,Int.reduceOfNat]:EO c F x0 s=_)
def yR:Sh:=(sq sl (sq sl sl))
def yS:PX 58 yR:=⟨_,by conv=>lhs;reduce⟩
def sW:O2:=aY c F aZ yS.1 [x0,x1] s
def LD:=(by dsimp only[sW,yS,go_sem,Int.reduceOfNat]:sW c F x0 x1 s=_)
def qq:Sh:=(sq sl (sq (sq sl (sc (sq sl sl) sl)) (sq sl sl)))
def qt:PX 71 qq:=⟨_,by conv=>lhs;reduce⟩
def lU:O2:=aY c F aZ qt.1 [x0] s
def qj:=(by dsimp only[lU,qt,go_sem,Int.reduceOfNat]:lU c F x0 s=_)
def BE:Sh:=(sq sl (sq (sq sl (sc (sq sl sl) sl)) (sq sl sl)))
def BF:PX 72 BE:=⟨_,by conv=>lhs;reduce⟩
def wS:O2:=aY c F aZ BF.1 [x0] s
def Bs:=(by dsimp only[wS,BF,go_sem,Int.reduceOfNat]:wS c F x0 s=_)
def qu:Sh:=(sq sl (sq (sq sl (sc (sq sl sl) sl)) (sq sl sl)))
def qw:PX 73 qu:=⟨_,by conv=>lhs;reduce⟩
def lV:O2:=aY c F aZ qw.1 [x0] s
def qk:=(by dsimp only[lV,qw,go_sem,Int.reduceOfNat]:lV c F x0 s=_)
def ua:Sh:=(sq sl (sq (sq sl (sc (sq sl sl) sl)) (sq sl sl)))
def ud:PX 75 ua:=⟨_,by conv=>lhs;reduce⟩
def oR:O2:=aY c F aZ ud.1 [x0] s
def tU:=(by dsimp only[oR,ud,go_sem,Int.reduceOfNat]:oR c F x0 s=_)
def rP:Sh:=(sq sl (sq (sq sl (sc (sq sl sl) sl)) (sq sl sl)))
def rQ:PX 76 rP:=⟨_,by conv=>lhs;reduce⟩
def nI:O2:=aY c F aZ rQ.1 [x0] s
def rJ:=(by dsimp only[nI,rQ,go_sem,Int.reduceOfNat]:nI c F x0 s=_)
def NH:Sh:=(sq sl (sq (sq sl (sc (sq sl sl) sl)) (sq (sq sl (sb (sp 0 [1,17,18,19] [(1,[4,5,6]),(2,[])] (sq sl (sq (sc sl sl) (sq (sb (sq sl (sq sl (sq (sq sl (sc (sq sl sl) sl)) sl)))) sl)))))) (sq sl sl))))
def Zr:PX 98 NH:=⟨_,by conv=>lhs;reduce⟩
def VM:PL 98 NH 0:=⟨_,by conv=>lhs;reduce⟩
def tr(k1 k2:Q2):Nat->Q2
 |0,_,_=>none
 |n+1,vs,s=>eu c F aZ (tr k1 k2 n) [k1,k2] VM.1 vs s
def yO(k1 k2:Q2)(n:Nat)(vs:List AV)(s:St):=(by dsimp only[tr,VM,go_sem,Int.reduceOfNat]:tr c F k1 k2 (n+1) vs s=_)
def NI:Un->List Q2->Nat->Q2
 |.z,[k1,k2]=>tr c F k1 k2
 |_,_=>λ_=>fI
def UW:O2:=aY c F (NI c F) Zr.1 [x0,x1] s
def YE:=(by dsimp only[UW,Zr, ↓NI,go_sem,Int.reduceOfNat]:UW c F x0 x1 s=_)
def JQ:Sh:=(sq sl (sq sl (sq sl (sq (sq sl (sb (sp 0 [5,23,24,25] [(2,[5])] (sq sl (sq (sc sl sl) (sj [5,23,24,25] (sb (sq sl (sq sl (sc sl sl)))) sl)))))) (sq sl sl)))))
def VN:PX 99 JQ:=⟨_,by conv=>lhs;reduce⟩
def Sg:PL 99 JQ 0:=⟨_,by conv=>lhs;reduce⟩
def vr(k2:Q2):Nat->Q2
 |0,_,_=>none
 |n+1,vs,s=>eu c F aZ (vr k2 n) [k2] Sg.1 vs s
def Cl(k2:Q2)(n:Nat)(vs:List AV)(s:St):=(by dsimp only[vr,Sg,go_sem,Int.reduceOfNat]:vr c F k2 (n+1) vs s=_)
def JR:Un->List Q2->Nat->Q2
 |.z,[k2]=>vr c F k2
 |_,_=>λ_=>fI
def Qv:O2:=aY c F (JR c F) VN.1 [x0] s
def ag1:=(by dsimp only[Qv,VN, ↓JR,go_sem,Int.reduceOfNat]:Qv c F x0 s=_)
def abr:Sh:=(sq sl (sq sl (sq sl (sq (sq sl (sc (sq sl sl) sl)) (sq sl sl)))))
def abt:PX 100 abr:=⟨_,by conv=>lhs;reduce⟩
def Zs:O2:=aY c F aZ abt.1 [x0,x1,x2] s
def akx:=(by dsimp only[Zs,abt,go_sem,Int.reduceOfNat]:Zs c F x0 x1 x2 s=_)
def VO:Sh:=(sq sl (sq sl (sq sl sl)))
def VP:PX 101 VO:=⟨_,by conv=>lhs;reduce⟩
def Qw:O2:=aY c F aZ VP.1 [x0,x1,x2] s
def agU:=(by dsimp only[Qw,VP,go_sem,Int.reduceOfNat]:Qw c F x0 x1 x2 s=_)
def VQ:Sh:=(sq sl (sq sl (sq sl sl)))
def VR:PX 102 VQ:=⟨_,by conv=>lhs;reduce⟩
def Qx:O2:=aY c F aZ VR.1 [x0,x1,x2] s
def agV:=(by dsimp only[Qx,VR,go_sem,Int.reduceOfNat]:Qx c F x0 x1 x2 s=_)
def Kv:Sh:=(sq sl (sq (sq sl (sc (sq sl sl) sl)) (sq sl (sq (sq sl (sc (sq sl sl) sl)) (sq sl sl)))))
def Kw:PX 107 Kv:=⟨_,by conv=>lhs;reduce⟩
def EP:O2:=aY c F aZ Kw.1 [x0,x1] s
def J7:=(by dsimp only[EP,Kw,go_sem,Int.reduceOfNat]:EP c F x0 x1 s=_)
def kX:Sh:=(sq sl (sq sl (sq (sq sl (sc (sq sl sl) sl)) (sq (sq sl (sb (sp 0 [0,1,5,6] [(2,[0,5])] (sq (sq sl (sc sl sl)) (sj [0,1,5,6] (sb (sq sl (sq sl (sc (sq sl sl) sl)))) sl))))) (sq sl (sq sl sl))))))
def qQ:PX 108 kX:=⟨_,by conv=>lhs;reduce⟩
def qx:PL 108 kX 0:=⟨_,by conv=>lhs;reduce⟩
def fe(k2:Q2):Nat->Q2
 |0,_,_=>none
 |n+1,vs,s=>eu c F aZ (fe k2 n) [k2] qx.1 vs s
def jS(k2:Q2)(n:Nat)(vs:List AV)(s:St):=(by dsimp only[fe,qx,go_sem,Int.reduceOfNat,Int.reduceNegSucc]:fe c F k2 (n+1) vs s=_)
def kY:Un->List Q2->Nat->Q2
 |.z,[k2]=>fe c F k2
 |_,_=>λ_=>fI
def mN:O2:=aY c F (kY c F) qQ.1 [x0,x1] s
def qO:=(by dsimp only[mN,qQ, ↓kY,go_sem,Int.reduceOfNat,Int.reduceNegSucc]:mN c F x0 x1 s=_)
def Dq:Sh:=(sq sl (sq sl sl))
def Dr:PX 109 Dq:=⟨_,by conv=>lhs;reduce⟩
def yg:O2:=aY c F aZ Dr.1 [x0,x1] s
def RW:=(by dsimp only[yg,Dr,go_sem,Int.reduceOfNat]:yg c F x0 x1 s=_)
def sM:Sh:=(sq sl (sq sl sl))
def sN:PX 110 sM:=⟨_,by conv=>lhs;reduce⟩
def nY:O2:=aY c F aZ sN.1 [x0,x1] s
def DC:=(by dsimp only[nY,sN,go_sem,Int.reduceOfNat]:nY c F x0 x1 s=_)
def ux:Sh:=(sq sl (sq (sq sl (sb (sp 0 [0,1,7,8] [(1,[4]),(2,[])] (sq sl (sq (sc sl sl) (sq (sb (sq sl (sq sl (sc (sq sl sl) sl)))) sl)))))) (sq sl sl)))
def BG:PX 114 ux:=⟨_,by conv=>lhs;reduce⟩
def AA:PL 114 ux 0:=⟨_,by conv=>lhs;reduce⟩
def kz(k1 k2:Q2):Nat->Q2
 |0,_,_=>none
 |n+1,vs,s=>eu c F aZ (kz k1 k2 n) [k1,k2] AA.1 vs s
def yP(k1 k2:Q2)(n:Nat)(vs:List AV)(s:St):=(by dsimp only[kz,AA,go_sem,Int.reduceOfNat,Int.reduceNegSucc]:kz c F k1 k2 (n+1) vs s=_)
def uy:Un->List Q2->Nat->Q2
 |.z,[k1,k2]=>kz c F k1 k2
 |_,_=>λ_=>fI
def wT:O2:=aY c F (uy c F) BG.1 [x0,x1] s
def Qf:=(by dsimp only[wT,BG, ↓uy,go_sem,Int.reduceOfNat,Int.reduceNegSucc]:wT c F x0 x1 s=_)
def zP:Sh:=(sq sl (sq sl (sq (sq sl (sb (sp 0 [1,2,5,15,16] [(2,[1,2,5])] (sq sl (sq (sc sl sl) (sq (sb (sq sl sl)) sl)))))) (sq sl (sq sl (sq (sb (sp 1 [2,5,7] [(4,[5])] (sq (sq sl (sc sl sl)) (sb (sq sl (sq sl (sq sl (sb (sp 2 [2,5,7,8,36,37,38] [(6,[2,5,7])] (sq sl (sq (sc sl sl) (sj [2,5,7,8,36,37,38] (sb (sq sl (sq sl (sc (sq sl sl) sl)))) sl)))))))))))) (sq sl sl)))))))
def Zt:PX 153 zP:=⟨_,by conv=>lhs;reduce⟩
def VS:PL 153 zP 2:=⟨_,by conv=>lhs;reduce⟩
def tu(k6:Q2):Nat->Q2
 |0,_,_=>none
 |n+1,vs,s=>eu c F aZ (tu k6 n) [k6] VS.1 vs s
def yQ(k6:Q2)(n:Nat)(vs:List AV)(s:St):=(by dsimp only[tu,VS,go_sem,Int.reduceOfNat,Int.reduceNegSucc]:tu c F k6 (n+1) vs s=_)
def VT:Un->List Q2->Nat->Q2
 |(.s (.s .z)),[k6]=>tu c F k6
 |_,_=>λ_=>fI
def VU:PL 153 zP 1:=⟨_,by conv=>lhs;reduce⟩
def qc(k4:Q2):Nat->Q2
 |0,_,_=>none
 |n+1,vs,s=>eu c F (VT c F) (qc k4 n) [k4] VU.1 vs s
def Ez(k4:Q2)(n:Nat)(vs:List AV)(s:St):=(by dsimp only[qc,VU, ↓VT,go_sem,Int.reduceOfNat,Int.reduceNegSucc]:qc c F k4 (n+1) vs s=_)
def VV:PL 153 zP 0:=⟨_,by conv=>lhs;reduce⟩
def tC(k2:Q2):Nat->Q2
 |0,_,_=>none
 |n+1,vs,s=>eu c F aZ (tC k2 n) [k2] VV.1 vs s
def OU(k2:Q2)(n:Nat)(vs:List AV)(s:St):=(by dsimp only[tC,VV,go_sem,Int.reduceOfNat,Int.reduceNegSucc]:tC c F k2 (n+1) vs s=_)
def NJ:Un->List Q2->Nat->Q2
 |.z,[k2]=>tC c F k2
 |(.s .z),[k4]=>qc c F k4
 |(.s (.s .z)),[k6]=>tu c F k6
 |_,_=>λ_=>fI
def UX:O2:=aY c F (NJ c F) Zt.1 [x0,x1] s
def aju:=(by dsimp only[UX,Zt, ↓NJ,go_sem,Int.reduceOfNat,Int.reduceNegSucc]:UX c F x0 x1 s=_)
def lW:Sh:=(sq sl (sq (sq sl (sb (sp 0 [0,1,7,8] [(1,[4]),(2,[])] (sq sl (sq (sc sl sl) (sq (sb (sq sl (sq sl (sc (sq sl sl) sl)))) sl)))))) (sq sl sl)))
def rU:PX 159 lW:=⟨_,by conv=>lhs;reduce⟩
def qR:PL 159 lW 0:=⟨_,by conv=>lhs;reduce⟩
def dQ(k1 k2:Q2):Nat->Q2
 |0,_,_=>none
 |n+1,vs,s=>eu c F aZ (dQ k1 k2 n) [k1,k2] qR.1 vs s
def eM(k1 k2:Q2)(n:Nat)(vs:List AV)(s:St):=(by dsimp only[dQ,qR,go_sem,Int.reduceOfNat,Int.reduceNegSucc]:dQ c F k1 k2 (n+1) vs s=_)
def lY:Un->List Q2->Nat->Q2
 |.z,[k1,k2]=>dQ c F k1 k2
 |_,_=>λ_=>fI
def nJ:O2:=aY c F (lY c F) rU.1 [x0,x1] s
def rM:=(by dsimp only[nJ,rU, ↓lY,go_sem,Int.reduceOfNat,Int.reduceNegSucc]:nJ c F x0 x1 s=_)
def oU:Sh:=(sq sl (sq (sq sl (sb (sp 0 [0,1,7,8] [(1,[4]),(2,[])] (sq sl (sq (sc sl sl) (sq (sb (sq sl (sq sl (sc (sq sl sl) sl)))) sl)))))) (sq sl sl)))
def vG:PX 160 oU:=⟨_,by conv=>lhs;reduce⟩
def uH:PL 160 oU 0:=⟨_,by conv=>lhs;reduce⟩
def ff(k1 k2:Q2):Nat->Q2
 |0,_,_=>none
 |n+1,vs,s=>eu c F aZ (ff k1 k2 n) [k1,k2] uH.1 vs s
def fV(k1 k2:Q2)(n:Nat)(vs:List AV)(s:St):=(by dsimp only[ff,uH,go_sem,Int.reduceOfNat,Int.reduceNegSucc]:ff c F k1 k2 (n+1) vs s=_)
def oV:Un->List Q2->Nat->Q2
 |.z,[k1,k2]=>ff c F k1 k2
 |_,_=>λ_=>fI
def qe:O2:=aY c F (oV c F) vG.1 [x0,x1] s
def vw:=(by dsimp only[qe,vG, ↓oV,go_sem,Int.reduceOfNat,Int.reduceNegSucc]:qe c F x0 x1 s=_)
def IL:Sh:=(sq sl (sq sl sl))
def IM:PX 183 IL:=⟨_,by conv=>lhs;reduce⟩
def Cp:O2:=aY c F aZ IM.1 [x0,x1,x2,x3] s
def Yx:=(by dsimp only[Cp,IM,go_sem,Int.reduceOfNat]:Cp c F x0 x1 x2 x3 s=_)
def IN:Sh:=(sq sl (sq sl sl))
def IP:PX 184 IN:=⟨_,by conv=>lhs;reduce⟩
def Cq:O2:=aY c F aZ IP.1 [x0,x1,x2,x3] s
def Yy:=(by dsimp only[Cq,IP,go_sem,Int.reduceOfNat]:Cq c F x0 x1 x2 x3 s=_)
def Ky:Sh:=(sq sl (sq sl sl))
def Kz:PX 185 Ky:=⟨_,by conv=>lhs;reduce⟩
def ER:O2:=aY c F aZ Kz.1 [x0,x1] s
def aaK:=(by dsimp only[ER,Kz,go_sem,Int.reduceOfNat]:ER c F x0 x1 s=_)
def KA:Sh:=(sq sl (sq sl (sq (sb (sq sl (sc (sq sl sl) (sq sl (sc (sq sl sl) sl))))) (sq sl sl))))
def KB:PX 188 KA:=⟨_,by conv=>lhs;reduce⟩
def ES:O2:=aY c F aZ KB.1 [x0,x1,x2,x3] s
def aaF:=(by dsimp only[ES,KB,go_sem,Int.reduceOfNat]:ES c F x0 x1 x2 x3 s=_)
def KC:Sh:=(sq sl (sq (sq sl (sc (sq sl sl) sl)) (sq sl sl)))
def KD:PX 189 KC:=⟨_,by conv=>lhs;reduce⟩
def ET:O2:=aY c F aZ KD.1 [x0,x1,x2,x3] s
def aaG:=(by dsimp only[ET,KD,go_sem,Int.reduceOfNat]:ET c F x0 x1 x2 x3 s=_)
def KE:Sh:=(sq sl (sq (sq sl (sc (sq sl sl) sl)) (sq sl sl)))
def KF:PX 190 KE:=⟨_,by conv=>lhs;reduce⟩
def EU:O2:=aY c F aZ KF.1 [x0,x1] s
def aaL:=(by dsimp only[EU,KF,go_sem,Int.reduceOfNat]:EU c F x0 x1 s=_)
def KG:Sh:=(sq sl (sq sl sl))
def KH:PX 193 KG:=⟨_,by conv=>lhs;reduce⟩
def EV:O2:=aY c F aZ KH.1 [x0,x1,x2,x3] s
def aaH:=(by dsimp only[EV,KH,go_sem,Int.reduceOfNat]:EV c F x0 x1 x2 x3 s=_)
def KI:Sh:=(sq sl (sq sl sl))
def KJ:PX 194 KI:=⟨_,by conv=>lhs;reduce⟩
def EW:O2:=aY c F aZ KJ.1 [x0,x1,x2,x3] s
def aaI:=(by dsimp only[EW,KJ,go_sem,Int.reduceOfNat]:EW c F x0 x1 x2 x3 s=_)
def KL:Sh:=(sq sl (sq sl sl))
def KM:PX 195 KL:=⟨_,by conv=>lhs;reduce⟩
def EX:O2:=aY c F aZ KM.1 [x0,x1] s
def aaM:=(by dsimp only[EX,KM,go_sem,Int.reduceOfNat]:EX c F x0 x1 s=_)
def NK:Sh:=(sq sl (sq sl sl))
def NL:PX 198 NK:=⟨_,by conv=>lhs;reduce⟩
def Hw:O2:=aY c F aZ NL.1 [x0,x1,x2,x3] s
def acs:=(by dsimp only[Hw,NL,go_sem,Int.reduceOfNat]:Hw c F x0 x1 x2 x3 s=_)
def KN:Sh:=(sq sl (sq sl sl))
def KO:PX 199 KN:=⟨_,by conv=>lhs;reduce⟩
def EY:O2:=aY c F aZ KO.1 [x0,x1,x2,x3] s
def aaJ:=(by dsimp only[EY,KO,go_sem,Int.reduceOfNat]:EY c F x0 x1 x2 x3 s=_)
def KP:Sh:=(sq sl (sq sl sl))
def KQ:PX 200 KP:=⟨_,by conv=>lhs;reduce⟩
def EZ:O2:=aY c F aZ KQ.1 [x0,x1] s
def aaN:=(by dsimp only[EZ,KQ,go_sem,Int.reduceOfNat]:EZ c F x0 x1 s=_)
def abu:Sh:=(sq sl (sq sl sl))
def abv:PX 202 abu:=⟨_,by conv=>lhs;reduce⟩
def Zu:O2:=aY c F aZ abv.1 [x0,x1,x2] s
def akv:=(by dsimp only[Zu,abv,go_sem,Int.reduceOfNat]:Zu c F x0 x1 x2 s=_)
def ad7:Sh:=(sq sl (sq sl sl))
def ad8:PX 217 ad7:=⟨_,by conv=>lhs;reduce⟩
def acD:O2:=aY c F aZ ad8.1 [x0,x1] s
def anc:=(by dsimp only[acD,ad8,go_sem,Int.reduceOfNat]:acD c F x0 x1 s=_)
end
section
variable{c:aj}(hc:Sem c)(F:Nat){x0 x1 x2 x3 x4 x5 x6 x7 x8 x9 F6 Ng:AV}{s:St}{r:AV×St}
include hc
theorem ajN(h:acC c F x0 s=some r):c 15 [x0] s=some (tidy s r):=hc.oL F (UQ c F) wR 5 (by kernel_rfl) (λi hi=>match i,hi with|0,_=>cW 0 (by kernel_rfl) (λ_ _ _=>by kernel_rfl) (λ_ _ _ _=>by kernel_rfl)|1,_=>cW 1 (by kernel_rfl) (λ_ _ _=>by kernel_rfl) (λ_ _ _ _=>by kernel_rfl)|2,_=>cW 2 (by kernel_rfl) (λ_ _ _=>by kernel_rfl) (λ_ _ _ _=>by kernel_rfl)|3,_=>cW 3 (by kernel_rfl) (λ_ _ _=>by kernel_rfl) (λ_ _ _ _=>by kernel_rfl)|4,_=>cW 4 (by kernel_rfl) (λ_ _ _=>by kernel_rfl) (λ_ _ _ _=>by kernel_rfl)|n+5,h=>absurd h (by omega)) (by kernel_rfl) h
theorem adZ(h:Qr c F x0 s=some r):c 41 [x0] s=some (tidy s r):=hc.oL F (JP c F) B7 2 (by kernel_rfl) (λi hi=>match i,hi with|0,_=>cW 0 (by kernel_rfl) (λ_ _ _=>by kernel_rfl) (λ_ _ _ _=>by kernel_rfl)|1,_=>cW 1 (by kernel_rfl) (λ_ _ _=>by kernel_rfl) (λ_ _ _ _=>by kernel_rfl)|n+2,h=>absurd h (by omega)) (by kernel_rfl) h
theorem RO(h:UR c F x0 x1 s=some r):c 45 [x0,x1] s=some (tidy s r):=hc.o0 F Zj (by kernel_rfl) (by kernel_rfl) h
theorem ag0(h:Zl c F x0 x1 s=some r):c 46 [x0,x1] s=some (tidy s r):=hc.o0 F abp (by kernel_rfl) (by kernel_rfl) h
theorem afg(h:US c F x0 x1 x2 s=some r):c 47 [x0,x1,x2] s=some (tidy s r):=hc.o1 F (NG c F) NF (by kernel_rfl) (by kernel_rfl) (λ_ _ _=>by kernel_rfl) (λ_ _ _ _=>by kernel_rfl) (by kernel_rfl) h
theorem afh(h:UT c F x0 x1 x2 s=some r):c 48 [x0,x1,x2] s=some (tidy s r):=hc.o0 F Zn (by kernel_rfl) (by kernel_rfl) h
theorem adW(h:Qt c F x0 x1 x2 s=some r):c 49 [x0,x1,x2] s=some (tidy s r):=hc.o0 F VI (by kernel_rfl) (by kernel_rfl) h
theorem afi(h:UU c F x0 x1 x2 s=some r):c 50 [x0,x1,x2] s=some (tidy s r):=hc.o0 F Zp (by kernel_rfl) (by kernel_rfl) h
theorem adX(h:Qu c F x0 x1 x2 s=some r):c 51 [x0,x1,x2] s=some (tidy s r):=hc.o0 F VK (by kernel_rfl) (by kernel_rfl) h
theorem WN(h:EM c F x0 x1 s=some r):c 52 [x0,x1] s=some (tidy s r):=hc.oL F (AS c F) qp 3 (by kernel_rfl) (λi hi=>match i,hi with|0,_=>cW 0 (by kernel_rfl) (λ_ _ _=>by kernel_rfl) (λ_ _ _ _=>by kernel_rfl)|1,_=>cW 1 (by kernel_rfl) (λ_ _ _=>by kernel_rfl) (λ_ _ _ _=>by kernel_rfl)|2,_=>cW 2 (by kernel_rfl) (λ_ _ _=>by kernel_rfl) (λ_ _ _ _=>by kernel_rfl)|n+3,h=>absurd h (by omega)) (by kernel_rfl) h
theorem Dl(h:uN c F x0 x1 x2 s=some r):c 54 [x0,x1,x2] s=some (tidy s r):=hc.o0 F Gf (by kernel_rfl) (by kernel_rfl) h
theorem Gb(h:EN c F x0 x1 x2 s=some r):c 55 [x0,x1,x2] s=some (tidy s r):=hc.o0 F Kr (by kernel_rfl) (by kernel_rfl) h
theorem Iz(h:sW c F x0 x1 s=some r):c 58 [x0,x1] s=some (tidy s r):=hc.o0 F yR (by kernel_rfl) (by kernel_rfl) h
theorem pH(h:lU c F x0 s=some r):c 71 [x0] s=some (tidy s r):=hc.o0 F qq (by kernel_rfl) (by kernel_rfl) h
theorem zN(h:wS c F x0 s=some r):c 72 [x0] s=some (tidy s r):=hc.o0 F BE (by kernel_rfl) (by kernel_rfl) h
theorem pI(h:lV c F x0 s=some r):c 73 [x0] s=some (tidy s r):=hc.o0 F qu (by kernel_rfl) (by kernel_rfl) h
theorem rI(h:oR c F x0 s=some r):c 75 [x0] s=some (tidy s r):=hc.o0 F ua (by kernel_rfl) (by kernel_rfl) h
theorem qi(h:nI c F x0 s=some r):c 76 [x0] s=some (tidy s r):=hc.o0 F rP (by kernel_rfl) (by kernel_rfl) h
theorem RI(h:UW c F x0 x1 s=some r):c 98 [x0,x1] s=some (tidy s r):=hc.o1 F (NI c F) NH (by kernel_rfl) (by kernel_rfl) (λ_ _ _=>by kernel_rfl) (λ_ _ _ _=>by kernel_rfl) (by kernel_rfl) h
theorem adY(h:Qv c F x0 s=some r):c 99 [x0] s=some (tidy s r):=hc.o1 F (JR c F) JQ (by kernel_rfl) (by kernel_rfl) (λ_ _ _=>by kernel_rfl) (λ_ _ _ _=>by kernel_rfl) (by kernel_rfl) h
theorem agX(h:Zs c F x0 x1 x2 s=some r):c 100 [x0,x1,x2] s=some (tidy s r):=hc.o0 F abr (by kernel_rfl) (by kernel_rfl) h
theorem adT(h:Qw c F x0 x1 x2 s=some r):c 101 [x0,x1,x2] s=some (tidy s r):=hc.o0 F VO (by kernel_rfl) (by kernel_rfl) h
theorem adU(h:Qx c F x0 x1 x2 s=some r):c 102 [x0,x1,x2] s=some (tidy s r):=hc.o0 F VQ (by kernel_rfl) (by kernel_rfl) h
theorem Gc(h:EP c F x0 x1 s=some r):c 107 [x0,x1] s=some (tidy s r):=hc.o0 F Kv (by kernel_rfl) (by kernel_rfl) h
theorem pS(h:mN c F x0 x1 s=some r):c 108 [x0,x1] s=some (tidy s r):=hc.o1 F (kY c F) kX (by kernel_rfl) (by kernel_rfl) (λ_ _ _=>by kernel_rfl) (λ_ _ _ _=>by kernel_rfl) (by kernel_rfl) h
theorem Oa(h:yg c F x0 x1 s=some r):c 109 [x0,x1] s=some (tidy s r):=hc.o0 F Dq (by kernel_rfl) (by kernel_rfl) h
theorem Bt(h:nY c F x0 x1 s=some r):c 110 [x0,x1] s=some (tidy s r):=hc.o0 F sM (by kernel_rfl) (by kernel_rfl) h
theorem MX(h:wT c F x0 x1 s=some r):c 114 [x0,x1] s=some (tidy s r):=hc.o1 F (uy c F) ux (by kernel_rfl) (by kernel_rfl) (λ_ _ _=>by kernel_rfl) (λ_ _ _ _=>by kernel_rfl) (by kernel_rfl) h
theorem aff(h:UX c F x0 x1 s=some r):c 153 [x0,x1] s=some (tidy s r):=hc.oL F (NJ c F) zP 3 (by kernel_rfl) (λi hi=>match i,hi with|0,_=>cW 0 (by kernel_rfl) (λ_ _ _=>by kernel_rfl) (λ_ _ _ _=>by kernel_rfl)|1,_=>cW 1 (by kernel_rfl) (λ_ _ _=>by kernel_rfl) (λ_ _ _ _=>by kernel_rfl)|2,_=>cW 2 (by kernel_rfl) (λ_ _ _=>by kernel_rfl) (λ_ _ _ _=>by kernel_rfl)|n+3,h=>absurd h (by omega)) (by kernel_rfl) h
theorem qm(h:nJ c F x0 x1 s=some r):c 159 [x0,x1] s=some (tidy s r):=hc.o1 F (lY c F) lW (by kernel_rfl) (by kernel_rfl) (λ_ _ _=>by kernel_rfl) (λ_ _ _ _=>by kernel_rfl) (by kernel_rfl) h
theorem tV(h:qe c F x0 x1 s=some r):c 160 [x0,x1] s=some (tidy s r):=hc.o1 F (oV c F) oU (by kernel_rfl) (by kernel_rfl) (λ_ _ _=>by kernel_rfl) (λ_ _ _ _=>by kernel_rfl) (by kernel_rfl) h
theorem Uu(h:Cp c F x0 x1 x2 x3 s=some r):c 183 [x0,x1,x2,x3] s=some (tidy s r):=hc.o0 F IL (by kernel_rfl) (by kernel_rfl) h
theorem Uv(h:Cq c F x0 x1 x2 x3 s=some r):c 184 [x0,x1,x2,x3] s=some (tidy s r):=hc.o0 F IN (by kernel_rfl) (by kernel_rfl) h
theorem WG(h:ER c F x0 x1 s=some r):c 185 [x0,x1] s=some (tidy s r):=hc.o0 F Ky (by kernel_rfl) (by kernel_rfl) h
theorem Wx(h:ES c F x0 x1 x2 x3 s=some r):c 188 [x0,x1,x2,x3] s=some (tidy s r):=hc.o0 F KA (by kernel_rfl) (by kernel_rfl) h
theorem Wy(h:ET c F x0 x1 x2 x3 s=some r):c 189 [x0,x1,x2,x3] s=some (tidy s r):=hc.o0 F KC (by kernel_rfl) (by kernel_rfl) h
theorem WH(h:EU c F x0 x1 s=some r):c 190 [x0,x1] s=some (tidy s r):=hc.o0 F KE (by kernel_rfl) (by kernel_rfl) h
theorem Wz(h:EV c F x0 x1 x2 x3 s=some r):c 193 [x0,x1,x2,x3] s=some (tidy s r):=hc.o0 F KG (by kernel_rfl) (by kernel_rfl) h
theorem WA(h:EW c F x0 x1 x2 x3 s=some r):c 194 [x0,x1,x2,x3] s=some (tidy s r):=hc.o0 F KI (by kernel_rfl) (by kernel_rfl) h
theorem WJ(h:EX c F x0 x1 s=some r):c 195 [x0,x1] s=some (tidy s r):=hc.o0 F KL (by kernel_rfl) (by kernel_rfl) h
theorem Yz(h:Hw c F x0 x1 x2 x3 s=some r):c 198 [x0,x1,x2,x3] s=some (tidy s r):=hc.o0 F NK (by kernel_rfl) (by kernel_rfl) h
theorem WE(h:EY c F x0 x1 x2 x3 s=some r):c 199 [x0,x1,x2,x3] s=some (tidy s r):=hc.o0 F KN (by kernel_rfl) (by kernel_rfl) h
theorem WM(h:EZ c F x0 x1 s=some r):c 200 [x0,x1] s=some (tidy s r):=hc.o0 F KP (by kernel_rfl) (by kernel_rfl) h
theorem agW(h:Zu c F x0 x1 x2 s=some r):c 202 [x0,x1,x2] s=some (tidy s r):=hc.o0 F abu (by kernel_rfl) (by kernel_rfl) h
theorem ajn(h:acD c F x0 x1 s=some r):c 217 [x0,x1] s=some (tidy s r):=hc.o0 F ad7 (by kernel_rfl) (by kernel_rfl) h
end
end
end Go.Proofs.YtmldijpopgaaeaaGreatDoor
