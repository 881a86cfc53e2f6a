/- Functions of the program, plainly, and what they answer. -/
import Derived.Test.YtlkadmkojjceiaaGreatDoorKAwake
set_option linter.all false
set_option maxRecDepth 100000
set_option maxHeartbeats 4000000
namespace Go.Proofs.YtlkadmkojjceiaaGreatDoor
noncomputable section
open Go Go.Ai Go.Proofs
def Co:dw:=uZ [(327,G6),(12,Jl)]
def Sem(c:ah):Prop:=c=run Co gg
def gA(f:Nat):b9:=pQ gg f
abbrev PX(f:Nat)(s:Sh):={a:Tx // txF (gA f) s=a}
abbrev PL(f:Nat)(s:Sh)(i:Nat):={a:List Pos×Tx // txL (ey (gA f) s i)=a}
theorem Sem.o0{c:ah}(hc:Sem c)(F:Nat){f:FuncId}{args:List AV}{st:St}{r:AV×St}(s:Sh)(hk:(ry (Co f)&& !ry (gg.get (key f))&&(dn (gA f).code s).isEmpty)=true)
  {k:O2} (hd:yA c F (P7 []) (gA f) s args st=k) (h:k=some r):c f args st=some (tidy st r):=by
 subst hc;exact Uh s hk hd h
theorem Sem.o1{c:ah}(hc:Sem c)(F:Nat){f:FuncId}{args:List AV}{st:St}{r:AV×St}(Ls:Un->List Q2->Nat->Q2)(s:Sh)(hk:(ry (Co f)&& !ry (gg.get (key f))&&Nat.beq (dn (gA f).code s).length 1)=true)
  (hs:(Ng (ey (gA f) s 0).2&&Nat.beq (WW (ey (gA f) s 0).2) 0)=true) (h0:∀K' vs st,lu Ls (gA f) s 0 K' 0 vs st=none)
  (h1:∀K' n vs st,lu Ls (gA f) s 0 K' (n+1) vs st=DA (den c F (lu Ls (gA f) s) (ey (gA f) s 0).1 (lpB (ey (gA f) s 0).2)) (lpI (ey (gA f) s 0).2) (WX (ey (gA f) s 0).2) K' (lu Ls (gA f) s 0 K' n) vs st)
  {k:O2} (hd:yA c F (lu Ls (gA f) s) (gA f) s args st=k) (h:k=some r):c f args st=some (tidy st r):=by
 subst hc;exact Ui Ls s hk hs h0 h1 hd h
theorem Sem.oL{c:ah}(hc:Sem c)(F:Nat){f:FuncId}{args:List AV}{st:St}{r:AV×St}(Ls:Un->List Q2->Nat->Q2)(s:Sh)(n:Nat)(hk:(ry (Co f)&& !ry (gg.get (key f))&&Nat.beq (dn (gA f).code s).length n)=true)
  (hL:∀i,i<n->vw c F (lu Ls (gA f) s) (ey (gA f) s i).1 (ey (gA f) s i).2) {k:O2} (hd:yA c F (lu Ls (gA f) s) (gA f) s args st=k) (h:k=some r):c f args st=some (tidy st r):=by
 subst hc;exact Nm Ls s n hk hL hd h
end
noncomputable section
open Go Go.Ai Go.Proofs
attribute [local go_sem ↓] bg xJ ev Ug xX getLT xI KN OT vG vH HR HS HT HU DD DE DF DG DH DI HV HW DJ DK DM DN DO Mh Mi Mj
attribute [local go_sem] bg xJ ev
section
variable(c:ah)(F:Nat)(x0 x1 x2 x3 x4 x5 x6 x7 x8 x9 B5 Ib:AV)(s:St)
def Au:Sh:=(sq sl (sq sl sl))
def Av:PX 44 Au:=⟨_,by conv=>lhs;reduce⟩
def xx:O2:=bg c F bu Av.1 [x0,x1] s
def KS:=(by dsimp only[xx,Av,go_sem,Int.reduceOfNat]:xx c F x0 x1 s=_)
def nN:Sh:=(sq sl (sq sl (sq (sq sl (sc (sq sl sl) sl)) (sq (sq sl (sb (sp 0 [1,6] [(1,[2,3]),(2,[])] (sq (sq sl (sc sl sl)) (sq (sb (sq (sq sl (sq sl (sc (sq sl sl) sl))) (sq sl (sc (sq sl sl) sl)))) sl))))) (sq sl sl)))))
def vJ:PX 53 nN:=⟨_,by conv=>lhs;reduce⟩
def uy:PL 53 nN 0:=⟨_,by conv=>lhs;reduce⟩
def eZ(k1 k2:Q2):Nat->Q2
 |0,_,_=>none
 |n+1,vs,s=>eU c F bu (eZ k1 k2 n) [k1,k2] uy.1 vs s
def kj(k1 k2:Q2)(n:Nat)(vs:List AV)(s:St):=(by dsimp only[eZ,uy,go_sem,Int.reduceOfNat]:eZ c F k1 k2 (n+1) vs s=_)
def nO:Un->List Q2->Nat->Q2
 |.z,[k1,k2]=>eZ c F k1 k2
 |_,_=>λ_=>fH
def qi:O2:=bg c F (nO c F) vJ.1 [x0] s
def Ft:=(by dsimp only[qi,vJ, ↓nO,go_sem,Int.reduceOfNat]:qi c F x0 s=_)
def Ic:Sh:=(sq sl (sq (sq sl (sc (sq sl sl) sl)) (sq sl sl)))
def Ie:PX 72 Ic:=⟨_,by conv=>lhs;reduce⟩
def Fu:O2:=bg c F bu Ie.1 [x0] s
def RI:=(by dsimp only[Fu,Ie,go_sem,Int.reduceOfNat]:Fu c F x0 s=_)
def Aw:Sh:=(sq sl (sq (sq sl (sq sl (sc (sq sl sl) sl))) (sq sl (sq (sq sl (sb (sp 0 [1,6,21,22,23] [(1,[2,3]),(2,[])] (sq sl (sq (sc sl sl) (sq (sb (sq sl (sq (sq sl (sq sl (sc (sq sl sl) sl))) (sq sl (sc (sq sl sl) sl))))) sl)))))) (sq sl sl)))))
def Ig:PX 77 Aw:=⟨_,by conv=>lhs;reduce⟩
def Gy:PL 77 Aw 0:=⟨_,by conv=>lhs;reduce⟩
def oF(k1 k2:Q2):Nat->Q2
 |0,_,_=>none
 |n+1,vs,s=>eU c F bu (oF k1 k2 n) [k1,k2] Gy.1 vs s
def vK(k1 k2:Q2)(n:Nat)(vs:List AV)(s:St):=(by dsimp only[oF,Gy,go_sem,Int.reduceOfNat]:oF c F k1 k2 (n+1) vs s=_)
def Ax:Un->List Q2->Nat->Q2
 |.z,[k1,k2]=>oF c F k1 k2
 |_,_=>λ_=>fH
def Fv:O2:=bg c F (Ax c F) Ig.1 [x0] s
def Ih:=(by dsimp only[Fv,Ig, ↓Ax,go_sem,Int.reduceOfNat]:Fv c F x0 s=_)
def Ay:Sh:=(sq sl (sq (sq sl (sc (sq sl sl) sl)) (sq sl (sq (sq sl (sb (sp 0 [5,23,24,25] [(2,[5])] (sq sl (sq (sc sl sl) (sq (sb (sq sl sl)) sl)))))) (sq sl sl)))))
def Ii:PX 86 Ay:=⟨_,by conv=>lhs;reduce⟩
def Gz:PL 86 Ay 0:=⟨_,by conv=>lhs;reduce⟩
def oG(k2:Q2):Nat->Q2
 |0,_,_=>none
 |n+1,vs,s=>eU c F bu (oG k2 n) [k2] Gz.1 vs s
def vL(k2:Q2)(n:Nat)(vs:List AV)(s:St):=(by dsimp only[oG,Gz,go_sem,Int.reduceOfNat]:oG c F k2 (n+1) vs s=_)
def Az:Un->List Q2->Nat->Q2
 |.z,[k2]=>oG c F k2
 |_,_=>λ_=>fH
def Fw:O2:=bg c F (Az c F) Ii.1 [x0,x1] s
def Ij:=(by dsimp only[Fw,Ii, ↓Az,go_sem,Int.reduceOfNat]:Fw c F x0 x1 s=_)
def vM:Sh:=(sq sl (sq sl sl))
def vN:PX 101 vM:=⟨_,by conv=>lhs;reduce⟩
def qj:O2:=bg c F bu vN.1 [x0] s
def Fx:=(by dsimp only[qj,vN,go_sem,Int.reduceOfNat]:qj c F x0 s=_)
def nP:Sh:=(sq sl (sq sl (sq (sq sl (sc (sq sl sl) sl)) (sq sl (sq (sq sl (sc (sq sl sl) sl)) (sq (sq sl (sc (sq sl sl) sl)) (sq (sq sl (sb (sp 0 [1,7] [(1,[2,3]),(2,[1])] (sq (sq sl (sc sl sl)) (sq (sb (sq sl (sc (sq sl sl) sl))) sl))))) (sq (sq sl (sc (sq sl sl) sl)) (sq sl sl)))))))))
def vO:PX 108 nP:=⟨_,by conv=>lhs;reduce⟩
def uz:PL 108 nP 0:=⟨_,by conv=>lhs;reduce⟩
def e8(k1 k2:Q2):Nat->Q2
 |0,_,_=>none
 |n+1,vs,s=>eU c F bu (e8 k1 k2 n) [k1,k2] uz.1 vs s
def rA(k1 k2:Q2)(n:Nat)(vs:List AV)(s:St):=(by dsimp only[e8,uz,go_sem,Int.reduceOfNat]:e8 c F k1 k2 (n+1) vs s=_)
def nQ:Un->List Q2->Nat->Q2
 |.z,[k1,k2]=>e8 c F k1 k2
 |_,_=>λ_=>fH
def qk:O2:=bg c F (nQ c F) vO.1 [x0] s
def Fy:=(by dsimp only[qk,vO, ↓nQ,go_sem,Int.reduceOfNat]:qk c F x0 s=_)
def vP:Sh:=(sq sl (sq sl (sq (sq sl (sc (sq sl sl) sl)) (sq (sq sl (sc (sq sl sl) sl)) (sq (sq sl (sc (sq sl sl) sl)) (sq (sq sl (sc (sq sl sl) sl)) (sq (sq sl (sc (sq sl sl) sl)) (sq (sq sl (sc (sq sl sl) sl)) (sq (sq sl (sc (sq sl sl) sl)) (sq sl (sq (sq sl (sc (sq sl sl) sl)) (sq sl (sq sl (sj [2,3,5,6,7,8] (sq sl (sc sl sl)) (sj [3,5,7,8] (sq sl (sc sl sl)) (sq (sq sl (sc (sq sl sl) sl)) (sq sl sl)))))))))))))))))
def vQ:PX 109 vP:=⟨_,by conv=>lhs;reduce⟩
def ql:O2:=bg c F bu vQ.1 [x0,x1] s
def Fz:=(by dsimp only[ql,vQ,go_sem,Int.reduceOfNat]:ql c F x0 x1 s=_)
def nR:Sh:=(sq sl (sq sl (sq (sq sl (sb (sp 0 [0,1,5,6] [(2,[5])] (sq (sq sl (sc sl sl)) (sq (sb sl) sl))))) (sq sl sl))))
def vR:PX 111 nR:=⟨_,by conv=>lhs;reduce⟩
def uA:PL 111 nR 0:=⟨_,by conv=>lhs;reduce⟩
def e9(k2:Q2):Nat->Q2
 |0,_,_=>none
 |n+1,vs,s=>eU c F bu (e9 k2 n) [k2] uA.1 vs s
def rC(k2:Q2)(n:Nat)(vs:List AV)(s:St):=(by dsimp only[e9,uA,go_sem,Int.reduceOfNat]:e9 c F k2 (n+1) vs s=_)
def nS:Un->List Q2->Nat->Q2
 |.z,[k2]=>e9 c F k2
 |_,_=>λ_=>fH
def qm:O2:=bg c F (nS c F) vR.1 [x0,x1] s
def FA:=(by dsimp only[qm,vR, ↓nS,go_sem,Int.reduceOfNat]:qm c F x0 x1 s=_)
def Ik:Sh:=(sq sl (sq sl (sq sl sl)))
def Il:PX 116 Ik:=⟨_,by conv=>lhs;reduce⟩
def FB:O2:=bg c F bu Il.1 [x0] s
def RJ:=(by dsimp only[FB,Il,go_sem,Int.reduceOfNat]:FB c F x0 s=_)
def B6:Sh:=(sq sl (sq (sq sl (sc (sq sl sl) sl)) (sq sl sl)))
def B7:PX 117 B6:=⟨_,by conv=>lhs;reduce⟩
def yE:O2:=bg c F bu B7.1 [x0] s
def Mu:=(by dsimp only[yE,B7,go_sem,Int.reduceOfNat]:yE c F x0 s=_)
def wT:Sh:=(sq sl (sj [] (sq sl (sb (sq sl (sc (sq sl (sc (sq sl sl) sl)) (sq sl (sc (sq sl (sc (sq sl sl) sl)) (sq sl (sc (sq sl (sc (sq sl sl) sl)) (sq sl (sc (sq sl (sc (sq sl sl) sl)) sl)))))))))) (sq sl sl)))
def wU:PX 118 wT:=⟨_,by conv=>lhs;reduce⟩
def rW:O2:=bg c F bu wU.1 [x0] s
def GQ:=(by dsimp only[rW,wU,go_sem,Int.reduceOfNat]:rW c F x0 s=_)
def AA:Sh:=(sq sl (sq (sq sl (sq sl (sc (sq sl sl) sl))) (sq (sq sl (sq sl (sc (sq sl sl) sl))) (sq (sq sl (sc (sq sl sl) sl)) (sq (sq sl (sb (sp 0 [1,47,48,49] [(1,[2,3]),(2,[1])] (sq sl (sq (sc sl sl) (sq (sb (sq sl (sq sl (sc (sq sl sl) sl)))) sl)))))) (sq (sq sl (sc (sq sl sl) sl)) (sq sl sl)))))))
def Im:PX 119 AA:=⟨_,by conv=>lhs;reduce⟩
def GC:PL 119 AA 0:=⟨_,by conv=>lhs;reduce⟩
def kN(k1 k2:Q2):Nat->Q2
 |0,_,_=>none
 |n+1,vs,s=>eU c F bu (kN k1 k2 n) [k1,k2] GC.1 vs s
def B8(k1 k2:Q2)(n:Nat)(vs:List AV)(s:St):=(by dsimp only[kN,GC,go_sem,Int.reduceOfNat]:kN c F k1 k2 (n+1) vs s=_)
def AD:Un->List Q2->Nat->Q2
 |.z,[k1,k2]=>kN c F k1 k2
 |_,_=>λ_=>fH
def FC:O2:=bg c F (AD c F) Im.1 [x0] s
def RK:=(by dsimp only[FC,Im, ↓AD,go_sem,Int.reduceOfNat]:FC c F x0 s=_)
def Io:Sh:=(sq sl (sq sl sl))
def Ip:PX 120 Io:=⟨_,by conv=>lhs;reduce⟩
def FD:O2:=bg c F bu Ip.1 [] s
def RL:=(by dsimp only[FD,Ip,go_sem,Int.reduceOfNat]:FD c F s=_)
def yX:Sh:=(sq sl (sj [3,4,5] (sb (sq sl (sc (sq sl sl) (sq sl (sc (sq sl sl) (sq sl (sc (sq sl sl) (sj [3,4,5,28] (sq sl (sc sl (sq sl (sc sl sl)))) (sc (sq sl sl) (sq sl (sc (sq sl sl) (sq sl (sc (sq sl sl) sl))))))))))))) (sq sl (sq (sq sl (sc (sq sl sl) sl)) (sq sl (sj [3,5,9] (sq sl (sc sl sl)) (sq (sq sl (sc (sq sl sl) sl)) (sq sl sl))))))))
def yY:PX 121 yX:=⟨_,by conv=>lhs;reduce⟩
def vS:O2:=bg c F bu yY.1 [x0,x1,x2] s
def Jr:=(by dsimp only[vS,yY,go_sem,Int.reduceOfNat]:vS c F x0 x1 x2 s=_)
def J5:Sh:=(sq sl (sq sl (sq (sq sl (sc (sq sl sl) sl)) (sq sl sl))))
def J6:PX 125 J5:=⟨_,by conv=>lhs;reduce⟩
def Iq:O2:=bg c F bu J6.1 [x0] s
def Te:=(by dsimp only[Iq,J6,go_sem,Int.reduceOfNat]:Iq c F x0 s=_)
def AE:Sh:=(sq sl (sq sl (sq sl (sq (sb (sq sl (sc (sq sl sl) (sq sl (sc (sq sl sl) sl))))) (sq (sq sl (sb (sp 0 [1,3,4,18,19,20] [(1,[2]),(3,[1])] (sq sl (sq (sc sl sl) (sq (sb (sq sl (sq (sq sl (sc (sq sl sl) sl)) sl))) sl)))))) (sq (sq sl (sc (sq sl sl) sl)) (sq sl sl)))))))
def Ir:PX 129 AE:=⟨_,by conv=>lhs;reduce⟩
def GD:PL 129 AE 0:=⟨_,by conv=>lhs;reduce⟩
def kO(k1 k3:Q2):Nat->Q2
 |0,_,_=>none
 |n+1,vs,s=>eU c F bu (kO k1 k3 n) [k1,k3] GD.1 vs s
def B9(k1 k3:Q2)(n:Nat)(vs:List AV)(s:St):=(by dsimp only[kO,GD,go_sem,Int.reduceOfNat,Int.reduceNegSucc]:kO c F k1 k3 (n+1) vs s=_)
def AG:Un->List Q2->Nat->Q2
 |.z,[k1,k3]=>kO c F k1 k3
 |_,_=>λ_=>fH
def FE:O2:=bg c F (AG c F) Ir.1 [x0] s
def RM:=(by dsimp only[FE,Ir, ↓AG,go_sem,Int.reduceOfNat,Int.reduceNegSucc]:FE c F x0 s=_)
def iG:Sh:=(sq sl (sq (sq sl (sc (sq sl sl) sl)) (sq (sq sl (sb (sp 0 [0,4] [(1,[2,3]),(2,[])] (sq (sq sl (sc sl sl)) (sq (sb (sq (sq sl (sq sl (sc (sq sl sl) sl))) (sq sl (sb (sp 1 [0,4,6] [(1,[2,3]),(4,[0,4])] (sq (sq sl (sc sl sl)) (sq (sb (sq sl (sc (sq sl sl) sl))) sl))))))) sl))))) (sq sl sl))))
def rD:PX 136 iG:=⟨_,by conv=>lhs;reduce⟩
def qo:PL 136 iG 1:=⟨_,by conv=>lhs;reduce⟩
def cY(k1 k4:Q2):Nat->Q2
 |0,_,_=>none
 |n+1,vs,s=>eU c F bu (cY k1 k4 n) [k1,k4] qo.1 vs s
def oH(k1 k4:Q2)(n:Nat)(vs:List AV)(s:St):=(by dsimp only[cY,qo,go_sem,Int.reduceOfNat]:cY c F k1 k4 (n+1) vs s=_)
def qp:Un->List Q2->Nat->Q2
 |(.s .z),[k1,k4]=>cY c F k1 k4
 |_,_=>λ_=>fH
def qq:PL 136 iG 0:=⟨_,by conv=>lhs;reduce⟩
def dW(k1 k2:Q2):Nat->Q2
 |0,_,_=>none
 |n+1,vs,s=>eU c F (qp c F) (dW k1 k2 n) [k1,k2] qq.1 vs s
def oI(k1 k2:Q2)(n:Nat)(vs:List AV)(s:St):=(by dsimp only[dW,qq, ↓qp,go_sem,Int.reduceOfNat]:dW c F k1 k2 (n+1) vs s=_)
def kq:Un->List Q2->Nat->Q2
 |.z,[k1,k2]=>dW c F k1 k2
 |(.s .z),[k1,k4]=>cY c F k1 k4
 |_,_=>λ_=>fH
def mE:O2:=bg c F (kq c F) rD.1 [x0] s
def Bj:=(by dsimp only[mE,rD, ↓kq,go_sem,Int.reduceOfNat]:mE c F x0 s=_)
def ij:Sh:=(sq sl (sq (sq sl (sb (sp 0 [1,4] [(1,[2,3]),(2,[1])] (sq (sq sl (sc sl sl)) (sq (sb (sq (sq sl (sq sl (sc (sq sl sl) sl))) (sq (sq sl (sc (sq sl sl) sl)) (sq sl (sc (sq sl sl) sl))))) sl))))) (sq (sq sl (sb (sp 1 [1,6] [(1,[2,3]),(4,[])] (sq (sq sl (sc sl sl)) (sq (sb (sq sl (sq sl (sq (sq sl (sc (sq sl sl) sl)) (sq (sq sl (sc (sq sl sl) sl)) (sq (sq sl (sc (sq sl sl) sl)) (sq sl (sc (sq sl sl) sl)))))))) sl))))) (sq sl sl))))
def qt:PX 137 ij:=⟨_,by conv=>lhs;reduce⟩
def pS:PL 137 ij 1:=⟨_,by conv=>lhs;reduce⟩
def eV(k1 k4:Q2):Nat->Q2
 |0,_,_=>none
 |n+1,vs,s=>eU c F bu (eV k1 k4 n) [k1,k4] pS.1 vs s
def jg(k1 k4:Q2)(n:Nat)(vs:List AV)(s:St):=(by dsimp only[eV,pS,go_sem,Int.reduceOfNat]:eV c F k1 k4 (n+1) vs s=_)
def pT:PL 137 ij 0:=⟨_,by conv=>lhs;reduce⟩
def eW(k1 k2:Q2):Nat->Q2
 |0,_,_=>none
 |n+1,vs,s=>eU c F bu (eW k1 k2 n) [k1,k2] pT.1 vs s
def nv(k1 k2:Q2)(n:Nat)(vs:List AV)(s:St):=(by dsimp only[eW,pT,go_sem,Int.reduceOfNat]:eW c F k1 k2 (n+1) vs s=_)
def jZ:Un->List Q2->Nat->Q2
 |.z,[k1,k2]=>eW c F k1 k2
 |(.s .z),[k1,k4]=>eV c F k1 k4
 |_,_=>λ_=>fH
def lz:O2:=bg c F (jZ c F) qt.1 [x0] s
def qu:=(by dsimp only[lz,qt, ↓jZ,go_sem,Int.reduceOfNat]:lz c F x0 s=_)
def wV:Sh:=(sq sl (sq sl (sq (sq sl (sc (sq sl sl) sl)) (sq sl sl))))
def wW:PX 138 wV:=⟨_,by conv=>lhs;reduce⟩
def rX:O2:=bg c F bu wW.1 [x0] s
def GR:=(by dsimp only[rX,wW,go_sem,Int.reduceOfNat]:rX c F x0 s=_)
def ya:Sh:=(sq sl (sq sl sl))
def yb:PX 139 ya:=⟨_,by conv=>lhs;reduce⟩
def tO:O2:=bg c F bu yb.1 [x0] s
def Is:=(by dsimp only[tO,yb,go_sem,Int.reduceOfNat]:tO c F x0 s=_)
def yc:Sh:=(sq sl (sq sl sl))
def yd:PX 140 yc:=⟨_,by conv=>lhs;reduce⟩
def tP:O2:=bg c F bu yd.1 [x0] s
def It:=(by dsimp only[tP,yd,go_sem,Int.reduceOfNat]:tP c F x0 s=_)
def uB:Sh:=(sq sl (sq (sq sl (sc (sq sl sl) sl)) (sq (sq sl (sc (sq sl sl) sl)) (sq sl sl))))
def uC:PX 141 uB:=⟨_,by conv=>lhs;reduce⟩
def oW:O2:=bg c F bu uC.1 [x0] s
def DS:=(by dsimp only[oW,uC,go_sem,Int.reduceOfNat]:oW c F x0 s=_)
def uD:Sh:=(sq sl (sq sl sl))
def uE:PX 142 uD:=⟨_,by conv=>lhs;reduce⟩
def oX:O2:=bg c F bu uE.1 [x0] s
def DT:=(by dsimp only[oX,uE,go_sem,Int.reduceOfNat]:oX c F x0 s=_)
def rY:Sh:=(sq sl (sq (sq sl (sb (sp 0 [0,1,5] [(1,[4]),(2,[])] (sq (sq sl (sc sl sl)) (sq (sb (sq sl (sc (sq sl sl) sl))) sl))))) (sq sl sl)))
def yZ:PX 143 rY:=⟨_,by conv=>lhs;reduce⟩
def ye:PL 143 rY 0:=⟨_,by conv=>lhs;reduce⟩
def gG(k1 k2:Q2):Nat->Q2
 |0,_,_=>none
 |n+1,vs,s=>eU c F bu (gG k1 k2 n) [k1,k2] ye.1 vs s
def vT(k1 k2:Q2)(n:Nat)(vs:List AV)(s:St):=(by dsimp only[gG,ye,go_sem,Int.reduceOfNat,Int.reduceNegSucc]:gG c F k1 k2 (n+1) vs s=_)
def rZ:Un->List Q2->Nat->Q2
 |.z,[k1,k2]=>gG c F k1 k2
 |_,_=>λ_=>fH
def vU:O2:=bg c F (rZ c F) yZ.1 [x0,x1] s
def Js:=(by dsimp only[vU,yZ, ↓rZ,go_sem,Int.reduceOfNat,Int.reduceNegSucc]:vU c F x0 x1 s=_)
def r9:Sh:=(sq sl (sq (sq sl (sc (sq sl sl) sl)) (sq (sq sl (sb (sp 0 [0,3] [(1,[2]),(2,[])] (sq (sq sl (sc sl sl)) (sq (sb (sq sl (sc (sq sl sl) sl))) sl))))) (sq sl sl))))
def y6:PX 144 r9:=⟨_,by conv=>lhs;reduce⟩
def yf:PL 144 r9 0:=⟨_,by conv=>lhs;reduce⟩
def gH(k1 k2:Q2):Nat->Q2
 |0,_,_=>none
 |n+1,vs,s=>eU c F bu (gH k1 k2 n) [k1,k2] yf.1 vs s
def vW(k1 k2:Q2)(n:Nat)(vs:List AV)(s:St):=(by dsimp only[gH,yf,go_sem,Int.reduceOfNat]:gH c F k1 k2 (n+1) vs s=_)
def se:Un->List Q2->Nat->Q2
 |.z,[k1,k2]=>gH c F k1 k2
 |_,_=>λ_=>fH
def vX:O2:=bg c F (se c F) y6.1 [x0] s
def Jt:=(by dsimp only[vX,y6, ↓se,go_sem,Int.reduceOfNat]:vX c F x0 s=_)
def lA:Sh:=(sq sl (sq (sq sl (sb (sp 0 [0,1,5] [(1,[4]),(2,[])] (sq (sq sl (sc sl sl)) (sq (sb (sq sl (sc (sq sl sl) sl))) sl))))) (sq sl sl)))
def sD:PX 145 lA:=⟨_,by conv=>lhs;reduce⟩
def rE:PL 145 lA 0:=⟨_,by conv=>lhs;reduce⟩
def ek(k1 k2:Q2):Nat->Q2
 |0,_,_=>none
 |n+1,vs,s=>eU c F bu (ek k1 k2 n) [k1,k2] rE.1 vs s
def pU(k1 k2:Q2)(n:Nat)(vs:List AV)(s:St):=(by dsimp only[ek,rE,go_sem,Int.reduceOfNat,Int.reduceNegSucc]:ek c F k1 k2 (n+1) vs s=_)
def lB:Un->List Q2->Nat->Q2
 |.z,[k1,k2]=>ek c F k1 k2
 |_,_=>λ_=>fH
def nT:O2:=bg c F (lB c F) sD.1 [x0,x1] s
def CE:=(by dsimp only[nT,sD, ↓lB,go_sem,Int.reduceOfNat,Int.reduceNegSucc]:nT c F x0 x1 s=_)
def vY:Sh:=(sq sl (sq (sq sl (sc (sq sl sl) sl)) (sq (sq sl (sb (sp 0 [0,10,11,12] [(1,[2,3]),(2,[])] (sq sl (sq (sc sl sl) (sq (sb (sq sl (sq (sq sl (sq sl (sc (sq sl sl) sl))) (sq sl (sc (sq sl sl) sl))))) sl)))))) (sq sl sl))))
def Ca:PX 148 vY:=⟨_,by conv=>lhs;reduce⟩
def AH:PL 148 vY 0:=⟨_,by conv=>lhs;reduce⟩
def j0(k1 k2:Q2):Nat->Q2
 |0,_,_=>none
 |n+1,vs,s=>eU c F bu (j0 k1 k2 n) [k1,k2] AH.1 vs s
def qv(k1 k2:Q2)(n:Nat)(vs:List AV)(s:St):=(by dsimp only[j0,AH,go_sem,Int.reduceOfNat]:j0 c F k1 k2 (n+1) vs s=_)
def vZ:Un->List Q2->Nat->Q2
 |.z,[k1,k2]=>j0 c F k1 k2
 |_,_=>λ_=>fH
def yF:O2:=bg c F (vZ c F) Ca.1 [x0] s
def Cb:=(by dsimp only[yF,Ca, ↓vZ,go_sem,Int.reduceOfNat]:yF c F x0 s=_)
def uF:Sh:=(sq sl (sq sl sl))
def uG:PX 149 uF:=⟨_,by conv=>lhs;reduce⟩
def oY:O2:=bg c F bu uG.1 [x0,x1,x2] s
def DU:=(by dsimp only[oY,uG,go_sem,Int.reduceOfNat]:oY c F x0 x1 x2 s=_)
def y7:Sh:=(sq sl (sq sl (sq sl sl)))
def y8:PX 150 y7:=⟨_,by conv=>lhs;reduce⟩
def v7:O2:=bg c F bu y8.1 [x0] s
def Ju:=(by dsimp only[v7,y8,go_sem,Int.reduceOfNat]:v7 c F x0 s=_)
def y9:Sh:=(sq sl (sq sl sl))
def za:PX 169 y9:=⟨_,by conv=>lhs;reduce⟩
def v8:O2:=bg c F bu za.1 [x0,x1] s
def Jv:=(by dsimp only[v8,za,go_sem,Int.reduceOfNat]:v8 c F x0 x1 s=_)
def Mw:Sh:=(sq sl (sq sl sl))
def Mx:PX 170 Mw:=⟨_,by conv=>lhs;reduce⟩
def KT:O2:=bg c F bu Mx.1 [x0,x1] s
def Vx:=(by dsimp only[KT,Mx,go_sem,Int.reduceOfNat]:KT c F x0 x1 s=_)
def CG:Sh:=(sq sl (sq (sq sl (sc (sq sl sl) sl)) (sq (sq sl (sb (sp 0 [0,13,14] [(1,[2]),(2,[])] (sq sl (sq (sc sl sl) (sq (sb (sq sl (sq sl (sc (sq sl sl) sl)))) sl)))))) (sq sl sl))))
def J7:PX 171 CG:=⟨_,by conv=>lhs;reduce⟩
def Iu:PL 171 CG 0:=⟨_,by conv=>lhs;reduce⟩
def mF(k1 k2:Q2):Nat->Q2
 |0,_,_=>none
 |n+1,vs,s=>eU c F bu (mF k1 k2 n) [k1,k2] Iu.1 vs s
def DV(k1 k2:Q2)(n:Nat)(vs:List AV)(s:St):=(by dsimp only[mF,Iu,go_sem,Int.reduceOfNat]:mF c F k1 k2 (n+1) vs s=_)
def CH:Un->List Q2->Nat->Q2
 |.z,[k1,k2]=>mF c F k1 k2
 |_,_=>λ_=>fH
def Iv:O2:=bg c F (CH c F) J7.1 [x0] s
def Tf:=(by dsimp only[Iv,J7, ↓CH,go_sem,Int.reduceOfNat]:Iv c F x0 s=_)
def J8:Sh:=(sq sl (sq sl (sq (sq sl (sc (sq sl sl) sl)) (sq sl sl))))
def J9:PX 172 J8:=⟨_,by conv=>lhs;reduce⟩
def Iw:O2:=bg c F bu J9.1 [x0,x1] s
def Tg:=(by dsimp only[Iw,J9,go_sem,Int.reduceOfNat]:Iw c F x0 x1 s=_)
def Cc:Sh:=(sq sl (sq (sq sl (sb (sq sl (sc (sq sl sl) (sq sl (sc (sq sl sl) (sq sl (sc (sq sl sl) (sq sl (sc (sq sl sl) sl)))))))))) (sq sl sl)))
def Cd:PX 173 Cc:=⟨_,by conv=>lhs;reduce⟩
def yG:O2:=bg c F bu Cd.1 [x0] s
def My:=(by dsimp only[yG,Cd,go_sem,Int.reduceOfNat]:yG c F x0 s=_)
def CI:Sh:=(sq sl (sq (sq sl (sb (sp 0 [0,3] [(1,[2]),(2,[0])] (sq (sq sl (sc sl sl)) (sq (sb (sq sl (sc (sq sl sl) sl))) sl))))) (sq sl sl)))
def Ka:PX 184 CI:=⟨_,by conv=>lhs;reduce⟩
def Ix:PL 184 CI 0:=⟨_,by conv=>lhs;reduce⟩
def mG(k1 k2:Q2):Nat->Q2
 |0,_,_=>none
 |n+1,vs,s=>eU c F bu (mG k1 k2 n) [k1,k2] Ix.1 vs s
def DW(k1 k2:Q2)(n:Nat)(vs:List AV)(s:St):=(by dsimp only[mG,Ix,go_sem,Int.reduceOfNat]:mG c F k1 k2 (n+1) vs s=_)
def CJ:Un->List Q2->Nat->Q2
 |.z,[k1,k2]=>mG c F k1 k2
 |_,_=>λ_=>fH
def Iy:O2:=bg c F (CJ c F) Ka.1 [x0] s
def Th:=(by dsimp only[Iy,Ka, ↓CJ,go_sem,Int.reduceOfNat]:Iy c F x0 s=_)
def nU:Sh:=(sq sl (sq sl (sq (sq sl (sc (sq sl sl) sl)) (sq (sq sl (sc (sq sl sl) sl)) (sq (sq sl (sb (sp 0 [1,3,4] [(1,[2]),(2,[1])] (sq (sq sl (sc sl sl)) (sq (sb (sq sl (sc (sq sl sl) sl))) sl))))) (sq (sq sl (sc (sq sl sl) sl)) (sq sl sl)))))))
def v9:PX 189 nU:=⟨_,by conv=>lhs;reduce⟩
def uH:PL 189 nU 0:=⟨_,by conv=>lhs;reduce⟩
def fc(k1 k2:Q2):Nat->Q2
 |0,_,_=>none
 |n+1,vs,s=>eU c F bu (fc k1 k2 n) [k1,k2] uH.1 vs s
def rF(k1 k2:Q2)(n:Nat)(vs:List AV)(s:St):=(by dsimp only[fc,uH,go_sem,Int.reduceOfNat]:fc c F k1 k2 (n+1) vs s=_)
def nV:Un->List Q2->Nat->Q2
 |.z,[k1,k2]=>fc c F k1 k2
 |_,_=>λ_=>fH
def qw:O2:=bg c F (nV c F) v9.1 [x0] s
def FF:=(by dsimp only[qw,v9, ↓nV,go_sem,Int.reduceOfNat]:qw c F x0 s=_)
def nW:Sh:=(sq sl (sq (sq sl (sc (sq sl sl) sl)) (sq (sq sl (sc (sq sl sl) sl)) (sq (sq sl (sc (sq sl sl) sl)) (sq (sq sl (sc (sq sl sl) sl)) (sq (sq sl (sb (sp 0 [1,3] [(1,[2]),(2,[])] (sq (sq sl (sc sl sl)) (sq (sb (sq sl (sc (sq sl sl) sl))) sl))))) (sq sl sl)))))))
def we:PX 190 nW:=⟨_,by conv=>lhs;reduce⟩
def uI:PL 190 nW 0:=⟨_,by conv=>lhs;reduce⟩
def fe(k1 k2:Q2):Nat->Q2
 |0,_,_=>none
 |n+1,vs,s=>eU c F bu (fe k1 k2 n) [k1,k2] uI.1 vs s
def rG(k1 k2:Q2)(n:Nat)(vs:List AV)(s:St):=(by dsimp only[fe,uI,go_sem,Int.reduceOfNat]:fe c F k1 k2 (n+1) vs s=_)
def nX:Un->List Q2->Nat->Q2
 |.z,[k1,k2]=>fe c F k1 k2
 |_,_=>λ_=>fH
def qx:O2:=bg c F (nX c F) we.1 [x0] s
def FG:=(by dsimp only[qx,we, ↓nX,go_sem,Int.reduceOfNat]:qx c F x0 s=_)
def uJ:Sh:=(sq sl (sq sl sl))
def uK:PX 191 uJ:=⟨_,by conv=>lhs;reduce⟩
def oZ:O2:=bg c F bu uK.1 [x0,x1] s
def DX:=(by dsimp only[oZ,uK,go_sem,Int.reduceOfNat]:oZ c F x0 x1 s=_)
def gP:Sh:=(sq sl (sq sl sl))
def gQ:PX 196 gP:=⟨_,by conv=>lhs;reduce⟩
def eE:O2:=bg c F bu gQ.1 [x0,x1] s
def nh:=(by dsimp only[eE,gQ,go_sem,Int.reduceOfNat]:eE c F x0 x1 s=_)
def zb:Sh:=(sq sl (sq sl sl))
def zc:PX 197 zb:=⟨_,by conv=>lhs;reduce⟩
def wh:O2:=bg c F bu zc.1 [x0,x1] s
def Jw:=(by dsimp only[wh,zc,go_sem,Int.reduceOfNat]:wh c F x0 x1 s=_)
def wj:Sh:=(sq sl (sq sl (sq (sq sl (sb (sp 0 [1,5,14,15,16] [(1,[2,3,4]),(2,[1,5])] (sq sl (sq (sc sl sl) (sq (sb (sq sl (sq sl (sq sl (sc (sq sl sl) sl))))) sl)))))) (sq (sq sl (sb (sp 1 [1,5,30,31,32] [(1,[2,3,4]),(4,[5])] (sq sl (sq (sc sl sl) (sj [1,5,30,31,32] (sb (sq sl (sq sl (sj [1,5,9,11,30,31,32] (sq sl (sc sl sl)) (sq sl (sc (sq sl sl) sl)))))) sl)))))) (sq sl sl)))))
def Iz:PX 198 wj:=⟨_,by conv=>lhs;reduce⟩
def GF:PL 198 wj 1:=⟨_,by conv=>lhs;reduce⟩
def iB(k1 k4:Q2):Nat->Q2
 |0,_,_=>none
 |n+1,vs,s=>eU c F bu (iB k1 k4 n) [k1,k4] GF.1 vs s
def pV(k1 k4:Q2)(n:Nat)(vs:List AV)(s:St):=(by dsimp only[iB,GF,go_sem,Int.reduceOfNat]:iB c F k1 k4 (n+1) vs s=_)
def GG:PL 198 wj 0:=⟨_,by conv=>lhs;reduce⟩
def gq(k1 k2:Q2):Nat->Q2
 |0,_,_=>none
 |n+1,vs,s=>eU c F bu (gq k1 k2 n) [k1,k2] GG.1 vs s
def pW(k1 k2:Q2)(n:Nat)(vs:List AV)(s:St):=(by dsimp only[gq,GG,go_sem,Int.reduceOfNat]:gq c F k1 k2 (n+1) vs s=_)
def AI:Un->List Q2->Nat->Q2
 |.z,[k1,k2]=>gq c F k1 k2
 |(.s .z),[k1,k4]=>iB c F k1 k4
 |_,_=>λ_=>fH
def wm:O2:=bg c F (AI c F) Iz.1 [x0] s
def RN:=(by dsimp only[wm,Iz, ↓AI,go_sem,Int.reduceOfNat]:wm c F x0 s=_)
def eM:Sh:=(sq sl (sq (sq sl (sb (sp 0 [0,1,7,8] [(1,[4]),(2,[])] (sq sl (sq (sc sl sl) (sq (sb (sq sl (sq sl (sc (sq sl sl) sl)))) sl)))))) (sq sl sl)))
def iL:PX 213 eM:=⟨_,by conv=>lhs;reduce⟩
def iC:PL 213 eM 0:=⟨_,by conv=>lhs;reduce⟩
def bH(k1 k2:Q2):Nat->Q2
 |0,_,_=>none
 |n+1,vs,s=>eU c F bu (bH k1 k2 n) [k1,k2] iC.1 vs s
def gR(k1 k2:Q2)(n:Nat)(vs:List AV)(s:St):=(by dsimp only[bH,iC,go_sem,Int.reduceOfNat,Int.reduceNegSucc]:bH c F k1 k2 (n+1) vs s=_)
def eN:Un->List Q2->Nat->Q2
 |.z,[k1,k2]=>bH c F k1 k2
 |_,_=>λ_=>fH
def fu:O2:=bg c F (eN c F) iL.1 [x0,x1] s
def o6:=(by dsimp only[fu,iL, ↓eN,go_sem,Int.reduceOfNat,Int.reduceNegSucc]:fu c F x0 x1 s=_)
def IA:Sh:=(sq sl (sq sl sl))
def IB:PX 214 IA:=⟨_,by conv=>lhs;reduce⟩
def FH:O2:=bg c F bu IB.1 [x0,x1] s
def RO:=(by dsimp only[FH,IB,go_sem,Int.reduceOfNat]:FH c F x0 x1 s=_)
def eO:Sh:=(sq sl (sq (sq sl (sb (sp 0 [0,1,7,8] [(1,[4]),(2,[])] (sq sl (sq (sc sl sl) (sq (sb (sq sl (sq sl (sc (sq sl sl) sl)))) sl)))))) (sq sl sl)))
def iM:PX 215 eO:=⟨_,by conv=>lhs;reduce⟩
def iD:PL 215 eO 0:=⟨_,by conv=>lhs;reduce⟩
def bI(k1 k2:Q2):Nat->Q2
 |0,_,_=>none
 |n+1,vs,s=>eU c F bu (bI k1 k2 n) [k1,k2] iD.1 vs s
def gS(k1 k2:Q2)(n:Nat)(vs:List AV)(s:St):=(by dsimp only[bI,iD,go_sem,Int.reduceOfNat,Int.reduceNegSucc]:bI c F k1 k2 (n+1) vs s=_)
def eP:Un->List Q2->Nat->Q2
 |.z,[k1,k2]=>bI c F k1 k2
 |_,_=>λ_=>fH
def fy:O2:=bg c F (eP c F) iM.1 [x0,x1] s
def o7:=(by dsimp only[fy,iM, ↓eP,go_sem,Int.reduceOfNat,Int.reduceNegSucc]:fy c F x0 x1 s=_)
def GH:Sh:=(sq sl (sq sl sl))
def GI:PX 216 GH:=⟨_,by conv=>lhs;reduce⟩
def CL:O2:=bg c F bu GI.1 [x0,x1] s
def Po:=(by dsimp only[CL,GI,go_sem,Int.reduceOfNat]:CL c F x0 x1 s=_)
def zd:Sh:=(sq sl (sq (sq sl (sc (sq sl sl) sl)) (sq sl sl)))
def ze:PX 217 zd:=⟨_,by conv=>lhs;reduce⟩
def wo:O2:=bg c F bu ze.1 [x0,x1] s
def Jx:=(by dsimp only[wo,ze,go_sem,Int.reduceOfNat]:wo c F x0 x1 s=_)
def AK:Sh:=(sq sl (sq (sq sl (sc (sq sl sl) sl)) (sq sl sl)))
def AL:PX 222 AK:=⟨_,by conv=>lhs;reduce⟩
def xy:O2:=bg c F bu AL.1 [x0,x1] s
def KU:=(by dsimp only[xy,AL,go_sem,Int.reduceOfNat]:xy c F x0 x1 s=_)
def AM:Sh:=(sq sl (sq (sq sl (sc (sq sl sl) sl)) (sq sl sl)))
def AN:PX 227 AM:=⟨_,by conv=>lhs;reduce⟩
def xz:O2:=bg c F bu AN.1 [x0,x1] s
def KV:=(by dsimp only[xz,AN,go_sem,Int.reduceOfNat]:xz c F x0 x1 s=_)
def Ce:Sh:=(sq sl (sq (sq sl (sc (sq sl sl) sl)) (sq sl sl)))
def Cf:PX 232 Ce:=⟨_,by conv=>lhs;reduce⟩
def yH:O2:=bg c F bu Cf.1 [x0,x1] s
def Mz:=(by dsimp only[yH,Cf,go_sem,Int.reduceOfNat]:yH c F x0 x1 s=_)
def o8:Sh:=(sq sl (sq (sq sl (sc (sq sl sl) sl)) (sq (sq sl (sb (sp 0 [0,3] [(1,[2]),(2,[])] (sq (sq sl (sc sl sl)) (sq (sb (sq sl (sc (sq sl sl) sl))) sl))))) (sq sl sl))))
def wX:PX 251 o8:=⟨_,by conv=>lhs;reduce⟩
def wq:PL 251 o8 0:=⟨_,by conv=>lhs;reduce⟩
def fF(k1 k2:Q2):Nat->Q2
 |0,_,_=>none
 |n+1,vs,s=>eU c F bu (fF k1 k2 n) [k1,k2] wq.1 vs s
def sF(k1 k2:Q2)(n:Nat)(vs:List AV)(s:St):=(by dsimp only[fF,wq,go_sem,Int.reduceOfNat]:fF c F k1 k2 (n+1) vs s=_)
def o9:Un->List Q2->Nat->Q2
 |.z,[k1,k2]=>fF c F k1 k2
 |_,_=>λ_=>fH
def sg:O2:=bg c F (o9 c F) wX.1 [x0] s
def GU:=(by dsimp only[sg,wX, ↓o9,go_sem,Int.reduceOfNat]:sg c F x0 s=_)
def Kb:Sh:=(sq sl (sq sl sl))
def Kc:PX 256 Kb:=⟨_,by conv=>lhs;reduce⟩
def IC:O2:=bg c F bu Kc.1 [] s
def Ti:=(by dsimp only[IC,Kc,go_sem,Int.reduceOfNat]:IC c F s=_)
def AO:Sh:=(sq sl (sq (sq sl (sc (sq sl sl) sl)) (sq (sq sl (sq sl (sc (sq sl sl) sl))) (sq (sq sl (sq sl (sc (sq sl sl) sl))) (sq (sq sl (sc (sq sl sl) sl)) (sq sl (sq sl (sq sl sl))))))))
def AP:PX 257 AO:=⟨_,by conv=>lhs;reduce⟩
def rj:O2:=bg c F bu AP.1 [x0,x1] s
def nY:=(by dsimp only[rj,AP,go_sem,Int.reduceOfNat]:rj c F x0 x1 s=_)
def GJ:Sh:=(sq sl (sq (sq sl (sq sl (sc (sq sl sl) sl))) (sq sl sl)))
def GK:PX 258 GJ:=⟨_,by conv=>lhs;reduce⟩
def CM:O2:=bg c F bu GK.1 [x0,x1] s
def Pp:=(by dsimp only[CM,GK,go_sem,Int.reduceOfNat]:CM c F x0 x1 s=_)
def tQ:Sh:=(sq sl (sq (sq sl (sc (sq sl sl) sl)) (sq (sq sl (sc (sq sl sl) sl)) (sq (sq sl (sb (sp 0 [0,1,2,3,30,31,32] [(1,[8]),(2,[0,1,2,3])] (sq sl (sq (sc sl sl) (sq (sb (sq sl (sq sl (sq sl (sc (sq sl sl) sl))))) sl)))))) (sq sl (sq (sq sl (sc (sq sl sl) sl)) (sq (sq sl (sc (sq sl sl) sl)) (sq sl (sq sl sl)))))))))
def AQ:PX 259 tQ:=⟨_,by conv=>lhs;reduce⟩
def zf:PL 259 tQ 0:=⟨_,by conv=>lhs;reduce⟩
def iw(k1 k2:Q2):Nat->Q2
 |0,_,_=>none
 |n+1,vs,s=>eU c F bu (iw k1 k2 n) [k1,k2] zf.1 vs s
def pg(k1 k2:Q2)(n:Nat)(vs:List AV)(s:St):=(by dsimp only[iw,zf,go_sem,Int.reduceOfNat]:iw c F k1 k2 (n+1) vs s=_)
def tR:Un->List Q2->Nat->Q2
 |.z,[k1,k2]=>iw c F k1 k2
 |_,_=>λ_=>fH
def rm:O2:=bg c F (tR c F) AQ.1 [x0,x1,x2,x3] s
def nZ:=(by dsimp only[rm,AQ, ↓tR,go_sem,Int.reduceOfNat]:rm c F x0 x1 x2 x3 s=_)
def zg:Sh:=(sq sl (sq sl sl))
def zh:PX 297 zg:=⟨_,by conv=>lhs;reduce⟩
def wu:O2:=bg c F bu zh.1 [x0] s
def Jy:=(by dsimp only[wu,zh,go_sem,Int.reduceOfNat]:wu c F x0 s=_)
def yI:Sh:=(sq sl (sq (sb (sq sl (sc (sq sl sl) (sq sl (sc (sq sl sl) (sq sl (sc (sq sl sl) (sq sl (sc (sq sl sl) sl))))))))) (sq (sq sl (sb (sp 0 [1,52,53,54] [(1,[2]),(3,[])] (sq sl (sq (sc sl sl) (sq (sb (sq sl (sq sl (sc (sq sl sl) sl)))) sl)))))) (sq sl sl))))
def GL:PX 298 yI:=⟨_,by conv=>lhs;reduce⟩
def DY:PL 298 yI 0:=⟨_,by conv=>lhs;reduce⟩
def jN(k1 k3:Q2):Nat->Q2
 |0,_,_=>none
 |n+1,vs,s=>eU c F bu (jN k1 k3 n) [k1,k3] DY.1 vs s
def AR(k1 k3:Q2)(n:Nat)(vs:List AV)(s:St):=(by dsimp only[jN,DY,go_sem,Int.reduceOfNat]:jN c F k1 k3 (n+1) vs s=_)
def yJ:Un->List Q2->Nat->Q2
 |.z,[k1,k3]=>jN c F k1 k3
 |_,_=>λ_=>fH
def CN:O2:=bg c F (yJ c F) GL.1 [x0] s
def Pq:=(by dsimp only[CN,GL, ↓yJ,go_sem,Int.reduceOfNat]:CN c F x0 s=_)
def DZ:Sh:=(sq sl (sq sl (sq sl sl)))
def D3:PX 299 DZ:=⟨_,by conv=>lhs;reduce⟩
def AS:O2:=bg c F bu D3.1 [x0] s
def Nu:=(by dsimp only[AS,D3,go_sem,Int.reduceOfNat]:AS c F x0 s=_)
def zi:Sh:=(sq sl (sq sl sl))
def zj:PX 300 zi:=⟨_,by conv=>lhs;reduce⟩
def wz:O2:=bg c F bu zj.1 [x0,x1] s
def Jz:=(by dsimp only[wz,zj,go_sem,Int.reduceOfNat]:wz c F x0 x1 s=_)
def yg:Sh:=(sq sl (sq sl sl))
def yh:PX 301 yg:=⟨_,by conv=>lhs;reduce⟩
def tS:O2:=bg c F bu yh.1 [x0,x1,x2] s
def ID:=(by dsimp only[tS,yh,go_sem,Int.reduceOfNat]:tS c F x0 x1 x2 s=_)
def j9:Sh:=(sq sl (sq sl (sq sl (sq (sq sl (sc (sq sl sl) sl)) (sq sl (sq (sq sl (sc (sq sl sl) sl)) (sq (sq sl (sc (sq sl (sq sl (sq sl (sq sl sl)))) sl)) (sq sl (sq (sq sl (sc (sq sl (sq sl (sq sl sl))) sl)) (sq sl (sq sl (sq sl sl))))))))))))
def ke:PX 302 j9:=⟨_,by conv=>lhs;reduce⟩
def iE:O2:=bg c F bu ke.1 [x0,x1,x2] s
def uV:=(by dsimp only[iE,ke,go_sem,Int.reduceOfNat]:iE c F x0 x1 x2 s=_)
def IE:Sh:=(sq sl (sq sl sl))
def IF:PX 303 IE:=⟨_,by conv=>lhs;reduce⟩
def FI:O2:=bg c F bu IF.1 [x0,x1,x2] s
def RP:=(by dsimp only[FI,IF,go_sem,Int.reduceOfNat]:FI c F x0 x1 x2 s=_)
def AT:Sh:=(sq sl (sq (sq sl (sc (sq sl sl) sl)) (sq (sq sl (sb (sp 0 [0,13,14] [(1,[2]),(2,[])] (sq sl (sq (sc sl sl) (sq (sb (sq sl (sq sl (sc (sq sl sl) sl)))) sl)))))) (sq sl sl))))
def IG:PX 317 AT:=⟨_,by conv=>lhs;reduce⟩
def GM:PL 317 AT 0:=⟨_,by conv=>lhs;reduce⟩
def kP(k1 k2:Q2):Nat->Q2
 |0,_,_=>none
 |n+1,vs,s=>eU c F bu (kP k1 k2 n) [k1,k2] GM.1 vs s
def Cg(k1 k2:Q2)(n:Nat)(vs:List AV)(s:St):=(by dsimp only[kP,GM,go_sem,Int.reduceOfNat]:kP c F k1 k2 (n+1) vs s=_)
def AU:Un->List Q2->Nat->Q2
 |.z,[k1,k2]=>kP c F k1 k2
 |_,_=>λ_=>fH
def FJ:O2:=bg c F (AU c F) IG.1 [x0] s
def RQ:=(by dsimp only[FJ,IG, ↓AU,go_sem,Int.reduceOfNat]:FJ c F x0 s=_)
def II:Sh:=(sq sl (sq sl sl))
def IJ:PX 318 II:=⟨_,by conv=>lhs;reduce⟩
def FK:O2:=bg c F bu IJ.1 [x0] s
def RR:=(by dsimp only[FK,IJ,go_sem,Int.reduceOfNat]:FK c F x0 s=_)
def mH:Sh:=(sq sl (sq (sq sl (sc (sq sl sl) sl)) (sq sl sl)))
def mI:PX 319 mH:=⟨_,by conv=>lhs;reduce⟩
def jt:O2:=bg c F bu mI.1 [x0] s
def mJ:=(by dsimp only[jt,mI,go_sem,Int.reduceOfNat]:jt c F x0 s=_)
def rH:Sh:=(sq sl (sq sl sl))
def rI:PX 320 rH:=⟨_,by conv=>lhs;reduce⟩
def mK:O2:=bg c F bu rI.1 [x0,x1] s
def Bk:=(by dsimp only[mK,rI,go_sem,Int.reduceOfNat]:mK c F x0 x1 s=_)
def cP:Sh:=(sq sl (sq sl (sq sl (sq (sb (sp 0 [0,2,4,8,9,10] [(2,[0,2,4,8,9])] (sq (sq sl (sc sl sl)) (sb (sq sl (sq sl (sc sl sl))))))) (sq sl sl)))))
def ff:PX 321 cP:=⟨_,by conv=>lhs;reduce⟩
def eX:PL 321 cP 0:=⟨_,by conv=>lhs;reduce⟩
def aK(k2:Q2):Nat->Q2
 |0,_,_=>none
 |n+1,vs,s=>eU c F bu (aK k2 n) [k2] eX.1 vs s
def cF(k2:Q2)(n:Nat)(vs:List AV)(s:St):=(by dsimp only[aK,eX,go_sem,Int.reduceOfNat]:aK c F k2 (n+1) vs s=_)
def cQ:Un->List Q2->Nat->Q2
 |.z,[k2]=>aK c F k2
 |_,_=>λ_=>fH
def dc:O2:=bg c F (cQ c F) ff.1 [x0,x1,x2] s
def jO:=(by dsimp only[dc,ff, ↓cQ,go_sem,Int.reduceOfNat]:dc c F x0 x1 x2 s=_)
end
section
variable{c:ah}(hc:Sem c)(F:Nat){x0 x1 x2 x3 x4 x5 x6 x7 x8 x9 B5 Ib:AV}{s:St}{r:AV×St}
include hc
theorem IK(h:xx c F x0 x1 s=some r):c 44 [x0,x1] s=some (tidy s r):=hc.o0 F Au (by kernel_rfl) (by kernel_rfl) h
theorem CO(h:qi c F x0 s=some r):c 53 [x0] s=some (tidy s r):=hc.o1 F (nO c F) nN (by kernel_rfl) (by kernel_rfl) (λ_ _ _=>by kernel_rfl) (λ_ _ _ _=>by kernel_rfl) (by kernel_rfl) h
theorem Nv(h:Fu c F x0 s=some r):c 72 [x0] s=some (tidy s r):=hc.o0 F Ic (by kernel_rfl) (by kernel_rfl) h
theorem D4(h:Fv c F x0 s=some r):c 77 [x0] s=some (tidy s r):=hc.o1 F (Ax c F) Aw (by kernel_rfl) (by kernel_rfl) (λ_ _ _=>by kernel_rfl) (λ_ _ _ _=>by kernel_rfl) (by kernel_rfl) h
theorem D5(h:Fw c F x0 x1 s=some r):c 86 [x0,x1] s=some (tidy s r):=hc.o1 F (Az c F) Ay (by kernel_rfl) (by kernel_rfl) (λ_ _ _=>by kernel_rfl) (λ_ _ _ _=>by kernel_rfl) (by kernel_rfl) h
theorem CP(h:qj c F x0 s=some r):c 101 [x0] s=some (tidy s r):=hc.o0 F vM (by kernel_rfl) (by kernel_rfl) h
theorem CQ(h:qk c F x0 s=some r):c 108 [x0] s=some (tidy s r):=hc.o1 F (nQ c F) nP (by kernel_rfl) (by kernel_rfl) (λ_ _ _=>by kernel_rfl) (λ_ _ _ _=>by kernel_rfl) (by kernel_rfl) h
theorem CR(h:ql c F x0 x1 s=some r):c 109 [x0,x1] s=some (tidy s r):=hc.o0 F vP (by kernel_rfl) (by kernel_rfl) h
theorem CS(h:qm c F x0 x1 s=some r):c 111 [x0,x1] s=some (tidy s r):=hc.o1 F (nS c F) nR (by kernel_rfl) (by kernel_rfl) (λ_ _ _=>by kernel_rfl) (λ_ _ _ _=>by kernel_rfl) (by kernel_rfl) h
theorem Nw(h:FB c F x0 s=some r):c 116 [x0] s=some (tidy s r):=hc.o0 F Ik (by kernel_rfl) (by kernel_rfl) h
theorem JA(h:yE c F x0 s=some r):c 117 [x0] s=some (tidy s r):=hc.o0 F B6 (by kernel_rfl) (by kernel_rfl) h
theorem D6(h:rW c F x0 s=some r):c 118 [x0] s=some (tidy s r):=hc.o0 F wT (by kernel_rfl) (by kernel_rfl) h
theorem Nx(h:FC c F x0 s=some r):c 119 [x0] s=some (tidy s r):=hc.o1 F (AD c F) AA (by kernel_rfl) (by kernel_rfl) (λ_ _ _=>by kernel_rfl) (λ_ _ _ _=>by kernel_rfl) (by kernel_rfl) h
theorem Ny(h:FD c F s=some r):c 120 [] s=some (tidy s r):=hc.o0 F Io (by kernel_rfl) (by kernel_rfl) h
theorem GV(h:vS c F x0 x1 x2 s=some r):c 121 [x0,x1,x2] s=some (tidy s r):=hc.o0 F yX (by kernel_rfl) (by kernel_rfl) h
theorem Pr(h:Iq c F x0 s=some r):c 125 [x0] s=some (tidy s r):=hc.o0 F J5 (by kernel_rfl) (by kernel_rfl) h
theorem Nz(h:FE c F x0 s=some r):c 129 [x0] s=some (tidy s r):=hc.o1 F (AG c F) AE (by kernel_rfl) (by kernel_rfl) (λ_ _ _=>by kernel_rfl) (λ_ _ _ _=>by kernel_rfl) (by kernel_rfl) h
theorem zy(h:mE c F x0 s=some r):c 136 [x0] s=some (tidy s r):=hc.oL F (kq c F) iG 2 (by kernel_rfl) (λi hi=>match i,hi with|0,_=>nL 0 (by kernel_rfl) (λ_ _ _=>by kernel_rfl) (λ_ _ _ _=>by kernel_rfl)|1,_=>nL 1 (by kernel_rfl) (λ_ _ _=>by kernel_rfl) (λ_ _ _ _=>by kernel_rfl)|n+2,h=>absurd h (by omega)) (by kernel_rfl) h
theorem oJ(h:lz c F x0 s=some r):c 137 [x0] s=some (tidy s r):=hc.oL F (jZ c F) ij 2 (by kernel_rfl) (λi hi=>match i,hi with|0,_=>nL 0 (by kernel_rfl) (λ_ _ _=>by kernel_rfl) (λ_ _ _ _=>by kernel_rfl)|1,_=>nL 1 (by kernel_rfl) (λ_ _ _=>by kernel_rfl) (λ_ _ _ _=>by kernel_rfl)|n+2,h=>absurd h (by omega)) (by kernel_rfl) h
theorem D7(h:rX c F x0 s=some r):c 138 [x0] s=some (tidy s r):=hc.o0 F wV (by kernel_rfl) (by kernel_rfl) h
theorem FL(h:tO c F x0 s=some r):c 139 [x0] s=some (tidy s r):=hc.o0 F ya (by kernel_rfl) (by kernel_rfl) h
theorem FM(h:tP c F x0 s=some r):c 140 [x0] s=some (tidy s r):=hc.o0 F yc (by kernel_rfl) (by kernel_rfl) h
theorem Bl(h:oW c F x0 s=some r):c 141 [x0] s=some (tidy s r):=hc.o0 F uB (by kernel_rfl) (by kernel_rfl) h
theorem Bm(h:oX c F x0 s=some r):c 142 [x0] s=some (tidy s r):=hc.o0 F uD (by kernel_rfl) (by kernel_rfl) h
theorem GW(h:vU c F x0 x1 s=some r):c 143 [x0,x1] s=some (tidy s r):=hc.o1 F (rZ c F) rY (by kernel_rfl) (by kernel_rfl) (λ_ _ _=>by kernel_rfl) (λ_ _ _ _=>by kernel_rfl) (by kernel_rfl) h
theorem GX(h:vX c F x0 s=some r):c 144 [x0] s=some (tidy s r):=hc.o1 F (se c F) r9 (by kernel_rfl) (by kernel_rfl) (λ_ _ _=>by kernel_rfl) (λ_ _ _ _=>by kernel_rfl) (by kernel_rfl) h
theorem AW(h:nT c F x0 x1 s=some r):c 145 [x0,x1] s=some (tidy s r):=hc.o1 F (lB c F) lA (by kernel_rfl) (by kernel_rfl) (λ_ _ _=>by kernel_rfl) (λ_ _ _ _=>by kernel_rfl) (by kernel_rfl) h
theorem zk(h:yF c F x0 s=some r):c 148 [x0] s=some (tidy s r):=hc.o1 F (vZ c F) vY (by kernel_rfl) (by kernel_rfl) (λ_ _ _=>by kernel_rfl) (λ_ _ _ _=>by kernel_rfl) (by kernel_rfl) h
theorem Bn(h:oY c F x0 x1 x2 s=some r):c 149 [x0,x1,x2] s=some (tidy s r):=hc.o0 F uF (by kernel_rfl) (by kernel_rfl) h
theorem GY(h:v7 c F x0 s=some r):c 150 [x0] s=some (tidy s r):=hc.o0 F y7 (by kernel_rfl) (by kernel_rfl) h
theorem GZ(h:v8 c F x0 x1 s=some r):c 169 [x0,x1] s=some (tidy s r):=hc.o0 F y9 (by kernel_rfl) (by kernel_rfl) h
theorem RS(h:KT c F x0 x1 s=some r):c 170 [x0,x1] s=some (tidy s r):=hc.o0 F Mw (by kernel_rfl) (by kernel_rfl) h
theorem Pt(h:Iv c F x0 s=some r):c 171 [x0] s=some (tidy s r):=hc.o1 F (CH c F) CG (by kernel_rfl) (by kernel_rfl) (λ_ _ _=>by kernel_rfl) (λ_ _ _ _=>by kernel_rfl) (by kernel_rfl) h
theorem Pu(h:Iw c F x0 x1 s=some r):c 172 [x0,x1] s=some (tidy s r):=hc.o0 F J8 (by kernel_rfl) (by kernel_rfl) h
theorem JB(h:yG c F x0 s=some r):c 173 [x0] s=some (tidy s r):=hc.o0 F Cc (by kernel_rfl) (by kernel_rfl) h
theorem Pv(h:Iy c F x0 s=some r):c 184 [x0] s=some (tidy s r):=hc.o1 F (CJ c F) CI (by kernel_rfl) (by kernel_rfl) (λ_ _ _=>by kernel_rfl) (λ_ _ _ _=>by kernel_rfl) (by kernel_rfl) h
theorem CT(h:qw c F x0 s=some r):c 189 [x0] s=some (tidy s r):=hc.o1 F (nV c F) nU (by kernel_rfl) (by kernel_rfl) (λ_ _ _=>by kernel_rfl) (λ_ _ _ _=>by kernel_rfl) (by kernel_rfl) h
theorem CU(h:qx c F x0 s=some r):c 190 [x0] s=some (tidy s r):=hc.o1 F (nX c F) nW (by kernel_rfl) (by kernel_rfl) (λ_ _ _=>by kernel_rfl) (λ_ _ _ _=>by kernel_rfl) (by kernel_rfl) h
theorem Bo(h:oZ c F x0 x1 s=some r):c 191 [x0,x1] s=some (tidy s r):=hc.o0 F uJ (by kernel_rfl) (by kernel_rfl) h
theorem l6(h:eE c F x0 x1 s=some r):c 196 [x0,x1] s=some (tidy s r):=hc.o0 F gP (by kernel_rfl) (by kernel_rfl) h
theorem G0(h:wh c F x0 x1 s=some r):c 197 [x0,x1] s=some (tidy s r):=hc.o0 F zb (by kernel_rfl) (by kernel_rfl) h
theorem NA(h:wm c F x0 s=some r):c 198 [x0] s=some (tidy s r):=hc.oL F (AI c F) wj 2 (by kernel_rfl) (λi hi=>match i,hi with|0,_=>nL 0 (by kernel_rfl) (λ_ _ _=>by kernel_rfl) (λ_ _ _ _=>by kernel_rfl)|1,_=>nL 1 (by kernel_rfl) (λ_ _ _=>by kernel_rfl) (λ_ _ _ _=>by kernel_rfl)|n+2,h=>absurd h (by omega)) (by kernel_rfl) h
theorem n6(h:fu c F x0 x1 s=some r):c 213 [x0,x1] s=some (tidy s r):=hc.o1 F (eN c F) eM (by kernel_rfl) (by kernel_rfl) (λ_ _ _=>by kernel_rfl) (λ_ _ _ _=>by kernel_rfl) (by kernel_rfl) h
theorem NB(h:FH c F x0 x1 s=some r):c 214 [x0,x1] s=some (tidy s r):=hc.o0 F IA (by kernel_rfl) (by kernel_rfl) h
theorem n8(h:fy c F x0 x1 s=some r):c 215 [x0,x1] s=some (tidy s r):=hc.o1 F (eP c F) eO (by kernel_rfl) (by kernel_rfl) (λ_ _ _=>by kernel_rfl) (λ_ _ _ _=>by kernel_rfl) (by kernel_rfl) h
theorem MA(h:CL c F x0 x1 s=some r):c 216 [x0,x1] s=some (tidy s r):=hc.o0 F GH (by kernel_rfl) (by kernel_rfl) h
theorem G1(h:wo c F x0 x1 s=some r):c 217 [x0,x1] s=some (tidy s r):=hc.o0 F zd (by kernel_rfl) (by kernel_rfl) h
theorem IL(h:xy c F x0 x1 s=some r):c 222 [x0,x1] s=some (tidy s r):=hc.o0 F AK (by kernel_rfl) (by kernel_rfl) h
theorem IM(h:xz c F x0 x1 s=some r):c 227 [x0,x1] s=some (tidy s r):=hc.o0 F AM (by kernel_rfl) (by kernel_rfl) h
theorem JC(h:yH c F x0 x1 s=some r):c 232 [x0,x1] s=some (tidy s r):=hc.o0 F Ce (by kernel_rfl) (by kernel_rfl) h
theorem D8(h:sg c F x0 s=some r):c 251 [x0] s=some (tidy s r):=hc.o1 F (o9 c F) o8 (by kernel_rfl) (by kernel_rfl) (λ_ _ _=>by kernel_rfl) (λ_ _ _ _=>by kernel_rfl) (by kernel_rfl) h
theorem Px(h:IC c F s=some r):c 256 [] s=some (tidy s r):=hc.o0 F Kb (by kernel_rfl) (by kernel_rfl) h
theorem yj(h:rj c F x0 x1 s=some r):c 257 [x0,x1] s=some (tidy s r):=hc.o0 F AO (by kernel_rfl) (by kernel_rfl) h
theorem MB(h:CM c F x0 x1 s=some r):c 258 [x0,x1] s=some (tidy s r):=hc.o0 F GJ (by kernel_rfl) (by kernel_rfl) h
theorem qy(h:rm c F x0 x1 x2 x3 s=some r):c 259 [x0,x1,x2,x3] s=some (tidy s r):=hc.o1 F (tR c F) tQ (by kernel_rfl) (by kernel_rfl) (λ_ _ _=>by kernel_rfl) (λ_ _ _ _=>by kernel_rfl) (by kernel_rfl) h
theorem G2(h:wu c F x0 s=some r):c 297 [x0] s=some (tidy s r):=hc.o0 F zg (by kernel_rfl) (by kernel_rfl) h
theorem MD(h:CN c F x0 s=some r):c 298 [x0] s=some (tidy s r):=hc.o1 F (yJ c F) yI (by kernel_rfl) (by kernel_rfl) (λ_ _ _=>by kernel_rfl) (λ_ _ _ _=>by kernel_rfl) (by kernel_rfl) h
theorem KW(h:AS c F x0 s=some r):c 299 [x0] s=some (tidy s r):=hc.o0 F DZ (by kernel_rfl) (by kernel_rfl) h
theorem G3(h:wz c F x0 x1 s=some r):c 300 [x0,x1] s=some (tidy s r):=hc.o0 F zi (by kernel_rfl) (by kernel_rfl) h
theorem FN(h:tS c F x0 x1 x2 s=some r):c 301 [x0,x1,x2] s=some (tidy s r):=hc.o0 F yg (by kernel_rfl) (by kernel_rfl) h
theorem sG(h:iE c F x0 x1 x2 s=some r):c 302 [x0,x1,x2] s=some (tidy s r):=hc.o0 F j9 (by kernel_rfl) (by kernel_rfl) h
theorem NC(h:FI c F x0 x1 x2 s=some r):c 303 [x0,x1,x2] s=some (tidy s r):=hc.o0 F IE (by kernel_rfl) (by kernel_rfl) h
theorem ND(h:FJ c F x0 s=some r):c 317 [x0] s=some (tidy s r):=hc.o1 F (AU c F) AT (by kernel_rfl) (by kernel_rfl) (λ_ _ _=>by kernel_rfl) (λ_ _ _ _=>by kernel_rfl) (by kernel_rfl) h
theorem NF(h:FK c F x0 s=some r):c 318 [x0] s=some (tidy s r):=hc.o0 F II (by kernel_rfl) (by kernel_rfl) h
theorem kX(h:jt c F x0 s=some r):c 319 [x0] s=some (tidy s r):=hc.o0 F mH (by kernel_rfl) (by kernel_rfl) h
theorem zz(h:mK c F x0 x1 s=some r):c 320 [x0,x1] s=some (tidy s r):=hc.o0 F rH (by kernel_rfl) (by kernel_rfl) h
theorem jA(h:dc c F x0 x1 x2 s=some r):c 321 [x0,x1,x2] s=some (tidy s r):=hc.o1 F (cQ c F) cP (by kernel_rfl) (by kernel_rfl) (λ_ _ _=>by kernel_rfl) (λ_ _ _ _=>by kernel_rfl) (by kernel_rfl) h
end
end
section
open Go Go.Ai Go.Proofs
variable{c:ah}
def dP(s:List Nat):Bool:=decide (1<=s.length)&&decide (s.length<=12)&&s.all λc=>decide (97<=c/\c<=122)
theorem aaK(s:List Nat)(hs:s.length<=12)(F:Nat)(st:St)(k1 k2):∀(m k:Nat),s.length<=k+m->k<=s.length->
  gH c F k1 k2 (m+1) [.str s,.int .i64 (k:Int)] st=if(s.drop k).all (λc=>decide (97<=c/\c<=122))=true then k2 [] st else k1 [.bool false] st:=by
 intro m;induction m with
 |zero=>
  intro k h1 h2;rw[vW];obtain rfl:k=s.length:=by omega
  simp
 |succ m ih=>
  intro k h1 h2;rw[vW];by_cases h:k<s.length
  . have e:s.drop k=s[k]::s.drop (k+1):=Zb3 h;have:=ih (k+1) (by omega) (by omega);have w:aB .i64 ((k:Int)+1)=((k+1:Nat):Int):=wrap64 (by omega) (by omega);rw[e,Zm2];generalize (s.drop (k+1)).all _=rest at this ⊢;by_cases h3:(s[k]:Int)<97
    .   have h5:decide (97<=s[k]/\s[k]<=122)=false:=(by simp;omega);simp[h,h3,h5]
    .   by_cases h4:122<(s[k]:Int)
        .have h5:decide (97<=s[k]/\s[k]<=122)=false:=(by simp;omega);simp[h,h3,h4,h5]
        .have h5:decide (97<=s[k]/\s[k]<=122)=true:=(by simp;omega);rw[h5,Zd8, <-this];simp[h,h3,h4,w]
  .obtain rfl:k=s.length:=(by omega);simp
theorem zO(hc:Sem c)(s:List Nat)(st:St):c 144 [.str s] st=some (.bool (dP s),st):=by
 rw[GX hc (s.length+1) (r:=(.bool (dP s),st)),aA (Plain.bool _) (aV.refl st)];rw[Jt];by_cases h0:(s.length:Int)<1
 .have h1:¬1<=s.length:=(by omega);simp[dP,h0,h1]
 . by_cases h1:12<(s.length:Int)
   .have h2:¬s.length<=12:=(by omega);simp[dP,h0,h1,h2]
   . have h2:s.length<=12:=(by omega);have h3:1<=s.length:=(by omega);have L:∀k1 k2,gH c (s.length+1) k1 k2 (s.length+1) [.str s,.int .i64 0] st=if(s.drop 0).all (λc=>decide (97<=c/\c<=122))=true then k2 [] st else k1 [.bool false] st:=
        λk1 k2=>aaK (c:=c) s h2 (s.length+1) st k1 k2 s.length 0 (by omega) (by omega)
     rw[Zc9]at L;have e:dP s=s.all λc=>decide (97<=c/\c<=122):=(by simp[dP,h2,h3]);rw[e];generalize (s.all _)=b at L ⊢;simp[h0,h1,L];cases b<;>simp
structure aD where
 name:List Nat
 sh:Int
 a:Int
 b:Int
 oz:Bool
 cg:List Int
 x:Int
 y:Int
def ints(z:Bool)(l:List Int):AV:=ro 1 z (l.map λi=>[.int .i64 i])
def aD.cells(t:aD):List AV:=[.str t.name,.int .u8 t.sh,.int .i64 t.a,.int .i64 t.b,ints t.oz t.cg,.int .i64 t.x,.int .i64 t.y]
@[simp] theorem Y5(z:Bool)(l:List Int):(ints z l).one=true:=WZ _ _ _
def cv(t:aD):Int:=
 if t.sh=1 then(if 1<=t.a/\t.a<=24/\t.b=0 then t.a else 0)
 else if t.sh=2 then(if 1<=t.a/\t.a<=11/\0<=t.b/\t.b<=2 then 2*t.a+t.b else 0)
 else if t.sh=3 then(if 1<=t.a/\t.a<=8/\1<=t.b/\t.b<=8 then t.a+2*t.b else 0)
 else if t.sh=4 then(if 1<=t.a/\t.a<=24/\0<=t.b/\t.b<=t.a then t.a else 0)
 else 0
theorem dQ(hc:Sem c)(n lo hi:Int)(st:St):c 149 [.int .i64 n,.int .i64 lo,.int .i64 hi] st=some (.bool (decide (lo<=n/\n<=hi)),st):=by
 rw[Bn hc 1 (r:=(.bool (decide (lo<=n/\n<=hi)),st)),aA (Plain.bool _) (aV.refl st)];rw[DU];by_cases h:lo<=n<;>simp[h]
theorem FO(hc:Sem c)(t:aD)(st:St)(hw:Wf st):c 118 [.agg t.cells] st=some (.int .i64 (cv t),st):=by
 rw[D6 hc 1 (r:=(.int .i64 (cv t),af st (.cells t.cells 0))),aA (Plain.int _ _) (aZ hw)];rw[GQ];obtain⟨name,sh,a,b,oz,cg,x,y⟩:=t;by_cases h1:sh=1
 .subst h1;by_cases h2:1<=a/\a<=24<;>by_cases h3:b=0<;>simp[aD.cells,AV.cells,dQ hc,cv,dB,h2,h3]
 by_cases h4:sh=2
 . subst h4;by_cases h2:1<=a/\a<=11
   . by_cases h3:0<=b/\b<=2
     .  have w1:aB .i64 (2*a)=2*a:=wrap64 (by omega) (by omega);have w2:aB .i64 (2*a+b)=2*a+b:=wrap64 (by omega) (by omega);simp[aD.cells,AV.cells,dQ hc,cv,dB,h2,h3,w1,w2]
     .  simp[aD.cells,AV.cells,dQ hc,cv,dB,h2,h3]
   .simp[aD.cells,AV.cells,dQ hc,cv,dB,h2];omega
 by_cases h5:sh=3
 . subst h5;by_cases h2:1<=a/\a<=8
   . by_cases h3:1<=b/\b<=8
     .  have w1:aB .i64 (2*b)=2*b:=wrap64 (by omega) (by omega);have w2:aB .i64 (a+2*b)=a+2*b:=wrap64 (by omega) (by omega);simp[aD.cells,AV.cells,dQ hc,cv,dB,h2,h3,w1,w2]
     .  simp[aD.cells,AV.cells,dQ hc,cv,dB,h2,h3]
   .simp[aD.cells,AV.cells,dQ hc,cv,dB,h2];omega
 by_cases h6:sh=4
 . subst h6;by_cases h2:1<=a/\a<=24
   . by_cases h3:0<=b/\b<=a
     .  simp[aD.cells,AV.cells,dQ hc,cv,dB,h2,h3]
     .  simp[aD.cells,AV.cells,dQ hc,cv,dB,h2,h3]
   .simp[aD.cells,AV.cells,dQ hc,cv,dB,h2];omega
 simp[aD.cells,AV.cells,dQ hc,cv,dB,h1,h4,h5,h6]
theorem Py(hc:Sem c)(a b:Int)(st:St):c 217 [.int .i64 a,.int .i64 b] st=some (.int .i64 (if 1<=a/\a<=24/\b=0 then a else 0),st):=by
 rw[G1 hc 1 (r:=(.int .i64 (if 1<=a/\a<=24/\b=0 then a else 0),st)),aA (Plain.int _ _) (aV.refl st)];rw[Jx];by_cases h1:a<1
 .have:¬1<=a:=(by omega);simp[h1,this]
 . by_cases h2:24<a
   .have:¬a<=24:=(by omega);simp[h1,h2,this]
   .have h3:1<=a:=(by omega);have h4:a<=24:=(by omega);by_cases h5:b=0<;>simp[h1,h2,h3,h4,h5]
theorem RT(hc:Sem c)(a b:Int)(st:St):c 222 [.int .i64 a,.int .i64 b] st=some (.int .i64 (if 1<=a/\a<=11/\0<=b/\b<=2 then 2*a+b else 0),st):=by
 rw[IL hc 1 (r:=(.int .i64 (if 1<=a/\a<=11/\0<=b/\b<=2 then 2*a+b else 0),st)),aA (Plain.int _ _) (aV.refl st)];rw[KU];by_cases h1:a<1
 .have:¬1<=a:=(by omega);simp[h1,this]
 by_cases h2:11<a
 .have:¬a<=11:=(by omega);simp[h1,h2,this]
 by_cases h3:b<0
 .have:¬0<=b:=(by omega);simp[h1,h2,h3,this]
 by_cases h4:2<b
 .have:¬b<=2:=(by omega);simp[h1,h2,h3,h4,this]
 have h5:1<=a:=by omega
 have h6:a<=11:=by omega
 have h7:0<=b:=by omega
 have h8:b<=2:=by omega
 have w1:aB .i64 (2*a)=2*a:=wrap64 (by omega) (by omega);have w2:aB .i64 (2*a+b)=2*a+b:=wrap64 (by omega) (by omega);simp[h1,h2,h3,h4,h5,h6,h7,h8,w1,w2]
theorem RU(hc:Sem c)(a b:Int)(st:St):c 227 [.int .i64 a,.int .i64 b] st=some (.int .i64 (if 1<=a/\a<=8/\1<=b/\b<=8 then a+2*b else 0),st):=by
 rw[IM hc 1 (r:=(.int .i64 (if 1<=a/\a<=8/\1<=b/\b<=8 then a+2*b else 0),st)),aA (Plain.int _ _) (aV.refl st)];rw[KV];by_cases h1:a<1
 .have:¬1<=a:=(by omega);simp[h1,this]
 by_cases h2:8<a
 .have:¬a<=8:=(by omega);simp[h1,h2,this]
 by_cases h3:b<1
 .have:¬1<=b:=(by omega);simp[h1,h2,h3,this]
 by_cases h4:8<b
 .have:¬b<=8:=(by omega);simp[h1,h2,h3,h4,this]
 have h5:1<=a:=by omega
 have h6:a<=8:=by omega
 have h7:1<=b:=by omega
 have h8:b<=8:=by omega
 have w1:aB .i64 (2*b)=2*b:=wrap64 (by omega) (by omega);have w2:aB .i64 (a+2*b)=a+2*b:=wrap64 (by omega) (by omega);simp[h1,h2,h3,h4,h5,h6,h7,h8,w1,w2]
theorem Tj(hc:Sem c)(a b:Int)(st:St):c 232 [.int .i64 a,.int .i64 b] st=some (.int .i64 (if 1<=a/\a<=24/\0<=b/\b<=a then a else 0),st):=by
 rw[JC hc 1 (r:=(.int .i64 (if 1<=a/\a<=24/\0<=b/\b<=a then a else 0),st)),aA (Plain.int _ _) (aV.refl st)];rw[Mz];by_cases h1:a<1
 .have:¬1<=a:=(by omega);simp[h1,this]
 by_cases h2:24<a
 .have:¬a<=24:=(by omega);simp[h1,h2,this]
 by_cases h3:b<0
 .have:¬0<=b:=(by omega);simp[h1,h2,h3,this]
 by_cases h4:a<b
 .have:¬b<=a:=(by omega);simp[h1,h2,h3,h4,this]
 have h5:1<=a:=by omega
 have h6:a<=24:=by omega
 have h7:0<=b:=by omega
 have h8:b<=a:=by omega
 simp[h1,h2,h3,h4,h5,h6,h7,h8]
def qz(sh:Int):List AV:=
 if sh=1 then [.str [114,111,117,110,100],.func 217 [] [],.func 218 [] [],.func 219 [] [],.func 220 [] [],.func 221 [] []]
 else if sh=2 then [.str [108,111,110,103],.func 222 [] [],.func 223 [] [],.func 224 [] [],.func 225 [] [],.func 226 [] []]
 else if sh=3 then [.str [104,111,114,115,101,115,104,111,101],.func 227 [] [],.func 228 [] [],.func 229 [] [],.func 230 [] [],.func 231 [] []]
 else if sh=4 then [.str [114,111,119],.func 232 [] [],.func 233 [] [],.func 234 [] [],.func 235 [] [],.func 236 [] []]
 else [.str [],.gV,.gV,.gV,.gV,.gV]
theorem plain_fn(f:Nat):Plain (.func f [] []):=Plain.func f (by simp) (by simp)
theorem Xi(sh:Int):∀v∈qz sh,Plain v:=by
 unfold qz;intro v hv
 repeat' split at hv
 all_goals
  simp only[Za0,Zc7,Zg6]at hv;rcases hv with rfl|rfl|rfl|rfl|rfl|rfl<;>first|exact Plain.str _|exact Plain.gV|exact plain_fn _
theorem sH(hc:Sem c)(sh:Int)(st:St)(hw:Wf st):c 173 [.int .u8 sh] st=some (.tuple [.agg (qz sh),.bool (decide (1<=sh/\sh<=4))],st):=by
 have hp:Plain (.tuple [.agg (qz sh),.bool (decide (1<=sh/\sh<=4))]):=Plain.tuple λv hv=>by
   simp only[Za0,Zc7,Zg6]at hv;rcases hv with rfl|rfl
   .exact Plain.agg (Xi sh)
   .exact Plain.bool _
 rw[JB hc 1 (r:=(.tuple [.agg (qz sh),.bool (decide (1<=sh/\sh<=4))],af st (.cells (qz sh) 0))),aA hp (aZ hw)];rw[My];by_cases h1:sh=1
 .subst h1;simp[qz,AV.cells,aQ,AV.one,bV,bP,aI,dZ]
 by_cases h2:sh=2
 .subst h2;simp[qz,AV.cells,aQ,AV.one,bV,bP,aI,dZ]
 by_cases h3:sh=3
 .subst h3;simp[qz,AV.cells,aQ,AV.one,bV,bP,aI,dZ]
 by_cases h4:sh=4
 .subst h4;simp[qz,AV.cells,aQ,AV.one,bV,bP,aI,dZ]
 have h5:decide (1<=sh/\sh<=4)=false:=by simp;omega
 rw[h5];simp[qz,AV.cells,aQ,AV.one,bV,bP,aI,dZ,h1,h2,h3,h4]
theorem NG(hc:Sem c)(t:aD)(st:St)(hw:Wf st):c 125 [.agg t.cells] st=some (.int .i64 (cv t),st):=by
 rw[Pr hc 1 (r:=(.int .i64 (cv t),af (af st (.cells t.cells 0)) (.cells (qz t.sh) 0))),aA (Plain.int _ _) ((aZ hw).trans (aZ (bt hw)))];rw[Te];obtain⟨name,sh,a,b,oz,cg,x,y⟩:=t;by_cases h1:sh=1
 .subst h1;simp[aD.cells,AV.cells,sH hc,hw,cv,qz,aQ,AV.one,Py hc]
 by_cases h2:sh=2
 .subst h2;simp[aD.cells,AV.cells,sH hc,hw,cv,qz,aQ,AV.one,RT hc]
 by_cases h3:sh=3
 .subst h3;simp[aD.cells,AV.cells,sH hc,hw,cv,qz,aQ,AV.one,RU hc]
 by_cases h4:sh=4
 .subst h4;simp[aD.cells,AV.cells,sH hc,hw,cv,qz,aQ,AV.one,Tj hc]
 have h5:decide (1<=sh/\sh<=4)=false:=by simp;omega
 simp[aD.cells,AV.cells,sH hc,hw,cv,qz,aQ,AV.one,h1,h2,h3,h4,h5]
def cw:Nat:=9223372036854775808
theorem CV(s:List Nat)(hs:s.length<=12)(F:Nat)(st:St)(k1 k2):∀(m k:Nat),s.length<=k+m->k<=s.length->
  fF c F k1 k2 (m+1) [.str s,.int .i64 (k:Int)] st=if(s.drop k).all (λc=>decide (97<=c/\c<=122))=true then k2 [] st else k1 [.bool false] st:=by
 intro m;induction m with
 |zero=>
  intro k h1 h2;rw[sF];obtain rfl:k=s.length:=by omega
  simp
 |succ m ih=>
  intro k h1 h2;rw[sF];by_cases h:k<s.length
  . have e:s.drop k=s[k]::s.drop (k+1):=Zb3 h;have:=ih (k+1) (by omega) (by omega);have w:aB .i64 ((k:Int)+1)=((k+1:Nat):Int):=wrap64 (by omega) (by omega);rw[e,Zm2];generalize (s.drop (k+1)).all _=rest at this ⊢;by_cases h3:(s[k]:Int)<97
    .   have h5:decide (97<=s[k]/\s[k]<=122)=false:=(by simp;omega);simp[h,h3,h5]
    .   by_cases h4:122<(s[k]:Int)
        .have h5:decide (97<=s[k]/\s[k]<=122)=false:=(by simp;omega);simp[h,h3,h4,h5]
        .have h5:decide (97<=s[k]/\s[k]<=122)=true:=(by simp;omega);rw[h5,Zd8, <-this];simp[h,h3,h4,w]
  .obtain rfl:k=s.length:=(by omega);simp
theorem FP(hc:Sem c)(s:List Nat)(st:St):c 251 [.str s] st=some (.bool (dP s),st):=by
 rw[D8 hc (s.length+1) (r:=(.bool (dP s),st)),aA (Plain.bool _) (aV.refl st)];rw[GU];by_cases h0:(s.length:Int)=0
 .have h1:¬1<=s.length:=(by omega);have h2:s=[]:=Za6 (by omega);subst h2;simp[dP]
 . by_cases h1:12<(s.length:Int)
   .have h2:¬s.length<=12:=(by omega);have h3:¬s=[]:=(by intro e;subst e;simp at h0);simp[dP,h1,h2,h3]
   . have h2:s.length<=12:=(by omega);have h3:1<=s.length:=(by omega);have h4:¬s=[]:=(by intro e;subst e;simp at h0);have L:∀k1 k2,fF c (s.length+1) k1 k2 (s.length+1) [.str s,.int .i64 0] st=if(s.drop 0).all (λc=>decide (97<=c/\c<=122))=true then k2 [] st else k1 [.bool false] st:=
        λk1 k2=>CV (c:=c) s h2 (s.length+1) st k1 k2 s.length 0 (by omega) (by omega)
     rw[Zc9]at L;have e:dP s=s.all λc=>decide (97<=c/\c<=122):=(by simp[dP,h2,h3]);rw[e];generalize (s.all _)=b at L ⊢;simp[h1,h4,L];cases b<;>simp
theorem ME(s:List Nat)(hs:s.length<=12)(F:Nat)(st:St)(k1 k2):∀(m k:Nat),s.length<=k+m->k<=s.length->
  kP c F k1 k2 (m+1) [.str s,.int .i64 (s.length:Int),.int .i64 (k:Int)] st=if(s.drop k).all (λc=>decide (97<=c/\c<=122))=true then k2 [] st else k1 [.bool false] st:=by
 intro m;induction m with
 |zero=>
  intro k h1 h2;rw[Cg];obtain rfl:k=s.length:=by omega
  simp
 |succ m ih=>
  intro k h1 h2;rw[Cg];by_cases h:k<s.length
  . have e:s.drop k=s[k]::s.drop (k+1):=Zb3 h;have:=ih (k+1) (by omega) (by omega);have w:aB .i64 ((k:Int)+1)=((k+1:Nat):Int):=wrap64 (by omega) (by omega);rw[e,Zm2];generalize (s.drop (k+1)).all _=rest at this ⊢;by_cases h3:(s[k]:Int)<97
    .   have h5:decide (97<=s[k]/\s[k]<=122)=false:=(by simp;omega);simp[h,h3,h5]
    .   by_cases h4:122<(s[k]:Int)
        .have h5:decide (97<=s[k]/\s[k]<=122)=false:=(by simp;omega);simp[h,h3,h4,h5]
        .have h5:decide (97<=s[k]/\s[k]<=122)=true:=(by simp;omega);rw[h5,Zd8, <-this];simp[h,h3,h4,w]
  .obtain rfl:k=s.length:=(by omega);simp
theorem yK(hc:Sem c)(s:List Nat)(st:St):c 317 [.str s] st=some (.bool (dP s),st):=by
 rw[ND hc (s.length+1) (r:=(.bool (dP s),st)),aA (Plain.bool _) (aV.refl st)];rw[RQ];by_cases h0:(s.length:Int)=0
 .have h1:¬1<=s.length:=(by omega);have h2:s=[]:=Za6 (by omega);subst h2;simp[dP]
 . by_cases h1:12<(s.length:Int)
   .have h2:¬s.length<=12:=(by omega);have h3:¬s=[]:=(by intro e;subst e;simp at h0);simp[dP,h1,h2,h3]
   . have h2:s.length<=12:=(by omega);have h3:1<=s.length:=(by omega);have h4:¬s=[]:=(by intro e;subst e;simp at h0);have L:∀k1 k2,kP c (s.length+1) k1 k2 (s.length+1) [.str s,.int .i64 (s.length:Int),.int .i64 0] st=if(s.drop 0).all (λc=>decide (97<=c/\c<=122))=true then k2 [] st else k1 [.bool false] st:=
        λk1 k2=>ME (c:=c) s h2 (s.length+1) st k1 k2 s.length 0 (by omega) (by omega)
     rw[Zc9]at L;have e:dP s=s.all λc=>decide (97<=c/\c<=122):=(by simp[dP,h2,h3]);rw[e];generalize (s.all _)=b at L ⊢;simp[h1,h4,L];cases b<;>simp
theorem NH(s:List Nat)(hs:s.length<=12)(F:Nat)(st:St)(k1 k2):∀(m k:Nat),s.length<=k+m->k<=s.length->
  mF c F k1 k2 (m+1) [.str s,.int .i64 (s.length:Int),.int .i64 (k:Int)] st=if(s.drop k).all (λc=>decide (97<=c/\c<=122))=true then k2 [] st else k1 [.bool false] st:=by
 intro m;induction m with
 |zero=>
  intro k h1 h2;rw[DV];obtain rfl:k=s.length:=by omega
  simp
 |succ m ih=>
  intro k h1 h2;rw[DV];by_cases h:k<s.length
  . have e:s.drop k=s[k]::s.drop (k+1):=Zb3 h;have:=ih (k+1) (by omega) (by omega);have w:aB .i64 ((k:Int)+1)=((k+1:Nat):Int):=wrap64 (by omega) (by omega);rw[e,Zm2];generalize (s.drop (k+1)).all _=rest at this ⊢;by_cases h3:(s[k]:Int)<97
    .   have h5:decide (97<=s[k]/\s[k]<=122)=false:=(by simp;omega);simp[h,h3,h5]
    .   by_cases h4:122<(s[k]:Int)
        .have h5:decide (97<=s[k]/\s[k]<=122)=false:=(by simp;omega);simp[h,h3,h4,h5]
        .have h5:decide (97<=s[k]/\s[k]<=122)=true:=(by simp;omega);rw[h5,Zd8, <-this];simp[h,h3,h4,w]
  .obtain rfl:k=s.length:=(by omega);simp
theorem RV(hc:Sem c)(s:List Nat)(st:St):c 171 [.str s] st=some (.bool (dP s),st):=by
 rw[Pt hc (s.length+1) (r:=(.bool (dP s),st)),aA (Plain.bool _) (aV.refl st)];rw[Tf];by_cases h0:(s.length:Int)=0
 .have h1:¬1<=s.length:=(by omega);have h2:s=[]:=Za6 (by omega);subst h2;simp[dP]
 . by_cases h1:12<(s.length:Int)
   .have h2:¬s.length<=12:=(by omega);have h3:¬s=[]:=(by intro e;subst e;simp at h0);simp[dP,h1,h2,h3]
   . have h2:s.length<=12:=(by omega);have h3:1<=s.length:=(by omega);have h4:¬s=[]:=(by intro e;subst e;simp at h0);have L:∀k1 k2,mF c (s.length+1) k1 k2 (s.length+1) [.str s,.int .i64 (s.length:Int),.int .i64 0] st=if(s.drop 0).all (λc=>decide (97<=c/\c<=122))=true then k2 [] st else k1 [.bool false] st:=
        λk1 k2=>NH (c:=c) s h2 (s.length+1) st k1 k2 s.length 0 (by omega) (by omega)
     rw[Zc9]at L;have e:dP s=s.all λc=>decide (97<=c/\c<=122):=(by simp[dP,h2,h3]);rw[e];generalize (s.all _)=b at L ⊢;simp[h1,h4,L];cases b<;>simp
theorem NI(s:List Nat)(hs:s.length<cw)(F:Nat)(st:St)(k1 k2):∀(m k:Nat),s.length<=k+m->k<=s.length->
  mG c F k1 k2 (m+1) [.str s,.int .i64 (k:Int)] st=if(s.drop k).all (λc=>decide (97<=c/\c<=122))=true then k2 [.str s] st else k1 [.bool false] st:=by
 intro m;induction m with
 |zero=>
  intro k h1 h2;rw[DW];obtain rfl:k=s.length:=by omega
  simp
 |succ m ih=>
  intro k h1 h2;rw[DW];by_cases h:k<s.length
  . have e:s.drop k=s[k]::s.drop (k+1):=Zb3 h;have:=ih (k+1) (by omega) (by omega);have w:aB .i64 ((k:Int)+1)=((k+1:Nat):Int):=wrap64 (by omega) (by unfold cw at hs;omega);rw[e,Zm2];generalize (s.drop (k+1)).all _=rest at this ⊢;by_cases h3:(s[k]:Int)<97
    .   have h5:decide (97<=s[k]/\s[k]<=122)=false:=(by simp;omega);simp[h,h3,h5]
    .   by_cases h4:122<(s[k]:Int)
        .have h5:decide (97<=s[k]/\s[k]<=122)=false:=(by simp;omega);simp[h,h3,h4,h5]
        .have h5:decide (97<=s[k]/\s[k]<=122)=true:=(by simp;omega);rw[h5,Zd8, <-this];simp[h,h3,h4,w]
  .obtain rfl:k=s.length:=(by omega);simp
theorem RW(hc:Sem c)(s:List Nat)(hs:s.length<cw)(st:St):c 184 [.str s] st=some (.bool (dP s),st):=by
 rw[Pv hc (s.length+1) (r:=(.bool (dP s),st)),aA (Plain.bool _) (aV.refl st)];rw[Th];have L:∀k1 k2,mG c (s.length+1) k1 k2 (s.length+1) [.str s,.int .i64 0] st=if(s.drop 0).all (λc=>decide (97<=c/\c<=122))=true then k2 [.str s] st else k1 [.bool false] st:=
   λk1 k2=>NI (c:=c) s hs (s.length+1) st k1 k2 s.length 0 (by omega) (by omega)
 rw[Zc9]at L;have e:dP s=(decide (1<=s.length)&&decide (s.length<=12)&&s.all λc=>decide (97<=c/\c<=122)):=rfl;rw[e];generalize (s.all _)=b at L ⊢;simp[L];cases b
 .simp
 . by_cases h1:(1:Int)<=s.length
   . have h2:1<=s.length:=(by omega);by_cases h3:(s.length:Int)<=12
     .  have h4:s.length<=12:=(by omega);simp[h1,h2,h3,h4]
     .  have h4:¬s.length<=12:=(by omega);simp[h1,h2,h3,h4]
   .have h2:¬1<=s.length:=(by omega);simp[h1,h2]
def j3(s:List Nat):Bool:=decide (s=[])||dP s
theorem yL(hc:Sem c)(s:List Nat)(st:St):c 318 [.str s] st=some (.bool (j3 s),st):=by
 rw[NF hc 1 (r:=(.bool (j3 s),st)),aA (Plain.bool _) (aV.refl st)];rw[RR];by_cases h:s=[]<;>simp[h,j3,yK hc]
def si(n last:Int):List Int->Bool
 |[]=>true
 |k::l=>decide (last<k)&&decide (k<n)&&si n k l
def qA(t:aD):Int:=
 if dP t.name=false then 4 else if cv t=0 then 10 else if si (cv t) (-1) t.cg=false then 11
 else if 0<=t.x/\t.x<=1000/\0<=t.y/\t.y<=1000 then 0 else 2
structure aD.Ok(t:aD):Prop where
 name:t.name.length<cw
 cg:t.cg.length<cw
theorem RX(l:List Int)(k:Nat)(h:k<l.length):((l.map λi=>[AV.int .i64 i])[k]?.bind λcs=>cs[0]?)=some (.int .i64 l[k]):=by
 simp[Zb7,H1 h]
theorem MF(p:Pos)(n:Int)(z:Bool)(l:List Int)(hl:l.length<cw)(F:Nat)(st:St)(k1 k3):∀(m k:Nat)(last:Int),l.length<=k+m->k<=l.length->
  kO c F k1 k3 (m+1) [.ptr p 0,.int .i64 n,.int .i64 last,ints z l,.int .i64 (l.length:Int),.int .i64 (k:Int)] st=if si n last (l.drop k)=true then k3 [.ptr p 0] st else k1 [.int .i64 11] st:=by
 intro m;induction m with
 |zero=>
  intro k last h1 h2;rw[B9];obtain rfl:k=l.length:=by omega
  simp[si]
 |succ m ih=>
  intro k last h1 h2;rw[B9];by_cases h:k<l.length
  . have e:l.drop k=l[k]::l.drop (k+1):=Zb3 h;have:=ih (k+1) l[k] (by omega) (by omega);have w:aB .i64 ((k:Int)+1)=((k+1:Nat):Int):=wrap64 (by omega) (by unfold cw at hl;omega);have g:=RX l k h;rw[e,si];generalize si n l[k] (l.drop (k+1))=rest at this ⊢;by_cases h3:l[k]<=last
    .   have h4:¬last<l[k]:=(by omega);simp[ints,h,h3,h4,g]
    .   have h4:last<l[k]:=(by omega);by_cases h5:n<=l[k]
        .have h6:¬l[k]<n:=(by omega);simp[ints,h,h3,h4,h5,h6,g]
        .have h6:l[k]<n:=(by omega);simp only[h4,h6,Zi7,Zd8];rw[<-this];simp[ints,h,h3,h4,h5,h6,g,w]
  .obtain rfl:k=l.length:=(by omega);simp[si]
theorem Y6(hc:Sem c)(t:aD)(ht:t.Ok)(st:St)(hw:Wf st):c 129 [.agg t.cells] st=some (.int .i64 (qA t),st):=by
 rw[Nz hc (t.cg.length+1) (r:=(.int .i64 (qA t),af st (.cells t.cells 0))),aA (Plain.int _ _) (aZ hw)];rw[RM];have hs:=NG hc t (af st (.cells t.cells 0)) (bt hw);have hn:=RW hc t.name ht.name;have hg:(af st (.cells t.cells 0)).heap.get st.next=some (.cells t.cells 0):=aE _ _;have c0:t.cells[0]? =some (.str t.name):=rfl;have c4:t.cells[4]? =some (ints t.oz t.cg):=rfl;have c5:t.cells[5]? =some (.int .i64 t.x):=rfl;have c6:t.cells[6]? =some (.int .i64 t.y):=rfl;have cc:cut t.cells 0 7=some t.cells:=bV rfl
 have L:∀k1 k3,kO c (t.cg.length+1) k1 k3 (t.cg.length+1) [.ptr st.next 0,.int .i64 (cv t),.int .i64 (-1),ints t.oz t.cg,.int .i64 (t.cg.length:Int),.int .i64 0] (af st (.cells t.cells 0))=
     if si (cv t) (-1) (t.cg.drop 0)=true then k3 [.ptr st.next 0] (af st (.cells t.cells 0))else k1 [.int .i64 11] (af st (.cells t.cells 0)):=
   λk1 k3=>MF st.next (cv t) t.oz t.cg ht.cg _ _ k1 k3 t.cg.length 0 (-1) (by omega) (by omega)
 rw[Zc9]at L;have lI:∀(K:AV->St->Option (AV×St))(s:St),ai c (.lenB .l) [ints t.oz t.cg] s K=K (.int .i64 (t.cg.length:Int)) s:=λK s=>by unfold ints;rw[bN];simp
 unfold qA;generalize t.cells=tc at*
 generalize cv t=sz at*
 generalize si sz (-1) t.cg=op at*
 by_cases h1:dP t.name=true
 . by_cases h2:sz=0
   .simp[AV.cells,hs,hn,hg,c0,cc,h1,h2]
   . cases op
     .  simp[AV.cells,hs,hn,hg,c0,c4,cc,h1,h2,lI,L]
     .  by_cases h3:t.x<0
        .have:¬0<=t.x:=(by omega);simp[AV.cells,hs,hn,hg,c0,c4,c5,c6,cc,h1,h2,lI,L,h3,this]
        by_cases h4:1000<t.x
        .have:¬t.x<=1000:=(by omega);simp[AV.cells,hs,hn,hg,c0,c4,c5,c6,cc,h1,h2,lI,L,h3,h4,this]
        by_cases h5:t.y<0
        .have:¬0<=t.y:=(by omega);simp[AV.cells,hs,hn,hg,c0,c4,c5,c6,cc,h1,h2,lI,L,h3,h4,h5,this]
        by_cases h6:1000<t.y
        .have:¬t.y<=1000:=(by omega);simp[AV.cells,hs,hn,hg,c0,c4,c5,c6,cc,h1,h2,lI,L,h3,h4,h5,h6,this]
        have h7:0<=t.x:=(by omega);have h8:t.x<=1000:=(by omega);have h9:0<=t.y:=(by omega);have GN:t.y<=1000:=(by omega);simp[AV.cells,hs,hn,hg,c0,c4,c5,c6,cc,h1,h2,lI,L,h3,h4,h5,h6,h7,h8,h9,GN]
 .simp[AV.cells,hs,hn,hg,c0,cc,h1]
theorem wA(t:aD):0<=cv t/\cv t<=1000:=by
 unfold cv;repeat' split
 all_goals omega
theorem Pz(hc:Sem c)(p:Pos)(t:aD)(hl:t.cg.length<cw)(n:Int)(hn:0<=n/\n<=1000)(F:Nat)(st:St)(hp:st.heap.get p=some (.cells t.cells 0))(k1 k2):∀(m k:Nat)(last:Int),t.cg.length<=k+m->k<=t.cg.length-> -1<=last->(∀h:0<k,∀h':k - 1<t.cg.length,t.cg[k - 1]=last)->(k=0->last= -1)->
  fc c F k1 k2 (m+1) [.ptr p 0,.int .i64 n,.int .i64 (k:Int)] st=if si n last (t.cg.drop k)=true then k2 [.ptr p 0] st else k1 [.int .i64 11] st:=by
 have c4:t.cells[4]? =some (ints t.oz t.cg):=rfl;have lI:∀(K:AV->St->Option (AV×St))(s:St),ai c (.lenB .l) [ints t.oz t.cg] s K=K (.int .i64 (t.cg.length:Int)) s:=λK s=>by unfold ints;rw[bN];simp
 intro m;induction m with
 |zero=>
  intro k last h1 h2 _ _ _;rw[rF];obtain rfl:k=t.cg.length:=by omega
  simp[si,hp,c4,lI]
 |succ m ih=>
  intro k last h1 h2 hla acy hz;rw[rF];by_cases h:k<t.cg.length
  . have e:t.cg.drop k=t.cg[k]::t.cg.drop (k+1):=Zb3 h;have w:aB .i64 ((k:Int)+1)=((k+1:Nat):Int):=wrap64 (by omega) (by unfold cw at hl;omega);have wn:aB .i64 (n - 1)=n - 1:=wrap64 (by omega) (by omega);have g:=RX t.cg k h;rw[e,si];by_cases h3:0<=t.cg[k]/\t.cg[k]<=n - 1
    .   have h6:t.cg[k]<n:=(by omega);have:=ih (k+1) t.cg[k] (by omega) (by omega) (by omega) (λ_ _=>by simp) (λh=>by omega);generalize si n t.cg[k] (t.cg.drop (k+1))=rest at this ⊢;by_cases h0:k=0
        .have h4:last<t.cg[k]:=(by rw[hz h0];omega);have hk:¬0<k:=(by omega);simp only[h4,h6,Zi7,Zd8];rw[<-this];simp[hp,c4,lI,ints,h,h3,wn,dQ hc,hk,w]
        . have hk:0<k:=(by omega);have mL:k - 1<t.cg.length:=(by omega);have sx:=acy (by omega) mL;have wk:aB .i64 ((k:Int) - 1)=((k - 1:Nat):Int):=(by rw[wrap64 (by omega) (by unfold cw at hl;omega)];omega);by_cases h5:t.cg[k]<=last
          .have h4:¬last<t.cg[k]:=(by omega);simp[hp,c4,lI,ints,h,h3,h4,h5,wn,dQ hc,hk,mL,sx,wk]
          .have h4:last<t.cg[k]:=(by omega);simp only[h4,h6,Zi7,Zd8];rw[<-this];simp[hp,c4,lI,ints,h,h3,h5,wn,dQ hc,hk,mL,sx,wk,w]
    .   have h4:(decide (last<t.cg[k])&&decide (t.cg[k]<n))=false:=(by simp;omega);rw[h4,Bool.false_and];simp[hp,c4,lI,ints,h,h3,wn,dQ hc]
  .obtain rfl:k=t.cg.length:=(by omega);simp[si,hp,c4,lI]
theorem Tk(hc:Sem c)(t:aD)(ht:t.Ok)(st:St)(hw:Wf st):c 189 [.agg t.cells] st=some (.int .i64 (qA t),st):=by
 rw[CT hc (t.cg.length+1) (r:=(.int .i64 (qA t),af st (.cells t.cells 0))),aA (Plain.int _ _) (aZ hw)];rw[FF];have hs:=FO hc t (af st (.cells t.cells 0)) (bt hw);have hn:=FP hc t.name;have hg:(af st (.cells t.cells 0)).heap.get st.next=some (.cells t.cells 0):=aE _ _;have c0:t.cells[0]? =some (.str t.name):=rfl;have c4:t.cells[4]? =some (ints t.oz t.cg):=rfl;have c5:t.cells[5]? =some (.int .i64 t.x):=rfl;have c6:t.cells[6]? =some (.int .i64 t.y):=rfl;have cc:cut t.cells 0 7=some t.cells:=bV rfl;have hz:0<=cv t/\cv t<=1000:=wA t
 have L:∀k1 k3,fc c (t.cg.length+1) k1 k3 (t.cg.length+1) [.ptr st.next 0,.int .i64 (cv t),.int .i64 0] (af st (.cells t.cells 0))=
     if si (cv t) (-1) (t.cg.drop 0)=true then k3 [.ptr st.next 0] (af st (.cells t.cells 0))else k1 [.int .i64 11] (af st (.cells t.cells 0)):=
   λk1 k3=>Pz hc st.next t ht.cg (cv t) hz _ _ hg k1 k3 t.cg.length 0 (-1) (by omega) (by omega) (by omega) (λh=>by omega) (λ_=>rfl)
 rw[Zc9]at L;unfold qA;generalize t.cells=tc at*
 generalize cv t=sz at*
 generalize si sz (-1) t.cg=op at*
 by_cases h1:dP t.name=true
 . by_cases h2:sz=0
   .simp[AV.cells,hs,hn,hg,c0,cc,h1,h2]
   . cases op
     .  simp[AV.cells,hs,hn,hg,c0,cc,h1,h2,L]
     .  by_cases h3:0<=t.x/\t.x<=1000
        . by_cases h4:0<=t.y/\t.y<=1000
          .simp[AV.cells,hs,hn,hg,c0,c5,c6,cc,h1,h2,L,h3,h4,dQ hc]
          .simp[AV.cells,hs,hn,hg,c0,c5,c6,cc,h1,h2,L,h3,h4,dQ hc]
        . have h5:¬(0<=t.x/\t.x<=1000/\0<=t.y/\t.y<=1000):=λh=>h3 ⟨h.1,h.2.1⟩
          rw[Za4 h5];simp[AV.cells,hs,hn,hg,c0,c5,cc,h1,h2,L,h3,dQ hc]
 .simp[AV.cells,hs,hn,hg,c0,cc,h1]
def scan(P:Nat->Bool):Nat->Nat->Int
 |0,_=> -1
 |m+1,k=>if P k=true then(k:Int)else scan P m (k+1)
theorem D9(P:Nat->Bool):∀(m k:Nat),-1<=scan P m k/\(scan P m k<0->scan P m k= -1)
 |0,_=>by simp[scan]
 |m+1,k=>by
  unfold scan;split
  .omega
  .exact D9 P m (k+1)
theorem MG{P Q:Nat->Bool}:∀(m k:Nat),(∀i,k<=i->i<k+m->P i=Q i)->scan P m k=scan Q m k
 |0,_,_=>rfl
 |m+1,k,h=>by
  unfold scan;rw[h k (by omega) (by omega),MG m (k+1) λi h1 h2=>h i (by omega) (by omega)]
theorem FQ{P:Nat->Bool}:∀(m k:Nat),0<=scan P m k->k<=(scan P m k).toNat/\(scan P m k).toNat<k+m/\P (scan P m k).toNat=true
 |0,k,h=>by simp[scan]at h
 |m +1,k,h=>by
  unfold scan at h ⊢;split
  .rename_i hp;simp;exact hp
  .rename_i hp;rw[Za4 hp]at h;have:=FQ m (k+1) h;exact⟨by omega,by omega,this.2.2⟩
def tabs(z:Bool)(ts:List aD):AV:=ro 7 z (ts.map aD.cells)
@[simp] theorem aD.c0(t:aD):t.cells[0]? =some (.str t.name):=id rfl
@[simp] theorem aD.c1(t:aD):t.cells[1]? =some (.int .u8 t.sh):=id rfl
@[simp] theorem aD.c2(t:aD):t.cells[2]? =some (.int .i64 t.a):=id rfl
@[simp] theorem aD.c3(t:aD):t.cells[3]? =some (.int .i64 t.b):=id rfl
@[simp] theorem aD.c4(t:aD):t.cells[4]? =some (ints t.oz t.cg):=id rfl
@[simp] theorem aD.c5(t:aD):t.cells[5]? =some (.int .i64 t.x):=id rfl
@[simp] theorem aD.c6(t:aD):t.cells[6]? =some (.int .i64 t.y):=id rfl
@[simp] theorem aD.cc(t:aD):cut t.cells 0 7=some t.cells:=bV rfl
theorem aD.len(t:aD):t.cells.length=7:=id rfl
@[simp] theorem aD.one(t:aD):aQ t.cells=true:=by unfold aD.cells;simp only[aQ,Y5];rfl
@[simp] theorem IN(l:List AV):(AV.agg l).cells=l:=id rfl
def gI(ts:List aD)(s:List Nat)(i:Nat):Bool:=decide (ts[i]?.map aD.name=some s)
def cS(ts:List aD):Nat->Nat->Int×Int
 |0,_=>(0,0)
 |  m+1,k=>match ts[k]? with
    |none=>(0,0)
    |some t=>if qA t≠0 then((k:Int),qA t)else if 0<=scan (gI ts t.name) k 0 then((k:Int),5)else cS ts m (k+1)
def bf(ts:List aD):Int×Int:=if 16<ts.length then(0,7)else cS ts ts.length 0
theorem FR(ts:List aD):∀(m m' k:Nat),ts.length<=k+m->ts.length<=k+m'->cS ts m k=cS ts m' k
 |0,0,_,_,_=>rfl
 |0,m'+1,k,h,_=>by rw[cS,cS,Zb1 (by omega)]
 |m+1,0,k,_,h=>by rw[cS,cS,Zb1 (by omega)]
 |m+1,m'+1,k,h,h'=>by
  rw[cS,cS,FR ts m m' (k+1) (by omega) (by omega)]
theorem FT(ts:List aD):∀(m k:Nat),(cS ts m k).2=0->(cS ts m k).1=0
 |0,_,_=>rfl
 |m +   1,k,h=>by
  rw[cS]at h ⊢;split at h
  .rfl
  . split at h
    .   rename_i cW;exact absurd h cW
    .   split at h
        .simp at h
        .rename_i h1 h2;rw[Za4 h1,Za4 h2];exact FT ts m (k+1) h
theorem NJ(z:Bool)(ts:List aD)(k:Nat)(hk:k<ts.length)(hl:ts.length<=16)(F:Nat)(st:St)(k1 k4):∀(m j:Nat),k<=j+m->j<=k->
  cY c F k1 k4 (m+1) [tabs z ts,.int .i64 (k:Int),.int .i64 (j:Int)] st=if 0<=scan (gI ts ts[k].name) (k - j) j then k1 [.int .i64 (k:Int),.int .i64 5] st else k4 [tabs z ts,.int .i64 (k:Int)] st:=by
 intro m;induction m with
 |zero=>
  intro j h1 h2;obtain rfl:j=k:=by omega
  rw[oH];simp[scan]
 |succ m ih=>
  intro j h1 h2;rw[oH];by_cases h:j<k
  . have hj:j<ts.length:=(by omega);have e:k - j=(k - (j+1))+1:=(by omega);have w:aB .i64 ((j:Int)+1)=((j+1:Nat):Int):=wrap64 (by omega) (by omega);rw[e,scan];by_cases h3:ts[j].name=ts[k].name
    .   have:gI ts ts[k].name j=true:=(by simp[gI,hj,h3]);rw[Za7 this];simp[tabs,h,hj,hk,h3]
    .   have:¬gI ts ts[k].name j=true:=(by simp[gI,hj,h3]);rw[Za4 this, <-ih (j+1) (by omega) (by omega)];simp[tabs,h,hj,hk,h3,w]
  .obtain rfl:j=k:=(by omega);simp[scan]
theorem MH(hc:Sem c)(z:Bool)(ts:List aD)(cJ:∀t∈ts,t.Ok)(hl:ts.length<=16)(st:St)(hw:Wf st)(k1 k2):∀(m k:Nat),ts.length<=k+m->k<=ts.length->
  dW c 20 k1 k2 (m+1) [tabs z ts,.int .i64 (k:Int)] st=if(cS ts m k).2=0 then k2 [] st else k1 [.int .i64 (cS ts m k).1,.int .i64 (cS ts m k).2] st:=by
 intro m;induction m with
 |zero=>
  intro k h1 h2;obtain rfl:k=ts.length:=by omega
  rw[oI];simp[cS,tabs]
 |succ m ih=>
  intro k h1 h2;rw[oI];by_cases h:k<ts.length
  . have w:aB .i64 ((k:Int)+1)=((k+1:Nat):Int):=wrap64 (by omega) (by omega);have hch:=Tk hc ts[k] (cJ _ (Zc4 h)) st hw;have L:∀k1 k4,cY c 20 k1 k4 20 [tabs z ts,.int .i64 (k:Int),.int .i64 0] st=if 0<=scan (gI ts ts[k].name) (k - 0) 0 then k1 [.int .i64 (k:Int),.int .i64 5] st else k4 [tabs z ts,.int .i64 (k:Int)] st:=
        λk1 k4=>NJ z ts k h hl 20 st k1 k4 19 0 (by omega) (by omega)
    rw[Zk9]at L;rw[cS,H1 h];simp only;by_cases h3:qA ts[k]=0
    .   by_cases h4:0<=scan (gI ts ts[k].name) k 0
        .simp[tabs,h,hch,h3,h4]at L ⊢;rw[L];simp
        .have:=ih (k+1) (by omega) (by omega);simp[tabs,h,hch,h3,h4]at L this ⊢;rw[L];simp[w,this]
    .   simp[tabs,h,hch,h3]
  .obtain rfl:k=ts.length:=(by omega);simp[cS,tabs]
theorem NK(hc:Sem c)(z:Bool)(ts:List aD)(cJ:∀t∈ts,t.Ok)(st:St)(hw:Wf st):c 136 [tabs z ts] st=some (.tuple [.int .i64 (bf ts).1,.int .i64 (bf ts).2],st):=by
 rw[zy hc 20 (r:=(.tuple [.int .i64 (bf ts).1,.int .i64 (bf ts).2],st)),aA (Plain.tuple (by simp[Plain.int])) (aV.refl st)];rw[Bj];by_cases h:16<ts.length
 .have hi:(16:Int)<ts.length:=(by omega);simp[tabs,bf,h,hi]
 . have hi:¬(16:Int)<ts.length:=(by omega);have L:∀k1 k2,dW c 20 k1 k2 20 [tabs z ts,.int .i64 0] st=if(cS ts 19 0).2=0 then k2 [] st else k1 [.int .i64 (cS ts 19 0).1,.int .i64 (cS ts 19 0).2] st:=
     λk1 k2=>MH hc z ts cJ (by omega) st hw k1 k2 19 0 (by omega) (by omega)
   have e:bf ts=cS ts 19 0:=(by rw[bf,Za4 h];exact FR ts _ _ 0 (by omega) (by omega));rw[e];simp[tabs,hi]at L ⊢;rw[L];by_cases h2:(cS ts 19 0).2=0
   .have:=FT ts 19 0 h2;simp[h2,this]
   .simp[h2]
theorem RY(hc:Sem c)(x t:aD)(p:Pos)(st:St)(hw:Wf st)(hp:st.heap.get p=some (.cells t.cells 0)):c 197 [.agg x.cells,.ptr p 0] st=some (.bool (decide (x.name=t.name)),st):=by
 rw[G0 hc 1 (r:=(.bool (decide (x.name=t.name)),af st (.cells x.cells 0))),aA (Plain.bool _) (aZ hw)];rw[Jw];have:(af st (.cells x.cells 0)).heap.get p=some (.cells t.cells 0):=aZ hw _ _ hp;simp[this]
theorem Y7(hc:Sem c)(x:aD)(s:List Nat)(p:Pos)(st:St)(hw:Wf st)(hp:st.heap.get p=some (.cells [.str s] 0)):c 216 [.agg x.cells,.ptr p 0] st=some (.bool (decide (x.name=s)),st):=by
 rw[MA hc 1 (r:=(.bool (decide (x.name=s)),af st (.cells x.cells 0))),aA (Plain.bool _) (aZ hw)];rw[Po];have:(af st (.cells x.cells 0)).heap.get p=some (.cells [.str s] 0):=aZ hw _ _ hp;simp[this]
theorem Xj(z:Bool)(rs:List (List AV))(hl:rs.length<cw)(cU:∀cs∈rs,cs.length=7)(g:Nat)(v:List AV)(P:Nat->Bool)(st:St)(F:Nat)(k1 k2)
  (hP:∀i (h:i<rs.length),c g (.agg rs[i]::v) st=some (.bool (P i),st)):∀(m k:Nat),rs.length<=k+m->k<=rs.length->
  bI c F k1 k2 (m+1) [ro 7 z rs,.func g [] v,.int .i64 (rs.length:Int),.int .i64 (k:Int)] st=if 0<=scan P (rs.length - k) k then k1 [.int .i64 (scan P (rs.length - k) k)] st else k2 [] st:=by
 intro m;induction m with
 |zero=>
  intro k h1 h2;obtain rfl:k=rs.length:=by omega
  rw[gS];simp[scan]
 |succ m ih=>
  intro k h1 h2;rw[gS];by_cases h:k<rs.length
  . have e:rs.length - k=(rs.length - (k+1))+1:=(by omega);have w:aB .i64 ((k:Int)+1)=((k+1:Nat):Int):=wrap64 (by omega) (by unfold cw at hl;omega);have hcut:cut rs[k] 0 7=some rs[k]:=bV (cU _ (Zc4 h));have hp:=hP k h;rw[e,scan];cases hb:P k
    .   simp only[Zd3,Zd5];rw[<-ih (k+1) (by omega) (by omega)];simp[h,hcut,hp,hb,w]
    .   simp[h,hcut,hp,hb]
  .obtain rfl:k=rs.length:=(by omega);simp[scan]
theorem Um(hc:Sem c)(z:Bool)(rs:List (List AV))(hl:rs.length<cw)(cU:∀cs∈rs,cs.length=7)(g:Nat)(v:List AV)(P:Nat->Bool)(st:St)
   (hP:∀i (h:i<rs.length),c g (.agg rs[i]::v) st=some (.bool (P i),st)):c 215 [ro 7 z rs,.func g [] v] st=some (.int .i64 (scan P rs.length 0),st):=by
 rw[n8 hc (rs.length+1) (r:=(.int .i64 (scan P rs.length 0),st)),aA (Plain.int _ _) (aV.refl st)];rw[o7];have L:∀k1 k2,bI c (rs.length+1) k1 k2 (rs.length+1) [ro 7 z rs,.func g [] v,.int .i64 (rs.length:Int),.int .i64 0] st=if 0<=scan P (rs.length - 0) 0 then k1 [.int .i64 (scan P (rs.length - 0) 0)] st else k2 [] st:=
   λk1 k2=>Xj z rs hl cU g v P st _ k1 k2 hP rs.length 0 (by omega) (by omega)
 rw[Zk9]at L;by_cases h:0<=scan P rs.length 0
 .simp[L,h]
 .have:=(D9 P rs.length 0).2 (by omega);simp[L,this]
theorem RZ(hc:Sem c)(z:Bool)(rs:List (List AV))(hl:rs.length<cw)(cU:∀cs∈rs,cs.length=7)(g:Nat)(v:List AV)(P:Nat->Bool)(st:St)
  (hP:∀i (h:i<rs.length),c g (.agg rs[i]::v) st=some (.bool (P i),st)):c 196 [ro 7 z rs,.func g [] v] st=some (.bool (decide (0<=scan P rs.length 0)),st):=by
 rw[l6 hc 1 (r:=(.bool (decide (0<=scan P rs.length 0)),st)),aA (Plain.bool _) (aV.refl st)];rw[nh];simp[Um hc z rs hl cU g v P st hP]
theorem PA(hc:Sem c)(z:Bool)(ts:List aD)(cJ:∀t∈ts,t.Ok)(hl:ts.length<=16)(F:Nat)(k1 k2):∀(m k:Nat)(st:St),Wf st->ts.length<=k+m->k<=ts.length->
  ∃st',Grew st st'/\j0 c F k1 k2 (m+1) [tabs z ts,tabs z ts,.int .i64 (ts.length:Int),.int .i64 (k:Int)] st=if(cS ts m k).2=0 then k2 [] st' else k1 [.int .i64 (cS ts m k).1,.int .i64 (cS ts m k).2] st':=by
 intro m;induction m with
 |zero=>
  intro k st hw h1 h2;obtain rfl:k=ts.length:=by omega
  refine⟨st,Grew.refl hw,?_⟩;rw[qv];simp[cS,tabs]
 |succ m ih=>
  intro k st hw h1 h2;by_cases h:k<ts.length
  . have w:aB .i64 ((k:Int)+1)=((k+1:Nat):Int):=wrap64 (by omega) (by omega);have bM:Wf (af st (.cells ts[k].cells 0)):=bt hw;have hg:=Grew.af hw (.cells ts[k].cells 0);have hch:=Y6 hc ts[k] (cJ _ (Zc4 h)) _ bM;have Xk:=RZ hc (z&&(ts.map aD.cells).isEmpty) ((ts.map aD.cells).take k) (by simp[cw];omega) (λcs eR=>by
          have:=List.mem_of_mem_take eR;simp only[Zf1]at this;obtain⟨t,_,rfl⟩:=this;rfl) 197 [.ptr st.next 0] (gI ts ts[k].name) (af st (.cells ts[k].cells 0)) (λi hi=>by
          have wS:i<k:=(by simp at hi;omega);have Xl:i<ts.length:=(by omega);have:=RY hc ts[i] ts[k] st.next (af st (.cells ts[k].cells 0)) bM (aE _ _);simp only[Zj8,Zm0];rw[this];simp[gI,Xl])
    have hlen:((ts.map aD.cells).take k).length=k:=(by simp;omega);rw[hlen]at Xk;rw[qv,cS,H1 h];simp only;by_cases h3:qA ts[k]=0
    .   by_cases h4:0<=scan (gI ts ts[k].name) k 0
        .refine⟨_,hg,?_⟩;have mq:k<=ts.length:=(by omega);simp only[tabs,List.isEmpty_map]at Xk ⊢;simp[h,hch,h3,h4,mq,Xk,aD.len]
        .obtain⟨st',g1,g2⟩:=ih (k+1) _ bM (by omega) (by omega);refine⟨st',hg.trans g1,?_⟩;have mq:k<=ts.length:=(by omega);have e3:¬qA ts[k]≠0:=(by rw[h3];simp);simp only[e3,h4,Zd5];rw[<-g2];simp only[tabs,List.isEmpty_map]at Xk ⊢;simp[h,hch,h3,h4,mq,Xk,w,aD.len]
    .   refine⟨_,hg,?_⟩;simp[tabs,h,hch,h3,aD.len]
  .obtain rfl:k=ts.length:=(by omega);refine⟨st,Grew.refl hw,?_⟩;rw[qv];simp[cS,tabs]
theorem Ke(hc:Sem c)(z:Bool)(ts:List aD)(cJ:∀t∈ts,t.Ok)(st:St)(hw:Wf st):c 148 [tabs z ts] st=some (.tuple [.int .i64 (bf ts).1,.int .i64 (bf ts).2],st):=by
 have mo:Plain (.tuple [.int .i64 (bf ts).1,.int .i64 (bf ts).2]):=Plain.tuple (by simp[Plain.int]);by_cases h:16<ts.length
 .rw[zk hc 20 (r:=(.tuple [.int .i64 (bf ts).1,.int .i64 (bf ts).2],st)),aA mo (aV.refl st)];rw[Cb];have hi:(16:Int)<ts.length:=(by omega);simp[tabs,bf,h,hi]
 . have hi:¬(16:Int)<ts.length:=(by omega);have e:bf ts=cS ts 19 0:=(by rw[bf,Za4 h];exact FR ts _ _ 0 (by omega) (by omega));have hex:=λk1 k2=>PA hc z ts cJ (by omega) 20 k1 k2 19 0 st hw (by omega) (by omega)
   obtain⟨st',hg,L⟩:=hex (λvs s36=>dO vs λx2 vs=>dO vs λx3 vs=>fG vs (some (.tuple [x2,x3],s36))) (λvs s37=>fG vs (
     ai c .move [(.int .i64 0)] s37 λx2 s38=>ai c .move [(.int .i64 0)] s38 λx3 s39=>some (.tuple [x2,x3],s39)))
   rw[zk hc 20 (r:=(.tuple [.int .i64 (bf ts).1,.int .i64 (bf ts).2],st')),aA mo hg.keeps];rw[Cb,e];simp only[tabs]at L;simp[tabs,hi]at L ⊢;rw[L];by_cases h2:(cS ts 19 0).2=0
   .have:=FT ts 19 0 h2;simp[h2,this]
   .simp[h2]
def bK(ts:List aD):Int:=(ts.map cv).sum
theorem FU(ts:List aD):0<=bK ts/\bK ts<=1000*ts.length:=by
 induction ts with
 |nil=>simp[bK]
 |cons t ts ih=>
  have:=wA t;simp only[bK,Zb4,List.sum_cons,Ze6]at ih ⊢;omega
theorem FV(ts:List aD)(t:aD):bK (ts++[t])=bK ts+cv t:=by simp[bK]
def wB(ts:List aD)(t:Int):Int:=if t<0\/(ts.length:Int)<=t\/(bf ts).2≠0 then 0 else bK (ts.take t.toNat)
theorem KX(hc:Sem c)(z:Bool)(ts:List aD)(cJ:∀t∈ts,t.Ok)(st:St)(hw:Wf st):c 116 [tabs z ts] st=some (.bool (decide ((bf ts).2=0)),st):=by
 rw[Nw hc 1 (r:=(.bool (decide ((bf ts).2=0)),st)),aA (Plain.bool _) (aV.refl st)];rw[RJ];simp[Ke hc z ts cJ st hw]
theorem OX{ts:List aD}(h:(bf ts).2=0):ts.length<=16:=by
 unfold bf at h;split at h
 .simp at h
 .omega
theorem Vy(hc:Sem c)(z:Bool)(ts:List aD)(hl:ts.length<=16)(F:Nat)(k2):∀(m k:Nat)(st:St),Wf st->ts.length<=k+m->k<=ts.length->
  ∃st',Grew st st'/\oG c F k2 (m+1) [.int .i64 (bK (ts.take k)),tabs z ts,.int .i64 (ts.length:Int),.int .i64 (k:Int)] st=k2 [.int .i64 (bK ts)] st':=by
 intro m;induction m with
 |zero=>
  intro k st hw h1 h2;obtain rfl:k=ts.length:=by omega
  refine⟨st,Grew.refl hw,?_⟩;rw[vL];simp
 |succ m ih=>
  intro k st hw h1 h2;by_cases h:k<ts.length
  . have w:aB .i64 ((k:Int)+1)=((k+1:Nat):Int):=wrap64 (by omega) (by omega);have bM:Wf (af st (.cells ts[k].cells 0)):=bt hw;have hg:=Grew.af hw (.cells ts[k].cells 0);have hs:=NG hc ts[k] _ bM;have e:bK (ts.take (k+1))=bK (ts.take k)+cv ts[k]:=by
        rw[Zb2 h,FV]
    have b1:=FU (ts.take k);have b2:=wA ts[k];have b3:(ts.take k).length<=16:=(by simp;omega);have w2:aB .i64 (bK (ts.take k)+cv ts[k])=bK (ts.take (k+1)):=(by rw[e];exact wrap64 (by omega) (by omega));obtain⟨st',g1,g2⟩:=ih (k+1) _ bM (by omega) (by omega);refine⟨st',hg.trans g1,?_⟩;rw[<-g2,vL];simp[tabs,h,hs,w,w2,aD.len]
  .obtain rfl:k=ts.length:=(by omega);refine⟨st,Grew.refl hw,?_⟩;rw[vL];simp
theorem Y8(hc:Sem c)(z:Bool)(ts:List aD)(cJ:∀t∈ts,t.Ok)(k:Int)(st:St)(hw:Wf st):c 86 [tabs z ts,.int .i64 k] st=some (.int .i64 (wB ts k),st):=by
 have lT:∀(K:AV->St->Option (AV×St))(s:St),ai c (.lenB .l) [tabs z ts] s K=K (.int .i64 (ts.length:Int)) s:=λK s=>by unfold tabs;rw[bN];simp
 have hv:=KX hc z ts cJ st hw;by_cases h:k<0\/(ts.length:Int)<=k\/(bf ts).2≠0
 . have e:wB ts k=0:=(by rw[wB,Za7 h]);rw[D5 hc 1 (r:=(.int .i64 (wB ts k),st)),aA (Plain.int _ _) (aV.refl st)];rw[Ij,e];by_cases h1:k<0
   .simp[h1]
   . by_cases h2:(ts.length:Int)<=k
     .  simp[h1,h2,lT]
     .  have h3:(bf ts).2≠0:=h.resolve_left h1 |>.resolve_left h2;simp[h1,h2,h3,lT,hv]
 . have e:wB ts k=bK (ts.take k.toNat):=(by rw[wB,Za4 h]);have h1:¬k<0:=λe=>h (.inl e)
   have h2:¬(ts.length:Int)<=k:=λe=>h (.inr (.inl e))
   have h3:(bf ts).2=0:=Zi2 λe=>h (.inr (.inr e))
   have hl:=OX h3;obtain⟨n,rfl⟩:∃n:Nat,k=(n:Int):=⟨k.toNat,by omega⟩
   have hn:n<=ts.length:=(by omega);have hex:=λk2=>Vy hc (z&&ts.isEmpty) (ts.take n) (by simp;omega) 20 k2 19 0 st hw (by simp;omega) (by omega)
   obtain⟨st',hg,L⟩:=hex (λvs R1=>dO vs λx5 vs=>fG vs (ai c .move [x5] R1 λx34 R2=>ai c .move [x34] R2 λx4 R3=>some (x4,R3)));rw[D5 hc 20 (r:=(.int .i64 (wB ts (n:Int)),st')),aA (Plain.int _ _) hg.keeps];rw[Ij,e];have h4:¬ts.length<=n:=(by omega);have hm:min n ts.length=n:=(by omega);simp[tabs,bK,hm]at L;simp[h1,h4,h3,lT,hv];simp[tabs,hn,hm,bK,L]
theorem Tl(hc:Sem c)(z:Bool)(ts:List aD)(hl:ts.length<=16)(st:St)(hw:Wf st):c 117 [tabs z ts] st=some (.int .i64 (if h:0<ts.length then cv (ts[ts.length - 1]'(by omega))else 0),st):=by
 rw[JA hc 1 (r:=(.int .i64 (if h:0<ts.length then cv (ts[ts.length - 1]'(by omega))else 0),st)),aA (Plain.int _ _) (aV.refl st)];rw[Mu];by_cases h:0<ts.length
 . have h1:¬(ts.length:Int)=0:=(by omega);have h2:ts≠[]:=λe=>by subst e;simp at h
   have w:aB .i64 ((ts.length:Int) - 1)=((ts.length - 1:Nat):Int):=(by rw[wrap64 (by omega) (by omega)];omega);have h3:ts.length - 1<ts.length:=(by omega);have hs:=NG hc (ts[ts.length - 1]'(by omega)) st hw;simp[tabs,h,h1,h2,w,h3,hs]
 .have h1:ts=[]:=Za6 (by omega);subst h1;simp[tabs]
theorem Xm{ts:List aD}(hv:(bf ts).2=0):wB ts ((ts.length:Int) - 1)+(if h:0<ts.length then cv (ts[ts.length - 1]'(by omega))else 0)=bK ts:=by
 by_cases h:0<ts.length
 .rw[dif_pos h,wB,Za4 (by simp[hv];omega)];have e:((ts.length:Int) - 1).toNat=ts.length - 1:=(by omega);rw[e, <-FV, <-Zb2 (by omega)];rw[show ts.length - 1+1=ts.length by omega,Zk3]
 .have h1:ts=[]:=Za6 (by omega);subst h1;simp[wB,bK]
theorem xA(hc:Sem c)(z:Bool)(ts:List aD)(cJ:∀t∈ts,t.Ok)(st:St)(hw:Wf st):c 72 [tabs z ts] st=some (.int .i64 (if(bf ts).2=0 then bK ts else 0),st):=by
 rw[Nv hc 1 (r:=(.int .i64 (if(bf ts).2=0 then bK ts else 0),st)),aA (Plain.int _ _) (aV.refl st)];rw[RI];have lT:∀(K:AV->St->Option (AV×St))(s:St),ai c (.lenB .l) [tabs z ts] s K=K (.int .i64 (ts.length:Int)) s:=λK s=>by unfold tabs;rw[bN];simp
 have hv:=KX hc z ts cJ st hw;by_cases h:(bf ts).2=0
 .have hl:=OX h;have w:aB .i64 ((ts.length:Int) - 1)=(ts.length:Int) - 1:=wrap64 (by omega) (by omega);have hf:=Y8 hc z ts cJ ((ts.length:Int) - 1) st hw;have hla:=Tl hc z ts hl st hw;have b:=FU ts;have e:=Xm h;rw[Za7 h, <-e];rw[<-e]at b;generalize wB ts ((ts.length:Int) - 1)=x at hf b ⊢;generalize (if h:0<ts.length then cv (ts[ts.length - 1]'(by omega))else 0)=y at hla b ⊢;have w2:aB .i64 (x+y)=x+y:=wrap64 (by omega) (by omega);simp[hv,h,lT,w,hf,hla,w2]
 .simp[hv,h]
theorem aaL(hc:Sem c)(z:Bool)(ts:List aD)(cJ:∀t∈ts,t.Ok)(hl:ts.length<cw)(s:List Nat)(st:St)(hw:Wf st):c 172 [tabs z ts,.str s] st=
   some (.tuple [.int .i64 (if 0<=scan (gI ts s) ts.length 0/\(bf ts).2=0 then scan (gI ts s) ts.length 0 else 0),.bool (decide (0<=scan (gI ts s) ts.length 0/\(bf ts).2=0))],st):=by
 rw[Pu hc 1 (r:=(.tuple [.int .i64 (if 0<=scan (gI ts s) ts.length 0/\(bf ts).2=0 then scan (gI ts s) ts.length 0 else 0),.bool (decide (0<=scan (gI ts s) ts.length 0/\(bf ts).2=0))],af st (.cells [.str s] 0))),
   aA (Plain.tuple (by simp[Plain.int,Plain.bool])) (aZ hw)]
 rw[Tg];have bM:Wf (af st (.cells [.str s] 0)):=bt hw;have hi:=Um hc z (ts.map aD.cells) (by simpa using hl) (λcs eR=>by
     simp only[Zf1]at eR;obtain⟨t,_,rfl⟩:=eR;rfl) 216 [.ptr st.next 0] (gI ts s) (af st (.cells [.str s] 0)) (λi hi=>by
     have Xl:i<ts.length:=(by simpa using hi);have:=Y7 hc ts[i] s st.next (af st (.cells [.str s] 0)) bM (aE _ _);simp only[Zm0];rw[this];simp[gI,Xl])
 rw[Zd1]at hi;have hv:=KX hc z ts cJ _ bM;simp only[tabs]at hv ⊢;have e:(AV.str s).cells=[.str s]:=rfl;by_cases h1:0<=scan (gI ts s) ts.length 0
 . have h2:¬scan (gI ts s) ts.length 0<0:=(by omega);by_cases h3:(bf ts).2=0
   .simp[e,hi,h1,h2,h3,hv]
   .simp[e,hi,h1,h2,h3,hv]
 .have h2:scan (gI ts s) ts.length 0<0:=(by omega);simp[e,hi,h1,h2]
structure aG where
 name:List Nat
 ku:List Nat
 iH:List Nat
 since:Int
 side:Int
 kz:List Nat
 host:Bool
 access:Bool
 tz:Bool
 tg:List (List Nat)
def dD(z:Bool)(l:List (List Nat)):AV:=ro 1 z (l.map λs=>[.str s])
def aG.cells(g:aG):List AV:=[.str g.name,.str g.ku,.str g.iH,.int .i64 g.since,.int .i64 g.side,.str g.kz,.bool g.host,.bool g.access,dD g.tz g.tg]
@[simp] theorem Y9(z:Bool)(l:List (List Nat)):(dD z l).one=true:=WZ _ _ _
@[simp] theorem ac0{R:Type}(c:ah)(K:AV->St->Option R)(st:St)(z:Bool)(l:List (List Nat)):ai c (.lenB .l) [dD z l] st K=K (.int .i64 (l.length:Int)) st:=by unfold dD;rw[bN];simp
@[simp] theorem ac1{R:Type}(c:ah)(K:AV->St->Option R)(st:St)(z:Bool)(l:List Int):ai c (.lenB .l) [ints z l] st K=K (.int .i64 (l.length:Int)) st:=by unfold ints;rw[bN];simp
@[simp] theorem aG.c0(t:aG):t.cells[0]? =some (.str t.name):=id rfl
@[simp] theorem aG.c1(t:aG):t.cells[1]? =some (.str t.ku):=id rfl
@[simp] theorem aG.c2(t:aG):t.cells[2]? =some (.str t.iH):=id rfl
@[simp] theorem aG.c3(t:aG):t.cells[3]? =some (.int .i64 t.since):=id rfl
@[simp] theorem aG.c4(t:aG):t.cells[4]? =some (.int .i64 t.side):=id rfl
@[simp] theorem aG.c5(t:aG):t.cells[5]? =some (.str t.kz):=id rfl
@[simp] theorem aG.c6(t:aG):t.cells[6]? =some (.bool t.host):=id rfl
@[simp] theorem aG.c7(t:aG):t.cells[7]? =some (.bool t.access):=id rfl
@[simp] theorem aG.c8(t:aG):t.cells[8]? =some (dD t.tz t.tg):=id rfl
@[simp] theorem aG.cc(t:aG):cut t.cells 0 9=some t.cells:=bV rfl
theorem aG.len(t:aG):t.cells.length=9:=id rfl
@[simp] theorem aG.one(t:aG):aQ t.cells=true:=by unfold aG.cells;simp only[aQ,Y9];rfl
def aX(z:Bool)(gs:List aG):AV:=ro 9 z (gs.map aG.cells)
@[simp] theorem Za{R:Type}(c:ah)(K:AV->St->Option R)(st:St)(z:Bool)(l:List aG):ai c (.lenB .l) [aX z l] st K=K (.int .i64 (l.length:Int)) st:=by unfold aX;rw[bN];simp
def aft(last:Option (List Nat))(s:List Nat):Bool:=match last with
 |none=>true
 |some p=>av p s
@[simp] theorem R4(s:List Nat):aft none s=true:=id rfl
@[simp] theorem R5(p s:List Nat):aft (some p) s=av p s:=id rfl
def zl(last:Option (List Nat)):List (List Nat)->Bool
 |[]=>true
 |s::l=>dP s&&aft last s&&zl (some s) l
theorem R6(last:Option (List Nat))(s:List Nat)(l:List (List Nat)):zl last (s::l)=(dP s&&aft last s&&zl (some s) l):=rfl
def eH(g:aG):Int:=
 if(dP g.name&&j3 g.ku&&j3 g.iH&&j3 g.kz)=false then 4 else if ¬(0<=g.since/\g.since<=9999)then 21 else if ¬(0<=g.side/\g.side<=2)then 20
 else if 4<g.tg.length then 22 else if zl none g.tg=false then 22 else 0
theorem qB:∀(a:List Nat),av a a=false
 |[]=>rfl
 |x::a=>by
  unfold av;simp[zw,dR,qB a]
theorem Ci:∀(a b:List Nat),av a b=true->av b a=false
 |[],[],h=>by simp[av]at h
 |[],_::_,_=>rfl
 |_::_,[],h=>by simp[av]at h
 |x ::a,y::b,h=>by
  unfold av at h ⊢;simp only[zw,dR]at h ⊢;by_cases h1:x<y
  .have:¬y<x:=(by omega);have h3:¬y=x:=(by omega);simp[this,h3]
  . by_cases h2:x=y
    .subst h2;simp at h ⊢; exact Ci a b h
    .simp[h1,h2]at h
theorem wC:∀(a b:List Nat),av a b=false->av b a=false->a=b
 |[],[],_,_=>rfl
 |[],_::_,h,_=>by simp[av]at h
 |_::_,[],_,h=>by simp[av]at h
 |x ::a,y::b,h,k=>by
  unfold av at h k;simp only[zw,dR]at h k;by_cases h1:x<y
  .simp[h1]at h
  . by_cases h2:y<x
    .   simp[h2]at k
    .   have:x=y:=(by omega);subst this;simp at h k;rw[wC a b h k]
theorem FW:∀(a b d:List Nat),av a b=true->av b d=true->av a d=true
 |_,[],[],_,h=>by simp[av]at h
 |_,_::_,[],_,h=>by simp[av]at h
 |[],_,_::_,_,_=>rfl
 |_::_,[],_::_,h,_=>by simp[av]at h
 |x ::a   ,y::b,z::d,h,k=>by
  unfold av at h k ⊢;simp only[zw,dR]at h k ⊢;by_cases h1:x<y
  . by_cases h2:y<z
    .   have:x<z:=(by omega);simp[this]
    .   by_cases h3:y=z
        .subst h3;simp[h1]
        .simp[h2,h3]at k
  . by_cases h2:x=y
    .   subst h2;simp at h;by_cases h4:x<z
        .simp[h4]
        . by_cases h5:x=z
          .subst h5;simp at k ⊢; exact FW a b d h k
          .simp[h4,h5]at k
    .   simp[h1,h2]at h
theorem KY(hc:Sem c)(p:Pos)(g:aG)(hl:g.tg.length<=4)(F:Nat)(st:St)(hp:st.heap.get p=some (.cells g.cells 0))(k1 k3):∀(m k:Nat),g.tg.length<=k+m->k<=g.tg.length->
  jN c F k1 k3 (m+1) [.ptr p 0,dD g.tz g.tg,.int .i64 (g.tg.length:Int),.int .i64 (k:Int)] st=if zl (if k=0 then none else g.tg[k - 1]?) (g.tg.drop k)=true then k3 [] st else k1 [.int .i64 22] st:=by
 intro m;induction m with
 |zero=>
  intro k h1 h2;rw[AR];obtain rfl:k=g.tg.length:=by omega
  simp[zl]
 |succ m ih=>
  intro k h1 h2;rw[AR];by_cases h:k<g.tg.length
  . have e:g.tg.drop k=g.tg[k]::g.tg.drop (k+1):=Zb3 h;have w:aB .i64 ((k:Int)+1)=((k+1:Nat):Int):=wrap64 (by omega) (by omega);have hn:=yK hc g.tg[k] st;have:=ih (k+1) (by omega) (by omega);have e2:(if k+1=0 then none else g.tg[k+1 - 1]?)=some g.tg[k]:=(by rw[Za4 (by omega),Zd9,H1 h]);rw[e2]at this;rw[e,R6];generalize zl (some g.tg[k]) (g.tg.drop (k+1))=rest at this ⊢;by_cases h3:dP g.tg[k]=true
    .   by_cases h0:k=0
        .have hk:¬0<k:=(by omega);simp only[h3,Za7 h0,Zd8,R4];rw[<-this];simp[dD,h,hn,h3,hk,w]
        . have hk:0<k:=(by omega);have mL:k - 1<g.tg.length:=(by omega);have wk:aB .i64 ((k:Int) - 1)=((k - 1:Nat):Int):=(by rw[wrap64 (by omega) (by omega)];omega);simp only[h3,Za4 h0,H1 mL,Zd8,R5];cases hb:av g.tg[k - 1] g.tg[k]
          .simp[dD,h,hn,h3,hk,mL,wk,hp,hb]
          .simp only[Zd8];rw[<-this];simp[dD,h,hn,h3,hk,mL,wk,hp,hb,w]
    .   simp[dD,h,hn,h3]
  .obtain rfl:k=g.tg.length:=(by omega);simp[zl]
theorem NL(hc:Sem c)(g:aG)(st:St)(hw:Wf st):c 298 [.agg g.cells] st=some (.int .i64 (eH g),st):=by
 rw[MD hc 6 (r:=(.int .i64 (eH g),af st (.cells g.cells 0))),aA (Plain.int _ _) (aZ hw)];rw[Pq];have n0:=yK hc g.name;have n1:=yL hc g.ku;have n2:=yL hc g.iH;have n5:=yL hc g.kz;by_cases hn:(dP g.name&&j3 g.ku&&j3 g.iH&&j3 g.kz)=true
 . have R7:=hn;simp only[Za2]at R7;obtain⟨⟨⟨b0,b1⟩,b2⟩,b5⟩:=R7;unfold eH;rw[hn];by_cases h1:g.since<0
   .have:¬(0<=g.since/\g.since<=9999):=(by omega);simp[n0,n1,n2,n5,b0,b1,b2,b5,h1,this]
   by_cases h2:9999<g.since
   .have:¬(0<=g.since/\g.since<=9999):=(by omega);simp[n0,n1,n2,n5,b0,b1,b2,b5,h1,h2,this]
   have h3:0<=g.since/\g.since<=9999:=(by omega);by_cases h4:g.side<0
   .have:¬(0<=g.side/\g.side<=2):=(by omega);simp[n0,n1,n2,n5,b0,b1,b2,b5,h1,h2,h3,h4,this]
   by_cases h5:2<g.side
   .have:¬(0<=g.side/\g.side<=2):=(by omega);simp[n0,n1,n2,n5,b0,b1,b2,b5,h1,h2,h3,h4,h5,this]
   have h6:0<=g.side/\g.side<=2:=(by omega);by_cases h7:4<g.tg.length
   .have h8:(4:Int)<g.tg.length:=(by omega);simp[n0,n1,n2,n5,b0,b1,b2,b5,h1,h2,h3,h4,h5,h6,h7,h8]
   . have h8:¬(4:Int)<g.tg.length:=(by omega);have L:∀k1 k3,jN c 6 k1 k3 6 [.ptr st.next 0,dD g.tz g.tg,.int .i64 (g.tg.length:Int),.int .i64 0] (af st (.cells g.cells 0))=if zl none (g.tg.drop 0)=true then k3 [] (af st (.cells g.cells 0))else k1 [.int .i64 22] (af st (.cells g.cells 0)):=
        λk1 k3=>KY hc st.next g (by omega) 6 _ (aE _ _) k1 k3 5 0 (by omega) (by omega)
     rw[Zc9]at L;generalize zl none g.tg=b at L ⊢;cases b<;>simp[n0,n1,n2,n5,b0,b1,b2,b5,h1,h2,h3,h4,h5,h6,h7,h8,L]
 . have QY:(dP g.name&&j3 g.ku&&j3 g.iH&&j3 g.kz)=false:=(by simpa using hn);have hx:eH g=4:=(by unfold eH;rw[QY];simp);rw[hx];cases b0:dP g.name
   .simp[n0,b0]
   . cases b1:j3 g.ku
     .  simp[n0,n1,b0,b1]
     .  cases b2:j3 g.iH
        .simp[n0,n1,n2,b0,b1,b2]
        . cases b5:j3 g.kz
          .simp[n0,n1,n2,n5,b0,b1,b2,b5]
          .simp[b0,b1,b2,b5]at hn
theorem NM (hc:Sem c)(p:Pos)(g:aG)(hl:g.tg.length<=4)(F:Nat)(st:St)(hp:st.heap.get p=some (.cells g.cells 0))(k1 k2):∀(m k:Nat),g.tg.length<=k+m->k<=g.tg.length->
  fe c F k1 k2 (m+1) [.ptr p 0,.int .i64 (k:Int)] st=if zl (if k=0 then none else g.tg[k - 1]?) (g.tg.drop k)=true then k2 [] st else k1 [.int .i64 22] st:=by
 intro m;induction m with
 |zero=>
  intro k h1 h2;rw[rG];obtain rfl:k=g.tg.length:=by omega
  simp[zl,hp]
 |succ m ih   =>
  intro k h1 h2;rw[rG];by_cases h:k<g.tg.length
  . have e:g.tg.drop k=g.tg[k]::g.tg.drop (k+1):=Zb3 h;have w:aB .i64 ((k:Int)+1)=((k+1:Nat):Int):=wrap64 (by omega) (by omega);have hn:=zO hc g.tg[k] st;have:=ih (k+1) (by omega) (by omega);have e2:(if k+1=0 then none else g.tg[k+1 - 1]?)=some g.tg[k]:=(by rw[Za4 (by omega),Zd9,H1 h]);rw[e2]at this;rw[e,R6];generalize zl (some g.tg[k]) (g.tg.drop (k+1))=rest at this ⊢;by_cases h3:dP g.tg[k]=true
    .   by_cases h0:k=0
        .have hk:¬0<k:=(by omega);simp only[h3,Za7 h0,Zd8,R4];rw[<-this];simp[dD,hp,h,hn,h3,hk,w]
        . have hk:0<k:=(by omega);have mL:k - 1<g.tg.length:=(by omega);have wk:aB .i64 ((k:Int) - 1)=((k - 1:Nat):Int):=(by rw[wrap64 (by omega) (by omega)];omega);simp only[h3,Za4 h0,H1 mL,Zd8,R5];have ho:(av g.tg[k] g.tg[k - 1]||decide (g.tg[k]=g.tg[k - 1]))= !av g.tg[k - 1] g.tg[k]:=by
            cases h5:av g.tg[k - 1] g.tg[k]
            . cases h6:av g.tg[k] g.tg[k - 1]
              .simp[wC _ _ h6 h5]
              .rfl
            . (rw[Ci _ _ h5];have:g.tg[k]≠g.tg[k - 1]:=λe=>by rw[e,qB]at h5;cases h5);simp[this]
          cases hb:av g.tg[k - 1] g.tg[k]
          .rw[hb]at ho;simp[dD,hp,h,hn,h3,hk,mL,wk,ho]
          .rw[hb]at ho;simp only[Zd8];rw[<-this];simp[dD,hp,h,hn,h3,hk,mL,wk,ho,w]
    .   simp[dD,hp,h,hn,h3]
  .obtain rfl:k=g.tg.length:=(by omega);simp[zl,hp]
theorem R8(hc:Sem c)(g:aG)(st:St)(hw:Wf st):c 190 [.agg g.cells] st=some (.int .i64 (eH g),st):=by
 rw[CU hc 6 (r:=(.int .i64 (eH g),af st (.cells g.cells 0))),aA (Plain.int _ _) (aZ hw)];rw[FG];have n0:=zO hc g.name;have n1:=zO hc g.ku;have n2:=zO hc g.iH;have n5:=zO hc g.kz;have en:dP []=false:=rfl;by_cases hn:(dP g.name&&j3 g.ku&&j3 g.iH&&j3 g.kz)=true
 . have R7:=hn;simp only[Za2,j3,Zg0,Zc2]at R7;obtain⟨⟨⟨b0,b1⟩,b2⟩,b5⟩:=R7;unfold eH;rw[hn];have hor:∀r:List Nat,r=[]\/dP r=true->(r=[]\/(¬r=[]/\dP r=true)):=λr h=>by
     by_cases e:r=[]
     .  exact .inl e
     .  exact .inr ⟨e,h.resolve_left e⟩
   have d1:=hor _ b1;have d2:=hor _ b2;have d5:=hor _ b5;by_cases h1:g.since<0
   .have:¬(0<=g.since/\g.since<=9999):=(by omega);rcases d1 with e1|⟨e1,f1⟩<;>rcases d2 with e2|⟨e2,f2⟩<;>rcases d5 with e5|⟨e5,f5⟩<;>simp[*]
   by_cases h2:9999<g.since
   .have:¬(0<=g.since/\g.since<=9999):=(by omega);rcases d1 with e1|⟨e1,f1⟩<;>rcases d2 with e2|⟨e2,f2⟩<;>rcases d5 with e5|⟨e5,f5⟩<;>simp[*]
   have h3:0<=g.since/\g.since<=9999:=(by omega);clear b1 b2 b5 hn hor;by_cases h6:0<=g.side/\g.side<=2
   . have h7:g.side=0\/g.side=1\/g.side=2:=(by omega);by_cases h8:4<g.tg.length
     .  have h9:(4:Int)<g.tg.length:=(by omega);rcases h7 with h7|h7|h7<;>rcases d1 with e1|⟨e1,f1⟩<;>rcases d2 with e2|⟨e2,f2⟩<;>rcases d5 with e5|⟨e5,f5⟩<;>simp[n0,n1,n2,n5,en,b0, *]
     .  have h9:¬(4:Int)<g.tg.length:=(by omega);have L:∀k1 k3,fe c 6 k1 k3 6 [.ptr st.next 0,.int .i64 0] (af st (.cells g.cells 0))=if zl none (g.tg.drop 0)=true then k3 [] (af st (.cells g.cells 0))else k1 [.int .i64 22] (af st (.cells g.cells 0)):=
          λk1 k3=>NM hc st.next g (by omega) 6 _ (aE _ _) k1 k3 5 0 (by omega) (by omega)
        rw[Zc9]at L;generalize zl none g.tg=b at L ⊢;rcases h7 with h7|h7|h7<;>cases b<;>rcases d1 with e1|⟨e1,f1⟩<;>rcases d2 with e2|⟨e2,f2⟩<;>rcases d5 with e5|⟨e5,f5⟩<;>simp[n0,n1,n2,n5,en,b0, *]
   .have g0:¬g.side=0:=(by omega);have g1:¬g.side=1:=(by omega);have g2:¬g.side=2:=(by omega);rcases d1 with e1|⟨e1,f1⟩<;>rcases d2 with e2|⟨e2,f2⟩<;>rcases d5 with e5|⟨e5,f5⟩<;>simp[n0,n1,n2,n5,en,b0, *]
 . have QY  :(dP g.name&&j3 g.ku&&j3 g.iH&&j3 g.kz)=false:=(by simpa using hn);have hx:eH g=4:=(by unfold eH;rw[QY];simp);rw[hx];have hsm:∀r:List Nat,j3 r=false->¬r=[]/\dP r=false:=λr h=>by simpa [j3]using h
   have vg:∀r:List Nat,j3 r=true->(r=[]\/(¬r=[]/\dP r=true)):=λr h=>by
     by_cases e:r=[]
     .  exact .inl e
     .  right;simp[j3,e]at h;exact⟨e,h⟩
   cases b0:dP g.name
   .simp[n0,b0]
   . cases  b1:j3 g.ku
     .  obtain⟨q1,q2⟩:=hsm _ b1;simp[n0,n1,b0,q1,q2]
     .  have d1:=vg _ b1;cases b2:j3 g.iH
        .obtain⟨q1,q2⟩:=hsm _ b2;rcases d1 with e1|⟨e1,f1⟩<;>simp[n0,n1,n2,b0, *]
        . have d2:=vg _ b2;cases b5:j3 g.kz
          .obtain⟨q1,q2⟩:=hsm _ b5;rcases d1 with e1|⟨e1,f1⟩<;>rcases d2 with e2|⟨e2,f2⟩<;>simp[n0,n1,n2,n5,b0, *]
          .simp[b0,b1,b2,b5]at hn
structure Ty where
 a:List Nat
 b:List Nat
 k:Int
def Ty.cells(t:Ty):List AV:=[.str t.a,.str t.b,.int .u8 t.k]
@[simp] theorem Ty.c0(t:Ty):t.cells[0]? =some (.str t.a):=id rfl
@[simp] theorem Ty.c1(t:Ty):t.cells[1]? =some (.str t.b):=id rfl
@[simp] theorem Ty.c2(t:Ty):t.cells[2]? =some (.int .u8 t.k):=id rfl
@[simp] theorem Ty.cc(t:Ty):cut t.cells 0 3=some t.cells:=bV rfl
theorem Ty.len(t:Ty):t.cells.length=3:=id rfl
@[simp] theorem Ty.one(t:Ty):aQ t.cells=true:=id rfl
@[simp] theorem abS{R:Type}(c:ah)(K:AV->St->Option R)(st:St)(t:Ty)(x y z:AV):ai c (.store 3) [.ptr st.next 0,.agg t.cells] (af st (.cells [x,y,z] 0)) K=K .undef (af st (.cells t.cells 0)):=iz c K st 3 (.agg t.cells) [x,y,z] rfl rfl t.one
def bR(z:Bool)(ts:List Ty):AV:=ro 3 z (ts.map Ty.cells)
@[simp] theorem Zb{R:Type}(c:ah)(K:AV->St->Option R)(st:St)(z:Bool)(l:List Ty):ai c (.lenB .l) [bR z l] st K=K (.int .i64 (l.length:Int)) st:=by unfold bR;rw[bN];simp
def fW(gs:List aG)(s:List Nat)(i:Nat):Bool:=decide (gs[i]?.map aG.name=some s)
theorem aaM(z:Bool)(gs:List aG)(s:List Nat)(hl:gs.length<cw)(F:Nat)(st:St)(k1 k2):∀(m k:Nat),gs.length<=k+m->k<=gs.length->
  gG c F k1 k2 (m+1) [aX z gs,.str s,.int .i64 (k:Int)] st=if 0<=scan (fW gs s) (gs.length - k) k then k1 [.int .i64 (scan (fW gs s) (gs.length - k) k)] st else k2 [] st:=by
 intro m;induction m with
 |zero=>
  intro k h1 h2;obtain rfl:k=gs.length:=by omega
  rw[vT];simp[scan]
 |succ m ih=>
  intro k h1 h2;rw[vT];by_cases h:k<gs.length
  . have e:gs.length - k=(gs.length - (k+1))+1:=(by omega);have w:aB .i64 ((k:Int)+1)=((k+1:Nat):Int):=wrap64 (by omega) (by unfold cw at hl;omega);rw[e,scan];by_cases h3:gs[k].name=s
    .   have:fW gs s k=true:=(by simp[fW,h,h3]);simp only[this,Ze5];simp[aX,h,h3]
    .   have:fW gs s k=false:=(by simp[fW,h,h3]);simp only[this,Zd3,Zd5];rw[<-ih (k+1) (by omega) (by omega)];simp[aX,h,h3,w]
  .obtain rfl:k=gs.length:=(by omega);simp[scan]
theorem MI(hc:Sem c)(z:Bool)(gs:List aG)(s:List Nat)(hl:gs.length<cw)(st:St):c 143 [aX z gs,.str s] st=some (.int .i64 (scan (fW gs s) gs.length 0),st):=by
 rw[GW hc (gs.length+1) (r:=(.int .i64 (scan (fW gs s) gs.length 0),st)),aA (Plain.int _ _) (aV.refl st)];rw[Js];have L:∀k1 k2,gG c (gs.length+1) k1 k2 (gs.length+1) [aX z gs,.str s,.int .i64 0] st=if 0<=scan (fW gs s) (gs.length - 0) 0 then k1 [.int .i64 (scan (fW gs s) (gs.length - 0) 0)] st else k2 [] st:=
   λk1 k2=>aaM z gs s hl _ st k1 k2 gs.length 0 (by omega) (by omega)
 rw[Zk9]at L;by_cases h:0<=scan (fW gs s) gs.length 0
 .simp[L,h]
 .have:=(D9 (fW gs s) gs.length 0).2 (by omega);simp[L,this]
def dF(s t:Ty):Bool:=av s.a t.a||(decide (s.a=t.a)&&av s.b t.b)
theorem OY(hc:Sem c)(s t:Ty)(st:St)(hw:Wf st):c 191 [.agg s.cells,.agg t.cells] st=some (.bool (dF s t),st):=by
 rw[Bo hc 1 (r:=(.bool (dF s t),af (af st (.cells s.cells 0)) (.cells t.cells 0))),aA (Plain.bool _) ((aZ hw).trans (aZ (bt hw)))];rw[DX];by_cases h2:s.a=t.a
 .simp[dF,h2,qB]
 .cases h1:av s.a t.a<;>simp[dF,h1,h2]
def wD(a b:List Nat):Int:=if av a b=true then -1 else if av b a=true then 1 else 0
theorem aby(hc:Sem c)(a b:List Nat)(st:St):c 327 [.str a,.str b] st=some (.int .i64 (wD a b),st):=by unfold Sem at hc;subst hc;refine L5 (s:=G6) (by rfl) ?_;show some (AV.int .i64 (match av a b with|true=>.negSucc 0|false=>match av b a with|true=>.ofNat 1|false=>.ofNat 0),st)=_;unfold wD;generalize av a b=p;generalize av b a=q;cases p<;>cases q<;>rfl
theorem KZ(hc:Sem c)(a b:List Nat)(st:St):c 320 [.str a,.str b] st=some (.int .i64 (wD a b),st):=by
 rw[zz hc 1 (r:=(.int .i64 (wD a b),st)),aA (Plain.int _ _) (aV.refl st)];rw[Bk];simp[aby hc]
theorem MJ(hc:Sem c)(a b:List Nat)(st:St):c 300 [.str a,.str b] st=some (.int .i64 (wD a b),st):=by
 rw[G3 hc 1 (r:=(.int .i64 (wD a b),st)),aA (Plain.int _ _) (aV.refl st)];rw[Jz];simp[KZ hc]
theorem Uo{a b:List Nat}:wD a b=0↔a=b:=by
 unfold wD;cases h1:av a b
 . cases h2:av b a
   .simp;exact wC _ _ h1 h2
   .simp;intro e;subst e;rw[qB]at h2;cases h2
 .simp;intro e;subst e;rw[qB]at h1;cases h1
def mM(s t:Ty):Int:=if s.a=t.a then wD s.b t.b else wD s.a t.a
theorem AX(hc:Sem c)(s t:Ty)(st:St)(hw:Wf st):c 258 [.agg s.cells,.agg t.cells] st=some (.int .i64 (mM s t),st):=by
 rw[MB hc 1 (r:=(.int .i64 (mM s t),af (af st (.cells s.cells 0)) (.cells t.cells 0))),aA (Plain.int _ _) ((aZ hw).trans (aZ (bt hw)))];rw[Pp];by_cases h:s.a=t.a
 .have:wD t.a t.a=0:=Uo.2 rfl;simp[mM,MJ hc,h,this]
 . have:¬wD s.a t.a=0:=λe=>h (Uo.1 e)
   simp[mM,MJ hc,h,this]
theorem NN{s t:Ty}:mM s t<0↔dF s t=true:=by
 unfold mM dF wD;by_cases h:s.a=t.a
 .simp only[h,qB,Ze5];cases av s.b t.b<;>cases av t.b s.b<;>simp
 .simp only[h,Zd5];cases av s.a t.a<;>cases av t.a s.a<;>simp
theorem Jo{s t:Ty}:0<mM s t↔dF t s=true:=by
 unfold mM dF wD;by_cases h:s.a=t.a
 . simp only[h,qB,Ze5];cases h1:av s.b t.b
   .cases av t.b s.b<;>simp
   .simp[Ci _ _ h1]
 . have h':¬t.a=s.a:=λe=>h e.symm
   simp only[h,h',Zd5];cases h1:av s.a t.a
   .cases av t.a s.a<;>simp
   .simp[Ci _ _ h1]
theorem Up(hc:Sem c)(a b:List Nat)(k:Int)(aW:av a b=true)(st:St)(hw:Wf st):c 303 [.str a,.str b,.int .u8 k] st=some (.agg (Ty.cells ⟨a,b,k⟩),st):=by
 rw[NC hc 1 (r:=(.agg (Ty.cells ⟨a,b,k⟩),af st (.cells (Ty.cells ⟨a,b,k⟩) 0))),aA (Plain.agg (by simp[Ty.cells,Plain.str,Plain.int])) (aZ hw)];rw[RP];have m1:∀(K:AV->St->Option (AV×St))(s:St),ai c .minB [.str a,.str b] s K=K (.str a) s:=λK s=>aS c K (λH n=>by simp[au.run,zH,aW]) s
 have m2:∀(K:AV->St->Option (AV×St))(s:St),ai c .maxB [.str a,.str b] s K=K (.str b) s:=λK s=>aS c K (λH n=>by simp[au.run,zI,aW]) s
 simp[m1,m2,bP,aI,dZ,AV.cells,aQ,AV.one,bV,Ty.cells]
def fQ(gs:List aG):Nat->Nat->Int×Int
 |0,_=>(0,0)
 |  m+1,k=>match gs[k]? with
    |none=>(0,0)
    |some g=>if eH g≠0 then((k:Int),eH g)else if 0<=scan (fW gs g.name) k 0 then((k:Int),5)else if 64<=k then((k:Int),7)else fQ gs m (k+1)
def j4(ts:List Ty)(k:Nat):Option Ty:=if k=0 then none else ts[k - 1]?
def Cj(t:Ty):Bool:=decide (t.k=1)||decide (t.k=2)
def Qe(t:Ty)(p:Option Ty):Bool:= !Cj t|| !av t.a t.b||(match p with|none=>false|some p=>dF t p)
def n9(t:Ty)(p:Option Ty):Bool:=match p with|none=>false|some p=> !dF p t
def iZ(gs:List aG)(t:Ty):Bool:=decide (scan (fW gs t.a) gs.length 0<0)||decide (scan (fW gs t.b) gs.length 0<0)
def ee(gs:List aG)(ts:List Ty):Nat->Nat->Int×Int
 |0,_=>(0,0)
 |  m+1,k=>match ts[k]? with
    |none=>(0,0)
    |some t=>if Qe t (j4 ts k)=true then((gs.length:Int)+k,23)else if iZ gs t=true then((gs.length:Int)+k,6)
     else if n9 t (j4 ts k)=true then((gs.length:Int)+k,5)else if 256<=k then((gs.length:Int)+k,7)else ee gs ts m (k+1)
def bB(gs:List aG)(ts:List Ty):Int×Int:=if(fQ gs 101 0).2≠0 then fQ gs 101 0 else ee gs ts 101 0
theorem R9{gs:List aG}{s:List Nat}{k:Nat}(hk:k<=gs.length):scan (fW (gs.take k) s) k 0=scan (fW gs s) k 0:=
 MG k 0 λi _ hi=>by simp[fW,Zb0,show i<k by omega]
theorem FX (gs:List aG)(ts:List Ty):∀(m k:Nat),(ee gs ts m k).2=0->(ee gs ts m k).1=0
 |0,_,_=>rfl
 |m +   1,k , h=>by
  rw[ee]at h ⊢;split at h
  .rfl
  . split   at h
    .   simp at h
    .   split at h
        .simp at h
        . split at h
          .simp at h
          . split at h
            .simp at h
            .rename_i h1 h2 h3 h4;rw[Za4 h1,Za4 h2,Za4 h3,Za4 h4];exact FX gs ts m (k+1) h
abbrev FY(s:List Nat):List AV:=[.str s]
theorem Zc(l:List (List Nat)):∀r∈l.map FY,r.length=1:=λr hr=>by simp only[Zf1]at hr;obtain⟨m,_,rfl⟩:=hr;rfl
theorem Zd{s:St}(z:Bool)(l:List (List Nat)):Src 1 s (dD z l) (l.map FY):=Src.ro z _
theorem Xn(hc:Sem c){src:AV}(l:List (List Nat))(hl:l.length<=1000)(s:St)(hw:Wf s)(h:Src 1 s src (l.map FY)):∃v s',c 319 [src] s=some (v,s')/\Mk 1 s s' v (l.map FY):=by
 rcases h.nil with⟨rfl,h0⟩|hn
 . (refine⟨.ax,s,?_,by rw[h0];exact Mk.start hw (Grew.refl hw)⟩;rw[kX hc 1 (r:=(.ax,s)),aA Plain.ax (aV.refl s)];rw[mJ];have e:∀(K:AV->St->Option (AV×St))(s:St),ai c (.bin .eql .slice) [.ax,.ax] s K=K (.bool true) s:=λK s=>aS c K (λH n=>rfl) s);simp[e]
 .obtain⟨v,s',a1,a2⟩:=OS (c:=c) (R:=AV×St) (bytes:=16) (z:=[.str []]) (Zc l) (by decide) (by simp;omega) (by simp;omega) s hw h;obtain⟨gO,t1,t2⟩:=a2.tidy;refine⟨v,gO,?_,t2⟩;rw[kX hc 1 (r:=(v,s')),t1];rw[mJ];simp only[bZ,hn,pP];rw[a1]
def aG.az(g:aG)(v:AV):List AV:=[.str g.name,.str g.ku,.str g.iH,.int .i64 g.since,.int .i64 g.side,.str g.kz,.bool g.host,.bool g.access,v]
theorem aG.Xo(g:aG):g.az (dD g.tz g.tg)=g.cells:=rfl
theorem aG.NO(t:aG){v:AV}(h:aQ [v]=true):aQ (t.az v)=true:=by
 simp only[aQ]at h;unfold aG.az;simp only[aQ,AV.one,h,Zi9,Zi8]at*
structure aG.Low(g:aG):Prop where
 name:∀x∈g.name,x<256
 ku:∀x∈g.ku,x<256
 iH:∀x∈g.iH,x<256
 kz:∀x∈g.kz,x<256
theorem Xp(hc:Sem c)(g:aG)(hg:g.Low)(hl:g.tg.length<=1000){src:AV}(s:St)(hw:Wf s)(h:Src 1 s src (g.tg.map FY))(h1:src.cells=[src])(h2:src.one=true):
  ∃v s',c 299 [.agg (g.az src)] s=some (.agg (g.az v),s')/\Mk 1 s s' v (g.tg.map FY):=by
 let zero:List AV:=[.str [],.str [],.str [],.int .i64 0,.int .i64 0,.str [],.bool false,.bool false,.ax]
 have eB:Wf (af (af s (.cells (g.az src) 0)) (.cells zero 0)):=bt (bt hw);have uu:=(Grew.af hw (.cells (g.az src) 0)).trans (Grew.af (bt hw) (.cells zero 0));obtain⟨v,s3,h3,M⟩:=Xn hc g.tg hl _ eB (h.aY uu);have M0:=M.back hw uu;have hx:s3.heap.get s.next=some (.cells (g.az src) 0):=M.aY.get vA;have hy:s3.heap.get (af s (.cells (g.az src) 0)).next=some (.cells zero 0):=M.aY.get (aE _ _);obtain⟨hvc,hvo⟩:=M.cells;have cW:s.next≠(af s (.cells (g.az src) 0)).next:=Pos.Nh _;have Vv:s.next.toNat<s3.next.toNat:=by have:=M.aY.next;rw[cX,cX,Pos.ay,Pos.ay]at this;omega
 have YP:(af s (.cells (g.az src) 0)).next.toNat<s3.next.toNat:=by have:=M.aY.next;rw[cX,Pos.ay]at this;omega
 have vo:v.one=true:=W7 hvo;have vg:aI (g.az src) 8 [v]=g.az v:=rfl;have Ot:aQ (g.az v)=true:=g.NO hvo;have hro0:aQ (g.az src)=true:=g.NO (by simp only[aQ,h2]);have new:∀b,dL v=some b->(af s (.cells (g.az src) 0)).next.toNat<b.toNat:=λb hb=>by have:=M.new b hb;rw[cX,Pos.ay]at this;omega
 have HA:s.next.toNat<(af s (.cells (g.az src) 0)).next.toNat:=by rw[cX,Pos.ay];omega
 let s4:=ei s3 s.next (.cells (g.az v) 0)
 let s5:=ei s4 (af s (.cells (g.az src) 0)).next (.cells (g.az v) 0)
 have hx4:s4.heap.get s.next=some (.cells (g.az v) 0):=uo _ _ _;have hy4:s4.heap.get (af s (.cells (g.az src) 0)).next=some (.cells zero 0):=by show(ei s3 s.next (.cells (g.az v) 0)).heap.get _=_;rw[bT cW];exact hy
 have hy5:s5.heap.get (af s (.cells (g.az src) 0)).next=some (.cells (g.az v) 0):=uo _ _ _;have M4:Mk 1 s s4 v (g.tg.map FY):=M0.store (H5 _) Vv (λe=>by have:=new _ e;omega);have M5:Mk 1 s s5 v (g.tg.map FY):=M4.store (by omega) YP (λe=>by have:=new _ e;omega);have hi:∀u∈g.az v,eD u:=λu hu=>by
  simp only[aG.az,Za0,Zc7,Zg6]at hu;rcases hu with rfl|rfl|rfl|rfl|rfl|rfl|rfl|rfl|rfl
  .exact eD.str hg.name
  .exact eD.str hg.ku
  .exact eD.str hg.iH
  .exact eD.int _ _
  .exact eD.int _ _
  .exact eD.str hg.kz
  .exact eD.bool _
  .exact eD.bool _
  .exact M.inst
 obtain⟨gO,t1,_,t2⟩:=M5.KM (l:=g.az v) (by simp[aG.az]) hi;refine⟨v,gO,?_,t2⟩;rw[KW hc 1 (r:=(.agg (g.az v),s5)),t1];rw[Nu];have aJ:=λ(K:AV->St->Option (AV×St))=>jf c K s3 1 s.next 8 v (g.az src) hx (by rw[hvc];rfl) (by simp[aG.az]) (by rw[hvc];exact hvo)
 rw[hvc,vg]at aJ;have iU:=λ(K:AV->St->Option (AV×St))=>jf c K s4 9 (af s (.cells (g.az src) 0)).next 0 (.agg (g.az v)) _ hy4 rfl (by simp[zero,aG.az]) Ot
 have hsp2:aI zero 0 (AV.agg (g.az v)).cells=g.az v:=rfl;rw[hsp2]at iU;have hcut:cut (g.az v) 0 9=some (g.az v):=bV rfl;have g8:(g.az src)[8]? =some src:=rfl;have st2':∀(K:AV->St->Option (AV×St)),ai c (.store 9) [.ptr (af s (.cells (g.az src) 0)).next 0,.agg (g.az v)] (ei s3 s.next (.cells (g.az v) 0)) K=K .undef s5:=λK=>iU K
 have bx:∀(K:AV->St->Option (AV×St)),ai c .box [.agg (g.az src)] s K=K (.ptr s.next 0) (af s (.cells (g.az src) 0)):=λK=>by rw[um];rfl
 simp[bx,h3,g8,zero,aJ,hcut];rw[st2'];simp only[hy5,aT,Ze1,hcut,xU]
theorem PC(b:Pos)(off:Nat):¬Plain (.ptr b off):=λh=>by
 have:=h (λ_=>⟨0,0,0⟩) (λ_=>⟨0,0,0⟩) (b.toNat+1) 0 (λ_=>none) _ (.ptr b off (by omega));cases this with
 |ptr _ _ h=>omega
theorem Ze{s s':St}{b:Pos}{off:Nat}:tidy s (.ptr b off,s')=(.ptr b off,s'):=by unfold tidy;rw[Za4];exact λh=>PC _ _ h.1
theorem abz(hc:Sem c)(s:St):c 256 [] s=some (.ptr (af s (.map [] 0)).next 0,af (af s (.map [] 0)) (.cells [.ax,.ax,.map s.next] 0)):=by
 rw[Px hc 1 (r:=(.ptr (af s (.map [] 0)).next 0,af (af s (.map [] 0)) (.cells [.ax,.ax,.map s.next] 0))),Ze];rw[Ti];simp[bP,aI,dZ,AV.cells]
def iN(k:Option Pos)(n es:Nat):AV:=match k with
 |none=>.ax
 |some b=>.slice b 0 n none es
theorem FZ{k:Option Pos}{n es:Nat}(h:k=none->n=0):∀H p,au.run H p (.lenB .l) [iN k n es]=some (.val (.int .i64 (n:Int))):=λH p=>by
 cases k with
 |none=>rw[h rfl];rfl
 |some b=>rfl
def Vz(s0 s:St)(bp:Pos)(gk tk:Option Pos)(g:aG)(row:List AV):Prop:=g.Low/\g.tg.length<=4/\∃v,row=g.az v/\v.cells=[v]/\v.one=true/\QS 1 s v (g.tg.map FY)/\∀p,dL v=some p->p≠bp/\gk≠some p/\tk≠some p/\s0.heap.get p=none
theorem Xq{es:Nat}{s:St}{v:AV}{rows:List (List AV)}(h:QS es s v rows){b:Pos}(hb:dL v=some b):∃cs,s.heap.get b=some (.cells cs 0):=by
 rcases h with⟨rfl,rfl⟩|⟨b',off,cap,cs,rfl,h1,_⟩|⟨b',off,rfl,rfl⟩
 .cases hb
 .obtain rfl:=OQ hb;exact⟨cs,h1⟩
 .rw[iA]at hb;cases hb
theorem Vz.to{s0 s s':St}{bp:Pos}{gk tk GO Ea:Option Pos}{g:aG}{row:List AV}(h:Vz s0 s bp gk tk g row)
   (hk:∀p cs,p≠bp->gk≠some p->tk≠some p->s.heap.get p=some (.cells cs 0)->s'.heap.get p=some (.cells cs 0)/\GO≠some p/\Ea≠some p):Vz s0 s' bp GO Ea g row:=by
 obtain⟨h1,h2,v,h3,h4,h5,h6,h7⟩:=h;refine⟨h1,h2,v,h3,h4,h5,h6.mono λb x hb hx=> ?_,λp hp=> ?_⟩
 .obtain⟨cs,h8⟩:=Xq h6 hb;rw[h8]at hx;cases hx;obtain⟨a1,a2,a3,_⟩:=h7 b hb;exact(hk b cs a1 a2 a3 h8).1
 .obtain⟨cs,h8⟩:=Xq h6 hp;obtain⟨a1,a2,a3,a4⟩:=h7 p hp;exact⟨a1,(hk p cs a1 a2 a3 h8).2.1,(hk p cs a1 a2 a3 h8).2.2,a4⟩
structure eF(s0 s:St)(bp mp:Pos)(gs:List aG)(ts:List Ty)(gk tk:Option Pos):Prop where
 wf:Wf s
 keeps:aV s0 s
 next:s0.next.toNat<=s.next.toNat
 book:s.heap.get bp=some (.cells [iN gk gs.length 9,iN tk ts.length 3,.map mp] 0)
 AY:∃es cl,s.heap.get mp=some (.map es cl)/\es.map (·.1)=gs.map λg=>.str g.name
 pX:(gk=none->gs=[])/\∀b,gk=some b->∃cs,s.heap.get b=some (.cells cs 0)/\cs.length=gs.length*9
 yl:(tk=none->ts=[])/\∀b,tk=some b->s.heap.get b=some (.cells (ts.flatMap Ty.cells) 0)
 dg:gk≠some bp
 dt:tk≠some bp
 OZ:∀b,gk=some b->tk≠some b
 fb:s0.heap.get bp=none
 fm:s0.heap.get mp=none
 fg:∀b,gk=some b->s0.heap.get b=none
 ft:∀b,tk=some b->s0.heap.get b=none
 K3:∀es cl,s.heap.get mp=some (.map es cl)->∀e∈es,∃i:Nat,e.2.1= .int .i64 (i:Int)/\i<gs.length
 K4:∀es cl,s.heap.get mp=some (.map es cl)->es.map (λe=>e.2.1)=(List.range gs.length).map λ(i:Nat)=>AV.int .i64 (i:Int)
 rows:∀b cs,gk=some b->s.heap.get b=some (.cells cs 0)->∀(i:Nat)(g:aG),gs[i]? =some g->Vz s0 s bp gk tk g ((cs.drop (i*9)).take 9)
theorem eF.lt{s0 s:St}{bp mp:Pos}{gs:List aG}{ts:List Ty}{gk tk:Option Pos}(h:eF s0 s bp mp gs ts gk tk):bp.toNat<s.next.toNat/\mp.toNat<s.next.toNat:=by
 obtain⟨es,cl,h1,_⟩:=h.AY;exact⟨h.wf _ _ h.book,h.wf _ _ h1⟩
theorem eF.aY{s0 s s':St}{bp mp:Pos}{gs:List aG}{ts:List Ty}{gk tk:Option Pos}(h:eF s0 s bp mp gs ts gk tk)(g:Grew s s'):eF s0 s' bp mp gs ts gk tk where
 wf:=g.wf
 keeps:=h.keeps.trans g.keeps
 next:=Zc1 h.next g.next
 book:=g.get h.book
 AY:=let⟨es,cl,h1,h2⟩:=h.AY;⟨es,cl,g.get h1,h2⟩
 pX:=⟨h.pX.1,λb hb=>let⟨cs,h1,h2⟩:=h.pX.2 b hb;⟨cs,g.get h1,h2⟩⟩
 yl:=⟨h.yl.1,λb hb=>g.get (h.yl.2 b hb)⟩
 dg:=h.dg
 dt:=h.dt
 OZ:=h.OZ
 fb:=h.fb
 fm:=h.fm
 fg:=h.fg
 ft:=h.ft
 K3:=λes cl hm=>by obtain⟨WS,cl0,h1,h2⟩:=h.AY;have:=g.get h1;rw[hm]at this;cases this;exact h.K3 _ _ h1
 K4:=λes cl hm=>by obtain⟨WS,cl0,h1,h2⟩:=h.AY;have:=g.get h1;rw[hm]at this;cases this;exact h.K4 _ _ h1
 rows:=λb cs hb hs i u hu=>by
  obtain⟨Sa,h1,h2⟩:=h.pX.2 b hb;have:=g.get h1;rw[hs]at this;cases this;exact(h.rows b _ hb h1 i u hu).to λp cs _ a2 a3 hx=>⟨g.get hx,a2,a3⟩
theorem eF.start{s:St}(hw:Wf s):eF s (af (af s (.map [] 0)) (.cells [.ax,.ax,.map s.next] 0)) (af s (.map [] 0)).next s.next [] [] none none where
 wf:=bt (bt hw)
 keeps:=(aZ hw).trans (aZ (bt hw))
 next:=by simp only[cX,Pos.ay];omega
 book:=aE _ _
 AY:=⟨[],0,vA,rfl⟩
 pX:=⟨λ_=>rfl,λb h=>by cases h⟩
 yl:=⟨λ_=>rfl,λb h=>by cases h⟩
 dg:=λh=>by cases h
 dt:=λh=>by cases h
 OZ:=λb h=>by cases h
 fb:=by
  cases h:s.heap.get (af s (.map [] 0)).next with
  |none=>rfl
  |some x=>have:=hw _ _ h;rw[cX,Pos.ay]at this;omega
 fm:=by
  cases h:s.heap.get s.next with
  |none=>rfl
  |some x=>have:=hw _ _ h;omega
 fg:=λb h=>by cases h
 ft:=λb h=>by cases h
 K3:=λes cl hm e he=>by have:(af (af s (.map [] 0)) (.cells [.ax,.ax,.map s.next] 0)).heap.get s.next=some (.map [] 0):=vA;rw[hm]at this;cases this;cases he
 K4:=λes cl hm=>by have:(af (af s (.map [] 0)) (.cells [.ax,.ax,.map s.next] 0)).heap.get s.next=some (.map [] 0):=vA;rw[hm]at this;cases this;rfl
 rows:=λb cs h=>by cases h
theorem CW(s:List Nat):∀(gs:List aG)(es:List (AV×AV×Nat))(i:Nat),es.map (·.1)=gs.map (λg=>.str g.name)->
  (s∈gs.map aG.name/\∃j v,gX .s (.str s) es i=some (some (j,v)))\/(s∉gs.map aG.name/\gX .s (.str s) es i=some none)
 |[],es,i,h=>by
  have:es=[]:=by simpa using h
  subst this;exact .inr ⟨by simp,rfl⟩
 |g::gs,[],i,h=>by simp at h
 |g ::gs,(k,v,n)::es,i,h=>by
  simp only[Zb4,Zh2]at h;obtain⟨h1,h2⟩:=h;subst h1;by_cases e:s=g.name
  .subst e;exact .inl ⟨by simp,i,v,by simp[gX,tF,dA]⟩
  . rcases CW s gs es (i+1) h2 with⟨a,b⟩|⟨a,b⟩
    .   left;refine⟨by simp at a ⊢; exact .inr a,?_⟩;simpa [gX,tF,dA,e]using b
    .   right;refine⟨by simp at a ⊢; exact⟨e,a⟩,?_⟩;simpa [gX,tF,dA,e]using b
theorem F0{gs:List aG}{s:List Nat}:0<=scan (fW gs s) gs.length 0↔s∈gs.map aG.name:=by
 constructor
 .intro h;obtain⟨_,h2,h3⟩:=FQ _ _ h;simp only[fW,Zc2]at h3;rw[H1 (by omega)]at h3;simp only[Zd6,H0]at h3;rw[<-h3];exact Zf1.2 ⟨_,Zc4 _,rfl⟩
 . intro  h;obtain⟨g,hg,rfl⟩:=Zf1.1 h;obtain⟨i,hi,rfl⟩:=Zg8.1 hg;have key:∀(m k:Nat),k<=i->i<k+m->0<=scan (fW gs gs[i].name) m k:=by
    intro m;induction m with
    |zero=>intro k h1 h2;omega
    |   succ m ih=>
        intro k h1 h2;unfold scan;split
        .omega
        . rename_i cW;by_cases e:k=i
          .subst e;simp[fW,hi]at cW
          .exact ih (k+1) (by omega) (by omega)
   exact key _ _ (by omega) (by omega)
theorem Uq(hc:Sem c)(s:St)(bp mp:Pos)(x y:AV)(h:s.heap.get bp=some (.cells [x,y,.map mp] 0)):c 297 [.ptr bp 0] s=some (.bool false,s):=by
 rw[G2 hc 1 (r:=(.bool false,s)),aA (Plain.bool _) (aV.refl s)];rw[Jy];have e1:∀(K:AV->St->Option (AV×St))(s:St),ai c (.bin .eql .ptr) [.ptr bp 0,.fU] s K=K (.bool false) s:=λK s=>aS c K (λH n=>rfl) s
 have e2:∀(K:AV->St->Option (AV×St))(s:St),ai c (.bin .eql .map) [.map mp,.l9] s K=K (.bool false) s:=λK s=>aS c K (λH n=>rfl) s
 simp[e1,e2,h]
theorem VA(z:Bool)(l:List (List Nat)):(dD z l).cells=[dD z l]:=by unfold dD ro;split<;>rfl
theorem Zf(z:Bool)(l:List (List Nat)):(dD z l).one=true:=by unfold dD ro;split<;>rfl
theorem Ur{s:List Nat}(h:dP s=true):∀x∈s,x<256:=λx hx=>by simp only[dP,Za2,Zd4,Zc2]at h;have:=h.2 x hx;omega
theorem NP{s:List Nat}(h:j3 s=true):∀x∈s,x<256:=λx hx=>by
 simp only[j3,Zg0,Zc2]at h;rcases h with h|h
 .rw[h]at hx;cases hx
 .exact Ur h x hx
theorem O0{g:aG}(h:eH g=0):g.Low:=by
 unfold eH at h;split at h
 .simp at h
 .rename_i hn;simp only[Bool.not_eq_false,Za2]at hn;exact⟨Ur hn.1.1.1,NP hn.1.1.2,NP hn.1.2,NP hn.2⟩
theorem Us{s:St}(hw:Wf s){k:Option Pos}{n es bytes:Nat}{q:Pos}{row:List AV}(hk:k=none->n=0)(eR:∀b,k=some b->∃cs,s.heap.get b=some (.cells cs 0)/\cs.length=n*es)(hq:s.heap.get q=some (.cells row 0))(hr:row.length=es)
  (h1:aQ row=true) (cU:es≠0) (hb:(2*(n+1)+768)*bytes<=281474976710656) (hn:n<=1000):
  ∃ s5 jK,(∀(K:AV->St->Option (AV×St)),ai c (.append es bytes) [iN k n es,.slice q 0 1 (some 1) es] s K=K (.slice s.next 0 (n+1) none es) s5)/\s5.heap.get s.next=some (.cells jK 0)/\jK.length=(n+1)*es/\
    (∀b cs,k=some b->s.heap.get b=some (.cells cs 0)->jK=cs++row)/\(k=none->jK=row)/\s5.next=s.next.succ/\Wf s5/\∀p,k≠some p->p.toNat<s.next.toNat->s5.heap.get p=s.heap.get p:=by
 have hx:bS es 1 (λb=>s.heap.get b) (.slice q 0 1 (some 1) es)=some row:=by simp only[bS,dR,Zm5,Za5 cU,hq];exact bV hr
 cases k with
 |none=>
  obtain rfl:=hk rfl;refine⟨af s (.cells row 0),row,λK=>Ro c K (m:=1) rfl (by omega) (by omega) (by omega) hx,aE _ _,by omega,λb cs h=>(by cases h),λ_=>rfl,rfl,bt hw,λp _ hp=>oT hp⟩
 |some b=>
  obtain⟨cs,h2,h3⟩:=eR b rfl;have ho:bS es n (λb=>s.heap.get b) (.slice b 0 n none es)=some cs:=by
    by_cases h0:n=0
    .   subst h0;have:cs=[]:=Za6 (by omega);subst this;simp[bS,dR]
    .   have:¬n*es=0:=λe=>by rcases Nat.mul_eq_zero.1 e with e|e<;>omega
        simp only[bS,dR,Za5 this,h2];exact bV h3
  refine⟨dst s b (.cells (cs++row) 0),cs++row,λK=>aaC c K (m:=1) rfl (by omega) hb (by omega) h2 ho hx h1,Ni _ _ _,?_,λb' cs2 e h=> ?_,λh=>(by cases h),rfl,W0 hw,λp hp hl=>L9 (λe=>hp (by rw[e])) hl⟩
  .rw[Ze2,h3,hr,Zh7,Zm5]
  .cases e;rw[h2]at h;cases h;rfl
def qC(gs:List aG)(g:aG):Int:=if eH g≠0 then eH g else if 0<=scan (fW gs g.name) gs.length 0 then 5 else if gs.length=64 then 7 else 0
theorem abA (hc : Sem c){s0 s:St}{bp mp:Pos}{gs:List aG}{ts:List Ty}{gk tk:Option Pos}(Eb:Wf s0)(B:eF s0 s bp mp gs ts gk tk)(hl:gs.length<=64)(g:aG):
   ∃s',c 257 [.ptr bp 0,.agg g.cells] s=some (.int .i64 (qC gs g),s')/\(qC gs g≠0->s'=s)/\(qC gs g=0->∃GO,eF s0 s' bp mp (gs++[g]) ts GO tk):=by
 have bM:Wf (af s (.cells g.cells 0)):=bt B.wf;have B1:=B.aY (Grew.af B.wf (.cells g.cells 0));generalize H9:af s (.cells g.cells 0)=s1 at bM B1;have Ut:s1.heap.get s.next=some (.cells g.cells 0):=by rw[<-H9];exact aE _ _
 have lW:=Uq hc s1 bp mp _ _ B1.book;have hch:=NL hc g s1 bM;have lG:∀(K:AV->St->Option (AV×St))(s:St),ai c (.lenB .l) [iN gk gs.length 9] s K=K (.int .i64 (gs.length:Int)) s:=λK s=>aS c K (FZ λh=>by rw[B.pX.1 h];rfl) s
 have lG2:∀(K:AV->Option (AV×St)),gu (.lenB .l) [iN gk gs.length 9] K=K (.int .i64 (gs.length:Int)):=λK=>cO K (FZ λh=>by rw[B.pX.1 h];rfl)
 obtain⟨es,cl,iq,hm2⟩:=B1.AY;have fail:∀e:Int,e≠0->qC gs g=e->rj c 1 (.ptr bp 0) (.agg g.cells) s=some (.int .i64 e,s1)->∃s',c 257 [.ptr bp 0,.agg g.cells] s=some (.int .i64 (qC gs g),s')/\(qC gs g≠0->s'=s)/\(qC gs g=0->∃GO,eF s0 s' bp mp (gs++[g]) ts GO tk):=λe he ha h=>by
   refine⟨s,?_,λ_=>rfl,λh0=>absurd (ha.symm.trans h0) he⟩;rw[yj hc 1 h,ha,aA (Plain.int _ _) (by rw[<-H9];exact aZ B.wf)]
 have eb:∀(K:AV->St->Option (AV×St)),ai c .box [.agg g.cells] s K=K (.ptr s.next 0) s1:=λK=>by rw[um, <-H9];rfl
 have h64:((gs.length:Int)=64)↔gs.length=64:=by omega
 by_cases h1:eH g=0
 . rcases CW  g.name gs es 0 hm2 with⟨pL,j,v,hf⟩|⟨pL,hf⟩
   . have hsc:=F0.2 pL;refine fail 5 (by omega) (by simp[qC,h1,hsc]) ?_;rw[nY];have lk:=λ(K:AV->Option (AV×St))=>OM K (.int .i64 0) (h:=s1.heap) (k:= .str g.name) iq hf
     simp[eb,lW,hch,h1,Ut,B1.book,lk]
   . have hsc: ¬0<=scan (fW gs g.name) gs.length 0:=λh=>pL (F0.1 h)
     have lk:=λ(K:AV->Option (AV×St))=>OM K (.int .i64 0) (h:=s1.heap) (k:= .str g.name) iq hf
     by_cases h2:gs.length=64
     .  have h2d:decide ((gs.length:Int)=64)=true:=Za3 (by omega);refine fail 7 (by omega) (by unfold qC;rw[Za4 (by simp[h1]),Za4 hsc,Za7 h2]) ?_;rw[nY];simp[eb,lW,hch,h1,Ut,B1.book,lk,lG,h2d]
     .  have htg:g.tg.length<=4:=by
          unfold eH at h1;split at h1
          .simp at h1
          . split at h1
            .simp at h1
            . split at h1
              .simp at h1
              . split at h1
                .simp at h1
                .omega
        have he:qC gs g=0:=(by unfold qC;rw[Za4 (by simp[h1]),Za4 hsc,Za4 h2]);have h2d:decide ((gs.length:Int)=64)=false:=Za5 (by omega);have lt1:=B1.lt;have mo:s.next.toNat<s1.next.toNat:=(by rw[<-H9,cX,Pos.ay];omega);have O3:mp≠bp:=λe=>by rw[e,B1.book]at iq;cases iq
        have nmp:mp≠s.next:=λe=>by rw[e,Ut]at iq;cases iq
        let Gq:=es++[(AV.str g.name,AV.int .i64 (gs.length:Int),cl)]
        let s2:=ei s1 mp (.map Gq (cl+1))
        have eB:Wf s2:=DC bM lt1.2;have b2:s2.heap.get bp=some (.cells [iN gk gs.length 9,iN tk ts.length 3,.map mp] 0):=(by show(ei _ _ _).heap.get bp=_;rw[bT O3];exact B1.book);have p2:s2.heap.get s.next=some (.cells g.cells 0):=(by show(ei _ _ _).heap.get _=_;rw[bT nmp];exact Ut);have m2:s2.heap.get mp=some (.map Gq (cl+1)):=uo _ _ _;obtain⟨v,s3,q1,M⟩:=Xp hc g (O0 h1) (by omega) s2 eB (Zd g.tz g.tg) (VA _ _) (Zf _ _);rw[aG.Xo]at q1
        let row:=g.az v
        have q2:=M.aY;have q3:row.length=9:=rfl;have vone:v.one=true:=W7 M.cells.2;have q4:aQ row=true:=g.NO M.cells.2;have hw4:Wf (af s3 (.cells row 0)):=bt q2.wf;have Uu:=q2.trans (Grew.af q2.wf (.cells row 0));have cT:∀p x,s2.heap.get p=some x->p.toNat<(af s3 (.cells row 0)).next.toNat:=λp x h=>hw4 p x (Uu.get h)
        have eR:∀b,gk=some b->∃cs,(af s3 (.cells row 0)).heap.get b=some (.cells cs 0)/\cs.length=gs.length*9:=λb hb=>by
          obtain⟨cs,h3,h4⟩:=B1.pX.2 b hb;have:mp≠b:=λe=>by rw[e,h3]at iq;cases iq
          exact⟨cs,Uu.get (by show(ei _ _ _).heap.get b=_;rw[bT this];exact h3),h4⟩
        obtain⟨s5,jK,r1,r2,r3,ra,rb,r4,r5,r6⟩:=Us (c:=c) (es:=9) (bytes:=112) hw4 (k:=gk) (n:=gs.length) (λh=>by rw[B.pX.1 h];rfl) eR (aE _ _) q3 q4 (by omega) (by omega) (by omega);have hs4:(af s3 (.cells row 0)).next=s3.next.succ:=rfl;have keep:∀p x,s2.heap.get p=some x->gk≠some p->s5.heap.get p=some x:=λp x h cW=>by rw[r6 p cW (cT p x h)];exact Uu.get h
        have b5:=keep bp _ b2 B.dg
        let gv:=AV.slice (af s3 (.cells row 0)).next 0 (gs.length+1) none 9
        let s6:=ei s5 bp (.cells [gv,iN tk ts.length 3,.map mp] 0)
        have Zg:bp.toNat<s5.next.toNat:=r5 _ _ b5;have nb4:bp≠(af s3 (.cells row 0)).next:=λe=>by have:=cT _ _ b2;rw[e]at this;omega
        have st6:∀(K:AV->St->Option (AV×St)),ai c (.store 1) [.ptr bp 0,gv] s5 K=K .undef s6:=λK=>jf c K s5 1 bp 0 gv _ b5 rfl (by simp) rfl
        have g6:∀p,p≠bp->s6.heap.get p=s5.heap.get p:=λp h=>bT (λe=>h e.symm)
        have VB:∀p:Pos,s0.next.toNat<=p.toNat->s0.heap.get p=none:=λp h=>by
          cases hx:s0.heap.get p with
          |none=>rfl
          |some x=>have:=Eb _ _ hx;omega
        have nx:s0.next.toNat<=(af s3 (.cells row 0)).next.toNat:=Zc1 B1.next (Zc1 (by show s1.next.toNat<=s2.next.toNat;exact H5 _) Uu.next)
        have Sb : eF s0 s6 bp mp (gs++[g]) ts (some (af s3 (.cells row 0)).next) tk:={
          wf:=DC r5 Zg
          keeps:=λp x hp=>by
            have n1:p≠bp:=λe=>by rw[e,B.fb]at hp;cases hp
            have n2:mp≠p:=λe=>by rw[<-e,B.fm]at hp;cases hp
            have n3:gk≠some p:=λe=>by rw[B.fg p e]at hp;cases hp
            rw[g6 p n1];exact keep p x (by show(ei _ _ _).heap.get p=_;rw[bT n2];exact B1.keeps p x hp) n3
          next:=by show s0.next.toNat<=s5.next.toNat;rw[r4,Pos.ay];omega
          book:=by show(ei _ _ _).heap.get bp=_;rw[uo];simp[gv,iN]
          AY:=⟨Gq,cl+1,by
            rw[g6 mp O3];exact keep mp _ m2 (λe=>by obtain⟨cs,h3,_⟩:=B1.pX.2 mp e;rw[h3]at iq;cases iq),by simp[Gq,hm2]⟩
          pX:=⟨λh=>(by cases h),λb hb=>by cases hb;refine⟨jK,?_,by rw[r3];simp⟩;rw[g6 _ (λe=>nb4 e.symm)];exact r2⟩
          yl:=⟨B.yl.1,λb hb=>by
            have h3:=B1.yl.2 b hb;have n1:b≠bp:=λe=>B.dt (by rw[<-e];exact hb)
            have n2:mp≠b:=λe=>by rw[e,h3]at iq;cases iq
            have n3:gk≠some b:=λe=>B.OZ b e hb
            rw[g6 b n1];exact keep b _ (by show(ei _ _ _).heap.get b=_;rw[bT n2];exact h3) n3⟩
          dg:=λe=>nb4 (by injection e with e;exact e.symm)
          dt:=B.dt
          OZ:=λb hb ht=>by
            (cases hb;have h3:=B1.yl.2 _ ht;have n2:mp≠(af s3 (.cells row 0)).next:=λe=>by rw[e,h3]at iq;cases iq);have:=cT _ _ (show s2.heap.get (af s3 (.cells row 0)).next=_ from(bT n2).trans h3);omega
          fb:=B.fb
          fm:=B.fm
          fg:=λb hb=>by cases hb;exact VB _ nx
          ft:=B.ft
          K3:=λes' cl' hm e he=>by
            have m6:s6.heap.get mp=some (.map Gq (cl+1)):=by
              rw[g6 mp O3];exact keep mp _ m2 (λe=>by obtain⟨cs,h3,_⟩:=B1.pX.2 mp e;rw[h3]at iq;cases iq)
            rw[hm]at m6;cases m6;rcases Zd2.1 he with he|he
            .obtain⟨i,e1,e2⟩:=B1.K3 _ _ iq e he;exact⟨i,e1,by simp;omega⟩
            .simp only[Za0,Zc7,Zg6]at he;subst he;exact⟨gs.length,rfl,by simp⟩
          K4:=λes' cl' hm=>by
            have m6:s6.heap.get mp=some (.map Gq (cl+1)):=by
              rw[g6 mp O3];exact keep mp _ m2 (λe=>by obtain⟨cs,h3,_⟩:=B1.pX.2 mp e;rw[h3]at iq;cases iq)
            rw[hm]at m6;cases m6;have h:=B1.K4 _ _ iq;rw[Zh1,h,Ze2,List.length_singleton,List.range_succ,Zh1];rfl
          rows:=  λb cs hb hs i u hu=>by
            cases hb;have Uv:s6.heap.get (af s3 (.cells row 0)).next=some (.cells jK 0):=(by rw[g6 _ (λe=>nb4 e.symm)];exact r2);rw[hs]at Uv;cases Uv;by_cases hi:i<gs.length
            . rw[Zc3 hi]at hu;cases MK:gk with
              |none=>rw[B.pX.1 MK]at hi;simp at hi
              | some b0=>
                obtain⟨Sa,h3,h4⟩:=B1.pX.2 b0 MK;have n0:mp≠b0:=λe=>by rw[e,h3]at iq;cases iq
                have e0:=ra b0 Sa MK (Uu.get (by show(ei _ _ _).heap.get b0=_;rw[bT n0];exact h3));have R0:=B1.rows b0 Sa MK h3 i u hu;rw[e0,Zf2 (by omega),List.take_append_of_le_length (by simp;omega)];(refine R0.to λp cs a1 a2 a3 hx=> ?_);have n1:mp≠p:=λe=>by rw[e,hx]at iq;cases iq
                have x2:s2.heap.get p=some (.cells cs 0):=(by show(ei _ _ _).heap.get p=_;rw[bT n1];exact hx);have aW:=cT p _ x2;refine⟨by rw[g6 p a1];exact keep p _ x2 a2,λe=> ?_,a3⟩;cases e;omega
            . have wS:i=gs.length:=(by have:=(H3.1 hu).1;simp at this;omega);subst wS;simp at hu;subst hu;have er:(jK.drop (gs.length*9)).take 9=row:=by
                cases MK:gk with
                | none=>
                  rw[rb MK,B.pX.1 MK];exact Zf3 (by simp[q3])
                | some b0=>
                  obtain⟨Sa,h3,h4⟩:=B1.pX.2 b0 MK;have n0:mp≠b0:=λe=>by rw[e,h3]at iq;cases iq
                  rw[ra b0 Sa MK (Uu.get (by show(ei _ _ _).heap.get b0=_;rw[bT n0];exact h3)), <-h4];rw[Zf2 (H5 _)];simp[Zf3 (Nat.le_of_eq q3)]
              (rw[er];have sw:∀p x,s2.heap.get p=some x->p.toNat<s2.next.toNat:=λp x h=>eB p x h);refine⟨O0 h1,htg,v,rfl,M.cells.1,vone,M.own.mono λb x hb hx=> ?_,λp hp=> ?_⟩
              . have tX:=M.new b hb;have Du:=M.own.lt M.aY.wf hb;have nb:b≠bp:=λe=>by have:=sw _ _ b2;rw[e]at tX;omega
                have ng:gk≠some b:=λe=>by
                  obtain⟨Sa,h3,_⟩:=B1.pX.2 b e;have n0:mp≠b:=λe=>by rw[e,h3]at iq;cases iq
                  have:=sw b _ (by show(ei _ _ _).heap.get b=_;rw[bT n0];exact h3);omega
                rw[g6 b nb,r6 b ng (by rw[hs4,Pos.ay];omega)];exact(Grew.af q2.wf (.cells row 0)).get hx
              . have tX:=M.new p hp;have Du:=M.own.lt M.aY.wf hp;refine⟨λe=>by have:=sw _ _ b2;rw[e]at tX;omega,λe=> ?_,λe=> ?_,VB p (by have h9:=B1.next;rw[show s2.next=s1.next from An _ _ _]at tX;omega)⟩
                .cases e;rw[hs4,Pos.ay]at Du;omega
                . have h3:=B1.yl.2 p e;have n2:mp≠p:=λe=>by rw[e,h3]at iq;cases iq
                  have:=sw p _ (by show(ei _ _ _).heap.get p=_;rw[bT n2];exact h3);omega }
        refine⟨s6,?_,λh=>absurd he h,λ_=>⟨_,Sb⟩⟩;rw[he];rw[yj hc 1 (r:=(.int .i64 0,s6))]
        . rw[Ue (b:=bp) B.book];rw[Sb.book];intro e;have e:=congrArg (λo=>match o with|some (AB.cells (v::_) _)=>cI v|_=>none) e;simp only[iN,cI]at e;cases gk with
          |none=>simp[cI,B.pX.1 rfl]at e
          |some b=>simp[cI]at e
        (rw[nY];have stm:=λ(K:AV->St->Option (AV×St))=>Tc c K (v:= .int .i64 (gs.length:Int)) iq hf);have bq:fj (iN gk gs.length 9) (iN gk gs.length 9)=true:=(by cases gk;exact KL;exact HN _ _ _ _);have b3:s3.heap.get bp=some (.cells [iN gk gs.length 9,iN tk ts.length 3,.map mp] 0):=q2.get b2;have wE:=λ(K:AV->Option (AV×St))=>Ao K (p:=bp) (o:=0) (h:=s3.heap) (h2:=s2.heap) (v:=iN gk gs.length 9) (by rw[b3];rfl) (by rw[b2];rfl) bq
        have vh:bP (bD [AV.str [],AV.str [],AV.str [],.int .i64 0,.int .i64 0,.str [],.bool false,.bool false,.ax] 1) [(0,9)] [AV.agg (g.az v)]=some row:=by
          have:(g.az v).length=9:=q3;show _=some (g.az v);simp[bP,bD,dR,dZ,this,aI]
        simp[eb,lW,hch,h1,Ut,B1.book,lk,lG,lG2,h2d,stm];show yB ((cellsOf (T.get s.next s2.heap)).bind λcs=>cut cs 0 9) _=_;rw[p2];simp only[aT,Ze1,aG.cc,xU];show KJ (c 299 [AV.agg g.cells] s2) _=_;rw[q1];simp only[BW];show lX (.load none) [.ptr bp 0] s3.heap (λv=>mj (.load none) [.ptr bp 0] v (u5 [] s2.heap)) _=_;rw[wE];simp only[vh,xU,r1];exact st6 _
 .refine fail (eH g) h1 (by simp[qC,h1]) ?_;rw[nY];simp[eb,lW,hch,h1,Ut]
theorem F6{r s t:Ty}(h:dF r s=true)(k:dF s t=true):dF r t=true:=by
 simp only[dF,Zg0,Za2,Zc2]at h k ⊢;rcases h with h|⟨h1,h2⟩<;>rcases k with k|⟨k1,k2⟩
 .exact .inl (FW _ _ _ h k)
 .exact .inl (by rw[<-k1];exact h)
 .exact .inl (by rw[h1];exact k)
 .exact .inr ⟨h1.trans k1,FW _ _ _ h2 k2⟩
theorem VC{s t:Ty}(h:dF s t=false)(k:dF t s=false):s.a=t.a/\s.b=t.b:=by simp only[dF,Zk2]at h k;have e:=wC _ _ h.1 k.1;refine⟨e,?_⟩;have h2:=h.2;have k2:=k.2;simp only[e,Zi7,Zd8]at h2 k2;exact wC _ _ h2 k2
theorem aaN{r s t:Ty}(h:dF r s=true)(k:dF t s=false):dF r t=true:=by
 cases h2:dF s t
 .obtain⟨e1,e2⟩:=VC h2 k;unfold dF at h ⊢; rw[<-e1, <-e2];exact h
 .exact F6 h h2
theorem aae{x:Int}(h1:0<=x)(h2:x<=18446744073709551615):aB .u64 x=x:=by
 unfold aB Qn Qo;simp only;split
 . split
   .rfl
   .contradiction
 .contradiction
theorem Sc(K:AV->St->Option (AV×St))(st:St)(a:Nat):ai c (.bin .shr .num) [.int .u64 (a:Int),.int .u64 1] st K=K (.int .u64 ((a / 2:Nat):Int)) st:=by
 refine aS c K (λH n=> ?_) st;have:(a:Int).fdiv 2=((a / 2:Nat):Int):=by rw[Int.fdiv_eq_ediv_of_nonneg _ (by omega)];rfl
 simp only[au.run,gx,mb,dH];show some (bW.val (AV.int .u64 ((a:Int).fdiv 2)))=_;rw[this]
theorem Sd(H:Pos->Option AB)(n:Pos)(es:Nat)(b:Pos)(len:Nat)(k:IntKind)(i:Nat)(h:i<len):au.run H n (.idxA es none) [.slice b 0 len none es,.int k (i:Int)]=some (.val (.ptr b (i*es))):=by
 simp[au.run,mg,g9,zw,h]
theorem Fq(ts:List Ty)(i:Nat)(h:i<ts.length):cut (ts.flatMap Ty.cells) (i*3) 3=some ts[i].cells:=by
 induction ts generalizing i with
 |nil=>simp at h
 |cons t ts ih=>
  cases i with
  |zero=>rw[Zl4];unfold cut;rw[dZ,Za3 (by simp[Ty.len])];simp[Ty.cells]
  |succ i=>
   have h':i<ts.length:=(by simpa using h);have:=ih i h';unfold cut at this ⊢;rw[dZ]at this ⊢;(split at this<;>first|(cases this;done)|skip);rename_i hle;simp only[Zc2]at hle;rw[Za3 (by rw[Zl4,Ze2,Ty.len];omega)];simp only[H0]at this ⊢;rw[Zl4,show(i+1)*3=i*3+1+1+1 by omega,List.getElem_cons_succ, <-this];rfl
theorem aaO(hc:Sem c)(ts:List Ty)(hl:ts.length<=1000)(t:Ty)(q:Nat)(hq:q<=ts.length)(sw:∀h (hh:h<ts.length),h<q->dF ts[h] t=true)(hhi:∀h (hh:h<ts.length),q<=h->dF ts[h] t=false)
  (b:Pos) (x4:Pos) (s:St) (hw:Wf s) (hb:s.heap.get b=some (.cells (ts.flatMap Ty.cells) 0)) (hx:s.heap.get x4=some (.cells t.cells 0)) (F:Nat) (k2):∀(m i j:Nat),j<=i+m->i<=q->q<=j->j<=ts.length->
  aK c F k2 (m+1) [.slice b 0 ts.length none 3,.func 258 [] [],.ptr x4 0,.int .i64 (ts.length:Int),.int .i64 (i:Int),.int .i64 (j:Int)] s=
    k2 [.slice b 0 ts.length none 3,.func 258 [] [],.ptr x4 0,.int .i64 (ts.length:Int),.int .i64 (q:Int)] s:=by
 intro m;induction m with
 |zero=>
  intro i j h1 h2 h3 h4;obtain rfl:i=q:=by omega
  obtain rfl:j=i:=by omega
  rw[cF];simp
 |succ m ih=>
  intro i j h1 h2 h3 h4;rw[cF];by_cases h:i<j
  . let d:=(i+j) / 2
    have hd1:i<=d:=(by omega);have ZZ:d<j:=(by omega);have hd3:d<ts.length:=(by omega);have w1:aB .i64 ((i:Int)+(j:Int))=((i+j:Nat):Int):=(by rw[wrap64 (by omega) (by omega)];omega);have w2:aB .u64 ((i+j:Nat):Int)=((i+j:Nat):Int):=aae (by omega) (by omega);have w3:aB .i64 (((i+j) / 2:Nat):Int)=((d:Nat):Int):=wrap64 (by omega) (by omega);have w4:aB .i64 ((d:Int)+1)=((d+1:Nat):Int):=wrap64 (by omega) (by omega);have ix:=λ(K:AV->Option (AV×St))=>cO K (λH n=>Sd H n 3 b ts.length .i64 d hd3)
    have ho:=AX hc ts[d] t s hw;have fg:=Fq ts d hd3
    clear_value d
    by_cases hn:d<q
    .   have Zh:mM ts[d] t<0:=NN.2 (sw d hd3 hn);rw[<-ih (d+1) j (by omega) (by omega) h3 h4];simp only[iR,jM,bZ,xk,Int.ofNat_lt,h,Zi7,pO,Jk,w1,Rj,w2,Sc,w3,Rc,ix,JY,hb,fg,hx,aT,Ze1,Ty.cc,xU,xV,Zg5,Zf4,Ze7,ho,BW,TZ,Zh,w4]
    .   have Zh:¬mM ts[d] t<0:=λe=>by have:=NN.1 e;rw[hhi d hd3 (by omega)]at this;cases this
        rw[<-ih i d (by omega) h2 (by omega) (by omega)];simp only[iR,jM,bZ,xk,Int.ofNat_lt,h,Zi7,pO,Jk,w1,Rj,w2,Sc,w3,Rc,ix,JY,hb,fg,hx,aT,Ze1,Ty.cc,xU,xV,Zg5,Zf4,Ze7,ho,BW,TZ,Zh,Zn7,pP]
  .obtain rfl:i=q:=(by omega);obtain rfl:j=i:=(by omega);simp
def AZ(ts:List Ty)(t:Ty)(q:Nat):Bool:=match ts[q]? with
 |some u=>decide (mM u t=0)
 |none=>false
theorem Zi(x4:Pos)(s:St)(F:Nat)(k2)(m:Nat):aK c F k2 (m+1) [.ax,.func 258 [] [],.ptr x4 0,.int .i64 0,.int .i64 0,.int .i64 0] s=
  k2 [.ax,.func 258 [] [],.ptr x4 0,.int .i64 0,.int .i64 0] s:=by
 rw[cF];simp
def slvT(k:Option Pos)(n:Nat):AV:=match k with
 |none=>.ax
 |some b=>.slice b (0+n*3) (n - n) none 3
theorem acz(hc:Sem c)(ts:List Ty)(hl:ts.length<=1000)(t:Ty)(q:Nat)(hq:q<=ts.length)(sw:∀h (hh:h<ts.length),h<q->dF ts[h] t=true)(hhi:∀h (hh:h<ts.length),q<=h->dF ts[h] t=false)
  (tk:Option Pos) (s:St) (hw:Wf s) (h0:tk=none->ts=[]) (hb:∀b,tk=some b->s.heap.get b=some (.cells (ts.flatMap Ty.cells) 0)):
  c 321 [iN tk ts.length 3,.agg t.cells,.func 258 [] []] s=some (.tuple [.int .i64 (q:Int),.bool (AZ ts t q)],s):=by
 have bM:Wf (af s (.cells t.cells 0)):=bt hw;have mo:Plain (.tuple [.int .i64 (q:Int),.bool (AZ ts t q)]):=Plain.tuple (by simp[Plain.int,Plain.bool]);rw[jA hc 1001 (r:=(.tuple [.int .i64 (q:Int),.bool (AZ ts t q)],af s (.cells t.cells 0))),aA mo (aZ hw)];rw[jO];cases tk with
 |none=>
  obtain rfl:=h0 rfl;obtain rfl:q=0:=by simpa using hq
  have l0:∀(K:AV->St->Option (AV×St))(s:St),ai c (.lenB .l) [.ax] s K=K (.int .i64 0) s:=λK s=>aS c K (λH n=>rfl) s
  have L:∀k2,aK c 1001 k2 1001 [.ax,.func 258 [] [],.ptr s.next 0,.int .i64 0,.int .i64 0,.int .i64 0] (af s (.cells t.cells 0))=_:=λk2=>Zi (c:=c) s.next _ 1001 k2 1000
  simp only[iN,um,bZ,l0,IN,L,iR,jM,Zm6];simp[AZ,l0,L]
 |some b=>
  have tX:(af s (.cells t.cells 0)).heap.get b=some (.cells (ts.flatMap Ty.cells) 0):=aZ hw _ _ (hb b rfl);have l0:∀(K:AV->St->Option (AV×St))(s:St),ai c (.lenB .l) [.slice b 0 ts.length none 3] s K=K (.int .i64 (ts.length:Int)) s:=λK s=>aS c K (λH n=>rfl) s
  have L:∀k2,aK c 1001 k2 1001 [.slice b 0 ts.length none 3,.func 258 [] [],.ptr s.next 0,.int .i64 (ts.length:Int),.int .i64 0,.int .i64 (ts.length:Int)] (af s (.cells t.cells 0))=
    k2 [.slice b 0 ts.length none 3,.func 258 [] [],.ptr s.next 0,.int .i64 (ts.length:Int),.int .i64 (q:Int)] (af s (.cells t.cells 0)):=
    λk2=>aaO hc ts hl t q hq sw hhi b s.next _ bM tX (aE _ _) 1001 k2 1000 0 ts.length (by omega) (by omega) (by omega) (by omega)
  simp only[iN,um,bZ,l0,IN,L,iR,jM];by_cases h:q<ts.length
  . have ix:=λ(K:AV->Option (AV×St))=>cO K (λH n=>Sd H n 3 b ts.length .i64 q h)
    have ho:=AX hc ts[q] t _ bM;have fg:=Fq ts q h;have ef:AZ ts t q=decide (mM ts[q] t=0):=(by unfold AZ;rw[H1 h]);simp[h,ix,tX,fg,ho,ef,AV.cells]
  .have ef:AZ ts t q=false:=(by unfold AZ;rw[Zb1 (by omega)]);simp[h,ef,AV.cells]
def Ec(ts:List Ty)(t:Ty):Nat:=match ts.getLast? with
 |none=>0
 |some u=>if dF u t=true then ts.length else ts.length - 1
def IP(ts:List Ty):Prop:=∀i j (hj:j<ts.length)(hij:i<j),dF (ts[i]'(by omega)) ts[j]=true
theorem abB{ts:List Ty}{t:Ty}(hs:IP ts)(ht:∀u,ts.getLast? =some u->dF t u=false):Ec ts t<=ts.length/\(∀h (hh:h<ts.length),h<Ec ts t->dF ts[h] t=true)/\(∀h (hh:h<ts.length),Ec ts t<=h->dF ts[h] t=false)/\
  AZ ts t (Ec ts t)=n9 t ts.getLast? :=by
 unfold Ec;cases hl:ts.getLast? with
 |none=>
  have:ts=[]:=by simpa using hl
  subst this;simp[AZ,n9]
 |some u=>
  have cW:ts≠[]:=λe=>by subst e;simp at hl
  have UX:0<ts.length:=List.length_pos_iff.2 cW;have hu:ts[ts.length - 1]'(by omega)=u:=by have:=List.getLast?_eq_getElem? (l:=ts);rw[hl,H1 (by omega)]at this;exact(Zg4 this).symm
  have htu:=ht u hl;simp only;cases hb:dF u t
  . simp only[Zd3,Zd5];refine⟨by omega,λh hh aW=> ?_,λh hh hle=> ?_,?_⟩
    .   have:=hs h (ts.length - 1) (by omega) aW;rw[hu]at this;exact aaN this htu
    .   obtain rfl:h=ts.length - 1:=(by omega);rw[hu];exact hb
    .   (unfold AZ;rw[H1 (by omega),hu];have h1:¬mM u t<0:=λe=>by rw[NN.1 e]at hb;cases hb);have h2:¬0<mM u t:=λe=>by rw[Jo.1 e]at htu;cases htu
        have:mM u t=0:=(by omega);simp[this,n9,hb]
  . simp only[Ze5];refine⟨by omega,λh hh _=> ?_,λh hh hle=>by omega,?_⟩
    .   by_cases e:h=ts.length - 1
        .subst e;rw[hu];exact hb
        .have:=hs h (ts.length - 1) (by omega) (by omega);rw[hu]at this;exact F6 this hb
    .   unfold AZ;rw[Zb1 (by omega)];simp[n9,hb]
theorem Rt(hc:Sem c){s0 s:St}{bp mp:Pos}{gs:List aG}{ts:List Ty}{gk tk:Option Pos}(B:eF s0 s bp mp gs ts gk tk)(hl:ts.length<=1000)(t:Ty)(aW:av t.a t.b=true)(hs:IP ts)(ht:∀u,ts.getLast? =some u->dF t u=false):
  c 301 [.ptr bp 0,.str t.a,.str t.b] s=some (.tuple [.int .i64 (Ec ts t:Int),.bool (n9 t ts.getLast?)],s):=by
 obtain⟨p1,p2,p3,p4⟩:=abB hs ht;rw[<-p4];have e0:∀u:Ty,dF u ⟨t.a,t.b,0⟩=dF u t:=λu=>rfl
 have e1:AZ ts ⟨t.a,t.b,0⟩ (Ec ts t)=AZ ts t (Ec ts t):=rfl;have Tu:=Up hc t.a t.b 0 aW s B.wf;have Gl:=acz hc ts hl ⟨t.a,t.b,0⟩ (Ec ts t) p1 (λh hh hq=>by rw[e0];exact p2 h hh hq) (λh hh hq=>by rw[e0];exact p3 h hh hq) tk s B.wf B.yl.1 B.yl.2;rw[e1]at Gl;rw[FN hc 1 (r:=(.tuple [.int .i64 (Ec ts t:Int),.bool (AZ ts t (Ec ts t))],s)),aA (Plain.tuple (by simp[Plain.int,Plain.bool])) (aV.refl s)];rw[ID];have bq:fj (iN tk ts.length 3) (iN tk ts.length 3)=true:=by cases tk;exact KL;exact HN _ _ _ _
 have wE:=λ(K:AV->Option (AV×St))=>Ao K (p:=bp) (o:=1) (h:=s.heap) (h2:=s.heap) (v:=iN tk ts.length 3) (by rw[B.book];rfl) (by rw[B.book];rfl) bq
 simp[Tu,wE,Gl]
theorem kW(b:Pos)(off n es:Nat):¬Plain (.slice b off n none es):=λh=>by have:=h (λ_=>⟨0,0,off+n*es⟩) (λ_=>⟨0,0,0⟩) (b.toNat+1) 0 (λ_=>none) _ (.slice b off n none es n ⟨0,0+off,none⟩ (H5 _) (λc h=>by cases h) (λ_=>⟨by omega,rfl,by simp⟩) (λ_=>by omega));have:=this.Oc rfl;omega
theorem Xr(hc:Sem c){s:St}(hw:Wf s){tk:Option Pos}{ts:List Ty}{q:Pos}{row:List AV}(h0:tk=none->ts=[])(hb:∀b,tk=some b->s.heap.get b=some (.cells (ts.flatMap Ty.cells) 0))(hq:s.heap.get q=some (.cells row 0))(hr:row.length=3)
   (h1:aQ row=true) (hl:ts.length<=1000):
   ∃ s5,c 302 [iN tk ts.length 3,.int .i64 (ts.length:Int),.slice q 0 1 (some 1) 3] s=some (.slice s.next 0 (ts.length+1) none 3,s5)/\s5.heap.get s.next=some (.cells (ts.flatMap Ty.cells++row) 0)/\
     s5.next=s.next.succ/\Wf s5/\∀p,tk≠some p->p.toNat<s.next.toNat->s5.heap.get p=s.heap.get p:=by
 have hlen:∀ts:List Ty,(ts.flatMap Ty.cells).length=ts.length*3:=λts=>by
   induction ts with
   |nil=>rfl
   |cons t ts ih=>rw[Zl4,Ze2,ih,Ty.len,Ze6];omega
 obtain⟨s5,jK,r1,r2,r3,r4,r5,r6,r7,r8⟩:=Us (c:=c) (es:=3) (bytes:=40) hw (k:=tk) (n:=ts.length) (λh=>by rw[h0 h];rfl) (λb Du=>⟨_,hb b Du,hlen ts⟩) hq hr h1 (by omega) (by omega) (by omega);refine⟨s5,?_,?_,r6,r7,r8⟩
 . rw[sG hc 1 (r:=(.slice s.next 0 (ts.length+1) none 3,s5))]
   .unfold tidy;rw[Za4];exact λh=>kW _ _ _ _ h.1
   rw[uV];have sl:∀(K:AV->St->Option (AV×St))(s:St),ai c (.sliceL 3 true false false) [iN tk ts.length 3,.int .i64 (ts.length:Int)] s K=K (slvT tk ts.length) s:=λK s=>by
     refine aS c K (λH n=> ?_) s;cases tk with
     |none=>rw[h0 rfl];rfl
     |some b=>simp[iN,slvT,au.run,ni,bounds,g9,dR,dZ]
   have l1:∀(K:AV->St->Option (AV×St))(s:St),ai c (.lenB .l) [.slice q 0 1 (some 1) 3] s K=K (.int .i64 1) s:=λK s=>aS c K (λH n=>rfl) s
   have l2:∀(K:AV->St->Option (AV×St))(s:St),ai c (.lenB .l) [iN tk ts.length 3] s K=K (.int .i64 (ts.length:Int)) s:=λK s=>aS c K (FZ λh=>by rw[h0 h];rfl) s
   simp[sl,l1,l2,r1]
 . cases tk with
   |none=>rw[r2,r5 rfl,h0 rfl];rfl
   |some b=>rw[r2,r4 b _ rfl (hb b rfl)]
def qE(gs:List aG)(ts:List Ty)(t:Ty):Int:=if Cj t=false then 23 else if iZ gs t=true then 6 else if n9 t ts.getLast? =true then 5 else 0
theorem Se(H:Pos->Option AB)(n:Pos)(es:Nat)(b:Pos)(len:Nat)(cp:Option Nat)(k:IntKind)(i:Nat)(h:i<len):au.run H n (.idxA es none) [.slice b 0 len cp es,.int k (i:Int)]=some (.val (.ptr b (i*es))):=by
 simp[au.run,mg,g9,zw,h]
theorem Uw{gs:List aG}{es:List (AV×AV×Nat)}(h:es.map (·.1)=gs.map λg=>.str g.name)(s:List Nat):
   (¬scan (fW gs s) gs.length 0<0/\∃j v,gX .s (.str s) es 0=some (some (j,v)))\/(scan (fW gs s) gs.length 0<0/\gX .s (.str s) es 0=some none):=by
 rcases CW s gs es 0 h with⟨a,b⟩|⟨a,b⟩
 .left;have:=F0.2 a;exact⟨by omega,b⟩
 . (right;refine⟨?_,b⟩;have:¬0<=scan (fW gs s) gs.length 0:=λe=>a (F0.1 e));omega
theorem Zj{s:St}{bp mp:Pos}{x y:AV}{es:List (AV×AV×Nat)}{cl:Nat}{gs:List aG}(hb:s.heap.get bp=some (.cells [x,y,.map mp] 0))(hm:s.heap.get mp=some (.map es cl))(he:es.map (·.1)=gs.map λg=>.str g.name)
   (t:Ty) (lb:Pos) (Sf:s.heap.get lb=some (.cells [.str t.a,.str t.b] 0)) (F:Nat) (k1 k2):
   iw c F k1 k2 3 [.ptr bp 0,.str t.a,.str t.b,.int .u8 t.k,.slice lb 0 2 (some 2) 1,.int .i64 2,.int .i64 ((0:Nat):Int)] s=if iZ gs t=true then k1 [.int .i64 6] s else k2 [.ptr bp 0,.str t.a,.str t.b,.int .u8 t.k] s:=by
 have w0:aB .i64 (((0:Nat):Int)+1)=((1:Nat):Int):=rfl;have w1:aB .i64 (((1:Nat):Int)+1)=((2:Nat):Int):=rfl;have i0:∀(K:AV->St->Option (AV×St))(s:St),ai c (.idxA 1 none) [.slice lb 0 2 (some 2) 1,.int .i64 ((0:Nat):Int)] s K=K (.ptr lb 0) s:=λK s=>aS c K (λH n=>Se H n 1 lb 2 (some 2) .i64 0 (by omega)) s
 have i1:∀(K:AV->St->Option (AV×St))(s:St),ai c (.idxA 1 none) [.slice lb 0 2 (some 2) 1,.int .i64 ((1:Nat):Int)] s K=K (.ptr lb 1) s:=λK s=>aS c K (λH n=>Se H n 1 lb 2 (some 2) .i64 1 (by omega)) s
 have d0:decide (((0:Nat):Int)<2)=true:=rfl;have d1:decide (((1:Nat):Int)<2)=true:=rfl;have d2:decide (((2:Nat):Int)<2)=false:=rfl;have e0:([AV.str t.a,.str t.b]:List AV)[0]? =some (.str t.a):=rfl;have e1:([AV.str t.a,.str t.b]:List AV)[1]? =some (.str t.b):=rfl;have e2:([x,y,AV.map mp]:List AV)[2]? =some (.map mp):=rfl;rw[pg];rcases Uw he t.a with⟨n1,j,v,f1⟩|⟨n1,f1⟩
 . have lk1:=λ(K:AV->St->Option (AV×St))=>BX c K (.int .i64 0) (k:= .str t.a) hm f1
   simp only[iR,jM,xk,d0,pO,i0,q9,Sf,hb,aT,Ze1,e0,e2,uk,bZ,q8,mB,Zc8,lk1,xG,Ze3,Zf7,Jj,Zm3,pP,Jk,w0];rw[pg];rcases Uw he t.b with⟨n2,j,v,f2⟩|⟨n2,f2⟩
   . have lk2:=λ(K:AV->St->Option (AV×St))=>BX c K (.int .i64 0) (k:= .str t.b) hm f2
     simp only[iR,jM,xk,d1,pO,i1,q9,Sf,hb,aT,Ze1,e1,e2,uk,bZ,q8,mB,Zc8,lk2,xG,Ze3,Zf7,Jj,Zm3,pP,Jk,w1];rw[pg];have:iZ gs t=false:=(by simp[iZ,n1,n2]);rw[this];simp only[iR,jM,xk,d2,pP,Zd3,Zd5]
   . have lk2:=λ(K:AV->St->Option (AV×St))=>BX c K (.int .i64 0) (k:= .str t.b) hm f2
     have:iZ gs t=true:=(by simp[iZ,n2]);rw[this];simp only[iR,jM,xk,d1,pO,i1,q9,Sf,hb,aT,Ze1,e1,e2,uk,bZ,q8,mB,Zc8,lk2,xG,Ze3,Zf7,Jj,Zl0,Ze5]
 . have lk1:=λ(K:AV->St->Option (AV×St))=>BX c K (.int .i64 0) (k:= .str t.a) hm f1
   have:iZ gs t=true:=(by simp[iZ,n1]);rw[this];simp only[iR,jM,xk,d0,pO,i0,q9,Sf,hb,aT,Ze1,e0,e2,uk,bZ,q8,mB,Zc8,lk1,xG,Ze3,Zf7,Jj,Zl0,Ze5]
theorem abC (hc:Sem c){s0 s:St}{bp mp:Pos}{gs:List aG}{ts:List Ty}{gk tk:Option Pos}(Eb:Wf s0)(B:eF s0 s bp mp gs ts gk tk)(hl:ts.length<=200)(t:Ty)(aW:av t.a t.b=true)(hs:IP ts)(ht:∀u,ts.getLast? =some u->dF t u=false):
   ∃s',c 259 [.ptr bp 0,.str t.a,.str t.b,.int .u8 t.k] s=some (.int .i64 (qE gs ts t),s')/\(qE gs ts t≠0->s'=s)/\(qE gs ts t=0->∃Ea,eF s0 s' bp mp gs (ts++[t]) gk Ea):=by
 have cW:¬t.a=t.b:=λe=>by rw[e,qB]at aW;cases aW
 have lW:=Uq hc s bp mp _ _ B.book;have Ux:Cj t=true->(t.k=1\/(¬t.k=1/\t.k=2)):=λq=>by
   simp only[Cj,Zg0,Zc2]at q;by_cases e:t.k=1
   .exact .inl e
   .exact .inr ⟨e,q.resolve_left e⟩
 by_cases hk:Cj t=true
 . have bM  :Wf (af s (.cells [.str t.a,.str t.b] 0)):=bt B.wf;have B1:=B.aY (Grew.af B.wf (.cells [.str t.a,.str t.b] 0));have Ck:=Grew.af B.wf (.cells [.str t.a,.str t.b] 0);have Sf:(af s (.cells [.str t.a,.str t.b] 0)).heap.get s.next=some (.cells [.str t.a,.str t.b] 0):=aE _ _;generalize H9:af s (.cells [.str t.a,.str t.b] 0)=s1 at bM B1 Ck Sf;obtain⟨es,cl,iq,hm2⟩:=B1.AY;have L:∀k1 k2,iw c 3 k1 k2 3 [.ptr bp 0,.str t.a,.str t.b,.int .u8 t.k,.slice s.next 0 2 (some 2) 1,.int .i64 2,.int .i64 0] s1=if iZ gs t=true then k1 [.int .i64 6] s1 else k2 [.ptr bp 0,.str t.a,.str t.b,.int .u8 t.k] s1:=λk1 k2=>Zj (c:=c) B1.book iq hm2 t s.next Sf 3 k1 k2
   have mo:=Rt hc B1 (by omega) t aW hs ht;have l2:∀(K:AV->St->Option (AV×St))(s:St),ai c (.lenB .l) [.slice (af s (.cells [] 0)).next 0 2 (some 2) 1] s K=K (.int .i64 2) s:=λK s=>aS c K (λH n=>rfl) s
   have lT:∀(K:AV->St->Option (AV×St))(s:St),ai c (.lenB .l) [iN tk ts.length 3] s K=K (.int .i64 (ts.length:Int)) s:=λK s=>aS c K (FZ λh=>by rw[B.yl.1 h];rfl) s
   have Uy:∀(K:AV->St->Option (AV×St)),ai c (.buildSlice 1 2 [(.str [])] [0,1]) [.str t.a,.str t.b] s K=K (.slice s.next 0 2 (some 2) 1) s1:=λK=>by rw[cM, <-H9];have:bP (bD [AV.str []] 2) ([0,1].map λi=>(i*1,1)) [.str t.a,.str t.b]=some [.str t.a,.str t.b]:=(by simp[bP,bD,dR,dZ,aI,AV.cells]);rw[this];rfl
   have l3:∀(K:AV->St->Option (AV×St))(p:Pos)(s:St),ai c (.lenB .l) [.slice p 0 2 (some 2) 1] s K=K (.int .i64 2) s:=λK p s=>aS c K (λH n=>rfl) s
   have NQ:¬(ts.length:Int)=256:=(by omega);have fail:∀e:Int,e≠0->qE gs ts t=e->rm c 3 (.ptr bp 0) (.str t.a) (.str t.b) (.int .u8 t.k) s=some (.int .i64 e,s1)->∃s',c 259 [.ptr bp 0,.str t.a,.str t.b,.int .u8 t.k] s=some (.int .i64 (qE gs ts t),s')/\(qE gs ts t≠0->s'=s)/\(qE gs ts t=0->∃Ea,eF s0 s' bp mp gs (ts++[t]) gk Ea):=λe he ha h=>by
     refine⟨s,?_,λ_=>rfl,λh0=>absurd (ha.symm.trans h0) he⟩;rw[qy hc 3 h,ha,aA (Plain.int _ _) Ck.keeps]
   cases hu:iZ gs t
   . cases  hd:n9 t ts.getLast?
     .  have he:qE gs ts t=0:=(by simp[qE,hk,hu,hd]);rw[hd]at mo;have hplc:(Ec ts t:Int)=ts.length:=by
          unfold Ec;cases hq:ts.getLast? with
          |none=> have:ts=[]:=by simpa using hq
                  subst this;rfl
          | some u=>
            rw[hq]at hd;simp only[n9,Bool.not_eq_false']at hd;simp only[hd,Ze5]
        rw[hplc]at mo;have Tu:=Up hc t.a t.b t.k aW s1 bM
        let s2:=af s1 (.cells t.cells 0)
        have g2:=Grew.af bM (.cells t.cells 0);have B2:=B1.aY g2;obtain⟨s5,r1,r2,r3,r4,r5⟩:=Xr hc (s:=s2) g2.wf (tk:=tk) (ts:=ts) (q:=s1.next) (row:=t.cells) B.yl.1 B2.yl.2 (aE _ _) rfl t.one (by omega);have Sg:=B2.lt;have b5:s5.heap.get bp=some (.cells [iN gk gs.length 9,iN tk ts.length 3,.map mp] 0):=by rw[r5 bp B.dt Sg.1];exact B2.book
        let tv:=AV.slice s2.next 0 (ts.length+1) none 3
        let s6:=ei s5 bp (.cells [iN gk gs.length 9,tv,.map mp] 0)
        have Zg:bp.toNat<s5.next.toNat:=r4 _ _ b5;have nb2:bp≠s2.next:=λe=>absurd (show bp.toNat<s2.next.toNat from Sg.1) (by rw[e];exact Zm1 _)
        have st6:∀(K:AV->St->Option (AV×St)),ai c (.store 1) [.ptr bp 1,tv] s5 K=K .undef s6:=λK=>jf c K s5 1 bp 1 tv _ b5 rfl (by simp) rfl
        have g6:∀p,p≠bp->s6.heap.get p=s5.heap.get p:=λp h=>bT (λe=>h e.symm)
        have VB:∀p:Pos,s0.next.toNat<=p.toNat->s0.heap.get p=none:=λp h=>by
          cases hx:s0.heap.get p with
          |none=>rfl
          |some x=>have:=Eb _ _ hx;omega
        obtain⟨Gq,cl2,Xs,hm4⟩:=B2.AY;have O3:mp≠bp:=λe=>by rw[e,B2.book]at Xs;cases Xs
        have nmt:tk≠some mp:=λe=>by rw[B2.yl.2 mp e]at Xs;cases Xs
        have Sb:eF s0 s6 bp mp gs (ts++[t]) gk (some s2.next):={
          wf:=DC r4 Zg
          keeps:=λp x hp=>by
            have n1:p≠bp:=λe=>by rw[e,B.fb]at hp;cases hp
            have n3:tk≠some p:=λe=>by rw[B.ft p e]at hp;cases hp
            have h2:=B2.keeps p x hp;rw[g6 p n1,r5 p n3 (B2.wf _ _ h2)];exact h2
          next:=by show s0.next.toNat<=s5.next.toNat;exact Zc1 B2.next (by rw[r3,Pos.ay];exact Nat.le_succ _)
          book:=by show(ei _ _ _).heap.get bp=_;rw[uo];simp[tv,iN]
          AY:=⟨Gq,cl2,by rw[g6 mp O3,r5 mp nmt Sg.2];exact Xs,hm4⟩
          pX:=⟨B.pX.1,λb hb=>by obtain⟨cs,h3,h4⟩:=B2.pX.2 b hb;refine⟨cs,?_,h4⟩;rw[g6 b (λe=>B.dg (by rw[<-e];exact hb)),r5 b (B.OZ b hb) (B2.wf _ _ h3)];exact h3⟩
          yl:=⟨λh=>(by cases h),λb hb=>by cases hb;rw[g6 _ (λe=>nb2 e.symm),r2];simp⟩
          dg:=B.dg
          dt:=λe=>nb2 (by injection e with e;exact e.symm)
          OZ:=λb hb h=>by
            cases h;obtain⟨cs,h3,h4⟩:=B2.pX.2 _ hb;exact absurd (show s2.next.toNat<s2.next.toNat from B2.wf _ _ h3) (Zm1 _)
          fb:=B.fb
          fm:=B.fm
          fg:=B.fg
          ft:=λb hb=>by cases hb;exact VB _ B2.next
          K3:=λes' cl' hm=>by have m6:s6.heap.get mp=s2.heap.get mp:=(by rw[g6 mp O3,r5 mp nmt Sg.2]);rw[m6]at hm;exact B2.K3 _ _ hm
          K4:=λes' cl' hm=>by have m6:s6.heap.get mp=s2.heap.get mp:=(by rw[g6 mp O3,r5 mp nmt Sg.2]);rw[m6]at hm;exact B2.K4 _ _ hm
          rows:=λb cs hb hs i u hu=>by
            obtain⟨Sa,h3,h4⟩:=B2.pX.2 b hb;have x6:s6.heap.get b=s2.heap.get b:=(by rw[g6 b (λe=>B.dg (by rw[<-e];exact hb)),r5 b (B.OZ b hb) (B2.wf _ _ h3)]);rw[x6]at hs;(refine(B2.rows b cs hb hs i u hu).to λp cs a1 a2 a3 hx=> ?_);have aW:p.toNat<s2.next.toNat:=B2.wf _ _ hx;refine⟨by rw[g6 p a1,r5 p a3 aW];exact hx,a2,λe=> ?_⟩;cases e;exact absurd aW (Zm1 _) }
        refine⟨s6,?_,λh=>absurd he h,λ_=>⟨_,Sb⟩⟩;rw[he];rw[qy hc 3 (r:=(.int .i64 0,s6))]
        . rw[Ue (b:=bp) B.book];rw[Sb.book];intro e;have e:=congrArg (λo=>match o with|some (AB.cells (_::v::_) _)=>cI v|_=>none) e;simp only[iN,cI]at e;cases tk with
          |none=>simp[cI,B.yl.1 rfl]at e
          |some b=>simp[cI]at e
        (rw[nZ];have bq:fj (iN tk ts.length 3) (iN tk ts.length 3)=true:=(by cases tk;exact KL;exact HN _ _ _ _);have wE:=λ(K:AV->Option (AV×St))=>Ao K (p:=bp) (o:=1) (h:=s1.heap) (h2:=s1.heap) (v:=iN tk ts.length 3) (by rw[B1.book];rfl) (by rw[B1.book];rfl) bq);have vh:bP (bD [AV.str [],AV.str [],.int .u8 0] 1) [(0,3)] [AV.agg t.cells]=some t.cells:=by
          simp[bP,bD,dR,dZ,Ty.cells,aI]
        have aai:decide ((ts.length:Int)=256)=false:=Za5 NQ;rw[hu]at L;rcases Ux hk with f|⟨f,f2⟩
        .have d1:decide (t.k=1)=true:=Za3 f;simp[-cM,lW,cW,Uy,l3,d1,L,mo,B1.book,lT,aai,Tu,wE,vh];show KJ (c 302 [iN tk ts.length 3,.int .i64 (ts.length:Int),.slice s1.next 0 1 (some 1) 3] s2) _=_;rw[r1];exact st6 _
        .have d1:decide (t.k=1)=false:=Za5 f;have d2:decide (t.k=2)=true:=Za3 f2;simp[-cM,lW,cW,Uy,l3,d1,d2,L,mo,B1.book,lT,aai,Tu,wE,vh];show KJ (c 302 [iN tk ts.length 3,.int .i64 (ts.length:Int),.slice s1.next 0 1 (some 1) 3] s2) _=_;rw[r1];exact st6 _
     .  refine fail 5 (by omega) (by simp[qE,hk,hu,hd]) ?_;rw[hd]at mo;rw[hu]at L;rw[nZ];rcases Ux hk with f|⟨f,f2⟩
        .have d1:decide (t.k=1)=true:=Za3 f;simp[-cM,lW,cW,Uy,l3,d1,L,mo]
        .have d1:decide (t.k=1)=false:=Za5 f;have d2:decide (t.k=2)=true:=Za3 f2;simp[-cM,lW,cW,Uy,l3,d1,d2,L,mo]
   . refine fail 6 (by omega) (by simp[qE,hk,hu]) ?_;rw[hu]at L;rw[nZ];rcases Ux hk with f|⟨f,f2⟩
     .  have d1:decide (t.k=1)=true:=Za3 f;simp[-cM,lW,cW,Uy,l3,d1,L]
     .  have d1:decide (t.k=1)=false:=Za5 f;have d2:decide (t.k=2)=true:=Za3 f2;simp[-cM,lW,cW,Uy,l3,d1,d2,L]
 .have hkf:¬t.k=1/\¬t.k=2:=(by simpa [Cj]using hk);have he:qE gs ts t=23:=(by simp[qE,hk]);refine⟨s,?_,λ_=>rfl,λh0=>absurd (he.symm.trans h0) (by omega)⟩;rw[qy hc 3 (r:=(.int .i64 23,s)),he,aA (Plain.int _ _) (aV.refl s)];rw[nZ];simp[lW,hkf]
@[simp] theorem ac2{R:Type}(K:AV->Option R)(z:Bool)(l:List aG):gu (.lenB .l) [aX z l] K=K (.int .i64 (l.length:Int)):=by unfold aX;rw[YH];simp
theorem Zk{gs:List aG}{k:Nat}(h:k<gs.length)(hk:k<=64):qC (gs.take k) gs[k]=if eH gs[k]≠0 then eH gs[k]else if 0<=scan (fW gs gs[k].name) k 0 then 5 else if 64<=k then 7 else 0:=by
 have hl:(gs.take k).length=k:=by simp;omega
 unfold qC;rw[hl,R9 (by omega)];have:(k=64)↔64<=k:=by omega
 simp only[this]
@[simp] theorem acA{R:Type}(c:ah)(K:AV->St->Option R)(st:St)(t:aG)(cs:List AV)(h:cs.length=9):ai c (.store 9) [.ptr st.next 0,.agg t.cells] (af st (.cells cs 0)) K=K .undef (af st (.cells t.cells 0)):=iz c K st 9 (.agg t.cells) cs rfl h.symm t.one
theorem aaP (hc:Sem c){s0:St}(Eb:Wf s0)(z:Bool)(gs:List aG)(hl:gs.length<=100)(bp mp rp:Pos)(F:Nat)(k1 k2):∀(m k:Nat)(s:St)(gk:Option Pos),eF s0 s bp mp (gs.take k) [] gk none->gs.length<=k+m->k<=gs.length->k<=64->
  ∃ s',aV s0 s'/\(((fQ gs m k).2=0/\(∃GO,eF s0 s' bp mp gs [] GO none)/\gq c F k1 k2 (m+1) [.ptr rp 0,.ptr bp 0,aX z gs,.int .i64 (gs.length:Int),.int .i64 (k:Int)] s=k2 [.ptr rp 0,.ptr bp 0] s')\/
    ((fQ gs m k).2≠0/\gq c F k1 k2 (m+1) [.ptr rp 0,.ptr bp 0,aX z gs,.int .i64 (gs.length:Int),.int .i64 (k:Int)] s=k1 [.fU,.int .i64 (fQ gs m k).1,.int .i64 (fQ gs m k).2] s')):=by
 intro m;induction m with
 |zero=>
  intro k s gk B h1 h2 h3;obtain rfl:k=gs.length:=by omega
  refine⟨s,B.keeps,.inl ⟨rfl,⟨gk,by simpa using B⟩,?_⟩⟩;rw[pW];simp
 |succ m ih   =>
  intro k s gk B h1 h2 h3;by_cases h:k<gs.length
  . have w:aB .i64 ((k:Int)+1)=((k+1:Nat):Int):=wrap64 (by omega) (by omega);have B1:=B.aY (Grew.af B.wf (.cells gs[k].cells 0));obtain⟨s2,a1,a2,a3⟩:=abA hc Eb B1 (by simp;omega) gs[k];have hA:=Zk h h3;have step:∀(K:AV->St->Option (AV×St)),(ai c (.idxA 9 none) [aX z gs,.int .i64 (k:Int)] s λx19 s12=>ai c (.load (some 9)) [x19] s12 K)=K (.agg gs[k].cells) s:=λK=>by
        simp[aX,h]
    by_cases he:qC (gs.take k) gs[k]=0
    .   obtain⟨GO,B2⟩:=a3 he;have e1:gs.take k++[gs[k]]=gs.take (k+1):=(Zb2 h).symm;rw[e1]at B2;rw[hA]at he;have c1:eH gs[k]=0:=by
         by_cases e:eH gs[k]=0
         .  exact e
         .  rw[Za7 e]at he;exact absurd he e
        (rw[Za4 (by rw[c1];simp)]at he;have c2:¬0<=scan (fW gs gs[k].name) k 0:=λe=>by rw[Za7 e]at he;cases he);(rw[Za4 c2]at he;have c3:¬64<=k:=λe=>by rw[Za7 e]at he;cases he);have ec:fQ gs (m+1) k=fQ gs m (k+1):=by
         rw[fQ,H1 h];simp only;rw[Za4 (by rw[c1];simp),Za4 c2,Za4 c3]
        obtain⟨s',g1,g2⟩:=ih (k+1) s2 GO B2 (by omega) (by omega) (by omega);refine⟨s',g1,?_⟩;rw[ec];have eL:gq c F k1 k2 (m+1+1) [.ptr rp 0,.ptr bp 0,aX z gs,.int .i64 (gs.length:Int),.int .i64 (k:Int)] s=gq c F k1 k2 (m+1) [.ptr rp 0,.ptr bp 0,aX z gs,.int .i64 (gs.length:Int),.int .i64 ((k+1:Nat):Int)] s2:=by
         rw[pW];have hz:qC (gs.take k) gs[k]=0:=(by rw[hA,Za4 (by rw[c1];simp),Za4 c2,Za4 c3]);rw[hz]at a1;simp[aX,h,a1,w]
        rw[eL];exact g2
    .   obtain rfl:=a2 he;have ec:fQ gs (m+1) k=((k:Int),qC (gs.take k) gs[k]):=by
         rw[fQ,H1 h];simp only;rw[hA]at he ⊢;by_cases c1:eH gs[k]=0
         .  have e1:¬eH gs[k]≠0:=(by rw[c1];simp);by_cases c2:0<=scan (fW gs gs[k].name) k 0
            .simp only[e1,c2,Zd5,Ze5]
            . by_cases c3:64<=k
              .simp only[e1,c2,c3,Zd5,Ze5]
              .rw[Za4 e1,Za4 c2,Za4 c3]at he;exact absurd rfl he
         .  have e1:eH gs[k]≠0:=c1;rw[Za7 e1,Za7 e1]
        refine⟨_,B1.keeps,.inr ⟨by rw[ec];exact he,?_⟩⟩;rw[ec,pW];simp[aX,h,a1,he]
  .obtain rfl:k=gs.length:=(by omega);have ec:fQ gs (m+1) gs.length=(0,0):=(by rw[fQ,Zb1 (by omega)]);refine⟨s,B.keeps,.inl ⟨by rw[ec],⟨gk,by simpa using B⟩,?_⟩⟩;rw[pW];simp
theorem K5{ts:List Ty}{k:Nat}(h:k<ts.length):(ts.take k).getLast? =j4 ts k:=by
 unfold j4;by_cases h0:k=0
 .simp[h0]
 .rw[Za4 h0,List.getLast?_eq_getElem?];have:(ts.take k).length=k:=(by simp;omega);rw[this,Zb0,Za7 (by omega)]
theorem Zl{ts:List Ty}{k:Nat}(h:k<ts.length)(hs:IP (ts.take k))(hb:∀u,j4 ts k=some u->dF u ts[k]=true):IP (ts.take (k+1)):=by
 intro i j hj hij;have yS:j<k+1:=by simp at hj;omega
 simp only[Zj8];by_cases e:j=k
 . subst e;have h1:j4 ts j=some (ts[j - 1]'(by omega)):=(by rw[j4,Za4 (by omega),H1 (by omega)]);have h2:=hb _ h1;by_cases e2:i=j - 1
   .subst e2;exact h2
   .have h3:=hs i (j - 1) (by simp;omega) (by omega);simp only[Zj8]at h3;exact F6 h3 h2
 .have:=hs i j (by simp;omega) hij;simpa only[Zj8]using this
def ML(t:Ty)(p:Option Ty):Bool:=match p with|none=>false|some p=>dF t p
theorem Zm(t:Ty)(p:Option Ty):Qe t p=(!Cj t|| !av t.a t.b||ML t p):=by cases p<;>rfl
def Si(t:Ty)(p:Option Ty):Bool:=av t.a t.b&& !ML t p
def eK(gs:List aG)(ts:List Ty)(k:Nat)(t:Ty):Int:=if Si t (j4 ts k)=true then qE gs (ts.take k) t else 23
theorem aaQ (hc:Sem c){s0:St}(Eb:Wf s0)(z z2:Bool)(gs:List aG)(ts:List Ty)(hl:gs.length<=100)(jr:ts.length<=100)(bp mp rp:Pos)(Hy:s0.heap.get rp=some (.cells [aX z gs,bR z2 ts] 0))(gk:Option Pos)(F:Nat)(k1 k4):∀(m k:Nat)(s:St)(tk:Option Pos),eF s0 s bp mp gs (ts.take k) gk tk->IP (ts.take k)->ts.length<=k+m->k<=ts.length->
  ∃s',aV s0 s'/\((ee gs ts m k).2=0->(∃Ea,eF s0 s' bp mp gs ts gk Ea)/\IP ts)/\iB c F k1 k4 (m+1) [.ptr rp 0,.ptr bp 0,bR z2 ts,.int .i64 (ts.length:Int),.int .i64 (k:Int)] s=if(ee gs ts m k).2=0 then k4 [.ptr bp 0] s' else k1 [.fU,.int .i64 (ee gs ts m k).1,.int .i64 (ee gs ts m k).2] s':=by
 intro m;induction m with
 |zero=>
  intro k s tk B hs h1 h2;obtain rfl:k=ts.length:=by omega
  refine⟨s,B.keeps,λ_=>⟨⟨tk,by simpa using B⟩,by simpa using hs⟩,?_⟩;rw[pV];simp[ee]
 |succ m ih   =>
  intro k s tk B hs h1 h2;by_cases h:k<ts.length
  . have w:aB .i64 ((k:Int)+1)=((k+1:Nat):Int):=wrap64 (by omega) (by omega);have wg:aB .i64 ((gs.length:Int)+(k:Int))=(gs.length:Int)+k:=wrap64 (by omega) (by omega);have B1:=B.aY (Grew.af B.wf (.cells ts[k].cells 0));have c9:(af s (.cells ts[k].cells 0)).heap.get rp=some (.cells [aX z gs,bR z2 ts] 0):=B1.keeps _ _ Hy;have bM:=B1.wf;have NQ:¬256<=k:=(by omega);have ec:ee gs ts (m+1) k=if eK gs ts k ts[k]≠0 then((gs.length:Int)+k,eK gs ts k ts[k])else ee gs ts m (k+1):=by rw[ee,H1 h];simp only[NQ,Zd5];rw[Zm];unfold eK Si qE;rw[K5 h];cases Cj ts[k]<;>cases av ts[k].a ts[k].b<;>cases ML ts[k] (j4 ts k)<;>cases iZ gs ts[k]<;>cases n9 ts[k] (j4 ts k)<;>simp
    have KB   :Si ts[k] (j4 ts k)=true->∃s',aV s0 s'/\(eK gs ts k ts[k]=0->(ee gs ts m (k+1)).2=0->(∃Ea,eF s0 s' bp mp gs ts gk Ea)/\IP ts)/\∃s2,c 259 [.ptr bp 0,.str ts[k].a,.str ts[k].b,.int .u8 ts[k].k] (af s (.cells ts[k].cells 0))=some (.int .i64 (eK gs ts k ts[k]),s2)/\s2.heap.get rp=some (.cells [aX z gs,bR z2 ts] 0)/\
          (eK gs ts k ts[k]≠0->s'=s2)/\(eK gs ts k ts[k]=0->
            iB c F k1 k4 (m+1) [.ptr rp 0,.ptr bp 0,bR z2 ts,.int .i64 (ts.length:Int),.int .i64 ((k+1:Nat):Int)] s2=if(ee gs ts m (k+1)).2=0 then k4 [.ptr bp 0] s' else k1 [.fU,.int .i64 (ee gs ts m (k+1)).1,.int .i64 (ee gs ts m (k+1)).2] s'):=λcJ=>by
        have Sj:=cJ;simp only[Si,Za2,Zg3]at Sj;obtain⟨b2,b3⟩:=Sj;have acB:∀u,(ts.take k).getLast? =some u->dF ts[k] u=false:=λu hu=>by rw[K5 h]at hu;rw[hu]at b3;exact b3
        obtain⟨s2,a1,a2,a3⟩:=abC hc Eb B1 (by simp;omega) ts[k] b2 hs acB;have et:eK gs ts k ts[k]=qE gs (ts.take k) ts[k]:=(by unfold eK;rw[Za7 cJ]);rw[<-et]at a1 a2 a3;by_cases h0:eK gs ts k ts[k]=0
        . obtain⟨Ea,B2⟩:=a3 h0;have e1:ts.take k++[ts[k]]=ts.take (k+1):=(Zb2 h).symm;rw[e1]at B2;have hd:n9 ts[k] (j4 ts k)=false:=by
            rw[et,qE,K5 h]at h0;cases hq:n9 ts[k] (j4 ts k)
            .rfl
            . rw[hq]at h0;split at h0
              .simp at h0
              .split at h0<;>simp at h0
          have xW:=Zl h hs (λu hu2=>by rw[hu2]at hd;simpa [n9]using hd);obtain⟨s',g1,gB,g2⟩:=ih (k+1) s2 Ea B2 xW (by omega) (by omega);exact⟨s',g1,λ_=>gB,s2,a1,B2.keeps _ _ Hy,λe=>absurd h0 e,λ_=>g2⟩
        .obtain rfl:=a2 h0;exact⟨_,B1.keeps,λe=>absurd e h0,_,a1,c9,λ_=>rfl,λe=>absurd e h0⟩
    rw[ec];cases cJ:Si ts[k] (j4 ts k)
    ·
        have e23:eK gs ts k ts[k]=23:=(by unfold eK;rw[cJ];rfl);refine⟨_,B1.keeps,λe=>(by rw[e23,Za7 (by decide)]at e;cases e),?_⟩;rw[pV,e23];cases q1:av ts[k].a ts[k].b
        .simp[bR,h,q1,dB,c9,wg]
        . have q2:ML ts[k] (j4 ts k)=true:=(by simpa [Si,q1]using cJ);have uh:¬k=0:=λe=>by rw[j4,Za7 e]at q2;cases q2
          have mL:k - 1<ts.length:=(by omega);have wk:aB .i64 ((k:Int) - 1)=((k - 1:Nat):Int):=(by rw[wrap64 (by omega) (by omega)];omega);have q3:dF ts[k] ts[k - 1]=true:=(by rw[j4,Za4 uh,H1 mL]at q2;exact q2);have ho:=AX hc ts[k - 1] ts[k] _ bM;have wO:¬mM ts[k - 1] ts[k]<=0:=(by have:=Jo.2 q3;omega);simp[bR,h,q1,dB,c9,wg,uh,mL,wk,ho,wO]
    .   obtain⟨s',g1,gB,s2,t1,t2,t3,t4⟩:=KB cJ;refine⟨s',g1,λe=>by
          by_cases he:eK gs ts k ts[k]=0
          .exact gB he (by rw[Za4 (by simp[he])]at e;exact e)
          .rw[Za7 he]at e;exact absurd e he,?_⟩
        rw[pV];have Sj:=cJ;simp only[Si,Za2,Zg3]at Sj;obtain⟨q1,q2⟩:=Sj;by_cases he:eK gs ts k ts[k]=0
        . have t4:=t4 he;rw[he]at t1;simp only[he,ne_eq,not_true,Zd5];rw[<-t4];by_cases uh:k=0
          .have dk:decide ((k:Int)=0)=true:=Za3 (by omega);have dk':decide (k=0)=true:=Za3 uh;clear uh;simp[bR,h,q1,dB,c9,dk,dk',t1,w]
          . have mL:k - 1<ts.length:=(by omega);have wk:aB .i64 ((k:Int) - 1)=((k - 1:Nat):Int):=(by rw[wrap64 (by omega) (by omega)];omega);have q3:dF ts[k] ts[k - 1]=false:=(by rw[j4,Za4 uh,H1 mL]at q2;exact q2);have ho:=AX hc ts[k - 1] ts[k] _ bM;have wO:mM ts[k - 1] ts[k]<=0:=by
              have:¬0<mM ts[k - 1] ts[k]:=λe=>by rw[Jo.1 e]at q3;cases q3
              omega
            simp[bR,h,q1,dB,c9,uh,mL,wk,ho,wO,t1,w]
        . obtain rfl:=t3 he;simp only[he,ne_eq,Zk8,Ze5,Zd5];by_cases uh:k=0
          .have dk:decide ((k:Int)=0)=true:=Za3 (by omega);have dk':decide (k=0)=true:=Za3 uh;clear uh;simp[bR,h,q1,dB,c9,dk,dk',t1,t2,wg,he]
          . have mL:k - 1<ts.length:=(by omega);have wk:aB .i64 ((k:Int) - 1)=((k - 1:Nat):Int):=(by rw[wrap64 (by omega) (by omega)];omega);have q3:dF ts[k] ts[k - 1]=false:=(by rw[j4,Za4 uh,H1 mL]at q2;exact q2);have ho:=AX hc ts[k - 1] ts[k] _ bM;have wO:mM ts[k - 1] ts[k]<=0:=by
              have:¬0<mM ts[k - 1] ts[k]:=λe=>by rw[Jo.1 e]at q3;cases q3
              omega
            simp[bR,h,q1,dB,c9,uh,mL,wk,ho,wO,t1,t2,wg,he]
  .obtain rfl:k=ts.length:=(by omega);refine⟨s,B.keeps,λ_=>⟨⟨tk,by simpa using B⟩,by simpa using hs⟩,?_⟩;rw[pV];have ec:ee gs ts (m+1) ts.length=(0,0):=(by rw[ee,Zb1 (by omega)]);simp[ec]
theorem NR(hc:Sem c)(z z2:Bool)(gs:List aG)(ts:List Ty)(hl:gs.length<=100)(jr:ts.length<=100)(s:St)(hw:Wf s):
   ∃v s',c 198 [.agg [aX z gs,bR z2 ts]] s=some (.tuple [v,.int .i64 (bB gs ts).1,.int .i64 (bB gs ts).2],s')/\aV s s'/\((bB gs ts).2=0->∃bp mp gk tk,v= .ptr bp 0/\eF (af s (.cells [aX z gs,bR z2 ts] 0)) s' bp mp gs ts gk tk/\IP ts):=by
 let s0:=af s (.cells [aX z gs,bR z2 ts] 0)
 have Eb:Wf s0:=bt hw;have k0:aV s s0:=aZ hw;have Hy:s0.heap.get s.next=some (.cells [aX z gs,bR z2 ts] 0):=aE _ _;have QG:=abz hc s0;have B:=eF.start Eb
 have finish:∀{v:AV}{s':St},wm c 102 (.agg [aX z gs,bR z2 ts]) s=some (.tuple [v,.int .i64 (bB gs ts).1,.int .i64 (bB gs ts).2],s')->aV s0 s'->((bB gs ts).2=0->∃bp mp gk tk,v= .ptr bp 0/\eF s0 s' bp mp gs ts gk tk/\IP ts)->
     ∃v s',c 198 [.agg [aX z gs,bR z2 ts]] s=some (.tuple [v,.int .i64 (bB gs ts).1,.int .i64 (bB gs ts).2],s')/\aV s s'/\((bB gs ts).2=0->∃bp mp gk tk,v= .ptr bp 0/\eF s0 s' bp mp gs ts gk tk/\IP ts):=λ{v s'} h hk hB=>by
   have h2:=NA hc 102 h;unfold tidy at h2;split at h2
   .rename_i hp;exact⟨v,s,h2,aV.refl s,λe=>by obtain⟨bp,mp,gk,tk,rfl,_⟩:=hB e;exact absurd hp.1 Pn⟩
   .exact⟨v,s',h2,k0.trans hk,hB⟩
 obtain⟨s1,g1,g2⟩:=aaP hc Eb z gs hl (af s0 (.map [] 0)).next s0.next s.next 102 (λvs Xt=>dO vs λx2 vs=>dO vs λx3 vs=>dO vs λx4 vs=>fG vs (some (.tuple [x2,x3,x4],Xt))) (λvs Xu=>dO vs λx1 vs=>dO vs λx5 vs=>fG vs (
   ai c (.fieldA 1) [x1] Xu λXv Xw=>ai c (.load none) [Xv] Xw λKf R1=>ai c (.lenB .l) [Kf] R1 λXx R2=>ai c .move [(.int .i64 0)] R2 λXy R3=>
   iB c 102 (λvs Sk=>dO vs λx2 vs=>dO vs λx3 vs=>dO vs λx4 vs=>fG vs (some (.tuple [x2,x3,x4],Sk))) (λvs Sl=>dO vs λx5 vs=>fG vs (
     ai c .move [x5] Sl λSm Sn=>ai c .move [Sm] Sn λx2 So=>ai c .move [(.int .i64 0)] So λx3 Sp=>ai c .move [(.int .i64 0)] Sp λx4 Sq=>some (.tuple [x2,x3,x4],Sq))) 102 [x1,x5,Kf,Xx,Xy] R3)) 101 0 _ none B (by omega) (by omega) (by omega)
 have Xz:∀r,gq c 102 (λvs Xt=>dO vs λx2 vs=>dO vs λx3 vs=>dO vs λx4 vs=>fG vs (some (.tuple [x2,x3,x4],Xt))) (λvs Xu=>dO vs λx1 vs=>dO vs λx5 vs=>fG vs (
   ai c (.fieldA 1) [x1] Xu λXv Xw=>ai c (.load none) [Xv] Xw λKf R1=>ai c (.lenB .l) [Kf] R1 λXx R2=>ai c .move [(.int .i64 0)] R2 λXy R3=>
   iB c 102 (λvs Sk=>dO vs λx2 vs=>dO vs λx3 vs=>dO vs λx4 vs=>fG vs (some (.tuple [x2,x3,x4],Sk))) (λvs Sl=>dO vs λx5 vs=>fG vs (
     ai c .move [x5] Sl λSm Sn=>ai c .move [Sm] Sn λx2 So=>ai c .move [(.int .i64 0)] So λx3 Sp=>ai c .move [(.int .i64 0)] Sp λx4 Sq=>some (.tuple [x2,x3,x4],Sq))) 102 [x1,x5,Kf,Xx,Xy] R3)) 102 [.ptr s.next 0,.ptr (af s0 (.map [] 0)).next 0,aX z gs,.int .i64 (gs.length:Int),.int .i64 ((0:Nat):Int)] (af (af s0 (.map [] 0)) (.cells [.ax,.ax,.map s0.next] 0))=r->wm c 102 (.agg [aX z gs,bR z2 ts]) s=r:=λr h=>by
   rw[<-h,RN];have hb:=(B.keeps _ _ Hy)
   simp only[um,IN,bZ,OI];show KJ (c 256 [] s0) _=_;rw[QG];simp only[BW,mB,q9,hb,aT,Ze1,Ze3,Zc8,uk,Za];rfl
 rcases g2 with⟨q1,⟨GO,B2⟩,q3⟩|⟨q1,q3⟩
 . have e:bB gs ts=ee gs ts 101 0:=(by rw[bB,Za4 (by simp[q1])]);obtain⟨s2,r1,rB,r2⟩:=aaQ hc Eb z z2 gs ts hl jr (af s0 (.map [] 0)).next s0.next s.next Hy GO 102 (λvs Sk=>dO vs λx2 vs=>dO vs λx3 vs=>dO vs λx4 vs=>fG vs (some (.tuple [x2,x3,x4],Sk))) (λvs Sl=>dO vs λx5 vs=>fG vs (
     ai c .move [x5] Sl λSm Sn=>ai c .move [Sm] Sn λx2 So=>ai c .move [(.int .i64 0)] So λx3 Sp=>ai c .move [(.int .i64 0)] Sp λx4 Sq=>some (.tuple [x2,x3,x4],Sq))) 101 0 s1 none (by simpa using B2) (by intro i j hj;simp at hj) (by omega) (by omega)
   have tX:s1.heap.get s.next=some (.cells [aX z gs,bR z2 ts] 0):=B2.keeps _ _ Hy;have hL:=Xz _ q3;simp only[iR,jM,mB,q9,tX,aT,Ze1,Zf7,Ze3,Zc8,uk,Zb,bZ]at hL;have Uv:=r2;rw[show(((0:Nat):Int))=0 from rfl]at Uv;simp only[bZ,Nat.reduceAdd]at Uv;rw[Uv]at hL;rw[e]at finish ⊢;by_cases h2:(ee gs ts 101 0).2=0
   . have h3:=FX gs ts 101 0 h2;rw[Za7 h2]at hL;simp only[iR,jM]at hL;exact finish (by rw[h2,h3];exact hL) r1 (λe=>by
        obtain⟨⟨Ea,B3⟩,hs⟩:=rB e;exact⟨_,_,_,_,rfl,B3,hs⟩)
   .rw[Za4 h2]at hL;simp only[iR,jM]at hL;exact finish hL r1 (λe=>absurd e h2)
 .have e:bB gs ts=fQ gs 101 0:=(by rw[bB,Za7 q1]);have hL:=Xz _ q3;simp only[iR,jM]at hL;rw[e]at finish ⊢;exact finish hL g1 (λe=>absurd e q1)
structure Rl where
 k:Int
 wt:Int
 a:List Nat
 b:List Nat
 t:List Nat
 n:Int
def Rl.cells(r:Rl):List AV:=[.int .u8 r.k,.int .i64 r.wt,.str r.a,.str r.b,.str r.t,.int .i64 r.n]
@[simp] theorem Rl.c0(t:Rl):t.cells[0]? =some (.int .u8 t.k):=id rfl
@[simp] theorem Rl.c1(t:Rl):t.cells[1]? =some (.int .i64 t.wt):=id rfl
@[simp] theorem Rl.c2(t:Rl):t.cells[2]? =some (.str t.a):=id rfl
@[simp] theorem Rl.c3(t:Rl):t.cells[3]? =some (.str t.b):=id rfl
@[simp] theorem Rl.c4(t:Rl):t.cells[4]? =some (.str t.t):=id rfl
@[simp] theorem Rl.c5(t:Rl):t.cells[5]? =some (.int .i64 t.n):=id rfl
@[simp] theorem Rl.cc(t:Rl):cut t.cells 0 6=some t.cells:=bV rfl
@[simp] theorem Rl.one(t:Rl):aQ t.cells=true:=id rfl
def gJ(z:Bool)(rs:List Rl):AV:=ro 6 z (rs.map Rl.cells)
@[simp] theorem ac3{R:Type}(c:ah)(K:AV->St->Option R)(st:St)(z:Bool)(l:List Rl):ai c (.lenB .l) [gJ z l] st K=K (.int .i64 (l.length:Int)) st:=by unfold gJ;rw[bN];simp
@[simp] theorem acC{R:Type}(c:ah)(K:AV->St->Option R)(st:St)(z:Bool)(l:List aD):ai c (.lenB .l) [tabs z l] st K=K (.int .i64 (l.length:Int)) st:=by unfold tabs;rw[bN];simp
structure aR where
 tz:Bool
 ts:List aD
 gz:Bool
 gs:List aG
 yz:Bool
 ys:List Ty
 cz:Bool
 cs:List Int
 rz:Bool
 rs:List Rl
def aR.cells(p:aR):List AV:=[tabs p.tz p.ts,aX p.gz p.gs,bR p.yz p.ys,ints p.cz p.cs,gJ p.rz p.rs]
@[simp] theorem aR.c0(p:aR):p.cells[0]? =some (tabs p.tz p.ts):=id rfl
@[simp] theorem aR.c1(p:aR):p.cells[1]? =some (aX p.gz p.gs):=id rfl
@[simp] theorem aR.c2(p:aR):p.cells[2]? =some (bR p.yz p.ys):=id rfl
@[simp] theorem aR.c3(p:aR):p.cells[3]? =some (ints p.cz p.cs):=id rfl
@[simp] theorem aR.c4(p:aR):p.cells[4]? =some (gJ p.rz p.rs):=id rfl
@[simp] theorem aR.cc(p:aR):cut p.cells 0 5=some p.cells:=bV rfl
structure aR.iO(p:aR):Prop where
 ts:p.ts.length<=100
 gs:p.gs.length<=100
 ys:p.ys.length<=100
 cs:p.cs.length<=100
 rs:p.rs.length<=100
 ok:∀t∈p.ts,t.Ok
def jC(l:List Int):Bool:=l.all λc=>decide (0<=c)&&decide (c<64)
def eY(p:aR):Int×Int:=
 if(bf p.ts).2≠0 then bf p.ts else if(bB p.gs p.ys).2≠0 then bB p.gs p.ys
 else if p.cs.length≠0/\p.cs.length≠p.gs.length then(0,44)else if jC p.cs=false then(0,44)
 else if bK p.ts<p.gs.length then(0,45)else(0,0)
theorem Tm{p:aR}(h:(eY p).2=0):(eY p).1=0:=by
 unfold eY at h ⊢;by_cases h1:(bf p.ts).2≠0
 .rw[Za7 h1]at h;exact absurd h h1
 rw[Za4 h1]at h ⊢;by_cases h2:(bB p.gs p.ys).2≠0
 .rw[Za7 h2]at h;exact absurd h h2
 rw[Za4 h2]
 repeat' split
 all_goals rfl
theorem VD(p:aR)(hp:p.iO)(q:Pos)(F:Nat)(s:St)(k1 k2):∀(m k:Nat),p.cs.length<=k+m->k<=p.cs.length->
  kN c F k1 k2 (m+1) [.ptr q 0,ints p.cz p.cs,.int .i64 (p.cs.length:Int),.int .i64 (k:Int)] s=if jC (p.cs.drop k)=true then k2 [.ptr q 0] s else k1 [.int .i64 0,.int .i64 44] s:=by
 have hl:=hp.cs;intro m;induction m with
 |zero=>
  intro k h1 h2;obtain rfl:k=p.cs.length:=by omega
  rw[B8];simp[jC]
 |succ m ih=>
  intro k h1 h2;rw[B8];by_cases h:k<p.cs.length
  . have e:p.cs.drop k=p.cs[k]::p.cs.drop (k+1):=Zb3 h;have w:aB .i64 ((k:Int)+1)=((k+1:Nat):Int):=wrap64 (by omega) (by omega);have:=ih (k+1) (by omega) (by omega);have ec:jC (p.cs.drop k)=((decide (0<=p.cs[k])&&decide (p.cs[k]<64))&&jC (p.cs.drop (k+1))):=(by rw[e];rfl);rw[ec];generalize jC (p.cs.drop (k+1))=rest at this ⊢;by_cases h3:p.cs[k]<0
    .   have h4:(decide (0<=p.cs[k])&&decide (p.cs[k]<64))=false:=(by simp;omega);rw[h4];simp[ints,h,h3]
    .   by_cases h5:64<=p.cs[k]
        .have h4:(decide (0<=p.cs[k])&&decide (p.cs[k]<64))=false:=(by simp;omega);rw[h4];simp[ints,h,h3,h5]
        .have h4:(decide (0<=p.cs[k])&&decide (p.cs[k]<64))=true:=(by simp;omega);rw[h4,Zd8, <-this];simp[ints,h,h3,h5,w]
  .obtain rfl:k=p.cs.length:=(by omega);simp[jC]
theorem PE(p:aR)(hp:p.iO)(q:Pos)(F:Nat)(s:St)(hq:s.heap.get q=some (.cells p.cells 0))(k1 k2):∀(m k:Nat),p.cs.length<=k+m->k<=p.cs.length->
  e8 c F k1 k2 (m+1) [.ptr q 0,.int .i64 (k:Int)] s=if jC (p.cs.drop k)=true then k2 [.ptr q 0] s else k1 [.int .i64 0,.int .i64 44] s:=by
 have hl:=hp.cs;intro m;induction m with
 |zero=>
  intro k h1 h2;obtain rfl:k=p.cs.length:=by omega
  rw[rA];simp[jC,hq]
 |succ m ih=>
  intro k h1 h2;rw[rA];by_cases h:k<p.cs.length
  . have e:p.cs.drop k=p.cs[k]::p.cs.drop (k+1):=Zb3 h;have w:aB .i64 ((k:Int)+1)=((k+1:Nat):Int):=wrap64 (by omega) (by omega);have:=ih (k+1) (by omega) (by omega);have ec:jC (p.cs.drop k)=((decide (0<=p.cs[k])&&decide (p.cs[k]<64))&&jC (p.cs.drop (k+1))):=(by rw[e];rfl);rw[ec];generalize jC (p.cs.drop (k+1))=rest at this ⊢;by_cases h3:p.cs[k]<0
    .   have h4:(decide (0<=p.cs[k])&&decide (p.cs[k]<64))=false:=(by simp;omega);rw[h4];simp[hq,ints,h,h3]
    .   by_cases h5:64<=p.cs[k]
        .have h4:(decide (0<=p.cs[k])&&decide (p.cs[k]<64))=false:=(by simp;omega);rw[h4];simp[hq,ints,h,h3,h5]
        .have h4:(decide (0<=p.cs[k])&&decide (p.cs[k]<64))=true:=(by simp;omega);rw[h4,Zd8, <-this];simp[hq,ints,h,h3,h5,w]
  .obtain rfl:k=p.cs.length:=(by omega);simp[jC,hq]
theorem PG(hc:Sem c)(z:Bool)(ts:List aD)(hl:ts.length<=100)(F:Nat)(s:St)(hw:Wf s)(k2):∀(m k:Nat),ts.length<=k+m->k<=ts.length->
  e9 c F k2 (m+1) [tabs z ts,.int .i64 (ts.length:Int),.int .i64 (bK (ts.take k)),.int .i64 (k:Int)] s=k2 [.int .i64 (bK ts)] s:=by
 intro m;induction m with
 |zero=>
  intro k h1 h2;obtain rfl:k=ts.length:=by omega
  rw[rC];simp
 |succ m ih=>
  intro k h1 h2;rw[rC];by_cases h:k<ts.length
  . have w:aB .i64 ((k:Int)+1)=((k+1:Nat):Int):=wrap64 (by omega) (by omega);have hs:=FO hc ts[k] s hw;have e:bK (ts.take (k+1))=bK (ts.take k)+cv ts[k]:=by
        rw[Zb2 h,FV]
    have b1:=FU (ts.take k);have b2:=wA ts[k];have b3:(ts.take k).length<=100:=(by simp;omega);have w2:aB .i64 (bK (ts.take k)+cv ts[k])=bK (ts.take (k+1)):=(by rw[e];exact wrap64 (by omega) (by omega));rw[<-ih (k+1) (by omega) (by omega)];simp[tabs,h,hs,w,w2]
  .obtain rfl:k=ts.length:=(by omega);simp
theorem Kg(hc:Sem c)(z:Bool)(ts:List aD)(hl:ts.length<=100)(s:St)(hw:Wf s):c 101 [tabs z ts] s=some (.int .i64 (bK ts),s):=by
 have hF:c 111 [tabs z ts,.int .i64 (ts.length:Int)] s=some (.int .i64 (bK ts),s):=by
  rw[CS hc 101 (r:=(.int .i64 (bK ts),s)),aA (Plain.int _ _) (aV.refl s)];rw[FA];have L:∀k2,e9 c 101 k2 101 [tabs z ts,.int .i64 (ts.length:Int),.int .i64 0,.int .i64 0] s=k2 [.int .i64 (bK ts)] s:=λk2=>by have:=PG hc z ts hl 101 s hw k2 100 0 (by omega) (by omega);simpa [bK]using this
  simp[L]
 rw[CP hc 1 (r:=(.int .i64 (bK ts),s)),aA (Plain.int _ _) (aV.refl s)];rw[Fx];simp[hF]
theorem VE{d:Nat}(z:Bool)(l:List Int):dK (d+1) (ints z l):=dK.ro λr hr v hv=>by simp only[Zf1]at hr;obtain⟨i,_,rfl⟩:=hr;simp only[Zc0]at hv;subst hv;exact dK.int _ _
theorem VF{d:Nat}(z:Bool)(l:List (List Nat)):dK (d+1) (dD z l):=dK.ro λr hr v hv=>by simp only[Zf1]at hr;obtain⟨i,_,rfl⟩:=hr;simp only[Zc0]at hv;subst hv;exact dK.str _
theorem F7(z:Bool)(l:List aG):dK 3 (aX z l):=dK.ro λr hr v hv=>by simp only[Zf1]at hr;obtain⟨g,_,rfl⟩:=hr;simp only[aG.cells,Za0,Zc7,Zg6]at hv;rcases hv with rfl|rfl|rfl|rfl|rfl|rfl|rfl|rfl|rfl<;>first|exact dK.str _|exact dK.int _ _|exact dK.bool _|exact VF _ _
theorem XA(z:Bool)(l:List Rl):dK 3 (gJ z l):=dK.ro λr hr v hv=>by simp only[Zf1]at hr;obtain⟨g,_,rfl⟩:=hr;simp only[Rl.cells,Za0,Zc7,Zg6]at hv;rcases hv with rfl|rfl|rfl|rfl|rfl|rfl<;>first|exact dK.str _|exact dK.int _ _|exact dK.bool _
theorem fR(z z2:Bool)(gs:List aG)(ts:List Ty):bP [.ax,.ax] [(0,1),(1,1)] [aX z gs,bR z2 ts]=some [aX z gs,bR z2 ts]:=by have e1:(aX z gs).cells=[aX z gs]:=Rn _ _ _;have e2:(bR z2 ts).cells=[bR z2 ts]:=Rn _ _ _;unfold bP;rw[e1];show bP [aX z gs,.ax] [(1,1)] [bR z2 ts]=_;unfold bP;rw[e2];rfl
def IQ(c:ah)(p:aR):Prop:=(∀st,Wf st->c 150 [.agg [aX p.gz p.gs,bR p.yz p.ys]] st=some (.tuple [.int .i64 (bB p.gs p.ys).1,.int .i64 (bB p.gs p.ys).2],st))/\
 ∀st,Wf st->c 137 [.agg [aX p.gz p.gs,bR p.yz p.ys]] st=some (.tuple [.int .i64 (bB p.gs p.ys).1,.int .i64 (bB p.gs p.ys).2],st)
theorem Zn (hc:Sem c)(p:aR)(hp:p.iO)(hR:IQ c p)(st:St)(hw:Wf st):c 119 [.agg p.cells] st=some (.tuple [.int .i64 (eY p).1,.int .i64 (eY p).2],st):=by
 have bM:Wf (af st (.cells p.cells 0)):=bt hw;have Ck:=Grew.af hw (.cells p.cells 0);have c9:(af st (.cells p.cells 0)).heap.get st.next=some (.cells p.cells 0):=aE _ _;have A:=Ke hc p.tz p.ts hp.ok _ bM;have B:=hR.1 _ bM;have D:=xA hc p.tz p.ts hp.ok _ bM;have L:∀k1 k2,kN c 101 k1 k2 101 [.ptr st.next 0,ints p.cz p.cs,.int .i64 (p.cs.length:Int),.int .i64 0] (af st (.cells p.cells 0))=if jC p.cs=true then k2 [.ptr st.next 0] (af st (.cells p.cells 0))else k1 [.int .i64 0,.int .i64 44] (af st (.cells p.cells 0)):=
   λk1 k2=>VD (c:=c) p hp st.next 101 (af st (.cells p.cells 0)) k1 k2 100 0 (by have:=hp.cs;omega) (by omega)
 have wE:=λ(K:AV->Option (AV×St))=>Ao K (p:=st.next) (o:=1) (h:=(af st (.cells p.cells 0)).heap) (h2:=(af st (.cells p.cells 0)).heap) (v:=aX p.gz p.gs) (by rw[c9];rfl) (by rw[c9];rfl) (uq (F7 _ _))
 rw[Nx hc 101 (r:=(.tuple [.int .i64 (eY p).1,.int .i64 (eY p).2],af st (.cells p.cells 0))),aA (Plain.tuple (by simp[Plain.int])) Ck.keeps];rw[RK];unfold eY;by_cases h1:(bf p.ts).2=0
 . by_cases h2:(bB p.gs p.ys).2=0
   . simp only[h1,Ze5]at D;by_cases h3:p.cs.length=0
     .  have h4:p.cs=[]:=(by simpa using h3);have L1:jC p.cs=true:=(by rw[h4];rfl);have e0:((p.cs.length:Nat):Int)=0:=(by omega);simp only[L1,Ze5,e0]at L;by_cases h6:bK p.ts<p.gs.length
        .simp[fR,h1,h2,h3,A,B,D,c9,L1,L,wE,h6]
        .simp[fR,h1,h2,h3,A,B,D,c9,L1,L,wE,h6]
     .  by_cases h4:p.cs.length=p.gs.length
        . cases h5:jC p.cs with
          | false=>
            simp only[h5,Zd3,Zd5,h4]at L;have h7:0<p.cs.length:=(by omega);have h8:0<p.gs.length:=(by omega);simp[fR,h1,h2,h3,h4,h5,h7,h8,A,B,c9,L]
          | true=>
            simp only[h5,Ze5,h4]at L;have h7:0<p.cs.length:=(by omega);have h8:0<p.gs.length:=(by omega);by_cases h6:bK p.ts<p.gs.length
            .simp[fR,h1,h2,h3,h4,h5,h7,h8,A,B,D,c9,L,wE,h6]
            .simp[fR,h1,h2,h3,h4,h5,h7,h8,A,B,D,c9,L,wE,h6]
        .have h7:0<p.cs.length:=(by omega);have h4i:¬((p.cs.length:Int)=(p.gs.length:Int)):=(by omega);simp[fR,h1,h2,h3,h4,h4i,h7,A,B,c9]
   .simp[fR,h1,h2,A,B,c9]
 .simp[h1,A,c9]
theorem Tn (hc:Sem c)(p:aR)(hp:p.iO)(hR:IQ c p)(st:St)(hw:Wf st):c 108 [.agg p.cells] st=some (.tuple [.int .i64 (eY p).1,.int .i64 (eY p).2],st):=by
 have bM:Wf (af st (.cells p.cells 0)):=bt hw;have Ck:=Grew.af hw (.cells p.cells 0);have c9:(af st (.cells p.cells 0)).heap.get st.next=some (.cells p.cells 0):=aE _ _;have A:=NK hc p.tz p.ts hp.ok _ bM;have B:=hR.2 _ bM;have D:=Kg hc p.tz p.ts hp.ts _ bM;have L:∀k1 k2,e8 c 101 k1 k2 101 [.ptr st.next 0,.int .i64 0] (af st (.cells p.cells 0))=if jC p.cs=true then k2 [.ptr st.next 0] (af st (.cells p.cells 0))else k1 [.int .i64 0,.int .i64 44] (af st (.cells p.cells 0)):=
   λk1 k2=>PE (c:=c) p hp st.next 101 (af st (.cells p.cells 0)) c9 k1 k2 100 0 (by have:=hp.cs;omega) (by omega)
 have wE:=λ(K:AV->Option (AV×St))=>Ao K (p:=st.next) (o:=1) (h:=(af st (.cells p.cells 0)).heap) (h2:=(af st (.cells p.cells 0)).heap) (v:=aX p.gz p.gs) (by rw[c9];rfl) (by rw[c9];rfl) (uq (F7 _ _))
 rw[CQ hc 101 (r:=(.tuple [.int .i64 (eY p).1,.int .i64 (eY p).2],af st (.cells p.cells 0))),aA (Plain.tuple (by simp[Plain.int])) Ck.keeps];rw[Fy];unfold eY;by_cases h1:(bf p.ts).2=0
 . by_cases h2:(bB p.gs p.ys).2=0
   . by_cases h3:p.cs.length=0
     .  have h4:p.cs=[]:=(by simpa using h3);have L1:jC p.cs=true:=(by rw[h4];rfl);simp only[L1,Ze5]at L;by_cases h6:bK p.ts<p.gs.length
        .simp[fR,h1,h2,h3,A,B,D,c9,L1,L,wE,h6]
        .simp[fR,h1,h2,h3,A,B,D,c9,L1,L,wE,h6]
     .  by_cases h4:p.cs.length=p.gs.length
        . cases h5:jC p.cs with
          | false=>
            simp only[h5,Zd3,Zd5]at L;have h7:0<p.cs.length:=(by omega);have h8:0<p.gs.length:=(by omega);have h9:¬p.gs=[]:=(by intro e;rw[e]at h8;simp at h8);have GN:¬p.cs=[]:=(by intro e;rw[e]at h7;simp at h7);simp[fR,h1,h2,h3,h4,h5,h7,h8,h9,GN,A,B,c9,L]
          | true=>
            simp only[h5,Ze5]at L;have h7:0<p.cs.length:=(by omega);have h8:0<p.gs.length:=(by omega);have h9:¬p.gs=[]:=(by intro e;rw[e]at h8;simp at h8);have GN:¬p.cs=[]:=(by intro e;rw[e]at h7;simp at h7);by_cases h6:bK p.ts<p.gs.length
            .simp[fR,h1,h2,h3,h4,h5,h7,h8,h9,GN,A,B,D,c9,L,wE,h6]
            .simp[fR,h1,h2,h3,h4,h5,h7,h8,h9,GN,A,B,D,c9,L,wE,h6]
        .have h7:0<p.cs.length:=(by omega);have h4i:¬((p.cs.length:Int)=(p.gs.length:Int)):=(by omega);have GN:¬p.cs=[]:=(by intro e;rw[e]at h7;simp at h7);simp[fR,h1,h2,h3,h4,h4i,h7,GN,A,B,c9]
   .simp[fR,h1,h2,A,B,c9]
 .simp[h1,A,c9]
theorem XB(z:Bool)(rs:List (List AV))(hl:rs.length<cw)(cU:∀cs∈rs,cs.length=9)(g:Nat)(v:List AV)(P:Nat->Bool)(st:St)(F:Nat)(k1 k2)
  (hP:∀i (h:i<rs.length),c g (.agg rs[i]::v) st=some (.bool (P i),st)):∀(m k:Nat),rs.length<=k+m->k<=rs.length->
  bH c F k1 k2 (m+1) [ro 9 z rs,.func g [] v,.int .i64 (rs.length:Int),.int .i64 (k:Int)] st=if 0<=scan P (rs.length - k) k then k1 [.int .i64 (scan P (rs.length - k) k)] st else k2 [] st:=by
 intro m;induction m with
 |zero=>
  intro k h1 h2;obtain rfl:k=rs.length:=by omega
  rw[gR];simp[scan]
 |succ m ih=>
  intro k h1 h2;rw[gR];by_cases h:k<rs.length
  . have e:rs.length - k=(rs.length - (k+1))+1:=(by omega);have w:aB .i64 ((k:Int)+1)=((k+1:Nat):Int):=wrap64 (by omega) (by unfold cw at hl;omega);have hcut:cut rs[k] 0 9=some rs[k]:=bV (cU _ (Zc4 h));have hp:=hP k h;rw[e,scan];cases hb:P k
    .   simp only[Zd3,Zd5];rw[<-ih (k+1) (by omega) (by omega)];simp[h,hcut,hp,hb,w]
    .   simp[h,hcut,hp,hb]
  .obtain rfl:k=rs.length:=(by omega);simp[scan]
theorem aaR(hc:Sem c)(z:Bool)(rs:List (List AV))(hl:rs.length<cw)(cU:∀cs∈rs,cs.length=9)(g:Nat)(v:List AV)(P:Nat->Bool)(st:St)
   (hP:∀i (h:i<rs.length),c g (.agg rs[i]::v) st=some (.bool (P i),st)):c 213 [ro 9 z rs,.func g [] v] st=some (.int .i64 (scan P rs.length 0),st):=by
 rw[n6 hc (rs.length+1) (r:=(.int .i64 (scan P rs.length 0),st)),aA (Plain.int _ _) (aV.refl st)];rw[o6];have L:∀k1 k2,bH c (rs.length+1) k1 k2 (rs.length+1) [ro 9 z rs,.func g [] v,.int .i64 (rs.length:Int),.int .i64 0] st=if 0<=scan P (rs.length - 0) 0 then k1 [.int .i64 (scan P (rs.length - 0) 0)] st else k2 [] st:=
   λk1 k2=>XB z rs hl cU g v P st _ k1 k2 hP rs.length 0 (by omega) (by omega)
 rw[Zk9]at L;by_cases h:0<=scan P rs.length 0
 .simp[L,h]
 .have:=(D9 P rs.length 0).2 (by omega);simp[L,this]
theorem aaS(hc:Sem c)(g:aG)(s:List Nat)(p:Pos)(st:St)(hw:Wf st)(hp:st.heap.get p=some (.cells [.str s] 0)):c 214 [.agg g.cells,.ptr p 0] st=some (.bool (decide (g.name=s)),st):=by
 rw[NB hc 1 (r:=(.bool (decide (g.name=s)),af st (.cells g.cells 0))),aA (Plain.bool _) (aZ hw)];rw[RO];have:(af st (.cells g.cells 0)).heap.get p=some (.cells [.str s] 0):=aZ hw _ _ hp;simp[this]
theorem abD(hc:Sem c)(p:aR)(hp:p.iO)(s:List Nat)(st:St)(hw:Wf st):c 170 [.agg p.cells,.str s] st=some (.int .i64 (scan (fW p.gs s) p.gs.length 0),st):=by
 have bM:Wf (af st (.cells p.cells 0)):=bt hw;have eB:=bt (b:= .cells [.str s] 0) bM;have hg:=(Grew.af hw (.cells p.cells 0)).trans (Grew.af bM (.cells [.str s] 0));have c9:(af (af st (.cells p.cells 0)) (.cells [.str s] 0)).heap.get st.next=some (.cells p.cells 0):=by have:=aE st (.cells p.cells 0);exact(Grew.af bM (.cells [.str s] 0)).get this
 have hi:=aaR hc p.gz (p.gs.map aG.cells) (by have:=hp.gs;simp;unfold cw;omega) (λcs eR=>by
   simp only[Zf1]at eR;obtain⟨t,_,rfl⟩:=eR;rfl) 214 [.ptr (af st (.cells p.cells 0)).next 0] (fW p.gs s) (af (af st (.cells p.cells 0)) (.cells [.str s] 0)) (λi hi=>by
   have Xl:i<p.gs.length:=(by simpa using hi);have:=aaS hc p.gs[i] s (af st (.cells p.cells 0)).next _ eB (aE _ _);simp only[Zm0];rw[this];simp[fW,Xl])
 rw[Zd1]at hi;rw[RS hc 1 (r:=(.int .i64 (scan (fW p.gs s) p.gs.length 0),af (af st (.cells p.cells 0)) (.cells [.str s] 0))),aA (Plain.int _ _) hg.keeps];rw[Vx];have e:(AV.str s).cells=[.str s]:=rfl;simp[e,hi,c9,aX]
structure Kd where
 w:List Nat
 a:Int
 b:Bool
 t:Int
 n:Bool
 lo:Int
 pn:Bool
 f:AV
def Kd.cells(k:Kd):List AV:=[.str k.w,.int .u8 k.a,.bool k.b,.int .u8 k.t,.bool k.n,.int .i64 k.lo,.bool k.pn,k.f]
@[simp] theorem Kd.c0(t:Kd):t.cells[0]? =some (.str t.w):=id rfl
@[simp] theorem Kd.c1(t:Kd):t.cells[1]? =some (.int .u8 t.a):=id rfl
@[simp] theorem Kd.c2(t:Kd):t.cells[2]? =some (.bool t.b):=id rfl
@[simp] theorem Kd.c3(t:Kd):t.cells[3]? =some (.int .u8 t.t):=id rfl
@[simp] theorem Kd.c4(t:Kd):t.cells[4]? =some (.bool t.n):=id rfl
@[simp] theorem Kd.c5(t:Kd):t.cells[5]? =some (.int .i64 t.lo):=id rfl
@[simp] theorem Kd.c6(t:Kd):t.cells[6]? =some (.bool t.pn):=id rfl
@[simp] theorem Kd.cc(t:Kd):cut t.cells 0 8=some t.cells:=bV rfl
def ym(k:Kd)(r:Rl):Bool:=(decide (k.a≠0)||decide (r.a=[]))&&(k.b||decide (r.b=[]))&&(decide (k.t≠0)||decide (r.t=[]))&&(k.n||decide (r.n=0))
theorem Zo (hc:Sem c)(k:Kd)(r:Rl)(st:St)(hw:Wf st):c 169 [.agg k.cells,.agg r.cells] st=some (.bool (ym k r),st):=by
 have bM:Wf (af st (.cells k.cells 0)):=bt hw;have uu:=Grew.af bM (.cells r.cells 0);have hg:=(Grew.af hw (.cells k.cells 0)).trans uu;have p1:=uu.get (aE st (.cells k.cells 0));have p2:=aE (af st (.cells k.cells 0)) (.cells r.cells 0);rw[GZ hc 1 (r:=(.bool (ym k r),af (af st (.cells k.cells 0)) (.cells r.cells 0))),aA (Plain.bool _) hg.keeps];rw[Jv];unfold ym;by_cases h0:k.a=0;rotate_left
 . cases  h2:k.b with
   |true=>
    by_cases h4:k.t=0;rotate_left
    .   cases h6:k.n with
        | true=>
          simp[h0,h2,h4,h6]
        | false=>
          by_cases h7:r.n=0
          .simp[h0,h2,h4,h6,h7]
          .simp[h0,h2,h4,h6,h7]
    by_cases h5:r.t=[]
    .   cases h6:k.n with
        | true=>
          simp[h0,h2,h4,h5,h6]
        | false=>
          by_cases h7:r.n=0
          .simp[h0,h2,h4,h5,h6,h7]
          .simp[h0,h2,h4,h5,h6,h7]
    .   simp[h0,h2,h4,h5]
   |false   =>
    by_cases h3:r.b=[]
    .   by_cases h4:k.t=0;rotate_left
        . cases h6:k.n with
          | true=>
            simp[h0,h2,h3,h4,h6]
          | false=>
            by_cases h7:r.n=0
            .simp[h0,h2,h3,h4,h6,h7]
            .simp[h0,h2,h3,h4,h6,h7]
        by_cases h5:r.t=[]
        . cases h6:k.n with
          | true=>
            simp[h0,h2,h3,h4,h5,h6]
          | false=>
            by_cases h7:r.n=0
            .simp[h0,h2,h3,h4,h5,h6,h7]
            .simp[h0,h2,h3,h4,h5,h6,h7]
        .simp[h0,h2,h3,h4,h5]
    .   simp[h0,h2,h3]
 by_cases h1:r.a=[]
 . cases  h2:k.b with
   |true=>
    by_cases h4:k.t=0;rotate_left
    .   cases h6:k.n with
        | true=>
          simp[h0,h1,h2,h4,h6]
        | false=>
          by_cases h7:r.n=0
          .simp[h0,h1,h2,h4,h6,h7]
          .simp[h0,h1,h2,h4,h6,h7]
    by_cases h5:r.t=[]
    .   cases h6:k.n with
        | true=>
          simp[h0,h1,h2,h4,h5,h6]
        | false=>
          by_cases h7:r.n=0
          .simp[h0,h1,h2,h4,h5,h6,h7]
          .simp[h0,h1,h2,h4,h5,h6,h7]
    .   simp[h0,h1,h2,h4,h5]
   |false   =>
    by_cases h3:r.b=[]
    .   by_cases h4:k.t=0;rotate_left
        . cases h6:k.n with
          | true=>
            simp[h0,h1,h2,h3,h4,h6]
          | false=>
            by_cases h7:r.n=0
            .simp[h0,h1,h2,h3,h4,h6,h7]
            .simp[h0,h1,h2,h3,h4,h6,h7]
        by_cases h5:r.t=[]
        . cases h6:k.n with
          | true=>
            simp[h0,h1,h2,h3,h4,h5,h6]
          | false=>
            by_cases h7:r.n=0
            .simp[h0,h1,h2,h3,h4,h5,h6,h7]
            .simp[h0,h1,h2,h3,h4,h5,h6,h7]
        .simp[h0,h1,h2,h3,h4,h5]
    .   simp[h0,h1,h2,h3]
 .simp[h0,h1]
theorem uL{R:Type}(P:(List AV->St->Option R)->Prop){A:(List AV->St->Option R)->Option R}{T:List AV->St->Option R}{r:Option R}(hT:P T)(hA:∀j,P j->A j=r):vu A T=r:=hA T hT
theorem F8{R:Type}(c:ah)(K:AV->St->Option R)(st:St)(es:Nat)(z:Bool)(rs:List (List AV))(k k':IntKind)(i j:Nat)(h:i<j)(h2:j<=rs.length):
  ai c (.sliceL es true true false) [ro es z rs,.int k (i:Int),.int k' (j:Int)] st K=K (ro es false ((rs.take j).drop i)) st:=by
 have:∀H n,au.run H n (.sliceL es true true false) [ro es z rs,.int k (i:Int),.int k' (j:Int)]=some (.val (ro es false ((rs.take j).drop i))):=λH n=>by
  rw[TW (by intro e;subst e;simp at h2;omega)];have h3:i<=j:=by omega
  simp[au.run,ni,bounds,g9,dZ,dR,h3,h2,ro]
 exact aS c K this st
theorem O4(ts:List aD):∀(m k:Nat),(cS ts m k).2=0->∀i,k<=i->i<k+m->∀h:i<ts.length,qA ts[i]=0
 |0,k,_,i,h1,h2,_=>by omega
 |m +   1,k,h,i,h1,h2,hi=>by
  have hk:k<ts.length:=by omega
  rw[cS,H1 hk]at h;simp only at h;by_cases h3:qA ts[k]=0
  . rw[Za4 (by simp[h3])]at h;by_cases h4:0<=scan (gI ts ts[k].name) k 0
    .   rw[Za7 h4]at h;simp at h
    .   rw[Za4 h4]at h;by_cases e:i=k
        .subst e;exact h3
        .exact O4 ts m (k+1) h i (by omega) (by omega) hi
  .rw[Za7 h3]at h;exact absurd h h3
theorem Cl{ts:List aD}(h:(bf ts).2=0)(i:Nat)(hi:i<ts.length):qA ts[i]=0:=by
 unfold bf at h;split at h
 .simp at h
 .exact O4 ts ts.length 0 h i (by omega) (by omega) hi
theorem Cm{t:aD}(h:qA t=0):(bf [t]).2=0:=by
 simp[bf,cS,h,scan]
def gi(p:aR)(s:List Nat):Int:=scan (fW p.gs s) p.gs.length 0
def ti(p:aR)(s:List Nat):Int:=scan (gI p.ts s) p.ts.length 0
def qF(p:aR)(i:Int):Int:=match p.ts[i.toNat]? with
 |some t=>cv t
 |none=>0
def tT(k:Kd)(r:Rl)(m:Int):Int:=if k.n=true/\(r.n<k.lo\/m<r.n)then 42 else 0
def MM(k:Kd)(p:aR)(r:Rl):Int:=
 if(k.t=116/\ti p r.t<0)\/(k.t=101/\r.t≠[]/\ti p r.t<0)then 6
 else tT k r (if k.pn=true then qF p (ti p r.t) - 1 else 24)
def Sr(k:Kd)(p:aR)(r:Rl):Int:=
 if k.a=100/\dP r.a=false then 4 else if k.b=true/\r.a=r.b then 5 else MM k p r
def CX(k:Kd)(p:aR)(r:Rl):Int:=
 if k.w=[]then 40 else if r.wt<0\/1000<r.wt then 41 else if ym k r=false then 43
 else if(k.a=103/\gi p r.a<0)\/(k.a=101/\r.a≠[]/\gi p r.a<0)\/(k.b=true/\gi p r.b<0)then 6
 else Sr k p r
theorem XC (hc:Sem c)(k:Kd)(hk:k.pn=true->k.t=116)(p:aR)(hp:p.iO)(hv:(bf p.ts).2=0)(r:Rl)(st:St)(hw:Wf st):
   c 121 [.agg k.cells,.agg p.cells,.agg r.cells] st=some (.int .i64 (CX k p r),st):=by
 have bM:Wf (af st (.cells k.cells 0)):=bt hw;have eB:=bt (b:= .cells p.cells 0) bM;have XD:=Grew.af eB (.cells r.cells 0);have uu:=Grew.af bM (.cells p.cells 0);have hg:=((Grew.af hw (.cells k.cells 0)).trans uu).trans XD;have Ss:=hg.wf;have p1:=XD.get (uu.get (aE st (.cells k.cells 0)));have p2:=XD.get (aE (af st (.cells k.cells 0)) (.cells p.cells 0));have p3:=aE (af (af st (.cells k.cells 0)) (.cells p.cells 0)) (.cells r.cells 0);have A:=λs=>abD hc p hp s _ Ss
 have B:=Zo hc k r _ Ss;have D:=aaL hc p.tz p.ts hp.ok (by have:=hp.ts;unfold cw;omega) r.t _ Ss;have N:=RV hc r.a (af (af (af st (.cells k.cells 0)) (.cells p.cells 0)) (.cells r.cells 0));rw[GV hc 1 (r:=(.int .i64 (CX k p r),af (af (af st (.cells k.cells 0)) (.cells p.cells 0)) (.cells r.cells 0))),aA (Plain.int _ _) hg.keeps];rw[Jr];simp only[um,bZ,AV.cells];generalize af (af (af st (.cells k.cells 0)) (.cells p.cells 0)) (.cells r.cells 0)=s at*
 generalize (af (af st (.cells k.cells 0)) (.cells p.cells 0)).next=q3 at*
 generalize (af st (.cells k.cells 0)).next=q2 at*
 generalize st.next=q1 at*
 refine uL (P:=λj=>j [.ptr q1 0,.ptr q2 0,.ptr q3 0] s=some (.int .i64 (MM k p r),s)) ?_ ?_
 . have D2  : c 172 [tabs p.tz p.ts,.str r.t] s=some (.tuple [.int .i64 (if 0<=ti p r.t then ti p r.t else 0),.bool (decide (0<=ti p r.t))],s):=(by simp only[hv,Zn5]at D;exact D);have Gp:=FQ (P:=gI p.ts r.t) p.ts.length 0;clear D A B N hg uu XD hw bM eB;unfold MM;by_cases ht:0<=ti p r.t
   . have IU  : ¬ ti p r.t<0:=(by omega);obtain⟨i,hi⟩:∃i:Nat,ti p r.t=(i:Int):=⟨(ti p r.t).toNat,by omega⟩
     have jz:i<p.ts.length:=(by have:=(Gp ht).2.1;unfold ti at hi;rw[hi]at this;simpa using this);simp only[ht,Ze5,Zi7]at D2;by_cases h1:k.t=116
     .  simp[ p1,p2,p3,D2,h1,IU];refine uL (P:=λj=>∀m,j [.ptr q1 0,.ptr q3 0,.int .i64 m] s=some (.int .i64 (tT k r m),s)) ?_ ?_
        . intro m;unfold tT;cases hn:k.n with
          |false=>simp[p1,hn]
          | true=>
            by_cases e1:r.n<k.lo
            .simp[p1,p3,hn,e1]
            . by_cases e2:m<r.n
              .simp[p1,p3,hn,e1,e2]
              .simp[p1,p3,hn,e1,e2]
        . intro j hj;cases hs:k.pn with
          |false=>simp[p1,hs,hj]
          | true=>
            have w:aB .i64 ((i:Int)+1)=(i:Int)+1:=(by have:=hp.ts;exact wrap64 (by omega) (by omega));have cnt:=xA hc false [p.ts[i]] (λt ht=>by simp only[Zc0]at ht;subst ht;exact hp.ok _ (Zc4 jz)) s Ss;rw[Za7 (Cm (Cl hv i jz)),show bK [p.ts[i]]=cv p.ts[i]by simp[bK]]at cnt;have b:=wA p.ts[i];have w2:aB .i64 (cv p.ts[i] - 1)=cv p.ts[i] - 1:=wrap64 (by omega) (by omega);have hcut:∀K:AV->St->Option (AV×St),ai c (.sliceL 7 true true false) [tabs p.tz p.ts,.int .i64 (i:Int),.int .i64 ((i:Int)+1)] s K=K (tabs false [p.ts[i]]) s:=λK=>by
              (unfold tabs;have:=F8 c K s 7 p.tz (p.ts.map aD.cells) .i64 .i64 i (i+1) (by omega) (by rw[Zd1];omega);rw[show((i:Int)+1)=((i+1:Nat):Int)by omega,this];have e:((p.ts.map aD.cells).take (i+1)).drop i=[p.ts[i]].map aD.cells:=by rw[Zb2 (by simpa using jz),Zf2 (by simp;omega)];simp);rw[e]
            have e3:qF p (i:Int)=cv p.ts[i]:=(by simp[qF,jz]);simp[p1,p2,hs,hi,e3,w,hcut,cnt,hj,w2]
     .  by_cases h2 :k.t=101
        . by_cases h3:r.t=[]
          . simp only[h3]at D2 IU hi;simp[p1,p2,p3,D2,h1,h2,h3,IU];refine uL (P:=λj=>∀m,j [.ptr q1 0,.ptr q3 0,.int .i64 m] s=some (.int .i64 (tT k r m),s)) ?_ ?_
            . intro m;unfold tT;cases hn:k.n with
              |false=>simp[p1,hn]
              | true=>
                by_cases e1:r.n<k.lo
                .simp[p1,p3,hn,e1]
                . by_cases e2:m<r.n
                  .simp[p1,p3,hn,e1,e2]
                  .simp[p1,p3,hn,e1,e2]
            . intro j hj;cases hs:k.pn with
              |false=>simp[p1,hs,hj]
              | true=>
                have w:aB .i64 ((i:Int)+1)=(i:Int)+1:=(by have:=hp.ts;exact wrap64 (by omega) (by omega));have cnt:=xA hc false [p.ts[i]] (λt ht=>by simp only[Zc0]at ht;subst ht;exact hp.ok _ (Zc4 jz)) s Ss;rw[Za7 (Cm (Cl hv i jz)),show bK [p.ts[i]]=cv p.ts[i]by simp[bK]]at cnt;have b:=wA p.ts[i];have w2:aB .i64 (cv p.ts[i] - 1)=cv p.ts[i] - 1:=wrap64 (by omega) (by omega);have hcut:∀K:AV->St->Option (AV×St),ai c (.sliceL 7 true true false) [tabs p.tz p.ts,.int .i64 (i:Int),.int .i64 ((i:Int)+1)] s K=K (tabs false [p.ts[i]]) s:=λK=>by
                  (unfold tabs;have:=F8 c K s 7 p.tz (p.ts.map aD.cells) .i64 .i64 i (i+1) (by omega) (by rw[Zd1];omega);rw[show((i:Int)+1)=((i+1:Nat):Int)by omega,this];have e:((p.ts.map aD.cells).take (i+1)).drop i=[p.ts[i]].map aD.cells:=by rw[Zb2 (by simpa using jz),Zf2 (by simp;omega)];simp);rw[e]
                have e3:qF p (i:Int)=cv p.ts[i]:=(by simp[qF,jz]);simp[p1,p2,hs,hi,e3,w,hcut,cnt,hj,w2]
          . simp[ p1,p2,p3,D2,h1,h2,h3,IU];refine uL (P:=λj=>∀m,j [.ptr q1 0,.ptr q3 0,.int .i64 m] s=some (.int .i64 (tT k r m),s)) ?_ ?_
            . intro m;unfold tT;cases hn:k.n with
              |false=>simp[p1,hn]
              | true=>
                by_cases e1:r.n<k.lo
                .simp[p1,p3,hn,e1]
                . by_cases e2:m<r.n
                  .simp[p1,p3,hn,e1,e2]
                  .simp[p1,p3,hn,e1,e2]
            . intro j hj;cases hs:k.pn with
              |false=>simp[p1,hs,hj]
              | true=>
                have w:aB .i64 ((i:Int)+1)=(i:Int)+1:=(by have:=hp.ts;exact wrap64 (by omega) (by omega));have cnt:=xA hc false [p.ts[i]] (λt ht=>by simp only[Zc0]at ht;subst ht;exact hp.ok _ (Zc4 jz)) s Ss;rw[Za7 (Cm (Cl hv i jz)),show bK [p.ts[i]]=cv p.ts[i]by simp[bK]]at cnt;have b:=wA p.ts[i];have w2:aB .i64 (cv p.ts[i] - 1)=cv p.ts[i] - 1:=wrap64 (by omega) (by omega);have hcut:∀K:AV->St->Option (AV×St),ai c (.sliceL 7 true true false) [tabs p.tz p.ts,.int .i64 (i:Int),.int .i64 ((i:Int)+1)] s K=K (tabs false [p.ts[i]]) s:=λK=>by
                  (unfold tabs;have:=F8 c K s 7 p.tz (p.ts.map aD.cells) .i64 .i64 i (i+1) (by omega) (by rw[Zd1];omega);rw[show((i:Int)+1)=((i+1:Nat):Int)by omega,this];have e:((p.ts.map aD.cells).take (i+1)).drop i=[p.ts[i]].map aD.cells:=by rw[Zb2 (by simpa using jz),Zf2 (by simp;omega)];simp);rw[e]
                have e3:qF p (i:Int)=cv p.ts[i]:=(by simp[qF,jz]);simp[p1,p2,hs,hi,e3,w,hcut,cnt,hj,w2]
        . simp[ p1,p2,p3,D2,h1,h2,IU];refine uL (P:=λj=>∀m,j [.ptr q1 0,.ptr q3 0,.int .i64 m] s=some (.int .i64 (tT k r m),s)) ?_ ?_
          . intro m;unfold tT;cases hn:k.n with
            |false=>simp[p1,hn]
            | true=>
              by_cases e1:r.n<k.lo
              .simp[p1,p3,hn,e1]
              . by_cases e2:m<r.n
                .simp[p1,p3,hn,e1,e2]
                .simp[p1,p3,hn,e1,e2]
          . intro j hj;cases hs:k.pn with
            |false=>simp[p1,hs,hj]
            | true=>
              have w:aB .i64 ((i:Int)+1)=(i:Int)+1:=(by have:=hp.ts;exact wrap64 (by omega) (by omega));have cnt:=xA hc false [p.ts[i]] (λt ht=>by simp only[Zc0]at ht;subst ht;exact hp.ok _ (Zc4 jz)) s Ss;rw[Za7 (Cm (Cl hv i jz)),show bK [p.ts[i]]=cv p.ts[i]by simp[bK]]at cnt;have b:=wA p.ts[i];have w2:aB .i64 (cv p.ts[i] - 1)=cv p.ts[i] - 1:=wrap64 (by omega) (by omega);have hcut:∀K:AV->St->Option (AV×St),ai c (.sliceL 7 true true false) [tabs p.tz p.ts,.int .i64 (i:Int),.int .i64 ((i:Int)+1)] s K=K (tabs false [p.ts[i]]) s:=λK=>by
                (unfold tabs;have:=F8 c K s 7 p.tz (p.ts.map aD.cells) .i64 .i64 i (i+1) (by omega) (by rw[Zd1];omega);rw[show((i:Int)+1)=((i+1:Nat):Int)by omega,this];have e:((p.ts.map aD.cells).take (i+1)).drop i=[p.ts[i]].map aD.cells:=by rw[Zb2 (by simpa using jz),Zf2 (by simp;omega)];simp);rw[e]
              have e3:qF p (i:Int)=cv p.ts[i]:=(by simp[qF,jz]);simp[p1,p2,hs,hi,e3,w,hcut,cnt,hj,w2]
   . have IU  : ti p r.t<0:=(by omega);simp only[ht,Zd5,Zn7]at D2;by_cases h1:k.t=116
     .  simp[p1,p2,p3,D2,h1,IU]
     .  by_cases h2:k.t=101
        . by_cases h3:r.t=[]
          . simp only[h3]at D2 IU;simp[p1,p2,p3,D2,h1,h2,h3,IU];refine uL (P:=λj=>∀m,j [.ptr q1 0,.ptr q3 0,.int .i64 m] s=some (.int .i64 (tT k r m),s)) ?_ ?_
            . intro m;unfold tT;cases hn:k.n with
              |false=>simp[p1,hn]
              | true=>
                by_cases e1:r.n<k.lo
                .simp[p1,p3,hn,e1]
                . by_cases e2:m<r.n
                  .simp[p1,p3,hn,e1,e2]
                  .simp[p1,p3,hn,e1,e2]
            . intro j hj;have hs:k.pn=false:=by
                cases h:k.pn with
                |false=>rfl
                |true=>exact absurd (hk h) h1
              simp[p1,hs,hj]
          .simp[p1,p2,p3,D2,h1,h2,h3,IU]
        . simp[ p1,p2,p3,D2,h1,h2,IU];refine uL (P:=λj=>∀m,j [.ptr q1 0,.ptr q3 0,.int .i64 m] s=some (.int .i64 (tT k r m),s)) ?_ ?_
          . intro m;unfold tT;cases hn:k.n with
            |false=>simp[p1,hn]
            | true=>
              by_cases e1:r.n<k.lo
              .simp[p1,p3,hn,e1]
              . by_cases e2:m<r.n
                .simp[p1,p3,hn,e1,e2]
                .simp[p1,p3,hn,e1,e2]
          . intro j hj;have hs:k.pn=false:=by
              cases h:k.pn with
              |false=>rfl
              |true=>exact absurd (hk h) h1
            simp[p1,hs,hj]
 . intro  j hj;have A2:∀nm,c 170 [.agg p.cells,.str nm] s=some (.int .i64 (gi p nm),s):=A;have cc:cut r.cells 0 6=some r.cells:=bV rfl;clear A D hg uu XD hw bM eB;unfold CX;by_cases h0:k.w=[]
   .simp[p1,h0]
   by_cases h1:r.wt<0
   .simp[p1,p3,h0,h1]
   by_cases h2:1000<r.wt
   .simp[p1,p3,h0,h1,h2]
   cases h3:ym k r with
   |false=>simp[p1,p3,h0,h1,h2,B,h3]
   |true=>
   simp[p1,p3,h0,h1,h2,B,h3];refine uL (P:=λj'=>∀b:Bool,j' [.ptr q1 0,.ptr q2 0,.ptr q3 0,.bool b] s=some (.int .i64 (if b=true then 6 else Sr k p r),s)) ?_ ?_
   . intro  b;cases b with
     |true=>simp
     |  false =>
        unfold Sr;by_cases a1:k.a=100
        . cases a2:dP r.a with
          |false=>simp[p1,p3,a1,a2,N]
          | true=>
            cases b1:k.b with
            |false=>simp[p1,p3,a1,a2,N,b1,hj]
            | true=>
              by_cases b2:r.a=r.b
              .rw[b2]at a2 N;simp[p1,p3,a1,a2,N,b1,b2]
              .simp[p1,p3,a1,a2,N,b1,b2,hj]
        . cases b1:k.b with
          |false=>simp[p1,p3,a1,b1,hj]
          | true=>
            by_cases b2:r.a=r.b
            .simp[p1,p3,a1,b1,b2]
            .simp[p1,p3,a1,b1,b2,hj]
   . intro  j' yS;have K6:=yS true;have K0:=yS false;simp only[Ze5,Zd3,Zd5]at K6 K0;clear yS hj;by_cases a1:k.a=103
     .  by_cases g1:gi p r.a<0
        .simp[p1,p2,p3,a1,A2,g1,K6]
        . cases b1:k.b with
          |false=>simp[p1,p2,p3,a1,A2,g1,b1,K0]
          | true=>
            by_cases g2:gi p r.b<0
            .simp[p1,p2,p3,a1,A2,g1,g2,b1,K6]
            .simp[p1,p2,p3,a1,A2,g1,g2,b1,K0]
     .  by_cases a2:k.a=101
        . by_cases e:r.a=[]
          . cases b1:k.b with
            |false=>simp[p1,p2,p3,a1,a2,e,A2,b1,K0]
            | true=>
              by_cases g2:gi p r.b<0
              .simp[p1,p2,p3,a1,a2,e,A2,g2,b1,K6]
              .simp[p1,p2,p3,a1,a2,e,A2,g2,b1,K0]
          . by_cases g1:gi p r.a<0
            .simp[p1,p2,p3,a1,a2,e,A2,g1,K6]
            . cases b1:k.b with
              |false=>simp[p1,p2,p3,a1,a2,e,A2,g1,b1,K0]
              | true=>
                by_cases g2:gi p r.b<0
                .simp[p1,p2,p3,a1,a2,e,A2,g1,g2,b1,K6]
                .simp[p1,p2,p3,a1,a2,e,A2,g1,g2,b1,K0]
        . cases b1:k.b with
          |false=>simp[p1,p2,p3,a1,a2,A2,b1,K0]
          | true=>
            by_cases g2:gi p r.b<0
            .simp[p1,p2,p3,a1,a2,A2,g2,b1,K6]
            .simp[p1,p2,p3,a1,a2,A2,g2,b1,K0]
def kd:Nat->Kd
 |1=>⟨[97,112,97,114,116],103,true,0,true,0,false,.func 151 [] []⟩
 |2=>⟨[98,101,115,105,100,101],103,true,0,false,0,false,.func 152 [] []⟩
 |3=>⟨[97,99,114,111,115,115],103,true,0,false,0,false,.func 153 [] []⟩
 |4=>⟨[110,101,97,114],103,true,0,true,1,false,.func 154 [] []⟩
 |5=>⟨[116,111,103,101,116,104,101,114],103,true,0,false,0,false,.func 155 [] []⟩
 |6=>⟨[97,116],103,false,116,false,0,false,.func 156 [] []⟩
 |7=>⟨[115,101,97,116],103,false,116,true,0,true,.func 157 [] []⟩
 |8=>⟨[97,108,116,101,114,110,97,116,101],0,false,101,false,0,false,.func 158 [] []⟩
 |9=>⟨[104,111,115,116],0,false,101,false,0,false,.func 159 [] []⟩
 |10=>⟨[114,101,97,99,104],101,false,0,false,0,false,.func 160 [] []⟩
 |11=>⟨[115,112,101,97,107],0,false,101,false,0,false,.func 161 [] []⟩
 |12=>⟨[112,101,97,99,101],0,false,101,false,0,false,.func 162 [] []⟩
 |13=>⟨[99,111,109,112,97,110,121],0,false,101,false,0,false,.func 163 [] []⟩
 |14=>⟨[104,111,110,111,117,114],0,false,101,false,0,false,.func 164 [] []⟩
 |15=>⟨[102,105,108,108],0,false,101,true,0,false,.func 165 [] []⟩
 |16=>⟨[108,105,109,105,116],0,false,101,true,0,false,.func 166 [] []⟩
 |17=>⟨[107,105,116,99,104,101,110],100,false,116,false,0,false,.func 167 [] []⟩
 |18=>⟨[109,105,120],0,false,101,false,0,false,.func 168 [] []⟩
 |_=>⟨[],0,false,0,false,0,false,.gV⟩
def O5:List (AV×AV×Nat):=[(.int .u8 1,.agg (kd 1).cells,0),(.int .u8 2,.agg (kd 2).cells,1),(.int .u8 3,.agg (kd 3).cells,2),(.int .u8 4,.agg (kd 4).cells,3),(.int .u8 5,.agg (kd 5).cells,4),(.int .u8 6,.agg (kd 6).cells,5),(.int .u8 7,.agg (kd 7).cells,6),(.int .u8 8,.agg (kd 8).cells,7),(.int .u8 9,.agg (kd 9).cells,8),(.int .u8 10,.agg (kd 10).cells,9),(.int .u8 11,.agg (kd 11).cells,10),(.int .u8 12,.agg (kd 12).cells,11),(.int .u8 13,.agg (kd 13).cells,12),(.int .u8 14,.agg (kd 14).cells,13),(.int .u8 15,.agg (kd 15).cells,14),(.int .u8 16,.agg (kd 16).cells,15),(.int .u8 17,.agg (kd 17).cells,16),(.int .u8 18,.agg (kd 18).cells,17)]
theorem PI(p:Pos):¬Plain (.map p):=λh=>by have:=h (λ_=>(⟨0,0,0⟩:Go.Ai.Loc)) (λ_=>⟨1,0,0⟩) (p.toNat+1) (p.toNat+1) (λ_=>none) _ (.map p (Nat.lt_succ_self _));cases this
theorem Zp(st:St)(p:Pos)(s':St):tidy st (.map p,s')=(.map p,s'):=by unfold tidy;rw[Za4];exact λe=>PI p e.1
theorem cC{R:Type}(c:ah)(K:AV->St->Option R)(st:St)(z:List AV)(ps:List (Nat×Nat))(xs l:List AV)(h:bP z ps xs=some l):ai c (.build z ps) xs st K=K (.agg l) st:=by rw[WY,h];rfl
theorem cD{R:Type}(c:ah)(K:AV->St->Option R)(st:St)(es:List (AV×AV×Nat))(cl:Nat)(k:IntKind)(x:Int)(v:AV)(hf:gX .i (.int k x) es 0=some none):
  ai c (.mapSet .i) [.map st.next,.int k x,v] (af st (.map es cl)) K=K .undef (af st (.map (es++[(.int k x,v,cl)]) (cl+1))):=by
 have:au.run (λb=>(af st (.map es cl)).heap.get b) (af st (.map es cl)).next (.mapSet .i) [.map st.next,.int k x,v]=some (.aC .undef none (some (st.next,.map (es++[(.int k x,v,cl)]) (cl+1))) none):=by
  simp[au.run,tZ,hf,UL]
 unfold ai bQ;rw[this];show K .undef (ei (af st (.map es cl)) st.next _)=_;rw[Ud]
theorem Zq(hc:Sem c)(s:St):c 120 [] s=some (.map s.next,af s (.map O5 18)):=by
 rw[Ny hc 1 (r:=(.map s.next,af s (.map O5 18))),Zp];rw[RL];rw[bZ,W2];rw[cC (l:=(kd 1).cells) (h:=rfl),cD (hf:=rfl)];rw[cC (l:=(kd 2).cells) (h:=rfl),cD (hf:=rfl)];rw[cC (l:=(kd 3).cells) (h:=rfl),cD (hf:=rfl)];rw[cC (l:=(kd 4).cells) (h:=rfl),cD (hf:=rfl)];rw[cC (l:=(kd 5).cells) (h:=rfl),cD (hf:=rfl)];rw[cC (l:=(kd 6).cells) (h:=rfl),cD (hf:=rfl)];rw[cC (l:=(kd 7).cells) (h:=rfl),cD (hf:=rfl)];rw[cC (l:=(kd 8).cells) (h:=rfl),cD (hf:=rfl)];rw[cC (l:=(kd 9).cells) (h:=rfl),cD (hf:=rfl)];rw[cC (l:=(kd 10).cells) (h:=rfl),cD (hf:=rfl)];rw[cC (l:=(kd 11).cells) (h:=rfl),cD (hf:=rfl)];rw[cC (l:=(kd 12).cells) (h:=rfl),cD (hf:=rfl)];rw[cC (l:=(kd 13).cells) (h:=rfl),cD (hf:=rfl)];rw[cC (l:=(kd 14).cells) (h:=rfl),cD (hf:=rfl)];rw[cC (l:=(kd 15).cells) (h:=rfl),cD (hf:=rfl)];rw[cC (l:=(kd 16).cells) (h:=rfl),cD (hf:=rfl)];rw[cC (l:=(kd 17).cells) (h:=rfl),cD (hf:=rfl)];rw[cC (l:=(kd 18).cells) (h:=rfl),cD (hf:=rfl)];rw[bZ,bZ]
 .rfl
theorem aaT{R:Type}(c:ah)(K:AV->St->Option R)(st:St)(m:Pos)(cl:Nat)(h:st.heap.get m=some (.map O5 cl))(n:Nat):
   ai c (.lookup .i (.agg [.str [],.int .u8 0,.bool false,.int .u8 0,.bool false,.int .i64 0,.bool false,.gV]) false) [.map m,.int .u8 (n:Int)] st K=K (.agg (kd n).cells) st:=by
 have e:gX .i (.int .u8 (n:Int)) O5 0=some (if 1<=n/\n<=18 then some (n - 1,.agg (kd n).cells)else none):=by
   by_cases h:n<=18
   .have:n=0\/n=1\/n=2\/n=3\/n=4\/n=5\/n=6\/n=7\/n=8\/n=9\/n=10\/n=11\/n=12\/n=13\/n=14\/n=15\/n=16\/n=17\/n=18:=(by omega);rcases this with rfl|rfl|rfl|rfl|rfl|rfl|rfl|rfl|rfl|rfl|rfl|rfl|rfl|rfl|rfl|rfl|rfl|rfl|rfl<;>rfl
   . have R7:∀j:Int,j<=18->xD (n:Int) j=false:=λj hj=>by rw[jU];simp;omega
     rw[Za4 (by omega)];simp[O5,gX,tF,R7,cB]
 have:∀z:AV,au.run (λb=>st.heap.get b) st.next (.lookup .i z false) [.map m,.int .u8 (n:Int)]=some (.val (if 1<=n/\n<=18 then .agg (kd n).cells else z)):=λz=>by
   simp only[au.run,tY,h,e];by_cases h1:1<=n/\n<=18
   .rw[Za7 h1,Za7 h1]
   .rw[Za4 h1,Za4 h1]
 unfold ai bQ;rw[this];by_cases h1:1<=n/\n<=18
 .rw[Za7 h1]
 .rw[Za4 h1];have:kd n=⟨[],0,false,0,false,0,false,.gV⟩:=(by unfold kd;split<;>first|rfl|omega);rw[this];rfl
theorem aaU(n:Nat):(kd n).pn=true->(kd n).t=116:=by unfold kd;split<;>simp
def Rl.Ok(r:Rl):Prop:=0<=r.k/\r.k<256
def tB(p:aR)(r:Rl):Int:=CX (kd r.k.toNat) p r
def dX(p:aR):Nat->Nat->Int×Int
 |0,_=>(0,0)
 |  m+1,i=>match p.rs[i]? with
    |none=>(0,0)
    |some r=>if tB p r≠0 then((i:Int),tB p r)else if i=64 then((i:Int),7)else dX p m (i+1)
theorem CY(p:aR):∀(m i:Nat),(dX p m i).2=0->(dX p m i).1=0
 |0,_,_=>rfl
 |m+    1,i,h=>by
  rw[dX]at h ⊢;cases h0:p.rs[i]? with
  |none=>rfl
  |some r=>
   rw[h0]at h;simp only at h ⊢;by_cases h1:tB p r=0
   .    rw[Za4 (by simp[h1])]at h ⊢;by_cases h2:i=64
        .rw[Za7 h2]at h;simp at h
        .rw[Za4 h2]at h ⊢; exact CY p m (i+1) h
   .    rw[Za7 h1]at h;exact absurd h h1
def bX(p:aR):Int×Int:=if(eY p).2≠0 then eY p else dX p 100 0
theorem VG(hc:Sem c)(p:aR)(hp:p.iO)(hr:∀r∈p.rs,r.Ok)(hv:(bf p.ts).2=0)(q1 mp:Pos)(cl:Nat)(F:Nat)(k1 k2):∀(m k:Nat)(st:St),Wf st->st.heap.get q1=some (.cells p.cells 0)->st.heap.get mp=some (.map O5 cl)->p.rs.length<=k+m->k<=p.rs.length->
  ∃st',Grew st st'/\oF c F k1 k2 (m+1) [.ptr q1 0,.map mp,gJ p.rz p.rs,.int .i64 (p.rs.length:Int),.int .i64 (k:Int)] st=if(dX p m k).2=0 then k2 [] st' else k1 [.int .i64 (dX p m k).1,.int .i64 (dX p m k).2] st':=by
 have hl:=hp.rs;intro m;induction m with
 |zero=>
  intro k st hw h1 h2 h3 h4;obtain rfl:k=p.rs.length:=by omega
  refine⟨st,Grew.refl hw,?_⟩;rw[vK];simp[dX]
 |succ m ih=>
  intro k st hw hq hm h3 h4;by_cases h:k<p.rs.length
  . have w:aB .i64 ((k:Int)+1)=((k+1:Nat):Int):=wrap64 (by omega) (by omega);have bM:Wf (af st (.cells p.rs[k].cells 0)):=bt hw;have hg:=Grew.af hw (.cells p.rs[k].cells 0);have hq1:=hg.get hq;have iq:=hg.get hm;have hn:=aE st (.cells p.rs[k].cells 0);obtain⟨n,hk⟩:∃n:Nat,p.rs[k].k=(n:Int):=⟨p.rs[k].k.toNat,by have:=(hr _ (Zc4 h)).1;omega⟩
    have Hp:=XC hc (kd n) (aaU n) p hp hv p.rs[k] _ bM;have hS:tB p p.rs[k]=CX (kd n) p p.rs[k]:=(by unfold tB;rw[hk];rfl);have E5:=λ(K:AV->St->Option (AV×St))=>aaT c K _ mp cl iq n
    have nu:=λ(K:AV->St->Option (AV×St))=>iz c K st 6 (.agg p.rs[k].cells) [.int .u8 0,.int .i64 0,.str [],.str [],.str [],.int .i64 0] rfl rfl (Rl.one _)
    rw[show(AV.agg p.rs[k].cells).cells=p.rs[k].cells from rfl]at nu;rw[<-hS]at Hp;rw[<-hk]at E5;obtain⟨st',g1,g2⟩:=ih (k+1) _ bM hq1 iq (by omega) (by omega);rw[vK,dX,H1 h];simp only;by_cases h5:tB p p.rs[k]=0
    .   rw[Za4 (by simp[h5])];by_cases h6:k=64
        .refine⟨_,hg,?_⟩;rw[Za7 h6];have Su:decide ((k:Int)=64)=true:=(by simp only[Zc2];omega);simp[-iz,nu,gJ,h,hq1,iq,E5,Hp,h5,Su]
        .refine⟨st',hg.trans g1,?_⟩;rw[Za4 h6, <-g2];have Su:¬(k:Int)=64:=(by omega);simp[-iz,nu,gJ,h,hq1,iq,E5,Hp,h5,Su,w]
    .   refine⟨_,hg,?_⟩;rw[Za7 h5];simp[-iz,nu,gJ,h,hq1,iq,E5,Hp,h5]
  .obtain rfl:k=p.rs.length:=(by omega);refine⟨st,Grew.refl hw,?_⟩;rw[vK];simp[dX]
theorem Kh{p:aR}(h:(eY p).2=0):(bf p.ts).2=0:=by
 unfold eY at h;by_cases h1:(bf p.ts).2=0
 .exact h1
 .rw[Za7 h1]at h;exact absurd h h1
theorem PJ(hc:Sem c)(p:aR)(hp:p.iO)(hR:IQ c p)(hr:∀r∈p.rs,r.Ok)(st:St)(hw:Wf st):c 77 [.agg p.cells] st=some (.tuple [.int .i64 (bX p).1,.int .i64 (bX p).2],st):=by
 have mo:Plain (.tuple [.int .i64 (bX p).1,.int .i64 (bX p).2]):=Plain.tuple (by simp[Plain.int]);have bM:Wf (af st (.cells p.cells 0)):=bt hw;have Ck:=Grew.af hw (.cells p.cells 0);have c9:(af st (.cells p.cells 0)).heap.get st.next=some (.cells p.cells 0):=aE _ _;have B:=Zn hc p hp hR _ bM;by_cases h:(eY p).2=0
 . have hv:=Kh h;have K:=Zq hc (af st (.cells p.cells 0));have eB:Wf (af (af st (.cells p.cells 0)) (.map O5 18)):=bt bM;have uu:=Grew.af bM (.map O5 18);obtain⟨st',g1,g2⟩:=VG hc p hp hr hv st.next (af st (.cells p.cells 0)).next 18 101 (λvs s50=>dO vs λx2 vs=>dO vs λx3 vs=>fG vs (
   some (.tuple [x2,x3],s50))) (λvs s51=>fG vs (
   ai c .move [(.int .i64 0)] s51 λx2 s52=>
 ai c .move [(.int .i64 0)] s52 λx3 s53=>
 some (.tuple [x2,x3],s53))) 100 0 _ eB (uu.get c9) (aE _ _) (by have:=hp.rs;omega) (by omega)
   have e:bX p=dX p 100 0:=(by unfold bX;rw[Za4 (by simp[h])]);have e0:=Tm h;rw[D4 hc 101 (r:=(.tuple [.int .i64 (bX p).1,.int .i64 (bX p).2],st')),aA mo ((Ck.trans uu).trans g1).keeps];rw[Ih,e];simp at g2;simp[c9,B,h,K,g2];by_cases h2:(dX p 100 0).2=0
   .have:=CY p 100 0 h2;simp[h2,this]
   .simp[h2]
 .have e:bX p=eY p:=(by unfold bX;rw[Za7 h]);rw[D4 hc 101 (r:=(.tuple [.int .i64 (bX p).1,.int .i64 (bX p).2],af st (.cells p.cells 0))),aA mo Ck.keeps];rw[Ih,e];simp[c9,B,h]
def ji(k:Int):Bool:=decide (k=1)||decide (k=2)||decide (k=3)||decide (k=4)||decide (k=5)
theorem Ed(hc:Sem c)(k:Int)(st:St):c 139 [.int .u8 k] st=some (.bool (ji k),st):=by
 rw[FL hc 1 (r:=(.bool (ji k),st)),aA (Plain.bool _) (aV.refl st)];rw[Is];unfold ji;by_cases e0:k=1
 .simp[e0]
 by_cases e1:k=2
 .simp[e0,e1]
 by_cases e2:k=3
 .simp[e0,e1,e2]
 by_cases e3:k=4
 .simp[e0,e1,e2,e3]
 by_cases e4:k=5
 .simp[e0,e1,e2,e3,e4]
 simp[e0,e1,e2,e3,e4]
def sk(k:Int):Bool:=decide (k=6)||decide (k=7)||decide (k=10)
theorem XE(hc:Sem c)(k:Int)(st:St):c 140 [.int .u8 k] st=some (.bool (sk k),st):=by
 rw[FM hc 1 (r:=(.bool (sk k),st)),aA (Plain.bool _) (aV.refl st)];rw[It];unfold sk;by_cases e0:k=6
 .simp[e0]
 by_cases e1:k=7
 .simp[e0,e1]
 by_cases e2:k=10
 .simp[e0,e1,e2]
 simp[e0,e1,e2]
def IV(k:Int):Bool:=decide (k=1)||decide (k=4)||decide (k=7)||decide (k=15)||decide (k=16)
theorem O6(hc:Sem c)(k:Int)(st:St):c 142 [.int .u8 k] st=some (.bool (IV k),st):=by
 rw[Bm hc 1 (r:=(.bool (IV k),st)),aA (Plain.bool _) (aV.refl st)];rw[DT];unfold IV;by_cases e0:k=1
 .simp[e0]
 by_cases e1:k=4
 .simp[e0,e1]
 by_cases e2:k=7
 .simp[e0,e1,e2]
 by_cases e3:k=15
 .simp[e0,e1,e2,e3]
 by_cases e4:k=16
 .simp[e0,e1,e2,e3,e4]
 simp[e0,e1,e2,e3,e4]
def oa(k:Int):Int:=if ji k=true\/k=10 then 0 else if k=6\/k=7\/k=17 then 1 else 2
theorem O7(hc:Sem c)(k:Int)(st:St):c 141 [.int .u8 k] st=some (.int .i64 (oa k),st):=by
 rw[Bl hc 1 (r:=(.int .i64 (oa k),st)),aA (Plain.int _ _) (aV.refl st)];rw[DS];have t:=Ed hc k st;unfold oa;cases h:ji k with
 |true=>simp[t,h]
 |false=>
  by_cases e1:k=10
  .rw[e1]at t h;simp[t,h,e1]
  by_cases e2:k=6
  .rw[e2]at t h;simp[t,h,e2]
  by_cases e3:k=7
  .rw[e3]at t h;simp[t,h,e3]
  by_cases e4:k=17
  .rw[e4]at t h;simp[t,h,e4]
  simp[t,h,e1,e2,e3,e4]
def wl:List AV:=(List.range 19).map λi=>.str (kd i).w
theorem Sv{R:Type}(c:ah)(K:AV->St->Option R)(st:St)(es len:Nat)(z:List AV)(ps:List Nat)(xs l:List AV)(h:bP (bD z len) (ps.map λi=>(i*es,es)) xs=some l):
  ai c (.buildSlice es len z ps) xs st K=K (.slice st.next 0 len (some len) es) (af st (.cells l 0)):=by
 rw[cM,h];rfl
theorem abE(n:Nat)(h:n<19):wl[n]? =some (.str (kd n).w):=by simp[wl,h]
theorem aaV(hc:Sem c)(n:Nat)(hn:n<256)(st:St)(hw:Wf st):c 138 [.int .u8 (n:Int)] st=some (.str (kd n).w,st):=by
 have w:aB .i64 (n:Int)=(n:Int):=wrap64 (by omega) (by omega);rw[D7 hc 1 (r:=(.str (kd n).w,af st (.cells wl 0))),aA (Plain.str _) (aZ hw)];rw[GR];rw[bZ,Sv (l:=wl) (h:=rfl)];have hlen:∀(K:AV->St->Option (AV×St))(s:St),ai c (.lenB .l) [.slice st.next 0 19 (some 19) 1] s K=K (.int .i64 19) s:=λK s=>aS c K (λH n=>rfl) s
 by_cases h:19<=n
 .have e:(kd n).w=[]:=(by unfold kd;split<;>first|rfl|omega);have hi:(19:Int)<=(n:Int):=(by omega);simp[w,h,hi,e,hlen]
 . have hi:¬(19:Int)<=(n:Int):=(by omega);have h':n<19:=(by omega);have hidx:∀(K:AV->St->Option (AV×St))(s:St),ai c (.idxA 1 none) [.slice st.next 0 19 (some 19) 1,.int .u8 (n:Int)] s K=K (.ptr st.next n) s:=λK s=>aS c K (λH m=>by
    simp[au.run,mg,g9,zw,h']) s
   simp[w,h,hi,h',abE,hlen,hidx]
theorem Sw(z:Bool)(ts:List aD)(s:List Nat)(hl:ts.length<=100)(F:Nat)(st:St)(k1 k2):∀(m k:Nat),ts.length<=k+m->k<=ts.length->
  ek c F k1 k2 (m+1) [tabs z ts,.str s,.int .i64 (k:Int)] st=if 0<=scan (gI ts s) (ts.length - k) k then k1 [.int .i64 (scan (gI ts s) (ts.length - k) k)] st else k2 [] st:=by
 intro m;induction m with
 |zero=>
  intro k h1 h2;obtain rfl:k=ts.length:=by omega
  rw[pU];simp[scan]
 |succ m ih=>
  intro k h1 h2;rw[pU];by_cases h:k<ts.length
  . have e:ts.length - k=(ts.length - (k+1))+1:=(by omega);have w:aB .i64 ((k:Int)+1)=((k+1:Nat):Int):=wrap64 (by omega) (by omega);rw[e,scan];by_cases hb:ts[k].name=s
    .   have Du:gI ts s k=true:=(by simp[gI,h,hb]);rw[Du];simp[tabs,h,hb]
    .   have Du:gI ts s k=false:=(by simp[gI,h,hb]);rw[Du];simp only[Zd3,Zd5];rw[<-ih (k+1) (by omega) (by omega)];simp[tabs,h,hb,w]
  .obtain rfl:k=ts.length:=(by omega);simp[scan]
theorem VH(hc:Sem c)(z:Bool)(ts:List aD)(s:List Nat)(hl:ts.length<=100)(st:St):c 145 [tabs z ts,.str s] st=some (.int .i64 (scan (gI ts s) ts.length 0),st):=by
 rw[AW hc 101 (r:=(.int .i64 (scan (gI ts s) ts.length 0),st)),aA (Plain.int _ _) (aV.refl st)];rw[CE];have L:∀k1 k2,ek c 101 k1 k2 101 [tabs z ts,.str s,.int .i64 0] st=if 0<=scan (gI ts s) ts.length 0 then k1 [.int .i64 (scan (gI ts s) ts.length 0)] st else k2 [] st:=
   λk1 k2=>Sw z ts s hl 101 st k1 k2 100 0 (by omega) (by omega)
 have g:=D9 (gI ts s) ts.length 0;by_cases h:0<=scan (gI ts s) ts.length 0
 .simp only[h,Ze5]at L;simp[L]
 .simp only[h,Zd5]at L;have:=g.2 (by omega);simp[L,this]
end
end Go.Proofs.YtlkadmkojjceiaaGreatDoor
