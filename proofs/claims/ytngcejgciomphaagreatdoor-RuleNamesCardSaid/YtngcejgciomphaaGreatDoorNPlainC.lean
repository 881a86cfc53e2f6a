/- Functions, plainly. -/
import Derived.Test.YtngcejgciomphaaGreatDoorNPlainA
set_option linter.all false
set_option maxRecDepth 100000
set_option maxHeartbeats 4000000
namespace Go.Proofs.YtngcejgciomphaaGreatDoor
noncomputable section
open Go Go.Ai Go.Proofs
attribute [local go_sem ↓] bl su ev XB Bv getLT y8 Lv Sa wS wT It E6 E7 E8 Bw Bx By Bz BA BB E9 Fa BC BD BE BF BG Ku Kv Kw
attribute [local go_sem] bl su ev
section
variable(c:aq)(F:Nat)(x0 x1 x2 x3 x4 x5 x6 x7 x8 x9 Fb Fc:AV)(s:St)
def JC:Sh:=(sq sl (sq (sq sl (sq sl (sc (sq sl sl) sl))) (sq sl (sq sl (sq sl (sq (sq sl (sb (sp 0 [7,8,9,38,39,40] [(2,[9])] (sq sl (sq (sc sl sl) (sj [7,8,9,38,39,40] (sb (sq sl (sq sl (sj [7,8,9,10,12,38,39,40] (sq sl (sb (sj [7,8,9,10,11,38,39,40,46,59] (sq sl (sc sl (sq sl (sc sl (sq sl (sc sl (sq sl (sc sl sl)))))))) (sc sl (sq sl (sc sl (sq sl (sc sl (sq sl (sc sl (sq sl (sc sl (sq sl (sc sl (sq sl (sc sl sl)))))))))))))))) (sq sl (sc sl sl)))))) sl)))))) (sq sl sl)))))))
def Ts:PX 7 JC:=⟨_,by conv=>lhs;reduce⟩
def QF:PL 7 JC 0:=⟨_,by conv=>lhs;reduce⟩
def nY(k2:Q2):Nat->Q2
 |0,_,_=>none
 |n+1,vs,s=>cS c F bn (nY k2 n) [k2] QF.1 vs s
def KT(k2:Q2)(n:Nat)(vs:List AV)(s:St):=(by dsimp only[nY,QF,go_sem,Int.reduceOfNat]:nY c F k2 (n+1) vs s=_)
def JD:Un->List Q2->Nat->Q2
 |.z,[k2]=>nY c F k2
 |_,_=>λ_=>dQ
def PD:O2:=bl c F (JD c F) Ts.1 [x0,x1] s
def SK:=(by dsimp only[PD,Ts, ↓JD,go_sem,Int.reduceOfNat]:PD c F x0 x1 s=_)
def NH:Sh:=(sq sl (sq sl sl))
def NI:PX 31 NH:=⟨_,by conv=>lhs;reduce⟩
def JE:O2:=bl c F bn NI.1 [x0,x1,x2] s
def Zq:=(by dsimp only[JE,NI,go_sem,Int.reduceOfNat]:JE c F x0 x1 x2 s=_)
def mW:Sh:=(sq sl (sq sl sl))
def mX:PX 32 mW:=⟨_,by conv=>lhs;reduce⟩
def jG:O2:=bl c F bn mX.1 [x0,x1] s
def xJ:=(by dsimp only[jG,mX,go_sem,Int.reduceOfNat]:jG c F x0 x1 s=_)
def JF:Sh:=(sq sl (sq sl sl))
def JG:PX 33 JF:=⟨_,by conv=>lhs;reduce⟩
def EJ:O2:=bl c F bn JG.1 [x0,x1,x2] s
def Wp:=(by dsimp only[EJ,JG,go_sem,Int.reduceOfNat]:EJ c F x0 x1 x2 s=_)
def jS:Sh:=(sq sl (sq (sq sl (sb (sp 0 [0,1,7,8] [(1,[4]),(2,[])] (sq sl (sq (sc sl sl) (sq (sb (sq sl (sq sl (sc (sq sl sl) sl)))) sl)))))) (sq sl sl)))
def oJ:PX 76 jS:=⟨_,by conv=>lhs;reduce⟩
def nQ:PL 76 jS 0:=⟨_,by conv=>lhs;reduce⟩
def cX(k1 k2:Q2):Nat->Q2
 |0,_,_=>none
 |n+1,vs,s=>cS c F bn (cX k1 k2 n) [k1,k2] nQ.1 vs s
def mV(k1 k2:Q2)(n:Nat)(vs:List AV)(s:St):=(by dsimp only[cX,nQ,go_sem,Int.reduceOfNat,Int.reduceNegSucc]:cX c F k1 k2 (n+1) vs s=_)
def jT:Un->List Q2->Nat->Q2
 |.z,[k1,k2]=>cX c F k1 k2
 |_,_=>λ_=>dQ
def kK:O2:=bl c F (jT c F) oJ.1 [x0,x1] s
def zN:=(by dsimp only[kK,oJ, ↓jT,go_sem,Int.reduceOfNat,Int.reduceNegSucc]:kK c F x0 x1 s=_)
end
section
variable{c:aq}(hc:Sem c)(F:Nat){x0 x1 x2 x3 x4 x5 x6 x7 x8 x9 Fb Fc:AV}{s:St}{r:AV×St}
include hc
theorem Ns(h:PD c F x0 x1 s=some r):c 7 [x0,x1] s=some (tidy s r):=hc.o1 F (JD c F) JC (by kernel_rfl) (by kernel_rfl) (λ_ _ _=>by kernel_rfl) (λ_ _ _ _=>by kernel_rfl) (by kernel_rfl) h
theorem Wq(h:JE c F x0 x1 x2 s=some r):c 31 [x0,x1,x2] s=some (tidy s r):=hc.o0 F NH (by kernel_rfl) (by kernel_rfl) h
theorem vJ(h:jG c F x0 x1 s=some r):c 32 [x0,x1] s=some (tidy s r):=hc.o0 F mW (by kernel_rfl) (by kernel_rfl) h
theorem SJ(h:EJ c F x0 x1 x2 s=some r):c 33 [x0,x1,x2] s=some (tidy s r):=hc.o0 F JF (by kernel_rfl) (by kernel_rfl) h
theorem yw(h:kK c F x0 x1 s=some r):c 76 [x0,x1] s=some (tidy s r):=hc.o1 F (jT c F) jS (by kernel_rfl) (by kernel_rfl) (λ_ _ _=>by kernel_rfl) (λ_ _ _ _=>by kernel_rfl) (by kernel_rfl) h
end
attribute [local go_sem ↓] bl su ev XB Bv getLT y8 Lv Sa wS wT It E6 E7 E8 Bw Bx By Bz BA BB E9 Fa BC BD BE BF BG Ku Kv Kw
attribute [local go_sem] bl su ev
section
variable(c:aq)(F:Nat)(x0 x1 x2 x3 x4 x5 x6 x7 x8 x9 Fb Fc:AV)(s:St)
def Vy:Sh:=(sq sl (sq sl sl))
def Vz:PX 8 Vy:=⟨_,by conv=>lhs;reduce⟩
def Tt:O2:=bl c F bn Vz.1 [x0] s
def Vi:=(by dsimp only[Tt,Vz,go_sem,Int.reduceOfNat]:Tt c F x0 s=_)
def NJ:Sh:=(sq sl (sq sl sl))
def NK:PX 9 NJ:=⟨_,by conv=>lhs;reduce⟩
def JH:O2:=bl c F bn NK.1 [x0] s
def Nt:=(by dsimp only[JH,NK,go_sem,Int.reduceOfNat]:JH c F x0 s=_)
def Md:Sh:=(sq sl (sq (sq sl (sq sl (sc (sq sl sl) sl))) (sq sl (sq sl (sq (sq sl (sb (sp 0 [1,4,7,22,23,24] [(2,[4,7])] (sq sl (sq (sc sl sl) (sj [1,4,7,22,23,24] (sb (sq sl (sq sl (sc sl sl)))) sl)))))) (sq sl sl))))))
def VA:PX 12 Md:=⟨_,by conv=>lhs;reduce⟩
def Tu:PL 12 Md 0:=⟨_,by conv=>lhs;reduce⟩
def yx(k2:Q2):Nat->Q2
 |0,_,_=>none
 |n+1,vs,s=>cS c F bn (yx k2 n) [k2] Tu.1 vs s
def EC(k2:Q2)(n:Nat)(vs:List AV)(s:St):=(by dsimp only[yx,Tu,go_sem,Int.reduceOfNat]:yx c F k2 (n+1) vs s=_)
def Me:Un->List Q2->Nat->Q2
 |.z,[k2]=>yx c F k2
 |_,_=>λ_=>dQ
def Tv:O2:=bl c F (Me c F) VA.1 [x0,x1] s
def Vj:=(by dsimp only[Tv,VA, ↓Me,go_sem,Int.reduceOfNat]:Tv c F x0 x1 s=_)
def F6:Sh:=(sq sl (sq (sq sl (sq sl (sc (sq sl sl) sl))) (sq sl (sq (sq sl (sb (sp 0 [1,7,18,19,20] [(2,[7])] (sq sl (sq (sc sl sl) (sj [1,7,18,19,20] (sb (sq sl (sq sl (sc sl sl)))) sl)))))) (sq sl sl)))))
def QG:PX 34 F6:=⟨_,by conv=>lhs;reduce⟩
def NL:PL 34 F6 0:=⟨_,by conv=>lhs;reduce⟩
def sW(k2:Q2):Nat->Q2
 |0,_,_=>none
 |n+1,vs,s=>cS c F bn (sW k2 n) [k2] NL.1 vs s
def A9(k2:Q2)(n:Nat)(vs:List AV)(s:St):=(by dsimp only[sW,NL,go_sem,Int.reduceOfNat]:sW c F k2 (n+1) vs s=_)
def F7:Un->List Q2->Nat->Q2
 |.z,[k2]=>sW c F k2
 |_,_=>λ_=>dQ
def Mf:O2:=bl c F (F7 c F) QG.1 [x0,x1] s
def Qe:=(by dsimp only[Mf,QG, ↓F7,go_sem,Int.reduceOfNat]:Mf c F x0 x1 s=_)
end
section
variable{c:aq}(hc:Sem c)(F:Nat){x0 x1 x2 x3 x4 x5 x6 x7 x8 x9 Fb Fc:AV}{s:St}{r:AV×St}
include hc
theorem Qf(h:Tt c F x0 s=some r):c 8 [x0] s=some (tidy s r):=hc.o0 F Vy (by kernel_rfl) (by kernel_rfl) h
theorem I7(h:JH c F x0 s=some r):c 9 [x0] s=some (tidy s r):=hc.o0 F NJ (by kernel_rfl) (by kernel_rfl) h
theorem Qg(h:Tv c F x0 x1 s=some r):c 12 [x0,x1] s=some (tidy s r):=hc.o1 F (Me c F) Md (by kernel_rfl) (by kernel_rfl) (λ_ _ _=>by kernel_rfl) (λ_ _ _ _=>by kernel_rfl) (by kernel_rfl) h
theorem KU(h:Mf c F x0 x1 s=some r):c 34 [x0,x1] s=some (tidy s r):=hc.o1 F (F7 c F) F6 (by kernel_rfl) (by kernel_rfl) (λ_ _ _=>by kernel_rfl) (λ_ _ _ _=>by kernel_rfl) (by kernel_rfl) h
end
attribute [local go_sem ↓] bl su ev XB Bv getLT y8 Lv Sa wS wT It E6 E7 E8 Bw Bx By Bz BA BB E9 Fa BC BD BE BF BG Ku Kv Kw
attribute [local go_sem] bl su ev
section
variable(c:aq)(F:Nat)(x0 x1 x2 x3 x4 x5 x6 x7 x8 x9 Fb Fc:AV)(s:St)
def F8:Sh:=(sq sl (sq (sq sl (sc (sq sl sl) sl)) (sq sl (sq sl (sq sl (sq (sq sl (sb (sp 0 [5,6,7,34,35] [(2,[5,6,7])] (sq sl (sq (sc sl sl) (sq (sb (sq sl sl)) sl)))))) (sq sl (sq sl sl))))))))
def QH:PX 36 F8:=⟨_,by conv=>lhs;reduce⟩
def NM:PL 36 F8 0:=⟨_,by conv=>lhs;reduce⟩
def sX(k2:Q2):Nat->Q2
 |0,_,_=>none
 |n+1,vs,s=>cS c F bn (sX k2 n) [k2] NM.1 vs s
def Jb(k2:Q2)(n:Nat)(vs:List AV)(s:St):=(by dsimp only[sX,NM,go_sem,Int.reduceOfNat]:sX c F k2 (n+1) vs s=_)
def F9:Un->List Q2->Nat->Q2
 |.z,[k2]=>sX c F k2
 |_,_=>λ_=>dQ
def Mg:O2:=bl c F (F9 c F) QH.1 [x0,x1] s
def aa9:=(by dsimp only[Mg,QH, ↓F9,go_sem,Int.reduceOfNat]:Mg c F x0 x1 s=_)
def qi:Sh:=sl
def qj:PX 80 qi:=⟨_,by conv=>lhs;reduce⟩
def mz:O2:=bl c F bn qj.1 [x0,x1] s
def Ck:=(by dsimp only[mz,qj,go_sem,Int.reduceOfNat]:mz c F x0 x1 s=_)
def Lb:Sh:=(sq sl (sq sl sl))
def Lc:PX 81 Lb:=⟨_,by conv=>lhs;reduce⟩
def Ga:O2:=bl c F bn Lc.1 [x0,x1,x2,x3] s
def Yf:=(by dsimp only[Ga,Lc,go_sem,Int.reduceOfNat]:Ga c F x0 x1 x2 x3 s=_)
def ij:Sh:=(sq sl (sq sl (sq (sb (sp 0 [0,1,2,6,7,8] [(2,[0,1,2,6,7])] (sq (sq sl (sc sl sl)) (sb (sq sl (sq sl sl)))))) (sq sl (sb (sp 1 [0,1,2,6] [(4,[])] (sq (sq sl (sc sl sl)) (sb (sq sl (sq (sb (sp 2 [0,1,2,6,7,8] [(6,[0,1,2,6,7])] (sq (sq sl (sc sl sl)) (sb (sq sl (sq sl sl)))))) (sj [0,1,2,6] (sq sl (sq sl (sc sl sl))) sl)))))))))))
def vL:PX 158 ij:=⟨_,by conv=>lhs;reduce⟩
def um:PL 158 ij 2:=⟨_,by conv=>lhs;reduce⟩
def gW(k6:Q2):Nat->Q2
 |0,_,_=>none
 |n+1,vs,s=>cS c F bn (gW k6 n) [k6] um.1 vs s
def DR(k6:Q2)(n:Nat)(vs:List AV)(s:St):=(by dsimp only[gW,um,go_sem,Int.reduceOfNat]:gW c F k6 (n+1) vs s=_)
def uq:Un->List Q2->Nat->Q2
 |(.s (.s .z)),[k6]=>gW c F k6
 |_,_=>λ_=>dQ
def ur:PL 158 ij 1:=⟨_,by conv=>lhs;reduce⟩
def jZ(k4:Q2):Nat->Q2
 |0,_,_=>none
 |n+1,vs,s=>cS c F (uq c F) (jZ k4 n) [k4] ur.1 vs s
def jf(k4:Q2)(n:Nat)(vs:List AV)(s:St):=(by dsimp only[jZ,ur, ↓uq,go_sem,Int.reduceOfNat]:jZ c F k4 (n+1) vs s=_)
def uu:PL 158 ij 0:=⟨_,by conv=>lhs;reduce⟩
def j0(k2:Q2):Nat->Q2
 |0,_,_=>none
 |n+1,vs,s=>cS c F bn (j0 k2 n) [k2] uu.1 vs s
def gh(k2:Q2)(n:Nat)(vs:List AV)(s:St):=(by dsimp only[j0,uu,go_sem,Int.reduceOfNat]:j0 c F k2 (n+1) vs s=_)
def n9:Un->List Q2->Nat->Q2
 |.z,[k2]=>j0 c F k2
 |(.s .z),[k4]=>jZ c F k4
 |(.s (.s .z)),[k6]=>gW c F k6
 |_,_=>λ_=>dQ
def p8:O2:=bl c F (n9 c F) vL.1 [x0,x1,x2] s
def nZ:=(by dsimp only[p8,vL, ↓n9,go_sem,Int.reduceOfNat]:p8 c F x0 x1 x2 s=_)
def gN:Sh:=(sq sl (sb (sp 0 [0,1,2,3,8] [(2,[])] (sq (sq sl (sc sl sl)) (sq (sb (sq sl (sb (sp 1 [0,1,2,3,8,9] [(4,[0,1,2,3,8])] (sq (sq sl (sc sl sl)) (sq (sb sl) sl)))))) sl)))))
def o8:PX 232 gN:=⟨_,by conv=>lhs;reduce⟩
def oK:PL 232 gN 1:=⟨_,by conv=>lhs;reduce⟩
def dx(k4:Q2):Nat->Q2
 |0,_,_=>none
 |n+1,vs,s=>cS c F bn (dx k4 n) [k4] oK.1 vs s
def jw(k4:Q2)(n:Nat)(vs:List AV)(s:St):=(by dsimp only[dx,oK,go_sem,Int.reduceOfNat]:dx c F k4 (n+1) vs s=_)
def oM:Un->List Q2->Nat->Q2
 |(.s .z),[k4]=>dx c F k4
 |_,_=>λ_=>dQ
def oN:PL 232 gN 0:=⟨_,by conv=>lhs;reduce⟩
def eF(k2:Q2):Nat->Q2
 |0,_,_=>none
 |n+1,vs,s=>cS c F (oM c F) (eF k2 n) [k2] oN.1 vs s
def jx(k2:Q2)(n:Nat)(vs:List AV)(s:St):=(by dsimp only[eF,oN, ↓oM,go_sem,Int.reduceOfNat]:eF c F k2 (n+1) vs s=_)
def ku:Un->List Q2->Nat->Q2
 |.z,[k2]=>eF c F k2
 |(.s .z),[k4]=>dx c F k4
 |_,_=>λ_=>dQ
def lu:O2:=bl c F (ku c F) o8.1 [x0,x1,x2,x3] s
def Af:=(by dsimp only[lu,o8, ↓ku,go_sem,Int.reduceOfNat]:lu c F x0 x1 x2 x3 s=_)
def dL:Sh:=(sq (sq sl (sc (sq sl (sq sl (sq (sb (sp 0 [0,1,4,10,11] [(2,[0,1,10])] (sq (sq sl (sc sl sl)) (sb (sq sl (sq sl (sc sl sl))))))) (sq (sq sl (sb (sp 1 [0,10,13] [(4,[])] (sq (sq sl (sc sl sl)) (sq (sb sl) sl))))) sl)))) sl)) (sq (sq sl (sc (sq sl (sq sl (sq (sb (sp 2 [0,2,4,14,15] [(6,[0,2,14])] (sq (sq sl (sc sl sl)) (sb (sq sl (sq sl (sc sl sl))))))) (sq (sq sl (sb (sp 3 [0,14,17] [(8,[])] (sq (sq sl (sc sl sl)) (sq (sb sl) sl))))) sl)))) sl)) (sq sl (sq sl (sq sl (sj [0,1,2,3,4,18,19,20,21] (sq sl (sc (sq sl sl) (sq sl sl))) (sq sl (sq (sb (sp 4 [0,1,2,3,4,18,19,20,21,22] [(10,[0,1,2,3,4,18,19,20])] (sq (sq sl (sc sl sl)) (sb (sq sl (sq sl (sc sl sl))))))) (sq sl (sj [0,1,3,4,18,20,24] (sq sl (sc sl sl)) (sj [0,3,4,18,24] (sq sl (sc sl sl)) (sq sl (sc sl sl)))))))))))))
def tK:PX 233 dL:=⟨_,by conv=>lhs;reduce⟩
def rW:PL 233 dL 4:=⟨_,by conv=>lhs;reduce⟩
def fZ(wY:Q2):Nat->Q2
 |0,_,_=>none
 |n+1,vs,s=>cS c F bn (fZ wY n) [wY] rW.1 vs s
def iw(wY:Q2)(n:Nat)(vs:List AV)(s:St):=(by dsimp only[fZ,rW,go_sem,Int.reduceOfNat]:fZ c F wY (n+1) vs s=_)
def rX:PL 233 dL 3:=⟨_,by conv=>lhs;reduce⟩
def fY(k8:Q2):Nat->Q2
 |0,_,_=>none
 |n+1,vs,s=>cS c F bn (fY k8 n) [k8] rX.1 vs s
def lq(k8:Q2)(n:Nat)(vs:List AV)(s:St):=(by dsimp only[fY,rX,go_sem,Int.reduceOfNat]:fY c F k8 (n+1) vs s=_)
def rY:PL 233 dL 2:=⟨_,by conv=>lhs;reduce⟩
def fX(k6:Q2):Nat->Q2
 |0,_,_=>none
 |n+1,vs,s=>cS c F bn (fX k6 n) [k6] rY.1 vs s
def iu(k6:Q2)(n:Nat)(vs:List AV)(s:St):=(by dsimp only[fX,rY,go_sem,Int.reduceOfNat]:fX c F k6 (n+1) vs s=_)
def rZ:PL 233 dL 1:=⟨_,by conv=>lhs;reduce⟩
def fW(k4:Q2):Nat->Q2
 |0,_,_=>none
 |n+1,vs,s=>cS c F bn (fW k4 n) [k4] rZ.1 vs s
def lg(k4:Q2)(n:Nat)(vs:List AV)(s:St):=(by dsimp only[fW,rZ,go_sem,Int.reduceOfNat]:fW c F k4 (n+1) vs s=_)
def r9:PL 233 dL 0:=⟨_,by conv=>lhs;reduce⟩
def fV(k2:Q2):Nat->Q2
 |0,_,_=>none
 |n+1,vs,s=>cS c F bn (fV k2 n) [k2] r9.1 vs s
def ir(k2:Q2)(n:Nat)(vs:List AV)(s:St):=(by dsimp only[fV,r9,go_sem,Int.reduceOfNat]:fV c F k2 (n+1) vs s=_)
def mT:Un->List Q2->Nat->Q2
 |.z,[k2]=>fV c F k2
 |(.s .z),[k4]=>fW c F k4
 |(.s (.s .z)),[k6]=>fX c F k6
 |(.s (.s (.s .z))),[k8]=>fY c F k8
 |(.s (.s (.s (.s .z)))),[wY]=>fZ c F wY
 |_,_=>λ_=>dQ
def oa:O2:=bl c F (mT c F) tK.1 [x0,x1,x2,x3,x4] s
def mQ:=(by dsimp only[oa,tK, ↓mT,go_sem,Int.reduceOfNat]:oa c F x0 x1 x2 x3 x4 s=_)
def oc:Sh:=(sq sl (sq sl (sq (sb (sp 0 [0,2,4,10,11] [(2,[0,2,4,10])] (sq (sq sl (sc sl sl)) (sb (sq sl (sc (sq sl sl) (sq sl sl))))))) sl)))
def vM:PX 264 oc:=⟨_,by conv=>lhs;reduce⟩
def uv:PL 264 oc 0:=⟨_,by conv=>lhs;reduce⟩
def gV(k2:Q2):Nat->Q2
 |0,_,_=>none
 |n+1,vs,s=>cS c F bn (gV k2 n) [k2] uv.1 vs s
def mo(k2:Q2)(n:Nat)(vs:List AV)(s:St):=(by dsimp only[gV,uv,go_sem,Int.reduceOfNat]:gV c F k2 (n+1) vs s=_)
def od:Un->List Q2->Nat->Q2
 |.z,[k2]=>gV c F k2
 |_,_=>λ_=>dQ
def qa:O2:=bl c F (od c F) vM.1 [x0,x1,x2,x3,x4] s
def FP:=(by dsimp only[qa,vM, ↓od,go_sem,Int.reduceOfNat]:qa c F x0 x1 x2 x3 x4 s=_)
def mA:Sh:=(sq sl (sb (sp 0 [0,1,2,3,10] [(2,[])] (sq (sq sl (sc sl sl)) (sq (sb sl) sl)))))
def sg:PX 272 mA:=⟨_,by conv=>lhs;reduce⟩
def qY:PL 272 mA 0:=⟨_,by conv=>lhs;reduce⟩
def fK(k2:Q2):Nat->Q2
 |0,_,_=>none
 |n+1,vs,s=>cS c F bn (fK k2 n) [k2] qY.1 vs s
def pW(k2:Q2)(n:Nat)(vs:List AV)(s:St):=(by dsimp only[fK,qY,go_sem,Int.reduceOfNat]:fK c F k2 (n+1) vs s=_)
def mB:Un->List Q2->Nat->Q2
 |.z,[k2]=>fK c F k2
 |_,_=>λ_=>dQ
def nF:O2:=bl c F (mB c F) sg.1 [x0,x1,x2,x3,x4] s
def DQ:=(by dsimp only[nF,sg, ↓mB,go_sem,Int.reduceOfNat]:nF c F x0 x1 x2 x3 x4 s=_)
end
section
variable{c:aq}(hc:Sem c)(F:Nat){x0 x1 x2 x3 x4 x5 x6 x7 x8 x9 Fb Fc:AV}{s:St}{r:AV×St}
include hc
theorem Yh(h:Mg c F x0 x1 s=some r):c 36 [x0,x1] s=some (tidy s r):=hc.o1 F (F9 c F) F8 (by kernel_rfl) (by kernel_rfl) (λ_ _ _=>by kernel_rfl) (λ_ _ _ _=>by kernel_rfl) (by kernel_rfl) h
theorem Ag(h:mz c F x0 x1 s=some r):c 80 [x0,x1] s=some (tidy s r):=hc.o0 F qi (by kernel_rfl) (by kernel_rfl) h
theorem UD(h:Ga c F x0 x1 x2 x3 s=some r):c 81 [x0,x1,x2,x3] s=some (tidy s r):=hc.o0 F Lb (by kernel_rfl) (by kernel_rfl) h
theorem mR(h:p8 c F x0 x1 x2 s=some r):c 158 [x0,x1,x2] s=some (tidy s r):=hc.oL F (n9 c F) ij 3 (by kernel_rfl) (λi hi=>match i,hi with|0,_=>cq 0 (by kernel_rfl) (λ_ _ _=>by kernel_rfl) (λ_ _ _ _=>by kernel_rfl)|1,_=>cq 1 (by kernel_rfl) (λ_ _ _=>by kernel_rfl) (λ_ _ _ _=>by kernel_rfl)|2,_=>cq 2 (by kernel_rfl) (λ_ _ _=>by kernel_rfl) (λ_ _ _ _=>by kernel_rfl)|n+3,h=>absurd h (by omega)) (by kernel_rfl) h
theorem zb(h:lu c F x0 x1 x2 x3 s=some r):c 232 [x0,x1,x2,x3] s=some (tidy s r):=hc.oL F (ku c F) gN 2 (by kernel_rfl) (λi hi=>match i,hi with|0,_=>cq 0 (by kernel_rfl) (λ_ _ _=>by kernel_rfl) (λ_ _ _ _=>by kernel_rfl)|1,_=>cq 1 (by kernel_rfl) (λ_ _ _=>by kernel_rfl) (λ_ _ _ _=>by kernel_rfl)|n+2,h=>absurd h (by omega)) (by kernel_rfl) h
theorem lY(h:oa c F x0 x1 x2 x3 x4 s=some r):c 233 [x0,x1,x2,x3,x4] s=some (tidy s r):=hc.oL F (mT c F) dL 5 (by kernel_rfl) (λi hi=>match i,hi with|0,_=>cq 0 (by kernel_rfl) (λ_ _ _=>by kernel_rfl) (λ_ _ _ _=>by kernel_rfl)|1,_=>cq 1 (by kernel_rfl) (λ_ _ _=>by kernel_rfl) (λ_ _ _ _=>by kernel_rfl)|2,_=>cq 2 (by kernel_rfl) (λ_ _ _=>by kernel_rfl) (λ_ _ _ _=>by kernel_rfl)|3,_=>cq 3 (by kernel_rfl) (λ_ _ _=>by kernel_rfl) (λ_ _ _ _=>by kernel_rfl)|4,_=>cq 4 (by kernel_rfl) (λ_ _ _=>by kernel_rfl) (λ_ _ _ _=>by kernel_rfl)|n+5,h=>absurd h (by omega)) (by kernel_rfl) h
theorem ED(h:qa c F x0 x1 x2 x3 x4 s=some r):c 264 [x0,x1,x2,x3,x4] s=some (tidy s r):=hc.o1 F (od c F) oc (by kernel_rfl) (by kernel_rfl) (λ_ _ _=>by kernel_rfl) (λ_ _ _ _=>by kernel_rfl) (by kernel_rfl) h
theorem Cj(h:nF c F x0 x1 x2 x3 x4 s=some r):c 272 [x0,x1,x2,x3,x4] s=some (tidy s r):=hc.o1 F (mB c F) mA (by kernel_rfl) (by kernel_rfl) (λ_ _ _=>by kernel_rfl) (λ_ _ _ _=>by kernel_rfl) (by kernel_rfl) h
end
attribute [local go_sem ↓] bl su ev XB Bv getLT y8 Lv Sa wS wT It E6 E7 E8 Bw Bx By Bz BA BB E9 Fa BC BD BE BF BG Ku Kv Kw
attribute [local go_sem] bl su ev
section
variable(c:aq)(F:Nat)(x0 x1 x2 x3 x4 x5 x6 x7 x8 x9 Fb Fc:AV)(s:St)
def Gb:Sh:=(sq sl (sq (sq sl (sq sl (sc (sq sl sl) sl))) (sq sl (sq (sq sl (sb (sp 0 [1,2,7,29,30,31] [(2,[7])] (sq sl (sq (sc sl sl) (sj [1,2,7,29,30,31] (sb (sq sl (sb (sq sl (sc sl (sq sl (sc sl sl))))))) sl)))))) (sq sl (sq sl sl))))))
def QI:PX 10 Gb:=⟨_,by conv=>lhs;reduce⟩
def NN:PL 10 Gb 0:=⟨_,by conv=>lhs;reduce⟩
def sZ(k2:Q2):Nat->Q2
 |0,_,_=>none
 |n+1,vs,s=>cS c F bn (sZ k2 n) [k2] NN.1 vs s
def kG(k2:Q2)(n:Nat)(vs:List AV)(s:St):=(by dsimp only[sZ,NN,go_sem,Int.reduceOfNat]:sZ c F k2 (n+1) vs s=_)
def Gc:Un->List Q2->Nat->Q2
 |.z,[k2]=>sZ c F k2
 |_,_=>λ_=>dQ
def Mh:O2:=bl c F (Gc c F) QI.1 [x0,x1] s
def Qh:=(by dsimp only[Mh,QI, ↓Gc,go_sem,Int.reduceOfNat]:Mh c F x0 x1 s=_)
end
section
variable{c:aq}(hc:Sem c)(F:Nat){x0 x1 x2 x3 x4 x5 x6 x7 x8 x9 Fb Fc:AV}{s:St}{r:AV×St}
include hc
theorem KW(h:Mh c F x0 x1 s=some r):c 10 [x0,x1] s=some (tidy s r):=hc.o1 F (Gc c F) Gb (by kernel_rfl) (by kernel_rfl) (λ_ _ _=>by kernel_rfl) (λ_ _ _ _=>by kernel_rfl) (by kernel_rfl) h
end
attribute [local go_sem ↓] bl su ev XB Bv getLT y8 Lv Sa wS wT It E6 E7 E8 Bw Bx By Bz BA BB E9 Fa BC BD BE BF BG Ku Kv Kw
attribute [local go_sem] bl su ev
section
variable(c:aq)(F:Nat)(x0 x1 x2 x3 x4 x5 x6 x7 x8 x9 Fb Fc:AV)(s:St)
def Eb:Sh:=(sq sl (sq sl (sq sl sl)))
def Ec:PX 6 Eb:=⟨_,by conv=>lhs;reduce⟩
def zV:O2:=bl c F bn Ec.1 [x0] s
def Rb:=(by dsimp only[zV,Ec,go_sem,Int.reduceOfNat]:zV c F x0 s=_)
def wB:Sh:=(sq sl (sq sl (sq (sq sl (sb (sp 0 [1,2,5,6] [(2,[5])] (sq (sq sl (sc sl sl)) (sj [1,2,5,6] (sb (sq sl (sc sl sl))) sl))))) (sq sl sl))))
def Ed:PX 15 wB:=⟨_,by conv=>lhs;reduce⟩
def DI:PL 15 wB 0:=⟨_,by conv=>lhs;reduce⟩
def lW(k2:Q2):Nat->Q2
 |0,_,_=>none
 |n+1,vs,s=>cS c F bn (lW k2 n) [k2] DI.1 vs s
def rA(k2:Q2)(n:Nat)(vs:List AV)(s:St):=(by dsimp only[lW,DI,go_sem,Int.reduceOfNat]:lW c F k2 (n+1) vs s=_)
def wD:Un->List Q2->Nat->Q2
 |.z,[k2]=>lW c F k2
 |_,_=>λ_=>dQ
def zW:O2:=bl c F (wD c F) Ed.1 [x0,x1] s
def Rc:=(by dsimp only[zW,Ed, ↓wD,go_sem,Int.reduceOfNat]:zW c F x0 x1 s=_)
def qd:Sh:=(sq sl (sq sl (sq sl (sq (sq sl (sb (sp 0 [1,2,4,5,6,7] [(2,[4,5,6])] (sq (sq sl (sc sl sl)) (sj [1,2,4,5,6,7] (sb (sq sl (sq (sq sl (sb (sp 1 [1,2,4,5,6,7,8,9] [(4,[1,2,4,5,6,7,8])] (sq (sq sl (sc sl sl)) (sq (sb sl) sl))))) (sq sl (sc sl sl))))) sl))))) (sq sl (sq sl sl))))))
def Ee:PX 16 qd:=⟨_,by conv=>lhs;reduce⟩
def DJ:PL 16 qd 1:=⟨_,by conv=>lhs;reduce⟩
def jF(k4:Q2):Nat->Q2
 |0,_,_=>none
 |n+1,vs,s=>cS c F bn (jF k4 n) [k4] DJ.1 vs s
def rC(k4:Q2)(n:Nat)(vs:List AV)(s:St):=(by dsimp only[jF,DJ,go_sem,Int.reduceOfNat]:jF c F k4 (n+1) vs s=_)
def DK:Un->List Q2->Nat->Q2
 |(.s .z),[k4]=>jF c F k4
 |_,_=>λ_=>dQ
def DM:PL 16 qd 0:=⟨_,by conv=>lhs;reduce⟩
def lX(k2:Q2):Nat->Q2
 |0,_,_=>none
 |n+1,vs,s=>cS c F (DK c F) (lX k2 n) [k2] DM.1 vs s
def rD(k2:Q2)(n:Nat)(vs:List AV)(s:St):=(by dsimp only[lX,DM, ↓DK,go_sem,Int.reduceOfNat]:lX c F k2 (n+1) vs s=_)
def wF:Un->List Q2->Nat->Q2
 |.z,[k2]=>lX c F k2
 |(.s .z),[k4]=>jF c F k4
 |_,_=>λ_=>dQ
def zX:O2:=bl c F (wF c F) Ee.1 [x0,x1] s
def Re:=(by dsimp only[zX,Ee, ↓wF,go_sem,Int.reduceOfNat]:zX c F x0 x1 s=_)
def oX:Sh:=(sq sl (sq sl (sq sl (sq (sq sl (sb (sp 0 [2,5,6,7] [(2,[6])] (sq (sq sl (sc sl sl)) (sj [2,5,6,7] (sb (sq sl (sq sl (sj [2,5,6,7,9] (sq sl (sb (sj [2,5,6,7,8,9,30,31] (sq sl (sc sl (sq sl (sc sl (sq sl (sc sl (sq sl (sc sl sl)))))))) (sc sl (sj [2,5,6,7,8,9,30,49] (sq sl (sc sl sl)) (sc sl (sq sl (sc sl (sq sl (sc sl (sq sl (sc sl (sq sl (sc sl (sj [2,5,6,7,8,9,90] (sq sl (sc sl sl)) (sc (sq sl (sq sl (sb (sp 1 [2,5,6,7,8,9,10] [(5,[2,5,6,7,9])] (sq (sq sl (sc sl sl)) (sj [2,5,6,7,8,9,10] (sb (sq sl (sq sl (sc sl sl)))) sl)))))) sl)))))))))))))))) (sq sl (sc sl sl)))))) sl))))) (sq sl sl)))))
def DN:PX 17 oX:=⟨_,by conv=>lhs;reduce⟩
def B9:PL 17 oX 1:=⟨_,by conv=>lhs;reduce⟩
def jd(k5:Q2):Nat->Q2
 |0,_,_=>none
 |n+1,vs,s=>cS c F bn (jd k5 n) [k5] B9.1 vs s
def zi(k5:Q2)(n:Nat)(vs:List AV)(s:St):=(by dsimp only[jd,B9,go_sem,Int.reduceOfNat]:jd c F k5 (n+1) vs s=_)
def Ca:Un->List Q2->Nat->Q2
 |(.s .z),[k5]=>jd c F k5
 |_,_=>λ_=>dQ
def Cb:PL 17 oX 0:=⟨_,by conv=>lhs;reduce⟩
def gJ(k2:Q2):Nat->Q2
 |0,_,_=>none
 |n+1,vs,s=>cS c F (Ca c F) (gJ k2 n) [k2] Cb.1 vs s
def zj(k2:Q2)(n:Nat)(vs:List AV)(s:St):=(by dsimp only[gJ,Cb, ↓Ca,go_sem,Int.reduceOfNat]:gJ c F k2 (n+1) vs s=_)
def vp:Un->List Q2->Nat->Q2
 |.z,[k2]=>gJ c F k2
 |(.s .z),[k5]=>jd c F k5
 |_,_=>λ_=>dQ
def yW:O2:=bl c F (vp c F) DN.1 [x0,x1] s
def Pn:=(by dsimp only[yW,DN, ↓vp,go_sem,Int.reduceOfNat]:yW c F x0 x1 s=_)
def nR:Sh:=(sq sl (sq sl (sq sl (sq (sq sl (sb (sp 0 [1,2,5,6,7] [(2,[5])] (sq (sq sl (sc sl sl)) (sj [1,2,5,6,7] (sb (sq sl (sq (sq sl (sb (sp 1 [1,2,5,6,7,8,9] [(4,[1,2,5,6,7,8])] (sq (sq sl (sc sl sl)) (sq (sb (sq sl (sq sl sl))) sl))))) (sq sl (sc sl sl))))) sl))))) (sq sl sl)))))
def Cc:PX 18 nR:=⟨_,by conv=>lhs;reduce⟩
def AK:PL 18 nR 1:=⟨_,by conv=>lhs;reduce⟩
def iz(k4:Q2):Nat->Q2
 |0,_,_=>none
 |n+1,vs,s=>cS c F bn (iz k4 n) [k4] AK.1 vs s
def yA(k4:Q2)(n:Nat)(vs:List AV)(s:St):=(by dsimp only[iz,AK,go_sem,Int.reduceOfNat]:iz c F k4 (n+1) vs s=_)
def AL:Un->List Q2->Nat->Q2
 |(.s .z),[k4]=>iz c F k4
 |_,_=>λ_=>dQ
def AM:PL 18 nR 0:=⟨_,by conv=>lhs;reduce⟩
def kq(k2:Q2):Nat->Q2
 |0,_,_=>none
 |n+1,vs,s=>cS c F (AL c F) (kq k2 n) [k2] AM.1 vs s
def pX(k2:Q2)(n:Nat)(vs:List AV)(s:St):=(by dsimp only[kq,AM, ↓AL,go_sem,Int.reduceOfNat]:kq c F k2 (n+1) vs s=_)
def tM:Un->List Q2->Nat->Q2
 |.z,[k2]=>kq c F k2
 |(.s .z),[k4]=>iz c F k4
 |_,_=>λ_=>dQ
def wG:O2:=bl c F (tM c F) Cc.1 [x0,x1] s
def Nz:=(by dsimp only[wG,Cc, ↓tM,go_sem,Int.reduceOfNat]:wG c F x0 x1 s=_)
def xH:Sh:=(sq sl (sj [1] (sq sl (sb (sq sl (sc (sq sl sl) (sq sl (sc (sq sl (sc (sq sl sl) sl)) (sq sl (sc (sq sl sl) sl)))))))) (sq sl sl)))
def xI:PX 51 xH:=⟨_,by conv=>lhs;reduce⟩
def qA:O2:=bl c F bn xI.1 [x0] s
def Hy:=(by dsimp only[qA,xI,go_sem,Int.reduceOfNat]:qA c F x0 s=_)
def tN:Sh:=(sq sl (sq (sq sl (sb (sp 0 [2,3,5] [(1,[4]),(2,[])] (sq (sq sl (sc sl sl)) (sq (sb (sq sl (sc (sq sl sl) sl))) sl))))) (sq sl sl)))
def Cd:PX 96 tN:=⟨_,by conv=>lhs;reduce⟩
def AN:PL 96 tN 0:=⟨_,by conv=>lhs;reduce⟩
def kj(k1 k2:Q2):Nat->Q2
 |0,_,_=>none
 |n+1,vs,s=>cS c F bn (kj k1 k2 n) [k1,k2] AN.1 vs s
def yy(k1 k2:Q2)(n:Nat)(vs:List AV)(s:St):=(by dsimp only[kj,AN,go_sem,Int.reduceOfNat,Int.reduceNegSucc]:kj c F k1 k2 (n+1) vs s=_)
def tO:Un->List Q2->Nat->Q2
 |.z,[k1,k2]=>kj c F k1 k2
 |_,_=>λ_=>dQ
def wH:O2:=bl c F (tO c F) Cd.1 [x0,x1] s
def Ny:=(by dsimp only[wH,Cd, ↓tO,go_sem,Int.reduceOfNat,Int.reduceNegSucc]:wH c F x0 x1 s=_)
def Ce:Sh:=(sq sl (sq (sq sl (sc (sq sl sl) sl)) (sq sl (sj [1,2,4] (sq sl (sc (sq (sq sl (sc (sq sl sl) sl)) sl) sl)) (sq (sq sl (sc (sq sl sl) sl)) (sq sl sl))))))
def Cf:PX 172 Ce:=⟨_,by conv=>lhs;reduce⟩
def wJ:O2:=bl c F bn Cf.1 [x0,x1] s
def BM:=(by dsimp only[wJ,Cf,go_sem,Int.reduceOfNat,Int.reduceNegSucc]:wJ c F x0 x1 s=_)
end
section
variable{c:aq}(hc:Sem c)(F:Nat){x0 x1 x2 x3 x4 x5 x6 x7 x8 x9 Fb Fc:AV}{s:St}{r:AV×St}
include hc
theorem Nu(h:zV c F x0 s=some r):c 6 [x0] s=some (tidy s r):=hc.o0 F Eb (by kernel_rfl) (by kernel_rfl) h
theorem Nv(h:zW c F x0 x1 s=some r):c 15 [x0,x1] s=some (tidy s r):=hc.o1 F (wD c F) wB (by kernel_rfl) (by kernel_rfl) (λ_ _ _=>by kernel_rfl) (λ_ _ _ _=>by kernel_rfl) (by kernel_rfl) h
theorem Nw(h:zX c F x0 x1 s=some r):c 16 [x0,x1] s=some (tidy s r):=hc.oL F (wF c F) qd 2 (by kernel_rfl) (λi hi=>match i,hi with|0,_=>cq 0 (by kernel_rfl) (λ_ _ _=>by kernel_rfl) (λ_ _ _ _=>by kernel_rfl)|1,_=>cq 1 (by kernel_rfl) (λ_ _ _=>by kernel_rfl) (λ_ _ _ _=>by kernel_rfl)|n+2,h=>absurd h (by omega)) (by kernel_rfl) h
theorem LV(h:yW c F x0 x1 s=some r):c 17 [x0,x1] s=some (tidy s r):=hc.oL F (vp c F) oX 2 (by kernel_rfl) (λi hi=>match i,hi with|0,_=>cq 0 (by kernel_rfl) (λ_ _ _=>by kernel_rfl) (λ_ _ _ _=>by kernel_rfl)|1,_=>cq 1 (by kernel_rfl) (λ_ _ _=>by kernel_rfl) (λ_ _ _ _=>by kernel_rfl)|n+2,h=>absurd h (by omega)) (by kernel_rfl) h
theorem JY(h:wG c F x0 x1 s=some r):c 18 [x0,x1] s=some (tidy s r):=hc.oL F (tM c F) nR 2 (by kernel_rfl) (λi hi=>match i,hi with|0,_=>cq 0 (by kernel_rfl) (λ_ _ _=>by kernel_rfl) (λ_ _ _ _=>by kernel_rfl)|1,_=>cq 1 (by kernel_rfl) (λ_ _ _=>by kernel_rfl) (λ_ _ _ _=>by kernel_rfl)|n+2,h=>absurd h (by omega)) (by kernel_rfl) h
theorem Fp(h:qA c F x0 s=some r):c 51 [x0] s=some (tidy s r):=hc.o0 F xH (by kernel_rfl) (by kernel_rfl) h
theorem JX(h:wH c F x0 x1 s=some r):c 96 [x0,x1] s=some (tidy s r):=hc.o1 F (tO c F) tN (by kernel_rfl) (by kernel_rfl) (λ_ _ _=>by kernel_rfl) (λ_ _ _ _=>by kernel_rfl) (by kernel_rfl) h
theorem zm(h:wJ c F x0 x1 s=some r):c 172 [x0,x1] s=some (tidy s r):=hc.o0 F Ce (by kernel_rfl) (by kernel_rfl) h
end
end
end Go.Proofs.YtngcejgciomphaaGreatDoor
