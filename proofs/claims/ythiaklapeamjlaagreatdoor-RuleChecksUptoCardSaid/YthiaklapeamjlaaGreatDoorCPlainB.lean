/- rule.New and what it calls, copying and comparing, as plain functions. -/
import Derived.Test.YthiaklapeamjlaaGreatDoorCPlainA
import Derived.Test.YthiaklapeamjlaaGreatDoorCEvalE
set_option linter.all false
set_option linter.unusedSectionVars false
set_option linter.deprecated false
namespace Go.Proofs.YthiaklapeamjlaaGreatDoor
noncomputable section
set_option linter.all false
set_option maxRecDepth 100000
set_option maxHeartbeats 4000000
open Go Go.Ai Go.Proofs
attribute [local go_sem ↓] aW QG ev evX EY getLT Hf aag kat D4 D5 VP aah aai aaj VQ VR VS VT VU VV aak aal VW VX VY VZ V8 adS adT adU
attribute [local go_sem] aW QG ev
section
variable (c : ak) (F : Nat) (x0 x1 x2 x3 x4 x5 x6 x7 x8 x9 x10 x11 : AV) (s : St)
def p6:Sh:=(sq sl (sq sl (sq (sq sl (sb (sp 0 [0,3,4] [(2,[3])] (sq (sq sl (sc sl sl)) (sq (sb sl) sl))))) (sq sl sl))))
def yL:PX 17 p6:=⟨_,by conv=>lhs;reduce⟩
def wK:PL 17 p6 0:=⟨_,by conv=>lhs;reduce⟩
def iu (k2:Q2):Nat->Q2
 |0,_,_=>none
 |n+1,vs,s=>eo c F aV (iu k2 n) [k2] wK.1 vs s
def mP (k2:Q2) (n:Nat) (vs:List AV) (s:St):=(by dsimp only[iu,wK,go_sem,Int.reduceOfNat]:iu c F k2 (n+1) vs s=_)
def p7:Un->List Q2->Nat->Q2
 | .z,[k2]=>iu c F k2
 |_,_=>fun _=>eZ
def sU:O2:=aW c F (p7 c F) yL.1 [x0] s
def JW:=(by dsimp only[sU,yL, ↓p7,go_sem,Int.reduceOfNat]:sU c F x0 s=_)
def uQ:Sh:=(sq sl (sq sl sl))
def uR:PX 20 uQ:=⟨_,by conv=>lhs;reduce⟩
def oN:O2:=aW c F aV uR.1 [x0] s
def Fo:=(by dsimp only[oN,uR,go_sem,Int.reduceOfNat]:oN c F x0 s=_)
def rD:Sh:=(sq sl (sq (sq sl (sq sl (sc (sq sl sl) sl))) (sq sl (sq (sq sl (sb (sp 0 [1,7,40,41] [(2,[1,7])] (sq sl (sq (sc sl sl) (sq (sb (sq sl (sq sl (sq sl (sq sl (sb (sp 1 [1,7,8,9,10,11,40,41] [(4,[1,7,40,41])] (sq (sq sl (sc sl sl)) (sq (sb (sq sl (sq sl (sq sl (sq sl sl))))) (sq (sq sl sl) sl)))))))))) sl)))))) (sq (sq sl (sb (sp 2 [1,7,131,132] [(6,[1,7])] (sq sl (sq (sc sl sl) (sq (sb (sq sl sl)) sl)))))) (sq sl (sq (sq sl (sb (sp 3 [1,7,13,159,160,161] [(8,[7])] (sq sl (sq (sc sl sl) (sq (sb (sq sl (sq sl (sq sl (sq (sq sl (sb (sp 4 [1,7,13,17,18,19,159,160,161,166,167,168] [(10,[1,7,13,18,19,159,160,161])] (sq sl (sq (sc sl sl) (sq (sb (sq sl (sq sl (sq sl sl)))) sl)))))) sl))))) sl)))))) (sq sl sl))))))))
def Vm:PX 22 rD:=⟨_,by conv=>lhs;reduce⟩
def Su:PL 22 rD 4:=⟨_,by conv=>lhs;reduce⟩
def sF (Hw:Q2):Nat->Q2
 |0,_,_=>none
 |n+1,vs,s=>eo c F aV (sF Hw n) [Hw] Su.1 vs s
def MK (Hw:Q2) (n:Nat) (vs:List AV) (s:St):=(by dsimp only[sF,Su,go_sem,Int.reduceOfNat]:sF c F Hw (n+1) vs s=_)
def Sv:Un->List Q2->Nat->Q2
 |(.s (.s (.s (.s .z)))),[Hw]=>sF c F Hw
 |_,_=>fun _=>eZ
def Sw:PL 22 rD 3:=⟨_,by conv=>lhs;reduce⟩
def wI (k8:Q2):Nat->Q2
 |0,_,_=>none
 |n+1,vs,s=>eo c F (Sv c F) (wI k8 n) [k8] Sw.1 vs s
def ML (k8:Q2) (n:Nat) (vs:List AV) (s:St):=(by dsimp only[wI,Sw, ↓Sv,go_sem,Int.reduceOfNat]:wI c F k8 (n+1) vs s=_)
def Sx:PL 22 rD 2:=⟨_,by conv=>lhs;reduce⟩
def wH (k6:Q2):Nat->Q2
 |0,_,_=>none
 |n+1,vs,s=>eo c F aV (wH k6 n) [k6] Sx.1 vs s
def MJ (k6:Q2) (n:Nat) (vs:List AV) (s:St):=(by dsimp only[wH,Sx,go_sem,Int.reduceOfNat]:wH c F k6 (n+1) vs s=_)
def Sy:PL 22 rD 1:=⟨_,by conv=>lhs;reduce⟩
def sD (k4:Q2):Nat->Q2
 |0,_,_=>none
 |n+1,vs,s=>eo c F aV (sD k4 n) [k4] Sy.1 vs s
def MH (k4:Q2) (n:Nat) (vs:List AV) (s:St):=(by dsimp only[sD,Sy,go_sem,Int.reduceOfNat]:sD c F k4 (n+1) vs s=_)
def Sz:Un->List Q2->Nat->Q2
 |(.s .z),[k4]=>sD c F k4
 |_,_=>fun _=>eZ
def SA:PL 22 rD 0:=⟨_,by conv=>lhs;reduce⟩
def wG (k2:Q2):Nat->Q2
 |0,_,_=>none
 |n+1,vs,s=>eo c F (Sz c F) (wG k2 n) [k2] SA.1 vs s
def MI (k2:Q2) (n:Nat) (vs:List AV) (s:St):=(by dsimp only[wG,SA, ↓Sz,go_sem,Int.reduceOfNat]:wG c F k2 (n+1) vs s=_)
def Mf:Un->List Q2->Nat->Q2
 | .z,[k2]=>wG c F k2
 |(.s .z),[k4]=>sD c F k4
 |(.s (.s .z)),[k6]=>wH c F k6
 |(.s (.s (.s .z))),[k8]=>wI c F k8
 |(.s (.s (.s (.s .z)))),[Hw]=>sF c F Hw
 |_,_=>fun _=>eZ
def TB:O2:=aW c F (Mf c F) Vm.1 [x0] s
def Vj:=(by dsimp only[TB,Vm, ↓Mf,go_sem,Int.reduceOfNat]:TB c F x0 s=_)
def uS:Sh:=(sq sl (sq sl sl))
def uT:PX 24 uS:=⟨_,by conv=>lhs;reduce⟩
def oO:O2:=aW c F aV uT.1 [x0,x1] s
def Fu:=(by dsimp only[oO,uT,go_sem,Int.reduceOfNat]:oO c F x0 x1 s=_)
def Aj:Sh:=(sq sl (sq (sq sl (sc (sq sl sl) sl)) (sq sl sl)))
def Ak:PX 25 Aj:=⟨_,by conv=>lhs;reduce⟩
def uU:O2:=aW c F aV Ak.1 [x0] s
def LV:=(by dsimp only[uU,Ak,go_sem,Int.reduceOfNat]:uU c F x0 s=_)
def p8:Sh:=(sq sl (sq (sq sl (sc (sq sl sl) sl)) (sq (sq sl (sb (sp 0 [0,1,5] [(1,[4]),(2,[])] (sq (sq sl (sc sl sl)) (sq (sb (sq sl (sc (sq sl sl) sl))) sl))))) (sq sl sl))))
def yM:PX 40 p8:=⟨_,by conv=>lhs;reduce⟩
def wL:PL 40 p8 0:=⟨_,by conv=>lhs;reduce⟩
def iy (k1 k2:Q2):Nat->Q2
 |0,_,_=>none
 |n+1,vs,s=>eo c F aV (iy k1 k2 n) [k1,k2] wL.1 vs s
def uB (k1 k2:Q2) (n:Nat) (vs:List AV) (s:St):=(by dsimp only[iy,wL,go_sem,Int.reduceOfNat]:iy c F k1 k2 (n+1) vs s=_)
def qa:Un->List Q2->Nat->Q2
 | .z,[k1,k2]=>iy c F k1 k2
 |_,_=>fun _=>eZ
def sV:O2:=aW c F (qa c F) yM.1 [x0,x1] s
def J5:=(by dsimp only[sV,yM, ↓qa,go_sem,Int.reduceOfNat]:sV c F x0 x1 s=_)
def oP:Sh:=(sq sl (sq (sq sl (sc (sq sl sl) sl)) (sq (sq sl (sb (sp 0 [0,1,5] [(1,[4]),(2,[])] (sq (sq sl (sc sl sl)) (sq (sb (sq sl (sc (sq sl sl) sl))) sl))))) (sq sl sl))))
def wM:PX 61 oP:=⟨_,by conv=>lhs;reduce⟩
def vF:PL 61 oP 0:=⟨_,by conv=>lhs;reduce⟩
def gV (k1 k2:Q2):Nat->Q2
 |0,_,_=>none
 |n+1,vs,s=>eo c F aV (gV k1 k2 n) [k1,k2] vF.1 vs s
def tK (k1 k2:Q2) (n:Nat) (vs:List AV) (s:St):=(by dsimp only[gV,vF,go_sem,Int.reduceOfNat]:gV c F k1 k2 (n+1) vs s=_)
def oQ:Un->List Q2->Nat->Q2
 | .z,[k1,k2]=>gV c F k1 k2
 |_,_=>fun _=>eZ
def rE:O2:=aW c F (oQ c F) wM.1 [x0,x1] s
def II:=(by dsimp only[rE,wM, ↓oQ,go_sem,Int.reduceOfNat]:rE c F x0 x1 s=_)
def nF:Sh:=(sq sl (sq sl (sq (sq sl (sb (sp 0 [0,3,4] [(2,[3])] (sq (sq sl (sc sl sl)) (sq (sb sl) sl))))) (sq sl sl))))
def vG:PX 62 nF:=⟨_,by conv=>lhs;reduce⟩
def uV:PL 62 nF 0:=⟨_,by conv=>lhs;reduce⟩
def gy (k2:Q2):Nat->Q2
 |0,_,_=>none
 |n+1,vs,s=>eo c F aV (gy k2 n) [k2] uV.1 vs s
def r9 (k2:Q2) (n:Nat) (vs:List AV) (s:St):=(by dsimp only[gy,uV,go_sem,Int.reduceOfNat]:gy c F k2 (n+1) vs s=_)
def nG:Un->List Q2->Nat->Q2
 | .z,[k2]=>gy c F k2
 |_,_=>fun _=>eZ
def qb:O2:=aW c F (nG c F) vG.1 [x0] s
def Gl:=(by dsimp only[qb,vG, ↓nG,go_sem,Int.reduceOfNat]:qb c F x0 s=_)
def nH:Sh:=(sq sl (sq sl (sq (sq sl (sb (sp 0 [0,3,4] [(2,[3])] (sq (sq sl (sc sl sl)) (sq (sb sl) sl))))) (sq sl sl))))
def vH:PX 63 nH:=⟨_,by conv=>lhs;reduce⟩
def uW:PL 63 nH 0:=⟨_,by conv=>lhs;reduce⟩
def gC (k2:Q2):Nat->Q2
 |0,_,_=>none
 |n+1,vs,s=>eo c F aV (gC k2 n) [k2] uW.1 vs s
def se (k2:Q2) (n:Nat) (vs:List AV) (s:St):=(by dsimp only[gC,uW,go_sem,Int.reduceOfNat]:gC c F k2 (n+1) vs s=_)
def nI:Un->List Q2->Nat->Q2
 | .z,[k2]=>gC c F k2
 |_,_=>fun _=>eZ
def qc:O2:=aW c F (nI c F) vH.1 [x0] s
def Gm:=(by dsimp only[qc,vH, ↓nI,go_sem,Int.reduceOfNat]:qc c F x0 s=_)
def qd:Sh:=(sq sl (sq sl (sq (sq sl (sb (sp 0 [0,3,4] [(2,[3])] (sq (sq sl (sc sl sl)) (sq (sb sl) sl))))) (sq sl sl))))
def yN:PX 64 qd:=⟨_,by conv=>lhs;reduce⟩
def wN:PL 64 qd 0:=⟨_,by conv=>lhs;reduce⟩
def iw (k2:Q2):Nat->Q2
 |0,_,_=>none
 |n+1,vs,s=>eo c F aV (iw k2 n) [k2] wN.1 vs s
def mQ (k2:Q2) (n:Nat) (vs:List AV) (s:St):=(by dsimp only[iw,wN,go_sem,Int.reduceOfNat]:iw c F k2 (n+1) vs s=_)
def qf:Un->List Q2->Nat->Q2
 | .z,[k2]=>iw c F k2
 |_,_=>fun _=>eZ
def sW:O2:=aW c F (qf c F) yN.1 [x0] s
def JX:=(by dsimp only[sW,yN, ↓qf,go_sem,Int.reduceOfNat]:sW c F x0 s=_)
def oR:Sh:=(sq sl (sq sl (sq (sq sl (sb (sp 0 [0,3,4] [(2,[3])] (sq (sq sl (sc sl sl)) (sq (sb sl) sl))))) (sq sl sl))))
def wO:PX 65 oR:=⟨_,by conv=>lhs;reduce⟩
def vI:PL 65 oR 0:=⟨_,by conv=>lhs;reduce⟩
def gS (k2:Q2):Nat->Q2
 |0,_,_=>none
 |n+1,vs,s=>eo c F aV (gS k2 n) [k2] vI.1 vs s
def l6 (k2:Q2) (n:Nat) (vs:List AV) (s:St):=(by dsimp only[gS,vI,go_sem,Int.reduceOfNat]:gS c F k2 (n+1) vs s=_)
def oT:Un->List Q2->Nat->Q2
 | .z,[k2]=>gS c F k2
 |_,_=>fun _=>eZ
def rF:O2:=aW c F (oT c F) wO.1 [x0] s
def ID:=(by dsimp only[rF,wO, ↓oT,go_sem,Int.reduceOfNat]:rF c F x0 s=_)
def xC:Sh:=(sq sl (sq sl (sq (sq sl (sb (sp 0 [1,2,11,12] [(2,[1,2])] (sq sl (sq (sc sl sl) (sq (sb (sq sl sl)) sl)))))) (sq sl (sq (sq sl (sb (sp 1 [1,2,34,35] [(4,[1,2])] (sq sl (sq (sc sl sl) (sq (sb (sq sl sl)) sl)))))) (sq sl (sq sl sl)))))))
def MZ:PX 69 xC:=⟨_,by conv=>lhs;reduce⟩
def Ke:PL 69 xC 1:=⟨_,by conv=>lhs;reduce⟩
def pV (k4:Q2):Nat->Q2
 |0,_,_=>none
 |n+1,vs,s=>eo c F aV (pV k4 n) [k4] Ke.1 vs s
def Fw (k4:Q2) (n:Nat) (vs:List AV) (s:St):=(by dsimp only[pV,Ke,go_sem,Int.reduceOfNat]:pV c F k4 (n+1) vs s=_)
def Kf:PL 69 xC 0:=⟨_,by conv=>lhs;reduce⟩
def pU (k2:Q2):Nat->Q2
 |0,_,_=>none
 |n+1,vs,s=>eo c F aV (pU k2 n) [k2] Kf.1 vs s
def Fv (k2:Q2) (n:Nat) (vs:List AV) (s:St):=(by dsimp only[pU,Kf,go_sem,Int.reduceOfNat]:pU c F k2 (n+1) vs s=_)
def CO:Un->List Q2->Nat->Q2
 | .z,[k2]=>pU c F k2
 |(.s .z),[k4]=>pV c F k4
 |_,_=>fun _=>eZ
def IX:O2:=aW c F (CO c F) MZ.1 [x0] s
def YL:=(by dsimp only[IX,MZ, ↓CO,go_sem,Int.reduceOfNat]:IX c F x0 s=_)
def PU:Sh:=(sq sl (sq sl (sq (sq sl (sc (sq sl sl) sl)) (sq sl sl))))
def PV:PX 72 PU:=⟨_,by conv=>lhs;reduce⟩
def Mg:O2:=aW c F aV PV.1 [x0,x1] s
def O9:=(by dsimp only[Mg,PV,go_sem,Int.reduceOfNat]:Mg c F x0 x1 s=_)
def SB:Sh:=(sq sl (sq sl (sq sl sl)))
def SC:PX 73 SB:=⟨_,by conv=>lhs;reduce⟩
def PW:O2:=aW c F aV SC.1 [x0,x1] s
def ab8:=(by dsimp only[PW,SC,go_sem,Int.reduceOfNat]:PW c F x0 x1 s=_)
def FX:Sh:=(sq sl (sq sl (sq (sq sl (sb (sp 0 [0,1,2,7,8] [(2,[7])] (sq (sq sl (sc sl sl)) (sj [0,1,2,7,8] (sb (sq sl (sc sl sl))) sl))))) (sq sl sl))))
def PY:PX 74 FX:=⟨_,by conv=>lhs;reduce⟩
def M6:PL 74 FX 0:=⟨_,by conv=>lhs;reduce⟩
def rZ (k2:Q2):Nat->Q2
 |0,_,_=>none
 |n+1,vs,s=>eo c F aV (rZ k2 n) [k2] M6.1 vs s
def zK (k2:Q2) (n:Nat) (vs:List AV) (s:St):=(by dsimp only[rZ,M6,go_sem,Int.reduceOfNat]:rZ c F k2 (n+1) vs s=_)
def FY:Un->List Q2->Nat->Q2
 | .z,[k2]=>rZ c F k2
 |_,_=>fun _=>eZ
def Mh:O2:=aW c F (FY c F) PY.1 [x0,x1,x2] s
def aa9:=(by dsimp only[Mh,PY, ↓FY,go_sem,Int.reduceOfNat]:Mh c F x0 x1 x2 s=_)
def PZ:Sh:=(sq sl (sq sl sl))
def P0:PX 75 PZ:=⟨_,by conv=>lhs;reduce⟩
def Mi:O2:=aW c F aV P0.1 [x0,x1,x2] s
def abl:=(by dsimp only[Mi,P0,go_sem,Int.reduceOfNat]:Mi c F x0 x1 x2 s=_)
def M7:Sh:=(sq sl (sq sl (sq sl sl)))
def M8:PX 76 M7:=⟨_,by conv=>lhs;reduce⟩
def IY:O2:=aW c F aV M8.1 [x0,x1,x2] s
def Yz:=(by dsimp only[IY,M8,go_sem,Int.reduceOfNat]:IY c F x0 x1 x2 s=_)
def P4:Sh:=(sq sl (sq sl sl))
def P5:PX 77 P4:=⟨_,by conv=>lhs;reduce⟩
def Mj:O2:=aW c F aV P5.1 [x0,x1,x2] s
def abm:=(by dsimp only[Mj,P5,go_sem,Int.reduceOfNat]:Mj c F x0 x1 x2 s=_)
def M9:Sh:=(sq sl (sq sl (sq sl sl)))
def Na:PX 78 M9:=⟨_,by conv=>lhs;reduce⟩
def IZ:O2:=aW c F aV Na.1 [x0,x1,x2] s
def YA:=(by dsimp only[IZ,Na,go_sem,Int.reduceOfNat]:IZ c F x0 x1 x2 s=_)
def lF:Sh:=(sq sl (sq sl (sq (sq sl (sb (sp 0 [0,5,6] [(2,[5])] (sq (sq sl (sc sl sl)) (sq (sb (sq sl (sb (sp 1 [0,5,6,41,42,43] [(4,[0,5,6])] (sq sl (sq (sc sl sl) (sq (sb (sq sl (sq sl (sb (sp 2 [0,5,6,41,42,43,47,48,49] [(6,[0,5,6,41,42,43])] (sq sl (sq (sc sl sl) (sj [0,5,6,41,42,43,47,48,49] (sb (sq sl (sq sl (sq sl (sc (sq sl sl) sl))))) sl)))))))) sl))))))) sl))))) (sq sl sl))))
def Dr:PX 79 lF:=⟨_,by conv=>lhs;reduce⟩
def Ck:PL 79 lF 2:=⟨_,by conv=>lhs;reduce⟩
def gG (k6:Q2):Nat->Q2
 |0,_,_=>none
 |n+1,vs,s=>eo c F aV (gG k6 n) [k6] Ck.1 vs s
def qU (k6:Q2) (n:Nat) (vs:List AV) (s:St):=(by dsimp only[gG,Ck,go_sem,Int.reduceOfNat]:gG c F k6 (n+1) vs s=_)
def Cl:Un->List Q2->Nat->Q2
 |(.s (.s .z)),[k6]=>gG c F k6
 |_,_=>fun _=>eZ
def Cm:PL 79 lF 1:=⟨_,by conv=>lhs;reduce⟩
def dL (k4:Q2):Nat->Q2
 |0,_,_=>none
 |n+1,vs,s=>eo c F (Cl c F) (dL k4 n) [k4] Cm.1 vs s
def qW (k4:Q2) (n:Nat) (vs:List AV) (s:St):=(by dsimp only[dL,Cm, ↓Cl,go_sem,Int.reduceOfNat]:dL c F k4 (n+1) vs s=_)
def Cn:Un->List Q2->Nat->Q2
 |(.s .z),[k4]=>dL c F k4
 |(.s (.s .z)),[k6]=>gG c F k6
 |_,_=>fun _=>eZ
def Co:PL 79 lF 0:=⟨_,by conv=>lhs;reduce⟩
def kH (k2:Q2):Nat->Q2
 |0,_,_=>none
 |n+1,vs,s=>eo c F (Cn c F) (kH k2 n) [k2] Co.1 vs s
def qV (k2:Q2) (n:Nat) (vs:List AV) (s:St):=(by dsimp only[kH,Co, ↓Cn,go_sem,Int.reduceOfNat]:kH c F k2 (n+1) vs s=_)
def wh:Un->List Q2->Nat->Q2
 | .z,[k2]=>kH c F k2
 |(.s .z),[k4]=>dL c F k4
 |(.s (.s .z)),[k6]=>gG c F k6
 |_,_=>fun _=>eZ
def Al:O2:=aW c F (wh c F) Dr.1 [x0,x1] s
def Rs:=(by dsimp only[Al,Dr, ↓wh,go_sem,Int.reduceOfNat]:Al c F x0 x1 s=_)
def AZ:Sh:=(sq sl (sq sl (sq sl (sq (sq sl (sc (sq sl sl) sl)) (sq sl sl)))))
def A0:PX 81 AZ:=⟨_,by conv=>lhs;reduce⟩
def pz:O2:=aW c F aV A0.1 [x0,x1,x2] s
def NN:=(by dsimp only[pz,A0,go_sem,Int.reduceOfNat]:pz c F x0 x1 x2 s=_)
def Ds:Sh:=(sq sl (sq (sq sl (sc (sq sl sl) sl)) (sq sl (sq (sq sl (sc (sq sl sl) sl)) (sq sl sl)))))
def Dt:PX 82 Ds:=⟨_,by conv=>lhs;reduce⟩
def Am:O2:=aW c F aV Dt.1 [x0,x1,x2] s
def C0:=(by dsimp only[Am,Dt,go_sem,Int.reduceOfNat]:Am c F x0 x1 x2 s=_)
def nJ:Sh:=(sq sl (sq (sq sl (sc (sq sl sl) sl)) (sq (sq sl (sb (sp 0 [0,1,5] [(1,[4]),(2,[])] (sq (sq sl (sc sl sl)) (sq (sb (sq sl (sc (sq sl sl) sl))) sl))))) (sq sl sl))))
def vJ:PX 85 nJ:=⟨_,by conv=>lhs;reduce⟩
def uX:PL 85 nJ 0:=⟨_,by conv=>lhs;reduce⟩
def gD (k1 k2:Q2):Nat->Q2
 |0,_,_=>none
 |n+1,vs,s=>eo c F aV (gD k1 k2 n) [k1,k2] uX.1 vs s
def sg (k1 k2:Q2) (n:Nat) (vs:List AV) (s:St):=(by dsimp only[gD,uX,go_sem,Int.reduceOfNat]:gD c F k1 k2 (n+1) vs s=_)
def nK:Un->List Q2->Nat->Q2
 | .z,[k1,k2]=>gD c F k1 k2
 |_,_=>fun _=>eZ
def qg:O2:=aW c F (nK c F) vJ.1 [x0,x1] s
def Gq:=(by dsimp only[qg,vJ, ↓nK,go_sem,Int.reduceOfNat]:qg c F x0 x1 s=_)
def nM:Sh:=(sq sl (sq (sq sl (sc (sq sl sl) sl)) (sq (sq sl (sb (sp 0 [0,1,5] [(1,[4]),(2,[])] (sq (sq sl (sc sl sl)) (sq (sb (sq sl (sc (sq sl sl) sl))) sl))))) (sq sl sl))))
def vK:PX 86 nM:=⟨_,by conv=>lhs;reduce⟩
def uY:PL 86 nM 0:=⟨_,by conv=>lhs;reduce⟩
def gF (k1 k2:Q2):Nat->Q2
 |0,_,_=>none
 |n+1,vs,s=>eo c F aV (gF k1 k2 n) [k1,k2] uY.1 vs s
def si (k1 k2:Q2) (n:Nat) (vs:List AV) (s:St):=(by dsimp only[gF,uY,go_sem,Int.reduceOfNat]:gF c F k1 k2 (n+1) vs s=_)
def nN:Un->List Q2->Nat->Q2
 | .z,[k1,k2]=>gF c F k1 k2
 |_,_=>fun _=>eZ
def qh:O2:=aW c F (nN c F) vK.1 [x0,x1] s
def Gr:=(by dsimp only[qh,vK, ↓nN,go_sem,Int.reduceOfNat]:qh c F x0 x1 s=_)
def qi:Sh:=(sq sl (sq (sq sl (sc (sq sl sl) sl)) (sq (sq sl (sb (sp 0 [0,1,5] [(1,[4]),(2,[])] (sq (sq sl (sc sl sl)) (sq (sb (sq sl (sc (sq sl sl) sl))) sl))))) (sq sl sl))))
def yO:PX 87 qi:=⟨_,by conv=>lhs;reduce⟩
def wP:PL 87 qi 0:=⟨_,by conv=>lhs;reduce⟩
def iz (k1 k2:Q2):Nat->Q2
 |0,_,_=>none
 |n+1,vs,s=>eo c F aV (iz k1 k2 n) [k1,k2] wP.1 vs s
def uC (k1 k2:Q2) (n:Nat) (vs:List AV) (s:St):=(by dsimp only[iz,wP,go_sem,Int.reduceOfNat]:iz c F k1 k2 (n+1) vs s=_)
def qj:Un->List Q2->Nat->Q2
 | .z,[k1,k2]=>iz c F k1 k2
 |_,_=>fun _=>eZ
def sX:O2:=aW c F (qj c F) yO.1 [x0,x1] s
def J6:=(by dsimp only[sX,yO, ↓qj,go_sem,Int.reduceOfNat]:sX c F x0 x1 s=_)
def Du:Sh:=(sq sl (sq sl sl))
def Dv:PX 88 Du:=⟨_,by conv=>lhs;reduce⟩
def An:O2:=aW c F aV Dv.1 [x0] s
def Rr:=(by dsimp only[An,Dv,go_sem,Int.reduceOfNat]:An c F x0 s=_)
def tO:Sh:=(sq sl (sq sl sl))
def tP:PX 95 tO:=⟨_,by conv=>lhs;reduce⟩
def nO:O2:=aW c F aV tP.1 [x0,x1] s
def Ec:=(by dsimp only[nO,tP,go_sem,Int.reduceOfNat]:nO c F x0 x1 s=_)
def wQ:Sh:=(sq sl (sq sl (sq sl sl)))
def wR:PX 128 wQ:=⟨_,by conv=>lhs;reduce⟩
def rG:O2:=aW c F aV wR.1 [x0] s
def IE:=(by dsimp only[rG,wR,go_sem,Int.reduceOfNat]:rG c F x0 s=_)
def wS:Sh:=(sq sl (sq sl (sq sl sl)))
def wT:PX 129 wS:=⟨_,by conv=>lhs;reduce⟩
def rH:O2:=aW c F aV wT.1 [x0] s
def IF:=(by dsimp only[rH,wT,go_sem,Int.reduceOfNat]:rH c F x0 s=_)
def lH:Sh:=(sq sl (sq (sq sl (sc (sq sl sl) sl)) (sq sl sl)))
def lJ:PX 154 lH:=⟨_,by conv=>lhs;reduce⟩
def iK:O2:=aW c F aV lJ.1 [x0] s
def lz:=(by dsimp only[iK,lJ,go_sem,Int.reduceOfNat]:iK c F x0 s=_)
def wU:Sh:=(sq sl (sq (sq sl (sc (sq sl sl) sl)) (sq sl sl)))
def wV:PX 155 wU:=⟨_,by conv=>lhs;reduce⟩
def rI:O2:=aW c F aV wV.1 [x0] s
def wE:=(by dsimp only[rI,wV,go_sem,Int.reduceOfNat]:rI c F x0 s=_)
def lK:Sh:=(sq sl (sq (sq sl (sc (sq sl sl) sl)) (sq sl sl)))
def lM:PX 156 lK:=⟨_,by conv=>lhs;reduce⟩
def iL:O2:=aW c F aV lM.1 [x0] s
def lC:=(by dsimp only[iL,lM,go_sem,Int.reduceOfNat]:iL c F x0 s=_)
def oC:Sh:=(sq sl (sq (sq sl (sc (sq sl sl) sl)) (sq sl sl)))
def oD:PX 158 oC:=⟨_,by conv=>lhs;reduce⟩
def jZ:O2:=aW c F aV oD.1 [x0] s
def oA:=(by dsimp only[jZ,oD,go_sem,Int.reduceOfNat]:jZ c F x0 s=_)
def mV:Sh:=(sq sl (sq (sq sl (sc (sq sl sl) sl)) (sq sl sl)))
def mW:PX 159 mV:=⟨_,by conv=>lhs;reduce⟩
def jC:O2:=aW c F aV mW.1 [x0] s
def mS:=(by dsimp only[jC,mW,go_sem,Int.reduceOfNat]:jC c F x0 s=_)
def FZ:Sh:=(sq sl (sq (sq sl (sc (sq sl sl) sl)) (sq (sq sl (sb (sp 0 [1,17,18,19] [(1,[4,5,6]),(2,[])] (sq sl (sq (sc sl sl) (sq (sb (sq sl (sq sl (sq (sq sl (sc (sq sl sl) sl)) sl)))) sl)))))) (sq sl sl))))
def P6:PX 163 FZ:=⟨_,by conv=>lhs;reduce⟩
def Nb:PL 163 FZ 0:=⟨_,by conv=>lhs;reduce⟩
def nV (k1 k2:Q2):Nat->Q2
 |0,_,_=>none
 |n+1,vs,s=>eo c F aV (nV k1 k2 n) [k1,k2] Nb.1 vs s
def tF (k1 k2:Q2) (n:Nat) (vs:List AV) (s:St):=(by dsimp only[nV,Nb,go_sem,Int.reduceOfNat]:nV c F k1 k2 (n+1) vs s=_)
def F0:Un->List Q2->Nat->Q2
 | .z,[k1,k2]=>nV c F k1 k2
 |_,_=>fun _=>eZ
def Ml:O2:=aW c F (F0 c F) P6.1 [x0,x1] s
def OW:=(by dsimp only[Ml,P6, ↓F0,go_sem,Int.reduceOfNat]:Ml c F x0 x1 s=_)
def CP:Sh:=(sq sl (sq sl (sq sl (sq (sq sl (sb (sp 0 [5,23,24,25] [(2,[5])] (sq sl (sq (sc sl sl) (sj [5,23,24,25] (sb (sq sl (sq sl (sc sl sl)))) sl)))))) (sq sl sl)))))
def Nc:PX 164 CP:=⟨_,by conv=>lhs;reduce⟩
def Kg:PL 164 CP 0:=⟨_,by conv=>lhs;reduce⟩
def pT (k2:Q2):Nat->Q2
 |0,_,_=>none
 |n+1,vs,s=>eo c F aV (pT k2 n) [k2] Kg.1 vs s
def xS (k2:Q2) (n:Nat) (vs:List AV) (s:St):=(by dsimp only[pT,Kg,go_sem,Int.reduceOfNat]:pT c F k2 (n+1) vs s=_)
def CQ:Un->List Q2->Nat->Q2
 | .z,[k2]=>pT c F k2
 |_,_=>fun _=>eZ
def I0:O2:=aW c F (CQ c F) Nc.1 [x0] s
def YC:=(by dsimp only[I0,Nc, ↓CQ,go_sem,Int.reduceOfNat]:I0 c F x0 s=_)
def SD:Sh:=(sq sl (sq sl (sq sl (sq (sq sl (sc (sq sl sl) sl)) (sq sl sl)))))
def SE:PX 165 SD:=⟨_,by conv=>lhs;reduce⟩
def P7:O2:=aW c F aV SE.1 [x0,x1,x2] s
def ab7:=(by dsimp only[P7,SE,go_sem,Int.reduceOfNat]:P7 c F x0 x1 x2 s=_)
def Nd:Sh:=(sq sl (sq sl (sq sl sl)))
def Nf:PX 166 Nd:=⟨_,by conv=>lhs;reduce⟩
def I6:O2:=aW c F aV Nf.1 [x0,x1,x2] s
def Yv:=(by dsimp only[I6,Nf,go_sem,Int.reduceOfNat]:I6 c F x0 x1 x2 s=_)
def Ng:Sh:=(sq sl (sq sl (sq sl sl)))
def Nh:PX 167 Ng:=⟨_,by conv=>lhs;reduce⟩
def I7:O2:=aW c F aV Nh.1 [x0,x1,x2] s
def Yw:=(by dsimp only[I7,Nh,go_sem,Int.reduceOfNat]:I7 c F x0 x1 x2 s=_)
def Dw:Sh:=(sq sl (sq (sq sl (sc (sq sl sl) sl)) (sq sl (sq (sq sl (sc (sq sl sl) sl)) (sq sl sl)))))
def Dx:PX 172 Dw:=⟨_,by conv=>lhs;reduce⟩
def Ao:O2:=aW c F aV Dx.1 [x0,x1] s
def C8:=(by dsimp only[Ao,Dx,go_sem,Int.reduceOfNat]:Ao c F x0 x1 s=_)
def iD:Sh:=(sq sl (sq sl (sq (sq sl (sc (sq sl sl) sl)) (sq (sq sl (sb (sp 0 [0,1,5,6] [(2,[0,5])] (sq (sq sl (sc sl sl)) (sj [0,1,5,6] (sb (sq sl (sq sl (sc (sq sl sl) sl)))) sl))))) (sq sl (sq sl sl))))))
def mh:PX 173 iD:=⟨_,by conv=>lhs;reduce⟩
def lN:PL 173 iD 0:=⟨_,by conv=>lhs;reduce⟩
def dH (k2:Q2):Nat->Q2
 |0,_,_=>none
 |n+1,vs,s=>eo c F aV (dH k2 n) [k2] lN.1 vs s
def gH (k2:Q2) (n:Nat) (vs:List AV) (s:St):=(by dsimp only[dH,lN,go_sem,Int.reduceOfNat,Int.reduceNegSucc]:dH c F k2 (n+1) vs s=_)
def iE:Un->List Q2->Nat->Q2
 | .z,[k2]=>dH c F k2
 |_,_=>fun _=>eZ
def jd:O2:=aW c F (iE c F) mh.1 [x0,x1] s
def mg:=(by dsimp only[jd,mh, ↓iE,go_sem,Int.reduceOfNat,Int.reduceNegSucc]:jd c F x0 x1 s=_)
def yP:Sh:=(sq sl (sq sl sl))
def yQ:PX 174 yP:=⟨_,by conv=>lhs;reduce⟩
def sY:O2:=aW c F aV yQ.1 [x0,x1] s
def J8:=(by dsimp only[sY,yQ,go_sem,Int.reduceOfNat]:sY c F x0 x1 s=_)
def ny:Sh:=(sq sl (sq sl sl))
def nA:PX 175 ny:=⟨_,by conv=>lhs;reduce⟩
def jL:O2:=aW c F aV nA.1 [x0,x1] s
def yT:=(by dsimp only[jL,nA,go_sem,Int.reduceOfNat]:jL c F x0 x1 s=_)
def wW:Sh:=(sq sl (sq sl sl))
def wX:PX 189 wW:=⟨_,by conv=>lhs;reduce⟩
def rJ:O2:=aW c F aV wX.1 [x0,x1] s
def IJ:=(by dsimp only[rJ,wX,go_sem,Int.reduceOfNat]:rJ c F x0 x1 s=_)
def wY:Sh:=(sq sl (sq sl sl))
def wZ:PX 190 wY:=⟨_,by conv=>lhs;reduce⟩
def rK:O2:=aW c F aV wZ.1 [x0,x1] s
def IK:=(by dsimp only[rK,wZ,go_sem,Int.reduceOfNat]:rK c F x0 x1 s=_)
def oU:Sh:=(sq sl (sq (sq sl (sb (sp 0 [0,1,7,8] [(1,[4]),(2,[])] (sq sl (sq (sc sl sl) (sq (sb (sq sl (sq sl (sc (sq sl sl) sl)))) sl)))))) (sq sl sl)))
def w7:PX 194 oU:=⟨_,by conv=>lhs;reduce⟩
def vL:PL 194 oU 0:=⟨_,by conv=>lhs;reduce⟩
def gQ (k1 k2:Q2):Nat->Q2
 |0,_,_=>none
 |n+1,vs,s=>eo c F aV (gQ k1 k2 n) [k1,k2] vL.1 vs s
def tG (k1 k2:Q2) (n:Nat) (vs:List AV) (s:St):=(by dsimp only[gQ,vL,go_sem,Int.reduceOfNat,Int.reduceNegSucc]:gQ c F k1 k2 (n+1) vs s=_)
def oV:Un->List Q2->Nat->Q2
 | .z,[k1,k2]=>gQ c F k1 k2
 |_,_=>fun _=>eZ
def rL:O2:=aW c F (oV c F) w7.1 [x0,x1] s
def IB:=(by dsimp only[rL,w7, ↓oV,go_sem,Int.reduceOfNat,Int.reduceNegSucc]:rL c F x0 x1 s=_)
def oW:Sh:=(sq sl (sq sl (sq (sq sl (sb (sp 0 [0,3,4] [(2,[3])] (sq (sq sl (sc sl sl)) (sq (sb sl) sl))))) (sq sl sl))))
def w8:PX 224 oW:=⟨_,by conv=>lhs;reduce⟩
def vM:PL 224 oW 0:=⟨_,by conv=>lhs;reduce⟩
def gR (k2:Q2):Nat->Q2
 |0,_,_=>none
 |n+1,vs,s=>eo c F aV (gR k2 n) [k2] vM.1 vs s
def lZ (k2:Q2) (n:Nat) (vs:List AV) (s:St):=(by dsimp only[gR,vM,go_sem,Int.reduceOfNat]:gR c F k2 (n+1) vs s=_)
def oX:Un->List Q2->Nat->Q2
 | .z,[k2]=>gR c F k2
 |_,_=>fun _=>eZ
def rM:O2:=aW c F (oX c F) w8.1 [x0] s
def IC:=(by dsimp only[rM,w8, ↓oX,go_sem,Int.reduceOfNat]:rM c F x0 s=_)
def uZ:Sh:=(sq sl (sq sl (sq (sq sl (sb (sp 0 [1,2,5,15,16] [(2,[1,2,5])] (sq sl (sq (sc sl sl) (sq (sb (sq sl sl)) sl)))))) (sq sl (sq sl (sq (sb (sp 1 [2,5,7] [(4,[5])] (sq (sq sl (sc sl sl)) (sb (sq sl (sq sl (sq sl (sb (sp 2 [2,5,7,8,36,37,38] [(6,[2,5,7])] (sq sl (sq (sc sl sl) (sj [2,5,7,8,36,37,38] (sb (sq sl (sq sl (sc (sq sl sl) sl)))) sl)))))))))))) (sq sl sl)))))))
def P8:PX 247 uZ:=⟨_,by conv=>lhs;reduce⟩
def Ni:PL 247 uZ 2:=⟨_,by conv=>lhs;reduce⟩
def nW (k6:Q2):Nat->Q2
 |0,_,_=>none
 |n+1,vs,s=>eo c F aV (nW k6 n) [k6] Ni.1 vs s
def tH (k6:Q2) (n:Nat) (vs:List AV) (s:St):=(by dsimp only[nW,Ni,go_sem,Int.reduceOfNat,Int.reduceNegSucc]:nW c F k6 (n+1) vs s=_)
def Nj:Un->List Q2->Nat->Q2
 |(.s (.s .z)),[k6]=>nW c F k6
 |_,_=>fun _=>eZ
def Nk:PL 247 uZ 1:=⟨_,by conv=>lhs;reduce⟩
def kV (k4:Q2):Nat->Q2
 |0,_,_=>none
 |n+1,vs,s=>eo c F (Nj c F) (kV k4 n) [k4] Nk.1 vs s
def zJ (k4:Q2) (n:Nat) (vs:List AV) (s:St):=(by dsimp only[kV,Nk, ↓Nj,go_sem,Int.reduceOfNat,Int.reduceNegSucc]:kV c F k4 (n+1) vs s=_)
def Nl:PL 247 uZ 0:=⟨_,by conv=>lhs;reduce⟩
def nX (k2:Q2):Nat->Q2
 |0,_,_=>none
 |n+1,vs,s=>eo c F aV (nX k2 n) [k2] Nl.1 vs s
def Ht (k2:Q2) (n:Nat) (vs:List AV) (s:St):=(by dsimp only[nX,Nl,go_sem,Int.reduceOfNat,Int.reduceNegSucc]:nX c F k2 (n+1) vs s=_)
def F6:Un->List Q2->Nat->Q2
 | .z,[k2]=>nX c F k2
 |(.s .z),[k4]=>kV c F k4
 |(.s (.s .z)),[k6]=>nW c F k6
 |_,_=>fun _=>eZ
def Mm:O2:=aW c F (F6 c F) P8.1 [x0,x1] s
def aa7:=(by dsimp only[Mm,P8, ↓F6,go_sem,Int.reduceOfNat,Int.reduceNegSucc]:Mm c F x0 x1 s=_)
def iM:Sh:=(sq sl (sq (sq sl (sb (sp 0 [0,1,7,8] [(1,[4]),(2,[])] (sq sl (sq (sc sl sl) (sq (sb (sq sl (sq sl (sc (sq sl sl) sl)))) sl)))))) (sq sl sl)))
def mX:PX 253 iM:=⟨_,by conv=>lhs;reduce⟩
def mj:PL 253 iM 0:=⟨_,by conv=>lhs;reduce⟩
def cH (k1 k2:Q2):Nat->Q2
 |0,_,_=>none
 |n+1,vs,s=>eo c F aV (cH k1 k2 n) [k1,k2] mj.1 vs s
def di (k1 k2:Q2) (n:Nat) (vs:List AV) (s:St):=(by dsimp only[cH,mj,go_sem,Int.reduceOfNat,Int.reduceNegSucc]:cH c F k1 k2 (n+1) vs s=_)
def iN:Un->List Q2->Nat->Q2
 | .z,[k1,k2]=>cH c F k1 k2
 |_,_=>fun _=>eZ
def jD:O2:=aW c F (iN c F) mX.1 [x0,x1] s
def mT:=(by dsimp only[jD,mX, ↓iN,go_sem,Int.reduceOfNat,Int.reduceNegSucc]:jD c F x0 x1 s=_)
def j5:Sh:=(sq sl (sq (sq sl (sb (sp 0 [0,1,7,8] [(1,[4]),(2,[])] (sq sl (sq (sc sl sl) (sq (sb (sq sl (sq sl (sc (sq sl sl) sl)))) sl)))))) (sq sl sl)))
def ql:PX 254 j5:=⟨_,by conv=>lhs;reduce⟩
def pg:PL 254 j5 0:=⟨_,by conv=>lhs;reduce⟩
def dI (k1 k2:Q2):Nat->Q2
 |0,_,_=>none
 |n+1,vs,s=>eo c F aV (dI k1 k2 n) [k1,k2] pg.1 vs s
def eu (k1 k2:Q2) (n:Nat) (vs:List AV) (s:St):=(by dsimp only[dI,pg,go_sem,Int.reduceOfNat,Int.reduceNegSucc]:dI c F k1 k2 (n+1) vs s=_)
def j6:Un->List Q2->Nat->Q2
 | .z,[k1,k2]=>dI c F k1 k2
 |_,_=>fun _=>eZ
def kX:O2:=aW c F (j6 c F) ql.1 [x0,x1] s
def pW:=(by dsimp only[kX,ql, ↓j6,go_sem,Int.reduceOfNat,Int.reduceNegSucc]:kX c F x0 x1 s=_)
def oY:Sh:=(sq sl (sq (sq sl (sc (sq sl sl) sl)) (sq (sq sl (sb (sp 0 [0,1,5] [(1,[4]),(2,[])] (sq (sq sl (sc sl sl)) (sq (sb (sq sl (sc (sq sl sl) sl))) sl))))) (sq sl sl))))
def w9:PX 259 oY:=⟨_,by conv=>lhs;reduce⟩
def vN:PL 259 oY 0:=⟨_,by conv=>lhs;reduce⟩
def gU (k1 k2:Q2):Nat->Q2
 |0,_,_=>none
 |n+1,vs,s=>eo c F aV (gU k1 k2 n) [k1,k2] vN.1 vs s
def tJ (k1 k2:Q2) (n:Nat) (vs:List AV) (s:St):=(by dsimp only[gU,vN,go_sem,Int.reduceOfNat]:gU c F k1 k2 (n+1) vs s=_)
def oZ:Un->List Q2->Nat->Q2
 | .z,[k1,k2]=>gU c F k1 k2
 |_,_=>fun _=>eZ
def rN:O2:=aW c F (oZ c F) w9.1 [x0,x1] s
def IG:=(by dsimp only[rN,w9, ↓oZ,go_sem,Int.reduceOfNat]:rN c F x0 x1 s=_)
def Cp:Sh:=(sq sl (sq sl sl))
def Cq:PX 284 Cp:=⟨_,by conv=>lhs;reduce⟩
def yc:O2:=aW c F aV Cq.1 [x0,x1,x2,x3] s
def OS:=(by dsimp only[yc,Cq,go_sem,Int.reduceOfNat]:yc c F x0 x1 x2 x3 s=_)
def Cr:Sh:=(sq sl (sq sl sl))
def Cs:PX 285 Cr:=⟨_,by conv=>lhs;reduce⟩
def yd:O2:=aW c F aV Cs.1 [x0,x1,x2,x3] s
def OT:=(by dsimp only[yd,Cs,go_sem,Int.reduceOfNat]:yd c F x0 x1 x2 x3 s=_)
def Dy:Sh:=(sq sl (sq sl sl))
def Dz:PX 286 Dy:=⟨_,by conv=>lhs;reduce⟩
def Ap:O2:=aW c F aV Dz.1 [x0,x1] s
def Rn:=(by dsimp only[Ap,Dz,go_sem,Int.reduceOfNat]:Ap c F x0 x1 s=_)
def DA:Sh:=(sq sl (sq sl (sq (sb (sq sl (sc (sq sl sl) (sq sl (sc (sq sl sl) sl))))) (sq sl sl))))
def DB:PX 289 DA:=⟨_,by conv=>lhs;reduce⟩
def Aq:O2:=aW c F aV DB.1 [x0,x1,x2,x3] s
def Rh:=(by dsimp only[Aq,DB,go_sem,Int.reduceOfNat]:Aq c F x0 x1 x2 x3 s=_)
def DC:Sh:=(sq sl (sq (sq sl (sc (sq sl sl) sl)) (sq sl sl)))
def DD:PX 290 DC:=⟨_,by conv=>lhs;reduce⟩
def Ar:O2:=aW c F aV DD.1 [x0,x1,x2,x3] s
def Ri:=(by dsimp only[Ar,DD,go_sem,Int.reduceOfNat]:Ar c F x0 x1 x2 x3 s=_)
def DE:Sh:=(sq sl (sq (sq sl (sc (sq sl sl) sl)) (sq sl sl)))
def DF:PX 291 DE:=⟨_,by conv=>lhs;reduce⟩
def At:O2:=aW c F aV DF.1 [x0,x1] s
def Ro:=(by dsimp only[At,DF,go_sem,Int.reduceOfNat]:At c F x0 x1 s=_)
def DG:Sh:=(sq sl (sq sl sl))
def DH:PX 294 DG:=⟨_,by conv=>lhs;reduce⟩
def Au:O2:=aW c F aV DH.1 [x0,x1,x2,x3] s
def Rj:=(by dsimp only[Au,DH,go_sem,Int.reduceOfNat]:Au c F x0 x1 x2 x3 s=_)
def DI:Sh:=(sq sl (sq sl sl))
def DJ:PX 295 DI:=⟨_,by conv=>lhs;reduce⟩
def Av:O2:=aW c F aV DJ.1 [x0,x1,x2,x3] s
def Rk:=(by dsimp only[Av,DJ,go_sem,Int.reduceOfNat]:Av c F x0 x1 x2 x3 s=_)
def DK:Sh:=(sq sl (sq sl sl))
def DM:PX 296 DK:=⟨_,by conv=>lhs;reduce⟩
def Aw:O2:=aW c F aV DM.1 [x0,x1] s
def Rp:=(by dsimp only[Aw,DM,go_sem,Int.reduceOfNat]:Aw c F x0 x1 s=_)
def F7:Sh:=(sq sl (sq sl sl))
def F8:PX 299 F7:=⟨_,by conv=>lhs;reduce⟩
def By:O2:=aW c F aV F8.1 [x0,x1,x2,x3] s
def Tt:=(by dsimp only[By,F8,go_sem,Int.reduceOfNat]:By c F x0 x1 x2 x3 s=_)
def DN:Sh:=(sq sl (sq sl sl))
def DO:PX 300 DN:=⟨_,by conv=>lhs;reduce⟩
def Ay:O2:=aW c F aV DO.1 [x0,x1,x2,x3] s
def Rm:=(by dsimp only[Ay,DO,go_sem,Int.reduceOfNat]:Ay c F x0 x1 x2 x3 s=_)
def DP:Sh:=(sq sl (sq sl sl))
def DQ:PX 301 DP:=⟨_,by conv=>lhs;reduce⟩
def Az:O2:=aW c F aV DQ.1 [x0,x1] s
def Rq:=(by dsimp only[Az,DQ,go_sem,Int.reduceOfNat]:Az c F x0 x1 s=_)
def SG:Sh:=(sq sl (sq sl sl))
def SH:PX 303 SG:=⟨_,by conv=>lhs;reduce⟩
def P9:O2:=aW c F aV SH.1 [x0,x1,x2] s
def ab5:=(by dsimp only[P9,SH,go_sem,Int.reduceOfNat]:P9 c F x0 x1 x2 s=_)
def Vn:Sh:=(sq sl (sq sl sl))
def Vo:PX 320 Vn:=⟨_,by conv=>lhs;reduce⟩
def TC:O2:=aW c F aV Vo.1 [x0,x1] s
def aek:=(by dsimp only[TC,Vo,go_sem,Int.reduceOfNat]:TC c F x0 x1 s=_)
end
section
variable {c : ak} (hc : Sem c) (F : Nat) {x0 x1 x2 x3 x4 x5 x6 x7 x8 x9 x10 x11 : AV} {s : St} {r : AV × St}
include hc
theorem Gj (h:sU c F x0 s=some r):c 17 [x0] s=some (tidy s r):=hc.o1 F (p7 c F) p6 (by kernel_rfl) (by kernel_rfl) (fun _ _ _=>by kernel_rfl) (fun _ _ _ _=>by kernel_rfl) (by kernel_rfl) h
theorem CD (h:oN c F x0 s=some r):c 20 [x0] s=some (tidy s r):=hc.o0 F uQ (by kernel_rfl) (by kernel_rfl) h
theorem Pd (h:TB c F x0 s=some r):c 22 [x0] s=some (tidy s r):=hc.oL F (Mf c F) rD 5 (by kernel_rfl) (fun i hi=>match i,hi with|0,_=>eX 0 (by kernel_rfl) (fun _ _ _=>by kernel_rfl) (fun _ _ _ _=>by kernel_rfl)|1,_=>eX 1 (by kernel_rfl) (fun _ _ _=>by kernel_rfl) (fun _ _ _ _=>by kernel_rfl)|2,_=>eX 2 (by kernel_rfl) (fun _ _ _=>by kernel_rfl) (fun _ _ _ _=>by kernel_rfl)|3,_=>eX 3 (by kernel_rfl) (fun _ _ _=>by kernel_rfl) (fun _ _ _ _=>by kernel_rfl)|4,_=>eX 4 (by kernel_rfl) (fun _ _ _=>by kernel_rfl) (fun _ _ _ _=>by kernel_rfl)|n+5,h=>absurd h (by omega)) (by kernel_rfl) h
theorem CE (h:oO c F x0 x1 s=some r):c 24 [x0,x1] s=some (tidy s r):=hc.o0 F uS (by kernel_rfl) (by kernel_rfl) h
theorem IL (h:uU c F x0 s=some r):c 25 [x0] s=some (tidy s r):=hc.o0 F Aj (by kernel_rfl) (by kernel_rfl) h
theorem Gn (h:sV c F x0 x1 s=some r):c 40 [x0,x1] s=some (tidy s r):=hc.o1 F (qa c F) p8 (by kernel_rfl) (by kernel_rfl) (fun _ _ _=>by kernel_rfl) (fun _ _ _ _=>by kernel_rfl) (by kernel_rfl) h
theorem Fq (h:rE c F x0 x1 s=some r):c 61 [x0,x1] s=some (tidy s r):=hc.o1 F (oQ c F) oP (by kernel_rfl) (by kernel_rfl) (fun _ _ _=>by kernel_rfl) (fun _ _ _ _=>by kernel_rfl) (by kernel_rfl) h
theorem Ee (h:qb c F x0 s=some r):c 62 [x0] s=some (tidy s r):=hc.o1 F (nG c F) nF (by kernel_rfl) (by kernel_rfl) (fun _ _ _=>by kernel_rfl) (fun _ _ _ _=>by kernel_rfl) (by kernel_rfl) h
theorem Ef (h:qc c F x0 s=some r):c 63 [x0] s=some (tidy s r):=hc.o1 F (nI c F) nH (by kernel_rfl) (by kernel_rfl) (fun _ _ _=>by kernel_rfl) (fun _ _ _ _=>by kernel_rfl) (by kernel_rfl) h
theorem Gk (h:sW c F x0 s=some r):c 64 [x0] s=some (tidy s r):=hc.o1 F (qf c F) qd (by kernel_rfl) (by kernel_rfl) (fun _ _ _=>by kernel_rfl) (fun _ _ _ _=>by kernel_rfl) (by kernel_rfl) h
theorem Fj (h:rF c F x0 s=some r):c 65 [x0] s=some (tidy s r):=hc.o1 F (oT c F) oR (by kernel_rfl) (by kernel_rfl) (fun _ _ _=>by kernel_rfl) (fun _ _ _ _=>by kernel_rfl) (by kernel_rfl) h
theorem Vf (h:IX c F x0 s=some r):c 69 [x0] s=some (tidy s r):=hc.oL F (CO c F) xC 2 (by kernel_rfl) (fun i hi=>match i,hi with|0,_=>eX 0 (by kernel_rfl) (fun _ _ _=>by kernel_rfl) (fun _ _ _ _=>by kernel_rfl)|1,_=>eX 1 (by kernel_rfl) (fun _ _ _=>by kernel_rfl) (fun _ _ _ _=>by kernel_rfl)|n+2,h=>absurd h (by omega)) (by kernel_rfl) h
theorem JV (h:Mg c F x0 x1 s=some r):c 72 [x0,x1] s=some (tidy s r):=hc.o0 F PU (by kernel_rfl) (by kernel_rfl) h
theorem YB (h:PW c F x0 x1 s=some r):c 73 [x0,x1] s=some (tidy s r):=hc.o0 F SB (by kernel_rfl) (by kernel_rfl) h
theorem WA (h:Mh c F x0 x1 x2 s=some r):c 74 [x0,x1,x2] s=some (tidy s r):=hc.o1 F (FY c F) FX (by kernel_rfl) (by kernel_rfl) (fun _ _ _=>by kernel_rfl) (fun _ _ _ _=>by kernel_rfl) (by kernel_rfl) h
theorem WJ (h:Mi c F x0 x1 x2 s=some r):c 75 [x0,x1,x2] s=some (tidy s r):=hc.o0 F PZ (by kernel_rfl) (by kernel_rfl) h
theorem U5 (h:IY c F x0 x1 x2 s=some r):c 76 [x0,x1,x2] s=some (tidy s r):=hc.o0 F M7 (by kernel_rfl) (by kernel_rfl) h
theorem WL (h:Mj c F x0 x1 x2 s=some r):c 77 [x0,x1,x2] s=some (tidy s r):=hc.o0 F P4 (by kernel_rfl) (by kernel_rfl) h
theorem U6 (h:IZ c F x0 x1 x2 s=some r):c 78 [x0,x1,x2] s=some (tidy s r):=hc.o0 F M9 (by kernel_rfl) (by kernel_rfl) h
theorem NM (h:Al c F x0 x1 s=some r):c 79 [x0,x1] s=some (tidy s r):=hc.oL F (wh c F) lF 3 (by kernel_rfl) (fun i hi=>match i,hi with|0,_=>eX 0 (by kernel_rfl) (fun _ _ _=>by kernel_rfl) (fun _ _ _ _=>by kernel_rfl)|1,_=>eX 1 (by kernel_rfl) (fun _ _ _=>by kernel_rfl) (fun _ _ _ _=>by kernel_rfl)|2,_=>eX 2 (by kernel_rfl) (fun _ _ _=>by kernel_rfl) (fun _ _ _ _=>by kernel_rfl)|n+3,h=>absurd h (by omega)) (by kernel_rfl) h
theorem yw (h:pz c F x0 x1 x2 s=some r):c 81 [x0,x1,x2] s=some (tidy s r):=hc.o0 F AZ (by kernel_rfl) (by kernel_rfl) h
theorem AR (h:Am c F x0 x1 x2 s=some r):c 82 [x0,x1,x2] s=some (tidy s r):=hc.o0 F Ds (by kernel_rfl) (by kernel_rfl) h
theorem Eg (h:qg c F x0 x1 s=some r):c 85 [x0,x1] s=some (tidy s r):=hc.o1 F (nK c F) nJ (by kernel_rfl) (by kernel_rfl) (fun _ _ _=>by kernel_rfl) (fun _ _ _ _=>by kernel_rfl) (by kernel_rfl) h
theorem Eh (h:qh c F x0 x1 s=some r):c 86 [x0,x1] s=some (tidy s r):=hc.o1 F (nN c F) nM (by kernel_rfl) (by kernel_rfl) (fun _ _ _=>by kernel_rfl) (fun _ _ _ _=>by kernel_rfl) (by kernel_rfl) h
theorem Gp (h:sX c F x0 x1 s=some r):c 87 [x0,x1] s=some (tidy s r):=hc.o1 F (qj c F) qi (by kernel_rfl) (by kernel_rfl) (fun _ _ _=>by kernel_rfl) (fun _ _ _ _=>by kernel_rfl) (by kernel_rfl) h
theorem NL (h:An c F x0 s=some r):c 88 [x0] s=some (tidy s r):=hc.o0 F Du (by kernel_rfl) (by kernel_rfl) h
theorem B9 (h:nO c F x0 x1 s=some r):c 95 [x0,x1] s=some (tidy s r):=hc.o0 F tO (by kernel_rfl) (by kernel_rfl) h
theorem Fk (h:rG c F x0 s=some r):c 128 [x0] s=some (tidy s r):=hc.o0 F wQ (by kernel_rfl) (by kernel_rfl) h
theorem Fl (h:rH c F x0 s=some r):c 129 [x0] s=some (tidy s r):=hc.o0 F wS (by kernel_rfl) (by kernel_rfl) h
theorem kF (h:iK c F x0 s=some r):c 154 [x0] s=some (tidy s r):=hc.o0 F lH (by kernel_rfl) (by kernel_rfl) h
theorem uD (h:rI c F x0 s=some r):c 155 [x0] s=some (tidy s r):=hc.o0 F wU (by kernel_rfl) (by kernel_rfl) h
theorem kG (h:iL c F x0 s=some r):c 156 [x0] s=some (tidy s r):=hc.o0 F lK (by kernel_rfl) (by kernel_rfl) h
theorem mR (h:jZ c F x0 s=some r):c 158 [x0] s=some (tidy s r):=hc.o0 F oC (by kernel_rfl) (by kernel_rfl) h
theorem lu (h:jC c F x0 s=some r):c 159 [x0] s=some (tidy s r):=hc.o0 F mV (by kernel_rfl) (by kernel_rfl) h
theorem JS (h:Ml c F x0 x1 s=some r):c 163 [x0,x1] s=some (tidy s r):=hc.o1 F (F0 c F) FZ (by kernel_rfl) (by kernel_rfl) (fun _ _ _=>by kernel_rfl) (fun _ _ _ _=>by kernel_rfl) (by kernel_rfl) h
theorem U7 (h:I0 c F x0 s=some r):c 164 [x0] s=some (tidy s r):=hc.o1 F (CQ c F) CP (by kernel_rfl) (by kernel_rfl) (fun _ _ _=>by kernel_rfl) (fun _ _ _ _=>by kernel_rfl) (by kernel_rfl) h
theorem Yy (h:P7 c F x0 x1 x2 s=some r):c 165 [x0,x1,x2] s=some (tidy s r):=hc.o0 F SD (by kernel_rfl) (by kernel_rfl) h
theorem U2 (h:I6 c F x0 x1 x2 s=some r):c 166 [x0,x1,x2] s=some (tidy s r):=hc.o0 F Nd (by kernel_rfl) (by kernel_rfl) h
theorem U3 (h:I7 c F x0 x1 x2 s=some r):c 167 [x0,x1,x2] s=some (tidy s r):=hc.o0 F Ng (by kernel_rfl) (by kernel_rfl) h
theorem AS (h:Ao c F x0 x1 s=some r):c 172 [x0,x1] s=some (tidy s r):=hc.o0 F Dw (by kernel_rfl) (by kernel_rfl) h
theorem kP (h:jd c F x0 x1 s=some r):c 173 [x0,x1] s=some (tidy s r):=hc.o1 F (iE c F) iD (by kernel_rfl) (by kernel_rfl) (fun _ _ _=>by kernel_rfl) (fun _ _ _ _=>by kernel_rfl) (by kernel_rfl) h
theorem Gt (h:sY c F x0 x1 s=some r):c 174 [x0,x1] s=some (tidy s r):=hc.o0 F yP (by kernel_rfl) (by kernel_rfl) h
theorem wF (h:jL c F x0 x1 s=some r):c 175 [x0,x1] s=some (tidy s r):=hc.o0 F ny (by kernel_rfl) (by kernel_rfl) h
theorem Fs (h:rJ c F x0 x1 s=some r):c 189 [x0,x1] s=some (tidy s r):=hc.o0 F wW (by kernel_rfl) (by kernel_rfl) h
theorem Ft (h:rK c F x0 x1 s=some r):c 190 [x0,x1] s=some (tidy s r):=hc.o0 F wY (by kernel_rfl) (by kernel_rfl) h
theorem Fc (h:rL c F x0 x1 s=some r):c 194 [x0,x1] s=some (tidy s r):=hc.o1 F (oV c F) oU (by kernel_rfl) (by kernel_rfl) (fun _ _ _=>by kernel_rfl) (fun _ _ _ _=>by kernel_rfl) (by kernel_rfl) h
theorem Fi (h:rM c F x0 s=some r):c 224 [x0] s=some (tidy s r):=hc.o1 F (oX c F) oW (by kernel_rfl) (by kernel_rfl) (fun _ _ _=>by kernel_rfl) (fun _ _ _ _=>by kernel_rfl) (by kernel_rfl) h
theorem Wz (h:Mm c F x0 x1 s=some r):c 247 [x0,x1] s=some (tidy s r):=hc.oL F (F6 c F) uZ 3 (by kernel_rfl) (fun i hi=>match i,hi with|0,_=>eX 0 (by kernel_rfl) (fun _ _ _=>by kernel_rfl) (fun _ _ _ _=>by kernel_rfl)|1,_=>eX 1 (by kernel_rfl) (fun _ _ _=>by kernel_rfl) (fun _ _ _ _=>by kernel_rfl)|2,_=>eX 2 (by kernel_rfl) (fun _ _ _=>by kernel_rfl) (fun _ _ _ _=>by kernel_rfl)|n+3,h=>absurd h (by omega)) (by kernel_rfl) h
theorem lD (h:jD c F x0 x1 s=some r):c 253 [x0,x1] s=some (tidy s r):=hc.o1 F (iN c F) iM (by kernel_rfl) (by kernel_rfl) (fun _ _ _=>by kernel_rfl) (fun _ _ _ _=>by kernel_rfl) (by kernel_rfl) h
theorem oB (h:kX c F x0 x1 s=some r):c 254 [x0,x1] s=some (tidy s r):=hc.o1 F (j6 c F) j5 (by kernel_rfl) (by kernel_rfl) (fun _ _ _=>by kernel_rfl) (fun _ _ _ _=>by kernel_rfl) (by kernel_rfl) h
theorem Fp (h:rN c F x0 x1 s=some r):c 259 [x0,x1] s=some (tidy s r):=hc.o1 F (oZ c F) oY (by kernel_rfl) (by kernel_rfl) (fun _ _ _=>by kernel_rfl) (fun _ _ _ _=>by kernel_rfl) (by kernel_rfl) h
theorem LP (h:yc c F x0 x1 x2 x3 s=some r):c 284 [x0,x1,x2,x3] s=some (tidy s r):=hc.o0 F Cp (by kernel_rfl) (by kernel_rfl) h
theorem LQ (h:yd c F x0 x1 x2 x3 s=some r):c 285 [x0,x1,x2,x3] s=some (tidy s r):=hc.o0 F Cr (by kernel_rfl) (by kernel_rfl) h
theorem NH (h:Ap c F x0 x1 s=some r):c 286 [x0,x1] s=some (tidy s r):=hc.o0 F Dy (by kernel_rfl) (by kernel_rfl) h
theorem NB (h:Aq c F x0 x1 x2 x3 s=some r):c 289 [x0,x1,x2,x3] s=some (tidy s r):=hc.o0 F DA (by kernel_rfl) (by kernel_rfl) h
theorem NC (h:Ar c F x0 x1 x2 x3 s=some r):c 290 [x0,x1,x2,x3] s=some (tidy s r):=hc.o0 F DC (by kernel_rfl) (by kernel_rfl) h
theorem NI (h:At c F x0 x1 s=some r):c 291 [x0,x1] s=some (tidy s r):=hc.o0 F DE (by kernel_rfl) (by kernel_rfl) h
theorem ND (h:Au c F x0 x1 x2 x3 s=some r):c 294 [x0,x1,x2,x3] s=some (tidy s r):=hc.o0 F DG (by kernel_rfl) (by kernel_rfl) h
theorem NF (h:Av c F x0 x1 x2 x3 s=some r):c 295 [x0,x1,x2,x3] s=some (tidy s r):=hc.o0 F DI (by kernel_rfl) (by kernel_rfl) h
theorem NJ (h:Aw c F x0 x1 s=some r):c 296 [x0,x1] s=some (tidy s r):=hc.o0 F DK (by kernel_rfl) (by kernel_rfl) h
theorem OU (h:By c F x0 x1 x2 x3 s=some r):c 299 [x0,x1,x2,x3] s=some (tidy s r):=hc.o0 F F7 (by kernel_rfl) (by kernel_rfl) h
theorem NG (h:Ay c F x0 x1 x2 x3 s=some r):c 300 [x0,x1,x2,x3] s=some (tidy s r):=hc.o0 F DN (by kernel_rfl) (by kernel_rfl) h
theorem NK (h:Az c F x0 x1 s=some r):c 301 [x0,x1] s=some (tidy s r):=hc.o0 F DP (by kernel_rfl) (by kernel_rfl) h
theorem Yx (h:P9 c F x0 x1 x2 s=some r):c 303 [x0,x1,x2] s=some (tidy s r):=hc.o0 F SG (by kernel_rfl) (by kernel_rfl) h
theorem aaZ (h:TC c F x0 x1 s=some r):c 320 [x0,x1] s=some (tidy s r):=hc.o0 F Vn (by kernel_rfl) (by kernel_rfl) h
end
end
end Go.Proofs.YthiaklapeamjlaaGreatDoor
