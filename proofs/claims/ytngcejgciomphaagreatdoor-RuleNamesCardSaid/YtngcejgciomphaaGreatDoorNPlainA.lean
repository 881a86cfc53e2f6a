/- Functions, plainly. -/
import Derived.Test.YtngcejgciomphaaGreatDoorNWalk
set_option linter.all false
set_option maxRecDepth 100000
set_option maxHeartbeats 4000000
namespace Go.Proofs.YtngcejgciomphaaGreatDoor
section
open Go Go.Ai Go.Proofs
abbrev fO(l:List Int):List AV:=l.map (AV.int .i64)
def MS:List AV->Option (List Int)
 |[]=>some []
 |  .int .i64 x::l=>match MS l with
    |some r=>some (x::r)
    |none=>none
 |_=>none
def AQ(l:List Int):List Int:=l.mergeSort λx y=>decide (x<=y)
def rowOf(st:St)(b:Pos)(o n:Nat):Option (List AV×List Int):=match st.heap.get b with
 |  some (.cells cs 0)=>match MS ((cs.drop o).take n)with
    |some zs=>match Nat.beq zs.length n&&Nat.ble n 1000000 with
     |true=>some (cs,zs)
     |false=>none
    |none=>none
 |_=>none
def laid(st:St)(b:Pos)(cs:List AV)(o:Nat)(zs:List Int):St:=st.br none (some (b,.cells (aZ cs o (fO zs)) 0)) none
def KG:List AV->St->Option (AV×St)
 |[.af],st=>some (.tuple [],st)
 |  [.slice b o n _ 1],st=>match n with
    |0=>some (.tuple [],st)
    |n+1=>match rowOf st b o (n+1)with
     |some (cs,zs)=>some (.tuple [],laid st b cs o (AQ zs))
     |none=>none
 |_,_=>none
def yc:List AV->St->Option (AV×St)
 |[.af],st=>some (.af,st)
 |  [.slice b o n cp 1],st=>match n with
    |0=>some (.slice b o 0 cp 1,st)
    |n+1=>match rowOf st b o (n+1)with
     |some (cs,zs)=>some (.slice b o (Lib.compact zs).length cp 1,laid st b cs o (Lib.compact zs++List.replicate (zs.length - (Lib.compact zs).length) 0))
     |none=>none
 |_,_=>none
theorem Va(zs:List Int):(Lib.compact zs).length<=zs.length:=by
 unfold Lib.compact Lib.compactUpTo;rw[Zb9];exact Zb7 (Zo1 _ _) (by simp)
theorem ad8(zs:List Int)(x:Int):x∈Lib.compact zs↔x∈zs:=by
 unfold Lib.compact Lib.compactUpTo;simp only[Zd0,Zk2,Zi5];constructor
 .rintro⟨i,⟨hi,_⟩,rfl⟩;simp[getElem!_pos,hi]
 . intro hx;obtain⟨n,hn,rfl⟩:=Zf0.1 hx
   suffices h:∀m n,n<=m->(hn:n<zs.length)->∃i,(i<zs.length/\Lib.keeps zs.toArray i=true)/\zs.toArray[i]! =zs[n]by
    obtain⟨i,h1,h2⟩:=h n n (Za6 _) hn;exact⟨i,h1,h2⟩
   intro m;induction m with
   |zero=>
    intro n hm hn;have:n=0:=(by omega);subst this;exact⟨0,⟨hn,Lib.keeps_lt_one _ 0 (by omega)⟩,by simp[getElem!_pos,hn]⟩
   |succ m ih=>
    intro n hm hn;by_cases h0:n=0
    .   subst h0;exact⟨0,⟨hn,Lib.keeps_lt_one _ 0 (by omega)⟩,by simp[getElem!_pos,hn]⟩
    by_cases he:zs[n]=zs[n - 1]'(by omega)
    .   obtain⟨i,h1,h2⟩:=ih (n - 1) (by omega) (by omega);exact⟨i,h1,h2.trans he.symm⟩
    .   refine⟨n,⟨hn,Lib.keeps_pos ?_⟩,by simp[getElem!_pos,hn]⟩;simpa [getElem!_pos,hn,show n - 1<zs.length by omega]using he
theorem ahS(zs:List Int)(x:Int):x∈AQ zs↔x∈zs:=by unfold AQ;exact(List.mergeSort_perm _ _).mem_iff
theorem Fo(zs:List Int):(AQ zs).length=zs.length:=by unfold AQ;exact List.length_mergeSort _
end
noncomputable section
open Go Go.Ai Go.Proofs
def sY:eE:=uC [(266,Eo),(5,TV),(37,KG),(38,yc)]
def Sem(c:aq):Prop:=c=run sY gg
def gA(f:Nat):dF:=wU gg f
abbrev PX(f:Nat)(s:Sh):={a:Tx // txF (gA f) s=a}
abbrev PL(f:Nat)(s:Sh)(i:Nat):={a:List Pos×Tx // txL (jR (gA f) s i)=a}
theorem Sem.o0{c:aq}(hc:Sem c)(F:Nat){f:FuncId}{args:List AV}{st:St}{r:AV×St}(s:Sh)(hk:(DW (sY f)&& !DW (gg.get (key f))&&(gC (gA f).code s).isEmpty)=true)
  {k:O2} (hd:Lp c F (afA []) (gA f) s args st=k) (h:k=some r):c f args st=some (tidy st r):=by
 subst hc;exact ak9 s hk hd h
theorem Sem.o1{c:aq}(hc:Sem c)(F:Nat){f:FuncId}{args:List AV}{st:St}{r:AV×St}(Ls:Un->List Q2->Nat->Q2)(s:Sh)(hk:(DW (sY f)&& !DW (gg.get (key f))&&Nat.beq (gC (gA f).code s).length 1)=true)
  (hs:(ab2 (jR (gA f) s 0).2&&Nat.beq (lpJ (jR (gA f) s 0).2) 0)=true) (h0:∀K' vs st,zJ Ls (gA f) s 0 K' 0 vs st=none)
  (h1:∀K' n vs st,zJ Ls (gA f) s 0 K' (n+1) vs st=RW (den c F (zJ Ls (gA f) s) (jR (gA f) s 0).1 (lpB (jR (gA f) s 0).2)) (lpI (jR (gA f) s 0).2) (lpO (jR (gA f) s 0).2) K' (zJ Ls (gA f) s 0 K' n) vs st)
  {k:O2} (hd:Lp c F (zJ Ls (gA f) s) (gA f) s args st=k) (h:k=some r):c f args st=some (tidy st r):=by
 subst hc;exact ala Ls s hk hs h0 h1 hd h
theorem Sem.oL{c:aq}(hc:Sem c)(F:Nat){f:FuncId}{args:List AV}{st:St}{r:AV×St}(Ls:Un->List Q2->Nat->Q2)(s:Sh)(n:Nat)(hk:(DW (sY f)&& !DW (gg.get (key f))&&Nat.beq (gC (gA f).code s).length n)=true)
  (hL:∀i,i<n->CI c F (zJ Ls (gA f) s) (jR (gA f) s i).1 (jR (gA f) s i).2) {k:O2} (hd:Lp c F (zJ Ls (gA f) s) (gA f) s args st=k) (h:k=some r):c f args st=some (tidy st r):=by
 subst hc;exact YQ Ls s n hk hL hd h
end
noncomputable section
open Go Go.Ai Go.Proofs
attribute [local go_sem ↓] bl su ev XB Bv getLT y8 Lv Sa wS wT It E6 E7 E8 Bw Bx By Bz BA BB E9 Fa BC BD BE BF BG Ku Kv Kw
attribute [local go_sem] bl su ev
section
variable(c:aq)(F:Nat)(x0 x1 x2 x3 x4 x5 x6 x7 x8 x9 Fb Fc:AV)(s:St)
def Jc:Sh:=(sq sl (sq sl sl))
def Jd:PX 4 Jc:=⟨_,by conv=>lhs;reduce⟩
def EF:O2:=bl c F bn Jd.1 [x0,x1] s
def Wk:=(by dsimp only[EF,Jd,go_sem,Int.reduceOfNat]:EF c F x0 x1 s=_)
def uN:Sh:=(sq sl (sq sl (sq (sq sl (sc (sq sl sl) sl)) (sq (sq sl (sb (sp 0 [1,6] [(1,[2,3]),(2,[])] (sq (sq sl (sc sl sl)) (sq (sb (sq (sq sl (sq sl (sc (sq sl sl) sl))) (sq sl (sc (sq sl sl) sl)))) sl))))) (sq sl sl)))))
def Dd:PX 29 uN:=⟨_,by conv=>lhs;reduce⟩
def BN:PL 29 uN 0:=⟨_,by conv=>lhs;reduce⟩
def ja(k1 k2:Q2):Nat->Q2
 |0,_,_=>none
 |n+1,vs,s=>cS c F bn (ja k1 k2 n) [k1,k2] BN.1 vs s
def qk(k1 k2:Q2)(n:Nat)(vs:List AV)(s:St):=(by dsimp only[ja,BN,go_sem,Int.reduceOfNat]:ja c F k1 k2 (n+1) vs s=_)
def uO:Un->List Q2->Nat->Q2
 |.z,[k1,k2]=>ja c F k1 k2
 |_,_=>λ_=>dQ
def yB:O2:=bl c F (uO c F) Dd.1 [x0] s
def Pg:=(by dsimp only[yB,Dd, ↓uO,go_sem,Int.reduceOfNat]:yB c F x0 s=_)
def Je:Sh:=(sq sl (sq (sq sl (sq sl (sc (sq sl sl) sl))) (sq sl (sq (sq sl (sb (sp 0 [1,6,21,22,23] [(1,[2,3]),(2,[])] (sq sl (sq (sc sl sl) (sq (sb (sq sl (sq (sq sl (sq sl (sc (sq sl sl) sl))) (sq sl (sc (sq sl sl) sl))))) sl)))))) (sq sl sl)))))
def SQ:PX 30 Je:=⟨_,by conv=>lhs;reduce⟩
def Qi:PL 30 Je 0:=⟨_,by conv=>lhs;reduce⟩
def vE(k1 k2:Q2):Nat->Q2
 |0,_,_=>none
 |n+1,vs,s=>cS c F bn (vE k1 k2 n) [k1,k2] Qi.1 vs s
def CY(k1 k2:Q2)(n:Nat)(vs:List AV)(s:St):=(by dsimp only[vE,Qi,go_sem,Int.reduceOfNat]:vE c F k1 k2 (n+1) vs s=_)
def Jf:Un->List Q2->Nat->Q2
 |.z,[k1,k2]=>vE c F k1 k2
 |_,_=>λ_=>dQ
def Pp:O2:=bl c F (Jf c F) SQ.1 [x0] s
def Ss:=(by dsimp only[Pp,SQ, ↓Jf,go_sem,Int.reduceOfNat]:Pp c F x0 s=_)
def Jg:Sh:=(sq sl (sq (sq sl (sc (sq sl sl) sl)) (sq sl (sq (sq sl (sb (sp 0 [5,23,24,25] [(2,[5])] (sq sl (sq (sc sl sl) (sq (sb (sq sl sl)) sl)))))) (sq sl sl)))))
def SR:PX 35 Jg:=⟨_,by conv=>lhs;reduce⟩
def Qj:PL 35 Jg 0:=⟨_,by conv=>lhs;reduce⟩
def vC(k2:Q2):Nat->Q2
 |0,_,_=>none
 |n+1,vs,s=>cS c F bn (vC k2 n) [k2] Qj.1 vs s
def CR(k2:Q2)(n:Nat)(vs:List AV)(s:St):=(by dsimp only[vC,Qj,go_sem,Int.reduceOfNat]:vC c F k2 (n+1) vs s=_)
def Jh:Un->List Q2->Nat->Q2
 |.z,[k2]=>vC c F k2
 |_,_=>λ_=>dQ
def Pq:O2:=bl c F (Jh c F) SR.1 [x0,x1] s
def Sk:=(by dsimp only[Pq,SR, ↓Jh,go_sem,Int.reduceOfNat]:Pq c F x0 x1 s=_)
def uP:Sh:=(sq sl (sq sl (sq (sq sl (sb (sp 0 [0,1,5,6] [(2,[5])] (sq (sq sl (sc sl sl)) (sq (sb sl) sl))))) (sq sl sl))))
def De:PX 49 uP:=⟨_,by conv=>lhs;reduce⟩
def BO:PL 49 uP 0:=⟨_,by conv=>lhs;reduce⟩
def fk(k2:Q2):Nat->Q2
 |0,_,_=>none
 |n+1,vs,s=>cS c F bn (fk k2 n) [k2] BO.1 vs s
def mE(k2:Q2)(n:Nat)(vs:List AV)(s:St):=(by dsimp only[fk,BO,go_sem,Int.reduceOfNat]:fk c F k2 (n+1) vs s=_)
def uQ:Un->List Q2->Nat->Q2
 |.z,[k2]=>fk c F k2
 |_,_=>λ_=>dQ
def yC:O2:=bl c F (uQ c F) De.1 [x0,x1] s
def CX:=(by dsimp only[yC,De, ↓uQ,go_sem,Int.reduceOfNat]:yC c F x0 x1 s=_)
def D6:Sh:=(sq sl (sj [] (sq sl (sb (sq sl (sc (sq sl (sc (sq sl sl) sl)) (sq sl (sc (sq sl (sc (sq sl sl) sl)) (sq sl (sc (sq sl (sc (sq sl sl) sl)) (sq sl (sc (sq sl (sc (sq sl sl) sl)) sl)))))))))) (sq sl sl)))
def D7:PX 50 D6:=⟨_,by conv=>lhs;reduce⟩
def zO:O2:=bl c F bn D7.1 [x0] s
def QL:=(by dsimp only[zO,D7,go_sem,Int.reduceOfNat]:zO c F x0 s=_)
def SS:Sh:=(sq sl (sq sl sl))
def SU:PX 52 SS:=⟨_,by conv=>lhs;reduce⟩
def Pr:O2:=bl c F bn SU.1 [] s
def acX:=(by dsimp only[Pr,SU,go_sem,Int.reduceOfNat]:Pr c F s=_)
def SV:Sh:=(sq sl (sq (sq sl (sc (sq sl sl) sl)) (sq sl sl)))
def SW:PX 53 SV:=⟨_,by conv=>lhs;reduce⟩
def Pt:O2:=bl c F bn SW.1 [x0] s
def acG:=(by dsimp only[Pt,SW,go_sem,Int.reduceOfNat]:Pt c F x0 s=_)
def Df:Sh:=(sq sl (sq sl (sq (sq sl (sb (sp 0 [1,5,14,15,16] [(1,[2,3,4]),(2,[1,5])] (sq sl (sq (sc sl sl) (sq (sb (sq sl (sq sl (sq sl (sc (sq sl sl) sl))))) sl)))))) (sq (sq sl (sb (sp 1 [1,5,30,31,32] [(1,[2,3,4]),(4,[5])] (sq sl (sq (sc sl sl) (sj [1,5,30,31,32] (sb (sq sl (sq sl (sj [1,5,9,11,30,31,32] (sq sl (sc sl sl)) (sq sl (sc (sq sl sl) sl)))))) sl)))))) (sq sl sl)))))
def SX:PX 62 Df:=⟨_,by conv=>lhs;reduce⟩
def Qk:PL 62 Df 1:=⟨_,by conv=>lhs;reduce⟩
def mb(k1 k4:Q2):Nat->Q2
 |0,_,_=>none
 |n+1,vs,s=>cS c F bn (mb k1 k4 n) [k1,k4] Qk.1 vs s
def xx(k1 k4:Q2)(n:Nat)(vs:List AV)(s:St):=(by dsimp only[mb,Qk,go_sem,Int.reduceOfNat]:mb c F k1 k4 (n+1) vs s=_)
def Ql:PL 62 Df 0:=⟨_,by conv=>lhs;reduce⟩
def kA(k1 k2:Q2):Nat->Q2
 |0,_,_=>none
 |n+1,vs,s=>cS c F bn (kA k1 k2 n) [k1,k2] Ql.1 vs s
def xw(k1 k2:Q2)(n:Nat)(vs:List AV)(s:St):=(by dsimp only[kA,Ql,go_sem,Int.reduceOfNat]:kA c F k1 k2 (n+1) vs s=_)
def Ji:Un->List Q2->Nat->Q2
 |.z,[k1,k2]=>kA c F k1 k2
 |(.s .z),[k1,k4]=>mb c F k1 k4
 |_,_=>λ_=>dQ
def CW:O2:=bl c F (Ji c F) SX.1 [x0] s
def acS:=(by dsimp only[CW,SX, ↓Ji,go_sem,Int.reduceOfNat]:CW c F x0 s=_)
def uR:Sh:=(sq sl (sq sl (sq (sq sl (sc (sq sl sl) sl)) (sq sl (sq (sq sl (sc (sq sl sl) sl)) (sq (sq sl (sc (sq sl sl) sl)) (sq (sq sl (sb (sp 0 [1,7] [(1,[2,3]),(2,[1])] (sq (sq sl (sc sl sl)) (sq (sb (sq sl (sc (sq sl sl) sl))) sl))))) (sq (sq sl (sc (sq sl sl) sl)) (sq sl sl)))))))))
def Dg:PX 72 uR:=⟨_,by conv=>lhs;reduce⟩
def BP:PL 72 uR 0:=⟨_,by conv=>lhs;reduce⟩
def iZ(k1 k2:Q2):Nat->Q2
 |0,_,_=>none
 |n+1,vs,s=>cS c F bn (iZ k1 k2 n) [k1,k2] BP.1 vs s
def zh(k1 k2:Q2)(n:Nat)(vs:List AV)(s:St):=(by dsimp only[iZ,BP,go_sem,Int.reduceOfNat]:iZ c F k1 k2 (n+1) vs s=_)
def uS:Un->List Q2->Nat->Q2
 |.z,[k1,k2]=>iZ c F k1 k2
 |_,_=>λ_=>dQ
def yD:O2:=bl c F (uS c F) Dg.1 [x0] s
def O9:=(by dsimp only[yD,Dg, ↓uS,go_sem,Int.reduceOfNat]:yD c F x0 s=_)
def Dh:Sh:=(sq sl (sq sl (sq (sq sl (sc (sq sl sl) sl)) (sq (sq sl (sc (sq sl sl) sl)) (sq (sq sl (sc (sq sl sl) sl)) (sq (sq sl (sc (sq sl sl) sl)) (sq (sq sl (sc (sq sl sl) sl)) (sq (sq sl (sc (sq sl sl) sl)) (sq (sq sl (sc (sq sl sl) sl)) (sq sl (sq (sq sl (sc (sq sl sl) sl)) (sq sl (sq sl (sj [2,3,5,6,7,8] (sq sl (sc sl sl)) (sj [3,5,7,8] (sq sl (sc sl sl)) (sq (sq sl (sc (sq sl sl) sl)) (sq sl sl)))))))))))))))))
def Di:PX 73 Dh:=⟨_,by conv=>lhs;reduce⟩
def yE:O2:=bl c F bn Di.1 [x0,x1] s
def Pe:=(by dsimp only[yE,Di,go_sem,Int.reduceOfNat]:yE c F x0 x1 s=_)
def Jj:Sh:=(sq sl (sq (sq sl (sq sl (sc (sq sl sl) sl))) (sq (sq sl (sq sl (sc (sq sl sl) sl))) (sq (sq sl (sc (sq sl sl) sl)) (sq (sq sl (sb (sp 0 [1,47,48,49] [(1,[2,3]),(2,[1])] (sq sl (sq (sc sl sl) (sq (sb (sq sl (sq sl (sc (sq sl sl) sl)))) sl)))))) (sq (sq sl (sc (sq sl sl) sl)) (sq sl sl)))))))
def SY:PX 74 Jj:=⟨_,by conv=>lhs;reduce⟩
def Qm:PL 74 Jj 0:=⟨_,by conv=>lhs;reduce⟩
def qF(k1 k2:Q2):Nat->Q2
 |0,_,_=>none
 |n+1,vs,s=>cS c F bn (qF k1 k2 n) [k1,k2] Qm.1 vs s
def KN(k1 k2:Q2)(n:Nat)(vs:List AV)(s:St):=(by dsimp only[qF,Qm,go_sem,Int.reduceOfNat]:qF c F k1 k2 (n+1) vs s=_)
def Jk:Un->List Q2->Nat->Q2
 |.z,[k1,k2]=>qF c F k1 k2
 |_,_=>λ_=>dQ
def Pu:O2:=bl c F (Jk c F) SY.1 [x0] s
def acT:=(by dsimp only[Pu,SY, ↓Jk,go_sem,Int.reduceOfNat]:Pu c F x0 s=_)
def Gl:Sh:=(sq sl (sj [3,4,5] (sb (sq sl (sc (sq sl sl) (sq sl (sc (sq sl sl) (sq sl (sc (sq sl sl) (sj [3,4,5,28] (sq sl (sc sl (sq sl (sc sl sl)))) (sc (sq sl sl) (sq sl (sc (sq sl sl) (sq sl (sc (sq sl sl) sl))))))))))))) (sq sl (sq (sq sl (sc (sq sl sl) sl)) (sq sl (sj [3,5,9] (sq sl (sc sl sl)) (sq (sq sl (sc (sq sl sl) sl)) (sq sl sl))))))))
def Gm:PX 75 Gl:=⟨_,by conv=>lhs;reduce⟩
def Dj:O2:=bl c F bn Gm.1 [x0,x1,x2] s
def Ur:=(by dsimp only[Dj,Gm,go_sem,Int.reduceOfNat]:Dj c F x0 x1 x2 s=_)
def SZ:Sh:=(sq sl (sq sl (sq sl sl)))
def S0:PX 77 SZ:=⟨_,by conv=>lhs;reduce⟩
def Pv:O2:=bl c F bn S0.1 [x0] s
def acF:=(by dsimp only[Pv,S0,go_sem,Int.reduceOfNat]:Pv c F x0 s=_)
def Vm:Sh:=(sq sl (sq sl (sq (sq sl (sc (sq sl sl) sl)) (sq sl sl))))
def Vn:PX 78 Vm:=⟨_,by conv=>lhs;reduce⟩
def S6:O2:=bl c F bn Vn.1 [x0] s
def adT:=(by dsimp only[S6,Vn,go_sem,Int.reduceOfNat]:S6 c F x0 s=_)
def td:Sh:=(sq sl (sq (sq sl (sc (sq sl sl) sl)) (sq sl sl)))
def th:PX 89 td:=⟨_,by conv=>lhs;reduce⟩
def n8:O2:=bl c F bn th.1 [x0] s
def jD:=(by dsimp only[n8,th,go_sem,Int.reduceOfNat]:n8 c F x0 s=_)
def BQ:Sh:=(sq sl (sq sl sl))
def BR:PX 95 BQ:=⟨_,by conv=>lhs;reduce⟩
def vZ:O2:=bl c F bn BR.1 [x0,x1,x2] s
def MT:=(by dsimp only[vZ,BR,go_sem,Int.reduceOfNat]:vZ c F x0 x1 x2 s=_)
def KY:Sh:=(sq sl (sq (sq sl (sc (sq sl sl) sl)) (sq sl sl)))
def KZ:PX 115 KY:=⟨_,by conv=>lhs;reduce⟩
def FQ:O2:=bl c F bn KZ.1 [x0] s
def XV:=(by dsimp only[FQ,KZ,go_sem,Int.reduceOfNat]:FQ c F x0 s=_)
def Vo:Sh:=(sq sl (sq sl sl))
def Vp:PX 120 Vo:=⟨_,by conv=>lhs;reduce⟩
def S7:O2:=bl c F bn Vp.1 [] s
def adZ:=(by dsimp only[S7,Vp,go_sem,Int.reduceOfNat]:S7 c F s=_)
def Jl:Sh:=(sq sl (sq (sq sl (sc (sq sl sl) sl)) (sq (sq sl (sq sl (sc (sq sl sl) sl))) (sq (sq sl (sq sl (sc (sq sl sl) sl))) (sq (sq sl (sc (sq sl sl) sl)) (sq sl (sq sl (sq sl sl))))))))
def Jm:PX 121 Jl:=⟨_,by conv=>lhs;reduce⟩
def y9:O2:=bl c F bn Jm.1 [x0,x1] s
def uG:=(by dsimp only[y9,Jm,go_sem,Int.reduceOfNat]:y9 c F x0 x1 s=_)
def Qn:Sh:=(sq sl (sq (sq sl (sq sl (sc (sq sl sl) sl))) (sq sl sl)))
def Qo:PX 122 Qn:=⟨_,by conv=>lhs;reduce⟩
def LW:O2:=bl c F bn Qo.1 [x0,x1] s
def aaL:=(by dsimp only[LW,Qo,go_sem,Int.reduceOfNat]:LW c F x0 x1 s=_)
def Ba:Sh:=(sq sl (sq (sq sl (sc (sq sl sl) sl)) (sq (sq sl (sc (sq sl sl) sl)) (sq (sq sl (sb (sp 0 [0,1,2,3,30,31,32] [(1,[8]),(2,[0,1,2,3])] (sq sl (sq (sc sl sl) (sq (sb (sq sl (sq sl (sq sl (sc (sq sl sl) sl))))) sl)))))) (sq sl (sq (sq sl (sc (sq sl sl) sl)) (sq (sq sl (sc (sq sl sl) sl)) (sq sl (sq sl sl)))))))))
def Jn:PX 123 Ba:=⟨_,by conv=>lhs;reduce⟩
def Gn:PL 123 Ba 0:=⟨_,by conv=>lhs;reduce⟩
def l8(k1 k2:Q2):Nat->Q2
 |0,_,_=>none
 |n+1,vs,s=>cS c F bn (l8 k1 k2 n) [k1,k2] Gn.1 vs s
def vX(k1 k2:Q2)(n:Nat)(vs:List AV)(s:St):=(by dsimp only[l8,Gn,go_sem,Int.reduceOfNat]:l8 c F k1 k2 (n+1) vs s=_)
def Bb:Un->List Q2->Nat->Q2
 |.z,[k1,k2]=>l8 c F k1 k2
 |_,_=>λ_=>dQ
def za:O2:=bl c F (Bb c F) Jn.1 [x0,x1,x2,x3] s
def uH:=(by dsimp only[za,Jn, ↓Bb,go_sem,Int.reduceOfNat]:za c F x0 x1 x2 x3 s=_)
def Gp:Sh:=(sq sl (sq sl sl))
def Gq:PX 128 Gp:=⟨_,by conv=>lhs;reduce⟩
def Dk:O2:=bl c F bn Gq.1 [x0] s
def Up:=(by dsimp only[Dk,Gq,go_sem,Int.reduceOfNat]:Dk c F x0 s=_)
def Fq:Sh:=(sq sl (sq sl sl))
def Fs:PX 129 Fq:=⟨_,by conv=>lhs;reduce⟩
def Bc:O2:=bl c F bn Fs.1 [x0,x1,x2] s
def Sr:=(by dsimp only[Bc,Fs,go_sem,Int.reduceOfNat]:Bc c F x0 x1 x2 s=_)
def mF:Sh:=(sq sl (sq (sq sl (sc (sq sl sl) sl)) (sq (sq sl (sb (sp 0 [0,4] [(1,[2,3]),(2,[])] (sq (sq sl (sc sl sl)) (sq (sb (sq (sq sl (sq sl (sc (sq sl sl) sl))) (sq sl (sb (sp 1 [0,4,6] [(1,[2,3]),(4,[0,4])] (sq (sq sl (sc sl sl)) (sq (sb (sq sl (sc (sq sl sl) sl))) sl))))))) sl))))) (sq sl sl))))
def zn:PX 139 mF:=⟨_,by conv=>lhs;reduce⟩
def yF:PL 139 mF 1:=⟨_,by conv=>lhs;reduce⟩
def eY(k1 k4:Q2):Nat->Q2
 |0,_,_=>none
 |n+1,vs,s=>cS c F bn (eY k1 k4 n) [k1,k4] yF.1 vs s
def vA(k1 k4:Q2)(n:Nat)(vs:List AV)(s:St):=(by dsimp only[eY,yF,go_sem,Int.reduceOfNat]:eY c F k1 k4 (n+1) vs s=_)
def yG:Un->List Q2->Nat->Q2
 |(.s .z),[k1,k4]=>eY c F k1 k4
 |_,_=>λ_=>dQ
def yH:PL 139 mF 0:=⟨_,by conv=>lhs;reduce⟩
def gH(k1 k2:Q2):Nat->Q2
 |0,_,_=>none
 |n+1,vs,s=>cS c F (yG c F) (gH k1 k2 n) [k1,k2] yH.1 vs s
def vB(k1 k2:Q2)(n:Nat)(vs:List AV)(s:St):=(by dsimp only[gH,yH, ↓yG,go_sem,Int.reduceOfNat]:gH c F k1 k2 (n+1) vs s=_)
def ql:Un->List Q2->Nat->Q2
 |.z,[k1,k2]=>gH c F k1 k2
 |(.s .z),[k1,k4]=>eY c F k1 k4
 |_,_=>λ_=>dQ
def tj:O2:=bl c F (ql c F) zn.1 [x0] s
def JJ:=(by dsimp only[tj,zn, ↓ql,go_sem,Int.reduceOfNat]:tj c F x0 s=_)
def lZ:Sh:=(sq sl (sq (sq sl (sb (sp 0 [1,4] [(1,[2,3]),(2,[1])] (sq (sq sl (sc sl sl)) (sq (sb (sq (sq sl (sq sl (sc (sq sl sl) sl))) (sq (sq sl (sc (sq sl sl) sl)) (sq sl (sc (sq sl sl) sl))))) sl))))) (sq (sq sl (sb (sp 1 [1,6] [(1,[2,3]),(4,[])] (sq (sq sl (sc sl sl)) (sq (sb (sq sl (sq sl (sq (sq sl (sc (sq sl sl) sl)) (sq (sq sl (sc (sq sl sl) sl)) (sq (sq sl (sc (sq sl sl) sl)) (sq sl (sc (sq sl sl) sl)))))))) sl))))) (sq sl sl))))
def yI:PX 140 lZ:=⟨_,by conv=>lhs;reduce⟩
def xD:PL 140 lZ 1:=⟨_,by conv=>lhs;reduce⟩
def iT(k1 k4:Q2):Nat->Q2
 |0,_,_=>none
 |n+1,vs,s=>cS c F bn (iT k1 k4 n) [k1,k4] xD.1 vs s
def ny(k1 k4:Q2)(n:Nat)(vs:List AV)(s:St):=(by dsimp only[iT,xD,go_sem,Int.reduceOfNat]:iT c F k1 k4 (n+1) vs s=_)
def xE:PL 140 lZ 0:=⟨_,by conv=>lhs;reduce⟩
def iR(k1 k2:Q2):Nat->Q2
 |0,_,_=>none
 |n+1,vs,s=>cS c F bn (iR k1 k2 n) [k1,k2] xE.1 vs s
def uj(k1 k2:Q2)(n:Nat)(vs:List AV)(s:St):=(by dsimp only[iR,xE,go_sem,Int.reduceOfNat]:iR c F k1 k2 (n+1) vs s=_)
def pY:Un->List Q2->Nat->Q2
 |.z,[k1,k2]=>iR c F k1 k2
 |(.s .z),[k1,k4]=>iT c F k1 k4
 |_,_=>λ_=>dQ
def rE:O2:=bl c F (pY c F) yI.1 [x0] s
def yl:=(by dsimp only[rE,yI, ↓pY,go_sem,Int.reduceOfNat]:rE c F x0 s=_)
def Dl:Sh:=(sq sl (sq sl sl))
def Dm:PX 141 Dl:=⟨_,by conv=>lhs;reduce⟩
def yJ:O2:=bl c F bn Dm.1 [x0] s
def O8:=(by dsimp only[yJ,Dm,go_sem,Int.reduceOfNat]:yJ c F x0 s=_)
def D8:Sh:=(sq sl (sq sl (sq (sq sl (sc (sq sl sl) sl)) (sq sl sl))))
def D9:PX 142 D8:=⟨_,by conv=>lhs;reduce⟩
def zP:O2:=bl c F bn D9.1 [x0] s
def QZ:=(by dsimp only[zP,D9,go_sem,Int.reduceOfNat]:zP c F x0 s=_)
def Ft:Sh:=(sq sl (sq sl sl))
def Fu:PX 143 Ft:=⟨_,by conv=>lhs;reduce⟩
def Bd:O2:=bl c F bn Fu.1 [x0] s
def Su:=(by dsimp only[Bd,Fu,go_sem,Int.reduceOfNat]:Bd c F x0 s=_)
def Fv:Sh:=(sq sl (sq sl sl))
def Fw:PX 144 Fv:=⟨_,by conv=>lhs;reduce⟩
def Be:O2:=bl c F bn Fw.1 [x0] s
def Sv:=(by dsimp only[Be,Fw,go_sem,Int.reduceOfNat]:Be c F x0 s=_)
def BS:Sh:=(sq sl (sq (sq sl (sc (sq sl sl) sl)) (sq (sq sl (sc (sq sl sl) sl)) (sq sl sl))))
def BT:PX 145 BS:=⟨_,by conv=>lhs;reduce⟩
def v7:O2:=bl c F bn BT.1 [x0] s
def Nf:=(by dsimp only[v7,BT,go_sem,Int.reduceOfNat]:v7 c F x0 s=_)
def BU:Sh:=(sq sl (sq sl sl))
def BV:PX 146 BU:=⟨_,by conv=>lhs;reduce⟩
def v8:O2:=bl c F bn BV.1 [x0] s
def Nd:=(by dsimp only[v8,BV,go_sem,Int.reduceOfNat]:v8 c F x0 s=_)
def zQ:Sh:=(sq sl (sq (sq sl (sb (sp 0 [0,1,5] [(1,[4]),(2,[])] (sq (sq sl (sc sl sl)) (sq (sb (sq sl (sc (sq sl sl) sl))) sl))))) (sq sl sl)))
def Gr:PX 147 zQ:=⟨_,by conv=>lhs;reduce⟩
def Fx:PL 147 zQ 0:=⟨_,by conv=>lhs;reduce⟩
def kV(k1 k2:Q2):Nat->Q2
 |0,_,_=>none
 |n+1,vs,s=>cS c F bn (kV k1 k2 n) [k1,k2] Fx.1 vs s
def CU(k1 k2:Q2)(n:Nat)(vs:List AV)(s:St):=(by dsimp only[kV,Fx,go_sem,Int.reduceOfNat,Int.reduceNegSucc]:kV c F k1 k2 (n+1) vs s=_)
def zR:Un->List Q2->Nat->Q2
 |.z,[k1,k2]=>kV c F k1 k2
 |_,_=>λ_=>dQ
def Dn:O2:=bl c F (zR c F) Gr.1 [x0,x1] s
def Um:=(by dsimp only[Dn,Gr, ↓zR,go_sem,Int.reduceOfNat,Int.reduceNegSucc]:Dn c F x0 x1 s=_)
def zS:Sh:=(sq sl (sq (sq sl (sc (sq sl sl) sl)) (sq (sq sl (sb (sp 0 [0,3] [(1,[2]),(2,[])] (sq (sq sl (sc sl sl)) (sq (sb (sq sl (sc (sq sl sl) sl))) sl))))) (sq sl sl))))
def Gs:PX 148 zS:=⟨_,by conv=>lhs;reduce⟩
def Fy:PL 148 zS 0:=⟨_,by conv=>lhs;reduce⟩
def kT(k1 k2:Q2):Nat->Q2
 |0,_,_=>none
 |n+1,vs,s=>cS c F bn (kT k1 k2 n) [k1,k2] Fy.1 vs s
def CQ(k1 k2:Q2)(n:Nat)(vs:List AV)(s:St):=(by dsimp only[kT,Fy,go_sem,Int.reduceOfNat]:kT c F k1 k2 (n+1) vs s=_)
def zT:Un->List Q2->Nat->Q2
 |.z,[k1,k2]=>kT c F k1 k2
 |_,_=>λ_=>dQ
def Dp:O2:=bl c F (zT c F) Gs.1 [x0] s
def Ug:=(by dsimp only[Dp,Gs, ↓zT,go_sem,Int.reduceOfNat]:Dp c F x0 s=_)
def rF:Sh:=(sq sl (sq (sq sl (sb (sp 0 [0,1,5] [(1,[4]),(2,[])] (sq (sq sl (sc sl sl)) (sq (sb (sq sl (sc (sq sl sl) sl))) sl))))) (sq sl sl)))
def Ah:PX 149 rF:=⟨_,by conv=>lhs;reduce⟩
def zo:PL 149 rF 0:=⟨_,by conv=>lhs;reduce⟩
def gY(k1 k2:Q2):Nat->Q2
 |0,_,_=>none
 |n+1,vs,s=>cS c F bn (gY k1 k2 n) [k1,k2] zo.1 vs s
def xy(k1 k2:Q2)(n:Nat)(vs:List AV)(s:St):=(by dsimp only[gY,zo,go_sem,Int.reduceOfNat,Int.reduceNegSucc]:gY c F k1 k2 (n+1) vs s=_)
def rG:Un->List Q2->Nat->Q2
 |.z,[k1,k2]=>gY c F k1 k2
 |_,_=>λ_=>dQ
def uT:O2:=bl c F (rG c F) Ah.1 [x0,x1] s
def LF:=(by dsimp only[uT,Ah, ↓rG,go_sem,Int.reduceOfNat,Int.reduceNegSucc]:uT c F x0 x1 s=_)
def Dq:Sh:=(sq sl (sq (sq sl (sc (sq sl sl) sl)) (sq (sq sl (sb (sp 0 [0,10,11,12] [(1,[2,3]),(2,[])] (sq sl (sq (sc sl sl) (sq (sb (sq sl (sq (sq sl (sq sl (sc (sq sl sl) sl))) (sq sl (sc (sq sl sl) sl))))) sl)))))) (sq sl sl))))
def K5:PX 150 Dq:=⟨_,by conv=>lhs;reduce⟩
def Jo:PL 150 Dq 0:=⟨_,by conv=>lhs;reduce⟩
def pQ(k1 k2:Q2):Nat->Q2
 |0,_,_=>none
 |n+1,vs,s=>cS c F bn (pQ k1 k2 n) [k1,k2] Jo.1 vs s
def yd(k1 k2:Q2)(n:Nat)(vs:List AV)(s:St):=(by dsimp only[pQ,Jo,go_sem,Int.reduceOfNat]:pQ c F k1 k2 (n+1) vs s=_)
def Dr:Un->List Q2->Nat->Q2
 |.z,[k1,k2]=>pQ c F k1 k2
 |_,_=>λ_=>dQ
def FR:O2:=bl c F (Dr c F) K5.1 [x0] s
def KJ:=(by dsimp only[FR,K5, ↓Dr,go_sem,Int.reduceOfNat]:FR c F x0 s=_)
def Gt:Sh:=(sq sl (sq sl (sq sl sl)))
def Gu:PX 151 Gt:=⟨_,by conv=>lhs;reduce⟩
def Ds:O2:=bl c F bn Gu.1 [x0] s
def Ut:=(by dsimp only[Ds,Gu,go_sem,Int.reduceOfNat]:Ds c F x0 s=_)
def Gv:Sh:=(sq sl (sq sl sl))
def Gw:PX 152 Gv:=⟨_,by conv=>lhs;reduce⟩
def Dt:O2:=bl c F bn Gw.1 [x0,x1] s
def Uq:=(by dsimp only[Dt,Gw,go_sem,Int.reduceOfNat]:Dt c F x0 x1 s=_)
def Yi:Sh:=(sq sl (sq sl sl))
def Yj:PX 153 Yi:=⟨_,by conv=>lhs;reduce⟩
def Wx:O2:=bl c F bn Yj.1 [x0,x1] s
def afV:=(by dsimp only[Wx,Yj,go_sem,Int.reduceOfNat]:Wx c F x0 x1 s=_)
def LX:Sh:=(sq sl (sq (sq sl (sc (sq sl sl) sl)) (sq (sq sl (sb (sp 0 [0,13,14] [(1,[2]),(2,[])] (sq sl (sq (sc sl sl) (sq (sb (sq sl (sq sl (sc (sq sl sl) sl)))) sl)))))) (sq sl sl))))
def Vq:PX 154 LX:=⟨_,by conv=>lhs;reduce⟩
def S8:PL 154 LX 0:=⟨_,by conv=>lhs;reduce⟩
def sO(k1 k2:Q2):Nat->Q2
 |0,_,_=>none
 |n+1,vs,s=>cS c F bn (sO k1 k2 n) [k1,k2] S8.1 vs s
def MW(k1 k2:Q2)(n:Nat)(vs:List AV)(s:St):=(by dsimp only[sO,S8,go_sem,Int.reduceOfNat]:sO c F k1 k2 (n+1) vs s=_)
def LY:Un->List Q2->Nat->Q2
 |.z,[k1,k2]=>sO c F k1 k2
 |_,_=>λ_=>dQ
def S9:O2:=bl c F (LY c F) Vq.1 [x0] s
def adU:=(by dsimp only[S9,Vq, ↓LY,go_sem,Int.reduceOfNat]:S9 c F x0 s=_)
def Vr:Sh:=(sq sl (sq sl (sq (sq sl (sc (sq sl sl) sl)) (sq sl sl))))
def Vt:PX 155 Vr:=⟨_,by conv=>lhs;reduce⟩
def Ta:O2:=bl c F bn Vt.1 [x0,x1] s
def adY:=(by dsimp only[Ta,Vt,go_sem,Int.reduceOfNat]:Ta c F x0 x1 s=_)
def K7:Sh:=(sq sl (sq (sq sl (sb (sq sl (sc (sq sl sl) (sq sl (sc (sq sl sl) (sq sl (sc (sq sl sl) (sq sl (sc (sq sl sl) sl)))))))))) (sq sl sl)))
def K8:PX 156 K7:=⟨_,by conv=>lhs;reduce⟩
def FT:O2:=bl c F bn K8.1 [x0] s
def XL:=(by dsimp only[FT,K8,go_sem,Int.reduceOfNat]:FT c F x0 s=_)
def FU:Sh:=(sq sl (sq (sb (sq sl (sc (sq sl sl) (sq sl (sc (sq sl sl) (sq sl (sc (sq sl sl) (sq sl (sc (sq sl sl) sl))))))))) (sq (sq sl (sb (sp 0 [1,52,53,54] [(1,[2]),(3,[])] (sq sl (sq (sc sl sl) (sq (sb (sq sl (sq sl (sc (sq sl sl) sl)))) sl)))))) (sq sl sl))))
def Qp:PX 187 FU:=⟨_,by conv=>lhs;reduce⟩
def NA:PL 187 FU 0:=⟨_,by conv=>lhs;reduce⟩
def pg(k1 k3:Q2):Nat->Q2
 |0,_,_=>none
 |n+1,vs,s=>cS c F bn (pg k1 k3 n) [k1,k3] NA.1 vs s
def Iz(k1 k3:Q2)(n:Nat)(vs:List AV)(s:St):=(by dsimp only[pg,NA,go_sem,Int.reduceOfNat]:pg c F k1 k3 (n+1) vs s=_)
def FV:Un->List Q2->Nat->Q2
 |.z,[k1,k3]=>pg c F k1 k3
 |_,_=>λ_=>dQ
def LZ:O2:=bl c F (FV c F) Qp.1 [x0] s
def aaK:=(by dsimp only[LZ,Qp, ↓FV,go_sem,Int.reduceOfNat]:LZ c F x0 s=_)
def NB:Sh:=(sq sl (sq sl (sq sl sl)))
def NC:PX 188 NB:=⟨_,by conv=>lhs;reduce⟩
def Jp:O2:=bl c F bn NC.1 [x0] s
def Za:=(by dsimp only[Jp,NC,go_sem,Int.reduceOfNat]:Jp c F x0 s=_)
def Gx:Sh:=(sq sl (sq sl sl))
def Gy:PX 189 Gx:=⟨_,by conv=>lhs;reduce⟩
def strings_Compare:O2:=bl c F bn Gy.1 [x0,x1] s
def Uo:=(by dsimp only[strings_Compare,Gy,go_sem,Int.reduceOfNat]:strings_Compare c F x0 x1 s=_)
def qg:Sh:=(sq sl (sq sl (sq sl (sq (sq sl (sc (sq sl sl) sl)) (sq sl (sq (sq sl (sc (sq sl sl) sl)) (sq (sq sl (sc (sq sl (sq sl (sq sl (sq sl sl)))) sl)) (sq sl (sq (sq sl (sc (sq sl (sq sl (sq sl sl))) sl)) (sq sl (sq sl (sq sl sl))))))))))))
def qh:PX 190 qg:=⟨_,by conv=>lhs;reduce⟩
def mq:O2:=bl c F bn qh.1 [x0,x1,x2] s
def Ci:=(by dsimp only[mq,qh,go_sem,Int.reduceOfNat]:mq c F x0 x1 x2 s=_)
def Tb:Sh:=(sq sl (sq sl sl))
def Tc:PX 191 Tb:=⟨_,by conv=>lhs;reduce⟩
def Px:O2:=bl c F bn Tc.1 [x0,x1,x2] s
def acM:=(by dsimp only[Px,Tc,go_sem,Int.reduceOfNat]:Px c F x0 x1 x2 s=_)
def eT:Sh:=(sq sl (sq sl (sq sl (sq (sb (sp 0 [0,2,4,8,9,10] [(2,[0,2,4,8,9])] (sq (sq sl (sc sl sl)) (sb (sq sl (sq sl (sc sl sl))))))) (sq sl sl)))))
def je:PX 194 eT:=⟨_,by conv=>lhs;reduce⟩
def iU:PL 194 eT 0:=⟨_,by conv=>lhs;reduce⟩
def bu(k2:Q2):Nat->Q2
 |0,_,_=>none
 |n+1,vs,s=>cS c F bn (bu k2 n) [k2] iU.1 vs s
def eC(k2:Q2)(n:Nat)(vs:List AV)(s:St):=(by dsimp only[bu,iU,go_sem,Int.reduceOfNat]:bu c F k2 (n+1) vs s=_)
def eU:Un->List Q2->Nat->Q2
 |.z,[k2]=>bu c F k2
 |_,_=>λ_=>dQ
def fo:O2:=bl c F (eU c F) je.1 [x0,x1,x2] s
def pn:=(by dsimp only[fo,je, ↓eU,go_sem,Int.reduceOfNat]:fo c F x0 x1 x2 s=_)
def uU:Sh:=(sq sl (sq sl (sq (sq sl (sc (sq sl sl) sl)) (sq (sq sl (sc (sq sl sl) sl)) (sq (sq sl (sb (sp 0 [1,3,4] [(1,[2]),(2,[1])] (sq (sq sl (sc sl sl)) (sq (sb (sq sl (sc (sq sl sl) sl))) sl))))) (sq (sq sl (sc (sq sl sl) sl)) (sq sl sl)))))))
def Du:PX 201 uU:=⟨_,by conv=>lhs;reduce⟩
def BW:PL 201 uU 0:=⟨_,by conv=>lhs;reduce⟩
def iX(k1 k2:Q2):Nat->Q2
 |0,_,_=>none
 |n+1,vs,s=>cS c F bn (iX k1 k2 n) [k1,k2] BW.1 vs s
def zf(k1 k2:Q2)(n:Nat)(vs:List AV)(s:St):=(by dsimp only[iX,BW,go_sem,Int.reduceOfNat]:iX c F k1 k2 (n+1) vs s=_)
def uV:Un->List Q2->Nat->Q2
 |.z,[k1,k2]=>iX c F k1 k2
 |_,_=>λ_=>dQ
def yK:O2:=bl c F (uV c F) Du.1 [x0] s
def OT:=(by dsimp only[yK,Du, ↓uV,go_sem,Int.reduceOfNat]:yK c F x0 s=_)
def uW:Sh:=(sq sl (sq (sq sl (sc (sq sl sl) sl)) (sq (sq sl (sc (sq sl sl) sl)) (sq (sq sl (sc (sq sl sl) sl)) (sq (sq sl (sc (sq sl sl) sl)) (sq (sq sl (sb (sp 0 [1,3] [(1,[2]),(2,[])] (sq (sq sl (sc sl sl)) (sq (sb (sq sl (sc (sq sl sl) sl))) sl))))) (sq sl sl)))))))
def Dv:PX 202 uW:=⟨_,by conv=>lhs;reduce⟩
def BX:PL 202 uW 0:=⟨_,by conv=>lhs;reduce⟩
def iY(k1 k2:Q2):Nat->Q2
 |0,_,_=>none
 |n+1,vs,s=>cS c F bn (iY k1 k2 n) [k1,k2] BX.1 vs s
def zg(k1 k2:Q2)(n:Nat)(vs:List AV)(s:St):=(by dsimp only[iY,BX,go_sem,Int.reduceOfNat]:iY c F k1 k2 (n+1) vs s=_)
def uX:Un->List Q2->Nat->Q2
 |.z,[k1,k2]=>iY c F k1 k2
 |_,_=>λ_=>dQ
def yL:O2:=bl c F (uX c F) Dv.1 [x0] s
def OZ:=(by dsimp only[yL,Dv, ↓uX,go_sem,Int.reduceOfNat]:yL c F x0 s=_)
def BZ:Sh:=(sq sl (sq sl sl))
def B4:PX 203 BZ:=⟨_,by conv=>lhs;reduce⟩
def we:O2:=bl c F bn B4.1 [x0,x1] s
def MZ:=(by dsimp only[we,B4,go_sem,Int.reduceOfNat]:we c F x0 x1 s=_)
def Jq:Sh:=(sq sl (sq sl (sq sl (sq (sb (sq sl (sc (sq sl sl) (sq sl (sc (sq sl sl) sl))))) (sq (sq sl (sb (sp 0 [1,3,4,18,19,20] [(1,[2]),(3,[1])] (sq sl (sq (sc sl sl) (sq (sb (sq sl (sq (sq sl (sc (sq sl sl) sl)) sl))) sl)))))) (sq (sq sl (sc (sq sl sl) sl)) (sq sl sl)))))))
def Td:PX 204 Jq:=⟨_,by conv=>lhs;reduce⟩
def Qq:PL 204 Jq 0:=⟨_,by conv=>lhs;reduce⟩
def qE(k1 k3:Q2):Nat->Q2
 |0,_,_=>none
 |n+1,vs,s=>cS c F bn (qE k1 k3 n) [k1,k3] Qq.1 vs s
def KI(k1 k3:Q2)(n:Nat)(vs:List AV)(s:St):=(by dsimp only[qE,Qq,go_sem,Int.reduceOfNat,Int.reduceNegSucc]:qE c F k1 k3 (n+1) vs s=_)
def Jr:Un->List Q2->Nat->Q2
 |.z,[k1,k3]=>qE c F k1 k3
 |_,_=>λ_=>dQ
def Py:O2:=bl c F (Jr c F) Td.1 [x0] s
def acC:=(by dsimp only[Py,Td, ↓Jr,go_sem,Int.reduceOfNat,Int.reduceNegSucc]:Py c F x0 s=_)
def lD:Sh:=(sq sl (sq sl sl))
def lF:PX 205 lD:=⟨_,by conv=>lhs;reduce⟩
def ig:O2:=bl c F bn lF.1 [x0,x1] s
def tP:=(by dsimp only[ig,lF,go_sem,Int.reduceOfNat]:ig c F x0 x1 s=_)
def Gz:Sh:=(sq sl (sq sl sl))
def GC:PX 206 Gz:=⟨_,by conv=>lhs;reduce⟩
def Dw:O2:=bl c F bn GC.1 [x0,x1] s
def Uk:=(by dsimp only[Dw,GC,go_sem,Int.reduceOfNat]:Dw c F x0 x1 s=_)
def iG:Sh:=(sq sl (sq (sq sl (sb (sp 0 [0,1,7,8] [(1,[4]),(2,[])] (sq sl (sq (sc sl sl) (sq (sb (sq sl (sq sl (sc (sq sl sl) sl)))) sl)))))) (sq sl sl)))
def mJ:PX 207 iG:=⟨_,by conv=>lhs;reduce⟩
def mh:PL 207 iG 0:=⟨_,by conv=>lhs;reduce⟩
def cF(k1 k2:Q2):Nat->Q2
 |0,_,_=>none
 |n+1,vs,s=>cS c F bn (cF k1 k2 n) [k1,k2] mh.1 vs s
def lB(k1 k2:Q2)(n:Nat)(vs:List AV)(s:St):=(by dsimp only[cF,mh,go_sem,Int.reduceOfNat,Int.reduceNegSucc]:cF c F k1 k2 (n+1) vs s=_)
def iH:Un->List Q2->Nat->Q2
 |.z,[k1,k2]=>cF c F k1 k2
 |_,_=>λ_=>dQ
def jy:O2:=bl c F (iH c F) mJ.1 [x0,x1] s
def vY:=(by dsimp only[jy,mJ, ↓iH,go_sem,Int.reduceOfNat,Int.reduceNegSucc]:jy c F x0 x1 s=_)
def Te:Sh:=(sq sl (sq sl sl))
def Tf:PX 208 Te:=⟨_,by conv=>lhs;reduce⟩
def Pz:O2:=bl c F bn Tf.1 [x0,x1] s
def acU:=(by dsimp only[Pz,Tf,go_sem,Int.reduceOfNat]:Pz c F x0 x1 s=_)
def iI:Sh:=(sq sl (sq (sq sl (sb (sp 0 [0,1,7,8] [(1,[4]),(2,[])] (sq sl (sq (sc sl sl) (sq (sb (sq sl (sq sl (sc (sq sl sl) sl)))) sl)))))) (sq sl sl)))
def mK:PX 209 iI:=⟨_,by conv=>lhs;reduce⟩
def mj:PL 209 iI 0:=⟨_,by conv=>lhs;reduce⟩
def cE(k1 k2:Q2):Nat->Q2
 |0,_,_=>none
 |n+1,vs,s=>cS c F bn (cE k1 k2 n) [k1,k2] mj.1 vs s
def lz(k1 k2:Q2)(n:Nat)(vs:List AV)(s:St):=(by dsimp only[cE,mj,go_sem,Int.reduceOfNat,Int.reduceNegSucc]:cE c F k1 k2 (n+1) vs s=_)
def iJ:Un->List Q2->Nat->Q2
 |.z,[k1,k2]=>cE c F k1 k2
 |_,_=>λ_=>dQ
def jz:O2:=bl c F (iJ c F) mK.1 [x0,x1] s
def vW:=(by dsimp only[jz,mK, ↓iJ,go_sem,Int.reduceOfNat,Int.reduceNegSucc]:jz c F x0 x1 s=_)
def Qr:Sh:=(sq sl (sq sl sl))
def Qt:PX 210 Qr:=⟨_,by conv=>lhs;reduce⟩
def L6:O2:=bl c F bn Qt.1 [x0,x1] s
def aaH:=(by dsimp only[L6,Qt,go_sem,Int.reduceOfNat]:L6 c F x0 x1 s=_)
def GD:Sh:=(sq sl (sq (sq sl (sc (sq sl sl) sl)) (sq sl sl)))
def GF:PX 211 GD:=⟨_,by conv=>lhs;reduce⟩
def Dx:O2:=bl c F bn GF.1 [x0,x1] s
def Uh:=(by dsimp only[Dx,GF,go_sem,Int.reduceOfNat]:Dx c F x0 x1 s=_)
def Js:Sh:=(sq sl (sq (sq sl (sc (sq sl sl) sl)) (sq sl sl)))
def Jt:PX 216 Js:=⟨_,by conv=>lhs;reduce⟩
def EG:O2:=bl c F bn Jt.1 [x0,x1] s
def V6:=(by dsimp only[EG,Jt,go_sem,Int.reduceOfNat]:EG c F x0 x1 s=_)
def Ju:Sh:=(sq sl (sq (sq sl (sc (sq sl sl) sl)) (sq sl sl)))
def Jv:PX 221 Ju:=⟨_,by conv=>lhs;reduce⟩
def EH:O2:=bl c F bn Jv.1 [x0,x1] s
def V7:=(by dsimp only[EH,Jv,go_sem,Int.reduceOfNat]:EH c F x0 x1 s=_)
def K9:Sh:=(sq sl (sq (sq sl (sc (sq sl sl) sl)) (sq sl sl)))
def La:PX 226 K9:=⟨_,by conv=>lhs;reduce⟩
def FW:O2:=bl c F bn La.1 [x0,x1] s
def XK:=(by dsimp only[FW,La,go_sem,Int.reduceOfNat]:FW c F x0 x1 s=_)
def Jw:Sh:=(sq sl (sq (sq sl (sc (sq sl sl) sl)) (sq (sq sl (sb (sp 0 [0,13,14] [(1,[2]),(2,[])] (sq sl (sq (sc sl sl) (sq (sb (sq sl (sq sl (sc (sq sl sl) sl)))) sl)))))) (sq sl sl))))
def Tg:PX 240 Jw:=⟨_,by conv=>lhs;reduce⟩
def Qu:PL 240 Jw 0:=⟨_,by conv=>lhs;reduce⟩
def qD(k1 k2:Q2):Nat->Q2
 |0,_,_=>none
 |n+1,vs,s=>cS c F bn (qD k1 k2 n) [k1,k2] Qu.1 vs s
def KH(k1 k2:Q2)(n:Nat)(vs:List AV)(s:St):=(by dsimp only[qD,Qu,go_sem,Int.reduceOfNat]:qD c F k1 k2 (n+1) vs s=_)
def Jy:Un->List Q2->Nat->Q2
 |.z,[k1,k2]=>qD c F k1 k2
 |_,_=>λ_=>dQ
def PA:O2:=bl c F (Jy c F) Tg.1 [x0] s
def acy:=(by dsimp only[PA,Tg, ↓Jy,go_sem,Int.reduceOfNat]:PA c F x0 s=_)
def Th:Sh:=(sq sl (sq sl sl))
def Ti:PX 241 Th:=⟨_,by conv=>lhs;reduce⟩
def PB:O2:=bl c F bn Ti.1 [x0] s
def acB:=(by dsimp only[PB,Ti,go_sem,Int.reduceOfNat]:PB c F x0 s=_)
def zq:Sh:=(sq sl (sq sl sl))
def zu:PX 242 zq:=⟨_,by conv=>lhs;reduce⟩
def bytealg_CompareString:O2:=bl c F bn zu.1 [x0,x1] s
def JL:=(by dsimp only[bytealg_CompareString,zu,go_sem,Int.reduceOfNat]:bytealg_CompareString c F x0 x1 s=_)
def wh:Sh:=(sq sl (sq (sq sl (sc (sq sl sl) sl)) (sq (sq sl (sb (sp 0 [0,3] [(1,[2]),(2,[])] (sq (sq sl (sc sl sl)) (sq (sb (sq sl (sc (sq sl sl) sl))) sl))))) (sq sl sl))))
def Ea:PX 252 wh:=⟨_,by conv=>lhs;reduce⟩
def Dy:PL 252 wh 0:=⟨_,by conv=>lhs;reduce⟩
def jC(k1 k2:Q2):Nat->Q2
 |0,_,_=>none
 |n+1,vs,s=>cS c F bn (jC k1 k2 n) [k1,k2] Dy.1 vs s
def Ab(k1 k2:Q2)(n:Nat)(vs:List AV)(s:St):=(by dsimp only[jC,Dy,go_sem,Int.reduceOfNat]:jC c F k1 k2 (n+1) vs s=_)
def wj:Un->List Q2->Nat->Q2
 |.z,[k1,k2]=>jC c F k1 k2
 |_,_=>λ_=>dQ
def zU:O2:=bl c F (wj c F) Ea.1 [x0] s
def QN:=(by dsimp only[zU,Ea, ↓wj,go_sem,Int.reduceOfNat]:zU c F x0 s=_)
def L7:Sh:=(sq sl (sq (sq sl (sb (sp 0 [0,3] [(1,[2]),(2,[0])] (sq (sq sl (sc sl sl)) (sq (sb (sq sl (sc (sq sl sl) sl))) sl))))) (sq sl sl)))
def Vu:PX 253 L7:=⟨_,by conv=>lhs;reduce⟩
def Tj:PL 253 L7 0:=⟨_,by conv=>lhs;reduce⟩
def sP(k1 k2:Q2):Nat->Q2
 |0,_,_=>none
 |n+1,vs,s=>cS c F bn (sP k1 k2 n) [k1,k2] Tj.1 vs s
def MX(k1 k2:Q2)(n:Nat)(vs:List AV)(s:St):=(by dsimp only[sP,Tj,go_sem,Int.reduceOfNat]:sP c F k1 k2 (n+1) vs s=_)
def L8:Un->List Q2->Nat->Q2
 |.z,[k1,k2]=>sP c F k1 k2
 |_,_=>λ_=>dQ
def Tk:O2:=bl c F (L8 c F) Vu.1 [x0] s
def adV:=(by dsimp only[Tk,Vu, ↓L8,go_sem,Int.reduceOfNat]:Tk c F x0 s=_)
end
section
variable{c:aq}(hc:Sem c)(F:Nat){x0 x1 x2 x3 x4 x5 x6 x7 x8 x9 Fb Fc:AV}{s:St}{r:AV×St}
include hc
theorem Sz(h:EF c F x0 x1 s=some r):c 4 [x0,x1] s=some (tidy s r):=hc.o0 F Jc (by kernel_rfl) (by kernel_rfl) h
theorem LH(h:yB c F x0 s=some r):c 29 [x0] s=some (tidy s r):=hc.o1 F (uO c F) uN (by kernel_rfl) (by kernel_rfl) (λ_ _ _=>by kernel_rfl) (λ_ _ _ _=>by kernel_rfl) (by kernel_rfl) h
theorem Nb(h:Pp c F x0 s=some r):c 30 [x0] s=some (tidy s r):=hc.o1 F (Jf c F) Je (by kernel_rfl) (by kernel_rfl) (λ_ _ _=>by kernel_rfl) (λ_ _ _ _=>by kernel_rfl) (by kernel_rfl) h
theorem MY(h:Pq c F x0 x1 s=some r):c 35 [x0,x1] s=some (tidy s r):=hc.o1 F (Jh c F) Jg (by kernel_rfl) (by kernel_rfl) (λ_ _ _=>by kernel_rfl) (λ_ _ _ _=>by kernel_rfl) (by kernel_rfl) h
theorem Ad(h:yC c F x0 x1 s=some r):c 49 [x0,x1] s=some (tidy s r):=hc.o1 F (uQ c F) uP (by kernel_rfl) (by kernel_rfl) (λ_ _ _=>by kernel_rfl) (λ_ _ _ _=>by kernel_rfl) (by kernel_rfl) h
theorem MU(h:zO c F x0 s=some r):c 50 [x0] s=some (tidy s r):=hc.o0 F D6 (by kernel_rfl) (by kernel_rfl) h
theorem Zh(h:Pr c F s=some r):c 52 [] s=some (tidy s r):=hc.o0 F SS (by kernel_rfl) (by kernel_rfl) h
theorem Y4(h:Pt c F x0 s=some r):c 53 [x0] s=some (tidy s r):=hc.o0 F SV (by kernel_rfl) (by kernel_rfl) h
theorem Ze(h:CW c F x0 s=some r):c 62 [x0] s=some (tidy s r):=hc.oL F (Ji c F) Df 2 (by kernel_rfl) (λi hi=>match i,hi with|0,_=>cq 0 (by kernel_rfl) (λ_ _ _=>by kernel_rfl) (λ_ _ _ _=>by kernel_rfl)|1,_=>cq 1 (by kernel_rfl) (λ_ _ _=>by kernel_rfl) (λ_ _ _ _=>by kernel_rfl)|n+2,h=>absurd h (by omega)) (by kernel_rfl) h
theorem LC(h:yD c F x0 s=some r):c 72 [x0] s=some (tidy s r):=hc.o1 F (uS c F) uR (by kernel_rfl) (by kernel_rfl) (λ_ _ _=>by kernel_rfl) (λ_ _ _ _=>by kernel_rfl) (by kernel_rfl) h
theorem LG(h:yE c F x0 x1 s=some r):c 73 [x0,x1] s=some (tidy s r):=hc.o0 F Dh (by kernel_rfl) (by kernel_rfl) h
theorem Zf(h:Pu c F x0 s=some r):c 74 [x0] s=some (tidy s r):=hc.o1 F (Jk c F) Jj (by kernel_rfl) (by kernel_rfl) (λ_ _ _=>by kernel_rfl) (λ_ _ _ _=>by kernel_rfl) (by kernel_rfl) h
theorem QX(h:Dj c F x0 x1 x2 s=some r):c 75 [x0,x1,x2] s=some (tidy s r):=hc.o0 F Gl (by kernel_rfl) (by kernel_rfl) h
theorem Y3(h:Pv c F x0 s=some r):c 77 [x0] s=some (tidy s r):=hc.o0 F SZ (by kernel_rfl) (by kernel_rfl) h
theorem aaD(h:S6 c F x0 s=some r):c 78 [x0] s=some (tidy s r):=hc.o0 F Vm (by kernel_rfl) (by kernel_rfl) h
theorem iQ(h:n8 c F x0 s=some r):c 89 [x0] s=some (tidy s r):=hc.o0 F td (by kernel_rfl) (by kernel_rfl) h
theorem JI(h:vZ c F x0 x1 x2 s=some r):c 95 [x0,x1,x2] s=some (tidy s r):=hc.o0 F BQ (by kernel_rfl) (by kernel_rfl) h
theorem Ul(h:FQ c F x0 s=some r):c 115 [x0] s=some (tidy s r):=hc.o0 F KY (by kernel_rfl) (by kernel_rfl) h
theorem aaN(h:S7 c F s=some r):c 120 [] s=some (tidy s r):=hc.o0 F Vo (by kernel_rfl) (by kernel_rfl) h
theorem Fi(h:y9 c F x0 x1 s=some r):c 121 [x0,x1] s=some (tidy s r):=hc.o0 F Jl (by kernel_rfl) (by kernel_rfl) h
theorem XZ(h:LW c F x0 x1 s=some r):c 122 [x0,x1] s=some (tidy s r):=hc.o0 F Qn (by kernel_rfl) (by kernel_rfl) h
theorem yh(h:za c F x0 x1 x2 x3 s=some r):c 123 [x0,x1,x2,x3] s=some (tidy s r):=hc.o1 F (Bb c F) Ba (by kernel_rfl) (by kernel_rfl) (λ_ _ _=>by kernel_rfl) (λ_ _ _ _=>by kernel_rfl) (by kernel_rfl) h
theorem QV(h:Dk c F x0 s=some r):c 128 [x0] s=some (tidy s r):=hc.o0 F Gp (by kernel_rfl) (by kernel_rfl) h
theorem O7(h:Bc c F x0 x1 x2 s=some r):c 129 [x0,x1,x2] s=some (tidy s r):=hc.o0 F Fq (by kernel_rfl) (by kernel_rfl) h
theorem Hj(h:tj c F x0 s=some r):c 139 [x0] s=some (tidy s r):=hc.oL F (ql c F) mF 2 (by kernel_rfl) (λi hi=>match i,hi with|0,_=>cq 0 (by kernel_rfl) (λ_ _ _=>by kernel_rfl) (λ_ _ _ _=>by kernel_rfl)|1,_=>cq 1 (by kernel_rfl) (λ_ _ _=>by kernel_rfl) (λ_ _ _ _=>by kernel_rfl)|n+2,h=>absurd h (by omega)) (by kernel_rfl) h
theorem vD(h:rE c F x0 s=some r):c 140 [x0] s=some (tidy s r):=hc.oL F (pY c F) lZ 2 (by kernel_rfl) (λi hi=>match i,hi with|0,_=>cq 0 (by kernel_rfl) (λ_ _ _=>by kernel_rfl) (λ_ _ _ _=>by kernel_rfl)|1,_=>cq 1 (by kernel_rfl) (λ_ _ _=>by kernel_rfl) (λ_ _ _ _=>by kernel_rfl)|n+2,h=>absurd h (by omega)) (by kernel_rfl) h
theorem LB(h:yJ c F x0 s=some r):c 141 [x0] s=some (tidy s r):=hc.o0 F Dl (by kernel_rfl) (by kernel_rfl) h
theorem Ng(h:zP c F x0 s=some r):c 142 [x0] s=some (tidy s r):=hc.o0 F D8 (by kernel_rfl) (by kernel_rfl) h
theorem Pc(h:Bd c F x0 s=some r):c 143 [x0] s=some (tidy s r):=hc.o0 F Ft (by kernel_rfl) (by kernel_rfl) h
theorem Pd(h:Be c F x0 s=some r):c 144 [x0] s=some (tidy s r):=hc.o0 F Fv (by kernel_rfl) (by kernel_rfl) h
theorem JN(h:v7 c F x0 s=some r):c 145 [x0] s=some (tidy s r):=hc.o0 F BS (by kernel_rfl) (by kernel_rfl) h
theorem JM(h:v8 c F x0 s=some r):c 146 [x0] s=some (tidy s r):=hc.o0 F BU (by kernel_rfl) (by kernel_rfl) h
theorem QT(h:Dn c F x0 x1 s=some r):c 147 [x0,x1] s=some (tidy s r):=hc.o1 F (zR c F) zQ (by kernel_rfl) (by kernel_rfl) (λ_ _ _=>by kernel_rfl) (λ_ _ _ _=>by kernel_rfl) (by kernel_rfl) h
theorem QK(h:Dp c F x0 s=some r):c 148 [x0] s=some (tidy s r):=hc.o1 F (zT c F) zS (by kernel_rfl) (by kernel_rfl) (λ_ _ _=>by kernel_rfl) (λ_ _ _ _=>by kernel_rfl) (by kernel_rfl) h
theorem IG(h:uT c F x0 x1 s=some r):c 149 [x0,x1] s=some (tidy s r):=hc.o1 F (rG c F) rF (by kernel_rfl) (by kernel_rfl) (λ_ _ _=>by kernel_rfl) (λ_ _ _ _=>by kernel_rfl) (by kernel_rfl) h
theorem Gi(h:FR c F x0 s=some r):c 150 [x0] s=some (tidy s r):=hc.o1 F (Dr c F) Dq (by kernel_rfl) (by kernel_rfl) (λ_ _ _=>by kernel_rfl) (λ_ _ _ _=>by kernel_rfl) (by kernel_rfl) h
theorem QY(h:Ds c F x0 s=some r):c 151 [x0] s=some (tidy s r):=hc.o0 F Gt (by kernel_rfl) (by kernel_rfl) h
theorem QW(h:Dt c F x0 x1 s=some r):c 152 [x0,x1] s=some (tidy s r):=hc.o0 F Gv (by kernel_rfl) (by kernel_rfl) h
theorem acV(h:Wx c F x0 x1 s=some r):c 153 [x0,x1] s=some (tidy s r):=hc.o0 F Yi (by kernel_rfl) (by kernel_rfl) h
theorem aaE(h:S9 c F x0 s=some r):c 154 [x0] s=some (tidy s r):=hc.o1 F (LY c F) LX (by kernel_rfl) (by kernel_rfl) (λ_ _ _=>by kernel_rfl) (λ_ _ _ _=>by kernel_rfl) (by kernel_rfl) h
theorem aaJ(h:Ta c F x0 x1 s=some r):c 155 [x0,x1] s=some (tidy s r):=hc.o0 F Vr (by kernel_rfl) (by kernel_rfl) h
theorem Uj(h:FT c F x0 s=some r):c 156 [x0] s=some (tidy s r):=hc.o0 F K7 (by kernel_rfl) (by kernel_rfl) h
theorem XW(h:LZ c F x0 s=some r):c 187 [x0] s=some (tidy s r):=hc.o1 F (FV c F) FU (by kernel_rfl) (by kernel_rfl) (λ_ _ _=>by kernel_rfl) (λ_ _ _ _=>by kernel_rfl) (by kernel_rfl) h
theorem Wc(h:Jp c F x0 s=some r):c 188 [x0] s=some (tidy s r):=hc.o0 F NB (by kernel_rfl) (by kernel_rfl) h
theorem QU(h:strings_Compare c F x0 x1 s=some r):c 189 [x0,x1] s=some (tidy s r):=hc.o0 F Gx (by kernel_rfl) (by kernel_rfl) h
theorem Ac(h:mq c F x0 x1 x2 s=some r):c 190 [x0,x1,x2] s=some (tidy s r):=hc.o0 F qg (by kernel_rfl) (by kernel_rfl) h
theorem Y8(h:Px c F x0 x1 x2 s=some r):c 191 [x0,x1,x2] s=some (tidy s r):=hc.o0 F Tb (by kernel_rfl) (by kernel_rfl) h
theorem ow(h:fo c F x0 x1 x2 s=some r):c 194 [x0,x1,x2] s=some (tidy s r):=hc.o1 F (eU c F) eT (by kernel_rfl) (by kernel_rfl) (λ_ _ _=>by kernel_rfl) (λ_ _ _ _=>by kernel_rfl) (by kernel_rfl) h
theorem Lx(h:yK c F x0 s=some r):c 201 [x0] s=some (tidy s r):=hc.o1 F (uV c F) uU (by kernel_rfl) (by kernel_rfl) (λ_ _ _=>by kernel_rfl) (λ_ _ _ _=>by kernel_rfl) (by kernel_rfl) h
theorem Lz(h:yL c F x0 s=some r):c 202 [x0] s=some (tidy s r):=hc.o1 F (uX c F) uW (by kernel_rfl) (by kernel_rfl) (λ_ _ _=>by kernel_rfl) (λ_ _ _ _=>by kernel_rfl) (by kernel_rfl) h
theorem JK(h:we c F x0 x1 s=some r):c 203 [x0,x1] s=some (tidy s r):=hc.o0 F BZ (by kernel_rfl) (by kernel_rfl) h
theorem YY(h:Py c F x0 s=some r):c 204 [x0] s=some (tidy s r):=hc.o1 F (Jr c F) Jq (by kernel_rfl) (by kernel_rfl) (λ_ _ _=>by kernel_rfl) (λ_ _ _ _=>by kernel_rfl) (by kernel_rfl) h
theorem si(h:ig c F x0 x1 s=some r):c 205 [x0,x1] s=some (tidy s r):=hc.o0 F lD (by kernel_rfl) (by kernel_rfl) h
theorem QO(h:Dw c F x0 x1 s=some r):c 206 [x0,x1] s=some (tidy s r):=hc.o0 F Gz (by kernel_rfl) (by kernel_rfl) h
theorem uI(h:jy c F x0 x1 s=some r):c 207 [x0,x1] s=some (tidy s r):=hc.o1 F (iH c F) iG (by kernel_rfl) (by kernel_rfl) (λ_ _ _=>by kernel_rfl) (λ_ _ _ _=>by kernel_rfl) (by kernel_rfl) h
theorem Zg(h:Pz c F x0 x1 s=some r):c 208 [x0,x1] s=some (tidy s r):=hc.o0 F Te (by kernel_rfl) (by kernel_rfl) h
theorem uF(h:jz c F x0 x1 s=some r):c 209 [x0,x1] s=some (tidy s r):=hc.o1 F (iJ c F) iI (by kernel_rfl) (by kernel_rfl) (λ_ _ _=>by kernel_rfl) (λ_ _ _ _=>by kernel_rfl) (by kernel_rfl) h
theorem XQ(h:L6 c F x0 x1 s=some r):c 210 [x0,x1] s=some (tidy s r):=hc.o0 F Qr (by kernel_rfl) (by kernel_rfl) h
theorem QM(h:Dx c F x0 x1 s=some r):c 211 [x0,x1] s=some (tidy s r):=hc.o0 F GD (by kernel_rfl) (by kernel_rfl) h
theorem Sg(h:EG c F x0 x1 s=some r):c 216 [x0,x1] s=some (tidy s r):=hc.o0 F Js (by kernel_rfl) (by kernel_rfl) h
theorem Si(h:EH c F x0 x1 s=some r):c 221 [x0,x1] s=some (tidy s r):=hc.o0 F Ju (by kernel_rfl) (by kernel_rfl) h
theorem Ui(h:FW c F x0 x1 s=some r):c 226 [x0,x1] s=some (tidy s r):=hc.o0 F K9 (by kernel_rfl) (by kernel_rfl) h
theorem YU(h:PA c F x0 s=some r):c 240 [x0] s=some (tidy s r):=hc.o1 F (Jy c F) Jw (by kernel_rfl) (by kernel_rfl) (λ_ _ _=>by kernel_rfl) (λ_ _ _ _=>by kernel_rfl) (by kernel_rfl) h
theorem YX(h:PB c F x0 s=some r):c 241 [x0] s=some (tidy s r):=hc.o0 F Th (by kernel_rfl) (by kernel_rfl) h
theorem Ho(h:bytealg_CompareString c F x0 x1 s=some r):c 242 [x0,x1] s=some (tidy s r):=hc.o0 F zq (by kernel_rfl) (by kernel_rfl) h
theorem MV(h:zU c F x0 s=some r):c 252 [x0] s=some (tidy s r):=hc.o1 F (wj c F) wh (by kernel_rfl) (by kernel_rfl) (λ_ _ _=>by kernel_rfl) (λ_ _ _ _=>by kernel_rfl) (by kernel_rfl) h
theorem aaF(h:Tk c F x0 s=some r):c 253 [x0] s=some (tidy s r):=hc.o1 F (L8 c F) L7 (by kernel_rfl) (by kernel_rfl) (λ_ _ _=>by kernel_rfl) (λ_ _ _ _=>by kernel_rfl) (by kernel_rfl) h
end
attribute [local go_sem ↓] bl su ev XB Bv getLT y8 Lv Sa wS wT It E6 E7 E8 Bw Bx By Bz BA BB E9 Fa BC BD BE BF BG Ku Kv Kw
attribute [local go_sem] bl su ev
section
variable(c:aq)(F:Nat)(x0 x1 x2 x3 x4 x5 x6 x7 x8 x9 Fb Fc:AV)(s:St)
def yM:Sh:=(sq sl (sq sl sl))
def yN:PX 11 yM:=⟨_,by conv=>lhs;reduce⟩
def rH:O2:=bl c F bn yN.1 [x0,x1] s
def IU:=(by dsimp only[rH,yN,go_sem,Int.reduceOfNat]:rH c F x0 x1 s=_)
def yO:Sh:=(sq sl (sq sl sl))
def yP:PX 13 yO:=⟨_,by conv=>lhs;reduce⟩
def rI:O2:=bl c F bn yP.1 [x0] s
def I3:=(by dsimp only[rI,yP,go_sem,Int.reduceOfNat]:rI c F x0 s=_)
def tq:Sh:=(sq sl (sq (sq sl (sc (sq sl sl) sl)) (sq (sq sl (sb (sp 0 [0,1,5] [(1,[4]),(2,[])] (sq (sq sl (sc sl sl)) (sq (sb (sq sl (sc (sq sl sl) sl))) sl))))) (sq sl sl))))
def B5:PX 14 tq:=⟨_,by conv=>lhs;reduce⟩
def Aj:PL 14 tq 0:=⟨_,by conv=>lhs;reduce⟩
def j9(k1 k2:Q2):Nat->Q2
 |0,_,_=>none
 |n+1,vs,s=>cS c F bn (j9 k1 k2 n) [k1,k2] Aj.1 vs s
def yp(k1 k2:Q2)(n:Nat)(vs:List AV)(s:St):=(by dsimp only[j9,Aj,go_sem,Int.reduceOfNat]:j9 c F k1 k2 (n+1) vs s=_)
def tr:Un->List Q2->Nat->Q2
 |.z,[k1,k2]=>j9 c F k1 k2
 |_,_=>λ_=>dQ
def wm:O2:=bl c F (tr c F) B5.1 [x0,x1] s
def Nk:=(by dsimp only[wm,B5, ↓tr,go_sem,Int.reduceOfNat]:wm c F x0 x1 s=_)
def rJ:Sh:=(sq sl (sq (sq sl (sc (sq sl sl) sl)) (sq (sq sl (sb (sp 0 [0,1,5] [(1,[4]),(2,[])] (sq (sq sl (sc sl sl)) (sq (sb (sq sl (sc (sq sl sl) sl))) sl))))) (sq sl sl))))
def Ak:PX 28 rJ:=⟨_,by conv=>lhs;reduce⟩
def zw:PL 28 rJ 0:=⟨_,by conv=>lhs;reduce⟩
def jM(k1 k2:Q2):Nat->Q2
 |0,_,_=>none
 |n+1,vs,s=>cS c F bn (jM k1 k2 n) [k1,k2] zw.1 vs s
def xC(k1 k2:Q2)(n:Nat)(vs:List AV)(s:St):=(by dsimp only[jM,zw,go_sem,Int.reduceOfNat]:jM c F k1 k2 (n+1) vs s=_)
def rK:Un->List Q2->Nat->Q2
 |.z,[k1,k2]=>jM c F k1 k2
 |_,_=>λ_=>dQ
def uY:O2:=bl c F (rK c F) Ak.1 [x0,x1] s
def LN:=(by dsimp only[uY,Ak, ↓rK,go_sem,Int.reduceOfNat]:uY c F x0 x1 s=_)
def qm:Sh:=(sq sl (sq (sq sl (sc (sq sl sl) sl)) (sq (sq sl (sb (sp 0 [0,1,5] [(1,[4]),(2,[])] (sq (sq sl (sc sl sl)) (sq (sb (sq sl (sc (sq sl sl) sl))) sl))))) (sq sl sl))))
def zx:PX 39 qm:=⟨_,by conv=>lhs;reduce⟩
def yQ:PL 39 qm 0:=⟨_,by conv=>lhs;reduce⟩
def js(k1 k2:Q2):Nat->Q2
 |0,_,_=>none
 |n+1,vs,s=>cS c F bn (js k1 k2 n) [k1,k2] yQ.1 vs s
def vF(k1 k2:Q2)(n:Nat)(vs:List AV)(s:St):=(by dsimp only[js,yQ,go_sem,Int.reduceOfNat]:js c F k1 k2 (n+1) vs s=_)
def qo:Un->List Q2->Nat->Q2
 |.z,[k1,k2]=>js c F k1 k2
 |_,_=>λ_=>dQ
def tu:O2:=bl c F (qo c F) zx.1 [x0,x1] s
def JQ:=(by dsimp only[tu,zx, ↓qo,go_sem,Int.reduceOfNat]:tu c F x0 x1 s=_)
def qp:Sh:=(sq sl (sq (sq sl (sc (sq sl sl) sl)) (sq (sq sl (sb (sp 0 [0,1,5] [(1,[4]),(2,[])] (sq (sq sl (sc sl sl)) (sq (sb (sq sl (sc (sq sl sl) sl))) sl))))) (sq sl sl))))
def zy:PX 40 qp:=⟨_,by conv=>lhs;reduce⟩
def yR:PL 40 qp 0:=⟨_,by conv=>lhs;reduce⟩
def jt(k1 k2:Q2):Nat->Q2
 |0,_,_=>none
 |n+1,vs,s=>cS c F bn (jt k1 k2 n) [k1,k2] yR.1 vs s
def vG(k1 k2:Q2)(n:Nat)(vs:List AV)(s:St):=(by dsimp only[jt,yR,go_sem,Int.reduceOfNat]:jt c F k1 k2 (n+1) vs s=_)
def qt:Un->List Q2->Nat->Q2
 |.z,[k1,k2]=>jt c F k1 k2
 |_,_=>λ_=>dQ
def tA:O2:=bl c F (qt c F) zy.1 [x0,x1] s
def JR:=(by dsimp only[tA,zy, ↓qt,go_sem,Int.reduceOfNat]:tA c F x0 x1 s=_)
def tB:Sh:=(sq sl (sq (sq sl (sc (sq sl sl) sl)) (sq (sq sl (sb (sp 0 [0,1,5] [(1,[4]),(2,[])] (sq (sq sl (sc sl sl)) (sq (sb (sq sl (sc (sq sl sl) sl))) sl))))) (sq sl sl))))
def B6:PX 41 tB:=⟨_,by conv=>lhs;reduce⟩
def Al:PL 41 tB 0:=⟨_,by conv=>lhs;reduce⟩
def ke(k1 k2:Q2):Nat->Q2
 |0,_,_=>none
 |n+1,vs,s=>cS c F bn (ke k1 k2 n) [k1,k2] Al.1 vs s
def yq(k1 k2:Q2)(n:Nat)(vs:List AV)(s:St):=(by dsimp only[ke,Al,go_sem,Int.reduceOfNat]:ke c F k1 k2 (n+1) vs s=_)
def tC:Un->List Q2->Nat->Q2
 |.z,[k1,k2]=>ke c F k1 k2
 |_,_=>λ_=>dQ
def wo:O2:=bl c F (tC c F) B6.1 [x0,x1] s
def Nl:=(by dsimp only[wo,B6, ↓tC,go_sem,Int.reduceOfNat]:wo c F x0 x1 s=_)
def AS:Sh:=(sq sl (sq sl (sq (sq sl (sb (sp 0 [1,2,11,12] [(2,[1,2])] (sq sl (sq (sc sl sl) (sq (sb (sq sl sl)) sl)))))) (sq sl (sq (sq sl (sb (sp 1 [1,2,34,35] [(4,[1,2])] (sq sl (sq (sc sl sl) (sq (sb (sq sl sl)) sl)))))) (sq sl (sq sl sl)))))))
def Qv:PX 42 AS:=⟨_,by conv=>lhs;reduce⟩
def ND:PL 42 AS 1:=⟨_,by conv=>lhs;reduce⟩
def sV(k4:Q2):Nat->Q2
 |0,_,_=>none
 |n+1,vs,s=>cS c F bn (sV k4 n) [k4] ND.1 vs s
def IW(k4:Q2)(n:Nat)(vs:List AV)(s:St):=(by dsimp only[sV,ND,go_sem,Int.reduceOfNat]:sV c F k4 (n+1) vs s=_)
def NF:PL 42 AS 0:=⟨_,by conv=>lhs;reduce⟩
def sU(k2:Q2):Nat->Q2
 |0,_,_=>none
 |n+1,vs,s=>cS c F bn (sU k2 n) [k2] NF.1 vs s
def IV(k2:Q2)(n:Nat)(vs:List AV)(s:St):=(by dsimp only[sU,NF,go_sem,Int.reduceOfNat]:sU c F k2 (n+1) vs s=_)
def FX:Un->List Q2->Nat->Q2
 |.z,[k2]=>sU c F k2
 |(.s .z),[k4]=>sV c F k4
 |_,_=>λ_=>dQ
def L9:O2:=bl c F (FX c F) Qv.1 [x0] s
def aa3:=(by dsimp only[L9,Qv, ↓FX,go_sem,Int.reduceOfNat]:L9 c F x0 s=_)
def xF:Sh:=(sq sl (sq sl sl))
def xG:PX 43 xF:=⟨_,by conv=>lhs;reduce⟩
def qu:O2:=bl c F bn xG.1 [x0,x1] s
def Hq:=(by dsimp only[qu,xG,go_sem,Int.reduceOfNat]:qu c F x0 x1 s=_)
def qw:Sh:=(sq sl (sq sl (sq (sq sl (sb (sp 0 [0,3,4] [(2,[3])] (sq (sq sl (sc sl sl)) (sq (sb sl) sl))))) (sq sl sl))))
def zA:PX 44 qw:=⟨_,by conv=>lhs;reduce⟩
def yS:PL 44 qw 0:=⟨_,by conv=>lhs;reduce⟩
def ju(k2:Q2):Nat->Q2
 |0,_,_=>none
 |n+1,vs,s=>cS c F bn (ju k2 n) [k2] yS.1 vs s
def vH(k2:Q2)(n:Nat)(vs:List AV)(s:St):=(by dsimp only[ju,yS,go_sem,Int.reduceOfNat]:ju c F k2 (n+1) vs s=_)
def qx:Un->List Q2->Nat->Q2
 |.z,[k2]=>ju c F k2
 |_,_=>λ_=>dQ
def tD:O2:=bl c F (qx c F) zA.1 [x0] s
def JV:=(by dsimp only[tD,zA, ↓qx,go_sem,Int.reduceOfNat]:tD c F x0 s=_)
def qy:Sh:=(sq sl (sq sl (sq (sq sl (sb (sp 0 [0,3,4] [(2,[3])] (sq (sq sl (sc sl sl)) (sq (sb sl) sl))))) (sq sl sl))))
def zB:PX 45 qy:=⟨_,by conv=>lhs;reduce⟩
def yT:PL 45 qy 0:=⟨_,by conv=>lhs;reduce⟩
def jv(k2:Q2):Nat->Q2
 |0,_,_=>none
 |n+1,vs,s=>cS c F bn (jv k2 n) [k2] yT.1 vs s
def vI(k2:Q2)(n:Nat)(vs:List AV)(s:St):=(by dsimp only[jv,yT,go_sem,Int.reduceOfNat]:jv c F k2 (n+1) vs s=_)
def qz:Un->List Q2->Nat->Q2
 |.z,[k2]=>jv c F k2
 |_,_=>λ_=>dQ
def tF:O2:=bl c F (qz c F) zB.1 [x0] s
def JW:=(by dsimp only[tF,zB, ↓qz,go_sem,Int.reduceOfNat]:tF c F x0 s=_)
def tG:Sh:=(sq sl (sq sl (sq (sq sl (sb (sp 0 [0,3,4] [(2,[3])] (sq (sq sl (sc sl sl)) (sq (sb sl) sl))))) (sq sl sl))))
def B7:PX 46 tG:=⟨_,by conv=>lhs;reduce⟩
def Am:PL 46 tG 0:=⟨_,by conv=>lhs;reduce⟩
def ki(k2:Q2):Nat->Q2
 |0,_,_=>none
 |n+1,vs,s=>cS c F bn (ki k2 n) [k2] Am.1 vs s
def pU(k2:Q2)(n:Nat)(vs:List AV)(s:St):=(by dsimp only[ki,Am,go_sem,Int.reduceOfNat]:ki c F k2 (n+1) vs s=_)
def tH:Un->List Q2->Nat->Q2
 |.z,[k2]=>ki c F k2
 |_,_=>λ_=>dQ
def wu:O2:=bl c F (tH c F) B7.1 [x0] s
def Nq:=(by dsimp only[wu,B7, ↓tH,go_sem,Int.reduceOfNat]:wu c F x0 s=_)
def tI:Sh:=(sq sl (sq sl (sq (sq sl (sb (sp 0 [0,3,4] [(2,[3])] (sq (sq sl (sc sl sl)) (sq (sb sl) sl))))) (sq sl sl))))
def B8:PX 47 tI:=⟨_,by conv=>lhs;reduce⟩
def An:PL 47 tI 0:=⟨_,by conv=>lhs;reduce⟩
def kf(k2:Q2):Nat->Q2
 |0,_,_=>none
 |n+1,vs,s=>cS c F bn (kf k2 n) [k2] An.1 vs s
def pT(k2:Q2)(n:Nat)(vs:List AV)(s:St):=(by dsimp only[kf,An,go_sem,Int.reduceOfNat]:kf c F k2 (n+1) vs s=_)
def tJ:Un->List Q2->Nat->Q2
 |.z,[k2]=>kf c F k2
 |_,_=>λ_=>dQ
def wz:O2:=bl c F (tJ c F) B8.1 [x0] s
def Np:=(by dsimp only[wz,B8, ↓tJ,go_sem,Int.reduceOfNat]:wz c F x0 s=_)
def rL:Sh:=(sq sl (sq sl (sq (sq sl (sb (sp 0 [0,3,4] [(2,[3])] (sq (sq sl (sc sl sl)) (sq (sb sl) sl))))) (sq sl sl))))
def Ao:PX 48 rL:=⟨_,by conv=>lhs;reduce⟩
def zC:PL 48 rL 0:=⟨_,by conv=>lhs;reduce⟩
def jO(k2:Q2):Nat->Q2
 |0,_,_=>none
 |n+1,vs,s=>cS c F bn (jO k2 n) [k2] zC.1 vs s
def oW(k2:Q2)(n:Nat)(vs:List AV)(s:St):=(by dsimp only[jO,zC,go_sem,Int.reduceOfNat]:jO c F k2 (n+1) vs s=_)
def rM:Un->List Q2->Nat->Q2
 |.z,[k2]=>jO c F k2
 |_,_=>λ_=>dQ
def uZ:O2:=bl c F (rM c F) Ao.1 [x0] s
def LR:=(by dsimp only[uZ,Ao, ↓rM,go_sem,Int.reduceOfNat]:uZ c F x0 s=_)
def FY:Sh:=(sq sl (sq sl (sq sl (sq (sq sl (sb (sp 0 [5,23,24,25] [(2,[5])] (sq sl (sq (sc sl sl) (sj [5,23,24,25] (sb (sq sl (sq sl (sc sl sl)))) sl)))))) (sq sl sl)))))
def Qw:PX 79 FY:=⟨_,by conv=>lhs;reduce⟩
def NG:PL 79 FY 0:=⟨_,by conv=>lhs;reduce⟩
def sS(k2:Q2):Nat->Q2
 |0,_,_=>none
 |n+1,vs,s=>cS c F bn (sS k2 n) [k2] NG.1 vs s
def A8(k2:Q2)(n:Nat)(vs:List AV)(s:St):=(by dsimp only[sS,NG,go_sem,Int.reduceOfNat]:sS c F k2 (n+1) vs s=_)
def FZ:Un->List Q2->Nat->Q2
 |.z,[k2]=>sS c F k2
 |_,_=>λ_=>dQ
def Ma:O2:=bl c F (FZ c F) Qw.1 [x0] s
def aaY:=(by dsimp only[Ma,Qw, ↓FZ,go_sem,Int.reduceOfNat]:Ma c F x0 s=_)
def Ap:Sh:=(sq sl (sq sl sl))
def Aq:PX 84 Ap:=⟨_,by conv=>lhs;reduce⟩
def u0:O2:=bl c F bn Aq.1 [x0,x1] s
def LO:=(by dsimp only[u0,Aq,go_sem,Int.reduceOfNat]:u0 c F x0 x1 s=_)
def Au:Sh:=(sq sl (sq sl sl))
def Av:PX 85 Au:=⟨_,by conv=>lhs;reduce⟩
def u7:O2:=bl c F bn Av.1 [x0,x1] s
def LP:=(by dsimp only[u7,Av,go_sem,Int.reduceOfNat]:u7 c F x0 x1 s=_)
def oE:Sh:=(sq sl (sq (sq sl (sc (sq sl sl) sl)) (sq sl sl)))
def oF:PX 86 oE:=⟨_,by conv=>lhs;reduce⟩
def kH:O2:=bl c F bn oF.1 [x0] s
def oB:=(by dsimp only[kH,oF,go_sem,Int.reduceOfNat]:kH c F x0 s=_)
def Aw:Sh:=(sq sl (sq (sq sl (sc (sq sl sl) sl)) (sq sl sl)))
def Ay:PX 87 Aw:=⟨_,by conv=>lhs;reduce⟩
def u9:O2:=bl c F bn Ay.1 [x0] s
def Ae:=(by dsimp only[u9,Ay,go_sem,Int.reduceOfNat]:u9 c F x0 s=_)
def oH:Sh:=(sq sl (sq (sq sl (sc (sq sl sl) sl)) (sq sl sl)))
def oI:PX 88 oH:=⟨_,by conv=>lhs;reduce⟩
def kJ:O2:=bl c F bn oI.1 [x0] s
def oC:=(by dsimp only[kJ,oI,go_sem,Int.reduceOfNat]:kJ c F x0 s=_)
def qW:Sh:=(sq sl (sq (sq sl (sc (sq sl sl) sl)) (sq sl sl)))
def qX:PX 90 qW:=⟨_,by conv=>lhs;reduce⟩
def mS:O2:=bl c F bn qX.1 [x0] s
def qU:=(by dsimp only[mS,qX,go_sem,Int.reduceOfNat]:mS c F x0 s=_)
def pZ:Sh:=(sq sl (sq (sq sl (sc (sq sl sl) sl)) (sq sl sl)))
def p7:PX 91 pZ:=⟨_,by conv=>lhs;reduce⟩
def l7:O2:=bl c F bn p7.1 [x0] s
def pS:=(by dsimp only[l7,p7,go_sem,Int.reduceOfNat]:l7 c F x0 s=_)
def rN:Sh:=(sq sl (sq (sq sl (sb (sp 0 [0,1,7,8] [(1,[4]),(2,[])] (sq sl (sq (sc sl sl) (sq (sb (sq sl (sq sl (sc (sq sl sl) sl)))) sl)))))) (sq sl sl)))
def Az:PX 92 rN:=⟨_,by conv=>lhs;reduce⟩
def zD:PL 92 rN 0:=⟨_,by conv=>lhs;reduce⟩
def jK(k1 k2:Q2):Nat->Q2
 |0,_,_=>none
 |n+1,vs,s=>cS c F bn (jK k1 k2 n) [k1,k2] zD.1 vs s
def xz(k1 k2:Q2)(n:Nat)(vs:List AV)(s:St):=(by dsimp only[jK,zD,go_sem,Int.reduceOfNat,Int.reduceNegSucc]:jK c F k1 k2 (n+1) vs s=_)
def rO:Un->List Q2->Nat->Q2
 |.z,[k1,k2]=>jK c F k1 k2
 |_,_=>λ_=>dQ
def ve:O2:=bl c F (rO c F) Az.1 [x0,x1] s
def LJ:=(by dsimp only[ve,Az, ↓rO,go_sem,Int.reduceOfNat,Int.reduceNegSucc]:ve c F x0 x1 s=_)
def AA:Sh:=(sq sl (sq sl (sq sl sl)))
def AD:PX 93 AA:=⟨_,by conv=>lhs;reduce⟩
def vg:O2:=bl c F bn AD.1 [x0] s
def LS:=(by dsimp only[vg,AD,go_sem,Int.reduceOfNat]:vg c F x0 s=_)
def AE:Sh:=(sq sl (sq sl (sq sl sl)))
def AG:PX 94 AE:=⟨_,by conv=>lhs;reduce⟩
def vh:O2:=bl c F bn AG.1 [x0] s
def LU:=(by dsimp only[vh,AG,go_sem,Int.reduceOfNat]:vh c F x0 s=_)
def Qx:Sh:=(sq sl (sq sl (sq sl sl)))
def Qy:PX 118 Qx:=⟨_,by conv=>lhs;reduce⟩
def Mb:O2:=bl c F bn Qy.1 [x0,x1,x2] s
def aaV:=(by dsimp only[Mb,Qy,go_sem,Int.reduceOfNat]:Mb c F x0 x1 x2 s=_)
def Qz:Sh:=(sq sl (sq sl (sq sl sl)))
def QA:PX 119 Qz:=⟨_,by conv=>lhs;reduce⟩
def Mc:O2:=bl c F bn QA.1 [x0,x1,x2] s
def aaW:=(by dsimp only[Mc,QA,go_sem,Int.reduceOfNat]:Mc c F x0 x1 x2 s=_)
def yV:Sh:=(sq sl (sq sl (sq (sq sl (sb (sp 0 [1,2,5,15,16] [(2,[1,2,5])] (sq sl (sq (sc sl sl) (sq (sb (sq sl sl)) sl)))))) (sq sl (sq sl (sq (sb (sp 1 [2,5,7] [(4,[5])] (sq (sq sl (sc sl sl)) (sb (sq sl (sq sl (sq sl (sb (sp 2 [2,5,7,8,36,37,38] [(6,[2,5,7])] (sq sl (sq (sc sl sl) (sj [2,5,7,8,36,37,38] (sb (sq sl (sq sl (sc (sq sl sl) sl)))) sl)))))))))))) (sq sl sl)))))))
def Tq:PX 157 yV:=⟨_,by conv=>lhs;reduce⟩
def QB:PL 157 yV 2:=⟨_,by conv=>lhs;reduce⟩
def qG(k6:Q2):Nat->Q2
 |0,_,_=>none
 |n+1,vs,s=>cS c F bn (qG k6 n) [k6] QB.1 vs s
def xA(k6:Q2)(n:Nat)(vs:List AV)(s:St):=(by dsimp only[qG,QB,go_sem,Int.reduceOfNat,Int.reduceNegSucc]:qG c F k6 (n+1) vs s=_)
def QC:Un->List Q2->Nat->Q2
 |(.s (.s .z)),[k6]=>qG c F k6
 |_,_=>λ_=>dQ
def QD:PL 157 yV 1:=⟨_,by conv=>lhs;reduce⟩
def nX(k4:Q2):Nat->Q2
 |0,_,_=>none
 |n+1,vs,s=>cS c F (QC c F) (nX k4 n) [k4] QD.1 vs s
def C6(k4:Q2)(n:Nat)(vs:List AV)(s:St):=(by dsimp only[nX,QD, ↓QC,go_sem,Int.reduceOfNat,Int.reduceNegSucc]:nX c F k4 (n+1) vs s=_)
def QE:PL 157 yV 0:=⟨_,by conv=>lhs;reduce⟩
def qH(k2:Q2):Nat->Q2
 |0,_,_=>none
 |n+1,vs,s=>cS c F bn (qH k2 n) [k2] QE.1 vs s
def KR(k2:Q2)(n:Nat)(vs:List AV)(s:St):=(by dsimp only[qH,QE,go_sem,Int.reduceOfNat,Int.reduceNegSucc]:qH c F k2 (n+1) vs s=_)
def Jz:Un->List Q2->Nat->Q2
 |.z,[k2]=>qH c F k2
 |(.s .z),[k4]=>nX c F k4
 |(.s (.s .z)),[k6]=>qG c F k6
 |_,_=>λ_=>dQ
def PC:O2:=bl c F (Jz c F) Tq.1 [x0,x1] s
def ada:=(by dsimp only[PC,Tq, ↓Jz,go_sem,Int.reduceOfNat,Int.reduceNegSucc]:PC c F x0 x1 s=_)
def rP:Sh:=(sq sl (sq (sq sl (sc (sq sl sl) sl)) (sq (sq sl (sb (sp 0 [0,1,5] [(1,[4]),(2,[])] (sq (sq sl (sc sl sl)) (sq (sb (sq sl (sc (sq sl sl) sl))) sl))))) (sq sl sl))))
def AH:PX 170 rP:=⟨_,by conv=>lhs;reduce⟩
def zE:PL 170 rP 0:=⟨_,by conv=>lhs;reduce⟩
def jL(k1 k2:Q2):Nat->Q2
 |0,_,_=>none
 |n+1,vs,s=>cS c F bn (jL k1 k2 n) [k1,k2] zE.1 vs s
def xB(k1 k2:Q2)(n:Nat)(vs:List AV)(s:St):=(by dsimp only[jL,zE,go_sem,Int.reduceOfNat]:jL c F k1 k2 (n+1) vs s=_)
def rQ:Un->List Q2->Nat->Q2
 |.z,[k1,k2]=>jL c F k1 k2
 |_,_=>λ_=>dQ
def vk:O2:=bl c F (rQ c F) AH.1 [x0,x1] s
def LM:=(by dsimp only[vk,AH, ↓rQ,go_sem,Int.reduceOfNat]:vk c F x0 x1 s=_)
def rR:Sh:=(sq sl (sq sl (sq (sq sl (sb (sp 0 [0,3,4] [(2,[3])] (sq (sq sl (sc sl sl)) (sq (sb sl) sl))))) (sq sl sl))))
def AI:PX 171 rR:=⟨_,by conv=>lhs;reduce⟩
def zF:PL 171 rR 0:=⟨_,by conv=>lhs;reduce⟩
def jN(k2:Q2):Nat->Q2
 |0,_,_=>none
 |n+1,vs,s=>cS c F bn (jN k2 n) [k2] zF.1 vs s
def oV(k2:Q2)(n:Nat)(vs:List AV)(s:St):=(by dsimp only[jN,zF,go_sem,Int.reduceOfNat]:jN c F k2 (n+1) vs s=_)
def rS:Un->List Q2->Nat->Q2
 |.z,[k2]=>jN c F k2
 |_,_=>λ_=>dQ
def vn:O2:=bl c F (rS c F) AI.1 [x0] s
def LQ:=(by dsimp only[vn,AI, ↓rS,go_sem,Int.reduceOfNat]:vn c F x0 s=_)
def FA:Sh:=(sq sl (sq sl sl))
def FB:PX 212 FA:=⟨_,by conv=>lhs;reduce⟩
def Bf:O2:=bl c F bn FB.1 [x0,x1,x2,x3] s
def SA:=(by dsimp only[Bf,FB,go_sem,Int.reduceOfNat]:Bf c F x0 x1 x2 x3 s=_)
def FC:Sh:=(sq sl (sq sl sl))
def FD:PX 213 FC:=⟨_,by conv=>lhs;reduce⟩
def Bg:O2:=bl c F bn FD.1 [x0,x1,x2,x3] s
def SB:=(by dsimp only[Bg,FD,go_sem,Int.reduceOfNat]:Bg c F x0 x1 x2 x3 s=_)
def GH:Sh:=(sq sl (sq sl sl))
def GI:PX 214 GH:=⟨_,by conv=>lhs;reduce⟩
def Dz:O2:=bl c F bn GI.1 [x0,x1] s
def Uz:=(by dsimp only[Dz,GI,go_sem,Int.reduceOfNat]:Dz c F x0 x1 s=_)
def GJ:Sh:=(sq sl (sq sl (sq (sb (sq sl (sc (sq sl sl) (sq sl (sc (sq sl sl) sl))))) (sq sl sl))))
def GK:PX 217 GJ:=⟨_,by conv=>lhs;reduce⟩
def DA:O2:=bl c F bn GK.1 [x0,x1,x2,x3] s
def Uu:=(by dsimp only[DA,GK,go_sem,Int.reduceOfNat]:DA c F x0 x1 x2 x3 s=_)
def GL:Sh:=(sq sl (sq (sq sl (sc (sq sl sl) sl)) (sq sl sl)))
def GM:PX 218 GL:=⟨_,by conv=>lhs;reduce⟩
def DB:O2:=bl c F bn GM.1 [x0,x1,x2,x3] s
def Uv:=(by dsimp only[DB,GM,go_sem,Int.reduceOfNat]:DB c F x0 x1 x2 x3 s=_)
def GN:Sh:=(sq sl (sq (sq sl (sc (sq sl sl) sl)) (sq sl sl)))
def GO:PX 219 GN:=⟨_,by conv=>lhs;reduce⟩
def DC:O2:=bl c F bn GO.1 [x0,x1] s
def UA:=(by dsimp only[DC,GO,go_sem,Int.reduceOfNat]:DC c F x0 x1 s=_)
def GP:Sh:=(sq sl (sq sl sl))
def GQ:PX 222 GP:=⟨_,by conv=>lhs;reduce⟩
def DD:O2:=bl c F bn GQ.1 [x0,x1,x2,x3] s
def Uw:=(by dsimp only[DD,GQ,go_sem,Int.reduceOfNat]:DD c F x0 x1 x2 x3 s=_)
def GR:Sh:=(sq sl (sq sl sl))
def GU:PX 223 GR:=⟨_,by conv=>lhs;reduce⟩
def DE:O2:=bl c F bn GU.1 [x0,x1,x2,x3] s
def Ux:=(by dsimp only[DE,GU,go_sem,Int.reduceOfNat]:DE c F x0 x1 x2 x3 s=_)
def GV:Sh:=(sq sl (sq sl sl))
def GW:PX 224 GV:=⟨_,by conv=>lhs;reduce⟩
def DF:O2:=bl c F bn GW.1 [x0,x1] s
def UB:=(by dsimp only[DF,GW,go_sem,Int.reduceOfNat]:DF c F x0 x1 s=_)
def JA:Sh:=(sq sl (sq sl sl))
def JB:PX 227 JA:=⟨_,by conv=>lhs;reduce⟩
def EI:O2:=bl c F bn JB.1 [x0,x1,x2,x3] s
def Wl:=(by dsimp only[EI,JB,go_sem,Int.reduceOfNat]:EI c F x0 x1 x2 x3 s=_)
def GX:Sh:=(sq sl (sq sl sl))
def GY:PX 228 GX:=⟨_,by conv=>lhs;reduce⟩
def DG:O2:=bl c F bn GY.1 [x0,x1,x2,x3] s
def Uy:=(by dsimp only[DG,GY,go_sem,Int.reduceOfNat]:DG c F x0 x1 x2 x3 s=_)
def GZ:Sh:=(sq sl (sq sl sl))
def G0:PX 229 GZ:=⟨_,by conv=>lhs;reduce⟩
def DH:O2:=bl c F bn G0.1 [x0,x1] s
def UC:=(by dsimp only[DH,G0,go_sem,Int.reduceOfNat]:DH c F x0 x1 s=_)
def Vw:Sh:=(sq sl (sq sl sl))
def Vx:PX 231 Vw:=⟨_,by conv=>lhs;reduce⟩
def Tr:O2:=bl c F bn Vx.1 [x0,x1,x2] s
def ad5:=(by dsimp only[Tr,Vx,go_sem,Int.reduceOfNat]:Tr c F x0 x1 x2 s=_)
def Yl:Sh:=(sq sl (sq sl sl))
def Ym:PX 256 Yl:=⟨_,by conv=>lhs;reduce⟩
def Wy:O2:=bl c F bn Ym.1 [x0,x1] s
def aga:=(by dsimp only[Wy,Ym,go_sem,Int.reduceOfNat]:Wy c F x0 x1 s=_)
end
section
variable{c:aq}(hc:Sem c)(F:Nat){x0 x1 x2 x3 x4 x5 x6 x7 x8 x9 Fb Fc:AV}{s:St}{r:AV×St}
include hc
theorem FM(h:rH c F x0 x1 s=some r):c 11 [x0,x1] s=some (tidy s r):=hc.o0 F yM (by kernel_rfl) (by kernel_rfl) h
theorem FN(h:rI c F x0 s=some r):c 13 [x0] s=some (tidy s r):=hc.o0 F yO (by kernel_rfl) (by kernel_rfl) h
theorem JO(h:wm c F x0 x1 s=some r):c 14 [x0,x1] s=some (tidy s r):=hc.o1 F (tr c F) tq (by kernel_rfl) (by kernel_rfl) (λ_ _ _=>by kernel_rfl) (λ_ _ _ _=>by kernel_rfl) (by kernel_rfl) h
theorem IN(h:uY c F x0 x1 s=some r):c 28 [x0,x1] s=some (tidy s r):=hc.o1 F (rK c F) rJ (by kernel_rfl) (by kernel_rfl) (λ_ _ _=>by kernel_rfl) (λ_ _ _ _=>by kernel_rfl) (by kernel_rfl) h
theorem Ht(h:tu c F x0 x1 s=some r):c 39 [x0,x1] s=some (tidy s r):=hc.o1 F (qo c F) qm (by kernel_rfl) (by kernel_rfl) (λ_ _ _=>by kernel_rfl) (λ_ _ _ _=>by kernel_rfl) (by kernel_rfl) h
theorem Hu(h:tA c F x0 x1 s=some r):c 40 [x0,x1] s=some (tidy s r):=hc.o1 F (qt c F) qp (by kernel_rfl) (by kernel_rfl) (λ_ _ _=>by kernel_rfl) (λ_ _ _ _=>by kernel_rfl) (by kernel_rfl) h
theorem JP(h:wo c F x0 x1 s=some r):c 41 [x0,x1] s=some (tidy s r):=hc.o1 F (tC c F) tB (by kernel_rfl) (by kernel_rfl) (λ_ _ _=>by kernel_rfl) (λ_ _ _ _=>by kernel_rfl) (by kernel_rfl) h
theorem X9(h:L9 c F x0 s=some r):c 42 [x0] s=some (tidy s r):=hc.oL F (FX c F) AS 2 (by kernel_rfl) (λi hi=>match i,hi with|0,_=>cq 0 (by kernel_rfl) (λ_ _ _=>by kernel_rfl) (λ_ _ _ _=>by kernel_rfl)|1,_=>cq 1 (by kernel_rfl) (λ_ _ _=>by kernel_rfl) (λ_ _ _ _=>by kernel_rfl)|n+2,h=>absurd h (by omega)) (by kernel_rfl) h
theorem Fj(h:qu c F x0 x1 s=some r):c 43 [x0,x1] s=some (tidy s r):=hc.o0 F xF (by kernel_rfl) (by kernel_rfl) h
theorem Hv(h:tD c F x0 s=some r):c 44 [x0] s=some (tidy s r):=hc.o1 F (qx c F) qw (by kernel_rfl) (by kernel_rfl) (λ_ _ _=>by kernel_rfl) (λ_ _ _ _=>by kernel_rfl) (by kernel_rfl) h
theorem Hw(h:tF c F x0 s=some r):c 45 [x0] s=some (tidy s r):=hc.o1 F (qz c F) qy (by kernel_rfl) (by kernel_rfl) (λ_ _ _=>by kernel_rfl) (λ_ _ _ _=>by kernel_rfl) (by kernel_rfl) h
theorem JU(h:wu c F x0 s=some r):c 46 [x0] s=some (tidy s r):=hc.o1 F (tH c F) tG (by kernel_rfl) (by kernel_rfl) (λ_ _ _=>by kernel_rfl) (λ_ _ _ _=>by kernel_rfl) (by kernel_rfl) h
theorem JS(h:wz c F x0 s=some r):c 47 [x0] s=some (tidy s r):=hc.o1 F (tJ c F) tI (by kernel_rfl) (by kernel_rfl) (λ_ _ _=>by kernel_rfl) (λ_ _ _ _=>by kernel_rfl) (by kernel_rfl) h
theorem IY(h:uZ c F x0 s=some r):c 48 [x0] s=some (tidy s r):=hc.o1 F (rM c F) rL (by kernel_rfl) (by kernel_rfl) (λ_ _ _=>by kernel_rfl) (λ_ _ _ _=>by kernel_rfl) (by kernel_rfl) h
theorem X6(h:Ma c F x0 s=some r):c 79 [x0] s=some (tidy s r):=hc.o1 F (FZ c F) FY (by kernel_rfl) (by kernel_rfl) (λ_ _ _=>by kernel_rfl) (λ_ _ _ _=>by kernel_rfl) (by kernel_rfl) h
theorem IP(h:u0 c F x0 x1 s=some r):c 84 [x0,x1] s=some (tidy s r):=hc.o0 F Ap (by kernel_rfl) (by kernel_rfl) h
theorem IQ(h:u7 c F x0 x1 s=some r):c 85 [x0,x1] s=some (tidy s r):=hc.o0 F Au (by kernel_rfl) (by kernel_rfl) h
theorem nC(h:kH c F x0 s=some r):c 86 [x0] s=some (tidy s r):=hc.o0 F oE (by kernel_rfl) (by kernel_rfl) h
theorem yu(h:u9 c F x0 s=some r):c 87 [x0] s=some (tidy s r):=hc.o0 F Aw (by kernel_rfl) (by kernel_rfl) h
theorem nD(h:kJ c F x0 s=some r):c 88 [x0] s=some (tidy s r):=hc.o0 F oH (by kernel_rfl) (by kernel_rfl) h
theorem pR(h:mS c F x0 s=some r):c 90 [x0] s=some (tidy s r):=hc.o0 F qW (by kernel_rfl) (by kernel_rfl) h
theorem oA(h:l7 c F x0 s=some r):c 91 [x0] s=some (tidy s r):=hc.o0 F pZ (by kernel_rfl) (by kernel_rfl) h
theorem IK(h:ve c F x0 x1 s=some r):c 92 [x0,x1] s=some (tidy s r):=hc.o1 F (rO c F) rN (by kernel_rfl) (by kernel_rfl) (λ_ _ _=>by kernel_rfl) (λ_ _ _ _=>by kernel_rfl) (by kernel_rfl) h
theorem IZ(h:vg c F x0 s=some r):c 93 [x0] s=some (tidy s r):=hc.o0 F AA (by kernel_rfl) (by kernel_rfl) h
theorem I0(h:vh c F x0 s=some r):c 94 [x0] s=some (tidy s r):=hc.o0 F AE (by kernel_rfl) (by kernel_rfl) h
theorem X4(h:Mb c F x0 x1 x2 s=some r):c 118 [x0,x1,x2] s=some (tidy s r):=hc.o0 F Qx (by kernel_rfl) (by kernel_rfl) h
theorem X5(h:Mc c F x0 x1 x2 s=some r):c 119 [x0,x1,x2] s=some (tidy s r):=hc.o0 F Qz (by kernel_rfl) (by kernel_rfl) h
theorem Zl(h:PC c F x0 x1 s=some r):c 157 [x0,x1] s=some (tidy s r):=hc.oL F (Jz c F) yV 3 (by kernel_rfl) (λi hi=>match i,hi with|0,_=>cq 0 (by kernel_rfl) (λ_ _ _=>by kernel_rfl) (λ_ _ _ _=>by kernel_rfl)|1,_=>cq 1 (by kernel_rfl) (λ_ _ _=>by kernel_rfl) (λ_ _ _ _=>by kernel_rfl)|2,_=>cq 2 (by kernel_rfl) (λ_ _ _=>by kernel_rfl) (λ_ _ _ _=>by kernel_rfl)|n+3,h=>absurd h (by omega)) (by kernel_rfl) h
theorem IM(h:vk c F x0 x1 s=some r):c 170 [x0,x1] s=some (tidy s r):=hc.o1 F (rQ c F) rP (by kernel_rfl) (by kernel_rfl) (λ_ _ _=>by kernel_rfl) (λ_ _ _ _=>by kernel_rfl) (by kernel_rfl) h
theorem IX(h:vn c F x0 s=some r):c 171 [x0] s=some (tidy s r):=hc.o1 F (rS c F) rR (by kernel_rfl) (by kernel_rfl) (λ_ _ _=>by kernel_rfl) (λ_ _ _ _=>by kernel_rfl) (by kernel_rfl) h
theorem Ph(h:Bf c F x0 x1 x2 x3 s=some r):c 212 [x0,x1,x2,x3] s=some (tidy s r):=hc.o0 F FA (by kernel_rfl) (by kernel_rfl) h
theorem Pj(h:Bg c F x0 x1 x2 x3 s=some r):c 213 [x0,x1,x2,x3] s=some (tidy s r):=hc.o0 F FC (by kernel_rfl) (by kernel_rfl) h
theorem Q7(h:Dz c F x0 x1 s=some r):c 214 [x0,x1] s=some (tidy s r):=hc.o0 F GH (by kernel_rfl) (by kernel_rfl) h
theorem Q0(h:DA c F x0 x1 x2 x3 s=some r):c 217 [x0,x1,x2,x3] s=some (tidy s r):=hc.o0 F GJ (by kernel_rfl) (by kernel_rfl) h
theorem Q3(h:DB c F x0 x1 x2 x3 s=some r):c 218 [x0,x1,x2,x3] s=some (tidy s r):=hc.o0 F GL (by kernel_rfl) (by kernel_rfl) h
theorem Q8(h:DC c F x0 x1 s=some r):c 219 [x0,x1] s=some (tidy s r):=hc.o0 F GN (by kernel_rfl) (by kernel_rfl) h
theorem Q4(h:DD c F x0 x1 x2 x3 s=some r):c 222 [x0,x1,x2,x3] s=some (tidy s r):=hc.o0 F GP (by kernel_rfl) (by kernel_rfl) h
theorem Q5(h:DE c F x0 x1 x2 x3 s=some r):c 223 [x0,x1,x2,x3] s=some (tidy s r):=hc.o0 F GR (by kernel_rfl) (by kernel_rfl) h
theorem Q9(h:DF c F x0 x1 s=some r):c 224 [x0,x1] s=some (tidy s r):=hc.o0 F GV (by kernel_rfl) (by kernel_rfl) h
theorem SC(h:EI c F x0 x1 x2 x3 s=some r):c 227 [x0,x1,x2,x3] s=some (tidy s r):=hc.o0 F JA (by kernel_rfl) (by kernel_rfl) h
theorem Q6(h:DG c F x0 x1 x2 x3 s=some r):c 228 [x0,x1,x2,x3] s=some (tidy s r):=hc.o0 F GX (by kernel_rfl) (by kernel_rfl) h
theorem Ra(h:DH c F x0 x1 s=some r):c 229 [x0,x1] s=some (tidy s r):=hc.o0 F GZ (by kernel_rfl) (by kernel_rfl) h
theorem aaX(h:Tr c F x0 x1 x2 s=some r):c 231 [x0,x1,x2] s=some (tidy s r):=hc.o0 F Vw (by kernel_rfl) (by kernel_rfl) h
theorem ac6(h:Wy c F x0 x1 s=some r):c 256 [x0,x1] s=some (tidy s r):=hc.o0 F Yl (by kernel_rfl) (by kernel_rfl) h
end
end
end Go.Proofs.YtngcejgciomphaaGreatDoor
