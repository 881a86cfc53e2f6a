/- The law. -/
import Derived.Test.YtgihekklfnjkiaaGreatDoorDJudgeB
import Derived.Test.YtgihekklfnjkiaaGreatDoorRows
import Derived.Deep.DeepHandedRow
set_option linter.all false
set_option linter.unusedSectionVars false
set_option linter.deprecated false
namespace Go.Proofs.YtgihekklfnjkiaaGreatDoor
noncomputable section
set_option linter.all false
set_option maxRecDepth 100000
set_option maxHeartbeats 4000000
open Go Go.Ai Go.Proofs
attribute [local go_sem ↓] bf Gv ev evX GV getLT Gu aaW kat Dh Di Wp Wq Wr Ws PG PI PJ PM PN PO Wt Wu PR PT PW PY PZ acm acn aco
attribute [local go_sem] bf Gv ev
section
variable(c : aj)(F : Nat)(x0 x1 x2 x3 x4 x5 x6 x7 x8 x9 x10 T7 : AV)(s : St)
def rq:Sh:=(sq sl (sq sl (sq (sq sl (sc (sq sl sl) sl)) (sq sl (sq sl (sq (sq sl (sc (sq sl sl) sl)) (sq sl (sq (sq sl (sc (sq sl sl) sl)) (sq sl (sq sl (sq (sq sl (sb (sp 0 [7,8,11,12,14,15,16] [(2,[7,8,11,12,15])] (sq (sq sl (sc sl sl)) (sq (sb sl) sl))))) (sq sl sl))))))))))))
def yP:PX 6 rq:=⟨_,by conv=>lhs;reduce⟩
def ya:PL 6 rq 0:=⟨_,by conv=>lhs;reduce⟩
def ja(k2:Q2):Nat->Q2
 |0,_,_=>none
 |n+1,vs,s=>dZ c F aY (ja k2 n) [k2] ya.1 vs s
def o6(k2:Q2)(n:Nat)(vs:List AV)(s:St):=(by dsimp only[ja,ya,go_sem,Int.reduceOfNat]:ja c F k2 (n+1) vs s=_)
def ru:Un->List Q2->Nat->Q2
 | .z,[k2]=>ja c F k2
 |_,_=>λ_=>fy
def oP:O2:=bf c F (ru c F) yP.1 [x0,x1,x2] s
def yQ:=(by dsimp only[oP,yP, ↓ru,go_sem,Int.reduceOfNat]:oP c F x0 x1 x2 s=_)
end
section
variable{c : aj}(hc : bw c)(F : Nat){x0 x1 x2 x3 x4 x5 x6 x7 x8 x9 x10 T7 : AV}{s : St}{r : AV × St}
include hc
theorem IF(h:oP c F x0 x1 x2 s=some r):c 6 [x0,x1,x2] s=some (tidy s r):=hc.o1 F (ru c F) rq (by kernel_rfl) (by kernel_rfl) (λ_ _ _=>by kernel_rfl) (λ_ _ _ _=>by kernel_rfl) (by kernel_rfl) h
end
end
section
set_option maxRecDepth 100000
open Go Go.Ai Go.Proofs
variable{c : aj}
theorem ae6{P:Rl->Bool}:∀{l:List Rl}{k i:Nat},Ox P l k=some i->k<=i/\∃r,l[i - k]? =some r/\P r=true
 |[],_,_,h=>by cases h
 |r ::l,k,i,h=>by
  unfold Ox at h;split at h
  . rename_i hp;simp only[H5]at h;subst h;exact⟨Za3 _,r,by simp,hp⟩
  . obtain⟨h1,r',h2,h3⟩:=ae6 h;refine⟨by omega,r',?_,h3⟩;rw[show i - k=(i - (k+1))+1 by omega,Zb7];exact h2
theorem ahT{P:Rl->Bool}:∀{l:List Rl}{k i:Nat}{r:Rl},k<=i->l[i - k]? =some r->P r=true->(i:Int)∈qz P l k
 |[],_,_,_,_,h,_=>by simp at h
 |r ::l,k,i,r',hk,h,hp=>by
  unfold qz;by_cases e:i=k
  . subst e;simp at h;subst h;rw[Zb2 hp];simp
  . rw[show i - k=(i - (k+1))+1 by omega,Zb7]at h;exact Zd8.2 (.inr (ahT (by omega) h hp))
theorem ahU{P:Rl->Bool}:∀{l:List Rl}{k:Nat},(qz P l k).length=0↔l.any P=false
 |[],_=>by simp[qz]
 |r::l,k=>by
  have ih:=ahU (P:=P) (l:=l) (k:=k+1);unfold qz;rw[Ze3,List.any_cons];cases h:P r
  . simpa using ih
  . simp
theorem asA(x7 x8 T7:AV){v:AV}{L:List Int}{s:St}(hL:QS 1 s v (L.map bU))(hl:L.length<=1000000)(x:Int)(F:Nat):∀(m k f:Nat)(e:Bool),k+m=L.length->m<f->∀k2:Q2,
  ja c F k2 f [x7,x8,T7,.int .i64 x,v,.bool e,.int .i64 (k:Int)] s=k2 [x7,x8,T7,.int .i64 x,.bool (e||(L.drop k).contains x)] s:=by
 have ln:=λ(K:AV->St->Option (AV×St))=>hL.lenB (c:=c) K s
 rw[Za5]at ln;intro m;induction m with
 |zero=>
  intro k f e hk hf k2;obtain⟨f,rfl⟩:∃g,f=g+1:=⟨f - 1,by omega⟩
  obtain rfl:k=L.length:=by omega
  rw[o6];simp[ln]
 |succ m ih=>
  intro k f e hk hf k2;obtain⟨f,rfl⟩:∃g,f=g+1:=⟨f - 1,by omega⟩
  have dN:k<L.length:=by omega
  obtain⟨pb,po,p⟩:=pW hL (H0 dN);have p1:=λ{R}=>@p.st R
  have p3:=p.one;have aT:decide ((k:Int)<(L.length:Int))=true:=Za0 (by omega);have wr:av .i64 ((k:Int)+1)=((k+1:Nat):Int):=by rw[wrap64 (by omega) (by omega)];omega
  rw[Zd1 dN,Zq2];generalize L[k]=y at*
  cases e
  . rw[   o6];simp only[aG,bg,ay,ln,cU,aT,dh,fL,p1,aR,p3,aQ,dM,iw,eu,wr];rw[ih (k+1) f _ (by omega) (by omega)];have e:decide (y=x)=(x==y):=by
        by_cases h:y=x
        . simp[h]
        . have h2:(x==y)=false:=(by simpa using λe=>h e.symm);rw[Za1 h,h2]
    rw[e,Zl7]
  . rw[o6];simp only[aG,bg,ay,ln,cU,aT,dh,ag5,kH,eu,wr];rw[ih (k+1) f _ (by omega) (by omega),Bool.true_or,Bool.true_or]
set_option maxHeartbeats 1000000 in
theorem ahV(hc:bw c){xt xg xy xr:List Nat}(ht:∀x∈xt,x<256)(hg:∀x∈xg,x<65536)(hy:∀x∈xy,x<256)(hr:∀x∈xr,x<4294967296)(lt:xt.length<=9223372036854775807)(lg:xg.length<=9223372036854775807)(lr:xr.length<=9223372036854775807)(ly:xy.length<=9223372036854775807)
  (zt zg zy zr z1 z2:Bool) (xs ys:List Int) (lx:xs.length<=9223372036854775807) (_ly:ys.length<=9223372036854775807) (st:St) (hw:Wf st):c 6 [.agg (jg zt zg zy zr xt xg xy xr),ints z1 xs,ints z2 ys] st=some (.bool true,st):=by
 have g1:=Grew.ah hw (.cells (jg zt zg zy zr xt xg xy xr) 0);have ld4:∀(K:AV->St->Option (AV×St)),aq c (.load (some 4)) [.ptr st.next 0] (ah st (.cells (jg zt zg zy zr xt xg xy xr) 0)) K=K (.agg (jg zt zg zy zr xt xg xy xr)) (ah st (.cells (jg zt zg zy zr xt xg xy xr) 0)):=λK=>by rw[cK,aA];rfl
 obtain⟨Vs,s2,jb,j,J,s0,e2,g2,P2,Jg2⟩:=ap9 hc ht hg hy hr lt lg lr ly zt zg zy zr _ g1.wf;obtain⟨vl,vo⟩:=P2.cells;have w2:=g2.wf;have st5:∀(K:AV->St->Option (AV×St)),aq c (.store 5) [.ptr s2.next 0,.agg Vs] (ah s2 (.cells [.af,.af,.af,.af,.af] 0)) K=K .undef (ah s2 (.cells Vs 0)):=λK=>cE c K s2 5 (.agg Vs) _ vl rfl vo
 have g3:=Grew.ah w2 (.cells Vs 0);have x3:=aA s2 (.cells Vs 0);obtain⟨s3,EZ⟩:∃s3,s3=ah s2 (.cells Vs 0):=⟨_,rfl⟩
 obtain⟨b3,Z4⟩:∃b3,b3=s2.next:=⟨_,rfl⟩
 rw[<-EZ]at st5 g3 x3;rw[<-Z4]at st5 x3;have P3:=P2.KD g3;have Jg3:=Jg2.ai g3;have uv:=yO xt xg xy xr;have sz:=anH (xg:=xg) (xy:=xy) (xr:=xr) ht;have hN:=Jg3.sum;have hn:=Jg3.n;obtain⟨s4,v4,e4,M4⟩:=anD hc P3 sz uv.ts uv.gs hN z1 xs lx;have A:=anE (J:=J) (n:=(mU xt xg xy xr).gs.length) hn.symm xs;obtain⟨q,hq⟩:∃q,q=dR (List.replicate J.N false) (pZ (W7 J.N xs) (mU xt xg xy xr).gs.length 0):=⟨_,rfl⟩
 rw[<-hq]at A M4;have g4:=M4.ai;have x4:=g4.get x3;have P4:=P3.KD g4;have jx:q.length<=1000:=by have:=A.len;have:=uv.gs;omega
 obtain⟨s5,v5,e5,M5⟩:=asw hc P4 sz uv.ts hN (q:=q) (P:=v4) (λh=>by have:=A.len;have:=Jg3.fit;omega) jx A.ok M4.own z2 ys;obtain⟨B,EX,AL⟩:=asx A Jg3.fit ys;obtain⟨q',hq'⟩:∃q',q'=dR (oO (List.replicate J.N false) q) (pZ (Cn J.N q ys) q.length 0):=⟨_,rfl⟩
 rw[<-hq']at B EX AL M5;have g5:=M5.ai;have x5:=g5.get x4;have P5:=P4.KD g5;have Jg5:=Jg3.ai (g4.trans g5);have w5:=g5.wf;have Q4:=M4.own.ai g5;have Q5:=M5.own;have O:=Jg5.ok;have jw:=Jg5.jw;have fl:=ap2 hc O jw w5 Q4 A;have co:=asr hc O jw w5 Q5 B;have va:=ahL hc jw w5 Q4 A;have vb:=ahL hc jw w5 Q5 B;have de:=ast hc O jw w5 Q4 A;obtain⟨s6,v6,br,M6⟩:=anA hc O jw w5 Q5 B;have g6:=M6.ai;have ri:=ap5 hc O (jw.ai g6) g6.wf (Q5.ai g6) B;have aw:=auT hc s6;have mono:∀r∈J.p.rs,lJ J q r<=fJ J q' r:=λr hr=>by
  obtain⟨m,R⟩:=O.rul r hr;exact Zb1 (asz R EX) (auS J q' r)
 have hsum:=ae5 mono;have dF:decide (((oC (fJ J q') J.p.rs:Nat):Int)<((oC (lJ J q) J.p.rs:Nat):Int))=false:=Za1 (by omega);have hct:q'.contains (-1)=false:=by
  cases h:q'.contains (-1)with
  |false=>rfl
  |true=>
   exfalso;have h:=List.contains_iff_mem.1 h;obtain⟨i,hi⟩:=Ze7.1 h;have h1:=(Za2.1 hi).1;have:=AL i (by rw[<-B.len];exact h1);rw[mM hi]at this;omega
 rw[hct,Zj2,Zg1]at ri;have ln6:=λ(K:AV->St->Option (AV×St))(s:St)=>M6.own.lenB (c:=c) K s
 rw[Za5]at ln6;have aly:=(g1.trans g2).trans (g3.trans (g4.trans (g5.trans g6)));have head:∀(K:AV->Option (AV×St)),True:=λ_=>trivial
 suffices key:∃F,oP c F (.agg (jg zt zg zy zr xt xg xy xr)) (ints z1 xs) (ints z2 ys) st=some (.bool true,s6)by
  obtain⟨F,k1⟩:=key;rw[IF hc F k1,aC (Plain.bool _) aly.keeps]
 cases hd:Ox (fR (lJ J q)) J.p.rs 0 with
 |none=>
  simp only[hd]at de;refine⟨1,?_⟩;have hb:decide ((((qz (fR (fJ J q')) J.p.rs 0).length:Nat):Int)=0)= !J.p.rs.any (fR (fJ J q')):=by
   have:=ahU (P:=fR (fJ J q')) (l:=J.p.rs) (k:=0);cases h:J.p.rs.any (fR (fJ J q'))with
   |false=>rw[h]at this;rw[Za0 (by have:=this.2 rfl;omega)];rfl
   |    true=>
        rw[h]at this;rw[Za1 (λe=>by have:=this.1 (by omega);cases this)];rfl
  rw[yQ];simp only[dy,show ∀l,AV.cells (.agg l)=l from λl=>rfl,ay,ld4,bR,e2,bH,iJ,Za4,Zb7,aQ,bS, <-EZ, <-Z4,st5,Cd,Zj1,dD,Ho x3 vl,e4,Ho x4 vl,e5,fl,co,ki,dF,fL,va,vb,iw,de,Zj2,dh,br,ln6,dM,hb,ri,atS,beq_self_eq_true,aw,kH]
 |some i=>
  simp only[hd]at de;obtain⟨_,r,hir,hp⟩:=ae6 hd;rw[Zp4]at hir;have uK:=Zc0 hir;unfold fR at hp;rw[Zb5]at hp;have hwt:=Zf7 hp.1;have hl0:=Zf7 hp.2;have hP:fR (fJ J q') r=true:=by unfold fR;rw[hp.1,Za0 (Zc7 hl0 (mono r uK))];rfl
  have xP:(qz (fR (fJ J q')) J.p.rs 0).contains ((i:Nat):Int)=true:=List.contains_iff_mem.2 (ahT (Zh9 _) (by simpa using hir) hP);have hany:J.p.rs.any (fR (fJ J q'))=true:=List.any_eq_true.2 ⟨r,uK,hP⟩;rw[hany,Zj1]at ri;have gX:(qz (fR (fJ J q')) J.p.rs 0).length<=1000000:=by have:=abg (fR (fJ J q')) J.p.rs 0;have:=jw.uv.rs;omega
  have lp:=λ(F:Nat)(hF:(qz (fR (fJ J q')) J.p.rs 0).length<F)(k2:Q2)=>asA (c:=c) (.ptr jb 0) (.ptr b3 0) v5 M6.own gX (i:Int) F (qz (fR (fJ J q')) J.p.rs 0).length 0 F false (by omega) hF k2
  have lp1:=λ(k2:Q2)=>lp ((qz (fR (fJ J q')) J.p.rs 0).length+1) (by omega) k2
  simp only[Ze2,xP,Bool.or_true,show((0:Nat):Int)=0 from rfl]at lp1;refine⟨(qz (fR (fJ J q')) J.p.rs 0).length+1,?_⟩;have P6:=P5.KD g6;have x6:=g6.get x5;obtain⟨V1,V2,V3,V4,V5,r1,r2,rfl,_,_,_,_,h5⟩:=P6.all;have hir2:(mU xt xg xy xr).rs[i]? =some r:=by rw[<-Jg5.sim.rs];exact hir
  obtain⟨wb,wo,hR⟩:=h5.own.rd h5.row (i:=i) (r:=r.cells) (by rw[Zb8,hir2];rfl);have w1:=λ{R}=>@hR.st R
  have w3:=hR.at' 1 _ rfl;have c4:([V1,V2,V3,V4,V5]:List AV)[4]? =some V5:=rfl;have dw:decide (r.wt=0)=true:=hp.1;rw[yQ];simp only[dy,show ∀l,AV.cells (.agg l)=l from λl=>rfl,ay,ld4,bR,e2,bH,iJ,Za4,Zb7,aQ,bS, <-EZ, <-Z4,st5,Cd,Zj1,Zj2,dD,Ho x3 vl,e4,Ho x4 vl,e5,fl,co,ki,dF,fL,va,vb,iw,de,br,lp1,aG,bg,ri,kH,aK,Zb4,aR,x6,aB,Za8,w1,w3,dM,dw,aw]
end
section
set_option maxRecDepth 100000
open Go Go.Ai Go.Proofs Go.RowKit
theorem abk{α:Type}{P:α->Prop}{cells:α->List AV}:∀(rs:List (List AV)),(∀r∈rs,∃t,r=cells t/\P t)->∃l:List α,rs=l.map cells/\∀t∈l,P t
 |[],_=>⟨[],rfl,by simp⟩
 |r::rs,h=>by
  obtain⟨t,rfl,ht⟩:=h r (by simp);obtain⟨l,rfl,hl⟩:=abk rs (λq hq=>h q (Za9 _ hq));refine⟨t::l,rfl,λu hu=> ?_⟩;rcases Zb0.1 hu with rfl|hu
  . exact ht
  . exact hl u hu
section
variable{H : Type}{enc : TypeId × Value -> H}{w : World}{base : Nat}{spare : Nat -> Bool}{held : Bool}
theorem wf_u8{i:Int}(h:(Lit.int .u8 i).wf=true):0<=i/\i<256:=by
 have e1:IntKind.min .u8=0:=by decide
 have e2:IntKind.max .u8=255:=by decide
 have h:(decide (IntKind.min _<=i)&&decide (i<=IntKind.max _))=true:=h;rw[e1,e2,Zb5,Ze4,Ze4]at h;omega
theorem wf_u16{i:Int}(h:(Lit.int .u16 i).wf=true):0<=i/\i<65536:=by
 have e1:IntKind.min .u16=0:=by decide
 have e2:IntKind.max .u16=65535:=by decide
 have h:(decide (IntKind.min _<=i)&&decide (i<=IntKind.max _))=true:=h;rw[e1,e2,Zb5,Ze4,Ze4]at h;omega
theorem wf_u32{i:Int}(h:(Lit.int .u32 i).wf=true):0<=i/\i<4294967296:=by
 have e1:IntKind.min .u32=0:=by decide
 have e2:IntKind.max .u32=4294967295:=by decide
 have h:(decide (IntKind.min _<=i)&&decide (i<=IntKind.max _))=true:=h;rw[e1,e2,Zb5,Ze4,Ze4]at h;omega
def Hp(k:IntKind)(n:Nat)(vs:List AV):Prop:=∃(z:Bool) (l:List Nat),vs=[eX k z l]/\(∀x∈l,x<n)/\l.length<=9223372036854775807
theorem SM{t e:TypeId}{k:IntKind}{n:Nat}(ht:Tryz.prog.underlying t=some (.slice e))(he:Tryz.prog.underlying e=some (.int k))(hc:Tryz.prog.cellsOf e=1)(hk:∀i,(Lit.int k i).wf=true->0<=i/\i<(n:Int)):
  pG enc Tryz.prog w base spare held t (Hp k n):=by
 refine pG.mono (Z3 (es:=1) ht hc (by omega) (λvs h=>by obtain⟨i,rfl,_⟩:=h;rfl) (aeL he)) λvs h=> ?_
 obtain⟨z,rs,rfl,h1,h2⟩:=h;obtain⟨l,rfl,hl⟩:=abk (P:=λx:Nat=>x<n) (cells:=λx:Nat=>[AV.int k (x:Int)]) rs λr hr=>by
  obtain⟨i,rfl,hi⟩:=h1 r hr;have:=hk i hi;exact⟨i.toNat,by rw[show((i.toNat:Nat):Int)=i by omega],by omega⟩
 refine⟨z,l,rfl,hl,?_⟩;rw[Za5]at h2;unfold Go.maxLen at h2;omega
def atT(vs:List AV):Prop:=∃(z:Bool) (l:List Int),vs=[ints z l]/\l.length<=9223372036854775807
theorem ahW:pG enc Tryz.prog w base spare held 27 atT:=by
 refine pG.mono (Z3 (es:=1) (e:=3) (by kernel_rfl) (by kernel_rfl) (by omega) (λvs h=>by obtain⟨i,rfl,_⟩:=h;rfl) (aeL (k:= .i64) (by kernel_rfl))) λvs h=> ?_
 obtain⟨z,rs,rfl,h1,h2⟩:=h;obtain⟨l,rfl,_⟩:=abk (P:=λ_:Int=>True) (cells:=λx:Int=>[AV.int .i64 x]) rs λr hr=>by
  obtain⟨i,rfl,hi⟩:=h1 r hr;exact⟨i,rfl,trivial⟩
 refine⟨z,l,rfl,?_⟩;rw[Za5]at h2;unfold Go.maxLen at h2;omega
theorem ae7:pG enc Tryz.prog w base spare held 22 (Hp .u8 256):=SM (e:=5) (by kernel_rfl) (by kernel_rfl) (by kernel_rfl) λ_ h=>wf_u8 h
theorem alA:pG enc Tryz.prog w base spare held 23 (Hp .u16 65536):=SM (e:=99) (by kernel_rfl) (by kernel_rfl) (by kernel_rfl) λ_ h=>wf_u16 h
theorem alB:pG enc Tryz.prog w base spare held 24 (Hp .u32 4294967296):=SM (e:=102) (by kernel_rfl) (by kernel_rfl) (by kernel_rfl) λ_ h=>wf_u32 h
structure auU(xt xg xy xr:List Nat):Prop where
 t:∀x∈xt,x<256
 g:∀x∈xg,x<65536
 y:∀x∈xy,x<256
 r:∀x∈xr,x<4294967296
 lt:xt.length<=9223372036854775807
 lg:xg.length<=9223372036854775807
 ly:xy.length<=9223372036854775807
 lr:xr.length<=9223372036854775807
theorem afF:pG enc Tryz.prog w base spare held 26 λvs=>∃zt zg zy zr xt xg xy xr,vs=jg zt zg zy zr xt xg xy xr/\auU xt xg xy xr:=by
 refine pG.mono (ahj [22,23,22,24] (Qs:=[Hp .u8 256,Hp .u16 65536,Hp .u8 256,Hp .u32 4294967296]) (by kernel_rfl) (by kernel_rfl) (by kernel_rfl) ⟨ae7,alA,ae7,alB,trivial⟩) λvs h=> ?_
 obtain⟨ps,rfl,m0⟩:=h;obtain⟨p0,q0,rfl,⟨z1,l1,rfl,a1,b1⟩,m1⟩:=GU m0;obtain⟨p0,q0,rfl,⟨z2,l2,rfl,a2,b2⟩,m2⟩:=GU m1;obtain⟨p0,q0,rfl,⟨z3,l3,rfl,a3,b3⟩,m3⟩:=GU m2;obtain⟨p0,q0,rfl,⟨z4,l4,rfl,a4,b4⟩,m4⟩:=GU m3;obtain rfl:=ahs m4;exact⟨z1,z2,z3,z4,l1,l2,l3,l4,rfl,⟨a1,a2,a3,a4,b1,b2,b3,b4⟩⟩
end
end
end Go.Proofs.YtgihekklfnjkiaaGreatDoor
namespace Go.Proofs.YtgihekklfnjkiaaGreatDoor.Hq
section
set_option maxRecDepth 100000
open Go
theorem k1:(Rows.judgeDeadRow.inPlace==Tryz.pinned.checked.prog.inPlace 6)=true:=by kernel_rfl
theorem k2:(Rows.judgeDeadRow.unfollowed==Tryz.pinned.checked.prog.unfollowed 6)=true:=by kernel_rfl
theorem k3:(Rows.judgeDeadRow.recurses==Tryz.pinned.checked.prog.recurses 6)=true:=by kernel_rfl
theorem k4:(Rows.judgeDeadRow.named==Tryz.pinned.checked.prog.varsNamed 6)=true:=by kernel_rfl
theorem k5:laidOutB Tryz.pinned.checked.prog=true:=by kernel_rfl
theorem k6:mapsRowed Tryz.pinned.checked.prog=true:=by kernel_rfl
theorem k7:(Rows.judgeDeadRow.plainKeys==Tryz.pinned.checked.prog.plainKeys)=true:=by kernel_rfl
theorem closed:joinedFacts Tryz.pinned.checked.prog 6 Tryz.f6 (OpenSpec.ofChange Rows.judgeDeadSpec).bare Rows.judgeDeadRow=true:=by
 unfold joinedFacts;rw[k1,k2,k3,k4,k5,k6,k7]
 kernel_rfl
end
end Go.Proofs.YtgihekklfnjkiaaGreatDoor.Hq
