/- Functions of the program, plainly, and what they answer. -/
import Derived.Test.YtgjikjcfjddloaaGreatDoorXLawB
set_option linter.all false
set_option maxRecDepth 100000
set_option maxHeartbeats 4000000
namespace Go.Proofs.YtgjikjcfjddloaaGreatDoor
section
open Go Go.Ai Go.Proofs
variable{c:ah}
end
section
open Go Go.Ai Go.Proofs
end
section
set_option linter.unusedSimpArgs false
open Go Go.Ai Go.Proofs
variable{c:ah}
theorem ajZ(t:aG):0<=bh t/\bh t<=24:=by
 unfold bh;repeat' split
 all_goals omega
theorem TS.aN{s0 s s':St}{V:AV}{ts:List aG}{rows:List (List AV)}(h:TS s0 s V ts rows)(g:Grew s s'):TS s0 s' V ts rows:=
 ⟨h.out.grow g,h.len,λi t r a b=>by obtain⟨v,e1,e2,e3⟩:=h.yc i t r a b;exact⟨v,e1,e2.grow g,e3⟩⟩
theorem GS.aN{s0 s s':St}{V:AV}{ts:List aQ}{rows:List (List AV)}(h:GS s0 s V ts rows)(g:Grew s s'):GS s0 s' V ts rows:=
 ⟨h.out.grow g,h.len,λi t r a b=>by obtain⟨v,e1,e2,e3⟩:=h.yc i t r a b;exact⟨v,e1,e2.grow g,e3⟩⟩
theorem PS.qc{s0 s s':St}{Vs:List AV}{p:aR}(h:PS s0 s Vs p)(g:Grew s s'):PS s0 s' Vs p:=by
 obtain⟨V1,V2,V3,V4,V5,r1,r2,rfl,h1,h2,h3,h4,h5⟩:=h.all;exact⟨h.aN.trans g,V1,V2,V3,V4,V5,r1,r2,rfl,h1.aN g,h2.aN g,h3.grow g,h4.grow g,h5.grow g⟩
abbrev uQ(tk:List Bool):List AV:=tk.map AV.bool
section
variable{st sB s:St}{Vs:List AV}{p:aR}
theorem PS.rT(h:PS st s Vs p):∃V1 V2 r1 r2,Vs[0]? =some V1/\Vs[1]? =some V2/\TS st s V1 p.ts r1/\GS st s V2 p.gs r2/\Vs.length=5:=by
 obtain⟨V1,V2,V3,V4,V5,r1,r2,rfl,h1,h2,_⟩:=h.all;exact⟨V1,V2,r1,r2,rfl,rfl,h1,h2,rfl⟩
theorem TS.ZQ{V:AV}{ts:List aG}{rows:List (List AV)}(h:TS st s V ts rows){t:Nat}{T:aG}(ht:ts[t]? =some T):∃v b o,Rd s 7 V t b o (T.ay v):=by
 have hl:t<rows.length:=by rw[h.len];exact(H5.1 ht).1
 obtain⟨v,e,_⟩:=h.yc t T rows[t] ht (H1 hl);obtain⟨b,o,h4⟩:=h.out.own.rd h.out.row (H1 hl);exact⟨v,b,o,by rw[<-e];exact h4⟩
theorem Xw(N:Nat):List.replicate N (AV.bool false)=uQ (List.replicate N false):=List.map_replicate.symm
end
set_option linter.unusedSimpArgs false
theorem ahl(q:List Int):q.map cq=(q.map (AV.int .i64)).map ac4:=by rw[Zh1];rfl
theorem rdI{s:St}{v:AV}{q:List Int}(h:QS 1 s v (q.map cq)){i:Nat}{x:Int}(hx:q[i]? =some x):∃b o,Rd s 1 v i b o [.int .i64 x]:=by
 rw[ahl]at h;exact h.ZQ (by rw[Zb5,hx];rfl)
def GU(q:List Int)(x:Int):Int:=if q.contains x then((q.idxOf x:Nat):Int)else -1
section
variable{s:St}{P:AV}{q:List Int}
theorem ahm(pq:QS 1 s P (q.map cq))(hl:q.length<=1000000)(x:Int)(F:Nat)(k1 k2:Q2):∀(m k f:Nat),k+m=q.length->m<f->
  iN c F k1 k2 f [P,.int .i64 x,.int .i64 (q.length:Int),.int .i64 (k:Int)] s=if(q.drop k).contains x then k1 [.int .i64 ((k+(q.drop k).idxOf x:Nat):Int)] s else k2 [] s:=by
 intro m;induction m with
 |zero=>
  intro k f hk hf;obtain⟨f,rfl⟩:∃g,f=g+1:=⟨f - 1,by omega⟩
  obtain rfl:k=q.length:=by omega
  rw[mo];simp
 |succ m ih=>
  intro k f hk hf;obtain⟨f,rfl⟩:∃g,f=g+1:=⟨f - 1,by omega⟩
  have cK:k<q.length:=by omega
  obtain⟨pb,po,p⟩:=rdI pq (H1 cK);have p1:=λ{R}=>@p.st R
  have p3:=p.one;have wr:au .i64 ((k:Int)+1)=((k+1:Nat):Int):=wrap64 (by omega) (by omega);rw[Za8 cK,List.contains_cons,List.idxOf_cons];by_cases he:x=q[k]
  .rw[mo];have e2:(x==q[k])=true:=(by simpa using he);have e3:(q[k]==x)=true:=(by simpa using he.symm);have d2:decide (x=q[k])=true:=H2 he;rw[e2,e3,Bool.true_or];simp[cK,p1,p3,d2]
  .have Rm:(x==q[k])=false:=(by simpa using he);have he3:(q[k]==x)=false:=(by simpa using λe=>he e.symm);have d2:decide (x=q[k])=false:=H3 he;rw[Rm,he3,Bool.false_or,cond_false,show k+((q.drop (k+1)).idxOf x+1)=(k+1)+(q.drop (k+1)).idxOf x by omega, <-ih (k+1) f (by omega) (by omega),mo];simp[cK,p1,p3,d2,wr]
theorem adB(hc:bB c)(pq:QS 1 s P (q.map cq))(hl:q.length<=1000000)(x:Int):c 62 [P,.int .i64 x] s=some (.int .i64 (GU q x),s):=by
 have ln:=λ(K:AV->St->Option (AV×St))=>pq.lenB (c:=c) K s
 rw[Zb3]at ln;have hi:=λk1 k2=>ahm (c:=c) pq hl x (q.length+1) k1 k2 q.length 0 (q.length+1) (by omega) (by omega)
 simp only[Zb7,show((0:Nat):Int)=0 from rfl,Zc7]at hi;rw[GR hc (q.length+1) (r:=(.int .i64 (GU q x),s)),ak (Plain.int _ _) (aM.refl s)];rw[Jq];simp only[aj,ln,hi];unfold GU;split<;>simp
theorem Yh(hc:bB c)(pq:QS 1 s P (q.map cq))(hl:q.length<=1000000)(x:Int):c 60 [P,.int .i64 x] s=some (.bool (q.contains x),s):=by
 rw[DB hc 1 (r:=(.bool (q.contains x),s)),ak (Plain.bool _) (aM.refl s)];rw[Fb];simp only[aj,aK,adB hc pq hl,aJ];unfold GU;cases h:q.contains x
 .simp
 .simp
end
set_option linter.unusedSimpArgs false
structure Xx(N n:Nat)(q:List Int):Prop where
 len:q.length=n
 rng:∀x∈q,-1<=x/\x<(N:Int)
 ap:∀(a b:Nat)(x:Int),a<b->q[a]? =some x->q[b]? =some x->x<0
structure R4(p:aR)(N:Nat):Prop where
 Nz:p.ic
 rs:∀r∈p.rs,r.Ok
 rj:(bI p).2=0
 tabs:(bA p.ts).2=0
 sum:(N:Int)=aO p.ts
 le:N<=100000
section
variable{sB s:St}{P:AV}{q:List Int}{N n:Nat}
theorem ahn{tb:Pos}(hq:Xx N n q)(PZ:q.length<=1000)(hN:N<=100000)(pq:QS 1 sB P (q.map cq))(hge:sB.next.toNat<=tb.toNat)(w0:Wf sB)(F:Nat):
  ∀ (m k f:Nat)(s:St)(tk:List Bool),k+m=q.length->m<f->Grew sB s->s.heap.get tb=some (.cells (uQ tk) 0)->tk.length=N->(∀i:Nat,tk[i]? =some true->(i:Int)∈q.take k)->∃s',Grew sB s'/\
    ∀k1 k2:Q2,oE c F k1 k2 f [.bool false,.int .i64 (N:Int),.slice tb 0 N (some N) 1,P,.int .i64 (q.length:Int),.int .i64 (k:Int)] s=k2 [] s':=by
 intro m;induction m with
 |zero=>
  intro k f s tk hk hf gr ht hl pX;obtain⟨f,rfl⟩:∃g,f=g+1:=⟨f - 1,by omega⟩
  obtain rfl:k=q.length:=by omega
  refine⟨s,gr,λk1 k2=> ?_⟩;rw[fR];simp
 |succ m ih=>
  intro k f s tk hk hf gr ht hl pX;obtain⟨f,rfl⟩:∃g,f=g+1:=⟨f - 1,by omega⟩
  have cK:k<q.length:=by omega
  obtain⟨pb,po,p⟩:=rdI (pq.aN gr) (H1 cK);have p1:=λ{R}=>@p.st R
  have p3:=p.one;have hxq:=hq.rng _ (Zc6 cK);have hap:=hq.ap;have wr:au .i64 ((k:Int)+1)=((k+1:Nat):Int):=by rw[wrap64 (by omega) (by omega)];omega
  have tke:q.take (k+1)=q.take k++[q[k]]:=by rw[Zn2,H1 cK];rfl
  have hqk:q[k]? =some q[k]:=H1 cK;generalize q[k]=x at*
  by_cases h0:0<=x
  . obtain⟨i,rfl⟩:∃i:Nat,x=(i:Int):=⟨x.toNat,by omega⟩
    have hi:i<N:=(by omega);have hf0:tk[i]? =some false:=by
        rw[H1 (by omega)];cases h:tk[i]'(by omega)with
        |false=>rfl
        | true=>
          have:=pX i (by rw[H1 (by omega),h]);obtain⟨j,hj⟩:=Zg7.1 this;rw[Zb8]at hj;(split at hj<;>first|(cases hj;done)|skip);rename_i hjk;have:=hap j k i hjk hj hqk;omega
    have ix:=λ(K:AV->St->Option (AV×St))(s1:St)=>CC c K s1 (b:=tb) (off:=0) (len:=N) (es:=1) (es':=1) (cap:=some N) (k:= .i64) (i:=i) hi
    (simp only[Zc7,Zk7]at ix;have ec:(uQ tk)[i]? =some (.bool false):=(by rw[Zb5,hf0];rfl);have pt:=λ(K:AV->St->Option (AV×St))=>QG (c:=c) K ht (o:=i) (by rw[Zb3];omega) (v:= .bool true) rfl rfl);rw[show(uQ tk).set i (.bool true)=uQ (tk.set i true)from(Zq2).symm]at pt;have bw:=gr.wf _ _ ht;obtain⟨s',z1,z3⟩:=ih (k+1) f (cR s tb (.cells (uQ (tk.set i true)) 0)) (tk.set i true) (by omega) (by omega) (MF w0 gr hge bw _) (je _ _ _) (by simpa using hl) (λj hj=>by
        rw[tke];by_cases e:i=j
        .subst e;simp
        .rw[List.getElem?_set_ne e]at hj;exact Zg1 _ (pX j hj))
    refine⟨s',z1,λk1 k2=> ?_⟩;rw[<-z3 k1 k2,fR];have d1:decide ((i:Int)= -1)=false:=H3 (by omega);have d2:decide ((i:Int)< -1)=false:=H3 (by omega);have d3:decide ((N:Int)<=(i:Int))=false:=H3 (by omega);have d4:decide (N<=i)=false:=H3 (by omega);simp[ki,cK,p1,p3,ix,pt,wr,d1,d2,d3,d4,ht,aF,ec]
  .have hx:x= -1:=(by omega);subst hx;obtain⟨s',z1,z3⟩:=ih (k+1) f s tk (by omega) (by omega) gr ht hl (λj hj=>by rw[tke];exact Zg1 _ (pX j hj));refine⟨s',z1,λk1 k2=> ?_⟩;rw[<-z3 k1 k2,fR];have d3:decide ((N:Int)<= -1)=false:=H3 (by omega);simp[ki,cK,p1,p3,wr,d3]
end
section
variable{s0 s:St}{Vs:List AV}{p:aR}{P:AV}{q:List Int}{N:Nat}
theorem Wd:Plain (.tuple [.int .i64 0,.int .i64 0]):= .tuple λv hv=>by simp at hv;subst hv;exact .int _ _
theorem aho(hc:bB c)(h:PS s0 s Vs p)(ok:R4 p N)(pq:QS 1 s P (q.map cq))(hq:Xx N p.gs.length q):c 93 [.agg Vs,P,.bool false] s=some (.tuple [.int .i64 0,.int .i64 0],s):=by
 have hw:=h.aN.wf;have gN:=Grew.af hw (.cells Vs 0);have h1:=h.qc gN;obtain⟨V1,V2,r1,r2,e1,e2,T,T2,e5⟩:=h1.rT;have cn:=Xv hc h1 ok.Nz.ok ok.tabs e1;rw[<-ok.sum]at cn;have xp:=ok.Nz.gs;have hlq:=hq.len;have ln:=λ(K:AV->St->Option (AV×St))(s1:St)=>pq.lenB (c:=c) K s1
 rw[Zb3]at ln;have lg:=λ(K:AV->St->Option (AV×St))(s1:St)=>T2.out.own.lenB (c:=c) K s1
 rw[T2.len]at lg;have hle:=ok.le;have mk:=λ(K:AV->St->Option (AV×St))=>QF c K (af s (.cells Vs 0)) (es:=1) (bytes:=1) (z:=[.bool false]) (k:= .i64) (k':= .i64) (n:=N) (by omega) (by omega)
 rw[AS,Xw]at mk;have gT:=Grew.af gN.wf (.cells (uQ (List.replicate N false)) 0);obtain⟨s',z1,z3⟩:=ahn (c:=c) (n:=p.gs.length) hq (by omega) ok.le (pq.aN gN) (Za3 _) gN.wf (q.length+1) q.length 0 (q.length+1) _ (List.replicate N false) (by omega) (by omega) gT (aC _ _) (by simp) (λi hi=>by rw[List.getElem?_replicate]at hi;split at hi<;>cases hi);simp only[show((0:Nat):Int)=0 from rfl]at z3;have e1':Vs[0]? =some V1:=e1;have e2':Vs[1]? =some V2:=e2;rw[CO hc (q.length+1) (r:=(.tuple [.int .i64 0,.int .i64 0],s')),ak Wd (gN.trans z1).keeps];rw[GP];simp[show ∀l,AV.cells (.agg l)=l from λl=>rfl,aC,aF,e1',e2',ln,lg,hlq,cn];rw[mk, <-hlq,z3];simp
theorem adC(hc:bB c)(h:PS s0 s Vs p)(ok:R4 p N)(pq:QS 1 s P (q.map cq))(hq:Xx N p.gs.length q):c 57 [.agg Vs,P,.bool false] s=some (.tuple [.int .i64 0,.int .i64 0],s):=by
 have hw:=h.aN.wf;have gN:=Grew.af hw (.cells Vs 0);have h1:=h.qc gN;have hcut:cut Vs 0 5=some Vs:=bJ h1.rT.choose_spec.choose_spec.choose_spec.choose_spec.2.2.2.2;have ck:=PO hc h1 ok.Nz ok.rs;rw[ok.rj]at ck;have kk:=aho hc h1 ok (pq.aN gN) hq;rw[zl hc 1 (r:=(.tuple [.int .i64 0,.int .i64 0],af s (.cells Vs 0))),ak Wd gN.keeps];rw[CN];simp[show ∀l,AV.cells (.agg l)=l from λl=>rfl,aC,aF,hcut,ck,kk]
theorem aaQ(hc:bB c)(h:PS s0 s Vs p)(ok:R4 p N)(pq:QS 1 s P (q.map cq))(hq:Xx N p.gs.length q):c 22 [.agg Vs,P] s=some (.tuple [.int .i64 0,.int .i64 0],s):=by
 have hw:=h.aN.wf;have gN:=Grew.af hw (.cells Vs 0);have h1:=h.qc gN;have hcut:cut Vs 0 5=some Vs:=bJ h1.rT.choose_spec.choose_spec.choose_spec.choose_spec.2.2.2.2;have kk:=adC hc h1 ok (pq.aN gN) hq;rw[DA hc 1 (r:=(.tuple [.int .i64 0,.int .i64 0],af s (.cells Vs 0))),ak Wd gN.keeps];rw[GL];simp[show ∀l,AV.cells (.agg l)=l from λl=>rfl,aC,aF,hcut,kk]
theorem afb(hc:bB c)(h:PS s0 s Vs p)(ok:R4 p N)(pq:QS 1 s P (q.map cq))(hq:Xx N p.gs.length q):c 53 [.agg Vs,P] s=some (.bool true,s):=by
 have hw:=h.aN.wf;have gN:=Grew.af hw (.cells Vs 0);have h1:=h.qc gN;have hcut:cut Vs 0 5=some Vs:=bJ h1.rT.choose_spec.choose_spec.choose_spec.choose_spec.2.2.2.2;have kk:=aaQ hc h1 ok (pq.aN gN) hq;rw[KD hc 1 (r:=(.bool true,af s (.cells Vs 0))),ak (Plain.bool _) gN.keeps];rw[PU];simp[show ∀l,AV.cells (.agg l)=l from λl=>rfl,aC,aF,hcut,kk]
end
set_option linter.unusedSimpArgs false
theorem ahp(q:List Int)(x:Int):decide (GU q x<0)= !q.contains x:=by unfold GU;cases h:q.contains x<;>simp
section
variable{s0 s sB:St}{Vs:List AV}{p:aR}{P:AV}{q:List Int}{N:Nat}
end
set_option linter.unusedSimpArgs false
section
variable{q:List Int}{g h:Nat}
end
end
end Go.Proofs.YtgjikjcfjddloaaGreatDoor
section
end
namespace Go.Proofs.YtgjikjcfjddloaaGreatDoor
section
set_option linter.unusedSimpArgs false
open Go Go.Ai Go.Proofs
variable{c:ah}
theorem PS.cells{s0 s:St}{Vs:List AV}{p:aR}(h:PS s0 s Vs p):Vs.length=5/\bg Vs=true:=by
 obtain⟨G,V1,V2,V3,V4,V5,r1,r2,rfl,F1,F2,F3,F4,F5⟩:=h;have o1:=F1.out.cells.2;have o2:=F2.out.cells.2;have o3:=F3.cells.2;have o4:=F4.cells.2;have o5:=F5.cells.2;simp only[bg,Zk9]at o1 o2 o3 o4 o5;exact⟨rfl,by simp only[bg,o1,o2,o3,o4,o5,Zk0]⟩
theorem QS.beq{es:Nat}{s:St}{v:AV}{rows:List (List AV)}(h:QS es s v rows):iE v v=true:=by
 rcases h with⟨rfl,rfl⟩|⟨b,off,cap,cs,rfl,_⟩|⟨b,off,rfl,rfl⟩
 .rfl
 .cases cap<;>simp[iE,fc,Pos.beq_eq.2 rfl]
 .simp[iE,fc,Pos.beq_eq.2 rfl]
theorem ahq{R:Type}(K1:AV->Option R){p:Pos}{o m:Nat}{h h2:T AB}{l:List AV}(hv:((cellsOf (h.get p)).bind λcs=>cut cs o m)=some l)(Fy:((cellsOf (h2.get p)).bind λcs=>cut cs o m)=some l)(hb:dN (.agg l) (.agg l)=true):
  fP (.load (some m)) [.ptr p o] h (λv=>eA (.load (some m)) [.ptr p o] v (iV [] h2)&&true) K1=K1 (.agg l):=by
 unfold fP;have e:ax.run (λ_=>none) .h (.load (some m)) [.ptr p o]=none:=rfl;rw[e];simp only;rw[tS,hv];simp only[Ze3];have:eA (.load (some m)) [.ptr p o] (.agg l) (iV [] h2)=true:=by unfold eA;show(match ax.run (λb=>h2.get b) .h (.load (some m)) [.ptr p o]with|some (.val u)=>dN u (.agg l)|_=>false)=true;rw[tS,Fy];exact hb
 rw[this];rfl
end
noncomputable section
open Go Go.Ai Go.Proofs
attribute [local go_sem ↓] aT jK ev JZ uD getLT oO AX FX nB nC zb tr tu tA oc od oe oh om oq tB tC ot ou ov ow oA yO yP yQ
attribute [local go_sem] aT jK ev
section
variable(c:ah)(F:Nat)(x0 x1 x2 x3 x4 x5 x6 x7 x8 x9 pY qo:AV)(s:St)
def GV:Sh:=(sq sl (sq (sq sl (sq sl (sc (sq sl sl) sl))) (sq (sq sl (sc (sq sl sl) sl)) (sq sl (sq (sq sl (sb (sp 0 [1,2,9,10] [(1,[4,5,6]),(2,[9])] (sq (sq sl (sc sl sl)) (sj [1,2,9,10] (sb (sq sl (sq sl (sj [2,9,10,12,14] (sq sl (sc sl sl)) (sq (sq sl (sc (sq sl sl) sl)) sl))))) sl))))) (sq sl sl))))))
def P0:PX 37 GV:=⟨_,by conv=>lhs;reduce⟩
def NB:PL 37 GV 0:=⟨_,by conv=>lhs;reduce⟩
def tN(k1 k2:Q2):Nat->Q2
 |0,_,_=>none
 |n+1,vs,s=>eg c F bf (tN k1 k2 n) [k1,k2] NB.1 vs s
def oQ(k1 k2:Q2)(n:Nat)(vs:List AV)(s:St):=(by dsimp only[tN,NB,go_sem,Int.reduceOfNat,Int.reduceNegSucc]:tN c F k1 k2 (n+1) vs s=_)
def GW:Un->List Q2->Nat->Q2
 |.z,[k1,k2]=>tN c F k1 k2
 |_,_=>λ_=>eO
def BE:O2:=aT c F (GW c F) P0.1 [x0,x1] s
def GX:=(by dsimp only[BE,P0, ↓GW,go_sem,Int.reduceOfNat,Int.reduceNegSucc]:BE c F x0 x1 s=_)
def nW:Sh:=(sq sl (sj [0,1] (sq sl (sc sl sl)) (sq sl (sj [0,6] (sq sl (sc sl sl)) (sq sl (sq sl (sq (sb (sp 0 [7,8] [(2,[7])] (sq (sq sl (sc sl sl)) (sb sl)))) (sq sl sl))))))))
def xq:PX 77 nW:=⟨_,by conv=>lhs;reduce⟩
def vP:PL 77 nW 0:=⟨_,by conv=>lhs;reduce⟩
def iC(k2:Q2):Nat->Q2
 |0,_,_=>none
 |n+1,vs,s=>eg c F bf (iC k2 n) [k2] vP.1 vs s
def jv(k2:Q2)(n:Nat)(vs:List AV)(s:St):=(by dsimp only[iC,vP,go_sem,Int.reduceOfNat]:iC c F k2 (n+1) vs s=_)
def nX:Un->List Q2->Nat->Q2
 |.z,[k2]=>iC c F k2
 |_,_=>λ_=>eO
def qN:O2:=aT c F (nX c F) xq.1 [x0,x1] s
def xw:=(by dsimp only[qN,xq, ↓nX,go_sem,Int.reduceOfNat]:qN c F x0 x1 s=_)
def NC:Sh:=(sq sl (sq sl sl))
def ND:PX 78 NC:=⟨_,by conv=>lhs;reduce⟩
def Jr:O2:=aT c F bf ND.1 [x0,x1] s
def NF:=(by dsimp only[Jr,ND,go_sem,Int.reduceOfNat]:Jr c F x0 x1 s=_)
def UP:Sh:=(sq sl (sq sl (sq (sq sl (sc (sq sl sl) sl)) (sq sl (sq (sq sl (sc (sq sl sl) sl)) (sq sl (sq (sq sl (sc (sq sl sl) sl)) (sq sl (sq (sq sl (sc (sq sl sl) sl)) (sq sl (sq (sb (sq sl (sc (sq sl sl) (sq sl (sc (sq sl sl) (sq sl (sc (sq sl sl) sl))))))) (sq sl (sq sl sl)))))))))))))
def UQ:PX 79 UP:=⟨_,by conv=>lhs;reduce⟩
def MG:O2:=aT c F bf UQ.1 [x0,x1,x2] s
def j8:=(by dsimp only[MG,UQ,go_sem,Int.reduceOfNat]:MG c F x0 x1 x2 s=_)
def Ir:Sh:=(sq sl (sq (sc (sq sl (sq sl sl)) sl) (sq sl (sq sl sl))))
def Is:PX 122 Ir:=⟨_,by conv=>lhs;reduce⟩
def D5:O2:=aT c F bf Is.1 [x0,x1] s
def UR:=(by dsimp only[D5,Is,go_sem,Int.reduceOfNat]:D5 c F x0 x1 s=_)
def EK:Sh:=(sq sl (sq (sq sl (sq sl (sc (sq sl sl) sl))) (sq sl sl)))
def EL:PX 123 EK:=⟨_,by conv=>lhs;reduce⟩
def BF:O2:=aT c F bf EL.1 [x0,x1] s
def EM:=(by dsimp only[BF,EL,go_sem,Int.reduceOfNat]:BF c F x0 x1 s=_)
def It:Sh:=(sq sl (sq sl sl))
def Iu:PX 124 It:=⟨_,by conv=>lhs;reduce⟩
def D6:O2:=aT c F bf Iu.1 [x0,x1] s
def US:=(by dsimp only[D6,Iu,go_sem,Int.reduceOfNat,Int.reduceNegSucc]:D6 c F x0 x1 s=_)
def D7:Sh:=(sq sl (sq (sq sl (sc (sq sl sl) sl)) (sq sl (sq (sq sl (sb (sp 0 [0,4,5] [(1,[2,3]),(2,[4])] (sq (sq sl (sc sl sl)) (sq (sb (sq (sq sl (sc (sq sl sl) sl)) sl)) sl))))) (sq sl sl)))))
def NG:PX 125 D7:=⟨_,by conv=>lhs;reduce⟩
def KE:PL 125 D7 0:=⟨_,by conv=>lhs;reduce⟩
def mO(k1 k2:Q2):Nat->Q2
 |0,_,_=>none
 |n+1,vs,s=>eg c F bf (mO k1 k2 n) [k1,k2] KE.1 vs s
def sN(k1 k2:Q2)(n:Nat)(vs:List AV)(s:St):=(by dsimp only[mO,KE,go_sem,Int.reduceOfNat]:mO c F k1 k2 (n+1) vs s=_)
def D8:Un->List Q2->Nat->Q2
 |.z,[k1,k2]=>mO c F k1 k2
 |_,_=>λ_=>eO
def Js:O2:=aT c F (D8 c F) NG.1 [x0] s
def Yi:=(by dsimp only[Js,NG, ↓D8,go_sem,Int.reduceOfNat]:Js c F x0 s=_)
def P3:Sh:=(sq sl (sq sl sl))
def P4:PX 127 P3:=⟨_,by conv=>lhs;reduce⟩
def MH:O2:=aT c F bf P4.1 [x0,x1] s
def aaR:=(by dsimp only[MH,P4,go_sem,Int.reduceOfNat]:MH c F x0 x1 s=_)
def EN:Sh:=(sq sl (sq sl (sq sl (sq sl (sq sl (sq sl (sq sl (sq sl (sq sl (sq sl (sq sl (sq sl sl))))))))))))
def EO:PX 174 EN:=⟨_,by conv=>lhs;reduce⟩
def BG:O2:=aT c F bf EO.1 [x0,x1] s
def Q6:=(by dsimp only[BG,EO,go_sem,Int.reduceOfNat]:BG c F x0 x1 s=_)
def ur:Sh:=(sq sl (sq sl (sq (sb (sq sl (sc (sq sl sl) (sq sl (sc (sq sl sl) (sq sl (sc (sq sl sl) (sq sl (sc (sq sl sl) sl))))))))) (sq sl (sq sl (sq sl (sq sl (sq sl (sq (sb (sp 0 [0,1,5,6,7,8,9,10] [(1,[4]),(3,[])] (sq (sq sl (sc sl sl)) (sb (sj [0,1,5,6,7,8,9,10] (sq sl (sc (sq sl (sq (sq sl (sc (sq sl sl) sl)) sl)) sl)) (sq (sq sl (sc (sq sl sl) sl)) (sq sl (sq sl (sq sl (sc (sq sl (sq (sq sl (sc (sq sl sl) sl)) (sq sl sl))) (sq sl (sc (sq sl (sq (sq sl (sc (sq sl sl) sl)) (sq sl sl))) sl)))))))))))) (sq sl sl))))))))))
def Ci:PX 175 ur:=⟨_,by conv=>lhs;reduce⟩
def MI:PL 175 ur 0:=⟨_,by conv=>lhs;reduce⟩
def BH(k1 k3:Q2):Nat->Q2
 |0,_,_=>none
 |n+1,vs,s=>eg c F bf (BH k1 k3 n) [k1,k3] MI.1 vs s
def uu:Un->List Q2->Nat->Q2
 |.z,[k1,k3]=>BH c F k1 k3
 |_,_=>λ_=>eO
def xN:O2:=aT c F (uu c F) Ci.1 [x0,x1] s
def NZ:=(by dsimp only[xN,Ci, ↓uu,go_sem,Int.reduceOfNat,Int.reduceNegSucc]:xN c F x0 x1 s=_)
def vQ:Sh:=(sq sl (sq (sq sl (sc (sq sl sl) sl)) (sq (sq sl (sc (sq sl sl) sl)) (sj [0,1,2,3] (sq sl (sc sl sl)) (sq sl (sq sl (sq sl (sq sl (sq (sb (sp 0 [0,1,2,3,9,10] [(2,[0,9,10])] (sq (sq sl (sc sl sl)) (sb (sq sl (sq (sq sl (sc sl sl)) (sq sl (sq sl sl)))))))) (sq sl (sq sl sl)))))))))))
def DC:PX 176 vQ:=⟨_,by conv=>lhs;reduce⟩
def Cj:PL 176 vQ 0:=⟨_,by conv=>lhs;reduce⟩
def kO(k2:Q2):Nat->Q2
 |0,_,_=>none
 |n+1,vs,s=>eg c F bf (kO k2 n) [k2] Cj.1 vs s
def Ac(k2:Q2)(n:Nat)(vs:List AV)(s:St):=(by dsimp only[kO,Cj,go_sem,Int.reduceOfNat]:kO c F k2 (n+1) vs s=_)
def vR:Un->List Q2->Nat->Q2
 |.z,[k2]=>kO c F k2
 |_,_=>λ_=>eO
def zm:O2:=aT c F (vR c F) DC.1 [x0,x1,x2,x3] s
def P5:=(by dsimp only[zm,DC, ↓vR,go_sem,Int.reduceOfNat]:zm c F x0 x1 x2 x3 s=_)
def xx:Sh:=(sq sl (sq sl sl))
def xz:PX 243 xx:=⟨_,by conv=>lhs;reduce⟩
def qO:O2:=aT c F bf xz.1 [x0,x1] s
def Hu:=(by dsimp only[qO,xz,go_sem,Int.reduceOfNat]:qO c F x0 x1 s=_)
def BI:Sh:=(sq sl (sq (sq sl (sc (sq sl sl) sl)) (sq (sq sl (sc (sq sl sl) sl)) (sq sl (sb (sp 0 [0,1,5] [(1,[4])] (sb (sq sl (sq (sq sl (sc (sq sl sl) sl)) (sq sl sl))))))))))
def Iv:PX 248 BI:=⟨_,by conv=>lhs;reduce⟩
def S0:PL 248 BI 0:=⟨_,by conv=>lhs;reduce⟩
def GY(k1:Q2):Nat->Q2
 |0,_,_=>none
 |n+1,vs,s=>eg c F bf (GY k1 n) [k1] S0.1 vs s
def BJ:Un->List Q2->Nat->Q2
 |.z,[k1]=>GY c F k1
 |_,_=>λ_=>eO
def D9:O2:=aT c F (BJ c F) Iv.1 [x0,x1] s
def UT:=(by dsimp only[D9,Iv, ↓BJ,go_sem,Int.reduceOfNat,Int.reduceNegSucc]:D9 c F x0 x1 s=_)
def Iw:Sh:=(sq sl (sq sl sl))
def Ix:PX 249 Iw:=⟨_,by conv=>lhs;reduce⟩
def Ea:O2:=aT c F bf Ix.1 [x0,x1] s
def UU:=(by dsimp only[Ea,Ix,go_sem,Int.reduceOfNat]:Ea c F x0 x1 s=_)
end
section
variable{c:ah}(hc:bB c)(F:Nat){x0 x1 x2 x3 x4 x5 x6 x7 x8 x9 pY qo:AV}{s:St}{r:AV×St}
include hc
theorem KF(h:BE c F x0 x1 s=some r):c 37 [x0,x1] s=some (tidy s r):=hc.o1 F (GW c F) GV (by kernel_rfl) (by kernel_rfl) (λ_ _ _=>by kernel_rfl) (λ_ _ _ _=>by kernel_rfl) (by kernel_rfl) h
theorem uR(h:qN c F x0 x1 s=some r):c 77 [x0,x1] s=some (tidy s r):=hc.o1 F (nX c F) nW (by kernel_rfl) (by kernel_rfl) (λ_ _ _=>by kernel_rfl) (λ_ _ _ _=>by kernel_rfl) (by kernel_rfl) h
theorem Iy(h:Jr c F x0 x1 s=some r):c 78 [x0,x1] s=some (tidy s r):=hc.o0 F NC (by kernel_rfl) (by kernel_rfl) h
theorem P6(h:MG c F x0 x1 x2 s=some r):c 79 [x0,x1,x2] s=some (tidy s r):=hc.o0 F UP (by kernel_rfl) (by kernel_rfl) h
theorem Q7(h:D5 c F x0 x1 s=some r):c 122 [x0,x1] s=some (tidy s r):=hc.o0 F Ir (by kernel_rfl) (by kernel_rfl) h
theorem Ck(h:BF c F x0 x1 s=some r):c 123 [x0,x1] s=some (tidy s r):=hc.o0 F EK (by kernel_rfl) (by kernel_rfl) h
theorem Q8(h:D6 c F x0 x1 s=some r):c 124 [x0,x1] s=some (tidy s r):=hc.o0 F It (by kernel_rfl) (by kernel_rfl) h
theorem UW(h:Js c F x0 s=some r):c 125 [x0] s=some (tidy s r):=hc.o1 F (D8 c F) D7 (by kernel_rfl) (by kernel_rfl) (λ_ _ _=>by kernel_rfl) (λ_ _ _ _=>by kernel_rfl) (by kernel_rfl) h
theorem qX(h:fq c F x0 x1 s=some r):c 126 [x0,x1] s=some (tidy s r):=hc.o1 F (eS c F) eR (by kernel_rfl) (by kernel_rfl) (λ_ _ _=>by kernel_rfl) (λ_ _ _ _=>by kernel_rfl) (by kernel_rfl) h
theorem We(h:MH c F x0 x1 s=some r):c 127 [x0,x1] s=some (tidy s r):=hc.o0 F P3 (by kernel_rfl) (by kernel_rfl) h
theorem N3(h:BG c F x0 x1 s=some r):c 174 [x0,x1] s=some (tidy s r):=hc.o0 F EN (by kernel_rfl) (by kernel_rfl) h
theorem KG(h:xN c F x0 x1 s=some r):c 175 [x0,x1] s=some (tidy s r):=hc.o1 F (uu c F) ur (by kernel_rfl) (by kernel_rfl) (λ_ _ _=>by kernel_rfl) (λ_ _ _ _=>by kernel_rfl) (by kernel_rfl) h
theorem MJ(h:zm c F x0 x1 x2 x3 s=some r):c 176 [x0,x1,x2,x3] s=some (tidy s r):=hc.o1 F (vR c F) vQ (by kernel_rfl) (by kernel_rfl) (λ_ _ _=>by kernel_rfl) (λ_ _ _ _=>by kernel_rfl) (by kernel_rfl) h
theorem Fe(h:qO c F x0 x1 s=some r):c 243 [x0,x1] s=some (tidy s r):=hc.o0 F xx (by kernel_rfl) (by kernel_rfl) h
theorem Q9(h:D9 c F x0 x1 s=some r):c 248 [x0,x1] s=some (tidy s r):=hc.o1 F (BJ c F) BI (by kernel_rfl) (by kernel_rfl) (λ_ _ _=>by kernel_rfl) (λ_ _ _ _=>by kernel_rfl) (by kernel_rfl) h
theorem Ra(h:Ea c F x0 x1 s=some r):c 249 [x0,x1] s=some (tidy s r):=hc.o0 F Iw (by kernel_rfl) (by kernel_rfl) h
end
end
section
open Go Go.Ai Go.Proofs
variable{c:ah}
theorem ahr(hc:bB c){n:Int}(h0:0<=n)(h1:n<4294967296)(s:St):c 174 [.int .u64 1,.int .u64 n] s=some (.tuple [.int .u64 0,.int .u64 n],s):=by
 rw[N3 hc 1 (r:=(.tuple [.int .u64 0,.int .u64 n],s)),ak (Plain.tuple (by simp[Plain.int])) (aM.refl s)];rw[Q6];have w0:au .u64 0=0:=QI (by omega) (by omega);have w1:au .u64 n=n:=QI (by omega) (by omega);simp[SB h0 h1,SE h0 h1,SB (n:=1) (by omega) (by omega),SE (a:=1) (by omega) (by omega),SB (n:=0) (by omega) (by omega),SE (a:=0) (by omega) (by omega),w0,w1]
theorem aj0(hc:bB c){n:Int}(h0:0<=n)(h1:n<4294967296)(s:St):c 122 [.int .u64 1,.int .u64 n] s=some (.tuple [.int .u64 0,.int .u64 n],s):=by
 rw[Q7 hc 1 (r:=(.tuple [.int .u64 0,.int .u64 n],s)),ak (Plain.tuple (by simp[Plain.int])) (aM.refl s)];rw[UR];simp[ahr hc h0 h1]
theorem afc(N:Nat)(hN:N<=1000000)(b:Pos)(v:AV)(hv:v.one=true)(F:Nat):∀(m n f:Nat)(s:St),1<=n->n<=N->N - n<=m->m<f->s.heap.get b=some (.cells (List.replicate n v++List.replicate (N - n) (.int .i64 0)) 0)->
  ∀k2:Q2,iC c F k2 f [.slice b 0 N (some N) 1,.int .i64 (n:Int)] s=k2 [.slice b 0 N (some N) 1] (cR s b (.cells (List.replicate N v) 0)):=by
 intro m;induction m with
 |zero=>
  intro n f s h1 h2 h3 h4 h5 k2;obtain⟨f,rfl⟩:∃g,f=g+1:=⟨f - 1,by omega⟩
  obtain rfl:n=N:=by omega
  rw[jv];have e:cR s b (.cells (List.replicate n v) 0)=cR s b (.cells (List.replicate n v++List.replicate (n - n) (.int .i64 0)) 0):=by simp
  rw[e];have e2:cR s b (.cells (List.replicate n v++List.replicate (n - n) (.int .i64 0)) 0)=s:=aeP h5;rw[e2];simp[rO]
 |succ m ih=>
  intro n f s h1 h2 h3 h4 h5 k2;obtain⟨f,rfl⟩:∃g,f=g+1:=⟨f - 1,by omega⟩
  by_cases hn:n=N
  .subst hn;rw[jv];have e:cR s b (.cells (List.replicate n v) 0)=cR s b (.cells (List.replicate n v++List.replicate (n - n) (.int .i64 0)) 0):=(by simp);rw[e];have e2:cR s b (.cells (List.replicate n v++List.replicate (n - n) (.int .i64 0)) 0)=s:=aeP h5;rw[e2];simp[rO]
  . have bw:decide ((n:Int)<(N:Int))=true:=H2 (by omega);have cp:=λ(K:AV->St->Option (AV×St))=>ZM (c:=c) (b:=b) (n:=n) (m:=N - n) (cp:=some (N - n)) (FY:=some N) (by omega) (by omega) hv h5 K
    have w:au .i64 ((n:Int)+((min n (N - n):Nat):Int))=((n+min n (N - n):Nat):Int):=(by rw[wrap64 (by omega) (by omega)];omega);have Wt:=ih (n+min n (N - n)) f (cR s b (.cells (List.replicate (n+min n (N - n)) v++List.replicate (N - n - min n (N - n)) (.int .i64 0)) 0)) (by omega) (by omega) (by omega) (by omega) (by rw[je,show N - (n+min n (N - n))=N - n - min n (N - n)by omega]) k2;rw[abZ]at Wt;rw[<-Wt,jv];simp only[aE,aH,aj,rO,aU,bw,bk,gJ,aeN h2,aeO h2,cp,abX,w]
theorem afd(hc:bB c){N:Nat}(hN:N<=1000000){p:Pos}{v:AV}(hv:v.one=true)(s:St)(hw:Wf s)(hp:s.heap.get p=some (.cells [v] 0)):
   ∃s' gb,c 77 [.slice p 0 1 (some 1) 1,.int .i64 (N:Int)] s=some (.slice gb 0 N (some N) 1,s')/\Grew s s'/\s.next.toNat<=gb.toNat/\(N=0\/s'.heap.get gb=some (.cells (List.replicate N v) 0)):=by
 have g1:=Grew.af hw (.cells (List.replicate N (.int .i64 0)) 0);have w1:au .u64 (N:Int)=(N:Int):=QI (by omega) (by omega);have w2:au .i64 (N:Int)=(N:Int):=wrap64 (by omega) (by omega);have w3:au .u64 1=1:=QI (by omega) (by omega);have d1:decide ((N:Int)<0)=false:=H3 (by omega);have d2:decide ((9223372036854775807:Int)<(N:Int))=false:=H3 (by omega);have mk:=λ(K:AV->St->Option (AV×St))=>QF c K s (es:=1) (bytes:=8) (z:=[.int .i64 0]) (k:= .i64) (k':= .i64) (n:=N) (by omega) (by omega)
 rw[AS]at mk;have eG:=g1.get hp;have mu:=aj0 hc (n:=(N:Int)) (by omega) (by omega) s;by_cases h0:N=0
 . subst h0;have run:=uR hc (x0:= .slice p 0 1 (some 1) 1) (x1:= .int .i64 ((0:Nat):Int)) (s:=s) (F:=1) (r:=(.slice s.next 0 0 (some 0) 1,af s (.cells [] 0))) (by
    rw[xw];simp only[aj,aU,d1,ki,bG,aE,aH,rO,y8,w1,show((1:Nat):Int)=1 from rfl,w3,aK,mu,aJ,bE,Za5,Za6,bP,gF,show decide ((0:Int)<0)=false from rfl,bN,d2,aZ,w2,mk,List.replicate_zero,XW];rw[jv];simp[rO])
   rw[run];obtain⟨s',h1,h2⟩:=aeB (v:= .slice s.next 0 0 (some 0) 1) (Grew.af hw (.cells [] 0)) hw;exact⟨s',s.next,by rw[h1],h2,Za3 _,.inl rfl⟩
 . have cp:=λ(K:AV->St->Option (AV×St))=>ZR (c:=c) (b:=s.next) (b2:=p) (v:=v) (z:= .int .i64 0) (m:=N) (cp:=some N) (FY:=some 1) (by omega) hv (aC s _) eG K
   have lp:=afc (c:=c) N hN s.next v hv (N+1) N 1 (N+1) (cR (af s (.cells (List.replicate N (.int .i64 0)) 0)) s.next (.cells (List.replicate 1 v++List.replicate (N - 1) (.int .i64 0)) 0)) (by omega) (by omega) (by omega) (by omega) (je _ _ _);simp only[abZ,JW]at lp cp;simp only[show((1:Nat):Int)=1 from rfl]at lp;have run:=uR hc (x0:= .slice p 0 1 (some 1) 1) (x1:= .int .i64 (N:Int)) (s:=s) (F:=N+1) (r:=(.slice s.next 0 N (some N) 1,af s (.cells (List.replicate N v) 0))) (by
    rw[xw];simp only[aj,aU,d1,ki,bG,aE,aH,rO,y8,w1,show((1:Nat):Int)=1 from rfl,w3,aK,mu,aJ,bE,Za5,Za6,bP,gF,show decide ((0:Int)<0)=false from rfl,bN,d2,aZ,w2,mk,cp,lp])
   (rw[run];have np:¬(Plain (AV.slice s.next 0 N (some N) 1)):=λh=>zd h0 h);refine⟨af s (.cells (List.replicate N v) 0),s.next,?_,Grew.af hw _,Za3 _,.inr (aC _ _)⟩;unfold tidy;rw[Za2 (λh=>np h.1)]
end
noncomputable section
open Go Go.Ai Go.Proofs
attribute [local go_sem ↓] aT jK ev JZ uD getLT oO AX FX nB nC zb tr tu tA oc od oe oh om oq tB tC ot ou ov ow oA yO yP yQ
attribute [local go_sem] aT jK ev
section
variable(c:ah)(F:Nat)(x0 x1 x2 x3 x4 x5 x6 x7 x8 x9 pY qo:AV)(s:St)
def Eb:Sh:=(sq sl (sq (sq sl (sc (sq sl sl) sl)) (sq sl (sq (sq sl (sb (sp 0 [2,5,15,16,17] [(2,[5])] (sq sl (sq (sc sl sl) (sj [2,5,15,16,17] (sb (sq sl (sq sl (sq sl (sc sl sl))))) sl)))))) (sq sl sl)))))
def NH:PX 31 Eb:=⟨_,by conv=>lhs;reduce⟩
def KH:PL 31 Eb 0:=⟨_,by conv=>lhs;reduce⟩
def qP(k2:Q2):Nat->Q2
 |0,_,_=>none
 |n+1,vs,s=>eg c F bf (qP k2 n) [k2] KH.1 vs s
def zn(k2:Q2)(n:Nat)(vs:List AV)(s:St):=(by dsimp only[qP,KH,go_sem,Int.reduceOfNat]:qP c F k2 (n+1) vs s=_)
def Ec:Un->List Q2->Nat->Q2
 |.z,[k2]=>qP c F k2
 |_,_=>λ_=>eO
def Jt:O2:=aT c F (Ec c F) NH.1 [x0,x1] s
def NI:=(by dsimp only[Jt,NH, ↓Ec,go_sem,Int.reduceOfNat]:Jt c F x0 x1 s=_)
def pZ:Sh:=(sq sl (sq sl (sq sl (sq sl sl))))
def p6:PX 66 pZ:=⟨_,by conv=>lhs;reduce⟩
def lJ:O2:=aT c F bf p6.1 [x0,x1] s
def B4:=(by dsimp only[lJ,p6,go_sem,Int.reduceOfNat]:lJ c F x0 x1 s=_)
def KI:Sh:=(sq sl (sq sl sl))
def KJ:PX 67 KI:=⟨_,by conv=>lhs;reduce⟩
def GZ:O2:=aT c F bf KJ.1 [x0] s
def Wg:=(by dsimp only[GZ,KJ,go_sem,Int.reduceOfNat]:GZ c F x0 s=_)
def vS:Sh:=(sq sl (sq sl sl))
def vT:PX 68 vS:=⟨_,by conv=>lhs;reduce⟩
def pT:O2:=aT c F bf vT.1 [x0] s
def vU:=(by dsimp only[pT,vT,go_sem,Int.reduceOfNat]:pT c F x0 s=_)
def rm:Sh:=(sq sl (sc sl (sq sl (sc sl sl))))
def rq:PX 97 rm:=⟨_,by conv=>lhs;reduce⟩
def mq:O2:=aT c F bf rq.1 [x0] s
def ry:=(by dsimp only[mq,rq,go_sem,Int.reduceOfNat]:mq c F x0 s=_)
end
section
variable{c:ah}(hc:bB c)(F:Nat){x0 x1 x2 x3 x4 x5 x6 x7 x8 x9 pY qo:AV}{s:St}{r:AV×St}
include hc
theorem Iz(h:Jt c F x0 x1 s=some r):c 31 [x0,x1] s=some (tidy s r):=hc.o1 F (Ec c F) Eb (by kernel_rfl) (by kernel_rfl) (λ_ _ _=>by kernel_rfl) (λ_ _ _ _=>by kernel_rfl) (by kernel_rfl) h
theorem Ap(h:lJ c F x0 x1 s=some r):c 66 [x0,x1] s=some (tidy s r):=hc.o0 F pZ (by kernel_rfl) (by kernel_rfl) h
theorem S6(h:GZ c F x0 s=some r):c 67 [x0] s=some (tidy s r):=hc.o0 F KI (by kernel_rfl) (by kernel_rfl) h
theorem tO(h:pT c F x0 s=some r):c 68 [x0] s=some (tidy s r):=hc.o0 F vS (by kernel_rfl) (by kernel_rfl) h
theorem p7(h:mq c F x0 s=some r):c 97 [x0] s=some (tidy s r):=hc.o0 F rm (by kernel_rfl) (by kernel_rfl) h
end
attribute [local go_sem ↓] aT jK ev JZ uD getLT oO AX FX nB nC zb tr tu tA oc od oe oh om oq tB tC ot ou ov ow oA yO yP yQ
attribute [local go_sem] aT jK ev
section
variable(c:ah)(F:Nat)(x0 x1 x2 x3 x4 x5 x6 x7 x8 x9 pY qo:AV)(s:St)
def IA:Sh:=(sq sl (sq sl sl))
def IB:PX 98 IA:=⟨_,by conv=>lhs;reduce⟩
def Ed:O2:=aT c F bf IB.1 [x0] s
def UX:=(by dsimp only[Ed,IB,go_sem,Int.reduceOfNat]:Ed c F x0 s=_)
def BK:Sh:=(sq sl (sq (sq sl (sc (sq (sq sl (sc (sq sl sl) sl)) (sq sl (sq sl (sj [0,5,6] (sq sl (sc sl sl)) (sq sl (sq sl (sq (sq sl (sc (sq sl (sq sl sl)) sl)) (sq sl sl)))))))) sl)) (sq sl (sq sl sl))))
def BL:PX 165 BK:=⟨_,by conv=>lhs;reduce⟩
def vW:O2:=aT c F bf BL.1 [x0,x1] s
def MK:=(by dsimp only[vW,BL,go_sem,Int.reduceOfNat]:vW c F x0 x1 s=_)
def G3:Sh:=(sq sl (sq (sq sl (sc (sq sl sl) sl)) (sq sl sl)))
def G4:PX 227 G3:=⟨_,by conv=>lhs;reduce⟩
def CP:O2:=aT c F bf G4.1 [x0] s
def S7:=(by dsimp only[CP,G4,go_sem,Int.reduceOfNat]:CP c F x0 s=_)
end
section
variable{c:ah}(hc:bB c)(F:Nat){x0 x1 x2 x3 x4 x5 x6 x7 x8 x9 pY qo:AV}{s:St}{r:AV×St}
include hc
theorem Rb(h:Ed c F x0 s=some r):c 98 [x0] s=some (tidy s r):=hc.o0 F IA (by kernel_rfl) (by kernel_rfl) h
theorem Ju(h:vW c F x0 x1 s=some r):c 165 [x0,x1] s=some (tidy s r):=hc.o0 F BK (by kernel_rfl) (by kernel_rfl) h
theorem P7(h:CP c F x0 s=some r):c 227 [x0] s=some (tidy s r):=hc.o0 F G3 (by kernel_rfl) (by kernel_rfl) h
end
end
section
set_option linter.unusedSimpArgs false
open Go Go.Ai Go.Proofs
variable{c:ah}
structure Ext(c:ah):Prop where
 esc:∀(v:AV)(st:St),c 164 [v] st=some (v,st)
 En:∀(args:List AV)(st:St)(r:AV×St),iU 65 args st=some r->c 65 args st=some r
 EJ:∀(args:List AV)(st:St)(r:AV×St),iU 128 args st=some r->c 128 args st=some r
theorem aj1(hc:bB c):Ext c:=⟨ai7 hc,ai8 hc,acj hc⟩
def BAt(N0:Nat)(s:St)(X:Pos)(bs:List Nat):Prop:=
 X.toNat<N0/\N0<=s.next.toNat/\(∀x∈bs,x<256)/\∃p v,s.heap.get X=some (.typed 115 [p,v])/\(p= .fH\/p= .ptr X 0)/\
    ((v= .av/\bs=[])\/∃Y,v= .slice Y 0 bs.length none 1/\s.heap.get Y=some (.typed 5 (zJ bs))/\N0<=Y.toNat/\bs≠[])
theorem Xy{st st':St}{X:Pos}{x y:AB}(h:st.heap.get X=some x)(h':st'.heap.get X=some y)(cU:x≠y):¬aM st st':=λk=>by have:=k X x h;rw[h']at this;exact cU (Zf4 this).symm
theorem ML{st st':St}{v:AV}(h:¬aM st st'):tidy st (v,st')=(v,st'):=by unfold tidy;rw[Za2];exact λe=>h e.2
theorem Plain.tup0:Plain (.tuple []):=Plain.tuple (λv h=>by cases h)
theorem aaS(hc:bB c)(hx:Ext c){s:St}{X:Pos}{p v:AV}(h:s.heap.get X=some (.typed 115 [p,v]))(hp:p= .fH\/p= .ptr X 0):
   ∃s',c 97 [.ptr X 0] s=some (.tuple [],s')/\s'.heap.get X=some (.typed 115 [.ptr X 0,v])/\(∀b,b≠X->s'.heap.get b=s.heap.get b)/\s'.next=s.next:=by
 rcases hp with rfl|rfl
 . (refine⟨cR s X (.typed 115 [.ptr X 0,v]),?_,je _ _ _,λb hb=>cu (λe=>hb e.symm),rfl⟩;rw[p7 hc 1 (r:=(.tuple [],cR s X (.typed 115 [.ptr X 0,v]))),ML (Xy h (je _ _ _) (by simp))];rw[ry];have e1:∀(K:AV->St->Option (AV×St))(t:St),ai c (.bin .eql .ptr) [.fH,.fH] t K=K (.bool true) t:=λK t=>rfl);have e2:∀(K:AV->St->Option (AV×St)),ai c .toU [.ptr X 0] s K=K (.ptr X 0) s:=λK=>aiJ h (by simp) K
   have e3:∀(K:AV->St->Option (AV×St)),ai c (.fromU 115 2) [.ptr X 0] s K=K (.ptr X 0) s:=λK=>aeI h (by simp) K
   have e4:∀(K:AV->St->Option (AV×St)),ai c (.store 1) [.ptr X 0,.ptr X 0] s K=K .undef (cR s X (.typed 115 [.ptr X 0,v])):=λK=>Uf (m:=1) h rfl (by simp) rfl K
   have e5:=hx.esc (.ptr X 0) s;simp[h,e1,e2,e3,e4,e5]
 . (refine⟨s,?_,h,λ_ _=>rfl,rfl⟩;rw[p7 hc 1 (r:=(.tuple [],s)),ak Plain.tup0 (aM.refl s)];rw[ry];have e1:∀(K:AV->St->Option (AV×St))(t:St),ai c (.bin .eql .ptr) [.ptr X 0,.fH] t K=K (.bool false) t:=λK t=>rfl);have e2:∀(K:AV->St->Option (AV×St))(t:St),ai c (.bin .neq .ptr) [.ptr X 0,.ptr X 0] t K=K (.bool false) t:=λK t=>aP c K (λH n=>by simp[ax.run,fI,jT,IE,Pos.beq_eq.2 rfl]) t
   simp[h,e1,e2]
theorem Wh(hc:bB c)(hx:Ext c){N0:Nat}{s:St}{X:Pos}{bs u:List Nat}(hw:Wf s)(h:BAt N0 s X bs)(hu:u≠[])(hu2:∀x∈u,x<256)(hl:bs.length+u.length<=140000000000000):
   ∃s',c 66 [.ptr X 0,.str u] s=some (.tuple [.int .i64 (u.length:Int),.uT],s')/\BAt N0 s' X (bs++u)/\Wf s'/\(∀b,b≠X->b.toNat<N0->s'.heap.get b=s.heap.get b):=by
 obtain⟨h1,h2,h3,p,v,hX,hp,hv⟩:=h;obtain⟨s1,c1,c2,c3,c4⟩:=aaS hc hx hX hp;have cw:Wf s1:=λb x hb=>by
   rw[c4];by_cases e:b=X
   .subst e;exact hw _ _ hX
   .rw[c3 b e]at hb;exact hw _ _ hb
 have WD:u.length≠0:=λe=>hu (Zb0 e)
 have JU:∀x∈bs++u,x<256:=λx hx=>(Zd5.1 hx).elim (h3 x) (hu2 x)
 have key:∃s2,(∀(K:AV->St->Option (AV×St)),ai c (.appendT 5 1) [v,.str u] s1 K=K (.slice s1.next 0 (bs.length+u.length) none 1) s2)/\s2.heap.get X=some (.typed 115 [.ptr X 0,v])/\
     s2.heap.get s1.next=some (.typed 5 (zJ (bs++u)))/\Wf s2/\s2.next=s1.next.succ/\∀b,b.toNat<N0->s2.heap.get b=s1.heap.get b:=by
   have hXs:X.toNat<s1.next.toNat:=(by rw[c4];omega);rcases hv with⟨rfl,rfl⟩|⟨Y,rfl,hY,hN,hb⟩
   .refine⟨af s1 (.typed 5 (zJ u)),λK=>by simpa using aeJ (c:=c) (st:=s1) (e:=5) (bytes:=1) (u:=u) (by omega) (by omega) WD K,by rw[mI hXs];exact c2,aC _ _,bM cw,rfl,λb hb=>mI (by rw[c4];omega)⟩
   . have hYX:Y≠X:=λe=>by subst e;omega
     have hY1:s1.heap.get Y=some (.typed 5 (zJ bs)):=(by rw[c3 Y hYX];exact hY);have nG:∀b,b≠Y->b≠s1.next->(s1.aI (some Y) none (some (.typed 5 (zJ (bs++u))))).heap.get b=s1.heap.get b:=λb nD l6=>by
        show(T.put _ s1.next (T.put none Y s1.heap)).get b=_;rw[T.bH _ (λe=>l6 e.symm),T.bH _ (λe=>nD e.symm)]
     refine⟨s1.aI (some Y) none (some (.typed 5 (zJ (bs++u)))),λK=>agD hY1 (by omega) (by omega) WD K,by rw[nG X (λe=>hYX e.symm) (λe=>by rw[e]at hXs;omega)];exact c2,T.eB _ _ _,λb x hb=> ?_,rfl,λb hb=>nG b (λe=>by subst e;omega) (λe=>by subst e;rw[c4]at hb;omega)⟩;show b.toNat<s1.next.succ.toNat;rw[Pos.aB];by_cases e1:b=s1.next
     .  subst e1;omega
     .  by_cases e2:b=Y
        .subst e2;have:=cw _ _ hY1;omega
        .rw[nG b e2 e1]at hb;have:=cw _ _ hb;omega
 obtain⟨s2,k1,k2,k3,k4,k5,k6⟩:=key;have cU:bs++u≠[]:=by simp[hu]
 have hXn:X≠s1.next:=λe=>by rw[c4]at e;subst e;omega
 have hfin:(cR s2 X (.typed 115 [.ptr X 0,.slice s1.next 0 (bs.length+u.length) none 1])).heap.get X=some (.typed 115 [.ptr X 0,.slice s1.next 0 (bs.length+u.length) none 1]):=je _ _ _;refine⟨cR s2 X (.typed 115 [.ptr X 0,.slice s1.next 0 (bs.length+u.length) none 1]),?_,⟨h1,by rw[y9,k5,Pos.aB,c4];omega,JU,.ptr X 0,.slice s1.next 0 (bs.length+u.length) none 1,hfin,.inr rfl,.inr ⟨s1.next,by rw[Zb1],by rw[cu hXn];exact k3,by rw[c4];omega,cU⟩⟩,λb x hb=> ?_,λb nD l6=> ?_⟩
 . rw[Ap hc 1 (r:=(.tuple [.int .i64 (u.length:Int),.uT],cR s2 X (.typed 115 [.ptr X 0,.slice s1.next 0 (bs.length+u.length) none 1]))),ML (Xy hX hfin (by
     rcases hv with⟨rfl,rfl⟩|⟨Y,rfl,hY,hN,hb⟩
     .  simp
     .  simp;intros;omega))]
   (rw[B4];have e4:∀(K:AV->St->Option (AV×St)),ai c (.store 1) [.ptr X 1,.slice s1.next 0 (bs.length+u.length) none 1] s2 K=K .undef (cR s2 X (.typed 115 [.ptr X 0,.slice s1.next 0 (bs.length+u.length) none 1])):=λK=>Uf (m:=1) k2 rfl (by simp) rfl K);simp[c1,c2,k1,e4]
 . rw[y9];by_cases e:b=X
   .subst e;rw[k5,Pos.aB,c4];omega
   .rw[cu (λe'=>e e'.symm)]at hb;exact k4 _ _ hb
 .rw[cu (λe=>nD e.symm),k6 b l6,c3 b nD]
theorem adD(hc:bB c)(hx:Ext c){N0:Nat}{s:St}{X:Pos}{bs:List Nat}(h:BAt N0 s X bs)(hl:bs.length<=140000000000000):
   ∃s',c 68 [.ptr X 0] s=some (.str bs,s')/\∀b,b.toNat<N0->s'.heap.get b=s.heap.get b:=by
 obtain⟨h1,h2,h3,p,v,hX,hp,hv⟩:=h;rcases hv with⟨rfl,rfl⟩|⟨Y,rfl,hY,hN,hb⟩
 . (refine⟨s,?_,λ_ _=>rfl⟩;rw[tO hc 1 (r:=(.str [],s)),ak (Plain.str _) (aM.refl s)];rw[vU];have e0:∀(K:AV->Option (AV×St)),dI (.lenB .l) [.av] K=K (.int .i64 0):=λK=>rfl);simp[hX,e0,Vr,Vt]
 . have WI:bs.length≠0:=λe=>hb (Zb0 e)
   refine⟨s.aI (some Y) none none,?_,λb hb=>T.bH _ (λe=>by subst e;omega) _⟩;have akP:(s.aI (some Y) none none).heap.get Y=none:=T.eB _ _ _;rw[tO hc 1 (r:=(.str bs,s.aI (some Y) none none)),ML (λk=>by have:=k Y _ hY;rw[akP]at this;cases this)];(rw[vU];have e1:∀(K:AV->Option (AV×St)),dI .sliceData [.slice Y 0 bs.length none 1] K=K (.ptr Y 0):=λK=>XU WI K);have e2:∀(K:AV->St->Option (AV×St)),ai c (.unsafeStr 5) [.ptr Y 0,.int .i64 (bs.length:Int)] s K=K (.str bs) (s.aI (some Y) none none):=λK=>XV hY WI (by omega) h3 K
   have e0:∀(K:AV->Option (AV×St)),dI (.lenB .l) [.slice Y 0 bs.length none 1] K=K (.int .i64 (bs.length:Int)):=λK=>rfl
   simp[hX,e0,e1,e2]
def qd(k:Nat):List Nat:=if k<10 then [48+k]else [48+k / 10,48+k % 10]
theorem MM{R:Type}{T:List Nat}{a i:Nat}(h1:a<=i)(h2:i<=T.length)(s:St)(K:AV->St->Option R):ai c (.sliceS true true) [.str T,.int .i64 (a:Int),.int .i64 (i:Int)] s K=K (.str ((T.take i).drop a)) s:=
 aP c K (λH n=>by
  simp only[ax.run,qY,bounds,eM,Zf1,cF,H2 h1,H2 h2]) s
theorem ahs(hc:bB c){k:Nat}(hk:k<100)(s:St):c 227 [.int .i64 (k:Int)] s=some (.str (qd k),s):=by
 rw[P7 hc 1 (r:=(.str (qd k),s)),ak (Plain.str _) (aM.refl s)];rw[S7];by_cases h:k<10
 . have d:decide ((k:Int)<10)=true:=H2 (by omega);have v1:Unit->au .i64 ((k:Int)+1)=((k+1:Nat):Int):=λ_=>wrap64 (by omega) (by omega)
   simp only[aj,aU,d,bk,dR,v1 ()];rw[MM (by omega) (by simp;omega)];congr 3;clear d v1 hk
   revert k
   decide+kernel
 . have d:decide ((k:Int)<10)=false:=H3 (by omega);have v1:Unit->au .i64 ((k:Int)*2)=((k*2:Nat):Int):=λ_=>wrap64 (by omega) (by omega)
   have v2:Unit->au .i64 (((k*2:Nat):Int)+2)=((k*2+2:Nat):Int):=λ_=>wrap64 (by omega) (by omega)
   simp only[aj,aU,d,bG,QD,v1 (),dR,v2 ()];rw[MM (by omega) (by simp;omega)];congr 3;clear d v1 v2
   revert h
   revert k
   decide+kernel
theorem aht(hc:bB c){k:Nat}(hk:k<100)(s:St):c 67 [.int .i64 (k:Int)] s=some (.str (qd k),s):=by
 have sm:=ahs hc hk s;have d1:decide ((0:Int)<=(k:Int))=true:=H2 (by omega);have d2:decide ((k:Int)<100)=true:=H2 (by omega);have d3:decide ((10:Int)=10)=true:=rfl;have fi:c 165 [.int .i64 (k:Int),.int .i64 10] s=some (.str (qd k),s):=by
  rw[Ju hc 1 (r:=(.str (qd k),s)),ak (Plain.str _) (aM.refl s)];rw[MK];simp only[aj,cN,d3,Zf6,bk,Vo,d1,bN,aU,d2,cr,aK,sm,aJ]
 have ii:c 98 [.int .i64 (k:Int)] s=some (.str (qd k),s):=by
  rw[Rb hc 1 (r:=(.str (qd k),s)),ak (Plain.str _) (aM.refl s)];rw[UX];simp only[aj,aK,fi,aJ]
 rw[S6 hc 1 (r:=(.str (qd k),s)),ak (Plain.str _) (aM.refl s)];rw[Wg];simp only[aj,aK,ii,aJ]
set_option linter.unusedSimpArgs false
open Go Go.Ai Go.Proofs Go.Ai.HY
theorem afe{R:Type}{T:List Nat}{i:Nat}(h2:i<=T.length)(s:St)(K:AV->St->Option R):ai c (.sliceS false true) [.str T,.int .i64 (i:Int)] s K=K (.str (T.take i)) s:=
 aP c K (λH n=>by
  have hb:bounds false true false [.int .i64 (i:Int)]=some (none,some i,none):=by simp only[bounds,eM]
  simp only[ax.run,qY,hb,Zf1,Zi8,cF,H2 h2,H2 (Zi5 _),Zb7]) s
theorem aff{R:Type}{T:List Nat}{i:Nat}(h2:i<=T.length)(K:AV->Option R):dI (.sliceS false true) [.str T,.int .i64 (i:Int)] K=K (.str (T.take i)):=
 cM K (λH n=>by
  have hb:bounds false true false [.int .i64 (i:Int)]=some (none,some i,none):=by simp only[bounds,eM]
  simp only[ax.run,qY,hb,Zf1,Zi8,cF,H2 h2,H2 (Zi5 _),Zb7])
theorem P8{R:Type}{T:List Nat}{i:Nat}(h2:i<=T.length)(s:St)(K:AV->St->Option R):ai c (.sliceS true false) [.str T,.int .i64 (i:Int)] s K=K (.str (T.drop i)) s:=
 aP c K (λH n=>by
  have hb:bounds true false false [.int .i64 (i:Int)]=some (some i,none,none):=by simp only[bounds,eM]
  simp only[ax.run,qY,hb,Zf1,Zi8,cF,H2 h2,H2 (Za3 _),Zk1]) s
theorem afg{R:Type}{T:List Nat}{i:Nat}(h2:i<=T.length)(K:AV->Option R):dI (.sliceS true false) [.str T,.int .i64 (i:Int)] K=K (.str (T.drop i)):=
 cM K (λH n=>by
  have hb:bounds true false false [.int .i64 (i:Int)]=some (some i,none,none):=by simp only[bounds,eM]
  simp only[ax.run,qY,hb,Zf1,Zi8,cF,H2 h2,H2 (Za3 _),Zk1])
def P9(a:List Nat)(b:Nat):Int:=Lib.indexByte (a.map UInt8.ofNat) ((b:Int).toNat.toUInt8)
theorem Qa(hc:bB c)(a:List Nat)(b:Nat)(hb:b<256)(s:St):c 175 [.str a,.str [b]] s=some (.int .i64 (P9 a b),s):=by
 have i1:=ai9 hc a (b:Int) s;have i2:c 243 [.str a,.int .u8 (b:Int)] s=some (.int .i64 (P9 a b),s):=by
   rw[Fe hc 1 (r:=(.int .i64 (P9 a b),s)),ak (Plain.int _ _) (aM.refl s)];rw[Hu];simp only[aj,aK,i1,aJ,P9]
 rw[KG hc 1 (r:=(.int .i64 (P9 a b),s)),ak (Plain.int _ _) (aM.refl s)];rw[NZ];have d1:decide ((([b]:List Nat).length:Int)=0)=false:=H3 (by simp);have d2:decide ((([b]:List Nat).length:Int)=1)=true:=H2 (by simp);have ix:∀(K:AV->St->Option (AV×St)),ai c .idxS [.str [b],.int .i64 0] s K=K (.int .u8 (b:Int)) s:=λK=>by simp
 by_cases h:[b]=a
 . (subst h;have e:P9 [b] b=0:=by have:=LN (c:=b) (a:=[]) (b:=[]) hb (λx hx=>by cases hx) (by simp);exact this);have d3:decide ([b]=[b])=true:=H2 rfl;simp only[aj,bL,cN,d1,bN,jZ,Zf6,aZ,bk,e]
 .have d3:decide ([b]=a)=false:=H3 h;simp only[aj,bL,cN,d1,bN,jZ,d3,aZ,bG,d2,bk,ix,aK,i2,aJ]
theorem afh(hc:bB c)(a:List Nat)(b:Nat)(hb:b<256)(s:St):c 249 [.str a,.str [b]] s=some (.int .i64 (P9 a b),s):=by
 have i2:=Qa hc a b hb s;rw[Ra hc 1 (r:=(.int .i64 (P9 a b),s)),ak (Plain.int _ _) (aM.refl s)];rw[UU];simp only[aj,aK,i2,aJ]
theorem ahu(hc:bB c){a:List Nat}{b:Nat}(hb:b<256)(ha:∀x∈a,x<256)(h:b∉a)(s:St):c 78 [.str a,.str [b]] s=some (.tuple [.str a,.str [],.bool false],s):=by
 have e:P9 a b= -1:=ZP hb ha h;have i2:=Qa hc a b hb s;rw[e]at i2;have pl:Plain (.tuple [.str a,.str [],.bool false]):=Plain.tuple (by simp[Plain.str,Plain.bool]);have k:c 123 [.str a,.str [b]] s=some (.tuple [.str a,.str [],.bool false],s):=by
  rw[Ck hc 1 (r:=(.tuple [.str a,.str [],.bool false],s)),ak pl (aM.refl s)];rw[EM];simp only[aj,aK,i2,aJ,oa,show decide ((0:Int)<= -1)=false from rfl,bG]
 rw[Iy hc 1 (r:=(.tuple [.str a,.str [],.bool false],s)),ak pl (aM.refl s)];rw[NF];simp[k]
theorem ahv(hc:bB c){u v:List Nat}{b:Nat}(hb:b<256)(ha:∀x∈u,x<256)(h:b∉u)(hl:u.length<=1000000)(s:St):c 78 [.str (u++b::v),.str [b]] s=some (.tuple [.str u,.str v,.bool true],s):=by
 have e:P9 (u++b::v) b=(u.length:Int):=LN hb ha h;have i2:=Qa hc (u++b::v) b hb s;rw[e]at i2;have pl:Plain (.tuple [.str u,.str v,.bool true]):=Plain.tuple (by simp[Plain.str,Plain.bool]);have d:decide ((0:Int)<=(u.length:Int))=true:=H2 (by omega);have l1:(u++b::v).take u.length=u:=by simp
 have l2:(u++b::v).drop (u.length+1)=v:=by rw[<-Zl3];simp
 have w:Unit->au .i64 ((u.length:Int)+(([b]:List Nat).length:Int))=((u.length+1:Nat):Int):=λ_=>by
  rw[Zk3];exact wrap64 (by omega) (by omega)
 have k:c 123 [.str (u++b::v),.str [b]] s=some (.tuple [.str u,.str v,.bool true],s):=by
  rw[Ck hc 1 (r:=(.tuple [.str u,.str v,.bool true],s)),ak pl (aM.refl s)];rw[EM];simp only[aj,aK,i2,aJ,oa,d,bk,gJ,aff (show u.length<=(u++b::v).length by simp),l1,agu,abX,w (),afg (show u.length+1<=(u++b::v).length by simp),l2]
 rw[Iy hc 1 (r:=(.tuple [.str u,.str v,.bool true],s)),ak pl (aM.refl s)];rw[NF];simp[k]
set_option linter.unusedSimpArgs false
def strs(l:List (List Nat)):List AV:=l.map .str
theorem adE{R:Type}{b:Pos}{N n:Nat}(h:n<=N)(k:IntKind)(s:St)(K:AV->St->Option R):ai c (.sliceL 1 false true false) [.slice b 0 N (some N) 1,.int k (n:Int)] s K=K (.slice b 0 n (some N) 1) s:=aP c K (λH m=>by
 have hb:bounds false true false [.int k (n:Int)]=some (none,some n,none):=by simp[bounds,eM]
 simp only[ax.run,lu,hb,cW,cF,Zf6,Zf1,Zi8,Zi5,H2 h]
 all_goals simp) s
theorem acm(ds:List (List Nat))(u:List Nat)(x:AV)(m:Nat):(strs ds++List.replicate (m+1) x).set (0+ds.length*1) (.str u)=strs (ds++[u])++List.replicate m x:=by
 rw[List.set_append_right _ _ (by simp[strs])];simp[strs,Zm6]
theorem ahw(hc:bB c){b:Nat}(hb:b<256)(F:Nat)(s0:St){N:Nat}(hN:N<=1000001):∀(m:Nat)(ds:List (List Nat))(r:List Nat)(f:Nat),(bF b [] r).length=m+1->m<f->ds.length+m+1=N->(∀x∈r,x<256)->r.length<=1000000->
  ∃ (qs:List (List Nat)) (w:List Nat),bF b [] r=qs++[w]/\qs.length=m/\∀k2:Q2,kO c F k2 f [.str r,.str [b],.int .i64 0,.int .i64 ((N - 1:Nat):Int),.slice s0.next 0 N (some N) 1,.int .i64 (ds.length:Int)] (af s0 (.cells (strs ds++List.replicate (m+1) (.str [])) 0))=
    k2 [.str w,.slice s0.next 0 N (some N) 1,.int .i64 ((N - 1:Nat):Int)] (af s0 (.cells (strs (ds++qs)++[.str []]) 0)):=by
 intro m;induction m with
 |zero=>
  intro ds r f hm hf hl hr hrl;obtain⟨f,rfl⟩:∃g,f=g+1:=⟨f - 1,by omega⟩
  obtain⟨w,hw⟩:∃w,bF b [] r=[w]:=List.length_eq_one_iff.1 hm;have hn:b∉r:=λh=>by
    rcases Uk (c:=b) r with h'|⟨a,v,h1,e⟩
    .   exact h' h
    .   rw[e,SD a v h1]at hm;have:=Dh (c:=b) v [];simp at hm;exact this hm
  rw[QH r hn]at hw;obtain rfl:r=w:=(List.cons.inj hw).1;refine⟨[],r,by rw[QH r hn];rfl,rfl,λk2=> ?_⟩;have d:decide ((ds.length:Int)<((N - 1:Nat):Int))=false:=H3 (by omega);have e:ds.length=N - 1:=by omega
  rw[Ac];simp only[aE,aH,aj,aU,d,bG,Ze9];rw[e];rfl
 |succ m ih=>
  intro ds r f hm hf hl hr hrl;obtain⟨f,rfl⟩:∃g,f=g+1:=⟨f - 1,by omega⟩
  rcases Uk (c:=b) r with h|⟨u,v,h1,rfl⟩
  .rw[QH r h]at hm;simp at hm
  have hu:∀x∈u,x<256:=λx hx=>hr x (Zg1 _ hx)
  have hv:∀x∈v,x<256:=λx hx=>hr x (Zh5 _ (Za0 _ hx))
  have WD:u.length+v.length+1<=1000000:=by simpa [Zh4]using hrl
  rw[SD u v h1]at hm ⊢;obtain⟨qs,w,e1,e2,e3⟩:=ih (ds++[u]) v f (by simpa using hm) (by omega) (by simp;omega) hv (by omega);refine⟨u::qs,w,by rw[e1];rfl,by simp[e2],λk2=> ?_⟩;have e:P9 (u++b::v) b=(u.length:Int):=LN hb hu h1;have i2:=afh hc (u++b::v) b hb (af s0 (.cells (strs ds++List.replicate (m+1+1) (.str [])) 0));rw[e]at i2;have d:decide ((ds.length:Int)<((N - 1:Nat):Int))=true:=H2 (by omega);have d2:decide ((u.length:Int)<0)=false:=H3 (by omega);have l1:(u++b::v).take u.length=u:=by simp
  have l2:(u++b::v).drop (u.length+1)=v:=by rw[<-Zl3];simp
  have w0:Unit->au .i64 ((u.length:Int)+0)=((u.length:Nat):Int):=λ_=>wrap64 (by omega) (by omega)
  have w1:Unit->au .i64 ((u.length:Int)+(([b]:List Nat).length:Int))=((u.length+1:Nat):Int):=λ_=>by
    rw[Zk3];exact wrap64 (by omega) (by omega)
  have w2:Unit->au .i64 ((ds.length:Int)+1)=(((ds++[u]).length:Nat):Int):=λ_=>by
    rw[Zb1,Zk3];exact wrap64 (by omega) (by omega)
  have st:∀(K:AV->St->Option (AV×St)),ai c (.store 1) [.ptr s0.next (0+ds.length*1),.str u] (af s0 (.cells (strs ds++List.replicate (m+1+1) (.str [])) 0)) K=K .undef (af s0 (.cells (strs (ds++[u])++List.replicate (m+1) (.str [])) 0)):=λK=>by
    rw[QG K (aC _ _) (by simp[strs]) rfl rfl,JW,acm]
  have ixq:=λ(K:AV->St->Option (AV×St))(s1:St)=>CC c K s1 (b:=s0.next) (off:=0) (len:=N) (es:=1) (es':=1) (cap:=some N) (k:= .i64) (i:=ds.length) (by omega)
  have fin:=e3 k2;rw[Zg8,List.singleton_append]at fin;rw[<-fin,Ac];simp only[aE,aH,aj,aU,d,bk,aK,i2,aJ,d2,bG,dR,w0 (),afe (show u.length<=(u++b::v).length by simp),l1,ixq,st,bL,w1 (),P8 (show u.length+1<=(u++b::v).length by simp),l2,w2 ()]
theorem ahx(hc:bB c){b:Nat}(hb:b<256){r:List Nat}(hr:∀x∈r,x<256)(hrl:r.length<=1000000)(s:St):c 124 [.str r,.str [b]] s=some (.slice s.next 0 (bF b [] r).length (some (bF b [] r).length) 1,af s (.cells (strs (bF b [] r)) 0)):=by
 obtain⟨m,hm⟩:∃m,(bF b [] r).length=m+1:=by
  cases h:bF b [] r with
  |nil=>exact absurd h (Dh r [])
  |cons x y=>exact⟨y.length,rfl⟩
 have hlen:=Vz (c:=b) r [];have hcnt:Lib.countByte (r.map UInt8.ofNat) ((b:Int).toNat.toUInt8)+1=m+1:=(Vy hb r [] hr).trans hm;obtain⟨qs,w,e1,e2,e3⟩:=ahw hc hb (m+1) s (N:=m+1) (by omega) m [] r (m+1) hm (by omega) (by simp) hr hrl;simp only[Ze6,strs,Ze0,Zc3,Zf0,show((0:Nat):Int)=0 from rfl]at e3;have ct:c 248 [.str r,.str [b]] s=some (.int .i64 (m:Int),s):=by
  have c2:=aja hc r (b:Int) s;rw[Q9 hc 1 (r:=(.int .i64 (m:Int),s)),ak (Plain.int _ _) (aM.refl s)];rw[UT];have d1:decide ((([b]:List Nat).length:Int)=0)=false:=H3 (by simp);have d2:decide ((([b]:List Nat).length:Int)=1)=true:=H2 (by simp);have ix:∀(K:AV->St->Option (AV×St)),ai c .idxS [.str [b],.int .i64 0] s K=K (.int .u8 (b:Int)) s:=λK=>by simp
  have Y8:Lib.countByte (r.map UInt8.ofNat) ((b:Int).toNat.toUInt8)=m:=by omega
  rw[Y8]at c2;simp only[aj,bL,cN,d1,bG,d2,bk,ix,aK,c2,aJ]
 have key:c 176 [.str r,.str [b],.int .i64 0,.int .i64 (-1)] s=some (tidy s (.slice s.next 0 (m+1) (some (m+1)) 1,af s (.cells (strs (bF b [] r)) 0))):=by
  rw[MJ hc (m+1) (r:=(.slice s.next 0 (m+1) (some (m+1)) 1,af s (.cells (strs (bF b [] r)) 0)))];rw[P5];have d1:decide ((-1:Int)=0)=false:=rfl;have d2:decide (([b]:List Nat)=[])=false:=rfl;have d3:decide ((-1:Int)<0)=true:=rfl;have w1:Unit->au .i64 ((m:Int)+1)=((m+1:Nat):Int):=λ_=>wrap64 (by omega) (by omega)
  have w2:Unit->au .i64 ((r.length:Int)+1)=((r.length+1:Nat):Int):=λ_=>wrap64 (by omega) (by omega)
  have w3:Unit->au .i64 (((m+1:Nat):Int) - 1)=((m:Nat):Int):=λ_=>by rw[show((m+1:Nat):Int) - 1=(m:Int)by omega];exact wrap64 (by omega) (by omega)
  have mn:min (((m+1:Nat)):Int) ((r.length+1:Nat):Int)=((m+1:Nat):Int):=by omega
  have mk:=λ(K:AV->St->Option (AV×St))=>QF c K s (es:=1) (bytes:=16) (z:=[.str []]) (k:= .i64) (k':= .i64) (n:=m+1) (by omega) (by omega)
  rw[AS]at mk;have st:∀(K:AV->St->Option (AV×St)),ai c (.store 1) [.ptr s.next (0+m*1),.str w] (af s (.cells (qs.map .str++[.str []]) 0)) K=K .undef (af s (.cells (strs (bF b [] r)) 0)):=λK=>by
   rw[QG K (aC _ _) (by simp[e2]) rfl rfl,JW];have:=acm qs w (.str []) 0;rw[e2]at this;have h2:(List.map AV.str qs++[AV.str []]).set (0+m*1) (.str w)=strs (bF b [] r):=(by rw[e1];simpa [strs]using this);rw[h2]
  have ixq:=λ(K:AV->St->Option (AV×St))(s1:St)=>CC c K s1 (b:=s.next) (off:=0) (len:=m+1) (es:=1) (es':=1) (cap:=some (m+1)) (k:= .i64) (i:=m) (by omega)
  simp only[aj,cN,d1,bG,jZ,d2,ki,aU,d3,bk,aK,ct,aJ,dR,w1 (),aE,aH,bL,w2 (),aiG,mn,mk,kW,w3 (),e3,ixq,st,adE (Za3 (m+1))]
 rw[hm];have np:¬Plain (AV.slice s.next 0 (m+1) (some (m+1)) 1):=λh=>zd (by omega) h
 have t0:tidy s (.slice s.next 0 (m+1) (some (m+1)) 1,af s (.cells (strs (bF b [] r)) 0))=(.slice s.next 0 (m+1) (some (m+1)) 1,af s (.cells (strs (bF b [] r)) 0)):=by
  unfold tidy;rw[Za2 λh=>np h.1]
 rw[t0]at key;rw[Q8 hc 1 (r:=(.slice s.next 0 (m+1) (some (m+1)) 1,af s (.cells (strs (bF b [] r)) 0))),t0];rw[US];simp only[aj,aK,key,aJ]
end
noncomputable section
open Go Go.Ai Go.Proofs
attribute [local go_sem ↓] aT jK ev JZ uD getLT oO AX FX nB nC zb tr tu tA oc od oe oh om oq tB tC ot ou ov ow oA yO yP yQ
attribute [local go_sem] aT jK ev
section
variable(c:ah)(F:Nat)(x0 x1 x2 x3 x4 x5 x6 x7 x8 x9 pY qo:AV)(s:St)
def G5:Sh:=(sq sl (sq (sq sl (sc (sq sl sl) sl)) (sq (sq sl (sb (sp 0 [1,17,18,19] [(1,[4,5,6]),(2,[])] (sq sl (sq (sc sl sl) (sq (sb (sq sl (sq sl (sq (sq sl (sc (sq sl sl) sl)) sl)))) sl)))))) (sq sl sl))))
def Qb:PX 65 G5:=⟨_,by conv=>lhs;reduce⟩
def NJ:PL 65 G5 0:=⟨_,by conv=>lhs;reduce⟩
def oF(k1 k2:Q2):Nat->Q2
 |0,_,_=>none
 |n+1,vs,s=>eg c F bf (oF k1 k2 n) [k1,k2] NJ.1 vs s
def uS(k1 k2:Q2)(n:Nat)(vs:List AV)(s:St):=(by dsimp only[oF,NJ,go_sem,Int.reduceOfNat]:oF c F k1 k2 (n+1) vs s=_)
def G6:Un->List Q2->Nat->Q2
 |.z,[k1,k2]=>oF c F k1 k2
 |_,_=>λ_=>eO
def MN:O2:=aT c F (G6 c F) Qb.1 [x0,x1] s
def Qc:=(by dsimp only[MN,Qb, ↓G6,go_sem,Int.reduceOfNat]:MN c F x0 x1 s=_)
end
section
variable{c:ah}(hc:Sem c)(F:Nat){x0 x1 x2 x3 x4 x5 x6 x7 x8 x9 pY qo:AV}{s:St}{r:AV×St}
include hc
theorem KL(h:MN c F x0 x1 s=some r):c 65 [x0,x1] s=some (tidy s r):=hc.o1 F (G6 c F) G5 (by kernel_rfl) (by kernel_rfl) (λ_ _ _=>by kernel_rfl) (λ_ _ _ _=>by kernel_rfl) (by kernel_rfl) h
end
end
section
open Go Go.Ai Go.Proofs
variable{c:ah}
def IC:List aG->Int->Nat->Option (Nat×Int)
 |[],_,_=>none
 |t::ts,s,i=>if s<bh t then some (i,s)else IC ts (s - bh t) (i+1)
theorem aaT:∀{ts:List aG}{s:Int}{i:Nat}{k:Nat}{x:Int},0<=s->IC ts s i=some (k,x)->i<=k/\0<=x/\∃t,ts[k - i]? =some t/\x<bh t
 |[],_,_,_,_,_,h=>by cases h
 |t ::ts,s,i,k,x,hs,h=>by
  unfold IC at h;split at h
  .simp only[H0,Zb6]at h;obtain⟨rfl,rfl⟩:=h;exact⟨Za3 _,hs,t,by simp,by assumption⟩
  .obtain⟨h1,h2,t',h3,h4⟩:=aaT (by omega) h;refine⟨by omega,h2,t',?_,h4⟩;rw[show k - i=(k - (i+1))+1 by omega,Za6];exact h3
def KM:Option (Nat×Int)->AV
 |some (i,x)=>.tuple [.int .i64 (i:Int),.int .i64 x,.bool true]
 |none=>.tuple [.int .i64 0,.int .i64 0,.bool false]
theorem Xz(o:Option (Nat×Int)):Plain (KM o):=by
 cases o with
 |none=>exact Plain.tuple λv hv=>by simp at hv;rcases hv with rfl|rfl|rfl<;>first|exact Plain.int _ _|exact Plain.bool _
 |some p=>exact Plain.tuple λv hv=>by simp at hv;rcases hv with rfl|rfl|rfl<;>first|exact Plain.int _ _|exact Plain.bool _
def DD(ts:List aG)(s:Int):Option (Nat×Int):=if s<0\/(bA ts).2≠0 then none else IC ts s 0
theorem adF(hc:Sem c)(z:Bool)(ts:List aG)(hl:ts.length<=16)(F:Nat)(k1 k2):∀(m k:Nat)(s:Int)(st:St),Wf st->ts.length<=k+m->k<=ts.length->0<=s->s<=4611686018427387904->
  ∃ st',Grew st st'/\oF c F k1 k2 (m+1) [.int .i64 s,tabs z ts,.int .i64 (ts.length:Int),.int .i64 (k:Int)] st=
    (match IC (ts.drop k) s k with|some (i,x)=>k1 [.int .i64 (i:Int),.int .i64 x,.bool true] st'|none=>k2 [] st'):=by
 intro m;induction m with
 |zero=>
  intro k s st hw h1 h2 h3 h4;obtain rfl:k=ts.length:=by omega
  refine⟨st,Grew.refl hw,?_⟩;rw[uS];simp[IC]
 |succ m ih=>
  intro k s st hw h1 h2 h3 h4;by_cases h:k<ts.length
  . have w:au .i64 ((k:Int)+1)=((k+1:Nat):Int):=wrap64 (by omega) (by omega);have cw:Wf (af st (.cells ts[k].cells 0)):=bM hw;have hg:=Grew.af hw (.cells ts[k].cells 0);have hs:=Kj hc ts[k] _ cw;have b2:=tI ts[k];have w2:au .i64 (s - bh ts[k])=s - bh ts[k]:=wrap64 (by omega) (by omega);rw[Za8 h];unfold IC;by_cases bw:s<bh ts[k]
    .   refine⟨_,hg,?_⟩;rw[uS];simp[tabs,h,hs,bw,aG.len]
    .   obtain⟨st',g1,g2⟩:=ih (k+1) (s - bh ts[k]) _ cw (by omega) (by omega) (by omega) (by omega);refine⟨st',hg.trans g1,?_⟩;simp only[bw,Ze1];rw[<-g2,uS];simp[tabs,h,hs,w,w2,bw,aG.len]
  .obtain rfl:k=ts.length:=(by omega);refine⟨st,Grew.refl hw,?_⟩;rw[uS];simp[IC]
theorem ahy(hc:Sem c)(z:Bool)(ts:List aG)(cQ:∀t∈ts,t.Ok)(s:Int)(hs:s<=4611686018427387904)(st:St)(hw:Wf st):
   c 65 [tabs z ts,.int .i64 s] st=some (KM (DD ts s),st):=by
 have lT:∀(K:AV->St->Option (AV×St))(s:St),ai c (.lenB .l) [tabs z ts] s K=K (.int .i64 (ts.length:Int)) s:=λK s=>by unfold tabs;rw[bW];simp
 have hv:=Ml hc z ts cQ st hw;by_cases h:s<0\/(bA ts).2≠0
 . have e:DD ts s=none:=(by rw[DD,Za4 h]);rw[KL hc 1 (r:=(KM (DD ts s),st)),ak (Xz _) (aM.refl st)];rw[Qc,e];by_cases h1:s<0
   .simp[h1,KM]
   .have h3:(bA ts).2≠0:=h.resolve_left h1;simp[h1,h3,hv,KM]
 . have e:DD ts s=IC ts s 0:=(by rw[DD,Za2 h]);have h1:¬s<0:=λe=>h (.inl e)
   have h3:(bA ts).2=0:=Zj5 λe=>h (.inr e)
   have hl:=PC h3;have hex:=λk1 k2=>adF hc z ts hl 20 k1 k2 19 0 s st hw (by omega) (by omega) (by omega) hs
   obtain⟨st',hg,L⟩:=hex (λvs s40=>eV vs λx4 vs=>eV vs λx5 vs=>eV vs λx6 vs=>gP vs (some (.tuple [x4,x5,x6],s40)))
     (λvs s41=>gP vs (ai c .move [.int .i64 0] s41 λx4 s42=>ai c .move [.int .i64 0] s42 λx5 s43=>ai c .move [.bool false] s43 λx6 s44=>some (.tuple [x4,x5,x6],s44)))
   rw[KL hc 20 (r:=(KM (DD ts s),st')),ak (Xz _) hg.keeps];rw[Qc,e]
   have L':oF c 20 (λvs s40=>eV vs λx4 vs=>eV vs λx5 vs=>eV vs λx6 vs=>gP vs (some (.tuple [x4,x5,x6],s40)))
     (fun vs s41=>gP vs (ai c .move [.int .i64 0] s41 fun x4 s42=>ai c .move [.int .i64 0] s42 fun x5 s43=>ai c .move [.bool false] s43 fun x6 s44=>some (.tuple [x4,x5,x6],s44))) 20
        [.int .i64 s,tabs z ts,.int .i64 (ts.length:Int),.int .i64 0] st=some (KM (IC ts s 0),st'):=by
     have:=L;simp only[Zb7]at this;rw[show((0:Nat):Int)=0 from rfl]at this;rw[this];cases IC ts s 0 with
     |none=>simp[KM]
     |some p=>simp[KM]
   simp at L';simp[h1,h3,hv,lT,L']
end
section
set_option linter.unusedSimpArgs false
open Go Go.Ai Go.Proofs
variable{c:ah}
def whZ:List Int->Int->Nat->Option (Nat×Int)
 |[],_,_=>none
 |z::zs,s,i=>if s<z then some (i,s)else whZ zs (s - z) (i+1)
theorem UY:∀(ts:List aG)(s:Int)(i:Nat),IC ts s i=whZ (ts.map bh) s i
 |[],_,_=>rfl
 |t::ts,s,i=>by
  rw[IC,Zb4,whZ,UY ts]
theorem ahz(o:Option (Nat×Int)):bR (KM o):=by
 cases o with
 |none=>exact bR.tuple λv hv=>by simp at hv;rcases hv with rfl|rfl|rfl<;>first|exact bR.int _ _|exact bR.bool _
 |some p=>exact bR.tuple λv hv=>by simp at hv;rcases hv with rfl|rfl|rfl<;>first|exact bR.int _ _|exact bR.bool _
section
variable{s0 s sB:St}{Vs:List AV}{p:aR}{P V O:AV}{q r l o:List Int}{N G L:Nat}
theorem adG(hc:bB c)(hx:Ext c)(h:PS s0 s Vs p)(cQ:∀t∈p.ts,t.Ok){V1:AV}(e1:Vs[0]? =some V1)(x:Int)(TR:x<=4611686018427387904):c 65 [V1,.int .i64 x] s=some (KM (DD p.ts x),s):=by
 obtain⟨V,z,p',e,ez,S⟩:=h.tabs;rw[e1]at e;cases e;refine hx.En _ _ _ (iG ?_ (ahz _));rw[Zb4,Zb4,Ze0,ez,tU];have:=ahy (c:=run yV gg) rfl z p'.ts (λt ht=>by obtain⟨u,hu,z,rfl⟩:=S.tab ht;have:=cQ u hu;exact⟨this.1,this.2⟩) x TR (emptyAt s) (gQ s);rw[this];have e:p'.ts.map bh=p.ts.map bh:=Zi4 λi=>by rw[Zb5,Zb5];exact CL S.tl S.ts bh (λt t' h=>KA h) i
 unfold DD;rw[UY,UY,e,S.rj]
end
set_option linter.unusedSimpArgs false
def CX(g t:List Nat)(x:Nat):List Nat:=[115,101,97,116,32]++g++[32]++t++[32]++qd x++[10]
def BM(p:aR)(g:Nat)(x:Int):List Nat:=match DD p.ts x with
 |some (t,y)=>CX ((p.gs[g]?.map (·.name)).getD []) ((p.ts[t]?.map (·.name)).getD []) y.toNat
 |none=>[]
def fmtQ(p:aR):List Int->Nat->List Nat
 |[],_=>[]
 |x::q,k=>BM p k x++fmtQ p q (k+1)
structure FB(sA s:St)(bs:List Nat):Prop where
 wf:Wf s
 bld:BAt (sA.next.toNat+1) s sA.next bs
 keep:aM sA s
theorem FB.aN{sA s:St}{bs:List Nat}(h:FB sA s bs):Grew sA s:=⟨h.wf,h.keep,by have:=h.bld.2.1;omega⟩
theorem ahA{k:Nat}(hk:k<100):(qd k).length<=2/\∀x∈qd k,x<256:=by
 unfold qd;split
 .exact⟨by simp,λx hx=>by simp at hx;omega⟩
 .exact⟨by simp,λx hx=>by simp at hx;omega⟩
theorem GS.ZQ{s0 s:St}{V:AV}{gs:List aQ}{rows:List (List AV)}(h:GS s0 s V gs rows){t:Nat}{T:aQ}(ht:gs[t]? =some T):∃v b o,Rd s 9 V t b o (T.ay v):=by
 have hl:t<rows.length:=by rw[h.len];exact(H5.1 ht).1
 obtain⟨v,e,_⟩:=h.yc t T rows[t] ht (H1 hl);obtain⟨b,o,h4⟩:=h.out.own.rd h.out.row (H1 hl);exact⟨v,b,o,by rw[<-e];exact h4⟩
section
variable{s0 s sA:St}{Vs:List AV}{p:aR}{P V1 V2:AV}{q:List Int}{r1 r2:List (List AV)}{pb:Pos}
theorem afi(hc:bB c)(hx:Ext c)(h:PS s0 sA Vs p)(cQ:∀t∈p.ts,t.Ok)(ahB:∀t∈p.ts,bh t<=100)(PZ:q.length=p.gs.length)(hq1:q.length<=1000)
  (hng:∀g∈p.gs,g.name.length<=1000/\∀x∈g.name,x<256) (hnt:∀t∈p.ts,t.name.length<=1000/\∀x∈t.name,x<256)
  (hb:sA.heap.get pb=some (.cells Vs 0)) (e1:Vs[0]? =some V1) (e2:Vs[1]? =some V2) (T:TS s0 sA V1 p.ts r1) (T2:GS s0 sA V2 p.gs r2) (pq:QS 1 sA P (q.map cq)) (hqx:∀x∈q,x<=1000000) (F:Nat):
  ∀(m k f:Nat)(s:St)(bs:List Nat),k+m=q.length->m<f->FB sA s bs->bs.length<=3000*k->
  ∃s',FB sA s' (bs++fmtQ p (q.drop k) k)/\(bs++fmtQ p (q.drop k) k).length<=3000*q.length/\∀k2:Q2,qP c F k2 f [.ptr pb 0,.ptr sA.next 0,P,.int .i64 (q.length:Int),.int .i64 (k:Int)] s=k2 [.ptr sA.next 0] s':=by
 intro m;induction m with
 |zero=>
  intro k f s bs hk hf B HJ;obtain⟨f,rfl⟩:∃g,f=g+1:=⟨f - 1,by omega⟩
  obtain rfl:k=q.length:=by omega
  have d:decide ((q.length:Int)<(q.length:Int))=false:=H3 (by omega);refine⟨s,by rw[Zi3];simpa [fmtQ]using B,by rw[Zi3];simpa [fmtQ]using HJ,λk2=> ?_⟩;rw[zn];simp only[aE,aH,aU,d,bG]
 |succ m ih=>
  intro k f s bs hk hf B HJ;obtain⟨f,rfl⟩:∃g,f=g+1:=⟨f - 1,by omega⟩
  have cK:k<q.length:=by omega
  have G:=B.aN;obtain⟨ab,ao,pa⟩:=rdI (pq.aN G) (H1 cK);have p1:=λ{R}=>@pa.st R
  have p3:=pa.one;have ld:∀(K:AV->St->Option (AV×St)),ai c (.load none) [.ptr ab ao] s K=K (.int .i64 q[k]) s:=λK=>by simp[p3]
  have B8:=G.get hb;have l0:∀(K:AV->St->Option (AV×St)),ai c (.load none) [.ptr pb (0+0)] s K=K V1 s:=λK=>by simp[B8,aF,e1]
  have wh:=adG hc hx (h.qc G) cQ e1 q[k] (by have:=hqx _ (Zc6 cK);omega);have d:decide ((k:Int)<(q.length:Int))=true:=H2 (by omega);have wr:Unit->au .i64 ((k:Int)+1)=((k+1:Nat):Int):=λ_=>wrap64 (by omega) (by omega)
  have Bx:∀(a b d:AV)(K:AV->St->Option (AV×St))(s:St),ai c (.extract 0) [.tuple [a,b,d]] s K=K a s:=λa b d K s=>aP c K (λH n=>rfl) s
  have Io:∀(a b d:AV)(K:AV->St->Option (AV×St))(s:St),ai c (.extract 1) [.tuple [a,b,d]] s K=K b s:=λa b d K s=>aP c K (λH n=>rfl) s
  have Ip:∀(a b d:AV)(K:AV->St->Option (AV×St))(s:St),ai c (.extract 2) [.tuple [a,b,d]] s K=K d s:=λa b d K s=>aP c K (λH n=>rfl) s
  have ef:fmtQ p (q.drop k) k=BM p k q[k]++fmtQ p (q.drop (k+1)) (k+1):=by rw[Za8 cK,fmtQ]
  cases hw:DD p.ts q[k]with
  |none=>
   have es:BM p k q[k]=[]:=(by unfold BM;rw[hw]);rw[hw]at wh;obtain⟨s',z1,z2,z3⟩:=ih (k+1) f s bs (by omega) (by omega) B (by omega);rw[ef,es,Ze6];refine⟨s',z1,z2,λk2=> ?_⟩;rw[<-z3 k2,zn];simp only[aE,aH,aU,d,bk,ki,aj,p1,ld,cO,l0,aK,wh,aJ,KM,Bx,Io,Ip,bG,dR,wr ()]
  |some r=>
   obtain⟨t,y⟩:=r;rw[hw]at wh;have hwn:IC p.ts q[k] 0=some (t,y):=by
        unfold DD at hw;split at hw
        .cases hw
        .exact hw
   have Dk:0<=q[k]:=by
        unfold DD at hw;split at hw
        .cases hw
        .rename_i hn;exact Int.not_lt.1 λe=>hn (.inl e)
   obtain⟨_,y0,tt,ht,ylt⟩:=aaT Dk hwn;rw[Zl5]at ht;have htm:=Zc5 ht;have y1:y<100:=(by have:=ahB tt htm;omega);obtain⟨y',rfl⟩:∃y':Nat,y=(y':Int):=⟨y.toNat,by omega⟩
   have it:=aht hc (k:=y') (by omega) s;obtain⟨KN,hgg⟩:∃g,p.gs[k]? =some g:=⟨_,H1 (by omega)⟩
   have hgm:=Zc5 hgg;obtain⟨gv,gb,go,pg⟩:=GS.ZQ (T2.aN G) hgg;obtain⟨tv,tb,to,pt⟩:=TS.ZQ (T.aN G) ht;have g1:=λ{R}=>@pg.pr R
   have t1:=λ{R}=>@pt.pr R
   have es:BM p k q[k]=CX KN.name tt.name y':=(by unfold BM;rw[hw];simp only[hgg,ht,Ze3,Zf1,Zj1]);obtain⟨n1,n2⟩:=hng _ hgm;obtain⟨n3,n4⟩:=hnt _ htm;obtain⟨n5,n6⟩:=ahA (k:=y') (by omega);have UM:(CX KN.name tt.name y').length<=3000:=(by unfold CX;simp only[Zb1,Zb2,Zc3];omega);obtain⟨s2,W,B2,w2,k2'⟩:=Wh hc hx B.wf B.bld (u:=CX KN.name tt.name y') (by unfold CX;simp) (λx hx=>by
        unfold CX at hx;simp only[Zd5,Za7,Zd0,Zh3]at hx;rcases hx with(((((hx|hx)|hx)|hx)|hx)|hx)|hx
        .omega
        .exact n2 x hx
        .omega
        .exact n4 x hx
        .omega
        .exact n6 x hx
        .omega) (by omega)
   have FB2:FB sA s2 (bs++CX KN.name tt.name y'):=⟨w2,B2,λb x hbx=>by have bw:=(h.aN.wf) b x hbx;rw[k2' b (λe=>by subst e;omega) (by omega)];exact B.keep b x hbx⟩
   obtain⟨s',z1,z2,z3⟩:=ih (k+1) f s2 (bs++CX KN.name tt.name y') (by omega) (by omega) FB2 (by rw[Zb1];omega);rw[Zg8]at z1 z2;rw[ef,es];refine⟨s',z1,z2,λk2=> ?_⟩;have sb:∀u:List Nat,dN (.str u) (.str u)=true:=λu=>by simp[dN,iE,fc,jX.2 rfl]
   have l1:∀(K:AV->Option (AV×St)),fP (.load none) [.ptr pb (0+1)] s.heap (λv=>eA (.load none) [.ptr pb (0+1)] v (iV [] s.heap)&&true) K=K V2:=λK=>zG K (by rw[B8];exact e2) (by rw[B8];exact e2) (Go.Ai.QS.beq T2.out.own)
   have l2:∀(K:AV->Option (AV×St)),fP (.load none) [.ptr pb (0+0)] s.heap (λv=>eA (.load none) [.ptr pb (0+0)] v (iV [] s.heap)&&true) K=K V1:=λK=>zG K (by rw[B8];exact e1) (by rw[B8];exact e1) (Go.Ai.QS.beq T.out.own)
   have l3:∀(K:AV->Option (AV×St)),fP (.load none) [.ptr gb (go+0)] s.heap (λv=>eA (.load none) [.ptr gb (go+0)] v (iV [] s.heap)&&true) K=K (.str KN.name):=λK=>zG K (pg.at' 0 _ rfl) (pg.at' 0 _ rfl) (sb _)
   have l4:∀(K:AV->Option (AV×St)),fP (.load none) [.ptr tb (to+0)] s.heap (λv=>eA (.load none) [.ptr tb (to+0)] v (iV [] s.heap)&&true) K=K (.str tt.name):=λK=>zG K (pt.at' 0 _ rfl) (pt.at' 0 _ rfl) (sb _)
   have sa:∀(a b:List Nat),a.length+b.length<=9223372036854775807->∀(K:AV->Option (AV×St)),dI (.bin .add .num) [.str a,.str b] K=K (.str (a++b)):=λa b hab K=>by
        have:ax.run (λ_=>none) .h (.bin .add .num) [.str a,.str b]=some (.val (.str (a++b))):=(by simp only[ax.run,fI,jT,cF,H2 hab]);unfold dI;rw[this]
   have a0:=sa ([115,101,97,116,32]) (KN.name) (by simp only[Zb1,Zb2,Zc3];omega);have a1:=sa ([115,101,97,116,32]++KN.name) ([32]) (by simp only[Zb1,Zb2,Zc3];omega);have a2:=sa ([115,101,97,116,32]++KN.name++[32]) (tt.name) (by simp only[Zb1,Zb2,Zc3];omega);have a3:=sa ([115,101,97,116,32]++KN.name++[32]++tt.name) ([32]) (by simp only[Zb1,Zb2,Zc3];omega);have a4:=sa ([115,101,97,116,32]++KN.name++[32]++tt.name++[32]) (qd y') (by simp only[Zb1,Zb2,Zc3];omega);have a5:=sa ([115,101,97,116,32]++KN.name++[32]++tt.name++[32]++qd y') ([10]) (by simp only[Zb1,Zb2,Zc3];omega);have W':c 66 [.ptr sA.next 0,.str ([115,101,97,116,32]++KN.name++[32]++tt.name++[32]++qd y'++[10])] s=_:=W;rw[<-z3 k2,zn];simp only[aE,aH,aU,d,bk,ki,aj,p1,ld,cO,l0,aK,wh,aJ,KM,Bx,Io,Ip,gJ,it,lC,l1,g1,l3,a0,a1,a2,a3,a4,a5,l2,t1,l4,W',dR,wr ()]
theorem afj{N:Nat}(hc:bB c)(hx:Ext c)(h:PS s0 s Vs p)(ok:R4 p N)(ahB:∀t∈p.ts,bh t<=100)
  (hng:∀g∈p.gs,g.name.length<=1000/\∀x∈g.name,x<256) (hnt:∀t∈p.ts,t.name.length<=1000/\∀x∈t.name,x<256)
  (pq:QS 1 s P (q.map cq)) (hq:Xx N p.gs.length q):c 31 [.agg Vs,P] s=some (.str (fmtQ p q 0),s):=by
 have hw:=h.aN.wf;have gN:=Grew.af hw (.cells Vs 0);have h1:=h.qc gN;have hcut:cut Vs 0 5=some Vs:=bJ h.cells.1;have xp:=ok.Nz.gs;have hN:=ok.le;have vd:=afb hc h1 ok (pq.aN gN) hq;obtain⟨V1,V2,r1,r2,e1,e2,T,T2,e5⟩:=h1.rT;have n1:(af s (.cells Vs 0)).next.toNat=s.next.toNat+1:=by rw[dX,Pos.aB]
 have B0:FB (af s (.cells Vs 0)) (af (af s (.cells Vs 0)) (.typed 115 [.fH,.av])) []:=⟨bM gN.wf,⟨by omega,by rw[dX (af s (.cells Vs 0)),Pos.aB];omega,(λx hx=>by cases hx),.fH,.av,aC _ _,.inl rfl,.inl ⟨rfl,rfl⟩⟩,bK gN.wf⟩
 obtain⟨s',B',bl,L⟩:=afi (F:=q.length+1) hc hx h1 ok.Nz.ok ahB hq.len (by rw[hq.len];omega) hng hnt (aC s (.cells Vs 0)) e1 e2 T T2 (pq.aN gN) (λx hx=>by have:=(hq.rng x hx).2;omega) q.length 0 (q.length+1) _ [] (by omega) (by omega) B0 (Zi5 _);simp only[Ze6,Zb7,show((0:Nat):Int)=0 from rfl]at B' bl L;obtain⟨eY,bS,kS⟩:=adD hc hx B'.bld (by rw[hq.len]at bl;omega);have ln:=λ(K:AV->St->Option (AV×St))(s1:St)=>pq.lenB (c:=c) K s1
 rw[Zb3]at ln;have kp:aM s eY:=λb x hb=>by
  have bw:=hw b x hb;rw[kS b (by omega)];exact B'.keep b x (gN.get hb)
 rw[Iz hc (q.length+1) (r:=(.str (fmtQ p q 0),eY)),ak (Plain.str _) kp];rw[NI];simp[show ∀l,AV.cells (.agg l)=l from λl=>rfl,aC,aF,hcut,vd,ac7,ln];rw[L];simp[bS]
end
set_option linter.unusedSimpArgs false
open Go Go.Ai Go.Proofs Go.Ai.HY
section
variable{xt xg xy xr:List Nat}
end
section
variable{p:aR}{q:List Int}
theorem acn:∀(zs:List Int)(s:Int)(i:Nat),whZ zs s i=En zs s i
 |[],_,_=>rfl
 |z::zs,s,i=>by rw[whZ,En,acn zs]
theorem aaU(hv:(bA p.ts).2=0)(g:Nat)(x:Int):BM p g x=if 0<=x/\(En (p.ts.map bh) x 0).isSome then ac9 (p.gs.map (·.name)) (p.ts.map (·.name)) (p.ts.map bh) g x++[10]else []:=by
 unfold BM ac9;by_cases h0:0<=x
 . have e:DD p.ts x=En (p.ts.map bh) x 0:=by
    unfold DD;rw[Za2 (by rw[hv];omega),UY,acn]
   rw[e];cases En (p.ts.map bh) x 0 with
   |none=>simp
   |some r=>
    obtain⟨t,y⟩:=r;simp only[h0,Zp3,and_self,Zf9];rw[Zc1,Zc1,Zb5,Zb5];simp[CX,RJ,qd]
 .have e:DD p.ts x=none:=(by unfold DD;rw[Za4 (.inl (by omega))]);rw[e];simp[h0]
end
set_option linter.unusedSimpArgs false
section
variable{s0 s sB:St}{Vs:List AV}{p:aR}{V1:AV}
end
set_option linter.unusedSimpArgs false
theorem aj2{x:Int}(h1:0<=x)(h2:x<=255):au .u8 x=x:=by
 rw[rH];exact Int.emod_eq_of_lt h1 (by show x<256;omega)
def lS(x:Nat):Bool:=decide (48<=x)&&decide (x<=57)
def Ee(n:Nat)(l:List Nat):Nat:=l.foldl (λn x=>10*n+(x - 48)) n
theorem afk{w:List Nat}(hw:w.length<=9)(cZ:∀x∈w,x<256)(F:Nat)(s:St):∀(m i n f:Nat),i+m=w.length->m<f->n<10 ^ i->
  ∀k1 k2:Q2,mO c F k1 k2 f [.str w,.int .i64 (n:Int),.int .i64 (i:Int)] s=if(w.drop i).all lS=true then k2 [.int .i64 ((Ee n (w.drop i):Nat):Int)] s else k1 [.int .i64 0,.bool false] s:=by
 intro m;induction m with
 |zero=>
  intro i n f hi hf hn k1 k2;obtain⟨f,rfl⟩:∃g,f=g+1:=⟨f - 1,by omega⟩
  obtain rfl:i=w.length:=by omega
  have d:decide ((w.length:Int)<(w.length:Int))=false:=H3 (by omega);rw[sN,Zi3];simp only[aE,aH,aj,bL,aU,d,bG,List.all_nil,Zf9,Ee,List.foldl_nil]
 |succ m ih=>
  intro i n f hi hf hn k1 k2;obtain⟨f,rfl⟩:∃g,f=g+1:=⟨f - 1,by omega⟩
  have fU:i<w.length:=by omega
  have d:decide ((i:Int)<(w.length:Int))=true:=H2 (by omega);obtain⟨x,hx⟩:∃x,w[i]? =some x:=⟨_,H1 fU⟩
  have hxe:w[i]=x:=(H5.1 hx).2;have Wz:=cZ x (Zc5 hx);have ix:∀(K:AV->St->Option (AV×St)),ai c .idxS [.str w,.int .i64 (i:Int)] s K=K (.int .u8 (x:Int)) s:=λK=>by simp[hx]
  have hd:w.drop i=x::w.drop (i+1):=by rw[Za8 fU,hxe]
  rw[hd,Zl0];have ten:10 ^ i<=10 ^ 8:=Zm5 (by omega) (by omega);have ten':(10:Nat) ^ 8=100000000:=by decide
  by_cases c1:48<=x
  . by_cases c2:x<=57
    .   have e:lS x=true:=(by unfold lS;rw[H2 c1,H2 c2];rfl);have d1:decide ((x:Int)<48)=false:=H3 (by omega);have d2:decide ((57:Int)<(x:Int))=false:=H3 (by omega);have w1:Unit->au .i64 (10*(n:Int))=((10*n:Nat):Int):=λ_=>by rw[wrap64 (by omega) (by omega)];omega
        have w2:Unit->au .u8 ((x:Int) - 48)=((x - 48:Nat):Int):=λ_=>by
         have:((x:Int) - 48)=((x - 48:Nat):Int):=(by omega);rw[this];exact aj2 (by omega) (by omega)
        have w3:Unit->au .i64 ((x - 48:Nat):Int)=((x - 48:Nat):Int):=λ_=>wrap64 (by omega) (by omega)
        have w4:Unit->au .i64 (((10*n:Nat):Int)+((x - 48:Nat):Int))=((10*n+(x - 48):Nat):Int):=λ_=>by rw[wrap64 (by omega) (by omega)];omega
        have w5:Unit->au .i64 ((i:Int)+1)=((i+1:Nat):Int):=λ_=>wrap64 (by omega) (by omega)
        have:=ih (i+1) (10*n+(x - 48)) f (by omega) (by omega) (by rw[Zo9];omega) k1 k2;rw[e,Ze4,show Ee n (x::w.drop (i+1))=Ee (10*n+(x - 48)) (w.drop (i+1))from rfl, <-this,sN];simp only[aE,aH,aj,bL,aU,d,bk,ix,d1,bN,gF,d2,aZ,bG,QD,w1 (),kW,w2 (),y8,w3 (),dR,w4 (),w5 ()]
    .   have e:lS x=false:=(by unfold lS;rw[H3 c2,Bool.and_false]);have d1:decide ((x:Int)<48)=false:=H3 (by omega);have d2:decide ((57:Int)<(x:Int))=true:=H2 (by omega);rw[e,Zj2,sN];simp only[aE,aH,aj,bL,aU,d,bk,ix,d1,bN,gF,d2,aZ,Zd4,Ze1]
  .have e:lS x=false:=(by unfold lS;rw[H3 c1,Zj2]);have d1:decide ((x:Int)<48)=true:=H2 (by omega);rw[e,Zj2,sN];simp only[aE,aH,aj,bL,aU,d,bk,ix,d1,l7,cr,Zd4,Ze1]
def mz(w:List Nat):AV:=match num w with
 |some k=>.tuple [.int .i64 (k:Int),.bool true]
 |none=>.tuple [.int .i64 0,.bool false]
theorem afl{w:List Nat}{k:Nat}(h:num w=some k):k<1000000000:=by
 unfold num at h;split at h
 .cases h
 . rename_i hc;split at h
   . (rename_i hd;(injection h with h);have hl:w.length<=9:=Nat.le_of_not_lt λe=>hc (.inr (.inl e)));have key:∀(l:List Nat)(n i:Nat),l.all (λc=>decide (48<=c)&&decide (c<=57))=true->n<10 ^ i->l.foldl (λn c=>10*n+(c - 48)) n<10 ^ (i+l.length):=by
        intro l;induction l with
        |nil=>intro n i _ h;exact h
        |cons x l ih=>
         intro n i ha h;rw[Zl0,Za9]at ha;have h1:=ha.1;simp only[Za9,Zd3]at h1;have:=ih (10*n+(x - 48)) (i+1) ha.2 (by rw[Zo9];omega);rw[Zo7,Zb2];rw[show i+(l.length+1)=i+1+l.length by omega];exact this
     have:=key w 0 0 hd (by decide);rw[h,Zc7]at this;exact Zc8 this (Zd6 (Zm5 (by omega) hl) (by decide))
   .cases h
theorem adH(hc:bB c){w:List Nat}(cZ:∀x∈w,x<256)(s:St):c 125 [.str w] s=some (mz w,s):=by
 have pl:Plain (mz w):=by
   unfold mz;split<;>exact Plain.tuple (by simp[Plain.int,Plain.bool])
 rw[UW hc (w.length+1) (r:=(mz w,s)),ak pl (aM.refl s)];rw[Yi];by_cases h0:w.length=0
 .have e:mz w= .tuple [.int .i64 0,.bool false]:=(by unfold mz num;rw[Za4 (.inl h0)]);have d1:decide ((w.length:Int)=0)=true:=H2 (by omega);rw[e];simp only[aj,bL,cN,d1,l7,cr,nc,bk]
 have d1:decide ((w.length:Int)=0)=false:=H3 (by omega);by_cases h1:9<w.length
 .have e:mz w= .tuple [.int .i64 0,.bool false]:=(by unfold mz num;rw[Za4 (.inr (.inl h1))]);have d2:decide ((9:Int)<(w.length:Int))=true:=H2 (by omega);rw[e];simp only[aj,bL,cN,d1,bN,gF,d2,aZ,l7,cr,nc,bk]
 have d2:decide ((9:Int)<(w.length:Int))=false:=H3 (by omega);obtain⟨x,l,rfl⟩:∃x l,w=x::l:=by
   cases w with
   |nil=>simp at h0
   |cons x l=>exact⟨x,l,rfl⟩
 have ix:∀(K:AV->St->Option (AV×St)),ai c .idxS [.str (x::l),.int .i64 0] s K=K (.int .u8 (x:Int)) s:=λK=>by simp
 have fin:¬(1<(x::l).length/\(x::l)[0]? =some 48)->∀k1 k2:Q2,(∀v,k1 [.int .i64 0,.bool false] v=some (.tuple [.int .i64 0,.bool false],v))->(∀n v,k2 [.int .i64 n] v=some (.tuple [.int .i64 n,.bool true],v))->mO c ((x::l).length+1) k1 k2 ((x::l).length+1) [.str (x::l),.int .i64 0,.int .i64 0] s=some (mz (x::l),s):=λhn k1 k2 q1 q2=>by
   have L:=afk (c:=c) (w:=x::l) (by omega) cZ ((x::l).length+1) s (x::l).length 0 0 ((x::l).length+1) (by omega) (by omega) (by decide) k1 k2;have e:num (x::l)=if(x::l).all lS=true then some (Ee 0 (x::l))else none:=by unfold num;rw[Za2 (by rintro(h|h|h);exact h0 h;exact h1 h;exact hn h)];rfl
   simp only[Zb7,show((0:Nat):Int)=0 from rfl]at L;rw[L];unfold mz;rw[e];by_cases ha:(x::l).all lS=true
   .rw[Za4 ha,Za4 ha,q2]
   .rw[Za2 ha,Za2 ha,q1]
 by_cases h2:1<(x::l).length
 . have d3:decide ((1:Int)<((x::l).length:Int))=true:=H2 (by omega);by_cases h3:x=48
   .subst h3;have e:mz (48::l)= .tuple [.int .i64 0,.bool false]:=(by unfold mz num;rw[Za4 (.inr (.inr ⟨h2,rfl⟩))]);rw[e];simp only[aj,bL,cN,d1,bN,gF,d2,aZ,d3,ix,show decide (((48:Nat):Int)=48)=true from rfl,cr,bk]
   .have d4:decide ((x:Int)=48)=false:=H3 (by omega);simp only[aj,bL,cN,d1,bN,gF,d2,aZ,d3,ix,d4,cr,bG];exact fin (λh=>h3 (by simpa using h.2)) _ _ (λv=>rfl) (λn v=>by simp)
 .have d3:decide ((1:Int)<((x::l).length:Int))=false:=H3 (by omega);simp only[aj,bL,cN,d1,bN,gF,d2,aZ,d3,OH,bG];exact fin (λh=>h2 h.1) _ _ (λv=>rfl) (λn v=>by simp)
section
variable{s0 s sA:St}{Vs:List AV}{p:aR}{V1 V2:AV}{r2:List (List AV)}
theorem afm(T2:GS s0 s V2 p.gs r2){u:AV}{w:List Nat}(WA:∀(i:Nat)(g:aQ)(v:AV),p.gs[i]? =some g->c 127 [.agg (g.ay v),u] s=some (.bool (decide (g.name=w)),s))(xp:p.gs.length<=1000)(F:Nat):
  ∀ (m k f:Nat),k+m=p.gs.length->m<f->∀k1 k2:Q2,bX c F k1 k2 f [V2,.func 127 [] [u],.int .i64 (p.gs.length:Int),.int .i64 (k:Int)] s=
    match iR ((p.gs.map (·.name)).drop k) w with
    |some j=>k1 [.int .i64 ((k+j:Nat):Int)] s
    |none=>k2 [] s:=by
 intro m;induction m with
 |zero=>
  intro k f hk hf k1 k2;obtain⟨f,rfl⟩:∃g,f=g+1:=⟨f - 1,by omega⟩
  obtain rfl:k=p.gs.length:=by omega
  have d:decide ((p.gs.length:Int)<(p.gs.length:Int))=false:=H3 (by omega);have e:(p.gs.map (·.name)).drop p.gs.length=[]:=Zh2 (by simp);rw[e,cS];simp only[aE,aH,aU,d,bG];rfl
 |succ m ih=>
  intro k f hk hf k1 k2;obtain⟨f,rfl⟩:∃g,f=g+1:=⟨f - 1,by omega⟩
  have cK:k<p.gs.length:=by omega
  have TV:k<(p.gs.map (·.name)).length:=by simpa using cK
  obtain⟨g,hg⟩:∃g,p.gs[k]? =some g:=⟨_,H1 cK⟩
  obtain⟨v,b,o,rg⟩:=GS.ZQ T2 hg;have p1:=λ{R}=>@rg.st R
  have p2:∀(K:AV->St->Option (AV×St)),ai c (.load (some 9)) [.ptr b o] s K=K (.agg (g.ay v)) s:=λK=>by simp[rg.all]
  have d:decide ((k:Int)<(p.gs.length:Int))=true:=H2 (by omega);have cl:=WA k g v hg;have wr:Unit->au .i64 ((k:Int)+1)=((k+1:Nat):Int):=λ_=>wrap64 (by omega) (by omega)
  have cv:∀(K:AV->St->Option (AV×St)),ai c .callV [.func 127 [] [u],.agg (g.ay v)] s K=K (.bool (decide (g.name=w))) s:=λK=>by rw[zF];show OG (c 127 [.agg (g.ay v),u] s) K=_;rw[cl];rfl
  have ge:(p.gs.map (·.name))[k]=g.name:=by rw[Zi2];exact congrArg _ (H5.1 hg).2
  rw[Za8 TV,ge];unfold iR;rw[Zn1];by_cases h:g.name=w
  .have dh:decide (g.name=w)=true:=H2 h;rw[dh]at cv ⊢;rw[cS];simp only[aE,aH,aU,d,bk,aj,p1,p2,cv,Zf9,Zf8]
  . have dh:decide (g.name=w)=false:=H3 h;rw[dh]at cv ⊢;have:=ih (k+1) f (by omega) (by omega) k1 k2;unfold iR at this;rw[cS];simp only[aE,aH,aU,d,bk,aj,p1,p2,cv,bG,dR,wr (),this,Zd4,Ze1];cases List.findIdx? (λx=>decide (x=w)) ((p.gs.map (·.name)).drop (k+1))with
    |none=>rfl
    |some j=>simp only[Ze3];congr 4;omega
theorem afn(hc:bB c)(T2:GS s0 s V2 p.gs r2){u:AV}{w:List Nat}(WA:∀(i:Nat)(g:aQ)(v:AV),p.gs[i]? =some g->c 127 [.agg (g.ay v),u] s=some (.bool (decide (g.name=w)),s))(xp:p.gs.length<=1000):
  c 126 [V2,.func 127 [] [u]] s=some (.int .i64 (match iR (p.gs.map (·.name)) w with
    |some j=>(j:Int)
    |none=> -1),s):=by
 have ln:=λ(K:AV->St->Option (AV×St))(s1:St)=>T2.out.own.lenB (c:=c) K s1
 rw[T2.len]at ln;have L:=afm T2 WA xp (p.gs.length+1) p.gs.length 0 (p.gs.length+1) (by omega) (by omega);simp only[Zb7,show((0:Nat):Int)=0 from rfl,Zc7]at L;rw[qX hc (p.gs.length+1) (r:=(.int .i64 (match iR (p.gs.map (·.name)) w with
    |some j=>(j:Int)
    |none=> -1),s)),ak (Plain.int _ _) (aM.refl s)]
 rw[kL];simp only[aj,ln];rw[L];cases iR (p.gs.map (·.name)) w with
 |none=>simp
 |some j=>simp
def UZ(p:aR)(w:List Nat):AV:=match iR (p.ts.map (·.name)) w with
 |some j=>.tuple [.int .i64 (j:Int),.bool true]
 |none=>.tuple [.int .i64 0,.bool false]
theorem aaV{ts:List aG}{w:List Nat}:∀(m k:Nat),k+m=ts.length->scan (iX ts w) m k=match iR ((ts.map (·.name)).drop k) w with
  |some j=>((k+j:Nat):Int)
  |none=> -1
 |0,k,h=>by have e:(ts.map (·.name)).drop k=[]:=Zh2 (by simp;omega);rw[e];rfl
 |m +   1,k,h=>by
  have cK:k<ts.length:=by omega
  have TV:k<(ts.map (·.name)).length:=by simpa using cK
  have ih:=aaV (ts:=ts) (w:=w) m (k+1) (by omega);have en:iX ts w k=decide ((ts.map (·.name))[k]=w):=by unfold iX;rw[H1 cK,Zi2];simp
  rw[Za8 TV,scan,en,ih];unfold iR;rw[Zn1];by_cases hc:(ts.map (·.name))[k]=w
  .rw[H2 hc,Za4 rfl,Za4 rfl];rfl
  . rw[H3 hc,Za2 (by simp),Za2 (by simp)];cases List.findIdx? (λx=>decide (x=w)) ((ts.map (·.name)).drop (k+1))with
    |none=>rfl
    |   some j=>
        show((k+1+j:Nat):Int)=((k+(j+1):Nat):Int)
        congr 1;omega
theorem ahC(hc:bB c)(h:PS s0 s Vs p)(cQ:∀t∈p.ts,t.Ok)(dF:p.ts.length<=100)(hv:(bA p.ts).2=0)(e1:Vs[0]? =some V1)(w:List Nat):c 128 [V1,.str w] s=some (UZ p w,s):=by
 obtain⟨V,z,p',e,ez,S⟩:=h.tabs;rw[e1]at e;cases e;have pl:bR (UZ p w):=by
  unfold UZ;split<;>exact bR.tuple (by intro v hv;simp at hv;rcases hv with rfl|rfl;exact bR.int _ _;exact bR.bool _)
 refine acj hc _ _ _ (iG ?_ pl);rw[Zb4,Zb4,Ze0,ez,z7];have en:p'.ts.map (·.name)=p.ts.map (·.name):=Zi4 λi=>by rw[Zb5,Zb5];exact CL S.tl S.ts (λt:aG=>t.name) (λt t' h=>by obtain⟨z,rfl⟩:=h;rfl) i
 have:=ab8 (c:=run yV gg) rfl z p'.ts (λt ht=>by obtain⟨u,hu,z,rfl⟩:=S.tab ht;have:=cQ u hu;exact⟨this.1,this.2⟩) (by rw[S.tl];unfold dM;omega) w (emptyAt s) (gQ s);rw[this,aaV (ts:=p'.ts) p'.ts.length 0 (by omega),en,S.rj];unfold UZ;rw[Zb7];cases iR (p.ts.map (·.name)) w with
 |none=>simp
 |some j=>simp[hv]
end
set_option linter.unusedSimpArgs false
def sC(f:Nat->Bool):Nat->Nat
 |0=>0
 |a+1=>sC f a+(f a).toNat
section
variable{s0 s sB:St}{Vs:List AV}{p:aR}{P:AV}{q:List Int}{N:Nat}
theorem afo(hc:bB c)(hw:Wf s){t:aG}{v:AV}(hM:Mk 1 s0 s v (t.cY.map cq))(cQ:t.Ok)(hk:lF t=0):c 64 [.agg (t.ay v)] s=some (.int .i64 (bh t),s):=by
 have gN:=Grew.af hw (.cells (t.ay v) 0);have k1:=adA hc (hM.grow gN) cQ;have k2:=afa hc (hM.grow gN);rw[hk]at k1;have hcut:cut (t.ay v) 0 7=some (t.ay v):=bJ rfl;rw[Wc hc 1 (r:=(.int .i64 (bh t),af s (.cells (t.ay v) 0))),ak (Plain.int _ _) gN.keeps];rw[aaP];simp[show ∀l,AV.cells (.agg l)=l from λl=>rfl,aC,aF,hcut,k1,k2]
end
end
end Go.Proofs.YtgjikjcfjddloaaGreatDoor
section
end
namespace Go.Proofs.YtgjikjcfjddloaaGreatDoor
section
set_option linter.unusedSimpArgs false
open Go Go.Ai Go.Proofs
variable{c:ah}
section
variable{s0 s sB:St}{Vs:List AV}{p:aR}{P:AV}{q:List Int}{N:Nat}
end
end
noncomputable section
open Go Go.Ai Go.Proofs
attribute [local go_sem ↓] aT jK ev JZ uD getLT oO AX FX nB nC zb tr tu tA oc od oe oh om oq tB tC ot ou ov ow oA yO yP yQ
attribute [local go_sem] aT jK ev
section
variable(c:ah)(F:Nat)(x0 x1 x2 x3 x4 x5 x6 x7 x8 x9 pY qo:AV)(s:St)
end
section
variable{c:ah}(hc:bB c)(F:Nat){x0 x1 x2 x3 x4 x5 x6 x7 x8 x9 pY qo:AV}{s:St}{r:AV×St}
include hc
end
end
section
set_option linter.unusedSimpArgs false
open Go Go.Ai Go.Proofs Go.Ai.RI
variable{c:ah}
def fn(q:List Int)(i:Nat):Int:=q.getD i (-1)
theorem aj3{q:List Int}{i:Nat}(h:i<q.length):q[i]? =some (fn q i):=by unfold fn;rw[Zc1,H1 h];rfl
def adI(q b:List Int):Nat->Nat->Int->Int×Option Int
 |0,_,w=>(w,none)
 |m+1,k,w=>if fn q k=fn b k then adI q b m (k+1) w else if fn b k<0\/q.contains (fn b k)=false then((k:Int),some (fn b k))else adI q b m (k+1) (if w<0 then(k:Int)else w)
section
variable{s0 s sB:St}{A B L:AV}{q b:List Int}{N:Nat}
theorem rdF{v:AV}(h:QS 1 s v (q.map cq)){i:Nat}(hi:i<q.length):∃b o,Rd s 1 v i b o [.int .i64 (fn q i)]:=rdI h (aj3 hi)
theorem Mk.Sg{v:AV}(h:Mk 1 s0 s v (q.map cq)){i:Nat}(hi:i<q.length)(x:Int):
   ∃b o s',Rd s 1 v i b o [.int .i64 (fn q i)]/\(∀(K:AV->St->Option (AV×St)),ai c (.store 1) [.ptr b o,.int .i64 x] s K=K .undef s')/\Mk 1 s0 s' v ((q.set i x).map cq)/\∀p y,dY v≠some p->s.heap.get p=some y->s'.heap.get p=some y:=by
 have fU:i<(q.map cq).length:=by simpa using hi
 obtain⟨b,o,cs,a1,a2,a3,a4,a5,_,a7,a8⟩:=QS.set (c:=c) (R:=AV×St) h.own h.row (by omega) fU;obtain⟨b',o',p⟩:=rdF h.own hi;have e:=a1 (λv s=>some (v,s)) .i64 s;rw[p.st c (λv s=>some (v,s)) .i64 s]at e;simp only[H0,Zb6,AV.ptr.injEq,Zn5]at e;obtain⟨rfl,rfl⟩:=e;have Le:=h.new b' a3;have bw:=h.aN.wf b' _ a4;have Qd:=h.tight b' a3;have fT:cs=(q.map cq).flatten:=by rw[a4]at Qd;injection Qd with e;injection e
 have es:(q.map cq).set i ((q.map cq)[i].set 0 (.int .i64 x))=(q.set i x).map cq:=by rw[Zq2,Zi2];rfl
 refine⟨b',o',cR s b' (.cells (aL cs (o'+0) [.int .i64 x]) 0),p,λK=> ?_,⟨h.wO,MF h.wO h.aN Le bw _,?_,h.new,λr hr=> ?_,h.cap,λb2 l6=> ?_⟩,λp y hp hy=> ?_⟩
 .have e0:(AV.int IntKind.i64 x).cells=[.int .i64 x]:=rfl;have:=jA c K s 1 b' (o'+0) (.int .i64 x) cs a4 (by rw[e0];rfl) (by omega) (by rw[e0];rfl);rw[e0]at this;simpa using this
 .rw[<-es];exact a7 0 _ _ (by decide) (je _ _ _)
 .obtain⟨y,_,rfl⟩:=Zf2.1 hr;rfl
 .have:b2=b':=(by rw[a3]at l6;exact(Zf4 l6).symm);subst this;rw[je,a8 0 _ (by decide) fT,es]
 .rw[cu (λe=>hp (by rw[a3,e]))];exact hy
abbrev rowV(m:Nat×Int×Int):List AV:=[.int .i64 (m.1:Int),.int .i64 m.2.1,.int .i64 m.2.2]
structure Two(s0 s:St)(B L:AV)(q:List Int)(l:Ms):Prop where
 m1:Mk 1 s0 s B (q.map cq)
 m2:Mk 3 s0 s L (l.map rowV)
 sep:∀b,dY B=some b->dY L≠some b
def bY(q b:List Int):Int×Int:=let r:=adI q b q.length 0 (-1);(r.1,r.2.getD (-1))
end
set_option linter.unusedSimpArgs false
open Go Go.Ai Go.Proofs Go.Ai.HY Go.Ai.RI
section
variable{s0 s sA:St}{Vs:List AV}{p:aR}{P V1 V2:AV}{q:List Int}
theorem ajb(hc:bB c){tb wb:Pos}{n:Nat}{xs:List AV}{x:List Nat}(hw:Wf s)(h1:s.heap.get tb=some (.cells [.slice wb 0 (n+2) (some (n+2)) 1] 0))(h2:s.heap.get wb=some (.cells xs 0))(h3:xs[1]? =some (.str x))(g:aQ)(v:AV):
  c 127 [.agg (g.ay v),.ptr tb 0] s=some (.bool (decide (g.name=x)),s):=by
 have gN:=Grew.af hw (.cells (g.ay v) 0);have k1:=gN.get h1;have k2:=gN.get h2;rw[We hc 1 (r:=(.bool (decide (g.name=x)),af s (.cells (g.ay v) 0))),ak (Plain.bool _) gN.keeps];rw[aaR];have e1:∀(K:AV->Option (AV×St)),dI (.idxA 1 none) [.slice wb 0 (n+2) (some (n+2)) 1,.int .i64 1] K=K (.ptr wb 1):=λK=>cM K (λH m=>by
  have:uU (.int .i64 1)=some 1:=rfl;simp only[ax.run,mK,this];have hb:Nat.blt 1 (n+2)=true:=by rw[Zp6];omega
  rw[hb])
 have e2:∀(K:AV->Option (AV×St)),fP (.load none) [.ptr s.next (0+0)] (af s (.cells (g.ay v) 0)).heap (λ_=>true) K=K (.str g.name):=λK=>by rw[oN,aC];rfl
 have e3:∀(K:AV->Option (AV×St)),fP (.load none) [.ptr wb 1] (af s (.cells (g.ay v) 0)).heap (λ_=>true) K=K (.str x):=λK=>by rw[oN,k2];show oZ (xs[1]?) K=_;rw[h3];rfl
 have e4:∀(K:AV->Option (AV×St)),fP (.load none) [.ptr tb 0] (af s (.cells (g.ay v) 0)).heap (λ_=>true) K=K (.slice wb 0 (n+2) (some (n+2)) 1):=λK=>by rw[oN,k1];rfl
 simp only[cP,show ∀l,AV.cells (.agg l)=l from λl=>rfl,aj,lC,e2,e4,e1,e3,agr,gJ]
theorem adJ{st st':St}{b:Pos}{o:Nat}{x y:AV}(h:((cellsOf (st.heap.get b)).bind λcs=>cs[o]?)=some x)(h':((cellsOf (st'.heap.get b)).bind λcs=>cs[o]?)=some y)(cU:x≠y):¬aM st st':=λk=>by
 cases e:st.heap.get b with
 |none=>rw[e]at h;cases h
 |some z=>
  rw[e]at h;rw[k b z e,h]at h';exact cU (Zf4 h')
structure Mr(s0 s:St)(v:AV)(q:List Int):Prop where
 wO:Wf s0
 aN:Grew s0 s
 own:QS 1 s v (q.map cq)
 new:∀b,dY v=some b->s0.next.toNat<=b.toNat
 tight:∀b,dY v=some b->s.heap.get b=some (.cells (q.map cq).flatten 0)
theorem Mr.grow{s':St}{v:AV}(h:Mr s0 s v q)(g:Grew s s'):Mr s0 s' v q:=⟨h.wO,h.aN.trans g,h.own.aN g,h.new,λb hb=>g.get (h.tight b hb)⟩
theorem Mr.Sg{v:AV}(h:Mr s0 s v q){i:Nat}(hi:i<q.length)(x:Int):
   ∃b o s',Rd s 1 v i b o [.int .i64 (fn q i)]/\(∀(K:AV->St->Option (AV×St)),ai c (.store 1) [.ptr b o,.int .i64 x] s K=K .undef s')/\Mr s0 s' v (q.set i x):=by
 have fU:i<(q.map cq).length:=by simpa using hi
 have AD:∀r∈q.map cq,r.length=1:=λr hr=>by obtain⟨y,_,rfl⟩:=Zf2.1 hr;rfl
 obtain⟨b,o,cs,a1,a2,a3,a4,a5,_,a7,a8⟩:=QS.set (c:=c) (R:=AV×St) h.own AD (by omega) fU;obtain⟨b',o',p⟩:=rdF h.own hi;have e:=a1 (λv s=>some (v,s)) .i64 s;rw[p.st c (λv s=>some (v,s)) .i64 s]at e;simp only[H0,Zb6,AV.ptr.injEq,Zn5]at e;obtain⟨rfl,rfl⟩:=e;have Le:=h.new b' a3;have bw:=h.aN.wf b' _ a4;have Qd:=h.tight b' a3;have fT:cs=(q.map cq).flatten:=by rw[a4]at Qd;injection Qd with e;injection e
 have es:(q.map cq).set i ((q.map cq)[i].set 0 (.int .i64 x))=(q.set i x).map cq:=by rw[Zq2,Zi2];rfl
 refine⟨b',o',cR s b' (.cells (aL cs (o'+0) [.int .i64 x]) 0),p,λK=> ?_,⟨h.wO,MF h.wO h.aN Le bw _,?_,h.new,λb2 l6=> ?_⟩⟩
 .have e0:(AV.int IntKind.i64 x).cells=[.int .i64 x]:=rfl;have:=jA c K s 1 b' (o'+0) (.int .i64 x) cs a4 (by rw[e0];rfl) (by omega) (by rw[e0];rfl);rw[e0]at this;simpa using this
 .rw[<-es];exact a7 0 _ _ (by decide) (je _ _ _)
 .have:b2=b':=(by rw[a3]at l6;exact(Zf4 l6).symm);subst this;rw[je,a8 0 _ (by decide) fT,es]
theorem Qe(ts:List aG):aO ts=(ts.map bh).sum:=rfl
theorem aj4 {N:Nat}(hc:bB c)(h:PS s0 sA Vs p)(ok:R4 p N)(hk:∀t∈p.ts,lF t=0)(xp:p.gs.length<=1000)(M:Mr sA s P q)(PZ:q.length=p.gs.length)(hqr:∀x∈q,-1<=x){w:List Nat}(cZ:∀x∈w,x<256)(ID:w.length<=1000000):
   ∃s',c 79 [.agg Vs,P,.str w] s=some (.int .i64 (ql (p.gs.map (·.name)) (p.ts.map (·.name)) (p.ts.map bh) q w).1,s')/\Mr sA s' P (ql (p.gs.map (·.name)) (p.ts.map (·.name)) (p.ts.map bh) q w).2:=by
 have G0:=M.aN;have U0:=G0.wf;have gA:=Grew.af U0 (.cells Vs 0);obtain⟨W,hW⟩:∃W,W=AV.slice (af s (.cells Vs 0)).next 0 (bF 32 [] w).length (some (bF 32 [] w).length) 1:=⟨_,rfl⟩
 have sp:=ahx hc (b:=32) (by omega) cZ ID (af s (.cells Vs 0));rw[<-hW]at sp;have gB:=gA.trans (Grew.af gA.wf (.cells (strs (bF 32 [] w)) 0));have gC:=gB.trans (Grew.af gB.wf (.cells [W] 0));have hp0:=(Grew.af gB.wf (.cells [W] 0)).get ((Grew.af gA.wf (.cells (strs (bF 32 [] w)) 0)).get (aC s (.cells Vs 0)));have Dk:=(Grew.af gB.wf (.cells [W] 0)).get (aC (af s (.cells Vs 0)) (.cells (strs (bF 32 [] w)) 0));have ht0:=aC (af (af s (.cells Vs 0)) (.cells (strs (bF 32 [] w)) 0)) (.cells [W] 0);obtain⟨s3,e3⟩:∃s3,s3=af (af (af s (.cells Vs 0)) (.cells (strs (bF 32 [] w)) 0)) (.cells [W] 0):=⟨_,rfl⟩
 rw[<-e3]at gC hp0 Dk ht0;obtain⟨tb,etb⟩:∃tb,tb=(af (af s (.cells Vs 0)) (.cells (strs (bF 32 [] w)) 0)).next:=⟨_,rfl⟩
 obtain⟨wb,ewb⟩:∃wb,wb=(af s (.cells Vs 0)).next:=⟨_,rfl⟩
 have Qf:∀(K:AV->St->Option (AV×St)),ai c (.store 1) [.ptr tb 0,W] (af (af (af s (.cells Vs 0)) (.cells (strs (bF 32 [] w)) 0)) (.cells [.av] 0)) K=K .undef s3:=λK=>by rw[etb,kj c K _ 1 W [.av] (by rw[hW];rfl) rfl (by rw[hW];rfl),e3];congr 2;rw[hW];rfl
 rw[<-etb]at ht0;rw[<-ewb]at Dk hW;have hgr:Grew sA s3:=G0.trans gC;have h3:=h.qc hgr;have M3:=M.grow gC;obtain⟨V1,V2,r1,r2,q1,q2,T,T2,q5⟩:=h3.rT;have Qg:∀(K:AV->St->Option (AV×St))(s:St),ai c (.lenB .l) [W] s K=K (.int .i64 ((bF 32 [] w).length:Int)) s:=λK s=>by rw[hW];exact rO c K s _ _ _ _ _
 have Qh:∀(K:AV->St->Option (AV×St)),ai c (.load none) [.ptr tb 0] s3 K=K W s3:=λK=>by simp[ht0,aF]
 have AY:∀(K:AV->St->Option (AV×St)),ai c (.alloc [.av]) [] (af (af s (.cells Vs 0)) (.cells (strs (bF 32 [] w)) 0)) K=K (.ptr tb 0) (af (af (af s (.cells Vs 0)) (.cells (strs (bF 32 [] w)) 0)) (.cells [.av] 0)):=λK=>by rw[aey,etb]
 have bad:∀e:Int,ql (p.gs.map (·.name)) (p.ts.map (·.name)) (p.ts.map bh) q w=(e,q)->MG c 1 (.agg Vs) P (.str w) s=some (.int .i64 e,s3)->
     ∃s',c 79 [.agg Vs,P,.str w] s=some (.int .i64 (ql (p.gs.map (·.name)) (p.ts.map (·.name)) (p.ts.map bh) q w).1,s')/\Mr sA s' P (ql (p.gs.map (·.name)) (p.ts.map (·.name)) (p.ts.map bh) q w).2:=λe he hr=>by
   refine⟨s,?_,by rw[he];exact M⟩;rw[P6 hc 1 (r:=(.int .i64 e,s3)) hr,ak (Plain.int _ _) gC.keeps,he]
 by_cases Xh:(bF 32 [] w).length=4;rotate_left
 . refine bad 3 ?_ ?_
   . unfold ql;split
     .  rename_i a g t n e;rw[e]at Xh;exact absurd rfl Xh
     .  rfl
   .have d1:decide (((bF 32 [] w).length:Int)=4)=false:=H3 (by omega);rw[j8];simp only[cP,show ∀l,AV.cells (.agg l)=l from λl=>rfl,aj,aK,sp,aJ,AY,Qf,Qh,Qg,dQ,d1,Ze7,l7,cr,nc,bk]
 obtain⟨a,g,t,n,hs⟩:∃a g t n,bF 32 [] w=[a,g,t,n]:=by
   match h:bF 32 [] w,Xh with
   |[a,g,t,n],_=>exact⟨a,g,t,n,rfl⟩
 rw[hs]at Dk;have hW4:W= .slice wb 0 4 (some 4) 1:=by rw[hW,hs];rfl
 have i0:∀(K:AV->St->Option (AV×St))(s:St),ai c (.idxA 1 none) [W,.int .i64 0] s K=K (.ptr wb 0) s:=λK s=>by rw[hW4];exact aP c K (λH n=>rfl) s
 have i1:∀(K:AV->St->Option (AV×St))(s:St),ai c (.idxA 1 none) [W,.int .i64 1] s K=K (.ptr wb 1) s:=λK s=>by rw[hW4];exact aP c K (λH n=>rfl) s
 have i2:∀(K:AV->St->Option (AV×St))(s:St),ai c (.idxA 1 none) [W,.int .i64 2] s K=K (.ptr wb 2) s:=λK s=>by rw[hW4];exact aP c K (λH n=>rfl) s
 have i3:∀(K:AV->St->Option (AV×St))(s:St),ai c (.idxA 1 none) [W,.int .i64 3] s K=K (.ptr wb 3) s:=λK s=>by rw[hW4];exact aP c K (λH n=>rfl) s
 have NK:∀(K:AV->Option (AV×St)),dI (.idxA 1 none) [W,.int .i64 2] K=K (.ptr wb 2):=λK=>by rw[hW4];exact cM K (λH n=>rfl)
 have l0:∀(K:AV->St->Option (AV×St)),ai c (.load none) [.ptr wb 0] s3 K=K (.str a) s3:=λK=>by rw[dS,Dk];rfl
 have l1:∀(K:AV->St->Option (AV×St)),ai c (.load none) [.ptr wb 1] s3 K=K (.str g) s3:=λK=>by rw[dS,Dk];rfl
 have l2:∀(K:AV->St->Option (AV×St)),ai c (.load none) [.ptr wb 2] s3 K=K (.str t) s3:=λK=>by rw[dS,Dk];rfl
 have l3:∀(K:AV->St->Option (AV×St)),ai c (.load none) [.ptr wb 3] s3 K=K (.str n) s3:=λK=>by rw[dS,Dk];rfl
 have NL:∀(K:AV->Option (AV×St)),fP (.load none) [.ptr wb 2] s3.heap (λ_=>true) K=K (.str t):=λK=>by rw[oN,Dk];rfl
 have aaW:∀(K:AV->Option (AV×St)),fP (.load none) [.ptr tb 0] s3.heap (λ_=>true) K=K W:=λK=>by rw[oN,ht0];rfl
 have f1:∀(K:AV->St->Option (AV×St)),ai c (.load none) [.ptr s.next (0+1)] s3 K=K V2 s3:=λK=>by rw[dS,hp0];show oZ (Vs[1]?) _=_;rw[q2];rfl
 have f0:∀(K:AV->St->Option (AV×St)),ai c (.load none) [.ptr s.next (0+0)] s3 K=K V1 s3:=λK=>by rw[dS,hp0];show oZ (Vs[0]?) _=_;rw[q1];rfl
 have f0p:∀(K:AV->Option (AV×St)),fP (.load none) [.ptr s.next (0+0)] s3.heap (λ_=>true) K=K V1:=λK=>by rw[oN,hp0];show oZ (Vs[0]?) _=_;rw[q1];rfl
 have AK  : ∀u∈[a,g,t,n],∀x∈u,x<256:=by
   have key:∀(l acc:List Nat),(∀x∈l,x<256)->(∀x∈acc,x<256)->∀u∈bF 32 acc l,∀x∈u,x<256:=by
     intro l;induction l with
     |nil=>intro acc _ ha u hu;simp[bF]at hu;subst hu;exact ha
     |  cons y l ih=>
        intro acc hl ha u hu;rw[bF]at hu;split at hu
        . rcases Za7.1 hu with rfl|hu
          .exact ha
          .exact ih [] (λx hx=>hl x (Za0 _ hx)) (λx hx=>by cases hx) u hu
        . exact ih (acc++[y]) (λx hx=>hl x (Za0 _ hx)) (λx hx=>by
            rcases Zd5.1 hx with h|h
            .exact ha x h
            .rw[Zc9.1 h];exact hl y (by simp)) u hu
   rw[<-hs];exact key w [] cZ (λx hx=>by cases hx)
 have nm:=adH hc (w:=n) (AK n (by simp)) s3;have ig:=afn hc T2 (u:= .ptr tb 0) (w:=g) (λi x v _=>ajb hc (n:=2) h3.aN.wf (by rw[ht0,hW4]) Dk (x:=g) rfl x v) xp;have fd:=ahC hc h3 ok.Nz.ok (ok.Nz.ts) ok.tabs q1 t;have d4:decide (((bF 32 [] w).length:Int)=4)=true:=H2 (by omega);have ep:ql (p.gs.map (·.name)) (p.ts.map (·.name)) (p.ts.map bh) q w=if a≠[115,101,97,116]\/g=[]\/t=[]then((3:Int),q)else match num n with
   |none=>(3,q)
   | some k=>match iR (p.gs.map (·.name)) g with
     |none=>(6,q)
     |  some i=>match iR (p.ts.map (·.name)) t with
        |none=>(6,q)
        |some j=>if(p.ts.map bh).getD j 0<=(k:Int)then(50,q)else if 0<=q.getD i (-1)then(5,q)else if((p.ts.map bh).take j).sum+k∈q then(51,q)else(0,q.set i (((p.ts.map bh).take j).sum+k)):=by
   unfold ql;rw[hs];rfl
 by_cases ha:a=[115,101,97,116]
 rotate_left
 .refine bad 3 (by rw[ep,Za4 (.inl ha)]) ?_;have da:decide (a=[115,101,97,116])=false:=H3 ha;rw[j8];simp only[cP,show ∀l,AV.cells (.agg l)=l from λl=>rfl,aj,aK,sp,aJ,AY,Qf,Qh,Qg,dQ,d4,Zb9,bN,i0,l0,eN,da,Ze7,aZ,l7,cr,nc,bk]
 have da:decide (a=[115,101,97,116])=true:=H2 ha;by_cases HX:g=[]
 .refine bad 3 (by rw[ep,Za4 (.inr (.inl HX))]) ?_;have dg:decide (g=[])=true:=H2 HX;rw[j8];simp only[cP,show ∀l,AV.cells (.agg l)=l from λl=>rfl,aj,aK,sp,aJ,AY,Qf,Qh,Qg,dQ,d4,Zb9,bN,i0,l0,eN,da,aZ,i1,l1,jZ,dg,l7,cr,nc,bk]
 have dg:decide (g=[])=false:=H3 HX;by_cases adK:t=[]
 .refine bad 3 (by rw[ep,Za4 (.inr (.inr adK))]) ?_;have dt:decide (t=[])=true:=H2 adK;rw[j8];simp only[cP,show ∀l,AV.cells (.agg l)=l from λl=>rfl,aj,aK,sp,aJ,AY,Qf,Qh,Qg,dQ,d4,Zb9,bN,i0,l0,eN,da,aZ,i1,l1,jZ,dg,i2,l2,dt,bk]
 have dt:decide (t=[])=false:=H3 adK;rw[Za2 (by rintro(h|h|h);exact h ha;exact HX h;exact adK h)]at ep;unfold mz at nm;cases Jg:num n with
 | none=>
   rw[Jg]at ep nm;refine bad 3 ep ?_;rw[j8];simp only[cP,show ∀l,AV.cells (.agg l)=l from λl=>rfl,aj,aK,sp,aJ,AY,Qf,Qh,Qg,dQ,d4,Zb9,bN,i0,l0,eN,da,aZ,i1,l1,jZ,dg,i2,l2,dt,bG,i3,l3,nm,bE,Za5,Za6,bP,eC,Ze7,bk]
 |some k=>
 rw[Jg]at ep nm;have hk9:=afl Jg;cases Qi:iR (p.gs.map (·.name)) g with
 | none=>
   rw[Qi]at ep ig;refine bad 6 ep ?_;rw[j8];simp only[cP,show ∀l,AV.cells (.agg l)=l from λl=>rfl,aj,aK,sp,aJ,AY,Qf,Qh,Qg,dQ,d4,Zb9,bN,i0,l0,eN,da,aZ,i1,l1,jZ,dg,i2,l2,dt,bG,i3,l3,nm,bE,Za5,Za6,bP,eC,Zb9,cO,f1,tT,ig,aU,show decide ((-1:Int)<0)=true from rfl,bk]
 |some i=>
 rw[Qi]at ep ig;have fU:i<p.gs.length:=by unfold iR at Qi;rw[Zj0]at Qi;obtain⟨h1,_⟩:=Qi;simpa using h1
 have di:decide ((i:Int)<0)=false:=H3 (by omega);unfold UZ at fd;cases Qj:iR (p.ts.map (·.name)) t with
 | none=>
   rw[Qj]at ep fd;refine bad 6 ep ?_;rw[j8];simp only[cP,show ∀l,AV.cells (.agg l)=l from λl=>rfl,aj,aK,sp,aJ,AY,Qf,Qh,Qg,dQ,d4,Zb9,bN,i0,l0,eN,da,aZ,i1,l1,jZ,dg,i2,l2,dt,bG,i3,l3,nm,bE,Za5,Za6,bP,eC,cO,f1,tT,ig,aU,di,lC,f0p,aaW,NK,NL,fd,gJ,tR,Ze7,bk]
 |some j=>
 rw[Qj]at ep fd;have Tz:j<p.ts.length:=by unfold iR at Qj;rw[Zj0]at Qj;obtain⟨h1,_⟩:=Qj;simpa using h1
 obtain⟨tt,dc⟩:∃tt,p.ts[j]? =some tt:=⟨_,H1 Tz⟩
 have IQ:=Zc5 dc;have hjr:j<r1.length:=by rw[T.len];exact Tz
 obtain⟨v,ev,hM,_⟩:=T.yc j tt _ dc (H1 hjr);obtain⟨ub,uo,ru⟩:=T.out.own.rd T.out.row (H1 hjr);rw[ev]at ru;have u1:=λ{R}=>@ru.st R
 have u2:∀(K:AV->St->Option (AV×St)),ai c (.load (some 7)) [.ptr ub uo] s3 K=K (.agg (tt.ay v)) s3:=λK=>by simp[ru.all]
 have se:=afo hc h3.aN.wf hM (ok.Nz.ok _ IQ) (hk _ IQ);have fs:=ae9 hc h3 ok.Nz.ok ok.tabs q1 Tz;have esz:(p.ts.map bh).getD j 0=bh tt:=by rw[Zc1,Zb5,dc];rfl
 have est:((p.ts.map bh).take j).sum=aO (p.ts.take j):=by rw[<-Zk8];rfl
 dsimp only at ep;rw[esz,est]at ep;have hs0:0<=aO (p.ts.take j):=(pz _).1;have J3:aO (p.ts.take j)<=100000:=by
   have h1:=ok.sum;have h2:=ok.le;have h3:aO p.ts=aO (p.ts.take j)+aO (p.ts.drop j):=by
     rw[Qe,Qe,Qe, <-List.sum_append, <-Zg3,Zk2]
   have h4:=(pz (p.ts.drop j)).1;omega
 have wk:Unit->au .i64 (aO (p.ts.take j)+(k:Int))=aO (p.ts.take j)+(k:Int):=λ_=>wrap64 (by omega) (by omega)
 by_cases ew:bh tt<=(k:Int)
 .rw[Za4 ew]at ep;have dz:decide (bh tt<=(k:Int))=true:=H2 ew;refine bad 50 ep ?_;rw[j8];simp only[cP,show ∀l,AV.cells (.agg l)=l from λl=>rfl,aj,aK,sp,aJ,AY,Qf,Qh,Qg,dQ,d4,Zb9,bN,i0,l0,eN,da,aZ,i1,l1,jZ,dg,i2,l2,dt,bG,i3,l3,nm,bE,Za5,Za6,bP,eC,cO,f1,tT,ig,aU,di,lC,f0p,aaW,NK,NL,fd,gJ,tR,Zb9,f0,fs,dR,wk (),u1,u2,se,oa,dz,bk]
 rw[Za2 ew]at ep;have dz:decide (bh tt<=(k:Int))=false:=H3 ew;obtain⟨bb,bo,s4,r4,w4,M4⟩:=Mr.Sg (c:=c) M3 (i:=i) (by omega) (aO (p.ts.take j)+(k:Int));have y1:=λ{R}=>@r4.st R
 have y2:∀(K:AV->St->Option (AV×St)),ai c (.load none) [.ptr bb bo] s3 K=K (.int .i64 (fn q i)) s3:=λK=>by have:=r4.at' 0 _ rfl;rw[Zf8]at this;rw[dS,this];rfl
 by_cases U1:0<=q.getD i (-1)
 .rw[Za4 U1]at ep;have dw:decide (0<=fn q i)=true:=H2 U1;refine bad 5 ep ?_;rw[j8];simp only[cP,show ∀l,AV.cells (.agg l)=l from λl=>rfl,aj,aK,sp,aJ,AY,Qf,Qh,Qg,dQ,d4,Zb9,bN,i0,l0,eN,da,aZ,i1,l1,jZ,dg,i2,l2,dt,bG,i3,l3,nm,bE,Za5,Za6,bP,eC,cO,f1,tT,ig,aU,di,lC,f0p,aaW,NK,NL,fd,gJ,tR,Zb9,f0,fs,dR,wk (),u1,u2,se,oa,dz,y1,y2,dw,bk]
 rw[Za2 U1]at ep;have dw:decide (0<=fn q i)=false:=H3 U1;have cn:=Yh hc M3.own (by omega) (aO (p.ts.take j)+(k:Int));by_cases pX:aO (p.ts.take j)+(k:Int)∈q
 .rw[Za4 pX]at ep;have dk:q.contains (aO (p.ts.take j)+(k:Int))=true:=(by rw[Zl9];exact pX);rw[dk]at cn;refine bad 51 ep ?_;rw[j8];simp only[cP,show ∀l,AV.cells (.agg l)=l from λl=>rfl,aj,aK,sp,aJ,AY,Qf,Qh,Qg,dQ,d4,Zb9,bN,i0,l0,eN,da,aZ,i1,l1,jZ,dg,i2,l2,dt,bG,i3,l3,nm,bE,Za5,Za6,bP,eC,cO,f1,tT,ig,aU,di,lC,f0p,aaW,NK,NL,fd,gJ,tR,Zb9,f0,fs,dR,wk (),u1,u2,se,oa,dz,y1,y2,dw,cn,bk]
 rw[Za2 pX]at ep;have dk:q.contains (aO (p.ts.take j)+(k:Int))=false:=by rw[<-Bool.not_eq_true,Zl9];exact pX
 rw[dk]at cn;rw[ep];have hnk:¬aM s s4:=by
   obtain⟨b5,o5,r5⟩:=rdF M.own (i:=i) (by omega);obtain⟨b6,o6,r6⟩:=rdF M4.own (i:=i) (by rw[Zq5];omega);have e5:∀(K:AV->St->Option (AV×St)),K (.ptr b5 o5) s=K (.ptr bb bo) s:=λK=>by rw[<-r5.st c K .i64 s, <-r4.st c K .i64 s]
   have e6:∀(K:AV->St->Option (AV×St)),K (.ptr b6 o6) s=K (.ptr bb bo) s:=λK=>by rw[<-r6.st c K .i64 s, <-r4.st c K .i64 s]
   have e5':=e5 λv s=>some (v,s)
   have e6':=e6 λv s=>some (v,s)
   simp only[H0,Zb6,AV.ptr.injEq,Zn5]at e5' e6';obtain⟨rfl,rfl⟩:=e5';obtain⟨rfl,rfl⟩:=e6';refine adJ (r5.at' 0 _ rfl) (r6.at' 0 _ rfl) ?_;have hfi:fn (q.set i (aO (p.ts.take j)+(k:Int))) i=aO (p.ts.take j)+(k:Int):=(by unfold fn;rw[Zc1,List.getElem?_set_self (by omega)];rfl);rw[hfi];intro e;(injection e with _ e);unfold fn at e;omega
 refine⟨s4,?_,M4⟩;rw[P6 hc 1 (r:=(.int .i64 0,s4)),ML hnk];rw[j8];simp only[cP,show ∀l,AV.cells (.agg l)=l from λl=>rfl,aj,aK,sp,aJ,AY,Qf,Qh,Qg,dQ,d4,Zb9,bN,i0,l0,eN,da,aZ,i1,l1,jZ,dg,i2,l2,dt,bG,i3,l3,nm,bE,Za5,Za6,bP,eC,cO,f1,tT,ig,aU,di,lC,f0p,aaW,NK,NL,fd,gJ,tR,Zb9,f0,fs,dR,wk (),u1,u2,se,oa,dz,y1,y2,dw,cn,w4]
end
end
section
open Go Go.Ai Go.Proofs
variable{c:ah}
theorem Yj(z:Bool)(l:List (Int))(hl:l.length<=mJ)(F:Nat)(k2){s0:St}:∀(m k:Nat)(s:St)(v:AV),Mk 1 s0 s v ((l.take k).map cq)->l.length<=k+m->k<=l.length->
  ∃s' v',Mk 1 s0 s' v' (l.map cq)/\ji c F k2 (m+1) [ints z l,v,.int .i64 (k:Int)] s=k2 [v'] s':=by
 have hl:l.length<=1048576:=hl;have lI:∀(K:AV->St->Option (AV×St))(s:St),ai c (.lenB .l) [ints z l] s K=K (.int .i64 (l.length:Int)) s:=λK s=>by unfold ints;rw[bW];simp
 intro m;induction m with
 |zero=>
  intro k s v hM h1 h2;obtain rfl:k=l.length:=by omega
  refine⟨s,v,by simpa using hM,?_⟩;rw[nu];simp[lI]
 |succ m ih=>
  intro k s v hM h1 h2;by_cases h:k<l.length
  .have w:au .i64 ((k:Int)+1)=((k+1:Nat):Int):=wrap64 (by omega) (by omega);have hlen:((l.take k).map cq).length=k:=(by simp;omega);obtain⟨s5,v5,a1,a2,a3,_⟩:=hM.push (c:=c) (R:=AV×St) (bytes:=8) (z:=[.int .i64 0]) (x:= .int .i64 l[k]) rfl rfl rfl (by decide) (by rw[hlen];omega) (by rw[hlen];omega);have e:(l.take (k+1)).map cq=(l.take k).map cq++[(.int .i64 l[k]:AV).cells]:=(by rw[Zc2 h,Zg3];rfl);rw[<-e]at a2;obtain⟨s',v',b1,b2⟩:=ih (k+1) s5 v5 a2 (by omega) (by omega);refine⟨s',v',b1,?_⟩;rw[<-b2,nu];simp[-eo,lI,ints,h,w,a1]
  .obtain rfl:k=l.length:=(by omega);refine⟨s,v,by simpa using hM,?_⟩;rw[nu];simp[lI]
theorem R5(hc:Sem c)(z:Bool)(l:List (Int))(hl:l.length<=mJ)(s:St)(hw:Wf s):∃v s',c 103 [ints z l] s=some (v,s')/\Mk 1 s s' v (l.map cq):=by
 obtain⟨s',v,hM,L⟩:=Yj (c:=c) z l hl (l.length+1) (λvs uF=>eV vs λx3 vs=>gP vs (ai c .move [x3] uF λKp Ks=>ai c .move [Kp] Ks λx2 Kt=>some (x2,Kt))) (s0:=s) l.length 0 s .av (Mk.start hw (Grew.refl hw)) (by omega) (by omega);obtain⟨eY,t1,t2⟩:=hM.tidy;refine⟨v,eY,?_,t2⟩;rw[Hr hc (l.length+1) (r:=(v,s')),t1];rw[Kw];simp at L;simp[L]
theorem Wi(z:Bool)(l:List (List Nat))(hl:l.length<=mJ)(F:Nat)(k2){s0:St}:∀(m k:Nat)(s:St)(v:AV),Mk 1 s0 s v ((l.take k).map iT)->l.length<=k+m->k<=l.length->
  ∃s' v',Mk 1 s0 s' v' (l.map iT)/\iK c F k2 (m+1) [fu z l,v,.int .i64 (k:Int)] s=k2 [v'] s':=by
 have hl:l.length<=1048576:=hl;have lI:∀(K:AV->St->Option (AV×St))(s:St),ai c (.lenB .l) [fu z l] s K=K (.int .i64 (l.length:Int)) s:=λK s=>by unfold fu;rw[bW];simp
 intro m;induction m with
 |zero=>
  intro k s v hM h1 h2;obtain rfl:k=l.length:=by omega
  refine⟨s,v,by simpa using hM,?_⟩;rw[mh];simp[lI]
 |succ m ih=>
  intro k s v hM h1 h2;by_cases h:k<l.length
  .have w:au .i64 ((k:Int)+1)=((k+1:Nat):Int):=wrap64 (by omega) (by omega);have hlen:((l.take k).map iT).length=k:=(by simp;omega);obtain⟨s5,v5,a1,a2,a3,_⟩:=hM.push (c:=c) (R:=AV×St) (bytes:=16) (z:=[.str []]) (x:= .str l[k]) rfl rfl rfl (by decide) (by rw[hlen];omega) (by rw[hlen];omega);have e:(l.take (k+1)).map iT=(l.take k).map iT++[(.str l[k]:AV).cells]:=(by rw[Zc2 h,Zg3];rfl);rw[<-e]at a2;obtain⟨s',v',b1,b2⟩:=ih (k+1) s5 v5 a2 (by omega) (by omega);refine⟨s',v',b1,?_⟩;rw[<-b2,mh];simp[-eo,lI,fu,h,w,a1]
  .obtain rfl:k=l.length:=(by omega);refine⟨s,v,by simpa using hM,?_⟩;rw[mh];simp[lI]
theorem aaX(hc:Sem c)(z:Bool)(l:List (List Nat))(hl:l.length<=mJ)(s:St)(hw:Wf s):∃v s',c 231 [fu z l] s=some (v,s')/\Mk 1 s s' v (l.map iT):=by
 obtain⟨s',v,hM,L⟩:=Wi (c:=c) z l hl (l.length+1) (λvs uF=>eV vs λx3 vs=>gP vs (ai c .move [x3] uF λKp Ks=>ai c .move [Kp] Ks λx2 Kt=>some (x2,Kt))) (s0:=s) l.length 0 s .av (Mk.start hw (Grew.refl hw)) (by omega) (by omega);obtain⟨eY,t1,t2⟩:=hM.tidy;refine⟨v,eY,?_,t2⟩;rw[GH hc (l.length+1) (r:=(v,s')),t1];rw[Jn];simp at L;simp[L]
theorem Yk(z:Bool)(l:List (Ty))(hl:l.length<=mJ)(F:Nat)(k2){s0:St}:∀(m k:Nat)(s:St)(v:AV),Mk 3 s0 s v ((l.take k).map Ty.cells)->l.length<=k+m->k<=l.length->
  ∃s' v',Mk 3 s0 s' v' (l.map Ty.cells)/\jg c F k2 (m+1) [cT z l,v,.int .i64 (k:Int)] s=k2 [v'] s':=by
 have hl:l.length<=1048576:=hl;have lI:∀(K:AV->St->Option (AV×St))(s:St),ai c (.lenB .l) [cT z l] s K=K (.int .i64 (l.length:Int)) s:=λK s=>by unfold cT;rw[bW];simp
 intro m;induction m with
 |zero=>
  intro k s v hM h1 h2;obtain rfl:k=l.length:=by omega
  refine⟨s,v,by simpa using hM,?_⟩;rw[nr];simp[lI]
 |succ m ih=>
  intro k s v hM h1 h2;by_cases h:k<l.length
  .have w:au .i64 ((k:Int)+1)=((k+1:Nat):Int):=wrap64 (by omega) (by omega);have hlen:((l.take k).map Ty.cells).length=k:=(by simp;omega);obtain⟨s5,v5,a1,a2,a3,_⟩:=hM.push (c:=c) (R:=AV×St) (bytes:=40) (z:=[.str [],.str [],.int .u8 0]) (x:= .agg l[k].cells) rfl rfl (by simp) (by decide) (by rw[hlen];omega) (by rw[hlen];omega);have e:(l.take (k+1)).map Ty.cells=(l.take k).map Ty.cells++[(.agg l[k].cells:AV).cells]:=(by rw[Zc2 h,Zg3];rfl);rw[<-e]at a2;obtain⟨s',v',b1,b2⟩:=ih (k+1) s5 v5 a2 (by omega) (by omega);refine⟨s',v',b1,?_⟩;rw[<-b2,nr];simp[-eo,lI,cT,h,w,a1,Ty.len]
  .obtain rfl:k=l.length:=(by omega);refine⟨s,v,by simpa using hM,?_⟩;rw[nr];simp[lI]
theorem aby(hc:Sem c)(z:Bool)(l:List (Ty))(hl:l.length<=mJ)(s:St)(hw:Wf s):∃v s',c 102 [cT z l] s=some (v,s')/\Mk 3 s s' v (l.map Ty.cells):=by
 obtain⟨s',v,hM,L⟩:=Yk (c:=c) z l hl (l.length+1) (λvs uF=>eV vs λx3 vs=>gP vs (ai c .move [x3] uF λKp Ks=>ai c .move [Kp] Ks λx2 Kt=>some (x2,Kt))) (s0:=s) l.length 0 s .av (Mk.start hw (Grew.refl hw)) (by omega) (by omega);obtain⟨eY,t1,t2⟩:=hM.tidy;refine⟨v,eY,?_,t2⟩;rw[Hq hc (l.length+1) (r:=(v,s')),t1];rw[Kv];simp at L;simp[L]
theorem Wj(z:Bool)(l:List (Rl))(hl:l.length<=mJ)(F:Nat)(k2){s0:St}:∀(m k:Nat)(s:St)(v:AV),Mk 6 s0 s v ((l.take k).map Rl.cells)->l.length<=k+m->k<=l.length->
  ∃s' v',Mk 6 s0 s' v' (l.map Rl.cells)/\iI c F k2 (m+1) [jD z l,v,.int .i64 (k:Int)] s=k2 [v'] s':=by
 have hl:l.length<=1048576:=hl;have lI:∀(K:AV->St->Option (AV×St))(s:St),ai c (.lenB .l) [jD z l] s K=K (.int .i64 (l.length:Int)) s:=λK s=>by unfold jD;rw[bW];simp
 intro m;induction m with
 |zero=>
  intro k s v hM h1 h2;obtain rfl:k=l.length:=by omega
  refine⟨s,v,by simpa using hM,?_⟩;rw[mg];simp[lI]
 |succ m ih=>
  intro k s v hM h1 h2;by_cases h:k<l.length
  .have w:au .i64 ((k:Int)+1)=((k+1:Nat):Int):=wrap64 (by omega) (by omega);have hlen:((l.take k).map Rl.cells).length=k:=(by simp;omega);obtain⟨s5,v5,a1,a2,a3,_⟩:=hM.push (c:=c) (R:=AV×St) (bytes:=72) (z:=[.int .u8 0,.int .i64 0,.str [],.str [],.str [],.int .i64 0]) (x:= .agg l[k].cells) rfl rfl (by simp) (by decide) (by rw[hlen];omega) (by rw[hlen];omega);have e:(l.take (k+1)).map Rl.cells=(l.take k).map Rl.cells++[(.agg l[k].cells:AV).cells]:=(by rw[Zc2 h,Zg3];rfl);rw[<-e]at a2;obtain⟨s',v',b1,b2⟩:=ih (k+1) s5 v5 a2 (by omega) (by omega);refine⟨s',v',b1,?_⟩;rw[<-b2,mg];simp[-eo,lI,jD,h,w,a1]
  .obtain rfl:k=l.length:=(by omega);refine⟨s,v,by simpa using hM,?_⟩;rw[mg];simp[lI]
theorem aaY(hc:Sem c)(z:Bool)(l:List (Rl))(hl:l.length<=mJ)(s:St)(hw:Wf s):∃v s',c 104 [jD z l] s=some (v,s')/\Mk 6 s s' v (l.map Rl.cells):=by
 obtain⟨s',v,hM,L⟩:=Wj (c:=c) z l hl (l.length+1) (λvs uF=>eV vs λx3 vs=>gP vs (ai c .move [x3] uF λKp Ks=>ai c .move [Kp] Ks λx2 Kt=>some (x2,Kt))) (s0:=s) l.length 0 s .av (Mk.start hw (Grew.refl hw)) (by omega) (by omega);obtain⟨eY,t1,t2⟩:=hM.tidy;refine⟨v,eY,?_,t2⟩;rw[Gy hc (l.length+1) (r:=(v,s')),t1];rw[Jh];simp at L;simp[L]
theorem aaZ(hc:Sem c)(t:aG)(ht:t.Real)(s:St)(hw:Wf s):∃v s',c 166 [.agg t.cells] s=some (.agg (t.ay v),s')/\Mk 1 s s' v (t.cY.map cq):=by
 have cw:Wf (af s (.cells t.cells 0)):=bM hw;have g1:=Grew.af hw (.cells t.cells 0);have cZ:Wf (af (af s (.cells t.cells 0)) (.cells [.str [],.int .u8 0,.int .i64 0,.int .i64 0,.av,.int .i64 0,.int .i64 0] 0)):=bM cw;have g2:=Grew.af cw (.cells [.str [],.int .u8 0,.int .i64 0,.int .i64 0,.av,.int .i64 0,.int .i64 0] 0);have x1:(af (af s (.cells t.cells 0)) (.cells [.str [],.int .u8 0,.int .i64 0,.int .i64 0,.av,.int .i64 0,.int .i64 0] 0)).heap.get s.next=some (.cells t.cells 0):=g2.get (aC _ _);have x2:=aC (af s (.cells t.cells 0)) (.cells [.str [],.int .u8 0,.int .i64 0,.int .i64 0,.av,.int .i64 0,.int .i64 0] 0);have n12:s.next≠(af s (.cells t.cells 0)).next:=by rw[dX];exact Pos.Vp _
 have gP:s.next.toNat<(af s (.cells t.cells 0)).next.toNat:=by rw[dX,Pos.aB];omega
 have nl2:(af s (.cells t.cells 0)).next.toNat<(af (af s (.cells t.cells 0)) (.cells [.str [],.int .u8 0,.int .i64 0,.int .i64 0,.av,.int .i64 0,.int .i64 0] 0)).next.toNat:=by rw[dX (af s (.cells t.cells 0)),Pos.aB];omega
 have gg:=g1.trans g2;have c4:t.cells[4]? =some (ints t.oz t.cY):=rfl;generalize Dg:af (af s (.cells t.cells 0)) (.cells [.str [],.int .u8 0,.int .i64 0,.int .i64 0,.av,.int .i64 0,.int .i64 0] 0)=s2 at cZ g2 x1 x2 nl2 gg;generalize C8:(af s (.cells t.cells 0)).next=p2 at x2 n12 gP nl2;obtain⟨v,s3,C,M⟩:=R5 hc t.oz t.cY ht.cY s2 cZ;obtain⟨vc,v1⟩:=M.cells;have y1:=M.aN.get x1;have y2:=M.aN.get x2;have nD:∀b,dY v=some b->s2.next.toNat<=b.toNat:=M.new;have aW:∀(K:AV->St->Option (AV×St)),ai c (.store 1) [.ptr s.next 4,v] s3 K=K .undef (cR s3 s.next (.cells (t.ay v) 0)):=λK=>by rw[jA c K s3 1 s.next 4 v t.cells y1 (by rw[vc];rfl) (by rw[aG.len];omega) (by rw[vc];exact v1),vc];rfl
 have nx3:=M.aN.next;have M1:Mk 1 s s3 v (t.cY.map cq):=M.back hw gg;have M2:=M1.store (p:=s.next) (b:= .cells (t.ay v) 0) (Za3 _) (by omega) (λe=>by have:=nD _ e;omega);have z1:(cR s3 s.next (.cells (t.ay v) 0)).heap.get s.next=some (.cells (t.ay v) 0):=je _ _ _;have z2:(cR s3 s.next (.cells (t.ay v) 0)).heap.get p2=some (.cells [.str [],.int .u8 0,.int .i64 0,.int .i64 0,.av,.int .i64 0,.int .i64 0] 0):=by rw[cu n12];exact y2
 have nz:(cR s3 s.next (.cells (t.ay v) 0)).next=s3.next:=rfl;generalize hs4:cR s3 s.next (.cells (t.ay v) 0)=s4 at aW M2 z1 z2 nz;have one:bg (t.ay v)=true:=by
  simp only[bg]at v1;unfold aG.ay;simp only[bg,AV.one,v1,Zk0,Zk9]at*
 have hcut:cut (t.ay v) 0 7=some (t.ay v):=bJ rfl;have kY:∀(K:AV->St->Option (AV×St)),ai c (.store 7) [.ptr p2 0,.agg (t.ay v)] s4 K=K .undef (cR s4 p2 (.cells (t.ay v) 0)):=λK=>by rw[jA c K s4 7 p2 0 (.agg (t.ay v)) _ z2 rfl (by simp) one];rfl
 have M3:=M2.store (p:=p2) (b:= .cells (t.ay v) 0) (by omega) (by rw[nz];omega) (λe=>by have:=nD _ e;omega);have mem:v∈t.ay v:=by simp[aG.ay]
 obtain⟨eY,t1,_,t3⟩:=M3.SA mem (λu hu=>by simp only[aG.ay,Za7,Zd0,Zh3]at hu;rcases hu with rfl|rfl|rfl|rfl|rfl|rfl|rfl<;>first|exact gu.str ht.name|exact gu.int _ _|exact M.inst);refine⟨v,eY,?_,t3⟩;rw[GC hc 1 (r:=(.agg (t.ay v),cR s4 p2 (.cells (t.ay v) 0))),t1];rw[Jj];simp[Dg,C8,x1,c4,C,aW,z1,hcut,kY]
theorem aa0(hc:Sem c)(t:aQ)(ht:t.Real)(s:St)(hw:Wf s):∃v s',c 167 [.agg t.cells] s=some (.agg (t.ay v),s')/\Mk 1 s s' v (t.tg.map iT):=by
 have cw:Wf (af s (.cells t.cells 0)):=bM hw;have g1:=Grew.af hw (.cells t.cells 0);have cZ:Wf (af (af s (.cells t.cells 0)) (.cells [.str [],.str [],.str [],.int .i64 0,.int .i64 0,.str [],.bool false,.bool false,.av] 0)):=bM cw;have g2:=Grew.af cw (.cells [.str [],.str [],.str [],.int .i64 0,.int .i64 0,.str [],.bool false,.bool false,.av] 0);have x1:(af (af s (.cells t.cells 0)) (.cells [.str [],.str [],.str [],.int .i64 0,.int .i64 0,.str [],.bool false,.bool false,.av] 0)).heap.get s.next=some (.cells t.cells 0):=g2.get (aC _ _);have x2:=aC (af s (.cells t.cells 0)) (.cells [.str [],.str [],.str [],.int .i64 0,.int .i64 0,.str [],.bool false,.bool false,.av] 0);have n12:s.next≠(af s (.cells t.cells 0)).next:=by rw[dX];exact Pos.Vp _
 have gP:s.next.toNat<(af s (.cells t.cells 0)).next.toNat:=by rw[dX,Pos.aB];omega
 have nl2:(af s (.cells t.cells 0)).next.toNat<(af (af s (.cells t.cells 0)) (.cells [.str [],.str [],.str [],.int .i64 0,.int .i64 0,.str [],.bool false,.bool false,.av] 0)).next.toNat:=by rw[dX (af s (.cells t.cells 0)),Pos.aB];omega
 have gg:=g1.trans g2;have c4:t.cells[8]? =some (fu t.tz t.tg):=rfl;generalize Dg:af (af s (.cells t.cells 0)) (.cells [.str [],.str [],.str [],.int .i64 0,.int .i64 0,.str [],.bool false,.bool false,.av] 0)=s2 at cZ g2 x1 x2 nl2 gg;generalize C8:(af s (.cells t.cells 0)).next=p2 at x2 n12 gP nl2;obtain⟨v,s3,C,M⟩:=aaX hc t.tz t.tg ht.tg s2 cZ;obtain⟨vc,v1⟩:=M.cells;have y1:=M.aN.get x1;have y2:=M.aN.get x2;have nD:∀b,dY v=some b->s2.next.toNat<=b.toNat:=M.new;have aW:∀(K:AV->St->Option (AV×St)),ai c (.store 1) [.ptr s.next 8,v] s3 K=K .undef (cR s3 s.next (.cells (t.ay v) 0)):=λK=>by rw[jA c K s3 1 s.next 8 v t.cells y1 (by rw[vc];rfl) (by rw[aQ.len];omega) (by rw[vc];exact v1),vc];rfl
 have nx3:=M.aN.next;have M1:Mk 1 s s3 v (t.tg.map iT):=M.back hw gg;have M2:=M1.store (p:=s.next) (b:= .cells (t.ay v) 0) (Za3 _) (by omega) (λe=>by have:=nD _ e;omega);have z1:(cR s3 s.next (.cells (t.ay v) 0)).heap.get s.next=some (.cells (t.ay v) 0):=je _ _ _;have z2:(cR s3 s.next (.cells (t.ay v) 0)).heap.get p2=some (.cells [.str [],.str [],.str [],.int .i64 0,.int .i64 0,.str [],.bool false,.bool false,.av] 0):=by rw[cu n12];exact y2
 have nz:(cR s3 s.next (.cells (t.ay v) 0)).next=s3.next:=rfl;generalize hs4:cR s3 s.next (.cells (t.ay v) 0)=s4 at aW M2 z1 z2 nz;have one:bg (t.ay v)=true:=by
  simp only[bg]at v1;unfold aQ.ay;simp only[bg,AV.one,v1,Zk0,Zk9]at*
 have hcut:cut (t.ay v) 0 9=some (t.ay v):=bJ rfl;have kY:∀(K:AV->St->Option (AV×St)),ai c (.store 9) [.ptr p2 0,.agg (t.ay v)] s4 K=K .undef (cR s4 p2 (.cells (t.ay v) 0)):=λK=>by rw[jA c K s4 9 p2 0 (.agg (t.ay v)) _ z2 rfl (by simp) one];rfl
 have M3:=M2.store (p:=p2) (b:= .cells (t.ay v) 0) (by omega) (by rw[nz];omega) (λe=>by have:=nD _ e;omega);have mem:v∈t.ay v:=by simp[aQ.ay]
 obtain⟨eY,t1,_,t3⟩:=M3.SA mem (λu hu=>by simp only[aQ.ay,Za7,Zd0,Zh3]at hu;rcases hu with rfl|rfl|rfl|rfl|rfl|rfl|rfl|rfl|rfl<;>first|exact gu.str ht.name|exact gu.str ht.nL|exact gu.str ht.kE|exact gu.str ht.nM|exact gu.int _ _|exact gu.bool _|exact M.inst);refine⟨v,eY,?_,t3⟩;rw[GD hc 1 (r:=(.agg (t.ay v),cR s4 p2 (.cells (t.ay v) 0))),t1];rw[Jk];simp[Dg,C8,x1,c4,C,aW,z1,hcut,kY]
theorem U2(hc:Sem c)(z:Bool)(ts:List aG)(hl:ts.length<=1000)(hr:∀t∈ts,t.Real)(F:Nat)(k2){s0:St}:∀(m k f:Nat)(s:St)(V:AV)(rows:List (List AV)),m<f->k+m=ts.length->TS s0 s V (ts.take k) rows->
  ∃s' V' MO,TS s0 s' V' ts MO/\iy c F k2 f [tabs z ts,V,.int .i64 (k:Int)] s=k2 [V'] s':=by
 have lI:∀(K:AV->St->Option (AV×St))(s:St),ai c (.lenB .l) [tabs z ts] s K=K (.int .i64 (ts.length:Int)) s:=λK s=>by unfold tabs;rw[bW];simp
 intro m;induction m with
 |zero=>
  intro k f s V rows hf h1 hT;obtain⟨f,rfl⟩:∃g,f=g+1:=⟨f - 1,by omega⟩
  obtain rfl:k=ts.length:=by omega
  refine⟨s,V,rows,by simpa using hT,?_⟩;rw[tJ];simp[lI]
 |succ m ih=>
  intro k f s V rows hf h1 hT;obtain⟨f,rfl⟩:∃g,f=g+1:=⟨f - 1,by omega⟩
  have h:k<ts.length:=by omega
  have w:au .i64 ((k:Int)+1)=((k+1:Nat):Int):=wrap64 (by omega) (by omega);have hw:=hT.out.aN.wf;obtain⟨v,s1,C,M⟩:=aaZ hc ts[k] (hr _ (Zc6 h)) s hw;have O1:=hT.out.grow M.aN;have rl:rows.length=k:=by rw[hT.len];simp;omega
  obtain⟨s5,V5,a1,a2,a3,a4⟩:=O1.push (c:=c) (R:=AV×St) (bytes:=80) (z:=[.str [],.int .u8 0,.int .i64 0,.int .i64 0,.av,.int .i64 0,.int .i64 0]) (x:= .agg (ts[k].ay v)) rfl rfl (aG.VY _ M.cells.2) (by decide) (by rw[rl];omega) (by rw[rl];omega);have Mv:=M.back hT.out.wO hT.out.aN;have vV:∀b,dY v=some b->dY V≠some b:=λb hb e=>by have p1:=M.new b hb;have p2:=hT.out.own.lt hw e;omega
  have T5:TS s0 s5 V5 (ts.take (k+1)) (rows++[ts[k].ay v]):=by
   (refine⟨a2,by simp[rl];omega,λi t r hi Qk=> ?_⟩;have small:∀u:AV,∀(rw:List (List AV)),Mk 1 s0 s1 u rw->(∀b,dY u=some b->dY V≠some b)->Mk 1 s0 s5 u rw/\∀b,dY u=some b->dY V5≠some b:=λu rw hu cU=>by refine⟨Mk.aic hu a2.aN λb x hb hx=>a3 b x (cU b hb) hx,λb hb e=> ?_⟩;have p1:=a4 b e;have p2:=hu.own.lt hu.aN.wf hb;omega);by_cases Re:i<k
   .    (rw[Zd9 (by omega)]at Qk;have Cb:(ts.take k)[i]? =some t:=by rw[Zb8]at hi ⊢;rw[Za4 (by omega)]at hi;rw[Za4 Re];exact hi);obtain⟨u,e1,e2,e3⟩:=hT.yc i t r Cb Qk;obtain⟨f1,f2⟩:=small u _ (e2.grow M.aN) e3;exact⟨u,e1,f1,f2⟩
   .    have ahD:i=k:=(by have:=(H5.1 hi).1;simp at this;omega);subst ahD;rw[Zd1 (by omega)]at Qk;simp[rl]at Qk;rw[Zb8,Za4 (by omega),H1 h]at hi;cases hi;obtain⟨f1,f2⟩:=small v _ Mv vV;exact⟨v,Qk.symm,f1,f2⟩
  obtain⟨s',V',MO,b1,b2⟩:=ih (k+1) f s5 V5 _ (by omega) (by omega) T5;refine⟨s',V',MO,b1,?_⟩;rw[<-b2,tJ];unfold tabs at lI ⊢;simp[-eo,lI,h,w,aG.len,C,a1]
theorem Yl(hc:Sem c)(z:Bool)(ts:List aG)(hl:ts.length<=1000)(hr:∀t∈ts,t.Real)(s:St)(hw:Wf s):∃V s' rows,c 100 [tabs z ts] s=some (V,s')/\TS s s' V ts rows:=by
 obtain⟨s',V,rows,hT,L⟩:=U2 hc z ts hl hr (ts.length+1) (λvs uF=>eV vs λx3 vs=>gP vs (ai c .move [x3] uF λKp Ks=>ai c .move [Kp] Ks λx2 Kt=>some (x2,Kt))) ts.length 0 (ts.length+1) s .av [] (by omega) (by omega) ⟨Mk.start hw (Grew.refl hw),by simp,λi t r h=>by simp at h⟩;have fin:∃eY,tidy s (V,s')=(V,eY)/\TS s eY V ts rows:=by
  unfold tidy;by_cases hp:Plain (V,s').1/\aM s (V,s').2
  . rw[Za4 hp];refine⟨s,rfl,?_⟩;rcases hT.out.loose with⟨b,off,n,e⟩|⟨kF,e⟩
    .   rw[e]at hp;exact(Go.Ai.j3 hp.1).elim
    .   exact⟨kF s hw,hT.len,λi t r _ h=>by rw[e]at h;simp at h⟩
  .rw[Za2 hp];exact⟨s',rfl,hT⟩
 obtain⟨eY,t1,t2⟩:=fin;refine⟨V,eY,rows,?_,t2⟩;rw[E7 hc (ts.length+1) (r:=(V,s')),t1];rw[Hj];simp at L;simp[L]
theorem U3(hc:Sem c)(z:Bool)(ts:List aQ)(hl:ts.length<=1000)(hr:∀t∈ts,t.Real)(F:Nat)(k2){s0:St}:∀(m k f:Nat)(s:St)(V:AV)(rows:List (List AV)),m<f->k+m=ts.length->GS s0 s V (ts.take k) rows->
  ∃s' V' MO,GS s0 s' V' ts MO/\iz c F k2 f [bC z ts,V,.int .i64 (k:Int)] s=k2 [V'] s':=by
 have lI:∀(K:AV->St->Option (AV×St))(s:St),ai c (.lenB .l) [bC z ts] s K=K (.int .i64 (ts.length:Int)) s:=λK s=>by unfold bC;rw[bW];simp
 intro m;induction m with
 |zero=>
  intro k f s V rows hf h1 hT;obtain⟨f,rfl⟩:∃g,f=g+1:=⟨f - 1,by omega⟩
  obtain rfl:k=ts.length:=by omega
  refine⟨s,V,rows,by simpa using hT,?_⟩;rw[tK];simp[lI]
 |succ m ih=>
  intro k f s V rows hf h1 hT;obtain⟨f,rfl⟩:∃g,f=g+1:=⟨f - 1,by omega⟩
  have h:k<ts.length:=by omega
  have w:au .i64 ((k:Int)+1)=((k+1:Nat):Int):=wrap64 (by omega) (by omega);have hw:=hT.out.aN.wf;obtain⟨v,s1,C,M⟩:=aa0 hc ts[k] (hr _ (Zc6 h)) s hw;have O1:=hT.out.grow M.aN;have rl:rows.length=k:=by rw[hT.len];simp;omega
  obtain⟨s5,V5,a1,a2,a3,a4⟩:=O1.push (c:=c) (R:=AV×St) (bytes:=112) (z:=[.str [],.str [],.str [],.int .i64 0,.int .i64 0,.str [],.bool false,.bool false,.av]) (x:= .agg (ts[k].ay v)) rfl rfl (aQ.VY _ M.cells.2) (by decide) (by rw[rl];omega) (by rw[rl];omega);have Mv:=M.back hT.out.wO hT.out.aN;have vV:∀b,dY v=some b->dY V≠some b:=λb hb e=>by have p1:=M.new b hb;have p2:=hT.out.own.lt hw e;omega
  have T5:GS s0 s5 V5 (ts.take (k+1)) (rows++[ts[k].ay v]):=by
   (refine⟨a2,by simp[rl];omega,λi t r hi Qk=> ?_⟩;have small:∀u:AV,∀(rw:List (List AV)),Mk 1 s0 s1 u rw->(∀b,dY u=some b->dY V≠some b)->Mk 1 s0 s5 u rw/\∀b,dY u=some b->dY V5≠some b:=λu rw hu cU=>by refine⟨Mk.aic hu a2.aN λb x hb hx=>a3 b x (cU b hb) hx,λb hb e=> ?_⟩;have p1:=a4 b e;have p2:=hu.own.lt hu.aN.wf hb;omega);by_cases Re:i<k
   .    (rw[Zd9 (by omega)]at Qk;have Cb:(ts.take k)[i]? =some t:=by rw[Zb8]at hi ⊢;rw[Za4 (by omega)]at hi;rw[Za4 Re];exact hi);obtain⟨u,e1,e2,e3⟩:=hT.yc i t r Cb Qk;obtain⟨f1,f2⟩:=small u _ (e2.grow M.aN) e3;exact⟨u,e1,f1,f2⟩
   .    have ahD:i=k:=(by have:=(H5.1 hi).1;simp at this;omega);subst ahD;rw[Zd1 (by omega)]at Qk;simp[rl]at Qk;rw[Zb8,Za4 (by omega),H1 h]at hi;cases hi;obtain⟨f1,f2⟩:=small v _ Mv vV;exact⟨v,Qk.symm,f1,f2⟩
  obtain⟨s',V',MO,b1,b2⟩:=ih (k+1) f s5 V5 _ (by omega) (by omega) T5;refine⟨s',V',MO,b1,?_⟩;rw[<-b2,tK];unfold bC at lI ⊢;simp[-eo,lI,h,w,aQ.len,C,a1]
theorem Ym(hc:Sem c)(z:Bool)(ts:List aQ)(hl:ts.length<=1000)(hr:∀t∈ts,t.Real)(s:St)(hw:Wf s):∃V s' rows,c 101 [bC z ts] s=some (V,s')/\GS s s' V ts rows:=by
 obtain⟨s',V,rows,hT,L⟩:=U3 hc z ts hl hr (ts.length+1) (λvs uF=>eV vs λx3 vs=>gP vs (ai c .move [x3] uF λKp Ks=>ai c .move [Kp] Ks λx2 Kt=>some (x2,Kt))) ts.length 0 (ts.length+1) s .av [] (by omega) (by omega) ⟨Mk.start hw (Grew.refl hw),by simp,λi t r h=>by simp at h⟩;have fin:∃eY,tidy s (V,s')=(V,eY)/\GS s eY V ts rows:=by
  unfold tidy;by_cases hp:Plain (V,s').1/\aM s (V,s').2
  . rw[Za4 hp];refine⟨s,rfl,?_⟩;rcases hT.out.loose with⟨b,off,n,e⟩|⟨kF,e⟩
    .   rw[e]at hp;exact(Go.Ai.j3 hp.1).elim
    .   exact⟨kF s hw,hT.len,λi t r _ h=>by rw[e]at h;simp at h⟩
  .rw[Za2 hp];exact⟨s',rfl,hT⟩
 obtain⟨eY,t1,t2⟩:=fin;refine⟨V,eY,rows,?_,t2⟩;rw[E8 hc (ts.length+1) (r:=(V,s')),t1];rw[Hl];simp at L;simp[L]
theorem Wk(hc:Sem c)(p:aR)(hp:p.Real)(s:St)(hw:Wf s):∃Vs s',c 72 [.agg p.cells] s=some (.agg Vs,s')/\PS s s' Vs p:=by
 have cw:Wf (af s (.cells p.cells 0)):=bM hw;have cZ:Wf (af (af s (.cells p.cells 0)) (.cells [.av,.av,.av,.av,.av] 0)):=bM cw;have g2:=(Grew.af hw (.cells p.cells 0)).trans (Grew.af cw (.cells [.av,.av,.av,.av,.av] 0));have x1:(af (af s (.cells p.cells 0)) (.cells [.av,.av,.av,.av,.av] 0)).heap.get s.next=some (.cells p.cells 0):=(Grew.af cw _).get (aC _ _);have x2:=aC (af s (.cells p.cells 0)) (.cells [.av,.av,.av,.av,.av] 0);have nl:s.next.toNat<(af s (.cells p.cells 0)).next.toNat:=by rw[dX,Pos.aB];omega
 generalize J3:af (af s (.cells p.cells 0)) (.cells [.av,.av,.av,.av,.av] 0)=s1 at cZ g2 x1 x2;generalize C8:(af s (.cells p.cells 0)).next=p2 at x2 nl;obtain⟨V1,s2,r1,C1,T1⟩:=Yl hc p.tz p.ts hp.ts hp.tab s1 cZ;obtain⟨V2,s3,r2,C2,T2⟩:=Ym hc p.gz p.gs hp.gs hp.bO s2 T1.out.aN.wf;obtain⟨V3,s4,C3,T3⟩:=aby hc p.yz p.ys hp.ys s3 T2.out.aN.wf;obtain⟨V4,s5,C4,T4⟩:=R5 hc p.cz p.cs hp.cs s4 T3.aN.wf;obtain⟨V5,s6,C5,T5⟩:=aaY hc p.rz p.rs hp.rs s5 T4.aN.wf;have Ql:=T1.out.aN;have R6:=T2.out.aN;have U4:=T3.aN;have XA:=T4.aN;have G56:=T5.aN;have y2:=Ql.get x1;have y3:=R6.get y2;have y4:=U4.get y3;have y5:=XA.get y4;have z6:=G56.get (XA.get (U4.get (R6.get (Ql.get x2))));have lt2:=cZ _ _ x2;have L0:∀(ok:AV->Bool)(K:AV->Option (AV×St)),ok (tabs p.tz p.ts)=true->fP (.load none) [.ptr s.next 0] s1.heap ok K=K (tabs p.tz p.ts):=λok K h=>PN (by rw[x1];rfl) ok h K
 have L1:∀(ok:AV->Bool)(K:AV->Option (AV×St)),ok (bC p.gz p.gs)=true->fP (.load none) [.ptr s.next 1] s2.heap ok K=K (bC p.gz p.gs):=λok K h=>PN (by rw[y2];rfl) ok h K
 have L2:∀(ok:AV->Bool)(K:AV->Option (AV×St)),ok (cT p.yz p.ys)=true->fP (.load none) [.ptr s.next 2] s3.heap ok K=K (cT p.yz p.ys):=λok K h=>PN (by rw[y3];rfl) ok h K
 have L3:∀(ok:AV->Bool)(K:AV->Option (AV×St)),ok (ints p.cz p.cs)=true->fP (.load none) [.ptr s.next 3] s4.heap ok K=K (ints p.cz p.cs):=λok K h=>PN (by rw[y4];rfl) ok h K
 have L4:∀(ok:AV->Bool)(K:AV->Option (AV×St)),ok (jD p.rz p.rs)=true->fP (.load none) [.ptr s.next 4] s5.heap ok K=K (jD p.rz p.rs):=λok K h=>PN (by rw[y5];rfl) ok h K
 have b1:=q9 (By p.gz p.gs);have b2:=q9 (adw p.yz p.ys);have b3:=q9 (Mu (d:=2) p.cz p.cs);have b4:=q9 (Xp p.rz p.rs);have q11:=pE (p:=s.next) (o:=1) (h:=s1.heap) (v:=bC p.gz p.gs) (by rw[x1];rfl) b1;have q21:=pE (p:=s.next) (o:=2) (h:=s1.heap) (v:=cT p.yz p.ys) (by rw[x1];rfl) b2;have q22:=pE (p:=s.next) (o:=2) (h:=s2.heap) (v:=cT p.yz p.ys) (by rw[y2];rfl) b2;have q31:=pE (p:=s.next) (o:=3) (h:=s1.heap) (v:=ints p.cz p.cs) (by rw[x1];rfl) b3;have q32:=pE (p:=s.next) (o:=3) (h:=s2.heap) (v:=ints p.cz p.cs) (by rw[y2];rfl) b3;have q33:=pE (p:=s.next) (o:=3) (h:=s3.heap) (v:=ints p.cz p.cs) (by rw[y3];rfl) b3;have q41:=pE (p:=s.next) (o:=4) (h:=s1.heap) (v:=jD p.rz p.rs) (by rw[x1];rfl) b4;have q42:=pE (p:=s.next) (o:=4) (h:=s2.heap) (v:=jD p.rz p.rs) (by rw[y2];rfl) b4;have q43:=pE (p:=s.next) (o:=4) (h:=s3.heap) (v:=jD p.rz p.rs) (by rw[y3];rfl) b4;have q44:=pE (p:=s.next) (o:=4) (h:=s4.heap) (v:=jD p.rz p.rs) (by rw[y4];rfl) b4;obtain⟨c1,o1⟩:=T1.out.cells;obtain⟨c2,o2⟩:=T2.out.cells;obtain⟨c3,o3⟩:=T3.cells;obtain⟨c4,o4⟩:=T4.cells;obtain⟨c5,o5⟩:=T5.cells;have AA:cI [AV.av,.av,.av,.av,.av] [(0,1),(1,1),(2,1),(3,1),(4,1)] [V1,V2,V3,V4,V5]=some [V1,V2,V3,V4,V5]:=by
  simp[cI,cW,cF,aL,c1,c2,c3,c4,c5]
 have one:bg [V1,V2,V3,V4,V5]=true:=by
  simp only[bg,Zk9]at o1 o2 o3 o4 o5;simp only[bg,o1,o2,o3,o4,o5,Zk0]
 have q8:∀(K:AV->St->Option (AV×St)),ai c (.store 5) [.ptr p2 0,.agg [V1,V2,V3,V4,V5]] s6 K=K .undef (cR s6 p2 (.cells [V1,V2,V3,V4,V5] 0)):=λK=>by rw[jA c K s6 5 p2 0 (.agg [V1,V2,V3,V4,V5]) _ z6 rfl (by simp) one];rfl
 have G16:=Ql.trans (R6.trans (U4.trans (XA.trans G56)));have G7:Grew s (cR s6 p2 (.cells [V1,V2,V3,V4,V5] 0)):=⟨JX G16.wf (by have:=G16.next;omega),λq b hq=>by have:=hw _ _ hq;rw[cu (λe=>by rw[e]at nl;omega)];exact(g2.trans G16).get hq,by rw[y9];exact(g2.trans G16).next⟩
 have Em:∀q b,s1.next.toNat<=q.toNat->s6.heap.get q=some b->(cR s6 p2 (.cells [V1,V2,V3,V4,V5] 0)).heap.get q=some b:=λq b hq h=>by rw[cu (λe=>by rw[e]at lt2;omega)];exact h
 have F1:=T1.AT hw g2 G7 λq b hq h=>Em q b hq ((R6.trans (U4.trans (XA.trans G56))).get h)
 have F2:=T2.AT hw (g2.trans Ql) G7 λq b hq h=>Em q b (Zd6 Ql.next hq) ((U4.trans (XA.trans G56)).get h)
 have F3:=T3.AT hw (g2.trans (Ql.trans R6)) G7 λq b hq h=>Em q b (Zd6 (Ql.trans R6).next hq) ((XA.trans G56).get h)
 have F4:=T4.AT hw (g2.trans (Ql.trans (R6.trans U4))) G7 λq b hq h=>Em q b (Zd6 (Ql.trans (R6.trans U4)).next hq) (G56.get h)
 have F5:=T5.AT hw (g2.trans (Ql.trans (R6.trans (U4.trans XA)))) G7 λq b hq h=>Em q b (Zd6 (Ql.trans (R6.trans (U4.trans XA))).next hq) h
 have fin:∃eY,tidy s (.agg [V1,V2,V3,V4,V5],cR s6 p2 (.cells [V1,V2,V3,V4,V5] 0))=(.agg [V1,V2,V3,V4,V5],eY)/\PS s eY [V1,V2,V3,V4,V5] p:=by
  unfold tidy;by_cases hP:Plain (AV.agg [V1,V2,V3,V4,V5],cR s6 p2 (.cells [V1,V2,V3,V4,V5] 0)).1/\aM s (AV.agg [V1,V2,V3,V4,V5],cR s6 p2 (.cells [V1,V2,V3,V4,V5] 0)).2
  . rw[Za4 hP];have inst:∀v∈[V1,V2,V3,V4,V5],gu v:=λv hv=>by
        simp only[Za7,Zd0,Zh3]at hv;rcases hv with rfl|rfl|rfl|rfl|rfl
        .exact F1.out.inst
        .exact F2.out.inst
        .exact F3.inst
        .exact F4.inst
        .exact F5.inst
    have k1:=F1.out.loose.resolve_left λ⟨b,off,n,e⟩=>absurd hP.1 (ob inst (b:=b) (off:=off) (n:=n) (es:=7) (by rw[<-e];simp))
    have k2:=F2.out.loose.resolve_left λ⟨b,off,n,e⟩=>absurd hP.1 (ob inst (b:=b) (off:=off) (n:=n) (es:=9) (by rw[<-e];simp))
    have k3:=F3.loose.resolve_left λ⟨b,off,n,e⟩=>absurd hP.1 (ob inst (b:=b) (off:=off) (n:=n) (es:=3) (by rw[<-e];simp))
    have k4:=F4.loose.resolve_left λ⟨b,off,n,e⟩=>absurd hP.1 (ob inst (b:=b) (off:=off) (n:=n) (es:=1) (by rw[<-e];simp))
    have k5:=F5.loose.resolve_left λ⟨b,off,n,e⟩=>absurd hP.1 (ob inst (b:=b) (off:=off) (n:=n) (es:=6) (by rw[<-e];simp))
    exact⟨s,rfl,Grew.refl hw,V1,V2,V3,V4,V5,r1,r2,rfl,⟨k1.1 s hw,F1.len,λi t r _ h=>by rw[k1.2]at h;simp at h⟩,⟨k2.1 s hw,F2.len,λi t r _ h=>by rw[k2.2]at h;simp at h⟩,k3.1 s hw,k4.1 s hw,k5.1 s hw⟩
  .rw[Za2 hP];exact⟨_,rfl,G7,V1,V2,V3,V4,V5,r1,r2,rfl,F1,F2,F3,F4,F5⟩
 obtain⟨eY,t1,t2⟩:=fin;refine⟨_,eY,?_,t2⟩;rw[D1 hc 1 (r:=(.agg [V1,V2,V3,V4,V5],cR s6 p2 (.cells [V1,V2,V3,V4,V5] 0))),t1];rw[Gw];have hcut:cut [V1,V2,V3,V4,V5] 0 5=some [V1,V2,V3,V4,V5]:=bJ rfl;simp[J3,C8,L0,L1,L2,L3,L4,q11,q21,q22,q31,q32,q33,q41,q42,q43,q44,C1,C2,C3,C4,C5,AA,q8,hcut]
end
section
open Go Go.Ai Go.Proofs
section
variable{c:ah}
theorem abz(hc:Sem c)(z:Bool)(ts:List aG)(hl:ts.length<=100){n:Nat}(hn:n<=ts.length)(F:Nat)(s:St)(hw:Wf s)(k2):∀(m k:Nat),n<=k+m->k<=n->
  eW c F k2 (m+1) [tabs z ts,.int .i64 (n:Int),.int .i64 (aO (ts.take k)),.int .i64 (k:Int)] s=k2 [.int .i64 (aO (ts.take n))] s:=by
 intro m;induction m with
 |zero=>
  intro k h1 h2;obtain rfl:k=n:=by omega
  rw[kC];simp
 |succ m ih=>
  intro k h1 h2;rw[kC];by_cases h:k<n
  . have hk:k<ts.length:=(by omega);have w:au .i64 ((k:Int)+1)=((k+1:Nat):Int):=wrap64 (by omega) (by omega);have hs:=Bu hc ts[k] s hw;have e:aO (ts.take (k+1))=aO (ts.take k)+bh ts[k]:=by
        rw[Zc2 hk,E5]
    have w2:au .i64 (aO (ts.take k)+bh ts[k])=aO (ts.take (k+1)):=by
        have b1:=pz (ts.take k);have b2:=tI ts[k];have b3:(ts.take k).length<=100:=(by simp;omega);rw[e];exact wrap64 (by omega) (by omega)
    rw[<-ih (k+1) (by omega) (by omega)];simp[tabs,h,hk,hs,w,w2]
  .obtain rfl:k=n:=(by omega);simp
theorem afp(hc:Sem c)(z:Bool)(ts:List aG)(hl:ts.length<=100){n:Nat}(hn:n<=ts.length)(s:St)(hw:Wf s):c 112 [tabs z ts,.int .i64 (n:Int)] s=some (.int .i64 (aO (ts.take n)),s):=by
 rw[xZ hc 101 (r:=(.int .i64 (aO (ts.take n)),s)),ak (Plain.int _ _) (aM.refl s)];rw[A7];have L:∀k2,eW c 101 k2 101 [tabs z ts,.int .i64 (n:Int),.int .i64 0,.int .i64 0] s=k2 [.int .i64 (aO (ts.take n))] s:=λk2=>by have:=abz hc z ts hl hn 101 s hw k2 100 0 (by omega) (by omega);simpa [aO]using this
 simp[L]
end
theorem ajc(s:St)(d:Nat)(t:aG):dJ s (d+1) (.agg t.cells)= .agg t.cells:=by
 rw[JY];simp only[aG.cells,ints,Zb4,Ze0,UO,z7,tU]
section
variable{c:ah}
theorem ajd(hc:bB c)(p:aR)(m:Nat)(s:St):c 69 [.agg p.cells,.int .i64 (m:Int)] s=some (.bool (D4 p m),s):=
 hc.at (s:=iU 69) rfl (iG (by
  rw[Zb4,Zb4,Ze0,QM];exact ajY rfl p m (emptyAt s) (gQ s)) (bR.bool _))
theorem ahE(hc:bB c)(p:aR)(hp:p.Real)(s:St)(hw:Wf s):∃Vs s',c 72 [.agg p.cells] s=some (.agg Vs,s')/\PS s s' Vs p:=by obtain⟨Vs,s1,e,P⟩:=Wk (c:=run yV gg) rfl p hp (emptyAt s) (gQ s);refine⟨Vs,gR s s1,hc.at (s:=iU 72) rfl (aeH ?_ (bR.agg P.bare) P.aN.next),PS.gR hw P⟩;rw[Zb4,Ze0,QM];exact e
theorem Qm(hc:bB c)(p:aR)(hp:p.ic)(hr:∀r∈p.rs,r.Ok)(s:St):c 105 [.agg p.cells] s=some (.tuple [.int .i64 (bI p).1,.int .i64 (bI p).2],s):=
 hc.at (s:=iU 105) rfl (iG (by
  rw[Zb4,Ze0,QM];exact aaM rfl p hp (aci rfl hp) hr (emptyAt s) (gQ s)) (bR.tuple (by intro v hv;simp at hv;rcases hv with rfl|rfl<;>exact bR.int _ _)))
theorem aa1(hc:bB c)(z:Bool)(ts:List aG)(hl:ts.length<=100)(s:St):c 114 [tabs z ts] s=some (.int .i64 (aO ts),s):=
 hc.at (s:=iU 114) rfl (iG (by
  rw[Zb4,Ze0,tabs,UO];exact RY rfl z ts hl (emptyAt s) (gQ s)) (bR.int _ _))
theorem aa2(hc:bB c)(z:Bool)(ts:List aG)(hl:ts.length<=100){n:Nat}(hn:n<=ts.length)(s:St):c 112 [tabs z ts,.int .i64 (n:Int)] s=some (.int .i64 (aO (ts.take n)),s):=
 hc.at (s:=iU 112) rfl (iG (by
  rw[Zb4,Zb4,Ze0,tabs,UO,tU];exact afp rfl z ts hl hn (emptyAt s) (gQ s)) (bR.int _ _))
theorem R7(hc:bB c)(t:aG)(s:St):c 111 [.agg t.cells] s=some (.int .i64 (bh t),s):=
 hc.at (s:=iU 111) rfl (iG (by
  rw[Zb4,Ze0,ajc];exact Bu rfl t (emptyAt s) (gQ s)) (bR.int _ _))
variable{s0 s:St}{Vs:List AV}{p:aR}
theorem ahF(hc:bB c)(h:PS s0 s Vs p){q:aR}(hq:p.dG q)(hR:p.Real)(hk:∀t∈p.ts,t.Ok):c 76 [.agg Vs,.agg q.cells] s=some (.bool true,s):=by
 obtain⟨p',e,S⟩:=h.dJ 1;refine hc.at (s:=iU 76) rfl (iG ?_ (bR.bool _));rw[Zb4,Zb4,Ze0,e,QM];exact Wa rfl p' q (S.symm.trans hq) ((S.real hR).akO (λt ht=>by obtain⟨u,hu,z,rfl⟩:=S.tab ht;have:=hk u hu;exact⟨this.1,this.2⟩)) (emptyAt s) (gQ s)
end
end
end Go.Proofs.YtgjikjcfjddloaaGreatDoor
