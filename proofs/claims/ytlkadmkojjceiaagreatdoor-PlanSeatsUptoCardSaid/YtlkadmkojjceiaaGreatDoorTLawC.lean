/- Functions of the program, plainly, and what they answer. -/
import Derived.Test.YtlkadmkojjceiaaGreatDoorTLawB
import Derived.Deep.DeepHandedRow
set_option linter.all false
set_option maxRecDepth 100000
set_option maxHeartbeats 4000000
namespace Go.Proofs.YtlkadmkojjceiaaGreatDoor
section
open Go Go.Ai Go.Proofs
variable{c:ah}
end
section
open Go Go.Ai Go.Proofs
end
section
set_option linter.unusedSimpArgs false
open Go Go.Ai Go.Proofs
variable{c:ah}
theorem Vb(t:aF):0<=bN t/\bN t<=24:=by
 unfold bN;repeat' split
 all_goals omega
theorem TS.aE{s0 s s':St}{V:AV}{ts:List aF}{rows:List (List AV)}(h:TS s0 s V ts rows)(g:Grew s s'):TS s0 s' V ts rows:=
 ⟨h.out.grow g,h.len,λi t r a b=>by obtain⟨v,e1,e2,e3⟩:=h.xM i t r a b;exact⟨v,e1,e2.grow g,e3⟩⟩
theorem GS.aE{s0 s s':St}{V:AV}{ts:List aI}{rows:List (List AV)}(h:GS s0 s V ts rows)(g:Grew s s'):GS s0 s' V ts rows:=
 ⟨h.out.grow g,h.len,λi t r a b=>by obtain⟨v,e1,e2,e3⟩:=h.xM i t r a b;exact⟨v,e1,e2.grow g,e3⟩⟩
theorem PS.ju{s0 s s':St}{Vs:List AV}{p:aO}(h:PS s0 s Vs p)(g:Grew s s'):PS s0 s' Vs p:=by
 obtain⟨V1,V2,V3,V4,V5,r1,r2,rfl,h1,h2,h3,h4,h5⟩:=h.all;exact⟨h.aE.trans g,V1,V2,V3,V4,V5,r1,r2,rfl,h1.aE g,h2.aE g,h3.grow g,h4.grow g,h5.grow g⟩
abbrev qy(tk:List Bool):List AV:=tk.map AV.bool
section
variable{st sB s:St}{Vs:List AV}{p:aO}
theorem PS.rT(h:PS st s Vs p):∃V1 V2 r1 r2,Vs[0]? =some V1/\Vs[1]? =some V2/\TS st s V1 p.ts r1/\GS st s V2 p.gs r2/\Vs.length=5:=by
 obtain⟨V1,V2,V3,V4,V5,r1,r2,rfl,h1,h2,_⟩:=h.all;exact⟨V1,V2,r1,r2,rfl,rfl,h1,h2,rfl⟩
theorem Rr(N:Nat):List.replicate N (AV.bool false)=qy (List.replicate N false):=List.map_replicate.symm
end
set_option linter.unusedSimpArgs false
theorem abV(q:List Int):q.map cg=(q.map (AV.int .i64)).map XH:=by rw[Zf8];rfl
theorem rdI{s:St}{v:AV}{q:List Int}(h:QS 1 s v (q.map cg)){i:Nat}{x:Int}(hx:q[i]? =some x):∃b o,Rd s 1 v i b o [.int .i64 x]:=by
 rw[abV]at h;exact h.rd1 (by rw[Zb6,hx];rfl)
theorem abW{s s':St}{f:Nat}{b:Pos}{off:Nat}:tidy s (.func f [] [.ptr b off],s')=(.func f [] [.ptr b off],s'):=by
 unfold tidy;rw[Za5];intro h;have h1:aj (λ_=>⟨0,0,0⟩) (b.toNat+1) (λ_=>none) (.func f [] [.ptr b off]) (.func (.func f) #[] #[.pointer (some ⟨0,0+off,none⟩)]):=
  .func f _ _ _ _ rfl rfl (λ_ _ _ h=>by simp at h) λi v v' hv xZ=>by
   cases i with
   |zero=>simp at hv xZ;subst hv;subst xZ;have:=aj.ptr (ρ:=λ_=>⟨0,0,0⟩) (C:=λ_=>none) (n:=b.toNat+1) b off (by omega);simpa using this
   |succ i=>simp at hv
 have h2:=h.1 _ (λ_=>⟨0,0,0⟩) _ 0 _ _ h1;obtain⟨_,_,_,_,hy⟩:=h2.yA;obtain⟨x,xs,_,hx,_⟩:=hy.cons_inv;have:=hx.dQ.1;omega
def jI(q:List Int)(x:Int):Int:=if q.contains x then((q.idxOf x:Nat):Int)else -1
section
variable{s:St}{P:AV}{q:List Int}
theorem abX(pq:QS 1 s P (q.map cg))(hl:q.length<=1000000)(x:Int)(F:Nat)(k1 k2:Q2):∀(m k f:Nat),k+m=q.length->m<f->
  fV c F k1 k2 f [P,.int .i64 x,.int .i64 (q.length:Int),.int .i64 (k:Int)] s=if(q.drop k).contains x then k1 [.int .i64 ((k+(q.drop k).idxOf x:Nat):Int)] s else k2 [] s:=by
 intro m;induction m with
 |zero=>
  intro k f hk hf;obtain⟨f,rfl⟩:∃g,f=g+1:=⟨f - 1,by omega⟩
  obtain rfl:k=q.length:=by omega
  rw[jU];simp
 |succ m ih=>
  intro k f hk hf;obtain⟨f,rfl⟩:∃g,f=g+1:=⟨f - 1,by omega⟩
  have dz:k<q.length:=by omega
  obtain⟨pb,po,p⟩:=rdI pq (H1 dz);have p1:=λ{R}=>@p.st R
  have p3:=p.one;have wr:aD .i64 ((k:Int)+1)=((k+1:Nat):Int):=wrap64 (by omega) (by omega);rw[Zb5 dz,List.contains_cons,List.idxOf_cons];by_cases he:x=q[k]
  .rw[jU];have e2:(x==q[k])=true:=(by simpa using he);have e3:(q[k]==x)=true:=(by simpa using he.symm);have d2:decide (x=q[k])=true:=Za0 he;rw[e2,e3,Bool.true_or];simp[dz,p1,p3,d2]
  .have Lx:(x==q[k])=false:=(by simpa using he);have he3:(q[k]==x)=false:=(by simpa using λe=>he e.symm);have d2:decide (x=q[k])=false:=H5 he;rw[Lx,he3,Bool.false_or,cond_false,show k+((q.drop (k+1)).idxOf x+1)=(k+1)+(q.drop (k+1)).idxOf x by omega, <-ih (k+1) f (by omega) (by omega),jU];simp[dz,p1,p3,d2,wr]
theorem OS(hc:cj c)(pq:QS 1 s P (q.map cg))(hl:q.length<=1000000)(x:Int):c 71 [P,.int .i64 x] s=some (.int .i64 (jI q x),s):=by
 have ln:=λ(K:AV->St->Option (AV×St))=>pq.lenB (c:=c) K s
 rw[Zb3]at ln;have hi:=λk1 k2=>abX (c:=c) pq hl x (q.length+1) k1 k2 q.length 0 (q.length+1) (by omega) (by omega)
 simp only[Zc5,show((0:Nat):Int)=0 from rfl,Zb9]at hi;rw[CM hc (q.length+1) (r:=(.int .i64 (jI q x),s)),aq (Plain.int _ _) (aV.refl s)];rw[ED];simp only[bH,ln,hi];unfold jI;split<;>simp
theorem OT(hc:cj c)(P:AV)(s:St):c 89 [P] s=some (.func 128 [] [.ptr s.next 0],af s (.cells P.cells 0)):=by rw[Nf hc 1 (r:=(.func 128 [] [.ptr s.next 0],af s (.cells P.cells 0))),abW];rw[Qa];simp
theorem WY(hc:cj c){b:Pos}(hb:s.heap.get b=some (.cells [P] 0))(pq:QS 1 s P (q.map cg))(hl:q.length<=1000000)(x:Int):c 128 [.int .i64 x,.ptr b 0] s=some (.int .i64 (jI q x),s):=by
 rw[Kz hc 1 (r:=(.int .i64 (jI q x),s)),aq (Plain.int _ _) (aV.refl s)];rw[Nd];simp[hb,av,OS hc pq hl]
end
set_option linter.unusedSimpArgs false
structure Mi(N n:Nat)(q:List Int):Prop where
 len:q.length=n
 rng:∀x∈q,-1<=x/\x<(N:Int)
 ap:∀(a b:Nat)(x:Int),a<b->q[a]? =some x->q[b]? =some x->x<0
structure Rs(p:aO)(N:Nat):Prop where
 FO:p.fN
 rs:∀r∈p.rs,r.Ok
 sL:(bU p).2=0
 tabs:(bh p.ts).2=0
 sum:(N:Int)=aW p.ts
 le:N<=100000
section
variable{sB s:St}{P:AV}{q:List Int}{N n:Nat}
theorem abY{tb:Pos}(hq:Mi N n q)(hql:q.length<=1000)(hN:N<=100000)(pq:QS 1 sB P (q.map cg))(hge:sB.next.toNat<=tb.toNat)(w0:Wf sB)(F:Nat):
  ∀ (m k f:Nat)(s:St)(tk:List Bool),k+m=q.length->m<f->Grew sB s->s.heap.get tb=some (.cells (qy tk) 0)->tk.length=N->(∀i:Nat,tk[i]? =some true->(i:Int)∈q.take k)->∃s',Grew sB s'/\
    ∀k1 k2:Q2,lA c F k1 k2 f [.bool false,.int .i64 (N:Int),.slice tb 0 N (some N) 1,P,.int .i64 (q.length:Int),.int .i64 (k:Int)] s=k2 [] s':=by
 intro m;induction m with
 |zero=>
  intro k f s tk hk hf gr ht hl yd;obtain⟨f,rfl⟩:∃g,f=g+1:=⟨f - 1,by omega⟩
  obtain rfl:k=q.length:=by omega
  refine⟨s,gr,λk1 k2=> ?_⟩;rw[eA];simp
 |succ m ih=>
  intro k f s tk hk hf gr ht hl yd;obtain⟨f,rfl⟩:∃g,f=g+1:=⟨f - 1,by omega⟩
  have dz:k<q.length:=by omega
  obtain⟨pb,po,p⟩:=rdI (pq.aE gr) (H1 dz);have p1:=λ{R}=>@p.st R
  have p3:=p.one;have hxq:=hq.rng _ (Zc0 dz);have hap:=hq.ap;have wr:aD .i64 ((k:Int)+1)=((k+1:Nat):Int):=by rw[wrap64 (by omega) (by omega)];omega
  have Z8:q.take (k+1)=q.take k++[q[k]]:=by rw[Zk9,H1 dz];rfl
  have hqk:q[k]? =some q[k]:=H1 dz;generalize q[k]=x at*
  by_cases h0:0<=x
  . obtain⟨i,rfl⟩:∃i:Nat,x=(i:Int):=⟨x.toNat,by omega⟩
    have hi:i<N:=(by omega);have IB:tk[i]? =some false:=by
        rw[H1 (by omega)];cases h:tk[i]'(by omega)with
        |false=>rfl
        | true=>
          have:=yd i (by rw[H1 (by omega),h]);obtain⟨j,hj⟩:=Zf2.1 this;rw[Za9]at hj;(split at hj<;>first|(cases hj;done)|skip);rename_i hjk;have:=hap j k i hjk hj hqk;omega
    have ix:=λ(K:AV->St->Option (AV×St))(s1:St)=>MN c K s1 (b:=tb) (off:=0) (len:=N) (es:=1) (es':=1) (cap:=some N) (k:= .i64) (i:=i) hi
    (simp only[Zb9,Zj4]at ix;have ec:(qy tk)[i]? =some (.bool false):=(by rw[Zb6,IB];rfl);have pt:=λ(K:AV->St->Option (AV×St))=>Wx (c:=c) K ht (o:=i) (by rw[Zb3];omega) (v:= .bool true) rfl rfl);rw[show(qy tk).set i (.bool true)=qy (tk.set i true)from(List.map_set).symm]at pt;have aY:=gr.wf _ _ ht;obtain⟨s',z1,z3⟩:=ih (k+1) f (ew s tb (.cells (qy (tk.set i true)) 0)) (tk.set i true) (by omega) (by omega) (Va w0 gr hge aY _) (sk _ _ _) (by simpa using hl) (λj hj=>by
        rw[Z8];by_cases e:i=j
        .subst e;simp
        .rw[List.getElem?_set_ne e]at hj;exact Zg2 _ (yd j hj))
    refine⟨s',z1,λk1 k2=> ?_⟩;rw[<-z3 k1 k2,eA];have d1:decide ((i:Int)= -1)=false:=H5 (by omega);have d2:decide ((i:Int)< -1)=false:=H5 (by omega);have d3:decide ((N:Int)<=(i:Int))=false:=H5 (by omega);have d4:decide (N<=i)=false:=H5 (by omega);simp[j0,dz,p1,p3,ix,pt,wr,d1,d2,d3,d4,ht,av,ec]
  .have hx:x= -1:=(by omega);subst hx;obtain⟨s',z1,z3⟩:=ih (k+1) f s tk (by omega) (by omega) gr ht hl (λj hj=>by rw[Z8];exact Zg2 _ (yd j hj));refine⟨s',z1,λk1 k2=> ?_⟩;rw[<-z3 k1 k2,eA];have d3:decide ((N:Int)<= -1)=false:=H5 (by omega);simp[j0,dz,p1,p3,wr,d3]
end
section
variable{s0 s:St}{Vs:List AV}{p:aO}{P:AV}{q:List Int}{N:Nat}
theorem Qc:Plain (.tuple [.int .i64 0,.int .i64 0]):= .tuple λv hv=>by simp at hv;subst hv;exact .int _ _
theorem abZ(hc:cj c)(h:PS s0 s Vs p)(ok:Rs p N)(pq:QS 1 s P (q.map cg))(hq:Mi N p.gs.length q):c 122 [.agg Vs,P,.bool false] s=some (.tuple [.int .i64 0,.int .i64 0],s):=by
 have hw:=h.aE.wf;have gN:=Grew.af hw (.cells Vs 0);have h1:=h.ju gN;obtain⟨V1,V2,r1,r2,e1,e2,T,T2,e5⟩:=h1.rT;have cn:=Kp hc h1 ok.FO.ok ok.tabs e1;rw[<-ok.sum]at cn;have hgs:=ok.FO.gs;have Z9:=hq.len;have ln:=λ(K:AV->St->Option (AV×St))(s1:St)=>pq.lenB (c:=c) K s1
 rw[Zb3]at ln;have lg:=λ(K:AV->St->Option (AV×St))(s1:St)=>T2.out.own.lenB (c:=c) K s1
 rw[T2.len]at lg;have hle:=ok.le;have mk:=λ(K:AV->St->Option (AV×St))=>Ww c K (af s (.cells Vs 0)) (es:=1) (bytes:=1) (z:=[.bool false]) (k:= .i64) (k':= .i64) (n:=N) (by omega) (by omega)
 rw[GW,Rr]at mk;have gT:=Grew.af gN.wf (.cells (qy (List.replicate N false)) 0);obtain⟨s',z1,z3⟩:=abY (c:=c) (n:=p.gs.length) hq (by omega) ok.le (pq.aE gN) (Za1 _) gN.wf (q.length+1) q.length 0 (q.length+1) _ (List.replicate N false) (by omega) (by omega) gT (aC _ _) (by simp) (λi hi=>by rw[List.getElem?_replicate]at hi;split at hi<;>cases hi);simp only[show((0:Nat):Int)=0 from rfl]at z3;have e1':Vs[0]? =some V1:=e1;have e2':Vs[1]? =some V2:=e2;rw[yT hc (q.length+1) (r:=(.tuple [.int .i64 0,.int .i64 0],s')),aq Qc (gN.trans z1).keeps];rw[CH];simp[show ∀l,AV.cells (.agg l)=l from λl=>rfl,aC,av,e1',e2',ln,lg,Z9,cn];rw[mk, <-Z9,z3];simp
theorem Yd(hc:cj c)(h:PS s0 s Vs p)(ok:Rs p N)(pq:QS 1 s P (q.map cg))(hq:Mi N p.gs.length q):c 80 [.agg Vs,P,.bool false] s=some (.tuple [.int .i64 0,.int .i64 0],s):=by
 have hw:=h.aE.wf;have gN:=Grew.af hw (.cells Vs 0);have h1:=h.ju gN;have hcut:cut Vs 0 5=some Vs:=bw h1.rT.choose_spec.choose_spec.choose_spec.choose_spec.2.2.2.2;have ck:=Rn hc h1 ok.FO ok.rs;rw[ok.sL]at ck;have kk:=abZ hc h1 ok (pq.aE gN) hq;rw[u0 hc 1 (r:=(.tuple [.int .i64 0,.int .i64 0],af s (.cells Vs 0))),aq Qc gN.keeps];rw[yR];simp[show ∀l,AV.cells (.agg l)=l from λl=>rfl,aC,av,hcut,ck,kk]
theorem Vc(hc:cj c)(h:PS s0 s Vs p)(ok:Rs p N)(pq:QS 1 s P (q.map cg))(hq:Mi N p.gs.length q):c 33 [.agg Vs,P] s=some (.tuple [.int .i64 0,.int .i64 0],s):=by
 have hw:=h.aE.wf;have gN:=Grew.af hw (.cells Vs 0);have h1:=h.ju gN;have hcut:cut Vs 0 5=some Vs:=bw h1.rT.choose_spec.choose_spec.choose_spec.choose_spec.2.2.2.2;have kk:=Yd hc h1 ok (pq.aE gN) hq;rw[zG hc 1 (r:=(.tuple [.int .i64 0,.int .i64 0],af s (.cells Vs 0))),aq Qc gN.keeps];rw[CA];simp[show ∀l,AV.cells (.agg l)=l from λl=>rfl,aC,av,hcut,kk]
theorem KA(hc:cj c)(h:PS s0 s Vs p)(ok:Rs p N)(pq:QS 1 s P (q.map cg))(hq:Mi N p.gs.length q):c 88 [.agg Vs,P] s=some (.bool true,s):=by
 have hw:=h.aE.wf;have gN:=Grew.af hw (.cells Vs 0);have h1:=h.ju gN;have hcut:cut Vs 0 5=some Vs:=bw h1.rT.choose_spec.choose_spec.choose_spec.choose_spec.2.2.2.2;have kk:=Vc hc h1 ok (pq.aE gN) hq;rw[FW hc 1 (r:=(.bool true,af s (.cells Vs 0))),aq (Plain.bool _) gN.keeps];rw[Ku];simp[show ∀l,AV.cells (.agg l)=l from λl=>rfl,aC,av,hcut,kk]
end
end
section
open Go Go.Ai Go.Proofs
variable{c:ah}
theorem R3(z:Bool)(l:List (Int))(hl:l.length<=j3)(F:Nat)(k2){s0:St}:∀(m k:Nat)(s:St)(v:AV),Mk 1 s0 s v ((l.take k).map cg)->l.length<=k+m->k<=l.length->
  ∃s' v',Mk 1 s0 s' v' (l.map cg)/\gy c F k2 (m+1) [ints z l,v,.int .i64 (k:Int)] s=k2 [v'] s':=by
 have hl:l.length<=1048576:=hl;have lI:∀(K:AV->St->Option (AV×St))(s:St),ai c (.lenB .l) [ints z l] s K=K (.int .i64 (l.length:Int)) s:=λK s=>by unfold ints;rw[bO];simp
 intro m;induction m with
 |zero=>
  intro k s v hM h1 h2;obtain rfl:k=l.length:=by omega
  refine⟨s,v,by simpa using hM,?_⟩;rw[kE];simp[lI]
 |succ m ih=>
  intro k s v hM h1 h2;by_cases h:k<l.length
  .have w:aD .i64 ((k:Int)+1)=((k+1:Nat):Int):=wrap64 (by omega) (by omega);have hlen:((l.take k).map cg).length=k:=(by simp;omega);obtain⟨s5,v5,a1,a2,a3,_⟩:=hM.push (c:=c) (R:=AV×St) (bytes:=8) (z:=[.int .i64 0]) (x:= .int .i64 l[k]) rfl rfl rfl (by decide) (by rw[hlen];omega) (by rw[hlen];omega);have e:(l.take (k+1)).map cg=(l.take k).map cg++[(.int .i64 l[k]:AV).cells]:=(by rw[Zb2 h,Zf4];rfl);rw[<-e]at a2;obtain⟨s',v',b1,b2⟩:=ih (k+1) s5 v5 a2 (by omega) (by omega);refine⟨s',v',b1,?_⟩;rw[<-b2,kE];simp[-cu,lI,ints,h,w,a1]
  .obtain rfl:k=l.length:=(by omega);refine⟨s,v,by simpa using hM,?_⟩;rw[kE];simp[lI]
theorem Mj(hc:Sem c)(z:Bool)(l:List (Int))(hl:l.length<=j3)(s:St)(hw:Wf s):∃v s',c 99 [ints z l] s=some (v,s')/\Mk 1 s s' v (l.map cg):=by
 obtain⟨s',v,hM,L⟩:=R3 (c:=c) z l hl (l.length+1) (λvs qm=>dW vs λx3 vs=>fP vs (ai c .move [x3] qm λFD FG=>ai c .move [FD] FG λx2 FH=>some (x2,FH))) (s0:=s) l.length 0 s .ax (Mk.start hw (Grew.refl hw)) (by omega) (by omega);obtain⟨g9,t1,t2⟩:=hM.tidy;refine⟨v,g9,?_,t2⟩;rw[CZ hc (l.length+1) (r:=(v,s')),t1];rw[FK];simp at L;simp[L]
theorem Qd(z:Bool)(l:List (List Nat))(hl:l.length<=j3)(F:Nat)(k2){s0:St}:∀(m k:Nat)(s:St)(v:AV),Mk 1 s0 s v ((l.take k).map zY)->l.length<=k+m->k<=l.length->
  ∃s' v',Mk 1 s0 s' v' (l.map zY)/\fS c F k2 (m+1) [dL z l,v,.int .i64 (k:Int)] s=k2 [v'] s':=by
 have hl:l.length<=1048576:=hl;have lI:∀(K:AV->St->Option (AV×St))(s:St),ai c (.lenB .l) [dL z l] s K=K (.int .i64 (l.length:Int)) s:=λK s=>by unfold dL;rw[bO];simp
 intro m;induction m with
 |zero=>
  intro k s v hM h1 h2;obtain rfl:k=l.length:=by omega
  refine⟨s,v,by simpa using hM,?_⟩;rw[jS];simp[lI]
 |succ m ih=>
  intro k s v hM h1 h2;by_cases h:k<l.length
  .have w:aD .i64 ((k:Int)+1)=((k+1:Nat):Int):=wrap64 (by omega) (by omega);have hlen:((l.take k).map zY).length=k:=(by simp;omega);obtain⟨s5,v5,a1,a2,a3,_⟩:=hM.push (c:=c) (R:=AV×St) (bytes:=16) (z:=[.str []]) (x:= .str l[k]) rfl rfl rfl (by decide) (by rw[hlen];omega) (by rw[hlen];omega);have e:(l.take (k+1)).map zY=(l.take k).map zY++[(.str l[k]:AV).cells]:=(by rw[Zb2 h,Zf4];rfl);rw[<-e]at a2;obtain⟨s',v',b1,b2⟩:=ih (k+1) s5 v5 a2 (by omega) (by omega);refine⟨s',v',b1,?_⟩;rw[<-b2,jS];simp[-cu,lI,dL,h,w,a1]
  .obtain rfl:k=l.length:=(by omega);refine⟨s,v,by simpa using hM,?_⟩;rw[jS];simp[lI]
theorem Vd(hc:Sem c)(z:Bool)(l:List (List Nat))(hl:l.length<=j3)(s:St)(hw:Wf s):∃v s',c 187 [dL z l] s=some (v,s')/\Mk 1 s s' v (l.map zY):=by
 obtain⟨s',v,hM,L⟩:=Qd (c:=c) z l hl (l.length+1) (λvs qm=>dW vs λx3 vs=>fP vs (ai c .move [x3] qm λFD FG=>ai c .move [FD] FG λx2 FH=>some (x2,FH))) (s0:=s) l.length 0 s .ax (Mk.start hw (Grew.refl hw)) (by omega) (by omega);obtain⟨g9,t1,t2⟩:=hM.tidy;refine⟨v,g9,?_,t2⟩;rw[Cw hc (l.length+1) (r:=(v,s')),t1];rw[Ew];simp at L;simp[L]
theorem R4(z:Bool)(l:List (Ty))(hl:l.length<=j3)(F:Nat)(k2){s0:St}:∀(m k:Nat)(s:St)(v:AV),Mk 3 s0 s v ((l.take k).map Ty.cells)->l.length<=k+m->k<=l.length->
  ∃s' v',Mk 3 s0 s' v' (l.map Ty.cells)/\gx c F k2 (m+1) [bW z l,v,.int .i64 (k:Int)] s=k2 [v'] s':=by
 have hl:l.length<=1048576:=hl;have lI:∀(K:AV->St->Option (AV×St))(s:St),ai c (.lenB .l) [bW z l] s K=K (.int .i64 (l.length:Int)) s:=λK s=>by unfold bW;rw[bO];simp
 intro m;induction m with
 |zero=>
  intro k s v hM h1 h2;obtain rfl:k=l.length:=by omega
  refine⟨s,v,by simpa using hM,?_⟩;rw[kD];simp[lI]
 |succ m ih=>
  intro k s v hM h1 h2;by_cases h:k<l.length
  .have w:aD .i64 ((k:Int)+1)=((k+1:Nat):Int):=wrap64 (by omega) (by omega);have hlen:((l.take k).map Ty.cells).length=k:=(by simp;omega);obtain⟨s5,v5,a1,a2,a3,_⟩:=hM.push (c:=c) (R:=AV×St) (bytes:=40) (z:=[.str [],.str [],.int .u8 0]) (x:= .agg l[k].cells) rfl rfl (by simp) (by decide) (by rw[hlen];omega) (by rw[hlen];omega);have e:(l.take (k+1)).map Ty.cells=(l.take k).map Ty.cells++[(.agg l[k].cells:AV).cells]:=(by rw[Zb2 h,Zf4];rfl);rw[<-e]at a2;obtain⟨s',v',b1,b2⟩:=ih (k+1) s5 v5 a2 (by omega) (by omega);refine⟨s',v',b1,?_⟩;rw[<-b2,kD];simp[-cu,lI,bW,h,w,a1,Ty.len]
  .obtain rfl:k=l.length:=(by omega);refine⟨s,v,by simpa using hM,?_⟩;rw[kD];simp[lI]
theorem VK(hc:Sem c)(z:Bool)(l:List (Ty))(hl:l.length<=j3)(s:St)(hw:Wf s):∃v s',c 98 [bW z l] s=some (v,s')/\Mk 3 s s' v (l.map Ty.cells):=by
 obtain⟨s',v,hM,L⟩:=R4 (c:=c) z l hl (l.length+1) (λvs qm=>dW vs λx3 vs=>fP vs (ai c .move [x3] qm λFD FG=>ai c .move [FD] FG λx2 FH=>some (x2,FH))) (s0:=s) l.length 0 s .ax (Mk.start hw (Grew.refl hw)) (by omega) (by omega);obtain⟨g9,t1,t2⟩:=hM.tidy;refine⟨v,g9,?_,t2⟩;rw[CY hc (l.length+1) (r:=(v,s')),t1];rw[FJ];simp at L;simp[L]
theorem Qe(z:Bool)(l:List (Rl))(hl:l.length<=j3)(F:Nat)(k2){s0:St}:∀(m k:Nat)(s:St)(v:AV),Mk 6 s0 s v ((l.take k).map Rl.cells)->l.length<=k+m->k<=l.length->
  ∃s' v',Mk 6 s0 s' v' (l.map Rl.cells)/\fQ c F k2 (m+1) [gX z l,v,.int .i64 (k:Int)] s=k2 [v'] s':=by
 have hl:l.length<=1048576:=hl;have lI:∀(K:AV->St->Option (AV×St))(s:St),ai c (.lenB .l) [gX z l] s K=K (.int .i64 (l.length:Int)) s:=λK s=>by unfold gX;rw[bO];simp
 intro m;induction m with
 |zero=>
  intro k s v hM h1 h2;obtain rfl:k=l.length:=by omega
  refine⟨s,v,by simpa using hM,?_⟩;rw[jR];simp[lI]
 |succ m ih=>
  intro k s v hM h1 h2;by_cases h:k<l.length
  .have w:aD .i64 ((k:Int)+1)=((k+1:Nat):Int):=wrap64 (by omega) (by omega);have hlen:((l.take k).map Rl.cells).length=k:=(by simp;omega);obtain⟨s5,v5,a1,a2,a3,_⟩:=hM.push (c:=c) (R:=AV×St) (bytes:=72) (z:=[.int .u8 0,.int .i64 0,.str [],.str [],.str [],.int .i64 0]) (x:= .agg l[k].cells) rfl rfl (by simp) (by decide) (by rw[hlen];omega) (by rw[hlen];omega);have e:(l.take (k+1)).map Rl.cells=(l.take k).map Rl.cells++[(.agg l[k].cells:AV).cells]:=(by rw[Zb2 h,Zf4];rfl);rw[<-e]at a2;obtain⟨s',v',b1,b2⟩:=ih (k+1) s5 v5 a2 (by omega) (by omega);refine⟨s',v',b1,?_⟩;rw[<-b2,jR];simp[-cu,lI,gX,h,w,a1]
  .obtain rfl:k=l.length:=(by omega);refine⟨s,v,by simpa using hM,?_⟩;rw[jR];simp[lI]
theorem Ve(hc:Sem c)(z:Bool)(l:List (Rl))(hl:l.length<=j3)(s:St)(hw:Wf s):∃v s',c 100 [gX z l] s=some (v,s')/\Mk 6 s s' v (l.map Rl.cells):=by
 obtain⟨s',v,hM,L⟩:=Qe (c:=c) z l hl (l.length+1) (λvs qm=>dW vs λx3 vs=>fP vs (ai c .move [x3] qm λFD FG=>ai c .move [FD] FG λx2 FH=>some (x2,FH))) (s0:=s) l.length 0 s .ax (Mk.start hw (Grew.refl hw)) (by omega) (by omega);obtain⟨g9,t1,t2⟩:=hM.tidy;refine⟨v,g9,?_,t2⟩;rw[Cp hc (l.length+1) (r:=(v,s')),t1];rw[Ep];simp at L;simp[L]
theorem Vf(hc:Sem c)(t:aF)(ht:t.Real)(s:St)(hw:Wf s):∃v s',c 132 [.agg t.cells] s=some (.agg (t.ay v),s')/\Mk 1 s s' v (t.b9.map cg):=by
 have bR:Wf (af s (.cells t.cells 0)):=bA hw;have g1:=Grew.af hw (.cells t.cells 0);have eM:Wf (af (af s (.cells t.cells 0)) (.cells [.str [],.int .u8 0,.int .i64 0,.int .i64 0,.ax,.int .i64 0,.int .i64 0] 0)):=bA bR;have g2:=Grew.af bR (.cells [.str [],.int .u8 0,.int .i64 0,.int .i64 0,.ax,.int .i64 0,.int .i64 0] 0);have x1:(af (af s (.cells t.cells 0)) (.cells [.str [],.int .u8 0,.int .i64 0,.int .i64 0,.ax,.int .i64 0,.int .i64 0] 0)).heap.get s.next=some (.cells t.cells 0):=g2.get (aC _ _);have x2:=aC (af s (.cells t.cells 0)) (.cells [.str [],.int .u8 0,.int .i64 0,.int .i64 0,.ax,.int .i64 0,.int .i64 0] 0);have n12:s.next≠(af s (.cells t.cells 0)).next:=by rw[dc];exact Pos.Ph _
 have fP:s.next.toNat<(af s (.cells t.cells 0)).next.toNat:=by rw[dc,Pos.aB];omega
 have nl2:(af s (.cells t.cells 0)).next.toNat<(af (af s (.cells t.cells 0)) (.cells [.str [],.int .u8 0,.int .i64 0,.int .i64 0,.ax,.int .i64 0,.int .i64 0] 0)).next.toNat:=by rw[dc (af s (.cells t.cells 0)),Pos.aB];omega
 have gg:=g1.trans g2;have c4:t.cells[4]? =some (ints t.oz t.b9):=rfl;generalize zl:af (af s (.cells t.cells 0)) (.cells [.str [],.int .u8 0,.int .i64 0,.int .i64 0,.ax,.int .i64 0,.int .i64 0] 0)=s2 at eM g2 x1 x2 nl2 gg;generalize zd:(af s (.cells t.cells 0)).next=p2 at x2 n12 fP nl2;obtain⟨v,s3,C,M⟩:=Mj hc t.oz t.b9 ht.b9 s2 eM;obtain⟨vc,v1⟩:=M.cells;have y1:=M.aE.get x1;have y2:=M.aE.get x2;have u7:∀b,dS v=some b->s2.next.toNat<=b.toNat:=M.new;have aL:∀(K:AV->St->Option (AV×St)),ai c (.store 1) [.ptr s.next 4,v] s3 K=K .undef (ew s3 s.next (.cells (t.ay v) 0)):=λK=>by rw[jz c K s3 1 s.next 4 v t.cells y1 (by rw[vc];rfl) (by rw[aF.len];omega) (by rw[vc];exact v1),vc];rfl
 have nx3:=M.aE.next;have M1:Mk 1 s s3 v (t.b9.map cg):=M.back hw gg;have M2:=M1.store (p:=s.next) (b:= .cells (t.ay v) 0) (Za1 _) (by omega) (λe=>by have:=u7 _ e;omega);have z1:(ew s3 s.next (.cells (t.ay v) 0)).heap.get s.next=some (.cells (t.ay v) 0):=sk _ _ _;have z2:(ew s3 s.next (.cells (t.ay v) 0)).heap.get p2=some (.cells [.str [],.int .u8 0,.int .i64 0,.int .i64 0,.ax,.int .i64 0,.int .i64 0] 0):=by rw[bY n12];exact y2
 have nz:(ew s3 s.next (.cells (t.ay v) 0)).next=s3.next:=rfl;generalize hs4:ew s3 s.next (.cells (t.ay v) 0)=s4 at aL M2 z1 z2 nz;have one:aU (t.ay v)=true:=by
  simp only[aU]at v1;unfold aF.ay;simp only[aU,AV.one,v1,Zj2,Zj1]at*
 have hcut:cut (t.ay v) 0 7=some (t.ay v):=bw rfl;have jk:∀(K:AV->St->Option (AV×St)),ai c (.store 7) [.ptr p2 0,.agg (t.ay v)] s4 K=K .undef (ew s4 p2 (.cells (t.ay v) 0)):=λK=>by rw[jz c K s4 7 p2 0 (.agg (t.ay v)) _ z2 rfl (by simp) one];rfl
 have M3:=M2.store (p:=p2) (b:= .cells (t.ay v) 0) (by omega) (by rw[nz];omega) (λe=>by have:=u7 _ e;omega);have mem:v∈t.ay v:=by simp[aF.ay]
 obtain⟨g9,t1,_,t3⟩:=M3.MO mem (λu hu=>by simp only[aF.ay,Za2,Zd0,Zh2]at hu;rcases hu with rfl|rfl|rfl|rfl|rfl|rfl|rfl<;>first|exact eO.str ht.name|exact eO.int _ _|exact M.inst);refine⟨v,g9,?_,t3⟩;rw[Cr hc 1 (r:=(.agg (t.ay v),ew s4 p2 (.cells (t.ay v) 0))),t1];rw[Es];simp[zl,zd,x1,c4,C,aL,z1,hcut,jk]
theorem Vg(hc:Sem c)(t:aI)(ht:t.Real)(s:St)(hw:Wf s):∃v s',c 133 [.agg t.cells] s=some (.agg (t.ay v),s')/\Mk 1 s s' v (t.tg.map zY):=by
 have bR:Wf (af s (.cells t.cells 0)):=bA hw;have g1:=Grew.af hw (.cells t.cells 0);have eM:Wf (af (af s (.cells t.cells 0)) (.cells [.str [],.str [],.str [],.int .i64 0,.int .i64 0,.str [],.bool false,.bool false,.ax] 0)):=bA bR;have g2:=Grew.af bR (.cells [.str [],.str [],.str [],.int .i64 0,.int .i64 0,.str [],.bool false,.bool false,.ax] 0);have x1:(af (af s (.cells t.cells 0)) (.cells [.str [],.str [],.str [],.int .i64 0,.int .i64 0,.str [],.bool false,.bool false,.ax] 0)).heap.get s.next=some (.cells t.cells 0):=g2.get (aC _ _);have x2:=aC (af s (.cells t.cells 0)) (.cells [.str [],.str [],.str [],.int .i64 0,.int .i64 0,.str [],.bool false,.bool false,.ax] 0);have n12:s.next≠(af s (.cells t.cells 0)).next:=by rw[dc];exact Pos.Ph _
 have fP:s.next.toNat<(af s (.cells t.cells 0)).next.toNat:=by rw[dc,Pos.aB];omega
 have nl2:(af s (.cells t.cells 0)).next.toNat<(af (af s (.cells t.cells 0)) (.cells [.str [],.str [],.str [],.int .i64 0,.int .i64 0,.str [],.bool false,.bool false,.ax] 0)).next.toNat:=by rw[dc (af s (.cells t.cells 0)),Pos.aB];omega
 have gg:=g1.trans g2;have c4:t.cells[8]? =some (dL t.tz t.tg):=rfl;generalize zl:af (af s (.cells t.cells 0)) (.cells [.str [],.str [],.str [],.int .i64 0,.int .i64 0,.str [],.bool false,.bool false,.ax] 0)=s2 at eM g2 x1 x2 nl2 gg;generalize zd:(af s (.cells t.cells 0)).next=p2 at x2 n12 fP nl2;obtain⟨v,s3,C,M⟩:=Vd hc t.tz t.tg ht.tg s2 eM;obtain⟨vc,v1⟩:=M.cells;have y1:=M.aE.get x1;have y2:=M.aE.get x2;have u7:∀b,dS v=some b->s2.next.toNat<=b.toNat:=M.new;have aL:∀(K:AV->St->Option (AV×St)),ai c (.store 1) [.ptr s.next 8,v] s3 K=K .undef (ew s3 s.next (.cells (t.ay v) 0)):=λK=>by rw[jz c K s3 1 s.next 8 v t.cells y1 (by rw[vc];rfl) (by rw[aI.len];omega) (by rw[vc];exact v1),vc];rfl
 have nx3:=M.aE.next;have M1:Mk 1 s s3 v (t.tg.map zY):=M.back hw gg;have M2:=M1.store (p:=s.next) (b:= .cells (t.ay v) 0) (Za1 _) (by omega) (λe=>by have:=u7 _ e;omega);have z1:(ew s3 s.next (.cells (t.ay v) 0)).heap.get s.next=some (.cells (t.ay v) 0):=sk _ _ _;have z2:(ew s3 s.next (.cells (t.ay v) 0)).heap.get p2=some (.cells [.str [],.str [],.str [],.int .i64 0,.int .i64 0,.str [],.bool false,.bool false,.ax] 0):=by rw[bY n12];exact y2
 have nz:(ew s3 s.next (.cells (t.ay v) 0)).next=s3.next:=rfl;generalize hs4:ew s3 s.next (.cells (t.ay v) 0)=s4 at aL M2 z1 z2 nz;have one:aU (t.ay v)=true:=by
  simp only[aU]at v1;unfold aI.ay;simp only[aU,AV.one,v1,Zj2,Zj1]at*
 have hcut:cut (t.ay v) 0 9=some (t.ay v):=bw rfl;have jk:∀(K:AV->St->Option (AV×St)),ai c (.store 9) [.ptr p2 0,.agg (t.ay v)] s4 K=K .undef (ew s4 p2 (.cells (t.ay v) 0)):=λK=>by rw[jz c K s4 9 p2 0 (.agg (t.ay v)) _ z2 rfl (by simp) one];rfl
 have M3:=M2.store (p:=p2) (b:= .cells (t.ay v) 0) (by omega) (by rw[nz];omega) (λe=>by have:=u7 _ e;omega);have mem:v∈t.ay v:=by simp[aI.ay]
 obtain⟨g9,t1,_,t3⟩:=M3.MO mem (λu hu=>by simp only[aI.ay,Za2,Zd0,Zh2]at hu;rcases hu with rfl|rfl|rfl|rfl|rfl|rfl|rfl|rfl|rfl<;>first|exact eO.str ht.name|exact eO.str ht.kP|exact eO.str ht.iV|exact eO.str ht.kQ|exact eO.int _ _|exact eO.bool _|exact M.inst);refine⟨v,g9,?_,t3⟩;rw[Cs hc 1 (r:=(.agg (t.ay v),ew s4 p2 (.cells (t.ay v) 0))),t1];rw[Et];simp[zl,zd,x1,c4,C,aL,z1,hcut,jk]
theorem OU(hc:Sem c)(z:Bool)(ts:List aF)(hl:ts.length<=1000)(hr:∀t∈ts,t.Real)(F:Nat)(k2){s0:St}:∀(m k f:Nat)(s:St)(V:AV)(rows:List (List AV)),m<f->k+m=ts.length->TS s0 s V (ts.take k) rows->
  ∃s' V' HO,TS s0 s' V' ts HO/\fI c F k2 f [tabs z ts,V,.int .i64 (k:Int)] s=k2 [V'] s':=by
 have lI:∀(K:AV->St->Option (AV×St))(s:St),ai c (.lenB .l) [tabs z ts] s K=K (.int .i64 (ts.length:Int)) s:=λK s=>by unfold tabs;rw[bO];simp
 intro m;induction m with
 |zero=>
  intro k f s V rows hf h1 hT;obtain⟨f,rfl⟩:∃g,f=g+1:=⟨f - 1,by omega⟩
  obtain rfl:k=ts.length:=by omega
  refine⟨s,V,rows,by simpa using hT,?_⟩;rw[pH];simp[lI]
 |succ m ih=>
  intro k f s V rows hf h1 hT;obtain⟨f,rfl⟩:∃g,f=g+1:=⟨f - 1,by omega⟩
  have h:k<ts.length:=by omega
  have w:aD .i64 ((k:Int)+1)=((k+1:Nat):Int):=wrap64 (by omega) (by omega);have hw:=hT.out.aE.wf;obtain⟨v,s1,C,M⟩:=Vf hc ts[k] (hr _ (Zc0 h)) s hw;have O1:=hT.out.grow M.aE;have rl:rows.length=k:=by rw[hT.len];simp;omega
  obtain⟨s5,V5,a1,a2,a3,a4⟩:=O1.push (c:=c) (R:=AV×St) (bytes:=80) (z:=[.str [],.int .u8 0,.int .i64 0,.int .i64 0,.ax,.int .i64 0,.int .i64 0]) (x:= .agg (ts[k].ay v)) rfl rfl (aF.PZ _ M.cells.2) (by decide) (by rw[rl];omega) (by rw[rl];omega);have Mv:=M.back hT.out.BO hT.out.aE;have vV:∀b,dS v=some b->dS V≠some b:=λb hb e=>by have p1:=M.new b hb;have p2:=hT.out.own.lt hw e;omega
  have T5:TS s0 s5 V5 (ts.take (k+1)) (rows++[ts[k].ay v]):=by
   (refine⟨a2,by simp[rl];omega,λi t r hi KB=> ?_⟩;have small:∀u:AV,∀(rw:List (List AV)),Mk 1 s0 s1 u rw->(∀b,dS u=some b->dS V≠some b)->Mk 1 s0 s5 u rw/\∀b,dS u=some b->dS V5≠some b:=λu rw hu c9=>by refine⟨Mk.acm hu a2.aE λb x hb hx=>a3 b x (c9 b hb) hx,λb hb e=> ?_⟩;have p1:=a4 b e;have p2:=hu.own.lt hu.aE.wf hb;omega);by_cases Lp:i<k
   .    (rw[Zc7 (by omega)]at KB;have yf:(ts.take k)[i]? =some t:=by rw[Za9]at hi ⊢;rw[Za6 (by omega)]at hi;rw[Za6 Lp];exact hi);obtain⟨u,e1,e2,e3⟩:=hT.xM i t r yf KB;obtain⟨f1,f2⟩:=small u _ (e2.grow M.aE) e3;exact⟨u,e1,f1,f2⟩
   .    have ab0:i=k:=(by have:=(H3.1 hi).1;simp at this;omega);subst ab0;rw[Zc8 (by omega)]at KB;simp[rl]at KB;rw[Za9,Za6 (by omega),H1 h]at hi;cases hi;obtain⟨f1,f2⟩:=small v _ Mv vV;exact⟨v,KB.symm,f1,f2⟩
  obtain⟨s',V',HO,b1,b2⟩:=ih (k+1) f s5 V5 _ (by omega) (by omega) T5;refine⟨s',V',HO,b1,?_⟩;rw[<-b2,pH];unfold tabs at lI ⊢;simp[-cu,lI,h,w,aF.len,C,a1]
theorem R5(hc:Sem c)(z:Bool)(ts:List aF)(hl:ts.length<=1000)(hr:∀t∈ts,t.Real)(s:St)(hw:Wf s):∃V s' rows,c 96 [tabs z ts] s=some (V,s')/\TS s s' V ts rows:=by
 obtain⟨s',V,rows,hT,L⟩:=OU hc z ts hl hr (ts.length+1) (λvs qm=>dW vs λx3 vs=>fP vs (ai c .move [x3] qm λFD FG=>ai c .move [FD] FG λx2 FH=>some (x2,FH))) ts.length 0 (ts.length+1) s .ax [] (by omega) (by omega) ⟨Mk.start hw (Grew.refl hw),by simp,λi t r h=>by simp at h⟩;have fin:∃g9,tidy s (V,s')=(V,g9)/\TS s g9 V ts rows:=by
  unfold tidy;by_cases hp:Plain (V,s').1/\aV s (V,s').2
  . rw[Za6 hp];refine⟨s,rfl,?_⟩;rcases hT.out.loose with⟨b,off,n,e⟩|⟨jE,e⟩
    .   rw[e]at hp;exact(Go.Ai.lK hp.1).elim
    .   exact⟨jE s hw,hT.len,λi t r _ h=>by rw[e]at h;simp at h⟩
  .rw[Za5 hp];exact⟨s',rfl,hT⟩
 obtain⟨g9,t1,t2⟩:=fin;refine⟨V,g9,rows,?_,t2⟩;rw[AU hc (ts.length+1) (r:=(V,s')),t1];rw[CU];simp at L;simp[L]
theorem OV(hc:Sem c)(z:Bool)(ts:List aI)(hl:ts.length<=1000)(hr:∀t∈ts,t.Real)(F:Nat)(k2){s0:St}:∀(m k f:Nat)(s:St)(V:AV)(rows:List (List AV)),m<f->k+m=ts.length->GS s0 s V (ts.take k) rows->
  ∃s' V' HO,GS s0 s' V' ts HO/\fJ c F k2 f [bg z ts,V,.int .i64 (k:Int)] s=k2 [V'] s':=by
 have lI:∀(K:AV->St->Option (AV×St))(s:St),ai c (.lenB .l) [bg z ts] s K=K (.int .i64 (ts.length:Int)) s:=λK s=>by unfold bg;rw[bO];simp
 intro m;induction m with
 |zero=>
  intro k f s V rows hf h1 hT;obtain⟨f,rfl⟩:∃g,f=g+1:=⟨f - 1,by omega⟩
  obtain rfl:k=ts.length:=by omega
  refine⟨s,V,rows,by simpa using hT,?_⟩;rw[pI];simp[lI]
 |succ m ih=>
  intro k f s V rows hf h1 hT;obtain⟨f,rfl⟩:∃g,f=g+1:=⟨f - 1,by omega⟩
  have h:k<ts.length:=by omega
  have w:aD .i64 ((k:Int)+1)=((k+1:Nat):Int):=wrap64 (by omega) (by omega);have hw:=hT.out.aE.wf;obtain⟨v,s1,C,M⟩:=Vg hc ts[k] (hr _ (Zc0 h)) s hw;have O1:=hT.out.grow M.aE;have rl:rows.length=k:=by rw[hT.len];simp;omega
  obtain⟨s5,V5,a1,a2,a3,a4⟩:=O1.push (c:=c) (R:=AV×St) (bytes:=112) (z:=[.str [],.str [],.str [],.int .i64 0,.int .i64 0,.str [],.bool false,.bool false,.ax]) (x:= .agg (ts[k].ay v)) rfl rfl (aI.PZ _ M.cells.2) (by decide) (by rw[rl];omega) (by rw[rl];omega);have Mv:=M.back hT.out.BO hT.out.aE;have vV:∀b,dS v=some b->dS V≠some b:=λb hb e=>by have p1:=M.new b hb;have p2:=hT.out.own.lt hw e;omega
  have T5:GS s0 s5 V5 (ts.take (k+1)) (rows++[ts[k].ay v]):=by
   (refine⟨a2,by simp[rl];omega,λi t r hi KB=> ?_⟩;have small:∀u:AV,∀(rw:List (List AV)),Mk 1 s0 s1 u rw->(∀b,dS u=some b->dS V≠some b)->Mk 1 s0 s5 u rw/\∀b,dS u=some b->dS V5≠some b:=λu rw hu c9=>by refine⟨Mk.acm hu a2.aE λb x hb hx=>a3 b x (c9 b hb) hx,λb hb e=> ?_⟩;have p1:=a4 b e;have p2:=hu.own.lt hu.aE.wf hb;omega);by_cases Lp:i<k
   .    (rw[Zc7 (by omega)]at KB;have yf:(ts.take k)[i]? =some t:=by rw[Za9]at hi ⊢;rw[Za6 (by omega)]at hi;rw[Za6 Lp];exact hi);obtain⟨u,e1,e2,e3⟩:=hT.xM i t r yf KB;obtain⟨f1,f2⟩:=small u _ (e2.grow M.aE) e3;exact⟨u,e1,f1,f2⟩
   .    have ab0:i=k:=(by have:=(H3.1 hi).1;simp at this;omega);subst ab0;rw[Zc8 (by omega)]at KB;simp[rl]at KB;rw[Za9,Za6 (by omega),H1 h]at hi;cases hi;obtain⟨f1,f2⟩:=small v _ Mv vV;exact⟨v,KB.symm,f1,f2⟩
  obtain⟨s',V',HO,b1,b2⟩:=ih (k+1) f s5 V5 _ (by omega) (by omega) T5;refine⟨s',V',HO,b1,?_⟩;rw[<-b2,pI];unfold bg at lI ⊢;simp[-cu,lI,h,w,aI.len,C,a1]
theorem R6(hc:Sem c)(z:Bool)(ts:List aI)(hl:ts.length<=1000)(hr:∀t∈ts,t.Real)(s:St)(hw:Wf s):∃V s' rows,c 97 [bg z ts] s=some (V,s')/\GS s s' V ts rows:=by
 obtain⟨s',V,rows,hT,L⟩:=OV hc z ts hl hr (ts.length+1) (λvs qm=>dW vs λx3 vs=>fP vs (ai c .move [x3] qm λFD FG=>ai c .move [FD] FG λx2 FH=>some (x2,FH))) ts.length 0 (ts.length+1) s .ax [] (by omega) (by omega) ⟨Mk.start hw (Grew.refl hw),by simp,λi t r h=>by simp at h⟩;have fin:∃g9,tidy s (V,s')=(V,g9)/\GS s g9 V ts rows:=by
  unfold tidy;by_cases hp:Plain (V,s').1/\aV s (V,s').2
  . rw[Za6 hp];refine⟨s,rfl,?_⟩;rcases hT.out.loose with⟨b,off,n,e⟩|⟨jE,e⟩
    .   rw[e]at hp;exact(Go.Ai.lK hp.1).elim
    .   exact⟨jE s hw,hT.len,λi t r _ h=>by rw[e]at h;simp at h⟩
  .rw[Za5 hp];exact⟨s',rfl,hT⟩
 obtain⟨g9,t1,t2⟩:=fin;refine⟨V,g9,rows,?_,t2⟩;rw[AW hc (ts.length+1) (r:=(V,s')),t1];rw[CV];simp at L;simp[L]
theorem Qf(hc:Sem c)(p:aO)(hp:p.Real)(s:St)(hw:Wf s):∃Vs s',c 47 [.agg p.cells] s=some (.agg Vs,s')/\PS s s' Vs p:=by
 have bR:Wf (af s (.cells p.cells 0)):=bA hw;have eM:Wf (af (af s (.cells p.cells 0)) (.cells [.ax,.ax,.ax,.ax,.ax] 0)):=bA bR;have g2:=(Grew.af hw (.cells p.cells 0)).trans (Grew.af bR (.cells [.ax,.ax,.ax,.ax,.ax] 0));have x1:(af (af s (.cells p.cells 0)) (.cells [.ax,.ax,.ax,.ax,.ax] 0)).heap.get s.next=some (.cells p.cells 0):=(Grew.af bR _).get (aC _ _);have x2:=aC (af s (.cells p.cells 0)) (.cells [.ax,.ax,.ax,.ax,.ax] 0);have nl:s.next.toNat<(af s (.cells p.cells 0)).next.toNat:=by rw[dc,Pos.aB];omega
 generalize JI:af (af s (.cells p.cells 0)) (.cells [.ax,.ax,.ax,.ax,.ax] 0)=s1 at eM g2 x1 x2;generalize zd:(af s (.cells p.cells 0)).next=p2 at x2 nl;obtain⟨V1,s2,r1,C1,T1⟩:=R5 hc p.tz p.ts hp.ts hp.tab s1 eM;obtain⟨V2,s3,r2,C2,T2⟩:=R6 hc p.gz p.gs hp.gs hp.bl s2 T1.out.aE.wf;obtain⟨V3,s4,C3,T3⟩:=VK hc p.yz p.ys hp.ys s3 T2.out.aE.wf;obtain⟨V4,s5,C4,T4⟩:=Mj hc p.cz p.cs hp.cs s4 T3.aE.wf;obtain⟨V5,s6,C5,T5⟩:=Ve hc p.rz p.rs hp.rs s5 T4.aE.wf;have KC:=T1.out.aE;have Ml:=T2.out.aE;have OW:=T3.aE;have Rt:=T4.aE;have WZ:=T5.aE;have y2:=KC.get x1;have y3:=Ml.get y2;have y4:=OW.get y3;have y5:=Rt.get y4;have z6:=WZ.get (Rt.get (OW.get (Ml.get (KC.get x2))));have UD:=eM _ _ x2;have L0:∀(ok:AV->Bool)(K:AV->Option (AV×St)),ok (tabs p.tz p.ts)=true->mI (.load none) [.ptr s.next 0] s1.heap ok K=K (tabs p.tz p.ts):=λok K h=>Ko (by rw[x1];rfl) ok h K
 have L1:∀(ok:AV->Bool)(K:AV->Option (AV×St)),ok (bg p.gz p.gs)=true->mI (.load none) [.ptr s.next 1] s2.heap ok K=K (bg p.gz p.gs):=λok K h=>Ko (by rw[y2];rfl) ok h K
 have L2:∀(ok:AV->Bool)(K:AV->Option (AV×St)),ok (bW p.yz p.ys)=true->mI (.load none) [.ptr s.next 2] s3.heap ok K=K (bW p.yz p.ys):=λok K h=>Ko (by rw[y3];rfl) ok h K
 have L3:∀(ok:AV->Bool)(K:AV->Option (AV×St)),ok (ints p.cz p.cs)=true->mI (.load none) [.ptr s.next 3] s4.heap ok K=K (ints p.cz p.cs):=λok K h=>Ko (by rw[y4];rfl) ok h K
 have L4:∀(ok:AV->Bool)(K:AV->Option (AV×St)),ok (gX p.rz p.rs)=true->mI (.load none) [.ptr s.next 4] s5.heap ok K=K (gX p.rz p.rs):=λok K h=>Ko (by rw[y5];rfl) ok h K
 have b1:=vw (HF p.gz p.gs);have b2:=vw (X8 p.yz p.ys);have b3:=vw (X3 (d:=2) p.cz p.cs);have b4:=vw (ZV p.rz p.rs);have q11:=l6 (p:=s.next) (o:=1) (h:=s1.heap) (v:=bg p.gz p.gs) (by rw[x1];rfl) b1;have q21:=l6 (p:=s.next) (o:=2) (h:=s1.heap) (v:=bW p.yz p.ys) (by rw[x1];rfl) b2;have q22:=l6 (p:=s.next) (o:=2) (h:=s2.heap) (v:=bW p.yz p.ys) (by rw[y2];rfl) b2;have q31:=l6 (p:=s.next) (o:=3) (h:=s1.heap) (v:=ints p.cz p.cs) (by rw[x1];rfl) b3;have q32:=l6 (p:=s.next) (o:=3) (h:=s2.heap) (v:=ints p.cz p.cs) (by rw[y2];rfl) b3;have q33:=l6 (p:=s.next) (o:=3) (h:=s3.heap) (v:=ints p.cz p.cs) (by rw[y3];rfl) b3;have q41:=l6 (p:=s.next) (o:=4) (h:=s1.heap) (v:=gX p.rz p.rs) (by rw[x1];rfl) b4;have q42:=l6 (p:=s.next) (o:=4) (h:=s2.heap) (v:=gX p.rz p.rs) (by rw[y2];rfl) b4;have q43:=l6 (p:=s.next) (o:=4) (h:=s3.heap) (v:=gX p.rz p.rs) (by rw[y3];rfl) b4;have q44:=l6 (p:=s.next) (o:=4) (h:=s4.heap) (v:=gX p.rz p.rs) (by rw[y4];rfl) b4;obtain⟨c1,o1⟩:=T1.out.cells;obtain⟨c2,o2⟩:=T2.out.cells;obtain⟨c3,o3⟩:=T3.cells;obtain⟨c4,o4⟩:=T4.cells;obtain⟨c5,o5⟩:=T5.cells;have wE:bS [AV.ax,.ax,.ax,.ax,.ax] [(0,1),(1,1),(2,1),(3,1),(4,1)] [V1,V2,V3,V4,V5]=some [V1,V2,V3,V4,V5]:=by
  simp[bS,ee,eu,aK,c1,c2,c3,c4,c5]
 have one:aU [V1,V2,V3,V4,V5]=true:=by
  simp only[aU,Zj1]at o1 o2 o3 o4 o5;simp only[aU,o1,o2,o3,o4,o5,Zj2]
 have nU:∀(K:AV->St->Option (AV×St)),ai c (.store 5) [.ptr p2 0,.agg [V1,V2,V3,V4,V5]] s6 K=K .undef (ew s6 p2 (.cells [V1,V2,V3,V4,V5] 0)):=λK=>by rw[jz c K s6 5 p2 0 (.agg [V1,V2,V3,V4,V5]) _ z6 rfl (by simp) one];rfl
 have G16:=KC.trans (Ml.trans (OW.trans (Rt.trans WZ)));have G7:Grew s (ew s6 p2 (.cells [V1,V2,V3,V4,V5] 0)):=⟨E6 G16.wf (by have:=G16.next;omega),λq b hq=>by have:=hw _ _ hq;rw[bY (λe=>by rw[e]at nl;omega)];exact(g2.trans G16).get hq,by rw[BL];exact(g2.trans G16).next⟩
 have BP:∀q b,s1.next.toNat<=q.toNat->s6.heap.get q=some b->(ew s6 p2 (.cells [V1,V2,V3,V4,V5] 0)).heap.get q=some b:=λq b hq h=>by rw[bY (λe=>by rw[e]at UD;omega)];exact h
 have F1:=T1.wQ hw g2 G7 λq b hq h=>BP q b hq ((Ml.trans (OW.trans (Rt.trans WZ))).get h)
 have F2:=T2.wQ hw (g2.trans KC) G7 λq b hq h=>BP q b (Zc4 KC.next hq) ((OW.trans (Rt.trans WZ)).get h)
 have F3:=T3.wQ hw (g2.trans (KC.trans Ml)) G7 λq b hq h=>BP q b (Zc4 (KC.trans Ml).next hq) ((Rt.trans WZ).get h)
 have F4:=T4.wQ hw (g2.trans (KC.trans (Ml.trans OW))) G7 λq b hq h=>BP q b (Zc4 (KC.trans (Ml.trans OW)).next hq) (WZ.get h)
 have F5:=T5.wQ hw (g2.trans (KC.trans (Ml.trans (OW.trans Rt)))) G7 λq b hq h=>BP q b (Zc4 (KC.trans (Ml.trans (OW.trans Rt))).next hq) h
 have fin:∃g9,tidy s (.agg [V1,V2,V3,V4,V5],ew s6 p2 (.cells [V1,V2,V3,V4,V5] 0))=(.agg [V1,V2,V3,V4,V5],g9)/\PS s g9 [V1,V2,V3,V4,V5] p:=by
  unfold tidy;by_cases hP:Plain (AV.agg [V1,V2,V3,V4,V5],ew s6 p2 (.cells [V1,V2,V3,V4,V5] 0)).1/\aV s (AV.agg [V1,V2,V3,V4,V5],ew s6 p2 (.cells [V1,V2,V3,V4,V5] 0)).2
  . rw[Za6 hP];have inst:∀v∈[V1,V2,V3,V4,V5],eO v:=λv hv=>by
        simp only[Za2,Zd0,Zh2]at hv;rcases hv with rfl|rfl|rfl|rfl|rfl
        .exact F1.out.inst
        .exact F2.out.inst
        .exact F3.inst
        .exact F4.inst
        .exact F5.inst
    have k1:=F1.out.loose.resolve_left λ⟨b,off,n,e⟩=>absurd hP.1 (lf inst (b:=b) (off:=off) (n:=n) (es:=7) (by rw[<-e];simp))
    have k2:=F2.out.loose.resolve_left λ⟨b,off,n,e⟩=>absurd hP.1 (lf inst (b:=b) (off:=off) (n:=n) (es:=9) (by rw[<-e];simp))
    have k3:=F3.loose.resolve_left λ⟨b,off,n,e⟩=>absurd hP.1 (lf inst (b:=b) (off:=off) (n:=n) (es:=3) (by rw[<-e];simp))
    have k4:=F4.loose.resolve_left λ⟨b,off,n,e⟩=>absurd hP.1 (lf inst (b:=b) (off:=off) (n:=n) (es:=1) (by rw[<-e];simp))
    have k5:=F5.loose.resolve_left λ⟨b,off,n,e⟩=>absurd hP.1 (lf inst (b:=b) (off:=off) (n:=n) (es:=6) (by rw[<-e];simp))
    exact⟨s,rfl,Grew.refl hw,V1,V2,V3,V4,V5,r1,r2,rfl,⟨k1.1 s hw,F1.len,λi t r _ h=>by rw[k1.2]at h;simp at h⟩,⟨k2.1 s hw,F2.len,λi t r _ h=>by rw[k2.2]at h;simp at h⟩,k3.1 s hw,k4.1 s hw,k5.1 s hw⟩
  .rw[Za5 hP];exact⟨_,rfl,G7,V1,V2,V3,V4,V5,r1,r2,rfl,F1,F2,F3,F4,F5⟩
 obtain⟨g9,t1,t2⟩:=fin;refine⟨_,g9,?_,t2⟩;rw[zZ hc 1 (r:=(.agg [V1,V2,V3,V4,V5],ew s6 p2 (.cells [V1,V2,V3,V4,V5] 0))),t1];rw[Cn];have hcut:cut [V1,V2,V3,V4,V5] 0 5=some [V1,V2,V3,V4,V5]:=bw rfl;simp[JI,zd,L0,L1,L2,L3,L4,q11,q21,q22,q31,q32,q33,q41,q42,q43,q44,C1,C2,C3,C4,C5,wE,nU,hcut]
end
section
open Go Go.Ai Go.Proofs
section
variable{c:ah}
theorem VL(hc:Sem c)(z:Bool)(ts:List aF)(hl:ts.length<=100){n:Nat}(hn:n<=ts.length)(F:Nat)(s:St)(hw:Wf s)(k2):∀(m k:Nat),n<=k+m->k<=n->
  dw c F k2 (m+1) [tabs z ts,.int .i64 (n:Int),.int .i64 (aW (ts.take k)),.int .i64 (k:Int)] s=k2 [.int .i64 (aW (ts.take n))] s:=by
 intro m;induction m with
 |zero=>
  intro k h1 h2;obtain rfl:k=n:=by omega
  rw[iT];simp
 |succ m ih=>
  intro k h1 h2;rw[iT];by_cases h:k<n
  . have hk:k<ts.length:=(by omega);have w:aD .i64 ((k:Int)+1)=((k+1:Nat):Int):=wrap64 (by omega) (by omega);have hs:=xI hc ts[k] s hw;have e:aW (ts.take (k+1))=aW (ts.take k)+bN ts[k]:=by
        rw[Zb2 hk,AS]
    have w2:aD .i64 (aW (ts.take k)+bN ts[k])=aW (ts.take (k+1)):=by
        have b1:=uX (ts.take k);have b2:=tP ts[k];have b3:(ts.take k).length<=100:=(by simp;omega);rw[e];exact wrap64 (by omega) (by omega)
    rw[<-ih (k+1) (by omega) (by omega)];simp[tabs,h,hk,hs,w,w2]
  .obtain rfl:k=n:=(by omega);simp
theorem aaa(hc:Sem c)(z:Bool)(ts:List aF)(hl:ts.length<=100){n:Nat}(hn:n<=ts.length)(s:St)(hw:Wf s):c 111 [tabs z ts,.int .i64 (n:Int)] s=some (.int .i64 (aW (ts.take n)),s):=by
 rw[tM hc 101 (r:=(.int .i64 (aW (ts.take n)),s)),aq (Plain.int _ _) (aV.refl s)];rw[w9];have L:∀k2,dw c 101 k2 101 [tabs z ts,.int .i64 (n:Int),.int .i64 0,.int .i64 0] s=k2 [.int .i64 (aW (ts.take n))] s:=λk2=>by have:=VL hc z ts hl hn 101 s hw k2 100 0 (by omega) (by omega);simpa [aW]using this
 simp[L]
end
theorem adh(s:St)(d:Nat)(t:aF):cv s (d+1) (.agg t.cells)= .agg t.cells:=by
 rw[E7];simp only[aF.cells,ints,Zb1,Zd3,OR,yO,sv]
section
variable{c:ah}
theorem adi(hc:cj c)(p:aO)(m:Nat)(s:St):c 44 [.agg p.cells,.int .i64 (m:Int)] s=some (.bool (z7 p m),s):=
 hc.at (s:=jH 44) rfl (iD (by
  rw[Zb1,Zb1,Zd3,La];exact ad2 rfl p m (emptyAt s) (gJ s)) (bK.bool _))
theorem ab1(hc:cj c)(p:aO)(hp:p.Real)(s:St)(hw:Wf s):∃Vs s',c 47 [.agg p.cells] s=some (.agg Vs,s')/\PS s s' Vs p:=by obtain⟨Vs,s1,e,P⟩:=Qf (c:=run yu gg) rfl p hp (emptyAt s) (gJ s);refine⟨Vs,fc s s1,hc.at (s:=jH 47) rfl (Zt ?_ (bK.agg P.bare) P.aE.next),PS.fc hw P⟩;rw[Zb1,Zd3,La];exact e
theorem Vh(hc:cj c)(p:aO)(hp:p.fN)(hr:∀r∈p.rs,r.Ok)(s:St):c 53 [.agg p.cells] s=some (.tuple [.int .i64 (bU p).1,.int .i64 (bU p).2],s):=
 hc.at (s:=jH 53) rfl (iD (by
  rw[Zb1,Zd3,La];exact U6 rfl p hp (WV rfl hp) hr (emptyAt s) (gJ s)) (bK.tuple (by intro v hv;simp at hv;rcases hv with rfl|rfl<;>exact bK.int _ _)))
theorem KD(hc:cj c)(z:Bool)(ts:List aF)(hl:ts.length<=100)(s:St):c 101 [tabs z ts] s=some (.int .i64 (aW ts),s):=
 hc.at (s:=jH 101) rfl (iD (by
  rw[Zb1,Zd3,tabs,OR];exact Mc rfl z ts hl (emptyAt s) (gJ s)) (bK.int _ _))
theorem Vi(hc:cj c)(z:Bool)(ts:List aF)(hl:ts.length<=100){n:Nat}(hn:n<=ts.length)(s:St):c 111 [tabs z ts,.int .i64 (n:Int)] s=some (.int .i64 (aW (ts.take n)),s):=
 hc.at (s:=jH 111) rfl (iD (by
  rw[Zb1,Zb1,Zd3,tabs,OR,sv];exact aaa rfl z ts hl hn (emptyAt s) (gJ s)) (bK.int _ _))
theorem VM(hc:cj c)(t:aF)(s:St):c 118 [.agg t.cells] s=some (.int .i64 (bN t),s):=
 hc.at (s:=jH 118) rfl (iD (by
  rw[Zb1,Zd3,adh];exact xI rfl t (emptyAt s) (gJ s)) (bK.int _ _))
variable{s0 s:St}{Vs:List AV}{p:aO}
theorem Vj(hc:cj c)(h:PS s0 s Vs p){q:aO}(hq:p.cr q)(hR:p.Real)(hk:∀t∈p.ts,t.Ok):c 49 [.agg Vs,.agg q.cells] s=some (.bool true,s):=by
 obtain⟨p',e,S⟩:=h.cv 1;refine hc.at (s:=jH 49) rfl (iD ?_ (bK.bool _));rw[Zb1,Zb1,Zd3,e,La];exact P7 rfl p' q (S.symm.trans hq) ((S.real hR).aeS (λt ht=>by obtain⟨u,hu,z,rfl⟩:=S.tab ht;have:=hk u hu;exact⟨this.1,this.2⟩)) (emptyAt s) (gJ s)
end
end
noncomputable section
open Go Go.Ai Go.Proofs
attribute [local go_sem ↓] aZ uD ev TG yg getLT wT JB Of uB uC GY E8 E9 Fa A9 Ba Bb Bc Bd Be Fb Fe Bf Bg Bh Bi Bj KY KZ K3
attribute [local go_sem] aZ uD ev
section
variable(c:ah)(F:Nat)(x0 x1 x2 x3 x4 x5 x6 x7 x8 x9 Aj vE:AV)(s:St)
def zH:Sh:=(sq sl (sq sl sl))
def zI:PX 10 zH:=⟨_,by conv=>lhs;reduce⟩
def u5:O2:=aZ c F bf zI.1 [x0,x1] s
def KE:=(by dsimp only[u5,zI,go_sem,Int.reduceOfNat]:u5 c F x0 x1 s=_)
def mJ:Sh:=(sq sl (sq sl sl))
def mK:PX 45 mJ:=⟨_,by conv=>lhs;reduce⟩
def jC:O2:=aZ c F bf mK.1 [x0,x1] s
def xY:=(by dsimp only[jC,mK,go_sem,Int.reduceOfNat]:jC c F x0 x1 s=_)
def xR:Sh:=(sq sl (sq sl sl))
def xS:PX 46 xR:=⟨_,by conv=>lhs;reduce⟩
def rJ:O2:=aZ c F bf xS.1 [x0] s
def HP:=(by dsimp only[rJ,xS,go_sem,Int.reduceOfNat]:rJ c F x0 s=_)
def jV:Sh:=(sq sl (sq (sq sl (sq sl (sc (sq sl sl) sl))) (sq (sq sl (sc (sq sl sl) sl)) (sq sl (sq (sq sl (sb (sp 0 [1,2,10,11] [(1,[6,7]),(2,[])] (sq (sq sl (sc sl sl)) (sj [1,2,10,11] (sb (sq (sq sl (sc (sq (sq sl (sc (sq sl sl) sl)) sl) sl)) (sq (sq sl (sc (sq sl sl) sl)) (sq sl (sb (sp 1 [1,2,10,11,12] [(1,[6,7]),(4,[1,2,10,11])] (sq (sq sl (sc sl sl)) (sq (sb (sq sl (sc (sq sl sl) sl))) sl)))))))) sl))))) (sq sl sl))))))
def xT:PX 48 jV:=⟨_,by conv=>lhs;reduce⟩
def vY:PL 48 jV 1:=⟨_,by conv=>lhs;reduce⟩
def fA(k1 k4:Q2):Nat->Q2
 |0,_,_=>none
 |n+1,vs,s=>dX c F bf (fA k1 k4 n) [k1,k4] vY.1 vs s
def kZ(k1 k4:Q2)(n:Nat)(vs:List AV)(s:St):=(by dsimp only[fA,vY,go_sem,Int.reduceOfNat,Int.reduceNegSucc]:fA c F k1 k4 (n+1) vs s=_)
def vZ:Un->List Q2->Nat->Q2
 |(.s .z),[k1,k4]=>fA c F k1 k4
 |_,_=>λ_=>eJ
def v7:PL 48 jV 0:=⟨_,by conv=>lhs;reduce⟩
def gY(k1 k2:Q2):Nat->Q2
 |0,_,_=>none
 |n+1,vs,s=>dX c F (vZ c F) (gY k1 k2 n) [k1,k2] v7.1 vs s
def eE(k1 k2:Q2)(n:Nat)(vs:List AV)(s:St):=(by dsimp only[gY,v7, ↓vZ,go_sem,Int.reduceOfNat,Int.reduceNegSucc]:gY c F k1 k2 (n+1) vs s=_)
def oY:Un->List Q2->Nat->Q2
 |.z,[k1,k2]=>gY c F k1 k2
 |(.s .z),[k1,k4]=>fA c F k1 k4
 |_,_=>λ_=>eJ
def rK:O2:=aZ c F (oY c F) xT.1 [x0,x1,x2] s
def HQ:=(by dsimp only[rK,xT, ↓oY,go_sem,Int.reduceOfNat,Int.reduceNegSucc]:rK c F x0 x1 x2 s=_)
def jJ:Sh:=(sq sl (sq (sq sl (sb (sp 0 [0,1,7,8] [(1,[4]),(2,[])] (sq sl (sq (sc sl sl) (sq (sb (sq sl (sq sl (sc (sq sl sl) sl)))) sl)))))) (sq sl sl)))
def pL:PX 95 jJ:=⟨_,by conv=>lhs;reduce⟩
def nX:PL 95 jJ 0:=⟨_,by conv=>lhs;reduce⟩
def eC(k1 k2:Q2):Nat->Q2
 |0,_,_=>none
 |n+1,vs,s=>dX c F bf (eC k1 k2 n) [k1,k2] nX.1 vs s
def iR(k1 k2:Q2)(n:Nat)(vs:List AV)(s:St):=(by dsimp only[eC,nX,go_sem,Int.reduceOfNat,Int.reduceNegSucc]:eC c F k1 k2 (n+1) vs s=_)
def jK:Un->List Q2->Nat->Q2
 |.z,[k1,k2]=>eC c F k1 k2
 |_,_=>λ_=>eJ
def kF:O2:=aZ c F (jK c F) pL.1 [x0,x1] s
def Aa:=(by dsimp only[kF,pL, ↓jK,go_sem,Int.reduceOfNat,Int.reduceNegSucc]:kF c F x0 x1 s=_)
end
section
variable{c:ah}(hc:cj c)(F:Nat){x0 x1 x2 x3 x4 x5 x6 x7 x8 x9 Aj vE:AV}{s:St}{r:AV×St}
include hc
theorem HR(h:u5 c F x0 x1 s=some r):c 10 [x0,x1] s=some (tidy s r):=hc.o0 F zH (by kernel_rfl) (by kernel_rfl) h
theorem wj(h:jC c F x0 x1 s=some r):c 45 [x0,x1] s=some (tidy s r):=hc.o0 F mJ (by kernel_rfl) (by kernel_rfl) h
theorem EE(h:rJ c F x0 s=some r):c 46 [x0] s=some (tidy s r):=hc.o0 F xR (by kernel_rfl) (by kernel_rfl) h
theorem EF(h:rK c F x0 x1 x2 s=some r):c 48 [x0,x1,x2] s=some (tidy s r):=hc.oL F (oY c F) jV 2 (by kernel_rfl) (λi hi=>match i,hi with|0,_=>om 0 (by kernel_rfl) (λ_ _ _=>by kernel_rfl) (λ_ _ _ _=>by kernel_rfl)|1,_=>om 1 (by kernel_rfl) (λ_ _ _=>by kernel_rfl) (λ_ _ _ _=>by kernel_rfl)|n+2,h=>absurd h (by omega)) (by kernel_rfl) h
theorem yU(h:kF c F x0 x1 s=some r):c 95 [x0,x1] s=some (tidy s r):=hc.o1 F (jK c F) jJ (by kernel_rfl) (by kernel_rfl) (λ_ _ _=>by kernel_rfl) (λ_ _ _ _=>by kernel_rfl) (by kernel_rfl) h
end
end
section
set_option linter.unusedSimpArgs false
open Go Go.Ai Go.Proofs
variable{c:ah}
def kG(N:Nat)(w:Bool)(q:List Int):Nat->Nat->Int×Int
 |0,_=>(0,0)
 |m+1,k=>if w=true/\q.getD k 0= -1 then((k:Int),52)else if q.getD k 0< -1\/(N:Int)<=q.getD k 0 then((k:Int),50)else if 0<=q.getD k 0/\q.getD k 0∈q.take k then((k:Int),51)else kG N w q m (k+1)
def NS(p:aO):Nat:=(aW p.ts).toNat
def KF(p:aO)(w:Bool)(q:List Int):Int×Int:=if q.length≠p.gs.length then(0,53)else kG (NS p) w q q.length 0
def jv(p:aO)(w:Bool)(q:List Int):Int×Int:=if(bU p).2≠0 then(0,(bU p).2)else KF p w q
theorem HS{p:aO}(h:(bU p).2=0):(bh p.ts).2=0:=by
 unfold bU at h;split at h
 .rename_i k;exact absurd h k
 .rename_i k;exact Md (by simpa using k)
theorem KG{N:Nat}{w:Bool}{q:List Int}:∀(m k:Nat),(kG N w q m k).2=0->kG N w q m k=(0,0)
 |0,_,_=>rfl
 |m+1,k,h=>by
  rw[kG]at h ⊢;split at h<;>first|(simp at h;done)|skip
  split at h<;>first|(simp at h;done)|skip
  split at h<;>first|(simp at h;done)|skip
  rename_i h1 h2 h3;rw[Za5 h1,Za5 h2,Za5 h3];exact KG m (k+1) h
theorem W0{N:Nat}{w:Bool}{q:List Int}:∀(m k:Nat),k+m=q.length->(kG N w q m k).2=0->∀i x,k<=i->q[i]? =some x-> -1<=x/\x<(N:Int)/\(w=true->x≠ -1)/\(0<=x->x∉q.take i)
 |0,k,hk,_,i,x,hi,hx=>by have:=(H3.1 hx).1;omega
 |m +1,k,hk,h,i,x,hi,hx=>by
  rw[kG]at h;split at h<;>first|(simp at h;done)|skip
  split at h<;>first|(simp at h;done)|skip
  split at h<;>first|(simp at h;done)|skip
  rename_i h1 h2 h3;by_cases e:i=k
  .subst e;rw[Zd5,hx]at h1 h2 h3;simp only[Zi5]at h1 h2 h3;exact⟨by omega,by omega,λa b=>h1 ⟨a,b⟩,λa b=>h3 ⟨a,b⟩⟩
  .exact W0 m (k+1) (by omega) h i x (by omega) hx
theorem adj{N:Nat}{w:Bool}{q:List Int}(h:(kG N w q q.length 0).2=0):Mi N q.length q/\(w=true->(-1:Int)∉q):=by
 have h:=W0 q.length 0 (by omega) h;refine⟨⟨rfl,λx hx=> ?_,λa b x hab ha hb=> ?_⟩,λhw hm=> ?_⟩
 .obtain⟨i,hi⟩:=Zf2.1 hx;have:=h i x (by omega) hi;exact⟨this.1,this.2.1⟩
 .have:=(h b x (by omega) hb).2.2.2;(refine Int.not_le.1 λh0=>this h0 ?_);rw[Zf2];exact⟨a,by rw[Za9,Za6 hab];exact ha⟩
 .obtain⟨i,hi⟩:=Zf2.1 hm;exact(h i _ (by omega) hi).2.2.1 hw rfl
theorem W2{N:Nat}{w:Bool}{q:List Int}{m k:Nat}(hk:k<q.length){x:Int}(hx:q[k]=x):
  kG N w q (m+1) k=if w=true/\x= -1 then((k:Int),52)else if x< -1\/(N:Int)<=x then((k:Int),50)else if 0<=x/\x∈q.take k then((k:Int),51)else kG N w q m (k+1):=by
 rw[kG,Zd5,H1 hk,hx];rfl
section
variable{sB s:St}{P:AV}{q:List Int}{N n:Nat}
theorem aab {tb :Pos}(hql:q.length<=1000)(hN:N<=100000)(pq:QS 1 sB P (q.map cg))(hge:sB.next.toNat<=tb.toNat)(w0:Wf sB)(w:Bool)(F:Nat):
  ∀ (m k f:Nat)(s:St)(tk:List Bool),k+m=q.length->m<f->Grew sB s->s.heap.get tb=some (.cells (qy tk) 0)->tk.length=N->(∀i:Nat,i<N->(tk[i]? =some true↔(i:Int)∈q.take k))->∃s',Grew sB s'/\
    ∀k1 k2:Q2,lA c F k1 k2 f [.bool w,.int .i64 (N:Int),.slice tb 0 N (some N) 1,P,.int .i64 (q.length:Int),.int .i64 (k:Int)] s=if(kG N w q m k).2=0 then k2 [] s' else k1 [.int .i64 (kG N w q m k).1,.int .i64 (kG N w q m k).2] s':=by
 intro m;induction m with
 |zero=>
  intro k f s tk hk hf gr ht hl yd;obtain⟨f,rfl⟩:∃g,f=g+1:=⟨f - 1,by omega⟩
  obtain rfl:k=q.length:=by omega
  refine⟨s,gr,λk1 k2=> ?_⟩;rw[eA];simp[kG]
 |succ m ih   =>
  intro k f s tk hk hf gr ht hl yd;obtain⟨f,rfl⟩:∃g,f=g+1:=⟨f - 1,by omega⟩
  have dz:k<q.length:=by omega
  obtain⟨pb,po,p⟩:=rdI (pq.aE gr) (H1 dz);have p1:=λ{R}=>@p.st R
  have p3:=p.one;have wr:aD .i64 ((k:Int)+1)=((k+1:Nat):Int):=by rw[wrap64 (by omega) (by omega)];omega
  have Z8:q.take (k+1)=q.take k++[q[k]]:=by rw[Zk9,H1 dz];rfl
  have eb:=W2 (N:=N) (w:=w) (m:=m) dz rfl;generalize q[k]=x at*
  by_cases h0:0<=x
  . have d1   : decide (x= -1)=false:=H5 (by omega);have d2:decide (x< -1)=false:=H5 (by omega);have n1:¬(w=true/\x= -1):=λh=>by have:=h.2;omega
    rw[Za5 n1]at eb;by_cases hx:(N:Int)<=x
    .   have d3:decide ((N:Int)<=x)=true:=Za0 hx;have n2:x< -1\/(N:Int)<=x:= .inr hx;rw[Za6 n2]at eb;rw[eb];refine⟨s,gr,λk1 k2=> ?_⟩;rw[eA];simp[j0,dz,p1,p3,d1,d2,d3]
    .   have n2 :¬(x< -1\/(N:Int)<=x):=(by omega);rw[Za5 n2]at eb;have d3:decide ((N:Int)<=x)=false:=H5 hx;have d5:decide (0<=x)=true:=Za0 h0;obtain⟨i,rfl⟩:∃i:Nat,x=(i:Int):=⟨x.toNat,by omega⟩
        have hi:i<N:=(by omega);have d4:decide (N<=i)=false:=H5 (by omega);have ix:=λ(K:AV->St->Option (AV×St))(s1:St)=>MN c K s1 (b:=tb) (off:=0) (len:=N) (es:=1) (es':=1) (cap:=some N) (k:= .i64) (i:=i) hi
        simp only[Zb9,Zj4]at ix;by_cases hm:(i:Int)∈q.take k
        . have ec:(qy tk)[i]? =some (.bool true):=(by rw[Zb6,(yd i hi).2 hm];rfl);have n3:0<=(i:Int)/\(i:Int)∈q.take k:=⟨h0,hm⟩
          rw[Za6 n3]at eb;rw[eb];refine⟨s,gr,λk1 k2=> ?_⟩;rw[eA];simp[j0,dz,p1,p3,ix,d1,d2,d3,d4,d5,ht,av,ec]
        . have n3:¬(0<=(i:Int)/\(i:Int)∈q.take k):=λh=>hm h.2
          rw[Za5 n3]at eb;rw[eb];have IB:tk[i]? =some false:=by
            rw[H1 (by omega)];cases h:tk[i]'(by omega)with
            |false=>rfl
            |true=>exact absurd ((yd i hi).1 (by rw[H1 (by omega),h])) hm
          have ec:(qy tk)[i]? =some (.bool false):=(by rw[Zb6,IB];rfl);have pt:=λ(K:AV->St->Option (AV×St))=>Wx (c:=c) K ht (o:=i) (by rw[Zb3];omega) (v:= .bool true) rfl rfl
          rw[show(qy tk).set i (.bool true)=qy (tk.set i true)from(List.map_set).symm]at pt;have aY:=gr.wf _ _ ht;obtain⟨s',z1,z3⟩:=ih (k+1) f (ew s tb (.cells (qy (tk.set i true)) 0)) (tk.set i true) (by omega) (by omega) (Va w0 gr hge aY _) (sk _ _ _) (by simpa using hl) (λj hj=>by
            rw[Z8,Zd2,Zc3];by_cases e:i=j
            .subst e;rw[List.getElem?_set_self (by omega)];simp
            . rw[List.getElem?_set_ne e,yd j hj];constructor
              .exact .inl
              . rintro(h|h)
                .exact h
                .omega)
          refine⟨s',z1,λk1 k2=> ?_⟩;rw[<-z3 k1 k2,eA];simp[j0,dz,p1,p3,ix,pt,wr,d1,d2,d3,d4,d5,ht,av,ec]
  . have d5   :decide (0<=x)=false:=H5 h0;by_cases hx:x= -1
    .   subst hx;have d3:decide ((N:Int)<= -1)=false:=H5 (by omega);cases w with
        | true=>
          have n1:true=true/\(-1:Int)= -1:=⟨rfl,rfl⟩
          rw[Za6 n1]at eb;rw[eb];refine⟨s,gr,λk1 k2=> ?_⟩;rw[eA];simp[j0,dz,p1,p3]
        | false=>
          have n1:¬(false=true/\(-1:Int)= -1):=(by simp);have n2:¬((-1:Int)< -1\/(N:Int)<= -1):=(by omega);have n3:¬(0<=(-1:Int)/\(-1:Int)∈q.take k):=λh=>by have:=h.1;omega
          rw[Za5 n1,Za5 n2,Za5 n3]at eb;rw[eb];obtain⟨s',z1,z3⟩:=ih (k+1) f s tk (by omega) (by omega) gr ht hl (λj hj=>by
            rw[Z8,Zd2,Zc3,yd j hj];constructor
            .exact .inl
            . rintro(h|h)
              .exact h
              .omega)
          refine⟨s',z1,λk1 k2=> ?_⟩;rw[<-z3 k1 k2,eA];simp[j0,dz,p1,p3,wr,d3]
    .   have d1:decide (x= -1)=false:=H5 hx;have d2:decide (x< -1)=true:=Za0 (by omega);have n1:¬(w=true/\x= -1):=λh=>hx h.2
        have n2:x< -1\/(N:Int)<=x:= .inl (by omega);rw[Za5 n1,Za6 n2]at eb;rw[eb];refine⟨s,gr,λk1 k2=> ?_⟩;rw[eA];simp[j0,dz,p1,p3,d1,d2]
end
section
variable{s0 s:St}{Vs:List AV}{p:aO}{P:AV}{q:List Int}
theorem yV(a b:Int):Plain (.tuple [.int .i64 a,.int .i64 b]):= .tuple λv hv=>by simp at hv;rcases hv with rfl|rfl<;>exact .int _ _
theorem Sp(hp:p.fN):((NS p:Nat):Int)=aW p.ts/\NS p<=100000:=by have h1:=uX p.ts;have h2:=hp.ts;unfold NS;omega
theorem adk(hc:cj c)(h:PS s0 s Vs p)(hp:p.fN)(hv:(bh p.ts).2=0)(pq:QS 1 s P (q.map cg))(hl:q.length<=1000)(w:Bool):c 122 [.agg Vs,P,.bool w] s=some (.tuple [.int .i64 (KF p w q).1,.int .i64 (KF p w q).2],s):=by
 have hw:=h.aE.wf;have gN:=Grew.af hw (.cells Vs 0);have h1:=h.ju gN;obtain⟨V1,V2,r1,r2,e1,e2,T,T2,e5⟩:=h1.rT;have cn:=Kp hc h1 hp.ok hv e1;obtain⟨hs,hle⟩:=Sp hp;rw[<-hs]at cn;have ln:=λ(K:AV->St->Option (AV×St))(s1:St)=>pq.lenB (c:=c) K s1
 rw[Zb3]at ln;have lg:=λ(K:AV->St->Option (AV×St))(s1:St)=>T2.out.own.lenB (c:=c) K s1
 rw[T2.len]at lg;unfold KF;by_cases he:q.length=p.gs.length
 . (rw[Za5 (by simpa using he)];have mk:=λ(K:AV->St->Option (AV×St))=>Ww c K (af s (.cells Vs 0)) (es:=1) (bytes:=1) (z:=[.bool false]) (k:= .i64) (k':= .i64) (n:=NS p) (by omega) (by omega));rw[GW,Rr]at mk;have gT:=Grew.af gN.wf (.cells (qy (List.replicate (NS p) false)) 0);obtain⟨s',z1,z3⟩:=aab (c:=c) hl hle (pq.aE gN) (Za1 _) gN.wf w (q.length+1) q.length 0 (q.length+1) _ (List.replicate (NS p) false) (by omega) (by omega) gT (aC _ _) (by simp) (λi hi=>by rw[List.getElem?_replicate,Za6 hi];simp);simp only[show((0:Nat):Int)=0 from rfl]at z3;rw[yT hc (q.length+1) (r:=(.tuple [.int .i64 (kG (NS p) w q q.length 0).1,.int .i64 (kG (NS p) w q q.length 0).2],s')),aq (yV _ _) (gN.trans z1).keeps];rw[CH];simp[show ∀l,AV.cells (.agg l)=l from λl=>rfl,aC,av,e1,e2,ln,lg,he,cn];rw[mk, <-he,z3];by_cases hz:(kG (NS p) w q q.length 0).2=0
   .rw[Za6 hz,KG _ _ hz];simp
   .rw[Za5 hz];simp
 .rw[Za6 he];have d:decide ((q.length:Int)=(p.gs.length:Int))=false:=H5 (by omega);rw[yT hc 1 (r:=(.tuple [.int .i64 0,.int .i64 53],af s (.cells Vs 0))),aq (yV _ _) gN.keeps];rw[CH];simp[show ∀l,AV.cells (.agg l)=l from λl=>rfl,aC,av,e1,e2,ln,lg,he,d]
theorem aac(hc:cj c)(h:PS s0 s Vs p)(hp:p.fN)(hr:∀r∈p.rs,r.Ok)(pq:QS 1 s P (q.map cg))(hl:q.length<=1000)(w:Bool):c 80 [.agg Vs,P,.bool w] s=some (.tuple [.int .i64 (jv p w q).1,.int .i64 (jv p w q).2],s):=by
 have hw:=h.aE.wf;have gN:=Grew.af hw (.cells Vs 0);have h1:=h.ju gN;have hcut:cut Vs 0 5=some Vs:=bw h1.rT.choose_spec.choose_spec.choose_spec.choose_spec.2.2.2.2;have ck:=Rn hc h1 hp hr;unfold jv;by_cases hz:(bU p).2=0
 .rw[Za5 (by simpa using hz)];have kk:=adk hc h1 hp (HS hz) (pq.aE gN) hl w;rw[hz]at ck;rw[u0 hc 1 (r:=(.tuple [.int .i64 (KF p w q).1,.int .i64 (KF p w q).2],af s (.cells Vs 0))),aq (yV _ _) gN.keeps];rw[yR];simp[show ∀l,AV.cells (.agg l)=l from λl=>rfl,aC,av,hcut,ck,kk]
 .rw[Za6 hz];have d:decide ((bU p).2=0)=false:=H5 hz;rw[u0 hc 1 (r:=(.tuple [.int .i64 0,.int .i64 (bU p).2],af s (.cells Vs 0))),aq (yV _ _) gN.keeps];rw[yR];simp[show ∀l,AV.cells (.agg l)=l from λl=>rfl,aC,av,hcut,ck,d,hz]
theorem VN(hc:cj c)(h:PS s0 s Vs p)(hp:p.fN)(hr:∀r∈p.rs,r.Ok)(pq:QS 1 s P (q.map cg))(hl:q.length<=1000):c 33 [.agg Vs,P] s=some (.tuple [.int .i64 (jv p false q).1,.int .i64 (jv p false q).2],s):=by
 have hw:=h.aE.wf;have gN:=Grew.af hw (.cells Vs 0);have h1:=h.ju gN;have hcut:cut Vs 0 5=some Vs:=bw h1.rT.choose_spec.choose_spec.choose_spec.choose_spec.2.2.2.2;have kk:=aac hc h1 hp hr (pq.aE gN) hl false;rw[zG hc 1 (r:=(.tuple [.int .i64 (jv p false q).1,.int .i64 (jv p false q).2],af s (.cells Vs 0))),aq (yV _ _) gN.keeps];rw[CA];simp[show ∀l,AV.cells (.agg l)=l from λl=>rfl,aC,av,hcut,kk]
theorem Qg(hc:cj c)(h:PS s0 s Vs p)(hp:p.fN)(hr:∀r∈p.rs,r.Ok)(pq:QS 1 s P (q.map cg))(hl:q.length<=1000):c 88 [.agg Vs,P] s=some (.bool (decide ((jv p false q).2=0)),s):=by
 have hw:=h.aE.wf;have gN:=Grew.af hw (.cells Vs 0);have h1:=h.ju gN;have hcut:cut Vs 0 5=some Vs:=bw h1.rT.choose_spec.choose_spec.choose_spec.choose_spec.2.2.2.2;have kk:=VN hc h1 hp hr (pq.aE gN) hl;rw[FW hc 1 (r:=(.bool (decide ((jv p false q).2=0)),af s (.cells Vs 0))),aq (Plain.bool _) gN.keeps];rw[Ku];simp[show ∀l,AV.cells (.agg l)=l from λl=>rfl,aC,av,hcut,kk]
theorem aad(z:Bool)(hl:q.length<=1000){g:Nat}(hg:g<q.length)(x2 Aj:AV)(F:Nat)(k1 k4:Q2):∀(m k f:Nat),k+m=g->m<f->
  fA c F k1 k4 f [ints z q,x2,Aj,.int .i64 (g:Int),.int .i64 (k:Int)] s=if q[g]∈(q.take g).drop k then k1 [.int .i64 (g:Int),.int .i64 51] s else k4 [ints z q,x2,Aj,.int .i64 (g:Int)] s:=by
 intro m;induction m with
 |zero=>
  intro k f hk hf;obtain⟨f,rfl⟩:∃g,f=g+1:=⟨f - 1,by omega⟩
  obtain rfl:k=g:=by omega
  rw[kZ,Za5 (by rw[List.drop_of_length_le (by rw[Zh9];omega)];simp)];simp
 |succ m ih=>
  intro k f hk hf;obtain⟨f,rfl⟩:∃g,f=g+1:=⟨f - 1,by omega⟩
  have hkg:k<g:=by omega
  have dz:k<q.length:=by omega
  have wr:aD .i64 ((k:Int)+1)=((k+1:Nat):Int):=wrap64 (by omega) (by omega);have W3:=ih (k+1) f (by omega) (by omega);have ed:(q.take g).drop k=q[k]::(q.take g).drop (k+1):=by
    rw[Zb5 (by rw[Zh9];omega),Zk0]
  rw[ed];by_cases e:q[k]=q[g]
  .have d:decide (q[k]=q[g])=true:=Za0 e;rw[Za6 (by rw[e];simp),kZ];simp[ints,hkg,dz,hg,d]
  . have d:decide (q[k]=q[g])=false:=H5 e;have hiff:(q[g]∈q[k]::(q.take g).drop (k+1))↔q[g]∈(q.take g).drop (k+1):=by
        rw[Za2];constructor
        . rintro(h|h)
          .exact absurd h.symm e
          .exact h
        .exact .inr
    simp only[hiff];rw[<-W3,kZ];simp[ints,hkg,dz,hg,d,wr]
theorem aae(z:Bool)(hl:q.length<=1000){N:Nat}(w:Bool)(F:Nat)(hF:q.length<F)(k1 k2:Q2):∀(m k f:Nat),k+m=q.length->m<f->
  gY c F k1 k2 f [ints z q,.bool w,.int .i64 (N:Int),.int .i64 (k:Int)] s=if(kG N w q m k).2=0 then k2 [] s else k1 [.int .i64 (kG N w q m k).1,.int .i64 (kG N w q m k).2] s:=by
 intro m;induction m with
 |zero=>
  intro k f hk hf;obtain⟨f,rfl⟩:∃g,f=g+1:=⟨f - 1,by omega⟩
  obtain rfl:k=q.length:=by omega
  rw[eE];simp[kG,ints]
 |succ m ih=>
  intro k f hk hf;obtain⟨f,rfl⟩:∃g,f=g+1:=⟨f - 1,by omega⟩
  have dz:k<q.length:=by omega
  have wr:aD .i64 ((k:Int)+1)=((k+1:Nat):Int):=by rw[wrap64 (by omega) (by omega)];omega
  have W3:=ih (k+1) f (by omega) (by omega);have L1:=λk1 k4=>aad (c:=c) (s:=s) z hl dz (.bool w) (.int .i64 (N:Int)) F k1 k4 k 0 F (by omega) (by omega)
  simp only[Zc5,show((0:Nat):Int)=0 from rfl]at L1;have eb:=W2 (N:=N) (w:=w) (m:=m) dz rfl;have lI:∀(K:AV->St->Option (AV×St))(s:St),ai c (.lenB .l) [ints z q] s K=K (.int .i64 (q.length:Int)) s:=λK s=>by unfold ints;rw[bO];simp
  have ix:∀(K:AV->St->Option (AV×St))(s:St),ai c (.idxA 1 none) [ints z q,.int .i64 (k:Int)] s K=K (.fp (q.map λx=>[AV.int .i64 x]) k 0) s:=λK s=>by unfold ints;rw[ML,Zb3,Za6 dz];rfl
  have ld:∀(K:AV->St->Option (AV×St))(s:St),ai c (.load none) [.fp (q.map λx=>[AV.int .i64 x]) k 0] s K=K (.int .i64 q[k]) s:=λK s=>by simp[dz]
  generalize q[k]=x at*
  by_cases h1:x= -1
  . subst h1;cases w with
    |   true=>
        have n1:true=true/\(-1:Int)= -1:=⟨rfl,rfl⟩
        rw[Za6 n1]at eb;rw[eb,eE];simp[j0,lI,ix,ld,dz]
    |   false=>
        have n1:¬(false=true/\(-1:Int)= -1):=(by simp);have n2:¬((-1:Int)< -1\/(N:Int)<= -1):=(by omega);have n3:¬(0<=(-1:Int)/\(-1:Int)∈q.take k):=λh=>by have:=h.1;omega
        rw[Za5 n1,Za5 n2,Za5 n3]at eb;rw[eb, <-W3,eE];simp[j0,lI,ix,ld,dz,wr]
  . have n1:¬(w=true/\x= -1):=λh=>h1 h.2
    rw[Za5 n1]at eb;have d1:decide (x= -1)=false:=H5 h1;by_cases h2:x< -1\/(N:Int)<=x
    .   rw[Za6 h2]at eb;rw[eb,eE];by_cases h3:x<0
        .have d2:decide (x<0)=true:=Za0 h3;simp[j0,lI,ix,ld,dz,d1,d2]
        .have d2:decide (x<0)=false:=H5 h3;have d3:decide ((N:Int)<=x)=true:=Za0 (by omega);simp[j0,lI,ix,ld,dz,d1,d2,d3]
    .   rw[Za5 h2]at eb;have d2:decide (x<0)=false:=H5 (by omega);have d3:decide ((N:Int)<=x)=false:=H5 (by omega);by_cases h4:x∈q.take k
        . have n3:0<=x/\x∈q.take k:=⟨by omega,h4⟩
          rw[Za6 n3]at eb;rw[eb,eE];simp only[h4,Ze8]at L1;simp[j0,lI,ix,ld,dz,d1,d2,d3,L1]
        . have n3:¬(0<=x/\x∈q.take k):=λh=>h4 h.2
          rw[Za5 n3]at eb;rw[eb, <-W3,eE];simp only[h4,Zd7]at L1;simp[j0,lI,ix,ld,dz,d1,d2,d3,L1,wr]
theorem aaf(hc:cj c)(p:aO)(hp:p.fN)(hr:∀r∈p.rs,r.Ok)(z:Bool)(hl:q.length<=1000)(w:Bool)(hw:Wf s):c 48 [.agg p.cells,ints z q,.bool w] s=some (.tuple [.int .i64 (jv p w q).1,.int .i64 (jv p w q).2],s):=by
 have gN:=Grew.af hw (.cells p.cells 0);have x1:=aC s (.cells p.cells 0);have R:=Vh hc p hp hr (af s (.cells p.cells 0));have C:=KD hc p.tz p.ts hp.ts (af s (.cells p.cells 0));obtain⟨hs,hle⟩:=Sp hp;rw[<-hs]at C;have lI:∀(K:AV->St->Option (AV×St))(s:St),ai c (.lenB .l) [ints z q] s K=K (.int .i64 (q.length:Int)) s:=λK s=>by unfold ints;rw[bO];simp
 have lG:∀(K:AV->St->Option (AV×St))(s:St),ai c (.lenB .l) [bg p.gz p.gs] s K=K (.int .i64 (p.gs.length:Int)) s:=λK s=>by unfold bg;rw[bO];simp
 have L0:=λk1 k2=>aae (c:=c) (s:=af s (.cells p.cells 0)) z hl (N:=NS p) w (q.length+1) (by omega) k1 k2 q.length 0 (q.length+1) (by omega) (by omega)
 simp only[show((0:Nat):Int)=0 from rfl]at L0;have p0:p.cells[0]? =some (tabs p.tz p.ts):=rfl;have p1:p.cells[1]? =some (bg p.gz p.gs):=rfl;have vc:cut p.cells 0 5=some p.cells:=bw rfl;rw[EF hc (q.length+1) (r:=(.tuple [.int .i64 (jv p w q).1,.int .i64 (jv p w q).2],af s (.cells p.cells 0))),aq (yV _ _) gN.keeps];rw[HQ];unfold jv KF;by_cases hz:(bU p).2=0
 . rw[  hz]at R;rw[Za5 (by simpa using hz)];by_cases he:q.length=p.gs.length
   . rw[Za5 (by simpa using he)];have d:decide ((q.length:Int)=(p.gs.length:Int))=true:=Za0 (by omega);by_cases hb:(kG (NS p) w q q.length 0).2=0
     .  simp only[hb,Ze8]at L0;have e:=KG _ _ hb;rw[e];simp[show ∀l,AV.cells (.agg l)=l from λl=>rfl,x1,av,vc,R,lI,lG,d,he,p0,p1,C];rw[<-he,L0];simp
     .  simp only[hb,Zd7]at L0;simp[show ∀l,AV.cells (.agg l)=l from λl=>rfl,x1,av,vc,R,lI,lG,d,he,p0,p1,C];rw[<-he,L0];simp
   .rw[Za6 he];have d:decide ((q.length:Int)=(p.gs.length:Int))=false:=H5 (by omega);simp[show ∀l,AV.cells (.agg l)=l from λl=>rfl,x1,av,vc,R,lI,lG,d,he,p0,p1]
 .rw[Za6 hz];have d:decide ((bU p).2=0)=false:=H5 hz;simp[show ∀l,AV.cells (.agg l)=l from λl=>rfl,x1,av,vc,R,d,hz]
end
end
noncomputable section
open Go Go.Ai Go.Proofs
attribute [local go_sem ↓] aZ uD ev TG yg getLT wT JB Of uB uC GY E8 E9 Fa A9 Ba Bb Bc Bd Be Fb Fe Bf Bg Bh Bi Bj KY KZ K3
attribute [local go_sem] aZ uD ev
section
variable(c:ah)(F:Nat)(x0 x1 x2 x3 x4 x5 x6 x7 x8 x9 Aj vE:AV)(s:St)
end
section
variable{c:ah}(hc:cj c)(F:Nat){x0 x1 x2 x3 x4 x5 x6 x7 x8 x9 Aj vE:AV}{s:St}{r:AV×St}
include hc
end
end
section
set_option linter.unusedSimpArgs false
open Go Go.Ai Go.Proofs
variable{c:ah}
def qz(q:List Int):Nat->Nat->List Int
 |0,_=>[]
 |m+1,k=>(if q.contains (k:Int)then []else [(k:Int)])++qz q m (k+1)
theorem HT(q:List Int)(x:Int):decide (jI q x<0)= !q.contains x:=by unfold jI;cases h:q.contains x<;>simp
theorem Ru(q:List Int):∀m k,(qz q m k).length<=m
 |0,_=>Za1 _
 |m+1,k=>by have:=Ru q m (k+1);unfold qz;rw[Zd8];split<;>simp<;>omega
section
variable{s0 s sB:St}{Vs:List AV}{p:aO}{P:AV}{q:List Int}{N:Nat}
theorem adl(hc:cj c){b:Pos}(w0:Wf sB)(hb:sB.heap.get b=some (.cells [P] 0))(pq:QS 1 sB P (q.map cg))(hl:q.length<=1000000)(hN:N<=100000)(F:Nat):∀(m k f:Nat)(s:St)(v:AV)(acc:List Int),k+m=N->m<f->acc.length<=k->Mk 1 sB s v (acc.map cg)->
  ∃s' v',Mk 1 sB s' v' ((acc++qz q m k).map cg)/\∀k2:Q2,rH c F k2 f [.func 128 [] [.ptr b 0],v,.int .i64 (N:Int),.int .i64 (k:Int)] s=k2 [v'] s':=by
 intro m;induction m with
 |zero=>
  intro k f s v acc hk hf _ M;obtain⟨f,rfl⟩:∃g,f=g+1:=⟨f - 1,by omega⟩
  obtain rfl:k=N:=by omega
  refine⟨s,v,by simpa [qz]using M,λk2=> ?_⟩;rw[yQ];simp
 |succ m ih=>
  intro k f s v acc hk hf ha M;obtain⟨f,rfl⟩:∃g,f=g+1:=⟨f - 1,by omega⟩
  have dz:k<N:=by omega
  have wr:aD .i64 ((k:Int)+1)=((k+1:Nat):Int):=by rw[wrap64 (by omega) (by omega)];omega
  have wh:=WY hc (M.aE.get hb) (pq.aE M.aE) hl (k:Int);have dn:=HT q (k:Int);rw[qz];cases hq:q.contains (k:Int)
  .rw[hq]at dn;obtain⟨s5,v',a1,M',_,_⟩:=Mk.push (R:=AV×St) (c:=c) (bytes:=8) M (z:=[.int .i64 0]) (x:= .int .i64 (k:Int)) rfl rfl rfl (by decide) (by rw[Zb3];omega) (by rw[Zb3];omega);obtain⟨s',v2,z1,z2⟩:=ih (k+1) f s5 v' (acc++[(k:Int)]) (by omega) (by omega) (by simp;omega) (by rw[Zf4];exact M');refine⟨s',v2,by simpa using z1,λk2=> ?_⟩;rw[<-z2 k2,yQ];simp[-cu,j0,dz,nV,wh,dn,a1,wr]
  .rw[hq]at dn;obtain⟨s',v2,z1,z2⟩:=ih (k+1) f s v acc (by omega) (by omega) (by omega) M;refine⟨s',v2,by simpa using z1,λk2=> ?_⟩;rw[<-z2 k2,yQ];simp[j0,dz,nV,wh,dn,wr]
theorem adm(hc:cj c)(h:PS s0 s Vs p)(ok:Rs p N)(pq:QS 1 s P (q.map cg))(hq:Mi N p.gs.length q)(hP:P.cells=[P]):∃s' v,c 41 [.agg Vs,P] s=some (v,s')/\Mk 1 s s' v ((qz q N 0).map cg):=by have hw:=h.aE.wf;have gN:=Grew.af hw (.cells Vs 0);have h1:=h.ju gN;have gB:=Grew.af gN.wf (.cells [P] 0);have h2:=h1.ju gB;obtain⟨V1,V2,r1,r2,e1,e2,T,T2,e5⟩:=h2.rT;have hcut:cut Vs 0 5=some Vs:=bw e5;have va:=KA hc h1 ok (pq.aE gN) hq;have si:=OT hc P (af s (.cells Vs 0));rw[hP]at si;have cn:=Kp hc h2 ok.FO.ok ok.tabs e1;rw[<-ok.sum]at cn;have hgs:=ok.FO.gs;have Z9:=hq.len;obtain⟨s',v,z1,z2⟩:=adl (c:=c) hc gB.wf (aC _ _) (pq.aE (gN.trans gB)) (by omega) ok.le (N+1) N 0 (N+1) _ _ [] (by omega) (by omega) (by simp) (Mk.start gB.wf (Grew.refl gB.wf));simp only[show((0:Nat):Int)=0 from rfl,Ze5]at z1 z2;have M:=z1.back hw (gN.trans gB);obtain⟨s3,t1,t2⟩:=M.tidy;have gp:=gB.get (aC s (.cells Vs 0));refine⟨s3,v,?_,t2⟩;rw[IA hc (N+1) (r:=(v,s')),t1];rw[Mg];simp[show ∀l,AV.cells (.agg l)=l from λl=>rfl,aC,av,hcut,va,si,gp,e1,cn];rw[z2];simp
end
set_option linter.unusedSimpArgs false
structure Rx(s:St)(L:AV)(i:Nat)(P x:AV):Prop where
 st:∀{R:Type}(c:ah)(K:AV->St->Option R)(k:IntKind)(s1:St),ai c (.idxA 1 none) [L,.int k (i:Int)] s1 K=K P s1
 pr:∀{R:Type}(K:AV->Option R)(k:IntKind),gL (.idxA 1 none) [L,.int k (i:Int)] K=K P
 ld:∀{R:Type}(c:ah)(K:AV->St->Option R),ai c (.load none) [P] s K=K x s
 rd:∀{R:Type}(K:AV->Option R),mI (.load none) [P] s.heap (λ_=>true) K=K x
abbrev LS(s:St)(L:AV)(q:List Int):Prop:=Src 1 s L (q.map cg)
theorem LS.ro(s:St)(z:Bool)(q:List Int):LS s (ints z q) q:=Src.ro z _
theorem LS.rx{s:St}{L:AV}{q:List Int}(h:LS s L q){i:Nat}{x:Int}(hx:q[i]? =some x):∃P,Rx s L i P (.int .i64 x):=by
 obtain⟨hi,rfl⟩:=H3.1 hx;rcases h with rfl|h
 . have e:(AV.fl (q.map cg) 1)=Go.Ai.ro 1 false (q.map λx=>[AV.int .i64 x]):=(by unfold Go.Ai.ro;simp);refine⟨.fp (q.map λx=>[AV.int .i64 x]) i 0,λc K k s1=> ?_,λK k=> ?_,λc K=> ?_,λK=> ?_⟩
   .rw[e,ML,Zb3,Za6 hi];rfl
   .rw[e,aa6,Zb3,Za6 hi];rfl
   .simp[hi]
   .simp[hi]
 .obtain⟨b,o,p⟩:=rdI h hx;exact⟨.ptr b o,λc K k s1=>p.st c K k s1,λK k=>p.pr K k,λc K=>by simp[p.one],λK=>by simp[p.one]⟩
theorem LS.lenB{s:St}{L:AV}{q:List Int}(h:LS s L q){R:Type}(K:AV->St->Option R)(s1:St):ai c (.lenB .l) [L] s1 K=K (.int .i64 (q.length:Int)) s1:=by
 rcases h with rfl|h
 . have:=aT (k:= .lenB .l) (xs:=[.fl (q.map cg) 1]) (v:= .int .i64 ((q.map cg).length:Int)) c K (λH n=>rfl) s1
   rwa [Zb3]at this
 . have:=h.lenB (c:=c) K s1
   rwa [Zb3]at this
section
variable{s:St}{P Q:AV}{q r:List Int}
theorem aag(pq:LS s P q)(pr:LS s Q r)(hl:q.length<=1000000)(he:q.length=r.length)(F:Nat)(k1 k2:Q2):∀(m k f:Nat),k+m=q.length->m<f->
  fU c F k1 k2 f [P,Q,.int .i64 (q.length:Int),.int .i64 (k:Int)] s=if q.drop k=r.drop k then k2 [] s else k1 [.bool false] s:=by
 intro m;induction m with
 |zero=>
  intro k f hk hf;obtain⟨f,rfl⟩:∃g,f=g+1:=⟨f - 1,by omega⟩
  obtain rfl:k=q.length:=by omega
  rw[jT,Zn8,he,Zn8];simp
 |succ m ih=>
  intro k f hk hf;obtain⟨f,rfl⟩:∃g,f=g+1:=⟨f - 1,by omega⟩
  have dz:k<q.length:=by omega
  have hkr:k<r.length:=by omega
  obtain⟨p',p⟩:=pq.rx (H1 dz);obtain⟨r',x⟩:=pr.rx (H1 hkr);have p1:=λ{R}=>@p.pr R
  have p2:=λ{R}=>@p.rd R
  have p3:=λ{R}=>@p.st R
  have p4:=λ{R}=>@p.ld R
  have x1:=λ{R}=>@x.pr R
  have x2:=λ{R}=>@x.rd R
  have x3:=λ{R}=>@x.st R
  have x4:=λ{R}=>@x.ld R
  have wr:aD .i64 ((k:Int)+1)=((k+1:Nat):Int):=wrap64 (by omega) (by omega);have key:(q.drop k=r.drop k)↔(q[k]=r[k]/\q.drop (k+1)=r.drop (k+1)):=by rw[Zb5 dz,Zb5 hkr,Zh6]
  by_cases e:q[k]=r[k]
  .have key2:(q.drop k=r.drop k)↔(q.drop (k+1)=r.drop (k+1)):=key.trans ⟨λh=>h.2,λh=>⟨e,h⟩⟩;rw[show(if q.drop k=r.drop k then k2 [] s else k1 [.bool false] s)=(if q.drop (k+1)=r.drop (k+1)then k2 [] s else k1 [.bool false] s)from by simp only[key2], <-ih (k+1) f (by omega) (by omega),jT];have d2:decide (q[k]=r[k])=true:=Za0 e;simp[dz,p1,p2,p3,p4,x1,x2,x3,x4,d2,wr]
  .rw[Za5 (λh=>e (key.1 h).1),jT];have d2:decide (q[k]=r[k])=false:=H5 e;simp[dz,p1,p2,p3,p4,x1,x2,x3,x4,d2]
theorem v8(hc:cj c)(pq:LS s P q)(pr:LS s Q r)(hl:q.length<=1000000):c 21 [P,Q] s=some (.bool (decide (q=r)),s):=by
 have ln:=λ(K:AV->St->Option (AV×St))=>pq.lenB (c:=c) K s
 have lr:=λ(K:AV->St->Option (AV×St))=>pr.lenB (c:=c) K s
 rw[CL hc (q.length+1) (r:=(.bool (decide (q=r)),s)),aq (Plain.bool _) (aV.refl s)];rw[Ez];by_cases he:q.length=r.length
 . have hi:=λk1 k2=>aag (c:=c) pq pr hl he (q.length+1) k1 k2 q.length 0 (q.length+1) (by omega) (by omega)
   simp only[Zc5,show((0:Nat):Int)=0 from rfl]at hi;simp[ln,lr,he];rw[<-he,hi];split
   .rename_i h;rw[Za0 h];simp
   .rename_i h;rw[H5 h];simp
 . have d:decide (q=r)=false:=H5 λe=>he (by rw[e])
   have hz:¬((q.length:Int)=(r.length:Int)):=(by omega);simp[ln,lr,hz,d]
theorem aah(hc:cj c)(hw:Wf s)(hS:LS s P q)(hl:q.length<=1000):∃v s',c 17 [P] s=some (v,s')/\Mk 1 s s' v (q.map cg):=by
 rcases hS.nil with⟨rfl,h0⟩|hn
 . (refine⟨.ax,s,?_,by rw[h0];exact Mk.start hw (Grew.refl hw)⟩;rw[rI hc 1 (r:=(.ax,s)),aq Plain.ax (aV.refl s)];rw[uq];have e:∀(K:AV->St->Option (AV×St))(s:St),ai c (.bin .eql .slice) [.ax,.ax] s K=K (.bool true) s:=λK s=>aT c K (λH n=>rfl) s);simp[e]
 .obtain⟨v,s',a1,a2⟩:=Q4 (c:=c) (R:=AV×St) (bytes:=8) (z:=[.int .i64 0]) (λr hr=>by obtain⟨m,_,rfl⟩:=Zf3.1 hr;rfl) (by decide) (by simp;omega) (by simp;omega) s hw hS;obtain⟨g9,t1,t2⟩:=a2.tidy;refine⟨v,g9,?_,t2⟩;rw[rI hc 1 (r:=(v,s')),t1];rw[uq];simp only[bH,hn,qk];rw[a1]
end
set_option linter.unusedSimpArgs false
section
variable{q:List Int}{g h:Nat}
end
end
end Go.Proofs.YtlkadmkojjceiaaGreatDoor
section
end
namespace Go.Proofs.YtlkadmkojjceiaaGreatDoor
section
set_option linter.unusedSimpArgs false
open Go Go.Ai Go.Proofs
variable{c:ah}
theorem PS.cells{s0 s:St}{Vs:List AV}{p:aO}(h:PS s0 s Vs p):Vs.length=5/\aU Vs=true:=by
 obtain⟨G,V1,V2,V3,V4,V5,r1,r2,rfl,F1,F2,F3,F4,F5⟩:=h;have o1:=F1.out.cells.2;have o2:=F2.out.cells.2;have o3:=F3.cells.2;have o4:=F4.cells.2;have o5:=F5.cells.2;simp only[aU,Zj1]at o1 o2 o3 o4 o5;exact⟨rfl,by simp only[aU,o1,o2,o3,o4,o5,Zj2]⟩
set_option linter.unusedSimpArgs false
def jw:List (List Int)->Nat->Int
 |[],_=> -1
 |q::qs,k=>if 30<q.length then(k:Int)else jw qs (k+1)
theorem Rv:∀(qs:List (List Int))(k:Nat),jw qs k<0↔ ∀q∈qs,q.length<=30
 |[],k=>by simp[jw]
 |q ::qs,k=>by
  rw[jw];by_cases h:30<q.length
  .rw[Za6 h];refine⟨λh=>by omega,λhh=> ?_⟩;have:=hh q (by simp);omega
  .rw[Za5 h,Rv qs (k+1)];simp;omega
structure Vk(s:St)(L:AV)(vs:List AV)(qs:List (List Int)):Prop where
 own:QS 1 s L (vs.map XH)
 len:vs.length=qs.length
 xM:∀(i:Nat)(v:AV)(q:List Int),vs[i]? =some v->qs[i]? =some q->LS s v q
section
variable{s:St}{L:AV}{vs:List AV}{qs:List (List Int)}{p:aO}
theorem adn(hc:cj c){v:AV}{q:List Int}(h:LS s v q):c 46 [v] s=some (.bool (decide (30<q.length)),s):=by
 have ln:=λ(K:AV->St->Option (AV×St))=>h.lenB (c:=c) K s
 rw[EE hc 1 (r:=(.bool (decide (30<q.length)),s)),aq (Plain.bool _) (aV.refl s)];rw[HP];have e:decide ((30:Int)<(q.length:Int))=decide (30<q.length):=decide_eq_decide.2 (by omega);simp[ln,e]
theorem ado(hc:cj c)(h:Vk s L vs qs)(hl:vs.length<=1000)(F:Nat)(k1 k2:Q2):∀(m k f:Nat),k+m=vs.length->m<f->
  eC c F k1 k2 f [L,.func 46 [] [],.int .i64 (vs.length:Int),.int .i64 (k:Int)] s=if jw (qs.drop k) k<0 then k2 [] s else k1 [.int .i64 (jw (qs.drop k) k)] s:=by
 intro m;induction m with
 |zero=>
  intro k f hk hf;obtain⟨f,rfl⟩:∃g,f=g+1:=⟨f - 1,by omega⟩
  obtain rfl:k=vs.length:=by omega
  rw[iR,h.len,Zn8];simp[jw]
 |succ m ih=>
  intro k f hk hf;obtain⟨f,rfl⟩:∃g,f=g+1:=⟨f - 1,by omega⟩
  have dz:k<vs.length:=by omega
  have hkq:k<qs.length:=by rw[<-h.len];exact dz
  obtain⟨b,o,p⟩:=h.own.rd1 (H1 dz);have p1:=λ{R}=>@p.st R
  have p3:=p.one;have w:=adn hc (h.xM k _ _ (H1 dz) (H1 hkq));have wr:aD .i64 ((k:Int)+1)=((k+1:Nat):Int):=wrap64 (by omega) (by omega);have W3:=ih (k+1) f (by omega) (by omega);rw[Zb5 hkq,jw];by_cases e:30<qs[k].length
  .rw[Za0 e]at w;rw[Za6 e,Za5 (by omega),iR];simp[dz,p1,p3,nV,w]
  .rw[H5 e]at w;rw[Za5 e, <-W3,iR];simp[dz,p1,p3,nV,w,wr]
theorem ab2(hc:cj c)(h:Vk s L vs qs)(hl:vs.length<=1000):c 45 [L,.func 46 [] []] s=some (.bool (decide (0<=jw qs 0)),s):=by
 have ln:=λ(K:AV->St->Option (AV×St))=>h.own.lenB (c:=c) K s
 rw[Zb3]at ln;have L0:=λk1 k2=>ado (c:=c) hc h hl (vs.length+1) k1 k2 vs.length 0 (vs.length+1) (by omega) (by omega)
 simp only[Zc5,show((0:Nat):Int)=0 from rfl]at L0;have I:c 95 [L,.func 46 [] []] s=some (.int .i64 (if jw qs 0<0 then -1 else jw qs 0),s):=by rw[yU hc (vs.length+1) (r:=(.int .i64 (if jw qs 0<0 then -1 else jw qs 0),s)),aq (Plain.int _ _) (aV.refl s)];rw[Aa];simp only[bH,ln,L0];split<;>simp
 rw[wj hc 1 (r:=(.bool (decide (0<=jw qs 0)),s)),aq (Plain.bool _) (aV.refl s)];rw[xY];have e:decide (0<=(if jw qs 0<0 then(-1:Int)else jw qs 0))=decide (0<=jw qs 0):=decide_eq_decide.2 (by split<;>omega);simp[I,e]
def Qh(p:aO)(qs:List (List Int)):Bool:=decide (p.ts.length<=5)&&(z7 p 20&&decide (jw qs 0<0))
theorem adp{p:aO}{qs:List (List Int)}(h:Qh p qs=true):p.ts.length<=5/\z7 p 100=true/\p.gs.length<=20/\∀q∈qs,q.length<=30:=by unfold Qh z7 at h;simp only[Za4,Zc6]at h;obtain⟨h1,⟨⟨⟨⟨a1,a2⟩,a3⟩,a4⟩,a5⟩,h3⟩:=h;refine⟨h1,?_,a2,(Rv qs 0).1 h3⟩;unfold z7;simp only[Za4,Zc6];omega
theorem adq(hc:cj c)(hw:Wf s)(p:aO)(h:Vk s L vs qs)(hl:vs.length<=1000):c 10 [.agg p.cells,L] s=some (.bool (Qh p qs),s):=by
 have gN:=Grew.af hw (.cells p.cells 0);have x1:=aC s (.cells p.cells 0);have h1:Vk (af s (.cells p.cells 0)) L vs qs:=⟨h.own.aE gN,h.len,λi v q a b=>(h.xM i v q a b).aE gN⟩
 have C:=ab2 hc h1 hl;have F:c 44 [.agg p.cells,.int .i64 20] (af s (.cells p.cells 0))=some (.bool (z7 p 20),af s (.cells p.cells 0)):=adi hc p 20 _;have lT:∀(K:AV->St->Option (AV×St))(s:St),ai c (.lenB .l) [tabs p.tz p.ts] s K=K (.int .i64 (p.ts.length:Int)) s:=λK s=>by unfold tabs;rw[bO];simp
 have vc:cut p.cells 0 5=some p.cells:=bw rfl;have p0:p.cells[0]? =some (tabs p.tz p.ts):=rfl;have e1:decide ((p.ts.length:Int)<=5)=decide (p.ts.length<=5):=decide_eq_decide.2 (by omega);have e2:(!decide (0<=jw qs 0))=decide (jw qs 0<0):=by
   by_cases e:0<=jw qs 0
   .rw[Za0 e,H5 (by omega)];rfl
   .rw[H5 e,Za0 (by omega)];rfl
 rw[HR hc 1 (r:=(.bool (Qh p qs),af s (.cells p.cells 0))),aq (Plain.bool _) gN.keeps];rw[KE];unfold Qh;rw[<-e2];by_cases a:p.ts.length<=5
 . have d:decide (p.ts.length<=5)=true:=Za0 a;rw[d]at e1;cases b:z7 p 20
   .rw[b]at F;simp[x1,av,vc,p0,lT,e1,d,F,a]
   .rw[b]at F;simp[x1,av,vc,p0,lT,e1,d,F,C,a]
 .have d:decide (p.ts.length<=5)=false:=H5 a;rw[d]at e1;simp[x1,av,vc,p0,lT,e1,d,a]
theorem Vk.one{s:St}{z:Bool}{q:List Int}(hw:Wf s):Vk (af s (.cells [ints z q] 0)) (.slice s.next 0 1 (some 1) 1) [ints z q] [q]:=
 ⟨.inr (.inl ⟨s.next,0,some 1,[ints z q],rfl,aC _ _,by simp,rfl,.inr rfl⟩),rfl,λi v q' a b=>by
  cases i with
  |zero=>simp at a b;subst a;subst b;exact LS.ro _ _ _
  |succ i=>simp at a⟩
theorem aO.Laid.real{p:aO}(hl:p.Laid)(hp:p.fN):p.Real:=⟨by have:=hp.ts;omega,λt ht=>(hl.tab t ht).2,by have:=hp.gs;omega,hl.bl,hl.ys,hl.cs,hl.rs⟩
theorem aO.cr.refl(p:aO):p.cr p:=⟨rfl,λi t t' h1 h2=>⟨t.oz,by rw[h1]at h2;cases h2;rfl⟩,rfl,λi t t' h1 h2=>⟨t.tz,by rw[h1]at h2;cases h2;rfl⟩,rfl,rfl,rfl⟩
end
set_option linter.unusedSimpArgs false
def sC(f:Nat->Bool):Nat->Nat
 |0=>0
 |a+1=>sC f a+(f a).toNat
abbrev tkn(q:List Int)(i:Nat):Bool:=q.contains (i:Int)
section
variable{s0 s sB:St}{Vs:List AV}{p:aO}{P:AV}{q:List Int}{N:Nat}
theorem ad3(hc:cj c)(h:PS s0 s Vs p)(ok:Rs p N)(pq:QS 1 s P (q.map cg))(hq:Mi N p.gs.length q)(k:Nat):
  c 39 [.agg Vs,P,.int .i64 (k:Int)] s=some (.tuple [.int .i64 (max (jI q k) 0),.bool (q.contains (k:Int))],s):=by
 have hw:=h.aE.wf;have gN:=Grew.af hw (.cells Vs 0);have h1:=h.ju gN;have hcut:cut Vs 0 5=some Vs:=bw h1.rT.choose_spec.choose_spec.choose_spec.choose_spec.2.2.2.2;have va:=KA hc h1 ok (pq.aE gN) hq;have hgs:=ok.FO.gs;have Z9:=hq.len;have ix:=OS hc (pq.aE gN) (by omega) (k:Int);have mx:=λ(K:AV->St->Option (AV×St))(s:St)=>aT c K (λH n=>Pk H n .i64 .i64 (jI q k) 0) s
 have dn:=HT q (k:Int);have d0:decide (0<=jI q k)=q.contains (k:Int):=by
  have:decide (0<=jI q k)= !decide (jI q k<0):=by rw[Zh5];simp
  rw[this,dn,Bool.not_not]
 rw[Mh hc 1 (r:=(.tuple [.int .i64 (max (jI q k) 0),.bool (q.contains (k:Int))],af s (.cells Vs 0))),aq (.tuple λv hv=>by simp at hv;rcases hv with rfl|rfl;exact .int _ _;exact .bool _) gN.keeps];rw[Rq];have dk:decide ((k:Int)<0)=false:=H5 (by omega);simp[dk,show ∀l,AV.cells (.agg l)=l from λl=>rfl,aC,av,hcut,va,ix,mx,d0]
theorem aai(hc:cj c)(hw:Wf s){t:aF}{v:AV}(hM:Mk 1 s0 s v (t.b9.map cg))(ct:t.Ok)(hk:lZ t=0):c 90 [.agg (t.ay v)] s=some (.int .i64 (bN t),s):=by
 have gN:=Grew.af hw (.cells (t.ay v) 0);have k1:=Yc hc (hM.grow gN) ct;have k2:=Z7 hc (hM.grow gN);rw[hk]at k1;have hcut:cut (t.ay v) 0 7=some (t.ay v):=bw rfl;rw[Qb hc 1 (r:=(.int .i64 (bN t),af s (.cells (t.ay v) 0))),aq (Plain.int _ _) gN.keeps];rw[U9];simp[show ∀l,AV.cells (.agg l)=l from λl=>rfl,aC,av,hcut,k1,k2]
def KH(q:List Int):Nat->Nat->List Int
 |0,_=>[]
 |m+1,k=>jI q (k:Int)::KH q m (k+1)
theorem W4(q:List Int):∀m k,(KH q m k).length=m
 |0,_=>rfl
 |m+1,k=>by rw[KH,Ze3,W4 q m (k+1)]
theorem aaj(hc:cj c){b:Pos}(w0:Wf sB)(hb:sB.heap.get b=some (.cells [P] 0))(pq:QS 1 sB P (q.map cg))(hl:q.length<=1000000){f0:Nat}(IB:f0<=1000000){N:Nat}(hN:N<=100000)(F:Nat):∀(m k f:Nat)(s:St)(v:AV)(acc:List Int),k+m=N->m<f->acc.length=k->Mk 1 sB s v (acc.map cg)->
  ∃s' v',Mk 1 sB s' v' ((acc++KH q m (f0+k)).map cg)/\∀k2:Q2,nL c F k2 f [.func 128 [] [.ptr b 0],.int .i64 (f0:Int),v,.int .i64 (N:Int),.int .i64 (k:Int)] s=k2 [v'] s':=by
 intro m;induction m with
 |zero=>
  intro k f s v acc hk hf _ M;obtain⟨f,rfl⟩:∃g,f=g+1:=⟨f - 1,by omega⟩
  obtain rfl:k=N:=by omega
  refine⟨s,v,by simpa [KH]using M,λk2=> ?_⟩;rw[CB];simp
 |succ m ih=>
  intro k f s v acc hk hf ha M;obtain⟨f,rfl⟩:∃g,f=g+1:=⟨f - 1,by omega⟩
  have dz:k<N:=by omega
  have wr:aD .i64 ((k:Int)+1)=((k+1:Nat):Int):=by rw[wrap64 (by omega) (by omega)];omega
  have wf:aD .i64 ((f0:Int)+(k:Int))=((f0+k:Nat):Int):=by rw[wrap64 (by omega) (by omega)];omega
  have wh:=WY hc (M.aE.get hb) (pq.aE M.aE) hl ((f0+k:Nat):Int);obtain⟨s5,v',a1,M',_,_⟩:=Mk.push (R:=AV×St) (c:=c) (bytes:=8) M (z:=[.int .i64 0]) (x:= .int .i64 (jI q ((f0+k:Nat):Int))) rfl rfl rfl (by decide) (by rw[Zb3];omega) (by rw[Zb3];omega);obtain⟨s',v2,z1,z2⟩:=ih (k+1) f s5 v' (acc++[jI q ((f0+k:Nat):Int)]) (by omega) (by omega) (by simp;omega) (by rw[Zf4];exact M');refine⟨s',v2,by rw[KH];simpa [Zg5]using z1,λk2=> ?_⟩;rw[<-z2 k2,CB];have aY:decide ((k:Int)<(N:Int))=true:=Za0 (by omega);simp only[fF,gS,rZ,aY,mM,bH,A8,wf,nV,Ze5,List.singleton_append,wh,vu,a1,wr]
end
end
end Go.Proofs.YtlkadmkojjceiaaGreatDoor
section
end
namespace Go.Proofs.YtlkadmkojjceiaaGreatDoor
section
set_option linter.unusedSimpArgs false
open Go Go.Ai Go.Proofs
variable{c:ah}
section
variable{s0 s sB:St}{Vs:List AV}{p:aO}{P:AV}{q:List Int}{N:Nat}
theorem aak(hc:cj c)(h:PS s0 s Vs p)(ok:Rs p N)(hk:∀t∈p.ts,lZ t=0)(pq:QS 1 s P (q.map cg))(hq:Mi N p.gs.length q)(hP:P.cells=[P]){t:Nat}(ht:t<p.ts.length):
  ∃s' v,c 42 [.agg Vs,P,.int .i64 (t:Int)] s=some (v,s')/\Mk 1 s s' v ((KH q (bN p.ts[t]).toNat (aW (p.ts.take t)).toNat).map cg):=by
 have hw:=h.aE.wf;have gN:=Grew.af hw (.cells Vs 0);have h1:=h.ju gN;have gB:=Grew.af gN.wf (.cells [P] 0);have h2:=h1.ju gB;obtain⟨V1,V2,r1,r2,e1,e2,T,T2,e5⟩:=h2.rT;have hcut:cut Vs 0 5=some Vs:=bw e5;have va:=KA hc h1 ok (pq.aE gN) hq;have si:=OT hc P (af s (.cells Vs 0));rw[hP]at si;have fs:=Z6 hc h2 ok.FO.ok ok.tabs e1 ht;have hl:t<r1.length:=by rw[T.len];exact ht
 obtain⟨tv,er,hM,_⟩:=T.xM t p.ts[t] r1[t] (H1 ht) (H1 hl);obtain⟨tb,to,rd⟩:=T.out.own.rd T.out.row (H1 hl);rw[er]at rd;have D3:=Zc0 ht;have se:=aai hc gB.wf hM (ok.FO.ok _ D3) (hk _ D3);have hgs:=ok.FO.gs;have cL:=ok.FO.ts;have Z9:=hq.len;have lt:=λ(K:AV->St->Option (AV×St))(s1:St)=>T.out.own.lenB (c:=c) K s1
 rw[T.len]at lt;have z1:=uX (p.ts.take t);rw[Zh9]at z1;have z2:=Vb p.ts[t];generalize p.ts[t]=tt at*
 obtain⟨f0,IB⟩:∃f0:Nat,aW (p.ts.take t)=(f0:Int):=⟨(aW (p.ts.take t)).toNat,by omega⟩
 obtain⟨n,hn⟩:∃n:Nat,bN tt=(n:Int):=⟨(bN tt).toNat,by omega⟩
 rw[IB]at fs z1 ⊢;rw[hn]at se z2 ⊢;rw[Zi8,Zi8];obtain⟨s',v,y1,y2⟩:=aaj (c:=c) hc gB.wf (aC _ _) (pq.aE (gN.trans gB)) (by omega) (f0:=f0) (by omega) (N:=n) (by omega) (n+1) n 0 (n+1) _ .ax [] (by omega) (by omega) rfl (Mk.start gB.wf (Grew.refl gB.wf));simp only[show((0:Nat):Int)=0 from rfl,Ze5,Zh1]at y1 y2;have M:=y1.back hw (gN.trans gB);obtain⟨s3,t1,t2⟩:=M.tidy;have gp:=gB.get (aC s (.cells Vs 0));have r1':=λ{R}=>@rd.st R
 have Re:=rd.all;have d1:decide ((t:Int)<0)=false:=H5 (by omega);have d2:decide ((p.ts.length:Int)<=(t:Int))=false:=H5 (by omega);have d3:decide (p.ts.length<=t)=false:=H5 (by omega);refine⟨s3,v,?_,t2⟩;rw[DP hc (n+1) (r:=(v,s')),t1];rw[Iy];simp[show ∀l,AV.cells (.agg l)=l from λl=>rfl,aC,av,hcut,va,si,gp,e1,lt,d1,d2,d3,fs,r1',Re,se];rw[y2];simp
end
end
noncomputable section
open Go Go.Ai Go.Proofs
attribute [local go_sem ↓] aZ uD ev TG yg getLT wT JB Of uB uC GY E8 E9 Fa A9 Ba Bb Bc Bd Be Fb Fe Bf Bg Bh Bi Bj KY KZ K3
attribute [local go_sem] aZ uD ev
section
variable(c:ah)(F:Nat)(x0 x1 x2 x3 x4 x5 x6 x7 x8 x9 Aj vE:AV)(s:St)
def rL:Sh:=(sq sl (sq sl sl))
def rM:PX 7 rL:=⟨_,by conv=>lhs;reduce⟩
def mE:O2:=aZ c F bf rM.1 [x0,x1,x2,x3] s
def CN:=(by dsimp only[mE,rM,go_sem,Int.reduceOfNat]:mE c F x0 x1 x2 x3 s=_)
def xU:Sh:=(sq sl (sq sl (sq sl (sq sl (sj [1,2,3,4,9,10,11,12,13] (sq sl (sq sl (sc (sq sl (sj [1,2,3,4,9,10,11,12,13] (sq sl (sc sl sl)) (sq sl (sc sl sl)))) sl))) (sq sl (sq sl sl)))))))
def xV:PX 24 xU:=⟨_,by conv=>lhs;reduce⟩
def rN:O2:=aZ c F bf xV.1 [x0,x1,x2,x3] s
def xW:=(by dsimp only[rN,xV,go_sem,Int.reduceOfNat,Int.reduceNegSucc]:rN c F x0 x1 x2 x3 s=_)
def qc:Sh:=(sq sl (sq sl (sq (sq sl (sb (sp 0 [1,2,5,6] [(2,[5])] (sq (sq sl (sc sl sl)) (sj [1,2,5,6] (sb (sq sl (sc sl sl))) sl))))) (sq sl sl))))
def yp:PX 74 qc:=⟨_,by conv=>lhs;reduce⟩
def xX:PL 74 qc 0:=⟨_,by conv=>lhs;reduce⟩
def iI(k2:Q2):Nat->Q2
 |0,_,_=>none
 |n+1,vs,s=>dX c F bf (iI k2 n) [k2] xX.1 vs s
def mF(k2:Q2)(n:Nat)(vs:List AV)(s:St):=(by dsimp only[iI,xX,go_sem,Int.reduceOfNat]:iI c F k2 (n+1) vs s=_)
def qd:Un->List Q2->Nat->Q2
 |.z,[k2]=>iI c F k2
 |_,_=>λ_=>eJ
def tC:O2:=aZ c F (qd c F) yp.1 [x0,x1] s
def IQ:=(by dsimp only[tC,yp, ↓qd,go_sem,Int.reduceOfNat]:tC c F x0 x1 s=_)
def nM:Sh:=(sq sl (sq sl (sq (sq sl (sb (sp 0 [1,2,3,7,8] [(2,[7])] (sq (sq sl (sc sl sl)) (sq (sb sl) sl))))) (sq sl sl))))
def v9:PX 75 nM:=⟨_,by conv=>lhs;reduce⟩
def uv:PL 75 nM 0:=⟨_,by conv=>lhs;reduce⟩
def gG(k2:Q2):Nat->Q2
 |0,_,_=>none
 |n+1,vs,s=>dX c F bf (gG k2 n) [k2] uv.1 vs s
def rO(k2:Q2)(n:Nat)(vs:List AV)(s:St):=(by dsimp only[gG,uv,go_sem,Int.reduceOfNat]:gG c F k2 (n+1) vs s=_)
def nN:Un->List Q2->Nat->Q2
 |.z,[k2]=>gG c F k2
 |_,_=>λ_=>eJ
def qe:O2:=aZ c F (nN c F) v9.1 [x0,x1,x2] s
def FX:=(by dsimp only[qe,v9, ↓nN,go_sem,Int.reduceOfNat]:qe c F x0 x1 x2 s=_)
def rP:Sh:=(sq sl (sq (sq sl (sb (sp 0 [0,1,5] [(1,[4]),(2,[])] (sq (sq sl (sc sl sl)) (sq (sb (sq sl (sc (sq sl sl) sl))) sl))))) (sq sl sl)))
def zJ:PX 76 rP:=⟨_,by conv=>lhs;reduce⟩
def yq:PL 76 rP 0:=⟨_,by conv=>lhs;reduce⟩
def je(k1 k2:Q2):Nat->Q2
 |0,_,_=>none
 |n+1,vs,s=>dX c F bf (je k1 k2 n) [k1,k2] yq.1 vs s
def nO(k1 k2:Q2)(n:Nat)(vs:List AV)(s:St):=(by dsimp only[je,yq,go_sem,Int.reduceOfNat,Int.reduceNegSucc]:je c F k1 k2 (n+1) vs s=_)
def rQ:Un->List Q2->Nat->Q2
 |.z,[k1,k2]=>je c F k1 k2
 |_,_=>λ_=>eJ
def u6:O2:=aZ c F (rQ c F) zJ.1 [x0,x1] s
def KI:=(by dsimp only[u6,zJ, ↓rQ,go_sem,Int.reduceOfNat,Int.reduceNegSucc]:u6 c F x0 x1 s=_)
end
section
variable{c:ah}(hc:cj c)(F:Nat){x0 x1 x2 x3 x4 x5 x6 x7 x8 x9 Aj vE:AV}{s:St}{r:AV×St}
include hc
theorem Ab(h:mE c F x0 x1 x2 x3 s=some r):c 7 [x0,x1,x2,x3] s=some (tidy s r):=hc.o0 F rL (by kernel_rfl) (by kernel_rfl) h
theorem uw(h:rN c F x0 x1 x2 x3 s=some r):c 24 [x0,x1,x2,x3] s=some (tidy s r):=hc.o0 F xU (by kernel_rfl) (by kernel_rfl) h
theorem FY(h:tC c F x0 x1 s=some r):c 74 [x0,x1] s=some (tidy s r):=hc.o1 F (qd c F) qc (by kernel_rfl) (by kernel_rfl) (λ_ _ _=>by kernel_rfl) (λ_ _ _ _=>by kernel_rfl) (by kernel_rfl) h
theorem C7(h:qe c F x0 x1 x2 s=some r):c 75 [x0,x1,x2] s=some (tidy s r):=hc.o1 F (nN c F) nM (by kernel_rfl) (by kernel_rfl) (λ_ _ _=>by kernel_rfl) (λ_ _ _ _=>by kernel_rfl) (by kernel_rfl) h
theorem HU(h:u6 c F x0 x1 s=some r):c 76 [x0,x1] s=some (tidy s r):=hc.o1 F (rQ c F) rP (by kernel_rfl) (by kernel_rfl) (λ_ _ _=>by kernel_rfl) (λ_ _ _ _=>by kernel_rfl) (by kernel_rfl) h
end
end
section
set_option linter.unusedSimpArgs false
open Go Go.Ai Go.Proofs
variable{c:ah}
section
variable{s sB:St}{L:AV}{q:List Int}{p:aO}
theorem adr(h:LS s L q)(hl:q.length<=1000000)(x:Int)(F:Nat)(k1 k2:Q2):∀(m k f:Nat),k+m=q.length->m<f->
  je c F k1 k2 f [L,.int .i64 x,.int .i64 (k:Int)] s=if(q.drop k).contains x then k1 [.int .i64 ((k+(q.drop k).idxOf x:Nat):Int)] s else k2 [] s:=by
 have ln:=λ(K:AV->St->Option (AV×St))=>h.lenB (c:=c) K s
 intro m;induction m with
 |zero=>
  intro k f hk hf;obtain⟨f,rfl⟩:∃g,f=g+1:=⟨f - 1,by omega⟩
  obtain rfl:k=q.length:=by omega
  rw[nO];simp[ln]
 |succ m ih=>
  intro k f hk hf;obtain⟨f,rfl⟩:∃g,f=g+1:=⟨f - 1,by omega⟩
  have dz:k<q.length:=by omega
  obtain⟨p',p⟩:=h.rx (H1 dz);have p1:=λ{R}=>@p.st R
  have p3:=λ{R}=>@p.ld R
  have wr:aD .i64 ((k:Int)+1)=((k+1:Nat):Int):=wrap64 (by omega) (by omega);rw[Zb5 dz,List.contains_cons,List.idxOf_cons];by_cases he:x=q[k]
  .rw[nO];have e2:(x==q[k])=true:=(by simpa using he);have e3:(q[k]==x)=true:=(by simpa using he.symm);have d2:decide (q[k]=x)=true:=Za0 he.symm;rw[e2,e3,Bool.true_or];simp[ln,dz,p1,p3,d2]
  . have Lx:(x==q[k])=false:=(by simpa using he);have he3:(q[k]==x)=false:=(by simpa using λe=>he e.symm);have d2:decide (q[k]=x)=false:=H5 λe=>he e.symm
    rw[Lx,he3,Bool.false_or,cond_false,show k+((q.drop (k+1)).idxOf x+1)=(k+1)+(q.drop (k+1)).idxOf x by omega, <-ih (k+1) f (by omega) (by omega),nO];simp[ln,dz,p1,p3,d2,wr]
theorem Qi(hc:cj c)(h:LS s L q)(hl:q.length<=1000000)(x:Int):c 76 [L,.int .i64 x] s=some (.int .i64 (jI q x),s):=by
 have hi:=λk1 k2=>adr (c:=c) h hl x (q.length+1) k1 k2 q.length 0 (q.length+1) (by omega) (by omega)
 simp only[Zc5,show((0:Nat):Int)=0 from rfl,Zb9]at hi;rw[HU hc (q.length+1) (r:=(.int .i64 (jI q x),s)),aq (Plain.int _ _) (aV.refl s)];rw[KI];simp only[bH,hi];unfold jI;split<;>simp
theorem ab3(hc:cj c)(hp:p.fN){b:Pos}(w0:Wf sB)(hb:sB.heap.get b=some (.cells p.cells 0))(z:Bool)(hl:q.length<=1000000)(F:Nat):∀(m k f:Nat)(s:St)(v:AV)(acc:List Int),k+m=NS p->m<f->acc.length<=k->Mk 1 sB s v (acc.map cg)->
  ∃s' v',Mk 1 sB s' v' ((acc++qz q m k).map cg)/\∀k2:Q2,iI c F k2 f [ints z q,.ptr b 0,v,.int .i64 (k:Int)] s=k2 [v'] s':=by
 obtain⟨hs,hle⟩:=Sp hp;have p0:p.cells[0]? =some (tabs p.tz p.ts):=rfl;have C:=λs=>KD hc p.tz p.ts hp.ts s
 rw[<-hs]at C;intro m;induction m with
 |zero=>
  intro k f s v acc hk hf _ M;obtain⟨f,rfl⟩:∃g,f=g+1:=⟨f - 1,by omega⟩
  obtain rfl:k=NS p:=by omega
  have xb:=M.aE.get hb;refine⟨s,v,by simpa [qz]using M,λk2=> ?_⟩;rw[mF];simp[xb,av,p0,C]
 |succ m ih=>
  intro k f s v acc hk hf ha M;obtain⟨f,rfl⟩:∃g,f=g+1:=⟨f - 1,by omega⟩
  have dz:k<NS p:=by omega
  have xb:=M.aE.get hb;have wr:aD .i64 ((k:Int)+1)=((k+1:Nat):Int):=by rw[wrap64 (by omega) (by omega)];omega
  have wh:=Qi hc (LS.ro s z q) hl (k:Int);have dn:=HT q (k:Int);rw[qz];cases hq:q.contains (k:Int)
  .rw[hq]at dn;obtain⟨s5,v',a1,M',_,_⟩:=Mk.push (R:=AV×St) (c:=c) (bytes:=8) M (z:=[.int .i64 0]) (x:= .int .i64 (k:Int)) rfl rfl rfl (by decide) (by rw[Zb3];omega) (by rw[Zb3];omega);obtain⟨s',v2,z1,z2⟩:=ih (k+1) f s5 v' (acc++[(k:Int)]) (by omega) (by omega) (by simp;omega) (by rw[Zf4];exact M');refine⟨s',v2,by simpa using z1,λk2=> ?_⟩;rw[<-z2 k2,mF];simp[-cu,j0,dz,wh,dn,a1,wr,xb,av,p0,C]
  .rw[hq]at dn;obtain⟨s',v2,z1,z2⟩:=ih (k+1) f s v acc (by omega) (by omega) (by omega) M;refine⟨s',v2,by simpa using z1,λk2=> ?_⟩;rw[<-z2 k2,mF];simp[j0,dz,wh,dn,wr,xb,av,p0,C]
theorem ab4(hc:cj c)(hw:Wf s)(p:aO)(hp:p.fN)(z:Bool)(hl:q.length<=1000000):∃s' v,c 74 [.agg p.cells,ints z q] s=some (v,s')/\Mk 1 s s' v ((qz q (NS p) 0).map cg):=by
 have gN:=Grew.af hw (.cells p.cells 0);obtain⟨s',v,z1,z2⟩:=ab3 (c:=c) hc hp gN.wf (aC s (.cells p.cells 0)) z hl (NS p+1) (NS p) 0 (NS p+1) _ .ax [] (by omega) (by omega) (by simp) (Mk.start gN.wf (Grew.refl gN.wf));simp only[show((0:Nat):Int)=0 from rfl,Ze5]at z1 z2;have M:=z1.back hw gN;obtain⟨s3,t1,t2⟩:=M.tidy;refine⟨s3,v,?_,t2⟩;rw[FY hc (NS p+1) (r:=(v,s')),t1];rw[IQ];simp only[pO,show ∀l,AV.cells (.agg l)=l from λl=>rfl,bH,z2,fF,gS]
theorem Ye(hc:cj c)(hp:p.fN){t:Nat}(ht:t<p.ts.length){b:Pos}(w0:Wf sB)(hb:sB.heap.get b=some (.cells p.cells 0))(z:Bool)(hl:q.length<=1000000){f0:Nat}(IB:aW (p.ts.take t)=(f0:Int))(hf2:f0<=1000000){N:Nat}(hN:bN p.ts[t]=(N:Int))(hN2:N<=1000)(F:Nat):∀(m k f:Nat)(s:St)(v:AV)(acc:List Int),k+m=N->m<f->acc.length=k->Mk 1 sB s v (acc.map cg)->
  ∃s' v',Mk 1 sB s' v' ((acc++KH q m (f0+k)).map cg)/\∀k2:Q2,gG c F k2 f [ints z q,.int .i64 (t:Int),.ptr b 0,v,.int .i64 (k:Int)] s=k2 [v'] s':=by
 have p0:p.cells[0]? =some (tabs p.tz p.ts):=rfl;have Z:=λs=>VM hc p.ts[t] s
 have I:=λs=>Vi hc p.tz p.ts hp.ts (n:=t) (by omega) s
 rw[hN]at Z;rw[IB]at I;have ix:∀(K:AV->St->Option (AV×St))(s:St),ai c (.idxA 7 none) [tabs p.tz p.ts,.int .i64 (t:Int)] s K=K (.fp (p.ts.map aF.cells) t 0) s:=λK s=>by unfold tabs;rw[ML,Zb3,Za6 ht];rfl
 have ld:∀(K:AV->St->Option (AV×St))(s:St),ai c (.load (some 7)) [.fp (p.ts.map aF.cells) t 0] s K=K (.agg p.ts[t].cells) s:=λK s=>by
  have hcut:cut p.ts[t].cells 0 7=some p.ts[t].cells:=bw rfl;simp[ht,hcut]
 generalize p.ts[t]=T at*
 clear IB hN;intro m;induction m with
 |zero=>
  intro k f s v acc hk hf _ M;obtain⟨f,rfl⟩:∃g,f=g+1:=⟨f - 1,by omega⟩
  obtain rfl:k=N:=by omega
  have xb:=M.aE.get hb;refine⟨s,v,by simpa [KH]using M,λk2=> ?_⟩;rw[rO];simp[xb,av,p0,ix,ld,Z]
 |succ m ih=>
  intro k f s v acc hk hf ha M;obtain⟨f,rfl⟩:∃g,f=g+1:=⟨f - 1,by omega⟩
  have dz:k<N:=by omega
  have xb:=M.aE.get hb;have wr:aD .i64 ((k:Int)+1)=((k+1:Nat):Int):=by rw[wrap64 (by omega) (by omega)];omega
  have wf:aD .i64 ((f0:Int)+(k:Int))=((f0+k:Nat):Int):=by rw[wrap64 (by omega) (by omega)];omega
  have wh:=Qi hc (LS.ro s z q) hl ((f0+k:Nat):Int);obtain⟨s5,v',a1,M',_,_⟩:=Mk.push (R:=AV×St) (c:=c) (bytes:=8) M (z:=[.int .i64 0]) (x:= .int .i64 (jI q ((f0+k:Nat):Int))) rfl rfl rfl (by decide) (by rw[Zb3];omega) (by rw[Zb3];omega);obtain⟨s',v2,z1,z2⟩:=ih (k+1) f s5 v' (acc++[jI q ((f0+k:Nat):Int)]) (by omega) (by omega) (by simp;omega) (by rw[Zf4];exact M');refine⟨s',v2,by rw[KH];simpa [Zg5]using z1,λk2=> ?_⟩;have aY:decide ((k:Int)<(N:Int))=true:=Za0 (by omega);have xb0:∀(K:AV->St->Option (AV×St)),ai c (.load none) [.ptr b 0] s K=K (tabs p.tz p.ts) s:=λK=>by simp[xb,av,p0]
  rw[<-z2 k2,rO];simp only[fF,gS,bH,ku,Zb9,xb0,ix,ld,Ju,Z,I,vu,rZ,aY,mM,A8,wf,wh,a1,wr]
theorem Yf(hc:cj c)(hw:Wf s)(p:aO)(hp:p.fN)(z:Bool)(hl:q.length<=1000000){t:Nat}(ht:t<p.ts.length):
  ∃s' v,c 75 [.agg p.cells,ints z q,.int .i64 (t:Int)] s=some (v,s')/\Mk 1 s s' v ((KH q (bN p.ts[t]).toNat (aW (p.ts.take t)).toNat).map cg):=by
 have gN:=Grew.af hw (.cells p.cells 0);have z1:=uX (p.ts.take t);have cL:=hp.ts;rw[Zh9]at z1;have z2:=Vb p.ts[t];obtain⟨f0,IB⟩:∃f0:Nat,aW (p.ts.take t)=(f0:Int):=⟨(aW (p.ts.take t)).toNat,by omega⟩
 obtain⟨n,hn⟩:∃n:Nat,bN p.ts[t]=(n:Int):=⟨(bN p.ts[t]).toNat,by omega⟩
 have b1:f0<=1000000:=by omega
 have b2:n<=1000:=by omega
 rw[IB,hn,Zi8,Zi8];obtain⟨s',v,y1,y2⟩:=Ye (c:=c) (q:=q) hc hp ht gN.wf (aC s (.cells p.cells 0)) z hl IB b1 hn b2 (n+1) n 0 (n+1) _ .ax [] (Zb9 n) (Nat.lt_succ_self n) rfl (Mk.start gN.wf (Grew.refl gN.wf));simp only[show((0:Nat):Int)=0 from rfl,Ze5,Zh1]at y1 y2;have M:=y1.back hw gN;obtain⟨s3,t1,t2⟩:=M.tidy;refine⟨s3,v,?_,t2⟩;rw[C7 hc (n+1) (r:=(v,s')),t1];rw[FX];simp only[pO,show ∀l,AV.cells (.agg l)=l from λl=>rfl,bH,y2,fF,gS]
end
section
variable{s0 s:St}{Vs:List AV}{p:aO}{P:AV}{q:List Int}
theorem ads(hp:p.fN)(hr:∀r∈p.rs,r.Ok)(h:(jv p false q).2=0):Rs p (NS p)/\Mi (NS p) p.gs.length q/\∀t∈p.ts,lZ t=0:=by
 unfold jv at h;split at h
 .rename_i hz;exact absurd h hz
 . rename_i hz;have hz:(bU p).2=0:=(by simpa using hz);unfold KF at h;split at h
   .cases h
   .rename_i hl;have hl:q.length=p.gs.length:=(by simpa using hl);obtain⟨hs,hle⟩:=Sp hp;refine⟨⟨hp,hr,hz,HS hz,hs,hle⟩,hl ▸(adj h).1,λt ht=> ?_⟩;obtain⟨i,hi,rfl⟩:=Zg4.1 ht;exact zD (HS hz) i hi
theorem adt(hc:cj c)(h:PS s0 s Vs p)(hp:p.fN)(hr:∀r∈p.rs,r.Ok)(pq:QS 1 s P (q.map cg))(hl:q.length<=1000)(hn:(jv p false q).2≠0):c 41 [.agg Vs,P] s=some (.ax,s):=by
 have gN:=Grew.af h.aE.wf (.cells Vs 0);have hcut:cut Vs 0 5=some Vs:=bw h.cells.1;have va:=Qg hc (h.ju gN) hp hr (pq.aE gN) hl;rw[H5 hn]at va;rw[IA hc 1 (r:=(.ax,af s (.cells Vs 0))),aq Plain.ax gN.keeps];rw[Mg];simp[show ∀l,AV.cells (.agg l)=l from λl=>rfl,aC,av,hcut,va]
theorem Rw(hc:cj c)(h:PS s0 s Vs p)(hp:p.fN)(hr:∀r∈p.rs,r.Ok)(pq:QS 1 s P (q.map cg))(hl:q.length<=1000)(t:Int)(hn:t<0\/(p.ts.length:Int)<=t\/(jv p false q).2≠0):c 42 [.agg Vs,P,.int .i64 t] s=some (.ax,s):=by
 have gN:=Grew.af h.aE.wf (.cells Vs 0);have hcut:cut Vs 0 5=some Vs:=bw h.cells.1;have h1:=h.ju gN;have va:=Qg hc h1 hp hr (pq.aE gN) hl;obtain⟨V1,V2,r1,r2,e1,e2,T,T2,e5⟩:=h1.rT;have lt:=λ(K:AV->St->Option (AV×St))(s1:St)=>T.out.own.lenB (c:=c) K s1
 rw[T.len]at lt;rw[DP hc 1 (r:=(.ax,af s (.cells Vs 0))),aq Plain.ax gN.keeps];rw[Iy];by_cases a:t<0
 .have d1:decide (t<0)=true:=Za0 a;simp[show ∀l,AV.cells (.agg l)=l from λl=>rfl,aC,av,hcut,d1]
 . have d1:decide (t<0)=false:=H5 a;by_cases b:(p.ts.length:Int)<=t
   .have d2:decide ((p.ts.length:Int)<=t)=true:=Za0 b;simp[show ∀l,AV.cells (.agg l)=l from λl=>rfl,aC,av,hcut,d1,e1,lt,d2]
   .have d2:decide ((p.ts.length:Int)<=t)=false:=H5 b;rw[H5 (by rcases hn with h|h|h;exact absurd h a;exact absurd h b;exact h)]at va;simp[show ∀l,AV.cells (.agg l)=l from λl=>rfl,aC,av,hcut,d1,e1,lt,d2,va]
theorem ab5(a:Int)(b:Bool):Plain (.tuple [.int .i64 a,.bool b]):= .tuple λv hv=>by simp at hv;rcases hv with rfl|rfl;exact .int _ _;exact .bool _
theorem acu(hc:cj c)(h:PS s0 s Vs p)(hp:p.fN)(hr:∀r∈p.rs,r.Ok)(pq:QS 1 s P (q.map cg))(hl:q.length<=1000)(x:Int)(hn:x<0\/(jv p false q).2≠0):c 39 [.agg Vs,P,.int .i64 x] s=some (.tuple [.int .i64 0,.bool false],s):=by
 have gN:=Grew.af h.aE.wf (.cells Vs 0);have hcut:cut Vs 0 5=some Vs:=bw h.cells.1;have va:=Qg hc (h.ju gN) hp hr (pq.aE gN) hl;rw[Mh hc 1 (r:=(.tuple [.int .i64 0,.bool false],af s (.cells Vs 0))),aq (ab5 _ _) gN.keeps];rw[Rq];by_cases a:x<0
 .have d1:decide (x<0)=true:=Za0 a;simp[show ∀l,AV.cells (.agg l)=l from λl=>rfl,aC,av,hcut,d1]
 .have d1:decide (x<0)=false:=H5 a;rw[H5 (hn.resolve_left a)]at va;simp[show ∀l,AV.cells (.agg l)=l from λl=>rfl,aC,av,hcut,d1,va]
theorem ab6(hc:cj c)(hw:Wf s)(hl:p.Laid)(hp:p.fN)(z:Bool)(hq:q.length<=30)(t x:Int):c 24 [.agg p.cells,ints z q,.int .i64 t,.int .i64 x] s=some (.bool true,s):=by
 have hR:=hl.real hp;have hk:∀t∈p.ts,t.Ok:=λt ht=>(hl.tab t ht).1
 have gA:=Grew.af hw (.cells p.cells 0);obtain⟨Vs,sB,e1,PB⟩:=ab1 hc p hR _ gA.wf;obtain⟨v,sC,e2,MC⟩:=aah hc PB.aE.wf (LS.ro sB z q) (by omega);obtain⟨vl,vo⟩:=PB.cells;have gD:=Grew.af MC.aE.wf (.cells Vs 0);have PD:=PB.ju (MC.aE.trans gD);have qD:=MC.own.aE gD;have Ry:∀(K:AV->St->Option (AV×St)),ai c (.store 5) [.ptr sC.next 0,.agg Vs] (af sC (.cells [.ax,.ax,.ax,.ax,.ax] 0)) K=K .undef (af sC (.cells Vs 0)):=λK=>cU c K sC 5 (.agg Vs) _ vl rfl vo
 have x1:=(PB.aE.trans (MC.aE.trans gD)).get (aC s (.cells p.cells 0));have y1:=aC s (.cells p.cells 0);have x5:=aC sC (.cells Vs 0);have G:=gA.trans (PB.aE.trans (MC.aE.trans gD));have hv:v.cells=[v]:=by rcases QS.cells MC.own with⟨h,_⟩;exact h
 obtain⟨sD,hsD⟩:∃sD,sD=af sC (.cells Vs 0):=⟨_,rfl⟩
 rw[<-hsD]at gD PD qD Ry x1 x5 G;have D2:=aaf (q:=q) hc p hp hl.UZ z (by omega) false gD.wf;have vc:cut Vs 0 5=some Vs:=bw vl;have pc:cut p.cells 0 5=some p.cells:=bw rfl;have p0:p.cells[0]? =some (tabs p.tz p.ts):=rfl;have lT:∀(K:AV->St->Option (AV×St))(s:St),ai c (.lenB .l) [tabs p.tz p.ts] s K=K (.int .i64 (p.ts.length:Int)) s:=λK s=>by unfold tabs;rw[bO];simp
 by_cases hz:(jv p false q).2=0
 . obtain ⟨ok,pv,hT⟩:=ads hp hl.UZ hz;rw[hz]at D2;obtain⟨s1,v1,f1,M1⟩:=ab4 (q:=q) hc gD.wf p hp z (by omega);have fl:=Ru q (NS p) 0;have nle:=ok.le
   obtain⟨s2,v2,g,G2,L2,hg,hgl⟩:∃s2 v2 g,Grew s1 s2/\QS 1 s2 v2 (g.map cg)/\(g.length<=1000)/\((0<=t/\t<(p.ts.length:Int))/\c 75 [.agg p.cells,ints z q,.int .i64 t] s1=some (v2,s2)/\(∀s3,Grew s2 s3->∃s4 v4,c 42 [.agg Vs,v,.int .i64 t] s3=some (v4,s4)/\Mk 1 s3 s4 v4 (g.map cg))\/
        ¬(0<=t/\t<(p.ts.length:Int))/\s2=s1/\v2= .ax/\g=[]/\(∀s3,Grew s2 s3->c 42 [.agg Vs,v,.int .i64 t] s3=some (.ax,s3))):=by
     by_cases ht:0<=t/\t<(p.ts.length:Int)
     .  obtain⟨n,rfl⟩:∃n:Nat,t=(n:Int):=⟨t.toNat,by omega⟩
        have hn:n<p.ts.length:=(by omega);obtain⟨s2,v2,e,M2⟩:=Yf (q:=q) hc M1.aE.wf p hp z (by omega) hn;refine⟨s2,v2,_,M2.aE,M2.own,?_,.inl ⟨ht,e,λs3 g3=> ?_⟩⟩
        .rw[W4];have:=Vb p.ts[n];omega
        .have g13:=M1.aE.trans (M2.aE.trans g3);obtain⟨s4,v4,e4,M4⟩:=aak hc (PD.ju g13) ok hT (qD.aE g13) pv hv hn;exact⟨s4,v4,e4,M4⟩
     .  refine⟨s1,.ax,[],Grew.refl M1.aE.wf,.inl ⟨rfl,rfl⟩,by simp,.inr ⟨ht,rfl,rfl,rfl,λs3 g3=> ?_⟩⟩;have g13:=M1.aE.trans g3;exact Rw hc (PD.ju g13) hp hl.UZ (qD.aE g13) (by omega) t (by omega)
   have g12:=M1.aE.trans G2;have OM:=g12.get x1;have OO:=g12.get x5;have vE:=M1.aE.get x1;have P2:=PD.ju g12;have q2:=qD.aE g12;obtain⟨w,hA,hW⟩:∃w:Int,c 39 [.agg Vs,v,.int .i64 x] s2=some (.tuple [.int .i64 (max w 0),.bool (decide (0<=w))],s2)/\(0<=x/\c 76 [ints z q,.int .i64 x] s2=some (.int .i64 w,s2)\/x<0/\w= -1):=by
     by_cases hx:0<=x
     .  obtain⟨n,rfl⟩:∃n:Nat,x=(n:Int):=⟨x.toNat,by omega⟩
        have d0:decide (0<=jI q n)=q.contains (n:Int):=by
          have:decide (0<=jI q n)= !decide (jI q n<0):=(by rw[Zh5];simp);rw[this,HT,Bool.not_not]
        refine⟨jI q n,?_,.inl ⟨hx,Qi hc (LS.ro s2 z q) (by omega) _⟩⟩;rw[d0];exact ad3 hc P2 ok q2 pv n
     .  refine⟨-1,?_,.inr ⟨by omega,rfl⟩⟩;exact acu hc P2 hp hl.UZ q2 (by omega) x (.inl (by omega))
   obtain⟨s3,v3,f3,M3⟩:=adm hc P2 ok q2 pv hv;have E1:=v8 hc (.inr M3.own) (.inr ((M1.own.aE G2).aE M3.aE)) (by omega);rw[Za0 rfl]at E1;have mx:=λ(K:AV->St->Option (AV×St))(s:St)=>aT c K (λH n=>Pk H n .i64 .i64 w 0) s
   have Iw:=M3.aE.get OO;have ON:=M3.aE.get OM;obtain⟨s4,v4,G4,W5,E2⟩:∃s4 v4,Grew s3 s4/\c 42 [.agg Vs,v,.int .i64 t] s3=some (v4,s4)/\c 21 [v4,v2] s4=some (.bool true,s4):=by
     rcases hgl with⟨_,_,h⟩|⟨_,rfl,rfl,rfl,h⟩
     .  obtain⟨s4,v4,e4,M4⟩:=h s3 M3.aE;have E:=v8 hc (.inr M4.own) (.inr ((L2.aE M3.aE).aE M4.aE)) (by omega);rw[Za0 rfl]at E;exact⟨s4,v4,M4.aE,e4,E⟩
     .  have E:=v8 (q:=[]) (r:=[]) hc (s:=s3) (.inr (.inl ⟨rfl,rfl⟩)) (.inr (.inl ⟨rfl,rfl⟩)) (by simp);rw[Za0 rfl]at E;exact⟨s3,.ax,Grew.refl M3.aE.wf,h s3 M3.aE,E⟩
   have g34:=(g12.trans M3.aE).trans G4;have S:=Vj hc (PD.ju g34) (aO.cr.refl p) hR hk;have E:=v8 hc (.inr (qD.aE g34)) (LS.ro s4 z q) (by omega);rw[Za0 rfl]at E;have Rk:=G4.get Iw;have Rj:=G4.get ON;rw[uw hc 1 (r:=(.bool true,s4)),aq (Plain.bool _) (G.trans g34).keeps];rw[xW];rcases hgl with⟨⟨t1,t2⟩,gr,_⟩|⟨ht,rfl,rfl,rfl,_⟩
   . have d1:decide (0<=t)=true:=Za0 t1;have d2:decide (t<(p.ts.length:Int))=true:=Za0 t2;rcases hW with⟨hx,hW⟩|⟨hx,rfl⟩
     .  have d3:decide (0<=x)=true:=Za0 hx;simp[-cU,j0,show ∀l,AV.cells (.agg l)=l from λl=>rfl,y1,av,pc,e1,e2,Ry,x1,vc,D2,f1,p0,lT,vE,OM,ON,Rj,OO,Iw,Rk,d1,d2,d3,gr,hW,hA,f3,E1,W5,E2,mx,S,E]
     .  have d3:decide (0<=x)=false:=H5 (by omega);simp[-cU,j0,show ∀l,AV.cells (.agg l)=l from λl=>rfl,y1,av,pc,e1,e2,Ry,x1,vc,D2,f1,p0,lT,vE,OM,ON,Rj,OO,Iw,Rk,d1,d2,d3,gr,hA,f3,E1,W5,E2,mx,S,E]
   . by_cases t1:0<=t
     .  have d1:decide (0<=t)=true:=Za0 t1;have d2:decide (t<(p.ts.length:Int))=false:=H5 λh=>ht ⟨t1,h⟩
        rcases hW with⟨hx,hW⟩|⟨hx,rfl⟩
        .have d3:decide (0<=x)=true:=Za0 hx;simp[-cU,j0,show ∀l,AV.cells (.agg l)=l from λl=>rfl,y1,av,pc,e1,e2,Ry,x1,vc,D2,f1,p0,lT,vE,OM,ON,Rj,OO,Iw,Rk,d1,d2,d3,hW,hA,f3,E1,W5,E2,mx,S,E]
        .have d3:decide (0<=x)=false:=H5 (by omega);simp[-cU,j0,show ∀l,AV.cells (.agg l)=l from λl=>rfl,y1,av,pc,e1,e2,Ry,x1,vc,D2,f1,p0,lT,vE,OM,ON,Rj,OO,Iw,Rk,d1,d2,d3,hA,f3,E1,W5,E2,mx,S,E]
     .  have d1:decide (0<=t)=false:=H5 t1;rcases hW with⟨hx,hW⟩|⟨hx,rfl⟩
        .have d3:decide (0<=x)=true:=Za0 hx;simp[-cU,j0,show ∀l,AV.cells (.agg l)=l from λl=>rfl,y1,av,pc,e1,e2,Ry,x1,vc,D2,f1,p0,lT,vE,OM,ON,Rj,OO,Iw,Rk,d1,d3,hW,hA,f3,E1,W5,E2,mx,S,E]
        .have d3:decide (0<=x)=false:=H5 (by omega);simp[-cU,j0,show ∀l,AV.cells (.agg l)=l from λl=>rfl,y1,av,pc,e1,e2,Ry,x1,vc,D2,f1,p0,lT,vE,OM,ON,Rj,OO,Iw,Rk,d1,d3,hA,f3,E1,W5,E2,mx,S,E]
 . have A:=acu hc PD hp hl.UZ qD (by omega) x (.inr hz);have F1:=adt hc PD hp hl.UZ qD (by omega) hz;have G1:=Rw hc PD hp hl.UZ qD (by omega) t (.inr (.inr hz));have E1:=v8 (q:=[]) (r:=[]) hc (s:=sD) (.inr (.inl ⟨rfl,rfl⟩)) (.inr (.inl ⟨rfl,rfl⟩)) (by simp);have S:=Vj hc PD (aO.cr.refl p) hR hk;have E:=v8 hc (.inr qD) (LS.ro sD z q) (by omega);rw[Za0 rfl]at E E1;have mx:=λ(K:AV->St->Option (AV×St))(s:St)=>aT c K (λH n=>Pk H n .i64 .i64 (-1) 0) s
   have d:decide ((jv p false q).2=0)=false:=H5 hz;rw[uw hc 1 (r:=(.bool true,sD)),aq (Plain.bool _) G.keeps];rw[xW];simp[-cU,j0,show ∀l,AV.cells (.agg l)=l from λl=>rfl,y1,av,pc,e1,e2,Ry,x1,x5,vc,D2,hz,d,A,F1,G1,E1,mx,S,E,show max (-1:Int) 0=0 from rfl]
theorem Ss(hc:cj c)(p:aO)(hl:p.Laid)(z:Bool)(q:List Int)(t x:Int)(hw:Wf s):c 7 [.agg p.cells,ints z q,.int .i64 t,.int .i64 x] s=some (.bool true,s):=by
 have gA:=Grew.af hw (.cells p.cells 0);have gB:=Grew.af gA.wf (.cells [ints z q] 0);have F:=adq hc gB.wf p (Vk.one (z:=z) (q:=q) gA.wf) (by simp);have bs:∀(K:AV->St->Option (AV×St)),ai c (.buildSlice 1 1 [.ax] [0]) [ints z q] (af s (.cells p.cells 0)) K=K (.slice (af s (.cells p.cells 0)).next 0 1 (some 1) 1) (af (af s (.cells p.cells 0)) (.cells [ints z q] 0)):=λK=>by
   (rw[cu];have:bS (bF [AV.ax] 1) ([0].map λi=>(i*1,1)) [ints z q]=some [ints z q]:=by unfold ints Go.Ai.ro;split<;>rfl);rw[this];rfl
 have x1:=gB.get (aC s (.cells p.cells 0));have y1:=aC s (.cells p.cells 0);have pc:cut p.cells 0 5=some p.cells:=bw rfl;have A:=Z5 hc (af (af s (.cells p.cells 0)) (.cells [ints z q] 0));rw[Ab hc 1 (r:=(.bool true,af (af s (.cells p.cells 0)) (.cells [ints z q] 0))),aq (Plain.bool _) (gA.trans gB).keeps];rw[CN];cases h:Qh p [q]
 .rw[h]at F;simp[-cu,show ∀l,AV.cells (.agg l)=l from λl=>rfl,x1,y1,av,pc,bs,F,A]
 .rw[h]at F;obtain⟨_,hf,_,hq⟩:=adp h;have C:=ab6 hc gB.wf hl (abS hf λt ht=>(hl.tab t ht).1) z (hq q (by simp)) t x;simp[-cu,show ∀l,AV.cells (.agg l)=l from λl=>rfl,x1,y1,av,pc,bs,F,C,A]
end
end
end Go.Proofs.YtlkadmkojjceiaaGreatDoor
namespace Go.Proofs.YtlkadmkojjceiaaGreatDoor.y9
section
open Go
theorem k1:(Rows.planSeatsUptoRow.inPlace==Tryz.pinned.checked.prog.inPlace 7)=true:=by kernel_rfl
theorem k2:(Rows.planSeatsUptoRow.unfollowed==Tryz.pinned.checked.prog.unfollowed 7)=true:=by kernel_rfl
theorem k3:(Rows.planSeatsUptoRow.recurses==Tryz.pinned.checked.prog.recurses 7)=true:=by kernel_rfl
theorem k4:(Rows.planSeatsUptoRow.named==Tryz.pinned.checked.prog.varsNamed 7)=true:=by kernel_rfl
theorem k5:laidOutB Tryz.pinned.checked.prog=true:=by kernel_rfl
theorem k6:mapsRowed Tryz.pinned.checked.prog=true:=by kernel_rfl
theorem k7:(Rows.planSeatsUptoRow.plainKeys==Tryz.pinned.checked.prog.plainKeys)=true:=by kernel_rfl
theorem closed:joinedFacts Tryz.pinned.checked.prog 7 Tryz.f7 (Rows.OpenSpec.upto Rows.planSeatsSpec).bare Rows.planSeatsUptoRow=true:=by
 unfold joinedFacts;rw[k1,k2,k3,k4,k5,k6,k7]
 kernel_rfl
end
end Go.Proofs.YtlkadmkojjceiaaGreatDoor.y9
