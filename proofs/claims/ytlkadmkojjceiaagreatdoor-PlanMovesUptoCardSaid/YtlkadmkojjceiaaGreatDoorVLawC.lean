/- Functions of the program, plainly, and what they answer. -/
import Derived.Test.YtlkadmkojjceiaaGreatDoorVLawB
set_option linter.all false
set_option maxRecDepth 100000
set_option maxHeartbeats 4000000
namespace Go.Proofs.YtlkadmkojjceiaaGreatDoor
section
open Go Go.Ai Go.Proofs
variable{c:ah}
end
section
open Go Go.Ai Go.Proofs
end
section
set_option linter.unusedSimpArgs false
open Go Go.Ai Go.Proofs
variable{c:ah}
theorem TS.ax{s0 s s':St}{V:AV}{ts:List aG}{rows:List (List AV)}(h:TS s0 s V ts rows)(g:Grew s s'):TS s0 s' V ts rows:=
 ⟨h.out.grow g,h.len,λi t r a b=>by obtain⟨v,e1,e2,e3⟩:=h.Aa i t r a b;exact⟨v,e1,e2.grow g,e3⟩⟩
theorem GS.ax{s0 s s':St}{V:AV}{ts:List aL}{rows:List (List AV)}(h:GS s0 s V ts rows)(g:Grew s s'):GS s0 s' V ts rows:=
 ⟨h.out.grow g,h.len,λi t r a b=>by obtain⟨v,e1,e2,e3⟩:=h.Aa i t r a b;exact⟨v,e1,e2.grow g,e3⟩⟩
theorem PS.nY{s0 s s':St}{Vs:List AV}{p:aS}(h:PS s0 s Vs p)(g:Grew s s'):PS s0 s' Vs p:=by
 obtain⟨V1,V2,V3,V4,V5,r1,r2,rfl,h1,h2,h3,h4,h5⟩:=h.all;exact⟨h.ax.trans g,V1,V2,V3,V4,V5,r1,r2,rfl,h1.ax g,h2.ax g,h3.grow g,h4.grow g,h5.grow g⟩
abbrev rS(tk:List Bool):List AV:=tk.map AV.bool
section
variable{st sB s:St}{Vs:List AV}{p:aS}
theorem PS.rT(h:PS st s Vs p):∃V1 V2 r1 r2,Vs[0]? =some V1/\Vs[1]? =some V2/\TS st s V1 p.ts r1/\GS st s V2 p.gs r2/\Vs.length=5:=by
 obtain⟨V1,V2,V3,V4,V5,r1,r2,rfl,h1,h2,_⟩:=h.all;exact⟨V1,V2,r1,r2,rfl,rfl,h1,h2,rfl⟩
theorem TF(N:Nat):List.replicate N (AV.bool false)=rS (List.replicate N false):=List.map_replicate.symm
end
set_option linter.unusedSimpArgs false
theorem adn(q:List Int):q.map bL=(q.map (AV.int .i64)).map OY:=by rw[Zf7];rfl
theorem Xg{s:St}{v:AV}{q:List Int}(h:QS 1 s v (q.map bL)){i:Nat}{x:Int}(hx:q[i]? =some x):∃b o,Rd s 1 v i b o [.int .i64 x]:=by
 rw[adn]at h;exact h.Yz (by rw[Zb5,hx];rfl)
theorem ado{s s':St}{f:Nat}{b:Pos}{off:Nat}:tidy s (.func f [] [.ptr b off],s')=(.func f [] [.ptr b off],s'):=by
 unfold tidy;rw[Za1];intro h;have h1:aj (λ_=>⟨0,0,0⟩) (b.toNat+1) (λ_=>none) (.func f [] [.ptr b off]) (.func (.func f) #[] #[.pointer (some ⟨0,0+off,none⟩)]):=
  .func f _ _ _ _ rfl rfl (λ_ _ _ h=>by simp at h) λi v v' hv zQ=>by
   cases i with
   |zero=>simp at hv zQ;subst hv;subst zQ;have:=aj.ptr (ρ:=λ_=>⟨0,0,0⟩) (C:=λ_=>none) (n:=b.toNat+1) b off (by omega);simpa using this
   |succ i=>simp at hv
 have h2:=h.1 _ (λ_=>⟨0,0,0⟩) _ 0 _ _ h1;obtain⟨_,_,_,_,hy⟩:=h2.Ae;obtain⟨x,xs,_,hx,_⟩:=hy.cons_inv;have:=hx.eu.1;omega
def wI(q:List Int)(x:Int):Int:=if q.contains x then((q.idxOf x:Nat):Int)else -1
section
variable{s:St}{P:AV}{q:List Int}
theorem adp(pq:QS 1 s P (q.map bL))(hl:q.length<=1000000)(x:Int)(F:Nat)(k1 k2:Q2):∀(m k f:Nat),k+m=q.length->m<f->
  gG c F k1 k2 f [P,.int .i64 x,.int .i64 (q.length:Int),.int .i64 (k:Int)] s=if(q.drop k).contains x then k1 [.int .i64 ((k+(q.drop k).idxOf x:Nat):Int)] s else k2 [] s:=by
 intro m;induction m with
 |zero=>
  intro k f hk hf;obtain⟨f,rfl⟩:∃g,f=g+1:=⟨f - 1,by omega⟩
  obtain rfl:k=q.length:=by omega
  rw[kH];simp
 |succ m ih=>
  intro k f hk hf;obtain⟨f,rfl⟩:∃g,f=g+1:=⟨f - 1,by omega⟩
  have br:k<q.length:=by omega
  obtain⟨pb,po,p⟩:=Xg pq (H1 br);have p1:=λ{R}=>@p.st R
  have p3:=p.one;have wr:aD .i64 ((k:Int)+1)=((k+1:Nat):Int):=wrap64 (by omega) (by omega);rw[Za7 br,List.contains_cons,List.idxOf_cons];by_cases he:x=q[k]
  .rw[kH];have e2:(x==q[k])=true:=(by simpa using he);have e3:(q[k]==x)=true:=(by simpa using he.symm);have d2:decide (x=q[k])=true:=H4 he;rw[e2,e3,Bool.true_or];simp[br,p1,p3,d2]
  .have NH:(x==q[k])=false:=(by simpa using he);have he3:(q[k]==x)=false:=(by simpa using λe=>he e.symm);have d2:decide (x=q[k])=false:=H2 he;rw[NH,he3,Bool.false_or,cond_false,show k+((q.drop (k+1)).idxOf x+1)=(k+1)+(q.drop (k+1)).idxOf x by omega, <-ih (k+1) f (by omega) (by omega),kH];simp[br,p1,p3,d2,wr]
theorem Q9(hc:bZ c)(pq:QS 1 s P (q.map bL))(hl:q.length<=1000000)(x:Int):c 71 [P,.int .i64 x] s=some (.int .i64 (wI q x),s):=by
 have ln:=λ(K:AV->St->Option (AV×St))=>pq.lenB (c:=c) K s
 rw[Zb0]at ln;have hi:=λk1 k2=>adp (c:=c) pq hl x (q.length+1) k1 k2 q.length 0 (q.length+1) (by omega) (by omega)
 simp only[Zb7,show((0:Nat):Int)=0 from rfl,Zb6]at hi;rw[En hc (q.length+1) (r:=(.int .i64 (wI q x),s)),au (Plain.int _ _) (aP.refl s)];rw[Gz];simp only[aJ,ln,hi];unfold wI;split<;>simp
theorem Kk(hc:bZ c)(pq:QS 1 s P (q.map bL))(hl:q.length<=1000000)(x:Int):c 19 [P,.int .i64 x] s=some (.bool (q.contains x),s):=by
 rw[Bn hc 1 (r:=(.bool (q.contains x),s)),au (Plain.bool _) (aP.refl s)];rw[CE];simp only[aJ,oY,Q9 hc pq hl,kP];unfold wI;cases h:q.contains x
 .simp
 .simp
theorem aaa(hc:bZ c)(P:AV)(s:St):c 89 [P] s=some (.func 128 [] [.ptr s.next 0],af s (.cells P.cells 0)):=by rw[Pm hc 1 (r:=(.func 128 [] [.ptr s.next 0],af s (.cells P.cells 0))),ado];rw[So];simp
theorem aeH(hc:bZ c){b:Pos}(hb:s.heap.get b=some (.cells [P] 0))(pq:QS 1 s P (q.map bL))(hl:q.length<=1000000)(x:Int):c 128 [.int .i64 x,.ptr b 0] s=some (.int .i64 (wI q x),s):=by
 rw[Mw hc 1 (r:=(.int .i64 (wI q x),s)),au (Plain.int _ _) (aP.refl s)];rw[Pk];simp[hb,ak,Q9 hc pq hl]
def Az:List Int->List Int->Nat
 |x::a,y::b=>(if x=y then 0 else 1)+Az a b
 |_,_=>0
theorem adq{Q:AV}{r:List Int}(pq:QS 1 s P (q.map bL))(pr:QS 1 s Q (r.map bL))(hl:q.length<=1000000)(he:q.length=r.length)(F:Nat)(k2:Q2):∀(m k f n:Nat),k+m=q.length->m<f->n<=k->
  qJ c F k2 f [P,Q,.int .i64 (n:Int),.int .i64 (q.length:Int),.int .i64 (k:Int)] s=k2 [.int .i64 ((n+Az (q.drop k) (r.drop k):Nat):Int)] s:=by
 intro m;induction m with
 |zero=>
  intro k f n hk hf hn;obtain⟨f,rfl⟩:∃g,f=g+1:=⟨f - 1,by omega⟩
  obtain rfl:k=q.length:=by omega
  rw[zz,Zg0,he,Zg0];simp[Az]
 |succ m ih=>
  intro k f n hk hf hn;obtain⟨f,rfl⟩:∃g,f=g+1:=⟨f - 1,by omega⟩
  have br:k<q.length:=by omega
  have Mx:k<r.length:=by omega
  obtain⟨pb,po,p⟩:=Xg pq (H1 br);obtain⟨rb,ro,p'⟩:=Xg pr (H1 Mx);have p1:=λ{R}=>@p.pr R
  have p3:=p.one;have r1:=λ{R}=>@p'.pr R
  have r3:=p'.one;have wr:aD .i64 ((k:Int)+1)=((k+1:Nat):Int):=wrap64 (by omega) (by omega);have wn:aD .i64 ((n:Int)+1)=((n+1:Nat):Int):=wrap64 (by omega) (by omega);rw[Za7 br,Za7 Mx,Az];by_cases e:q[k]=r[k]
  .rw[Za2 e,Zb6, <-ih (k+1) f n (by omega) (by omega) (by omega),zz];have d2:decide (q[k]=r[k])=true:=H4 e;simp[br,p1,p3,r1,r3,d2,wr,gK]
  .rw[Za1 e, <-Zg7, <-ih (k+1) f (n+1) (by omega) (by omega) (by omega),zz];have d2:decide (q[k]=r[k])=false:=H2 e;simp[br,p1,p3,r1,r3,d2,wr,wn,gK]
theorem aab(hc:bZ c){Q:AV}{r:List Int}(pq:QS 1 s P (q.map bL))(pr:QS 1 s Q (r.map bL))(hl:q.length<=1000000)(he:q.length=r.length):c 23 [P,Q] s=some (.int .i64 ((Az q r:Nat):Int),s):=by
 have ln:=λ(K:AV->St->Option (AV×St))=>pq.lenB (c:=c) K s
 have lr:=λ(K:AV->St->Option (AV×St))=>pr.lenB (c:=c) K s
 rw[Zb0]at ln lr;have hi:=λk2=>adq (c:=c) pq pr hl he (q.length+1) k2 q.length 0 (q.length+1) 0 (by omega) (by omega) (by omega)
 simp only[Zb7,show((0:Nat):Int)=0 from rfl,Zb6]at hi;rw[HT hc (q.length+1) (r:=(.int .i64 ((Az q r:Nat):Int),s)),au (Plain.int _ _) (aP.refl s)];rw[Mt];simp[ln,lr,he];rw[<-he,hi];simp
end
set_option linter.unusedSimpArgs false
structure Cn(N n:Nat)(q:List Int):Prop where
 len:q.length=n
 rng:∀x∈q,-1<=x/\x<(N:Int)
 ap:∀(a b:Nat)(x:Int),a<b->q[a]? =some x->q[b]? =some x->x<0
structure OkP(p:aS)(N:Nat):Prop where
 Q8:p.gW
 rs:∀r∈p.rs,r.Ok
 vk:(cg p).2=0
 tabs:(bn p.ts).2=0
 sum:(N:Int)=bP p.ts
 le:N<=100000
section
variable{sB s:St}{P:AV}{q:List Int}{N n:Nat}
theorem adr{tb:Pos}(hq:Cn N n q)(hql:q.length<=1000)(hN:N<=100000)(pq:QS 1 sB P (q.map bL))(hge:sB.next.toNat<=tb.toNat)(w0:Wf sB)(F:Nat):
  ∀ (m k f:Nat)(s:St)(tk:List Bool),k+m=q.length->m<f->Grew sB s->s.heap.get tb=some (.cells (rS tk) 0)->tk.length=N->(∀i:Nat,tk[i]? =some true->(i:Int)∈q.take k)->∃s',Grew sB s'/\
    ∀k1 k2:Q2,mL c F k1 k2 f [.bool false,.int .i64 (N:Int),.slice tb 0 N (some N) 1,P,.int .i64 (q.length:Int),.int .i64 (k:Int)] s=k2 [] s':=by
 intro m;induction m with
 |zero=>
  intro k f s tk hk hf gr ht hl zU;obtain⟨f,rfl⟩:∃g,f=g+1:=⟨f - 1,by omega⟩
  obtain rfl:k=q.length:=by omega
  refine⟨s,gr,λk1 k2=> ?_⟩;rw[eN];simp
 |succ m ih=>
  intro k f s tk hk hf gr ht hl zU;obtain⟨f,rfl⟩:∃g,f=g+1:=⟨f - 1,by omega⟩
  have br:k<q.length:=by omega
  obtain⟨pb,po,p⟩:=Xg (pq.ax gr) (H1 br);have p1:=λ{R}=>@p.st R
  have p3:=p.one;have hxq:=hq.rng _ (Zc2 br);have hap:=hq.ap;have wr:aD .i64 ((k:Int)+1)=((k+1:Nat):Int):=by rw[wrap64 (by omega) (by omega)];omega
  have tke:q.take (k+1)=q.take k++[q[k]]:=by rw[Zl3,H1 br];rfl
  have hqk:q[k]? =some q[k]:=H1 br;generalize q[k]=x at*
  by_cases h0:0<=x
  . obtain⟨i,rfl⟩:∃i:Nat,x=(i:Int):=⟨x.toNat,by omega⟩
    have hi:i<N:=(by omega);have hf0:tk[i]? =some false:=by
        rw[H1 (by omega)];cases h:tk[i]'(by omega)with
        |false=>rfl
        | true=>
          have:=zU i (by rw[H1 (by omega),h]);obtain⟨j,hj⟩:=Ze7.1 this;rw[Zb1]at hj;(split at hj<;>first|(cases hj;done)|skip);rename_i hjk;have:=hap j k i hjk hj hqk;omega
    have ix:=λ(K:AV->St->Option (AV×St))(s1:St)=>IV c K s1 (b:=tb) (off:=0) (len:=N) (es:=1) (es':=1) (cap:=some N) (k:= .i64) (i:=i) hi
    (simp only[Zb6,Zj7]at ix;have ec:(rS tk)[i]? =some (.bool false):=(by rw[Zb5,hf0];rfl);have pt:=λ(K:AV->St->Option (AV×St))=>RH (c:=c) K ht (o:=i) (by rw[Zb0];omega) (v:= .bool true) rfl rfl);rw[show(rS tk).set i (.bool true)=rS (tk.set i true)from(List.map_set).symm]at pt;have aK:=gr.wf _ _ ht;obtain⟨s',z1,z3⟩:=ih (k+1) f (eG s tb (.cells (rS (tk.set i true)) 0)) (tk.set i true) (by omega) (by omega) (Pn w0 gr hge aK _) (oe _ _ _) (by simpa using hl) (λj hj=>by
        rw[tke];by_cases e:i=j
        .subst e;simp
        .rw[List.getElem?_set_ne e]at hj;exact Zg4 _ (zU j hj))
    refine⟨s',z1,λk1 k2=> ?_⟩;rw[<-z3 k1 k2,eN];have d1:decide ((i:Int)= -1)=false:=H2 (by omega);have d2:decide ((i:Int)< -1)=false:=H2 (by omega);have d3:decide ((N:Int)<=(i:Int))=false:=H2 (by omega);have d4:decide (N<=i)=false:=H2 (by omega);simp[gK,br,p1,p3,ix,pt,wr,d1,d2,d3,d4,ht,ak,ec]
  .have hx:x= -1:=(by omega);subst hx;obtain⟨s',z1,z3⟩:=ih (k+1) f s tk (by omega) (by omega) gr ht hl (λj hj=>by rw[tke];exact Zg4 _ (zU j hj));refine⟨s',z1,λk1 k2=> ?_⟩;rw[<-z3 k1 k2,eN];have d3:decide ((N:Int)<= -1)=false:=H2 (by omega);simp[gK,br,p1,p3,wr,d3]
end
section
variable{s0 s:St}{Vs:List AV}{p:aS}{P:AV}{q:List Int}{N:Nat}
theorem Sp:Plain (.tuple [.int .i64 0,.int .i64 0]):= .tuple λv hv=>by simp at hv;subst hv;exact .int _ _
theorem ads(hc:bZ c)(h:PS s0 s Vs p)(ok:OkP p N)(pq:QS 1 s P (q.map bL))(hq:Cn N p.gs.length q):c 122 [.agg Vs,P,.bool false] s=some (.tuple [.int .i64 0,.int .i64 0],s):=by
 have hw:=h.ax.wf;have gN:=Grew.af hw (.cells Vs 0);have h1:=h.nY gN;obtain⟨V1,V2,r1,r2,e1,e2,T,T2,e5⟩:=h1.rT;have cn:=Mq hc h1 ok.Q8.ok ok.tabs e1;rw[<-ok.sum]at cn;have hgs:=ok.Q8.gs;have hlq:=hq.len;have ln:=λ(K:AV->St->Option (AV×St))(s1:St)=>pq.lenB (c:=c) K s1
 rw[Zb0]at ln;have lg:=λ(K:AV->St->Option (AV×St))(s1:St)=>T2.out.own.lenB (c:=c) K s1
 rw[T2.len]at lg;have hle:=ok.le;have mk:=λ(K:AV->St->Option (AV×St))=>Yw c K (af s (.cells Vs 0)) (es:=1) (bytes:=1) (z:=[.bool false]) (k:= .i64) (k':= .i64) (n:=N) (by omega) (by omega)
 rw[IW,TF]at mk;have gT:=Grew.af gN.wf (.cells (rS (List.replicate N false)) 0);obtain⟨s',z1,z3⟩:=adr (c:=c) (n:=p.gs.length) hq (by omega) ok.le (pq.ax gN) (Za3 _) gN.wf (q.length+1) q.length 0 (q.length+1) _ (List.replicate N false) (by omega) (by omega) gT (aE _ _) (by simp) (λi hi=>by rw[List.getElem?_replicate]at hi;split at hi<;>cases hi);simp only[show((0:Nat):Int)=0 from rfl]at z3;have e1':Vs[0]? =some V1:=e1;have e2':Vs[1]? =some V2:=e2;rw[Ay hc (q.length+1) (r:=(.tuple [.int .i64 0,.int .i64 0],s')),au Sp (gN.trans z1).keeps];rw[Ej];simp[show ∀l,AV.cells (.agg l)=l from λl=>rfl,aE,ak,e1',e2',ln,lg,hlq,cn];rw[mk, <-hlq,z3];simp
theorem aac(hc:bZ c)(h:PS s0 s Vs p)(ok:OkP p N)(pq:QS 1 s P (q.map bL))(hq:Cn N p.gs.length q):c 80 [.agg Vs,P,.bool false] s=some (.tuple [.int .i64 0,.int .i64 0],s):=by
 have hw:=h.ax.wf;have gN:=Grew.af hw (.cells Vs 0);have h1:=h.nY gN;have hcut:cut Vs 0 5=some Vs:=bK h1.rT.choose_spec.choose_spec.choose_spec.choose_spec.2.2.2.2;have ck:=TE hc h1 ok.Q8 ok.rs;rw[ok.vk]at ck;have kk:=ads hc h1 ok (pq.ax gN) hq;rw[wH hc 1 (r:=(.tuple [.int .i64 0,.int .i64 0],af s (.cells Vs 0))),au Sp gN.keeps];rw[Aw];simp[show ∀l,AV.cells (.agg l)=l from λl=>rfl,aE,ak,hcut,ck,kk]
theorem My(hc:bZ c)(h:PS s0 s Vs p)(ok:OkP p N)(pq:QS 1 s P (q.map bL))(hq:Cn N p.gs.length q):c 33 [.agg Vs,P] s=some (.tuple [.int .i64 0,.int .i64 0],s):=by
 have hw:=h.ax.wf;have gN:=Grew.af hw (.cells Vs 0);have h1:=h.nY gN;have hcut:cut Vs 0 5=some Vs:=bK h1.rT.choose_spec.choose_spec.choose_spec.choose_spec.2.2.2.2;have kk:=aac hc h1 ok (pq.ax gN) hq;rw[Bo hc 1 (r:=(.tuple [.int .i64 0,.int .i64 0],af s (.cells Vs 0))),au Sp gN.keeps];rw[Ee];simp[show ∀l,AV.cells (.agg l)=l from λl=>rfl,aE,ak,hcut,kk]
end
end
section
open Go Go.Ai Go.Proofs
variable{c:ah}
theorem Uq(z:Bool)(l:List (Int))(hl:l.length<=j5)(F:Nat)(k2){s0:St}:∀(m k:Nat)(s:St)(v:AV),Mk 1 s0 s v ((l.take k).map bL)->l.length<=k+m->k<=l.length->
  ∃s' v',Mk 1 s0 s' v' (l.map bL)/\gY c F k2 (m+1) [ints z l,v,.int .i64 (k:Int)] s=k2 [v'] s':=by
 have hl:l.length<=1048576:=hl;have lI:∀(K:AV->St->Option (AV×St))(s:St),ai c (.lenB .l) [ints z l] s K=K (.int .i64 (l.length:Int)) s:=λK s=>by unfold ints;rw[bX];simp
 intro m;induction m with
 |zero=>
  intro k s v hM h1 h2;obtain rfl:k=l.length:=by omega
  refine⟨s,v,by simpa using hM,?_⟩;rw[lF];simp[lI]
 |succ m ih=>
  intro k s v hM h1 h2;by_cases h:k<l.length
  .have w:aD .i64 ((k:Int)+1)=((k+1:Nat):Int):=wrap64 (by omega) (by omega);have hlen:((l.take k).map bL).length=k:=(by simp;omega);obtain⟨s5,v5,a1,a2,a3,_⟩:=hM.push (c:=c) (R:=AV×St) (bytes:=8) (z:=[.int .i64 0]) (x:= .int .i64 l[k]) rfl rfl rfl (by decide) (by rw[hlen];omega) (by rw[hlen];omega);have e:(l.take (k+1)).map bL=(l.take k).map bL++[(.int .i64 l[k]:AV).cells]:=(by rw[Zb4 h,Zh3];rfl);rw[<-e]at a2;obtain⟨s',v',b1,b2⟩:=ih (k+1) s5 v5 a2 (by omega) (by omega);refine⟨s',v',b1,?_⟩;rw[<-b2,lF];simp[-cr,lI,ints,h,w,a1]
  .obtain rfl:k=l.length:=(by omega);refine⟨s,v,by simpa using hM,?_⟩;rw[lF];simp[lI]
theorem GC(hc:Sem c)(z:Bool)(l:List (Int))(hl:l.length<=j5)(s:St)(hw:Wf s):∃v s',c 99 [ints z l] s=some (v,s')/\Mk 1 s s' v (l.map bL):=by
 obtain⟨s',v,hM,L⟩:=Uq (c:=c) z l hl (l.length+1) (λvs rH=>eB vs λx3 vs=>gu vs (ai c .move [x3] rH λHD HG=>ai c .move [HD] HG λx2 HH=>some (x2,HH))) (s0:=s) l.length 0 s .aq (Mk.start hw (Grew.refl hw)) (by omega) (by omega);obtain⟨fq,t1,t2⟩:=hM.tidy;refine⟨v,fq,?_,t2⟩;rw[EG hc (l.length+1) (r:=(v,s')),t1];rw[HL];simp at L;simp[L]
theorem Sq(z:Bool)(l:List (List Nat))(hl:l.length<=j5)(F:Nat)(k2){s0:St}:∀(m k:Nat)(s:St)(v:AV),Mk 1 s0 s v ((l.take k).map BL)->l.length<=k+m->k<=l.length->
  ∃s' v',Mk 1 s0 s' v' (l.map BL)/\gy c F k2 (m+1) [ee z l,v,.int .i64 (k:Int)] s=k2 [v'] s':=by
 have hl:l.length<=1048576:=hl;have lI:∀(K:AV->St->Option (AV×St))(s:St),ai c (.lenB .l) [ee z l] s K=K (.int .i64 (l.length:Int)) s:=λK s=>by unfold ee;rw[bX];simp
 intro m;induction m with
 |zero=>
  intro k s v hM h1 h2;obtain rfl:k=l.length:=by omega
  refine⟨s,v,by simpa using hM,?_⟩;rw[kF];simp[lI]
 |succ m ih=>
  intro k s v hM h1 h2;by_cases h:k<l.length
  .have w:aD .i64 ((k:Int)+1)=((k+1:Nat):Int):=wrap64 (by omega) (by omega);have hlen:((l.take k).map BL).length=k:=(by simp;omega);obtain⟨s5,v5,a1,a2,a3,_⟩:=hM.push (c:=c) (R:=AV×St) (bytes:=16) (z:=[.str []]) (x:= .str l[k]) rfl rfl rfl (by decide) (by rw[hlen];omega) (by rw[hlen];omega);have e:(l.take (k+1)).map BL=(l.take k).map BL++[(.str l[k]:AV).cells]:=(by rw[Zb4 h,Zh3];rfl);rw[<-e]at a2;obtain⟨s',v',b1,b2⟩:=ih (k+1) s5 v5 a2 (by omega) (by omega);refine⟨s',v',b1,?_⟩;rw[<-b2,kF];simp[-cr,lI,ee,h,w,a1]
  .obtain rfl:k=l.length:=(by omega);refine⟨s,v,by simpa using hM,?_⟩;rw[kF];simp[lI]
theorem Xh(hc:Sem c)(z:Bool)(l:List (List Nat))(hl:l.length<=j5)(s:St)(hw:Wf s):∃v s',c 187 [ee z l] s=some (v,s')/\Mk 1 s s' v (l.map BL):=by
 obtain⟨s',v,hM,L⟩:=Sq (c:=c) z l hl (l.length+1) (λvs rH=>eB vs λx3 vs=>gu vs (ai c .move [x3] rH λHD HG=>ai c .move [HD] HG λx2 HH=>some (x2,HH))) (s0:=s) l.length 0 s .aq (Mk.start hw (Grew.refl hw)) (by omega) (by omega);obtain⟨fq,t1,t2⟩:=hM.tidy;refine⟨v,fq,?_,t2⟩;rw[D8 hc (l.length+1) (r:=(v,s')),t1];rw[Gv];simp at L;simp[L]
theorem Ur(z:Bool)(l:List (Ty))(hl:l.length<=j5)(F:Nat)(k2){s0:St}:∀(m k:Nat)(s:St)(v:AV),Mk 3 s0 s v ((l.take k).map Ty.cells)->l.length<=k+m->k<=l.length->
  ∃s' v',Mk 3 s0 s' v' (l.map Ty.cells)/\gX c F k2 (m+1) [cj z l,v,.int .i64 (k:Int)] s=k2 [v'] s':=by
 have hl:l.length<=1048576:=hl;have lI:∀(K:AV->St->Option (AV×St))(s:St),ai c (.lenB .l) [cj z l] s K=K (.int .i64 (l.length:Int)) s:=λK s=>by unfold cj;rw[bX];simp
 intro m;induction m with
 |zero=>
  intro k s v hM h1 h2;obtain rfl:k=l.length:=by omega
  refine⟨s,v,by simpa using hM,?_⟩;rw[lD];simp[lI]
 |succ m ih=>
  intro k s v hM h1 h2;by_cases h:k<l.length
  .have w:aD .i64 ((k:Int)+1)=((k+1:Nat):Int):=wrap64 (by omega) (by omega);have hlen:((l.take k).map Ty.cells).length=k:=(by simp;omega);obtain⟨s5,v5,a1,a2,a3,_⟩:=hM.push (c:=c) (R:=AV×St) (bytes:=40) (z:=[.str [],.str [],.int .u8 0]) (x:= .agg l[k].cells) rfl rfl (by simp) (by decide) (by rw[hlen];omega) (by rw[hlen];omega);have e:(l.take (k+1)).map Ty.cells=(l.take k).map Ty.cells++[(.agg l[k].cells:AV).cells]:=(by rw[Zb4 h,Zh3];rfl);rw[<-e]at a2;obtain⟨s',v',b1,b2⟩:=ih (k+1) s5 v5 a2 (by omega) (by omega);refine⟨s',v',b1,?_⟩;rw[<-b2,lD];simp[-cr,lI,cj,h,w,a1,Ty.len]
  .obtain rfl:k=l.length:=(by omega);refine⟨s,v,by simpa using hM,?_⟩;rw[lD];simp[lI]
theorem XT(hc:Sem c)(z:Bool)(l:List (Ty))(hl:l.length<=j5)(s:St)(hw:Wf s):∃v s',c 98 [cj z l] s=some (v,s')/\Mk 3 s s' v (l.map Ty.cells):=by
 obtain⟨s',v,hM,L⟩:=Ur (c:=c) z l hl (l.length+1) (λvs rH=>eB vs λx3 vs=>gu vs (ai c .move [x3] rH λHD HG=>ai c .move [HD] HG λx2 HH=>some (x2,HH))) (s0:=s) l.length 0 s .aq (Mk.start hw (Grew.refl hw)) (by omega) (by omega);obtain⟨fq,t1,t2⟩:=hM.tidy;refine⟨v,fq,?_,t2⟩;rw[EF hc (l.length+1) (r:=(v,s')),t1];rw[HK];simp at L;simp[L]
theorem Sr(z:Bool)(l:List (Rl))(hl:l.length<=j5)(F:Nat)(k2){s0:St}:∀(m k:Nat)(s:St)(v:AV),Mk 6 s0 s v ((l.take k).map Rl.cells)->l.length<=k+m->k<=l.length->
  ∃s' v',Mk 6 s0 s' v' (l.map Rl.cells)/\gw c F k2 (m+1) [iG z l,v,.int .i64 (k:Int)] s=k2 [v'] s':=by
 have hl:l.length<=1048576:=hl;have lI:∀(K:AV->St->Option (AV×St))(s:St),ai c (.lenB .l) [iG z l] s K=K (.int .i64 (l.length:Int)) s:=λK s=>by unfold iG;rw[bX];simp
 intro m;induction m with
 |zero=>
  intro k s v hM h1 h2;obtain rfl:k=l.length:=by omega
  refine⟨s,v,by simpa using hM,?_⟩;rw[kE];simp[lI]
 |succ m ih=>
  intro k s v hM h1 h2;by_cases h:k<l.length
  .have w:aD .i64 ((k:Int)+1)=((k+1:Nat):Int):=wrap64 (by omega) (by omega);have hlen:((l.take k).map Rl.cells).length=k:=(by simp;omega);obtain⟨s5,v5,a1,a2,a3,_⟩:=hM.push (c:=c) (R:=AV×St) (bytes:=72) (z:=[.int .u8 0,.int .i64 0,.str [],.str [],.str [],.int .i64 0]) (x:= .agg l[k].cells) rfl rfl (by simp) (by decide) (by rw[hlen];omega) (by rw[hlen];omega);have e:(l.take (k+1)).map Rl.cells=(l.take k).map Rl.cells++[(.agg l[k].cells:AV).cells]:=(by rw[Zb4 h,Zh3];rfl);rw[<-e]at a2;obtain⟨s',v',b1,b2⟩:=ih (k+1) s5 v5 a2 (by omega) (by omega);refine⟨s',v',b1,?_⟩;rw[<-b2,kE];simp[-cr,lI,iG,h,w,a1]
  .obtain rfl:k=l.length:=(by omega);refine⟨s,v,by simpa using hM,?_⟩;rw[kE];simp[lI]
theorem Xi(hc:Sem c)(z:Bool)(l:List (Rl))(hl:l.length<=j5)(s:St)(hw:Wf s):∃v s',c 100 [iG z l] s=some (v,s')/\Mk 6 s s' v (l.map Rl.cells):=by
 obtain⟨s',v,hM,L⟩:=Sr (c:=c) z l hl (l.length+1) (λvs rH=>eB vs λx3 vs=>gu vs (ai c .move [x3] rH λHD HG=>ai c .move [HD] HG λx2 HH=>some (x2,HH))) (s0:=s) l.length 0 s .aq (Mk.start hw (Grew.refl hw)) (by omega) (by omega);obtain⟨fq,t1,t2⟩:=hM.tidy;refine⟨v,fq,?_,t2⟩;rw[DZ hc (l.length+1) (r:=(v,s')),t1];rw[Gp];simp at L;simp[L]
theorem Xj(hc:Sem c)(t:aG)(ht:t.Real)(s:St)(hw:Wf s):∃v s',c 132 [.agg t.cells] s=some (.agg (t.aC v),s')/\Mk 1 s s' v (t.cA.map bL):=by
 have bV:Wf (af s (.cells t.cells 0)):=bE hw;have g1:=Grew.af hw (.cells t.cells 0);have e8:Wf (af (af s (.cells t.cells 0)) (.cells [.str [],.int .u8 0,.int .i64 0,.int .i64 0,.aq,.int .i64 0,.int .i64 0] 0)):=bE bV;have g2:=Grew.af bV (.cells [.str [],.int .u8 0,.int .i64 0,.int .i64 0,.aq,.int .i64 0,.int .i64 0] 0);have x1:(af (af s (.cells t.cells 0)) (.cells [.str [],.int .u8 0,.int .i64 0,.int .i64 0,.aq,.int .i64 0,.int .i64 0] 0)).heap.get s.next=some (.cells t.cells 0):=g2.get (aE _ _);have x2:=aE (af s (.cells t.cells 0)) (.cells [.str [],.int .u8 0,.int .i64 0,.int .i64 0,.aq,.int .i64 0,.int .i64 0] 0);have n12:s.next≠(af s (.cells t.cells 0)).next:=by rw[dD];exact Pos.RD _
 have gu:s.next.toNat<(af s (.cells t.cells 0)).next.toNat:=by rw[dD,Pos.aB];omega
 have nl2:(af s (.cells t.cells 0)).next.toNat<(af (af s (.cells t.cells 0)) (.cells [.str [],.int .u8 0,.int .i64 0,.int .i64 0,.aq,.int .i64 0,.int .i64 0] 0)).next.toNat:=by rw[dD (af s (.cells t.cells 0)),Pos.aB];omega
 have gg:=g1.trans g2;have c4:t.cells[4]? =some (ints t.oz t.cA):=rfl;generalize A0:af (af s (.cells t.cells 0)) (.cells [.str [],.int .u8 0,.int .i64 0,.int .i64 0,.aq,.int .i64 0,.int .i64 0] 0)=s2 at e8 g2 x1 x2 nl2 gg;generalize AS:(af s (.cells t.cells 0)).next=p2 at x2 n12 gu nl2;obtain⟨v,s3,C,M⟩:=GC hc t.oz t.cA ht.cA s2 e8;obtain⟨vc,v1⟩:=M.cells;have y1:=M.ax.get x1;have y2:=M.ax.get x2;have tY:∀b,cZ v=some b->s2.next.toNat<=b.toNat:=M.new;have aN:∀(K:AV->St->Option (AV×St)),ai c (.store 1) [.ptr s.next 4,v] s3 K=K .undef (eG s3 s.next (.cells (t.aC v) 0)):=λK=>by rw[jt c K s3 1 s.next 4 v t.cells y1 (by rw[vc];rfl) (by rw[aG.len];omega) (by rw[vc];exact v1),vc];rfl
 have nx3:=M.ax.next;have M1:Mk 1 s s3 v (t.cA.map bL):=M.back hw gg;have M2:=M1.store (p:=s.next) (b:= .cells (t.aC v) 0) (Za3 _) (by omega) (λe=>by have:=tY _ e;omega);have z1:(eG s3 s.next (.cells (t.aC v) 0)).heap.get s.next=some (.cells (t.aC v) 0):=oe _ _ _;have z2:(eG s3 s.next (.cells (t.aC v) 0)).heap.get p2=some (.cells [.str [],.int .u8 0,.int .i64 0,.int .i64 0,.aq,.int .i64 0,.int .i64 0] 0):=by rw[b9 n12];exact y2
 have nz:(eG s3 s.next (.cells (t.aC v) 0)).next=s3.next:=rfl;generalize hs4:eG s3 s.next (.cells (t.aC v) 0)=s4 at aN M2 z1 z2 nz;have one:aZ (t.aC v)=true:=by
  simp only[aZ]at v1;unfold aG.aC;simp only[aZ,AV.one,v1,Zj4,Zj3]at*
 have hcut:cut (t.aC v) 0 7=some (t.aC v):=bK rfl;have jO:∀(K:AV->St->Option (AV×St)),ai c (.store 7) [.ptr p2 0,.agg (t.aC v)] s4 K=K .undef (eG s4 p2 (.cells (t.aC v) 0)):=λK=>by rw[jt c K s4 7 p2 0 (.agg (t.aC v)) _ z2 rfl (by simp) one];rfl
 have M3:=M2.store (p:=p2) (b:= .cells (t.aC v) 0) (by omega) (by rw[nz];omega) (λe=>by have:=tY _ e;omega);have mem:v∈t.aC v:=by simp[aG.aC]
 obtain⟨fq,t1,_,t3⟩:=M3.OX mem (λu hu=>by simp only[aG.aC,Za5,Zd2,Zh6]at hu;rcases hu with rfl|rfl|rfl|rfl|rfl|rfl|rfl<;>first|exact fc.str ht.name|exact fc.int _ _|exact M.inst);refine⟨v,fq,?_,t3⟩;rw[D4 hc 1 (r:=(.agg (t.aC v),eG s4 p2 (.cells (t.aC v) 0))),t1];rw[Gr];simp[A0,AS,x1,c4,C,aN,z1,hcut,jO]
theorem Xk(hc:Sem c)(t:aL)(ht:t.Real)(s:St)(hw:Wf s):∃v s',c 133 [.agg t.cells] s=some (.agg (t.aC v),s')/\Mk 1 s s' v (t.tg.map BL):=by
 have bV:Wf (af s (.cells t.cells 0)):=bE hw;have g1:=Grew.af hw (.cells t.cells 0);have e8:Wf (af (af s (.cells t.cells 0)) (.cells [.str [],.str [],.str [],.int .i64 0,.int .i64 0,.str [],.bool false,.bool false,.aq] 0)):=bE bV;have g2:=Grew.af bV (.cells [.str [],.str [],.str [],.int .i64 0,.int .i64 0,.str [],.bool false,.bool false,.aq] 0);have x1:(af (af s (.cells t.cells 0)) (.cells [.str [],.str [],.str [],.int .i64 0,.int .i64 0,.str [],.bool false,.bool false,.aq] 0)).heap.get s.next=some (.cells t.cells 0):=g2.get (aE _ _);have x2:=aE (af s (.cells t.cells 0)) (.cells [.str [],.str [],.str [],.int .i64 0,.int .i64 0,.str [],.bool false,.bool false,.aq] 0);have n12:s.next≠(af s (.cells t.cells 0)).next:=by rw[dD];exact Pos.RD _
 have gu:s.next.toNat<(af s (.cells t.cells 0)).next.toNat:=by rw[dD,Pos.aB];omega
 have nl2:(af s (.cells t.cells 0)).next.toNat<(af (af s (.cells t.cells 0)) (.cells [.str [],.str [],.str [],.int .i64 0,.int .i64 0,.str [],.bool false,.bool false,.aq] 0)).next.toNat:=by rw[dD (af s (.cells t.cells 0)),Pos.aB];omega
 have gg:=g1.trans g2;have c4:t.cells[8]? =some (ee t.tz t.tg):=rfl;generalize A0:af (af s (.cells t.cells 0)) (.cells [.str [],.str [],.str [],.int .i64 0,.int .i64 0,.str [],.bool false,.bool false,.aq] 0)=s2 at e8 g2 x1 x2 nl2 gg;generalize AS:(af s (.cells t.cells 0)).next=p2 at x2 n12 gu nl2;obtain⟨v,s3,C,M⟩:=Xh hc t.tz t.tg ht.tg s2 e8;obtain⟨vc,v1⟩:=M.cells;have y1:=M.ax.get x1;have y2:=M.ax.get x2;have tY:∀b,cZ v=some b->s2.next.toNat<=b.toNat:=M.new;have aN:∀(K:AV->St->Option (AV×St)),ai c (.store 1) [.ptr s.next 8,v] s3 K=K .undef (eG s3 s.next (.cells (t.aC v) 0)):=λK=>by rw[jt c K s3 1 s.next 8 v t.cells y1 (by rw[vc];rfl) (by rw[aL.len];omega) (by rw[vc];exact v1),vc];rfl
 have nx3:=M.ax.next;have M1:Mk 1 s s3 v (t.tg.map BL):=M.back hw gg;have M2:=M1.store (p:=s.next) (b:= .cells (t.aC v) 0) (Za3 _) (by omega) (λe=>by have:=tY _ e;omega);have z1:(eG s3 s.next (.cells (t.aC v) 0)).heap.get s.next=some (.cells (t.aC v) 0):=oe _ _ _;have z2:(eG s3 s.next (.cells (t.aC v) 0)).heap.get p2=some (.cells [.str [],.str [],.str [],.int .i64 0,.int .i64 0,.str [],.bool false,.bool false,.aq] 0):=by rw[b9 n12];exact y2
 have nz:(eG s3 s.next (.cells (t.aC v) 0)).next=s3.next:=rfl;generalize hs4:eG s3 s.next (.cells (t.aC v) 0)=s4 at aN M2 z1 z2 nz;have one:aZ (t.aC v)=true:=by
  simp only[aZ]at v1;unfold aL.aC;simp only[aZ,AV.one,v1,Zj4,Zj3]at*
 have hcut:cut (t.aC v) 0 9=some (t.aC v):=bK rfl;have jO:∀(K:AV->St->Option (AV×St)),ai c (.store 9) [.ptr p2 0,.agg (t.aC v)] s4 K=K .undef (eG s4 p2 (.cells (t.aC v) 0)):=λK=>by rw[jt c K s4 9 p2 0 (.agg (t.aC v)) _ z2 rfl (by simp) one];rfl
 have M3:=M2.store (p:=p2) (b:= .cells (t.aC v) 0) (by omega) (by rw[nz];omega) (λe=>by have:=tY _ e;omega);have mem:v∈t.aC v:=by simp[aL.aC]
 obtain⟨fq,t1,_,t3⟩:=M3.OX mem (λu hu=>by simp only[aL.aC,Za5,Zd2,Zh6]at hu;rcases hu with rfl|rfl|rfl|rfl|rfl|rfl|rfl|rfl|rfl<;>first|exact fc.str ht.name|exact fc.str ht.l7|exact fc.str ht.jB|exact fc.str ht.l8|exact fc.int _ _|exact fc.bool _|exact M.inst);refine⟨v,fq,?_,t3⟩;rw[D5 hc 1 (r:=(.agg (t.aC v),eG s4 p2 (.cells (t.aC v) 0))),t1];rw[Gs];simp[A0,AS,x1,c4,C,aN,z1,hcut,jO]
theorem Ra(hc:Sem c)(z:Bool)(ts:List aG)(hl:ts.length<=1000)(hr:∀t∈ts,t.Real)(F:Nat)(k2){s0:St}:∀(m k f:Nat)(s:St)(V:AV)(rows:List (List AV)),m<f->k+m=ts.length->TS s0 s V (ts.take k) rows->
  ∃s' V' JG,TS s0 s' V' ts JG/\fV c F k2 f [tabs z ts,V,.int .i64 (k:Int)] s=k2 [V'] s':=by
 have lI:∀(K:AV->St->Option (AV×St))(s:St),ai c (.lenB .l) [tabs z ts] s K=K (.int .i64 (ts.length:Int)) s:=λK s=>by unfold tabs;rw[bX];simp
 intro m;induction m with
 |zero=>
  intro k f s V rows hf h1 hT;obtain⟨f,rfl⟩:∃g,f=g+1:=⟨f - 1,by omega⟩
  obtain rfl:k=ts.length:=by omega
  refine⟨s,V,rows,by simpa using hT,?_⟩;rw[qF];simp[lI]
 |succ m ih=>
  intro k f s V rows hf h1 hT;obtain⟨f,rfl⟩:∃g,f=g+1:=⟨f - 1,by omega⟩
  have h:k<ts.length:=by omega
  have w:aD .i64 ((k:Int)+1)=((k+1:Nat):Int):=wrap64 (by omega) (by omega);have hw:=hT.out.ax.wf;obtain⟨v,s1,C,M⟩:=Xj hc ts[k] (hr _ (Zc2 h)) s hw;have O1:=hT.out.grow M.ax;have rl:rows.length=k:=by rw[hT.len];simp;omega
  obtain⟨s5,V5,a1,a2,a3,a4⟩:=O1.push (c:=c) (R:=AV×St) (bytes:=80) (z:=[.str [],.int .u8 0,.int .i64 0,.int .i64 0,.aq,.int .i64 0,.int .i64 0]) (x:= .agg (ts[k].aC v)) rfl rfl (aG.Se _ M.cells.2) (by decide) (by rw[rl];omega) (by rw[rl];omega);have Mv:=M.back hT.out.sk hT.out.ax;have vV:∀b,cZ v=some b->cZ V≠some b:=λb hb e=>by have p1:=M.new b hb;have p2:=hT.out.own.lt hw e;omega
  have T5:TS s0 s5 V5 (ts.take (k+1)) (rows++[ts[k].aC v]):=by
   (refine⟨a2,by simp[rl];omega,λi t r hi Mz=> ?_⟩;have small:∀u:AV,∀(rw:List (List AV)),Mk 1 s0 s1 u rw->(∀b,cZ u=some b->cZ V≠some b)->Mk 1 s0 s5 u rw/\∀b,cZ u=some b->cZ V5≠some b:=λu rw hu aR=>by refine⟨Mk.Qp hu a2.ax λb x hb hx=>a3 b x (aR b hb) hx,λb hb e=> ?_⟩;have p1:=a4 b e;have p2:=hu.own.lt hu.ax.wf hb;omega);by_cases BW:i<k
   .    (rw[Zc9 (by omega)]at Mz;have zW:(ts.take k)[i]? =some t:=by rw[Zb1]at hi ⊢;rw[Za2 (by omega)]at hi;rw[Za2 BW];exact hi);obtain⟨u,e1,e2,e3⟩:=hT.Aa i t r zW Mz;obtain⟨f1,f2⟩:=small u _ (e2.grow M.ax) e3;exact⟨u,e1,f1,f2⟩
   .    have adt:i=k:=(by have:=(H5.1 hi).1;simp at this;omega);subst adt;rw[Zd0 (by omega)]at Mz;simp[rl]at Mz;rw[Zb1,Za2 (by omega),H1 h]at hi;cases hi;obtain⟨f1,f2⟩:=small v _ Mv vV;exact⟨v,Mz.symm,f1,f2⟩
  obtain⟨s',V',JG,b1,b2⟩:=ih (k+1) f s5 V5 _ (by omega) (by omega) T5;refine⟨s',V',JG,b1,?_⟩;rw[<-b2,qF];unfold tabs at lI ⊢;simp[-cr,lI,h,w,aG.len,C,a1]
theorem Us(hc:Sem c)(z:Bool)(ts:List aG)(hl:ts.length<=1000)(hr:∀t∈ts,t.Real)(s:St)(hw:Wf s):∃V s' rows,c 96 [tabs z ts] s=some (V,s')/\TS s s' V ts rows:=by
 obtain⟨s',V,rows,hT,L⟩:=Ra hc z ts hl hr (ts.length+1) (λvs rH=>eB vs λx3 vs=>gu vs (ai c .move [x3] rH λHD HG=>ai c .move [HD] HG λx2 HH=>some (x2,HH))) ts.length 0 (ts.length+1) s .aq [] (by omega) (by omega) ⟨Mk.start hw (Grew.refl hw),by simp,λi t r h=>by simp at h⟩;have fin:∃fq,tidy s (V,s')=(V,fq)/\TS s fq V ts rows:=by
  unfold tidy;by_cases hp:Plain (V,s').1/\aP s (V,s').2
  . rw[Za2 hp];refine⟨s,rfl,?_⟩;rcases hT.out.loose with⟨b,off,n,e⟩|⟨jW,e⟩
    .   rw[e]at hp;exact(Go.Ai.iY hp.1).elim
    .   exact⟨jW s hw,hT.len,λi t r _ h=>by rw[e]at h;simp at h⟩
  .rw[Za1 hp];exact⟨s',rfl,hT⟩
 obtain⟨fq,t1,t2⟩:=fin;refine⟨V,fq,rows,?_,t2⟩;rw[CA hc (ts.length+1) (r:=(V,s')),t1];rw[EB];simp at L;simp[L]
theorem Rb(hc:Sem c)(z:Bool)(ts:List aL)(hl:ts.length<=1000)(hr:∀t∈ts,t.Real)(F:Nat)(k2){s0:St}:∀(m k f:Nat)(s:St)(V:AV)(rows:List (List AV)),m<f->k+m=ts.length->GS s0 s V (ts.take k) rows->
  ∃s' V' JG,GS s0 s' V' ts JG/\fW c F k2 f [bk z ts,V,.int .i64 (k:Int)] s=k2 [V'] s':=by
 have lI:∀(K:AV->St->Option (AV×St))(s:St),ai c (.lenB .l) [bk z ts] s K=K (.int .i64 (ts.length:Int)) s:=λK s=>by unfold bk;rw[bX];simp
 intro m;induction m with
 |zero=>
  intro k f s V rows hf h1 hT;obtain⟨f,rfl⟩:∃g,f=g+1:=⟨f - 1,by omega⟩
  obtain rfl:k=ts.length:=by omega
  refine⟨s,V,rows,by simpa using hT,?_⟩;rw[qG];simp[lI]
 |succ m ih=>
  intro k f s V rows hf h1 hT;obtain⟨f,rfl⟩:∃g,f=g+1:=⟨f - 1,by omega⟩
  have h:k<ts.length:=by omega
  have w:aD .i64 ((k:Int)+1)=((k+1:Nat):Int):=wrap64 (by omega) (by omega);have hw:=hT.out.ax.wf;obtain⟨v,s1,C,M⟩:=Xk hc ts[k] (hr _ (Zc2 h)) s hw;have O1:=hT.out.grow M.ax;have rl:rows.length=k:=by rw[hT.len];simp;omega
  obtain⟨s5,V5,a1,a2,a3,a4⟩:=O1.push (c:=c) (R:=AV×St) (bytes:=112) (z:=[.str [],.str [],.str [],.int .i64 0,.int .i64 0,.str [],.bool false,.bool false,.aq]) (x:= .agg (ts[k].aC v)) rfl rfl (aL.Se _ M.cells.2) (by decide) (by rw[rl];omega) (by rw[rl];omega);have Mv:=M.back hT.out.sk hT.out.ax;have vV:∀b,cZ v=some b->cZ V≠some b:=λb hb e=>by have p1:=M.new b hb;have p2:=hT.out.own.lt hw e;omega
  have T5:GS s0 s5 V5 (ts.take (k+1)) (rows++[ts[k].aC v]):=by
   (refine⟨a2,by simp[rl];omega,λi t r hi Mz=> ?_⟩;have small:∀u:AV,∀(rw:List (List AV)),Mk 1 s0 s1 u rw->(∀b,cZ u=some b->cZ V≠some b)->Mk 1 s0 s5 u rw/\∀b,cZ u=some b->cZ V5≠some b:=λu rw hu aR=>by refine⟨Mk.Qp hu a2.ax λb x hb hx=>a3 b x (aR b hb) hx,λb hb e=> ?_⟩;have p1:=a4 b e;have p2:=hu.own.lt hu.ax.wf hb;omega);by_cases BW:i<k
   .    (rw[Zc9 (by omega)]at Mz;have zW:(ts.take k)[i]? =some t:=by rw[Zb1]at hi ⊢;rw[Za2 (by omega)]at hi;rw[Za2 BW];exact hi);obtain⟨u,e1,e2,e3⟩:=hT.Aa i t r zW Mz;obtain⟨f1,f2⟩:=small u _ (e2.grow M.ax) e3;exact⟨u,e1,f1,f2⟩
   .    have adt:i=k:=(by have:=(H5.1 hi).1;simp at this;omega);subst adt;rw[Zd0 (by omega)]at Mz;simp[rl]at Mz;rw[Zb1,Za2 (by omega),H1 h]at hi;cases hi;obtain⟨f1,f2⟩:=small v _ Mv vV;exact⟨v,Mz.symm,f1,f2⟩
  obtain⟨s',V',JG,b1,b2⟩:=ih (k+1) f s5 V5 _ (by omega) (by omega) T5;refine⟨s',V',JG,b1,?_⟩;rw[<-b2,qG];unfold bk at lI ⊢;simp[-cr,lI,h,w,aL.len,C,a1]
theorem Ut(hc:Sem c)(z:Bool)(ts:List aL)(hl:ts.length<=1000)(hr:∀t∈ts,t.Real)(s:St)(hw:Wf s):∃V s' rows,c 97 [bk z ts] s=some (V,s')/\GS s s' V ts rows:=by
 obtain⟨s',V,rows,hT,L⟩:=Rb hc z ts hl hr (ts.length+1) (λvs rH=>eB vs λx3 vs=>gu vs (ai c .move [x3] rH λHD HG=>ai c .move [HD] HG λx2 HH=>some (x2,HH))) ts.length 0 (ts.length+1) s .aq [] (by omega) (by omega) ⟨Mk.start hw (Grew.refl hw),by simp,λi t r h=>by simp at h⟩;have fin:∃fq,tidy s (V,s')=(V,fq)/\GS s fq V ts rows:=by
  unfold tidy;by_cases hp:Plain (V,s').1/\aP s (V,s').2
  . rw[Za2 hp];refine⟨s,rfl,?_⟩;rcases hT.out.loose with⟨b,off,n,e⟩|⟨jW,e⟩
    .   rw[e]at hp;exact(Go.Ai.iY hp.1).elim
    .   exact⟨jW s hw,hT.len,λi t r _ h=>by rw[e]at h;simp at h⟩
  .rw[Za1 hp];exact⟨s',rfl,hT⟩
 obtain⟨fq,t1,t2⟩:=fin;refine⟨V,fq,rows,?_,t2⟩;rw[CB hc (ts.length+1) (r:=(V,s')),t1];rw[EC];simp at L;simp[L]
theorem Ss(hc:Sem c)(p:aS)(hp:p.Real)(s:St)(hw:Wf s):∃Vs s',c 47 [.agg p.cells] s=some (.agg Vs,s')/\PS s s' Vs p:=by
 have bV:Wf (af s (.cells p.cells 0)):=bE hw;have e8:Wf (af (af s (.cells p.cells 0)) (.cells [.aq,.aq,.aq,.aq,.aq] 0)):=bE bV;have g2:=(Grew.af hw (.cells p.cells 0)).trans (Grew.af bV (.cells [.aq,.aq,.aq,.aq,.aq] 0));have x1:(af (af s (.cells p.cells 0)) (.cells [.aq,.aq,.aq,.aq,.aq] 0)).heap.get s.next=some (.cells p.cells 0):=(Grew.af bV _).get (aE _ _);have x2:=aE (af s (.cells p.cells 0)) (.cells [.aq,.aq,.aq,.aq,.aq] 0);have nl:s.next.toNat<(af s (.cells p.cells 0)).next.toNat:=by rw[dD,Pos.aB];omega
 generalize Lx:af (af s (.cells p.cells 0)) (.cells [.aq,.aq,.aq,.aq,.aq] 0)=s1 at e8 g2 x1 x2;generalize AS:(af s (.cells p.cells 0)).next=p2 at x2 nl;obtain⟨V1,s2,r1,C1,T1⟩:=Us hc p.tz p.ts hp.ts hp.tab s1 e8;obtain⟨V2,s3,r2,C2,T2⟩:=Ut hc p.gz p.gs hp.gs hp.bu s2 T1.out.ax.wf;obtain⟨V3,s4,C3,T3⟩:=XT hc p.yz p.ys hp.ys s3 T2.out.ax.wf;obtain⟨V4,s5,C4,T4⟩:=GC hc p.cz p.cs hp.cs s4 T3.ax.wf;obtain⟨V5,s6,C5,T5⟩:=Xi hc p.rz p.rs hp.rs s5 T4.ax.wf;have MD:=T1.out.ax;have Om:=T2.out.ax;have Rc:=T3.ax;have TG:=T4.ax;have YZ:=T5.ax;have y2:=MD.get x1;have y3:=Om.get y2;have y4:=Rc.get y3;have y5:=TG.get y4;have z6:=YZ.get (TG.get (Rc.get (Om.get (MD.get x2))));have WJ:=e8 _ _ x2;have L0:∀(ok:AV->Bool)(K:AV->Option (AV×St)),ok (tabs p.tz p.ts)=true->lS (.load none) [.ptr s.next 0] s1.heap ok K=K (tabs p.tz p.ts):=λok K h=>Mo (by rw[x1];rfl) ok h K
 have L1:∀(ok:AV->Bool)(K:AV->Option (AV×St)),ok (bk p.gz p.gs)=true->lS (.load none) [.ptr s.next 1] s2.heap ok K=K (bk p.gz p.gs):=λok K h=>Mo (by rw[y2];rfl) ok h K
 have L2:∀(ok:AV->Bool)(K:AV->Option (AV×St)),ok (cj p.yz p.ys)=true->lS (.load none) [.ptr s.next 2] s3.heap ok K=K (cj p.yz p.ys):=λok K h=>Mo (by rw[y3];rfl) ok h K
 have L3:∀(ok:AV->Bool)(K:AV->Option (AV×St)),ok (ints p.cz p.cs)=true->lS (.load none) [.ptr s.next 3] s4.heap ok K=K (ints p.cz p.cs):=λok K h=>Mo (by rw[y4];rfl) ok h K
 have L4:∀(ok:AV->Bool)(K:AV->Option (AV×St)),ok (iG p.rz p.rs)=true->lS (.load none) [.ptr s.next 4] s5.heap ok K=K (iG p.rz p.rs):=λok K h=>Mo (by rw[y5];rfl) ok h K
 have b1:=wX (Jy p.gz p.gs);have b2:=wX (Z6 p.yz p.ys);have b3:=wX (ZZ (d:=2) p.cz p.cs);have b4:=wX (abi p.rz p.rs);have q11:=nA (p:=s.next) (o:=1) (h:=s1.heap) (v:=bk p.gz p.gs) (by rw[x1];rfl) b1;have q21:=nA (p:=s.next) (o:=2) (h:=s1.heap) (v:=cj p.yz p.ys) (by rw[x1];rfl) b2;have q22:=nA (p:=s.next) (o:=2) (h:=s2.heap) (v:=cj p.yz p.ys) (by rw[y2];rfl) b2;have q31:=nA (p:=s.next) (o:=3) (h:=s1.heap) (v:=ints p.cz p.cs) (by rw[x1];rfl) b3;have q32:=nA (p:=s.next) (o:=3) (h:=s2.heap) (v:=ints p.cz p.cs) (by rw[y2];rfl) b3;have q33:=nA (p:=s.next) (o:=3) (h:=s3.heap) (v:=ints p.cz p.cs) (by rw[y3];rfl) b3;have q41:=nA (p:=s.next) (o:=4) (h:=s1.heap) (v:=iG p.rz p.rs) (by rw[x1];rfl) b4;have q42:=nA (p:=s.next) (o:=4) (h:=s2.heap) (v:=iG p.rz p.rs) (by rw[y2];rfl) b4;have q43:=nA (p:=s.next) (o:=4) (h:=s3.heap) (v:=iG p.rz p.rs) (by rw[y3];rfl) b4;have q44:=nA (p:=s.next) (o:=4) (h:=s4.heap) (v:=iG p.rz p.rs) (by rw[y4];rfl) b4;obtain⟨c1,o1⟩:=T1.out.cells;obtain⟨c2,o2⟩:=T2.out.cells;obtain⟨c3,o3⟩:=T3.cells;obtain⟨c4,o4⟩:=T4.cells;obtain⟨c5,o5⟩:=T5.cells;have yq:bG [AV.aq,.aq,.aq,.aq,.aq] [(0,1),(1,1),(2,1),(3,1),(4,1)] [V1,V2,V3,V4,V5]=some [V1,V2,V3,V4,V5]:=by
  simp[bG,dK,dX,aH,c1,c2,c3,c4,c5]
 have one:aZ [V1,V2,V3,V4,V5]=true:=by
  simp only[aZ,Zj3]at o1 o2 o3 o4 o5;simp only[aZ,o1,o2,o3,o4,o5,Zj4]
 have oX:∀(K:AV->St->Option (AV×St)),ai c (.store 5) [.ptr p2 0,.agg [V1,V2,V3,V4,V5]] s6 K=K .undef (eG s6 p2 (.cells [V1,V2,V3,V4,V5] 0)):=λK=>by rw[jt c K s6 5 p2 0 (.agg [V1,V2,V3,V4,V5]) _ z6 rfl (by simp) one];rfl
 have G16:=MD.trans (Om.trans (Rc.trans (TG.trans YZ)));have G7:Grew s (eG s6 p2 (.cells [V1,V2,V3,V4,V5] 0)):=⟨G6 G16.wf (by have:=G16.next;omega),λq b hq=>by have:=hw _ _ hq;rw[b9 (λe=>by rw[e]at nl;omega)];exact(g2.trans G16).get hq,by rw[Dn];exact(g2.trans G16).next⟩
 have j9:∀q b,s1.next.toNat<=q.toNat->s6.heap.get q=some b->(eG s6 p2 (.cells [V1,V2,V3,V4,V5] 0)).heap.get q=some b:=λq b hq h=>by rw[b9 (λe=>by rw[e]at WJ;omega)];exact h
 have F1:=T1.yH hw g2 G7 λq b hq h=>j9 q b hq ((Om.trans (Rc.trans (TG.trans YZ))).get h)
 have F2:=T2.yH hw (g2.trans MD) G7 λq b hq h=>j9 q b (Zc3 MD.next hq) ((Rc.trans (TG.trans YZ)).get h)
 have F3:=T3.yH hw (g2.trans (MD.trans Om)) G7 λq b hq h=>j9 q b (Zc3 (MD.trans Om).next hq) ((TG.trans YZ).get h)
 have F4:=T4.yH hw (g2.trans (MD.trans (Om.trans Rc))) G7 λq b hq h=>j9 q b (Zc3 (MD.trans (Om.trans Rc)).next hq) (YZ.get h)
 have F5:=T5.yH hw (g2.trans (MD.trans (Om.trans (Rc.trans TG)))) G7 λq b hq h=>j9 q b (Zc3 (MD.trans (Om.trans (Rc.trans TG))).next hq) h
 have fin:∃fq,tidy s (.agg [V1,V2,V3,V4,V5],eG s6 p2 (.cells [V1,V2,V3,V4,V5] 0))=(.agg [V1,V2,V3,V4,V5],fq)/\PS s fq [V1,V2,V3,V4,V5] p:=by
  unfold tidy;by_cases hP:Plain (AV.agg [V1,V2,V3,V4,V5],eG s6 p2 (.cells [V1,V2,V3,V4,V5] 0)).1/\aP s (AV.agg [V1,V2,V3,V4,V5],eG s6 p2 (.cells [V1,V2,V3,V4,V5] 0)).2
  . rw[Za2 hP];have inst:∀v∈[V1,V2,V3,V4,V5],fc v:=λv hv=>by
        simp only[Za5,Zd2,Zh6]at hv;rcases hv with rfl|rfl|rfl|rfl|rfl
        .exact F1.out.inst
        .exact F2.out.inst
        .exact F3.inst
        .exact F4.inst
        .exact F5.inst
    have k1:=F1.out.loose.resolve_left λ⟨b,off,n,e⟩=>absurd hP.1 (mH inst (b:=b) (off:=off) (n:=n) (es:=7) (by rw[<-e];simp))
    have k2:=F2.out.loose.resolve_left λ⟨b,off,n,e⟩=>absurd hP.1 (mH inst (b:=b) (off:=off) (n:=n) (es:=9) (by rw[<-e];simp))
    have k3:=F3.loose.resolve_left λ⟨b,off,n,e⟩=>absurd hP.1 (mH inst (b:=b) (off:=off) (n:=n) (es:=3) (by rw[<-e];simp))
    have k4:=F4.loose.resolve_left λ⟨b,off,n,e⟩=>absurd hP.1 (mH inst (b:=b) (off:=off) (n:=n) (es:=1) (by rw[<-e];simp))
    have k5:=F5.loose.resolve_left λ⟨b,off,n,e⟩=>absurd hP.1 (mH inst (b:=b) (off:=off) (n:=n) (es:=6) (by rw[<-e];simp))
    exact⟨s,rfl,Grew.refl hw,V1,V2,V3,V4,V5,r1,r2,rfl,⟨k1.1 s hw,F1.len,λi t r _ h=>by rw[k1.2]at h;simp at h⟩,⟨k2.1 s hw,F2.len,λi t r _ h=>by rw[k2.2]at h;simp at h⟩,k3.1 s hw,k4.1 s hw,k5.1 s hw⟩
  .rw[Za1 hP];exact⟨_,rfl,G7,V1,V2,V3,V4,V5,r1,r2,rfl,F1,F2,F3,F4,F5⟩
 obtain⟨fq,t1,t2⟩:=fin;refine⟨_,fq,?_,t2⟩;rw[BM hc 1 (r:=(.agg [V1,V2,V3,V4,V5],eG s6 p2 (.cells [V1,V2,V3,V4,V5] 0))),t1];rw[DX];have hcut:cut [V1,V2,V3,V4,V5] 0 5=some [V1,V2,V3,V4,V5]:=bK rfl;simp[Lx,AS,L0,L1,L2,L3,L4,q11,q21,q22,q31,q32,q33,q41,q42,q43,q44,C1,C2,C3,C4,C5,yq,oX,hcut]
end
section
open Go Go.Ai Go.Proofs
section
variable{c:ah}
theorem aeI(hc:bZ c)(p:aS)(m:Nat)(s:St):c 44 [.agg p.cells,.int .i64 (m:Int)] s=some (.bool (BO p m),s):=
 hc.at (s:=nL 44) rfl (tU (by
  rw[Zb8,Zb8,Zf2,Nl];exact afv rfl p m (emptyAt s) (mW s)) (bY.bool _))
theorem adu(hc:bZ c)(p:aS)(hp:p.Real)(s:St)(hw:Wf s):∃Vs s',c 47 [.agg p.cells] s=some (.agg Vs,s')/\PS s s' Vs p:=by obtain⟨Vs,s1,e,P⟩:=Ss (c:=run CR gg) rfl p hp (emptyAt s) (mW s);refine⟨Vs,eP s s1,hc.at (s:=nL 47) rfl (Tn ?_ (bY.agg P.bare) P.ax.next),PS.eP hw P⟩;rw[Zb8,Zf2,Nl];exact e
theorem Xl(hc:bZ c)(p:aS)(hp:p.gW)(hr:∀r∈p.rs,r.Ok)(s:St):c 53 [.agg p.cells] s=some (.tuple [.int .i64 (cg p).1,.int .i64 (cg p).2],s):=
 hc.at (s:=nL 53) rfl (tU (by
  rw[Zb8,Zf2,Nl];exact Xd rfl p hp (YX rfl hp) hr (emptyAt s) (mW s)) (bY.tuple (by intro v hv;simp at hv;rcases hv with rfl|rfl<;>exact bY.int _ _)))
theorem ME(hc:bZ c)(z:Bool)(ts:List aG)(hl:ts.length<=100)(s:St):c 101 [tabs z ts] s=some (.int .i64 (bP ts),s):=
 hc.at (s:=nL 101) rfl (tU (by
  rw[Zb8,Zf2,tabs,Xe];exact Oi rfl z ts hl (emptyAt s) (mW s)) (bY.int _ _))
theorem MF(hc:bZ c)(z:Bool)(l:List Int)(hl:l.length<=j5)(s:St)(hw:Wf s):∃v s',c 99 [ints z l] s=some (v,s')/\Mk 1 s s' v (l.map bL):=by obtain⟨v,s1,e,M⟩:=GC (c:=run CR gg) rfl z l hl (emptyAt s) (mW s);refine⟨v,eP s s1,hc.at (s:=nL 99) rfl (Tn ?_ M.own.bare M.ax.next),Mk.eP hw M (xT Mp _)⟩;rw[Zb8,Zf2,ints,Xe];exact e
variable{s0 s:St}{Vs:List AV}{p:aS}
theorem adv(hc:bZ c)(h:PS s0 s Vs p){q:aS}(hq:p.cB q)(hR:p.Real)(hk:∀t∈p.ts,t.Ok):c 49 [.agg Vs,.agg q.cells] s=some (.bool true,s):=by
 obtain⟨p',e,S⟩:=h.cJ 1;refine hc.at (s:=nL 49) rfl (tU ?_ (bY.bool _));rw[Zb8,Zb8,Zf2,e,Nl];exact Sm rfl p' q (S.symm.trans hq) ((S.real hR).agq (λt ht=>by obtain⟨u,hu,z,rfl⟩:=S.tab ht;have:=hk u hu;exact⟨this.1,this.2⟩)) (emptyAt s) (mW s)
end
end
noncomputable section
open Go Go.Ai Go.Proofs
attribute [local go_sem ↓] bf nX ev Qu w5 getLT tV FX Lo rE rF Dr A3 A4 A5 w6 w7 w8 w9 xe xg A6 A7 xj xk xp xq xw Fl Fm Fo
attribute [local go_sem] bf nX ev
section
variable(c:ah)(F:Nat)(x0 x1 x2 x3 x4 x5 x6 x7 x8 x9 xA ue:AV)(s:St)
def Bp:Sh:=(sq sl (sq sl sl))
def Bq:PX 10 Bp:=⟨_,by conv=>lhs;reduce⟩
def wJ:O2:=bf c F bh Bq.1 [x0,x1] s
def MG:=(by dsimp only[wJ,Bq,go_sem,Int.reduceOfNat]:wJ c F x0 x1 s=_)
def nT:Sh:=(sq sl (sq sl sl))
def nU:PX 45 nT:=⟨_,by conv=>lhs;reduce⟩
def j6:O2:=bf c F bh nU.1 [x0,x1] s
def zO:=(by dsimp only[j6,nU,go_sem,Int.reduceOfNat]:j6 c F x0 x1 s=_)
def zA:Sh:=(sq sl (sq sl sl))
def zB:PX 46 zA:=⟨_,by conv=>lhs;reduce⟩
def tA:O2:=bf c F bh zB.1 [x0] s
def JH:=(by dsimp only[tA,zB,go_sem,Int.reduceOfNat]:tA c F x0 s=_)
def kI:Sh:=(sq sl (sq (sq sl (sq sl (sc (sq sl sl) sl))) (sq (sq sl (sc (sq sl sl) sl)) (sq sl (sq (sq sl (sb (sp 0 [1,2,10,11] [(1,[6,7]),(2,[])] (sq (sq sl (sc sl sl)) (sj [1,2,10,11] (sb (sq (sq sl (sc (sq (sq sl (sc (sq sl sl) sl)) sl) sl)) (sq (sq sl (sc (sq sl sl) sl)) (sq sl (sb (sp 1 [1,2,10,11,12] [(1,[6,7]),(4,[1,2,10,11])] (sq (sq sl (sc sl sl)) (sq (sb (sq sl (sc (sq sl sl) sl))) sl)))))))) sl))))) (sq sl sl))))))
def zC:PX 48 kI:=⟨_,by conv=>lhs;reduce⟩
def xU:PL 48 kI 1:=⟨_,by conv=>lhs;reduce⟩
def fO(k1 k4:Q2):Nat->Q2
 |0,_,_=>none
 |n+1,vs,s=>cX c F bh (fO k1 k4 n) [k1,k4] xU.1 vs s
def mB(k1 k4:Q2)(n:Nat)(vs:List AV)(s:St):=(by dsimp only[fO,xU,go_sem,Int.reduceOfNat,Int.reduceNegSucc]:fO c F k1 k4 (n+1) vs s=_)
def xV:Un->List Q2->Nat->Q2
 |(.s .z),[k1,k4]=>fO c F k1 k4
 |_,_=>λ_=>dZ
def xW:PL 48 kI 0:=⟨_,by conv=>lhs;reduce⟩
def iH(k1 k2:Q2):Nat->Q2
 |0,_,_=>none
 |n+1,vs,s=>cX c F (xV c F) (iH k1 k2 n) [k1,k2] xW.1 vs s
def eU(k1 k2:Q2)(n:Nat)(vs:List AV)(s:St):=(by dsimp only[iH,xW, ↓xV,go_sem,Int.reduceOfNat,Int.reduceNegSucc]:iH c F k1 k2 (n+1) vs s=_)
def ql:Un->List Q2->Nat->Q2
 |.z,[k1,k2]=>iH c F k1 k2
 |(.s .z),[k1,k4]=>fO c F k1 k4
 |_,_=>λ_=>dZ
def tB:O2:=bf c F (ql c F) zC.1 [x0,x1,x2] s
def JI:=(by dsimp only[tB,zC, ↓ql,go_sem,Int.reduceOfNat,Int.reduceNegSucc]:tB c F x0 x1 x2 s=_)
def ki:Sh:=(sq sl (sq (sq sl (sb (sp 0 [0,1,7,8] [(1,[4]),(2,[])] (sq sl (sq (sc sl sl) (sq (sb (sq sl (sq sl (sc (sq sl sl) sl)))) sl)))))) (sq sl sl)))
def qK:PX 95 ki:=⟨_,by conv=>lhs;reduce⟩
def o7:PL 95 ki 0:=⟨_,by conv=>lhs;reduce⟩
def eR(k1 k2:Q2):Nat->Q2
 |0,_,_=>none
 |n+1,vs,s=>cX c F bh (eR k1 k2 n) [k1,k2] o7.1 vs s
def jz(k1 k2:Q2)(n:Nat)(vs:List AV)(s:St):=(by dsimp only[eR,o7,go_sem,Int.reduceOfNat,Int.reduceNegSucc]:eR c F k1 k2 (n+1) vs s=_)
def kj:Un->List Q2->Nat->Q2
 |.z,[k1,k2]=>eR c F k1 k2
 |_,_=>λ_=>dZ
def lH:O2:=bf c F (kj c F) qK.1 [x0,x1] s
def BP:=(by dsimp only[lH,qK, ↓kj,go_sem,Int.reduceOfNat,Int.reduceNegSucc]:lH c F x0 x1 s=_)
end
section
variable{c:ah}(hc:bZ c)(F:Nat){x0 x1 x2 x3 x4 x5 x6 x7 x8 x9 xA ue:AV}{s:St}{r:AV×St}
include hc
theorem JJ(h:wJ c F x0 x1 s=some r):c 10 [x0,x1] s=some (tidy s r):=hc.o0 F Bp (by kernel_rfl) (by kernel_rfl) h
theorem yd(h:j6 c F x0 x1 s=some r):c 45 [x0,x1] s=some (tidy s r):=hc.o0 F nT (by kernel_rfl) (by kernel_rfl) h
theorem GD(h:tA c F x0 s=some r):c 46 [x0] s=some (tidy s r):=hc.o0 F zA (by kernel_rfl) (by kernel_rfl) h
theorem GF(h:tB c F x0 x1 x2 s=some r):c 48 [x0,x1,x2] s=some (tidy s r):=hc.oL F (ql c F) kI 2 (by kernel_rfl) (λi hi=>match i,hi with|0,_=>iq 0 (by kernel_rfl) (λ_ _ _=>by kernel_rfl) (λ_ _ _ _=>by kernel_rfl)|1,_=>iq 1 (by kernel_rfl) (λ_ _ _=>by kernel_rfl) (λ_ _ _ _=>by kernel_rfl)|n+2,h=>absurd h (by omega)) (by kernel_rfl) h
theorem AA(h:lH c F x0 x1 s=some r):c 95 [x0,x1] s=some (tidy s r):=hc.o1 F (kj c F) ki (by kernel_rfl) (by kernel_rfl) (λ_ _ _=>by kernel_rfl) (λ_ _ _ _=>by kernel_rfl) (by kernel_rfl) h
end
end
section
set_option linter.unusedSimpArgs false
open Go Go.Ai Go.Proofs
variable{c:ah}
def lJ(N:Nat)(w:Bool)(q:List Int):Nat->Nat->Int×Int
 |0,_=>(0,0)
 |m+1,k=>if w=true/\q.getD k 0= -1 then((k:Int),52)else if q.getD k 0< -1\/(N:Int)<=q.getD k 0 then((k:Int),50)else if 0<=q.getD k 0/\q.getD k 0∈q.take k then((k:Int),51)else lJ N w q m (k+1)
def NS(p:aS):Nat:=(bP p.ts).toNat
def GG(p:aS)(w:Bool)(q:List Int):Int×Int:=if q.length≠p.gs.length then(0,53)else lJ (NS p) w q q.length 0
def dz(p:aS)(w:Bool)(q:List Int):Int×Int:=if(cg p).2≠0 then(0,(cg p).2)else GG p w q
theorem CG{p:aS}(h:(cg p).2=0):(bn p.ts).2=0:=by
 unfold cg at h;split at h
 .rename_i k;exact absurd h k
 .rename_i k;exact Oj (by simpa using k)
theorem Br{N:Nat}{w:Bool}{q:List Int}:∀(m k:Nat),(lJ N w q m k).2=0->lJ N w q m k=(0,0)
 |0,_,_=>rfl
 |m+1,k,h=>by
  rw[lJ]at h ⊢;split at h<;>first|(simp at h;done)|skip
  split at h<;>first|(simp at h;done)|skip
  split at h<;>first|(simp at h;done)|skip
  rename_i h1 h2 h3;rw[Za1 h1,Za1 h2,Za1 h3];exact Br m (k+1) h
theorem Y0{N:Nat}{w:Bool}{q:List Int}:∀(m k:Nat),k+m=q.length->(lJ N w q m k).2=0->∀i x,k<=i->q[i]? =some x-> -1<=x/\x<(N:Int)/\(w=true->x≠ -1)/\(0<=x->x∉q.take i)
 |0,k,hk,_,i,x,hi,hx=>by have:=(H5.1 hx).1;omega
 |m +1,k,hk,h,i,x,hi,hx=>by
  rw[lJ]at h;split at h<;>first|(simp at h;done)|skip
  split at h<;>first|(simp at h;done)|skip
  split at h<;>first|(simp at h;done)|skip
  rename_i h1 h2 h3;by_cases e:i=k
  .subst e;rw[Zc5,hx]at h1 h2 h3;simp only[Zi7]at h1 h2 h3;exact⟨by omega,by omega,λa b=>h1 ⟨a,b⟩,λa b=>h3 ⟨a,b⟩⟩
  .exact Y0 m (k+1) (by omega) h i x (by omega) hx
theorem aeJ{N:Nat}{w:Bool}{q:List Int}(h:(lJ N w q q.length 0).2=0):Cn N q.length q/\(w=true->(-1:Int)∉q):=by
 have h:=Y0 q.length 0 (by omega) h;refine⟨⟨rfl,λx hx=> ?_,λa b x hab ha hb=> ?_⟩,λhw hm=> ?_⟩
 .obtain⟨i,hi⟩:=Ze7.1 hx;have:=h i x (by omega) hi;exact⟨this.1,this.2.1⟩
 .have:=(h b x (by omega) hb).2.2.2;(refine Int.not_le.1 λh0=>this h0 ?_);rw[Ze7];exact⟨a,by rw[Zb1,Za2 hab];exact ha⟩
 .obtain⟨i,hi⟩:=Ze7.1 hm;exact(h i _ (by omega) hi).2.2.1 hw rfl
theorem Y3{N:Nat}{w:Bool}{q:List Int}{m k:Nat}(hk:k<q.length){x:Int}(hx:q[k]=x):
  lJ N w q (m+1) k=if w=true/\x= -1 then((k:Int),52)else if x< -1\/(N:Int)<=x then((k:Int),50)else if 0<=x/\x∈q.take k then((k:Int),51)else lJ N w q m (k+1):=by
 rw[lJ,Zc5,H1 hk,hx];rfl
section
variable{sB s:St}{P:AV}{q:List Int}{N n:Nat}
theorem abq {tb :Pos}(hql:q.length<=1000)(hN:N<=100000)(pq:QS 1 sB P (q.map bL))(hge:sB.next.toNat<=tb.toNat)(w0:Wf sB)(w:Bool)(F:Nat):
  ∀ (m k f:Nat)(s:St)(tk:List Bool),k+m=q.length->m<f->Grew sB s->s.heap.get tb=some (.cells (rS tk) 0)->tk.length=N->(∀i:Nat,i<N->(tk[i]? =some true↔(i:Int)∈q.take k))->∃s',Grew sB s'/\
    ∀k1 k2:Q2,mL c F k1 k2 f [.bool w,.int .i64 (N:Int),.slice tb 0 N (some N) 1,P,.int .i64 (q.length:Int),.int .i64 (k:Int)] s=if(lJ N w q m k).2=0 then k2 [] s' else k1 [.int .i64 (lJ N w q m k).1,.int .i64 (lJ N w q m k).2] s':=by
 intro m;induction m with
 |zero=>
  intro k f s tk hk hf gr ht hl zU;obtain⟨f,rfl⟩:∃g,f=g+1:=⟨f - 1,by omega⟩
  obtain rfl:k=q.length:=by omega
  refine⟨s,gr,λk1 k2=> ?_⟩;rw[eN];simp[lJ]
 |succ m ih   =>
  intro k f s tk hk hf gr ht hl zU;obtain⟨f,rfl⟩:∃g,f=g+1:=⟨f - 1,by omega⟩
  have br:k<q.length:=by omega
  obtain⟨pb,po,p⟩:=Xg (pq.ax gr) (H1 br);have p1:=λ{R}=>@p.st R
  have p3:=p.one;have wr:aD .i64 ((k:Int)+1)=((k+1:Nat):Int):=by rw[wrap64 (by omega) (by omega)];omega
  have tke:q.take (k+1)=q.take k++[q[k]]:=by rw[Zl3,H1 br];rfl
  have eb:=Y3 (N:=N) (w:=w) (m:=m) br rfl;generalize q[k]=x at*
  by_cases h0:0<=x
  . have d1   : decide (x= -1)=false:=H2 (by omega);have d2:decide (x< -1)=false:=H2 (by omega);have n1:¬(w=true/\x= -1):=λh=>by have:=h.2;omega
    rw[Za1 n1]at eb;by_cases hx:(N:Int)<=x
    .   have d3:decide ((N:Int)<=x)=true:=H4 hx;have n2:x< -1\/(N:Int)<=x:= .inr hx;rw[Za2 n2]at eb;rw[eb];refine⟨s,gr,λk1 k2=> ?_⟩;rw[eN];simp[gK,br,p1,p3,d1,d2,d3]
    .   have n2 :¬(x< -1\/(N:Int)<=x):=(by omega);rw[Za1 n2]at eb;have d3:decide ((N:Int)<=x)=false:=H2 hx;have d5:decide (0<=x)=true:=H4 h0;obtain⟨i,rfl⟩:∃i:Nat,x=(i:Int):=⟨x.toNat,by omega⟩
        have hi:i<N:=(by omega);have d4:decide (N<=i)=false:=H2 (by omega);have ix:=λ(K:AV->St->Option (AV×St))(s1:St)=>IV c K s1 (b:=tb) (off:=0) (len:=N) (es:=1) (es':=1) (cap:=some N) (k:= .i64) (i:=i) hi
        simp only[Zb6,Zj7]at ix;by_cases hm:(i:Int)∈q.take k
        . have ec:(rS tk)[i]? =some (.bool true):=(by rw[Zb5,(zU i hi).2 hm];rfl);have n3:0<=(i:Int)/\(i:Int)∈q.take k:=⟨h0,hm⟩
          rw[Za2 n3]at eb;rw[eb];refine⟨s,gr,λk1 k2=> ?_⟩;rw[eN];simp[gK,br,p1,p3,ix,d1,d2,d3,d4,d5,ht,ak,ec]
        . have n3:¬(0<=(i:Int)/\(i:Int)∈q.take k):=λh=>hm h.2
          rw[Za1 n3]at eb;rw[eb];have hf0:tk[i]? =some false:=by
            rw[H1 (by omega)];cases h:tk[i]'(by omega)with
            |false=>rfl
            |true=>exact absurd ((zU i hi).1 (by rw[H1 (by omega),h])) hm
          have ec:(rS tk)[i]? =some (.bool false):=(by rw[Zb5,hf0];rfl);have pt:=λ(K:AV->St->Option (AV×St))=>RH (c:=c) K ht (o:=i) (by rw[Zb0];omega) (v:= .bool true) rfl rfl
          rw[show(rS tk).set i (.bool true)=rS (tk.set i true)from(List.map_set).symm]at pt;have aK:=gr.wf _ _ ht;obtain⟨s',z1,z3⟩:=ih (k+1) f (eG s tb (.cells (rS (tk.set i true)) 0)) (tk.set i true) (by omega) (by omega) (Pn w0 gr hge aK _) (oe _ _ _) (by simpa using hl) (λj hj=>by
            rw[tke,Zd4,Zc7];by_cases e:i=j
            .subst e;rw[List.getElem?_set_self (by omega)];simp
            . rw[List.getElem?_set_ne e,zU j hj];constructor
              .exact .inl
              . rintro(h|h)
                .exact h
                .omega)
          refine⟨s',z1,λk1 k2=> ?_⟩;rw[<-z3 k1 k2,eN];simp[gK,br,p1,p3,ix,pt,wr,d1,d2,d3,d4,d5,ht,ak,ec]
  . have d5   :decide (0<=x)=false:=H2 h0;by_cases hx:x= -1
    .   subst hx;have d3:decide ((N:Int)<= -1)=false:=H2 (by omega);cases w with
        | true=>
          have n1:true=true/\(-1:Int)= -1:=⟨rfl,rfl⟩
          rw[Za2 n1]at eb;rw[eb];refine⟨s,gr,λk1 k2=> ?_⟩;rw[eN];simp[gK,br,p1,p3]
        | false=>
          have n1:¬(false=true/\(-1:Int)= -1):=(by simp);have n2:¬((-1:Int)< -1\/(N:Int)<= -1):=(by omega);have n3:¬(0<=(-1:Int)/\(-1:Int)∈q.take k):=λh=>by have:=h.1;omega
          rw[Za1 n1,Za1 n2,Za1 n3]at eb;rw[eb];obtain⟨s',z1,z3⟩:=ih (k+1) f s tk (by omega) (by omega) gr ht hl (λj hj=>by
            rw[tke,Zd4,Zc7,zU j hj];constructor
            .exact .inl
            . rintro(h|h)
              .exact h
              .omega)
          refine⟨s',z1,λk1 k2=> ?_⟩;rw[<-z3 k1 k2,eN];simp[gK,br,p1,p3,wr,d3]
    .   have d1:decide (x= -1)=false:=H2 hx;have d2:decide (x< -1)=true:=H4 (by omega);have n1:¬(w=true/\x= -1):=λh=>hx h.2
        have n2:x< -1\/(N:Int)<=x:= .inl (by omega);rw[Za1 n1,Za2 n2]at eb;rw[eb];refine⟨s,gr,λk1 k2=> ?_⟩;rw[eN];simp[gK,br,p1,p3,d1,d2]
end
section
variable{s0 s:St}{Vs:List AV}{p:aS}{P:AV}{q:List Int}
theorem AD(a b:Int):Plain (.tuple [.int .i64 a,.int .i64 b]):= .tuple λv hv=>by simp at hv;rcases hv with rfl|rfl<;>exact .int _ _
theorem Re(hp:p.gW):((NS p:Nat):Int)=bP p.ts/\NS p<=100000:=by have h1:=Jq p.ts;have h2:=hp.ts;unfold NS;omega
theorem aeK(hc:bZ c)(h:PS s0 s Vs p)(hp:p.gW)(hv:(bn p.ts).2=0)(pq:QS 1 s P (q.map bL))(hl:q.length<=1000)(w:Bool):c 122 [.agg Vs,P,.bool w] s=some (.tuple [.int .i64 (GG p w q).1,.int .i64 (GG p w q).2],s):=by
 have hw:=h.ax.wf;have gN:=Grew.af hw (.cells Vs 0);have h1:=h.nY gN;obtain⟨V1,V2,r1,r2,e1,e2,T,T2,e5⟩:=h1.rT;have cn:=Mq hc h1 hp.ok hv e1;obtain⟨hs,hle⟩:=Re hp;rw[<-hs]at cn;have ln:=λ(K:AV->St->Option (AV×St))(s1:St)=>pq.lenB (c:=c) K s1
 rw[Zb0]at ln;have lg:=λ(K:AV->St->Option (AV×St))(s1:St)=>T2.out.own.lenB (c:=c) K s1
 rw[T2.len]at lg;unfold GG;by_cases he:q.length=p.gs.length
 . (rw[Za1 (by simpa using he)];have mk:=λ(K:AV->St->Option (AV×St))=>Yw c K (af s (.cells Vs 0)) (es:=1) (bytes:=1) (z:=[.bool false]) (k:= .i64) (k':= .i64) (n:=NS p) (by omega) (by omega));rw[IW,TF]at mk;have gT:=Grew.af gN.wf (.cells (rS (List.replicate (NS p) false)) 0);obtain⟨s',z1,z3⟩:=abq (c:=c) hl hle (pq.ax gN) (Za3 _) gN.wf w (q.length+1) q.length 0 (q.length+1) _ (List.replicate (NS p) false) (by omega) (by omega) gT (aE _ _) (by simp) (λi hi=>by rw[List.getElem?_replicate,Za2 hi];simp);simp only[show((0:Nat):Int)=0 from rfl]at z3;rw[Ay hc (q.length+1) (r:=(.tuple [.int .i64 (lJ (NS p) w q q.length 0).1,.int .i64 (lJ (NS p) w q q.length 0).2],s')),au (AD _ _) (gN.trans z1).keeps];rw[Ej];simp[show ∀l,AV.cells (.agg l)=l from λl=>rfl,aE,ak,e1,e2,ln,lg,he,cn];rw[mk, <-he,z3];by_cases hz:(lJ (NS p) w q q.length 0).2=0
   .rw[Za2 hz,Br _ _ hz];simp
   .rw[Za1 hz];simp
 .rw[Za2 he];have d:decide ((q.length:Int)=(p.gs.length:Int))=false:=H2 (by omega);rw[Ay hc 1 (r:=(.tuple [.int .i64 0,.int .i64 53],af s (.cells Vs 0))),au (AD _ _) gN.keeps];rw[Ej];simp[show ∀l,AV.cells (.agg l)=l from λl=>rfl,aE,ak,e1,e2,ln,lg,he,d]
theorem abr(hc:bZ c)(h:PS s0 s Vs p)(hp:p.gW)(hr:∀r∈p.rs,r.Ok)(pq:QS 1 s P (q.map bL))(hl:q.length<=1000)(w:Bool):c 80 [.agg Vs,P,.bool w] s=some (.tuple [.int .i64 (dz p w q).1,.int .i64 (dz p w q).2],s):=by
 have hw:=h.ax.wf;have gN:=Grew.af hw (.cells Vs 0);have h1:=h.nY gN;have hcut:cut Vs 0 5=some Vs:=bK h1.rT.choose_spec.choose_spec.choose_spec.choose_spec.2.2.2.2;have ck:=TE hc h1 hp hr;unfold dz;by_cases hz:(cg p).2=0
 .rw[Za1 (by simpa using hz)];have kk:=aeK hc h1 hp (CG hz) (pq.ax gN) hl w;rw[hz]at ck;rw[wH hc 1 (r:=(.tuple [.int .i64 (GG p w q).1,.int .i64 (GG p w q).2],af s (.cells Vs 0))),au (AD _ _) gN.keeps];rw[Aw];simp[show ∀l,AV.cells (.agg l)=l from λl=>rfl,aE,ak,hcut,ck,kk]
 .rw[Za2 hz];have d:decide ((cg p).2=0)=false:=H2 hz;rw[wH hc 1 (r:=(.tuple [.int .i64 0,.int .i64 (cg p).2],af s (.cells Vs 0))),au (AD _ _) gN.keeps];rw[Aw];simp[show ∀l,AV.cells (.agg l)=l from λl=>rfl,aE,ak,hcut,ck,d,hz]
theorem AN(hc:bZ c)(h:PS s0 s Vs p)(hp:p.gW)(hr:∀r∈p.rs,r.Ok)(pq:QS 1 s P (q.map bL))(hl:q.length<=1000):c 33 [.agg Vs,P] s=some (.tuple [.int .i64 (dz p false q).1,.int .i64 (dz p false q).2],s):=by
 have hw:=h.ax.wf;have gN:=Grew.af hw (.cells Vs 0);have h1:=h.nY gN;have hcut:cut Vs 0 5=some Vs:=bK h1.rT.choose_spec.choose_spec.choose_spec.choose_spec.2.2.2.2;have kk:=abr hc h1 hp hr (pq.ax gN) hl false;rw[Bo hc 1 (r:=(.tuple [.int .i64 (dz p false q).1,.int .i64 (dz p false q).2],af s (.cells Vs 0))),au (AD _ _) gN.keeps];rw[Ee];simp[show ∀l,AV.cells (.agg l)=l from λl=>rfl,aE,ak,hcut,kk]
theorem abt(z:Bool)(hl:q.length<=1000){g:Nat}(hg:g<q.length)(x2 xA:AV)(F:Nat)(k1 k4:Q2):∀(m k f:Nat),k+m=g->m<f->
  fO c F k1 k4 f [ints z q,x2,xA,.int .i64 (g:Int),.int .i64 (k:Int)] s=if q[g]∈(q.take g).drop k then k1 [.int .i64 (g:Int),.int .i64 51] s else k4 [ints z q,x2,xA,.int .i64 (g:Int)] s:=by
 intro m;induction m with
 |zero=>
  intro k f hk hf;obtain⟨f,rfl⟩:∃g,f=g+1:=⟨f - 1,by omega⟩
  obtain rfl:k=g:=by omega
  rw[mB,Za1 (by rw[List.drop_of_length_le (by rw[Zj5];omega)];simp)];simp
 |succ m ih=>
  intro k f hk hf;obtain⟨f,rfl⟩:∃g,f=g+1:=⟨f - 1,by omega⟩
  have hkg:k<g:=by omega
  have br:k<q.length:=by omega
  have wr:aD .i64 ((k:Int)+1)=((k+1:Nat):Int):=wrap64 (by omega) (by omega);have Rf:=ih (k+1) f (by omega) (by omega);have ed:(q.take g).drop k=q[k]::(q.take g).drop (k+1):=by
    rw[Za7 (by rw[Zj5];omega),Zk3]
  rw[ed];by_cases e:q[k]=q[g]
  .have d:decide (q[k]=q[g])=true:=H4 e;rw[Za2 (by rw[e];simp),mB];simp[ints,hkg,br,hg,d]
  . have d:decide (q[k]=q[g])=false:=H2 e;have hiff:(q[g]∈q[k]::(q.take g).drop (k+1))↔q[g]∈(q.take g).drop (k+1):=by
        rw[Za5];constructor
        . rintro(h|h)
          .exact absurd h.symm e
          .exact h
        .exact .inr
    simp only[hiff];rw[<-Rf,mB];simp[ints,hkg,br,hg,d,wr]
theorem abu(z:Bool)(hl:q.length<=1000){N:Nat}(w:Bool)(F:Nat)(hF:q.length<F)(k1 k2:Q2):∀(m k f:Nat),k+m=q.length->m<f->
  iH c F k1 k2 f [ints z q,.bool w,.int .i64 (N:Int),.int .i64 (k:Int)] s=if(lJ N w q m k).2=0 then k2 [] s else k1 [.int .i64 (lJ N w q m k).1,.int .i64 (lJ N w q m k).2] s:=by
 intro m;induction m with
 |zero=>
  intro k f hk hf;obtain⟨f,rfl⟩:∃g,f=g+1:=⟨f - 1,by omega⟩
  obtain rfl:k=q.length:=by omega
  rw[eU];simp[lJ,ints]
 |succ m ih=>
  intro k f hk hf;obtain⟨f,rfl⟩:∃g,f=g+1:=⟨f - 1,by omega⟩
  have br:k<q.length:=by omega
  have wr:aD .i64 ((k:Int)+1)=((k+1:Nat):Int):=by rw[wrap64 (by omega) (by omega)];omega
  have Rf:=ih (k+1) f (by omega) (by omega);have L1:=λk1 k4=>abt (c:=c) (s:=s) z hl br (.bool w) (.int .i64 (N:Int)) F k1 k4 k 0 F (by omega) (by omega)
  simp only[Zb7,show((0:Nat):Int)=0 from rfl]at L1;have eb:=Y3 (N:=N) (w:=w) (m:=m) br rfl;have lI:∀(K:AV->St->Option (AV×St))(s:St),ai c (.lenB .l) [ints z q] s K=K (.int .i64 (q.length:Int)) s:=λK s=>by unfold ints;rw[bX];simp
  have ix:∀(K:AV->St->Option (AV×St))(s:St),ai c (.idxA 1 none) [ints z q,.int .i64 (k:Int)] s K=K (.fp (q.map λx=>[AV.int .i64 x]) k 0) s:=λK s=>by unfold ints;rw[OU,Zb0,Za2 br];rfl
  have ld:∀(K:AV->St->Option (AV×St))(s:St),ai c (.load none) [.fp (q.map λx=>[AV.int .i64 x]) k 0] s K=K (.int .i64 q[k]) s:=λK s=>by simp[br]
  generalize q[k]=x at*
  by_cases h1:x= -1
  . subst h1;cases w with
    |   true=>
        have n1:true=true/\(-1:Int)= -1:=⟨rfl,rfl⟩
        rw[Za2 n1]at eb;rw[eb,eU];simp[gK,lI,ix,ld,br]
    |   false=>
        have n1:¬(false=true/\(-1:Int)= -1):=(by simp);have n2:¬((-1:Int)< -1\/(N:Int)<= -1):=(by omega);have n3:¬(0<=(-1:Int)/\(-1:Int)∈q.take k):=λh=>by have:=h.1;omega
        rw[Za1 n1,Za1 n2,Za1 n3]at eb;rw[eb, <-Rf,eU];simp[gK,lI,ix,ld,br,wr]
  . have n1:¬(w=true/\x= -1):=λh=>h1 h.2
    rw[Za1 n1]at eb;have d1:decide (x= -1)=false:=H2 h1;by_cases h2:x< -1\/(N:Int)<=x
    .   rw[Za2 h2]at eb;rw[eb,eU];by_cases h3:x<0
        .have d2:decide (x<0)=true:=H4 h3;simp[gK,lI,ix,ld,br,d1,d2]
        .have d2:decide (x<0)=false:=H2 h3;have d3:decide ((N:Int)<=x)=true:=H4 (by omega);simp[gK,lI,ix,ld,br,d1,d2,d3]
    .   rw[Za1 h2]at eb;have d2:decide (x<0)=false:=H2 (by omega);have d3:decide ((N:Int)<=x)=false:=H2 (by omega);by_cases h4:x∈q.take k
        . have n3:0<=x/\x∈q.take k:=⟨by omega,h4⟩
          rw[Za2 n3]at eb;rw[eb,eU];simp only[h4,Zf0]at L1;simp[gK,lI,ix,ld,br,d1,d2,d3,L1]
        . have n3:¬(0<=x/\x∈q.take k):=λh=>h4 h.2
          rw[Za1 n3]at eb;rw[eb, <-Rf,eU];simp only[h4,Zd9]at L1;simp[gK,lI,ix,ld,br,d1,d2,d3,L1,wr]
theorem TH(hc:bZ c)(p:aS)(hp:p.gW)(hr:∀r∈p.rs,r.Ok)(z:Bool)(hl:q.length<=1000)(w:Bool)(hw:Wf s):c 48 [.agg p.cells,ints z q,.bool w] s=some (.tuple [.int .i64 (dz p w q).1,.int .i64 (dz p w q).2],s):=by
 have gN:=Grew.af hw (.cells p.cells 0);have x1:=aE s (.cells p.cells 0);have R:=Xl hc p hp hr (af s (.cells p.cells 0));have C:=ME hc p.tz p.ts hp.ts (af s (.cells p.cells 0));obtain⟨hs,hle⟩:=Re hp;rw[<-hs]at C;have lI:∀(K:AV->St->Option (AV×St))(s:St),ai c (.lenB .l) [ints z q] s K=K (.int .i64 (q.length:Int)) s:=λK s=>by unfold ints;rw[bX];simp
 have lG:∀(K:AV->St->Option (AV×St))(s:St),ai c (.lenB .l) [bk p.gz p.gs] s K=K (.int .i64 (p.gs.length:Int)) s:=λK s=>by unfold bk;rw[bX];simp
 have L0:=λk1 k2=>abu (c:=c) (s:=af s (.cells p.cells 0)) z hl (N:=NS p) w (q.length+1) (by omega) k1 k2 q.length 0 (q.length+1) (by omega) (by omega)
 simp only[show((0:Nat):Int)=0 from rfl]at L0;have p0:p.cells[0]? =some (tabs p.tz p.ts):=rfl;have p1:p.cells[1]? =some (bk p.gz p.gs):=rfl;have vc:cut p.cells 0 5=some p.cells:=bK rfl;rw[GF hc (q.length+1) (r:=(.tuple [.int .i64 (dz p w q).1,.int .i64 (dz p w q).2],af s (.cells p.cells 0))),au (AD _ _) gN.keeps];rw[JI];unfold dz GG;by_cases hz:(cg p).2=0
 . rw[  hz]at R;rw[Za1 (by simpa using hz)];by_cases he:q.length=p.gs.length
   . rw[Za1 (by simpa using he)];have d:decide ((q.length:Int)=(p.gs.length:Int))=true:=H4 (by omega);by_cases hb:(lJ (NS p) w q q.length 0).2=0
     .  simp only[hb,Zf0]at L0;have e:=Br _ _ hb;rw[e];simp[show ∀l,AV.cells (.agg l)=l from λl=>rfl,x1,ak,vc,R,lI,lG,d,he,p0,p1,C];rw[<-he,L0];simp
     .  simp only[hb,Zd9]at L0;simp[show ∀l,AV.cells (.agg l)=l from λl=>rfl,x1,ak,vc,R,lI,lG,d,he,p0,p1,C];rw[<-he,L0];simp
   .rw[Za2 he];have d:decide ((q.length:Int)=(p.gs.length:Int))=false:=H2 (by omega);simp[show ∀l,AV.cells (.agg l)=l from λl=>rfl,x1,ak,vc,R,lI,lG,d,he,p0,p1]
 .rw[Za2 hz];have d:decide ((cg p).2=0)=false:=H2 hz;simp[show ∀l,AV.cells (.agg l)=l from λl=>rfl,x1,ak,vc,R,d,hz]
end
set_option linter.unusedSimpArgs false
theorem JK(q:List Int)(x:Int):decide (wI q x<0)= !q.contains x:=by unfold wI;cases h:q.contains x<;>simp
theorem Mk.aeL{es:Nat}{s s':St}{v:AV}{rows:List (List AV)}(h:Mk es s s' v rows)(k:IntKind)(i:Int):∃fq,Go.Ai.tidy s (.tuple [v,.int k i],s')=(.tuple [v,.int k i],fq)/\Mk es s fq v rows:=by
 unfold Go.Ai.tidy;by_cases hp:Plain (AV.tuple [v,.int k i],s').1/\aP s (AV.tuple [v,.int k i],s').2
 . rw[  Za2 hp];refine⟨s,rfl,?_⟩;rcases h.loose with⟨b,off,n,rfl⟩|⟨hl,_⟩
   . refine(Go.Ai.iY (b:=b) (off:=off) (n:=n) (es:=es) (λρ ρ' n n' C x hx=> ?_)).elim;have:=hp.1 ρ ρ' n n' C _ (.tuple _ #[x,.int k i] rfl (λj v v' hv js=>by
        match j with
        |0=>simp at hv js;subst hv js;exact hx
        |1=>simp at hv js;subst hv js;exact .int k i
        |j+2=>simp at hv))
     cases this with
     |tuple _ _ _ h=>exact h 0 _ x rfl rfl
   .exact hl s h.sk
 .rw[Za1 hp];exact⟨s',rfl,h⟩
section
variable{s0 s sB:St}{Vs:List AV}{p:aS}{P:AV}{q:List Int}{N:Nat}
theorem Rg(hc:bZ c)(hw:Wf s)(pq:QS 1 s P (q.map bL))(hl:q.length<=1000):∃v s',c 17 [P] s=some (v,s')/\Mk 1 s s' v (q.map bL):=by
 have hS:Src 1 s P (q.map bL):= .inr pq;rcases hS.nil with⟨rfl,h0⟩|hn
 . (refine⟨.aq,s,?_,by rw[h0];exact Mk.start hw (Grew.refl hw)⟩;rw[jf hc 1 (r:=(.aq,s)),au Plain.aq (aP.refl s)];rw[jT];have e:∀(K:AV->St->Option (AV×St))(s:St),ai c (.bin .eql .slice) [.aq,.aq] s K=K (.bool true) s:=λK s=>aY c K (λH n=>rfl) s);simp[e]
 .obtain⟨v,s',a1,a2⟩:=Fk (c:=c) (R:=AV×St) (bytes:=8) (z:=[.int .i64 0]) (λr hr=>by obtain⟨m,_,rfl⟩:=Zd8.1 hr;rfl) (by decide) (by simp;omega) (by simp;omega) s hw hS;obtain⟨fq,t1,t2⟩:=a2.tidy;refine⟨v,fq,?_,t2⟩;rw[jf hc 1 (r:=(v,s')),t1];rw[jT];simp only[aJ,hn,mU];rw[a1]
end
set_option linter.unusedSimpArgs false
structure Rx(s:St)(L:AV)(i:Nat)(P x:AV):Prop where
 st:∀{R:Type}(c:ah)(K:AV->St->Option R)(k:IntKind)(s1:St),ai c (.idxA 1 none) [L,.int k (i:Int)] s1 K=K P s1
 pr:∀{R:Type}(K:AV->Option R)(k:IntKind),gh (.idxA 1 none) [L,.int k (i:Int)] K=K P
 ld:∀{R:Type}(c:ah)(K:AV->St->Option R),ai c (.load none) [P] s K=K x s
 rd:∀{R:Type}(K:AV->Option R),lS (.load none) [P] s.heap (λ_=>true) K=K x
abbrev LS(s:St)(L:AV)(q:List Int):Prop:=Src 1 s L (q.map bL)
theorem LS.ro(s:St)(z:Bool)(q:List Int):LS s (ints z q) q:=Src.ro z _
theorem LS.rx{s:St}{L:AV}{q:List Int}(h:LS s L q){i:Nat}{x:Int}(hx:q[i]? =some x):∃P,Rx s L i P (.int .i64 x):=by
 obtain⟨hi,rfl⟩:=H5.1 hx;rcases h with rfl|h
 . have e:(AV.fl (q.map bL) 1)=Go.Ai.ro 1 false (q.map λx=>[AV.int .i64 x]):=(by unfold Go.Ai.ro;simp);refine⟨.fp (q.map λx=>[AV.int .i64 x]) i 0,λc K k s1=> ?_,λK k=> ?_,λc K=> ?_,λK=> ?_⟩
   .rw[e,OU,Zb0,Za2 hi];rfl
   .rw[e,VN,Zb0,Za2 hi];rfl
   .simp[hi]
   .simp[hi]
 .obtain⟨b,o,p⟩:=Xg h hx;exact⟨.ptr b o,λc K k s1=>p.st c K k s1,λK k=>p.pr K k,λc K=>by simp[p.one],λK=>by simp[p.one]⟩
theorem LS.lenB{s:St}{L:AV}{q:List Int}(h:LS s L q){R:Type}(K:AV->St->Option R)(s1:St):ai c (.lenB .l) [L] s1 K=K (.int .i64 (q.length:Int)) s1:=by
 rcases h with rfl|h
 . have:=aY (k:= .lenB .l) (xs:=[.fl (q.map bL) 1]) (v:= .int .i64 ((q.map bL).length:Int)) c K (λH n=>rfl) s1
   rwa [Zb0]at this
 . have:=h.lenB (c:=c) K s1
   rwa [Zb0]at this
section
variable{s:St}{P Q:AV}{q r:List Int}
theorem abv(pq:LS s P q)(pr:LS s Q r)(hl:q.length<=1000000)(he:q.length=r.length)(F:Nat)(k1 k2:Q2):∀(m k f:Nat),k+m=q.length->m<f->
  gF c F k1 k2 f [P,Q,.int .i64 (q.length:Int),.int .i64 (k:Int)] s=if q.drop k=r.drop k then k2 [] s else k1 [.bool false] s:=by
 intro m;induction m with
 |zero=>
  intro k f hk hf;obtain⟨f,rfl⟩:∃g,f=g+1:=⟨f - 1,by omega⟩
  obtain rfl:k=q.length:=by omega
  rw[kG,Zg0,he,Zg0];simp
 |succ m ih=>
  intro k f hk hf;obtain⟨f,rfl⟩:∃g,f=g+1:=⟨f - 1,by omega⟩
  have br:k<q.length:=by omega
  have Mx:k<r.length:=by omega
  obtain⟨p',p⟩:=pq.rx (H1 br);obtain⟨r',x⟩:=pr.rx (H1 Mx);have p1:=λ{R}=>@p.pr R
  have p2:=λ{R}=>@p.rd R
  have p3:=λ{R}=>@p.st R
  have p4:=λ{R}=>@p.ld R
  have x1:=λ{R}=>@x.pr R
  have x2:=λ{R}=>@x.rd R
  have x3:=λ{R}=>@x.st R
  have x4:=λ{R}=>@x.ld R
  have wr:aD .i64 ((k:Int)+1)=((k+1:Nat):Int):=wrap64 (by omega) (by omega);have key:(q.drop k=r.drop k)↔(q[k]=r[k]/\q.drop (k+1)=r.drop (k+1)):=by rw[Za7 br,Za7 Mx,Zh4]
  by_cases e:q[k]=r[k]
  .have adw:(q.drop k=r.drop k)↔(q.drop (k+1)=r.drop (k+1)):=key.trans ⟨λh=>h.2,λh=>⟨e,h⟩⟩;rw[show(if q.drop k=r.drop k then k2 [] s else k1 [.bool false] s)=(if q.drop (k+1)=r.drop (k+1)then k2 [] s else k1 [.bool false] s)from by simp only[adw], <-ih (k+1) f (by omega) (by omega),kG];have d2:decide (q[k]=r[k])=true:=H4 e;simp[br,p1,p2,p3,p4,x1,x2,x3,x4,d2,wr]
  .rw[Za1 (λh=>e (key.1 h).1),kG];have d2:decide (q[k]=r[k])=false:=H2 e;simp[br,p1,p2,p3,p4,x1,x2,x3,x4,d2]
theorem Bs(hc:bZ c)(pq:LS s P q)(pr:LS s Q r)(hl:q.length<=1000000):c 21 [P,Q] s=some (.bool (decide (q=r)),s):=by
 have ln:=λ(K:AV->St->Option (AV×St))=>pq.lenB (c:=c) K s
 have lr:=λ(K:AV->St->Option (AV×St))=>pr.lenB (c:=c) K s
 rw[Em hc (q.length+1) (r:=(.bool (decide (q=r)),s)),au (Plain.bool _) (aP.refl s)];rw[Gy];by_cases he:q.length=r.length
 . have hi:=λk1 k2=>abv (c:=c) pq pr hl he (q.length+1) k1 k2 q.length 0 (q.length+1) (by omega) (by omega)
   simp only[Zb7,show((0:Nat):Int)=0 from rfl]at hi;simp[ln,lr,he];rw[<-he,hi];split
   .rename_i h;rw[H4 h];simp
   .rename_i h;rw[H2 h];simp
 . have d:decide (q=r)=false:=H2 λe=>he (by rw[e])
   have hz:¬((q.length:Int)=(r.length:Int)):=(by omega);simp[ln,lr,hz,d]
theorem TJ(hc:bZ c)(hw:Wf s)(hS:LS s P q)(hl:q.length<=1000):∃v s',c 17 [P] s=some (v,s')/\Mk 1 s s' v (q.map bL):=by
 rcases hS.nil with⟨rfl,h0⟩|hn
 . (refine⟨.aq,s,?_,by rw[h0];exact Mk.start hw (Grew.refl hw)⟩;rw[jf hc 1 (r:=(.aq,s)),au Plain.aq (aP.refl s)];rw[jT];have e:∀(K:AV->St->Option (AV×St))(s:St),ai c (.bin .eql .slice) [.aq,.aq] s K=K (.bool true) s:=λK s=>aY c K (λH n=>rfl) s);simp[e]
 .obtain⟨v,s',a1,a2⟩:=Fk (c:=c) (R:=AV×St) (bytes:=8) (z:=[.int .i64 0]) (λr hr=>by obtain⟨m,_,rfl⟩:=Zd8.1 hr;rfl) (by decide) (by simp;omega) (by simp;omega) s hw hS;obtain⟨fq,t1,t2⟩:=a2.tidy;refine⟨v,fq,?_,t2⟩;rw[jf hc 1 (r:=(v,s')),t1];rw[jT];simp only[aJ,hn,mU];rw[a1]
end
set_option linter.unusedSimpArgs false
section
variable{q:List Int}{g h:Nat}
end
end
end Go.Proofs.YtlkadmkojjceiaaGreatDoor
section
end
namespace Go.Proofs.YtlkadmkojjceiaaGreatDoor
section
set_option linter.unusedSimpArgs false
open Go Go.Ai Go.Proofs
variable{c:ah}
theorem PS.cells{s0 s:St}{Vs:List AV}{p:aS}(h:PS s0 s Vs p):Vs.length=5/\aZ Vs=true:=by
 obtain⟨G,V1,V2,V3,V4,V5,r1,r2,rfl,F1,F2,F3,F4,F5⟩:=h;have o1:=F1.out.cells.2;have o2:=F2.out.cells.2;have o3:=F3.cells.2;have o4:=F4.cells.2;have o5:=F5.cells.2;simp only[aZ,Zj3]at o1 o2 o3 o4 o5;exact⟨rfl,by simp only[aZ,o1,o2,o3,o4,o5,Zj4]⟩
theorem lenP{R:Type}{es:Nat}{s:St}{v:AV}{rows:List (List AV)}(h:QS es s v rows)(K:AV->Option R):gh (.lenB .l) [v] K=K (.int .i64 (rows.length:Int)):=by
 rcases h with⟨rfl,rfl⟩|⟨b,off,cap,cs,rfl,_⟩|⟨b,off,rfl,rfl⟩<;>exact cF K (λH n=>rfl)
set_option linter.unusedSimpArgs false
def sC(f:Nat->Bool):Nat->Nat
 |0=>0
 |a+1=>sC f a+(f a).toNat
section
variable{s0 s sB:St}{Vs:List AV}{p:aS}{P:AV}{q:List Int}{N:Nat}
end
end
end Go.Proofs.YtlkadmkojjceiaaGreatDoor
section
end
namespace Go.Proofs.YtlkadmkojjceiaaGreatDoor
section
set_option linter.unusedSimpArgs false
open Go Go.Ai Go.Proofs
variable{c:ah}
section
variable{s0 s sB:St}{Vs:List AV}{p:aS}{P:AV}{q:List Int}{N:Nat}
end
end
noncomputable section
open Go Go.Ai Go.Proofs
attribute [local go_sem ↓] bf nX ev Qu w5 getLT tV FX Lo rE rF Dr A3 A4 A5 w6 w7 w8 w9 xe xg A6 A7 xj xk xp xq xw Fl Fm Fo
attribute [local go_sem] bf nX ev
section
variable(c:ah)(F:Nat)(x0 x1 x2 x3 x4 x5 x6 x7 x8 x9 xA ue:AV)(s:St)
def MH:Sh:=(sq sl (sq (sq sl (sq sl (sc (sq sl sl) sl))) (sq sl (sq sl (sq (sq sl (sb (sp 0 [11,12,29,30,31] [(1,[6,7,8]),(2,[12])] (sq sl (sq (sc sl sl) (sq (sb (sq sl (sq (sb (sq sl (sc (sq sl sl) (sq sl (sc (sq sl sl) (sq sl (sc (sq sl sl) sl))))))) sl))) sl)))))) (sq sl sl))))))
def TL:PX 20 MH:=⟨_,by conv=>lhs;reduce⟩
def Rh:PL 20 MH 0:=⟨_,by conv=>lhs;reduce⟩
def qm(k1 k2:Q2):Nat->Q2
 |0,_,_=>none
 |n+1,vs,s=>cX c F bh (qm k1 k2 n) [k1,k2] Rh.1 vs s
def g9(k1 k2:Q2)(n:Nat)(vs:List AV)(s:St):=(by dsimp only[qm,Rh,go_sem,Int.reduceOfNat,Int.reduceNegSucc]:qm c F k1 k2 (n+1) vs s=_)
def MI:Un->List Q2->Nat->Q2
 |.z,[k1,k2]=>qm c F k1 k2
 |_,_=>λ_=>dZ
def Su:O2:=bf c F (MI c F) TL.1 [x0,x1,x2] s
def TM:=(by dsimp only[Su,TL, ↓MI,go_sem,Int.reduceOfNat,Int.reduceNegSucc]:Su c F x0 x1 x2 s=_)
def zD:Sh:=(sq sl (sq (sq sl (sb (sp 0 [1,2,3,18,19,20] [(1,[6,7]),(2,[1,2])] (sq sl (sq (sc sl sl) (sq (sb (sq sl (sq sl (sq sl (sc (sq sl sl) sl))))) sl)))))) (sq sl (sq sl (sb (sp 1 [2,12,13] [(1,[6,7])] (sb (sq sl (sq (sq sl (sc (sq sl sl) sl)) (sq sl sl))))))))))
def MJ:PX 22 zD:=⟨_,by conv=>lhs;reduce⟩
def Kl:PL 22 zD 1:=⟨_,by conv=>lhs;reduce⟩
def mN(k1:Q2):Nat->Q2
 |0,_,_=>none
 |n+1,vs,s=>cX c F bh (mN k1 n) [k1] Kl.1 vs s
def zE(k1:Q2)(n:Nat)(vs:List AV)(s:St):=(by dsimp only[mN,Kl,go_sem,Int.reduceOfNat]:mN c F k1 (n+1) vs s=_)
def Km:PL 22 zD 0:=⟨_,by conv=>lhs;reduce⟩
def mO(k1 k2:Q2):Nat->Q2
 |0,_,_=>none
 |n+1,vs,s=>cX c F bh (mO k1 k2 n) [k1,k2] Km.1 vs s
def ke(k1 k2:Q2)(n:Nat)(vs:List AV)(s:St):=(by dsimp only[mO,Km,go_sem,Int.reduceOfNat]:mO c F k1 k2 (n+1) vs s=_)
def Ep:Un->List Q2->Nat->Q2
 |.z,[k1,k2]=>mO c F k1 k2
 |(.s .z),[k1]=>mN c F k1
 |_,_=>λ_=>dZ
def JL:O2:=bf c F (Ep c F) MJ.1 [x0,x1,x2] s
def MK:=(by dsimp only[JL,MJ, ↓Ep,go_sem,Int.reduceOfNat]:JL c F x0 x1 x2 s=_)
def GH:Sh:=(sq sl (sq sl (sq sl (sq (sq sl (sb (sp 0 [1,6,7,12,13,14] [(1,[4,5]),(2,[7])] (sq sl (sq (sc sl sl) (sj [1,6,7,12,13,14] (sb (sq sl (sq (sq sl (sc sl sl)) (sq (sq sl (sc (sq sl sl) sl)) (sq sl (sc sl sl)))))) sl)))))) (sq sl sl)))))
def On:PX 73 GH:=⟨_,by conv=>lhs;reduce⟩
def ML:PL 73 GH 0:=⟨_,by conv=>lhs;reduce⟩
def tC(k1 k2:Q2):Nat->Q2
 |0,_,_=>none
 |n+1,vs,s=>cX c F bh (tC k1 k2 n) [k1,k2] ML.1 vs s
def kT(k1 k2:Q2)(n:Nat)(vs:List AV)(s:St):=(by dsimp only[tC,ML,go_sem,Int.reduceOfNat,Int.reduceNegSucc]:tC c F k1 k2 (n+1) vs s=_)
def GI:Un->List Q2->Nat->Q2
 |.z,[k1,k2]=>tC c F k1 k2
 |_,_=>λ_=>dZ
def MM:O2:=bf c F (GI c F) On.1 [x0,x1] s
def XU:=(by dsimp only[MM,On, ↓GI,go_sem,Int.reduceOfNat,Int.reduceNegSucc]:MM c F x0 x1 s=_)
end
section
variable{c:ah}(hc:bZ c)(F:Nat){x0 x1 x2 x3 x4 x5 x6 x7 x8 x9 xA ue:AV}{s:St}{r:AV×St}
include hc
theorem Oo(h:Su c F x0 x1 x2 s=some r):c 20 [x0,x1,x2] s=some (tidy s r):=hc.o1 F (MI c F) MH (by kernel_rfl) (by kernel_rfl) (λ_ _ _=>by kernel_rfl) (λ_ _ _ _=>by kernel_rfl) (by kernel_rfl) h
theorem HU(h:JL c F x0 x1 x2 s=some r):c 22 [x0,x1,x2] s=some (tidy s r):=hc.oL F (Ep c F) zD 2 (by kernel_rfl) (λi hi=>match i,hi with|0,_=>iq 0 (by kernel_rfl) (λ_ _ _=>by kernel_rfl) (λ_ _ _ _=>by kernel_rfl)|1,_=>iq 1 (by kernel_rfl) (λ_ _ _=>by kernel_rfl) (λ_ _ _ _=>by kernel_rfl)|n+2,h=>absurd h (by omega)) (by kernel_rfl) h
theorem Uu(h:MM c F x0 x1 s=some r):c 73 [x0,x1] s=some (tidy s r):=hc.o1 F (GI c F) GH (by kernel_rfl) (by kernel_rfl) (λ_ _ _=>by kernel_rfl) (λ_ _ _ _=>by kernel_rfl) (by kernel_rfl) h
end
end
section
set_option linter.unusedSimpArgs false
open Go Go.Ai Go.Proofs Go.Ai.Tp
variable{c:ah}
def fn(q:List Int)(i:Nat):Int:=q.getD i (-1)
theorem vO{q:List Int}{i:Nat}(h:i<q.length):q[i]? =some (fn q i):=by unfold fn;rw[Zc5,H1 h];rfl
theorem HV{q:List Int}{i:Nat}(h:q.length<=i):fn q i= -1:=by unfold fn;rw[Zc5,Zb3 h];rfl
theorem Ri{q:List Int}{g:Nat}(h:g<q.length)(t:Int):fn (q.set g t)=j8 (fn q) g t:=by
 funext i;unfold fn j8;rw[Zc5,List.getElem?_set];by_cases e:i=g
 .subst e;rw[Za2 rfl,Za2 rfl,Za2 h];rfl
 .rw[Za1 (λh=>e h.symm),Za1 e];rfl
theorem Xm{q:List Int}{x:Int}(h0:0<=x):q.contains x=true↔ ∃i<q.length,fn q i=x:=by
 rw[List.contains_iff_mem,Ze7];constructor
 .intro ⟨i,hi⟩;have hl:=(H5.1 hi).1;rw[vO hl]at hi;exact⟨i,hl,Zf9 hi⟩
 .intro ⟨i,hi,e⟩;exact⟨i,by rw[vO hi,e]⟩
theorem aeM{q:List Int}{x:Int}(h0:0<=x):q.contains x=false↔ ∀i,fn q i≠x:=by
 constructor
 . intro h i e;by_cases hi:i<q.length
   .rw[(Xm h0).2 ⟨i,hi,e⟩]at h;cases h
   .rw[HV (by omega)]at e;omega
 . intro h;cases e:q.contains x with
   |false=>rfl
   |true=>obtain⟨i,_,hi⟩:=(Xm h0).1 e;exact absurd hi (h i)
theorem Cn.inj{N n:Nat}{q:List Int}(h:Cn N n q):Inj n (fn q):=λi j hi hj e h0=>by
 have hl:=h.len;have gi:=vO (q:=q) (i:=i) (by omega);have gj:=vO (q:=q) (i:=j) (by omega);rcases Nat.lt_trichotomy i j with hh|hh|hh
 .have:=h.ap i j _ hh gi (by rw[gj,e]);omega
 .exact hh
 .have:=h.ap j i _ hh (by rw[gj, <-e]) gi;omega
theorem Cn.fnr{N n:Nat}{q:List Int}(h:Cn N n q)(i:Nat): -1<=fn q i/\fn q i<(N:Int):=by
 by_cases hi:i<q.length
 .exact h.rng _ (Zc1 (vO hi))
 .rw[HV (by omega)];omega
theorem Sw:∀{a b:List Int},a.length=b.length->Az a b=sm a.length λi=>if fn a i=fn b i then 0 else 1
 |[],[],_=>rfl
 |x::a,y::b,h=>by have ih:=Sw (a:=a) (b:=b) (by simpa using h);rw[Az,ih,Zd7,aej];rfl
 |[],_::_,h=>by simp at h
 |_::_,[],h=>by simp at h
def lR(q b:List Int):Nat->Nat->Int->Int×Option Int
 |0,_,w=>(w,none)
 |m+1,k,w=>if fn q k=fn b k then lR q b m (k+1) w else if fn b k<0\/q.contains (fn b k)=false then((k:Int),some (fn b k))else lR q b m (k+1) (if w<0 then(k:Int)else w)
theorem AE{q b:List Int}(n:Nat)(hq:q.length=n):∀(m k:Nat)(w:Int),k+m=n->
  (w= -1/\(∀i<k,fn q i=fn b i)\/∃u:Nat,w=(u:Int)/\u<n/\fn q u≠fn b u)->(∀i<k,fn q i≠fn b i->0<=fn b i/\∃j<n,fn q j=fn b i)->
  (lR q b m k w=(-1,none)/\∀i<n,fn q i=fn b i)\/
  (∃u:Nat,lR q b m k w=((u:Int),none)/\u<n/\fn q u≠fn b u/\∀i<n,fn q i≠fn b i->0<=fn b i/\∃j<n,fn q j=fn b i)\/
  ∃u:Nat,lR q b m k w=((u:Int),some (fn b u))/\u<n/\fn q u≠fn b u/\(0<=fn b u->∀i,fn q i≠fn b u)
 |0,k,w,hk,hw,bW=>by
  obtain rfl:k=n:=by omega
  rcases hw with⟨rfl,h⟩|⟨u,rfl,h1,h2⟩
  .exact .inl ⟨rfl,h⟩
  .exact .inr (.inl ⟨u,rfl,h1,h2,bW⟩)
 |m +   1,k ,w,hk,hw,bW=>by
  rw[lR];by_cases e:fn q k=fn b k
  . rw[   Za2 e];refine AE n hq m (k+1) w (by omega) ?_ λi hi aR=> ?_
    .   rcases hw with⟨h1,h2⟩|h
        . refine .inl ⟨h1,λi hi=> ?_⟩;by_cases BW:i=k
          .subst BW;exact e
          .exact h2 i (by omega)
        .exact .inr h
    .   by_cases BW:i=k
        .subst BW;exact absurd e aR
        .exact bW i (by omega) aR
  . rw[   Za1 e];by_cases hf:fn b k<0\/q.contains (fn b k)=false
    .   rw[Za2 hf];exact .inr (.inr ⟨k,rfl,by omega,e,λh0=>(aeM h0).1 (by rcases hf with h|h;omega;exact h)⟩)
    .   rw[ Za1 hf];have hf1:0<=fn b k:=(by have:=λh=>hf (.inl h);omega);have hf2:q.contains (fn b k)=true:=by
          cases h:q.contains (fn b k)with
          |true=>rfl
          |false=>exact absurd (.inr h) hf
        refine AE n hq m (k+1) _ (by omega) ?_ λi hi aR=> ?_
        . right;rcases hw with⟨rfl,h2⟩|⟨u,rfl,h1,h2⟩
          .exact⟨k,rfl,by omega,e⟩
          .rw[Za1 (by omega)];exact⟨u,rfl,h1,h2⟩
        . by_cases BW:i=k
          .subst BW;obtain⟨j,hj,hh⟩:=(Xm hf1).1 hf2;exact⟨hf1,j,by omega,hh⟩
          .exact bW i (by omega) aR
section
variable{s0 s sB:St}{A B L:AV}{q b:List Int}{N:Nat}
theorem rdF{v:AV}(h:QS 1 s v (q.map bL)){i:Nat}(hi:i<q.length):∃b o,Rd s 1 v i b o [.int .i64 (fn q i)]:=Xg h (vO hi)
theorem Mk.KM{v:AV}(h:Mk 1 s0 s v (q.map bL)){i:Nat}(hi:i<q.length)(x:Int):
   ∃b o s',Rd s 1 v i b o [.int .i64 (fn q i)]/\(∀(K:AV->St->Option (AV×St)),ai c (.store 1) [.ptr b o,.int .i64 x] s K=K .undef s')/\Mk 1 s0 s' v ((q.set i x).map bL)/\∀p y,cZ v≠some p->s.heap.get p=some y->s'.heap.get p=some y:=by
 have jY:i<(q.map bL).length:=by simpa using hi
 obtain⟨b,o,cs,a1,a2,a3,a4,a5,_,a7,a8⟩:=QS.set (c:=c) (R:=AV×St) h.own h.row (by omega) jY;obtain⟨b',o',p⟩:=rdF h.own hi;have e:=a1 (λv s=>some (v,s)) .i64 s;rw[p.st c (λv s=>some (v,s)) .i64 s]at e;simp only[H0,Za9,AV.ptr.injEq,Zn2]at e;obtain⟨rfl,rfl⟩:=e;have OH:=h.new b' a3;have aK:=h.ax.wf b' _ a4;have abw:=h.tight b' a3;have eZ:cs=(q.map bL).flatten:=by rw[a4]at abw;injection abw with e;injection e
 have es:(q.map bL).set i ((q.map bL)[i].set 0 (.int .i64 x))=(q.set i x).map bL:=by rw[List.map_set,Zk8];rfl
 refine⟨b',o',eG s b' (.cells (aH cs (o'+0) [.int .i64 x]) 0),p,λK=> ?_,⟨h.sk,Pn h.sk h.ax OH aK _,?_,h.new,λr hr=> ?_,h.cap,λb2 zP=> ?_⟩,λp y hp hy=> ?_⟩
 .have e0:(AV.int IntKind.i64 x).cells=[.int .i64 x]:=rfl;have:=jt c K s 1 b' (o'+0) (.int .i64 x) cs a4 (by rw[e0];rfl) (by omega) (by rw[e0];rfl);rw[e0]at this;simpa using this
 .rw[<-es];exact a7 0 _ _ (by decide) (oe _ _ _)
 .obtain⟨y,_,rfl⟩:=Zd8.1 hr;rfl
 .have:b2=b':=(by rw[a3]at zP;exact(Zf9 zP).symm);subst this;rw[oe,a8 0 _ (by decide) eZ,es]
 .rw[b9 (λe=>hp (by rw[a3,e]))];exact hy
abbrev uR(m:Nat×Int×Int):List AV:=[.int .i64 (m.1:Int),.int .i64 m.2.1,.int .i64 m.2.2]
structure Er(s0 s:St)(B L:AV)(q:List Int)(l:Ms):Prop where
 m1:Mk 1 s0 s B (q.map bL)
 m2:Mk 3 s0 s L (l.map uR)
 sep:∀b,cZ B=some b->cZ L≠some b
theorem Er.grow{s':St}{l:Ms}(h:Er s0 s B L q l)(g:Grew s s'):Er s0 s' B L q l:=⟨h.m1.grow g,h.m2.grow g,h.sep⟩
theorem Er.push{l:Ms}(h:Er s0 s B L q l)(hn:l.length<=4000)(m:Nat×Int×Int):
  ∃s' L',(∀(K:AV->St->Option (AV×St)),ai c (.buildSlice 3 1 [.int .i64 0,.int .i64 0,.int .i64 0] [0]) [.agg (uR m)] s (λy t=>ai c (.append 3 24) [L,y] t K)=K L' s')/\Er s0 s' B L' q (l++[m]):=by
 obtain⟨s',L',a1,a2,a3,a4⟩:=Mk.push (R:=AV×St) (c:=c) (bytes:=24) h.m2 (z:=[.int .i64 0,.int .i64 0,.int .i64 0]) (x:= .agg (uR m)) rfl rfl rfl (by decide) (by rw[Zb0];omega) (by rw[Zb0];omega);refine⟨s',L',a1,h.m1.Qp a2.ax λb x hb hx=>a3 b x (h.sep b hb) hx,by rw[Zh3];exact a2,λb hb iz=> ?_⟩;have:=a4 b iz;have:=h.m1.ax.wf b _ (h.m1.tight b hb);omega
theorem Er.set{l:Ms}(h:Er s0 s B L q l){i:Nat}(hi:i<q.length)(x:Int):
  ∃b o s',Rd s 1 B i b o [.int .i64 (fn q i)]/\(∀(K:AV->St->Option (AV×St)),ai c (.store 1) [.ptr b o,.int .i64 x] s K=K .undef s')/\Er s0 s' B L (q.set i x) l:=by
 obtain⟨b,o,s',a1,a2,a3,a4⟩:=Mk.KM (c:=c) h.m1 hi x;exact⟨b,o,s',a1,a2,a3,h.m2.Qp a3.ax λp y hp hy=>a4 p y (λe=>h.sep p e hp) hy,h.sep⟩
theorem aeN(hc:bZ c){bp:Pos}(hb:s.heap.get bp=some (.cells [A] 0))(pa:QS 1 s A (q.map bL))(pb:QS 1 s B (b.map bL))(he:q.length=b.length)(hl:q.length<=1000000)(F:Nat)(k1 k2:Q2):∀(m k f:Nat)(w:Int),k+m=q.length->m<f->
  tC c F k1 k2 f [B,.func 128 [] [.ptr bp 0],.int .i64 w,A,.int .i64 (q.length:Int),.int .i64 (k:Int)] s=
    match (lR q b m k w).2 with
    |some t=>k1 [.int .i64 (lR q b m k w).1,.int .i64 t] s
    |none=>k2 [.int .i64 (lR q b m k w).1] s:=by
 intro m;induction m with
 |zero=>
  intro k f w hk hf;obtain⟨f,rfl⟩:∃g,f=g+1:=⟨f - 1,by omega⟩
  obtain rfl:k=q.length:=by omega
  rw[kT];simp[lR]
 |succ m ih=>
  intro k f w hk hf;obtain⟨f,rfl⟩:∃g,f=g+1:=⟨f - 1,by omega⟩
  have br:k<q.length:=by omega
  obtain⟨ab,ao,ra⟩:=rdF pa br;obtain⟨bb,bo,rb⟩:=rdF (q:=b) (i:=k) pb (by omega);have a1:=λ{R}=>@ra.st R
  have a3:=ra.one;have b1:=λ{R}=>@rb.st R
  have b2:=λ{R}=>@rb.pr R
  have b3:=rb.one;have wh:=aeH hc hb pa hl (fn b k);have dn:=JK q (fn b k);have wr:Unit->aD .i64 ((k:Int)+1)=((k+1:Nat):Int):=λ_=>wrap64 (by omega) (by omega)
  have Rf:=ih (k+1) f w (by omega) (by omega);have ihw:=ih (k+1) f (k:Int) (by omega) (by omega);clear ih;have aK:decide ((k:Int)<(q.length:Int))=true:=H4 (by omega);rw[lR];by_cases e:fn q k=fn b k
  .have d:decide (fn q k=fn b k)=true:=H4 e;rw[Za2 e, <-Rf,kT];simp[gK,aK,br,a1,a3,b1,b3,d,wr ()]
  . have d:decide (fn q k=fn b k)=false:=H2 e;rw[Za1 e];generalize fn q k=x at*
    generalize fn b k=y at*
    by_cases h0:y<0
    .   have d0:decide (y<0)=true:=H4 h0;rw[Za2 (.inl h0),kT];simp[gK,aK,br,a1,a3,b1,b2,b3,d,d0,wr ()]
    .   have d0:decide (y<0)=false:=H2 h0;cases hcn:q.contains y
        .rw[hcn]at dn;rw[Za2 (.inr rfl),kT];simp[gK,aK,br,a1,a3,b1,b2,b3,d,d0,oZ,wh,dn,wr ()]
        . rw[hcn]at dn;rw[Za1 (by simp[h0])];by_cases hw:w<0
          .have dw:decide (w<0)=true:=H4 hw;rw[Za2 hw, <-ihw,kT];simp[gK,aK,br,a1,a3,b1,b2,b3,d,d0,oZ,wh,dn,dw,wr ()]
          .have dw:decide (w<0)=false:=H2 hw;rw[Za1 hw, <-Rf,kT];simp[gK,aK,br,a1,a3,b1,b2,b3,d,d0,oZ,wh,dn,dw,wr ()]
def aV(q b:List Int):Int×Int:=let r:=lR q b q.length 0 (-1);(r.1,r.2.getD (-1))
theorem Y4(hc:bZ c)(hw:Wf s)(pa:QS 1 s A (q.map bL))(hA:A.cells=[A])(pb:QS 1 s B (b.map bL))(he:q.length=b.length)(hl:q.length<=1000000):
  c 73 [A,B] s=some (.tuple [.int .i64 (aV q b).1,.int .i64 (aV q b).2],s):=by
 have gN:=Grew.af hw (.cells [A] 0);have si:=aaa hc A s;rw[hA]at si;have ln:=λ(K:AV->St->Option (AV×St))(s1:St)=>pa.lenB (c:=c) K s1
 rw[Zb0]at ln;have hi:=λk1 k2=>aeN (c:=c) hc (aE s (.cells [A] 0)) (pa.ax gN) (pb.ax gN) he hl (q.length+1) k1 k2 q.length 0 (q.length+1) (-1) (by omega) (by omega)
 simp only[show((0:Nat):Int)=0 from rfl]at hi;rw[Uu hc (q.length+1) (r:=(.tuple [.int .i64 (aV q b).1,.int .i64 (aV q b).2],af s (.cells [A] 0))),au (.tuple λv hv=>by simp at hv;rcases hv with rfl|rfl<;>exact .int _ _) gN.keeps];rw[XU];simp[si,ln];rw[hi];unfold aV;generalize lR q b q.length 0 (-1)=r at*
 obtain⟨r1,r2⟩:=r;cases r2<;>simp
end
set_option linter.unusedSimpArgs false
def Rgl(N:Nat)(l:Ms):Prop:=∀m∈l,-1<=m.2.2/\m.2.2<(N:Int)
theorem Rgl.snoc{N:Nat}{l:Ms}(h:Rgl N l){g:Nat}{x t:Int}(h1: -1<=t)(h2:t<(N:Int)):Rgl N (l++[(g,x,t)]):=λm hm=>by
 rcases Zd4.1 hm with hm|hm
 .exact h m hm
 .simp at hm;subst hm;exact⟨h1,h2⟩
def uS(b:List Int):Nat->List Int->Ms
 |0,_=>[]
 |m+1,q=>if(aV q b).1<0 then []else((aV q b).1.toNat,fn q (aV q b).1.toNat,(aV q b).2)::uS b m (q.set (aV q b).1.toNat (aV q b).2)
section
variable{s0 s sA:St}{Vs:List AV}{p:aS}{A B L:AV}{a q b:List Int}{N n:Nat}
structure Found(N n:Nat)(a b:List Int)(l:Ms):Prop where
 run:Ds n (fn a) l (fn b)
 two:∀g,cm l g<=2
 mov:∀g,cm l g≠0->fn a g≠fn b g
 rg:Rgl N l
 least:∀S,Ds n (fn a) S (fn b)->l.length<=S.length
 Q8:2*l.length<=3*sm n λi=>if fn a i=fn b i then 0 else 1
theorem adx(hc:bZ c)(pb:QS 1 sA B (b.map bL))(hb:Cn N n b)(hn:n<=1000)(F:Nat):∀(m f:Nat)(s:St)(V L:AV)(q:List Int)(l:Ms),j9 n (fn b) (fn q)<=m->m<f->l.length+m<=4000->Er sA s V L q l->q.length=n->Inv n (fn a) (fn b) (fn q) l->Rgl N l->
  ∃s' L' l',Mk 3 sA s' L' (l'.map uR)/\Found N n a b l'/\l'.length<=4000/\l'=l++uS b m q/\∀k1:Q2,mN c F k1 f [B,V,L] s=k1 [L',.int .i64 0] s':=by
 have Kh:=hb.len;intro m;induction m with
 |zero=>
  intro f s V L q l hm hf hl T hq I R;obtain⟨f,rfl⟩:∃g,f=g+1:=⟨f - 1,by omega⟩
  have hV:V.cells=[V]:=T.m1.cells.1;have st:=Y4 hc T.m1.ax.wf T.m1.own hV (pb.ax T.m1.ax) (by omega) (by omega);rcases AE (q:=q) (b:=b) n hq n 0 (-1) (by omega) (.inl ⟨rfl,λ_ h=>by omega⟩) (λ_ h=>by omega)with⟨e,bW⟩|⟨u,e,hu,aR,_⟩|⟨u,e,hu,aR,_⟩
  . unfold aV at st;rw[hq,e]at st;have efn:fn q=fn b:=funext λi=>by
        by_cases hi:i<n
        .exact bW i hi
        .rw[HV (by omega),HV (by omega)]
    obtain⟨f1,f2⟩:=I.fin hb.inj bW;refine⟨s,L,l,T.m2,⟨efn ▸I.run,I.two,I.mov,R,f1,f2⟩,by omega,by simp[uS],λk1=> ?_⟩;rw[zE];simp[st]
  .have:=Lp (f:=λi=>if fn q i=fn b i then 0 else if fn q i<0 then 1 else 2) hu (by rw[Za1 aR];split<;>omega);unfold j9 at hm;omega
  .have:=Lp (f:=λi=>if fn q i=fn b i then 0 else if fn q i<0 then 1 else 2) hu (by rw[Za1 aR];split<;>omega);unfold j9 at hm;omega
 |succ m ih=>
  intro f s V L q l hm hf hl T hq I R;obtain⟨f,rfl⟩:∃g,f=g+1:=⟨f - 1,by omega⟩
  have hV:V.cells=[V]:=T.m1.cells.1;have st:=Y4 hc T.m1.ax.wf T.m1.own hV (pb.ax T.m1.ax) (by omega) (by omega)
  have go:∀(u:Nat)(t:Int),u<n->(c 73 [V,B] s=some (.tuple [.int .i64 (u:Int),.int .i64 t],s))->j9 n (fn b) (fn (q.set u t))<=m->Inv n (fn a) (fn b) (fn (q.set u t)) (l++[(u,fn q u,t)])-> -1<=t->t<(N:Int)->
        ∃s' L' l',Mk 3 sA s' L' (l'.map uR)/\Found N n a b l'/\l'.length<=4000/\l'=l++(u,fn q u,t)::uS b m (q.set u t)/\∀k1:Q2,mN c F k1 (f+1) [B,V,L] s=k1 [L',.int .i64 0] s':=by
    (intro u t hu st Vb I' t1 t2;obtain⟨s2,L2,p1,T2⟩:=T.push (c:=c) (by omega) (u,fn q u,t);obtain⟨b3,o3,s3,r3,w3,T3⟩:=T2.set (c:=c) (i:=u) (by omega) t;obtain⟨s',L',l',z1,z2,z3,ze,z4⟩:=ih f s3 V L2 (q.set u t) _ Vb (by omega) (by rw[Zd1];simp;omega) T3 (by rw[Zi5];exact hq) I' (R.snoc t1 t2);refine⟨s',L',l',z1,z2,z3,by rw[ze];simp,λk1=> ?_⟩;obtain⟨b1,o1,r1⟩:=rdF (i:=u) T.m1.own (by omega);have q1:=λ{R}=>@r1.st R);have q2:=r1.one;have e3:=(r1.pr (λv=>some (v,s)) .i64).symm.trans (r3.pr (λv=>some (v,s)) .i64);simp only[H0,Za9,AV.ptr.injEq,Zn2]at e3;obtain⟨rfl,rfl⟩:=e3;have fi:bG [AV.int IntKind.i64 0,AV.int IntKind.i64 0,AV.int IntKind.i64 0] [(0,1),(1,1),(2,1)] [AV.int IntKind.i64 (u:Int),AV.int IntKind.i64 (fn q u),AV.int IntKind.i64 t]=some (uR (u,fn q u,t)):=rfl;have WH:decide ((u:Int)<0)=false:=H2 (by omega);simp only[uR]at p1;rw[<-z4 k1,zE];simp only[dO,eS,aJ,oY,st,kP];simp[-cr,WH,q1,q2,fi,p1,w3]
  rcases AE (q:=q) (b:=b) n hq n 0 (-1) (by omega) (.inl ⟨rfl,λ_ h=>by omega⟩) (λ_ h=>by omega)with⟨e,bW⟩|⟨u,e,hu,aR,bW⟩|⟨u,e,hu,aR,aad⟩
  . have MN:aV q b=(-1,-1):=(by unfold aV;rw[hq,e];rfl);unfold aV at st;rw[hq,e]at st;have efn:fn q=fn b:=funext λi=>by
        by_cases hi:i<n
        .exact bW i hi
        .rw[HV (by omega),HV (by omega)]
    obtain⟨f1,f2⟩:=I.fin hb.inj bW;refine⟨s,L,l,T.m2,⟨efn ▸I.run,I.two,I.mov,R,f1,f2⟩,by omega,by rw[uS,MN,Za2 (by show(-1:Int)<0;omega)];simp,λk1=> ?_⟩;rw[zE];simp[st]
  .unfold aV at st;rw[hq,e]at st;obtain⟨I',h0⟩:=I.wait hb.inj bW hu aR;have es:fn (q.set u (-1))=j8 (fn q) u (-1):=Ri (by omega) _;have:=VT hu aR h0 (bW u hu aR).1;have MN:aV q b=((u:Int),-1):=(by unfold aV;rw[hq,e];rfl);rw[uS,MN,Za1 (by show ¬(u:Int)<0;omega)];exact go u (-1) hu st (by rw[es];omega) (by rw[es];exact I') (by omega) (by omega)
  .unfold aV at st;rw[hq,e]at st;have I':=I.go hu aR aad;have es:fn (q.set u (fn b u))=j8 (fn q) u (fn b u):=Ri (by omega) _;have:=aa5 hu aR;obtain⟨x1,x2⟩:=hb.fnr u;have MN:aV q b=((u:Int),fn b u):=(by unfold aV;rw[hq,e];rfl);rw[uS,MN,Za1 (by show ¬(u:Int)<0;omega)];exact go u (fn b u) hu st (by rw[es];omega) (by rw[es];exact I') x1 x2
end
set_option linter.unusedSimpArgs false
theorem Mk.Xn{es:Nat}{s s':St}{v:AV}{rows:List (List AV)}(h:Mk es s s' v rows)(k j:IntKind)(i l:Int):∃fq,Go.Ai.tidy s (.tuple [v,.int k i,.int j l],s')=(.tuple [v,.int k i,.int j l],fq)/\Mk es s fq v rows:=by
 unfold Go.Ai.tidy;by_cases hp:Plain (AV.tuple [v,.int k i,.int j l],s').1/\aP s (AV.tuple [v,.int k i,.int j l],s').2
 . rw[  Za2 hp];refine⟨s,rfl,?_⟩;rcases h.loose with⟨b,off,n,rfl⟩|⟨hl,_⟩
   . refine(Go.Ai.iY (b:=b) (off:=off) (n:=n) (es:=es) (λρ ρ' n n' C x hx=> ?_)).elim;have:=hp.1 ρ ρ' n n' C _ (.tuple _ #[x,.int k i,.int j l] rfl (λj' v v' hv js=>by
        match j' with
        |0=>simp at hv js;subst hv js;exact hx
        |1=>simp at hv js;subst hv js;exact .int k i
        |2=>simp at hv js;subst hv js;exact .int j l
        |j+3=>simp at hv))
     cases this with
     |tuple _ _ _ h=>exact h 0 _ x rfl rfl
   .exact hl s h.sk
 .rw[Za1 hp];exact⟨s',rfl,h⟩
section
variable{s0 s sA:St}{Vs:List AV}{p:aS}{A B L:AV}{a b q:List Int}{N n:Nat}
theorem ady{b3:Pos}(hx:s.heap.get b3=some (.cells Vs 0))(hv:Vs.length=5)(hL:QS 1 s L ([A,B].map OY))
  (c1:c 33 [.agg Vs,A] s=some (.tuple [.int .i64 0,.int .i64 0],s)) (c2:c 33 [.agg Vs,B] s=some (.tuple [.int .i64 0,.int .i64 0],s)) (F f:Nat) (k1 k2:Q2):
  mO c F k1 k2 (f+3) [A,B,.ptr b3 0,L,.int .i64 2,.int .i64 0] s=k2 [A,B] s:=by
 obtain⟨b0,o0,p0⟩:=hL.Yz (i:=0) (x:=A) rfl;obtain⟨b1,o1,p1⟩:=hL.Yz (i:=1) (x:=B) rfl;have q0:=λ{R}=>@p0.st R
 have q1:=λ{R}=>@p1.st R
 simp only[show((0:Nat):Int)=0 from rfl,show((1:Nat):Int)=1 from rfl]at q0 q1;have r0:=p0.one;have r1:=p1.one;have w1:aD .i64 (1:Int)=1:=wrap64 (by omega) (by omega);have w2:aD .i64 (2:Int)=2:=wrap64 (by omega) (by omega);have hcut:cut Vs 0 5=some Vs:=bK hv;rw[ke];simp[q0,r0,hx,ak,hcut,c1,w1];rw[ke];simp[q1,r1,hx,ak,hcut,c2,w2];rw[ke];simp
theorem adz(hc:bZ c)(h:PS s0 s Vs p)(ok:OkP p N)(pa:QS 1 s A (a.map bL))(pb:QS 1 s B (b.map bL))(ha:Cn N p.gs.length a)(hb:Cn N p.gs.length b)(hA:A.cells=[A])(hB:B.cells=[B]):
  ∃s' L l,c 22 [.agg Vs,A,B] s=some (.tuple [L,.int .i64 0],s')/\Mk 3 s s' L (l.map uR)/\Found N p.gs.length a b l/\l.length<=4000/\l=uS b (j9 p.gs.length (fn b) (fn a)) a:=by
 have hw:=h.ax.wf;have gN:=Grew.af hw (.cells Vs 0);have gL:=Grew.af gN.wf (.cells [A,B] 0);have g2:=gN.trans gL;have h2:=h.nY g2;have hgs:=ok.Q8.gs;have c1:=My hc h2 ok (pa.ax g2) ha;have c2:=My hc h2 ok (pb.ax g2) hb;have hcut:cut Vs 0 5=some Vs:=bK h.cells.1;have x3:=gL.get (aE s (.cells Vs 0));have hL:QS 1 (af (af s (.cells Vs 0)) (.cells [A,B] 0)) (.slice (af s (.cells Vs 0)).next 0 2 (some 2) 1) ([A,B].map OY):= .inr (.inl ⟨_,0,some 2,[A,B],rfl,aE _ _,by simp,rfl,.inr rfl⟩);have bs:∀(K:AV->St->Option (AV×St)),ai c (.buildSlice 1 2 [.aq] [0,1]) [A,B] (af s (.cells Vs 0)) K=K (.slice (af s (.cells Vs 0)).next 0 2 (some 2) 1) (af (af s (.cells Vs 0)) (.cells [A,B] 0)):=λK=>by
  rw[cr];have:bG (bF [AV.aq] 2) ([0,1].map λi=>(i*1,1)) [A,B]=some [A,B]:=by
   show bG [AV.aq,AV.aq] [(0,1),(1,1)] [A,B]=some [A,B];simp[bG,dK,dX,aH,hA,hB]
  rw[this];rfl
 have z9:=ha.len;obtain⟨v,s3,e3,M3⟩:=Rg (q:=a) hc g2.wf (pa.ax g2) (by omega);have I:Inv p.gs.length (fn a) (fn b) (fn a) []:=Inv.start;have ZR:=aa4 (n:=p.gs.length) (b:=fn b) (q:=fn a)
 obtain⟨s',L',l',z1,z2,z3,ze,z4⟩:=adx (c:=c) (n:=p.gs.length) (a:=a) hc (pb.ax g2) hb (by omega) 4001 (j9 p.gs.length (fn b) (fn a)) 4001 s3 v .aq a [] (Za3 _) (by omega) (by simp;omega)
  ⟨M3,Mk.start M3.sk M3.ax,λb _ h=>by cases h⟩ z9 I (λm hm=>by cases hm)
 have M:=z1.back hw g2;obtain⟨s4,t1,t2⟩:=Mk.aeL M .i64 0;refine⟨s4,L',l',?_,t2,z2,z3,by simpa using ze⟩;rw[HU hc 4001 (r:=(.tuple [L',.int .i64 0],s')),t1];rw[MK];have bx:∀(K:AV->St->Option (AV×St)),ai c .box [.agg Vs] s K=K (.ptr s.next 0) (af s (.cells Vs 0)):=λK=>by simp[AV.cells]
 have ln:∀(K:AV->St->Option (AV×St))(s1:St),ai c (.lenB .l) [.slice (af s (.cells Vs 0)).next 0 2 (some 2) 1] s1 K=K (.int .i64 2) s1:=λK s1=>hL.lenB (c:=c) K s1
 rw[bx,aJ,aJ,aJ,aJ,bs,ln,aJ,ady (f:=3998) x3 h.cells.1 hL c1 c2];simp only[dO,eS,aJ,oY,e3,kP,z4]
end
set_option linter.unusedSimpArgs false
abbrev Mv:=Int×Int×Int
structure R3(s:St)(L:AV)(i:Nat)(P:AV)(m:Mv):Prop where
 st:∀{R:Type}(c:ah)(K:AV->St->Option R)(k:IntKind)(s1:St),ai c (.idxA 3 none) [L,.int k (i:Int)] s1 K=K P s1
 pr:∀{R:Type}(K:AV->Option R)(k:IntKind),gh (.idxA 3 none) [L,.int k (i:Int)] K=K P
 ld:∀{R:Type}(c:ah)(K:AV->St->Option R),ai c (.load (some 3)) [P] s K=K (.agg (dL m)) s
 rd:∀{R:Type}(K:AV->Option R),lS (.load (some 3)) [P] s.heap (λ_=>true) K=K (.agg (dL m))
abbrev LM(s:St)(L:AV)(l:List Mv):Prop:=Src 3 s L (l.map dL)
theorem LM.ro(s:St)(z:Bool)(l:List Mv):LM s (Q5 z l) l:=Src.ro z _
theorem LM.r3{s:St}{L:AV}{l:List Mv}(h:LM s L l){i:Nat}(hi:i<l.length):∃P,R3 s L i P l[i]:=by
 have hcut:cut (dL l[i]) 0 3=some (dL l[i]):=bK rfl;rcases h with rfl|h
 . have e:(AV.fl (l.map dL) 3)=Go.Ai.ro 3 false (l.map dL):=(by unfold Go.Ai.ro;simp);refine⟨.fp (l.map dL) i 0,λc K k s1=> ?_,λK k=> ?_,λc K=> ?_,λK=> ?_⟩
   .rw[e,OU,Zb0,Za2 hi];rfl
   .rw[e,VN,Zb0,Za2 hi];rfl
   .simp[hi,hcut]
   .simp[hi,hcut]
 .obtain⟨b,o,p⟩:=h.rd (λr hr=>by obtain⟨x,_,rfl⟩:=Zd8.1 hr;rfl) (r:=dL l[i]) (i:=i) (by rw[Zb5,H1 hi];rfl);exact⟨.ptr b o,λc K k s1=>p.st c K k s1,λK k=>p.pr K k,λc K=>by simp[p.all],λK=>by simp[p.all]⟩
theorem LM.lenB{s:St}{L:AV}{l:List Mv}(h:LM s L l){R:Type}(K:AV->St->Option R)(s1:St):ai c (.lenB .l) [L] s1 K=K (.int .i64 (l.length:Int)) s1:=by
 rcases h with rfl|h
 . have:=aY (k:= .lenB .l) (xs:=[.fl (l.map dL) 3]) (v:= .int .i64 ((l.map dL).length:Int)) c K (λH n=>rfl) s1
   rwa [Zb0]at this
 . have:=h.lenB (c:=c) K s1
   rwa [Zb0]at this
def kf(N:Nat)(q:List Int)(m:Mv):Int:=
 if m.1<0\/(q.length:Int)<=m.1\/fn q m.1.toNat≠m.2.1\/m.2.1=m.2.2 then 2 else if m.2.2< -1\/(N:Int)<=m.2.2 then 50 else if 0<=m.2.2/\q.contains m.2.2=true then 51 else 0
def iO(N:Nat):List Mv->Nat->List Int->List Int×Int×Int
 |[],_,q=>(q,0,0)
 |m::l,k,q=>if kf N q m≠0 then([],(k:Int),kf N q m)else iO N l (k+1) (q.set m.1.toNat m.2.2)
theorem TN(N:Nat)(q:List Int)(g f t:Int):
   (g<0/\kf N q (g,f,t)=2)\/(¬g<0/\(q.length:Int)<=g/\kf N q (g,f,t)=2)\/
   ∃ i:Nat,g=(i:Int)/\i<q.length/\((fn q i≠f/\kf N q (g,f,t)=2)\/(fn q i=f/\f=t/\kf N q (g,f,t)=2)\/(fn q i=f/\f≠t/\((t< -1/\kf N q (g,f,t)=50)\/(¬t< -1/\(N:Int)<=t/\kf N q (g,f,t)=50)\/
     (¬t< -1/\¬(N:Int)<=t/\0<=t/\q.contains t=true/\kf N q (g,f,t)=51)\/(¬t< -1/\¬(N:Int)<=t/\0<=t/\q.contains t=false/\kf N q (g,f,t)=0)\/(t= -1/\kf N q (g,f,t)=0)))):=by
 unfold kf;simp only;by_cases h1:g<0
 .exact .inl ⟨h1,Za2 (.inl h1)⟩
 by_cases h2:(q.length:Int)<=g
 .exact .inr (.inl ⟨h1,h2,Za2 (.inr (.inl h2))⟩)
 obtain⟨i,rfl⟩:∃i:Nat,g=(i:Int):=⟨g.toNat,by omega⟩
 refine .inr (.inr ⟨i,rfl,by omega,?_⟩);rw[Zj1];by_cases h3:fn q i≠f
 .exact .inl ⟨h3,Za2 (.inr (.inr (.inl h3)))⟩
 have h3:fn q i=f:=Classical.not_not.1 h3;by_cases h4:f=t
 .exact .inr (.inl ⟨h3,h4,Za2 (.inr (.inr (.inr h4)))⟩)
 have n1:¬((i:Int)<0\/(q.length:Int)<=(i:Int)\/fn q i≠f\/f=t):=by
   rintro(h|h|h|h)
   .exact h1 h
   .exact h2 h
   .exact h h3
   .exact h4 h
 refine .inr (.inr ⟨h3,h4,?_⟩);rw[Za1 n1];by_cases h5:t< -1
 .exact .inl ⟨h5,Za2 (.inl h5)⟩
 by_cases h6:(N:Int)<=t
 .exact .inr (.inl ⟨h5,h6,Za2 (.inr h6)⟩)
 have n2:¬(t< -1\/(N:Int)<=t):=by
   rintro(h|h)
   .exact h5 h
   .exact h6 h
 rw[Za1 n2];by_cases h7:0<=t
 . cases h8:q.contains t
   .exact .inr (.inr (.inr (.inl ⟨h5,h6,h7,rfl,Za1 λh=>by cases h.2⟩)))
   .exact .inr (.inr (.inl ⟨h5,h6,h7,rfl,Za2 ⟨h7,rfl⟩⟩))
 .exact .inr (.inr (.inr (.inr ⟨by omega,Za1 λh=>h7 h.1⟩)))
section
variable{s0 s sA:St}{Vs:List AV}{p:aS}{A B L:AV}{a q b:List Int}{N n:Nat}{l:List Mv}
theorem Xo{k:Nat}(hk:k<l.length){m:Mv}(hm:m=l[k])(q:List Int):iO N (l.drop k) k q=if kf N q m≠0 then([],(k:Int),kf N q m)else iO N (l.drop (k+1)) (k+1) (q.set m.1.toNat m.2.2):=by rw[Za7 hk, <-hm];rfl
theorem afw(hc:bZ c)(pl:LM sA L l)(hl:l.length<=4000)(hN:N<=100000)(F:Nat):∀(m k f:Nat)(s:St)(V:AV)(q:List Int),k+m=l.length->m<f->Mk 1 sA s V (q.map bL)->q.length<=1000->
  ∃s' V',Mk 1 sA s' V' ((iO N (l.drop k) k q).1.map bL)/\∀k1 k2:Q2,qm c F k1 k2 f [.int .i64 (N:Int),V,L,.int .i64 (l.length:Int),.int .i64 (k:Int)] s=if(iO N (l.drop k) k q).2.2=0 then k2 [V'] s' else k1 [V',.int .i64 (iO N (l.drop k) k q).2.1,.int .i64 (iO N (l.drop k) k q).2.2] s':=by
 intro m;induction m with
 |zero=>
  intro k f s V q hk hf M hq;obtain⟨f,rfl⟩:∃g,f=g+1:=⟨f - 1,by omega⟩
  obtain rfl:k=l.length:=by omega
  rw[Zg0];refine⟨s,V,M,λk1 k2=> ?_⟩;rw[g9];simp[iO]
 |succ m ih=>
  intro k f s V q hk hf M hq;obtain⟨f,rfl⟩:∃g,f=g+1:=⟨f - 1,by omega⟩
  have br:k<l.length:=by omega
  obtain⟨P,rl⟩:=LM.r3 (l:=l) (pl.ax M.ax) br;obtain⟨⟨g,x,t⟩,hlk⟩:∃y,y=l[k]:=⟨_,rfl⟩
  rw[Xo br hlk];rw[<-hlk]at rl;have gN:=Grew.af M.ax.wf (.cells (dL (g,x,t)) 0);have M1:=M.grow gN;have r1:=λ{R}=>@rl.st R
  have r2:=λ{R}=>@rl.ld R
  have ln:=λ(s1:St)(K:AV->St->Option (AV×St))=>M1.own.lenB (c:=c) K s1
  have zF:=λ(K:AV->Option (AV×St))=>lenP M1.own K
  rw[Zb0]at ln zF;have aK:decide ((k:Int)<(l.length:Int))=true:=H4 (by omega);have lu:∀(K:AV->St->Option (AV×St)),ai c (.store 3) [.ptr s.next 0,.agg (dL (g,x,t))] (af s (.cells [.int .i64 0,.int .i64 0,.int .i64 0] 0)) K=K .undef (af s (.cells (dL (g,x,t)) 0)):=λK=>dR c K s 3 (.agg (dL (g,x,t))) _ rfl rfl rfl
  have gn:=aE s (.cells (dL (g,x,t)) 0);have wr:Unit->aD .i64 ((k:Int)+1)=((k+1:Nat):Int):=λ_=>wrap64 (by omega) (by omega)
  have bad:∀e:Int,e≠0->kf N q (g,x,t)=e->(∀k1 k2:Q2,qm c F k1 k2 (f+1) [.int .i64 (N:Int),V,L,.int .i64 (l.length:Int),.int .i64 (k:Int)] s=k1 [.aq,.int .i64 (k:Int),.int .i64 e] (af s (.cells (dL (g,x,t)) 0)))->
        ∃ s' V',Mk 1 sA s' V' ((if kf N q (g,x,t)≠0 then(([]:List Int),(k:Int),kf N q (g,x,t))else iO N (l.drop (k+1)) (k+1) (q.set g.toNat t)).1.map bL)/\∀k1 k2:Q2,qm c F k1 k2 (f+1) [.int .i64 (N:Int),V,L,.int .i64 (l.length:Int),.int .i64 (k:Int)] s=
          if(if kf N q (g,x,t)≠0 then(([]:List Int),(k:Int),kf N q (g,x,t))else iO N (l.drop (k+1)) (k+1) (q.set g.toNat t)).2.2=0 then k2 [V'] s' else k1 [V',.int .i64 (if kf N q (g,x,t)≠0 then(([]:List Int),(k:Int),kf N q (g,x,t))else iO N (l.drop (k+1)) (k+1) (q.set g.toNat t)).2.1,.int .i64 (if kf N q (g,x,t)≠0 then(([]:List Int),(k:Int),kf N q (g,x,t))else iO N (l.drop (k+1)) (k+1) (q.set g.toNat t)).2.2] s':=λe he hE h=>by
    rw[hE,Za2 he];refine⟨_,.aq,Mk.start M.sk (M.ax.trans gN),λk1 k2=> ?_⟩;rw[h k1 k2,Za1 he]
  rcases TN N q g x t with⟨h1,hE⟩|⟨h1,h2,hE⟩|⟨i,rfl,hi,hh⟩
  . (refine bad 2 (by decide) hE λk1 k2=> ?_);have d1:decide (g<0)=true:=H4 h1;rw[g9];simp[aK,br,r1,r2,lu,gn,ak,d1]
  . (refine bad 2 (by decide) hE λk1 k2=> ?_);have d1:decide (g<0)=false:=H2 h1;have d2:decide ((q.length:Int)<=g)=true:=H4 h2;rw[g9];simp[aK,br,r1,r2,lu,gn,ak,d1,zF,ln,d2]
  . have d1:decide ((i:Int)<0)=false:=H2 (by omega);have d2:decide ((q.length:Int)<=(i:Int))=false:=H2 (by omega);have Es:decide (q.length<=i)=false:=H2 (by omega);obtain⟨bb,bo,s3,r3,w3,M3⟩:=Mk.KM (c:=c) M1 (i:=i) (by omega) t;have q1:=λ{R}=>@r3.pr R
    have Et:=λ{R}=>@r3.st R
    have q2:=r3.one;rcases hh with⟨h3,hE⟩|⟨h3,h4,hE⟩|⟨h3,h4,hh⟩
    .   (refine bad 2 (by decide) hE λk1 k2=> ?_);have d3:decide (fn q i=x)=false:=H2 h3;rw[g9];simp[aK,br,r1,r2,lu,gn,ak,d1,d2,Es,zF,ln,q1,Et,q2,d3]
    .   (refine bad 2 (by decide) hE λk1 k2=> ?_);rw[h3]at q2;have d4:decide (x=t)=true:=H4 h4;rw[g9];simp[aK,br,r1,r2,lu,gn,ak,d1,d2,Es,zF,ln,q1,Et,q2,d4]
    .   rw[h3]at q2;have d4:decide (x=t)=false:=H2 h4;rcases hh with⟨h5,hE⟩|⟨h5,h6,hE⟩|⟨h5,h6,h7,h8,hE⟩|⟨h5,h6,h7,h8,hE⟩|⟨h5,hE⟩
        . (refine bad 50 (by decide) hE λk1 k2=> ?_);have d5:decide (t< -1)=true:=H4 h5;rw[g9];simp[aK,br,r1,r2,lu,gn,ak,d1,d2,Es,zF,ln,q1,Et,q2,d4,d5]
        . (refine bad 50 (by decide) hE λk1 k2=> ?_);have d5:decide (t< -1)=false:=H2 h5;have d6:decide ((N:Int)<=t)=true:=H4 h6;rw[g9];simp[aK,br,r1,r2,lu,gn,ak,d1,d2,Es,zF,ln,q1,Et,q2,d4,d5,d6]
        . (refine bad 51 (by decide) hE λk1 k2=> ?_);have d5:decide (t< -1)=false:=H2 h5;have d6:decide ((N:Int)<=t)=false:=H2 h6;have d7:decide (0<=t)=true:=H4 h7;have cn:=Kk hc M1.own (by omega) t;rw[h8]at cn;rw[g9];simp[aK,br,r1,r2,lu,gn,ak,d1,d2,Es,zF,ln,q1,Et,q2,d4,d5,d6,d7,cn]
        .rw[hE,Za1 (by simp)];obtain⟨s',V',z1,z2⟩:=ih (k+1) f s3 V (q.set i t) (by omega) (by omega) M3.1 (by rw[Zi5];exact hq);refine⟨s',V',z1,λk1 k2=> ?_⟩;have d5:decide (t< -1)=false:=H2 h5;have d6:decide ((N:Int)<=t)=false:=H2 h6;have d7:decide (0<=t)=true:=H4 h7;have cn:=Kk hc M1.own (by omega) t;rw[h8]at cn;rw[Zj1, <-z2 k1 k2,g9];simp[aK,br,r1,r2,lu,gn,ak,d1,d2,Es,zF,ln,q1,Et,q2,d4,d5,d6,d7,cn,w3,wr ()]
        .rw[hE,Za1 (by simp)];obtain⟨s',V',z1,z2⟩:=ih (k+1) f s3 V (q.set i t) (by omega) (by omega) M3.1 (by rw[Zi5];exact hq);refine⟨s',V',z1,λk1 k2=> ?_⟩;have d5:decide (t< -1)=false:=H2 (by omega);have d6:decide ((N:Int)<=t)=false:=H2 (by omega);have d7:decide (0<=t)=false:=H2 (by omega);rw[Zj1, <-z2 k1 k2,g9];simp[aK,br,r1,r2,lu,gn,ak,d1,d2,Es,zF,ln,q1,Et,q2,d4,d5,d6,d7,w3,wr ()]
theorem Do_g(hc:bZ c)(h:PS s0 s Vs p)(hp:p.gW)(hr:∀r∈p.rs,r.Ok)(pa:QS 1 s A (a.map bL))(z9:a.length<=1000)(hz:(dz p false a).2=0)(pl:LM s L l)(hl:l.length<=4000):
   ∃s' V,c 20 [.agg Vs,A,L] s=some (.tuple [V,.int .i64 (iO (NS p) l 0 a).2.1,.int .i64 (iO (NS p) l 0 a).2.2],s')/\Mk 1 s s' V ((iO (NS p) l 0 a).1.map bL):=by
 have hw:=h.ax.wf;have gN:=Grew.af hw (.cells Vs 0);have h1:=h.nY gN;have ck:=AN hc h1 hp hr (pa.ax gN) z9;have hcut:cut Vs 0 5=some Vs:=bK h.cells.1;obtain⟨V1,V2,r1,r2,e1,_,T,_,_⟩:=h1.rT;have hv:(bn p.ts).2=0:=by
   unfold dz at hz;split at hz
   .rename_i k;exact absurd hz k
   .rename_i k;exact CG (by simpa using k)
 have cn:=Mq hc h1 hp.ok hv e1;obtain⟨hs,hle⟩:=Re hp;rw[<-hs]at cn;obtain⟨v,s2,e2,M2⟩:=Rg (q:=a) hc gN.wf (pa.ax gN) z9;obtain⟨s',V',z1,z2⟩:=afw (c:=c) (N:=NS p) hc (pl.ax gN) hl hle 4001 l.length 0 4001 s2 v a (by omega) (by omega) M2 z9;rw[Zb7]at z1 z2;simp only[show((0:Nat):Int)=0 from rfl]at z2;have M:=z1.back hw gN;generalize hR:iO (NS p) l 0 a=R at*
 have hR0:R.2.2=0->R.2.1=0:=λh=>by
   have:∀(l:List Mv)(k:Nat)(q:List Int),(iO (NS p) l k q).2.2=0->(iO (NS p) l k q).2.1=0:=λl=>by
     induction l with
     |nil=>intro k q _;rfl
     |  cons m l ih=>
        intro k q hh;rw[iO]at hh ⊢;by_cases e:kf (NS p) q m≠0
        .rw[Za2 e]at hh;exact absurd hh e
        .rw[Za1 e]at hh ⊢; exact ih _ _ hh
   rw[<-hR]at h ⊢;exact this l 0 a h
 obtain⟨s3,t1,t2⟩:=Mk.Xn M .i64 .i64 R.2.1 R.2.2;have ln:=λ(K:AV->St->Option (AV×St))(s1:St)=>pl.lenB (c:=c) K s1
 have ck0:(dz p false a).1=0:=by
   have:∀w,(dz p w a).2=0->(dz p w a).1=0:=λw h=>by
     unfold dz at h ⊢;split at h
     .  rename_i k;exact absurd h k
     .  rename_i k;rw[Za1 k];unfold GG at h ⊢;split at h
        .cases h
        .rename_i k2;rw[Za1 k2,Br _ _ h]
   exact this false hz
 rw[hz,ck0]at ck;refine⟨s3,V',?_,t2⟩;rw[Oo hc 4001 (r:=(.tuple [V',.int .i64 R.2.1,.int .i64 R.2.2],s')),t1];rw[TM];simp[show ∀l,AV.cells (.agg l)=l from λl=>rfl,aE,ak,hcut,ck,e1,cn,e2,ln];rw[z2];by_cases h0:R.2.2=0
 .rw[Za2 h0,h0,hR0 h0];simp
 .rw[Za1 h0];simp
theorem abx(a b:Int):Plain (.tuple [.aq,.int .i64 a,.int .i64 b]):= .tuple λv hv=>by simp at hv;rcases hv with rfl|rfl|rfl;exact .aq;exact .int _ _;exact .int _ _
theorem adA(a:Int):Plain (.tuple [.aq,.int .i64 a]):= .tuple λv hv=>by simp at hv;rcases hv with rfl|rfl;exact .aq;exact .int _ _
theorem agr(hc:bZ c)(h:PS s0 s Vs p)(hp:p.gW)(hr:∀r∈p.rs,r.Ok)(pa:QS 1 s A (a.map bL))(z9:a.length<=1000)(hz:(dz p false a).2≠0)(L:AV):
  c 20 [.agg Vs,A,L] s=some (.tuple [.aq,.int .i64 0,.int .i64 (dz p false a).2],s):=by
 have gN:=Grew.af h.ax.wf (.cells Vs 0);have h1:=h.nY gN;have ck:=AN hc h1 hp hr (pa.ax gN) z9;have hcut:cut Vs 0 5=some Vs:=bK h.cells.1;have d:decide ((dz p false a).2=0)=false:=H2 hz;rw[Oo hc 1 (r:=(.tuple [.aq,.int .i64 0,.int .i64 (dz p false a).2],af s (.cells Vs 0))),au (abx _ _) gN.keeps];rw[TM];simp[show ∀l,AV.cells (.agg l)=l from λl=>rfl,aE,ak,hcut,ck,d,hz]
theorem Xp(hc:bZ c)(h:PS s0 s Vs p)(hp:p.gW)(hr:∀r∈p.rs,r.Ok)(pa:QS 1 s A (a.map bL))(pb:QS 1 s B (b.map bL))(z9:a.length<=1000)(Kh:b.length<=1000)(hA:A.cells=[A])(hB:B.cells=[B]){e:Int}
  (he:(dz p false a).2≠0/\e=(dz p false a).2\/(dz p false a).2=0/\(dz p false b).2≠0/\e=(dz p false b).2):
  c 22 [.agg Vs,A,B] s=some (.tuple [.aq,.int .i64 e],s):=by
 have hw:=h.ax.wf;have gN:=Grew.af hw (.cells Vs 0);have gL:=Grew.af gN.wf (.cells [A,B] 0);have g2:=gN.trans gL;have h2:=h.nY g2;have c1:=AN hc h2 hp hr (pa.ax g2) z9;have c2:=AN hc h2 hp hr (pb.ax g2) Kh;have hcut:cut Vs 0 5=some Vs:=bK h.cells.1;have x3:=gL.get (aE s (.cells Vs 0));have hL:QS 1 (af (af s (.cells Vs 0)) (.cells [A,B] 0)) (.slice (af s (.cells Vs 0)).next 0 2 (some 2) 1) ([A,B].map OY):= .inr (.inl ⟨_,0,some 2,[A,B],rfl,aE _ _,by simp,rfl,.inr rfl⟩);have bs:∀(K:AV->St->Option (AV×St)),ai c (.buildSlice 1 2 [.aq] [0,1]) [A,B] (af s (.cells Vs 0)) K=K (.slice (af s (.cells Vs 0)).next 0 2 (some 2) 1) (af (af s (.cells Vs 0)) (.cells [A,B] 0)):=λK=>by
  rw[cr];have:bG (bF [AV.aq] 2) ([0,1].map λi=>(i*1,1)) [A,B]=some [A,B]:=by
    show bG [AV.aq,AV.aq] [(0,1),(1,1)] [A,B]=some [A,B];simp[bG,dK,dX,aH,hA,hB]
  rw[this];rfl
 obtain⟨b0,o0,p0⟩:=hL.Yz (i:=0) (x:=A) rfl;obtain⟨b1,o1,p1⟩:=hL.Yz (i:=1) (x:=B) rfl;have q0:=λ{R}=>@p0.st R
 have q1:=λ{R}=>@p1.st R
 simp only[show((0:Nat):Int)=0 from rfl,show((1:Nat):Int)=1 from rfl]at q0 q1;have r0:=p0.one;have r1:=p1.one;have w1:aD .i64 (1:Int)=1:=wrap64 (by omega) (by omega);have bx:∀(K:AV->St->Option (AV×St)),ai c .box [.agg Vs] s K=K (.ptr s.next 0) (af s (.cells Vs 0)):=λK=>by simp[AV.cells]
 have ln:∀(K:AV->St->Option (AV×St))(s1:St),ai c (.lenB .l) [.slice (af s (.cells Vs 0)).next 0 2 (some 2) 1] s1 K=K (.int .i64 2) s1:=λK s1=>hL.lenB (c:=c) K s1
 have key:∀(F f:Nat)(k1 k2:Q2),mO c F k1 k2 (f+2) [A,B,.ptr s.next 0,.slice (af s (.cells Vs 0)).next 0 2 (some 2) 1,.int .i64 2,.int .i64 0] (af (af s (.cells Vs 0)) (.cells [A,B] 0))=k1 [.aq,.int .i64 e] (af (af s (.cells Vs 0)) (.cells [A,B] 0)):=λF f k1 k2=>by
  rcases he with⟨z1,rfl⟩|⟨z1,z2,rfl⟩
  .have d:decide ((dz p false a).2=0)=false:=H2 z1;rw[ke];simp[q0,r0,x3,ak,hcut,c1,d,z1]
  .have d:decide ((dz p false b).2=0)=false:=H2 z2;rw[z1]at c1;rw[ke];simp[q0,r0,x3,ak,hcut,c1,w1];rw[ke];simp[q1,r1,x3,ak,hcut,c2,d,z2]
 rw[HU hc 3 (r:=(.tuple [.aq,.int .i64 e],af (af s (.cells Vs 0)) (.cells [A,B] 0))),au (adA _) g2.keeps];rw[MK];rw[bx,aJ,aJ,aJ,aJ,bs,ln,aJ,key 3 1];simp only[dO,eS]
def zG(q r:List Int):Nat:=if q.length=r.length then Az q r else 0
theorem aeO(hc:bZ c)(pq:QS 1 s A (a.map bL))(pr:QS 1 s B (b.map bL))(hl:a.length<=1000000)(jW:b.length<=1000000):c 23 [A,B] s=some (.int .i64 ((zG a b:Nat):Int),s):=by
 unfold zG;by_cases he:a.length=b.length
 .rw[Za2 he];exact aab hc pq pr hl he
 . (rw[Za1 he];have ln:=λ(K:AV->St->Option (AV×St))=>pq.lenB (c:=c) K s);have lr:=λ(K:AV->St->Option (AV×St))=>pr.lenB (c:=c) K s
   rw[Zb0]at ln lr;have hz:¬((a.length:Int)=(b.length:Int)):=(by omega);rw[HT hc 1 (r:=(.int .i64 0,s)),au (Plain.int _ _) (aP.refl s)]
   .rfl
   rw[Mt];simp[ln,lr,hz,he]
end
end
noncomputable section
open Go Go.Ai Go.Proofs
attribute [local go_sem ↓] bf nX ev Qu w5 getLT tV FX Lo rE rF Dr A3 A4 A5 w6 w7 w8 w9 xe xg A6 A7 xj xk xp xq xw Fl Fm Fo
attribute [local go_sem] bf nX ev
section
variable(c:ah)(F:Nat)(x0 x1 x2 x3 x4 x5 x6 x7 x8 x9 xA ue:AV)(s:St)
end
section
variable{c:ah}(hc:bZ c)(F:Nat){x0 x1 x2 x3 x4 x5 x6 x7 x8 x9 xA ue:AV}{s:St}{r:AV×St}
include hc
end
end
section
set_option linter.unusedSimpArgs false
open Go Go.Ai Go.Proofs
variable{c:ah}
def jU:List (List Int)->Nat->Int
 |[],_=> -1
 |q::qs,k=>if 30<q.length then(k:Int)else jU qs (k+1)
theorem TO:∀(qs:List (List Int))(k:Nat),jU qs k<0↔ ∀q∈qs,q.length<=30
 |[],k=>by simp[jU]
 |q ::qs,k=>by
  rw[jU];by_cases h:30<q.length
  .rw[Za2 h];refine⟨λh=>by omega,λhh=> ?_⟩;have:=hh q (by simp);omega
  .rw[Za1 h,TO qs (k+1)];simp;omega
structure Xq(s:St)(L:AV)(vs:List AV)(qs:List (List Int)):Prop where
 own:QS 1 s L (vs.map OY)
 len:vs.length=qs.length
 Aa:∀(i:Nat)(v:AV)(q:List Int),vs[i]? =some v->qs[i]? =some q->LS s v q
section
variable{s:St}{L:AV}{vs:List AV}{qs:List (List Int)}{p:aS}
theorem aeP(hc:bZ c){v:AV}{q:List Int}(h:LS s v q):c 46 [v] s=some (.bool (decide (30<q.length)),s):=by
 have ln:=λ(K:AV->St->Option (AV×St))=>h.lenB (c:=c) K s
 rw[GD hc 1 (r:=(.bool (decide (30<q.length)),s)),au (Plain.bool _) (aP.refl s)];rw[JH];have e:decide ((30:Int)<(q.length:Int))=decide (30<q.length):=decide_eq_decide.2 (by omega);simp[ln,e]
theorem aeQ(hc:bZ c)(h:Xq s L vs qs)(hl:vs.length<=1000)(F:Nat)(k1 k2:Q2):∀(m k f:Nat),k+m=vs.length->m<f->
  eR c F k1 k2 f [L,.func 46 [] [],.int .i64 (vs.length:Int),.int .i64 (k:Int)] s=if jU (qs.drop k) k<0 then k2 [] s else k1 [.int .i64 (jU (qs.drop k) k)] s:=by
 intro m;induction m with
 |zero=>
  intro k f hk hf;obtain⟨f,rfl⟩:∃g,f=g+1:=⟨f - 1,by omega⟩
  obtain rfl:k=vs.length:=by omega
  rw[jz,h.len,Zg0];simp[jU]
 |succ m ih=>
  intro k f hk hf;obtain⟨f,rfl⟩:∃g,f=g+1:=⟨f - 1,by omega⟩
  have br:k<vs.length:=by omega
  have hkq:k<qs.length:=by rw[<-h.len];exact br
  obtain⟨b,o,p⟩:=h.own.Yz (H1 br);have p1:=λ{R}=>@p.st R
  have p3:=p.one;have w:=aeP hc (h.Aa k _ _ (H1 br) (H1 hkq));have wr:aD .i64 ((k:Int)+1)=((k+1:Nat):Int):=wrap64 (by omega) (by omega);have Rf:=ih (k+1) f (by omega) (by omega);rw[Za7 hkq,jU];by_cases e:30<qs[k].length
  .rw[H4 e]at w;rw[Za2 e,Za1 (by omega),jz];simp[br,p1,p3,oZ,w]
  .rw[H2 e]at w;rw[Za1 e, <-Rf,jz];simp[br,p1,p3,oZ,w,wr]
theorem adB(hc:bZ c)(h:Xq s L vs qs)(hl:vs.length<=1000):c 45 [L,.func 46 [] []] s=some (.bool (decide (0<=jU qs 0)),s):=by
 have ln:=λ(K:AV->St->Option (AV×St))=>h.own.lenB (c:=c) K s
 rw[Zb0]at ln;have L0:=λk1 k2=>aeQ (c:=c) hc h hl (vs.length+1) k1 k2 vs.length 0 (vs.length+1) (by omega) (by omega)
 simp only[Zb7,show((0:Nat):Int)=0 from rfl]at L0;have I:c 95 [L,.func 46 [] []] s=some (.int .i64 (if jU qs 0<0 then -1 else jU qs 0),s):=by rw[AA hc (vs.length+1) (r:=(.int .i64 (if jU qs 0<0 then -1 else jU qs 0),s)),au (Plain.int _ _) (aP.refl s)];rw[BP];simp only[aJ,ln,L0];split<;>simp
 rw[yd hc 1 (r:=(.bool (decide (0<=jU qs 0)),s)),au (Plain.bool _) (aP.refl s)];rw[zO];have e:decide (0<=(if jU qs 0<0 then(-1:Int)else jU qs 0))=decide (0<=jU qs 0):=decide_eq_decide.2 (by split<;>omega);simp[I,e]
def Sx(p:aS)(qs:List (List Int)):Bool:=decide (p.ts.length<=5)&&(BO p 20&&decide (jU qs 0<0))
theorem aeR{p:aS}{qs:List (List Int)}(h:Sx p qs=true):p.ts.length<=5/\BO p 100=true/\p.gs.length<=20/\∀q∈qs,q.length<=30:=by unfold Sx BO at h;simp only[Za6,Zc8]at h;obtain⟨h1,⟨⟨⟨⟨a1,a2⟩,a3⟩,a4⟩,a5⟩,h3⟩:=h;refine⟨h1,?_,a2,(TO qs 0).1 h3⟩;unfold BO;simp only[Za6,Zc8];omega
theorem aeS(hc:bZ c)(hw:Wf s)(p:aS)(h:Xq s L vs qs)(hl:vs.length<=1000):c 10 [.agg p.cells,L] s=some (.bool (Sx p qs),s):=by
 have gN:=Grew.af hw (.cells p.cells 0);have x1:=aE s (.cells p.cells 0);have h1:Xq (af s (.cells p.cells 0)) L vs qs:=⟨h.own.ax gN,h.len,λi v q a b=>(h.Aa i v q a b).ax gN⟩
 have C:=adB hc h1 hl;have F:c 44 [.agg p.cells,.int .i64 20] (af s (.cells p.cells 0))=some (.bool (BO p 20),af s (.cells p.cells 0)):=aeI hc p 20 _;have lT:∀(K:AV->St->Option (AV×St))(s:St),ai c (.lenB .l) [tabs p.tz p.ts] s K=K (.int .i64 (p.ts.length:Int)) s:=λK s=>by unfold tabs;rw[bX];simp
 have vc:cut p.cells 0 5=some p.cells:=bK rfl;have p0:p.cells[0]? =some (tabs p.tz p.ts):=rfl;have e1:decide ((p.ts.length:Int)<=5)=decide (p.ts.length<=5):=decide_eq_decide.2 (by omega);have e2:(!decide (0<=jU qs 0))=decide (jU qs 0<0):=by
   by_cases e:0<=jU qs 0
   .rw[H4 e,H2 (by omega)];rfl
   .rw[H2 e,H4 (by omega)];rfl
 rw[JJ hc 1 (r:=(.bool (Sx p qs),af s (.cells p.cells 0))),au (Plain.bool _) gN.keeps];rw[MG];unfold Sx;rw[<-e2];by_cases a:p.ts.length<=5
 . have d:decide (p.ts.length<=5)=true:=H4 a;rw[d]at e1;cases b:BO p 20
   .rw[b]at F;simp[x1,ak,vc,p0,lT,e1,d,F,a]
   .rw[b]at F;simp[x1,ak,vc,p0,lT,e1,d,F,C,a]
 .have d:decide (p.ts.length<=5)=false:=H2 a;rw[d]at e1;simp[x1,ak,vc,p0,lT,e1,d,a]
theorem aS.Laid.real{p:aS}(hl:p.Laid)(hp:p.gW):p.Real:=⟨by have:=hp.ts;omega,λt ht=>(hl.tab t ht).2,by have:=hp.gs;omega,hl.bu,hl.ys,hl.cs,hl.rs⟩
theorem aS.cB.refl(p:aS):p.cB p:=⟨rfl,λi t t' h1 h2=>⟨t.oz,by rw[h1]at h2;cases h2;rfl⟩,rfl,λi t t' h1 h2=>⟨t.tz,by rw[h1]at h2;cases h2;rfl⟩,rfl,rfl,rfl⟩
end
end
noncomputable section
open Go Go.Ai Go.Proofs
attribute [local go_sem ↓] bf nX ev Qu w5 getLT tV FX Lo rE rF Dr A3 A4 A5 w6 w7 w8 w9 xe xg A6 A7 xj xk xp xq xw Fl Fm Fo
attribute [local go_sem] bf nX ev
section
variable(c:ah)(F:Nat)(x0 x1 x2 x3 x4 x5 x6 x7 x8 x9 xA ue:AV)(s:St)
def tD:Sh:=(sq sl (sq (sq sl (sb (sp 0 [0,1,5] [(1,[4]),(2,[])] (sq (sq sl (sc sl sl)) (sq (sb (sq sl (sc (sq sl sl) sl))) sl))))) (sq sl sl)))
def Bv:PX 76 tD:=⟨_,by conv=>lhs;reduce⟩
def Ab:PL 76 tD 0:=⟨_,by conv=>lhs;reduce⟩
def jJ(k1 k2:Q2):Nat->Q2
 |0,_,_=>none
 |n+1,vs,s=>cX c F bh (jJ k1 k2 n) [k1,k2] Ab.1 vs s
def oQ(k1 k2:Q2)(n:Nat)(vs:List AV)(s:St):=(by dsimp only[jJ,Ab,go_sem,Int.reduceOfNat,Int.reduceNegSucc]:jJ c F k1 k2 (n+1) vs s=_)
def tE:Un->List Q2->Nat->Q2
 |.z,[k1,k2]=>jJ c F k1 k2
 |_,_=>λ_=>dZ
def wK:O2:=bf c F (tE c F) Bv.1 [x0,x1] s
def MO:=(by dsimp only[wK,Bv, ↓tE,go_sem,Int.reduceOfNat,Int.reduceNegSucc]:wK c F x0 x1 s=_)
end
section
variable{c:ah}(hc:bZ c)(F:Nat){x0 x1 x2 x3 x4 x5 x6 x7 x8 x9 xA ue:AV}{s:St}{r:AV×St}
include hc
theorem JN(h:wK c F x0 x1 s=some r):c 76 [x0,x1] s=some (tidy s r):=hc.o1 F (tE c F) tD (by kernel_rfl) (by kernel_rfl) (λ_ _ _=>by kernel_rfl) (λ_ _ _ _=>by kernel_rfl) (by kernel_rfl) h
end
end
end Go.Proofs.YtlkadmkojjceiaaGreatDoor
