/- What a judge tells. -/
import Derived.Test.YtgihekklfnjkiaaGreatDoorBJudgeA
import Derived.Test.YtgihekklfnjkiaaGreatDoorBMade
set_option linter.all false
set_option maxRecDepth 100000
namespace Go.Proofs.YtgihekklfnjkiaaGreatDoor
section
open Go Go.Ai Go.Proofs
variable{c:aj}
theorem aqc(hc:bH c){n:Int}(h0:0<=n)(h1:n<4294967296)(s:St):c 191 [.int .u64 1,.int .u64 n] s=some (.tuple [.int .u64 0,.int .u64 n],s):=by
 rw[UI hc 1 (r:=(.tuple [.int .u64 0,.int .u64 n],s)),aF (Plain.tuple (by simp[Plain.int])) (aX.refl s)];rw[YT];have w0:ax .u64 0=0:=Ym (by omega) (by omega);have w1:ax .u64 n=n:=Ym (by omega) (by omega);simp[aaJ h0 h1,aaL h0 h1,aaJ (n:=1) (by omega) (by omega),aaL (a:=1) (by omega) (by omega),aaJ (n:=0) (by omega) (by omega),aaL (a:=0) (by omega) (by omega),w0,w1]
theorem at5(hc:bH c){n:Int}(h0:0<=n)(h1:n<4294967296)(s:St):c 140 [.int .u64 1,.int .u64 n] s=some (.tuple [.int .u64 0,.int .u64 n],s):=by
 rw[YU hc 1 (r:=(.tuple [.int .u64 0,.int .u64 n],s)),aF (Plain.tuple (by simp[Plain.int])) (aX.refl s)];rw[acf];simp[aqc hc h0 h1]
theorem ano(N:Nat)(hN:N<=1000000)(b:Pos)(v:AV)(hv:v.one=true)(F:Nat):∀(m n f:Nat)(s:St),1<=n->n<=N->N - n<=m->m<f->s.heap.get b=some (.cells (List.replicate n v++List.replicate (N - n) (.int .i64 0)) 0)->
  ∀k2:Q2,jD c F k2 f [.slice b 0 N (some N) 1,.int .i64 (n:Int)] s=k2 [.slice b 0 N (some N) 1] (bg s b (.cells (List.replicate N v) 0)):=by
 intro m;induction m with
 |zero=>
  intro n f s h1 h2 h3 h4 h5 k2;obtain⟨f,rfl⟩:∃g,f=g+1:=⟨f - 1,by omega⟩
  obtain rfl:n=N:=by omega
  rw[kL];have e:bg s b (.cells (List.replicate n v) 0)=bg s b (.cells (List.replicate n v++List.replicate (n - n) (.int .i64 0)) 0):=by simp
  rw[e];have e2:bg s b (.cells (List.replicate n v++List.replicate (n - n) (.int .i64 0)) 0)=s:=ahd h5;rw[e2];simp[kX]
 |succ m ih=>
  intro n f s h1 h2 h3 h4 h5 k2;obtain⟨f,rfl⟩:∃g,f=g+1:=⟨f - 1,by omega⟩
  by_cases hn:n=N
  .subst hn;rw[kL];have e:bg s b (.cells (List.replicate n v) 0)=bg s b (.cells (List.replicate n v++List.replicate (n - n) (.int .i64 0)) 0):=(by simp);rw[e];have e2:bg s b (.cells (List.replicate n v++List.replicate (n - n) (.int .i64 0)) 0)=s:=ahd h5;rw[e2];simp[kX]
  . have aV:decide ((n:Int)<(N:Int))=true:=Za0 (by omega);have cp:=λ(K:AV->St->Option (AV×St))=>ag9 (c:=c) (b:=b) (n:=n) (m:=N - n) (cp:=some (N - n)) (Iz:=some N) (by omega) (by omega) hv h5 K
    have w:ax .i64 ((n:Int)+((min n (N - n):Nat):Int))=((n+min n (N - n):Nat):Int):=(by rw[wrap64 (by omega) (by omega)];omega);have ih2:=ih (n+min n (N - n)) f (bg s b (.cells (List.replicate (n+min n (N - n)) v++List.replicate (N - n - min n (N - n)) (.int .i64 0)) 0)) (by omega) (by omega) (by omega) (by omega) (by rw[bG,show N - (n+min n (N - n))=N - n - min n (N - n)by omega]) k2;rw[Pe]at ih2;rw[<-ih2,kL];simp only[aL,bu,az,kX,dI,aV,eo,di,ana h2,anb h2,cp,asg,w]
theorem anp(hc:bH c){N:Nat}(hN:N<=1000000){p:Pos}{v:AV}(hv:v.one=true)(s:St)(hw:Wf s)(hp:s.heap.get p=some (.cells [v] 0)):
   ∃s' gb,c 79 [.slice p 0 1 (some 1) 1,.int .i64 (N:Int)] s=some (.slice gb 0 N (some N) 1,s')/\Grew s s'/\s.next.toNat<=gb.toNat/\(N=0\/s'.heap.get gb=some (.cells (List.replicate N v) 0)):=by
 have g1:=Grew.ah hw (.cells (List.replicate N (.int .i64 0)) 0);have w1:ax .u64 (N:Int)=(N:Int):=Ym (by omega) (by omega);have w2:ax .i64 (N:Int)=(N:Int):=wrap64 (by omega) (by omega);have w3:ax .u64 1=1:=Ym (by omega) (by omega);have d1:decide ((N:Int)<0)=false:=Za2 (by omega);have d2:decide ((9223372036854775807:Int)<(N:Int))=false:=Za2 (by omega);have mk:=λ(K:AV->St->Option (AV×St))=>adq c K s (es:=1) (bytes:=8) (z:=[.int .i64 0]) (k:= .i64) (k':= .i64) (n:=N) (by omega) (by omega)
 rw[CS]at mk;have ke:=g1.get hp;have mu:=at5 hc (n:=(N:Int)) (by omega) (by omega) s;by_cases h0:N=0
 . subst h0;have run:=xQ hc (x0:= .slice p 0 1 (some 1) 1) (x1:= .int .i64 ((0:Nat):Int)) (s:=s) (F:=1) (r:=(.slice s.next 0 0 (some 0) 1,ah s (.cells [] 0))) (by
    rw[zD];simp only[az,dI,d1,dw,dQ,aL,bu,kX,KT,w1,show((1:Nat):Int)=1 from rfl,w3,cY,mu,cL,jK,Za4,Zb6,aW,BV,show decide ((0:Int)<0)=false from rfl,lM,d2,pX,w2,mk,List.replicate_zero,afc];rw[kL];simp[kX])
   rw[run];obtain⟨s',h1,h2⟩:=amZ (v:= .slice s.next 0 0 (some 0) 1) (Grew.ah hw (.cells [] 0)) hw;exact⟨s',s.next,by rw[h1],h2,Za3 _,.inl rfl⟩
 . have cp:=λ(K:AV->St->Option (AV×St))=>ahc (c:=c) (b:=s.next) (b2:=p) (v:=v) (z:= .int .i64 0) (m:=N) (cp:=some N) (Iz:=some 1) (by omega) hv (aA s _) ke K
   have lp:=ano (c:=c) N hN s.next v hv (N+1) N 1 (N+1) (bg (ah s (.cells (List.replicate N (.int .i64 0)) 0)) s.next (.cells (List.replicate 1 v++List.replicate (N - 1) (.int .i64 0)) 0)) (by omega) (by omega) (by omega) (by omega) (bG _ _ _);simp only[Pe,Yi]at lp cp;simp only[show((1:Nat):Int)=1 from rfl]at lp;have run:=xQ hc (x0:= .slice p 0 1 (some 1) 1) (x1:= .int .i64 (N:Int)) (s:=s) (F:=N+1) (r:=(.slice s.next 0 N (some N) 1,ah s (.cells (List.replicate N v) 0))) (by
    rw[zD];simp only[az,dI,d1,dw,dQ,aL,bu,kX,KT,w1,show((1:Nat):Int)=1 from rfl,w3,cY,mu,cL,jK,Za4,Zb6,aW,BV,show decide ((0:Int)<0)=false from rfl,lM,d2,pX,w2,mk,cp,lp])
   (rw[run];have np:¬(Plain (AV.slice s.next 0 N (some N) 1)):=λh=>aaN h0 h);refine⟨ah s (.cells (List.replicate N v) 0),s.next,?_,Grew.ah hw _,Za3 _,.inr (aA _ _)⟩;unfold tidy;rw[Za6 (λh=>np h.1)]
def C8(N:Nat):List Int->Nat->List Int->Option (List Int)
 |[],_,g=>some g
 |x::q,i,g=>if x< -1\/(N:Int)<=x\/(0<=x/\0<=g.getD x.toNat (-1))then none else C8 N q (i+1) (if 0<=x then g.set x.toNat (i:Int)else g)
def xR(N:Nat)(q:List Int):Option (List Int):=C8 N q 0 (List.replicate N (-1))
theorem PN{N:Nat}:∀{q:List Int}{i:Nat}{g g':List Int},C8 N q i g=some g'->(∀x∈q,-1<=x/\x<(N:Int))/\g'.length=g.length
 |[],i,g,g',h=>by cases h;exact⟨λx hx=>(nomatch hx),rfl⟩
 |x ::q,i,g,g',h=>by
  unfold C8 at h;by_cases hc:x< -1\/(N:Int)<=x\/(0<=x/\0<=g.getD x.toNat (-1))
  .rw[Zb4 hc]at h;cases h
  . rw[Za6 hc]at h;obtain⟨h1,h2⟩:=PN h;refine⟨λy hy=> ?_,by rw[h2];split<;>simp⟩;rcases Za9.1 hy with rfl|hy
    .omega
    .exact h1 y hy
theorem anq{N n:Nat}:∀{q:List Int}{i:Nat}{g g':List Int},C8 N q i g=some g'->i+q.length<=n->(∀x∈g,-1<=x/\x<(n:Int))->∀x∈g',-1<=x/\x<(n:Int)
 |[],i,g,g',h,_,hg=>by cases h;exact hg
 |x ::q,i,g,g',h,hn,hg=>by
  unfold C8 at h;simp only[Zc9]at hn;split at h
  .cases h
  . (refine anq h (by omega) λy hy=> ?_);split at hy
    .   rcases Zh2 hy with hy|rfl
        .exact hg y hy
        .omega
    .   exact hg y hy
structure LI(sA s:St)(vb gb jb:Pos)(P:AV)(N:Nat)(g:List Int):Prop where
 gr:Grew sA s
 vc:s.heap.get vb=some (.cells [.ptr jb 0,P,.slice gb 0 N (some N) 1] 0)
 gc:N=0\/s.heap.get gb=some (.cells (g.map (AV.int .i64)) 0)
 gl:g.length=N
section
variable{sA:St}{vb gb jb:Pos}{j:Jc}{J:Jt}{P:AV}{q:List Int}
theorem asF (jw:JW sA jb j J)(pq:QS 1 sA P (q.map bJ))(pI:q.length<=1000000)(hN:J.N<=100000)(hg:sA.next.toNat<=gb.toNat)(hvg:0<J.N->vb≠gb)(w0:Wf sA)(F:Nat):∀(m k f:Nat)(s:St)(g:List Int),k+m=q.length->m<f->LI sA s vb gb jb P J.N g->
  (C8 J.N (q.drop k) k g=none/\∃s',Grew sA s'/\∀k1 k2:Q2,lS c F k1 k2 f [.ptr jb 0,.ptr vb 0,P,.int .i64 (q.length:Int),.int .i64 (k:Int)] s=k1 [.jf] s')\/
    ∃g' s',C8 J.N (q.drop k) k g=some g'/\LI sA s' vb gb jb P J.N g'/\∀k1 k2:Q2,lS c F k1 k2 f [.ptr jb 0,.ptr vb 0,P,.int .i64 (q.length:Int),.int .i64 (k:Int)] s=k2 [.ptr vb 0] s':=by
 intro m;induction m with
 |zero=>
  intro k f s g hk hf hL;obtain⟨f,rfl⟩:∃g,f=g+1:=⟨f - 1,by omega⟩
  obtain rfl:k=q.length:=by omega
  refine .inr ⟨g,s,by simp[C8],hL,λk1 k2=> ?_⟩;rw[fW];simp
 |succ m ih   =>
  intro k f s g hk hf hL;obtain⟨f,rfl⟩:∃g,f=g+1:=⟨f - 1,by omega⟩
  have jw1:=jw.ai hL.gr;have jc:=jw1.nk;have vc:=hL.vc;have iO:k<q.length:=by omega
  obtain⟨pb,po,p⟩:=rq (pq.ai hL.gr) (H0 iO);have p1:=λ{R}=>@p.st R
  have p3:=p.one;have wr:ax .i64 ((k:Int)+1)=((k+1:Nat):Int):=wrap64 (by omega) (by omega);have ln:=λ(K:AV->St->Option (AV×St))=>jw1.tab.lenB (c:=c) K s
  rw[Za5,(Sb _ _).1]at ln;rw[Ze2 iO];generalize q[k]=x at*
  unfold C8;by_cases h1:x< -1
  .rw[Zb4 (.inl h1)];refine .inl ⟨rfl,s,hL.gr,λk1 k2=> ?_⟩;have d1:decide (x< -1)=true:=Za0 h1;rw[fW];simp[dw,iO,p1,p3,d1]
  . have d1   :decide (x< -1)=false:=Za2 h1;by_cases h2:(J.N:Int)<=x
    .   rw[Zb4 (.inr (.inl h2))];refine .inl ⟨rfl,s,hL.gr,λk1 k2=> ?_⟩;rw[fW];simp[dw,iO,p1,p3,d1,jc,ln,h2]
    .   have d2:decide ((J.N:Int)<=x)=false:=Za2 h2;by_cases h3:0<=x
        . obtain⟨i,rfl⟩:∃i:Nat,x=(i:Int):=⟨x.toNat,by omega⟩
          have hi:i<J.N:=(by omega);have Lc:decide (J.N<=i)=false:=Za2 (by omega);have gc:s.heap.get gb=some (.cells (g.map (AV.int .i64)) 0):=by
            rcases hL.gc with h|h
            .omega
            .exact h
          have PJ:i<g.length:=(by rw[hL.gl];exact hi);have eg:g.getD i (-1)=g[i]:=(by rw[Za8,H0 PJ];rfl);have ix:=λ(K:AV->St->Option (AV×St))(s1:St)=>iR c K s1 (b:=gb) (off:=0) (len:=J.N) (es:=1) (es':=1) (cap:=some J.N) (k:= .i64) (i:=i) hi
          have ec:(g.map (AV.int .i64))[i]? =some (.int .i64 g[i]):=(by rw[Zb7,H0 PJ];rfl);rw[Zd0,eg,Zb4 h3];by_cases h4:0<=g[i]
          .rw[Zb4 (.inr (.inr ⟨h3,h4⟩))];refine .inl ⟨rfl,s,hL.gr,λk1 k2=> ?_⟩;rw[fW];simp[dw,iO,p1,p3,d1,jc,ln,Lc,vc,ix,gc,PJ,h4]
          . (rw[Za6 (by omega)];have d4:decide (0<=g[i])=false:=Za2 h4;have aV:=hL.gr.wf _ _ gc;have pt:=λ(K:AV->St->Option (AV×St))=>Ks (c:=c) K gc (o:=i) (by rw[Za5];exact PJ) (v:= .int .i64 (k:Int)) rfl rfl);have em:(g.map (AV.int .i64)).set i (.int .i64 (k:Int))=(g.set i (k:Int)).map (AV.int .i64):=(by rw[Zq2]);rw[em]at pt;have LI2:LI sA (bg s gb (.cells ((g.set i (k:Int)).map (AV.int .i64)) 0)) vb gb jb P J.N (g.set i (k:Int)):=by
              refine⟨vF w0 hL.gr hg aV _,by rw[aH (λe=>hvg (by omega) e.symm)];exact vc,.inr (bG _ _ _),by rw[Zi7];exact hL.gl⟩
            rcases ih (k+1) f _ _ (by omega) (by omega) LI2 with⟨z1,s',z2,z3⟩|⟨g',s',z1,z2,z3⟩
            .refine .inl ⟨z1,s',z2,λk1 k2=> ?_⟩;rw[<-z3 k1 k2,fW];simp[dw,iO,p1,p3,d1,jc,ln,Lc,vc,ix,gc,PJ,d4,pt,wr]
            .refine .inr ⟨g',s',z1,z2,λk1 k2=> ?_⟩;rw[<-z3 k1 k2,fW];simp[dw,iO,p1,p3,d1,jc,ln,Lc,vc,ix,gc,PJ,d4,pt,wr]
        . rw[Za6 (by omega),Za6 h3];have d3:decide (0<=x)=false:=Za2 h3;rcases ih (k+1) f s g (by omega) (by omega) hL with⟨z1,s',z2,z3⟩|⟨g',s',z1,z2,z3⟩
          .refine .inl ⟨z1,s',z2,λk1 k2=> ?_⟩;rw[<-z3 k1 k2,fW];simp[dw,iO,p1,p3,d1,jc,ln,d2,d3,wr]
          .refine .inr ⟨g',s',z1,z2,λk1 k2=> ?_⟩;rw[<-z3 k1 k2,fW];simp[dw,iO,p1,p3,d1,jc,ln,d2,d3,wr]
theorem aqd(hc:bH c){s:St}(jw:JW s jb j J):c 78 [.ptr jb 0] s=some (.bool false,s):=by
 have jc:=jw.nk;have e1:∀(K:AV->St->Option (AV×St))(s:St),aq c (.bin .eql .ptr) [.ptr jb 0,.jf] s K=K (.bool false) s:=λK s=>aS c K (λH n=>rfl) s
 have e2:∀(K:AV->St->Option (AV×St))(s:St),aq c (.bin .eql .map) [.map j.M,.qp] s K=K (.bool false) s:=λK s=>aS c K (λH n=>rfl) s
 rw[Sc hc 1 (r:=(.bool false,s)),aF (Plain.bool _) (aX.refl s)];rw[YV];simp[e1,e2,jc]
theorem asG(hc:bH c)(jw:JW sA jb j J)(w0:Wf sA)(pq:QS 1 sA P (q.map bJ))(pI:q.length<=1000000):
   ((q.length≠J.n\/xR J.N q=none)/\c 37 [.ptr jb 0,P] sA=some (.jf,sA))\/
     ∃g vb G s',q.length=J.n/\xR J.N q=some g/\c 37 [.ptr jb 0,P] sA=some (.ptr vb 0,s')/\Grew sA s'/\Vw s' vb jb j J P G q g:=by
 have jc:=jw.nk;have nn:=aqd hc jw;have lp:=λ(K:AV->St->Option (AV×St))(s:St)=>pq.lenB (c:=c) K s
 rw[Za5]at lp;obtain⟨s0',r1',r2',_,_,gsq⟩:=jw.ps;have lg:=λ(K:AV->St->Option (AV×St))(s:St)=>gsq.out.own.lenB (c:=c) K s
 rw[gsq.len]at lg;have en:J.p.gs.length=J.n:=rfl;by_cases hl:q.length=J.n
 . have hN  :J.N<=100000:=(by have:=jw.nN;have:=jw.zC.ts;have:=(om J.p.ts).2;omega);have dl:decide ((q.length:Int)=(J.p.gs.length:Int))=true:=Za0 (by omega);have lt:=λ(K:AV->St->Option (AV×St))(s:St)=>jw.tab.lenB (c:=c) K s
   rw[Za5,(Sb _ _).1]at lt;have g1:=Grew.ah w0 (.cells [AV.int .i64 (-1)] 0);obtain⟨s2,gb,e1,e2,e3,e4⟩:=anp hc (N:=J.N) (by omega) (v:= .int .i64 (-1)) rfl _ g1.wf (aA sA (.cells [.int .i64 (-1)] 0));have g12:=g1.trans e2;have w2:=e2.wf;have g3:=Grew.ah w2 (.cells [.ptr jb 0,P,.slice gb 0 J.N (some J.N) 1] 0);have g13:=g12.trans g3;have bl:∀(K:AV->St->Option (AV×St))(s:St),aq c (.build [.jf,.af,.af] [(0,1),(1,1),(2,1)]) [.ptr jb 0,P,.slice gb 0 J.N (some J.N) 1] s K=K (.agg [.ptr jb 0,P,.slice gb 0 J.N (some J.N) 1]) s:=λK s=>
     dV c K s _ _ _ _ (by rcases pq with⟨rfl,_⟩|⟨b,off,cap,cs,rfl,_⟩|⟨b,off,rfl,_⟩<;>rfl)
   have r1:=λ(K:AV->St->Option (AV×St))=>FB (c:=c) (z:=[.int .i64 0]) (x:= .int .i64 (-1)) rfl rfl sA K
   have hvg:0<J.N->s2.next≠gb:=λh e=>by
     rcases e4 with e4|e4
     .  omega
     .  have:=w2 _ _ e4;rw[e]at this;omega
   have LI0:LI sA (ah s2 (.cells [.ptr jb 0,P,.slice gb 0 J.N (some J.N) 1] 0)) s2.next gb jb P J.N (List.replicate J.N (-1)):=by
     refine⟨g13,aA _ _,?_,by simp⟩;rcases e4 with e4|e4
     .  exact .inl e4
     .  right;rw[List.map_replicate];exact g3.get e4
   have e3':sA.next.toNat<=gb.toNat:=Zb3 g1.next e3;rcases asF (c:=c) jw pq pI hN e3' hvg w0 (q.length+1) q.length 0 (q.length+1) _ _ (by omega) (by omega) LI0 with⟨z1,s',z2,z3⟩|⟨g,s',z1,z2,z3⟩
   .rw[Ze6]at z1;refine .inl ⟨.inr z1,?_⟩;rw[wZ hc (q.length+1) (r:=(.jf,s')),aF Plain.jf z2.keeps];simp only[show((0:Nat):Int)=0 from rfl]at z3;rw[zP];simp only[az,cY,nn,cL,lM,lp,cE,aT,Zb9,aY,jc,Jc.c1,aG,Zb1,aW,lg,Pb,dl,Zj6,pX,dQ,r1,g1.get jc,Jc.c6,lt,e1,bl,dy,show ∀l,AV.cells (.agg l)=l from λl=>rfl,z3,aL,bu]
   . rw[  Ze6]at z1;have ok:=PN z1;refine .inr ⟨g,s2.next,.slice gb 0 J.N (some J.N) 1,s',hl,z1,?_,z2.gr,⟨jw.ai z2.gr,z2.vc,z2.gr.wf,pq.ai z2.gr,?_,hl,z2.gl,ok.1,anq (n:=J.n) z1 (by omega) λx hx=>by have:=List.eq_of_mem_replicate hx;omega⟩⟩
     .  rw[wZ hc (q.length+1) (r:=(.ptr s2.next 0,s'))]
        .unfold tidy;rw[Za6 (λh=>TJ _ _ h.1)]
        .simp only[show((0:Nat):Int)=0 from rfl]at z3;rw[zP];simp only[az,cY,nn,cL,lM,lp,cE,aT,Zb9,aY,jc,Jc.c1,aG,Zb1,aW,lg,Pb,dl,Zj6,pX,dQ,r1,g1.get jc,Jc.c6,lt,e1,bl,dy,show ∀l,AV.cells (.agg l)=l from λl=>rfl,z3,aL,bu]
     .  rcases Zn7 J.N with h0|h0
        .have:g=[]:=Zc0 (by rw[z2.gl,h0]);rw[h0,this];exact .inr (.inr ⟨gb,0,rfl,rfl⟩)
        . rcases z2.gc with h|h
          .omega
          .refine .inr (.inl ⟨gb,0,some J.N,_,by rw[Za5,z2.gl],h,by simp,?_,.inr (by rw[Za5,z2.gl])⟩);rw[FE,afU];simp only[Ze6,Za5,Zn8];exact Ze9 (by simp)
 .refine .inl ⟨.inl hl,?_⟩;have dl:decide ((q.length:Int)=(J.p.gs.length:Int))=false:=Za2 (by omega);rw[wZ hc 1 (r:=(.jf,sA)),aF Plain.jf (aX.refl sA)];rw[zP];simp only[az,cY,nn,cL,lM,lp,cE,aT,Zb9,aY,jc,Jc.c1,aG,Zb1,aW,lg,Pb,dl,Zl3,pX,eo]
end
def FI(s0:St)(nb:Pos)(s:St)(l:List Ev):Prop:=Grew s0 s/\s.heap.get nb=some (.cells [.int .i64 ((nM l:Nat):Int)] 0)
theorem alh(hc:bH c){s:St}{nb:Pos}{n k:Nat}{W:AV}(hn:s.heap.get nb=some (.cells [.int .i64 (n:Int)] 0))(hB:n+k<=1000000):
  c 82 [.int .i64 (k:Int),W,.ptr nb 0] s=some (tidy s (.tuple [],bg s nb (.cells [.int .i64 ((n+k:Nat):Int)] 0))):=by
 have w:ax .i64 ((n:Int)+(k:Int))=((n+k:Nat):Int):=by rw[wrap64 (by omega) (by omega)];omega
 have pt:=λ(K:AV->St->Option (AV×St))=>Ks (c:=c) K hn (o:=0) (by simp) (v:= .int .i64 ((n+k:Nat):Int)) rfl rfl
 refine N4 hc 1 ?_;rw[Sd];simp only[aY,hn,aG,Zb1,Za4,aW,az,gC,w,pt];rfl
theorem ali(hc:bH c){s0:St}(w0:Wf s0){nb:Pos}(hnb:s0.next.toNat<=nb.toNat):ki c (.func 82 [] [.ptr nb 0]) s0 (FI s0 nb) (λ_ b=>b=nb) where
 ai h:=h.1
 grow h g:=⟨h.1.trans g,g.get h.2⟩
 l9 _ _ h:=h
 mlt h e:=by subst e;exact h.1.wf _ _ h.2
 back {s s' l l'} h h' hk:=by
  have e1:=hk nb _ h.2;have e2:=h'.2;rw[e1]at e2;simp only[H5,AB.cells.injEq,Zf9,AV.int.injEq,Zr1,Zn5]at e2;exact⟨h.1,by rw[<-e2];exact h.2⟩
 call {s l k W who} h hW hB:=by
  have hn:=anm l;have f1:=alh hc (W:=W) (k:=k) h.2 (by omega);have aV:=h.1.wf _ _ h.2;have e:nM (l++[(k,who)])=nM l+k:=by rw[adt,ass]
  unfold tidy at f1;split at f1
  .rename_i hk;refine⟨s,.tuple [],λK=>by rw[gI];simp only[Ze0,Zd7];rw[f1];rfl,⟨h.1,?_⟩,gK.refl h.1.wf⟩;have e1:=hk.2 nb _ h.2;rw[bG]at e1;rw[e,e1];exact h.2
  .refine⟨_,.tuple [],λK=>by rw[gI];simp only[Ze0,Zd7];rw[f1];rfl,⟨vF w0 h.1 hnb aV _,by rw[bG,e]⟩,Za3 _,iG h.1.wf aV,λb x hb hx=>⟨by rw[aH (λe=>hb e.symm)];exact hx,hb⟩⟩
 one:=⟨rfl,rfl⟩
theorem anr{m:Nat}(h1:1<=m)(h2:m<=18):gM .i (.int .u8 (m:Int)) EL 0=some (some (m - 1,.agg (kd m).cells)):=by rcases B4 h1 h2 with rfl|rfl|rfl|rfl|rfl|rfl|rfl|rfl|rfl|rfl|rfl|rfl|rfl|rfl|rfl|rfl|rfl|rfl<;>rfl
theorem ahq{R:Type}{h:T AB}{mp:Pos}(hm:h.get mp=some (.map EL 18)){m:Nat}(h1:1<=m)(h2:m<=18)(z:AV)(K:AV->Option R):jt (.lookup .i z false) [.map mp,.int .u8 (m:Int)] h (λ_=>true) K=K (.agg (kd m).cells):=by
 unfold jt;have e:aE.run (λ_=>none) .h (.lookup .i z false) [.map mp,.int .u8 (m:Int)]=none:=rfl;rw[e];simp only;have:aE.run (λb=>h.get b) .h (.lookup .i z false) [.map mp,.int .u8 (m:Int)]=some (.val (.agg (kd m).cells)):=by
  simp only[aE.run,lz,hm,anr h1 h2]
 rw[this]
section
variable{s:St}{vb jb:Pos}{j:Jc}{J:Jt}{P G:AV}{q g:List Int}
theorem Vw.rR(V:Vw s vb jb j J P G q g){i:Nat}{r:Rl}(hi:J.p.rs[i]? =some r):∃b o,Rd s 6 j.V5 i b o r.cells:=
 V.jw.jx.rd (λr hr=>by obtain⟨x,_,rfl⟩:=Zc6.1 hr;rfl) (by rw[Zb7,hi];rfl)
theorem ans(hc:bH c)(V:Vw s vb jb j J P G q g)(eW:J.p.cs.length=J.n\/J.p.cs.length=0){i:Nat}{r:Rl}(hi:J.p.rs[i]? =some r){m:Nat}(R:ZK J.p r m):
  c 41 [.ptr vb 0,.int .i64 (i:Int)] s=some (.int .i64 ((nM (mg J q g r):Nat):Int),s):=by
 have g1:=Grew.ah V.wf (.cells [.int .i64 0] 0);have H:=ali hc V.wf (Za3 s.next.toNat);have I1:FI s s.next (ah s (.cells [.int .i64 0] 0)) []:=⟨g1,aA _ _⟩
 obtain⟨f,s',e1,e2,e3⟩:=ajZ hc H V eW R I1;rw[Se hc 1 (r:=(.int .i64 ((nM (mg J q g r):Nat):Int),s')),aF (Plain.int _ _) e3.1.keeps];have V1:=V.ai g1;have bD:∀(K:AV->St->Option (AV×St)),aq c (.store 1) [.ptr s.next 0,.int .i64 0] (ah s (.cells [.int .i64 0] 0)) K=K .undef (ah s (.cells [.int .i64 0] 0)):=λK=>cG c K s 1 (.int .i64 0) [.int .i64 0] rfl rfl rfl
 rw[Wt];simp only[az,dB,bD];generalize ah s (.cells [.int .i64 0] 0)=s1 at*
 have vc:=V1.vc;have jc:=V1.jw.nk;obtain⟨rb,ro,h1⟩:=V1.rR hi;have r1:=λ{R}=>@h1.pr R
 have r2:=h1.at' 0 _ rfl;rw[Zf5,R.k]at r2;have r3:=h1.all;have kk:=λ(z:AV)(K:AV->Option (AV×St))=>ahq V1.jw.kin R.m1 R.m2 z K
 have kf:(kd m).cells[7]? =some (.func f [] []):=by rw[<-e1];rfl
 simp only[di,oc,br,Zb9,Zf5,jN,vc,jc,aG,Zb1,Za4,Jc.c4,Jc.c5,aW,r1,r2,kk,aet,kf,wQ,r3,fC,NQ,gI,Ze0,Ze1,Zd7,e2,cL,aY,e3.2,az]
end
end
section
open Go Go.Ai Go.Proofs
def gOf(J:Jt)(p:Nat->Int):List Int:=(xR J.N ((List.range J.n).map p)).getD []
def alj(J:Jt)(r:Rl):RM:=match r.k.toNat with
 |1=>.two (rA J r) (rB J r) (ab8 J r)
 |2=>.two (rA J r) (rB J r) (ak6 J)
 |3=>.two (rA J r) (rB J r) (ak7 J)
 |4=>.two (rA J r) (rB J r) (afW J r)
 |5=>.two (rA J r) (rB J r) (ak8 J)
 |6=>.one (rA J r) (atP J r)
 |7=>.one (rA J r) (afX J r)
 |8=> .Pv (qU J r (aaR J))
 |9=>.iY (Wp J r)
 |10=>.qy (ady J r)
 |11=>.spk λp=>Go.Ai.cnt J.n λa=>on p a&&Ld J r (gOf J p) a (p a)
 |12=> .Pv (qU J r (Lb J))
 |13=> .Pv (R5 J r)
 |14=> .Pv (qU J r (Wn J))
 |15=>.fil (Wp J r) r.n.toNat
 |16=>.lim (Wp J r) r.n.toNat
 |17=>.qy (adz J r)
 |18=> .Pv (qU J r (aaS J))
 |_=>.qy λ_ _=>false
section
variable{J:Jt}{q g:List Int}{r:Rl}{m:Nat}
theorem asH(pI:q.length=J.n):(List.range J.n).map (qF q)=q:=by
 apply Zi3;intro i;rw[Zb7];by_cases hi:i<J.n
 .rw[Zh6 hi,Zd9];have h2:i<q.length:=(by omega);rw[H0 h2,nH (H0 h2)]
 .rw[Zc2 (by simpa using hi),Zc2 (by omega)];rfl
theorem at7(pI:q.length=J.n)(hg:xR J.N q=some g):gOf J (qF q)=g:=by unfold gOf;rw[asH pI,hg];rfl
theorem alk(pI:q.length=J.n)(r:Rl)(D:List Int->List Ev):bX (u9 J q r D) J.p.ts.length 0=aaK (jT J) (qF q) (jT J).T (Wp J r) D:=by
 have e:u9 J q r D=λt=>if Wp J r t then D ((jT J).who (qF q) t)else []:=by funext t;unfold u9 wX JT.who;rw[pI];rfl
 rw[e];rfl
theorem aaX(pI:q.length=J.n)(hg:xR J.N q=some g)(R:ZK J.p r m):nM (mg J q g r)=(jT J).CZ (qF q) (alj J r):=by
 have hn:(jT J).n=q.length:=pI.symm;unfold mg alj;rw[R.k,Zd0];rcases B4 R.m1 R.m2 with rfl|rfl|rfl|rfl|rfl|rfl|rfl|rfl|rfl|rfl|rfl|rfl|rfl|rfl|rfl|rfl|rfl|rfl<;>simp only
 .exact Px _ _ _
 .exact Px _ _ _
 .exact Px _ _ _
 .exact Px _ _ _
 .exact Px _ _ _
 .exact ahb _ _
 .exact ahb _ _
 .rw[<-hn];exact Py _
 .rw[alk pI];exact asu _
 .rw[<-hn];exact adv _
 .rw[<-hn,adv];show Go.Ai.cnt _ _=Go.Ai.cnt _ _;rw[at7 pI hg];rfl
 .rw[<-hn];exact Py _
 .rw[<-hn];exact Py _
 .rw[<-hn];exact Py _
 .rw[alk pI];exact asv _ _
 .rw[alk pI];exact asw _ _
 .rw[<-hn];exact adv _
 .rw[<-hn];exact Py _
theorem aqe(P:Nat->Nat->Int->Int->Bool)(n:Nat):fu (ux (qF q) n P)<=n*(3*n):=
 Aq (λa=>Zb3 (Wm P a _ _) (Zl9 3 (by omega))) n 0
theorem aqf(hq:q.length<=100)(hn:J.n<=100)(hT:J.p.ts.length<=100)(R:ZK J.p r m)(pI:q.length=J.n):fu (mg J q g r)<=200000:=by
 have two:∀a b P,fu (vC (qF q) a b P)<=200000:=λa b P=>Zb3 (Gv _ _ _) (by simp)
 have one:∀a P,fu (FD (qF q) a P)<=200000:=λa P=>Zb3 (Gv _ _ _) (by simp)
 have Pv:∀P,fu (ux (qF q) q.length P)<=200000:=λP=>by have h1:=aqe (q:=q) P q.length;have h2:=Nat.mul_le_mul hq (Zl9 3 hq);omega
 have qy:∀P,fu (Bn (qF q) q.length P)<=200000:=λP=>by have h1:=Aq (f:=λg=>tU (on (qF q) g&&P g (qF q g)) 1 [(g:Int)]) (B:=2) (λa=>Zb3 (Gv _ _ _) (by simp)) q.length 0;unfold Bn;omega
 have tab:∀D:List Int->List Ev,(∀who:List Int,who.length<=J.n->fu (D who)<=2000)->fu (bX (u9 J q r D) J.p.ts.length 0)<=200000:=λD hD=>by
   have h1:=Aq (f:=u9 J q r D) (B:=2000) (λt=>by
    unfold u9;split
    .exact hD _ (by have:=R6 J q t q.length;omega)
    .exact Zi1 _) J.p.ts.length 0
   omega
 unfold mg;rw[R.k,Zd0];rcases B4 R.m1 R.m2 with rfl|rfl|rfl|rfl|rfl|rfl|rfl|rfl|rfl|rfl|rfl|rfl|rfl|rfl|rfl|rfl|rfl|rfl<;>simp only
 .exact two _ _ _
 .exact two _ _ _
 .exact two _ _ _
 .exact two _ _ _
 .exact two _ _ _
 .exact one _ _
 .exact one _ _
 .exact Pv _
 .exact tab _ (ahn _ hn)
 .exact qy _
 .exact qy _
 .exact Pv _
 .exact Pv _
 .exact Pv _
 .exact tab _ (aho _ (by have:=R.n (.inl rfl);omega) hn)
 .exact tab _ (ahp _ hn)
 .exact qy _
 .exact Pv _
end
variable{c:aj}
structure OkJ(J:Jt):Prop where
 rul:∀r∈J.p.rs,∃m,ZK J.p r m
 cls:J.p.cs.length=J.n\/J.p.cs.length=0
structure PO(J:Jt)(q:List Int):Prop where
 len:q.length=J.n
 see:∃g,xR J.N q=some g
def fJ(J:Jt)(q:List Int)(r:Rl):Nat:=(jT J).CZ (qF q) (alj J r)
section
variable{s:St}{vb jb:Pos}{j:Jc}{J:Jt}{P G:AV}{q g:List Int}
theorem asI(hc:bH c)(O:OkJ J)(V:Vw s vb jb j J P G q g)(hg:xR J.N q=some g){i:Nat}{r:Rl}(hi:J.p.rs[i]? =some r):c 41 [.ptr vb 0,.int .i64 (i:Int)] s=some (.int .i64 ((fJ J q r:Nat):Int),s):=by obtain⟨m,R⟩:=O.rul r (Zc1 hi);unfold fJ;rw[<-aaX V.ql hg R];exact ans hc V O.cls hi R
theorem look_ok(hc:bH c)(jw:JW s jb j J)(w0:Wf s)(pq:QS 1 s P (q.map bJ))(hq:PO J q):
   ∃g vb G s',xR J.N q=some g/\c 37 [.ptr jb 0,P] s=some (.ptr vb 0,s')/\Grew s s'/\Vw s' vb jb j J P G q g:=by
 obtain⟨g,hg⟩:=hq.see;have hn:J.n<=100:=jw.zC.gs;rcases asG hc jw w0 pq (by have:=hq.len;omega)with⟨h,_⟩|⟨g',vb,G,s',h1,h2,h3,h4,h5⟩
 . rcases h with h|h
   .exact absurd hq.len h
   .rw[hg]at h;cases h
 .exact⟨g',vb,G,s',h2,h3,h4,h5⟩
theorem ant(a:Pos)(o:Nat)(K:AV->St->Option (AV×St))(s:St):aq c (.bin .eql .ptr) [.ptr a o,.jf] s K=K (.bool false) s:=aS c K (λH n=>rfl) s
theorem aeH(hc:bH c)(O:OkJ J)(jw:JW s jb j J)(w0:Wf s)(pq:QS 1 s P (q.map bJ))(hq:PO J q){i:Nat}{r:Rl}(hi:J.p.rs[i]? =some r):
  c 12 [.ptr jb 0,P,.int .i64 (i:Int)] s=some (.int .i64 ((fJ J q r:Nat):Int),s):=by
 obtain⟨g,vb,G,s',hg,lk,gr,V⟩:=look_ok hc jw w0 pq hq;have f:=asI hc O V hg hi;have vc:=V.vc;have jc:=V.jw.nk;have ln:=λ(K:AV->St->Option (AV×St))=>V.jw.jx.lenB (c:=c) K s'
 rw[Za5]at ln;have gJ:=(Za1.1 hi).1;have d1:decide ((i:Int)<0)=false:=Za2 (by omega);have d2:decide ((J.p.rs.length:Int)<=(i:Int))=false:=Za2 (by omega);rw[PR hc 1 (r:=(.int .i64 ((fJ J q r:Nat):Int),s')),aF (Plain.int _ _) gr.keeps];rw[UJ];simp only[az,cY,lk,cL,ant,lM,dI,d1,pX,cE,aT,Zb9,aY,vc,jc,aG,Zb1,Za4,Jc.c4,aW,ln,ajJ,d2,dQ,f]
end
section
variable{s:St}{vb jb:Pos}{j:Jc}{J:Jt}{P G:AV}{q g:List Int}
end
def Ba(x:Int)(n:Nat):Nat:=(x % (n:Int)).toNat
theorem aqg(x:Int){n:Nat}(h:0<n):Ba x n<n:=by have h1:=Zs2 x (show(n:Int)≠0 by omega);have h2:=Zq9 x (show(0:Int)<(n:Int)by omega);unfold Ba;omega
theorem asJ(hc:bH c)(x:Int){n:Nat}(h:0<n)(hn:n<=1000000)(s:St):c 24 [.int .i64 x,.int .i64 (n:Int)] s=some (.int .i64 ((Ba x n:Nat):Int),s):=by
 have h1:=Zs2 x (show(n:Int)≠0 by omega);have h2:=Zq9 x (show(0:Int)<(n:Int)by omega);have e:((Ba x n:Nat):Int)=x % (n:Int):=by unfold Ba;omega
 have rm:=λ(K:AV->St->Option (AV×St))(s:St)=>adp c K s .num .i64 x (n:Int) (by omega)
 have t:=Int.tmod_eq_emod (a:=x) (b:=(n:Int));rw[UK hc 1 (r:=(.int .i64 ((Ba x n:Nat):Int),s)),aF (Plain.int _ _) (aX.refl s)];rw[YW,e];by_cases hd:0<=x\/(n:Int) ∣ x
 .rw[Zb4 hd]at t;have t:x.tmod (n:Int)=x % (n:Int):=(by rw[t];exact Int.sub_zero _);have d:decide (x % (n:Int)<0)=false:=Za2 (by omega);simp[-gQ,rm,t,dw,d]
 .rw[Za6 hd]at t;have t:x.tmod (n:Int)=x % (n:Int) - (n:Int):=(by rw[t,Int.natAbs_natCast]);have d:decide (x % (n:Int) - (n:Int)<0)=true:=Za0 (by omega);have w:ax .i64 (x % (n:Int))=x % (n:Int):=wrap64 (by omega) (by omega);simp[-gQ,rm,t,dw,d,w]
abbrev ud(tk:List Bool):List AV:=tk.map AV.bool
theorem aqh{tb:Pos}{tk:List Bool}(hl:tk.length<=1000000){fr:Nat}(hf:fr<=1000000){s:St}(ht:s.heap.get tb=some (.cells (ud tk) 0))(F:Nat):∀(m k f:Nat),k+m=tk.length->m<f->∀k1 k2:Q2,
  lU c F k1 k2 f [.slice tb 0 tk.length (some tk.length) 1,.int .i64 (fr:Int),.int .i64 (k:Int)] s=
    match qz tk fr m k with
    |some i=>k1 [.int .i64 (i:Int)] (bg s tb (.cells (ud (tk.set i true)) 0))
    |none=>k2 [] s:=by
 intro m;induction m with
 |zero=>
  intro k f hk hf k1 k2;obtain⟨f,rfl⟩:∃g,f=g+1:=⟨f - 1,by omega⟩
  obtain rfl:k=tk.length:=by omega
  rw[rI];simp[kX,qz]
 |succ m ih=>
  intro k f hk hf k1 k2;obtain⟨f,rfl⟩:∃g,f=g+1:=⟨f - 1,by omega⟩
  have iO:k<tk.length:=by omega
  have aV:decide ((k:Int)<(tk.length:Int))=true:=Za0 (by omega);have w1:ax .i64 ((fr:Int)+(k:Int))=((fr+k:Nat):Int):=by rw[wrap64 (by omega) (by omega)];omega
  have wr:ax .i64 ((k:Int)+1)=((k+1:Nat):Int):=by rw[wrap64 (by omega) (by omega)];omega
  have hi:(fr+k) % tk.length<tk.length:=Zk8 _ (by omega);have rm:∀(K:AV->St->Option (AV×St))(s:St),aq c (.bin .rem .num) [.int .i64 ((fr+k:Nat):Int),.int .i64 (tk.length:Int)] s K=K (.int .i64 (((fr+k) % tk.length:Nat):Int)) s:=λK s=>by
    rw[cV (by omega) (by omega),Zp2]
  generalize hm:(fr+k) % tk.length=i at*
  have ix:=λ(K:AV->St->Option (AV×St))(s1:St)=>iR c K s1 (b:=tb) (off:=0) (len:=tk.length) (es:=1) (es':=1) (cap:=some tk.length) (k:= .i64) (i:=i) hi
  simp only[Zb9,Zn8]at ix;have ec:(ud tk)[i]? =some (.bool tk[i]):=by rw[Zb7,H0 hi];rfl
  have eg:tk.getD i true=tk[i]:=by rw[Za8,H0 hi];rfl
  unfold qz;rw[hm,eg];cases hb:tk[i]
  . (rw[hb]at ec;have pt:=λ(K:AV->St->Option (AV×St))=>Ks (c:=c) K ht (o:=i) (by rw[Za5];exact hi) (v:= .bool true) rfl rfl);rw[show(ud tk).set i (.bool true)=ud (tk.set i true)from(Zq2).symm]at pt;rw[Zb4 rfl,rI];simp only[aL,bu,az,kX,dI,aV,eo,gC,w1,rm,ix,aY,ht,aG,Zb1,ec,aW,Fw,Zl3,pt]
  .rw[hb]at ec;rw[Za6 (by simp), <-ih (k+1) f (by omega) (by omega) k1 k2,rI];simp only[aL,bu,az,kX,dI,aV,eo,dQ,gC,w1,rm,ix,aY,ht,aG,Zb1,ec,aW,Fw,Zj6,wr]
theorem anu{a b:List Bool}(h:ud a=ud b):a=b:=by
 induction a generalizing b with
 |nil=>cases b with|nil=>rfl|cons y b=>simp at h
 |cons x a ih=>
  cases b with
  |nil=>simp at h
  |cons y b=>
   simp only[Zd3,Zf9,AV.bool.injEq]at h;rw[h.1,ih h.2]
theorem anv(hc:bH c){tb:Pos}{tk:List Bool}(hl:tk.length<=1000000){fr:Nat}(hf:fr<=1000000){s:St}(ht:s.heap.get tb=some (.cells (ud tk) 0)):
  c 36 [.slice tb 0 tk.length (some tk.length) 1,.int .i64 (fr:Int)] s=some (.int .i64 (qC tk fr).2,bg s tb (.cells (ud (qC tk fr).1) 0)):=by
 have lp:=λ(k1 k2:Q2)=>aqh (c:=c) hl hf ht (tk.length+1) tk.length 0 (tk.length+1) (by omega) (by omega) k1 k2
 simp only[show((0:Nat):Int)=0 from rfl]at lp;unfold qC;cases EF:qz tk fr tk.length 0 with
 |none=>
  simp only[EF]at lp ⊢;rw[ahd ht];rw[Au hc (tk.length+1) (r:=(.int .i64 (-1),s)),aF (Plain.int _ _) (aX.refl s)];rw[C9];simp[lp]
 |some i=>
  simp only[EF]at lp ⊢;have hb:=H8 EF;have ne:tk.set i true≠tk:=λe=>by have h2:(tk.set i true)[i]? =some true:=(by rw[Zf3 (Za1.1 hb).1]);rw[e,hb]at h2;cases h2
  rw[Au hc (tk.length+1) (r:=(.int .i64 (i:Int),bg s tb (.cells (ud (tk.set i true)) 0))),ado ht (by rw[bG];intro e;simp only[H5,AB.cells.injEq,Zn5]at e;exact ne (anu e))];rw[C9];simp[lp]
def alm(p:cr):Prop:=∀t∈p.ts,nI t.sh t.a t.b=bw t/\(0<=t.a/\t.a<=1000000)/\0<=t.b/\t.b<=1000000
section
variable{st sB s:St}{Vs:List AV}{p:cr}
theorem PS.rT(h:PS st s Vs p):∃V1 V2 r1 r2,Vs[0]? =some V1/\Vs[1]? =some V2/\TS st s V1 p.ts r1/\GS st s V2 p.gs r2/\Vs.length=5:=by
 obtain⟨V1,V2,V3,V4,V5,r1,r2,rfl,h1,h2,_⟩:=h.all;exact⟨V1,V2,r1,r2,rfl,rfl,h1,h2,rfl⟩
theorem TS.KY{V:AV}{ts:List aB}{rows:List (List AV)}(h:TS st s V ts rows){t:Nat}{T:aB}(ht:ts[t]? =some T):∃v b o,Rd s 7 V t b o (T.av v):=by
 have hl:t<rows.length:=by rw[h.len];exact(Za1.1 ht).1
 obtain⟨v,e,_⟩:=h.dY t T rows[t] ht (H0 hl);obtain⟨b,o,h4⟩:=h.out.own.rd h.out.row (H0 hl);exact⟨v,b,o,by rw[<-e];exact h4⟩
theorem aln(hc:bH c)(hz:alm p)(um:p.ts.length<=100){pb:Pos}{V1:AV}{cs:List AV}{r1:List (List AV)}(hw:Wf s)(hp:s.heap.get pb=some (.cells cs 0))(h0:cs[0]? =some V1)(T:TS st s V1 p.ts r1)(F:Nat):∀(m k f:Nat),k+m=p.ts.length->m<f->∀k2:Q2,
  jY c F k2 f [.ptr pb 0,.int .i64 (aU (p.ts.take k)),.int .i64 (k:Int)] s=k2 [.int .i64 (aU p.ts)] s:=by
 have ln:=λ(K:AV->St->Option (AV×St))=>T.out.own.lenB (c:=c) K s
 rw[T.len]at ln;intro m;induction m with
 |zero=>
  intro k f hk hf k2;obtain⟨f,rfl⟩:∃g,f=g+1:=⟨f - 1,by omega⟩
  obtain rfl:k=p.ts.length:=by omega
  rw[xS,Zh7];simp[hp,h0,ln]
 |succ m ih=>
  intro k f hk hf k2;obtain⟨f,rfl⟩:∃g,f=g+1:=⟨f - 1,by omega⟩
  have iO:k<p.ts.length:=by omega
  have hi:=H0 iO;obtain⟨v,b,o,h1⟩:=T.KY hi;have z:=hz _ (Zb8 iO);have sz:=We p.ts[k];have sn:=KZ p.ts[k];have et:aU (p.ts.take (k+1))=aU (p.ts.take k)+bw p.ts[k]:=(Sf iO).1;generalize p.ts[k]=t at*
  have r1:=λ{R}=>@h1.st R
  have r2:=h1.all;have sl:=Lg hc (l:=t.av v) (sh:=t.sh) (a:=t.a) (b:=t.b) rfl rfl rfl z.2.1 z.2.2 s hw;rw[z.1]at sl;have n1:=om (p.ts.take k);rw[Zg7]at n1;have aV:decide ((k:Int)<(p.ts.length:Int))=true:=Za0 (by omega);have w1:ax .i64 (aU (p.ts.take k)+bw t)=aU (p.ts.take k)+bw t:=wrap64 (by omega) (by omega);have wr:ax .i64 ((k:Int)+1)=((k+1:Nat):Int):=by rw[wrap64 (by omega) (by omega)];omega
  rw[<-ih (k+1) f (by omega) (by omega) k2,xS,et];simp only[aL,bu,az,aT,Zb9,aY,hp,aG,Zb1,h0,aW,ln,dI,aV,eo,r1,gW,r2,fC,cY,sl,cL,gC,w1,wr]
theorem alo(hc:bH c)(h:PS st s Vs p)(hz:alm p)(um:p.ts.length<=100):c 35 [.agg Vs] s=some (.int .i64 (aU p.ts),s):=by
 have hw:=h.ai.wf;have gN:=Grew.ah hw (.cells Vs 0);obtain⟨V1,V2,r1,r2,e1,_,T,_,_⟩:=(h.Yn gN).rT;have lp:=λ(k2:Q2)=>aln (c:=c) hc hz um gN.wf (aA s (.cells Vs 0)) e1 T (p.ts.length+1) p.ts.length 0 (p.ts.length+1) (by omega) (by omega) k2
 simp only[Zm8,show aU ([]:List aB)=0 from rfl,show((0:Nat):Int)=0 from rfl]at lp;rw[Lh hc (p.ts.length+1) (r:=(.int .i64 (aU p.ts),ah s (.cells Vs 0))),aF (Plain.int _ _) gN.keeps];rw[N6];simp only[dy,show ∀l,AV.cells (.agg l)=l from λl=>rfl,az,lp,aL,bu]
def IA(ch:Nat->Ch):Nat->Nat->List Ch
 |0,_=>[]
 |m+1,k=>ch k::IA ch m (k+1)
structure ZL(sB s:St)(tb:Pos)(tk:List Bool)(v:AV)(R:List Int):Prop where
 Wu:Mk 1 sB s v (R.map bJ)
 tkn:s.heap.get tb=some (.cells (ud tk) 0)
 ge:sB.next.toNat<=tb.toNat
 ap:∀b,aK v=some b->tb.toNat+1<=b.toNat
theorem ZL.set{tb:Pos}{tk uA:List Bool}{v:AV}{R:List Int}(h:ZL sB s tb tk v R):ZL sB (bg s tb (.cells (ud uA) 0)) tb uA v R:=by
 have aV:=h.Wu.ai.wf _ _ h.tkn;have g:=vF h.Wu.jk h.Wu.ai h.ge aV (.cells (ud uA) 0);exact⟨h.Wu.qO g λb x hb hx=>by rw[aH (λe=>by have:=h.ap b hb;rw[<-e]at this;omega)];exact hx,bG _ _ _,h.ge,h.ap⟩
theorem ZL.push{tb:Pos}{tk:List Bool}{v:AV}{R:List Int}(h:ZL sB s tb tk v R)(hR:R.length<=1000)(x:Int):∃s5 v',(∀(K:AV->St->Option (AV×St)),aq c (.buildSlice 1 1 [.int .i64 0] [0]) [.int .i64 x] s (λy t=>aq c (.append 1 8) [v,y] t K)=K v' s5)/\ZL sB s5 tb tk v' (R++[x]):=by have aV:=h.Wu.ai.wf _ _ h.tkn;obtain⟨s5,v5,a1,a2,a3,a4⟩:=h.Wu.push (R:=AV×St) (c:=c) (bytes:=8) (z:=[.int .i64 0]) (x:= .int .i64 x) rfl rfl rfl (by omega) (by rw[Za5];omega) (by rw[Za5];omega);refine⟨s5,v5,a1,⟨by rw[Zc8];exact a2,a3 tb _ (λe=>by have:=h.ap tb e;omega) h.tkn,h.ge,λb hb=> ?_⟩⟩;have:=a4 b hb;omega
def Wv(N:Nat)(xs:List Int)(g:Nat):Ch:=match xs[g]? with
 |some x=>if Ba x (N+1)=N then .no else .fr (Ba x (N+1))
 |none=>.no
theorem anw(hc:bH c){pb tb:Pos}{cs:List AV}{V2:AV}{r2:List (List AV)}(hp:sB.heap.get pb=some (.cells cs 0))(h1:cs[1]? =some V2)(T:GS st sB V2 p.gs r2){N:Nat}(hN:N<=100000)(hgs:p.gs.length<=100)(z:Bool)(xs:List Int)(hx:xs.length<=9223372036854775807)(F:Nat):
  ∀ (m k f:Nat)(s:St)(tk:List Bool)(v:AV)(R:List Int),k+m=p.gs.length->m<f->ZL sB s tb tk v R->tk.length=N->R.length=k->∃s' v' uA,ZL sB s' tb uA v' (R++gY tk (IA (Wv N xs) m k))/\
    ∀k2:Q2,fc c F k2 f [ints z xs,.ptr pb 0,.int .i64 (N:Int),.slice tb 0 N (some N) 1,v,.int .i64 (k:Int)] s=k2 [v'] s':=by
 intro m;induction m with
 |zero=>
  intro k f s tk v R hk hf hS hl hR;obtain⟨f,rfl⟩:∃g,f=g+1:=⟨f - 1,by omega⟩
  obtain rfl:k=p.gs.length:=by omega
  have ke:=hS.Wu.ai.get hp;have T1:=T.ai hS.Wu.ai;have ln:=λ(K:AV->St->Option (AV×St))=>T1.out.own.lenB (c:=c) K s
  rw[T1.len]at ln;refine⟨s,v,tk,by simpa [IA,gY]using hS,λk2=> ?_⟩;rw[mO];simp[ke,h1,ln]
 |succ m ih=>
  intro k f s tk v R hk hf hS hl hR;obtain⟨f,rfl⟩:∃g,f=g+1:=⟨f - 1,by omega⟩
  have iO:k<p.gs.length:=by omega
  have ke:=hS.Wu.ai.get hp;have T1:=T.ai hS.Wu.ai;have ln:=λ(K:AV->St->Option (AV×St))=>T1.out.own.lenB (c:=c) K s
  rw[T1.len]at ln;have aV:decide ((k:Int)<(p.gs.length:Int))=true:=Za0 (by omega);have wr:ax .i64 ((k:Int)+1)=((k+1:Nat):Int):=by rw[wrap64 (by omega) (by omega)];omega
  have wN:ax .i64 ((N:Int)+1)=((N+1:Nat):Int):=by rw[wrap64 (by omega) (by omega)];omega
  obtain⟨s5,v5,a1,a2⟩:=hS.push (c:=c) (by omega) (-1)
  have no:Wv N xs k= .no->(∀k2:Q2,fc c F k2 (f+1) [ints z xs,.ptr pb 0,.int .i64 (N:Int),.slice tb 0 N (some N) 1,v,.int .i64 (k:Int)] s=fc c F k2 f [ints z xs,.ptr pb 0,.int .i64 (N:Int),.slice tb 0 N (some N) 1,v5,.int .i64 ((k+1:Nat):Int)] s5)->
        ∃s' v' uA,ZL sB s' tb uA v' (R++gY tk (IA (Wv N xs) (m+1) k))/\∀k2:Q2,fc c F k2 (f+1) [ints z xs,.ptr pb 0,.int .i64 (N:Int),.slice tb 0 N (some N) 1,v,.int .i64 (k:Int)] s=k2 [v'] s':=λhch iY=>by
    obtain⟨s',v',uA,z1,z2⟩:=ih (k+1) f s5 tk v5 (R++[-1]) (by omega) (by omega) a2 hl (by simp[hR]);refine⟨s',v',uA,?_,λk2=>by rw[iY,z2]⟩;rw[IA,hch,gY];simpa using z1
  by_cases Li:k<xs.length
  . have hlx:decide ((k:Int)<(xs.length:Int))=true:=Za0 (by omega);have pk:=asJ hc xs[k] (n:=N+1) (by omega) (by omega) s;have plt:=aqg xs[k] (n:=N+1) (by omega);simp only[show((N+1:Nat):Int)=(N:Int)+1 by omega]at pk wN;have ech:Wv N xs k=if Ba xs[k] (N+1)=N then .no else .fr (Ba xs[k] (N+1)):=by unfold Wv;rw[H0 Li]
    have at':=ahr xs k Li;by_cases hpn:Ba xs[k] (N+1)=N
    .   rw[Zb4 hpn]at ech;(refine no ech λk2=> ?_);rw[hpn]at pk;rw[mO];unfold ints at*
        simp[-au,dw,ke,h1,ln,aV,iO,Li,at',wN,pk,a1,wr]
    .   rw[Za6 hpn]at ech;generalize Ba xs[k] (N+1)=fr at*
        have dn:decide ((fr:Int)=(N:Int))=false:=Za2 (by omega);have pl:=anv hc (tk:=tk) (tb:=tb) (by omega) (fr:=fr) (by omega) hS.tkn;rw[hl]at pl;obtain⟨s6,v6,b1,b2⟩:=(hS.set (uA:=(qC tk fr).1)).push (c:=c) (by omega) (qC tk fr).2;obtain⟨s',v',uA,z1,z2⟩:=ih (k+1) f s6 _ v6 _ (by omega) (by omega) b2 (by rw[am9];exact hl) (by simp[hR]);refine⟨s',v',uA,?_,λk2=> ?_⟩
        .rw[IA,ech,gY];simpa using z1
        . rw[<-z2 k2,mO];unfold ints at*
          simp[-au,dw,ke,h1,ln,aV,iO,Li,at',wN,pk,dn,pl,b1,wr]
  . have hlx:decide ((k:Int)<(xs.length:Int))=false:=Za2 (by omega);(refine no (by unfold Wv;rw[Zc2 (by omega)]) λk2=> ?_);rw[mO];unfold ints at*
    simp[-au,dw,ke,h1,ln,aV,iO,Li,a1,wr]
theorem anx(N:Nat):List.replicate N (AV.bool false)=ud (List.replicate N false):=List.map_replicate.symm
theorem anz(hc:bH c)(h:PS st s Vs p)(hz:alm p)(um:p.ts.length<=100)(hgs:p.gs.length<=100){N:Nat}(hN:(N:Int)=aU p.ts)(z:Bool)(xs:List Int)(hx:xs.length<=9223372036854775807):
  ∃s' v,c 10 [.agg Vs,ints z xs] s=some (v,s')/\Mk 1 s s' v ((gY (List.replicate N false) (IA (Wv N xs) p.gs.length 0)).map bJ):=by
 have hw:=h.ai.wf;have gN:=Grew.ah hw (.cells Vs 0);have h1:=h.Yn gN;obtain⟨V1,V2,r1,r2,e1,e2,T,T2,e5⟩:=h1.rT;have so:=alo hc h1 hz um;rw[<-hN]at so;have hN1:N<=100000:=by have:=(om p.ts).2;omega
 have hcut:cut Vs 0 5=some Vs:=cQ e5;have mk:=λ(K:AV->St->Option (AV×St))=>adq c K (ah s (.cells Vs 0)) (es:=1) (bytes:=1) (z:=[.bool false]) (k:= .i64) (k':= .i64) (n:=N) (by omega) (by omega)
 rw[CS,anx]at mk;have gT:=Grew.ah gN.wf (.cells (ud (List.replicate N false)) 0);have S0:ZL (ah s (.cells Vs 0)) (ah (ah s (.cells Vs 0)) (.cells (ud (List.replicate N false)) 0)) (ah s (.cells Vs 0)).next (List.replicate N false) .af []:=
  ⟨Mk.start gN.wf gT,aA _ _,Za3 _,λb e=>(nomatch e)⟩
 obtain⟨s',v',uA,z1,z2⟩:=anw (c:=c) hc (aA s (.cells Vs 0)) e2 T2 hN1 hgs z xs hx (p.gs.length+1) p.gs.length 0 (p.gs.length+1) _ _ _ [] (by omega) (by omega) S0 (by simp) rfl;have M:=z1.Wu.back hw gN;rw[Ze0]at M;obtain⟨s3,t1,t2⟩:=M.tidy;refine⟨s3,v',?_,t2⟩;simp only[show((0:Nat):Int)=0 from rfl]at z2;rw[Mz hc (p.gs.length+1) (r:=(v',s')),t1];rw[PT];simp only[dy,show ∀l,AV.cells (.agg l)=l from λl=>rfl,az,gW,aA,aG,Zb1,hcut,fC,cY,so,cL,mk,z2,aL,bu]
end
theorem aj0(ch:Nat->Ch):∀(m k i:Nat),(IA ch m k)[i]? =if i<m then some (ch (k+i))else none
 |0,k,i=>by simp[IA]
 |m+1,k,0=>by simp[IA]
 |m+1,k,i+1=>by
  rw[IA,Zb6,aj0 ch m (k+1) i];by_cases h:i<m
  .rw[Zb4 h,Zb4 (by omega)];congr 2;omega
  .rw[Za6 h,Za6 (by omega)]
theorem aj1(ch:Nat->Ch):∀(m k:Nat),(IA ch m k).length=m
 |0,k=>rfl
 |m+1,k=>by rw[IA,Zc9,aj1 ch m (k+1)]
theorem ahs{N:Nat}:∀(q:List Int)(i:Nat)(g:List Int),(∀x∈q,-1<=x/\x<(N:Int))->(∀x∈q,0<=x->g.getD x.toNat (-1)<0)->(∀(a b:Nat)(x:Int),a<b->q[a]? =some x->q[b]? =some x->x<0)->∃g',C8 N q i g=some g'
 |[],i,g,_,_,_=>⟨g,rfl⟩
 |x ::q,i,g,h1,h2,h3=>by
  have a1:=h1 x (Zd6);have a2:=h2 x (Zd6);unfold C8;rw[Za6 (by omega)];refine ahs q (i+1) _ (λy hy=>h1 y (Zb0 _ hy)) (λy hy h0=> ?_) (λa b y Ww ha hb=>h3 (a+1) (b+1) y (by omega) (by simpa using ha) (by simpa using hb));have b1:=h2 y (Zb0 _ hy) h0;split
  . rename_i hx;by_cases e:x.toNat=y.toNat
    .   obtain⟨b,hb⟩:=Zf1.1 hy;have:=h3 0 (b+1) x (by omega) rfl (by rw[Zb6,hb];congr 1;omega);omega
    .   rw[Za8,Ze4 e, <-Za8];exact b1
  .exact b1
theorem anA{J:Jt}{q:List Int}(hl:q.length=J.n)(h1:∀x∈q,-1<=x/\x<(J.N:Int))(h3:∀(a b:Nat)(x:Int),a<b->q[a]? =some x->q[b]? =some x->x<0):PO J q:=
 ⟨hl,ahs q 0 _ h1 (λx hx h0=>by
  have:=h1 x hx;rw[Za8];by_cases h:x.toNat<J.N
  .rw[Zm0,Zb4 h];decide
  .omega) h3⟩
theorem asK{J:Jt}{tk:List Bool}{l:List Ch}(hs:Sat tk l)(hl:l.length=J.n)(ht:tk.length=J.N):PO J (gY tk l):=by
 refine anA (by rw[RP];exact hl) (λx hx=> ?_) (λa b x Ww ha hb=> ?_)
 . obtain⟨i,hi⟩:=Zf1.1 hx;rcases B5 l tk hs i x hi with rfl|⟨s,rfl,h|h⟩
   .omega
   .have:=(Za1.1 h).1;omega
   .have:=(Za1.1 h.1).1;omega
 .have:=J6 l tk hs a b x Ww ha hb;omega
theorem anB{J:Jt}{n:Nat}(hn:n=J.n)(xs:List Int):PO J (gY (List.replicate J.N false) (IA (Wv J.N xs) n 0)):=by
 have no:∀s,Ch.Wc s∉IA (Wv J.N xs) n 0:=λs h=>by
  obtain⟨i,hi⟩:=Zf1.1 h;rw[aj0]at hi;split at hi
  . simp only[H5]at hi;unfold Wv at hi;split at hi
    .split at hi<;>cases hi
    .cases hi
  .cases hi
 exact asK ⟨λs h=>absurd h (no s),λi j s h _=>absurd (Zc1 h) (no s)⟩ (by rw[aj1];exact hn) (by simp)
theorem PO.ok{J:Jt}{q:List Int}(h:PO J q):∀x∈q,-1<=x/\x<(J.N:Int):=by obtain⟨g,hg⟩:=h.see;exact(PN hg).1
theorem aeI{N:Nat}:∀(q:List Int)(i:Nat)(g g':List Int),C8 N q i g=some g'->g.length=N->(∀x∈q,0<=x->g.getD x.toNat (-1)<0)/\∀(a b:Nat)(x:Int),a<b->q[a]? =some x->q[b]? =some x->x<0
 |[],i,g,g',_,_=>⟨λx hx=>(nomatch hx),λa b x _ ha _=>by simp at ha⟩
 |x ::q   ,i,g,g',h,hl=>by
  unfold C8 at h;by_cases hc:x< -1\/(N:Int)<=x\/(0<=x/\0<=g.getD x.toNat (-1))
  .rw[Zb4 hc]at h;cases h
  rw[Za6 hc]at h;obtain⟨h1,h2⟩:=aeI q (i+1) _ g' h (by split<;>simp[hl]);have key:∀y∈q,0<=y->g.getD y.toNat (-1)<0/\(0<=x->y≠x):=λy hy h0=>by
    have k1:=h1 y hy h0;by_cases hx:0<=x
    .   rw[Zb4 hx]at k1;by_cases e:x.toNat=y.toNat
        .rw[<-e,Za8,Zf3 (by omega)]at k1;simp at k1;omega
        .rw[Za8,Ze4 e, <-Za8]at k1;exact⟨k1,λ_ h=>e (by rw[h])⟩
    .   rw[Za6 hx]at k1;exact⟨k1,λh=>absurd h hx⟩
  refine⟨λy hy h0=> ?_,λa b y Ww ha hb=> ?_⟩
  . rcases Za9.1 hy with rfl|hy
    .   omega
    .   exact(key y hy h0).1
  . cases a with
    |   zero=>
        obtain⟨b,rfl⟩:∃b',b=b'+1:=⟨b - 1,by omega⟩
        simp at ha hb;subst ha;by_cases h0:0<=x
        .exact absurd rfl ((key x (Zc1 hb) h0).2 h0)
        .omega
    |   succ a=>
        obtain⟨b,rfl⟩:∃b',b=b'+1:=⟨b - 1,by omega⟩
        exact h2 a b y (by omega) (by simpa using ha) (by simpa using hb)
theorem PO.apart{J:Jt}{q:List Int}(h:PO J q):∀(a b:Nat)(x:Int),a<b->q[a]? =some x->q[b]? =some x->x<0:=by obtain⟨g,hg⟩:=h.see;exact(aeI q 0 _ g hg (by simp)).2
theorem acg(i:Nat):∀x∈bP i,x<256:=λx hx=>by simp only[bP,Za9,Zc3,Zf0]at hx;omega
theorem aaY(p:Prop)[Decidable p](i:Nat):∀x∈(if p then bP i else []),x<256:=by
 split
 .exact acg i
 .intro x hx;cases hx
theorem aqi(i x:Nat):(yF i x).Real where
 name:=acg _
 zQ:=aaY (x % 2=1) _
 kj:=aaY (4<x % 8) _
 nD:=aaY (x % 3=2) _
 tg:=Zb3 (arP x).2 (by decide)
theorem Wx(i x:Nat):(j8 i x).kA.length<=16:=by have h1:=aht x (tN x);have h2:=ach x;show((Da x (tN x)).map λ(k:Nat)=>(k:Int)).length<=16;rw[Za5];omega
theorem yG(xt xg xy xr:List Nat):(mP xt xg xy xr).Gw where
 ts:=by show(rJ xt _).length<=100;rw[Sg];omega
 gs:=by have:=GH (uB xt xg);show(fX _).length<=100;omega
 ys:=by have:=(aeJ (uB xt xg) xy).1;show(Db _ _).length<=100;omega
 cs:=by
  have:=GH (uB xt xg);show(nQ xt xg xy).length<=100;unfold nQ;split
  .rw[Lj];show(fX _).length<=100;omega
  .exact Zi1 _
 rs:=by have:=Si (nR xt) (nS xt xg) xr (min xr.length 12);show(Br _ _ _ _).length<=100;omega
 ok t ht:=by
  obtain⟨i,x,rfl⟩:=Sj ht;have:=Wx i x;exact⟨by show(fy i).length<wD;unfold fy wD;simp,by unfold wD;omega⟩
theorem anC(xt xg xy xr:List Nat):(mP xt xg xy xr).Real where
 ts:=by have:=(yG xt xg xy xr).ts;omega
 tab t ht:=by obtain⟨i,x,rfl⟩:=Sj ht;have:=Wx i x;refine⟨λy hy=> ?_,Zb3 this (by decide)⟩;have hy:y∈fy i:=hy;simp only[fy,Za9,Zc3,Zf0]at hy;omega
 gs:=by have:=(yG xt xg xy xr).gs;omega
 qy g hg:=by obtain⟨i,hi⟩:=Zf1.1 hg;obtain⟨_,rfl⟩:=M9 (xs:=uB xt xg) hi;exact aqi _ _
 ys:=Zb3 (yG xt xg xy xr).ys (by decide)
 cs:=Zb3 (yG xt xg xy xr).cs (by decide)
 rs:=Zb3 (yG xt xg xy xr).rs (by decide)
theorem aua(ts:List aB)(gs:List aR)(x:Nat):(gZ ts gs x).1.k=((1+x % 18:Nat):Int):=by
 unfold gZ Sk
 repeat' split
 all_goals rfl
theorem alp{xt xg xy xr:List Nat}(hx:∀x∈xt,x<256):∀r∈(mP xt xg xy xr).rs,r.Ok/\ua (mP xt xg xy xr) r=0:=λr hr=>by obtain⟨x,h1,rfl⟩:=aaZ hr;refine⟨?_,anD (p:=mP xt xg xy xr) aeK Wy Wz (N7 hx) x h1⟩;have:=aua (nR xt) (nS xt xg) x;unfold Rl.Ok;omega
theorem anE{xt xg xy xr:List Nat}(hx:∀x∈xt,x<256):alm (mP xt xg xy xr):=λt ht=>by
 have h1:=N7 hx t ht;have h2:=ahu t ht;exact⟨h1.1.symm,h2.1,h2.2.1,h2.2.2⟩
theorem anF{xt xg xy xr:List Nat}(hx:∀x∈xt,x<256):((mP xt xg xy xr).gs.length:Int)<=aU (mP xt xg xy xr).ts:=by show((fX (uB xt xg)).length:Int)<=aU (rJ xt (min xt.length 3));unfold fX;rw[Ll,WA hx _ (by omega)];unfold uB;rw[Zg7];omega
structure Jg(s:St)(jb:Pos)(j:Jc)(J:Jt)(p:cr):Prop where
 jw:JW s jb j J
 ok:OkJ J
 sim:p.gD J.p
 fit:J.n<=J.N
 bc:J.iQ=WE J.p.gs
 kc:J.jL=aqj J.p.gs J.p.ys
theorem Jg.n{s:St}{jb:Pos}{j:Jc}{J:Jt}{p:cr}(h:Jg s jb j J p):J.n=p.gs.length:=h.sim.gl
theorem Jg.sum{s:St}{jb:Pos}{j:Jc}{J:Jt}{p:cr}(h:Jg s jb j J p):(J.N:Int)=aU p.ts:=by rw[h.jw.nN];exact h.sim.sum
theorem Jg.ai{s s':St}{jb:Pos}{j:Jc}{J:Jt}{p:cr}(h:Jg s jb j J p)(g:Grew s s'):Jg s' jb j J p:=⟨h.jw.ai g,h.ok,h.sim,h.fit,h.bc,h.kc⟩
theorem aeL{R:Type}{s:St}{b:Pos}{Vs:List AV}(h:s.heap.get b=some (.cells Vs 0))(hl:Vs.length=5)(K:AV->St->Option R):aq c (.load (some 5)) [.ptr b 0] s K=K (.agg Vs) s:=by rw[gW,h];simp only[aG,Zb1];rw[cQ hl];rfl
theorem Gw.aub{p p':cr}(S:p.gD p')(hr:∀r∈p.rs,r.Ok/\ua p r=0):∀r∈p'.rs,∃m,ZK p' r m:=λr h=>by
 rw[S.rs]at h;obtain⟨a,b⟩:=hr r h;exact at4 a (by rw[S.rule];exact b)
theorem afh{b:Pos}{o:Nat}{l:List AV}{t:Bool}(hi:∀u∈l,dP u):¬Plain (.tuple [.ptr b o,.agg l,.bool t]):=λh=>by
 obtain⟨N0,K0,h1⟩:=inst_list hi;obtain⟨xs,hx⟩:=h1 (max N0 (b.toNat+1)) K0 (by omega) (Za3 _);have e1:aC (λ_=>⟨0,0,K0⟩) (max N0 (b.toNat+1)) (λ_=>none) (.agg l) (.agg xs.toArray):= .agg l _ (by rw[hx.1];simp) λi v x hv wC=>hx.2 i v x hv (by simpa using wC)
 obtain⟨x0,e0⟩:∃x,aC (λ_=>⟨0,0,K0⟩) (max N0 (b.toNat+1)) (λ_=>none) (.ptr b o) x:=⟨_,.ptr b o (by omega)⟩
 obtain⟨x2,e2⟩:∃x,aC (λ_=>⟨0,0,K0⟩) (max N0 (b.toNat+1)) (λ_=>none) (.bool t) x:=⟨_,.bool t⟩
 have:=h _ (λ_=>⟨0,0,0⟩) _ 0 (λ_=>none) _ (.tuple _ #[x0,.agg xs.toArray,x2] rfl (λi v v' hv hx=>by
  match i with
  |0=>simp at hv hx;subst hv hx;exact e0
  |1=>simp at hv hx;subst hv hx;exact e1
  |2=>simp at hv hx;subst hv hx;exact e2
  |i+3=>simp at hv))
 cases this with
 |tuple _ _ _ h=>
  have:=h 0 _ x0 rfl rfl;cases this with
  |ptr _ _ h=>omega
theorem PS.inst{s0 s:St}{Vs:List AV}{p:cr}(h:PS s0 s Vs p):∀u∈Vs,dP u:=λu hu=>by
 obtain⟨V1,V2,V3,V4,V5,r1,r2,rfl,h1,h2,h3,h4,h5⟩:=h.all;simp only[Za9,Zc3,Zf0]at hu;rcases hu with rfl|rfl|rfl|rfl|rfl
 .exact h1.out.inst
 .exact h2.out.inst
 .exact h3.inst
 .exact h4.inst
 .exact h5.inst
theorem aqk(hc:bH c){xt xg xy xr:List Nat}(ht:∀x∈xt,x<256)(hg:∀x∈xg,x<65536)(hy:∀x∈xy,x<256)(hr:∀x∈xr,x<4294967296)(lt:xt.length<=9223372036854775807)(lg:xg.length<=9223372036854775807)(lr:xr.length<=9223372036854775807)(ly:xy.length<=9223372036854775807)
   (zt zg zy zr:Bool) (st:St) (hw:Wf st):∃Vs s' jb j J s0,c 9 [.agg (jE zt zg zy zr xt xg xy xr)] st=some (.tuple [.ptr jb 0,.agg Vs,.bool true],s')/\Grew st s'/\PS s0 s' Vs (mP xt xg xy xr)/\Jg s' jb j J (mP xt xg xy xr):=by
 have g1:=Grew.ah hw (.cells (jE zt zg zy zr xt xg xy xr) 0);have w1:=g1.wf;have gA:=Grew.ah w1 (.cells [.af,.af,.af,.af,.af] 0);have ld4:∀(K:AV->St->Option (AV×St)),aq c (.load (some 4)) [.ptr st.next 0] (ah (ah st (.cells (jE zt zg zy zr xt xg xy xr) 0)) (.cells [.af,.af,.af,.af,.af] 0)) K=K (.agg (jE zt zg zy zr xt xg xy xr)) (ah (ah st (.cells (jE zt zg zy zr xt xg xy xr) 0)) (.cells [.af,.af,.af,.af,.af] 0)):=λK=>by rw[gW,gA.get (aA st _)];rfl
 obtain⟨s2,tT⟩:∃s2,s2=ah (ah st (.cells (jE zt zg zy zr xt xg xy xr) 0)) (.cells [.af,.af,.af,.af,.af] 0):=⟨_,rfl⟩
 obtain⟨b3,hb3⟩:∃b3,b3=(ah st (.cells (jE zt zg zy zr xt xg xy xr) 0)).next:=⟨_,rfl⟩
 have h3:s2.heap.get b3=some (.cells [.af,.af,.af,.af,.af] 0):=by rw[tT,hb3];exact aA _ _
 have g2:Grew st s2:=by rw[tT];exact g1.trans gA
 have hb3n:st.next.toNat<=b3.toNat:=by rw[hb3];exact g1.next
 obtain⟨Vs,s3,M,P⟩:=asL hc ht hg hy hr lt lg lr ly zt zg zy zr s2 g2.wf;obtain⟨vl,vo⟩:=P.cells;have w3:=P.ai.wf;have gB:=Grew.ah w3 (.cells Vs 0);have st5:∀(K:AV->St->Option (AV×St)),aq c (.store 5) [.ptr s3.next 0,.agg Vs] (ah s3 (.cells [.af,.af,.af,.af,.af] 0)) K=K .undef (ah s3 (.cells Vs 0)):=λK=>cG c K s3 5 (.agg Vs) _ vl rfl vo
 have x5:=aA s3 (.cells Vs 0);obtain⟨s4,hs4⟩:∃s4,s4=ah s3 (.cells Vs 0):=⟨_,rfl⟩
 obtain⟨b5,hb5⟩:∃b5,b5=s3.next:=⟨_,rfl⟩
 rw[<-hs4]at st5 gB x5;rw[<-hb5]at st5 x5;have P4:=P.Yn gB;have mr:=alp (xg:=xg) (xy:=xy) (xr:=xr) ht;obtain⟨jb,s5,Us,p',N,iQ,jL,e5,P5,S,hN,JDd,h5,hjb,eB,eK⟩:=aql hc P4 (yG xt xg xy xr) (anC xt xg xy xr) (λr h=>(mr r h).1) (alq ht);have g5:=P5.ai;have x5':=g5.get x5;have alr:=(g2.trans P.ai).trans (gB.trans g5);have y3:=(P.ai.trans (gB.trans g5)).get h3;have als:=g2.wf _ _ h3;have ahv:=alr.wf _ _ y3;have n24:s2.next.toNat<=s4.next.toNat:=Zb3 P.ai.next gB.next;have gF:=vF hw alr hb3n ahv (.cells Vs 0);have keep:∀(q:Pos)(b:AB),s2.next.toNat<=q.toNat->s5.heap.get q=some b->(bg s5 b3 (.cells Vs 0)).heap.get q=some b:=λq b hq hb=>by rw[aH (λe=>by rw[<-e]at hq;omega)];exact hb
 have PU:=P5.qP hw ((g2.trans P.ai).trans gB) gF λq b hq hb=>keep q b (by omega) hb
 have PV:=P.qP hw g2 gF λq b hq hb=>keep q b hq ((gB.trans g5).get hb)
 have JDs:=JDd.mono hjb (s':=bg s5 b3 (.cells Vs 0)) λq b hq hb=>keep q b (by omega) hb
 obtain⟨j,jw,hj⟩:=JW.of JDs PU (S.zC (yG xt xg xy xr)) hN;have stF:∀(K:AV->St->Option (AV×St)),aq c (.store 5) [.ptr b3 0,.agg Vs] s5 K=K .undef (bg s5 b3 (.cells Vs 0)):=λK=>by
   (rw[bY c K s5 5 b3 0 (.agg Vs) _ y3 vl (by simp) vo];have:aQ [AV.af,.af,.af,.af,.af] 0 (AV.agg Vs).cells=Vs:=by unfold aQ;rw[show(AV.agg Vs).cells=Vs from rfl,vl];simp);rw[this]
 have hcut:cut Vs 0 5=some Vs:=cQ vl;have ep:∀(K:AV->Option (AV×St)),fq (.bin .neq .ptr) [.ptr jb 0,.jf] K=K (.bool true):=λK=>cZ K (λH n=>rfl)
 have nt:¬Plain (.tuple [.ptr jb 0,.agg Vs,.bool true]):=afh PV.inst;rw[<-tT]at ld4;have run:sS c 1 (.agg (jE zt zg zy zr xt xg xy xr)) st=some (.tuple [.ptr jb 0,.agg Vs,.bool true],bg s5 b3 (.cells Vs 0)):=by
   rw[Sl];simp only[dy,show ∀l,AV.cells (.agg l)=l from λl=>rfl,az,dB,ld4, <-tT, <-hb3,cY,M,cL, <-hs4, <-hb5,st5,aeL x5 vl,e5,jK,Za4,Zb6,aW,di,wQ,x5',aG,Zb1,hcut,fC,ep,adk,adm,Zg6,RD,stF,aaG,bG]
 refine⟨Vs,bg s5 b3 (.cells Vs 0),jb,j,⟨p',N,iQ,jL⟩,st,?_,gF,PV,⟨jw,⟨Gw.aub S mr,?_⟩,S,?_,eB,eK⟩⟩
 .rw[N9 hc 1 run];unfold tidy;rw[Za6 (λh=>nt h.1)]
 . show p'.cs.length=p'.gs.length\/p'.cs.length=0;rw[S.cs,S.gl];show(nQ xt xg xy).length=(nS xt xg).length\/(nQ xt xg xy).length=0;unfold nQ;split
   .rw[Lj];exact .inl rfl
   .exact .inr rfl
 .have h1:=anF (xg:=xg) (xy:=xy) (xr:=xr) ht;have h2:(N:Int)=aU (mP xt xg xy xr).ts:=(by rw[hN];exact S.sum);have h3:p'.gs.length=(mP xt xg xy xr).gs.length:=S.gl;show p'.gs.length<=N;omega
theorem ava(hc:bH c)(s:St):c 14 [] s=some (.bool true,s):=hc.at (s:=Yl) rfl rfl
end
end Go.Proofs.YtgihekklfnjkiaaGreatDoor
