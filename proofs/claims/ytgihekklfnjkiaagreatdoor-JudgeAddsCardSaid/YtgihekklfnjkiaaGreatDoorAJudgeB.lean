/- What a judge tells. -/
import Derived.Test.YtgihekklfnjkiaaGreatDoorAJudgeA
import Derived.Test.YtgihekklfnjkiaaGreatDoorAMade
set_option linter.all false
set_option maxRecDepth 100000
namespace Go.Proofs.YtgihekklfnjkiaaGreatDoor
section
open Go Go.Ai Go.Proofs
variable{c:aj}
theorem arA(hc:bu c){n:Int}(h0:0<=n)(h1:n<4294967296)(s:St):c 191 [.int .u64 1,.int .u64 n] s=some (.tuple [.int .u64 0,.int .u64 n],s):=by
 rw[Wx hc 1 (r:=(.tuple [.int .u64 0,.int .u64 n],s)),aE (Plain.tuple (by simp[Plain.int])) (aZ.refl s)];rw[aaA];have w0:av .u64 0=0:=Z6 (by omega) (by omega);have w1:av .u64 n=n:=Z6 (by omega) (by omega);simp[acg h0 h1,aci h0 h1,acg (n:=1) (by omega) (by omega),aci (a:=1) (by omega) (by omega),acg (n:=0) (by omega) (by omega),aci (a:=0) (by omega) (by omega),w0,w1]
theorem avu(hc:bu c){n:Int}(h0:0<=n)(h1:n<4294967296)(s:St):c 140 [.int .u64 1,.int .u64 n] s=some (.tuple [.int .u64 0,.int .u64 n],s):=by
 rw[aaB hc 1 (r:=(.tuple [.int .u64 0,.int .u64 n],s)),aE (Plain.tuple (by simp[Plain.int])) (aZ.refl s)];rw[adS];simp[arA hc h0 h1]
theorem aoS(N:Nat)(hN:N<=1000000)(b:Pos)(v:AV)(hv:v.one=true)(F:Nat):∀(m n f:Nat)(s:St),1<=n->n<=N->N - n<=m->m<f->s.heap.get b=some (.cells (List.replicate n v++List.replicate (N - n) (.int .i64 0)) 0)->
  ∀k2:Q2,jP c F k2 f [.slice b 0 N (some N) 1,.int .i64 (n:Int)] s=k2 [.slice b 0 N (some N) 1] (bn s b (.cells (List.replicate N v) 0)):=by
 intro m;induction m with
 |zero=>
  intro n f s h1 h2 h3 h4 h5 k2;obtain⟨f,rfl⟩:∃g,f=g+1:=⟨f - 1,by omega⟩
  obtain rfl:n=N:=by omega
  rw[lf];have e:bn s b (.cells (List.replicate n v) 0)=bn s b (.cells (List.replicate n v++List.replicate (n - n) (.int .i64 0)) 0):=by simp
  rw[e];have e2:bn s b (.cells (List.replicate n v++List.replicate (n - n) (.int .i64 0)) 0)=s:=aiI h5;rw[e2];simp[lK]
 |succ m ih=>
  intro n f s h1 h2 h3 h4 h5 k2;obtain⟨f,rfl⟩:∃g,f=g+1:=⟨f - 1,by omega⟩
  by_cases hn:n=N
  .subst hn;rw[lf];have e:bn s b (.cells (List.replicate n v) 0)=bn s b (.cells (List.replicate n v++List.replicate (n - n) (.int .i64 0)) 0):=(by simp);rw[e];have e2:bn s b (.cells (List.replicate n v++List.replicate (n - n) (.int .i64 0)) 0)=s:=aiI h5;rw[e2];simp[lK]
  . have aW:decide ((n:Int)<(N:Int))=true:=Za0 (by omega);have cp:=λ(K:AV->St->Option (AV×St))=>aiF (c:=c) (b:=b) (n:=n) (m:=N - n) (cp:=some (N - n)) (JS:=some N) (by omega) (by omega) hv h5 K
    have w:av .i64 ((n:Int)+((min n (N - n):Nat):Int))=((n+min n (N - n):Nat):Int):=(by rw[wrap64 (by omega) (by omega)];omega);have ih2:=ih (n+min n (N - n)) f (bn s b (.cells (List.replicate (n+min n (N - n)) v++List.replicate (N - n - min n (N - n)) (.int .i64 0)) 0)) (by omega) (by omega) (by omega) (by omega) (by rw[bW,show N - (n+min n (N - n))=N - n - min n (N - n)by omega]) k2;rw[Q7]at ih2;rw[<-ih2,lf];simp only[aD,aX,au,lK,bV,aW,cV,dh,aoF h2,aoG h2,cp,aeX,w]
theorem aoT(hc:bu c){N:Nat}(hN:N<=1000000){p:Pos}{v:AV}(hv:v.one=true)(s:St)(hw:Wf s)(hp:s.heap.get p=some (.cells [v] 0)):
   ∃s' gb,c 79 [.slice p 0 1 (some 1) 1,.int .i64 (N:Int)] s=some (.slice gb 0 N (some N) 1,s')/\Grew s s'/\s.next.toNat<=gb.toNat/\(N=0\/s'.heap.get gb=some (.cells (List.replicate N v) 0)):=by
 have g1:=Grew.ah hw (.cells (List.replicate N (.int .i64 0)) 0);have w1:av .u64 (N:Int)=(N:Int):=Z6 (by omega) (by omega);have w2:av .i64 (N:Int)=(N:Int):=wrap64 (by omega) (by omega);have w3:av .u64 1=1:=Z6 (by omega) (by omega);have d1:decide ((N:Int)<0)=false:=Za2 (by omega);have d2:decide ((9223372036854775807:Int)<(N:Int))=false:=Za2 (by omega);have mk:=λ(K:AV->St->Option (AV×St))=>ae2 c K s (es:=1) (bytes:=8) (z:=[.int .i64 0]) (k:= .i64) (k':= .i64) (n:=N) (by omega) (by omega)
 rw[DE]at mk;have kF:=g1.get hp;have mu:=avu hc (n:=(N:Int)) (by omega) (by omega) s;by_cases h0:N=0
 . subst h0;have run:=yp hc (x0:= .slice p 0 1 (some 1) 1) (x1:= .int .i64 ((0:Nat):Int)) (s:=s) (F:=1) (r:=(.slice s.next 0 0 (some 0) 1,ah s (.cells [] 0))) (by
    rw[Ad];simp only[au,bV,d1,cY,cE,aD,aX,lK,MJ,w1,show((1:Nat):Int)=1 from rfl,w3,bI,mu,bw,gP,Za4,Zb6,aQ,nG,show decide ((0:Int)<0)=false from rfl,fZ,d2,jY,w2,mk,List.replicate_zero,agL];rw[lf];simp[lK])
   rw[run];obtain⟨s',h1,h2⟩:=aov (v:= .slice s.next 0 0 (some 0) 1) (Grew.ah hw (.cells [] 0)) hw;exact⟨s',s.next,by rw[h1],h2,Za5 _,.inl rfl⟩
 . have cp:=λ(K:AV->St->Option (AV×St))=>aiH (c:=c) (b:=s.next) (b2:=p) (v:=v) (z:= .int .i64 0) (m:=N) (cp:=some N) (JS:=some 1) (by omega) hv (aB s _) kF K
   have lp:=aoS (c:=c) N hN s.next v hv (N+1) N 1 (N+1) (bn (ah s (.cells (List.replicate N (.int .i64 0)) 0)) s.next (.cells (List.replicate 1 v++List.replicate (N - 1) (.int .i64 0)) 0)) (by omega) (by omega) (by omega) (by omega) (bW _ _ _);simp only[Q7,Q6]at lp cp;simp only[show((1:Nat):Int)=1 from rfl]at lp;have run:=yp hc (x0:= .slice p 0 1 (some 1) 1) (x1:= .int .i64 (N:Int)) (s:=s) (F:=N+1) (r:=(.slice s.next 0 N (some N) 1,ah s (.cells (List.replicate N v) 0))) (by
    rw[Ad];simp only[au,bV,d1,cY,cE,aD,aX,lK,MJ,w1,show((1:Nat):Int)=1 from rfl,w3,bI,mu,bw,gP,Za4,Zb6,aQ,nG,show decide ((0:Int)<0)=false from rfl,fZ,d2,jY,w2,mk,cp,lp])
   (rw[run];have np:¬(Plain (AV.slice s.next 0 N (some N) 1)):=λh=>ack h0 h);refine⟨ah s (.cells (List.replicate N v) 0),s.next,?_,Grew.ah hw _,Za5 _,.inr (aB _ _)⟩;unfold tidy;rw[Za7 (λh=>np h.1)]
def Vq(N:Nat):List Int->Nat->List Int->Option (List Int)
 |[],_,g=>some g
 |x::q,i,g=>if x< -1\/(N:Int)<=x\/(0<=x/\0<=g.getD x.toNat (-1))then none else Vq N q (i+1) (if 0<=x then g.set x.toNat (i:Int)else g)
def tL(N:Nat)(q:List Int):Option (List Int):=Vq N q 0 (List.replicate N (-1))
theorem aoU{N:Nat}:∀{q:List Int}{i:Nat}{g g':List Int},Vq N q i g=some g'->(∀x∈q,-1<=x/\x<(N:Int))/\g'.length=g.length
 |[],i,g,g',h=>by cases h;exact⟨λx hx=>(nomatch hx),rfl⟩
 |x ::q,i,g,g',h=>by
  unfold Vq at h;by_cases hc:x< -1\/(N:Int)<=x\/(0<=x/\0<=g.getD x.toNat (-1))
  .rw[Zb4 hc]at h;cases h
  . rw[Za7 hc]at h;obtain⟨h1,h2⟩:=aoU h;refine⟨λy hy=> ?_,by rw[h2];split<;>simp⟩;rcases Za9.1 hy with rfl|hy
    .omega
    .exact h1 y hy
theorem aoV{N n:Nat}:∀{q:List Int}{i:Nat}{g g':List Int},Vq N q i g=some g'->i+q.length<=n->(∀x∈g,-1<=x/\x<(n:Int))->∀x∈g',-1<=x/\x<(n:Int)
 |[],i,g,g',h,_,hg=>by cases h;exact hg
 |x ::q,i,g,g',h,hn,hg=>by
  unfold Vq at h;simp only[Zc7]at hn;split at h
  .cases h
  . (refine aoV h (by omega) λy hy=> ?_);split at hy
    .   rcases Zh3 hy with hy|rfl
        .exact hg y hy
        .omega
    .   exact hg y hy
structure LI(sA s:St)(vb gb jb:Pos)(P:AV)(N:Nat)(g:List Int):Prop where
 gr:Grew sA s
 vc:s.heap.get vb=some (.cells [.ptr jb 0,P,.slice gb 0 N (some N) 1] 0)
 gc:N=0\/s.heap.get gb=some (.cells (g.map (AV.int .i64)) 0)
 gl:g.length=N
section
variable{sA:St}{vb gb jb:Pos}{j:Jc}{J:Jt}{P:AV}{q:List Int}
theorem aua (jw:JW sA jb j J)(pq:QS 1 sA P (q.map bH))(mH:q.length<=1000000)(hN:J.N<=100000)(hg:sA.next.toNat<=gb.toNat)(hvg:0<J.N->vb≠gb)(w0:Wf sA)(F:Nat):∀(m k f:Nat)(s:St)(g:List Int),k+m=q.length->m<f->LI sA s vb gb jb P J.N g->
  (Vq J.N (q.drop k) k g=none/\∃s',Grew sA s'/\∀k1 k2:Q2,mq c F k1 k2 f [.ptr jb 0,.ptr vb 0,P,.int .i64 (q.length:Int),.int .i64 (k:Int)] s=k1 [.jx] s')\/
    ∃g' s',Vq J.N (q.drop k) k g=some g'/\LI sA s' vb gb jb P J.N g'/\∀k1 k2:Q2,mq c F k1 k2 f [.ptr jb 0,.ptr vb 0,P,.int .i64 (q.length:Int),.int .i64 (k:Int)] s=k2 [.ptr vb 0] s':=by
 intro m;induction m with
 |zero=>
  intro k f s g hk hf hL;obtain⟨f,rfl⟩:∃g,f=g+1:=⟨f - 1,by omega⟩
  obtain rfl:k=q.length:=by omega
  refine .inr ⟨g,s,by simp[Vq],hL,λk1 k2=> ?_⟩;rw[gH];simp
 |succ m ih   =>
  intro k f s g hk hf hL;obtain⟨f,rfl⟩:∃g,f=g+1:=⟨f - 1,by omega⟩
  have jw1:=jw.ai hL.gr;have jc:=jw1.mj;have vc:=hL.vc;have dM:k<q.length:=by omega
  obtain⟨pb,po,p⟩:=pZ (pq.ai hL.gr) (H0 dM);have p1:=λ{R}=>@p.st R
  have p3:=p.one;have wr:av .i64 ((k:Int)+1)=((k+1:Nat):Int):=wrap64 (by omega) (by omega);have ln:=λ(K:AV->St->Option (AV×St))=>jw1.tab.lenB (c:=c) K s
  rw[Za3,(Ua _ _).1]at ln;rw[Zd2 dM];generalize q[k]=x at*
  unfold Vq;by_cases h1:x< -1
  .rw[Zb4 (.inl h1)];refine .inl ⟨rfl,s,hL.gr,λk1 k2=> ?_⟩;have d1:decide (x< -1)=true:=Za0 h1;rw[gH];simp[cY,dM,p1,p3,d1]
  . have d1   :decide (x< -1)=false:=Za2 h1;by_cases h2:(J.N:Int)<=x
    .   rw[Zb4 (.inr (.inl h2))];refine .inl ⟨rfl,s,hL.gr,λk1 k2=> ?_⟩;rw[gH];simp[cY,dM,p1,p3,d1,jc,ln,h2]
    .   have d2:decide ((J.N:Int)<=x)=false:=Za2 h2;by_cases h3:0<=x
        . obtain⟨i,rfl⟩:∃i:Nat,x=(i:Int):=⟨x.toNat,by omega⟩
          have hi:i<J.N:=(by omega);have MR:decide (J.N<=i)=false:=Za2 (by omega);have gc:s.heap.get gb=some (.cells (g.map (AV.int .i64)) 0):=by
            rcases hL.gc with h|h
            .omega
            .exact h
          have Rq:i<g.length:=(by rw[hL.gl];exact hi);have eg:g.getD i (-1)=g[i]:=(by rw[Zb9,H0 Rq];rfl);have ix:=λ(K:AV->St->Option (AV×St))(s1:St)=>je c K s1 (b:=gb) (off:=0) (len:=J.N) (es:=1) (es':=1) (cap:=some J.N) (k:= .i64) (i:=i) hi
          have ec:(g.map (AV.int .i64))[i]? =some (.int .i64 g[i]):=(by rw[Zb3,H0 Rq];rfl);rw[Zd4,eg,Zb4 h3];by_cases h4:0<=g[i]
          .rw[Zb4 (.inr (.inr ⟨h3,h4⟩))];refine .inl ⟨rfl,s,hL.gr,λk1 k2=> ?_⟩;rw[gH];simp[cY,dM,p1,p3,d1,jc,ln,MR,vc,ix,gc,Rq,h4]
          . (rw[Za7 (by omega)];have d4:decide (0<=g[i])=false:=Za2 h4;have aW:=hL.gr.wf _ _ gc;have pt:=λ(K:AV->St->Option (AV×St))=>CJ (c:=c) K gc (o:=i) (by rw[Za3];exact Rq) (v:= .int .i64 (k:Int)) rfl rfl);have em:(g.map (AV.int .i64)).set i (.int .i64 (k:Int))=(g.set i (k:Int)).map (AV.int .i64):=(by rw[Zr8]);rw[em]at pt;have LI2:LI sA (bn s gb (.cells ((g.set i (k:Int)).map (AV.int .i64)) 0)) vb gb jb P J.N (g.set i (k:Int)):=by
              refine⟨yY w0 hL.gr hg aW _,by rw[aM (λe=>hvg (by omega) e.symm)];exact vc,.inr (bW _ _ _),by rw[Zl9];exact hL.gl⟩
            rcases ih (k+1) f _ _ (by omega) (by omega) LI2 with⟨z1,s',z2,z3⟩|⟨g',s',z1,z2,z3⟩
            .refine .inl ⟨z1,s',z2,λk1 k2=> ?_⟩;rw[<-z3 k1 k2,gH];simp[cY,dM,p1,p3,d1,jc,ln,MR,vc,ix,gc,Rq,d4,pt,wr]
            .refine .inr ⟨g',s',z1,z2,λk1 k2=> ?_⟩;rw[<-z3 k1 k2,gH];simp[cY,dM,p1,p3,d1,jc,ln,MR,vc,ix,gc,Rq,d4,pt,wr]
        . rw[Za7 (by omega),Za7 h3];have d3:decide (0<=x)=false:=Za2 h3;rcases ih (k+1) f s g (by omega) (by omega) hL with⟨z1,s',z2,z3⟩|⟨g',s',z1,z2,z3⟩
          .refine .inl ⟨z1,s',z2,λk1 k2=> ?_⟩;rw[<-z3 k1 k2,gH];simp[cY,dM,p1,p3,d1,jc,ln,d2,d3,wr]
          .refine .inr ⟨g',s',z1,z2,λk1 k2=> ?_⟩;rw[<-z3 k1 k2,gH];simp[cY,dM,p1,p3,d1,jc,ln,d2,d3,wr]
theorem arB(hc:bu c){s:St}(jw:JW s jb j J):c 78 [.ptr jb 0] s=some (.bool false,s):=by
 have jc:=jw.mj;have e1:∀(K:AV->St->Option (AV×St))(s:St),aq c (.bin .eql .ptr) [.ptr jb 0,.jx] s K=K (.bool false) s:=λK s=>aY c K (λH n=>rfl) s
 have e2:∀(K:AV->St->Option (AV×St))(s:St),aq c (.bin .eql .map) [.map j.M,.qX] s K=K (.bool false) s:=λK s=>aY c K (λH n=>rfl) s
 rw[Ub hc 1 (r:=(.bool false,s)),aE (Plain.bool _) (aZ.refl s)];rw[aaC];simp[e1,e2,jc]
theorem aub(hc:bu c)(jw:JW sA jb j J)(w0:Wf sA)(pq:QS 1 sA P (q.map bH))(mH:q.length<=1000000):
   ((q.length≠J.n\/tL J.N q=none)/\c 37 [.ptr jb 0,P] sA=some (.jx,sA))\/
     ∃g vb G s',q.length=J.n/\tL J.N q=some g/\c 37 [.ptr jb 0,P] sA=some (.ptr vb 0,s')/\Grew sA s'/\Vw s' vb jb j J P G q g:=by
 have jc:=jw.mj;have nn:=arB hc jw;have lp:=λ(K:AV->St->Option (AV×St))(s:St)=>pq.lenB (c:=c) K s
 rw[Za3]at lp;obtain⟨s0',r1',r2',_,_,gsq⟩:=jw.ps;have lg:=λ(K:AV->St->Option (AV×St))(s:St)=>gsq.out.own.lenB (c:=c) K s
 rw[gsq.len]at lg;have en:J.p.gs.length=J.n:=rfl;by_cases hl:q.length=J.n
 . have hN  :J.N<=100000:=(by have:=jw.nN;have:=jw.kL.ts;have:=(ry J.p.ts).2;omega);have dl:decide ((q.length:Int)=(J.p.gs.length:Int))=true:=Za0 (by omega);have lt:=λ(K:AV->St->Option (AV×St))(s:St)=>jw.tab.lenB (c:=c) K s
   rw[Za3,(Ua _ _).1]at lt;have g1:=Grew.ah w0 (.cells [AV.int .i64 (-1)] 0);obtain⟨s2,gb,e1,e2,e3,e4⟩:=aoT hc (N:=J.N) (by omega) (v:= .int .i64 (-1)) rfl _ g1.wf (aB sA (.cells [.int .i64 (-1)] 0));have g12:=g1.trans e2;have w2:=e2.wf;have g3:=Grew.ah w2 (.cells [.ptr jb 0,P,.slice gb 0 J.N (some J.N) 1] 0);have g13:=g12.trans g3;have bl:∀(K:AV->St->Option (AV×St))(s:St),aq c (.build [.jx,.af,.af] [(0,1),(1,1),(2,1)]) [.ptr jb 0,P,.slice gb 0 J.N (some J.N) 1] s K=K (.agg [.ptr jb 0,P,.slice gb 0 J.N (some J.N) 1]) s:=λK s=>
     eE c K s _ _ _ _ (by rcases pq with⟨rfl,_⟩|⟨b,off,cap,cs,rfl,_⟩|⟨b,off,rfl,_⟩<;>rfl)
   have r1:=λ(K:AV->St->Option (AV×St))=>Gt (c:=c) (z:=[.int .i64 0]) (x:= .int .i64 (-1)) rfl rfl sA K
   have hvg:0<J.N->s2.next≠gb:=λh e=>by
     rcases e4 with e4|e4
     .  omega
     .  have:=w2 _ _ e4;rw[e]at this;omega
   have LI0:LI sA (ah s2 (.cells [.ptr jb 0,P,.slice gb 0 J.N (some J.N) 1] 0)) s2.next gb jb P J.N (List.replicate J.N (-1)):=by
     refine⟨g13,aB _ _,?_,by simp⟩;rcases e4 with e4|e4
     .  exact .inl e4
     .  right;rw[List.map_replicate];exact g3.get e4
   have e3':sA.next.toNat<=gb.toNat:=Zb2 g1.next e3;rcases aua (c:=c) jw pq mH hN e3' hvg w0 (q.length+1) q.length 0 (q.length+1) _ _ (by omega) (by omega) LI0 with⟨z1,s',z2,z3⟩|⟨g,s',z1,z2,z3⟩
   .rw[Ze3]at z1;refine .inl ⟨.inr z1,?_⟩;rw[xP hc (q.length+1) (r:=(.jx,s')),aE Plain.jx z2.keeps];simp only[show((0:Nat):Int)=0 from rfl]at z3;rw[At];simp only[au,bI,nn,bw,fZ,lp,cr,aK,Zb1,aO,jc,Jc.c1,az,Za6,aQ,lg,zO,dl,Zi4,jY,cE,r1,g1.get jc,Jc.c6,lt,e1,bl,di,show ∀l,AV.cells (.agg l)=l from λl=>rfl,z3,aD,aX]
   . rw[  Ze3]at z1;have ok:=aoU z1;refine .inr ⟨g,s2.next,.slice gb 0 J.N (some J.N) 1,s',hl,z1,?_,z2.gr,⟨jw.ai z2.gr,z2.vc,z2.gr.wf,pq.ai z2.gr,?_,hl,z2.gl,ok.1,aoV (n:=J.n) z1 (by omega) λx hx=>by have:=List.eq_of_mem_replicate hx;omega⟩⟩
     .  rw[xP hc (q.length+1) (r:=(.ptr s2.next 0,s'))]
        .unfold tidy;rw[Za7 (λh=>Vr _ _ h.1)]
        .simp only[show((0:Nat):Int)=0 from rfl]at z3;rw[At];simp only[au,bI,nn,bw,fZ,lp,cr,aK,Zb1,aO,jc,Jc.c1,az,Za6,aQ,lg,zO,dl,Zi4,jY,cE,r1,g1.get jc,Jc.c6,lt,e1,bl,di,show ∀l,AV.cells (.agg l)=l from λl=>rfl,z3,aD,aX]
     .  rcases Zn3 J.N with h0|h0
        .have:g=[]:=Zc4 (by rw[z2.gl,h0]);rw[h0,this];exact .inr (.inr ⟨gb,0,rfl,rfl⟩)
        . rcases z2.gc with h|h
          .omega
          .refine .inr (.inl ⟨gb,0,some J.N,_,by rw[Za3,z2.gl],h,by simp,?_,.inr (by rw[Za3,z2.gl])⟩);rw[Gw,ahu];simp only[Ze3,Za3,Zn4];exact Zg0 (by simp)
 .refine .inl ⟨.inl hl,?_⟩;have dl:decide ((q.length:Int)=(J.p.gs.length:Int))=false:=Za2 (by omega);rw[xP hc 1 (r:=(.jx,sA)),aE Plain.jx (aZ.refl sA)];rw[At];simp only[au,bI,nn,bw,fZ,lp,cr,aK,Zb1,aO,jc,Jc.c1,az,Za6,aQ,lg,zO,dl,Zk9,jY,cV]
end
def FI(s0:St)(nb:Pos)(s:St)(l:List Ev):Prop:=Grew s0 s/\s.heap.get nb=some (.cells [.int .i64 ((kG l:Nat):Int)] 0)
theorem amO(hc:bu c){s:St}{nb:Pos}{n k:Nat}{W:AV}(hn:s.heap.get nb=some (.cells [.int .i64 (n:Int)] 0))(hB:n+k<=1000000):
  c 82 [.int .i64 (k:Int),W,.ptr nb 0] s=some (tidy s (.tuple [],bn s nb (.cells [.int .i64 ((n+k:Nat):Int)] 0))):=by
 have w:av .i64 ((n:Int)+(k:Int))=((n+k:Nat):Int):=by rw[wrap64 (by omega) (by omega)];omega
 have pt:=λ(K:AV->St->Option (AV×St))=>CJ (c:=c) K hn (o:=0) (by simp) (v:= .int .i64 ((n+k:Nat):Int)) rfl rfl
 refine PY hc 1 ?_;rw[Uc];simp only[aO,hn,az,Za6,Za4,aQ,au,dy,w,pt];rfl
theorem amP(hc:bu c){s0:St}(w0:Wf s0){nb:Pos}(hnb:s0.next.toNat<=nb.toNat):kP c (.func 82 [] [.ptr nb 0]) s0 (FI s0 nb) (λ_ b=>b=nb) where
 ai h:=h.1
 grow h g:=⟨h.1.trans g,g.get h.2⟩
 mW _ _ h:=h
 mlt h e:=by subst e;exact h.1.wf _ _ h.2
 back {s s' l l'} h h' hk:=by
  have e1:=hk nb _ h.2;have e2:=h'.2;rw[e1]at e2;simp only[H5,AB.cells.injEq,Zf8,AV.int.injEq,Zs6,Zo0]at e2;exact⟨h.1,by rw[<-e2];exact h.2⟩
 call {s l k W who} h hW hB:=by
  have hn:=adR l;have f1:=amO hc (W:=W) (k:=k) h.2 (by omega);have aW:=h.1.wf _ _ h.2;have e:kG (l++[(k,who)])=kG l+k:=by rw[ae5,atS]
  unfold tidy at f1;split at f1
  .rename_i hk;refine⟨s,.tuple [],λK=>by rw[iZ];simp only[Ze2,Zd8];rw[f1];rfl,⟨h.1,?_⟩,iu.refl h.1.wf⟩;have e1:=hk.2 nb _ h.2;rw[bW]at e1;rw[e,e1];exact h.2
  .refine⟨_,.tuple [],λK=>by rw[iZ];simp only[Ze2,Zd8];rw[f1];rfl,⟨yY w0 h.1 hnb aW _,by rw[bW,e]⟩,Za5 _,kq h.1.wf aW,λb x hb hx=>⟨by rw[aM (λe=>hb e.symm)];exact hx,hb⟩⟩
 one:=⟨rfl,rfl⟩
theorem aoW{m:Nat}(h1:1<=m)(h2:m<=18):gX .i (.int .u8 (m:Int)) FA 0=some (some (m - 1,.agg (kd m).cells)):=by rcases Gu h1 h2 with rfl|rfl|rfl|rfl|rfl|rfl|rfl|rfl|rfl|rfl|rfl|rfl|rfl|rfl|rfl|rfl|rfl|rfl<;>rfl
theorem arC{R:Type}{h:T AB}{mp:Pos}(hm:h.get mp=some (.map FA 18)){m:Nat}(h1:1<=m)(h2:m<=18)(z:AV)(K:AV->Option R):jJ (.lookup .i z false) [.map mp,.int .u8 (m:Int)] h (λ_=>true) K=K (.agg (kd m).cells):=by
 unfold jJ;have e:aJ.run (λ_=>none) .h (.lookup .i z false) [.map mp,.int .u8 (m:Int)]=none:=rfl;rw[e];simp only;have:aJ.run (λb=>h.get b) .h (.lookup .i z false) [.map mp,.int .u8 (m:Int)]=some (.val (.agg (kd m).cells)):=by
  simp only[aJ.run,lU,hm,aoW h1 h2]
 rw[this]
section
variable{s:St}{vb jb:Pos}{j:Jc}{J:Jt}{P G:AV}{q g:List Int}
theorem Vw.rR(V:Vw s vb jb j J P G q g){i:Nat}{r:Rl}(hi:J.p.rs[i]? =some r):∃b o,Rd s 6 j.V5 i b o r.cells:=
 V.jw.iG.rd (λr hr=>by obtain⟨x,_,rfl⟩:=Zc9.1 hr;rfl) (by rw[Zb3,hi];rfl)
theorem agd(hc:bu c)(V:Vw s vb jb j J P G q g)(fB:J.p.cs.length=J.n\/J.p.cs.length=0){i:Nat}{r:Rl}(hi:J.p.rs[i]? =some r){m:Nat}(R:RuV J.p r m):
  c 41 [.ptr vb 0,.int .i64 (i:Int)] s=some (.int .i64 ((kG (oQ J q g r):Nat):Int),s):=by
 have g1:=Grew.ah V.wf (.cells [.int .i64 0] 0);have H:=amP hc V.wf (Za5 s.next.toNat);have I1:FI s s.next (ah s (.cells [.int .i64 0] 0)) []:=⟨g1,aB _ _⟩
 obtain⟨f,s',e1,e2,e3⟩:=at7 hc H V fB R I1;rw[Ud hc 1 (r:=(.int .i64 ((kG (oQ J q g r):Nat):Int),s')),aE (Plain.int _ _) e3.1.keeps];have V1:=V.ai g1;have bK:∀(K:AV->St->Option (AV×St)),aq c (.store 1) [.ptr s.next 0,.int .i64 0] (ah s (.cells [.int .i64 0] 0)) K=K .undef (ah s (.cells [.int .i64 0] 0)):=λK=>cq c K s 1 (.int .i64 0) [.int .i64 0] rfl rfl rfl
 rw[Yo];simp only[au,bN,bK];generalize ah s (.cells [.int .i64 0] 0)=s1 at*
 have vc:=V1.vc;have jc:=V1.jw.mj;obtain⟨rb,ro,h1⟩:=V1.rR hi;have r1:=λ{R}=>@h1.pr R
 have r2:=h1.at' 0 _ rfl;rw[Zg2,R.k]at r2;have r3:=h1.all;have kk:=λ(z:AV)(K:AV->Option (AV×St))=>arC V1.jw.kin R.m1 R.m2 z K
 have kf:(kd m).cells[7]? =some (.func f [] []):=by rw[<-e1];rfl
 simp only[dh,qU,bC,Zb1,Zg2,jZ,vc,jc,az,Za6,Za4,Jc.c4,Jc.c5,aQ,r1,r2,kk,aoq,kf,xG,r3,cG,abi,iZ,Ze2,Zd7,Zd8,e2,bw,aO,e3.2,au]
def pK(q:List Int)(k:Nat):Nat:=Go.Ai.cnt k λg=> !on (qF q) g
def oZ(J:Jt)(q:List Int)(k:Nat):Nat:=Go.Ai.cnt k λg=> !on (qF q) g&&wu J g
def Yp(J:Jt)(q g:List Int)(r:Rl):Nat:=
 if r.k=9 then kG (oQ J q g r) - oZ J q q.length else if r.k=15 then kG (oQ J q g r) - pK q q.length else if r.k=11 then(if 0<pK q q.length then 0 else kG (oQ J q g r))else kG (oQ J q g r)
theorem arD(V:Vw s vb jb j J P G q g)(x1 x5:AV)(F:Nat):∀(m k f:Nat),k+m=q.length->m<f->∀k2:Q2,
  o6 c F k2 f [.ptr vb 0,x1,x5,.int .i64 ((pK q k:Nat):Int),.int .i64 ((oZ J q k:Nat):Int),P,.int .i64 (q.length:Int),.int .i64 (k:Int)] s=
    k2 [.ptr vb 0,x1,x5,.int .i64 ((pK q q.length:Nat):Int),.int .i64 ((oZ J q q.length:Nat):Int)] s:=by
 have vc:=V.vc;have jc:=V.jw.mj;intro m;induction m with
 |zero=>
  intro k f hk hf k2;obtain⟨f,rfl⟩:∃g,f=g+1:=⟨f - 1,by omega⟩
  obtain rfl:k=q.length:=by omega
  rw[DM];simp
 |succ m ih=>
  intro k f hk hf k2;obtain⟨f,rfl⟩:∃g,f=g+1:=⟨f - 1,by omega⟩
  have dM:k<q.length:=by omega
  obtain⟨y,hy⟩:∃y,q[k]? =some y:=⟨_,H0 dM⟩
  obtain⟨pb,po,p⟩:=pZ V.pq hy;have p1:=λ{R}=>@p.st R
  have p3:=p.one;have hN:=V.FB;have mH:=V.ql;have wr:av .i64 ((k:Int)+1)=((k+1:Nat):Int):=wrap64 (by omega) (by omega);have l1:pK q k<=k:=X7 _ _;have l2:oZ J q k<=k:=X7 _ _;have w1:av .i64 (((pK q k:Nat):Int)+1)=((pK q k+1:Nat):Int):=by rw[wrap64 (by omega) (by omega)];omega
  have w2:av .i64 (((oZ J q k:Nat):Int)+1)=((oZ J q k+1:Nat):Int):=by rw[wrap64 (by omega) (by omega)];omega
  have eo:on (qF q) k=decide (0<=y):=by unfold on;rw[yo hy]
  have s1:pK q (k+1)=pK q k+if !decide (0<=y)then 1 else 0:=by unfold pK;rw[TE,eo]
  have s2:oZ J q (k+1)=oZ J q k+if !decide (0<=y)&&wu J k then 1 else 0:=by unfold oZ;rw[TE,eo]
  obtain⟨A,v,ab,ao,hA,h1⟩:=V.qK hy;have r1:=λ{R}=>@h1.st R
  have r2:=h1.at' 6 _ rfl;have eh:wu J k=A.host:=by unfold wu;rw[hA]
  rw[<-ih (k+1) f (by omega) (by omega) k2,DM,s1,s2,eh];by_cases h0:0<=y
  .have d0:decide (y<0)=false:=Za2 (by omega);simp[cY,dM,p1,p3,d0,h0,wr]
  . have d0:decide (y<0)=true:=Za0 (by omega);generalize A.host=e at*
    cases e<;>simp[cY,dM,p1,p3,d0,h0,wr,w1,w2,vc,jc,r1,r2]
theorem arE(hc:bu c)(V:Vw s vb jb j J P G q g)(fB:J.p.cs.length=J.n\/J.p.cs.length=0){i:Nat}{r:Rl}(hi:J.p.rs[i]? =some r){m:Nat}(R:RuV J.p r m)(hE:kG (oQ J q g r)<=1000000):
   c 71 [.ptr vb 0,.int .i64 (i:Int)] s=some (.int .i64 ((Yp J q g r:Nat):Int),s):=by
 have fa:=agd hc V fB hi R;have vc:=V.vc;have jc:=V.jw.mj;have hN:=V.FB;have mH:=V.ql;obtain⟨rb,ro,h1⟩:=V.rR hi;have r1:=λ{R}=>@h1.st R
 have r2:=h1.at' 0 _ rfl;rw[Zg2,R.k]at r2;have ln:=λ(K:AV->St->Option (AV×St))=>V.pq.lenB (c:=c) K s
 rw[Za3]at ln;have lp:=λ(k2:Q2)=>arD (c:=c) V (.int .i64 (i:Int)) (.int .i64 ((kG (oQ J q g r):Nat):Int)) (q.length+1) q.length 0 (q.length+1) (by omega) (by omega) k2
 simp only[show pK q 0=0 from rfl,show oZ J q 0=0 from rfl,show((0:Nat):Int)=0 from rfl]at lp;have l1:pK q q.length<=q.length:=X7 _ _;have l2:oZ J q q.length<=q.length:=X7 _ _;have w1:av .i64 (((kG (oQ J q g r):Nat):Int) - ((oZ J q q.length:Nat):Int))=((kG (oQ J q g r):Nat):Int) - ((oZ J q q.length:Nat):Int):=wrap64 (by omega) (by omega);have w2:av .i64 (((kG (oQ J q g r):Nat):Int) - ((pK q q.length:Nat):Int))=((kG (oQ J q g r):Nat):Int) - ((pK q q.length:Nat):Int):=wrap64 (by omega) (by omega);have mx:∀n:Nat,max ((n:Nat):Int) 0=(n:Int):=λn=>by omega
 rw[Wy hc (q.length+1) (r:=(.int .i64 ((Yp J q g r:Nat):Int),s)),aE (Plain.int _ _) (aZ.refl s)];rw[aaD];unfold Yp;rw[R.k];generalize kG (oQ J q g r)=E at*
 by_cases k9:m=9
 .subst k9;have e:max (((E:Nat):Int) - ((oZ J q q.length:Nat):Int)) 0=((E - oZ J q q.length:Nat):Int):=(by omega);simp[cY,fa,vc,jc,ln,lp,r1,r2,w1,e]
 . have d9:decide ((m:Int)=9)=false:=Za2 (by omega);by_cases k15:m=15
   .subst k15;have e:max (((E:Nat):Int) - ((pK q q.length:Nat):Int)) 0=((E - pK q q.length:Nat):Int):=(by omega);simp[cY,fa,vc,jc,ln,lp,r1,r2,w2,e]
   . have d15:decide ((m:Int)=15)=false:=Za2 (by omega);by_cases k11:m=11
     .  subst k11;by_cases h0:0<pK q q.length
        .simp[cY,fa,vc,jc,ln,lp,r1,r2,h0]
        .have d0:decide ((0:Int)<((pK q q.length:Nat):Int))=false:=Za2 (by omega);simp[cY,fa,vc,jc,ln,lp,r1,r2,h0,d0,mx]
     .  have d11:decide ((m:Int)=11)=false:=Za2 (by omega);have e9:¬(m:Int)=9:=(by omega);have e15:¬(m:Int)=15:=(by omega);have e11:¬(m:Int)=11:=(by omega);rw[Za7 e9,Za7 e15,Za7 e11];simp[cY,fa,vc,jc,ln,lp,r1,r2,d9,d15,d11,mx]
end
end
section
open Go Go.Ai Go.Proofs
def gOf(J:Jt)(p:Nat->Int):List Int:=(tL J.N ((List.range J.n).map p)).getD []
def LC(J:Jt)(r:Rl):RM:=match r.k.toNat with
 |1=>.two (rA J r) (rB J r) (MM J r)
 |2=>.two (rA J r) (rB J r) (acn J)
 |3=>.two (rA J r) (rB J r) (aco J)
 |4=>.two (rA J r) (rB J r) (TO J r)
 |5=>.two (rA J r) (rB J r) (acp J)
 |6=>.one (rA J r) (atP J r)
 |7=>.one (rA J r) (TR J r)
 |8=> .Rg (jr J r (PO J))
 |9=>.iQ (PW J r)
 |10=>.qK (TX J r)
 |11=>.spk λp=>Go.Ai.cnt J.n λa=>on p a&&TZ J r (gOf J p) a (p a)
 |12=> .Rg (jr J r (A8 J))
 |13=> .Rg (Ju J r)
 |14=> .Rg (jr J r (MQ J))
 |15=>.fil (PW J r) r.n.toNat
 |16=> .HW (PW J r) r.n.toNat
 |17=>.qK (TY J r)
 |18=> .Rg (jr J r (PR J))
 |_=>.qK λ_ _=>false
section
variable{J:Jt}{q g:List Int}{r:Rl}{m:Nat}
theorem auc(mH:q.length=J.n):(List.range J.n).map (qF q)=q:=by
 apply Zi7;intro i;rw[Zb3];by_cases hi:i<J.n
 .rw[Zh9 hi,Ze5];have h2:i<q.length:=(by omega);rw[H0 h2,yo (H0 h2)]
 .rw[Zc0 (by simpa using hi),Zc0 (by omega)];rfl
theorem avv(mH:q.length=J.n)(hg:tL J.N q=some g):gOf J (qF q)=g:=by unfold gOf;rw[auc mH,hg];rfl
theorem amQ(mH:q.length=J.n)(r:Rl)(D:List Int->List Ev):cU (H9 J q r D) J.p.ts.length 0=ach (jT J) (qF q) (jT J).T (PW J r) D:=by
 have e:H9 J q r D=λt=>if PW J r t then D ((jT J).who (qF q) t)else []:=by funext t;unfold H9 MU JT.who;rw[mH];rfl
 rw[e];rfl
theorem acA(mH:q.length=J.n)(hg:tL J.N q=some g)(R:RuV J.p r m):kG (oQ J q g r)=(jT J).uS (qF q) (LC J r):=by
 have hn:(jT J).n=q.length:=mH.symm;unfold oQ LC;rw[R.k,Zd4];rcases Gu R.m1 R.m2 with rfl|rfl|rfl|rfl|rfl|rfl|rfl|rfl|rfl|rfl|rfl|rfl|rfl|rfl|rfl|rfl|rfl|rfl<;>simp only
 .exact Rh _ _ _
 .exact Rh _ _ _
 .exact Rh _ _ _
 .exact Rh _ _ _
 .exact Rh _ _ _
 .exact aiG _ _
 .exact aiG _ _
 .rw[<-hn];exact Ri _
 .rw[amQ mH];exact atU _
 .rw[<-hn];exact ae7 _
 .rw[<-hn,ae7];show Go.Ai.cnt _ _=Go.Ai.cnt _ _;rw[avv mH hg];rfl
 .rw[<-hn];exact Ri _
 .rw[<-hn];exact Ri _
 .rw[<-hn];exact Ri _
 .rw[amQ mH];exact atV _ _
 .rw[amQ mH];exact atW _ _
 .rw[<-hn];exact ae7 _
 .rw[<-hn];exact Ri _
theorem amR(mH:q.length=J.n)(hg:tL J.N q=some g)(R:RuV J.p r m):Yp J q g r=(jT J).least (qF q) (LC J r):=by
 have e:=acA mH hg R;have l1:pK q q.length=(jT J).left (qF q):=by unfold pK JT.left;rw[mH];rfl
 have l2:oZ J q q.length=(jT J).amC (qF q):=by unfold oZ JT.amC;rw[mH];rfl
 unfold Yp;rw[e,l1,l2,R.k];unfold LC;rw[R.k,Zd4];rcases Gu R.m1 R.m2 with rfl|rfl|rfl|rfl|rfl|rfl|rfl|rfl|rfl|rfl|rfl|rfl|rfl|rfl|rfl|rfl|rfl|rfl<;>first|rfl|simp[JT.least]
theorem arF(P:Nat->Nat->Int->Int->Bool)(n:Nat):fS (Aq (qF q) n P)<=n*(3*n):=
 A7 (λa=>Zb2 (Yj P a _ _) (Zl5 3 (by omega))) n 0
theorem aiU(hq:q.length<=100)(hn:J.n<=100)(hT:J.p.ts.length<=100)(R:RuV J.p r m)(mH:q.length=J.n):fS (oQ J q g r)<=200000:=by
 have two:∀a b P,fS (DJ (qF q) a b P)<=200000:=λa b P=>Zb2 (HX _ _ _) (by simp)
 have one:∀a P,fS (Yb (qF q) a P)<=200000:=λa P=>Zb2 (HX _ _ _) (by simp)
 have Rg:∀P,fS (Aq (qF q) q.length P)<=200000:=λP=>by have h1:=arF (q:=q) P q.length;have h2:=Zq8 hq (Zl5 3 hq);omega
 have qK:∀P,fS (PI (qF q) q.length P)<=200000:=λP=>by have h1:=A7 (f:=λg=>yW (on (qF q) g&&P g (qF q g)) 1 [(g:Int)]) (B:=2) (λa=>Zb2 (HX _ _ _) (by simp)) q.length 0;unfold PI;omega
 have tab:∀D:List Int->List Ev,(∀who:List Int,who.length<=J.n->fS (D who)<=2000)->fS (cU (H9 J q r D) J.p.ts.length 0)<=200000:=λD hD=>by
   have h1:=A7 (f:=H9 J q r D) (B:=2000) (λt=>by
    unfold H9;split
    .exact hD _ (by have:=T4 J q t q.length;omega)
    .exact Zi6 _) J.p.ts.length 0
   omega
 unfold oQ;rw[R.k,Zd4];rcases Gu R.m1 R.m2 with rfl|rfl|rfl|rfl|rfl|rfl|rfl|rfl|rfl|rfl|rfl|rfl|rfl|rfl|rfl|rfl|rfl|rfl<;>simp only
 .exact two _ _ _
 .exact two _ _ _
 .exact two _ _ _
 .exact two _ _ _
 .exact two _ _ _
 .exact one _ _
 .exact one _ _
 .exact Rg _
 .exact tab _ (aiR _ hn)
 .exact qK _
 .exact qK _
 .exact Rg _
 .exact Rg _
 .exact Rg _
 .exact tab _ (aiS _ (by have:=R.n (.inl rfl);omega) hn)
 .exact tab _ (aiT _ hn)
 .exact qK _
 .exact Rg _
end
variable{c:aj}
structure OP(J:Jt):Prop where
 rul:∀r∈J.p.rs,∃m,RuV J.p r m
 cls:J.p.cs.length=J.n\/J.p.cs.length=0
structure Rs(J:Jt)(q:List Int):Prop where
 len:q.length=J.n
 see:∃g,tL J.N q=some g
def fJ(J:Jt)(q:List Int)(r:Rl):Nat:=(jT J).uS (qF q) (LC J r)
def lJ(J:Jt)(q:List Int)(r:Rl):Nat:=(jT J).least (qF q) (LC J r)
section
variable{s:St}{vb jb:Pos}{j:Jc}{J:Jt}{P G:AV}{q g:List Int}
theorem amS(V:Vw s vb jb j J P G q g)(hg:tL J.N q=some g){r:Rl}{m:Nat}(R:RuV J.p r m):fJ J q r<=200000/\lJ J q r<=200000:=by
 have hN:=V.FB;have mH:=V.ql;have h1:=aiU (g:=g) (by omega) hN.2 V.jw.kL.ts R mH;have h2:=adR (oQ J q g r);have e:=acA mH hg R;have h3:lJ J q r<=fJ J q r:=least_le _;have h4:fJ J q r<=200000:=by unfold fJ;omega
 omega
theorem aab(hc:bu c)(O:OP J)(V:Vw s vb jb j J P G q g)(hg:tL J.N q=some g){i:Nat}{r:Rl}(hi:J.p.rs[i]? =some r):c 41 [.ptr vb 0,.int .i64 (i:Int)] s=some (.int .i64 ((fJ J q r:Nat):Int),s):=by obtain⟨m,R⟩:=O.rul r (Zc5 hi);unfold fJ;rw[<-acA V.ql hg R];exact agd hc V O.cls hi R
theorem aoX(hc:bu c)(O:OP J)(V:Vw s vb jb j J P G q g)(hg:tL J.N q=some g){i:Nat}{r:Rl}(hi:J.p.rs[i]? =some r):c 71 [.ptr vb 0,.int .i64 (i:Int)] s=some (.int .i64 ((lJ J q r:Nat):Int),s):=by
 obtain⟨m,R⟩:=O.rul r (Zc5 hi);have hN:=V.FB;have mH:=V.ql;have h1:=aiU (g:=g) (by omega) hN.2 V.jw.kL.ts R mH;have h2:=adR (oQ J q g r);unfold lJ;rw[<-amR V.ql hg R];exact arE hc V O.cls hi R (by omega)
theorem look_ok(hc:bu c)(jw:JW s jb j J)(w0:Wf s)(pq:QS 1 s P (q.map bH))(hq:Rs J q):
   ∃g vb G s',tL J.N q=some g/\c 37 [.ptr jb 0,P] s=some (.ptr vb 0,s')/\Grew s s'/\Vw s' vb jb j J P G q g:=by
 obtain⟨g,hg⟩:=hq.see;have hn:J.n<=100:=jw.kL.gs;rcases aub hc jw w0 pq (by have:=hq.len;omega)with⟨h,_⟩|⟨g',vb,G,s',h1,h2,h3,h4,h5⟩
 . rcases h with h|h
   .exact absurd hq.len h
   .rw[hg]at h;cases h
 .exact⟨g',vb,G,s',h2,h3,h4,h5⟩
theorem Rt(a:Pos)(o:Nat)(K:AV->St->Option (AV×St))(s:St):aq c (.bin .eql .ptr) [.ptr a o,.jx] s K=K (.bool false) s:=aY c K (λH n=>rfl) s
def jz(w:Rl->Nat):List Rl->Nat
 |[]=>0
 |r::l=>(if 0<r.wt then r.wt.toNat*w r else 0)+jz w l
theorem Ue(w:Rl->Nat)(l:List Rl)(r:Rl):jz w (l++[r])=jz w l+(if 0<r.wt then r.wt.toNat*w r else 0):=by
 induction l with
 |nil=>simp[jz]
 |cons a l ih=>rw[Zd8,jz,jz,ih];omega
theorem aud{w:Rl->Nat}{l:List Rl}(h:∀r∈l,r.wt<=1000/\w r<=200000):jz w l<=l.length*200000000:=by
 induction l with
 |nil=>simp[jz]
 |cons a l ih=>
  have h1:=h a (Zd6);have h2:=ih λr hr=>h r (Zb0 _ hr)
  rw[jz,Zc7,Zh0];split
  .have:=Zq8 (show a.wt.toNat<=1000 by omega) h1.2;omega
  .omega
theorem acB{w:Rl->Nat}{l:List Rl}(h:∀r∈l,r.wt<=1000/\w r<=200000)(hl:l.length<=100):jz w l<=20000000000:=by
 have h1:=aud h;generalize jz w l=T at*
 generalize l.length=n at*
 omega
theorem Uf{i:Nat}{r:Rl}(V:Vw s vb jb j J P G q g)(hi:J.p.rs[i]? =some r):∃b o,Rd s 6 j.V5 i b o r.cells/\(∀(K:AV->St->Option (AV×St)),aq c (.store 6) [.ptr s.next 0,.agg r.cells] (ah s (.cells [.int .u8 0,.int .i64 0,.str [],.str [],.str [],.int .i64 0] 0)) K=K .undef (ah s (.cells r.cells 0))):=by
 obtain⟨b,o,h⟩:=V.rR hi;exact⟨b,o,h,λK=>cq c K s 6 (.agg r.cells) [.int .u8 0,.int .i64 0,.str [],.str [],.str [],.int .i64 0] rfl rfl r.one⟩
theorem avw(O:OP J){f0:FuncId}{w:Rl->Nat}(hw:∀r∈J.p.rs,w r<=200000)(dF:∀{s':St},Vw s' vb jb j J P G q g->∀{i:Nat}{r:Rl},J.p.rs[i]? =some r->c f0 [.ptr vb 0,.int .i64 (i:Int)] s'=some (.int .i64 ((w r:Nat):Int),s'))(F:Nat):
  ∀ (m k f:Nat)(s:St),k+m=J.p.rs.length->m<f->Vw s vb jb j J P G q g->∃s',Grew s s'/\
    ∀k2:Q2,qc c F k2 f [.func f0 [] [],.ptr vb 0,.int .i64 ((jz w (J.p.rs.take k):Nat):Int),j.V5,.int .i64 (J.p.rs.length:Int),.int .i64 (k:Int)] s=k2 [.int .i64 ((jz w J.p.rs:Nat):Int)] s':=by
 intro m;induction m with
 |zero=>
  intro k f s hk hf V;obtain⟨f,rfl⟩:∃g,f=g+1:=⟨f - 1,by omega⟩
  obtain rfl:k=J.p.rs.length:=by omega
  refine⟨s,Grew.refl V.wf,λk2=> ?_⟩;rw[FD,Zg1];simp
 |succ m ih=>
  intro k f s hk hf V;obtain⟨f,rfl⟩:∃g,f=g+1:=⟨f - 1,by omega⟩
  have dM:k<J.p.rs.length:=by omega
  have hi:=H0 dM;have yQ:=Zb8 dM;have hrs:=V.jw.kL.rs;generalize hr0:J.p.rs[k]=r at*
  obtain⟨m',R⟩:=O.rul r yQ;obtain⟨b,o,h1,Ba⟩:=Uf (c:=c) V hi;have r1:=λ{R}=>@h1.st R
  have r2:=h1.all;have gN:=Grew.ah V.wf (.cells r.cells 0);have V1:=V.ai gN;have hx:=aB s (.cells r.cells 0);have cl:=dF V1 hi;have aW:decide ((k:Int)<(J.p.rs.length:Int))=true:=Za0 (by omega);have wr:av .i64 ((k:Int)+1)=((k+1:Nat):Int):=by rw[wrap64 (by omega) (by omega)];omega
  have et:J.p.rs.take (k+1)=J.p.rs.take k++[r]:=by rw[Zc2 dM,hr0]
  have hle:jz w (J.p.rs.take k)<=20000000000:=acB (l:=J.p.rs.take k) (λr' oa=>by
        have hm:=Zj4 oa;obtain⟨_,R'⟩:=O.rul r' hm;exact⟨R'.w.2,hw r' hm⟩) (by rw[Zf1];omega)
  have hwt:((r.wt.toNat:Nat):Int)=r.wt:=Int.toNat_of_nonneg R.w.1;have hwt2:r.wt.toNat<=1000:=by have:=R.w.2;omega
  obtain⟨s',z1,z2⟩:=ih (k+1) f _ (by omega) (by omega) V1;refine⟨s',gN.trans z1,λk2=> ?_⟩;rw[<-z2 k2,FD,et,Ue w (J.p.rs.take k) r];generalize jz w (J.p.rs.take k)=T at*
  have hwr:=hw r yQ;generalize w r=W at*
  by_cases hp:0<r.wt
  . have d1:decide (0<r.wt)=true:=Za0 hp;have hmul:=Zq8 hwt2 hwr;have e1:r.wt*(W:Int)=((r.wt.toNat*W:Nat):Int):=(by rw[Int.natCast_mul,hwt]);have w1:av .i64 (r.wt*(W:Int))=((r.wt.toNat*W:Nat):Int):=(by rw[e1];exact wrap64 (by omega) (by omega));have w2:av .i64 ((T:Int)+((r.wt.toNat*W:Nat):Int))=((T+r.wt.toNat*W:Nat):Int):=(by rw[wrap64 (by omega) (by omega)];omega);have k3:=λ(K:AV->Option (AV×St))=>CI K (p:=s.next) (o:=1) (h:=(ah s (.cells r.cells 0)).heap) (h2:=(ah s (.cells r.cells 0)).heap) (v:= .int .i64 r.wt) (by rw[hx];rfl) (by rw[hx];rfl) (by simp[eJ,jC,fy,mR,dN])
    rw[Zb4 hp];simp only[aD,aX,bV,aW,cV,cY,au,r1,cm,r2,cG,bN,Ba,aK,Zb1,aO,hx,az,Za6,Rl.c1,aQ,nG,d1,dh,iZ,Ze2,Zd7,cl,bw,bC,k3,atH,w1,aeX,w2,dy,wr]
  .have d1:decide (0<r.wt)=false:=Za2 hp;rw[Za7 hp];simp only[aD,aX,bV,aW,cV,cE,cY,au,r1,cm,r2,cG,bN,Ba,aK,Zb1,aO,hx,az,Za6,Rl.c1,aQ,nG,d1,dy,wr,Zg2]
theorem aoY(hc:bu c)(O:OP J)(jw:JW s jb j J)(w0:Wf s)(pq:QS 1 s P (q.map bH))(hq:Rs J q){f0:FuncId}{w:Rl->Nat}(hw:∀{s':St}{vb:Pos}{G:AV}{g:List Int},Vw s' vb jb j J P G q g->tL J.N q=some g->∀r∈J.p.rs,w r<=200000)
  (dF:∀{s':St}{vb:Pos}{G:AV}{g:List Int},Vw s' vb jb j J P G q g->tL J.N q=some g->∀{i:Nat}{r:Rl},J.p.rs[i]? =some r->c f0 [.ptr vb 0,.int .i64 (i:Int)] s'=some (.int .i64 ((w r:Nat):Int),s')):
  c 72 [.ptr jb 0,P,.func f0 [] []] s=some (.int .i64 ((jz w J.p.rs:Nat):Int),s):=by
 obtain⟨g,vb,G,s',hg,lk,gr,V⟩:=look_ok hc jw w0 pq hq;have vc:=V.vc;have jc:=V.jw.mj;have ln:=λ(K:AV->St->Option (AV×St))=>V.jw.iG.lenB (c:=c) K s'
 rw[Za3]at ln;obtain⟨s2,z1,z2⟩:=avw (c:=c) O (hw V hg) (λ{s'} V {i r} hi=>dF V hg hi) (J.p.rs.length+1) J.p.rs.length 0 (J.p.rs.length+1) s' (by omega) (by omega) V;simp only[Zo2,show jz w []=0 from rfl,show((0:Nat):Int)=0 from rfl]at z2;rw[Yq hc (J.p.rs.length+1) (r:=(.int .i64 ((jz w J.p.rs:Nat):Int),s2)),aE (Plain.int _ _) (gr.trans z1).keeps];rw[acC];simp only[au,bI,lk,bw,Rt,cE,cr,aK,Zb1,aO,vc,jc,az,Za6,Za4,Jc.c4,aQ,ln,z2,aD,aX]
theorem aly(hc:bu c)(O:OP J)(jw:JW s jb j J)(w0:Wf s)(pq:QS 1 s P (q.map bH))(hq:Rs J q):c 23 [.ptr jb 0,P] s=some (.int .i64 ((jz (fJ J q) J.p.rs:Nat):Int),s):=by
 have h:=aoY hc O jw w0 pq hq (f0:=41) (w:=fJ J q) (λ{s' vb G g} V hg r hr=>by obtain⟨m,R⟩:=O.rul r hr;exact(amS V hg R).1) (λ{s' vb G g} V hg {i r} hi=>aab hc O V hg hi);rw[Wz hc 1 (r:=(.int .i64 ((jz (fJ J q) J.p.rs:Nat):Int),s)),aE (Plain.int _ _) (aZ.refl s)];rw[aaE];simp[h]
theorem aiV(hc:bu c)(O:OP J)(jw:JW s jb j J)(w0:Wf s)(pq:QS 1 s P (q.map bH))(hq:Rs J q):c 22 [.ptr jb 0,P] s=some (.int .i64 ((jz (lJ J q) J.p.rs:Nat):Int),s):=by
 have h:=aoY hc O jw w0 pq hq (f0:=71) (w:=lJ J q) (λ{s' vb G g} V hg r hr=>by obtain⟨m,R⟩:=O.rul r hr;exact(amS V hg R).2) (λ{s' vb G g} V hg {i r} hi=>aoX hc O V hg hi);rw[Ug hc 1 (r:=(.int .i64 ((jz (lJ J q) J.p.rs:Nat):Int),s)),aE (Plain.int _ _) (aZ.refl s)];rw[Yr];simp[h]
end
def qC(P:Rl->Bool):List Rl->Nat->List Int
 |[],_=>[]
 |r::l,k=>(if P r then [(k:Int)]else [])++qC P l (k+1)
def jG(w:Rl->Nat)(r:Rl):Bool:=decide (r.wt=0)&&decide (0<w r)
section
variable{s:St}{vb jb:Pos}{j:Jc}{J:Jt}{P G:AV}{q g:List Int}
theorem acE(P:Rl->Bool):∀(l:List Rl)(k:Nat),(qC P l k).length<=l.length
 |[],_=>Za5 _
 |r::l,k=>by have:=acE P l (k+1);unfold qC;rw[Zd9,Zc7];split<;>simp<;>omega
theorem acF(P:Rl->Bool):∀(l:List Rl)(r:Rl)(k:Nat),qC P (l++[r]) k=qC P l k++(if P r then [((k+l.length:Nat):Int)]else [])
 |[],r,k=>by simp[qC]
 |a::l,r,k=>by rw[Zd8,qC,acF P l r (k+1),qC,Zf0];congr 3;rw[Zc7];simp;omega
theorem arG(w0:Wf s)(pq:QS 1 s P (q.map bH))(hl:q.length<=1000000)(x:Int)(F:Nat):∀(m k f:Nat),k+m=q.length->m<f->∃i:Nat,∀k1 k2:Q2,iJ c F k1 k2 f [P,.int .i64 x,.int .i64 (q.length:Int),.int .i64 (k:Int)] s=if(q.drop k).contains x then k1 [.int .i64 (i:Int)] s else k2 [] s:=by
 intro m;induction m with
 |zero=>
  intro k f hk hf;obtain⟨f,rfl⟩:∃g,f=g+1:=⟨f - 1,by omega⟩
  obtain rfl:k=q.length:=by omega
  refine⟨0,λk1 k2=> ?_⟩;rw[js];simp
 |succ m ih=>
  intro k f hk hf;obtain⟨f,rfl⟩:∃g,f=g+1:=⟨f - 1,by omega⟩
  have dM:k<q.length:=by omega
  obtain⟨pb,po,p⟩:=pZ pq (H0 dM);have p1:=λ{R}=>@p.st R
  have p3:=p.one;have wr:av .i64 ((k:Int)+1)=((k+1:Nat):Int):=wrap64 (by omega) (by omega);rw[Zd2 dM,Zq7];by_cases he:x=q[k]
  .refine⟨k,λk1 k2=> ?_⟩;rw[js];have e2:(x==q[k])=true:=(by simpa using he);have d2:decide (x=q[k])=true:=Za0 he;rw[e2,Bool.true_or];simp[dM,p1,p3,d2]
  .have Mx:(x==q[k])=false:=(by simpa using he);have d2:decide (x=q[k])=false:=Za2 he;obtain⟨i,hi⟩:=ih (k+1) f (by omega) (by omega);refine⟨i,λk1 k2=> ?_⟩;rw[Mx,Zm0, <-hi,js];simp[dM,p1,p3,d2,wr]
theorem agQ(hc:bu c)(w0:Wf s)(pq:QS 1 s P (q.map bH))(hl:q.length<=1000000)(x:Int):c 73 [P,.int .i64 x] s=some (.bool (q.contains x),s):=by
 have ln:=λ(K:AV->St->Option (AV×St))=>pq.lenB (c:=c) K s
 rw[Za3]at ln;obtain⟨i,hi⟩:=arG (c:=c) w0 pq hl x (q.length+1) q.length 0 (q.length+1) (by omega) (by omega);simp only[Ze3,show((0:Nat):Int)=0 from rfl]at hi;have ix:c 138 [P,.int .i64 x] s=some (if q.contains x then .int .i64 (i:Int)else .int .i64 (-1),s):=by rw[LD hc (q.length+1) (r:=(if q.contains x then .int .i64 (i:Int)else .int .i64 (-1),s)),aE (by split<;>exact Plain.int _ _) (aZ.refl s)];rw[Bb];simp only[au,ln,hi];split<;>simp
 rw[GH hc 1 (r:=(.bool (q.contains x),s)),aE (Plain.bool _) (aZ.refl s)];rw[yq];simp only[au,bI,ix,bw];generalize q.contains x=e;cases e<;>simp
theorem arH(hc:bu c)(O:OP J)(hg:tL J.N q=some g)(F:Nat):
  ∀ (m k f:Nat)(s:St),k+m=J.p.rs.length->m<f->Vw s vb jb j J P G q g->∃s',Grew s s'/\∀k1 k2:Q2,oe c F k1 k2 f [.ptr vb 0,j.V5,.int .i64 (J.p.rs.length:Int),.int .i64 (k:Int)] s=
    if(J.p.rs.drop k).any (jG (fJ J q))then k1 [.bool false] s' else k2 [] s':=by
 intro m;induction m with
 |zero=>
  intro k f s hk hf V;obtain⟨f,rfl⟩:∃g,f=g+1:=⟨f - 1,by omega⟩
  obtain rfl:k=J.p.rs.length:=by omega
  refine⟨s,Grew.refl V.wf,λk1 k2=> ?_⟩;rw[pL];simp
 |succ m ih=>
  intro k f s hk hf V;obtain⟨f,rfl⟩:∃g,f=g+1:=⟨f - 1,by omega⟩
  have dM:k<J.p.rs.length:=by omega
  have hi:=H0 dM;have hrs:=V.jw.kL.rs;have ed:=Zd2 dM;generalize hr0:J.p.rs[k]=r at*
  obtain⟨b,o,h1,Ba⟩:=Uf (c:=c) V hi;have r1:=λ{R}=>@h1.st R
  have r2:=h1.all;have gN:=Grew.ah V.wf (.cells r.cells 0);have V1:=V.ai gN;have hx:=aB s (.cells r.cells 0);have cl:=aab hc O V1 hg hi;have aW:decide ((k:Int)<(J.p.rs.length:Int))=true:=Za0 (by omega);have wr:av .i64 ((k:Int)+1)=((k+1:Nat):Int):=by rw[wrap64 (by omega) (by omega)];omega
  rw[ed,List.any_cons];have eh:jG (fJ J q) r=(decide (r.wt=0)&&decide (0<fJ J q r)):=rfl;rw[eh];obtain⟨s',z1,z2⟩:=ih (k+1) f _ (by omega) (by omega) V1;by_cases hp:r.wt=0
  . have d1:decide (r.wt=0)=true:=Za0 hp;by_cases hl:0<fJ J q r
    .   have d2:decide ((0:Int)<((fJ J q r:Nat):Int))=true:=Za0 (by omega);refine⟨_,gN,λk1 k2=> ?_⟩;rw[d1,Za0 hl,Zb4 (by simp),pL];simp only[aD,aX,bV,aW,cV,au,r1,cm,r2,cG,bN,Ba,aK,Zb1,aO,hx,az,Za6,Rl.c1,aQ,dJ,d1,fZ,bI,cl,bw,nG,d2,mU]
    .   have d2:decide ((0:Int)<((fJ J q r:Nat):Int))=false:=Za2 (by omega);refine⟨s',gN.trans z1,λk1 k2=> ?_⟩;rw[d1,Za2 hl,Bool.and_false,Zm0, <-z2 k1 k2,pL];simp only[aD,aX,bV,aW,cV,cE,au,r1,cm,r2,cG,bN,Ba,aK,Zb1,aO,hx,az,Za6,Rl.c1,aQ,dJ,d1,fZ,bI,cl,bw,nG,d2,mU,dy,wr]
  .have d1:decide (r.wt=0)=false:=Za2 hp;refine⟨s',gN.trans z1,λk1 k2=> ?_⟩;rw[d1,Zo5,Zm0, <-z2 k1 k2,pL];simp only[aD,aX,bV,aW,cV,cE,au,r1,cm,r2,cG,bN,Ba,aK,Zb1,aO,hx,az,Za6,Rl.c1,aQ,dJ,d1,XS,jY,dy,wr]
theorem aiW(hc:bu c)(O:OP J)(jw:JW s jb j J)(w0:Wf s)(pq:QS 1 s P (q.map bH))(hq:Rs J q):c 28 [.ptr jb 0,P] s=some (.bool (!q.contains (-1)&& !J.p.rs.any (jG (fJ J q))),s):=by
 obtain⟨g,vb,G,s',hg,lk,gr,V⟩:=look_ok hc jw w0 pq hq;have hn:J.n<=100:=jw.kL.gs;have ct:=agQ hc V.wf V.pq (by have:=hq.len;omega) (-1);have vc:=V.vc;have jc:=V.jw.mj;have ln:=λ(K:AV->St->Option (AV×St))=>V.jw.iG.lenB (c:=c) K s'
 rw[Za3]at ln;obtain⟨s2,z1,z2⟩:=arH (c:=c) hc O hg (J.p.rs.length+1) J.p.rs.length 0 (J.p.rs.length+1) s' (by omega) (by omega) V;simp only[Ze3,show((0:Nat):Int)=0 from rfl]at z2;generalize q.contains (-1)=e at*
 cases e
 .rw[DN hc (J.p.rs.length+1) (r:=(.bool (!false&& !J.p.rs.any (jG (fJ J q))),s2)),aE (Plain.bool _) (gr.trans z1).keeps];rw[Ib];simp only[au,bI,lk,bw,Rt,fZ,ct,jY,cE,cr,aK,Zb1,aO,vc,jc,az,Za6,Za4,Jc.c4,aQ,ln,z2];generalize J.p.rs.any (jG (fJ J q))=e2;cases e2<;>simp
 .rw[DN hc (J.p.rs.length+1) (r:=(.bool (!true&& !J.p.rs.any (jG (fJ J q))),s')),aE (Plain.bool _) gr.keeps];rw[Ib];simp only[au,bI,lk,bw,Rt,fZ,ct,jY,cV];simp
end
def BN(x:Int)(n:Nat):Nat:=(x % (n:Int)).toNat
theorem arI(x:Int){n:Nat}(h:0<n):BN x n<n:=by have h1:=Zs4 x (show(n:Int)≠0 by omega);have h2:=Zq9 x (show(0:Int)<(n:Int)by omega);unfold BN;omega
theorem auf(hc:bu c)(x:Int){n:Nat}(h:0<n)(hn:n<=1000000)(s:St):c 24 [.int .i64 x,.int .i64 (n:Int)] s=some (.int .i64 ((BN x n:Nat):Int),s):=by
 have h1:=Zs4 x (show(n:Int)≠0 by omega);have h2:=Zq9 x (show(0:Int)<(n:Int)by omega);have e:((BN x n:Nat):Int)=x % (n:Int):=by unfold BN;omega
 have rm:=λ(K:AV->St->Option (AV×St))(s:St)=>ae1 c K s .num .i64 x (n:Int) (by omega)
 have t:=Int.tmod_eq_emod (a:=x) (b:=(n:Int));rw[WE hc 1 (r:=(.int .i64 ((BN x n:Nat):Int),s)),aE (Plain.int _ _) (aZ.refl s)];rw[aaG,e];by_cases hd:0<=x\/(n:Int) ∣ x
 .rw[Zb4 hd]at t;have t:x.tmod (n:Int)=x % (n:Int):=(by rw[t];exact Int.sub_zero _);have d:decide (x % (n:Int)<0)=false:=Za2 (by omega);simp[-ig,rm,t,cY,d]
 .rw[Za7 hd]at t;have t:x.tmod (n:Int)=x % (n:Int) - (n:Int):=(by rw[t,Int.natAbs_natCast]);have d:decide (x % (n:Int) - (n:Int)<0)=true:=Za0 (by omega);have w:av .i64 (x % (n:Int))=x % (n:Int):=wrap64 (by omega) (by omega);simp[-ig,rm,t,cY,d,w]
abbrev uH(tk:List Bool):List AV:=tk.map AV.bool
theorem arJ{tb:Pos}{tk:List Bool}(hl:tk.length<=1000000){fr:Nat}(hf:fr<=1000000){s:St}(ht:s.heap.get tb=some (.cells (uH tk) 0))(F:Nat):∀(m k f:Nat),k+m=tk.length->m<f->∀k1 k2:Q2,
  mz c F k1 k2 f [.slice tb 0 tk.length (some tk.length) 1,.int .i64 (fr:Int),.int .i64 (k:Int)] s=
    match rq tk fr m k with
    |some i=>k1 [.int .i64 (i:Int)] (bn s tb (.cells (uH (tk.set i true)) 0))
    |none=>k2 [] s:=by
 intro m;induction m with
 |zero=>
  intro k f hk hf k1 k2;obtain⟨f,rfl⟩:∃g,f=g+1:=⟨f - 1,by omega⟩
  obtain rfl:k=tk.length:=by omega
  rw[sK];simp[lK,rq]
 |succ m ih=>
  intro k f hk hf k1 k2;obtain⟨f,rfl⟩:∃g,f=g+1:=⟨f - 1,by omega⟩
  have dM:k<tk.length:=by omega
  have aW:decide ((k:Int)<(tk.length:Int))=true:=Za0 (by omega);have w1:av .i64 ((fr:Int)+(k:Int))=((fr+k:Nat):Int):=by rw[wrap64 (by omega) (by omega)];omega
  have wr:av .i64 ((k:Int)+1)=((k+1:Nat):Int):=by rw[wrap64 (by omega) (by omega)];omega
  have hi:(fr+k) % tk.length<tk.length:=Zk6 _ (by omega);have rm:∀(K:AV->St->Option (AV×St))(s:St),aq c (.bin .rem .num) [.int .i64 ((fr+k:Nat):Int),.int .i64 (tk.length:Int)] s K=K (.int .i64 (((fr+k) % tk.length:Nat):Int)) s:=λK s=>by
    rw[dD (by omega) (by omega),Zp1]
  generalize hm:(fr+k) % tk.length=i at*
  have ix:=λ(K:AV->St->Option (AV×St))(s1:St)=>je c K s1 (b:=tb) (off:=0) (len:=tk.length) (es:=1) (es':=1) (cap:=some tk.length) (k:= .i64) (i:=i) hi
  simp only[Zb1,Zn4]at ix;have ec:(uH tk)[i]? =some (.bool tk[i]):=by rw[Zb3,H0 hi];rfl
  have eg:tk.getD i true=tk[i]:=by rw[Zb9,H0 hi];rfl
  unfold rq;rw[hm,eg];cases hb:tk[i]
  . (rw[hb]at ec;have pt:=λ(K:AV->St->Option (AV×St))=>CJ (c:=c) K ht (o:=i) (by rw[Za3];exact hi) (v:= .bool true) rfl rfl);rw[show(uH tk).set i (.bool true)=uH (tk.set i true)from(Zr8).symm]at pt;rw[Zb4 rfl,sK];simp only[aD,aX,au,lK,bV,aW,cV,dy,w1,rm,ix,aO,ht,az,Za6,ec,aQ,Gn,Zk9,pt]
  .rw[hb]at ec;rw[Za7 (by simp), <-ih (k+1) f (by omega) (by omega) k1 k2,sK];simp only[aD,aX,au,lK,bV,aW,cV,cE,dy,w1,rm,ix,aO,ht,az,Za6,ec,aQ,Gn,Zi4,wr]
theorem aoZ{a b:List Bool}(h:uH a=uH b):a=b:=by
 induction a generalizing b with
 |nil=>cases b with|nil=>rfl|cons y b=>simp at h
 |cons x a ih=>
  cases b with
  |nil=>simp at h
  |cons y b=>
   simp only[Zd1,Zf8,AV.bool.injEq]at h;rw[h.1,ih h.2]
theorem ao0(hc:bu c){tb:Pos}{tk:List Bool}(hl:tk.length<=1000000){fr:Nat}(hf:fr<=1000000){s:St}(ht:s.heap.get tb=some (.cells (uH tk) 0)):
  c 36 [.slice tb 0 tk.length (some tk.length) 1,.int .i64 (fr:Int)] s=some (.int .i64 (ru tk fr).2,bn s tb (.cells (uH (ru tk fr).1) 0)):=by
 have lp:=λ(k1 k2:Q2)=>arJ (c:=c) hl hf ht (tk.length+1) tk.length 0 (tk.length+1) (by omega) (by omega) k1 k2
 simp only[show((0:Nat):Int)=0 from rfl]at lp;unfold ru;cases Ft:rq tk fr tk.length 0 with
 |none=>
  simp only[Ft]at lp ⊢;rw[aiI ht];rw[Bc hc (tk.length+1) (r:=(.int .i64 (-1),s)),aE (Plain.int _ _) (aZ.refl s)];rw[DO];simp[lp]
 |some i=>
  simp only[Ft]at lp ⊢;have hb:=Js Ft;have ne:tk.set i true≠tk:=λe=>by have h2:(tk.set i true)[i]? =some true:=(by rw[Zg4 (Za1.1 hb).1]);rw[e,hb]at h2;cases h2
  rw[Bc hc (tk.length+1) (r:=(.int .i64 (i:Int),bn s tb (.cells (uH (tk.set i true)) 0))),ae0 ht (by rw[bW];intro e;simp only[H5,AB.cells.injEq,Zo0]at e;exact ne (aoZ e))];rw[DO];simp[lp]
def amT(p:bE):Prop:=∀t∈p.ts,nY t.sh t.a t.b=bQ t/\(0<=t.a/\t.a<=1000000)/\0<=t.b/\t.b<=1000000
section
variable{st sB s:St}{Vs:List AV}{p:bE}
theorem PS.rT(h:PS st s Vs p):∃V1 V2 r1 r2,Vs[0]? =some V1/\Vs[1]? =some V2/\TS st s V1 p.ts r1/\GS st s V2 p.gs r2/\Vs.length=5:=by
 obtain⟨V1,V2,V3,V4,V5,r1,r2,rfl,h1,h2,_⟩:=h.all;exact⟨V1,V2,r1,r2,rfl,rfl,h1,h2,rfl⟩
theorem TS.ML{V:AV}{ts:List aC}{rows:List (List AV)}(h:TS st s V ts rows){t:Nat}{T:aC}(ht:ts[t]? =some T):∃v b o,Rd s 7 V t b o (T.ay v):=by
 have hl:t<rows.length:=by rw[h.len];exact(Za1.1 ht).1
 obtain⟨v,e,_⟩:=h.eI t T rows[t] ht (H0 hl);obtain⟨b,o,h4⟩:=h.out.own.rd h.out.row (H0 hl);exact⟨v,b,o,by rw[<-e];exact h4⟩
theorem amU(hc:bu c)(hz:amT p)(uO:p.ts.length<=100){pb:Pos}{V1:AV}{cs:List AV}{r1:List (List AV)}(hw:Wf s)(hp:s.heap.get pb=some (.cells cs 0))(h0:cs[0]? =some V1)(T:TS st s V1 p.ts r1)(F:Nat):∀(m k f:Nat),k+m=p.ts.length->m<f->∀k2:Q2,
  kz c F k2 f [.ptr pb 0,.int .i64 (bg (p.ts.take k)),.int .i64 (k:Int)] s=k2 [.int .i64 (bg p.ts)] s:=by
 have ln:=λ(K:AV->St->Option (AV×St))=>T.out.own.lenB (c:=c) K s
 rw[T.len]at ln;intro m;induction m with
 |zero=>
  intro k f hk hf k2;obtain⟨f,rfl⟩:∃g,f=g+1:=⟨f - 1,by omega⟩
  obtain rfl:k=p.ts.length:=by omega
  rw[yu,Zg1];simp[hp,h0,ln]
 |succ m ih=>
  intro k f hk hf k2;obtain⟨f,rfl⟩:∃g,f=g+1:=⟨f - 1,by omega⟩
  have dM:k<p.ts.length:=by omega
  have hi:=H0 dM;obtain⟨v,b,o,h1⟩:=T.ML hi;have z:=hz _ (Zb8 dM);have sz:=Yc p.ts[k];have sn:=Ye p.ts[k];have et:bg (p.ts.take (k+1))=bg (p.ts.take k)+bQ p.ts[k]:=(Uh dM).1;generalize p.ts[k]=t at*
  have r1:=λ{R}=>@h1.st R
  have r2:=h1.all;have sl:=MW hc (l:=t.ay v) (sh:=t.sh) (a:=t.a) (b:=t.b) rfl rfl rfl z.2.1 z.2.2 s hw;rw[z.1]at sl;have n1:=ry (p.ts.take k);rw[Zf1]at n1;have aW:decide ((k:Int)<(p.ts.length:Int))=true:=Za0 (by omega);have w1:av .i64 (bg (p.ts.take k)+bQ t)=bg (p.ts.take k)+bQ t:=wrap64 (by omega) (by omega);have wr:av .i64 ((k:Int)+1)=((k+1:Nat):Int):=by rw[wrap64 (by omega) (by omega)];omega
  rw[<-ih (k+1) f (by omega) (by omega) k2,yu,et];simp only[aD,aX,au,aK,Zb1,aO,hp,az,Za6,h0,aQ,ln,bV,aW,cV,r1,cm,r2,cG,bI,sl,bw,dy,w1,wr]
theorem amV(hc:bu c)(h:PS st s Vs p)(hz:amT p)(uO:p.ts.length<=100):c 35 [.agg Vs] s=some (.int .i64 (bg p.ts),s):=by
 have hw:=h.ai.wf;have gN:=Grew.ah hw (.cells Vs 0);obtain⟨V1,V2,r1,r2,e1,_,T,_,_⟩:=(h.Ly gN).rT;have lp:=λ(k2:Q2)=>amU (c:=c) hc hz uO gN.wf (aB s (.cells Vs 0)) e1 T (p.ts.length+1) p.ts.length 0 (p.ts.length+1) (by omega) (by omega) k2
 simp only[Zo2,show bg ([]:List aC)=0 from rfl,show((0:Nat):Int)=0 from rfl]at lp;rw[MX hc (p.ts.length+1) (r:=(.int .i64 (bg p.ts),ah s (.cells Vs 0))),aE (Plain.int _ _) gN.keeps];rw[PZ];simp only[di,show ∀l,AV.cells (.agg l)=l from λl=>rfl,au,lp,aD,aX]
def Ic(ch:Nat->Ch):Nat->Nat->List Ch
 |0,_=>[]
 |m+1,k=>ch k::Ic ch m (k+1)
structure SeI(sB s:St)(tb:Pos)(tk:List Bool)(v:AV)(R:List Int):Prop where
 Ys:Mk 1 sB s v (R.map bH)
 tkn:s.heap.get tb=some (.cells (uH tk) 0)
 ge:sB.next.toNat<=tb.toNat
 ap:∀b,aR v=some b->tb.toNat+1<=b.toNat
theorem SeI.set{tb:Pos}{tk uU:List Bool}{v:AV}{R:List Int}(h:SeI sB s tb tk v R):SeI sB (bn s tb (.cells (uH uU) 0)) tb uU v R:=by
 have aW:=h.Ys.ai.wf _ _ h.tkn;have g:=yY h.Ys.jW h.Ys.ai h.ge aW (.cells (uH uU) 0);exact⟨h.Ys.rW g λb x hb hx=>by rw[aM (λe=>by have:=h.ap b hb;rw[<-e]at this;omega)];exact hx,bW _ _ _,h.ge,h.ap⟩
theorem SeI.push{tb:Pos}{tk:List Bool}{v:AV}{R:List Int}(h:SeI sB s tb tk v R)(hR:R.length<=1000)(x:Int):∃s5 v',(∀(K:AV->St->Option (AV×St)),aq c (.buildSlice 1 1 [.int .i64 0] [0]) [.int .i64 x] s (λy t=>aq c (.append 1 8) [v,y] t K)=K v' s5)/\SeI sB s5 tb tk v' (R++[x]):=by have aW:=h.Ys.ai.wf _ _ h.tkn;obtain⟨s5,v5,a1,a2,a3,a4⟩:=h.Ys.push (R:=AV×St) (c:=c) (bytes:=8) (z:=[.int .i64 0]) (x:= .int .i64 x) rfl rfl rfl (by omega) (by rw[Za3];omega) (by rw[Za3];omega);refine⟨s5,v5,a1,⟨by rw[Zc8];exact a2,a3 tb _ (λe=>by have:=h.ap tb e;omega) h.tkn,h.ge,λb hb=> ?_⟩⟩;have:=a4 b hb;omega
def Vt(N:Nat)(xs:List Int)(g:Nat):Ch:=match xs[g]? with
 |some x=>if BN x (N+1)=N then .no else .fr (BN x (N+1))
 |none=>.no
theorem ao1(hc:bu c){pb tb:Pos}{cs:List AV}{V2:AV}{r2:List (List AV)}(hp:sB.heap.get pb=some (.cells cs 0))(h1:cs[1]? =some V2)(T:GS st sB V2 p.gs r2){N:Nat}(hN:N<=100000)(hgs:p.gs.length<=100)(z:Bool)(xs:List Int)(hx:xs.length<=9223372036854775807)(F:Nat):
  ∀ (m k f:Nat)(s:St)(tk:List Bool)(v:AV)(R:List Int),k+m=p.gs.length->m<f->SeI sB s tb tk v R->tk.length=N->R.length=k->∃s' v' uU,SeI sB s' tb uU v' (R++ij tk (Ic (Vt N xs) m k))/\
    ∀k2:Q2,fK c F k2 f [ints z xs,.ptr pb 0,.int .i64 (N:Int),.slice tb 0 N (some N) 1,v,.int .i64 (k:Int)] s=k2 [v'] s':=by
 intro m;induction m with
 |zero=>
  intro k f s tk v R hk hf hS hl hR;obtain⟨f,rfl⟩:∃g,f=g+1:=⟨f - 1,by omega⟩
  obtain rfl:k=p.gs.length:=by omega
  have kF:=hS.Ys.ai.get hp;have T1:=T.ai hS.Ys.ai;have ln:=λ(K:AV->St->Option (AV×St))=>T1.out.own.lenB (c:=c) K s
  rw[T1.len]at ln;refine⟨s,v,tk,by simpa [Ic,ij]using hS,λk2=> ?_⟩;rw[ni];simp[kF,h1,ln]
 |succ m ih=>
  intro k f s tk v R hk hf hS hl hR;obtain⟨f,rfl⟩:∃g,f=g+1:=⟨f - 1,by omega⟩
  have dM:k<p.gs.length:=by omega
  have kF:=hS.Ys.ai.get hp;have T1:=T.ai hS.Ys.ai;have ln:=λ(K:AV->St->Option (AV×St))=>T1.out.own.lenB (c:=c) K s
  rw[T1.len]at ln;have aW:decide ((k:Int)<(p.gs.length:Int))=true:=Za0 (by omega);have wr:av .i64 ((k:Int)+1)=((k+1:Nat):Int):=by rw[wrap64 (by omega) (by omega)];omega
  have wN:av .i64 ((N:Int)+1)=((N+1:Nat):Int):=by rw[wrap64 (by omega) (by omega)];omega
  obtain⟨s5,v5,a1,a2⟩:=hS.push (c:=c) (by omega) (-1)
  have no:Vt N xs k= .no->(∀k2:Q2,fK c F k2 (f+1) [ints z xs,.ptr pb 0,.int .i64 (N:Int),.slice tb 0 N (some N) 1,v,.int .i64 (k:Int)] s=fK c F k2 f [ints z xs,.ptr pb 0,.int .i64 (N:Int),.slice tb 0 N (some N) 1,v5,.int .i64 ((k+1:Nat):Int)] s5)->
        ∃s' v' uU,SeI sB s' tb uU v' (R++ij tk (Ic (Vt N xs) (m+1) k))/\∀k2:Q2,fK c F k2 (f+1) [ints z xs,.ptr pb 0,.int .i64 (N:Int),.slice tb 0 N (some N) 1,v,.int .i64 (k:Int)] s=k2 [v'] s':=λhch iQ=>by
    obtain⟨s',v',uU,z1,z2⟩:=ih (k+1) f s5 tk v5 (R++[-1]) (by omega) (by omega) a2 hl (by simp[hR]);refine⟨s',v',uU,?_,λk2=>by rw[iQ,z2]⟩;rw[Ic,hch,ij];simpa using z1
  by_cases MY:k<xs.length
  . have hlx:decide ((k:Int)<(xs.length:Int))=true:=Za0 (by omega);have pk:=auf hc xs[k] (n:=N+1) (by omega) (by omega) s;have plt:=arI xs[k] (n:=N+1) (by omega);simp only[show((N+1:Nat):Int)=(N:Int)+1 by omega]at pk wN;have ech:Vt N xs k=if BN xs[k] (N+1)=N then .no else .fr (BN xs[k] (N+1)):=by unfold Vt;rw[H0 MY]
    have at':=aiX xs k MY;by_cases hpn:BN xs[k] (N+1)=N
    .   rw[Zb4 hpn]at ech;(refine no ech λk2=> ?_);rw[hpn]at pk;rw[ni];unfold ints at*
        simp[-ax,cY,kF,h1,ln,aW,dM,MY,at',wN,pk,a1,wr]
    .   rw[Za7 hpn]at ech;generalize BN xs[k] (N+1)=fr at*
        have dn:decide ((fr:Int)=(N:Int))=false:=Za2 (by omega);have pl:=ao0 hc (tk:=tk) (tb:=tb) (by omega) (fr:=fr) (by omega) hS.tkn;rw[hl]at pl;obtain⟨s6,v6,b1,b2⟩:=(hS.set (uU:=(ru tk fr).1)).push (c:=c) (by omega) (ru tk fr).2;obtain⟨s',v',uU,z1,z2⟩:=ih (k+1) f s6 _ v6 _ (by omega) (by omega) b2 (by rw[aoE];exact hl) (by simp[hR]);refine⟨s',v',uU,?_,λk2=> ?_⟩
        .rw[Ic,ech,ij];simpa using z1
        . rw[<-z2 k2,ni];unfold ints at*
          simp[-ax,cY,kF,h1,ln,aW,dM,MY,at',wN,pk,dn,pl,b1,wr]
  . have hlx:decide ((k:Int)<(xs.length:Int))=false:=Za2 (by omega);(refine no (by unfold Vt;rw[Zc0 (by omega)]) λk2=> ?_);rw[ni];unfold ints at*
    simp[-ax,cY,kF,h1,ln,aW,dM,MY,a1,wr]
theorem ao2(N:Nat):List.replicate N (AV.bool false)=uH (List.replicate N false):=List.map_replicate.symm
theorem ao3(hc:bu c)(h:PS st s Vs p)(hz:amT p)(uO:p.ts.length<=100)(hgs:p.gs.length<=100){N:Nat}(hN:(N:Int)=bg p.ts)(z:Bool)(xs:List Int)(hx:xs.length<=9223372036854775807):
  ∃s' v,c 10 [.agg Vs,ints z xs] s=some (v,s')/\Mk 1 s s' v ((ij (List.replicate N false) (Ic (Vt N xs) p.gs.length 0)).map bH):=by
 have hw:=h.ai.wf;have gN:=Grew.ah hw (.cells Vs 0);have h1:=h.Ly gN;obtain⟨V1,V2,r1,r2,e1,e2,T,T2,e5⟩:=h1.rT;have so:=amV hc h1 hz uO;rw[<-hN]at so;have hN1:N<=100000:=by have:=(ry p.ts).2;omega
 have hcut:cut Vs 0 5=some Vs:=cQ e5;have mk:=λ(K:AV->St->Option (AV×St))=>ae2 c K (ah s (.cells Vs 0)) (es:=1) (bytes:=1) (z:=[.bool false]) (k:= .i64) (k':= .i64) (n:=N) (by omega) (by omega)
 rw[DE,ao2]at mk;have gT:=Grew.ah gN.wf (.cells (uH (List.replicate N false)) 0);have S0:SeI (ah s (.cells Vs 0)) (ah (ah s (.cells Vs 0)) (.cells (uH (List.replicate N false)) 0)) (ah s (.cells Vs 0)).next (List.replicate N false) .af []:=
  ⟨Mk.start gN.wf gT,aB _ _,Za5 _,λb e=>(nomatch e)⟩
 obtain⟨s',v',uU,z1,z2⟩:=ao1 (c:=c) hc (aB s (.cells Vs 0)) e2 T2 hN1 hgs z xs hx (p.gs.length+1) p.gs.length 0 (p.gs.length+1) _ _ _ [] (by omega) (by omega) S0 (by simp) rfl;have M:=z1.Ys.back hw gN;rw[Ze2]at M;obtain⟨s3,t1,t2⟩:=M.tidy;refine⟨s3,v',?_,t2⟩;simp only[show((0:Nat):Int)=0 from rfl]at z2;rw[Oh hc (p.gs.length+1) (r:=(v',s')),t1];rw[Ru];simp only[di,show ∀l,AV.cells (.agg l)=l from λl=>rfl,au,cm,aB,az,Za6,hcut,cG,bI,so,bw,mk,z2,aD,aX]
end
theorem alz(ch:Nat->Ch):∀(m k i:Nat),(Ic ch m k)[i]? =if i<m then some (ch (k+i))else none
 |0,k,i=>by simp[Ic]
 |m+1,k,0=>by simp[Ic]
 |m+1,k,i+1=>by
  rw[Ic,Zb6,alz ch m (k+1) i];by_cases h:i<m
  .rw[Zb4 h,Zb4 (by omega)];congr 2;omega
  .rw[Za7 h,Za7 (by omega)]
theorem alA(ch:Nat->Ch):∀(m k:Nat),(Ic ch m k).length=m
 |0,k=>rfl
 |m+1,k=>by rw[Ic,Zc7,alA ch m (k+1)]
theorem aiY{N:Nat}:∀(q:List Int)(i:Nat)(g:List Int),(∀x∈q,-1<=x/\x<(N:Int))->(∀x∈q,0<=x->g.getD x.toNat (-1)<0)->(∀(a b:Nat)(x:Int),a<b->q[a]? =some x->q[b]? =some x->x<0)->∃g',Vq N q i g=some g'
 |[],i,g,_,_,_=>⟨g,rfl⟩
 |x ::q,i,g,h1,h2,h3=>by
  have a1:=h1 x (Zd6);have a2:=h2 x (Zd6);unfold Vq;rw[Za7 (by omega)];refine aiY q (i+1) _ (λy hy=>h1 y (Zb0 _ hy)) (λy hy h0=> ?_) (λa b y hab ha hb=>h3 (a+1) (b+1) y (by omega) (by simpa using ha) (by simpa using hb));have b1:=h2 y (Zb0 _ hy) h0;split
  . rename_i hx;by_cases e:x.toNat=y.toNat
    .   obtain⟨b,hb⟩:=Zf4.1 hy;have:=h3 0 (b+1) x (by omega) rfl (by rw[Zb6,hb];congr 1;omega);omega
    .   rw[Zb9,Zf2 e, <-Zb9];exact b1
  .exact b1
theorem avx{J:Jt}{q:List Int}(hl:q.length=J.n)(h1:∀x∈q,-1<=x/\x<(J.N:Int))(h3:∀(a b:Nat)(x:Int),a<b->q[a]? =some x->q[b]? =some x->x<0):Rs J q:=
 ⟨hl,aiY q 0 _ h1 (λx hx h0=>by
  have:=h1 x hx;rw[Zb9];by_cases h:x.toNat<J.N
  .rw[Zn5,Zb4 h];decide
  .omega) h3⟩
theorem aug{J:Jt}{tk:List Bool}{l:List Ch}(hs:Sat tk l)(hl:l.length=J.n)(ht:tk.length=J.N):Rs J (ij tk l):=by
 refine avx (by rw[Tz];exact hl) (λx hx=> ?_) (λa b x hab ha hb=> ?_)
 . obtain⟨i,hi⟩:=Zf4.1 hx;rcases CN l tk hs i x hi with rfl|⟨s,rfl,h|h⟩
   .omega
   .have:=(Za1.1 h).1;omega
   .have:=(Za1.1 h.1).1;omega
 .have:=Lx l tk hs a b x hab ha hb;omega
theorem age{J:Jt}{n:Nat}(hn:n=J.n)(xs:List Int):Rs J (ij (List.replicate J.N false) (Ic (Vt J.N xs) n 0)):=by
 have no:∀s,Ch.X9 s∉Ic (Vt J.N xs) n 0:=λs h=>by
  obtain⟨i,hi⟩:=Zf4.1 h;rw[alz]at hi;split at hi
  . simp only[H5]at hi;unfold Vt at hi;split at hi
    .split at hi<;>cases hi
    .cases hi
  .cases hi
 exact aug ⟨λs h=>absurd h (no s),λi j s h _=>absurd (Zc5 h) (no s)⟩ (by rw[alA];exact hn) (by simp)
theorem adT(i:Nat):∀x∈bY i,x<256:=λx hx=>by simp only[bY,Za9,Zc6,Zf3]at hx;omega
theorem acG(p:Prop)[Decidable p](i:Nat):∀x∈(if p then bY i else []),x<256:=by
 split
 .exact adT i
 .intro x hx;cases hx
theorem arK(i x:Nat):(yZ i x).Real where
 name:=adT _
 Au:=acG (x % 2=1) _
 j5:=acG (4<x % 8) _
 mY:=acG (x % 3=2) _
 tg:=Zb2 (ate x).2 (by decide)
theorem Yt(i x:Nat):(kC i x).kK.length<=16:=by have h1:=aiZ x (tN x);have h2:=adU x;show((DP x (tN x)).map λ(k:Nat)=>(k:Int)).length<=16;rw[Za3];omega
theorem zc(xt xg xy xr:List Nat):(iw xt xg xy xr).uz where
 ts:=by show(sM xt _).length<=100;rw[Ui];omega
 gs:=by have:=Ie (uV xt xg);show(gI _).length<=100;omega
 ys:=by have:=(agf (uV xt xg) xy).1;show(DQ _ _).length<=100;omega
 cs:=by
  have:=Ie (uV xt xg);show(kR xt xg xy).length<=100;unfold kR;split
  .rw[GJ];show(gI _).length<=100;omega
  .exact Zi6 _
 rs:=by have:=Uj (oh xt) (nk xt xg) xr (min xr.length 12);show(B6 _ _ _ _).length<=100;omega
 ok t ht:=by
  obtain⟨i,x,rfl⟩:=Uk ht;have:=Yt i x;exact⟨by show(fQ i).length<vM;unfold fQ vM;simp,by unfold vM;omega⟩
theorem agh(xt xg xy xr:List Nat):(iw xt xg xy xr).Real where
 ts:=by have:=(zc xt xg xy xr).ts;omega
 tab t ht:=by obtain⟨i,x,rfl⟩:=Uk ht;have:=Yt i x;refine⟨λy hy=> ?_,Zb2 this (by decide)⟩;have hy:y∈fQ i:=hy;simp only[fQ,Za9,Zc6,Zf3]at hy;omega
 gs:=by have:=(zc xt xg xy xr).gs;omega
 qK g hg:=by obtain⟨i,hi⟩:=Zf4.1 hg;obtain⟨_,rfl⟩:=OQ (xs:=uV xt xg) hi;exact arK _ _
 ys:=Zb2 (zc xt xg xy xr).ys (by decide)
 cs:=Zb2 (zc xt xg xy xr).cs (by decide)
 rs:=Zb2 (zc xt xg xy xr).rs (by decide)
theorem avy(ts:List aC)(gs:List aS)(x:Nat):(iz ts gs x).1.k=((1+x % 18:Nat):Int):=by
 unfold iz Ul
 repeat' split
 all_goals rfl
theorem adV{xt xg xy xr:List Nat}(hx:∀x∈xt,x<256):∀r∈(iw xt xg xy xr).rs,r.Ok/\nX (iw xt xg xy xr) r=0:=λr hr=>by obtain⟨x,h1,rfl⟩:=acH hr;refine⟨?_,ao4 (p:=iw xt xg xy xr) agi Yu Yv (P0 hx) x h1⟩;have:=avy (oh xt) (nk xt xg) x;unfold Rl.Ok;omega
theorem ao5{xt xg xy xr:List Nat}(hx:∀x∈xt,x<256):amT (iw xt xg xy xr):=λt ht=>by
 have h1:=P0 hx t ht;have h2:=ai0 t ht;exact⟨h1.1.symm,h2.1,h2.2.1,h2.2.2⟩
theorem agj{xt xg xy xr:List Nat}(hx:∀x∈xt,x<256):((iw xt xg xy xr).gs.length:Int)<=bg (iw xt xg xy xr).ts:=by show((gI (uV xt xg)).length:Int)<=bg (sM xt (min xt.length 3));unfold gI;rw[MZ,Yw hx _ (by omega)];unfold uV;rw[Zf1];omega
structure Jg(s:St)(jb:Pos)(j:Jc)(J:Jt)(p:bE):Prop where
 jw:JW s jb j J
 ok:OP J
 sim:p.dQ J.p
 fit:J.n<=J.N
 bc:J.ja=Na J.p.gs
 kc:J.jd=Nb J.p.gs J.p.ys
theorem Jg.n{s:St}{jb:Pos}{j:Jc}{J:Jt}{p:bE}(h:Jg s jb j J p):J.n=p.gs.length:=h.sim.gl
theorem Jg.sum{s:St}{jb:Pos}{j:Jc}{J:Jt}{p:bE}(h:Jg s jb j J p):(J.N:Int)=bg p.ts:=by rw[h.jw.nN];exact h.sim.sum
theorem Jg.ai{s s':St}{jb:Pos}{j:Jc}{J:Jt}{p:bE}(h:Jg s jb j J p)(g:Grew s s'):Jg s' jb j J p:=⟨h.jw.ai g,h.ok,h.sim,h.fit,h.bc,h.kc⟩
theorem Yx{R:Type}{s:St}{b:Pos}{Vs:List AV}(h:s.heap.get b=some (.cells Vs 0))(hl:Vs.length=5)(K:AV->St->Option R):aq c (.load (some 5)) [.ptr b 0] s K=K (.agg Vs) s:=by rw[cm,h];simp only[az,Za6];rw[cQ hl];rfl
theorem uz.avz{p p':bE}(S:p.dQ p')(hr:∀r∈p.rs,r.Ok/\nX p r=0):∀r∈p'.rs,∃m,RuV p' r m:=λr h=>by
 rw[S.rs]at h;obtain⟨a,b⟩:=hr r h;exact aoR a (by rw[S.rule];exact b)
theorem agR{b:Pos}{o:Nat}{l:List AV}{t:Bool}(hi:∀u∈l,dV u):¬Plain (.tuple [.ptr b o,.agg l,.bool t]):=λh=>by
 obtain⟨N0,K0,h1⟩:=inst_list hi;obtain⟨xs,hx⟩:=h1 (max N0 (b.toNat+1)) K0 (by omega) (Za5 _);have e1:aG (λ_=>⟨0,0,K0⟩) (max N0 (b.toNat+1)) (λ_=>none) (.agg l) (.agg xs.toArray):= .agg l _ (by rw[hx.1];simp) λi v x hv xq=>hx.2 i v x hv (by simpa using xq)
 obtain⟨x0,e0⟩:∃x,aG (λ_=>⟨0,0,K0⟩) (max N0 (b.toNat+1)) (λ_=>none) (.ptr b o) x:=⟨_,.ptr b o (by omega)⟩
 obtain⟨x2,e2⟩:∃x,aG (λ_=>⟨0,0,K0⟩) (max N0 (b.toNat+1)) (λ_=>none) (.bool t) x:=⟨_,.bool t⟩
 have:=h _ (λ_=>⟨0,0,0⟩) _ 0 (λ_=>none) _ (.tuple _ #[x0,.agg xs.toArray,x2] rfl (λi v v' hv hx=>by
  match i with
  |0=>simp at hv hx;subst hv hx;exact e0
  |1=>simp at hv hx;subst hv hx;exact e1
  |2=>simp at hv hx;subst hv hx;exact e2
  |i+3=>simp at hv))
 cases this with
 |tuple _ _ _ h=>
  have:=h 0 _ x0 rfl rfl;cases this with
  |ptr _ _ h=>omega
theorem PS.inst{s0 s:St}{Vs:List AV}{p:bE}(h:PS s0 s Vs p):∀u∈Vs,dV u:=λu hu=>by
 obtain⟨V1,V2,V3,V4,V5,r1,r2,rfl,h1,h2,h3,h4,h5⟩:=h.all;simp only[Za9,Zc6,Zf3]at hu;rcases hu with rfl|rfl|rfl|rfl|rfl
 .exact h1.out.inst
 .exact h2.out.inst
 .exact h3.inst
 .exact h4.inst
 .exact h5.inst
theorem arL(hc:bu c){xt xg xy xr:List Nat}(ht:∀x∈xt,x<256)(hg:∀x∈xg,x<65536)(hy:∀x∈xy,x<256)(hr:∀x∈xr,x<4294967296)(lt:xt.length<=9223372036854775807)(lg:xg.length<=9223372036854775807)(lr:xr.length<=9223372036854775807)(ly:xy.length<=9223372036854775807)
   (zt zg zy zr:Bool) (st:St) (hw:Wf st):∃Vs s' jb j J s0,c 9 [.agg (jQ zt zg zy zr xt xg xy xr)] st=some (.tuple [.ptr jb 0,.agg Vs,.bool true],s')/\Grew st s'/\PS s0 s' Vs (iw xt xg xy xr)/\Jg s' jb j J (iw xt xg xy xr):=by
 have g1:=Grew.ah hw (.cells (jQ zt zg zy zr xt xg xy xr) 0);have w1:=g1.wf;have gA:=Grew.ah w1 (.cells [.af,.af,.af,.af,.af] 0);have ld4:∀(K:AV->St->Option (AV×St)),aq c (.load (some 4)) [.ptr st.next 0] (ah (ah st (.cells (jQ zt zg zy zr xt xg xy xr) 0)) (.cells [.af,.af,.af,.af,.af] 0)) K=K (.agg (jQ zt zg zy zr xt xg xy xr)) (ah (ah st (.cells (jQ zt zg zy zr xt xg xy xr) 0)) (.cells [.af,.af,.af,.af,.af] 0)):=λK=>by rw[cm,gA.get (aB st _)];rfl
 obtain⟨s2,uy⟩:∃s2,s2=ah (ah st (.cells (jQ zt zg zy zr xt xg xy xr) 0)) (.cells [.af,.af,.af,.af,.af] 0):=⟨_,rfl⟩
 obtain⟨b3,hb3⟩:∃b3,b3=(ah st (.cells (jQ zt zg zy zr xt xg xy xr) 0)).next:=⟨_,rfl⟩
 have h3:s2.heap.get b3=some (.cells [.af,.af,.af,.af,.af] 0):=by rw[uy,hb3];exact aB _ _
 have g2:Grew st s2:=by rw[uy];exact g1.trans gA
 have hb3n:st.next.toNat<=b3.toNat:=by rw[hb3];exact g1.next
 obtain⟨Vs,s3,M,P⟩:=auh hc ht hg hy hr lt lg lr ly zt zg zy zr s2 g2.wf;obtain⟨vl,vo⟩:=P.cells;have w3:=P.ai.wf;have gB:=Grew.ah w3 (.cells Vs 0);have st5:∀(K:AV->St->Option (AV×St)),aq c (.store 5) [.ptr s3.next 0,.agg Vs] (ah s3 (.cells [.af,.af,.af,.af,.af] 0)) K=K .undef (ah s3 (.cells Vs 0)):=λK=>cq c K s3 5 (.agg Vs) _ vl rfl vo
 have x5:=aB s3 (.cells Vs 0);obtain⟨s4,hs4⟩:∃s4,s4=ah s3 (.cells Vs 0):=⟨_,rfl⟩
 obtain⟨b5,hb5⟩:∃b5,b5=s3.next:=⟨_,rfl⟩
 rw[<-hs4]at st5 gB x5;rw[<-hb5]at st5 x5;have P4:=P.Ly gB;have mr:=adV (xg:=xg) (xy:=xy) (xr:=xr) ht;obtain⟨jb,s5,Us,p',N,ja,jd,e5,P5,S,hN,JDd,h5,hjb,eB,eK⟩:=arM hc P4 (zc xt xg xy xr) (agh xt xg xy xr) (λr h=>(mr r h).1) (adW ht);have g5:=P5.ai;have x5':=g5.get x5;have acI:=(g2.trans P.ai).trans (gB.trans g5);have y3:=(P.ai.trans (gB.trans g5)).get h3;have amW:=g2.wf _ _ h3;have ai1:=acI.wf _ _ y3;have n24:s2.next.toNat<=s4.next.toNat:=Zb2 P.ai.next gB.next;have gF:=yY hw acI hb3n ai1 (.cells Vs 0);have keep:∀(q:Pos)(b:AB),s2.next.toNat<=q.toNat->s5.heap.get q=some b->(bn s5 b3 (.cells Vs 0)).heap.get q=some b:=λq b hq hb=>by rw[aM (λe=>by rw[<-e]at hq;omega)];exact hb
 have PU:=P5.pJ hw ((g2.trans P.ai).trans gB) gF λq b hq hb=>keep q b (by omega) hb
 have PV:=P.pJ hw g2 gF λq b hq hb=>keep q b hq ((gB.trans g5).get hb)
 have JDs:=JDd.mono hjb (s':=bn s5 b3 (.cells Vs 0)) λq b hq hb=>keep q b (by omega) hb
 obtain⟨j,jw,hj⟩:=JW.of JDs PU (S.kL (zc xt xg xy xr)) hN;have stF:∀(K:AV->St->Option (AV×St)),aq c (.store 5) [.ptr b3 0,.agg Vs] s5 K=K .undef (bn s5 b3 (.cells Vs 0)):=λK=>by
   (rw[cH c K s5 5 b3 0 (.agg Vs) _ y3 vl (by simp) vo];have:bf [AV.af,.af,.af,.af,.af] 0 (AV.agg Vs).cells=Vs:=by unfold bf;rw[show(AV.agg Vs).cells=Vs from rfl,vl];simp);rw[this]
 have hcut:cut Vs 0 5=some Vs:=cQ vl;have ep:∀(K:AV->Option (AV×St)),fq (.bin .neq .ptr) [.ptr jb 0,.jx] K=K (.bool true):=λK=>dw K (λH n=>rfl)
 have nt:¬Plain (.tuple [.ptr jb 0,.agg Vs,.bool true]):=agR PV.inst;rw[<-uy]at ld4;have run:tM c 1 (.agg (jQ zt zg zy zr xt xg xy xr)) st=some (.tuple [.ptr jb 0,.agg Vs,.bool true],bn s5 b3 (.cells Vs 0)):=by
   rw[Um];simp only[di,show ∀l,AV.cells (.agg l)=l from λl=>rfl,au,bN,ld4, <-uy, <-hb3,bI,M,bw, <-hs4, <-hb5,st5,Yx x5 vl,e5,gP,Za4,Zb6,aQ,dh,xG,x5',az,Za6,hcut,cG,ep,aeU,aeW,Zf6,Tm,stF,To,bW]
 refine⟨Vs,bn s5 b3 (.cells Vs 0),jb,j,⟨p',N,ja,jd⟩,st,?_,gF,PV,⟨jw,⟨uz.avz S mr,?_⟩,S,?_,eB,eK⟩⟩
 .rw[P8 hc 1 run];unfold tidy;rw[Za7 (λh=>nt h.1)]
 . show p'.cs.length=p'.gs.length\/p'.cs.length=0;rw[S.cs,S.gl];show(kR xt xg xy).length=(nk xt xg).length\/(kR xt xg xy).length=0;unfold kR;split
   .rw[GJ];exact .inl rfl
   .exact .inr rfl
 .have h1:=agj (xg:=xg) (xy:=xy) (xr:=xr) ht;have h2:(N:Int)=bg (iw xt xg xy xr).ts:=(by rw[hN];exact S.sum);have h3:p'.gs.length=(iw xt xg xy xr).gs.length:=S.gl;show p'.gs.length<=N;omega
theorem ai2(a b:Bool)(K:AV->St->Option (AV×St))(s:St):aq c (.bin .eql .bool) [.bool a,.bool b] s K=K (.bool (a==b)) s:=aY c K (λH n=>by cases a<;>cases b<;>rfl) s
theorem awz(hc:bu c)(s:St):c 14 [] s=some (.bool true,s):=hc.at (s:=Z0) rfl rfl
section
variable{s:St}{vb jb:Pos}{j:Jc}{J:Jt}{P G:AV}{q g:List Int}
def tO(J:Jt)(q:List Int)(l:List Rl):List Int:=l.map λr=>((fJ J q r:Nat):Int)
theorem arN(hc:bu c)(O:OP J)(hg:tL J.N q=some g){sB:St}(V:Vw sB vb jb j J P G q g)(F:Nat):
  ∀(m k f:Nat)(s:St)(v:AV),k+m=J.p.rs.length->m<f->Mk 1 sB s v ((tO J q (J.p.rs.take k)).map bH)->∃s' v',Mk 1 sB s' v' ((tO J q J.p.rs).map bH)/\
   ∀k2:Q2,om c F k2 f [.ptr vb 0,v,.int .i64 (J.p.rs.length:Int),.int .i64 (k:Int)] s=k2 [v'] s':=by
 intro m;induction m with
 |zero=>
  intro k f s v hk hf hM;obtain⟨f,rfl⟩:∃g,f=g+1:=⟨f - 1,by omega⟩
  obtain rfl:k=J.p.rs.length:=by omega
  rw[Zg1]at hM;refine⟨s,v,hM,λk2=> ?_⟩;rw[CO];simp
 |succ m ih=>
  intro k f s v hk hf hM;obtain⟨f,rfl⟩:∃g,f=g+1:=⟨f - 1,by omega⟩
  have dM:k<J.p.rs.length:=by omega
  have hi:=H0 dM;have hrs:=V.jw.kL.rs;have et:J.p.rs.take (k+1)=J.p.rs.take k++[J.p.rs[k]]:=Zc2 dM;have V0:=V.ai hM.ai;have cl:=aab hc O V0 hg hi;have aW:decide ((k:Int)<(J.p.rs.length:Int))=true:=Za0 (by omega);have wr:av .i64 ((k:Int)+1)=((k+1:Nat):Int):=by rw[wrap64 (by omega) (by omega)];omega
  have il:(tO J q (J.p.rs.take k)).length<=100:=by unfold tO;rw[Za3,Zf1];omega
  obtain⟨s5,v5,a1,a2,_,_⟩:=hM.push (R:=AV×St) (c:=c) (bytes:=8) (z:=[.int .i64 0]) (x:= .int .i64 ((fJ J q J.p.rs[k]:Nat):Int)) rfl rfl rfl (by omega) (by rw[Za3];omega) (by rw[Za3];omega);obtain⟨s',v',z1,z2⟩:=ih (k+1) f s5 v5 (by omega) (by omega) (by rw[et];unfold tO at a2 ⊢; rw[Zc8,Zc8];exact a2);refine⟨s',v',z1,λk2=> ?_⟩;rw[<-z2 k2,CO];simp only[aD,aX,bV,aW,cV,au,bI,cl,bw,a1,dy,wr]
theorem ai3(hc:bu c)(O:OP J)(jw:JW s jb j J)(w0:Wf s)(pq:QS 1 s P (q.map bH))(hq:Rs J q):∃s' v,c 19 [.ptr jb 0,P] s=some (v,s')/\Mk 1 s s' v ((tO J q J.p.rs).map bH):=by
 obtain⟨g,vb,G,s1,hg,lk,gr,V⟩:=look_ok hc jw w0 pq hq;obtain⟨s2,v2,z1,z2⟩:=arN hc O hg V (J.p.rs.length+1) J.p.rs.length 0 (J.p.rs.length+1) s1 .af (by omega) (by omega) (Mk.start gr.wf (Grew.refl gr.wf));have vc:=V.vc;have jc:=V.jw.mj;have ln:=λ(K:AV->St->Option (AV×St))=>V.jw.iG.lenB (c:=c) K s1
 rw[Za3]at ln;have M:=z1.back w0 gr;obtain⟨s3,t1,t2⟩:=M.tidy;refine⟨s3,v2,?_,t2⟩;simp only[show((0:Nat):Int)=0 from rfl]at z2;rw[Uo hc (J.p.rs.length+1) (r:=(v2,s2)),t1];rw[Yy];simp only[au,bI,lk,bw,Rt,cE,cr,aK,Zb1,aO,vc,jc,az,Za6,Za4,Jc.c4,aQ,ln,z2,aD,aX]
end
variable{c:aj}{s0 s:St}{Vs:List AV}{p:bE}
theorem avA(hc:bu c)(hw:Wf s){p':bE}(e:fE s 4 (.agg Vs)= .agg p'.cells)(hf:p'.uz)(hR:p'.Real)(hr:∀r∈p'.rs,r.Ok/\nX p' r=0)(hn:(eD p').2=0)(hcl:p'.cs.length=p'.gs.length\/p'.cs.length=0)(Gg:(p'.gs.length:Int)<=bg p'.ts):
   ∃(jb:Pos) (s':St) (j:Jc) (J:Jt),c 18 [.agg Vs] s=some (.tuple [.ptr jb 0,.int .i64 0,.int .i64 0],s')/\Grew s s'/\Jg s' jb j J p'/\J.p=p':=by
 obtain⟨jb,s1,Us,N,ja,jd,e1,P,hN,D,hge,h5,eB,eK⟩:=abl (c:=run GK gg) rfl p' hf (Rv rfl hf) hR (λr h=>(hr r h).1) (emptyAt s) (zQ s) hn;have P':=PS.cO hw P;obtain⟨j,jw,hj⟩:=JW.of (JD.cO hw P.bare hge D) P' hf hN;refine⟨jb,cO s s1,j,_,hc.at (s:=DK 18) rfl (HU ?_ (bS.tuple (by intro v hv;simp at hv;rcases hv with rfl|rfl|rfl<;>first|exact bS.int _ _|exact bS.ptr _ _)) P.ai.next),P'.ai,⟨jw,⟨λr h=>aoR (hr r h).1 (hr r h).2,hcl⟩,⟨rfl,λi t t' h1 h2=>⟨t.oz,by rw[h1]at h2;cases h2;rfl⟩,rfl,λi t t' h1 h2=>⟨t.tz,by rw[h1]at h2;cases h2;rfl⟩,rfl,rfl,rfl⟩,?_,eB,eK⟩,rfl⟩
 .rw[Zd1,Zg9,e];exact e1
 .show p'.gs.length<=N;omega
end
section
open Go Go.Ai Go.Proofs
def bE.uI(p:bE)(z:Bool)(l:List Rl):bE:={ p with rz:=z,rs:=l }
end
section
open Go Go.Ai Go.Proofs
variable{c:aj}
theorem amX(p:bE)(z:Bool)(l:List Rl)(r:Rl):nX (p.uI z l) r=nX p r:=id rfl
theorem aky{p:bE}{z:Bool}{l:List Rl}(hb:(iI p).2=0)(hl:l.length<=64)(h:∀r∈l,nX p r=0):(eD (p.uI z l)).2=0:=by unfold eD;have hb:(iI (p.uI z l)).2=0:=hb;rw[Za7 (by rw[hb];simp)];exact Yz h hl _ _
theorem ao6{p:bE}{z:Bool}{l:List Rl}(h:p.uz)(hl:l.length<=64):(p.uI z l).uz:=⟨h.ts,h.gs,h.ys,h.cs,Zb2 hl (by decide),h.ok⟩
section
variable{J:Jt}{q:List Int}
end
end
section
open Go Go.Ai Go.Proofs
def aC.nm(t:aC):aC:={ t with oz:=true }
def aS.nm(g:aS):aS:={ g with tz:=true }
section
variable(ts:List aC)
theorem avB:bg (ts.map aC.nm)=bg ts:=by unfold bg;rw[Zg3];rfl
theorem GM:∀(ts:List aC)(i:Nat),cC (ts.map aC.nm) i=cC ts i
 |[],_=>rfl
 |t::ts,i=>by
  rw[Zd1,cC,cC];show(if i<(bQ t).toNat then 0 else cC (ts.map aC.nm) (i - (bQ t).toNat)+1)=_;rw[GM ts]
theorem ai4(i:Nat):LF (ts.map aC.nm) i=LF ts i:=by unfold LF;rw[GM, <-Zr1,avB]
theorem alB(i:Nat):Gz (ts.map aC.nm) i=Gz ts i:=by unfold Gz;rw[GM,Zb3];cases ts[cC ts i]? <;>rfl
theorem aui(i:Nat):GF (ts.map aC.nm) i=GF ts i:=by unfold GF;rw[Zb3];cases ts[i]? <;>rfl
theorem avC:bZ (ts.map aC.nm)=bZ ts:=
 bE.dQ.FE (p:=⟨true,ts,true,[],true,[],true,[],true,[]⟩) (p':=⟨true,ts.map aC.nm,true,[],true,[],true,[],true,[]⟩) ⟨by simp,λi t t' h1 h2=>by rw[Zb3,h1]at h2;exact⟨true,(Zi1 h2).symm⟩,rfl,λi t t' h1 _=>by simp at h1,rfl,rfl,rfl⟩
theorem ao7:∀(ts:List aC)(s:Int)(i:Nat),JU (ts.map aC.nm) s i=JU ts s i
 |[],_,_=>rfl
 |t::ts,s,i=>by
  rw[Zd1,JU,JU];show(if s<bQ t then some (i,s)else JU (ts.map aC.nm) (s - bQ t) (i+1))=_;rw[ao7 ts]
theorem adX(s:Int):xx (ts.map aC.nm) s=xx ts s:=by unfold xx;rw[avC,ao7]
theorem auj(s:Int):Gx (ts.map aC.nm) s=Gx ts s:=by
 unfold Gx;rw[adX];cases xx ts s with
 |none=>rfl
 |some x=>
  simp only[Zb3];cases ts[x.1]? <;>rfl
theorem auk(s:Int):BZ (ts.map aC.nm) s=BZ ts s:=by
 unfold BZ;rw[adX];cases xx ts s with
 |none=>rfl
 |some x=>
  simp only[Zb3];cases ts[x.1]? <;>rfl
theorem ai5(a b:Int):mE (ts.map aC.nm) a b=(mE ts a b).map λu=>(u.1.nm,u.2):=by
 unfold mE;rw[adX,adX];cases xx ts a with
 |none=>rfl
 |some x=>
  cases xx ts b with
  |none=>rfl
  |some y=>
   simp only[Zb3];by_cases h:x.1=y.1
   .    rw[Zb4 h,Zb4 h];cases ts[x.1]? <;>rfl
   .    rw[Za7 h,Za7 h];rfl
theorem aul(a b:Int):GN (ts.map aC.nm) a b=GN ts a b:=by unfold GN;rw[ai5];cases mE ts a b<;>rfl
theorem aum(a b:Int):GO (ts.map aC.nm) a b=GO ts a b:=by unfold GO;rw[ai5];cases mE ts a b<;>rfl
theorem alC(i:Nat):nR (ts.map aC.nm) i=nR ts i:=by unfold nR;rw[ai4,alB,show GN (ts.map aC.nm) (i:Int)=GN ts (i:Int)from funext λb=>aul ts _ b]
theorem alD(i:Nat):uk (ts.map aC.nm) i=uk ts i:=by unfold uk;rw[ai4,alB,show GO (ts.map aC.nm) (i:Int)=GO ts (i:Int)from funext λb=>aum ts _ b]
end
def Jt.nm(J:Jt):Jt:=⟨⟨true,J.p.ts.map aC.nm,true,J.p.gs.map aS.nm,true,J.p.ys,true,J.p.cs,true,[]⟩,J.N,J.ja,J.jd⟩
section
variable(J:Jt)
theorem ao8:J.nm.p.ts=J.p.ts.map aC.nm:=rfl
theorem amY:J.nm.n=J.n:=by show(J.p.gs.map aS.nm).length=_;rw[Za3];rfl
theorem aac{α:Type}(f:aS->α)(d:α)(h:∀g,f g.nm=f g)(a:Nat):(match J.nm.p.gs[a]? with|some g=>f g|none=>d)=match J.p.gs[a]? with|some g=>f g|none=>d:=by
 show(match (J.p.gs.map aS.nm)[a]? with|some g=>f g|none=>d)=_;rw[Zb3];cases J.p.gs[a]? with
 |none=>rfl
 |some g=>exact h g
theorem GP:wj J.nm=wj J:=funext λx=>GM _ _
theorem ao9(i:Nat):J.nm.steps i=J.steps i:=by
 have b:uF J.nm.p.ts J.N=uF J.p.ts J.N:=Zi5 λi _=>alC _ i
 have a:uG J.nm.p.ts J.N=uG J.p.ts J.N:=Zi5 λi _=>alD _ i
 unfold Jt.steps;rw[show J.nm.N=J.N from rfl,b,a]
theorem ai6:TN J.nm=TN J:=funext λx=>funext λy=>by unfold TN;rw[ao9]
theorem Nc(i:Nat):nR J.nm.p.ts i=nR J.p.ts i:=alC _ i
theorem acJ(i:Nat):uk J.nm.p.ts i=uk J.p.ts i:=alD _ i
theorem aad(i:Nat):GF J.nm.p.ts i=GF J.p.ts i:=aui _ i
theorem Ig(n:List Nat)(i:Nat):oY J.nm.p.ts n i=oY J.p.ts n i:=by unfold oY;rw[aad,ao8,GM]
theorem agk(i:Nat)(x:Int):LA J.nm.p.ts i x=LA J.p.ts i x:=by unfold LA;rw[Nc,acJ]
theorem apa(s:List Nat):gi J.nm.p s=gi J.p s:=by unfold gi;rw[show J.nm.p.gs.length=J.p.gs.length from Za3 _];congr 1;funext i;unfold nM;show decide ((J.p.gs.map aS.nm)[i]?.map aS.name=some s)=_;rw[Zb3,Option.map_map];rfl
theorem arO:Z8 J.nm=Z8 J:=funext λa=>aac J aS.side 0 (λ_=>rfl) a
theorem apb:Rk J.nm=Rk J:=funext λa=>aac J aS.j5 [] (λ_=>rfl) a
theorem arP:ahw J.nm=ahw J:=funext λa=>aac J aS.name [] (λ_=>rfl) a
theorem arQ:ahx J.nm=ahx J:=funext λa=>aac J aS.mY [] (λ_=>rfl) a
theorem aun:amH J.nm=amH J:=funext λa=>aac J aS.access false (λ_=>rfl) a
theorem arR:wu J.nm=wu J:=funext λa=>aac J aS.host false (λ_=>rfl) a
theorem aae(r:Rl){S S':Nat->Nat->Int->Int->Bool}(h:∀a b x y,S' a b x y=S a b x y):jr J.nm r S'=jr J r S:=funext λa=>funext λb=>funext λx=>funext λy=>by
 unfold jr prP;rw[Ig,GP,h]
theorem acK(g:List Int)(a:Nat):∀(l:List Int)(so si:Bool),Ar J.nm g a l so si=Ar J g a l so si
 |[],_,_=>rfl
 |k::l,so,si=>by rw[Ar,Ar,acK g a l,acK g a l];rfl
theorem apc(r:Rl):LC J.nm r=LC J r:=by
 have hA:rA J.nm r=rA J r:=by unfold rA;rw[apa]
 have hB:rB J.nm r=rB J r:=by unfold rB;rw[apa]
 have k1:MM J.nm r=MM J r:=funext λx=>funext λy=>by unfold MM;rw[GP,ai6]
 have k2:acn J.nm=acn J:=funext λx=>funext λy=>by unfold acn;rw[Nc]
 have k3:aco J.nm=aco J:=funext λx=>funext λy=>by unfold aco;rw[acJ]
 have k4:TO J.nm r=TO J r:=funext λx=>funext λy=>by unfold TO;rw[ai6]
 have k5:acp J.nm=acp J:=funext λx=>funext λy=>by unfold acp;rw[GP]
 have k6:atP J.nm r=atP J r:=funext λx=>by unfold atP;rw[aad,GP]
 have k7:TR J.nm r=TR J r:=funext λx=>by
  unfold TR;rw[aad,GP,show cC J.nm.p.ts=cC J.p.ts from funext λi=>GM _ i]
 have k8:jr J.nm r (PO J.nm)=jr J r (PO J):=aae J r λa b x y=>by unfold PO;rw[arO,Nc]
 have k9:PW J.nm r=PW J r:=funext λt=>by unfold PW;rw[aad]
 have JV:TX J.nm r=TX J r:=funext λa=>funext λx=>by unfold TX;rw[arP,aun,ao8,auj]
 have k11:(λp:Nat->Int=>Go.Ai.cnt J.nm.n λa=>on p a&&TZ J.nm r (gOf J.nm p) a (p a))=λp=>Go.Ai.cnt J.n λa=>on p a&&TZ J r (gOf J p) a (p a):=funext λp=>by
  have e:gOf J.nm p=gOf J p:=by unfold gOf;rw[amY];rfl
  rw[e,amY];congr 1;funext a;unfold TZ Yk;rw[Ig,acJ,Nc];simp only[acK]
 have k12:jr J.nm r (A8 J.nm)=jr J r (A8 J):=aae J r λa b x y=>by unfold A8;rw[agk];rfl
 have k13:Ju J.nm r=Ju J r:=funext λa=>funext λb=>funext λx=>funext λy=>by unfold Ju;rw[Ig,Ig,agk];rfl
 have k14:jr J.nm r (MQ J.nm)=jr J r (MQ J):=aae J r λa b x y=>by
  have l:∀x,acu J.nm x=acu J x:=λx=>auk _ x
  unfold MQ;rw[l,l];rfl
 have k17:TY J.nm r=TY J r:=funext λa=>funext λx=>by unfold TY;rw[arQ,Ig]
 have k18:jr J.nm r (PR J.nm)=jr J r (PR J):=aae J r λa b x y=>by unfold PR;rw[apb,Nc]
 unfold LC;rw[hA,hB,k1,k2,k3,k4,k5,k6,k7,k8,k9,JV,k11,k12,k13,k14,k17,k18]
theorem avD:jT J.nm=jT J:=by
 unfold jT;rw[amY,GP,arR,show J.nm.p.ts.length=J.p.ts.length from Za3 _]
theorem apd(q:List Int)(r:Rl):fJ J.nm q r=fJ J q r/\lJ J.nm q r=lJ J q r:=by
 unfold fJ lJ;rw[apc,avD];exact⟨rfl,rfl⟩
end
theorem ape{α:Type}{S:α->α->Prop}{f:α->α}(h:∀a b,S a b->f a=f b){l l':List α}(hl:l'.length=l.length)(hs:∀(i:Nat)(a b:α),l[i]? =some a->l'[i]? =some b->S a b):l'.map f=l.map f:=Zi7 λi=>by
 rw[Zb3,Zb3];cases e:l[i]? with
 |none=>
  have:l'[i]? =none:=Zc0 (by rw[hl];exact List.getElem?_eq_none_iff.1 e);rw[this]
 |some a=>
  have hi:=(Za1.1 e).1;have e2:l'[i]? =some (l'[i]'(by omega)):=H0 (by omega);rw[e2];exact congrArg some (h _ _ (hs i _ _ e e2)).symm
theorem bE.dQ.nmT{p p':bE}(S:p.dQ p'):p'.ts.map aC.nm=p.ts.map aC.nm:=ape (S:=aC.dQ) (λa b ⟨z,e⟩=>by rw[e];rfl) S.tl S.ts
theorem bE.dQ.nmG{p p':bE}(S:p.dQ p'):p'.gs.map aS.nm=p.gs.map aS.nm:=ape (S:=aS.dQ) (λa b ⟨z,e⟩=>by rw[e];rfl) S.gl S.gs
theorem bE.dQ.nt{p p':bE}(S:p.dQ p'):Ih p'.gs=Ih p.gs:=by
 have h:∀gs:List aS,Ih gs=(gs.map aS.nm).map λg=>(g.name,g.tg):=λgs=>by unfold Ih;rw[Zg3];rfl
 rw[h,h,S.nmG]
theorem ai7{α β γ:Type}(f:α->β)(g:β->β->γ)(l:List α):(l.map f).map (λa=>(l.map f).map (g a))=l.map λa=>l.map λb=>g (f a) (f b):=by simp[Zg3,Zk4]
theorem bE.dQ.Na{p p':bE}(S:p.dQ p'):Go.Proofs.YtgihekklfnjkiaaGreatDoor.Na p'.gs=Go.Proofs.YtgihekklfnjkiaaGreatDoor.Na p.gs:=by
 have h:∀gs:List aS,Go.Proofs.YtgihekklfnjkiaaGreatDoor.Na gs=(Ih gs).map λg=>(Ih gs).map λh=>acL (Ih gs) g.1 h.1:=λgs=>(ai7 (λg:aS=>(g.name,g.tg)) (λa b=>acL (Ih gs) a.1 b.1) gs).symm
 rw[h,h,S.nt]
theorem bE.dQ.Nb{p p':bE}(S:p.dQ p'):Go.Proofs.YtgihekklfnjkiaaGreatDoor.Nb p'.gs p'.ys=Go.Proofs.YtgihekklfnjkiaaGreatDoor.Nb p.gs p.ys:=by
 have h:∀(gs:List aS)(ys:List Ty),Go.Proofs.YtgihekklfnjkiaaGreatDoor.Nb gs ys=(gs.map aS.nm).map λg=>(gs.map aS.nm).map λh=>P9 ys g.name h.name:=λgs ys=>(ai7 aS.nm (λa b=>P9 ys a.name b.name) gs).symm
 rw[h,h,S.nmG,S.ys]
theorem akz{J J':Jt}{p:bE}{l l':List Rl}{z z':Bool}(S:(p.uI z l).dQ J.p)(S':(p.uI z' l').dQ J'.p)(hb:J.ja=Na J.p.gs)(hk:J.jd=Nb J.p.gs J.p.ys)(eO:J'.ja=Na J'.p.gs)(pX:J'.jd=Nb J'.p.gs J'.p.ys)(hN:J.N=J'.N)(q:List Int)(r:Rl):
  fJ J q r=fJ J' q r/\lJ J q r=lJ J' q r:=by
 have e:J.nm=J'.nm:=by unfold Jt.nm;rw[S.nmT,S'.nmT,S.nmG,S'.nmG,S.ys,S'.ys,S.cs,S'.cs,hN,hb,eO,hk,pX,S.Na,S'.Na,S.Nb,S'.Nb];rfl
 obtain⟨a,b⟩:=apd J q r;obtain⟨a',b'⟩:=apd J' q r;rw[<-a, <-b, <-a', <-b',e];exact⟨rfl,rfl⟩
end
end Go.Proofs.YtgihekklfnjkiaaGreatDoor
