/- What a judge tells. -/
import Derived.Test.YtgihekklfnjkiaaGreatDoorTJudgeA
import Derived.Test.YtgihekklfnjkiaaGreatDoorTMade
set_option linter.all false
set_option linter.unusedSectionVars false
set_option linter.deprecated false
namespace Go.Proofs.YtgihekklfnjkiaaGreatDoor
section
set_option maxRecDepth 100000
open Go Go.Ai Go.Proofs
variable{c : au}
theorem ap5(hc:bH c){n:Int}(h0:0<=n)(h1:n<4294967296)(s:St):c 191 [.int .u64 1,.int .u64 n] s=some (.tuple [.int .u64 0,.int .u64 n],s):=by
 rw[Vo hc 1 (r:=(.tuple [.int .u64 0,.int .u64 n],s)),aE (Plain.tuple (by simp[Plain.int])) (aT.refl s)];rw[Zp];have w0:ax .u64 0=0:=YX (by omega) (by omega);have w1:ax .u64 n=n:=YX (by omega) (by omega);simp[aa5 h0 h1,aa7 h0 h1,aa5 (n:=1) (by omega) (by omega),aa7 (a:=1) (by omega) (by omega),aa5 (n:=0) (by omega) (by omega),aa7 (a:=0) (by omega) (by omega),w0,w1]
theorem atS(hc:bH c){n:Int}(h0:0<=n)(h1:n<4294967296)(s:St):c 140 [.int .u64 1,.int .u64 n] s=some (.tuple [.int .u64 0,.int .u64 n],s):=by
 rw[Zq hc 1 (r:=(.tuple [.int .u64 0,.int .u64 n],s)),aE (Plain.tuple (by simp[Plain.int])) (aT.refl s)];rw[acE];simp[ap5 hc h0 h1]
theorem anB(N:Nat)(hN:N<=1000000)(b:Pos)(v:AV)(hv:v.one=true)(F:Nat):∀(m n f:Nat)(s:St),1<=n->n<=N->N - n<=m->m<f->s.heap.get b=some (.cells (List.replicate n v++List.replicate (N - n) (.int .i64 0)) 0)->
  ∀k2:Q2,jH c F k2 f [.slice b 0 N (some N) 1,.int .i64 (n:Int)] s=k2 [.slice b 0 N (some N) 1] (aY s b (.cells (List.replicate N v) 0)):=by
 intro m;induction m with
 |zero=>
  intro n f s h1 h2 h3 h4 h5 k2;obtain⟨f,rfl⟩:∃g,f=g+1:=⟨f - 1,by omega⟩
  obtain rfl:n=N:=by omega
  rw[kT];have e:aY s b (.cells (List.replicate n v) 0)=aY s b (.cells (List.replicate n v++List.replicate (n - n) (.int .i64 0)) 0):=by simp
  rw[e];have e2:aY s b (.cells (List.replicate n v++List.replicate (n - n) (.int .i64 0)) 0)=s:=ahy h5;rw[e2];simp[lq]
 |succ m ih=>
  intro n f s h1 h2 h3 h4 h5 k2;obtain⟨f,rfl⟩:∃g,f=g+1:=⟨f - 1,by omega⟩
  by_cases hn:n=N
  . subst hn;rw[kT];have e:aY s b (.cells (List.replicate n v) 0)=aY s b (.cells (List.replicate n v++List.replicate (n - n) (.int .i64 0)) 0):=(by simp);rw[e];have e2:aY s b (.cells (List.replicate n v++List.replicate (n - n) (.int .i64 0)) 0)=s:=ahy h5;rw[e2];simp[lq]
  . have aV:decide ((n:Int)<(N:Int))=true:=Za0 (by omega);have cp:=λ(K:AV->St->Option (AV×St))=>ahu (c:=c) (b:=b) (n:=n) (m:=N - n) (cp:=some (N - n)) (Jj:=some N) (by omega) (by omega) hv h5 K
    have w:ax .i64 ((n:Int)+((min n (N - n):Nat):Int))=((n+min n (N - n):Nat):Int):=(by rw[wrap64 (by omega) (by omega)];omega);have ZP:=ih (n+min n (N - n)) f (aY s b (.cells (List.replicate (n+min n (N - n)) v++List.replicate (N - n - min n (N - n)) (.int .i64 0)) 0)) (by omega) (by omega) (by omega) (by omega) (by rw[bN,show N - (n+min n (N - n))=N - n - min n (N - n)by omega]) k2;rw[Qo]at ZP;rw[<-ZP,kT];simp only[aH,br,aA,lq,dS,aV,dW,dK,ano h2,anp h2,cp,ar5,w]
theorem anC(hc:bH c){N:Nat}(hN:N<=1000000){p:Pos}{v:AV}(hv:v.one=true)(s:St)(hw:Wf s)(hp:s.heap.get p=some (.cells [v] 0)):
   ∃s' gb,c 79 [.slice p 0 1 (some 1) 1,.int .i64 (N:Int)] s=some (.slice gb 0 N (some N) 1,s')/\Grew s s'/\s.next.toNat<=gb.toNat/\(N=0\/s'.heap.get gb=some (.cells (List.replicate N v) 0)):=by
 have g1:=Grew.ah hw (.cells (List.replicate N (.int .i64 0)) 0);have w1:ax .u64 (N:Int)=(N:Int):=YX (by omega) (by omega);have w2:ax .i64 (N:Int)=(N:Int):=wrap64 (by omega) (by omega);have w3:ax .u64 1=1:=YX (by omega) (by omega);have d1:decide ((N:Int)<0)=false:=Za2 (by omega);have d2:decide ((9223372036854775807:Int)<(N:Int))=false:=Za2 (by omega);have mk:=λ(K:AV->St->Option (AV×St))=>adJ c K s (es:=1) (bytes:=8) (z:=[.int .i64 0]) (k:= .i64) (k':= .i64) (n:=N) (by omega) (by omega)
 rw[Dy]at mk;have kz:=g1.get hp;have mu:=atS hc (n:=(N:Int)) (by omega) (by omega) s;by_cases h0:N=0
 . subst h0;have run:=yq hc (x0:= .slice p 0 1 (some 1) 1) (x1:= .int .i64 ((0:Nat):Int)) (s:=s) (F:=1) (r:=(.slice s.next 0 0 (some 0) 1,ah s (.cells [] 0))) (by
    rw[Am];simp only[aA,dS,d1,dz,dQ,aH,br,lq,LS,w1,show((1:Nat):Int)=1 from rfl,w3,dD,mu,cO,kC,Za4,Zb8,bg,CB,show decide ((0:Int)<0)=false from rfl,lS,d2,pZ,w2,mk,List.replicate_zero,afv];rw[kT];simp[lq])
   rw[run];obtain⟨s',h1,h2⟩:=ane (v:= .slice s.next 0 0 (some 0) 1) (Grew.ah hw (.cells [] 0)) hw;exact⟨s',s.next,by rw[h1],h2,Za3 _,.inl rfl⟩
 . have cp:=λ(K:AV->St->Option (AV×St))=>ahx (c:=c) (b:=s.next) (b2:=p) (v:=v) (z:= .int .i64 0) (m:=N) (cp:=some N) (Jj:=some 1) (by omega) hv (az s _) kz K
   have lp:=anB (c:=c) N hN s.next v hv (N+1) N 1 (N+1) (aY (ah s (.cells (List.replicate N (.int .i64 0)) 0)) s.next (.cells (List.replicate 1 v++List.replicate (N - 1) (.int .i64 0)) 0)) (by omega) (by omega) (by omega) (by omega) (bN _ _ _);simp only[Qo,Lj]at lp cp;simp only[show((1:Nat):Int)=1 from rfl]at lp;have run:=yq hc (x0:= .slice p 0 1 (some 1) 1) (x1:= .int .i64 (N:Int)) (s:=s) (F:=N+1) (r:=(.slice s.next 0 N (some N) 1,ah s (.cells (List.replicate N v) 0))) (by
    rw[Am];simp only[aA,dS,d1,dz,dQ,aH,br,lq,LS,w1,show((1:Nat):Int)=1 from rfl,w3,dD,mu,cO,kC,Za4,Zb8,bg,CB,show decide ((0:Int)<0)=false from rfl,lS,d2,pZ,w2,mk,cp,lp])
   (rw[run];have np:¬(Plain (AV.slice s.next 0 N (some N) 1)):=λh=>aa9 h0 h);refine⟨ah s (.cells (List.replicate N v) 0),s.next,?_,Grew.ah hw _,Za3 _,.inr (az _ _)⟩;unfold tidy;rw[Za7 (λh=>np h.1)]
def Ut(N:Nat):List Int->Nat->List Int->Option (List Int)
 |[],_,g=>some g
 |x::q,i,g=>if x< -1\/(N:Int)<=x\/(0<=x/\0<=g.getD x.toNat (-1))then none else Ut N q (i+1) (if 0<=x then g.set x.toNat (i:Int)else g)
def GY(N:Nat)(q:List Int):Option (List Int):=Ut N q 0 (List.replicate N (-1))
theorem ahL{N:Nat}:∀{q:List Int}{i:Nat}{g g':List Int},Ut N q i g=some g'->(∀x∈q,-1<=x/\x<(N:Int))/\g'.length=g.length
 |[],i,g,g',h=>by cases h;exact⟨λx hx=>(nomatch hx),rfl⟩
 |x ::q,i,g,g',h=>by
  unfold Ut at h;by_cases hc:x< -1\/(N:Int)<=x\/(0<=x/\0<=g.getD x.toNat (-1))
  . rw[Zb3 hc]at h;cases h
  . rw[Za7 hc]at h;obtain⟨h1,h2⟩:=ahL h;refine⟨λy hy=> ?_,by rw[h2];split<;>simp⟩;rcases Za8.1 hy with rfl|hy
    . omega
    . exact h1 y hy
theorem anD{N n:Nat}:∀{q:List Int}{i:Nat}{g g':List Int},Ut N q i g=some g'->i+q.length<=n->(∀x∈g,-1<=x/\x<(n:Int))->∀x∈g',-1<=x/\x<(n:Int)
 |[],i,g,g',h,_,hg=>by cases h;exact hg
 |x ::q,i,g,g',h,hn,hg=>by
  unfold Ut at h;simp only[Zc9]at hn;split at h
  . cases h
  . (refine anD h (by omega) λy hy=> ?_);split at hy
    .   rcases Zg6 hy with hy|rfl
        . exact hg y hy
        . omega
    .   exact hg y hy
structure LI(sA s:St)(vb gb jb:Pos)(P:AV)(N:Nat)(g:List Int):Prop where
 gr:Grew sA s
 vc:s.heap.get vb=some (.cells [.ptr jb 0,P,.slice gb 0 N (some N) 1] 0)
 gc:N=0\/s.heap.get gb=some (.cells (g.map (AV.int .i64)) 0)
 gl:g.length=N
section
variable{sA : St}{vb gb jb : Pos}{j : Jc}{J : Jt}{P : AV}{q : List Int}
theorem asB (jw:JW sA jb j J)(pq:QS 1 sA P (q.map bV))(qp:q.length<=1000000)(hN:J.N<=100000)(hg:sA.next.toNat<=gb.toNat)(hvg:0<J.N->vb≠gb)(w0:Wf sA)(F:Nat):∀(m k f:Nat)(s:St)(g:List Int),k+m=q.length->m<f->LI sA s vb gb jb P J.N g->
  (Ut J.N (q.drop k) k g=none/\∃s',Grew sA s'/\∀k1 k2:Q2,lW c F k1 k2 f [.ptr jb 0,.ptr vb 0,P,.int .i64 (q.length:Int),.int .i64 (k:Int)] s=k1 [.ju] s')\/
    ∃g' s',Ut J.N (q.drop k) k g=some g'/\LI sA s' vb gb jb P J.N g'/\∀k1 k2:Q2,lW c F k1 k2 f [.ptr jb 0,.ptr vb 0,P,.int .i64 (q.length:Int),.int .i64 (k:Int)] s=k2 [.ptr vb 0] s':=by
 intro m;induction m with
 |zero=>
  intro k f s g hk hf hL;obtain⟨f,rfl⟩:∃g,f=g+1:=⟨f - 1,by omega⟩
  obtain rfl:k=q.length:=by omega
  refine .inr ⟨g,s,by simp[Ut],hL,λk1 k2=> ?_⟩;rw[fZ];simp
 |succ m ih   =>
  intro k f s g hk hf hL;obtain⟨f,rfl⟩:∃g,f=g+1:=⟨f - 1,by omega⟩
  have jw1:=jw.ai hL.gr;have jc:=jw1.oc;have vc:=hL.vc;have jO:k<q.length:=by omega
  obtain⟨pb,po,p⟩:=rM (pq.ai hL.gr) (H0 jO);have p1:=λ{R}=>@p.st R
  have p3:=p.one;have wr:ax .i64 ((k:Int)+1)=((k+1:Nat):Int):=wrap64 (by omega) (by omega);have ln:=λ(K:AV->St->Option (AV×St))=>jw1.tab.lenB (c:=c) K s
  rw[Za5,(Ta _ _).1]at ln;rw[Zd9 jO];generalize q[k]=x at*
  unfold Ut;by_cases h1:x< -1
  . rw[Zb3 (.inl h1)];refine .inl ⟨rfl,s,hL.gr,λk1 k2=> ?_⟩;have d1:decide (x< -1)=true:=Za0 h1;rw[fZ];simp[dz,jO,p1,p3,d1]
  . have d1   :decide (x< -1)=false:=Za2 h1;by_cases h2:(J.N:Int)<=x
    .   rw[Zb3 (.inr (.inl h2))];refine .inl ⟨rfl,s,hL.gr,λk1 k2=> ?_⟩;rw[fZ];simp[dz,jO,p1,p3,d1,jc,ln,h2]
    .   have d2:decide ((J.N:Int)<=x)=false:=Za2 h2;by_cases h3:0<=x
        . obtain⟨i,rfl⟩:∃i:Nat,x=(i:Int):=⟨x.toNat,by omega⟩
          have hi:i<J.N:=(by omega);have L8:decide (J.N<=i)=false:=Za2 (by omega);have gc:s.heap.get gb=some (.cells (g.map (AV.int .i64)) 0):=by
            rcases hL.gc with h|h
            . omega
            . exact h
          have QL:i<g.length:=(by rw[hL.gl];exact hi);have eg:g.getD i (-1)=g[i]:=(by rw[Zb5,H0 QL];rfl);have ix:=λ(K:AV->St->Option (AV×St))(s1:St)=>iV c K s1 (b:=gb) (off:=0) (len:=J.N) (es:=1) (es':=1) (cap:=some J.N) (k:= .i64) (i:=i) hi
          have ec:(g.map (AV.int .i64))[i]? =some (.int .i64 g[i]):=(by rw[Zb4,H0 QL];rfl);rw[Zd4,eg,Zb3 h3];by_cases h4:0<=g[i]
          . rw[Zb3 (.inr (.inr ⟨h3,h4⟩))];refine .inl ⟨rfl,s,hL.gr,λk1 k2=> ?_⟩;rw[fZ];simp[dz,jO,p1,p3,d1,jc,ln,L8,vc,ix,gc,QL,h4]
          . (rw[Za7 (by omega)];have d4:decide (0<=g[i])=false:=Za2 h4;have aV:=hL.gr.wf _ _ gc;have pt:=λ(K:AV->St->Option (AV×St))=>zX (c:=c) K gc (o:=i) (by rw[Za5];exact QL) (v:= .int .i64 (k:Int)) rfl rfl);have em:(g.map (AV.int .i64)).set i (.int .i64 (k:Int))=(g.set i (k:Int)).map (AV.int .i64):=(by rw[Zq5]);rw[em]at pt;have LI2:LI sA (aY s gb (.cells ((g.set i (k:Int)).map (AV.int .i64)) 0)) vb gb jb P J.N (g.set i (k:Int)):=by
              refine⟨B8 w0 hL.gr hg aV _,by rw[aG (λe=>hvg (by omega) e.symm)];exact vc,.inr (bN _ _ _),by rw[Zl4];exact hL.gl⟩
            rcases ih (k+1) f _ _ (by omega) (by omega) LI2 with⟨z1,s',z2,z3⟩|⟨g',s',z1,z2,z3⟩
            . refine .inl ⟨z1,s',z2,λk1 k2=> ?_⟩;rw[<-z3 k1 k2,fZ];simp[dz,jO,p1,p3,d1,jc,ln,L8,vc,ix,gc,QL,d4,pt,wr]
            . refine .inr ⟨g',s',z1,z2,λk1 k2=> ?_⟩;rw[<-z3 k1 k2,fZ];simp[dz,jO,p1,p3,d1,jc,ln,L8,vc,ix,gc,QL,d4,pt,wr]
        . rw[Za7 (by omega),Za7 h3];have d3:decide (0<=x)=false:=Za2 h3;rcases ih (k+1) f s g (by omega) (by omega) hL with⟨z1,s',z2,z3⟩|⟨g',s',z1,z2,z3⟩
          . refine .inl ⟨z1,s',z2,λk1 k2=> ?_⟩;rw[<-z3 k1 k2,fZ];simp[dz,jO,p1,p3,d1,jc,ln,d2,d3,wr]
          . refine .inr ⟨g',s',z1,z2,λk1 k2=> ?_⟩;rw[<-z3 k1 k2,fZ];simp[dz,jO,p1,p3,d1,jc,ln,d2,d3,wr]
theorem ap6(hc:bH c){s:St}(jw:JW s jb j J):c 78 [.ptr jb 0] s=some (.bool false,s):=by
 have jc:=jw.oc;have e1:∀(K:AV->St->Option (AV×St))(s:St),aq c (.bin .eql .ptr) [.ptr jb 0,.ju] s K=K (.bool false) s:=λK s=>aR c K (λH n=>rfl) s
 have e2:∀(K:AV->St->Option (AV×St))(s:St),aq c (.bin .eql .map) [.map j.M,.qE] s K=K (.bool false) s:=λK s=>aR c K (λH n=>rfl) s
 rw[Tb hc 1 (r:=(.bool false,s)),aE (Plain.bool _) (aT.refl s)];rw[Zr];simp[e1,e2,jc]
theorem asC(hc:bH c)(jw:JW sA jb j J)(w0:Wf sA)(pq:QS 1 sA P (q.map bV))(qp:q.length<=1000000):
   ((q.length≠J.n\/GY J.N q=none)/\c 37 [.ptr jb 0,P] sA=some (.ju,sA))\/
     ∃g vb G s',q.length=J.n/\GY J.N q=some g/\c 37 [.ptr jb 0,P] sA=some (.ptr vb 0,s')/\Grew sA s'/\Vw s' vb jb j J P G q g:=by
 have jc:=jw.oc;have nn:=ap6 hc jw;have lp:=λ(K:AV->St->Option (AV×St))(s:St)=>pq.lenB (c:=c) K s
 rw[Za5]at lp;obtain⟨s0',r1',r2',_,_,gsq⟩:=jw.ps;have lg:=λ(K:AV->St->Option (AV×St))(s:St)=>gsq.out.own.lenB (c:=c) K s
 rw[gsq.len]at lg;have en:J.p.gs.length=J.n:=rfl;by_cases hl:q.length=J.n
 . have hN  :J.N<=100000:=(by have:=jw.nN;have:=jw.yo.ts;have:=(o7 J.p.ts).2;omega);have dl:decide ((q.length:Int)=(J.p.gs.length:Int))=true:=Za0 (by omega);have lt:=λ(K:AV->St->Option (AV×St))(s:St)=>jw.tab.lenB (c:=c) K s
   rw[Za5,(Ta _ _).1]at lt;have g1:=Grew.ah w0 (.cells [AV.int .i64 (-1)] 0);obtain⟨s2,gb,e1,e2,e3,e4⟩:=anC hc (N:=J.N) (by omega) (v:= .int .i64 (-1)) rfl _ g1.wf (az sA (.cells [.int .i64 (-1)] 0));have g12:=g1.trans e2;have w2:=e2.wf;have g3:=Grew.ah w2 (.cells [.ptr jb 0,P,.slice gb 0 J.N (some J.N) 1] 0);have g13:=g12.trans g3;have bl:∀(K:AV->St->Option (AV×St))(s:St),aq c (.build [.ju,.af,.af] [(0,1),(1,1),(2,1)]) [.ptr jb 0,P,.slice gb 0 J.N (some J.N) 1] s K=K (.agg [.ptr jb 0,P,.slice gb 0 J.N (some J.N) 1]) s:=λK s=>
     dX c K s _ _ _ _ (by rcases pq with⟨rfl,_⟩|⟨b,off,cap,cs,rfl,_⟩|⟨b,off,rfl,_⟩<;>rfl)
   have r1:=λ(K:AV->St->Option (AV×St))=>Ge (c:=c) (z:=[.int .i64 0]) (x:= .int .i64 (-1)) rfl rfl sA K
   have hvg:0<J.N->s2.next≠gb:=λh e=>by
     rcases e4 with e4|e4
     .  omega
     .  have:=w2 _ _ e4;rw[e]at this;omega
   have LI0:LI sA (ah s2 (.cells [.ptr jb 0,P,.slice gb 0 J.N (some J.N) 1] 0)) s2.next gb jb P J.N (List.replicate J.N (-1)):=by
     refine⟨g13,az _ _,?_,by simp⟩;rcases e4 with e4|e4
     .  exact .inl e4
     .  right;rw[List.map_replicate];exact g3.get e4
   have e3':sA.next.toNat<=gb.toNat:=Zb0 g1.next e3;rcases asB (c:=c) jw pq qp hN e3' hvg w0 (q.length+1) q.length 0 (q.length+1) _ _ (by omega) (by omega) LI0 with⟨z1,s',z2,z3⟩|⟨g,s',z1,z2,z3⟩
   . rw[Zf3]at z1;refine .inl ⟨.inr z1,?_⟩;rw[xN hc (q.length+1) (r:=(.ju,s')),aE Plain.ju z2.keeps];simp only[show((0:Nat):Int)=0 from rfl]at z3;rw[AK];simp only[aA,dD,nn,cO,lS,lp,cJ,aS,Zc3,bf,jc,Jc.c1,aJ,Zb1,bg,lg,Li,dl,Zk0,pZ,dQ,r1,g1.get jc,Jc.c6,lt,e1,bl,dI,show ∀l,AV.cells (.agg l)=l from λl=>rfl,z3,aH,br]
   . rw[  Zf3]at z1;have ok:=ahL z1;refine .inr ⟨g,s2.next,.slice gb 0 J.N (some J.N) 1,s',hl,z1,?_,z2.gr,⟨jw.ai z2.gr,z2.vc,z2.gr.wf,pq.ai z2.gr,?_,hl,z2.gl,ok.1,anD (n:=J.n) z1 (by omega) λx hx=>by have:=List.eq_of_mem_replicate hx;omega⟩⟩
     .  rw[xN hc (q.length+1) (r:=(.ptr s2.next 0,s'))]
        . unfold tidy;rw[Za7 (λh=>Uu _ _ h.1)]
        . simp only[show((0:Nat):Int)=0 from rfl]at z3;rw[AK];simp only[aA,dD,nn,cO,lS,lp,cJ,aS,Zc3,bf,jc,Jc.c1,aJ,Zb1,bg,lg,Li,dl,Zk0,pZ,dQ,r1,g1.get jc,Jc.c6,lt,e1,bl,dI,show ∀l,AV.cells (.agg l)=l from λl=>rfl,z3,aH,br]
     .  rcases Zm8 J.N with h0|h0
        . have:g=[]:=Zc5 (by rw[z2.gl,h0]);rw[h0,this];exact .inr (.inr ⟨gb,0,rfl,rfl⟩)
        . rcases z2.gc with h|h
          . omega
          . refine .inr (.inl ⟨gb,0,some J.N,_,by rw[Za5,z2.gl],h,by simp,?_,.inr (by rw[Za5,z2.gl])⟩);rw[Gg,agd];simp only[Zf3,Za5,Zo7];exact Zf9 (by simp)
 . refine .inl ⟨.inl hl,?_⟩;have dl:decide ((q.length:Int)=(J.p.gs.length:Int))=false:=Za2 (by omega);rw[xN hc 1 (r:=(.ju,sA)),aE Plain.ju (aT.refl sA)];rw[AK];simp only[aA,dD,nn,cO,lS,lp,cJ,aS,Zc3,bf,jc,Jc.c1,aJ,Zb1,bg,lg,Li,dl,Zk1,pZ,dW]
end
def FI(s0:St)(nb:Pos)(s:St)(l:List Ev):Prop:=Grew s0 s/\s.heap.get nb=some (.cells [.int .i64 ((pG l:Nat):Int)] 0)
theorem alA(hc:bH c){s:St}{nb:Pos}{n k:Nat}{W:AV}(hn:s.heap.get nb=some (.cells [.int .i64 (n:Int)] 0))(hB:n+k<=1000000):
  c 82 [.int .i64 (k:Int),W,.ptr nb 0] s=some (tidy s (.tuple [],aY s nb (.cells [.int .i64 ((n+k:Nat):Int)] 0))):=by
 have w:ax .i64 ((n:Int)+(k:Int))=((n+k:Nat):Int):=by rw[wrap64 (by omega) (by omega)];omega
 have pt:=λ(K:AV->St->Option (AV×St))=>zX (c:=c) K hn (o:=0) (by simp) (v:= .int .i64 ((n+k:Nat):Int)) rfl rfl
 refine Pa hc 1 ?_;rw[Tc];simp only[bf,hn,aJ,Zb1,Za4,bg,aA,fS,w,pt];rfl
theorem alB(hc:bH c){s0:St}(w0:Wf s0){nb:Pos}(hnb:s0.next.toNat<=nb.toNat):kF c (.func 82 [] [.ptr nb 0]) s0 (FI s0 nb) (λ_ b=>b=nb) where
 ai h:=h.1
 grow h g:=⟨h.1.trans g,g.get h.2⟩
 mK _ _ h:=h
 mlt h e:=by subst e;exact h.1.wf _ _ h.2
 back {s s' l l'} h h' hk:=by
  have e1:=hk nb _ h.2;have e2:=h'.2;rw[e1]at e2;simp only[H5,AB.cells.injEq,Zf7,AV.int.injEq,Zr2,Zo9]at e2;exact⟨h.1,by rw[<-e2];exact h.2⟩
 call {s l k W who} h hW hB:=by
  have hn:=ahK l;have f1:=alA hc (W:=W) (k:=k) h.2 (by omega);have aV:=h.1.wf _ _ h.2;have e:pG (l++[(k,who)])=pG l+k:=by rw[adM,asm]
  unfold tidy at f1;split at f1
  . rename_i hk;refine⟨s,.tuple [],λK=>by rw[jC];simp only[Ze1,Zd7];rw[f1];rfl,⟨h.1,?_⟩,ic.refl h.1.wf⟩;have e1:=hk.2 nb _ h.2;rw[bN]at e1;rw[e,e1];exact h.2
  . refine⟨_,.tuple [],λK=>by rw[jC];simp only[Ze1,Zd7];rw[f1];rfl,⟨B8 w0 h.1 hnb aV _,by rw[bN,e]⟩,Za3 _,jD h.1.wf aV,λb x hb hx=>⟨by rw[aG (λe=>hb e.symm)];exact hx,hb⟩⟩
 one:=⟨rfl,rfl⟩
theorem anE{m:Nat}(h1:1<=m)(h2:m<=18):gP .i (.int .u8 (m:Int)) ur 0=some (some (m - 1,.agg (kd m).cells)):=by rcases Lm h1 h2 with rfl|rfl|rfl|rfl|rfl|rfl|rfl|rfl|rfl|rfl|rfl|rfl|rfl|rfl|rfl|rfl|rfl|rfl<;>rfl
theorem ap7{R:Type}{h:T AB}{mp:Pos}(hm:h.get mp=some (.map ur 18)){m:Nat}(h1:1<=m)(h2:m<=18)(z:AV)(K:AV->Option R):ia (.lookup .i z false) [.map mp,.int .u8 (m:Int)] h (λ_=>true) K=K (.agg (kd m).cells):=by
 unfold ia;have e:aF.run (λ_=>none) .h (.lookup .i z false) [.map mp,.int .u8 (m:Int)]=none:=rfl;rw[e];simp only;have:aF.run (λb=>h.get b) .h (.lookup .i z false) [.map mp,.int .u8 (m:Int)]=some (.val (.agg (kd m).cells)):=by
  simp only[aF.run,kq,hm,anE h1 h2]
 rw[this]
section
variable{s : St}{vb jb : Pos}{j : Jc}{J : Jt}{P G : AV}{q g : List Int}
theorem Vw.rR(V:Vw s vb jb j J P G q g){i:Nat}{r:Rl}(hi:J.p.rs[i]? =some r):∃b o,Rd s 6 j.V5 i b o r.cells:=
 V.jw.gK.rd (λr hr=>by obtain⟨x,_,rfl⟩:=Zc7.1 hr;rfl) (by rw[Zb4,hi];rfl)
theorem anF(hc:bH c)(V:Vw s vb jb j J P G q g)(fC:J.p.cs.length=J.n\/J.p.cs.length=0){i:Nat}{r:Rl}(hi:J.p.rs[i]? =some r){m:Nat}(R:RuV J.p r m):
  c 41 [.ptr vb 0,.int .i64 (i:Int)] s=some (.int .i64 ((pG (KS J q g r):Nat):Int),s):=by
 have g1:=Grew.ah V.wf (.cells [.int .i64 0] 0);have H:=alB hc V.wf (Za3 s.next.toNat);have I1:FI s s.next (ah s (.cells [.int .i64 0] 0)) []:=⟨g1,az _ _⟩
 obtain⟨f,s',e1,e2,e3⟩:=asA hc H V fC R I1;rw[Td hc 1 (r:=(.int .i64 ((pG (KS J q g r):Nat):Int),s')),aE (Plain.int _ _) e3.1.keeps];have V1:=V.ai g1;have bw:∀(K:AV->St->Option (AV×St)),aq c (.store 1) [.ptr s.next 0,.int .i64 0] (ah s (.cells [.int .i64 0] 0)) K=K .undef (ah s (.cells [.int .i64 0] 0)):=λK=>cr c K s 1 (.int .i64 0) [.int .i64 0] rfl rfl rfl
 rw[Xp];simp only[aA,dF,bw];generalize ah s (.cells [.int .i64 0] 0)=s1 at*
 have vc:=V1.vc;have jc:=V1.jw.oc;obtain⟨rb,ro,h1⟩:=V1.rR hi;have r1:=λ{R}=>@h1.pr R
 have r2:=h1.at' 0 _ rfl;rw[Zg0,R.k]at r2;have r3:=h1.all;have kk:=λ(z:AV)(K:AV->Option (AV×St))=>ap7 V1.jw.kin R.m1 R.m2 z K
 have kf:(kd m).cells[7]? =some (.func f [] []):=by rw[<-e1];rfl
 simp only[dK,qz,bu,Zc3,Zg0,kQ,vc,jc,aJ,Zb1,Za4,Jc.c4,Jc.c5,bg,r1,r2,kk,am9,kf,GU,r3,gO,aac,jC,Ze1,Ze0,Zd7,e2,cO,bf,e3.2,aA]
end
end
section
set_option maxRecDepth 100000
open Go Go.Ai Go.Proofs
def gOf(J:Jt)(p:Nat->Int):List Int:=(GY J.N ((List.range J.n).map p)).getD []
def agj(J:Jt)(r:Rl):RM:=match r.k.toNat with
 |1=> .two (rA J r) (rB J r) (acA J r)
 |2=> .two (rA J r) (rB J r) (aln J)
 |3=> .two (rA J r) (rB J r) (alo J)
 |4=> .two (rA J r) (rB J r) (agf J r)
 |5=> .two (rA J r) (rB J r) (alp J)
 |6=> .one (rA J r) (atP J r)
 |7=> .one (rA J r) (agh J r)
 |8=> .Fk (oq J r (Xj J))
 |9=> .gJ (O9 J r)
 |10=> .qj (adR J r)
 |11=> .spk λp=>Go.Ai.cnt J.n λa=>on p a&&SY J r (gOf J p) a (p a)
 |12=> .Fk (oq J r (Hw J))
 |13=> .Fk (SX J r)
 |14=> .Fk (oq J r (SS J))
 |15=> .fil (O9 J r) r.n.toNat
 |16=> .uq (O9 J r) r.n.toNat
 |17=> .qj (adS J r)
 |18=> .Fk (oq J r (Xk J))
 |_=> .qj λ_ _=>false
section
variable{J : Jt}{q g : List Int}{r : Rl}{m : Nat}
theorem asD(qp:q.length=J.n):(List.range J.n).map (qF q)=q:=by
 apply Zi7;intro i;rw[Zb4];by_cases hi:i<J.n
 . rw[Zh5 hi,Ze2];have h2:i<q.length:=(by omega);rw[H0 h2,yp (H0 h2)]
 . rw[Zc4 (by simpa using hi),Zc4 (by omega)];rfl
theorem atT(qp:q.length=J.n)(hg:GY J.N q=some g):gOf J (qF q)=g:=by unfold gOf;rw[asD qp,hg];rfl
theorem alC(qp:q.length=J.n)(r:Rl)(D:List Int->List Ev):cw (HA J q r D) J.p.ts.length 0=aa6 (jT J) (qF q) (jT J).T (O9 J r) D:=by
 have e:HA J q r D=λt=>if O9 J r t then D ((jT J).who (qF q) t)else []:=by funext t;unfold HA L9 JT.who;rw[qp];rfl
 rw[e];rfl
theorem ahM(qp:q.length=J.n)(hg:GY J.N q=some g)(R:RuV J.p r m):pG (KS J q g r)=(jT J).gW (qF q) (agj J r):=by
 have hn:(jT J).n=q.length:=qp.symm;unfold KS agj;rw[R.k,Zd4];rcases Lm R.m1 R.m2 with rfl|rfl|rfl|rfl|rfl|rfl|rfl|rfl|rfl|rfl|rfl|rfl|rfl|rfl|rfl|rfl|rfl|rfl<;>simp only
 . exact QE _ _ _
 . exact QE _ _ _
 . exact QE _ _ _
 . exact QE _ _ _
 . exact QE _ _ _
 . exact ahw _ _
 . exact ahw _ _
 . rw[<-hn];exact QF _
 . rw[alC qp];exact aso _
 . rw[<-hn];exact adO _
 . rw[<-hn,adO];show Go.Ai.cnt _ _=Go.Ai.cnt _ _;rw[atT qp hg];rfl
 . rw[<-hn];exact QF _
 . rw[<-hn];exact QF _
 . rw[<-hn];exact QF _
 . rw[alC qp];exact asq _ _
 . rw[alC qp];exact asr _ _
 . rw[<-hn];exact adO _
 . rw[<-hn];exact QF _
theorem ap8(P:Nat->Nat->Int->Int->Bool)(n:Nat):fH (AH (qF q) n P)<=n*(3*n):=
 A9 (λa=>Zb0 (Xi P a _ _) (Zl0 3 (by omega))) n 0
theorem ap9(hq:q.length<=100)(hn:J.n<=100)(hT:J.p.ts.length<=100)(R:RuV J.p r m)(qp:q.length=J.n):fH (KS J q g r)<=200000:=by
 have two:∀a b P,fH (DE (qF q) a b P)<=200000:=λa b P=>Zb0 (Hu _ _ _) (by simp)
 have one:∀a P,fH (Xa (qF q) a P)<=200000:=λa P=>Zb0 (Hu _ _ _) (by simp)
 have Fk:∀P,fH (AH (qF q) q.length P)<=200000:=λP=>by have h1:=ap8 (q:=q) P q.length;have h2:=Nat.mul_le_mul hq (Zl0 3 hq);omega
 have qj:∀P,fH (OU (qF q) q.length P)<=200000:=λP=>by have h1:=A9 (f:=λg=>yY (on (qF q) g&&P g (qF q g)) 1 [(g:Int)]) (B:=2) (λa=>Zb0 (Hu _ _ _) (by simp)) q.length 0;unfold OU;omega
 have tab:∀D:List Int->List Ev,(∀who:List Int,who.length<=J.n->fH (D who)<=2000)->fH (cw (HA J q r D) J.p.ts.length 0)<=200000:=λD hD=>by
   have h1:=A9 (f:=HA J q r D) (B:=2000) (λt=>by
    unfold HA;split
    . exact hD _ (by have:=S6 J q t q.length;omega)
    . exact Zi8 _) J.p.ts.length 0
   omega
 unfold KS;rw[R.k,Zd4];rcases Lm R.m1 R.m2 with rfl|rfl|rfl|rfl|rfl|rfl|rfl|rfl|rfl|rfl|rfl|rfl|rfl|rfl|rfl|rfl|rfl|rfl<;>simp only
 . exact two _ _ _
 . exact two _ _ _
 . exact two _ _ _
 . exact two _ _ _
 . exact two _ _ _
 . exact one _ _
 . exact one _ _
 . exact Fk _
 . exact tab _ (ahH _ hn)
 . exact qj _
 . exact qj _
 . exact Fk _
 . exact Fk _
 . exact Fk _
 . exact tab _ (ahI _ (by have:=R.n (.inl rfl);omega) hn)
 . exact tab _ (ahJ _ hn)
 . exact qj _
 . exact Fk _
end
variable{c : au}
structure OkJ(J:Jt):Prop where
 rul:∀r∈J.p.rs,∃m,RuV J.p r m
 cls:J.p.cs.length=J.n\/J.p.cs.length=0
structure PaO(J:Jt)(q:List Int):Prop where
 len:q.length=J.n
 see:∃g,GY J.N q=some g
def fJ(J:Jt)(q:List Int)(r:Rl):Nat:=(jT J).gW (qF q) (agj J r)
def lJ(J:Jt)(q:List Int)(r:Rl):Nat:=(jT J).least (qF q) (agj J r)
section
variable{s : St}{vb jb : Pos}{j : Jc}{J : Jt}{P G : AV}{q g : List Int}
theorem auY(V:Vw s vb jb j J P G q g)(hg:GY J.N q=some g){r:Rl}{m:Nat}(R:RuV J.p r m):fJ J q r<=200000/\lJ J q r<=200000:=by
 have hN:=V.LY;have qp:=V.ql;have h1:=ap9 (g:=g) (by omega) hN.2 V.jw.yo.ts R qp;have h2:=ahK (KS J q g r);have e:=ahM qp hg R;have h3:lJ J q r<=fJ J q r:=least_le _;have h4:fJ J q r<=200000:=by unfold fJ;omega
 omega
theorem asE(hc:bH c)(O:OkJ J)(V:Vw s vb jb j J P G q g)(hg:GY J.N q=some g){i:Nat}{r:Rl}(hi:J.p.rs[i]? =some r):c 41 [.ptr vb 0,.int .i64 (i:Int)] s=some (.int .i64 ((fJ J q r:Nat):Int),s):=by obtain⟨m,R⟩:=O.rul r (Zc0 hi);unfold fJ;rw[<-ahM V.ql hg R];exact anF hc V O.cls hi R
theorem look_ok(hc:bH c)(jw:JW s jb j J)(w0:Wf s)(pq:QS 1 s P (q.map bV))(hq:PaO J q):
   ∃g vb G s',GY J.N q=some g/\c 37 [.ptr jb 0,P] s=some (.ptr vb 0,s')/\Grew s s'/\Vw s' vb jb j J P G q g:=by
 obtain⟨g,hg⟩:=hq.see;have hn:J.n<=100:=jw.yo.gs;rcases asC hc jw w0 pq (by have:=hq.len;omega)with⟨h,_⟩|⟨g',vb,G,s',h1,h2,h3,h4,h5⟩
 . rcases h with h|h
   . exact absurd hq.len h
   . rw[hg]at h;cases h
 . exact⟨g',vb,G,s',h2,h3,h4,h5⟩
theorem anG(a:Pos)(o:Nat)(K:AV->St->Option (AV×St))(s:St):aq c (.bin .eql .ptr) [.ptr a o,.ju] s K=K (.bool false) s:=aR c K (λH n=>rfl) s
end
variable{c : au}
section
variable{s : St}{vb jb : Pos}{j : Jc}{J : Jt}{P G : AV}{q g : List Int}
end
variable{c : au}
def BR(x:Int)(n:Nat):Nat:=(x % (n:Int)).toNat
theorem aqa(x:Int){n:Nat}(h:0<n):BR x n<n:=by have h1:=Int.emod_nonneg x (show(n:Int)≠0 by omega);have h2:=Int.emod_lt_of_pos x (show(0:Int)<(n:Int)by omega);unfold BR;omega
theorem asF(hc:bH c)(x:Int){n:Nat}(h:0<n)(hn:n<=1000000)(s:St):c 24 [.int .i64 x,.int .i64 (n:Int)] s=some (.int .i64 ((BR x n:Nat):Int),s):=by
 have h1:=Int.emod_nonneg x (show(n:Int)≠0 by omega);have h2:=Int.emod_lt_of_pos x (show(0:Int)<(n:Int)by omega);have e:((BR x n:Nat):Int)=x % (n:Int):=by unfold BR;omega
 have rm:=λ(K:AV->St->Option (AV×St))(s:St)=>adI c K s .num .i64 x (n:Int) (by omega)
 have t:=Int.tmod_eq_emod (a:=x) (b:=(n:Int));rw[Vp hc 1 (r:=(.int .i64 ((BR x n:Nat):Int),s)),aE (Plain.int _ _) (aT.refl s)];rw[Zs,e];by_cases hd:0<=x\/(n:Int) ∣ x
 . rw[Zb3 hd]at t;have t:x.tmod (n:Int)=x % (n:Int):=(by rw[t];exact Int.sub_zero _);have d:decide (x % (n:Int)<0)=false:=Za2 (by omega);simp[-gV,rm,t,dz,d]
 . rw[Za7 hd]at t;have t:x.tmod (n:Int)=x % (n:Int) - (n:Int):=(by rw[t,Int.natAbs_natCast]);have d:decide (x % (n:Int) - (n:Int)<0)=true:=Za0 (by omega);have w:ax .i64 (x % (n:Int))=x % (n:Int):=wrap64 (by omega) (by omega);simp[-gV,rm,t,dz,d,w]
abbrev uA(tk:List Bool):List AV:=tk.map AV.bool
theorem aqb{tb:Pos}{tk:List Bool}(hl:tk.length<=1000000){fr:Nat}(hf:fr<=1000000){s:St}(ht:s.heap.get tb=some (.cells (uA tk) 0))(F:Nat):∀(m k f:Nat),k+m=tk.length->m<f->∀k1 k2:Q2,
  lY c F k1 k2 f [.slice tb 0 tk.length (some tk.length) 1,.int .i64 (fr:Int),.int .i64 (k:Int)] s=
    match qK tk fr m k with
    |some i=>k1 [.int .i64 (i:Int)] (aY s tb (.cells (uA (tk.set i true)) 0))
    |none=>k2 [] s:=by
 intro m;induction m with
 |zero=>
  intro k f hk hf k1 k2;obtain⟨f,rfl⟩:∃g,f=g+1:=⟨f - 1,by omega⟩
  obtain rfl:k=tk.length:=by omega
  rw[rX];simp[lq,qK]
 |succ m ih=>
  intro k f hk hf k1 k2;obtain⟨f,rfl⟩:∃g,f=g+1:=⟨f - 1,by omega⟩
  have jO:k<tk.length:=by omega
  have aV:decide ((k:Int)<(tk.length:Int))=true:=Za0 (by omega);have w1:ax .i64 ((fr:Int)+(k:Int))=((fr+k:Nat):Int):=by rw[wrap64 (by omega) (by omega)];omega
  have wr:ax .i64 ((k:Int)+1)=((k+1:Nat):Int):=by rw[wrap64 (by omega) (by omega)];omega
  have hi:(fr+k) % tk.length<tk.length:=Zl8 _ (by omega);have rm:∀(K:AV->St->Option (AV×St))(s:St),aq c (.bin .rem .num) [.int .i64 ((fr+k:Nat):Int),.int .i64 (tk.length:Int)] s K=K (.int .i64 (((fr+k) % tk.length:Nat):Int)) s:=λK s=>by
    rw[cN (by omega) (by omega),Zo2]
  generalize hm:(fr+k) % tk.length=i at*
  have ix:=λ(K:AV->St->Option (AV×St))(s1:St)=>iV c K s1 (b:=tb) (off:=0) (len:=tk.length) (es:=1) (es':=1) (cap:=some tk.length) (k:= .i64) (i:=i) hi
  simp only[Zc3,Zo7]at ix;have ec:(uA tk)[i]? =some (.bool tk[i]):=by rw[Zb4,H0 hi];rfl
  have eg:tk.getD i true=tk[i]:=by rw[Zb5,H0 hi];rfl
  unfold qK;rw[hm,eg];cases hb:tk[i]
  . (rw[hb]at ec;have pt:=λ(K:AV->St->Option (AV×St))=>zX (c:=c) K ht (o:=i) (by rw[Za5];exact hi) (v:= .bool true) rfl rfl);rw[show(uA tk).set i (.bool true)=uA (tk.set i true)from(Zq5).symm]at pt;rw[Zb3 rfl,rX];simp only[aH,br,aA,lq,dS,aV,dW,fS,w1,rm,ix,bf,ht,aJ,Zb1,ec,bg,Lh,Zk1,pt]
  . rw[hb]at ec;rw[Za7 (by simp), <-ih (k+1) f (by omega) (by omega) k1 k2,rX];simp only[aH,br,aA,lq,dS,aV,dW,dQ,fS,w1,rm,ix,bf,ht,aJ,Zb1,ec,bg,Lh,Zk0,wr]
theorem anH{a b:List Bool}(h:uA a=uA b):a=b:=by
 induction a generalizing b with
 |nil=>cases b with|nil=>rfl|cons y b=>simp at h
 |cons x a ih=>
  cases b with
  |nil=>simp at h
  |cons y b=>
   simp only[Zd2,Zf7,AV.bool.injEq]at h;rw[h.1,ih h.2]
theorem anI(hc:bH c){tb:Pos}{tk:List Bool}(hl:tk.length<=1000000){fr:Nat}(hf:fr<=1000000){s:St}(ht:s.heap.get tb=some (.cells (uA tk) 0)):
  c 36 [.slice tb 0 tk.length (some tk.length) 1,.int .i64 (fr:Int)] s=some (.int .i64 (qL tk fr).2,aY s tb (.cells (uA (qL tk fr).1) 0)):=by
 have lp:=λ(k1 k2:Q2)=>aqb (c:=c) hl hf ht (tk.length+1) tk.length 0 (tk.length+1) (by omega) (by omega) k1 k2
 simp only[show((0:Nat):Int)=0 from rfl]at lp;unfold qL;cases Ff:qK tk fr tk.length 0 with
 |none=>
  simp only[Ff]at lp ⊢;rw[ahy ht];rw[Bb hc (tk.length+1) (r:=(.int .i64 (-1),s)),aE (Plain.int _ _) (aT.refl s)];rw[DH];simp[lp]
 |some i=>
  simp only[Ff]at lp ⊢;have hb:=IK Ff;have ne:tk.set i true≠tk:=λe=>by have h2:(tk.set i true)[i]? =some true:=(by rw[Zg1 (Za1.1 hb).1]);rw[e,hb]at h2;cases h2
  rw[Bb hc (tk.length+1) (r:=(.int .i64 (i:Int),aY s tb (.cells (uA (tk.set i true)) 0))),adH ht (by rw[bN];intro e;simp only[H5,AB.cells.injEq,Zo9]at e;exact ne (anH e))];rw[DH];simp[lp]
def alD(p:bM):Prop:=∀t∈p.ts,ot t.sh t.a t.b=bJ t/\(0<=t.a/\t.a<=1000000)/\0<=t.b/\t.b<=1000000
section
variable{st sB s : St}{Vs : List AV}{p : bM}
theorem PS.rT(h:PS st s Vs p):∃V1 V2 r1 r2,Vs[0]? =some V1/\Vs[1]? =some V2/\TS st s V1 p.ts r1/\GS st s V2 p.gs r2/\Vs.length=5:=by
 obtain⟨V1,V2,V3,V4,V5,r1,r2,rfl,h1,h2,_⟩:=h.all;exact⟨V1,V2,r1,r2,rfl,rfl,h1,h2,rfl⟩
theorem TS.Jk{V:AV}{ts:List aB}{rows:List (List AV)}(h:TS st s V ts rows){t:Nat}{T:aB}(ht:ts[t]? =some T):∃v b o,Rd s 7 V t b o (T.aj v):=by
 have hl:t<rows.length:=by rw[h.len];exact(Za1.1 ht).1
 obtain⟨v,e,_⟩:=h.dV t T rows[t] ht (H0 hl);obtain⟨b,o,h4⟩:=h.out.own.rd h.out.row (H0 hl);exact⟨v,b,o,by rw[<-e];exact h4⟩
theorem alE(hc:bH c)(hz:alD p)(um:p.ts.length<=100){pb:Pos}{V1:AV}{cs:List AV}{r1:List (List AV)}(hw:Wf s)(hp:s.heap.get pb=some (.cells cs 0))(h0:cs[0]? =some V1)(T:TS st s V1 p.ts r1)(F:Nat):∀(m k f:Nat),k+m=p.ts.length->m<f->∀k2:Q2,
  j5 c F k2 f [.ptr pb 0,.int .i64 (aW (p.ts.take k)),.int .i64 (k:Int)] s=k2 [.int .i64 (aW p.ts)] s:=by
 have ln:=λ(K:AV->St->Option (AV×St))=>T.out.own.lenB (c:=c) K s
 rw[T.len]at ln;intro m;induction m with
 |zero=>
  intro k f hk hf k2;obtain⟨f,rfl⟩:∃g,f=g+1:=⟨f - 1,by omega⟩
  obtain rfl:k=p.ts.length:=by omega
  rw[yu,Zj1];simp[hp,h0,ln]
 |succ m ih=>
  intro k f hk hf k2;obtain⟨f,rfl⟩:∃g,f=g+1:=⟨f - 1,by omega⟩
  have jO:k<p.ts.length:=by omega
  have hi:=H0 jO;obtain⟨v,b,o,h1⟩:=T.Jk hi;have z:=hz _ (Zc2 jO);have sz:=Xb p.ts[k];have sn:=Xd p.ts[k];have et:aW (p.ts.take (k+1))=aW (p.ts.take k)+bJ p.ts[k]:=(Te jO).1;generalize p.ts[k]=t at*
  have r1:=λ{R}=>@h1.st R
  have r2:=h1.all;have sl:=Ma hc (l:=t.aj v) (sh:=t.sh) (a:=t.a) (b:=t.b) rfl rfl rfl z.2.1 z.2.2 s hw;rw[z.1]at sl;have n1:=o7 (p.ts.take k);rw[Zh9]at n1;have aV:decide ((k:Int)<(p.ts.length:Int))=true:=Za0 (by omega);have w1:ax .i64 (aW (p.ts.take k)+bJ t)=aW (p.ts.take k)+bJ t:=wrap64 (by omega) (by omega);have wr:ax .i64 ((k:Int)+1)=((k+1:Nat):Int):=by rw[wrap64 (by omega) (by omega)];omega
  rw[<-ih (k+1) f (by omega) (by omega) k2,yu,et];simp only[aH,br,aA,aS,Zc3,bf,hp,aJ,Zb1,h0,bg,ln,dS,aV,dW,r1,gG,r2,gO,dD,sl,cO,fS,w1,wr]
theorem alF(hc:bH c)(h:PS st s Vs p)(hz:alD p)(um:p.ts.length<=100):c 35 [.agg Vs] s=some (.int .i64 (aW p.ts),s):=by
 have hw:=h.ai.wf;have gN:=Grew.ah hw (.cells Vs 0);obtain⟨V1,V2,r1,r2,e1,_,T,_,_⟩:=(h.KO gN).rT;have lp:=λ(k2:Q2)=>alE (c:=c) hc hz um gN.wf (az s (.cells Vs 0)) e1 T (p.ts.length+1) p.ts.length 0 (p.ts.length+1) (by omega) (by omega) k2
 simp only[List.take_zero,show aW ([]:List aB)=0 from rfl,show((0:Nat):Int)=0 from rfl]at lp;rw[Mb hc (p.ts.length+1) (r:=(.int .i64 (aW p.ts),ah s (.cells Vs 0))),aE (Plain.int _ _) gN.keeps];rw[Pb];simp only[dI,show ∀l,AV.cells (.agg l)=l from λl=>rfl,aA,lp,aH,br]
def Mc(ch:Nat->Ch):Nat->Nat->List Ch
 |0,_=>[]
 |m+1,k=>ch k::Mc ch m (k+1)
structure SeI(sB s:St)(tb:Pos)(tk:List Bool)(v:AV)(R:List Int):Prop where
 Xq:Mk 1 sB s v (R.map bV)
 tkn:s.heap.get tb=some (.cells (uA tk) 0)
 ge:sB.next.toNat<=tb.toNat
 ap:∀b,aK v=some b->tb.toNat+1<=b.toNat
theorem SeI.set{tb:Pos}{tk uK:List Bool}{v:AV}{R:List Int}(h:SeI sB s tb tk v R):SeI sB (aY s tb (.cells (uA uK) 0)) tb uK v R:=by
 have aV:=h.Xq.ai.wf _ _ h.tkn;have g:=B8 h.Xq.jq h.Xq.ai h.ge aV (.cells (uA uK) 0);exact⟨h.Xq.oP g λb x hb hx=>by rw[aG (λe=>by have:=h.ap b hb;rw[<-e]at this;omega)];exact hx,bN _ _ _,h.ge,h.ap⟩
theorem SeI.push{tb:Pos}{tk:List Bool}{v:AV}{R:List Int}(h:SeI sB s tb tk v R)(hR:R.length<=1000)(x:Int):∃s5 v',(∀(K:AV->St->Option (AV×St)),aq c (.buildSlice 1 1 [.int .i64 0] [0]) [.int .i64 x] s (λy t=>aq c (.append 1 8) [v,y] t K)=K v' s5)/\SeI sB s5 tb tk v' (R++[x]):=by have aV:=h.Xq.ai.wf _ _ h.tkn;obtain⟨s5,v5,a1,a2,a3,a4⟩:=h.Xq.push (R:=AV×St) (c:=c) (bytes:=8) (z:=[.int .i64 0]) (x:= .int .i64 x) rfl rfl rfl (by omega) (by rw[Za5];omega) (by rw[Za5];omega);refine⟨s5,v5,a1,⟨by rw[Zc8];exact a2,a3 tb _ (λe=>by have:=h.ap tb e;omega) h.tkn,h.ge,λb hb=> ?_⟩⟩;have:=a4 b hb;omega
def chS(N:Nat)(xs:List Int)(g:Nat):Ch:=match xs[g]? with
 |some x=>if BR x (N+1)=N then .no else .fr (BR x (N+1))
 |none=> .no
theorem anJ(hc:bH c){pb tb:Pos}{cs:List AV}{V2:AV}{r2:List (List AV)}(hp:sB.heap.get pb=some (.cells cs 0))(h1:cs[1]? =some V2)(T:GS st sB V2 p.gs r2){N:Nat}(hN:N<=100000)(hgs:p.gs.length<=100)(z:Bool)(xs:List Int)(hx:xs.length<=9223372036854775807)(F:Nat):
  ∀ (m k f:Nat)(s:St)(tk:List Bool)(v:AV)(R:List Int),k+m=p.gs.length->m<f->SeI sB s tb tk v R->tk.length=N->R.length=k->∃s' v' uK,SeI sB s' tb uK v' (R++iC tk (Mc (chS N xs) m k))/\
    ∀k2:Q2,fo c F k2 f [ints z xs,.ptr pb 0,.int .i64 (N:Int),.slice tb 0 N (some N) 1,v,.int .i64 (k:Int)] s=k2 [v'] s':=by
 intro m;induction m with
 |zero=>
  intro k f s tk v R hk hf hS hl hR;obtain⟨f,rfl⟩:∃g,f=g+1:=⟨f - 1,by omega⟩
  obtain rfl:k=p.gs.length:=by omega
  have kz:=hS.Xq.ai.get hp;have T1:=T.ai hS.Xq.ai;have ln:=λ(K:AV->St->Option (AV×St))=>T1.out.own.lenB (c:=c) K s
  rw[T1.len]at ln;refine⟨s,v,tk,by simpa [Mc,iC]using hS,λk2=> ?_⟩;rw[mO];simp[kz,h1,ln]
 |succ m ih=>
  intro k f s tk v R hk hf hS hl hR;obtain⟨f,rfl⟩:∃g,f=g+1:=⟨f - 1,by omega⟩
  have jO:k<p.gs.length:=by omega
  have kz:=hS.Xq.ai.get hp;have T1:=T.ai hS.Xq.ai;have ln:=λ(K:AV->St->Option (AV×St))=>T1.out.own.lenB (c:=c) K s
  rw[T1.len]at ln;have aV:decide ((k:Int)<(p.gs.length:Int))=true:=Za0 (by omega);have wr:ax .i64 ((k:Int)+1)=((k+1:Nat):Int):=by rw[wrap64 (by omega) (by omega)];omega
  have wN:ax .i64 ((N:Int)+1)=((N+1:Nat):Int):=by rw[wrap64 (by omega) (by omega)];omega
  obtain⟨s5,v5,a1,a2⟩:=hS.push (c:=c) (by omega) (-1)
  have no:chS N xs k= .no->(∀k2:Q2,fo c F k2 (f+1) [ints z xs,.ptr pb 0,.int .i64 (N:Int),.slice tb 0 N (some N) 1,v,.int .i64 (k:Int)] s=fo c F k2 f [ints z xs,.ptr pb 0,.int .i64 (N:Int),.slice tb 0 N (some N) 1,v5,.int .i64 ((k+1:Nat):Int)] s5)->
        ∃s' v' uK,SeI sB s' tb uK v' (R++iC tk (Mc (chS N xs) (m+1) k))/\∀k2:Q2,fo c F k2 (f+1) [ints z xs,.ptr pb 0,.int .i64 (N:Int),.slice tb 0 N (some N) 1,v,.int .i64 (k:Int)] s=k2 [v'] s':=λhch gJ=>by
    obtain⟨s',v',uK,z1,z2⟩:=ih (k+1) f s5 tk v5 (R++[-1]) (by omega) (by omega) a2 hl (by simp[hR]);refine⟨s',v',uK,?_,λk2=>by rw[gJ,z2]⟩;rw[Mc,hch,iC];simpa using z1
  by_cases Md:k<xs.length
  . have hlx:decide ((k:Int)<(xs.length:Int))=true:=Za0 (by omega);have pk:=asF hc xs[k] (n:=N+1) (by omega) (by omega) s;have plt:=aqa xs[k] (n:=N+1) (by omega);simp only[show((N+1:Nat):Int)=(N:Int)+1 by omega]at pk wN;have ech:chS N xs k=if BR xs[k] (N+1)=N then .no else .fr (BR xs[k] (N+1)):=by unfold chS;rw[H0 Md]
    have at':=ahN xs k Md;by_cases hpn:BR xs[k] (N+1)=N
    .   rw[Zb3 hpn]at ech;(refine no ech λk2=> ?_);rw[hpn]at pk;rw[mO];unfold ints at*
        simp[-av,dz,kz,h1,ln,aV,jO,Md,at',wN,pk,a1,wr]
    .   rw[Za7 hpn]at ech;generalize BR xs[k] (N+1)=fr at*
        have dn:decide ((fr:Int)=(N:Int))=false:=Za2 (by omega);have pl:=anI hc (tk:=tk) (tb:=tb) (by omega) (fr:=fr) (by omega) hS.tkn;rw[hl]at pl;obtain⟨s6,v6,b1,b2⟩:=(hS.set (uK:=(qL tk fr).1)).push (c:=c) (by omega) (qL tk fr).2;obtain⟨s',v',uK,z1,z2⟩:=ih (k+1) f s6 _ v6 _ (by omega) (by omega) b2 (by rw[ann];exact hl) (by simp[hR]);refine⟨s',v',uK,?_,λk2=> ?_⟩
        . rw[Mc,ech,iC];simpa using z1
        . rw[<-z2 k2,mO];unfold ints at*
          simp[-av,dz,kz,h1,ln,aV,jO,Md,at',wN,pk,dn,pl,b1,wr]
  . have hlx:decide ((k:Int)<(xs.length:Int))=false:=Za2 (by omega);(refine no (by unfold chS;rw[Zc4 (by omega)]) λk2=> ?_);rw[mO];unfold ints at*
    simp[-av,dz,kz,h1,ln,aV,jO,Md,a1,wr]
theorem anK(N:Nat):List.replicate N (AV.bool false)=uA (List.replicate N false):=List.map_replicate.symm
theorem anL(hc:bH c)(h:PS st s Vs p)(hz:alD p)(um:p.ts.length<=100)(hgs:p.gs.length<=100){N:Nat}(hN:(N:Int)=aW p.ts)(z:Bool)(xs:List Int)(hx:xs.length<=9223372036854775807):
  ∃s' v,c 10 [.agg Vs,ints z xs] s=some (v,s')/\Mk 1 s s' v ((iC (List.replicate N false) (Mc (chS N xs) p.gs.length 0)).map bV):=by
 have hw:=h.ai.wf;have gN:=Grew.ah hw (.cells Vs 0);have h1:=h.KO gN;obtain⟨V1,V2,r1,r2,e1,e2,T,T2,e5⟩:=h1.rT;have so:=alF hc h1 hz um;rw[<-hN]at so;have hN1:N<=100000:=by have:=(o7 p.ts).2;omega
 have hcut:cut Vs 0 5=some Vs:=cM e5;have mk:=λ(K:AV->St->Option (AV×St))=>adJ c K (ah s (.cells Vs 0)) (es:=1) (bytes:=1) (z:=[.bool false]) (k:= .i64) (k':= .i64) (n:=N) (by omega) (by omega)
 rw[Dy,anK]at mk;have gT:=Grew.ah gN.wf (.cells (uA (List.replicate N false)) 0);have S0:SeI (ah s (.cells Vs 0)) (ah (ah s (.cells Vs 0)) (.cells (uA (List.replicate N false)) 0)) (ah s (.cells Vs 0)).next (List.replicate N false) .af []:=
  ⟨Mk.start gN.wf gT,az _ _,Za3 _,λb e=>(nomatch e)⟩
 obtain⟨s',v',uK,z1,z2⟩:=anJ (c:=c) hc (az s (.cells Vs 0)) e2 T2 hN1 hgs z xs hx (p.gs.length+1) p.gs.length 0 (p.gs.length+1) _ _ _ [] (by omega) (by omega) S0 (by simp) rfl;have M:=z1.Xq.back hw gN;rw[Ze1]at M;obtain⟨s3,t1,t2⟩:=M.tidy;refine⟨s3,v',?_,t2⟩;simp only[show((0:Nat):Int)=0 from rfl]at z2;rw[Nw hc (p.gs.length+1) (r:=(v',s')),t1];rw[QN];simp only[dI,show ∀l,AV.cells (.agg l)=l from λl=>rfl,aA,gG,az,aJ,Zb1,hcut,gO,dD,so,cO,mk,z2,aH,br]
end
theorem akk(ch:Nat->Ch):∀(m k i:Nat),(Mc ch m k)[i]? =if i<m then some (ch (k+i))else none
 |0,k,i=>by simp[Mc]
 |m+1,k,0=>by simp[Mc]
 |m+1,k,i+1=>by
  rw[Mc,Zb8,akk ch m (k+1) i];by_cases h:i<m
  . rw[Zb3 h,Zb3 (by omega)];congr 2;omega
  . rw[Za7 h,Za7 (by omega)]
theorem akl(ch:Nat->Ch):∀(m k:Nat),(Mc ch m k).length=m
 |0,k=>rfl
 |m+1,k=>by rw[Mc,Zc9,akl ch m (k+1)]
theorem ahO{N:Nat}:∀(q:List Int)(i:Nat)(g:List Int),(∀x∈q,-1<=x/\x<(N:Int))->(∀x∈q,0<=x->g.getD x.toNat (-1)<0)->(∀(a b:Nat)(x:Int),a<b->q[a]? =some x->q[b]? =some x->x<0)->∃g',Ut N q i g=some g'
 |[],i,g,_,_,_=>⟨g,rfl⟩
 |x ::q,i,g,h1,h2,h3=>by
  have a1:=h1 x (Zd6);have a2:=h2 x (Zd6);unfold Ut;rw[Za7 (by omega)];refine ahO q (i+1) _ (λy hy=>h1 y (Za9 _ hy)) (λy hy h0=> ?_) (λa b y hab ha hb=>h3 (a+1) (b+1) y (by omega) (by simpa using ha) (by simpa using hb));have b1:=h2 y (Za9 _ hy) h0;split
  . rename_i hx;by_cases e:x.toNat=y.toNat
    .   obtain⟨b,hb⟩:=Ze3.1 hy;have:=h3 0 (b+1) x (by omega) rfl (by rw[Zb8,hb];congr 1;omega);omega
    .   rw[Zb5,Zf0 e, <-Zb5];exact b1
  . exact b1
theorem atU{J:Jt}{q:List Int}(hl:q.length=J.n)(h1:∀x∈q,-1<=x/\x<(J.N:Int))(h3:∀(a b:Nat)(x:Int),a<b->q[a]? =some x->q[b]? =some x->x<0):PaO J q:=
 ⟨hl,ahO q 0 _ h1 (λx hx h0=>by
  have:=h1 x hx;rw[Zb5];by_cases h:x.toNat<J.N
  . rw[Zm9,Zb3 h];decide
  . omega) h3⟩
theorem asG{J:Jt}{tk:List Bool}{l:List Ch}(hs:Sat tk l)(hl:l.length=J.n)(ht:tk.length=J.N):PaO J (iC tk l):=by
 refine atU (by rw[SE];exact hl) (λx hx=> ?_) (λa b x hab ha hb=> ?_)
 . obtain⟨i,hi⟩:=Ze3.1 hx;rcases CH l tk hs i x hi with rfl|⟨s,rfl,h|h⟩
   . omega
   . have:=(Za1.1 h).1;omega
   . have:=(Za1.1 h.1).1;omega
 . have:=KN l tk hs a b x hab ha hb;omega
theorem anM{J:Jt}{n:Nat}(hn:n=J.n)(xs:List Int):PaO J (iC (List.replicate J.N false) (Mc (chS J.N xs) n 0)):=by
 have no:∀s,Ch.W7 s∉Mc (chS J.N xs) n 0:=λs h=>by
  obtain⟨i,hi⟩:=Ze3.1 h;rw[akk]at hi;split at hi
  . simp only[H5]at hi;unfold chS at hi;split at hi
    . split at hi<;>cases hi
    . cases hi
  . cases hi
 exact asG ⟨λs h=>absurd h (no s),λi j s h _=>absurd (Zc0 h) (no s)⟩ (by rw[akl];exact hn) (by simp)
theorem PaO.ok{J:Jt}{q:List Int}(h:PaO J q):∀x∈q,-1<=x/\x<(J.N:Int):=by obtain⟨g,hg⟩:=h.see;exact(ahL hg).1
variable{c : au}
theorem acF(i:Nat):∀x∈bQ i,x<256:=λx hx=>by simp only[bQ,Za8,Zb7,Ze4]at hx;omega
theorem abj(p:Prop)[Decidable p](i:Nat):∀x∈(if p then bQ i else []),x<256:=by
 split
 . exact acF i
 . intro x hx;cases hx
theorem aqc(i x:Nat):(ze i x).Real where
 name:=acF _
 zf:=abj (x % 2=1) _
 jP:=abj (4<x % 8) _
 o8:=abj (x % 3=2) _
 tg:=Zb0 (arG x).2 (by decide)
theorem Xr(i x:Nat):(ki i x).jr.length<=16:=by have h1:=ahP x (tN x);have h2:=acG x;show((DI x (tN x)).map λ(k:Nat)=>(k:Int)).length<=16;rw[Za5];omega
theorem Gj(xt xg xy xr:List Nat):(vZ xt xg xy xr).CI where
 ts:=by show(rY xt _).length<=100;rw[Me];omega
 gs:=by have:=HD (uL xt xg);show(ig _).length<=100;omega
 ys:=by have:=(ae0 (uL xt xg) xy).1;show(DJ _ _).length<=100;omega
 cs:=by
  have:=HD (uL xt xg);show(nJ xt xg xy).length<=100;unfold nJ;split
  . rw[Mf];show(ig _).length<=100;omega
  . exact Zi8 _
 rs:=by have:=abk (pI xt) (pJ xt xg) xr (min xr.length 12);show(IQ _ _ _ _).length<=100;omega
 ok t ht:=by
  obtain⟨i,x,rfl⟩:=Mg ht;have:=Xr i x;exact⟨by show(eR i).length<xj;unfold eR xj;simp,by unfold xj;omega⟩
theorem anN(xt xg xy xr:List Nat):(vZ xt xg xy xr).Real where
 ts:=by have:=(Gj xt xg xy xr).ts;omega
 tab t ht:=by obtain⟨i,x,rfl⟩:=Mg ht;have:=Xr i x;refine⟨λy hy=> ?_,Zb0 this (by decide)⟩;have hy:y∈eR i:=hy;simp only[eR,Za8,Zb7,Ze4]at hy;omega
 gs:=by have:=(Gj xt xg xy xr).gs;omega
 qj g hg:=by obtain⟨i,hi⟩:=Ze3.1 hg;obtain⟨_,rfl⟩:=ae1 (xs:=uL xt xg) hi;exact aqc _ _
 ys:=Zb0 (Gj xt xg xy xr).ys (by decide)
 cs:=Zb0 (Gj xt xg xy xr).cs (by decide)
 rs:=Zb0 (Gj xt xg xy xr).rs (by decide)
theorem anO{xt xg xy xr:List Nat}(hx:∀x∈xt,x<256):alD (vZ xt xg xy xr):=λt ht=>by
 have h1:=ajl hx t ht;have h2:=ahQ t ht;exact⟨h1.1.symm,h2.1,h2.2.1,h2.2.2⟩
theorem anP{xt xg xy xr:List Nat}(hx:∀x∈xt,x<256):((vZ xt xg xy xr).gs.length:Int)<=aW (vZ xt xg xy xr).ts:=by show((ig (uL xt xg)).length:Int)<=aW (rY xt (min xt.length 3));unfold ig;rw[Mh,Xs hx _ (by omega)];unfold uL;rw[Zh9];omega
structure Jg(s:St)(jb:Pos)(j:Jc)(J:Jt)(p:bM):Prop where
 jw:JW s jb j J
 ok:OkJ J
 sim:p.gD J.p
 fit:J.n<=J.N
theorem Oc{R:Type}{s:St}{b:Pos}{Vs:List AV}(h:s.heap.get b=some (.cells Vs 0))(hl:Vs.length=5)(K:AV->St->Option R):aq c (.load (some 5)) [.ptr b 0] s K=K (.agg Vs) s:=by rw[gG,h];simp only[aJ,Zb1];rw[cM hl];rfl
variable{c : au}
theorem auZ(hc:bH c)(s:St):c 14 [] s=some (.bool true,s):=hc.at (s:=YV) rfl rfl
variable{c : au}
section
variable{s : St}{vb jb : Pos}{j : Jc}{J : Jt}{P G : AV}{q g : List Int}
def Bc(J:Jt)(q:List Int)(l:List Rl):List Int:=l.map λr=>((fJ J q r:Nat):Int)
theorem aqd(hc:bH c)(O:OkJ J)(hg:GY J.N q=some g){sB:St}(V:Vw sB vb jb j J P G q g)(F:Nat):
  ∀(m k f:Nat)(s:St)(v:AV),k+m=J.p.rs.length->m<f->Mk 1 sB s v ((Bc J q (J.p.rs.take k)).map bV)->∃s' v',Mk 1 sB s' v' ((Bc J q J.p.rs).map bV)/\
   ∀k2:Q2,nK c F k2 f [.ptr vb 0,v,.int .i64 (J.p.rs.length:Int),.int .i64 (k:Int)] s=k2 [v'] s':=by
 intro m;induction m with
 |zero=>
  intro k f s v hk hf hM;obtain⟨f,rfl⟩:∃g,f=g+1:=⟨f - 1,by omega⟩
  obtain rfl:k=J.p.rs.length:=by omega
  rw[Zj1]at hM;refine⟨s,v,hM,λk2=> ?_⟩;rw[CJ];simp
 |succ m ih=>
  intro k f s v hk hf hM;obtain⟨f,rfl⟩:∃g,f=g+1:=⟨f - 1,by omega⟩
  have jO:k<J.p.rs.length:=by omega
  have hi:=H0 jO;have hrs:=V.jw.yo.rs;have et:J.p.rs.take (k+1)=J.p.rs.take k++[J.p.rs[k]]:=Zc6 jO;have V0:=V.ai hM.ai;have cl:=asE hc O V0 hg hi;have aV:decide ((k:Int)<(J.p.rs.length:Int))=true:=Za0 (by omega);have wr:ax .i64 ((k:Int)+1)=((k+1:Nat):Int):=by rw[wrap64 (by omega) (by omega)];omega
  have il:(Bc J q (J.p.rs.take k)).length<=100:=by unfold Bc;rw[Za5,Zh9];omega
  obtain⟨s5,v5,a1,a2,_,_⟩:=hM.push (R:=AV×St) (c:=c) (bytes:=8) (z:=[.int .i64 0]) (x:= .int .i64 ((fJ J q J.p.rs[k]:Nat):Int)) rfl rfl rfl (by omega) (by rw[Za5];omega) (by rw[Za5];omega);obtain⟨s',v',z1,z2⟩:=ih (k+1) f s5 v5 (by omega) (by omega) (by rw[et];unfold Bc at a2 ⊢; rw[Zc8,Zc8];exact a2);refine⟨s',v',z1,λk2=> ?_⟩;rw[<-z2 k2,CJ];simp only[aH,br,dS,aV,dW,aA,dD,cl,cO,a1,fS,wr]
theorem aqe(hc:bH c)(O:OkJ J)(jw:JW s jb j J)(w0:Wf s)(pq:QS 1 s P (q.map bV))(hq:PaO J q):∃s' v,c 19 [.ptr jb 0,P] s=some (v,s')/\Mk 1 s s' v ((Bc J q J.p.rs).map bV):=by
 obtain⟨g,vb,G,s1,hg,lk,gr,V⟩:=look_ok hc jw w0 pq hq;obtain⟨s2,v2,z1,z2⟩:=aqd hc O hg V (J.p.rs.length+1) J.p.rs.length 0 (J.p.rs.length+1) s1 .af (by omega) (by omega) (Mk.start gr.wf (Grew.refl gr.wf));have vc:=V.vc;have jc:=V.jw.oc;have ln:=λ(K:AV->St->Option (AV×St))=>V.jw.gK.lenB (c:=c) K s1
 rw[Za5]at ln;have M:=z1.back w0 gr;obtain⟨s3,t1,t2⟩:=M.tidy;refine⟨s3,v2,?_,t2⟩;simp only[show((0:Nat):Int)=0 from rfl]at z2;rw[Tf hc (J.p.rs.length+1) (r:=(v2,s2)),t1];rw[Xt];simp only[aA,dD,lk,cO,anG,dQ,cJ,aS,Zc3,bf,vc,jc,aJ,Zb1,Za4,Jc.c4,bg,ln,z2,aH,br]
end
variable{c : au}{s0 s : St}{Vs : List AV}{p : bM}
theorem adU(hc:bH c)(h:PS s0 s Vs p)(hp:p.CI)(r:Rl)(hr:r.Ok):c 16 [.agg Vs,.agg r.cells] s=some (.int .i64 (Gk p r),s):=by
 obtain⟨p',e,S⟩:=h.ey 1;refine hc.at (s:=IL 16) rfl (alk ?_ (bI.int _ _));have er:ey s 4 (.agg r.cells)= .agg r.cells:=rfl;have ef:Gk p r=Gk p' r:=by unfold Gk;rw[S.basis,S.rule]
 rw[Zd2,Zd2,Zg3,e,er,ef];exact ahR rfl p' (S.yo hp) (akm rfl (S.yo hp)) r hr (emptyAt s) (KM s)
theorem anQ(hc:bH c)(h:PS s0 s Vs p)(hR:p.Real):∃Us s' p',c 17 [.agg Vs] s=some (.agg Us,s')/\PS s s' Us p'/\p.gD p':=by obtain⟨p',e,S⟩:=h.ey 1;obtain⟨Us,s1,e1,P⟩:=adV (c:=run Pc gg) rfl p' (S.real hR) (emptyAt s) (KM s);refine⟨Us,cW s s1,p',hc.at (s:=IL 17) rfl (aeU ?_ (bI.agg P.bare) P.ai.next),PS.cW h.ai.wf P,S⟩;rw[Zd2,Zg3,e];exact e1
theorem atV(hc:bH c)(hw:Wf s){p':bM}(e:ey s 4 (.agg Vs)= .agg p'.cells)(hf:p'.CI)(hR:p'.Real)(hr:∀r∈p'.rs,r.Ok/\fY p' r=0)(hn:(mP p').2=0)(hcl:p'.cs.length=p'.gs.length\/p'.cs.length=0)(FV:(p'.gs.length:Int)<=aW p'.ts):
   ∃(jb:Pos) (s':St) (j:Jc) (J:Jt),c 18 [.agg Vs] s=some (.tuple [.ptr jb 0,.int .i64 0,.int .i64 0],s')/\Grew s s'/\Jg s' jb j J p'/\J.p=p':=by
 obtain⟨jb,s1,Us,N,oQ,oR,e1,P,hN,D,hge,h5⟩:=ajm (c:=run Pc gg) rfl p' hf (akm rfl hf) hR (λr h=>(hr r h).1) (emptyAt s) (KM s) hn;have P':=PS.cW hw P;obtain⟨j,jw,hj⟩:=JW.of (JD.cW hw P.bare hge D) P' hf hN;refine⟨jb,cW s s1,j,_,hc.at (s:=IL 18) rfl (aeU ?_ (bI.tuple (by intro v hv;simp at hv;rcases hv with rfl|rfl|rfl<;>first|exact bI.int _ _|exact bI.ptr _ _)) P.ai.next),P'.ai,⟨jw,⟨λr h=>atQ (hr r h).1 (hr r h).2,hcl⟩,⟨rfl,λi t t' h1 h2=>⟨t.oz,by rw[h1]at h2;cases h2;rfl⟩,rfl,λi t t' h1 h2=>⟨t.tz,by rw[h1]at h2;cases h2;rfl⟩,rfl,rfl,rfl⟩,?_⟩,rfl⟩
 . rw[Zd2,Zg3,e];exact e1
 . show p'.gs.length<=N;omega
variable{c : au}
def eW(m:Nat)(n:Int):Rl:=⟨(m:Int),0,[],[],[],n⟩
def atR(m:Nat)(n:Int)(nm:List Nat):Rl:=⟨(m:Int),0,[],[],nm,n⟩
def KT(ts:List aB)(m:Nat)(n:Int):List Rl:=eW m n::ts.map λt=>atR m n t.name
def Mi(m:Nat):Prop:=m=8\/m=9\/m=11\/m=12\/m=14\/m=15\/m=16\/m=18
theorem atW{p:bM}(hg:∀g∈p.gs,g.name≠[]):gi p []<0:=by
 rcases Int.lt_or_le (gi p []) 0 with h|h
 . exact h
 . exfalso;unfold gi at h;obtain⟨_,_,h2⟩:=B7 p.gs.length 0 h;have h2:=Zg9 h2;obtain⟨u,hu,e⟩:=Zf1.1 h2;exact hg u (Zc0 hu) e
theorem atX{p:bM}{t:aB}(ht:t∈p.ts):¬ti p t.name<0:=by obtain⟨i,hi⟩:=Ze3.1 ht;have hl:=(Za1.1 hi).1;have:=Od (P:=xk p.ts t.name) p.ts.length 0 i (by omega) (by omega) (by unfold xk;rw[hi];simp);unfold ti;omega
theorem aqf{p:bM}(hg:∀g∈p.gs,g.name≠[]){m:Nat}{n:Int}(h1:1<=m)(h2:m<=18)(Uv:m≠13)(Xu:m≠10)(h:fY p (eW m n)=0):Mi m:=by
 have g:=atW hg;unfold Mi;rcases Lm h1 h2 with rfl|rfl|rfl|rfl|rfl|rfl|rfl|rfl|rfl|rfl|rfl|rfl|rfl|rfl|rfl|rfl|rfl|rfl
 all_goals first|omega|skip
 all_goals
  exfalso;unfold fY IP DG Xo Ob zc eW at h;simp[kd,g,pK]at h<;>(split at h<;>omega)
theorem au0{p:bM}{m:Nat}{n:Int}(hm:Mi m)(h:fY p (eW m n)=0){t:aB}(ht:t∈p.ts):fY p (atR m n t.name)=0:=by
 have g:=atX ht;rcases hm with rfl|rfl|rfl|rfl|rfl|rfl|rfl|rfl
 all_goals
  unfold fY IP DG Xo Ob zc eW at h;unfold fY IP DG Xo Ob zc atR;simp[kd]at h ⊢
  first
  |done
  |omega
  |(simp[*];done)
  |(simp[*];omega)
  |grind
theorem aqg{p:bM}{m:Nat}{n:Int}(hm:Mi m)(h:fY p (eW m n)=0):∀r∈KT p.ts m n,r.Ok/\fY p r=0:=λr hr=>by
 have k:∀nm,(atR m n nm).Ok:=λnm=>by unfold Mi at hm;unfold Rl.Ok atR;simp only;omega
 rcases Za8.1 hr with rfl|hr
 . exact⟨k [],h⟩
 . obtain⟨t,ht,rfl⟩:=Zc7.1 hr;exact⟨k _,au0 hm h ht⟩
def bM.Th(p:bM)(z:Bool)(l:List Rl):bM:={ p with rz:=z,rs:=l }
theorem alG(p:bM)(z:Bool)(l:List Rl)(r:Rl):fY (p.Th z l) r=fY p r:=id rfl
theorem ajn{p:bM}{z:Bool}{l:List Rl}(hb:(gX p).2=0)(hl:l.length<=64)(h:∀r∈l,fY p r=0):(mP (p.Th z l)).2=0:=by unfold mP;have hb:(gX (p.Th z l)).2=0:=hb;rw[Za7 (by rw[hb];simp)];exact ae2 h hl _ _
theorem anR{p:bM}{z:Bool}{l:List Rl}(h:p.CI)(hl:l.length<=64):(p.Th z l).CI:=⟨h.ts,h.gs,h.ys,h.cs,Zb0 hl (by decide),h.ok⟩
section
variable{J : Jt}{q : List Int}
theorem asH(hd:∀(i j:Nat)(a b:aB),i<j->J.p.ts[i]? =some a->J.p.ts[j]? =some b->a.name≠b.name)(cZ:∀t∈J.p.ts,t.name≠[])(hN:(J.N:Int)=aW J.p.ts)(hq:PaO J q){m:Nat}(hm:Mi m)(n:Int):
   dh J.p.ts.length (λk=>fJ J q (atR m n (o6 J.p.ts k)))=fJ J q (eW m n):=by
 have nm:∀k,k<J.p.ts.length->∃a,J.p.ts[k]? =some a/\o6 J.p.ts k=a.name:=λk hk=>⟨_,H0 hk,by unfold o6;rw[H0 hk]⟩
 have inj:∀k t,k<J.p.ts.length->t<J.p.ts.length->(decide (o6 J.p.ts k=[])||decide (o6 J.p.ts k=o6 J.p.ts t))=(t==k):=λk t hk ht=>by
   obtain⟨a,ha,ea⟩:=nm k hk;obtain⟨b,hb,eb⟩:=nm t ht;rw[ea,eb,Za2 (cZ a (Zc0 ha)),Zp8];by_cases e:t=k
   . subst e;rw[hb]at ha;rw[Zi3 ha];simp
   . have:a.name≠b.name:=by
        rcases Nat.lt_or_gt_of_ne e with h|h
        . exact(hd _ _ _ _ h hb ha).symm
        . exact hd _ _ _ _ h ha hb
     rw[Za2 this];exact(beq_eq_false_iff_ne.2 e).symm
 have A:∀k t,k<(jT J).T->t<(jT J).T->O9 J (atR m n (o6 J.p.ts k)) t=(t==k):=λk t hk ht=>inj k t hk ht
 have A0:∀t,t<(jT J).T->O9 J (eW m n) t=true:=λt _=>by unfold O9;simp[eW]
 have tb:∀a,on (qF q) a=true->cE J.p.ts (qF q a).toNat<J.p.ts.length:=λa ha=>by
   have h0:0<=qF q a:=Zg9 ha;have hl:a<q.length:=by
     rcases Zi4 a q.length with h|h
     .  exact h
     .  unfold qF at h0;rw[Zb5,Zc4 h]at h0;simp at h0
   have e:=yp (H0 hl);have:=(hq.ok _ (Zc2 hl)).2;exact aba _ _ (by omega)
 have S:∀k a,k<(jT J).T->on (qF q) a=true->oE J.p.ts (atR m n (o6 J.p.ts k)).t (qF q a).toNat=((jT J).tab (qF q a)==k):=λk a hk ha=>inj k _ hk (tb a ha)
 have S0:∀i,oE J.p.ts (eW m n).t i=true:=λi=>by unfold oE;simp[eW]
 have PR:∀X:Nat->Nat->Int->Int->Bool,dh (jT J).T (λk=>(jT J).gW (qF q) (.Fk (oq J (atR m n (o6 J.p.ts k)) X)))=(jT J).gW (qF q) (.Fk (oq J (eW m n) X)):=λX=>
   asi (λk a b hk ha=>by unfold oq;rw[S k a hk ha,S0,Zf6,Bool.and_comm]) λa _ ha=>tb a ha
 rcases hm with rfl|rfl|rfl|rfl|rfl|rfl|rfl|rfl
 . exact PR (Xj J)
 . exact asf A A0
 . (refine asj (J:=jT J) (q:=qF q) (P:=λk=>SY J (atR 11 n (o6 J.p.ts k)) (gOf J (qF q))) (P0:=SY J (eW 11 n) (gOf J (qF q))) (λk a hk ha=> ?_) λa _ ha=>tb a ha);unfold SY;rw[S k a hk ha,S0,Zf6,Bool.and_comm]
 . exact PR (Hw J)
 . exact PR (SS J)
 . exact asg n.toNat A A0
 . exact ash n.toNat A A0
 . exact PR (Xk J)
end
end
end Go.Proofs.YtgihekklfnjkiaaGreatDoor
