/- What a judge tells. -/
import Derived.Test.YtgihekklfnjkiaaGreatDoorDJudgeA
import Derived.Test.YtgihekklfnjkiaaGreatDoorDMade
set_option linter.all false
set_option linter.unusedSectionVars false
set_option linter.deprecated false
namespace Go.Proofs.YtgihekklfnjkiaaGreatDoor
section
set_option maxRecDepth 100000
open Go Go.Ai Go.Proofs
variable{c : aj}
theorem apU(hc:bw c){n:Int}(h0:0<=n)(h1:n<4294967296)(s:St):c 191 [.int .u64 1,.int .u64 n] s=some (.tuple [.int .u64 0,.int .u64 n],s):=by
 rw[UX hc 1 (r:=(.tuple [.int .u64 0,.int .u64 n],s)),aC (Plain.tuple (by simp[Plain.int])) (aW.refl s)];rw[Zd];have w0:av .u64 0=0:=YI (by omega) (by omega);have w1:av .u64 n=n:=YI (by omega) (by omega);simp[aaY h0 h1,aa0 h0 h1,aaY (n:=1) (by omega) (by omega),aa0 (a:=1) (by omega) (by omega),aaY (n:=0) (by omega) (by omega),aa0 (a:=0) (by omega) (by omega),w0,w1]
theorem atJ(hc:bw c){n:Int}(h0:0<=n)(h1:n<4294967296)(s:St):c 140 [.int .u64 1,.int .u64 n] s=some (.tuple [.int .u64 0,.int .u64 n],s):=by
 rw[Ze hc 1 (r:=(.tuple [.int .u64 0,.int .u64 n],s)),aC (Plain.tuple (by simp[Plain.int])) (aW.refl s)];rw[acB];simp[apU hc h0 h1]
theorem anr(N:Nat)(hN:N<=1000000)(b:Pos)(v:AV)(hv:v.one=true)(F:Nat):∀(m n f:Nat)(s:St),1<=n->n<=N->N - n<=m->m<f->s.heap.get b=some (.cells (List.replicate n v++List.replicate (N - n) (.int .i64 0)) 0)->
  ∀k2:Q2,jD c F k2 f [.slice b 0 N (some N) 1,.int .i64 (n:Int)] s=k2 [.slice b 0 N (some N) 1] (bk s b (.cells (List.replicate N v) 0)):=by
 intro m;induction m with
 |zero=>
  intro n f s h1 h2 h3 h4 h5 k2;obtain⟨f,rfl⟩:∃g,f=g+1:=⟨f - 1,by omega⟩
  obtain rfl:n=N:=by omega
  rw[kL];have e:bk s b (.cells (List.replicate n v) 0)=bk s b (.cells (List.replicate n v++List.replicate (n - n) (.int .i64 0)) 0):=by simp
  rw[e];have e2:bk s b (.cells (List.replicate n v++List.replicate (n - n) (.int .i64 0)) 0)=s:=ahw h5;rw[e2];simp[kY]
 |succ m ih=>
  intro n f s h1 h2 h3 h4 h5 k2;obtain⟨f,rfl⟩:∃g,f=g+1:=⟨f - 1,by omega⟩
  by_cases hn:n=N
  . subst hn;rw[kL];have e:bk s b (.cells (List.replicate n v) 0)=bk s b (.cells (List.replicate n v++List.replicate (n - n) (.int .i64 0)) 0):=(by simp);rw[e];have e2:bk s b (.cells (List.replicate n v++List.replicate (n - n) (.int .i64 0)) 0)=s:=ahw h5;rw[e2];simp[kY]
  . have aT:decide ((n:Int)<(N:Int))=true:=Za0 (by omega);have cp:=λ(K:AV->St->Option (AV×St))=>aht (c:=c) (b:=b) (n:=n) (m:=N - n) (cp:=some (N - n)) (I3:=some N) (by omega) (by omega) hv h5 K
    have w:av .i64 ((n:Int)+((min n (N - n):Nat):Int))=((n+min n (N - n):Nat):Int):=(by rw[wrap64 (by omega) (by omega)];omega);have ih2:=ih (n+min n (N - n)) f (bk s b (.cells (List.replicate (n+min n (N - n)) v++List.replicate (N - n - min n (N - n)) (.int .i64 0)) 0)) (by omega) (by omega) (by omega) (by omega) (by rw[bP,show N - (n+min n (N - n))=N - n - min n (N - n)by omega]) k2;rw[Pz]at ih2;rw[<-ih2,kL];simp only[aG,bg,ay,kY,cU,aT,dh,dI,anf h2,ang h2,cp,aj0,w]
theorem ans(hc:bw c){N:Nat}(hN:N<=1000000){p:Pos}{v:AV}(hv:v.one=true)(s:St)(hw:Wf s)(hp:s.heap.get p=some (.cells [v] 0)):
   ∃s' gb,c 79 [.slice p 0 1 (some 1) 1,.int .i64 (N:Int)] s=some (.slice gb 0 N (some N) 1,s')/\Grew s s'/\s.next.toNat<=gb.toNat/\(N=0\/s'.heap.get gb=some (.cells (List.replicate N v) 0)):=by
 have g1:=Grew.ah hw (.cells (List.replicate N (.int .i64 0)) 0);have w1:av .u64 (N:Int)=(N:Int):=YI (by omega) (by omega);have w2:av .i64 (N:Int)=(N:Int):=wrap64 (by omega) (by omega);have w3:av .u64 1=1:=YI (by omega) (by omega);have d1:decide ((N:Int)<0)=false:=Za1 (by omega);have d2:decide ((9223372036854775807:Int)<(N:Int))=false:=Za1 (by omega);have mk:=λ(K:AV->St->Option (AV×St))=>YG c K s (es:=1) (bytes:=8) (z:=[.int .i64 0]) (k:= .i64) (k':= .i64) (n:=N) (by omega) (by omega)
 rw[zx]at mk;have j8:=g1.get hp;have mu:=atJ hc (n:=(N:Int)) (by omega) (by omega) s;by_cases h0:N=0
 . subst h0;have run:=xX hc (x0:= .slice p 0 1 (some 1) 1) (x1:= .int .i64 ((0:Nat):Int)) (s:=s) (F:=1) (r:=(.slice s.next 0 0 (some 0) 1,ah s (.cells [] 0))) (by
    rw[zN];simp only[ay,cU,d1,cH,dD,aG,bg,kY,Lu,w1,show((1:Nat):Int)=1 from rfl,w3,bR,mu,bH,iJ,Za4,Zb7,aQ,ki,show decide ((0:Int)<0)=false from rfl,fL,d2,iw,w2,mk,List.replicate_zero,afy];rw[kL];simp[kY])
   rw[run];obtain⟨s',h1,h2⟩:=am2 (v:= .slice s.next 0 0 (some 0) 1) (Grew.ah hw (.cells [] 0)) hw;exact⟨s',s.next,by rw[h1],h2,Za3 _,.inl rfl⟩
 . have cp:=λ(K:AV->St->Option (AV×St))=>ahv (c:=c) (b:=s.next) (b2:=p) (v:=v) (z:= .int .i64 0) (m:=N) (cp:=some N) (I3:=some 1) (by omega) hv (aA s _) j8 K
   have lp:=anr (c:=c) N hN s.next v hv (N+1) N 1 (N+1) (bk (ah s (.cells (List.replicate N (.int .i64 0)) 0)) s.next (.cells (List.replicate 1 v++List.replicate (N - 1) (.int .i64 0)) 0)) (by omega) (by omega) (by omega) (by omega) (bP _ _ _);simp only[Pz,YA]at lp cp;simp only[show((1:Nat):Int)=1 from rfl]at lp;have run:=xX hc (x0:= .slice p 0 1 (some 1) 1) (x1:= .int .i64 (N:Int)) (s:=s) (F:=N+1) (r:=(.slice s.next 0 N (some N) 1,ah s (.cells (List.replicate N v) 0))) (by
    rw[zN];simp only[ay,cU,d1,cH,dD,aG,bg,kY,Lu,w1,show((1:Nat):Int)=1 from rfl,w3,bR,mu,bH,iJ,Za4,Zb7,aQ,ki,show decide ((0:Int)<0)=false from rfl,fL,d2,iw,w2,mk,cp,lp])
   (rw[run];have np:¬(Plain (AV.slice s.next 0 N (some N) 1)):=λh=>aa2 h0 h);refine⟨ah s (.cells (List.replicate N v) 0),s.next,?_,Grew.ah hw _,Za3 _,.inr (aA _ _)⟩;unfold tidy;rw[Za7 (λh=>np h.1)]
def Ny(N:Nat):List Int->Nat->List Int->Option (List Int)
 |[],_,g=>some g
 |x::q,i,g=>if x< -1\/(N:Int)<=x\/(0<=x/\0<=g.getD x.toNat (-1))then none else Ny N q (i+1) (if 0<=x then g.set x.toNat (i:Int)else g)
def uB(N:Nat)(q:List Int):Option (List Int):=Ny N q 0 (List.replicate N (-1))
theorem ahJ{N:Nat}:∀{q:List Int}{i:Nat}{g g':List Int},Ny N q i g=some g'->(∀x∈q,-1<=x/\x<(N:Int))/\g'.length=g.length
 |[],i,g,g',h=>by cases h;exact⟨λx hx=>(nomatch hx),rfl⟩
 |x ::q,i,g,g',h=>by
  unfold Ny at h;by_cases hc:x< -1\/(N:Int)<=x\/(0<=x/\0<=g.getD x.toNat (-1))
  . rw[Zb2 hc]at h;cases h
  . rw[Za7 hc]at h;obtain⟨h1,h2⟩:=ahJ h;refine⟨λy hy=> ?_,by rw[h2];split<;>simp⟩;rcases Zb0.1 hy with rfl|hy
    . omega
    . exact h1 y hy
theorem ant{N n:Nat}:∀{q:List Int}{i:Nat}{g g':List Int},Ny N q i g=some g'->i+q.length<=n->(∀x∈g,-1<=x/\x<(n:Int))->∀x∈g',-1<=x/\x<(n:Int)
 |[],i,g,g',h,_,hg=>by cases h;exact hg
 |x ::q,i,g,g',h,hn,hg=>by
  unfold Ny at h;simp only[Zc6]at hn;split at h
  . cases h
  . (refine ant h (by omega) λy hy=> ?_);split at hy
    .   rcases Zg7 hy with hy|rfl
        . exact hg y hy
        . omega
    .   exact hg y hy
structure LI(sA s:St)(vb gb jb:Pos)(P:AV)(N:Nat)(g:List Int):Prop where
 gr:Grew sA s
 vc:s.heap.get vb=some (.cells [.ptr jb 0,P,.slice gb 0 N (some N) 1] 0)
 gc:N=0\/s.heap.get gb=some (.cells (g.map (AV.int .i64)) 0)
 gl:g.length=N
section
variable{sA : St}{vb gb jb : Pos}{j : Jc}{J : Jt}{P : AV}{q : List Int}
theorem asm (jw:JW sA jb j J)(pq:QS 1 sA P (q.map bU))(jx:q.length<=1000000)(hN:J.N<=100000)(hg:sA.next.toNat<=gb.toNat)(hvg:0<J.N->vb≠gb)(w0:Wf sA)(F:Nat):∀(m k f:Nat)(s:St)(g:List Int),k+m=q.length->m<f->LI sA s vb gb jb P J.N g->
  (Ny J.N (q.drop k) k g=none/\∃s',Grew sA s'/\∀k1 k2:Q2,lW c F k1 k2 f [.ptr jb 0,.ptr vb 0,P,.int .i64 (q.length:Int),.int .i64 (k:Int)] s=k1 [.iR] s')\/
    ∃g' s',Ny J.N (q.drop k) k g=some g'/\LI sA s' vb gb jb P J.N g'/\∀k1 k2:Q2,lW c F k1 k2 f [.ptr jb 0,.ptr vb 0,P,.int .i64 (q.length:Int),.int .i64 (k:Int)] s=k2 [.ptr vb 0] s':=by
 intro m;induction m with
 |zero=>
  intro k f s g hk hf hL;obtain⟨f,rfl⟩:∃g,f=g+1:=⟨f - 1,by omega⟩
  obtain rfl:k=q.length:=by omega
  refine .inr ⟨g,s,by simp[Ny],hL,λk1 k2=> ?_⟩;rw[fZ];simp
 |succ m ih   =>
  intro k f s g hk hf hL;obtain⟨f,rfl⟩:∃g,f=g+1:=⟨f - 1,by omega⟩
  have jw1:=jw.ai hL.gr;have jc:=jw1.lU;have vc:=hL.vc;have dN:k<q.length:=by omega
  obtain⟨pb,po,p⟩:=pW (pq.ai hL.gr) (H0 dN);have p1:=λ{R}=>@p.st R
  have p3:=p.one;have wr:av .i64 ((k:Int)+1)=((k+1:Nat):Int):=wrap64 (by omega) (by omega);have ln:=λ(K:AV->St->Option (AV×St))=>jw1.tab.lenB (c:=c) K s
  rw[Za5,(Sw _ _).1]at ln;rw[Zd1 dN];generalize q[k]=x at*
  unfold Ny;by_cases h1:x< -1
  . rw[Zb2 (.inl h1)];refine .inl ⟨rfl,s,hL.gr,λk1 k2=> ?_⟩;have d1:decide (x< -1)=true:=Za0 h1;rw[fZ];simp[cH,dN,p1,p3,d1]
  . have d1   :decide (x< -1)=false:=Za1 h1;by_cases h2:(J.N:Int)<=x
    .   rw[Zb2 (.inr (.inl h2))];refine .inl ⟨rfl,s,hL.gr,λk1 k2=> ?_⟩;rw[fZ];simp[cH,dN,p1,p3,d1,jc,ln,h2]
    .   have d2:decide ((J.N:Int)<=x)=false:=Za1 h2;by_cases h3:0<=x
        . obtain⟨i,rfl⟩:∃i:Nat,x=(i:Int):=⟨x.toNat,by omega⟩
          have hi:i<J.N:=(by omega);have LC:decide (J.N<=i)=false:=Za1 (by omega);have gc:s.heap.get gb=some (.cells (g.map (AV.int .i64)) 0):=by
            rcases hL.gc with h|h
            . omega
            . exact h
          have Qd:i<g.length:=(by rw[hL.gl];exact hi);have eg:g.getD i (-1)=g[i]:=(by rw[Zb6,H0 Qd];rfl);have ix:=λ(K:AV->St->Option (AV×St))(s1:St)=>iy c K s1 (b:=gb) (off:=0) (len:=J.N) (es:=1) (es':=1) (cap:=some J.N) (k:= .i64) (i:=i) hi
          have ec:(g.map (AV.int .i64))[i]? =some (.int .i64 g[i]):=(by rw[Zb8,H0 Qd];rfl);rw[Zc8,eg,Zb2 h3];by_cases h4:0<=g[i]
          . rw[Zb2 (.inr (.inr ⟨h3,h4⟩))];refine .inl ⟨rfl,s,hL.gr,λk1 k2=> ?_⟩;rw[fZ];simp[cH,dN,p1,p3,d1,jc,ln,LC,vc,ix,gc,Qd,h4]
          . (rw[Za7 (by omega)];have d4:decide (0<=g[i])=false:=Za1 h4;have aT:=hL.gr.wf _ _ gc;have pt:=λ(K:AV->St->Option (AV×St))=>FR (c:=c) K gc (o:=i) (by rw[Za5];exact Qd) (v:= .int .i64 (k:Int)) rfl rfl);have em:(g.map (AV.int .i64)).set i (.int .i64 (k:Int))=(g.set i (k:Int)).map (AV.int .i64):=(by rw[Zp5]);rw[em]at pt;have LI2:LI sA (bk s gb (.cells ((g.set i (k:Int)).map (AV.int .i64)) 0)) vb gb jb P J.N (g.set i (k:Int)):=by
              refine⟨yM w0 hL.gr hg aT _,by rw[aJ (λe=>hvg (by omega) e.symm)];exact vc,.inr (bP _ _ _),by rw[Zl6];exact hL.gl⟩
            rcases ih (k+1) f _ _ (by omega) (by omega) LI2 with⟨z1,s',z2,z3⟩|⟨g',s',z1,z2,z3⟩
            . refine .inl ⟨z1,s',z2,λk1 k2=> ?_⟩;rw[<-z3 k1 k2,fZ];simp[cH,dN,p1,p3,d1,jc,ln,LC,vc,ix,gc,Qd,d4,pt,wr]
            . refine .inr ⟨g',s',z1,z2,λk1 k2=> ?_⟩;rw[<-z3 k1 k2,fZ];simp[cH,dN,p1,p3,d1,jc,ln,LC,vc,ix,gc,Qd,d4,pt,wr]
        . rw[Za7 (by omega),Za7 h3];have d3:decide (0<=x)=false:=Za1 h3;rcases ih (k+1) f s g (by omega) (by omega) hL with⟨z1,s',z2,z3⟩|⟨g',s',z1,z2,z3⟩
          . refine .inl ⟨z1,s',z2,λk1 k2=> ?_⟩;rw[<-z3 k1 k2,fZ];simp[cH,dN,p1,p3,d1,jc,ln,d2,d3,wr]
          . refine .inr ⟨g',s',z1,z2,λk1 k2=> ?_⟩;rw[<-z3 k1 k2,fZ];simp[cH,dN,p1,p3,d1,jc,ln,d2,d3,wr]
theorem apV(hc:bw c){s:St}(jw:JW s jb j J):c 78 [.ptr jb 0] s=some (.bool false,s):=by
 have jc:=jw.lU;have e1:∀(K:AV->St->Option (AV×St))(s:St),aq c (.bin .eql .ptr) [.ptr jb 0,.iR] s K=K (.bool false) s:=λK s=>aU c K (λH n=>rfl) s
 have e2:∀(K:AV->St->Option (AV×St))(s:St),aq c (.bin .eql .map) [.map j.M,.qV] s K=K (.bool false) s:=λK s=>aU c K (λH n=>rfl) s
 rw[Sx hc 1 (r:=(.bool false,s)),aC (Plain.bool _) (aW.refl s)];rw[Zf];simp[e1,e2,jc]
theorem asn(hc:bw c)(jw:JW sA jb j J)(w0:Wf sA)(pq:QS 1 sA P (q.map bU))(jx:q.length<=1000000):
   ((q.length≠J.n\/uB J.N q=none)/\c 37 [.ptr jb 0,P] sA=some (.iR,sA))\/
     ∃g vb G s',q.length=J.n/\uB J.N q=some g/\c 37 [.ptr jb 0,P] sA=some (.ptr vb 0,s')/\Grew sA s'/\Vw s' vb jb j J P G q g:=by
 have jc:=jw.lU;have nn:=apV hc jw;have lp:=λ(K:AV->St->Option (AV×St))(s:St)=>pq.lenB (c:=c) K s
 rw[Za5]at lp;obtain⟨s0',r1',r2',_,_,gsq⟩:=jw.ps;have lg:=λ(K:AV->St->Option (AV×St))(s:St)=>gsq.out.own.lenB (c:=c) K s
 rw[gsq.len]at lg;have en:J.p.gs.length=J.n:=rfl;by_cases hl:q.length=J.n
 . have hN  :J.N<=100000:=(by have:=jw.nN;have:=jw.uv.ts;have:=(pP J.p.ts).2;omega);have dl:decide ((q.length:Int)=(J.p.gs.length:Int))=true:=Za0 (by omega);have lt:=λ(K:AV->St->Option (AV×St))(s:St)=>jw.tab.lenB (c:=c) K s
   rw[Za5,(Sw _ _).1]at lt;have g1:=Grew.ah w0 (.cells [AV.int .i64 (-1)] 0);obtain⟨s2,gb,e1,e2,e3,e4⟩:=ans hc (N:=J.N) (by omega) (v:= .int .i64 (-1)) rfl _ g1.wf (aA sA (.cells [.int .i64 (-1)] 0));have g12:=g1.trans e2;have w2:=e2.wf;have g3:=Grew.ah w2 (.cells [.ptr jb 0,P,.slice gb 0 J.N (some J.N) 1] 0);have g13:=g12.trans g3;have bl:∀(K:AV->St->Option (AV×St))(s:St),aq c (.build [.iR,.af,.af] [(0,1),(1,1),(2,1)]) [.ptr jb 0,P,.slice gb 0 J.N (some J.N) 1] s K=K (.agg [.ptr jb 0,P,.slice gb 0 J.N (some J.N) 1]) s:=λK s=>
     ez c K s _ _ _ _ (by rcases pq with⟨rfl,_⟩|⟨b,off,cap,cs,rfl,_⟩|⟨b,off,rfl,_⟩<;>rfl)
   have r1:=λ(K:AV->St->Option (AV×St))=>FU (c:=c) (z:=[.int .i64 0]) (x:= .int .i64 (-1)) rfl rfl sA K
   have hvg:0<J.N->s2.next≠gb:=λh e=>by
     rcases e4 with e4|e4
     .  omega
     .  have:=w2 _ _ e4;rw[e]at this;omega
   have LI0:LI sA (ah s2 (.cells [.ptr jb 0,P,.slice gb 0 J.N (some J.N) 1] 0)) s2.next gb jb P J.N (List.replicate J.N (-1)):=by
     refine⟨g13,aA _ _,?_,by simp⟩;rcases e4 with e4|e4
     .  exact .inl e4
     .  right;rw[List.map_replicate];exact g3.get e4
   have e3':sA.next.toNat<=gb.toNat:=Zb1 g1.next e3;rcases asm (c:=c) jw pq jx hN e3' hvg w0 (q.length+1) q.length 0 (q.length+1) _ _ (by omega) (by omega) LI0 with⟨z1,s',z2,z3⟩|⟨g,s',z1,z2,z3⟩
   . rw[Ze2]at z1;refine .inl ⟨.inr z1,?_⟩;rw[xp hc (q.length+1) (r:=(.iR,s')),aC Plain.iR z2.keeps];simp only[show((0:Nat):Int)=0 from rfl]at z3;rw[Aa];simp only[ay,bR,nn,bH,fL,lp,bY,aK,Zb4,aR,jc,Jc.c1,aB,Za8,aQ,lg,Yz,dl,Zj1,iw,dD,r1,g1.get jc,Jc.c6,lt,e1,bl,dy,show ∀l,AV.cells (.agg l)=l from λl=>rfl,z3,aG,bg]
   . rw[  Ze2]at z1;have ok:=ahJ z1;refine .inr ⟨g,s2.next,.slice gb 0 J.N (some J.N) 1,s',hl,z1,?_,z2.gr,⟨jw.ai z2.gr,z2.vc,z2.gr.wf,pq.ai z2.gr,?_,hl,z2.gl,ok.1,ant (n:=J.n) z1 (by omega) λx hx=>by have:=List.eq_of_mem_replicate hx;omega⟩⟩
     .  rw[xp hc (q.length+1) (r:=(.ptr s2.next 0,s'))]
        . unfold tidy;rw[Za7 (λh=>T6 _ _ h.1)]
        . simp only[show((0:Nat):Int)=0 from rfl]at z3;rw[Aa];simp only[ay,bR,nn,bH,fL,lp,bY,aK,Zb4,aR,jc,Jc.c1,aB,Za8,aQ,lg,Yz,dl,Zj1,iw,dD,r1,g1.get jc,Jc.c6,lt,e1,bl,dy,show ∀l,AV.cells (.agg l)=l from λl=>rfl,z3,aG,bg]
     .  rcases Zn0 J.N with h0|h0
        . have:g=[]:=Zc4 (by rw[z2.gl,h0]);rw[h0,this];exact .inr (.inr ⟨gb,0,rfl,rfl⟩)
        . rcases z2.gc with h|h
          . omega
          . refine .inr (.inl ⟨gb,0,some J.N,_,by rw[Za5,z2.gl],h,by simp,?_,.inr (by rw[Za5,z2.gl])⟩);rw[FW,age];simp only[Ze2,Za5,Zn1];exact Zf9 (by simp)
 . refine .inl ⟨.inl hl,?_⟩;have dl:decide ((q.length:Int)=(J.p.gs.length:Int))=false:=Za1 (by omega);rw[xp hc 1 (r:=(.iR,sA)),aC Plain.iR (aW.refl sA)];rw[Aa];simp only[ay,bR,nn,bH,fL,lp,bY,aK,Zb4,aR,jc,Jc.c1,aB,Za8,aQ,lg,Yz,dl,Zj2,iw,dh]
end
def FI(s0:St)(nb:Pos)(s:St)(l:List Ev):Prop:=Grew s0 s/\s.heap.get nb=some (.cells [.int .i64 ((j9 l:Nat):Int)] 0)
theorem alq(hc:bw c){s:St}{nb:Pos}{n k:Nat}{W:AV}(hn:s.heap.get nb=some (.cells [.int .i64 (n:Int)] 0))(hB:n+k<=1000000):
  c 82 [.int .i64 (k:Int),W,.ptr nb 0] s=some (tidy s (.tuple [],bk s nb (.cells [.int .i64 ((n+k:Nat):Int)] 0))):=by
 have w:av .i64 ((n:Int)+(k:Int))=((n+k:Nat):Int):=by rw[wrap64 (by omega) (by omega)];omega
 have pt:=λ(K:AV->St->Option (AV×St))=>FR (c:=c) K hn (o:=0) (by simp) (v:= .int .i64 ((n+k:Nat):Int)) rfl rfl
 refine Ov hc 1 ?_;rw[Sy];simp only[aR,hn,aB,Za8,Za4,aQ,ay,eu,w,pt];rfl
theorem alr(hc:bw c){s0:St}(w0:Wf s0){nb:Pos}(hnb:s0.next.toNat<=nb.toNat):kA c (.func 82 [] [.ptr nb 0]) s0 (FI s0 nb) (λ_ b=>b=nb) where
 ai h:=h.1
 grow h g:=⟨h.1.trans g,g.get h.2⟩
 mL _ _ h:=h
 mlt h e:=by subst e;exact h.1.wf _ _ h.2
 back {s s' l l'} h h' hk:=by
  have e1:=hk nb _ h.2;have e2:=h'.2;rw[e1]at e2;simp only[H5,AB.cells.injEq,Zg3,AV.int.injEq,Zs0,Zp0]at e2;exact⟨h.1,by rw[<-e2];exact h.2⟩
 call {s l k W who} h hW hB:=by
  have hn:=acA l;have f1:=alq hc (W:=W) (k:=k) h.2 (by omega);have aT:=h.1.wf _ _ h.2;have e:j9 (l++[(k,who)])=j9 l+k:=by rw[adK,ar6]
  unfold tidy at f1;split at f1
  . rename_i hk;refine⟨s,.tuple [],λK=>by rw[iQ];simp only[Ze1,Zd7];rw[f1];rfl,⟨h.1,?_⟩,gY.refl h.1.wf⟩;have e1:=hk.2 nb _ h.2;rw[bP]at e1;rw[e,e1];exact h.2
  . refine⟨_,.tuple [],λK=>by rw[iQ];simp only[Ze1,Zd7];rw[f1];rfl,⟨yM w0 h.1 hnb aT _,by rw[bP,e]⟩,Za3 _,jV h.1.wf aT,λb x hb hx=>⟨by rw[aJ (λe=>hb e.symm)];exact hx,hb⟩⟩
 one:=⟨rfl,rfl⟩
theorem anu{m:Nat}(h1:1<=m)(h2:m<=18):ir .i (.int .u8 (m:Int)) E7 0=some (some (m - 1,.agg (kd m).cells)):=by rcases Cj h1 h2 with rfl|rfl|rfl|rfl|rfl|rfl|rfl|rfl|rfl|rfl|rfl|rfl|rfl|rfl|rfl|rfl|rfl|rfl<;>rfl
theorem apW{R:Type}{h:T AB}{mp:Pos}(hm:h.get mp=some (.map E7 18)){m:Nat}(h1:1<=m)(h2:m<=18)(z:AV)(K:AV->Option R):jt (.lookup .i z false) [.map mp,.int .u8 (m:Int)] h (λ_=>true) K=K (.agg (kd m).cells):=by
 unfold jt;have e:aH.run (λ_=>none) .h (.lookup .i z false) [.map mp,.int .u8 (m:Int)]=none:=rfl;rw[e];simp only;have:aH.run (λb=>h.get b) .h (.lookup .i z false) [.map mp,.int .u8 (m:Int)]=some (.val (.agg (kd m).cells)):=by
  simp only[aH.run,lC,hm,anu h1 h2]
 rw[this]
section
variable{s : St}{vb jb : Pos}{j : Jc}{J : Jt}{P G : AV}{q g : List Int}
theorem Vw.rR(V:Vw s vb jb j J P G q g){i:Nat}{r:Rl}(hi:J.p.rs[i]? =some r):∃b o,Rd s 6 j.V5 i b o r.cells:=
 V.jw.iY.rd (λr hr=>by obtain⟨x,_,rfl⟩:=Zc9.1 hr;rfl) (by rw[Zb8,hi];rfl)
theorem aeX(hc:bw c)(V:Vw s vb jb j J P G q g)(fh:J.p.cs.length=J.n\/J.p.cs.length=0){i:Nat}{r:Rl}(hi:J.p.rs[i]? =some r){m:Nat}(R:T4 J.p r m):
  c 41 [.ptr vb 0,.int .i64 (i:Int)] s=some (.int .i64 ((j9 (oM J q g r):Nat):Int),s):=by
 have g1:=Grew.ah V.wf (.cells [.int .i64 0] 0);have H:=alr hc V.wf (Za3 s.next.toNat);have I1:FI s s.next (ah s (.cells [.int .i64 0] 0)) []:=⟨g1,aA _ _⟩
 obtain⟨f,s',e1,e2,e3⟩:=asl hc H V fh R I1;rw[Sz hc 1 (r:=(.int .i64 ((j9 (oM J q g r):Nat):Int),s')),aC (Plain.int _ _) e3.1.keeps];have V1:=V.ai g1;have bE:∀(K:AV->St->Option (AV×St)),aq c (.store 1) [.ptr s.next 0,.int .i64 0] (ah s (.cells [.int .i64 0] 0)) K=K .undef (ah s (.cells [.int .i64 0] 0)):=λK=>cE c K s 1 (.int .i64 0) [.int .i64 0] rfl rfl rfl
 rw[WV];simp only[ay,bS,bE];generalize ah s (.cells [.int .i64 0] 0)=s1 at*
 have vc:=V1.vc;have jc:=V1.jw.lU;obtain⟨rb,ro,h1⟩:=V1.rR hi;have r1:=λ{R}=>@h1.pr R
 have r2:=h1.at' 0 _ rfl;rw[Zg0,R.k]at r2;have r3:=h1.all;have kk:=λ(z:AV)(K:AV->Option (AV×St))=>apW V1.jw.kin R.m1 R.m2 z K
 have kf:(kd m).cells[7]? =some (.func f [] []):=by rw[<-e1];rfl
 simp only[dI,qQ,bt,Zb4,Zg0,kJ,vc,jc,aB,Za8,Za4,Jc.c4,Jc.c5,aQ,r1,r2,kk,amY,kf,AK,r3,cO,Z0,iQ,Ze1,Zd9,Zd7,e2,bH,aR,e3.2,ay]
def pH(q:List Int)(k:Nat):Nat:=Go.Ai.cnt k λg=> !on (qF q) g
def oW(J:Jt)(q:List Int)(k:Nat):Nat:=Go.Ai.cnt k λg=> !on (qF q) g&&zB J g
def WW(J:Jt)(q g:List Int)(r:Rl):Nat:=
 if r.k=9 then j9 (oM J q g r) - oW J q q.length else if r.k=15 then j9 (oM J q g r) - pH q q.length else if r.k=11 then(if 0<pH q q.length then 0 else j9 (oM J q g r))else j9 (oM J q g r)
theorem apX(V:Vw s vb jb j J P G q g)(x1 x5:AV)(F:Nat):∀(m k f:Nat),k+m=q.length->m<f->∀k2:Q2,
  oX c F k2 f [.ptr vb 0,x1,x5,.int .i64 ((pH q k:Nat):Int),.int .i64 ((oW J q k:Nat):Int),P,.int .i64 (q.length:Int),.int .i64 (k:Int)] s=
    k2 [.ptr vb 0,x1,x5,.int .i64 ((pH q q.length:Nat):Int),.int .i64 ((oW J q q.length:Nat):Int)] s:=by
 have vc:=V.vc;have jc:=V.jw.lU;intro m;induction m with
 |zero=>
  intro k f hk hf k2;obtain⟨f,rfl⟩:∃g,f=g+1:=⟨f - 1,by omega⟩
  obtain rfl:k=q.length:=by omega
  rw[Dk];simp
 |succ m ih=>
  intro k f hk hf k2;obtain⟨f,rfl⟩:∃g,f=g+1:=⟨f - 1,by omega⟩
  have dN:k<q.length:=by omega
  obtain⟨y,hy⟩:∃y,q[k]? =some y:=⟨_,H0 dN⟩
  obtain⟨pb,po,p⟩:=pW V.pq hy;have p1:=λ{R}=>@p.st R
  have p3:=p.one;have hN:=V.E8;have jx:=V.ql;have wr:av .i64 ((k:Int)+1)=((k+1:Nat):Int):=wrap64 (by omega) (by omega);have l1:pH q k<=k:=Wv _ _;have l2:oW J q k<=k:=Wv _ _;have w1:av .i64 (((pH q k:Nat):Int)+1)=((pH q k+1:Nat):Int):=by rw[wrap64 (by omega) (by omega)];omega
  have w2:av .i64 (((oW J q k:Nat):Int)+1)=((oW J q k+1:Nat):Int):=by rw[wrap64 (by omega) (by omega)];omega
  have eo:on (qF q) k=decide (0<=y):=by unfold on;rw[mM hy]
  have s1:pH q (k+1)=pH q k+if !decide (0<=y)then 1 else 0:=by unfold pH;rw[Sb,eo]
  have s2:oW J q (k+1)=oW J q k+if !decide (0<=y)&&zB J k then 1 else 0:=by unfold oW;rw[Sb,eo]
  obtain⟨A,v,ab,ao,hA,h1⟩:=V.pV hy;have r1:=λ{R}=>@h1.st R
  have r2:=h1.at' 6 _ rfl;have eh:zB J k=A.host:=by unfold zB;rw[hA]
  rw[<-ih (k+1) f (by omega) (by omega) k2,Dk,s1,s2,eh];by_cases h0:0<=y
  . have d0:decide (y<0)=false:=Za1 (by omega);simp[cH,dN,p1,p3,d0,h0,wr]
  . have d0:decide (y<0)=true:=Za0 (by omega);generalize A.host=e at*
    cases e<;>simp[cH,dN,p1,p3,d0,h0,wr,w1,w2,vc,jc,r1,r2]
theorem apY(hc:bw c)(V:Vw s vb jb j J P G q g)(fh:J.p.cs.length=J.n\/J.p.cs.length=0){i:Nat}{r:Rl}(hi:J.p.rs[i]? =some r){m:Nat}(R:T4 J.p r m)(hE:j9 (oM J q g r)<=1000000):
   c 71 [.ptr vb 0,.int .i64 (i:Int)] s=some (.int .i64 ((WW J q g r:Nat):Int),s):=by
 have fa:=aeX hc V fh hi R;have vc:=V.vc;have jc:=V.jw.lU;have hN:=V.E8;have jx:=V.ql;obtain⟨rb,ro,h1⟩:=V.rR hi;have r1:=λ{R}=>@h1.st R
 have r2:=h1.at' 0 _ rfl;rw[Zg0,R.k]at r2;have ln:=λ(K:AV->St->Option (AV×St))=>V.pq.lenB (c:=c) K s
 rw[Za5]at ln;have lp:=λ(k2:Q2)=>apX (c:=c) V (.int .i64 (i:Int)) (.int .i64 ((j9 (oM J q g r):Nat):Int)) (q.length+1) q.length 0 (q.length+1) (by omega) (by omega) k2
 simp only[show pH q 0=0 from rfl,show oW J q 0=0 from rfl,show((0:Nat):Int)=0 from rfl]at lp;have l1:pH q q.length<=q.length:=Wv _ _;have l2:oW J q q.length<=q.length:=Wv _ _;have w1:av .i64 (((j9 (oM J q g r):Nat):Int) - ((oW J q q.length:Nat):Int))=((j9 (oM J q g r):Nat):Int) - ((oW J q q.length:Nat):Int):=wrap64 (by omega) (by omega);have w2:av .i64 (((j9 (oM J q g r):Nat):Int) - ((pH q q.length:Nat):Int))=((j9 (oM J q g r):Nat):Int) - ((pH q q.length:Nat):Int):=wrap64 (by omega) (by omega);have mx:∀n:Nat,max ((n:Nat):Int) 0=(n:Int):=λn=>by omega
 rw[UY hc (q.length+1) (r:=(.int .i64 ((WW J q g r:Nat):Int),s)),aC (Plain.int _ _) (aW.refl s)];rw[Zg];unfold WW;rw[R.k];generalize j9 (oM J q g r)=E at*
 by_cases k9:m=9
 . subst k9;have e:max (((E:Nat):Int) - ((oW J q q.length:Nat):Int)) 0=((E - oW J q q.length:Nat):Int):=(by omega);simp[cH,fa,vc,jc,ln,lp,r1,r2,w1,e]
 . have d9:decide ((m:Int)=9)=false:=Za1 (by omega);by_cases k15:m=15
   . subst k15;have e:max (((E:Nat):Int) - ((pH q q.length:Nat):Int)) 0=((E - pH q q.length:Nat):Int):=(by omega);simp[cH,fa,vc,jc,ln,lp,r1,r2,w2,e]
   . have d15:decide ((m:Int)=15)=false:=Za1 (by omega);by_cases k11:m=11
     .  subst k11;by_cases h0:0<pH q q.length
        . simp[cH,fa,vc,jc,ln,lp,r1,r2,h0]
        . have d0:decide ((0:Int)<((pH q q.length:Nat):Int))=false:=Za1 (by omega);simp[cH,fa,vc,jc,ln,lp,r1,r2,h0,d0,mx]
     .  have d11:decide ((m:Int)=11)=false:=Za1 (by omega);have e9:¬(m:Int)=9:=(by omega);have e15:¬(m:Int)=15:=(by omega);have e11:¬(m:Int)=11:=(by omega);rw[Za7 e9,Za7 e15,Za7 e11];simp[cH,fa,vc,jc,ln,lp,r1,r2,d9,d15,d11,mx]
end
end
section
set_option maxRecDepth 100000
open Go Go.Ai Go.Proofs
def gOf(J:Jt)(p:Nat->Int):List Int:=(uB J.N ((List.range J.n).map p)).getD []
def Nz(J:Jt)(r:Rl):RM:=match r.k.toNat with
 |1=> .two (rA J r) (rB J r) (acv J r)
 |2=> .two (rA J r) (rB J r) (ale J)
 |3=> .two (rA J r) (rB J r) (alf J)
 |4=> .two (rA J r) (rB J r) (agh J r)
 |5=> .two (rA J r) (rB J r) (alg J)
 |6=> .one (rA J r) (atP J r)
 |7=> .one (rA J r) (agi J r)
 |8=> .Nv (rX J r (aa6 J))
 |9=> .gI (aba J r)
 |10=> .pV (adP J r)
 |11=> .spk λp=>Go.Ai.cnt J.n λa=>on p a&&adR J r (gOf J p) a (p a)
 |12=> .Nv (rX J r (LB J))
 |13=> .Nv (So J r)
 |14=> .Nv (rX J r (WQ J))
 |15=> .Ww (aba J r) r.n.toNat
 |16=> .E0 (aba J r) r.n.toNat
 |17=> .pV (adQ J r)
 |18=> .Nv (rX J r (aa7 J))
 |_=> .pV λ_ _=>false
section
variable{J : Jt}{q g : List Int}{r : Rl}{m : Nat}
theorem anv(R:T4 J.p r m):(Nz J r).Fit J.n:=by
 have two:(kd m).a=103->(kd m).b=true->rA J r<J.n/\rB J r<J.n:=λha hb=>⟨YO _ _ (R.a ha),YO _ _ (R.b hb)⟩
 have one:(kd m).a=103->rA J r<J.n:=λha=>YO _ _ (R.a ha)
 unfold Nz;rw[R.k,Zc8];rcases Cj R.m1 R.m2 with rfl|rfl|rfl|rfl|rfl|rfl|rfl|rfl|rfl|rfl|rfl|rfl|rfl|rfl|rfl|rfl|rfl|rfl
 . exact two rfl rfl
 . exact two rfl rfl
 . exact two rfl rfl
 . exact two rfl rfl
 . exact two rfl rfl
 . exact one rfl
 . exact one rfl
 . trivial
 . trivial
 . trivial
 . (intro q p h;have e:(List.range J.n).map q=(List.range J.n).map p:=Zj3 λa ha=>h a (Zh1.1 ha));have eg:gOf J q=gOf J p:=(by unfold gOf;rw[e]);(refine yI λa ha=> ?_);rw[eg,h a ha];unfold on;rw[h a ha]
 . trivial
 . trivial
 . trivial
 . trivial
 . trivial
 . trivial
 . trivial
theorem aso(jx:q.length=J.n):(List.range J.n).map (qF q)=q:=by
 apply Zi4;intro i;rw[Zb8];by_cases hi:i<J.n
 . rw[Zh4 hi,Ze6];have h2:i<q.length:=(by omega);rw[H0 h2,mM (H0 h2)]
 . rw[Zc1 (by simpa using hi),Zc1 (by omega)];rfl
theorem atK(jx:q.length=J.n)(hg:uB J.N q=some g):gOf J (qF q)=g:=by unfold gOf;rw[aso jx,hg];rfl
theorem als(jx:q.length=J.n)(r:Rl)(D:List Int->List Ev):cG (Hg J q r D) J.p.ts.length 0=aaZ (jT J) (qF q) (jT J).T (aba J r) D:=by
 have e:Hg J q r D=λt=>if aba J r t then D ((jT J).who (qF q) t)else []:=by funext t;unfold Hg LF JT.who;rw[jx];rfl
 rw[e];rfl
theorem abe(jx:q.length=J.n)(hg:uB J.N q=some g)(R:T4 J.p r m):j9 (oM J q g r)=(jT J).kq (qF q) (Nz J r):=by
 have hn:(jT J).n=q.length:=jx.symm;unfold oM Nz;rw[R.k,Zc8];rcases Cj R.m1 R.m2 with rfl|rfl|rfl|rfl|rfl|rfl|rfl|rfl|rfl|rfl|rfl|rfl|rfl|rfl|rfl|rfl|rfl|rfl<;>simp only
 . exact P0 _ _ _
 . exact P0 _ _ _
 . exact P0 _ _ _
 . exact P0 _ _ _
 . exact P0 _ _ _
 . exact ahu _ _
 . exact ahu _ _
 . rw[<-hn];exact P7 _
 . rw[als jx];exact ar8 _
 . rw[<-hn];exact adM _
 . rw[<-hn,adM];show Go.Ai.cnt _ _=Go.Ai.cnt _ _;rw[atK jx hg];rfl
 . rw[<-hn];exact P7 _
 . rw[<-hn];exact P7 _
 . rw[<-hn];exact P7 _
 . rw[als jx];exact ar9 _ _
 . rw[als jx];exact asa _ _
 . rw[<-hn];exact adM _
 . rw[<-hn];exact P7 _
theorem alu(jx:q.length=J.n)(hg:uB J.N q=some g)(R:T4 J.p r m):WW J q g r=(jT J).least (qF q) (Nz J r):=by
 have e:=abe jx hg R;have l1:pH q q.length=(jT J).left (qF q):=by unfold pH JT.left;rw[jx];rfl
 have l2:oW J q q.length=(jT J).YH (qF q):=by unfold oW JT.YH;rw[jx];rfl
 unfold WW;rw[e,l1,l2,R.k];unfold Nz;rw[R.k,Zc8];rcases Cj R.m1 R.m2 with rfl|rfl|rfl|rfl|rfl|rfl|rfl|rfl|rfl|rfl|rfl|rfl|rfl|rfl|rfl|rfl|rfl|rfl<;>first|rfl|simp[JT.least]
theorem apZ(P:Nat->Nat->Int->Int->Bool)(n:Nat):fM (zZ (qF q) n P)<=n*(3*n):=
 AM (λa=>Zb1 (WO P a _ _) (Zk5 3 (by omega))) n 0
theorem ahK(hq:q.length<=100)(hn:J.n<=100)(hT:J.p.ts.length<=100)(R:T4 J.p r m)(jx:q.length=J.n):fM (oM J q g r)<=200000:=by
 have two:∀a b P,fM (Dj (qF q) a b P)<=200000:=λa b P=>Zb1 (GW _ _ _) (by simp)
 have one:∀a P,fM (Wy (qF q) a P)<=200000:=λa P=>Zb1 (GW _ _ _) (by simp)
 have Nv:∀P,fM (zZ (qF q) q.length P)<=200000:=λP=>by have h1:=apZ (q:=q) P q.length;have h2:=Zq3 hq (Zk5 3 hq);omega
 have pV:∀P,fM (Oj (qF q) q.length P)<=200000:=λP=>by have h1:=AM (f:=λg=>yJ (on (qF q) g&&P g (qF q g)) 1 [(g:Int)]) (B:=2) (λa=>Zb1 (GW _ _ _) (by simp)) q.length 0;unfold Oj;omega
 have tab:∀D:List Int->List Ev,(∀who:List Int,who.length<=J.n->fM (D who)<=2000)->fM (cG (Hg J q r D) J.p.ts.length 0)<=200000:=λD hD=>by
   have h1:=AM (f:=Hg J q r D) (B:=2000) (λt=>by
    unfold Hg;split
    . exact hD _ (by have:=Sq J q t q.length;omega)
    . exact Zh9 _) J.p.ts.length 0
   omega
 unfold oM;rw[R.k,Zc8];rcases Cj R.m1 R.m2 with rfl|rfl|rfl|rfl|rfl|rfl|rfl|rfl|rfl|rfl|rfl|rfl|rfl|rfl|rfl|rfl|rfl|rfl<;>simp only
 . exact two _ _ _
 . exact two _ _ _
 . exact two _ _ _
 . exact two _ _ _
 . exact two _ _ _
 . exact one _ _
 . exact one _ _
 . exact Nv _
 . exact tab _ (ahG _ hn)
 . exact pV _
 . exact pV _
 . exact Nv _
 . exact Nv _
 . exact Nv _
 . exact tab _ (ahH _ (by have:=R.n (.inl rfl);omega) hn)
 . exact tab _ (ahI _ hn)
 . exact pV _
 . exact Nv _
end
variable{c : aj}
structure Qf(J:Jt):Prop where
 rul:∀r∈J.p.rs,∃m,T4 J.p r m
 cls:J.p.cs.length=J.n\/J.p.cs.length=0
structure Hi(J:Jt)(q:List Int):Prop where
 len:q.length=J.n
 see:∃g,uB J.N q=some g
def fJ(J:Jt)(q:List Int)(r:Rl):Nat:=(jT J).kq (qF q) (Nz J r)
def lJ(J:Jt)(q:List Int)(r:Rl):Nat:=(jT J).least (qF q) (Nz J r)
section
variable{s : St}{vb jb : Pos}{j : Jc}{J : Jt}{P G : AV}{q g : List Int}
theorem arw(V:Vw s vb jb j J P G q g)(hg:uB J.N q=some g){r:Rl}{m:Nat}(R:T4 J.p r m):fJ J q r<=200000/\lJ J q r<=200000:=by
 have hN:=V.E8;have jx:=V.ql;have h1:=ahK (g:=g) (by omega) hN.2 V.jw.uv.ts R jx;have h2:=acA (oM J q g r);have e:=abe jx hg R;have h3:lJ J q r<=fJ J q r:=least_le _;have h4:fJ J q r<=200000:=by unfold fJ;omega
 omega
theorem adU(hc:bw c)(O:Qf J)(V:Vw s vb jb j J P G q g)(hg:uB J.N q=some g){i:Nat}{r:Rl}(hi:J.p.rs[i]? =some r):c 41 [.ptr vb 0,.int .i64 (i:Int)] s=some (.int .i64 ((fJ J q r:Nat):Int),s):=by obtain⟨m,R⟩:=O.rul r (Zc0 hi);unfold fJ;rw[<-abe V.ql hg R];exact aeX hc V O.cls hi R
theorem anw(hc:bw c)(O:Qf J)(V:Vw s vb jb j J P G q g)(hg:uB J.N q=some g){i:Nat}{r:Rl}(hi:J.p.rs[i]? =some r):c 71 [.ptr vb 0,.int .i64 (i:Int)] s=some (.int .i64 ((lJ J q r:Nat):Int),s):=by
 obtain⟨m,R⟩:=O.rul r (Zc0 hi);have hN:=V.E8;have jx:=V.ql;have h1:=ahK (g:=g) (by omega) hN.2 V.jw.uv.ts R jx;have h2:=acA (oM J q g r);unfold lJ;rw[<-alu V.ql hg R];exact apY hc V O.cls hi R (by omega)
theorem look_ok(hc:bw c)(jw:JW s jb j J)(w0:Wf s)(pq:QS 1 s P (q.map bU))(hq:Hi J q):
   ∃g vb G s',uB J.N q=some g/\c 37 [.ptr jb 0,P] s=some (.ptr vb 0,s')/\Grew s s'/\Vw s' vb jb j J P G q g:=by
 obtain⟨g,hg⟩:=hq.see;have hn:J.n<=100:=jw.uv.gs;rcases asn hc jw w0 pq (by have:=hq.len;omega)with⟨h,_⟩|⟨g',vb,G,s',h1,h2,h3,h4,h5⟩
 . rcases h with h|h
   . exact absurd hq.len h
   . rw[hg]at h;cases h
 . exact⟨g',vb,G,s',h2,h3,h4,h5⟩
theorem WY(a:Pos)(o:Nat)(K:AV->St->Option (AV×St))(s:St):aq c (.bin .eql .ptr) [.ptr a o,.iR] s K=K (.bool false) s:=aU c K (λH n=>rfl) s
theorem atL(a:Pos)(o:Nat)(K:AV->St->Option (AV×St))(s:St):aq c (.bin .neq .ptr) [.ptr a o,.iR] s K=K (.bool true) s:=aU c K (λH n=>rfl) s
theorem ahL(hc:bw c)(jw:JW s jb j J)(w0:Wf s)(pq:QS 1 s P (q.map bU))(hq:Hi J q):c 25 [.ptr jb 0,P] s=some (.bool true,s):=by
 obtain⟨g,vb,G,s',hg,lk,gr,V⟩:=look_ok hc jw w0 pq hq;rw[SA hc 1 (r:=(.bool true,s')),aC (Plain.bool _) gr.keeps];rw[WZ];simp[lk,atL]
def oC(w:Rl->Nat):List Rl->Nat
 |[]=>0
 |r::l=>(if 0<r.wt then r.wt.toNat*w r else 0)+oC w l
theorem ap0(w:Rl->Nat)(l:List Rl)(r:Rl):oC w (l++[r])=oC w l+(if 0<r.wt then r.wt.toNat*w r else 0):=by
 induction l with
 |nil=>simp[oC]
 |cons a l ih=>rw[Zd7,oC,oC,ih];omega
theorem asq{w:Rl->Nat}{l:List Rl}(h:∀r∈l,r.wt<=1000/\w r<=200000):oC w l<=l.length*200000000:=by
 induction l with
 |nil=>simp[oC]
 |cons a l ih=>
  have h1:=h a (Zd5);have h2:=ih λr hr=>h r (Za9 _ hr)
  rw[oC,Zc6,Zg4];split
  . have:=Zq3 (show a.wt.toNat<=1000 by omega) h1.2;omega
  . omega
theorem ap1{w:Rl->Nat}{l:List Rl}(h:∀r∈l,r.wt<=1000/\w r<=200000)(hl:l.length<=100):oC w l<=20000000000:=by
 have h1:=asq h;generalize oC w l=T at*
 generalize l.length=n at*
 omega
theorem SB{i:Nat}{r:Rl}(V:Vw s vb jb j J P G q g)(hi:J.p.rs[i]? =some r):∃b o,Rd s 6 j.V5 i b o r.cells/\(∀(K:AV->St->Option (AV×St)),aq c (.store 6) [.ptr s.next 0,.agg r.cells] (ah s (.cells [.int .u8 0,.int .i64 0,.str [],.str [],.str [],.int .i64 0] 0)) K=K .undef (ah s (.cells r.cells 0))):=by
 obtain⟨b,o,h⟩:=V.rR hi;exact⟨b,o,h,λK=>cE c K s 6 (.agg r.cells) [.int .u8 0,.int .i64 0,.str [],.str [],.str [],.int .i64 0] rfl rfl r.one⟩
theorem atM(O:Qf J){f0:FuncId}{w:Rl->Nat}(hw:∀r∈J.p.rs,w r<=200000)(dc:∀{s':St},Vw s' vb jb j J P G q g->∀{i:Nat}{r:Rl},J.p.rs[i]? =some r->c f0 [.ptr vb 0,.int .i64 (i:Int)] s'=some (.int .i64 ((w r:Nat):Int),s'))(F:Nat):
  ∀ (m k f:Nat)(s:St),k+m=J.p.rs.length->m<f->Vw s vb jb j J P G q g->∃s',Grew s s'/\
    ∀k2:Q2,pY c F k2 f [.func f0 [] [],.ptr vb 0,.int .i64 ((oC w (J.p.rs.take k):Nat):Int),j.V5,.int .i64 (J.p.rs.length:Int),.int .i64 (k:Int)] s=k2 [.int .i64 ((oC w J.p.rs:Nat):Int)] s':=by
 intro m;induction m with
 |zero=>
  intro k f s hk hf V;obtain⟨f,rfl⟩:∃g,f=g+1:=⟨f - 1,by omega⟩
  obtain rfl:k=J.p.rs.length:=by omega
  refine⟨s,Grew.refl V.wf,λk2=> ?_⟩;rw[Fa,Zj0];simp
 |succ m ih=>
  intro k f s hk hf V;obtain⟨f,rfl⟩:∃g,f=g+1:=⟨f - 1,by omega⟩
  have dN:k<J.p.rs.length:=by omega
  have hi:=H0 dN;have uK:=Zb9 dN;have hrs:=V.jw.uv.rs;generalize hr0:J.p.rs[k]=r at*
  obtain⟨m',R⟩:=O.rul r uK;obtain⟨b,o,h1,Dl⟩:=SB (c:=c) V hi;have r1:=λ{R}=>@h1.st R
  have r2:=h1.all;have gN:=Grew.ah V.wf (.cells r.cells 0);have V1:=V.ai gN;have hx:=aA s (.cells r.cells 0);have cl:=dc V1 hi;have aT:decide ((k:Int)<(J.p.rs.length:Int))=true:=Za0 (by omega);have wr:av .i64 ((k:Int)+1)=((k+1:Nat):Int):=by rw[wrap64 (by omega) (by omega)];omega
  have et:J.p.rs.take (k+1)=J.p.rs.take k++[r]:=by rw[Zd3 dN,hr0]
  have hle:oC w (J.p.rs.take k)<=20000000000:=ap1 (l:=J.p.rs.take k) (λr' nR=>by
        have hm:=Zp1 nR;obtain⟨_,R'⟩:=O.rul r' hm;exact⟨R'.w.2,hw r' hm⟩) (by rw[Zh5];omega)
  have hwt:((r.wt.toNat:Nat):Int)=r.wt:=Int.toNat_of_nonneg R.w.1;have hwt2:r.wt.toNat<=1000:=by have:=R.w.2;omega
  obtain⟨s',z1,z2⟩:=ih (k+1) f _ (by omega) (by omega) V1;refine⟨s',gN.trans z1,λk2=> ?_⟩;rw[<-z2 k2,Fa,et,ap0 w (J.p.rs.take k) r];generalize oC w (J.p.rs.take k)=T at*
  have hwr:=hw r uK;generalize w r=W at*
  by_cases hp:0<r.wt
  . have d1:decide (0<r.wt)=true:=Za0 hp;have hmul:=Zq3 hwt2 hwr;have e1:r.wt*(W:Int)=((r.wt.toNat*W:Nat):Int):=(by rw[Int.natCast_mul,hwt]);have w1:av .i64 (r.wt*(W:Int))=((r.wt.toNat*W:Nat):Int):=(by rw[e1];exact wrap64 (by omega) (by omega));have w2:av .i64 ((T:Int)+((r.wt.toNat*W:Nat):Int))=((T+r.wt.toNat*W:Nat):Int):=(by rw[wrap64 (by omega) (by omega)];omega);have k3:=λ(K:AV->Option (AV×St))=>Cf K (p:=s.next) (o:=1) (h:=(ah s (.cells r.cells 0)).heap) (h2:=(ah s (.cells r.cells 0)).heap) (v:= .int .i64 r.wt) (by rw[hx];rfl) (by rw[hx];rfl) (by simp[eM,lH,fI,mH,dK])
    rw[Zb2 hp];simp only[aG,bg,cU,aT,dh,cH,ay,r1,cK,r2,cO,bS,Dl,aK,Zb4,aR,hx,aB,Za8,Rl.c1,aQ,ki,d1,dI,iQ,Ze1,Zd9,cl,bH,bt,k3,arW,w1,aj0,w2,eu,wr]
  . have d1:decide (0<r.wt)=false:=Za1 hp;rw[Za7 hp];simp only[aG,bg,cU,aT,dh,dD,cH,ay,r1,cK,r2,cO,bS,Dl,aK,Zb4,aR,hx,aB,Za8,Rl.c1,aQ,ki,d1,eu,wr,Zg0]
theorem anx(hc:bw c)(O:Qf J)(jw:JW s jb j J)(w0:Wf s)(pq:QS 1 s P (q.map bU))(hq:Hi J q){f0:FuncId}{w:Rl->Nat}(hw:∀{s':St}{vb:Pos}{G:AV}{g:List Int},Vw s' vb jb j J P G q g->uB J.N q=some g->∀r∈J.p.rs,w r<=200000)
  (dc:∀{s':St}{vb:Pos}{G:AV}{g:List Int},Vw s' vb jb j J P G q g->uB J.N q=some g->∀{i:Nat}{r:Rl},J.p.rs[i]? =some r->c f0 [.ptr vb 0,.int .i64 (i:Int)] s'=some (.int .i64 ((w r:Nat):Int),s')):
  c 72 [.ptr jb 0,P,.func f0 [] []] s=some (.int .i64 ((oC w J.p.rs:Nat):Int),s):=by
 obtain⟨g,vb,G,s',hg,lk,gr,V⟩:=look_ok hc jw w0 pq hq;have vc:=V.vc;have jc:=V.jw.lU;have ln:=λ(K:AV->St->Option (AV×St))=>V.jw.iY.lenB (c:=c) K s'
 rw[Za5]at ln;obtain⟨s2,z1,z2⟩:=atM (c:=c) O (hw V hg) (λ{s'} V {i r} hi=>dc V hg hi) (J.p.rs.length+1) J.p.rs.length 0 (J.p.rs.length+1) s' (by omega) (by omega) V;simp only[Zp9,show oC w []=0 from rfl,show((0:Nat):Int)=0 from rfl]at z2;rw[W4 hc (J.p.rs.length+1) (r:=(.int .i64 ((oC w J.p.rs:Nat):Int),s2)),aC (Plain.int _ _) (gr.trans z1).keeps];rw[abf];simp only[ay,bR,lk,bH,WY,dD,bY,aK,Zb4,aR,vc,jc,aB,Za8,Za4,Jc.c4,aQ,ln,z2,aG,bg]
theorem asr(hc:bw c)(O:Qf J)(jw:JW s jb j J)(w0:Wf s)(pq:QS 1 s P (q.map bU))(hq:Hi J q):c 23 [.ptr jb 0,P] s=some (.int .i64 ((oC (fJ J q) J.p.rs:Nat):Int),s):=by
 have h:=anx hc O jw w0 pq hq (f0:=41) (w:=fJ J q) (λ{s' vb G g} V hg r hr=>by obtain⟨m,R⟩:=O.rul r hr;exact(arw V hg R).1) (λ{s' vb G g} V hg {i r} hi=>adU hc O V hg hi);rw[UZ hc 1 (r:=(.int .i64 ((oC (fJ J q) J.p.rs:Nat):Int),s)),aC (Plain.int _ _) (aW.refl s)];rw[Zh];simp[h]
theorem ap2(hc:bw c)(O:Qf J)(jw:JW s jb j J)(w0:Wf s)(pq:QS 1 s P (q.map bU))(hq:Hi J q):c 22 [.ptr jb 0,P] s=some (.int .i64 ((oC (lJ J q) J.p.rs:Nat):Int),s):=by
 have h:=anx hc O jw w0 pq hq (f0:=71) (w:=lJ J q) (λ{s' vb G g} V hg r hr=>by obtain⟨m,R⟩:=O.rul r hr;exact(arw V hg R).2) (λ{s' vb G g} V hg {i r} hi=>anw hc O V hg hi);rw[SC hc 1 (r:=(.int .i64 ((oC (lJ J q) J.p.rs:Nat):Int),s)),aC (Plain.int _ _) (aW.refl s)];rw[W6];simp[h]
end
variable{c : aj}
def Ox(P:Rl->Bool):List Rl->Nat->Option Nat
 |[],_=>none
 |r::l,k=>if P r then some k else Ox P l (k+1)
def qz(P:Rl->Bool):List Rl->Nat->List Int
 |[],_=>[]
 |r::l,k=>(if P r then [(k:Int)]else [])++qz P l (k+1)
def fR(w:Rl->Nat)(r:Rl):Bool:=decide (r.wt=0)&&decide (0<w r)
section
variable{s : St}{vb jb : Pos}{j : Jc}{J : Jt}{P G : AV}{q g : List Int}
theorem ass(hc:bw c)(O:Qf J)(hg:uB J.N q=some g)(F:Nat):
  ∀ (m k f:Nat)(s:St),k+m=J.p.rs.length->m<f->Vw s vb jb j J P G q g->∃s',Grew s s'/\∀k1 k2:Q2,oY c F k1 k2 f [.ptr vb 0,j.V5,.int .i64 (J.p.rs.length:Int),.int .i64 (k:Int)] s=
    match Ox (fR (lJ J q)) (J.p.rs.drop k) k with
    |some i=>k1 [.int .i64 (i:Int),.bool true] s'
    |none=>k2 [] s':=by
 intro m;induction m with
 |zero=>
  intro k f s hk hf V;obtain⟨f,rfl⟩:∃g,f=g+1:=⟨f - 1,by omega⟩
  obtain rfl:k=J.p.rs.length:=by omega
  refine⟨s,Grew.refl V.wf,λk1 k2=> ?_⟩;rw[qC];simp[Ox]
 |succ m ih=>
  intro k f s hk hf V;obtain⟨f,rfl⟩:∃g,f=g+1:=⟨f - 1,by omega⟩
  have dN:k<J.p.rs.length:=by omega
  have hi:=H0 dN;have hrs:=V.jw.uv.rs;have ed:=Zd1 dN;generalize hr0:J.p.rs[k]=r at*
  obtain⟨b,o,h1,Dl⟩:=SB (c:=c) V hi;have r1:=λ{R}=>@h1.st R
  have r2:=h1.all;have gN:=Grew.ah V.wf (.cells r.cells 0);have V1:=V.ai gN;have hx:=aA s (.cells r.cells 0);have cl:=anw hc O V1 hg hi;have aT:decide ((k:Int)<(J.p.rs.length:Int))=true:=Za0 (by omega);have wr:av .i64 ((k:Int)+1)=((k+1:Nat):Int):=by rw[wrap64 (by omega) (by omega)];omega
  rw[ed];unfold Ox fR;obtain⟨s',z1,z2⟩:=ih (k+1) f _ (by omega) (by omega) V1;by_cases hp:r.wt=0
  . have d1:decide (r.wt=0)=true:=Za0 hp;by_cases hl:0<lJ J q r
    .   have d2:decide ((0:Int)<((lJ J q r:Nat):Int))=true:=Za0 (by omega);refine⟨_,gN,λk1 k2=> ?_⟩;rw[Zb2 (by rw[d1,Za0 hl];rfl),qC];simp only[aG,bg,cU,aT,dh,ay,r1,cK,r2,cO,bS,Dl,aK,Zb4,aR,hx,aB,Za8,Rl.c1,aQ,dM,d1,fL,bR,cl,bH,ki,d2,kH]
    .   have d2:decide ((0:Int)<((lJ J q r:Nat):Int))=false:=Za1 (by omega);refine⟨s',gN.trans z1,λk1 k2=> ?_⟩;rw[Za7 (by rw[d1,Za1 hl];simp),qC];simp only[aG,bg,cU,aT,dh,dD,ay,r1,cK,r2,cO,bS,Dl,aK,Zb4,aR,hx,aB,Za8,Rl.c1,aQ,dM,d1,fL,bR,cl,bH,ki,d2,kH,eu,wr];exact z2 k1 k2
  . have d1:decide (r.wt=0)=false:=Za1 hp;refine⟨s',gN.trans z1,λk1 k2=> ?_⟩;rw[Za7 (by rw[d1];simp),qC];simp only[aG,bg,cU,aT,dh,dD,ay,r1,cK,r2,cO,bS,Dl,aK,Zb4,aR,hx,aB,Za8,Rl.c1,aQ,dM,d1,ab8,iw,eu,wr];exact z2 k1 k2
theorem ast(hc:bw c)(O:Qf J)(jw:JW s jb j J)(w0:Wf s)(pq:QS 1 s P (q.map bU))(hq:Hi J q):c 26 [.ptr jb 0,P] s=
  some (match Ox (fR (lJ J q)) J.p.rs 0 with|some i=> .tuple [.int .i64 (i:Int),.bool true]|none=> .tuple [.int .i64 0,.bool false],s):=by
 obtain⟨g,vb,G,s',hg,lk,gr,V⟩:=look_ok hc jw w0 pq hq;have vc:=V.vc;have jc:=V.jw.lU;have ln:=λ(K:AV->St->Option (AV×St))=>V.jw.iY.lenB (c:=c) K s'
 rw[Za5]at ln;obtain⟨s2,z1,z2⟩:=ass (c:=c) hc O hg (J.p.rs.length+1) J.p.rs.length 0 (J.p.rs.length+1) s' (by omega) (by omega) V;simp only[Ze2,show((0:Nat):Int)=0 from rfl]at z2;rw[U0 hc (J.p.rs.length+1) (r:=(match Ox (fR (lJ J q)) J.p.rs 0 with|some i=> .tuple [.int .i64 (i:Int),.bool true]|none=> .tuple [.int .i64 0,.bool false],s2)),aC (by split<;>exact Plain.tuple (by simp[Plain.int,Plain.bool])) (gr.trans z1).keeps];rw[Zi];simp only[ay,bR,lk,bH,WY,dD,bY,aK,Zb4,aR,vc,jc,aB,Za8,Za4,Jc.c4,aQ,ln,z2];cases Ox (fR (lJ J q)) J.p.rs 0<;>rfl
theorem abg(P:Rl->Bool):∀(l:List Rl)(k:Nat),(qz P l k).length<=l.length
 |[],_=>Za3 _
 |r::l,k=>by have:=abg P l (k+1);unfold qz;rw[Ze3,Zc6];split<;>simp<;>omega
theorem ahM(P:Rl->Bool):∀(l:List Rl)(r:Rl)(k:Nat),qz P (l++[r]) k=qz P l k++(if P r then [((k+l.length:Nat):Int)]else [])
 |[],r,k=>by simp[qz]
 |a::l,r,k=>by rw[Zd7,qz,ahM P l r (k+1),qz,Zf1];congr 3;rw[Zc6];simp;omega
theorem anz(hc:bw c)(O:Qf J)(hg:uB J.N q=some g){sB:St}(V:Vw sB vb jb j J P G q g)(F:Nat):
  ∀ (m k f:Nat)(s:St)(v:AV),k+m=J.p.rs.length->m<f->Mk 1 sB s v ((qz (fR (fJ J q)) (J.p.rs.take k) 0).map bU)->∃s' v',Mk 1 sB s' v' ((qz (fR (fJ J q)) J.p.rs 0).map bU)/\
    ∀k2:Q2,mQ c F k2 f [.ptr vb 0,v,j.V5,.int .i64 (J.p.rs.length:Int),.int .i64 (k:Int)] s=k2 [v'] s':=by
 intro m;induction m with
 |zero=>
  intro k f s v hk hf hM;obtain⟨f,rfl⟩:∃g,f=g+1:=⟨f - 1,by omega⟩
  obtain rfl:k=J.p.rs.length:=by omega
  rw[Zj0]at hM;refine⟨s,v,hM,λk2=> ?_⟩;rw[oN];simp
 |succ m ih=>
  intro k f s v hk hf hM;obtain⟨f,rfl⟩:∃g,f=g+1:=⟨f - 1,by omega⟩
  have dN:k<J.p.rs.length:=by omega
  have hi:=H0 dN;have hrs:=V.jw.uv.rs;have et:J.p.rs.take (k+1)=J.p.rs.take k++[J.p.rs[k]]:=Zd3 dN;generalize J.p.rs[k]=r at*
  have V0:=V.ai hM.ai;obtain⟨b,o,h1,Dl⟩:=SB (c:=c) V0 hi;have r1:=λ{R}=>@h1.st R
  have r2:=h1.all;have gN:=Grew.ah V0.wf (.cells r.cells 0);have V1:=V0.ai gN;have hx:=aA s (.cells r.cells 0);have cl:=adU hc O V1 hg hi;have aT:decide ((k:Int)<(J.p.rs.length:Int))=true:=Za0 (by omega);have wr:av .i64 ((k:Int)+1)=((k+1:Nat):Int):=by rw[wrap64 (by omega) (by omega)];omega
  have ei:=ahM (fR (fJ J q)) (J.p.rs.take k) r 0;rw[<-et,Zh5,Zk3 (by omega),Zb4]at ei;have hM1:=hM.grow gN;have il:(qz (fR (fJ J q)) (J.p.rs.take k) 0).length<=100:=Zb1 (abg _ _ _) (by rw[Zh5];omega);unfold fR at ei;by_cases hp:r.wt=0
  . have d1:decide (r.wt=0)=true:=Za0 hp;by_cases hl:0<fJ J q r
    .   have d2:decide ((0:Int)<((fJ J q r:Nat):Int))=true:=Za0 (by omega);rw[Zb2 (by rw[d1,Za0 hl];rfl)]at ei;obtain⟨s5,v5,a1,a2,_,_⟩:=hM1.push (R:=AV×St) (c:=c) (bytes:=8) (z:=[.int .i64 0]) (x:= .int .i64 (k:Int)) rfl rfl rfl (by omega) (by rw[Za5];omega) (by rw[Za5];omega);obtain⟨s',v',z1,z2⟩:=ih (k+1) f s5 v5 (by omega) (by omega) (by unfold fR;rw[ei,Zd4];exact a2);refine⟨s',v',z1,λk2=> ?_⟩;rw[<-z2 k2,oN];simp only[aG,bg,cH,cU,aT,dh,ay,r1,cK,r2,cO,bS,Dl,aK,Zb4,aR,hx,aB,Za8,Rl.c1,aQ,dM,d1,fL,bR,cl,bH,ki,d2,kH,a1,eu,wr]
    .   have d2:decide ((0:Int)<((fJ J q r:Nat):Int))=false:=Za1 (by omega);rw[Za7 (by rw[d1,Za1 hl];simp),Zd9]at ei;obtain⟨s',v',z1,z2⟩:=ih (k+1) f _ v (by omega) (by omega) (by unfold fR;rw[ei];exact hM1);refine⟨s',v',z1,λk2=> ?_⟩;rw[<-z2 k2,oN];simp only[aG,bg,cH,cU,aT,dh,dD,ay,r1,cK,r2,cO,bS,Dl,aK,Zb4,aR,hx,aB,Za8,Rl.c1,aQ,dM,d1,fL,bR,cl,bH,ki,d2,kH,eu,wr]
  . have d1:decide (r.wt=0)=false:=Za1 hp;rw[Za7 (by rw[d1];simp),Zd9]at ei;obtain⟨s',v',z1,z2⟩:=ih (k+1) f _ v (by omega) (by omega) (by unfold fR;rw[ei];exact hM1);refine⟨s',v',z1,λk2=> ?_⟩;rw[<-z2 k2,oN];simp only[aG,bg,cH,cU,aT,dh,dD,ay,r1,cK,r2,cO,bS,Dl,aK,Zb4,aR,hx,aB,Za8,Rl.c1,aQ,dM,d1,ab8,iw,eu,wr]
theorem anA(hc:bw c)(O:Qf J)(jw:JW s jb j J)(w0:Wf s)(pq:QS 1 s P (q.map bU))(hq:Hi J q):∃s' v,c 27 [.ptr jb 0,P] s=some (v,s')/\Mk 1 s s' v ((qz (fR (fJ J q)) J.p.rs 0).map bU):=by
 obtain⟨g,vb,G,s',hg,lk,gr,V⟩:=look_ok hc jw w0 pq hq;have vc:=V.vc;have jc:=V.jw.lU;have ln:=λ(K:AV->St->Option (AV×St))=>V.jw.iY.lenB (c:=c) K s'
 rw[Za5]at ln;obtain⟨s2,v,z1,z2⟩:=anz (c:=c) hc O hg V (J.p.rs.length+1) J.p.rs.length 0 (J.p.rs.length+1) s' .af (by omega) (by omega) (Mk.start V.wf (Grew.refl V.wf));simp only[show((0:Nat):Int)=0 from rfl]at z2;have hM:=z1.back w0 gr;obtain⟨s3,t1,t2⟩:=hM.tidy;refine⟨s3,v,?_,t2⟩;rw[Qg hc (J.p.rs.length+1) (r:=(v,s2)),t1];rw[U1];simp only[ay,bR,lk,bH,WY,dD,bY,aK,Zb4,aR,vc,jc,aB,Za8,Za4,Jc.c4,aQ,ln,z2,aG,bg]
theorem ap3(w0:Wf s)(pq:QS 1 s P (q.map bU))(hl:q.length<=1000000)(x:Int)(F:Nat):∀(m k f:Nat),k+m=q.length->m<f->∃i:Nat,∀k1 k2:Q2,iq c F k1 k2 f [P,.int .i64 x,.int .i64 (q.length:Int),.int .i64 (k:Int)] s=if(q.drop k).contains x then k1 [.int .i64 (i:Int)] s else k2 [] s:=by
 intro m;induction m with
 |zero=>
  intro k f hk hf;obtain⟨f,rfl⟩:∃g,f=g+1:=⟨f - 1,by omega⟩
  obtain rfl:k=q.length:=by omega
  refine⟨0,λk1 k2=> ?_⟩;rw[iZ];simp
 |succ m ih=>
  intro k f hk hf;obtain⟨f,rfl⟩:∃g,f=g+1:=⟨f - 1,by omega⟩
  have dN:k<q.length:=by omega
  obtain⟨pb,po,p⟩:=pW pq (H0 dN);have p1:=λ{R}=>@p.st R
  have p3:=p.one;have wr:av .i64 ((k:Int)+1)=((k+1:Nat):Int):=wrap64 (by omega) (by omega);rw[Zd1 dN,Zq2];by_cases he:x=q[k]
  . refine⟨k,λk1 k2=> ?_⟩;rw[iZ];have e2:(x==q[k])=true:=(by simpa using he);have d2:decide (x=q[k])=true:=Za0 he;rw[e2,Bool.true_or];simp[dN,p1,p3,d2]
  . have Li:(x==q[k])=false:=(by simpa using he);have d2:decide (x=q[k])=false:=Za1 he;obtain⟨i,hi⟩:=ih (k+1) f (by omega) (by omega);refine⟨i,λk1 k2=> ?_⟩;rw[Li,Zl7, <-hi,iZ];simp[dN,p1,p3,d2,wr]
theorem afD(hc:bw c)(w0:Wf s)(pq:QS 1 s P (q.map bU))(hl:q.length<=1000000)(x:Int):c 73 [P,.int .i64 x] s=some (.bool (q.contains x),s):=by
 have ln:=λ(K:AV->St->Option (AV×St))=>pq.lenB (c:=c) K s
 rw[Za5]at ln;obtain⟨i,hi⟩:=ap3 (c:=c) w0 pq hl x (q.length+1) q.length 0 (q.length+1) (by omega) (by omega);simp only[Ze2,show((0:Nat):Int)=0 from rfl]at hi;have ix:c 138 [P,.int .i64 x] s=some (if q.contains x then .int .i64 (i:Int)else .int .i64 (-1),s):=by rw[KG hc (q.length+1) (r:=(if q.contains x then .int .i64 (i:Int)else .int .i64 (-1),s)),aC (by split<;>exact Plain.int _ _) (aW.refl s)];rw[AO];simp only[ay,ln,hi];split<;>simp
 rw[FY hc 1 (r:=(.bool (q.contains x),s)),aC (Plain.bool _) (aW.refl s)];rw[xY];simp only[ay,bR,ix,bH];generalize q.contains x=e;cases e<;>simp
theorem ap4(hc:bw c)(O:Qf J)(hg:uB J.N q=some g)(F:Nat):
  ∀ (m k f:Nat)(s:St),k+m=J.p.rs.length->m<f->Vw s vb jb j J P G q g->∃s',Grew s s'/\∀k1 k2:Q2,nY c F k1 k2 f [.ptr vb 0,j.V5,.int .i64 (J.p.rs.length:Int),.int .i64 (k:Int)] s=
    if(J.p.rs.drop k).any (fR (fJ J q))then k1 [.bool false] s' else k2 [] s':=by
 intro m;induction m with
 |zero=>
  intro k f s hk hf V;obtain⟨f,rfl⟩:∃g,f=g+1:=⟨f - 1,by omega⟩
  obtain rfl:k=J.p.rs.length:=by omega
  refine⟨s,Grew.refl V.wf,λk1 k2=> ?_⟩;rw[pI];simp
 |succ m ih=>
  intro k f s hk hf V;obtain⟨f,rfl⟩:∃g,f=g+1:=⟨f - 1,by omega⟩
  have dN:k<J.p.rs.length:=by omega
  have hi:=H0 dN;have hrs:=V.jw.uv.rs;have ed:=Zd1 dN;generalize hr0:J.p.rs[k]=r at*
  obtain⟨b,o,h1,Dl⟩:=SB (c:=c) V hi;have r1:=λ{R}=>@h1.st R
  have r2:=h1.all;have gN:=Grew.ah V.wf (.cells r.cells 0);have V1:=V.ai gN;have hx:=aA s (.cells r.cells 0);have cl:=adU hc O V1 hg hi;have aT:decide ((k:Int)<(J.p.rs.length:Int))=true:=Za0 (by omega);have wr:av .i64 ((k:Int)+1)=((k+1:Nat):Int):=by rw[wrap64 (by omega) (by omega)];omega
  rw[ed,List.any_cons];have eh:fR (fJ J q) r=(decide (r.wt=0)&&decide (0<fJ J q r)):=rfl;rw[eh];obtain⟨s',z1,z2⟩:=ih (k+1) f _ (by omega) (by omega) V1;by_cases hp:r.wt=0
  . have d1:decide (r.wt=0)=true:=Za0 hp;by_cases hl:0<fJ J q r
    .   have d2:decide ((0:Int)<((fJ J q r:Nat):Int))=true:=Za0 (by omega);refine⟨_,gN,λk1 k2=> ?_⟩;rw[d1,Za0 hl,Zb2 (by simp),pI];simp only[aG,bg,cU,aT,dh,ay,r1,cK,r2,cO,bS,Dl,aK,Zb4,aR,hx,aB,Za8,Rl.c1,aQ,dM,d1,fL,bR,cl,bH,ki,d2,kH]
    .   have d2:decide ((0:Int)<((fJ J q r:Nat):Int))=false:=Za1 (by omega);refine⟨s',gN.trans z1,λk1 k2=> ?_⟩;rw[d1,Za1 hl,Bool.and_false,Zl7, <-z2 k1 k2,pI];simp only[aG,bg,cU,aT,dh,dD,ay,r1,cK,r2,cO,bS,Dl,aK,Zb4,aR,hx,aB,Za8,Rl.c1,aQ,dM,d1,fL,bR,cl,bH,ki,d2,kH,eu,wr]
  . have d1:decide (r.wt=0)=false:=Za1 hp;refine⟨s',gN.trans z1,λk1 k2=> ?_⟩;rw[d1,Zq1,Zl7, <-z2 k1 k2,pI];simp only[aG,bg,cU,aT,dh,dD,ay,r1,cK,r2,cO,bS,Dl,aK,Zb4,aR,hx,aB,Za8,Rl.c1,aQ,dM,d1,ab8,iw,eu,wr]
theorem ap5(hc:bw c)(O:Qf J)(jw:JW s jb j J)(w0:Wf s)(pq:QS 1 s P (q.map bU))(hq:Hi J q):c 28 [.ptr jb 0,P] s=some (.bool (!q.contains (-1)&& !J.p.rs.any (fR (fJ J q))),s):=by
 obtain⟨g,vb,G,s',hg,lk,gr,V⟩:=look_ok hc jw w0 pq hq;have hn:J.n<=100:=jw.uv.gs;have ct:=afD hc V.wf V.pq (by have:=hq.len;omega) (-1);have vc:=V.vc;have jc:=V.jw.lU;have ln:=λ(K:AV->St->Option (AV×St))=>V.jw.iY.lenB (c:=c) K s'
 rw[Za5]at ln;obtain⟨s2,z1,z2⟩:=ap4 (c:=c) hc O hg (J.p.rs.length+1) J.p.rs.length 0 (J.p.rs.length+1) s' (by omega) (by omega) V;simp only[Ze2,show((0:Nat):Int)=0 from rfl]at z2;generalize q.contains (-1)=e at*
 cases e
 . rw[Dm hc (J.p.rs.length+1) (r:=(.bool (!false&& !J.p.rs.any (fR (fJ J q))),s2)),aC (Plain.bool _) (gr.trans z1).keeps];rw[Hj];simp only[ay,bR,lk,bH,WY,fL,ct,iw,dD,bY,aK,Zb4,aR,vc,jc,aB,Za8,Za4,Jc.c4,aQ,ln,z2];generalize J.p.rs.any (fR (fJ J q))=e2;cases e2<;>simp
 . rw[Dm hc (J.p.rs.length+1) (r:=(.bool (!true&& !J.p.rs.any (fR (fJ J q))),s')),aC (Plain.bool _) gr.keeps];rw[Hj];simp only[ay,bR,lk,bH,WY,fL,ct,iw,dh];simp
end
variable{c : aj}
def uC(x:Int)(n:Nat):Nat:=(x % (n:Int)).toNat
theorem ahN(x:Int){n:Nat}(h:0<n):uC x n<n:=by have h1:=Zr8 x (show(n:Int)≠0 by omega);have h2:=Zq4 x (show(0:Int)<(n:Int)by omega);unfold uC;omega
theorem akf(hc:bw c)(x:Int){n:Nat}(h:0<n)(hn:n<=1000000)(s:St):c 24 [.int .i64 x,.int .i64 (n:Int)] s=some (.int .i64 ((uC x n:Nat):Int),s):=by
 have h1:=Zr8 x (show(n:Int)≠0 by omega);have h2:=Zq4 x (show(0:Int)<(n:Int)by omega);have e:((uC x n:Nat):Int)=x % (n:Int):=by unfold uC;omega
 have rm:=λ(K:AV->St->Option (AV×St))(s:St)=>adI c K s .num .i64 x (n:Int) (by omega)
 have t:=Int.tmod_eq_emod (a:=x) (b:=(n:Int));rw[U2 hc 1 (r:=(.int .i64 ((uC x n:Nat):Int),s)),aC (Plain.int _ _) (aW.refl s)];rw[Zj,e];by_cases hd:0<=x\/(n:Int) ∣ x
 . rw[Zb2 hd]at t;have t:x.tmod (n:Int)=x % (n:Int):=(by rw[t];exact Int.sub_zero _);have d:decide (x % (n:Int)<0)=false:=Za1 (by omega);simp[-gU,rm,t,cH,d]
 . rw[Za7 hd]at t;have t:x.tmod (n:Int)=x % (n:Int) - (n:Int):=(by rw[t,Int.natAbs_natCast]);have d:decide (x % (n:Int) - (n:Int)<0)=true:=Za0 (by omega);have w:av .i64 (x % (n:Int))=x % (n:Int):=wrap64 (by omega) (by omega);simp[-gU,rm,t,cH,d,w]
abbrev nK(tk:List Bool):List AV:=tk.map AV.bool
theorem ap6{tb:Pos}{tk:List Bool}(hl:tk.length<=1000000){fr:Nat}(hf:fr<=1000000){s:St}(ht:s.heap.get tb=some (.cells (nK tk) 0))(F:Nat):∀(m k f:Nat),k+m=tk.length->m<f->∀k1 k2:Q2,
  lY c F k1 k2 f [.slice tb 0 tk.length (some tk.length) 1,.int .i64 (fr:Int),.int .i64 (k:Int)] s=
    match rf tk fr m k with
    |some i=>k1 [.int .i64 (i:Int)] (bk s tb (.cells (nK (tk.set i true)) 0))
    |none=>k2 [] s:=by
 intro m;induction m with
 |zero=>
  intro k f hk hf k1 k2;obtain⟨f,rfl⟩:∃g,f=g+1:=⟨f - 1,by omega⟩
  obtain rfl:k=tk.length:=by omega
  rw[sI];simp[kY,rf]
 |succ m ih=>
  intro k f hk hf k1 k2;obtain⟨f,rfl⟩:∃g,f=g+1:=⟨f - 1,by omega⟩
  have dN:k<tk.length:=by omega
  have aT:decide ((k:Int)<(tk.length:Int))=true:=Za0 (by omega);have w1:av .i64 ((fr:Int)+(k:Int))=((fr+k:Nat):Int):=by rw[wrap64 (by omega) (by omega)];omega
  have wr:av .i64 ((k:Int)+1)=((k+1:Nat):Int):=by rw[wrap64 (by omega) (by omega)];omega
  have hi:(fr+k) % tk.length<tk.length:=Zk4 _ (by omega);have rm:∀(K:AV->St->Option (AV×St))(s:St),aq c (.bin .rem .num) [.int .i64 ((fr+k:Nat):Int),.int .i64 (tk.length:Int)] s K=K (.int .i64 (((fr+k) % tk.length:Nat):Int)) s:=λK s=>by
    rw[cZ (by omega) (by omega),Zo4]
  generalize hm:(fr+k) % tk.length=i at*
  have ix:=λ(K:AV->St->Option (AV×St))(s1:St)=>iy c K s1 (b:=tb) (off:=0) (len:=tk.length) (es:=1) (es':=1) (cap:=some tk.length) (k:= .i64) (i:=i) hi
  simp only[Zb4,Zn1]at ix;have ec:(nK tk)[i]? =some (.bool tk[i]):=by rw[Zb8,H0 hi];rfl
  have eg:tk.getD i true=tk[i]:=by rw[Zb6,H0 hi];rfl
  unfold rf;rw[hm,eg];cases hb:tk[i]
  . (rw[hb]at ec;have pt:=λ(K:AV->St->Option (AV×St))=>FR (c:=c) K ht (o:=i) (by rw[Za5];exact hi) (v:= .bool true) rfl rfl);rw[show(nK tk).set i (.bool true)=nK (tk.set i true)from(Zp5).symm]at pt;rw[Zb2 rfl,sI];simp only[aG,bg,ay,kY,cU,aT,dh,eu,w1,rm,ix,aR,ht,aB,Za8,ec,aQ,Cd,Zj2,pt]
  . rw[hb]at ec;rw[Za7 (by simp), <-ih (k+1) f (by omega) (by omega) k1 k2,sI];simp only[aG,bg,ay,kY,cU,aT,dh,dD,eu,w1,rm,ix,aR,ht,aB,Za8,ec,aQ,Cd,Zj1,wr]
theorem anB{a b:List Bool}(h:nK a=nK b):a=b:=by
 induction a generalizing b with
 |nil=>cases b with|nil=>rfl|cons y b=>simp at h
 |cons x a ih=>
  cases b with
  |nil=>simp at h
  |cons y b=>
   simp only[Zd6,Zg3,AV.bool.injEq]at h;rw[h.1,ih h.2]
theorem aeY(hc:bw c){tb:Pos}{tk:List Bool}(hl:tk.length<=1000000){fr:Nat}(hf:fr<=1000000){s:St}(ht:s.heap.get tb=some (.cells (nK tk) 0)):
  c 36 [.slice tb 0 tk.length (some tk.length) 1,.int .i64 (fr:Int)] s=some (.int .i64 (nU tk fr).2,bk s tb (.cells (nK (nU tk fr).1) 0)):=by
 have lp:=λ(k1 k2:Q2)=>ap6 (c:=c) hl hf ht (tk.length+1) tk.length 0 (tk.length+1) (by omega) (by omega) k1 k2
 simp only[show((0:Nat):Int)=0 from rfl]at lp;unfold nU;cases vq:rf tk fr tk.length 0 with
 |none=>
  simp only[vq]at lp ⊢;rw[ahw ht];rw[AP hc (tk.length+1) (r:=(.int .i64 (-1),s)),aC (Plain.int _ _) (aW.refl s)];rw[Dn];simp[lp]
 |some i=>
  simp only[vq]at lp ⊢;have hb:=IC vq;have ne:tk.set i true≠tk:=λe=>by have h2:(tk.set i true)[i]? =some true:=(by rw[Zf0 (Za2.1 hb).1]);rw[e,hb]at h2;cases h2
  rw[AP hc (tk.length+1) (r:=(.int .i64 (i:Int),bk s tb (.cells (nK (tk.set i true)) 0))),adH ht (by rw[bP];intro e;simp only[H5,AB.cells.injEq,Zp0]at e;exact ne (anB e))];rw[Dn];simp[lp]
def ahO(p:cw):Prop:=∀t∈p.ts,nM t.sh t.a t.b=bJ t/\(0<=t.a/\t.a<=1000000)/\0<=t.b/\t.b<=1000000
section
variable{st sB s : St}{Vs : List AV}{p : cw}
theorem PS.rT(h:PS st s Vs p):∃V1 V2 r1 r2,Vs[0]? =some V1/\Vs[1]? =some V2/\TS st s V1 p.ts r1/\GS st s V2 p.gs r2/\Vs.length=5:=by
 obtain⟨V1,V2,V3,V4,V5,r1,r2,rfl,h1,h2,_⟩:=h.all;exact⟨V1,V2,r1,r2,rfl,rfl,h1,h2,rfl⟩
theorem TS.Lx{V:AV}{ts:List aE}{rows:List (List AV)}(h:TS st s V ts rows){t:Nat}{T:aE}(ht:ts[t]? =some T):∃v b o,Rd s 7 V t b o (T.ax v):=by
 have hl:t<rows.length:=by rw[h.len];exact(Za2.1 ht).1
 obtain⟨v,e,_⟩:=h.eF t T rows[t] ht (H0 hl);obtain⟨b,o,h4⟩:=h.out.own.rd h.out.row (H0 hl);exact⟨v,b,o,by rw[<-e];exact h4⟩
theorem alv(hc:bw c)(hz:ahO p)(tu:p.ts.length<=100){pb:Pos}{V1:AV}{cs:List AV}{r1:List (List AV)}(hw:Wf s)(hp:s.heap.get pb=some (.cells cs 0))(h0:cs[0]? =some V1)(T:TS st s V1 p.ts r1)(F:Nat):∀(m k f:Nat),k+m=p.ts.length->m<f->∀k2:Q2,
  jX c F k2 f [.ptr pb 0,.int .i64 (aZ (p.ts.take k)),.int .i64 (k:Int)] s=k2 [.int .i64 (aZ p.ts)] s:=by
 have ln:=λ(K:AV->St->Option (AV×St))=>T.out.own.lenB (c:=c) K s
 rw[T.len]at ln;intro m;induction m with
 |zero=>
  intro k f hk hf k2;obtain⟨f,rfl⟩:∃g,f=g+1:=⟨f - 1,by omega⟩
  obtain rfl:k=p.ts.length:=by omega
  rw[xZ,Zj0];simp[hp,h0,ln]
 |succ m ih=>
  intro k f hk hf k2;obtain⟨f,rfl⟩:∃g,f=g+1:=⟨f - 1,by omega⟩
  have dN:k<p.ts.length:=by omega
  have hi:=H0 dN;obtain⟨v,b,o,h1⟩:=T.Lx hi;have z:=hz _ (Zb9 dN);have sz:=Wz p.ts[k];have sn:=WE p.ts[k];have et:aZ (p.ts.take (k+1))=aZ (p.ts.take k)+bJ p.ts[k]:=(SD dN).1;generalize p.ts[k]=t at*
  have r1:=λ{R}=>@h1.st R
  have r2:=h1.all;have sl:=LJ hc (l:=t.ax v) (sh:=t.sh) (a:=t.a) (b:=t.b) rfl rfl rfl z.2.1 z.2.2 s hw;rw[z.1]at sl;have n1:=pP (p.ts.take k);rw[Zh5]at n1;have aT:decide ((k:Int)<(p.ts.length:Int))=true:=Za0 (by omega);have w1:av .i64 (aZ (p.ts.take k)+bJ t)=aZ (p.ts.take k)+bJ t:=wrap64 (by omega) (by omega);have wr:av .i64 ((k:Int)+1)=((k+1:Nat):Int):=by rw[wrap64 (by omega) (by omega)];omega
  rw[<-ih (k+1) f (by omega) (by omega) k2,xZ,et];simp only[aG,bg,ay,aK,Zb4,aR,hp,aB,Za8,h0,aQ,ln,cU,aT,dh,r1,cK,r2,cO,bR,sl,bH,eu,w1,wr]
theorem acC(hc:bw c)(h:PS st s Vs p)(hz:ahO p)(tu:p.ts.length<=100):c 35 [.agg Vs] s=some (.int .i64 (aZ p.ts),s):=by
 have hw:=h.ai.wf;have gN:=Grew.ah hw (.cells Vs 0);obtain⟨V1,V2,r1,r2,e1,_,T,_,_⟩:=(h.KD gN).rT;have lp:=λ(k2:Q2)=>alv (c:=c) hc hz tu gN.wf (aA s (.cells Vs 0)) e1 T (p.ts.length+1) p.ts.length 0 (p.ts.length+1) (by omega) (by omega) k2
 simp only[Zp9,show aZ ([]:List aE)=0 from rfl,show((0:Nat):Int)=0 from rfl]at lp;rw[LM hc (p.ts.length+1) (r:=(.int .i64 (aZ p.ts),ah s (.cells Vs 0))),aC (Plain.int _ _) gN.keeps];rw[Oy];simp only[dy,show ∀l,AV.cells (.agg l)=l from λl=>rfl,ay,lp,aG,bg]
def pZ(ch:Nat->Ch):Nat->Nat->List Ch
 |0,_=>[]
 |m+1,k=>ch k::pZ ch m (k+1)
structure Qh(sB s:St)(tb:Pos)(tk:List Bool)(v:AV)(R:List Int):Prop where
 NA:Mk 1 sB s v (R.map bU)
 tkn:s.heap.get tb=some (.cells (nK tk) 0)
 ge:sB.next.toNat<=tb.toNat
 ap:∀b,aM v=some b->tb.toNat+1<=b.toNat
theorem Qh.set{tb:Pos}{tk oZ:List Bool}{v:AV}{R:List Int}(h:Qh sB s tb tk v R):Qh sB (bk s tb (.cells (nK oZ) 0)) tb oZ v R:=by
 have aT:=h.NA.ai.wf _ _ h.tkn;have g:=yM h.NA.jJ h.NA.ai h.ge aT (.cells (nK oZ) 0);exact⟨h.NA.rQ g λb x hb hx=>by rw[aJ (λe=>by have:=h.ap b hb;rw[<-e]at this;omega)];exact hx,bP _ _ _,h.ge,h.ap⟩
theorem Qh.push{tb:Pos}{tk:List Bool}{v:AV}{R:List Int}(h:Qh sB s tb tk v R)(hR:R.length<=1000)(x:Int):∃s5 v',(∀(K:AV->St->Option (AV×St)),aq c (.buildSlice 1 1 [.int .i64 0] [0]) [.int .i64 x] s (λy t=>aq c (.append 1 8) [v,y] t K)=K v' s5)/\Qh sB s5 tb tk v' (R++[x]):=by have aT:=h.NA.ai.wf _ _ h.tkn;obtain⟨s5,v5,a1,a2,a3,a4⟩:=h.NA.push (R:=AV×St) (c:=c) (bytes:=8) (z:=[.int .i64 0]) (x:= .int .i64 x) rfl rfl rfl (by omega) (by rw[Za5];omega) (by rw[Za5];omega);refine⟨s5,v5,a1,⟨by rw[Zd4];exact a2,a3 tb _ (λe=>by have:=h.ap tb e;omega) h.tkn,h.ge,λb hb=> ?_⟩⟩;have:=a4 b hb;omega
def W7(N:Nat)(xs:List Int)(g:Nat):Ch:=match xs[g]? with
 |some x=>if uC x (N+1)=N then .no else .fr (uC x (N+1))
 |none=> .no
theorem anC(hc:bw c){pb tb:Pos}{cs:List AV}{V2:AV}{r2:List (List AV)}(hp:sB.heap.get pb=some (.cells cs 0))(h1:cs[1]? =some V2)(T:GS st sB V2 p.gs r2){N:Nat}(hN:N<=100000)(hgs:p.gs.length<=100)(z:Bool)(xs:List Int)(hx:xs.length<=9223372036854775807)(F:Nat):
  ∀ (m k f:Nat)(s:St)(tk:List Bool)(v:AV)(R:List Int),k+m=p.gs.length->m<f->Qh sB s tb tk v R->tk.length=N->R.length=k->∃s' v' oZ,Qh sB s' tb oZ v' (R++dR tk (pZ (W7 N xs) m k))/\
    ∀k2:Q2,fA c F k2 f [ints z xs,.ptr pb 0,.int .i64 (N:Int),.slice tb 0 N (some N) 1,v,.int .i64 (k:Int)] s=k2 [v'] s':=by
 intro m;induction m with
 |zero=>
  intro k f s tk v R hk hf hS hl hR;obtain⟨f,rfl⟩:∃g,f=g+1:=⟨f - 1,by omega⟩
  obtain rfl:k=p.gs.length:=by omega
  have j8:=hS.NA.ai.get hp;have T1:=T.ai hS.NA.ai;have ln:=λ(K:AV->St->Option (AV×St))=>T1.out.own.lenB (c:=c) K s
  rw[T1.len]at ln;refine⟨s,v,tk,by simpa [pZ,dR]using hS,λk2=> ?_⟩;rw[mR];simp[j8,h1,ln]
 |succ m ih=>
  intro k f s tk v R hk hf hS hl hR;obtain⟨f,rfl⟩:∃g,f=g+1:=⟨f - 1,by omega⟩
  have dN:k<p.gs.length:=by omega
  have j8:=hS.NA.ai.get hp;have T1:=T.ai hS.NA.ai;have ln:=λ(K:AV->St->Option (AV×St))=>T1.out.own.lenB (c:=c) K s
  rw[T1.len]at ln;have aT:decide ((k:Int)<(p.gs.length:Int))=true:=Za0 (by omega);have wr:av .i64 ((k:Int)+1)=((k+1:Nat):Int):=by rw[wrap64 (by omega) (by omega)];omega
  have wN:av .i64 ((N:Int)+1)=((N+1:Nat):Int):=by rw[wrap64 (by omega) (by omega)];omega
  obtain⟨s5,v5,a1,a2⟩:=hS.push (c:=c) (by omega) (-1)
  have no:W7 N xs k= .no->(∀k2:Q2,fA c F k2 (f+1) [ints z xs,.ptr pb 0,.int .i64 (N:Int),.slice tb 0 N (some N) 1,v,.int .i64 (k:Int)] s=fA c F k2 f [ints z xs,.ptr pb 0,.int .i64 (N:Int),.slice tb 0 N (some N) 1,v5,.int .i64 ((k+1:Nat):Int)] s5)->
        ∃s' v' oZ,Qh sB s' tb oZ v' (R++dR tk (pZ (W7 N xs) (m+1) k))/\∀k2:Q2,fA c F k2 (f+1) [ints z xs,.ptr pb 0,.int .i64 (N:Int),.slice tb 0 N (some N) 1,v,.int .i64 (k:Int)] s=k2 [v'] s':=λhch gI=>by
    obtain⟨s',v',oZ,z1,z2⟩:=ih (k+1) f s5 tk v5 (R++[-1]) (by omega) (by omega) a2 hl (by simp[hR]);refine⟨s',v',oZ,?_,λk2=>by rw[gI,z2]⟩;rw[pZ,hch,dR];simpa using z1
  by_cases Cm:k<xs.length
  . have hlx:decide ((k:Int)<(xs.length:Int))=true:=Za0 (by omega);have pk:=akf hc xs[k] (n:=N+1) (by omega) (by omega) s;have plt:=ahN xs[k] (n:=N+1) (by omega);simp only[show((N+1:Nat):Int)=(N:Int)+1 by omega]at pk wN;have ech:W7 N xs k=if uC xs[k] (N+1)=N then .no else .fr (uC xs[k] (N+1)):=by unfold W7;rw[H0 Cm]
    have at':=abh xs k Cm;by_cases hpn:uC xs[k] (N+1)=N
    .   rw[Zb2 hpn]at ech;(refine no ech λk2=> ?_);rw[hpn]at pk;rw[mR];unfold ints at*
        simp[-au,cH,j8,h1,ln,aT,dN,Cm,at',wN,pk,a1,wr]
    .   rw[Za7 hpn]at ech;generalize uC xs[k] (N+1)=fr at*
        have dn:decide ((fr:Int)=(N:Int))=false:=Za1 (by omega);have pl:=aeY hc (tk:=tk) (tb:=tb) (by omega) (fr:=fr) (by omega) hS.tkn;rw[hl]at pl;obtain⟨s6,v6,b1,b2⟩:=(hS.set (oZ:=(nU tk fr).1)).push (c:=c) (by omega) (nU tk fr).2;obtain⟨s',v',oZ,z1,z2⟩:=ih (k+1) f s6 _ v6 _ (by omega) (by omega) b2 (by rw[aeU];exact hl) (by simp[hR]);refine⟨s',v',oZ,?_,λk2=> ?_⟩
        . rw[pZ,ech,dR];simpa using z1
        . rw[<-z2 k2,mR];unfold ints at*
          simp[-au,cH,j8,h1,ln,aT,dN,Cm,at',wN,pk,dn,pl,b1,wr]
  . have hlx:decide ((k:Int)<(xs.length:Int))=false:=Za1 (by omega);(refine no (by unfold W7;rw[Zc1 (by omega)]) λk2=> ?_);rw[mR];unfold ints at*
    simp[-au,cH,j8,h1,ln,aT,dN,Cm,a1,wr]
theorem aeZ(N:Nat):List.replicate N (AV.bool false)=nK (List.replicate N false):=List.map_replicate.symm
theorem anD(hc:bw c)(h:PS st s Vs p)(hz:ahO p)(tu:p.ts.length<=100)(hgs:p.gs.length<=100){N:Nat}(hN:(N:Int)=aZ p.ts)(z:Bool)(xs:List Int)(hx:xs.length<=9223372036854775807):
  ∃s' v,c 10 [.agg Vs,ints z xs] s=some (v,s')/\Mk 1 s s' v ((dR (List.replicate N false) (pZ (W7 N xs) p.gs.length 0)).map bU):=by
 have hw:=h.ai.wf;have gN:=Grew.ah hw (.cells Vs 0);have h1:=h.KD gN;obtain⟨V1,V2,r1,r2,e1,e2,T,T2,e5⟩:=h1.rT;have so:=acC hc h1 hz tu;rw[<-hN]at so;have hN1:N<=100000:=by have:=(pP p.ts).2;omega
 have hcut:cut Vs 0 5=some Vs:=cW e5;have mk:=λ(K:AV->St->Option (AV×St))=>YG c K (ah s (.cells Vs 0)) (es:=1) (bytes:=1) (z:=[.bool false]) (k:= .i64) (k':= .i64) (n:=N) (by omega) (by omega)
 rw[zx,aeZ]at mk;have gT:=Grew.ah gN.wf (.cells (nK (List.replicate N false)) 0);have S0:Qh (ah s (.cells Vs 0)) (ah (ah s (.cells Vs 0)) (.cells (nK (List.replicate N false)) 0)) (ah s (.cells Vs 0)).next (List.replicate N false) .af []:=
  ⟨Mk.start gN.wf gT,aA _ _,Za3 _,λb e=>(nomatch e)⟩
 obtain⟨s',v',oZ,z1,z2⟩:=anC (c:=c) hc (aA s (.cells Vs 0)) e2 T2 hN1 hgs z xs hx (p.gs.length+1) p.gs.length 0 (p.gs.length+1) _ _ _ [] (by omega) (by omega) S0 (by simp) rfl;have M:=z1.NA.back hw gN;rw[Ze1]at M;obtain⟨s3,t1,t2⟩:=M.tidy;refine⟨s3,v',?_,t2⟩;simp only[show((0:Nat):Int)=0 from rfl]at z2;rw[MT hc (p.gs.length+1) (r:=(v',s')),t1];rw[Qi];simp only[dy,show ∀l,AV.cells (.agg l)=l from λl=>rfl,ay,cK,aA,aB,Za8,hcut,cO,bR,so,bH,mk,z2,aG,bg]
def Cn(N:Nat)(q xs:List Int)(g:Nat):Ch:=if 0<=qF q g then .Ck (qF q g).toNat else .fr (match xs[g]? with|some x=>uC x N|none=>0)
def oO:List Bool->List Int->List Bool
 |tk,[]=>tk
 |tk,x::q=>oO (if 0<=x then tk.set x.toNat true else tk) q
theorem W9:∀(q:List Int)(tk:List Bool),(oO tk q).length=tk.length
 |[],_=>rfl
 |x::q,tk=>by unfold oO;rw[W9 q];split<;>simp
theorem asu{tb:Pos}{q:List Int}{P:AV}(x2:AV){N:Nat}(hq:∀x∈q,x<(N:Int))(jx:q.length<=1000)(pq:QS 1 sB P (q.map bU))(hge:sB.next.toNat<=tb.toNat)(w0:Wf sB)(F:Nat):
  ∀ (m k f:Nat)(s:St)(tk:List Bool),k+m=q.length->m<f->Grew sB s->s.heap.get tb=some (.cells (nK tk) 0)->tk.length=N->∃s',Grew sB s'/\s'.heap.get tb=some (.cells (nK (oO tk (q.drop k))) 0)/\
    ∀k2:Q2,mS c F k2 f [P,x2,.int .i64 (N:Int),.slice tb 0 N (some N) 1,.int .i64 (k:Int)] s=k2 [P,x2,.int .i64 (N:Int),.slice tb 0 N (some N) 1] s':=by
 intro m;induction m with
 |zero=>
  intro k f s tk hk hf gr ht hl;obtain⟨f,rfl⟩:∃g,f=g+1:=⟨f - 1,by omega⟩
  obtain rfl:k=q.length:=by omega
  have ln:=λ(K:AV->St->Option (AV×St))=>(pq.ai gr).lenB (c:=c) K s
  rw[Za5]at ln;refine⟨s,gr,by simpa [oO]using ht,λk2=> ?_⟩;rw[ue];simp[ln]
 |succ m ih=>
  intro k f s tk hk hf gr ht hl;obtain⟨f,rfl⟩:∃g,f=g+1:=⟨f - 1,by omega⟩
  have dN:k<q.length:=by omega
  have ln:=λ(K:AV->St->Option (AV×St))=>(pq.ai gr).lenB (c:=c) K s
  rw[Za5]at ln;obtain⟨pb,po,p⟩:=pW (pq.ai gr) (H0 dN);have p1:=λ{R}=>@p.st R
  have p3:=p.one;have hxq:=hq _ (Zb9 dN);have wr:av .i64 ((k:Int)+1)=((k+1:Nat):Int):=by rw[wrap64 (by omega) (by omega)];omega
  rw[Zd1 dN,oO];generalize q[k]=x at*
  by_cases h0:0<=x
  . obtain⟨i,rfl⟩:∃i:Nat,x=(i:Int):=⟨x.toNat,by omega⟩
    have hi:i<N:=(by omega);have ix:=λ(K:AV->St->Option (AV×St))(s1:St)=>iy c K s1 (b:=tb) (off:=0) (len:=N) (es:=1) (es':=1) (cap:=some N) (k:= .i64) (i:=i) hi
    (simp only[Zb4,Zn1]at ix;have pt:=λ(K:AV->St->Option (AV×St))=>FR (c:=c) K ht (o:=i) (by rw[Za5];omega) (v:= .bool true) rfl rfl);rw[show(nK tk).set i (.bool true)=nK (tk.set i true)from(Zp5).symm]at pt;have aT:=gr.wf _ _ ht;obtain⟨s',z1,z2,z3⟩:=ih (k+1) f (bk s tb (.cells (nK (tk.set i true)) 0)) (tk.set i true) (by omega) (by omega) (yM w0 gr hge aT _) (bP _ _ _) (by simpa using hl);rw[Zb2 h0,Zc8];refine⟨s',z1,z2,λk2=> ?_⟩;rw[<-z3 k2,ue];simp[cH,ln,dN,p1,p3,ix,pt,wr]
  . have d0:decide (0<=x)=false:=Za1 h0;obtain⟨s',z1,z2,z3⟩:=ih (k+1) f s tk (by omega) (by omega) gr ht hl;rw[Za7 h0];refine⟨s',z1,z2,λk2=> ?_⟩;rw[<-z3 k2,ue];simp[cH,ln,dN,p1,p3,d0,wr]
theorem asv(hc:bw c){tb:Pos}{q:List Int}{P:AV}{N:Nat}(hN:N<=100000)(hN0:q.length≠0->0<N)(jx:q.length<=1000)(hqn:∀x∈q,-1<=x)(pq:QS 1 sB P (q.map bU))(z:Bool)(xs:List Int)(F:Nat):
  ∀ (m k f:Nat)(s:St)(tk:List Bool)(v:AV)(R:List Int),k+m=q.length->m<f->Qh sB s tb tk v R->tk.length=N->R.length=k->∃s' v' oZ,Qh sB s' tb oZ v' (R++dR tk (pZ (Cn N q xs) m k))/\
    ∀k4:Q2,mT c F k4 f [P,ints z xs,.int .i64 (N:Int),.slice tb 0 N (some N) 1,v,.int .i64 (k:Int)] s=k4 [v'] s':=by
 intro m;induction m with
 |zero=>
  intro k f s tk v R hk hf hS hl hR;obtain⟨f,rfl⟩:∃g,f=g+1:=⟨f - 1,by omega⟩
  obtain rfl:k=q.length:=by omega
  have ln:=λ(K:AV->St->Option (AV×St))=>(pq.ai hS.NA.ai).lenB (c:=c) K s
  rw[Za5]at ln;refine⟨s,v,tk,by simpa [pZ,dR]using hS,λk4=> ?_⟩;rw[uf];simp[ln]
 |succ m ih=>
  intro k f s tk v R hk hf hS hl hR;obtain⟨f,rfl⟩:∃g,f=g+1:=⟨f - 1,by omega⟩
  have dN:k<q.length:=by omega
  have hN1:=hN0 (by omega);have pq1:=pq.ai hS.NA.ai;have ln:=λ(K:AV->St->Option (AV×St))=>pq1.lenB (c:=c) K s
  rw[Za5]at ln;obtain⟨pb,po,p⟩:=pW pq1 (H0 dN);have p1:=λ{R}=>@p.st R
  have p3:=p.one;have hxn:=hqn _ (Zb9 dN);have eq:=mM (H0 dN);have wr:av .i64 ((k:Int)+1)=((k+1:Nat):Int):=by rw[wrap64 (by omega) (by omega)];omega
  have ech:Cn N q xs k=if 0<=q[k]then .Ck (q[k]).toNat else .fr (match xs[k]? with|some x=>uC x N|none=>0):=by unfold Cn;rw[eq]
  generalize q[k]=x at*
  by_cases h0:0<=x
  . have d0:decide (x<0)=false:=Za1 (by omega);rw[Zb2 h0]at ech;obtain⟨s5,v5,a1,a2⟩:=hS.push (c:=c) (by omega) x;obtain⟨s',v',oZ,z1,z2⟩:=ih (k+1) f s5 tk v5 (R++[x]) (by omega) (by omega) a2 hl (by simp[hR]);refine⟨s',v',oZ,?_,λk4=> ?_⟩
    .   rw[pZ,ech,dR,show((x.toNat:Nat):Int)=x by omega];simpa using z1
    .   rw[<-z2 k4,uf];simp[-au,cH,ln,dN,p1,p3,d0,a1,wr]
  . have d0:decide (x<0)=true:=Za0 (by omega);rw[Za7 h0]at ech;generalize vq:(match xs[k]? with|some x=>uC x N|none=>0)=fr at*
    have hfr1:fr<=1000000:=by
        rw[<-vq];split
        . rename_i y _;have:=ahN y (n:=N) (by omega);omega
        . omega
    have pl:=aeY hc (tk:=tk) (tb:=tb) (by omega) hfr1 hS.tkn;rw[hl]at pl;obtain⟨s6,v6,b1,b2⟩:=(hS.set (oZ:=(nU tk fr).1)).push (c:=c) (by omega) (nU tk fr).2;obtain⟨s',v',oZ,z1,z2⟩:=ih (k+1) f s6 _ v6 _ (by omega) (by omega) b2 (by rw[aeU];exact hl) (by simp[hR]);refine⟨s',v',oZ,?_,λk4=> ?_⟩
    .   rw[pZ,ech,dR];simpa using z1
    .   rw[<-z2 k4,uf];by_cases Cm:k<xs.length
        . rw[H0 Cm]at vq;have pk:=akf hc xs[k] (n:=N) (by omega) (by omega) s;rw[show uC xs[k] N=fr from vq]at pk;have at':=abh xs k Cm;unfold ints at*
          simp[-au,cH,ln,dN,p1,p3,d0,Cm,at',pk,pl,b1,wr]
        . rw[Zc1 (by omega)]at vq;have vq:0=fr:=vq;subst vq;simp only[show((0:Nat):Int)=0 from rfl]at pl;unfold ints at*
          simp[-au,cH,ln,dN,p1,p3,d0,Cm,pl,b1,wr]
theorem asw(hc:bw c)(h:PS st s Vs p)(hz:ahO p)(tu:p.ts.length<=100){N:Nat}(hN:(N:Int)=aZ p.ts){q:List Int}{P:AV}(hN0:q.length≠0->0<N)(jx:q.length<=1000)(hq:∀x∈q,-1<=x/\x<(N:Int))(pq:QS 1 s P (q.map bU))(z:Bool)(xs:List Int):
  ∃s' v,c 20 [.agg Vs,P,ints z xs] s=some (v,s')/\Mk 1 s s' v ((dR (oO (List.replicate N false) q) (pZ (Cn N q xs) q.length 0)).map bU):=by
 have hw:=h.ai.wf;have gN:=Grew.ah hw (.cells Vs 0);have h1:=h.KD gN;obtain⟨V1,V2,r1,r2,e1,e2,T,T2,e5⟩:=h1.rT;have so:=acC hc h1 hz tu;rw[<-hN]at so;have hN1:N<=100000:=by have:=(pP p.ts).2;omega
 have hcut:cut Vs 0 5=some Vs:=cW e5;have mk:=λ(K:AV->St->Option (AV×St))=>YG c K (ah s (.cells Vs 0)) (es:=1) (bytes:=1) (z:=[.bool false]) (k:= .i64) (k':= .i64) (n:=N) (by omega) (by omega)
 rw[zx,aeZ]at mk;have gT:=Grew.ah gN.wf (.cells (nK (List.replicate N false)) 0);have pq1:=pq.ai gN;obtain⟨s2,y1,y2,y3⟩:=asu (c:=c) (sB:=ah s (.cells Vs 0)) (ints z xs) (λx hx=>(hq x hx).2) jx pq1 (Za3 _) gN.wf (q.length+1) q.length 0 (q.length+1) _ (List.replicate N false) (by omega) (by omega) gT (aA _ _) (by simp);rw[Ze2]at y2;have S0:Qh (ah s (.cells Vs 0)) s2 (ah s (.cells Vs 0)).next (oO (List.replicate N false) q) .af []:=⟨Mk.start gN.wf y1,y2,Za3 _,λb e=>(nomatch e)⟩
 obtain⟨s',v',oZ,z1,z2⟩:=asv (c:=c) hc hN1 hN0 jx (λx hx=>(hq x hx).1) pq1 z xs (q.length+1) q.length 0 (q.length+1) _ _ _ [] (by omega) (by omega) S0 (by rw[W9];simp) rfl;have M:=z1.NA.back hw gN;rw[Ze1]at M;obtain⟨s3,t1,t2⟩:=M.tidy;refine⟨s3,v',?_,t2⟩;simp only[show((0:Nat):Int)=0 from rfl]at z2 y3;rw[Qj hc (q.length+1) (r:=(v',s')),t1];rw[U3];simp only[dy,show ∀l,AV.cells (.agg l)=l from λl=>rfl,ay,cK,aA,aB,Za8,hcut,cO,bR,so,bH,mk,y3,z2,aG,bg]
end
theorem KY(ch:Nat->Ch):∀(m k i:Nat),(pZ ch m k)[i]? =if i<m then some (ch (k+i))else none
 |0,k,i=>by simp[pZ]
 |m+1,k,0=>by simp[pZ]
 |m+1,k,i+1=>by
  rw[pZ,Zb7,KY ch m (k+1) i];by_cases h:i<m
  . rw[Zb2 h,Zb2 (by omega)];congr 2;omega
  . rw[Za7 h,Za7 (by omega)]
theorem adV(ch:Nat->Ch):∀(m k:Nat),(pZ ch m k).length=m
 |0,k=>rfl
 |m+1,k=>by rw[pZ,Zc6,adV ch m (k+1)]
theorem Qk:∀(l:List Ch)(tk:List Bool)(i s:Nat),l[i]? =some (.Ck s)->(dR tk l)[i]? =some (s:Int)
 |[],_,i,s,h=>by simp at h
 |c::l,tk,0,s,h=>by simp at h;subst h;simp[dR]
 |c::l,tk,i+1,s,h=>by
  have h:l[i]? =some (.Ck s):=by simpa using h
  cases c with
  |no=>simpa [dR]using Qk l tk i s h
  |Ck t=>simpa [dR]using Qk l tk i s h
  |fr f=>simpa [dR]using Qk l _ i s h
theorem ahP{N:Nat}:∀(q:List Int)(i:Nat)(g:List Int),(∀x∈q,-1<=x/\x<(N:Int))->(∀x∈q,0<=x->g.getD x.toNat (-1)<0)->(∀(a b:Nat)(x:Int),a<b->q[a]? =some x->q[b]? =some x->x<0)->∃g',Ny N q i g=some g'
 |[],i,g,_,_,_=>⟨g,rfl⟩
 |x ::q,i,g,h1,h2,h3=>by
  have a1:=h1 x (Zd5);have a2:=h2 x (Zd5);unfold Ny;rw[Za7 (by omega)];refine ahP q (i+1) _ (λy hy=>h1 y (Za9 _ hy)) (λy hy h0=> ?_) (λa b y hab ha hb=>h3 (a+1) (b+1) y (by omega) (by simpa using ha) (by simpa using hb));have b1:=h2 y (Za9 _ hy) h0;split
  . rename_i hx;by_cases e:x.toNat=y.toNat
    .   obtain⟨b,hb⟩:=Ze7.1 hy;have:=h3 0 (b+1) x (by omega) rfl (by rw[Zb7,hb];congr 1;omega);omega
    .   rw[Zb6,Ze5 e, <-Zb6];exact b1
  . exact b1
theorem atN{J:Jt}{q:List Int}(hl:q.length=J.n)(h1:∀x∈q,-1<=x/\x<(J.N:Int))(h3:∀(a b:Nat)(x:Int),a<b->q[a]? =some x->q[b]? =some x->x<0):Hi J q:=
 ⟨hl,ahP q 0 _ h1 (λx hx h0=>by
  have:=h1 x hx;rw[Zb6];by_cases h:x.toNat<J.N
  . rw[Zn2,Zb2 h];decide
  . omega) h3⟩
theorem akg{J:Jt}{tk:List Bool}{l:List Ch}(hs:Sat tk l)(hl:l.length=J.n)(ht:tk.length=J.N):Hi J (dR tk l):=by
 refine atN (by rw[R9];exact hl) (λx hx=> ?_) (λa b x hab ha hb=> ?_)
 . obtain⟨i,hi⟩:=Ze7.1 hx;rcases Cl l tk hs i x hi with rfl|⟨s,rfl,h|h⟩
   . omega
   . have:=(Za2.1 h).1;omega
   . have:=(Za2.1 h.1).1;omega
 . have:=KC l tk hs a b x hab ha hb;omega
theorem anE{J:Jt}{n:Nat}(hn:n=J.n)(xs:List Int):Hi J (dR (List.replicate J.N false) (pZ (W7 J.N xs) n 0)):=by
 have no:∀s,Ch.Ck s∉pZ (W7 J.N xs) n 0:=λs h=>by
  obtain⟨i,hi⟩:=Ze7.1 h;rw[KY]at hi;split at hi
  . simp only[H5]at hi;unfold W7 at hi;split at hi
    . split at hi<;>cases hi
    . cases hi
  . cases hi
 exact akg ⟨λs h=>absurd h (no s),λi j s h _=>absurd (Zc0 h) (no s)⟩ (by rw[adV];exact hn) (by simp)
theorem Hi.ok{J:Jt}{q:List Int}(h:Hi J q):∀x∈q,-1<=x/\x<(J.N:Int):=by obtain⟨g,hg⟩:=h.see;exact(ahJ hg).1
theorem ae0{N:Nat}:∀(q:List Int)(i:Nat)(g g':List Int),Ny N q i g=some g'->g.length=N->(∀x∈q,0<=x->g.getD x.toNat (-1)<0)/\∀(a b:Nat)(x:Int),a<b->q[a]? =some x->q[b]? =some x->x<0
 |[],i,g,g',_,_=>⟨λx hx=>(nomatch hx),λa b x _ ha _=>by simp at ha⟩
 |x ::q   ,i,g,g',h,hl=>by
  unfold Ny at h;by_cases hc:x< -1\/(N:Int)<=x\/(0<=x/\0<=g.getD x.toNat (-1))
  . rw[Zb2 hc]at h;cases h
  rw[Za7 hc]at h;obtain⟨h1,h2⟩:=ae0 q (i+1) _ g' h (by split<;>simp[hl]);have key:∀y∈q,0<=y->g.getD y.toNat (-1)<0/\(0<=x->y≠x):=λy hy h0=>by
    have k1:=h1 y hy h0;by_cases hx:0<=x
    .   rw[Zb2 hx]at k1;by_cases e:x.toNat=y.toNat
        . rw[<-e,Zb6,Zf0 (by omega)]at k1;simp at k1;omega
        . rw[Zb6,Ze5 e, <-Zb6]at k1;exact⟨k1,λ_ h=>e (by rw[h])⟩
    .   rw[Za7 hx]at k1;exact⟨k1,λh=>absurd h hx⟩
  refine⟨λy hy h0=> ?_,λa b y hab ha hb=> ?_⟩
  . rcases Zb0.1 hy with rfl|hy
    .   omega
    .   exact(key y hy h0).1
  . cases a with
    |   zero=>
        obtain⟨b,rfl⟩:∃b',b=b'+1:=⟨b - 1,by omega⟩
        simp at ha hb;subst ha;by_cases h0:0<=x
        . exact absurd rfl ((key x (Zc0 hb) h0).2 h0)
        . omega
    |   succ a=>
        obtain⟨b,rfl⟩:∃b',b=b'+1:=⟨b - 1,by omega⟩
        exact h2 a b y (by omega) (by simpa using ha) (by simpa using hb)
theorem Hi.apart{J:Jt}{q:List Int}(h:Hi J q):∀(a b:Nat)(x:Int),a<b->q[a]? =some x->q[b]? =some x->x<0:=by obtain⟨g,hg⟩:=h.see;exact(ae0 q 0 _ g hg (by simp)).2
theorem acD:∀(q:List Int)(tk:List Bool)(s:Nat),tk[s]? =some true->(oO tk q)[s]? =some true
 |[],_,_,h=>h
 |x ::q,tk,s,h=>by
  unfold oO;refine acD q _ s ?_;split
  . by_cases e:x.toNat=s
    . subst e;rw[Zf0 (Za2.1 h).1]
    . rw[Ze5 e];exact h
  . exact h
theorem ae1:∀(q:List Int)(tk:List Bool)(s:Nat),(s:Int)∈q->s<tk.length->(oO tk q)[s]? =some true
 |[],_,_,h,_=>(nomatch h)
 |x ::q,tk,s,h,hl=>by
  unfold oO;rcases Zb0.1 h with h|h
  . subst h;rw[Zb2 (by omega),Zc8];exact acD q _ s (Zf0 hl)
  . exact ae1 q _ s h (by split<;>simpa using hl)
theorem Xa:∀(tk:List Bool)(s:Nat),qw tk<=qw (tk.set s true)+1
 |[],s=>by simp[qw]
 |b::tk,0=>by unfold qw;cases b<;>simp[List.set]
 |b::tk,s+1=>by have:=Xa tk s;unfold qw at this ⊢;cases b<;>simp[List.set]<;>omega
def adW(q:List Int):Nat:=(q.filter λx=>decide (0<=x)).length
theorem SE:∀(q:List Int)(tk:List Bool),qw tk<=qw (oO tk q)+adW q
 |[],tk=>Za3 _
 |x ::q,tk=>by
  unfold oO adW;by_cases h:0<=x
  . rw[Zb2 h,List.filter_cons_of_pos (by simpa using h),Zc6];have h1:=SE q (tk.set x.toNat true);have h2:=Xa tk x.toNat;unfold adW at h1;omega
  . rw[Za7 h,List.filter_cons_of_neg (by simpa using h)];exact SE q tk
theorem ae2(N:Nat)(q xs:List Int):∀(m k:Nat),k+m=q.length->looks (pZ (Cn N q xs) m k)+adW (q.drop k)=m
 |0,k,h=>by have:q.drop k=[]:=Zl4 (by omega);rw[this];rfl
 |m +1,k,h=>by
  have hk:k<q.length:=by omega
  have ih:=ae2 N q xs m (k+1) (by omega);have eq:=mM (H0 hk);rw[Zd1 hk,pZ];unfold Cn adW;rw[eq];unfold adW at ih;by_cases h0:0<=q[k]
  . rw[Zb2 h0,List.filter_cons_of_pos (by simpa using h0),Zc6];show looks (pZ (Cn N q xs) m (k+1))+_=_;omega
  . rw[Za7 h0,List.filter_cons_of_neg (by simpa using h0)];show looks (pZ (Cn N q xs) m (k+1))+1+_=_;omega
theorem asx{J:Jt}{q:List Int}(h:Hi J q)(hr:J.n<=J.N)(xs:List Int):Hi J (dR (oO (List.replicate J.N false) q) (pZ (Cn J.N q xs) q.length 0))/\
   Ext J.n (qF q) (qF (dR (oO (List.replicate J.N false) q) (pZ (Cn J.N q xs) q.length 0)))/\(∀g,g<J.n->0<=qF (dR (oO (List.replicate J.N false) q) (pZ (Cn J.N q xs) q.length 0)) g):=by
 have hl:=h.len;have ml:(oO (List.replicate J.N false) q).length=J.N:=by rw[W9];simp
 have ap7:∀(i s:Nat),(pZ (Cn J.N q xs) q.length 0)[i]? =some (.Ck s)->i<q.length/\q[i]? =some (s:Int):=λi s hi=>by
   rw[KY,Zb4]at hi;split at hi
   . rename_i aT;simp only[H5]at hi;unfold Cn at hi;have e:=mM (H0 aT);rw[e]at hi;split at hi
     .  rename_i h0;simp only[Ch.Ck.injEq]at hi;refine⟨aT,?_⟩;rw[H0 aT];congr 1;omega
     .  cases hi
   . cases hi
 have sat:Sat (oO (List.replicate J.N false) q) (pZ (Cn J.N q xs) q.length 0):=by
   refine⟨λs hs=> ?_,λi j s hi hj=> ?_⟩
   . obtain⟨i,hi⟩:=Ze7.1 hs;obtain⟨h1,h2⟩:=ap7 i s hi;have:=h.ok _ (Zc0 h2);exact ae1 q _ s (Zc0 h2) (by simp;omega)
   . obtain⟨_,h1⟩:=ap7 i s hi;obtain⟨_,h2⟩:=ap7 j s hj;rcases Zq6 i j with aT|aT|aT
     .  have:=h.apart i j _ aT h1 h2;omega
     .  exact aT
     .  have:=h.apart j i _ aT h2 h1;omega
 have lk:=ae2 J.N q xs q.length 0 (by omega);rw[Ze2]at lk;have fm:=SE q (List.replicate J.N false);have fr:qw (List.replicate J.N false)=J.N:=by unfold qw;simp
 rw[fr]at fm;refine⟨akg sat (by rw[adV];exact hl) ml,λg hg h0=> ?_,λg hg=> ?_⟩
 . have NB:g<q.length:=(by omega);have e:=mM (H0 NB);rw[e]at h0 ⊢;refine(mM (Qk _ _ g (q[g]).toNat ?_)).trans (by omega);rw[KY,Zb2 NB,Zb4];unfold Cn;rw[e,Zb2 h0]
 . have NB:g<q.length:=(by omega);have e:=mM (H0 NB);by_cases h0:0<=q[g]
   . have:(pZ (Cn J.N q xs) q.length 0)[g]? =some (.Ck (q[g]).toNat):=by
        rw[KY,Zb2 NB,Zb4];unfold Cn;rw[e,Zb2 h0]
     rw[mM (Qk _ _ g _ this)];omega
   . have:∃f,(pZ (Cn J.N q xs) q.length 0)[g]? =some (.fr f):=by
        rw[KY,Zb2 NB,Zb4];unfold Cn;rw[e,Za7 h0];exact⟨_,rfl⟩
     obtain⟨f,hf⟩:=this;obtain⟨s,hs⟩:=Nw _ (oO (List.replicate J.N false) q) (by omega) g f hf;rw[mM hs];omega
variable{c : aj}
theorem acE(i:Nat):∀x∈bN i,x<256:=λx hx=>by simp only[bN,Zb0,Zc5,Zf3]at hx;omega
theorem abi(p:Prop)[Decidable p](i:Nat):∀x∈(if p then bN i else []),x<256:=by
 split
 . exact acE i
 . intro x hx;cases hx
theorem ap8(i x:Nat):(yN i x).Real where
 name:=acE _
 Ab:=abi (x % 2=1) _
 ke:=abi (4<x % 8) _
 nG:=abi (x % 3=2) _
 tg:=Zb1 (arx x).2 (by decide)
theorem Xb(i x:Nat):(j6 i x).ku.length<=16:=by have h1:=ahQ x (tN x);have h2:=acF x;show((Dp x (tN x)).map λ(k:Nat)=>(k:Int)).length<=16;rw[Za5];omega
theorem yO(xt xg xy xr:List Nat):(mU xt xg xy xr).GY where
 ts:=by show(sJ xt _).length<=100;rw[SG];omega
 gs:=by have:=Hl (uN xt xg);show(gh _).length<=100;omega
 ys:=by have:=(ae3 (uN xt xg) xy).1;show(Dq _ _).length<=100;omega
 cs:=by
  have:=Hl (uN xt xg);show(nZ xt xg xy).length<=100;unfold nZ;split
  . rw[LN];show(gh _).length<=100;omega
  . exact Zh9 _
 rs:=by have:=SH (n7 xt) (n9 xt xg) xr (min xr.length 12);show(BC _ _ _ _).length<=100;omega
 ok t ht:=by
  obtain⟨i,x,rfl⟩:=SJ ht;have:=Xb i x;exact⟨by show(fH i).length<wP;unfold fH wP;simp,by unfold wP;omega⟩
theorem anF(xt xg xy xr:List Nat):(mU xt xg xy xr).Real where
 ts:=by have:=(yO xt xg xy xr).ts;omega
 tab t ht:=by obtain⟨i,x,rfl⟩:=SJ ht;have:=Xb i x;refine⟨λy hy=> ?_,Zb1 this (by decide)⟩;have hy:y∈fH i:=hy;simp only[fH,Zb0,Zc5,Zf3]at hy;omega
 gs:=by have:=(yO xt xg xy xr).gs;omega
 pV g hg:=by obtain⟨i,hi⟩:=Ze7.1 hg;obtain⟨_,rfl⟩:=NC (xs:=uN xt xg) hi;exact ap8 _ _
 ys:=Zb1 (yO xt xg xy xr).ys (by decide)
 cs:=Zb1 (yO xt xg xy xr).cs (by decide)
 rs:=Zb1 (yO xt xg xy xr).rs (by decide)
theorem atO(ts:List aE)(gs:List aV)(x:Nat):(ia ts gs x).1.k=((1+x % 18:Nat):Int):=by
 unfold ia SK
 repeat' split
 all_goals rfl
theorem alw{xt xg xy xr:List Nat}(hx:∀x∈xt,x<256):∀r∈(mU xt xg xy xr).rs,r.Ok/\uA (mU xt xg xy xr) r=0:=λr hr=>by obtain⟨x,h1,rfl⟩:=abj hr;refine⟨?_,anG (p:=mU xt xg xy xr) ae4 Xc Xd (Oz hx) x h1⟩;have:=atO (n7 xt) (n9 xt xg) x;unfold Rl.Ok;omega
theorem anH{xt xg xy xr:List Nat}(hx:∀x∈xt,x<256):ahO (mU xt xg xy xr):=λt ht=>by
 have h1:=Oz hx t ht;have h2:=ahR t ht;exact⟨h1.1.symm,h2.1,h2.2.1,h2.2.2⟩
theorem anI{xt xg xy xr:List Nat}(hx:∀x∈xt,x<256):((mU xt xg xy xr).gs.length:Int)<=aZ (mU xt xg xy xr).ts:=by show((gh (uN xt xg)).length:Int)<=aZ (sJ xt (min xt.length 3));unfold gh;rw[LO,Xe hx _ (by omega)];unfold uN;rw[Zh5];omega
structure Jg(s:St)(jb:Pos)(j:Jc)(J:Jt)(p:cw):Prop where
 jw:JW s jb j J
 ok:Qf J
 sim:p.gJ J.p
 fit:J.n<=J.N
theorem Jg.n{s:St}{jb:Pos}{j:Jc}{J:Jt}{p:cw}(h:Jg s jb j J p):J.n=p.gs.length:=h.sim.gl
theorem Jg.sum{s:St}{jb:Pos}{j:Jc}{J:Jt}{p:cw}(h:Jg s jb j J p):(J.N:Int)=aZ p.ts:=by rw[h.jw.nN];exact h.sim.sum
theorem Jg.ai{s s':St}{jb:Pos}{j:Jc}{J:Jt}{p:cw}(h:Jg s jb j J p)(g:Grew s s'):Jg s' jb j J p:=⟨h.jw.ai g,h.ok,h.sim,h.fit⟩
theorem Ho{R:Type}{s:St}{b:Pos}{Vs:List AV}(h:s.heap.get b=some (.cells Vs 0))(hl:Vs.length=5)(K:AV->St->Option R):aq c (.load (some 5)) [.ptr b 0] s K=K (.agg Vs) s:=by rw[cK,h];simp only[aB,Za8];rw[cW hl];rfl
theorem GY.atQ{p p':cw}(S:p.gJ p')(hr:∀r∈p.rs,r.Ok/\uA p r=0):∀r∈p'.rs,∃m,T4 p' r m:=λr h=>by
 rw[S.rs]at h;obtain⟨a,b⟩:=hr r h;exact atI a (by rw[S.rule];exact b)
theorem afE{b:Pos}{o:Nat}{l:List AV}{t:Bool}(hi:∀u∈l,dY u):¬Plain (.tuple [.ptr b o,.agg l,.bool t]):=λh=>by
 obtain⟨N0,K0,h1⟩:=inst_list hi;obtain⟨xs,hx⟩:=h1 (max N0 (b.toNat+1)) K0 (by omega) (Za3 _);have e1:aD (λ_=>⟨0,0,K0⟩) (max N0 (b.toNat+1)) (λ_=>none) (.agg l) (.agg xs.toArray):= .agg l _ (by rw[hx.1];simp) λi v x hv wO=>hx.2 i v x hv (by simpa using wO)
 obtain⟨x0,e0⟩:∃x,aD (λ_=>⟨0,0,K0⟩) (max N0 (b.toNat+1)) (λ_=>none) (.ptr b o) x:=⟨_,.ptr b o (by omega)⟩
 obtain⟨x2,e2⟩:∃x,aD (λ_=>⟨0,0,K0⟩) (max N0 (b.toNat+1)) (λ_=>none) (.bool t) x:=⟨_,.bool t⟩
 have:=h _ (λ_=>⟨0,0,0⟩) _ 0 (λ_=>none) _ (.tuple _ #[x0,.agg xs.toArray,x2] rfl (λi v v' hv hx=>by
  match i with
  |0=>simp at hv hx;subst hv hx;exact e0
  |1=>simp at hv hx;subst hv hx;exact e1
  |2=>simp at hv hx;subst hv hx;exact e2
  |i+3=>simp at hv))
 cases this with
 |tuple _ _ _ h=>
  have:=h 0 _ x0 rfl rfl;cases this with
  |ptr _ _ h=>omega
theorem PS.inst{s0 s:St}{Vs:List AV}{p:cw}(h:PS s0 s Vs p):∀u∈Vs,dY u:=λu hu=>by
 obtain⟨V1,V2,V3,V4,V5,r1,r2,rfl,h1,h2,h3,h4,h5⟩:=h.all;simp only[Zb0,Zc5,Zf3]at hu;rcases hu with rfl|rfl|rfl|rfl|rfl
 . exact h1.out.inst
 . exact h2.out.inst
 . exact h3.inst
 . exact h4.inst
 . exact h5.inst
theorem ap9(hc:bw c){xt xg xy xr:List Nat}(ht:∀x∈xt,x<256)(hg:∀x∈xg,x<65536)(hy:∀x∈xy,x<256)(hr:∀x∈xr,x<4294967296)(lt:xt.length<=9223372036854775807)(lg:xg.length<=9223372036854775807)(lr:xr.length<=9223372036854775807)(ly:xy.length<=9223372036854775807)
   (zt zg zy zr:Bool) (st:St) (hw:Wf st):∃Vs s' jb j J s0,c 9 [.agg (jg zt zg zy zr xt xg xy xr)] st=some (.tuple [.ptr jb 0,.agg Vs,.bool true],s')/\Grew st s'/\PS s0 s' Vs (mU xt xg xy xr)/\Jg s' jb j J (mU xt xg xy xr):=by
 have g1:=Grew.ah hw (.cells (jg zt zg zy zr xt xg xy xr) 0);have w1:=g1.wf;have gA:=Grew.ah w1 (.cells [.af,.af,.af,.af,.af] 0);have ld4:∀(K:AV->St->Option (AV×St)),aq c (.load (some 4)) [.ptr st.next 0] (ah (ah st (.cells (jg zt zg zy zr xt xg xy xr) 0)) (.cells [.af,.af,.af,.af,.af] 0)) K=K (.agg (jg zt zg zy zr xt xg xy xr)) (ah (ah st (.cells (jg zt zg zy zr xt xg xy xr) 0)) (.cells [.af,.af,.af,.af,.af] 0)):=λK=>by rw[cK,gA.get (aA st _)];rfl
 obtain⟨s2,uu⟩:∃s2,s2=ah (ah st (.cells (jg zt zg zy zr xt xg xy xr) 0)) (.cells [.af,.af,.af,.af,.af] 0):=⟨_,rfl⟩
 obtain⟨b3,Z4⟩:∃b3,b3=(ah st (.cells (jg zt zg zy zr xt xg xy xr) 0)).next:=⟨_,rfl⟩
 have h3:s2.heap.get b3=some (.cells [.af,.af,.af,.af,.af] 0):=by rw[uu,Z4];exact aA _ _
 have g2:Grew st s2:=by rw[uu];exact g1.trans gA
 have hb3n:st.next.toNat<=b3.toNat:=by rw[Z4];exact g1.next
 obtain⟨Vs,s3,M,P⟩:=asy hc ht hg hy hr lt lg lr ly zt zg zy zr s2 g2.wf;obtain⟨vl,vo⟩:=P.cells;have w3:=P.ai.wf;have gB:=Grew.ah w3 (.cells Vs 0);have st5:∀(K:AV->St->Option (AV×St)),aq c (.store 5) [.ptr s3.next 0,.agg Vs] (ah s3 (.cells [.af,.af,.af,.af,.af] 0)) K=K .undef (ah s3 (.cells Vs 0)):=λK=>cE c K s3 5 (.agg Vs) _ vl rfl vo
 have x5:=aA s3 (.cells Vs 0);obtain⟨s4,hs4⟩:∃s4,s4=ah s3 (.cells Vs 0):=⟨_,rfl⟩
 obtain⟨b5,hb5⟩:∃b5,b5=s3.next:=⟨_,rfl⟩
 rw[<-hs4]at st5 gB x5;rw[<-hb5]at st5 x5;have P4:=P.KD gB;have mr:=alw (xg:=xg) (xy:=xy) (xr:=xr) ht;obtain⟨jb,s5,Us,p',N,kP,kQ,e5,P5,S,hN,JDd,h5,hjb⟩:=aqa hc P4 (yO xt xg xy xr) (anF xt xg xy xr) (λr h=>(mr r h).1) (alx ht);have g5:=P5.ai;have x5':=g5.get x5;have aly:=(g2.trans P.ai).trans (gB.trans g5);have y3:=(P.ai.trans (gB.trans g5)).get h3;have alz:=g2.wf _ _ h3;have ahS:=aly.wf _ _ y3;have n24:s2.next.toNat<=s4.next.toNat:=Zb1 P.ai.next gB.next;have gF:=yM hw aly hb3n ahS (.cells Vs 0);have keep:∀(q:Pos)(b:AB),s2.next.toNat<=q.toNat->s5.heap.get q=some b->(bk s5 b3 (.cells Vs 0)).heap.get q=some b:=λq b hq hb=>by rw[aJ (λe=>by rw[<-e]at hq;omega)];exact hb
 have PU:=P5.rU hw ((g2.trans P.ai).trans gB) gF λq b hq hb=>keep q b (by omega) hb
 have PV:=P.rU hw g2 gF λq b hq hb=>keep q b hq ((gB.trans g5).get hb)
 have JDs:=JDd.mono hjb (s':=bk s5 b3 (.cells Vs 0)) λq b hq hb=>keep q b (by omega) hb
 obtain⟨j,jw,hj⟩:=JW.of JDs PU (S.uv (yO xt xg xy xr)) hN;have stF:∀(K:AV->St->Option (AV×St)),aq c (.store 5) [.ptr b3 0,.agg Vs] s5 K=K .undef (bk s5 b3 (.cells Vs 0)):=λK=>by
   (rw[cr c K s5 5 b3 0 (.agg Vs) _ y3 vl (by simp) vo];have:aX [AV.af,.af,.af,.af,.af] 0 (AV.agg Vs).cells=Vs:=by unfold aX;rw[show(AV.agg Vs).cells=Vs from rfl,vl];simp);rw[this]
 have hcut:cut Vs 0 5=some Vs:=cW vl;have ep:∀(K:AV->Option (AV×St)),fu (.bin .neq .ptr) [.ptr jb 0,.iR] K=K (.bool true):=λK=>dm K (λH n=>rfl)
 have nt:¬Plain (.tuple [.ptr jb 0,.agg Vs,.bool true]):=afE PV.inst;rw[<-uu]at ld4;have run:tI c 1 (.agg (jg zt zg zy zr xt xg xy xr)) st=some (.tuple [.ptr jb 0,.agg Vs,.bool true],bk s5 b3 (.cells Vs 0)):=by
   rw[SL];simp only[dy,show ∀l,AV.cells (.agg l)=l from λl=>rfl,ay,bS,ld4, <-uu, <-Z4,bR,M,bH, <-hs4, <-hb5,st5,Ho x5 vl,e5,iJ,Za4,Zb7,aQ,dI,AK,x5',aB,Za8,hcut,cO,ep,adC,adE,Zh2,RY,stF,aaU,bP]
 refine⟨Vs,bk s5 b3 (.cells Vs 0),jb,j,⟨p',N,kP,kQ⟩,st,?_,gF,PV,⟨jw,⟨GY.atQ S mr,?_⟩,S,?_⟩⟩
 . rw[OA hc 1 run];unfold tidy;rw[Za7 (λh=>nt h.1)]
 . show p'.cs.length=p'.gs.length\/p'.cs.length=0;rw[S.cs,S.gl];show(nZ xt xg xy).length=(n9 xt xg).length\/(nZ xt xg xy).length=0;unfold nZ;split
   . rw[LN];exact .inl rfl
   . exact .inr rfl
 . have h1:=anI (xg:=xg) (xy:=xy) (xr:=xr) ht;have h2:(N:Int)=aZ (mU xt xg xy xr).ts:=(by rw[hN];exact S.sum);have h3:p'.gs.length=(mU xt xg xy xr).gs.length:=S.gl;show p'.gs.length<=N;omega
variable{c : aj}
theorem ae5{v w:Rl->Nat}:∀{l:List Rl},(∀r∈l,v r<=w r)->oC v l<=oC w l
 |[],_=>Za3 _
 |r::l,h=>by
  have ih:=ae5 (l:=l) λr hr=>h r (Za9 _ hr)
  have h1:=Zk5 r.wt.toNat (h r (Zd5));unfold oC;split<;>omega
theorem asz{J:Jt}{q q':List Int}{r:Rl}{m:Nat}(R:T4 J.p r m)(h:Ext J.n (qF q) (qF q')):lJ J q r<=lJ J q' r:=alc (J:=jT J) h _ (anv R)
theorem auS(J:Jt)(q:List Int)(r:Rl):lJ J q r<=fJ J q r:=least_le _
theorem atS(a b:Bool)(K:AV->St->Option (AV×St))(s:St):aq c (.bin .eql .bool) [.bool a,.bool b] s K=K (.bool (a==b)) s:=aU c K (λH n=>by cases a<;>cases b<;>rfl) s
theorem auT(hc:bw c)(s:St):c 14 [] s=some (.bool true,s):=hc.at (s:=YF) rfl rfl
end
end Go.Proofs.YtgihekklfnjkiaaGreatDoor
