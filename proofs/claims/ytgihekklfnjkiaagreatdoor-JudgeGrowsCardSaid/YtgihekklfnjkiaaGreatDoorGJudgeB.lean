/- What a judge tells. -/
import Derived.Test.YtgihekklfnjkiaaGreatDoorGJudgeA
import Derived.Test.YtgihekklfnjkiaaGreatDoorGMade
set_option linter.all false
set_option linter.unusedSectionVars false
set_option linter.deprecated false
namespace Go.Proofs.YtgihekklfnjkiaaGreatDoor
section
set_option maxRecDepth 100000
open Go Go.Ai Go.Proofs
variable{c : aj}
theorem apM(hc:bw c){n:Int}(h0:0<=n)(h1:n<4294967296)(s:St):c 191 [.int .u64 1,.int .u64 n] s=some (.tuple [.int .u64 0,.int .u64 n],s):=by
 rw[UJ hc 1 (r:=(.tuple [.int .u64 0,.int .u64 n],s)),aE (Plain.tuple (by simp[Plain.int])) (aW.refl s)];rw[YY];have w0:av .u64 0=0:=Ys (by omega) (by omega);have w1:av .u64 n=n:=Ys (by omega) (by omega);simp[aaO h0 h1,aaQ h0 h1,aaO (n:=1) (by omega) (by omega),aaQ (a:=1) (by omega) (by omega),aaO (n:=0) (by omega) (by omega),aaQ (a:=0) (by omega) (by omega),w0,w1]
theorem atC(hc:bw c){n:Int}(h0:0<=n)(h1:n<4294967296)(s:St):c 140 [.int .u64 1,.int .u64 n] s=some (.tuple [.int .u64 0,.int .u64 n],s):=by
 rw[YZ hc 1 (r:=(.tuple [.int .u64 0,.int .u64 n],s)),aE (Plain.tuple (by simp[Plain.int])) (aW.refl s)];rw[aco];simp[apM hc h0 h1]
theorem anl(N:Nat)(hN:N<=1000000)(b:Pos)(v:AV)(hv:v.one=true)(F:Nat):∀(m n f:Nat)(s:St),1<=n->n<=N->N - n<=m->m<f->s.heap.get b=some (.cells (List.replicate n v++List.replicate (N - n) (.int .i64 0)) 0)->
  ∀k2:Q2,jF c F k2 f [.slice b 0 N (some N) 1,.int .i64 (n:Int)] s=k2 [.slice b 0 N (some N) 1] (bg s b (.cells (List.replicate N v) 0)):=by
 intro m;induction m with
 |zero=>
  intro n f s h1 h2 h3 h4 h5 k2;obtain⟨f,rfl⟩:∃g,f=g+1:=⟨f - 1,by omega⟩
  obtain rfl:n=N:=by omega
  rw[kO];have e:bg s b (.cells (List.replicate n v) 0)=bg s b (.cells (List.replicate n v++List.replicate (n - n) (.int .i64 0)) 0):=by simp
  rw[e];have e2:bg s b (.cells (List.replicate n v++List.replicate (n - n) (.int .i64 0)) 0)=s:=acf h5;rw[e2];simp[kZ]
 |succ m ih=>
  intro n f s h1 h2 h3 h4 h5 k2;obtain⟨f,rfl⟩:∃g,f=g+1:=⟨f - 1,by omega⟩
  by_cases hn:n=N
  . subst hn;rw[kO];have e:bg s b (.cells (List.replicate n v) 0)=bg s b (.cells (List.replicate n v++List.replicate (n - n) (.int .i64 0)) 0):=(by simp);rw[e];have e2:bg s b (.cells (List.replicate n v++List.replicate (n - n) (.int .i64 0)) 0)=s:=acf h5;rw[e2];simp[kZ]
  . have aS:decide ((n:Int)<(N:Int))=true:=Za0 (by omega);have cp:=λ(K:AV->St->Option (AV×St))=>ahk (c:=c) (b:=b) (n:=n) (m:=N - n) (cp:=some (N - n)) (II:=some N) (by omega) (by omega) hv h5 K
    have w:av .i64 ((n:Int)+((min n (N - n):Nat):Int))=((n+min n (N - n):Nat):Int):=(by rw[wrap64 (by omega) (by omega)];omega);have ih2:=ih (n+min n (N - n)) f (bg s b (.cells (List.replicate (n+min n (N - n)) v++List.replicate (N - n - min n (N - n)) (.int .i64 0)) 0)) (by omega) (by omega) (by omega) (by omega) (by rw[bG,show N - (n+min n (N - n))=N - n - min n (N - n)by omega]) k2;rw[KC]at ih2;rw[<-ih2,kO];simp only[aH,bh,az,kZ,cY,aS,dG,dz,am8 h2,am9 h2,cp,ajP,w]
theorem anm(hc:bw c){N:Nat}(hN:N<=1000000){p:Pos}{v:AV}(hv:v.one=true)(s:St)(hw:Wf s)(hp:s.heap.get p=some (.cells [v] 0)):
   ∃s' gb,c 79 [.slice p 0 1 (some 1) 1,.int .i64 (N:Int)] s=some (.slice gb 0 N (some N) 1,s')/\Grew s s'/\s.next.toNat<=gb.toNat/\(N=0\/s'.heap.get gb=some (.cells (List.replicate N v) 0)):=by
 have g1:=Grew.ah hw (.cells (List.replicate N (.int .i64 0)) 0);have w1:av .u64 (N:Int)=(N:Int):=Ys (by omega) (by omega);have w2:av .i64 (N:Int)=(N:Int):=wrap64 (by omega) (by omega);have w3:av .u64 1=1:=Ys (by omega) (by omega);have d1:decide ((N:Int)<0)=false:=Za1 (by omega);have d2:decide ((9223372036854775807:Int)<(N:Int))=false:=Za1 (by omega);have mk:=λ(K:AV->St->Option (AV×St))=>KE c K s (es:=1) (bytes:=8) (z:=[.int .i64 0]) (k:= .i64) (k':= .i64) (n:=N) (by omega) (by omega)
 rw[sZ]at mk;have ki:=g1.get hp;have mu:=atC hc (n:=(N:Int)) (by omega) (by omega) s;by_cases h0:N=0
 . subst h0;have run:=xS hc (x0:= .slice p 0 1 (some 1) 1) (x1:= .int .i64 ((0:Nat):Int)) (s:=s) (F:=1) (r:=(.slice s.next 0 0 (some 0) 1,ah s (.cells [] 0))) (by
    rw[zI];simp only[az,cY,d1,cL,di,aH,bh,kZ,Lc,w1,show((1:Nat):Int)=1 from rfl,w3,cC,mu,bS,jM,Za5,Zc0,aV,oo,show decide ((0:Int)<0)=false from rfl,gU,d2,ja,w2,mk,List.replicate_zero,afo];rw[kO];simp[kZ])
   rw[run];obtain⟨s',h1,h2⟩:=amW (v:= .slice s.next 0 0 (some 0) 1) (Grew.ah hw (.cells [] 0)) hw;exact⟨s',s.next,by rw[h1],h2,Za3 _,.inl rfl⟩
 . have cp:=λ(K:AV->St->Option (AV×St))=>ahm (c:=c) (b:=s.next) (b2:=p) (v:=v) (z:= .int .i64 0) (m:=N) (cp:=some N) (II:=some 1) (by omega) hv (aA s _) ki K
   have lp:=anl (c:=c) N hN s.next v hv (N+1) N 1 (N+1) (bg (ah s (.cells (List.replicate N (.int .i64 0)) 0)) s.next (.cells (List.replicate 1 v++List.replicate (N - 1) (.int .i64 0)) 0)) (by omega) (by omega) (by omega) (by omega) (bG _ _ _);simp only[KC,Yp]at lp cp;simp only[show((1:Nat):Int)=1 from rfl]at lp;have run:=xS hc (x0:= .slice p 0 1 (some 1) 1) (x1:= .int .i64 (N:Int)) (s:=s) (F:=N+1) (r:=(.slice s.next 0 N (some N) 1,ah s (.cells (List.replicate N v) 0))) (by
    rw[zI];simp only[az,cY,d1,cL,di,aH,bh,kZ,Lc,w1,show((1:Nat):Int)=1 from rfl,w3,cC,mu,bS,jM,Za5,Zc0,aV,oo,show decide ((0:Int)<0)=false from rfl,gU,d2,ja,w2,mk,cp,lp])
   (rw[run];have np:¬(Plain (AV.slice s.next 0 N (some N) 1)):=λh=>aaS h0 h);refine⟨ah s (.cells (List.replicate N v) 0),s.next,?_,Grew.ah hw _,Za3 _,.inr (aA _ _)⟩;unfold tidy;rw[Za7 (λh=>np h.1)]
def Ni(N:Nat):List Int->Nat->List Int->Option (List Int)
 |[],_,g=>some g
 |x::q,i,g=>if x< -1\/(N:Int)<=x\/(0<=x/\0<=g.getD x.toNat (-1))then none else Ni N q (i+1) (if 0<=x then g.set x.toNat (i:Int)else g)
def zo(N:Nat)(q:List Int):Option (List Int):=Ni N q 0 (List.replicate N (-1))
theorem ahz{N:Nat}:∀{q:List Int}{i:Nat}{g g':List Int},Ni N q i g=some g'->(∀x∈q,-1<=x/\x<(N:Int))/\g'.length=g.length
 |[],i,g,g',h=>by cases h;exact⟨λx hx=>(nomatch hx),rfl⟩
 |x ::q,i,g,g',h=>by
  unfold Ni at h;by_cases hc:x< -1\/(N:Int)<=x\/(0<=x/\0<=g.getD x.toNat (-1))
  . rw[Zb3 hc]at h;cases h
  . rw[Za7 hc]at h;obtain⟨h1,h2⟩:=ahz h;refine⟨λy hy=> ?_,by rw[h2];split<;>simp⟩;rcases Zb0.1 hy with rfl|hy
    . omega
    . exact h1 y hy
theorem ann{N n:Nat}:∀{q:List Int}{i:Nat}{g g':List Int},Ni N q i g=some g'->i+q.length<=n->(∀x∈g,-1<=x/\x<(n:Int))->∀x∈g',-1<=x/\x<(n:Int)
 |[],i,g,g',h,_,hg=>by cases h;exact hg
 |x ::q,i,g,g',h,hn,hg=>by
  unfold Ni at h;simp only[Zc6]at hn;split at h
  . cases h
  . (refine ann h (by omega) λy hy=> ?_);split at hy
    .   rcases Zg8 hy with hy|rfl
        . exact hg y hy
        . omega
    .   exact hg y hy
structure LI(sA s:St)(vb gb jb:Pos)(P:AV)(N:Nat)(g:List Int):Prop where
 gr:Grew sA s
 vc:s.heap.get vb=some (.cells [.ptr jb 0,P,.slice gb 0 N (some N) 1] 0)
 gc:N=0\/s.heap.get gb=some (.cells (g.map (AV.int .i64)) 0)
 gl:g.length=N
section
variable{sA : St}{vb gb jb : Pos}{j : Jc}{J : Jt}{P : AV}{q : List Int}
theorem asg (jw:JW sA jb j J)(pq:QS 1 sA P (q.map bV))(jz:q.length<=1000000)(hN:J.N<=100000)(hg:sA.next.toNat<=gb.toNat)(hvg:0<J.N->vb≠gb)(w0:Wf sA)(F:Nat):∀(m k f:Nat)(s:St)(g:List Int),k+m=q.length->m<f->LI sA s vb gb jb P J.N g->
  (Ni J.N (q.drop k) k g=none/\∃s',Grew sA s'/\∀k1 k2:Q2,lY c F k1 k2 f [.ptr jb 0,.ptr vb 0,P,.int .i64 (q.length:Int),.int .i64 (k:Int)] s=k1 [.jg] s')\/
    ∃g' s',Ni J.N (q.drop k) k g=some g'/\LI sA s' vb gb jb P J.N g'/\∀k1 k2:Q2,lY c F k1 k2 f [.ptr jb 0,.ptr vb 0,P,.int .i64 (q.length:Int),.int .i64 (k:Int)] s=k2 [.ptr vb 0] s':=by
 intro m;induction m with
 |zero=>
  intro k f s g hk hf hL;obtain⟨f,rfl⟩:∃g,f=g+1:=⟨f - 1,by omega⟩
  obtain rfl:k=q.length:=by omega
  refine .inr ⟨g,s,by simp[Ni],hL,λk1 k2=> ?_⟩;rw[fZ];simp
 |succ m ih   =>
  intro k f s g hk hf hL;obtain⟨f,rfl⟩:∃g,f=g+1:=⟨f - 1,by omega⟩
  have jw1:=jw.ai hL.gr;have jc:=jw1.mA;have vc:=hL.vc;have fC:k<q.length:=by omega
  obtain⟨pb,po,p⟩:=qq (pq.ai hL.gr) (H0 fC);have p1:=λ{R}=>@p.st R
  have p3:=p.one;have wr:av .i64 ((k:Int)+1)=((k+1:Nat):Int):=wrap64 (by omega) (by omega);have ln:=λ(K:AV->St->Option (AV×St))=>jw1.tab.lenB (c:=c) K s
  rw[Za4,(Sf _ _).1]at ln;rw[Zd6 fC];generalize q[k]=x at*
  unfold Ni;by_cases h1:x< -1
  . rw[Zb3 (.inl h1)];refine .inl ⟨rfl,s,hL.gr,λk1 k2=> ?_⟩;have d1:decide (x< -1)=true:=Za0 h1;rw[fZ];simp[cL,fC,p1,p3,d1]
  . have d1   :decide (x< -1)=false:=Za1 h1;by_cases h2:(J.N:Int)<=x
    .   rw[Zb3 (.inr (.inl h2))];refine .inl ⟨rfl,s,hL.gr,λk1 k2=> ?_⟩;rw[fZ];simp[cL,fC,p1,p3,d1,jc,ln,h2]
    .   have d2:decide ((J.N:Int)<=x)=false:=Za1 h2;by_cases h3:0<=x
        . obtain⟨i,rfl⟩:∃i:Nat,x=(i:Int):=⟨x.toNat,by omega⟩
          have hi:i<J.N:=(by omega);have Lm:decide (J.N<=i)=false:=Za1 (by omega);have gc:s.heap.get gb=some (.cells (g.map (AV.int .i64)) 0):=by
            rcases hL.gc with h|h
            . omega
            . exact h
          have PR:i<g.length:=(by rw[hL.gl];exact hi);have eg:g.getD i (-1)=g[i]:=(by rw[Zb1,H0 PR];rfl);have ix:=λ(K:AV->St->Option (AV×St))(s1:St)=>fG c K s1 (b:=gb) (off:=0) (len:=J.N) (es:=1) (es':=1) (cap:=some J.N) (k:= .i64) (i:=i) hi
          have ec:(g.map (AV.int .i64))[i]? =some (.int .i64 g[i]):=(by rw[Zb7,H0 PR];rfl);rw[Zc7,eg,Zb3 h3];by_cases h4:0<=g[i]
          . rw[Zb3 (.inr (.inr ⟨h3,h4⟩))];refine .inl ⟨rfl,s,hL.gr,λk1 k2=> ?_⟩;rw[fZ];simp[cL,fC,p1,p3,d1,jc,ln,Lm,vc,ix,gc,PR,h4]
          . (rw[Za7 (by omega)];have d4:decide (0<=g[i])=false:=Za1 h4;have aS:=hL.gr.wf _ _ gc;have pt:=λ(K:AV->St->Option (AV×St))=>wU (c:=c) K gc (o:=i) (by rw[Za4];exact PR) (v:= .int .i64 (k:Int)) rfl rfl);have em:(g.map (AV.int .i64)).set i (.int .i64 (k:Int))=(g.set i (k:Int)).map (AV.int .i64):=(by rw[Zm9]);rw[em]at pt;have LI2:LI sA (bg s gb (.cells ((g.set i (k:Int)).map (AV.int .i64)) 0)) vb gb jb P J.N (g.set i (k:Int)):=by
              refine⟨qM w0 hL.gr hg aS _,by rw[aJ (λe=>hvg (by omega) e.symm)];exact vc,.inr (bG _ _ _),by rw[Zk6];exact hL.gl⟩
            rcases ih (k+1) f _ _ (by omega) (by omega) LI2 with⟨z1,s',z2,z3⟩|⟨g',s',z1,z2,z3⟩
            . refine .inl ⟨z1,s',z2,λk1 k2=> ?_⟩;rw[<-z3 k1 k2,fZ];simp[cL,fC,p1,p3,d1,jc,ln,Lm,vc,ix,gc,PR,d4,pt,wr]
            . refine .inr ⟨g',s',z1,z2,λk1 k2=> ?_⟩;rw[<-z3 k1 k2,fZ];simp[cL,fC,p1,p3,d1,jc,ln,Lm,vc,ix,gc,PR,d4,pt,wr]
        . rw[Za7 (by omega),Za7 h3];have d3:decide (0<=x)=false:=Za1 h3;rcases ih (k+1) f s g (by omega) (by omega) hL with⟨z1,s',z2,z3⟩|⟨g',s',z1,z2,z3⟩
          . refine .inl ⟨z1,s',z2,λk1 k2=> ?_⟩;rw[<-z3 k1 k2,fZ];simp[cL,fC,p1,p3,d1,jc,ln,d2,d3,wr]
          . refine .inr ⟨g',s',z1,z2,λk1 k2=> ?_⟩;rw[<-z3 k1 k2,fZ];simp[cL,fC,p1,p3,d1,jc,ln,d2,d3,wr]
theorem apN(hc:bw c){s:St}(jw:JW s jb j J):c 78 [.ptr jb 0] s=some (.bool false,s):=by
 have jc:=jw.mA;have e1:∀(K:AV->St->Option (AV×St))(s:St),aq c (.bin .eql .ptr) [.ptr jb 0,.jg] s K=K (.bool false) s:=λK s=>aR c K (λH n=>rfl) s
 have e2:∀(K:AV->St->Option (AV×St))(s:St),aq c (.bin .eql .map) [.map j.M,.qG] s K=K (.bool false) s:=λK s=>aR c K (λH n=>rfl) s
 rw[Sg hc 1 (r:=(.bool false,s)),aE (Plain.bool _) (aW.refl s)];rw[Y0];simp[e1,e2,jc]
theorem ash(hc:bw c)(jw:JW sA jb j J)(w0:Wf sA)(pq:QS 1 sA P (q.map bV))(jz:q.length<=1000000):
   ((q.length≠J.n\/zo J.N q=none)/\c 37 [.ptr jb 0,P] sA=some (.jg,sA))\/
     ∃g vb G s',q.length=J.n/\zo J.N q=some g/\c 37 [.ptr jb 0,P] sA=some (.ptr vb 0,s')/\Grew sA s'/\Vw s' vb jb j J P G q g:=by
 have jc:=jw.mA;have nn:=apN hc jw;have lp:=λ(K:AV->St->Option (AV×St))(s:St)=>pq.lenB (c:=c) K s
 rw[Za4]at lp;obtain⟨s0',r1',r2',_,_,gsq⟩:=jw.ps;have lg:=λ(K:AV->St->Option (AV×St))(s:St)=>gsq.out.own.lenB (c:=c) K s
 rw[gsq.len]at lg;have en:J.p.gs.length=J.n:=rfl;by_cases hl:q.length=J.n
 . have hN  :J.N<=100000:=(by have:=jw.nN;have:=jw.xR.ts;have:=(pH J.p.ts).2;omega);have dl:decide ((q.length:Int)=(J.p.gs.length:Int))=true:=Za0 (by omega);have lt:=λ(K:AV->St->Option (AV×St))(s:St)=>jw.tab.lenB (c:=c) K s
   rw[Za4,(Sf _ _).1]at lt;have g1:=Grew.ah w0 (.cells [AV.int .i64 (-1)] 0);obtain⟨s2,gb,e1,e2,e3,e4⟩:=anm hc (N:=J.N) (by omega) (v:= .int .i64 (-1)) rfl _ g1.wf (aA sA (.cells [.int .i64 (-1)] 0));have g12:=g1.trans e2;have w2:=e2.wf;have g3:=Grew.ah w2 (.cells [.ptr jb 0,P,.slice gb 0 J.N (some J.N) 1] 0);have g13:=g12.trans g3;have bl:∀(K:AV->St->Option (AV×St))(s:St),aq c (.build [.jg,.af,.af] [(0,1),(1,1),(2,1)]) [.ptr jb 0,P,.slice gb 0 J.N (some J.N) 1] s K=K (.agg [.ptr jb 0,P,.slice gb 0 J.N (some J.N) 1]) s:=λK s=>
     dU c K s _ _ _ _ (by rcases pq with⟨rfl,_⟩|⟨b,off,cap,cs,rfl,_⟩|⟨b,off,rfl,_⟩<;>rfl)
   have r1:=λ(K:AV->St->Option (AV×St))=>FJ (c:=c) (z:=[.int .i64 0]) (x:= .int .i64 (-1)) rfl rfl sA K
   have hvg:0<J.N->s2.next≠gb:=λh e=>by
     rcases e4 with e4|e4
     .  omega
     .  have:=w2 _ _ e4;rw[e]at this;omega
   have LI0:LI sA (ah s2 (.cells [.ptr jb 0,P,.slice gb 0 J.N (some J.N) 1] 0)) s2.next gb jb P J.N (List.replicate J.N (-1)):=by
     refine⟨g13,aA _ _,?_,by simp⟩;rcases e4 with e4|e4
     .  exact .inl e4
     .  right;rw[Zq2];exact g3.get e4
   have e3':sA.next.toNat<=gb.toNat:=Zb2 g1.next e3;rcases asg (c:=c) jw pq jz hN e3' hvg w0 (q.length+1) q.length 0 (q.length+1) _ _ (by omega) (by omega) LI0 with⟨z1,s',z2,z3⟩|⟨g,s',z1,z2,z3⟩
   . rw[Ze6]at z1;refine .inl ⟨.inr z1,?_⟩;rw[xe hc (q.length+1) (r:=(.jg,s')),aE Plain.jg z2.keeps];simp only[show((0:Nat):Int)=0 from rfl]at z3;rw[zW];simp only[az,cC,nn,bS,gU,lp,bW,aO,Zb6,aU,jc,Jc.c1,aB,Za8,aV,lg,Ph,dl,Zk3,ja,di,r1,g1.get jc,Jc.c6,lt,e1,bl,dm,show ∀l,AV.cells (.agg l)=l from λl=>rfl,z3,aH,bh]
   . rw[  Ze6]at z1;have ok:=ahz z1;refine .inr ⟨g,s2.next,.slice gb 0 J.N (some J.N) 1,s',hl,z1,?_,z2.gr,⟨jw.ai z2.gr,z2.vc,z2.gr.wf,pq.ai z2.gr,?_,hl,z2.gl,ok.1,ann (n:=J.n) z1 (by omega) λx hx=>by have:=List.eq_of_mem_replicate hx;omega⟩⟩
     .  rw[xe hc (q.length+1) (r:=(.ptr s2.next 0,s'))]
        . unfold tidy;rw[Za7 (λh=>TM _ _ h.1)]
        . simp only[show((0:Nat):Int)=0 from rfl]at z3;rw[zW];simp only[az,cC,nn,bS,gU,lp,bW,aO,Zb6,aU,jc,Jc.c1,aB,Za8,aV,lg,Ph,dl,Zk3,ja,di,r1,g1.get jc,Jc.c6,lt,e1,bl,dm,show ∀l,AV.cells (.agg l)=l from λl=>rfl,z3,aH,bh]
     .  rcases Zn4 J.N with h0|h0
        . have:g=[]:=Zc4 (by rw[z2.gl,h0]);rw[h0,this];exact .inr (.inr ⟨gb,0,rfl,rfl⟩)
        . rcases z2.gc with h|h
          . omega
          . refine .inr (.inl ⟨gb,0,some J.N,_,by rw[Za4,z2.gl],h,by simp,?_,.inr (by rw[Za4,z2.gl])⟩);rw[FL,af5];simp only[Ze6,Za4,Zk4];exact Zf7 (by simp)
 . refine .inl ⟨.inl hl,?_⟩;have dl:decide ((q.length:Int)=(J.p.gs.length:Int))=false:=Za1 (by omega);rw[xe hc 1 (r:=(.jg,sA)),aE Plain.jg (aW.refl sA)];rw[zW];simp only[az,cC,nn,bS,gU,lp,bW,aO,Zb6,aU,jc,Jc.c1,aB,Za8,aV,lg,Ph,dl,Zl6,ja,dG]
end
def FI(s0:St)(nb:Pos)(s:St)(l:List Ev):Prop:=Grew s0 s/\s.heap.get nb=some (.cells [.int .i64 ((kj l:Nat):Int)] 0)
theorem alh(hc:bw c){s:St}{nb:Pos}{n k:Nat}{W:AV}(hn:s.heap.get nb=some (.cells [.int .i64 (n:Int)] 0))(hB:n+k<=1000000):
  c 82 [.int .i64 (k:Int),W,.ptr nb 0] s=some (tidy s (.tuple [],bg s nb (.cells [.int .i64 ((n+k:Nat):Int)] 0))):=by
 have w:av .i64 ((n:Int)+(k:Int))=((n+k:Nat):Int):=by rw[wrap64 (by omega) (by omega)];omega
 have pt:=λ(K:AV->St->Option (AV×St))=>wU (c:=c) K hn (o:=0) (by simp) (v:= .int .i64 ((n+k:Nat):Int)) rfl rfl
 refine Oe hc 1 ?_;rw[Si];simp only[aU,hn,aB,Za8,Za5,aV,az,eV,w,pt];rfl
theorem ali(hc:bw c){s0:St}(w0:Wf s0){nb:Pos}(hnb:s0.next.toNat<=nb.toNat):kC c (.func 82 [] [.ptr nb 0]) s0 (FI s0 nb) (λ_ b=>b=nb) where
 ai h:=h.1
 grow h g:=⟨h.1.trans g,g.get h.2⟩
 mP _ _ h:=h
 mlt h e:=by subst e;exact h.1.wf _ _ h.2
 back {s s' l l'} h h' hk:=by
  have e1:=hk nb _ h.2;have e2:=h'.2;rw[e1]at e2;simp only[H5,AB.cells.injEq,Zg2,AV.int.injEq,Zs0,Zp1]at e2;exact⟨h.1,by rw[<-e2];exact h.2⟩
 call {s l k W who} h hW hB:=by
  have hn:=acn l;have f1:=alh hc (W:=W) (k:=k) h.2 (by omega);have aS:=h.1.wf _ _ h.2;have e:kj (l++[(k,who)])=kj l+k:=by rw[adB,ar1]
  unfold tidy at f1;split at f1
  . rename_i hk;refine⟨s,.tuple [],λK=>by rw[iU];simp only[Ze3,Zd9];rw[f1];rfl,⟨h.1,?_⟩,ia.refl h.1.wf⟩;have e1:=hk.2 nb _ h.2;rw[bG]at e1;rw[e,e1];exact h.2
  . refine⟨_,.tuple [],λK=>by rw[iU];simp only[Ze3,Zd9];rw[f1];rfl,⟨qM w0 h.1 hnb aS _,by rw[bG,e]⟩,Za3 _,jY h.1.wf aS,λb x hb hx=>⟨by rw[aJ (λe=>hb e.symm)];exact hx,hb⟩⟩
 one:=⟨rfl,rfl⟩
theorem ano{m:Nat}(h1:1<=m)(h2:m<=18):iu .i (.int .u8 (m:Int)) EO 0=some (some (m - 1,.agg (kd m).cells)):=by rcases Ca h1 h2 with rfl|rfl|rfl|rfl|rfl|rfl|rfl|rfl|rfl|rfl|rfl|rfl|rfl|rfl|rfl|rfl|rfl|rfl<;>rfl
theorem apO{R:Type}{h:T AB}{mp:Pos}(hm:h.get mp=some (.map EO 18)){m:Nat}(h1:1<=m)(h2:m<=18)(z:AV)(K:AV->Option R):jx (.lookup .i z false) [.map mp,.int .u8 (m:Int)] h (λ_=>true) K=K (.agg (kd m).cells):=by
 unfold jx;have e:aG.run (λ_=>none) .h (.lookup .i z false) [.map mp,.int .u8 (m:Int)]=none:=rfl;rw[e];simp only;have:aG.run (λb=>h.get b) .h (.lookup .i z false) [.map mp,.int .u8 (m:Int)]=some (.val (.agg (kd m).cells)):=by
  simp only[aG.run,lH,hm,ano h1 h2]
 rw[this]
section
variable{s : St}{vb jb : Pos}{j : Jc}{J : Jt}{P G : AV}{q g : List Int}
theorem Vw.rR(V:Vw s vb jb j J P G q g){i:Nat}{r:Rl}(hi:J.p.rs[i]? =some r):∃b o,Rd s 6 j.V5 i b o r.cells:=
 V.jw.jq.rd (λr hr=>by obtain⟨x,_,rfl⟩:=Zd0.1 hr;rfl) (by rw[Zb7,hi];rfl)
theorem aeN(hc:bw c)(V:Vw s vb jb j J P G q g)(eX:J.p.cs.length=J.n\/J.p.cs.length=0){i:Nat}{r:Rl}(hi:J.p.rs[i]? =some r){m:Nat}(R:TJ J.p r m):
  c 41 [.ptr vb 0,.int .i64 (i:Int)] s=some (.int .i64 ((kj (oJ J q g r):Nat):Int),s):=by
 have g1:=Grew.ah V.wf (.cells [.int .i64 0] 0);have H:=ali hc V.wf (Za3 s.next.toNat);have I1:FI s s.next (ah s (.cells [.int .i64 0] 0)) []:=⟨g1,aA _ _⟩
 obtain⟨f,s',e1,e2,e3⟩:=asf hc H V eX R I1;rw[Sj hc 1 (r:=(.int .i64 ((kj (oJ J q g r):Nat):Int),s')),aE (Plain.int _ _) e3.1.keeps];have V1:=V.ai g1;have bD:∀(K:AV->St->Option (AV×St)),aq c (.store 1) [.ptr s.next 0,.int .i64 0] (ah s (.cells [.int .i64 0] 0)) K=K .undef (ah s (.cells [.int .i64 0] 0)):=λK=>cw c K s 1 (.int .i64 0) [.int .i64 0] rfl rfl rfl
 rw[Wy];simp only[az,dh,bD];generalize ah s (.cells [.int .i64 0] 0)=s1 at*
 have vc:=V1.vc;have jc:=V1.jw.mA;obtain⟨rb,ro,h1⟩:=V1.rR hi;have r1:=λ{R}=>@h1.pr R
 have r2:=h1.at' 0 _ rfl;rw[Zf8,R.k]at r2;have r3:=h1.all;have kk:=λ(z:AV)(K:AV->Option (AV×St))=>apO V1.jw.kin R.m1 R.m2 z K
 have kf:(kd m).cells[7]? =some (.func f [] []):=by rw[<-e1];rfl
 simp only[dz,qC,br,Zb6,Zf8,kK,vc,jc,aB,Za8,Za5,Jc.c4,Jc.c5,aV,r1,r2,kk,amS,kf,Az,r3,eO,ZN,iU,Ze3,Ze0,Zd9,e2,bS,aU,e3.2,az]
def o9(q:List Int)(k:Nat):Nat:=Go.Ai.cnt k λg=> !on (qF q) g
def oP(J:Jt)(q:List Int)(k:Nat):Nat:=Go.Ai.cnt k λg=> !on (qF q) g&&zn J g
def Wz(J:Jt)(q g:List Int)(r:Rl):Nat:=
 if r.k=9 then kj (oJ J q g r) - oP J q q.length else if r.k=15 then kj (oJ J q g r) - o9 q q.length else if r.k=11 then(if 0<o9 q q.length then 0 else kj (oJ J q g r))else kj (oJ J q g r)
theorem apP(V:Vw s vb jb j J P G q g)(x1 x5:AV)(F:Nat):∀(m k f:Nat),k+m=q.length->m<f->∀k2:Q2,
  oQ c F k2 f [.ptr vb 0,x1,x5,.int .i64 ((o9 q k:Nat):Int),.int .i64 ((oP J q k:Nat):Int),P,.int .i64 (q.length:Int),.int .i64 (k:Int)] s=
    k2 [.ptr vb 0,x1,x5,.int .i64 ((o9 q q.length:Nat):Int),.int .i64 ((oP J q q.length:Nat):Int)] s:=by
 have vc:=V.vc;have jc:=V.jw.mA;intro m;induction m with
 |zero=>
  intro k f hk hf k2;obtain⟨f,rfl⟩:∃g,f=g+1:=⟨f - 1,by omega⟩
  obtain rfl:k=q.length:=by omega
  rw[Dd];simp
 |succ m ih=>
  intro k f hk hf k2;obtain⟨f,rfl⟩:∃g,f=g+1:=⟨f - 1,by omega⟩
  have fC:k<q.length:=by omega
  obtain⟨y,hy⟩:∃y,q[k]? =some y:=⟨_,H0 fC⟩
  obtain⟨pb,po,p⟩:=qq V.pq hy;have p1:=λ{R}=>@p.st R
  have p3:=p.one;have hN:=V.EP;have jz:=V.ql;have wr:av .i64 ((k:Int)+1)=((k+1:Nat):Int):=wrap64 (by omega) (by omega);have l1:o9 q k<=k:=Wi _ _;have l2:oP J q k<=k:=Wi _ _;have w1:av .i64 (((o9 q k:Nat):Int)+1)=((o9 q k+1:Nat):Int):=by rw[wrap64 (by omega) (by omega)];omega
  have w2:av .i64 (((oP J q k:Nat):Int)+1)=((oP J q k+1:Nat):Int):=by rw[wrap64 (by omega) (by omega)];omega
  have eo:on (qF q) k=decide (0<=y):=by unfold on;rw[jt hy]
  have s1:o9 q (k+1)=o9 q k+if !decide (0<=y)then 1 else 0:=by unfold o9;rw[RT,eo]
  have s2:oP J q (k+1)=oP J q k+if !decide (0<=y)&&zn J k then 1 else 0:=by unfold oP;rw[RT,eo]
  obtain⟨A,v,ab,ao,hA,h1⟩:=V.pN hy;have r1:=λ{R}=>@h1.st R
  have r2:=h1.at' 6 _ rfl;have eh:zn J k=A.host:=by unfold zn;rw[hA]
  rw[<-ih (k+1) f (by omega) (by omega) k2,Dd,s1,s2,eh];by_cases h0:0<=y
  . have d0:decide (y<0)=false:=Za1 (by omega);simp[cL,fC,p1,p3,d0,h0,wr]
  . have d0:decide (y<0)=true:=Za0 (by omega);generalize A.host=e at*
    cases e<;>simp[cL,fC,p1,p3,d0,h0,wr,w1,w2,vc,jc,r1,r2]
theorem apQ(hc:bw c)(V:Vw s vb jb j J P G q g)(eX:J.p.cs.length=J.n\/J.p.cs.length=0){i:Nat}{r:Rl}(hi:J.p.rs[i]? =some r){m:Nat}(R:TJ J.p r m)(hE:kj (oJ J q g r)<=1000000):
   c 71 [.ptr vb 0,.int .i64 (i:Int)] s=some (.int .i64 ((Wz J q g r:Nat):Int),s):=by
 have fa:=aeN hc V eX hi R;have vc:=V.vc;have jc:=V.jw.mA;have hN:=V.EP;have jz:=V.ql;obtain⟨rb,ro,h1⟩:=V.rR hi;have r1:=λ{R}=>@h1.st R
 have r2:=h1.at' 0 _ rfl;rw[Zf8,R.k]at r2;have ln:=λ(K:AV->St->Option (AV×St))=>V.pq.lenB (c:=c) K s
 rw[Za4]at ln;have lp:=λ(k2:Q2)=>apP (c:=c) V (.int .i64 (i:Int)) (.int .i64 ((kj (oJ J q g r):Nat):Int)) (q.length+1) q.length 0 (q.length+1) (by omega) (by omega) k2
 simp only[show o9 q 0=0 from rfl,show oP J q 0=0 from rfl,show((0:Nat):Int)=0 from rfl]at lp;have l1:o9 q q.length<=q.length:=Wi _ _;have l2:oP J q q.length<=q.length:=Wi _ _;have w1:av .i64 (((kj (oJ J q g r):Nat):Int) - ((oP J q q.length:Nat):Int))=((kj (oJ J q g r):Nat):Int) - ((oP J q q.length:Nat):Int):=wrap64 (by omega) (by omega);have w2:av .i64 (((kj (oJ J q g r):Nat):Int) - ((o9 q q.length:Nat):Int))=((kj (oJ J q g r):Nat):Int) - ((o9 q q.length:Nat):Int):=wrap64 (by omega) (by omega);have mx:∀n:Nat,max ((n:Nat):Int) 0=(n:Int):=λn=>by omega
 rw[UK hc (q.length+1) (r:=(.int .i64 ((Wz J q g r:Nat):Int),s)),aE (Plain.int _ _) (aW.refl s)];rw[Y3];unfold Wz;rw[R.k];generalize kj (oJ J q g r)=E at*
 by_cases k9:m=9
 . subst k9;have e:max (((E:Nat):Int) - ((oP J q q.length:Nat):Int)) 0=((E - oP J q q.length:Nat):Int):=(by omega);simp[cL,fa,vc,jc,ln,lp,r1,r2,w1,e]
 . have d9:decide ((m:Int)=9)=false:=Za1 (by omega);by_cases k15:m=15
   . subst k15;have e:max (((E:Nat):Int) - ((o9 q q.length:Nat):Int)) 0=((E - o9 q q.length:Nat):Int):=(by omega);simp[cL,fa,vc,jc,ln,lp,r1,r2,w2,e]
   . have d15:decide ((m:Int)=15)=false:=Za1 (by omega);by_cases k11:m=11
     .  subst k11;by_cases h0:0<o9 q q.length
        . simp[cL,fa,vc,jc,ln,lp,r1,r2,h0]
        . have d0:decide ((0:Int)<((o9 q q.length:Nat):Int))=false:=Za1 (by omega);simp[cL,fa,vc,jc,ln,lp,r1,r2,h0,d0,mx]
     .  have d11:decide ((m:Int)=11)=false:=Za1 (by omega);have e9:¬(m:Int)=9:=(by omega);have e15:¬(m:Int)=15:=(by omega);have e11:¬(m:Int)=11:=(by omega);rw[Za7 e9,Za7 e15,Za7 e11];simp[cL,fa,vc,jc,ln,lp,r1,r2,d9,d15,d11,mx]
end
end
section
set_option maxRecDepth 100000
open Go Go.Ai Go.Proofs
def gOf(J:Jt)(p:Nat->Int):List Int:=(zo J.N ((List.range J.n).map p)).getD []
def Nj(J:Jt)(r:Rl):RM:=match r.k.toNat with
 |1=> .two (rA J r) (rB J r) (aci J r)
 |2=> .two (rA J r) (rB J r) (ak6 J)
 |3=> .two (rA J r) (rB J r) (ak7 J)
 |4=> .two (rA J r) (rB J r) (af7 J r)
 |5=> .two (rA J r) (rB J r) (ak8 J)
 |6=> .one (rA J r) (atP J r)
 |7=> .one (rA J r) (af8 J r)
 |8=> .Nc (rj J r (aaW J))
 |9=> .fT (aa0 J r)
 |10=> .pN (adG J r)
 |11=> .spk λp=>Go.Ai.cnt J.n λa=>on p a&&adI J r (gOf J p) a (p a)
 |12=> .Nc (rj J r (Ll J))
 |13=> .Nc (R9 J r)
 |14=> .Nc (rj J r (Wu J))
 |15=> .PC (aa0 J r) r.n.toNat
 |16=> .EN (aa0 J r) r.n.toNat
 |17=> .pN (adH J r)
 |18=> .Nc (rj J r (aaX J))
 |_=> .pN λ_ _=>false
section
variable{J : Jt}{q g : List Int}{r : Rl}{m : Nat}
theorem anp(R:TJ J.p r m):(Nj J r).Fit J.n:=by
 have two:(kd m).a=103->(kd m).b=true->rA J r<J.n/\rB J r<J.n:=λha hb=>⟨Yx _ _ (R.a ha),Yx _ _ (R.b hb)⟩
 have one:(kd m).a=103->rA J r<J.n:=λha=>Yx _ _ (R.a ha)
 unfold Nj;rw[R.k,Zc7];rcases Ca R.m1 R.m2 with rfl|rfl|rfl|rfl|rfl|rfl|rfl|rfl|rfl|rfl|rfl|rfl|rfl|rfl|rfl|rfl|rfl|rfl
 . exact two rfl rfl
 . exact two rfl rfl
 . exact two rfl rfl
 . exact two rfl rfl
 . exact two rfl rfl
 . exact one rfl
 . exact one rfl
 . trivial
 . trivial
 . trivial
 . (intro q p h;have e:(List.range J.n).map q=(List.range J.n).map p:=Zj2 λa ha=>h a (Zh3.1 ha));have eg:gOf J q=gOf J p:=(by unfold gOf;rw[e]);(refine yG λa ha=> ?_);rw[eg,h a ha];unfold on;rw[h a ha]
 . trivial
 . trivial
 . trivial
 . trivial
 . trivial
 . trivial
 . trivial
theorem asi(jz:q.length=J.n):(List.range J.n).map (qF q)=q:=by
 apply Zh7;intro i;rw[Zb7];by_cases hi:i<J.n
 . rw[Zh6 hi,Ze5];have h2:i<q.length:=(by omega);rw[H0 h2,jt (H0 h2)]
 . rw[Zc1 (by simpa using hi),Zc1 (by omega)];rfl
theorem atD(jz:q.length=J.n)(hg:zo J.N q=some g):gOf J (qF q)=g:=by unfold gOf;rw[asi jz,hg];rfl
theorem alj(jz:q.length=J.n)(r:Rl)(D:List Int->List Ev):cF (GQ J q r D) J.p.ts.length 0=aaP (jT J) (qF q) (jT J).T (aa0 J r) D:=by
 have e:GQ J q r D=λt=>if aa0 J r t then D ((jT J).who (qF q) t)else []:=by funext t;unfold GQ Lo JT.who;rw[jz];rfl
 rw[e];rfl
theorem aa4(jz:q.length=J.n)(hg:zo J.N q=some g)(R:TJ J.p r m):kj (oJ J q g r)=(jT J).jd (qF q) (Nj J r):=by
 have hn:(jT J).n=q.length:=jz.symm;unfold oJ Nj;rw[R.k,Zc7];rcases Ca R.m1 R.m2 with rfl|rfl|rfl|rfl|rfl|rfl|rfl|rfl|rfl|rfl|rfl|rfl|rfl|rfl|rfl|rfl|rfl|rfl<;>simp only
 . exact PD _ _ _
 . exact PD _ _ _
 . exact PD _ _ _
 . exact PD _ _ _
 . exact PD _ _ _
 . exact ahl _ _
 . exact ahl _ _
 . rw[<-hn];exact PG _
 . rw[alj jz];exact ar3 _
 . rw[<-hn];exact adD _
 . rw[<-hn,adD];show Go.Ai.cnt _ _=Go.Ai.cnt _ _;rw[atD jz hg];rfl
 . rw[<-hn];exact PG _
 . rw[<-hn];exact PG _
 . rw[<-hn];exact PG _
 . rw[alj jz];exact ar4 _ _
 . rw[alj jz];exact ar5 _ _
 . rw[<-hn];exact adD _
 . rw[<-hn];exact PG _
theorem alk(jz:q.length=J.n)(hg:zo J.N q=some g)(R:TJ J.p r m):Wz J q g r=(jT J).least (qF q) (Nj J r):=by
 have e:=aa4 jz hg R;have l1:o9 q q.length=(jT J).left (qF q):=by unfold o9 JT.left;rw[jz];rfl
 have l2:oP J q q.length=(jT J).Nd (qF q):=by unfold oP JT.Nd;rw[jz];rfl
 unfold Wz;rw[e,l1,l2,R.k];unfold Nj;rw[R.k,Zc7];rcases Ca R.m1 R.m2 with rfl|rfl|rfl|rfl|rfl|rfl|rfl|rfl|rfl|rfl|rfl|rfl|rfl|rfl|rfl|rfl|rfl|rfl<;>first|rfl|simp[JT.least]
theorem apR(P:Nat->Nat->Int->Int->Bool)(n:Nat):fK (zU (qF q) n P)<=n*(3*n):=
 AA (λa=>Zb2 (Wt P a _ _) (Zk7 3 (by omega))) n 0
theorem ahA(hq:q.length<=100)(hn:J.n<=100)(hT:J.p.ts.length<=100)(R:TJ J.p r m)(jz:q.length=J.n):fK (oJ J q g r)<=200000:=by
 have two:∀a b P,fK (Dc (qF q) a b P)<=200000:=λa b P=>Zb2 (GJ _ _ _) (by simp)
 have one:∀a P,fK (Wk (qF q) a P)<=200000:=λa P=>Zb2 (GJ _ _ _) (by simp)
 have Nc:∀P,fK (zU (qF q) q.length P)<=200000:=λP=>by have h1:=apR (q:=q) P q.length;have h2:=Zq1 hq (Zk7 3 hq);omega
 have pN:∀P,fK (N4 (qF q) q.length P)<=200000:=λP=>by have h1:=AA (f:=λg=>yH (on (qF q) g&&P g (qF q g)) 1 [(g:Int)]) (B:=2) (λa=>Zb2 (GJ _ _ _) (by simp)) q.length 0;unfold N4;omega
 have tab:∀D:List Int->List Ev,(∀who:List Int,who.length<=J.n->fK (D who)<=2000)->fK (cF (GQ J q r D) J.p.ts.length 0)<=200000:=λD hD=>by
   have h1:=AA (f:=GQ J q r D) (B:=2000) (λt=>by
    unfold GQ;split
    . exact hD _ (by have:=Sa J q t q.length;omega)
    . exact Zi0 _) J.p.ts.length 0
   omega
 unfold oJ;rw[R.k,Zc7];rcases Ca R.m1 R.m2 with rfl|rfl|rfl|rfl|rfl|rfl|rfl|rfl|rfl|rfl|rfl|rfl|rfl|rfl|rfl|rfl|rfl|rfl<;>simp only
 . exact two _ _ _
 . exact two _ _ _
 . exact two _ _ _
 . exact two _ _ _
 . exact two _ _ _
 . exact one _ _
 . exact one _ _
 . exact Nc _
 . exact tab _ (ahw _ hn)
 . exact pN _
 . exact pN _
 . exact Nc _
 . exact Nc _
 . exact Nc _
 . exact tab _ (ahx _ (by have:=R.n (.inl rfl);omega) hn)
 . exact tab _ (ahy _ hn)
 . exact pN _
 . exact Nc _
end
variable{c : aj}
structure WA(J:Jt):Prop where
 rul:∀r∈J.p.rs,∃m,TJ J.p r m
 cls:J.p.cs.length=J.n\/J.p.cs.length=0
structure Cc(J:Jt)(q:List Int):Prop where
 len:q.length=J.n
 see:∃g,zo J.N q=some g
def fJ(J:Jt)(q:List Int)(r:Rl):Nat:=(jT J).jd (qF q) (Nj J r)
def lJ(J:Jt)(q:List Int)(r:Rl):Nat:=(jT J).least (qF q) (Nj J r)
section
variable{s : St}{vb jb : Pos}{j : Jc}{J : Jt}{P G : AV}{q g : List Int}
theorem arn(V:Vw s vb jb j J P G q g)(hg:zo J.N q=some g){r:Rl}{m:Nat}(R:TJ J.p r m):fJ J q r<=200000/\lJ J q r<=200000:=by
 have hN:=V.EP;have jz:=V.ql;have h1:=ahA (g:=g) (by omega) hN.2 V.jw.xR.ts R jz;have h2:=acn (oJ J q g r);have e:=aa4 jz hg R;have h3:lJ J q r<=fJ J q r:=least_le _;have h4:fJ J q r<=200000:=by unfold fJ;omega
 omega
theorem aj4(hc:bw c)(O:WA J)(V:Vw s vb jb j J P G q g)(hg:zo J.N q=some g){i:Nat}{r:Rl}(hi:J.p.rs[i]? =some r):c 41 [.ptr vb 0,.int .i64 (i:Int)] s=some (.int .i64 ((fJ J q r:Nat):Int),s):=by obtain⟨m,R⟩:=O.rul r (Zb9 hi);unfold fJ;rw[<-aa4 V.ql hg R];exact aeN hc V O.cls hi R
theorem anq(hc:bw c)(O:WA J)(V:Vw s vb jb j J P G q g)(hg:zo J.N q=some g){i:Nat}{r:Rl}(hi:J.p.rs[i]? =some r):c 71 [.ptr vb 0,.int .i64 (i:Int)] s=some (.int .i64 ((lJ J q r:Nat):Int),s):=by
 obtain⟨m,R⟩:=O.rul r (Zb9 hi);have hN:=V.EP;have jz:=V.ql;have h1:=ahA (g:=g) (by omega) hN.2 V.jw.xR.ts R jz;have h2:=acn (oJ J q g r);unfold lJ;rw[<-alk V.ql hg R];exact apQ hc V O.cls hi R (by omega)
theorem look_ok(hc:bw c)(jw:JW s jb j J)(w0:Wf s)(pq:QS 1 s P (q.map bV))(hq:Cc J q):
   ∃g vb G s',zo J.N q=some g/\c 37 [.ptr jb 0,P] s=some (.ptr vb 0,s')/\Grew s s'/\Vw s' vb jb j J P G q g:=by
 obtain⟨g,hg⟩:=hq.see;have hn:J.n<=100:=jw.xR.gs;rcases ash hc jw w0 pq (by have:=hq.len;omega)with⟨h,_⟩|⟨g',vb,G,s',h1,h2,h3,h4,h5⟩
 . rcases h with h|h
   . exact absurd hq.len h
   . rw[hg]at h;cases h
 . exact⟨g',vb,G,s',h2,h3,h4,h5⟩
theorem ahB(a:Pos)(o:Nat)(K:AV->St->Option (AV×St))(s:St):aq c (.bin .eql .ptr) [.ptr a o,.jg] s K=K (.bool false) s:=aR c K (λH n=>rfl) s
theorem aeO(hc:bw c)(O:WA J)(jw:JW s jb j J)(w0:Wf s)(pq:QS 1 s P (q.map bV))(hq:Cc J q){i:Nat}{r:Rl}(hi:J.p.rs[i]? =some r):
  c 12 [.ptr jb 0,P,.int .i64 (i:Int)] s=some (.int .i64 ((fJ J q r:Nat):Int),s):=by
 obtain⟨g,vb,G,s',hg,lk,gr,V⟩:=look_ok hc jw w0 pq hq;have f:=aj4 hc O V hg hi;have vc:=V.vc;have jc:=V.jw.mA;have ln:=λ(K:AV->St->Option (AV×St))=>V.jw.jq.lenB (c:=c) K s'
 rw[Za4]at ln;have gZ:=(Za2.1 hi).1;have d1:decide ((i:Int)<0)=false:=Za1 (by omega);have d2:decide ((J.p.rs.length:Int)<=(i:Int))=false:=Za1 (by omega);rw[PW hc 1 (r:=(.int .i64 ((fJ J q r:Nat):Int),s')),aE (Plain.int _ _) gr.keeps];rw[UL];simp only[az,cC,lk,bS,ahB,gU,cY,d1,ja,bW,aO,Zb6,aU,vc,jc,aB,Za8,Za5,Jc.c4,aV,ln,Yo,d2,di,f]
theorem apS(hc:bw c)(O:WA J)(jw:JW s jb j J)(w0:Wf s)(pq:QS 1 s P (q.map bV))(hq:Cc J q){i:Nat}{r:Rl}(hi:J.p.rs[i]? =some r):
  c 21 [.ptr jb 0,P,.int .i64 (i:Int)] s=some (.int .i64 ((lJ J q r:Nat):Int),s):=by
 obtain⟨g,vb,G,s',hg,lk,gr,V⟩:=look_ok hc jw w0 pq hq;have f:=anq hc O V hg hi;have vc:=V.vc;have jc:=V.jw.mA;have ln:=λ(K:AV->St->Option (AV×St))=>V.jw.jq.lenB (c:=c) K s'
 rw[Za4]at ln;have gZ:=(Za2.1 hi).1;have d1:decide ((i:Int)<0)=false:=Za1 (by omega);have d2:decide ((J.p.rs.length:Int)<=(i:Int))=false:=Za1 (by omega);rw[Sk hc 1 (r:=(.int .i64 ((lJ J q r:Nat):Int),s')),aE (Plain.int _ _) gr.keeps];rw[WE];simp only[az,cC,lk,bS,ahB,gU,cY,d1,ja,bW,aO,Zb6,aU,vc,jc,aB,Za8,Za5,Jc.c4,aV,ln,Yo,d2,di,f]
def iI(w:Rl->Nat):List Rl->Nat
 |[]=>0
 |r::l=>(if 0<r.wt then r.wt.toNat*w r else 0)+iI w l
theorem apT(w:Rl->Nat)(l:List Rl)(r:Rl):iI w (l++[r])=iI w l+(if 0<r.wt then r.wt.toNat*w r else 0):=by
 induction l with
 |nil=>simp[iI]
 |cons a l ih=>rw[Zd9,iI,iI,ih];omega
theorem asj{w:Rl->Nat}{l:List Rl}(h:∀r∈l,r.wt<=1000/\w r<=200000):iI w l<=l.length*200000000:=by
 induction l with
 |nil=>simp[iI]
 |cons a l ih=>
  have h1:=h a (Zd2);have h2:=ih λr hr=>h r (Za9 _ hr)
  rw[iI,Zc6,Zg4];split
  . have:=Zq1 (show a.wt.toNat<=1000 by omega) h1.2;omega
  . omega
theorem apU{w:Rl->Nat}{l:List Rl}(h:∀r∈l,r.wt<=1000/\w r<=200000)(hl:l.length<=100):iI w l<=20000000000:=by
 have h1:=asj h;generalize iI w l=T at*
 generalize l.length=n at*
 omega
theorem apV{i:Nat}{r:Rl}(V:Vw s vb jb j J P G q g)(hi:J.p.rs[i]? =some r):∃b o,Rd s 6 j.V5 i b o r.cells/\(∀(K:AV->St->Option (AV×St)),aq c (.store 6) [.ptr s.next 0,.agg r.cells] (ah s (.cells [.int .u8 0,.int .i64 0,.str [],.str [],.str [],.int .i64 0] 0)) K=K .undef (ah s (.cells r.cells 0))):=by
 obtain⟨b,o,h⟩:=V.rR hi;exact⟨b,o,h,λK=>cw c K s 6 (.agg r.cells) [.int .u8 0,.int .i64 0,.str [],.str [],.str [],.int .i64 0] rfl rfl r.one⟩
theorem atE(O:WA J){f0:FuncId}{w:Rl->Nat}(hw:∀r∈J.p.rs,w r<=200000)(cV:∀{s':St},Vw s' vb jb j J P G q g->∀{i:Nat}{r:Rl},J.p.rs[i]? =some r->c f0 [.ptr vb 0,.int .i64 (i:Int)] s'=some (.int .i64 ((w r:Nat):Int),s'))(F:Nat):
  ∀ (m k f:Nat)(s:St),k+m=J.p.rs.length->m<f->Vw s vb jb j J P G q g->∃s',Grew s s'/\
    ∀k2:Q2,pP c F k2 f [.func f0 [] [],.ptr vb 0,.int .i64 ((iI w (J.p.rs.take k):Nat):Int),j.V5,.int .i64 (J.p.rs.length:Int),.int .i64 (k:Int)] s=k2 [.int .i64 ((iI w J.p.rs:Nat):Int)] s':=by
 intro m;induction m with
 |zero=>
  intro k f s hk hf V;obtain⟨f,rfl⟩:∃g,f=g+1:=⟨f - 1,by omega⟩
  obtain rfl:k=J.p.rs.length:=by omega
  refine⟨s,Grew.refl V.wf,λk2=> ?_⟩;rw[ES,Zk1];simp
 |succ m ih=>
  intro k f s hk hf V;obtain⟨f,rfl⟩:∃g,f=g+1:=⟨f - 1,by omega⟩
  have fC:k<J.p.rs.length:=by omega
  have hi:=H0 fC;have yx:=Zb8 fC;have hrs:=V.jw.xR.rs;generalize hr0:J.p.rs[k]=r at*
  obtain⟨m',R⟩:=O.rul r yx;obtain⟨b,o,h1,st6⟩:=apV (c:=c) V hi;have r1:=λ{R}=>@h1.st R
  have r2:=h1.all;have gN:=Grew.ah V.wf (.cells r.cells 0);have V1:=V.ai gN;have hx:=aA s (.cells r.cells 0);have cl:=cV V1 hi;have aS:decide ((k:Int)<(J.p.rs.length:Int))=true:=Za0 (by omega);have wr:av .i64 ((k:Int)+1)=((k+1:Nat):Int):=by rw[wrap64 (by omega) (by omega)];omega
  have et:J.p.rs.take (k+1)=J.p.rs.take k++[r]:=by rw[Zd4 fC,hr0]
  have hle:iI w (J.p.rs.take k)<=20000000000:=apU (l:=J.p.rs.take k) (λr' nR=>by
        have hm:=Zp2 nR;obtain⟨_,R'⟩:=O.rul r' hm;exact⟨R'.w.2,hw r' hm⟩) (by rw[Zi4];omega)
  have hwt:((r.wt.toNat:Nat):Int)=r.wt:=Int.toNat_of_nonneg R.w.1;have hwt2:r.wt.toNat<=1000:=by have:=R.w.2;omega
  obtain⟨s',z1,z2⟩:=ih (k+1) f _ (by omega) (by omega) V1;refine⟨s',gN.trans z1,λk2=> ?_⟩;rw[<-z2 k2,ES,et,apT w (J.p.rs.take k) r];generalize iI w (J.p.rs.take k)=T at*
  have hwr:=hw r yx;generalize w r=W at*
  by_cases hp:0<r.wt
  . have d1:decide (0<r.wt)=true:=Za0 hp;have hmul:=Zq1 hwt2 hwr;have e1:r.wt*(W:Int)=((r.wt.toNat*W:Nat):Int):=(by rw[Int.natCast_mul,hwt]);have w1:av .i64 (r.wt*(W:Int))=((r.wt.toNat*W:Nat):Int):=(by rw[e1];exact wrap64 (by omega) (by omega));have w2:av .i64 ((T:Int)+((r.wt.toNat*W:Nat):Int))=((T+r.wt.toNat*W:Nat):Int):=(by rw[wrap64 (by omega) (by omega)];omega);have k3:=λ(K:AV->Option (AV×St))=>B7 K (p:=s.next) (o:=1) (h:=(ah s (.cells r.cells 0)).heap) (h2:=(ah s (.cells r.cells 0)).heap) (v:= .int .i64 r.wt) (by rw[hx];rfl) (by rw[hx];rfl) (by simp[ey,lM,fH,mK,dD])
    rw[Zb3 hp];simp only[aH,bh,cY,aS,dG,cL,az,r1,fj,r2,eO,dh,st6,aO,Zb6,aU,hx,aB,Za8,Rl.c1,aV,oo,d1,dz,iU,Ze3,Ze0,cl,bS,br,k3,arR,w1,ajP,w2,eV,wr]
  . have d1:decide (0<r.wt)=false:=Za1 hp;rw[Za7 hp];simp only[aH,bh,cY,aS,dG,di,cL,az,r1,fj,r2,eO,dh,st6,aO,Zb6,aU,hx,aB,Za8,Rl.c1,aV,oo,d1,eV,wr,Zf8]
theorem anr(hc:bw c)(O:WA J)(jw:JW s jb j J)(w0:Wf s)(pq:QS 1 s P (q.map bV))(hq:Cc J q){f0:FuncId}{w:Rl->Nat}(hw:∀{s':St}{vb:Pos}{G:AV}{g:List Int},Vw s' vb jb j J P G q g->zo J.N q=some g->∀r∈J.p.rs,w r<=200000)
  (cV:∀{s':St}{vb:Pos}{G:AV}{g:List Int},Vw s' vb jb j J P G q g->zo J.N q=some g->∀{i:Nat}{r:Rl},J.p.rs[i]? =some r->c f0 [.ptr vb 0,.int .i64 (i:Int)] s'=some (.int .i64 ((w r:Nat):Int),s')):
  c 72 [.ptr jb 0,P,.func f0 [] []] s=some (.int .i64 ((iI w J.p.rs:Nat):Int),s):=by
 obtain⟨g,vb,G,s',hg,lk,gr,V⟩:=look_ok hc jw w0 pq hq;have vc:=V.vc;have jc:=V.jw.mA;have ln:=λ(K:AV->St->Option (AV×St))=>V.jw.jq.lenB (c:=c) K s'
 rw[Za4]at ln;obtain⟨s2,z1,z2⟩:=atE (c:=c) O (hw V hg) (λ{s'} V {i r} hi=>cV V hg hi) (J.p.rs.length+1) J.p.rs.length 0 (J.p.rs.length+1) s' (by omega) (by omega) V;simp only[Zp8,show iI w []=0 from rfl,show((0:Nat):Int)=0 from rfl]at z2;rw[WG hc (J.p.rs.length+1) (r:=(.int .i64 ((iI w J.p.rs:Nat):Int),s2)),aE (Plain.int _ _) (gr.trans z1).keeps];rw[aa5];simp only[az,cC,lk,bS,ahB,di,bW,aO,Zb6,aU,vc,jc,aB,Za8,Za5,Jc.c4,aV,ln,z2,aH,bh]
theorem adL(hc:bw c)(O:WA J)(jw:JW s jb j J)(w0:Wf s)(pq:QS 1 s P (q.map bV))(hq:Cc J q):c 23 [.ptr jb 0,P] s=some (.int .i64 ((iI (fJ J q) J.p.rs:Nat):Int),s):=by
 have h:=anr hc O jw w0 pq hq (f0:=41) (w:=fJ J q) (λ{s' vb G g} V hg r hr=>by obtain⟨m,R⟩:=O.rul r hr;exact(arn V hg R).1) (λ{s' vb G g} V hg {i r} hi=>aj4 hc O V hg hi);rw[UM hc 1 (r:=(.int .i64 ((iI (fJ J q) J.p.rs:Nat):Int),s)),aE (Plain.int _ _) (aW.refl s)];rw[Y4];simp[h]
theorem aa6(hc:bw c)(O:WA J)(jw:JW s jb j J)(w0:Wf s)(pq:QS 1 s P (q.map bV))(hq:Cc J q):c 22 [.ptr jb 0,P] s=some (.int .i64 ((iI (lJ J q) J.p.rs:Nat):Int),s):=by
 have h:=anr hc O jw w0 pq hq (f0:=71) (w:=lJ J q) (λ{s' vb G g} V hg r hr=>by obtain⟨m,R⟩:=O.rul r hr;exact(arn V hg R).2) (λ{s' vb G g} V hg {i r} hi=>anq hc O V hg hi);rw[Sl hc 1 (r:=(.int .i64 ((iI (lJ J q) J.p.rs:Nat):Int),s)),aE (Plain.int _ _) (aW.refl s)];rw[WH];simp[h]
end
variable{c : aj}
section
variable{s : St}{vb jb : Pos}{j : Jc}{J : Jt}{P G : AV}{q g : List Int}
end
variable{c : aj}
def ru(x:Int)(n:Nat):Nat:=(x % (n:Int)).toNat
theorem aa7(x:Int){n:Nat}(h:0<n):ru x n<n:=by have h1:=Zr8 x (show(n:Int)≠0 by omega);have h2:=Zq3 x (show(0:Int)<(n:Int)by omega);unfold ru;omega
theorem adM(hc:bw c)(x:Int){n:Nat}(h:0<n)(hn:n<=1000000)(s:St):c 24 [.int .i64 x,.int .i64 (n:Int)] s=some (.int .i64 ((ru x n:Nat):Int),s):=by
 have h1:=Zr8 x (show(n:Int)≠0 by omega);have h2:=Zq3 x (show(0:Int)<(n:Int)by omega);have e:((ru x n:Nat):Int)=x % (n:Int):=by unfold ru;omega
 have rm:=λ(K:AV->St->Option (AV×St))(s:St)=>adz c K s .num .i64 x (n:Int) (by omega)
 have t:=Int.tmod_eq_emod (a:=x) (b:=(n:Int));rw[UN hc 1 (r:=(.int .i64 ((ru x n:Nat):Int),s)),aE (Plain.int _ _) (aW.refl s)];rw[Y5,e];by_cases hd:0<=x\/(n:Int) ∣ x
 . rw[Zb3 hd]at t;have t:x.tmod (n:Int)=x % (n:Int):=(by rw[t];exact Int.sub_zero _);have d:decide (x % (n:Int)<0)=false:=Za1 (by omega);simp[-gV,rm,t,cL,d]
 . rw[Za7 hd]at t;have t:x.tmod (n:Int)=x % (n:Int) - (n:Int):=(by rw[t,Int.natAbs_natCast]);have d:decide (x % (n:Int) - (n:Int)<0)=true:=Za0 (by omega);have w:av .i64 (x % (n:Int))=x % (n:Int):=wrap64 (by omega) (by omega);simp[-gV,rm,t,cL,d,w]
abbrev nM(tk:List Bool):List AV:=tk.map AV.bool
theorem apW{tb:Pos}{tk:List Bool}(hl:tk.length<=1000000){fr:Nat}(hf:fr<=1000000){s:St}(ht:s.heap.get tb=some (.cells (nM tk) 0))(F:Nat):∀(m k f:Nat),k+m=tk.length->m<f->∀k1 k2:Q2,
  lZ c F k1 k2 f [.slice tb 0 tk.length (some tk.length) 1,.int .i64 (fr:Int),.int .i64 (k:Int)] s=
    match lf tk fr m k with
    |some i=>k1 [.int .i64 (i:Int)] (bg s tb (.cells (nM (tk.set i true)) 0))
    |none=>k2 [] s:=by
 intro m;induction m with
 |zero=>
  intro k f hk hf k1 k2;obtain⟨f,rfl⟩:∃g,f=g+1:=⟨f - 1,by omega⟩
  obtain rfl:k=tk.length:=by omega
  rw[rW];simp[kZ,lf]
 |succ m ih=>
  intro k f hk hf k1 k2;obtain⟨f,rfl⟩:∃g,f=g+1:=⟨f - 1,by omega⟩
  have fC:k<tk.length:=by omega
  have aS:decide ((k:Int)<(tk.length:Int))=true:=Za0 (by omega);have w1:av .i64 ((fr:Int)+(k:Int))=((fr+k:Nat):Int):=by rw[wrap64 (by omega) (by omega)];omega
  have wr:av .i64 ((k:Int)+1)=((k+1:Nat):Int):=by rw[wrap64 (by omega) (by omega)];omega
  have hi:(fr+k) % tk.length<tk.length:=Zk0 _ (by omega);have rm:∀(K:AV->St->Option (AV×St))(s:St),aq c (.bin .rem .num) [.int .i64 ((fr+k:Nat):Int),.int .i64 (tk.length:Int)] s K=K (.int .i64 (((fr+k) % tk.length:Nat):Int)) s:=λK s=>by
    rw[cO (by omega) (by omega),Zn0]
  generalize hm:(fr+k) % tk.length=i at*
  have ix:=λ(K:AV->St->Option (AV×St))(s1:St)=>fG c K s1 (b:=tb) (off:=0) (len:=tk.length) (es:=1) (es':=1) (cap:=some tk.length) (k:= .i64) (i:=i) hi
  simp only[Zb6,Zk4]at ix;have ec:(nM tk)[i]? =some (.bool tk[i]):=by rw[Zb7,H0 hi];rfl
  have eg:tk.getD i true=tk[i]:=by rw[Zb1,H0 hi];rfl
  unfold lf;rw[hm,eg];cases hb:tk[i]
  . (rw[hb]at ec;have pt:=λ(K:AV->St->Option (AV×St))=>wU (c:=c) K ht (o:=i) (by rw[Za4];exact hi) (v:= .bool true) rfl rfl);rw[show(nM tk).set i (.bool true)=nM (tk.set i true)from(Zm9).symm]at pt;rw[Zb3 rfl,rW];simp only[aH,bh,az,kZ,cY,aS,dG,eV,w1,rm,ix,aU,ht,aB,Za8,ec,aV,FE,Zl6,pt]
  . rw[hb]at ec;rw[Za7 (by simp), <-ih (k+1) f (by omega) (by omega) k1 k2,rW];simp only[aH,bh,az,kZ,cY,aS,dG,di,eV,w1,rm,ix,aU,ht,aB,Za8,ec,aV,FE,Zk3,wr]
theorem ans{a b:List Bool}(h:nM a=nM b):a=b:=by
 induction a generalizing b with
 |nil=>cases b with|nil=>rfl|cons y b=>simp at h
 |cons x a ih=>
  cases b with
  |nil=>simp at h
  |cons y b=>
   simp only[Zd5,Zg2,AV.bool.injEq]at h;rw[h.1,ih h.2]
theorem aeP(hc:bw c){tb:Pos}{tk:List Bool}(hl:tk.length<=1000000){fr:Nat}(hf:fr<=1000000){s:St}(ht:s.heap.get tb=some (.cells (nM tk) 0)):
  c 36 [.slice tb 0 tk.length (some tk.length) 1,.int .i64 (fr:Int)] s=some (.int .i64 (mO tk fr).2,bg s tb (.cells (nM (mO tk fr).1) 0)):=by
 have lp:=λ(k1 k2:Q2)=>apW (c:=c) hl hf ht (tk.length+1) tk.length 0 (tk.length+1) (by omega) (by omega) k1 k2
 simp only[show((0:Nat):Int)=0 from rfl]at lp;unfold mO;cases sO:lf tk fr tk.length 0 with
 |none=>
  simp only[sO]at lp ⊢;rw[acf ht];rw[AE hc (tk.length+1) (r:=(.int .i64 (-1),s)),aE (Plain.int _ _) (aW.refl s)];rw[De];simp[lp]
 |some i=>
  simp only[sO]at lp ⊢;have hb:=Bf sO;have ne:tk.set i true≠tk:=λe=>by have h2:(tk.set i true)[i]? =some true:=(by rw[Ze2 (Za2.1 hb).1]);rw[e,hb]at h2;cases h2
  rw[AE hc (tk.length+1) (r:=(.int .i64 (i:Int),bg s tb (.cells (nM (tk.set i true)) 0))),ady ht (by rw[bG];intro e;simp only[H5,AB.cells.injEq,Zp1]at e;exact ne (ans e))];rw[De];simp[lp]
def ahC(p:cm):Prop:=∀t∈p.ts,nO t.sh t.a t.b=bI t/\(0<=t.a/\t.a<=1000000)/\0<=t.b/\t.b<=1000000
section
variable{st sB s : St}{Vs : List AV}{p : cm}
theorem PS.rT(h:PS st s Vs p):∃V1 V2 r1 r2,Vs[0]? =some V1/\Vs[1]? =some V2/\TS st s V1 p.ts r1/\GS st s V2 p.gs r2/\Vs.length=5:=by
 obtain⟨V1,V2,V3,V4,V5,r1,r2,rfl,h1,h2,_⟩:=h.all;exact⟨V1,V2,r1,r2,rfl,rfl,h1,h2,rfl⟩
theorem TS.Lf{V:AV}{ts:List aD}{rows:List (List AV)}(h:TS st s V ts rows){t:Nat}{T:aD}(ht:ts[t]? =some T):∃v b o,Rd s 7 V t b o (T.ax v):=by
 have hl:t<rows.length:=by rw[h.len];exact(Za2.1 ht).1
 obtain⟨v,e,_⟩:=h.dX t T rows[t] ht (H0 hl);obtain⟨b,o,h4⟩:=h.out.own.rd h.out.row (H0 hl);exact⟨v,b,o,by rw[<-e];exact h4⟩
theorem alm(hc:bw c)(hz:ahC p)(sU:p.ts.length<=100){pb:Pos}{V1:AV}{cs:List AV}{r1:List (List AV)}(hw:Wf s)(hp:s.heap.get pb=some (.cells cs 0))(h0:cs[0]? =some V1)(T:TS st s V1 p.ts r1)(F:Nat):∀(m k f:Nat),k+m=p.ts.length->m<f->∀k2:Q2,
  j5 c F k2 f [.ptr pb 0,.int .i64 (aZ (p.ts.take k)),.int .i64 (k:Int)] s=k2 [.int .i64 (aZ p.ts)] s:=by
 have ln:=λ(K:AV->St->Option (AV×St))=>T.out.own.lenB (c:=c) K s
 rw[T.len]at ln;intro m;induction m with
 |zero=>
  intro k f hk hf k2;obtain⟨f,rfl⟩:∃g,f=g+1:=⟨f - 1,by omega⟩
  obtain rfl:k=p.ts.length:=by omega
  rw[xT,Zk1];simp[hp,h0,ln]
 |succ m ih=>
  intro k f hk hf k2;obtain⟨f,rfl⟩:∃g,f=g+1:=⟨f - 1,by omega⟩
  have fC:k<p.ts.length:=by omega
  have hi:=H0 fC;obtain⟨v,b,o,h1⟩:=T.Lf hi;have z:=hz _ (Zb8 fC);have sz:=Wl p.ts[k];have sn:=Wn p.ts[k];have et:aZ (p.ts.take (k+1))=aZ (p.ts.take k)+bI p.ts[k]:=(Sn fC).1;generalize p.ts[k]=t at*
  have r1:=λ{R}=>@h1.st R
  have r2:=h1.all;have sl:=Lq hc (l:=t.ax v) (sh:=t.sh) (a:=t.a) (b:=t.b) rfl rfl rfl z.2.1 z.2.2 s hw;rw[z.1]at sl;have n1:=pH (p.ts.take k);rw[Zi4]at n1;have aS:decide ((k:Int)<(p.ts.length:Int))=true:=Za0 (by omega);have w1:av .i64 (aZ (p.ts.take k)+bI t)=aZ (p.ts.take k)+bI t:=wrap64 (by omega) (by omega);have wr:av .i64 ((k:Int)+1)=((k+1:Nat):Int):=by rw[wrap64 (by omega) (by omega)];omega
  rw[<-ih (k+1) f (by omega) (by omega) k2,xT,et];simp only[aH,bh,az,aO,Zb6,aU,hp,aB,Za8,h0,aV,ln,cY,aS,dG,r1,fj,r2,eO,cC,sl,bS,eV,w1,wr]
theorem acp(hc:bw c)(h:PS st s Vs p)(hz:ahC p)(sU:p.ts.length<=100):c 35 [.agg Vs] s=some (.int .i64 (aZ p.ts),s):=by
 have hw:=h.ai.wf;have gN:=Grew.ah hw (.cells Vs 0);obtain⟨V1,V2,r1,r2,e1,_,T,_,_⟩:=(h.RX gN).rT;have lp:=λ(k2:Q2)=>alm (c:=c) hc hz sU gN.wf (aA s (.cells Vs 0)) e1 T (p.ts.length+1) p.ts.length 0 (p.ts.length+1) (by omega) (by omega) k2
 simp only[Zp8,show aZ ([]:List aD)=0 from rfl,show((0:Nat):Int)=0 from rfl]at lp;rw[Lr hc (p.ts.length+1) (r:=(.int .i64 (aZ p.ts),ah s (.cells Vs 0))),aE (Plain.int _ _) gN.keeps];rw[Of];simp only[dm,show ∀l,AV.cells (.agg l)=l from λl=>rfl,az,lp,aH,bh]
def rJ(ch:Nat->Ch):Nat->Nat->List Ch
 |0,_=>[]
 |m+1,k=>ch k::rJ ch m (k+1)
structure PY(sB s:St)(tb:Pos)(tk:List Bool)(v:AV)(R:List Int):Prop where
 Nk:Mk 1 sB s v (R.map bV)
 tkn:s.heap.get tb=some (.cells (nM tk) 0)
 ge:sB.next.toNat<=tb.toNat
 ap:∀b,aL v=some b->tb.toNat+1<=b.toNat
theorem PY.set{tb:Pos}{tk oR:List Bool}{v:AV}{R:List Int}(h:PY sB s tb tk v R):PY sB (bg s tb (.cells (nM oR) 0)) tb oR v R:=by
 have aS:=h.Nk.ai.wf _ _ h.tkn;have g:=qM h.Nk.jN h.Nk.ai h.ge aS (.cells (nM oR) 0);exact⟨h.Nk.qY g λb x hb hx=>by rw[aJ (λe=>by have:=h.ap b hb;rw[<-e]at this;omega)];exact hx,bG _ _ _,h.ge,h.ap⟩
theorem PY.push{tb:Pos}{tk:List Bool}{v:AV}{R:List Int}(h:PY sB s tb tk v R)(hR:R.length<=1000)(x:Int):∃s5 v',(∀(K:AV->St->Option (AV×St)),aq c (.buildSlice 1 1 [.int .i64 0] [0]) [.int .i64 x] s (λy t=>aq c (.append 1 8) [v,y] t K)=K v' s5)/\PY sB s5 tb tk v' (R++[x]):=by have aS:=h.Nk.ai.wf _ _ h.tkn;obtain⟨s5,v5,a1,a2,a3,a4⟩:=h.Nk.push (R:=AV×St) (c:=c) (bytes:=8) (z:=[.int .i64 0]) (x:= .int .i64 x) rfl rfl rfl (by omega) (by rw[Za4];omega) (by rw[Za4];omega);refine⟨s5,v5,a1,⟨by rw[Zd3];exact a2,a3 tb _ (λe=>by have:=h.ap tb e;omega) h.tkn,h.ge,λb hb=> ?_⟩⟩;have:=a4 b hb;omega
theorem aeQ(N:Nat):List.replicate N (AV.bool false)=nM (List.replicate N false):=Zq2.symm
def Cd(N:Nat)(q xs:List Int)(g:Nat):Ch:=if 0<=qF q g then .Db (qF q g).toNat else .fr (match xs[g]? with|some x=>ru x N|none=>0)
def oK:List Bool->List Int->List Bool
 |tk,[]=>tk
 |tk,x::q=>oK (if 0<=x then tk.set x.toNat true else tk) q
theorem WJ:∀(q:List Int)(tk:List Bool),(oK tk q).length=tk.length
 |[],_=>rfl
 |x::q,tk=>by unfold oK;rw[WJ q];split<;>simp
theorem asl{tb:Pos}{q:List Int}{P:AV}(x2:AV){N:Nat}(hq:∀x∈q,x<(N:Int))(jz:q.length<=1000)(pq:QS 1 sB P (q.map bV))(hge:sB.next.toNat<=tb.toNat)(w0:Wf sB)(F:Nat):
  ∀ (m k f:Nat)(s:St)(tk:List Bool),k+m=q.length->m<f->Grew sB s->s.heap.get tb=some (.cells (nM tk) 0)->tk.length=N->∃s',Grew sB s'/\s'.heap.get tb=some (.cells (nM (oK tk (q.drop k))) 0)/\
    ∀k2:Q2,mU c F k2 f [P,x2,.int .i64 (N:Int),.slice tb 0 N (some N) 1,.int .i64 (k:Int)] s=k2 [P,x2,.int .i64 (N:Int),.slice tb 0 N (some N) 1] s':=by
 intro m;induction m with
 |zero=>
  intro k f s tk hk hf gr ht hl;obtain⟨f,rfl⟩:∃g,f=g+1:=⟨f - 1,by omega⟩
  obtain rfl:k=q.length:=by omega
  have ln:=λ(K:AV->St->Option (AV×St))=>(pq.ai gr).lenB (c:=c) K s
  rw[Za4]at ln;refine⟨s,gr,by simpa [oK]using ht,λk2=> ?_⟩;rw[tU];simp[ln]
 |succ m ih=>
  intro k f s tk hk hf gr ht hl;obtain⟨f,rfl⟩:∃g,f=g+1:=⟨f - 1,by omega⟩
  have fC:k<q.length:=by omega
  have ln:=λ(K:AV->St->Option (AV×St))=>(pq.ai gr).lenB (c:=c) K s
  rw[Za4]at ln;obtain⟨pb,po,p⟩:=qq (pq.ai gr) (H0 fC);have p1:=λ{R}=>@p.st R
  have p3:=p.one;have hxq:=hq _ (Zb8 fC);have wr:av .i64 ((k:Int)+1)=((k+1:Nat):Int):=by rw[wrap64 (by omega) (by omega)];omega
  rw[Zd6 fC,oK];generalize q[k]=x at*
  by_cases h0:0<=x
  . obtain⟨i,rfl⟩:∃i:Nat,x=(i:Int):=⟨x.toNat,by omega⟩
    have hi:i<N:=(by omega);have ix:=λ(K:AV->St->Option (AV×St))(s1:St)=>fG c K s1 (b:=tb) (off:=0) (len:=N) (es:=1) (es':=1) (cap:=some N) (k:= .i64) (i:=i) hi
    (simp only[Zb6,Zk4]at ix;have pt:=λ(K:AV->St->Option (AV×St))=>wU (c:=c) K ht (o:=i) (by rw[Za4];omega) (v:= .bool true) rfl rfl);rw[show(nM tk).set i (.bool true)=nM (tk.set i true)from(Zm9).symm]at pt;have aS:=gr.wf _ _ ht;obtain⟨s',z1,z2,z3⟩:=ih (k+1) f (bg s tb (.cells (nM (tk.set i true)) 0)) (tk.set i true) (by omega) (by omega) (qM w0 gr hge aS _) (bG _ _ _) (by simpa using hl);rw[Zb3 h0,Zc7];refine⟨s',z1,z2,λk2=> ?_⟩;rw[<-z3 k2,tU];simp[cL,ln,fC,p1,p3,ix,pt,wr]
  . have d0:decide (0<=x)=false:=Za1 h0;obtain⟨s',z1,z2,z3⟩:=ih (k+1) f s tk (by omega) (by omega) gr ht hl;rw[Za7 h0];refine⟨s',z1,z2,λk2=> ?_⟩;rw[<-z3 k2,tU];simp[cL,ln,fC,p1,p3,d0,wr]
theorem asm(hc:bw c){tb:Pos}{q:List Int}{P:AV}{N:Nat}(hN:N<=100000)(hN0:q.length≠0->0<N)(jz:q.length<=1000)(hqn:∀x∈q,-1<=x)(pq:QS 1 sB P (q.map bV))(z:Bool)(xs:List Int)(F:Nat):
  ∀ (m k f:Nat)(s:St)(tk:List Bool)(v:AV)(R:List Int),k+m=q.length->m<f->PY sB s tb tk v R->tk.length=N->R.length=k->∃s' v' oR,PY sB s' tb oR v' (R++dL tk (rJ (Cd N q xs) m k))/\
    ∀k4:Q2,mV c F k4 f [P,ints z xs,.int .i64 (N:Int),.slice tb 0 N (some N) 1,v,.int .i64 (k:Int)] s=k4 [v'] s':=by
 intro m;induction m with
 |zero=>
  intro k f s tk v R hk hf hS hl hR;obtain⟨f,rfl⟩:∃g,f=g+1:=⟨f - 1,by omega⟩
  obtain rfl:k=q.length:=by omega
  have ln:=λ(K:AV->St->Option (AV×St))=>(pq.ai hS.Nk.ai).lenB (c:=c) K s
  rw[Za4]at ln;refine⟨s,v,tk,by simpa [rJ,dL]using hS,λk4=> ?_⟩;rw[tV];simp[ln]
 |succ m ih=>
  intro k f s tk v R hk hf hS hl hR;obtain⟨f,rfl⟩:∃g,f=g+1:=⟨f - 1,by omega⟩
  have fC:k<q.length:=by omega
  have hN1:=hN0 (by omega);have pq1:=pq.ai hS.Nk.ai;have ln:=λ(K:AV->St->Option (AV×St))=>pq1.lenB (c:=c) K s
  rw[Za4]at ln;obtain⟨pb,po,p⟩:=qq pq1 (H0 fC);have p1:=λ{R}=>@p.st R
  have p3:=p.one;have hxn:=hqn _ (Zb8 fC);have eq:=jt (H0 fC);have wr:av .i64 ((k:Int)+1)=((k+1:Nat):Int):=by rw[wrap64 (by omega) (by omega)];omega
  have ech:Cd N q xs k=if 0<=q[k]then .Db (q[k]).toNat else .fr (match xs[k]? with|some x=>ru x N|none=>0):=by unfold Cd;rw[eq]
  generalize q[k]=x at*
  by_cases h0:0<=x
  . have d0:decide (x<0)=false:=Za1 (by omega);rw[Zb3 h0]at ech;obtain⟨s5,v5,a1,a2⟩:=hS.push (c:=c) (by omega) x;obtain⟨s',v',oR,z1,z2⟩:=ih (k+1) f s5 tk v5 (R++[x]) (by omega) (by omega) a2 hl (by simp[hR]);refine⟨s',v',oR,?_,λk4=> ?_⟩
    .   rw[rJ,ech,dL,show((x.toNat:Nat):Int)=x by omega];simpa using z1
    .   rw[<-z2 k4,tV];simp[-au,cL,ln,fC,p1,p3,d0,a1,wr]
  . have d0:decide (x<0)=true:=Za0 (by omega);rw[Za7 h0]at ech;generalize sO:(match xs[k]? with|some x=>ru x N|none=>0)=fr at*
    have hfr1:fr<=1000000:=by
        rw[<-sO];split
        . rename_i y _;have:=aa7 y (n:=N) (by omega);omega
        . omega
    have pl:=aeP hc (tk:=tk) (tb:=tb) (by omega) hfr1 hS.tkn;rw[hl]at pl;obtain⟨s6,v6,b1,b2⟩:=(hS.set (oR:=(mO tk fr).1)).push (c:=c) (by omega) (mO tk fr).2;obtain⟨s',v',oR,z1,z2⟩:=ih (k+1) f s6 _ v6 _ (by omega) (by omega) b2 (by rw[aeK];exact hl) (by simp[hR]);refine⟨s',v',oR,?_,λk4=> ?_⟩
    .   rw[rJ,ech,dL];simpa using z1
    .   rw[<-z2 k4,tV];by_cases xU:k<xs.length
        . rw[H0 xU]at sO;have pk:=adM hc xs[k] (n:=N) (by omega) (by omega) s;rw[show ru xs[k] N=fr from sO]at pk;have at':=So xs k xU;unfold ints at*
          simp[-au,cL,ln,fC,p1,p3,d0,xU,at',pk,pl,b1,wr]
        . rw[Zc1 (by omega)]at sO;have sO:0=fr:=sO;subst sO;simp only[show((0:Nat):Int)=0 from rfl]at pl;unfold ints at*
          simp[-au,cL,ln,fC,p1,p3,d0,xU,pl,b1,wr]
theorem asn(hc:bw c)(h:PS st s Vs p)(hz:ahC p)(sU:p.ts.length<=100){N:Nat}(hN:(N:Int)=aZ p.ts){q:List Int}{P:AV}(hN0:q.length≠0->0<N)(jz:q.length<=1000)(hq:∀x∈q,-1<=x/\x<(N:Int))(pq:QS 1 s P (q.map bV))(z:Bool)(xs:List Int):
  ∃s' v,c 20 [.agg Vs,P,ints z xs] s=some (v,s')/\Mk 1 s s' v ((dL (oK (List.replicate N false) q) (rJ (Cd N q xs) q.length 0)).map bV):=by
 have hw:=h.ai.wf;have gN:=Grew.ah hw (.cells Vs 0);have h1:=h.RX gN;obtain⟨V1,V2,r1,r2,e1,e2,T,T2,e5⟩:=h1.rT;have so:=acp hc h1 hz sU;rw[<-hN]at so;have hN1:N<=100000:=by have:=(pH p.ts).2;omega
 have hcut:cut Vs 0 5=some Vs:=cQ e5;have mk:=λ(K:AV->St->Option (AV×St))=>KE c K (ah s (.cells Vs 0)) (es:=1) (bytes:=1) (z:=[.bool false]) (k:= .i64) (k':= .i64) (n:=N) (by omega) (by omega)
 rw[sZ,aeQ]at mk;have gT:=Grew.ah gN.wf (.cells (nM (List.replicate N false)) 0);have pq1:=pq.ai gN;obtain⟨s2,y1,y2,y3⟩:=asl (c:=c) (sB:=ah s (.cells Vs 0)) (ints z xs) (λx hx=>(hq x hx).2) jz pq1 (Za3 _) gN.wf (q.length+1) q.length 0 (q.length+1) _ (List.replicate N false) (by omega) (by omega) gT (aA _ _) (by simp);rw[Ze6]at y2;have S0:PY (ah s (.cells Vs 0)) s2 (ah s (.cells Vs 0)).next (oK (List.replicate N false) q) .af []:=⟨Mk.start gN.wf y1,y2,Za3 _,λb e=>(nomatch e)⟩
 obtain⟨s',v',oR,z1,z2⟩:=asm (c:=c) hc hN1 hN0 jz (λx hx=>(hq x hx).1) pq1 z xs (q.length+1) q.length 0 (q.length+1) _ _ _ [] (by omega) (by omega) S0 (by rw[WJ];simp) rfl;have M:=z1.Nk.back hw gN;rw[Ze3]at M;obtain⟨s3,t1,t2⟩:=M.tidy;refine⟨s3,v',?_,t2⟩;simp only[show((0:Nat):Int)=0 from rfl]at z2 y3;rw[P0 hc (q.length+1) (r:=(v',s')),t1];rw[UO];simp only[dm,show ∀l,AV.cells (.agg l)=l from λl=>rfl,az,fj,aA,aB,Za8,hcut,eO,cC,so,bS,mk,y3,z2,aH,bh]
end
theorem P6(ch:Nat->Ch):∀(m k i:Nat),(rJ ch m k)[i]? =if i<m then some (ch (k+i))else none
 |0,k,i=>by simp[rJ]
 |m+1,k,0=>by simp[rJ]
 |m+1,k,i+1=>by
  rw[rJ,Zc0,P6 ch m (k+1) i];by_cases h:i<m
  . rw[Zb3 h,Zb3 (by omega)];congr 2;omega
  . rw[Za7 h,Za7 (by omega)]
theorem aj5(ch:Nat->Ch):∀(m k:Nat),(rJ ch m k).length=m
 |0,k=>rfl
 |m+1,k=>by rw[rJ,Zc6,aj5 ch m (k+1)]
theorem P7:∀(l:List Ch)(tk:List Bool)(i s:Nat),l[i]? =some (.Db s)->(dL tk l)[i]? =some (s:Int)
 |[],_,i,s,h=>by simp at h
 |c::l,tk,0,s,h=>by simp at h;subst h;simp[dL]
 |c::l,tk,i+1,s,h=>by
  have h:l[i]? =some (.Db s):=by simpa using h
  cases c with
  |no=>simpa [dL]using P7 l tk i s h
  |Db t=>simpa [dL]using P7 l tk i s h
  |fr f=>simpa [dL]using P7 l _ i s h
theorem ahD{N:Nat}:∀(q:List Int)(i:Nat)(g:List Int),(∀x∈q,-1<=x/\x<(N:Int))->(∀x∈q,0<=x->g.getD x.toNat (-1)<0)->(∀(a b:Nat)(x:Int),a<b->q[a]? =some x->q[b]? =some x->x<0)->∃g',Ni N q i g=some g'
 |[],i,g,_,_,_=>⟨g,rfl⟩
 |x ::q,i,g,h1,h2,h3=>by
  have a1:=h1 x (Zd2);have a2:=h2 x (Zd2);unfold Ni;rw[Za7 (by omega)];refine ahD q (i+1) _ (λy hy=>h1 y (Za9 _ hy)) (λy hy h0=> ?_) (λa b y WM ha hb=>h3 (a+1) (b+1) y (by omega) (by simpa using ha) (by simpa using hb));have b1:=h2 y (Za9 _ hy) h0;split
  . rename_i hx;by_cases e:x.toNat=y.toNat
    .   obtain⟨b,hb⟩:=Ze9.1 hy;have:=h3 0 (b+1) x (by omega) rfl (by rw[Zc0,hb];congr 1;omega);omega
    .   rw[Zb1,Zd7 e, <-Zb1];exact b1
  . exact b1
theorem ahE{J:Jt}{q:List Int}(hl:q.length=J.n)(h1:∀x∈q,-1<=x/\x<(J.N:Int))(h3:∀(a b:Nat)(x:Int),a<b->q[a]? =some x->q[b]? =some x->x<0):Cc J q:=
 ⟨hl,ahD q 0 _ h1 (λx hx h0=>by
  have:=h1 x hx;rw[Zb1];by_cases h:x.toNat<J.N
  . rw[Zi1,Zb3 h];decide
  . omega) h3⟩
theorem aso{J:Jt}{tk:List Bool}{l:List Ch}(hs:Sat tk l)(hl:l.length=J.n)(ht:tk.length=J.N):Cc J (dL tk l):=by
 refine ahE (by rw[RO];exact hl) (λx hx=> ?_) (λa b x WM ha hb=> ?_)
 . obtain⟨i,hi⟩:=Ze9.1 hx;rcases Cb l tk hs i x hi with rfl|⟨s,rfl,h|h⟩
   . omega
   . have:=(Za2.1 h).1;omega
   . have:=(Za2.1 h.1).1;omega
 . have:=Kj l tk hs a b x WM ha hb;omega
theorem Cc.ok{J:Jt}{q:List Int}(h:Cc J q):∀x∈q,-1<=x/\x<(J.N:Int):=by obtain⟨g,hg⟩:=h.see;exact(ahz hg).1
theorem aeR{N:Nat}:∀(q:List Int)(i:Nat)(g g':List Int),Ni N q i g=some g'->g.length=N->(∀x∈q,0<=x->g.getD x.toNat (-1)<0)/\∀(a b:Nat)(x:Int),a<b->q[a]? =some x->q[b]? =some x->x<0
 |[],i,g,g',_,_=>⟨λx hx=>(nomatch hx),λa b x _ ha _=>by simp at ha⟩
 |x ::q   ,i,g,g',h,hl=>by
  unfold Ni at h;by_cases hc:x< -1\/(N:Int)<=x\/(0<=x/\0<=g.getD x.toNat (-1))
  . rw[Zb3 hc]at h;cases h
  rw[Za7 hc]at h;obtain⟨h1,h2⟩:=aeR q (i+1) _ g' h (by split<;>simp[hl]);have key:∀y∈q,0<=y->g.getD y.toNat (-1)<0/\(0<=x->y≠x):=λy hy h0=>by
    have k1:=h1 y hy h0;by_cases hx:0<=x
    .   rw[Zb3 hx]at k1;by_cases e:x.toNat=y.toNat
        . rw[<-e,Zb1,Ze2 (by omega)]at k1;simp at k1;omega
        . rw[Zb1,Zd7 e, <-Zb1]at k1;exact⟨k1,λ_ h=>e (by rw[h])⟩
    .   rw[Za7 hx]at k1;exact⟨k1,λh=>absurd h hx⟩
  refine⟨λy hy h0=> ?_,λa b y WM ha hb=> ?_⟩
  . rcases Zb0.1 hy with rfl|hy
    .   omega
    .   exact(key y hy h0).1
  . cases a with
    |   zero=>
        obtain⟨b,rfl⟩:∃b',b=b'+1:=⟨b - 1,by omega⟩
        simp at ha hb;subst ha;by_cases h0:0<=x
        . exact absurd rfl ((key x (Zb9 hb) h0).2 h0)
        . omega
    |   succ a=>
        obtain⟨b,rfl⟩:∃b',b=b'+1:=⟨b - 1,by omega⟩
        exact h2 a b y (by omega) (by simpa using ha) (by simpa using hb)
theorem Cc.apart{J:Jt}{q:List Int}(h:Cc J q):∀(a b:Nat)(x:Int),a<b->q[a]? =some x->q[b]? =some x->x<0:=by obtain⟨g,hg⟩:=h.see;exact(aeR q 0 _ g hg (by simp)).2
theorem acq:∀(q:List Int)(tk:List Bool)(s:Nat),tk[s]? =some true->(oK tk q)[s]? =some true
 |[],_,_,h=>h
 |x ::q,tk,s,h=>by
  unfold oK;refine acq q _ s ?_;split
  . by_cases e:x.toNat=s
    . subst e;rw[Ze2 (Za2.1 h).1]
    . rw[Zd7 e];exact h
  . exact h
theorem aeS:∀(q:List Int)(tk:List Bool)(s:Nat),(s:Int)∈q->s<tk.length->(oK tk q)[s]? =some true
 |[],_,_,h,_=>(nomatch h)
 |x ::q,tk,s,h,hl=>by
  unfold oK;rcases Zb0.1 h with h|h
  . subst h;rw[Zb3 (by omega),Zc7];exact acq q _ s (Ze2 hl)
  . exact aeS q _ s h (by split<;>simpa using hl)
theorem WN:∀(tk:List Bool)(s:Nat),mo tk<=mo (tk.set s true)+1
 |[],s=>by simp[mo]
 |b::tk,0=>by unfold mo;cases b<;>simp[List.set]
 |b::tk,s+1=>by have:=WN tk s;unfold mo at this ⊢;cases b<;>simp[List.set]<;>omega
def adN(q:List Int):Nat:=(q.filter λx=>decide (0<=x)).length
theorem Sq:∀(q:List Int)(tk:List Bool),mo tk<=mo (oK tk q)+adN q
 |[],tk=>Za3 _
 |x ::q,tk=>by
  unfold oK adN;by_cases h:0<=x
  . rw[Zb3 h,List.filter_cons_of_pos (by simpa using h),Zc6];have h1:=Sq q (tk.set x.toNat true);have h2:=WN tk x.toNat;unfold adN at h1;omega
  . rw[Za7 h,List.filter_cons_of_neg (by simpa using h)];exact Sq q tk
theorem aeT(N:Nat)(q xs:List Int):∀(m k:Nat),k+m=q.length->looks (rJ (Cd N q xs) m k)+adN (q.drop k)=m
 |0,k,h=>by have:q.drop k=[]:=Zm0 (by omega);rw[this];rfl
 |m +1,k,h=>by
  have hk:k<q.length:=by omega
  have ih:=aeT N q xs m (k+1) (by omega);have eq:=jt (H0 hk);rw[Zd6 hk,rJ];unfold Cd adN;rw[eq];unfold adN at ih;by_cases h0:0<=q[k]
  . rw[Zb3 h0,List.filter_cons_of_pos (by simpa using h0),Zc6];show looks (rJ (Cd N q xs) m (k+1))+_=_;omega
  . rw[Za7 h0,List.filter_cons_of_neg (by simpa using h0)];show looks (rJ (Cd N q xs) m (k+1))+1+_=_;omega
theorem asq{J:Jt}{q:List Int}(h:Cc J q)(hr:J.n<=J.N)(xs:List Int):Cc J (dL (oK (List.replicate J.N false) q) (rJ (Cd J.N q xs) q.length 0))/\
   Ext J.n (qF q) (qF (dL (oK (List.replicate J.N false) q) (rJ (Cd J.N q xs) q.length 0)))/\(∀g,g<J.n->0<=qF (dL (oK (List.replicate J.N false) q) (rJ (Cd J.N q xs) q.length 0)) g):=by
 have hl:=h.len;have ml:(oK (List.replicate J.N false) q).length=J.N:=by rw[WJ];simp
 have apX:∀(i s:Nat),(rJ (Cd J.N q xs) q.length 0)[i]? =some (.Db s)->i<q.length/\q[i]? =some (s:Int):=λi s hi=>by
   rw[P6,Zb6]at hi;split at hi
   . rename_i aS;simp only[H5]at hi;unfold Cd at hi;have e:=jt (H0 aS);rw[e]at hi;split at hi
     .  rename_i h0;simp only[Ch.Db.injEq]at hi;refine⟨aS,?_⟩;rw[H0 aS];congr 1;omega
     .  cases hi
   . cases hi
 have sat:Sat (oK (List.replicate J.N false) q) (rJ (Cd J.N q xs) q.length 0):=by
   refine⟨λs hs=> ?_,λi j s hi hj=> ?_⟩
   . obtain⟨i,hi⟩:=Ze9.1 hs;obtain⟨h1,h2⟩:=apX i s hi;have:=h.ok _ (Zb9 h2);exact aeS q _ s (Zb9 h2) (by simp;omega)
   . obtain⟨_,h1⟩:=apX i s hi;obtain⟨_,h2⟩:=apX j s hj;rcases Zq5 i j with aS|aS|aS
     .  have:=h.apart i j _ aS h1 h2;omega
     .  exact aS
     .  have:=h.apart j i _ aS h2 h1;omega
 have lk:=aeT J.N q xs q.length 0 (by omega);rw[Ze6]at lk;have fm:=Sq q (List.replicate J.N false);have fr:mo (List.replicate J.N false)=J.N:=by unfold mo;simp
 rw[fr]at fm;refine⟨aso sat (by rw[aj5];exact hl) ml,λg hg h0=> ?_,λg hg=> ?_⟩
 . have Nl:g<q.length:=(by omega);have e:=jt (H0 Nl);rw[e]at h0 ⊢;refine(jt (P7 _ _ g (q[g]).toNat ?_)).trans (by omega);rw[P6,Zb3 Nl,Zb6];unfold Cd;rw[e,Zb3 h0]
 . have Nl:g<q.length:=(by omega);have e:=jt (H0 Nl);by_cases h0:0<=q[g]
   . have:(rJ (Cd J.N q xs) q.length 0)[g]? =some (.Db (q[g]).toNat):=by
        rw[P6,Zb3 Nl,Zb6];unfold Cd;rw[e,Zb3 h0]
     rw[jt (P7 _ _ g _ this)];omega
   . have:∃f,(rJ (Cd J.N q xs) q.length 0)[g]? =some (.fr f):=by
        rw[P6,Zb3 Nl,Zb6];unfold Cd;rw[e,Za7 h0];exact⟨_,rfl⟩
     obtain⟨f,hf⟩:=this;obtain⟨s,hs⟩:=Ng _ (oK (List.replicate J.N false) q) (by omega) g f hf;rw[jt hs];omega
variable{c : aj}
theorem acs(i:Nat):∀x∈bN i,x<256:=λx hx=>by simp only[bN,Zb0,Zc5,Zf2]at hx;omega
theorem aa8(p:Prop)[Decidable p](i:Nat):∀x∈(if p then bN i else []),x<256:=by
 split
 . exact acs i
 . intro x hx;cases hx
theorem apY(i x:Nat):(yK i x).Real where
 name:=acs _
 zX:=aa8 (x % 2=1) _
 kq:=aa8 (4<x % 8) _
 nH:=aa8 (x % 3=2) _
 tg:=Zb2 (aro x).2 (by decide)
theorem WO(i x:Nat):(ke i x).kA.length<=16:=by have h1:=ahF x (tN x);have h2:=acu x;show((Df x (tN x)).map λ(k:Nat)=>(k:Int)).length<=16;rw[Za4];omega
theorem yL(xt xg xy xr:List Nat):(oM xt xg xy xr).GK where
 ts:=by show(rX xt _).length<=100;rw[Sr];omega
 gs:=by have:=GV (uC xt xg);show(gh _).length<=100;omega
 ys:=by have:=(aeU (uC xt xg) xy).1;show(Dg _ _).length<=100;omega
 cs:=by
  have:=GV (uC xt xg);show(nX xt xg xy).length<=100;unfold nX;split
  . rw[Lt];show(gh _).length<=100;omega
  . exact Zi0 _
 rs:=by have:=Ss (nY xt) (nZ xt xg) xr (min xr.length 12);show(Bw _ _ _ _).length<=100;omega
 ok t ht:=by
  obtain⟨i,x,rfl⟩:=Su ht;have:=WO i x;exact⟨by show(fE i).length<wE;unfold fE wE;simp,by unfold wE;omega⟩
theorem anu(xt xg xy xr:List Nat):(oM xt xg xy xr).Real where
 ts:=by have:=(yL xt xg xy xr).ts;omega
 tab t ht:=by obtain⟨i,x,rfl⟩:=Su ht;have:=WO i x;refine⟨λy hy=> ?_,Zb2 this (by decide)⟩;have hy:y∈fE i:=hy;simp only[fE,Zb0,Zc5,Zf2]at hy;omega
 gs:=by have:=(yL xt xg xy xr).gs;omega
 pN g hg:=by obtain⟨i,hi⟩:=Ze9.1 hg;obtain⟨_,rfl⟩:=Nn (xs:=uC xt xg) hi;exact apY _ _
 ys:=Zb2 (yL xt xg xy xr).ys (by decide)
 cs:=Zb2 (yL xt xg xy xr).cs (by decide)
 rs:=Zb2 (yL xt xg xy xr).rs (by decide)
theorem atF(ts:List aD)(gs:List aT)(x:Nat):(ig ts gs x).1.k=((1+x % 18:Nat):Int):=by
 unfold ig Sv
 repeat' split
 all_goals rfl
theorem aln{xt xg xy xr:List Nat}(hx:∀x∈xt,x<256):∀r∈(oM xt xg xy xr).rs,r.Ok/\uq (oM xt xg xy xr) r=0:=λr hr=>by obtain⟨x,h1,rfl⟩:=aa9 hr;refine⟨?_,anv (p:=oM xt xg xy xr) aeV WQ WS (Og hx) x h1⟩;have:=atF (nY xt) (nZ xt xg) x;unfold Rl.Ok;omega
theorem anw{xt xg xy xr:List Nat}(hx:∀x∈xt,x<256):ahC (oM xt xg xy xr):=λt ht=>by
 have h1:=Og hx t ht;have h2:=ahG t ht;exact⟨h1.1.symm,h2.1,h2.2.1,h2.2.2⟩
theorem anx{xt xg xy xr:List Nat}(hx:∀x∈xt,x<256):((oM xt xg xy xr).gs.length:Int)<=aZ (oM xt xg xy xr).ts:=by show((gh (uC xt xg)).length:Int)<=aZ (rX xt (min xt.length 3));unfold gh;rw[Lu,WT hx _ (by omega)];unfold uC;rw[Zi4];omega
structure Jg(s:St)(jb:Pos)(j:Jc)(J:Jt)(p:cm):Prop where
 jw:JW s jb j J
 ok:WA J
 sim:p.gJ J.p
 fit:J.n<=J.N
theorem Jg.n{s:St}{jb:Pos}{j:Jc}{J:Jt}{p:cm}(h:Jg s jb j J p):J.n=p.gs.length:=h.sim.gl
theorem Jg.sum{s:St}{jb:Pos}{j:Jc}{J:Jt}{p:cm}(h:Jg s jb j J p):(J.N:Int)=aZ p.ts:=by rw[h.jw.nN];exact h.sim.sum
theorem Jg.ai{s s':St}{jb:Pos}{j:Jc}{J:Jt}{p:cm}(h:Jg s jb j J p)(g:Grew s s'):Jg s' jb j J p:=⟨h.jw.ai g,h.ok,h.sim,h.fit⟩
theorem aeW{R:Type}{s:St}{b:Pos}{Vs:List AV}(h:s.heap.get b=some (.cells Vs 0))(hl:Vs.length=5)(K:AV->St->Option R):aq c (.load (some 5)) [.ptr b 0] s K=K (.agg Vs) s:=by rw[fj,h];simp only[aB,Za8];rw[cQ hl];rfl
theorem GK.atG{p p':cm}(S:p.gJ p')(hr:∀r∈p.rs,r.Ok/\uq p r=0):∀r∈p'.rs,∃m,TJ p' r m:=λr h=>by
 rw[S.rs]at h;obtain⟨a,b⟩:=hr r h;exact atB a (by rw[S.rule];exact b)
theorem afu{b:Pos}{o:Nat}{l:List AV}{t:Bool}(hi:∀u∈l,dQ u):¬Plain (.tuple [.ptr b o,.agg l,.bool t]):=λh=>by
 obtain⟨N0,K0,h1⟩:=inst_list hi;obtain⟨xs,hx⟩:=h1 (max N0 (b.toNat+1)) K0 (by omega) (Za3 _);have e1:aC (λ_=>⟨0,0,K0⟩) (max N0 (b.toNat+1)) (λ_=>none) (.agg l) (.agg xs.toArray):= .agg l _ (by rw[hx.1];simp) λi v x hv wD=>hx.2 i v x hv (by simpa using wD)
 obtain⟨x0,e0⟩:∃x,aC (λ_=>⟨0,0,K0⟩) (max N0 (b.toNat+1)) (λ_=>none) (.ptr b o) x:=⟨_,.ptr b o (by omega)⟩
 obtain⟨x2,e2⟩:∃x,aC (λ_=>⟨0,0,K0⟩) (max N0 (b.toNat+1)) (λ_=>none) (.bool t) x:=⟨_,.bool t⟩
 have:=h _ (λ_=>⟨0,0,0⟩) _ 0 (λ_=>none) _ (.tuple _ #[x0,.agg xs.toArray,x2] rfl (λi v v' hv hx=>by
  match i with
  |0=>simp at hv hx;subst hv hx;exact e0
  |1=>simp at hv hx;subst hv hx;exact e1
  |2=>simp at hv hx;subst hv hx;exact e2
  |i+3=>simp at hv))
 cases this with
 |tuple _ _ _ h=>
  have:=h 0 _ x0 rfl rfl;cases this with
  |ptr _ _ h=>omega
theorem PS.inst{s0 s:St}{Vs:List AV}{p:cm}(h:PS s0 s Vs p):∀u∈Vs,dQ u:=λu hu=>by
 obtain⟨V1,V2,V3,V4,V5,r1,r2,rfl,h1,h2,h3,h4,h5⟩:=h.all;simp only[Zb0,Zc5,Zf2]at hu;rcases hu with rfl|rfl|rfl|rfl|rfl
 . exact h1.out.inst
 . exact h2.out.inst
 . exact h3.inst
 . exact h4.inst
 . exact h5.inst
theorem apZ(hc:bw c){xt xg xy xr:List Nat}(ht:∀x∈xt,x<256)(hg:∀x∈xg,x<65536)(hy:∀x∈xy,x<256)(hr:∀x∈xr,x<4294967296)(lt:xt.length<=9223372036854775807)(lg:xg.length<=9223372036854775807)(lr:xr.length<=9223372036854775807)(ly:xy.length<=9223372036854775807)
   (zt zg zy zr:Bool) (st:St) (hw:Wf st):∃Vs s' jb j J s0,c 9 [.agg (jG zt zg zy zr xt xg xy xr)] st=some (.tuple [.ptr jb 0,.agg Vs,.bool true],s')/\Grew st s'/\PS s0 s' Vs (oM xt xg xy xr)/\Jg s' jb j J (oM xt xg xy xr):=by
 have g1:=Grew.ah hw (.cells (jG zt zg zy zr xt xg xy xr) 0);have w1:=g1.wf;have gA:=Grew.ah w1 (.cells [.af,.af,.af,.af,.af] 0);have ld4:∀(K:AV->St->Option (AV×St)),aq c (.load (some 4)) [.ptr st.next 0] (ah (ah st (.cells (jG zt zg zy zr xt xg xy xr) 0)) (.cells [.af,.af,.af,.af,.af] 0)) K=K (.agg (jG zt zg zy zr xt xg xy xr)) (ah (ah st (.cells (jG zt zg zy zr xt xg xy xr) 0)) (.cells [.af,.af,.af,.af,.af] 0)):=λK=>by rw[fj,gA.get (aA st _)];rfl
 obtain⟨s2,rI⟩:∃s2,s2=ah (ah st (.cells (jG zt zg zy zr xt xg xy xr) 0)) (.cells [.af,.af,.af,.af,.af] 0):=⟨_,rfl⟩
 obtain⟨b3,hb3⟩:∃b3,b3=(ah st (.cells (jG zt zg zy zr xt xg xy xr) 0)).next:=⟨_,rfl⟩
 have h3:s2.heap.get b3=some (.cells [.af,.af,.af,.af,.af] 0):=by rw[rI,hb3];exact aA _ _
 have g2:Grew st s2:=by rw[rI];exact g1.trans gA
 have hb3n:st.next.toNat<=b3.toNat:=by rw[hb3];exact g1.next
 obtain⟨Vs,s3,M,P⟩:=asr hc ht hg hy hr lt lg lr ly zt zg zy zr s2 g2.wf;obtain⟨vl,vo⟩:=P.cells;have w3:=P.ai.wf;have gB:=Grew.ah w3 (.cells Vs 0);have st5:∀(K:AV->St->Option (AV×St)),aq c (.store 5) [.ptr s3.next 0,.agg Vs] (ah s3 (.cells [.af,.af,.af,.af,.af] 0)) K=K .undef (ah s3 (.cells Vs 0)):=λK=>cw c K s3 5 (.agg Vs) _ vl rfl vo
 have x5:=aA s3 (.cells Vs 0);obtain⟨s4,ZS⟩:∃s4,s4=ah s3 (.cells Vs 0):=⟨_,rfl⟩
 obtain⟨b5,hb5⟩:∃b5,b5=s3.next:=⟨_,rfl⟩
 rw[<-ZS]at st5 gB x5;rw[<-hb5]at st5 x5;have P4:=P.RX gB;have mr:=aln (xg:=xg) (xy:=xy) (xr:=xr) ht;obtain⟨jb,s5,Us,p',N,kQ,kR,e5,P5,S,hN,JDd,h5,hjb⟩:=ap0 hc P4 (yL xt xg xy xr) (anu xt xg xy xr) (λr h=>(mr r h).1) (alo ht);have g5:=P5.ai;have x5':=g5.get x5;have alp:=(g2.trans P.ai).trans (gB.trans g5);have y3:=(P.ai.trans (gB.trans g5)).get h3;have alq:=g2.wf _ _ h3;have ahH:=alp.wf _ _ y3;have n24:s2.next.toNat<=s4.next.toNat:=Zb2 P.ai.next gB.next;have gF:=qM hw alp hb3n ahH (.cells Vs 0);have keep:∀(q:Pos)(b:AB),s2.next.toNat<=q.toNat->s5.heap.get q=some b->(bg s5 b3 (.cells Vs 0)).heap.get q=some b:=λq b hq hb=>by rw[aJ (λe=>by rw[<-e]at hq;omega)];exact hb
 have PU:=P5.qZ hw ((g2.trans P.ai).trans gB) gF λq b hq hb=>keep q b (by omega) hb
 have PV:=P.qZ hw g2 gF λq b hq hb=>keep q b hq ((gB.trans g5).get hb)
 have JDs:=JDd.mono hjb (s':=bg s5 b3 (.cells Vs 0)) λq b hq hb=>keep q b (by omega) hb
 obtain⟨j,jw,hj⟩:=JW.of JDs PU (S.xR (yL xt xg xy xr)) hN;have stF:∀(K:AV->St->Option (AV×St)),aq c (.store 5) [.ptr b3 0,.agg Vs] s5 K=K .undef (bg s5 b3 (.cells Vs 0)):=λK=>by
   (rw[cg c K s5 5 b3 0 (.agg Vs) _ y3 vl (by simp) vo];have:aX [AV.af,.af,.af,.af,.af] 0 (AV.agg Vs).cells=Vs:=by unfold aX;rw[show(AV.agg Vs).cells=Vs from rfl,vl];simp);rw[this]
 have hcut:cut Vs 0 5=some Vs:=cQ vl;have ep:∀(K:AV->Option (AV×St)),fh (.bin .neq .ptr) [.ptr jb 0,.jg] K=K (.bool true):=λK=>cX K (λH n=>rfl)
 have nt:¬Plain (.tuple [.ptr jb 0,.agg Vs,.bool true]):=afu PV.inst;rw[<-rI]at ld4;have run:tq c 1 (.agg (jG zt zg zy zr xt xg xy xr)) st=some (.tuple [.ptr jb 0,.agg Vs,.bool true],bg s5 b3 (.cells Vs 0)):=by
   rw[Sw];simp only[dm,show ∀l,AV.cells (.agg l)=l from λl=>rfl,az,dh,ld4, <-rI, <-hb3,cC,M,bS, <-ZS, <-hb5,st5,aeW x5 vl,e5,jM,Za5,Zc0,aV,dz,Az,x5',aB,Za8,hcut,eO,ep,ads,adv,Zg1,RB,stF,aaK,bG]
 refine⟨Vs,bg s5 b3 (.cells Vs 0),jb,j,⟨p',N,kQ,kR⟩,st,?_,gF,PV,⟨jw,⟨GK.atG S mr,?_⟩,S,?_⟩⟩
 . rw[Oh hc 1 run];unfold tidy;rw[Za7 (λh=>nt h.1)]
 . show p'.cs.length=p'.gs.length\/p'.cs.length=0;rw[S.cs,S.gl];show(nX xt xg xy).length=(nZ xt xg).length\/(nX xt xg xy).length=0;unfold nX;split
   . rw[Lt];exact .inl rfl
   . exact .inr rfl
 . have h1:=anx (xg:=xg) (xy:=xy) (xr:=xr) ht;have h2:(N:Int)=aZ (oM xt xg xy xr).ts:=(by rw[hN];exact S.sum);have h3:p'.gs.length=(oM xt xg xy xr).gs.length:=S.gl;show p'.gs.length<=N;omega
variable{c : aj}
theorem WU{v w:Rl->Nat}:∀{l:List Rl},(∀r∈l,v r<=w r)->iI v l<=iI w l
 |[],_=>Za3 _
 |r::l,h=>by
  have ih:=WU (l:=l) λr hr=>h r (Za9 _ hr)
  have h1:=Zk7 r.wt.toNat (h r (Zd2));unfold iI;split<;>omega
theorem aj6{J:Jt}{q q':List Int}{r:Rl}{m:Nat}(R:TJ J.p r m)(h:Ext J.n (qF q) (qF q')):lJ J q r<=lJ J q' r:=ak3 (J:=jT J) h _ (anp R)
theorem arp(J:Jt)(q:List Int)(r:Rl):lJ J q r<=fJ J q r:=least_le _
theorem auH(hc:bw c)(s:St):c 14 [] s=some (.bool true,s):=hc.at (s:=Yr) rfl rfl
end
end Go.Proofs.YtgihekklfnjkiaaGreatDoor
