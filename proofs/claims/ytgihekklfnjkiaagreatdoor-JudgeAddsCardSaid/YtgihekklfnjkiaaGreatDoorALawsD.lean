/- Copies and lists. -/
import Derived.Test.YtgihekklfnjkiaaGreatDoorALawsB
set_option linter.all false
set_option maxRecDepth 100000
set_option maxHeartbeats 2000000
namespace Go.Proofs.YtgihekklfnjkiaaGreatDoor
section
open Go Go.Ai Go.Proofs
variable{c:aj}
def aC.dQ(t t':aC):Prop:=∃z,t'={ t with oz:=z }
def aS.dQ(g g':aS):Prop:=∃z,g'={ g with tz:=z }
theorem ajN{α:Type}(f:α->AV)(s:St)(d:Nat)(l:List α)(hf:∀a∈l,fE s d (f a)=f a):(l.map λa=>[f a]).map (λr=>r.map (fE s d))=l.map λa=>[f a]:=by
 rw[Zg3];refine Zi5 λa ha=> ?_
 simp only[Function.comp,Zd1,Zg9,hf a ha]
theorem Mi(s:St)(d:Nat)(k:IntKind)(i:Int):fE s d (.int k i)= .int k i:=by cases d<;>rfl
theorem RP(s:St)(d:Nat)(l:List Nat):fE s d (.str l)= .str l:=by cases d<;>rfl
theorem asn(s:St)(d:Nat)(b:Bool):fE s d (.bool b)= .bool b:=by cases d<;>rfl
theorem ajO{s0 s:St}{v:AV}{l:List Int}(h:Mk 1 s0 s v (l.map bH))(d:Nat):∃z,fE s (d+1) v=ints z l:=by
 obtain⟨z,hz⟩:=h.own.fE (d:=d) h.row;refine⟨z,?_⟩;rw[hz];unfold ints;rw[ajN (λi=>AV.int .i64 i) s d l λa _=>Mi s d _ _]
theorem aso{s0 s:St}{v:AV}{l:List (List Nat)}(h:Mk 1 s0 s v (l.map Uz))(d:Nat):∃z,fE s (d+1) v=lM z l:=by
 obtain⟨z,hz⟩:=h.own.fE (d:=d) h.row;refine⟨z,?_⟩;rw[hz];unfold lM;rw[ajN (λi=>AV.str i) s d l λa _=>RP s d _]
theorem auN{s0 s:St}{v:AV}{l:List Ty}(h:Mk 3 s0 s v (l.map Ty.cells))(d:Nat):∃z,fE s (d+1) v=gW z l:=by
 obtain⟨z,hz⟩:=h.own.fE (d:=d) h.row;refine⟨z,?_⟩;rw[hz];unfold gW;rw[Zg3];congr 1;refine Zi5 λa _=> ?_
 simp only[Function.comp,Ty.cells,Zd1,Zg9,RP,Mi]
theorem auO{s0 s:St}{v:AV}{l:List Rl}(h:Mk 6 s0 s v (l.map Rl.cells))(d:Nat):∃z,fE s (d+1) v=iG z l:=by
 obtain⟨z,hz⟩:=h.own.fE (d:=d) h.row;refine⟨z,?_⟩;rw[hz];unfold iG;rw[Zg3];congr 1;refine Zi5 λa _=> ?_
 simp only[Function.comp,Rl.cells,Zd1,Zg9,RP,Mi]
theorem acW{α:Type}(P:α->α->Prop)(cells:α->List AV)(g:List AV->List AV):∀(ts:List α)(rows:List (List AV)),rows.length=ts.length->(∀(i:Nat)(t:α)(r:List AV),ts[i]? =some t->rows[i]? =some r->∃t',P t t'/\g r=cells t')->
  ∃D0:List α,rows.map g=D0.map cells/\D0.length=ts.length/\∀(i:Nat)(t t':α),ts[i]? =some t->D0[i]? =some t'->P t t'
 |[],rows,hl,_=>⟨[],by rw[Zc4 hl];rfl,rfl,λi t t' h=>by simp at h⟩
 |t::ts,[],hl,_=>by simp at hl
 |t::ts,r::rows,hl,h=>by
  obtain⟨t',h1,h2⟩:=h 0 t r rfl rfl;obtain⟨D0,k1,k2,k3⟩:=acW P cells g ts rows (by simpa using hl) (λi t r h3 h4=>h (i+1) t r (by simpa using h3) (by simpa using h4));refine⟨t'::D0,by simp[h2,k1],by simp[k2],λi u u' h3 h4=> ?_⟩;cases i with
  |zero=>simp at h3 h4;subst h3;subst h4;exact h1
  |succ i=>exact k3 i u u' (by simpa using h3) (by simpa using h4)
theorem TS.fE{s0 s:St}{V:AV}{ts:List aC}{rows:List (List AV)}(h:TS s0 s V ts rows)(d:Nat):∃z D0,Go.Ai.fE s (d+2) V=tabs z D0/\D0.length=ts.length/\∀(i:Nat)(t t':aC),ts[i]? =some t->D0[i]? =some t'->t.dQ t':=by
 obtain⟨z,hz⟩:=h.out.own.fE (d:=d+1) h.out.row;obtain⟨D0,k1,k2,k3⟩:=acW aC.dQ aC.cells (λr=>r.map (Go.Ai.fE s (d+1))) ts rows h.len λi t r hi hr=>by
  obtain⟨v,rfl,hM,_⟩:=h.eI i t r hi hr;obtain⟨z2,hz2⟩:=ajO hM d;refine⟨{ t with oz:=z2 },⟨z2,rfl⟩,?_⟩;simp only[aC.ay,aC.cells,Zd1,Zg9,RP,Mi,hz2]
 refine⟨z,D0,?_,k2,k3⟩;rw[hz,k1];rfl
theorem GS.fE{s0 s:St}{V:AV}{ts:List aS}{rows:List (List AV)}(h:GS s0 s V ts rows)(d:Nat):∃z D0,Go.Ai.fE s (d+2) V=dL z D0/\D0.length=ts.length/\∀(i:Nat)(t t':aS),ts[i]? =some t->D0[i]? =some t'->t.dQ t':=by
 obtain⟨z,hz⟩:=h.out.own.fE (d:=d+1) h.out.row;obtain⟨D0,k1,k2,k3⟩:=acW aS.dQ aS.cells (λr=>r.map (Go.Ai.fE s (d+1))) ts rows h.len λi t r hi hr=>by
  obtain⟨v,rfl,hM,_⟩:=h.eI i t r hi hr;obtain⟨z2,hz2⟩:=aso hM d;refine⟨{ t with tz:=z2 },⟨z2,rfl⟩,?_⟩;simp only[aS.ay,aS.cells,Zd1,Zg9,RP,Mi,asn,hz2]
 refine⟨z,D0,?_,k2,k3⟩;rw[hz,k1];rfl
structure bE.dQ(p p':bE):Prop where
 tl:p'.ts.length=p.ts.length
 ts:∀(i:Nat)(t t':aC),p.ts[i]? =some t->p'.ts[i]? =some t'->t.dQ t'
 gl:p'.gs.length=p.gs.length
 gs:∀(i:Nat)(t t':aS),p.gs[i]? =some t->p'.gs[i]? =some t'->t.dQ t'
 ys:p'.ys=p.ys
 cs:p'.cs=p.cs
 rs:p'.rs=p.rs
theorem PS.fE{s0 s:St}{Vs:List AV}{p:bE}(h:PS s0 s Vs p)(d:Nat):∃p',Go.Ai.fE s (d+3) (.agg Vs)= .agg p'.cells/\p.dQ p':=by obtain⟨V1,V2,V3,V4,V5,r1,r2,rfl,h1,h2,h3,h4,h5⟩:=h.all;obtain⟨z1,D0,e1,l1,k1⟩:=h1.fE d;obtain⟨z2,gs',e2,l2,k2⟩:=h2.fE d;obtain⟨z3,e3⟩:=auN h3 (d+1);obtain⟨z4,e4⟩:=ajO h4 (d+1);obtain⟨z5,e5⟩:=auO h5 (d+1);refine⟨⟨z1,D0,z2,gs',z3,p.ys,z4,p.cs,z5,p.rs⟩,?_,⟨l1,k1,l2,k2,rfl,rfl,rfl⟩⟩;rw[aln];simp only[Zd1,Zg9,e1,e2,e3,e4,e5];rfl
theorem aah{α β:Type}{P:α->α->Prop}{l l':List α}(hl:l'.length=l.length)(hs:∀(i:Nat)(t t':α),l[i]? =some t->l'[i]? =some t'->P t t')(f:α->β)(hf:∀t t',P t t'->f t'=f t)(i:Nat):l'[i]?.map f=l[i]?.map f:=by
 by_cases h:i<l.length
 .have h':i<l'.length:=(by omega);rw[H0 h,H0 h'];simp only[Ze5,H5];exact hf _ _ (hs i _ _ (H0 h) (H0 h'))
 .rw[Zc0 (by omega),Zc0 (by omega)]
theorem asq{t t':aC}(h:t.dQ t'):sN t'=sN t:=by obtain⟨z,rfl⟩:=h;rfl
theorem alM{t t':aC}(h:t.dQ t'):bQ t'=bQ t:=by obtain⟨z,rfl⟩:=h;rfl
theorem apE{t t':aS}(h:t.dQ t'):j6 t'=j6 t:=by obtain⟨z,rfl⟩:=h;rfl
variable{p p':bE}
theorem bE.dQ.nm(h:p.dQ p')(s:List Nat):uZ p'.ts s=uZ p.ts s:=funext λi=>by
 unfold uZ;rw[aah h.tl h.ts aC.name (λt t' k=>by obtain⟨z,rfl⟩:=k;rfl)]
theorem bE.dQ.gm(h:p.dQ p')(s:List Nat):nM p'.gs s=nM p.gs s:=funext λi=>by
 unfold nM;rw[aah h.gl h.gs aS.name (λt t' k=>by obtain⟨z,rfl⟩:=k;rfl)]
theorem bE.dQ.at(h:p.dQ p'):∀(m k:Nat),iO p'.ts m k=iO p.ts m k
 |0,_=>rfl
 |m +1,k=>by
  have ih:=h.at m (k+1);unfold iO;by_cases hk:k<p.ts.length
  .have pX:k<p'.ts.length:=(by rw[h.tl];exact hk);have hs:=h.ts k _ _ (H0 hk) (H0 pX);have hn:p'.ts[k].name=p.ts[k].name:=(by obtain⟨z,e⟩:=hs;rw[e]);rw[H0 hk,H0 pX];simp only[asq hs,hn,h.nm,ih]
  .have pX:¬k<p'.ts.length:=(by rw[h.tl];exact hk);rw[Zc0 (by omega),Zc0 (by omega)]
theorem bE.dQ.FE(h:p.dQ p'):bZ p'.ts=bZ p.ts:=by unfold bZ;rw[h.tl,h.at]
theorem bE.dQ.gsAt(h:p.dQ p'):∀(m k:Nat),oU p'.gs m k=oU p.gs m k
 |0,_=>rfl
 |m +1,k=>by
  have ih:=h.gsAt m (k+1);unfold oU;by_cases hk:k<p.gs.length
  .have pX:k<p'.gs.length:=(by rw[h.gl];exact hk);have hs:=h.gs k _ _ (H0 hk) (H0 pX);have hn:p'.gs[k].name=p.gs[k].name:=(by obtain⟨z,e⟩:=hs;rw[e]);rw[H0 hk,H0 pX];simp only[apE hs,hn,h.gm,ih]
  .have pX:¬k<p'.gs.length:=(by rw[h.gl];exact hk);rw[Zc0 (by omega),Zc0 (by omega)]
theorem bE.dQ.unk(h:p.dQ p')(t:Ty):r9 p'.gs t=r9 p.gs t:=by unfold r9;rw[h.gm,h.gm,h.gl]
theorem bE.dQ.tyAt(h:p.dQ p')(ts:List Ty):∀(m k:Nat),j7 p'.gs ts m k=j7 p.gs ts m k
 |0,_=>rfl
 |m+1,k=>by
  have ih:=h.tyAt ts m (k+1);unfold j7;cases ts[k]? with
  |none=>rfl
  |some t=>simp only[h.gl,h.unk,ih]
theorem bE.dQ.roll(h:p.dQ p'):ey p'.gs p'.ys=ey p.gs p.ys:=by unfold ey;rw[h.ys,h.gsAt,h.tyAt]
theorem bE.dQ.sum(h:p.dQ p'):bg p'.ts=bg p.ts:=by
 unfold bg;congr 1;refine Zi7 λi=> ?_
 rw[Zb3,Zb3];exact aah h.tl h.ts bQ (λt t' k=>alM k) i
theorem bE.dQ.basis(h:p.dQ p'):iI p'=iI p:=by unfold iI;rw[h.FE,h.roll,h.cs,h.gl,h.sum]
theorem bE.dQ.gi(h:p.dQ p')(s:List Nat):Go.Proofs.YtgihekklfnjkiaaGreatDoor.gi p' s=Go.Proofs.YtgihekklfnjkiaaGreatDoor.gi p s:=by unfold Go.Proofs.YtgihekklfnjkiaaGreatDoor.gi;rw[h.gm,h.gl]
theorem bE.dQ.ti(h:p.dQ p')(s:List Nat):Go.Proofs.YtgihekklfnjkiaaGreatDoor.ti p' s=Go.Proofs.YtgihekklfnjkiaaGreatDoor.ti p s:=by unfold Go.Proofs.YtgihekklfnjkiaaGreatDoor.ti;rw[h.nm,h.tl]
theorem bE.dQ.Aw(h:p.dQ p')(i:Int):Go.Proofs.YtgihekklfnjkiaaGreatDoor.Aw p' i=Go.Proofs.YtgihekklfnjkiaaGreatDoor.Aw p i:=by
 unfold Go.Proofs.YtgihekklfnjkiaaGreatDoor.Aw;have:=aah h.tl h.ts bQ (λt t' k=>alM k) i.toNat;cases h1:p.ts[i.toNat]? with
 |none=>rw[h1]at this;cases h2:p'.ts[i.toNat]? with
  |none=>rfl
  |some t=>rw[h2]at this;cases this
 |some t=>rw[h1]at this;cases h2:p'.ts[i.toNat]? with
  |none=>rw[h2]at this;cases this
  |some t'=>rw[h2]at this;simp only[Ze5,H5]at this;simp only[this]
theorem bE.dQ.rule(h:p.dQ p')(r:Rl):nX p' r=nX p r:=by
 unfold nX T9 afa aaa;simp only[h.gi,h.ti,h.Aw]
theorem bE.dQ.iG(h:p.dQ p'):∀(m k:Nat),oo p' m k=oo p m k
 |0,_=>rfl
 |m+1,k=>by
  have ih:=h.iG m (k+1);unfold oo;rw[h.rs];cases p.rs[k]? with
  |none=>rfl
  |some r=>simp only[h.rule,ih]
theorem bE.dQ.check(h:p.dQ p'):eD p'=eD p:=by unfold eD;rw[h.basis,h.iG]
theorem GZ{es bytes:Nat}{z:List AV}(rows:List (List AV))(hr:∀r∈rows,r.length=es)(eG:es≠0)(hb:(2*rows.length+768)*bytes<=281474976710656)(hn:rows.length<=4000000)(s:St)(hw:Wf s):
  ∃v s',(∀(K:AV->St->Option (AV×St)),aq c (.buildSlice es 0 z []) [] s (λy t=>aq c (.append es bytes) [y,.fl rows es] t K)=K v s')/\Mk es s s' v rows:=
 af8 hr eG hb hn s hw (.inl rfl)
theorem Mj(c:aj)(K:AV->St->Option (AV×St))(s:St):aq c (.bin .eql .slice) [.af,.af] s K=K (.bool true) s:=aY c K (λH n=>rfl) s
theorem aai(c:aj)(K:AV->St->Option (AV×St))(s:St)(rows:List (List AV))(es:Nat):aq c (.bin .eql .slice) [.fl rows es,.af] s K=K (.bool false) s:=aY c K (λH n=>rfl) s
theorem agw(hc:Sem c)(z:Bool)(l:List (Int))(hl:l.length<=HW)(s:St)(hw:Wf s):∃v s',c 115 [ints z l] s=some (v,s')/\Mk 1 s s' v (l.map bH):=by
 have hl:l.length<=1048576:=hl;have hr:∀r∈l.map bH,r.length=1:=λr hr=>by simp only[Zc9]at hr;obtain⟨i,_,rfl⟩:=hr;rfl
 by_cases h:ints z l= .af
 . have h0:l=[]:=by
    cases l with
    |nil=>rfl
    |cons a l=>unfold ints at h;cases z<;>cases h
   subst h0;refine⟨.af,s,?_,Mk.start hw (Grew.refl hw)⟩;rw[h,zm hc 1 (r:=(.af,s)),aE Plain.af (aZ.refl s)];rw[Bi];simp[Mj]
 . have e:ints z l= .fl (l.map bH) 1:=by
    cases l with
    |nil=>unfold ints at h ⊢; cases z
          .rfl
          .exact absurd rfl h
    |cons a l=>unfold ints;cases z<;>rfl
   obtain⟨v,s',a1,a2⟩:=GZ (c:=c) (bytes:=8) (z:=[.int .i64 0]) (l.map bH) hr (by decide) (by simp;omega) (by simp;omega) s hw;obtain⟨fD,t1,t2⟩:=a2.tidy;refine⟨v,fD,?_,t2⟩;rw[e,zm hc 1 (r:=(v,s')),t1];rw[Bi];simp only[au,aai,cE];rw[a1]
theorem apF(hc:Sem c)(z:Bool)(l:List (List Nat))(hl:l.length<=HW)(s:St)(hw:Wf s):∃v s',c 117 [lM z l] s=some (v,s')/\Mk 1 s s' v (l.map Uz):=by
 have hl:l.length<=1048576:=hl;have hr:∀r∈l.map Uz,r.length=1:=λr hr=>by simp only[Zc9]at hr;obtain⟨i,_,rfl⟩:=hr;rfl
 by_cases h:lM z l= .af
 . have h0:l=[]:=by
    cases l with
    |nil=>rfl
    |cons a l=>unfold lM at h;cases z<;>cases h
   subst h0;refine⟨.af,s,?_,Mk.start hw (Grew.refl hw)⟩;rw[h,ju hc 1 (r:=(.af,s)),aE Plain.af (aZ.refl s)];rw[j8];simp[Mj]
 . have e:lM z l= .fl (l.map Uz) 1:=by
    cases l with
    |nil=>unfold lM at h ⊢; cases z
          .rfl
          .exact absurd rfl h
    |cons a l=>unfold lM;cases z<;>rfl
   obtain⟨v,s',a1,a2⟩:=GZ (c:=c) (bytes:=16) (z:=[.str []]) (l.map Uz) hr (by decide) (by simp;omega) (by simp;omega) s hw;obtain⟨fD,t1,t2⟩:=a2.tidy;refine⟨v,fD,?_,t2⟩;rw[e,ju hc 1 (r:=(v,s')),t1];rw[j8];simp only[au,aai,cE];rw[a1]
theorem apG(hc:Sem c)(z:Bool)(l:List (Ty))(hl:l.length<=HW)(s:St)(hw:Wf s):∃v s',c 118 [gW z l] s=some (v,s')/\Mk 3 s s' v (l.map Ty.cells):=by
 have hl:l.length<=1048576:=hl;have hr:∀r∈l.map Ty.cells,r.length=3:=λr hr=>by simp only[Zc9]at hr;obtain⟨i,_,rfl⟩:=hr;rfl
 by_cases h:gW z l= .af
 . have h0:l=[]:=by
    cases l with
    |nil=>rfl
    |cons a l=>unfold gW at h;cases z<;>cases h
   subst h0;refine⟨.af,s,?_,Mk.start hw (Grew.refl hw)⟩;rw[h,rF hc 1 (r:=(.af,s)),aE Plain.af (aZ.refl s)];rw[tR];simp[Mj]
 . have e:gW z l= .fl (l.map Ty.cells) 3:=by
    cases l with
    |nil=>unfold gW at h ⊢; cases z
          .rfl
          .exact absurd rfl h
    |cons a l=>unfold gW;cases z<;>rfl
   obtain⟨v,s',a1,a2⟩:=GZ (c:=c) (bytes:=40) (z:=[.str [],.str [],.int .u8 0]) (l.map Ty.cells) hr (by decide) (by simp;omega) (by simp;omega) s hw;obtain⟨fD,t1,t2⟩:=a2.tidy;refine⟨v,fD,?_,t2⟩;rw[e,rF hc 1 (r:=(v,s')),t1];rw[tR];simp only[au,aai,cE];rw[a1]
theorem apH(hc:Sem c)(z:Bool)(l:List (Rl))(hl:l.length<=HW)(s:St)(hw:Wf s):∃v s',c 119 [iG z l] s=some (v,s')/\Mk 6 s s' v (l.map Rl.cells):=by
 have hl:l.length<=1048576:=hl;have hr:∀r∈l.map Rl.cells,r.length=6:=λr hr=>by simp only[Zc9]at hr;obtain⟨i,_,rfl⟩:=hr;rfl
 by_cases h:iG z l= .af
 . have h0:l=[]:=by
    cases l with
    |nil=>rfl
    |cons a l=>unfold iG at h;cases z<;>cases h
   subst h0;refine⟨.af,s,?_,Mk.start hw (Grew.refl hw)⟩;rw[h,qe hc 1 (r:=(.af,s)),aE Plain.af (aZ.refl s)];rw[rH];simp[Mj]
 . have e:iG z l= .fl (l.map Rl.cells) 6:=by
    cases l with
    |nil=>unfold iG at h ⊢; cases z
          .rfl
          .exact absurd rfl h
    |cons a l=>unfold iG;cases z<;>rfl
   obtain⟨v,s',a1,a2⟩:=GZ (c:=c) (bytes:=72) (z:=[.int .u8 0,.int .i64 0,.str [],.str [],.str [],.int .i64 0]) (l.map Rl.cells) hr (by decide) (by simp;omega) (by simp;omega) s hw;obtain⟨fD,t1,t2⟩:=a2.tidy;refine⟨v,fD,?_,t2⟩;rw[e,qe hc 1 (r:=(v,s')),t1];rw[rH];simp only[au,aai,cE];rw[a1]
theorem apI(hc:Sem c)(z:Bool)(l:List (aC))(hl:l.length<=HW)(s:St)(hw:Wf s):∃v s',c 114 [tabs z l] s=some (v,s')/\Mk 7 s s' v (l.map aC.cells):=by
 have hl:l.length<=1048576:=hl;have hr:∀r∈l.map aC.cells,r.length=7:=λr hr=>by simp only[Zc9]at hr;obtain⟨i,_,rfl⟩:=hr;rfl
 by_cases h:tabs z l= .af
 . have h0:l=[]:=by
    cases l with
    |nil=>rfl
    |cons a l=>unfold tabs at h;cases z<;>cases h
   subst h0;refine⟨.af,s,?_,Mk.start hw (Grew.refl hw)⟩;rw[h,o9 hc 1 (r:=(.af,s)),aE Plain.af (aZ.refl s)];rw[qf];simp[Mj]
 . have e:tabs z l= .fl (l.map aC.cells) 7:=by
    cases l with
    |nil=>unfold tabs at h ⊢; cases z
          .rfl
          .exact absurd rfl h
    |cons a l=>unfold tabs;cases z<;>rfl
   obtain⟨v,s',a1,a2⟩:=GZ (c:=c) (bytes:=80) (z:=[.str [],.int .u8 0,.int .i64 0,.int .i64 0,.af,.int .i64 0,.int .i64 0]) (l.map aC.cells) hr (by decide) (by simp;omega) (by simp;omega) s hw;obtain⟨fD,t1,t2⟩:=a2.tidy;refine⟨v,fD,?_,t2⟩;rw[e,o9 hc 1 (r:=(v,s')),t1];rw[qf];simp only[au,aai,cE];rw[a1]
theorem apJ(hc:Sem c)(z:Bool)(l:List (aS))(hl:l.length<=HW)(s:St)(hw:Wf s):∃v s',c 116 [dL z l] s=some (v,s')/\Mk 9 s s' v (l.map aS.cells):=by
 have hl:l.length<=1048576:=hl;have hr:∀r∈l.map aS.cells,r.length=9:=λr hr=>by simp only[Zc9]at hr;obtain⟨i,_,rfl⟩:=hr;rfl
 by_cases h:dL z l= .af
 . have h0:l=[]:=by
    cases l with
    |nil=>rfl
    |cons a l=>unfold dL at h;cases z<;>cases h
   subst h0;refine⟨.af,s,?_,Mk.start hw (Grew.refl hw)⟩;rw[h,pg hc 1 (r:=(.af,s)),aE Plain.af (aZ.refl s)];rw[qg];simp[Mj]
 . have e:dL z l= .fl (l.map aS.cells) 9:=by
    cases l with
    |nil=>unfold dL at h ⊢; cases z
          .rfl
          .exact absurd rfl h
    |cons a l=>unfold dL;cases z<;>rfl
   obtain⟨v,s',a1,a2⟩:=GZ (c:=c) (bytes:=112) (z:=[.str [],.str [],.str [],.int .i64 0,.int .i64 0,.str [],.bool false,.bool false,.af]) (l.map aS.cells) hr (by decide) (by simp;omega) (by simp;omega) s hw;obtain⟨fD,t1,t2⟩:=a2.tidy;refine⟨v,fD,?_,t2⟩;rw[e,pg hc 1 (r:=(v,s')),t1];rw[qg];simp only[au,aai,cE];rw[a1]
structure CT(n0:Nat)(s0 s:St)(q:Pos)(rest:List AV)(V:AV)(ts:List aC)(k:Nat)(rows:List (List AV)):Prop where
 out:Mk 7 s0 s V rows
 box:s.heap.get q=some (.cells (V::rest) 0)
 GY:q.toNat<n0
 lo:n0<=s.next.toNat
 ne:∀b,aR V=some b->n0<=b.toNat
 len:rows.length=ts.length
 gR:∀(i:Nat)(t:aC)(r:List AV),k<=i->ts[i]? =some t->rows[i]? =some r->r=t.cells
 eI:∀(i:Nat)(t:aC)(r:List AV),i<k->ts[i]? =some t->rows[i]? =some r->∃v,r=t.ay v/\Mk 1 s0 s v (t.kK.map bH)/\(∀b,aR v=some b->aR V≠some b)/\∀b,aR v=some b->n0<=b.toNat
theorem apK(hc:Sem c){n0:Nat}{s0:St}{q:Pos}{rest:List AV}(x2:AV)(ts:List aC)(hl:ts.length<=1000)(hr:∀t∈ts,t.Real)(F:Nat):∀(m k f:Nat)(s:St)(V:AV)(rows:List (List AV)),m<f->k+m=ts.length->CT n0 s0 s q rest V ts k rows->
  ∃s' wJ,CT n0 s0 s' q rest V ts ts.length wJ/\(∀p x,aR V≠some p->s.heap.get p=some x->s'.heap.get p=some x)/\∀k2,u7 c F k2 f [.ptr q 0,x2,.int .i64 (ts.length:Int),.int .i64 (k:Int)] s=k2 [.ptr q 0,x2] s':=by
 intro m;induction m with
 |zero=>
  intro k f s V rows hf h1 hT;obtain⟨f,rfl⟩:∃g,f=g+1:=⟨f - 1,by omega⟩
  obtain rfl:k=ts.length:=by omega
  refine⟨s,rows,hT,λ_ _ _ h=>h,λk2=> ?_⟩;rw[Nr];simp
 |succ m ih=>
  intro k f s V rows hf h1 hT;obtain⟨f,rfl⟩:∃g,f=g+1:=⟨f - 1,by omega⟩
  have h:k<ts.length:=by omega
  have hk:k<rows.length:=by rw[hT.len];exact h
  have w:av .i64 ((k:Int)+1)=((k+1:Nat):Int):=wrap64 (by omega) (by omega);have hw:=hT.out.ai.wf;obtain⟨b,o,cs,a1,a2,a3,a4,a5,a6,a7,a8⟩:=hT.out.own.set (c:=c) (R:=AV×St) hT.out.row (by decide) hk;have gO:rows[k]=ts[k].cells:=hT.gR k _ _ (Za5 _) (H0 h) (H0 hk);have c4:cs[o+4]? =some (ints ts[k].oz ts[k].kK):=a6 4 _ (by rw[gO];rfl);obtain⟨v,s1,C,M⟩:=agw hc ts[k].oz ts[k].kK (hr _ (Zb8 h)).kK s hw;have b4:=M.ai.get a4;have q4:=M.ai.get hT.box;obtain⟨vc,v1⟩:=M.cells;have hbq:b≠q:=λe=>by have:=hT.ne _ a3;have:=hT.GY;subst e;omega
  have yI:=hT.out.new b a3;have z8:=hw _ _ a4;have bK:∀(K:AV->St->Option (AV×St)),aq c (.store 1) [.ptr b (o+4),v] s1 K=K .undef (bn s1 b (.cells (bf cs (o+4) [v]) 0)):=λK=>by
   rw[cH c K s1 1 b (o+4) v cs b4 (by rw[vc];rfl) (by omega) (by rw[vc];exact v1),vc]
  have G2:Grew s0 (bn s1 b (.cells (bf cs (o+4) [v]) 0)):=⟨kq M.ai.wf (by have:=M.ai.next;omega),λp x hp=>by have:=hT.out.jW _ _ hp;rw[aM (λe=>by rw[e]at yI;omega)];exact(hT.out.ai.trans M.ai).get hp,by rw[dS];exact(hT.out.ai.trans M.ai).next⟩
  have yS:∀p x,p≠b->s1.heap.get p=some x->(bn s1 b (.cells (bf cs (o+4) [v]) 0)).heap.get p=some x:=λp x hp hx=>by rw[aM (λe=>hp e.symm)];exact hx
  have T5:CT n0 s0 (bn s1 b (.cells (bf cs (o+4) [v]) 0)) q rest V ts (k+1) (rows.set k (rows[k].set 4 v)):=by
   refine⟨⟨hT.out.jW,G2,a7 4 v _ (by omega) (bW _ _ _),hT.out.new,λr YT=> ?_,hT.out.cap,λp hp=>by rw[a3]at hp;cases hp;rw[bW];rw[a8 4 v (by omega) (AB.cells.inj (Zi1 (a4.symm.trans (hT.out.tight b a3)))).1]⟩,yS q _ (λe=>hbq e.symm) q4,hT.GY,by rw[dS];exact Zb2 hT.lo M.ai.next,hT.ne,by rw[Zl9];exact hT.len,λi t r hi h3 h4=> ?_,λi t r hi h3 h4=> ?_⟩
   .    rcases Zh3 YT with h5|h5
        .exact hT.out.row r h5
        .rw[h5,Zl9];exact hT.out.row _ (Zb8 hk)
   .    rw[Zf2 (by omega)]at h4;exact hT.gR i t r (by omega) h3 h4
   .    by_cases Fv:i=k
        . subst Fv;rw[H0 h]at h3;cases h3;rw[Zg4 hk]at h4;cases h4;refine⟨v,by rw[gO];rfl,Mk.rW (M.back hT.out.jW hT.out.ai) G2 λp x hp hx=>yS p x (λe=>by subst e;have:=M.new _ hp;omega) hx,λp hp e=> ?_,λp hp=> ?_⟩
          .rw[a3]at e;cases e;have:=M.new _ hp;omega
          .have:=M.new _ hp;have:=hT.lo;omega
        .rw[Zf2 (by omega)]at h4;obtain⟨u,e1,e2,e3,e4⟩:=hT.eI i t r (by omega) h3 h4;refine⟨u,e1,Mk.rW (e2.grow M.ai) G2 λp x hp hx=>yS p x (λe=>by subst e;exact e3 _ hp a3) hx,e3,e4⟩
  obtain⟨s',wJ,d1,d3,d2⟩:=ih (k+1) f _ V _ (by omega) (by omega) T5;refine⟨s',wJ,d1,λp x hp hx=>d3 p x hp (yS p x (λe=>hp (by rw[a3,e])) (M.ai.get hx)),λk2=> ?_⟩;rw[<-d2 k2,Nr];have L1:∀(ok:AV->Bool)(K:AV->Option (AV×St)),ok V=true->jJ (.load none) [.ptr q 0] s.heap ok K=K V:=λok K h=>Ir (by rw[hT.box];rfl) ok h K
  have L2:∀(ok:AV->Bool)(K:AV->Option (AV×St)),ok V=true->jJ (.load none) [.ptr q 0] s1.heap ok K=K V:=λok K h=>Ir (by rw[q4];rfl) ok h K
  have L3:∀(ok:AV->Bool)(K:AV->Option (AV×St)),ok (ints ts[k].oz ts[k].kK)=true->jJ (.load none) [.ptr b (o+4)] s.heap ok K=K (ints ts[k].oz ts[k].kK):=λok K h=>Ir (by rw[a4];exact c4) ok h K
  have q1:=Ni (p:=q) (o:=0) (h:=s.heap) (v:=V) (by rw[hT.box];rfl) hT.out.beq;simp[h,hT.box,a4,c4,L2,a2,C,q1,bK,w]
structure CG(n0:Nat)(s0 s:St)(q:Pos)(V1:AV)(rest:List AV)(V:AV)(ts:List aS)(k:Nat)(rows:List (List AV)):Prop where
 out:Mk 9 s0 s V rows
 box:s.heap.get q=some (.cells (V1::V::rest) 0)
 GY:q.toNat<n0
 lo:n0<=s.next.toNat
 ne:∀b,aR V=some b->n0<=b.toNat
 len:rows.length=ts.length
 gR:∀(i:Nat)(t:aS)(r:List AV),k<=i->ts[i]? =some t->rows[i]? =some r->r=t.cells
 eI:∀(i:Nat)(t:aS)(r:List AV),i<k->ts[i]? =some t->rows[i]? =some r->∃v,r=t.ay v/\Mk 1 s0 s v (t.tg.map Uz)/\(∀b,aR v=some b->aR V≠some b)/\∀b,aR v=some b->n0<=b.toNat
theorem apL(hc:Sem c){n0:Nat}{s0:St}{q:Pos}{V1:AV}{rest:List AV}(x2:AV)(ts:List aS)(hl:ts.length<=1000)(hr:∀t∈ts,t.Real)(F:Nat):∀(m k f:Nat)(s:St)(V:AV)(rows:List (List AV)),m<f->k+m=ts.length->CG n0 s0 s q V1 rest V ts k rows->
  ∃s' wJ,CG n0 s0 s' q V1 rest V ts ts.length wJ/\(∀p x,aR V≠some p->s.heap.get p=some x->s'.heap.get p=some x)/\∀k2,u9 c F k2 f [.ptr q 0,x2,.int .i64 (ts.length:Int),.int .i64 (k:Int)] s=k2 [.ptr q 0,x2] s':=by
 intro m;induction m with
 |zero=>
  intro k f s V rows hf h1 hT;obtain⟨f,rfl⟩:∃g,f=g+1:=⟨f - 1,by omega⟩
  obtain rfl:k=ts.length:=by omega
  refine⟨s,rows,hT,λ_ _ _ h=>h,λk2=> ?_⟩;rw[Ns];simp
 |succ m ih=>
  intro k f s V rows hf h1 hT;obtain⟨f,rfl⟩:∃g,f=g+1:=⟨f - 1,by omega⟩
  have h:k<ts.length:=by omega
  have hk:k<rows.length:=by rw[hT.len];exact h
  have w:av .i64 ((k:Int)+1)=((k+1:Nat):Int):=wrap64 (by omega) (by omega);have hw:=hT.out.ai.wf;obtain⟨b,o,cs,a1,a2,a3,a4,a5,a6,a7,a8⟩:=hT.out.own.set (c:=c) (R:=AV×St) hT.out.row (by decide) hk;have gO:rows[k]=ts[k].cells:=hT.gR k _ _ (Za5 _) (H0 h) (H0 hk);have c4:cs[o+8]? =some (lM ts[k].tz ts[k].tg):=a6 8 _ (by rw[gO];rfl);obtain⟨v,s1,C,M⟩:=apF hc ts[k].tz ts[k].tg (hr _ (Zb8 h)).tg s hw;have b4:=M.ai.get a4;have q4:=M.ai.get hT.box;obtain⟨vc,v1⟩:=M.cells;have hbq:b≠q:=λe=>by have:=hT.ne _ a3;have:=hT.GY;subst e;omega
  have yI:=hT.out.new b a3;have z8:=hw _ _ a4;have bK:∀(K:AV->St->Option (AV×St)),aq c (.store 1) [.ptr b (o+8),v] s1 K=K .undef (bn s1 b (.cells (bf cs (o+8) [v]) 0)):=λK=>by
   rw[cH c K s1 1 b (o+8) v cs b4 (by rw[vc];rfl) (by omega) (by rw[vc];exact v1),vc]
  have G2:Grew s0 (bn s1 b (.cells (bf cs (o+8) [v]) 0)):=⟨kq M.ai.wf (by have:=M.ai.next;omega),λp x hp=>by have:=hT.out.jW _ _ hp;rw[aM (λe=>by rw[e]at yI;omega)];exact(hT.out.ai.trans M.ai).get hp,by rw[dS];exact(hT.out.ai.trans M.ai).next⟩
  have yS:∀p x,p≠b->s1.heap.get p=some x->(bn s1 b (.cells (bf cs (o+8) [v]) 0)).heap.get p=some x:=λp x hp hx=>by rw[aM (λe=>hp e.symm)];exact hx
  have T5:CG n0 s0 (bn s1 b (.cells (bf cs (o+8) [v]) 0)) q V1 rest V ts (k+1) (rows.set k (rows[k].set 8 v)):=by
   refine⟨⟨hT.out.jW,G2,a7 8 v _ (by omega) (bW _ _ _),hT.out.new,λr YT=> ?_,hT.out.cap,λp hp=>by rw[a3]at hp;cases hp;rw[bW];rw[a8 8 v (by omega) (AB.cells.inj (Zi1 (a4.symm.trans (hT.out.tight b a3)))).1]⟩,yS q _ (λe=>hbq e.symm) q4,hT.GY,by rw[dS];exact Zb2 hT.lo M.ai.next,hT.ne,by rw[Zl9];exact hT.len,λi t r hi h3 h4=> ?_,λi t r hi h3 h4=> ?_⟩
   .    rcases Zh3 YT with h5|h5
        .exact hT.out.row r h5
        .rw[h5,Zl9];exact hT.out.row _ (Zb8 hk)
   .    rw[Zf2 (by omega)]at h4;exact hT.gR i t r (by omega) h3 h4
   .    by_cases Fv:i=k
        . subst Fv;rw[H0 h]at h3;cases h3;rw[Zg4 hk]at h4;cases h4;refine⟨v,by rw[gO];rfl,Mk.rW (M.back hT.out.jW hT.out.ai) G2 λp x hp hx=>yS p x (λe=>by subst e;have:=M.new _ hp;omega) hx,λp hp e=> ?_,λp hp=> ?_⟩
          .rw[a3]at e;cases e;have:=M.new _ hp;omega
          .have:=M.new _ hp;have:=hT.lo;omega
        .rw[Zf2 (by omega)]at h4;obtain⟨u,e1,e2,e3,e4⟩:=hT.eI i t r (by omega) h3 h4;refine⟨u,e1,Mk.rW (e2.grow M.ai) G2 λp x hp hx=>yS p x (λe=>by subst e;exact e3 _ hp a3) hx,e3,e4⟩
  obtain⟨s',wJ,d1,d3,d2⟩:=ih (k+1) f _ V _ (by omega) (by omega) T5;refine⟨s',wJ,d1,λp x hp hx=>d3 p x hp (yS p x (λe=>hp (by rw[a3,e])) (M.ai.get hx)),λk2=> ?_⟩;rw[<-d2 k2,Ns];have L1:∀(ok:AV->Bool)(K:AV->Option (AV×St)),ok V=true->jJ (.load none) [.ptr q 1] s.heap ok K=K V:=λok K h=>Ir (by rw[hT.box];rfl) ok h K
  have L2:∀(ok:AV->Bool)(K:AV->Option (AV×St)),ok V=true->jJ (.load none) [.ptr q 1] s1.heap ok K=K V:=λok K h=>Ir (by rw[q4];rfl) ok h K
  have L3:∀(ok:AV->Bool)(K:AV->Option (AV×St)),ok (lM ts[k].tz ts[k].tg)=true->jJ (.load none) [.ptr b (o+8)] s.heap ok K=K (lM ts[k].tz ts[k].tg):=λok K h=>Ir (by rw[a4];exact c4) ok h K
  have q1:=Ni (p:=q) (o:=1) (h:=s.heap) (v:=V) (by rw[hT.box];rfl) hT.out.beq;simp[h,hT.box,a4,c4,L2,a2,C,q1,bK,w]
theorem ld{p:Pos}{o:Nat}{t:St}{cs:List AV}{v:AV}(h:t.heap.get p=some (.cells cs 0))(hv:cs[o]? =some v):((cellsOf (t.heap.get p)).bind λcs=>cs[o]?)=some v:=by rw[h];exact hv
theorem adY(hc:Sem c)(p:bE)(hp:p.Real)(s:St)(hw:Wf s):∃Vs s',c 57 [.agg p.cells] s=some (.agg Vs,s')/\PS s s' Vs p:=by
 have dm:Wf (ah s (.cells p.cells 0)):=bP hw;have hwB:Wf (ah (ah s (.cells p.cells 0)) (.cells [.af,.af,.af,.af,.af] 0)):=bP dm;have gB:=(Grew.ah hw (.cells p.cells 0)).trans (Grew.ah dm (.cells [.af,.af,.af,.af,.af] 0));have qB:(ah (ah s (.cells p.cells 0)) (.cells [.af,.af,.af,.af,.af] 0)).heap.get s.next=some (.cells p.cells 0):=(Grew.ah dm _).get (aB _ _);have pB:=aB (ah s (.cells p.cells 0)) (.cells [.af,.af,.af,.af,.af] 0);have nl:s.next.toNat<(ah s (.cells p.cells 0)).next.toNat:=by rw[bX,Pos.aH];omega
 generalize hsB:ah (ah s (.cells p.cells 0)) (.cells [.af,.af,.af,.af,.af] 0)=sB at hwB gB qB pB;generalize HJ:(ah s (.cells p.cells 0)).next=p2 at pB nl;have lt2:=hwB _ _ pB;have ltq:=hwB _ _ qB;have nqp:s.next≠p2:=λe=>by rw[e]at nl;omega
 have hlT:p.ts.length<=HW:=Zb2 hp.ts (by decide);have hlG:p.gs.length<=HW:=Zb2 hp.gs (by decide);obtain⟨V1,s1,C1,M1⟩:=apI hc p.tz p.ts hlT sB hwB;obtain⟨c1,o1⟩:=M1.cells;have q1:=M1.ai.get qB;have b1:p.cells=tabs p.tz p.ts::[dL p.gz p.gs,gW p.yz p.ys,ints p.cz p.cs,iG p.rz p.rs]:=rfl;have t1:∀(K:AV->St->Option (AV×St)),aq c (.store 1) [.ptr s.next 0,V1] s1 K=K .undef (bn s1 s.next (.cells (V1::[dL p.gz p.gs,gW p.yz p.ys,ints p.cz p.cs,iG p.rz p.rs]) 0)):=λK=>by rw[cH c K s1 1 s.next 0 V1 p.cells q1 (by rw[c1];rfl) (by rw[b1];simp) (by rw[c1];exact o1),c1];rfl
 have lq1:=M1.ai.wf _ _ q1;have G2:Grew s (bn s1 s.next (.cells (V1::[dL p.gz p.gs,gW p.yz p.ys,ints p.cz p.cs,iG p.rz p.rs]) 0)):=⟨kq M1.ai.wf lq1,λr x hr=>by have:=hw _ _ hr;rw[aM (λe=>by rw[e]at this;omega)];exact(gB.trans M1.ai).get hr,by rw[dS];exact(gB.trans M1.ai).next⟩
 have T2:CT sB.next.toNat s (bn s1 s.next (.cells (V1::[dL p.gz p.gs,gW p.yz p.ys,ints p.cz p.cs,iG p.rz p.rs]) 0)) s.next [dL p.gz p.gs,gW p.yz p.ys,ints p.cz p.cs,iG p.rz p.rs] V1 p.ts 0 (p.ts.map aC.cells):=by
  refine⟨⟨hw,G2,M1.own.mono λb x hb hx=> ?_,λb hb=>Zb2 gB.next (M1.new b hb),M1.row,M1.cap,λb hb=>by rw[aM (λe=>by have:=M1.new _ hb;rw[<-e]at this;omega)];exact M1.tight b hb⟩,bW _ _ _,ltq,by rw[dS];exact M1.ai.next,M1.new,by simp,λi t r _ h3 h4=> ?_,λi t r h=>by omega⟩
  .rw[aM (λe=>by have:=M1.new _ hb;rw[<-e]at this;omega)];exact hx
  .rw[Zb3,h3]at h4;simpa using h4.symm
 generalize uy:bn s1 s.next (.cells (V1::[dL p.gz p.gs,gW p.yz p.ys,ints p.cz p.cs,iG p.rz p.rs]) 0)=s2 at t1 G2 T2;have p2a:s2.heap.get p2=some (.cells [.af,.af,.af,.af,.af] 0):=by rw[<-uy,aM nqp];exact M1.ai.get pB
 have l1:∀(K:AV->St->Option (AV×St))(t:St),aq c (.lenB .l) [V1] t K=K (.int .i64 (p.ts.length:Int)) t:=λK t=>by rw[M1.own.lenB];simp
 obtain⟨s3,r1,D1,D2,D3⟩:=apK hc (.ptr p2 0) p.ts hp.ts hp.tab 2000 p.ts.length 0 2000 s2 V1 _ (by have:=hp.ts;omega) (by omega) T2;have p3:s3.heap.get p2=some (.cells [.af,.af,.af,.af,.af] 0):=D2 p2 _ (λe=>by have:=M1.new _ e;omega) p2a;have q3:=D1.box;obtain⟨V2,s4,C2,M2⟩:=apJ hc p.gz p.gs hlG s3 D1.out.ai.wf;obtain⟨c2,o2⟩:=M2.cells;have q4:=M2.ai.get q3;have t2:∀(K:AV->St->Option (AV×St)),aq c (.store 1) [.ptr s.next 1,V2] s4 K=K .undef (bn s4 s.next (.cells (V1::V2::[gW p.yz p.ys,ints p.cz p.cs,iG p.rz p.rs]) 0)):=λK=>by rw[cH c K s4 1 s.next 1 V2 _ q4 (by rw[c2];rfl) (by simp) (by rw[c2];exact o2),c2];rfl
 have lq4:=M2.ai.wf _ _ q4;have n3B:sB.next.toNat<=s3.next.toNat:=D1.lo;have G3:=D1.out.ai;have G5:Grew s (bn s4 s.next (.cells (V1::V2::[gW p.yz p.ys,ints p.cz p.cs,iG p.rz p.rs]) 0)):=⟨kq M2.ai.wf lq4,λr x hr=>by have:=hw _ _ hr;rw[aM (λe=>by rw[e]at this;omega)];exact(G3.trans M2.ai).get hr,by rw[dS];exact(G3.trans M2.ai).next⟩
 have T5:CG s3.next.toNat s (bn s4 s.next (.cells (V1::V2::[gW p.yz p.ys,ints p.cz p.cs,iG p.rz p.rs]) 0)) s.next V1 [gW p.yz p.ys,ints p.cz p.cs,iG p.rz p.rs] V2 p.gs 0 (p.gs.map aS.cells):=by
  refine⟨⟨hw,G5,M2.own.mono λb x hb hx=> ?_,λb hb=>Zb2 G3.next (M2.new b hb),M2.row,M2.cap,λb hb=>by rw[aM (λe=>by have:=M2.new _ hb;rw[<-e]at this;omega)];exact M2.tight b hb⟩,bW _ _ _,by omega,by rw[dS];exact M2.ai.next,M2.new,by simp,λi t r _ h3 h4=> ?_,λi t r h=>by omega⟩
  .rw[aM (λe=>by have:=M2.new _ hb;rw[<-e]at this;omega)];exact hx
  .rw[Zb3,h3]at h4;simpa using h4.symm
 have atj:∀r x,r≠s.next->s3.heap.get r=some x->(bn s4 s.next (.cells (V1::V2::[gW p.yz p.ys,ints p.cz p.cs,iG p.rz p.rs]) 0)).heap.get r=some x:=λr x hr hx=>by rw[aM (λe=>hr e.symm)];exact M2.ai.get hx
 generalize hs5:bn s4 s.next (.cells (V1::V2::[gW p.yz p.ys,ints p.cz p.cs,iG p.rz p.rs]) 0)=s5 at t2 G5 T5 atj;have l2:∀(K:AV->St->Option (AV×St))(t:St),aq c (.lenB .l) [V2] t K=K (.int .i64 (p.gs.length:Int)) t:=λK t=>by rw[M2.own.lenB];simp
 obtain⟨s6,r2,E1,E2,E3⟩:=apL hc (.ptr p2 0) p.gs hp.gs hp.qK 2000 p.gs.length 0 2000 s5 V2 _ (by have:=hp.gs;omega) (by omega) T5;have q5:=T5.box;have q6:=E1.box;have ans:∀r x,r≠s.next->r.toNat<s3.next.toNat->s3.heap.get r=some x->s6.heap.get r=some x:=λr x hr hl hx=>E2 r x (λe=>by have:=T5.ne _ e;omega) (atj r x hr hx)
 obtain⟨V3,s7,C3,M3⟩:=apG hc p.yz p.ys hp.ys s6 E1.out.ai.wf;obtain⟨V4,s8,C4,M4⟩:=agw hc p.cz p.cs hp.cs s7 M3.ai.wf;obtain⟨V5,s9,C5,M5⟩:=apH hc p.rz p.rs hp.rs s8 M4.ai.wf;obtain⟨c3,o3⟩:=M3.cells;obtain⟨c4,o4⟩:=M4.cells;obtain⟨c5,o5⟩:=M5.cells;have G69:=M3.ai.trans (M4.ai.trans M5.ai);have q7:=M3.ai.get q6;have q8:=M4.ai.get q7;have q9:=M5.ai.get q8;have t3:∀(K:AV->St->Option (AV×St)),aq c (.store 1) [.ptr s.next 2,V3] s9 K=K .undef (bn s9 s.next (.cells [V1,V2,V3,ints p.cz p.cs,iG p.rz p.rs] 0)):=λK=>by rw[cH c K s9 1 s.next 2 V3 _ q9 (by rw[c3];rfl) (by simp) (by rw[c3];exact o3),c3];rfl
 have t4:∀(K:AV->St->Option (AV×St)),aq c (.store 1) [.ptr s.next 3,V4] (bn s9 s.next (.cells [V1,V2,V3,ints p.cz p.cs,iG p.rz p.rs] 0)) K=K .undef (bn s9 s.next (.cells [V1,V2,V3,V4,iG p.rz p.rs] 0)):=λK=>by rw[cH c K _ 1 s.next 3 V4 _ (bW _ _ _) (by rw[c4];rfl) (by simp) (by rw[c4];exact o4),c4,Q7];rfl
 have t5:∀(K:AV->St->Option (AV×St)),aq c (.store 1) [.ptr s.next 4,V5] (bn s9 s.next (.cells [V1,V2,V3,V4,iG p.rz p.rs] 0)) K=K .undef (bn s9 s.next (.cells [V1,V2,V3,V4,V5] 0)):=λK=>by rw[cH c K _ 1 s.next 4 V5 _ (bW _ _ _) (by rw[c5];rfl) (by simp) (by rw[c5];exact o5),c5,Q7];rfl
 have one:aV [V1,V2,V3,V4,V5]=true:=by
  simp only[aV,Zi9]at o1 o2 o3 o4 o5;simp only[aV,o1,o2,o3,o4,o5,Zj2]
 have p9:(bn s9 s.next (.cells [V1,V2,V3,V4,V5] 0)).heap.get p2=some (.cells [.af,.af,.af,.af,.af] 0):=by
  rw[aM nqp];exact G69.get (ans p2 _ (λe=>nqp e.symm) (by have:=D1.out.ai.wf _ _ p3;exact this) p3)
 have t6:∀(K:AV->St->Option (AV×St)),aq c (.store 5) [.ptr p2 0,.agg [V1,V2,V3,V4,V5]] (bn s9 s.next (.cells [V1,V2,V3,V4,V5] 0)) K=K .undef (bn (bn s9 s.next (.cells [V1,V2,V3,V4,V5] 0)) p2 (.cells [V1,V2,V3,V4,V5] 0)):=λK=>by rw[cH c K _ 5 p2 0 (.agg [V1,V2,V3,V4,V5]) _ p9 rfl (by simp) one];rfl
 have G6:=E1.out.ai;have G9:=G6.trans G69;have lq9:=G69.wf _ _ q9;have lp9:=G69.wf _ _ (G69.get (ans p2 _ (λe=>nqp e.symm) (D1.out.ai.wf _ _ p3) p3));have G13:Grew s (bn (bn s9 s.next (.cells [V1,V2,V3,V4,V5] 0)) p2 (.cells [V1,V2,V3,V4,V5] 0)):=⟨kq (kq G69.wf lq9) lp9,λr x hr=>by have:=hw _ _ hr;rw[aM (λe=>by rw[<-e]at this;omega),aM (λe=>by rw[<-e]at this;omega)];exact G9.get hr,by rw[dS,dS];exact G9.next⟩
 have yS:∀r x,sB.next.toNat<=r.toNat->s9.heap.get r=some x->(bn (bn s9 s.next (.cells [V1,V2,V3,V4,V5] 0)) p2 (.cells [V1,V2,V3,V4,V5] 0)).heap.get r=some x:=λr x hr hx=>by rw[aM (λe=>by rw[<-e]at hr;omega),aM (λe=>by rw[<-e]at hr;omega)];exact hx
 have n36:s3.next.toNat<=s6.next.toNat:=E1.lo;generalize hs13:bn (bn s9 s.next (.cells [V1,V2,V3,V4,V5] 0)) p2 (.cells [V1,V2,V3,V4,V5] 0)=OY at t6 G13 yS;have F1:TS s OY V1 p.ts r1:=by
  have keep:∀(es:Nat)(u:AV)(rows:List (List AV)),Mk es s s3 u rows->(∀b,aR u=some b->sB.next.toNat<=b.toNat)->Mk es s OY u rows:=λes u rows hu hb=>Mk.rW hu G13 λb x hbu hx=>yS b x (hb b hbu) (G69.get (ans b x (λe=>by have:=hb b hbu;rw[e]at this;omega) (hu.ai.wf _ _ hx) hx))
  refine⟨keep _ _ _ D1.out D1.ne,D1.len,λi t r hi hr=> ?_⟩;obtain⟨v,e1,e2,e3,e4⟩:=D1.eI i t r (Za1.1 hi).1 hi hr;exact⟨v,e1,keep _ _ _ e2 e4,e3⟩
 have F2:GS s OY V2 p.gs r2:=by
  have keep:∀(es:Nat)(u:AV)(rows:List (List AV)),Mk es s s6 u rows->(∀b,aR u=some b->s3.next.toNat<=b.toNat)->Mk es s OY u rows:=λes u rows hu hb=>Mk.rW hu G13 λb x hbu hx=>yS b x (Zb2 n3B (hb b hbu)) (G69.get hx)
  refine⟨keep _ _ _ E1.out E1.ne,E1.len,λi t r hi hr=> ?_⟩;obtain⟨v,e1,e2,e3,e4⟩:=E1.eI i t r (Za1.1 hi).1 hi hr;exact⟨v,e1,keep _ _ _ e2 e4,e3⟩
 have F3:Mk 3 s OY V3 (p.ys.map Ty.cells):=M3.pJ hw G6 G13 λr x hr hx=>yS r x (by omega) ((M4.ai.trans M5.ai).get hx)
 have F4:Mk 1 s OY V4 (p.cs.map bH):=M4.pJ hw (G6.trans M3.ai) G13 λr x hr hx=>yS r x (by have:=M3.ai.next;omega) (M5.ai.get hx)
 have F5:Mk 6 s OY V5 (p.rs.map Rl.cells):=M5.pJ hw (G6.trans (M3.ai.trans M4.ai)) G13 λr x hr hx=>yS r x (by have:=M3.ai.next;have:=M4.ai.next;omega) hx
 have fin:∃fD,tidy s (.agg [V1,V2,V3,V4,V5],OY)=(.agg [V1,V2,V3,V4,V5],fD)/\PS s fD [V1,V2,V3,V4,V5] p:=by
  unfold tidy;by_cases hP:Plain (AV.agg [V1,V2,V3,V4,V5],OY).1/\aZ s (AV.agg [V1,V2,V3,V4,V5],OY).2
  . rw[Zb4 hP];have inst:∀v∈[V1,V2,V3,V4,V5],dV v:=λv hv=>by
        simp only[Za9,Zc6,Zf3]at hv;rcases hv with rfl|rfl|rfl|rfl|rfl
        .exact F1.out.inst
        .exact F2.out.inst
        .exact F3.inst
        .exact F4.inst
        .exact F5.inst
    have k1:=F1.out.loose.resolve_left λ⟨b,off,n,e⟩=>absurd hP.1 (gh inst (b:=b) (off:=off) (n:=n) (es:=7) (by rw[<-e];simp))
    have k2:=F2.out.loose.resolve_left λ⟨b,off,n,e⟩=>absurd hP.1 (gh inst (b:=b) (off:=off) (n:=n) (es:=9) (by rw[<-e];simp))
    have k3:=F3.loose.resolve_left λ⟨b,off,n,e⟩=>absurd hP.1 (gh inst (b:=b) (off:=off) (n:=n) (es:=3) (by rw[<-e];simp))
    have k4:=F4.loose.resolve_left λ⟨b,off,n,e⟩=>absurd hP.1 (gh inst (b:=b) (off:=off) (n:=n) (es:=1) (by rw[<-e];simp))
    have k5:=F5.loose.resolve_left λ⟨b,off,n,e⟩=>absurd hP.1 (gh inst (b:=b) (off:=off) (n:=n) (es:=6) (by rw[<-e];simp))
    exact⟨s,rfl,Grew.refl hw,V1,V2,V3,V4,V5,r1,r2,rfl,⟨k1.1 s hw,F1.len,λi t r _ h=>by rw[k1.2]at h;simp at h⟩,⟨k2.1 s hw,F2.len,λi t r _ h=>by rw[k2.2]at h;simp at h⟩,k3.1 s hw,k4.1 s hw,k5.1 s hw⟩
  .rw[Za7 hP];exact⟨_,rfl,G13,V1,V2,V3,V4,V5,r1,r2,rfl,F1,F2,F3,F4,F5⟩
 obtain⟨fD,u1,u2⟩:=fin;refine⟨_,fD,?_,u2⟩;rw[aeo hc 2000 (r:=(.agg [V1,V2,V3,V4,V5],OY)),u1];rw[ahk];have p13:OY.heap.get p2=some (.cells [V1,V2,V3,V4,V5] 0):=by rw[<-hs13];exact bW _ _ _
 have hcut:cut [V1,V2,V3,V4,V5] 0 5=some [V1,V2,V3,V4,V5]:=cQ rfl;have L3:∀(ok:AV->Bool)(K:AV->Option (AV×St)),ok (ints p.cz p.cs)=true->jJ (.load none) [.ptr s.next 3] s7.heap ok K=K (ints p.cz p.cs):=λok K h=>Ir (ld q7 rfl) ok h K
 have L4:∀(ok:AV->Bool)(K:AV->Option (AV×St)),ok (iG p.rz p.rs)=true->jJ (.load none) [.ptr s.next 4] s8.heap ok K=K (iG p.rz p.rs):=λok K h=>Ir (ld q8 rfl) ok h K
 have b3:=XX (aeg (d:=2) p.cz p.cs);have b4:=XX (apt p.rz p.rs);have w36:=Ni (p:=s.next) (o:=3) (h:=s6.heap) (v:=ints p.cz p.cs) (ld q6 rfl) b3;have w46:=Ni (p:=s.next) (o:=4) (h:=s6.heap) (v:=iG p.rz p.rs) (ld q6 rfl) b4;have w47:=Ni (p:=s.next) (o:=4) (h:=s7.heap) (v:=iG p.rz p.rs) (ld q7 rfl) b4;have q2:=T2.box;have D3':=λk2=>D3 k2
 have E3':=λk2=>E3 k2
 simp at D3' E3';simp[hsB,HJ,qB,C1,t1,q2,l1,D3',q3,C2,t2,q5,l2,E3',q6,C3,L3,w36,C4,L4,w46,w47,C5,t3,t4,t5,hcut,t6,hs13,p13]
theorem PS.tidy{s s1:St}{Vs:List AV}{p:bE}(hw:Wf s)(h:PS s s1 Vs p):∃fD,Go.Ai.tidy s (.agg Vs,s1)=(.agg Vs,fD)/\PS s fD Vs p:=by
 obtain⟨G,V1,V2,V3,V4,V5,r1,r2,rfl,F1,F2,F3,F4,F5⟩:=h;unfold Go.Ai.tidy;by_cases hP:Plain (AV.agg [V1,V2,V3,V4,V5],s1).1/\aZ s (AV.agg [V1,V2,V3,V4,V5],s1).2
 . rw[Zb4 hP];have inst:∀v∈[V1,V2,V3,V4,V5],dV v:=λv hv=>by
    simp only[Za9,Zc6,Zf3]at hv;rcases hv with rfl|rfl|rfl|rfl|rfl
    .exact F1.out.inst
    .exact F2.out.inst
    .exact F3.inst
    .exact F4.inst
    .exact F5.inst
   have k1:=F1.out.loose.resolve_left λ⟨b,off,n,e⟩=>absurd hP.1 (gh inst (b:=b) (off:=off) (n:=n) (es:=7) (by rw[<-e];simp))
   have k2:=F2.out.loose.resolve_left λ⟨b,off,n,e⟩=>absurd hP.1 (gh inst (b:=b) (off:=off) (n:=n) (es:=9) (by rw[<-e];simp))
   have k3:=F3.loose.resolve_left λ⟨b,off,n,e⟩=>absurd hP.1 (gh inst (b:=b) (off:=off) (n:=n) (es:=3) (by rw[<-e];simp))
   have k4:=F4.loose.resolve_left λ⟨b,off,n,e⟩=>absurd hP.1 (gh inst (b:=b) (off:=off) (n:=n) (es:=1) (by rw[<-e];simp))
   have k5:=F5.loose.resolve_left λ⟨b,off,n,e⟩=>absurd hP.1 (gh inst (b:=b) (off:=off) (n:=n) (es:=6) (by rw[<-e];simp))
   exact⟨s,rfl,Grew.refl hw,V1,V2,V3,V4,V5,r1,r2,rfl,⟨k1.1 s hw,F1.len,λi t r _ h=>by rw[k1.2]at h;simp at h⟩,⟨k2.1 s hw,F2.len,λi t r _ h=>by rw[k2.2]at h;simp at h⟩,k3.1 s hw,k4.1 s hw,k5.1 s hw⟩
 .rw[Za7 hP];exact⟨_,rfl,G,V1,V2,V3,V4,V5,r1,r2,rfl,F1,F2,F3,F4,F5⟩
theorem PS.pJ{s0 s1 s s':St}{Vs:List AV}{p:bE}(h:PS s1 s Vs p)(h0:Wf s0)(ON:Grew s0 s1)(hg:Grew s0 s')(hk:∀q b,s1.next.toNat<=q.toNat->s.heap.get q=some b->s'.heap.get q=some b):PS s0 s' Vs p:=by
 obtain⟨G,V1,V2,V3,V4,V5,r1,r2,rfl,F1,F2,F3,F4,F5⟩:=h;exact⟨hg,V1,V2,V3,V4,V5,r1,r2,rfl,F1.pJ h0 ON hg hk,F2.pJ h0 ON hg hk,F3.pJ h0 ON hg hk,F4.pJ h0 ON hg hk,F5.pJ h0 ON hg hk⟩
theorem PS.cells{s0 s:St}{Vs:List AV}{p:bE}(h:PS s0 s Vs p):Vs.length=5/\aV Vs=true:=by
 obtain⟨G,V1,V2,V3,V4,V5,r1,r2,rfl,F1,F2,F3,F4,F5⟩:=h;have o1:=F1.out.cells.2;have o2:=F2.out.cells.2;have o3:=F3.cells.2;have o4:=F4.cells.2;have o5:=F5.cells.2;simp only[aV,Zi9]at o1 o2 o3 o4 o5;exact⟨rfl,by simp only[aV,o1,o2,o3,o4,o5,Zj2]⟩
def kV(h:Int):List Int->List (Int×Int)->List Int->List (Int×Int)×List Int
 |[],E,q=>(E,q)
 |k::l,E,q=>if ku E k=none then kV h l (E++[(k,av .i64 ((ku E h).getD 0+1))]) (q++[k])else kV h l E q
structure WI(s0 s:St)(m:Pos)(E:List (Int×Int))(v:AV)(q:List Int):Prop where
 jW:Wf s0
 ai:Grew s0 s
 mp:s.heap.get m=some (im E)
 ant:s0.next.toNat<=m.toNat
 Nl:QS 1 s v (q.map bH)
 GY:∀b,aR v=some b->s0.next.toNat<=b.toNat
 nem:aR v≠some m
theorem aaj(l:List Int):∀r∈l.map bH,r.length=1:=λr hr=>by simp only[Zc9]at hr;obtain⟨m,_,rfl⟩:=hr;rfl
theorem atk{s0:St}{m:Pos}{lv:AV}{l:List Int}(hl:QS 1 s0 lv (l.map bH))(hll:l.length<=1000)(h:Int)(F:Nat):∀(r i f:Nat)(s:St)(E:List (Int×Int))(v:AV)(q:List Int),r<f->i+r=l.length->WI s0 s m E v (h::q)->q.length+r<=100000->
  ∃ s' v' q',kV h (l.drop i) E (h::q)=((kV h (l.drop i) E (h::q)).1,h::q')/\WI s0 s' m (kV h (l.drop i) E (h::q)).1 v' (h::q')/\q'.length<=q.length+r/\(∀p x,p≠m->aR v≠some p->s.heap.get p=some x->s'.heap.get p=some x/\aR v'≠some p)/\
    ∀(x0 RT x42 x43:AV)(k6),jR c F k6 f [x0,.map m,v,RT,x42,x43,lv,.int .i64 (l.length:Int),.int .i64 (i:Int)] s=k6 [x0,.map m,v',RT,x42,x43] s':=by
 intro r;induction r with
 |zero=>
  intro i f s E v q hf h1 hI hq;obtain⟨f,rfl⟩:∃g,f=g+1:=⟨f - 1,by omega⟩
  obtain rfl:i=l.length:=by omega
  refine⟨s,v,q,?_,?_,by omega,λp x _ hp hx=>⟨hx,hp⟩,λx0 RT x42 x43 k6=> ?_⟩
  .simp[kV]
  .simpa [kV]using hI
  .rw[wK];simp
 |succ r ih=>
  intro i f s E v q hf h1 hI hq;obtain⟨f,rfl⟩:∃g,f=g+1:=⟨f - 1,by omega⟩
  have hi:i<l.length:=by omega
  have w:av .i64 ((i:Int)+1)=((i+1:Nat):Int):=wrap64 (by omega) (by omega);have hls:QS 1 s lv (l.map bH):=hl.mono λb x _ hx=>hI.ai.get hx
  obtain⟨b,o,cs,a1,_,a3,a4⟩:=hls.at (c:=c) (R:=AV×St) (aaj l) (by decide) (i:=i) (by simpa using hi);have gi:cs[o]? =some (.int .i64 l[i]):=by simpa using a4 0 (.int .i64 l[i]) (by simp)
  have LK:=λ(K:AV->St->Option (AV×St))=>arf c K hI.mp l[i]
  rw[Zd2 hi];cases hk:ku E l[i]with
  | none=>
    obtain⟨b2,o2,cs2,d1,d0,d3,d4⟩:=hI.Nl.at (c:=c) (R:=AV×St) (aaj (h::q)) (by decide) (i:=0) (by simp);have g0:cs2[o2]? =some (.int .i64 h):=(by simpa using d4 0 (.int .i64 h) rfl);have i0:∀(K:AV->St->Option (AV×St))(s1:St),aq c (.idxA 1 none) [v,.int .i64 0] s1 K=K (.ptr b2 o2) s1:=λK s1=>d1 K .i64 s1
    have LH:=λ(K:AV->St->Option (AV×St))=>avq c K hI.mp h
    have MS:=λ(K:AV->St->Option (AV×St))=>aiy c K hI.mp hk (av .i64 ((ku E h).getD 0+1))
    generalize hd:av .i64 ((ku E h).getD 0+1)=d at MS;have lm:=hI.ai.wf _ _ hI.mp;have G1:Grew s0 (bn s m (im (E++[(l[i],d)]))):=⟨kq hI.ai.wf lm,λp x hp=>by have:=hI.jW _ _ hp;rw[aM (λe=>by have:=hI.ant;rw[e]at this;omega)];exact hI.ai.get hp,by rw[dS];exact hI.ai.next⟩
    have q1:QS 1 (bn s m (im (E++[(l[i],d)]))) v ((h::q).map bH):=hI.Nl.mono λb x hb hx=>by rw[aM (λe=>hI.nem (by rw[hb,e]))];exact hx
    have m1:=bW s m (im (E++[(l[i],d)]));obtain⟨s5,v5,e1,e2,e3,e4,e5,e6⟩:=q1.push (c:=c) (R:=AV×St) (bytes:=8) G1.wf (aaj _) (z:=[.int .i64 0]) (x:= .int .i64 l[i]) rfl rfl rfl (by decide) (by simp;omega) (by simp;omega);have I5:WI s0 s5 m (E++[(l[i],d)]) v5 (h::(q++[l[i]])):=by
        refine⟨hI.jW,⟨e3,λp x hp=> ?_,Zb2 G1.next e4⟩,e5 m _ hI.nem m1,hI.ant,by rw[<-Zd8,Zc8];exact e2,λb hb=> ?_,λe=> ?_⟩
        .refine e5 p x (λe=> ?_) (G1.get hp);have:=hI.GY p e;have:=hI.jW _ _ hp;omega
        .have:=e6 b hb;rw[dS]at this;have:=hI.ai.next;omega
        .have:=e6 m e;rw[dS]at this;omega
    obtain⟨s',v',q',f1,f2,f3,f4,f5⟩:=ih (i+1) f s5 _ v5 (q++[l[i]]) (by omega) (by omega) I5 (by simp;omega);have ew:kV h (l[i]::l.drop (i+1)) E (h::q)=kV h (l.drop (i+1)) (E++[(l[i],d)]) (h::(q++[l[i]])):=(by rw[kV,Zb4 hk,hd];rfl);rw[ew];refine⟨s',v',q',f1,f2,by simp at f3;omega,λp x kF HJ hx=> ?_,λx0 RT x42 x43 k6=> ?_⟩
    .   have hx2:=e5 p x HJ (by rw[aM (λe=>kF e.symm)];exact hx);refine f4 p x kF (λe=> ?_) hx2;have:=e6 p e;rw[dS]at this;have:=hI.ai.wf _ _ hx;omega
    .   rw[<-f5 x0 RT x42 x43 k6,wK];rw[hk]at LK;simp[-ax,iE,hi,a1,a3,gi,LK,i0,d3,g0,LH,hd,MS,e1,w]
  | some d0=>
    obtain⟨s',v',q',f1,f2,f3,f4,f5⟩:=ih (i+1) f s E v q (by omega) (by omega) hI (by omega);have ew:kV h (l[i]::l.drop (i+1)) E (h::q)=kV h (l.drop (i+1)) E (h::q):=by
        rw[kV,Za7 (by rw[hk];simp)]
    rw[ew];refine⟨s',v',q',f1,f2,by omega,f4,λx0 RT x42 x43 k6=> ?_⟩;rw[<-f5 x0 RT x42 x43 k6,wK];rw[hk]at LK;simp[iE,hi,a1,a3,gi,LK,w]
theorem acX(k d x:Int):∀E:List (Int×Int),ku (E++[(k,d)]) x=match ku E x with|some e=>some e|none=>if x=k then some d else none
 |[]=>by simp only[Ze2,ku]
 |(a,b)::E=>by
  show(if x=a then some b else ku (E++[(k,d)]) x)=_;rw[acX k d x E];show _=match (if x=a then some b else ku E x)with|some e=>some e|none=>if x=k then some d else none
  by_cases h:x=a
  .simp only[h,Zh6]
  .simp only[h,Zg7]
theorem ajP{α:Type}{P Q:α->Bool}(hPQ:∀x,P x=true->Q x=true):∀{l:List α}{a:α},a∈l->Q a=true->P a=false->l.countP P+1<=l.countP Q
 |x ::l,a,ha,h1,h2=>by
  rcases Za9.1 ha with rfl|ha
  .rw[Zp2,Zp2,h1,h2];have:=List.countP_mono_left (l:=l) (p:=P) (q:=Q) (λx _ h=>hPQ x h);simp;omega
  . have ih:=ajP hPQ ha h1 h2;rw[Zp2,Zp2];by_cases hx:P x=true
    .   rw[hx,hPQ x hx];simp;omega
    .   have:P x=false:=(by simpa using hx);rw[this];cases Q x<;>simp<;>omega
def cnt(n:Nat)(E:List (Int×Int)):Nat:=(List.range n).countP λ(i:Nat)=>(ku E (i:Int)).isNone
theorem asr{n:Nat}{E:List (Int×Int)}{k d:Int}(hk:0<=k/\k<(n:Int))(h:ku E k=none):cnt n (E++[(k,d)])+1<=cnt n E:=by
 unfold cnt;refine ajP (a:=k.toNat) (λi hi=> ?_) (Zi0.2 (by omega)) ?_ ?_
 . rw[acX]at hi;cases h2:ku E (i:Int)with
   |none=>rfl
   |some e=>rw[h2]at hi;cases hi
 .have:((k.toNat:Nat):Int)=k:=(by omega);rw[this,h];rfl
 .have:((k.toNat:Nat):Int)=k:=(by omega);rw[this,acX,h];simp
theorem LO{n:Nat}(h:Int):∀(l:List Int)(E:List (Int×Int))(q:List Int),(∀k∈l,0<=k/\k<(n:Int))->(∀k∈q,0<=k/\k<(n:Int))->
  cnt n (kV h l E q).1+(kV h l E q).2.length<=cnt n E+q.length/\∀k∈(kV h l E q).2,0<=k/\k<(n:Int)
 |[],E,q,_,hq=>⟨Za5 _,hq⟩
 |k ::l,E,q,hl,hq=>by
  have hk:=hl k (by simp);by_cases hn:ku E k=none
  . rw[kV,Zb4 hn];obtain⟨a,b⟩:=LO h l (E++[(k,av .i64 ((ku E h).getD 0+1))]) (q++[k]) (λx hx=>hl x (Zb0 _ hx)) (λx hx=>by
        rcases Ze0.1 hx with hx|hx
        .exact hq x hx
        .simp at hx;subst hx;exact hk)
    have:=asr (d:=av .i64 ((ku E h).getD 0+1)) hk hn;simp only[Zd9,Zc7,Zi2]at a;exact⟨by omega,b⟩
  .rw[kV,Za7 hn];exact LO h l E q (λx hx=>hl x (Zb0 _ hx)) hq
structure RL(s:St)(V:AV)(rows:List (List Int))(ws:List AV):Prop where
 out:QS 1 s V (ws.map λw=>[w])
 len:ws.length=rows.length
 eI:∀(i:Nat)(w:AV)(r:List Int),ws[i]? =some w->rows[i]? =some r->QS 1 s w (r.map bH)
 mj:∀w∈ws,w.cells=[w]
def aak(rB rA:List (List Int)):Nat->List (Int×Int)->List Int->List (Int×Int)
 |0,E,_=>E
 |_+1,E,[]=>E
 |f+1,E,h::q=>aak rB rA f (kV h (rA.getD h.toNat []) (kV h (rB.getD h.toNat []) E (h::q)).1 (kV h (rB.getD h.toNat []) E (h::q)).2).1 (kV h (rA.getD h.toNat []) (kV h (rB.getD h.toNat []) E (h::q)).1 (kV h (rB.getD h.toNat []) E (h::q)).2).2.tail
theorem auP(hc:Sem c){s0:St}{jb m:Pos}{jc:List AV}{VB VA:AV}{rB rA:List (List Int)}{wB wA:List AV}{n:Nat}(hn:n<=10000)(hj:s0.heap.get jb=some (.cells jc 0))(h9:jc[9]? =some VB)(h10:jc[10]? =some VA)
  (hB:RL s0 VB rB wB) (hA:RL s0 VA rA wA) (lB:rB.length=n) (lA:rA.length=n) (eB:∀r∈rB,r.length<=1000/\∀k∈r,0<=k/\k<(n:Int)) (eA:∀r∈rA,r.length<=1000/\∀k∈r,0<=k/\k<(n:Int)) (F:Nat) (hF:1010<=F) (k2):
  ∀(f g:Nat)(s:St)(E:List (Int×Int))(v:AV)(q:List Int),f<g->cnt n E+q.length<=f->f<=20000->(∀k∈q,0<=k/\k<(n:Int))->WI s0 s m E v q->
   ∃s',Grew s0 s'/\s'.heap.get m=some (im (aak rB rA f E q))/\pn c F k2 g [.ptr jb 0,.map m,v] s=k2 [.map m] s':=by
 intro f;induction f with
 |zero=>
  intro g s E v q hg h1 hf h2 hI;obtain⟨g,rfl⟩:∃g',g=g'+1:=⟨g - 1,by omega⟩
  obtain rfl:q=[]:=Zc4 (by omega);refine⟨s,hI.ai,hI.mp,?_⟩;have hl:∀(K:AV->St->Option (AV×St))(t:St),aq c (.lenB .l) [v] t K=K (.int .i64 0) t:=λK t=>by rw[hI.Nl.lenB];simp
  rw[wM];simp[hl]
 |succ f ih=>
  intro g s E v q hg h1 hf h2 hI;obtain⟨g,rfl⟩:∃g',g=g'+1:=⟨g - 1,by omega⟩
  have hl:∀(K:AV->St->Option (AV×St))(t:St),aq c (.lenB .l) [v] t K=K (.int .i64 (q.length:Int)) t:=λK t=>by rw[hI.Nl.lenB];simp
  cases q with
  |nil=>
   refine⟨s,hI.ai,hI.mp,?_⟩;rw[wM];simp[hl]
  |cons h q=>
   have hh:=h2 h (by simp);obtain⟨i,rfl⟩:∃i:Nat,h=(i:Int):=⟨h.toNat,by omega⟩
   have hi:i<n:=(by omega);have hw:=hI.ai.wf;obtain⟨b0,o0,cs0,_,d2,_,d4,_,d6,_⟩:=hI.Nl.set (c:=c) (R:=AV×St) (aaj _) (by decide) (i:=0) (by simp);have g0:cs0[o0]? =some (.int .i64 (i:Int)):=(by simpa using d6 0 (.int .i64 (i:Int)) rfl);have j0:∀(K:AV->Option (AV×St)),fq (.idxA 1 none) [v,.int .i64 0] K=K (.ptr b0 o0):=λK=>d2 K .i64
   have one:∀(ws:List AV),∀r∈ws.map (λw=>[w]),r.length=1:=λws r hr=>by simp only[Zc9]at hr;obtain⟨w,_,rfl⟩:=hr;rfl
   have iB:i<wB.length:=(by rw[hB.len,lB];exact hi);have iA:i<wA.length:=(by rw[hA.len,lA];exact hi);obtain⟨b1,o1,cs1,_,e2,_,e4,_,e6,_⟩:=(hB.out.mono (s':=s) λb x _ hx=>hI.ai.get hx).set (c:=c) (R:=AV×St) (one wB) (by decide) (i:=i) (by simpa using iB);have gB:cs1[o1]? =some wB[i]:=(by simpa using e6 0 wB[i] (by simp));have jB:∀(K:AV->Option (AV×St)),fq (.idxA 1 none) [VB,.int .i64 (i:Int)] K=K (.ptr b1 o1):=λK=>e2 K .i64
   obtain⟨b2,o2,cs2,_,f2,_,f4,_,f6,_⟩:=(hA.out.mono (s':=s) λb x _ hx=>hI.ai.get hx).set (c:=c) (R:=AV×St) (one wA) (by decide) (i:=i) (by simpa using iA);have gA:cs2[o2]? =some wA[i]:=(by simpa using f6 0 wA[i] (by simp));have jA:∀(K:AV->Option (AV×St)),fq (.idxA 1 none) [VA,.int .i64 (i:Int)] K=K (.ptr b2 o2):=λK=>f2 K .i64
   have jbs:=hI.ai.get hj;have nc:∀(K:AV->Option (AV×St)),fq .nilCheck [.ptr jb 0] K=K (.ptr jb 0):=λK=>dw K (λH n=>rfl)
   have Dp:cS [AV.af,.af] [(0,1),(1,1)] [wB[i],wA[i]]=some [wB[i],wA[i]]:=by
        simp[cS,dH,dG,bf,hB.mj _ (Zb8 iB),hA.mj _ (Zb8 iA)]
   have avL:cS (cg [AV.af] 2) [(0,1),(1,1)] [wB[i],wA[i]]=some [wB[i],wA[i]]:=Dp;have G1:=Grew.ah hw (.cells [wB[i],wA[i]] 0);have I1:WI s0 (ah s (.cells [wB[i],wA[i]] 0)) m E v ((i:Int)::q):=⟨hI.jW,hI.ai.trans G1,G1.get hI.mp,hI.ant,hI.Nl.mono λb x _ hx=>G1.get hx,hI.GY,hI.nem⟩
   have X1:=aB s (.cells [wB[i],wA[i]] 0);have lv:∀b,aR v=some b->b.toNat<s.next.toNat:=λb hb=>hI.Nl.lt hw hb
   have lm:m.toNat<s.next.toNat:=hw _ _ hI.mp;have rBi:rB[i]? =some rB[i]:=H0 (by omega);have rAi:rA[i]? =some rA[i]:=H0 (by omega);have QB:=hB.eI i wB[i] rB[i] (H0 iB) rBi;have QA:=hA.eI i wA[i] rA[i] (H0 iA) rAi;have sB:=eB _ (Zb8 (by omega:i<rB.length));have sA:=eA _ (Zb8 (by omega:i<rA.length));have hq:q.length<=20000:=(by simp only[Zc7]at h1;omega);obtain⟨s2,v2,q2,k1,k2',k3,k4,k5⟩:=atk (c:=c) QB sB.1 (i:Int) F rB[i].length 0 F _ E v q (by omega) (by omega) I1 (by omega);rw[Ze3]at k1 k2';obtain⟨Y1,Z1⟩:=k4 s.next _ (λe=>by rw[<-e]at lm;omega) (λe=>by have:=lv _ e;omega) X1;obtain⟨s3,v3,q3,l1,l2,l3,l4,l5⟩:=atk (c:=c) QA sA.1 (i:Int) F rA[i].length 0 F _ _ v2 q2 (by omega) (by omega) k2' (by omega);rw[Ze3]at l1 l2;obtain⟨Y2,Z2⟩:=l4 s.next _ (λe=>by rw[<-e]at lm;omega) Z1 Y1;obtain⟨v4,t1,t2,t3⟩:=QS.tail (R:=AV×St) (c:=c) (r:=bH (i:Int)) (rows:=q3.map bH) l2.Nl rfl;obtain⟨n1,n2⟩:=LO (n:=n) (i:Int) rB[i] E ((i:Int)::q) sB.2 h2;rw[k1]at n1 n2;obtain⟨n3,n4⟩:=LO (n:=n) (i:Int) rA[i] (kV (i:Int) rB[i] E ((i:Int)::q)).1 ((i:Int)::q2) sA.2 n2;rw[l1]at n3 n4;have I4:WI s0 s3 m (kV (i:Int) rA[i] (kV (i:Int) rB[i] E ((i:Int)::q)).1 ((i:Int)::q2)).1 v4 q3:=⟨l2.jW,l2.ai,l2.mp,l2.ant,t2,λb hb=>l2.GY b (t3 b hb),λe=>l2.nem (t3 _ e)⟩
   obtain⟨s5,u1,u2,u3⟩:=ih g s3 _ v4 q3 (by omega) (by simp only[Zc7]at n1 n3 h1;omega) (by omega) (λk hk=>n4 k (Zb0 _ hk)) I4;have ew:aak rB rA (f+1) E ((i:Int)::q)=aak rB rA f (kV (i:Int) rA[i] (kV (i:Int) rB[i] E ((i:Int)::q)).1 ((i:Int)::q2)).1 q3:=(by have gb:rB.getD ((i:Int)).toNat []=rB[i]:=(by simp[List.getD,rBi]);have ga:rA.getD ((i:Int)).toNat []=rA[i]:=(by simp[List.getD,rAi]);rw[aak,gb,ga];have e1:(kV (i:Int) rB[i] E ((i:Int)::q)).2=(i:Int)::q2:=(by rw[k1]);rw[e1];have e2:(kV (i:Int) rA[i] (kV (i:Int) rB[i] E ((i:Int)::q)).1 ((i:Int)::q2)).2=(i:Int)::q3:=(by rw[l1]);rw[e2];rfl);refine⟨s5,u1,by rw[ew];exact u2,?_⟩;obtain⟨F',rfl⟩:∃F',F=F'+3:=⟨F - 3,by omega⟩
   have x0:∀(K:AV->St->Option (AV×St))(t:St),aq c (.idxA 1 none) [.slice s.next 0 2 (some 2) 1,.int .i64 0] t K=K (.ptr s.next 0) t:=λK t=>je c K t (i:=0) (k:= .i64) (es:=1) (by omega)
   have x1:∀(K:AV->St->Option (AV×St))(t:St),aq c (.idxA 1 none) [.slice s.next 0 2 (some 2) 1,.int .i64 1] t K=K (.ptr s.next 1) t:=λK t=>je c K t (i:=1) (k:= .i64) (es:=1) (by omega)
   have y0:∀(K:AV->St->Option (AV×St))(t:St),aq c (.lenB .l) [wB[i]] t K=K (.int .i64 (rB[i].length:Int)) t:=λK t=>by rw[QB.lenB];simp
   have y1:∀(K:AV->St->Option (AV×St))(t:St),aq c (.lenB .l) [wA[i]] t K=K (.int .i64 (rA[i].length:Int)) t:=λK t=>by rw[QA.lenB];simp
   have y2:∀(K:AV->Option (AV×St)),fq (.lenB .l) [.slice s.next 0 2 (some 2) 1] K=K (.int .i64 2):=λK=>dw K (λH n=>rfl)
   have w1:av .i64 (1:Int)=1:=rfl;have w2:av .i64 (2:Int)=2:=rfl;have R1:∀k4,fL c (F'+3) k4 (F'+3) [.ptr jb 0,.map m,v,.slice s.next 0 2 (some 2) 1,.int .i64 2,.int .i64 0] (ah s (.cells [wB[i],wA[i]] 0))=fL c (F'+3) k4 (F'+2) [.ptr jb 0,.map m,v2,.slice s.next 0 2 (some 2) 1,.int .i64 2,.int .i64 1] s2:=λk4=>by
        (rw[wO];have:=λk6=>k5 (.ptr jb 0) (.slice s.next 0 2 (some 2) 1) (.int .i64 2) (.int .i64 0) k6);simp at this;simp[x0,X1,y0,this,w1]
   have R2:∀k4,fL c (F'+3) k4 (F'+2) [.ptr jb 0,.map m,v2,.slice s.next 0 2 (some 2) 1,.int .i64 2,.int .i64 1] s2=fL c (F'+3) k4 (F'+1) [.ptr jb 0,.map m,v3,.slice s.next 0 2 (some 2) 1,.int .i64 2,.int .i64 2] s3:=λk4=>by
        (rw[wO];have:=λk6=>l5 (.ptr jb 0) (.slice s.next 0 2 (some 2) 1) (.int .i64 2) (.int .i64 1) k6);simp at this;simp[x1,Y1,y1,this,w2]
   have R3:∀k4,fL c (F'+3) k4 (F'+1) [.ptr jb 0,.map m,v3,.slice s.next 0 2 (some 2) 1,.int .i64 2,.int .i64 2] s3=k4 [.ptr jb 0,.map m,v3] s3:=λk4=>by rw[wO];simp
   rw[<-u3,wM];have Xv:0<(q.length:Int)+1:=(by omega);simp[hl,Xv,nc,jbs,h9,h10,j0,d4,g0,jB,e4,gB,jA,f4,gA,avL,y2,R1,R2,R3,t1]
def adN(rB rA:List (List Int))(n:Nat)(fr:Int):List (Int×Int):=aak rB rA (n+1) [(fr,0)] [fr]
theorem auQ(hc:Sem c){jb:Pos}{jc:List AV}{VB VA:AV}{rB rA:List (List Int)}{wB wA:List AV}{n:Nat}(hn:n<=10000)(s:St)(hw:Wf s)(hj:s.heap.get jb=some (.cells jc 0))(h9:jc[9]? =some VB)(h10:jc[10]? =some VA)
  (hB:RL s VB rB wB) (hA:RL s VA rA wA) (lB:rB.length=n) (lA:rA.length=n) (eB:∀r∈rB,r.length<=1000/\∀k∈r,0<=k/\k<(n:Int)) (eA:∀r∈rA,r.length<=1000/\∀k∈r,0<=k/\k<(n:Int)) (fr:Int) (Ft:0<=fr/\fr<(n:Int)):
  ∃m s',c 67 [.ptr jb 0,.int .i64 fr] s=some (.map m,s')/\Grew s s'/\s.next.toNat<=m.toNat/\s'.heap.get m=some (im (adN rB rA n fr)):=by
 have dm:Wf (ah s (im [])):=bP hw;have g1:=Grew.ah hw (im []);have m1:=aB s (im []);have MS:=λ(K:AV->St->Option (AV×St))=>aiy c K m1 (x:=fr) rfl 0
 have lm:=dm _ _ m1;have G2:Grew s (bn (ah s (im [])) s.next (im ([]++[(fr,0)]))):=⟨kq dm lm,λp x hp=>by have:=hw _ _ hp;rw[aM (λe=>by rw[<-e]at this;omega)];exact g1.get hp,by rw[dS];exact g1.next⟩
 have m2:=bW (ah s (im [])) s.next (im ([]++[(fr,0)]));generalize uy:bn (ah s (im [])) s.next (im ([]++[(fr,0)]))=s2 at MS G2 m2;have row:=λ(K:AV->St->Option (AV×St))=>Gr (c:=c) (es:=1) (z:=[.int .i64 0]) (x:= .int .i64 fr) rfl rfl s2 K
 have g3:=Grew.ah G2.wf (.cells (AV.cells (.int .i64 fr)) 0);have lm2:=G2.wf _ _ m2;have I:WI s (ah s2 (.cells (AV.cells (.int .i64 fr)) 0)) s.next [(fr,0)] (.slice s2.next 0 1 (some 1) 1) [fr]:=by
  refine⟨hw,G2.trans g3,g3.get m2,Za5 _,.inr (.inl ⟨s2.next,0,some 1,[.int .i64 fr],rfl,aB _ _,by simp,by simp,.inr rfl⟩),λb hb=> ?_,λe=> ?_⟩
  .obtain rfl:=tI hb;exact G2.next
  .have:=congrArg Pos.toNat (tI e);omega
 have hc1:cnt n [(fr,0)]+[fr].length<=n+1:=by
  have:cnt n [(fr,0)]<=n:=by unfold cnt;exact Zb2 List.countP_le_length (by simp)
  simp;omega
 obtain⟨s',u1,u2,u3⟩:=auP hc hn hj h9 h10 hB hA lB lA eB eA 20000 (by omega) (λvs s59=>ir vs λx5 vs=>mG vs (aq c .move [x5] s59 λx75 s60=>aq c .move [x75] s60 λx4 s61=>some (x4,s61))) (n+1) 20000 _ _ _ [fr] (by omega) hc1 (by omega) (λk hk=>by simp at hk;subst hk;exact Ft) I;refine⟨s.next,s',?_,u1,Za5 _,u2⟩;rw[Xa hc 20000 (r:=(.map s.next,s')),ajB];rw[aa1];have hmk:∀(K:AV->St->Option (AV×St)),aq c .mkMap [] s K=K (.map s.next) (ah s (im [])):=λK=>by rw[XV];rfl
 simp at u3;simp[-ax,-XV,hmk,MS,row,u3]
theorem auR(hc:Sem c)(z:Bool)(ts:List aC)(cF:∀t∈ts,t.Ok){pb sb:Pos}{cs:List AV}(h0:cs[0]? =some (tabs z ts))(a b:Int)(ha:a<=4611686018427387904)(hb:b<=4611686018427387904)(s:St)(hw:Wf s)
  (hp:s.heap.get pb=some (.cells cs 0)) (hs:s.heap.get sb=some (.cells [.int .i64 a] 0)):
  c 63 [.int .i64 b,.ptr pb 0,.ptr sb 0] s=some (.bool (GN ts a b),s):=by
 have B:=apx hc z ts cF a b ha hb s hw;rw[afy hc 1 (r:=(.bool (GN ts a b),s)),aE (Plain.bool _) (aZ.refl s)];rw[ajQ];simp[hp,hs,h0,B]
theorem auS(hc:Sem c)(z:Bool)(ts:List aC)(cF:∀t∈ts,t.Ok){pb sb:Pos}{cs:List AV}(h0:cs[0]? =some (tabs z ts))(a b:Int)(ha:a<=4611686018427387904)(hb:b<=4611686018427387904)(s:St)(hw:Wf s)
  (hp:s.heap.get pb=some (.cells cs 0)) (hs:s.heap.get sb=some (.cells [.int .i64 a] 0)):
  c 65 [.int .i64 b,.ptr pb 0,.ptr sb 0] s=some (.bool (GO ts a b),s):=by
 have B:=apy hc z ts cF a b ha hb s hw;rw[afz hc 1 (r:=(.bool (GO ts a b),s)),aE (Plain.bool _) (aZ.refl s)];rw[ajR];simp[hp,hs,h0,B]
theorem apM(hc:Sem c)(z:Bool)(ts:List aC)(cF:∀t∈ts,t.Ok){pb sb:Pos}{cs:List AV}(h0:cs[0]? =some (tabs z ts))(a:Int)(ha:a<=1000000){first:Int}(hf:0<=first/\first<=1000000){n:Nat}(hn:n<=1000000)(s:St)(hw:Wf s)
  (hp:s.heap.get pb=some (.cells cs 0)) (hs:s.heap.get sb=some (.cells [.int .i64 a] 0)):
  ∃v s',c 62 [.int .i64 first,.int .i64 (n:Int),.func 63 [] [.ptr pb 0,.ptr sb 0]] s=some (v,s')/\Mk 1 s s' v ((mA first n (GN ts a)).map bH):=
 ajL hc hf hn hw λk t hg h1 h2=>auR hc z ts cF h0 a k (by omega) (by omega) t hg.wf (hg.get hp) (hg.get hs)
theorem apN(hc:Sem c)(z:Bool)(ts:List aC)(cF:∀t∈ts,t.Ok){pb sb:Pos}{cs:List AV}(h0:cs[0]? =some (tabs z ts))(a:Int)(ha:a<=1000000){first:Int}(hf:0<=first/\first<=1000000){n:Nat}(hn:n<=1000000)(s:St)(hw:Wf s)
  (hp:s.heap.get pb=some (.cells cs 0)) (hs:s.heap.get sb=some (.cells [.int .i64 a] 0)):
  ∃v s',c 62 [.int .i64 first,.int .i64 (n:Int),.func 65 [] [.ptr pb 0,.ptr sb 0]] s=some (v,s')/\Mk 1 s s' v ((mA first n (GO ts a)).map bH):=
 ajL hc hf hn hw λk t hg h1 h2=>auS hc z ts cF h0 a k (by omega) (by omega) t hg.wf (hg.get hp) (hg.get hs)
theorem apO(z:Bool)(ts:List aC)(k:Nat)(hk:k<ts.length)(K:AV->St->Option (AV×St))(s:St):aq c (.sliceL 7 true true false) [tabs z ts,.int .i64 (k:Int),.int .i64 ((k+1:Nat):Int)] s K=K (tabs false [ts[k]]) s:=by
 have e:tabs z ts= .fl (ts.map aC.cells) 7:=by
  unfold tabs;exact aeV (by intro h;have:=congrArg List.length h;simp at this;subst this;simp at hk)
 have run:∀(H:Pos->Option AB)(n:Pos),aJ.run H n (.sliceL 7 true true false) [tabs z ts,.int .i64 (k:Int),.int .i64 ((k+1:Nat):Int)]=some (.val (tabs false [ts[k]])):=λH n=>by
  rw[e];have hb:bounds true true false [.int .i64 (k:Int),.int .i64 ((k+1:Nat):Int)]=some (some k,some (k+1),none):=rfl;have h1:k+1<=(ts.map aC.cells).length:=by simp;omega
  simp only[aJ.run,iD,hb,dH,dG,Zf6,Ze6,Za0 (Nat.le_succ k),Za0 h1];have:((ts.map aC.cells).take (k+1)).drop k=[ts[k].cells]:=by rw[Zc2 (by simpa using hk),Zh1 (by simp;omega)];simp
  rw[this];rfl
 exact aY c K run s
theorem apP(hc:Sem c)(t:aC)(cF:t.Ok)(h:sN t=0)(s:St)(hw:Wf s):c 59 [tabs false [t]] s=some (.int .i64 (bQ t),s):=by
 rw[GU hc false [t] (λu hu=>by simp at hu;subst hu;exact cF) s hw,Zb4 (Iq h)];simp[bg]
def mnS(a b:List Nat):List Nat:=match aU a b||kH a b with|true=>a|false=>b
def mxS(a b:List Nat):List Nat:=match aU a b with|true=>b|false=>a
theorem ass(hc:Sem c)(a b:List Nat)(k:Int)(st:St)(hw:Wf st):c 186 [.str a,.str b,.int .u8 k] st=some (.agg (Ty.cells ⟨mnS a b,mxS a b,k⟩),st):=by
 rw[RD hc 1 (r:=(.agg (Ty.cells ⟨mnS a b,mxS a b,k⟩),ah st (.cells (Ty.cells ⟨mnS a b,mxS a b,k⟩) 0))),aE (Plain.agg (by simp[Ty.cells,Plain.str,Plain.int])) (cM hw)];rw[YJ];have m1:∀(K:AV->St->Option (AV×St))(s:St),aq c .minB [.str a,.str b] s K=K (.str (mnS a b)) s:=λK s=>aY c K (λH n=>rfl) s
 have m2:∀(K:AV->St->Option (AV×St))(s:St),aq c .maxB [.str a,.str b] s K=K (.str (mxS a b)) s:=λK s=>aY c K (λH n=>rfl) s
 simp[m1,m2,cS,bf,dG,AV.cells,aV,AV.one,cQ,Ty.cells]
theorem YU{ts:List Ty}(hs:FF ts)(t:Ty):∀n,n<=ts.length->∃q,q<=n/\(∀h (hh:h<ts.length),h<q->fT ts[h] t=true)/\∀h (hh:h<ts.length),q<=h->h<n->fT ts[h] t=false
 |0,_=>⟨0,Za5 _,λh _ hq=>absurd hq (Nat.not_lt_zero _),λh _ _ hq=>absurd hq (Nat.not_lt_zero _)⟩
 |n+1,hn=>by
  obtain⟨q,h1,h2,h3⟩:=YU hs t n (by omega);cases hb:fT (ts[n]'(by omega)) t with
  |true=>
   refine⟨n+1,Za5 _,λh hh hq=> ?_,λh hh OR hq2=>by omega⟩;by_cases e:h=n
   .subst e;exact hb
   .exact LM (hs h n (by omega) (by omega)) hb
  |false=>
   refine⟨q,by omega,h2,λh hh OR hq2=> ?_⟩;by_cases e:h=n
   .subst e;exact hb
   .exact h3 h hh OR (by omega)
open Classical in
noncomputable def JB(ts:List Ty)(t:Ty):Nat:=if h:FF ts then Classical.choose (YU h t ts.length (Za5 _))else 0
theorem auT{ts:List Ty}(hs:FF ts)(t:Ty):JB ts t<=ts.length/\(∀h (hh:h<ts.length),h<JB ts t->fT ts[h] t=true)/\∀h (hh:h<ts.length),JB ts t<=h->h<ts.length->fT ts[h] t=false:=by
 unfold JB;rw[dif_pos hs];exact Classical.choose_spec (YU hs t ts.length (Za5 _))
def D4(a b:List Nat):Ty:=⟨mnS a b,mxS a b,0⟩
noncomputable def P9(ts:List Ty)(a b:List Nat):Int:=if Bg ts (D4 a b) (JB ts (D4 a b))then(match ts[JB ts (D4 a b)]? with|some t=>t.k|none=>0)else 0
theorem apQ(hc:Sem c){s0 s:St}{bp mp:Pos}{gs:List aS}{ts:List Ty}{gk tk:Option Pos}(B:eV s0 s bp mp gs ts gk tk)(hl:ts.length<=1000)(a b:List Nat)(hs:FF ts):
   (Bg ts (D4 a b) (JB ts (D4 a b))=true->JB ts (D4 a b)<ts.length)/\c 137 [.ptr bp 0,.str a,.str b] s=some (.tuple [.int .i64 (JB ts (D4 a b):Int),.bool (Bg ts (D4 a b) (JB ts (D4 a b)))],s):=by
 obtain⟨h1,h2,h3⟩:=auT hs (D4 a b);generalize JB ts (D4 a b)=q at*
 unfold D4 at*
 refine⟨λe=> ?_,?_⟩
 . by_cases h:q<ts.length
   .exact h
   .unfold Bg at e;rw[Zc0 (by omega)]at e;cases e
 have hpr:=ass hc a b 0 s B.wf;have HF:=atg hc ts hl ⟨mnS a b,mxS a b,0⟩ q h1 h2 (λh hh hq=>h3 h hh hq hh) tk s B.wf B.yw.1 B.yw.2;rw[DU hc 1 (r:=(.tuple [.int .i64 (q:Int),.bool (Bg ts ⟨mnS a b,mxS a b,0⟩ q)],s)),aE (Plain.tuple (by simp[Plain.int,Plain.bool])) (aZ.refl s)];rw[Io];have bq:eJ (lu tk ts.length 3) (lu tk ts.length 3)=true:=by cases tk;exact Tq;exact OM _ _ _ _
 have FE:=λ(K:AV->Option (AV×St))=>lH K (p:=bp) (o:=1) (h:=s.heap) (h2:=s.heap) (v:=lu tk ts.length 3) (by rw[B.book];rfl) (by rw[B.book];rfl) bq
 simp[hpr,FE,HF]
theorem auU(hc:Sem c){s0 s:St}{bp mp:Pos}{gs:List aS}{ts:List Ty}{gk tk:Option Pos}(B:eV s0 s bp mp gs ts gk tk)(hl:ts.length<=1000)(hs:FF ts)(a b:List Nat):
  ∃(ok:Bool),c 70 [.ptr bp 0,.str a,.str b] s=some (.tuple [.int .u8 (P9 ts a b),.bool ok],s):=by
 obtain⟨h1,h2⟩:=apQ hc B hl a b hs;unfold P9;generalize JB ts (D4 a b)=q at*
 generalize Bg ts (D4 a b) q=ok at*
 have hn:=aag hc s bp mp _ _ B.book;cases ok with
 |false=>
  refine⟨false,?_⟩;simp only[Ze7,Zg7];rw[FH hc 1 (r:=(.tuple [.int .u8 0,.bool false],s)),aE (Plain.tuple (by simp[Plain.int,Plain.bool])) (aZ.refl s)];rw[JY];simp[hn,h2]
 |true=>
  have hq:=h1 rfl;obtain⟨t,rfl⟩:∃t,tk=some t:=by
   cases tk with
   |none=>rw[B.yw.1 rfl]at hq;simp at hq
   |some t=>exact⟨t,rfl⟩
  have uO:=B.yw.2 t rfl;simp only[Zh6];rw[H0 hq];simp only;obtain⟨k,pX⟩:∃k,k=ts[q].k:=⟨_,rfl⟩
  have hk:(ts[q].cells)[2]? =some (.int .u8 k):=by rw[pX];rfl
  rw[<-pX];have Dm:(ts.flatMap Ty.cells)[q*3+2]? =some (.int .u8 k):=by have:=Go.Ai.yU (rows:=ts.map Ty.cells) (es:=3) (λr hr=>by simp only[Zc9]at hr;obtain⟨t,_,rfl⟩:=hr;rfl) q 2 ts[q].cells (.int .u8 k) (by rw[Zb3,H0 hq];rfl) hk;exact this
  refine⟨true,?_⟩;have ix:=λ(K:AV->St->Option (AV×St))(s:St)=>je c K s (b:=t) (off:=0) (es:=3) (es':=3) (cap:=none) (k:= .i64) hq
  rw[FH hc 1 (r:=(.tuple [.int .u8 k,.bool true],s)),aE (Plain.tuple (by simp[Plain.int,Plain.bool])) (aZ.refl s)];rw[JY];simp[hn,h2,B.book,lu,ix,uO,Dm]
def uB:aS:=⟨[],[],[],0,0,[],false,false,true,[]⟩
def Vy(gs:List aS)(a:List Nat):Option aS:=gs.find? λg=>decide (g.name=a)
theorem ast{a:List Nat}:∀{gs:List aS},a∉gs.map aS.name->Vy gs a=none:=λh=>List.find?_eq_none.2 λg hg e=>h (Zc9.2 ⟨g,hg,Zh7 e⟩)
theorem apR(a:List Nat):∀(gs:List aS)(es:List (AV×AV×Nat))(k i j:Nat)(v:AV),es.map (·.1)=gs.map (λg=>.str g.name)->es.map (λe=>e.2.1)=(List.range' k gs.length).map (λ(i:Nat)=>AV.int .i64 (i:Int))->gX .s (.str a) es i=some (some (j,v))->
  ∃n:Nat,v= .int .i64 ((k+n:Nat):Int)/\n<gs.length/\Vy gs a=gs[n]?
 |[],es,k,i,j,v,h,_,hf=>by
  have:es=[]:=by simpa using h
  subst this;cases hf
 |g::gs,[],k,i,j,v,h,_,_=>by simp at h
 |g ::gs,(k',v',m)::es,k,i,j,v,h,h2,hf=>by
  simp only[Zd1,Zf8,Zc7,Zp0]at h h2;obtain⟨e1,h⟩:=h;obtain⟨e2,h2⟩:=h2;subst e1 e2;by_cases e:a=g.name
  .subst e;simp[gX,yE,gV]at hf;exact⟨0,by rw[<-hf.2];rfl,by simp,by unfold Vy;simp⟩
  .have hf:gX .s (.str a) es (i+1)=some (some (j,v)):=(by simpa [gX,yE,gV,e]using hf);obtain⟨n,h3,h4,h5⟩:=apR a gs es (k+1) (i+1) j v h h2 hf;refine⟨n+1,by rw[h3];congr 2;omega,by simpa using h4,?_⟩;unfold Vy at h5 ⊢;rw[List.find?_cons_of_neg (by simpa using λe'=>e e'.symm),h5];simp
theorem ajS(hc:Sem c){s0 s:St}{bp mp:Pos}{gs:List aS}{ts:List Ty}{gk tk:Option Pos}(B:eV s0 s bp mp gs ts gk tk)(a:List Nat):
   ∃(v:AV) (s':St),c 132 [.ptr bp 0,.str a] s=some (.tuple [.agg (((Vy gs a).getD uB).ay v),.bool (Vy gs a).isSome],s')/\Mk 1 s s' v (((Vy gs a).getD uB).tg.map qG)/\((Vy gs a).getD uB).tg.length<=4:=by
 have hn:=λ(t:St)(hg:Grew s t)=>aag hc t bp mp _ _ (B.ai hg).book
 obtain⟨es,cl,m1,m2⟩:=B.Av;have hw:=B.wf;have G0:=Grew.ah hw (.cells (uB.ay .af) 0);have QV:=hn _ G0;rcases HA a gs es 0 m2 with⟨yL,j,v,hf⟩|⟨yL,hf⟩
 . obtain⟨i,hi,aW,hbk⟩:=apR a gs es 0 0 j v m2 (by rw[B.Qa es cl m1,Zl4]) hf;rw[Zb1]at hi;rw[hbk,H0 aW,Ze6,Zq2];obtain⟨b,rfl⟩:∃b,gk=some b:=by
    cases gk with
    |none=>rw[B.sx.1 rfl]at aW;simp at aW
    |some b=>exact⟨b,rfl⟩
   obtain⟨cs,c1,c2⟩:=B.sx.2 b rfl;obtain⟨lo,l4,w,gO,w1,w2,Q,_⟩:=B.rows b cs rfl c1 i gs[i] (H0 aW);obtain⟨v,s3,h3,M⟩:=agp hc gs[i] lo (by omega) (src:=w) _ (bP hw) (.inr (Q.mono λp x _ hx=>G0.get hx)) w1 w2;have M1:=M.back hw G0;have hcut:cut cs (i*9) 9=some ((gs[i]).ay w):=by
    unfold cut;have:i*9+9<=cs.length:=(by omega);rw[dG,Za0 this,gO]
   have hz:s3.heap.get s.next=some (.cells (uB.ay .af) 0):=M.ai.get (aB _ _);have hv:=M.cells;have ho:aV ((gs[i]).ay v)=true:=(gs[i]).MT hv.2
   let s4:=bn s3 s.next (.cells ((gs[i]).ay v) 0)
   have am5:s.next.toNat<s3.next.toNat:=(by have:=M.ai.next;rw[bX,Pos.aH]at this;omega);have M4:Mk 1 s s4 v ((gs[i]).tg.map qG):=M1.store (Za5 _) am5 (λe=>by have:=M.new _ e;rw[bX,Pos.aH]at this;omega);have tH:∀u∈(gs[i]).ay v,dV u:=λu hu=>by
    simp only[aS.ay,Za9,Zc6,Zf3]at hu;rcases hu with rfl|rfl|rfl|rfl|rfl|rfl|rfl|rfl|rfl
    .exact dV.str lo.name
    .exact dV.str lo.Au
    .exact dV.str lo.j5
    .exact dV.int _ _
    .exact dV.int _ _
    .exact dV.str lo.mY
    .exact dV.bool _
    .exact dV.bool _
    .exact M.inst
   obtain⟨s5,t1,t2⟩:=M4.alr (l:=(gs[i]).ay v) (by simp[aS.ay]) tH true;refine⟨v,s5,?_,t2,l4⟩;have ix:=λ(K:AV->St->Option (AV×St))(s:St)=>je c K s (b:=b) (off:=0) (es:=9) (es':=9) (cap:=none) (k:= .i64) aW
   have lk:=λ(K:AV->St->Option (AV×St))=>CH c K (.int .i64 0) (st:=ah s (.cells (uB.ay .af) 0)) (k:= .str a) (G0.get m1) hf
   have bK:=λ(K:AV->St->Option (AV×St))=>cH c K s3 9 s.next 0 (.agg ((gs[i]).ay v)) _ hz rfl (by simp[uB,aS.ay]) ho
   have A4:bf (uB.ay .af) 0 (AV.agg ((gs[i]).ay v)).cells=(gs[i]).ay v:=rfl;rw[A4]at bK;have hg4:s4.heap.get s.next=some (.cells ((gs[i]).ay v) 0):=bW _ _ _;have hca:cut ((gs[i]).ay v) 0 9=some ((gs[i]).ay v):=cQ rfl;have b1:=G0.get B.book;have c3:=G0.get c1;rw[FJ hc 1 (r:=(.tuple [.agg ((gs[i]).ay v),.bool true],s4)),t1];rw[JZ];have al:∀(K:AV->St->Option (AV×St)),aq c (.alloc [(.str []),(.str []),(.str []),(.int .i64 0),(.int .i64 0),(.str []),(.bool false),(.bool false),.af]) [] s K=K (.ptr s.next 0) (ah s (.cells (uB.ay .af) 0)):=λK=>by rw[bN];rfl
   rw[al];simp only[hi]at lk;simp[-bN,QV,b1,lk,lu,ix,c3,hcut,h3,bK];rw[hca,cG]
 . have lk:=λ(K:AV->St->Option (AV×St))=>CH c K (.int .i64 0) (st:=ah s (.cells (uB.ay .af) 0)) (k:= .str a) (G0.get m1) hf
   have b1:=G0.get B.book;have M0:Mk 1 s (ah s (.cells (uB.ay .af) 0)) .af (uB.tg.map qG):=Mk.start hw G0;have tH:∀u∈uB.ay .af,dV u:=λu hu=>by
    simp only[uB,aS.ay,Za9,Zc6,Zf3]at hu;rcases hu with rfl|rfl|rfl|rfl|rfl|rfl|rfl|rfl|rfl
    .exact dV.str (by simp)
    .exact dV.str (by simp)
    .exact dV.str (by simp)
    .exact dV.int _ _
    .exact dV.int _ _
    .exact dV.str (by simp)
    .exact dV.bool _
    .exact dV.bool _
    .exact dV.af
   obtain⟨s5,t1,t2⟩:=M0.alr (l:=uB.ay .af) (by simp[aS.ay]) tH false;rw[ast yL,Zi3,Zq3];refine⟨.af,s5,?_,t2,by simp[uB]⟩;rw[FJ hc 1 (r:=(.tuple [.agg (uB.ay .af),.bool false],ah s (.cells (uB.ay .af) 0))),t1];rw[JZ];have al:∀(K:AV->St->Option (AV×St)),aq c (.alloc [(.str []),(.str []),(.str []),(.int .i64 0),(.int .i64 0),(.str []),(.bool false),(.bool false),.af]) [] s K=K (.ptr s.next 0) (ah s (.cells (uB.ay .af) 0)):=λK=>by rw[bN];rfl
   have bd:∀(K:AV->St->Option (AV×St))(s:St),aq c (.build [(.str []),(.str []),(.str []),(.int .i64 0),(.int .i64 0),(.str []),(.bool false),(.bool false),.af] []) [] s K=K (.agg (uB.ay .af)) s:=λK s=>by rw[iF];rfl
   have bK:=λ(K:AV->St->Option (AV×St))=>cq c K s 9 (.agg (uB.ay .af)) (uB.ay .af) rfl rfl rfl
   have hca:cut (uB.ay .af) 0 9=some (uB.ay .af):=cQ rfl;have ce:(AV.agg (uB.ay .af)).cells=uB.ay .af:=rfl;rw[al];simp[-bN,-iF,QV,b1,lk,bd,bK,hca,ce]
end
end Go.Proofs.YtgihekklfnjkiaaGreatDoor
