/- Copies and lists. -/
import Derived.Test.YtgihekklfnjkiaaGreatDoorBLawsB
set_option linter.all false
set_option maxRecDepth 100000
set_option maxHeartbeats 2000000
namespace Go.Proofs.YtgihekklfnjkiaaGreatDoor
section
open Go Go.Ai Go.Proofs
variable{c:aj}
def aB.gD(t t':aB):Prop:=∃z,t'={ t with oz:=z }
def aR.gD(g g':aR):Prop:=∃z,g'={ g with tz:=z }
theorem aif{α:Type}(f:α->AV)(s:St)(d:Nat)(l:List α)(hf:∀a∈l,fT s d (f a)=f a):(l.map λa=>[f a]).map (λr=>r.map (fT s d))=l.map λa=>[f a]:=by
 rw[Zh8];refine Zk9 λa ha=> ?_
 simp only[Function.comp,Zd3,Zi8,hf a ha]
theorem Qm(s:St)(d:Nat)(k:IntKind)(i:Int):fT s d (.int k i)= .int k i:=by cases d<;>rfl
theorem Qn(s:St)(d:Nat)(l:List Nat):fT s d (.str l)= .str l:=by cases d<;>rfl
theorem aqV(s:St)(d:Nat)(b:Bool):fT s d (.bool b)= .bool b:=by cases d<;>rfl
theorem aih{s0 s:St}{v:AV}{l:List Int}(h:Mk 1 s0 s v (l.map bJ))(d:Nat):∃z,fT s (d+1) v=ints z l:=by
 obtain⟨z,hz⟩:=h.own.fT (d:=d) h.row;refine⟨z,?_⟩;rw[hz];unfold ints;rw[aif (λi=>AV.int .i64 i) s d l λa _=>Qm s d _ _]
theorem aqW{s0 s:St}{v:AV}{l:List (List Nat)}(h:Mk 1 s0 s v (l.map SD))(d:Nat):∃z,fT s (d+1) v=kY z l:=by
 obtain⟨z,hz⟩:=h.own.fT (d:=d) h.row;refine⟨z,?_⟩;rw[hz];unfold kY;rw[aif (λi=>AV.str i) s d l λa _=>Qn s d _]
theorem ati{s0 s:St}{v:AV}{l:List Ty}(h:Mk 3 s0 s v (l.map Ty.cells))(d:Nat):∃z,fT s (d+1) v=gL z l:=by
 obtain⟨z,hz⟩:=h.own.fT (d:=d) h.row;refine⟨z,?_⟩;rw[hz];unfold gL;rw[Zh8];congr 1;refine Zk9 λa _=> ?_
 simp only[Function.comp,Ty.cells,Zd3,Zi8,Qn,Qm]
theorem atj{s0 s:St}{v:AV}{l:List Rl}(h:Mk 6 s0 s v (l.map Rl.cells))(d:Nat):∃z,fT s (d+1) v=jx z l:=by
 obtain⟨z,hz⟩:=h.own.fT (d:=d) h.row;refine⟨z,?_⟩;rw[hz];unfold jx;rw[Zh8];congr 1;refine Zk9 λa _=> ?_
 simp only[Function.comp,Rl.cells,Zd3,Zi8,Qn,Qm]
theorem abd{α:Type}(P:α->α->Prop)(cells:α->List AV)(g:List AV->List AV):∀(ts:List α)(rows:List (List AV)),rows.length=ts.length->(∀(i:Nat)(t:α)(r:List AV),ts[i]? =some t->rows[i]? =some r->∃t',P t t'/\g r=cells t')->
  ∃Dm:List α,rows.map g=Dm.map cells/\Dm.length=ts.length/\∀(i:Nat)(t t':α),ts[i]? =some t->Dm[i]? =some t'->P t t'
 |[],rows,hl,_=>⟨[],by rw[Zc0 hl];rfl,rfl,λi t t' h=>by simp at h⟩
 |t::ts,[],hl,_=>by simp at hl
 |t::ts,r::rows,hl,h=>by
  obtain⟨t',h1,h2⟩:=h 0 t r rfl rfl;obtain⟨Dm,k1,k2,k3⟩:=abd P cells g ts rows (by simpa using hl) (λi t r h3 h4=>h (i+1) t r (by simpa using h3) (by simpa using h4));refine⟨t'::Dm,by simp[h2,k1],by simp[k2],λi u u' h3 h4=> ?_⟩;cases i with
  |zero=>simp at h3 h4;subst h3;subst h4;exact h1
  |succ i=>exact k3 i u u' (by simpa using h3) (by simpa using h4)
theorem TS.fT{s0 s:St}{V:AV}{ts:List aB}{rows:List (List AV)}(h:TS s0 s V ts rows)(d:Nat):∃z Dm,Go.Ai.fT s (d+2) V=tabs z Dm/\Dm.length=ts.length/\∀(i:Nat)(t t':aB),ts[i]? =some t->Dm[i]? =some t'->t.gD t':=by
 obtain⟨z,hz⟩:=h.out.own.fT (d:=d+1) h.out.row;obtain⟨Dm,k1,k2,k3⟩:=abd aB.gD aB.cells (λr=>r.map (Go.Ai.fT s (d+1))) ts rows h.len λi t r hi hr=>by
  obtain⟨v,rfl,hM,_⟩:=h.dY i t r hi hr;obtain⟨z2,hz2⟩:=aih hM d;refine⟨{ t with oz:=z2 },⟨z2,rfl⟩,?_⟩;simp only[aB.av,aB.cells,Zd3,Zi8,Qn,Qm,hz2]
 refine⟨z,Dm,?_,k2,k3⟩;rw[hz,k1];rfl
theorem GS.fT{s0 s:St}{V:AV}{ts:List aR}{rows:List (List AV)}(h:GS s0 s V ts rows)(d:Nat):∃z Dm,Go.Ai.fT s (d+2) V=dm z Dm/\Dm.length=ts.length/\∀(i:Nat)(t t':aR),ts[i]? =some t->Dm[i]? =some t'->t.gD t':=by
 obtain⟨z,hz⟩:=h.out.own.fT (d:=d+1) h.out.row;obtain⟨Dm,k1,k2,k3⟩:=abd aR.gD aR.cells (λr=>r.map (Go.Ai.fT s (d+1))) ts rows h.len λi t r hi hr=>by
  obtain⟨v,rfl,hM,_⟩:=h.dY i t r hi hr;obtain⟨z2,hz2⟩:=aqW hM d;refine⟨{ t with tz:=z2 },⟨z2,rfl⟩,?_⟩;simp only[aR.av,aR.cells,Zd3,Zi8,Qn,Qm,aqV,hz2]
 refine⟨z,Dm,?_,k2,k3⟩;rw[hz,k1];rfl
structure cr.gD(p p':cr):Prop where
 tl:p'.ts.length=p.ts.length
 ts:∀(i:Nat)(t t':aB),p.ts[i]? =some t->p'.ts[i]? =some t'->t.gD t'
 gl:p'.gs.length=p.gs.length
 gs:∀(i:Nat)(t t':aR),p.gs[i]? =some t->p'.gs[i]? =some t'->t.gD t'
 ys:p'.ys=p.ys
 cs:p'.cs=p.cs
 rs:p'.rs=p.rs
theorem PS.fT{s0 s:St}{Vs:List AV}{p:cr}(h:PS s0 s Vs p)(d:Nat):∃p',Go.Ai.fT s (d+3) (.agg Vs)= .agg p'.cells/\p.gD p':=by obtain⟨V1,V2,V3,V4,V5,r1,r2,rfl,h1,h2,h3,h4,h5⟩:=h.all;obtain⟨z1,Dm,e1,l1,k1⟩:=h1.fT d;obtain⟨z2,gs',e2,l2,k2⟩:=h2.fT d;obtain⟨z3,e3⟩:=ati h3 (d+1);obtain⟨z4,e4⟩:=aih h4 (d+1);obtain⟨z5,e5⟩:=atj h5 (d+1);refine⟨⟨z1,Dm,z2,gs',z3,p.ys,z4,p.cs,z5,p.rs⟩,?_,⟨l1,k1,l2,k2,rfl,rfl,rfl⟩⟩;rw[ajP];simp only[Zd3,Zi8,e1,e2,e3,e4,e5];rfl
theorem Yw{α β:Type}{P:α->α->Prop}{l l':List α}(hl:l'.length=l.length)(hs:∀(i:Nat)(t t':α),l[i]? =some t->l'[i]? =some t'->P t t')(f:α->β)(hf:∀t t',P t t'->f t'=f t)(i:Nat):l'[i]?.map f=l[i]?.map f:=by
 by_cases h:i<l.length
 .have h':i<l'.length:=(by omega);rw[H0 h,H0 h'];simp only[Zd9,H5];exact hf _ _ (hs i _ _ (H0 h) (H0 h'))
 .rw[Zc2 (by omega),Zc2 (by omega)]
theorem aqX{t t':aB}(h:t.gD t'):rM t'=rM t:=by obtain⟨z,rfl⟩:=h;rfl
theorem akh{t t':aB}(h:t.gD t'):bw t'=bw t:=by obtain⟨z,rfl⟩:=h;rfl
theorem aoh{t t':aR}(h:t.gD t'):jO t'=jO t:=by obtain⟨z,rfl⟩:=h;rfl
variable{p p':cr}
theorem cr.gD.nm(h:p.gD p')(s:List Nat):uF p'.ts s=uF p.ts s:=funext λi=>by
 unfold uF;rw[Yw h.tl h.ts aB.name (λt t' k=>by obtain⟨z,rfl⟩:=k;rfl)]
theorem cr.gD.gm(h:p.gD p')(s:List Nat):nP p'.gs s=nP p.gs s:=funext λi=>by
 unfold nP;rw[Yw h.gl h.gs aR.name (λt t' k=>by obtain⟨z,rfl⟩:=k;rfl)]
theorem cr.gD.at(h:p.gD p'):∀(m k:Nat),iD p'.ts m k=iD p.ts m k
 |0,_=>rfl
 |m +1,k=>by
  have ih:=h.at m (k+1);unfold iD;by_cases hk:k<p.ts.length
  .have pF:k<p'.ts.length:=(by rw[h.tl];exact hk);have hs:=h.ts k _ _ (H0 hk) (H0 pF);have hn:p'.ts[k].name=p.ts[k].name:=(by obtain⟨z,e⟩:=hs;rw[e]);rw[H0 hk,H0 pF];simp only[aqX hs,hn,h.nm,ih]
  .have pF:¬k<p'.ts.length:=(by rw[h.tl];exact hk);rw[Zc2 (by omega),Zc2 (by omega)]
theorem cr.gD.Lt(h:p.gD p'):bR p'.ts=bR p.ts:=by unfold bR;rw[h.tl,h.at]
theorem cr.gD.gsAt(h:p.gD p'):∀(m k:Nat),oI p'.gs m k=oI p.gs m k
 |0,_=>rfl
 |m +1,k=>by
  have ih:=h.gsAt m (k+1);unfold oI;by_cases hk:k<p.gs.length
  .have pF:k<p'.gs.length:=(by rw[h.gl];exact hk);have hs:=h.gs k _ _ (H0 hk) (H0 pF);have hn:p'.gs[k].name=p.gs[k].name:=(by obtain⟨z,e⟩:=hs;rw[e]);rw[H0 hk,H0 pF];simp only[aoh hs,hn,h.gm,ih]
  .have pF:¬k<p'.gs.length:=(by rw[h.gl];exact hk);rw[Zc2 (by omega),Zc2 (by omega)]
theorem cr.gD.unk(h:p.gD p')(t:Ty):qW p'.gs t=qW p.gs t:=by unfold qW;rw[h.gm,h.gm,h.gl]
theorem cr.gD.tyAt(h:p.gD p')(ts:List Ty):∀(m k:Nat),jP p'.gs ts m k=jP p.gs ts m k
 |0,_=>rfl
 |m+1,k=>by
  have ih:=h.tyAt ts m (k+1);unfold jP;cases ts[k]? with
  |none=>rfl
  |some t=>simp only[h.gl,h.unk,ih]
theorem cr.gD.roll(h:p.gD p'):dU p'.gs p'.ys=dU p.gs p.ys:=by unfold dU;rw[h.ys,h.gsAt,h.tyAt]
theorem cr.gD.sum(h:p.gD p'):aU p'.ts=aU p.ts:=by
 unfold aU;congr 1;refine Zi3 λi=> ?_
 rw[Zb7,Zb7];exact Yw h.tl h.ts bw (λt t' k=>akh k) i
theorem cr.gD.basis(h:p.gD p'):jF p'=jF p:=by unfold jF;rw[h.Lt,h.roll,h.cs,h.gl,h.sum]
theorem cr.gD.gi(h:p.gD p')(s:List Nat):Go.Proofs.YtgihekklfnjkiaaGreatDoor.gi p' s=Go.Proofs.YtgihekklfnjkiaaGreatDoor.gi p s:=by unfold Go.Proofs.YtgihekklfnjkiaaGreatDoor.gi;rw[h.gm,h.gl]
theorem cr.gD.ti(h:p.gD p')(s:List Nat):Go.Proofs.YtgihekklfnjkiaaGreatDoor.ti p' s=Go.Proofs.YtgihekklfnjkiaaGreatDoor.ti p s:=by unfold Go.Proofs.YtgihekklfnjkiaaGreatDoor.ti;rw[h.nm,h.tl]
theorem cr.gD.zS(h:p.gD p')(i:Int):Go.Proofs.YtgihekklfnjkiaaGreatDoor.zS p' i=Go.Proofs.YtgihekklfnjkiaaGreatDoor.zS p i:=by
 unfold Go.Proofs.YtgihekklfnjkiaaGreatDoor.zS;have:=Yw h.tl h.ts bw (λt t' k=>akh k) i.toNat;cases h1:p.ts[i.toNat]? with
 |none=>rw[h1]at this;cases h2:p'.ts[i.toNat]? with
  |none=>rfl
  |some t=>rw[h2]at this;cases this
 |some t=>rw[h1]at this;cases h2:p'.ts[i.toNat]? with
  |none=>rw[h2]at this;cases this
  |some t'=>rw[h2]at this;simp only[Zd9,H5]at this;simp only[this]
theorem cr.gD.rule(h:p.gD p')(r:Rl):ua p' r=ua p r:=by
 unfold ua Sa adB Yr;simp only[h.gi,h.ti,h.zS]
theorem cr.gD.jx(h:p.gD p'):∀(m k:Nat),nU p' m k=nU p m k
 |0,_=>rfl
 |m+1,k=>by
  have ih:=h.jx m (k+1);unfold nU;rw[h.rs];cases p.rs[k]? with
  |none=>rfl
  |some r=>simp only[h.rule,ih]
theorem cr.gD.check(h:p.gD p'):jZ p'=jZ p:=by unfold jZ;rw[h.basis,h.jx]
theorem FM{es bytes:Nat}{z:List AV}(rows:List (List AV))(hr:∀r∈rows,r.length=es)(dW:es≠0)(hb:(2*rows.length+768)*bytes<=281474976710656)(hn:rows.length<=4000000)(s:St)(hw:Wf s):
  ∃v s',(∀(K:AV->St->Option (AV×St)),aq c (.buildSlice es 0 z []) [] s (λy t=>aq c (.append es bytes) [y,.fl rows es] t K)=K v s')/\Mk es s s' v rows:=
 aeC hr dW hb hn s hw (.inl rfl)
theorem Kv(c:aj)(K:AV->St->Option (AV×St))(s:St):aq c (.bin .eql .slice) [.af,.af] s K=K (.bool true) s:=aS c K (λH n=>rfl) s
theorem Yx(c:aj)(K:AV->St->Option (AV×St))(s:St)(rows:List (List AV))(es:Nat):aq c (.bin .eql .slice) [.fl rows es,.af] s K=K (.bool false) s:=aS c K (λH n=>rfl) s
theorem aeW(hc:Sem c)(z:Bool)(l:List (Int))(hl:l.length<=lim)(s:St)(hw:Wf s):∃v s',c 115 [ints z l] s=some (v,s')/\Mk 1 s s' v (l.map bJ):=by
 have hl:l.length<=1048576:=hl;have hr:∀r∈l.map bJ,r.length=1:=λr hr=>by simp only[Zc6]at hr;obtain⟨i,_,rfl⟩:=hr;rfl
 by_cases h:ints z l= .af
 . have h0:l=[]:=by
    cases l with
    |nil=>rfl
    |cons a l=>unfold ints at h;cases z<;>cases h
   subst h0;refine⟨.af,s,?_,Mk.start hw (Grew.refl hw)⟩;rw[h,yN hc 1 (r:=(.af,s)),aF Plain.af (aX.refl s)];rw[AA];simp[Kv]
 . have e:ints z l= .fl (l.map bJ) 1:=by
    cases l with
    |nil=>unfold ints at h ⊢; cases z
          .rfl
          .exact absurd rfl h
    |cons a l=>unfold ints;cases z<;>rfl
   obtain⟨v,s',a1,a2⟩:=FM (c:=c) (bytes:=8) (z:=[.int .i64 0]) (l.map bJ) hr (by decide) (by simp;omega) (by simp;omega) s hw;obtain⟨fI,t1,t2⟩:=a2.tidy;refine⟨v,fI,?_,t2⟩;rw[e,yN hc 1 (r:=(v,s')),t1];rw[AA];simp only[az,Yx,dQ];rw[a1]
theorem aoi(hc:Sem c)(z:Bool)(l:List (List Nat))(hl:l.length<=lim)(s:St)(hw:Wf s):∃v s',c 117 [kY z l] s=some (v,s')/\Mk 1 s s' v (l.map SD):=by
 have hl:l.length<=1048576:=hl;have hr:∀r∈l.map SD,r.length=1:=λr hr=>by simp only[Zc6]at hr;obtain⟨i,_,rfl⟩:=hr;rfl
 by_cases h:kY z l= .af
 . have h0:l=[]:=by
    cases l with
    |nil=>rfl
    |cons a l=>unfold kY at h;cases z<;>cases h
   subst h0;refine⟨.af,s,?_,Mk.start hw (Grew.refl hw)⟩;rw[h,jd hc 1 (r:=(.af,s)),aF Plain.af (aX.refl s)];rw[jQ];simp[Kv]
 . have e:kY z l= .fl (l.map SD) 1:=by
    cases l with
    |nil=>unfold kY at h ⊢; cases z
          .rfl
          .exact absurd rfl h
    |cons a l=>unfold kY;cases z<;>rfl
   obtain⟨v,s',a1,a2⟩:=FM (c:=c) (bytes:=16) (z:=[.str []]) (l.map SD) hr (by decide) (by simp;omega) (by simp;omega) s hw;obtain⟨fI,t1,t2⟩:=a2.tidy;refine⟨v,fI,?_,t2⟩;rw[e,jd hc 1 (r:=(v,s')),t1];rw[jQ];simp only[az,Yx,dQ];rw[a1]
theorem aoj(hc:Sem c)(z:Bool)(l:List (Ty))(hl:l.length<=lim)(s:St)(hw:Wf s):∃v s',c 118 [gL z l] s=some (v,s')/\Mk 3 s s' v (l.map Ty.cells):=by
 have hl:l.length<=1048576:=hl;have hr:∀r∈l.map Ty.cells,r.length=3:=λr hr=>by simp only[Zc6]at hr;obtain⟨i,_,rfl⟩:=hr;rfl
 by_cases h:gL z l= .af
 . have h0:l=[]:=by
    cases l with
    |nil=>rfl
    |cons a l=>unfold gL at h;cases z<;>cases h
   subst h0;refine⟨.af,s,?_,Mk.start hw (Grew.refl hw)⟩;rw[h,qH hc 1 (r:=(.af,s)),aF Plain.af (aX.refl s)];rw[sV];simp[Kv]
 . have e:gL z l= .fl (l.map Ty.cells) 3:=by
    cases l with
    |nil=>unfold gL at h ⊢; cases z
          .rfl
          .exact absurd rfl h
    |cons a l=>unfold gL;cases z<;>rfl
   obtain⟨v,s',a1,a2⟩:=FM (c:=c) (bytes:=40) (z:=[.str [],.str [],.int .u8 0]) (l.map Ty.cells) hr (by decide) (by simp;omega) (by simp;omega) s hw;obtain⟨fI,t1,t2⟩:=a2.tidy;refine⟨v,fI,?_,t2⟩;rw[e,qH hc 1 (r:=(v,s')),t1];rw[sV];simp only[az,Yx,dQ];rw[a1]
theorem aok(hc:Sem c)(z:Bool)(l:List (Rl))(hl:l.length<=lim)(s:St)(hw:Wf s):∃v s',c 119 [jx z l] s=some (v,s')/\Mk 6 s s' v (l.map Rl.cells):=by
 have hl:l.length<=1048576:=hl;have hr:∀r∈l.map Rl.cells,r.length=6:=λr hr=>by simp only[Zc6]at hr;obtain⟨i,_,rfl⟩:=hr;rfl
 by_cases h:jx z l= .af
 . have h0:l=[]:=by
    cases l with
    |nil=>rfl
    |cons a l=>unfold jx at h;cases z<;>cases h
   subst h0;refine⟨.af,s,?_,Mk.start hw (Grew.refl hw)⟩;rw[h,pK hc 1 (r:=(.af,s)),aF Plain.af (aX.refl s)];rw[qI];simp[Kv]
 . have e:jx z l= .fl (l.map Rl.cells) 6:=by
    cases l with
    |nil=>unfold jx at h ⊢; cases z
          .rfl
          .exact absurd rfl h
    |cons a l=>unfold jx;cases z<;>rfl
   obtain⟨v,s',a1,a2⟩:=FM (c:=c) (bytes:=72) (z:=[.int .u8 0,.int .i64 0,.str [],.str [],.str [],.int .i64 0]) (l.map Rl.cells) hr (by decide) (by simp;omega) (by simp;omega) s hw;obtain⟨fI,t1,t2⟩:=a2.tidy;refine⟨v,fI,?_,t2⟩;rw[e,pK hc 1 (r:=(v,s')),t1];rw[qI];simp only[az,Yx,dQ];rw[a1]
theorem aol(hc:Sem c)(z:Bool)(l:List (aB))(hl:l.length<=lim)(s:St)(hw:Wf s):∃v s',c 114 [tabs z l] s=some (v,s')/\Mk 7 s s' v (l.map aB.cells):=by
 have hl:l.length<=1048576:=hl;have hr:∀r∈l.map aB.cells,r.length=7:=λr hr=>by simp only[Zc6]at hr;obtain⟨i,_,rfl⟩:=hr;rfl
 by_cases h:tabs z l= .af
 . have h0:l=[]:=by
    cases l with
    |nil=>rfl
    |cons a l=>unfold tabs at h;cases z<;>cases h
   subst h0;refine⟨.af,s,?_,Mk.start hw (Grew.refl hw)⟩;rw[h,oN hc 1 (r:=(.af,s)),aF Plain.af (aX.refl s)];rw[pL];simp[Kv]
 . have e:tabs z l= .fl (l.map aB.cells) 7:=by
    cases l with
    |nil=>unfold tabs at h ⊢; cases z
          .rfl
          .exact absurd rfl h
    |cons a l=>unfold tabs;cases z<;>rfl
   obtain⟨v,s',a1,a2⟩:=FM (c:=c) (bytes:=80) (z:=[.str [],.int .u8 0,.int .i64 0,.int .i64 0,.af,.int .i64 0,.int .i64 0]) (l.map aB.cells) hr (by decide) (by simp;omega) (by simp;omega) s hw;obtain⟨fI,t1,t2⟩:=a2.tidy;refine⟨v,fI,?_,t2⟩;rw[e,oN hc 1 (r:=(v,s')),t1];rw[pL];simp only[az,Yx,dQ];rw[a1]
theorem aom(hc:Sem c)(z:Bool)(l:List (aR))(hl:l.length<=lim)(s:St)(hw:Wf s):∃v s',c 116 [dm z l] s=some (v,s')/\Mk 9 s s' v (l.map aR.cells):=by
 have hl:l.length<=1048576:=hl;have hr:∀r∈l.map aR.cells,r.length=9:=λr hr=>by simp only[Zc6]at hr;obtain⟨i,_,rfl⟩:=hr;rfl
 by_cases h:dm z l= .af
 . have h0:l=[]:=by
    cases l with
    |nil=>rfl
    |cons a l=>unfold dm at h;cases z<;>cases h
   subst h0;refine⟨.af,s,?_,Mk.start hw (Grew.refl hw)⟩;rw[h,oO hc 1 (r:=(.af,s)),aF Plain.af (aX.refl s)];rw[pM];simp[Kv]
 . have e:dm z l= .fl (l.map aR.cells) 9:=by
    cases l with
    |nil=>unfold dm at h ⊢; cases z
          .rfl
          .exact absurd rfl h
    |cons a l=>unfold dm;cases z<;>rfl
   obtain⟨v,s',a1,a2⟩:=FM (c:=c) (bytes:=112) (z:=[.str [],.str [],.str [],.int .i64 0,.int .i64 0,.str [],.bool false,.bool false,.af]) (l.map aR.cells) hr (by decide) (by simp;omega) (by simp;omega) s hw;obtain⟨fI,t1,t2⟩:=a2.tidy;refine⟨v,fI,?_,t2⟩;rw[e,oO hc 1 (r:=(v,s')),t1];rw[pM];simp only[az,Yx,dQ];rw[a1]
structure CT(n0:Nat)(s0 s:St)(q:Pos)(rest:List AV)(V:AV)(ts:List aB)(k:Nat)(rows:List (List AV)):Prop where
 out:Mk 7 s0 s V rows
 box:s.heap.get q=some (.cells (V::rest) 0)
 FL:q.toNat<n0
 lo:n0<=s.next.toNat
 ne:∀b,aK V=some b->n0<=b.toNat
 len:rows.length=ts.length
 gG:∀(i:Nat)(t:aB)(r:List AV),k<=i->ts[i]? =some t->rows[i]? =some r->r=t.cells
 dY:∀(i:Nat)(t:aB)(r:List AV),i<k->ts[i]? =some t->rows[i]? =some r->∃v,r=t.av v/\Mk 1 s0 s v (t.kA.map bJ)/\(∀b,aK v=some b->aK V≠some b)/\∀b,aK v=some b->n0<=b.toNat
theorem aon(hc:Sem c){n0:Nat}{s0:St}{q:Pos}{rest:List AV}(x2:AV)(ts:List aB)(hl:ts.length<=1000)(hr:∀t∈ts,t.Real)(F:Nat):∀(m k f:Nat)(s:St)(V:AV)(rows:List (List AV)),m<f->k+m=ts.length->CT n0 s0 s q rest V ts k rows->
  ∃s' vL,CT n0 s0 s' q rest V ts ts.length vL/\(∀p x,aK V≠some p->s.heap.get p=some x->s'.heap.get p=some x)/\∀k2,uI c F k2 f [.ptr q 0,x2,.int .i64 (ts.length:Int),.int .i64 (k:Int)] s=k2 [.ptr q 0,x2] s':=by
 intro m;induction m with
 |zero=>
  intro k f s V rows hf h1 hT;obtain⟨f,rfl⟩:∃g,f=g+1:=⟨f - 1,by omega⟩
  obtain rfl:k=ts.length:=by omega
  refine⟨s,rows,hT,λ_ _ _ h=>h,λk2=> ?_⟩;rw[LC];simp
 |succ m ih=>
  intro k f s V rows hf h1 hT;obtain⟨f,rfl⟩:∃g,f=g+1:=⟨f - 1,by omega⟩
  have h:k<ts.length:=by omega
  have hk:k<rows.length:=by rw[hT.len];exact h
  have w:ax .i64 ((k:Int)+1)=((k+1:Nat):Int):=wrap64 (by omega) (by omega);have hw:=hT.out.ai.wf;obtain⟨b,o,cs,a1,a2,a3,a4,a5,a6,a7,a8⟩:=hT.out.own.set (c:=c) (R:=AV×St) hT.out.row (by decide) hk;have gw:rows[k]=ts[k].cells:=hT.gG k _ _ (Za3 _) (H0 h) (H0 hk);have c4:cs[o+4]? =some (ints ts[k].oz ts[k].kA):=a6 4 _ (by rw[gw];rfl);obtain⟨v,s1,C,M⟩:=aeW hc ts[k].oz ts[k].kA (hr _ (Zb8 h)).kA s hw;have b4:=M.ai.get a4;have q4:=M.ai.get hT.box;obtain⟨vc,v1⟩:=M.cells;have hbq:b≠q:=λe=>by have:=hT.ne _ a3;have:=hT.FL;subst e;omega
  have yg:=hT.out.new b a3;have xH:=hw _ _ a4;have bD:∀(K:AV->St->Option (AV×St)),aq c (.store 1) [.ptr b (o+4),v] s1 K=K .undef (bg s1 b (.cells (aQ cs (o+4) [v]) 0)):=λK=>by
   rw[bY c K s1 1 b (o+4) v cs b4 (by rw[vc];rfl) (by omega) (by rw[vc];exact v1),vc]
  have G2:Grew s0 (bg s1 b (.cells (aQ cs (o+4) [v]) 0)):=⟨iG M.ai.wf (by have:=M.ai.next;omega),λp x hp=>by have:=hT.out.jk _ _ hp;rw[aH (λe=>by rw[e]at yg;omega)];exact(hT.out.ai.trans M.ai).get hp,by rw[dH];exact(hT.out.ai.trans M.ai).next⟩
  have yu:∀p x,p≠b->s1.heap.get p=some x->(bg s1 b (.cells (aQ cs (o+4) [v]) 0)).heap.get p=some x:=λp x hp hx=>by rw[aH (λe=>hp e.symm)];exact hx
  have T5:CT n0 s0 (bg s1 b (.cells (aQ cs (o+4) [v]) 0)) q rest V ts (k+1) (rows.set k (rows[k].set 4 v)):=by
   refine⟨⟨hT.out.jk,G2,a7 4 v _ (by omega) (bG _ _ _),hT.out.new,λr Xc=> ?_,hT.out.cap,λp hp=>by rw[a3]at hp;cases hp;rw[bG];rw[a8 4 v (by omega) (AB.cells.inj (Zi5 (a4.symm.trans (hT.out.tight b a3)))).1]⟩,yu q _ (λe=>hbq e.symm) q4,hT.FL,by rw[dH];exact Zb3 hT.lo M.ai.next,hT.ne,by rw[Zi7];exact hT.len,λi t r hi h3 h4=> ?_,λi t r hi h3 h4=> ?_⟩
   .    rcases Zh2 Xc with h5|h5
        .exact hT.out.row r h5
        .rw[h5,Zi7];exact hT.out.row _ (Zb8 hk)
   .    rw[Ze4 (by omega)]at h4;exact hT.gG i t r (by omega) h3 h4
   .    by_cases EH:i=k
        . subst EH;rw[H0 h]at h3;cases h3;rw[Zf3 hk]at h4;cases h4;refine⟨v,by rw[gw];rfl,Mk.qO (M.back hT.out.jk hT.out.ai) G2 λp x hp hx=>yu p x (λe=>by subst e;have:=M.new _ hp;omega) hx,λp hp e=> ?_,λp hp=> ?_⟩
          .rw[a3]at e;cases e;have:=M.new _ hp;omega
          .have:=M.new _ hp;have:=hT.lo;omega
        .rw[Ze4 (by omega)]at h4;obtain⟨u,e1,e2,e3,e4⟩:=hT.dY i t r (by omega) h3 h4;refine⟨u,e1,Mk.qO (e2.grow M.ai) G2 λp x hp hx=>yu p x (λe=>by subst e;exact e3 _ hp a3) hx,e3,e4⟩
  obtain⟨s',vL,d1,d3,d2⟩:=ih (k+1) f _ V _ (by omega) (by omega) T5;refine⟨s',vL,d1,λp x hp hx=>d3 p x hp (yu p x (λe=>hp (by rw[a3,e])) (M.ai.get hx)),λk2=> ?_⟩;rw[<-d2 k2,LC];have L1:∀(ok:AV->Bool)(K:AV->Option (AV×St)),ok V=true->jt (.load none) [.ptr q 0] s.heap ok K=K V:=λok K h=>GU (by rw[hT.box];rfl) ok h K
  have L2:∀(ok:AV->Bool)(K:AV->Option (AV×St)),ok V=true->jt (.load none) [.ptr q 0] s1.heap ok K=K V:=λok K h=>GU (by rw[q4];rfl) ok h K
  have L3:∀(ok:AV->Bool)(K:AV->Option (AV×St)),ok (ints ts[k].oz ts[k].kA)=true->jt (.load none) [.ptr b (o+4)] s.heap ok K=K (ints ts[k].oz ts[k].kA):=λok K h=>GU (by rw[a4];exact c4) ok h K
  have q1:=Lu (p:=q) (o:=0) (h:=s.heap) (v:=V) (by rw[hT.box];rfl) hT.out.beq;simp[h,hT.box,a4,c4,L2,a2,C,q1,bD,w]
structure CG(n0:Nat)(s0 s:St)(q:Pos)(V1:AV)(rest:List AV)(V:AV)(ts:List aR)(k:Nat)(rows:List (List AV)):Prop where
 out:Mk 9 s0 s V rows
 box:s.heap.get q=some (.cells (V1::V::rest) 0)
 FL:q.toNat<n0
 lo:n0<=s.next.toNat
 ne:∀b,aK V=some b->n0<=b.toNat
 len:rows.length=ts.length
 gG:∀(i:Nat)(t:aR)(r:List AV),k<=i->ts[i]? =some t->rows[i]? =some r->r=t.cells
 dY:∀(i:Nat)(t:aR)(r:List AV),i<k->ts[i]? =some t->rows[i]? =some r->∃v,r=t.av v/\Mk 1 s0 s v (t.tg.map SD)/\(∀b,aK v=some b->aK V≠some b)/\∀b,aK v=some b->n0<=b.toNat
theorem aoo(hc:Sem c){n0:Nat}{s0:St}{q:Pos}{V1:AV}{rest:List AV}(x2:AV)(ts:List aR)(hl:ts.length<=1000)(hr:∀t∈ts,t.Real)(F:Nat):∀(m k f:Nat)(s:St)(V:AV)(rows:List (List AV)),m<f->k+m=ts.length->CG n0 s0 s q V1 rest V ts k rows->
  ∃s' vL,CG n0 s0 s' q V1 rest V ts ts.length vL/\(∀p x,aK V≠some p->s.heap.get p=some x->s'.heap.get p=some x)/\∀k2,uJ c F k2 f [.ptr q 0,x2,.int .i64 (ts.length:Int),.int .i64 (k:Int)] s=k2 [.ptr q 0,x2] s':=by
 intro m;induction m with
 |zero=>
  intro k f s V rows hf h1 hT;obtain⟨f,rfl⟩:∃g,f=g+1:=⟨f - 1,by omega⟩
  obtain rfl:k=ts.length:=by omega
  refine⟨s,rows,hT,λ_ _ _ h=>h,λk2=> ?_⟩;rw[LD];simp
 |succ m ih=>
  intro k f s V rows hf h1 hT;obtain⟨f,rfl⟩:∃g,f=g+1:=⟨f - 1,by omega⟩
  have h:k<ts.length:=by omega
  have hk:k<rows.length:=by rw[hT.len];exact h
  have w:ax .i64 ((k:Int)+1)=((k+1:Nat):Int):=wrap64 (by omega) (by omega);have hw:=hT.out.ai.wf;obtain⟨b,o,cs,a1,a2,a3,a4,a5,a6,a7,a8⟩:=hT.out.own.set (c:=c) (R:=AV×St) hT.out.row (by decide) hk;have gw:rows[k]=ts[k].cells:=hT.gG k _ _ (Za3 _) (H0 h) (H0 hk);have c4:cs[o+8]? =some (kY ts[k].tz ts[k].tg):=a6 8 _ (by rw[gw];rfl);obtain⟨v,s1,C,M⟩:=aoi hc ts[k].tz ts[k].tg (hr _ (Zb8 h)).tg s hw;have b4:=M.ai.get a4;have q4:=M.ai.get hT.box;obtain⟨vc,v1⟩:=M.cells;have hbq:b≠q:=λe=>by have:=hT.ne _ a3;have:=hT.FL;subst e;omega
  have yg:=hT.out.new b a3;have xH:=hw _ _ a4;have bD:∀(K:AV->St->Option (AV×St)),aq c (.store 1) [.ptr b (o+8),v] s1 K=K .undef (bg s1 b (.cells (aQ cs (o+8) [v]) 0)):=λK=>by
   rw[bY c K s1 1 b (o+8) v cs b4 (by rw[vc];rfl) (by omega) (by rw[vc];exact v1),vc]
  have G2:Grew s0 (bg s1 b (.cells (aQ cs (o+8) [v]) 0)):=⟨iG M.ai.wf (by have:=M.ai.next;omega),λp x hp=>by have:=hT.out.jk _ _ hp;rw[aH (λe=>by rw[e]at yg;omega)];exact(hT.out.ai.trans M.ai).get hp,by rw[dH];exact(hT.out.ai.trans M.ai).next⟩
  have yu:∀p x,p≠b->s1.heap.get p=some x->(bg s1 b (.cells (aQ cs (o+8) [v]) 0)).heap.get p=some x:=λp x hp hx=>by rw[aH (λe=>hp e.symm)];exact hx
  have T5:CG n0 s0 (bg s1 b (.cells (aQ cs (o+8) [v]) 0)) q V1 rest V ts (k+1) (rows.set k (rows[k].set 8 v)):=by
   refine⟨⟨hT.out.jk,G2,a7 8 v _ (by omega) (bG _ _ _),hT.out.new,λr Xc=> ?_,hT.out.cap,λp hp=>by rw[a3]at hp;cases hp;rw[bG];rw[a8 8 v (by omega) (AB.cells.inj (Zi5 (a4.symm.trans (hT.out.tight b a3)))).1]⟩,yu q _ (λe=>hbq e.symm) q4,hT.FL,by rw[dH];exact Zb3 hT.lo M.ai.next,hT.ne,by rw[Zi7];exact hT.len,λi t r hi h3 h4=> ?_,λi t r hi h3 h4=> ?_⟩
   .    rcases Zh2 Xc with h5|h5
        .exact hT.out.row r h5
        .rw[h5,Zi7];exact hT.out.row _ (Zb8 hk)
   .    rw[Ze4 (by omega)]at h4;exact hT.gG i t r (by omega) h3 h4
   .    by_cases EH:i=k
        . subst EH;rw[H0 h]at h3;cases h3;rw[Zf3 hk]at h4;cases h4;refine⟨v,by rw[gw];rfl,Mk.qO (M.back hT.out.jk hT.out.ai) G2 λp x hp hx=>yu p x (λe=>by subst e;have:=M.new _ hp;omega) hx,λp hp e=> ?_,λp hp=> ?_⟩
          .rw[a3]at e;cases e;have:=M.new _ hp;omega
          .have:=M.new _ hp;have:=hT.lo;omega
        .rw[Ze4 (by omega)]at h4;obtain⟨u,e1,e2,e3,e4⟩:=hT.dY i t r (by omega) h3 h4;refine⟨u,e1,Mk.qO (e2.grow M.ai) G2 λp x hp hx=>yu p x (λe=>by subst e;exact e3 _ hp a3) hx,e3,e4⟩
  obtain⟨s',vL,d1,d3,d2⟩:=ih (k+1) f _ V _ (by omega) (by omega) T5;refine⟨s',vL,d1,λp x hp hx=>d3 p x hp (yu p x (λe=>hp (by rw[a3,e])) (M.ai.get hx)),λk2=> ?_⟩;rw[<-d2 k2,LD];have L1:∀(ok:AV->Bool)(K:AV->Option (AV×St)),ok V=true->jt (.load none) [.ptr q 1] s.heap ok K=K V:=λok K h=>GU (by rw[hT.box];rfl) ok h K
  have L2:∀(ok:AV->Bool)(K:AV->Option (AV×St)),ok V=true->jt (.load none) [.ptr q 1] s1.heap ok K=K V:=λok K h=>GU (by rw[q4];rfl) ok h K
  have L3:∀(ok:AV->Bool)(K:AV->Option (AV×St)),ok (kY ts[k].tz ts[k].tg)=true->jt (.load none) [.ptr b (o+8)] s.heap ok K=K (kY ts[k].tz ts[k].tg):=λok K h=>GU (by rw[a4];exact c4) ok h K
  have q1:=Lu (p:=q) (o:=1) (h:=s.heap) (v:=V) (by rw[hT.box];rfl) hT.out.beq;simp[h,hT.box,a4,c4,L2,a2,C,q1,bD,w]
theorem ld{p:Pos}{o:Nat}{t:St}{cs:List AV}{v:AV}(h:t.heap.get p=some (.cells cs 0))(hv:cs[o]? =some v):((cellsOf (t.heap.get p)).bind λcs=>cs[o]?)=some v:=by rw[h];exact hv
theorem alW(hc:Sem c)(p:cr)(hp:p.Real)(s:St)(hw:Wf s):∃Vs s',c 57 [.agg p.cells] s=some (.agg Vs,s')/\PS s s' Vs p:=by
 have cO:Wf (ah s (.cells p.cells 0)):=bF hw;have hwB:Wf (ah (ah s (.cells p.cells 0)) (.cells [.af,.af,.af,.af,.af] 0)):=bF cO;have gB:=(Grew.ah hw (.cells p.cells 0)).trans (Grew.ah cO (.cells [.af,.af,.af,.af,.af] 0));have qB:(ah (ah s (.cells p.cells 0)) (.cells [.af,.af,.af,.af,.af] 0)).heap.get s.next=some (.cells p.cells 0):=(Grew.ah cO _).get (aA _ _);have pB:=aA (ah s (.cells p.cells 0)) (.cells [.af,.af,.af,.af,.af] 0);have nl:s.next.toNat<(ah s (.cells p.cells 0)).next.toNat:=by rw[bN,Pos.aD];omega
 generalize hsB:ah (ah s (.cells p.cells 0)) (.cells [.af,.af,.af,.af,.af] 0)=sB at hwB gB qB pB;generalize Gk:(ah s (.cells p.cells 0)).next=p2 at pB nl;have lt2:=hwB _ _ pB;have ltq:=hwB _ _ qB;have nqp:s.next≠p2:=λe=>by rw[e]at nl;omega
 have hlT:p.ts.length<=lim:=Zb3 hp.ts (by decide);have hlG:p.gs.length<=lim:=Zb3 hp.gs (by decide);obtain⟨V1,s1,C1,M1⟩:=aol hc p.tz p.ts hlT sB hwB;obtain⟨c1,o1⟩:=M1.cells;have q1:=M1.ai.get qB;have b1:p.cells=tabs p.tz p.ts::[dm p.gz p.gs,gL p.yz p.ys,ints p.cz p.cs,jx p.rz p.rs]:=rfl;have t1:∀(K:AV->St->Option (AV×St)),aq c (.store 1) [.ptr s.next 0,V1] s1 K=K .undef (bg s1 s.next (.cells (V1::[dm p.gz p.gs,gL p.yz p.ys,ints p.cz p.cs,jx p.rz p.rs]) 0)):=λK=>by rw[bY c K s1 1 s.next 0 V1 p.cells q1 (by rw[c1];rfl) (by rw[b1];simp) (by rw[c1];exact o1),c1];rfl
 have lq1:=M1.ai.wf _ _ q1;have G2:Grew s (bg s1 s.next (.cells (V1::[dm p.gz p.gs,gL p.yz p.ys,ints p.cz p.cs,jx p.rz p.rs]) 0)):=⟨iG M1.ai.wf lq1,λr x hr=>by have:=hw _ _ hr;rw[aH (λe=>by rw[e]at this;omega)];exact(gB.trans M1.ai).get hr,by rw[dH];exact(gB.trans M1.ai).next⟩
 have T2:CT sB.next.toNat s (bg s1 s.next (.cells (V1::[dm p.gz p.gs,gL p.yz p.ys,ints p.cz p.cs,jx p.rz p.rs]) 0)) s.next [dm p.gz p.gs,gL p.yz p.ys,ints p.cz p.cs,jx p.rz p.rs] V1 p.ts 0 (p.ts.map aB.cells):=by
  refine⟨⟨hw,G2,M1.own.mono λb x hb hx=> ?_,λb hb=>Zb3 gB.next (M1.new b hb),M1.row,M1.cap,λb hb=>by rw[aH (λe=>by have:=M1.new _ hb;rw[<-e]at this;omega)];exact M1.tight b hb⟩,bG _ _ _,ltq,by rw[dH];exact M1.ai.next,M1.new,by simp,λi t r _ h3 h4=> ?_,λi t r h=>by omega⟩
  .rw[aH (λe=>by have:=M1.new _ hb;rw[<-e]at this;omega)];exact hx
  .rw[Zb7,h3]at h4;simpa using h4.symm
 generalize tT:bg s1 s.next (.cells (V1::[dm p.gz p.gs,gL p.yz p.ys,ints p.cz p.cs,jx p.rz p.rs]) 0)=s2 at t1 G2 T2;have p2a:s2.heap.get p2=some (.cells [.af,.af,.af,.af,.af] 0):=by rw[<-tT,aH nqp];exact M1.ai.get pB
 have l1:∀(K:AV->St->Option (AV×St))(t:St),aq c (.lenB .l) [V1] t K=K (.int .i64 (p.ts.length:Int)) t:=λK t=>by rw[M1.own.lenB];simp
 obtain⟨s3,r1,D1,D2,D3⟩:=aon hc (.ptr p2 0) p.ts hp.ts hp.tab 2000 p.ts.length 0 2000 s2 V1 _ (by have:=hp.ts;omega) (by omega) T2;have p3:s3.heap.get p2=some (.cells [.af,.af,.af,.af,.af] 0):=D2 p2 _ (λe=>by have:=M1.new _ e;omega) p2a;have q3:=D1.box;obtain⟨V2,s4,C2,M2⟩:=aom hc p.gz p.gs hlG s3 D1.out.ai.wf;obtain⟨c2,o2⟩:=M2.cells;have q4:=M2.ai.get q3;have t2:∀(K:AV->St->Option (AV×St)),aq c (.store 1) [.ptr s.next 1,V2] s4 K=K .undef (bg s4 s.next (.cells (V1::V2::[gL p.yz p.ys,ints p.cz p.cs,jx p.rz p.rs]) 0)):=λK=>by rw[bY c K s4 1 s.next 1 V2 _ q4 (by rw[c2];rfl) (by simp) (by rw[c2];exact o2),c2];rfl
 have lq4:=M2.ai.wf _ _ q4;have n3B:sB.next.toNat<=s3.next.toNat:=D1.lo;have G3:=D1.out.ai;have G5:Grew s (bg s4 s.next (.cells (V1::V2::[gL p.yz p.ys,ints p.cz p.cs,jx p.rz p.rs]) 0)):=⟨iG M2.ai.wf lq4,λr x hr=>by have:=hw _ _ hr;rw[aH (λe=>by rw[e]at this;omega)];exact(G3.trans M2.ai).get hr,by rw[dH];exact(G3.trans M2.ai).next⟩
 have T5:CG s3.next.toNat s (bg s4 s.next (.cells (V1::V2::[gL p.yz p.ys,ints p.cz p.cs,jx p.rz p.rs]) 0)) s.next V1 [gL p.yz p.ys,ints p.cz p.cs,jx p.rz p.rs] V2 p.gs 0 (p.gs.map aR.cells):=by
  refine⟨⟨hw,G5,M2.own.mono λb x hb hx=> ?_,λb hb=>Zb3 G3.next (M2.new b hb),M2.row,M2.cap,λb hb=>by rw[aH (λe=>by have:=M2.new _ hb;rw[<-e]at this;omega)];exact M2.tight b hb⟩,bG _ _ _,by omega,by rw[dH];exact M2.ai.next,M2.new,by simp,λi t r _ h3 h4=> ?_,λi t r h=>by omega⟩
  .rw[aH (λe=>by have:=M2.new _ hb;rw[<-e]at this;omega)];exact hx
  .rw[Zb7,h3]at h4;simpa using h4.symm
 have arU:∀r x,r≠s.next->s3.heap.get r=some x->(bg s4 s.next (.cells (V1::V2::[gL p.yz p.ys,ints p.cz p.cs,jx p.rz p.rs]) 0)).heap.get r=some x:=λr x hr hx=>by rw[aH (λe=>hr e.symm)];exact M2.ai.get hx
 generalize hs5:bg s4 s.next (.cells (V1::V2::[gL p.yz p.ys,ints p.cz p.cs,jx p.rz p.rs]) 0)=s5 at t2 G5 T5 arU;have l2:∀(K:AV->St->Option (AV×St))(t:St),aq c (.lenB .l) [V2] t K=K (.int .i64 (p.gs.length:Int)) t:=λK t=>by rw[M2.own.lenB];simp
 obtain⟨s6,r2,E1,E2,E3⟩:=aoo hc (.ptr p2 0) p.gs hp.gs hp.qy 2000 p.gs.length 0 2000 s5 V2 _ (by have:=hp.gs;omega) (by omega) T5;have q5:=T5.box;have q6:=E1.box;have alX:∀r x,r≠s.next->r.toNat<s3.next.toNat->s3.heap.get r=some x->s6.heap.get r=some x:=λr x hr hl hx=>E2 r x (λe=>by have:=T5.ne _ e;omega) (arU r x hr hx)
 obtain⟨V3,s7,C3,M3⟩:=aoj hc p.yz p.ys hp.ys s6 E1.out.ai.wf;obtain⟨V4,s8,C4,M4⟩:=aeW hc p.cz p.cs hp.cs s7 M3.ai.wf;obtain⟨V5,s9,C5,M5⟩:=aok hc p.rz p.rs hp.rs s8 M4.ai.wf;obtain⟨c3,o3⟩:=M3.cells;obtain⟨c4,o4⟩:=M4.cells;obtain⟨c5,o5⟩:=M5.cells;have G69:=M3.ai.trans (M4.ai.trans M5.ai);have q7:=M3.ai.get q6;have q8:=M4.ai.get q7;have q9:=M5.ai.get q8;have t3:∀(K:AV->St->Option (AV×St)),aq c (.store 1) [.ptr s.next 2,V3] s9 K=K .undef (bg s9 s.next (.cells [V1,V2,V3,ints p.cz p.cs,jx p.rz p.rs] 0)):=λK=>by rw[bY c K s9 1 s.next 2 V3 _ q9 (by rw[c3];rfl) (by simp) (by rw[c3];exact o3),c3];rfl
 have t4:∀(K:AV->St->Option (AV×St)),aq c (.store 1) [.ptr s.next 3,V4] (bg s9 s.next (.cells [V1,V2,V3,ints p.cz p.cs,jx p.rz p.rs] 0)) K=K .undef (bg s9 s.next (.cells [V1,V2,V3,V4,jx p.rz p.rs] 0)):=λK=>by rw[bY c K _ 1 s.next 3 V4 _ (bG _ _ _) (by rw[c4];rfl) (by simp) (by rw[c4];exact o4),c4,Pe];rfl
 have t5:∀(K:AV->St->Option (AV×St)),aq c (.store 1) [.ptr s.next 4,V5] (bg s9 s.next (.cells [V1,V2,V3,V4,jx p.rz p.rs] 0)) K=K .undef (bg s9 s.next (.cells [V1,V2,V3,V4,V5] 0)):=λK=>by rw[bY c K _ 1 s.next 4 V5 _ (bG _ _ _) (by rw[c5];rfl) (by simp) (by rw[c5];exact o5),c5,Pe];rfl
 have one:aN [V1,V2,V3,V4,V5]=true:=by
  simp only[aN,Zj5]at o1 o2 o3 o4 o5;simp only[aN,o1,o2,o3,o4,o5,Zk6]
 have p9:(bg s9 s.next (.cells [V1,V2,V3,V4,V5] 0)).heap.get p2=some (.cells [.af,.af,.af,.af,.af] 0):=by
  rw[aH nqp];exact G69.get (alX p2 _ (λe=>nqp e.symm) (by have:=D1.out.ai.wf _ _ p3;exact this) p3)
 have t6:∀(K:AV->St->Option (AV×St)),aq c (.store 5) [.ptr p2 0,.agg [V1,V2,V3,V4,V5]] (bg s9 s.next (.cells [V1,V2,V3,V4,V5] 0)) K=K .undef (bg (bg s9 s.next (.cells [V1,V2,V3,V4,V5] 0)) p2 (.cells [V1,V2,V3,V4,V5] 0)):=λK=>by rw[bY c K _ 5 p2 0 (.agg [V1,V2,V3,V4,V5]) _ p9 rfl (by simp) one];rfl
 have G6:=E1.out.ai;have G9:=G6.trans G69;have lq9:=G69.wf _ _ q9;have lp9:=G69.wf _ _ (G69.get (alX p2 _ (λe=>nqp e.symm) (D1.out.ai.wf _ _ p3) p3));have G13:Grew s (bg (bg s9 s.next (.cells [V1,V2,V3,V4,V5] 0)) p2 (.cells [V1,V2,V3,V4,V5] 0)):=⟨iG (iG G69.wf lq9) lp9,λr x hr=>by have:=hw _ _ hr;rw[aH (λe=>by rw[<-e]at this;omega),aH (λe=>by rw[<-e]at this;omega)];exact G9.get hr,by rw[dH,dH];exact G9.next⟩
 have yu:∀r x,sB.next.toNat<=r.toNat->s9.heap.get r=some x->(bg (bg s9 s.next (.cells [V1,V2,V3,V4,V5] 0)) p2 (.cells [V1,V2,V3,V4,V5] 0)).heap.get r=some x:=λr x hr hx=>by rw[aH (λe=>by rw[<-e]at hr;omega),aH (λe=>by rw[<-e]at hr;omega)];exact hx
 have n36:s3.next.toNat<=s6.next.toNat:=E1.lo;generalize hs13:bg (bg s9 s.next (.cells [V1,V2,V3,V4,V5] 0)) p2 (.cells [V1,V2,V3,V4,V5] 0)=Nj at t6 G13 yu;have F1:TS s Nj V1 p.ts r1:=by
  have keep:∀(es:Nat)(u:AV)(rows:List (List AV)),Mk es s s3 u rows->(∀b,aK u=some b->sB.next.toNat<=b.toNat)->Mk es s Nj u rows:=λes u rows hu hb=>Mk.qO hu G13 λb x hbu hx=>yu b x (hb b hbu) (G69.get (alX b x (λe=>by have:=hb b hbu;rw[e]at this;omega) (hu.ai.wf _ _ hx) hx))
  refine⟨keep _ _ _ D1.out D1.ne,D1.len,λi t r hi hr=> ?_⟩;obtain⟨v,e1,e2,e3,e4⟩:=D1.dY i t r (Za1.1 hi).1 hi hr;exact⟨v,e1,keep _ _ _ e2 e4,e3⟩
 have F2:GS s Nj V2 p.gs r2:=by
  have keep:∀(es:Nat)(u:AV)(rows:List (List AV)),Mk es s s6 u rows->(∀b,aK u=some b->s3.next.toNat<=b.toNat)->Mk es s Nj u rows:=λes u rows hu hb=>Mk.qO hu G13 λb x hbu hx=>yu b x (Zb3 n3B (hb b hbu)) (G69.get hx)
  refine⟨keep _ _ _ E1.out E1.ne,E1.len,λi t r hi hr=> ?_⟩;obtain⟨v,e1,e2,e3,e4⟩:=E1.dY i t r (Za1.1 hi).1 hi hr;exact⟨v,e1,keep _ _ _ e2 e4,e3⟩
 have F3:Mk 3 s Nj V3 (p.ys.map Ty.cells):=M3.qP hw G6 G13 λr x hr hx=>yu r x (by omega) ((M4.ai.trans M5.ai).get hx)
 have F4:Mk 1 s Nj V4 (p.cs.map bJ):=M4.qP hw (G6.trans M3.ai) G13 λr x hr hx=>yu r x (by have:=M3.ai.next;omega) (M5.ai.get hx)
 have F5:Mk 6 s Nj V5 (p.rs.map Rl.cells):=M5.qP hw (G6.trans (M3.ai.trans M4.ai)) G13 λr x hr hx=>yu r x (by have:=M3.ai.next;have:=M4.ai.next;omega) hx
 have fin:∃fI,tidy s (.agg [V1,V2,V3,V4,V5],Nj)=(.agg [V1,V2,V3,V4,V5],fI)/\PS s fI [V1,V2,V3,V4,V5] p:=by
  unfold tidy;by_cases hP:Plain (AV.agg [V1,V2,V3,V4,V5],Nj).1/\aX s (AV.agg [V1,V2,V3,V4,V5],Nj).2
  . rw[Zb4 hP];have inst:∀v∈[V1,V2,V3,V4,V5],dP v:=λv hv=>by
        simp only[Za9,Zc3,Zf0]at hv;rcases hv with rfl|rfl|rfl|rfl|rfl
        .exact F1.out.inst
        .exact F2.out.inst
        .exact F3.inst
        .exact F4.inst
        .exact F5.inst
    have k1:=F1.out.loose.resolve_left λ⟨b,off,n,e⟩=>absurd hP.1 (ni inst (b:=b) (off:=off) (n:=n) (es:=7) (by rw[<-e];simp))
    have k2:=F2.out.loose.resolve_left λ⟨b,off,n,e⟩=>absurd hP.1 (ni inst (b:=b) (off:=off) (n:=n) (es:=9) (by rw[<-e];simp))
    have k3:=F3.loose.resolve_left λ⟨b,off,n,e⟩=>absurd hP.1 (ni inst (b:=b) (off:=off) (n:=n) (es:=3) (by rw[<-e];simp))
    have k4:=F4.loose.resolve_left λ⟨b,off,n,e⟩=>absurd hP.1 (ni inst (b:=b) (off:=off) (n:=n) (es:=1) (by rw[<-e];simp))
    have k5:=F5.loose.resolve_left λ⟨b,off,n,e⟩=>absurd hP.1 (ni inst (b:=b) (off:=off) (n:=n) (es:=6) (by rw[<-e];simp))
    exact⟨s,rfl,Grew.refl hw,V1,V2,V3,V4,V5,r1,r2,rfl,⟨k1.1 s hw,F1.len,λi t r _ h=>by rw[k1.2]at h;simp at h⟩,⟨k2.1 s hw,F2.len,λi t r _ h=>by rw[k2.2]at h;simp at h⟩,k3.1 s hw,k4.1 s hw,k5.1 s hw⟩
  .rw[Za6 hP];exact⟨_,rfl,G13,V1,V2,V3,V4,V5,r1,r2,rfl,F1,F2,F3,F4,F5⟩
 obtain⟨fI,u1,u2⟩:=fin;refine⟨_,fI,?_,u2⟩;rw[acM hc 2000 (r:=(.agg [V1,V2,V3,V4,V5],Nj)),u1];rw[afK];have p13:Nj.heap.get p2=some (.cells [V1,V2,V3,V4,V5] 0):=by rw[<-hs13];exact bG _ _ _
 have hcut:cut [V1,V2,V3,V4,V5] 0 5=some [V1,V2,V3,V4,V5]:=cQ rfl;have L3:∀(ok:AV->Bool)(K:AV->Option (AV×St)),ok (ints p.cz p.cs)=true->jt (.load none) [.ptr s.next 3] s7.heap ok K=K (ints p.cz p.cs):=λok K h=>GU (ld q7 rfl) ok h K
 have L4:∀(ok:AV->Bool)(K:AV->Option (AV×St)),ok (jx p.rz p.rs)=true->jt (.load none) [.ptr s.next 4] s8.heap ok K=K (jx p.rz p.rs):=λok K h=>GU (ld q8 rfl) ok h K
 have b3:=VQ (acD (d:=2) p.cz p.cs);have b4:=VQ (an6 p.rz p.rs);have w36:=Lu (p:=s.next) (o:=3) (h:=s6.heap) (v:=ints p.cz p.cs) (ld q6 rfl) b3;have w46:=Lu (p:=s.next) (o:=4) (h:=s6.heap) (v:=jx p.rz p.rs) (ld q6 rfl) b4;have w47:=Lu (p:=s.next) (o:=4) (h:=s7.heap) (v:=jx p.rz p.rs) (ld q7 rfl) b4;have q2:=T2.box;have D3':=λk2=>D3 k2
 have E3':=λk2=>E3 k2
 simp at D3' E3';simp[hsB,Gk,qB,C1,t1,q2,l1,D3',q3,C2,t2,q5,l2,E3',q6,C3,L3,w36,C4,L4,w46,w47,C5,t3,t4,t5,hcut,t6,hs13,p13]
theorem PS.qP{s0 s1 s s':St}{Vs:List AV}{p:cr}(h:PS s1 s Vs p)(h0:Wf s0)(M7:Grew s0 s1)(hg:Grew s0 s')(hk:∀q b,s1.next.toNat<=q.toNat->s.heap.get q=some b->s'.heap.get q=some b):PS s0 s' Vs p:=by
 obtain⟨G,V1,V2,V3,V4,V5,r1,r2,rfl,F1,F2,F3,F4,F5⟩:=h;exact⟨hg,V1,V2,V3,V4,V5,r1,r2,rfl,F1.qP h0 M7 hg hk,F2.qP h0 M7 hg hk,F3.qP h0 M7 hg hk,F4.qP h0 M7 hg hk,F5.qP h0 M7 hg hk⟩
theorem PS.cells{s0 s:St}{Vs:List AV}{p:cr}(h:PS s0 s Vs p):Vs.length=5/\aN Vs=true:=by
 obtain⟨G,V1,V2,V3,V4,V5,r1,r2,rfl,F1,F2,F3,F4,F5⟩:=h;have o1:=F1.out.cells.2;have o2:=F2.out.cells.2;have o3:=F3.cells.2;have o4:=F4.cells.2;have o5:=F5.cells.2;simp only[aN,Zj5]at o1 o2 o3 o4 o5;exact⟨rfl,by simp only[aN,o1,o2,o3,o4,o5,Zk6]⟩
def kF(h:Int):List Int->List (Int×Int)->List Int->List (Int×Int)×List Int
 |[],E,q=>(E,q)
 |k::l,E,q=>if jX E k=none then kF h l (E++[(k,ax .i64 ((jX E h).getD 0+1))]) (q++[k])else kF h l E q
structure WI(s0 s:St)(m:Pos)(E:List (Int×Int))(v:AV)(q:List Int):Prop where
 jk:Wf s0
 ai:Grew s0 s
 mp:s.heap.get m=some (im E)
 alY:s0.next.toNat<=m.toNat
 Lx:QS 1 s v (q.map bJ)
 FL:∀b,aK v=some b->s0.next.toNat<=b.toNat
 nem:aK v≠some m
theorem Yy(l:List Int):∀r∈l.map bJ,r.length=1:=λr hr=>by simp only[Zc6]at hr;obtain⟨m,_,rfl⟩:=hr;rfl
theorem arV{s0:St}{m:Pos}{lv:AV}{l:List Int}(hl:QS 1 s0 lv (l.map bJ))(hll:l.length<=1000)(h:Int)(F:Nat):∀(r i f:Nat)(s:St)(E:List (Int×Int))(v:AV)(q:List Int),r<f->i+r=l.length->WI s0 s m E v (h::q)->q.length+r<=100000->
  ∃ s' v' q',kF h (l.drop i) E (h::q)=((kF h (l.drop i) E (h::q)).1,h::q')/\WI s0 s' m (kF h (l.drop i) E (h::q)).1 v' (h::q')/\q'.length<=q.length+r/\(∀p x,p≠m->aK v≠some p->s.heap.get p=some x->s'.heap.get p=some x/\aK v'≠some p)/\
    ∀(x0 Qo x42 x43:AV)(k6),jG c F k6 f [x0,.map m,v,Qo,x42,x43,lv,.int .i64 (l.length:Int),.int .i64 (i:Int)] s=k6 [x0,.map m,v',Qo,x42,x43] s':=by
 intro r;induction r with
 |zero=>
  intro i f s E v q hf h1 hI hq;obtain⟨f,rfl⟩:∃g,f=g+1:=⟨f - 1,by omega⟩
  obtain rfl:i=l.length:=by omega
  refine⟨s,v,q,?_,?_,by omega,λp x _ hp hx=>⟨hx,hp⟩,λx0 Qo x42 x43 k6=> ?_⟩
  .simp[kF]
  .simpa [kF]using hI
  .rw[vM];simp
 |succ r ih=>
  intro i f s E v q hf h1 hI hq;obtain⟨f,rfl⟩:∃g,f=g+1:=⟨f - 1,by omega⟩
  have hi:i<l.length:=by omega
  have w:ax .i64 ((i:Int)+1)=((i+1:Nat):Int):=wrap64 (by omega) (by omega);have hls:QS 1 s lv (l.map bJ):=hl.mono λb x _ hx=>hI.ai.get hx
  obtain⟨b,o,cs,a1,_,a3,a4⟩:=hls.at (c:=c) (R:=AV×St) (Yy l) (by decide) (i:=i) (by simpa using hi);have gi:cs[o]? =some (.int .i64 l[i]):=by simpa using a4 0 (.int .i64 l[i]) (by simp)
  have LK:=λ(K:AV->St->Option (AV×St))=>apV c K hI.mp l[i]
  rw[Ze2 hi];cases hk:jX E l[i]with
  | none=>
    obtain⟨b2,o2,cs2,d1,d0,d3,d4⟩:=hI.Lx.at (c:=c) (R:=AV×St) (Yy (h::q)) (by decide) (i:=0) (by simp);have g0:cs2[o2]? =some (.int .i64 h):=(by simpa using d4 0 (.int .i64 h) rfl);have i0:∀(K:AV->St->Option (AV×St))(s1:St),aq c (.idxA 1 none) [v,.int .i64 0] s1 K=K (.ptr b2 o2) s1:=λK s1=>d1 K .i64 s1
    have LH:=λ(K:AV->St->Option (AV×St))=>atY c K hI.mp h
    have MS:=λ(K:AV->St->Option (AV×St))=>ag2 c K hI.mp hk (ax .i64 ((jX E h).getD 0+1))
    generalize hd:ax .i64 ((jX E h).getD 0+1)=d at MS;have lm:=hI.ai.wf _ _ hI.mp;have G1:Grew s0 (bg s m (im (E++[(l[i],d)]))):=⟨iG hI.ai.wf lm,λp x hp=>by have:=hI.jk _ _ hp;rw[aH (λe=>by have:=hI.alY;rw[e]at this;omega)];exact hI.ai.get hp,by rw[dH];exact hI.ai.next⟩
    have q1:QS 1 (bg s m (im (E++[(l[i],d)]))) v ((h::q).map bJ):=hI.Lx.mono λb x hb hx=>by rw[aH (λe=>hI.nem (by rw[hb,e]))];exact hx
    have m1:=bG s m (im (E++[(l[i],d)]));obtain⟨s5,v5,e1,e2,e3,e4,e5,e6⟩:=q1.push (c:=c) (R:=AV×St) (bytes:=8) G1.wf (Yy _) (z:=[.int .i64 0]) (x:= .int .i64 l[i]) rfl rfl rfl (by decide) (by simp;omega) (by simp;omega);have I5:WI s0 s5 m (E++[(l[i],d)]) v5 (h::(q++[l[i]])):=by
        refine⟨hI.jk,⟨e3,λp x hp=> ?_,Zb3 G1.next e4⟩,e5 m _ hI.nem m1,hI.alY,by rw[<-Zd7,Zc8];exact e2,λb hb=> ?_,λe=> ?_⟩
        .refine e5 p x (λe=> ?_) (G1.get hp);have:=hI.FL p e;have:=hI.jk _ _ hp;omega
        .have:=e6 b hb;rw[dH]at this;have:=hI.ai.next;omega
        .have:=e6 m e;rw[dH]at this;omega
    obtain⟨s',v',q',f1,f2,f3,f4,f5⟩:=ih (i+1) f s5 _ v5 (q++[l[i]]) (by omega) (by omega) I5 (by simp;omega);have ew:kF h (l[i]::l.drop (i+1)) E (h::q)=kF h (l.drop (i+1)) (E++[(l[i],d)]) (h::(q++[l[i]])):=(by rw[kF,Zb4 hk,hd];rfl);rw[ew];refine⟨s',v',q',f1,f2,by simp at f3;omega,λp x ke Gk hx=> ?_,λx0 Qo x42 x43 k6=> ?_⟩
    .   have Zl:=e5 p x Gk (by rw[aH (λe=>ke e.symm)];exact hx);refine f4 p x ke (λe=> ?_) Zl;have:=e6 p e;rw[dH]at this;have:=hI.ai.wf _ _ hx;omega
    .   rw[<-f5 x0 Qo x42 x43 k6,vM];rw[hk]at LK;simp[-au,iZ,hi,a1,a3,gi,LK,i0,d3,g0,LH,hd,MS,e1,w]
  | some d0=>
    obtain⟨s',v',q',f1,f2,f3,f4,f5⟩:=ih (i+1) f s E v q (by omega) (by omega) hI (by omega);have ew:kF h (l[i]::l.drop (i+1)) E (h::q)=kF h (l.drop (i+1)) E (h::q):=by
        rw[kF,Za6 (by rw[hk];simp)]
    rw[ew];refine⟨s',v',q',f1,f2,by omega,f4,λx0 Qo x42 x43 k6=> ?_⟩;rw[<-f5 x0 Qo x42 x43 k6,vM];rw[hk]at LK;simp[iZ,hi,a1,a3,gi,LK,w]
theorem abe(k d x:Int):∀E:List (Int×Int),jX (E++[(k,d)]) x=match jX E x with|some e=>some e|none=>if x=k then some d else none
 |[]=>by simp only[Ze0,jX]
 |(a,b)::E=>by
  show(if x=a then some b else jX (E++[(k,d)]) x)=_;rw[abe k d x E];show _=match (if x=a then some b else jX E x)with|some e=>some e|none=>if x=k then some d else none
  by_cases h:x=a
  .simp only[h,Zh1]
  .simp only[h,Zh0]
theorem aii{α:Type}{P Q:α->Bool}(hPQ:∀x,P x=true->Q x=true):∀{l:List α}{a:α},a∈l->Q a=true->P a=false->l.countP P+1<=l.countP Q
 |x ::l,a,ha,h1,h2=>by
  rcases Za9.1 ha with rfl|ha
  .rw[Zp3,Zp3,h1,h2];have:=List.countP_mono_left (l:=l) (p:=P) (q:=Q) (λx _ h=>hPQ x h);simp;omega
  . have ih:=aii hPQ ha h1 h2;rw[Zp3,Zp3];by_cases hx:P x=true
    .   rw[hx,hPQ x hx];simp;omega
    .   have:P x=false:=(by simpa using hx);rw[this];cases Q x<;>simp<;>omega
def cnt(n:Nat)(E:List (Int×Int)):Nat:=(List.range n).countP λ(i:Nat)=>(jX E (i:Int)).isNone
theorem aqY{n:Nat}{E:List (Int×Int)}{k d:Int}(hk:0<=k/\k<(n:Int))(h:jX E k=none):cnt n (E++[(k,d)])+1<=cnt n E:=by
 unfold cnt;refine aii (a:=k.toNat) (λi hi=> ?_) (Zg3.2 (by omega)) ?_ ?_
 . rw[abe]at hi;cases h2:jX E (i:Int)with
   |none=>rfl
   |some e=>rw[h2]at hi;cases hi
 .have:((k.toNat:Nat):Int)=k:=(by omega);rw[this,h];rfl
 .have:((k.toNat:Nat):Int)=k:=(by omega);rw[this,abe,h];simp
theorem Ki{n:Nat}(h:Int):∀(l:List Int)(E:List (Int×Int))(q:List Int),(∀k∈l,0<=k/\k<(n:Int))->(∀k∈q,0<=k/\k<(n:Int))->
  cnt n (kF h l E q).1+(kF h l E q).2.length<=cnt n E+q.length/\∀k∈(kF h l E q).2,0<=k/\k<(n:Int)
 |[],E,q,_,hq=>⟨Za3 _,hq⟩
 |k ::l,E,q,hl,hq=>by
  have hk:=hl k (by simp);by_cases hn:jX E k=none
  . rw[kF,Zb4 hn];obtain⟨a,b⟩:=Ki h l (E++[(k,ax .i64 ((jX E h).getD 0+1))]) (q++[k]) (λx hx=>hl x (Zb0 _ hx)) (λx hx=>by
        rcases Zd5.1 hx with hx|hx
        .exact hq x hx
        .simp at hx;subst hx;exact hk)
    have:=aqY (d:=ax .i64 ((jX E h).getD 0+1)) hk hn;simp only[Zd8,Zc9,Zi6]at a;exact⟨by omega,b⟩
  .rw[kF,Za6 hn];exact Ki h l E q (λx hx=>hl x (Zb0 _ hx)) hq
structure RL(s:St)(V:AV)(rows:List (List Int))(ws:List AV):Prop where
 out:QS 1 s V (ws.map λw=>[w])
 len:ws.length=rows.length
 dY:∀(i:Nat)(w:AV)(r:List Int),ws[i]? =some w->rows[i]? =some r->QS 1 s w (r.map bJ)
 nk:∀w∈ws,w.cells=[w]
def Yz(rB rA:List (List Int)):Nat->List (Int×Int)->List Int->List (Int×Int)
 |0,E,_=>E
 |_+1,E,[]=>E
 |f+1,E,h::q=>Yz rB rA f (kF h (rA.getD h.toNat []) (kF h (rB.getD h.toNat []) E (h::q)).1 (kF h (rB.getD h.toNat []) E (h::q)).2).1 (kF h (rA.getD h.toNat []) (kF h (rB.getD h.toNat []) E (h::q)).1 (kF h (rB.getD h.toNat []) E (h::q)).2).2.tail
theorem atk(hc:Sem c){s0:St}{jb m:Pos}{jc:List AV}{VB VA:AV}{rB rA:List (List Int)}{wB wA:List AV}{n:Nat}(hn:n<=10000)(hj:s0.heap.get jb=some (.cells jc 0))(h9:jc[9]? =some VB)(h10:jc[10]? =some VA)
  (hB:RL s0 VB rB wB) (hA:RL s0 VA rA wA) (lB:rB.length=n) (lA:rA.length=n) (eB:∀r∈rB,r.length<=1000/\∀k∈r,0<=k/\k<(n:Int)) (eA:∀r∈rA,r.length<=1000/\∀k∈r,0<=k/\k<(n:Int)) (F:Nat) (hF:1010<=F) (k2):
  ∀(f g:Nat)(s:St)(E:List (Int×Int))(v:AV)(q:List Int),f<g->cnt n E+q.length<=f->f<=20000->(∀k∈q,0<=k/\k<(n:Int))->WI s0 s m E v q->
   ∃s',Grew s0 s'/\s'.heap.get m=some (im (Yz rB rA f E q))/\oP c F k2 g [.ptr jb 0,.map m,v] s=k2 [.map m] s':=by
 intro f;induction f with
 |zero=>
  intro g s E v q hg h1 hf h2 hI;obtain⟨g,rfl⟩:∃g',g=g'+1:=⟨g - 1,by omega⟩
  obtain rfl:q=[]:=Zc0 (by omega);refine⟨s,hI.ai,hI.mp,?_⟩;have hl:∀(K:AV->St->Option (AV×St))(t:St),aq c (.lenB .l) [v] t K=K (.int .i64 0) t:=λK t=>by rw[hI.Lx.lenB];simp
  rw[vN];simp[hl]
 |succ f ih=>
  intro g s E v q hg h1 hf h2 hI;obtain⟨g,rfl⟩:∃g',g=g'+1:=⟨g - 1,by omega⟩
  have hl:∀(K:AV->St->Option (AV×St))(t:St),aq c (.lenB .l) [v] t K=K (.int .i64 (q.length:Int)) t:=λK t=>by rw[hI.Lx.lenB];simp
  cases q with
  |nil=>
   refine⟨s,hI.ai,hI.mp,?_⟩;rw[vN];simp[hl]
  |cons h q=>
   have hh:=h2 h (by simp);obtain⟨i,rfl⟩:∃i:Nat,h=(i:Int):=⟨h.toNat,by omega⟩
   have hi:i<n:=(by omega);have hw:=hI.ai.wf;obtain⟨b0,o0,ZQ,_,d2,_,d4,_,d6,_⟩:=hI.Lx.set (c:=c) (R:=AV×St) (Yy _) (by decide) (i:=0) (by simp);have g0:ZQ[o0]? =some (.int .i64 (i:Int)):=(by simpa using d6 0 (.int .i64 (i:Int)) rfl);have j0:∀(K:AV->Option (AV×St)),fq (.idxA 1 none) [v,.int .i64 0] K=K (.ptr b0 o0):=λK=>d2 K .i64
   have one:∀(ws:List AV),∀r∈ws.map (λw=>[w]),r.length=1:=λws r hr=>by simp only[Zc6]at hr;obtain⟨w,_,rfl⟩:=hr;rfl
   have iB:i<wB.length:=(by rw[hB.len,lB];exact hi);have iA:i<wA.length:=(by rw[hA.len,lA];exact hi);obtain⟨b1,o1,cs1,_,e2,_,e4,_,e6,_⟩:=(hB.out.mono (s':=s) λb x _ hx=>hI.ai.get hx).set (c:=c) (R:=AV×St) (one wB) (by decide) (i:=i) (by simpa using iB);have gB:cs1[o1]? =some wB[i]:=(by simpa using e6 0 wB[i] (by simp));have jB:∀(K:AV->Option (AV×St)),fq (.idxA 1 none) [VB,.int .i64 (i:Int)] K=K (.ptr b1 o1):=λK=>e2 K .i64
   obtain⟨b2,o2,cs2,_,f2,_,f4,_,f6,_⟩:=(hA.out.mono (s':=s) λb x _ hx=>hI.ai.get hx).set (c:=c) (R:=AV×St) (one wA) (by decide) (i:=i) (by simpa using iA);have gA:cs2[o2]? =some wA[i]:=(by simpa using f6 0 wA[i] (by simp));have jA:∀(K:AV->Option (AV×St)),fq (.idxA 1 none) [VA,.int .i64 (i:Int)] K=K (.ptr b2 o2):=λK=>f2 K .i64
   have jbs:=hI.ai.get hj;have nc:∀(K:AV->Option (AV×St)),fq .nilCheck [.ptr jb 0] K=K (.ptr jb 0):=λK=>cZ K (λH n=>rfl)
   have Cy:cF [AV.af,.af] [(0,1),(1,1)] [wB[i],wA[i]]=some [wB[i],wA[i]]:=by
        simp[cF,cK,cM,aQ,hB.nk _ (Zb8 iB),hA.nk _ (Zb8 iA)]
   have aul:cF (bU [AV.af] 2) [(0,1),(1,1)] [wB[i],wA[i]]=some [wB[i],wA[i]]:=Cy;have G1:=Grew.ah hw (.cells [wB[i],wA[i]] 0);have I1:WI s0 (ah s (.cells [wB[i],wA[i]] 0)) m E v ((i:Int)::q):=⟨hI.jk,hI.ai.trans G1,G1.get hI.mp,hI.alY,hI.Lx.mono λb x _ hx=>G1.get hx,hI.FL,hI.nem⟩
   have X1:=aA s (.cells [wB[i],wA[i]] 0);have lv:∀b,aK v=some b->b.toNat<s.next.toNat:=λb hb=>hI.Lx.lt hw hb
   have lm:m.toNat<s.next.toNat:=hw _ _ hI.mp;have rBi:rB[i]? =some rB[i]:=H0 (by omega);have rAi:rA[i]? =some rA[i]:=H0 (by omega);have QB:=hB.dY i wB[i] rB[i] (H0 iB) rBi;have QA:=hA.dY i wA[i] rA[i] (H0 iA) rAi;have sB:=eB _ (Zb8 (by omega:i<rB.length));have sA:=eA _ (Zb8 (by omega:i<rA.length));have hq:q.length<=20000:=(by simp only[Zc9]at h1;omega);obtain⟨s2,v2,q2,k1,k2',k3,k4,k5⟩:=arV (c:=c) QB sB.1 (i:Int) F rB[i].length 0 F _ E v q (by omega) (by omega) I1 (by omega);rw[Ze6]at k1 k2';obtain⟨Y1,Z1⟩:=k4 s.next _ (λe=>by rw[<-e]at lm;omega) (λe=>by have:=lv _ e;omega) X1;obtain⟨s3,v3,q3,l1,l2,l3,l4,l5⟩:=arV (c:=c) QA sA.1 (i:Int) F rA[i].length 0 F _ _ v2 q2 (by omega) (by omega) k2' (by omega);rw[Ze6]at l1 l2;obtain⟨Y2,Z2⟩:=l4 s.next _ (λe=>by rw[<-e]at lm;omega) Z1 Y1;obtain⟨v4,t1,t2,t3⟩:=QS.tail (R:=AV×St) (c:=c) (r:=bJ (i:Int)) (rows:=q3.map bJ) l2.Lx rfl;obtain⟨n1,n2⟩:=Ki (n:=n) (i:Int) rB[i] E ((i:Int)::q) sB.2 h2;rw[k1]at n1 n2;obtain⟨n3,n4⟩:=Ki (n:=n) (i:Int) rA[i] (kF (i:Int) rB[i] E ((i:Int)::q)).1 ((i:Int)::q2) sA.2 n2;rw[l1]at n3 n4;have I4:WI s0 s3 m (kF (i:Int) rA[i] (kF (i:Int) rB[i] E ((i:Int)::q)).1 ((i:Int)::q2)).1 v4 q3:=⟨l2.jk,l2.ai,l2.mp,l2.alY,t2,λb hb=>l2.FL b (t3 b hb),λe=>l2.nem (t3 _ e)⟩
   obtain⟨s5,u1,u2,u3⟩:=ih g s3 _ v4 q3 (by omega) (by simp only[Zc9]at n1 n3 h1;omega) (by omega) (λk hk=>n4 k (Zb0 _ hk)) I4;have ew:Yz rB rA (f+1) E ((i:Int)::q)=Yz rB rA f (kF (i:Int) rA[i] (kF (i:Int) rB[i] E ((i:Int)::q)).1 ((i:Int)::q2)).1 q3:=(by have gb:rB.getD ((i:Int)).toNat []=rB[i]:=(by simp[List.getD,rBi]);have ga:rA.getD ((i:Int)).toNat []=rA[i]:=(by simp[List.getD,rAi]);rw[Yz,gb,ga];have e1:(kF (i:Int) rB[i] E ((i:Int)::q)).2=(i:Int)::q2:=(by rw[k1]);rw[e1];have e2:(kF (i:Int) rA[i] (kF (i:Int) rB[i] E ((i:Int)::q)).1 ((i:Int)::q2)).2=(i:Int)::q3:=(by rw[l1]);rw[e2];rfl);refine⟨s5,u1,by rw[ew];exact u2,?_⟩;obtain⟨F',rfl⟩:∃F',F=F'+3:=⟨F - 3,by omega⟩
   have x0:∀(K:AV->St->Option (AV×St))(t:St),aq c (.idxA 1 none) [.slice s.next 0 2 (some 2) 1,.int .i64 0] t K=K (.ptr s.next 0) t:=λK t=>iR c K t (i:=0) (k:= .i64) (es:=1) (by omega)
   have x1:∀(K:AV->St->Option (AV×St))(t:St),aq c (.idxA 1 none) [.slice s.next 0 2 (some 2) 1,.int .i64 1] t K=K (.ptr s.next 1) t:=λK t=>iR c K t (i:=1) (k:= .i64) (es:=1) (by omega)
   have y0:∀(K:AV->St->Option (AV×St))(t:St),aq c (.lenB .l) [wB[i]] t K=K (.int .i64 (rB[i].length:Int)) t:=λK t=>by rw[QB.lenB];simp
   have y1:∀(K:AV->St->Option (AV×St))(t:St),aq c (.lenB .l) [wA[i]] t K=K (.int .i64 (rA[i].length:Int)) t:=λK t=>by rw[QA.lenB];simp
   have y2:∀(K:AV->Option (AV×St)),fq (.lenB .l) [.slice s.next 0 2 (some 2) 1] K=K (.int .i64 2):=λK=>cZ K (λH n=>rfl)
   have w1:ax .i64 (1:Int)=1:=rfl;have w2:ax .i64 (2:Int)=2:=rfl;have R1:∀k4,fe c (F'+3) k4 (F'+3) [.ptr jb 0,.map m,v,.slice s.next 0 2 (some 2) 1,.int .i64 2,.int .i64 0] (ah s (.cells [wB[i],wA[i]] 0))=fe c (F'+3) k4 (F'+2) [.ptr jb 0,.map m,v2,.slice s.next 0 2 (some 2) 1,.int .i64 2,.int .i64 1] s2:=λk4=>by
        (rw[vO];have:=λk6=>k5 (.ptr jb 0) (.slice s.next 0 2 (some 2) 1) (.int .i64 2) (.int .i64 0) k6);simp at this;simp[x0,X1,y0,this,w1]
   have R2:∀k4,fe c (F'+3) k4 (F'+2) [.ptr jb 0,.map m,v2,.slice s.next 0 2 (some 2) 1,.int .i64 2,.int .i64 1] s2=fe c (F'+3) k4 (F'+1) [.ptr jb 0,.map m,v3,.slice s.next 0 2 (some 2) 1,.int .i64 2,.int .i64 2] s3:=λk4=>by
        (rw[vO];have:=λk6=>l5 (.ptr jb 0) (.slice s.next 0 2 (some 2) 1) (.int .i64 2) (.int .i64 1) k6);simp at this;simp[x1,Y1,y1,this,w2]
   have R3:∀k4,fe c (F'+3) k4 (F'+1) [.ptr jb 0,.map m,v3,.slice s.next 0 2 (some 2) 1,.int .i64 2,.int .i64 2] s3=k4 [.ptr jb 0,.map m,v3] s3:=λk4=>by rw[vO];simp
   rw[<-u3,vN];have Vn:0<(q.length:Int)+1:=(by omega);simp[hl,Vn,nc,jbs,h9,h10,j0,d4,g0,jB,e4,gB,jA,f4,gA,aul,y2,R1,R2,R3,t1]
def ab6(rB rA:List (List Int))(n:Nat)(fr:Int):List (Int×Int):=Yz rB rA (n+1) [(fr,0)] [fr]
theorem atl(hc:Sem c){jb:Pos}{jc:List AV}{VB VA:AV}{rB rA:List (List Int)}{wB wA:List AV}{n:Nat}(hn:n<=10000)(s:St)(hw:Wf s)(hj:s.heap.get jb=some (.cells jc 0))(h9:jc[9]? =some VB)(h10:jc[10]? =some VA)
  (hB:RL s VB rB wB) (hA:RL s VA rA wA) (lB:rB.length=n) (lA:rA.length=n) (eB:∀r∈rB,r.length<=1000/\∀k∈r,0<=k/\k<(n:Int)) (eA:∀r∈rA,r.length<=1000/\∀k∈r,0<=k/\k<(n:Int)) (fr:Int) (EF:0<=fr/\fr<(n:Int)):
  ∃m s',c 67 [.ptr jb 0,.int .i64 fr] s=some (.map m,s')/\Grew s s'/\s.next.toNat<=m.toNat/\s'.heap.get m=some (im (ab6 rB rA n fr)):=by
 have cO:Wf (ah s (im [])):=bF hw;have g1:=Grew.ah hw (im []);have m1:=aA s (im []);have MS:=λ(K:AV->St->Option (AV×St))=>ag2 c K m1 (x:=fr) rfl 0
 have lm:=cO _ _ m1;have G2:Grew s (bg (ah s (im [])) s.next (im ([]++[(fr,0)]))):=⟨iG cO lm,λp x hp=>by have:=hw _ _ hp;rw[aH (λe=>by rw[<-e]at this;omega)];exact g1.get hp,by rw[dH];exact g1.next⟩
 have m2:=bG (ah s (im [])) s.next (im ([]++[(fr,0)]));generalize tT:bg (ah s (im [])) s.next (im ([]++[(fr,0)]))=s2 at MS G2 m2;have row:=λ(K:AV->St->Option (AV×St))=>Kr (c:=c) (es:=1) (z:=[.int .i64 0]) (x:= .int .i64 fr) rfl rfl s2 K
 have g3:=Grew.ah G2.wf (.cells (AV.cells (.int .i64 fr)) 0);have lm2:=G2.wf _ _ m2;have I:WI s (ah s2 (.cells (AV.cells (.int .i64 fr)) 0)) s.next [(fr,0)] (.slice s2.next 0 1 (some 1) 1) [fr]:=by
  refine⟨hw,G2.trans g3,g3.get m2,Za3 _,.inr (.inl ⟨s2.next,0,some 1,[.int .i64 fr],rfl,aA _ _,by simp,by simp,.inr rfl⟩),λb hb=> ?_,λe=> ?_⟩
  .obtain rfl:=sO hb;exact G2.next
  .have:=congrArg Pos.toNat (sO e);omega
 have hc1:cnt n [(fr,0)]+[fr].length<=n+1:=by
  have:cnt n [(fr,0)]<=n:=by unfold cnt;exact Zb3 List.countP_le_length (by simp)
  simp;omega
 obtain⟨s',u1,u2,u3⟩:=atk hc hn hj h9 h10 hB hA lB lA eB eA 20000 (by omega) (λvs s59=>gV vs λx5 vs=>mo vs (aq c .move [x5] s59 λx75 s60=>aq c .move [x75] s60 λx4 s61=>some (x4,s61))) (n+1) 20000 _ _ _ [fr] (by omega) hc1 (by omega) (λk hk=>by simp at hk;subst hk;exact EF) I;refine⟨s.next,s',?_,u1,Za3 _,u2⟩;rw[U2 hc 20000 (r:=(.map s.next,s')),ah2];rw[Zi];have hmk:∀(K:AV->St->Option (AV×St)),aq c .mkMap [] s K=K (.map s.next) (ah s (im [])):=λK=>by rw[VO];rfl
 simp at u3;simp[-au,-VO,hmk,MS,row,u3]
theorem atm(hc:Sem c)(z:Bool)(ts:List aB)(cw:∀t∈ts,t.Ok){pb sb:Pos}{cs:List AV}(h0:cs[0]? =some (tabs z ts))(a b:Int)(ha:a<=4611686018427387904)(hb:b<=4611686018427387904)(s:St)(hw:Wf s)
  (hp:s.heap.get pb=some (.cells cs 0)) (hs:s.heap.get sb=some (.cells [.int .i64 a] 0)):
  c 63 [.int .i64 b,.ptr pb 0,.ptr sb 0] s=some (.bool (Lm ts a b),s):=by
 have B:=aoa hc z ts cw a b ha hb s hw;rw[ad2 hc 1 (r:=(.bool (Lm ts a b),s)),aF (Plain.bool _) (aX.refl s)];rw[aij];simp[hp,hs,h0,B]
theorem atn(hc:Sem c)(z:Bool)(ts:List aB)(cw:∀t∈ts,t.Ok){pb sb:Pos}{cs:List AV}(h0:cs[0]? =some (tabs z ts))(a b:Int)(ha:a<=4611686018427387904)(hb:b<=4611686018427387904)(s:St)(hw:Wf s)
  (hp:s.heap.get pb=some (.cells cs 0)) (hs:s.heap.get sb=some (.cells [.int .i64 a] 0)):
  c 65 [.int .i64 b,.ptr pb 0,.ptr sb 0] s=some (.bool (Ln ts a b),s):=by
 have B:=aob hc z ts cw a b ha hb s hw;rw[ad3 hc 1 (r:=(.bool (Ln ts a b),s)),aF (Plain.bool _) (aX.refl s)];rw[aik];simp[hp,hs,h0,B]
theorem aop(hc:Sem c)(z:Bool)(ts:List aB)(cw:∀t∈ts,t.Ok){pb sb:Pos}{cs:List AV}(h0:cs[0]? =some (tabs z ts))(a:Int)(ha:a<=1000000){first:Int}(hf:0<=first/\first<=1000000){n:Nat}(hn:n<=1000000)(s:St)(hw:Wf s)
  (hp:s.heap.get pb=some (.cells cs 0)) (hs:s.heap.get sb=some (.cells [.int .i64 a] 0)):
  ∃v s',c 62 [.int .i64 first,.int .i64 (n:Int),.func 63 [] [.ptr pb 0,.ptr sb 0]] s=some (v,s')/\Mk 1 s s' v ((ja first n (Lm ts a)).map bJ):=
 aid hc hf hn hw λk t hg h1 h2=>atm hc z ts cw h0 a k (by omega) (by omega) t hg.wf (hg.get hp) (hg.get hs)
theorem aoq(hc:Sem c)(z:Bool)(ts:List aB)(cw:∀t∈ts,t.Ok){pb sb:Pos}{cs:List AV}(h0:cs[0]? =some (tabs z ts))(a:Int)(ha:a<=1000000){first:Int}(hf:0<=first/\first<=1000000){n:Nat}(hn:n<=1000000)(s:St)(hw:Wf s)
  (hp:s.heap.get pb=some (.cells cs 0)) (hs:s.heap.get sb=some (.cells [.int .i64 a] 0)):
  ∃v s',c 62 [.int .i64 first,.int .i64 (n:Int),.func 65 [] [.ptr pb 0,.ptr sb 0]] s=some (v,s')/\Mk 1 s s' v ((ja first n (Ln ts a)).map bJ):=
 aid hc hf hn hw λk t hg h1 h2=>atn hc z ts cw h0 a k (by omega) (by omega) t hg.wf (hg.get hp) (hg.get hs)
theorem aor(z:Bool)(ts:List aB)(k:Nat)(hk:k<ts.length)(K:AV->St->Option (AV×St))(s:St):aq c (.sliceL 7 true true false) [tabs z ts,.int .i64 (k:Int),.int .i64 ((k+1:Nat):Int)] s K=K (tabs false [ts[k]]) s:=by
 have e:tabs z ts= .fl (ts.map aB.cells) 7:=by
  unfold tabs;exact adl (by intro h;have:=congrArg List.length h;simp at this;subst this;simp at hk)
 have run:∀(H:Pos->Option AB)(n:Pos),aE.run H n (.sliceL 7 true true false) [tabs z ts,.int .i64 (k:Int),.int .i64 ((k+1:Nat):Int)]=some (.val (tabs false [ts[k]])):=λH n=>by
  rw[e];have hb:bounds true true false [.int .i64 (k:Int),.int .i64 ((k+1:Nat):Int)]=some (some k,some (k+1),none):=rfl;have h1:k+1<=(ts.map aB.cells).length:=by simp;omega
  simp only[aE.run,iL,hb,cK,cM,Zg6,Ze8,Za0 (Nat.le_succ k),Za0 h1];have:((ts.map aB.cells).take (k+1)).drop k=[ts[k].cells]:=by rw[Zc7 (by simpa using hk),Zg9 (by simp;omega)];simp
  rw[this];rfl
 exact aS c K run s
theorem aot(hc:Sem c)(t:aB)(cw:t.Ok)(h:rM t=0)(s:St)(hw:Wf s):c 59 [tabs false [t]] s=some (.int .i64 (bw t),s):=by
 rw[FH hc false [t] (λu hu=>by simp at hu;subst hu;exact cw) s hw,Zb4 (GQ h)];simp[aU]
def mnS(a b:List Nat):List Nat:=match aO a b||kq a b with|true=>a|false=>b
def mxS(a b:List Nat):List Nat:=match aO a b with|true=>b|false=>a
theorem aqZ(hc:Sem c)(a b:List Nat)(k:Int)(st:St)(hw:Wf st):c 186 [.str a,.str b,.int .u8 k] st=some (.agg (Ty.cells ⟨mnS a b,mxS a b,k⟩),st):=by
 rw[Qe hc 1 (r:=(.agg (Ty.cells ⟨mnS a b,mxS a b,k⟩),ah st (.cells (Ty.cells ⟨mnS a b,mxS a b,k⟩) 0))),aF (Plain.agg (by simp[Ty.cells,Plain.str,Plain.int])) (cq hw)];rw[WV];have m1:∀(K:AV->St->Option (AV×St))(s:St),aq c .minB [.str a,.str b] s K=K (.str (mnS a b)) s:=λK s=>aS c K (λH n=>rfl) s
 have m2:∀(K:AV->St->Option (AV×St))(s:St),aq c .maxB [.str a,.str b] s K=K (.str (mxS a b)) s:=λK s=>aS c K (λH n=>rfl) s
 simp[m1,m2,cF,aQ,cM,AV.cells,aN,AV.one,cQ,Ty.cells]
theorem Xd{ts:List Ty}(hs:EN ts)(t:Ty):∀n,n<=ts.length->∃q,q<=n/\(∀h (hh:h<ts.length),h<q->fE ts[h] t=true)/\∀h (hh:h<ts.length),q<=h->h<n->fE ts[h] t=false
 |0,_=>⟨0,Za3 _,λh _ hq=>absurd hq (Nat.not_lt_zero _),λh _ _ hq=>absurd hq (Nat.not_lt_zero _)⟩
 |n+1,hn=>by
  obtain⟨q,h1,h2,h3⟩:=Xd hs t n (by omega);cases hb:fE (ts[n]'(by omega)) t with
  |true=>
   refine⟨n+1,Za3 _,λh hh hq=> ?_,λh hh hq1 hq2=>by omega⟩;by_cases e:h=n
   .subst e;exact hb
   .exact Kf (hs h n (by omega) (by omega)) hb
  |false=>
   refine⟨q,by omega,h2,λh hh hq1 hq2=> ?_⟩;by_cases e:h=n
   .subst e;exact hb
   .exact h3 h hh hq1 (by omega)
open Classical in
noncomputable def Ii(ts:List Ty)(t:Ty):Nat:=if h:EN ts then Classical.choose (Xd h t ts.length (Za3 _))else 0
theorem ato{ts:List Ty}(hs:EN ts)(t:Ty):Ii ts t<=ts.length/\(∀h (hh:h<ts.length),h<Ii ts t->fE ts[h] t=true)/\∀h (hh:h<ts.length),Ii ts t<=h->h<ts.length->fE ts[h] t=false:=by
 unfold Ii;rw[dif_pos hs];exact Classical.choose_spec (Xd hs t ts.length (Za3 _))
def Dn(a b:List Nat):Ty:=⟨mnS a b,mxS a b,0⟩
noncomputable def Xe(ts:List Ty)(a b:List Nat):Int:=if Ay ts (Dn a b) (Ii ts (Dn a b))then(match ts[Ii ts (Dn a b)]? with|some t=>t.k|none=>0)else 0
theorem aou(hc:Sem c){s0 s:St}{bp mp:Pos}{gs:List aR}{ts:List Ty}{gk tk:Option Pos}(B:eD s0 s bp mp gs ts gk tk)(hl:ts.length<=1000)(a b:List Nat)(hs:EN ts):
   (Ay ts (Dn a b) (Ii ts (Dn a b))=true->Ii ts (Dn a b)<ts.length)/\c 137 [.ptr bp 0,.str a,.str b] s=some (.tuple [.int .i64 (Ii ts (Dn a b):Int),.bool (Ay ts (Dn a b) (Ii ts (Dn a b)))],s):=by
 obtain⟨h1,h2,h3⟩:=ato hs (Dn a b);generalize Ii ts (Dn a b)=q at*
 unfold Dn at*
 refine⟨λe=> ?_,?_⟩
 . by_cases h:q<ts.length
   .exact h
   .unfold Ay at e;rw[Zc2 (by omega)]at e;cases e
 have hpr:=aqZ hc a b 0 s B.wf;have Gi:=arR hc ts hl ⟨mnS a b,mxS a b,0⟩ q h1 h2 (λh hh hq=>h3 h hh hq hh) tk s B.wf B.xU.1 B.xU.2;rw[Dg hc 1 (r:=(.tuple [.int .i64 (q:Int),.bool (Ay ts ⟨mnS a b,mxS a b,0⟩ q)],s)),aF (Plain.tuple (by simp[Plain.int,Plain.bool])) (aX.refl s)];rw[GO];have bq:eO (kP tk ts.length 3) (kP tk ts.length 3)=true:=by cases tk;exact RF;exact MZ _ _ _ _
 have Lt:=λ(K:AV->Option (AV×St))=>kW K (p:=bp) (o:=1) (h:=s.heap) (h2:=s.heap) (v:=kP tk ts.length 3) (by rw[B.book];rfl) (by rw[B.book];rfl) bq
 simp[hpr,Lt,Gi]
theorem atp(hc:Sem c){s0 s:St}{bp mp:Pos}{gs:List aR}{ts:List Ty}{gk tk:Option Pos}(B:eD s0 s bp mp gs ts gk tk)(hl:ts.length<=1000)(hs:EN ts)(a b:List Nat):
  ∃(ok:Bool),c 70 [.ptr bp 0,.str a,.str b] s=some (.tuple [.int .u8 (Xe ts a b),.bool ok],s):=by
 obtain⟨h1,h2⟩:=aou hc B hl a b hs;unfold Xe;generalize Ii ts (Dn a b)=q at*
 generalize Ay ts (Dn a b) q=ok at*
 have hn:=Yv hc s bp mp _ _ B.book;cases ok with
 |false=>
  refine⟨false,?_⟩;simp only[Zf4,Zh0];rw[EP hc 1 (r:=(.tuple [.int .u8 0,.bool false],s)),aF (Plain.tuple (by simp[Plain.int,Plain.bool])) (aX.refl s)];rw[IC];simp[hn,h2]
 |true=>
  have hq:=h1 rfl;obtain⟨t,rfl⟩:∃t,tk=some t:=by
   cases tk with
   |none=>rw[B.xU.1 rfl]at hq;simp at hq
   |some t=>exact⟨t,rfl⟩
  have um:=B.xU.2 t rfl;simp only[Zh1];rw[H0 hq];simp only;obtain⟨k,pF⟩:∃k,k=ts[q].k:=⟨_,rfl⟩
  have hk:(ts[q].cells)[2]? =some (.int .u8 k):=by rw[pF];rfl
  rw[<-pF];have Cx:(ts.flatMap Ty.cells)[q*3+2]? =some (.int .u8 k):=by have:=Go.Ai.yy (rows:=ts.map Ty.cells) (es:=3) (λr hr=>by simp only[Zc6]at hr;obtain⟨t,_,rfl⟩:=hr;rfl) q 2 ts[q].cells (.int .u8 k) (by rw[Zb7,H0 hq];rfl) hk;exact this
  refine⟨true,?_⟩;have ix:=λ(K:AV->St->Option (AV×St))(s:St)=>iR c K s (b:=t) (off:=0) (es:=3) (es':=3) (cap:=none) (k:= .i64) hq
  rw[EP hc 1 (r:=(.tuple [.int .u8 k,.bool true],s)),aF (Plain.tuple (by simp[Plain.int,Plain.bool])) (aX.refl s)];rw[IC];simp[hn,h2,B.book,kP,ix,um,Cx]
def tW:aR:=⟨[],[],[],0,0,[],false,false,true,[]⟩
def TO(gs:List aR)(a:List Nat):Option aR:=gs.find? λg=>decide (g.name=a)
theorem aq0{a:List Nat}:∀{gs:List aR},a∉gs.map aR.name->TO gs a=none:=λh=>List.find?_eq_none.2 λg hg e=>h (Zc6.2 ⟨g,hg,Zg1 e⟩)
theorem aov(a:List Nat):∀(gs:List aR)(es:List (AV×AV×Nat))(k i j:Nat)(v:AV),es.map (·.1)=gs.map (λg=>.str g.name)->es.map (λe=>e.2.1)=(List.range' k gs.length).map (λ(i:Nat)=>AV.int .i64 (i:Int))->gM .s (.str a) es i=some (some (j,v))->
  ∃n:Nat,v= .int .i64 ((k+n:Nat):Int)/\n<gs.length/\TO gs a=gs[n]?
 |[],es,k,i,j,v,h,_,hf=>by
  have:es=[]:=by simpa using h
  subst this;cases hf
 |g::gs,[],k,i,j,v,h,_,_=>by simp at h
 |g ::gs,(k',v',m)::es,k,i,j,v,h,h2,hf=>by
  simp only[Zd3,Zf9,Zc9,Zp0]at h h2;obtain⟨e1,h⟩:=h;obtain⟨e2,h2⟩:=h2;subst e1 e2;by_cases e:a=g.name
  .subst e;simp[gM,yd,gH]at hf;exact⟨0,by rw[<-hf.2];rfl,by simp,by unfold TO;simp⟩
  .have hf:gM .s (.str a) es (i+1)=some (some (j,v)):=(by simpa [gM,yd,gH,e]using hf);obtain⟨n,h3,h4,h5⟩:=aov a gs es (k+1) (i+1) j v h h2 hf;refine⟨n+1,by rw[h3];congr 2;omega,by simpa using h4,?_⟩;unfold TO at h5 ⊢;rw[List.find?_cons_of_neg (by simpa using λe'=>e e'.symm),h5];simp
theorem ail(hc:Sem c){s0 s:St}{bp mp:Pos}{gs:List aR}{ts:List Ty}{gk tk:Option Pos}(B:eD s0 s bp mp gs ts gk tk)(a:List Nat):
   ∃(v:AV) (s':St),c 132 [.ptr bp 0,.str a] s=some (.tuple [.agg (((TO gs a).getD tW).av v),.bool (TO gs a).isSome],s')/\Mk 1 s s' v (((TO gs a).getD tW).tg.map qc)/\((TO gs a).getD tW).tg.length<=4:=by
 have hn:=λ(t:St)(hg:Grew s t)=>Yv hc t bp mp _ _ (B.ai hg).book
 obtain⟨es,cl,m1,m2⟩:=B.zR;have hw:=B.wf;have G0:=Grew.ah hw (.cells (tW.av .af) 0);have OV:=hn _ G0;rcases Ge a gs es 0 m2 with⟨sJ,j,v,hf⟩|⟨sJ,hf⟩
 . obtain⟨i,hi,aV,hbk⟩:=aov a gs es 0 0 j v m2 (by rw[B.Oc es cl m1,Zl8]) hf;rw[Zb9]at hi;rw[hbk,H0 aV,Ze8,Zq4];obtain⟨b,rfl⟩:∃b,gk=some b:=by
    cases gk with
    |none=>rw[B.ru.1 rfl]at aV;simp at aV
    |some b=>exact⟨b,rfl⟩
   obtain⟨cs,c1,c2⟩:=B.ru.2 b rfl;obtain⟨lo,l4,w,gw,w1,w2,Q,_⟩:=B.rows b cs rfl c1 i gs[i] (H0 aV);obtain⟨v,s3,h3,M⟩:=aeP hc gs[i] lo (by omega) (src:=w) _ (bF hw) (.inr (Q.mono λp x _ hx=>G0.get hx)) w1 w2;have M1:=M.back hw G0;have hcut:cut cs (i*9) 9=some ((gs[i]).av w):=by
    unfold cut;have:i*9+9<=cs.length:=(by omega);rw[cM,Za0 this,gw]
   have hz:s3.heap.get s.next=some (.cells (tW.av .af) 0):=M.ai.get (aA _ _);have hv:=M.cells;have ho:aN ((gs[i]).av v)=true:=(gs[i]).Le hv.2
   let s4:=bg s3 s.next (.cells ((gs[i]).av v) 0)
   have alA:s.next.toNat<s3.next.toNat:=(by have:=M.ai.next;rw[bN,Pos.aD]at this;omega);have M4:Mk 1 s s4 v ((gs[i]).tg.map qc):=M1.store (Za3 _) alA (λe=>by have:=M.new _ e;rw[bN,Pos.aD]at this;omega);have sN:∀u∈(gs[i]).av v,dP u:=λu hu=>by
    simp only[aR.av,Za9,Zc3,Zf0]at hu;rcases hu with rfl|rfl|rfl|rfl|rfl|rfl|rfl|rfl|rfl
    .exact dP.str lo.name
    .exact dP.str lo.zQ
    .exact dP.str lo.kj
    .exact dP.int _ _
    .exact dP.int _ _
    .exact dP.str lo.nD
    .exact dP.bool _
    .exact dP.bool _
    .exact M.inst
   obtain⟨s5,t1,t2⟩:=M4.ajT (l:=(gs[i]).av v) (by simp[aR.av]) sN true;refine⟨v,s5,?_,t2,l4⟩;have ix:=λ(K:AV->St->Option (AV×St))(s:St)=>iR c K s (b:=b) (off:=0) (es:=9) (es':=9) (cap:=none) (k:= .i64) aV
   have lk:=λ(K:AV->St->Option (AV×St))=>BW c K (.int .i64 0) (st:=ah s (.cells (tW.av .af) 0)) (k:= .str a) (G0.get m1) hf
   have bD:=λ(K:AV->St->Option (AV×St))=>bY c K s3 9 s.next 0 (.agg ((gs[i]).av v)) _ hz rfl (by simp[tW,aR.av]) ho
   have Ao:aQ (tW.av .af) 0 (AV.agg ((gs[i]).av v)).cells=(gs[i]).av v:=rfl;rw[Ao]at bD;have hg4:s4.heap.get s.next=some (.cells ((gs[i]).av v) 0):=bG _ _ _;have hca:cut ((gs[i]).av v) 0 9=some ((gs[i]).av v):=cQ rfl;have b1:=G0.get B.book;have c3:=G0.get c1;rw[ER hc 1 (r:=(.tuple [.agg ((gs[i]).av v),.bool true],s4)),t1];rw[ID];have al:∀(K:AV->St->Option (AV×St)),aq c (.alloc [(.str []),(.str []),(.str []),(.int .i64 0),(.int .i64 0),(.str []),(.bool false),(.bool false),.af]) [] s K=K (.ptr s.next 0) (ah s (.cells (tW.av .af) 0)):=λK=>by rw[dB];rfl
   rw[al];simp only[hi]at lk;simp[-dB,OV,b1,lk,kP,ix,c3,hcut,h3,bD];rw[hca,fC]
 . have lk:=λ(K:AV->St->Option (AV×St))=>BW c K (.int .i64 0) (st:=ah s (.cells (tW.av .af) 0)) (k:= .str a) (G0.get m1) hf
   have b1:=G0.get B.book;have M0:Mk 1 s (ah s (.cells (tW.av .af) 0)) .af (tW.tg.map qc):=Mk.start hw G0;have sN:∀u∈tW.av .af,dP u:=λu hu=>by
    simp only[tW,aR.av,Za9,Zc3,Zf0]at hu;rcases hu with rfl|rfl|rfl|rfl|rfl|rfl|rfl|rfl|rfl
    .exact dP.str (by simp)
    .exact dP.str (by simp)
    .exact dP.str (by simp)
    .exact dP.int _ _
    .exact dP.int _ _
    .exact dP.str (by simp)
    .exact dP.bool _
    .exact dP.bool _
    .exact dP.af
   obtain⟨s5,t1,t2⟩:=M0.ajT (l:=tW.av .af) (by simp[aR.av]) sN false;rw[aq0 sJ,Zi9,Zq5];refine⟨.af,s5,?_,t2,by simp[tW]⟩;rw[ER hc 1 (r:=(.tuple [.agg (tW.av .af),.bool false],ah s (.cells (tW.av .af) 0))),t1];rw[ID];have al:∀(K:AV->St->Option (AV×St)),aq c (.alloc [(.str []),(.str []),(.str []),(.int .i64 0),(.int .i64 0),(.str []),(.bool false),(.bool false),.af]) [] s K=K (.ptr s.next 0) (ah s (.cells (tW.av .af) 0)):=λK=>by rw[dB];rfl
   have bd:∀(K:AV->St->Option (AV×St))(s:St),aq c (.build [(.str []),(.str []),(.str []),(.int .i64 0),(.int .i64 0),(.str []),(.bool false),(.bool false),.af] []) [] s K=K (.agg (tW.av .af)) s:=λK s=>by rw[ig];rfl
   have bD:=λ(K:AV->St->Option (AV×St))=>cG c K s 9 (.agg (tW.av .af)) (tW.av .af) rfl rfl rfl
   have hca:cut (tW.av .af) 0 9=some (tW.av .af):=cQ rfl;have ce:(AV.agg (tW.av .af)).cells=tW.av .af:=rfl;rw[al];simp[-dB,-ig,OV,b1,lk,bd,bD,hca,ce]
end
end Go.Proofs.YtgihekklfnjkiaaGreatDoor
