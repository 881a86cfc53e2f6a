/- Copies and lists. -/
import Derived.Test.YtmldijpopgaaeaaGreatDoorSLawsB
import Derived.Lib.SlicesCompact
set_option linter.all false
set_option maxRecDepth 100000
set_option maxHeartbeats 2000000
namespace Go.Proofs.YtmldijpopgaaeaaGreatDoor
section
open Go Go.Ai Go.Proofs
variable{c:aj}
def aE.fX(t t':aE):Prop:=∃z,t'={ t with oz:=z }
def aN.fX(g g':aN):Prop:=∃z,g'={ g with tz:=z }
theorem ajx{α:Type}(f:α->AV)(s:St)(d:Nat)(l:List α)(hf:∀a∈l,fW s d (f a)=f a):(l.map λa=>[f a]).map (λr=>r.map (fW s d))=l.map λa=>[f a]:=by
 rw[Zi1];refine Zl0 λa ha=> ?_
 simp only[Function.comp,Zd1,Zi5,hf a ha]
theorem RP(s:St)(d:Nat)(k:IntKind)(i:Int):fW s d (.int k i)= .int k i:=by cases d<;>rfl
theorem RT(s:St)(d:Nat)(l:List Nat):fW s d (.str l)= .str l:=by cases d<;>rfl
theorem asi(s:St)(d:Nat)(b:Bool):fW s d (.bool b)= .bool b:=by cases d<;>rfl
theorem ajy{s0 s:St}{v:AV}{l:List Int}(h:Mk 1 s0 s v (l.map bC))(d:Nat):∃z,fW s (d+1) v=ints z l:=by
 obtain⟨z,hz⟩:=h.own.fW (d:=d) h.row;refine⟨z,?_⟩;rw[hz];unfold ints;rw[ajx (λi=>AV.int .i64 i) s d l λa _=>RP s d _ _]
theorem asj{s0 s:St}{v:AV}{l:List (List Nat)}(h:Mk 1 s0 s v (l.map Ut))(d:Nat):∃z,fW s (d+1) v=lS z l:=by
 obtain⟨z,hz⟩:=h.own.fW (d:=d) h.row;refine⟨z,?_⟩;rw[hz];unfold lS;rw[ajx (λi=>AV.str i) s d l λa _=>RT s d _]
theorem auM{s0 s:St}{v:AV}{l:List Ty}(h:Mk 3 s0 s v (l.map Ty.cells))(d:Nat):∃z,fW s (d+1) v=gV z l:=by
 obtain⟨z,hz⟩:=h.own.fW (d:=d) h.row;refine⟨z,?_⟩;rw[hz];unfold gV;rw[Zi1];congr 1;refine Zl0 λa _=> ?_
 simp only[Function.comp,Ty.cells,Zd1,Zi5,RT,RP]
theorem auN{s0 s:St}{v:AV}{l:List Rl}(h:Mk 6 s0 s v (l.map Rl.cells))(d:Nat):∃z,fW s (d+1) v=jf z l:=by
 obtain⟨z,hz⟩:=h.own.fW (d:=d) h.row;refine⟨z,?_⟩;rw[hz];unfold jf;rw[Zi1];congr 1;refine Zl0 λa _=> ?_
 simp only[Function.comp,Rl.cells,Zd1,Zi5,RT,RP]
theorem acv{α:Type}(P:α->α->Prop)(cells:α->List AV)(g:List AV->List AV):∀(ts:List α)(rows:List (List AV)),rows.length=ts.length->(∀(i:Nat)(t:α)(r:List AV),ts[i]? =some t->rows[i]? =some r->∃t',P t t'/\g r=cells t')->
  ∃EB:List α,rows.map g=EB.map cells/\EB.length=ts.length/\∀(i:Nat)(t t':α),ts[i]? =some t->EB[i]? =some t'->P t t'
 |[],rows,hl,_=>⟨[],by rw[Zc2 hl];rfl,rfl,λi t t' h=>by simp at h⟩
 |t::ts,[],hl,_=>by simp at hl
 |t::ts,r::rows,hl,h=>by
  obtain⟨t',h1,h2⟩:=h 0 t r rfl rfl;obtain⟨EB,k1,k2,k3⟩:=acv P cells g ts rows (by simpa using hl) (λi t r h3 h4=>h (i+1) t r (by simpa using h3) (by simpa using h4));refine⟨t'::EB,by simp[h2,k1],by simp[k2],λi u u' h3 h4=> ?_⟩;cases i with
  |zero=>simp at h3 h4;subst h3;subst h4;exact h1
  |succ i=>exact k3 i u u' (by simpa using h3) (by simpa using h4)
theorem TS.fW{s0 s:St}{V:AV}{ts:List aE}{rows:List (List AV)}(h:TS s0 s V ts rows)(d:Nat):∃z EB,Go.Ai.fW s (d+2) V=tabs z EB/\EB.length=ts.length/\∀(i:Nat)(t t':aE),ts[i]? =some t->EB[i]? =some t'->t.fX t':=by
 obtain⟨z,hz⟩:=h.out.own.fW (d:=d+1) h.out.row;obtain⟨EB,k1,k2,k3⟩:=acv aE.fX aE.cells (λr=>r.map (Go.Ai.fW s (d+1))) ts rows h.len λi t r hi hr=>by
  obtain⟨v,rfl,hM,_⟩:=h.ez i t r hi hr;obtain⟨z2,hz2⟩:=ajy hM d;refine⟨{ t with oz:=z2 },⟨z2,rfl⟩,?_⟩;simp only[aE.ay,aE.cells,Zd1,Zi5,RT,RP,hz2]
 refine⟨z,EB,?_,k2,k3⟩;rw[hz,k1];rfl
theorem GS.fW{s0 s:St}{V:AV}{ts:List aN}{rows:List (List AV)}(h:GS s0 s V ts rows)(d:Nat):∃z EB,Go.Ai.fW s (d+2) V=dm z EB/\EB.length=ts.length/\∀(i:Nat)(t t':aN),ts[i]? =some t->EB[i]? =some t'->t.fX t':=by
 obtain⟨z,hz⟩:=h.out.own.fW (d:=d+1) h.out.row;obtain⟨EB,k1,k2,k3⟩:=acv aN.fX aN.cells (λr=>r.map (Go.Ai.fW s (d+1))) ts rows h.len λi t r hi hr=>by
  obtain⟨v,rfl,hM,_⟩:=h.ez i t r hi hr;obtain⟨z2,hz2⟩:=asj hM d;refine⟨{ t with tz:=z2 },⟨z2,rfl⟩,?_⟩;simp only[aN.ay,aN.cells,Zd1,Zi5,RT,RP,asi,hz2]
 refine⟨z,EB,?_,k2,k3⟩;rw[hz,k1];rfl
structure bS.fX(p p':bS):Prop where
 tl:p'.ts.length=p.ts.length
 ts:∀(i:Nat)(t t':aE),p.ts[i]? =some t->p'.ts[i]? =some t'->t.fX t'
 gl:p'.gs.length=p.gs.length
 gs:∀(i:Nat)(t t':aN),p.gs[i]? =some t->p'.gs[i]? =some t'->t.fX t'
 ys:p'.ys=p.ys
 cs:p'.cs=p.cs
 rs:p'.rs=p.rs
theorem PS.fW{s0 s:St}{Vs:List AV}{p:bS}(h:PS s0 s Vs p)(d:Nat):∃p',Go.Ai.fW s (d+3) (.agg Vs)= .agg p'.cells/\p.fX p':=by obtain⟨V1,V2,V3,V4,V5,r1,r2,rfl,h1,h2,h3,h4,h5⟩:=h.all;obtain⟨z1,EB,e1,l1,k1⟩:=h1.fW d;obtain⟨z2,gs',e2,l2,k2⟩:=h2.fW d;obtain⟨z3,e3⟩:=auM h3 (d+1);obtain⟨z4,e4⟩:=ajy h4 (d+1);obtain⟨z5,e5⟩:=auN h5 (d+1);refine⟨⟨z1,EB,z2,gs',z3,p.ys,z4,p.cs,z5,p.rs⟩,?_,⟨l1,k1,l2,k2,rfl,rfl,rfl⟩⟩;rw[ak5];simp only[Zd1,Zi5,e1,e2,e3,e4,e5];rfl
theorem Z5{α β:Type}{P:α->α->Prop}{l l':List α}(hl:l'.length=l.length)(hs:∀(i:Nat)(t t':α),l[i]? =some t->l'[i]? =some t'->P t t')(f:α->β)(hf:∀t t',P t t'->f t'=f t)(i:Nat):l'[i]?.map f=l[i]?.map f:=by
 by_cases h:i<l.length
 .have h':i<l'.length:=(by omega);rw[H0 h,H0 h'];simp only[Ze0,H5];exact hf _ _ (hs i _ _ (H0 h) (H0 h'))
 .rw[Zc3 (by omega),Zc3 (by omega)]
theorem asl{t t':aE}(h:t.fX t'):sU t'=sU t:=by obtain⟨z,rfl⟩:=h;rfl
theorem alA{t t':aE}(h:t.fX t'):bJ t'=bJ t:=by obtain⟨z,rfl⟩:=h;rfl
theorem apx{t t':aN}(h:t.fX t'):jZ t'=jZ t:=by obtain⟨z,rfl⟩:=h;rfl
variable{p p':bS}
theorem bS.fX.nm(h:p.fX p')(s:List Nat):vq p'.ts s=vq p.ts s:=funext λi=>by
 unfold vq;rw[Z5 h.tl h.ts aE.name (λt t' k=>by obtain⟨z,rfl⟩:=k;rfl)]
theorem bS.fX.gm(h:p.fX p')(s:List Nat):mB p'.gs s=mB p.gs s:=funext λi=>by
 unfold mB;rw[Z5 h.gl h.gs aN.name (λt t' k=>by obtain⟨z,rfl⟩:=k;rfl)]
theorem bS.fX.at(h:p.fX p'):∀(m k:Nat),iO p'.ts m k=iO p.ts m k
 |0,_=>rfl
 |m +1,k=>by
  have ih:=h.at m (k+1);unfold iO;by_cases hk:k<p.ts.length
  .have ri:k<p'.ts.length:=(by rw[h.tl];exact hk);have hs:=h.ts k _ _ (H0 hk) (H0 ri);have hn:p'.ts[k].name=p.ts[k].name:=(by obtain⟨z,e⟩:=hs;rw[e]);rw[H0 hk,H0 ri];simp only[asl hs,hn,h.nm,ih]
  .have ri:¬k<p'.ts.length:=(by rw[h.tl];exact hk);rw[Zc3 (by omega),Zc3 (by omega)]
theorem bS.fX.MU(h:p.fX p'):bU p'.ts=bU p.ts:=by unfold bU;rw[h.tl,h.at]
theorem bS.fX.gsAt(h:p.fX p'):∀(m k:Nat),o9 p'.gs m k=o9 p.gs m k
 |0,_=>rfl
 |m +1,k=>by
  have ih:=h.gsAt m (k+1);unfold o9;by_cases hk:k<p.gs.length
  .have ri:k<p'.gs.length:=(by rw[h.gl];exact hk);have hs:=h.gs k _ _ (H0 hk) (H0 ri);have hn:p'.gs[k].name=p.gs[k].name:=(by obtain⟨z,e⟩:=hs;rw[e]);rw[H0 hk,H0 ri];simp only[apx hs,hn,h.gm,ih]
  .have ri:¬k<p'.gs.length:=(by rw[h.gl];exact hk);rw[Zc3 (by omega),Zc3 (by omega)]
theorem bS.fX.unk(h:p.fX p')(t:Ty):se p'.gs t=se p.gs t:=by unfold se;rw[h.gm,h.gm,h.gl]
theorem bS.fX.tyAt(h:p.fX p')(ts:List Ty):∀(m k:Nat),j5 p'.gs ts m k=j5 p.gs ts m k
 |0,_=>rfl
 |m+1,k=>by
  have ih:=h.tyAt ts m (k+1);unfold j5;cases ts[k]? with
  |none=>rfl
  |some t=>simp only[h.gl,h.unk,ih]
theorem bS.fX.roll(h:p.fX p'):dX p'.gs p'.ys=dX p.gs p.ys:=by unfold dX;rw[h.ys,h.gsAt,h.tyAt]
theorem bS.fX.sum(h:p.fX p'):bf p'.ts=bf p.ts:=by
 unfold bf;congr 1;refine Zi6 λi=> ?_
 rw[Zb7,Zb7];exact Z5 h.tl h.ts bJ (λt t' k=>alA k) i
theorem bS.fX.basis(h:p.fX p'):jQ p'=jQ p:=by unfold jQ;rw[h.MU,h.roll,h.cs,h.gl,h.sum]
theorem bS.fX.gi(h:p.fX p')(s:List Nat):Go.Proofs.YtmldijpopgaaeaaGreatDoor.gi p' s=Go.Proofs.YtmldijpopgaaeaaGreatDoor.gi p s:=by unfold Go.Proofs.YtmldijpopgaaeaaGreatDoor.gi;rw[h.gm,h.gl]
theorem bS.fX.ti(h:p.fX p')(s:List Nat):Go.Proofs.YtmldijpopgaaeaaGreatDoor.ti p' s=Go.Proofs.YtmldijpopgaaeaaGreatDoor.ti p s:=by unfold Go.Proofs.YtmldijpopgaaeaaGreatDoor.ti;rw[h.nm,h.tl]
theorem bS.fX.AQ(h:p.fX p')(i:Int):Go.Proofs.YtmldijpopgaaeaaGreatDoor.AQ p' i=Go.Proofs.YtmldijpopgaaeaaGreatDoor.AQ p i:=by
 unfold Go.Proofs.YtmldijpopgaaeaaGreatDoor.AQ;have:=Z5 h.tl h.ts bJ (λt t' k=>alA k) i.toNat;cases h1:p.ts[i.toNat]? with
 |none=>rw[h1]at this;cases h2:p'.ts[i.toNat]? with
  |none=>rfl
  |some t=>rw[h2]at this;cases this
 |some t=>rw[h1]at this;cases h2:p'.ts[i.toNat]? with
  |none=>rw[h2]at this;cases this
  |some t'=>rw[h2]at this;simp only[Ze0,H5]at this;simp only[this]
theorem bS.fX.rule(h:p.fX p')(r:Rl):uL p' r=uL p r:=by
 unfold uL TW aeM ZW;simp only[h.gi,h.ti,h.AQ]
theorem bS.fX.jf(h:p.fX p'):∀(m k:Nat),oF p' m k=oF p m k
 |0,_=>rfl
 |m+1,k=>by
  have ih:=h.jf m (k+1);unfold oF;rw[h.rs];cases p.rs[k]? with
  |none=>rfl
  |some r=>simp only[h.rule,ih]
theorem bS.fX.check(h:p.fX p'):iH p'=iH p:=by unfold iH;rw[h.basis,h.jf]
theorem Hp{es bytes:Nat}{z:List AV}(rows:List (List AV))(hr:∀r∈rows,r.length=es)(dN:es≠0)(hb:(2*rows.length+768)*bytes<=281474976710656)(hn:rows.length<=4000000)(s:St)(hw:Wf s):
  ∃v s',(∀(K:AV->St->Option (AV×St)),aq c (.buildSlice es 0 z []) [] s (λy t=>aq c (.append es bytes) [y,.fl rows es] t K)=K v s')/\Mk es s s' v rows:=
 afS hr dN hb hn s hw (.inl rfl)
theorem LZ(c:aj)(K:AV->St->Option (AV×St))(s:St):aq c (.bin .eql .slice) [.af,.af] s K=K (.bool true) s:=aV c K (λH n=>rfl) s
theorem Z6(c:aj)(K:AV->St->Option (AV×St))(s:St)(rows:List (List AV))(es:Nat):aq c (.bin .eql .slice) [.fl rows es,.af] s K=K (.bool false) s:=aV c K (λH n=>rfl) s
theorem age(hc:Sem c)(z:Bool)(l:List (Int))(hl:l.length<=lim)(s:St)(hw:Wf s):∃v s',c 72 [ints z l] s=some (v,s')/\Mk 1 s s' v (l.map bC):=by
 have hl:l.length<=1048576:=hl;have hr:∀r∈l.map bC,r.length=1:=λr hr=>by simp only[Zc7]at hr;obtain⟨i,_,rfl⟩:=hr;rfl
 by_cases h:ints z l= .af
 . have h0:l=[]:=by
    cases l with
    |nil=>rfl
    |cons a l=>unfold ints at h;cases z<;>cases h
   subst h0;refine⟨.af,s,?_,Mk.start hw (Grew.refl hw)⟩;rw[h,zN hc 1 (r:=(.af,s)),aB Plain.af (aX.refl s)];rw[Bs];simp[LZ]
 . have e:ints z l= .fl (l.map bC) 1:=by
    cases l with
    |nil=>unfold ints at h ⊢; cases z
          .rfl
          .exact absurd rfl h
    |cons a l=>unfold ints;cases z<;>rfl
   obtain⟨v,s',a1,a2⟩:=Hp (c:=c) (bytes:=8) (z:=[.int .i64 0]) (l.map bC) hr (by decide) (by simp;omega) (by simp;omega) s hw;obtain⟨fU,t1,t2⟩:=a2.tidy;refine⟨v,fU,?_,t2⟩;rw[e,zN hc 1 (r:=(v,s')),t1];rw[Bs];simp only[av,Z6,cV];rw[a1]
theorem apy(hc:Sem c)(z:Bool)(l:List (List Nat))(hl:l.length<=lim)(s:St)(hw:Wf s):∃v s',c 74 [lS z l] s=some (v,s')/\Mk 1 s s' v (l.map Ut):=by
 have hl:l.length<=1048576:=hl;have hr:∀r∈l.map Ut,r.length=1:=λr hr=>by simp only[Zc7]at hr;obtain⟨i,_,rfl⟩:=hr;rfl
 by_cases h:lS z l= .af
 . have h0:l=[]:=by
    cases l with
    |nil=>rfl
    |cons a l=>unfold lS at h;cases z<;>cases h
   subst h0;refine⟨.af,s,?_,Mk.start hw (Grew.refl hw)⟩;rw[h,jx hc 1 (r:=(.af,s)),aB Plain.af (aX.refl s)];rw[j6];simp[LZ]
 . have e:lS z l= .fl (l.map Ut) 1:=by
    cases l with
    |nil=>unfold lS at h ⊢; cases z
          .rfl
          .exact absurd rfl h
    |cons a l=>unfold lS;cases z<;>rfl
   obtain⟨v,s',a1,a2⟩:=Hp (c:=c) (bytes:=16) (z:=[.str []]) (l.map Ut) hr (by decide) (by simp;omega) (by simp;omega) s hw;obtain⟨fU,t1,t2⟩:=a2.tidy;refine⟨v,fU,?_,t2⟩;rw[e,jx hc 1 (r:=(v,s')),t1];rw[j6];simp only[av,Z6,cV];rw[a1]
theorem apz(hc:Sem c)(z:Bool)(l:List (Ty))(hl:l.length<=lim)(s:St)(hw:Wf s):∃v s',c 75 [gV z l] s=some (v,s')/\Mk 3 s s' v (l.map Ty.cells):=by
 have hl:l.length<=1048576:=hl;have hr:∀r∈l.map Ty.cells,r.length=3:=λr hr=>by simp only[Zc7]at hr;obtain⟨i,_,rfl⟩:=hr;rfl
 by_cases h:gV z l= .af
 . have h0:l=[]:=by
    cases l with
    |nil=>rfl
    |cons a l=>unfold gV at h;cases z<;>cases h
   subst h0;refine⟨.af,s,?_,Mk.start hw (Grew.refl hw)⟩;rw[h,rI hc 1 (r:=(.af,s)),aB Plain.af (aX.refl s)];rw[tU];simp[LZ]
 . have e:gV z l= .fl (l.map Ty.cells) 3:=by
    cases l with
    |nil=>unfold gV at h ⊢; cases z
          .rfl
          .exact absurd rfl h
    |cons a l=>unfold gV;cases z<;>rfl
   obtain⟨v,s',a1,a2⟩:=Hp (c:=c) (bytes:=40) (z:=[.str [],.str [],.int .u8 0]) (l.map Ty.cells) hr (by decide) (by simp;omega) (by simp;omega) s hw;obtain⟨fU,t1,t2⟩:=a2.tidy;refine⟨v,fU,?_,t2⟩;rw[e,rI hc 1 (r:=(v,s')),t1];rw[tU];simp only[av,Z6,cV];rw[a1]
theorem apA(hc:Sem c)(z:Bool)(l:List (Rl))(hl:l.length<=lim)(s:St)(hw:Wf s):∃v s',c 76 [jf z l] s=some (v,s')/\Mk 6 s s' v (l.map Rl.cells):=by
 have hl:l.length<=1048576:=hl;have hr:∀r∈l.map Rl.cells,r.length=6:=λr hr=>by simp only[Zc7]at hr;obtain⟨i,_,rfl⟩:=hr;rfl
 by_cases h:jf z l= .af
 . have h0:l=[]:=by
    cases l with
    |nil=>rfl
    |cons a l=>unfold jf at h;cases z<;>cases h
   subst h0;refine⟨.af,s,?_,Mk.start hw (Grew.refl hw)⟩;rw[h,qi hc 1 (r:=(.af,s)),aB Plain.af (aX.refl s)];rw[rJ];simp[LZ]
 . have e:jf z l= .fl (l.map Rl.cells) 6:=by
    cases l with
    |nil=>unfold jf at h ⊢; cases z
          .rfl
          .exact absurd rfl h
    |cons a l=>unfold jf;cases z<;>rfl
   obtain⟨v,s',a1,a2⟩:=Hp (c:=c) (bytes:=72) (z:=[.int .u8 0,.int .i64 0,.str [],.str [],.str [],.int .i64 0]) (l.map Rl.cells) hr (by decide) (by simp;omega) (by simp;omega) s hw;obtain⟨fU,t1,t2⟩:=a2.tidy;refine⟨v,fU,?_,t2⟩;rw[e,qi hc 1 (r:=(v,s')),t1];rw[rJ];simp only[av,Z6,cV];rw[a1]
theorem apB(hc:Sem c)(z:Bool)(l:List (aE))(hl:l.length<=lim)(s:St)(hw:Wf s):∃v s',c 71 [tabs z l] s=some (v,s')/\Mk 7 s s' v (l.map aE.cells):=by
 have hl:l.length<=1048576:=hl;have hr:∀r∈l.map aE.cells,r.length=7:=λr hr=>by simp only[Zc7]at hr;obtain⟨i,_,rfl⟩:=hr;rfl
 by_cases h:tabs z l= .af
 . have h0:l=[]:=by
    cases l with
    |nil=>rfl
    |cons a l=>unfold tabs at h;cases z<;>cases h
   subst h0;refine⟨.af,s,?_,Mk.start hw (Grew.refl hw)⟩;rw[h,pH hc 1 (r:=(.af,s)),aB Plain.af (aX.refl s)];rw[qj];simp[LZ]
 . have e:tabs z l= .fl (l.map aE.cells) 7:=by
    cases l with
    |nil=>unfold tabs at h ⊢; cases z
          .rfl
          .exact absurd rfl h
    |cons a l=>unfold tabs;cases z<;>rfl
   obtain⟨v,s',a1,a2⟩:=Hp (c:=c) (bytes:=80) (z:=[.str [],.int .u8 0,.int .i64 0,.int .i64 0,.af,.int .i64 0,.int .i64 0]) (l.map aE.cells) hr (by decide) (by simp;omega) (by simp;omega) s hw;obtain⟨fU,t1,t2⟩:=a2.tidy;refine⟨v,fU,?_,t2⟩;rw[e,pH hc 1 (r:=(v,s')),t1];rw[qj];simp only[av,Z6,cV];rw[a1]
theorem apC(hc:Sem c)(z:Bool)(l:List (aN))(hl:l.length<=lim)(s:St)(hw:Wf s):∃v s',c 73 [dm z l] s=some (v,s')/\Mk 9 s s' v (l.map aN.cells):=by
 have hl:l.length<=1048576:=hl;have hr:∀r∈l.map aN.cells,r.length=9:=λr hr=>by simp only[Zc7]at hr;obtain⟨i,_,rfl⟩:=hr;rfl
 by_cases h:dm z l= .af
 . have h0:l=[]:=by
    cases l with
    |nil=>rfl
    |cons a l=>unfold dm at h;cases z<;>cases h
   subst h0;refine⟨.af,s,?_,Mk.start hw (Grew.refl hw)⟩;rw[h,pI hc 1 (r:=(.af,s)),aB Plain.af (aX.refl s)];rw[qk];simp[LZ]
 . have e:dm z l= .fl (l.map aN.cells) 9:=by
    cases l with
    |nil=>unfold dm at h ⊢; cases z
          .rfl
          .exact absurd rfl h
    |cons a l=>unfold dm;cases z<;>rfl
   obtain⟨v,s',a1,a2⟩:=Hp (c:=c) (bytes:=112) (z:=[.str [],.str [],.str [],.int .i64 0,.int .i64 0,.str [],.bool false,.bool false,.af]) (l.map aN.cells) hr (by decide) (by simp;omega) (by simp;omega) s hw;obtain⟨fU,t1,t2⟩:=a2.tidy;refine⟨v,fU,?_,t2⟩;rw[e,pI hc 1 (r:=(v,s')),t1];rw[qk];simp only[av,Z6,cV];rw[a1]
structure CT(n0:Nat)(s0 s:St)(q:Pos)(rest:List AV)(V:AV)(ts:List aE)(k:Nat)(rows:List (List AV)):Prop where
 out:Mk 7 s0 s V rows
 box:s.heap.get q=some (.cells (V::rest) 0)
 Ho:q.toNat<n0
 lo:n0<=s.next.toNat
 ne:∀b,aL V=some b->n0<=b.toNat
 len:rows.length=ts.length
 gW:∀(i:Nat)(t:aE)(r:List AV),k<=i->ts[i]? =some t->rows[i]? =some r->r=t.cells
 ez:∀(i:Nat)(t:aE)(r:List AV),i<k->ts[i]? =some t->rows[i]? =some r->∃v,r=t.ay v/\Mk 1 s0 s v (t.kQ.map bC)/\(∀b,aL v=some b->aL V≠some b)/\∀b,aL v=some b->n0<=b.toNat
theorem apD(hc:Sem c){n0:Nat}{s0:St}{q:Pos}{rest:List AV}(x2:AV)(ts:List aE)(hl:ts.length<=1000)(hr:∀t∈ts,t.Real)(F:Nat):∀(m k f:Nat)(s:St)(V:AV)(rows:List (List AV)),m<f->k+m=ts.length->CT n0 s0 s q rest V ts k rows->
  ∃s' wM,CT n0 s0 s' q rest V ts ts.length wM/\(∀p x,aL V≠some p->s.heap.get p=some x->s'.heap.get p=some x)/\∀k2,vt c F k2 f [.ptr q 0,x2,.int .i64 (ts.length:Int),.int .i64 (k:Int)] s=k2 [.ptr q 0,x2] s':=by
 intro m;induction m with
 |zero=>
  intro k f s V rows hf h1 hT;obtain⟨f,rfl⟩:∃g,f=g+1:=⟨f - 1,by omega⟩
  obtain rfl:k=ts.length:=by omega
  refine⟨s,rows,hT,λ_ _ _ h=>h,λk2=> ?_⟩;rw[Na];simp
 |succ m ih=>
  intro k f s V rows hf h1 hT;obtain⟨f,rfl⟩:∃g,f=g+1:=⟨f - 1,by omega⟩
  have h:k<ts.length:=by omega
  have hk:k<rows.length:=by rw[hT.len];exact h
  have w:ax .i64 ((k:Int)+1)=((k+1:Nat):Int):=wrap64 (by omega) (by omega);have hw:=hT.out.ai.wf;obtain⟨b,o,cs,a1,a2,a3,a4,a5,a6,a7,a8⟩:=hT.out.own.set (c:=c) (R:=AV×St) hT.out.row (by decide) hk;have gQ:rows[k]=ts[k].cells:=hT.gW k _ _ (Za3 _) (H0 h) (H0 hk);have c4:cs[o+4]? =some (ints ts[k].oz ts[k].kQ):=a6 4 _ (by rw[gQ];rfl);obtain⟨v,s1,C,M⟩:=age hc ts[k].oz ts[k].kQ (hr _ (Zb9 h)).kQ s hw;have b4:=M.ai.get a4;have q4:=M.ai.get hT.box;obtain⟨vc,v1⟩:=M.cells;have hbq:b≠q:=λe=>by have:=hT.ne _ a3;have:=hT.Ho;subst e;omega
  have yY:=hT.out.new b a3;have ze:=hw _ _ a4;have bE:∀(K:AV->St->Option (AV×St)),aq c (.store 1) [.ptr b (o+4),v] s1 K=K .undef (bh s1 b (.cells (aU cs (o+4) [v]) 0)):=λK=>by
   rw[cm c K s1 1 b (o+4) v cs b4 (by rw[vc];rfl) (by omega) (by rw[vc];exact v1),vc]
  have G2:Grew s0 (bh s1 b (.cells (aU cs (o+4) [v]) 0)):=⟨iU M.ai.wf (by have:=M.ai.next;omega),λp x hp=>by have:=hT.out.jE _ _ hp;rw[aJ (λe=>by rw[e]at yY;omega)];exact(hT.out.ai.trans M.ai).get hp,by rw[dM];exact(hT.out.ai.trans M.ai).next⟩
  have zl:∀p x,p≠b->s1.heap.get p=some x->(bh s1 b (.cells (aU cs (o+4) [v]) 0)).heap.get p=some x:=λp x hp hx=>by rw[aJ (λe=>hp e.symm)];exact hx
  have T5:CT n0 s0 (bh s1 b (.cells (aU cs (o+4) [v]) 0)) q rest V ts (k+1) (rows.set k (rows[k].set 4 v)):=by
   refine⟨⟨hT.out.jE,G2,a7 4 v _ (by omega) (bH _ _ _),hT.out.new,λr YJ=> ?_,hT.out.cap,λp hp=>by rw[a3]at hp;cases hp;rw[bH];rw[a8 4 v (by omega) (AB.cells.inj (Zi8 (a4.symm.trans (hT.out.tight b a3)))).1]⟩,zl q _ (λe=>hbq e.symm) q4,hT.Ho,by rw[dM];exact Zb2 hT.lo M.ai.next,hT.ne,by rw[Zj3];exact hT.len,λi t r hi h3 h4=> ?_,λi t r hi h3 h4=> ?_⟩
   .    rcases Zh2 YJ with h5|h5
        .exact hT.out.row r h5
        .rw[h5,Zj3];exact hT.out.row _ (Zb9 hk)
   .    rw[Ze6 (by omega)]at h4;exact hT.gW i t r (by omega) h3 h4
   .    by_cases DM:i=k
        . subst DM;rw[H0 h]at h3;cases h3;rw[Zf4 hk]at h4;cases h4;refine⟨v,by rw[gQ];rfl,Mk.rW (M.back hT.out.jE hT.out.ai) G2 λp x hp hx=>zl p x (λe=>by subst e;have:=M.new _ hp;omega) hx,λp hp e=> ?_,λp hp=> ?_⟩
          .rw[a3]at e;cases e;have:=M.new _ hp;omega
          .have:=M.new _ hp;have:=hT.lo;omega
        .rw[Ze6 (by omega)]at h4;obtain⟨u,e1,e2,e3,e4⟩:=hT.ez i t r (by omega) h3 h4;refine⟨u,e1,Mk.rW (e2.grow M.ai) G2 λp x hp hx=>zl p x (λe=>by subst e;exact e3 _ hp a3) hx,e3,e4⟩
  obtain⟨s',wM,d1,d3,d2⟩:=ih (k+1) f _ V _ (by omega) (by omega) T5;refine⟨s',wM,d1,λp x hp hx=>d3 p x hp (zl p x (λe=>hp (by rw[a3,e])) (M.ai.get hx)),λk2=> ?_⟩;rw[<-d2 k2,Na];have L1:∀(ok:AV->Bool)(K:AV->Option (AV×St)),ok V=true->jI (.load none) [.ptr q 0] s.heap ok K=K V:=λok K h=>Iy (by rw[hT.box];rfl) ok h K
  have L2:∀(ok:AV->Bool)(K:AV->Option (AV×St)),ok V=true->jI (.load none) [.ptr q 0] s1.heap ok K=K V:=λok K h=>Iy (by rw[q4];rfl) ok h K
  have L3:∀(ok:AV->Bool)(K:AV->Option (AV×St)),ok (ints ts[k].oz ts[k].kQ)=true->jI (.load none) [.ptr b (o+4)] s.heap ok K=K (ints ts[k].oz ts[k].kQ):=λok K h=>Iy (by rw[a4];exact c4) ok h K
  have q1:=MV (p:=q) (o:=0) (h:=s.heap) (v:=V) (by rw[hT.box];rfl) hT.out.beq;simp[h,hT.box,a4,c4,L2,a2,C,q1,bE,w]
structure CG(n0:Nat)(s0 s:St)(q:Pos)(V1:AV)(rest:List AV)(V:AV)(ts:List aN)(k:Nat)(rows:List (List AV)):Prop where
 out:Mk 9 s0 s V rows
 box:s.heap.get q=some (.cells (V1::V::rest) 0)
 Ho:q.toNat<n0
 lo:n0<=s.next.toNat
 ne:∀b,aL V=some b->n0<=b.toNat
 len:rows.length=ts.length
 gW:∀(i:Nat)(t:aN)(r:List AV),k<=i->ts[i]? =some t->rows[i]? =some r->r=t.cells
 ez:∀(i:Nat)(t:aN)(r:List AV),i<k->ts[i]? =some t->rows[i]? =some r->∃v,r=t.ay v/\Mk 1 s0 s v (t.tg.map Ut)/\(∀b,aL v=some b->aL V≠some b)/\∀b,aL v=some b->n0<=b.toNat
theorem apE(hc:Sem c){n0:Nat}{s0:St}{q:Pos}{V1:AV}{rest:List AV}(x2:AV)(ts:List aN)(hl:ts.length<=1000)(hr:∀t∈ts,t.Real)(F:Nat):∀(m k f:Nat)(s:St)(V:AV)(rows:List (List AV)),m<f->k+m=ts.length->CG n0 s0 s q V1 rest V ts k rows->
  ∃s' wM,CG n0 s0 s' q V1 rest V ts ts.length wM/\(∀p x,aL V≠some p->s.heap.get p=some x->s'.heap.get p=some x)/\∀k2,vu c F k2 f [.ptr q 0,x2,.int .i64 (ts.length:Int),.int .i64 (k:Int)] s=k2 [.ptr q 0,x2] s':=by
 intro m;induction m with
 |zero=>
  intro k f s V rows hf h1 hT;obtain⟨f,rfl⟩:∃g,f=g+1:=⟨f - 1,by omega⟩
  obtain rfl:k=ts.length:=by omega
  refine⟨s,rows,hT,λ_ _ _ h=>h,λk2=> ?_⟩;rw[Nb];simp
 |succ m ih=>
  intro k f s V rows hf h1 hT;obtain⟨f,rfl⟩:∃g,f=g+1:=⟨f - 1,by omega⟩
  have h:k<ts.length:=by omega
  have hk:k<rows.length:=by rw[hT.len];exact h
  have w:ax .i64 ((k:Int)+1)=((k+1:Nat):Int):=wrap64 (by omega) (by omega);have hw:=hT.out.ai.wf;obtain⟨b,o,cs,a1,a2,a3,a4,a5,a6,a7,a8⟩:=hT.out.own.set (c:=c) (R:=AV×St) hT.out.row (by decide) hk;have gQ:rows[k]=ts[k].cells:=hT.gW k _ _ (Za3 _) (H0 h) (H0 hk);have c4:cs[o+8]? =some (lS ts[k].tz ts[k].tg):=a6 8 _ (by rw[gQ];rfl);obtain⟨v,s1,C,M⟩:=apy hc ts[k].tz ts[k].tg (hr _ (Zb9 h)).tg s hw;have b4:=M.ai.get a4;have q4:=M.ai.get hT.box;obtain⟨vc,v1⟩:=M.cells;have hbq:b≠q:=λe=>by have:=hT.ne _ a3;have:=hT.Ho;subst e;omega
  have yY:=hT.out.new b a3;have ze:=hw _ _ a4;have bE:∀(K:AV->St->Option (AV×St)),aq c (.store 1) [.ptr b (o+8),v] s1 K=K .undef (bh s1 b (.cells (aU cs (o+8) [v]) 0)):=λK=>by
   rw[cm c K s1 1 b (o+8) v cs b4 (by rw[vc];rfl) (by omega) (by rw[vc];exact v1),vc]
  have G2:Grew s0 (bh s1 b (.cells (aU cs (o+8) [v]) 0)):=⟨iU M.ai.wf (by have:=M.ai.next;omega),λp x hp=>by have:=hT.out.jE _ _ hp;rw[aJ (λe=>by rw[e]at yY;omega)];exact(hT.out.ai.trans M.ai).get hp,by rw[dM];exact(hT.out.ai.trans M.ai).next⟩
  have zl:∀p x,p≠b->s1.heap.get p=some x->(bh s1 b (.cells (aU cs (o+8) [v]) 0)).heap.get p=some x:=λp x hp hx=>by rw[aJ (λe=>hp e.symm)];exact hx
  have T5:CG n0 s0 (bh s1 b (.cells (aU cs (o+8) [v]) 0)) q V1 rest V ts (k+1) (rows.set k (rows[k].set 8 v)):=by
   refine⟨⟨hT.out.jE,G2,a7 8 v _ (by omega) (bH _ _ _),hT.out.new,λr YJ=> ?_,hT.out.cap,λp hp=>by rw[a3]at hp;cases hp;rw[bH];rw[a8 8 v (by omega) (AB.cells.inj (Zi8 (a4.symm.trans (hT.out.tight b a3)))).1]⟩,zl q _ (λe=>hbq e.symm) q4,hT.Ho,by rw[dM];exact Zb2 hT.lo M.ai.next,hT.ne,by rw[Zj3];exact hT.len,λi t r hi h3 h4=> ?_,λi t r hi h3 h4=> ?_⟩
   .    rcases Zh2 YJ with h5|h5
        .exact hT.out.row r h5
        .rw[h5,Zj3];exact hT.out.row _ (Zb9 hk)
   .    rw[Ze6 (by omega)]at h4;exact hT.gW i t r (by omega) h3 h4
   .    by_cases DM:i=k
        . subst DM;rw[H0 h]at h3;cases h3;rw[Zf4 hk]at h4;cases h4;refine⟨v,by rw[gQ];rfl,Mk.rW (M.back hT.out.jE hT.out.ai) G2 λp x hp hx=>zl p x (λe=>by subst e;have:=M.new _ hp;omega) hx,λp hp e=> ?_,λp hp=> ?_⟩
          .rw[a3]at e;cases e;have:=M.new _ hp;omega
          .have:=M.new _ hp;have:=hT.lo;omega
        .rw[Ze6 (by omega)]at h4;obtain⟨u,e1,e2,e3,e4⟩:=hT.ez i t r (by omega) h3 h4;refine⟨u,e1,Mk.rW (e2.grow M.ai) G2 λp x hp hx=>zl p x (λe=>by subst e;exact e3 _ hp a3) hx,e3,e4⟩
  obtain⟨s',wM,d1,d3,d2⟩:=ih (k+1) f _ V _ (by omega) (by omega) T5;refine⟨s',wM,d1,λp x hp hx=>d3 p x hp (zl p x (λe=>hp (by rw[a3,e])) (M.ai.get hx)),λk2=> ?_⟩;rw[<-d2 k2,Nb];have L1:∀(ok:AV->Bool)(K:AV->Option (AV×St)),ok V=true->jI (.load none) [.ptr q 1] s.heap ok K=K V:=λok K h=>Iy (by rw[hT.box];rfl) ok h K
  have L2:∀(ok:AV->Bool)(K:AV->Option (AV×St)),ok V=true->jI (.load none) [.ptr q 1] s1.heap ok K=K V:=λok K h=>Iy (by rw[q4];rfl) ok h K
  have L3:∀(ok:AV->Bool)(K:AV->Option (AV×St)),ok (lS ts[k].tz ts[k].tg)=true->jI (.load none) [.ptr b (o+8)] s.heap ok K=K (lS ts[k].tz ts[k].tg):=λok K h=>Iy (by rw[a4];exact c4) ok h K
  have q1:=MV (p:=q) (o:=1) (h:=s.heap) (v:=V) (by rw[hT.box];rfl) hT.out.beq;simp[h,hT.box,a4,c4,L2,a2,C,q1,bE,w]
theorem ld{p:Pos}{o:Nat}{t:St}{cs:List AV}{v:AV}(h:t.heap.get p=some (.cells cs 0))(hv:cs[o]? =some v):((cellsOf (t.heap.get p)).bind λcs=>cs[o]?)=some v:=by rw[h];exact hv
theorem anh(hc:Sem c)(p:bS)(hp:p.Real)(s:St)(hw:Wf s):∃Vs s',c 41 [.agg p.cells] s=some (.agg Vs,s')/\PS s s' Vs p:=by
 have cZ:Wf (ah s (.cells p.cells 0)):=bG hw;have hwB:Wf (ah (ah s (.cells p.cells 0)) (.cells [.af,.af,.af,.af,.af] 0)):=bG cZ;have gB:=(Grew.ah hw (.cells p.cells 0)).trans (Grew.ah cZ (.cells [.af,.af,.af,.af,.af] 0));have qB:(ah (ah s (.cells p.cells 0)) (.cells [.af,.af,.af,.af,.af] 0)).heap.get s.next=some (.cells p.cells 0):=(Grew.ah cZ _).get (aA _ _);have pB:=aA (ah s (.cells p.cells 0)) (.cells [.af,.af,.af,.af,.af] 0);have nl:s.next.toNat<(ah s (.cells p.cells 0)).next.toNat:=by rw[bP,Pos.aF];omega
 generalize hsB:ah (ah s (.cells p.cells 0)) (.cells [.af,.af,.af,.af,.af] 0)=sB at hwB gB qB pB;generalize HU:(ah s (.cells p.cells 0)).next=p2 at pB nl;have lt2:=hwB _ _ pB;have ltq:=hwB _ _ qB;have nqp:s.next≠p2:=λe=>by rw[e]at nl;omega
 have hlT:p.ts.length<=lim:=Zb2 hp.ts (by decide);have hlG:p.gs.length<=lim:=Zb2 hp.gs (by decide);obtain⟨V1,s1,C1,M1⟩:=apB hc p.tz p.ts hlT sB hwB;obtain⟨c1,o1⟩:=M1.cells;have q1:=M1.ai.get qB;have b1:p.cells=tabs p.tz p.ts::[dm p.gz p.gs,gV p.yz p.ys,ints p.cz p.cs,jf p.rz p.rs]:=rfl;have t1:∀(K:AV->St->Option (AV×St)),aq c (.store 1) [.ptr s.next 0,V1] s1 K=K .undef (bh s1 s.next (.cells (V1::[dm p.gz p.gs,gV p.yz p.ys,ints p.cz p.cs,jf p.rz p.rs]) 0)):=λK=>by rw[cm c K s1 1 s.next 0 V1 p.cells q1 (by rw[c1];rfl) (by rw[b1];simp) (by rw[c1];exact o1),c1];rfl
 have lq1:=M1.ai.wf _ _ q1;have G2:Grew s (bh s1 s.next (.cells (V1::[dm p.gz p.gs,gV p.yz p.ys,ints p.cz p.cs,jf p.rz p.rs]) 0)):=⟨iU M1.ai.wf lq1,λr x hr=>by have:=hw _ _ hr;rw[aJ (λe=>by rw[e]at this;omega)];exact(gB.trans M1.ai).get hr,by rw[dM];exact(gB.trans M1.ai).next⟩
 have T2:CT sB.next.toNat s (bh s1 s.next (.cells (V1::[dm p.gz p.gs,gV p.yz p.ys,ints p.cz p.cs,jf p.rz p.rs]) 0)) s.next [dm p.gz p.gs,gV p.yz p.ys,ints p.cz p.cs,jf p.rz p.rs] V1 p.ts 0 (p.ts.map aE.cells):=by
  refine⟨⟨hw,G2,M1.own.mono λb x hb hx=> ?_,λb hb=>Zb2 gB.next (M1.new b hb),M1.row,M1.cap,λb hb=>by rw[aJ (λe=>by have:=M1.new _ hb;rw[<-e]at this;omega)];exact M1.tight b hb⟩,bH _ _ _,ltq,by rw[dM];exact M1.ai.next,M1.new,by simp,λi t r _ h3 h4=> ?_,λi t r h=>by omega⟩
  .rw[aJ (λe=>by have:=M1.new _ hb;rw[<-e]at this;omega)];exact hx
  .rw[Zb7,h3]at h4;simpa using h4.symm
 generalize uD:bh s1 s.next (.cells (V1::[dm p.gz p.gs,gV p.yz p.ys,ints p.cz p.cs,jf p.rz p.rs]) 0)=s2 at t1 G2 T2;have p2a:s2.heap.get p2=some (.cells [.af,.af,.af,.af,.af] 0):=by rw[<-uD,aJ nqp];exact M1.ai.get pB
 have l1:∀(K:AV->St->Option (AV×St))(t:St),aq c (.lenB .l) [V1] t K=K (.int .i64 (p.ts.length:Int)) t:=λK t=>by rw[M1.own.lenB];simp
 obtain⟨s3,r1,D1,D2,D3⟩:=apD hc (.ptr p2 0) p.ts hp.ts hp.tab 2000 p.ts.length 0 2000 s2 V1 _ (by have:=hp.ts;omega) (by omega) T2;have p3:s3.heap.get p2=some (.cells [.af,.af,.af,.af,.af] 0):=D2 p2 _ (λe=>by have:=M1.new _ e;omega) p2a;have q3:=D1.box;obtain⟨V2,s4,C2,M2⟩:=apC hc p.gz p.gs hlG s3 D1.out.ai.wf;obtain⟨c2,o2⟩:=M2.cells;have q4:=M2.ai.get q3;have t2:∀(K:AV->St->Option (AV×St)),aq c (.store 1) [.ptr s.next 1,V2] s4 K=K .undef (bh s4 s.next (.cells (V1::V2::[gV p.yz p.ys,ints p.cz p.cs,jf p.rz p.rs]) 0)):=λK=>by rw[cm c K s4 1 s.next 1 V2 _ q4 (by rw[c2];rfl) (by simp) (by rw[c2];exact o2),c2];rfl
 have lq4:=M2.ai.wf _ _ q4;have n3B:sB.next.toNat<=s3.next.toNat:=D1.lo;have G3:=D1.out.ai;have G5:Grew s (bh s4 s.next (.cells (V1::V2::[gV p.yz p.ys,ints p.cz p.cs,jf p.rz p.rs]) 0)):=⟨iU M2.ai.wf lq4,λr x hr=>by have:=hw _ _ hr;rw[aJ (λe=>by rw[e]at this;omega)];exact(G3.trans M2.ai).get hr,by rw[dM];exact(G3.trans M2.ai).next⟩
 have T5:CG s3.next.toNat s (bh s4 s.next (.cells (V1::V2::[gV p.yz p.ys,ints p.cz p.cs,jf p.rz p.rs]) 0)) s.next V1 [gV p.yz p.ys,ints p.cz p.cs,jf p.rz p.rs] V2 p.gs 0 (p.gs.map aN.cells):=by
  refine⟨⟨hw,G5,M2.own.mono λb x hb hx=> ?_,λb hb=>Zb2 G3.next (M2.new b hb),M2.row,M2.cap,λb hb=>by rw[aJ (λe=>by have:=M2.new _ hb;rw[<-e]at this;omega)];exact M2.tight b hb⟩,bH _ _ _,by omega,by rw[dM];exact M2.ai.next,M2.new,by simp,λi t r _ h3 h4=> ?_,λi t r h=>by omega⟩
  .rw[aJ (λe=>by have:=M2.new _ hb;rw[<-e]at this;omega)];exact hx
  .rw[Zb7,h3]at h4;simpa using h4.symm
 have ath:∀r x,r≠s.next->s3.heap.get r=some x->(bh s4 s.next (.cells (V1::V2::[gV p.yz p.ys,ints p.cz p.cs,jf p.rz p.rs]) 0)).heap.get r=some x:=λr x hr hx=>by rw[aJ (λe=>hr e.symm)];exact M2.ai.get hx
 generalize hs5:bh s4 s.next (.cells (V1::V2::[gV p.yz p.ys,ints p.cz p.cs,jf p.rz p.rs]) 0)=s5 at t2 G5 T5 ath;have l2:∀(K:AV->St->Option (AV×St))(t:St),aq c (.lenB .l) [V2] t K=K (.int .i64 (p.gs.length:Int)) t:=λK t=>by rw[M2.own.lenB];simp
 obtain⟨s6,r2,E1,E2,E3⟩:=apE hc (.ptr p2 0) p.gs hp.gs hp.qM 2000 p.gs.length 0 2000 s5 V2 _ (by have:=hp.gs;omega) (by omega) T5;have q5:=T5.box;have q6:=E1.box;have ani:∀r x,r≠s.next->r.toNat<s3.next.toNat->s3.heap.get r=some x->s6.heap.get r=some x:=λr x hr hl hx=>E2 r x (λe=>by have:=T5.ne _ e;omega) (ath r x hr hx)
 obtain⟨V3,s7,C3,M3⟩:=apz hc p.yz p.ys hp.ys s6 E1.out.ai.wf;obtain⟨V4,s8,C4,M4⟩:=age hc p.cz p.cs hp.cs s7 M3.ai.wf;obtain⟨V5,s9,C5,M5⟩:=apA hc p.rz p.rs hp.rs s8 M4.ai.wf;obtain⟨c3,o3⟩:=M3.cells;obtain⟨c4,o4⟩:=M4.cells;obtain⟨c5,o5⟩:=M5.cells;have G69:=M3.ai.trans (M4.ai.trans M5.ai);have q7:=M3.ai.get q6;have q8:=M4.ai.get q7;have q9:=M5.ai.get q8;have t3:∀(K:AV->St->Option (AV×St)),aq c (.store 1) [.ptr s.next 2,V3] s9 K=K .undef (bh s9 s.next (.cells [V1,V2,V3,ints p.cz p.cs,jf p.rz p.rs] 0)):=λK=>by rw[cm c K s9 1 s.next 2 V3 _ q9 (by rw[c3];rfl) (by simp) (by rw[c3];exact o3),c3];rfl
 have t4:∀(K:AV->St->Option (AV×St)),aq c (.store 1) [.ptr s.next 3,V4] (bh s9 s.next (.cells [V1,V2,V3,ints p.cz p.cs,jf p.rz p.rs] 0)) K=K .undef (bh s9 s.next (.cells [V1,V2,V3,V4,jf p.rz p.rs] 0)):=λK=>by rw[cm c K _ 1 s.next 3 V4 _ (bH _ _ _) (by rw[c4];rfl) (by simp) (by rw[c4];exact o4),c4,Ra];rfl
 have t5:∀(K:AV->St->Option (AV×St)),aq c (.store 1) [.ptr s.next 4,V5] (bh s9 s.next (.cells [V1,V2,V3,V4,jf p.rz p.rs] 0)) K=K .undef (bh s9 s.next (.cells [V1,V2,V3,V4,V5] 0)):=λK=>by rw[cm c K _ 1 s.next 4 V5 _ (bH _ _ _) (by rw[c5];rfl) (by simp) (by rw[c5];exact o5),c5,Ra];rfl
 have one:aQ [V1,V2,V3,V4,V5]=true:=by
  simp only[aQ,Zj4]at o1 o2 o3 o4 o5;simp only[aQ,o1,o2,o3,o4,o5,Zk5]
 have p9:(bh s9 s.next (.cells [V1,V2,V3,V4,V5] 0)).heap.get p2=some (.cells [.af,.af,.af,.af,.af] 0):=by
  rw[aJ nqp];exact G69.get (ani p2 _ (λe=>nqp e.symm) (by have:=D1.out.ai.wf _ _ p3;exact this) p3)
 have t6:∀(K:AV->St->Option (AV×St)),aq c (.store 5) [.ptr p2 0,.agg [V1,V2,V3,V4,V5]] (bh s9 s.next (.cells [V1,V2,V3,V4,V5] 0)) K=K .undef (bh (bh s9 s.next (.cells [V1,V2,V3,V4,V5] 0)) p2 (.cells [V1,V2,V3,V4,V5] 0)):=λK=>by rw[cm c K _ 5 p2 0 (.agg [V1,V2,V3,V4,V5]) _ p9 rfl (by simp) one];rfl
 have G6:=E1.out.ai;have G9:=G6.trans G69;have lq9:=G69.wf _ _ q9;have lp9:=G69.wf _ _ (G69.get (ani p2 _ (λe=>nqp e.symm) (D1.out.ai.wf _ _ p3) p3));have G13:Grew s (bh (bh s9 s.next (.cells [V1,V2,V3,V4,V5] 0)) p2 (.cells [V1,V2,V3,V4,V5] 0)):=⟨iU (iU G69.wf lq9) lp9,λr x hr=>by have:=hw _ _ hr;rw[aJ (λe=>by rw[<-e]at this;omega),aJ (λe=>by rw[<-e]at this;omega)];exact G9.get hr,by rw[dM,dM];exact G9.next⟩
 have zl:∀r x,sB.next.toNat<=r.toNat->s9.heap.get r=some x->(bh (bh s9 s.next (.cells [V1,V2,V3,V4,V5] 0)) p2 (.cells [V1,V2,V3,V4,V5] 0)).heap.get r=some x:=λr x hr hx=>by rw[aJ (λe=>by rw[<-e]at hr;omega),aJ (λe=>by rw[<-e]at hr;omega)];exact hx
 have n36:s3.next.toNat<=s6.next.toNat:=E1.lo;generalize hs13:bh (bh s9 s.next (.cells [V1,V2,V3,V4,V5] 0)) p2 (.cells [V1,V2,V3,V4,V5] 0)=OV at t6 G13 zl;have F1:TS s OV V1 p.ts r1:=by
  have keep:∀(es:Nat)(u:AV)(rows:List (List AV)),Mk es s s3 u rows->(∀b,aL u=some b->sB.next.toNat<=b.toNat)->Mk es s OV u rows:=λes u rows hu hb=>Mk.rW hu G13 λb x hbu hx=>zl b x (hb b hbu) (G69.get (ani b x (λe=>by have:=hb b hbu;rw[e]at this;omega) (hu.ai.wf _ _ hx) hx))
  refine⟨keep _ _ _ D1.out D1.ne,D1.len,λi t r hi hr=> ?_⟩;obtain⟨v,e1,e2,e3,e4⟩:=D1.ez i t r (Za2.1 hi).1 hi hr;exact⟨v,e1,keep _ _ _ e2 e4,e3⟩
 have F2:GS s OV V2 p.gs r2:=by
  have keep:∀(es:Nat)(u:AV)(rows:List (List AV)),Mk es s s6 u rows->(∀b,aL u=some b->s3.next.toNat<=b.toNat)->Mk es s OV u rows:=λes u rows hu hb=>Mk.rW hu G13 λb x hbu hx=>zl b x (Zb2 n3B (hb b hbu)) (G69.get hx)
  refine⟨keep _ _ _ E1.out E1.ne,E1.len,λi t r hi hr=> ?_⟩;obtain⟨v,e1,e2,e3,e4⟩:=E1.ez i t r (Za2.1 hi).1 hi hr;exact⟨v,e1,keep _ _ _ e2 e4,e3⟩
 have F3:Mk 3 s OV V3 (p.ys.map Ty.cells):=M3.rX hw G6 G13 λr x hr hx=>zl r x (by omega) ((M4.ai.trans M5.ai).get hx)
 have F4:Mk 1 s OV V4 (p.cs.map bC):=M4.rX hw (G6.trans M3.ai) G13 λr x hr hx=>zl r x (by have:=M3.ai.next;omega) (M5.ai.get hx)
 have F5:Mk 6 s OV V5 (p.rs.map Rl.cells):=M5.rX hw (G6.trans (M3.ai.trans M4.ai)) G13 λr x hr hx=>zl r x (by have:=M3.ai.next;have:=M4.ai.next;omega) hx
 have fin:∃fU,tidy s (.agg [V1,V2,V3,V4,V5],OV)=(.agg [V1,V2,V3,V4,V5],fU)/\PS s fU [V1,V2,V3,V4,V5] p:=by
  unfold tidy;by_cases hP:Plain (AV.agg [V1,V2,V3,V4,V5],OV).1/\aX s (AV.agg [V1,V2,V3,V4,V5],OV).2
  . rw[Zb6 hP];have inst:∀v∈[V1,V2,V3,V4,V5],dU v:=λv hv=>by
        simp only[Za8,Zc0,Ze9]at hv;rcases hv with rfl|rfl|rfl|rfl|rfl
        .exact F1.out.inst
        .exact F2.out.inst
        .exact F3.inst
        .exact F4.inst
        .exact F5.inst
    have k1:=F1.out.loose.resolve_left λ⟨b,off,n,e⟩=>absurd hP.1 (nR inst (b:=b) (off:=off) (n:=n) (es:=7) (by rw[<-e];simp))
    have k2:=F2.out.loose.resolve_left λ⟨b,off,n,e⟩=>absurd hP.1 (nR inst (b:=b) (off:=off) (n:=n) (es:=9) (by rw[<-e];simp))
    have k3:=F3.loose.resolve_left λ⟨b,off,n,e⟩=>absurd hP.1 (nR inst (b:=b) (off:=off) (n:=n) (es:=3) (by rw[<-e];simp))
    have k4:=F4.loose.resolve_left λ⟨b,off,n,e⟩=>absurd hP.1 (nR inst (b:=b) (off:=off) (n:=n) (es:=1) (by rw[<-e];simp))
    have k5:=F5.loose.resolve_left λ⟨b,off,n,e⟩=>absurd hP.1 (nR inst (b:=b) (off:=off) (n:=n) (es:=6) (by rw[<-e];simp))
    exact⟨s,rfl,Grew.refl hw,V1,V2,V3,V4,V5,r1,r2,rfl,⟨k1.1 s hw,F1.len,λi t r _ h=>by rw[k1.2]at h;simp at h⟩,⟨k2.1 s hw,F2.len,λi t r _ h=>by rw[k2.2]at h;simp at h⟩,k3.1 s hw,k4.1 s hw,k5.1 s hw⟩
  .rw[Za7 hP];exact⟨_,rfl,G13,V1,V2,V3,V4,V5,r1,r2,rfl,F1,F2,F3,F4,F5⟩
 obtain⟨fU,u1,u2⟩:=fin;refine⟨_,fU,?_,u2⟩;rw[adZ hc 2000 (r:=(.agg [V1,V2,V3,V4,V5],OV)),u1];rw[ag2];have p13:OV.heap.get p2=some (.cells [V1,V2,V3,V4,V5] 0):=by rw[<-hs13];exact bH _ _ _
 have hcut:cut [V1,V2,V3,V4,V5] 0 5=some [V1,V2,V3,V4,V5]:=cQ rfl;have L3:∀(ok:AV->Bool)(K:AV->Option (AV×St)),ok (ints p.cz p.cs)=true->jI (.load none) [.ptr s.next 3] s7.heap ok K=K (ints p.cz p.cs):=λok K h=>Iy (ld q7 rfl) ok h K
 have L4:∀(ok:AV->Bool)(K:AV->Option (AV×St)),ok (jf p.rz p.rs)=true->jI (.load none) [.ptr s.next 4] s8.heap ok K=K (jf p.rz p.rs):=λok K h=>Iy (ld q8 rfl) ok h K
 have b3:=XE (adR (d:=2) p.cz p.cs);have b4:=XE (apl p.rz p.rs);have w36:=MV (p:=s.next) (o:=3) (h:=s6.heap) (v:=ints p.cz p.cs) (ld q6 rfl) b3;have w46:=MV (p:=s.next) (o:=4) (h:=s6.heap) (v:=jf p.rz p.rs) (ld q6 rfl) b4;have w47:=MV (p:=s.next) (o:=4) (h:=s7.heap) (v:=jf p.rz p.rs) (ld q7 rfl) b4;have q2:=T2.box;have D3':=λk2=>D3 k2
 have E3':=λk2=>E3 k2
 simp at D3' E3';simp[hsB,HU,qB,C1,t1,q2,l1,D3',q3,C2,t2,q5,l2,E3',q6,C3,L3,w36,C4,L4,w46,w47,C5,t3,t4,t5,hcut,t6,hs13,p13]
theorem PS.rX{s0 s1 s s':St}{Vs:List AV}{p:bS}(h:PS s1 s Vs p)(h0:Wf s0)(OD:Grew s0 s1)(hg:Grew s0 s')(hk:∀q b,s1.next.toNat<=q.toNat->s.heap.get q=some b->s'.heap.get q=some b):PS s0 s' Vs p:=by
 obtain⟨G,V1,V2,V3,V4,V5,r1,r2,rfl,F1,F2,F3,F4,F5⟩:=h;exact⟨hg,V1,V2,V3,V4,V5,r1,r2,rfl,F1.rX h0 OD hg hk,F2.rX h0 OD hg hk,F3.rX h0 OD hg hk,F4.rX h0 OD hg hk,F5.rX h0 OD hg hk⟩
theorem PS.cells{s0 s:St}{Vs:List AV}{p:bS}(h:PS s0 s Vs p):Vs.length=5/\aQ Vs=true:=by
 obtain⟨G,V1,V2,V3,V4,V5,r1,r2,rfl,F1,F2,F3,F4,F5⟩:=h;have o1:=F1.out.cells.2;have o2:=F2.out.cells.2;have o3:=F3.cells.2;have o4:=F4.cells.2;have o5:=F5.cells.2;simp only[aQ,Zj4]at o1 o2 o3 o4 o5;exact⟨rfl,by simp only[aQ,o1,o2,o3,o4,o5,Zk5]⟩
def kW(h:Int):List Int->List (Int×Int)->List Int->List (Int×Int)×List Int
 |[],E,q=>(E,q)
 |k::l,E,q=>if kq E k=none then kW h l (E++[(k,ax .i64 ((kq E h).getD 0+1))]) (q++[k])else kW h l E q
structure WI(s0 s:St)(m:Pos)(E:List (Int×Int))(v:AV)(q:List Int):Prop where
 jE:Wf s0
 ai:Grew s0 s
 mp:s.heap.get m=some (im E)
 anj:s0.next.toNat<=m.toNat
 MY:QS 1 s v (q.map bC)
 Ho:∀b,aL v=some b->s0.next.toNat<=b.toNat
 nem:aL v≠some m
theorem Z7(l:List Int):∀r∈l.map bC,r.length=1:=λr hr=>by simp only[Zc7]at hr;obtain⟨m,_,rfl⟩:=hr;rfl
theorem ati{s0:St}{m:Pos}{lv:AV}{l:List Int}(hl:QS 1 s0 lv (l.map bC))(hll:l.length<=1000)(h:Int)(F:Nat):∀(r i f:Nat)(s:St)(E:List (Int×Int))(v:AV)(q:List Int),r<f->i+r=l.length->WI s0 s m E v (h::q)->q.length+r<=100000->
  ∃ s' v' q',kW h (l.drop i) E (h::q)=((kW h (l.drop i) E (h::q)).1,h::q')/\WI s0 s' m (kW h (l.drop i) E (h::q)).1 v' (h::q')/\q'.length<=q.length+r/\(∀p x,p≠m->aL v≠some p->s.heap.get p=some x->s'.heap.get p=some x/\aL v'≠some p)/\
    ∀(x0 RU x42 x43:AV)(k6),jR c F k6 f [x0,.map m,v,RU,x42,x43,lv,.int .i64 (l.length:Int),.int .i64 (i:Int)] s=k6 [x0,.map m,v',RU,x42,x43] s':=by
 intro r;induction r with
 |zero=>
  intro i f s E v q hf h1 hI hq;obtain⟨f,rfl⟩:∃g,f=g+1:=⟨f - 1,by omega⟩
  obtain rfl:i=l.length:=by omega
  refine⟨s,v,q,?_,?_,by omega,λp x _ hp hx=>⟨hx,hp⟩,λx0 RU x42 x43 k6=> ?_⟩
  .simp[kW]
  .simpa [kW]using hI
  .rw[wO];simp
 |succ r ih=>
  intro i f s E v q hf h1 hI hq;obtain⟨f,rfl⟩:∃g,f=g+1:=⟨f - 1,by omega⟩
  have hi:i<l.length:=by omega
  have w:ax .i64 ((i:Int)+1)=((i+1:Nat):Int):=wrap64 (by omega) (by omega);have hls:QS 1 s lv (l.map bC):=hl.mono λb x _ hx=>hI.ai.get hx
  obtain⟨b,o,cs,a1,_,a3,a4⟩:=hls.at (c:=c) (R:=AV×St) (Z7 l) (by decide) (i:=i) (by simpa using hi);have gi:cs[o]? =some (.int .i64 l[i]):=by simpa using a4 0 (.int .i64 l[i]) (by simp)
  have LK:=λ(K:AV->St->Option (AV×St))=>aq6 c K hI.mp l[i]
  rw[Zd8 hi];cases hk:kq E l[i]with
  | none=>
    obtain⟨b2,o2,cs2,d1,d0,d3,d4⟩:=hI.MY.at (c:=c) (R:=AV×St) (Z7 (h::q)) (by decide) (i:=0) (by simp);have g0:cs2[o2]? =some (.int .i64 h):=(by simpa using d4 0 (.int .i64 h) rfl);have i0:∀(K:AV->St->Option (AV×St))(s1:St),aq c (.idxA 1 none) [v,.int .i64 0] s1 K=K (.ptr b2 o2) s1:=λK s1=>d1 K .i64 s1
    have LH:=λ(K:AV->St->Option (AV×St))=>avo c K hI.mp h
    have MS:=λ(K:AV->St->Option (AV×St))=>aii c K hI.mp hk (ax .i64 ((kq E h).getD 0+1))
    generalize hd:ax .i64 ((kq E h).getD 0+1)=d at MS;have lm:=hI.ai.wf _ _ hI.mp;have G1:Grew s0 (bh s m (im (E++[(l[i],d)]))):=⟨iU hI.ai.wf lm,λp x hp=>by have:=hI.jE _ _ hp;rw[aJ (λe=>by have:=hI.anj;rw[e]at this;omega)];exact hI.ai.get hp,by rw[dM];exact hI.ai.next⟩
    have q1:QS 1 (bh s m (im (E++[(l[i],d)]))) v ((h::q).map bC):=hI.MY.mono λb x hb hx=>by rw[aJ (λe=>hI.nem (by rw[hb,e]))];exact hx
    have m1:=bH s m (im (E++[(l[i],d)]));obtain⟨s5,v5,e1,e2,e3,e4,e5,e6⟩:=q1.push (c:=c) (R:=AV×St) (bytes:=8) G1.wf (Z7 _) (z:=[.int .i64 0]) (x:= .int .i64 l[i]) rfl rfl rfl (by decide) (by simp;omega) (by simp;omega);have I5:WI s0 s5 m (E++[(l[i],d)]) v5 (h::(q++[l[i]])):=by
        refine⟨hI.jE,⟨e3,λp x hp=> ?_,Zb2 G1.next e4⟩,e5 m _ hI.nem m1,hI.anj,by rw[<-Zd5,Zc8];exact e2,λb hb=> ?_,λe=> ?_⟩
        .refine e5 p x (λe=> ?_) (G1.get hp);have:=hI.Ho p e;have:=hI.jE _ _ hp;omega
        .have:=e6 b hb;rw[dM]at this;have:=hI.ai.next;omega
        .have:=e6 m e;rw[dM]at this;omega
    obtain⟨s',v',q',f1,f2,f3,f4,f5⟩:=ih (i+1) f s5 _ v5 (q++[l[i]]) (by omega) (by omega) I5 (by simp;omega);have ew:kW h (l[i]::l.drop (i+1)) E (h::q)=kW h (l.drop (i+1)) (E++[(l[i],d)]) (h::(q++[l[i]])):=(by rw[kW,Zb6 hk,hd];rfl);rw[ew];refine⟨s',v',q',f1,f2,by simp at f3;omega,λp x kH HU hx=> ?_,λx0 RU x42 x43 k6=> ?_⟩
    .   have hx2:=e5 p x HU (by rw[aJ (λe=>kH e.symm)];exact hx);refine f4 p x kH (λe=> ?_) hx2;have:=e6 p e;rw[dM]at this;have:=hI.ai.wf _ _ hx;omega
    .   rw[<-f5 x0 RU x42 x43 k6,wO];rw[hk]at LK;simp[-au,jK,hi,a1,a3,gi,LK,i0,d3,g0,LH,hd,MS,e1,w]
  | some d0=>
    obtain⟨s',v',q',f1,f2,f3,f4,f5⟩:=ih (i+1) f s E v q (by omega) (by omega) hI (by omega);have ew:kW h (l[i]::l.drop (i+1)) E (h::q)=kW h (l.drop (i+1)) E (h::q):=by
        rw[kW,Za7 (by rw[hk];simp)]
    rw[ew];refine⟨s',v',q',f1,f2,by omega,f4,λx0 RU x42 x43 k6=> ?_⟩;rw[<-f5 x0 RU x42 x43 k6,wO];rw[hk]at LK;simp[jK,hi,a1,a3,gi,LK,w]
theorem acw(k d x:Int):∀E:List (Int×Int),kq (E++[(k,d)]) x=match kq E x with|some e=>some e|none=>if x=k then some d else none
 |[]=>by simp only[Ze3,kq]
 |(a,b)::E=>by
  show(if x=a then some b else kq (E++[(k,d)]) x)=_;rw[acw k d x E];show _=match (if x=a then some b else kq E x)with|some e=>some e|none=>if x=k then some d else none
  by_cases h:x=a
  .simp only[h,Zh1]
  .simp only[h,Zg7]
theorem ajz{α:Type}{P Q:α->Bool}(hPQ:∀x,P x=true->Q x=true):∀{l:List α}{a:α},a∈l->Q a=true->P a=false->l.countP P+1<=l.countP Q
 |x ::l,a,ha,h1,h2=>by
  rcases Za8.1 ha with rfl|ha
  .rw[Zp2,Zp2,h1,h2];have:=List.countP_mono_left (l:=l) (p:=P) (q:=Q) (λx _ h=>hPQ x h);simp;omega
  . have ih:=ajz hPQ ha h1 h2;rw[Zp2,Zp2];by_cases hx:P x=true
    .   rw[hx,hPQ x hx];simp;omega
    .   have:P x=false:=(by simpa using hx);rw[this];cases Q x<;>simp<;>omega
def cnt(n:Nat)(E:List (Int×Int)):Nat:=(List.range n).countP λ(i:Nat)=>(kq E (i:Int)).isNone
theorem asm{n:Nat}{E:List (Int×Int)}{k d:Int}(hk:0<=k/\k<(n:Int))(h:kq E k=none):cnt n (E++[(k,d)])+1<=cnt n E:=by
 unfold cnt;refine ajz (a:=k.toNat) (λi hi=> ?_) (Zg5.2 (by omega)) ?_ ?_
 . rw[acw]at hi;cases h2:kq E (i:Int)with
   |none=>rfl
   |some e=>rw[h2]at hi;cases hi
 .have:((k.toNat:Nat):Int)=k:=(by omega);rw[this,h];rfl
 .have:((k.toNat:Nat):Int)=k:=(by omega);rw[this,acw,h];simp
theorem LG{n:Nat}(h:Int):∀(l:List Int)(E:List (Int×Int))(q:List Int),(∀k∈l,0<=k/\k<(n:Int))->(∀k∈q,0<=k/\k<(n:Int))->
  cnt n (kW h l E q).1+(kW h l E q).2.length<=cnt n E+q.length/\∀k∈(kW h l E q).2,0<=k/\k<(n:Int)
 |[],E,q,_,hq=>⟨Za3 _,hq⟩
 |k ::l,E,q,hl,hq=>by
  have hk:=hl k (by simp);by_cases hn:kq E k=none
  . rw[kW,Zb6 hn];obtain⟨a,b⟩:=LG h l (E++[(k,ax .i64 ((kq E h).getD 0+1))]) (q++[k]) (λx hx=>hl x (Zb0 _ hx)) (λx hx=>by
        rcases Zd7.1 hx with hx|hx
        .exact hq x hx
        .simp at hx;subst hx;exact hk)
    have:=asm (d:=ax .i64 ((kq E h).getD 0+1)) hk hn;simp only[Zd6,Zc6,Zi2]at a;exact⟨by omega,b⟩
  .rw[kW,Za7 hn];exact LG h l E q (λx hx=>hl x (Zb0 _ hx)) hq
structure RL(s:St)(V:AV)(rows:List (List Int))(ws:List AV):Prop where
 out:QS 1 s V (ws.map λw=>[w])
 len:ws.length=rows.length
 ez:∀(i:Nat)(w:AV)(r:List Int),ws[i]? =some w->rows[i]? =some r->QS 1 s w (r.map bC)
 mz:∀w∈ws,w.cells=[w]
def Z8(rB rA:List (List Int)):Nat->List (Int×Int)->List Int->List (Int×Int)
 |0,E,_=>E
 |_+1,E,[]=>E
 |f+1,E,h::q=>Z8 rB rA f (kW h (rA.getD h.toNat []) (kW h (rB.getD h.toNat []) E (h::q)).1 (kW h (rB.getD h.toNat []) E (h::q)).2).1 (kW h (rA.getD h.toNat []) (kW h (rB.getD h.toNat []) E (h::q)).1 (kW h (rB.getD h.toNat []) E (h::q)).2).2.tail
theorem auO(hc:Sem c){s0:St}{jb m:Pos}{jc:List AV}{VB VA:AV}{rB rA:List (List Int)}{wB wA:List AV}{n:Nat}(hn:n<=10000)(hj:s0.heap.get jb=some (.cells jc 0))(h9:jc[9]? =some VB)(h10:jc[10]? =some VA)
  (hB:RL s0 VB rB wB) (hA:RL s0 VA rA wA) (lB:rB.length=n) (lA:rA.length=n) (eB:∀r∈rB,r.length<=1000/\∀k∈r,0<=k/\k<(n:Int)) (eA:∀r∈rA,r.length<=1000/\∀k∈r,0<=k/\k<(n:Int)) (F:Nat) (hF:1010<=F) (k2):
  ∀(f g:Nat)(s:St)(E:List (Int×Int))(v:AV)(q:List Int),f<g->cnt n E+q.length<=f->f<=20000->(∀k∈q,0<=k/\k<(n:Int))->WI s0 s m E v q->
   ∃s',Grew s0 s'/\s'.heap.get m=some (im (Z8 rB rA f E q))/\pJ c F k2 g [.ptr jb 0,.map m,v] s=k2 [.map m] s':=by
 intro f;induction f with
 |zero=>
  intro g s E v q hg h1 hf h2 hI;obtain⟨g,rfl⟩:∃g',g=g'+1:=⟨g - 1,by omega⟩
  obtain rfl:q=[]:=Zc2 (by omega);refine⟨s,hI.ai,hI.mp,?_⟩;have hl:∀(K:AV->St->Option (AV×St))(t:St),aq c (.lenB .l) [v] t K=K (.int .i64 0) t:=λK t=>by rw[hI.MY.lenB];simp
  rw[wP];simp[hl]
 |succ f ih=>
  intro g s E v q hg h1 hf h2 hI;obtain⟨g,rfl⟩:∃g',g=g'+1:=⟨g - 1,by omega⟩
  have hl:∀(K:AV->St->Option (AV×St))(t:St),aq c (.lenB .l) [v] t K=K (.int .i64 (q.length:Int)) t:=λK t=>by rw[hI.MY.lenB];simp
  cases q with
  |nil=>
   refine⟨s,hI.ai,hI.mp,?_⟩;rw[wP];simp[hl]
  |cons h q=>
   have hh:=h2 h (by simp);obtain⟨i,rfl⟩:∃i:Nat,h=(i:Int):=⟨h.toNat,by omega⟩
   have hi:i<n:=(by omega);have hw:=hI.ai.wf;obtain⟨b0,o0,cs0,_,d2,_,d4,_,d6,_⟩:=hI.MY.set (c:=c) (R:=AV×St) (Z7 _) (by decide) (i:=0) (by simp);have g0:cs0[o0]? =some (.int .i64 (i:Int)):=(by simpa using d6 0 (.int .i64 (i:Int)) rfl);have j0:∀(K:AV->Option (AV×St)),eX (.idxA 1 none) [v,.int .i64 0] K=K (.ptr b0 o0):=λK=>d2 K .i64
   have one:∀(ws:List AV),∀r∈ws.map (λw=>[w]),r.length=1:=λws r hr=>by simp only[Zc7]at hr;obtain⟨w,_,rfl⟩:=hr;rfl
   have iB:i<wB.length:=(by rw[hB.len,lB];exact hi);have iA:i<wA.length:=(by rw[hA.len,lA];exact hi);obtain⟨b1,o1,cs1,_,e2,_,e4,_,e6,_⟩:=(hB.out.mono (s':=s) λb x _ hx=>hI.ai.get hx).set (c:=c) (R:=AV×St) (one wB) (by decide) (i:=i) (by simpa using iB);have gB:cs1[o1]? =some wB[i]:=(by simpa using e6 0 wB[i] (by simp));have jB:∀(K:AV->Option (AV×St)),eX (.idxA 1 none) [VB,.int .i64 (i:Int)] K=K (.ptr b1 o1):=λK=>e2 K .i64
   obtain⟨b2,o2,cs2,_,f2,_,f4,_,f6,_⟩:=(hA.out.mono (s':=s) λb x _ hx=>hI.ai.get hx).set (c:=c) (R:=AV×St) (one wA) (by decide) (i:=i) (by simpa using iA);have gA:cs2[o2]? =some wA[i]:=(by simpa using f6 0 wA[i] (by simp));have jA:∀(K:AV->Option (AV×St)),eX (.idxA 1 none) [VA,.int .i64 (i:Int)] K=K (.ptr b2 o2):=λK=>f2 K .i64
   have jbs:=hI.ai.get hj;have nc:∀(K:AV->Option (AV×St)),eX .nilCheck [.ptr jb 0] K=K (.ptr jb 0):=λK=>dD K (λH n=>rfl)
   have DN:cK [AV.af,.af] [(0,1),(1,1)] [wB[i],wA[i]]=some [wB[i],wA[i]]:=by
        simp[cK,cO,cU,aU,hB.mz _ (Zb9 iB),hA.mz _ (Zb9 iA)]
   have avM:cK (bW [AV.af] 2) [(0,1),(1,1)] [wB[i],wA[i]]=some [wB[i],wA[i]]:=DN;have G1:=Grew.ah hw (.cells [wB[i],wA[i]] 0);have I1:WI s0 (ah s (.cells [wB[i],wA[i]] 0)) m E v ((i:Int)::q):=⟨hI.jE,hI.ai.trans G1,G1.get hI.mp,hI.anj,hI.MY.mono λb x _ hx=>G1.get hx,hI.Ho,hI.nem⟩
   have X1:=aA s (.cells [wB[i],wA[i]] 0);have lv:∀b,aL v=some b->b.toNat<s.next.toNat:=λb hb=>hI.MY.lt hw hb
   have lm:m.toNat<s.next.toNat:=hw _ _ hI.mp;have rBi:rB[i]? =some rB[i]:=H0 (by omega);have rAi:rA[i]? =some rA[i]:=H0 (by omega);have QB:=hB.ez i wB[i] rB[i] (H0 iB) rBi;have QA:=hA.ez i wA[i] rA[i] (H0 iA) rAi;have sB:=eB _ (Zb9 (by omega:i<rB.length));have sA:=eA _ (Zb9 (by omega:i<rA.length));have hq:q.length<=20000:=(by simp only[Zc6]at h1;omega);obtain⟨s2,v2,q2,k1,k2',k3,k4,k5⟩:=ati (c:=c) QB sB.1 (i:Int) F rB[i].length 0 F _ E v q (by omega) (by omega) I1 (by omega);rw[Ze5]at k1 k2';obtain⟨Y1,Z1⟩:=k4 s.next _ (λe=>by rw[<-e]at lm;omega) (λe=>by have:=lv _ e;omega) X1;obtain⟨s3,v3,q3,l1,l2,l3,l4,l5⟩:=ati (c:=c) QA sA.1 (i:Int) F rA[i].length 0 F _ _ v2 q2 (by omega) (by omega) k2' (by omega);rw[Ze5]at l1 l2;obtain⟨Y2,Z2⟩:=l4 s.next _ (λe=>by rw[<-e]at lm;omega) Z1 Y1;obtain⟨v4,t1,t2,t3⟩:=QS.tail (R:=AV×St) (c:=c) (r:=bC (i:Int)) (rows:=q3.map bC) l2.MY rfl;obtain⟨n1,n2⟩:=LG (n:=n) (i:Int) rB[i] E ((i:Int)::q) sB.2 h2;rw[k1]at n1 n2;obtain⟨n3,n4⟩:=LG (n:=n) (i:Int) rA[i] (kW (i:Int) rB[i] E ((i:Int)::q)).1 ((i:Int)::q2) sA.2 n2;rw[l1]at n3 n4;have I4:WI s0 s3 m (kW (i:Int) rA[i] (kW (i:Int) rB[i] E ((i:Int)::q)).1 ((i:Int)::q2)).1 v4 q3:=⟨l2.jE,l2.ai,l2.mp,l2.anj,t2,λb hb=>l2.Ho b (t3 b hb),λe=>l2.nem (t3 _ e)⟩
   obtain⟨s5,u1,u2,u3⟩:=ih g s3 _ v4 q3 (by omega) (by simp only[Zc6]at n1 n3 h1;omega) (by omega) (λk hk=>n4 k (Zb0 _ hk)) I4;have ew:Z8 rB rA (f+1) E ((i:Int)::q)=Z8 rB rA f (kW (i:Int) rA[i] (kW (i:Int) rB[i] E ((i:Int)::q)).1 ((i:Int)::q2)).1 q3:=(by have gb:rB.getD ((i:Int)).toNat []=rB[i]:=(by simp[List.getD,rBi]);have ga:rA.getD ((i:Int)).toNat []=rA[i]:=(by simp[List.getD,rAi]);rw[Z8,gb,ga];have e1:(kW (i:Int) rB[i] E ((i:Int)::q)).2=(i:Int)::q2:=(by rw[k1]);rw[e1];have e2:(kW (i:Int) rA[i] (kW (i:Int) rB[i] E ((i:Int)::q)).1 ((i:Int)::q2)).2=(i:Int)::q3:=(by rw[l1]);rw[e2];rfl);refine⟨s5,u1,by rw[ew];exact u2,?_⟩;obtain⟨F',rfl⟩:∃F',F=F'+3:=⟨F - 3,by omega⟩
   have x0:∀(K:AV->St->Option (AV×St))(t:St),aq c (.idxA 1 none) [.slice s.next 0 2 (some 2) 1,.int .i64 0] t K=K (.ptr s.next 0) t:=λK t=>ji c K t (i:=0) (k:= .i64) (es:=1) (by omega)
   have x1:∀(K:AV->St->Option (AV×St))(t:St),aq c (.idxA 1 none) [.slice s.next 0 2 (some 2) 1,.int .i64 1] t K=K (.ptr s.next 1) t:=λK t=>ji c K t (i:=1) (k:= .i64) (es:=1) (by omega)
   have y0:∀(K:AV->St->Option (AV×St))(t:St),aq c (.lenB .l) [wB[i]] t K=K (.int .i64 (rB[i].length:Int)) t:=λK t=>by rw[QB.lenB];simp
   have y1:∀(K:AV->St->Option (AV×St))(t:St),aq c (.lenB .l) [wA[i]] t K=K (.int .i64 (rA[i].length:Int)) t:=λK t=>by rw[QA.lenB];simp
   have y2:∀(K:AV->Option (AV×St)),eX (.lenB .l) [.slice s.next 0 2 (some 2) 1] K=K (.int .i64 2):=λK=>dD K (λH n=>rfl)
   have w1:ax .i64 (1:Int)=1:=rfl;have w2:ax .i64 (2:Int)=2:=rfl;have R1:∀k4,fA c (F'+3) k4 (F'+3) [.ptr jb 0,.map m,v,.slice s.next 0 2 (some 2) 1,.int .i64 2,.int .i64 0] (ah s (.cells [wB[i],wA[i]] 0))=fA c (F'+3) k4 (F'+2) [.ptr jb 0,.map m,v2,.slice s.next 0 2 (some 2) 1,.int .i64 2,.int .i64 1] s2:=λk4=>by
        (rw[wQ];have:=λk6=>k5 (.ptr jb 0) (.slice s.next 0 2 (some 2) 1) (.int .i64 2) (.int .i64 0) k6);simp at this;simp[x0,X1,y0,this,w1]
   have R2:∀k4,fA c (F'+3) k4 (F'+2) [.ptr jb 0,.map m,v2,.slice s.next 0 2 (some 2) 1,.int .i64 2,.int .i64 1] s2=fA c (F'+3) k4 (F'+1) [.ptr jb 0,.map m,v3,.slice s.next 0 2 (some 2) 1,.int .i64 2,.int .i64 2] s3:=λk4=>by
        (rw[wQ];have:=λk6=>l5 (.ptr jb 0) (.slice s.next 0 2 (some 2) 1) (.int .i64 2) (.int .i64 1) k6);simp at this;simp[x1,Y1,y1,this,w2]
   have R3:∀k4,fA c (F'+3) k4 (F'+1) [.ptr jb 0,.map m,v3,.slice s.next 0 2 (some 2) 1,.int .i64 2,.int .i64 2] s3=k4 [.ptr jb 0,.map m,v3] s3:=λk4=>by rw[wQ];simp
   rw[<-u3,wP];have Xf:0<(q.length:Int)+1:=(by omega);simp[hl,Xf,nc,jbs,h9,h10,j0,d4,g0,jB,e4,gB,jA,f4,gA,avM,y2,R1,R2,R3,t1]
def ado(rB rA:List (List Int))(n:Nat)(fr:Int):List (Int×Int):=Z8 rB rA (n+1) [(fr,0)] [fr]
theorem auP(hc:Sem c){jb:Pos}{jc:List AV}{VB VA:AV}{rB rA:List (List Int)}{wB wA:List AV}{n:Nat}(hn:n<=10000)(s:St)(hw:Wf s)(hj:s.heap.get jb=some (.cells jc 0))(h9:jc[9]? =some VB)(h10:jc[10]? =some VA)
  (hB:RL s VB rB wB) (hA:RL s VA rA wA) (lB:rB.length=n) (lA:rA.length=n) (eB:∀r∈rB,r.length<=1000/\∀k∈r,0<=k/\k<(n:Int)) (eA:∀r∈rA,r.length<=1000/\∀k∈r,0<=k/\k<(n:Int)) (fr:Int) (FT:0<=fr/\fr<(n:Int)):
  ∃m s',c 52 [.ptr jb 0,.int .i64 fr] s=some (.map m,s')/\Grew s s'/\s.next.toNat<=m.toNat/\s'.heap.get m=some (im (ado rB rA n fr)):=by
 have cZ:Wf (ah s (im [])):=bG hw;have g1:=Grew.ah hw (im []);have m1:=aA s (im []);have MS:=λ(K:AV->St->Option (AV×St))=>aii c K m1 (x:=fr) rfl 0
 have lm:=cZ _ _ m1;have G2:Grew s (bh (ah s (im [])) s.next (im ([]++[(fr,0)]))):=⟨iU cZ lm,λp x hp=>by have:=hw _ _ hp;rw[aJ (λe=>by rw[<-e]at this;omega)];exact g1.get hp,by rw[dM];exact g1.next⟩
 have m2:=bH (ah s (im [])) s.next (im ([]++[(fr,0)]));generalize uD:bh (ah s (im [])) s.next (im ([]++[(fr,0)]))=s2 at MS G2 m2;have row:=λ(K:AV->St->Option (AV×St))=>LU (c:=c) (es:=1) (z:=[.int .i64 0]) (x:= .int .i64 fr) rfl rfl s2 K
 have g3:=Grew.ah G2.wf (.cells (AV.cells (.int .i64 fr)) 0);have lm2:=G2.wf _ _ m2;have I:WI s (ah s2 (.cells (AV.cells (.int .i64 fr)) 0)) s.next [(fr,0)] (.slice s2.next 0 1 (some 1) 1) [fr]:=by
  refine⟨hw,G2.trans g3,g3.get m2,Za3 _,.inr (.inl ⟨s2.next,0,some 1,[.int .i64 fr],rfl,aA _ _,by simp,by simp,.inr rfl⟩),λb hb=> ?_,λe=> ?_⟩
  .obtain rfl:=tO hb;exact G2.next
  .have:=congrArg Pos.toNat (tO e);omega
 have hc1:cnt n [(fr,0)]+[fr].length<=n+1:=by
  have:cnt n [(fr,0)]<=n:=by unfold cnt;exact Zb2 List.countP_le_length (by simp)
  simp;omega
 obtain⟨s',u1,u2,u3⟩:=auO hc hn hj h9 h10 hB hA lB lA eB eA 20000 (by omega) (λvs s59=>iw vs λx5 vs=>mO vs (aq c .move [x5] s59 λx75 s60=>aq c .move [x75] s60 λx4 s61=>some (x4,s61))) (n+1) 20000 _ _ _ [fr] (by omega) hc1 (by omega) (λk hk=>by simp at hk;subst hk;exact FT) I;refine⟨s.next,s',?_,u1,Za3 _,u2⟩;rw[WN hc 20000 (r:=(.map s.next,s')),ajk];rw[aaO];have hmk:∀(K:AV->St->Option (AV×St)),aq c .mkMap [] s K=K (.map s.next) (ah s (im [])):=λK=>by rw[XC];rfl
 simp at u3;simp[-au,-XC,hmk,MS,row,u3]
theorem auQ(hc:Sem c)(z:Bool)(ts:List aE)(cH:∀t∈ts,t.Ok){pb sb:Pos}{cs:List AV}(h0:cs[0]? =some (tabs z ts))(a b:Int)(ha:a<=4611686018427387904)(hb:b<=4611686018427387904)(s:St)(hw:Wf s)
  (hp:s.heap.get pb=some (.cells cs 0)) (hs:s.heap.get sb=some (.cells [.int .i64 a] 0)):
  c 48 [.int .i64 b,.ptr pb 0,.ptr sb 0] s=some (.bool (YF ts a b),s):=by
 have B:=apq hc z ts cH a b ha hb s hw;rw[afh hc 1 (r:=(.bool (YF ts a b),s)),aB (Plain.bool _) (aX.refl s)];rw[ajA];simp[hp,hs,h0,B]
theorem auR(hc:Sem c)(z:Bool)(ts:List aE)(cH:∀t∈ts,t.Ok){pb sb:Pos}{cs:List AV}(h0:cs[0]? =some (tabs z ts))(a b:Int)(ha:a<=4611686018427387904)(hb:b<=4611686018427387904)(s:St)(hw:Wf s)
  (hp:s.heap.get pb=some (.cells cs 0)) (hs:s.heap.get sb=some (.cells [.int .i64 a] 0)):
  c 50 [.int .i64 b,.ptr pb 0,.ptr sb 0] s=some (.bool (YG ts a b),s):=by
 have B:=apr hc z ts cH a b ha hb s hw;rw[afi hc 1 (r:=(.bool (YG ts a b),s)),aB (Plain.bool _) (aX.refl s)];rw[ajB];simp[hp,hs,h0,B]
theorem apF(hc:Sem c)(z:Bool)(ts:List aE)(cH:∀t∈ts,t.Ok){pb sb:Pos}{cs:List AV}(h0:cs[0]? =some (tabs z ts))(a:Int)(ha:a<=1000000){first:Int}(hf:0<=first/\first<=1000000){n:Nat}(hn:n<=1000000)(s:St)(hw:Wf s)
  (hp:s.heap.get pb=some (.cells cs 0)) (hs:s.heap.get sb=some (.cells [.int .i64 a] 0)):
  ∃v s',c 47 [.int .i64 first,.int .i64 (n:Int),.func 48 [] [.ptr pb 0,.ptr sb 0]] s=some (v,s')/\Mk 1 s s' v ((mF first n (YF ts a)).map bC):=
 ajv hc hf hn hw λk t hg h1 h2=>auQ hc z ts cH h0 a k (by omega) (by omega) t hg.wf (hg.get hp) (hg.get hs)
theorem apG(hc:Sem c)(z:Bool)(ts:List aE)(cH:∀t∈ts,t.Ok){pb sb:Pos}{cs:List AV}(h0:cs[0]? =some (tabs z ts))(a:Int)(ha:a<=1000000){first:Int}(hf:0<=first/\first<=1000000){n:Nat}(hn:n<=1000000)(s:St)(hw:Wf s)
  (hp:s.heap.get pb=some (.cells cs 0)) (hs:s.heap.get sb=some (.cells [.int .i64 a] 0)):
  ∃v s',c 47 [.int .i64 first,.int .i64 (n:Int),.func 50 [] [.ptr pb 0,.ptr sb 0]] s=some (v,s')/\Mk 1 s s' v ((mF first n (YG ts a)).map bC):=
 ajv hc hf hn hw λk t hg h1 h2=>auR hc z ts cH h0 a k (by omega) (by omega) t hg.wf (hg.get hp) (hg.get hs)
theorem apH(z:Bool)(ts:List aE)(k:Nat)(hk:k<ts.length)(K:AV->St->Option (AV×St))(s:St):aq c (.sliceL 7 true true false) [tabs z ts,.int .i64 (k:Int),.int .i64 ((k+1:Nat):Int)] s K=K (tabs false [ts[k]]) s:=by
 have e:tabs z ts= .fl (ts.map aE.cells) 7:=by
  unfold tabs;exact aew (by intro h;have:=congrArg List.length h;simp at this;subst this;simp at hk)
 have run:∀(H:Pos->Option AB)(n:Pos),aG.run H n (.sliceL 7 true true false) [tabs z ts,.int .i64 (k:Int),.int .i64 ((k+1:Nat):Int)]=some (.val (tabs false [ts[k]])):=λH n=>by
  rw[e];have hb:bounds true true false [.int .i64 (k:Int),.int .i64 ((k+1:Nat):Int)]=some (some k,some (k+1),none):=rfl;have h1:k+1<=(ts.map aE.cells).length:=by simp;omega
  simp only[aG.run,iZ,hb,cO,cU,Zg6,Ze8,Za0 (Nat.le_succ k),Za0 h1];have:((ts.map aE.cells).take (k+1)).drop k=[ts[k].cells]:=by rw[Zc9 (by simpa using hk),Zg8 (by simp;omega)];simp
  rw[this];rfl
 exact aV c K run s
theorem apI(hc:Sem c)(t:aE)(cH:t.Ok)(h:sU t=0)(s:St)(hw:Wf s):c 44 [tabs false [t]] s=some (.int .i64 (bJ t),s):=by
 rw[Hi hc false [t] (λu hu=>by simp at hu;subst hu;exact cH) s hw,Zb6 (Iw h)];simp[bf]
def mnS(a b:List Nat):List Nat:=match aO a b||jY a b with|true=>a|false=>b
def mxS(a b:List Nat):List Nat:=match aO a b with|true=>b|false=>a
theorem asn(hc:Sem c)(a b:List Nat)(k:Int)(st:St)(hw:Wf st):c 158 [.str a,.str b,.int .u8 k] st=some (.agg (Ty.cells ⟨mnS a b,mxS a b,k⟩),st):=by
 rw[RD hc 1 (r:=(.agg (Ty.cells ⟨mnS a b,mxS a b,k⟩),ah st (.cells (Ty.cells ⟨mnS a b,mxS a b,k⟩) 0))),aB (Plain.agg (by simp[Ty.cells,Plain.str,Plain.int])) (bY hw)];rw[Yu];have m1:∀(K:AV->St->Option (AV×St))(s:St),aq c .minB [.str a,.str b] s K=K (.str (mnS a b)) s:=λK s=>aV c K (λH n=>rfl) s
 have m2:∀(K:AV->St->Option (AV×St))(s:St),aq c .maxB [.str a,.str b] s K=K (.str (mxS a b)) s:=λK s=>aV c K (λH n=>rfl) s
 simp[m1,m2,cK,aU,cU,AV.cells,aQ,AV.one,cQ,Ty.cells]
theorem YK{ts:List Ty}(hs:F7 ts)(t:Ty):∀n,n<=ts.length->∃q,q<=n/\(∀h (hh:h<ts.length),h<q->fQ ts[h] t=true)/\∀h (hh:h<ts.length),q<=h->h<n->fQ ts[h] t=false
 |0,_=>⟨0,Za3 _,λh _ hq=>absurd hq (Nat.not_lt_zero _),λh _ _ hq=>absurd hq (Nat.not_lt_zero _)⟩
 |n+1,hn=>by
  obtain⟨q,h1,h2,h3⟩:=YK hs t n (by omega);cases hb:fQ (ts[n]'(by omega)) t with
  |true=>
   refine⟨n+1,Za3 _,λh hh hq=> ?_,λh hh hq1 hq2=>by omega⟩;by_cases e:h=n
   .subst e;exact hb
   .exact LC (hs h n (by omega) (by omega)) hb
  |false=>
   refine⟨q,by omega,h2,λh hh hq1 hq2=> ?_⟩;by_cases e:h=n
   .subst e;exact hb
   .exact h3 h hh hq1 (by omega)
open Classical in
noncomputable def Hh(ts:List Ty)(t:Ty):Nat:=if h:F7 ts then Classical.choose (YK h t ts.length (Za3 _))else 0
theorem auS{ts:List Ty}(hs:F7 ts)(t:Ty):Hh ts t<=ts.length/\(∀h (hh:h<ts.length),h<Hh ts t->fQ ts[h] t=true)/\∀h (hh:h<ts.length),Hh ts t<=h->h<ts.length->fQ ts[h] t=false:=by
 unfold Hh;rw[dif_pos hs];exact Classical.choose_spec (YK hs t ts.length (Za3 _))
def Cj(a b:List Nat):Ty:=⟨mnS a b,mxS a b,0⟩
noncomputable def MP(ts:List Ty)(a b:List Nat):Int:=if Av ts (Cj a b) (Hh ts (Cj a b))then(match ts[Hh ts (Cj a b)]? with|some t=>t.k|none=>0)else 0
theorem apJ(hc:Sem c){s0 s:St}{bp mp:Pos}{gs:List aN}{ts:List Ty}{gk tk:Option Pos}(B:eH s0 s bp mp gs ts gk tk)(hl:ts.length<=1000)(a b:List Nat)(hs:F7 ts):
   (Av ts (Cj a b) (Hh ts (Cj a b))=true->Hh ts (Cj a b)<ts.length)/\c 112 [.ptr bp 0,.str a,.str b] s=some (.tuple [.int .i64 (Hh ts (Cj a b):Int),.bool (Av ts (Cj a b) (Hh ts (Cj a b)))],s):=by
 obtain⟨h1,h2,h3⟩:=auS hs (Cj a b);generalize Hh ts (Cj a b)=q at*
 unfold Cj at*
 refine⟨λe=> ?_,?_⟩
 . by_cases h:q<ts.length
   .exact h
   .unfold Av at e;rw[Zc3 (by omega)]at e;cases e
 have hpr:=asn hc a b 0 s B.wf;have HS:=ate hc ts hl ⟨mnS a b,mxS a b,0⟩ q h1 h2 (λh hh hq=>h3 h hh hq hh) tk s B.wf B.yL.1 B.yL.2;rw[Eu hc 1 (r:=(.tuple [.int .i64 (q:Int),.bool (Av ts ⟨mnS a b,mxS a b,0⟩ q)],s)),aB (Plain.tuple (by simp[Plain.int,Plain.bool])) (aX.refl s)];rw[Iu];have bq:eZ (lC tk ts.length 3) (lC tk ts.length 3)=true:=by cases tk;exact Tq;exact OC _ _ _ _
 have MU:=λ(K:AV->Option (AV×St))=>lQ K (p:=bp) (o:=1) (h:=s.heap) (h2:=s.heap) (v:=lC tk ts.length 3) (by rw[B.book];rfl) (by rw[B.book];rfl) bq
 simp[hpr,MU,HS]
theorem auT(hc:Sem c){s0 s:St}{bp mp:Pos}{gs:List aN}{ts:List Ty}{gk tk:Option Pos}(B:eH s0 s bp mp gs ts gk tk)(hl:ts.length<=1000)(hs:F7 ts)(a b:List Nat):
  ∃(ok:Bool),c 55 [.ptr bp 0,.str a,.str b] s=some (.tuple [.int .u8 (MP ts a b),.bool ok],s):=by
 obtain⟨h1,h2⟩:=apJ hc B hl a b hs;unfold MP;generalize Hh ts (Cj a b)=q at*
 generalize Av ts (Cj a b) q=ok at*
 have hn:=Z4 hc s bp mp _ _ B.book;cases ok with
 |false=>
  refine⟨false,?_⟩;simp only[Zf0,Zg7];rw[Gb hc 1 (r:=(.tuple [.int .u8 0,.bool false],s)),aB (Plain.tuple (by simp[Plain.int,Plain.bool])) (aX.refl s)];rw[J6];simp[hn,h2]
 |true=>
  have hq:=h1 rfl;obtain⟨t,rfl⟩:∃t,tk=some t:=by
   cases tk with
   |none=>rw[B.yL.1 rfl]at hq;simp at hq
   |some t=>exact⟨t,rfl⟩
  have uT:=B.yL.2 t rfl;simp only[Zh1];rw[H0 hq];simp only;obtain⟨k,ri⟩:∃k,k=ts[q].k:=⟨_,rfl⟩
  have hk:(ts[q].cells)[2]? =some (.int .u8 k):=by rw[ri];rfl
  rw[<-ri];have DJ:(ts.flatMap Ty.cells)[q*3+2]? =some (.int .u8 k):=by have:=Go.Ai.zn (rows:=ts.map Ty.cells) (es:=3) (λr hr=>by simp only[Zc7]at hr;obtain⟨t,_,rfl⟩:=hr;rfl) q 2 ts[q].cells (.int .u8 k) (by rw[Zb7,H0 hq];rfl) hk;exact this
  refine⟨true,?_⟩;have ix:=λ(K:AV->St->Option (AV×St))(s:St)=>ji c K s (b:=t) (off:=0) (es:=3) (es':=3) (cap:=none) (k:= .i64) hq
  rw[Gb hc 1 (r:=(.tuple [.int .u8 k,.bool true],s)),aB (Plain.tuple (by simp[Plain.int,Plain.bool])) (aX.refl s)];rw[J6];simp[hn,h2,B.book,lC,ix,uT,DJ]
def uG:aN:=⟨[],[],[],0,0,[],false,false,true,[]⟩
def Vk(gs:List aN)(a:List Nat):Option aN:=gs.find? λg=>decide (g.name=a)
theorem aso{a:List Nat}:∀{gs:List aN},a∉gs.map aN.name->Vk gs a=none:=λh=>List.find?_eq_none.2 λg hg e=>h (Zc7.2 ⟨g,hg,Zg2 e⟩)
theorem apK(a:List Nat):∀(gs:List aN)(es:List (AV×AV×Nat))(k i j:Nat)(v:AV),es.map (·.1)=gs.map (λg=>.str g.name)->es.map (λe=>e.2.1)=(List.range' k gs.length).map (λ(i:Nat)=>AV.int .i64 (i:Int))->ic .s (.str a) es i=some (some (j,v))->
  ∃n:Nat,v= .int .i64 ((k+n:Nat):Int)/\n<gs.length/\Vk gs a=gs[n]?
 |[],es,k,i,j,v,h,_,hf=>by
  have:es=[]:=by simpa using h
  subst this;cases hf
 |g::gs,[],k,i,j,v,h,_,_=>by simp at h
 |g ::gs,(k',v',m)::es,k,i,j,v,h,h2,hf=>by
  simp only[Zd1,Zf9,Zc6,Zp0]at h h2;obtain⟨e1,h⟩:=h;obtain⟨e2,h2⟩:=h2;subst e1 e2;by_cases e:a=g.name
  .subst e;simp[ic,yV,gY]at hf;exact⟨0,by rw[<-hf.2];rfl,by simp,by unfold Vk;simp⟩
  .have hf:ic .s (.str a) es (i+1)=some (some (j,v)):=(by simpa [ic,yV,gY,e]using hf);obtain⟨n,h3,h4,h5⟩:=apK a gs es (k+1) (i+1) j v h h2 hf;refine⟨n+1,by rw[h3];congr 2;omega,by simpa using h4,?_⟩;unfold Vk at h5 ⊢;rw[List.find?_cons_of_neg (by simpa using λe'=>e e'.symm),h5];simp
theorem ajC(hc:Sem c){s0 s:St}{bp mp:Pos}{gs:List aN}{ts:List Ty}{gk tk:Option Pos}(B:eH s0 s bp mp gs ts gk tk)(a:List Nat):
   ∃(v:AV) (s':St),c 107 [.ptr bp 0,.str a] s=some (.tuple [.agg (((Vk gs a).getD uG).ay v),.bool (Vk gs a).isSome],s')/\Mk 1 s s' v (((Vk gs a).getD uG).tg.map qJ)/\((Vk gs a).getD uG).tg.length<=4:=by
 have hn:=λ(t:St)(hg:Grew s t)=>Z4 hc t bp mp _ _ (B.ai hg).book
 obtain⟨es,cl,m1,m2⟩:=B.AP;have hw:=B.wf;have G0:=Grew.ah hw (.cells (uG.ay .af) 0);have QY:=hn _ G0;rcases HO a gs es 0 m2 with⟨uS,j,v,hf⟩|⟨uS,hf⟩
 . obtain⟨i,hi,aW,hbk⟩:=apK a gs es 0 0 j v m2 (by rw[B.Qd es cl m1,Zl6]) hf;rw[Zb8]at hi;rw[hbk,H0 aW,Ze8,Zq5];obtain⟨b,rfl⟩:∃b,gk=some b:=by
    cases gk with
    |none=>rw[B.sI.1 rfl]at aW;simp at aW
    |some b=>exact⟨b,rfl⟩
   obtain⟨cs,c1,c2⟩:=B.sI.2 b rfl;obtain⟨lo,l4,w,gQ,w1,w2,Q,_⟩:=B.rows b cs rfl c1 i gs[i] (H0 aW);obtain⟨v,s3,h3,M⟩:=af7 hc gs[i] lo (by omega) (src:=w) _ (bG hw) (.inr (Q.mono λp x _ hx=>G0.get hx)) w1 w2;have M1:=M.back hw G0;have hcut:cut cs (i*9) 9=some ((gs[i]).ay w):=by
    unfold cut;have:i*9+9<=cs.length:=(by omega);rw[cU,Za0 this,gQ]
   have hz:s3.heap.get s.next=some (.cells (uG.ay .af) 0):=M.ai.get (aA _ _);have hv:=M.cells;have ho:aQ ((gs[i]).ay v)=true:=(gs[i]).MG hv.2
   let s4:=bh s3 s.next (.cells ((gs[i]).ay v) 0)
   have amU:s.next.toNat<s3.next.toNat:=(by have:=M.ai.next;rw[bP,Pos.aF]at this;omega);have M4:Mk 1 s s4 v ((gs[i]).tg.map qJ):=M1.store (Za3 _) amU (λe=>by have:=M.new _ e;rw[bP,Pos.aF]at this;omega);have sy:∀u∈(gs[i]).ay v,dU u:=λu hu=>by
    simp only[aN.ay,Za8,Zc0,Ze9]at hu;rcases hu with rfl|rfl|rfl|rfl|rfl|rfl|rfl|rfl|rfl
    .exact dU.str lo.name
    .exact dU.str lo.AN
    .exact dU.str lo.jv
    .exact dU.int _ _
    .exact dU.int _ _
    .exact dU.str lo.nk
    .exact dU.bool _
    .exact dU.bool _
    .exact M.inst
   obtain⟨s5,t1,t2⟩:=M4.ak9 (l:=(gs[i]).ay v) (by simp[aN.ay]) sy true;refine⟨v,s5,?_,t2,l4⟩;have ix:=λ(K:AV->St->Option (AV×St))(s:St)=>ji c K s (b:=b) (off:=0) (es:=9) (es':=9) (cap:=none) (k:= .i64) aW
   have lk:=λ(K:AV->St->Option (AV×St))=>CS c K (.int .i64 0) (st:=ah s (.cells (uG.ay .af) 0)) (k:= .str a) (G0.get m1) hf
   have bE:=λ(K:AV->St->Option (AV×St))=>cm c K s3 9 s.next 0 (.agg ((gs[i]).ay v)) _ hz rfl (by simp[uG,aN.ay]) ho
   have Bk:aU (uG.ay .af) 0 (AV.agg ((gs[i]).ay v)).cells=(gs[i]).ay v:=rfl;rw[Bk]at bE;have hg4:s4.heap.get s.next=some (.cells ((gs[i]).ay v) 0):=bH _ _ _;have hca:cut ((gs[i]).ay v) 0 9=some ((gs[i]).ay v):=cQ rfl;have b1:=G0.get B.book;have c3:=G0.get c1;rw[Gc hc 1 (r:=(.tuple [.agg ((gs[i]).ay v),.bool true],s4)),t1];rw[J7];have al:∀(K:AV->St->Option (AV×St)),aq c (.alloc [(.str []),(.str []),(.str []),(.int .i64 0),(.int .i64 0),(.str []),(.bool false),(.bool false),.af]) [] s K=K (.ptr s.next 0) (ah s (.cells (uG.ay .af) 0)):=λK=>by rw[cL];rfl
   rw[al];simp only[hi]at lk;simp[-cL,QY,b1,lk,lC,ix,c3,hcut,h3,bE];rw[hca,fu]
 . have lk:=λ(K:AV->St->Option (AV×St))=>CS c K (.int .i64 0) (st:=ah s (.cells (uG.ay .af) 0)) (k:= .str a) (G0.get m1) hf
   have b1:=G0.get B.book;have M0:Mk 1 s (ah s (.cells (uG.ay .af) 0)) .af (uG.tg.map qJ):=Mk.start hw G0;have sy:∀u∈uG.ay .af,dU u:=λu hu=>by
    simp only[uG,aN.ay,Za8,Zc0,Ze9]at hu;rcases hu with rfl|rfl|rfl|rfl|rfl|rfl|rfl|rfl|rfl
    .exact dU.str (by simp)
    .exact dU.str (by simp)
    .exact dU.str (by simp)
    .exact dU.int _ _
    .exact dU.int _ _
    .exact dU.str (by simp)
    .exact dU.bool _
    .exact dU.bool _
    .exact dU.af
   obtain⟨s5,t1,t2⟩:=M0.ak9 (l:=uG.ay .af) (by simp[aN.ay]) sy false;rw[aso uS,Zi9,Zq6];refine⟨.af,s5,?_,t2,by simp[uG]⟩;rw[Gc hc 1 (r:=(.tuple [.agg (uG.ay .af),.bool false],ah s (.cells (uG.ay .af) 0))),t1];rw[J7];have al:∀(K:AV->St->Option (AV×St)),aq c (.alloc [(.str []),(.str []),(.str []),(.int .i64 0),(.int .i64 0),(.str []),(.bool false),(.bool false),.af]) [] s K=K (.ptr s.next 0) (ah s (.cells (uG.ay .af) 0)):=λK=>by rw[cL];rfl
   have bd:∀(K:AV->St->Option (AV×St))(s:St),aq c (.build [(.str []),(.str []),(.str []),(.int .i64 0),(.int .i64 0),(.str []),(.bool false),(.bool false),.af] []) [] s K=K (.agg (uG.ay .af)) s:=λK s=>by rw[iF];rfl
   have bE:=λ(K:AV->St->Option (AV×St))=>cr c K s 9 (.agg (uG.ay .af)) (uG.ay .af) rfl rfl rfl
   have hca:cut (uG.ay .af) 0 9=some (uG.ay .af):=cQ rfl;have ce:(AV.agg (uG.ay .af)).cells=uG.ay .af:=rfl;rw[al];simp[-cL,-iF,QY,b1,lk,bd,bE,hca,ce]
theorem Z9(s:St)(r:AV×St):tidy s r=r\/tidy s r=(r.1,s):=by
 unfold tidy;split
 .exact .inr rfl
 .exact .inl rfl
theorem apL{s:St}{v:AV}{l:List (List Nat)}(h:QS 1 s v (l.map qJ))(hl:l.length<=1000)(x:List Nat)(F:Nat):∀(m k:Nat),l.length<=k+m->k<=l.length->
  (∃i:Nat,x∈l.drop k/\∀k1 k2,ff c F k1 k2 (m+1) [v,.str x,.int .i64 (l.length:Int),.int .i64 (k:Int)] s=k1 [.int .i64 (i:Int)] s)\/
    x∉l.drop k/\∀k1 k2,ff c F k1 k2 (m+1) [v,.str x,.int .i64 (l.length:Int),.int .i64 (k:Int)] s=k2 [] s:=by
 intro m;induction m with
 |zero=>
  intro k h1 h2;obtain rfl:k=l.length:=by omega
  right;refine⟨by simp,λk1 k2=> ?_⟩;rw[fV];simp
 |succ m ih=>
  intro k h1 h2;by_cases hk:k<l.length
  . obtain⟨b,o,cs,a1,a2,a3,a4⟩:=h.at (R:=AV×St) (c:=c) (Hl l) (by decide) (i:=k) (by simpa using hk);have g0:cs[o]? =some (.str l[k]):=(by simpa using a4 0 (.str l[k]) (by simp));have w:ax .i64 ((k:Int)+1)=((k+1:Nat):Int):=wrap64 (by omega) (by omega);rw[Zd8 hk,Za8];by_cases he:x=l[k]
    .   left;refine⟨k,.inl he,λk1 k2=> ?_⟩;rw[fV];simp[hk,a1,a3,g0,he]
    .   rcases ih (k+1) (by omega) (by omega)with⟨i,hm,hi⟩|⟨hm,hi⟩
        .left;refine⟨i,.inr hm,λk1 k2=> ?_⟩;rw[<-hi k1 k2,fV];simp[hk,a1,a3,g0,he,w]
        .right;refine⟨λh=>h.elim he hm,λk1 k2=> ?_⟩;rw[<-hi k1 k2,fV];simp[hk,a1,a3,g0,he,w]
  .obtain rfl:k=l.length:=(by omega);right;refine⟨by simp,λk1 k2=> ?_⟩;rw[fV];simp
theorem ajD(hc:Sem c){s:St}{v:AV}{l:List (List Nat)}(h:QS 1 s v (l.map qJ))(hl:l.length<=1000)(x:List Nat):c 110 [v,.str x] s=some (.bool (decide (x∈l)),s):=by
 have ln:=λ(K:AV->St->Option (AV×St))(s1:St)=>h.lenB (c:=c) K s1
 simp only[Za4]at ln;have ix:∃i:Int,(0<=i↔x∈l)/\c 160 [v,.str x] s=some (.int .i64 i,s):=by
  rcases apL (c:=c) h hl x (l.length+1) l.length 0 (by omega) (by omega)with⟨i,hm,hi⟩|⟨hm,hi⟩
  .rw[Ze5]at hm;refine⟨i,⟨λ_=>hm,λ_=>by omega⟩,?_⟩;rw[tV hc (l.length+1) (r:=(.int .i64 (i:Int),s)),aB (Plain.int _ _) (aX.refl s)];rw[vw];simp only[av,ln];rw[show(0:Int)=((0:Nat):Int)from rfl,hi];simp
  .rw[Ze5]at hm;refine⟨-1,⟨λh=>by omega,λh=>absurd h hm⟩,?_⟩;rw[tV hc (l.length+1) (r:=(.int .i64 (-1),s)),aB (Plain.int _ _) (aX.refl s)];rw[vw];simp only[av,ln];rw[show(0:Int)=((0:Nat):Int)from rfl,hi];simp
 obtain⟨i,hm,hi⟩:=ix;rw[show decide (x∈l)=decide (0<=i)from decide_eq_decide.2 hm.symm];rw[Bt hc 1 (r:=(.bool (decide (0<=i)),s)),aB (Plain.bool _) (aX.refl s)];rw[DC];simp[hi]
theorem apM{s:St}{v:AV}{l:List (List Nat)}(h:QS 1 s v (l.map qJ))(hl:l.length<=1000){g:FuncId}{u:AV}{Pd:List Nat->Bool}(H:∀w,c g [.str w,u] s=some (.bool (Pd w),s))(F:Nat):∀(m k:Nat),l.length<=k+m->k<=l.length->
  (∃i:Nat,∃hi:i<l.length,(Pd l[i]=true/\∀j (hj:j<l.length),k<=j->j<i->Pd l[j]=false)/\∀k1 k2,dQ c F k1 k2 (m+1) [v,.func g [] [u],.int .i64 (l.length:Int),.int .i64 (k:Int)] s=k1 [.int .i64 (i:Int)] s)\/
    (∀j (hj:j<l.length),k<=j->Pd l[j]=false)/\∀k1 k2,dQ c F k1 k2 (m+1) [v,.func g [] [u],.int .i64 (l.length:Int),.int .i64 (k:Int)] s=k2 [] s:=by
 intro m;induction m with
 |zero=>
  intro k h1 h2;obtain rfl:k=l.length:=by omega
  right;refine⟨λj hj h=>by omega,λk1 k2=> ?_⟩;rw[eM];simp
 |succ m ih=>
  intro k h1 h2;by_cases hk:k<l.length
  . obtain⟨b,o,cs,a1,a2,a3,a4⟩:=h.at (R:=AV×St) (c:=c) (Hl l) (by decide) (i:=k) (by simpa using hk);have g0:cs[o]? =some (.str l[k]):=(by simpa using a4 0 (.str l[k]) (by simp));have w:ax .i64 ((k:Int)+1)=((k+1:Nat):Int):=wrap64 (by omega) (by omega);have hb:=H l[k];cases hP:Pd l[k]with
    |   true=>
        rw[hP]at hb;left;refine⟨k,hk,⟨hP,λj _ h1 h2=>by omega⟩,λk1 k2=> ?_⟩;rw[eM];simp[hk,a1,a3,g0,fP,hb]
    |   false=>
        rw[hP]at hb;have low:∀j (hj:j<l.length),k<=j->(k+1<=j->Pd l[j]=false)->Pd l[j]=false:=λj hj h f=>by
          by_cases e:j=k
          .subst e;exact hP
          .exact f (by omega)
        rcases ih (k+1) (by omega) (by omega)with⟨i,tG,⟨OW,sy⟩,hi⟩|⟨sy,hi⟩
        .left;refine⟨i,tG,⟨OW,λj hj h1 h2=>low j hj h1 λh=>sy j hj h h2⟩,λk1 k2=> ?_⟩;rw[<-hi k1 k2,eM];simp[hk,a1,a3,g0,fP,hb,w]
        .right;refine⟨λj hj h=>low j hj h λh=>sy j hj h,λk1 k2=> ?_⟩;rw[<-hi k1 k2,eM];simp[hk,a1,a3,g0,fP,hb,w]
  .obtain rfl:k=l.length:=(by omega);right;refine⟨λj hj h=>by omega,λk1 k2=> ?_⟩;rw[eM];simp
theorem ank(hc:Sem c){s:St}{v:AV}{l:List (List Nat)}(h:QS 1 s v (l.map qJ))(hl:l.length<=1000){g:FuncId}{u:AV}{Pd:List Nat->Bool}(H:∀w,c g [.str w,u] s=some (.bool (Pd w),s)):
   (∃i:Nat,∃hi:i<l.length,(Pd l[i]=true/\∀j (hj:j<l.length),j<i->Pd l[j]=false)/\c 159 [v,.func g [] [u]] s=some (.int .i64 (i:Int),s))\/(∀j (hj:j<l.length),Pd l[j]=false)/\c 159 [v,.func g [] [u]] s=some (.int .i64 (-1),s):=by
 have ln:=λ(K:AV->St->Option (AV×St))(s1:St)=>h.lenB (c:=c) K s1
 simp only[Za4]at ln;rcases apM (c:=c) h hl H (l.length+1) l.length 0 (by omega) (by omega)with⟨i,tG,⟨OW,sy⟩,hi⟩|⟨sy,hi⟩
 .left;refine⟨i,tG,⟨OW,λj hj h=>sy j hj (Zi0 _) h⟩,?_⟩;rw[qm hc (l.length+1) (r:=(.int .i64 (i:Int),s)),aB (Plain.int _ _) (aX.refl s)];rw[rM];simp only[av,ln];rw[show(0:Int)=((0:Nat):Int)from rfl,hi];simp
 .right;refine⟨λj hj=>sy j hj (Zi0 _),?_⟩;rw[qm hc (l.length+1) (r:=(.int .i64 (-1),s)),aB (Plain.int _ _) (aX.refl s)];rw[rM];simp only[av,ln];rw[show(0:Int)=((0:Nat):Int)from rfl,hi];simp
structure Aside(s t:St)(v:AV):Prop where
 wf:Wf t
 next:t.next=s.next
 keep:∀p x,aL v≠some p->s.heap.get p=some x->t.heap.get p=some x
def RV(Pd:List Nat->Bool)(l:List (List Nat)):Nat:=(l.filter λw=> !Pd w).length
theorem avN(Pd:List Nat->Bool)(l:List (List Nat)):RV Pd l<=l.length:=Zk1 _ _
theorem acy{Pd:List Nat->Bool}{l:List (List Nat)}{j:Nat}(h:j<l.length):RV Pd (l.take (j+1))=RV Pd (l.take j)+if Pd l[j]then 0 else 1:=by
 unfold RV;rw[Zc9 h,Zk3,Zd6];cases h2:Pd l[j]<;>simp[h2]
theorem afj{Pd:List Nat->Bool}{l:List (List Nat)}:∀(i:Nat),i<=l.length->(∀j (hj:j<l.length),j<i->Pd l[j]=false)->RV Pd (l.take i)=i
 |0,_,_=>by simp[RV]
 |i+1,h,hp=>by rw[acy (by omega),afj i (by omega) λj hj h=>hp j hj (by omega),hp i (by omega) (by omega)];rfl
theorem asq{s:St}{v:AV}{n:Nat}(hn:n<=1000){g:FuncId}{u:AV}{Pd:List Nat->Bool}(H:∀t,Aside s t v->∀w,c g [.str w,u] t=some (.bool (Pd w),t)){l0:List (List Nat)}(hl0:l0.length=n)(F:Nat):∀(m j i f:Nat)(t:St)(l:List (List Nat)),m<f->j+m=n->i<j->QS 1 t v (l.map qJ)->l.length=n->Aside s t v->l.drop j=l0.drop j->i=RV Pd (l0.take j)->
  ∃(i':Nat) (t':St) (l':List (List Nat)),i'=RV Pd l0/\QS 1 t' v (l'.map qJ)/\l'.length=n/\Aside s t' v/\∀k2,fe c F k2 f [v,.func g [] [u],.int .i64 (i:Int),.int .i64 (j:Int)] t=k2 [v,.int .i64 (i':Int)] t':=by
 intro m;induction m with
 |zero=>
  intro j i f t l hf hj hi h hl A hd tJ;obtain⟨f,rfl⟩:∃g,f=g+1:=⟨f - 1,by omega⟩
  obtain rfl:j=n:=by omega
  rw[Zf1 (by omega)]at tJ;refine⟨i,t,l,tJ,h,hl,A,λk2=> ?_⟩;have ln:=λ(K:AV->St->Option (AV×St))(s1:St)=>h.lenB (c:=c) K s1
  simp only[Za4,hl]at ln;rw[jS];simp[ln]
 |succ m ih=>
  intro j i f t l hf hj hi h hl A hd tJ;obtain⟨f,rfl⟩:∃g,f=g+1:=⟨f - 1,by omega⟩
  have hk:j<l.length:=by omega
  have hjn:j<n:=by omega
  have ln:=λ(K:AV->St->Option (AV×St))(s1:St)=>h.lenB (c:=c) K s1
  simp only[Za4,hl]at ln;obtain⟨b,o,cs,a1,a2,a3,a4⟩:=h.at (R:=AV×St) (c:=c) (Hl l) (by decide) (i:=j) (by simpa using hk);have g0:cs[o]? =some (.str l[j]):=by simpa using a4 0 (.str l[j]) (by simp)
  have w:ax .i64 ((j:Int)+1)=((j+1:Nat):Int):=wrap64 (by omega) (by omega);have w2:ax .i64 ((i:Int)+1)=((i+1:Nat):Int):=wrap64 (by omega) (by omega);have hb:=H t A l[j];have hj0:j<l0.length:=by omega
  have ej:l[j]=l0[j]:=by have:=congrArg (λq=>q[0]?) hd;simp only[Ze7,Zf7,H0 hk,H0 hj0,H5]at this;exact this
  have ed:l.drop (j+1)=l0.drop (j+1):=by have:=congrArg (λq=>q.drop 1) hd;simpa only[Zl3]using this
  have kt:=acy (Pd:=Pd) hj0;rw[<-ej]at kt;cases hP:Pd l[j]with
  |true=>
   rw[hP]at hb kt;obtain⟨i',t',l',b1,b2,b3,b4,b5⟩:=ih (j+1) i f t l (by omega) (by omega) (by omega) h hl A ed (by rw[kt,tJ];rfl);refine⟨i',t',l',b1,b2,b3,b4,λk2=> ?_⟩;rw[<-b5 k2,jS];simp[jK,ln,hjn,a1,a3,g0,fP,hb,w]
  |false=>
   (rw[hP]at hb kt;obtain⟨b',o',mZ,e1,_,e3,e4,e5,e6,e7,_⟩:=h.set (R:=AV×St) (c:=c) (Hl l) (by decide) (i:=i) (by simp;omega);have bE:=λ(K:AV->St->Option (AV×St))=>cm c K t 1 b' o' (.str l[j]) mZ e4 rfl e5 rfl);have hs:=bH t b' (.cells (aU mZ o' [.str l[j]]) 0);have Q:=e7 0 (.str l[j]) (bh t b' (.cells (aU mZ o' [.str l[j]]) 0)) (by decide) (by rw[Zf7];exact hs);have er:(l.map qJ).set i (((l.map qJ)[i]'(by simp;omega)).set 0 (.str l[j]))=(l.set i l[j]).map qJ:=(by rw[Zq3];simp);rw[er]at Q;have A2:Aside s (bh t b' (.cells (aU mZ o' [.str l[j]]) 0)) v:=⟨iU A.wf (A.wf _ _ e4),by rw[dM];exact A.next,λp x hp hx=>by rw[aJ (λe=>hp (by rw[e3,e]))];exact A.keep p x hp hx⟩
   obtain⟨i',t',l',b1,b2,b3,b4,b5⟩:=ih (j+1) (i+1) f _ _ (by omega) (by omega) (by omega) Q (by simpa using hl) A2 (by rw[Zp8 (by omega)];exact ed) (by rw[kt,tJ];rfl);refine⟨i',t',l',b1,b2,b3,b4,λk2=> ?_⟩;rw[<-b5 k2,jS];have ce:(AV.str l[j]).cells=[.str l[j]]:=rfl;rw[ce]at bE;simp[jK,ln,hjn,a1,a3,g0,fP,hb,e1,bE,w,w2]
theorem apN(hc:Sem c){s:St}{v:AV}{l:List (List Nat)}(h:QS 1 s v (l.map qJ))(hl:l.length<=1000)(hw:Wf s){g:FuncId}{u:AV}{Pd:List Nat->Bool}(H:∀t,Aside s t v->∀w,c g [.str w,u] t=some (.bool (Pd w),t)):
   ∃(w:AV) (s':St),c 108 [v,.func g [] [u]] s=some (w,s')/\Aside s s' v/\∀{R:Type}(c:aj)(K:AV->St->Option R)(s1:St),aq c (.lenB .l) [w] s1 K=K (.int .i64 (RV Pd l:Int)) s1:=by
 have A:Aside s s v:=⟨hw,rfl,λ_ _ _ h=>h⟩
 rcases ank hc h hl (H s A)with⟨i,hi,⟨OW,sy⟩,hx⟩|⟨sy,hx⟩
 . obtain⟨i',t',l',b1,b2,b3,b4,b5⟩:=asq (c:=c) (n:=l.length) hl H (l0:=l) rfl (l.length+1) (l.length - (i+1)) (i+1) i (l.length+1) s l (by omega) (by omega) (by omega) h rfl A rfl (by rw[acy hi,afj i (by omega) sy,OW];rfl);have QV:=avN Pd l;rw[<-b1]at QV;obtain⟨v1,d1,d2,d3⟩:=b2.low (Hl l') (i:=i') (by simp;omega);obtain⟨v2,f1,f2⟩:=b2.high (i:=i') (by simp;omega);obtain⟨s6,g1,g2,g3,g4⟩:=d2.clear (z:=[.str []]) b4.wf rfl (λn=>by rw[D7];induction n with|zero=>rfl|succ n ih=>rw[Zn0];simp[aQ,AV.one,ih]);have w:ax .i64 ((i:Int)+1)=((i+1:Nat):Int):=wrap64 (by omega) (by omega);have A6:Aside s s6 v:=⟨g2,by rw[g3,b4.next],λp x hp hx=>g4 p x (λe=>hp (d3 p e)) (b4.keep p x hp hx)⟩
   have run:=pS hc (l.length+1) (x0:=v) (x1:= .func g [] [u]) (s:=s) (r:=(v2,s6)) (by
     rw[qO];simp only[av,bX,hx,bM,eG,fD,w];have:decide ((i:Int)= -1)=false:=Za1 (by omega);rw[this,cV,b5];simp[d1,g1,f1])
   rcases Z9 s (v2,s6)with e|e
   .exact⟨v2,s6,by rw[run,e],A6,by rw[<-b1];exact f2⟩
   .exact⟨v2,s,by rw[run,e],A,by rw[<-b1];exact f2⟩
 . have kl:=afj (Pd:=Pd) (l:=l) l.length (Za3 _) (λj hj _=>sy j hj);rw[Zh9]at kl;have run:=pS hc 1 (x0:=v) (x1:= .func g [] [u]) (s:=s) (r:=(v,s)) (by
     rw[qO];simp[hx])
   have ln:=λ{R:Type}(c:aj)(K:AV->St->Option R)(s1:St)=>h.lenB (c:=c) K s1
   simp only[Za4]at ln;rcases Z9 s (v,s)with e|e
   .exact⟨v,s,by rw[run,e],A,λc K s1=>by rw[kl];exact ln c K s1⟩
   .exact⟨v,s,by rw[run,e],A,λc K s1=>by rw[kl];exact ln c K s1⟩
def ntL(gs:List aN):List (List Nat×List (List Nat)):=gs.map λg=>(g.name,g.tg)
def anl(L:List (List Nat×List (List Nat)))(a b:List Nat):Nat:=match L.find? (λg=>decide (g.1=a)),L.find? (λg=>decide (g.1=b))with
 |some g,some h=>RV (λw=> !decide (w∈h.2)) g.2
 |_,_=>0
theorem ajE(gs:List aN)(a:List Nat):(ntL gs).find? (λg=>decide (g.1=a))=(Vk gs a).map λg=>(g.name,g.tg):=by unfold ntL Vk;rw[List.find?_map];rfl
theorem apO(hc:Sem c){s0 s:St}{bp mp:Pos}{gs:List aN}{ts:List Ty}{gk tk:Option Pos}(B:eH s0 s bp mp gs ts gk tk)(a b:List Nat):
   ∃(w:AV) (s':St),c 54 [.ptr bp 0,.str a,.str b] s=some (w,s')/\Grew s s'/\∀{R:Type}(c:aj)(K:AV->St->Option R)(s1:St),aq c (.lenB .l) [w] s1 K=K (.int .i64 (anl (ntL gs) a b:Int)) s1:=by
 have hw:=B.wf;unfold anl;rw[ajE,ajE];obtain⟨v1,s1,f1,M1,l1⟩:=ajC hc B a;generalize hg1:Vk gs a=G1 at*
 generalize xC:Vk gs b=G2' at*
 obtain⟨g1,asr⟩:∃g1,g1=G1.getD uG:=⟨_,rfl⟩
 obtain⟨g2,ass⟩:∃g2,g2=G2'.getD uG:=⟨_,rfl⟩
 obtain⟨ok1,ho1⟩:∃ok1,ok1=G1.isSome:=⟨_,rfl⟩
 obtain⟨ok2,Mj⟩:∃ok2,ok2=G2'.isSome:=⟨_,rfl⟩
 rw[<-asr, <-ho1]at f1;rw[<-asr]at M1 l1;have w1:=M1.ai.wf;have G2:Grew s1 (ah s1 (.cells (g1.ay v1) 0)):=Grew.ah w1 _;obtain⟨v2,s3,f2,M2,l2⟩:=ajC hc (B.ai (M1.ai.trans G2)) b;rw[xC, <-ass, <-Mj]at f2;rw[xC, <-ass]at M2 l2;have w3:=M2.ai.wf;have G4:Grew s3 (ah s3 (.cells (g2.ay v2) 0)):=Grew.ah w3 _;have Ga:Grew s (ah s3 (.cells (g2.ay v2) 0)):=((M1.ai.trans G2).trans M2.ai).trans G4;have one1:=g1.MG M1.cells.2;have one2:=g2.MG M2.cells.2;have al:∀(g:aN)(v:AV)(t:St)(K:AV->St->Option (AV×St)),aQ (g.ay v)=true->aq c (.alloc [(.str []),(.str []),(.str []),(.int .i64 0),(.int .i64 0),(.str []),(.bool false),(.bool false),.af]) [] t (λx7 s7=>aq c (.store 9) [x7,.agg (g.ay v)] s7 (λ_ s8=>K x7 s8))=K (.ptr t.next 0) (ah t (.cells (g.ay v) 0)):=λg v t K ho=>by rw[cL];exact cr c (λ_ s8=>K (.ptr t.next 0) s8) t 9 (.agg (g.ay v)) _ rfl rfl ho
 have al1:=λK=>al g1 v1 s1 K one1
 have al2:=λK=>al g2 v2 s3 K one2
 have pre:∀r,(cnd (.bool (!ok1|| !ok2)) (some (.af,ah s3 (.cells (g2.ay v2) 0))) (aq c (.fieldA 8) [.ptr s1.next 0] (ah s3 (.cells (g2.ay v2) 0)) λx29 s26=>aq c (.load none) [x29] s26 λx30 s27=>aq c (.mkFunc 109 0) [.ptr s3.next 0] s27 λx31 s28=>aq c (.callF 108) [x30,x31] s28 λx32 s29=>aq c .move [x32] s29 λx6 s30=>some (x6,s30))=some r)->
     uN c 1 (.ptr bp 0) (.str a) (.str b) s=some r:=λr h=>by
   rw[WO, <-h];simp only[av,bX,f1,bM,fS,Za5,Zb4,aR,al1,f2,al2];cases ok1<;>cases ok2<;>simp
 by_cases cH:(!ok1|| !ok2)=true
 . have cz:(match G1.map (λg=>(g.name,g.tg)),G2'.map (λg=>(g.name,g.tg))with|some g,some h=>RV (λw=> !decide (w∈h.2)) g.2|_,_=>0)=0:=(by rw[ho1,Mj]at cH;cases G1<;>cases G2'<;>first|rfl|simp at cH);have run:=Dl hc 1 (x0:= .ptr bp 0) (x1:= .str a) (x2:= .str b) (s:=s) (r:=(.af,ah s3 (.cells (g2.ay v2) 0))) (pre _ (by rw[cH,dH]));rcases Z9 s (AV.af,ah s3 (.cells (g2.ay v2) 0))with e|e
   .exact⟨.af,_,by rw[run,e],Ga,λc K s1=>by rw[cz];exact aV c K (λH n=>rfl) s1⟩
   .exact⟨.af,_,by rw[run,e],Grew.refl hw,λc K s1=>by rw[cz];exact aV c K (λH n=>rfl) s1⟩
 . have cH:(!ok1|| !ok2)=false:=(by simpa using cH);have Q1:QS 1 (ah s3 (.cells (g2.ay v2) 0)) v1 (g1.tg.map qJ):=M1.own.mono λp x _ hx=>((G2.trans M2.ai).trans G4).get hx
   have lt1:∀p,aL v1=some p->p.toNat<s1.next.toNat:=λp hp=>M1.own.lt w1 hp
   have n3:s1.next.toNat<s3.next.toNat:=(by have:=M2.ai.next;rw[bP,Pos.aF]at this;omega);have hq:(ah s3 (.cells (g2.ay v2) 0)).heap.get s3.next=some (.cells (g2.ay v2) 0):=aA _ _;have hq1:(ah s3 (.cells (g2.ay v2) 0)).heap.get s1.next=some (.cells (g1.ay v1) 0):=(M2.ai.trans G4).get (aA _ _);have cz:(match G1.map (λg=>(g.name,g.tg)),G2'.map (λg=>(g.name,g.tg))with|some g,some h=>RV (λw=> !decide (w∈h.2)) g.2|_,_=>0)=RV (λw=> !decide (w∈g2.tg)) g1.tg:=by
     rw[ho1,Mj]at cH;cases G1 with
     |none=>simp at cH
     |  some x=>cases G2' with
        |none=>simp at cH
        |some y=>rw[asr,ass];rfl
   rw[cz];have H:∀t,Aside (ah s3 (.cells (g2.ay v2) 0)) t v1->∀w,c 109 [.str w,.ptr s3.next 0] t=some (.bool (!decide (w∈g2.tg)),t):=λt A w=>by
     have hq':=A.keep s3.next _ (λe=>by have:=lt1 _ e;omega) hq;have Q2:QS 1 t v2 (g2.tg.map qJ):=M2.own.mono λp x hp hx=>A.keep p x (λe=>by have:=lt1 _ e;have:=M2.new p hp;rw[bP,Pos.aF]at this;omega) (G4.get hx)
     have hb:=ajD hc Q2 (by omega) w;generalize decide (w∈g2.tg)=bb at*
     rw[Oa hc 1 (r:=(.bool (!bb),t)),aB (Plain.bool _) (aX.refl t)];rw[RW];have g8:(g2.ay v2)[8]? =some v2:=rfl;simp[hq',g8,hb]
   obtain⟨w,s5,d1,d2,d3⟩:=apN hc Q1 (by omega) (bG w3) H;have g8:(g1.ay v1)[8]? =some v1:=rfl;have run:=Dl hc 1 (x0:= .ptr bp 0) (x1:= .str a) (x2:= .str b) (s:=s) (r:=(w,s5)) (pre _ (by
     rw[cH,cV];simp[hq1,g8,d1]))
   have G5:Grew s s5:=⟨d2.wf,λp x hx=>d2.keep p x (λe=>by have:=M1.new p e;have:=hw _ _ hx;omega) (Ga.get hx),by rw[d2.next];exact Ga.next⟩
   rcases Z9 s (w,s5)with e|e
   .exact⟨w,s5,by rw[run,e],G5,d3⟩
   .exact⟨w,s,by rw[run,e],Grew.refl hw,d3⟩
def YM(I:List (AV×List (List AV)))(ws:List AV)(rs:List (List Int)):Prop:=∀(i:Nat)(w:AV)(r:List Int),ws[i]? =some w->rs[i]? =some r->(w,r.map bC)∈I
theorem YM.more{I:List (AV×List (List AV))}{ws:List AV}{rs:List (List Int)}(h:YM I ws rs)(e:AV×List (List AV)):YM (e::I) ws rs:=λi w r h1 h2=>Zb0 _ (h i w r h1 h2)
theorem YM.snoc{I:List (AV×List (List AV))}{ws:List AV}{rs:List (List Int)}(h:YM I ws rs)(hl:ws.length=rs.length){w:AV}{r:List Int}(hm:(w,r.map bC)∈I):YM I (ws++[w]) (rs++[r]):=λi w' r' h1 h2=>by
 by_cases hi:i<ws.length
 .rw[Zc5 hi]at h1;rw[Zc5 (by omega)]at h2;exact h i w' r' h1 h2
 . rw[Zc4 (by omega)]at h1;rw[Zc4 (by omega)]at h2;by_cases h0:i - ws.length=0
   .rw[h0]at h1;rw[show i - rs.length=0 by omega]at h2;simp at h1 h2;subst h1;subst h2;exact hm
   .rw[Zc3 (by simp;omega)]at h1;cases h1
theorem XS(t:aE):0<=bJ t:=by
 unfold bJ;repeat' split
 all_goals omega
def cM:List aE->Nat->Nat
 |[],_=>0
 |t::ts,i=>if i<(bJ t).toNat then 0 else cM ts (i - (bJ t).toNat)+1
def aaa(ts:List aE)(i:Nat):Nat:=(bf (ts.take (cM ts i))).toNat
def PO(ts:List aE)(i:Nat):Nat:=match ts[cM ts i]? with
 |some t=>(bJ t).toNat
 |none=>0
def rD(ts:List aE)(i:Nat):List Int:=mF (aaa ts i) (PO ts i) (YF ts (i:Int))
def AL(ts:List aE)(i:Nat):List Int:=mF (aaa ts i) (PO ts i) (YG ts (i:Int))
theorem ajF:∀(ts:List aE)(k:Nat)(hk:k<ts.length)(i:Nat),(i:Int)<bJ ts[k]->cM ts ((bf (ts.take k)).toNat+i)=k
 |t::ts,0,_,i,h=>by
  have h:(i:Int)<bJ t:=h;rw[show(bf ((t::ts).take 0)).toNat=0 from rfl,cM,Zb6 (by omega)]
 |t::ts,k+1,hk,i,h=>by
  have hk:k<ts.length:=by simpa using hk
  have ih:=ajF ts k hk i h;have n1:0<=bJ t:=(XS t)
  have n2:=(rE (ts.take k)).1;have e:bf ((t::ts).take (k+1))=bJ t+bf (ts.take k):=by simp[bf]
  rw[e,cM,Za7 (by omega),show(bJ t+bf (ts.take k)).toNat+i - (bJ t).toNat=(bf (ts.take k)).toNat+i by omega,ih]
theorem ast{ts:List aE}{k:Nat}(hk:k<ts.length){first i:Nat}(hf:(first:Int)=bf (ts.take k))(hi:(i:Int)<bJ ts[k]):cM ts (first+i)=k/\aaa ts (first+i)=first/\(PO ts (first+i):Int)=bJ ts[k]:=by have e:=ajF ts k hk i hi;rw[show(bf (ts.take k)).toNat=first by omega]at e;refine⟨e,by unfold aaa;rw[e];omega,?_⟩;unfold PO;rw[e,H0 hk];have:=XS ts[k];simp only;omega
def BU(ts:List aE)(m:Nat):List AV:=(List.range m).map λi=>AV.int .i64 ((cM ts i:Nat):Int)
def BV(ts:List aE)(m:Nat):List AV:=(List.range m).map λi=>AV.int .i64 (JB ts ((i:Nat):Int))
def BW(ts:List aE)(m:Nat):List AV:=(List.range m).map λi=>AV.bool (PN ts ((i:Nat):Int))
def yH(ts:List aE)(m:Nat):List (List Int):=(List.range m).map (rD ts)
def yI(ts:List aE)(m:Nat):List (List Int):=(List.range m).map (AL ts)
structure SW(ts:List aE)(s0 s:St)(jb:Pos)(H Ls:List AV)(R:List (List AV))(I:List (AV×List (List AV)))(m:Nat):Prop where
 ow:Ow s0 s jb Ls R I
 cell:s.heap.get jb=some (.cells (H++Ls) 0)
 shp:∃L0 L1 L2 L3 L4 wB wA,Ls=[L0,L1,L2,L3,L4,.af,.af,.af]/\R=[BU ts m,BV ts m,BW ts m,wB,wA,[],[],[]]/\wB.length=m/\wA.length=m/\YM I wB (yH ts m)/\YM I wA (yI ts m)
abbrev Bd(N:Nat)(r:List Int):Prop:=r.length<=1000/\∀k∈r,0<=k/\k<(N:Int)
theorem agf{first n N:Nat}(hn:n<=1000)(hN:first+n<=N)(so:Int->Bool):Bd N (mF first n so):=by refine⟨Zb2 (Lw _ _ _) hn,λk hk=> ?_⟩;unfold mF at hk;simp only[Zk9,Zc7,Zg5]at hk;obtain⟨⟨i,hi,rfl⟩,_⟩:=hk;omega
theorem RX{H Ls:List AV}(hH:H.length=6)(i:Nat):(H++Ls)[6+i]? =Ls[i]? :=by rw[Zc4 (by omega)];congr 1;omega
theorem atj{a b k:Nat}(h:a+b=k)(hk:k<=1000000):ax .i64 ((a:Int)+(b:Int))=(k:Int):=by rw[wrap64 (by omega) (by omega)];omega
theorem ad0{a k:Nat}(h:a+1=k)(hk:k<=1000000):ax .i64 ((a:Int)+1)=(k:Int):=by rw[wrap64 (by omega) (by omega)];omega
theorem TX(ts:List aE)(m:Nat):(BU ts m).length=m/\(BV ts m).length=m/\(BW ts m).length=m:=by simp[BU,BV,BW]
theorem OJ(ts:List aE)(m:Nat):(yH ts m).length=m/\(yI ts m).length=m:=by simp[yH,yI]
theorem anm(ts:List aE)(m:Nat):BU ts (m+1)=BU ts m++[AV.int .i64 ((cM ts m:Nat):Int)]:=by simp[BU,Zg4]
theorem ann(ts:List aE)(m:Nat):BV ts (m+1)=BV ts m++[AV.int .i64 (JB ts ((m:Nat):Int))]:=by simp[BV,Zg4]
theorem ano(ts:List aE)(m:Nat):BW ts (m+1)=BW ts m++[AV.bool (PN ts ((m:Nat):Int))]:=by simp[BW,Zg4]
theorem anp(ts:List aE)(m:Nat):yH ts (m+1)=yH ts m++[rD ts m]:=by simp[yH,Zg4]
theorem anq(ts:List aE)(m:Nat):yI ts (m+1)=yI ts m++[AL ts m]:=by simp[yI,Zg4]
theorem avO(hc:Sem c)(p:bS)(cH:∀t∈p.ts,t.Ok){pb jb:Pos}{H:List AV}(hH:H.length=6){s0:St}(Yk:s0.heap.get pb=some (.cells p.cells 0))(OX:pb≠jb){first n N k:Nat}(hk:k<p.ts.length)(hfi:(first:Int)=bf (p.ts.take k))(gw:(n:Int)=bJ p.ts[k])(hN:first+n<=N)(hN2:N<=10000)(hn:n<=1000)(F:Nat):
  ∀(m i f:Nat)(s:St)(Ls:List AV)(R:List (List AV))(I:List (AV×List (List AV)))(sb:Pos),m<f->i+m=n->SW p.ts s0 s jb H Ls R I (first+i)->
   s.heap.get sb=some (.cells [.int .i64 ((first+i:Nat):Int)] 0)->sb≠jb->(∀L∈Ls,aL L≠some sb)->
   ∃    s' Ls' R' I',SW p.ts s0 s' jb H Ls' R' I' (first+n)/\
        ∀(x40 RU:AV)(k4),xT c F k4 f [.ptr pb 0,.ptr jb 0,.int .i64 (k:Int),.int .i64 (first:Int),.int .i64 (n:Int),.ptr sb 0,x40,RU] s=k4 [.ptr pb 0,.ptr jb 0,x40,RU] s':=by
 intro m;induction m with
 |zero=>
  intro i f s Ls R I sb hf hi hS anr hsj afk;obtain⟨f,rfl⟩:∃g,f=g+1:=⟨f - 1,by omega⟩
  obtain rfl:i=n:=by omega
  refine⟨s,Ls,R,I,hS,λx40 RU k4=> ?_⟩;have w:ax .i64 ((first:Int)+(i:Int))=((first+i:Nat):Int):=atj rfl (by omega);rw[Vl];simp[anr,w]
 |succ m ih=>
  intro i f s Ls R I sb hf hi hS anr hsj afk;obtain⟨f,rfl⟩:∃g,f=g+1:=⟨f - 1,by omega⟩
  obtain⟨L0,L1,L2,L3,L4,wB,wA,rfl,rfl,e3,e4,PB,PA⟩:=hS.shp;obtain⟨T1,T2,T3⟩:=ast hk hfi (i:=i) (by omega);have T3:PO p.ts (first+i)=n:=by omega
  have LT:=TX p.ts (first+i);have eB:rD p.ts (first+i)=mF first n (YF p.ts ((first+i:Nat):Int)):=by unfold rD;rw[T2,T3]
  have eA:AL p.ts (first+i)=mF first n (YG p.ts ((first+i:Nat):Int)):=by unfold AL;rw[T2,T3]
  have aW:(((first+i:Nat):Int))<((first+n:Nat):Int):=by omega
  have ha:((first+i:Nat):Int)<=4611686018427387904:=by omega
  obtain⟨t1,s1,V0,a1,a2,O1,C1,K1⟩:=hS.ow.put hS.cell (c:=c) (Q:=AV×St) 8 (i:=0) (L:=L0) (r:=BU p.ts (first+i)) rfl rfl (x:= .int .i64 (k:Int)) rfl rfl (by omega) (by omega) (o:=6) (by omega);obtain⟨b1,F1⟩:=K1 sb _ hsj afk anr;have g1:(H++[L0,L1,L2,L3,L4,.af,.af,.af])[6]? =some L0:=RX hH 0;have q1:=O1.keep pb _ OX Yk;have lv:=ash hc p.tz p.ts cH _ ha s1 O1.wf;obtain⟨t2,s2,V1,c1,c2,O2,C2,K2⟩:=O1.put C1 (c:=c) (Q:=AV×St) 8 (i:=1) (L:=L1) (r:=BV p.ts (first+i)) rfl rfl (x:= .int .i64 (JB p.ts ((first+i:Nat):Int))) rfl rfl (by omega) (by omega) (o:=7) (by omega);obtain⟨b2,F2⟩:=K2 sb _ hsj F1 b1;have n1:=λ(K:AV->Option (AV×St))=>lQ K (p:=jb) (o:=7) (h:=s1.heap) (h2:=s1.heap) (v:=L1) (by rw[C1];exact RX hH 1) (by rw[C1];exact RX hH 1) (O1.own 1 L1 _ rfl rfl).beq
  have q2:=O2.keep pb _ OX Yk;have op:=auC hc p.tz p.ts cH _ ha s2 O2.wf;obtain⟨t3,s3,V2,d1,d2,O3,C3,K3⟩:=O2.put C2 (c:=c) (Q:=AV×St) 1 (i:=2) (L:=L2) (r:=BW p.ts (first+i)) rfl rfl (x:= .bool (PN p.ts ((first+i:Nat):Int))) rfl rfl (by omega) (by omega) (o:=8) (by omega);obtain⟨b3,F3⟩:=K3 sb _ hsj F2 b2;have n2:=λ(K:AV->Option (AV×St))=>lQ K (p:=jb) (o:=8) (h:=s2.heap) (h2:=s2.heap) (v:=L2) (by rw[C2];exact RX hH 2) (by rw[C2];exact RX hH 2) (O2.own 2 L2 _ rfl rfl).beq
  have q3:=O3.keep pb _ OX Yk;obtain⟨v4,u4,h4,M4⟩:=apF hc p.tz p.ts cH (pb:=pb) (sb:=sb) (cs:=p.cells) rfl ((first+i:Nat):Int) (by omega) (first:=(first:Int)) (by omega) (n:=n) (by omega) s3 O3.wf q3 b3;have O4':=O3.more M4;have C4':=M4.ai.get C3;have b4':=M4.ai.get b3;obtain⟨vc4,vo4⟩:=M4.own.cells;obtain⟨t4,s4,V3,f1,f2,O4,C4,K4⟩:=O4'.put C4' (c:=c) (Q:=AV×St) 24 (i:=3) (L:=L3) (r:=wB) rfl rfl (x:=v4) vc4 vo4 (by omega) (by omega) (o:=9) (by omega);obtain⟨b4,F4⟩:=K4 sb _ hsj F3 b4';have n3:=λ(K:AV->Option (AV×St))=>lQ K (p:=jb) (o:=9) (h:=u4.heap) (h2:=s3.heap) (v:=L3) (by rw[C4'];exact RX hH 3) (by rw[C3];exact RX hH 3) (O3.own 3 L3 wB rfl rfl).beq
  have q4:=O4.keep pb _ OX Yk;obtain⟨v5,u5,h5,M5⟩:=apG hc p.tz p.ts cH (pb:=pb) (sb:=sb) (cs:=p.cells) rfl ((first+i:Nat):Int) (by omega) (first:=(first:Int)) (by omega) (n:=n) (by omega) s4 O4.wf q4 b4;have O5':=O4.more M5;have C5':=M5.ai.get C4;have b5':=M5.ai.get b4;obtain⟨vc5,vo5⟩:=M5.own.cells;obtain⟨t5,s5,V4,g1',g2',O5,C5,K5⟩:=O5'.put C5' (c:=c) (Q:=AV×St) 24 (i:=4) (L:=L4) (r:=wA) rfl rfl (x:=v5) vc5 vo5 (by omega) (by omega) (o:=10) (by omega);obtain⟨b5,F5⟩:=K5 sb _ hsj F4 b5';have n4:=λ(K:AV->Option (AV×St))=>lQ K (p:=jb) (o:=10) (h:=u5.heap) (h2:=s4.heap) (v:=L4) (by rw[C5'];exact RX hH 4) (by rw[C4];exact RX hH 4) (O4.own 4 L4 wA rfl rfl).beq
  have hw5:=O5.wf;have G6:Grew s5 (ah s5 (.cells [.int .i64 ((first+(i+1):Nat):Int)] 0)):=Grew.ah hw5 _;have O6:=O5.ai G6;have C6:=G6.get C5;have lB:=OJ p.ts (first+i);have PB':=((PB.more (v4,(rD p.ts (first+i)).map bC)).snoc (by rw[lB.1];exact e3) (w:=v4) (Ze2)).more (v5,(AL p.ts (first+i)).map bC);have PA':=((PA.more (v4,(rD p.ts (first+i)).map bC)).more (v5,(AL p.ts (first+i)).map bC)).snoc (by rw[lB.2];exact e4) (w:=v5) (Ze2);rw[<-anp]at PB';rw[<-anq]at PA';rw[eB,eA]at PB' PA'
  obtain⟨s',Ls',R',I',z1,z5⟩:=ih (i+1) f _ _ _ _ s5.next (by omega) (by omega) ⟨O6,C6,V0,V1,V2,V3,V4,_,_,rfl,by rw[show first+(i+1)=(first+i)+1 from rfl,anm,ann,ano,T1];rfl,by simp[e3];omega,by simp[e4];omega,PB',PA'⟩
   (aA _ _) (λe=>by have:=hw5 _ _ C5;rw[<-e]at this;omega) (λL hL e=>by have:=O5.ltL hL e;omega)
  refine⟨s',Ls',R',I',z1,λx40 RU k4=> ?_⟩;rw[<-z5 x40 RU k4,Vl];have w:ax .i64 ((first:Int)+(n:Int))=((first+n:Nat):Int):=atj rfl (by omega);have w1:ax .i64 (((first+i:Nat):Int)+1)=((first+(i+1):Nat):Int):=ad0 rfl (by clear w;omega);have r1x:=λ(K:AV->St->Option (AV×St))=>GW (c:=c) (z:=[.int .i64 0]) (x:= .int .i64 (k:Int)) rfl rfl s K
  have r2x:=λ(K:AV->AB->Option (AV×St))=>GV (z:=[.int .i64 0]) (x:= .int .i64 (JB p.ts ((first+i:Nat):Int))) rfl rfl s1 K
  have r3x:=λ(K:AV->AB->Option (AV×St))=>GV (z:=[.bool false]) (x:= .bool (PN p.ts ((first+i:Nat):Int))) rfl rfl s2 K
  have r4x:=λ(K:AV->AB->Option (AV×St))=>GV (z:=[.af]) (x:=v4) rfl vc4 u4 K
  have r5x:=λ(K:AV->AB->Option (AV×St))=>GV (z:=[.af]) (x:=v5) rfl vc5 u5 K
  have st7:∀(K:AV->St->Option (AV×St)),aq c (.store 1) [.ptr s5.next 0,.int .i64 ((first+i:Nat):Int)] (ah s5 (.cells [.int .i64 0] 0)) K=K .undef (ah s5 (.cells [.int .i64 ((first+i:Nat):Int)] 0)):=λK=>cr c K s5 1 (.int .i64 ((first+i:Nat):Int)) [.int .i64 0] rfl rfl rfl
  have st8:∀(K:AV->St->Option (AV×St)),aq c (.store 1) [.ptr s5.next 0,.int .i64 ((first+(i+1):Nat):Int)] (ah s5 (.cells [.int .i64 ((first+i:Nat):Int)] 0)) K=K .undef (ah s5 (.cells [.int .i64 ((first+(i+1):Nat):Int)] 0)):=λK=>cr c K s5 1 (.int .i64 ((first+(i+1):Nat):Int)) [.int .i64 ((first+i:Nat):Int)] rfl rfl rfl
  simp only[aH,bg,aT,anr,aD,Za9,Za5,aR,av,fD,w,cG,Za0 aW,dH,cw,aS,Zb8,hS.cell,g1,r1x,a1,a2,
   bt,ju,q1,b1,bS.c0,bX,lv,bM,cX,oO,Zj4,n1,r2x,c1,c2,
   q2,b2,op,n2,r3x,d1,d2,PG,h4,n3,r4x,f1,f2,h5,n4,r5x,g1',g2',b5,cL,st7,aA,w1,st8]
theorem XP(t:aE):0<=bJ t/\bJ t<=24:=by
 unfold bJ;repeat' split
 all_goals omega
theorem ajG(ts:List aE):bf ts<=24*ts.length:=by
 induction ts with
 |nil=>simp[bf]
 |cons t ts ih=>
  have:=XP t;simp only[bf,Zd1,Zn2,Zc6]at ih ⊢;omega
theorem apP(a b:List aE):bf (a++b)=bf a+bf b:=by simp[bf]
theorem T9{ts:List aE}{k:Nat}(hk:k<ts.length):bf (ts.take (k+1))=bf (ts.take k)+bJ ts[k]/\bf (ts.take (k+1))<=bf ts:=by have e:=Zc9 hk;refine⟨by rw[e,Uk],?_⟩;have h:=apP (ts.take (k+1)) (ts.drop (k+1));rw[Zm1]at h;have:=(rE (ts.drop (k+1))).1;omega
theorem ajH:∀{ts:List aE}{i:Nat},(i:Int)<bf ts->cM ts i<ts.length
 |[],i,h=>by simp[bf]at h;omega
 |t ::ts,i,h=>by
  have e:bf (t::ts)=bJ t+bf ts:=by simp[bf]
  have:=XS t;unfold cM;split
  .simp
  .have:=ajH (ts:=ts) (i:=i - (bJ t).toNat) (by omega);simp;omega
theorem apQ{ts:List aE}{N:Nat}(hN:(N:Int)=bf ts){i:Nat}(hi:i<N):aaa ts i+PO ts i<=N/\PO ts i<=24:=by have h:=ajH (ts:=ts) (i:=i) (by omega);have u:=T9 h;have:=XP ts[cM ts i];have n0:=(rE (ts.take (cM ts i))).1;unfold aaa PO;rw[H0 h];simp only;omega
theorem ab5{ts:List aE}{N:Nat}(hN:(N:Int)=bf ts):(∀r∈yH ts N,Bd N r)/\∀r∈yI ts N,Bd N r:=by
 constructor
 .intro r hr;unfold yH at hr;obtain⟨i,hi,rfl⟩:=Zc7.1 hr;have:=apQ hN (Zg5.1 hi);exact agf (by omega) this.1 _
 .intro r hr;unfold yI at hr;obtain⟨i,hi,rfl⟩:=Zc7.1 hr;have:=apQ hN (Zg5.1 hi);exact agf (by omega) this.1 _
theorem avP(hc:Sem c)(p:bS)(cH:∀t∈p.ts,t.Ok)(hv:(bU p.ts).2=0)(h16:p.ts.length<=16){pb jb:Pos}{H:List AV}(hH:H.length=6){s0:St}(Yk:s0.heap.get pb=some (.cells p.cells 0))(OX:pb≠jb){N:Nat}(hN:(N:Int)=bf p.ts)(F:Nat)(hF:1010<=F):
  ∀(m k f:Nat)(s:St)(Ls:List AV)(R:List (List AV))(I:List (AV×List (List AV)))(j:Nat),m<f->k+m=p.ts.length->SW p.ts s0 s jb H Ls R I j->(j:Int)=bf (p.ts.take k)->
   ∃    s' Ls' R' I',SW p.ts s0 s' jb H Ls' R' I' N/\
        ∀(k2),Bu c F k2 f [.ptr pb 0,.ptr jb 0,.int .i64 (p.ts.length:Int),.int .i64 (k:Int)] s=k2 [.ptr pb 0,.ptr jb 0] s':=by
 have hN2:N<=10000:=by have:=ajG p.ts;omega
 intro m;induction m with
 |zero=>
  intro k f s Ls R I j hf hk hS hl;obtain⟨f,rfl⟩:∃g,f=g+1:=⟨f - 1,by omega⟩
  obtain rfl:k=p.ts.length:=by omega
  rw[Zh9]at hl;obtain rfl:j=N:=by omega
  refine⟨s,Ls,R,I,hS,λk2=> ?_⟩;rw[Vm];simp
 |succ m ih=>
  intro k f s Ls R I j hf hk hS hl;obtain⟨f,rfl⟩:∃g,f=g+1:=⟨f - 1,by omega⟩
  have gX:k<p.ts.length:=by omega
  obtain⟨u1,u2⟩:=T9 gX;have z24:=XP p.ts[k];have hw:=hS.ow.wf;obtain⟨n,hn⟩:∃n:Nat,(n:Int)=bJ p.ts[k]:=⟨(bJ p.ts[k]).toNat,by omega⟩
  have avQ:Aj p.ts (k:Int)=((j:Nat):Int):=by rw[Aj,Za7 (by omega),hl];simp
  have fi:=ai7 hc p.tz p.ts cH (k:Int) s hw;rw[avQ]at fi;have co:=apI hc p.ts[k] (cH _ (Zb9 gX)) (Iv hv k gX) s hw;rw[<-hn]at co;have so:=λ(K:AV->St->Option (AV×St))=>apH (c:=c) p.tz p.ts k gX K s
  have q0:=hS.ow.keep pb _ OX Yk;have G:=Grew.ah hw (.cells [.int .i64 ((j:Nat):Int)] 0);have S1:SW p.ts s0 (ah s (.cells [.int .i64 ((j:Nat):Int)] 0)) jb H Ls R I (j+0):=⟨hS.ow.ai G,G.get hS.cell,hS.shp⟩
  obtain⟨s1,Ls1,R1,I1,y1,y5⟩:=avO hc p cH hH Yk OX (first:=j) (n:=n) (N:=N) (k:=k) gX hl hn (by omega) hN2 (by omega) F n 0 F _ Ls R I s.next (by omega) (by omega) S1 (aA _ _)
   (λe=>by have:=hw _ _ hS.cell;rw[<-e]at this;omega) (λL hL e=>by have:=hS.ow.ltL hL e;omega)
  obtain⟨s',Ls',R',I',z1,z5⟩:=ih (k+1) f s1 Ls1 R1 I1 (j+n) (by omega) (by omega) y1 (by omega);refine⟨s',Ls',R',I',z1,λk2=> ?_⟩;have aW:(k:Int)<(p.ts.length:Int):=by omega
  have w1:ax .i64 ((k:Int)+1)=((k+1:Nat):Int):=ad0 rfl (by omega);have st7:∀(K:AV->St->Option (AV×St)),aq c (.store 1) [.ptr s.next 0,.int .i64 ((j:Nat):Int)] (ah s (.cells [.int .i64 0] 0)) K=K .undef (ah s (.cells [.int .i64 ((j:Nat):Int)] 0)):=λK=>cr c K s 1 (.int .i64 ((j:Nat):Int)) [.int .i64 0] rfl rfl rfl
  rw[<-z5 k2,Vm];simp only[aH,bg,cG,Za0 aW,dH,av,aS,Zb8,aT,q0,aD,Za9,bS.c0,aR,bX,fi,bM,fD,w1,so,co,cL,st7,y5]
theorem atk{s0 s:St}{jb:Pos}{Ls:List AV}{R:List (List AV)}{I:List (AV×List (List AV))}(O:Ow s0 s jb Ls R I){i:Nat}{L:AV}{ws:List AV}(hL:Ls[i]? =some L)(hR:R[i]? =some ws){rs:List (List Int)}(hl:ws.length=rs.length)(P:YM I ws rs):RL s L rs ws:=by refine⟨O.own i L ws hL hR,hl,λi w r h1 h2=>(O.ez _ (P i w r h1 h2)).1,λw hw=> ?_⟩;obtain⟨i,hi,rfl⟩:=Zg0.1 hw;exact(O.ez _ (P i _ rs[i] (H0 hi) (H0 (by omega)))).1.cells.1
def ajI(lo:Nat)(s:St)(jb:Pos)(Ls:List AV)(rB rA:List (List Int))(N:Nat)(ms:List Pos):Prop:=
 ∀(i:Nat)(m:Pos),ms[i]? =some m->s.heap.get m=some (im (ado rB rA N (i:Int)))/\m≠jb/\(∀L∈Ls,aL L≠some m)/\lo<=m.toNat
theorem avR (hc:Sem c){jb:Pos}{H:List AV}(hH:H.length=6){s0:St}{L0 L1 L2 L3 L4:AV}{r0 r1 r2 wB wA:List AV}{I:List (AV×List (List AV))}{rB rA:List (List Int)}{N:Nat}(hN2:N<=10000)(lB:rB.length=N)(lA:rA.length=N)(eB:wB.length=rB.length)(eA:wA.length=rA.length)
  (PB:YM I wB rB) (PA:YM I wA rA) (hB:∀r∈rB,Bd N r) (hA:∀r∈rA,Bd N r) (F:Nat):
  ∀(m k f:Nat)(s:St)(L5:AV)(ms:List Pos),m<f->k+m=N->Ow s0 s jb [L0,L1,L2,L3,L4,L5,.af,.af] [r0,r1,r2,wB,wA,ms.map AV.map,[],[]] I->s.heap.get jb=some (.cells (H++[L0,L1,L2,L3,L4,L5,.af,.af]) 0)->ms.length=k->ajI s0.next.toNat s jb [L0,L1,L2,L3,L4,L5,.af,.af] rB rA N ms->
   ∃    s' L5' ms',Ow s0 s' jb [L0,L1,L2,L3,L4,L5',.af,.af] [r0,r1,r2,wB,wA,ms'.map AV.map,[],[]] I/\s'.heap.get jb=some (.cells (H++[L0,L1,L2,L3,L4,L5',.af,.af]) 0)/\ms'.length=N/\ajI s0.next.toNat s' jb [L0,L1,L2,L3,L4,L5',.af,.af] rB rA N ms'/\
        ∀(x1:AV)(k6),Bw c F k6 f [x1,.ptr jb 0,.int .i64 (N:Int),.int .i64 (k:Int)] s=k6 [x1,.ptr jb 0] s':=by
 intro m;induction m with
 |zero=>
  intro k f s L5 ms hf hk O C hl hM;obtain⟨f,rfl⟩:∃g,f=g+1:=⟨f - 1,by omega⟩
  obtain rfl:k=N:=by omega
  refine⟨s,L5,ms,O,C,hl,hM,λx1 k6=> ?_⟩;rw[Vn];simp
 |succ m ih=>
  intro k f s L5 ms hf hk O C hl hM;obtain⟨f,rfl⟩:∃g,f=g+1:=⟨f - 1,by omega⟩
  obtain ⟨mm,u,W,G,hmm,hmg⟩:=auP hc hN2 s O.wf C (RX hH 3) (RX hH 4) (atk O (i:=3) rfl rfl eB PB) (atk O (i:=4) rfl rfl eA PA) lB lA hB hA (k:Int) (by omega);have O1:=O.ai G;have C1:=G.get C;obtain⟨t2,s2,V5,c1,c2,O2,C2,K2⟩:=O1.put C1 (c:=c) (Q:=AV×St) 8 (i:=5) (L:=L5) (r:=ms.map AV.map) rfl rfl (x:= .map mm) rfl rfl (by rw[Za4];omega) (by rw[Za4];omega) (o:=11) (by omega);have M2   :ajI s0.next.toNat s2 jb [L0,L1,L2,L3,L4,V5,.af,.af] rB rA N (ms++[mm]):=λi m' hi=>by
   have gW:u.heap.get m'=some (im (ado rB rA N (i:Int)))/\m'≠jb/\(∀L∈[L0,L1,L2,L3,L4,L5,AV.af,AV.af],aL L≠some m')/\s0.next.toNat<=m'.toNat:=by
        by_cases h0:i<ms.length
        .rw[Zc5 h0]at hi;have:=hM i m' hi;exact⟨G.get this.1,this.2⟩
        . rw[Zc4 (by omega)]at hi;have h1:i=k:=by
            rcases Zj2 (i - ms.length) 1 with h|h
            .omega
            .rw[Zc3 (by simpa using h)]at hi;cases hi
          subst h1;rw[show i - ms.length=0 by omega]at hi;simp at hi;subst hi;exact⟨hmg,λe=>by have:=O.wf _ _ C;rw[<-e]at this;omega,λL hL e=>(by have:=O.ltL hL e;omega),Zb2 O.next hmm⟩
   obtain⟨q1,q2⟩:=K2 m' _ gW.2.1 gW.2.2.1 gW.1;exact⟨q1,gW.2.1,q2,gW.2.2.2⟩
  have n1:=λ(K:AV->Option (AV×St))=>lQ K (p:=jb) (o:=11) (h:=u.heap) (h2:=s.heap) (v:=L5) (by rw[C1];exact RX hH 5) (by rw[C];exact RX hH 5) (O.own 5 L5 _ rfl rfl).beq
  have r1x:=λ(K:AV->AB->Option (AV×St))=>GV (z:=[.qX]) (x:= .map mm) rfl rfl u K
  obtain⟨s',L5',ms',z1,z2,z6,z7,z3⟩:=ih (k+1) f s2 V5 (ms++[mm]) (by omega) (by omega) (by rw[Zc8];exact O2) C2 (by simp;omega) M2;refine⟨s',L5',ms',z1,z2,z6,z7,λx1 k6=> ?_⟩;have aW:(k:Int)<(N:Int):=by omega
  have w1:ax .i64 ((k:Int)+1)=((k+1:Nat):Int):=ad0 rfl (by omega);rw[<-z3 x1 k6,Vn];simp only[aH,bg,cG,Za0 aW,dH,av,cX,bX,W,bM,oO,bt,Zb8,Zj4,n1,r1x,c1,c2,fD,w1]
theorem aeR(z:Bool)(gs:List aN){i:Nat}(hi:i<gs.length)(K:AV->St->Option (AV×St))(s:St):aq c (.idxA 9 none) [dm z gs,.int .i64 (i:Int)] s K=K (.fp (gs.map aN.cells) i 0) s:=by
 unfold dm;rw[Tn];simp[hi]
theorem aeS(gs:List aN){i:Nat}(hi:i<gs.length)(K:AV->St->Option (AV×St))(s:St):aq c (.load (some 9)) [.fp (gs.map aN.cells) i 0] s K=K (.agg (gs[i]).cells) s:=by
 rw[aa3];simp[hi]
theorem alB(g:aN)(s:St)(K:AV->St->Option (AV×St)):
  aq c (.alloc [(.str []),(.str []),(.str []),(.int .i64 0),(.int .i64 0),(.str []),(.bool false),(.bool false),.af]) [] s (λx7 s7=>aq c (.store 9) [x7,.agg g.cells] s7 (λ_ s8=>K x7 s8))=K (.ptr s.next 0) (ah s (.cells g.cells 0)):=by
 rw[cL];exact cr c (λ_ s8=>K (.ptr s.next 0) s8) s 9 (.agg g.cells) _ rfl rfl (g.MG (v:=lS g.tz g.tg) (by simp only[aQ,ai9]))
def PrR(I:List (AV×List (List AV)))(ws:List AV)(rs:List (List (List AV))):Prop:=∀(i:Nat)(w:AV)(r:List (List AV)),ws[i]? =some w->rs[i]? =some r->(w,r)∈I
theorem PrR.more{I:List (AV×List (List AV))}{ws:List AV}{rs:List (List (List AV))}(h:PrR I ws rs)(e:AV×List (List AV)):PrR (e::I) ws rs:=λi w r h1 h2=>Zb0 _ (h i w r h1 h2)
theorem PrR.snoc{I:List (AV×List (List AV))}{ws:List AV}{rs:List (List (List AV))}(h:PrR I ws rs)(hl:ws.length=rs.length){w:AV}{r:List (List AV)}(hm:(w,r)∈I):PrR I (ws++[w]) (rs++[r]):=λi w' r' h1 h2=>by
 by_cases hi:i<ws.length
 .rw[Zc5 hi]at h1;rw[Zc5 (by omega)]at h2;exact h i w' r' h1 h2
 . rw[Zc4 (by omega)]at h1;rw[Zc4 (by omega)]at h2;by_cases h0:i - ws.length=0
   .rw[h0]at h1;rw[show i - rs.length=0 by omega]at h2;simp at h1 h2;subst h1;subst h2;exact hm
   .rw[Zc3 (by simp;omega)]at h1;cases h1
def ad1(r:List Bool):List (List AV):=(r.map AV.bool).map oQ
def ad2(r:List Int):List (List AV):=(r.map (AV.int .u8)).map oQ
def ajJ(L:List (List Nat×List (List Nat)))(a b:List Nat):Bool:=decide ((0:Int)<(anl L a b:Int))
theorem avS(hc:Sem c)(z:Bool)(gs:List aN)(hl:gs.length<=100){s0 T:St}{bp mp:Pos}{gs2:List aN}{ts:List Ty}{gk tk:Option Pos}(B:eH s0 T bp mp gs2 ts gk tk)(uT:ts.length<=1000)(hs:F7 ts){jb:Pos}{y:AB}(hj:s0.heap.get jb=some y)
  {L6 L7:AV} {r6 r7:List AV} {I:List (AV×List (List AV))} {Y:AB} {gb:Pos} {gcs:List AV} {a:List Nat} (ha:gcs[0]? =some (.str a)) (hgj:gb≠jb) (F:Nat):
  ∀(m i f:Nat)(s:St)(cv kv:AV)(bs:List Bool)(ks:List Int),m<f->i+m=gs.length->Ow T s jb [L6,L7,cv,kv] [r6,r7,bs.map AV.bool,ks.map (AV.int .u8)] I->s.heap.get jb=some Y->s.heap.get gb=some (.cells gcs 0)->(∀L∈[L6,L7,cv,kv],aL L≠some gb)->bs=(gs.take i).map (λg=>ajJ (ntL gs2) a g.name)->ks=(gs.take i).map (λg=>MP ts a g.name)->
   ∃    (s':St) (cv' kv':AV) (bs':List Bool) (ks':List Int),Ow T s' jb [L6,L7,cv',kv'] [r6,r7,bs'.map AV.bool,ks'.map (AV.int .u8)] I/\s'.heap.get jb=some Y/\bs'=gs.map (λg=>ajJ (ntL gs2) a g.name)/\ks'=gs.map (λg=>MP ts a g.name)/\
        ∀(x1 x7 ajK ajL ajM:AV)(OY),xU c F OY f [x1,x7,.ptr bp 0,.ptr gb 0,cv,kv,ajK,ajL,ajM,dm z gs,.int .i64 (gs.length:Int),.int .i64 (i:Int)] s=OY [x1,x7,.ptr bp 0,cv',kv',ajK,ajL,ajM] s':=by
 intro m;induction m with
 |zero=>
  intro i f s cv kv bs ks hf hi O C hb afk h1 h2;obtain⟨f,rfl⟩:∃g,f=g+1:=⟨f - 1,by omega⟩
  obtain rfl:i=gs.length:=by omega
  rw[Zh9]at h1 h2;refine⟨s,cv,kv,bs,ks,O,C,h1,h2,λx1 x7 ajK ajL ajM OY=> ?_⟩;rw[Vo];simp
 |succ m ih=>
  intro i f s cv kv bs ks hf hi O C hb afk h1 h2;obtain⟨f,rfl⟩:∃g,f=g+1:=⟨f - 1,by omega⟩
  have fH:i<gs.length:=by omega
  have hw:=O.wf;have G1:=Grew.ah hw (.cells (gs[i]).cells 0);have O1:=O.ai G1;have b1':bs.length=i:=by rw[h1,Za4,Zg3];omega
  have k1':ks.length=i:=by rw[h2,Za4,Zg3];omega
  have et:gs.take (i+1)=gs.take i++[gs[i]]:=Zc9 fH;obtain⟨w,s2,e1,G2,ln⟩:=apO hc (B.at hj O1.wf O1.keep) a (gs[i]).name;obtain⟨nn,hnn⟩:∃nn,nn=anl (ntL gs2) a (gs[i]).name:=⟨_,rfl⟩
  rw[<-hnn]at ln;have O2:=O1.ai G2;have C2:=G2.get (G1.get C);have b2:=G2.get (G1.get hb);have x2:s2.heap.get s.next=some (.cells (gs[i]).cells 0):=G2.get (aA _ _);have far2:∀L∈[L6,L7,cv,kv],aL L≠some s.next:=λL hL e=>by have:=O.ltL hL e;omega
  obtain⟨s3,cv',a1,O3,a3,a4,a5,a6,a7,a8⟩:=O2.adk (c:=c) (Q:=AV×St) 1 (i:=2) (L:=cv) (r:=bs.map AV.bool) rfl rfl (x:= .bool (decide ((0:Int)<(nn:Int)))) rfl rfl (by rw[Za4];omega) (by rw[Za4];omega);have C3:=a3 _ C2;have b3:=a4 gb _ (afk cv (by simp)) b2;have x3:=a4 s.next _ (far2 cv (by simp)) x2;have fg3:∀L∈[L6,L7,cv',kv],aL L≠some gb:=Ow.mem_set (i:=2) afk λe=>by have:=a8 _ e;have:=O2.wf _ _ b2;omega
  obtain⟨ok,t1⟩:=auT hc (B.at hj O3.wf O3.keep) uT hs a (gs[i]).name;obtain⟨k,hk⟩:∃k,k=MP ts a (gs[i]).name:=⟨_,rfl⟩
  rw[<-hk]at t1;obtain⟨s4,kv',d1,O4,d3,d4,d5,d6,d7,d8⟩:=O3.adk (c:=c) (Q:=AV×St) 1 (i:=3) (L:=kv) (r:=ks.map (AV.int .u8)) rfl rfl (x:= .int .u8 k) rfl rfl (by rw[Za4];omega) (by rw[Za4];omega);have C4:=d3 _ C3;have b4:=d4 gb _ (fg3 kv (by simp)) b3;have fg4:∀L∈[L6,L7,cv',kv'],aL L≠some gb:=Ow.mem_set (i:=3) fg3 λe=>by have:=d8 _ e;have:=O3.wf _ _ b3;omega
  obtain⟨s',cv2,kv2,bs2,ks2,z1,z2,z6,z7,z3⟩:=ih (i+1) f s4 cv' kv' (bs++[decide ((0:Int)<(nn:Int))]) (ks++[k]) (by omega) (by omega) (by rw[Zc8,Zc8];exact O4) C4 b4 fg4 (by rw[et,Zc8, <-h1,hnn];rfl) (by rw[et,Zc8, <-h2,hk];rfl);refine⟨s',cv2,kv2,bs2,ks2,z1,z2,z6,z7,λx1 x7 ajK ajL ajM OY=> ?_⟩;have aW:(i:Int)<(gs.length:Int):=by omega
  have w1:ax .i64 ((i:Int)+1)=((i+1:Nat):Int):=ad0 rfl (by omega);have r1x:=λ(K:AV->St->Option (AV×St))=>GW (c:=c) (z:=[.bool false]) (x:= .bool (decide ((0:Int)<(nn:Int)))) rfl rfl s2 K
  have r2x:=λ(K:AV->St->Option (AV×St))=>GW (c:=c) (z:=[.int .u8 0]) (x:= .int .u8 k) rfl rfl s3 K
  have b1:=G1.get hb;have x1':(ah s (.cells (gs[i]).cells 0)).heap.get s.next=some (.cells (gs[i]).cells 0):=aA _ _;rw[<-z3 x1 x7 ajK ajL ajM OY,Vo];simp only[aH,bg,cG,Za0 aW,dH,aeR z gs fH,aeS gs fH,alB,av,aS,Zb8,aT,b1,x1',aD,Za9,ha,aN.c0,aR,bX,e1,bM,ln,CR,r1x,a1,
   b3,x3,t1,fS,Za5,Zb4,r2x,d1,fD,w1]
theorem asu{H Ls:List AV}(hH:H.length=12)(i:Nat):(H++Ls)[12+i]? =Ls[i]? :=by rw[Zc4 (by omega)];congr 1;omega
structure asv(I:List (AV×List (List AV)))(r6 r7:List AV)(jW:List (List Bool))(iR:List (List Int))(n j:Nat):Prop where
 lb:jW.length=j
 lk:iR.length=j
 eb:∀r∈jW,r.length=n
 ek:∀r∈iR,r.length=n
 pb:PrR I r6 (jW.map ad1)
 pk:PrR I r7 (iR.map ad2)
theorem avT(hc:Sem c)(p:bS)(hl:p.gs.length<=100){s0 T:St}{bp mp:Pos}{gs2:List aN}{ts:List Ty}{gk tk:Option Pos}(B:eH s0 T bp mp gs2 ts gk tk)(uT:ts.length<=1000)(hs:F7 ts){pb jb:Pos}{y:AB}(hj:s0.heap.get jb=some y)(Yk:T.heap.get pb=some (.cells p.cells 0))(OX:pb≠jb)
  {H:List AV} (hH:H.length=12) (F:Nat) (hF:1010<=F):
  ∀(m j f:Nat)(s:St)(L6 L7:AV)(r6 r7:List AV)(I:List (AV×List (List AV)))(jW:List (List Bool))(iR:List (List Int)),m<f->j+m=p.gs.length->Ow T s jb [L6,L7] [r6,r7] I->s.heap.get jb=some (.cells (H++[L6,L7]) 0)->r6.length=j->r7.length=j->asv I r6 r7 jW iR p.gs.length j->jW=(p.gs.take j).map (λg=>p.gs.map λh=>ajJ (ntL gs2) g.name h.name)->iR=(p.gs.take j).map (λg=>p.gs.map λh=>MP ts g.name h.name)->
   ∃    (s':St) (L6' L7':AV) (r6' r7':List AV) (I':List (AV×List (List AV))) (ans:List (List Bool)) (ant:List (List Int)),Ow T s' jb [L6',L7'] [r6',r7'] I'/\s'.heap.get jb=some (.cells (H++[L6',L7']) 0)/\r6'.length=p.gs.length/\r7'.length=p.gs.length/\asv I' r6' r7' ans ant p.gs.length p.gs.length/\(ans=p.gs.map (λg=>p.gs.map λh=>ajJ (ntL gs2) g.name h.name)/\ant=p.gs.map (λg=>p.gs.map λh=>MP ts g.name h.name))/\
        ∀(k8),Bx c F k8 f [.ptr pb 0,.ptr jb 0,.ptr bp 0,dm p.gz p.gs,.int .i64 (p.gs.length:Int),.int .i64 (j:Int)] s=k8 [.ptr jb 0] s':=by
 intro m;induction m with
 |zero=>
  intro j f s L6 L7 r6 r7 I jW iR hf hi O C h1 h2 hG hB hK;obtain⟨f,rfl⟩:∃g,f=g+1:=⟨f - 1,by omega⟩
  obtain rfl:j=p.gs.length:=by omega
  rw[Zh9]at hB hK;refine⟨s,L6,L7,r6,r7,I,jW,iR,O,C,h1,h2,hG,⟨hB,hK⟩,λk8=> ?_⟩;rw[Vp];simp
 |succ m ih=>
  intro j f s L6 L7 r6 r7 I jW iR hf hi O C h1 h2 hG hB hK;obtain⟨f,rfl⟩:∃g,f=g+1:=⟨f - 1,by omega⟩
  have fH:j<p.gs.length:=by omega
  have hw:=O.wf;have G1:=Grew.ah hw (.cells (p.gs[j]).cells 0);have O1:Ow T (ah s (.cells (p.gs[j]).cells 0)) jb [L6,L7,.af,.af] [r6,r7,[],[]] I:=((O.ai G1).snoc).snoc;have C1:=G1.get C;have zl:∀L∈[L6,L7,AV.af,AV.af],aL L≠some s.next:=λL hL e=>by
   simp only[Za8,Zc0,Ze9]at hL;rcases hL with rfl|rfl|rfl|rfl
   .    have:=O.ltL (L:=L) (by simp) e;omega
   .    have:=O.ltL (L:=L) (by simp) e;omega
   .    cases e
   .    cases e
  have et:p.gs.take (j+1)=p.gs.take j++[p.gs[j]]:=Zc9 fH;obtain⟨s2,cv,kv,bs,ks,O2,C2,ebs,eks,z3⟩:=avS hc p.gz p.gs hl B uT hs hj (gb:=s.next) (gcs:=(p.gs[j]).cells) (a:=(p.gs[j]).name) rfl (λe=>by have:=hw _ _ C;rw[<-e]at this;omega) F p.gs.length 0 F _ .af .af [] [] (by omega) (by omega) O1 C1 (aA _ _) zl rfl rfl;have lbs:bs.length=p.gs.length:=by rw[ebs,Za4]
  have lks:ks.length=p.gs.length:=by rw[eks,Za4]
  obtain⟨cc,co⟩:=(O2.own 2 cv _ rfl rfl).cells;obtain⟨kc,ko⟩:=(O2.own 3 kv _ rfl rfl).cells;have O2':Ow T s2 jb [L6,L7] [r6,r7] ((cv,ad1 bs)::(kv,ad2 ks)::I):=(Ow.take (Ls:=[L6,L7]) (R:=[r6,r7]) (Ow.take (Ls:=[L6,L7,cv]) (R:=[r6,r7,bs.map AV.bool]) O2))
  obtain⟨s3,V6,a1,O3,a3,a4,a5,a6,a7,a8⟩:=O2'.adk (c:=c) (Q:=AV×St) 24 (i:=0) (L:=L6) (r:=r6) rfl rfl (x:=cv) cc co (by omega) (by omega);have C3:=a3 _ C2;obtain⟨s4,V7,d1,O4,d3,d4,d5,d6,d7,d8⟩:=O3.adk (c:=c) (Q:=AV×St) 24 (i:=1) (L:=L7) (r:=r7) rfl rfl (x:=kv) kc ko (by omega) (by omega);have C4:=d3 _ C3;have O5:=(O4.store (.cells (H++[V6,L7]) 0)).store (.cells (H++[V6,V7]) 0);have bE:∀(K:AV->St->Option (AV×St)),aq c (.store 1) [.ptr jb 12,V6] s4 K=K .undef (bh s4 jb (.cells (H++[V6,L7]) 0)):=λK=>by rw[LV K C4 (by simp;omega) a5 a6,Zk2 _ _ (by omega),show 12 - H.length=0 by omega];rfl
  have Bj:∀(K:AV->St->Option (AV×St)),aq c (.store 1) [.ptr jb 13,V7] (bh s4 jb (.cells (H++[V6,L7]) 0)) K=K .undef (bh (bh s4 jb (.cells (H++[V6,L7]) 0)) jb (.cells (H++[V6,V7]) 0)):=λK=>by rw[LV K (bH _ _ _) (by simp;omega) d5 d6,Zk2 _ _ (by omega),show 13 - H.length=1 by omega];rfl
  have hG':asv ((cv,ad1 bs)::(kv,ad2 ks)::I) (r6++[cv]) (r7++[kv]) (jW++[bs]) (iR++[ks]) p.gs.length (j+1):=by
   have e1:=hG.lb;have e2:=hG.lk;refine⟨by simp;omega,by simp;omega,λr hr=> ?_,λr hr=> ?_,?_,?_⟩
   .    rcases Zd7.1 hr with h|h
        .exact hG.eb r h
        .simp at h;subst h;exact lbs
   .    rcases Zd7.1 hr with h|h
        .exact hG.ek r h
        .simp at h;subst h;exact lks
   .    rw[Zc8];exact((hG.pb.more _).more _).snoc (by simp;omega) (Ze2)
   .    rw[Zc8];exact((hG.pk.more _).more _).snoc (by simp;omega) (Zb0 _ Ze2)
  obtain⟨s',L6',L7',r6',r7',I',ans,ant,y1,y2,y6,y7,y8,y9,y3⟩:=ih (j+1) f _ V6 V7 (r6++[cv]) (r7++[kv]) _ (jW++[bs]) (iR++[ks]) (by omega) (by omega) O5 (bH _ _ _) (by simp;omega) (by simp;omega) hG' (by rw[et,Zc8, <-hB,ebs];rfl) (by rw[et,Zc8, <-hK,eks];rfl);refine⟨s',L6',L7',r6',r7',I',ans,ant,y1,y2,y6,y7,y8,y9,λk8=> ?_⟩;have aW:(j:Int)<(p.gs.length:Int):=by omega
  have w1:ax .i64 ((j:Int)+1)=((j+1:Nat):Int):=ad0 rfl (by omega);have q1:=O1.keep pb _ OX Yk;have g12:(H++[L6,L7])[12]? =some L6:=asu hH 0;have r1x:=λ(K:AV->AB->Option (AV×St))=>GV (z:=[.af]) (x:=cv) rfl cc s2 K
  have r2x:=λ(K:AV->AB->Option (AV×St))=>GV (z:=[.af]) (x:=kv) rfl kc s3 K
  have n1:=λ(K:AV->Option (AV×St))=>lQ K (p:=jb) (o:=13) (h:=s3.heap) (h2:=s2.heap) (v:=L7) (by rw[C3];exact asu hH 1) (by rw[C2];exact asu hH 1) (O2.own 1 L7 r7 rfl rfl).beq
  have lG:∀(K:AV->St->Option (AV×St))(s:St),aq c (.lenB .l) [dm p.gz p.gs] s K=K (.int .i64 (p.gs.length:Int)) s:=λK s=>by unfold dm;rw[jL];simp
  rw[<-y3 k8,Vp];simp only[aH,bg,cG,Za0 aW,dH,aeR p.gz p.gs fH,aeS p.gs fH,alB,av,aS,Zb8,aT,q1,aD,Za9,bS.c1,aR,lG];rw[show(0:Int)=((0:Nat):Int)from rfl,z3];simp only[aH,bg,cX,oO,bt,Zb8,ju,C2,aD,Za9,g12,aR,r1x,a1,Zj4,n1,r2x,d1,bE,Bj,fD,w1,av]
def arC(gs:List aN):List (List Bool):=gs.map λg=>gs.map λh=>ajJ (ntL gs) g.name h.name
noncomputable def P8(gs:List aN)(ts:List Ty):List (List Int):=gs.map λg=>gs.map λh=>MP ts g.name h.name
theorem akz{p:bS}(h:(iH p).2=0):(bU p.ts).2=0/\(dX p.gs p.ys).2=0:=by
 have hb:(jQ p).2=0:=by
   unfold iH at h;by_cases e:(jQ p).2=0
   .exact e
   .rw[Zb6 e]at h;exact absurd h e
 unfold jQ at hb;by_cases h1:(bU p.ts).2=0
 . rw[Za7 (by simpa using h1)]at hb;by_cases h2:(dX p.gs p.ys).2=0
   .exact⟨h1,h2⟩
   .rw[Zb6 h2]at hb;exact absurd hb h2
 .rw[Zb6 h1]at hb;exact absurd hb h1
def Tg(s0 s:St)(v:AV)(rows:List (List AV)):Prop:=QS 1 s v rows/\∀b,aL v=some b->s0.next.toNat<=b.toNat/\s.heap.get b=some (.cells rows.flatten 0)
theorem Tg.mono{s0 s s':St}{v:AV}{rows:List (List AV)}(h:Tg s0 s v rows)(hk:∀b x,s0.next.toNat<=b.toNat->s.heap.get b=some x->s'.heap.get b=some x):Tg s0 s' v rows:=
 ⟨h.1.mono λb x hb hx=>hk b x (h.2 b hb).1 hx,λb hb=>⟨(h.2 b hb).1,hk b _ (h.2 b hb).1 (h.2 b hb).2⟩⟩
theorem Tg.base{s1 s0 s:St}{v:AV}{rows:List (List AV)}(h:Tg s0 s v rows)(hn:s1.next.toNat<=s0.next.toNat):Tg s1 s v rows:=⟨h.1,λb hb=>⟨Zb2 hn (h.2 b hb).1,(h.2 b hb).2⟩⟩
theorem Ow.tg{s0 s:St}{jb:Pos}{Ls:List AV}{R:List (List AV)}{I:List (AV×List (List AV))}(O:Ow s0 s jb Ls R I){i:Nat}{L:AV}{r:List AV}(hL:Ls[i]? =some L)(hR:R[i]? =some r):Tg s0 s L (r.map oQ):=
 ⟨O.own i L r hL hR,λb hb=>⟨O.new L (Zc1 hL) b hb,by rw[ahc];exact O.tig i L r hL hR b hb⟩⟩
theorem Ow.tgi{s0 s:St}{jb:Pos}{Ls:List AV}{R:List (List AV)}{I:List (AV×List (List AV))}(O:Ow s0 s jb Ls R I){w:AV}{rows:List (List AV)}(h:(w,rows)∈I):Tg s0 s w rows:=
 ⟨(O.ez _ h).1,λb hb=>⟨O.inw _ h b hb,O.itg _ h b hb⟩⟩
structure JD(s0 s:St)(jb:Pos)(Vs:List AV)(ts:List aE)(N n:Nat)(jW:List (List Bool))(iR:List (List Int)):Prop where
 all:∃(m:Pos) (L0 L1 L2 L3 L4 L5 L6 L7:AV) (wB wA:List AV) (ms:List Pos) (r6 r7:List AV),s.heap.get jb=some (.cells (Vs++[.map m,L0,L1,L2,L3,L4,L5,L6,L7]) 0)/\
  (s0.next.toNat<=m.toNat/\s.heap.get m=some (.map FY 18))/\Tg s0 s L0 ((BU ts N).map oQ)/\Tg s0 s L1 ((BV ts N).map oQ)/\Tg s0 s L2 ((BW ts N).map oQ)/\
  (Tg s0 s L3 (wB.map oQ)/\wB.length=N/\∀(i:Nat)(w:AV)(r:List Int),wB[i]? =some w->(yH ts N)[i]? =some r->Tg s0 s w (r.map bC))/\
  (Tg s0 s L4 (wA.map oQ)/\wA.length=N/\∀(i:Nat)(w:AV)(r:List Int),wA[i]? =some w->(yI ts N)[i]? =some r->Tg s0 s w (r.map bC))/\
  (Tg s0 s L5 ((ms.map AV.map).map oQ)/\ms.length=N/\∀(i:Nat)(m:Pos),ms[i]? =some m->s0.next.toNat<=m.toNat/\s.heap.get m=some (im (ado (yH ts N) (yI ts N) N (i:Int))))/\
  (Tg s0 s L6 (r6.map oQ)/\r6.length=n/\∀(i:Nat)(w:AV)(r:List Bool),r6[i]? =some w->jW[i]? =some r->Tg s0 s w (ad1 r))/\
  (Tg s0 s L7 (r7.map oQ)/\r7.length=n/\∀(i:Nat)(w:AV)(r:List Int),r7[i]? =some w->iR[i]? =some r->Tg s0 s w (ad2 r))
 n1:jW.length=n
 n2:iR.length=n
 n3:∀r∈jW,r.length=n
 n4:∀r∈iR,r.length=n
theorem akA(hc:Sem c)(p:bS)(hp:p.Dh)(hRo:Yl c p)(hR:p.Real)(hr:∀r∈p.rs,r.Ok)(s:St)(hw:Wf s)(h:(iH p).2=0):
   ∃(jb:Pos) (s':St) (Vs:List AV) (N:Nat) (jW:List (List Bool)) (iR:List (List Int)),c 15 [.agg p.cells] s=some (.tuple [.ptr jb 0,.int .i64 0,.int .i64 0],s')/\PS s s' Vs p/\(N:Int)=bf p.ts/\JD s s' jb Vs p.ts N p.gs.length jW iR/\s.next.toNat<=jb.toNat/\Vs.length=5/\jW=arC p.gs/\iR=P8 p.gs p.ys:=by
 obtain⟨hv,awJ⟩:=akz h;have h16:=OS hv;have cZ:Wf (ah s (.cells p.cells 0)):=bG hw;have G1:=Grew.ah hw (.cells p.cells 0);have ck:=Vh hc p hp hRo hr _ cZ;obtain⟨Vs,s1,cp,P⟩:=anh hc p hR _ cZ;obtain⟨vl,vo⟩:=P.cells;obtain⟨V1,V2,V3,V4,V5,rfl⟩:∃V1 V2 V3 V4 V5,Vs=[V1,V2,V3,V4,V5]:=by
   match Vs,vl with
   |[a,b,c,d,e],_=>exact⟨a,b,c,d,e,rfl⟩
 have w1:=P.ai.wf;have kk:=ajl hc s1;have w2:Wf (ah s1 (.map FY 18)):=bG w1;have G2:=Grew.ah w1 (.map FY 18)
 let s2:=ah s1 (.map FY 18)
 let H:=[V1,V2,V3,V4,V5,AV.map s1.next]
 let J0:List AV:=H++[.af,.af,.af,.af,.af,.af,.af,.af]
 have w3:Wf (ah s2 (.cells J0 0)):=bG w2;have G3:Grew s2 (ah s2 (.cells J0 0)):=Grew.ah w2 _
 let jb:=s2.next
 let s3:=ah s2 (.cells J0 0)
 have cj:s3.heap.get jb=some (.cells J0 0):=aA _ _;have ltj:jb.toNat<s3.next.toNat:=by show s2.next.toNat<s2.next.succ.toNat;rw[Pos.aF];exact Nat.lt_succ_self _
 have pb3:s3.heap.get s.next=some (.cells p.cells 0):=((P.ai.trans G2).trans G3).get (aA _ _);have OX:s.next≠jb:=λe=>by have e1:=P.ai.next;rw[bP,Pos.aF]at e1;have e2:s2.next.toNat=s1.next.toNat+1:=(by show(ah s1 _).next.toNat=_;rw[bP,Pos.aF]);have:s.next.toNat=s2.next.toNat:=(by rw[e]);omega
 have O0:Ow s3 s3 jb [.af,.af,.af,.af,.af,.af,.af,.af] [[],[],[],[],[],[],[],[]] []:=Ow.none w3 ltj 8;obtain⟨N,hN⟩:∃N:Nat,(N:Int)=bf p.ts:=⟨(bf p.ts).toNat,by have:=(rE p.ts).1;omega⟩
 have hN2:N<=10000:=by have:=ajG p.ts;omega
 obtain⟨s4,Ls,R,I,S4,z4⟩:=avP hc p hp.ok hv h16 (H:=H) rfl pb3 OX hN 20000 (by omega) p.ts.length 0 20000 s3 _ _ _ 0 (by have:=hp.ts;omega) (by omega)
   ⟨O0,cj,.af,.af,.af,.af,.af,[],[],rfl,rfl,rfl,rfl,λi w r h=>(by simp at h),λi w r h=>(by simp at h)⟩ (by simp[bf])
 obtain⟨L0,L1,L2,L3,L4,wB,wA,rfl,rfl,e3,e4,PB,PA⟩:=S4.shp;have lBA:=OJ p.ts N;obtain⟨hB,hA⟩:=ab5 hN;obtain⟨s5,L5,ms,O5,C5,lms,M5,z5⟩:=avR hc (H:=H) rfl hN2 lBA.1 lBA.2 (by rw[lBA.1];exact e3) (by rw[lBA.2];exact e4) PB PA hB hA 20000 N 0 20000 s4 .af [] (by omega) (by omega) S4.ow S4.cell rfl (λi m h=>by simp at h);have w5:=O5.wf;obtain⟨v6,s6,e6,k6,b6⟩:=RF hc p.gz p.yz p.gs p.ys hp.gs hp.ys s5 w5;obtain⟨bp,mp,gk,tk,rfl,B,hs⟩:=b6 awJ;have w6:=B.wf;have hj6:=k6 _ _ C5;have hj5:(ah s5 (.cells [dm p.gz p.gs,gV p.yz p.ys] 0)).heap.get jb=some (.cells (H++[L0,L1,L2,L3,L4,L5,.af,.af]) 0):=(Grew.ah w5 _).get C5;have lt6:=w6 _ _ hj6;have pb5:=O5.keep s.next _ OX pb3;have pb6:=k6 _ _ pb5
 let H':=H++[L0,L1,L2,L3,L4,L5]
 have O6:Ow s6 s6 jb [.af,.af] [[],[]] []:=Ow.none w6 lt6 2;obtain⟨s7,L6,L7,r6,r7,I',jW,iR,O7,C7,l6,l7,G7,⟨eB,eK⟩,z7⟩:=avT hc p hp.gs B (by have:=hp.ys;omega) hs hj5 pb6 OX (H:=H') rfl 20000 (by omega) p.gs.length 0 20000 s6 .af .af [] [] [] [] [] (by have:=hp.gs;omega) (by omega) O6 hj6 rfl rfl ⟨rfl,rfl,λr h=>(by cases h),λr h=>(by cases h),λi w r h=>(by simp at h),λi w r h=>(by simp at h)⟩ rfl rfl;have keep:∀q x,q≠jb->s3.heap.get q=some x->s7.heap.get q=some x:=λq x hq hx=>O7.keep q x hq (k6 _ _ (O5.keep q x hq hx))
 have G03:Grew s s3:=((G1.trans P.ai).trans G2).trans G3;have jge:s1.next.toNat<jb.toNat:=by show _<(ah s1 _).next.toNat;rw[bP,Pos.aF];omega
 have sle:s.next.toNat<=s1.next.toNat:=(G1.trans P.ai).next;have G07:Grew s s7:=⟨O7.wf,λq x hx=>keep q x (λe=>by have:=hw _ _ hx;rw[e]at this;omega) (G03.get hx),by have a1:=G03.next;have a2:=O5.next;have a3:=B.next;have a4:=O7.next;rw[bP,Pos.aF]at a3;omega⟩
 have PE:PS s s7 [V1,V2,V3,V4,V5] p:=P.rX hw G1 G07 λq b _ hx=>keep q b (λe=>by have:=w1 _ _ hx;rw[e]at this;omega) ((G2.trans G3).get hx)
 have n03:s.next.toNat<=s3.next.toNat:=G03.next;have n36:s3.next.toNat<=s6.next.toNat:=Zb2 O5.next (by have:=B.next;rw[bP,Pos.aF]at this;omega);have asw:∀q x,q≠jb->s5.heap.get q=some x->s7.heap.get q=some x:=λq x hq hx=>O7.keep q x hq (k6 _ _ hx)
 have nj:∀q:Pos,s3.next.toNat<=q.toNat->q≠jb:=λq hq e=>by rw[e]at hq;omega
 have T5:∀{i:Nat}{L:AV}{r:List AV},([L0,L1,L2,L3,L4,L5,.af,.af]:List AV)[i]? =some L->([BU p.ts N,BV p.ts N,BW p.ts N,wB,wA,ms.map AV.map,[],[]]:List (List AV))[i]? =some r->Tg s s7 L (r.map oQ):=λh1 h2=>
   ((Ow.tg O5 h1 h2).mono λb x hb hx=>asw b x (nj b hb) hx).base n03
 have T5i:∀{w:AV}{rows:List (List AV)},(w,rows)∈I->Tg s s7 w rows:=λh=>((Ow.tgi O5 h).mono λb x hb hx=>asw b x (nj b hb) hx).base n03
 have n06:=Zb2 n03 n36;refine⟨jb,s7,[V1,V2,V3,V4,V5],N,jW,iR,?_,PE,hN,⟨⟨s1.next,L0,L1,L2,L3,L4,L5,L6,L7,wB,wA,ms,r6,r7,C7,⟨sle,keep _ _ (λe=>by rw[<-e]at jge;omega) (G3.get (aA _ _))⟩,T5 (i:=0) rfl rfl,T5 (i:=1) rfl rfl,T5 (i:=2) rfl rfl,
   ⟨T5 (i:=3) rfl rfl,e3,λi w r h1 h2=>T5i (PB i w r h1 h2)⟩,⟨T5 (i:=4) rfl rfl,e4,λi w r h1 h2=>T5i (PA i w r h1 h2)⟩,⟨T5 (i:=5) rfl rfl,lms,λi m h=> ?_⟩,
   ⟨(Ow.tg O7 (i:=0) rfl rfl).base n06,l6,λi w r h1 h2=>(Ow.tgi O7 (G7.pb i w _ h1 (by rw[Zb7,h2];rfl))).base n06⟩,⟨(Ow.tg O7 (i:=1) rfl rfl).base n06,l7,λi w r h1 h2=>(Ow.tgi O7 (G7.pk i w _ h1 (by rw[Zb7,h2];rfl))).base n06⟩⟩,G7.lb,G7.lk,G7.eb,G7.ek⟩,by omega,rfl,eB,eK⟩
 . have hcut:cut p.cells 0 5=some p.cells:=cQ rfl;have fk:=aA s (.cells p.cells 0);have bx:∀(K:AV->St->Option (AV×St)),aq c .box [.agg p.cells] s K=K (.ptr s.next 0) (ah s (.cells p.cells 0)):=λK=>by rw[cS];rfl
   have bx2:∀(K:AV->St->Option (AV×St)),aq c .box [.agg J0] s2 K=K (.ptr jb 0) s3:=λK=>by rw[cS];rfl
   have hd:decide ((iH p).2=0)=true:=Za0 h;have cj1:s1.heap.get s.next=some (.cells p.cells 0):=P.ai.get fk;have ag:(AV.agg [V1,V2,V3,V4,V5]).cells=[V1,V2,V3,V4,V5]:=rfl;have bd:∀(K:AV->St->Option (AV×St)),aq c (.build [.af,.af,.af,.af,.af,.qX,.af,.af,.af,.af,.af,.af,.af,.af] [(0,5),(5,1)]) [.agg [V1,V2,V3,V4,V5],.map s1.next] s2 K=K (.agg J0) s2:=λK=>by rw[iF];rfl
   have bd2:∀(K:AV->St->Option (AV×St)),aq c (.build [.af,.af] [(0,1),(1,1)]) [dm p.gz p.gs,gV p.yz p.ys] s5 K=K (.agg [dm p.gz p.gs,gV p.yz p.ys]) s5:=λK=>by rw[iF,vW];rfl
   have lT:∀(K:AV->St->Option (AV×St))(s:St),aq c (.lenB .l) [tabs p.tz p.ts] s K=K (.int .i64 (p.ts.length:Int)) s:=λK s=>by unfold tabs;rw[jL];simp
   have lG:∀(K:AV->St->Option (AV×St))(s:St),aq c (.lenB .l) [dm p.gz p.gs] s K=K (.int .i64 (p.gs.length:Int)) s:=λK s=>by unfold dm;rw[jL];simp
   have l0:∀(K:AV->St->Option (AV×St))(s:St),aq c (.lenB .l) [L0] s K=K (.int .i64 (N:Int)) s:=λK s=>by
    rw[(S4.ow.own 0 L0 _ rfl rfl).lenB K s,Za4,(TX p.ts N).1]
   have pb4:=S4.ow.keep s.next _ OX pb3;have g6:(H++[L0,L1,L2,L3,L4,.af,.af,.af])[6]? =some L0:=rfl;have c4:=S4.cell;have run:=ajN hc 20000 (x0:= .agg p.cells) (s:=s) (r:=(.tuple [.ptr jb 0,.int .i64 0,.int .i64 0],s7)) (by
    rw[anu];simp only[bx,av,gR,fk,aD,Za9,hcut,fu,bX,ck,bM,fS,Za5,Zb4,aR,LS,hd,Zh0,cV,cp,kk];rw[show ah s1 (.map FY 18)=s2 from rfl,bd,bx2];simp only[av,aS,Zb8,aT,pb3,aD,Za9,bS.c0,aR,lT];rw[show(0:Int)=((0:Nat):Int)from rfl,z4];simp only[aH,bg,av,cw,aS,Zb8,aT,c4,aD,Za9,g6,aR,l0];rw[z5];simp only[aH,bg,av,aS,Zb8,aT,pb5,aD,Za9,bS.c1,bS.c2,aR,bd2,bX,e6,bM,fS,Za5,Zb4,pb6,lG];rw[z7];simp only[aH,bg,av])
   rw[run];unfold tidy;rw[Za7 (λe=>Vd e.1)]
 .have:=M5 i m h;exact⟨Zb2 n03 this.2.2.2,asw m _ this.2.1 this.1⟩
end
section
open Go Go.Ai Go.Proofs
section
variable{p p':bS}
theorem bS.fX.tab(h:p.fX p'){t':aE}(ht:t'∈p'.ts):∃t∈p.ts,t.fX t':=by
 obtain⟨i,hi,rfl⟩:=Zg0.1 ht;have sy:i<p.ts.length:=by rw[<-h.tl];exact hi
 exact⟨p.ts[i],Zb9 sy,h.ts i _ _ (H0 sy) (H0 hi)⟩
theorem bS.fX.qM(h:p.fX p'){t':aN}(ht:t'∈p'.gs):∃t∈p.gs,t.fX t':=by
 obtain⟨i,hi,rfl⟩:=Zg0.1 ht;have sy:i<p.gs.length:=by rw[<-h.gl];exact hi
 exact⟨p.gs[i],Zb9 sy,h.gs i _ _ (H0 sy) (H0 hi)⟩
theorem bS.fX.sF(h:p.fX p')(hp:p.Dh):p'.Dh where
 ts:=by rw[h.tl];exact hp.ts
 gs:=by rw[h.gl];exact hp.gs
 ys:=by rw[h.ys];exact hp.ys
 cs:=by rw[h.cs];exact hp.cs
 rs:=by rw[h.rs];exact hp.rs
 ok t ht:=by obtain⟨u,hu,z,rfl⟩:=h.tab ht;have:=hp.ok u hu;exact⟨this.1,this.2⟩
theorem bS.fX.real(h:p.fX p')(hp:p.Real):p'.Real where
 ts:=by rw[h.tl];exact hp.ts
 tab t ht:=by obtain⟨u,hu,z,rfl⟩:=h.tab ht;have:=hp.tab u hu;exact⟨this.1,this.2⟩
 gs:=by rw[h.gl];exact hp.gs
 qM t ht:=by obtain⟨u,hu,z,rfl⟩:=h.qM ht;have:=hp.qM u hu;exact⟨this.1,this.2,this.3,this.4,this.5⟩
 ys:=by rw[h.ys];exact hp.ys
 cs:=by rw[h.cs];exact hp.cs
 rs:=by rw[h.rs];exact hp.rs
theorem asx(t:aE){v:AV}(h:bN v):∀x∈t.ay v,bN x:=λx hx=>by simp only[aE.ay,Za8,Zc0,Ze9]at hx;rcases hx with rfl|rfl|rfl|rfl|rfl|rfl|rfl<;>first|exact h|exact bN.str _|exact bN.int _ _
theorem asy(t:aN){v:AV}(h:bN v):∀x∈t.ay v,bN x:=λx hx=>by simp only[aN.ay,Za8,Zc0,Ze9]at hx;rcases hx with rfl|rfl|rfl|rfl|rfl|rfl|rfl|rfl|rfl<;>first|exact h|exact bN.str _|exact bN.int _ _|exact bN.bool _
theorem vU{α:Type}{f:α->List AV}(h:∀a,∀x∈f a,bN x)(l:List α):∀r∈l.map f,∀x∈r,bN x:=λr hr x hx=>by obtain⟨a,_,rfl⟩:=Zc7.1 hr;exact h a x hx
theorem Io(i:Int):∀x∈bC i,bN x:=λx hx=>by simp only[bC,Za8,Zc0,Ze9]at hx;subst hx;exact bN.int _ _
theorem apR(i:List Nat):∀x∈Ut i,bN x:=λx hx=>by simp only[Ut,Za8,Zc0,Ze9]at hx;subst hx;exact bN.str _
theorem auU(t:Ty):∀x∈t.cells,bN x:=λx hx=>by simp only[Ty.cells,Za8,Zc0,Ze9]at hx;rcases hx with rfl|rfl|rfl<;>first|exact bN.str _|exact bN.int _ _
theorem auV(t:Rl):∀x∈t.cells,bN x:=λx hx=>by simp only[Rl.cells,Za8,Zc0,Ze9]at hx;rcases hx with rfl|rfl|rfl|rfl|rfl|rfl<;>first|exact bN.str _|exact bN.int _ _
end
section
variable{s s1:St}
theorem TS.dw{V:AV}{ts:List aE}{rows:List (List AV)}(hw:Wf s)(h:TS (emptyAt s) s1 V ts rows):TS s (dw s s1) V ts rows where
 out:=Mk.dw hw h.out (λr hr x hx=>by
  obtain⟨i,hi,rfl⟩:=Zg0.1 hr;have ht:i<ts.length:=by rw[<-h.len];exact hi
  obtain⟨v,e,M,_⟩:=h.ez i _ _ (H0 ht) (H0 hi);rw[e]at hx;exact asx _ M.own.bare x hx)
 len:=h.len
 ez i t r hi hr:=by
  obtain⟨v,e,M,n⟩:=h.ez i t r hi hr;exact⟨v,e,Mk.dw hw M (vU Io _),n⟩
theorem GS.dw{V:AV}{ts:List aN}{rows:List (List AV)}(hw:Wf s)(h:GS (emptyAt s) s1 V ts rows):GS s (dw s s1) V ts rows where
 out:=Mk.dw hw h.out (λr hr x hx=>by
  obtain⟨i,hi,rfl⟩:=Zg0.1 hr;have ht:i<ts.length:=by rw[<-h.len];exact hi
  obtain⟨v,e,M,_⟩:=h.ez i _ _ (H0 ht) (H0 hi);rw[e]at hx;exact asy _ M.own.bare x hx)
 len:=h.len
 ez i t r hi hr:=by
  obtain⟨v,e,M,n⟩:=h.ez i t r hi hr;exact⟨v,e,Mk.dw hw M (vU apR _),n⟩
theorem PS.dw{Vs:List AV}{p:bS}(hw:Wf s)(h:PS (emptyAt s) s1 Vs p):PS s (dw s s1) Vs p:=by
 obtain⟨V1,V2,V3,V4,V5,r1,r2,e,h1,h2,h3,h4,h5⟩:=h.all;exact⟨aa5 hw h.ai.wf h.ai.next,V1,V2,V3,V4,V5,r1,r2,e,TS.dw hw h1,GS.dw hw h2,Mk.dw hw h3 (vU auU _),Mk.dw hw h4 (vU Io _),Mk.dw hw h5 (vU auV _)⟩
theorem PS.bare{s0:St}{Vs:List AV}{p:bS}(h:PS s0 s Vs p):∀V∈Vs,bN V:=λV hV=>by
 obtain⟨V1,V2,V3,V4,V5,r1,r2,rfl,h1,h2,h3,h4,h5⟩:=h.all;simp only[Za8,Zc0,Ze9]at hV;rcases hV with rfl|rfl|rfl|rfl|rfl
 .exact h1.out.own.bare
 .exact h2.out.own.bare
 .exact h3.own.bare
 .exact h4.own.bare
 .exact h5.own.bare
end
abbrev qN(l:List Int):List AV:=l.map (AV.int .i64)
def Rs:List AV->Option (List Int)
 |[]=>some []
 |  .int .i64 x::l=>match Rs l with
    |some r=>some (x::r)
    |none=>none
 |_=>none
def B4(l:List Int):List Int:=l.mergeSort λx y=>decide (x<=y)
def rowOf(st:St)(b:Pos)(o n:Nat):Option (List AV×List Int):=match st.heap.get b with
 |  some (.cells cs 0)=>match Rs ((cs.drop o).take n)with
    |some zs=>match Nat.beq zs.length n&&Nat.ble n 1000000 with
     |true=>some (cs,zs)
     |false=>none
    |none=>none
 |_=>none
def laid(st:St)(b:Pos)(cs:List AV)(o:Nat)(zs:List Int):St:=st.bk none (some (b,.cells (aU cs o (qN zs)) 0)) none
def Ug:List AV->St->Option (AV×St)
 |[.af],st=>some (.tuple [],st)
 |  [.slice b o n _ 1],st=>match n with
    |0=>some (.tuple [],st)
    |n+1=>match rowOf st b o (n+1)with
     |some (cs,zs)=>some (.tuple [],laid st b cs o (B4 zs))
     |none=>none
 |_,_=>none
def Ci:List AV->St->Option (AV×St)
 |[.af],st=>some (.af,st)
 |  [.slice b o n cp 1],st=>match n with
    |0=>some (.slice b o 0 cp 1,st)
    |n+1=>match rowOf st b o (n+1)with
     |some (cs,zs)=>some (.slice b o (Lib.compact zs).length cp 1,laid st b cs o (Lib.compact zs++List.replicate (zs.length - (Lib.compact zs).length) 0))
     |none=>none
 |_,_=>none
theorem Qb(zs:List Int):(Lib.compact zs).length<=zs.length:=by
 unfold Lib.compact Lib.compactUpTo;rw[Za4];exact Zb2 (Zk1 _ _) (by simp)
theorem akj(zs:List Int)(x:Int):x∈Lib.compact zs↔x∈zs:=by
 unfold Lib.compact Lib.compactUpTo;simp only[Zc7,Zk9,Zg5];constructor
 .rintro⟨i,⟨hi,_⟩,rfl⟩;simp[getElem!_pos,hi]
 . intro hx;obtain⟨n,hn,rfl⟩:=Zg0.1 hx
   suffices h:∀m n,n<=m->(hn:n<zs.length)->∃i,(i<zs.length/\Lib.keeps zs.toArray i=true)/\zs.toArray[i]! =zs[n]by
    obtain⟨i,h1,h2⟩:=h n n (Za3 _) hn;exact⟨i,h1,h2⟩
   intro m;induction m with
   |zero=>
    intro n hm hn;have:n=0:=(by omega);subst this;exact⟨0,⟨hn,Lib.keeps_lt_one _ 0 (by omega)⟩,by simp[getElem!_pos,hn]⟩
   |succ m ih=>
    intro n hm hn;by_cases h0:n=0
    .   subst h0;exact⟨0,⟨hn,Lib.keeps_lt_one _ 0 (by omega)⟩,by simp[getElem!_pos,hn]⟩
    by_cases he:zs[n]=zs[n - 1]'(by omega)
    .   obtain⟨i,h1,h2⟩:=ih (n - 1) (by omega) (by omega);exact⟨i,h1,h2.trans he.symm⟩
    .   refine⟨n,⟨hn,Lib.keeps_pos ?_⟩,by simp[getElem!_pos,hn]⟩;simpa [getElem!_pos,hn,show n - 1<zs.length by omega]using he
theorem aoW(zs:List Int)(x:Int):x∈B4 zs↔x∈zs:=by unfold B4;exact(List.mergeSort_perm _ _).mem_iff
theorem Dj(zs:List Int):(B4 zs).length=zs.length:=by unfold B4;exact List.length_mergeSort _
end
noncomputable section
open Go Go.Ai Go.Proofs
def aeH(f:FuncId):List AV->St->Option (AV×St):=XI (run Qc gg) f 4
def OZ:fc:=wq [(225,GN),(7,ZQ),(15,aeH 15),(124,aeH 124),(9,aeH 9),
 (35,Ug),(36,Ci)]
def bw(c:aj):Prop:=c=run OZ gg
theorem bw.o0{c:aj}(hc:bw c)(F:Nat){f:FuncId}{args:List AV}{st:St}{r:AV×St}(s:Sh)(hk:(Ar (OZ f)&& !Ar (gg.get (key f))&&(fZ (gA f).code s).isEmpty)=true)
  {k:O2} (hd:Jy c F (aha []) (gA f) s args st=k) (h:k=some r):c f args st=some (tidy st r):=by
 subst hc;exact ala s hk hd h
theorem bw.o1{c:aj}(hc:bw c)(F:Nat){f:FuncId}{args:List AV}{st:St}{r:AV×St}(Ls:Un->List Q2->Nat->Q2)(s:Sh)(hk:(Ar (OZ f)&& !Ar (gg.get (key f))&&Nat.beq (fZ (gA f).code s).length 1)=true)
  (hs:(aeu (iK (gA f) s 0).2&&Nat.beq (lpJ (iK (gA f) s 0).2) 0)=true) (h0:∀K' vs st,ur Ls (gA f) s 0 K' 0 vs st=none)
  (h1:∀K' n vs st,ur Ls (gA f) s 0 K' (n+1) vs st=Q7 (den c F (ur Ls (gA f) s) (iK (gA f) s 0).1 (lpB (iK (gA f) s 0).2)) (lpI (iK (gA f) s 0).2) (lpO (iK (gA f) s 0).2) K' (ur Ls (gA f) s 0 K' n) vs st)
  {k:O2} (hd:Jy c F (ur Ls (gA f) s) (gA f) s args st=k) (h:k=some r):c f args st=some (tidy st r):=by
 subst hc;exact alb Ls s hk hs h0 h1 hd h
theorem bw.oL{c:aj}(hc:bw c)(F:Nat){f:FuncId}{args:List AV}{st:St}{r:AV×St}(Ls:Un->List Q2->Nat->Q2)(s:Sh)(n:Nat)(hk:(Ar (OZ f)&& !Ar (gg.get (key f))&&Nat.beq (fZ (gA f).code s).length n)=true)
  (hL:∀i,i<n->D0 c F (ur Ls (gA f) s) (iK (gA f) s i).1 (iK (gA f) s i).2) {k:O2} (hd:Jy c F (ur Ls (gA f) s) (gA f) s args st=k) (h:k=some r):c f args st=some (tidy st r):=by
 subst hc;exact aeD Ls s n hk hL hd h
theorem bw.at{c:aj}(hc:bw c){f:FuncId}{s:List AV->St->Option (AV×St)}{args:List AV}{st:St}{r:AV×St}(ho:OZ f=some s)(h:s args st=some r):c f args st=some r:=by subst hc;exact ada ho h
section
variable{s s1:St}
theorem Tg.dw{v:AV}{rows:List (List AV)}(hw:Wf s)(h:Tg (emptyAt s) s1 v rows)(hb:∀r∈rows,∀x∈r,bN x):Tg s (Go.Ai.dw s s1) v rows:=by
 have key:∀b,aL v=some b->(Go.Ai.dw s s1).heap.get b=some (.cells rows.flatten 0):=λb dY=>
  D8 hw (h.2 b dY).1 (h.2 b dY).2 (λv hv=>by obtain⟨r,hr,hv⟩:=List.mem_flatten.1 hv;exact hb r hr v hv)
 exact⟨h.1.mono λb x dY hx=>by rw[(h.2 b dY).2]at hx;cases hx;exact key b dY,λb dY=>⟨(h.2 b dY).1,key b dY⟩⟩
theorem qP{l:List AV}(h:∀x∈l,bN x):∀r∈l.map oQ,∀x∈r,bN x:=λr hr x hx=>by obtain⟨y,hy,rfl⟩:=Zc7.1 hr;simp only[oQ,Zh7]at hx;subst hx;exact h _ hy
theorem asz:Lu (.map FY 18):=λe he=>by
 simp only[FY,Za8,Zc0,Ze9]at he;rcases he with rfl|rfl|rfl|rfl|rfl|rfl|rfl|rfl|rfl|rfl|rfl|rfl|rfl|rfl|rfl|rfl|rfl|rfl<;>
 .refine⟨bN.int _ _,bN.agg λv hv=> ?_⟩;simp only[kd,Kd.cells,Za8,Zc0,Ze9]at hv;rcases hv with rfl|rfl|rfl|rfl|rfl|rfl|rfl|rfl<;>first|exact bN.str _|exact bN.int _ _|exact bN.bool _|exact bN.func _ (by simp) (by simp)|exact bN.jX
theorem auW(E:List (Int×Int)):Lu (im E):=by
 have:∀(E:List (Int×Int))(i:Nat),∀e∈Rb E i,bN e.1/\bN e.2.1:=λE=>by
  induction E with
  |nil=>intro i e he;cases he
  |cons a E ih=>
   intro i e he;simp only[Rb,Za8]at he;rcases he with rfl|he
   .exact⟨bN.int _ _,bN.int _ _⟩
   .exact ih _ e he
 exact this E 0
theorem JD.dw{jb:Pos}{Vs:List AV}{ts:List aE}{N n:Nat}{jW:List (List Bool)}{iR:List (List Int)}(hw:Wf s)(hV:∀V∈Vs,bN V)(hj:s.next.toNat<=jb.toNat)(h:JD (emptyAt s) s1 jb Vs ts N n jW iR):JD s (Go.Ai.dw s s1) jb Vs ts N n jW iR:=by
 obtain⟨m,L0,L1,L2,L3,L4,L5,L6,L7,wB,wA,ms,r6,r7,DJ,⟨hm,hmk⟩,t0,t1,t2,⟨t3,lB,iB⟩,⟨t4,lA,iA⟩,⟨t5,l5,i5⟩,⟨t6,l6,i6⟩,⟨t7,l7,i7⟩⟩:=h.all;have n2:=OJ ts N;have bT:∀x∈BU ts N,bN x:=λx hx=>by obtain⟨i,_,rfl⟩:=Zc7.1 hx;exact bN.int _ _
 have bL:∀x∈BV ts N,bN x:=λx hx=>by obtain⟨i,_,rfl⟩:=Zc7.1 hx;exact bN.int _ _
 have bO:∀x∈BW ts N,bN x:=λx hx=>by obtain⟨i,_,rfl⟩:=Zc7.1 hx;exact bN.bool _
 have ez:∀{α:Type}{ws:List AV}{rs:List α}{f:α->List (List AV)},ws.length=rs.length->(∀(i:Nat)(w:AV)(r:α),ws[i]? =some w->rs[i]? =some r->Tg (emptyAt s) s1 w (f r))->∀w∈ws,bN w:=λ{α ws rs f} hl hi w hw=>by obtain⟨i,sy,rfl⟩:=Zg0.1 hw;exact(hi i _ (rs[i]'(by omega)) (H0 sy) (H0 (by omega))).1.bare
 have bB:=ez (f:=λ(r:List Int)=>r.map bC) (by rw[n2.1];exact lB) iB;have bA:=ez (f:=λ(r:List Int)=>r.map bC) (by rw[n2.2];exact lA) iA;have b6:=ez (f:=ad1) (by rw[h.n1];exact l6) i6;have b7:=ez (f:=ad2) (by rw[h.n2];exact l7) i7;have b5:∀x∈ms.map AV.map,bN x:=λx hx=>by obtain⟨i,_,rfl⟩:=Zc7.1 hx;exact bN.map _
 refine⟨⟨m,L0,L1,L2,L3,L4,L5,L6,L7,wB,wA,ms,r6,r7,D8 hw hj DJ (λv hv=> ?_),⟨hm,D8 hw hm hmk asz⟩,t0.dw hw (qP bT),t1.dw hw (qP bL),t2.dw hw (qP bO),
   ⟨t3.dw hw (qP bB),lB,λi w r h1 h2=>(iB i w r h1 h2).dw hw (vU Io r)⟩,⟨t4.dw hw (qP bA),lA,λi w r h1 h2=>(iA i w r h1 h2).dw hw (vU Io r)⟩,
   ⟨t5.dw hw (qP b5),l5,λi m h=>⟨(i5 i m h).1,D8 hw (i5 i m h).1 (i5 i m h).2 (auW _)⟩⟩,
   ⟨t6.dw hw (qP b6),l6,λi w r h1 h2=>(i6 i w r h1 h2).dw hw (qP λx hx=>by obtain⟨b,_,rfl⟩:=Zc7.1 hx;exact bN.bool _)⟩,
   ⟨t7.dw hw (qP b7),l7,λi w r h1 h2=>(i7 i w r h1 h2).dw hw (qP λx hx=>by obtain⟨b,_,rfl⟩:=Zc7.1 hx;exact bN.int _ _)⟩⟩,h.n1,h.n2,h.n3,h.n4⟩
 rcases Zd7.1 hv with hv|hv
 .exact hV v hv
 . simp only[Za8,Zc0,Ze9]at hv;rcases hv with rfl|rfl|rfl|rfl|rfl|rfl|rfl|rfl|rfl
   .exact bN.map _
   .exact t0.1.bare
   .exact t1.1.bare
   .exact t2.1.bare
   .exact t3.1.bare
   .exact t4.1.bare
   .exact t5.1.bare
   .exact t6.1.bare
   .exact t7.1.bare
end
theorem JD.mono{s0 s s':St}{jb:Pos}{Vs:List AV}{ts:List aE}{N n:Nat}{jW:List (List Bool)}{iR:List (List Int)}(h:JD s0 s jb Vs ts N n jW iR)(hj:s0.next.toNat<=jb.toNat)(hk:∀b x,s0.next.toNat<=b.toNat->s.heap.get b=some x->s'.heap.get b=some x):JD s0 s' jb Vs ts N n jW iR:=by
 obtain⟨m,L0,L1,L2,L3,L4,L5,L6,L7,wB,wA,ms,r6,r7,DJ,⟨hm,hmk⟩,t0,t1,t2,⟨t3,lB,iB⟩,⟨t4,lA,iA⟩,⟨t5,l5,i5⟩,⟨t6,l6,i6⟩,⟨t7,l7,i7⟩⟩:=h.all;exact⟨⟨m,L0,L1,L2,L3,L4,L5,L6,L7,wB,wA,ms,r6,r7,hk _ _ hj DJ,⟨hm,hk _ _ hm hmk⟩,t0.mono hk,t1.mono hk,t2.mono hk,⟨t3.mono hk,lB,λi w r a b=>(iB i w r a b).mono hk⟩,⟨t4.mono hk,lA,λi w r a b=>(iA i w r a b).mono hk⟩,
  ⟨t5.mono hk,l5,λi m a=>⟨(i5 i m a).1,hk _ _ (i5 i m a).1 (i5 i m a).2⟩⟩,⟨t6.mono hk,l6,λi w r a b=>(i6 i w r a b).mono hk⟩,⟨t7.mono hk,l7,λi w r a b=>(i7 i w r a b).mono hk⟩⟩,h.n1,h.n2,h.n3,h.n4⟩
section
variable{c:aj}{s0 s:St}{Vs:List AV}{p:bS}
theorem arE(hc:bw c)(h:PS s0 s Vs p)(hp:p.Dh)(hR:p.Real)(hr:∀r∈p.rs,r.Ok)(hn:(iH p).2=0):
  ∃(jb:Pos) (s':St) (Us:List AV) (p':bS) (N:Nat) (jW:List (List Bool)) (iR:List (List Int)),c 15 [.agg Vs] s=some (.tuple [.ptr jb 0,.int .i64 0,.int .i64 0],s')/\PS s s' Us p'/\p.fX p'/\
   (N:Int)=bf p'.ts/\JD s s' jb Us p'.ts N p'.gs.length jW iR/\Us.length=5/\s.next.toNat<=jb.toNat/\jW=arC p'.gs/\iR=P8 p'.gs p'.ys:=by
 obtain⟨p',e,S⟩:=h.fW 1;obtain⟨jb,s1,Us,N,jW,iR,e1,P,hN,J,hge,h5,eB,eK⟩:=akA (c:=run Qc gg) rfl p' (S.sF hp) (alm rfl (S.sF hp)) (S.real hR) (by rw[S.rs];exact hr) (emptyAt s) (Tv s) (by rw[S.check];exact hn);refine⟨jb,dw s s1,Us,p',N,jW,iR,hc.at (s:=aeH 15) rfl (afU ?_ (bN.tuple (by intro v hv;simp at hv;rcases hv with rfl|rfl|rfl<;>first|exact bN.int _ _|exact bN.ptr _ _)) P.ai.next),PS.dw h.ai.wf P,S,hN,JD.dw h.ai.wf P.bare hge J,h5,hge,eB,eK⟩;rw[Zd1,Zi5,e];exact e1
end
end
end Go.Proofs.YtmldijpopgaaeaaGreatDoor
