/- Copies and lists. -/
import Derived.Test.YtgihekklfnjkiaaGreatDoorDLawsB
set_option linter.all false
set_option linter.unusedSectionVars false
set_option linter.deprecated false
namespace Go.Proofs.YtgihekklfnjkiaaGreatDoor
section
set_option maxRecDepth 100000
open Go Go.Ai Go.Proofs
variable{c : aj}
def aE.gJ(t t':aE):Prop:=∃z,t'={ t with oz:=z }
def aV.gJ(g g':aV):Prop:=∃z,g'={ g with tz:=z }
theorem aiy{α:Type}(f:α->AV)(s:St)(d:Nat)(l:List α)(hf:∀a∈l,fW s d (f a)=f a):(l.map λa=>[f a]).map (λr=>r.map (fW s d))=l.map λa=>[f a]:=by
 rw[Zh7];refine Zj3 λa ha=> ?_
 simp only[Function.comp,Zd6,Zi1,hf a ha]
theorem Qz(s:St)(d:Nat)(k:IntKind)(i:Int):fW s d (.int k i)= .int k i:=by cases d<;>rfl
theorem QC(s:St)(d:Nat)(l:List Nat):fW s d (.str l)= .str l:=by cases d<;>rfl
theorem aqB(s:St)(d:Nat)(b:Bool):fW s d (.bool b)= .bool b:=by cases d<;>rfl
theorem aiz{s0 s:St}{v:AV}{l:List Int}(h:Mk 1 s0 s v (l.map bU))(d:Nat):∃z,fW s (d+1) v=ints z l:=by
 obtain⟨z,hz⟩:=h.own.fW (d:=d) h.row;refine⟨z,?_⟩;rw[hz];unfold ints;rw[aiy (λi=>AV.int .i64 i) s d l λa _=>Qz s d _ _]
theorem aqC{s0 s:St}{v:AV}{l:List (List Nat)}(h:Mk 1 s0 s v (l.map SY))(d:Nat):∃z,fW s (d+1) v=kZ z l:=by
 obtain⟨z,hz⟩:=h.own.fW (d:=d) h.row;refine⟨z,?_⟩;rw[hz];unfold kZ;rw[aiy (λi=>AV.str i) s d l λa _=>QC s d _]
theorem asW{s0 s:St}{v:AV}{l:List Ty}(h:Mk 3 s0 s v (l.map Ty.cells))(d:Nat):∃z,fW s (d+1) v=gM z l:=by
 obtain⟨z,hz⟩:=h.own.fW (d:=d) h.row;refine⟨z,?_⟩;rw[hz];unfold gM;rw[Zh7];congr 1;refine Zj3 λa _=> ?_
 simp only[Function.comp,Ty.cells,Zd6,Zi1,QC,Qz]
theorem asX{s0 s:St}{v:AV}{l:List Rl}(h:Mk 6 s0 s v (l.map Rl.cells))(d:Nat):∃z,fW s (d+1) v=iY z l:=by
 obtain⟨z,hz⟩:=h.own.fW (d:=d) h.row;refine⟨z,?_⟩;rw[hz];unfold iY;rw[Zh7];congr 1;refine Zj3 λa _=> ?_
 simp only[Function.comp,Rl.cells,Zd6,Zi1,QC,Qz]
theorem abu{α:Type}(P:α->α->Prop)(cells:α->List AV)(g:List AV->List AV):∀(ts:List α)(rows:List (List AV)),rows.length=ts.length->(∀(i:Nat)(t:α)(r:List AV),ts[i]? =some t->rows[i]? =some r->∃t',P t t'/\g r=cells t')->
  ∃DA:List α,rows.map g=DA.map cells/\DA.length=ts.length/\∀(i:Nat)(t t':α),ts[i]? =some t->DA[i]? =some t'->P t t'
 |[],rows,hl,_=>⟨[],by rw[Zc4 hl];rfl,rfl,λi t t' h=>by simp at h⟩
 |t::ts,[],hl,_=>by simp at hl
 |t::ts,r::rows,hl,h=>by
  obtain⟨t',h1,h2⟩:=h 0 t r rfl rfl;obtain⟨DA,k1,k2,k3⟩:=abu P cells g ts rows (by simpa using hl) (λi t r h3 h4=>h (i+1) t r (by simpa using h3) (by simpa using h4));refine⟨t'::DA,by simp[h2,k1],by simp[k2],λi u u' h3 h4=> ?_⟩;cases i with
  |zero=>simp at h3 h4;subst h3;subst h4;exact h1
  |succ i=>exact k3 i u u' (by simpa using h3) (by simpa using h4)
theorem TS.fW{s0 s:St}{V:AV}{ts:List aE}{rows:List (List AV)}(h:TS s0 s V ts rows)(d:Nat):∃z DA,Go.Ai.fW s (d+2) V=tabs z DA/\DA.length=ts.length/\∀(i:Nat)(t t':aE),ts[i]? =some t->DA[i]? =some t'->t.gJ t':=by
 obtain⟨z,hz⟩:=h.out.own.fW (d:=d+1) h.out.row;obtain⟨DA,k1,k2,k3⟩:=abu aE.gJ aE.cells (λr=>r.map (Go.Ai.fW s (d+1))) ts rows h.len λi t r hi hr=>by
  obtain⟨v,rfl,hM,_⟩:=h.eF i t r hi hr;obtain⟨z2,hz2⟩:=aiz hM d;refine⟨{ t with oz:=z2 },⟨z2,rfl⟩,?_⟩;simp only[aE.ax,aE.cells,Zd6,Zi1,QC,Qz,hz2]
 refine⟨z,DA,?_,k2,k3⟩;rw[hz,k1];rfl
theorem GS.fW{s0 s:St}{V:AV}{ts:List aV}{rows:List (List AV)}(h:GS s0 s V ts rows)(d:Nat):∃z DA,Go.Ai.fW s (d+2) V=dJ z DA/\DA.length=ts.length/\∀(i:Nat)(t t':aV),ts[i]? =some t->DA[i]? =some t'->t.gJ t':=by
 obtain⟨z,hz⟩:=h.out.own.fW (d:=d+1) h.out.row;obtain⟨DA,k1,k2,k3⟩:=abu aV.gJ aV.cells (λr=>r.map (Go.Ai.fW s (d+1))) ts rows h.len λi t r hi hr=>by
  obtain⟨v,rfl,hM,_⟩:=h.eF i t r hi hr;obtain⟨z2,hz2⟩:=aqC hM d;refine⟨{ t with tz:=z2 },⟨z2,rfl⟩,?_⟩;simp only[aV.ax,aV.cells,Zd6,Zi1,QC,Qz,aqB,hz2]
 refine⟨z,DA,?_,k2,k3⟩;rw[hz,k1];rfl
structure cw.gJ(p p':cw):Prop where
 tl:p'.ts.length=p.ts.length
 ts:∀(i:Nat)(t t':aE),p.ts[i]? =some t->p'.ts[i]? =some t'->t.gJ t'
 gl:p'.gs.length=p.gs.length
 gs:∀(i:Nat)(t t':aV),p.gs[i]? =some t->p'.gs[i]? =some t'->t.gJ t'
 ys:p'.ys=p.ys
 cs:p'.cs=p.cs
 rs:p'.rs=p.rs
theorem PS.fW{s0 s:St}{Vs:List AV}{p:cw}(h:PS s0 s Vs p)(d:Nat):∃p',Go.Ai.fW s (d+3) (.agg Vs)= .agg p'.cells/\p.gJ p':=by obtain⟨V1,V2,V3,V4,V5,r1,r2,rfl,h1,h2,h3,h4,h5⟩:=h.all;obtain⟨z1,DA,e1,l1,k1⟩:=h1.fW d;obtain⟨z2,gs',e2,l2,k2⟩:=h2.fW d;obtain⟨z3,e3⟩:=asW h3 (d+1);obtain⟨z4,e4⟩:=aiz h4 (d+1);obtain⟨z5,e5⟩:=asX h5 (d+1);refine⟨⟨z1,DA,z2,gs',z3,p.ys,z4,p.cs,z5,p.rs⟩,?_,⟨l1,k1,l2,k2,rfl,rfl,rfl⟩⟩;rw[aj4];simp only[Zd6,Zi1,e1,e2,e3,e4,e5];rfl
theorem YR{α β:Type}{P:α->α->Prop}{l l':List α}(hl:l'.length=l.length)(hs:∀(i:Nat)(t t':α),l[i]? =some t->l'[i]? =some t'->P t t')(f:α->β)(hf:∀t t',P t t'->f t'=f t)(i:Nat):l'[i]?.map f=l[i]?.map f:=by
 by_cases h:i<l.length
 . have h':i<l'.length:=(by omega);rw[H0 h,H0 h'];simp only[Ze6,H5];exact hf _ _ (hs i _ _ (H0 h) (H0 h'))
 . rw[Zc1 (by omega),Zc1 (by omega)]
theorem aqD{t t':aE}(h:t.gJ t'):sK t'=sK t:=by obtain⟨z,rfl⟩:=h;rfl
theorem akp{t t':aE}(h:t.gJ t'):bJ t'=bJ t:=by obtain⟨z,rfl⟩:=h;rfl
theorem an2{t t':aV}(h:t.gJ t'):jL t'=jL t:=by obtain⟨z,rfl⟩:=h;rfl
variable{p p' : cw}
theorem cw.gJ.nm(h:p.gJ p')(s:List Nat):uQ p'.ts s=uQ p.ts s:=funext λi=>by
 unfold uQ;rw[YR h.tl h.ts aE.name (λt t' k=>by obtain⟨z,rfl⟩:=k;rfl)]
theorem cw.gJ.gm(h:p.gJ p')(s:List Nat):nX p'.gs s=nX p.gs s:=funext λi=>by
 unfold nX;rw[YR h.gl h.gs aV.name (λt t' k=>by obtain⟨z,rfl⟩:=k;rfl)]
theorem cw.gJ.at(h:p.gJ p'):∀(m k:Nat),iE p'.ts m k=iE p.ts m k
 |0,_=>rfl
 |m +1,k=>by
  have ih:=h.at m (k+1);unfold iE;by_cases hk:k<p.ts.length
  . have uq:k<p'.ts.length:=(by rw[h.tl];exact hk);have hs:=h.ts k _ _ (H0 hk) (H0 uq);have hn:p'.ts[k].name=p.ts[k].name:=(by obtain⟨z,e⟩:=hs;rw[e]);rw[H0 hk,H0 uq];simp only[aqD hs,hn,h.nm,ih]
  . have uq:¬k<p'.ts.length:=(by rw[h.tl];exact hk);rw[Zc1 (by omega),Zc1 (by omega)]
theorem cw.gJ.LR(h:p.gJ p'):bV p'.ts=bV p.ts:=by unfold bV;rw[h.tl,h.at]
theorem cw.gJ.gsAt(h:p.gJ p'):∀(m k:Nat),oQ p'.gs m k=oQ p.gs m k
 |0,_=>rfl
 |m +1,k=>by
  have ih:=h.gsAt m (k+1);unfold oQ;by_cases hk:k<p.gs.length
  . have uq:k<p'.gs.length:=(by rw[h.gl];exact hk);have hs:=h.gs k _ _ (H0 hk) (H0 uq);have hn:p'.gs[k].name=p.gs[k].name:=(by obtain⟨z,e⟩:=hs;rw[e]);rw[H0 hk,H0 uq];simp only[an2 hs,hn,h.gm,ih]
  . have uq:¬k<p'.gs.length:=(by rw[h.gl];exact hk);rw[Zc1 (by omega),Zc1 (by omega)]
theorem cw.gJ.unk(h:p.gJ p')(t:Ty):rZ p'.gs t=rZ p.gs t:=by unfold rZ;rw[h.gm,h.gm,h.gl]
theorem cw.gJ.tyAt(h:p.gJ p')(ts:List Ty):∀(m k:Nat),jM p'.gs ts m k=jM p.gs ts m k
 |0,_=>rfl
 |m+1,k=>by
  have ih:=h.tyAt ts m (k+1);unfold jM;cases ts[k]? with
  |none=>rfl
  |some t=>simp only[h.gl,h.unk,ih]
theorem cw.gJ.roll(h:p.gJ p'):ey p'.gs p'.ys=ey p.gs p.ys:=by unfold ey;rw[h.ys,h.gsAt,h.tyAt]
theorem cw.gJ.sum(h:p.gJ p'):aZ p'.ts=aZ p.ts:=by
 unfold aZ;congr 1;refine Zi4 λi=> ?_
 rw[Zb8,Zb8];exact YR h.tl h.ts bJ (λt t' k=>akp k) i
theorem cw.gJ.basis(h:p.gJ p'):jE p'=jE p:=by unfold jE;rw[h.LR,h.roll,h.cs,h.gl,h.sum]
theorem cw.gJ.gi(h:p.gJ p')(s:List Nat):Go.Proofs.YtgihekklfnjkiaaGreatDoor.gi p' s=Go.Proofs.YtgihekklfnjkiaaGreatDoor.gi p s:=by unfold Go.Proofs.YtgihekklfnjkiaaGreatDoor.gi;rw[h.gm,h.gl]
theorem cw.gJ.ti(h:p.gJ p')(s:List Nat):Go.Proofs.YtgihekklfnjkiaaGreatDoor.ti p' s=Go.Proofs.YtgihekklfnjkiaaGreatDoor.ti p s:=by unfold Go.Proofs.YtgihekklfnjkiaaGreatDoor.ti;rw[h.nm,h.tl]
theorem cw.gJ.Ac(h:p.gJ p')(i:Int):Go.Proofs.YtgihekklfnjkiaaGreatDoor.Ac p' i=Go.Proofs.YtgihekklfnjkiaaGreatDoor.Ac p i:=by
 unfold Go.Proofs.YtgihekklfnjkiaaGreatDoor.Ac;have:=YR h.tl h.ts bJ (λt t' k=>akp k) i.toNat;cases h1:p.ts[i.toNat]? with
 |none=>rw[h1]at this;cases h2:p'.ts[i.toNat]? with
  |none=>rfl
  |some t=>rw[h2]at this;cases this
 |some t=>rw[h1]at this;cases h2:p'.ts[i.toNat]? with
  |none=>rw[h2]at this;cases this
  |some t'=>rw[h2]at this;simp only[Ze6,H5]at this;simp only[this]
theorem cw.gJ.rule(h:p.gJ p')(r:Rl):uA p' r=uA p r:=by
 unfold uA Sv adT YN;simp only[h.gi,h.ti,h.Ac]
theorem cw.gJ.iY(h:p.gJ p'):∀(m k:Nat),oa p' m k=oa p m k
 |0,_=>rfl
 |m+1,k=>by
  have ih:=h.iY m (k+1);unfold oa;rw[h.rs];cases p.rs[k]? with
  |none=>rfl
  |some r=>simp only[h.rule,ih]
theorem cw.gJ.check(h:p.gJ p'):jY p'=jY p:=by unfold jY;rw[h.basis,h.iY]
theorem F8{es bytes:Nat}{z:List AV}(rows:List (List AV))(hr:∀r∈rows,r.length=es)(eD:es≠0)(hb:(2*rows.length+768)*bytes<=281474976710656)(hn:rows.length<=4000000)(s:St)(hw:Wf s):
  ∃v s',(∀(K:AV->St->Option (AV×St)),aq c (.buildSlice es 0 z []) [] s (λy t=>aq c (.append es bytes) [y,.fl rows es] t K)=K v s')/\Mk es s s' v rows:=
 aeQ hr eD hb hn s hw (.inl rfl)
theorem KZ(c:aj)(K:AV->St->Option (AV×St))(s:St):aq c (.bin .eql .slice) [.af,.af] s K=K (.bool true) s:=aU c K (λH n=>rfl) s
theorem YS(c:aj)(K:AV->St->Option (AV×St))(s:St)(rows:List (List AV))(es:Nat):aq c (.bin .eql .slice) [.fl rows es,.af] s K=K (.bool false) s:=aU c K (λH n=>rfl) s
theorem aff(hc:Sem c)(z:Bool)(l:List (Int))(hl:l.length<=E0)(s:St)(hw:Wf s):∃v s',c 115 [ints z l] s=some (v,s')/\Mk 1 s s' v (l.map bU):=by
 have hl:l.length<=1048576:=hl;have hr:∀r∈l.map bU,r.length=1:=λr hr=>by simp only[Zc9]at hr;obtain⟨i,_,rfl⟩:=hr;rfl
 by_cases h:ints z l= .af
 . have h0:l=[]:=by
    cases l with
    |nil=>rfl
    |cons a l=>unfold ints at h;cases z<;>cases h
   subst h0;refine⟨.af,s,?_,Mk.start hw (Grew.refl hw)⟩;rw[h,yW hc 1 (r:=(.af,s)),aC Plain.af (aW.refl s)];rw[AT];simp[KZ]
 . have e:ints z l= .fl (l.map bU) 1:=by
    cases l with
    |nil=>unfold ints at h ⊢; cases z
          . rfl
          . exact absurd rfl h
    |cons a l=>unfold ints;cases z<;>rfl
   obtain⟨v,s',a1,a2⟩:=F8 (c:=c) (bytes:=8) (z:=[.int .i64 0]) (l.map bU) hr (by decide) (by simp;omega) (by simp;omega) s hw;obtain⟨fP,t1,t2⟩:=a2.tidy;refine⟨v,fP,?_,t2⟩;rw[e,yW hc 1 (r:=(v,s')),t1];rw[AT];simp only[ay,YS,dD];rw[a1]
theorem an3(hc:Sem c)(z:Bool)(l:List (List Nat))(hl:l.length<=E0)(s:St)(hw:Wf s):∃v s',c 117 [kZ z l] s=some (v,s')/\Mk 1 s s' v (l.map SY):=by
 have hl:l.length<=1048576:=hl;have hr:∀r∈l.map SY,r.length=1:=λr hr=>by simp only[Zc9]at hr;obtain⟨i,_,rfl⟩:=hr;rfl
 by_cases h:kZ z l= .af
 . have h0:l=[]:=by
    cases l with
    |nil=>rfl
    |cons a l=>unfold kZ at h;cases z<;>cases h
   subst h0;refine⟨.af,s,?_,Mk.start hw (Grew.refl hw)⟩;rw[h,jd hc 1 (r:=(.af,s)),aC Plain.af (aW.refl s)];rw[jN];simp[KZ]
 . have e:kZ z l= .fl (l.map SY) 1:=by
    cases l with
    |nil=>unfold kZ at h ⊢; cases z
          . rfl
          . exact absurd rfl h
    |cons a l=>unfold kZ;cases z<;>rfl
   obtain⟨v,s',a1,a2⟩:=F8 (c:=c) (bytes:=16) (z:=[.str []]) (l.map SY) hr (by decide) (by simp;omega) (by simp;omega) s hw;obtain⟨fP,t1,t2⟩:=a2.tidy;refine⟨v,fP,?_,t2⟩;rw[e,jd hc 1 (r:=(v,s')),t1];rw[jN];simp only[ay,YS,dD];rw[a1]
theorem an4(hc:Sem c)(z:Bool)(l:List (Ty))(hl:l.length<=E0)(s:St)(hw:Wf s):∃v s',c 118 [gM z l] s=some (v,s')/\Mk 3 s s' v (l.map Ty.cells):=by
 have hl:l.length<=1048576:=hl;have hr:∀r∈l.map Ty.cells,r.length=3:=λr hr=>by simp only[Zc9]at hr;obtain⟨i,_,rfl⟩:=hr;rfl
 by_cases h:gM z l= .af
 . have h0:l=[]:=by
    cases l with
    |nil=>rfl
    |cons a l=>unfold gM at h;cases z<;>cases h
   subst h0;refine⟨.af,s,?_,Mk.start hw (Grew.refl hw)⟩;rw[h,rE hc 1 (r:=(.af,s)),aC Plain.af (aW.refl s)];rw[tK];simp[KZ]
 . have e:gM z l= .fl (l.map Ty.cells) 3:=by
    cases l with
    |nil=>unfold gM at h ⊢; cases z
          . rfl
          . exact absurd rfl h
    |cons a l=>unfold gM;cases z<;>rfl
   obtain⟨v,s',a1,a2⟩:=F8 (c:=c) (bytes:=40) (z:=[.str [],.str [],.int .u8 0]) (l.map Ty.cells) hr (by decide) (by simp;omega) (by simp;omega) s hw;obtain⟨fP,t1,t2⟩:=a2.tidy;refine⟨v,fP,?_,t2⟩;rw[e,rE hc 1 (r:=(v,s')),t1];rw[tK];simp only[ay,YS,dD];rw[a1]
theorem an5(hc:Sem c)(z:Bool)(l:List (Rl))(hl:l.length<=E0)(s:St)(hw:Wf s):∃v s',c 119 [iY z l] s=some (v,s')/\Mk 6 s s' v (l.map Rl.cells):=by
 have hl:l.length<=1048576:=hl;have hr:∀r∈l.map Rl.cells,r.length=6:=λr hr=>by simp only[Zc9]at hr;obtain⟨i,_,rfl⟩:=hr;rfl
 by_cases h:iY z l= .af
 . have h0:l=[]:=by
    cases l with
    |nil=>rfl
    |cons a l=>unfold iY at h;cases z<;>cases h
   subst h0;refine⟨.af,s,?_,Mk.start hw (Grew.refl hw)⟩;rw[h,qc hc 1 (r:=(.af,s)),aC Plain.af (aW.refl s)];rw[rF];simp[KZ]
 . have e:iY z l= .fl (l.map Rl.cells) 6:=by
    cases l with
    |nil=>unfold iY at h ⊢; cases z
          . rfl
          . exact absurd rfl h
    |cons a l=>unfold iY;cases z<;>rfl
   obtain⟨v,s',a1,a2⟩:=F8 (c:=c) (bytes:=72) (z:=[.int .u8 0,.int .i64 0,.str [],.str [],.str [],.int .i64 0]) (l.map Rl.cells) hr (by decide) (by simp;omega) (by simp;omega) s hw;obtain⟨fP,t1,t2⟩:=a2.tidy;refine⟨v,fP,?_,t2⟩;rw[e,qc hc 1 (r:=(v,s')),t1];rw[rF];simp only[ay,YS,dD];rw[a1]
theorem an6(hc:Sem c)(z:Bool)(l:List (aE))(hl:l.length<=E0)(s:St)(hw:Wf s):∃v s',c 114 [tabs z l] s=some (v,s')/\Mk 7 s s' v (l.map aE.cells):=by
 have hl:l.length<=1048576:=hl;have hr:∀r∈l.map aE.cells,r.length=7:=λr hr=>by simp only[Zc9]at hr;obtain⟨i,_,rfl⟩:=hr;rfl
 by_cases h:tabs z l= .af
 . have h0:l=[]:=by
    cases l with
    |nil=>rfl
    |cons a l=>unfold tabs at h;cases z<;>cases h
   subst h0;refine⟨.af,s,?_,Mk.start hw (Grew.refl hw)⟩;rw[h,o7 hc 1 (r:=(.af,s)),aC Plain.af (aW.refl s)];rw[qd];simp[KZ]
 . have e:tabs z l= .fl (l.map aE.cells) 7:=by
    cases l with
    |nil=>unfold tabs at h ⊢; cases z
          . rfl
          . exact absurd rfl h
    |cons a l=>unfold tabs;cases z<;>rfl
   obtain⟨v,s',a1,a2⟩:=F8 (c:=c) (bytes:=80) (z:=[.str [],.int .u8 0,.int .i64 0,.int .i64 0,.af,.int .i64 0,.int .i64 0]) (l.map aE.cells) hr (by decide) (by simp;omega) (by simp;omega) s hw;obtain⟨fP,t1,t2⟩:=a2.tidy;refine⟨v,fP,?_,t2⟩;rw[e,o7 hc 1 (r:=(v,s')),t1];rw[qd];simp only[ay,YS,dD];rw[a1]
theorem an7(hc:Sem c)(z:Bool)(l:List (aV))(hl:l.length<=E0)(s:St)(hw:Wf s):∃v s',c 116 [dJ z l] s=some (v,s')/\Mk 9 s s' v (l.map aV.cells):=by
 have hl:l.length<=1048576:=hl;have hr:∀r∈l.map aV.cells,r.length=9:=λr hr=>by simp only[Zc9]at hr;obtain⟨i,_,rfl⟩:=hr;rfl
 by_cases h:dJ z l= .af
 . have h0:l=[]:=by
    cases l with
    |nil=>rfl
    |cons a l=>unfold dJ at h;cases z<;>cases h
   subst h0;refine⟨.af,s,?_,Mk.start hw (Grew.refl hw)⟩;rw[h,o8 hc 1 (r:=(.af,s)),aC Plain.af (aW.refl s)];rw[qe];simp[KZ]
 . have e:dJ z l= .fl (l.map aV.cells) 9:=by
    cases l with
    |nil=>unfold dJ at h ⊢; cases z
          . rfl
          . exact absurd rfl h
    |cons a l=>unfold dJ;cases z<;>rfl
   obtain⟨v,s',a1,a2⟩:=F8 (c:=c) (bytes:=112) (z:=[.str [],.str [],.str [],.int .i64 0,.int .i64 0,.str [],.bool false,.bool false,.af]) (l.map aV.cells) hr (by decide) (by simp;omega) (by simp;omega) s hw;obtain⟨fP,t1,t2⟩:=a2.tidy;refine⟨v,fP,?_,t2⟩;rw[e,o8 hc 1 (r:=(v,s')),t1];rw[qe];simp only[ay,YS,dD];rw[a1]
structure CT(n0:Nat)(s0 s:St)(q:Pos)(rest:List AV)(V:AV)(ts:List aE)(k:Nat)(rows:List (List AV)):Prop where
 out:Mk 7 s0 s V rows
 box:s.heap.get q=some (.cells (V::rest) 0)
 F7:q.toNat<n0
 lo:n0<=s.next.toNat
 ne:∀b,aM V=some b->n0<=b.toNat
 len:rows.length=ts.length
 gK:∀(i:Nat)(t:aE)(r:List AV),k<=i->ts[i]? =some t->rows[i]? =some r->r=t.cells
 eF:∀(i:Nat)(t:aE)(r:List AV),i<k->ts[i]? =some t->rows[i]? =some r->∃v,r=t.ax v/\Mk 1 s0 s v (t.ku.map bU)/\(∀b,aM v=some b->aM V≠some b)/\∀b,aM v=some b->n0<=b.toNat
theorem an8(hc:Sem c){n0:Nat}{s0:St}{q:Pos}{rest:List AV}(x2:AV)(ts:List aE)(hl:ts.length<=1000)(hr:∀t∈ts,t.Real)(F:Nat):∀(m k f:Nat)(s:St)(V:AV)(rows:List (List AV)),m<f->k+m=ts.length->CT n0 s0 s q rest V ts k rows->
  ∃s' vY,CT n0 s0 s' q rest V ts ts.length vY/\(∀p x,aM V≠some p->s.heap.get p=some x->s'.heap.get p=some x)/\∀k2,uT c F k2 f [.ptr q 0,x2,.int .i64 (ts.length:Int),.int .i64 (k:Int)] s=k2 [.ptr q 0,x2] s':=by
 intro m;induction m with
 |zero=>
  intro k f s V rows hf h1 hT;obtain⟨f,rfl⟩:∃g,f=g+1:=⟨f - 1,by omega⟩
  obtain rfl:k=ts.length:=by omega
  refine⟨s,rows,hT,λ_ _ _ h=>h,λk2=> ?_⟩;rw[L8];simp
 |succ m ih=>
  intro k f s V rows hf h1 hT;obtain⟨f,rfl⟩:∃g,f=g+1:=⟨f - 1,by omega⟩
  have h:k<ts.length:=by omega
  have hk:k<rows.length:=by rw[hT.len];exact h
  have w:av .i64 ((k:Int)+1)=((k+1:Nat):Int):=wrap64 (by omega) (by omega);have hw:=hT.out.ai.wf;obtain⟨b,o,cs,a1,a2,a3,a4,a5,a6,a7,a8⟩:=hT.out.own.set (c:=c) (R:=AV×St) hT.out.row (by decide) hk;have gG:rows[k]=ts[k].cells:=hT.gK k _ _ (Za3 _) (H0 h) (H0 hk);have c4:cs[o+4]? =some (ints ts[k].oz ts[k].ku):=a6 4 _ (by rw[gG];rfl);obtain⟨v,s1,C,M⟩:=aff hc ts[k].oz ts[k].ku (hr _ (Zb9 h)).ku s hw;have b4:=M.ai.get a4;have q4:=M.ai.get hT.box;obtain⟨vc,v1⟩:=M.cells;have hbq:b≠q:=λe=>by have:=hT.ne _ a3;have:=hT.F7;subst e;omega
  have yo:=hT.out.new b a3;have zK:=hw _ _ a4;have bE:∀(K:AV->St->Option (AV×St)),aq c (.store 1) [.ptr b (o+4),v] s1 K=K .undef (bk s1 b (.cells (aX cs (o+4) [v]) 0)):=λK=>by
   rw[cr c K s1 1 b (o+4) v cs b4 (by rw[vc];rfl) (by omega) (by rw[vc];exact v1),vc]
  have G2:Grew s0 (bk s1 b (.cells (aX cs (o+4) [v]) 0)):=⟨jV M.ai.wf (by have:=M.ai.next;omega),λp x hp=>by have:=hT.out.jJ _ _ hp;rw[aJ (λe=>by rw[e]at yo;omega)];exact(hT.out.ai.trans M.ai).get hp,by rw[dQ];exact(hT.out.ai.trans M.ai).next⟩
  have yC:∀p x,p≠b->s1.heap.get p=some x->(bk s1 b (.cells (aX cs (o+4) [v]) 0)).heap.get p=some x:=λp x hp hx=>by rw[aJ (λe=>hp e.symm)];exact hx
  have T5:CT n0 s0 (bk s1 b (.cells (aX cs (o+4) [v]) 0)) q rest V ts (k+1) (rows.set k (rows[k].set 4 v)):=by
   refine⟨⟨hT.out.jJ,G2,a7 4 v _ (by omega) (bP _ _ _),hT.out.new,λr Xw=> ?_,hT.out.cap,λp hp=>by rw[a3]at hp;cases hp;rw[bP];rw[a8 4 v (by omega) (AB.cells.inj (Zi7 (a4.symm.trans (hT.out.tight b a3)))).1]⟩,yC q _ (λe=>hbq e.symm) q4,hT.F7,by rw[dQ];exact Zb1 hT.lo M.ai.next,hT.ne,by rw[Zl6];exact hT.len,λi t r hi h3 h4=> ?_,λi t r hi h3 h4=> ?_⟩
   .    rcases Zg7 Xw with h5|h5
        . exact hT.out.row r h5
        . rw[h5,Zl6];exact hT.out.row _ (Zb9 hk)
   .    rw[Ze5 (by omega)]at h4;exact hT.gK i t r (by omega) h3 h4
   .    by_cases EU:i=k
        . subst EU;rw[H0 h]at h3;cases h3;rw[Zf0 hk]at h4;cases h4;refine⟨v,by rw[gG];rfl,Mk.rQ (M.back hT.out.jJ hT.out.ai) G2 λp x hp hx=>yC p x (λe=>by subst e;have:=M.new _ hp;omega) hx,λp hp e=> ?_,λp hp=> ?_⟩
          . rw[a3]at e;cases e;have:=M.new _ hp;omega
          . have:=M.new _ hp;have:=hT.lo;omega
        . rw[Ze5 (by omega)]at h4;obtain⟨u,e1,e2,e3,e4⟩:=hT.eF i t r (by omega) h3 h4;refine⟨u,e1,Mk.rQ (e2.grow M.ai) G2 λp x hp hx=>yC p x (λe=>by subst e;exact e3 _ hp a3) hx,e3,e4⟩
  obtain⟨s',vY,d1,d3,d2⟩:=ih (k+1) f _ V _ (by omega) (by omega) T5;refine⟨s',vY,d1,λp x hp hx=>d3 p x hp (yC p x (λe=>hp (by rw[a3,e])) (M.ai.get hx)),λk2=> ?_⟩;rw[<-d2 k2,L8];have L1:∀(ok:AV->Bool)(K:AV->Option (AV×St)),ok V=true->jt (.load none) [.ptr q 0] s.heap ok K=K V:=λok K h=>Hw (by rw[hT.box];rfl) ok h K
  have L2:∀(ok:AV->Bool)(K:AV->Option (AV×St)),ok V=true->jt (.load none) [.ptr q 0] s1.heap ok K=K V:=λok K h=>Hw (by rw[q4];rfl) ok h K
  have L3:∀(ok:AV->Bool)(K:AV->Option (AV×St)),ok (ints ts[k].oz ts[k].ku)=true->jt (.load none) [.ptr b (o+4)] s.heap ok K=K (ints ts[k].oz ts[k].ku):=λok K h=>Hw (by rw[a4];exact c4) ok h K
  have q1:=LS (p:=q) (o:=0) (h:=s.heap) (v:=V) (by rw[hT.box];rfl) hT.out.beq;simp[h,hT.box,a4,c4,L2,a2,C,q1,bE,w]
structure CG(n0:Nat)(s0 s:St)(q:Pos)(V1:AV)(rest:List AV)(V:AV)(ts:List aV)(k:Nat)(rows:List (List AV)):Prop where
 out:Mk 9 s0 s V rows
 box:s.heap.get q=some (.cells (V1::V::rest) 0)
 F7:q.toNat<n0
 lo:n0<=s.next.toNat
 ne:∀b,aM V=some b->n0<=b.toNat
 len:rows.length=ts.length
 gK:∀(i:Nat)(t:aV)(r:List AV),k<=i->ts[i]? =some t->rows[i]? =some r->r=t.cells
 eF:∀(i:Nat)(t:aV)(r:List AV),i<k->ts[i]? =some t->rows[i]? =some r->∃v,r=t.ax v/\Mk 1 s0 s v (t.tg.map SY)/\(∀b,aM v=some b->aM V≠some b)/\∀b,aM v=some b->n0<=b.toNat
theorem an9(hc:Sem c){n0:Nat}{s0:St}{q:Pos}{V1:AV}{rest:List AV}(x2:AV)(ts:List aV)(hl:ts.length<=1000)(hr:∀t∈ts,t.Real)(F:Nat):∀(m k f:Nat)(s:St)(V:AV)(rows:List (List AV)),m<f->k+m=ts.length->CG n0 s0 s q V1 rest V ts k rows->
  ∃s' vY,CG n0 s0 s' q V1 rest V ts ts.length vY/\(∀p x,aM V≠some p->s.heap.get p=some x->s'.heap.get p=some x)/\∀k2,uU c F k2 f [.ptr q 0,x2,.int .i64 (ts.length:Int),.int .i64 (k:Int)] s=k2 [.ptr q 0,x2] s':=by
 intro m;induction m with
 |zero=>
  intro k f s V rows hf h1 hT;obtain⟨f,rfl⟩:∃g,f=g+1:=⟨f - 1,by omega⟩
  obtain rfl:k=ts.length:=by omega
  refine⟨s,rows,hT,λ_ _ _ h=>h,λk2=> ?_⟩;rw[L9];simp
 |succ m ih=>
  intro k f s V rows hf h1 hT;obtain⟨f,rfl⟩:∃g,f=g+1:=⟨f - 1,by omega⟩
  have h:k<ts.length:=by omega
  have hk:k<rows.length:=by rw[hT.len];exact h
  have w:av .i64 ((k:Int)+1)=((k+1:Nat):Int):=wrap64 (by omega) (by omega);have hw:=hT.out.ai.wf;obtain⟨b,o,cs,a1,a2,a3,a4,a5,a6,a7,a8⟩:=hT.out.own.set (c:=c) (R:=AV×St) hT.out.row (by decide) hk;have gG:rows[k]=ts[k].cells:=hT.gK k _ _ (Za3 _) (H0 h) (H0 hk);have c4:cs[o+8]? =some (kZ ts[k].tz ts[k].tg):=a6 8 _ (by rw[gG];rfl);obtain⟨v,s1,C,M⟩:=an3 hc ts[k].tz ts[k].tg (hr _ (Zb9 h)).tg s hw;have b4:=M.ai.get a4;have q4:=M.ai.get hT.box;obtain⟨vc,v1⟩:=M.cells;have hbq:b≠q:=λe=>by have:=hT.ne _ a3;have:=hT.F7;subst e;omega
  have yo:=hT.out.new b a3;have zK:=hw _ _ a4;have bE:∀(K:AV->St->Option (AV×St)),aq c (.store 1) [.ptr b (o+8),v] s1 K=K .undef (bk s1 b (.cells (aX cs (o+8) [v]) 0)):=λK=>by
   rw[cr c K s1 1 b (o+8) v cs b4 (by rw[vc];rfl) (by omega) (by rw[vc];exact v1),vc]
  have G2:Grew s0 (bk s1 b (.cells (aX cs (o+8) [v]) 0)):=⟨jV M.ai.wf (by have:=M.ai.next;omega),λp x hp=>by have:=hT.out.jJ _ _ hp;rw[aJ (λe=>by rw[e]at yo;omega)];exact(hT.out.ai.trans M.ai).get hp,by rw[dQ];exact(hT.out.ai.trans M.ai).next⟩
  have yC:∀p x,p≠b->s1.heap.get p=some x->(bk s1 b (.cells (aX cs (o+8) [v]) 0)).heap.get p=some x:=λp x hp hx=>by rw[aJ (λe=>hp e.symm)];exact hx
  have T5:CG n0 s0 (bk s1 b (.cells (aX cs (o+8) [v]) 0)) q V1 rest V ts (k+1) (rows.set k (rows[k].set 8 v)):=by
   refine⟨⟨hT.out.jJ,G2,a7 8 v _ (by omega) (bP _ _ _),hT.out.new,λr Xw=> ?_,hT.out.cap,λp hp=>by rw[a3]at hp;cases hp;rw[bP];rw[a8 8 v (by omega) (AB.cells.inj (Zi7 (a4.symm.trans (hT.out.tight b a3)))).1]⟩,yC q _ (λe=>hbq e.symm) q4,hT.F7,by rw[dQ];exact Zb1 hT.lo M.ai.next,hT.ne,by rw[Zl6];exact hT.len,λi t r hi h3 h4=> ?_,λi t r hi h3 h4=> ?_⟩
   .    rcases Zg7 Xw with h5|h5
        . exact hT.out.row r h5
        . rw[h5,Zl6];exact hT.out.row _ (Zb9 hk)
   .    rw[Ze5 (by omega)]at h4;exact hT.gK i t r (by omega) h3 h4
   .    by_cases EU:i=k
        . subst EU;rw[H0 h]at h3;cases h3;rw[Zf0 hk]at h4;cases h4;refine⟨v,by rw[gG];rfl,Mk.rQ (M.back hT.out.jJ hT.out.ai) G2 λp x hp hx=>yC p x (λe=>by subst e;have:=M.new _ hp;omega) hx,λp hp e=> ?_,λp hp=> ?_⟩
          . rw[a3]at e;cases e;have:=M.new _ hp;omega
          . have:=M.new _ hp;have:=hT.lo;omega
        . rw[Ze5 (by omega)]at h4;obtain⟨u,e1,e2,e3,e4⟩:=hT.eF i t r (by omega) h3 h4;refine⟨u,e1,Mk.rQ (e2.grow M.ai) G2 λp x hp hx=>yC p x (λe=>by subst e;exact e3 _ hp a3) hx,e3,e4⟩
  obtain⟨s',vY,d1,d3,d2⟩:=ih (k+1) f _ V _ (by omega) (by omega) T5;refine⟨s',vY,d1,λp x hp hx=>d3 p x hp (yC p x (λe=>hp (by rw[a3,e])) (M.ai.get hx)),λk2=> ?_⟩;rw[<-d2 k2,L9];have L1:∀(ok:AV->Bool)(K:AV->Option (AV×St)),ok V=true->jt (.load none) [.ptr q 1] s.heap ok K=K V:=λok K h=>Hw (by rw[hT.box];rfl) ok h K
  have L2:∀(ok:AV->Bool)(K:AV->Option (AV×St)),ok V=true->jt (.load none) [.ptr q 1] s1.heap ok K=K V:=λok K h=>Hw (by rw[q4];rfl) ok h K
  have L3:∀(ok:AV->Bool)(K:AV->Option (AV×St)),ok (kZ ts[k].tz ts[k].tg)=true->jt (.load none) [.ptr b (o+8)] s.heap ok K=K (kZ ts[k].tz ts[k].tg):=λok K h=>Hw (by rw[a4];exact c4) ok h K
  have q1:=LS (p:=q) (o:=1) (h:=s.heap) (v:=V) (by rw[hT.box];rfl) hT.out.beq;simp[h,hT.box,a4,c4,L2,a2,C,q1,bE,w]
theorem ld{p:Pos}{o:Nat}{t:St}{cs:List AV}{v:AV}(h:t.heap.get p=some (.cells cs 0))(hv:cs[o]? =some v):((cellsOf (t.heap.get p)).bind λcs=>cs[o]?)=some v:=by rw[h];exact hv
set_option maxHeartbeats 1000000 in
theorem alZ(hc:Sem c)(p:cw)(hp:p.Real)(s:St)(hw:Wf s):∃Vs s',c 57 [.agg p.cells] s=some (.agg Vs,s')/\PS s s' Vs p:=by
 have cV:Wf (ah s (.cells p.cells 0)):=bG hw;have hwB:Wf (ah (ah s (.cells p.cells 0)) (.cells [.af,.af,.af,.af,.af] 0)):=bG cV;have gB:=(Grew.ah hw (.cells p.cells 0)).trans (Grew.ah cV (.cells [.af,.af,.af,.af,.af] 0));have qB:(ah (ah s (.cells p.cells 0)) (.cells [.af,.af,.af,.af,.af] 0)).heap.get s.next=some (.cells p.cells 0):=(Grew.ah cV _).get (aA _ _);have pB:=aA (ah s (.cells p.cells 0)) (.cells [.af,.af,.af,.af,.af] 0);have nl:s.next.toNat<(ah s (.cells p.cells 0)).next.toNat:=by rw[bQ,Pos.aF];omega
 generalize hsB:ah (ah s (.cells p.cells 0)) (.cells [.af,.af,.af,.af,.af] 0)=sB at hwB gB qB pB;generalize GH:(ah s (.cells p.cells 0)).next=p2 at pB nl;have lt2:=hwB _ _ pB;have ltq:=hwB _ _ qB;have nqp:s.next≠p2:=λe=>by rw[e]at nl;omega
 have hlT:p.ts.length<=E0:=Zb1 hp.ts (by decide);have hlG:p.gs.length<=E0:=Zb1 hp.gs (by decide);obtain⟨V1,s1,C1,M1⟩:=an6 hc p.tz p.ts hlT sB hwB;obtain⟨c1,o1⟩:=M1.cells;have q1:=M1.ai.get qB;have b1:p.cells=tabs p.tz p.ts::[dJ p.gz p.gs,gM p.yz p.ys,ints p.cz p.cs,iY p.rz p.rs]:=rfl;have t1:∀(K:AV->St->Option (AV×St)),aq c (.store 1) [.ptr s.next 0,V1] s1 K=K .undef (bk s1 s.next (.cells (V1::[dJ p.gz p.gs,gM p.yz p.ys,ints p.cz p.cs,iY p.rz p.rs]) 0)):=λK=>by rw[cr c K s1 1 s.next 0 V1 p.cells q1 (by rw[c1];rfl) (by rw[b1];simp) (by rw[c1];exact o1),c1];rfl
 have lq1:=M1.ai.wf _ _ q1;have G2:Grew s (bk s1 s.next (.cells (V1::[dJ p.gz p.gs,gM p.yz p.ys,ints p.cz p.cs,iY p.rz p.rs]) 0)):=⟨jV M1.ai.wf lq1,λr x hr=>by have:=hw _ _ hr;rw[aJ (λe=>by rw[e]at this;omega)];exact(gB.trans M1.ai).get hr,by rw[dQ];exact(gB.trans M1.ai).next⟩
 have T2:CT sB.next.toNat s (bk s1 s.next (.cells (V1::[dJ p.gz p.gs,gM p.yz p.ys,ints p.cz p.cs,iY p.rz p.rs]) 0)) s.next [dJ p.gz p.gs,gM p.yz p.ys,ints p.cz p.cs,iY p.rz p.rs] V1 p.ts 0 (p.ts.map aE.cells):=by
  refine⟨⟨hw,G2,M1.own.mono λb x hb hx=> ?_,λb hb=>Zb1 gB.next (M1.new b hb),M1.row,M1.cap,λb hb=>by rw[aJ (λe=>by have:=M1.new _ hb;rw[<-e]at this;omega)];exact M1.tight b hb⟩,bP _ _ _,ltq,by rw[dQ];exact M1.ai.next,M1.new,by simp,λi t r _ h3 h4=> ?_,λi t r h=>by omega⟩
  . rw[aJ (λe=>by have:=M1.new _ hb;rw[<-e]at this;omega)];exact hx
  . rw[Zb8,h3]at h4;simpa using h4.symm
 generalize uu:bk s1 s.next (.cells (V1::[dJ p.gz p.gs,gM p.yz p.ys,ints p.cz p.cs,iY p.rz p.rs]) 0)=s2 at t1 G2 T2;have p2a:s2.heap.get p2=some (.cells [.af,.af,.af,.af,.af] 0):=by rw[<-uu,aJ nqp];exact M1.ai.get pB
 have l1:∀(K:AV->St->Option (AV×St))(t:St),aq c (.lenB .l) [V1] t K=K (.int .i64 (p.ts.length:Int)) t:=λK t=>by rw[M1.own.lenB];simp
 obtain⟨s3,r1,D1,D2,D3⟩:=an8 hc (.ptr p2 0) p.ts hp.ts hp.tab 2000 p.ts.length 0 2000 s2 V1 _ (by have:=hp.ts;omega) (by omega) T2;have p3:s3.heap.get p2=some (.cells [.af,.af,.af,.af,.af] 0):=D2 p2 _ (λe=>by have:=M1.new _ e;omega) p2a;have q3:=D1.box;obtain⟨V2,s4,C2,M2⟩:=an7 hc p.gz p.gs hlG s3 D1.out.ai.wf;obtain⟨c2,o2⟩:=M2.cells;have q4:=M2.ai.get q3;have t2:∀(K:AV->St->Option (AV×St)),aq c (.store 1) [.ptr s.next 1,V2] s4 K=K .undef (bk s4 s.next (.cells (V1::V2::[gM p.yz p.ys,ints p.cz p.cs,iY p.rz p.rs]) 0)):=λK=>by rw[cr c K s4 1 s.next 1 V2 _ q4 (by rw[c2];rfl) (by simp) (by rw[c2];exact o2),c2];rfl
 have lq4:=M2.ai.wf _ _ q4;have n3B:sB.next.toNat<=s3.next.toNat:=D1.lo;have G3:=D1.out.ai;have G5:Grew s (bk s4 s.next (.cells (V1::V2::[gM p.yz p.ys,ints p.cz p.cs,iY p.rz p.rs]) 0)):=⟨jV M2.ai.wf lq4,λr x hr=>by have:=hw _ _ hr;rw[aJ (λe=>by rw[e]at this;omega)];exact(G3.trans M2.ai).get hr,by rw[dQ];exact(G3.trans M2.ai).next⟩
 have T5:CG s3.next.toNat s (bk s4 s.next (.cells (V1::V2::[gM p.yz p.ys,ints p.cz p.cs,iY p.rz p.rs]) 0)) s.next V1 [gM p.yz p.ys,ints p.cz p.cs,iY p.rz p.rs] V2 p.gs 0 (p.gs.map aV.cells):=by
  refine⟨⟨hw,G5,M2.own.mono λb x hb hx=> ?_,λb hb=>Zb1 G3.next (M2.new b hb),M2.row,M2.cap,λb hb=>by rw[aJ (λe=>by have:=M2.new _ hb;rw[<-e]at this;omega)];exact M2.tight b hb⟩,bP _ _ _,by omega,by rw[dQ];exact M2.ai.next,M2.new,by simp,λi t r _ h3 h4=> ?_,λi t r h=>by omega⟩
  . rw[aJ (λe=>by have:=M2.new _ hb;rw[<-e]at this;omega)];exact hx
  . rw[Zb8,h3]at h4;simpa using h4.symm
 have arB:∀r x,r≠s.next->s3.heap.get r=some x->(bk s4 s.next (.cells (V1::V2::[gM p.yz p.ys,ints p.cz p.cs,iY p.rz p.rs]) 0)).heap.get r=some x:=λr x hr hx=>by rw[aJ (λe=>hr e.symm)];exact M2.ai.get hx
 generalize hs5:bk s4 s.next (.cells (V1::V2::[gM p.yz p.ys,ints p.cz p.cs,iY p.rz p.rs]) 0)=s5 at t2 G5 T5 arB;have l2:∀(K:AV->St->Option (AV×St))(t:St),aq c (.lenB .l) [V2] t K=K (.int .i64 (p.gs.length:Int)) t:=λK t=>by rw[M2.own.lenB];simp
 obtain⟨s6,r2,E1,E2,E3⟩:=an9 hc (.ptr p2 0) p.gs hp.gs hp.pV 2000 p.gs.length 0 2000 s5 V2 _ (by have:=hp.gs;omega) (by omega) T5;have q5:=T5.box;have q6:=E1.box;have al0:∀r x,r≠s.next->r.toNat<s3.next.toNat->s3.heap.get r=some x->s6.heap.get r=some x:=λr x hr hl hx=>E2 r x (λe=>by have:=T5.ne _ e;omega) (arB r x hr hx)
 obtain⟨V3,s7,C3,M3⟩:=an4 hc p.yz p.ys hp.ys s6 E1.out.ai.wf;obtain⟨V4,s8,C4,M4⟩:=aff hc p.cz p.cs hp.cs s7 M3.ai.wf;obtain⟨V5,s9,C5,M5⟩:=an5 hc p.rz p.rs hp.rs s8 M4.ai.wf;obtain⟨c3,o3⟩:=M3.cells;obtain⟨c4,o4⟩:=M4.cells;obtain⟨c5,o5⟩:=M5.cells;have G69:=M3.ai.trans (M4.ai.trans M5.ai);have q7:=M3.ai.get q6;have q8:=M4.ai.get q7;have q9:=M5.ai.get q8;have t3:∀(K:AV->St->Option (AV×St)),aq c (.store 1) [.ptr s.next 2,V3] s9 K=K .undef (bk s9 s.next (.cells [V1,V2,V3,ints p.cz p.cs,iY p.rz p.rs] 0)):=λK=>by rw[cr c K s9 1 s.next 2 V3 _ q9 (by rw[c3];rfl) (by simp) (by rw[c3];exact o3),c3];rfl
 have t4:∀(K:AV->St->Option (AV×St)),aq c (.store 1) [.ptr s.next 3,V4] (bk s9 s.next (.cells [V1,V2,V3,ints p.cz p.cs,iY p.rz p.rs] 0)) K=K .undef (bk s9 s.next (.cells [V1,V2,V3,V4,iY p.rz p.rs] 0)):=λK=>by rw[cr c K _ 1 s.next 3 V4 _ (bP _ _ _) (by rw[c4];rfl) (by simp) (by rw[c4];exact o4),c4,Pz];rfl
 have t5:∀(K:AV->St->Option (AV×St)),aq c (.store 1) [.ptr s.next 4,V5] (bk s9 s.next (.cells [V1,V2,V3,V4,iY p.rz p.rs] 0)) K=K .undef (bk s9 s.next (.cells [V1,V2,V3,V4,V5] 0)):=λK=>by rw[cr c K _ 1 s.next 4 V5 _ (bP _ _ _) (by rw[c5];rfl) (by simp) (by rw[c5];exact o5),c5,Pz];rfl
 have one:aS [V1,V2,V3,V4,V5]=true:=by
  simp only[aS,Zi5]at o1 o2 o3 o4 o5;simp only[aS,o1,o2,o3,o4,o5,Zk1]
 have p9:(bk s9 s.next (.cells [V1,V2,V3,V4,V5] 0)).heap.get p2=some (.cells [.af,.af,.af,.af,.af] 0):=by
  rw[aJ nqp];exact G69.get (al0 p2 _ (λe=>nqp e.symm) (by have:=D1.out.ai.wf _ _ p3;exact this) p3)
 have t6:∀(K:AV->St->Option (AV×St)),aq c (.store 5) [.ptr p2 0,.agg [V1,V2,V3,V4,V5]] (bk s9 s.next (.cells [V1,V2,V3,V4,V5] 0)) K=K .undef (bk (bk s9 s.next (.cells [V1,V2,V3,V4,V5] 0)) p2 (.cells [V1,V2,V3,V4,V5] 0)):=λK=>by rw[cr c K _ 5 p2 0 (.agg [V1,V2,V3,V4,V5]) _ p9 rfl (by simp) one];rfl
 have G6:=E1.out.ai;have G9:=G6.trans G69;have lq9:=G69.wf _ _ q9;have lp9:=G69.wf _ _ (G69.get (al0 p2 _ (λe=>nqp e.symm) (D1.out.ai.wf _ _ p3) p3));have G13:Grew s (bk (bk s9 s.next (.cells [V1,V2,V3,V4,V5] 0)) p2 (.cells [V1,V2,V3,V4,V5] 0)):=⟨jV (jV G69.wf lq9) lp9,λr x hr=>by have:=hw _ _ hr;rw[aJ (λe=>by rw[<-e]at this;omega),aJ (λe=>by rw[<-e]at this;omega)];exact G9.get hr,by rw[dQ,dQ];exact G9.next⟩
 have yC:∀r x,sB.next.toNat<=r.toNat->s9.heap.get r=some x->(bk (bk s9 s.next (.cells [V1,V2,V3,V4,V5] 0)) p2 (.cells [V1,V2,V3,V4,V5] 0)).heap.get r=some x:=λr x hr hx=>by rw[aJ (λe=>by rw[<-e]at hr;omega),aJ (λe=>by rw[<-e]at hr;omega)];exact hx
 have n36:s3.next.toNat<=s6.next.toNat:=E1.lo;generalize hs13:bk (bk s9 s.next (.cells [V1,V2,V3,V4,V5] 0)) p2 (.cells [V1,V2,V3,V4,V5] 0)=NK at t6 G13 yC;have F1:TS s NK V1 p.ts r1:=by
  have keep:∀(es:Nat)(u:AV)(rows:List (List AV)),Mk es s s3 u rows->(∀b,aM u=some b->sB.next.toNat<=b.toNat)->Mk es s NK u rows:=λes u rows hu hb=>Mk.rQ hu G13 λb x hbu hx=>yC b x (hb b hbu) (G69.get (al0 b x (λe=>by have:=hb b hbu;rw[e]at this;omega) (hu.ai.wf _ _ hx) hx))
  refine⟨keep _ _ _ D1.out D1.ne,D1.len,λi t r hi hr=> ?_⟩;obtain⟨v,e1,e2,e3,e4⟩:=D1.eF i t r (Za2.1 hi).1 hi hr;exact⟨v,e1,keep _ _ _ e2 e4,e3⟩
 have F2:GS s NK V2 p.gs r2:=by
  have keep:∀(es:Nat)(u:AV)(rows:List (List AV)),Mk es s s6 u rows->(∀b,aM u=some b->s3.next.toNat<=b.toNat)->Mk es s NK u rows:=λes u rows hu hb=>Mk.rQ hu G13 λb x hbu hx=>yC b x (Zb1 n3B (hb b hbu)) (G69.get hx)
  refine⟨keep _ _ _ E1.out E1.ne,E1.len,λi t r hi hr=> ?_⟩;obtain⟨v,e1,e2,e3,e4⟩:=E1.eF i t r (Za2.1 hi).1 hi hr;exact⟨v,e1,keep _ _ _ e2 e4,e3⟩
 have F3:Mk 3 s NK V3 (p.ys.map Ty.cells):=M3.rU hw G6 G13 λr x hr hx=>yC r x (by omega) ((M4.ai.trans M5.ai).get hx)
 have F4:Mk 1 s NK V4 (p.cs.map bU):=M4.rU hw (G6.trans M3.ai) G13 λr x hr hx=>yC r x (by have:=M3.ai.next;omega) (M5.ai.get hx)
 have F5:Mk 6 s NK V5 (p.rs.map Rl.cells):=M5.rU hw (G6.trans (M3.ai.trans M4.ai)) G13 λr x hr hx=>yC r x (by have:=M3.ai.next;have:=M4.ai.next;omega) hx
 have fin:∃fP,tidy s (.agg [V1,V2,V3,V4,V5],NK)=(.agg [V1,V2,V3,V4,V5],fP)/\PS s fP [V1,V2,V3,V4,V5] p:=by
  unfold tidy;by_cases hP:Plain (AV.agg [V1,V2,V3,V4,V5],NK).1/\aW s (AV.agg [V1,V2,V3,V4,V5],NK).2
  . rw[Zb2 hP];have inst:∀v∈[V1,V2,V3,V4,V5],dY v:=λv hv=>by
        simp only[Zb0,Zc5,Zf3]at hv;rcases hv with rfl|rfl|rfl|rfl|rfl
        . exact F1.out.inst
        . exact F2.out.inst
        . exact F3.inst
        . exact F4.inst
        . exact F5.inst
    have k1:=F1.out.loose.resolve_left λ⟨b,off,n,e⟩=>absurd hP.1 (nv inst (b:=b) (off:=off) (n:=n) (es:=7) (by rw[<-e];simp))
    have k2:=F2.out.loose.resolve_left λ⟨b,off,n,e⟩=>absurd hP.1 (nv inst (b:=b) (off:=off) (n:=n) (es:=9) (by rw[<-e];simp))
    have k3:=F3.loose.resolve_left λ⟨b,off,n,e⟩=>absurd hP.1 (nv inst (b:=b) (off:=off) (n:=n) (es:=3) (by rw[<-e];simp))
    have k4:=F4.loose.resolve_left λ⟨b,off,n,e⟩=>absurd hP.1 (nv inst (b:=b) (off:=off) (n:=n) (es:=1) (by rw[<-e];simp))
    have k5:=F5.loose.resolve_left λ⟨b,off,n,e⟩=>absurd hP.1 (nv inst (b:=b) (off:=off) (n:=n) (es:=6) (by rw[<-e];simp))
    exact⟨s,rfl,Grew.refl hw,V1,V2,V3,V4,V5,r1,r2,rfl,⟨k1.1 s hw,F1.len,λi t r _ h=>by rw[k1.2]at h;simp at h⟩,⟨k2.1 s hw,F2.len,λi t r _ h=>by rw[k2.2]at h;simp at h⟩,k3.1 s hw,k4.1 s hw,k5.1 s hw⟩
  . rw[Za7 hP];exact⟨_,rfl,G13,V1,V2,V3,V4,V5,r1,r2,rfl,F1,F2,F3,F4,F5⟩
 obtain⟨fP,u1,u2⟩:=fin;refine⟨_,fP,?_,u2⟩;rw[ac4 hc 2000 (r:=(.agg [V1,V2,V3,V4,V5],NK)),u1];rw[af4];have p13:NK.heap.get p2=some (.cells [V1,V2,V3,V4,V5] 0):=by rw[<-hs13];exact bP _ _ _
 have hcut:cut [V1,V2,V3,V4,V5] 0 5=some [V1,V2,V3,V4,V5]:=cW rfl;have L3:∀(ok:AV->Bool)(K:AV->Option (AV×St)),ok (ints p.cz p.cs)=true->jt (.load none) [.ptr s.next 3] s7.heap ok K=K (ints p.cz p.cs):=λok K h=>Hw (ld q7 rfl) ok h K
 have L4:∀(ok:AV->Bool)(K:AV->Option (AV×St)),ok (iY p.rz p.rs)=true->jt (.load none) [.ptr s.next 4] s8.heap ok K=K (iY p.rz p.rs):=λok K h=>Hw (ld q8 rfl) ok h K
 have b3:=Wk (acV (d:=2) p.cz p.cs);have b4:=Wk (anR p.rz p.rs);have w36:=LS (p:=s.next) (o:=3) (h:=s6.heap) (v:=ints p.cz p.cs) (ld q6 rfl) b3;have w46:=LS (p:=s.next) (o:=4) (h:=s6.heap) (v:=iY p.rz p.rs) (ld q6 rfl) b4;have w47:=LS (p:=s.next) (o:=4) (h:=s7.heap) (v:=iY p.rz p.rs) (ld q7 rfl) b4;have q2:=T2.box;have D3':=λk2=>D3 k2
 have E3':=λk2=>E3 k2
 simp at D3' E3';simp[hsB,GH,qB,C1,t1,q2,l1,D3',q3,C2,t2,q5,l2,E3',q6,C3,L3,w36,C4,L4,w46,w47,C5,t3,t4,t5,hcut,t6,hs13,p13]
theorem PS.rU{s0 s1 s s':St}{Vs:List AV}{p:cw}(h:PS s1 s Vs p)(h0:Wf s0)(Nt:Grew s0 s1)(hg:Grew s0 s')(hk:∀q b,s1.next.toNat<=q.toNat->s.heap.get q=some b->s'.heap.get q=some b):PS s0 s' Vs p:=by
 obtain⟨G,V1,V2,V3,V4,V5,r1,r2,rfl,F1,F2,F3,F4,F5⟩:=h;exact⟨hg,V1,V2,V3,V4,V5,r1,r2,rfl,F1.rU h0 Nt hg hk,F2.rU h0 Nt hg hk,F3.rU h0 Nt hg hk,F4.rU h0 Nt hg hk,F5.rU h0 Nt hg hk⟩
theorem PS.cells{s0 s:St}{Vs:List AV}{p:cw}(h:PS s0 s Vs p):Vs.length=5/\aS Vs=true:=by
 obtain⟨G,V1,V2,V3,V4,V5,r1,r2,rfl,F1,F2,F3,F4,F5⟩:=h;have o1:=F1.out.cells.2;have o2:=F2.out.cells.2;have o3:=F3.cells.2;have o4:=F4.cells.2;have o5:=F5.cells.2;simp only[aS,Zi5]at o1 o2 o3 o4 o5;exact⟨rfl,by simp only[aS,o1,o2,o3,o4,o5,Zk1]⟩
def kC(h:Int):List Int->List (Int×Int)->List Int->List (Int×Int)×List Int
 |[],E,q=>(E,q)
 |k::l,E,q=>if jW E k=none then kC h l (E++[(k,av .i64 ((jW E h).getD 0+1))]) (q++[k])else kC h l E q
structure WI(s0 s:St)(m:Pos)(E:List (Int×Int))(v:AV)(q:List Int):Prop where
 jJ:Wf s0
 ai:Grew s0 s
 mp:s.heap.get m=some (im E)
 al3:s0.next.toNat<=m.toNat
 LW:QS 1 s v (q.map bU)
 F7:∀b,aM v=some b->s0.next.toNat<=b.toNat
 nem:aM v≠some m
theorem YT(l:List Int):∀r∈l.map bU,r.length=1:=λr hr=>by simp only[Zc9]at hr;obtain⟨m,_,rfl⟩:=hr;rfl
theorem arC{s0:St}{m:Pos}{lv:AV}{l:List Int}(hl:QS 1 s0 lv (l.map bU))(hll:l.length<=1000)(h:Int)(F:Nat):∀(r i f:Nat)(s:St)(E:List (Int×Int))(v:AV)(q:List Int),r<f->i+r=l.length->WI s0 s m E v (h::q)->q.length+r<=100000->
  ∃ s' v' q',kC h (l.drop i) E (h::q)=((kC h (l.drop i) E (h::q)).1,h::q')/\WI s0 s' m (kC h (l.drop i) E (h::q)).1 v' (h::q')/\q'.length<=q.length+r/\(∀p x,p≠m->aM v≠some p->s.heap.get p=some x->s'.heap.get p=some x/\aM v'≠some p)/\
    ∀(x0 QD x42 x43:AV)(k6),jF c F k6 f [x0,.map m,v,QD,x42,x43,lv,.int .i64 (l.length:Int),.int .i64 (i:Int)] s=k6 [x0,.map m,v',QD,x42,x43] s':=by
 intro r;induction r with
 |zero=>
  intro i f s E v q hf h1 hI hq;obtain⟨f,rfl⟩:∃g,f=g+1:=⟨f - 1,by omega⟩
  obtain rfl:i=l.length:=by omega
  refine⟨s,v,q,?_,?_,by omega,λp x _ hp hx=>⟨hx,hp⟩,λx0 QD x42 x43 k6=> ?_⟩
  . simp[kC]
  . simpa [kC]using hI
  . rw[vZ];simp
 |succ r ih=>
  intro i f s E v q hf h1 hI hq;obtain⟨f,rfl⟩:∃g,f=g+1:=⟨f - 1,by omega⟩
  have hi:i<l.length:=by omega
  have w:av .i64 ((i:Int)+1)=((i+1:Nat):Int):=wrap64 (by omega) (by omega);have hls:QS 1 s lv (l.map bU):=hl.mono λb x _ hx=>hI.ai.get hx
  obtain⟨b,o,cs,a1,_,a3,a4⟩:=hls.at (c:=c) (R:=AV×St) (YT l) (by decide) (i:=i) (by simpa using hi);have gi:cs[o]? =some (.int .i64 l[i]):=by simpa using a4 0 (.int .i64 l[i]) (by simp)
  have LK:=λ(K:AV->St->Option (AV×St))=>apD c K hI.mp l[i]
  rw[Zd1 hi];cases hk:jW E l[i]with
  | none=>
    obtain⟨b2,o2,cs2,d1,d0,d3,d4⟩:=hI.LW.at (c:=c) (R:=AV×St) (YT (h::q)) (by decide) (i:=0) (by simp);have g0:cs2[o2]? =some (.int .i64 h):=(by simpa using d4 0 (.int .i64 h) rfl);have i0:∀(K:AV->St->Option (AV×St))(s1:St),aq c (.idxA 1 none) [v,.int .i64 0] s1 K=K (.ptr b2 o2) s1:=λK s1=>d1 K .i64 s1
    have LH:=λ(K:AV->St->Option (AV×St))=>atC c K hI.mp h
    have MS:=λ(K:AV->St->Option (AV×St))=>ahm c K hI.mp hk (av .i64 ((jW E h).getD 0+1))
    generalize hd:av .i64 ((jW E h).getD 0+1)=d at MS;have lm:=hI.ai.wf _ _ hI.mp;have G1:Grew s0 (bk s m (im (E++[(l[i],d)]))):=⟨jV hI.ai.wf lm,λp x hp=>by have:=hI.jJ _ _ hp;rw[aJ (λe=>by have:=hI.al3;rw[e]at this;omega)];exact hI.ai.get hp,by rw[dQ];exact hI.ai.next⟩
    have q1:QS 1 (bk s m (im (E++[(l[i],d)]))) v ((h::q).map bU):=hI.LW.mono λb x hb hx=>by rw[aJ (λe=>hI.nem (by rw[hb,e]))];exact hx
    have m1:=bP s m (im (E++[(l[i],d)]));obtain⟨s5,v5,e1,e2,e3,e4,e5,e6⟩:=q1.push (c:=c) (R:=AV×St) (bytes:=8) G1.wf (YT _) (z:=[.int .i64 0]) (x:= .int .i64 l[i]) rfl rfl rfl (by decide) (by simp;omega) (by simp;omega);have I5:WI s0 s5 m (E++[(l[i],d)]) v5 (h::(q++[l[i]])):=by
        refine⟨hI.jJ,⟨e3,λp x hp=> ?_,Zb1 G1.next e4⟩,e5 m _ hI.nem m1,hI.al3,by rw[<-Zd7,Zd4];exact e2,λb hb=> ?_,λe=> ?_⟩
        . refine e5 p x (λe=> ?_) (G1.get hp);have:=hI.F7 p e;have:=hI.jJ _ _ hp;omega
        . have:=e6 b hb;rw[dQ]at this;have:=hI.ai.next;omega
        . have:=e6 m e;rw[dQ]at this;omega
    obtain⟨s',v',q',f1,f2,f3,f4,f5⟩:=ih (i+1) f s5 _ v5 (q++[l[i]]) (by omega) (by omega) I5 (by simp;omega);have ew:kC h (l[i]::l.drop (i+1)) E (h::q)=kC h (l.drop (i+1)) (E++[(l[i],d)]) (h::(q++[l[i]])):=(by rw[kC,Zb2 hk,hd];rfl);rw[ew];refine⟨s',v',q',f1,f2,by simp at f3;omega,λp x j8 GH hx=> ?_,λx0 QD x42 x43 k6=> ?_⟩
    .   have ZE:=e5 p x GH (by rw[aJ (λe=>j8 e.symm)];exact hx);refine f4 p x j8 (λe=> ?_) ZE;have:=e6 p e;rw[dQ]at this;have:=hI.ai.wf _ _ hx;omega
    .   rw[<-f5 x0 QD x42 x43 k6,vZ];rw[hk]at LK;simp[-au,jU,hi,a1,a3,gi,LK,i0,d3,g0,LH,hd,MS,e1,w]
  | some d0=>
    obtain⟨s',v',q',f1,f2,f3,f4,f5⟩:=ih (i+1) f s E v q (by omega) (by omega) hI (by omega);have ew:kC h (l[i]::l.drop (i+1)) E (h::q)=kC h (l.drop (i+1)) E (h::q):=by
        rw[kC,Za7 (by rw[hk];simp)]
    rw[ew];refine⟨s',v',q',f1,f2,by omega,f4,λx0 QD x42 x43 k6=> ?_⟩;rw[<-f5 x0 QD x42 x43 k6,vZ];rw[hk]at LK;simp[jU,hi,a1,a3,gi,LK,w]
theorem abv(k d x:Int):∀E:List (Int×Int),jW (E++[(k,d)]) x=match jW E x with|some e=>some e|none=>if x=k then some d else none
 |[]=>by simp only[Ze1,jW]
 |(a,b)::E=>by
  show(if x=a then some b else jW (E++[(k,d)]) x)=_;rw[abv k d x E];show _=match (if x=a then some b else jW E x)with|some e=>some e|none=>if x=k then some d else none
  by_cases h:x=a
  . simp only[h,Zh6]
  . simp only[h,Zh0]
theorem aiA{α:Type}{P Q:α->Bool}(hPQ:∀x,P x=true->Q x=true):∀{l:List α}{a:α},a∈l->Q a=true->P a=false->l.countP P+1<=l.countP Q
 |x ::l,a,ha,h1,h2=>by
  rcases Zb0.1 ha with rfl|ha
  . rw[Zo5,Zo5,h1,h2];have:=List.countP_mono_left (l:=l) (p:=P) (q:=Q) (λx _ h=>hPQ x h);simp;omega
  . have ih:=aiA hPQ ha h1 h2;rw[Zo5,Zo5];by_cases hx:P x=true
    .   rw[hx,hPQ x hx];simp;omega
    .   have:P x=false:=(by simpa using hx);rw[this];cases Q x<;>simp<;>omega
def cnt(n:Nat)(E:List (Int×Int)):Nat:=(List.range n).countP λ(i:Nat)=>(jW E (i:Int)).isNone
theorem aqE{n:Nat}{E:List (Int×Int)}{k d:Int}(hk:0<=k/\k<(n:Int))(h:jW E k=none):cnt n (E++[(k,d)])+1<=cnt n E:=by
 unfold cnt;refine aiA (a:=k.toNat) (λi hi=> ?_) (Zh1.2 (by omega)) ?_ ?_
 . rw[abv]at hi;cases h2:jW E (i:Int)with
   |none=>rfl
   |some e=>rw[h2]at hi;cases hi
 . have:((k.toNat:Nat):Int)=k:=(by omega);rw[this,h];rfl
 . have:((k.toNat:Nat):Int)=k:=(by omega);rw[this,abv,h];simp
theorem KM{n:Nat}(h:Int):∀(l:List Int)(E:List (Int×Int))(q:List Int),(∀k∈l,0<=k/\k<(n:Int))->(∀k∈q,0<=k/\k<(n:Int))->
  cnt n (kC h l E q).1+(kC h l E q).2.length<=cnt n E+q.length/\∀k∈(kC h l E q).2,0<=k/\k<(n:Int)
 |[],E,q,_,hq=>⟨Za3 _,hq⟩
 |k ::l,E,q,hl,hq=>by
  have hk:=hl k (by simp);by_cases hn:jW E k=none
  . rw[kC,Zb2 hn];obtain⟨a,b⟩:=KM h l (E++[(k,av .i64 ((jW E h).getD 0+1))]) (q++[k]) (λx hx=>hl x (Za9 _ hx)) (λx hx=>by
        rcases Zd8.1 hx with hx|hx
        . exact hq x hx
        . simp at hx;subst hx;exact hk)
    have:=aqE (d:=av .i64 ((jW E h).getD 0+1)) hk hn;simp only[Ze3,Zc6,Zi8]at a;exact⟨by omega,b⟩
  . rw[kC,Za7 hn];exact KM h l E q (λx hx=>hl x (Za9 _ hx)) hq
structure RL(s:St)(V:AV)(rows:List (List Int))(ws:List AV):Prop where
 out:QS 1 s V (ws.map λw=>[w])
 len:ws.length=rows.length
 eF:∀(i:Nat)(w:AV)(r:List Int),ws[i]? =some w->rows[i]? =some r->QS 1 s w (r.map bU)
 lU:∀w∈ws,w.cells=[w]
def YU(rB rA:List (List Int)):Nat->List (Int×Int)->List Int->List (Int×Int)
 |0,E,_=>E
 |_+1,E,[]=>E
 |f+1,E,h::q=>YU rB rA f (kC h (rA.getD h.toNat []) (kC h (rB.getD h.toNat []) E (h::q)).1 (kC h (rB.getD h.toNat []) E (h::q)).2).1 (kC h (rA.getD h.toNat []) (kC h (rB.getD h.toNat []) E (h::q)).1 (kC h (rB.getD h.toNat []) E (h::q)).2).2.tail
set_option maxHeartbeats 2000000 in
theorem asY(hc:Sem c){s0:St}{jb m:Pos}{jc:List AV}{VB VA:AV}{rB rA:List (List Int)}{wB wA:List AV}{n:Nat}(hn:n<=10000)(hj:s0.heap.get jb=some (.cells jc 0))(h9:jc[9]? =some VB)(h10:jc[10]? =some VA)
  (hB:RL s0 VB rB wB) (hA:RL s0 VA rA wA) (lB:rB.length=n) (lA:rA.length=n) (eB:∀r∈rB,r.length<=1000/\∀k∈r,0<=k/\k<(n:Int)) (eA:∀r∈rA,r.length<=1000/\∀k∈r,0<=k/\k<(n:Int)) (F:Nat) (hF:1010<=F) (k2):
  ∀(f g:Nat)(s:St)(E:List (Int×Int))(v:AV)(q:List Int),f<g->cnt n E+q.length<=f->f<=20000->(∀k∈q,0<=k/\k<(n:Int))->WI s0 s m E v q->
   ∃s',Grew s0 s'/\s'.heap.get m=some (im (YU rB rA f E q))/\o9 c F k2 g [.ptr jb 0,.map m,v] s=k2 [.map m] s':=by
 intro f;induction f with
 |zero=>
  intro g s E v q hg h1 hf h2 hI;obtain⟨g,rfl⟩:∃g',g=g'+1:=⟨g - 1,by omega⟩
  obtain rfl:q=[]:=Zc4 (by omega);refine⟨s,hI.ai,hI.mp,?_⟩;have hl:∀(K:AV->St->Option (AV×St))(t:St),aq c (.lenB .l) [v] t K=K (.int .i64 0) t:=λK t=>by rw[hI.LW.lenB];simp
  rw[v7];simp[hl]
 |succ f ih=>
  intro g s E v q hg h1 hf h2 hI;obtain⟨g,rfl⟩:∃g',g=g'+1:=⟨g - 1,by omega⟩
  have hl:∀(K:AV->St->Option (AV×St))(t:St),aq c (.lenB .l) [v] t K=K (.int .i64 (q.length:Int)) t:=λK t=>by rw[hI.LW.lenB];simp
  cases q with
  |nil=>
   refine⟨s,hI.ai,hI.mp,?_⟩;rw[v7];simp[hl]
  |cons h q=>
   have hh:=h2 h (by simp);obtain⟨i,rfl⟩:∃i:Nat,h=(i:Int):=⟨h.toNat,by omega⟩
   have hi:i<n:=(by omega);have hw:=hI.ai.wf;obtain⟨b0,o0,cs0,_,d2,_,d4,_,d6,_⟩:=hI.LW.set (c:=c) (R:=AV×St) (YT _) (by decide) (i:=0) (by simp);have g0:cs0[o0]? =some (.int .i64 (i:Int)):=(by simpa using d6 0 (.int .i64 (i:Int)) rfl);have j0:∀(K:AV->Option (AV×St)),fu (.idxA 1 none) [v,.int .i64 0] K=K (.ptr b0 o0):=λK=>d2 K .i64
   have one:∀(ws:List AV),∀r∈ws.map (λw=>[w]),r.length=1:=λws r hr=>by simp only[Zc9]at hr;obtain⟨w,_,rfl⟩:=hr;rfl
   have iB:i<wB.length:=(by rw[hB.len,lB];exact hi);have iA:i<wA.length:=(by rw[hA.len,lA];exact hi);obtain⟨b1,o1,cs1,_,e2,_,e4,_,e6,_⟩:=(hB.out.mono (s':=s) λb x _ hx=>hI.ai.get hx).set (c:=c) (R:=AV×St) (one wB) (by decide) (i:=i) (by simpa using iB);have gB:cs1[o1]? =some wB[i]:=(by simpa using e6 0 wB[i] (by simp));have jB:∀(K:AV->Option (AV×St)),fu (.idxA 1 none) [VB,.int .i64 (i:Int)] K=K (.ptr b1 o1):=λK=>e2 K .i64
   obtain⟨b2,o2,cs2,_,f2,_,f4,_,f6,_⟩:=(hA.out.mono (s':=s) λb x _ hx=>hI.ai.get hx).set (c:=c) (R:=AV×St) (one wA) (by decide) (i:=i) (by simpa using iA);have gA:cs2[o2]? =some wA[i]:=(by simpa using f6 0 wA[i] (by simp));have jA:∀(K:AV->Option (AV×St)),fu (.idxA 1 none) [VA,.int .i64 (i:Int)] K=K (.ptr b2 o2):=λK=>f2 K .i64
   have jbs:=hI.ai.get hj;have nc:∀(K:AV->Option (AV×St)),fu .nilCheck [.ptr jb 0] K=K (.ptr jb 0):=λK=>dm K (λH n=>rfl)
   have CQ:cF [AV.af,.af] [(0,1),(1,1)] [wB[i],wA[i]]=some [wB[i],wA[i]]:=by
        simp[cF,dB,dz,aX,hB.lU _ (Zb9 iB),hA.lU _ (Zb9 iA)]
   have at1:cF (bX [AV.af] 2) [(0,1),(1,1)] [wB[i],wA[i]]=some [wB[i],wA[i]]:=CQ;have G1:=Grew.ah hw (.cells [wB[i],wA[i]] 0);have I1:WI s0 (ah s (.cells [wB[i],wA[i]] 0)) m E v ((i:Int)::q):=⟨hI.jJ,hI.ai.trans G1,G1.get hI.mp,hI.al3,hI.LW.mono λb x _ hx=>G1.get hx,hI.F7,hI.nem⟩
   have X1:=aA s (.cells [wB[i],wA[i]] 0);have lv:∀b,aM v=some b->b.toNat<s.next.toNat:=λb hb=>hI.LW.lt hw hb
   have lm:m.toNat<s.next.toNat:=hw _ _ hI.mp;have rBi:rB[i]? =some rB[i]:=H0 (by omega);have rAi:rA[i]? =some rA[i]:=H0 (by omega);have QB:=hB.eF i wB[i] rB[i] (H0 iB) rBi;have QA:=hA.eF i wA[i] rA[i] (H0 iA) rAi;have sB:=eB _ (Zb9 (by omega:i<rB.length));have sA:=eA _ (Zb9 (by omega:i<rA.length));have hq:q.length<=20000:=(by simp only[Zc6]at h1;omega);obtain⟨s2,v2,q2,k1,k2',k3,k4,k5⟩:=arC (c:=c) QB sB.1 (i:Int) F rB[i].length 0 F _ E v q (by omega) (by omega) I1 (by omega);rw[Ze2]at k1 k2';obtain⟨Y1,Z1⟩:=k4 s.next _ (λe=>by rw[<-e]at lm;omega) (λe=>by have:=lv _ e;omega) X1;obtain⟨s3,v3,q3,l1,l2,l3,l4,l5⟩:=arC (c:=c) QA sA.1 (i:Int) F rA[i].length 0 F _ _ v2 q2 (by omega) (by omega) k2' (by omega);rw[Ze2]at l1 l2;obtain⟨Y2,Z2⟩:=l4 s.next _ (λe=>by rw[<-e]at lm;omega) Z1 Y1;obtain⟨v4,t1,t2,t3⟩:=QS.tail (R:=AV×St) (c:=c) (r:=bU (i:Int)) (rows:=q3.map bU) l2.LW rfl;obtain⟨n1,n2⟩:=KM (n:=n) (i:Int) rB[i] E ((i:Int)::q) sB.2 h2;rw[k1]at n1 n2;obtain⟨n3,n4⟩:=KM (n:=n) (i:Int) rA[i] (kC (i:Int) rB[i] E ((i:Int)::q)).1 ((i:Int)::q2) sA.2 n2;rw[l1]at n3 n4;have I4:WI s0 s3 m (kC (i:Int) rA[i] (kC (i:Int) rB[i] E ((i:Int)::q)).1 ((i:Int)::q2)).1 v4 q3:=⟨l2.jJ,l2.ai,l2.mp,l2.al3,t2,λb hb=>l2.F7 b (t3 b hb),λe=>l2.nem (t3 _ e)⟩
   obtain⟨s5,u1,u2,u3⟩:=ih g s3 _ v4 q3 (by omega) (by simp only[Zc6]at n1 n3 h1;omega) (by omega) (λk hk=>n4 k (Za9 _ hk)) I4;have ew:YU rB rA (f+1) E ((i:Int)::q)=YU rB rA f (kC (i:Int) rA[i] (kC (i:Int) rB[i] E ((i:Int)::q)).1 ((i:Int)::q2)).1 q3:=(by have gb:rB.getD ((i:Int)).toNat []=rB[i]:=(by simp[List.getD,rBi]);have ga:rA.getD ((i:Int)).toNat []=rA[i]:=(by simp[List.getD,rAi]);rw[YU,gb,ga];have e1:(kC (i:Int) rB[i] E ((i:Int)::q)).2=(i:Int)::q2:=(by rw[k1]);rw[e1];have e2:(kC (i:Int) rA[i] (kC (i:Int) rB[i] E ((i:Int)::q)).1 ((i:Int)::q2)).2=(i:Int)::q3:=(by rw[l1]);rw[e2];rfl);refine⟨s5,u1,by rw[ew];exact u2,?_⟩;obtain⟨F',rfl⟩:∃F',F=F'+3:=⟨F - 3,by omega⟩
   have x0:∀(K:AV->St->Option (AV×St))(t:St),aq c (.idxA 1 none) [.slice s.next 0 2 (some 2) 1,.int .i64 0] t K=K (.ptr s.next 0) t:=λK t=>iy c K t (i:=0) (k:= .i64) (es:=1) (by omega)
   have x1:∀(K:AV->St->Option (AV×St))(t:St),aq c (.idxA 1 none) [.slice s.next 0 2 (some 2) 1,.int .i64 1] t K=K (.ptr s.next 1) t:=λK t=>iy c K t (i:=1) (k:= .i64) (es:=1) (by omega)
   have y0:∀(K:AV->St->Option (AV×St))(t:St),aq c (.lenB .l) [wB[i]] t K=K (.int .i64 (rB[i].length:Int)) t:=λK t=>by rw[QB.lenB];simp
   have y1:∀(K:AV->St->Option (AV×St))(t:St),aq c (.lenB .l) [wA[i]] t K=K (.int .i64 (rA[i].length:Int)) t:=λK t=>by rw[QA.lenB];simp
   have y2:∀(K:AV->Option (AV×St)),fu (.lenB .l) [.slice s.next 0 2 (some 2) 1] K=K (.int .i64 2):=λK=>dm K (λH n=>rfl)
   have w1:av .i64 (1:Int)=1:=rfl;have w2:av .i64 (2:Int)=2:=rfl;have R1:∀k4,fB c (F'+3) k4 (F'+3) [.ptr jb 0,.map m,v,.slice s.next 0 2 (some 2) 1,.int .i64 2,.int .i64 0] (ah s (.cells [wB[i],wA[i]] 0))=fB c (F'+3) k4 (F'+2) [.ptr jb 0,.map m,v2,.slice s.next 0 2 (some 2) 1,.int .i64 2,.int .i64 1] s2:=λk4=>by
        (rw[v8];have:=λk6=>k5 (.ptr jb 0) (.slice s.next 0 2 (some 2) 1) (.int .i64 2) (.int .i64 0) k6);simp at this;simp[x0,X1,y0,this,w1]
   have R2:∀k4,fB c (F'+3) k4 (F'+2) [.ptr jb 0,.map m,v2,.slice s.next 0 2 (some 2) 1,.int .i64 2,.int .i64 1] s2=fB c (F'+3) k4 (F'+1) [.ptr jb 0,.map m,v3,.slice s.next 0 2 (some 2) 1,.int .i64 2,.int .i64 2] s3:=λk4=>by
        (rw[v8];have:=λk6=>l5 (.ptr jb 0) (.slice s.next 0 2 (some 2) 1) (.int .i64 2) (.int .i64 1) k6);simp at this;simp[x1,Y1,y1,this,w2]
   have R3:∀k4,fB c (F'+3) k4 (F'+1) [.ptr jb 0,.map m,v3,.slice s.next 0 2 (some 2) 1,.int .i64 2,.int .i64 2] s3=k4 [.ptr jb 0,.map m,v3] s3:=λk4=>by rw[v8];simp
   rw[<-u3,v7];have VH:0<(q.length:Int)+1:=(by omega);simp[hl,VH,nc,jbs,h9,h10,j0,d4,g0,jB,e4,gB,jA,f4,gA,at1,y2,R1,R2,R3,t1]
def acs(rB rA:List (List Int))(n:Nat)(fr:Int):List (Int×Int):=YU rB rA (n+1) [(fr,0)] [fr]
theorem asZ(hc:Sem c){jb:Pos}{jc:List AV}{VB VA:AV}{rB rA:List (List Int)}{wB wA:List AV}{n:Nat}(hn:n<=10000)(s:St)(hw:Wf s)(hj:s.heap.get jb=some (.cells jc 0))(h9:jc[9]? =some VB)(h10:jc[10]? =some VA)
  (hB:RL s VB rB wB) (hA:RL s VA rA wA) (lB:rB.length=n) (lA:rA.length=n) (eB:∀r∈rB,r.length<=1000/\∀k∈r,0<=k/\k<(n:Int)) (eA:∀r∈rA,r.length<=1000/\∀k∈r,0<=k/\k<(n:Int)) (fr:Int) (vq:0<=fr/\fr<(n:Int)):
  ∃m s',c 67 [.ptr jb 0,.int .i64 fr] s=some (.map m,s')/\Grew s s'/\s.next.toNat<=m.toNat/\s'.heap.get m=some (im (acs rB rA n fr)):=by
 have cV:Wf (ah s (im [])):=bG hw;have g1:=Grew.ah hw (im []);have m1:=aA s (im []);have MS:=λ(K:AV->St->Option (AV×St))=>ahm c K m1 (x:=fr) rfl 0
 have lm:=cV _ _ m1;have G2:Grew s (bk (ah s (im [])) s.next (im ([]++[(fr,0)]))):=⟨jV cV lm,λp x hp=>by have:=hw _ _ hp;rw[aJ (λe=>by rw[<-e]at this;omega)];exact g1.get hp,by rw[dQ];exact g1.next⟩
 have m2:=bP (ah s (im [])) s.next (im ([]++[(fr,0)]));generalize uu:bk (ah s (im [])) s.next (im ([]++[(fr,0)]))=s2 at MS G2 m2;have row:=λ(K:AV->St->Option (AV×St))=>KU (c:=c) (es:=1) (z:=[.int .i64 0]) (x:= .int .i64 fr) rfl rfl s2 K
 have g3:=Grew.ah G2.wf (.cells (AV.cells (.int .i64 fr)) 0);have lm2:=G2.wf _ _ m2;have I:WI s (ah s2 (.cells (AV.cells (.int .i64 fr)) 0)) s.next [(fr,0)] (.slice s2.next 0 1 (some 1) 1) [fr]:=by
  refine⟨hw,G2.trans g3,g3.get m2,Za3 _,.inr (.inl ⟨s2.next,0,some 1,[.int .i64 fr],rfl,aA _ _,by simp,by simp,.inr rfl⟩),λb hb=> ?_,λe=> ?_⟩
  . obtain rfl:=tE hb;exact G2.next
  . have:=congrArg Pos.toNat (tE e);omega
 have hc1:cnt n [(fr,0)]+[fr].length<=n+1:=by
  have:cnt n [(fr,0)]<=n:=by unfold cnt;exact Zb1 List.countP_le_length (by simp)
  simp;omega
 obtain⟨s',u1,u2,u3⟩:=asY hc hn hj h9 h10 hB hA lB lA eB eA 20000 (by omega) (λvs s59=>gW vs λx5 vs=>mo vs (aq c .move [x5] s59 λx75 s60=>aq c .move [x75] s60 λx4 s61=>some (x4,s61))) (n+1) 20000 _ _ _ [fr] (by omega) hc1 (by omega) (λk hk=>by simp at hk;subst hk;exact vq) I;refine⟨s.next,s',?_,u1,Za3 _,u2⟩;rw[Vk hc 20000 (r:=(.map s.next,s')),ail];rw[ZD];have hmk:∀(K:AV->St->Option (AV×St)),aq c .mkMap [] s K=K (.map s.next) (ah s (im [])):=λK=>by rw[Wi];rfl
 simp at u3;simp[-au,-Wi,hmk,MS,row,u3]
theorem as3(hc:Sem c)(z:Bool)(ts:List aE)(cJ:∀t∈ts,t.Ok){pb sb:Pos}{cs:List AV}(h0:cs[0]? =some (tabs z ts))(a b:Int)(ha:a<=4611686018427387904)(hb:b<=4611686018427387904)(s:St)(hw:Wf s)
  (hp:s.heap.get pb=some (.cells cs 0)) (hs:s.heap.get sb=some (.cells [.int .i64 a] 0)):
  c 63 [.int .i64 b,.ptr pb 0,.ptr sb 0] s=some (.bool (Xs ts a b),s):=by
 have B:=anV hc z ts cJ a b ha hb s hw;rw[aeh hc 1 (r:=(.bool (Xs ts a b),s)),aC (Plain.bool _) (aW.refl s)];rw[aiB];simp[hp,hs,h0,B]
theorem as4(hc:Sem c)(z:Bool)(ts:List aE)(cJ:∀t∈ts,t.Ok){pb sb:Pos}{cs:List AV}(h0:cs[0]? =some (tabs z ts))(a b:Int)(ha:a<=4611686018427387904)(hb:b<=4611686018427387904)(s:St)(hw:Wf s)
  (hp:s.heap.get pb=some (.cells cs 0)) (hs:s.heap.get sb=some (.cells [.int .i64 a] 0)):
  c 65 [.int .i64 b,.ptr pb 0,.ptr sb 0] s=some (.bool (Xt ts a b),s):=by
 have B:=anW hc z ts cJ a b ha hb s hw;rw[aei hc 1 (r:=(.bool (Xt ts a b),s)),aC (Plain.bool _) (aW.refl s)];rw[aiC];simp[hp,hs,h0,B]
theorem aoa(hc:Sem c)(z:Bool)(ts:List aE)(cJ:∀t∈ts,t.Ok){pb sb:Pos}{cs:List AV}(h0:cs[0]? =some (tabs z ts))(a:Int)(ha:a<=1000000){first:Int}(hf:0<=first/\first<=1000000){n:Nat}(hn:n<=1000000)(s:St)(hw:Wf s)
  (hp:s.heap.get pb=some (.cells cs 0)) (hs:s.heap.get sb=some (.cells [.int .i64 a] 0)):
  ∃v s',c 62 [.int .i64 first,.int .i64 (n:Int),.func 63 [] [.ptr pb 0,.ptr sb 0]] s=some (v,s')/\Mk 1 s s' v ((lZ first n (Xs ts a)).map bU):=
 aiw hc hf hn hw λk t hg h1 h2=>as3 hc z ts cJ h0 a k (by omega) (by omega) t hg.wf (hg.get hp) (hg.get hs)
theorem aob(hc:Sem c)(z:Bool)(ts:List aE)(cJ:∀t∈ts,t.Ok){pb sb:Pos}{cs:List AV}(h0:cs[0]? =some (tabs z ts))(a:Int)(ha:a<=1000000){first:Int}(hf:0<=first/\first<=1000000){n:Nat}(hn:n<=1000000)(s:St)(hw:Wf s)
  (hp:s.heap.get pb=some (.cells cs 0)) (hs:s.heap.get sb=some (.cells [.int .i64 a] 0)):
  ∃v s',c 62 [.int .i64 first,.int .i64 (n:Int),.func 65 [] [.ptr pb 0,.ptr sb 0]] s=some (v,s')/\Mk 1 s s' v ((lZ first n (Xt ts a)).map bU):=
 aiw hc hf hn hw λk t hg h1 h2=>as4 hc z ts cJ h0 a k (by omega) (by omega) t hg.wf (hg.get hp) (hg.get hs)
theorem aoc(z:Bool)(ts:List aE)(k:Nat)(hk:k<ts.length)(K:AV->St->Option (AV×St))(s:St):aq c (.sliceL 7 true true false) [tabs z ts,.int .i64 (k:Int),.int .i64 ((k+1:Nat):Int)] s K=K (tabs false [ts[k]]) s:=by
 have e:tabs z ts= .fl (ts.map aE.cells) 7:=by
  unfold tabs;exact adD (by intro h;have:=congrArg List.length h;simp at this;subst this;simp at hk)
 have run:∀(H:Pos->Option AB)(n:Pos),aH.run H n (.sliceL 7 true true false) [tabs z ts,.int .i64 (k:Int),.int .i64 ((k+1:Nat):Int)]=some (.val (tabs false [ts[k]])):=λH n=>by
  rw[e];have hb:bounds true true false [.int .i64 (k:Int),.int .i64 ((k+1:Nat):Int)]=some (some k,some (k+1),none):=rfl;have h1:k+1<=(ts.map aE.cells).length:=by simp;omega
  simp only[aH.run,iM,hb,dB,dz,Zh2,Zf2,Za0 (Nat.le_succ k),Za0 h1];have:((ts.map aE.cells).take (k+1)).drop k=[ts[k].cells]:=by rw[Zd3 (by simpa using hk),Zg5 (by simp;omega)];simp
  rw[this];rfl
 exact aU c K run s
theorem aod(hc:Sem c)(t:aE)(cJ:t.Ok)(h:sK t=0)(s:St)(hw:Wf s):c 59 [tabs false [t]] s=some (.int .i64 (bJ t),s):=by
 rw[FZ hc false [t] (λu hu=>by simp at hu;subst hu;exact cJ) s hw,Zb2 (Hv h)];simp[aZ]
def mnS(a b:List Nat):List Nat:=match aO a b||kg a b with|true=>a|false=>b
def mxS(a b:List Nat):List Nat:=match aO a b with|true=>b|false=>a
theorem aqF(hc:Sem c)(a b:List Nat)(k:Int)(st:St)(hw:Wf st):c 186 [.str a,.str b,.int .u8 k] st=some (.agg (Ty.cells ⟨mnS a b,mxS a b,k⟩),st):=by
 rw[Qq hc 1 (r:=(.agg (Ty.cells ⟨mnS a b,mxS a b,k⟩),ah st (.cells (Ty.cells ⟨mnS a b,mxS a b,k⟩) 0))),aC (Plain.agg (by simp[Ty.cells,Plain.str,Plain.int])) (cq hw)];rw[Xk];have m1:∀(K:AV->St->Option (AV×St))(s:St),aq c .minB [.str a,.str b] s K=K (.str (mnS a b)) s:=λK s=>aU c K (λH n=>rfl) s
 have m2:∀(K:AV->St->Option (AV×St))(s:St),aq c .maxB [.str a,.str b] s K=K (.str (mxS a b)) s:=λK s=>aU c K (λH n=>rfl) s
 simp[m1,m2,cF,aX,dz,AV.cells,aS,AV.one,cW,Ty.cells]
theorem afg{ts:List Ty}(hs:I7 ts)(t:Ty):∀n,n<=ts.length->∃q,q<=n/\(∀h (hh:h<ts.length),h<q->gu ts[h] t=true)/\∀h (hh:h<ts.length),q<=h->h<n->gu ts[h] t=false
 |0,_=>⟨0,Za3 _,λh _ hq=>absurd hq (Nat.not_lt_zero _),λh _ _ hq=>absurd hq (Nat.not_lt_zero _)⟩
 |n+1,hn=>by
  obtain⟨q,h1,h2,h3⟩:=afg hs t n (by omega);cases hb:gu (ts[n]'(by omega)) t with
  |true=>
   refine⟨n+1,Za3 _,λh hh hq=> ?_,λh hh hq1 hq2=>by omega⟩;by_cases e:h=n
   . subst e;exact hb
   . exact KJ (hs h n (by omega) (by omega)) hb
  |false=>
   refine⟨q,by omega,h2,λh hh hq1 hq2=> ?_⟩;by_cases e:h=n
   . subst e;exact hb
   . exact h3 h hh hq1 (by omega)
theorem aoe(hc:Sem c){s0 s:St}{bp mp:Pos}{gs:List aV}{ts:List Ty}{gk tk:Option Pos}(B:eN s0 s bp mp gs ts gk tk)(hl:ts.length<=1000)(a b:List Nat)(hs:I7 ts):
   ∃(q:Nat) (ok:Bool),(ok=true->q<ts.length)/\c 137 [.ptr bp 0,.str a,.str b] s=some (.tuple [.int .i64 (q:Int),.bool ok],s):=by
 obtain⟨q,h1,h2,h3⟩:=afg hs ⟨mnS a b,mxS a b,0⟩ ts.length (Za3 _);refine⟨q,Fb ts ⟨mnS a b,mxS a b,0⟩ q,λe=> ?_,?_⟩
 . by_cases h:q<ts.length
   . exact h
   . unfold Fb at e;rw[Zc1 (by omega)]at e;cases e
 have hpr:=aqF hc a b 0 s B.wf;have GF:=ary hc ts hl ⟨mnS a b,mxS a b,0⟩ q h1 h2 (λh hh hq=>h3 h hh hq hh) tk s B.wf B.yb.1 B.yb.2;rw[Du hc 1 (r:=(.tuple [.int .i64 (q:Int),.bool (Fb ts ⟨mnS a b,mxS a b,0⟩ q)],s)),aC (Plain.tuple (by simp[Plain.int,Plain.bool])) (aW.refl s)];rw[Ht];have bq:eM (kR tk ts.length 3) (kR tk ts.length 3)=true:=by cases tk;exact RZ;exact Ns _ _ _ _
 have LR:=λ(K:AV->Option (AV×St))=>kX K (p:=bp) (o:=1) (h:=s.heap) (h2:=s.heap) (v:=kR tk ts.length 3) (by rw[B.book];rfl) (by rw[B.book];rfl) bq
 simp[hpr,LR,GF]
theorem as5(hc:Sem c){s0 s:St}{bp mp:Pos}{gs:List aV}{ts:List Ty}{gk tk:Option Pos}(B:eN s0 s bp mp gs ts gk tk)(hl:ts.length<=1000)(hs:I7 ts)(a b:List Nat):
  ∃(k:Int) (ok:Bool),c 70 [.ptr bp 0,.str a,.str b] s=some (.tuple [.int .u8 k,.bool ok],s):=by
 obtain⟨q,ok,h1,h2⟩:=aoe hc B hl a b hs;have hn:=YQ hc s bp mp _ _ B.book;cases ok with
 |false=>
  refine⟨0,false,?_⟩;rw[Ff hc 1 (r:=(.tuple [.int .u8 0,.bool false],s)),aC (Plain.tuple (by simp[Plain.int,Plain.bool])) (aW.refl s)];rw[I8];simp[hn,h2]
 |true=>
  have hq:=h1 rfl;obtain⟨t,rfl⟩:∃t,tk=some t:=by
   cases tk with
   |none=>rw[B.yb.1 rfl]at hq;simp at hq
   |some t=>exact⟨t,rfl⟩
  have tu:=B.yb.2 t rfl;obtain⟨k,hk⟩:∃k,(ts[q].cells)[2]? =some (.int .u8 k):=⟨_,rfl⟩
  have CO:(ts.flatMap Ty.cells)[q*3+2]? =some (.int .u8 k):=by have:=Go.Ai.yE (rows:=ts.map Ty.cells) (es:=3) (λr hr=>by simp only[Zc9]at hr;obtain⟨t,_,rfl⟩:=hr;rfl) q 2 ts[q].cells (.int .u8 k) (by rw[Zb8,H0 hq];rfl) hk;exact this
  refine⟨k,true,?_⟩;have ix:=λ(K:AV->St->Option (AV×St))(s:St)=>iy c K s (b:=t) (off:=0) (es:=3) (es':=3) (cap:=none) (k:= .i64) hq
  rw[Ff hc 1 (r:=(.tuple [.int .u8 k,.bool true],s)),aC (Plain.tuple (by simp[Plain.int,Plain.bool])) (aW.refl s)];rw[I8];simp[hn,h2,B.book,kR,ix,tu,CO]
theorem afh{k:AV}:∀{es:List (AV×AV×Nat)}{i j:Nat}{v:AV},ir .s k es i=some (some (j,v))->∃e∈es,e.2.1=v
 |[],i,j,v,h=>by cases h
 |(k',v',n)::es,i,j,v,h=>by
  unfold ir at h;split at h
  . simp only[H5,Zd0]at h;exact⟨_,Zd5,h.2⟩
  . obtain⟨e,h1,h2⟩:=afh h;exact⟨e,Za9 _ h1,h2⟩
  . cases h
def yg:aV:=⟨[],[],[],0,0,[],false,false,true,[]⟩
theorem aiD(hc:Sem c){s0 s:St}{bp mp:Pos}{gs:List aV}{ts:List Ty}{gk tk:Option Pos}(B:eN s0 s bp mp gs ts gk tk)(a:List Nat):
   ∃(g:aV) (v:AV) (ok:Bool) (s':St),c 132 [.ptr bp 0,.str a] s=some (.tuple [.agg (g.ax v),.bool ok],s')/\Mk 1 s s' v (g.tg.map qD)/\g.tg.length<=4:=by
 have hn:=λ(t:St)(hg:Grew s t)=>YQ hc t bp mp _ _ (B.ai hg).book
 obtain⟨es,cl,m1,m2⟩:=B.Dt;have hw:=B.wf;have G0:=Grew.ah hw (.cells (yg.ax .af) 0);have Pp:=hn _ G0;rcases Gw a gs es 0 m2 with⟨xP,j,v,hf⟩|⟨xP,hf⟩
 . obtain⟨e,he,rfl⟩:=afh hf;obtain⟨i,hi,aT⟩:=B.OB es cl m1 e he;obtain⟨b,rfl⟩:∃b,gk=some b:=by
    cases gk with
    |none=>rw[B.tJ.1 rfl]at aT;simp at aT
    |some b=>exact⟨b,rfl⟩
   obtain⟨cs,c1,c2⟩:=B.tJ.2 b rfl;obtain⟨lo,l4,w,gG,w1,w2,Q,_⟩:=B.rows b cs rfl c1 i gs[i] (H0 aT);obtain⟨v,s3,h3,M⟩:=ae8 hc gs[i] lo (by omega) (src:=w) _ (bG hw) (.inr (Q.mono λp x _ hx=>G0.get hx)) w1 w2;have M1:=M.back hw G0;have hcut:cut cs (i*9) 9=some ((gs[i]).ax w):=by
    unfold cut;have:i*9+9<=cs.length:=(by omega);rw[dz,Za0 this,gG]
   have hz:s3.heap.get s.next=some (.cells (yg.ax .af) 0):=M.ai.get (aA _ _);have hv:=M.cells;have ho:aS ((gs[i]).ax v)=true:=(gs[i]).LD hv.2
   let s4:=bk s3 s.next (.cells ((gs[i]).ax v) 0)
   have alD:s.next.toNat<s3.next.toNat:=(by have:=M.ai.next;rw[bQ,Pos.aF]at this;omega);have M4:Mk 1 s s4 v ((gs[i]).tg.map qD):=M1.store (Za3 _) alD (λe=>by have:=M.new _ e;rw[bQ,Pos.aF]at this;omega);have GQ:∀u∈(gs[i]).ax v,dY u:=λu hu=>by
    simp only[aV.ax,Zb0,Zc5,Zf3]at hu;rcases hu with rfl|rfl|rfl|rfl|rfl|rfl|rfl|rfl|rfl
    . exact dY.str lo.name
    . exact dY.str lo.Ab
    . exact dY.str lo.ke
    . exact dY.int _ _
    . exact dY.int _ _
    . exact dY.str lo.nG
    . exact dY.bool _
    . exact dY.bool _
    . exact M.inst
   obtain⟨s5,t1,t2⟩:=M4.aj8 (l:=(gs[i]).ax v) (by simp[aV.ax]) GQ true;refine⟨gs[i],v,true,s5,?_,t2,l4⟩;have ix:=λ(K:AV->St->Option (AV×St))(s:St)=>iy c K s (b:=b) (off:=0) (es:=9) (es':=9) (cap:=none) (k:= .i64) aT
   have lk:=λ(K:AV->St->Option (AV×St))=>Ce c K (.int .i64 0) (st:=ah s (.cells (yg.ax .af) 0)) (k:= .str a) (G0.get m1) hf
   have bE:=λ(K:AV->St->Option (AV×St))=>cr c K s3 9 s.next 0 (.agg ((gs[i]).ax v)) _ hz rfl (by simp[yg,aV.ax]) ho
   have AH:aX (yg.ax .af) 0 (AV.agg ((gs[i]).ax v)).cells=(gs[i]).ax v:=rfl;rw[AH]at bE;have hg4:s4.heap.get s.next=some (.cells ((gs[i]).ax v) 0):=bP _ _ _;have hca:cut ((gs[i]).ax v) 0 9=some ((gs[i]).ax v):=cW rfl;have b1:=G0.get B.book;have c3:=G0.get c1;rw[Fg hc 1 (r:=(.tuple [.agg ((gs[i]).ax v),.bool true],s4)),t1];rw[I9];have al:∀(K:AV->St->Option (AV×St)),aq c (.alloc [(.str []),(.str []),(.str []),(.int .i64 0),(.int .i64 0),(.str []),(.bool false),(.bool false),.af]) [] s K=K (.ptr s.next 0) (ah s (.cells (yg.ax .af) 0)):=λK=>by rw[bS];rfl
   rw[al];simp only[hi]at lk;simp[-bS,Pp,b1,lk,kR,ix,c3,hcut,h3,bE];rw[hca,cO]
 . have lk:=λ(K:AV->St->Option (AV×St))=>Ce c K (.int .i64 0) (st:=ah s (.cells (yg.ax .af) 0)) (k:= .str a) (G0.get m1) hf
   have b1:=G0.get B.book;have M0:Mk 1 s (ah s (.cells (yg.ax .af) 0)) .af (yg.tg.map qD):=Mk.start hw G0;have GQ:∀u∈yg.ax .af,dY u:=λu hu=>by
    simp only[yg,aV.ax,Zb0,Zc5,Zf3]at hu;rcases hu with rfl|rfl|rfl|rfl|rfl|rfl|rfl|rfl|rfl
    . exact dY.str (by simp)
    . exact dY.str (by simp)
    . exact dY.str (by simp)
    . exact dY.int _ _
    . exact dY.int _ _
    . exact dY.str (by simp)
    . exact dY.bool _
    . exact dY.bool _
    . exact dY.af
   obtain⟨s5,t1,t2⟩:=M0.aj8 (l:=yg.ax .af) (by simp[aV.ax]) GQ false;refine⟨yg,.af,false,s5,?_,t2,by simp[yg]⟩;rw[Fg hc 1 (r:=(.tuple [.agg (yg.ax .af),.bool false],ah s (.cells (yg.ax .af) 0))),t1];rw[I9];have al:∀(K:AV->St->Option (AV×St)),aq c (.alloc [(.str []),(.str []),(.str []),(.int .i64 0),(.int .i64 0),(.str []),(.bool false),(.bool false),.af]) [] s K=K (.ptr s.next 0) (ah s (.cells (yg.ax .af) 0)):=λK=>by rw[bS];rfl
   have bd:∀(K:AV->St->Option (AV×St))(s:St),aq c (.build [(.str []),(.str []),(.str []),(.int .i64 0),(.int .i64 0),(.str []),(.bool false),(.bool false),.af] []) [] s K=K (.agg (yg.ax .af)) s:=λK s=>by rw[ig];rfl
   have bE:=λ(K:AV->St->Option (AV×St))=>cE c K s 9 (.agg (yg.ax .af)) (yg.ax .af) rfl rfl rfl
   have hca:cut (yg.ax .af) 0 9=some (yg.ax .af):=cW rfl;have ce:(AV.agg (yg.ax .af)).cells=yg.ax .af:=rfl;rw[al];simp[-bS,-ig,Pp,b1,lk,bd,bE,hca,ce]
end
end Go.Proofs.YtgihekklfnjkiaaGreatDoor
