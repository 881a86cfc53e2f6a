/- The program as plain functions. -/
import Derived.Test.YtgihekklfnjkiaaGreatDoorDEvalD
import Derived.Maps.RangeRun
import Derived.Laws.EntriesVeiled
import Derived.WalkKit
import Derived.OpenShut
import Derived.ProofKit
import Derived.ShutString
set_option linter.all false
set_option linter.unusedSectionVars false
set_option linter.deprecated false
namespace Go.Ai
section
open Go Go.RowKit
def ZS(c c':aj):Prop:=∀f args st r,c f args st=some r->c' f args st=some r
theorem ZS.refl(c:aj):ZS c c:=λ_ _ _ _ h=>h
section
variable{c c' : aj}
theorem RT(h:ZS c c'){k:aH}{xs:List AV}{st:St}{r:AV×St}(e:cL c k xs st=some r):cL c' k xs st=some r:=by
 unfold cL at e ⊢;cases hr:k.run (λb=>st.heap.get b) st.next xs with
 |none=>simp[hr]at e
 |some x=>cases x with
  |val v=>simpa [hr]using e
  |bh v d s n=>simpa [hr]using e
  |call f args=>simp only[hr]at e ⊢; exact h _ _ _ _ e
theorem Yw(h:ZS c c'):∀(os:List bW)(fr:Fr)(st:St)(r:Fr×St),mE c os fr st=some r->mE c' os fr st=some r
 |[],_,_,_,e=>e
 |o::os,fr,st,r,e=>by
  unfold mE at e ⊢;cases hw:cN fr o.guard with
  |none=>simp[hw]at e
  |some b=>cases b with
   |false=>simp only[hw]at e ⊢; exact Yw h _ _ _ _ e
   |    true=>
        simp only[hw]at e ⊢;cases hx:fT fr o.xs with
        |none=>simp[hx]at e
        |some xs=>
         simp only[hx]at e ⊢;cases hs:cL c o.k xs st with
         |none=>simp[hs]at e
         |some p=>simp only[hs]at e;simp only[RT h hs];exact Yw h _ _ _ _ e
theorem aaN (h:ZS c c'):∀(os:List (Nat×bW))(recs:List Rec)(base:T AB)(fr:Fr)(st:St)(r:Fr×St),eG c os recs base fr st=some r->eG c' os recs base fr st=some r
 |[],_,_,_,_,_,e=>e
 |(j,   o)::os,recs,base,fr,st,r,e=>by
  have ih:=aaN h os;unfold eG at e ⊢;cases hw:cN fr o.guard with
  |none=>simp[hw]at e
  | some b=>cases b with
    |false=>simp only[hw]at e ⊢; exact ih _ _ _ _ _ e
    |   true=>
        simp only[hw]at e ⊢;cases hx:fT fr o.xs with
        |none=>simp[hx]at e
        |some xs=>
         simp only[hx]at e ⊢;cases hc:o.cls with
         |  bh=>
            simp only[hc]at e ⊢;cases hs:cL c o.k xs st with
            |none=>simp[hs]at e
            |some p=>simp only[hs]at e;simp only[RT h hs];exact ih _ _ _ _ _ e
         |  new=>
            simp only[hc]at e ⊢;split at e<;>first|(cases e;done)|exact ih _ _ _ _ _ e
         |  pure=>
            simp only[hc]at e ⊢;split at e<;>(try split at e)<;>(try split at e)<;>first|(cases e;done)|(simp only[*];exact ih _ _ _ _ _ e)|exact ih _ _ _ _ _ e
         |  read=>
            simp only[hc]at e ⊢;split at e<;>(try split at e)<;>(try split at e)<;>first|(cases e;done)|(simp only[*];exact ih _ _ _ _ _ e)|exact ih _ _ _ _ _ e
theorem Yx(h:ZS c c'):∀(n m:Nat),n<=m->∀(a:AC)(fr:Fr)(st:St)(r:oJ×Fr×St),exec c n a fr st=some r->exec c' m a fr st=some r
 |0,_,_,_,_,_,_,e=>by simp[exec]at e
 |n+1,0,hm,_,_,_,_,_=>by omega
 |n+    1,m+1,hm,a,fr,st,r,e=>by
  have ih:=Yx h n m (by omega);cases a<;>simp only[exec,bD]at e ⊢
  case skip=>exact e
  case exit=>exact e
  case ret=>exact e
  case region ops=>
   cases ho:mE c ops fr st with
   |none=>simp[ho]at e
   |some p=>simp only[ho]at e;simp only[Yw h _ _ _ _ ho];exact e
  case draw ops=>
   cases ho:eG c ops [] st.heap fr st with
   |none=>simp[ho]at e
   |some p=>simp only[ho]at e;simp only[aaN h _ _ _ _ _ _ ho];exact e
  case seq a b=>
   cases ha:exec c n a fr st with
   |none=>simp[ha]at e
   |    some p=>
        obtain⟨ex,fj,bE⟩:=p;simp only[ha]at e;simp only[ih _ _ _ _ ha];cases ex<;>first|exact e|exact ih _ _ _ _ e
  case cond x a b=>
   split at e
   .    exact ih _ _ _ _ e
   .    exact ih _ _ _ _ e
   .    cases e
  case block id a=>
   cases ha:exec c n a fr st with
   |none=>simp[ha]at e
   |    some p=>
        obtain⟨ex,fj,bE⟩:=p;simp only[ha]at e;simp only[ih _ _ _ _ ha];cases ex<;>exact e
  case loop a=>
   cases ha:exec c n a fr st with
   |none=>simp[ha]at e
   |    some p=>
        obtain⟨ex,fj,bE⟩:=p;simp only[ha]at e;simp only[ih _ _ _ _ ha];cases ex<;>first|exact e|exact ih _ _ _ _ e
end
def Plain(v:AV):Prop:=∀(ρ ρ':Pos->Loc)(n n':Nat)(C:Cells)(x:Value),aD ρ n C v x->aD ρ' n' C v x
theorem Plain.bool(b:Bool):Plain (.bool b):=λ_ _ _ _ _ _ h=>by cases h;exact .bool b
theorem Plain.int(k:IntKind)(i:Int):Plain (.int k i):=λ_ _ _ _ _ _ h=>by cases h;exact .int k i
theorem Plain.str(s:List Nat):Plain (.str s):=λ_ _ _ _ _ _ h=>by cases h with|str _ bs h=>exact .str s bs h
theorem Plain.iR:Plain .iR:=λ_ _ _ _ _ _ h=>by cases h;exact .iR
theorem Plain.af:Plain .af:=λ_ _ _ _ _ _ h=>by cases h;exact .af
theorem Plain.jK:Plain .jK:=λ_ _ _ _ _ _ h=>by cases h;exact .jK
theorem Plain.func(f:FuncId){a b:List AV}(ha:∀v∈a,Plain v)(hb:∀v∈b,Plain v):Plain (.func f a b):=λ_ _ _ _ _ _ h=>by
 cases h with
 |func _ _ _ a' b' hx hy h1 h2=>exact .func f a b a' b' hx hy (λi v x hv hx=>ha v (Zc0 hv) _ _ _ _ _ _ (h1 i v x hv hx)) (λi v x hv hx=>hb v (Zc0 hv) _ _ _ _ _ _ (h2 i v x hv hx))
theorem Plain.tuple{l:List AV}(hl:∀v∈l,Plain v):Plain (.tuple l):=λ_ _ _ _ _ _ h=>by
 cases h with
 |tuple _ cs hx h1=>exact .tuple l cs hx λi v x hv hx=>hl v (Zc0 hv) _ _ _ _ _ _ (h1 i v x hv hx)
theorem Plain.agg{l:List AV}(hl:∀v∈l,Plain v):Plain (.agg l):=λ_ _ _ _ _ _ h=>by
 cases h with
 |agg _ cs hx h1=>exact .agg l cs hx λi v x hv hx=>hl v (Zc0 hv) _ _ _ _ _ _ (h1 i v x hv hx)
theorem Plain.fl{xs:List (List AV)}{es:Nat}(hl:∀cs∈xs,∀v∈cs,Plain v):Plain (.fl xs es):=λ_ _ _ _ _ _ h=>by
 cases h with
 |fl _ _ bC a cell h1 h2 h3 h4 h5=>exact .fl xs es bC a cell h1 h2 h3 h4 λi j cs v hi hj=>hl cs (Zc0 hi) v (Zc0 hj) _ _ _ _ _ _ (h5 i j cs v hi hj)
def aW(st st':St):Prop:=∀b x,st.heap.get b=some x->st'.heap.get b=some x
theorem aW.refl(st:St):aW st st:=λ_ _ h=>h
theorem aW.trans{a b c:St}(h:aW a b)(k:aW b c):aW a c:=λ_ _ e=>k _ _ (h _ _ e)
theorem aD.down{ρ ρ':Pos->Loc}{n n':Nat}{C:Cells}{v:AV}{x:Value}(h:aD ρ' n' C v x):∀{y:Value},aD ρ n C v y->(∀b:Pos,b.toNat<n->ρ' b=ρ b)->aD ρ n C v x:=by
 induction h with
 |bool b=>exact λh _=> .bool b
 |int k i=>exact λh _=> .int k i
 |str s bs h=>exact λ_ _=> .str s bs h
 |iR=>exact λ_ _=> .iR
 |ptr b off h=>
  intro y h bF;cases h with
  |ptr _ _ h'=>rw[bF b h'];exact .ptr b off h'
 |fp xs i j es aN base cell hl hc hv ih=>
  intro y h bF;cases h with
  |fp _ _ _ es' Iy ak3 auG hl' ZM Ph=>exact .fp xs i j es aN base cell hl hc λi j cs v hi hj=>ih i j cs v hi hj (Ph i j cs v hi hj) bF
 |af=>exact λ_ _=> .af
 |slice  b off len cap es bC a hl hc ha hk=>
  intro y h bF;cases h with
  |slice _ _ _ _ _ ark a' hl' ZM ha' uq=>
   refine .slice b off len cap es bC a hl hc (λh0=> ?_) uq;obtain⟨h1,h2,h3⟩:=ha h0;have hb:b.toNat<n:=by
        cases cap with
        |none=>exact uq rfl
        |some c=>
         have e1:=hc c rfl;have e2:=ZM c rfl;exact(ha' (by rw[<-e2,e1];exact h0)).1
   rw[bF b hb]at h2 h3;exact⟨hb,h2,h3⟩
 |fl xs es bC a cell hl hs eD hc hv ih=>
  intro y h bF;cases h with
  |fl _ _ ark a' auG hl' qY hes' ZM Ph=>exact .fl xs es bC a cell hl hs eD hc λi j cs v hi hj=>ih i j cs v hi hj (Ph i j cs v hi hj) bF
 |qV=>exact λ_ _=> .qV
 |map b h=>
  intro y h bF;cases h with
  |map _ h'=>rw[bF b h'];exact .map b h'
 |func f x y x' y' hx hy h1 h2 ih1 ih2=>
  intro z h bF;cases h with
  |func _ _ _ a' b' kx ky k1 k2=>
   refine .func f x y x' y' hx hy (λi v x hv wO=> ?_) (λi v x hv wO=> ?_)
   .    have hi:i<a'.size:=(by rw[<-kx];exact(Za2.1 hv).1);exact ih1 i v x hv wO (k1 i v _ hv (Zg6 hi)) bF
   .    have hi:i<b'.size:=(by rw[<-ky];exact(Za2.1 hv).1);exact ih2 i v x hv wO (k2 i v _ hv (Zg6 hi)) bF
 |jK=>exact λ_ _=> .jK
 |Bu=>exact λ_ _=> .Bu
 |iface t v x _ ih=>
  intro y h bF;cases h with
  |iface _ _ x' h'=>exact .iface t v x (ih h' bF)
 |agg l cs hx h1 ih=>
  intro y h bF;cases h with
  |agg _ nu kx k1=>
   (refine .agg l cs hx λi v x hv wO=> ?_);have hi:i<nu.size:=(by rw[<-kx];exact(Za2.1 hv).1);exact ih i v x hv wO (k1 i v _ hv (Zg6 hi)) bF
 |tuple l cs hx h1 ih=>
  intro y h bF;cases h with
  |tuple _ nu kx k1=>
   (refine .tuple l cs hx λi v x hv wO=> ?_);have hi:i<nu.size:=(by rw[<-kx];exact(Za2.1 hv).1);exact ih i v x hv wO (k1 i v _ hv (Zg6 hi)) bF
end
noncomputable section
open Go Go.RowKit
def tidy(st:St)(r:AV×St):AV×St:=open Classical in if Plain r.1/\aW st r.2 then(r.1,st)else r
theorem cC.back{ρ ρ':Pos->Loc}{C:Cells}{st bE:St}{w w1:World}(hW:cC ρ C st w)(hk:aW st bE)(bF:∀b:Pos,b.toNat<st.next.toNat->ρ' b=ρ b)(ji:cC ρ' C bE w1)(hs:w.heap.size<=w1.heap.size):cC ρ C st w1:=by
 refine⟨λb y hb=> ?_,hW.inj,λa u ha=>⟨(ji.eI a u ha).1,(hW.eI a u ha).2⟩,ji.whole⟩;obtain⟨g1,g2,g3⟩:=hW.live b y hb;obtain⟨_,_,k3⟩:=ji.live b y (hk b y hb);refine⟨g1,Zc7 g2 hs,?_⟩;rw[bF b g1]at k3;cases y with
 |cells cs fz=>
  obtain⟨c,e,fr,q1,q2,q3,q4,q5⟩:=k3;obtain⟨c0,e0,di,p1,p2,p3,p4,p5⟩:=g3;refine⟨c,e,fr,q1,q2,q3,⟨q4.1,λi v x hv hx=> ?_⟩,q5⟩;obtain⟨y0,hy0,hv0⟩:=p4.get hv;exact(q4.2 i v x hv hx).down hv0 bF
 |map es clock=>
  obtain⟨es',q1,q2,q3⟩:=k3;obtain⟨es0,p1,p2,p3⟩:=g3;refine⟨es',q1,q2,λi e e' he su=> ?_⟩;obtain⟨a1,a2,a3⟩:=q3 i e e' he su;have hi:i<es0.size:=by rw[<-p2];exact(Za2.1 he).1
  obtain⟨b1,b2,_⟩:=p3 i e _ he (Zg6 hi);exact⟨a1.down b1 bF,a2.down b2 bF,a3⟩
theorem amQ{ρ:Pos->Loc}{C:Cells}{st:St}{w w':World}{r:AV×St}{x:Value}(hW:cC ρ C st w)(h:oo ρ C st w r.1 r.2 x w'):
   oo ρ C st w (tidy st r).1 (tidy st r).2 x w':=by
 unfold tidy;split
 . rename_i hp;obtain⟨ρ',hv,bF,hn,ji,hE⟩:=h;exact⟨ρ,hp.1 _ _ _ _ _ _ hv,λ_ _=>rfl,Za3 _,hW.back hp.2 bF ji hE.size,⟨hE.os,hE.tape,hE.output,hE.size,hE.block,λb y hb=> .inl ⟨b,y,hb,rfl⟩⟩⟩
 . exact h
theorem amR{st:St}{r:AV×St}(h:st.next.toNat<=r.2.next.toNat):st.next.toNat<=(tidy st r).2.next.toNat:=by
 unfold tidy;split
 . exact Za3 _
 . exact h
def xS(O:fc)(G:T dV)(m:Nat):Nat->aj
 |0=>λ_ _ _=>none
 |  d+1=>λf args st=>match O f with
    |some s=>s args st
    |none=>match G.get (key f)with
     |some F=>(xQ (xS O G m d) m F args st).map (tidy st)
     |none=>none
section
variable{P : Program}{tt : TT}{C : Cells}
theorem amS{call:aj}(hm:pO call){m:Nat}{F:dV}{args:List AV}{st:St}{v:AV}{st':St}(h:xQ call m F args st=some (v,st')):st.next.toNat<=st'.next.toNat:=by
 unfold xQ at h;split at h<;>first|(cases h;done)|skip
 split at h<;>first|(cases h;done)|skip
 all_goals
  rename_i h1;split at h<;>first|(cases h;done)|skip
  simp only[H5,Zd0]at h;obtain⟨rfl,rfl⟩:=h;exact Nh hm _ _ _ _ _ _ _ h1
theorem ab4{O:fc}{G:T dV}(hO:oK O)(m:Nat):∀d,pO (xS O G m d)
 |0=>λf args st v st' h=>by simp[xS]at h
 |d +1=>λf args st v st' h=>by
  unfold xS at h;split at h
  . rename_i s hs;exact hO _ _ hs _ _ _ _ h
  . (split at h<;>first|(cases h;done)|skip);simp only[Zf4]at h;obtain⟨r,hr,he⟩:=h;have:=amS (ab4 hO m d) (v:=r.1) (st':=r.2) hr;have:=amR this;rw[he]at this;exact this
theorem ZT(hm:P.follows .mixedOrders=true)(hT:dH P tt){O:fc}{G:T dV}(hO:vK P C O)(VU:oK O)(hG:GOk P tt G)(m:Nat):∀d,iX P C (xS O G m d)
 |0=>λρ st w f args v st' cQ h=>by simp[xS]at h
 |d +1=>by
  intro ρ st w f args v st' cQ h hW xR;have ih:=ZT hm hT hO VU hG m d;unfold xS at h;split at h
  . rename_i s hs;exact hO f s hs ρ st w args v st' cQ h hW xR
  . (split at h<;>first|(cases h;done)|skip);rename_i F hF;simp only[Zf4]at h;obtain⟨r,hr,he⟩:=h;refine Reaches.mono (λx w' hp=> ?_) (abT hT hG ih (RD hm hT ih (ab4 VU m d)) m hF (v:=r.1) (st':=r.2) hr hW xR);have:=amQ hW hp;rw[he]at this;exact this
end
theorem ajN{c c':aj}(h:ZS c c'){n m:Nat}(hn:n<=m){F:dV}{args:List AV}{st:St}{r:AV×St}(e:xQ c n F args st=some r):xQ c' m F args st=some r:=by
 unfold xQ at e ⊢;split at e<;>first|(cases e;done)|skip
 split at e<;>first|(cases e;done)|skip
 all_goals
  rename_i h1;simp only[Yx h n m hn _ _ _ _ h1];exact e
theorem aaO(O:fc)(G:T dV){n m:Nat}(hn:n<=m):∀d d',d<=d'->ZS (xS O G n d) (xS O G m d')
 |0,_,_=>λ_ _ _ _ e=>by simp[xS]at e
 |_+1,0,h=>by omega
 |d +1,d'+1,h=>λf args st r e=>by
  have ih:=aaO O G hn d d' (by omega);unfold xS at e ⊢;split at e
  . exact e
  . (split at e<;>first|(cases e;done)|skip);simp only[Zf4]at e ⊢;obtain⟨q,hq,he⟩:=e;exact⟨q,ajN ih hn hq,he⟩
def cn(O:fc)(G:T dV)(n:Nat):aj:=xS O G n n
theorem RU(O:fc)(G:T dV){n m:Nat}(h:n<=m):ZS (cn O G n) (cn O G m):=aaO O G h n m h
def run(O:fc)(G:T dV):aj:=λf args st=>open Classical in
 if h:∃(r:AV×St) (n:Nat),cn O G n f args st=some r then some h.choose else none
variable{O : fc}{G : T dV}
theorem amT{f:FuncId}{args:List AV}{st:St}{r:AV×St}{n:Nat}(h:cn O G n f args st=some r):run O G f args st=some r:=by
 unfold run;have hx:∃(r:AV×St) (n:Nat),cn O G n f args st=some r:=⟨r,n,h⟩
 rw[dif_pos hx];obtain⟨m,hm⟩:=hx.choose_spec;have h1:=RU O G (Zj6 n m) f args st _ h;have h2:=RU O G (Zi2 n m) f args st _ hm;rw[h1]at h2;exact h2.symm
theorem ag0{f:FuncId}{args:List AV}{st:St}{r:AV×St}(h:run O G f args st=some r):∃n,cn O G n f args st=some r:=by
 unfold run at h;split at h
 . rename_i hx;simp only[H5]at h;rw[<-h];exact hx.choose_spec
 . cases h
theorem ab5{k:aH}{xs:List AV}{st:St}{r:AV×St}(e:cL (run O G) k xs st=some r):∃n,cL (cn O G n) k xs st=some r:=by
 unfold cL at e;cases hr:k.run (λb=>st.heap.get b) st.next xs with
 |none=>simp[hr]at e
 |some x=>cases x with
  |val v=>exact⟨0,by simpa [cL,hr]using e⟩
  |bh v d s n=>exact⟨0,by simpa [cL,hr]using e⟩
  |call f args=>
   simp only[hr]at e;obtain⟨n,hn⟩:=ag0 e;exact⟨n,by simpa [cL,hr]using hn⟩
theorem VY:∀(os:List bW)(fr:Fr)(st:St)(r:Fr×St),mE (run O G) os fr st=some r->∃n,mE (cn O G n) os fr st=some r
 |[],_,_,_,e=>⟨0,e⟩
 |o::os,fr,st,r,e=>by
  unfold mE at e;cases hw:cN fr o.guard with
  |none=>simp[hw]at e
  |some b=>cases b with
   |    false=>
        simp only[hw]at e;obtain⟨n,hn⟩:=VY os _ _ _ e;exact⟨n,by unfold mE;simp only[hw];exact hn⟩
   |    true=>
        simp only[hw]at e;cases hx:fT fr o.xs with
        |none=>simp[hx]at e
        |some xs=>
         simp only[hx]at e;cases hs:cL (run O G) o.k xs st with
         |none=>simp[hs]at e
         |some p=>
          simp only[hs]at e;obtain⟨n,hn⟩:=VY os _ _ _ e;obtain⟨m,hm⟩:=ab5 hs;refine⟨max n m,?_⟩;unfold mE;simp only[hw,hx,RT (RU O G (Zi2 n m)) hm];exact Yw (RU O G (Zj6 n m)) _ _ _ _ hn
theorem ab6: ∀(os:List (Nat×bW))(recs:List Rec)(base:T AB)(fr:Fr)(st:St)(r:Fr×St),eG (run O G) os recs base fr st=some r->∃n,eG (cn O G n) os recs base fr st=some r
 |[],_,_,_,_,_,e=>⟨0,e⟩
 |(j,   o):: os,recs,base,fr,st,r,e=>by
  have ih:=ab6 os;unfold eG at e;cases hw:cN fr o.guard with
  |none=>simp[hw]at e
  | some b=>cases b with
    |   false=>
        simp only[hw]at e;obtain⟨n,hn⟩:=ih _ _ _ _ _ e;exact⟨n,by unfold eG;simp only[hw];exact hn⟩
    |   true=>
        simp only[hw]at e;cases hx:fT fr o.xs with
        |none=>simp[hx]at e
        |some xs=>
         simp only[hx]at e;cases hc:o.cls with
         | bh=>
           simp only[hc]at e;cases hs:cL (run O G) o.k xs st with
           |none=>simp[hs]at e
           | some p=>
             simp only[hs]at e;obtain⟨n,hn⟩:=ih _ _ _ _ _ e;obtain⟨m,hm⟩:=ab5 hs;refine⟨max n m,?_⟩;unfold eG;simp only[hw,hx,hc,RT (RU O G (Zi2 n m)) hm];exact aaN (RU O G (Zj6 n m)) _ _ _ _ _ _ hn
         | new=>
           simp only[hc]at e;(split at e<;>first|(cases e;done)|skip);obtain⟨n,hn⟩:=ih _ _ _ _ _ e;refine⟨n,?_⟩;unfold eG;simp only[*]
         | pure=>
           simp only[hc]at e;split at e<;>(try split at e)<;>(try split at e)<;>first|(cases e;done)|skip
           all_goals
             obtain⟨n,hn⟩:=ih _ _ _ _ _ e;refine⟨n,?_⟩;unfold eG;simp only[*]
         | read=>
           simp only[hc]at e;split at e<;>(try split at e)<;>(try split at e)<;>first|(cases e;done)|skip
           all_goals
             obtain⟨n,hn⟩:=ih _ _ _ _ _ e;refine⟨n,?_⟩;unfold eG;simp only[*]
theorem aeF:∀(n:Nat)(a:AC)(fr:Fr)(st:St)(r:oJ×Fr×St),exec (run O G) n a fr st=some r->∃m,exec (cn O G m) n a fr st=some r
 |0,_,_,_,_,e=>by simp[exec]at e
 |n+    1,a,fr,st,r,e=>by
  have ih:=aeF n;have up:∀{m m':Nat}{a:AC}{fr:Fr}{st:St}{r:oJ×Fr×St},m<=m'->exec (cn O G m) n a fr st=some r->exec (cn O G m') n a fr st=some r:=
   λh e=>Yx (RU O G h) _ _ (Za3 _) _ _ _ _ e
  cases a<;>simp only[exec,bD]at e
  case skip=>exact⟨0,e⟩
  case exit=>exact⟨0,e⟩
  case ret=>exact⟨0,e⟩
  case region ops=>
   cases ho:mE (run O G) ops fr st with
   |none=>simp[ho]at e
   |    some p=>
        obtain⟨m,hm⟩:=VY _ _ _ _ ho;exact⟨m,by simp only[exec,bD,hm];simpa only[ho]using e⟩
  case draw ops=>
   cases ho:eG (run O G) ops [] st.heap fr st with
   |none=>simp[ho]at e
   |    some p=>
        obtain⟨m,hm⟩:=ab6 _ _ _ _ _ _ ho;exact⟨m,by simp only[exec,bD,hm];simpa only[ho]using e⟩
  case seq a b=>
   cases ha:exec (run O G) n a fr st with
   |none=>simp[ha]at e
   |    some p=>
        obtain⟨ex,fj,bE⟩:=p;simp only[ha]at e;obtain⟨m,hm⟩:=ih _ _ _ _ ha;cases ex with
        |normal=>
         obtain⟨m',hm'⟩:=ih _ _ _ _ e;exact⟨max m m',by simp only[exec,bD,up (Zj6 m m') hm];exact up (Zi2 m m') hm'⟩
        |exit i=>exact⟨m,by simp only[exec,bD,hm];exact e⟩
        |ret=>exact⟨m,by simp only[exec,bD,hm];exact e⟩
  case cond x a b=>
   split at e
   .    rename_i hx;obtain⟨m,hm⟩:=ih _ _ _ _ e;exact⟨m,by simp only[exec,bD,hx];exact hm⟩
   .    rename_i hx;obtain⟨m,hm⟩:=ih _ _ _ _ e;exact⟨m,by simp only[exec,bD,hx];exact hm⟩
   .    cases e
  case block id a=>
   cases ha:exec (run O G) n a fr st with
   |none=>simp[ha]at e
   |    some p=>
        obtain⟨ex,fj,bE⟩:=p;simp only[ha]at e;obtain⟨m,hm⟩:=ih _ _ _ _ ha;exact⟨m,by simp only[exec,bD,hm];exact e⟩
  case loop a=>
   cases ha:exec (run O G) n a fr st with
   |none=>simp[ha]at e
   |    some p=>
        obtain⟨ex,fj,bE⟩:=p;simp only[ha]at e;obtain⟨m,hm⟩:=ih _ _ _ _ ha;cases ex with
        |normal=>
         obtain⟨m',hm'⟩:=ih _ _ _ _ e;exact⟨max m m',by simp only[exec,bD,up (Zj6 m m') hm];exact up (Zi2 m m') hm'⟩
        |exit i=>exact⟨m,by simp only[exec,bD,hm];exact e⟩
        |ret=>exact⟨m,by simp only[exec,bD,hm];exact e⟩
theorem apf{f:FuncId}{F:dV}{args:List AV}{st:St}{r:AV×St}{n:Nat}(ho:O f=none)(hF:G.get (key f)=some F)(h:xQ (run O G) n F args st=some r):
   run O G f args st=some (tidy st r):=by
 unfold xQ at h;split at h<;>first|(cases h;done)|skip
 rename_i hlen
 have fin:∀{ex fr st'},exec (run O G) n F.code (params 0 args .e) st=some (ex,fr,st')->(∀m k,exec (cn O G m) k F.code (params 0 args .e) st=some (ex,fr,st')->xQ (cn O G m) k F args st=some r)->
    run O G f args st=some (tidy st r):=λh1 h2=>by
   obtain⟨m,hm⟩:=aeF _ _ _ _ _ h1;refine amT (n:=max n m+1) ?_;unfold cn xS;simp only[ho,hF];have:=h2 m n hm;have h3:=ajN (aaO O G (n:=m) (m:=max n m+1) (by have:=Zi2 n m;omega) m (max n m) (Zi2 n m)) (m:=max n m+1) (by have:=Zj6 n m;omega) this;rw[h3];rfl
 split at h<;>first|(cases h;done)|skip
 . rename_i h1;exact fin h1 λm k hk=>by unfold xQ;simp only[hlen,hk];exact h
 . rename_i h1;exact fin h1 λm k hk=>by unfold xQ;simp only[hlen,hk];exact h
theorem ab7{f:FuncId}{s:List AV->St->Option (AV×St)}(ho:O f=some s){args:List AV}{st:St}{r:AV×St}(h:s args st=some r):run O G f args st=some r:=
 amT (n:=1) (by unfold cn xS;simp only[ho];exact h)
theorem aeG{P:Program}{tt:TT}{C:Cells}(hm:P.follows .mixedOrders=true)(hT:dH P tt)(hO:vK P C O)(VU:oK O)(hG:GOk P tt G):iX P C (run O G):=by intro ρ st w f args v st' cQ h hW xR;obtain⟨n,hn⟩:=ag0 h;exact ZT hm hT hO VU hG n n ρ st w f args v st' cQ hn hW xR
section
variable{ρ ρ' : Pos -> Loc}{C : Cells}{st bE : St}{w w1 w' : World}{nt r : Nat}{fr fj : Fr}{a a1 : Act}
theorem kT.sub{n:Nat}{tmps:Array Value}(h:kT ρ n C fj tmps)(hf:∀p v,fr.get p=some v->fj.get p=some v):kT ρ n C fr tmps:=λp v hp=>h p v (hf p v hp)
theorem yw.back(hS:yw nt ρ C fr st a w)(hf:∀p v,fr.get p=some v->fj.get p=some v)(hk:aW st bE)(h:kG nt ρ C st w fj bE a1 w1):
  yw nt ρ C fr st a1 w1/\qI ρ st w ρ st w1:=by
 obtain⟨jS,S1,k1,k2,E⟩:=h;refine⟨⟨hS.W.back hk k1 S1.W E.size,λp v hp=> ?_,S1.size,S1.defers⟩,⟨E.os,E.tape,E.output,E.size,E.block,λb x hb=> .inl ⟨b,x,hb,rfl⟩⟩⟩;obtain⟨x,hx,hv⟩:=S1.F p v (hf p v hp);obtain⟨y,_,hy⟩:=hS.F p v hp;exact⟨x,hx,hv.down hy k1⟩
theorem cC.iter{m:Option Nat}{s c:Nat}{seen:Array Nat}(hW:cC ρ C st w)(hr:w.heap[r]? =some (.mapIter m s seen c))(hn:∀b x,st.heap.get b=some x->(ρ b).aN≠r)
   (hs:w'.heap.size=w.heap.size) (hk:∀k,k≠r->w'.heap[k]? =w.heap[k]?):cC ρ C st w':=by
 have dP:∀a v,C a=some v->a.block≠r:=λa v ha e=>by have h:=(hW.eI a v ha).1;unfold World.cell? at h;rw[e,hr]at h;cases h
 refine⟨λb x hb=> ?_,hW.inj,λa v ha=> ?_,λa v ha o ho=> ?_⟩
 . obtain⟨h1,h2,h3⟩:=hW.live b x hb;exact⟨h1,by rw[hs];exact h2,h3.of_heap (hk _ (hn b x hb))⟩
 . obtain⟨h1,h2⟩:=hW.eI a v ha;exact⟨by rw[World.cell?_of_block (w:=w) (hk _ (dP a v ha))];exact h1,h2⟩
 . rw[World.cell?_of_block (w:=w) (a:=⟨a.block,o,none⟩) (hk _ (dP a v ha))];exact hW.whole a v ha o ho
end
def T.sub{α:Type}(f:α->α->Bool):T α->T α->Bool
 | .e,_=>true
 | .n l v r,.e=>(match v with|none=>true|some _=>false)&&T.sub f l .e&&T.sub f r .e
 |  .n l v r,.n l' v' r'=>(match v with
    |none=>true
    |some a=>match v' with
     |some b=>f a b
     |none=>false)&&T.sub f l l'&&T.sub f r r'
theorem T.KS{α:Type}{f:α->α->Bool}(hf:∀a b,f a b=true->a=b):∀{t u:T α},T.sub f t u=true->∀p v,t.get p=some v->u.get p=some v
 | .e,_,_,p,v,h=>by rw[T.dW]at h;cases h
 | .n l x r,.e,hs,p,v,h=>by
   simp only[T.sub,Zb5]at hs;cases p with
   |h=>simp only[T.get]at h;subst h;simp at hs
   |o p=>have:=T.KS hf hs.1.2 p v h;rw[T.dW]at this;cases this
   |i p=>have:=T.KS hf hs.2 p v h;rw[T.dW]at this;cases this
 | .n l x r,.n l' x' r',hs,p,v,h=>by
   simp only[T.sub,Zb5]at hs;cases p with
   |h=>
    simp only[T.get]at h ⊢; subst h;have h1:=hs.1.1;cases x' with
    |none=>simp at h1
    |some y=>simp at h1;rw[hf _ _ h1]
   |o p=>exact T.KS hf hs.1.2 p v h
   |i p=>exact T.KS hf hs.2 p v h
structure RG where
 t17:Nat
 t18:Nat
 t19:Nat
 t20:Nat
 l2:List bW
 x:gZ
 l4:List bW
 body:AC
 ds:List Pos
abbrev XR:=Option (oJ×Fr×St)
section
variable(bZ : th XR)(m : Nat)(g : RG)
def exK(c:AC)(fr:Fr)(st:St):XR:=abI none bZ m c fr st (λfr st=>some (.normal,fr,st)) (λi fr st=>some (.exit i,fr,st)) (λfr st=>some (.ret,fr,st))
def ak4(k v:AV)(fr:Fr)(st:St):XR:=
 w9 (some (.tuple [.bool true,k,v])) (key g.t18) fr λfr=>w9 (some (.bool true)) (key g.t19) fr λfr=>w9 (some (.tuple [k,v])) (key g.t20) fr λfr=>
    adn none bZ g.l4 fr st λfr st=>exK bZ m g.body fr st
def ag1:List Pos->Fr->(Fr->XR)->XR
 |[],fr,k=>k fr
 |p::ps,fr,k=>w9 none p fr λfr=>ag1 ps fr k
def RV(fr:Fr)(st:St)(e:AV×AV×Nat):Bool:=match ak4 bZ m g e.1 e.2.1 fr st with
 |some (.normal,fj,bE)=>T.sub eM fr fj&&T.sub ab1 st.heap bE.heap
 |_=>false
def adx(clock:Nat):List (AV×AV×Nat)->Bool
 |[]=>true
 |e::es=>Nat.blt e.2.2 clock&&es.all (λx=> !Nat.beq x.2.2 e.2.2)&&adx clock es
def ak5 (fr:  Fr) (st:St):XR:=
 adn  none bZ g.l2 fr st λfr st=>evK none fr g.x λ
    | .map b=>match Bx b st.heap with
      | some (.map es clock)=>match adx clock es with
        |true=>   ag1 g.ds fr λfr=>w9 (some (.ptr st.next 0)) (key g.t17) fr λfr=>abH st.next λn=>
           match es.filter (λe=> !RV bZ m g fr { heap:=st.heap,next:=n } e)with
           |[]=>some (.normal,fr,{ heap:=st.heap,next:=n })
           |  [e] =>match ak4 bZ m g e.1 e.2.1 fr { heap:=st.heap,next:=n }with
              |some (.normal,fj,bE)=>ag1 g.ds fj λfj=>
                  match Bx b bE.heap,Bx (key g.t17) fj with
                  |some y,some v=>match ab1 y (.map es clock)&&eM v (.ptr st.next 0)&&es.all (λx=>Nat.beq x.2.2 e.2.2||RV bZ m g fj bE x)with
                   |true=>some (.normal,fj,bE)
                   |false=>none
                  |_,_=>none
              |_=>none
           |_=>none
        |false=>none
      |_=>none
    |_=>none
end
section
variable{P : Program}{tt : TT}{C : Cells}
def pU(P:Program)(C:Cells)(nt:Nat)(c:Code)(ex:Fr->St->XR):Prop:=
 ∀  (fr bI:Fr)(st st':St)(e:oJ)(ρ:Pos->Loc)(a:Act)(w:World)(Q:Exit->Act->World->Prop),ex fr st=some (e,bI,st')->yw nt ρ C fr st a w->
    (∀a' w',kG nt ρ C st w bI st' a' w'->Q (Pr e) a' w')->c.wp P Q a w
theorem amU{bZ:th XR}{call:aj}(hc:CK none bZ call)(m:Nat)(c:AC)(fr:Fr)(st:St):exK bZ m c fr st=exec call m c fr st:=by
 unfold exK;rw[aaL none hc];cases exec call m c fr st with
 |none=>rfl
 |some x=>obtain⟨e,fr,st⟩:=x;cases e<;>rfl
theorem pU.ac(hT:dH P tt){bZ:th XR}{call:aj}(hc:CK none bZ call)(dc:iX P C call)(mh:yx P tt C call){nt m:Nat}{c:Code}{a:AC}(h:vH tt nt c=some a):
 pU P C nt c (exK bZ m a):=λfr bI st st' e ρ ac w Q hx hS hQ=>(CU hT dc mh m).1 c a fr bI st st' e ρ ac w Q h (by rw[<-amU hc];exact hx) hS hQ
def apg(x y:Fr->St->XR)(fr:Fr)(st:St):XR:=match x fr st with
 |some (.normal,fr,st)=>y fr st
 |r=>r
theorem pU.seq{nt:Nat}{c d:Code}{x y:Fr->St->XR}(hc:pU P C nt c x)(hd:pU P C nt d y):pU P C nt (.seq c d) (apg x y):=by
 intro fr bI st st' e ρ a w Q h hS hQ;unfold apg at h;apply wp_seq;split at h
 . rename_i fj bE h1;(refine hc fr fj st bE .normal ρ a w _ h1 hS λa1 w1 hp=> ?_);obtain⟨jS,S1,k1,k2,k3⟩:=hp;exact hd fj bI bE st' e jS a1 w1 Q h S1 λa2 w2 hp=>hQ a2 w2 (kG.trans k1 k2 k3 hp)
 . rename_i dP;(refine hc fr bI st st' e ρ a w _ h hS λa1 w1 hp=> ?_);cases e with
   |normal=>exact(dP _ _ h).elim
   |exit id=>exact hQ a1 w1 hp
   |ret=>exact hQ a1 w1 hp
def clr:List Pos->Fr->Fr
 |[],fr=>fr
 |p::ps,fr=>clr ps (fr.put none p)
theorem ajO:∀(ps:List Pos)(fr:Fr)(k:Fr->XR),ag1 ps fr k=k (clr ps fr)
 |[],_,_=>rfl
 |p::ps,fr,k=>by simp only[ag1,oq,clr];exact ajO ps _ k
theorem ady:∀(ps:List Pos)(fr:Fr)(p:Pos)(v:AV),(clr ps fr).get p=some v->fr.get p=some v
 |[],_,_,_,h=>h
 |q::ps,fr,p,v,h=>by
  have h:=ady ps _ p v h;by_cases hq:q=p
  . subst hq;rw[T.gH]at h;cases h
  . rwa [T.b9 _ hq]at h
theorem adz{clock:Nat}:∀{es:List (AV×AV×Nat)},adx clock es=true->(∀e∈es,e.2.2<clock)/\(es.map (·.2.2)).Nodup
 |[],_=>⟨λ_ h=>by simp at h,by simp⟩
 |e ::es,h=>by
  simp only[adx,Zb5]at h;obtain⟨⟨h1,h2⟩,h3⟩:=h;obtain⟨i1,i2⟩:=adz h3;refine⟨λx hx=> ?_,?_⟩
  . rcases Zb0.1 hx with rfl|hx
    . exact Zb3 h1
    . exact i1 x hx
  . rw[Zd6,List.nodup_cons];refine⟨λhm=> ?_,i2⟩;obtain⟨x,hx,he⟩:=Zc9.1 hm;have:=Zg8.1 h2 x hx;simp[he]at this
def Mv(bZ:th XR)(m:Nat)(g:RG)(A B:Fr×St)(e:AV×AV×Nat):Prop:=
 ∃f1 s1,ak4 bZ m g e.1 e.2.1 A.1 A.2=some (.normal,f1,s1)/\(∀p v,B.1.get p=some v->f1.get p=some v)/\((B=A/\aW A.2 s1)\/B.2=s1)
theorem adA{bZ:th XR}{m:Nat}{g:RG}{fr:Fr}{st:St}{e:AV×AV×Nat}(h:RV bZ m g fr st e=true):Mv bZ m g (fr,st) (fr,st) e:=by
 unfold RV at h;split at h<;>first|(cases h;done)|skip
 rename_i f1 s1 h1;simp only[Zb5]at h;exact⟨f1,s1,h1,T.KS (λ_ _=>yy) h.1,.inl ⟨rfl,T.KS (λ_ _=>aaM) h.2⟩⟩
section
variable{bZ : th XR}{call : aj}{nt m : Nat}{g : RG}{ua : Array Oper}{o0 o1 o4 : Oper}{i3 i4 b0 b1 : Nat}{rest : Code}{TU : List bW}{bs : List Nat}
def ak6(g:RG)(o0 o1:Oper)(ua:Array Oper)(rest:Code)(i3 i4 b0 b1:Nat):Code:=
 .seq (.region i3 #[o0,o1] false) (.seq (.cond (.tmp g.t19) .skip (.exit b0)) (.block b1 (.seq (.region i4 ua false) rest)))
structure aph(tt:TT)(nt:Nat)(g:RG)(o0 o1 o4:Oper)(ua:Array Oper)(rest:Code)(TU:List bW)(bs:List Nat):Prop where
 n0:o0.op= .next (.tmp g.t17) false/\o0.guard=none/\o0.dst=some g.t18
 n1:o1.op= .extract (.tmp g.t18) 0/\o1.guard=none/\o1.dst=some g.t19
 n4:ua[0]? =some o4/\o4.op= .entry (.tmp g.t17)/\o4.guard=none/\o4.dst=some g.t20
 lt:g.t17<nt/\g.t18<nt/\g.t19<nt/\g.t20<nt
 ne:g.t17≠g.t18/\g.t17≠g.t19/\g.t18≠g.t19
 c4:uG tt nt ua ua.toList bs=some TU
 l4:TU.tail=g.l4
 r4:vH tt nt rest=some g.body
structure LI(C:Cells)(nt:Nat)(g:RG)(X:Fr×St)(b Pu:Pos)(es:List (AV×AV×Nat))(since r:Nat)(nS:Pos->Loc)(VZ:St)(w0:World)(seen:Array Nat)(ρ:Pos->Loc)(a:Act)(w:World):Prop where
 S:yw nt ρ C X.1 X.2 a w
 k1:∀p:Pos,p.toNat<VZ.next.toNat->ρ p=nS p
 k2:VZ.next.toNat<=X.2.next.toNat
 E:qI nS VZ w0 ρ X.2 w
 ip:(ρ Pu).aN=r/\(ρ Pu).base=0/\Pu.toNat<X.2.next.toNat
 at17:X.1.get (key g.t17)=some (.ptr Pu 0)
 mp:X.2.heap.get b=some (.map es since)
 it:∃c,w.heap[r]? =some (.mapIter (some (ρ b).aN) since seen c)/\since<=c
 yC:∀p x,X.2.heap.get p=some x->(ρ p).aN≠r
 late:w0.heap.size<=r
 cl:X.1.get (key g.t18)=none/\X.1.get (key g.t19)=none
theorem Ca{ops:Array Oper}{Q:Exit->Act->World->Prop}{i:Nat}{rest:List Nat}{o:Oper}{a:Act}{w w':World}{v:Value}(ho:ops[i]? =some o)(hg:o.guard=none)
  (hr:(execOp a.eval o).run P w= .ok (.value v) w') (hQ:wpOps P ops Q rest (a.put o.dst v) w'):wpOps P ops Q (i::rest) a w:=by
 unfold wpOps;rw[ho];simp only[Region.wanted,hg,Zh6];refine .inl ?_;unfold Oper.wp;rw[hr];exact hQ
theorem eval_put{a:Act}{t:Nat}{v:Value}(h:t<a.tmps.size):(a.put (some t) v).eval (.tmp t)=v:=by
 simp[Act.put,Act.eval,h]
theorem ZU{a:Act}{t s:Nat}{v:Value}(h:t≠s):(a.put (some t) v).eval (.tmp s)=a.eval (.tmp s):=by
 simp[Act.put,Act.eval,Zj7 h]
theorem LI.round(hT:dH P tt)(hc:CK none bZ call)(dc:iX P C call)(mh:yx P tt C call)(hR:aph tt nt g o0 o1 o4 ua rest TU bs)
   {A:Fr×St} {b Pu:Pos} {es:List (AV×AV×Nat)} {since r:Nat} {nS:Pos->Loc} {VZ:St} {w0:World} {seen:Array Nat} {ρ:Pos->Loc} {a:Act} {w:World}
   (L:LI C nt g A b Pu es since r nS VZ w0 seen ρ a w) (eD:adx since es=true) {Q:Exit->Act->World->Prop}
   (ak7:(∀e∈es,seen.contains e.2.2=true)->∀a',yw nt ρ C A.1 A.2 a' w->Q (.exit b0) a' w)
   (auH:∀e∈es,seen.contains e.2.2=false->∃B,Mv bZ m g A B e/\B.1.get (key g.t17)=some (.ptr Pu 0)/\B.2.heap.get b=some (.map es since)/\B.1.get (key g.t18)=none/\B.1.get (key g.t19)=none/\
     ∀ρ' a' w',LI C nt g B b Pu es since r nS VZ w0 (seen.push e.2.2) ρ' a' w'->Q .normal a' w'):
   (ak6 g o0 o1 ua rest i3 i4 b0 b1).wp P Q a w:=by
 obtain⟨c,hr,hsc⟩:=L.it;obtain⟨g1,g2,es',q1,q2,q3⟩:=L.S.W.live b _ L.mp;obtain⟨aT,hnd⟩:=adz eD;have hat:∀(i:Nat)(e':MapEntry),es'[i]? =some e'->∃e,es[i]? =some e/\aD ρ A.2.next.toNat C e.1 e'.key/\aD ρ A.2.next.toNat C e.2.1 e'.val/\e.2.2=e'.born:=λi e' h=>by
   have hi:i<es.length:=(by rw[q2];exact(Zd2.1 h).1);exact⟨_,H0 hi,q3 i _ e' (H0 hi) h⟩
 have hold:∀x∈es'.toList,x.born<since:=λx hx=>by
   obtain⟨i,hi⟩:=Ze7.1 hx;obtain⟨e,h1,_,_,h2⟩:=hat i x (by simpa using hi);rw[<-h2];exact aT e (Zc0 h1)
 have e8:es'.toList.map (·.born)=es.map (·.2.2):=by
   apply Zi4;intro i;simp only[Zb8,Zj8];cases h:es'[i]? with
   | none=>
     have:es.length<=i:=(by rw[q2];exact Array.getElem?_eq_none_iff.1 h);rw[Zc1 this];rfl
   | some x=>
     obtain⟨e,h1,_,_,h2⟩:=hat i x h;rw[h1];simp[h2]
 have hit:a.eval (.tmp g.t17)= .pointer (some ⟨r,0,none⟩):=by
   have h:=By (x:= .tmp g.t17) (o:= .t (key g.t17)) rfl L.S.F (v:= .ptr Pu 0) L.at17;obtain⟨_,h⟩:=h.qP;rw[h,L.ip.1,L.ip.2.1]
 have gR:=L.S.size;have s18:∀(v:Value),g.t18<(a.put (some g.t18) v).tmps.size:=λv=>by rw[Act.j5,gR];exact hR.lt.2.1
 have hrl:r<w.heap.size:=(Zd2.1 hr).1;unfold ak6;apply wp_seq;apply wp_region;show wpOps P _ _ [0,1] a w;rcases run_next_at (P:=P) w o0.type r (ρ b).aN since c seen es' since hr q1 hold hsc with⟨h0,dX⟩|⟨e',su,w1,oG,dX⟩
 . refine Ca (i:=0) (o:=o0) rfl hR.n0.2.1 (v:= .tuple #[.bool false]) (w':=w) (by simp[execOp,hR.n0.1,hit,dX,Result.andThen]) ?_;rw[hR.n0.2.2];refine Ca (i:=1) (o:=o1) rfl hR.n1.2.1 (v:= .bool false) (w':=w) (by simp[execOp,hR.n1.1,eval_put (gR ▸hR.lt.2.1),Instr.extract,Result.andThen]) ?_;rw[hR.n1.2.2];apply wp_seq;refine wp_cond_false (eval_put (by rw[Act.j5,gR];exact hR.lt.2.2.1)) (wp_exit ?_);refine ak7 (λe he=> ?_) _ ⟨L.S.W,λp v hp=> ?_,by rw[Act.j5,Act.j5];exact gR,by rw[Act.mC,Act.mC];exact L.S.defers⟩
   . obtain⟨i,hi⟩:=Ze7.1 he;have hi':i<es'.size:=(by rw[<-q2];exact(Za2.1 hi).1);obtain⟨e2,h1,_,_,h2⟩:=hat i _ (Zg6 hi');rw[hi]at h1;cases h1;rw[h2];have hem:leftOf es' seen= #[]:=Zo2 h0;unfold leftOf at hem;rw[Array.filter_eq_empty_iff]at hem;have:=hem es'[i] (Array.getElem_mem hi');simpa using this
   . rw[Nk (λh=>by simp at h;subst h;rw[L.cl.2]at hp;cases hp),Nk (λh=>by simp at h;subst h;rw[L.cl.1]at hp;cases hp)];exact L.S.F p v hp
 . have hr1:w1.heap[r]? =some (.mapIter (some (ρ b).aN) since seen c):=(by rcases oG with rfl|rfl<;>exact hr);have lR:w1.heap[(ρ b).aN]? =some (.map es' since):=(by rcases oG with rfl|rfl<;>exact q1);have Iz:=Go.MapKept.heap_set (o':= .mapIter (some (ρ b).aN) since (seen.push e'.born) since) hr1;obtain⟨w2,tq⟩:∃w2,w2=Go.ChangeMaps.setBlock w1 r (.mapIter (some (ρ b).aN) since (seen.push e'.born) since):=⟨_,rfl⟩
   (change (Go.ChangeMaps.setBlock w1 r (.mapIter (some (ρ b).aN) since (seen.push e'.born) since)).heap[r]? =_/\∀k,k≠r->(Go.ChangeMaps.setBlock w1 r (.mapIter (some (ρ b).aN) since (seen.push e'.born) since)).heap[k]? =_ at Iz;rw[<-tq]at Iz dX;have uu:w2.heap.size=w.heap.size:=(by rw[tq];rcases oG with rfl|rfl<;>simp[Go.ChangeMaps.setBlock]<;>rfl);have ur:∀k,k≠r->w2.heap[k]? =w.heap[k]? :=λk hk=>(Iz.2 k hk).trans (by rcases oG with rfl|rfl<;>rfl));have VL:w2.os=w.os/\w2.tape=w.tape/\w2.output=w.output:=(by rw[tq];rcases oG with rfl|rfl<;>exact⟨rfl,rfl,rfl⟩);clear tq oG;have hW2:cC ρ C A.2 w2:=L.S.W.iter hr L.yC uu ur;have hen:(Instr.entry (.pointer (some ⟨r,0,none⟩))).run P w2= .ok (.tuple #[e'.key,e'.val]) w2:=
     run_entry_at _ r _ since seen es' since e' Iz.1 ((ur _ (L.yC b _ L.mp)).trans q1) (by simp[leftOf]at su;simpa using su.1) (e8 ▸hnd)
   obtain⟨i,hi⟩:=Ze7.1 su;have uK:e'∈es'.toList/\seen.contains e'.born=false:=(by simpa [leftOf]using su);obtain⟨j,hj⟩:=Ze7.1 uK.1;obtain⟨e,h1,v1,v2,h2⟩:=hat j e' (by simpa using hj);obtain⟨B,⟨f1,s1,hx,hf,hB⟩,b17,bm,b18,b19,hQ⟩:=auH e (Zc0 h1) (by rw[h2];exact uK.2);refine Ca (i:=0) (o:=o0) rfl hR.n0.2.1 (v:= .tuple #[.bool true,e'.key,e'.val]) (w':=w2) (by simp[execOp,hR.n0.1,hit,dX,Result.andThen]) ?_;rw[hR.n0.2.2];refine Ca (i:=1) (o:=o1) rfl hR.n1.2.1 (v:= .bool true) (w':=w2) (by simp[execOp,hR.n1.1,eval_put (gR ▸hR.lt.2.1),Instr.extract,Result.andThen]) ?_;rw[hR.n1.2.2];apply wp_seq;refine wp_cond_true (eval_put (by rw[Act.j5,gR];exact hR.lt.2.2.1)) (wp_skip ?_);apply wp_block;apply wp_seq;apply wp_region;have hln:ua.size=g.l4.length+1:=(by have h:TU.length=ua.size:=(by rw[(wW hR.c4).1,Zi3]);obtain⟨h4,_⟩:=Zd2.1 hR.n4.1;have h4:0<ua.size:=h4;rw[<-hR.l4,List.length_tail];omega);rw[hln,Zm2,Zq7];refine Ca (i:=0) (o:=o4) hR.n4.1 hR.n4.2.2.1 (v:= .tuple #[e'.key,e'.val]) (w':=w2) (by simp[execOp,hR.n4.2.1,ZU hR.ne.1.symm,ZU hR.ne.2.1.symm,hit,hen,Result.andThen]) ?_;rw[hR.n4.2.2.2];unfold ak4 at hx;simp only[oq]at hx;rw[Yu none hc]at hx;unfold uL at hx;(split at hx<;>first|(cases hx;done)|skip);rename_i y hy;simp only[amU hc]at hx;have hvt:aD ρ A.2.next.toNat C (.tuple [.bool true,e.1,e.2.1]) (.tuple #[.bool true,e'.key,e'.val]):= .yl ((aL.nil.cons v2).cons v1 |>.cons (.bool true));have hve:aD ρ A.2.next.toNat C (.tuple [e.1,e.2.1]) (.tuple #[e'.key,e'.val]):= .yl ((aL.nil.cons v2).cons v1);have F1:=kT.put (nt:=nt) (d:=some g.t18) L.S.F gR (λ_ h=>by cases h;exact hR.lt.2.1) hvt;have F2:=kT.put (nt:=nt) (d:=some g.t19) F1 (by rw[Act.j5];exact gR) (λ_ h=>by cases h;exact hR.lt.2.2.1) (.bool true);have F3:=kT.put (nt:=nt) (d:=some g.t20) F2 (by rw[Act.j5,Act.j5];exact gR) (λ_ h=>by cases h;exact hR.lt.2.2.2) hve;refine CS (nt:=nt) hT dc g.l4 1 _ y.1 A.2 y.2 ρ _ w2 (λi ao hi=> ?_) hy ⟨hW2,F3,by rw[Act.j5,Act.j5,Act.j5];exact gR,by rw[Act.mC,Act.mC,Act.mC];exact L.S.defers⟩ λa3 w3 hp=> ?_
   . rw[<-hR.l4,List.getElem?_tail]at hi;obtain⟨o,k1,k2,_⟩:=Rs hR.c4 (i+1) ao hi;exact⟨o,by rw[Zr0];exact k1,k2⟩
   obtain⟨ρ3,S3,k1,k2,k3⟩:=hp;(refine(CU hT dc mh m).1 rest g.body y.1 f1 y.2 s1 .normal ρ3 a3 w3 _ hR.r4 hx S3 λa4 w4 hp=> ?_);have hP:=kG.trans k1 k2 k3 hp;show Q .normal a4 w4;have S2:yw nt ρ C A.1 A.2 a w2:=⟨hW2,L.S.F,gR,L.S.defers⟩
   have hE2:qI nS VZ w0 ρ A.2 w2:=⟨VL.1.trans L.E.os,VL.2.1.trans L.E.tape,VL.2.2.trans L.E.output,by rw[uu];exact L.E.size,λk hk hn=>(ur k (by have:=L.late;omega)).trans (L.E.block k hk hn),λb x hb=>L.E.ym b x hb⟩
   obtain⟨ρ4,S4,l1,l2,E4⟩:∃ρ4,yw nt ρ4 C B.1 B.2 a4 w4/\(∀p:Pos,p.toNat<A.2.next.toNat->ρ4 p=ρ p)/\A.2.next.toNat<=B.2.next.toNat/\qI ρ A.2 w2 ρ4 B.2 w4:=by
     rcases hB with⟨rfl,hk⟩|hB
     .  obtain⟨S,E⟩:=S2.back hf hk hP;exact⟨ρ,S,λ_ _=>rfl,Za3 _,E⟩
     .  obtain⟨ρ4,S,l1,l2,E⟩:=hP;rw[<-hB]at S l2 E;exact⟨ρ4,⟨S.W,S.F.sub hf,S.size,S.defers⟩,l1,l2,E⟩
   have h4r:w4.heap[r]? =some (.mapIter (some (ρ b).aN) since (seen.push e.2.2) since):=(by rw[E4.block r (by rw[uu];exact hrl) L.yC,h2];exact Iz.1);refine hQ ρ4 a4 w4 ⟨S4,λp hp=>(l1 p (Zc7 hp L.k2)).trans (L.k1 p hp),Zb1 L.k2 l2,hE2.trans E4,?_,b17,bm,⟨since,?_,Za3 _⟩,λp x hp=> ?_,L.late,b18,b19⟩
   . rw[l1 Pu L.ip.2.2];exact⟨L.ip.1,L.ip.2.1,Zc7 L.ip.2.2 l2⟩
   . rw[l1 b g1];exact h4r
   . rcases E4.ym p x hp with⟨p',x',hp',e1⟩|h
     .  rw[<-e1];exact L.yC p' x' hp'
     .  rw[uu]at h;omega
theorem amV{α:Type}{p q:α->Bool}(h:∀x,q x=true->p x=true){e:α}(hp:p e=true)(hq:q e=false):∀{l:List α},e∈l->(l.filter q).length<(l.filter p).length
 |[],h=>by simp at h
 |x ::l,hm=>by
  have hle:∀l:List α,(l.filter q).length<=(l.filter p).length:=λl=>by
    induction l with
    |nil=>simp
    |   cons y l ih=>
        have:=h y;cases hqy:q y<;>cases hpy:p y<;>simp_all<;>omega
  rcases Zb0.1 hm with rfl|hm
  . simp only[List.filter_cons,hp,hq,Zh6,Zf5,Zh0,Zc6];have:=hle l;omega
  . have ih:=amV h hp hq hm;have:=h x;cases hqx:q x<;>cases Cb:p x<;>simp_all<;>omega
theorem born_inj:∀{es:List (AV×AV×Nat)},(es.map (·.2.2)).Nodup->∀x∈es,∀y∈es,x.2.2=y.2.2->x=y
 |[],_,_,h,_,_,_=>by simp at h
 |e::es,hn,x,hx,y,hy,he=>by
  rw[Zd6,List.nodup_cons]at hn;rcases Zb0.1 hx with h1|h1<;>rcases Zb0.1 hy with h2|h2
  . rw[h1,h2]
  . subst h1;exact(hn.1 (he ▸Zc9.2 ⟨y,h2,rfl⟩)).elim
  . subst h2;exact(hn.1 (he ▸Zc9.2 ⟨x,h1,rfl⟩)).elim
  . exact born_inj hn.2 x h1 y h2 he
theorem LI.rounds(hT:dH P tt)(hc:CK none bZ call)(dc:iX P C call)(mh:yx P tt C call)(hR:aph tt nt g o0 o1 o4 ua rest TU bs)
  {X:Bool->Fr×St} {act:Nat} {b Pu:Pos} {es:List (AV×AV×Nat)} {since r:Nat} {nS:Pos->Loc} {VZ:St} {w0:World} (eD:adx since es=true) {Q:Exit->Act->World->Prop}
  (hm:∀e∈es,(e.2.2=act->Mv bZ m g (X false) (X true) e)/\(e.2.2≠act->∀f,Mv bZ m g (X f) (X f) e))
  (hX:∀f,(X f).1.get (key g.t17)=some (.ptr Pu 0)/\(X f).2.heap.get b=some (.map es since)/\(X f).1.get (key g.t18)=none/\(X f).1.get (key g.t19)=none)
  (api:(∃e∈es,e.2.2=act)\/X false=X true)
  (hQ:∀a' w',kG nt nS C VZ w0 (X true).1 (X true).2 a' w'->Q (.exit b0) a' w'):
  ∀ (n:Nat)(seen:Array Nat)(ρ:Pos->Loc)(a:Act)(w:World),(es.filter λe=> !seen.contains e.2.2).length<n->LI C nt g (X (seen.contains act)) b Pu es since r nS VZ w0 seen ρ a w->
    Code.rounds P (ak6 g o0 o1 ua rest i3 i4 b0 b1) Q n a w:=by
 intro n;induction n with
 |zero=>intro seen ρ a w hn;omega
 |succ n ih=>
  intro seen ρ a w hn L;rw[rounds_succ];refine L.round (m:=m) hT hc dc mh hR eD (λpN a' S=> ?_) λe he hs=> ?_
  . have hx:X (seen.contains act)=X true:=by
        rcases api with⟨e,he,rfl⟩|h
        . rw[pN e he]
        . cases seen.contains act
          . exact h
          . rfl
    rw[hx]at S L;exact hQ a' w ⟨ρ,S,L.k1,L.k2,L.E⟩
  . have hp:∀y,(seen.push e.2.2).contains y=(seen.contains y||y==e.2.2):=λy=>by
        rw[Array.contains_push]
    have aT:(es.filter λx=> !(seen.push e.2.2).contains x.2.2).length<(es.filter λx=> !seen.contains x.2.2).length:=
        amV (e:=e) (λx hx=>by simp only[hp]at hx;simp at hx ⊢; exact hx.1) (by show(!seen.contains e.2.2)=true;rw[hs];rfl) (by show(!(seen.push e.2.2).contains e.2.2)=false;rw[hp];simp) he
    refine⟨X ((seen.push e.2.2).contains act),?_,(hX _).1,(hX _).2.1,(hX _).2.2.1,(hX _).2.2.2,λρ' a' w' L'=>ih _ ρ' a' w' (by omega) L'⟩;rw[hp act];by_cases ha:e.2.2=act
    .   subst ha;rw[hs];simpa using(hm e he).1 rfl
    .   have:(act==e.2.2)=false:=(by simpa using λh=>ha h.symm);rw[this,Bool.or_false];exact(hm e he).2 ha _
theorem Lr:∀(ps:List Pos)(fr:Fr)(p:Pos),p∈ps\/fr.get p=none->(clr ps fr).get p=none
 |[],_,_,h=>h.elim (λh=>by simp at h) id
 |q ::ps,fr,p,h=>Lr ps _ p (by
  by_cases hq:q=p
  . subst hq;exact .inr (T.gH _ _ _)
  . rcases h with h|h
    .   rcases Zb0.1 h with h|h
        . exact(hq h.symm).elim
        . exact .inl h
    .   exact .inr (by rw[T.b9 _ hq];exact h))
theorem Nq{ops:Array Oper}{Q:Exit->Act->World->Prop}{l2:List Nat}:∀(l1:List Nat)(a:Act)(w:World),wpOps P ops (Exit.then (wpOps P ops Q l2) Q) l1 a w->wpOps P ops Q (l1++l2) a w
 |[],_,_,h=>h
 |i ::l1,a,w,h=>by
  rw[Zd7];unfold wpOps at h ⊢;split
  . rename_i ho;rw[ho]at h;exact Nq l1 a w h
  . rename_i o ho;rw[ho]at h;simp only at h;split
    .   rename_i hw;rw[Zb2 hw]at h;refine h.imp (λh=> ?_) id;have h:=Oper.wp_mono (K':=wpOps P ops Q (l1++l2)) (λa w h=>Nq l1 a w h) h;unfold Oper.wp at h ⊢;generalize (execOp a.eval o).run P w=r at h ⊢;rcases r with⟨x,w⟩|⟨x,w⟩
        . cases x<;>exact h
        . cases x<;>exact h
    .   rename_i hw;rw[Za7 hw]at h;exact Nq l1 _ w h
theorem cC.slot{ρ ρ':Pos->Loc}{st:St}{w:World}(hW:cC ρ C st w)(bF:∀p:Pos,p.toNat<st.next.toNat->ρ' p=ρ p):cC ρ' C ⟨st.heap,st.next.succ⟩ w:=by
 have hl:∀p x,st.heap.get p=some x->ρ' p=ρ p:=λp x hp=>bF p (hW.live p x hp).1
 refine⟨λp x hp=> ?_,λp q x y hp hq h=> ?_,λa v ha=>⟨(hW.eI a v ha).1,λp x hp=> ?_⟩,hW.whole⟩
 . obtain⟨h1,h2,h3⟩:=hW.live p x hp;rw[hl p x hp];exact⟨by rw[Pos.aF];exact Nat.lt_succ_of_lt h1,h2,h3.mono bF (by rw[Pos.aF];omega)⟩
 . rw[hl p x hp,hl q y hq]at h;exact hW.inj p q x y hp hq h
 . rw[hl p x hp];exact(hW.eI a v ha).2 p x hp
theorem pU.rng(hT:dH P tt)(hc:CK none bZ call)(dc:iX P C call)(mh:yx P tt C call)(hR:aph tt nt g o0 o1 o4 ua rest TU bs)
   {C8:Array Oper} {l2f:List bW} {o2:Oper} {x:Operand} {ty kt et:TypeId} {i2:Nat} {bs2:List Nat} (h2:uG tt nt C8 C8.toList bs2=some l2f) (vr:l2f.dropLast=g.l2)
   (VL:C8[g.l2.length]? =some o2) (uu:C8.size=g.l2.length+1) (hop:o2.op= .range ty x) (C9:o2.guard=none) (hd2:o2.dst=some g.t17) (hx:uF x=some g.x) (apj:P.underlying ty=some (.map kt et))
   (Pk:key g.t18∈g.ds/\key g.t19∈g.ds):pU P C nt (.seq (.region i2 C8 false) (.block b0 (.loop (ak6 g o0 o1 ua rest i3 i4 b0 b1)))) (ak5 bZ m g):=by
 intro fr bI st st' e ρ a w Q h hS hQ;unfold ak5 at h;rw[Yu none hc]at h;unfold uL at h;split at h<;>first|(cases h;done)|skip
 rename_i y hy;simp only[agT]at h;unfold uL at h;split at h<;>first|(cases h;done)|skip
 rename_i v hv;dsimp only at h;split at h<;>first|(cases h;done)|skip
 rename_i b;simp only[B9]at h;split at h<;>first|(cases h;done)|skip
 rename_i es clock hb;split at h<;>first|(cases h;done)|skip
 rename_i eD;simp only[ajO,oq,RH]at h;apply wp_seq;apply wp_region;rw[uu,Zf8];apply Nq;rw[Zm2];refine CS (nt:=nt) hT dc g.l2 0 fr y.1 st y.2 ρ a w (λi ao hi=> ?_) hy hS λa2 w2 hp=> ?_
 . rw[<-vr,List.getElem?_dropLast]at hi;(split at hi<;>first|(cases hi;done)|skip);obtain⟨o,k1,k2,_⟩:=Rs h2 i ao hi;exact⟨o,by rw[Zb4];exact k1,k2⟩
 obtain⟨vg,S2,k1,k2,E2⟩:=hp;obtain⟨hbn,VP⟩:=(By hx S2.F hv).B7;obtain⟨g1,g2,es',q1,q2,q3⟩:=S2.W.live b _ hb;obtain⟨Pv,hf3⟩:∃f,f=(clr g.ds y.1).put (some (.ptr y.2.next 0)) (key g.t17):=⟨_,rfl⟩
 rw[<-hf3]at h;obtain⟨EY,EZ⟩:∃s:St,s=⟨y.2.heap,y.2.next.succ⟩:=⟨_,rfl⟩
 rw[<-EZ]at h;have n18:key g.t17≠key g.t18:=λe=>hR.ne.1 (by have:=congrArg Pos.toNat e;rw[iN,iN]at this;omega)
 have n19:key g.t17≠key g.t19:=λe=>hR.ne.2.1 (by have:=congrArg Pos.toNat e;rw[iN,iN]at this;omega)
 have key:∃(X:Bool->Fr×St) (act:Nat),X false=(Pv,EY)/\e= .normal/\X true=(bI,st')/\(∀e∈es,(e.2.2=act->Mv bZ m g (X false) (X true) e)/\(e.2.2≠act->∀f,Mv bZ m g (X f) (X f) e))/\
     (∀f,(X f).1.get (key g.t17)=some (.ptr y.2.next 0)/\(X f).2.heap.get b=some (.map es clock)/\(X f).1.get (key g.t18)=none/\(X f).1.get (key g.t19)=none)/\((∃e∈es,e.2.2=act)\/X false=X true):=by
   have hX0:Pv.get (key g.t17)=some (.ptr y.2.next 0)/\EY.heap.get b=some (.map es clock)/\Pv.get (key g.t18)=none/\Pv.get (key g.t19)=none:=by
     rw[hf3,EZ,T.gH,T.b9 _ n18,T.b9 _ n19];exact⟨rfl,hb,Lr _ _ _ (.inl Pk.1),Lr _ _ _ (.inl Pk.2)⟩
   split at h
   . (rename_i ag2;simp only[H5,Zd0]at h;obtain⟨rfl,rfl,rfl⟩:=h;have hid:∀e∈es,Mv bZ m g (Pv,EY) (Pv,EY) e:=λe he=>adA (by rw[List.filter_eq_nil_iff]at ag2;have:=ag2 e he;simpa using this));exact⟨λ_=>(Pv,EY),0,rfl,rfl,rfl,λe he=>⟨λ_=>hid e he,λ_ _=>hid e he⟩,λ_=>hX0,.inr rfl⟩
   . (rename_i e1 ag2;(split at h<;>first|(cases h;done)|skip);rename_i f1 s1 hr1;(split at h<;>first|(cases h;done)|skip);rename_i y1 v1 VE hv1;(split at h<;>first|(cases h;done)|skip);rename_i pN;simp only[H5,Zd0]at h;obtain⟨rfl,rfl,rfl⟩:=h;simp only[Zb5]at pN;obtain⟨⟨c1,c2⟩,c3⟩:=pN;have c1:=aaM c1;have c2:=yy c2;subst c1;subst c2;have uK:e1∈es:=by have:e1∈es.filter (λe=> !RV bZ m g Pv EY e):=(by rw[ag2];simp);exact(Zl5.1 this).1);refine⟨λf=>if f then(clr g.ds f1,s1)else(Pv,EY),e1.2.2,rfl,rfl,rfl,λe he=>⟨λhb=> ?_,λhb f=> ?_⟩,λf=> ?_,.inl ⟨e1,uK,rfl⟩⟩
     .  obtain rfl:=born_inj (adz eD).2 e he e1 uK hb;exact⟨f1,s1,hr1,ady _ _,.inr rfl⟩
     .  cases f
        . refine adA ?_;cases hi:RV bZ m g Pv EY e
          . have:e∈es.filter (λe=> !RV bZ m g Pv EY e):=Zl5.2 ⟨he,by rw[hi];rfl⟩;rw[ag2]at this;simp at this;exact(hb (by rw[this])).elim
          . rfl
        . refine adA ?_;have:=Zg8.1 c3 e he;simp only[Zj5]at this;exact this.resolve_left λh=>hb (Za6 h)
     .  cases f
        . exact hX0
        . exact⟨hv1,VE,Lr _ _ _ (.inl Pk.1),Lr _ _ _ (.inl Pk.2)⟩
   . cases h
 obtain⟨X,act,x0,rfl,x1,hm,hX,api⟩:=key;show wpOps P _ _ [g.l2.length] a2 w2
 refine Ca VL C9 (v:= .pointer (some ⟨w2.heap.size,0,none⟩)) (w':=w2.alloc (.mapIter (some (vg b).aN) clock #[] clock))
   (by simp[execOp,hop,VP,run_range_map (P:=P) w2 ty kt et (vg b).aN es' clock apj q1,Result.andThen]) ?_
 rw[hd2];show(Code.block b0 _).wp P Q _ _;apply wp_block;have hold:∀k,k<w2.heap.size->(w2.alloc (.mapIter (some (vg b).aN) clock #[] clock)).heap[k]? =w2.heap[k]? :=λk hk=>heap_alloc_old w2 _ hk
 have gR:(w2.alloc (.mapIter (some (vg b).aN) clock #[] clock)).heap.size=w2.heap.size+1:=by simp
 obtain⟨ρ3,h3,bF⟩:∃ρ3:Pos->Loc,ρ3 y.2.next=⟨w2.heap.size,0,0⟩/\∀p:Pos,p.toNat<y.2.next.toNat->ρ3 p=vg p:=
   ⟨λp=>if p=y.2.next then⟨w2.heap.size,0,0⟩else vg p,Zb2 rfl,λp hp=>Za7 λe=>by subst e;omega⟩
 have hW3:cC ρ3 C EY (w2.alloc (.mapIter (some (vg b).aN) clock #[] clock)):=by rw[EZ];exact(S2.W.slot bF).grow (by omega) hold
 have VS:EY.next.toNat=y.2.next.toNat+1:=by rw[EZ];exact Pos.aF _
 have hF3:kT ρ3 EY.next.toNat C Pv (a2.put (some g.t17) (.pointer (some ⟨w2.heap.size,0,none⟩))).tmps:=by rw[hf3];refine kT.put (nt:=nt) (d:=some g.t17) ((S2.F.sub (ady _ _)).mono bF (by omega)) S2.size (λ_ h=>by cases h;exact hR.lt.1) ?_;have:=aD.ptr (ρ:=ρ3) (C:=C) y.2.next 0 (n:=EY.next.toNat) (by omega);rw[h3]at this;exact this
 refine wp_loop_rounds (es.length+1) (LI.rounds (m:=m) (nS:=vg) (VZ:=y.2) (w0:=w2) (r:=w2.heap.size) hT hc dc mh hR eD hm hX api (λa' w' hp=> ?_) (es.length+1) #[] ρ3 _ _
   (Nat.lt_succ_of_le (Zl9 ..)) ?_)
 . rw[x1]at hp;simp only[Exit.inBlock,Zh6];exact hQ a' w' (kG.trans k1 k2 E2 hp)
 . have:X ((#[]:Array Nat).contains act)=(Pv,EY):=(by simpa using x0);rw[this];refine⟨⟨hW3,hF3,by rw[Act.j5];exact S2.size,by rw[Act.mC];exact S2.defers⟩,bF,by show y.2.next.toNat<=EY.next.toNat;omega,
     ⟨rfl,rfl,rfl,by rw[gR];omega,λk hk _=>hold k hk,λp x hp=> .inl ⟨p,x,by rw[EZ]at hp;exact hp,by
        rw[EZ]at hp;rw[bF p (S2.W.live p x hp).1]⟩⟩,⟨by rw[h3],by rw[h3],by show _<EY.next.toNat;omega⟩,x0 ▸(hX false).1,x0 ▸(hX false).2.1,⟨clock,?_,Za3 _⟩,λp x hp=> ?_,Za3 _,x0 ▸(hX false).2.2⟩
   . rw[bF b g1];exact heap_alloc_new w2 _
   . rw[EZ]at hp;obtain⟨l1,l2,_⟩:=S2.W.live p x hp;rw[bF p l1];omega
end
end
def xfn(ex:Fr->St->XR)(np:Nat)(rs:List OY)(args:List AV)(st:St):Option (AV×St):=match Nat.beq args.length np with
 |  true=>match Pb args 0 .e λfr=>ex fr st with
    |some (.exit _,_,_)=>none
    |some (_,fr,st')=>match gQ (λb=>Bx b st'.heap) fr rs,Nat.ble st.next.toNat st'.next.toNat with
     |some vs,true=>some (zq vs,st')
     |_,_=>none
    |none=>none
 |false=>none
section
variable{P : Program}{tt : TT}{C : Cells}
theorem atA(hT:dH P tt){f np:Nat}{fn:Func}{c:Code}{ex:Fr->St->XR}{rs:List OY}(hf:P.funcs[f]? =some fn)(qq:(fn.name== "runtime.NumGoroutine")=false)(hb:fn.body=some c)
  (hx:pU P C fn.ntmps c ex) (hr:qW tt fn.results.toList=some rs) (hle:np<=fn.ntmps):tZ P C f (xfn ex np rs) where
 mono args st v st' h:=by
  unfold xfn at h;split at h<;>first|(cases h;done)|skip
  split at h<;>first|(cases h;done)|skip
  split at h<;>first|(cases h;done)|skip
  rename_i hn;cases h;exact Zb3 hn
 runs ρ st w args v st' cQ h hW xR:=by
  unfold xfn at h;split at h<;>first|(cases h;done)|skip
  rename_i hlen;have hlen:=Za6 hlen;rw[RJ]at h;split at h<;>first|(cases h;done)|skip
  rename_i e fj bE dP h1;split at h<;>first|(cases h;done)|skip
  rename_i vs CN _;simp only[H5,Zd0]at h;obtain⟨rfl,rfl⟩:=h;have dX:(callFunc f cQ.toArray).run P w= .ok (.enter f cQ.toArray) w:=by
   have agM:¬fn.name= "runtime.NumGoroutine" :=(by simpa using qq);simp[callFunc,hf,agM,hb]
  rw[dX];simp only[Reaches];refine calls_of_wp hf hb ?_;have gR:cQ.length<=fn.ntmps:=by rw[<-xR.1,hlen];exact hle
  have hS:yw fn.ntmps ρ C (params 0 args .e) st { tmps:=cQ.toArray++Array.replicate (fn.ntmps - cQ.toArray.size) undef,defers:=[] } w:=by
   refine⟨hW,?_,?_,rfl⟩
   .    refine Rt args cQ 0 .e xR (λj x hx=> ?_) (λp v hp=>by rw[T.dW]at hp;cases hp);have hj:j<cQ.length:=(Za2.1 hx).1;rw[Zb4,Zp8 (by simpa using hj)];simpa using hx
   .    simp;omega
  refine hx _ fj st bE e ρ _ w _ h1 hS λa' w' hp=> ?_
  obtain⟨jS,zL,k1,k2,k3⟩:=hp;simp only[B9]at CN;obtain⟨y,VE,hy2⟩:=Iw hT zL.W zL.F hr CN;cases e with
  |exit id=>exact(dP id rfl).elim
  |normal=>exact⟨zL.defers,y,VE,jS,hy2,k1,k2,zL.W,k3⟩
  |ret=>exact⟨zL.defers,y,VE,jS,hy2,k1,k2,zL.W,k3⟩
def idxS:List AV->St->Option (AV×St)
 |[.str a,.int .u8 c],st=>some (.int .i64 (Lib.indexByte (a.map UInt8.ofNat) c.toNat.toUInt8),st)
 |_,_=>none
def ak8:List AV->St->Option (AV×St)
 |[.str a,.int .u8 c],st=>some (.int .i64 (Lib.countByte (a.map UInt8.ofNat) c.toNat.toUInt8),st)
 |_,_=>none
theorem amW{bs:ByteArray}{a:List Nat}(h:bs.data.toList.map UInt8.toNat=a):a.map UInt8.ofNat=bs.data.toList:=by
 rw[<-h,Zh7];have:(UInt8.ofNat∘UInt8.toNat)=id:=by funext c;simp
 rw[this,Zr9]
theorem aeH{f:FuncId}{fn:Func}{s:List AV->St->Option (AV×St)}{X:List UInt8->UInt8->Int}{e:Array Value->Sem Value}(hs:∀args st,s args st=match args with
   |[.str a,.int .u8 c]=>some (.int .i64 (X (a.map UInt8.ofNat) c.toNat.toUInt8),st)
   |_=>none)
  (hr:∀(b:ByteArray)(c:Int)(w:World),(e #[.string b,.int .u8 c]).run P w= .ok (.int .i64 (X b.data.toList c.toNat.toUInt8)) w)
  (hf:P.funcs[f]? =some fn) (qq:(fn.name== "runtime.NumGoroutine")=false) (hb:fn.body.isNone=true) (hx:Extern.findNext fn=none) (he:Extern.find fn=some e):tZ P C f s where
 mono args st v st' h:=by rw[hs]at h;split at h<;>cases h;exact Za3 _
 runs ρ st w args v st' cQ h hW hv:=by
  rw[hs]at h;split at h<;>cases h;rename_i a c;obtain⟨x,xs,rfl,h1,h2⟩:=hv.cons_inv;obtain⟨y,ys,rfl,h3,h4⟩:=h2.cons_inv;have:=h4.qO;subst this;obtain⟨b,rfl,e8⟩:=h1.fC;have:=h3.iI;subst this;have dX:(callFunc f [Value.string b,Value.int .u8 c].toArray).run P w= .ok (.value (.int .i64 (X b.data.toList c.toNat.toUInt8))) w:=by rw[run_callFunc_extern hf qq hb hx he];show((e #[.string b,.int .u8 c]).run P w).andThen _=_;rw[hr];rfl
  rw[dX];refine⟨ρ,?_,λ_ _=>rfl,Za3 _,hW,qI.refl _ _ _⟩;rw[amW e8];exact .int _ _
theorem apk{f:FuncId}{fn:Func}(hf:P.funcs[f]? =some fn)(qq:(fn.name== "runtime.NumGoroutine")=false)(hb:fn.body.isNone=true)(hx:Extern.findNext fn=none)
  (he:Extern.find fn=some Extern.BytealgIndexByte.indexByte):tZ P C f idxS:=
 aeH (X:=Lib.indexByte) (λargs st=>by unfold idxS;split<;>first|rfl|(split<;>first|rfl|simp_all)) (λb c w=>Lib.run_indexByteString b c w) hf qq hb hx he
theorem apl{f:FuncId}{fn:Func}(hf:P.funcs[f]? =some fn)(qq:(fn.name== "runtime.NumGoroutine")=false)(hb:fn.body.isNone=true)(hx:Extern.findNext fn=none)
  (he:Extern.find fn=some Extern.BytealgCount.count):tZ P C f ak8:=
 aeH (X:=λl c=>Lib.countByte l c) (λargs st=>by unfold ak8;split<;>first|rfl|(split<;>first|rfl|simp_all)) (λb c w=>Lib.run_countString b c w) hf qq hb hx he
end
def RW:Code->List Nat
 | .region _ ops _=>ops.toList.filterMap (·.dst)
 | .seq a b=>RW a++RW b
 | .cond _ a b=>RW a++RW b
 | .block _ a=>RW a
 | .loop a=>RW a
 |_=>[]
def arn (tt :TT)(nt:Nat)(ds:List Nat)(b0 b0' t19:Nat)(o2 o0 o1 o4:Oper)(l2f TU:List bW)(body:AC):Option (RG×Nat):=
 match o2.op,o0.op,o1.op,o4.op with
 |  .range ty x,.next (.tmp a0) false,.extract (.tmp a1) 0,.entry (.tmp a4)=>match o2.dst,o0.dst,o1.dst,o4.dst with
    |some t17,some t18,some c,some t20=>match o2.guard,o0.guard,o1.guard,o4.guard with
     |  none,none,none,none=>match uF x with
        |some xo=>match Nat.beq a0 t17&&Nat.beq a1 t18&&Nat.beq a4 t17&&Nat.beq c t19&&Nat.beq b0 b0'&&Nat.blt t17 nt&&Nat.blt t18 nt&&Nat.blt t19 nt&&Nat.blt t20 nt&&
            !Nat.beq t17 t18&& !Nat.beq t17 t19&& !Nat.beq t18 t19 with
         |true=>some (⟨t17,t18,t19,t20,l2f.dropLast,xo,TU.tail,body,key t18::key t19::ds.map key⟩,ty)
         |false=>none
        |_=>none
     |_,_,_,_=>none
    |_,_,_,_=>none
 |_,_,_,_=>none
def ag3 (tt:TT)(nt:Nat):Code->Option (RG×Nat)
 |  .seq (.region _ C8 false) (.block b0 (.loop (.seq (.region _ ⟨[o0,o1]⟩ false) (.seq (.cond (.tmp t19) .skip (.exit b0')) (.block _ (.seq (.region _ ua false) rest))))))=>
    match C8[C8.size - 1]?,ua[0]? with
    |some o2,some o4=>match uG tt nt C8 C8.toList [],uG tt nt ua ua.toList []with
     |  some l2f,some TU=>match vH tt nt rest with
        |some body=>arn tt nt (ua.toList.filterMap (·.dst)++RW rest) b0 b0' t19 o2 o0 o1 o4 l2f TU body
        |none=>none
     |_,_=>none
    |_,_=>none
 |_=>none
section
variable{P : Program}{tt : TT}{C : Cells}{bZ : th XR}{call : aj}{nt m : Nat}
theorem pU.ag3(hT:dH P tt)(hc:CK none bZ call)(dc:iX P C call)(mh:yx P tt C call){c:Code}{g:RG}{ty:Nat}(h:ag3 tt nt c=some (g,ty))
  {kt et:TypeId} (apj:P.underlying ty=some (.map kt et)):pU P C nt c (ak5 bZ m g):=by
 unfold Go.Ai.ag3 at h;split at h<;>first|(cases h;done)|skip
 rename_i i2 C8 b0 i3 o0 o1 t19 b0' b1 i4 ua rest;split at h<;>first|(cases h;done)|skip
 rename_i o2 o4 VL ho4;split at h<;>first|(cases h;done)|skip
 rename_i l2f TU vr hl4;split at h<;>first|(cases h;done)|skip
 rename_i body ak9;unfold arn at h;split at h<;>first|(cases h;done)|skip
 rename_i ty' x a0 a1 a4 p2 p0 p1 p4;split at h<;>first|(cases h;done)|skip
 rename_i t17 t18 c t20 d2 d0 d1 d4;split at h<;>first|(cases h;done)|skip
 rename_i g2 g0 g1 g4;split at h<;>first|(cases h;done)|skip
 rename_i xo hxo;split at h<;>first|(cases h;done)|skip
 rename_i hb;simp only[H5,Zd0]at h;obtain⟨rfl,rfl⟩:=h;simp only[Zb5,Zk2,Nat.beq_eq,Zr1]at hb;obtain⟨⟨⟨⟨⟨⟨⟨⟨⟨⟨⟨rfl,rfl⟩,rfl⟩,rfl⟩,rfl⟩,l17⟩,l18⟩,l19⟩,l20⟩,n1⟩,n2⟩,n3⟩:=hb;have hs:l2f.length=C8.size:=(wW vr).1.trans (Zi3 ..);have h0:0<C8.size:=by have:=(Zd2.1 VL).1;omega
 exact pU.rng hT hc dc mh (i3:=i3) (i4:=i4) (b1:=b1) ⟨⟨p0,g0,d0⟩,⟨p1,g1,d1⟩,⟨ho4,p4,g4,d4⟩,⟨l17,l18,l19,l20⟩,⟨Ze9 n1,Ze9 n2,Ze9 n3⟩,hl4,rfl,ak9⟩ vr rfl
  (by rw[List.length_dropLast,hs];exact VL) (by show C8.size=l2f.dropLast.length+1;rw[List.length_dropLast,hs];omega) p2 g2 d2 hxo apj ⟨by simp,by simp⟩
def V8:Code->Bool
 | .region _ ops _=>ops.toList.any λo=>match o.op with| .range _ _=>true|_=>false
 | .seq a b=>V8 a||V8 b
 | .cond _ a b=>V8 a||V8 b
 | .block _ a=>V8 a
 | .loop a=>V8 a
 |_=>false
def spX (P:Program)(tt:TT)(bZ:th XR)(m nt:Nat):Code->Fr->St->XR
 |  .seq a b=>match Go.Ai.ag3 tt nt (.seq a b)with
    |some (g,ty)=>match P.underlying ty with
     |some (.map _ _)=>ak5 bZ m g
     |_=>λ_ _=>none
    |none=>match V8 a||V8 b with
     |true=>apg (spX P tt bZ m nt a) (spX P tt bZ m nt b)
     |  false=>match vH tt nt (.seq a b)with
        |some ac=>exK bZ m ac
        |none=>λ_ _=>none
 |  c=>match vH tt nt c with
    |some ac=>exK bZ m ac
    |none=>λ_ _=>none
theorem pU.no{c:Code}:pU P C nt c (λ_ _=>none):=λ_ _ _ _ _ _ _ _ _ h=>by cases h
theorem pU.spX(hT:dH P tt)(hc:CK none bZ call)(dc:iX P C call)(mh:yx P tt C call):∀c:Code,pU P C nt c (spX P tt bZ m nt c):=by
 intro c;induction c with
 |seq   a b iha ihb=>
  unfold Go.Ai.spX;split
  . split
    .   rename_i h _ _ _ hu;exact .ag3 hT hc dc mh h hu
    .   exact .no
  . split
    .   exact iha.seq ihb
    .   split
        . exact .ac hT hc dc mh (by assumption)
        . exact .no
 |_=>
  unfold Go.Ai.spX;split
  . exact .ac hT hc dc mh (by assumption)
  . exact .no
def agb(P:Program)(tt:TT)(O:fc)(G:T dV)(m d:Nat)(fn:Func):List AV->St->Option (AV×St):=
 match fn.body,qW tt fn.results.toList,Nat.ble (fn.params.size+fn.nfree) fn.ntmps with
 |some c,some rs,true=>xfn (spX P tt (MZ none O G m d) m fn.ntmps c) (fn.params.size+fn.nfree) rs
 |_,_,_=>λ_ _=>none
theorem apm(hm:P.follows .mixedOrders=true)(hT:dH P tt){O:fc}{G:T dV}(hO:vK P C O)(VU:oK O)(hG:GOk P tt G){f d:Nat}{fn:Func}(hf:P.funcs[f]? =some fn)
   (qq:(fn.name== "runtime.NumGoroutine")=false):tZ P C f (agb P tt O G m d fn):=by
 have dc:=CY (C:=C) hm hT hO VU hG m d;have hcm:=CV (G:=G) VU m d;have key:∀c rs,fn.body=some c->qW tt fn.results.toList=some rs->Nat.ble (fn.params.size+fn.nfree) fn.ntmps=true->tZ P C f (xfn (spX P tt (MZ none O G m d) m fn.ntmps c) (fn.params.size+fn.nfree) rs):=
   λc rs hb hr hle=>atA hT hf qq hb (.spX hT (FM none O G m d) dc (RD hm hT dc hcm) c) hr (Zb3 hle)
 unfold agb;split
 . exact key _ _ (by assumption) (by assumption) (by assumption)
 . exact⟨λ_ _ _ _ h=>(by cases h),λ_ _ _ _ _ _ _ h=>(by cases h)⟩
end
end
noncomputable section
open Go
inductive Sh where
 |leaf
 |seq (jn:Option (List Pos)) (a b:Sh)
 |cond (a b:Sh)
 |block (a:Sh)
 |loop (j:Nat) (ins:List Pos) (outs:List (Nat×List Pos)) (a:Sh)
variable{R : Type}
abbrev LpK(R:Type):=Nat->List AV->St->Option R
abbrev Env(R:Type):=Nat->LpK R->Nat->List AV->St->Option R
def gW(l:List AV)(k:AV->List AV->Option R):Option R:=match l with
 |v::vs=>k v vs
 |[]=>none
def mo(l:List AV)(k:Option R):Option R:=match l with
 |[]=>k
 |_::_=>none
def aq(c:aj)(k:aH)(xs:List AV)(st:St)(K:AV->St->Option R):Option R:=match cL c k xs st with
 |some (v,st')=>K v st'
 |none=>none
def pV(c:aj)(g:AV)(want:Bool)(k:aH)(xs:List AV)(st:St)(K:AV->St->Option R):Option R:=match g with
 |  .bool b=>match b==want with
    |true=>aq c k xs st K
    |false=>K .undef st
 | .tuple _=>K .undef st
 |_=>none
def fu(k:aH)(xs:List AV)(K:AV->Option R):Option R:=match k.run (λ_=>none) .h xs with
 |some (.val v)=>K v
 |_=>none
def ZV(g:AV)(want:Bool)(k:aH)(xs:List AV)(K:AV->Option R):Option R:=match g with
 |  .bool b=>match b==want with
    |true=>fu k xs K
    |false=>K .undef
 | .tuple _=>K .undef
 |_=>none
def jt(k:aH)(xs:List AV)(h:T AB)(ok:AV->Bool)(K:AV->Option R):Option R:=match k.run (λ_=>none) .h xs with
 |some (.val v)=>K v
 |  _=>match k.run (λb=>h.get b) .h xs with
    |some (.val v)=>match ok v with
     |true=>K v
     |false=>none
    |_=>none
def ZW(g:AV)(want:Bool)(k:aH)(xs:List AV)(h:T AB)(ok:AV->Bool)(K:AV->Option R):Option R:=match g with
 |  .bool b=>match b==want with
    |true=>jt k xs h ok K
    |false=>K .undef
 | .tuple _=>K .undef
 |_=>none
def TV(k:aH)(xs:List AV)(st:St)(K:AV->AB->Option R):Option R:=match k.run (λ_=>none) st.next xs with
 |some (.bh v none none (some aN))=>K v aN
 |_=>none
def ZX(g:AV)(want:Bool)(A B:Option R):Option R:=match g with
 |  .bool b=>match b==want with
    |true=>A
    |false=>B
 | .tuple _=>B
 |_=>none
def cnd(v:AV)(A B:Option R):Option R:=match v with
 | .bool true=>A
 | .bool false=>B
 |_=>none
def cH(f:(List AV->St->Option R)->Option R)(k:List AV->St->Option R):Option R:=f k
def aaP (c:aj):List bW->Fr->St->(Fr->St->Option R)->Option R
 |[],fr,st,K=>K fr st
 |  o::os,fr,st,K=>match fT fr o.xs with
    |some xs=>match o.guard with
     |none=>aq c o.k xs st λv st=>aaP c os (eJ fr o.dst v) st K
     |  some (p,want)=>match fr.get p with
        |some g=>pV c g want o.k xs st λv st=>aaP c os (eJ fr o.dst v) st K
        |none=>none
    |none=>none
def rP (c:aj ):List (Nat×bW)->List Rec->T AB->Fr->St->(Fr->St->Option R)->Option R
 |[],_,_,fr,st,K=>K fr st
 |  (j, o):: os,recs,base,fr,st,K=>match fT fr o.xs with
    | some xs=>match o.cls with
      | .pure=>match o.guard with
        |none=>fu o.k xs λv=>rP c os ({ idx:=j,o:=o,v:=v,c:= .pure,nx:=st.next }::recs) base (eJ fr o.dst v) st K
        |some (p,want)=>match fr.get p with
         |some g=>ZV g want o.k xs λv=>rP c os ({ idx:=j,o:=o,v:=v,c:= .pure,nx:=st.next }::recs) base (eJ fr o.dst v) st K
         |none=>none
      | .read=>match o.guard with
        |none=>jt o.k xs (snap o.cg base recs) (λv=>oh o.cg o.k xs v [] recs) λv=>rP c os ({ idx:=j,o:=o,v:=v,c:= .pure,nx:=st.next }::recs) base (eJ fr o.dst v) st K
        |some (p,want)=>match fr.get p with
         |some g=>ZW g want o.k xs (snap o.cg base recs) (λv=>oh o.cg o.k xs v [] recs) λv=>rP c os ({ idx:=j,o:=o,v:=v,c:= .pure,nx:=st.next }::recs) base (eJ fr o.dst v) st K
         |none=>none
      | .new=>match o.guard with
        |none=>TV o.k xs st λv aN=>rP c os ({ idx:=j,o:=o,v:=v,c:= .new st.next aN,nx:=st.next.succ }::recs) base (eJ fr o.dst v) { heap:=st.heap.put (some aN) st.next,next:=st.next.succ } K
        |some (p,want)=>match fr.get p with
         |some g=>ZX g want (TV o.k xs st λv aN=>rP c os ({ idx:=j,o:=o,v:=v,c:= .new st.next aN,nx:=st.next.succ }::recs) base (eJ fr o.dst v) { heap:=st.heap.put (some aN) st.next,next:=st.next.succ } K)
             (rP c os ({ idx:=j,o:=o,v:= .undef,c:= .pure,nx:=st.next }::recs) base (eJ fr o.dst .undef) st K)
         |none=>none
      | .bh=>match o.guard with
        |none=>aq c o.k xs st λv st'=>rP c os ({ idx:=j,o:=o,v:=v,c:= .bh base st'.heap,nx:=st'.next }::recs) st'.heap (eJ fr o.dst v) st' K
        |some (p,want)=>match fr.get p with
         |some g=>ZX g want (aq c o.k xs st λv st'=>rP c os ({ idx:=j,o:=o,v:=v,c:= .bh base st'.heap,nx:=st'.next }::recs) st'.heap (eJ fr o.dst v) st' K)
             (rP c os ({ idx:=j,o:=o,v:= .undef,c:= .pure,nx:=st.next }::recs) base (eJ fr o.dst .undef) st K)
         |none=>none
    |none=>none
def V9:List Pos->Fr->(List AV->Option R)->Option R
 |[],_,k=>k []
 |  p::ps,fr,k=>match fr.get p with
    |some v=>V9 ps fr λvs=>k (v::vs)
    |none=>none
def Wc:List Pos->List AV->Fr->(Fr->Option R)->Option R
 |[],vs,fr,k=>mo vs (k fr)
 |p::ps,vs,fr,k=>gW vs λv vs=>Wc ps vs (fr.put (some v) p) k
def Yy:List (Nat×List Pos)->Nat->List Pos
 |[],_=>[]
 |  (i,l)::r,e=>match Nat.beq i e with
    |true=>l
    |false=>Yy r e
def exOf:Nat->oJ
 |0=> .normal
 |1=> .ret
 |n+2=> .exit n
def Px(D:Fr->St->(oJ->Fr->St->Option R)->Option R)(ins:List Pos)(outs:List (Nat×List Pos))(K':LpK R)(again:List AV->St->Option R)(vs:List AV)(st:St):Option R:=
 Wc ins vs .e λfr=>D fr st λex fr st=>match ex with
    | .normal=>V9 ins fr λvs=>again vs st
    | .exit i=>V9 (Yy outs (i+2)) fr λos=>K' (i+2) os st
    | .ret=>V9 (Yy outs 1) fr λos=>K' 1 os st
def knk(outs:List (Nat×List Pos))(K:oJ->Fr->St->Option R):LpK R:=λe os st=>Wc (Yy outs e) os .e λfr=>K (exOf e) fr st
def den (c:aj)(F:Nat)(L:Env R):AC->Sh->Fr->St->(oJ->Fr->St->Option R)->Option R
 | .skip,_,fr,st,K=>K .normal fr st
 | .region ops,_,fr,st,K=>aaP c ops fr st (K .normal)
 | .draw ops,_,fr,st,K=>rP c ops [] st.heap fr st (K .normal)
 |  .seq a b,s,fr,st,K=>match s with
    | .seq none s t=>den c F L a s fr st λex fr st=>match ex with
      | .normal=>den c F L b t fr st K
      | .exit i=>K (.exit i) fr st
      | .ret=>K .ret fr st
    | .seq (some l) s t=>cH (λK'=>den c F L a s fr st λex fr st=>match ex with
      | .normal=>V9 l fr λvs=>K' vs st
      | .exit i=>K (.exit i) fr st
      | .ret=>K .ret fr st) (λvs st=>Wc l vs .e λfr=>den c F L b t fr st K)
    |_=>none
 |  .cond x a b,s,fr,st,K=>match s with
    | .cond s t=>match Gy fr x with
      |some v=>cnd v (den c F L a s fr st K) (den c F L b t fr st K)
      |none=>none
    |_=>none
 |  .block id a,s,fr,st,K=>match s with
    | .block s=>den c F L a s fr st λex fr st=>match ex with
      | .normal=>K .normal fr st
      | .exit i=>match Nat.beq i id with
        |true=>K .normal fr st
        |false=>K (.exit i) fr st
      | .ret=>K .ret fr st
    |_=>none
 |  .loop _,s,fr,st,K=>match s with
    | .loop j ins outs _=>V9 ins fr λvs=>L j (knk outs K) F vs st
    |_=>none
 | .exit id,_,fr,st,K=>K (.exit id) fr st
 | .ret,_,fr,st,K=>K .ret fr st
def Da(c:aj)(F:Nat)(L:Env R)(a:AC):Sh->Prop
 | .loop j ins outs s=>∀K',(∀vs st,L j K' 0 vs st=none)/\∀n vs st,L j K' (n+1) vs st=Px (den c F L a s) ins outs K' (L j K' n) vs st
 |_=>False
def zY(c:aj)(F:Nat)(L:Env R):AC->Sh->Prop
 |  .seq a b,s=>match s with
    | .seq _ s t=>zY c F L a s/\zY c F L b t
    |_=>True
 |  .cond _ a b,s=>match s with
    | .cond s t=>zY c F L a s/\zY c F L b t
    |_=>True
 |  .block _ a,s=>match s with
    | .block s=>zY c F L a s
    |_=>True
 |  .loop a,s=>match s with
    | .loop j ins outs s=>Da c F L a (.loop j ins outs s)/\zY c F L a s
    |_=>True
 |_,_=>True
def fS:AC->Sh->List (AC×Sh)
 |  .seq a b,s=>match s with
    | .seq _ s t=>fS a s++fS b t
    |_=>[]
 |  .cond _ a b,s=>match s with
    | .cond s t=>fS a s++fS b t
    |_=>[]
 |  .block _ a,s=>match s with
    | .block s=>fS a s
    |_=>[]
 |  .loop a,s=>match s with
    | .loop j ins outs s=>(a,.loop j ins outs s)::fS a s
    |_=>[]
 |_,_=>[]
theorem FO{c:aj}{F:Nat}{L:Env R}:∀(a:AC)(s:Sh),(∀x∈fS a s,Da c F L x.1 x.2)->zY c F L a s
 | .skip,_,_=>trivial
 | .region _,_,_=>trivial
 | .draw _,_,_=>trivial
 | .exit _,_,_=>trivial
 | .ret,_,_=>trivial
 | .seq a b,s,h=>by
   cases s<;>simp only[zY]<;>simp only[fS,Zd8]at h;exact⟨FO a _ λx hx=>h x (.inl hx),FO b _ λx hx=>h x (.inr hx)⟩
 | .cond x a b,s,h=>by
   cases s<;>simp only[zY]<;>simp only[fS,Zd8]at h;exact⟨FO a _ λx hx=>h x (.inl hx),FO b _ λx hx=>h x (.inr hx)⟩
 | .block id a,s,h=>by cases s<;>simp only[zY]<;>simp only[fS]at h;exact FO a _ h
 | .loop a,s,h=>by
   cases s<;>simp only[zY]<;>simp only[fS,Zb0]at h;exact⟨h _ (.inl rfl),FO a _ λx hx=>h x (.inr hx)⟩
def Sub(a b:Fr):Prop:=∀p v,a.get p=some v->b.get p=some v
theorem Sub.refl(a:Fr):Sub a a:=λ_ _ h=>h
theorem Sub.put{a b:Fr}(h:Sub a b)(p:Pos)(v:AV):Sub (a.put (some v) p) (b.put (some v) p):=λq u hq=>by
 by_cases e:p=q
 . subst e;rw[T.gH]at hq ⊢; exact hq
 . rw[T.b9 _ e]at hq ⊢; exact h _ _ hq
theorem Sub.dst{a b:Fr}(h:Sub a b)(d:Option Pos)(v:AV):Sub (eJ a d v) (eJ b d v):=by
 cases d with
 |none=>exact h
 |some p=>exact h.put p v
theorem Sub.ev{a b:Fr}(h:Sub a b){x:gZ}{v:AV}(e:Gy a x=some v):Gy b x=some v:=by
 cases x with
 |t p=>exact h _ _ e
 |c v=>exact e
theorem Sub.evs{a b:Fr}(h:Sub a b):∀{xs:List gZ}{vs:List AV},fT a xs=some vs->fT b xs=some vs
 |[],_,e=>e
 |x::xs,vs,e=>by
  unfold fT at e ⊢;cases hx:Gy a x with
  |none=>simp[hx]at e
  |some v=>
   simp only[hx]at e;cases hs:fT a xs with
   |none=>simp[hs]at e
   |some us=>simp only[hs]at e;simp only[h.ev hx,h.evs hs];exact e
theorem RX {c:aj}:∀(os:List bW){fr fU:Fr}{st:St}{K:Fr->St->Option R}{r:R},Sub fr fU->aaP c os fr st K=some r->
  ∃bI eE st',mE c os fU st=some (eE,st')/\Sub bI eE/\K bI st'=some r
 |[],fr,fU,st,K,r,hs,h=>⟨fr,fU,st,rfl,hs,h⟩
 |o::os,fr,fU,st,K,r,hs,h=>by
  unfold aaP at h;cases hx:fT fr o.xs with
  |none=>simp[hx]at h
  |some xs=>
   simp only[hx]at h;have hstp:∀{st},aq c o.k xs st (λv st=>aaP c os (eJ fr o.dst v) st K)=some r->cN fU o.guard=some true->∃bI eE st',mE c (o::os) fU st=some (eE,st')/\Sub bI eE/\K bI st'=some r:=λ{st} h hw=>by
        unfold aq at h;cases gI:cL c o.k xs st with
        |none=>simp[gI]at h
        |some p=>
         simp only[gI]at h;obtain⟨bI,eE,st',h1,h2⟩:=RX os (hs.dst o.dst p.1) h;exact⟨bI,eE,st',by unfold mE;simp only[hw,hs.evs hx,gI];exact h1,h2⟩
   have Wd:∀{st},aaP c os (eJ fr o.dst .undef) st K=some r->cN fU o.guard=some false->∃bI eE st',mE c (o::os) fU st=some (eE,st')/\Sub bI eE/\K bI st'=some r:=λ{st} h hw=>by
        obtain⟨bI,eE,st',h1,h2⟩:=RX os (hs.dst o.dst .undef) h;exact⟨bI,eE,st',by unfold mE;simp only[hw];exact h1,h2⟩
   cases hg:o.guard with
   |none=>simp only[hg]at h;exact hstp h (by rw[hg];rfl)
   |    some pw=>
        obtain⟨p,want⟩:=pw;simp only[hg]at h;cases hp:fr.get p with
        |none=>simp[hp]at h
        |some g=>
         simp only[hp]at h;have Cb:=hs _ _ hp;unfold pV at h;split at h
         .  rename_i b;split at h
            . rename_i hb;exact hstp h (by rw[hg];simp[cN,Cb,hb])
            . rename_i hb;exact Wd h (by rw[hg];simp[cN,Cb,hb])
         .  exact Wd h (by rw[hg];simp[cN,Cb])
         .  cases h
theorem ZY {c : aj}:∀(os:List (Nat×bW))(recs:List Rec)(base:T AB){fr fU:Fr}{st:St}{K:Fr->St->Option R}{r:R},Sub fr fU->rP c os recs base fr st K=some r->
  ∃bI eE st',eG c os recs base fU st=some (eE,st')/\Sub bI eE/\K bI st'=some r
 |[],_,_,fr,fU,st,K,r,hs,h=>⟨fr,fU,st,rfl,hs,h⟩
 |(j,   o)::  os, recs,base,fr,fU,st,K,r,hs,h=>by
  have ih:=λrecs base {fr fU:Fr}{st:St}{K:Fr->St->Option R}{r:R}=>ZY (c:=c) os recs base (fr:=fr) (fU:=fU) (st:=st) (K:=K) (r:=r)
  unfold rP at h;cases hx:fT fr o.xs with
  |none=>simp[hx]at h
  | some xs   =>
    simp only[hx]at h;have hxx:=hs.evs hx;have Wd:∀{st},rP c os ({ idx:=j,o:=o,v:= .undef,c:= .pure,nx:=st.next }::recs) base (eJ fr o.dst .undef) st K=some r->cN fU o.guard=some false->∃bI eE st',eG c ((j,o)::os) recs base fU st=some (eE,st')/\Sub bI eE/\K bI st'=some r:=λ{st} h hw=>by
        obtain⟨bI,eE,st',h1,h2⟩:=ih _ _ (hs.dst o.dst .undef) h;exact⟨bI,eE,st',by unfold eG;simp only[hw];exact h1,h2⟩
    cases hc:o.cls with
    |   pure=>
        simp only[hc]at h;have We:fu o.k xs (λv=>rP c os ({ idx:=j,o:=o,v:=v,c:= .pure,nx:=st.next }::recs) base (eJ fr o.dst v) st K)=some r->cN fU o.guard=some true->∃bI eE st',eG c ((j,o)::os) recs base fU st=some (eE,st')/\Sub bI eE/\K bI st'=some r:=λh hw=>by
         unfold fu at h;split at h
         .  rename_i v hv;obtain⟨bI,eE,st',h1,h2⟩:=ih _ _ (hs.dst o.dst v) h;exact⟨bI,eE,st',by unfold eG;simp only[hw,hxx,hc,hv];exact h1,h2⟩
         .  cases h
        cases hg:o.guard with
        |none=>simp only[hg]at h;exact We h (by rw[hg];rfl)
        |some pw=>
         obtain⟨p,want⟩:=pw;simp only[hg]at h;cases hp:fr.get p with
         |none=>simp[hp]at h
         |  some g=>
            simp only[hp]at h;have Cb:=hs _ _ hp;unfold ZV at h;split at h
            . split at h
              . rename_i hb;exact We h (by rw[hg];simp[cN,Cb,hb])
              . rename_i hb;exact Wd h (by rw[hg];simp[cN,Cb,hb])
            . exact Wd h (by rw[hg];simp[cN,Cb])
            . cases h
    |   read=>
        simp only[hc]at h;have We : jt o.k xs (snap o.cg base recs) (λv=>oh o.cg o.k xs v [] recs) (λv=>rP c os ({ idx:=j,o:=o,v:=v,c:= .pure,nx:=st.next }::recs) base (eJ fr o.dst v) st K)=some r->cN fU o.guard=some true->∃bI eE st',eG c ((j,o)::os) recs base fU st=some (eE,st')/\Sub bI eE/\K bI st'=some r:=λh hw=>by
         unfold jt at h;split at h
         .  rename_i v hv;obtain⟨bI,eE,st',h1,h2⟩:=ih _ _ (hs.dst o.dst v) h;exact⟨bI,eE,st',by unfold eG;simp only[hw,hxx,hc,hv];exact h1,h2⟩
         .  rename_i nQ;split at h
            . rename_i v hv;split at h
              . rename_i cJ;obtain⟨bI,eE,st',h1,h2⟩:=ih _ _ (hs.dst o.dst v) h;refine⟨bI,eE,st',?_,h2⟩;unfold eG;simp only[hw,hxx,hc];cases hr:o.k.run (λ_=>none) .h xs with
                |none=>simp only[hv,cJ];exact h1
                | some x=>cases x with
                  |val u=>exact absurd hr (nQ u)
                  |bh v d e n=>simp only[hv,cJ];exact h1
                  |call f xs=>simp only[hv,cJ];exact h1
              . cases h
            . cases h
        cases hg:o.guard with
        |none=>simp only[hg]at h;exact We h (by rw[hg];rfl)
        |some pw=>
         obtain⟨p,want⟩:=pw;simp only[hg]at h;cases hp:fr.get p with
         |none=>simp[hp]at h
         |  some g=>
            simp only[hp]at h;have Cb:=hs _ _ hp;unfold ZW at h;split at h
            . split at h
              . rename_i hb;exact We h (by rw[hg];simp[cN,Cb,hb])
              . rename_i hb;exact Wd h (by rw[hg];simp[cN,Cb,hb])
            . exact Wd h (by rw[hg];simp[cN,Cb])
            . cases h
    |   new =>
        simp only[hc]at h;have We:TV o.k xs st (λv aN=>rP c os ({ idx:=j,o:=o,v:=v,c:= .new st.next aN,nx:=st.next.succ }::recs) base (eJ fr o.dst v) { heap:=st.heap.put (some aN) st.next,next:=st.next.succ } K)=some r->cN fU o.guard=some true->∃bI eE st',eG c ((j,o)::os) recs base fU st=some (eE,st')/\Sub bI eE/\K bI st'=some r:=λh hw=>by
         unfold TV at h;split at h
         .  rename_i v aN hv;obtain⟨bI,eE,st',h1,h2⟩:=ih _ _ (hs.dst o.dst v) h;exact⟨bI,eE,st',by unfold eG;simp only[hw,hxx,hc,hv];exact h1,h2⟩
         .  cases h
        cases hg:o.guard with
        |none=>simp only[hg]at h;exact We h (by rw[hg];rfl)
        |some pw=>
         obtain⟨p,want⟩:=pw;simp only[hg]at h;cases hp:fr.get p with
         |none=>simp[hp]at h
         |  some g=>
            simp only[hp]at h;have Cb:=hs _ _ hp;unfold ZX at h;split at h
            . split at h
              . rename_i hb;exact We h (by rw[hg];simp[cN,Cb,hb])
              . rename_i hb;exact Wd h (by rw[hg];simp[cN,Cb,hb])
            . exact Wd h (by rw[hg];simp[cN,Cb])
            . cases h
    |   bh=>
        simp only[hc]at h;have We:aq c o.k xs st (λv st'=>rP c os ({ idx:=j,o:=o,v:=v,c:= .bh base st'.heap,nx:=st'.next }::recs) st'.heap (eJ fr o.dst v) st' K)=some r->cN fU o.guard=some true->∃bI eE st',eG c ((j,o)::os) recs base fU st=some (eE,st')/\Sub bI eE/\K bI st'=some r:=λh hw=>by
         unfold aq at h;cases gI:cL c o.k xs st with
         |none=>simp[gI]at h
         |  some p=>
            simp only[gI]at h;obtain⟨bI,eE,st',h1,h2⟩:=ih _ _ (hs.dst o.dst p.1) h;exact⟨bI,eE,st',by unfold eG;simp only[hw,hxx,hc,gI];exact h1,h2⟩
        cases hg:o.guard with
        |none=>simp only[hg]at h;exact We h (by rw[hg];rfl)
        |some pw=>
         obtain⟨p,want⟩:=pw;simp only[hg]at h;cases hp:fr.get p with
         |none=>simp[hp]at h
         |  some g=>
            simp only[hp]at h;have Cb:=hs _ _ hp;unfold ZX at h;split at h
            . split at h
              . rename_i hb;exact We h (by rw[hg];simp[cN,Cb,hb])
              . rename_i hb;exact Wd h (by rw[hg];simp[cN,Cb,hb])
            . exact Wd h (by rw[hg];simp[cN,Cb])
            . cases h
def Has:List Pos->List AV->Fr->Prop
 |[],[],_=>True
 |p::ps,v::vs,fr=>fr.get p=some v/\Has ps vs fr
 |_,_,_=>False
theorem Has.sub{a b:Fr}(hs:Sub a b):∀{ps:List Pos}{vs:List AV},Has ps vs a->Has ps vs b
 |[],[],_=>trivial
 |[],_::_,h=>h
 |_::_,[],h=>h
 |_::_,_::_,h=>⟨hs _ _ h.1,Has.sub hs h.2⟩
theorem Cc:∀{ps:List Pos}{fr:Fr}{k:List AV->Option R}{r:R},V9 ps fr k=some r->∃vs,Has ps vs fr/\k vs=some r
 |[],_,_,_,h=>⟨[],trivial,h⟩
 |p::ps,fr,k,r,h=>by
  unfold V9 at h;cases hp:fr.get p with
  |none=>simp[hp]at h
  |some v=>
   simp only[hp]at h;obtain⟨vs,h1,h2⟩:=Cc h;exact⟨v::vs,⟨hp,h1⟩,h2⟩
theorem GO:∀{ps:List Pos}{vs:List AV}{fr fU:Fr}{k:Fr->Option R}{r:R},Wc ps vs fr k=some r->Has ps vs fU->Sub fr fU->∃bI,Sub bI fU/\k bI=some r
 |[],vs,fr,fU,k,r,h,_,hs=>by
  unfold Wc mo at h;split at h
  . exact⟨fr,hs,h⟩
  . cases h
 |p::ps,[],fr,fU,k,r,h,hh,hs=>by simp[Wc,gW]at h
 |p::ps,v::vs,fr,fU,k,r,h,hh,hs=>by
  unfold Wc gW at h;refine GO h hh.2 λq u hq=> ?_
  by_cases e:p=q
  . subst e;rw[T.gH]at hq;cases hq;exact hh.1
  . rw[T.b9 _ e]at hq;exact hs _ _ hq
theorem KT{c:aj}{n m:Nat}(h:n<=m){a:AC}{fr:Fr}{st:St}{r:oJ×Fr×St}(e:exec c n a fr st=some r):exec c m a fr st=some r:=Yx (ZS.refl c) n m h _ _ _ _ e
theorem tC{c:aj}{F:Nat}{L:Env R}:∀(a:AC)(s:Sh),zY c F L a s->∀{fr fU:Fr}{st:St}{K:oJ->Fr->St->Option R}{r:R},Sub fr fU->den c F L a s fr st K=some r->
   ∃n ex bI eE st',exec c n a fU st=some (ex,eE,st')/\Sub bI eE/\K ex bI st'=some r
 | .skip,s,_,fr,fU,st,K,r,hs,h=>⟨1,.normal,fr,fU,st,rfl,hs,by simpa [den]using h⟩
 | .exit id,s,_,fr,fU,st,K,r,hs,h=>⟨1,.exit id,fr,fU,st,rfl,hs,by simpa [den]using h⟩
 | .ret,s,_,fr,fU,st,K,r,hs,h=>⟨1,.ret,fr,fU,st,rfl,hs,by simpa [den]using h⟩
 | .region ops,s,_,fr,fU,st,K,r,hs,h=>by
   simp only[den]at h;obtain⟨bI,eE,st',h1,h2,h3⟩:=RX ops hs h;exact⟨1,.normal,bI,eE,st',by simp only[exec,bD,h1],h2,h3⟩
 | .draw ops,s,_,fr,fU,st,K,r,hs,h=>by
   simp only[den]at h;obtain⟨bI,eE,st',h1,h2,h3⟩:=ZY ops _ _ hs h;exact⟨1,.normal,bI,eE,st',by simp only[exec,bD,h1],h2,h3⟩
 | .seq a b,s,cJ,fr,fU,st,K,r,hs,h=>by
   (cases s<;>simp only[den]at h<;>first|(cases h;done)|skip);rename_i jn s t;simp only[zY]at cJ;cases jn with
   |none=>
    simp only at h;obtain⟨n,ex,fj,xj,bE,h1,h2,h3⟩:=tC a s cJ.1 hs h;cases ex with
    |   normal=>
        obtain⟨m,ex,TP,ag4,AG,k1,k2,k3⟩:=tC b t cJ.2 h2 h3;exact⟨max n m+1,ex,TP,ag4,AG,by simp only[exec,bD,KT (Zj6 n m) h1];exact KT (Zi2 n m) k1,k2,k3⟩
    |exit i=>exact⟨n+1,.exit i,fj,xj,bE,by simp only[exec,bD,h1],h2,h3⟩
    |ret=>exact⟨n+1,.ret,fj,xj,bE,by simp only[exec,bD,h1],h2,h3⟩
   |some l=>
    simp only[cH]at h;obtain⟨n,ex,fj,xj,bE,h1,h2,h3⟩:=tC a s cJ.1 hs h;cases ex with
    |   normal=>
        obtain⟨vs,g1,g2⟩:=Cc h3;obtain⟨bI,g3,g4⟩:=GO g2 (Has.sub h2 g1) (λp v hp=>by rw[T.dW]at hp;cases hp);obtain⟨m,ex,TP,ag4,AG,k1,k2,k3⟩:=tC b t cJ.2 g3 g4;exact⟨max n m+1,ex,TP,ag4,AG,by simp only[exec,bD,KT (Zj6 n m) h1];exact KT (Zi2 n m) k1,k2,k3⟩
    |exit i=>exact⟨n+1,.exit i,fj,xj,bE,by simp only[exec,bD,h1],h2,h3⟩
    |ret=>exact⟨n+1,.ret,fj,xj,bE,by simp only[exec,bD,h1],h2,h3⟩
 | .cond x a b,s,cJ,fr,fU,st,K,r,hs,h=>by
   (cases s<;>simp only[den]at h<;>first|(cases h;done)|skip);simp only[zY]at cJ;cases hx:Gy fr x with
   |none=>simp[hx]at h
   |some v=>
    simp only[hx]at h;unfold cnd at h;split at h
    .   obtain⟨n,ex,fj,xj,bE,h1,h2,h3⟩:=tC a _ cJ.1 hs h;exact⟨n+1,ex,fj,xj,bE,by simp only[exec,bD,hs.ev hx];exact h1,h2,h3⟩
    .   obtain⟨n,ex,fj,xj,bE,h1,h2,h3⟩:=tC b _ cJ.2 hs h;exact⟨n+1,ex,fj,xj,bE,by simp only[exec,bD,hs.ev hx];exact h1,h2,h3⟩
    .   cases h
 | .block id a,s,cJ,fr,fU,st,K,r,hs,h=>by
   (cases s<;>simp only[den]at h<;>first|(cases h;done)|skip);simp only[zY]at cJ;obtain⟨n,ex,fj,xj,bE,h1,h2,h3⟩:=tC a _ cJ hs h;cases ex with
   |normal=>exact⟨n+1,.normal,fj,xj,bE,by simp only[exec,bD,h1],h2,h3⟩
   |ret=>exact⟨n+1,.ret,fj,xj,bE,by simp only[exec,bD,h1],h2,h3⟩
   |exit i=>
    simp only at h3;cases hb:Nat.beq i id with
    |true=>simp only[hb]at h3;exact⟨n+1,.normal,fj,xj,bE,by simp only[exec,bD,h1,hb],h2,h3⟩
    |false=>simp only[hb]at h3;exact⟨n+1,.exit i,fj,xj,bE,by simp only[exec,bD,h1,hb],h2,h3⟩
 | .loop a,s,cJ,fr,fU,st,K,r,hs,h=>by
   (cases s<;>simp only[den]at h<;>first|(cases h;done)|skip);rename_i j ins outs s;simp only[zY,Da]at cJ;obtain⟨auI,cJ⟩:=cJ;obtain⟨vs,g1,g2⟩:=Cc h;obtain⟨hz,hsu⟩:=auI (knk outs K)
   have main:∀(n:Nat)(vs:List AV)(st:St)(fU:Fr),Has ins vs fU->L j (knk outs K) n vs st=some r->
        ∃m ex bI eE st',exec c m (.loop a) fU st=some (ex,eE,st')/\Sub bI eE/\K ex bI st'=some r:=by
    intro n;induction n with
    |zero=>intro vs st fU _ h;rw[hz]at h;cases h
    |   succ n ihn=>
        intro vs st fU hh h;rw[hsu]at h;unfold Px at h;obtain⟨di,q1,q2⟩:=GO h hh (λp v hp=>by rw[T.dW]at hp;cases hp);obtain⟨m,ex,fj,xj,bE,h1,h2,h3⟩:=tC a s cJ q1 q2;cases ex with
        |normal=>
         obtain⟨us,p1,p2⟩:=Cc h3;obtain⟨m',ex,TP,ag4,AG,k1,k2,k3⟩:=ihn us bE xj (Has.sub h2 p1) p2;exact⟨max m m'+1,ex,TP,ag4,AG,by simp only[exec,bD,KT (Zj6 m m') h1];exact KT (Zi2 m m') k1,k2,k3⟩
        |exit i=>
         obtain⟨os,p1,p2⟩:=Cc h3;obtain⟨TP,p3,p4⟩:=GO p2 (Has.sub h2 p1) (λp v hp=>by rw[T.dW]at hp;cases hp);exact⟨m+1,.exit i,TP,xj,bE,by simp only[exec,bD,h1],p3,p4⟩
        |ret=>
         obtain⟨os,p1,p2⟩:=Cc h3;obtain⟨TP,p3,p4⟩:=GO p2 (Has.sub h2 p1) (λp v hp=>by rw[T.dW]at hp;cases hp);exact⟨m+1,.ret,TP,xj,bE,by simp only[exec,bD,h1],p3,p4⟩
   exact main F vs st fU (Has.sub hs g1) g2
def aaQ:(H:Pos->Option AB)->Fr->List OY->(List AV->Option R)->Option R
 |_,_,[],k=>k []
 |  H,fr,.tmp p::rs,k=>match fr.get p with
    |some v=>aaQ H fr rs λvs=>k (v::vs)
    |none=>none
 |  H,fr,.cell p n::rs,k=>match fr.get p with
    |some q=>match (aH.load n).run H .h [q]with
     |some (.val v)=>aaQ H fr rs λvs=>k (v::vs)
     |_=>none
    |none=>none
def ldr(n:Option Nat)(q:AV)(st:St)(K:AV->Option R):Option R:=match (aH.load n).run (λb=>st.heap.get b) .h [q]with
 |some (.val v)=>K v
 |_=>none
theorem Nr{H:Pos->Option AB}{fr fU:Fr}(hs:Sub fr fU):∀{rs:List OY}{k:List AV->Option R}{r:R},aaQ H fr rs k=some r->∃vs,gQ H fU rs=some vs/\k vs=some r
 |[],k,r,h=>⟨[],rfl,h⟩
 | .tmp p::rs,k,r,h=>by
   unfold aaQ at h;cases hp:fr.get p with
   |none=>simp[hp]at h
   |some v=>
    simp only[hp]at h;obtain⟨vs,h1,h2⟩:=Nr hs h;exact⟨v::vs,by unfold gQ;simp only[hs _ _ hp,h1],h2⟩
 | .cell p n::rs,k,r,h=>by
   unfold aaQ at h;cases hp:fr.get p with
   |none=>simp[hp]at h
   |some q=>
    simp only[hp]at h;split at h
    .   rename_i v hv;obtain⟨vs,h1,h2⟩:=Nr hs h;exact⟨v::vs,by unfold gQ;simp only[hs _ _ hp,hv,h1],h2⟩
    .   cases h
def IA(c:aj)(F:Nat)(L:Env (AV×St))(A:dV)(s:Sh)(args:List AV)(st:St):Option (AV×St):=
 match Nat.beq args.length A.nparams with
 |  true=>den c F L A.code s (params 0 args .e) st λex fr st=>match ex with
    | .normal=>aaQ (λb=>st.heap.get b) fr A.results λvs=>some (zq vs,st)
    | .ret=>aaQ (λb=>st.heap.get b) fr A.results λvs=>some (zq vs,st)
    | .exit _=>none
 |false=>none
theorem apn{O:fc}{G:T dV}{F:Nat}{L:Env (AV×St)}{f:FuncId}{A:dV}{s:Sh}{args:List AV}{st:St}{r:AV×St}(ho:O f=none)(hF:G.get (key f)=some A)
  (hL:∀x∈fS A.code s,Da (run O G) F L x.1 x.2) (h:IA (run O G) F L A s args st=some r):run O G f args st=some (tidy st r):=by
 unfold IA at h;split at h<;>first|(cases h;done)|skip
 rename_i hlen;obtain⟨n,ex,bI,eE,st',h1,h2,h3⟩:=tC A.code s (FO _ _ hL) (Sub.refl _) h;refine apf (n:=n) ho hF ?_;unfold xQ;simp only[hlen,h1];cases ex with
 |normal=>
  obtain⟨vs,k1,k2⟩:=Nr h2 h3;simp only[k1];exact k2
 |ret=>
  obtain⟨vs,k1,k2⟩:=Nr h2 h3;simp only[k1];exact k2
 |exit i=>cases h3
def ah(st:St)(b:AB):St:={ heap:=st.heap.put (some b) st.next,next:=st.next.succ }
def agc{R:Type}:List (Nat×(LpK R->Nat->List AV->St->Option R))->Env R
 |[]=>λ_ _ _ _ _=>none
 |  (i,g)::l=>λj K n=>match Nat.beq i j with
    |true=>g K n
    |false=>agc l j K n
def iu(A:dV)(s:Sh)(i:Nat):AC×Sh:=(fS A.code s).getD i (.skip,.leaf)
theorem apo{R:Type}{c:aj}{F:Nat}{L:Env R}{A:dV}{s:Sh}(n:Nat)(hn:Nat.beq (fS A.code s).length n=true)(h:∀i,i<n->Da c F L (iu A s i).1 (iu A s i).2):
  ∀x∈fS A.code s,Da c F L x.1 x.2:=by
 intro x hx;obtain⟨i,hi,he⟩:=Zg2.1 hx;have hn:=Za6 hn;have:=h i (by omega);unfold iu at this;rw[Zb6,H0 hi]at this;simp only[Zf2,he]at this;exact this
def adB:Sh->Bool
 | .loop _ _ _ _=>true
 |_=>false
def lpJ:Sh->Nat
 | .loop j _ _ _=>j
 |_=>0
def lpI:Sh->List Pos
 | .loop _ i _ _=>i
 |_=>[]
def lpO:Sh->List (Nat×List Pos)
 | .loop _ _ o _=>o
 |_=>[]
def lpB:Sh->Sh
 | .loop _ _ _ s=>s
 |_=> .leaf
theorem cS{R:Type}{c:aj}{F:Nat}{L:Env R}{A:dV}{sh:Sh}{i:Nat}(j:Nat)(hs:(adB (iu A sh i).2&&Nat.beq (lpJ (iu A sh i).2) j)=true)(h0:∀K' vs st,L j K' 0 vs st=none)
  (h1:∀K' n vs st,L j K' (n+1) vs st=Px (den c F L (iu A sh i).1 (lpB (iu A sh i).2)) (lpI (iu A sh i).2) (lpO (iu A sh i).2) K' (L j K' n) vs st):Da c F L (iu A sh i).1 (iu A sh i).2:=by
 generalize (iu A sh i).1=a at*
 generalize (iu A sh i).2=t at*
 cases t with
 |loop j' ins outs s=>
  simp only[adB,lpJ,Zg1]at hs;obtain rfl:=Za6 hs;exact λK'=>⟨h0 K',h1 K'⟩
 |_=>simp[adB]at hs
end
end Go.Ai
section
set_option linter.all false
namespace Go.Ai
open Go
theorem dK(k:IntKind):K8 k k=true:=by cases k<;>rfl
theorem mZ(a b:Int):Bi a b=decide (a=b):=by rw[mH];rfl
theorem iP(a b:List Nat):kg a b=decide (a=b):=by rw[Zm8,mI];simp
theorem wrap64{x:Int}(h1: -9223372036854775808<=x)(h2:x<=9223372036854775807):av .i64 x=x:=by
 unfold av loI hiI;simp only;split
 . split
   . rfl
   . contradiction
 . contradiction
theorem Gs{x:Int}(h1:0<=x)(h2:x<=255):av .u8 x=x:=by
 unfold av loI hiI;simp only;split
 . split
   . rfl
   . contradiction
 . contradiction
theorem ju(k:IntKind)(n:Nat):zX (.int k (n:Int))=some n:=id rfl
theorem dz(a b:Nat):Nat.ble a b=decide (a<=b):=by apply Zm8.2;simp
theorem KA(a b:Nat):Nat.blt a b=decide (a<b):=by apply Zm8.2;simp[Nat.blt,Nat.ble_eq];omega
theorem dB(a b:Nat):Nat.beq a b=decide (a=b):=by apply Zm8.2;simp
def yD{R:Type}(o:Option AV)(k:AV->Option R):Option R:=match o with
 |some v=>k v
 |none=>none
def IB{R:Type}(o:Option (List AV))(k:List AV->Option R):Option R:=match o with
 |some v=>k v
 |none=>none
def aaR{R:Type}(o:Option (AV×St))(k:AV->St->Option R):Option R:=match o with
 |some (v,st)=>k v st
 |none=>none
section
variable{R : Type}(c : aj)(K : AV -> St -> Option R)(K1 : AV -> Option R)(A B : Option R)
@[simp] theorem aQ(v:AV)(k:AV->Option R):yD (some v) k=k v:=id rfl
@[simp] theorem cO(v:List AV)(k:List AV->Option R):IB (some v) k=k v:=id rfl
@[simp] theorem bH(v:AV)(st:St)(k:AV->St->Option R):aaR (some (v,st)) k=k v st:=id rfl
@[simp] theorem dh:cnd (.bool true) A B=A:=id rfl
@[simp] theorem dD:cnd (.bool false) A B=B:=id rfl
@[simp] theorem aG(v:AV)(vs:List AV)(k:AV->List AV->Option R):gW (v::vs) k=k v vs:=id rfl
@[simp] theorem bg(k:Option R):mo [] k=k:=id rfl
theorem jU(f:(List AV->St->Option R)->Option R)(k:List AV->St->Option R):cH f k=f k:=id rfl
@[simp] theorem fL(b:Bool)(k:aH)(xs:List AV)(st:St):pV c (.bool b) b k xs st K=aq c k xs st K:=by cases b<;>exact id rfl
@[simp] theorem ag5(k:aH)(xs:List AV)(st:St):pV c (.bool true) false k xs st K=K .undef st:=id rfl
@[simp] theorem ab8(k:aH)(xs:List AV)(st:St):pV c (.bool false) true k xs st K=K .undef st:=id rfl
@[simp] theorem gst_un(b:Bool)(k:aH)(xs:List AV)(st:St):pV c .undef b k xs st K=K .undef st:=id rfl
@[simp] theorem adC(b:Bool)(k:aH)(xs:List AV):ZV (.bool b) b k xs K1=fu k xs K1:=by cases b<;>exact id rfl
@[simp] theorem gpr_tf(k:aH)(xs:List AV):ZV (.bool true) false k xs K1=K1 .undef:=id rfl
@[simp] theorem gpr_ft(k:aH)(xs:List AV):ZV (.bool false) true k xs K1=K1 .undef:=id rfl
@[simp] theorem gpr_un(b:Bool)(k:aH)(xs:List AV):ZV .undef b k xs K1=K1 .undef:=id rfl
@[simp] theorem ajP(b:Bool)(k:aH)(xs:List AV)(h:T AB)(ok:AV->Bool):ZW (.bool b) b k xs h ok K1=jt k xs h ok K1:=by cases b<;>exact id rfl
@[simp] theorem grd_tf(k:aH)(xs:List AV)(h:T AB)(ok:AV->Bool):ZW (.bool true) false k xs h ok K1=K1 .undef:=id rfl
@[simp] theorem grd_ft(k:aH)(xs:List AV)(h:T AB)(ok:AV->Bool):ZW (.bool false) true k xs h ok K1=K1 .undef:=id rfl
@[simp] theorem grd_un(b:Bool)(k:aH)(xs:List AV)(h:T AB)(ok:AV->Bool):ZW .undef b k xs h ok K1=K1 .undef:=id rfl
@[simp] theorem avu(b:Bool):ZX (.bool b) b A B=A:=by cases b<;>exact id rfl
@[simp] theorem wnt_tf:ZX (.bool true) false A B=B:=id rfl
@[simp] theorem wnt_ft:ZX (.bool false) true A B=B:=id rfl
@[simp] theorem wnt_un(b:Bool):ZX .undef b A B=B:=id rfl
theorem Lt{k:aH}{xs:List AV}{o:Option AV}(h:∀H n,k.run H n xs=o.map .val)(st:St):aq c k xs st K=yD o λv=>K v st:=by unfold aq cL;rw[h];cases o<;>rfl
theorem Wg{k:aH}{xs:List AV}{o:Option AV}(h:∀H n,k.run H n xs=o.map .val):fu k xs K1=yD o K1:=by unfold fu;rw[h];cases o<;>rfl
theorem aU{k:aH}{xs:List AV}{v:AV}(h:∀H n,k.run H n xs=some (.val v))(st:St):aq c k xs st K=K v st:=by
 unfold aq cL;rw[h]
theorem dm{k:aH}{xs:List AV}{v:AV}(h:∀H n,k.run H n xs=some (.val v)):fu k xs K1=K1 v:=by
 unfold fu;rw[h]
theorem bR(f:FuncId)(l:List AV)(st:St):aq c (.callF f) l st K=aaR (c f l st) K:=by unfold aq cL;show(match c f l st with|some (v,st')=>K v st'|none=>none)=_;cases c f l st<;>rfl
theorem iQ(f:FuncId)(l u v:List AV)(st:St):aq c .callV (.func f u v::l) st K=aaR (c f (u++(l++v)) st) K:=by unfold aq cL;show(match c f (u++(l++v)) st with|some (v,st')=>K v st'|none=>none)=_;cases c f (u++(l++v)) st<;>rfl
attribute [simp] bR iQ
end
def cellsOf:Option AB->Option (List AV)
 |some (.cells cs _)=>some cs
 |_=>none
@[simp] theorem aB(cs:List AV)(f:Nat):cellsOf (some (.cells cs f))=some cs:=id rfl
def ro(es:Nat)(z:Bool)(rs:List (List AV)):AV:=match z,rs with
 |true,[]=> .af
 |_,rs=> .fl rs es
theorem adD{es:Nat}{z:Bool}{rs:List (List AV)}(h:rs≠[]):ro es z rs= .fl rs es:=by
 unfold ro;split
 . exact absurd rfl h
 . rfl
theorem run_move(H:Pos->Option AB)(n:Pos)(x:AV):aH.run H n .move [x]=some (.val x):=rfl
@[simp] theorem ay{R:Type}(c:aj)(K:AV->St->Option R)(st:St)(x:AV):aq c .move [x] st K=K x st:=aU c K (λH n=>run_move H n x) st
@[simp] theorem dI{R:Type}(K:AV->Option R)(x:AV):fu .move [x] K=K x:=dm K (λH n=>run_move H n x)
theorem ab9(H:Pos->Option AB)(n:Pos)(x y:AV):aH.run H n .pick [.bool true,x,y]=some (.val x):=rfl
@[simp] theorem kH{R:Type}(c:aj)(K:AV->St->Option R)(st:St)(x y:AV):aq c .pick [.bool true,x,y] st K=K x st:=aU c K (λH n=>ab9 H n x y) st
@[simp] theorem RY{R:Type}(K:AV->Option R)(x y:AV):fu .pick [.bool true,x,y] K=K x:=dm K (λH n=>ab9 H n x y)
theorem acd(H:Pos->Option AB)(n:Pos)(x y:AV):aH.run H n .pick [.bool false,x,y]=some (.val y):=rfl
@[simp] theorem iw{R:Type}(c:aj)(K:AV->St->Option R)(st:St)(x y:AV):aq c .pick [.bool false,x,y] st K=K y st:=aU c K (λH n=>acd H n x y) st
@[simp] theorem auJ{R:Type}(K:AV->Option R)(x y:AV):fu .pick [.bool false,x,y] K=K y:=dm K (λH n=>acd H n x y)
theorem ajQ(H:Pos->Option AB)(n:Pos)(p:Bool):aH.run H n (.un .not) [.bool p]=some (.val (.bool (!p))):=rfl
@[simp] theorem Cd{R:Type}(c:aj)(K:AV->St->Option R)(st:St)(p:Bool):aq c (.un .not) [.bool p] st K=K (.bool (!p)) st:=aU c K (λH n=>ajQ H n p) st
@[simp] theorem avv{R:Type}(K:AV->Option R)(p:Bool):fu (.un .not) [.bool p] K=K (.bool (!p)):=dm K (λH n=>ajQ H n p)
theorem ajR(H:Pos->Option AB)(n:Pos)(q:gP)(k:IntKind)(a b:Int):aH.run H n (.bin .lss q) [.int k a,.int k b]=some (.val (.bool (decide (a<b)))):=by simp[aH.run,jr,pL,dK,mZ,fo,kW,iP]
@[simp] theorem cU{R:Type}(c:aj)(K:AV->St->Option R)(st:St)(q:gP)(k:IntKind)(a b:Int):aq c (.bin .lss q) [.int k a,.int k b] st K=K (.bool (decide (a<b))) st:=aU c K (λH n=>ajR H n q k a b) st
@[simp] theorem ajS{R:Type}(K:AV->Option R)(q:gP)(k:IntKind)(a b:Int):fu (.bin .lss q) [.int k a,.int k b] K=K (.bool (decide (a<b))):=dm K (λH n=>ajR H n q k a b)
theorem ajT(H:Pos->Option AB)(n:Pos)(q:gP)(k:IntKind)(a b:Int):aH.run H n (.bin .leq q) [.int k a,.int k b]=some (.val (.bool (decide (a<=b)))):=by simp[aH.run,jr,pL,dK,mZ,fo,kW,iP]
@[simp] theorem avw{R:Type}(c:aj)(K:AV->St->Option R)(st:St)(q:gP)(k:IntKind)(a b:Int):aq c (.bin .leq q) [.int k a,.int k b] st K=K (.bool (decide (a<=b))) st:=aU c K (λH n=>ajT H n q k a b) st
@[simp] theorem avx{R:Type}(K:AV->Option R)(q:gP)(k:IntKind)(a b:Int):fu (.bin .leq q) [.int k a,.int k b] K=K (.bool (decide (a<=b))):=dm K (λH n=>ajT H n q k a b)
theorem ajU(H:Pos->Option AB)(n:Pos)(q:gP)(k:IntKind)(a b:Int):aH.run H n (.bin .gtr q) [.int k a,.int k b]=some (.val (.bool (decide (b<a)))):=by simp[aH.run,jr,pL,dK,mZ,fo,kW,iP]
@[simp] theorem ki{R:Type}(c:aj)(K:AV->St->Option R)(st:St)(q:gP)(k:IntKind)(a b:Int):aq c (.bin .gtr q) [.int k a,.int k b] st K=K (.bool (decide (b<a))) st:=aU c K (λH n=>ajU H n q k a b) st
@[simp] theorem ajV{R:Type}(K:AV->Option R)(q:gP)(k:IntKind)(a b:Int):fu (.bin .gtr q) [.int k a,.int k b] K=K (.bool (decide (b<a))):=dm K (λH n=>ajU H n q k a b)
theorem ajW(H:Pos->Option AB)(n:Pos)(q:gP)(k:IntKind)(a b:Int):aH.run H n (.bin .geq q) [.int k a,.int k b]=some (.val (.bool (decide (b<=a)))):=by simp[aH.run,jr,pL,dK,mZ,fo,kW,iP]
@[simp] theorem avy{R:Type}(c:aj)(K:AV->St->Option R)(st:St)(q:gP)(k:IntKind)(a b:Int):aq c (.bin .geq q) [.int k a,.int k b] st K=K (.bool (decide (b<=a))) st:=aU c K (λH n=>ajW H n q k a b) st
@[simp] theorem avz{R:Type}(K:AV->Option R)(q:gP)(k:IntKind)(a b:Int):fu (.bin .geq q) [.int k a,.int k b] K=K (.bool (decide (b<=a))):=dm K (λH n=>ajW H n q k a b)
theorem ajX(H:Pos->Option AB)(n:Pos)(q:gP)(k:IntKind)(a b:Int):aH.run H n (.bin .eql q) [.int k a,.int k b]=some (.val (.bool (decide (a=b)))):=by simp[aH.run,jr,pL,dK,mZ,fo,kW,iP]
@[simp] theorem dM{R:Type}(c:aj)(K:AV->St->Option R)(st:St)(q:gP)(k:IntKind)(a b:Int):aq c (.bin .eql q) [.int k a,.int k b] st K=K (.bool (decide (a=b))) st:=aU c K (λH n=>ajX H n q k a b) st
@[simp] theorem adE{R:Type}(K:AV->Option R)(q:gP)(k:IntKind)(a b:Int):fu (.bin .eql q) [.int k a,.int k b] K=K (.bool (decide (a=b))):=dm K (λH n=>ajX H n q k a b)
theorem ajY(H:Pos->Option AB)(n:Pos)(q:gP)(k:IntKind)(a b:Int):aH.run H n (.bin .neq q) [.int k a,.int k b]=some (.val (.bool (!decide (a=b)))):=by simp[aH.run,jr,pL,dK,mZ,fo,kW,iP]
@[simp] theorem Yz{R:Type}(c:aj)(K:AV->St->Option R)(st:St)(q:gP)(k:IntKind)(a b:Int):aq c (.bin .neq q) [.int k a,.int k b] st K=K (.bool (!decide (a=b))) st:=aU c K (λH n=>ajY H n q k a b) st
@[simp] theorem avA{R:Type}(K:AV->Option R)(q:gP)(k:IntKind)(a b:Int):fu (.bin .neq q) [.int k a,.int k b] K=K (.bool (!decide (a=b))):=dm K (λH n=>ajY H n q k a b)
theorem ajZ(H:Pos->Option AB)(n:Pos)(q:gP)(k:IntKind)(a b:Int):aH.run H n (.bin .add q) [.int k a,.int k b]=some (.val (.int k (av k (a+b)))):=by simp[aH.run,jr,pL,dK,mZ,fo,kW,iP]
@[simp] theorem eu{R:Type}(c:aj)(K:AV->St->Option R)(st:St)(q:gP)(k:IntKind)(a b:Int):aq c (.bin .add q) [.int k a,.int k b] st K=K (.int k (av k (a+b))) st:=aU c K (λH n=>ajZ H n q k a b) st
@[simp] theorem aj0{R:Type}(K:AV->Option R)(q:gP)(k:IntKind)(a b:Int):fu (.bin .add q) [.int k a,.int k b] K=K (.int k (av k (a+b))):=dm K (λH n=>ajZ H n q k a b)
theorem aj1(H:Pos->Option AB)(n:Pos)(q:gP)(k:IntKind)(a b:Int):aH.run H n (.bin .sub q) [.int k a,.int k b]=some (.val (.int k (av k (a - b)))):=by simp[aH.run,jr,pL,dK,mZ,fo,kW,iP]
@[simp] theorem adF{R:Type}(c:aj)(K:AV->St->Option R)(st:St)(q:gP)(k:IntKind)(a b:Int):aq c (.bin .sub q) [.int k a,.int k b] st K=K (.int k (av k (a - b))) st:=aU c K (λH n=>aj1 H n q k a b) st
@[simp] theorem aj2{R:Type}(K:AV->Option R)(q:gP)(k:IntKind)(a b:Int):fu (.bin .sub q) [.int k a,.int k b] K=K (.int k (av k (a - b))):=dm K (λH n=>aj1 H n q k a b)
theorem aj3(H:Pos->Option AB)(n:Pos)(q:gP)(k:IntKind)(a b:Int):aH.run H n (.bin .mul q) [.int k a,.int k b]=some (.val (.int k (av k (a*b)))):=by simp[aH.run,jr,pL,dK,mZ,fo,kW,iP]
@[simp] theorem avB{R:Type}(c:aj)(K:AV->St->Option R)(st:St)(q:gP)(k:IntKind)(a b:Int):aq c (.bin .mul q) [.int k a,.int k b] st K=K (.int k (av k (a*b))) st:=aU c K (λH n=>aj3 H n q k a b) st
@[simp] theorem arW{R:Type}(K:AV->Option R)(q:gP)(k:IntKind)(a b:Int):fu (.bin .mul q) [.int k a,.int k b] K=K (.int k (av k (a*b))):=dm K (λH n=>aj3 H n q k a b)
theorem ag6(H:Pos->Option AB)(n:Pos)(q:gP)(s t:List Nat):aH.run H n (.bin .eql q) [.str s,.str t]=some (.val (.bool (decide (s=t)))):=by simp[aH.run,jr,pL,dK,mZ,fo,kW,iP]
@[simp] theorem avi{R:Type}(c:aj)(K:AV->St->Option R)(st:St)(q:gP)(s t:List Nat):aq c (.bin .eql q) [.str s,.str t] st K=K (.bool (decide (s=t))) st:=aU c K (λH n=>ag6 H n q s t) st
@[simp] theorem avj{R:Type}(K:AV->Option R)(q:gP)(s t:List Nat):fu (.bin .eql q) [.str s,.str t] K=K (.bool (decide (s=t))):=dm K (λH n=>ag6 H n q s t)
theorem ag7(H:Pos->Option AB)(n:Pos)(q:gP)(s t:List Nat):aH.run H n (.bin .neq q) [.str s,.str t]=some (.val (.bool (!decide (s=t)))):=by simp[aH.run,jr,pL,dK,mZ,fo,kW,iP]
@[simp] theorem aaS{R:Type}(c:aj)(K:AV->St->Option R)(st:St)(q:gP)(s t:List Nat):aq c (.bin .neq q) [.str s,.str t] st K=K (.bool (!decide (s=t))) st:=aU c K (λH n=>ag7 H n q s t) st
@[simp] theorem apq{R:Type}(K:AV->Option R)(q:gP)(s t:List Nat):fu (.bin .neq q) [.str s,.str t] K=K (.bool (!decide (s=t))):=dm K (λH n=>ag7 H n q s t)
theorem apr(H:Pos->Option AB)(n:Pos)(q:gP)(s t:List Nat):aH.run H n (.bin .lss q) [.str s,.str t]=some (.val (.bool (aO s t))):=by simp[aH.run,jr,pL,dK,mZ,fo,kW,iP]
@[simp] theorem avk{R:Type}(K:AV->Option R)(q:gP)(s t:List Nat):fu (.bin .lss q) [.str s,.str t] K=K (.bool (aO s t)):=dm K (λH n=>apr H n q s t)
theorem aps(H:Pos->Option AB)(n:Pos)(q:gP)(s t:List Nat):aH.run H n (.bin .geq q) [.str s,.str t]=some (.val (.bool (!aO s t))):=by simp[aH.run,jr,pL,dK,mZ,fo,kW,iP]
@[simp] theorem avl{R:Type}(c:aj)(K:AV->St->Option R)(st:St)(q:gP)(s t:List Nat):aq c (.bin .geq q) [.str s,.str t] st K=K (.bool (!aO s t)) st:=aU c K (λH n=>aps H n q s t) st
theorem apt(H:Pos->Option AB)(n:Pos)(s:List Nat):aH.run H n (.lenB .s) [.str s]=some (.val (.int .i64 (s.length:Int))):=rfl
@[simp] theorem avm{R:Type}(c:aj)(K:AV->St->Option R)(st:St)(s:List Nat):aq c (.lenB .s) [.str s] st K=K (.int .i64 (s.length:Int)) st:=aU c K (λH n=>apt H n s) st
theorem ag8(H:Pos->Option AB)(n:Pos)(es:Nat)(z:Bool)(rs:List (List AV)):aH.run H n (.lenB .l) [ro es z rs]=some (.val (.int .i64 (rs.length:Int))):=by unfold ro;split<;>rfl
@[simp] theorem jv{R:Type}(c:aj)(K:AV->St->Option R)(st:St)(es:Nat)(z:Bool)(rs:List (List AV)):aq c (.lenB .l) [ro es z rs] st K=K (.int .i64 (rs.length:Int)) st:=aU c K (λH n=>ag8 H n es z rs) st
@[simp] theorem ag9{R:Type}(K:AV->Option R)(es:Nat)(z:Bool)(rs:List (List AV)):fu (.lenB .l) [ro es z rs] K=K (.int .i64 (rs.length:Int)):=dm K (λH n=>ag8 H n es z rs)
theorem aha(H:Pos->Option AB)(n:Pos)(k k2:IntKind)(a:Int):aH.run H n (.conv (.int k)) [.int k2 a]=some (.val (.int k (av k a))):=rfl
@[simp] theorem Lu{R:Type}(c:aj)(K:AV->St->Option R)(st:St)(k k2:IntKind)(a:Int):aq c (.conv (.int k)) [.int k2 a] st K=K (.int k (av k a)) st:=aU c K (λH n=>aha H n k k2 a) st
@[simp] theorem avn{R:Type}(K:AV->Option R)(k k2:IntKind)(a:Int):fu (.conv (.int k)) [.int k2 a] K=K (.int k (av k a)):=dm K (λH n=>aha H n k k2 a)
theorem apu(H:Pos->Option AB)(n:Pos)(k:IntKind)(s:List Nat)(i:Nat):aH.run H n .idxS [.str s,.int k (i:Int)]=((s[i]?.map λc=> .int .u8 (c:Int)):Option AV).map .val:=by simp only[aH.run,Yp,ju,qX];cases s[i]? <;>rfl
@[simp] theorem avo{R:Type}(c:aj)(K:AV->St->Option R)(st:St)(k:IntKind)(s:List Nat)(i:Nat):aq c .idxS [.str s,.int k (i:Int)] st K=yD (s[i]?.map λc=> .int .u8 (c:Int)) λv=>K v st:=Lt c K (λH n=>apu H n k s i) st
theorem amX(H:Pos->Option AB)(n:Pos)(off:Nat)(l:List AV):aH.run H n (.field off none) [.agg l]=(l[off]? :Option AV).map .val:=by simp only[aH.run,Ra,qX];cases l[off]? <;>rfl
@[simp] theorem amY{R:Type}(K:AV->Option R)(off:Nat)(l:List AV):fu (.field off none) [.agg l] K=yD l[off]? K:=Wg K (λH n=>amX H n off l)
theorem Wh(H:Pos->Option AB)(n:Pos)(off:Nat)(p:Pos)(o:Nat):aH.run H n (.fieldA off) [.ptr p o]=some (.val (.ptr p (o+off))):=rfl
@[simp] theorem aK{R:Type}(c:aj)(K:AV->St->Option R)(st:St)(off:Nat)(p:Pos)(o:Nat):aq c (.fieldA off) [.ptr p o] st K=K (.ptr p (o+off)) st:=aU c K (λH n=>Wh H n off p o) st
@[simp] theorem bt{R:Type}(K:AV->Option R)(off:Nat)(p:Pos)(o:Nat):fu (.fieldA off) [.ptr p o] K=K (.ptr p (o+off)):=dm K (λH n=>Wh H n off p o)
theorem ahb(H:Pos->Option AB)(n:Pos)(off:Nat)(xs:List (List AV))(i j:Nat):aH.run H n (.fieldA off) [.fp xs i j]=some (.val (.fp xs i (j+off))):=rfl
@[simp] theorem atB{R:Type}(c:aj)(K:AV->St->Option R)(st:St)(off:Nat)(xs:List (List AV))(i j:Nat):aq c (.fieldA off) [.fp xs i j] st K=K (.fp xs i (j+off)) st:=aU c K (λH n=>ahb H n off xs i j) st
theorem ZZ(H:Pos->Option AB)(n:Pos)(i:Nat)(l:List AV):aH.run H n (.extract i) [.tuple l]=(l[i]? :Option AV).map .val:=by simp only[aH.run,Kv,qX];cases l[i]? <;>rfl
@[simp] theorem iJ{R:Type}(c:aj)(K:AV->St->Option R)(st:St)(i:Nat)(l:List AV):aq c (.extract i) [.tuple l] st K=yD l[i]? λv=>K v st:=Lt c K (λH n=>ZZ H n i l) st
@[simp] theorem auq{R:Type}(K:AV->Option R)(i:Nat)(l:List AV):fu (.extract i) [.tuple l] K=yD l[i]? K:=Wg K (λH n=>ZZ H n i l)
theorem Py(H:Pos->Option AB)(n:Pos)(p:Pos)(o:Nat):aH.run H n .nilCheck [.ptr p o]=some (.val (.ptr p o)):=rfl
@[simp] theorem bY{R:Type}(c:aj)(K:AV->St->Option R)(st:St)(p:Pos)(o:Nat):aq c .nilCheck [.ptr p o] st K=K (.ptr p o) st:=aU c K (λH n=>Py H n p o) st
@[simp] theorem qQ{R:Type}(K:AV->Option R)(p:Pos)(o:Nat):fu .nilCheck [.ptr p o] K=K (.ptr p o):=dm K (λH n=>Py H n p o)
theorem ahc(H:Pos->Option AB)(n:Pos)(es:Nat)(z:Bool)(rs:List (List AV))(k:IntKind)(i:Nat):aH.run H n (.idxA es none) [ro es z rs,.int k (i:Int)]=((if i<rs.length then some (.fp rs i 0)else none):Option AV).map .val:=by
 by_cases h:i<rs.length
 . rw[adD (by intro e;subst e;simp at h)];simp[aH.run,sP,ju,KA,dB,h]
 . unfold ro;split
   . rfl
   . simp[aH.run,sP,ju,KA,dB,h]
@[simp] theorem aaT{R:Type}(c:aj)(K:AV->St->Option R)(st:St)(es:Nat)(z:Bool)(rs:List (List AV))(k:IntKind)(i:Nat):aq c (.idxA es none) [ro es z rs,.int k (i:Int)] st K=yD (if i<rs.length then some (.fp rs i 0)else none) λv=>K v st:=Lt c K (λH n=>ahc H n es z rs k i) st
@[simp] theorem apv{R:Type}(K:AV->Option R)(es:Nat)(z:Bool)(rs:List (List AV))(k:IntKind)(i:Nat):fu (.idxA es none) [ro es z rs,.int k (i:Int)] K=yD (if i<rs.length then some (.fp rs i 0)else none) K:=Wg K (λH n=>ahc H n es z rs k i)
theorem aeI(H:Pos->Option AB)(n:Pos)(es:Nat)(z:Bool)(rs:List (List AV))(k:IntKind)(i:Nat):aH.run H n (.sliceL es false true false) [ro es z rs,.int k (i:Int)]=((if i<=rs.length then some (ro es (z&&rs.isEmpty) (rs.take i))else none):Option AV).map .val:=by
 by_cases h:i<=rs.length
 . rw[  Zb2 h];unfold ro;split
   . simp at h;subst h;rfl
   . rename_i hn;have:(z&&rs.isEmpty)=false:=(by cases z<;>cases rs<;>simp at hn ⊢);simp only[this];simp[aH.run,iM,bounds,ju,dz,dB,h]
 . rw[Za7 h];unfold ro;split
   . simp only[aH.run,iM,bounds,ju];have:¬i=0:=(by simp at h;omega);simp[dB,this]
   . simp[aH.run,iM,bounds,ju,dz,dB,h]
@[simp] theorem avg{R:Type}(c:aj)(K:AV->St->Option R)(st:St)(es:Nat)(z:Bool)(rs:List (List AV))(k:IntKind)(i:Nat):aq c (.sliceL es false true false) [ro es z rs,.int k (i:Int)] st K=yD (if i<=rs.length then some (ro es (z&&rs.isEmpty) (rs.take i))else none) λv=>K v st:=Lt c K (λH n=>aeI H n es z rs k i) st
@[simp] theorem amZ{R:Type}(K:AV->Option R)(es:Nat)(z:Bool)(rs:List (List AV))(k:IntKind)(i:Nat):fu (.sliceL es false true false) [ro es z rs,.int k (i:Int)] K=yD (if i<=rs.length then some (ro es (z&&rs.isEmpty) (rs.take i))else none) K:=Wg K (λH n=>aeI H n es z rs k i)
section
variable{R : Type}(c : aj)(K : AV -> St -> Option R)(K1 : AV -> Option R)
theorem Db(H:Pos->Option AB)(n:Pos)(xs:List (List AV))(i j:Nat):aH.run H n (.load none) [.fp xs i j]=(xs[i]?.bind λcs=>cs[j]?).map .val:=by
 simp only[aH.run,zo,qX];cases xs[i]? with
 |none=>rfl
 |some cs=>simp only[Za8];cases cs[j]? <;>rfl
theorem Oh(H:Pos->Option AB)(n:Pos)(m:Nat)(xs:List (List AV))(i j:Nat):aH.run H n (.load (some m)) [.fp xs i j]=((xs[i]?.bind λcs=>cut cs j m).map .agg).map .val:=by
 simp only[aH.run,zo,qX];cases xs[i]? with
 |none=>rfl
 |some cs=>simp only[Za8];cases cut cs j m<;>rfl
theorem tD (H:Pos->Option AB)(n:Pos)(p:Pos)(o:Nat):aH.run H n (.load none) [.ptr p o]=((cellsOf (H p)).bind λcs=>cs[o]?).map .val:=by
 simp only[aH.run,zo,qX];cases H p with
 |none=>rfl
 |some x=>   cases x<;>simp only[cellsOf,Za8,Option.bind_none]<;>try rfl
             all_goals first|(rename_i cs _;cases cs[o]? <;>rfl)|(rename_i _ cs;cases cs[o]? <;>rfl)
theorem wX (H:Pos->Option AB)(n:Pos)(m:Nat)(p:Pos)(o:Nat):aH.run H n (.load (some m)) [.ptr p o]=(((cellsOf (H p)).bind λcs=>cut cs o m).map .agg).map .val:=by
 simp only[aH.run,zo];cases H p with
 |none=>rfl
 |some x=>   cases x<;>simp only[cellsOf,Za8,Option.bind_none]<;>try rfl
             all_goals first|(rename_i cs _;cases cut cs o m<;>rfl)|(rename_i _ cs;cases cut cs o m<;>rfl)
@[simp] theorem auK(st:St)(xs:List (List AV))(i j:Nat):aq c (.load none) [.fp xs i j] st K=yD (xs[i]?.bind λcs=>cs[j]?) λv=>K v st:=Lt c K (λH n=>Db H n xs i j) st
@[simp] theorem ajd(st:St)(m:Nat)(xs:List (List AV))(i j:Nat):aq c (.load (some m)) [.fp xs i j] st K=IB (xs[i]?.bind λcs=>cut cs j m) λl=>K (.agg l) st:=by rw[Lt c K (λH n=>Oh H n m xs i j) st];cases(xs[i]?.bind λcs=>cut cs j m)<;>rfl
@[simp] theorem aR(st:St)(p:Pos)(o:Nat):aq c (.load none) [.ptr p o] st K=yD ((cellsOf (st.heap.get p)).bind λcs=>cs[o]?) λv=>K v st:=by unfold aq cL;rw[tD];cases((cellsOf (st.heap.get p)).bind λcs=>cs[o]?)<;>rfl
@[simp] theorem cK(st:St)(m:Nat)(p:Pos)(o:Nat):aq c (.load (some m)) [.ptr p o] st K=IB ((cellsOf (st.heap.get p)).bind λcs=>cut cs o m) λl=>K (.agg l) st:=by unfold aq cL;rw[wX];cases((cellsOf (st.heap.get p)).bind λcs=>cut cs o m)<;>rfl
@[simp] theorem auL(h:T AB)(xs:List (List AV))(i j:Nat):jt (.load none) [.fp xs i j] h (λ_=>true) K1=yD (xs[i]?.bind λcs=>cs[j]?) K1:=by unfold jt;rw[Db,Db];cases hx:(xs[i]?.bind λcs=>cs[j]?)<;>rfl
@[simp] theorem aur(h:T AB)(m:Nat)(xs:List (List AV))(i j:Nat):jt (.load (some m)) [.fp xs i j] h (λ_=>true) K1=IB (xs[i]?.bind λcs=>cut cs j m) λl=>K1 (.agg l):=by unfold jt;rw[Oh,Oh];cases hx:(xs[i]?.bind λcs=>cut cs j m)<;>rfl
@[simp] theorem Gt(st:St)(f:FuncId)(xs:List AV):aq c (.mkFunc f 0) xs st K=K (.func f [] xs) st:=aU c K (λH n=>by simp[aH.run,Gx,dz]) st
@[simp] theorem Z0(f:FuncId)(xs:List AV):fu (.mkFunc f 0) xs K1=K1 (.func f [] xs):=dm K1 (λH n=>by simp[aH.run,Gx,dz])
@[simp] theorem kJ(h:T AB)(p:Pos)(o:Nat):jt (.load none) [.ptr p o] h (λ_=>true) K1=yD ((cellsOf (h.get p)).bind λcs=>cs[o]?) K1:=by unfold jt;rw[tD,tD];show(match ((cellsOf (h.get p)).bind λcs=>cs[o]?).map eR.val with|some (.val v)=>_|_=>_)=_;cases((cellsOf (h.get p)).bind λcs=>cs[o]?)<;>rfl
@[simp] theorem AK(h:T AB)(m:Nat)(p:Pos)(o:Nat):jt (.load (some m)) [.ptr p o] h (λ_=>true) K1=IB ((cellsOf (h.get p)).bind λcs=>cut cs o m) λl=>K1 (.agg l):=by unfold jt;rw[wX,wX];show(match (((cellsOf (h.get p)).bind λcs=>cut cs o m).map AV.agg).map eR.val with|some (.val v)=>_|_=>_)=_;cases((cellsOf (h.get p)).bind λcs=>cut cs o m)<;>rfl
theorem run_build(H:Pos->Option AB)(n:Pos)(z:List AV)(ps:List (Nat×Nat))(xs:List AV):aH.run H n (.build z ps) xs=((cF z ps xs).map .agg).map .val:=by simp only[aH.run,Q7];cases cF z ps xs<;>rfl
@[simp] theorem ig(st:St)(z:List AV)(ps:List (Nat×Nat))(xs:List AV):aq c (.build z ps) xs st K=IB (cF z ps xs) λl=>K (.agg l) st:=by rw[Lt c K (λH n=>run_build H n z ps xs) st];cases cF z ps xs<;>rfl
@[simp] theorem GP(z:List AV)(ps:List (Nat×Nat))(xs:List AV):fu (.build z ps) xs K1=IB (cF z ps xs) λl=>K1 (.agg l):=by rw[Wg K1 (λH n=>run_build H n z ps xs)];cases cF z ps xs<;>rfl
theorem cW{α:Type}{l:List α}{m:Nat}(h:l.length=m):cut l 0 m=some l:=by
 unfold cut;rw[dz,Za0 (by omega)];simp only[Ze2];rw[Zf9 (by omega)]
end
end Go.Ai
namespace Go.Ai
open Go
def Wf(st:St):Prop:=∀p x,st.heap.get p=some x->p.toNat<st.next.toNat
theorem bQ(st:St)(b:AB):(ah st b).next=st.next.succ:=id rfl
@[simp] theorem bG{st:St}{b:AB}(h:Wf st):Wf (ah st b):=λp x hp=>by
  rw[bQ,Pos.aF];by_cases e:st.next=p
  . subst e;omega
  . have:=h p x (by rwa [ah,T.b9 _ e]at hp);omega
@[simp] theorem aA(st:St)(b:AB):(ah st b).heap.get st.next=some b:=T.gH _ _ _
theorem wY{st:St}{b:AB}{p:Pos}(h:p.toNat<st.next.toNat):(ah st b).heap.get p=st.heap.get p:=by
 rw[ah,T.b9 _ (by intro e;subst e;omega)]
@[simp] theorem Lv{st:St}{a b:AB}:(ah (ah st a) b).heap.get st.next=some a:=by
  rw[wY (by rw[bQ,Pos.aF];omega),aA]
theorem cq{st:St}{b:AB}(h:Wf st):aW st (ah st b):=λp x hp=>by rw[wY (h p x hp)];exact hp
theorem aC{st st':St}{v:AV}(hv:Plain v)(hk:aW st st'):tidy st (v,st')=(v,st):=by
 unfold tidy;rw[Zb2 ⟨hv,hk⟩]
section
variable{R : Type}(c : aj)(K : AV -> St -> Option R)
@[simp] theorem dy(x:AV)(st:St):aq c .box [x] st K=K (.ptr st.next 0) (ah st (.cells x.cells 0)):=id rfl
@[simp] theorem bS(l:List AV)(st:St):aq c (.alloc l) [] st K=K (.ptr st.next 0) (ah st (.cells l 0)):=id rfl
end
theorem T.FP{α:Type}(x y:Option α):∀(p:Pos)(t:T α),T.put x p (T.put y p t)=T.put x p t
 | .h,.e=>rfl
 | .h,.n _ _ _=>rfl
 | .o p,.e=>by simp only[T.put];rw[T.FP x y p]
 | .o p,.n _ _ _=>by simp only[T.put];rw[T.FP x y p]
 | .i p,.e=>by simp only[T.put];rw[T.FP x y p]
 | .i p,.n _ _ _=>by simp only[T.put];rw[T.FP x y p]
def bk(st:St)(p:Pos)(b:AB):St:={ heap:=st.heap.put (some b) p,next:=st.next }
@[simp] theorem dQ(st:St)(p:Pos)(b:AB):(bk st p b).next=st.next:=id rfl
@[simp] theorem bP(st:St)(p:Pos)(b:AB):(bk st p b).heap.get p=some b:=T.gH _ _ _
theorem aJ{st:St}{p q:Pos}{b:AB}(h:p≠q):(bk st p b).heap.get q=st.heap.get q:=T.b9 _ h _
@[simp] theorem YA(st:St)(a b:AB):bk (ah st a) st.next b=ah st b:=by
  unfold bk ah;simp only[T.FP]
@[simp] theorem Pz(st:St)(p:Pos)(a b:AB):bk (bk st p a) p b=bk st p b:=by
  unfold bk;simp only[T.FP]
theorem Pos.YE(p:Pos):p≠p.succ:=λe=>by have:=congrArg Pos.toNat e;rw[Pos.aF]at this;omega
theorem cr{R:Type}(c:aj)(K:AV->St->Option R)(st:St)(m:Nat)(p:Pos)(o:Nat)(v:AV)(cs:List AV)(h:st.heap.get p=some (.cells cs 0))(h1:v.cells.length=m)(h2:o+m<=cs.length)(h3:aS v.cells=true):
  aq c (.store m) [.ptr p o,v] st K=K .undef (bk st p (.cells (aX cs o v.cells) 0)):=by
 have:aH.run (λb=>st.heap.get b) st.next (.store m) [.ptr p o,v]=some (.bh .undef none (some (p,.cells (aX cs o v.cells) 0)) none):=by
  simp[aH.run,La,h,h1,h2,h3,dB,dz]
 unfold aq cL;rw[this];rfl
@[simp] theorem cE{R:Type}(c:aj)(K:AV->St->Option R)(st:St)(m:Nat)(v:AV)(cs:List AV)(h1:v.cells.length=m)(h2:m=cs.length)(h3:aS v.cells=true):
   aq c (.store m) [.ptr st.next 0,v] (ah st (.cells cs 0)) K=K .undef (ah st (.cells v.cells 0)):=by
  rw[cr c K _ m st.next 0 v cs (aA _ _) h1 (by omega) h3,YA];have:aX cs 0 v.cells=v.cells:=by unfold aX;rw[h1,h2];simp
  rw[this]
theorem auM{R:Type}(n:Option Nat)(p:Pos)(o:Nat)(st:St)(K:AV->Option R):ldr n (.ptr p o) st K=match n with
  |none=>yD ((cellsOf (st.heap.get p)).bind λcs=>cs[o]?) K
  |some m=>IB ((cellsOf (st.heap.get p)).bind λcs=>cut cs o m) λl=>K (.agg l):=by
 unfold ldr;cases n with
 |none=>rw[tD];simp only;cases((cellsOf (st.heap.get p)).bind λcs=>cs[o]?)<;>rfl
 |some m=>rw[wX];simp only;cases((cellsOf (st.heap.get p)).bind λcs=>cut cs o m)<;>rfl
@[simp] theorem aaU{R:Type}(m:Nat)(p:Pos)(o:Nat)(st:St)(K:AV->Option R):ldr (some m) (.ptr p o) st K=IB ((cellsOf (st.heap.get p)).bind λcs=>cut cs o m) λl=>K (.agg l):=auM (some m) p o st K
@[simp] theorem am0(es:Nat)(z:Bool)(rs:List (List AV)):(ro es z rs).one=true:=by unfold ro;split<;>rfl
@[simp] theorem ahd(es:Nat)(z:Bool)(rs:List (List AV)):(ro es z rs).cells=[ro es z rs]:=by unfold ro;split<;>rfl
theorem Plain.ro{es:Nat}{z:Bool}{rs:List (List AV)}(h:∀cs∈rs,∀v∈cs,Plain v):Plain (ro es z rs):=by
 unfold Go.Ai.ro;split
 . exact Plain.af
 . exact Plain.fl h
structure Grew(s s':St):Prop where
 wf:Wf s'
 keeps:aW s s'
 next:s.next.toNat<=s'.next.toNat
theorem Grew.refl{s:St}(h:Wf s):Grew s s:=⟨h,aW.refl s,Za3 _⟩
theorem Grew.trans{a b c:St}(h:Grew a b)(k:Grew b c):Grew a c:=⟨k.wf,h.keeps.trans k.keeps,Zb1 h.next k.next⟩
theorem Grew.ah{s:St}(h:Wf s)(b:AB):Grew s (ah s b):=⟨bG h,cq h,by rw[bQ,Pos.aF];omega⟩
theorem Grew.get{s s':St}(h:Grew s s'){p:Pos}{x:AB}(hp:s.heap.get p=some x):s'.heap.get p=some x:=h.keeps p x hp
end Go.Ai
end
namespace Go.Ai
section
set_option linter.all false
open Go
theorem jV{st:St}{p:Pos}{b:AB}(h:Wf st)(hp:p.toNat<st.next.toNat):Wf (bk st p b):=λq x hq=>by
 rw[dQ];by_cases e:p=q
 . subst e;exact hp
 . rw[aJ e]at hq;exact h q x hq
def dst(st:St)(p:Pos)(b:AB):St:={ heap:=(st.heap.put none p).put (some b) st.next,next:=st.next.succ }
theorem apw(st:St)(p:Pos)(b:AB):(dst st p b).next=st.next.succ:=id rfl
theorem adG(st:St)(p:Pos)(b:AB):(dst st p b).heap.get st.next=some b:=T.gH _ _ _
theorem ace{st:St}{p q:Pos}{b:AB}(h:p≠q)(h2:q.toNat<st.next.toNat):(dst st p b).heap.get q=st.heap.get q:=by
 rw[dst,T.b9 _ (by intro e;subst e;omega),T.b9 _ h]
theorem am1{st:St}{p:Pos}{b:AB}(h:Wf st):Wf (dst st p b):=λq x hq=>by
 rw[apw,Pos.aF];by_cases e:st.next=q
 . subst e;omega
 . rw[dst,T.b9 _ e]at hq;by_cases e2:p=q
   . subst e2;rw[T.gH]at hq;cases hq
   . rw[T.b9 _ e2]at hq;have:=h q x hq;omega
theorem am2{s s':St}{v:AV}(h:Grew s s')(hw:Wf s):∃fP,tidy s (v,s')=(v,fP)/\Grew s fP:=by
 unfold tidy;split
 . exact⟨s,rfl,Grew.refl hw⟩
 . exact⟨s',rfl,h⟩
theorem adH{s s':St}{v:AV}{b:Pos}{x:AB}(h:s.heap.get b=some x)(h2:s'.heap.get b≠some x):tidy s (v,s')=(v,s'):=by
 unfold tidy;rw[Za7];exact λe=>h2 (e.2 b x h)
section
variable{R : Type}(c : aj)(K : AV -> St -> Option R)(K1 : AV -> Option R)
theorem acf(H:Pos->Option AB)(n:Pos)(es len:Nat)(z:List AV)(ps:List Nat)(xs:List AV):aH.run H n (.buildSlice es len z ps) xs=(cF (bX z len) (ps.map λi=>(i*es,es)) xs).map λcs=> .bh (.slice n 0 len (some len) es) none none (some (.cells cs 0)):=by simp only[aH.run,wK];cases cF (bX z len) (ps.map λi=>(i*es,es)) xs<;>rfl
@[simp] theorem au(st:St)(es len:Nat)(z:List AV)(ps:List Nat)(xs:List AV):aq c (.buildSlice es len z ps) xs st K=IB (cF (bX z len) (ps.map λi=>(i*es,es)) xs) λcs=>K (.slice st.next 0 len (some len) es) (ah st (.cells cs 0)):=by unfold aq cL;rw[acf];cases cF (bX z len) (ps.map λi=>(i*es,es)) xs<;>rfl
@[simp] theorem qu(st:St)(es len:Nat)(z:List AV)(ps:List Nat)(xs:List AV)(K2:AV->AB->Option R):TV (.buildSlice es len z ps) xs st K2=IB (cF (bX z len) (ps.map λi=>(i*es,es)) xs) λcs=>K2 (.slice st.next 0 len (some len) es) (.cells cs 0):=by unfold TV;rw[acf];cases cF (bX z len) (ps.map λi=>(i*es,es)) xs<;>rfl
@[simp] theorem Wi(st:St):aq c .mkMap [] st K=K (.map st.next) (ah st (.map [] 0)):=id rfl
theorem ahe{st:St}{es bytes m:Nat}{x:AV}{new:List AV}(hm:eV x=some m)(h0:m≠0)(hb:(2*(0+m)+768)*bytes<=281474976710656)(hs:0+m<=9223372036854775807)(hx:dL es m (λb=>st.heap.get b) x=some new):
  aq c (.append es bytes) [.af,x] st K=K (.slice st.next 0 m none es) (ah st (.cells new 0)):=by
 have:aH.run (λb=>st.heap.get b) st.next (.append es bytes) [.af,x]=some (.bh (.slice st.next 0 m none es) none none (some (.cells new 0))):=by
  simp only[aH.run,lF];rw[show eV .af=some 0 from rfl,hm];simp only[dz,dB,Za0 hb,Za0 hs,Za1 h0,hx]
 unfold aq cL;rw[this];rfl
theorem arX{st:St}{es bytes m n:Nat}{p:Pos}{x:AV}{cs gK new:List AV}(hm:eV x=some m)(h0:m≠0)(hb:(2*(n+m)+768)*bytes<=281474976710656)(hs:n+m<=9223372036854775807)(hp:st.heap.get p=some (.cells cs 0))
  (ho:dL es n (λb=>st.heap.get b) (.slice p 0 n none es)=some gK) (hx:dL es m (λb=>st.heap.get b) x=some new) (h1:aS new=true):
  aq c (.append es bytes) [.slice p 0 n none es,x] st K=K (.slice st.next 0 (n+m) none es) (dst st p (.cells (gK++new) 0)):=by
 have:aH.run (λb=>st.heap.get b) st.next (.append es bytes) [.slice p 0 n none es,x]=some (.bh (.slice st.next 0 (n+m) none es) (some p) none (some (.cells (gK++new) 0))):=by simp only[aH.run,lF];rw[show eV (.slice p 0 n none es)=some n from rfl,hm];simp only[dz,dB,Za0 hb,Za0 hs,Za1 h0,hx,hp,ho,h1];simp
 unfold aq cL;rw[this];rfl
theorem am3{st:St}{es bytes m:Nat}{p:Pos}{x:AV}{new:List AV}(hm:eV x=some m)(h0:m≠0)(hb:(2*(0+m)+768)*bytes<=281474976710656)(hs:0+m<=9223372036854775807)(hx:dL es m (λb=>st.heap.get b) x=some new):
  aq c (.append es bytes) [.slice p 0 0 (some 0) es,x] st K=K (.slice st.next 0 m none es) (ah st (.cells new 0)):=by
 have:aH.run (λb=>st.heap.get b) st.next (.append es bytes) [.slice p 0 0 (some 0) es,x]=some (.bh (.slice st.next 0 m none es) none none (some (.cells new 0))):=by
  have h2:¬(0+m<=0):=by omega
  have ho:dL es 0 (λb=>st.heap.get b) (.slice p 0 0 (some 0) es)=some []:=by simp[dL]
  simp only[aH.run,lF];rw[show eV (.slice p 0 0 (some 0) es)=some 0 from rfl,hm];simp only[dz,dB,Za0 hb,Za0 hs,Za1 h0,Za1 h2,hx,ho];simp only[Zb4,Ze1]
 unfold aq cL;rw[this];rfl
theorem ahf{st:St}{es bytes:Nat}{p:Pos}{off n:Nat}{cp:Option Nat}{x:AV}(hm:eV x=some 0)(hb:(2*(n+0)+768)*bytes<=281474976710656)(hs:n+0<=9223372036854775807):
  aq c (.append es bytes) [.slice p off n cp es,x] st K=K (.slice p off n cp es) st:=by
 have:aH.run (λb=>st.heap.get b) st.next (.append es bytes) [.slice p off n cp es,x]=some (.val (.slice p off n cp es)):=by
  simp only[aH.run,lF];rw[show eV (.slice p off n cp es)=some n from rfl,hm];simp only[dz,dB,Za0 hb,Za0 hs]
 unfold aq cL;rw[this]
theorem aeJ(H:Pos->Option AB)(n:Pos)(z:AV)(m:Pos)(es:List (AV×AV×Nat))(cl:Nat)(k:AV)(h:H m=some (.map es cl))(r:Option (Nat×AV))(hf:ir .s k es 0=some r):
  aH.run H n (.lookup .s z true) [.map m,k]=some (.val (match r with|some (_,v)=> .tuple [v,.bool true]|none=> .tuple [z,.bool false])):=by
 simp only[aH.run,lC,h,hf];cases r with
 |none=>rfl
 |some p=>rfl
theorem Ce(z:AV){st:St}{m:Pos}{es:List (AV×AV×Nat)}{cl:Nat}{k:AV}{r:Option (Nat×AV)}(h:st.heap.get m=some (.map es cl))(hf:ir .s k es 0=some r):
  aq c (.lookup .s z true) [.map m,k] st K=K (match r with|some (_,v)=> .tuple [v,.bool true]|none=> .tuple [z,.bool false]) st:=by
 unfold aq cL;rw[aeJ _ _ z m es cl k h r hf]
theorem aeK(z:AV){h:T AB}{m:Pos}{es:List (AV×AV×Nat)}{cl:Nat}{k:AV}{r:Option (Nat×AV)}(hh:h.get m=some (.map es cl))(hf:ir .s k es 0=some r):
  jt (.lookup .s z true) [.map m,k] h (λ_=>true) K1=K1 (match r with|some (_,v)=> .tuple [v,.bool true]|none=> .tuple [z,.bool false]):=by
 unfold jt;have e:aH.run (λ_=>none) .h (.lookup .s z true) [.map m,k]=none:=rfl;rw[e];simp only;rw[aeJ _ _ z m es cl k hh r hf]
theorem aje{st:St}{m:Pos}{es:List (AV×AV×Nat)}{cl:Nat}{k:List Nat}{v:AV}(h:st.heap.get m=some (.map es cl))(hf:ir .s (.str k) es 0=some none):
  aq c (.mapSet .s) [.map m,.str k,v] st K=K .undef (bk st m (.map (es++[(.str k,v,cl)]) (cl+1))):=by
 have:aH.run (λb=>st.heap.get b) st.next (.mapSet .s) [.map m,.str k,v]=some (.bh .undef none (some (m,.map (es++[(.str k,v,cl)]) (cl+1))) none):=by
  simp[aH.run,yj,h,hf,agt]
 unfold aq cL;rw[this];rfl
theorem Cf{p:Pos}{o:Nat}{h h2:T AB}{v:AV}(hv:((cellsOf (h.get p)).bind λcs=>cs[o]?)=some v)(Pc:((cellsOf (h2.get p)).bind λcs=>cs[o]?)=some v)(hb:eM v v=true):
  jt (.load none) [.ptr p o] h (λv=>pn (.load none) [.ptr p o] v (nJ [] h2)&&true) K1=K1 v:=by
 unfold jt;have e:aH.run (λ_=>none) .h (.load none) [.ptr p o]=none:=rfl;rw[e];simp only;rw[tD,hv];simp only[Ze6];have:pn (.load none) [.ptr p o] v (nJ [] h2)=true:=by unfold pn;show(match aH.run (λb=>h2.get b) .h (.load none) [.ptr p o]with|some (.val u)=>eM u v|_=>false)=true;rw[tD,Pc];exact hb
 rw[this];rfl
end
theorem kX{R:Type}(K1:AV->Option R){p:Pos}{o:Nat}{h h2:T AB}{v:AV}(hv:((cellsOf (h.get p)).bind λcs=>cs[o]?)=some v)(Pc:((cellsOf (h2.get p)).bind λcs=>cs[o]?)=some v)(hb:eM v v=true):
  jt (.load none) [.ptr p o] h (λv=>pn (.load none) [.ptr p o] v (nJ [] h2)) K1=K1 v:=by
 have:=Cf K1 hv Pc hb;simp only[Zi5]at this;exact this
theorem Ns(p:Pos)(o n es:Nat):eM (.slice p o n none es) (.slice p o n none es)=true:=by
 simp[eM,lH,fI,Pos.beq_eq.2 rfl]
theorem RZ:eM .af .af=true:=rfl
inductive fV:Nat->AV->Prop
 |flat {d:Nat} {v:AV} (h:fI v v=true):fV d v
 |fl {d:Nat} {a:List (List AV)} {n:Nat} (h:∀r∈a,∀v∈r,fV d v):fV (d+1) (.fl a n)
theorem acg{f:AV->AV->Bool}:∀{a:List AV},(∀v∈a,f v v=true)->MX f a a=true
 |[],_=>rfl
 |a::x,h=>by
  simp only[MX,h a (by simp),acg (λv hv=>h v (Za9 _ hv)),Zk1]
theorem Wj{f:AV->AV->Bool}:∀{a:List (List AV)},(∀r∈a,∀v∈r,f v v=true)->B4 f a a=true
 |[],_=>rfl
 |a::x,h=>by
  simp only[B4,acg (h a (by simp)),Wj (λv hv=>h v (Za9 _ hv)),Zk1]
theorem R4:∀{d:Nat}{v:AV},fV d v->MY d v v=true
 |d,v,.flat h=>by
  unfold MY;split
  . simp[fI]at h
  . exact h
 |d+1,.fl a n,.fl h=>by
  unfold MY;simp[Wj (λr hr v hv=>R4 (h r hr v hv))]
theorem fV.ro{d es:Nat}{z:Bool}{rs:List (List AV)}(h:∀r∈rs,∀v∈r,fV d v):fV (d+1) (ro es z rs):=by
 unfold Go.Ai.ro;split
 . exact .flat rfl
 . exact .fl h
theorem Wk{v:AV}(h:fV 3 v):eM v v=true:=by
 have h3:=R4 h;cases h with
 |flat h=>
  cases v<;>simp[fI]at h<;>first|simp[eM,lH,fI,h]|skip
  all_goals simp_all [eM,lH,fI]
 |fl h=>exact h3
theorem ala{v:AV}(h:fV 3 v):lH v v=true:=by
 have h3:=R4 h;cases h with
 |flat h=>
  cases v<;>simp[fI]at h<;>first|simp[lH,fI,h]|skip
  all_goals simp_all [lH,fI]
 |fl h=>exact h3
theorem TW{l:List AV}(h:∀v∈l,fV 3 v):eM (.agg l) (.agg l)=true:=by
 show tV l l=true;induction l with
 |nil=>rfl
 |cons v l ih=>simp only[tV,ala (h v (by simp)),ih (λu hu=>h u (Za9 _ hu)),Zk1]
theorem ahg{R:Type}(K1:AV->Option R){m:Nat}{p:Pos}{o:Nat}{h h2:T AB}{l:List AV}(hv:((cellsOf (h.get p)).bind λcs=>cut cs o m)=some l)(Pc:((cellsOf (h2.get p)).bind λcs=>cut cs o m)=some l)(hb:eM (.agg l) (.agg l)=true):
  jt (.load (some m)) [.ptr p o] h (λv=>pn (.load (some m)) [.ptr p o] v (nJ [] h2)) K1=K1 (.agg l):=by
 unfold jt;have e:aH.run (λ_=>none) .h (.load (some m)) [.ptr p o]=none:=rfl;rw[e];simp only;rw[wX,hv];simp only[Ze6];have:pn (.load (some m)) [.ptr p o] (.agg l) (nJ [] h2)=true:=by unfold pn;show(match aH.run (λb=>h2.get b) .h (.load (some m)) [.ptr p o]with|some (.val u)=>eM u (.agg l)|_=>false)=true;rw[wX,Pc];exact hb
 rw[this]
theorem fV.int{d:Nat}(k:IntKind)(n:Int):fV d (.int k n):= .flat (by simp[fI,mH,dK])
theorem fV.str{d:Nat}(s:List Nat):fV d (.str s):= .flat (by simp[fI,mI])
theorem fV.bool{d:Nat}(s:Bool):fV d (.bool s):= .flat (by simp[fI])
end
section
open Go
section
variable{H : Type}(enc : TypeId × Value -> H)(P : Program)(w : World)(base : Nat)(spare : Nat -> Bool)(held : Bool)
def pG(t:TypeId)(Q:List AV->Prop):Prop:=
 ∀  (fuel:Nat)(cs:List Value)(x:DataW H×List MemPlace),DataW.trod enc P w base spare held fuel t cs=some x->
    ∃as,Q as/\∀ρ n,aL ρ n (λad=>w.cell? ad) as cs
variable{enc P w base spare held}
theorem pG.mono{t:TypeId}{Q Q':List AV->Prop}(h:pG enc P w base spare held t Q)(k:∀as,Q as->Q' as):pG enc P w base spare held t Q':=
 λfuel cs x hx=>by obtain⟨as,h1,h2⟩:=h fuel cs x hx;exact⟨as,k _ h1,h2⟩
theorem aeL{t:TypeId}{k:IntKind}(ht:P.underlying t=some (.int k)):pG enc P w base spare held t λas=>∃i,as=[.int k i]/\(Lit.int k i).wf=true:=
 fun fuel cs x hx=>by
  obtain⟨n,rfl,h⟩:=DataW.trod_int ht hx;exact⟨_,⟨n,rfl,h.2⟩,λρ m=>aL.cons (.int k n) aL.nil⟩
theorem Z3 {t e:TypeId}{es:Nat}{Q:List AV->Prop}(ht:P.underlying t=some (.slice e))(hc:P.cellsOf e=es)(eD:0<es)(hQ:∀as,Q as->as.length=es)(h:pG enc P w base spare held e Q):
  pG enc P w base spare held t λas=>∃z rs,as=[ro es z rs]/\(∀r∈rs,Q r)/\rs.length<=maxLen:=
 fun fuel cs  x hx=>by
  rcases DataW.trod_slice ht hx with⟨rfl,_⟩|⟨a,len,cap,elems,rest,n,_,rfl,_,hb,hl,hm,hlen,hel,_,_⟩
  .  exact⟨_,⟨true,[],rfl,by simp,by simp⟩,λρ m=>aL.cons .af aL.nil⟩
  .  have each:∀i,∃r row,i<len->(Q r/\w.cells? base (a.add (i*es)) es=some row/\∀ρ m,aL ρ m (λad=>w.cell? ad) r row):=by
        intro i;by_cases hi:i<len
        . have h1:=hel i hi;rw[H0 (by omega),hc]at h1;cases h2:w.cells? base (a.add (i*es)) es with
          |none=>rw[h2]at h1;cases h1
          | some row=>
            rw[h2]at h1;obtain⟨r,hr,hv⟩:=h n row _ h1;exact⟨r,row,λ_=>⟨hr,rfl,hv⟩⟩
        . exact⟨[],[],λh=>absurd h hi⟩
     obtain⟨r,each⟩:=Classical.axiomOfChoice each;obtain⟨row,hr⟩:=Classical.axiomOfChoice each;have aro:0<len->a.spot=none:=λh0=>by
        obtain⟨_,h1,_⟩:=hr 0 h0;have:=(World.cells?_some h1).2.2 0 eD;have hl:=(World.cells?_some h1).2.1;rw[H0 (by omega)]at this;simp only[Zn7,Addr.add,Zh6]at this;unfold World.cell? at this;split at this
        . split at this
          . cases this
          . rename_i h;simpa using h
        . cases this
     have auN:((List.range len).map r).length=len:=(by simp);have get:∀(i:Nat)(c:List AV),((List.range len).map r)[i]? =some c->i<len/\c=r i:=λi c hi=>by
        rw[Zb8]at hi;by_cases h:i<len
        . rw[Zh4 h]at hi;simp at hi;exact⟨h,hi.symm⟩
        . rw[Zc1 (by simpa using h)]at hi;cases hi
     refine⟨_,⟨false,(List.range len).map r,rfl,?_,by simp;omega⟩,λρ m=>aL.cons ?_ aL.nil⟩
     .  intro q hq;simp only[Zc9,Zh1]at hq;obtain⟨i,hi,rfl⟩:=hq;exact(hr i hi).1
     .  have key:aD ρ m (λad=>w.cell? ad) (.fl ((List.range len).map r) es) (.slice (some a) ((List.range len).map r).length cap):=by
          refine .fl _ es cap a (λi j=>((row i)[j]?).getD .nilFunc) (by omega) (λh0=>aro ?_) (λi c hi=> ?_) (λi j c v hi hj=> ?_) (λi j c v hi hj=> ?_)
          . apply Zl0;intro h;apply h0;have:len=0:=(by omega);subst this;rfl
          . obtain⟨h1,rfl⟩:=get i c hi;exact hQ _ (hr i h1).1
          . obtain⟨h1,rfl⟩:=get i c hi;obtain⟨q1,q2,q3⟩:=hr i h1;have hj2:j<es:=(by rw[<-hQ _ q1];exact(Za2.1 hj).1);have q4:=(World.cells?_some q2).2.2 j hj2;have q5:=(World.cells?_some q2).2.1;have hs:=aro (by omega);have e1:(a.add (i*es)).add j=⟨a.block,a.off+i*es+j,none⟩:=by
              obtain⟨aN,off,spot⟩:=a;simp only at hs;subst hs;unfold Addr.add;by_cases e1:i*es=0<;>by_cases e2:j=0<;>simp[e1,e2]
            rw[e1]at q4;show w.cell? _=_;rw[q4,H0 (by omega)];rfl
          . obtain⟨h1,rfl⟩:=get i c hi;obtain⟨q1,q2,q3⟩:=hr i h1;have hj2:j<es:=(by rw[<-hQ _ q1];exact(Za2.1 hj).1);have q5:=(World.cells?_some q2).2.1;refine(q3 ρ m).2 j v _ hj ?_;rw[H0 (by omega)];rfl
        rw[auN]at key;exact key
def R5:List (List AV->Prop)->List (List AV)->Prop
 |[],[]=>True
 |Q::Qs,p::ps=>Q p/\R5 Qs ps
 |_,_=>False
def Wl(P:Program)(tot:Nat):Nat->List Field->Bool
 |o,[]=>o==tot
 |o,f::fs=>f.offset==o&&Wl P tot (o+P.cellsOf f.type) fs
def ahh(enc:TypeId×Value->H)(P:Program)(w:World)(base:Nat)(spare:Nat->Bool)(held:Bool):List TypeId->List (List AV->Prop)->Prop
 |[],[]=>True
 |f::fs,Q::Qs=>pG enc P w base spare held f Q/\ahh enc P w base spare held fs Qs
 |_,_=>False
theorem Wm{tot n:Nat}:∀(fs:List Field)(Qs:List (List AV->Prop))(o:Nat)(cs:List Value),Wl P tot o fs=true->ahh enc P w base spare held (fs.map (·.type)) Qs->cs.length=tot->
  (∀f∈fs,∃y,DataW.trod enc P w base spare held n f.type ((cs.drop f.offset).take (P.cellsOf f.type))=some y)->
  ∃parts,R5 Qs parts/\∀ρ m,aL ρ m (λad=>w.cell? ad) parts.flatten (cs.drop o)
 |[],[],o,cs,hc,_,hl,_=>by simp only[Wl,beq_iff_eq]at hc;refine⟨[],trivial,λρ m=> ?_⟩;rw[List.drop_eq_nil_of_le (by omega)];exact aL.nil
 |f::fs,Q::Qs,o,cs,hc,hO,hl,hf=>by
  simp only[Wl,Zb5,beq_iff_eq]at hc;obtain⟨y,hy⟩:=hf f (by simp);obtain⟨as,hq,hv⟩:=hO.1 n _ y hy;obtain⟨parts,hp,Pc⟩:=Wm fs Qs _ cs hc.2 hO.2 hl (λg hg=>hf g (Za9 _ hg));refine⟨as::parts,⟨hq,hp⟩,λρ m=> ?_⟩;have e:cs.drop o=(cs.drop f.offset).take (P.cellsOf f.type)++cs.drop (o+P.cellsOf f.type):=by
   rw[hc.1, <-Zl2,Zl8]
  rw[e,Zf6];exact(hv ρ m).append (Pc ρ m)
def fieldsOf(P:Program)(t:TypeId):List Field:=match P.underlying t with
 |some (.struct fs)=>fs.toList
 |_=>[]
def ahi(P:Program)(t:TypeId):Bool:=match P.underlying t with
 |some (.struct _)=>true
 |_=>false
theorem ahj{t:TypeId}(ts:List TypeId){Qs:List (List AV->Prop)}(hs:ahi P t=true)(tu:(fieldsOf P t).map (·.type)=ts)(hc:Wl P (P.cellsOf t) 0 (fieldsOf P t)=true)(hO:ahh enc P w base spare held ts Qs):
  pG enc P w base spare held t λas=>∃parts,as=parts.flatten/\R5 Qs parts:=
 fun fuel cs x hx=>by
  obtain⟨fs,ht⟩:∃fs,P.underlying t=some (.struct fs):=by
     unfold ahi at hs;cases h:P.underlying t with
     |none=>rw[h]at hs;cases hs
     |some d=>rw[h]at hs;cases d<;>first|exact⟨_,rfl⟩|cases hs
  have ef:fieldsOf P t=fs.toList:=by unfold fieldsOf;rw[ht]
  rw[ef]at tu hc;subst tu;obtain⟨xs,n,_,_,hl,hxl,hf⟩:=DataW.trod_struct ht hx;obtain⟨parts,hp,hv⟩:=Wm fs.toList Qs 0 cs hc hO hl (λf hf2=>by
     obtain⟨i,hi⟩:=List.getElem?_of_mem hf2;have GQ:fs[i]? =some f:=(by rw[<-Zj8];exact hi);have aT:i<fs.size:=(Zd2.1 GQ).1;exact⟨xs[i],by rw[hf i f GQ,H0 (by omega)]⟩)
  exact⟨_,⟨parts,rfl,hp⟩,λρ m=>hv ρ m⟩
end
def Quiet(w w':World):Prop:=w'.os=w.os/\w'.tape=w.tape/\w'.output=w.output/\w.heap.size<=w'.heap.size/\∀k,k<w.heap.size->w'.heap[k]? =w.heap[k]?
def YF:List AV->St->Option (AV×St)
 |[],st=>some (.bool true,st)
 |_,_=>none
theorem aeM{P:Program}{C:Cells}{f:FuncId}{fn:Func}{c:Code}(hf:P.funcs[f]? =some fn)(qq:¬fn.name= "runtime.NumGoroutine")(hb:fn.body=some c)
  (h:∀w:World,(∀ad u,C ad=some u->w.cell? ad=some u)->Calls P f #[] w λe w'=>e= .returned (.bool true)/\Quiet w w'):tZ P C f YF where
 mono args st v st' hs:=by
  unfold YF at hs;split at hs<;>first|(cases hs;done)|skip
  simp only[H5,Zd0]at hs;rw[<-hs.2];exact Za3 _
 runs ρ st w args v st' cQ hs hW hv:=by
  unfold YF at hs;split at hs<;>first|(cases hs;done)|skip
  simp only[H5,Zd0]at hs;obtain⟨rfl,rfl⟩:=hs;obtain rfl:=hv.qO;have dX:(callFunc f ([]:List Value).toArray).run P w= .ok (.enter f #[]) w:=by simp[callFunc,hf,qq,hb]
  rw[dX];refine Calls.mono (h w λad u ha=>(hW.eI ad u ha).1) λe w' he=> ?_
  obtain⟨rfl,h1,h2,h3,h4,h5⟩:=he;exact⟨ρ,.bool true,λ_ _=>rfl,Za3 _,hW.grow h4 h5,⟨h1,h2,h3,h4,λk hk _=>h5 k hk,λb x hb=> .inl ⟨b,x,hb,rfl⟩⟩⟩
theorem apx{P:Program}{C:Cells}{call:aj}{f:FuncId}{fn:Func}{c:Code}{args:List AV}{cQ:List Value}{b:Bool}{n0:Pos}{bE:St}{w:World}
  (cJ:iX P C call) (hC:∀ad v,C ad=some v->w.cell? ad=some v) (hC2:∀a v,C a=some v->∀o,C ⟨a.block,o,none⟩=none->w.cell? ⟨a.block,o,none⟩=none) (hf:P.funcs[f]? =some fn) (qq:¬fn.name= "runtime.NumGoroutine") (hb:fn.body=some c)
  (ha:aL (λ_=>⟨0,0,0⟩) n0.toNat C args cQ) (h:call f args { heap:= .e,next:=n0 }=some (.bool b,bE)):
  Calls P f cQ.toArray w λe w'=>e= .returned (.bool b)/\Quiet w w':=by
 have hr:=cJ (λ_=>⟨0,0,0⟩) { heap:= .e,next:=n0 } w f args (.bool b) bE cQ h (GN hC hC2) ha;have dX:(callFunc f cQ.toArray).run P w= .ok (.enter f cQ.toArray) w:=by simp[callFunc,hf,qq,hb]
 rw[dX]at hr;refine Calls.mono hr λe w' he=> ?_
 cases e with
 |returned x=>
  obtain⟨ρ',h1,_,_,_,hE⟩:=he;have:=h1.kV;subst this;exact⟨rfl,hE.os,hE.tape,hE.output,hE.size,λk hk=>hE.block k hk λb x hb=>by rw[T.dW]at hb;cases hb⟩
 |panicked c=>exact he.elim
 |outgrown=>exact he.elim
end
section
open Go Go.ChangeShapes Go.WideShapes Go.ChangeAt Go.RowKit
theorem Quiet.below{w w':World}(h:Quiet w w'):Below w.heap.size w w':=⟨h.1,h.2.1,h.2.2.1,h.2.2.2.1,h.2.2.2.2⟩
section
variable{H : Type}{enc : TypeId × Value -> H}{P : Program}
theorem TX{W W':World}(hl:laidOutB P=true)(hb:Below W.heap.size W W'):∀{ts:List TypeId}{vs:List Value}{ds:List (DataW H)}{p:List MemPlace},
  DataW.TrodAll enc P W 0 (λ_=>true) true ts vs ds p->(∀t∈ts,P.readableRec t=true/\t<P.types.size)->(∀x∈p,x.block<W.heap.size)->
  DataW.TrodAll enc P W' 0 (λb=>decide (b<W.heap.size)) true ts vs ds p
 |[],_,_,_,h,_,_=>by obtain⟨rfl,rfl,rfl⟩:=trodAll_nil h;exact trodAll_mk0
 |t::ts,_,_,_,h,hr,hx=>by
  obtain⟨v,vs1,d,ds1,a,b,rfl,rfl,rfl,h1,h2⟩:=trodAll_cons h
  exact trodAll_cons_mk (Below.trod hl (hr t (by simp)).1 (hr t (by simp)).2 h1 hb (λx ZE=>hx x (Zm3 _ ZE)))
   (TX hl hb h2 (λt ht=>hr t (Za9 _ ht)) (λx ZE=>hx x (List.mem_append_right _ ZE)))
theorem am4{f:Func}{s:ChangeSpec}{W W':World}{args:Array Value}{ds gs:List (DataW H)}{before:List MemPlace}{tb:TypeId}(hl:laidOutB P=true)
   (hW:DataW.Whole enc P f.params.toList s.vars false W args.toList ds gs before) (hv:s.vars=[]) (GK:s.fn H (ds++gs)={ results:=[.lit (.bool true)],args:=ds })
   (hr:∀t∈f.params.toList,P.readableRec t=true/\t<P.types.size) (hB:Below W.heap.size W W') (aaV:f.resultTypes= #[tb]) (htb:P.underlying tb=some .bool):
   s.post enc P f false true false false W args (.bool true) W':=by
 have aT:=hW.lt;have ji:=hW;obtain⟨p,q,hA,hV,rfl,hfz,hnd⟩:=hW;have hq:q=[]:=by
   rw[hv]at hV;cases gs with
   |nil=>exact hV
   |cons g gs=>exact hV.elim
 subst hq;refine⟨ds,gs,p++[],[],p,[],ji,?_,?_,?_,hB.frame _,λh=>by cases h⟩
 . rw[GK,aaV];exact trodAll_cons_mk (shut_bool htb _) trodAll_mk0
 . rw[GK];exact TX hl hB hA hr (λx hx=>aT x (Zm3 _ hx))
 . rw[GK,hv];rfl
end
section
variable{H : Type}{enc : TypeId × Value -> H}{P : Program}{w : World}{base : Nat}{spare : Nat -> Bool}{held : Bool}
theorem ach{t:TypeId}{fs:Array Field}{Q:List AV->Prop}{r:Go.Reach}{b0:Nat}{v:Value}{d:DataW H}{p:List MemPlace}(ho:pG enc P w base spare held t Q)(ht:P.underlying t=some (.struct fs))
  (hval:Value.okWide P w r b0 t v) (hd:DataW.Trod enc P w base spare held t v d p):∃as,Q as/\∀ρ n,aD ρ n (λad=>w.cell? ad) (.agg as) v:=by
 obtain⟨cs,rfl,_⟩:=okWide_struct ht hval;obtain⟨fuel,hf⟩:=hd;obtain⟨as,h1,h2⟩:=ho _ _ _ hf;refine⟨as,h1,λρ n=> ?_⟩;have h3:=h2 ρ n;refine .agg as cs (by rw[h3.1];simp[Value.cells]) λi x x' hx wO=>h3.2 i x x' hx ?_
 simpa [Value.cells]using wO
end
end
section
open Go
theorem aD.auO{ρ:Pos->Loc}{n:Nat}{C C':Cells}{v:AV}{x:Value}(hC:∀ad u,C ad=some u->C' ad=some u)(h:aD ρ n C v x):aD ρ n C' v x:=by
 induction h with
 |bool b=>exact .bool b
 |int k i=>exact .int k i
 |str s bs h=>exact .str s bs h
 |iR=>exact .iR
 |ptr b off h=>exact .ptr b off h
 |fp xs i j es aN base cell hl hc _ ih=>exact .fp xs i j es aN base cell hl (λi j cs v h1 h2=>hC _ _ (hc i j cs v h1 h2)) ih
 |af=>exact .af
 |slice b off len cap es bC a hl hc ha hk=>exact .slice b off len cap es bC a hl hc ha hk
 |fl xs es bC a cell hl hs eD hc _ ih=>exact .fl xs es bC a cell hl hs eD (λi j cs v h1 h2=>hC _ _ (hc i j cs v h1 h2)) ih
 |qV=>exact .qV
 |map b h=>exact .map b h
 |func f x y x' y' hx hy _ _ ih1 ih2=>exact .func f x y x' y' hx hy ih1 ih2
 |jK=>exact .jK
 |Bu=>exact .Bu
 |iface t v x _ ih=>exact .iface t v x ih
 |agg l cs hl _ ih=>exact .agg l cs hl ih
 |tuple l cs hl _ ih=>exact .tuple l cs hl ih
def mK(ρ:Pos->Loc)(n:Nat)(C:Cells)(w:World)(v u:AV):Prop:=∀x,aD ρ n C v x->aD ρ n (λad=>w.cell? ad) u x
section
variable{ρ : Pos -> Loc}{C : Cells}{st : St}{w : World}
theorem mK.self{n:Nat}(hC:∀ad u,C ad=some u->w.cell? ad=some u)(v:AV):mK ρ n C w v v:=λ_ h=>h.auO hC
theorem mK.agg{n:Nat}{l l':List AV}(hl:l.length=l'.length)(h:∀(i:Nat)(v u:AV),l[i]? =some v->l'[i]? =some u->mK ρ n C w v u):mK ρ n C w (.agg l) (.agg l'):=λx hx=>by
 cases hx with
 |agg _ cs h1 h2=>
  refine .agg l' cs (by omega) λi u x hu hx=> ?_
  have hi:i<l.length:=by rw[hl];exact(Za2.1 hu).1
  exact h i l[i] u (H0 hi) hu _ (h2 i _ x (H0 hi) hx)
theorem mK.slice(hW:cC ρ C st w){b:Pos}{off len es fz:Nat}{cap:Option Nat}{cs:List AV}(hb:st.heap.get b=some (.cells cs fz))(hlen:off+len*es<=cs.length){F:List (List AV)}(hF:F.length=len)
  (eD:∀(i:Nat)(r:List AV),F[i]? =some r->r.length=es)
  (hr:∀(i j:Nat)(r:List AV)(u v:AV),F[i]? =some r->r[j]? =some u->cs[off+i*es+j]? =some v->mK ρ st.next.toNat C w v u):
  mK ρ st.next.toNat C w (.slice b off len cap es) (.fl F es):=λx hx=>by
 cases hx with
 |slice  _ _ _ _ _ bC a hl hc ha hk=>
  have get:∀(i j:Nat)(r:List AV)(u:AV),F[i]? =some r->r[j]? =some u->i<len/\j<es/\off+i*es+j<cs.length/\0<bC:=λi j r u h1 h2=>by
   have g1:i<len:=(by rw[<-hF];exact(Za2.1 h1).1);have g2:j<es:=(by rw[<-eD i r h1];exact(Za2.1 h2).1);have g3:(i+1)*es<=len*es:=Zg9 _ g1;rw[Zg4]at g3;exact⟨g1,g2,by omega,by omega⟩
  have cell:∀(i j:Nat)(r:List AV)(u:AV),F[i]? =some r->r[j]? =some u->∃v y,cs[off+i*es+j]? =some v/\w.cell? ⟨a.block,a.off+i*es+j,none⟩=some y/\aD ρ st.next.toNat C v y:=λi j r u h1 h2=>by
   obtain⟨g1,g2,g3,g4⟩:=get i j r u h1 h2;obtain⟨_,rfl,_⟩:=ha (by omega);have hv:=H0 g3;obtain⟨y,q1,q2⟩:=hW.cell hb hv;exact⟨_,y,hv,by rw[show(ρ b).base+off+i*es+j=(ρ b).base+(off+i*es+j)by omega];exact q1,q2⟩
  have key:aD ρ st.next.toNat (λad=>w.cell? ad) (.fl F es) (.slice (some a) F.length bC):=by
   refine .fl F es bC a (λi j=>(w.cell? ⟨a.block,a.off+i*es+j,none⟩).getD .nilFunc) (by omega) (λh0=> ?_) eD (λi j r u h1 h2=> ?_) (λi j r u h1 h2=> ?_)
   .    cases auP:len with
        |zero=>exfalso;apply h0;rw[auP]at hF;exact List.length_eq_zero_iff.1 hF
        |succ m=>
         obtain⟨_,rfl,_⟩:=ha (by omega);rfl
   .    obtain⟨v,y,_,q2,_⟩:=cell i j r u h1 h2;show w.cell? _=_;rw[q2];rfl
   .    obtain⟨v,y,q1,q2,q3⟩:=cell i j r u h1 h2;rw[q2];exact hr i j r u v h1 h2 q1 y q3
  rw[hF]at key;exact key
end
def fW (st:St):Nat->AV->AV
 |0,v=>v
 |  d+  1,.slice b off len cap es=>match decide (len=0)with
    |true=> .fl [] es
    |false=>match st.heap.get b with
     |  some (.cells cs _)=>match decide (off+len*es<=cs.length)with
        |true=> .fl ((List.range len).map λi=>((cs.drop (off+i*es)).take es).map (fW st d)) es
        |false=> .slice b off len cap es
     |_=> .slice b off len cap es
 |  d+1,.ptr b off=>match st.heap.get b with
    |some (.cells cs _)=> .fp [cs.map (fW st d)] 0 off
    |_=> .ptr b off
 |d+1,.agg l=> .agg (l.map (fW st d))
 |d+1,.func f x y=> .func f (x.map (fW st d)) (y.map (fW st d))
 |_,v=>v
theorem aeN(st:St)(d:Nat)(b:Pos)(off len:Nat)(cap:Option Nat)(es:Nat):fW st (d+1) (.slice b off len cap es)=match decide (len=0)with
 |true=> .fl [] es
 |false=>match st.heap.get b with
  |     some (.cells cs _)=>match decide (off+len*es<=cs.length)with
        |true=> .fl ((List.range len).map λi=>((cs.drop (off+i*es)).take es).map (fW st d)) es
        |false=> .slice b off len cap es
  |_=> .slice b off len cap es:=rfl
theorem arY(st:St)(d:Nat)(b:Pos)(off:Nat):fW st (d+1) (.ptr b off)=match st.heap.get b with
 |some (.cells cs _)=> .fp [cs.map (fW st d)] 0 off
 |_=> .ptr b off:=rfl
theorem aj4(st:St)(d:Nat)(l:List AV):fW st (d+1) (.agg l)= .agg (l.map (fW st d)):=rfl
theorem apy(st:St)(d:Nat)(f:FuncId)(x y:List AV):fW st (d+1) (.func f x y)= .func f (x.map (fW st d)) (y.map (fW st d)):=rfl
section
variable{ρ : Pos -> Loc}{C : Cells}{st : St}{w : World}
theorem mK.ptr(hW:cC ρ C st w){b:Pos}{off fz:Nat}{cs F:List AV}(hb:st.heap.get b=some (.cells cs fz))(hF:F.length=cs.length)
  (hr:∀(j:Nat)(u v:AV),F[j]? =some u->cs[j]? =some v->mK ρ st.next.toNat C w v u):mK ρ st.next.toNat C w (.ptr b off) (.fp [F] 0 off):=λx hx=>by
 cases hx with
 |ptr   _ _ h=>
  have row:∀(i j:Nat)(r:List AV)(u:AV),[F][i]? =some r->r[j]? =some u->i=0/\∃v y,cs[j]? =some v/\w.cell? ⟨(ρ b).aN,(ρ b).base+j,none⟩=some y/\aD ρ st.next.toNat C v y/\F[j]? =some u:=λi j r u h1 h2=>by
   have hi:i=0:=(by have:=(Za2.1 h1).1;simp at this;exact this);subst hi;simp at h1;subst h1;have hj:j<cs.length:=(by rw[<-hF];exact(Za2.1 h2).1);obtain⟨y,q1,q2⟩:=hW.cell hb (H0 hj);exact⟨rfl,_,y,H0 hj,q1,q2,h2⟩
  have key:aD ρ st.next.toNat (λad=>w.cell? ad) (.fp [F] 0 off) (.pointer (some ⟨(ρ b).aN,(ρ b).base+0*cs.length+off,none⟩)):=by
   refine .fp [F] 0 off cs.length (ρ b).aN (ρ b).base (λ_ j=>(w.cell? ⟨(ρ b).aN,(ρ b).base+j,none⟩).getD .nilFunc) (λi r h1=> ?_) (λi j r u h1 h2=> ?_) (λi j r u h1 h2=> ?_)
   .    have hi:i=0:=(by have:=(Za2.1 h1).1;simp at this;exact this);subst hi;simp at h1;subst h1;exact hF
   .    obtain⟨rfl,v,y,_,q2,_⟩:=row i j r u h1 h2;show w.cell? _=_;rw[show(ρ b).base+0*cs.length+j=(ρ b).base+j by omega,q2];rfl
   .    obtain⟨rfl,v,y,q1,q2,q3,q4⟩:=row i j r u h1 h2;rw[q2];exact hr j u v q4 q1 y q3
  rw[show(ρ b).base+0*cs.length+off=(ρ b).base+off by omega]at key;exact key
theorem mK.fW (hW:cC ρ C st w):∀(d:Nat)(v:AV),mK ρ st.next.toNat C w v (fW st d v)
 |0,v=>mK.self (λad u h=>(hW.eI ad u h).1) v
 |d+    1,v=>   by
  have self:=mK.self (ρ:=ρ) (n:=st.next.toNat) (λad u h=>(hW.eI ad u h).1) v;cases v with
  |slice    b off len cap es=>
   rw[aeN];split
   .    rename_i h0;obtain rfl:=Zf7 h0;intro x hx;cases hx with
        | slice _ _ _ _ _ bC a hl hc ha hk=>
          exact .fl [] es bC a (λ_ _=> .nilFunc) (Zh9 _) (λh=>absurd rfl h) (λi c h=>by simp at h) (λi j c v h=>by simp at h) (λi j c v h=>by simp at h)
   split
   .    rename_i cs fz hb;split
        . rename_i hle;have hle:=Zf7 hle;refine mK.slice hW hb hle (by simp) (λi r hi=> ?_) (λi j r u v hi hj hv=> ?_)
          . rw[Zb8]at hi;by_cases h:i<len
            . rw[Zh4 h]at hi;simp only[Ze6,H5]at hi;subst hi;have g3:(i+1)*es<=len*es:=Zg9 _ h;rw[Zg4]at g3;simp;omega
            . rw[Zc1 (by simpa using h)]at hi;cases hi
          . rw[ Zb8]at hi;by_cases h:i<len
            . rw[Zh4 h]at hi;simp only[Ze6,H5]at hi;subst hi;rw[Zb8,Ze0]at hj;split at hj
              . rw[Ze8,hv]at hj;simp only[Ze6,H5]at hj;subst hj;exact mK.fW hW d v
              . cases hj
            . rw[Zc1 (by simpa using h)]at hi;cases hi
        . exact self
   .    exact self
  |ptr b off=>
   rw[arY];split
   .    rename_i cs fz hb;refine mK.ptr hW hb (by simp) (λj u v hu hv=> ?_);rw[Zb8,hv]at hu;simp only[Ze6,H5]at hu;subst hu;exact mK.fW hW d v
   .    exact self
  |agg l=>
   rw[aj4];refine mK.agg (by simp) (λi v u h1 h2=> ?_);rw[Zb8,h1]at h2;simp only[Ze6,H5]at h2;subst h2;exact mK.fW hW d v
  |func f x y=>
   rw[apy];intro v' hv;cases hv with
   |    func _ _ _ x' y' hx hy h1 h2=>
        have one:∀(l:List AV)(xs:Array Value),(∀(i:Nat)(v:AV)(v':Value),l[i]? =some v->xs[i]? =some v'->aD ρ st.next.toNat C v v')->∀(i:Nat)(v:AV)(v':Value),(l.map (Go.Ai.fW st d))[i]? =some v->xs[i]? =some v'->aD ρ st.next.toNat (λad=>w.cell? ad) v v':=λl xs h i u v' hu hx=>by
          rw[Zb8]at hu;cases hg:l[i]? with
          |none=>rw[hg]at hu;cases hu
          | some v0=>
            rw[hg]at hu;simp only[Ze6,H5]at hu;subst hu;exact mK.fW hW d v0 _ (h i v0 v' hg hx)
        exact .func f _ _ x' y' (by simpa using hx) (by simpa using hy) (one x x' h1) (one y y' h2)
  |_=>exact self
theorem aL.fW(hW:cC ρ C st w)(d:Nat){l:List AV}{xs:List Value}(h:aL ρ st.next.toNat C l xs):aL ρ st.next.toNat (λad=>w.cell? ad) (l.map (Go.Ai.fW st d)) xs:=
 ⟨by rw[<-h.1];simp,λi u x hu hx=>by
  rw[Zb8]at hu;cases hv:l[i]? with
  |none=>rw[hv]at hu;cases hu
  |  some v=>
     rw[hv]at hu;simp only[Ze6,H5]at hu;subst hu;exact mK.fW hW d v _ (h.2 i v x hv hx)⟩
end
def bM(v:AV):Prop:=∀(ρ:Pos->Loc)(n:Nat)(C C':Cells)(x:Value),aD ρ n C v x->aD ρ n C' v x
theorem bM.bool(b:Bool):bM (.bool b):=λ_ _ _ _ _ h=>by cases h;exact .bool b
theorem bM.int(k:IntKind)(i:Int):bM (.int k i):=λ_ _ _ _ _ h=>by cases h;exact .int k i
theorem bM.str(s:List Nat):bM (.str s):=λ_ _ _ _ _ h=>by cases h with|str _ bs h=>exact .str s bs h
theorem bM.af:bM .af:=λ_ _ _ _ _ h=>by cases h;exact .af
theorem bM.jK:bM .jK:=λ_ _ _ _ _ h=>by cases h;exact .jK
theorem bM.ptr(b:Pos)(o:Nat):bM (.ptr b o):=λ_ _ _ _ _ h=>by cases h with|ptr _ _ h=>exact .ptr b o h
theorem bM.map(b:Pos):bM (.map b):=λ_ _ _ _ _ h=>by cases h with|map _ h=>exact .map b h
theorem bM.slice(b:Pos)(o l:Nat)(c:Option Nat)(es:Nat):bM (.slice b o l c es):=λ_ _ _ _ _ h=>by
 cases h with|slice _ _ _ _ _ bC a h1 h2 h3 h4=>exact .slice b o l c es bC a h1 h2 h3 h4
theorem bM.tuple{l:List AV}(hl:∀v∈l,bM v):bM (.tuple l):=λ_ _ _ _ _ h=>by
 cases h with|tuple _ cs hx h1=>exact .tuple l cs hx λi v x hv hx=>hl v (Zc0 hv) _ _ _ _ _ (h1 i v x hv hx)
theorem bM.agg{l:List AV}(hl:∀v∈l,bM v):bM (.agg l):=λ_ _ _ _ _ h=>by
 cases h with|agg _ cs hx h1=>exact .agg l cs hx λi v x hv hx=>hl v (Zc0 hv) _ _ _ _ _ (h1 i v x hv hx)
theorem bM.func(f:FuncId){a b:List AV}(ha:∀v∈a,bM v)(hb:∀v∈b,bM v):bM (.func f a b):=λ_ _ _ _ _ h=>by
 cases h with
 |func _ _ _ a' b' hx hy h1 h2=>exact .func f a b a' b' hx hy (λi v x hv hx=>ha v (Zc0 hv) _ _ _ _ _ (h1 i v x hv hx)) (λi v x hv hx=>hb v (Zc0 hv) _ _ _ _ _ (h2 i v x hv hx))
def KB:AB->Prop
 | .cells cs _=>∀v∈cs,bM v
 | .map es _=>∀e∈es,bM e.1/\bM e.2.1
theorem KB.rel{x:AB}(h:KB x){ρ:Pos->Loc}{n:Nat}{C C':Cells}{L:Loc}{w:World}(k:tW ρ n C L w x):tW ρ n C' L w x:=by
 cases x with
 |cells cs fz=>
  obtain⟨c,e,fr,h1,h2,h3,h4,h5⟩:=k;exact⟨c,e,fr,h1,h2,h3,⟨h4.1,λi v x hv hx=>h v (Zc0 hv) _ _ _ _ _ (h4.2 i v x hv hx)⟩,h5⟩
 |map es clock=>
  obtain⟨es',h1,h2,h3⟩:=k;exact⟨es',h1,h2,λi e e' he su=>let⟨a,b,c⟩:=h3 i e e' he su;⟨(h e (Zc0 he)).1 _ _ _ _ _ a,(h e (Zc0 he)).2 _ _ _ _ _ b,c⟩⟩
def T.both{α:Type}:T α->T α->T α
 |t,.e=>t
 | .e,t=>t
 | .n l v r,.n l' v' r'=> .n (T.both l l') (v.or v') (T.both r r')
theorem T.am5{α:Type}(t:T α):T.both t .e=t:=by cases t<;>rfl
theorem T.FQ{α:Type}:∀(p:Pos)(t t':T α),(T.both t t').get p=(t.get p).or (t'.get p)
 |p,t,.e=>by rw[T.am5,T.dW];simp
 |p,.e,.n l v r=>by rw[T.dW];rfl
 | .h,.n l v r,.n l' v' r'=>rfl
 | .o p,.n l v r,.n l' v' r'=>T.FQ p l l'
 | .i p,.n l v r,.n l' v' r'=>T.FQ p r r'
def T.keep{α:Type}(P:α->Bool):T α->T α
 | .e=> .e
 | .n l v r=> .n (T.keep P l) (v.filter P) (T.keep P r)
theorem T.R6{α:Type}(P:α->Bool):∀(p:Pos)(t:T α),(T.keep P t).get p=(t.get p).filter P
 |p,.e=>by rw[T.keep,T.dW];rfl
 | .h,.n l v r=>rfl
 | .o p,.n l v r=>T.R6 P p l
 | .i p,.n l v r=>T.R6 P p r
open Classical in
noncomputable def Dc(t:T AB):T AB:=T.keep (λx=>decide (KB x)) t
theorem aeO{t:T AB}{p:Pos}{x:AB}(h:(Dc t).get p=some x):t.get p=some x/\KB x:=by
 unfold Dc at h;rw[T.R6]at h;cases hg:t.get p with
 |none=>rw[hg]at h;cases h
 |some y=>
  rw[hg]at h;simp only[Option.filter]at h;split at h
  . rename_i hb;cases h;exact⟨rfl,@Zf7 _ (Classical.propDecidable _) hb⟩
  . cases h
theorem am6{t:T AB}{p:Pos}{x:AB}(h:t.get p=some x)(hb:KB x):(Dc t).get p=some x:=by
 unfold Dc;rw[T.R6,h];simp[Option.filter,hb]
theorem arZ:Dc .e= .e:=rfl
def Shut(n0:Pos)(r:AV×St):Prop:=bM r.1/\n0.toNat<=r.2.next.toNat
open Classical in
noncomputable def Wn(call:aj)(f:FuncId)(d:Nat):List AV->St->Option (AV×St):=λargs st=>
 match call f (args.map (fW st d)) { heap:= .e,next:=st.next }with
 |some (v,bE)=>if Shut st.next (v,bE)then some (v,{ heap:=T.both st.heap (Dc bE.heap),next:=bE.next })else none
 |none=>none
theorem aj5{call:aj}{f:FuncId}{d:Nat}{args:List AV}{st:St}{v:AV}{bE:St}(h:call f (args.map (fW st d)) { heap:= .e,next:=st.next }=some (v,bE))(hs:Shut st.next (v,bE)):
  Wn call f d args st=some (v,{ heap:=T.both st.heap (Dc bE.heap),next:=bE.next }):=by
 unfold Wn;rw[h];simp only;rw[Zb2 hs]
theorem apz{call:aj}{f:FuncId}{d:Nat}{args:List AV}{st:St}{v:AV}(h:call f (args.map (fW st d)) { heap:= .e,next:=st.next }=some (v,{ heap:= .e,next:=st.next }))(hs:bM v):
  Wn call f d args st=some (v,st):=by
 rw[aj5 h ⟨hs,Za3 _⟩];simp only[arZ,T.am5]
theorem apA {P:Program}{C:Cells}{f:FuncId}{call:aj}{d:Nat}(dc:∀C':Cells,(∀ad u,C ad=some u->C' ad=some u)->iX P C' call):tZ P C f (Wn call f d) where
 mono args st v st' h:=by
  unfold Wn at h;split at h
  . split at h
    .   rename_i hs;simp only[H5,Zd0]at h;rw[<-h.2];exact hs.2
    .   cases h
  . cases h
 runs ρ st  w args v st' cQ h hW hv:=by
  unfold Wn at h;split at h
  . rename_i v1 bE hc;split at h
    .   rename_i hs;simp only[H5,Zd0]at h;obtain⟨rfl,rfl⟩:=h;obtain⟨s1,s3⟩:=hs;have hr:=dc (λad=>w.cell? ad) (λad u ha=>(hW.eI ad u ha).1) ρ { heap:= .e,next:=st.next } w f _ v1 bE cQ hc (GN (λad u ha=>ha) λa u _ o ho=>ho) (aL.fW hW d hv);refine Reaches.mono (λx w' he=> ?_) hr
        . obtain⟨ρ',h1,h2,h3,h4,hE⟩:=he;have un:∀k,k<w.heap.size->w'.heap[k]? =w.heap[k]? :=λk hk=>hE.block k hk λb x hb=>by rw[T.dW]at hb;cases hb
          have new:∀b x,bE.heap.get b=some x->w.heap.size<=(ρ' b).aN:=λb x hx=>by
            rcases hE.ym b x hx with⟨b',x',e8,_⟩|hh
            . rw[T.dW]at e8;cases e8
            . exact hh
          have both:∀b x,(T.both st.heap (Dc bE.heap)).get b=some x->(st.heap.get b=some x/\ρ' b=ρ b)\/(bE.heap.get b=some x/\KB x):=λb x hx=>by
            rw[T.FQ]at hx;cases hg:st.heap.get b with
            |none=>rw[hg]at hx;exact .inr (aeO (by simpa using hx))
            |some y=>rw[hg]at hx;simp at hx;subst hx;exact .inl ⟨rfl,h2 b (hW.live b y hg).1⟩
          refine⟨ρ',s1 _ _ _ _ _ h1,h2,s3,⟨λb x hx=> ?_,λb b' x x' hx wO zK=> ?_,λa u ha=> ?_,λa u ha o ho=> ?_⟩,⟨hE.os,hE.tape,hE.output,hE.size,λk hk _=>un k hk,λb x hx=> ?_⟩⟩
          . rcases both b x hx with⟨hg,bF⟩|⟨hg,agd⟩
            . obtain⟨l1,l2,l3⟩:=hW.live b x hg;refine⟨Zc7 l1 s3,by rw[bF];exact Zc7 l2 hE.size,?_⟩;rw[bF];exact(l3.of_heap (un _ l2)).mono h2 s3
            . obtain⟨l1,l2,l3⟩:=h4.live b x hg;exact⟨l1,l2,agd.rel l3⟩
          . rcases both b x hx with⟨hg,bF⟩|⟨hg,agd⟩
            . rcases both b' x' wO with⟨CP,FL⟩|⟨CP,_⟩
              . rw[bF,FL]at zK;exact hW.inj b b' x x' hg CP zK
              . have q1:=(hW.live b x hg).2.1;have q2:=new b' x' CP;rw[bF]at zK;omega
            . rcases both b' x' wO with⟨CP,FL⟩|⟨CP,_⟩
              . have q1:=(hW.live b' x' CP).2.1;have q2:=new b x hg;rw[FL]at zK;omega
              . exact h4.inj b b' x x' hg CP zK
          . obtain⟨c1,c2⟩:=hW.eI a u ha;have aT:a.block<w.heap.size:=World.block_lt_of_cell? _ _ c1;refine⟨(h4.eI a u c1).1,λb x hx=> ?_⟩;rcases both b x hx with⟨hg,bF⟩|⟨hg,agd⟩
            . rw[bF];exact c2 b x hg
            . have:=new b x hg;omega
          . have aT:a.block<w.heap.size:=World.block_lt_of_cell? _ _ (hW.eI a u ha).1;rw[World.cell?_of_block (w:=w) (a:=⟨a.block,o,none⟩) (un _ aT)];exact hW.whole a u ha o ho
          . rcases both b x hx with⟨hg,bF⟩|⟨hg,agd⟩
            . exact .inl ⟨b,x,hg,by rw[bF]⟩
            . exact .inr (new b x hg)
    .   cases h
  . cases h
theorem aj6(H:Pos->Option AB)(n:Pos)(k k':IntKind)(a b:Int):aH.run H n .minB [.int k a,.int k' b]=some (.val (.int k (min a b))):=by
 show some (eR.val (.int k (match Bj b a with|true=>b|false=>a)))=_;rw[fo];by_cases h:b<a
 . rw[Za0 h];simp only;rw[Int.min_eq_right (by omega)]
 . rw[Za1 h];simp only;rw[Int.min_eq_left (by omega)]
theorem ar0(H:Pos->Option AB)(n:Pos)(k k':IntKind)(a b:Int):aH.run H n .maxB [.int k a,.int k' b]=some (.val (.int k (max a b))):=by
 show some (eR.val (.int k (match Bj a b with|true=>b|false=>a)))=_;rw[fo];by_cases h:a<b
 . rw[Za0 h];simp only;rw[Int.max_eq_right (by omega)]
 . rw[Za1 h];simp only;rw[Int.max_eq_left (by omega)]
theorem ar1(H:Pos->Option AB)(n:Pos)(q:gP)(k:IntKind)(a b:Int)(hb:b≠0):aH.run H n (.bin .quo q) [.int k a,.int k b]=some (.val (.int k (av k (a.tdiv b)))):=by
 simp[aH.run,jr,pL,dK,mZ,hb]
theorem ar2(H:Pos->Option AB)(n:Pos)(q:gP)(k:IntKind)(a b:Int)(hb:b≠0):aH.run H n (.bin .rem q) [.int k a,.int k b]=some (.val (.int k (a.tmod b))):=by
 simp[aH.run,jr,pL,dK,mZ,hb]
section
variable{R : Type}(c : aj)(K : AV -> St -> Option R)(st : St)
@[simp] theorem aj7(k k':IntKind)(a b:Int):aq c .minB [.int k a,.int k' b] st K=K (.int k (min a b)) st:=aU c K (λH n=>aj6 H n k k' a b) st
@[simp] theorem avC(k k':IntKind)(a b:Int):aq c .maxB [.int k a,.int k' b] st K=K (.int k (max a b)) st:=aU c K (λH n=>ar0 H n k k' a b) st
theorem ar3(q:gP)(k:IntKind)(a b:Int)(hb:b≠0):aq c (.bin .quo q) [.int k a,.int k b] st K=K (.int k (av k (a.tdiv b))) st:=aU c K (λH n=>ar1 H n q k a b hb) st
theorem adI(q:gP)(k:IntKind)(a b:Int)(hb:b≠0):aq c (.bin .rem q) [.int k a,.int k b] st K=K (.int k (a.tmod b)) st:=aU c K (λH n=>ar2 H n q k a b hb) st
@[simp] theorem ot(q:gP)(k:IntKind)(a:Int):aq c (.bin .quo q) [.int k a,.int k 2] st K=K (.int k (av k (a.tdiv 2))) st:=ar3 c K st q k a 2 (by decide)
@[simp] theorem gU(q:gP)(k:IntKind)(a:Int):aq c (.bin .rem q) [.int k a,.int k 2] st K=K (.int k (a.tmod 2)) st:=adI c K st q k a 2 (by decide)
end
def aM:AV->Option Pos
 | .slice b _ n cap _=>if cap=some 0/\n=0 then none else some b
 |_=>none
theorem tE{b b':Pos}{off n es:Nat}{cap:Option Nat}(h:aM (.slice b off n cap es)=some b'):b=b':=by
 simp only[aM]at h;split at h
 . cases h
 . exact Zi7 h
theorem qJ(b:Pos)(off n es:Nat):aM (.slice b off n none es)=some b:=by simp[aM]
theorem lS(b:Pos)(off es:Nat):aM (.slice b off 0 (some 0) es)=none:=by simp[aM]
def QS(es:Nat)(s:St)(v:AV)(rows:List (List AV)):Prop:=
 (v= .af/\rows=[])\/(∃b off cap cs,v= .slice b off rows.length cap es/\s.heap.get b=some (.cells cs 0)/\off+rows.length*es<=cs.length/\(cs.drop off).take (rows.length*es)=rows.flatten/\(cap=none\/cap=some rows.length))\/
    (∃b off,v= .slice b off 0 (some 0) es/\rows=[])
theorem QS.nil{es:Nat}{s:St}:QS es s .af []:= .inl ⟨rfl,rfl⟩
theorem QS.mono{es:Nat}{s s':St}{v:AV}{rows:List (List AV)}(h:QS es s v rows)(hk:∀b x,aM v=some b->s.heap.get b=some x->s'.heap.get b=some x):QS es s' v rows:=by
 rcases h with⟨rfl,rfl⟩|⟨b,off,cap,cs,rfl,h1,h2,h3,h4⟩|⟨b,off,rfl,rfl⟩
 . exact .inl ⟨rfl,rfl⟩
 . by_cases h0:cap=some 0/\rows.length=0
   . obtain⟨rfl,h0⟩:=h0;refine .inr (.inr ⟨b,off,by rw[h0],Zc4 h0⟩)
   . exact .inr (.inl ⟨b,off,cap,cs,rfl,hk b _ (by simp only[aM];rw[Za7 h0]) h1,h2,h3,h4⟩)
 . exact .inr (.inr ⟨b,off,rfl,rfl⟩)
theorem QS.len{es:Nat}{s:St}{v:AV}{rows:List (List AV)}(h:QS es s v rows):eV v=some rows.length:=by rcases h with⟨rfl,rfl⟩|⟨b,off,cap,cs,rfl,_⟩|⟨b,off,rfl,rfl⟩<;>rfl
theorem QS.lt{es:Nat}{s:St}{v:AV}{rows:List (List AV)}(h:QS es s v rows)(hw:Wf s){b:Pos}(hb:aM v=some b):b.toNat<s.next.toNat:=by
 rcases h with⟨rfl,rfl⟩|⟨b',off,cap,cs,rfl,h1,_⟩|⟨b',off,rfl,rfl⟩
 . cases hb
 . obtain rfl:=tE hb;exact hw _ _ h1
 . rw[lS]at hb;cases hb
theorem QS.first{es:Nat}{s:St}{v:AV}{rows:List (List AV)}(h:QS es s v rows)(hr:∀r∈rows,r.length=es):dL es rows.length (λb=>s.heap.get b) v=some rows.flatten:=by
 rcases h with⟨rfl,rfl⟩|⟨b,off,cap,cs,rfl,h1,h2,h3,h4⟩|⟨b,off,rfl,rfl⟩
 . rfl
 rotate_left
 . simp[dL,dB]
 . by_cases h0:rows.length*es=0
   . simp only[dL,dB,Za0 h0];have:rows.flatten=[]:=(by rw[<-h3,h0];simp);rw[this]
   . simp only[dL,dB,Za1 h0,h1];unfold cut;rw[dz,Za0 h2];simp only;rw[h3]
theorem QS.app{R:Type}{c:aj}{es bytes:Nat}{s:St}{v:AV}{rows:List (List AV)}(hw:Wf s)(h:QS es s v rows)(hr:∀r∈rows,r.length=es){q:Pos}{row:List AV}(hq:s.heap.get q=some (.cells row 0))(gG:row.length=es)(h1:aS row=true)
   (eD:es≠0) (hb:(2*(rows.length+1)+768)*bytes<=281474976710656) (hn:rows.length<=4000000):
   ∃ s5,(∀(K:AV->St->Option R),aq c (.append es bytes) [v,.slice q 0 1 (some 1) es] s K=K (.slice s.next 0 (rows.length+1) none es) s5)/\QS es s5 (.slice s.next 0 (rows.length+1) none es) (rows++[row])/\
     Wf s5/\s5.next=s.next.succ/\(∀p,aM v≠some p->p.toNat<s.next.toNat->s5.heap.get p=s.heap.get p)/\s5.heap.get s.next=some (.cells (rows.flatten++row) 0):=by
 have hx:dL es 1 (λb=>s.heap.get b) (.slice q 0 1 (some 1) es)=some row:=by simp only[dL,dB,Zo9,Za1 eD,hq];exact cW gG
 have ho:=h.first hr;have hlen:rows.flatten.length=rows.length*es:=by
   clear h ho hn hb;induction rows with
   |nil=>simp
   | cons r rows ih=>
     have:=ih (λx hx=>hr x (Za9 _ hx));have h2:=hr r (by simp);simp only[Zf6,Ze3,Zc6,Zg4];omega
 have new:∀(s5:St),s5.heap.get s.next=some (.cells (rows.flatten++row) 0)->QS es s5 (.slice s.next 0 (rows.length+1) none es) (rows++[row]):=λs5 hs=>by
   refine .inr (.inl ⟨s.next,0,none,rows.flatten++row,by simp,hs,?_,?_,.inl rfl⟩)
   . simp only[Ze3,Zc6,Zi8,Zb4,Zj4,Zo9,hlen,gG];omega
   . simp only[Ze2,List.flatten_append,Zf6,List.flatten_nil,Zd9];refine Zf9 ?_;simp only[Ze3,Zc6,Zi8,Zb4,Zj4,Zo9,hlen,gG];omega
 have xT:(2*(rows.length+1)+768)*bytes<=281474976710656:=hb;have uu:rows.length+1<=9223372036854775807:=by omega
 rcases h with⟨rfl,rfl⟩|⟨b,off,cap,cs,rfl,g1,g2,g3,g4⟩|⟨b,off,rfl,rfl⟩
 rotate_right
 . have run:aH.run (λb=>s.heap.get b) s.next (.append es bytes) [.slice b off 0 (some 0) es,.slice q 0 1 (some 1) es]=some (.bh (.slice s.next 0 (0+1) none es) none none (some (.cells ([]++row) 0))):=(by have h2:¬(0+1<=0):=(by omega);have VL:dL es 0 (λb=>s.heap.get b) (.slice b off 0 (some 0) es)=some []:=(by simp[dL,dB]);simp only[aH.run,lF];rw[show eV (.slice b off 0 (some 0) es)=some 0 from rfl,show eV (.slice q 0 1 (some 1) es)=some 1 from rfl];have Z4:(2*(0+1)+768)*bytes<=281474976710656:=(by simpa using hb);simp only[dz,dB,Za0 Z4,Za1 h2,hx,VL];simp);refine⟨ah s (.cells row 0),λK=> ?_,?_,bG hw,rfl,λp _ hp=>wY hp,by simpa using aA s (.cells row 0)⟩
   . unfold aq cL;simp only[Zi8]at run ⊢; rw[run];rfl
   . simpa using new (ah s (.cells row 0)) (by simpa using aA s (.cells row 0))
 . refine⟨ah s (.cells row 0),λK=>ahe c K (m:=1) rfl (by omega) (by simpa using hb) (by omega) hx,?_,bG hw,rfl,λp _ hp=>wY hp,by simpa using aA s (.cells row 0)⟩;simpa using new (ah s (.cells row 0)) (by simpa using aA s (.cells row 0))
 . rcases g4 with rfl|rfl
   . have run:aH.run (λb=>s.heap.get b) s.next (.append es bytes) [.slice b off rows.length none es,.slice q 0 1 (some 1) es]=some (.bh (.slice s.next 0 (rows.length+1) none es) (some b) none (some (.cells (rows.flatten++row) (0 - off)))):=(by simp only[aH.run,lF];rw[show eV (.slice b off rows.length none es)=some rows.length from rfl,show eV (.slice q 0 1 (some 1) es)=some 1 from rfl];simp only[dz,dB,Za0 xT,Za0 uu,hx,g1,ho,h1];simp);refine⟨dst s b (.cells (rows.flatten++row) 0),λK=> ?_,new _ (adG _ _ _),am1 hw,rfl,λp hp hl=>ace (λe=>hp (by rw[e,qJ])) hl,adG _ _ _⟩;unfold aq cL;rw[run];simp only[Nat.zero_sub];rfl
   . have h2:¬(rows.length+1<=rows.length):=(by omega);have run:aH.run (λb=>s.heap.get b) s.next (.append es bytes) [.slice b off rows.length (some rows.length) es,.slice q 0 1 (some 1) es]=some (.bh (.slice s.next 0 (rows.length+1) none es) none none (some (.cells (rows.flatten++row) 0))):=by
        simp only[aH.run,lF];rw[show eV (.slice b off rows.length (some rows.length) es)=some rows.length from rfl,show eV (.slice q 0 1 (some 1) es)=some 1 from rfl];simp only[dz,dB,Za0 xT,Za0 uu,Za1 h2,hx,ho]
     refine⟨ah s (.cells (rows.flatten++row) 0),λK=> ?_,new _ (aA _ _),bG hw,rfl,λp _ hp=>wY hp,aA _ _⟩;unfold aq cL;rw[run];rfl
theorem KU{R:Type}{c:aj}{es:Nat}{z:List AV}{x:AV}(hz:z.length=es)(hx:x.cells.length=es)(s:St)(K:AV->St->Option R):
  aq c (.buildSlice es 1 z [0]) [x] s K=K (.slice s.next 0 1 (some 1) es) (ah s (.cells x.cells 0)):=by
 have:cF (bX z 1) ([0].map λi=>(i*es,es)) [x]=some x.cells:=by
  simp only[Zd6,Zi1,Zn7,bX,Zd9,cF,dB,dz,hx,Zh2,Zb4,hz,Za3];simp only[aX,Zp9,Ze1,Zb4];rw[Zl4 (by omega),Zd9]
 rw[au,this];rfl
structure Mk(es:Nat)(s0 s:St)(v:AV)(rows:List (List AV)):Prop where
 jJ:Wf s0
 ai:Grew s0 s
 own:QS es s v rows
 new:∀b,aM v=some b->s0.next.toNat<=b.toNat
 row:∀r∈rows,r.length=es
 cap:∀b off n cp e,v= .slice b off n cp e->cp=none\/(n=0/\cp=some 0)
 tight:∀b,aM v=some b->s.heap.get b=some (.cells rows.flatten 0)
theorem Mk.start{es:Nat}{s0 s:St}(h0:Wf s0)(hg:Grew s0 s):Mk es s0 s .af []:=⟨h0,hg,QS.nil,λb h=>(by cases h),λr h=>(by cases h),λb off n cp e h=>(by cases h),λb h=>(by cases h)⟩
theorem Mk.grow{es:Nat}{s0 s s':St}{v:AV}{rows:List (List AV)}(h:Mk es s0 s v rows)(hg:Grew s s'):Mk es s0 s' v rows:=
 ⟨h.jJ,h.ai.trans hg,h.own.mono λb x _ hx=>hg.get hx,h.new,h.row,h.cap,λb hb=>hg.get (h.tight b hb)⟩
theorem Mk.push{R:Type}{c:aj}{es bytes:Nat}{s0 s:St}{v:AV}{rows:List (List AV)}(h:Mk es s0 s v rows){z:List AV}{x:AV}(hz:z.length=es)(hx:x.cells.length=es)(h1:aS x.cells=true)(eD:es≠0)
   (hb:(2*(rows.length+1)+768)*bytes<=281474976710656) (hn:rows.length<=4000000):
   ∃ s5 v',(∀(K:AV->St->Option R),aq c (.buildSlice es 1 z [0]) [x] s (λy t=>aq c (.append es bytes) [v,y] t K)=K v' s5)/\Mk es s0 s5 v' (rows++[x.cells])/\
     (∀p b,aM v≠some p->s.heap.get p=some b->s5.heap.get p=some b)/\∀b,aM v'=some b->s.next.toNat<=b.toNat:=by
 have hw:=h.ai.wf;have cV:Wf (ah s (.cells x.cells 0)):=bG hw;have g1:=Grew.ah hw (.cells x.cells 0);obtain⟨s5,a1,a2,a3,a4,a5,a6⟩:=QS.app (R:=R) (c:=c) (bytes:=bytes) cV (h.own.mono λb x _ hx=>g1.get hx) h.row (aA s (.cells x.cells 0)) hx h1 eD hb hn;have keep:∀p b,aM v≠some p->s.heap.get p=some b->s5.heap.get p=some b:=λp b hp hg=>by have aT:=hw _ _ hg;rw[a5 p hp (by rw[bQ,Pos.aF];omega)];exact g1.get hg
 refine⟨s5,_,λK=> ?_,⟨h.jJ,⟨a3,λp b hg=> ?_,?_⟩,a2,λb hb=> ?_,λr hr=> ?_,λb off n cp e he=> ?_,λb hb=> ?_⟩,keep,λb hb=> ?_⟩
 . rw[KU hz hx,a1]
 . have C9:=h.ai.get hg;refine keep p b (λe=> ?_) C9;have:=h.new p e;have:=h.jJ p b hg;omega
 . have:=h.ai.next;rw[a4,bQ,Pos.aF,Pos.aF];omega
 . rw[qJ]at hb;cases hb;have:=h.ai.next;rw[bQ,Pos.aF];omega
 . rcases Zd8.1 hr with hr|hr
   . exact h.row r hr
   . simp at hr;subst hr;exact hx
 . cases he;exact .inl rfl
 . rw[qJ]at hb;cases hb;rw[a6];simp
 . rw[qJ]at hb;cases hb;rw[bQ,Pos.aF];omega
theorem Dd{b:Pos}{off n es:Nat}(h:Plain (.slice b off n none es)):False:=by
 have h1:aD (λ_=>⟨0,0,off+n*es⟩) (b.toNat+1) (λ_=>none) (.slice b off n none es) (.slice (some ⟨0,0+off,none⟩) n n):=
  .slice b off n none es n _ (Za3 _) (λc hc=>by cases hc) (λ_=>⟨by omega,rfl,by simp⟩) (λ_=>by omega)
 have h2:=h _ (λ_=>⟨0,0,0⟩) _ 0 _ _ h1;cases h2 with
 |slice _ _ _ _ _ _ _ _ _ _ hk=>exact absurd (hk rfl) (by omega)
theorem Mk.tidy{es:Nat}{s s':St}{v:AV}{rows:List (List AV)}(h:Mk es s s' v rows):∃fP,Go.Ai.tidy s (v,s')=(v,fP)/\Mk es s fP v rows:=by
 unfold Go.Ai.tidy;by_cases hp:Plain (v,s').1/\aW s (v,s').2
 . rw[Zb2 hp];refine⟨s,rfl,?_⟩;rcases h.own with⟨rfl,rfl⟩|⟨b,off,cap,cs,rfl,_⟩|⟨b,off,rfl,rfl⟩
   . exact Mk.start h.jJ (Grew.refl h.jJ)
   . rcases h.cap _ _ _ _ _ rfl with rfl|⟨h0,rfl⟩
     . exact(Dd hp.1).elim
     . exact⟨h.jJ,Grew.refl h.jJ,.inr (.inr ⟨b,off,by rw[h0],Zc4 h0⟩),λb hb=>(by rw[h0,lS]at hb;cases hb),h.row,h.cap,λb hb=>(by rw[h0,lS]at hb;cases hb)⟩
   . exact⟨h.jJ,Grew.refl h.jJ,.inr (.inr ⟨b,off,rfl,rfl⟩),λb hb=>(by rw[lS]at hb;cases hb),h.row,h.cap,λb hb=>(by rw[lS]at hb;cases hb)⟩
 . rw[Za7 hp];exact⟨s',rfl,h⟩
theorem QS.fW{es d:Nat}{s:St}{v:AV}{rows:List (List AV)}(h:QS es s v rows)(hr:∀r∈rows,r.length=es):
   ∃z,Go.Ai.fW s (d+1) v=ro es z (rows.map λr=>r.map (Go.Ai.fW s d)):=by
 rcases h with⟨rfl,rfl⟩|⟨b,off,cap,cs,rfl,h1,h2,h3,h4⟩|⟨b,off,rfl,rfl⟩
 . exact⟨true,rfl⟩
 rotate_left
 . exact⟨false,rfl⟩
 . refine⟨false,?_⟩;by_cases h0:rows.length=0
   . obtain rfl:=Zc4 h0;rfl
   rw[aeN,Za1 h0];simp only;rw[h1];simp only[Za0 h2];show AV.fl _ _=AV.fl _ _;congr 1;(refine List.ext_getElem (by simp) λi p1 p2=> ?_);simp only[Za5,Zq5]at p1;simp only[Zo3,List.getElem_range];congr 1;have key:∀(rows:List (List AV))(i:Nat)(hi:i<rows.length),(∀r∈rows,r.length=es)->((rows.flatten).drop (i*es)).take es=rows[i]:=by
     intro rows;induction rows with
     |nil=>intro i hi;simp at hi
     |  cons r rows ih=>
        intro i hi hr;have hl:=hr r (by simp);cases i with
        |zero=>simp[<-hl]
        |succ i=>
         have:=ih i (by simpa using hi) (λx hx=>hr x (Za9 _ hx));rw[Zf6,Zg4,Zr0, <-hl,List.drop_append];simp only[Zn8];rw[<-this,hl];simp[List.drop_eq_nil_of_le (show r.length<=es+i*es by omega)]
   rw[<-key rows i p1 hr, <-h3];rw[Zn5,List.take_take,Zl2];congr 1;have:(i+1)*es<=rows.length*es:=Zg9 _ p1;rw[Zg4]at this;omega
section
variable{R : Type}(c : aj)(K : AV -> St -> Option R)(st : St)
theorem iy{b:Pos}{off len es es':Nat}{cap:Option Nat}{k:IntKind}{i:Nat}(h:i<len):aq c (.idxA es none) [.slice b off len cap es',.int k (i:Int)] st K=K (.ptr b (off+i*es)) st:=
 aU c K (λH n=>by
  simp only[aH.run,sP,ju];have:Nat.blt i len=true:=by rw[Zr1];exact h
  rw[this]) st
theorem kY(b:Pos)(off len es:Nat)(cap:Option Nat):aq c (.lenB .l) [.slice b off len cap es] st K=K (.int .i64 (len:Int)) st:=aU c K (λH n=>rfl) st
theorem am7{b:Pos}{off len es:Nat}{cap:Option Nat}(h:1<=len)(hc:∀x,cap=some x->len<=x):
  aq c (.sliceL es true false false) [.slice b off len cap es,.int .i64 1] st K=K (.slice b (off+1*es) (len - 1) (cap.map (· - 1)) es) st:=
 aU c K (λH n=>by
  have hb:bounds true false false [.int .i64 1]=some (some 1,none,none):=rfl;simp only[aH.run,iM,hb,dB,dz,Zh2,Zf2,Zi9,Za0 h];cases cap with
  |none=>simp
  |some x=>simp[hc x rfl]) st
theorem YG{es bytes:Nat}{z:List AV}{k k':IntKind}{n:Nat}(h1:bytes*n<=281474976710656)(h2:n<=9223372036854775807):
  aq c (.mkSlice es bytes z) [.int k (n:Int),.int k' (n:Int)] st K=K (.slice st.next 0 n (some n) es) (ah st (.cells (bX z n) 0)):=by
 have:aH.run (λb=>st.heap.get b) st.next (.mkSlice es bytes z) [.int k (n:Int),.int k' (n:Int)]=some (.bh (.slice st.next 0 n (some n) es) none none (some (.cells (bX z n) 0))):=by
  simp only[aH.run,CI,ju,dz,Za0 h1,Za0 h2,Za3,Zh2]
 unfold aq cL;rw[this];rfl
end
theorem zx{α:Type}(x:α):∀n:Nat,bX [x] n=List.replicate n x
 |0=>rfl
 |n+1=>by simp[bX,zx x n,Zm6]
theorem yE{rows:List (List AV)}{es:Nat}(hr:∀r∈rows,r.length=es):∀(i j:Nat)(r:List AV)(u:AV),rows[i]? =some r->r[j]? =some u->rows.flatten[i*es+j]? =some u:=by
 induction rows with
 |nil=>intro i j r u h;simp at h
 |cons r0 rows ih=>
  intro i j r u h1 h2;have hl:=hr r0 (by simp);cases i with
  |zero=>
   simp at h1;subst h1;have:=(Za2.1 h2).1;rw[Zf6,Zn7,Zb4,Zc3 this];exact h2
  |succ i=>
   rw[Zf6,Zc2 (by rw[Zg4];omega)];rw[show(i+1)*es+j - r0.length=i*es+j by rw[Zg4];omega];exact ih (λx hx=>hr x (Za9 _ hx)) i j r u (by simpa using h1) h2
theorem QS.at{R:Type}{c:aj}{es:Nat}{s:St}{v:AV}{rows:List (List AV)}(h:QS es s v rows)(hr:∀r∈rows,r.length=es)(eD:es≠0){i:Nat}(hi:i<rows.length):
   ∃b o cs,(∀(K:AV->St->Option R)(k:IntKind)(s1:St),aq c (.idxA es none) [v,.int k (i:Int)] s1 K=K (.ptr b o) s1)/\aM v=some b/\s.heap.get b=some (.cells cs 0)/\∀j u,rows[i][j]? =some u->cs[o+j]? =some u:=by
 rcases h with⟨rfl,rfl⟩|⟨b,off,cap,cs,rfl,g1,g2,g3,g4⟩|⟨b,off,rfl,rfl⟩
 . simp at hi
 rotate_left
 . simp at hi
 . refine⟨b,off+i*es,cs,λK k s1=>iy c K s1 hi,by simp only[aM];rw[Za7 (by omega)],g1,λj u hj=> ?_⟩;have hri:=hr rows[i] (Zb9 hi);have hj2:j<es:=(by rw[<-hri];exact(Za2.1 hj).1);have:=yE hr i j rows[i] u (H0 hi) hj;rw[<-g3,Ze0]at this;split at this
   . rw[Ze8]at this;rw[<-this];congr 1;omega
   . cases this
theorem QS.tail{R:Type}{c:aj}{es:Nat}{s:St}{v:AV}{r:List AV}{rows:List (List AV)}(h:QS es s v (r::rows))(hr:r.length=es):
   ∃v',(∀(K:AV->St->Option R)(s1:St),aq c (.sliceL es true false false) [v,.int .i64 1] s1 K=K v' s1)/\QS es s v' rows/\∀b,aM v'=some b->aM v=some b:=by
 rcases h with⟨rfl,h⟩|⟨b,off,cap,cs,rfl,g1,g2,g3,g4⟩|⟨b,off,rfl,h⟩
 . cases h
 rotate_left
 . cases h
 . refine⟨.slice b (off+1*es) rows.length (cap.map (· - 1)) es,λK s1=> ?_,.inr (.inl ⟨b,off+1*es,cap.map (· - 1),cs,rfl,g1,?_,?_,?_⟩),λb' hb=>by
     obtain rfl:=tE hb;simp only[aM,Zc6];rw[Za7 (by omega)]⟩
   . rw[am7 c K s1 (by simp) (λx hx=>by rcases g4 with rfl|rfl<;>cases hx;exact Za3 _)];simp
   . simp only[Zc6,Zg4]at g2;omega
   . have:((cs.drop off).take ((r::rows).length*es)).drop es=rows.flatten:=(by rw[g3,Zf6, <-hr];simp);rw[<-this,Zn5,Zl2];congr 1
     . simp only[Zc6,Zg4];omega
     . congr 1;omega
   . rcases g4 with rfl|rfl
     . exact .inl rfl
     . right;simp
theorem QS.arp{R:Type}{c:aj}{es bytes:Nat}{s:St}{v:AV}{rows:List (List AV)}(hw:Wf s)(h:QS es s v rows)(hr:∀r∈rows,r.length=es){z:List AV}{x:AV}(hz:z.length=es)(hx:x.cells.length=es)(h1:aS x.cells=true)(eD:es≠0)
   (hb:(2*(rows.length+1)+768)*bytes<=281474976710656) (hn:rows.length<=4000000):
   ∃s5 v',(∀(K:AV->St->Option R),aq c (.buildSlice es 1 z [0]) [x] s (λy t=>aq c (.append es bytes) [v,y] t K)=K v' s5)/\QS es s5 v' (rows++[x.cells])/\Wf s5/\s.next.toNat<=s5.next.toNat/\
    (∀p b,aM v≠some p->s.heap.get p=some b->s5.heap.get p=some b)/\(∀b,aM v'=some b->s.next.toNat<=b.toNat)/\∀b,aM v'=some b->s5.heap.get b=some (.cells (rows.flatten++x.cells) 0):=by
 have cV:Wf (ah s (.cells x.cells 0)):=bG hw;have g1:=Grew.ah hw (.cells x.cells 0);obtain⟨s5,a1,a2,a3,a4,a5,a6⟩:=QS.app (R:=R) (c:=c) (bytes:=bytes) cV (h.mono λb x _ hx=>g1.get hx) hr (aA s (.cells x.cells 0)) hx h1 eD hb hn;refine⟨s5,_,λK=>by rw[KU hz hx,a1],a2,a3,by rw[a4,bQ,Pos.aF,Pos.aF];omega,λp b hp hg=> ?_,λb hb=> ?_,λb hb=> ?_⟩
 . have aT:=hw _ _ hg;rw[a5 p hp (by rw[bQ,Pos.aF];omega)];exact g1.get hg
 . rw[qJ]at hb;cases hb;rw[bQ,Pos.aF];omega
 . rw[qJ]at hb;cases hb;exact a6
theorem QS.push{R:Type}{c:aj}{es bytes:Nat}{s:St}{v:AV}{rows:List (List AV)}(hw:Wf s)(h:QS es s v rows)(hr:∀r∈rows,r.length=es){z:List AV}{x:AV}(hz:z.length=es)(hx:x.cells.length=es)(h1:aS x.cells=true)(eD:es≠0)
  (hb:(2*(rows.length+1)+768)*bytes<=281474976710656) (hn:rows.length<=4000000):
  ∃s5 v',(∀(K:AV->St->Option R),aq c (.buildSlice es 1 z [0]) [x] s (λy t=>aq c (.append es bytes) [v,y] t K)=K v' s5)/\QS es s5 v' (rows++[x.cells])/\Wf s5/\s.next.toNat<=s5.next.toNat/\
   (∀p b,aM v≠some p->s.heap.get p=some b->s5.heap.get p=some b)/\∀b,aM v'=some b->s.next.toNat<=b.toNat:=by
 obtain⟨s5,v',a1,a2,a3,a4,a5,a6,_⟩:=QS.arp (R:=R) (c:=c) (bytes:=bytes) hw h hr hz hx h1 eD hb hn;exact⟨s5,v',a1,a2,a3,a4,a5,a6⟩
theorem QS.lenB{R:Type}{c:aj}{es:Nat}{s:St}{v:AV}{rows:List (List AV)}(h:QS es s v rows)(K:AV->St->Option R)(s1:St):aq c (.lenB .l) [v] s1 K=K (.int .i64 (rows.length:Int)) s1:=by
 rcases h with⟨rfl,rfl⟩|⟨b,off,cap,cs,rfl,_⟩|⟨b,off,rfl,rfl⟩
 . exact aU c K (λH n=>rfl) s1
 . exact kY c K s1 _ _ _ _ _
 . exact kY c K s1 _ _ _ _ _
def dY(v:AV):Prop:=∃N0 K0:Nat,∀N K:Nat,N0<=N->K0<=K->∃x,aD (λ_=>⟨0,0,K⟩) N (λ_=>none) v x
theorem dY.int(k:IntKind)(i:Int):dY (.int k i):=⟨0,0,λ_ _ _ _=>⟨_,.int k i⟩⟩
theorem dY.bool(b:Bool):dY (.bool b):=⟨0,0,λ_ _ _ _=>⟨_,.bool b⟩⟩
theorem dY.af:dY .af:=⟨0,0,λ_ _ _ _=>⟨_,.af⟩⟩
theorem dY.str{s:List Nat}(h:∀x∈s,x<256):dY (.str s):=⟨0,0,λ_ _ _ _=>⟨.string ⟨(s.map UInt8.ofNat).toArray⟩,.str s _ (by
 show(s.map UInt8.ofNat).toArray.toList.map UInt8.toNat=s;simp only[Zh7]
 conv=>rhs;rw[<-Zr9 s]
 refine Zj3 λc hc=> ?_
 have:=h c hc;simp[UInt8.toNat_ofNat];omega)⟩⟩
theorem dY.slice(b:Pos)(off n es:Nat):dY (.slice b off n none es):=⟨b.toNat+1,off+n*es,λN K hN hK=>⟨.slice (some ⟨0,0+off,none⟩) n n,
 .slice b off n none es n _ (Za3 _) (λc hc=>by cases hc) (λ_=>⟨by omega,rfl,by simpa using hK⟩) (λ_=>by omega)⟩⟩
theorem dY.zero(b:Pos)(off es:Nat):dY (.slice b off 0 (some 0) es):=⟨0,0,λN K _ _=>⟨.slice (some ⟨0,0,none⟩) 0 0,
 .slice b off 0 (some 0) es 0 _ (Za3 _) (λc hc=>by cases hc;rfl) (λh=>absurd rfl h) (λh=>by cases h)⟩⟩
theorem inst_list:∀{l:List AV},(∀v∈l,dY v)->∃N0 K0:Nat,∀N K:Nat,N0<=N->K0<=K->∃xs,aL (λ_=>⟨0,0,K⟩) N (λ_=>none) l xs
 |[],_=>⟨0,0,λ_ _ _ _=>⟨[],aL.nil⟩⟩
 |v::l,h=>by
  obtain⟨N1,K1,h1⟩:=h v (by simp);obtain⟨N2,K2,h2⟩:=inst_list (λu hu=>h u (Za9 _ hu));refine⟨max N1 N2,max K1 K2,λN K hN hK=> ?_⟩;obtain⟨x,hx⟩:=h1 N K (by omega) (by omega);obtain⟨xs,sg⟩:=h2 N K (by omega) (by omega);exact⟨x::xs,aL.cons hx sg⟩
theorem nv{l:List AV}(hi:∀v∈l,dY v){b:Pos}{off n es:Nat}(hm:AV.slice b off n none es∈l):¬Plain (.agg l):=λh=>by
 obtain⟨N0,K0,h1⟩:=inst_list hi;obtain⟨xs,hx⟩:=h1 N0 K0 (Za3 _) (Za3 _);have h2:aD (λ_=>⟨0,0,K0⟩) N0 (λ_=>none) (.agg l) (.agg xs.toArray):= .agg l _ (by rw[hx.1];simp) λi v x hv wO=>hx.2 i v x hv (by simpa using wO)
 have h3:=h _ (λ_=>⟨0,0,0⟩) _ 0 _ _ h2;obtain⟨i,aT,hi⟩:=Zg2.1 hm;cases h3 with
 |agg _ _ hl hc=>
  have apB:i<xs.toArray.size:=by rw[<-hl];exact aT
  obtain⟨y,hy⟩:∃y,xs.toArray[i]? =some y:=⟨_,Zg6 apB⟩
  have:=hc i _ y (by rw[H0 aT,hi]) hy;cases this with
  |slice _ _ _ _ _ _ _ _ _ _ hk=>exact absurd (hk rfl) (by omega)
theorem Mk.inst{es:Nat}{s s':St}{v:AV}{rows:List (List AV)}(h:Mk es s s' v rows):dY v:=by
 rcases h.own with⟨rfl,rfl⟩|⟨b,off,cap,cs,rfl,_⟩|⟨b,off,rfl,rfl⟩
 . exact dY.af
 . rcases h.cap _ _ _ _ _ rfl with rfl|⟨h0,rfl⟩
   . exact dY.slice _ _ _ _
   . rw[h0];exact dY.zero _ _ _
 . exact dY.zero _ _ _
theorem Mk.loose{es:Nat}{s s':St}{v:AV}{rows:List (List AV)}(h:Mk es s s' v rows):(∃b off n,v= .slice b off n none es)\/((∀t,Wf t->Mk es t t v rows)/\rows=[]):=by
 rcases h.own with⟨rfl,rfl⟩|⟨b,off,cap,cs,rfl,_⟩|⟨b,off,rfl,rfl⟩
 . exact .inr ⟨λt ht=>Mk.start ht (Grew.refl ht),rfl⟩
 . rcases h.cap _ _ _ _ _ rfl with rfl|⟨h0,rfl⟩
   . exact .inl ⟨_,_,_,rfl⟩
   . exact .inr ⟨λt ht=>⟨ht,Grew.refl ht,.inr (.inr ⟨b,off,by rw[h0],Zc4 h0⟩),λb hb=>(by rw[h0,lS]at hb;cases hb),h.row,h.cap,λb hb=>(by rw[h0,lS]at hb;cases hb)⟩,Zc4 h0⟩
 . exact .inr ⟨λt ht=>⟨ht,Grew.refl ht,.inr (.inr ⟨b,off,rfl,rfl⟩),λb hb=>(by rw[lS]at hb;cases hb),h.row,h.cap,λb hb=>(by rw[lS]at hb;cases hb)⟩,rfl⟩
theorem Mk.R7{es:Nat}{s s':St}{v:AV}{rows:List (List AV)}(h:Mk es s s' v rows){l:List AV}(hm:v∈l)(hi:∀u∈l,dY u):∃fP,Go.Ai.tidy s (.agg l,s')=(.agg l,fP)/\(fP=s'\/fP=s)/\Mk es s fP v rows:=by
 unfold Go.Ai.tidy;by_cases hp:Plain (AV.agg l,s').1/\aW s (AV.agg l,s').2
 . rw[Zb2 hp];refine⟨s,rfl,.inr rfl,?_⟩;rcases h.loose with⟨b,off,n,rfl⟩|⟨hl,_⟩
   . exact absurd hp.1 (nv hi hm)
   . exact hl s h.jJ
 . rw[Za7 hp];exact⟨s',rfl,.inl rfl,h⟩
theorem Mk.cells{es:Nat}{s s':St}{v:AV}{rows:List (List AV)}(h:Mk es s s' v rows):v.cells=[v]/\aS [v]=true:=by
 rcases h.own with⟨rfl,rfl⟩|⟨b,off,cap,cs,rfl,_⟩|⟨b,off,rfl,rfl⟩<;>exact⟨rfl,rfl⟩
theorem Mk.store{es:Nat}{s s':St}{v:AV}{rows:List (List AV)}(h:Mk es s s' v rows){p:Pos}{b:AB}(hp:s.next.toNat<=p.toNat)(GH:p.toNat<s'.next.toNat)(dP:aM v≠some p):Mk es s (bk s' p b) v rows:=
 ⟨h.jJ,⟨jV h.ai.wf GH,λq x hq=>by have:=h.jJ _ _ hq;rw[aJ (λe=>by rw[e]at hp;omega)];exact h.ai.get hq,by rw[dQ];exact h.ai.next⟩,
  h.own.mono λq x hq hx=>by rw[aJ (λe=>dP (by rw[hq,e]))];exact hx,h.new,h.row,h.cap,λb hb=>by rw[aJ (λe=>dP (by rw[hb,e]))];exact h.tight b hb⟩
theorem Mk.back{es:Nat}{s0 s s':St}{v:AV}{rows:List (List AV)}(h:Mk es s s' v rows)(h0:Wf s0)(hg:Grew s0 s):Mk es s0 s' v rows:=
 ⟨h0,hg.trans h.ai,h.own,λb hb=>Zb1 hg.next (h.new b hb),h.row,h.cap,h.tight⟩
theorem zz{α:Type}(l:List α)(i:Nat)(h:i<l.length)(u:α):aX l i [u]=l.set i u:=by unfold aX;rw[Zn3,Zb2 h];simp
theorem Oi{es:Nat}:∀(rows:List (List AV)),(∀r∈rows,r.length=es)->∀(i j:Nat)(hi:i<rows.length),j<es->∀u,rows.flatten.set (i*es+j) u=(rows.set i (rows[i].set j u)).flatten
 |[],_,i,j,hi,_,_=>by simp at hi
 |r::rows,hr,i,j,hi,hj,u=>by
  have hl:=hr r (by simp);cases i with
  |zero=>
   simp only[Zn7,Zb4,Zf6,Zq0,List.getElem_cons_zero];rw[List.set_append_left _ _ (by omega)]
  |succ i=>
   simp only[Zf6,List.set_cons_succ,Zn8];rw[Zj9 _ _ (by rw[Zg4];omega)];rw[show(i+1)*es+j - r.length=i*es+j by rw[Zg4];omega];rw[Oi rows (λx hx=>hr x (Za9 _ hx)) i j (by simpa using hi) hj u]
theorem QS.set{R:Type}{c:aj}{es:Nat}{s:St}{v:AV}{rows:List (List AV)}(h:QS es s v rows)(hr:∀r∈rows,r.length=es)(eD:es≠0){i:Nat}(hi:i<rows.length):
   ∃ b o cs,(∀(K:AV->St->Option R)(k:IntKind)(s1:St),aq c (.idxA es none) [v,.int k (i:Int)] s1 K=K (.ptr b o) s1)/\(∀(K:AV->Option R)(k:IntKind),fu (.idxA es none) [v,.int k (i:Int)] K=K (.ptr b o))/\aM v=some b/\s.heap.get b=some (.cells cs 0)/\o+es<=cs.length/\(∀j u,rows[i][j]? =some u->cs[o+j]? =some u)/\
     (∀j u (s':St),j<es->s'.heap.get b=some (.cells (aX cs (o+j) [u]) 0)->QS es s' v (rows.set i (rows[i].set j u)))/\
     ∀j u,j<es->cs=rows.flatten->aX cs (o+j) [u]=(rows.set i (rows[i].set j u)).flatten:=by
 rcases h with⟨rfl,rfl⟩|⟨b,off,cap,cs,rfl,g1,g2,g3,g4⟩|⟨b,off,rfl,rfl⟩
 . simp at hi
 rotate_left
 . simp at hi
 have hri:=hr rows[i] (Zb9 hi);have hm:(i+1)*es<=rows.length*es:=Zg9 _ hi;rw[Zg4]at hm;have hx:∀(k:IntKind)(H:Pos->Option AB)(n:Pos),aH.run H n (.idxA es none) [.slice b off rows.length cap es,.int k (i:Int)]=some (.val (.ptr b (off+i*es))):=λk H n=>by
   simp only[aH.run,sP,ju];have:Nat.blt i rows.length=true:=(by rw[Zr1];exact hi);rw[this]
 refine⟨b,off+i*es,cs,λK k s1=>iy c K s1 hi,λK k=>dm K (hx k),by simp only[aM];rw[Za7 (by omega)],g1,by omega,λj u hj=> ?_,λj u s' hj hs=> ?_,λj u hj he=> ?_⟩
 . have hj2:j<es:=(by rw[<-hri];exact(Za2.1 hj).1);have:=yE hr i j rows[i] u (H0 hi) hj;rw[<-g3,Ze0]at this;split at this
   . rw[Ze8]at this;rw[<-this];congr 1;omega
   . cases this
 . rw[zz _ _ (by omega)]at hs;refine .inr (.inl ⟨b,off,cap,_,by simp,hs,by simpa using g2,?_,by simpa using g4⟩);rw[Zl6, <-Oi rows hr i j hi hj u, <-g3,List.drop_set,Za7 (by omega),List.take_set];congr 1;omega
 . have hlen:rows.flatten.length=rows.length*es:=by
     clear g2 g3 g4 hi hri hm hx g1 he;induction rows with
     |nil=>simp
     |  cons r rows ih=>
        have:=ih (λx hx=>hr x (Za9 _ hx));have h2:=hr r (by simp);simp only[Zf6,Ze3,Zc6,Zg4];omega
   have h0:off=0:=(by rw[he,hlen]at g2;omega);subst h0;rw[zz _ _ (by omega),he, <-Oi rows hr i j hi hj u];congr 1;omega
def Src(es:Nat)(s:St)(v:AV)(rows:List (List AV)):Prop:=v= .fl rows es\/QS es s v rows
theorem Src.len{es:Nat}{s:St}{v:AV}{rows:List (List AV)}(h:Src es s v rows):eV v=some rows.length:=by
 rcases h with rfl|h
 . rfl
 . exact h.len
theorem Src.mono{es:Nat}{s s':St}{v:AV}{rows:List (List AV)}(h:Src es s v rows)(hk:∀b x,aM v=some b->s.heap.get b=some x->s'.heap.get b=some x):Src es s' v rows:=h.imp id λh=>h.mono hk
theorem Src.ai{es:Nat}{s s':St}{v:AV}{rows:List (List AV)}(h:Src es s v rows)(hg:Grew s s'):Src es s' v rows:=h.mono λ_ _ _ hx=>hg.get hx
theorem Src.first{es:Nat}{s:St}{v:AV}{rows:List (List AV)}(h:Src es s v rows)(hr:∀r∈rows,r.length=es):dL es rows.length (λb=>s.heap.get b) v=some rows.flatten:=by
 rcases h with rfl|h
 . simp only[dL,dB,dz,Zh2,Za3,Zj0]
 . exact h.first hr
theorem Src.nil{es:Nat}{s:St}{v:AV}{rows:List (List AV)}(h:Src es s v rows):(v= .af/\rows=[])\/∀{R:Type}(c:aj)(K:AV->St->Option R)(t:St),aq c (.bin .eql .slice) [v,.af] t K=K (.bool false) t:=by
 rcases h with rfl|⟨rfl,rfl⟩|⟨b,off,cap,cs,rfl,_⟩|⟨b,off,rfl,rfl⟩
 . exact .inr λc K t=>aU c K (λH n=>rfl) t
 . exact .inl ⟨rfl,rfl⟩
 . exact .inr λc K t=>aU c K (λH n=>rfl) t
 . exact .inr λc K t=>aU c K (λH n=>rfl) t
theorem Src.ro{es:Nat}{s:St}(z:Bool)(rows:List (List AV)):Src es s (ro es z rows) rows:=by
 unfold Go.Ai.ro;split
 . exact .inr (.inl ⟨rfl,rfl⟩)
 . exact .inl rfl
theorem aeP{es:Nat}:∀{rows:List (List AV)},(∀r∈rows,r.length=es)->rows.flatten.length=rows.length*es
 |[],_=>by simp
 |r::rows,hr=>by have ih:=aeP (λx hx=>hr x (Za9 _ hx));have h2:=hr r (by simp);simp only[Zf6,Ze3,Zc6,Zg4];omega
theorem aeQ{es bytes:Nat}{z:List AV}{src:AV}{rows:List (List AV)}(hr:∀r∈rows,r.length=es)(_hes:es≠0)(hb:(2*rows.length+768)*bytes<=281474976710656)(hn:rows.length<=4000000){c:aj}{R:Type}(s:St)(hw:Wf s)(h:Src es s src rows):
   ∃v s',(∀(K:AV->St->Option R),aq c (.buildSlice es 0 z []) [] s (λy t=>aq c (.append es bytes) [y,src] t K)=K v s')/\Mk es s s' v rows:=by
 have bs:∀(K:AV->St->Option R),aq c (.buildSlice es 0 z []) [] s K=K (.slice s.next 0 0 (some 0) es) (ah s (.cells [] 0)):=λK=>by rw[au];rfl
 have cV:Wf (ah s (.cells [] 0)):=bG hw;have g1:=Grew.ah hw (.cells [] 0);have hl:=h.len;by_cases h0:rows.length=0
 . obtain rfl:=Zc4 h0;refine⟨.slice s.next 0 0 (some 0) es,ah s (.cells [] 0),λK=> ?_,hw,g1,.inr (.inr ⟨_,_,rfl,rfl⟩),λb hb=>(by rw[lS]at hb;cases hb),hr,λb off n cp e he=>(by cases he;exact .inr ⟨rfl,rfl⟩),λb hb=>(by rw[lS]at hb;cases hb)⟩;rw[bs,ahf c K hl (by simpa using hb) (by simp)]
 . have hx:dL es rows.length (λb=>(ah s (.cells [] 0)).heap.get b) src=some rows.flatten:=(h.ai g1).first hr;have hlen:=aeP hr;refine⟨.slice (ah s (.cells [] 0)).next 0 rows.length none es,ah (ah s (.cells [] 0)) (.cells rows.flatten 0),λK=> ?_,hw,g1.trans (Grew.ah cV _),.inr (.inl ⟨_,0,none,rows.flatten,rfl,aA _ _,by omega,?_,.inl rfl⟩),λb hb=> ?_,hr,λb off n cp e he=>(by cases he;exact .inl rfl),λb hb=>(by rw[qJ]at hb;cases hb;exact aA _ _)⟩
   . rw[bs,am3 c K (m:=rows.length) hl h0 (by simpa using hb) (by omega) hx]
   . simp only[Ze2];exact Zf9 (by omega)
   . rw[qJ]at hb;cases hb;rw[bQ,Pos.aF];omega
theorem yF{v:AV}(h:aS [v]=true):v.one=true:=by
 simp only[aS]at h;split at h
 . assumption
 . cases h
theorem TY{b:Pos}{o:Nat}{k1 k2:IntKind}{i1 i2:Int}:¬Plain (.tuple [.ptr b o,.int k1 i1,.int k2 i2]):=λh=>by
 obtain⟨x0,e0⟩:∃x,aD (λ_=>⟨0,0,0⟩) (b.toNat+1) (λ_=>none) (.ptr b o) x:=⟨_,.ptr b o (by omega)⟩
 obtain⟨x1,e1⟩:∃x,aD (λ_=>⟨0,0,0⟩) (b.toNat+1) (λ_=>none) (.int k1 i1) x:=⟨_,.int k1 i1⟩
 obtain⟨x2,e2⟩:∃x,aD (λ_=>⟨0,0,0⟩) (b.toNat+1) (λ_=>none) (.int k2 i2) x:=⟨_,.int k2 i2⟩
 have:=h (λ_=>⟨0,0,0⟩) (λ_=>⟨0,0,0⟩) (b.toNat+1) 0 (λ_=>none) _ (.tuple _ #[x0,x1,x2] rfl (λi v v' hv hx=>by
  match i with
  |0=>simp at hv hx;subst hv hx;exact e0
  |1=>simp at hv hx;subst hv hx;exact e1
  |2=>simp at hv hx;subst hv hx;exact e2
  |i+3=>simp at hv))
 cases this with
 |tuple _ _ _ h=>
  have:=h 0 _ x0 rfl rfl;cases this with
  |ptr _ _ h=>omega
theorem apC{l:List AV}{t:Bool}(h:Plain (.tuple [.agg l,.bool t])):Plain (.agg l):=λρ ρ' n n' C x hx=>by
 obtain⟨y,hy⟩:∃y,aD ρ n C (.bool t) y:=⟨_,.bool t⟩
 have:=h ρ ρ' n n' C _ (.tuple _ #[x,y] rfl (λi v v' hv wO=>by
  match i with
  |0=>simp at hv wO;subst hv wO;exact hx
  |1=>simp at hv wO;subst hv wO;exact hy
  |i+2=>simp at hv))
 cases this with
 |tuple _ _ _ h=>exact h 0 _ x rfl rfl
theorem Mk.aj8{es:Nat}{s s':St}{v:AV}{rows:List (List AV)}(h:Mk es s s' v rows){l:List AV}(hm:v∈l)(hi:∀u∈l,dY u)(t:Bool):∃fP,Go.Ai.tidy s (.tuple [.agg l,.bool t],s')=(.tuple [.agg l,.bool t],fP)/\Mk es s fP v rows:=by
 unfold Go.Ai.tidy;by_cases hp:Plain (AV.tuple [.agg l,.bool t],s').1/\aW s (AV.tuple [.agg l,.bool t],s').2
 . rw[Zb2 hp];refine⟨s,rfl,?_⟩;rcases h.loose with⟨b,off,n,rfl⟩|⟨hl,_⟩
   . exact absurd (apC hp.1) (nv hi hm)
   . exact hl s h.jJ
 . rw[Za7 hp];exact⟨s',rfl,h⟩
theorem QS.cells{es:Nat}{s:St}{v:AV}{rows:List (List AV)}(h:QS es s v rows):v.cells=[v]/\v.one=true:=by
 rcases h with⟨rfl,rfl⟩|⟨b,off,cap,cs,rfl,_⟩|⟨b,off,rfl,rfl⟩<;>exact⟨rfl,rfl⟩
abbrev ov(v:AV):List AV:=[v]
theorem ahk(l:List AV):∀r∈l.map ov,r.length=1:=λr hr=>by simp only[Zc9]at hr;obtain⟨m,_,rfl⟩:=hr;rfl
theorem age(r:List AV):(r.map ov).flatten=r:=by induction r with|nil=>rfl|cons a r ih=>rw[Zd6,Zf6,ih];rfl
structure Ow(s0 s:St)(jb:Pos)(Ls:List AV)(R:List (List AV))(I:List (AV×List (List AV))):Prop where
 jJ:Wf s0
 lt:jb.toNat<s0.next.toNat
 wf:Wf s
 next:s0.next.toNat<=s.next.toNat
 keep:∀q x,q≠jb->s0.heap.get q=some x->s.heap.get q=some x
 own:∀(i:Nat)(L:AV)(r:List AV),Ls[i]? =some L->R[i]? =some r->QS 1 s L (r.map ov)
 len:Ls.length=R.length
 new:∀L∈Ls,∀b,aM L=some b->s0.next.toNat<=b.toNat
 apart:∀(i j:Nat)(L M:AV),i≠j->Ls[i]? =some L->Ls[j]? =some M->∀b,aM L=some b->aM M≠some b
 eF:∀e∈I,QS 1 s e.1 e.2/\∀b,aM e.1=some b->b≠jb/\∀L∈Ls,aM L≠some b
 tig:∀(i:Nat)(L:AV)(r:List AV),Ls[i]? =some L->R[i]? =some r->∀b,aM L=some b->s.heap.get b=some (.cells r 0)
 itg:∀e∈I,∀b,aM e.1=some b->s.heap.get b=some (.cells e.2.flatten 0)
 inw:∀e∈I,∀b,aM e.1=some b->s0.next.toNat<=b.toNat
section
variable{s0 s s' : St}{jb : Pos}{Ls : List AV}{R : List (List AV)}{I : List (AV × List (List AV))}
theorem Ow.ai(h:Ow s0 s jb Ls R I)(g:Grew s s'):Ow s0 s' jb Ls R I:=
 ⟨h.jJ,h.lt,g.wf,Zb1 h.next g.next,λq x hq hx=>g.get (h.keep q x hq hx),λi L r h1 h2=>(h.own i L r h1 h2).mono λb x _ hx=>g.get hx,h.len,h.new,h.apart,
  λe he=>⟨(h.eF e he).1.mono λb x _ hx=>g.get hx,(h.eF e he).2⟩,λi L r h1 h2 b hb=>g.get (h.tig i L r h1 h2 b hb),λe he b hb=>g.get (h.itg e he b hb),h.inw⟩
theorem Ow.ltL(h:Ow s0 s jb Ls R I){L:AV}(hL:L∈Ls){b:Pos}(hb:aM L=some b):b.toNat<s.next.toNat:=by
 obtain⟨i,hi,rfl⟩:=Zg2.1 hL;have hr:i<R.length:=by rw[<-h.len];exact hi
 exact(h.own i _ _ (H0 hi) (H0 hr)).lt h.wf hb
theorem Ow.more(h:Ow s0 s jb Ls R I){w:AV}{rows:List (List AV)}(M:Mk 1 s s' w rows):Ow s0 s' jb Ls R ((w,rows)::I):=by
 have h2:=h.ai M.ai;refine { h2 with eF:=λe he=> ?_,itg:=λe he b hb=> ?_,inw:=λe he b hb=> ?_ }
 . rcases Zb0.1 he with rfl|he
   . refine⟨M.own,λb hb=>⟨λe=> ?_,λL hL e=> ?_⟩⟩
     . have:=M.new b hb;have:=h.next;have:=h.lt;rw[e]at *; omega
     . have:=M.new b hb;have:=h.ltL hL e;omega
   . exact h2.eF e he
 . rcases Zb0.1 he with rfl|he
   . exact M.tight b hb
   . exact h2.itg e he b hb
 . rcases Zb0.1 he with rfl|he
   . exact Zb1 h.next (M.new b hb)
   . exact h2.inw e he b hb
theorem Ow.store(h:Ow s0 s jb Ls R I)(b:AB):Ow s0 (bk s jb b) jb Ls R I:=by
 have aT:jb.toNat<s.next.toNat:=Zc7 h.lt h.next;have nL:∀L∈Ls,∀b,aM L=some b->jb≠b:=λL hL b hb e=>by have:=h.new L hL b hb;have:=h.lt;rw[e]at *; omega
 refine⟨h.jJ,h.lt,jV h.wf aT,by rw[dQ];exact h.next,λq x hq hx=>by rw[aJ (λe=>hq e.symm)];exact h.keep q x hq hx,λi L r h1 h2=> ?_,h.len,h.new,h.apart,λe he=>⟨?_,(h.eF e he).2⟩,λi L r h1 h2 b hb=> ?_,λe he b hb=> ?_,h.inw⟩
 . (refine(h.own i L r h1 h2).mono λb x hb hx=> ?_);rw[aJ (nL L (Zc0 h1) b hb)];exact hx
 . (refine(h.eF e he).1.mono λb x hb hx=> ?_);rw[aJ (λe2=>((h.eF e he).2 b hb).1 e2.symm)];exact hx
 . rw[aJ (nL L (Zc0 h1) b hb)];exact h.tig i L r h1 h2 b hb
 . rw[aJ (λe2=>((h.eF e he).2 b hb).1 e2.symm)];exact h.itg e he b hb
theorem Ow.push(h:Ow s0 s jb Ls R I){c:aj}{Q:Type}{bytes i:Nat}{L:AV}{r:List AV}(hL:Ls[i]? =some L)(hR:R[i]? =some r){z:List AV}{x:AV}(hz:z.length=1)(hx:x.cells=[x])(h1:x.one=true)
   (hb:(2*(r.length+1)+768)*bytes<=281474976710656) (hn:r.length<=4000000):
   ∃s5 v',(∀(K:AV->St->Option Q),aq c (.buildSlice 1 1 z [0]) [x] s (λy t=>aq c (.append 1 bytes) [L,y] t K)=K v' s5)/\Ow s0 s5 jb (Ls.set i v') (R.set i (r++[x])) I/\(∀x,s.heap.get jb=some x->s5.heap.get jb=some x)/\(∀p y,aM L≠some p->s.heap.get p=some y->s5.heap.get p=some y)/\v'.cells=[v']/\v'.one=true/\s.next.toNat<=s5.next.toNat/\∀b,aM v'=some b->s.next.toNat<=b.toNat:=by
 have q:=h.own i L r hL hR;have gX:i<Ls.length:=(Za2.1 hL).1;have hmL:L∈Ls:=Zc0 hL;obtain⟨s5,v',a1,a2,a3,a4,a5,a6,a7⟩:=QS.arp (R:=Q) (c:=c) (bytes:=bytes) h.wf q (ahk r) hz (x:=x) (by rw[hx];rfl) (by rw[hx];simp[aS,h1]) (by decide) (by simpa using hb) (by simpa using hn);have hjlt:jb.toNat<s.next.toNat:=Zc7 h.lt h.next;have nj:aM L≠some jb:=λe=>by have:=h.new L hmL jb e;have:=h.lt;omega
 refine⟨s5,v',a1,⟨h.jJ,h.lt,a3,Zb1 h.next a4,λq x hq hx=> ?_,λj M u h2 h3=> ?_,by simpa using h.len,λM hM b hb=> ?_,λj k M N hjk h2 h3 b hb xT=> ?_,λe he=>⟨?_,λb hb=>⟨((h.eF e he).2 b hb).1,λM hM xT=> ?_⟩⟩,λj M u h2 h3 b hb=> ?_,λe he b hb=> ?_,h.inw⟩,?_,a5,a2.cells.1,a2.cells.2,a4,a6⟩
 . refine a5 q x (λe=> ?_) (h.keep q x hq hx);have:=h.new L hmL q e;have:=h.jJ _ _ hx;omega
 . by_cases e:i=j
   . subst e;rw[Zf0 gX]at h2;have hir:i<R.length:=(by rw[<-h.len];exact gX);rw[Zf0 hir]at h3;cases h2;cases h3;simpa [hx]using a2
   . rw[Ze5 e]at h2 h3;exact(h.own j M u h2 h3).mono λb x hb hx=>a5 b x (λe2=>h.apart i j L M e hL h2 b e2 hb) hx
 . rcases Zg7 hM with hM|rfl
   . exact h.new M hM b hb
   . exact Zb1 h.next (a6 b hb)
 . by_cases e:i=j
   . subst e;rw[Zf0 gX]at h2;cases h2;rw[Ze5 hjk]at h3;have:=a6 b hb;have:=h.ltL (Zc0 h3) xT;omega
   . rw[Ze5 e]at h2;by_cases e2:i=k
     .  subst e2;rw[Zf0 gX]at h3;cases h3;have:=a6 b xT;have:=h.ltL (Zc0 h2) hb;omega
     .  rw[Ze5 e2]at h3;exact h.apart j k M N hjk h2 h3 b hb xT
 . exact(h.eF e he).1.mono λb x hb hx=>a5 b x (λe2=>((h.eF e he).2 b hb).2 L hmL e2) hx
 . rcases Zg7 hM with hM|rfl
   . exact((h.eF e he).2 b hb).2 M hM xT
   . have:=a6 b xT;have:=(h.eF e he).1.lt h.wf hb;omega
 . by_cases e:i=j
   . subst e;rw[Zf0 gX]at h2;have hir:i<R.length:=(by rw[<-h.len];exact gX);rw[Zf0 hir]at h3;cases h2;cases h3;rw[a7 b hb,hx,age]
   . rw[Ze5 e]at h2 h3;exact a5 b _ (λe2=>h.apart i j L M e hL h2 b e2 hb) (h.tig j M u h2 h3 b hb)
 . exact a5 b _ (λe2=>((h.eF e he).2 b hb).2 L hmL e2) (h.itg e he b hb)
 . exact λx hx=>a5 jb x nj hx
end
section
variable{s0 s s' : St}{jb : Pos}{Ls : List AV}{R : List (List AV)}{I : List (AV × List (List AV))}
theorem Ow.none(hw:Wf s)(hj:jb.toNat<s.next.toNat)(n:Nat):Ow s s jb (List.replicate n .af) (List.replicate n []) []:=by
 have hn:∀(i:Nat)(L:AV),(List.replicate n AV.af)[i]? =some L->L= .af:=λi L h=>by
   rw[Zn2]at h;split at h
   . cases h;rfl
   . cases h
 refine⟨hw,hj,hw,Za3 _,λ_ _ _ h=>h,λi L r h1 h2=> ?_,by simp,λL hL b hb=> ?_,λi j L M _ h1 _ b hb=> ?_,λe he=>(by cases he),λi L r h1 _ b hb=> ?_,λe he=>(by cases he),λe he=>by cases he⟩
 . obtain rfl:=hn i L h1;rw[Zn2]at h2;split at h2
   . cases h2;exact QS.nil
   . cases h2
 . rw[List.mem_replicate]at hL;obtain⟨_,rfl⟩:=hL;cases hb
 . obtain rfl:=hn i L h1;cases hb
 . obtain rfl:=hn i L h1;cases hb
theorem Ow.snoc(h:Ow s0 s jb Ls R I):Ow s0 s jb (Ls++[.af]) (R++[[]]) I:=by
 have sp:∀(i:Nat)(L:AV),(Ls++[.af])[i]? =some L->Ls[i]? =some L\/(i=Ls.length/\L= .af):=λi L h1=>by
   by_cases hi:i<Ls.length
   . rw[Zc3 hi]at h1;exact .inl h1
   . rw[Zc2 (by omega)]at h1;by_cases h0:i - Ls.length=0
     . rw[h0]at h1;simp at h1;exact .inr ⟨by omega,h1.symm⟩
     . rw[Zc1 (by simp;omega)]at h1;cases h1
 have mem:∀L∈Ls++[AV.af],∀b,aM L=some b->L∈Ls:=λL hL b hb=>by
   rcases Zd8.1 hL with hL|hL
   . exact hL
   . simp at hL;subst hL;cases hb
 refine⟨h.jJ,h.lt,h.wf,h.next,h.keep,λi L r h1 h2=> ?_,by simp[h.len],λL hL b hb=>h.new L (mem L hL b hb) b hb,λi j L M Wo h1 h2 b hb xT=> ?_,λe he=>⟨(h.eF e he).1,λb hb=>⟨((h.eF e he).2 b hb).1,λL hL xT=>((h.eF e he).2 b hb).2 L (mem L hL b xT) xT⟩⟩,λi L r h1 h2 b hb=> ?_,h.itg,h.inw⟩
 . rcases sp i L h1 with h1|⟨rfl,rfl⟩
   . have hi:i<R.length:=(by rw[<-h.len];exact(Za2.1 h1).1);rw[Zc3 hi]at h2;exact h.own i L r h1 h2
   . rw[Zc2 (by rw[h.len];exact Za3 _),h.len]at h2;simp at h2;subst h2;exact QS.nil
 . rcases sp i L h1 with h1|⟨rfl,rfl⟩
   . rcases sp j M h2 with h2|⟨rfl,rfl⟩
     . exact h.apart i j L M Wo h1 h2 b hb xT
     . cases xT
   . cases hb
 . rcases sp i L h1 with h1|⟨rfl,rfl⟩
   . have hi:i<R.length:=(by rw[<-h.len];exact(Za2.1 h1).1);rw[Zc3 hi]at h2;exact h.tig i L r h1 h2 b hb
   . cases hb
theorem Ow.take{L:AV}{r:List AV}(h:Ow s0 s jb (Ls++[L]) (R++[r]) I):Ow s0 s jb Ls R ((L,r.map ov)::I):=by
 have hl:Ls.length=R.length:=by have:=h.len;simpa using this
 have up:∀(i:Nat)(M:AV),Ls[i]? =some M->(Ls++[L])[i]? =some M:=λi M h1=>by rw[Zc3 (Za2.1 h1).1];exact h1
 have upR:∀(i:Nat)(M:List AV),R[i]? =some M->(R++[r])[i]? =some M:=λi M h1=>by rw[Zc3 (Za2.1 h1).1];exact h1
 have hL:(Ls++[L])[Ls.length]? =some L:=by simp
 have hR:(R++[r])[Ls.length]? =some r:=by rw[hl];simp
 refine⟨h.jJ,h.lt,h.wf,h.next,h.keep,λi M u h1 h2=>h.own i M u (up i M h1) (upR i u h2),hl,λM hM b hb=>h.new M (Zm3 _ hM) b hb,λi j M N Wo h1 h2 b hb xT=>h.apart i j M N Wo (up i M h1) (up j N h2) b hb xT,λe he=> ?_,λi M u h1 h2=>h.tig i M u (up i M h1) (upR i u h2),λe he b hb=> ?_,λe he b hb=> ?_⟩
 . rcases Zb0.1 he with rfl|he
   . refine⟨h.own _ _ _ hL hR,λb hb=>⟨λe=> ?_,λM hM xT=> ?_⟩⟩
     .  have:=h.new L (by simp) b hb;have:=h.lt;rw[e]at *; omega
     .  obtain⟨i,hi,rfl⟩:=Zg2.1 hM;exact h.apart i Ls.length _ L (by omega) (up i _ (H0 hi)) hL b xT hb
   . exact⟨(h.eF e he).1,λb hb=>⟨((h.eF e he).2 b hb).1,λM hM=>((h.eF e he).2 b hb).2 M (Zm3 _ hM)⟩⟩
 . rcases Zb0.1 he with rfl|he
   . rw[age];exact h.tig _ _ _ hL hR b hb
   . exact h.itg e he b hb
 . rcases Zb0.1 he with rfl|he
   . exact h.new _ (by simp) b hb
   . exact h.inw e he b hb
end
theorem FR{R:Type}{c:aj}(K:AV->St->Option R){s:St}{p:Pos}{o:Nat}{cs:List AV}{v:AV}(h:s.heap.get p=some (.cells cs 0))(ho:o<cs.length)(h1:v.cells=[v])(h2:v.one=true):
  aq c (.store 1) [.ptr p o,v] s K=K .undef (bk s p (.cells (cs.set o v) 0)):=by
 rw[cr c K s 1 p o v cs h (by rw[h1];rfl) (by omega) (by rw[h1];simp[aS,h2]),h1,zz _ _ ho]
theorem QS.beq{es:Nat}{s:St}{v:AV}{rows:List (List AV)}(h:QS es s v rows):eM v v=true:=by
 rcases h with⟨rfl,_⟩|⟨b,off,cap,cs,rfl,_⟩|⟨b,off,rfl,_⟩
 . rfl
 . cases cap<;>simp[eM,lH,fI,Pos.beq_eq.2 rfl]
 . simp[eM,lH,fI,Pos.beq_eq.2 rfl]
theorem Mk.beq{es:Nat}{s s':St}{v:AV}{rows:List (List AV)}(h:Mk es s s' v rows):eM v v=true:=h.own.beq
theorem FT{R:Type}{z:List AV}{x:AV}(hz:z.length=1)(hx:x.cells=[x])(s:St)(K:AV->AB->Option R):
  TV (.buildSlice 1 1 z [0]) [x] s K=K (.slice s.next 0 1 (some 1) 1) (.cells [x] 0):=by
 have:cF (bX z 1) ([0].map λi=>(i*1,1)) [x]=some [x]:=by
  simp only[Zd6,Zi1,Zn7,bX,Zd9,cF,dB,dz,hx,Zh2,Zb4,hz,Za3,Zc6,Zi8];simp only[aX,Zp9,Ze1,Zb4,Zc6,Zi8];rw[Zl4 (by omega),Zd9]
 rw[qu,this];rfl
theorem FU{R:Type}{c:aj}{z:List AV}{x:AV}(hz:z.length=1)(hx:x.cells=[x])(s:St)(K:AV->St->Option R):
  aq c (.buildSlice 1 1 z [0]) [x] s K=K (.slice s.next 0 1 (some 1) 1) (ah s (.cells [x] 0)):=by
 rw[KU hz (by rw[hx];rfl),hx]
section
variable{s0 s s' : St}{jb : Pos}{Ls : List AV}{R : List (List AV)}{I : List (AV × List (List AV))}
theorem Ow.aci(h:Ow s0 s jb Ls R I){c:aj}{Q:Type}(bytes:Nat){i:Nat}{L:AV}{r:List AV}(hL:Ls[i]? =some L)(hR:R[i]? =some r){x:AV}(hx:x.cells=[x])(h1:x.one=true)
  (hb:(2*(r.length+1)+768)*bytes<=281474976710656) (hn:r.length<=4000000):
  ∃s5 v',(∀(K:AV->St->Option Q),aq c (.append 1 bytes) [L,.slice s.next 0 1 (some 1) 1] (ah s (.cells [x] 0)) K=K v' s5)/\Ow s0 s5 jb (Ls.set i v') (R.set i (r++[x])) I/\(∀x,s.heap.get jb=some x->s5.heap.get jb=some x)/\(∀p y,aM L≠some p->s.heap.get p=some y->s5.heap.get p=some y)/\v'.cells=[v']/\v'.one=true/\s.next.toNat<=s5.next.toNat/\∀b,aM v'=some b->s.next.toNat<=b.toNat:=by
 obtain⟨s5,v',a1,a2⟩:=h.push (c:=c) (Q:=Q) (bytes:=bytes) hL hR (z:=[.int .i64 0]) rfl hx h1 hb hn;refine⟨s5,v',λK=> ?_,a2⟩;rw[<-a1 K,FU rfl hx]
theorem Ow.mem_set{v':AV}{i:Nat}{p:Pos}(hL:∀L∈Ls,aM L≠some p)(hv:aM v'≠some p):∀L∈Ls.set i v',aM L≠some p:=λL h=>by
 rcases Zg7 h with h|rfl
 . exact hL L h
 . exact hv
theorem Ow.put(h:Ow s0 s jb Ls R I){H:List AV}(CO:s.heap.get jb=some (.cells (H++Ls) 0)){c:aj}{Q:Type}(bytes:Nat){i:Nat}{L:AV}{r:List AV}(hL:Ls[i]? =some L)(hR:R[i]? =some r){x:AV}(hx:x.cells=[x])(h1:x.one=true)
   (hb:(2*(r.length+1)+768)*bytes<=281474976710656) (hn:r.length<=4000000) {o:Nat} (ho:o=H.length+i):
   ∃s5 s6 v',(∀(K:AV->St->Option Q),aq c (.append 1 bytes) [L,.slice s.next 0 1 (some 1) 1] (ah s (.cells [x] 0)) K=K v' s5)/\(∀(K:AV->St->Option Q),aq c (.store 1) [.ptr jb o,v'] s5 K=K .undef s6)/\Ow s0 s6 jb (Ls.set i v') (R.set i (r++[x])) I/\s6.heap.get jb=some (.cells (H++Ls.set i v') 0)/\
    (∀p y,p≠jb->(∀L∈Ls,aM L≠some p)->s.heap.get p=some y->s6.heap.get p=some y/\∀L∈Ls.set i v',aM L≠some p):=by
 obtain⟨s5,v',a1,a2,a3,a4,a5,a6,a7,a8⟩:=h.aci (c:=c) (Q:=Q) bytes hL hR hx h1 hb hn;have gX:i<Ls.length:=(Za2.1 hL).1;have hj:=a3 _ CO;have es:(H++Ls).set o v'=H++Ls.set i v':=by subst ho;rw[Zj9 _ _ (by omega)];congr 2;omega
 refine⟨s5,bk s5 jb (.cells (H++Ls.set i v') 0),v',a1,λK=> ?_,a2.store _,bP _ _ _,λp y hp hpL hy=>⟨?_,Ow.mem_set hpL λe=> ?_⟩⟩
 . rw[FR K hj (by rw[Ze3];omega) a5 a6,es]
 . rw[aJ (λe=>hp e.symm)];exact a4 p y (hpL L (Zc0 hL)) hy
 . have:=a8 p e;have:=h.wf _ _ hy;omega
end
def PC:List (Int×Int)->Nat->List (AV×AV×Nat)
 |[],_=>[]
 |(k,d)::E,i=>(.int .i64 k,.int .i64 d,i)::PC E (i+1)
def im(E:List (Int×Int)):AB:= .map (PC E 0) E.length
def jW:List (Int×Int)->Int->Option Int
 |[],_=>none
 |(k,d)::E,x=>if x=k then some d else jW E x
theorem ahl:∀(E:List (Int×Int))(i:Nat)(k d:Int),PC (E++[(k,d)]) i=PC E i++[(.int .i64 k,.int .i64 d,i+E.length)]
 |[],i,k,d=>rfl
 |(a,b)::E,i,k,d=>by
  show _::PC (E++[(k,d)]) (i+1)=_::(PC E (i+1)++_);rw[ahl E (i+1) k d];simp only[Zc6];rw[show i+1+E.length=i+(E.length+1)by omega]
theorem Cg(x:Int):∀(E:List (Int×Int))(i j:Nat),(jW E x=none->ir .i (.int .i64 x) (PC E i) j=some none)/\∀d,jW E x=some d->∃n,ir .i (.int .i64 x) (PC E i) j=some (some (n,.int .i64 d))
 |[],i,j=>⟨λ_=>rfl,λd h=>by cases h⟩
 |(k,e)::E,i,j=>by
  have ih:=Cg x E (i+1) (j+1);have step:ir .i (.int .i64 x) (PC ((k,e)::E) i) j=if x=k then some (some (j,.int .i64 e))else ir .i (.int .i64 x) (PC E (i+1)) (j+1):=by
    show(match Bv .i (.int .i64 x) (.int .i64 k)with|some true=>some (some (j,AV.int .i64 e))|some false=>ir .i (.int .i64 x) (PC E (i+1)) (j+1)|none=>none)=_;simp only[Bv,dK,mZ];by_cases h:x=k
    . rw[Zb2 h,Za0 h]
    . rw[Za7 h,Za1 h]
  rw[step];unfold jW;by_cases h:x=k
  . rw[Zb2 h,Zb2 h];exact⟨λh=>(by cases h),λd hd=>⟨j,by cases hd;rfl⟩⟩
  . rw[Za7 h,Za7 h];exact ih
section
variable{R : Type}(c : aj)(K : AV -> St -> Option R){st : St}{m : Pos}{E : List (Int × Int)}
theorem apD(h:st.heap.get m=some (im E))(x:Int):aq c (.lookup .i (.int .i64 0) true) [.map m,.int .i64 x] st K=K (.tuple [.int .i64 ((jW E x).getD 0),.bool (jW E x).isSome]) st:=by
 have:aH.run (λb=>st.heap.get b) st.next (.lookup .i (.int .i64 0) true) [.map m,.int .i64 x]=some (.val (.tuple [.int .i64 ((jW E x).getD 0),.bool (jW E x).isSome])):=by
  unfold im at h;cases hl:jW E x with
  |none=>simp only[aH.run,lC,h,(Cg x E 0 0).1 hl];rfl
  |some d=>obtain⟨n,e⟩:=(Cg x E 0 0).2 d hl;simp only[aH.run,lC,h,e];rfl
 unfold aq cL;rw[this]
theorem atC(h:st.heap.get m=some (im E))(x:Int):aq c (.lookup .i (.int .i64 0) false) [.map m,.int .i64 x] st K=K (.int .i64 ((jW E x).getD 0)) st:=by
 have:aH.run (λb=>st.heap.get b) st.next (.lookup .i (.int .i64 0) false) [.map m,.int .i64 x]=some (.val (.int .i64 ((jW E x).getD 0))):=by
  unfold im at h;cases hl:jW E x with
  |none=>simp only[aH.run,lC,h,(Cg x E 0 0).1 hl];rfl
  |some d=>obtain⟨n,e⟩:=(Cg x E 0 0).2 d hl;simp only[aH.run,lC,h,e];rfl
 unfold aq cL;rw[this]
theorem ahm(h:st.heap.get m=some (im E)){x:Int}(hx:jW E x=none)(d:Int):aq c (.mapSet .i) [.map m,.int .i64 x,.int .i64 d] st K=K .undef (bk st m (im (E++[(x,d)]))):=by
 have:aH.run (λb=>st.heap.get b) st.next (.mapSet .i) [.map m,.int .i64 x,.int .i64 d]=some (.bh .undef none (some (m,im (E++[(x,d)]))) none):=by unfold im at h;simp only[aH.run,yj,h,agt,(Cg x E 0 0).1 hx];unfold im;rw[ahl];simp
 unfold aq cL;rw[this];rfl
end
theorem am8(i:Nat):bounds true false false [.int .i64 (i:Int)]=some (some i,none,none):=rfl
theorem am9(i:Nat):bounds false true false [.int .i64 (i:Int)]=some (none,some i,none):=rfl
theorem aeR{es:Nat}:∀(rows:List (List AV)),(∀r∈rows,r.length=es)->∀i,rows.flatten.drop (i*es)=(rows.drop i).flatten
 |[],_,i=>by simp
 |r::rows,hr,0=>by simp
 |r::rows,hr,i+1=>by have hl:=hr r (by simp);rw[Zf6,List.drop_succ_cons,Zg4,Zr0, <-Zl2, <-hl,List.drop_left,hl];exact aeR rows (λx hx=>hr x (Za9 _ hx)) i
theorem QS.low{es:Nat}{s:St}{v:AV}{rows:List (List AV)}(h:QS es s v rows)(hr:∀r∈rows,r.length=es){i:Nat}(hi:i<=rows.length):
   ∃v',(∀{R:Type}(c:aj)(K:AV->St->Option R)(s1:St),aq c (.sliceL es true false false) [v,.int .i64 (i:Int)] s1 K=K v' s1)/\QS es s v' (rows.drop i)/\∀b,aM v'=some b->aM v=some b:=by
 rcases h with⟨rfl,rfl⟩|⟨b,off,cap,cs,rfl,g1,g2,g3,g4⟩|⟨b,off,rfl,rfl⟩
 . obtain rfl:i=0:=(by simpa using hi);exact⟨.af,λc K s1=>aU c K (λH n=>rfl) s1,.inl ⟨rfl,rfl⟩,λb hb=>hb⟩
 . refine⟨.slice b (off+i*es) (rows.length - i) (cap.map (· - i)) es,λc K s1=>aU c K (λH n=> ?_) s1,?_,λb' hb=> ?_⟩
   . simp only[aH.run,iM,am8,dB,dz,Zh2,Zf2,Zi9,Za0 hi];rcases g4 with rfl|rfl<;>simp
   . have hm:i*es+(rows.length - i)*es=rows.length*es:=(by rw[<-Zj4];congr 1;omega);refine .inr (.inl ⟨b,off+i*es,cap.map (· - i),cs,by rw[Zq8],g1,?_,?_,?_⟩)
     .  rw[Zq8];omega
     .  rw[<-aeR rows hr i, <-g3,Zn5,Zl2,Zq8];congr 1;omega
     .  rcases g4 with rfl|rfl
        . exact .inl rfl
        . right;simp
   . obtain rfl:=tE hb;simp only[aM]at hb ⊢;by_cases h0:cap=some 0/\rows.length=0
     .  obtain⟨rfl,h0⟩:=h0;rw[Zb2 (by simp;omega)]at hb;cases hb
     .  rw[Za7 h0]
 . obtain rfl:i=0:=(by simpa using hi);refine⟨.slice b (off+0*es) 0 (some 0) es,λc K s1=>aU c K (λH n=> ?_) s1,.inr (.inr ⟨_,_,rfl,rfl⟩),λb' hb=> ?_⟩
   . simp only[aH.run,iM,am8,dB,dz,Zh2,Zf2,Zi9,Za3,Zk6]
   . rw[lS]at hb;cases hb
theorem QS.high{es:Nat}{s:St}{v:AV}{rows:List (List AV)}(h:QS es s v rows){i:Nat}(hi:i<=rows.length):
   ∃v',(∀{R:Type}(c:aj)(K:AV->St->Option R)(s1:St),aq c (.sliceL es false true false) [v,.int .i64 (i:Int)] s1 K=K v' s1)/\∀{R:Type}(c:aj)(K:AV->St->Option R)(s1:St),aq c (.lenB .l) [v'] s1 K=K (.int .i64 (i:Int)) s1:=by
 rcases h with⟨rfl,rfl⟩|⟨b,off,cap,cs,rfl,g1,g2,g3,g4⟩|⟨b,off,rfl,rfl⟩
 . obtain rfl:i=0:=(by simpa using hi);exact⟨.af,λc K s1=>aU c K (λH n=>rfl) s1,λc K s1=>aU c K (λH n=>rfl) s1⟩
 . refine⟨.slice b (off+0*es) (i - 0) cap es,λc K s1=>aU c K (λH n=> ?_) s1,λc K s1=>aU c K (λH n=>rfl) s1⟩;simp only[aH.run,iM,am9,dB,dz,Zh2,Zf2,Zi9,Zh9];rcases g4 with rfl|rfl<;>simp[hi]
 . obtain rfl:i=0:=(by simpa using hi);refine⟨.slice b (off+0*es) 0 (some 0) es,λc K s1=>aU c K (λH n=> ?_) s1,λc K s1=>aU c K (λH n=>rfl) s1⟩;simp only[aH.run,iM,am9,dB,dz,Zh2,Zf2,Zi9,Za3,Zk6]
theorem QS.clear{es:Nat}{z:List AV}{s:St}{v:AV}{rows:List (List AV)}(h:QS es s v rows)(hw:Wf s)(hz:z.length=es)(h1:∀n,aS (bX z n)=true):
   ∃s',(∀{R:Type}(c:aj)(K:AV->St->Option R),aq c (.clearS es z) [v] s K=K .undef s')/\Wf s'/\s'.next=s.next/\∀p x,aM v≠some p->s.heap.get p=some x->s'.heap.get p=some x:=by
 rcases h with⟨rfl,rfl⟩|⟨b,off,cap,cs,rfl,g1,g2,g3,g4⟩|⟨b,off,rfl,rfl⟩
 . exact⟨s,λc K=>aU c K (λH n=>rfl) s,hw,rfl,λ_ _ _ h=>h⟩
 . by_cases h0:rows.length=0
   . refine⟨s,λc K=>aU c K (λH n=> ?_) s,hw,rfl,λ_ _ _ h=>h⟩;simp only[aH.run,sZ,dB,h0,Zh2]
   . refine⟨bk s b (.cells (aX cs off (bX z rows.length)) 0),λc K=> ?_,jV hw (hw _ _ g1),dQ _ _ _,λp x hp hx=> ?_⟩
     .  have:aH.run (λb=>s.heap.get b) s.next (.clearS es z) [.slice b off rows.length cap es]=some (.bh .undef none (some (b,.cells (aX cs off (bX z rows.length)) 0)) none):=by
         simp only[aH.run,sZ,dB,Za1 h0,g1,dz,Za0 g2,Zh9,Zh2,h1]
        unfold aq cL;rw[this];rfl
     .  rw[aJ (λe=>hp (by simp only[aM];rw[Za7 (by omega),e]))];exact hx
 . refine⟨s,λc K=>aU c K (λH n=> ?_) s,hw,rfl,λ_ _ _ h=>h⟩;simp[aH.run,sZ,dB]
theorem QS.bare{es:Nat}{s:St}{v:AV}{rows:List (List AV)}(h:QS es s v rows):bM v:=by
 rcases h with⟨rfl,_⟩|⟨b,off,cap,cs,rfl,_⟩|⟨b,off,rfl,_⟩
 . exact bM.af
 . exact bM.slice _ _ _ _ _
 . exact bM.slice _ _ _ _ _
def emptyAt(s:St):St:={ heap:= .e,next:=s.next }
theorem acj(s:St):Wf (emptyAt s):=λp x h=>by have h:(T.e:T AB).get p=some x:=h;rw[T.dW]at h;cases h
noncomputable def dG(s s1:St):St:={ heap:=T.both s.heap (Dc s1.heap),next:=s1.next }
theorem alb{s s1:St}{b:Pos}{x:AB}(h:s.heap.get b=some x):(dG s s1).heap.get b=some x:=by show(T.both _ _).get b=_;rw[T.FQ,h];rfl
theorem De{s s1:St}(hw:Wf s){b:Pos}{x:AB}(hb:s.next.toNat<=b.toNat)(h:s1.heap.get b=some x)(hx:KB x):(dG s s1).heap.get b=some x:=by
 show(T.both _ _).get b=_;have:s.heap.get b=none:=by
  cases e:s.heap.get b with
  |none=>rfl
  |some y=>have:=hw _ _ e;omega
 rw[T.FQ,this,am6 h hx];rfl
theorem Z5{s s1:St}(hw:Wf s)(h1:Wf s1)(hn:s.next.toNat<=s1.next.toNat):Grew s (dG s s1):=
 ⟨fun p x h=>by
  have h:(T.both s.heap (Dc s1.heap)).get p=some x:=h;show p.toNat<s1.next.toNat;rw[T.FQ]at h;cases e:s.heap.get p with
  |some y=>have:=hw _ _ e;omega
  |none=>
   rw[e]at h;have h:(Dc s1.heap).get p=some x:=(by simpa using h);exact h1 _ _ (aeO h).1,λp x h=>alb h,hn⟩
theorem Mk.dG{es:Nat}{s s1:St}{v:AV}{rows:List (List AV)}(hw:Wf s)(h:Mk es (emptyAt s) s1 v rows)(hb:∀r∈rows,∀x∈r,bM x):Mk es s (Go.Ai.dG s s1) v rows:=by
 have key:∀b x,aM v=some b->s1.heap.get b=some x->(Go.Ai.dG s s1).heap.get b=some x:=λb x e8 hx=>by
  have t:=h.tight b e8;have wO:x= .cells rows.flatten 0:=by rw[t]at hx;exact(Zi7 hx).symm
  subst wO;exact De hw (h.new b e8) t (λv hv=>by obtain⟨r,hr,hv⟩:=List.mem_flatten.1 hv;exact hb r hr v hv)
 exact⟨hw,Z5 hw h.ai.wf h.ai.next,h.own.mono key,h.new,h.row,h.cap,λb e8=>key b _ e8 (h.tight b e8)⟩
theorem ana{call:aj}{f:FuncId}{d:Nat}{args:List AV}{s:St}{v:AV}{s1:St}(h:call f (args.map (fW s d)) (emptyAt s)=some (v,s1))(hb:bM v)(hn:s.next.toNat<=s1.next.toNat):
 Wn call f d args s=some (v,dG s s1):=aj5 h ⟨hb,hn⟩
section
variable{H : Type}(Ok : DataW H -> Prop)(enc : TypeId × Value -> H)(P : Program)(w : World)(base : Nat)(spare : Nat -> Bool)(held : Bool)
variable{Ok enc P w base spare held}
end
end
section
open Go Go.WideShapes
section
variable{H : Type}(enc : TypeId × Value -> H)(P : Program)(w : World)(base : Nat)(spare : Nat -> Bool)(held : Bool)
variable{enc P w base spare held}
end
end
section
open Go
section
variable{c : aj}{R : Type}
theorem ahn{H:Pos->Option AB}{n:Pos}{k:IntKind}{a b:Int}(h1:0<=a)(h2:0<b):aH.run H n (.bin .rem .num) [.int k a,.int k b]=some (.val (.int k (a % b))):=by
 have e0:Bi b 0=false:=by rw[mH,Zm5];omega
 have e1:a.tmod b=a % b:=Int.tmod_eq_emod_of_nonneg h1;simp only[aH.run,jr,pL,dK,e0,e1]
theorem aho{H:Pos->Option AB}{n:Pos}{a b:Int}(h1:0<=a)(h3:a<=9223372036854775807)(h2:0<b):aH.run H n (.bin .quo .num) [.int .i64 a,.int .i64 b]=some (.val (.int .i64 (a / b))):=by
 have e0:Bi b 0=false:=by rw[mH,Zm5];omega
 have e1:a.tdiv b=a / b:=Zi0 h1;have e3:0<=a / b:=Zr6 h1 (by omega);have e4:a / b<=a:=Int.ediv_le_self b h1;have e2:av .i64 (a / b)=a / b:=wrap64 (by omega) (by omega);simp only[aH.run,jr,pL,dK,e0,e1,e2]
theorem apE{H:Pos->Option AB}{n:Pos}{a:Int}{i:Nat}(h:i<=64):aH.run H n (.bin .shr .num) [.int .i64 a,.int .i64 (i:Int)]=some (.val (.int .i64 (a / 2 ^ i))):=by
 have e0:Bj (i:Int) 0=false:=by rw[fo,Za1 (by omega)]
 have e1:min (i:Int).toNat (IntKind.bits .i64)=i:=by have:IntKind.bits .i64=64:=rfl;rw[this];omega
 simp only[aH.run,jr,pL,e0,e1];rw[Zm4 _ (Int.le_of_lt (Int.pow_pos (by decide)))]
theorem cZ{k:IntKind}{a b:Int}(h1:0<=a)(h2:0<b)(s:St)(K:AV->St->Option R):aq c (.bin .rem .num) [.int k a,.int k b] s K=K (.int k (a % b)) s:=aU c K (λH n=>ahn h1 h2) s
theorem R8{k:IntKind}{a b:Int}(h1:0<=a)(h2:0<b)(K:AV->Option R):fu (.bin .rem .num) [.int k a,.int k b] K=K (.int k (a % b)):=dm K (λH n=>ahn h1 h2)
theorem iz{a b:Int}(h1:0<=a)(h3:a<=9223372036854775807)(h2:0<b)(s:St)(K:AV->St->Option R):aq c (.bin .quo .num) [.int .i64 a,.int .i64 b] s K=K (.int .i64 (a / b)) s:=aU c K (λH n=>aho h1 h3 h2) s
theorem ahp{a b:Int}(h1:0<=a)(h3:a<=9223372036854775807)(h2:0<b)(K:AV->Option R):fu (.bin .quo .num) [.int .i64 a,.int .i64 b] K=K (.int .i64 (a / b)):=dm K (λH n=>aho h1 h3 h2)
theorem ahq{a:Int}{i:Nat}(h:i<=64)(s:St)(K:AV->St->Option R):aq c (.bin .shr .num) [.int .i64 a,.int .i64 (i:Int)] s K=K (.int .i64 (a / 2 ^ i)) s:=aU c K (λH n=>apE h) s
theorem Ci(i:Int)(s:St)(K:AV->St->Option R):aq c (.conv (.int .u8)) [.int .i64 i] s K=K (.int .u8 (av .u8 i)) s:=aU c K (λH n=>rfl) s
theorem tF(i:Int)(k:IntKind)(s:St)(K:AV->St->Option R):aq c (.conv (.int .i64)) [.int k i] s K=K (.int .i64 (av .i64 i)) s:=aU c K (λH n=>rfl) s
theorem ahr{x y:Int}(a b:Nat)(hx:x=(a:Int))(hy:y=(b:Int))(ha:a<256)(hb:b<256)(s:St)(K:AV->St->Option R):
  aq c (.buildSlice 1 2 [.int .u8 0] [0,1]) [.int .u8 x,.int .u8 y] s (λv t=>aq c (.conv .ofBytes) [v] t K)=K (.str [a,b]) (ah s (.cells [.int .u8 x,.int .u8 y] 0)):=by
 subst hx;subst hy;rw[show aq c (.buildSlice 1 2 [.int .u8 0] [0,1]) [.int .u8 (a:Int),.int .u8 (b:Int)] s (λv t=>aq c (.conv .ofBytes) [v] t K)=aq c (.conv .ofBytes) [.slice s.next 0 2 (some 2) 1] (ah s (.cells [.int .u8 (a:Int),.int .u8 (b:Int)] 0)) K from rfl];have:aH.run (λp=>(ah s (.cells [.int .u8 (a:Int),.int .u8 (b:Int)] 0)).heap.get p) (ah s (.cells [.int .u8 (a:Int),.int .u8 (b:Int)] 0)).next (.conv .ofBytes) [.slice s.next 0 2 (some 2) 1]=some (.val (.str [a,b])):=by
  have ha':Nat.blt a 256=true:=by simpa using ha
  have e8:Nat.blt b 256=true:=by simpa using hb
  simp only[aH.run,FD,aA];show(match bytesOf [.int .u8 (.ofNat a),.int .u8 (.ofNat b)]with|some s=>some (eR.val (.str s))|none=>none)=_;simp only[bytesOf,ha',e8]
 unfold aq cL;rw[this]
end
theorem Mk.apF{s s':St}{l:List AV}(hi:∀u∈l,dY u)(hw:Wf s)(hg:Grew s s'):
   ∃fP,Go.Ai.tidy s (.agg l,s')=(.agg l,fP)/\Grew s fP/\(∀(es:Nat)(v:AV)(rows:List (List AV)),v∈l->Mk es s s' v rows->Mk es s fP v rows/\(fP=s'\/rows=[])):=by
 unfold Go.Ai.tidy;by_cases hp:Plain (AV.agg l,s').1/\aW s (AV.agg l,s').2
 . rw[Zb2 hp];refine⟨s,rfl,Grew.refl hw,λes v rows hm h=> ?_⟩;rcases h.loose with⟨b,off,n,rfl⟩|⟨hl,h0⟩
   . exact absurd hp.1 (nv hi hm)
   . exact⟨hl s h.jJ,.inr h0⟩
 . rw[Za7 hp];exact⟨s',rfl,hg,λes v rows _ h=>⟨h,.inl rfl⟩⟩
theorem Mk.rQ{es:Nat}{s0 s s':St}{v:AV}{rows:List (List AV)}(h:Mk es s0 s v rows)(hg:Grew s0 s')(hk:∀b x,aM v=some b->s.heap.get b=some x->s'.heap.get b=some x):Mk es s0 s' v rows:=
 ⟨h.jJ,hg,h.own.mono hk,h.new,h.row,h.cap,λb hb=>hk b _ hb (h.tight b hb)⟩
theorem Mk.rU{es:Nat}{s0 s1 s s':St}{v:AV}{rows:List (List AV)}(h:Mk es s1 s v rows)(h0:Wf s0)(Nt:Grew s0 s1)(hg:Grew s0 s')(hk:∀q b,s1.next.toNat<=q.toNat->s.heap.get q=some b->s'.heap.get q=some b):Mk es s0 s' v rows:=
 ⟨h0,hg,h.own.mono (λb x hb hx=>hk b x (h.new b hb) hx),λb hb=>Zb1 Nt.next (h.new b hb),h.row,h.cap,λb hb=>hk b _ (h.new b hb) (h.tight b hb)⟩
end
section
open Go Go.WideShapes
theorem GU{Q:List AV->Prop}{Qs:List (List AV->Prop)}{ps:List (List AV)}(h:R5 (Q::Qs) ps):∃p qs,ps=p::qs/\Q p/\R5 Qs qs:=by
 cases ps with
 |nil=>exact h.elim
 |cons p qs=>exact⟨p,qs,rfl,h⟩
theorem ahs{ps:List (List AV)}(h:R5 [] ps):ps=[]:=by
 cases ps with
 |nil=>rfl
 |cons p qs=>exact h.elim
section
variable{H : Type}{enc : TypeId × Value -> H}{P : Program}{w : World}{base : Nat}{spare : Nat -> Bool}{held : Bool}
theorem PD{t e:TypeId}{Q:List AV->Prop}{r:Go.Reach}{b0:Nat}{v:Value}{d:DataW H}{p:List MemPlace}(ho:pG enc P w base spare held t Q)(ht:P.underlying t=some (.slice e))
  (hval:Value.okWide P w r b0 t v) (hd:DataW.Trod enc P w base spare held t v d p):∃as,Q as/\∀ρ n,aL ρ n (λad=>w.cell? ad) as [v]:=by
 obtain⟨a,len,cap,rfl⟩:=okWide_slice ht hval;obtain⟨fuel,hf⟩:=hd;exact ho _ _ _ hf
end
end
noncomputable section
open Go
inductive Un where
 |z
 |s (n:Un)
def un:Nat->Un
 |0=> .z
 |n+1=> .s (un n)
inductive Tx where
 |bad
 |op (k:aH) (xs:List gZ) (d:Option Pos) (t:Tx)
 |gop (g:Pos) (w:Bool) (k:aH) (xs:List gZ) (d:Option Pos) (t:Tx)
 |dr (t:Tx)
 |pr (k:aH) (xs:List gZ) (d:Option Pos) (t:Tx)
 |ZV (g:Pos) (w:Bool) (k:aH) (xs:List gZ) (d:Option Pos) (t:Tx)
 |rd (b:List Bool) (k:aH) (xs:List gZ) (d:Option Pos) (t:Tx)
 |ZW (g:Pos) (w:Bool) (b:List Bool) (k:aH) (xs:List gZ) (d:Option Pos) (t:Tx)
 |nw (k:aH) (xs:List gZ) (d:Option Pos) (t:Tx)
 |gnw (g:Pos) (w:Bool) (k:aH) (xs:List gZ) (d:Option Pos) (t:Tx)
 |ef (k:aH) (xs:List gZ) (d:Option Pos) (t:Tx)
 |gef (g:Pos) (w:Bool) (k:aH) (xs:List gZ) (d:Option Pos) (t:Tx)
 |cnd (x:gZ) (a b:Tx)
 |jn (l:List Pos) (a b:Tx)
 |jmp (i:Un) (l:List Pos)
 |arg (l:List Pos) (t:Tx) (r:Tx)
 |lp (j:Un) (ins:List Pos)
 |agn (ins:List Pos)
 |out (i:Un) (l:List Pos)
 |res (rs:List OY)
def txO:List bW->Tx->Tx
 |[],t=>t
 |  o::os,t=>match o.guard with
    |none=> .op o.k o.xs o.dst (txO os t)
    |some (p,w)=> .gop p w o.k o.xs o.dst (txO os t)
def bitsOf(cg:Nat):List Nat->List Bool
 |[]=>[]
 |i::is=>cg.testBit i::bitsOf cg is
def txD:List (Nat×bW)->List Nat->Tx->Tx
 |[],_,t=>t
 |  (j,o)::os,is,t=>match o.cls,o.guard with
    | .pure,none=> .pr o.k o.xs o.dst (txD os (j::is) t)
    | .pure,some (p,w)=> .ZV p w o.k o.xs o.dst (txD os (j::is) t)
    | .read,none=> .rd (bitsOf o.cg is) o.k o.xs o.dst (txD os (j::is) t)
    | .read,some (p,w)=> .ZW p w (bitsOf o.cg is) o.k o.xs o.dst (txD os (j::is) t)
    | .new,none=> .nw o.k o.xs o.dst (txD os (j::is) t)
    | .new,some (p,w)=> .gnw p w o.k o.xs o.dst (txD os (j::is) t)
    | .bh,none=> .ef o.k o.xs o.dst (txD os (j::is) t)
    | .bh,some (p,w)=> .gef p w o.k o.xs o.dst (txD os (j::is) t)
def txA(K:oJ->Tx):List (Nat×List Pos)->Tx->Tx
 |[],t=>t
 |(e,l)::r,t=> .arg l (K (exOf e)) (txA K r t)
def tx:AC->Sh->Nat->(oJ->Nat->Tx)->Tx
 | .skip,_,d,K=>K .normal d
 | .region ops,_,d,K=>txO ops (K .normal d)
 | .draw ops,_,d,K=> .dr (txD ops [] (K .normal d))
 |  .seq a b,s,d,K=>match s with
    | .seq none s t=>tx a s d λex d=>match ex with
      | .normal=>tx b t d K
      | .exit i=>K (.exit i) d
      | .ret=>K .ret d
    | .seq (some l) s t=> .jn l (tx a s (d+1) λex d'=>match ex with
      | .normal=> .jmp (un (d' - d - 1)) l
      | .exit i=>K (.exit i) d'
      | .ret=>K .ret d') (tx b t d K)
    |_=> .bad
 |  .cond x a b,s,d,K=>match s with
    | .cond s t=> .cnd x (tx a s d K) (tx b t d K)
    |_=> .bad
 |  .block id a,s,d,K=>match s with
    | .block s=>tx a s d λex d=>match ex with
      | .normal=>K .normal d
      | .exit i=>match Nat.beq i id with
        |true=>K .normal d
        |false=>K (.exit i) d
      | .ret=>K .ret d
    |_=> .bad
 |  .loop _,s,d,K=>match s with
    | .loop j ins outs _=>txA (λex=>K ex d) outs (.lp (un j) ins)
    |_=> .bad
 | .exit id,_,d,K=>K (.exit id) d
 | .ret,_,d,K=>K .ret d
def idxOf:List (Nat×List Pos)->Nat->Nat
 |[],_=>0
 |  (i,_)::r,e=>match Nat.beq i e with
    |true=>0
    |false=>idxOf r e+1
def txF(A:dV)(s:Sh):Tx:=tx A.code s 0 λex _=>match ex with
 | .normal=> .res A.results
 | .ret=> .res A.results
 | .exit _=> .bad
def txL(x:AC×Sh):List Pos×Tx:=match x.2 with
 |  .loop _ ins outs s=>(ins,tx x.1 s 0 λex _=>match ex with
    | .normal=> .agn ins
    | .exit i=> .out (un (idxOf outs (i+2))) (Yy outs (i+2))
    | .ret=> .out (un (idxOf outs 1)) (Yy outs 1))
 |_=>([],.bad)
section
variable{R : Type}
abbrev KK(R:Type):=List AV->St->Option R
abbrev O2:=Option (AV×St)
abbrev Q2:=KK (AV×St)
def ET:Unit:=(λ_=>()) (@den AV)
def Bz(p:Pos)(fr:Fr)(k:AV->Option R):Option R:=match fr.get p with
 |some v=>k v
 |none=>(λ_=>none) ET
def Df(p:Pos)(v:AV)(fr:Fr)(k:Fr->Option R):Option R:=(λ_=>k (fr.put (some v) p)) ET
def Dg(d:Option Pos)(v:AV)(fr:Fr)(k:Fr->Option R):Option R:=match d with
 |some p=>Df p v fr k
 |none=>k fr
def GV(fr:Fr):List gZ->(List AV->Option R)->Option R
 |[],k=>k []
 | .t p::xs,k=>Bz p fr λv=>GV fr xs λvs=>k (v::vs)
 | .c v::xs,k=>GV fr xs λvs=>k (v::vs)
def getLT:List Pos->Fr->(List AV->Option R)->Option R
 |[],_,k=>k []
 |p::ps,fr,k=>Bz p fr λv=>getLT ps fr λvs=>k (v::vs)
def Gu:List Pos->List AV->Fr->(Fr->Option R)->Option R
 |[],vs,fr,k=>mo vs (k fr)
 |p::ps,vs,fr,k=>gW vs λv vs=>Df p v fr λfr=>Gu ps vs fr k
def ack(p:Pos)(k:Pos->Option R):Option R:=(λ_=>k p.succ) ET
def aaW:Pos->List AV->Fr->(Fr->Option R)->Option R
 |_,[],fr,k=>k fr
 |p,v::vs,fr,k=>Df p v fr λfr=>ack p λp=>aaW p vs fr k
def kat:Un->List (KK R)->KK R
 | .z,k::_=>k
 | .s n,_::ks=>kat n ks
 |_,[]=>λ_ _=>none
def Dh:List Bool->T AB->List RC->T AB
 |  b ::bs,h,r::rs=>match r with
    | .new id aN=>match b with
      |true=>(Dh bs h rs).put (some aN) id
      |false=>Dh bs h rs
    | .bh _ _=>h
    | .pure=>Dh bs h rs
 |_,h,_=>h
def Di(k:aH)(xs:List AV)(v:AV):List (Pos×AB)->List Bool->List RC->Bool
 |  up,b::bs,r::rs=>match r with
    | .new id aN=>match b with
      |true=>Di k xs v ((id,aN)::up) bs rs
      |false=>Di k xs v up bs rs
    | .bh base _=>match b with
      |true=>true
      |false=>pn k xs v (nJ up (Dh bs base rs))&&Di k xs v up bs rs
    | .pure=>Di k xs v up bs rs
 |_,_,_=>true
def Wp(fr:Fr)(st:St):List OY->(List AV->Option R)->Option R
 |[],k=>k []
 | .tmp p::rs,k=>Bz p fr λv=>Wp fr st rs λvs=>k (v::vs)
 | .cell p n::rs,k=>Bz p fr λq=>ldr n q st λv=>Wp fr st rs λvs=>k (v::vs)
def agf(as:List (KK R))(f:KK R)(k:List (KK R)->Option R):Option R:=(λ_=>k (as++[f])) ET
def pkR(vs:List AV)(st:St):Option (AV×St):=some (zq vs,st)
end
section
variable(c : aj)(F : Nat)(Ls : Un -> List Q2 -> Nat -> Q2)(ag : Q2)(ko : List Q2)
def evX(fr:Fr)(x:gZ)(k:AV->Option (AV×St)):Option (AV×St):=match x with
 | .t p=>Bz p fr k
 | .c v=>k v
def ev:Tx->List (KK (AV×St))->List (KK (AV×St))->Fr->St->List RC->T AB->Option (AV×St)
 | .bad,_,_,_,_,_,_=>none
 | .op k xs d t,ks,as,fr,st,rs,b=>GV fr xs λvs=>aq c k vs st λv st=>Dg d v fr λfr=>ev t ks as fr st rs b
 | .gop g w k xs d t,ks,as,fr,st,rs,b=>GV fr xs λvs=>Bz g fr λg=>pV c g w k vs st λv st=>Dg d v fr λfr=>ev t ks as fr st rs b
 | .dr t,ks,as,fr,st,_,_=>ev t ks as fr st [] st.heap
 | .pr k xs d t,ks,as,fr,st,rs,b=>GV fr xs λvs=>fu k vs λv=>Dg d v fr λfr=>ev t ks as fr st (.pure::rs) b
 | .ZV g w k xs d t,ks,as,fr,st,rs,b=>GV fr xs λvs=>Bz g fr λg=>ZV g w k vs λv=>Dg d v fr λfr=>ev t ks as fr st (.pure::rs) b
 | .rd bs k xs d t,ks,as,fr,st,rs,b=>GV fr xs λvs=>jt k vs (Dh bs b rs) (λv=>Di k vs v [] bs rs) λv=>Dg d v fr λfr=>ev t ks as fr st (.pure::rs) b
 | .ZW g w bs k xs d t,ks,as,fr,st,rs,b=>GV fr xs λvs=>Bz g fr λg=>ZW g w k vs (Dh bs b rs) (λv=>Di k vs v [] bs rs) λv=>Dg d v fr λfr=>ev t ks as fr st (.pure::rs) b
 | .nw k xs d t,ks,as,fr,st,rs,b=>GV fr xs λvs=>TV k vs st λv aN=>Dg d v fr λfr=>ev t ks as fr (ah st aN) (.new st.next aN::rs) b
 | .gnw g w k xs d t,ks,as,fr,st,rs,b=>GV fr xs λvs=>Bz g fr λg=>ZX g w (TV k vs st λv aN=>Dg d v fr λfr=>ev t ks as fr (ah st aN) (.new st.next aN::rs) b) (Dg d .undef fr λfr=>ev t ks as fr st (.pure::rs) b)
 | .ef k xs d t,ks,as,fr,st,rs,b=>GV fr xs λvs=>aq c k vs st λv st'=>Dg d v fr λfr=>ev t ks as fr st' (.bh b st'.heap::rs) st'.heap
 | .gef g w k xs d t,ks,as,fr,st,rs,b=>GV fr xs λvs=>Bz g fr λg=>ZX g w (aq c k vs st λv st'=>Dg d v fr λfr=>ev t ks as fr st' (.bh b st'.heap::rs) st'.heap) (Dg d .undef fr λfr=>ev t ks as fr st (.pure::rs) b)
 | .cnd x t u,ks,as,fr,st,rs,b=>evX fr x λv=>cnd v (ev t ks as fr st rs b) (ev u ks as fr st rs b)
 | .jn l t u,ks,as,fr,st,rs,b=>cH (λk=>ev t (k::ks) as fr st rs b) (λvs st=>Gu l vs .e λfr=>ev u ks as fr st [] .e)
 | .jmp i l,ks,_,fr,st,_,_=>getLT l fr λvs=>kat i ks vs st
 | .arg l t r,ks,as,fr,st,rs,b=>agf as (λos st=>Gu l os .e λfr=>ev t ks [] fr st [] .e) λas=>ev r ks as fr st rs b
 | .lp j ins,_,as,fr,st,_,_=>getLT ins fr λvs=>Ls j as F vs st
 | .agn ins,_,_,fr,st,_,_=>getLT ins fr λvs=>ag vs st
 | .out i l,_,_,fr,st,_,_=>getLT l fr λvs=>kat i ko vs st
 | .res rs,_,_,fr,st,_,_=>Wp fr st rs λvs=>pkR vs st
def dZ(p:List Pos×Tx)(vs:List AV)(st:St):Option (AV×St):=Gu p.1 vs .e λfr=>ev c F Ls ag ko p.2 [] [] fr st [] .e
end
def aY{R:Type}:Un->List (KK R)->Nat->KK R:=λ_ _ _ _ _=>none
def fy{R:Type}:KK R:=λ_ _=>none
def bf(c:aj)(F:Nat)(Ls:Un->List Q2->Nat->Q2)(t:Tx)(args:List AV)(st:St):O2:=aaW .h args .e λfr=>ev c F Ls fy [] t [] [] fr st [] .e
def ud(Ls:Un->List Q2->Nat->Q2)(A:dV)(s:Sh):Env (AV×St):=λj K=>Ls (un j) ((lpO (iu A s j).2).map λo=>K o.1)
def sl:Sh:= .leaf
def sq(a b:Sh):Sh:= .seq none a b
def sj(l:List Nat)(a b:Sh):Sh:= .seq (some (l.map key)) a b
def sc(a b:Sh):Sh:= .cond a b
def sb(a:Sh):Sh:= .block a
def sp(j:Nat)(ins:List Nat)(outs:List (Nat×List Nat))(a:Sh):Sh:= .loop j (ins.map key) (outs.map λo=>(o.1,o.2.map key)) a
section
variable{R : Type}(l r : Fr)(v u : AV)(x : Option AV)(p : Pos)(fr : Fr)(k : AV -> Option R)(K : Fr -> Option R)(kp : Pos -> Option R)
theorem Wq:Bz .h (.n l (some v) r) k=k v:=rfl
theorem Wr:Bz (.o p) (.n l x r) k=Bz p l k:=rfl
theorem Ws:Bz (.i p) (.n l x r) k=Bz p r k:=rfl
theorem PG:Df .h v .e K=K (.n .e (some v) .e):=rfl
theorem PI:Df .h v (.n l x r) K=K (.n l (some v) r):=rfl
theorem PJ:Df (.o p) v .e K=Df p v .e λt=>K (.n t none .e):=rfl
theorem PM:Df (.o p) v (.n l x r) K=Df p v l λt=>K (.n t x r):=rfl
theorem PN:Df (.i p) v .e K=Df p v .e λt=>K (.n .e none t):=rfl
theorem PO:Df (.i p) v (.n l x r) K=Df p v r λt=>K (.n l x t):=rfl
theorem Wt:Dg none v fr K=K fr:=rfl
theorem Wu:Dg (some p) v fr K=Df p v fr K:=rfl
theorem PR:ack .h kp=kp (.o .h):=rfl
theorem PT:ack (.o p) kp=kp (.i p):=rfl
theorem PW:ack (.i p) kp=ack p λq=>kp (.o q):=rfl
theorem PY(f:KK R)(k:List (KK R)->Option R):agf [] f k=k [f]:=rfl
theorem PZ(a:KK R)(as:List (KK R))(f:KK R)(k:List (KK R)->Option R):agf (a::as) f k=agf as f λl=>k (a::l):=rfl
theorem acm(st:St):pkR [] st=some (.tuple [],st):=rfl
theorem acn(st:St):pkR [v] st=some (v,st):=rfl
theorem aco(vs:List AV)(st:St):pkR (v::u::vs) st=some (.tuple (v::u::vs),st):=rfl
theorem Gv(c:aj)(F:Nat)(Ls:Un->List Q2->Nat->Q2)(ag:Q2)(ko:List Q2)(l:List Pos)(t:Tx)(vs:List AV)(st:St):dZ c F Ls ag ko (l,t) vs st=Gu l vs .e λfr=>ev c F Ls ag ko t [] [] fr st [] .e:=rfl
end
def zM{α:Type}:Option α->Bool
 |none=>true
 |some _=>false
theorem atD{α:Type}{o:Option α}(h:zM o=true):o=none:=by cases o with|none=>rfl|some _=>cases h
theorem atE{α:Type}[Inhabited α]{o:Option α}(h:zM o=false):o=some (o.getD default):=by cases o with|none=>cases h|some _=>rfl
def xU(G:T dV)(f:Nat):dV:=(G.get (key f)).getD default
theorem anb{O:fc}{G:T dV}{F:Nat}{L:Env (AV×St)}{f:FuncId}{s:Sh}{args:List AV}{st:St}{r:AV×St}(hk:(zM (O f)&& !zM (G.get (key f)))=true)
  (hL:∀x∈fS (xU G f).code s,Da (run O G) F L x.1 x.2) {k:O2} (hd:IA (run O G) F L (xU G f) s args st=k) (h:k=some r):run O G f args st=some (tidy st r):=by
 simp only[Zb5,Zk2]at hk;exact apn (atD hk.1) (atE hk.2) hL (hd.trans h)
theorem aj9{O:fc}{G:T dV}{F:Nat}{f:FuncId}{args:List AV}{st:St}{r:AV×St}(s:Sh)(hk:(zM (O f)&& !zM (G.get (key f))&&(fS (xU G f).code s).isEmpty)=true)
  {k:O2} (hd:IA (run O G) F (agc []) (xU G f) s args st=k) (h:k=some r):run O G f args st=some (tidy st r):=by
 rw[Zb5,List.isEmpty_iff]at hk;exact anb hk.1 (by rw[hk.2];intro x hx;cases hx) hd h
theorem adJ{O:fc}{G:T dV}{F:Nat}{f:FuncId}{args:List AV}{st:St}{r:AV×St}(Ls:Un->List Q2->Nat->Q2)(s:Sh)(n:Nat)(hk:(zM (O f)&& !zM (G.get (key f))&&Nat.beq (fS (xU G f).code s).length n)=true)
  (hL:∀i,i<n->Da (run O G) F (ud Ls (xU G f) s) (iu (xU G f) s i).1 (iu (xU G f) s i).2) {k:O2} (hd:IA (run O G) F (ud Ls (xU G f) s) (xU G f) s args st=k) (h:k=some r):run O G f args st=some (tidy st r):=by
 rw[Zb5]at hk;exact anb hk.1 (apo n hk.2 hL) hd h
theorem aka {O:fc} {G:T dV}  {F:Nat}{f:FuncId}{args:List AV}{st:St}{r:AV×St}(Ls:Un->List Q2->Nat->Q2)(s:Sh)(hk:(zM (O f)&& !zM (G.get (key f))&&Nat.beq (fS (xU G f).code s).length 1)=true)
  (hs:(adB (iu (xU G f) s 0).2&&Nat.beq (lpJ (iu (xU G f) s 0).2) 0)=true) (h0:∀K' vs st,ud Ls (xU G f) s 0 K' 0 vs st=none)
  (h1:∀K' n vs st,ud Ls (xU G f) s 0 K' (n+1) vs st=Px (den (run O G) F (ud Ls (xU G f) s) (iu (xU G f) s 0).1 (lpB (iu (xU G f) s 0).2)) (lpI (iu (xU G f) s 0).2) (lpO (iu (xU G f) s 0).2) K' (ud Ls (xU G f) s 0 K' n) vs st)
  {k:O2} (hd:IA (run O G) F (ud Ls (xU G f) s) (xU G f) s args st=k) (h:k=some r):run O G f args st=some (tidy st r):=
 adJ Ls s 1 hk (fun i hi=>by obtain rfl:i=0:=by omega
                             exact cS 0 hs h0 h1) hd h
end
section
open Go
theorem yG{R:Type}{Q:Option R->Prop}(P:(List AV->St->Option R)->Prop){A:(List AV->St->Option R)->Option R}{T:List AV->St->Option R}(hT:P T)(hA:∀j,P j->Q (A j)):Q (cH A T):=hA T hT
theorem Cj{m:Nat}(h1:1<=m)(h2:m<=18):m=1\/m=2\/m=3\/m=4\/m=5\/m=6\/m=7\/m=8\/m=9\/m=10\/m=11\/m=12\/m=13\/m=14\/m=15\/m=16\/m=17\/m=18:=by omega
end
section
def cnt(n:Nat)(P:Nat->Bool):Nat:=match n with
 |0=>0
 |n+1=>cnt n P+if P n then 1 else 0
def nF(n:Nat)(f:Nat->Nat):Nat:=match n with
 |0=>0
 |n+1=>nF n f+f n
theorem vM:∀{n:Nat}{P Q:Nat->Bool},(∀i,i<n->P i=true->Q i=true)->cnt n P<=cnt n Q
 |0,_,_,_=>Za3 _
 |n+1,P,Q,h=>by
  have ih:=vM (n:=n) (P:=P) (Q:=Q) λi hi=>h i (by omega)
  have:=h n (by omega);unfold cnt;cases hp:P n<;>cases hq:Q n<;>simp_all<;>omega
theorem yH:∀{n:Nat}{f g:Nat->Nat},(∀i,i<n->f i<=g i)->nF n f<=nF n g
 |0,_,_,_=>Za3 _
 |n+1,f,g,h=>by
  have ih:=yH (n:=n) (f:=f) (g:=g) λi hi=>h i (by omega)
  have:=h n (by omega);unfold nF;omega
theorem aaX:∀(n:Nat)(f g:Nat->Nat),nF n (λi=>f i+g i)=nF n f+nF n g
 |0,_,_=>rfl
 |n+1,f,g=>by unfold nF;rw[aaX n f g];omega
theorem zA{n:Nat}{f g:Nat->Nat}(h:∀i,i<n->f i=g i):nF n f=nF n g:=
 Nat.le_antisymm (yH λi hi=>Zr2 (h i hi)) (yH λi hi=>Zr2 (h i hi).symm)
theorem yI{n:Nat}{P Q:Nat->Bool}(h:∀i,i<n->P i=Q i):cnt n P=cnt n Q:=
 Nat.le_antisymm (vM λi hi e=>by rw[<-h i hi];exact e) (vM λi hi e=>by rw[h i hi];exact e)
theorem apG{n:Nat}{P:Nat->Bool}(h:∀i,i<n->P i=false):cnt n P=0:=by
 induction n with
 |zero=>rfl
 |succ n ih=>unfold cnt;rw[ih λi hi=>h i (by omega),h n (by omega)];rfl
theorem ar4{n:Nat}{P:Nat->Bool}{i:Nat}(hi:i<n)(h:P i=true):0<cnt n P:=by
 induction n with
 |zero=>omega
 |succ n ih=>
  unfold cnt;by_cases e:i=n
  . subst e;rw[h];simp
  . have:=ih (by omega);omega
theorem Wv(n:Nat)(P:Nat->Bool):cnt n P<=n:=by
 induction n with
 |zero=>exact Za3 _
 |succ n ih=>unfold cnt;split<;>omega
theorem Nu:∀(n:Nat)(P Q:Nat->Bool),cnt n P=cnt n (λi=>P i&&Q i)+cnt n (λi=>P i&& !Q i)
 |0,_,_=>rfl
 |n+1,P,Q=>by unfold cnt;rw[Nu n P Q];cases P n<;>cases Q n<;>simp<;>omega
theorem acp (n:Nat)(P:Nat->Bool)(t:Nat->Nat):∀T,nF T (λk=>cnt n λi=>P i&&t i==k)<=cnt n P:=λT=>by
 have h: ∀T  ,nF T (λk=>cnt n λi=>P i&&t i==k)=cnt n λi=>P i&&decide (t i<T):=λT=>by
  induction T with
  |zero=>    rw[apG];· rfl
             . intro i _;simp
  |succ T ih=>
   unfold nF;rw[ih,Nu n (λi=>P i&&decide (t i<T+1)) (λi=>decide (t i<T))];congr 1
   .    (refine yI λi _=> ?_);cases P i<;>simp<;>omega
   .    (refine yI λi _=> ?_);cases P i
        . simp
        . rcases Zq6 (t i) T with h|h|h
          . simp[h];omega
          . simp[h]
          . have h1:¬t i<T+1:=(by omega);have h2:t i≠T:=(by omega);simp[h1,h2]
 rw[h T];exact vM λi _ e=>by simp at e;exact e.1
def on(q:Nat->Int)(g:Nat):Bool:=decide (0<=q g)
inductive RM where
 |two (a b:Nat) (P:Int->Int->Bool)
 |one (a:Nat) (P:Int->Bool)
 |Nv (P:Nat->Nat->Int->Int->Bool)
 |pV (P:Nat->Int->Bool)
 |spk (f:(Nat->Int)->Nat)
 |gI (A:Nat->Bool)
 |Ww (A:Nat->Bool) (m:Nat)
 |E0 (A:Nat->Bool) (m:Nat)
structure JT where
 n:Nat
 T:Nat
 tab:Int->Nat
 host:Nat->Bool
section
variable(J : JT)(q : Nat -> Int)
def JT.at(t:Nat)(g:Nat):Bool:=on q g&&J.tab (q g)==t
def JT.kq:RM->Nat
 | .two a b P=>if on q a&&on q b&&P (q a) (q b)then 1 else 0
 | .one a P=>if on q a&&P (q a)then 1 else 0
 | .Nv P=>nF J.n λa=>cnt J.n λb=>decide (a<b)&&on q a&&on q b&&P a b (q a) (q b)
 | .pV P=>cnt J.n λg=>on q g&&P g (q g)
 | .spk f=>f q
 | .gI A=>nF J.T λt=>if A t&&decide (0<cnt J.n (J.at q t))&&decide (cnt J.n (λg=>J.at q t g&&J.host g)=0)then 1 else 0
 | .Ww A m=>nF J.T λt=>if A t then m - cnt J.n (J.at q t)else 0
 | .E0 A m=>nF J.T λt=>if A t then cnt J.n (J.at q t) - m else 0
def JT.left:Nat:=cnt J.n λg=> !on q g
def JT.YH:Nat:=cnt J.n λg=> !on q g&&J.host g
def JT.least:RM->Nat
 | .spk f=>if 0<J.left q then 0 else f q
 | .gI A=>J.kq q (.gI A) - J.YH q
 | .Ww A m=>J.kq q (.Ww A m) - J.left q
 |r=>J.kq q r
end
def Ext(n:Nat)(q p:Nat->Int):Prop:=∀g,g<n->0<=q g->p g=q g
theorem Ext.on{n:Nat}{q p:Nat->Int}(h:Ext n q p){g:Nat}(hg:g<n)(e:Go.Ai.on q g=true):Go.Ai.on p g=true/\p g=q g:=by
 have e:0<=q g:=Zf7 e;have:=h g hg e;exact⟨Za0 (by omega),this⟩
section
variable{J : JT}{q p : Nat -> Int}
theorem akb(h:Ext J.n q p){t g:Nat}(hg:g<J.n)(e:J.at q t g=true):J.at p t g=true:=by
 unfold JT.at at e ⊢;simp only[Zb5]at e ⊢;obtain⟨h1,h2⟩:=h.on hg e.1;exact⟨h1,by rw[h2];exact e.2⟩
theorem anc(h:Ext J.n q p)(t:Nat)(P:Nat->Bool):cnt J.n (λg=>J.at p t g&&P g)=cnt J.n (λg=>J.at q t g&&P g)+cnt J.n (λg=>(!on q g&&on p g&&P g)&&J.tab (p g)==t):=by
 rw[Nu J.n (λg=>J.at p t g&&P g) (λg=>on q g)];congr 1
 . (refine yI λg hg=> ?_);cases e:on q g with
   |false=>simp[JT.at,e]
   |true=>
    obtain⟨h1,h2⟩:=h.on hg e;simp[JT.at,e,h1,h2]
 . (refine yI λg hg=> ?_);unfold JT.at;cases on p g<;>cases on q g<;>cases P g<;>simp
theorem ane(h:Ext J.n q p)(P:Nat->Bool):cnt J.n (λg=> !on q g&&on p g&&P g)+cnt J.n (λg=> !on p g&&P g)=cnt J.n (λg=> !on q g&&P g):=by
 rw[Nu J.n (λg=> !on q g&&P g) (λg=>on p g)];congr 1
 . (refine yI λg hg=> ?_);cases on p g<;>cases on q g<;>cases P g<;>rfl
 . (refine yI λg hg=> ?_);cases e:on q g with
   |true=>simp[(h.on hg e).1]
   |false=>cases on p g<;>cases P g<;>rfl
theorem arq{b c:Bool}(h:b=true->c=true):(if b then 1 else 0)<=(if c then 1 else 0:Nat):=by cases b<;>cases c<;>simp_all
def RM.Fit(n:Nat):RM->Prop
 | .two a b _=>a<n/\b<n
 | .one a _=>a<n
 | .spk f=>∀q p:Nat->Int,(∀g,g<n->q g=p g)->f q=f p
 |_=>True
theorem atF(h:Ext J.n q p)(A:Nat->Bool):J.kq q (.gI A)<=J.kq p (.gI A)+cnt J.n (λg=> !on q g&&on p g&&J.host g):=by
 refine Zb1 (m:=nF J.T λt=>(if A t&&decide (0<cnt J.n (J.at p t))&&decide (cnt J.n (λg=>J.at p t g&&J.host g)=0)then 1 else 0)+cnt J.n (λg=>(!on q g&&on p g&&J.host g)&&J.tab (p g)==t)) (yH λt _=> ?_) ?_
 . have e1:=anc h t J.host;have e2:=vM (n:=J.n) (P:=J.at q t) (Q:=J.at p t) λg hg e=>akb h hg e
   split
   . rename_i hc;simp only[Zb5,Ze4]at hc;by_cases h0:cnt J.n (λg=>(!on q g&&on p g&&J.host g)&&J.tab (p g)==t)=0
     .  rw[Zb2 (by simp only[Zb5,Ze4];exact⟨⟨hc.1.1,by omega⟩,by omega⟩)];omega
     .  omega
   . omega
 . rw[aaX];exact Nat.add_le_add_left (acp J.n _ (λg=>J.tab (p g)) J.T) _
theorem atG(h:Ext J.n q p)(A:Nat->Bool)(m:Nat):J.kq q (.Ww A m)<=J.kq p (.Ww A m)+cnt J.n (λg=> !on q g&&on p g&&true):=by
 refine Zb1 (m:=nF J.T λt=>(if A t then m - cnt J.n (J.at p t)else 0)+cnt J.n (λg=>(!on q g&&on p g&&true)&&J.tab (p g)==t)) (yH λt _=> ?_) ?_
 . have e1:=anc h t (λ_=>true);simp only[Zi5]at e1 ⊢;have e3:cnt J.n (λg=>J.at p t g)=cnt J.n (J.at p t):=rfl;have e4:cnt J.n (λg=>J.at q t g)=cnt J.n (J.at q t):=rfl;split<;>omega
 . rw[aaX];exact Nat.add_le_add_left (acp J.n _ (λg=>J.tab (p g)) J.T) _
theorem alc(h:Ext J.n q p)(r:RM)(hr:r.Fit J.n):J.least q r<=J.least p r:=by
 cases r with
 |two a b P=>
  have ha:=hr;refine arq λe=> ?_
  simp only[Zb5]at e ⊢;obtain⟨h1,h2⟩:=h.on ha.1 e.1.1;obtain⟨h3,h4⟩:=h.on ha.2 e.1.2;exact⟨⟨h1,h3⟩,by rw[h2,h4];exact e.2⟩
 |one a P=>
  have ha:=hr;refine arq λe=> ?_
  simp only[Zb5]at e ⊢;obtain⟨h1,h2⟩:=h.on (g:=a) ha e.1;exact⟨h1,by rw[h2];exact e.2⟩
 |Nv P=>
  refine yH λa ha=>vM λb hb e=> ?_
  simp only[Zb5]at e ⊢;obtain⟨h1,h2⟩:=h.on ha e.1.1.2;obtain⟨h3,h4⟩:=h.on hb e.1.2;exact⟨⟨⟨e.1.1.1,h1⟩,h3⟩,by rw[h2,h4];exact e.2⟩
 |pV P=>
  refine vM λg hg e=> ?_
  simp only[Zb5]at e ⊢;obtain⟨h1,h2⟩:=h.on hg e.1;exact⟨h1,by rw[h2];exact e.2⟩
 |spk f=>
  have hl:J.left p<=J.left q:=vM λg hg e=>by
    cases e2:on q g with
    |false=>rfl
    |true=>rw[(h.on hg e2).1]at e;cases e
  show(if 0<J.left q then 0 else f q)<=(if 0<J.left p then 0 else f p)
  by_cases h0:0<J.left q
  . rw[Zb2 h0];exact Zh9 _
  . rw[Za7 h0,Za7 (by omega)];refine Zr2 (hr q p λg hg=> ?_);cases e:on q g with
    |true=>exact(h.on hg e).2.symm
    |false=>exact absurd (ar4 (n:=J.n) (P:=λg=> !on q g) hg (by simp[e])) h0
 |gI A=>
  have a:=atF h A;have b:=ane h J.host;show J.kq q (.gI A) - J.YH q<=J.kq p (.gI A) - J.YH p;unfold JT.YH;omega
 |Ww A m=>
  have a:=atG h A m;have b:=ane h (λ_=>true);show J.kq q (.Ww A m) - J.left q<=J.kq p (.Ww A m) - J.left p;unfold JT.left;simp only[Zi5]at a b;omega
 |E0 A m=>
  refine yH λt _=> ?_
  have:=vM (n:=J.n) (P:=J.at q t) (Q:=J.at p t) λg hg e=>akb h hg e
  split<;>omega
theorem least_le(r:RM):J.least q r<=J.kq q r:=by
 cases r with
 |spk f=>
  show(if 0<J.left q then 0 else f q)<=f q;split
  . exact Zh9 _
  . exact Za3 _
 |gI A=>exact Nat.sub_le _ _
 |Ww A m=>exact Nat.sub_le _ _
 |_=>exact Za3 _
end
def rf(tk:List Bool)(fr:Nat):Nat->Nat->Option Nat
 |0,_=>none
 |m+1,k=>if tk.getD ((fr+k) % tk.length) true=false then some ((fr+k) % tk.length)else rf tk fr m (k+1)
def nU(tk:List Bool)(fr:Nat):List Bool×Int:=match rf tk fr tk.length 0 with
 |some s=>(tk.set s true,(s:Int))
 |none=>(tk,-1)
theorem IC{tk:List Bool}{fr s:Nat}:∀{m k:Nat},rf tk fr m k=some s->tk[s]? =some false
 |0,_,h=>by cases h
 |m +1,k,h=>by
  unfold rf at h;split at h
  . rename_i e;cases h;cases e2:tk[(fr+k) % tk.length]? with
    |none=>rw[Zb6,e2]at e;simp at e
    |some b=>rw[Zb6,e2]at e;simp at e;rw[e]
  . exact IC h
theorem TZ{tk:List Bool}{fr:Nat}:∀{m k:Nat},rf tk fr m k=none->∀j,k<=j->j<k+m->tk.getD ((fr+j) % tk.length) true=true
 |0,_,_,j,h1,h2=>by omega
 |m +1,k,h,j,h1,h2=>by
  unfold rf at h;split at h
  . cases h
  . rename_i e;by_cases e2:j=k
    . subst e2;simpa using e
    . exact TZ h j (by omega) (by omega)
def qw(tk:List Bool):Nat:=(tk.filter λb=> !b).length
theorem aeS:∀{tk:List Bool}{s:Nat},tk[s]? =some false->qw (tk.set s true)+1=qw tk
 |b::tk,0,h=>by simp at h;subst h;simp[qw]
 |b::tk,s+1,h=>by have ih:=aeS (tk:=tk) (s:=s) (by simpa using h);unfold qw at ih ⊢;cases b<;>simp[List.set]at ih ⊢ <;>omega
theorem aeT:∀{tk:List Bool},0<qw tk->∃s:Nat,tk[s]? =some false
 |[],h=>by simp[qw]at h
 |false::tk,_=>⟨0,rfl⟩
 |true::tk,h=>by
  obtain⟨s,hs⟩:=aeT (tk:=tk) (by simpa [qw]using h);exact⟨s+1,by simpa using hs⟩
theorem vN(tk:List Bool)(fr:Nat):((nU tk fr).2= -1/\(nU tk fr).1=tk/\qw tk=0)\/∃s:Nat,nU tk fr=(tk.set s true,(s:Int))/\tk[s]? =some false:=by
 unfold nU;cases e:rf tk fr tk.length 0 with
 |some s=>exact .inr ⟨s,rfl,IC e⟩
 |none=>
  refine .inl ⟨rfl,rfl,?_⟩;rcases Zn0 (qw tk)with h|h
  . exact h
  . exfalso;obtain⟨s,hs⟩:=aeT h;have hl:s<tk.length:=(Za2.1 hs).1;have key:=TZ e ((s+tk.length - fr % tk.length) % tk.length) (Zh9 _) (by rw[Zb4];exact Zk4 _ (by omega));have hm:fr % tk.length<tk.length:=Zk4 _ (by omega);have:(fr+(s+tk.length - fr % tk.length) % tk.length) % tk.length=s:=by
        rw[Nat.add_mod,Nat.mod_mod];rcases Zi6 (s+tk.length - fr % tk.length) tk.length with h1|h1
        . rw[Zk7 h1];rw[show fr % tk.length+(s+tk.length - fr % tk.length)=s+tk.length by omega,Nat.add_mod_right,Zk7 hl]
        . rw[Zp7 h1,Zk7 (by omega:s+tk.length - fr % tk.length - tk.length<tk.length)];rw[show fr % tk.length+(s+tk.length - fr % tk.length - tk.length)=s by omega,Zk7 hl]
    rw[this,Zb6,hs]at key;simp at key
inductive Ch where
 |no
 |Ck (s:Nat)
 |fr (f:Nat)
def dR(tk:List Bool):List Ch->List Int
 |[]=>[]
 | .no::l=> -1::dR tk l
 | .Ck s::l=>(s:Int)::dR tk l
 | .fr f::l=>(nU tk f).2::dR (nU tk f).1 l
theorem R9:∀(l:List Ch)(tk:List Bool),(dR tk l).length=l.length
 |[],_=>rfl
 | .no::l,tk=>by simp[dR,R9 l]
 | .Ck s::l,tk=>by simp[dR,R9 l]
 | .fr f::l,tk=>by simp[dR,R9 l]
theorem aeU(tk:List Bool)(f:Nat):(nU tk f).1.length=tk.length:=by rcases vN tk f with⟨_,h,_⟩|⟨s,h,_⟩<;>rw[h]<;>simp
def Sat(tk:List Bool)(l:List Ch):Prop:=(∀s,Ch.Ck s∈l->tk[s]? =some true)/\∀(i j s:Nat),l[i]? =some (.Ck s)->l[j]? =some (.Ck s)->i=j
theorem Sat.tail{tk:List Bool}{c:Ch}{l:List Ch}(h:Sat tk (c::l)):Sat tk l:=
 ⟨λs hs=>h.1 s (Za9 _ hs),λi j s h1 h2=>by have:=h.2 (i+1) (j+1) s (by simpa using h1) (by simpa using h2);omega⟩
theorem Sat.place{tk:List Bool}{l:List Ch}(h:Sat tk l)(f:Nat):Sat (nU tk f).1 l:=by
 refine⟨λs hs=> ?_,h.2⟩;have:=h.1 s hs;rcases vN tk f with⟨_,e,_⟩|⟨s',e,h'⟩<;>rw[e]
 . exact this
 . by_cases e2:s'=s
   . subst e2;rw[h']at this;cases this
   . rw[Ze5 e2];exact this
theorem Cl:∀(l:List Ch)(tk:List Bool),Sat tk l->∀(i:Nat)(v:Int),(dR tk l)[i]? =some v->v= -1\/∃s:Nat,v=(s:Int)/\(tk[s]? =some false\/(tk[s]? =some true/\l[i]? =some (.Ck s)))
 |[],_,_,i,v,h=>by simp[dR]at h
 |c::l,tk,hs,0,v,h=>by
  cases c with
  |no=>simp[dR]at h;exact .inl h.symm
  |Ck s=>simp[dR]at h;exact .inr ⟨s,h.symm,.inr ⟨hs.1 s (Zd5),rfl⟩⟩
  |fr f=>
   simp[dR]at h;rcases vN tk f with⟨e,_,_⟩|⟨s,e,h'⟩
   .    exact .inl (by rw[<-h,e])
   .    exact .inr ⟨s,by rw[<-h,e],.inl h'⟩
 |c::l    ,tk,hs,i+1,v,h=>by
  cases c with
  |no=>simpa using Cl l tk hs.tail i v (by simpa [dR]using h)
  |Ck s=>simpa using Cl l tk hs.tail i v (by simpa [dR]using h)
  |fr f=>
   have h:(dR (nU tk f).1 l)[i]? =some v:=(by simpa [dR]using h);rcases Cl l _ (hs.tail.place f) i v h with e|⟨s,e,h'⟩
   .    exact .inl e
   .    refine .inr ⟨s,e,?_⟩;rcases vN tk f with⟨_,e2,_⟩|⟨s',e2,h2⟩<;>rw[e2]at h'
        . simpa using h'
        . by_cases e3:s'=s
          . subst e3;exact .inl h2
          . rw[Ze5 e3]at h';simpa using h'
theorem KC:∀(l:List Ch)(tk:List Bool),Sat tk l->∀(i j:Nat)(v:Int),i<j->(dR tk l)[i]? =some v->(dR tk l)[j]? =some v->v= -1
 |[],_,_,i,j,v,_,h,_=>by simp[dR]at h
 |c::l    ,tk,hs,0,j+1,v,_,h1,h2=>by
  cases c with
  |no=>simp[dR]at h1;exact h1.symm
  |Ck s=>
   simp[dR]at h1;rcases Cl l tk hs.tail j v (by simpa [dR]using h2)with e|⟨s',e,h'|h'⟩
   .    exact e
   .    have:=hs.1 s (Zd5);obtain rfl:s'=s:=(by omega);rw[this]at h';cases h'
   .    obtain rfl:s'=s:=(by omega);have:=hs.2 0 (j+1) s' rfl (by simpa using h'.2);omega
  |fr f=>
   simp[dR]at h1;have h2:(dR (nU tk f).1 l)[j]? =some v:=(by simpa [dR]using h2);rcases vN tk f with⟨e,_,_⟩|⟨s,e,h'⟩
   .    rw[<-h1,e]
   .    rcases Cl l _ (hs.tail.place f) j v h2 with e2|⟨s',e2,h3|h3⟩
        . exact e2
        . rw[e]at h1 h3;obtain rfl:s'=s:=(by simp at h1;omega);have hl:=(Za2.1 h').1;simp[Zf0 hl]at h3
        . rw[e]at h1;obtain rfl:s'=s:=(by simp at h1;omega);have:=hs.tail.1 s' (Zc0 h3.2);rw[h']at this;cases this
 |c::l,tk,hs,i+1,j+1,v,Wo,h1,h2=>by
  cases c with
  |no=>exact KC l tk hs.tail i j v (by omega) (by simpa [dR]using h1) (by simpa [dR]using h2)
  |Ck s=>exact KC l tk hs.tail i j v (by omega) (by simpa [dR]using h1) (by simpa [dR]using h2)
  |fr f=>exact KC l _ (hs.tail.place f) i j v (by omega) (by simpa [dR]using h1) (by simpa [dR]using h2)
def looks:List Ch->Nat
 |[]=>0
 | .fr _::l=>looks l+1
 |_::l=>looks l
theorem Nw:∀(l:List Ch)(tk:List Bool),looks l<=qw tk->∀(i:Nat)(f:Nat),l[i]? =some (.fr f)->∃s:Nat,(dR tk l)[i]? =some (s:Int)
 |[],_,_,i,f,h=>by simp at h
 |c::l,tk,hl,0,f,h=>by
  simp at h;subst h;rcases vN tk f with⟨_,_,e⟩|⟨s,e,_⟩
  . simp[looks]at hl;omega
  . exact⟨s,by simp[dR,e]⟩
 |c ::l,tk,hl,i+1,f,h=>by
  have h:l[i]? =some (.fr f):=by simpa using h
  cases c with
  |no=>simpa [dR]using Nw l tk (by simpa [looks]using hl) i f h
  |Ck s=>simpa [dR]using Nw l tk (by simpa [looks]using hl) i f h
  | fr g=>
    have:=Nw l (nU tk g).1 (by
        rcases vN tk g with⟨_,e,e2⟩|⟨s,e,h'⟩
        . simp[looks]at hl;omega
        . rw[e];have:=aeS h';simp[looks]at hl;simp only;omega) i f h
    simpa [dR]using this
end
section
open Go
section
variable{R : Type}{c : aj}
theorem ar5{v z:AV}{n N k:Nat}(hk:k<=n):cut (List.replicate n v++List.replicate N z) 0 k=some (List.replicate k v):=by
 unfold cut;rw[dz,Za0 (by simp;omega)];simp only[Ze2];rw[Zl3 (by simpa using hk),List.take_replicate,Zk3 hk]
theorem ald{v z:AV}{n m k:Nat}:aX (List.replicate n v++List.replicate m z) n (List.replicate k v)=List.replicate (n+k) v++List.replicate (m - k) z:=by unfold aX;rw[Zl3 (by simp),Zf9 (by simp)];rw[<-Zf1,List.replicate_append_replicate];congr 1;rw[List.drop_append];simp
theorem Sa{v:AV}(hv:v.one=true):∀k,aS (List.replicate k v)=true
 |0=>rfl
 |k+1=>by rw[Zm6];unfold aS;rw[hv];exact Sa hv k
theorem aht{b:Pos}{v z:AV}{n m:Nat}{cp I3:Option Nat}(hn:0<n)(hm:0<m)(hv:v.one=true){s:St}(h:s.heap.get b=some (.cells (List.replicate n v++List.replicate m z) 0))(K:AV->St->Option R):
  aq c (.copyB 1) [.slice b n m cp 1,.slice b 0 n I3 1] s K=K (.int .i64 ((min n m:Nat):Int)) (bk s b (.cells (List.replicate (n+min n m) v++List.replicate (m - min n m) z) 0)):=by
 have e:aH.run (λb=>s.heap.get b) s.next (.copyB 1) [.slice b n m cp 1,.slice b 0 n I3 1]=some (.bh (K9 (min n m)) none (some (b,.cells (List.replicate (n+min n m) v++List.replicate (m - min n m) z) 0)) none):=by
  show pM (λb=>s.heap.get b) s.next 1 [.slice b n m cp 1,.slice b 0 n I3 1]=_;unfold pM;simp only[eV];rw[dB,Za1 (by omega)];simp only;have hf:dL 1 (min n m) (λb=>s.heap.get b) (.slice b 0 n I3 1)=some (List.replicate (min n m) v):=by
   unfold dL;rw[dB,Za1 (by omega)];simp only;rw[h];simp only[Zn1];exact ar5 (Nat.min_le_left _ _)
  rw[h,hf];simp only;rw[dz,Za0 (by simp;omega),dz,Za0 (Zh9 _),Sa hv];simp only;rw[ald]
 unfold aq cL;rw[e];rfl
theorem aaY{n:Int}(h0:0<=n)(h1:n<4294967296)(s:St)(K:AV->St->Option R):aq c (.bin .and .num) [.int .u64 n,.int .u64 4294967295] s K=K (.int .u64 n) s:=by
 obtain⟨m,rfl⟩:=Int.eq_ofNat_of_zero_le h0;have hm:m<4294967296:=by omega
 have e:(IntKind.u64.wrap ((BitVec.ofInt IntKind.u64.bits (m:Int) &&& BitVec.ofInt IntKind.u64.bits 4294967295).toNat:Int))=(m:Int):=by
  have e1:(BitVec.ofInt 64 (m:Int) &&& BitVec.ofInt 64 4294967295).toNat=m:=by
   rw[BitVec.toNat_and];have a:(BitVec.ofInt 64 (m:Int)).toNat=m:=(by rw[BitVec.toNat_ofInt];omega);have b:(BitVec.ofInt 64 4294967295).toNat=2 ^ 32 - 1:=(by decide);rw[a,b,Nat.and_two_pow_sub_one_eq_mod,Zk7 (by omega)]
  show IntKind.u64.wrap (((BitVec.ofInt 64 (m:Int) &&& BitVec.ofInt 64 4294967295).toNat:Nat):Int)=_;rw[e1];simp only[IntKind.wrap,show IntKind.u64.bits=64 from rfl];have hs:IntKind.u64.signed=false:=rfl;simp only[hs,Zq1,Zf5,Zh0];omega
 refine aU c K (λH n=> ?_) s;show(pL .and .num (.int .u64 (m:Int)) (.int .u64 4294967295)).map eR.val=_;unfold pL;simp only[dK];rw[e];rfl
end
theorem apH{R:Type}(K:AV->Option R){b:Pos}{off len es es':Nat}{cap:Option Nat}{k:IntKind}{i:Nat}(h:i<len):fu (.idxA es none) [.slice b off len cap es',.int k (i:Int)] K=K (.ptr b (off+i*es)):=
 dm K (λH n=>by
  simp only[aH.run,sP,ju];have:Nat.blt i len=true:=by rw[Zr1];exact h
  rw[this])
end
section
abbrev Ev:=Nat×List Int
def j9(l:List Ev):Nat:=(l.map λe=>e.1).sum
def fM(l:List Ev):Nat:=(l.map λe=>e.1+e.2.length).sum
theorem adK(l m:List Ev):j9 (l++m)=j9 l+j9 m:=by unfold j9;rw[Zd4,Zr7]
theorem KV(l m:List Ev):fM (l++m)=fM l+fM m:=by unfold fM;rw[Zd4,Zr7]
theorem ar6(k:Nat)(w:List Int):j9 [(k,w)]=k:=rfl
def cG(f:Nat->List Ev):Nat->Nat->List Ev
 |0,_=>[]
 |m+1,k=>f k++cG f m (k+1)
theorem acq(f:Nat->List Ev):∀m k,cG f (m+1) k=cG f m k++f (k+m)
 |0,k=>by simp[cG]
 |m+1,k=>by
  have:=acq f m (k+1);rw[cG,this,cG,Zf1,show k+1+m=k+(m+1)by omega]
theorem FV(f:Nat->List Ev):∀n,j9 (cG f n 0)=nF n λi=>j9 (f i)
 |0=>rfl
 |n+1=>by rw[acq,adK,FV f n,Zb4];rfl
theorem AM{f:Nat->List Ev}{B:Nat}(h:∀k,fM (f k)<=B):∀m k,fM (cG f m k)<=m*B
 |0,_=>by simp[cG,fM]
 |m+1,k=>by have:=AM h m (k+1);have:=h k;rw[cG,KV,Zg4];omega
theorem akc(n:Nat)(P:Nat->Bool):(nF n λi=>if P i then 1 else 0)=cnt n P:=by
 induction n with
 |zero=>rfl
 |succ n ih=>unfold nF cnt;rw[ih]
def JT.who(J:JT)(q:Nat->Int)(t:Nat):List Int:=((List.range J.n).filter (J.at q t)).map λ(g:Nat)=>(g:Int)
theorem Sb(n:Nat)(P:Nat->Bool):cnt (n+1) P=cnt n P+if P n then 1 else 0:=rfl
theorem Wx(P:Nat->Bool):∀n,((List.range n).filter P).length=cnt n P
 |0=>rfl
 |n+1=>by
  rw[Zf8,Zk8,Ze3,Wx P n,Sb];cases e:P n<;>simp[e]
theorem JT.adL(J:JT)(q:Nat->Int)(t:Nat):(J.who q t).length=cnt J.n (J.at q t):=by unfold JT.who;rw[Za5,Wx]
theorem ar7(P Q:Nat->Bool)(n:Nat):((List.range n).filter P).any Q=decide (0<cnt n λg=>P g&&Q g):=by
 induction n with
 |zero=>rfl
 |succ n ih=>
  rw[Zf8,Zk8,List.any_append,ih,Sb];cases e:P n<;>cases e2:Q n<;>simp[e,e2]
section
variable(J : JT)(q : Nat -> Int)
def yJ(b:Bool)(k:Nat)(w:List Int):List Ev:=if b then [(k,w)]else []
theorem Lw(b:Bool)(k:Nat)(w:List Int):j9 (yJ b k w)=if b then k else 0:=by unfold yJ;split<;>rfl
theorem GW(b:Bool)(k:Nat)(w:List Int):fM (yJ b k w)<=k+w.length:=by unfold yJ;split<;>simp[fM]
def vz(P:Nat->Nat->Int->Int->Bool)(a b:Nat):List Ev:=yJ (on q a&&on q b&&P a b (q a) (q b)) 1 [(a:Int),(b:Int)]
def Dj(a b:Nat)(P:Int->Int->Bool):List Ev:=yJ (on q a&&on q b&&P (q a) (q b)) 1 [(a:Int),(b:Int)]
def Wy(a:Nat)(P:Int->Bool):List Ev:=yJ (on q a&&P (q a)) 1 [(a:Int)]
def zZ(n:Nat)(P:Nat->Nat->Int->Int->Bool):List Ev:=cG (λa=>cG (vz q P a) (n - (a+1)) (a+1)) n 0
def Oj(n:Nat)(P:Nat->Int->Bool):List Ev:=cG (λg=>yJ (on q g&&P g (q g)) 1 [(g:Int)]) n 0
def aaZ(T:Nat)(A:Nat->Bool)(D:List Int->List Ev):List Ev:=cG (λt=>if A t then D (J.who q t)else []) T 0
def Sc(host:Nat->Bool)(l:List Int):List Ev:=yJ (!(l.any λg=>host g.toNat)&&decide (0<l.length)) 1 l
def Sd(m:Nat)(l:List Int):List Ev:=yJ (decide (l.length<m)) (m - l.length) l
def Se(m:Nat)(l:List Int):List Ev:=yJ (decide (m<l.length)) (l.length - m) l
end
section
variable{J : JT}{q : Nat -> Int}
theorem P0(a b:Nat)(P:Int->Int->Bool):j9 (Dj q a b P)=J.kq q (.two a b P):=Lw _ _ _
theorem ahu(a:Nat)(P:Int->Bool):j9 (Wy q a P)=J.kq q (.one a P):=Lw _ _ _
theorem aeV(f:Nat->List Ev):∀m k,j9 (cG f m k)+nF k (λi=>j9 (f i))=nF (k+m) λi=>j9 (f i)
 |0,k=>by simp[cG,j9]
 |m+1,k=>by
  have:=aeV f m (k+1);rw[cG,adK];rw[show k+(m+1)=k+1+m by omega, <-this];show _=_+(nF k _+j9 (f k))
  omega
theorem P7(P:Nat->Nat->Int->Int->Bool):j9 (zZ q J.n P)=J.kq q (.Nv P):=by
 unfold zZ;rw[FV];refine zA λa ha=> ?_
 have h1:=aeV (λb=>if a<b then vz q P a b else []) (J.n - (a+1)) (a+1);have h2:nF (a+1) (λi=>j9 (if a<i then vz q P a i else []))=0:=by
   have:∀m,m<=a+1->nF m (λi=>j9 (if a<i then vz q P a i else []))=0:=λm=>by
    induction m with
    |zero=>intro _;rfl
    |succ m ih=>intro hm;unfold nF;rw[ih (by omega),Za7 (by omega)];rfl
   exact this _ (Za3 _)
 have h3:∀m k,a<k->cG (λb=>if a<b then vz q P a b else []) m k=cG (vz q P a) m k:=λm=>by
   induction m with
   |zero=>intro k _;rfl
   |succ m ih=>intro k hk;rw[cG,cG,Zb2 hk,ih (k+1) (by omega)]
 rw[h3 _ _ (by omega),h2,Zg0,show a+1+(J.n - (a+1))=J.n by omega]at h1;rw[h1, <-akc];refine zA λb _=> ?_
 unfold vz;by_cases h:a<b
 . rw[Zb2 h,Lw,Za0 h,Zg1]
 . rw[Za7 h,Za1 h];rfl
theorem adM(P:Nat->Int->Bool):j9 (Oj q J.n P)=J.kq q (.pV P):=by unfold Oj;rw[FV];show _=cnt J.n _;rw[<-akc];exact zA λg _=>Lw _ _ _
theorem ar8(A:Nat->Bool):j9 (aaZ J q J.T A (Sc J.host))=J.kq q (.gI A):=by
 unfold aaZ;rw[FV];refine zA λt _=> ?_
 cases hA:A t with
 |false=>simp[j9]
 |true=>
  simp only[Zh6,Zg1];unfold Sc;rw[Lw,J.adL];have:(J.who q t).any (λg=>J.host g.toNat)=decide (0<cnt J.n λg=>J.at q t g&&J.host g):=by unfold JT.who;rw[List.any_map];exact ar7 _ _ _
  rw[this];by_cases h:0<cnt J.n λg=>J.at q t g&&J.host g
  . rw[Za0 h,Za1 (show ¬cnt J.n (λg=>J.at q t g&&J.host g)=0 by omega)];simp
  . rw[Za1 h,Za0 (show cnt J.n (λg=>J.at q t g&&J.host g)=0 by omega)];simp
theorem ar9(A:Nat->Bool)(m:Nat):j9 (aaZ J q J.T A (Sd m))=J.kq q (.Ww A m):=by
 unfold aaZ;rw[FV];refine zA λt _=> ?_
 cases hA:A t with
 |false=>simp[j9]
 |true=>
  simp only[Zh6];unfold Sd;rw[Lw,J.adL];simp only[Ze4];split<;>omega
theorem asa(A:Nat->Bool)(m:Nat):j9 (aaZ J q J.T A (Se m))=J.kq q (.E0 A m):=by
 unfold aaZ;rw[FV];refine zA λt _=> ?_
 cases hA:A t with
 |false=>simp[j9]
 |true=>
  simp only[Zh6];unfold Se;rw[Lw,J.adL];simp only[Ze4];split<;>omega
end
theorem akd(q:Nat->Int)(C:Int->Bool)(P:Nat->Nat->Int->Int->Bool)(a:Nat):∀m k,cG (vz q (λa b x y=>C x&&P a b x y) a) m k=if on q a&&C (q a)then cG (vz q P a) m k else []
 |0,k=>by simp[cG]
 |m+1,k=>by
  rw[cG,akd q C P a m (k+1),cG];unfold vz;cases e1:on q a<;>cases e2:C (q a)<;>simp[yJ,e1,e2]
theorem rV(k:Nat)(w:List Int):yJ true k w=[(k,w)]:=rfl
theorem eH(k:Nat)(w:List Int):yJ false k w=[]:=rfl
def Bm(tab:Nat->Nat)(t:Nat):Nat->Nat
 |0=>0
 |i+1=>if tab i=t then Bm tab t i else i+1
end
section
open Go
structure Rd(s:St)(es:Nat)(L:AV)(i:Nat)(b:Pos)(o:Nat)(r:List AV):Prop where
 st:∀{R:Type}(c:aj)(K:AV->St->Option R)(k:IntKind)(s1:St),aq c (.idxA es none) [L,.int k (i:Int)] s1 K=K (.ptr b o) s1
 pr:∀{R:Type}(K:AV->Option R)(k:IntKind),fu (.idxA es none) [L,.int k (i:Int)] K=K (.ptr b o)
 at':∀(j:Nat)(u:AV),r[j]? =some u->((cellsOf (s.heap.get b)).bind λcs=>cs[o+j]?)=some u
 all:((cellsOf (s.heap.get b)).bind λcs=>cut cs o es)=some r
theorem QS.rd{s:St}{es:Nat}{v:AV}{rows:List (List AV)}(h:QS es s v rows)(hr:∀r∈rows,r.length=es){i:Nat}{r:List AV}(hi:rows[i]? =some r):∃b o,Rd s es v i b o r:=by
 obtain⟨gX,rfl⟩:=Za2.1 hi;have hlen:=hr _ (Zb9 gX);rcases h with⟨rfl,h⟩|⟨b,off,cap,cs,rfl,g1,g2,g3,g4⟩|⟨b,off,rfl,h⟩
 . rw[h]at gX;simp at gX
 rotate_left
 . rw[h]at gX;simp at gX
 have hmul:(i+1)*es<=rows.length*es:=Zg9 _ gX;rw[Zg4]at hmul;have at0:∀(j:Nat)(u:AV),rows[i][j]? =some u->cs[off+i*es+j]? =some u:=λj u hj=>by have hj2:j<es:=(by rw[<-hlen];exact(Za2.1 hj).1);have:=Go.Ai.yE hr i j rows[i] u (H0 gX) hj;rw[<-g3,Ze0,Zb2 (by omega),Ze8]at this;rw[<-this];congr 1;omega
 refine⟨b,off+i*es,λc K k s1=>iy c K s1 gX,λK k=>apH K gX,λj u hj=>by rw[g1];exact at0 j u hj,?_⟩;rw[g1];show cut cs (off+i*es) es=some rows[i];unfold cut;rw[dz,Za0 (by omega)];refine congrArg some ?_;apply Zi4;intro j;by_cases hj:j<es
 . rw[Ze0,Zb2 hj,Ze8];exact(at0 j (rows[i]'gX)[j] (H0 (by omega))).trans (H0 (by omega)).symm
 . rw[Zc1 (by simp;omega),Zc1 (by omega)]
theorem Rd.one{s:St}{L x:AV}{i:Nat}{b:Pos}{o:Nat}(h:Rd s 1 L i b o [x]):((cellsOf (s.heap.get b)).bind λcs=>cs[o]?)=some x:=h.at' 0 x rfl
theorem QS.Lx{s:St}{v:AV}{l:List AV}(h:QS 1 s v (l.map ov)){i:Nat}{x:AV}(hx:l[i]? =some x):∃b o,Rd s 1 v i b o [x]:=
 h.rd (ahk l) (by rw[Zb8,hx];rfl)
def RQ(s:St)(L:AV)(rows:List (List AV)):Prop:=∃ws:List AV,QS 1 s L (ws.map ov)/\ws.length=rows.length/\∀(i:Nat)(w:AV)(r:List AV),ws[i]? =some w->rows[i]? =some r->QS 1 s w (r.map ov)
theorem RQ.rd{s:St}{L:AV}{rows:List (List AV)}(h:RQ s L rows){i:Nat}{r:List AV}(hr:rows[i]? =some r):∃w b o,Rd s 1 L i b o [w]/\QS 1 s w (r.map ov):=by
 obtain⟨ws,h1,h2,h3⟩:=h;have hi:i<ws.length:=by rw[h2];exact(Za2.1 hr).1
 obtain⟨b,o,h4⟩:=h1.Lx (H0 hi);exact⟨ws[i],b,o,h4,h3 i _ r (H0 hi) hr⟩
theorem RQ.ai{s s':St}{L:AV}{rows:List (List AV)}(h:RQ s L rows)(g:Grew s s'):RQ s' L rows:=by
 obtain⟨ws,h1,h2,h3⟩:=h;exact⟨ws,h1.mono λb x _ hx=>g.get hx,h2,λi w r a b=>(h3 i w r a b).mono λb x _ hx=>g.get hx⟩
theorem QS.ai{es:Nat}{s s':St}{v:AV}{rows:List (List AV)}(h:QS es s v rows)(g:Grew s s'):QS es s' v rows:=h.mono λb x _ hx=>g.get hx
section
variable{c : aj}{R : Type}
theorem YI{x:Int}(h1:0<=x)(h2:x<=18446744073709551615):av .u64 x=x:=by
 unfold av loI hiI;simp only;split
 . split
   . rfl
   . contradiction
 . contradiction
theorem aa0{a:Int}(h0:0<=a)(h1:a<4294967296)(s:St)(K:AV->St->Option R):aq c (.bin .shr .num) [.int .u64 a,.int .u64 32] s K=K (.int .u64 0) s:=aU c K (λH n=>by
 have e0:Bj (32:Int) 0=false:=by rw[fo];rfl
 have e1:min (32:Int).toNat (IntKind.bits .u64)=32:=rfl;simp only[aH.run,jr,pL,e0,e1];rw[Zm4 _ (by decide)];rw[show(2:Int) ^ 32=4294967296 from rfl,Int.ediv_eq_zero_of_lt h0 h1]
 ) s
theorem ajf{v z:AV}{m k:Nat}:aX (List.replicate m z) 0 (List.replicate k v)=List.replicate k v++List.replicate (m - k) z:=by unfold aX;simp
theorem ahv{b b2:Pos}{v z:AV}{m:Nat}{cp I3:Option Nat}(hm:0<m)(hv:v.one=true){s:St}(h:s.heap.get b=some (.cells (List.replicate m z) 0))(h2:s.heap.get b2=some (.cells [v] 0))(K:AV->St->Option R):
  aq c (.copyB 1) [.slice b 0 m cp 1,.slice b2 0 1 I3 1] s K=K (.int .i64 1) (bk s b (.cells (List.replicate 1 v++List.replicate (m - 1) z) 0)):=by
 have e:aH.run (λb=>s.heap.get b) s.next (.copyB 1) [.slice b 0 m cp 1,.slice b2 0 1 I3 1]=some (.bh (K9 1) none (some (b,.cells (List.replicate 1 v++List.replicate (m - 1) z) 0)) none):=by
  show pM (λb=>s.heap.get b) s.next 1 [.slice b 0 m cp 1,.slice b2 0 1 I3 1]=_;unfold pM;simp only[eV];have akS:min m 1=1:=by omega
  rw[show min 1 m=1 by omega,dB,Za1 (by omega)];simp only;have hf:dL 1 1 (λb=>s.heap.get b) (.slice b2 0 1 I3 1)=some (List.replicate 1 v):=by unfold dL;rw[dB,Za1 (by omega)];simp only;rw[h2];exact cW rfl
  rw[h,hf];simp only;rw[dz,Za0 (by simp;omega),dz,Za0 (Zh9 _),Sa hv];simp only;rw[ajf]
 unfold aq cL;rw[e];rfl
theorem anf{b:Pos}{N n:Nat}(h:n<=N)(k:IntKind)(K:AV->Option R):fu (.sliceL 1 true false false) [.slice b 0 N (some N) 1,.int k (n:Int)] K=K (.slice b n (N - n) (some (N - n)) 1):=dm K (λH m=>by
 have hb:bounds true false false [.int k (n:Int)]=some (some n,none,none):=by simp[bounds,ju]
 simp only[aH.run,iM,hb,dB,dz,Zh2,Zf2,Zi9,Za0 h,Za3];simp)
theorem ang{b:Pos}{N n:Nat}(h:n<=N)(k:IntKind)(K:AV->Option R):fu (.sliceL 1 false true false) [.slice b 0 N (some N) 1,.int k (n:Int)] K=K (.slice b 0 n (some N) 1):=dm K (λH m=>by
 have hb:bounds false true false [.int k (n:Int)]=some (none,some n,none):=by simp[bounds,ju]
 simp only[aH.run,iM,hb,dB,dz,Zh2,Zf2,Zi9,Zh9,Za0 h]
 all_goals simp)
theorem afy{b b2:Pos}{cp I3:Option Nat}{n:Nat}(s:St)(K:AV->St->Option R):aq c (.copyB 1) [.slice b 0 0 cp 1,.slice b2 0 n I3 1] s K=K (.int .i64 0) s:=by
 have e:aH.run (λb=>s.heap.get b) s.next (.copyB 1) [.slice b 0 0 cp 1,.slice b2 0 n I3 1]=some (.val (K9 0)):=by
  show pM (λb=>s.heap.get b) s.next 1 [.slice b 0 0 cp 1,.slice b2 0 n I3 1]=_;unfold pM;simp only[eV];rw[show min n 0=0 by omega]
 unfold aq cL;rw[e];rfl
end
theorem T.aa1{α:Type}{x:α}:∀(p:Pos)(t:T α),t.get p=some x->T.put (some x) p t=t
 |p,.e,h=>by rw[T.dW]at h;cases h
 | .h,.n l v r,h=>by have h:v=some x:=h;subst h;rfl
 | .o p,.n l v r,h=>by
   have h:l.get p=some x:=h;simp only[T.put];rw[T.aa1 p l h]
 | .i p,.n l v r,h=>by
   have h:r.get p=some x:=h;simp only[T.put];rw[T.aa1 p r h]
theorem ahw{s:St}{p:Pos}{b:AB}(h:s.heap.get p=some b):bk s p b=s:=by
 unfold bk;rw[T.aa1 p s.heap h]
theorem aa2{b:Pos}{off n es:Nat}(hn:n≠0)(h:Plain (.slice b off n (some n) es)):False:=by
 have h1:aD (λ_=>⟨0,0,off+n*es⟩) (b.toNat+1) (λ_=>none) (.slice b off n (some n) es) (.slice (some ⟨0,0+off,none⟩) n n):=
  .slice b off n (some n) es n _ (Za3 _) (λc hc=>by cases hc;rfl) (λ_=>⟨by omega,rfl,by simp⟩) (λh=>by cases h)
 have h2:=h _ (λ_=>⟨0,0,0⟩) _ 0 _ _ h1;cases h2 with
 |slice _ _ _ _ _ _ _ _ _ ha _=>exact absurd (ha hn).1 (by omega)
end
end Go.Ai
