/- The program as plain functions. -/
import Derived.Test.YtgihekklfnjkiaaGreatDoorAEvalD
import Derived.Maps.RangeRun
import Derived.Laws.EntriesVeiled
import Derived.WalkKit
import Derived.OpenShut
import Derived.ProofKit
import Derived.ShutString
set_option linter.all false
namespace Go.Ai
section
open Go Go.RowKit
def LeC(c c':aj):Prop:=∀f args st r,c f args st=some r->c' f args st=some r
theorem LeC.refl(c:aj):LeC c c:=λ_ _ _ _ h=>h
section
variable{c c':aj}
theorem Th(h:LeC c c'){k:aJ}{xs:List AV}{st:St}{r:AV×St}(e:cW c k xs st=some r):cW c' k xs st=some r:=by
 unfold cW at e ⊢;cases hr:k.run (λb=>st.heap.get b) st.next xs with
 |none=>simp[hr]at e
 |some x=>cases x with
  |val v=>simpa [hr]using e
  |br v d s n=>simpa [hr]using e
  |call f args=>simp only[hr]at e ⊢; exact h _ _ _ _ e
theorem ZW(h:LeC c c'):∀(os:List b9)(fr:Fr)(st:St)(r:Fr×St),mO c os fr st=some r->mO c' os fr st=some r
 |[],_,_,_,e=>e
 |o::os,fr,st,r,e=>by
  unfold mO at e ⊢;cases hw:cX fr o.guard with
  |none=>simp[hw]at e
  |some b=>cases b with
   |false=>simp only[hw]at e ⊢; exact ZW h _ _ _ _ e
   |    true=>
        simp only[hw]at e ⊢;cases hx:gu fr o.xs with
        |none=>simp[hx]at e
        |some xs=>
         simp only[hx]at e ⊢;cases hs:cW c o.k xs st with
         |none=>simp[hs]at e
         |some p=>simp only[hs]at e;simp only[Th h hs];exact ZW h _ _ _ _ e
theorem ab5 (h:LeC c c'):∀(os:List (Nat×b9))(recs:List Rec)(base:T AB)(fr:Fr)(st:St)(r:Fr×St),eM c os recs base fr st=some r->eM c' os recs base fr st=some r
 |[],_,_,_,_,_,e=>e
 |(j,   o)::os,recs,base,fr,st,r,e=>by
  have ih:=ab5 h os;unfold eM at e ⊢;cases hw:cX fr o.guard with
  |none=>simp[hw]at e
  | some b=>cases b with
    |false=>simp only[hw]at e ⊢; exact ih _ _ _ _ _ e
    |   true=>
        simp only[hw]at e ⊢;cases hx:gu fr o.xs with
        |none=>simp[hx]at e
        |some xs=>
         simp only[hx]at e ⊢;cases hc:o.cls with
         |  br=>
            simp only[hc]at e ⊢;cases hs:cW c o.k xs st with
            |none=>simp[hs]at e
            |some p=>simp only[hs]at e;simp only[Th h hs];exact ih _ _ _ _ _ e
         |  new=>
            simp only[hc]at e ⊢;split at e<;>first|(cases e;done)|exact ih _ _ _ _ _ e
         |  pure=>
            simp only[hc]at e ⊢;split at e<;>(try split at e)<;>(try split at e)<;>first|(cases e;done)|(simp only[*];exact ih _ _ _ _ _ e)|exact ih _ _ _ _ _ e
         |  read=>
            simp only[hc]at e ⊢;split at e<;>(try split at e)<;>(try split at e)<;>first|(cases e;done)|(simp only[*];exact ih _ _ _ _ _ e)|exact ih _ _ _ _ _ e
theorem ZX(h:LeC c c'):∀(n m:Nat),n<=m->∀(a:AC)(fr:Fr)(st:St)(r:oO×Fr×St),exec c n a fr st=some r->exec c' m a fr st=some r
 |0,_,_,_,_,_,_,e=>by simp[exec]at e
 |n+1,0,hm,_,_,_,_,_=>by omega
 |n+    1,m+1,hm,a,fr,st,r,e=>by
  have ih:=ZX h n m (by omega);cases a<;>simp only[exec,bJ]at e ⊢
  case skip=>exact e
  case exit=>exact e
  case ret=>exact e
  case region ops=>
   cases ho:mO c ops fr st with
   |none=>simp[ho]at e
   |some p=>simp only[ho]at e;simp only[ZW h _ _ _ _ ho];exact e
  case draw ops=>
   cases ho:eM c ops [] st.heap fr st with
   |none=>simp[ho]at e
   |some p=>simp only[ho]at e;simp only[ab5 h _ _ _ _ _ _ ho];exact e
  case seq a b=>
   cases ha:exec c n a fr st with
   |none=>simp[ha]at e
   |    some p=>
        obtain⟨ex,fC,bK⟩:=p;simp only[ha]at e;simp only[ih _ _ _ _ ha];cases ex<;>first|exact e|exact ih _ _ _ _ e
  case cond x a b=>
   split at e
   .    exact ih _ _ _ _ e
   .    exact ih _ _ _ _ e
   .    cases e
  case block id a=>
   cases ha:exec c n a fr st with
   |none=>simp[ha]at e
   |    some p=>
        obtain⟨ex,fC,bK⟩:=p;simp only[ha]at e;simp only[ih _ _ _ _ ha];cases ex<;>exact e
  case loop a=>
   cases ha:exec c n a fr st with
   |none=>simp[ha]at e
   |    some p=>
        obtain⟨ex,fC,bK⟩:=p;simp only[ha]at e;simp only[ih _ _ _ _ ha];cases ex<;>first|exact e|exact ih _ _ _ _ e
end
def Plain(v:AV):Prop:=∀(ρ ρ':Pos->Loc)(n n':Nat)(C:Cells)(x:Value),aG ρ n C v x->aG ρ' n' C v x
theorem Plain.bool(b:Bool):Plain (.bool b):=λ_ _ _ _ _ _ h=>by cases h;exact .bool b
theorem Plain.int(k:IntKind)(i:Int):Plain (.int k i):=λ_ _ _ _ _ _ h=>by cases h;exact .int k i
theorem Plain.str(s:List Nat):Plain (.str s):=λ_ _ _ _ _ _ h=>by cases h with|str _ bs h=>exact .str s bs h
theorem Plain.jx:Plain .jx:=λ_ _ _ _ _ _ h=>by cases h;exact .jx
theorem Plain.af:Plain .af:=λ_ _ _ _ _ _ h=>by cases h;exact .af
theorem Plain.jX:Plain .jX:=λ_ _ _ _ _ _ h=>by cases h;exact .jX
theorem Plain.func(f:FuncId){a b:List AV}(ha:∀v∈a,Plain v)(hb:∀v∈b,Plain v):Plain (.func f a b):=λ_ _ _ _ _ _ h=>by
 cases h with
 |func _ _ _ a' b' hx hy h1 h2=>exact .func f a b a' b' hx hy (λi v x hv hx=>ha v (Zc5 hv) _ _ _ _ _ _ (h1 i v x hv hx)) (λi v x hv hx=>hb v (Zc5 hv) _ _ _ _ _ _ (h2 i v x hv hx))
theorem Plain.tuple{l:List AV}(hl:∀v∈l,Plain v):Plain (.tuple l):=λ_ _ _ _ _ _ h=>by
 cases h with
 |tuple _ cs hx h1=>exact .tuple l cs hx λi v x hv hx=>hl v (Zc5 hv) _ _ _ _ _ _ (h1 i v x hv hx)
theorem Plain.agg{l:List AV}(hl:∀v∈l,Plain v):Plain (.agg l):=λ_ _ _ _ _ _ h=>by
 cases h with
 |agg _ cs hx h1=>exact .agg l cs hx λi v x hv hx=>hl v (Zc5 hv) _ _ _ _ _ _ (h1 i v x hv hx)
theorem Plain.fl{xs:List (List AV)}{es:Nat}(hl:∀cs∈xs,∀v∈cs,Plain v):Plain (.fl xs es):=λ_ _ _ _ _ _ h=>by
 cases h with
 |fl _ _ bG a cell h1 h2 h3 h4 h5=>exact .fl xs es bG a cell h1 h2 h3 h4 λi j cs v hi hj=>hl cs (Zc5 hi) v (Zc5 hj) _ _ _ _ _ _ (h5 i j cs v hi hj)
def aZ(st st':St):Prop:=∀b x,st.heap.get b=some x->st'.heap.get b=some x
theorem aZ.refl(st:St):aZ st st:=λ_ _ h=>h
theorem aZ.trans{a b c:St}(h:aZ a b)(k:aZ b c):aZ a c:=λ_ _ e=>k _ _ (h _ _ e)
theorem aG.down{ρ ρ':Pos->Loc}{n n':Nat}{C:Cells}{v:AV}{x:Value}(h:aG ρ' n' C v x):∀{y:Value},aG ρ n C v y->(∀b:Pos,b.toNat<n->ρ' b=ρ b)->aG ρ n C v x:=by
 induction h with
 |bool b=>exact λh _=>.bool b
 |int k i=>exact λh _=>.int k i
 |str s bs h=>exact λ_ _=>.str s bs h
 |jx=>exact λ_ _=>.jx
 |ptr b off h=>
  intro y h bM;cases h with
  |ptr _ _ h'=>rw[bM b h'];exact .ptr b off h'
 |fp xs i j es aT base cell hl hc hv ih=>
  intro y h bM;cases h with
  |fp _ _ _ es' Jo amt awn hl' hc' QL=>exact .fp xs i j es aT base cell hl hc λi j cs v hi hj=>ih i j cs v hi hj (QL i j cs v hi hj) bM
 |af=>exact λ_ _=>.af
 |slice  b off len cap es bG a hl hc ha hk=>
  intro y h bM;cases h with
  |slice _ _ _ _ _ as8 a' hl' hc' ha' pX=>
   refine .slice b off len cap es bG a hl hc (λh0=> ?_) pX;obtain⟨h1,h2,h3⟩:=ha h0;have hb:b.toNat<n:=by
        cases cap with
        |none=>exact pX rfl
        |some c=>
         have e1:=hc c rfl;have e2:=hc' c rfl;exact(ha' (by rw[<-e2,e1];exact h0)).1
   rw[bM b hb]at h2 h3;exact⟨hb,h2,h3⟩
 |fl xs es bG a cell hl hs eG hc hv ih=>
  intro y h bM;cases h with
  |fl _ _ as8 a' awn hl' rf hes' hc' QL=>exact .fl xs es bG a cell hl hs eG hc λi j cs v hi hj=>ih i j cs v hi hj (QL i j cs v hi hj) bM
 |qX=>exact λ_ _=>.qX
 |map b h=>
  intro y h bM;cases h with
  |map _ h'=>rw[bM b h'];exact .map b h'
 |func f x y x' y' hx hy h1 h2 ih1 ih2=>
  intro z h bM;cases h with
  |func _ _ _ a' b' kx ky k1 k2=>
   refine .func f x y x' y' hx hy (λi v x hv xq=> ?_) (λi v x hv xq=> ?_)
   .    have hi:i<a'.size:=(by rw[<-kx];exact(Za1.1 hv).1);exact ih1 i v x hv xq (k1 i v _ hv (Zh2 hi)) bM
   .    have hi:i<b'.size:=(by rw[<-ky];exact(Za1.1 hv).1);exact ih2 i v x hv xq (k2 i v _ hv (Zh2 hi)) bM
 |jX=>exact λ_ _=>.jX
 |BS=>exact λ_ _=> .BS
 |iface t v x _ ih=>
  intro y h bM;cases h with
  |iface _ _ x' h'=>exact .iface t v x (ih h' bM)
 |agg l cs hx h1 ih=>
  intro y h bM;cases h with
  |agg _ nK kx k1=>
   (refine .agg l cs hx λi v x hv xq=> ?_);have hi:i<nK.size:=(by rw[<-kx];exact(Za1.1 hv).1);exact ih i v x hv xq (k1 i v _ hv (Zh2 hi)) bM
 |tuple l cs hx h1 ih=>
  intro y h bM;cases h with
  |tuple _ nK kx k1=>
   (refine .tuple l cs hx λi v x hv xq=> ?_);have hi:i<nK.size:=(by rw[<-kx];exact(Za1.1 hv).1);exact ih i v x hv xq (k1 i v _ hv (Zh2 hi)) bM
end
noncomputable section
open Go Go.RowKit
def tidy(st:St)(r:AV×St):AV×St:=open Classical in if Plain r.1/\aZ st r.2 then(r.1,st)else r
theorem cN.back{ρ ρ':Pos->Loc}{C:Cells}{st bK:St}{w w1:World}(hW:cN ρ C st w)(hk:aZ st bK)(bM:∀b:Pos,b.toNat<st.next.toNat->ρ' b=ρ b)(jD:cN ρ' C bK w1)(hs:w.heap.size<=w1.heap.size):cN ρ C st w1:=by
 refine⟨λb y hb=> ?_,hW.inj,λa u ha=>⟨(jD.eP a u ha).1,(hW.eP a u ha).2⟩,jD.whole⟩;obtain⟨g1,g2,g3⟩:=hW.live b y hb;obtain⟨_,_,k3⟩:=jD.live b y (hk b y hb);refine⟨g1,Zd0 g2 hs,?_⟩;rw[bM b g1]at k3;cases y with
 |cells cs fz=>
  obtain⟨c,e,fr,q1,q2,q3,q4,q5⟩:=k3;obtain⟨c0,e0,dI,p1,p2,p3,p4,p5⟩:=g3;refine⟨c,e,fr,q1,q2,q3,⟨q4.1,λi v x hv hx=> ?_⟩,q5⟩;obtain⟨y0,hy0,hv0⟩:=p4.get hv;exact(q4.2 i v x hv hx).down hv0 bM
 |map es clock=>
  obtain⟨es',q1,q2,q3⟩:=k3;obtain⟨es0,p1,p2,p3⟩:=g3;refine⟨es',q1,q2,λi e e' he sw=> ?_⟩;obtain⟨a1,a2,a3⟩:=q3 i e e' he sw;have hi:i<es0.size:=by rw[<-p2];exact(Za1.1 he).1
  obtain⟨b1,b2,_⟩:=p3 i e _ he (Zh2 hi);exact⟨a1.down b1 bM,a2.down b2 bM,a3⟩
theorem aoi{ρ:Pos->Loc}{C:Cells}{st:St}{w w':World}{r:AV×St}{x:Value}(hW:cN ρ C st w)(h:oE ρ C st w r.1 r.2 x w'):
   oE ρ C st w (tidy st r).1 (tidy st r).2 x w':=by
 unfold tidy;split
 .rename_i hp;obtain⟨ρ',hv,bM,hn,jD,hE⟩:=h;exact⟨ρ,hp.1 _ _ _ _ _ _ hv,λ_ _=>rfl,Za5 _,hW.back hp.2 bM jD hE.size,⟨hE.os,hE.tape,hE.output,hE.size,hE.block,λb y hb=>.inl ⟨b,y,hb,rfl⟩⟩⟩
 .exact h
theorem aoj{st:St}{r:AV×St}(h:st.next.toNat<=r.2.next.toNat):st.next.toNat<=(tidy st r).2.next.toNat:=by
 unfold tidy;split
 .exact Za5 _
 .exact h
def yj(O:fk)(G:T dY)(m:Nat):Nat->aj
 |0=>λ_ _ _=>none
 |  d+1=>λf args st=>match O f with
    |some s=>s args st
    |none=>match G.get (key f)with
     |some F=>(yg (yj O G m d) m F args st).map (tidy st)
     |none=>none
section
variable{P:Program}{tt:TT}{C:Cells}
theorem aok{call:aj}(hm:pS call){m:Nat}{F:dY}{args:List AV}{st:St}{v:AV}{st':St}(h:yg call m F args st=some (v,st')):st.next.toNat<=st'.next.toNat:=by
 unfold yg at h;split at h<;>first|(cases h;done)|skip
 split at h<;>first|(cases h;done)|skip
 all_goals
  rename_i h1;split at h<;>first|(cases h;done)|skip
  simp only[H5,Zd3]at h;obtain⟨rfl,rfl⟩:=h;exact OC hm _ _ _ _ _ _ _ h1
theorem adz{O:fk}{G:T dY}(hO:oP O)(m:Nat):∀d,pS (yj O G m d)
 |0=>λf args st v st' h=>by simp[yj]at h
 |d +1=>λf args st v st' h=>by
  unfold yj at h;split at h
  .rename_i s hs;exact hO _ _ hs _ _ _ _ h
  . (split at h<;>first|(cases h;done)|skip);simp only[Zf5]at h;obtain⟨r,hr,he⟩:=h;have:=aok (adz hO m d) (v:=r.1) (st':=r.2) hr;have:=aoj this;rw[he]at this;exact this
theorem abd(hm:P.follows .mixedOrders=true)(hT:dK P tt){O:fk}{G:T dY}(hO:vY P C O)(XG:oP O)(hG:GOk P tt G)(m:Nat):∀d,jq P C (yj O G m d)
 |0=>λρ st w f args v st' cZ h=>by simp[yj]at h
 |d +1=>by
  intro ρ st w f args v st' cZ h hW yh;have ih:=abd hm hT hO XG hG m d;unfold yj at h;split at h
  .rename_i s hs;exact hO f s hs ρ st w args v st' cZ h hW yh
  . (split at h<;>first|(cases h;done)|skip);rename_i F hF;simp only[Zf5]at h;obtain⟨r,hr,he⟩:=h;refine Reaches.mono (λx w' hp=> ?_) (ado hT hG ih (S7 hm hT ih (adz XG m d)) m hF (v:=r.1) (st':=r.2) hr hW yh);have:=aoi hW hp;rw[he]at this;exact this
end
theorem ak6{c c':aj}(h:LeC c c'){n m:Nat}(hn:n<=m){F:dY}{args:List AV}{st:St}{r:AV×St}(e:yg c n F args st=some r):yg c' m F args st=some r:=by
 unfold yg at e ⊢;split at e<;>first|(cases e;done)|skip
 split at e<;>first|(cases e;done)|skip
 all_goals
  rename_i h1;simp only[ZX h n m hn _ _ _ _ h1];exact e
theorem ab6(O:fk)(G:T dY){n m:Nat}(hn:n<=m):∀d d',d<=d'->LeC (yj O G n d) (yj O G m d')
 |0,_,_=>λ_ _ _ _ e=>by simp[yj]at e
 |_+1,0,h=>by omega
 |d +1,d'+1,h=>λf args st r e=>by
  have ih:=ab6 O G hn d d' (by omega);unfold yj at e ⊢;split at e
  .exact e
  . (split at e<;>first|(cases e;done)|skip);simp only[Zf5]at e ⊢;obtain⟨q,hq,he⟩:=e;exact⟨q,ak6 ih hn hq,he⟩
def cn(O:fk)(G:T dY)(n:Nat):aj:=yj O G n n
theorem Ti(O:fk)(G:T dY){n m:Nat}(h:n<=m):LeC (cn O G n) (cn O G m):=ab6 O G h n m h
def run(O:fk)(G:T dY):aj:=λf args st=>open Classical in
 if h:∃(r:AV×St) (n:Nat),cn O G n f args st=some r then some h.choose else none
variable{O:fk}{G:T dY}
theorem aol{f:FuncId}{args:List AV}{st:St}{r:AV×St}{n:Nat}(h:cn O G n f args st=some r):run O G f args st=some r:=by
 unfold run;have hx:∃(r:AV×St) (n:Nat),cn O G n f args st=some r:=⟨r,n,h⟩
 rw[dif_pos hx];obtain⟨m,hm⟩:=hx.choose_spec;have h1:=Ti O G (Zj8 n m) f args st _ h;have h2:=Ti O G (Zj0 n m) f args st _ hm;rw[h1]at h2;exact h2.symm
theorem aic{f:FuncId}{args:List AV}{st:St}{r:AV×St}(h:run O G f args st=some r):∃n,cn O G n f args st=some r:=by
 unfold run at h;split at h
 .rename_i hx;simp only[H5]at h;rw[<-h];exact hx.choose_spec
 .cases h
theorem adA{k:aJ}{xs:List AV}{st:St}{r:AV×St}(e:cW (run O G) k xs st=some r):∃n,cW (cn O G n) k xs st=some r:=by
 unfold cW at e;cases hr:k.run (λb=>st.heap.get b) st.next xs with
 |none=>simp[hr]at e
 |some x=>cases x with
  |val v=>exact⟨0,by simpa [cW,hr]using e⟩
  |br v d s n=>exact⟨0,by simpa [cW,hr]using e⟩
  |call f args=>
   simp only[hr]at e;obtain⟨n,hn⟩:=aic e;exact⟨n,by simpa [cW,hr]using hn⟩
theorem XK:∀(os:List b9)(fr:Fr)(st:St)(r:Fr×St),mO (run O G) os fr st=some r->∃n,mO (cn O G n) os fr st=some r
 |[],_,_,_,e=>⟨0,e⟩
 |o::os,fr,st,r,e=>by
  unfold mO at e;cases hw:cX fr o.guard with
  |none=>simp[hw]at e
  |some b=>cases b with
   |    false=>
        simp only[hw]at e;obtain⟨n,hn⟩:=XK os _ _ _ e;exact⟨n,by unfold mO;simp only[hw];exact hn⟩
   |    true=>
        simp only[hw]at e;cases hx:gu fr o.xs with
        |none=>simp[hx]at e
        |some xs=>
         simp only[hx]at e;cases hs:cW (run O G) o.k xs st with
         |none=>simp[hs]at e
         |some p=>
          simp only[hs]at e;obtain⟨n,hn⟩:=XK os _ _ _ e;obtain⟨m,hm⟩:=adA hs;refine⟨max n m,?_⟩;unfold mO;simp only[hw,hx,Th (Ti O G (Zj0 n m)) hm];exact ZW (Ti O G (Zj8 n m)) _ _ _ _ hn
theorem adB: ∀(os:List (Nat×b9))(recs:List Rec)(base:T AB)(fr:Fr)(st:St)(r:Fr×St),eM (run O G) os recs base fr st=some r->∃n,eM (cn O G n) os recs base fr st=some r
 |[],_,_,_,_,_,e=>⟨0,e⟩
 |(j,   o):: os,recs,base,fr,st,r,e=>by
  have ih:=adB os;unfold eM at e;cases hw:cX fr o.guard with
  |none=>simp[hw]at e
  | some b=>cases b with
    |   false=>
        simp only[hw]at e;obtain⟨n,hn⟩:=ih _ _ _ _ _ e;exact⟨n,by unfold eM;simp only[hw];exact hn⟩
    |   true=>
        simp only[hw]at e;cases hx:gu fr o.xs with
        |none=>simp[hx]at e
        |some xs=>
         simp only[hx]at e;cases hc:o.cls with
         | br=>
           simp only[hc]at e;cases hs:cW (run O G) o.k xs st with
           |none=>simp[hs]at e
           | some p=>
             simp only[hs]at e;obtain⟨n,hn⟩:=ih _ _ _ _ _ e;obtain⟨m,hm⟩:=adA hs;refine⟨max n m,?_⟩;unfold eM;simp only[hw,hx,hc,Th (Ti O G (Zj0 n m)) hm];exact ab5 (Ti O G (Zj8 n m)) _ _ _ _ _ _ hn
         | new=>
           simp only[hc]at e;(split at e<;>first|(cases e;done)|skip);obtain⟨n,hn⟩:=ih _ _ _ _ _ e;refine⟨n,?_⟩;unfold eM;simp only[*]
         | pure=>
           simp only[hc]at e;split at e<;>(try split at e)<;>(try split at e)<;>first|(cases e;done)|skip
           all_goals
             obtain⟨n,hn⟩:=ih _ _ _ _ _ e;refine⟨n,?_⟩;unfold eM;simp only[*]
         | read=>
           simp only[hc]at e;split at e<;>(try split at e)<;>(try split at e)<;>first|(cases e;done)|skip
           all_goals
             obtain⟨n,hn⟩:=ih _ _ _ _ _ e;refine⟨n,?_⟩;unfold eM;simp only[*]
theorem afX:∀(n:Nat)(a:AC)(fr:Fr)(st:St)(r:oO×Fr×St),exec (run O G) n a fr st=some r->∃m,exec (cn O G m) n a fr st=some r
 |0,_,_,_,_,e=>by simp[exec]at e
 |n+    1,a,fr,st,r,e=>by
  have ih:=afX n;have up:∀{m m':Nat}{a:AC}{fr:Fr}{st:St}{r:oO×Fr×St},m<=m'->exec (cn O G m) n a fr st=some r->exec (cn O G m') n a fr st=some r:=
   λh e=>ZX (Ti O G h) _ _ (Za5 _) _ _ _ _ e
  cases a<;>simp only[exec,bJ]at e
  case skip=>exact⟨0,e⟩
  case exit=>exact⟨0,e⟩
  case ret=>exact⟨0,e⟩
  case region ops=>
   cases ho:mO (run O G) ops fr st with
   |none=>simp[ho]at e
   |    some p=>
        obtain⟨m,hm⟩:=XK _ _ _ _ ho;exact⟨m,by simp only[exec,bJ,hm];simpa only[ho]using e⟩
  case draw ops=>
   cases ho:eM (run O G) ops [] st.heap fr st with
   |none=>simp[ho]at e
   |    some p=>
        obtain⟨m,hm⟩:=adB _ _ _ _ _ _ ho;exact⟨m,by simp only[exec,bJ,hm];simpa only[ho]using e⟩
  case seq a b=>
   cases ha:exec (run O G) n a fr st with
   |none=>simp[ha]at e
   |    some p=>
        obtain⟨ex,fC,bK⟩:=p;simp only[ha]at e;obtain⟨m,hm⟩:=ih _ _ _ _ ha;cases ex with
        |normal=>
         obtain⟨m',hm'⟩:=ih _ _ _ _ e;exact⟨max m m',by simp only[exec,bJ,up (Zj8 m m') hm];exact up (Zj0 m m') hm'⟩
        |exit i=>exact⟨m,by simp only[exec,bJ,hm];exact e⟩
        |ret=>exact⟨m,by simp only[exec,bJ,hm];exact e⟩
  case cond x a b=>
   split at e
   .    rename_i hx;obtain⟨m,hm⟩:=ih _ _ _ _ e;exact⟨m,by simp only[exec,bJ,hx];exact hm⟩
   .    rename_i hx;obtain⟨m,hm⟩:=ih _ _ _ _ e;exact⟨m,by simp only[exec,bJ,hx];exact hm⟩
   .    cases e
  case block id a=>
   cases ha:exec (run O G) n a fr st with
   |none=>simp[ha]at e
   |    some p=>
        obtain⟨ex,fC,bK⟩:=p;simp only[ha]at e;obtain⟨m,hm⟩:=ih _ _ _ _ ha;exact⟨m,by simp only[exec,bJ,hm];exact e⟩
  case loop a=>
   cases ha:exec (run O G) n a fr st with
   |none=>simp[ha]at e
   |    some p=>
        obtain⟨ex,fC,bK⟩:=p;simp only[ha]at e;obtain⟨m,hm⟩:=ih _ _ _ _ ha;cases ex with
        |normal=>
         obtain⟨m',hm'⟩:=ih _ _ _ _ e;exact⟨max m m',by simp only[exec,bJ,up (Zj8 m m') hm];exact up (Zj0 m m') hm'⟩
        |exit i=>exact⟨m,by simp only[exec,bJ,hm];exact e⟩
        |ret=>exact⟨m,by simp only[exec,bJ,hm];exact e⟩
theorem aqR{f:FuncId}{F:dY}{args:List AV}{st:St}{r:AV×St}{n:Nat}(ho:O f=none)(hF:G.get (key f)=some F)(h:yg (run O G) n F args st=some r):
   run O G f args st=some (tidy st r):=by
 unfold yg at h;split at h<;>first|(cases h;done)|skip
 rename_i hlen
 have fin:∀{ex fr st'},exec (run O G) n F.code (params 0 args .e) st=some (ex,fr,st')->(∀m k,exec (cn O G m) k F.code (params 0 args .e) st=some (ex,fr,st')->yg (cn O G m) k F args st=some r)->
    run O G f args st=some (tidy st r):=λh1 h2=>by
   obtain⟨m,hm⟩:=afX _ _ _ _ _ h1;refine aol (n:=max n m+1) ?_;unfold cn yj;simp only[ho,hF];have:=h2 m n hm;have h3:=ak6 (ab6 O G (n:=m) (m:=max n m+1) (by have:=Zj0 n m;omega) m (max n m) (Zj0 n m)) (m:=max n m+1) (by have:=Zj8 n m;omega) this;rw[h3];rfl
 split at h<;>first|(cases h;done)|skip
 .rename_i h1;exact fin h1 λm k hk=>by unfold yg;simp only[hlen,hk];exact h
 .rename_i h1;exact fin h1 λm k hk=>by unfold yg;simp only[hlen,hk];exact h
theorem adC{f:FuncId}{s:List AV->St->Option (AV×St)}(ho:O f=some s){args:List AV}{st:St}{r:AV×St}(h:s args st=some r):run O G f args st=some r:=
 aol (n:=1) (by unfold cn yj;simp only[ho];exact h)
theorem afY{P:Program}{tt:TT}{C:Cells}(hm:P.follows .mixedOrders=true)(hT:dK P tt)(hO:vY P C O)(XG:oP O)(hG:GOk P tt G):jq P C (run O G):=by intro ρ st w f args v st' cZ h hW yh;obtain⟨n,hn⟩:=aic h;exact abd hm hT hO XG hG n n ρ st w f args v st' cZ hn hW yh
section
variable{ρ ρ':Pos->Loc}{C:Cells}{st bK:St}{w w1 w':World}{nt r:Nat}{fr fC:Fr}{a a1:Act}
theorem lz.sub{n:Nat}{tmps:Array Value}(h:lz ρ n C fC tmps)(hf:∀p v,fr.get p=some v->fC.get p=some v):lz ρ n C fr tmps:=λp v hp=>h p v (hf p v hp)
theorem yM.back(hS:yM nt ρ C fr st a w)(hf:∀p v,fr.get p=some v->fC.get p=some v)(hk:aZ st bK)(h:kY nt ρ C st w fC bK a1 w1):
  yM nt ρ C fr st a1 w1/\qJ ρ st w ρ st w1:=by
 obtain⟨kj,S1,k1,k2,E⟩:=h;refine⟨⟨hS.W.back hk k1 S1.W E.size,λp v hp=> ?_,S1.size,S1.defers⟩,⟨E.os,E.tape,E.output,E.size,E.block,λb x hb=>.inl ⟨b,x,hb,rfl⟩⟩⟩;obtain⟨x,hx,hv⟩:=S1.F p v (hf p v hp);obtain⟨y,_,hy⟩:=hS.F p v hp;exact⟨x,hx,hv.down hy k1⟩
theorem cN.iter{m:Option Nat}{s c:Nat}{seen:Array Nat}(hW:cN ρ C st w)(hr:w.heap[r]? =some (.mapIter m s seen c))(hn:∀b x,st.heap.get b=some x->(ρ b).aT≠r)
   (hs:w'.heap.size=w.heap.size) (hk:∀k,k≠r->w'.heap[k]? =w.heap[k]?):cN ρ C st w':=by
 have dP:∀a v,C a=some v->a.block≠r:=λa v ha e=>by have h:=(hW.eP a v ha).1;unfold World.cell? at h;rw[e,hr]at h;cases h
 refine⟨λb x hb=> ?_,hW.inj,λa v ha=> ?_,λa v ha o ho=> ?_⟩
 .obtain⟨h1,h2,h3⟩:=hW.live b x hb;exact⟨h1,by rw[hs];exact h2,h3.of_heap (hk _ (hn b x hb))⟩
 .obtain⟨h1,h2⟩:=hW.eP a v ha;exact⟨by rw[World.cell?_of_block (w:=w) (hk _ (dP a v ha))];exact h1,h2⟩
 .rw[World.cell?_of_block (w:=w) (a:=⟨a.block,o,none⟩) (hk _ (dP a v ha))];exact hW.whole a v ha o ho
end
def T.sub{α:Type}(f:α->α->Bool):T α->T α->Bool
 |.e,_=>true
 |.n l v r,.e=>(match v with|none=>true|some _=>false)&&T.sub f l .e&&T.sub f r .e
 |  .n l v r,.n l' v' r'=>(match v with
    |none=>true
    |some a=>match v' with
     |some b=>f a b
     |none=>false)&&T.sub f l l'&&T.sub f r r'
theorem T.LV{α:Type}{f:α->α->Bool}(hf:∀a b,f a b=true->a=b):∀{t u:T α},T.sub f t u=true->∀p v,t.get p=some v->u.get p=some v
 |.e,_,_,p,v,h=>by rw[T.dZ]at h;cases h
 | .n l x r,.e,hs,p,v,h=>by
   simp only[T.sub,Zb7]at hs;cases p with
   |h=>simp only[T.get]at h;subst h;simp at hs
   |o p=>have:=T.LV hf hs.1.2 p v h;rw[T.dZ]at this;cases this
   |i p=>have:=T.LV hf hs.2 p v h;rw[T.dZ]at this;cases this
 | .n l x r,.n l' x' r',hs,p,v,h=>by
   simp only[T.sub,Zb7]at hs;cases p with
   |h=>
    simp only[T.get]at h ⊢; subst h;have h1:=hs.1.1;cases x' with
    |none=>simp at h1
    |some y=>simp at h1;rw[hf _ _ h1]
   |o p=>exact T.LV hf hs.1.2 p v h
   |i p=>exact T.LV hf hs.2 p v h
structure RG where
 t17:Nat
 t18:Nat
 t19:Nat
 t20:Nat
 l2:List b9
 x:iy
 l4:List b9
 body:AC
 ds:List Pos
abbrev XR:=Option (oO×Fr×St)
section
variable(cw:tr XR)(m:Nat)(g:RG)
def exK(c:AC)(fr:Fr)(st:St):XR:=adb none cw m c fr st (λfr st=>some (.normal,fr,st)) (λi fr st=>some (.exit i,fr,st)) (λfr st=>some (.ret,fr,st))
def amu(k v:AV)(fr:Fr)(st:St):XR:=
 xK (some (.tuple [.bool true,k,v])) (key g.t18) fr λfr=>xK (some (.bool true)) (key g.t19) fr λfr=>xK (some (.tuple [k,v])) (key g.t20) fr λfr=>
    aeF none cw g.l4 fr st λfr st=>exK cw m g.body fr st
def aid:List Pos->Fr->(Fr->XR)->XR
 |[],fr,k=>k fr
 |p::ps,fr,k=>xK none p fr λfr=>aid ps fr k
def Tj(fr:Fr)(st:St)(e:AV×AV×Nat):Bool:=match amu cw m g e.1 e.2.1 fr st with
 |some (.normal,fC,bK)=>T.sub eJ fr fC&&T.sub adw st.heap bK.heap
 |_=>false
def aeP(clock:Nat):List (AV×AV×Nat)->Bool
 |[]=>true
 |e::es=>Nat.blt e.2.2 clock&&es.all (λx=> !Nat.beq x.2.2 e.2.2)&&aeP clock es
def amv (fr:  Fr) (st:St):XR:=
 aeF  none cw g.l2 fr st λfr st=>evK none fr g.x λ
    | .map b=>match BU b st.heap with
      | some (.map es clock)=>match aeP clock es with
        |true=>   aid g.ds fr λfr=>xK (some (.ptr st.next 0)) (key g.t17) fr λfr=>ada st.next λn=>
           match es.filter (λe=> !Tj cw m g fr { heap:=st.heap,next:=n } e)with
           |[]=>some (.normal,fr,{ heap:=st.heap,next:=n })
           |  [e] =>match amu cw m g e.1 e.2.1 fr { heap:=st.heap,next:=n }with
              |some (.normal,fC,bK)=>aid g.ds fC λfC=>
                  match BU b bK.heap,BU (key g.t17) fC with
                  |some y,some v=>match adw y (.map es clock)&&eJ v (.ptr st.next 0)&&es.all (λx=>Nat.beq x.2.2 e.2.2||Tj cw m g fC bK x)with
                   |true=>some (.normal,fC,bK)
                   |false=>none
                  |_,_=>none
              |_=>none
           |_=>none
        |false=>none
      |_=>none
    |_=>none
end
section
variable{P:Program}{tt:TT}{C:Cells}
def pY(P:Program)(C:Cells)(nt:Nat)(c:Code)(ex:Fr->St->XR):Prop:=
 ∀  (fr bR:Fr)(st st':St)(e:oO)(ρ:Pos->Loc)(a:Act)(w:World)(Q:Exit->Act->World->Prop),ex fr st=some (e,bR,st')->yM nt ρ C fr st a w->
    (∀a' w',kY nt ρ C st w bR st' a' w'->Q (QX e) a' w')->c.wp P Q a w
theorem aom{cw:tr XR}{call:aj}(hc:CK none cw call)(m:Nat)(c:AC)(fr:Fr)(st:St):exK cw m c fr st=exec call m c fr st:=by
 unfold exK;rw[ab3 none hc];cases exec call m c fr st with
 |none=>rfl
 |some x=>obtain⟨e,fr,st⟩:=x;cases e<;>rfl
theorem pY.ac(hT:dK P tt){cw:tr XR}{call:aj}(hc:CK none cw call)(dF:jq P C call)(mD:yN P tt C call){nt m:Nat}{c:Code}{a:AC}(h:vU tt nt c=some a):
 pY P C nt c (exK cw m a):=λfr bR st st' e ρ ac w Q hx hS hQ=>(Ds hT dF mD m).1 c a fr bR st st' e ρ ac w Q h (by rw[<-aom hc];exact hx) hS hQ
def aqS(x y:Fr->St->XR)(fr:Fr)(st:St):XR:=match x fr st with
 |some (.normal,fr,st)=>y fr st
 |r=>r
theorem pY.seq{nt:Nat}{c d:Code}{x y:Fr->St->XR}(hc:pY P C nt c x)(hd:pY P C nt d y):pY P C nt (.seq c d) (aqS x y):=by
 intro fr bR st st' e ρ a w Q h hS hQ;unfold aqS at h;apply wp_seq;split at h
 .rename_i fC bK h1;(refine hc fr fC st bK .normal ρ a w _ h1 hS λa1 w1 hp=> ?_);obtain⟨kj,S1,k1,k2,k3⟩:=hp;exact hd fC bR bK st' e kj a1 w1 Q h S1 λa2 w2 hp=>hQ a2 w2 (kY.trans k1 k2 k3 hp)
 . rename_i dP;(refine hc fr bR st st' e ρ a w _ h hS λa1 w1 hp=> ?_);cases e with
   |normal=>exact(dP _ _ h).elim
   |exit id=>exact hQ a1 w1 hp
   |ret=>exact hQ a1 w1 hp
def clr:List Pos->Fr->Fr
 |[],fr=>fr
 |p::ps,fr=>clr ps (fr.put none p)
theorem ak7:∀(ps:List Pos)(fr:Fr)(k:Fr->XR),aid ps fr k=k (clr ps fr)
 |[],_,_=>rfl
 |p::ps,fr,k=>by simp only[aid,oF,clr];exact ak7 ps _ k
theorem aeQ:∀(ps:List Pos)(fr:Fr)(p:Pos)(v:AV),(clr ps fr).get p=some v->fr.get p=some v
 |[],_,_,_,h=>h
 |q::ps,fr,p,v,h=>by
  have h:=aeQ ps _ p v h;by_cases hq:q=p
  .subst hq;rw[T.gQ]at h;cases h
  .rwa [T.cJ _ hq]at h
theorem aeR{clock:Nat}:∀{es:List (AV×AV×Nat)},aeP clock es=true->(∀e∈es,e.2.2<clock)/\(es.map (·.2.2)).Nodup
 |[],_=>⟨λ_ h=>by simp at h,by simp⟩
 |e ::es,h=>by
  simp only[aeP,Zb7]at h;obtain⟨⟨h1,h2⟩,h3⟩:=h;obtain⟨i1,i2⟩:=aeR h3;refine⟨λx hx=> ?_,?_⟩
  . rcases Za9.1 hx with rfl|hx
    .exact Zb5 h1
    .exact i1 x hx
  .rw[Zd1,List.nodup_cons];refine⟨λhm=> ?_,i2⟩;obtain⟨x,hx,he⟩:=Zc9.1 hm;have:=Zh4.1 h2 x hx;simp[he]at this
def Mv(cw:tr XR)(m:Nat)(g:RG)(A B:Fr×St)(e:AV×AV×Nat):Prop:=
 ∃f1 s1,amu cw m g e.1 e.2.1 A.1 A.2=some (.normal,f1,s1)/\(∀p v,B.1.get p=some v->f1.get p=some v)/\((B=A/\aZ A.2 s1)\/B.2=s1)
theorem aeS{cw:tr XR}{m:Nat}{g:RG}{fr:Fr}{st:St}{e:AV×AV×Nat}(h:Tj cw m g fr st e=true):Mv cw m g (fr,st) (fr,st) e:=by
 unfold Tj at h;split at h<;>first|(cases h;done)|skip
 rename_i f1 s1 h1;simp only[Zb7]at h;exact⟨f1,s1,h1,T.LV (λ_ _=>yO) h.1,.inl ⟨rfl,T.LV (λ_ _=>ab4) h.2⟩⟩
section
variable{cw:tr XR}{call:aj}{nt m:Nat}{g:RG}{uh:Array Oper}{o0 o1 o4:Oper}{i3 i4 b0 b1:Nat}{rest:Code}{Vk:List b9}{bs:List Nat}
def amw(g:RG)(o0 o1:Oper)(uh:Array Oper)(rest:Code)(i3 i4 b0 b1:Nat):Code:=
 .seq (.region i3 #[o0,o1] false) (.seq (.cond (.tmp g.t19) .skip (.exit b0)) (.block b1 (.seq (.region i4 uh false) rest)))
structure aqT(tt:TT)(nt:Nat)(g:RG)(o0 o1 o4:Oper)(uh:Array Oper)(rest:Code)(Vk:List b9)(bs:List Nat):Prop where
 n0:o0.op= .next (.tmp g.t17) false/\o0.guard=none/\o0.dst=some g.t18
 n1:o1.op= .extract (.tmp g.t18) 0/\o1.guard=none/\o1.dst=some g.t19
 n4:uh[0]? =some o4/\o4.op= .entry (.tmp g.t17)/\o4.guard=none/\o4.dst=some g.t20
 lt:g.t17<nt/\g.t18<nt/\g.t19<nt/\g.t20<nt
 ne:g.t17≠g.t18/\g.t17≠g.t19/\g.t18≠g.t19
 c4:uM tt nt uh uh.toList bs=some Vk
 l4:Vk.tail=g.l4
 r4:vU tt nt rest=some g.body
structure LI(C:Cells)(nt:Nat)(g:RG)(X:Fr×St)(b QZ:Pos)(es:List (AV×AV×Nat))(since r:Nat)(oc:Pos->Loc)(XL:St)(w0:World)(seen:Array Nat)(ρ:Pos->Loc)(a:Act)(w:World):Prop where
 S:yM nt ρ C X.1 X.2 a w
 k1:∀p:Pos,p.toNat<XL.next.toNat->ρ p=oc p
 k2:XL.next.toNat<=X.2.next.toNat
 E:qJ oc XL w0 ρ X.2 w
 ip:(ρ QZ).aT=r/\(ρ QZ).base=0/\QZ.toNat<X.2.next.toNat
 at17:X.1.get (key g.t17)=some (.ptr QZ 0)
 mp:X.2.heap.get b=some (.map es since)
 it:∃c,w.heap[r]? =some (.mapIter (some (ρ b).aT) since seen c)/\since<=c
 yS:∀p x,X.2.heap.get p=some x->(ρ p).aT≠r
 late:w0.heap.size<=r
 cl:X.1.get (key g.t18)=none/\X.1.get (key g.t19)=none
theorem CB{ops:Array Oper}{Q:Exit->Act->World->Prop}{i:Nat}{rest:List Nat}{o:Oper}{a:Act}{w w':World}{v:Value}(ho:ops[i]? =some o)(hg:o.guard=none)
  (hr:(execOp a.eval o).run P w= .ok (.value v) w') (hQ:wpOps P ops Q rest (a.put o.dst v) w'):wpOps P ops Q (i::rest) a w:=by
 unfold wpOps;rw[ho];simp only[Region.wanted,hg,Zh6];refine .inl ?_;unfold Oper.wp;rw[hr];exact hQ
theorem eval_put{a:Act}{t:Nat}{v:Value}(h:t<a.tmps.size):(a.put (some t) v).eval (.tmp t)=v:=by
 simp[Act.put,Act.eval,h]
theorem abe{a:Act}{t s:Nat}{v:Value}(h:t≠s):(a.put (some t) v).eval (.tmp s)=a.eval (.tmp s):=by
 simp[Act.put,Act.eval,Zj9 h]
theorem LI.round(hT:dK P tt)(hc:CK none cw call)(dF:jq P C call)(mD:yN P tt C call)(hR:aqT tt nt g o0 o1 o4 uh rest Vk bs)
   {A:Fr×St} {b QZ:Pos} {es:List (AV×AV×Nat)} {since r:Nat} {oc:Pos->Loc} {XL:St} {w0:World} {seen:Array Nat} {ρ:Pos->Loc} {a:Act} {w:World}
   (L:LI C nt g A b QZ es since r oc XL w0 seen ρ a w) (eG:aeP since es=true) {Q:Exit->Act->World->Prop}
   (amx:(∀e∈es,seen.contains e.2.2=true)->∀a',yM nt ρ C A.1 A.2 a' w->Q (.exit b0) a' w)
   (awo:∀e∈es,seen.contains e.2.2=false->∃B,Mv cw m g A B e/\B.1.get (key g.t17)=some (.ptr QZ 0)/\B.2.heap.get b=some (.map es since)/\B.1.get (key g.t18)=none/\B.1.get (key g.t19)=none/\
     ∀ρ' a' w',LI C nt g B b QZ es since r oc XL w0 (seen.push e.2.2) ρ' a' w'->Q .normal a' w'):
   (amw g o0 o1 uh rest i3 i4 b0 b1).wp P Q a w:=by
 obtain⟨c,hr,hsc⟩:=L.it;obtain⟨g1,g2,es',q1,q2,q3⟩:=L.S.W.live b _ L.mp;obtain⟨aW,hnd⟩:=aeR eG;have hat:∀(i:Nat)(e':MapEntry),es'[i]? =some e'->∃e,es[i]? =some e/\aG ρ A.2.next.toNat C e.1 e'.key/\aG ρ A.2.next.toNat C e.2.1 e'.val/\e.2.2=e'.born:=λi e' h=>by
   have hi:i<es.length:=(by rw[q2];exact(Zd5.1 h).1);exact⟨_,H0 hi,q3 i _ e' (H0 hi) h⟩
 have hold:∀x∈es'.toList,x.born<since:=λx hx=>by
   obtain⟨i,hi⟩:=Zf4.1 hx;obtain⟨e,h1,_,_,h2⟩:=hat i x (by simpa using hi);rw[<-h2];exact aW e (Zc5 h1)
 have eO:es'.toList.map (·.born)=es.map (·.2.2):=by
   apply Zi7;intro i;simp only[Zb3,Zk0];cases h:es'[i]? with
   | none=>
     have:es.length<=i:=(by rw[q2];exact Array.getElem?_eq_none_iff.1 h);rw[Zc0 this];rfl
   | some x=>
     obtain⟨e,h1,_,_,h2⟩:=hat i x h;rw[h1];simp[h2]
 have hit:a.eval (.tmp g.t17)= .pointer (some ⟨r,0,none⟩):=by
   have h:=BV (x:= .tmp g.t17) (o:= .t (key g.t17)) rfl L.S.F (v:= .ptr QZ 0) L.at17;obtain⟨_,h⟩:=h.qR;rw[h,L.ip.1,L.ip.2.1]
 have ic:=L.S.size;have s18:∀(v:Value),g.t18<(a.put (some g.t18) v).tmps.size:=λv=>by rw[Act.kB,ic];exact hR.lt.2.1
 have hrl:r<w.heap.size:=(Zd5.1 hr).1;unfold amw;apply wp_seq;apply wp_region;show wpOps P _ _ [0,1] a w;rcases run_next_at (P:=P) w o0.type r (ρ b).aT since c seen es' since hr q1 hold hsc with⟨h0,eu⟩|⟨e',sw,w1,oM,eu⟩
 . refine CB (i:=0) (o:=o0) rfl hR.n0.2.1 (v:= .tuple #[.bool false]) (w':=w) (by simp[execOp,hR.n0.1,hit,eu,Result.andThen]) ?_;rw[hR.n0.2.2];refine CB (i:=1) (o:=o1) rfl hR.n1.2.1 (v:= .bool false) (w':=w) (by simp[execOp,hR.n1.1,eval_put (ic ▸hR.lt.2.1),Instr.extract,Result.andThen]) ?_;rw[hR.n1.2.2];apply wp_seq;refine wp_cond_false (eval_put (by rw[Act.kB,ic];exact hR.lt.2.2.1)) (wp_exit ?_);refine amx (λe he=> ?_) _ ⟨L.S.W,λp v hp=> ?_,by rw[Act.kB,Act.kB];exact ic,by rw[Act.mM,Act.mM];exact L.S.defers⟩
   .obtain⟨i,hi⟩:=Zf4.1 he;have hi':i<es'.size:=(by rw[<-q2];exact(Za1.1 hi).1);obtain⟨e2,h1,_,_,h2⟩:=hat i _ (Zh2 hi');rw[hi]at h1;cases h1;rw[h2];have hem:leftOf es' seen= #[]:=Zo9 h0;unfold leftOf at hem;rw[Array.filter_eq_empty_iff]at hem;have:=hem es'[i] (Array.getElem_mem hi');simpa using this
   .rw[OG (λh=>by simp at h;subst h;rw[L.cl.2]at hp;cases hp),OG (λh=>by simp at h;subst h;rw[L.cl.1]at hp;cases hp)];exact L.S.F p v hp
 . have hr1:w1.heap[r]? =some (.mapIter (some (ρ b).aT) since seen c):=(by rcases oM with rfl|rfl<;>exact hr);have mg:w1.heap[(ρ b).aT]? =some (.map es' since):=(by rcases oM with rfl|rfl<;>exact q1);have Jp:=Go.MapKept.heap_set (o':= .mapIter (some (ρ b).aT) since (seen.push e'.born) since) hr1;obtain⟨w2,tC⟩:∃w2,w2=Go.ChangeMaps.setBlock w1 r (.mapIter (some (ρ b).aT) since (seen.push e'.born) since):=⟨_,rfl⟩
   (change (Go.ChangeMaps.setBlock w1 r (.mapIter (some (ρ b).aT) since (seen.push e'.born) since)).heap[r]? =_/\∀k,k≠r->(Go.ChangeMaps.setBlock w1 r (.mapIter (some (ρ b).aT) since (seen.push e'.born) since)).heap[k]? =_ at Jp;rw[<-tC]at Jp eu;have uy:w2.heap.size=w.heap.size:=(by rw[tC];rcases oM with rfl|rfl<;>simp[Go.ChangeMaps.setBlock]<;>rfl);have ux:∀k,k≠r->w2.heap[k]? =w.heap[k]? :=λk hk=>(Jp.2 k hk).trans (by rcases oM with rfl|rfl<;>rfl));have My:w2.os=w.os/\w2.tape=w.tape/\w2.output=w.output:=(by rw[tC];rcases oM with rfl|rfl<;>exact⟨rfl,rfl,rfl⟩);clear tC oM;have hW2:cN ρ C A.2 w2:=L.S.W.iter hr L.yS uy ux;have hen:(Instr.entry (.pointer (some ⟨r,0,none⟩))).run P w2= .ok (.tuple #[e'.key,e'.val]) w2:=
     run_entry_at _ r _ since seen es' since e' Jp.1 ((ux _ (L.yS b _ L.mp)).trans q1) (by simp[leftOf]at sw;simpa using sw.1) (eO ▸hnd)
   obtain⟨i,hi⟩:=Zf4.1 sw;have yQ:e'∈es'.toList/\seen.contains e'.born=false:=(by simpa [leftOf]using sw);obtain⟨j,hj⟩:=Zf4.1 yQ.1;obtain⟨e,h1,v1,v2,h2⟩:=hat j e' (by simpa using hj);obtain⟨B,⟨f1,s1,hx,hf,hB⟩,b17,bm,b18,b19,hQ⟩:=awo e (Zc5 h1) (by rw[h2];exact yQ.2);refine CB (i:=0) (o:=o0) rfl hR.n0.2.1 (v:= .tuple #[.bool true,e'.key,e'.val]) (w':=w2) (by simp[execOp,hR.n0.1,hit,eu,Result.andThen]) ?_;rw[hR.n0.2.2];refine CB (i:=1) (o:=o1) rfl hR.n1.2.1 (v:= .bool true) (w':=w2) (by simp[execOp,hR.n1.1,eval_put (ic ▸hR.lt.2.1),Instr.extract,Result.andThen]) ?_;rw[hR.n1.2.2];apply wp_seq;refine wp_cond_true (eval_put (by rw[Act.kB,ic];exact hR.lt.2.2.1)) (wp_skip ?_);apply wp_block;apply wp_seq;apply wp_region;have hln:uh.size=g.l4.length+1:=(by have h:Vk.length=uh.size:=(by rw[(xE hR.c4).1,Zj1]);obtain⟨h4,_⟩:=Zd5.1 hR.n4.1;have h4:0<uh.size:=h4;rw[<-hR.l4,List.length_tail];omega);rw[hln,Zl4,Zp0];refine CB (i:=0) (o:=o4) hR.n4.1 hR.n4.2.2.1 (v:= .tuple #[e'.key,e'.val]) (w':=w2) (by simp[execOp,hR.n4.2.1,abe hR.ne.1.symm,abe hR.ne.2.1.symm,hit,hen,Result.andThen]) ?_;rw[hR.n4.2.2.2];unfold amu at hx;simp only[oF]at hx;rw[ZU none hc]at hx;unfold uR at hx;(split at hx<;>first|(cases hx;done)|skip);rename_i y hy;simp only[aom hc]at hx;have hvt:aG ρ A.2.next.toNat C (.tuple [.bool true,e.1,e.2.1]) (.tuple #[.bool true,e'.key,e'.val]):= .yG ((aN.nil.cons v2).cons v1 |>.cons (.bool true));have hve:aG ρ A.2.next.toNat C (.tuple [e.1,e.2.1]) (.tuple #[e'.key,e'.val]):= .yG ((aN.nil.cons v2).cons v1);have F1:=lz.put (nt:=nt) (d:=some g.t18) L.S.F ic (λ_ h=>by cases h;exact hR.lt.2.1) hvt;have F2:=lz.put (nt:=nt) (d:=some g.t19) F1 (by rw[Act.kB];exact ic) (λ_ h=>by cases h;exact hR.lt.2.2.1) (.bool true);have F3:=lz.put (nt:=nt) (d:=some g.t20) F2 (by rw[Act.kB,Act.kB];exact ic) (λ_ h=>by cases h;exact hR.lt.2.2.2) hve;refine Dr (nt:=nt) hT dF g.l4 1 _ y.1 A.2 y.2 ρ _ w2 (λi ao hi=> ?_) hy ⟨hW2,F3,by rw[Act.kB,Act.kB,Act.kB];exact ic,by rw[Act.mM,Act.mM,Act.mM];exact L.S.defers⟩ λa3 w3 hp=> ?_
   .rw[<-hR.l4,List.getElem?_tail]at hi;obtain⟨o,k1,k2,_⟩:=SM hR.c4 (i+1) ao hi;exact⟨o,by rw[Zr5];exact k1,k2⟩
   obtain⟨ρ3,S3,k1,k2,k3⟩:=hp;(refine(Ds hT dF mD m).1 rest g.body y.1 f1 y.2 s1 .normal ρ3 a3 w3 _ hR.r4 hx S3 λa4 w4 hp=> ?_);have hP:=kY.trans k1 k2 k3 hp;show Q .normal a4 w4;have S2:yM nt ρ C A.1 A.2 a w2:=⟨hW2,L.S.F,ic,L.S.defers⟩
   have hE2:qJ oc XL w0 ρ A.2 w2:=⟨My.1.trans L.E.os,My.2.1.trans L.E.tape,My.2.2.trans L.E.output,by rw[uy];exact L.E.size,λk hk hn=>(ux k (by have:=L.late;omega)).trans (L.E.block k hk hn),λb x hb=>L.E.yH b x hb⟩
   obtain⟨ρ4,S4,l1,l2,E4⟩:∃ρ4,yM nt ρ4 C B.1 B.2 a4 w4/\(∀p:Pos,p.toNat<A.2.next.toNat->ρ4 p=ρ p)/\A.2.next.toNat<=B.2.next.toNat/\qJ ρ A.2 w2 ρ4 B.2 w4:=by
     rcases hB with⟨rfl,hk⟩|hB
     .  obtain⟨S,E⟩:=S2.back hf hk hP;exact⟨ρ,S,λ_ _=>rfl,Za5 _,E⟩
     .  obtain⟨ρ4,S,l1,l2,E⟩:=hP;rw[<-hB]at S l2 E;exact⟨ρ4,⟨S.W,S.F.sub hf,S.size,S.defers⟩,l1,l2,E⟩
   have h4r:w4.heap[r]? =some (.mapIter (some (ρ b).aT) since (seen.push e.2.2) since):=(by rw[E4.block r (by rw[uy];exact hrl) L.yS,h2];exact Jp.1);refine hQ ρ4 a4 w4 ⟨S4,λp hp=>(l1 p (Zd0 hp L.k2)).trans (L.k1 p hp),Zb2 L.k2 l2,hE2.trans E4,?_,b17,bm,⟨since,?_,Za5 _⟩,λp x hp=> ?_,L.late,b18,b19⟩
   .rw[l1 QZ L.ip.2.2];exact⟨L.ip.1,L.ip.2.1,Zd0 L.ip.2.2 l2⟩
   .rw[l1 b g1];exact h4r
   . rcases E4.yH p x hp with⟨p',x',hp',e1⟩|h
     .  rw[<-e1];exact L.yS p' x' hp'
     .  rw[uy]at h;omega
theorem aon{α:Type}{p q:α->Bool}(h:∀x,q x=true->p x=true){e:α}(hp:p e=true)(hq:q e=false):∀{l:List α},e∈l->(l.filter q).length<(l.filter p).length
 |[],h=>by simp at h
 |x ::l,hm=>by
  have hle:∀l:List α,(l.filter q).length<=(l.filter p).length:=λl=>by
    induction l with
    |nil=>simp
    |   cons y l ih=>
        have:=h y;cases hqy:q y<;>cases hpy:p y<;>simp_all<;>omega
  rcases Za9.1 hm with rfl|hm
  .simp only[List.filter_cons,hp,hq,Zh6,Ze7,Zg7,Zc7];have:=hle l;omega
  .have ih:=aon h hp hq hm;have:=h x;cases hqx:q x<;>cases CC:p x<;>simp_all<;>omega
theorem born_inj:∀{es:List (AV×AV×Nat)},(es.map (·.2.2)).Nodup->∀x∈es,∀y∈es,x.2.2=y.2.2->x=y
 |[],_,_,h,_,_,_=>by simp at h
 |e::es,hn,x,hx,y,hy,he=>by
  rw[Zd1,List.nodup_cons]at hn;rcases Za9.1 hx with h1|h1<;>rcases Za9.1 hy with h2|h2
  .rw[h1,h2]
  .subst h1;exact(hn.1 (he ▸Zc9.2 ⟨y,h2,rfl⟩)).elim
  .subst h2;exact(hn.1 (he ▸Zc9.2 ⟨x,h1,rfl⟩)).elim
  .exact born_inj hn.2 x h1 y h2 he
theorem LI.rounds(hT:dK P tt)(hc:CK none cw call)(dF:jq P C call)(mD:yN P tt C call)(hR:aqT tt nt g o0 o1 o4 uh rest Vk bs)
  {X:Bool->Fr×St} {act:Nat} {b QZ:Pos} {es:List (AV×AV×Nat)} {since r:Nat} {oc:Pos->Loc} {XL:St} {w0:World} (eG:aeP since es=true) {Q:Exit->Act->World->Prop}
  (hm:∀e∈es,(e.2.2=act->Mv cw m g (X false) (X true) e)/\(e.2.2≠act->∀f,Mv cw m g (X f) (X f) e))
  (hX:∀f,(X f).1.get (key g.t17)=some (.ptr QZ 0)/\(X f).2.heap.get b=some (.map es since)/\(X f).1.get (key g.t18)=none/\(X f).1.get (key g.t19)=none)
  (aqU:(∃e∈es,e.2.2=act)\/X false=X true)
  (hQ:∀a' w',kY nt oc C XL w0 (X true).1 (X true).2 a' w'->Q (.exit b0) a' w'):
  ∀ (n:Nat)(seen:Array Nat)(ρ:Pos->Loc)(a:Act)(w:World),(es.filter λe=> !seen.contains e.2.2).length<n->LI C nt g (X (seen.contains act)) b QZ es since r oc XL w0 seen ρ a w->
    Code.rounds P (amw g o0 o1 uh rest i3 i4 b0 b1) Q n a w:=by
 intro n;induction n with
 |zero=>intro seen ρ a w hn;omega
 |succ n ih=>
  intro seen ρ a w hn L;rw[rounds_succ];refine L.round (m:=m) hT hc dF mD hR eG (λpR a' S=> ?_) λe he hs=> ?_
  . have hx:X (seen.contains act)=X true:=by
        rcases aqU with⟨e,he,rfl⟩|h
        .rw[pR e he]
        . cases seen.contains act
          .exact h
          .rfl
    rw[hx]at S L;exact hQ a' w ⟨ρ,S,L.k1,L.k2,L.E⟩
  . have hp:∀y,(seen.push e.2.2).contains y=(seen.contains y||y==e.2.2):=λy=>by
        rw[Array.contains_push]
    have aW:(es.filter λx=> !(seen.push e.2.2).contains x.2.2).length<(es.filter λx=> !seen.contains x.2.2).length:=
        aon (e:=e) (λx hx=>by simp only[hp]at hx;simp at hx ⊢; exact hx.1) (by show(!seen.contains e.2.2)=true;rw[hs];rfl) (by show(!(seen.push e.2.2).contains e.2.2)=false;rw[hp];simp) he
    refine⟨X ((seen.push e.2.2).contains act),?_,(hX _).1,(hX _).2.1,(hX _).2.2.1,(hX _).2.2.2,λρ' a' w' L'=>ih _ ρ' a' w' (by omega) L'⟩;rw[hp act];by_cases ha:e.2.2=act
    .   subst ha;rw[hs];simpa using(hm e he).1 rfl
    .   have:(act==e.2.2)=false:=(by simpa using λh=>ha h.symm);rw[this,Bool.or_false];exact(hm e he).2 ha _
theorem MH:∀(ps:List Pos)(fr:Fr)(p:Pos),p∈ps\/fr.get p=none->(clr ps fr).get p=none
 |[],_,_,h=>h.elim (λh=>by simp at h) id
 |q ::ps,fr,p,h=>MH ps _ p (by
  by_cases hq:q=p
  .subst hq;exact .inr (T.gQ _ _ _)
  . rcases h with h|h
    .   rcases Za9.1 h with h|h
        .exact(hq h.symm).elim
        .exact .inl h
    .   exact .inr (by rw[T.cJ _ hq];exact h))
theorem OK{ops:Array Oper}{Q:Exit->Act->World->Prop}{l2:List Nat}:∀(l1:List Nat)(a:Act)(w:World),wpOps P ops (Exit.then (wpOps P ops Q l2) Q) l1 a w->wpOps P ops Q (l1++l2) a w
 |[],_,_,h=>h
 |i ::l1,a,w,h=>by
  rw[Zd8];unfold wpOps at h ⊢;split
  .rename_i ho;rw[ho]at h;exact OK l1 a w h
  . rename_i o ho;rw[ho]at h;simp only at h;split
    .   rename_i hw;rw[Zb4 hw]at h;refine h.imp (λh=> ?_) id;have h:=Oper.wp_mono (K':=wpOps P ops Q (l1++l2)) (λa w h=>OK l1 a w h) h;unfold Oper.wp at h ⊢;generalize (execOp a.eval o).run P w=r at h ⊢;rcases r with⟨x,w⟩|⟨x,w⟩
        .cases x<;>exact h
        .cases x<;>exact h
    .   rename_i hw;rw[Za7 hw]at h;exact OK l1 _ w h
theorem cN.slot{ρ ρ':Pos->Loc}{st:St}{w:World}(hW:cN ρ C st w)(bM:∀p:Pos,p.toNat<st.next.toNat->ρ' p=ρ p):cN ρ' C ⟨st.heap,st.next.succ⟩ w:=by
 have hl:∀p x,st.heap.get p=some x->ρ' p=ρ p:=λp x hp=>bM p (hW.live p x hp).1
 refine⟨λp x hp=> ?_,λp q x y hp hq h=> ?_,λa v ha=>⟨(hW.eP a v ha).1,λp x hp=> ?_⟩,hW.whole⟩
 .obtain⟨h1,h2,h3⟩:=hW.live p x hp;rw[hl p x hp];exact⟨by rw[Pos.aH];exact Nat.lt_succ_of_lt h1,h2,h3.mono bM (by rw[Pos.aH];omega)⟩
 .rw[hl p x hp,hl q y hq]at h;exact hW.inj p q x y hp hq h
 .rw[hl p x hp];exact(hW.eP a v ha).2 p x hp
theorem pY.rng(hT:dK P tt)(hc:CK none cw call)(dF:jq P C call)(mD:yN P tt C call)(hR:aqT tt nt g o0 o1 o4 uh rest Vk bs)
   {Dy:Array Oper} {l2f:List b9} {o2:Oper} {x:Operand} {ty kt et:TypeId} {i2:Nat} {bs2:List Nat} (h2:uM tt nt Dy Dy.toList bs2=some l2f) (vH:l2f.dropLast=g.l2)
   (My:Dy[g.l2.length]? =some o2) (uy:Dy.size=g.l2.length+1) (hop:o2.op= .range ty x) (Ab:o2.guard=none) (hd2:o2.dst=some g.t17) (hx:uL x=some g.x) (aqV:P.underlying ty=some (.map kt et))
   (QN:key g.t18∈g.ds/\key g.t19∈g.ds):pY P C nt (.seq (.region i2 Dy false) (.block b0 (.loop (amw g o0 o1 uh rest i3 i4 b0 b1)))) (amv cw m g):=by
 intro fr bR st st' e ρ a w Q h hS hQ;unfold amv at h;rw[ZU none hc]at h;unfold uR at h;split at h<;>first|(cases h;done)|skip
 rename_i y hy;simp only[ah5]at h;unfold uR at h;split at h<;>first|(cases h;done)|skip
 rename_i v hv;dsimp only at h;split at h<;>first|(cases h;done)|skip
 rename_i b;simp only[CA]at h;split at h<;>first|(cases h;done)|skip
 rename_i es clock hb;split at h<;>first|(cases h;done)|skip
 rename_i eG;simp only[ak7,oF,Ta]at h;apply wp_seq;apply wp_region;rw[uy,Zf9];apply OK;rw[Zl4];refine Dr (nt:=nt) hT dF g.l2 0 fr y.1 st y.2 ρ a w (λi ao hi=> ?_) hy hS λa2 w2 hp=> ?_
 .rw[<-vH,List.getElem?_dropLast]at hi;(split at hi<;>first|(cases hi;done)|skip);obtain⟨o,k1,k2,_⟩:=SM h2 i ao hi;exact⟨o,by rw[Zb1];exact k1,k2⟩
 obtain⟨vD,S2,k1,k2,E2⟩:=hp;obtain⟨hbn,XB⟩:=(BV hx S2.F hv).Cy;obtain⟨g1,g2,es',q1,q2,q3⟩:=S2.W.live b _ hb;obtain⟨Q0,hf3⟩:∃f,f=(clr g.ds y.1).put (some (.ptr y.2.next 0)) (key g.t17):=⟨_,rfl⟩
 rw[<-hf3]at h;obtain⟨Fy,HR⟩:∃s:St,s=⟨y.2.heap,y.2.next.succ⟩:=⟨_,rfl⟩
 rw[<-HR]at h;have n18:key g.t17≠key g.t18:=λe=>hR.ne.1 (by have:=congrArg Pos.toNat e;rw[iX,iX]at this;omega)
 have n19:key g.t17≠key g.t19:=λe=>hR.ne.2.1 (by have:=congrArg Pos.toNat e;rw[iX,iX]at this;omega)
 have key:∃(X:Bool->Fr×St) (act:Nat),X false=(Q0,Fy)/\e= .normal/\X true=(bR,st')/\(∀e∈es,(e.2.2=act->Mv cw m g (X false) (X true) e)/\(e.2.2≠act->∀f,Mv cw m g (X f) (X f) e))/\
     (∀f,(X f).1.get (key g.t17)=some (.ptr y.2.next 0)/\(X f).2.heap.get b=some (.map es clock)/\(X f).1.get (key g.t18)=none/\(X f).1.get (key g.t19)=none)/\((∃e∈es,e.2.2=act)\/X false=X true):=by
   have hX0:Q0.get (key g.t17)=some (.ptr y.2.next 0)/\Fy.heap.get b=some (.map es clock)/\Q0.get (key g.t18)=none/\Q0.get (key g.t19)=none:=by
     rw[hf3,HR,T.gQ,T.cJ _ n18,T.cJ _ n19];exact⟨rfl,hb,MH _ _ _ (.inl QN.1),MH _ _ _ (.inl QN.2)⟩
   split at h
   . (rename_i aie;simp only[H5,Zd3]at h;obtain⟨rfl,rfl,rfl⟩:=h;have hid:∀e∈es,Mv cw m g (Q0,Fy) (Q0,Fy) e:=λe he=>aeS (by rw[List.filter_eq_nil_iff]at aie;have:=aie e he;simpa using this));exact⟨λ_=>(Q0,Fy),0,rfl,rfl,rfl,λe he=>⟨λ_=>hid e he,λ_ _=>hid e he⟩,λ_=>hX0,.inr rfl⟩
   . (rename_i e1 aie;(split at h<;>first|(cases h;done)|skip);rename_i f1 s1 hr1;(split at h<;>first|(cases h;done)|skip);rename_i y1 v1 Xs hv1;(split at h<;>first|(cases h;done)|skip);rename_i pR;simp only[H5,Zd3]at h;obtain⟨rfl,rfl,rfl⟩:=h;simp only[Zb7]at pR;obtain⟨⟨c1,c2⟩,c3⟩:=pR;have c1:=ab4 c1;have c2:=yO c2;subst c1;subst c2;have yQ:e1∈es:=by have:e1∈es.filter (λe=> !Tj cw m g Q0 Fy e):=(by rw[aie];simp);exact(Zl8.1 this).1);refine⟨λf=>if f then(clr g.ds f1,s1)else(Q0,Fy),e1.2.2,rfl,rfl,rfl,λe he=>⟨λhb=> ?_,λhb f=> ?_⟩,λf=> ?_,.inl ⟨e1,yQ,rfl⟩⟩
     .  obtain rfl:=born_inj (aeR eG).2 e he e1 yQ hb;exact⟨f1,s1,hr1,aeQ _ _,.inr rfl⟩
     .  cases f
        . refine aeS ?_;cases hi:Tj cw m g Q0 Fy e
          .have:e∈es.filter (λe=> !Tj cw m g Q0 Fy e):=Zl8.2 ⟨he,by rw[hi];rfl⟩;rw[aie]at this;simp at this;exact(hb (by rw[this])).elim
          .rfl
        .refine aeS ?_;have:=Zh4.1 c3 e he;simp only[Zj7]at this;exact this.resolve_left λh=>hb (Za8 h)
     .  cases f
        .exact hX0
        .exact⟨hv1,Xs,MH _ _ _ (.inl QN.1),MH _ _ _ (.inl QN.2)⟩
   .cases h
 obtain⟨X,act,x0,rfl,x1,hm,hX,aqU⟩:=key;show wpOps P _ _ [g.l2.length] a2 w2
 refine CB My Ab (v:= .pointer (some ⟨w2.heap.size,0,none⟩)) (w':=w2.alloc (.mapIter (some (vD b).aT) clock #[] clock))
   (by simp[execOp,hop,XB,run_range_map (P:=P) w2 ty kt et (vD b).aT es' clock aqV q1,Result.andThen]) ?_
 rw[hd2];show(Code.block b0 _).wp P Q _ _;apply wp_block;have hold:∀k,k<w2.heap.size->(w2.alloc (.mapIter (some (vD b).aT) clock #[] clock)).heap[k]? =w2.heap[k]? :=λk hk=>heap_alloc_old w2 _ hk
 have ic:(w2.alloc (.mapIter (some (vD b).aT) clock #[] clock)).heap.size=w2.heap.size+1:=by simp
 obtain⟨ρ3,h3,bM⟩:∃ρ3:Pos->Loc,ρ3 y.2.next=⟨w2.heap.size,0,0⟩/\∀p:Pos,p.toNat<y.2.next.toNat->ρ3 p=vD p:=
   ⟨λp=>if p=y.2.next then⟨w2.heap.size,0,0⟩else vD p,Zb4 rfl,λp hp=>Za7 λe=>by subst e;omega⟩
 have hW3:cN ρ3 C Fy (w2.alloc (.mapIter (some (vD b).aT) clock #[] clock)):=by rw[HR];exact(S2.W.slot bM).grow (by omega) hold
 have XE:Fy.next.toNat=y.2.next.toNat+1:=by rw[HR];exact Pos.aH _
 have hF3:lz ρ3 Fy.next.toNat C Q0 (a2.put (some g.t17) (.pointer (some ⟨w2.heap.size,0,none⟩))).tmps:=by rw[hf3];refine lz.put (nt:=nt) (d:=some g.t17) ((S2.F.sub (aeQ _ _)).mono bM (by omega)) S2.size (λ_ h=>by cases h;exact hR.lt.1) ?_;have:=aG.ptr (ρ:=ρ3) (C:=C) y.2.next 0 (n:=Fy.next.toNat) (by omega);rw[h3]at this;exact this
 refine wp_loop_rounds (es.length+1) (LI.rounds (m:=m) (oc:=vD) (XL:=y.2) (w0:=w2) (r:=w2.heap.size) hT hc dF mD hR eG hm hX aqU (λa' w' hp=> ?_) (es.length+1) #[] ρ3 _ _
   (Nat.lt_succ_of_le (Zl2 ..)) ?_)
 .rw[x1]at hp;simp only[Exit.inBlock,Zh6];exact hQ a' w' (kY.trans k1 k2 E2 hp)
 . have:X ((#[]:Array Nat).contains act)=(Q0,Fy):=(by simpa using x0);rw[this];refine⟨⟨hW3,hF3,by rw[Act.kB];exact S2.size,by rw[Act.mM];exact S2.defers⟩,bM,by show y.2.next.toNat<=Fy.next.toNat;omega,
     ⟨rfl,rfl,rfl,by rw[ic];omega,λk hk _=>hold k hk,λp x hp=>.inl ⟨p,x,by rw[HR]at hp;exact hp,by
        rw[HR]at hp;rw[bM p (S2.W.live p x hp).1]⟩⟩,⟨by rw[h3],by rw[h3],by show _<Fy.next.toNat;omega⟩,x0 ▸(hX false).1,x0 ▸(hX false).2.1,⟨clock,?_,Za5 _⟩,λp x hp=> ?_,Za5 _,x0 ▸(hX false).2.2⟩
   .rw[bM b g1];exact heap_alloc_new w2 _
   .rw[HR]at hp;obtain⟨l1,l2,_⟩:=S2.W.live p x hp;rw[bM p l1];omega
end
end
def xfn(ex:Fr->St->XR)(np:Nat)(rs:List Qz)(args:List AV)(st:St):Option (AV×St):=match Nat.beq args.length np with
 |  true=>match QG args 0 .e λfr=>ex fr st with
    |some (.exit _,_,_)=>none
    |some (_,fr,st')=>match ia (λb=>BU b st'.heap) fr rs,Nat.ble st.next.toNat st'.next.toNat with
     |some vs,true=>some (zL vs,st')
     |_,_=>none
    |none=>none
 |false=>none
section
variable{P:Program}{tt:TT}{C:Cells}
theorem avo(hT:dK P tt){f np:Nat}{fn:Func}{c:Code}{ex:Fr->St->XR}{rs:List Qz}(hf:P.funcs[f]? =some fn)(qu:(fn.name== "runtime.NumGoroutine")=false)(hb:fn.body=some c)
  (hx:pY P C fn.ntmps c ex) (hr:qY tt fn.results.toList=some rs) (hle:np<=fn.ntmps):ug P C f (xfn ex np rs) where
 mono args st v st' h:=by
  unfold xfn at h;split at h<;>first|(cases h;done)|skip
  split at h<;>first|(cases h;done)|skip
  split at h<;>first|(cases h;done)|skip
  rename_i hn;cases h;exact Zb5 hn
 runs ρ st w args v st' cZ h hW yh:=by
  unfold xfn at h;split at h<;>first|(cases h;done)|skip
  rename_i hlen;have hlen:=Za8 hlen;rw[Tc]at h;split at h<;>first|(cases h;done)|skip
  rename_i e fC bK dP h1;split at h<;>first|(cases h;done)|skip
  rename_i vs Dl _;simp only[H5,Zd3]at h;obtain⟨rfl,rfl⟩:=h;have eu:(callFunc f cZ.toArray).run P w= .ok (.enter f cZ.toArray) w:=by
   have ahY:¬fn.name= "runtime.NumGoroutine" :=(by simpa using qu);simp[callFunc,hf,ahY,hb]
  rw[eu];simp only[Reaches];refine calls_of_wp hf hb ?_;have ic:cZ.length<=fn.ntmps:=by rw[<-yh.1,hlen];exact hle
  have hS:yM fn.ntmps ρ C (params 0 args .e) st { tmps:=cZ.toArray++Array.replicate (fn.ntmps - cZ.toArray.size) undef,defers:=[] } w:=by
   refine⟨hW,?_,?_,rfl⟩
   .    refine SN args cZ 0 .e yh (λj x hx=> ?_) (λp v hp=>by rw[T.dZ]at hp;cases hp);have hj:j<cZ.length:=(Za1.1 hx).1;rw[Zb1,Zq5 (by simpa using hj)];simpa using hx
   .    simp;omega
  refine hx _ fC st bK e ρ _ w _ h1 hS λa' w' hp=> ?_
  obtain⟨kj,Aa,k1,k2,k3⟩:=hp;simp only[CA]at Dl;obtain⟨y,Xs,hy2⟩:=Jn hT Aa.W Aa.F hr Dl;cases e with
  |exit id=>exact(dP id rfl).elim
  |normal=>exact⟨Aa.defers,y,Xs,kj,hy2,k1,k2,Aa.W,k3⟩
  |ret=>exact⟨Aa.defers,y,Xs,kj,hy2,k1,k2,Aa.W,k3⟩
def idxS:List AV->St->Option (AV×St)
 |[.str a,.int .u8 c],st=>some (.int .i64 (Lib.indexByte (a.map UInt8.ofNat) c.toNat.toUInt8),st)
 |_,_=>none
def amy:List AV->St->Option (AV×St)
 |[.str a,.int .u8 c],st=>some (.int .i64 (Lib.countByte (a.map UInt8.ofNat) c.toNat.toUInt8),st)
 |_,_=>none
theorem aoo{bs:ByteArray}{a:List Nat}(h:bs.data.toList.map UInt8.toNat=a):a.map UInt8.ofNat=bs.data.toList:=by
 rw[<-h,Zg3];have:(UInt8.ofNat∘UInt8.toNat)=id:=by funext c;simp
 rw[this,Zs5]
theorem afZ{f:FuncId}{fn:Func}{s:List AV->St->Option (AV×St)}{X:List UInt8->UInt8->Int}{e:Array Value->Sem Value}(hs:∀args st,s args st=match args with
   |[.str a,.int .u8 c]=>some (.int .i64 (X (a.map UInt8.ofNat) c.toNat.toUInt8),st)
   |_=>none)
  (hr:∀(b:ByteArray)(c:Int)(w:World),(e #[.string b,.int .u8 c]).run P w= .ok (.int .i64 (X b.data.toList c.toNat.toUInt8)) w)
  (hf:P.funcs[f]? =some fn) (qu:(fn.name== "runtime.NumGoroutine")=false) (hb:fn.body.isNone=true) (hx:Extern.findNext fn=none) (he:Extern.find fn=some e):ug P C f s where
 mono args st v st' h:=by rw[hs]at h;split at h<;>cases h;exact Za5 _
 runs ρ st w args v st' cZ h hW hv:=by
  rw[hs]at h;split at h<;>cases h;rename_i a c;obtain⟨x,xs,rfl,h1,h2⟩:=hv.cons_inv;obtain⟨y,ys,rfl,h3,h4⟩:=h2.cons_inv;have:=h4.qQ;subst this;obtain⟨b,rfl,eO⟩:=h1.fM;have:=h3.iU;subst this;have eu:(callFunc f [Value.string b,Value.int .u8 c].toArray).run P w= .ok (.value (.int .i64 (X b.data.toList c.toNat.toUInt8))) w:=by rw[run_callFunc_extern hf qu hb hx he];show((e #[.string b,.int .u8 c]).run P w).andThen _=_;rw[hr];rfl
  rw[eu];refine⟨ρ,?_,λ_ _=>rfl,Za5 _,hW,qJ.refl _ _ _⟩;rw[aoo eO];exact .int _ _
theorem aqW{f:FuncId}{fn:Func}(hf:P.funcs[f]? =some fn)(qu:(fn.name== "runtime.NumGoroutine")=false)(hb:fn.body.isNone=true)(hx:Extern.findNext fn=none)
  (he:Extern.find fn=some Extern.BytealgIndexByte.indexByte):ug P C f idxS:=
 afZ (X:=Lib.indexByte) (λargs st=>by unfold idxS;split<;>first|rfl|(split<;>first|rfl|simp_all)) (λb c w=>Lib.run_indexByteString b c w) hf qu hb hx he
theorem aqX{f:FuncId}{fn:Func}(hf:P.funcs[f]? =some fn)(qu:(fn.name== "runtime.NumGoroutine")=false)(hb:fn.body.isNone=true)(hx:Extern.findNext fn=none)
  (he:Extern.find fn=some Extern.BytealgCount.count):ug P C f amy:=
 afZ (X:=λl c=>Lib.countByte l c) (λargs st=>by unfold amy;split<;>first|rfl|(split<;>first|rfl|simp_all)) (λb c w=>Lib.run_countString b c w) hf qu hb hx he
end
def Tk:Code->List Nat
 |.region _ ops _=>ops.toList.filterMap (·.dst)
 |.seq a b=>Tk a++Tk b
 |.cond _ a b=>Tk a++Tk b
 |.block _ a=>Tk a
 |.loop a=>Tk a
 |_=>[]
def ata (tt :TT)(nt:Nat)(ds:List Nat)(b0 b0' t19:Nat)(o2 o0 o1 o4:Oper)(l2f Vk:List b9)(body:AC):Option (RG×Nat):=
 match o2.op,o0.op,o1.op,o4.op with
 |  .range ty x,.next (.tmp a0) false,.extract (.tmp a1) 0,.entry (.tmp a4)=>match o2.dst,o0.dst,o1.dst,o4.dst with
    |some t17,some t18,some c,some t20=>match o2.guard,o0.guard,o1.guard,o4.guard with
     |  none,none,none,none=>match uL x with
        |some xo=>match Nat.beq a0 t17&&Nat.beq a1 t18&&Nat.beq a4 t17&&Nat.beq c t19&&Nat.beq b0 b0'&&Nat.blt t17 nt&&Nat.blt t18 nt&&Nat.blt t19 nt&&Nat.blt t20 nt&&
            !Nat.beq t17 t18&& !Nat.beq t17 t19&& !Nat.beq t18 t19 with
         |true=>some (⟨t17,t18,t19,t20,l2f.dropLast,xo,Vk.tail,body,key t18::key t19::ds.map key⟩,ty)
         |false=>none
        |_=>none
     |_,_,_,_=>none
    |_,_,_,_=>none
 |_,_,_,_=>none
def aif (tt:TT)(nt:Nat):Code->Option (RG×Nat)
 |  .seq (.region _ Dy false) (.block b0 (.loop (.seq (.region _ ⟨[o0,o1]⟩ false) (.seq (.cond (.tmp t19) .skip (.exit b0')) (.block _ (.seq (.region _ uh false) rest))))))=>
    match Dy[Dy.size - 1]?,uh[0]? with
    |some o2,some o4=>match uM tt nt Dy Dy.toList [],uM tt nt uh uh.toList []with
     |  some l2f,some Vk=>match vU tt nt rest with
        |some body=>ata tt nt (uh.toList.filterMap (·.dst)++Tk rest) b0 b0' t19 o2 o0 o1 o4 l2f Vk body
        |none=>none
     |_,_=>none
    |_,_=>none
 |_=>none
section
variable{P:Program}{tt:TT}{C:Cells}{cw:tr XR}{call:aj}{nt m:Nat}
theorem pY.aif(hT:dK P tt)(hc:CK none cw call)(dF:jq P C call)(mD:yN P tt C call){c:Code}{g:RG}{ty:Nat}(h:aif tt nt c=some (g,ty))
  {kt et:TypeId} (aqV:P.underlying ty=some (.map kt et)):pY P C nt c (amv cw m g):=by
 unfold Go.Ai.aif at h;split at h<;>first|(cases h;done)|skip
 rename_i i2 Dy b0 i3 o0 o1 t19 b0' b1 i4 uh rest;split at h<;>first|(cases h;done)|skip
 rename_i o2 o4 My ho4;split at h<;>first|(cases h;done)|skip
 rename_i l2f Vk vH hl4;split at h<;>first|(cases h;done)|skip
 rename_i body amz;unfold ata at h;split at h<;>first|(cases h;done)|skip
 rename_i ty' x a0 a1 a4 p2 p0 p1 p4;split at h<;>first|(cases h;done)|skip
 rename_i t17 t18 c t20 d2 d0 d1 d4;split at h<;>first|(cases h;done)|skip
 rename_i g2 g0 g1 g4;split at h<;>first|(cases h;done)|skip
 rename_i xo hxo;split at h<;>first|(cases h;done)|skip
 rename_i hb;simp only[H5,Zd3]at h;obtain⟨rfl,rfl⟩:=h;simp only[Zb7,Zk5,Nat.beq_eq,Zr7]at hb;obtain⟨⟨⟨⟨⟨⟨⟨⟨⟨⟨⟨rfl,rfl⟩,rfl⟩,rfl⟩,rfl⟩,l17⟩,l18⟩,l19⟩,l20⟩,n1⟩,n2⟩,n3⟩:=hb;have hs:l2f.length=Dy.size:=(xE vH).1.trans (Zj1 ..);have h0:0<Dy.size:=by have:=(Zd5.1 My).1;omega
 exact pY.rng hT hc dF mD (i3:=i3) (i4:=i4) (b1:=b1) ⟨⟨p0,g0,d0⟩,⟨p1,g1,d1⟩,⟨ho4,p4,g4,d4⟩,⟨l17,l18,l19,l20⟩,⟨Ze9 n1,Ze9 n2,Ze9 n3⟩,hl4,rfl,amz⟩ vH rfl
  (by rw[List.length_dropLast,hs];exact My) (by show Dy.size=l2f.dropLast.length+1;rw[List.length_dropLast,hs];omega) p2 g2 d2 hxo aqV ⟨by simp,by simp⟩
def XM:Code->Bool
 |.region _ ops _=>ops.toList.any λo=>match o.op with|.range _ _=>true|_=>false
 |.seq a b=>XM a||XM b
 |.cond _ a b=>XM a||XM b
 |.block _ a=>XM a
 |.loop a=>XM a
 |_=>false
def spX (P:Program)(tt:TT)(cw:tr XR)(m nt:Nat):Code->Fr->St->XR
 |  .seq a b=>match Go.Ai.aif tt nt (.seq a b)with
    |some (g,ty)=>match P.underlying ty with
     |some (.map _ _)=>amv cw m g
     |_=>λ_ _=>none
    |none=>match XM a||XM b with
     |true=>aqS (spX P tt cw m nt a) (spX P tt cw m nt b)
     |  false=>match vU tt nt (.seq a b)with
        |some ac=>exK cw m ac
        |none=>λ_ _=>none
 |  c=>match vU tt nt c with
    |some ac=>exK cw m ac
    |none=>λ_ _=>none
theorem pY.no{c:Code}:pY P C nt c (λ_ _=>none):=λ_ _ _ _ _ _ _ _ _ h=>by cases h
theorem pY.spX(hT:dK P tt)(hc:CK none cw call)(dF:jq P C call)(mD:yN P tt C call):∀c:Code,pY P C nt c (spX P tt cw m nt c):=by
 intro c;induction c with
 |seq   a b iha ihb=>
  unfold Go.Ai.spX;split
  . split
    .   rename_i h _ _ _ hu;exact .aif hT hc dF mD h hu
    .   exact .no
  . split
    .   exact iha.seq ihb
    .   split
        .exact .ac hT hc dF mD (by assumption)
        .exact .no
 |_=>
  unfold Go.Ai.spX;split
  .exact .ac hT hc dF mD (by assumption)
  .exact .no
def ahr(P:Program)(tt:TT)(O:fk)(G:T dY)(m d:Nat)(fn:Func):List AV->St->Option (AV×St):=
 match fn.body,qY tt fn.results.toList,Nat.ble (fn.params.size+fn.nfree) fn.ntmps with
 |some c,some rs,true=>xfn (spX P tt (Oo none O G m d) m fn.ntmps c) (fn.params.size+fn.nfree) rs
 |_,_,_=>λ_ _=>none
theorem aqY(hm:P.follows .mixedOrders=true)(hT:dK P tt){O:fk}{G:T dY}(hO:vY P C O)(XG:oP O)(hG:GOk P tt G){f d:Nat}{fn:Func}(hf:P.funcs[f]? =some fn)
   (qu:(fn.name== "runtime.NumGoroutine")=false):ug P C f (ahr P tt O G m d fn):=by
 have dF:=Dw (C:=C) hm hT hO XG hG m d;have hcm:=Dt (G:=G) XG m d;have key:∀c rs,fn.body=some c->qY tt fn.results.toList=some rs->Nat.ble (fn.params.size+fn.nfree) fn.ntmps=true->ug P C f (xfn (spX P tt (Oo none O G m d) m fn.ntmps c) (fn.params.size+fn.nfree) rs):=
   λc rs hb hr hle=>avo hT hf qu hb (.spX hT (Gk none O G m d) dF (S7 hm hT dF hcm) c) hr (Zb5 hle)
 unfold ahr;split
 .exact key _ _ (by assumption) (by assumption) (by assumption)
 .exact⟨λ_ _ _ _ h=>(by cases h),λ_ _ _ _ _ _ _ h=>(by cases h)⟩
end
end
noncomputable section
open Go
inductive Sh where
 |leaf
 |seq (jn:Option (List Pos)) (a b:Sh)
 |cond (a b:Sh)
 |block (a:Sh)
 |loop (j:Nat) (ins:List Pos) (outs:List (Nat×List Pos)) (a:Sh)
variable{R:Type}
abbrev LpK(R:Type):=Nat->List AV->St->Option R
abbrev Env(R:Type):=Nat->LpK R->Nat->List AV->St->Option R
def ir(l:List AV)(k:AV->List AV->Option R):Option R:=match l with
 |v::vs=>k v vs
 |[]=>none
def mG(l:List AV)(k:Option R):Option R:=match l with
 |[]=>k
 |_::_=>none
def aq(c:aj)(k:aJ)(xs:List AV)(st:St)(K:AV->St->Option R):Option R:=match cW c k xs st with
 |some (v,st')=>K v st'
 |none=>none
def qK(c:aj)(g:AV)(want:Bool)(k:aJ)(xs:List AV)(st:St)(K:AV->St->Option R):Option R:=match g with
 |  .bool b=>match b==want with
    |true=>aq c k xs st K
    |false=>K .undef st
 |.tuple _=>K .undef st
 |_=>none
def fq(k:aJ)(xs:List AV)(K:AV->Option R):Option R:=match k.run (λ_=>none) .h xs with
 |some (.val v)=>K v
 |_=>none
def gpr(g:AV)(want:Bool)(k:aJ)(xs:List AV)(K:AV->Option R):Option R:=match g with
 |  .bool b=>match b==want with
    |true=>fq k xs K
    |false=>K .undef
 |.tuple _=>K .undef
 |_=>none
def jJ(k:aJ)(xs:List AV)(h:T AB)(ok:AV->Bool)(K:AV->Option R):Option R:=match k.run (λ_=>none) .h xs with
 |some (.val v)=>K v
 |  _=>match k.run (λb=>h.get b) .h xs with
    |some (.val v)=>match ok v with
     |true=>K v
     |false=>none
    |_=>none
def grd(g:AV)(want:Bool)(k:aJ)(xs:List AV)(h:T AB)(ok:AV->Bool)(K:AV->Option R):Option R:=match g with
 |  .bool b=>match b==want with
    |true=>jJ k xs h ok K
    |false=>K .undef
 |.tuple _=>K .undef
 |_=>none
def Vl(k:aJ)(xs:List AV)(st:St)(K:AV->AB->Option R):Option R:=match k.run (λ_=>none) st.next xs with
 |some (.br v none none (some aT))=>K v aT
 |_=>none
def wnt(g:AV)(want:Bool)(A B:Option R):Option R:=match g with
 |  .bool b=>match b==want with
    |true=>A
    |false=>B
 |.tuple _=>B
 |_=>none
def cnd(v:AV)(A B:Option R):Option R:=match v with
 |.bool true=>A
 |.bool false=>B
 |_=>none
def cY(f:(List AV->St->Option R)->Option R)(k:List AV->St->Option R):Option R:=f k
def ab7 (c:aj):List b9->Fr->St->(Fr->St->Option R)->Option R
 |[],fr,st,K=>K fr st
 |  o::os,fr,st,K=>match gu fr o.xs with
    |some xs=>match o.guard with
     |none=>aq c o.k xs st λv st=>ab7 c os (eR fr o.dst v) st K
     |  some (p,want)=>match fr.get p with
        |some g=>qK c g want o.k xs st λv st=>ab7 c os (eR fr o.dst v) st K
        |none=>none
    |none=>none
def rV (c:aj ):List (Nat×b9)->List Rec->T AB->Fr->St->(Fr->St->Option R)->Option R
 |[],_,_,fr,st,K=>K fr st
 |  (j, o):: os,recs,base,fr,st,K=>match gu fr o.xs with
    | some xs=>match o.cls with
      | .pure=>match o.guard with
        |none=>fq o.k xs λv=>rV c os ({ idx:=j,o:=o,v:=v,c:= .pure,nx:=st.next }::recs) base (eR fr o.dst v) st K
        |some (p,want)=>match fr.get p with
         |some g=>gpr g want o.k xs λv=>rV c os ({ idx:=j,o:=o,v:=v,c:= .pure,nx:=st.next }::recs) base (eR fr o.dst v) st K
         |none=>none
      | .read=>match o.guard with
        |none=>jJ o.k xs (snap o.cK base recs) (λv=>oC o.cK o.k xs v [] recs) λv=>rV c os ({ idx:=j,o:=o,v:=v,c:= .pure,nx:=st.next }::recs) base (eR fr o.dst v) st K
        |some (p,want)=>match fr.get p with
         |some g=>grd g want o.k xs (snap o.cK base recs) (λv=>oC o.cK o.k xs v [] recs) λv=>rV c os ({ idx:=j,o:=o,v:=v,c:= .pure,nx:=st.next }::recs) base (eR fr o.dst v) st K
         |none=>none
      | .new=>match o.guard with
        |none=>Vl o.k xs st λv aT=>rV c os ({ idx:=j,o:=o,v:=v,c:= .new st.next aT,nx:=st.next.succ }::recs) base (eR fr o.dst v) { heap:=st.heap.put (some aT) st.next,next:=st.next.succ } K
        |some (p,want)=>match fr.get p with
         |some g=>wnt g want (Vl o.k xs st λv aT=>rV c os ({ idx:=j,o:=o,v:=v,c:= .new st.next aT,nx:=st.next.succ }::recs) base (eR fr o.dst v) { heap:=st.heap.put (some aT) st.next,next:=st.next.succ } K)
             (rV c os ({ idx:=j,o:=o,v:= .undef,c:= .pure,nx:=st.next }::recs) base (eR fr o.dst .undef) st K)
         |none=>none
      | .br=>match o.guard with
        |none=>aq c o.k xs st λv st'=>rV c os ({ idx:=j,o:=o,v:=v,c:= .br base st'.heap,nx:=st'.next }::recs) st'.heap (eR fr o.dst v) st' K
        |some (p,want)=>match fr.get p with
         |some g=>wnt g want (aq c o.k xs st λv st'=>rV c os ({ idx:=j,o:=o,v:=v,c:= .br base st'.heap,nx:=st'.next }::recs) st'.heap (eR fr o.dst v) st' K)
             (rV c os ({ idx:=j,o:=o,v:= .undef,c:= .pure,nx:=st.next }::recs) base (eR fr o.dst .undef) st K)
         |none=>none
    |none=>none
def XN:List Pos->Fr->(List AV->Option R)->Option R
 |[],_,k=>k []
 |  p::ps,fr,k=>match fr.get p with
    |some v=>XN ps fr λvs=>k (v::vs)
    |none=>none
def XO:List Pos->List AV->Fr->(Fr->Option R)->Option R
 |[],vs,fr,k=>mG vs (k fr)
 |p::ps,vs,fr,k=>ir vs λv vs=>XO ps vs (fr.put (some v) p) k
def ZY:List (Nat×List Pos)->Nat->List Pos
 |[],_=>[]
 |  (i,l)::r,e=>match Nat.beq i e with
    |true=>l
    |false=>ZY r e
def exOf:Nat->oO
 |0=>.normal
 |1=>.ret
 |n+2=>.exit n
def Q3(D:Fr->St->(oO->Fr->St->Option R)->Option R)(ins:List Pos)(outs:List (Nat×List Pos))(K':LpK R)(again:List AV->St->Option R)(vs:List AV)(st:St):Option R:=
 XO ins vs .e λfr=>D fr st λex fr st=>match ex with
    |.normal=>XN ins fr λvs=>again vs st
    |.exit i=>XN (ZY outs (i+2)) fr λos=>K' (i+2) os st
    |.ret=>XN (ZY outs 1) fr λos=>K' 1 os st
def knk(outs:List (Nat×List Pos))(K:oO->Fr->St->Option R):LpK R:=λe os st=>XO (ZY outs e) os .e λfr=>K (exOf e) fr st
def den (c:aj)(F:Nat)(L:Env R):AC->Sh->Fr->St->(oO->Fr->St->Option R)->Option R
 |.skip,_,fr,st,K=>K .normal fr st
 |.region ops,_,fr,st,K=>ab7 c ops fr st (K .normal)
 |.draw ops,_,fr,st,K=>rV c ops [] st.heap fr st (K .normal)
 |  .seq a b,s,fr,st,K=>match s with
    | .seq none s t=>den c F L a s fr st λex fr st=>match ex with
      |.normal=>den c F L b t fr st K
      |.exit i=>K (.exit i) fr st
      |.ret=>K .ret fr st
    | .seq (some l) s t=>cY (λK'=>den c F L a s fr st λex fr st=>match ex with
      |.normal=>XN l fr λvs=>K' vs st
      |.exit i=>K (.exit i) fr st
      |.ret=>K .ret fr st) (λvs st=>XO l vs .e λfr=>den c F L b t fr st K)
    |_=>none
 |  .cond x a b,s,fr,st,K=>match s with
    | .cond s t=>match HD fr x with
      |some v=>cnd v (den c F L a s fr st K) (den c F L b t fr st K)
      |none=>none
    |_=>none
 |  .block id a,s,fr,st,K=>match s with
    | .block s=>den c F L a s fr st λex fr st=>match ex with
      |.normal=>K .normal fr st
      | .exit i=>match Nat.beq i id with
        |true=>K .normal fr st
        |false=>K (.exit i) fr st
      |.ret=>K .ret fr st
    |_=>none
 |  .loop _,s,fr,st,K=>match s with
    |.loop j ins outs _=>XN ins fr λvs=>L j (knk outs K) F vs st
    |_=>none
 |.exit id,_,fr,st,K=>K (.exit id) fr st
 |.ret,_,fr,st,K=>K .ret fr st
def Dz(c:aj)(F:Nat)(L:Env R)(a:AC):Sh->Prop
 |.loop j ins outs s=>∀K',(∀vs st,L j K' 0 vs st=none)/\∀n vs st,L j K' (n+1) vs st=Q3 (den c F L a s) ins outs K' (L j K' n) vs st
 |_=>False
def Ap(c:aj)(F:Nat)(L:Env R):AC->Sh->Prop
 |  .seq a b,s=>match s with
    |.seq _ s t=>Ap c F L a s/\Ap c F L b t
    |_=>True
 |  .cond _ a b,s=>match s with
    |.cond s t=>Ap c F L a s/\Ap c F L b t
    |_=>True
 |  .block _ a,s=>match s with
    |.block s=>Ap c F L a s
    |_=>True
 |  .loop a,s=>match s with
    |.loop j ins outs s=>Dz c F L a (.loop j ins outs s)/\Ap c F L a s
    |_=>True
 |_,_=>True
def fY:AC->Sh->List (AC×Sh)
 |  .seq a b,s=>match s with
    |.seq _ s t=>fY a s++fY b t
    |_=>[]
 |  .cond _ a b,s=>match s with
    |.cond s t=>fY a s++fY b t
    |_=>[]
 |  .block _ a,s=>match s with
    |.block s=>fY a s
    |_=>[]
 |  .loop a,s=>match s with
    |.loop j ins outs s=>(a,.loop j ins outs s)::fY a s
    |_=>[]
 |_,_=>[]
theorem Gm{c:aj}{F:Nat}{L:Env R}:∀(a:AC)(s:Sh),(∀x∈fY a s,Dz c F L x.1 x.2)->Ap c F L a s
 |.skip,_,_=>trivial
 |.region _,_,_=>trivial
 |.draw _,_,_=>trivial
 |.exit _,_,_=>trivial
 |.ret,_,_=>trivial
 | .seq a b,s,h=>by
   cases s<;>simp only[Ap]<;>simp only[fY,Ze0]at h;exact⟨Gm a _ λx hx=>h x (.inl hx),Gm b _ λx hx=>h x (.inr hx)⟩
 | .cond x a b,s,h=>by
   cases s<;>simp only[Ap]<;>simp only[fY,Ze0]at h;exact⟨Gm a _ λx hx=>h x (.inl hx),Gm b _ λx hx=>h x (.inr hx)⟩
 |.block id a,s,h=>by cases s<;>simp only[Ap]<;>simp only[fY]at h;exact Gm a _ h
 | .loop a,s,h=>by
   cases s<;>simp only[Ap]<;>simp only[fY,Za9]at h;exact⟨h _ (.inl rfl),Gm a _ λx hx=>h x (.inr hx)⟩
def Sub(a b:Fr):Prop:=∀p v,a.get p=some v->b.get p=some v
theorem Sub.refl(a:Fr):Sub a a:=λ_ _ h=>h
theorem Sub.put{a b:Fr}(h:Sub a b)(p:Pos)(v:AV):Sub (a.put (some v) p) (b.put (some v) p):=λq u hq=>by
 by_cases e:p=q
 .subst e;rw[T.gQ]at hq ⊢; exact hq
 .rw[T.cJ _ e]at hq ⊢; exact h _ _ hq
theorem Sub.dst{a b:Fr}(h:Sub a b)(d:Option Pos)(v:AV):Sub (eR a d v) (eR b d v):=by
 cases d with
 |none=>exact h
 |some p=>exact h.put p v
theorem Sub.ev{a b:Fr}(h:Sub a b){x:iy}{v:AV}(e:HD a x=some v):HD b x=some v:=by
 cases x with
 |t p=>exact h _ _ e
 |c v=>exact e
theorem Sub.evs{a b:Fr}(h:Sub a b):∀{xs:List iy}{vs:List AV},gu a xs=some vs->gu b xs=some vs
 |[],_,e=>e
 |x::xs,vs,e=>by
  unfold gu at e ⊢;cases hx:HD a x with
  |none=>simp[hx]at e
  |some v=>
   simp only[hx]at e;cases hs:gu a xs with
   |none=>simp[hs]at e
   |some us=>simp only[hs]at e;simp only[h.ev hx,h.evs hs];exact e
theorem Tl {c:aj}:∀(os:List b9){fr gw:Fr}{st:St}{K:Fr->St->Option R}{r:R},Sub fr gw->ab7 c os fr st K=some r->
  ∃bR eH st',mO c os gw st=some (eH,st')/\Sub bR eH/\K bR st'=some r
 |[],fr,gw,st,K,r,hs,h=>⟨fr,gw,st,rfl,hs,h⟩
 |o::os,fr,gw,st,K,r,hs,h=>by
  unfold ab7 at h;cases hx:gu fr o.xs with
  |none=>simp[hx]at h
  |some xs=>
   simp only[hx]at h;have hstp:∀{st},aq c o.k xs st (λv st=>ab7 c os (eR fr o.dst v) st K)=some r->cX gw o.guard=some true->∃bR eH st',mO c (o::os) gw st=some (eH,st')/\Sub bR eH/\K bR st'=some r:=λ{st} h hw=>by
        unfold aq at h;cases iQ:cW c o.k xs st with
        |none=>simp[iQ]at h
        |some p=>
         simp only[iQ]at h;obtain⟨bR,eH,st',h1,h2⟩:=Tl os (hs.dst o.dst p.1) h;exact⟨bR,eH,st',by unfold mO;simp only[hw,hs.evs hx,iQ];exact h1,h2⟩
   have XP:∀{st},ab7 c os (eR fr o.dst .undef) st K=some r->cX gw o.guard=some false->∃bR eH st',mO c (o::os) gw st=some (eH,st')/\Sub bR eH/\K bR st'=some r:=λ{st} h hw=>by
        obtain⟨bR,eH,st',h1,h2⟩:=Tl os (hs.dst o.dst .undef) h;exact⟨bR,eH,st',by unfold mO;simp only[hw];exact h1,h2⟩
   cases hg:o.guard with
   |none=>simp only[hg]at h;exact hstp h (by rw[hg];rfl)
   |    some pw=>
        obtain⟨p,want⟩:=pw;simp only[hg]at h;cases hp:fr.get p with
        |none=>simp[hp]at h
        |some g=>
         simp only[hp]at h;have CC:=hs _ _ hp;unfold qK at h;split at h
         .  rename_i b;split at h
            .rename_i hb;exact hstp h (by rw[hg];simp[cX,CC,hb])
            .rename_i hb;exact XP h (by rw[hg];simp[cX,CC,hb])
         .  exact XP h (by rw[hg];simp[cX,CC])
         .  cases h
theorem abf {c:aj}:∀(os:List (Nat×b9))(recs:List Rec)(base:T AB){fr gw:Fr}{st:St}{K:Fr->St->Option R}{r:R},Sub fr gw->rV c os recs base fr st K=some r->
  ∃bR eH st',eM c os recs base gw st=some (eH,st')/\Sub bR eH/\K bR st'=some r
 |[],_,_,fr,gw,st,K,r,hs,h=>⟨fr,gw,st,rfl,hs,h⟩
 |(j,   o)::  os,recs,base,fr,gw,st,K,r,hs,h=>by
  have ih:=λrecs base {fr gw:Fr}{st:St}{K:Fr->St->Option R}{r:R}=>abf (c:=c) os recs base (fr:=fr) (gw:=gw) (st:=st) (K:=K) (r:=r)
  unfold rV at h;cases hx:gu fr o.xs with
  |none=>simp[hx]at h
  | some xs   =>
    simp only[hx]at h;have hxx:=hs.evs hx;have XP:∀{st},rV c os ({ idx:=j,o:=o,v:= .undef,c:= .pure,nx:=st.next }::recs) base (eR fr o.dst .undef) st K=some r->cX gw o.guard=some false->∃bR eH st',eM c ((j,o)::os) recs base gw st=some (eH,st')/\Sub bR eH/\K bR st'=some r:=λ{st} h hw=>by
        obtain⟨bR,eH,st',h1,h2⟩:=ih _ _ (hs.dst o.dst .undef) h;exact⟨bR,eH,st',by unfold eM;simp only[hw];exact h1,h2⟩
    cases hc:o.cls with
    |   pure=>
        simp only[hc]at h;have XQ:fq o.k xs (λv=>rV c os ({ idx:=j,o:=o,v:=v,c:= .pure,nx:=st.next }::recs) base (eR fr o.dst v) st K)=some r->cX gw o.guard=some true->∃bR eH st',eM c ((j,o)::os) recs base gw st=some (eH,st')/\Sub bR eH/\K bR st'=some r:=λh hw=>by
         unfold fq at h;split at h
         .  rename_i v hv;obtain⟨bR,eH,st',h1,h2⟩:=ih _ _ (hs.dst o.dst v) h;exact⟨bR,eH,st',by unfold eM;simp only[hw,hxx,hc,hv];exact h1,h2⟩
         .  cases h
        cases hg:o.guard with
        |none=>simp only[hg]at h;exact XQ h (by rw[hg];rfl)
        |some pw=>
         obtain⟨p,want⟩:=pw;simp only[hg]at h;cases hp:fr.get p with
         |none=>simp[hp]at h
         |  some g=>
            simp only[hp]at h;have CC:=hs _ _ hp;unfold gpr at h;split at h
            . split at h
              .rename_i hb;exact XQ h (by rw[hg];simp[cX,CC,hb])
              .rename_i hb;exact XP h (by rw[hg];simp[cX,CC,hb])
            .exact XP h (by rw[hg];simp[cX,CC])
            .cases h
    |   read=>
        simp only[hc]at h;have XQ :jJ o.k xs (snap o.cK base recs) (λv=>oC o.cK o.k xs v [] recs) (λv=>rV c os ({ idx:=j,o:=o,v:=v,c:= .pure,nx:=st.next }::recs) base (eR fr o.dst v) st K)=some r->cX gw o.guard=some true->∃bR eH st',eM c ((j,o)::os) recs base gw st=some (eH,st')/\Sub bR eH/\K bR st'=some r:=λh hw=>by
         unfold jJ at h;split at h
         .  rename_i v hv;obtain⟨bR,eH,st',h1,h2⟩:=ih _ _ (hs.dst o.dst v) h;exact⟨bR,eH,st',by unfold eM;simp only[hw,hxx,hc,hv];exact h1,h2⟩
         .  rename_i n9;split at h
            . rename_i v hv;split at h
              . rename_i cF;obtain⟨bR,eH,st',h1,h2⟩:=ih _ _ (hs.dst o.dst v) h;refine⟨bR,eH,st',?_,h2⟩;unfold eM;simp only[hw,hxx,hc];cases hr:o.k.run (λ_=>none) .h xs with
                |none=>simp only[hv,cF];exact h1
                |some x=>cases x with
                 |val u=>exact absurd hr (n9 u)
                 |br v d e n=>simp only[hv,cF];exact h1
                 |call f xs=>simp only[hv,cF];exact h1
              .cases h
            .cases h
        cases hg:o.guard with
        |none=>simp only[hg]at h;exact XQ h (by rw[hg];rfl)
        |some pw=>
         obtain⟨p,want⟩:=pw;simp only[hg]at h;cases hp:fr.get p with
         |none=>simp[hp]at h
         |  some g=>
            simp only[hp]at h;have CC:=hs _ _ hp;unfold grd at h;split at h
            . split at h
              .rename_i hb;exact XQ h (by rw[hg];simp[cX,CC,hb])
              .rename_i hb;exact XP h (by rw[hg];simp[cX,CC,hb])
            .exact XP h (by rw[hg];simp[cX,CC])
            .cases h
    |   new =>
        simp only[hc]at h;have XQ:Vl o.k xs st (λv aT=>rV c os ({ idx:=j,o:=o,v:=v,c:= .new st.next aT,nx:=st.next.succ }::recs) base (eR fr o.dst v) { heap:=st.heap.put (some aT) st.next,next:=st.next.succ } K)=some r->cX gw o.guard=some true->∃bR eH st',eM c ((j,o)::os) recs base gw st=some (eH,st')/\Sub bR eH/\K bR st'=some r:=λh hw=>by
         unfold Vl at h;split at h
         .  rename_i v aT hv;obtain⟨bR,eH,st',h1,h2⟩:=ih _ _ (hs.dst o.dst v) h;exact⟨bR,eH,st',by unfold eM;simp only[hw,hxx,hc,hv];exact h1,h2⟩
         .  cases h
        cases hg:o.guard with
        |none=>simp only[hg]at h;exact XQ h (by rw[hg];rfl)
        |some pw=>
         obtain⟨p,want⟩:=pw;simp only[hg]at h;cases hp:fr.get p with
         |none=>simp[hp]at h
         |  some g=>
            simp only[hp]at h;have CC:=hs _ _ hp;unfold wnt at h;split at h
            . split at h
              .rename_i hb;exact XQ h (by rw[hg];simp[cX,CC,hb])
              .rename_i hb;exact XP h (by rw[hg];simp[cX,CC,hb])
            .exact XP h (by rw[hg];simp[cX,CC])
            .cases h
    |   br=>
        simp only[hc]at h;have XQ:aq c o.k xs st (λv st'=>rV c os ({ idx:=j,o:=o,v:=v,c:= .br base st'.heap,nx:=st'.next }::recs) st'.heap (eR fr o.dst v) st' K)=some r->cX gw o.guard=some true->∃bR eH st',eM c ((j,o)::os) recs base gw st=some (eH,st')/\Sub bR eH/\K bR st'=some r:=λh hw=>by
         unfold aq at h;cases iQ:cW c o.k xs st with
         |none=>simp[iQ]at h
         |  some p=>
            simp only[iQ]at h;obtain⟨bR,eH,st',h1,h2⟩:=ih _ _ (hs.dst o.dst p.1) h;exact⟨bR,eH,st',by unfold eM;simp only[hw,hxx,hc,iQ];exact h1,h2⟩
        cases hg:o.guard with
        |none=>simp only[hg]at h;exact XQ h (by rw[hg];rfl)
        |some pw=>
         obtain⟨p,want⟩:=pw;simp only[hg]at h;cases hp:fr.get p with
         |none=>simp[hp]at h
         |  some g=>
            simp only[hp]at h;have CC:=hs _ _ hp;unfold wnt at h;split at h
            . split at h
              .rename_i hb;exact XQ h (by rw[hg];simp[cX,CC,hb])
              .rename_i hb;exact XP h (by rw[hg];simp[cX,CC,hb])
            .exact XP h (by rw[hg];simp[cX,CC])
            .cases h
def Has:List Pos->List AV->Fr->Prop
 |[],[],_=>True
 |p::ps,v::vs,fr=>fr.get p=some v/\Has ps vs fr
 |_,_,_=>False
theorem Has.sub{a b:Fr}(hs:Sub a b):∀{ps:List Pos}{vs:List AV},Has ps vs a->Has ps vs b
 |[],[],_=>trivial
 |[],_::_,h=>h
 |_::_,[],h=>h
 |_::_,_::_,h=>⟨hs _ _ h.1,Has.sub hs h.2⟩
theorem CE:∀{ps:List Pos}{fr:Fr}{k:List AV->Option R}{r:R},XN ps fr k=some r->∃vs,Has ps vs fr/\k vs=some r
 |[],_,_,_,h=>⟨[],trivial,h⟩
 |p::ps,fr,k,r,h=>by
  unfold XN at h;cases hp:fr.get p with
  |none=>simp[hp]at h
  |some v=>
   simp only[hp]at h;obtain⟨vs,h1,h2⟩:=CE h;exact⟨v::vs,⟨hp,h1⟩,h2⟩
theorem HS:∀{ps:List Pos}{vs:List AV}{fr gw:Fr}{k:Fr->Option R}{r:R},XO ps vs fr k=some r->Has ps vs gw->Sub fr gw->∃bR,Sub bR gw/\k bR=some r
 |[],vs,fr,gw,k,r,h,_,hs=>by
  unfold XO mG at h;split at h
  .exact⟨fr,hs,h⟩
  .cases h
 |p::ps,[],fr,gw,k,r,h,hh,hs=>by simp[XO,ir]at h
 |p::ps,v::vs,fr,gw,k,r,h,hh,hs=>by
  unfold XO ir at h;refine HS h hh.2 λq u hq=> ?_
  by_cases e:p=q
  .subst e;rw[T.gQ]at hq;cases hq;exact hh.1
  .rw[T.cJ _ e]at hq;exact hs _ _ hq
theorem LW{c:aj}{n m:Nat}(h:n<=m){a:AC}{fr:Fr}{st:St}{r:oO×Fr×St}(e:exec c n a fr st=some r):exec c m a fr st=some r:=ZX (LeC.refl c) n m h _ _ _ _ e
theorem tF{c:aj}{F:Nat}{L:Env R}:∀(a:AC)(s:Sh),Ap c F L a s->∀{fr gw:Fr}{st:St}{K:oO->Fr->St->Option R}{r:R},Sub fr gw->den c F L a s fr st K=some r->
   ∃n ex bR eH st',exec c n a gw st=some (ex,eH,st')/\Sub bR eH/\K ex bR st'=some r
 |.skip,s,_,fr,gw,st,K,r,hs,h=>⟨1,.normal,fr,gw,st,rfl,hs,by simpa [den]using h⟩
 |.exit id,s,_,fr,gw,st,K,r,hs,h=>⟨1,.exit id,fr,gw,st,rfl,hs,by simpa [den]using h⟩
 |.ret,s,_,fr,gw,st,K,r,hs,h=>⟨1,.ret,fr,gw,st,rfl,hs,by simpa [den]using h⟩
 | .region ops,s,_,fr,gw,st,K,r,hs,h=>by
   simp only[den]at h;obtain⟨bR,eH,st',h1,h2,h3⟩:=Tl ops hs h;exact⟨1,.normal,bR,eH,st',by simp only[exec,bJ,h1],h2,h3⟩
 | .draw ops,s,_,fr,gw,st,K,r,hs,h=>by
   simp only[den]at h;obtain⟨bR,eH,st',h1,h2,h3⟩:=abf ops _ _ hs h;exact⟨1,.normal,bR,eH,st',by simp only[exec,bJ,h1],h2,h3⟩
 | .seq a b,s,cF,fr,gw,st,K,r,hs,h=>by
   (cases s<;>simp only[den]at h<;>first|(cases h;done)|skip);rename_i jn s t;simp only[Ap]at cF;cases jn with
   |none=>
    simp only at h;obtain⟨n,ex,fC,xN,bK,h1,h2,h3⟩:=tF a s cF.1 hs h;cases ex with
    |   normal=>
        obtain⟨m,ex,Vh,aih,A3,k1,k2,k3⟩:=tF b t cF.2 h2 h3;exact⟨max n m+1,ex,Vh,aih,A3,by simp only[exec,bJ,LW (Zj8 n m) h1];exact LW (Zj0 n m) k1,k2,k3⟩
    |exit i=>exact⟨n+1,.exit i,fC,xN,bK,by simp only[exec,bJ,h1],h2,h3⟩
    |ret=>exact⟨n+1,.ret,fC,xN,bK,by simp only[exec,bJ,h1],h2,h3⟩
   |some l=>
    simp only[cY]at h;obtain⟨n,ex,fC,xN,bK,h1,h2,h3⟩:=tF a s cF.1 hs h;cases ex with
    |   normal=>
        obtain⟨vs,g1,g2⟩:=CE h3;obtain⟨bR,g3,g4⟩:=HS g2 (Has.sub h2 g1) (λp v hp=>by rw[T.dZ]at hp;cases hp);obtain⟨m,ex,Vh,aih,A3,k1,k2,k3⟩:=tF b t cF.2 g3 g4;exact⟨max n m+1,ex,Vh,aih,A3,by simp only[exec,bJ,LW (Zj8 n m) h1];exact LW (Zj0 n m) k1,k2,k3⟩
    |exit i=>exact⟨n+1,.exit i,fC,xN,bK,by simp only[exec,bJ,h1],h2,h3⟩
    |ret=>exact⟨n+1,.ret,fC,xN,bK,by simp only[exec,bJ,h1],h2,h3⟩
 | .cond x a b,s,cF,fr,gw,st,K,r,hs,h=>by
   (cases s<;>simp only[den]at h<;>first|(cases h;done)|skip);simp only[Ap]at cF;cases hx:HD fr x with
   |none=>simp[hx]at h
   |some v=>
    simp only[hx]at h;unfold cnd at h;split at h
    .   obtain⟨n,ex,fC,xN,bK,h1,h2,h3⟩:=tF a _ cF.1 hs h;exact⟨n+1,ex,fC,xN,bK,by simp only[exec,bJ,hs.ev hx];exact h1,h2,h3⟩
    .   obtain⟨n,ex,fC,xN,bK,h1,h2,h3⟩:=tF b _ cF.2 hs h;exact⟨n+1,ex,fC,xN,bK,by simp only[exec,bJ,hs.ev hx];exact h1,h2,h3⟩
    .   cases h
 | .block id a,s,cF,fr,gw,st,K,r,hs,h=>by
   (cases s<;>simp only[den]at h<;>first|(cases h;done)|skip);simp only[Ap]at cF;obtain⟨n,ex,fC,xN,bK,h1,h2,h3⟩:=tF a _ cF hs h;cases ex with
   |normal=>exact⟨n+1,.normal,fC,xN,bK,by simp only[exec,bJ,h1],h2,h3⟩
   |ret=>exact⟨n+1,.ret,fC,xN,bK,by simp only[exec,bJ,h1],h2,h3⟩
   |exit i=>
    simp only at h3;cases hb:Nat.beq i id with
    |true=>simp only[hb]at h3;exact⟨n+1,.normal,fC,xN,bK,by simp only[exec,bJ,h1,hb],h2,h3⟩
    |false=>simp only[hb]at h3;exact⟨n+1,.exit i,fC,xN,bK,by simp only[exec,bJ,h1,hb],h2,h3⟩
 | .loop a,s,cF,fr,gw,st,K,r,hs,h=>by
   (cases s<;>simp only[den]at h<;>first|(cases h;done)|skip);rename_i j ins outs s;simp only[Ap,Dz]at cF;obtain⟨awp,cF⟩:=cF;obtain⟨vs,g1,g2⟩:=CE h;obtain⟨hz,hsu⟩:=awp (knk outs K)
   have main:∀(n:Nat)(vs:List AV)(st:St)(gw:Fr),Has ins vs gw->L j (knk outs K) n vs st=some r->
        ∃m ex bR eH st',exec c m (.loop a) gw st=some (ex,eH,st')/\Sub bR eH/\K ex bR st'=some r:=by
    intro n;induction n with
    |zero=>intro vs st gw _ h;rw[hz]at h;cases h
    |   succ n ihn=>
        intro vs st gw hh h;rw[hsu]at h;unfold Q3 at h;obtain⟨dI,q1,q2⟩:=HS h hh (λp v hp=>by rw[T.dZ]at hp;cases hp);obtain⟨m,ex,fC,xN,bK,h1,h2,h3⟩:=tF a s cF q1 q2;cases ex with
        |normal=>
         obtain⟨us,p1,p2⟩:=CE h3;obtain⟨m',ex,Vh,aih,A3,k1,k2,k3⟩:=ihn us bK xN (Has.sub h2 p1) p2;exact⟨max m m'+1,ex,Vh,aih,A3,by simp only[exec,bJ,LW (Zj8 m m') h1];exact LW (Zj0 m m') k1,k2,k3⟩
        |exit i=>
         obtain⟨os,p1,p2⟩:=CE h3;obtain⟨Vh,p3,p4⟩:=HS p2 (Has.sub h2 p1) (λp v hp=>by rw[T.dZ]at hp;cases hp);exact⟨m+1,.exit i,Vh,xN,bK,by simp only[exec,bJ,h1],p3,p4⟩
        |ret=>
         obtain⟨os,p1,p2⟩:=CE h3;obtain⟨Vh,p3,p4⟩:=HS p2 (Has.sub h2 p1) (λp v hp=>by rw[T.dZ]at hp;cases hp);exact⟨m+1,.ret,Vh,xN,bK,by simp only[exec,bJ,h1],p3,p4⟩
   exact main F vs st gw (Has.sub hs g1) g2
def ab8:(H:Pos->Option AB)->Fr->List Qz->(List AV->Option R)->Option R
 |_,_,[],k=>k []
 |  H,fr,.tmp p::rs,k=>match fr.get p with
    |some v=>ab8 H fr rs λvs=>k (v::vs)
    |none=>none
 |  H,fr,.cell p n::rs,k=>match fr.get p with
    |some q=>match (aJ.load n).run H .h [q]with
     |some (.val v)=>ab8 H fr rs λvs=>k (v::vs)
     |_=>none
    |none=>none
def ldr(n:Option Nat)(q:AV)(st:St)(K:AV->Option R):Option R:=match (aJ.load n).run (λb=>st.heap.get b) .h [q]with
 |some (.val v)=>K v
 |_=>none
theorem OL{H:Pos->Option AB}{fr gw:Fr}(hs:Sub fr gw):∀{rs:List Qz}{k:List AV->Option R}{r:R},ab8 H fr rs k=some r->∃vs,ia H gw rs=some vs/\k vs=some r
 |[],k,r,h=>⟨[],rfl,h⟩
 | .tmp p::rs,k,r,h=>by
   unfold ab8 at h;cases hp:fr.get p with
   |none=>simp[hp]at h
   |some v=>
    simp only[hp]at h;obtain⟨vs,h1,h2⟩:=OL hs h;exact⟨v::vs,by unfold ia;simp only[hs _ _ hp,h1],h2⟩
 | .cell p n::rs,k,r,h=>by
   unfold ab8 at h;cases hp:fr.get p with
   |none=>simp[hp]at h
   |some q=>
    simp only[hp]at h;split at h
    .   rename_i v hv;obtain⟨vs,h1,h2⟩:=OL hs h;exact⟨v::vs,by unfold ia;simp only[hs _ _ hp,hv,h1],h2⟩
    .   cases h
def Jq(c:aj)(F:Nat)(L:Env (AV×St))(A:dY)(s:Sh)(args:List AV)(st:St):Option (AV×St):=
 match Nat.beq args.length A.nparams with
 |  true=>den c F L A.code s (params 0 args .e) st λex fr st=>match ex with
    |.normal=>ab8 (λb=>st.heap.get b) fr A.results λvs=>some (zL vs,st)
    |.ret=>ab8 (λb=>st.heap.get b) fr A.results λvs=>some (zL vs,st)
    |.exit _=>none
 |false=>none
theorem aqZ{O:fk}{G:T dY}{F:Nat}{L:Env (AV×St)}{f:FuncId}{A:dY}{s:Sh}{args:List AV}{st:St}{r:AV×St}(ho:O f=none)(hF:G.get (key f)=some A)
  (hL:∀x∈fY A.code s,Dz (run O G) F L x.1 x.2) (h:Jq (run O G) F L A s args st=some r):run O G f args st=some (tidy st r):=by
 unfold Jq at h;split at h<;>first|(cases h;done)|skip
 rename_i hlen;obtain⟨n,ex,bR,eH,st',h1,h2,h3⟩:=tF A.code s (Gm _ _ hL) (Sub.refl _) h;refine aqR (n:=n) ho hF ?_;unfold yg;simp only[hlen,h1];cases ex with
 |normal=>
  obtain⟨vs,k1,k2⟩:=OL h2 h3;simp only[k1];exact k2
 |ret=>
  obtain⟨vs,k1,k2⟩:=OL h2 h3;simp only[k1];exact k2
 |exit i=>cases h3
def ah(st:St)(b:AB):St:={ heap:=st.heap.put (some b) st.next,next:=st.next.succ }
def ahs{R:Type}:List (Nat×(LpK R->Nat->List AV->St->Option R))->Env R
 |[]=>λ_ _ _ _ _=>none
 |  (i,g)::l=>λj K n=>match Nat.beq i j with
    |true=>g K n
    |false=>ahs l j K n
def iK(A:dY)(s:Sh)(i:Nat):AC×Sh:=(fY A.code s).getD i (.skip,.leaf)
theorem aq0{R:Type}{c:aj}{F:Nat}{L:Env R}{A:dY}{s:Sh}(n:Nat)(hn:Nat.beq (fY A.code s).length n=true)(h:∀i,i<n->Dz c F L (iK A s i).1 (iK A s i).2):
  ∀x∈fY A.code s,Dz c F L x.1 x.2:=by
 intro x hx;obtain⟨i,hi,he⟩:=Zg6.1 hx;have hn:=Za8 hn;have:=h i (by omega);unfold iK at this;rw[Zb9,H0 hi]at this;simp only[Ze6,he]at this;exact this
def aeT:Sh->Bool
 |.loop _ _ _ _=>true
 |_=>false
def lpJ:Sh->Nat
 |.loop j _ _ _=>j
 |_=>0
def lpI:Sh->List Pos
 |.loop _ i _ _=>i
 |_=>[]
def lpO:Sh->List (Nat×List Pos)
 |.loop _ _ o _=>o
 |_=>[]
def lpB:Sh->Sh
 |.loop _ _ _ s=>s
 |_=>.leaf
theorem dc{R:Type}{c:aj}{F:Nat}{L:Env R}{A:dY}{sh:Sh}{i:Nat}(j:Nat)(hs:(aeT (iK A sh i).2&&Nat.beq (lpJ (iK A sh i).2) j)=true)(h0:∀K' vs st,L j K' 0 vs st=none)
  (h1:∀K' n vs st,L j K' (n+1) vs st=Q3 (den c F L (iK A sh i).1 (lpB (iK A sh i).2)) (lpI (iK A sh i).2) (lpO (iK A sh i).2) K' (L j K' n) vs st):Dz c F L (iK A sh i).1 (iK A sh i).2:=by
 generalize (iK A sh i).1=a at*
 generalize (iK A sh i).2=t at*
 cases t with
 |loop j' ins outs s=>
  simp only[aeT,lpJ,Zg5]at hs;obtain rfl:=Za8 hs;exact λK'=>⟨h0 K',h1 K'⟩
 |_=>simp[aeT]at hs
end
end Go.Ai
section
namespace Go.Ai
open Go
theorem dN(k:IntKind):Mm k k=true:=by cases k<;>rfl
theorem nF(a b:Int):BC a b=decide (a=b):=by rw[mR];rfl
theorem gV(a b:List Nat):kH a b=decide (a=b):=by rw[Zn1,mS];simp
theorem wrap64{x:Int}(h1: -9223372036854775808<=x)(h2:x<=9223372036854775807):av .i64 x=x:=by
 unfold av loI hiI;simp only;split
 . split
   .rfl
   .contradiction
 .contradiction
theorem Hy{x:Int}(h1:0<=x)(h2:x<=255):av .u8 x=x:=by
 unfold av loI hiI;simp only;split
 . split
   .rfl
   .contradiction
 .contradiction
theorem jK(k:IntKind)(n:Nat):Ao (.int k (n:Int))=some n:=id rfl
theorem dG(a b:Nat):Nat.ble a b=decide (a<=b):=by apply Zn1.2;simp
theorem Lv(a b:Nat):Nat.blt a b=decide (a<b):=by apply Zn1.2;simp[Nat.blt,Nat.ble_eq];omega
theorem dH(a b:Nat):Nat.beq a b=decide (a=b):=by apply Zn1.2;simp
def yT{R:Type}(o:Option AV)(k:AV->Option R):Option R:=match o with
 |some v=>k v
 |none=>none
def Jr{R:Type}(o:Option (List AV))(k:List AV->Option R):Option R:=match o with
 |some v=>k v
 |none=>none
def ab9{R:Type}(o:Option (AV×St))(k:AV->St->Option R):Option R:=match o with
 |some (v,st)=>k v st
 |none=>none
section
variable{R:Type}(c:aj)(K:AV->St->Option R)(K1:AV->Option R)(A B:Option R)
@[simp] theorem aQ(v:AV)(k:AV->Option R):yT (some v) k=k v:=id rfl
@[simp] theorem cG(v:List AV)(k:List AV->Option R):Jr (some v) k=k v:=id rfl
@[simp] theorem bw(v:AV)(st:St)(k:AV->St->Option R):ab9 (some (v,st)) k=k v st:=id rfl
@[simp] theorem cV:cnd (.bool true) A B=A:=id rfl
@[simp] theorem cE:cnd (.bool false) A B=B:=id rfl
@[simp] theorem aD(v:AV)(vs:List AV)(k:AV->List AV->Option R):ir (v::vs) k=k v vs:=id rfl
@[simp] theorem aX(k:Option R):mG [] k=k:=id rfl
theorem iE(f:(List AV->St->Option R)->Option R)(k:List AV->St->Option R):cY f k=f k:=id rfl
@[simp] theorem fZ(b:Bool)(k:aJ)(xs:List AV)(st:St):qK c (.bool b) b k xs st K=aq c k xs st K:=by cases b<;>exact id rfl
@[simp] theorem aii(k:aJ)(xs:List AV)(st:St):qK c (.bool true) false k xs st K=K .undef st:=id rfl
@[simp] theorem XS(k:aJ)(xs:List AV)(st:St):qK c (.bool false) true k xs st K=K .undef st:=id rfl
@[simp] theorem gst_un(b:Bool)(k:aJ)(xs:List AV)(st:St):qK c .undef b k xs st K=K .undef st:=id rfl
@[simp] theorem aeU(b:Bool)(k:aJ)(xs:List AV):gpr (.bool b) b k xs K1=fq k xs K1:=by cases b<;>exact id rfl
@[simp] theorem gpr_tf(k:aJ)(xs:List AV):gpr (.bool true) false k xs K1=K1 .undef:=id rfl
@[simp] theorem gpr_ft(k:aJ)(xs:List AV):gpr (.bool false) true k xs K1=K1 .undef:=id rfl
@[simp] theorem gpr_un(b:Bool)(k:aJ)(xs:List AV):gpr .undef b k xs K1=K1 .undef:=id rfl
@[simp] theorem ak8(b:Bool)(k:aJ)(xs:List AV)(h:T AB)(ok:AV->Bool):grd (.bool b) b k xs h ok K1=jJ k xs h ok K1:=by cases b<;>exact id rfl
@[simp] theorem grd_tf(k:aJ)(xs:List AV)(h:T AB)(ok:AV->Bool):grd (.bool true) false k xs h ok K1=K1 .undef:=id rfl
@[simp] theorem grd_ft(k:aJ)(xs:List AV)(h:T AB)(ok:AV->Bool):grd (.bool false) true k xs h ok K1=K1 .undef:=id rfl
@[simp] theorem grd_un(b:Bool)(k:aJ)(xs:List AV)(h:T AB)(ok:AV->Bool):grd .undef b k xs h ok K1=K1 .undef:=id rfl
@[simp] theorem axc(b:Bool):wnt (.bool b) b A B=A:=by cases b<;>exact id rfl
@[simp] theorem wnt_tf:wnt (.bool true) false A B=B:=id rfl
@[simp] theorem wnt_ft:wnt (.bool false) true A B=B:=id rfl
@[simp] theorem wnt_un(b:Bool):wnt .undef b A B=B:=id rfl
theorem MI{k:aJ}{xs:List AV}{o:Option AV}(h:∀H n,k.run H n xs=o.map .val)(st:St):aq c k xs st K=yT o λv=>K v st:=by unfold aq cW;rw[h];cases o<;>rfl
theorem XT{k:aJ}{xs:List AV}{o:Option AV}(h:∀H n,k.run H n xs=o.map .val):fq k xs K1=yT o K1:=by unfold fq;rw[h];cases o<;>rfl
theorem aY{k:aJ}{xs:List AV}{v:AV}(h:∀H n,k.run H n xs=some (.val v))(st:St):aq c k xs st K=K v st:=by
 unfold aq cW;rw[h]
theorem dw{k:aJ}{xs:List AV}{v:AV}(h:∀H n,k.run H n xs=some (.val v)):fq k xs K1=K1 v:=by
 unfold fq;rw[h]
theorem bI(f:FuncId)(l:List AV)(st:St):aq c (.callF f) l st K=ab9 (c f l st) K:=by unfold aq cW;show(match c f l st with|some (v,st')=>K v st'|none=>none)=_;cases c f l st<;>rfl
theorem iZ(f:FuncId)(l u v:List AV)(st:St):aq c .callV (.func f u v::l) st K=ab9 (c f (u++(l++v)) st) K:=by unfold aq cW;show(match c f (u++(l++v)) st with|some (v,st')=>K v st'|none=>none)=_;cases c f (u++(l++v)) st<;>rfl
attribute [simp] bI iZ
end
def cellsOf:Option AB->Option (List AV)
 |some (.cells cs _)=>some cs
 |_=>none
@[simp] theorem az(cs:List AV)(f:Nat):cellsOf (some (.cells cs f))=some cs:=id rfl
def ro(es:Nat)(z:Bool)(rs:List (List AV)):AV:=match z,rs with
 |true,[]=>.af
 |_,rs=>.fl rs es
theorem aeV{es:Nat}{z:Bool}{rs:List (List AV)}(h:rs≠[]):ro es z rs= .fl rs es:=by
 unfold ro;split
 .exact absurd rfl h
 .rfl
theorem run_move(H:Pos->Option AB)(n:Pos)(x:AV):aJ.run H n .move [x]=some (.val x):=rfl
@[simp] theorem au{R:Type}(c:aj)(K:AV->St->Option R)(st:St)(x:AV):aq c .move [x] st K=K x st:=aY c K (λH n=>run_move H n x) st
@[simp] theorem dh{R:Type}(K:AV->Option R)(x:AV):fq .move [x] K=K x:=dw K (λH n=>run_move H n x)
theorem adD(H:Pos->Option AB)(n:Pos)(x y:AV):aJ.run H n .pick [.bool true,x,y]=some (.val x):=rfl
@[simp] theorem mU{R:Type}(c:aj)(K:AV->St->Option R)(st:St)(x y:AV):aq c .pick [.bool true,x,y] st K=K x st:=aY c K (λH n=>adD H n x y) st
@[simp] theorem Tm{R:Type}(K:AV->Option R)(x y:AV):fq .pick [.bool true,x,y] K=K x:=dw K (λH n=>adD H n x y)
theorem adE(H:Pos->Option AB)(n:Pos)(x y:AV):aJ.run H n .pick [.bool false,x,y]=some (.val y):=rfl
@[simp] theorem jY{R:Type}(c:aj)(K:AV->St->Option R)(st:St)(x y:AV):aq c .pick [.bool false,x,y] st K=K y st:=aY c K (λH n=>adE H n x y) st
@[simp] theorem awq{R:Type}(K:AV->Option R)(x y:AV):fq .pick [.bool false,x,y] K=K y:=dw K (λH n=>adE H n x y)
theorem ak9(H:Pos->Option AB)(n:Pos)(p:Bool):aJ.run H n (.un .not) [.bool p]=some (.val (.bool (!p))):=rfl
@[simp] theorem Gn{R:Type}(c:aj)(K:AV->St->Option R)(st:St)(p:Bool):aq c (.un .not) [.bool p] st K=K (.bool (!p)) st:=aY c K (λH n=>ak9 H n p) st
@[simp] theorem atF{R:Type}(K:AV->Option R)(p:Bool):fq (.un .not) [.bool p] K=K (.bool (!p)):=dw K (λH n=>ak9 H n p)
theorem ala(H:Pos->Option AB)(n:Pos)(q:gZ)(k:IntKind)(a b:Int):aJ.run H n (.bin .lss q) [.int k a,.int k b]=some (.val (.bool (decide (a<b)))):=by simp[aJ.run,jH,pO,dN,nF,fH,lF,gV]
@[simp] theorem bV{R:Type}(c:aj)(K:AV->St->Option R)(st:St)(q:gZ)(k:IntKind)(a b:Int):aq c (.bin .lss q) [.int k a,.int k b] st K=K (.bool (decide (a<b))) st:=aY c K (λH n=>ala H n q k a b) st
@[simp] theorem alb{R:Type}(K:AV->Option R)(q:gZ)(k:IntKind)(a b:Int):fq (.bin .lss q) [.int k a,.int k b] K=K (.bool (decide (a<b))):=dw K (λH n=>ala H n q k a b)
theorem alc(H:Pos->Option AB)(n:Pos)(q:gZ)(k:IntKind)(a b:Int):aJ.run H n (.bin .leq q) [.int k a,.int k b]=some (.val (.bool (decide (a<=b)))):=by simp[aJ.run,jH,pO,dN,nF,fH,lF,gV]
@[simp] theorem axd{R:Type}(c:aj)(K:AV->St->Option R)(st:St)(q:gZ)(k:IntKind)(a b:Int):aq c (.bin .leq q) [.int k a,.int k b] st K=K (.bool (decide (a<=b))) st:=aY c K (λH n=>alc H n q k a b) st
@[simp] theorem axe{R:Type}(K:AV->Option R)(q:gZ)(k:IntKind)(a b:Int):fq (.bin .leq q) [.int k a,.int k b] K=K (.bool (decide (a<=b))):=dw K (λH n=>alc H n q k a b)
theorem ald(H:Pos->Option AB)(n:Pos)(q:gZ)(k:IntKind)(a b:Int):aJ.run H n (.bin .gtr q) [.int k a,.int k b]=some (.val (.bool (decide (b<a)))):=by simp[aJ.run,jH,pO,dN,nF,fH,lF,gV]
@[simp] theorem nG{R:Type}(c:aj)(K:AV->St->Option R)(st:St)(q:gZ)(k:IntKind)(a b:Int):aq c (.bin .gtr q) [.int k a,.int k b] st K=K (.bool (decide (b<a))) st:=aY c K (λH n=>ald H n q k a b) st
@[simp] theorem ale{R:Type}(K:AV->Option R)(q:gZ)(k:IntKind)(a b:Int):fq (.bin .gtr q) [.int k a,.int k b] K=K (.bool (decide (b<a))):=dw K (λH n=>ald H n q k a b)
theorem alf(H:Pos->Option AB)(n:Pos)(q:gZ)(k:IntKind)(a b:Int):aJ.run H n (.bin .geq q) [.int k a,.int k b]=some (.val (.bool (decide (b<=a)))):=by simp[aJ.run,jH,pO,dN,nF,fH,lF,gV]
@[simp] theorem axf{R:Type}(c:aj)(K:AV->St->Option R)(st:St)(q:gZ)(k:IntKind)(a b:Int):aq c (.bin .geq q) [.int k a,.int k b] st K=K (.bool (decide (b<=a))) st:=aY c K (λH n=>alf H n q k a b) st
@[simp] theorem axg{R:Type}(K:AV->Option R)(q:gZ)(k:IntKind)(a b:Int):fq (.bin .geq q) [.int k a,.int k b] K=K (.bool (decide (b<=a))):=dw K (λH n=>alf H n q k a b)
theorem alg(H:Pos->Option AB)(n:Pos)(q:gZ)(k:IntKind)(a b:Int):aJ.run H n (.bin .eql q) [.int k a,.int k b]=some (.val (.bool (decide (a=b)))):=by simp[aJ.run,jH,pO,dN,nF,fH,lF,gV]
@[simp] theorem dJ{R:Type}(c:aj)(K:AV->St->Option R)(st:St)(q:gZ)(k:IntKind)(a b:Int):aq c (.bin .eql q) [.int k a,.int k b] st K=K (.bool (decide (a=b))) st:=aY c K (λH n=>alg H n q k a b) st
@[simp] theorem aeW{R:Type}(K:AV->Option R)(q:gZ)(k:IntKind)(a b:Int):fq (.bin .eql q) [.int k a,.int k b] K=K (.bool (decide (a=b))):=dw K (λH n=>alg H n q k a b)
theorem alh(H:Pos->Option AB)(n:Pos)(q:gZ)(k:IntKind)(a b:Int):aJ.run H n (.bin .neq q) [.int k a,.int k b]=some (.val (.bool (!decide (a=b)))):=by simp[aJ.run,jH,pO,dN,nF,fH,lF,gV]
@[simp] theorem zO{R:Type}(c:aj)(K:AV->St->Option R)(st:St)(q:gZ)(k:IntKind)(a b:Int):aq c (.bin .neq q) [.int k a,.int k b] st K=K (.bool (!decide (a=b))) st:=aY c K (λH n=>alh H n q k a b) st
@[simp] theorem atG{R:Type}(K:AV->Option R)(q:gZ)(k:IntKind)(a b:Int):fq (.bin .neq q) [.int k a,.int k b] K=K (.bool (!decide (a=b))):=dw K (λH n=>alh H n q k a b)
theorem ali(H:Pos->Option AB)(n:Pos)(q:gZ)(k:IntKind)(a b:Int):aJ.run H n (.bin .add q) [.int k a,.int k b]=some (.val (.int k (av k (a+b)))):=by simp[aJ.run,jH,pO,dN,nF,fH,lF,gV]
@[simp] theorem dy{R:Type}(c:aj)(K:AV->St->Option R)(st:St)(q:gZ)(k:IntKind)(a b:Int):aq c (.bin .add q) [.int k a,.int k b] st K=K (.int k (av k (a+b))) st:=aY c K (λH n=>ali H n q k a b) st
@[simp] theorem aeX{R:Type}(K:AV->Option R)(q:gZ)(k:IntKind)(a b:Int):fq (.bin .add q) [.int k a,.int k b] K=K (.int k (av k (a+b))):=dw K (λH n=>ali H n q k a b)
theorem alj(H:Pos->Option AB)(n:Pos)(q:gZ)(k:IntKind)(a b:Int):aJ.run H n (.bin .sub q) [.int k a,.int k b]=some (.val (.int k (av k (a - b)))):=by simp[aJ.run,jH,pO,dN,nF,fH,lF,gV]
@[simp] theorem aeY{R:Type}(c:aj)(K:AV->St->Option R)(st:St)(q:gZ)(k:IntKind)(a b:Int):aq c (.bin .sub q) [.int k a,.int k b] st K=K (.int k (av k (a - b))) st:=aY c K (λH n=>alj H n q k a b) st
@[simp] theorem alk{R:Type}(K:AV->Option R)(q:gZ)(k:IntKind)(a b:Int):fq (.bin .sub q) [.int k a,.int k b] K=K (.int k (av k (a - b))):=dw K (λH n=>alj H n q k a b)
theorem alm(H:Pos->Option AB)(n:Pos)(q:gZ)(k:IntKind)(a b:Int):aJ.run H n (.bin .mul q) [.int k a,.int k b]=some (.val (.int k (av k (a*b)))):=by simp[aJ.run,jH,pO,dN,nF,fH,lF,gV]
@[simp] theorem axh{R:Type}(c:aj)(K:AV->St->Option R)(st:St)(q:gZ)(k:IntKind)(a b:Int):aq c (.bin .mul q) [.int k a,.int k b] st K=K (.int k (av k (a*b))) st:=aY c K (λH n=>alm H n q k a b) st
@[simp] theorem atH{R:Type}(K:AV->Option R)(q:gZ)(k:IntKind)(a b:Int):fq (.bin .mul q) [.int k a,.int k b] K=K (.int k (av k (a*b))):=dw K (λH n=>alm H n q k a b)
theorem aij(H:Pos->Option AB)(n:Pos)(q:gZ)(s t:List Nat):aJ.run H n (.bin .eql q) [.str s,.str t]=some (.val (.bool (decide (s=t)))):=by simp[aJ.run,jH,pO,dN,nF,fH,lF,gV]
@[simp] theorem aw1{R:Type}(c:aj)(K:AV->St->Option R)(st:St)(q:gZ)(s t:List Nat):aq c (.bin .eql q) [.str s,.str t] st K=K (.bool (decide (s=t))) st:=aY c K (λH n=>aij H n q s t) st
@[simp] theorem aw2{R:Type}(K:AV->Option R)(q:gZ)(s t:List Nat):fq (.bin .eql q) [.str s,.str t] K=K (.bool (decide (s=t))):=dw K (λH n=>aij H n q s t)
theorem aik(H:Pos->Option AB)(n:Pos)(q:gZ)(s t:List Nat):aJ.run H n (.bin .neq q) [.str s,.str t]=some (.val (.bool (!decide (s=t)))):=by simp[aJ.run,jH,pO,dN,nF,fH,lF,gV]
@[simp] theorem acd{R:Type}(c:aj)(K:AV->St->Option R)(st:St)(q:gZ)(s t:List Nat):aq c (.bin .neq q) [.str s,.str t] st K=K (.bool (!decide (s=t))) st:=aY c K (λH n=>aik H n q s t) st
@[simp] theorem aq1{R:Type}(K:AV->Option R)(q:gZ)(s t:List Nat):fq (.bin .neq q) [.str s,.str t] K=K (.bool (!decide (s=t))):=dw K (λH n=>aik H n q s t)
theorem aq2(H:Pos->Option AB)(n:Pos)(q:gZ)(s t:List Nat):aJ.run H n (.bin .lss q) [.str s,.str t]=some (.val (.bool (aU s t))):=by simp[aJ.run,jH,pO,dN,nF,fH,lF,gV]
@[simp] theorem aw3{R:Type}(K:AV->Option R)(q:gZ)(s t:List Nat):fq (.bin .lss q) [.str s,.str t] K=K (.bool (aU s t)):=dw K (λH n=>aq2 H n q s t)
theorem aq3(H:Pos->Option AB)(n:Pos)(q:gZ)(s t:List Nat):aJ.run H n (.bin .geq q) [.str s,.str t]=some (.val (.bool (!aU s t))):=by simp[aJ.run,jH,pO,dN,nF,fH,lF,gV]
@[simp] theorem aw4{R:Type}(c:aj)(K:AV->St->Option R)(st:St)(q:gZ)(s t:List Nat):aq c (.bin .geq q) [.str s,.str t] st K=K (.bool (!aU s t)) st:=aY c K (λH n=>aq3 H n q s t) st
theorem aq4(H:Pos->Option AB)(n:Pos)(s:List Nat):aJ.run H n (.lenB .s) [.str s]=some (.val (.int .i64 (s.length:Int))):=rfl
@[simp] theorem aw5{R:Type}(c:aj)(K:AV->St->Option R)(st:St)(s:List Nat):aq c (.lenB .s) [.str s] st K=K (.int .i64 (s.length:Int)) st:=aY c K (λH n=>aq4 H n s) st
theorem ail(H:Pos->Option AB)(n:Pos)(es:Nat)(z:Bool)(rs:List (List AV)):aJ.run H n (.lenB .l) [ro es z rs]=some (.val (.int .i64 (rs.length:Int))):=by unfold ro;split<;>rfl
@[simp] theorem jL{R:Type}(c:aj)(K:AV->St->Option R)(st:St)(es:Nat)(z:Bool)(rs:List (List AV)):aq c (.lenB .l) [ro es z rs] st K=K (.int .i64 (rs.length:Int)) st:=aY c K (λH n=>ail H n es z rs) st
@[simp] theorem aim{R:Type}(K:AV->Option R)(es:Nat)(z:Bool)(rs:List (List AV)):fq (.lenB .l) [ro es z rs] K=K (.int .i64 (rs.length:Int)):=dw K (λH n=>ail H n es z rs)
theorem ain(H:Pos->Option AB)(n:Pos)(k k2:IntKind)(a:Int):aJ.run H n (.conv (.int k)) [.int k2 a]=some (.val (.int k (av k a))):=rfl
@[simp] theorem MJ{R:Type}(c:aj)(K:AV->St->Option R)(st:St)(k k2:IntKind)(a:Int):aq c (.conv (.int k)) [.int k2 a] st K=K (.int k (av k a)) st:=aY c K (λH n=>ain H n k k2 a) st
@[simp] theorem aw6{R:Type}(K:AV->Option R)(k k2:IntKind)(a:Int):fq (.conv (.int k)) [.int k2 a] K=K (.int k (av k a)):=dw K (λH n=>ain H n k k2 a)
theorem aq5(H:Pos->Option AB)(n:Pos)(k:IntKind)(s:List Nat)(i:Nat):aJ.run H n .idxS [.str s,.int k (i:Int)]=((s[i]?.map λc=>.int .u8 (c:Int)):Option AV).map .val:=by simp only[aJ.run,ZP,jK,qZ];cases s[i]? <;>rfl
@[simp] theorem aw7{R:Type}(c:aj)(K:AV->St->Option R)(st:St)(k:IntKind)(s:List Nat)(i:Nat):aq c .idxS [.str s,.int k (i:Int)] st K=yT (s[i]?.map λc=>.int .u8 (c:Int)) λv=>K v st:=MI c K (λH n=>aq5 H n k s i) st
theorem aop(H:Pos->Option AB)(n:Pos)(off:Nat)(l:List AV):aJ.run H n (.field off none) [.agg l]=(l[off]? :Option AV).map .val:=by simp only[aJ.run,Ss,qZ];cases l[off]? <;>rfl
@[simp] theorem aoq{R:Type}(K:AV->Option R)(off:Nat)(l:List AV):fq (.field off none) [.agg l] K=yT l[off]? K:=XT K (λH n=>aop H n off l)
theorem XU(H:Pos->Option AB)(n:Pos)(off:Nat)(p:Pos)(o:Nat):aJ.run H n (.fieldA off) [.ptr p o]=some (.val (.ptr p (o+off))):=rfl
@[simp] theorem aK{R:Type}(c:aj)(K:AV->St->Option R)(st:St)(off:Nat)(p:Pos)(o:Nat):aq c (.fieldA off) [.ptr p o] st K=K (.ptr p (o+off)) st:=aY c K (λH n=>XU H n off p o) st
@[simp] theorem bC{R:Type}(K:AV->Option R)(off:Nat)(p:Pos)(o:Nat):fq (.fieldA off) [.ptr p o] K=K (.ptr p (o+off)):=dw K (λH n=>XU H n off p o)
theorem aio(H:Pos->Option AB)(n:Pos)(off:Nat)(xs:List (List AV))(i j:Nat):aJ.run H n (.fieldA off) [.fp xs i j]=some (.val (.fp xs i (j+off))):=rfl
@[simp] theorem avp{R:Type}(c:aj)(K:AV->St->Option R)(st:St)(off:Nat)(xs:List (List AV))(i j:Nat):aq c (.fieldA off) [.fp xs i j] st K=K (.fp xs i (j+off)) st:=aY c K (λH n=>aio H n off xs i j) st
theorem abg(H:Pos->Option AB)(n:Pos)(i:Nat)(l:List AV):aJ.run H n (.extract i) [.tuple l]=(l[i]? :Option AV).map .val:=by simp only[aJ.run,Lq,qZ];cases l[i]? <;>rfl
@[simp] theorem gP{R:Type}(c:aj)(K:AV->St->Option R)(st:St)(i:Nat)(l:List AV):aq c (.extract i) [.tuple l] st K=yT l[i]? λv=>K v st:=MI c K (λH n=>abg H n i l) st
@[simp] theorem av8{R:Type}(K:AV->Option R)(i:Nat)(l:List AV):fq (.extract i) [.tuple l] K=yT l[i]? K:=XT K (λH n=>abg H n i l)
theorem Q4(H:Pos->Option AB)(n:Pos)(p:Pos)(o:Nat):aJ.run H n .nilCheck [.ptr p o]=some (.val (.ptr p o)):=rfl
@[simp] theorem cr{R:Type}(c:aj)(K:AV->St->Option R)(st:St)(p:Pos)(o:Nat):aq c .nilCheck [.ptr p o] st K=K (.ptr p o) st:=aY c K (λH n=>Q4 H n p o) st
@[simp] theorem qU{R:Type}(K:AV->Option R)(p:Pos)(o:Nat):fq .nilCheck [.ptr p o] K=K (.ptr p o):=dw K (λH n=>Q4 H n p o)
theorem aip(H:Pos->Option AB)(n:Pos)(es:Nat)(z:Bool)(rs:List (List AV))(k:IntKind)(i:Nat):aJ.run H n (.idxA es none) [ro es z rs,.int k (i:Int)]=((if i<rs.length then some (.fp rs i 0)else none):Option AV).map .val:=by
 by_cases h:i<rs.length
 .rw[aeV (by intro e;subst e;simp at h)];simp[aJ.run,sU,jK,Lv,dH,h]
 . unfold ro;split
   .rfl
   .simp[aJ.run,sU,jK,Lv,dH,h]
@[simp] theorem Tn{R:Type}(c:aj)(K:AV->St->Option R)(st:St)(es:Nat)(z:Bool)(rs:List (List AV))(k:IntKind)(i:Nat):aq c (.idxA es none) [ro es z rs,.int k (i:Int)] st K=yT (if i<rs.length then some (.fp rs i 0)else none) λv=>K v st:=MI c K (λH n=>aip H n es z rs k i) st
@[simp] theorem aq6{R:Type}(K:AV->Option R)(es:Nat)(z:Bool)(rs:List (List AV))(k:IntKind)(i:Nat):fq (.idxA es none) [ro es z rs,.int k (i:Int)] K=yT (if i<rs.length then some (.fp rs i 0)else none) K:=XT K (λH n=>aip H n es z rs k i)
theorem af0(H:Pos->Option AB)(n:Pos)(es:Nat)(z:Bool)(rs:List (List AV))(k:IntKind)(i:Nat):aJ.run H n (.sliceL es false true false) [ro es z rs,.int k (i:Int)]=((if i<=rs.length then some (ro es (z&&rs.isEmpty) (rs.take i))else none):Option AV).map .val:=by
 by_cases h:i<=rs.length
 . rw[  Zb4 h];unfold ro;split
   .simp at h;subst h;rfl
   .rename_i hn;have:(z&&rs.isEmpty)=false:=(by cases z<;>cases rs<;>simp at hn ⊢);simp only[this];simp[aJ.run,iD,bounds,jK,dG,dH,h]
 . rw[Za7 h];unfold ro;split
   .simp only[aJ.run,iD,bounds,jK];have:¬i=0:=(by simp at h;omega);simp[dH,this]
   .simp[aJ.run,iD,bounds,jK,dG,dH,h]
@[simp] theorem awY{R:Type}(c:aj)(K:AV->St->Option R)(st:St)(es:Nat)(z:Bool)(rs:List (List AV))(k:IntKind)(i:Nat):aq c (.sliceL es false true false) [ro es z rs,.int k (i:Int)] st K=yT (if i<=rs.length then some (ro es (z&&rs.isEmpty) (rs.take i))else none) λv=>K v st:=MI c K (λH n=>af0 H n es z rs k i) st
@[simp] theorem aor{R:Type}(K:AV->Option R)(es:Nat)(z:Bool)(rs:List (List AV))(k:IntKind)(i:Nat):fq (.sliceL es false true false) [ro es z rs,.int k (i:Int)] K=yT (if i<=rs.length then some (ro es (z&&rs.isEmpty) (rs.take i))else none) K:=XT K (λH n=>af0 H n es z rs k i)
section
variable{R:Type}(c:aj)(K:AV->St->Option R)(K1:AV->Option R)
theorem DA(H:Pos->Option AB)(n:Pos)(xs:List (List AV))(i j:Nat):aJ.run H n (.load none) [.fp xs i j]=(xs[i]?.bind λcs=>cs[j]?).map .val:=by
 simp only[aJ.run,zK,qZ];cases xs[i]? with
 |none=>rfl
 |some cs=>simp only[Za6];cases cs[j]? <;>rfl
theorem PD(H:Pos->Option AB)(n:Pos)(m:Nat)(xs:List (List AV))(i j:Nat):aJ.run H n (.load (some m)) [.fp xs i j]=((xs[i]?.bind λcs=>cut cs j m).map .agg).map .val:=by
 simp only[aJ.run,zK,qZ];cases xs[i]? with
 |none=>rfl
 |some cs=>simp only[Za6];cases cut cs j m<;>rfl
theorem tG (H:Pos->Option AB)(n:Pos)(p:Pos)(o:Nat):aJ.run H n (.load none) [.ptr p o]=((cellsOf (H p)).bind λcs=>cs[o]?).map .val:=by
 simp only[aJ.run,zK,qZ];cases H p with
 |none=>rfl
 |some x=>   cases x<;>simp only[cellsOf,Za6,Option.bind_none]<;>try rfl
             all_goals first|(rename_i cs _;cases cs[o]? <;>rfl)|(rename_i _ cs;cases cs[o]? <;>rfl)
theorem xF (H:Pos->Option AB)(n:Pos)(m:Nat)(p:Pos)(o:Nat):aJ.run H n (.load (some m)) [.ptr p o]=(((cellsOf (H p)).bind λcs=>cut cs o m).map .agg).map .val:=by
 simp only[aJ.run,zK];cases H p with
 |none=>rfl
 |some x=>   cases x<;>simp only[cellsOf,Za6,Option.bind_none]<;>try rfl
             all_goals first|(rename_i cs _;cases cut cs o m<;>rfl)|(rename_i _ cs;cases cut cs o m<;>rfl)
@[simp] theorem awr(st:St)(xs:List (List AV))(i j:Nat):aq c (.load none) [.fp xs i j] st K=yT (xs[i]?.bind λcs=>cs[j]?) λv=>K v st:=MI c K (λH n=>DA H n xs i j) st
@[simp] theorem abh(st:St)(m:Nat)(xs:List (List AV))(i j:Nat):aq c (.load (some m)) [.fp xs i j] st K=Jr (xs[i]?.bind λcs=>cut cs j m) λl=>K (.agg l) st:=by rw[MI c K (λH n=>PD H n m xs i j) st];cases(xs[i]?.bind λcs=>cut cs j m)<;>rfl
@[simp] theorem aO(st:St)(p:Pos)(o:Nat):aq c (.load none) [.ptr p o] st K=yT ((cellsOf (st.heap.get p)).bind λcs=>cs[o]?) λv=>K v st:=by unfold aq cW;rw[tG];cases((cellsOf (st.heap.get p)).bind λcs=>cs[o]?)<;>rfl
@[simp] theorem cm(st:St)(m:Nat)(p:Pos)(o:Nat):aq c (.load (some m)) [.ptr p o] st K=Jr ((cellsOf (st.heap.get p)).bind λcs=>cut cs o m) λl=>K (.agg l) st:=by unfold aq cW;rw[xF];cases((cellsOf (st.heap.get p)).bind λcs=>cut cs o m)<;>rfl
@[simp] theorem aws(h:T AB)(xs:List (List AV))(i j:Nat):jJ (.load none) [.fp xs i j] h (λ_=>true) K1=yT (xs[i]?.bind λcs=>cs[j]?) K1:=by unfold jJ;rw[DA,DA];cases hx:(xs[i]?.bind λcs=>cs[j]?)<;>rfl
@[simp] theorem av9(h:T AB)(m:Nat)(xs:List (List AV))(i j:Nat):jJ (.load (some m)) [.fp xs i j] h (λ_=>true) K1=Jr (xs[i]?.bind λcs=>cut cs j m) λl=>K1 (.agg l):=by unfold jJ;rw[PD,PD];cases hx:(xs[i]?.bind λcs=>cut cs j m)<;>rfl
@[simp] theorem Hz(st:St)(f:FuncId)(xs:List AV):aq c (.mkFunc f 0) xs st K=K (.func f [] xs) st:=aY c K (λH n=>by simp[aJ.run,HC,dG]) st
@[simp] theorem abi(f:FuncId)(xs:List AV):fq (.mkFunc f 0) xs K1=K1 (.func f [] xs):=dw K1 (λH n=>by simp[aJ.run,HC,dG])
@[simp] theorem jZ(h:T AB)(p:Pos)(o:Nat):jJ (.load none) [.ptr p o] h (λ_=>true) K1=yT ((cellsOf (h.get p)).bind λcs=>cs[o]?) K1:=by unfold jJ;rw[tG,tG];show(match ((cellsOf (h.get p)).bind λcs=>cs[o]?).map eZ.val with|some (.val v)=>_|_=>_)=_;cases((cellsOf (h.get p)).bind λcs=>cs[o]?)<;>rfl
@[simp] theorem xG(h:T AB)(m:Nat)(p:Pos)(o:Nat):jJ (.load (some m)) [.ptr p o] h (λ_=>true) K1=Jr ((cellsOf (h.get p)).bind λcs=>cut cs o m) λl=>K1 (.agg l):=by unfold jJ;rw[xF,xF];show(match (((cellsOf (h.get p)).bind λcs=>cut cs o m).map AV.agg).map eZ.val with|some (.val v)=>_|_=>_)=_;cases((cellsOf (h.get p)).bind λcs=>cut cs o m)<;>rfl
theorem run_build(H:Pos->Option AB)(n:Pos)(z:List AV)(ps:List (Nat×Nat))(xs:List AV):aJ.run H n (.build z ps) xs=((cS z ps xs).map .agg).map .val:=by simp only[aJ.run,So];cases cS z ps xs<;>rfl
@[simp] theorem iF(st:St)(z:List AV)(ps:List (Nat×Nat))(xs:List AV):aq c (.build z ps) xs st K=Jr (cS z ps xs) λl=>K (.agg l) st:=by rw[MI c K (λH n=>run_build H n z ps xs) st];cases cS z ps xs<;>rfl
@[simp] theorem HT(z:List AV)(ps:List (Nat×Nat))(xs:List AV):fq (.build z ps) xs K1=Jr (cS z ps xs) λl=>K1 (.agg l):=by rw[XT K1 (λH n=>run_build H n z ps xs)];cases cS z ps xs<;>rfl
theorem cQ{α:Type}{l:List α}{m:Nat}(h:l.length=m):cut l 0 m=some l:=by
 unfold cut;rw[dG,Za0 (by omega)];simp only[Ze3];rw[Zg0 (by omega)]
end
end Go.Ai
namespace Go.Ai
open Go
def Wf(st:St):Prop:=∀p x,st.heap.get p=some x->p.toNat<st.next.toNat
theorem bX(st:St)(b:AB):(ah st b).next=st.next.succ:=id rfl
@[simp] theorem bP{st:St}{b:AB}(h:Wf st):Wf (ah st b):=λp x hp=>by
  rw[bX,Pos.aH];by_cases e:st.next=p
  .subst e;omega
  .have:=h p x (by rwa [ah,T.cJ _ e]at hp);omega
@[simp] theorem aB(st:St)(b:AB):(ah st b).heap.get st.next=some b:=T.gQ _ _ _
theorem xH{st:St}{b:AB}{p:Pos}(h:p.toNat<st.next.toNat):(ah st b).heap.get p=st.heap.get p:=by
 rw[ah,T.cJ _ (by intro e;subst e;omega)]
@[simp] theorem DB{st:St}{a b:AB}:(ah (ah st a) b).heap.get st.next=some a:=by
  rw[xH (by rw[bX,Pos.aH];omega),aB]
theorem cM{st:St}{b:AB}(h:Wf st):aZ st (ah st b):=λp x hp=>by rw[xH (h p x hp)];exact hp
theorem aE{st st':St}{v:AV}(hv:Plain v)(hk:aZ st st'):tidy st (v,st')=(v,st):=by
 unfold tidy;rw[Zb4 ⟨hv,hk⟩]
section
variable{R:Type}(c:aj)(K:AV->St->Option R)
@[simp] theorem di(x:AV)(st:St):aq c .box [x] st K=K (.ptr st.next 0) (ah st (.cells x.cells 0)):=id rfl
@[simp] theorem bN(l:List AV)(st:St):aq c (.alloc l) [] st K=K (.ptr st.next 0) (ah st (.cells l 0)):=id rfl
end
theorem T.Gp{α:Type}(x y:Option α):∀(p:Pos)(t:T α),T.put x p (T.put y p t)=T.put x p t
 |.h,.e=>rfl
 |.h,.n _ _ _=>rfl
 |.o p,.e=>by simp only[T.put];rw[T.Gp x y p]
 |.o p,.n _ _ _=>by simp only[T.put];rw[T.Gp x y p]
 |.i p,.e=>by simp only[T.put];rw[T.Gp x y p]
 |.i p,.n _ _ _=>by simp only[T.put];rw[T.Gp x y p]
def bn(st:St)(p:Pos)(b:AB):St:={ heap:=st.heap.put (some b) p,next:=st.next }
@[simp] theorem dS(st:St)(p:Pos)(b:AB):(bn st p b).next=st.next:=id rfl
@[simp] theorem bW(st:St)(p:Pos)(b:AB):(bn st p b).heap.get p=some b:=T.gQ _ _ _
theorem aM{st:St}{p q:Pos}{b:AB}(h:p≠q):(bn st p b).heap.get q=st.heap.get q:=T.cJ _ h _
@[simp] theorem Q6(st:St)(a b:AB):bn (ah st a) st.next b=ah st b:=by
  unfold bn ah;simp only[T.Gp]
@[simp] theorem Q7(st:St)(p:Pos)(a b:AB):bn (bn st p a) p b=bn st p b:=by
  unfold bn;simp only[T.Gp]
theorem Pos.ZZ(p:Pos):p≠p.succ:=λe=>by have:=congrArg Pos.toNat e;rw[Pos.aH]at this;omega
theorem cH{R:Type}(c:aj)(K:AV->St->Option R)(st:St)(m:Nat)(p:Pos)(o:Nat)(v:AV)(cs:List AV)(h:st.heap.get p=some (.cells cs 0))(h1:v.cells.length=m)(h2:o+m<=cs.length)(h3:aV v.cells=true):
  aq c (.store m) [.ptr p o,v] st K=K .undef (bn st p (.cells (bf cs o v.cells) 0)):=by
 have:aJ.run (λb=>st.heap.get b) st.next (.store m) [.ptr p o,v]=some (.br .undef none (some (p,.cells (bf cs o v.cells) 0)) none):=by
  simp[aJ.run,Mo,h,h1,h2,h3,dH,dG]
 unfold aq cW;rw[this];rfl
@[simp] theorem cq{R:Type}(c:aj)(K:AV->St->Option R)(st:St)(m:Nat)(v:AV)(cs:List AV)(h1:v.cells.length=m)(h2:m=cs.length)(h3:aV v.cells=true):
   aq c (.store m) [.ptr st.next 0,v] (ah st (.cells cs 0)) K=K .undef (ah st (.cells v.cells 0)):=by
  rw[cH c K _ m st.next 0 v cs (aB _ _) h1 (by omega) h3,Q6];have:bf cs 0 v.cells=v.cells:=by unfold bf;rw[h1,h2];simp
  rw[this]
theorem awt{R:Type}(n:Option Nat)(p:Pos)(o:Nat)(st:St)(K:AV->Option R):ldr n (.ptr p o) st K=match n with
  |none=>yT ((cellsOf (st.heap.get p)).bind λcs=>cs[o]?) K
  |some m=>Jr ((cellsOf (st.heap.get p)).bind λcs=>cut cs o m) λl=>K (.agg l):=by
 unfold ldr;cases n with
 |none=>rw[tG];simp only;cases((cellsOf (st.heap.get p)).bind λcs=>cs[o]?)<;>rfl
 |some m=>rw[xF];simp only;cases((cellsOf (st.heap.get p)).bind λcs=>cut cs o m)<;>rfl
@[simp] theorem To{R:Type}(m:Nat)(p:Pos)(o:Nat)(st:St)(K:AV->Option R):ldr (some m) (.ptr p o) st K=Jr ((cellsOf (st.heap.get p)).bind λcs=>cut cs o m) λl=>K (.agg l):=awt (some m) p o st K
@[simp] theorem aot(es:Nat)(z:Bool)(rs:List (List AV)):(ro es z rs).one=true:=by unfold ro;split<;>rfl
@[simp] theorem aiq(es:Nat)(z:Bool)(rs:List (List AV)):(ro es z rs).cells=[ro es z rs]:=by unfold ro;split<;>rfl
theorem Plain.ro{es:Nat}{z:Bool}{rs:List (List AV)}(h:∀cs∈rs,∀v∈cs,Plain v):Plain (ro es z rs):=by
 unfold Go.Ai.ro;split
 .exact Plain.af
 .exact Plain.fl h
structure Grew(s s':St):Prop where
 wf:Wf s'
 keeps:aZ s s'
 next:s.next.toNat<=s'.next.toNat
theorem Grew.refl{s:St}(h:Wf s):Grew s s:=⟨h,aZ.refl s,Za5 _⟩
theorem Grew.trans{a b c:St}(h:Grew a b)(k:Grew b c):Grew a c:=⟨k.wf,h.keeps.trans k.keeps,Zb2 h.next k.next⟩
theorem Grew.ah{s:St}(h:Wf s)(b:AB):Grew s (ah s b):=⟨bP h,cM h,by rw[bX,Pos.aH];omega⟩
theorem Grew.get{s s':St}(h:Grew s s'){p:Pos}{x:AB}(hp:s.heap.get p=some x):s'.heap.get p=some x:=h.keeps p x hp
end Go.Ai
end
namespace Go.Ai
section
open Go
theorem kq{st:St}{p:Pos}{b:AB}(h:Wf st)(hp:p.toNat<st.next.toNat):Wf (bn st p b):=λq x hq=>by
 rw[dS];by_cases e:p=q
 .subst e;exact hp
 .rw[aM e]at hq;exact h q x hq
def dst(st:St)(p:Pos)(b:AB):St:={ heap:=(st.heap.put none p).put (some b) st.next,next:=st.next.succ }
theorem aq7(st:St)(p:Pos)(b:AB):(dst st p b).next=st.next.succ:=id rfl
theorem aeZ(st:St)(p:Pos)(b:AB):(dst st p b).heap.get st.next=some b:=T.gQ _ _ _
theorem adF{st:St}{p q:Pos}{b:AB}(h:p≠q)(h2:q.toNat<st.next.toNat):(dst st p b).heap.get q=st.heap.get q:=by
 rw[dst,T.cJ _ (by intro e;subst e;omega),T.cJ _ h]
theorem aou{st:St}{p:Pos}{b:AB}(h:Wf st):Wf (dst st p b):=λq x hq=>by
 rw[aq7,Pos.aH];by_cases e:st.next=q
 .subst e;omega
 . rw[dst,T.cJ _ e]at hq;by_cases e2:p=q
   .subst e2;rw[T.gQ]at hq;cases hq
   .rw[T.cJ _ e2]at hq;have:=h q x hq;omega
theorem aov{s s':St}{v:AV}(h:Grew s s')(hw:Wf s):∃fD,tidy s (v,s')=(v,fD)/\Grew s fD:=by
 unfold tidy;split
 .exact⟨s,rfl,Grew.refl hw⟩
 .exact⟨s',rfl,h⟩
theorem ae0{s s':St}{v:AV}{b:Pos}{x:AB}(h:s.heap.get b=some x)(h2:s'.heap.get b≠some x):tidy s (v,s')=(v,s'):=by
 unfold tidy;rw[Za7];exact λe=>h2 (e.2 b x h)
section
variable{R:Type}(c:aj)(K:AV->St->Option R)(K1:AV->Option R)
theorem adG(H:Pos->Option AB)(n:Pos)(es len:Nat)(z:List AV)(ps:List Nat)(xs:List AV):aJ.run H n (.buildSlice es len z ps) xs=(cS (cg z len) (ps.map λi=>(i*es,es)) xs).map λcs=>.br (.slice n 0 len (some len) es) none none (some (.cells cs 0)):=by simp only[aJ.run,xj];cases cS (cg z len) (ps.map λi=>(i*es,es)) xs<;>rfl
@[simp] theorem ax(st:St)(es len:Nat)(z:List AV)(ps:List Nat)(xs:List AV):aq c (.buildSlice es len z ps) xs st K=Jr (cS (cg z len) (ps.map λi=>(i*es,es)) xs) λcs=>K (.slice st.next 0 len (some len) es) (ah st (.cells cs 0)):=by unfold aq cW;rw[adG];cases cS (cg z len) (ps.map λi=>(i*es,es)) xs<;>rfl
@[simp] theorem qx(st:St)(es len:Nat)(z:List AV)(ps:List Nat)(xs:List AV)(K2:AV->AB->Option R):Vl (.buildSlice es len z ps) xs st K2=Jr (cS (cg z len) (ps.map λi=>(i*es,es)) xs) λcs=>K2 (.slice st.next 0 len (some len) es) (.cells cs 0):=by unfold Vl;rw[adG];cases cS (cg z len) (ps.map λi=>(i*es,es)) xs<;>rfl
@[simp] theorem XV(st:St):aq c .mkMap [] st K=K (.map st.next) (ah st (.map [] 0)):=id rfl
theorem air{st:St}{es bytes m:Nat}{x:AV}{new:List AV}(hm:fc x=some m)(h0:m≠0)(hb:(2*(0+m)+768)*bytes<=281474976710656)(hs:0+m<=9223372036854775807)(hx:dO es m (λb=>st.heap.get b) x=some new):
  aq c (.append es bytes) [.af,x] st K=K (.slice st.next 0 m none es) (ah st (.cells new 0)):=by
 have:aJ.run (λb=>st.heap.get b) st.next (.append es bytes) [.af,x]=some (.br (.slice st.next 0 m none es) none none (some (.cells new 0))):=by
  simp only[aJ.run,lV];rw[show fc .af=some 0 from rfl,hm];simp only[dG,dH,Za0 hb,Za0 hs,Za2 h0,hx]
 unfold aq cW;rw[this];rfl
theorem atI{st:St}{es bytes m n:Nat}{p:Pos}{x:AV}{cs gR new:List AV}(hm:fc x=some m)(h0:m≠0)(hb:(2*(n+m)+768)*bytes<=281474976710656)(hs:n+m<=9223372036854775807)(hp:st.heap.get p=some (.cells cs 0))
  (ho:dO es n (λb=>st.heap.get b) (.slice p 0 n none es)=some gR) (hx:dO es m (λb=>st.heap.get b) x=some new) (h1:aV new=true):
  aq c (.append es bytes) [.slice p 0 n none es,x] st K=K (.slice st.next 0 (n+m) none es) (dst st p (.cells (gR++new) 0)):=by
 have:aJ.run (λb=>st.heap.get b) st.next (.append es bytes) [.slice p 0 n none es,x]=some (.br (.slice st.next 0 (n+m) none es) (some p) none (some (.cells (gR++new) 0))):=by simp only[aJ.run,lV];rw[show fc (.slice p 0 n none es)=some n from rfl,hm];simp only[dG,dH,Za0 hb,Za0 hs,Za2 h0,hx,hp,ho,h1];simp
 unfold aq cW;rw[this];rfl
theorem aow{st:St}{es bytes m:Nat}{p:Pos}{x:AV}{new:List AV}(hm:fc x=some m)(h0:m≠0)(hb:(2*(0+m)+768)*bytes<=281474976710656)(hs:0+m<=9223372036854775807)(hx:dO es m (λb=>st.heap.get b) x=some new):
  aq c (.append es bytes) [.slice p 0 0 (some 0) es,x] st K=K (.slice st.next 0 m none es) (ah st (.cells new 0)):=by
 have:aJ.run (λb=>st.heap.get b) st.next (.append es bytes) [.slice p 0 0 (some 0) es,x]=some (.br (.slice st.next 0 m none es) none none (some (.cells new 0))):=by
  have h2:¬(0+m<=0):=by omega
  have ho:dO es 0 (λb=>st.heap.get b) (.slice p 0 0 (some 0) es)=some []:=by simp[dO]
  simp only[aJ.run,lV];rw[show fc (.slice p 0 0 (some 0) es)=some 0 from rfl,hm];simp only[dG,dH,Za0 hb,Za0 hs,Za2 h0,Za2 h2,hx,ho];simp only[Zb1,Ze2]
 unfold aq cW;rw[this];rfl
theorem ais{st:St}{es bytes:Nat}{p:Pos}{off n:Nat}{cp:Option Nat}{x:AV}(hm:fc x=some 0)(hb:(2*(n+0)+768)*bytes<=281474976710656)(hs:n+0<=9223372036854775807):
  aq c (.append es bytes) [.slice p off n cp es,x] st K=K (.slice p off n cp es) st:=by
 have:aJ.run (λb=>st.heap.get b) st.next (.append es bytes) [.slice p off n cp es,x]=some (.val (.slice p off n cp es)):=by
  simp only[aJ.run,lV];rw[show fc (.slice p off n cp es)=some n from rfl,hm];simp only[dG,dH,Za0 hb,Za0 hs]
 unfold aq cW;rw[this]
theorem af1(H:Pos->Option AB)(n:Pos)(z:AV)(m:Pos)(es:List (AV×AV×Nat))(cl:Nat)(k:AV)(h:H m=some (.map es cl))(r:Option (Nat×AV))(hf:gX .s k es 0=some r):
  aJ.run H n (.lookup .s z true) [.map m,k]=some (.val (match r with|some (_,v)=>.tuple [v,.bool true]|none=>.tuple [z,.bool false])):=by
 simp only[aJ.run,lU,h,hf];cases r with
 |none=>rfl
 |some p=>rfl
theorem CH(z:AV){st:St}{m:Pos}{es:List (AV×AV×Nat)}{cl:Nat}{k:AV}{r:Option (Nat×AV)}(h:st.heap.get m=some (.map es cl))(hf:gX .s k es 0=some r):
  aq c (.lookup .s z true) [.map m,k] st K=K (match r with|some (_,v)=>.tuple [v,.bool true]|none=>.tuple [z,.bool false]) st:=by
 unfold aq cW;rw[af1 _ _ z m es cl k h r hf]
theorem af2(z:AV){h:T AB}{m:Pos}{es:List (AV×AV×Nat)}{cl:Nat}{k:AV}{r:Option (Nat×AV)}(hh:h.get m=some (.map es cl))(hf:gX .s k es 0=some r):
  jJ (.lookup .s z true) [.map m,k] h (λ_=>true) K1=K1 (match r with|some (_,v)=>.tuple [v,.bool true]|none=>.tuple [z,.bool false]):=by
 unfold jJ;have e:aJ.run (λ_=>none) .h (.lookup .s z true) [.map m,k]=none:=rfl;rw[e];simp only;rw[af1 _ _ z m es cl k hh r hf]
theorem akt{st:St}{m:Pos}{es:List (AV×AV×Nat)}{cl:Nat}{k:List Nat}{v:AV}(h:st.heap.get m=some (.map es cl))(hf:gX .s (.str k) es 0=some none):
  aq c (.mapSet .s) [.map m,.str k,v] st K=K .undef (bn st m (.map (es++[(.str k,v,cl)]) (cl+1))):=by
 have:aJ.run (λb=>st.heap.get b) st.next (.mapSet .s) [.map m,.str k,v]=some (.br .undef none (some (m,.map (es++[(.str k,v,cl)]) (cl+1))) none):=by
  simp[aJ.run,yF,h,hf,ahG]
 unfold aq cW;rw[this];rfl
theorem CI{p:Pos}{o:Nat}{h h2:T AB}{v:AV}(hv:((cellsOf (h.get p)).bind λcs=>cs[o]?)=some v)(QH:((cellsOf (h2.get p)).bind λcs=>cs[o]?)=some v)(hb:eJ v v=true):
  jJ (.load none) [.ptr p o] h (λv=>pE (.load none) [.ptr p o] v (nW [] h2)&&true) K1=K1 v:=by
 unfold jJ;have e:aJ.run (λ_=>none) .h (.load none) [.ptr p o]=none:=rfl;rw[e];simp only;rw[tG,hv];simp only[Ze5];have:pE (.load none) [.ptr p o] v (nW [] h2)=true:=by unfold pE;show(match aJ.run (λb=>h2.get b) .h (.load none) [.ptr p o]with|some (.val u)=>eJ u v|_=>false)=true;rw[tG,QH];exact hb
 rw[this];rfl
end
theorem lH{R:Type}(K1:AV->Option R){p:Pos}{o:Nat}{h h2:T AB}{v:AV}(hv:((cellsOf (h.get p)).bind λcs=>cs[o]?)=some v)(QH:((cellsOf (h2.get p)).bind λcs=>cs[o]?)=some v)(hb:eJ v v=true):
  jJ (.load none) [.ptr p o] h (λv=>pE (.load none) [.ptr p o] v (nW [] h2)) K1=K1 v:=by
 have:=CI K1 hv QH hb;simp only[Zi9]at this;exact this
theorem OM(p:Pos)(o n es:Nat):eJ (.slice p o n none es) (.slice p o n none es)=true:=by
 simp[eJ,jC,fy,Pos.beq_eq.2 rfl]
theorem Tq:eJ .af .af=true:=rfl
inductive gy:Nat->AV->Prop
 |flat {d:Nat} {v:AV} (h:fy v v=true):gy d v
 |fl {d:Nat} {a:List (List AV)} {n:Nat} (h:∀r∈a,∀v∈r,gy d v):gy (d+1) (.fl a n)
theorem adH{f:AV->AV->Bool}:∀{a:List AV},(∀v∈a,f v v=true)->Om f a a=true
 |[],_=>rfl
 |a::x,h=>by
  simp only[Om,h a (by simp),adH (λv hv=>h v (Zb0 _ hv)),Zj2]
theorem XW{f:AV->AV->Bool}:∀{a:List (List AV)},(∀r∈a,∀v∈r,f v v=true)->Cv f a a=true
 |[],_=>rfl
 |a::x,h=>by
  simp only[Cv,adH (h a (by simp)),XW (λv hv=>h v (Zb0 _ hv)),Zj2]
theorem Tr:∀{d:Nat}{v:AV},gy d v->On d v v=true
 |d,v,.flat h=>by
  unfold On;split
  .simp[fy]at h
  .exact h
 |d+1,.fl a n,.fl h=>by
  unfold On;simp[XW (λr hr v hv=>Tr (h r hr v hv))]
theorem gy.ro{d es:Nat}{z:Bool}{rs:List (List AV)}(h:∀r∈rs,∀v∈r,gy d v):gy (d+1) (ro es z rs):=by
 unfold Go.Ai.ro;split
 .exact .flat rfl
 .exact .fl h
theorem XX{v:AV}(h:gy 3 v):eJ v v=true:=by
 have h3:=Tr h;cases h with
 |flat h=>
  cases v<;>simp[fy]at h<;>first|simp[eJ,jC,fy,h]|skip
  all_goals simp_all [eJ,jC,fy]
 |fl h=>exact h3
theorem amA{v:AV}(h:gy 3 v):jC v v=true:=by
 have h3:=Tr h;cases h with
 |flat h=>
  cases v<;>simp[fy]at h<;>first|simp[jC,fy,h]|skip
  all_goals simp_all [jC,fy]
 |fl h=>exact h3
theorem Vm{l:List AV}(h:∀v∈l,gy 3 v):eJ (.agg l) (.agg l)=true:=by
 show pQ l l=true;induction l with
 |nil=>rfl
 |cons v l ih=>simp only[pQ,amA (h v (by simp)),ih (λu hu=>h u (Zb0 _ hu)),Zj2]
theorem ace{R:Type}(K1:AV->Option R){m:Nat}{p:Pos}{o:Nat}{h h2:T AB}{l:List AV}(hv:((cellsOf (h.get p)).bind λcs=>cut cs o m)=some l)(QH:((cellsOf (h2.get p)).bind λcs=>cut cs o m)=some l)(hb:eJ (.agg l) (.agg l)=true):
  jJ (.load (some m)) [.ptr p o] h (λv=>pE (.load (some m)) [.ptr p o] v (nW [] h2)) K1=K1 (.agg l):=by
 unfold jJ;have e:aJ.run (λ_=>none) .h (.load (some m)) [.ptr p o]=none:=rfl;rw[e];simp only;rw[xF,hv];simp only[Ze5];have:pE (.load (some m)) [.ptr p o] (.agg l) (nW [] h2)=true:=by unfold pE;show(match aJ.run (λb=>h2.get b) .h (.load (some m)) [.ptr p o]with|some (.val u)=>eJ u (.agg l)|_=>false)=true;rw[xF,QH];exact hb
 rw[this]
theorem gy.int{d:Nat}(k:IntKind)(n:Int):gy d (.int k n):= .flat (by simp[fy,mR,dN])
theorem gy.str{d:Nat}(s:List Nat):gy d (.str s):= .flat (by simp[fy,mS])
theorem gy.bool{d:Nat}(s:Bool):gy d (.bool s):= .flat (by simp[fy])
end
section
open Go
section
variable{H:Type}(enc:TypeId×Value->H)(P:Program)(w:World)(base:Nat)(spare:Nat->Bool)(held:Bool)
def pI(t:TypeId)(Q:List AV->Prop):Prop:=
 ∀  (fuel:Nat)(cs:List Value)(x:DataW H×List MemPlace),DataW.trod enc P w base spare held fuel t cs=some x->
    ∃as,Q as/\∀ρ n,aN ρ n (λad=>w.cell? ad) as cs
variable{enc P w base spare held}
theorem pI.mono{t:TypeId}{Q Q':List AV->Prop}(h:pI enc P w base spare held t Q)(k:∀as,Q as->Q' as):pI enc P w base spare held t Q':=
 λfuel cs x hx=>by obtain⟨as,h1,h2⟩:=h fuel cs x hx;exact⟨as,k _ h1,h2⟩
theorem af3{t:TypeId}{k:IntKind}(ht:P.underlying t=some (.int k)):pI enc P w base spare held t λas=>∃i,as=[.int k i]/\(Lit.int k i).wf=true:=
 fun fuel cs x hx=>by
  obtain⟨n,rfl,h⟩:=DataW.trod_int ht hx;exact⟨_,⟨n,rfl,h.2⟩,λρ m=>aN.cons (.int k n) aN.nil⟩
theorem abj {t e:TypeId}{es:Nat}{Q:List AV->Prop}(ht:P.underlying t=some (.slice e))(hc:P.cellsOf e=es)(eG:0<es)(hQ:∀as,Q as->as.length=es)(h:pI enc P w base spare held e Q):
  pI enc P w base spare held t λas=>∃z rs,as=[ro es z rs]/\(∀r∈rs,Q r)/\rs.length<=maxLen:=
 fun fuel cs x hx=>by
  rcases DataW.trod_slice ht hx with⟨rfl,_⟩|⟨a,len,cap,elems,rest,n,_,rfl,_,hb,hl,hm,hlen,hel,_,_⟩
  .  exact⟨_,⟨true,[],rfl,by simp,by simp⟩,λρ m=>aN.cons .af aN.nil⟩
  .  have each:∀i,∃r row,i<len->(Q r/\w.cells? base (a.add (i*es)) es=some row/\∀ρ m,aN ρ m (λad=>w.cell? ad) r row):=by
        intro i;by_cases hi:i<len
        . have h1:=hel i hi;rw[H0 (by omega),hc]at h1;cases h2:w.cells? base (a.add (i*es)) es with
          |none=>rw[h2]at h1;cases h1
          | some row=>
            rw[h2]at h1;obtain⟨r,hr,hv⟩:=h n row _ h1;exact⟨r,row,λ_=>⟨hr,rfl,hv⟩⟩
        .exact⟨[],[],λh=>absurd h hi⟩
     obtain⟨r,each⟩:=Classical.axiomOfChoice each;obtain⟨row,hr⟩:=Classical.axiomOfChoice each;have atb:0<len->a.spot=none:=λh0=>by
        obtain⟨_,h1,_⟩:=hr 0 h0;have:=(World.cells?_some h1).2.2 0 eG;have hl:=(World.cells?_some h1).2.1;rw[H0 (by omega)]at this;simp only[Zo1,Addr.add,Zh6]at this;unfold World.cell? at this;split at this
        . split at this
          .cases this
          .rename_i h;simpa using h
        .cases this
     have awu:((List.range len).map r).length=len:=(by simp);have get:∀(i:Nat)(c:List AV),((List.range len).map r)[i]? =some c->i<len/\c=r i:=λi c hi=>by
        rw[Zb3]at hi;by_cases h:i<len
        .rw[Zh9 h]at hi;simp at hi;exact⟨h,hi.symm⟩
        .rw[Zc0 (by simpa using h)]at hi;cases hi
     refine⟨_,⟨false,(List.range len).map r,rfl,?_,by simp;omega⟩,λρ m=>aN.cons ?_ aN.nil⟩
     .  intro q hq;simp only[Zc9,Zi0]at hq;obtain⟨i,hi,rfl⟩:=hq;exact(hr i hi).1
     .  have key:aG ρ m (λad=>w.cell? ad) (.fl ((List.range len).map r) es) (.slice (some a) ((List.range len).map r).length cap):=by
          refine .fl _ es cap a (λi j=>((row i)[j]?).getD .nilFunc) (by omega) (λh0=>atb ?_) (λi c hi=> ?_) (λi j c v hi hj=> ?_) (λi j c v hi hj=> ?_)
          .apply Zl3;intro h;apply h0;have:len=0:=(by omega);subst this;rfl
          .obtain⟨h1,rfl⟩:=get i c hi;exact hQ _ (hr i h1).1
          . obtain⟨h1,rfl⟩:=get i c hi;obtain⟨q1,q2,q3⟩:=hr i h1;have hj2:j<es:=(by rw[<-hQ _ q1];exact(Za1.1 hj).1);have q4:=(World.cells?_some q2).2.2 j hj2;have q5:=(World.cells?_some q2).2.1;have hs:=atb (by omega);have e1:(a.add (i*es)).add j=⟨a.block,a.off+i*es+j,none⟩:=by
             obtain⟨aT,off,spot⟩:=a;simp only at hs;subst hs;unfold Addr.add;by_cases e1:i*es=0<;>by_cases e2:j=0<;>simp[e1,e2]
            rw[e1]at q4;show w.cell? _=_;rw[q4,H0 (by omega)];rfl
          .obtain⟨h1,rfl⟩:=get i c hi;obtain⟨q1,q2,q3⟩:=hr i h1;have hj2:j<es:=(by rw[<-hQ _ q1];exact(Za1.1 hj).1);have q5:=(World.cells?_some q2).2.1;refine(q3 ρ m).2 j v _ hj ?_;rw[H0 (by omega)];rfl
        rw[awu]at key;exact key
def Ts:List (List AV->Prop)->List (List AV)->Prop
 |[],[]=>True
 |Q::Qs,p::ps=>Q p/\Ts Qs ps
 |_,_=>False
def XY(P:Program)(tot:Nat):Nat->List Field->Bool
 |o,[]=>o==tot
 |o,f::fs=>f.offset==o&&XY P tot (o+P.cellsOf f.type) fs
def ait(enc:TypeId×Value->H)(P:Program)(w:World)(base:Nat)(spare:Nat->Bool)(held:Bool):List TypeId->List (List AV->Prop)->Prop
 |[],[]=>True
 |f::fs,Q::Qs=>pI enc P w base spare held f Q/\ait enc P w base spare held fs Qs
 |_,_=>False
theorem XZ{tot n:Nat}:∀(fs:List Field)(Qs:List (List AV->Prop))(o:Nat)(cs:List Value),XY P tot o fs=true->ait enc P w base spare held (fs.map (·.type)) Qs->cs.length=tot->
  (∀f∈fs,∃y,DataW.trod enc P w base spare held n f.type ((cs.drop f.offset).take (P.cellsOf f.type))=some y)->
  ∃parts,Ts Qs parts/\∀ρ m,aN ρ m (λad=>w.cell? ad) parts.flatten (cs.drop o)
 |[],[],o,cs,hc,_,hl,_=>by simp only[XY,beq_iff_eq]at hc;refine⟨[],trivial,λρ m=> ?_⟩;rw[List.drop_eq_nil_of_le (by omega)];exact aN.nil
 |f::fs,Q::Qs,o,cs,hc,hO,hl,hf=>by
  simp only[XY,Zb7,beq_iff_eq]at hc;obtain⟨y,hy⟩:=hf f (by simp);obtain⟨as,hq,hv⟩:=hO.1 n _ y hy;obtain⟨parts,hp,QH⟩:=XZ fs Qs _ cs hc.2 hO.2 hl (λg hg=>hf g (Zb0 _ hg));refine⟨as::parts,⟨hq,hp⟩,λρ m=> ?_⟩;have e:cs.drop o=(cs.drop f.offset).take (P.cellsOf f.type)++cs.drop (o+P.cellsOf f.type):=by
   rw[hc.1, <-Zl0,Zm1]
  rw[e,Zf7];exact(hv ρ m).append (QH ρ m)
def fieldsOf(P:Program)(t:TypeId):List Field:=match P.underlying t with
 |some (.struct fs)=>fs.toList
 |_=>[]
def aiu(P:Program)(t:TypeId):Bool:=match P.underlying t with
 |some (.struct _)=>true
 |_=>false
theorem aiv{t:TypeId}(ts:List TypeId){Qs:List (List AV->Prop)}(hs:aiu P t=true)(uO:(fieldsOf P t).map (·.type)=ts)(hc:XY P (P.cellsOf t) 0 (fieldsOf P t)=true)(hO:ait enc P w base spare held ts Qs):
  pI enc P w base spare held t λas=>∃parts,as=parts.flatten/\Ts Qs parts:=
 fun fuel cs x hx=>by
  obtain⟨fs,ht⟩:∃fs,P.underlying t=some (.struct fs):=by
     unfold aiu at hs;cases h:P.underlying t with
     |none=>rw[h]at hs;cases hs
     |some d=>rw[h]at hs;cases d<;>first|exact⟨_,rfl⟩|cases hs
  have ef:fieldsOf P t=fs.toList:=by unfold fieldsOf;rw[ht]
  rw[ef]at uO hc;subst uO;obtain⟨xs,n,_,_,hl,hxl,hf⟩:=DataW.trod_struct ht hx;obtain⟨parts,hp,hv⟩:=XZ fs.toList Qs 0 cs hc hO hl (λf hf2=>by
     obtain⟨i,hi⟩:=List.getElem?_of_mem hf2;have tH:fs[i]? =some f:=(by rw[<-Zk0];exact hi);have aW:i<fs.size:=(Zd5.1 tH).1;exact⟨xs[i],by rw[hf i f tH,H0 (by omega)]⟩)
  exact⟨_,⟨parts,rfl,hp⟩,λρ m=>hv ρ m⟩
end
def Quiet(w w':World):Prop:=w'.os=w.os/\w'.tape=w.tape/\w'.output=w.output/\w.heap.size<=w'.heap.size/\∀k,k<w.heap.size->w'.heap[k]? =w.heap[k]?
def Z0:List AV->St->Option (AV×St)
 |[],st=>some (.bool true,st)
 |_,_=>none
theorem af4{P:Program}{C:Cells}{f:FuncId}{fn:Func}{c:Code}(hf:P.funcs[f]? =some fn)(qu:¬fn.name= "runtime.NumGoroutine")(hb:fn.body=some c)
  (h:∀w:World,(∀ad u,C ad=some u->w.cell? ad=some u)->Calls P f #[] w λe w'=>e= .returned (.bool true)/\Quiet w w'):ug P C f Z0 where
 mono args st v st' hs:=by
  unfold Z0 at hs;split at hs<;>first|(cases hs;done)|skip
  simp only[H5,Zd3]at hs;rw[<-hs.2];exact Za5 _
 runs ρ st w args v st' cZ hs hW hv:=by
  unfold Z0 at hs;split at hs<;>first|(cases hs;done)|skip
  simp only[H5,Zd3]at hs;obtain⟨rfl,rfl⟩:=hs;obtain rfl:=hv.qQ;have eu:(callFunc f ([]:List Value).toArray).run P w= .ok (.enter f #[]) w:=by simp[callFunc,hf,qu,hb]
  rw[eu];refine Calls.mono (h w λad u ha=>(hW.eP ad u ha).1) λe w' he=> ?_
  obtain⟨rfl,h1,h2,h3,h4,h5⟩:=he;exact⟨ρ,.bool true,λ_ _=>rfl,Za5 _,hW.grow h4 h5,⟨h1,h2,h3,h4,λk hk _=>h5 k hk,λb x hb=>.inl ⟨b,x,hb,rfl⟩⟩⟩
theorem aq8{P:Program}{C:Cells}{call:aj}{f:FuncId}{fn:Func}{c:Code}{args:List AV}{cZ:List Value}{b:Bool}{n0:Pos}{bK:St}{w:World}
  (cF:jq P C call) (hC:∀ad v,C ad=some v->w.cell? ad=some v) (hC2:∀a v,C a=some v->∀o,C ⟨a.block,o,none⟩=none->w.cell? ⟨a.block,o,none⟩=none) (hf:P.funcs[f]? =some fn) (qu:¬fn.name= "runtime.NumGoroutine") (hb:fn.body=some c)
  (ha:aN (λ_=>⟨0,0,0⟩) n0.toNat C args cZ) (h:call f args { heap:= .e,next:=n0 }=some (.bool b,bK)):
  Calls P f cZ.toArray w λe w'=>e= .returned (.bool b)/\Quiet w w':=by
 have hr:=cF (λ_=>⟨0,0,0⟩) { heap:= .e,next:=n0 } w f args (.bool b) bK cZ h (HQ hC hC2) ha;have eu:(callFunc f cZ.toArray).run P w= .ok (.enter f cZ.toArray) w:=by simp[callFunc,hf,qu,hb]
 rw[eu]at hr;refine Calls.mono hr λe w' he=> ?_
 cases e with
 |returned x=>
  obtain⟨ρ',h1,_,_,_,hE⟩:=he;have:=h1.lC;subst this;exact⟨rfl,hE.os,hE.tape,hE.output,hE.size,λk hk=>hE.block k hk λb x hb=>by rw[T.dZ]at hb;cases hb⟩
 |panicked c=>exact he.elim
 |outgrown=>exact he.elim
end
section
open Go Go.ChangeShapes Go.WideShapes Go.ChangeAt Go.RowKit
theorem Quiet.below{w w':World}(h:Quiet w w'):Below w.heap.size w w':=⟨h.1,h.2.1,h.2.2.1,h.2.2.2.1,h.2.2.2.2⟩
section
variable{H:Type}{enc:TypeId×Value->H}{P:Program}
theorem Vn{W W':World}(hl:laidOutB P=true)(hb:Below W.heap.size W W'):∀{ts:List TypeId}{vs:List Value}{ds:List (DataW H)}{p:List MemPlace},
  DataW.TrodAll enc P W 0 (λ_=>true) true ts vs ds p->(∀t∈ts,P.readableRec t=true/\t<P.types.size)->(∀x∈p,x.block<W.heap.size)->
  DataW.TrodAll enc P W' 0 (λb=>decide (b<W.heap.size)) true ts vs ds p
 |[],_,_,_,h,_,_=>by obtain⟨rfl,rfl,rfl⟩:=trodAll_nil h;exact trodAll_mk0
 |t::ts,_,_,_,h,hr,hx=>by
  obtain⟨v,vs1,d,ds1,a,b,rfl,rfl,rfl,h1,h2⟩:=trodAll_cons h
  exact trodAll_cons_mk (Below.trod hl (hr t (by simp)).1 (hr t (by simp)).2 h1 hb (λx hx2=>hx x (Zm5 _ hx2)))
   (Vn hl hb h2 (λt ht=>hr t (Zb0 _ ht)) (λx hx2=>hx x (List.mem_append_right _ hx2)))
theorem aox{f:Func}{s:ChangeSpec}{W W':World}{args:Array Value}{ds gs:List (DataW H)}{before:List MemPlace}{tb:TypeId}(hl:laidOutB P=true)
   (hW:DataW.Whole enc P f.params.toList s.vars false W args.toList ds gs before) (hv:s.vars=[]) (HO:s.fn H (ds++gs)={ results:=[.lit (.bool true)],args:=ds })
   (hr:∀t∈f.params.toList,P.readableRec t=true/\t<P.types.size) (hB:Below W.heap.size W W') (acf:f.resultTypes= #[tb]) (htb:P.underlying tb=some .bool):
   s.post enc P f false true false false W args (.bool true) W':=by
 have aW:=hW.lt;have jD:=hW;obtain⟨p,q,hA,hV,rfl,hfz,hnd⟩:=hW;have hq:q=[]:=by
   rw[hv]at hV;cases gs with
   |nil=>exact hV
   |cons g gs=>exact hV.elim
 subst hq;refine⟨ds,gs,p++[],[],p,[],jD,?_,?_,?_,hB.frame _,λh=>by cases h⟩
 .rw[HO,acf];exact trodAll_cons_mk (shut_bool htb _) trodAll_mk0
 .rw[HO];exact Vn hl hB hA hr (λx hx=>aW x (Zm5 _ hx))
 .rw[HO,hv];rfl
end
section
variable{H:Type}{enc:TypeId×Value->H}{P:Program}{w:World}{base:Nat}{spare:Nat->Bool}{held:Bool}
theorem adI{t:TypeId}{fs:Array Field}{Q:List AV->Prop}{r:Go.Reach}{b0:Nat}{v:Value}{d:DataW H}{p:List MemPlace}(ho:pI enc P w base spare held t Q)(ht:P.underlying t=some (.struct fs))
  (hval:Value.okWide P w r b0 t v) (hd:DataW.Trod enc P w base spare held t v d p):∃as,Q as/\∀ρ n,aG ρ n (λad=>w.cell? ad) (.agg as) v:=by
 obtain⟨cs,rfl,_⟩:=okWide_struct ht hval;obtain⟨fuel,hf⟩:=hd;obtain⟨as,h1,h2⟩:=ho _ _ _ hf;refine⟨as,h1,λρ n=> ?_⟩;have h3:=h2 ρ n;refine .agg as cs (by rw[h3.1];simp[Value.cells]) λi x x' hx xq=>h3.2 i x x' hx ?_
 simpa [Value.cells]using xq
end
end
section
open Go
theorem aG.awv{ρ:Pos->Loc}{n:Nat}{C C':Cells}{v:AV}{x:Value}(hC:∀ad u,C ad=some u->C' ad=some u)(h:aG ρ n C v x):aG ρ n C' v x:=by
 induction h with
 |bool b=>exact .bool b
 |int k i=>exact .int k i
 |str s bs h=>exact .str s bs h
 |jx=>exact .jx
 |ptr b off h=>exact .ptr b off h
 |fp xs i j es aT base cell hl hc _ ih=>exact .fp xs i j es aT base cell hl (λi j cs v h1 h2=>hC _ _ (hc i j cs v h1 h2)) ih
 |af=>exact .af
 |slice b off len cap es bG a hl hc ha hk=>exact .slice b off len cap es bG a hl hc ha hk
 |fl xs es bG a cell hl hs eG hc _ ih=>exact .fl xs es bG a cell hl hs eG (λi j cs v h1 h2=>hC _ _ (hc i j cs v h1 h2)) ih
 |qX=>exact .qX
 |map b h=>exact .map b h
 |func f x y x' y' hx hy _ _ ih1 ih2=>exact .func f x y x' y' hx hy ih1 ih2
 |jX=>exact .jX
 |BS=>exact .BS
 |iface t v x _ ih=>exact .iface t v x ih
 |agg l cs hl _ ih=>exact .agg l cs hl ih
 |tuple l cs hl _ ih=>exact .tuple l cs hl ih
def mV(ρ:Pos->Loc)(n:Nat)(C:Cells)(w:World)(v u:AV):Prop:=∀x,aG ρ n C v x->aG ρ n (λad=>w.cell? ad) u x
section
variable{ρ:Pos->Loc}{C:Cells}{st:St}{w:World}
theorem mV.self{n:Nat}(hC:∀ad u,C ad=some u->w.cell? ad=some u)(v:AV):mV ρ n C w v v:=λ_ h=>h.awv hC
theorem mV.agg{n:Nat}{l l':List AV}(hl:l.length=l'.length)(h:∀(i:Nat)(v u:AV),l[i]? =some v->l'[i]? =some u->mV ρ n C w v u):mV ρ n C w (.agg l) (.agg l'):=λx hx=>by
 cases hx with
 |agg _ cs h1 h2=>
  refine .agg l' cs (by omega) λi u x hu hx=> ?_
  have hi:i<l.length:=by rw[hl];exact(Za1.1 hu).1
  exact h i l[i] u (H0 hi) hu _ (h2 i _ x (H0 hi) hx)
theorem mV.slice(hW:cN ρ C st w){b:Pos}{off len es fz:Nat}{cap:Option Nat}{cs:List AV}(hb:st.heap.get b=some (.cells cs fz))(hlen:off+len*es<=cs.length){F:List (List AV)}(hF:F.length=len)
  (eG:∀(i:Nat)(r:List AV),F[i]? =some r->r.length=es)
  (hr:∀(i j:Nat)(r:List AV)(u v:AV),F[i]? =some r->r[j]? =some u->cs[off+i*es+j]? =some v->mV ρ st.next.toNat C w v u):
  mV ρ st.next.toNat C w (.slice b off len cap es) (.fl F es):=λx hx=>by
 cases hx with
 |slice  _ _ _ _ _ bG a hl hc ha hk=>
  have get:∀(i j:Nat)(r:List AV)(u:AV),F[i]? =some r->r[j]? =some u->i<len/\j<es/\off+i*es+j<cs.length/\0<bG:=λi j r u h1 h2=>by
   have g1:i<len:=(by rw[<-hF];exact(Za1.1 h1).1);have g2:j<es:=(by rw[<-eG i r h1];exact(Za1.1 h2).1);have g3:(i+1)*es<=len*es:=Zh5 _ g1;rw[Zh0]at g3;exact⟨g1,g2,by omega,by omega⟩
  have cell:∀(i j:Nat)(r:List AV)(u:AV),F[i]? =some r->r[j]? =some u->∃v y,cs[off+i*es+j]? =some v/\w.cell? ⟨a.block,a.off+i*es+j,none⟩=some y/\aG ρ st.next.toNat C v y:=λi j r u h1 h2=>by
   obtain⟨g1,g2,g3,g4⟩:=get i j r u h1 h2;obtain⟨_,rfl,_⟩:=ha (by omega);have hv:=H0 g3;obtain⟨y,q1,q2⟩:=hW.cell hb hv;exact⟨_,y,hv,by rw[show(ρ b).base+off+i*es+j=(ρ b).base+(off+i*es+j)by omega];exact q1,q2⟩
  have key:aG ρ st.next.toNat (λad=>w.cell? ad) (.fl F es) (.slice (some a) F.length bG):=by
   refine .fl F es bG a (λi j=>(w.cell? ⟨a.block,a.off+i*es+j,none⟩).getD .nilFunc) (by omega) (λh0=> ?_) eG (λi j r u h1 h2=> ?_) (λi j r u h1 h2=> ?_)
   .    cases aww:len with
        |zero=>exfalso;apply h0;rw[aww]at hF;exact List.length_eq_zero_iff.1 hF
        |succ m=>
         obtain⟨_,rfl,_⟩:=ha (by omega);rfl
   .    obtain⟨v,y,_,q2,_⟩:=cell i j r u h1 h2;show w.cell? _=_;rw[q2];rfl
   .    obtain⟨v,y,q1,q2,q3⟩:=cell i j r u h1 h2;rw[q2];exact hr i j r u v h1 h2 q1 y q3
  rw[hF]at key;exact key
end
def fE (st:St):Nat->AV->AV
 |0,v=>v
 |  d+  1,.slice b off len cap es=>match decide (len=0)with
    |true=>.fl [] es
    |false=>match st.heap.get b with
     |  some (.cells cs _)=>match decide (off+len*es<=cs.length)with
        |true=>.fl ((List.range len).map λi=>((cs.drop (off+i*es)).take es).map (fE st d)) es
        |false=>.slice b off len cap es
     |_=>.slice b off len cap es
 |  d+1,.ptr b off=>match st.heap.get b with
    |some (.cells cs _)=>.fp [cs.map (fE st d)] 0 off
    |_=>.ptr b off
 |d+1,.agg l=>.agg (l.map (fE st d))
 |d+1,.func f x y=>.func f (x.map (fE st d)) (y.map (fE st d))
 |_,v=>v
theorem af5(st:St)(d:Nat)(b:Pos)(off len:Nat)(cap:Option Nat)(es:Nat):fE st (d+1) (.slice b off len cap es)=match decide (len=0)with
 |true=>.fl [] es
 |false=>match st.heap.get b with
  |     some (.cells cs _)=>match decide (off+len*es<=cs.length)with
        |true=>.fl ((List.range len).map λi=>((cs.drop (off+i*es)).take es).map (fE st d)) es
        |false=>.slice b off len cap es
  |_=>.slice b off len cap es:=rfl
theorem atJ(st:St)(d:Nat)(b:Pos)(off:Nat):fE st (d+1) (.ptr b off)=match st.heap.get b with
 |some (.cells cs _)=>.fp [cs.map (fE st d)] 0 off
 |_=>.ptr b off:=rfl
theorem aln(st:St)(d:Nat)(l:List AV):fE st (d+1) (.agg l)= .agg (l.map (fE st d)):=rfl
theorem aq9(st:St)(d:Nat)(f:FuncId)(x y:List AV):fE st (d+1) (.func f x y)= .func f (x.map (fE st d)) (y.map (fE st d)):=rfl
section
variable{ρ:Pos->Loc}{C:Cells}{st:St}{w:World}
theorem mV.ptr(hW:cN ρ C st w){b:Pos}{off fz:Nat}{cs F:List AV}(hb:st.heap.get b=some (.cells cs fz))(hF:F.length=cs.length)
  (hr:∀(j:Nat)(u v:AV),F[j]? =some u->cs[j]? =some v->mV ρ st.next.toNat C w v u):mV ρ st.next.toNat C w (.ptr b off) (.fp [F] 0 off):=λx hx=>by
 cases hx with
 |ptr   _ _ h=>
  have row:∀(i j:Nat)(r:List AV)(u:AV),[F][i]? =some r->r[j]? =some u->i=0/\∃v y,cs[j]? =some v/\w.cell? ⟨(ρ b).aT,(ρ b).base+j,none⟩=some y/\aG ρ st.next.toNat C v y/\F[j]? =some u:=λi j r u h1 h2=>by
   have hi:i=0:=(by have:=(Za1.1 h1).1;simp at this;exact this);subst hi;simp at h1;subst h1;have hj:j<cs.length:=(by rw[<-hF];exact(Za1.1 h2).1);obtain⟨y,q1,q2⟩:=hW.cell hb (H0 hj);exact⟨rfl,_,y,H0 hj,q1,q2,h2⟩
  have key:aG ρ st.next.toNat (λad=>w.cell? ad) (.fp [F] 0 off) (.pointer (some ⟨(ρ b).aT,(ρ b).base+0*cs.length+off,none⟩)):=by
   refine .fp [F] 0 off cs.length (ρ b).aT (ρ b).base (λ_ j=>(w.cell? ⟨(ρ b).aT,(ρ b).base+j,none⟩).getD .nilFunc) (λi r h1=> ?_) (λi j r u h1 h2=> ?_) (λi j r u h1 h2=> ?_)
   .    have hi:i=0:=(by have:=(Za1.1 h1).1;simp at this;exact this);subst hi;simp at h1;subst h1;exact hF
   .    obtain⟨rfl,v,y,_,q2,_⟩:=row i j r u h1 h2;show w.cell? _=_;rw[show(ρ b).base+0*cs.length+j=(ρ b).base+j by omega,q2];rfl
   .    obtain⟨rfl,v,y,q1,q2,q3,q4⟩:=row i j r u h1 h2;rw[q2];exact hr j u v q4 q1 y q3
  rw[show(ρ b).base+0*cs.length+off=(ρ b).base+off by omega]at key;exact key
theorem mV.fE (hW:cN ρ C st w):∀(d:Nat)(v:AV),mV ρ st.next.toNat C w v (fE st d v)
 |0,v=>mV.self (λad u h=>(hW.eP ad u h).1) v
 |d+    1,v=>   by
  have self:=mV.self (ρ:=ρ) (n:=st.next.toNat) (λad u h=>(hW.eP ad u h).1) v;cases v with
  |slice    b off len cap es=>
   rw[af5];split
   .    rename_i h0;obtain rfl:=Zh7 h0;intro x hx;cases hx with
        | slice _ _ _ _ _ bG a hl hc ha hk=>
          exact .fl [] es bG a (λ_ _=>.nilFunc) (Zi6 _) (λh=>absurd rfl h) (λi c h=>by simp at h) (λi j c v h=>by simp at h) (λi j c v h=>by simp at h)
   split
   .    rename_i cs fz hb;split
        . rename_i hle;have hle:=Zh7 hle;refine mV.slice hW hb hle (by simp) (λi r hi=> ?_) (λi j r u v hi hj hv=> ?_)
          . rw[Zb3]at hi;by_cases h:i<len
            .rw[Zh9 h]at hi;simp only[Ze5,H5]at hi;subst hi;have g3:(i+1)*es<=len*es:=Zh5 _ h;rw[Zh0]at g3;simp;omega
            .rw[Zc0 (by simpa using h)]at hi;cases hi
          . rw[ Zb3]at hi;by_cases h:i<len
            . rw[Zh9 h]at hi;simp only[Ze5,H5]at hi;subst hi;rw[Zb3,Ze1]at hj;split at hj
              .rw[Ze4,hv]at hj;simp only[Ze5,H5]at hj;subst hj;exact mV.fE hW d v
              .cases hj
            .rw[Zc0 (by simpa using h)]at hi;cases hi
        .exact self
   .    exact self
  |ptr b off=>
   rw[atJ];split
   .    rename_i cs fz hb;refine mV.ptr hW hb (by simp) (λj u v hu hv=> ?_);rw[Zb3,hv]at hu;simp only[Ze5,H5]at hu;subst hu;exact mV.fE hW d v
   .    exact self
  |agg l=>
   rw[aln];refine mV.agg (by simp) (λi v u h1 h2=> ?_);rw[Zb3,h1]at h2;simp only[Ze5,H5]at h2;subst h2;exact mV.fE hW d v
  |func f x y=>
   rw[aq9];intro v' hv;cases hv with
   |    func _ _ _ x' y' hx hy h1 h2=>
        have one:∀(l:List AV)(xs:Array Value),(∀(i:Nat)(v:AV)(v':Value),l[i]? =some v->xs[i]? =some v'->aG ρ st.next.toNat C v v')->∀(i:Nat)(v:AV)(v':Value),(l.map (Go.Ai.fE st d))[i]? =some v->xs[i]? =some v'->aG ρ st.next.toNat (λad=>w.cell? ad) v v':=λl xs h i u v' hu hx=>by
          rw[Zb3]at hu;cases hg:l[i]? with
          |none=>rw[hg]at hu;cases hu
          | some v0=>
            rw[hg]at hu;simp only[Ze5,H5]at hu;subst hu;exact mV.fE hW d v0 _ (h i v0 v' hg hx)
        exact .func f _ _ x' y' (by simpa using hx) (by simpa using hy) (one x x' h1) (one y y' h2)
  |_=>exact self
theorem aN.fE(hW:cN ρ C st w)(d:Nat){l:List AV}{xs:List Value}(h:aN ρ st.next.toNat C l xs):aN ρ st.next.toNat (λad=>w.cell? ad) (l.map (Go.Ai.fE st d)) xs:=
 ⟨by rw[<-h.1];simp,λi u x hu hx=>by
  rw[Zb3]at hu;cases hv:l[i]? with
  |none=>rw[hv]at hu;cases hu
  |  some v=>
     rw[hv]at hu;simp only[Ze5,H5]at hu;subst hu;exact mV.fE hW d v _ (h.2 i v x hv hx)⟩
end
def bS(v:AV):Prop:=∀(ρ:Pos->Loc)(n:Nat)(C C':Cells)(x:Value),aG ρ n C v x->aG ρ n C' v x
theorem bS.bool(b:Bool):bS (.bool b):=λ_ _ _ _ _ h=>by cases h;exact .bool b
theorem bS.int(k:IntKind)(i:Int):bS (.int k i):=λ_ _ _ _ _ h=>by cases h;exact .int k i
theorem bS.str(s:List Nat):bS (.str s):=λ_ _ _ _ _ h=>by cases h with|str _ bs h=>exact .str s bs h
theorem bS.af:bS .af:=λ_ _ _ _ _ h=>by cases h;exact .af
theorem bS.jX:bS .jX:=λ_ _ _ _ _ h=>by cases h;exact .jX
theorem bS.ptr(b:Pos)(o:Nat):bS (.ptr b o):=λ_ _ _ _ _ h=>by cases h with|ptr _ _ h=>exact .ptr b o h
theorem bS.map(b:Pos):bS (.map b):=λ_ _ _ _ _ h=>by cases h with|map _ h=>exact .map b h
theorem bS.slice(b:Pos)(o l:Nat)(c:Option Nat)(es:Nat):bS (.slice b o l c es):=λ_ _ _ _ _ h=>by
 cases h with|slice _ _ _ _ _ bG a h1 h2 h3 h4=>exact .slice b o l c es bG a h1 h2 h3 h4
theorem bS.tuple{l:List AV}(hl:∀v∈l,bS v):bS (.tuple l):=λ_ _ _ _ _ h=>by
 cases h with|tuple _ cs hx h1=>exact .tuple l cs hx λi v x hv hx=>hl v (Zc5 hv) _ _ _ _ _ (h1 i v x hv hx)
theorem bS.agg{l:List AV}(hl:∀v∈l,bS v):bS (.agg l):=λ_ _ _ _ _ h=>by
 cases h with|agg _ cs hx h1=>exact .agg l cs hx λi v x hv hx=>hl v (Zc5 hv) _ _ _ _ _ (h1 i v x hv hx)
theorem bS.func(f:FuncId){a b:List AV}(ha:∀v∈a,bS v)(hb:∀v∈b,bS v):bS (.func f a b):=λ_ _ _ _ _ h=>by
 cases h with
 |func _ _ _ a' b' hx hy h1 h2=>exact .func f a b a' b' hx hy (λi v x hv hx=>ha v (Zc5 hv) _ _ _ _ _ (h1 i v x hv hx)) (λi v x hv hx=>hb v (Zc5 hv) _ _ _ _ _ (h2 i v x hv hx))
def Lw:AB->Prop
 |.cells cs _=>∀v∈cs,bS v
 |.map es _=>∀e∈es,bS e.1/\bS e.2.1
theorem Lw.rel{x:AB}(h:Lw x){ρ:Pos->Loc}{n:Nat}{C C':Cells}{L:Loc}{w:World}(k:ud ρ n C L w x):ud ρ n C' L w x:=by
 cases x with
 |cells cs fz=>
  obtain⟨c,e,fr,h1,h2,h3,h4,h5⟩:=k;exact⟨c,e,fr,h1,h2,h3,⟨h4.1,λi v x hv hx=>h v (Zc5 hv) _ _ _ _ _ (h4.2 i v x hv hx)⟩,h5⟩
 |map es clock=>
  obtain⟨es',h1,h2,h3⟩:=k;exact⟨es',h1,h2,λi e e' he sw=>let⟨a,b,c⟩:=h3 i e e' he sw;⟨(h e (Zc5 he)).1 _ _ _ _ _ a,(h e (Zc5 he)).2 _ _ _ _ _ b,c⟩⟩
def T.both{α:Type}:T α->T α->T α
 |t,.e=>t
 |.e,t=>t
 |.n l v r,.n l' v' r'=>.n (T.both l l') (v.or v') (T.both r r')
theorem T.aoy{α:Type}(t:T α):T.both t .e=t:=by cases t<;>rfl
theorem T.Gq{α:Type}:∀(p:Pos)(t t':T α),(T.both t t').get p=(t.get p).or (t'.get p)
 |p,t,.e=>by rw[T.aoy,T.dZ];simp
 |p,.e,.n l v r=>by rw[T.dZ];rfl
 |.h,.n l v r,.n l' v' r'=>rfl
 |.o p,.n l v r,.n l' v' r'=>T.Gq p l l'
 |.i p,.n l v r,.n l' v' r'=>T.Gq p r r'
def T.keep{α:Type}(P:α->Bool):T α->T α
 |.e=>.e
 |.n l v r=>.n (T.keep P l) (v.filter P) (T.keep P r)
theorem T.Tt{α:Type}(P:α->Bool):∀(p:Pos)(t:T α),(T.keep P t).get p=(t.get p).filter P
 |p,.e=>by rw[T.keep,T.dZ];rfl
 |.h,.n l v r=>rfl
 |.o p,.n l v r=>T.Tt P p l
 |.i p,.n l v r=>T.Tt P p r
open Classical in
noncomputable def DC(t:T AB):T AB:=T.keep (λx=>decide (Lw x)) t
theorem af6{t:T AB}{p:Pos}{x:AB}(h:(DC t).get p=some x):t.get p=some x/\Lw x:=by
 unfold DC at h;rw[T.Tt]at h;cases hg:t.get p with
 |none=>rw[hg]at h;cases h
 |some y=>
  rw[hg]at h;simp only[Option.filter]at h;split at h
  .rename_i hb;cases h;exact⟨rfl,@Zh7 _ (Classical.propDecidable _) hb⟩
  .cases h
theorem aoz{t:T AB}{p:Pos}{x:AB}(h:t.get p=some x)(hb:Lw x):(DC t).get p=some x:=by
 unfold DC;rw[T.Tt,h];simp[Option.filter,hb]
theorem atK:DC .e= .e:=rfl
def Shut(n0:Pos)(r:AV×St):Prop:=bS r.1/\n0.toNat<=r.2.next.toNat
open Classical in
noncomputable def X0(call:aj)(f:FuncId)(d:Nat):List AV->St->Option (AV×St):=λargs st=>
 match call f (args.map (fE st d)) { heap:= .e,next:=st.next }with
 |some (v,bK)=>if Shut st.next (v,bK)then some (v,{ heap:=T.both st.heap (DC bK.heap),next:=bK.next })else none
 |none=>none
theorem alo{call:aj}{f:FuncId}{d:Nat}{args:List AV}{st:St}{v:AV}{bK:St}(h:call f (args.map (fE st d)) { heap:= .e,next:=st.next }=some (v,bK))(hs:Shut st.next (v,bK)):
  X0 call f d args st=some (v,{ heap:=T.both st.heap (DC bK.heap),next:=bK.next }):=by
 unfold X0;rw[h];simp only;rw[Zb4 hs]
theorem ara{call:aj}{f:FuncId}{d:Nat}{args:List AV}{st:St}{v:AV}(h:call f (args.map (fE st d)) { heap:= .e,next:=st.next }=some (v,{ heap:= .e,next:=st.next }))(hs:bS v):
  X0 call f d args st=some (v,st):=by
 rw[alo h ⟨hs,Za5 _⟩];simp only[atK,T.aoy]
theorem arb {P:Program}{C:Cells}{f:FuncId}{call:aj}{d:Nat}(dF:∀C':Cells,(∀ad u,C ad=some u->C' ad=some u)->jq P C' call):ug P C f (X0 call f d) where
 mono args st v st' h:=by
  unfold X0 at h;split at h
  . split at h
    .   rename_i hs;simp only[H5,Zd3]at h;rw[<-h.2];exact hs.2
    .   cases h
  .cases h
 runs ρ st  w args v st' cZ h hW hv:=by
  unfold X0 at h;split at h
  . rename_i v1 bK hc;split at h
    .   rename_i hs;simp only[H5,Zd3]at h;obtain⟨rfl,rfl⟩:=h;obtain⟨s1,s3⟩:=hs;have hr:=dF (λad=>w.cell? ad) (λad u ha=>(hW.eP ad u ha).1) ρ { heap:= .e,next:=st.next } w f _ v1 bK cZ hc (HQ (λad u ha=>ha) λa u _ o ho=>ho) (aN.fE hW d hv);refine Reaches.mono (λx w' he=> ?_) hr
        . obtain⟨ρ',h1,h2,h3,h4,hE⟩:=he;have un:∀k,k<w.heap.size->w'.heap[k]? =w.heap[k]? :=λk hk=>hE.block k hk λb x hb=>by rw[T.dZ]at hb;cases hb
          have new:∀b x,bK.heap.get b=some x->w.heap.size<=(ρ' b).aT:=λb x hx=>by
            rcases hE.yH b x hx with⟨b',x',eO,_⟩|hh
            .rw[T.dZ]at eO;cases eO
            .exact hh
          have both:∀b x,(T.both st.heap (DC bK.heap)).get b=some x->(st.heap.get b=some x/\ρ' b=ρ b)\/(bK.heap.get b=some x/\Lw x):=λb x hx=>by
            rw[T.Gq]at hx;cases hg:st.heap.get b with
            |none=>rw[hg]at hx;exact .inr (af6 (by simpa using hx))
            |some y=>rw[hg]at hx;simp at hx;subst hx;exact .inl ⟨rfl,h2 b (hW.live b y hg).1⟩
          refine⟨ρ',s1 _ _ _ _ _ h1,h2,s3,⟨λb x hx=> ?_,λb b' x x' hx xq z8=> ?_,λa u ha=> ?_,λa u ha o ho=> ?_⟩,⟨hE.os,hE.tape,hE.output,hE.size,λk hk _=>un k hk,λb x hx=> ?_⟩⟩
          . rcases both b x hx with⟨hg,bM⟩|⟨hg,aht⟩
            .obtain⟨l1,l2,l3⟩:=hW.live b x hg;refine⟨Zd0 l1 s3,by rw[bM];exact Zd0 l2 hE.size,?_⟩;rw[bM];exact(l3.of_heap (un _ l2)).mono h2 s3
            .obtain⟨l1,l2,l3⟩:=h4.live b x hg;exact⟨l1,l2,aht.rel l3⟩
          . rcases both b x hx with⟨hg,bM⟩|⟨hg,aht⟩
            . rcases both b' x' xq with⟨Dn,Gj⟩|⟨Dn,_⟩
              .rw[bM,Gj]at z8;exact hW.inj b b' x x' hg Dn z8
              .have q1:=(hW.live b x hg).2.1;have q2:=new b' x' Dn;rw[bM]at z8;omega
            . rcases both b' x' xq with⟨Dn,Gj⟩|⟨Dn,_⟩
              .have q1:=(hW.live b' x' Dn).2.1;have q2:=new b x hg;rw[Gj]at z8;omega
              .exact h4.inj b b' x x' hg Dn z8
          . obtain⟨c1,c2⟩:=hW.eP a u ha;have aW:a.block<w.heap.size:=World.block_lt_of_cell? _ _ c1;refine⟨(h4.eP a u c1).1,λb x hx=> ?_⟩;rcases both b x hx with⟨hg,bM⟩|⟨hg,aht⟩
            .rw[bM];exact c2 b x hg
            .have:=new b x hg;omega
          .have aW:a.block<w.heap.size:=World.block_lt_of_cell? _ _ (hW.eP a u ha).1;rw[World.cell?_of_block (w:=w) (a:=⟨a.block,o,none⟩) (un _ aW)];exact hW.whole a u ha o ho
          . rcases both b x hx with⟨hg,bM⟩|⟨hg,aht⟩
            .exact .inl ⟨b,x,hg,by rw[bM]⟩
            .exact .inr (new b x hg)
    .   cases h
  .cases h
theorem alp(H:Pos->Option AB)(n:Pos)(k k':IntKind)(a b:Int):aJ.run H n .minB [.int k a,.int k' b]=some (.val (.int k (min a b))):=by
 show some (eZ.val (.int k (match BD b a with|true=>b|false=>a)))=_;rw[fH];by_cases h:b<a
 .rw[Za0 h];simp only;rw[Int.min_eq_right (by omega)]
 .rw[Za2 h];simp only;rw[Int.min_eq_left (by omega)]
theorem atL(H:Pos->Option AB)(n:Pos)(k k':IntKind)(a b:Int):aJ.run H n .maxB [.int k a,.int k' b]=some (.val (.int k (max a b))):=by
 show some (eZ.val (.int k (match BD a b with|true=>b|false=>a)))=_;rw[fH];by_cases h:a<b
 .rw[Za0 h];simp only;rw[Int.max_eq_right (by omega)]
 .rw[Za2 h];simp only;rw[Int.max_eq_left (by omega)]
theorem atM(H:Pos->Option AB)(n:Pos)(q:gZ)(k:IntKind)(a b:Int)(hb:b≠0):aJ.run H n (.bin .quo q) [.int k a,.int k b]=some (.val (.int k (av k (a.tdiv b)))):=by
 simp[aJ.run,jH,pO,dN,nF,hb]
theorem atN(H:Pos->Option AB)(n:Pos)(q:gZ)(k:IntKind)(a b:Int)(hb:b≠0):aJ.run H n (.bin .rem q) [.int k a,.int k b]=some (.val (.int k (a.tmod b))):=by
 simp[aJ.run,jH,pO,dN,nF,hb]
section
variable{R:Type}(c:aj)(K:AV->St->Option R)(st:St)
@[simp] theorem alq(k k':IntKind)(a b:Int):aq c .minB [.int k a,.int k' b] st K=K (.int k (min a b)) st:=aY c K (λH n=>alp H n k k' a b) st
@[simp] theorem axi(k k':IntKind)(a b:Int):aq c .maxB [.int k a,.int k' b] st K=K (.int k (max a b)) st:=aY c K (λH n=>atL H n k k' a b) st
theorem atO(q:gZ)(k:IntKind)(a b:Int)(hb:b≠0):aq c (.bin .quo q) [.int k a,.int k b] st K=K (.int k (av k (a.tdiv b))) st:=aY c K (λH n=>atM H n q k a b hb) st
theorem ae1(q:gZ)(k:IntKind)(a b:Int)(hb:b≠0):aq c (.bin .rem q) [.int k a,.int k b] st K=K (.int k (a.tmod b)) st:=aY c K (λH n=>atN H n q k a b hb) st
@[simp] theorem oG(q:gZ)(k:IntKind)(a:Int):aq c (.bin .quo q) [.int k a,.int k 2] st K=K (.int k (av k (a.tdiv 2))) st:=atO c K st q k a 2 (by decide)
@[simp] theorem ig(q:gZ)(k:IntKind)(a:Int):aq c (.bin .rem q) [.int k a,.int k 2] st K=K (.int k (a.tmod 2)) st:=ae1 c K st q k a 2 (by decide)
end
def aR:AV->Option Pos
 |.slice b _ n cap _=>if cap=some 0/\n=0 then none else some b
 |_=>none
theorem tI{b b':Pos}{off n es:Nat}{cap:Option Nat}(h:aR (.slice b off n cap es)=some b'):b=b':=by
 simp only[aR]at h;split at h
 .cases h
 .exact Zi1 h
theorem qL(b:Pos)(off n es:Nat):aR (.slice b off n none es)=some b:=by simp[aR]
theorem mh(b:Pos)(off es:Nat):aR (.slice b off 0 (some 0) es)=none:=by simp[aR]
def QS(es:Nat)(s:St)(v:AV)(rows:List (List AV)):Prop:=
 (v= .af/\rows=[])\/(∃b off cap cs,v= .slice b off rows.length cap es/\s.heap.get b=some (.cells cs 0)/\off+rows.length*es<=cs.length/\(cs.drop off).take (rows.length*es)=rows.flatten/\(cap=none\/cap=some rows.length))\/
    (∃b off,v= .slice b off 0 (some 0) es/\rows=[])
theorem QS.nil{es:Nat}{s:St}:QS es s .af []:= .inl ⟨rfl,rfl⟩
theorem QS.mono{es:Nat}{s s':St}{v:AV}{rows:List (List AV)}(h:QS es s v rows)(hk:∀b x,aR v=some b->s.heap.get b=some x->s'.heap.get b=some x):QS es s' v rows:=by
 rcases h with⟨rfl,rfl⟩|⟨b,off,cap,cs,rfl,h1,h2,h3,h4⟩|⟨b,off,rfl,rfl⟩
 .exact .inl ⟨rfl,rfl⟩
 . by_cases h0:cap=some 0/\rows.length=0
   .obtain⟨rfl,h0⟩:=h0;refine .inr (.inr ⟨b,off,by rw[h0],Zc4 h0⟩)
   .exact .inr (.inl ⟨b,off,cap,cs,rfl,hk b _ (by simp only[aR];rw[Za7 h0]) h1,h2,h3,h4⟩)
 .exact .inr (.inr ⟨b,off,rfl,rfl⟩)
theorem QS.len{es:Nat}{s:St}{v:AV}{rows:List (List AV)}(h:QS es s v rows):fc v=some rows.length:=by rcases h with⟨rfl,rfl⟩|⟨b,off,cap,cs,rfl,_⟩|⟨b,off,rfl,rfl⟩<;>rfl
theorem QS.lt{es:Nat}{s:St}{v:AV}{rows:List (List AV)}(h:QS es s v rows)(hw:Wf s){b:Pos}(hb:aR v=some b):b.toNat<s.next.toNat:=by
 rcases h with⟨rfl,rfl⟩|⟨b',off,cap,cs,rfl,h1,_⟩|⟨b',off,rfl,rfl⟩
 .cases hb
 .obtain rfl:=tI hb;exact hw _ _ h1
 .rw[mh]at hb;cases hb
theorem QS.first{es:Nat}{s:St}{v:AV}{rows:List (List AV)}(h:QS es s v rows)(hr:∀r∈rows,r.length=es):dO es rows.length (λb=>s.heap.get b) v=some rows.flatten:=by
 rcases h with⟨rfl,rfl⟩|⟨b,off,cap,cs,rfl,h1,h2,h3,h4⟩|⟨b,off,rfl,rfl⟩
 .rfl
 rotate_left
 .simp[dO,dH]
 . by_cases h0:rows.length*es=0
   .simp only[dO,dH,Za0 h0];have:rows.flatten=[]:=(by rw[<-h3,h0];simp);rw[this]
   .simp only[dO,dH,Za2 h0,h1];unfold cut;rw[dG,Za0 h2];simp only;rw[h3]
theorem QS.app{R:Type}{c:aj}{es bytes:Nat}{s:St}{v:AV}{rows:List (List AV)}(hw:Wf s)(h:QS es s v rows)(hr:∀r∈rows,r.length=es){q:Pos}{row:List AV}(hq:s.heap.get q=some (.cells row 0))(gO:row.length=es)(h1:aV row=true)
   (eG:es≠0) (hb:(2*(rows.length+1)+768)*bytes<=281474976710656) (hn:rows.length<=4000000):
   ∃ s5,(∀(K:AV->St->Option R),aq c (.append es bytes) [v,.slice q 0 1 (some 1) es] s K=K (.slice s.next 0 (rows.length+1) none es) s5)/\QS es s5 (.slice s.next 0 (rows.length+1) none es) (rows++[row])/\
     Wf s5/\s5.next=s.next.succ/\(∀p,aR v≠some p->p.toNat<s.next.toNat->s5.heap.get p=s.heap.get p)/\s5.heap.get s.next=some (.cells (rows.flatten++row) 0):=by
 have hx:dO es 1 (λb=>s.heap.get b) (.slice q 0 1 (some 1) es)=some row:=by simp only[dO,dH,Zp7,Za2 eG,hq];exact cQ gO
 have ho:=h.first hr;have hlen:rows.flatten.length=rows.length*es:=by
   clear h ho hn hb;induction rows with
   |nil=>simp
   | cons r rows ih=>
     have:=ih (λx hx=>hr x (Zb0 _ hx));have h2:=hr r (by simp);simp only[Zf7,Zd9,Zc7,Zh0];omega
 have new:∀(s5:St),s5.heap.get s.next=some (.cells (rows.flatten++row) 0)->QS es s5 (.slice s.next 0 (rows.length+1) none es) (rows++[row]):=λs5 hs=>by
   refine .inr (.inl ⟨s.next,0,none,rows.flatten++row,by simp,hs,?_,?_,.inl rfl⟩)
   .simp only[Zd9,Zc7,Zi2,Zb1,Zj6,Zp7,hlen,gO];omega
   .simp only[Ze3,List.flatten_append,Zf7,List.flatten_nil,Zd7];refine Zg0 ?_;simp only[Zd9,Zc7,Zi2,Zb1,Zj6,Zp7,hlen,gO];omega
 have yl:(2*(rows.length+1)+768)*bytes<=281474976710656:=hb;have uy:rows.length+1<=9223372036854775807:=by omega
 rcases h with⟨rfl,rfl⟩|⟨b,off,cap,cs,rfl,g1,g2,g3,g4⟩|⟨b,off,rfl,rfl⟩
 rotate_right
 . have run:aJ.run (λb=>s.heap.get b) s.next (.append es bytes) [.slice b off 0 (some 0) es,.slice q 0 1 (some 1) es]=some (.br (.slice s.next 0 (0+1) none es) none none (some (.cells ([]++row) 0))):=(by have h2:¬(0+1<=0):=(by omega);have My:dO es 0 (λb=>s.heap.get b) (.slice b off 0 (some 0) es)=some []:=(by simp[dO,dH]);simp only[aJ.run,lV];rw[show fc (.slice b off 0 (some 0) es)=some 0 from rfl,show fc (.slice q 0 1 (some 1) es)=some 1 from rfl];have hb3:(2*(0+1)+768)*bytes<=281474976710656:=(by simpa using hb);simp only[dG,dH,Za0 hb3,Za2 h2,hx,My];simp);refine⟨ah s (.cells row 0),λK=> ?_,?_,bP hw,rfl,λp _ hp=>xH hp,by simpa using aB s (.cells row 0)⟩
   .unfold aq cW;simp only[Zi2]at run ⊢; rw[run];rfl
   .simpa using new (ah s (.cells row 0)) (by simpa using aB s (.cells row 0))
 .refine⟨ah s (.cells row 0),λK=>air c K (m:=1) rfl (by omega) (by simpa using hb) (by omega) hx,?_,bP hw,rfl,λp _ hp=>xH hp,by simpa using aB s (.cells row 0)⟩;simpa using new (ah s (.cells row 0)) (by simpa using aB s (.cells row 0))
 . rcases g4 with rfl|rfl
   .have run:aJ.run (λb=>s.heap.get b) s.next (.append es bytes) [.slice b off rows.length none es,.slice q 0 1 (some 1) es]=some (.br (.slice s.next 0 (rows.length+1) none es) (some b) none (some (.cells (rows.flatten++row) (0 - off)))):=(by simp only[aJ.run,lV];rw[show fc (.slice b off rows.length none es)=some rows.length from rfl,show fc (.slice q 0 1 (some 1) es)=some 1 from rfl];simp only[dG,dH,Za0 yl,Za0 uy,hx,g1,ho,h1];simp);refine⟨dst s b (.cells (rows.flatten++row) 0),λK=> ?_,new _ (aeZ _ _ _),aou hw,rfl,λp hp hl=>adF (λe=>hp (by rw[e,qL])) hl,aeZ _ _ _⟩;unfold aq cW;rw[run];simp only[Nat.zero_sub];rfl
   . have h2:¬(rows.length+1<=rows.length):=(by omega);have run:aJ.run (λb=>s.heap.get b) s.next (.append es bytes) [.slice b off rows.length (some rows.length) es,.slice q 0 1 (some 1) es]=some (.br (.slice s.next 0 (rows.length+1) none es) none none (some (.cells (rows.flatten++row) 0))):=by
        simp only[aJ.run,lV];rw[show fc (.slice b off rows.length (some rows.length) es)=some rows.length from rfl,show fc (.slice q 0 1 (some 1) es)=some 1 from rfl];simp only[dG,dH,Za0 yl,Za0 uy,Za2 h2,hx,ho]
     refine⟨ah s (.cells (rows.flatten++row) 0),λK=> ?_,new _ (aB _ _),bP hw,rfl,λp _ hp=>xH hp,aB _ _⟩;unfold aq cW;rw[run];rfl
theorem Gr{R:Type}{c:aj}{es:Nat}{z:List AV}{x:AV}(hz:z.length=es)(hx:x.cells.length=es)(s:St)(K:AV->St->Option R):
  aq c (.buildSlice es 1 z [0]) [x] s K=K (.slice s.next 0 1 (some 1) es) (ah s (.cells x.cells 0)):=by
 have:cS (cg z 1) ([0].map λi=>(i*es,es)) [x]=some x.cells:=by
  simp only[Zd1,Zg9,Zo1,cg,Zd7,cS,dH,dG,hx,Zf6,Zb1,hz,Za5];simp only[bf,Zo2,Ze2,Zb1];rw[Zo3 (by omega),Zd7]
 rw[ax,this];rfl
structure Mk(es:Nat)(s0 s:St)(v:AV)(rows:List (List AV)):Prop where
 jW:Wf s0
 ai:Grew s0 s
 own:QS es s v rows
 new:∀b,aR v=some b->s0.next.toNat<=b.toNat
 row:∀r∈rows,r.length=es
 cap:∀b off n cp e,v= .slice b off n cp e->cp=none\/(n=0/\cp=some 0)
 tight:∀b,aR v=some b->s.heap.get b=some (.cells rows.flatten 0)
theorem Mk.start{es:Nat}{s0 s:St}(h0:Wf s0)(hg:Grew s0 s):Mk es s0 s .af []:=⟨h0,hg,QS.nil,λb h=>(by cases h),λr h=>(by cases h),λb off n cp e h=>(by cases h),λb h=>(by cases h)⟩
theorem Mk.grow{es:Nat}{s0 s s':St}{v:AV}{rows:List (List AV)}(h:Mk es s0 s v rows)(hg:Grew s s'):Mk es s0 s' v rows:=
 ⟨h.jW,h.ai.trans hg,h.own.mono λb x _ hx=>hg.get hx,h.new,h.row,h.cap,λb hb=>hg.get (h.tight b hb)⟩
theorem Mk.push{R:Type}{c:aj}{es bytes:Nat}{s0 s:St}{v:AV}{rows:List (List AV)}(h:Mk es s0 s v rows){z:List AV}{x:AV}(hz:z.length=es)(hx:x.cells.length=es)(h1:aV x.cells=true)(eG:es≠0)
   (hb:(2*(rows.length+1)+768)*bytes<=281474976710656) (hn:rows.length<=4000000):
   ∃ s5 v',(∀(K:AV->St->Option R),aq c (.buildSlice es 1 z [0]) [x] s (λy t=>aq c (.append es bytes) [v,y] t K)=K v' s5)/\Mk es s0 s5 v' (rows++[x.cells])/\
     (∀p b,aR v≠some p->s.heap.get p=some b->s5.heap.get p=some b)/\∀b,aR v'=some b->s.next.toNat<=b.toNat:=by
 have hw:=h.ai.wf;have dm:Wf (ah s (.cells x.cells 0)):=bP hw;have g1:=Grew.ah hw (.cells x.cells 0);obtain⟨s5,a1,a2,a3,a4,a5,a6⟩:=QS.app (R:=R) (c:=c) (bytes:=bytes) dm (h.own.mono λb x _ hx=>g1.get hx) h.row (aB s (.cells x.cells 0)) hx h1 eG hb hn;have keep:∀p b,aR v≠some p->s.heap.get p=some b->s5.heap.get p=some b:=λp b hp hg=>by have aW:=hw _ _ hg;rw[a5 p hp (by rw[bX,Pos.aH];omega)];exact g1.get hg
 refine⟨s5,_,λK=> ?_,⟨h.jW,⟨a3,λp b hg=> ?_,?_⟩,a2,λb hb=> ?_,λr hr=> ?_,λb off n cp e he=> ?_,λb hb=> ?_⟩,keep,λb hb=> ?_⟩
 .rw[Gr hz hx,a1]
 .have Ab:=h.ai.get hg;refine keep p b (λe=> ?_) Ab;have:=h.new p e;have:=h.jW p b hg;omega
 .have:=h.ai.next;rw[a4,bX,Pos.aH,Pos.aH];omega
 .rw[qL]at hb;cases hb;have:=h.ai.next;rw[bX,Pos.aH];omega
 . rcases Ze0.1 hr with hr|hr
   .exact h.row r hr
   .simp at hr;subst hr;exact hx
 .cases he;exact .inl rfl
 .rw[qL]at hb;cases hb;rw[a6];simp
 .rw[qL]at hb;cases hb;rw[bX,Pos.aH];omega
theorem DD{b:Pos}{off n es:Nat}(h:Plain (.slice b off n none es)):False:=by
 have h1:aG (λ_=>⟨0,0,off+n*es⟩) (b.toNat+1) (λ_=>none) (.slice b off n none es) (.slice (some ⟨0,0+off,none⟩) n n):=
  .slice b off n none es n _ (Za5 _) (λc hc=>by cases hc) (λ_=>⟨by omega,rfl,by simp⟩) (λ_=>by omega)
 have h2:=h _ (λ_=>⟨0,0,0⟩) _ 0 _ _ h1;cases h2 with
 |slice _ _ _ _ _ _ _ _ _ _ hk=>exact absurd (hk rfl) (by omega)
theorem Mk.tidy{es:Nat}{s s':St}{v:AV}{rows:List (List AV)}(h:Mk es s s' v rows):∃fD,Go.Ai.tidy s (v,s')=(v,fD)/\Mk es s fD v rows:=by
 unfold Go.Ai.tidy;by_cases hp:Plain (v,s').1/\aZ s (v,s').2
 . rw[Zb4 hp];refine⟨s,rfl,?_⟩;rcases h.own with⟨rfl,rfl⟩|⟨b,off,cap,cs,rfl,_⟩|⟨b,off,rfl,rfl⟩
   .exact Mk.start h.jW (Grew.refl h.jW)
   . rcases h.cap _ _ _ _ _ rfl with rfl|⟨h0,rfl⟩
     .exact(DD hp.1).elim
     .exact⟨h.jW,Grew.refl h.jW,.inr (.inr ⟨b,off,by rw[h0],Zc4 h0⟩),λb hb=>(by rw[h0,mh]at hb;cases hb),h.row,h.cap,λb hb=>(by rw[h0,mh]at hb;cases hb)⟩
   .exact⟨h.jW,Grew.refl h.jW,.inr (.inr ⟨b,off,rfl,rfl⟩),λb hb=>(by rw[mh]at hb;cases hb),h.row,h.cap,λb hb=>(by rw[mh]at hb;cases hb)⟩
 .rw[Za7 hp];exact⟨s',rfl,h⟩
theorem QS.fE{es d:Nat}{s:St}{v:AV}{rows:List (List AV)}(h:QS es s v rows)(hr:∀r∈rows,r.length=es):
   ∃z,Go.Ai.fE s (d+1) v=ro es z (rows.map λr=>r.map (Go.Ai.fE s d)):=by
 rcases h with⟨rfl,rfl⟩|⟨b,off,cap,cs,rfl,h1,h2,h3,h4⟩|⟨b,off,rfl,rfl⟩
 .exact⟨true,rfl⟩
 rotate_left
 .exact⟨false,rfl⟩
 . refine⟨false,?_⟩;by_cases h0:rows.length=0
   .obtain rfl:=Zc4 h0;rfl
   rw[af5,Za2 h0];simp only;rw[h1];simp only[Za0 h2];show AV.fl _ _=AV.fl _ _;congr 1;(refine List.ext_getElem (by simp) λi p1 p2=> ?_);simp only[Za3,Zr0]at p1;simp only[Zm7,List.getElem_range];congr 1;have key:∀(rows:List (List AV))(i:Nat)(hi:i<rows.length),(∀r∈rows,r.length=es)->((rows.flatten).drop (i*es)).take es=rows[i]:=by
     intro rows;induction rows with
     |nil=>intro i hi;simp at hi
     |  cons r rows ih=>
        intro i hi hr;have hl:=hr r (by simp);cases i with
        |zero=>simp[<-hl]
        |succ i=>
         have:=ih i (by simpa using hi) (λx hx=>hr x (Zb0 _ hx));rw[Zf7,Zh0,Zr5, <-hl,List.drop_append];simp only[Zo4];rw[<-this,hl];simp[List.drop_eq_nil_of_le (show r.length<=es+i*es by omega)]
   rw[<-key rows i p1 hr, <-h3];rw[Zn8,List.take_take,Zl0];congr 1;have:(i+1)*es<=rows.length*es:=Zh5 _ p1;rw[Zh0]at this;omega
section
variable{R:Type}(c:aj)(K:AV->St->Option R)(st:St)
theorem je{b:Pos}{off len es es':Nat}{cap:Option Nat}{k:IntKind}{i:Nat}(h:i<len):aq c (.idxA es none) [.slice b off len cap es',.int k (i:Int)] st K=K (.ptr b (off+i*es)) st:=
 aY c K (λH n=>by
  simp only[aJ.run,sU,jK];have:Nat.blt i len=true:=by rw[Zr7];exact h
  rw[this]) st
theorem lK(b:Pos)(off len es:Nat)(cap:Option Nat):aq c (.lenB .l) [.slice b off len cap es] st K=K (.int .i64 (len:Int)) st:=aY c K (λH n=>rfl) st
theorem aoA{b:Pos}{off len es:Nat}{cap:Option Nat}(h:1<=len)(hc:∀x,cap=some x->len<=x):
  aq c (.sliceL es true false false) [.slice b off len cap es,.int .i64 1] st K=K (.slice b (off+1*es) (len - 1) (cap.map (· - 1)) es) st:=
 aY c K (λH n=>by
  have hb:bounds true false false [.int .i64 1]=some (some 1,none,none):=rfl;simp only[aJ.run,iD,hb,dH,dG,Zf6,Ze6,Zi3,Za0 h];cases cap with
  |none=>simp
  |some x=>simp[hc x rfl]) st
theorem ae2{es bytes:Nat}{z:List AV}{k k':IntKind}{n:Nat}(h1:bytes*n<=281474976710656)(h2:n<=9223372036854775807):
  aq c (.mkSlice es bytes z) [.int k (n:Int),.int k' (n:Int)] st K=K (.slice st.next 0 n (some n) es) (ah st (.cells (cg z n) 0)):=by
 have:aJ.run (λb=>st.heap.get b) st.next (.mkSlice es bytes z) [.int k (n:Int),.int k' (n:Int)]=some (.br (.slice st.next 0 n (some n) es) none none (some (.cells (cg z n) 0))):=by
  simp only[aJ.run,Dh,jK,dG,Za0 h1,Za0 h2,Za5,Zf6]
 unfold aq cW;rw[this];rfl
end
theorem DE{α:Type}(x:α):∀n:Nat,cg [x] n=List.replicate n x
 |0=>rfl
 |n+1=>by simp[cg,DE x n,Zm9]
theorem yU{rows:List (List AV)}{es:Nat}(hr:∀r∈rows,r.length=es):∀(i j:Nat)(r:List AV)(u:AV),rows[i]? =some r->r[j]? =some u->rows.flatten[i*es+j]? =some u:=by
 induction rows with
 |nil=>intro i j r u h;simp at h
 |cons r0 rows ih=>
  intro i j r u h1 h2;have hl:=hr r0 (by simp);cases i with
  |zero=>
   simp at h1;subst h1;have:=(Za1.1 h2).1;rw[Zf7,Zo1,Zb1,Zc3 this];exact h2
  |succ i=>
   rw[Zf7,Zc1 (by rw[Zh0];omega)];rw[show(i+1)*es+j - r0.length=i*es+j by rw[Zh0];omega];exact ih (λx hx=>hr x (Zb0 _ hx)) i j r u (by simpa using h1) h2
theorem QS.at{R:Type}{c:aj}{es:Nat}{s:St}{v:AV}{rows:List (List AV)}(h:QS es s v rows)(hr:∀r∈rows,r.length=es)(eG:es≠0){i:Nat}(hi:i<rows.length):
   ∃b o cs,(∀(K:AV->St->Option R)(k:IntKind)(s1:St),aq c (.idxA es none) [v,.int k (i:Int)] s1 K=K (.ptr b o) s1)/\aR v=some b/\s.heap.get b=some (.cells cs 0)/\∀j u,rows[i][j]? =some u->cs[o+j]? =some u:=by
 rcases h with⟨rfl,rfl⟩|⟨b,off,cap,cs,rfl,g1,g2,g3,g4⟩|⟨b,off,rfl,rfl⟩
 .simp at hi
 rotate_left
 .simp at hi
 . refine⟨b,off+i*es,cs,λK k s1=>je c K s1 hi,by simp only[aR];rw[Za7 (by omega)],g1,λj u hj=> ?_⟩;have hri:=hr rows[i] (Zb8 hi);have hj2:j<es:=(by rw[<-hri];exact(Za1.1 hj).1);have:=yU hr i j rows[i] u (H0 hi) hj;rw[<-g3,Ze1]at this;split at this
   .rw[Ze4]at this;rw[<-this];congr 1;omega
   .cases this
theorem QS.tail{R:Type}{c:aj}{es:Nat}{s:St}{v:AV}{r:List AV}{rows:List (List AV)}(h:QS es s v (r::rows))(hr:r.length=es):
   ∃v',(∀(K:AV->St->Option R)(s1:St),aq c (.sliceL es true false false) [v,.int .i64 1] s1 K=K v' s1)/\QS es s v' rows/\∀b,aR v'=some b->aR v=some b:=by
 rcases h with⟨rfl,h⟩|⟨b,off,cap,cs,rfl,g1,g2,g3,g4⟩|⟨b,off,rfl,h⟩
 .cases h
 rotate_left
 .cases h
 . refine⟨.slice b (off+1*es) rows.length (cap.map (· - 1)) es,λK s1=> ?_,.inr (.inl ⟨b,off+1*es,cap.map (· - 1),cs,rfl,g1,?_,?_,?_⟩),λb' hb=>by
     obtain rfl:=tI hb;simp only[aR,Zc7];rw[Za7 (by omega)]⟩
   .rw[aoA c K s1 (by simp) (λx hx=>by rcases g4 with rfl|rfl<;>cases hx;exact Za5 _)];simp
   .simp only[Zc7,Zh0]at g2;omega
   . have:((cs.drop off).take ((r::rows).length*es)).drop es=rows.flatten:=(by rw[g3,Zf7, <-hr];simp);rw[<-this,Zn8,Zl0];congr 1
     .simp only[Zc7,Zh0];omega
     .congr 1;omega
   . rcases g4 with rfl|rfl
     .exact .inl rfl
     .right;simp
theorem QS.atc{R:Type}{c:aj}{es bytes:Nat}{s:St}{v:AV}{rows:List (List AV)}(hw:Wf s)(h:QS es s v rows)(hr:∀r∈rows,r.length=es){z:List AV}{x:AV}(hz:z.length=es)(hx:x.cells.length=es)(h1:aV x.cells=true)(eG:es≠0)
   (hb:(2*(rows.length+1)+768)*bytes<=281474976710656) (hn:rows.length<=4000000):
   ∃s5 v',(∀(K:AV->St->Option R),aq c (.buildSlice es 1 z [0]) [x] s (λy t=>aq c (.append es bytes) [v,y] t K)=K v' s5)/\QS es s5 v' (rows++[x.cells])/\Wf s5/\s.next.toNat<=s5.next.toNat/\
    (∀p b,aR v≠some p->s.heap.get p=some b->s5.heap.get p=some b)/\(∀b,aR v'=some b->s.next.toNat<=b.toNat)/\∀b,aR v'=some b->s5.heap.get b=some (.cells (rows.flatten++x.cells) 0):=by
 have dm:Wf (ah s (.cells x.cells 0)):=bP hw;have g1:=Grew.ah hw (.cells x.cells 0);obtain⟨s5,a1,a2,a3,a4,a5,a6⟩:=QS.app (R:=R) (c:=c) (bytes:=bytes) dm (h.mono λb x _ hx=>g1.get hx) hr (aB s (.cells x.cells 0)) hx h1 eG hb hn;refine⟨s5,_,λK=>by rw[Gr hz hx,a1],a2,a3,by rw[a4,bX,Pos.aH,Pos.aH];omega,λp b hp hg=> ?_,λb hb=> ?_,λb hb=> ?_⟩
 .have aW:=hw _ _ hg;rw[a5 p hp (by rw[bX,Pos.aH];omega)];exact g1.get hg
 .rw[qL]at hb;cases hb;rw[bX,Pos.aH];omega
 .rw[qL]at hb;cases hb;exact a6
theorem QS.push{R:Type}{c:aj}{es bytes:Nat}{s:St}{v:AV}{rows:List (List AV)}(hw:Wf s)(h:QS es s v rows)(hr:∀r∈rows,r.length=es){z:List AV}{x:AV}(hz:z.length=es)(hx:x.cells.length=es)(h1:aV x.cells=true)(eG:es≠0)
  (hb:(2*(rows.length+1)+768)*bytes<=281474976710656) (hn:rows.length<=4000000):
  ∃s5 v',(∀(K:AV->St->Option R),aq c (.buildSlice es 1 z [0]) [x] s (λy t=>aq c (.append es bytes) [v,y] t K)=K v' s5)/\QS es s5 v' (rows++[x.cells])/\Wf s5/\s.next.toNat<=s5.next.toNat/\
   (∀p b,aR v≠some p->s.heap.get p=some b->s5.heap.get p=some b)/\∀b,aR v'=some b->s.next.toNat<=b.toNat:=by
 obtain⟨s5,v',a1,a2,a3,a4,a5,a6,_⟩:=QS.atc (R:=R) (c:=c) (bytes:=bytes) hw h hr hz hx h1 eG hb hn;exact⟨s5,v',a1,a2,a3,a4,a5,a6⟩
theorem QS.lenB{R:Type}{c:aj}{es:Nat}{s:St}{v:AV}{rows:List (List AV)}(h:QS es s v rows)(K:AV->St->Option R)(s1:St):aq c (.lenB .l) [v] s1 K=K (.int .i64 (rows.length:Int)) s1:=by
 rcases h with⟨rfl,rfl⟩|⟨b,off,cap,cs,rfl,_⟩|⟨b,off,rfl,rfl⟩
 .exact aY c K (λH n=>rfl) s1
 .exact lK c K s1 _ _ _ _ _
 .exact lK c K s1 _ _ _ _ _
def dV(v:AV):Prop:=∃N0 K0:Nat,∀N K:Nat,N0<=N->K0<=K->∃x,aG (λ_=>⟨0,0,K⟩) N (λ_=>none) v x
theorem dV.int(k:IntKind)(i:Int):dV (.int k i):=⟨0,0,λ_ _ _ _=>⟨_,.int k i⟩⟩
theorem dV.bool(b:Bool):dV (.bool b):=⟨0,0,λ_ _ _ _=>⟨_,.bool b⟩⟩
theorem dV.af:dV .af:=⟨0,0,λ_ _ _ _=>⟨_,.af⟩⟩
theorem dV.str{s:List Nat}(h:∀x∈s,x<256):dV (.str s):=⟨0,0,λ_ _ _ _=>⟨.string ⟨(s.map UInt8.ofNat).toArray⟩,.str s _ (by
 show(s.map UInt8.ofNat).toArray.toList.map UInt8.toNat=s;simp only[Zg3]
 conv=>rhs;rw[<-Zs5 s]
 refine Zi5 λc hc=> ?_
 have:=h c hc;simp[UInt8.toNat_ofNat];omega)⟩⟩
theorem dV.slice(b:Pos)(off n es:Nat):dV (.slice b off n none es):=⟨b.toNat+1,off+n*es,λN K hN hK=>⟨.slice (some ⟨0,0+off,none⟩) n n,
 .slice b off n none es n _ (Za5 _) (λc hc=>by cases hc) (λ_=>⟨by omega,rfl,by simpa using hK⟩) (λ_=>by omega)⟩⟩
theorem dV.zero(b:Pos)(off es:Nat):dV (.slice b off 0 (some 0) es):=⟨0,0,λN K _ _=>⟨.slice (some ⟨0,0,none⟩) 0 0,
 .slice b off 0 (some 0) es 0 _ (Za5 _) (λc hc=>by cases hc;rfl) (λh=>absurd rfl h) (λh=>by cases h)⟩⟩
theorem inst_list:∀{l:List AV},(∀v∈l,dV v)->∃N0 K0:Nat,∀N K:Nat,N0<=N->K0<=K->∃xs,aN (λ_=>⟨0,0,K⟩) N (λ_=>none) l xs
 |[],_=>⟨0,0,λ_ _ _ _=>⟨[],aN.nil⟩⟩
 |v::l,h=>by
  obtain⟨N1,K1,h1⟩:=h v (by simp);obtain⟨N2,K2,h2⟩:=inst_list (λu hu=>h u (Zb0 _ hu));refine⟨max N1 N2,max K1 K2,λN K hN hK=> ?_⟩;obtain⟨x,hx⟩:=h1 N K (by omega) (by omega);obtain⟨xs,su⟩:=h2 N K (by omega) (by omega);exact⟨x::xs,aN.cons hx su⟩
theorem gh{l:List AV}(hi:∀v∈l,dV v){b:Pos}{off n es:Nat}(hm:AV.slice b off n none es∈l):¬Plain (.agg l):=λh=>by
 obtain⟨N0,K0,h1⟩:=inst_list hi;obtain⟨xs,hx⟩:=h1 N0 K0 (Za5 _) (Za5 _);have h2:aG (λ_=>⟨0,0,K0⟩) N0 (λ_=>none) (.agg l) (.agg xs.toArray):= .agg l _ (by rw[hx.1];simp) λi v x hv xq=>hx.2 i v x hv (by simpa using xq)
 have h3:=h _ (λ_=>⟨0,0,0⟩) _ 0 _ _ h2;obtain⟨i,aW,hi⟩:=Zg6.1 hm;cases h3 with
 |agg _ _ hl hc=>
  have arc:i<xs.toArray.size:=by rw[<-hl];exact aW
  obtain⟨y,hy⟩:∃y,xs.toArray[i]? =some y:=⟨_,Zh2 arc⟩
  have:=hc i _ y (by rw[H0 aW,hi]) hy;cases this with
  |slice _ _ _ _ _ _ _ _ _ _ hk=>exact absurd (hk rfl) (by omega)
theorem Mk.inst{es:Nat}{s s':St}{v:AV}{rows:List (List AV)}(h:Mk es s s' v rows):dV v:=by
 rcases h.own with⟨rfl,rfl⟩|⟨b,off,cap,cs,rfl,_⟩|⟨b,off,rfl,rfl⟩
 .exact dV.af
 . rcases h.cap _ _ _ _ _ rfl with rfl|⟨h0,rfl⟩
   .exact dV.slice _ _ _ _
   .rw[h0];exact dV.zero _ _ _
 .exact dV.zero _ _ _
theorem Mk.loose{es:Nat}{s s':St}{v:AV}{rows:List (List AV)}(h:Mk es s s' v rows):(∃b off n,v= .slice b off n none es)\/((∀t,Wf t->Mk es t t v rows)/\rows=[]):=by
 rcases h.own with⟨rfl,rfl⟩|⟨b,off,cap,cs,rfl,_⟩|⟨b,off,rfl,rfl⟩
 .exact .inr ⟨λt ht=>Mk.start ht (Grew.refl ht),rfl⟩
 . rcases h.cap _ _ _ _ _ rfl with rfl|⟨h0,rfl⟩
   .exact .inl ⟨_,_,_,rfl⟩
   .exact .inr ⟨λt ht=>⟨ht,Grew.refl ht,.inr (.inr ⟨b,off,by rw[h0],Zc4 h0⟩),λb hb=>(by rw[h0,mh]at hb;cases hb),h.row,h.cap,λb hb=>(by rw[h0,mh]at hb;cases hb)⟩,Zc4 h0⟩
 .exact .inr ⟨λt ht=>⟨ht,Grew.refl ht,.inr (.inr ⟨b,off,rfl,rfl⟩),λb hb=>(by rw[mh]at hb;cases hb),h.row,h.cap,λb hb=>(by rw[mh]at hb;cases hb)⟩,rfl⟩
theorem Mk.Tu{es:Nat}{s s':St}{v:AV}{rows:List (List AV)}(h:Mk es s s' v rows){l:List AV}(hm:v∈l)(hi:∀u∈l,dV u):∃fD,Go.Ai.tidy s (.agg l,s')=(.agg l,fD)/\(fD=s'\/fD=s)/\Mk es s fD v rows:=by
 unfold Go.Ai.tidy;by_cases hp:Plain (AV.agg l,s').1/\aZ s (AV.agg l,s').2
 . rw[Zb4 hp];refine⟨s,rfl,.inr rfl,?_⟩;rcases h.loose with⟨b,off,n,rfl⟩|⟨hl,_⟩
   .exact absurd hp.1 (gh hi hm)
   .exact hl s h.jW
 .rw[Za7 hp];exact⟨s',rfl,.inl rfl,h⟩
theorem Mk.cells{es:Nat}{s s':St}{v:AV}{rows:List (List AV)}(h:Mk es s s' v rows):v.cells=[v]/\aV [v]=true:=by
 rcases h.own with⟨rfl,rfl⟩|⟨b,off,cap,cs,rfl,_⟩|⟨b,off,rfl,rfl⟩<;>exact⟨rfl,rfl⟩
theorem Mk.store{es:Nat}{s s':St}{v:AV}{rows:List (List AV)}(h:Mk es s s' v rows){p:Pos}{b:AB}(hp:s.next.toNat<=p.toNat)(HJ:p.toNat<s'.next.toNat)(dP:aR v≠some p):Mk es s (bn s' p b) v rows:=
 ⟨h.jW,⟨kq h.ai.wf HJ,λq x hq=>by have:=h.jW _ _ hq;rw[aM (λe=>by rw[e]at hp;omega)];exact h.ai.get hq,by rw[dS];exact h.ai.next⟩,
  h.own.mono λq x hq hx=>by rw[aM (λe=>dP (by rw[hq,e]))];exact hx,h.new,h.row,h.cap,λb hb=>by rw[aM (λe=>dP (by rw[hb,e]))];exact h.tight b hb⟩
theorem Mk.back{es:Nat}{s0 s s':St}{v:AV}{rows:List (List AV)}(h:Mk es s s' v rows)(h0:Wf s0)(hg:Grew s0 s):Mk es s0 s' v rows:=
 ⟨h0,hg.trans h.ai,h.own,λb hb=>Zb2 hg.next (h.new b hb),h.row,h.cap,h.tight⟩
theorem zP{α:Type}(l:List α)(i:Nat)(h:i<l.length)(u:α):bf l i [u]=l.set i u:=by unfold bf;rw[Zn6,Zb4 h];simp
theorem PG{es:Nat}:∀(rows:List (List AV)),(∀r∈rows,r.length=es)->∀(i j:Nat)(hi:i<rows.length),j<es->∀u,rows.flatten.set (i*es+j) u=(rows.set i (rows[i].set j u)).flatten
 |[],_,i,j,hi,_,_=>by simp at hi
 |r::rows,hr,i,j,hi,hj,u=>by
  have hl:=hr r (by simp);cases i with
  |zero=>
   simp only[Zo1,Zb1,Zf7,Zq6,List.getElem_cons_zero];rw[List.set_append_left _ _ (by omega)]
  |succ i=>
   simp only[Zf7,List.set_cons_succ,Zo4];rw[Zk1 _ _ (by rw[Zh0];omega)];rw[show(i+1)*es+j - r.length=i*es+j by rw[Zh0];omega];rw[PG rows (λx hx=>hr x (Zb0 _ hx)) i j (by simpa using hi) hj u]
theorem QS.set{R:Type}{c:aj}{es:Nat}{s:St}{v:AV}{rows:List (List AV)}(h:QS es s v rows)(hr:∀r∈rows,r.length=es)(eG:es≠0){i:Nat}(hi:i<rows.length):
   ∃ b o cs,(∀(K:AV->St->Option R)(k:IntKind)(s1:St),aq c (.idxA es none) [v,.int k (i:Int)] s1 K=K (.ptr b o) s1)/\(∀(K:AV->Option R)(k:IntKind),fq (.idxA es none) [v,.int k (i:Int)] K=K (.ptr b o))/\aR v=some b/\s.heap.get b=some (.cells cs 0)/\o+es<=cs.length/\(∀j u,rows[i][j]? =some u->cs[o+j]? =some u)/\
     (∀j u (s':St),j<es->s'.heap.get b=some (.cells (bf cs (o+j) [u]) 0)->QS es s' v (rows.set i (rows[i].set j u)))/\
     ∀j u,j<es->cs=rows.flatten->bf cs (o+j) [u]=(rows.set i (rows[i].set j u)).flatten:=by
 rcases h with⟨rfl,rfl⟩|⟨b,off,cap,cs,rfl,g1,g2,g3,g4⟩|⟨b,off,rfl,rfl⟩
 .simp at hi
 rotate_left
 .simp at hi
 have hri:=hr rows[i] (Zb8 hi);have hm:(i+1)*es<=rows.length*es:=Zh5 _ hi;rw[Zh0]at hm;have hx:∀(k:IntKind)(H:Pos->Option AB)(n:Pos),aJ.run H n (.idxA es none) [.slice b off rows.length cap es,.int k (i:Int)]=some (.val (.ptr b (off+i*es))):=λk H n=>by
   simp only[aJ.run,sU,jK];have:Nat.blt i rows.length=true:=(by rw[Zr7];exact hi);rw[this]
 refine⟨b,off+i*es,cs,λK k s1=>je c K s1 hi,λK k=>dw K (hx k),by simp only[aR];rw[Za7 (by omega)],g1,by omega,λj u hj=> ?_,λj u s' hj hs=> ?_,λj u hj he=> ?_⟩
 . have hj2:j<es:=(by rw[<-hri];exact(Za1.1 hj).1);have:=yU hr i j rows[i] u (H0 hi) hj;rw[<-g3,Ze1]at this;split at this
   .rw[Ze4]at this;rw[<-this];congr 1;omega
   .cases this
 .rw[zP _ _ (by omega)]at hs;refine .inr (.inl ⟨b,off,cap,_,by simp,hs,by simpa using g2,?_,by simpa using g4⟩);rw[Zl9, <-PG rows hr i j hi hj u, <-g3,List.drop_set,Za7 (by omega),List.take_set];congr 1;omega
 . have hlen:rows.flatten.length=rows.length*es:=by
     clear g2 g3 g4 hi hri hm hx g1 he;induction rows with
     |nil=>simp
     |  cons r rows ih=>
        have:=ih (λx hx=>hr x (Zb0 _ hx));have h2:=hr r (by simp);simp only[Zf7,Zd9,Zc7,Zh0];omega
   have h0:off=0:=(by rw[he,hlen]at g2;omega);subst h0;rw[zP _ _ (by omega),he, <-PG rows hr i j hi hj u];congr 1;omega
def Src(es:Nat)(s:St)(v:AV)(rows:List (List AV)):Prop:=v= .fl rows es\/QS es s v rows
theorem Src.len{es:Nat}{s:St}{v:AV}{rows:List (List AV)}(h:Src es s v rows):fc v=some rows.length:=by
 rcases h with rfl|h
 .rfl
 .exact h.len
theorem Src.mono{es:Nat}{s s':St}{v:AV}{rows:List (List AV)}(h:Src es s v rows)(hk:∀b x,aR v=some b->s.heap.get b=some x->s'.heap.get b=some x):Src es s' v rows:=h.imp id λh=>h.mono hk
theorem Src.ai{es:Nat}{s s':St}{v:AV}{rows:List (List AV)}(h:Src es s v rows)(hg:Grew s s'):Src es s' v rows:=h.mono λ_ _ _ hx=>hg.get hx
theorem Src.first{es:Nat}{s:St}{v:AV}{rows:List (List AV)}(h:Src es s v rows)(hr:∀r∈rows,r.length=es):dO es rows.length (λb=>s.heap.get b) v=some rows.flatten:=by
 rcases h with rfl|h
 .simp only[dO,dH,dG,Zf6,Za5,Zg1]
 .exact h.first hr
theorem Src.nil{es:Nat}{s:St}{v:AV}{rows:List (List AV)}(h:Src es s v rows):(v= .af/\rows=[])\/∀{R:Type}(c:aj)(K:AV->St->Option R)(t:St),aq c (.bin .eql .slice) [v,.af] t K=K (.bool false) t:=by
 rcases h with rfl|⟨rfl,rfl⟩|⟨b,off,cap,cs,rfl,_⟩|⟨b,off,rfl,rfl⟩
 .exact .inr λc K t=>aY c K (λH n=>rfl) t
 .exact .inl ⟨rfl,rfl⟩
 .exact .inr λc K t=>aY c K (λH n=>rfl) t
 .exact .inr λc K t=>aY c K (λH n=>rfl) t
theorem Src.ro{es:Nat}{s:St}(z:Bool)(rows:List (List AV)):Src es s (ro es z rows) rows:=by
 unfold Go.Ai.ro;split
 .exact .inr (.inl ⟨rfl,rfl⟩)
 .exact .inl rfl
theorem af7{es:Nat}:∀{rows:List (List AV)},(∀r∈rows,r.length=es)->rows.flatten.length=rows.length*es
 |[],_=>by simp
 |r::rows,hr=>by have ih:=af7 (λx hx=>hr x (Zb0 _ hx));have h2:=hr r (by simp);simp only[Zf7,Zd9,Zc7,Zh0];omega
theorem af8{es bytes:Nat}{z:List AV}{src:AV}{rows:List (List AV)}(hr:∀r∈rows,r.length=es)(_hes:es≠0)(hb:(2*rows.length+768)*bytes<=281474976710656)(hn:rows.length<=4000000){c:aj}{R:Type}(s:St)(hw:Wf s)(h:Src es s src rows):
   ∃v s',(∀(K:AV->St->Option R),aq c (.buildSlice es 0 z []) [] s (λy t=>aq c (.append es bytes) [y,src] t K)=K v s')/\Mk es s s' v rows:=by
 have bs:∀(K:AV->St->Option R),aq c (.buildSlice es 0 z []) [] s K=K (.slice s.next 0 0 (some 0) es) (ah s (.cells [] 0)):=λK=>by rw[ax];rfl
 have dm:Wf (ah s (.cells [] 0)):=bP hw;have g1:=Grew.ah hw (.cells [] 0);have hl:=h.len;by_cases h0:rows.length=0
 .obtain rfl:=Zc4 h0;refine⟨.slice s.next 0 0 (some 0) es,ah s (.cells [] 0),λK=> ?_,hw,g1,.inr (.inr ⟨_,_,rfl,rfl⟩),λb hb=>(by rw[mh]at hb;cases hb),hr,λb off n cp e he=>(by cases he;exact .inr ⟨rfl,rfl⟩),λb hb=>(by rw[mh]at hb;cases hb)⟩;rw[bs,ais c K hl (by simpa using hb) (by simp)]
 . have hx:dO es rows.length (λb=>(ah s (.cells [] 0)).heap.get b) src=some rows.flatten:=(h.ai g1).first hr;have hlen:=af7 hr;refine⟨.slice (ah s (.cells [] 0)).next 0 rows.length none es,ah (ah s (.cells [] 0)) (.cells rows.flatten 0),λK=> ?_,hw,g1.trans (Grew.ah dm _),.inr (.inl ⟨_,0,none,rows.flatten,rfl,aB _ _,by omega,?_,.inl rfl⟩),λb hb=> ?_,hr,λb off n cp e he=>(by cases he;exact .inl rfl),λb hb=>(by rw[qL]at hb;cases hb;exact aB _ _)⟩
   .rw[bs,aow c K (m:=rows.length) hl h0 (by simpa using hb) (by omega) hx]
   .simp only[Ze3];exact Zg0 (by omega)
   .rw[qL]at hb;cases hb;rw[bX,Pos.aH];omega
theorem xw{v:AV}(h:aV [v]=true):v.one=true:=by
 simp only[aV]at h;split at h
 .assumption
 .cases h
theorem Vo{b:Pos}{o:Nat}{k1 k2:IntKind}{i1 i2:Int}:¬Plain (.tuple [.ptr b o,.int k1 i1,.int k2 i2]):=λh=>by
 obtain⟨x0,e0⟩:∃x,aG (λ_=>⟨0,0,0⟩) (b.toNat+1) (λ_=>none) (.ptr b o) x:=⟨_,.ptr b o (by omega)⟩
 obtain⟨x1,e1⟩:∃x,aG (λ_=>⟨0,0,0⟩) (b.toNat+1) (λ_=>none) (.int k1 i1) x:=⟨_,.int k1 i1⟩
 obtain⟨x2,e2⟩:∃x,aG (λ_=>⟨0,0,0⟩) (b.toNat+1) (λ_=>none) (.int k2 i2) x:=⟨_,.int k2 i2⟩
 have:=h (λ_=>⟨0,0,0⟩) (λ_=>⟨0,0,0⟩) (b.toNat+1) 0 (λ_=>none) _ (.tuple _ #[x0,x1,x2] rfl (λi v v' hv hx=>by
  match i with
  |0=>simp at hv hx;subst hv hx;exact e0
  |1=>simp at hv hx;subst hv hx;exact e1
  |2=>simp at hv hx;subst hv hx;exact e2
  |i+3=>simp at hv))
 cases this with
 |tuple _ _ _ h=>
  have:=h 0 _ x0 rfl rfl;cases this with
  |ptr _ _ h=>omega
theorem ard{l:List AV}{t:Bool}(h:Plain (.tuple [.agg l,.bool t])):Plain (.agg l):=λρ ρ' n n' C x hx=>by
 obtain⟨y,hy⟩:∃y,aG ρ n C (.bool t) y:=⟨_,.bool t⟩
 have:=h ρ ρ' n n' C _ (.tuple _ #[x,y] rfl (λi v v' hv xq=>by
  match i with
  |0=>simp at hv xq;subst hv xq;exact hx
  |1=>simp at hv xq;subst hv xq;exact hy
  |i+2=>simp at hv))
 cases this with
 |tuple _ _ _ h=>exact h 0 _ x rfl rfl
theorem Mk.alr{es:Nat}{s s':St}{v:AV}{rows:List (List AV)}(h:Mk es s s' v rows){l:List AV}(hm:v∈l)(hi:∀u∈l,dV u)(t:Bool):∃fD,Go.Ai.tidy s (.tuple [.agg l,.bool t],s')=(.tuple [.agg l,.bool t],fD)/\Mk es s fD v rows:=by
 unfold Go.Ai.tidy;by_cases hp:Plain (AV.tuple [.agg l,.bool t],s').1/\aZ s (AV.tuple [.agg l,.bool t],s').2
 . rw[Zb4 hp];refine⟨s,rfl,?_⟩;rcases h.loose with⟨b,off,n,rfl⟩|⟨hl,_⟩
   .exact absurd (ard hp.1) (gh hi hm)
   .exact hl s h.jW
 .rw[Za7 hp];exact⟨s',rfl,h⟩
theorem QS.cells{es:Nat}{s:St}{v:AV}{rows:List (List AV)}(h:QS es s v rows):v.cells=[v]/\v.one=true:=by
 rcases h with⟨rfl,rfl⟩|⟨b,off,cap,cs,rfl,_⟩|⟨b,off,rfl,rfl⟩<;>exact⟨rfl,rfl⟩
abbrev oH(v:AV):List AV:=[v]
theorem aiw(l:List AV):∀r∈l.map oH,r.length=1:=λr hr=>by simp only[Zc9]at hr;obtain⟨m,_,rfl⟩:=hr;rfl
theorem ahu(r:List AV):(r.map oH).flatten=r:=by induction r with|nil=>rfl|cons a r ih=>rw[Zd1,Zf7,ih];rfl
structure Ow(s0 s:St)(jb:Pos)(Ls:List AV)(R:List (List AV))(I:List (AV×List (List AV))):Prop where
 jW:Wf s0
 lt:jb.toNat<s0.next.toNat
 wf:Wf s
 next:s0.next.toNat<=s.next.toNat
 keep:∀q x,q≠jb->s0.heap.get q=some x->s.heap.get q=some x
 own:∀(i:Nat)(L:AV)(r:List AV),Ls[i]? =some L->R[i]? =some r->QS 1 s L (r.map oH)
 len:Ls.length=R.length
 new:∀L∈Ls,∀b,aR L=some b->s0.next.toNat<=b.toNat
 apart:∀(i j:Nat)(L M:AV),i≠j->Ls[i]? =some L->Ls[j]? =some M->∀b,aR L=some b->aR M≠some b
 eI:∀e∈I,QS 1 s e.1 e.2/\∀b,aR e.1=some b->b≠jb/\∀L∈Ls,aR L≠some b
 tig:∀(i:Nat)(L:AV)(r:List AV),Ls[i]? =some L->R[i]? =some r->∀b,aR L=some b->s.heap.get b=some (.cells r 0)
 itg:∀e∈I,∀b,aR e.1=some b->s.heap.get b=some (.cells e.2.flatten 0)
 inw:∀e∈I,∀b,aR e.1=some b->s0.next.toNat<=b.toNat
section
variable{s0 s s':St}{jb:Pos}{Ls:List AV}{R:List (List AV)}{I:List (AV×List (List AV))}
theorem Ow.ai(h:Ow s0 s jb Ls R I)(g:Grew s s'):Ow s0 s' jb Ls R I:=
 ⟨h.jW,h.lt,g.wf,Zb2 h.next g.next,λq x hq hx=>g.get (h.keep q x hq hx),λi L r h1 h2=>(h.own i L r h1 h2).mono λb x _ hx=>g.get hx,h.len,h.new,h.apart,
  λe he=>⟨(h.eI e he).1.mono λb x _ hx=>g.get hx,(h.eI e he).2⟩,λi L r h1 h2 b hb=>g.get (h.tig i L r h1 h2 b hb),λe he b hb=>g.get (h.itg e he b hb),h.inw⟩
theorem Ow.ltL(h:Ow s0 s jb Ls R I){L:AV}(hL:L∈Ls){b:Pos}(hb:aR L=some b):b.toNat<s.next.toNat:=by
 obtain⟨i,hi,rfl⟩:=Zg6.1 hL;have hr:i<R.length:=by rw[<-h.len];exact hi
 exact(h.own i _ _ (H0 hi) (H0 hr)).lt h.wf hb
theorem Ow.more(h:Ow s0 s jb Ls R I){w:AV}{rows:List (List AV)}(M:Mk 1 s s' w rows):Ow s0 s' jb Ls R ((w,rows)::I):=by
 have h2:=h.ai M.ai;refine { h2 with eI:=λe he=> ?_,itg:=λe he b hb=> ?_,inw:=λe he b hb=> ?_ }
 . rcases Za9.1 he with rfl|he
   . refine⟨M.own,λb hb=>⟨λe=> ?_,λL hL e=> ?_⟩⟩
     .have:=M.new b hb;have:=h.next;have:=h.lt;rw[e]at *; omega
     .have:=M.new b hb;have:=h.ltL hL e;omega
   .exact h2.eI e he
 . rcases Za9.1 he with rfl|he
   .exact M.tight b hb
   .exact h2.itg e he b hb
 . rcases Za9.1 he with rfl|he
   .exact Zb2 h.next (M.new b hb)
   .exact h2.inw e he b hb
theorem Ow.store(h:Ow s0 s jb Ls R I)(b:AB):Ow s0 (bn s jb b) jb Ls R I:=by
 have aW:jb.toNat<s.next.toNat:=Zd0 h.lt h.next;have nL:∀L∈Ls,∀b,aR L=some b->jb≠b:=λL hL b hb e=>by have:=h.new L hL b hb;have:=h.lt;rw[e]at *; omega
 refine⟨h.jW,h.lt,kq h.wf aW,by rw[dS];exact h.next,λq x hq hx=>by rw[aM (λe=>hq e.symm)];exact h.keep q x hq hx,λi L r h1 h2=> ?_,h.len,h.new,h.apart,λe he=>⟨?_,(h.eI e he).2⟩,λi L r h1 h2 b hb=> ?_,λe he b hb=> ?_,h.inw⟩
 . (refine(h.own i L r h1 h2).mono λb x hb hx=> ?_);rw[aM (nL L (Zc5 h1) b hb)];exact hx
 . (refine(h.eI e he).1.mono λb x hb hx=> ?_);rw[aM (λe2=>((h.eI e he).2 b hb).1 e2.symm)];exact hx
 .rw[aM (nL L (Zc5 h1) b hb)];exact h.tig i L r h1 h2 b hb
 .rw[aM (λe2=>((h.eI e he).2 b hb).1 e2.symm)];exact h.itg e he b hb
theorem Ow.push(h:Ow s0 s jb Ls R I){c:aj}{Q:Type}{bytes i:Nat}{L:AV}{r:List AV}(hL:Ls[i]? =some L)(hR:R[i]? =some r){z:List AV}{x:AV}(hz:z.length=1)(hx:x.cells=[x])(h1:x.one=true)
   (hb:(2*(r.length+1)+768)*bytes<=281474976710656) (hn:r.length<=4000000):
   ∃s5 v',(∀(K:AV->St->Option Q),aq c (.buildSlice 1 1 z [0]) [x] s (λy t=>aq c (.append 1 bytes) [L,y] t K)=K v' s5)/\Ow s0 s5 jb (Ls.set i v') (R.set i (r++[x])) I/\(∀x,s.heap.get jb=some x->s5.heap.get jb=some x)/\(∀p y,aR L≠some p->s.heap.get p=some y->s5.heap.get p=some y)/\v'.cells=[v']/\v'.one=true/\s.next.toNat<=s5.next.toNat/\∀b,aR v'=some b->s.next.toNat<=b.toNat:=by
 have q:=h.own i L r hL hR;have fX:i<Ls.length:=(Za1.1 hL).1;have hmL:L∈Ls:=Zc5 hL;obtain⟨s5,v',a1,a2,a3,a4,a5,a6,a7⟩:=QS.atc (R:=Q) (c:=c) (bytes:=bytes) h.wf q (aiw r) hz (x:=x) (by rw[hx];rfl) (by rw[hx];simp[aV,h1]) (by decide) (by simpa using hb) (by simpa using hn);have hjlt:jb.toNat<s.next.toNat:=Zd0 h.lt h.next;have nj:aR L≠some jb:=λe=>by have:=h.new L hmL jb e;have:=h.lt;omega
 refine⟨s5,v',a1,⟨h.jW,h.lt,a3,Zb2 h.next a4,λq x hq hx=> ?_,λj M u h2 h3=> ?_,by simpa using h.len,λM hM b hb=> ?_,λj k M N hjk h2 h3 b hb yl=> ?_,λe he=>⟨?_,λb hb=>⟨((h.eI e he).2 b hb).1,λM hM yl=> ?_⟩⟩,λj M u h2 h3 b hb=> ?_,λe he b hb=> ?_,h.inw⟩,?_,a5,a2.cells.1,a2.cells.2,a4,a6⟩
 .refine a5 q x (λe=> ?_) (h.keep q x hq hx);have:=h.new L hmL q e;have:=h.jW _ _ hx;omega
 . by_cases e:i=j
   .subst e;rw[Zg4 fX]at h2;have hir:i<R.length:=(by rw[<-h.len];exact fX);rw[Zg4 hir]at h3;cases h2;cases h3;simpa [hx]using a2
   .rw[Zf2 e]at h2 h3;exact(h.own j M u h2 h3).mono λb x hb hx=>a5 b x (λe2=>h.apart i j L M e hL h2 b e2 hb) hx
 . rcases Zh3 hM with hM|rfl
   .exact h.new M hM b hb
   .exact Zb2 h.next (a6 b hb)
 . by_cases e:i=j
   .subst e;rw[Zg4 fX]at h2;cases h2;rw[Zf2 hjk]at h3;have:=a6 b hb;have:=h.ltL (Zc5 h3) yl;omega
   . rw[Zf2 e]at h2;by_cases e2:i=k
     .  subst e2;rw[Zg4 fX]at h3;cases h3;have:=a6 b yl;have:=h.ltL (Zc5 h2) hb;omega
     .  rw[Zf2 e2]at h3;exact h.apart j k M N hjk h2 h3 b hb yl
 .exact(h.eI e he).1.mono λb x hb hx=>a5 b x (λe2=>((h.eI e he).2 b hb).2 L hmL e2) hx
 . rcases Zh3 hM with hM|rfl
   .exact((h.eI e he).2 b hb).2 M hM yl
   .have:=a6 b yl;have:=(h.eI e he).1.lt h.wf hb;omega
 . by_cases e:i=j
   .subst e;rw[Zg4 fX]at h2;have hir:i<R.length:=(by rw[<-h.len];exact fX);rw[Zg4 hir]at h3;cases h2;cases h3;rw[a7 b hb,hx,ahu]
   .rw[Zf2 e]at h2 h3;exact a5 b _ (λe2=>h.apart i j L M e hL h2 b e2 hb) (h.tig j M u h2 h3 b hb)
 .exact a5 b _ (λe2=>((h.eI e he).2 b hb).2 L hmL e2) (h.itg e he b hb)
 .exact λx hx=>a5 jb x nj hx
end
section
variable{s0 s s':St}{jb:Pos}{Ls:List AV}{R:List (List AV)}{I:List (AV×List (List AV))}
theorem Ow.none(hw:Wf s)(hj:jb.toNat<s.next.toNat)(n:Nat):Ow s s jb (List.replicate n .af) (List.replicate n []) []:=by
 have hn:∀(i:Nat)(L:AV),(List.replicate n AV.af)[i]? =some L->L= .af:=λi L h=>by
   rw[Zn5]at h;split at h
   .cases h;rfl
   .cases h
 refine⟨hw,hj,hw,Za5 _,λ_ _ _ h=>h,λi L r h1 h2=> ?_,by simp,λL hL b hb=> ?_,λi j L M _ h1 _ b hb=> ?_,λe he=>(by cases he),λi L r h1 _ b hb=> ?_,λe he=>(by cases he),λe he=>by cases he⟩
 . obtain rfl:=hn i L h1;rw[Zn5]at h2;split at h2
   .cases h2;exact QS.nil
   .cases h2
 .rw[List.mem_replicate]at hL;obtain⟨_,rfl⟩:=hL;cases hb
 .obtain rfl:=hn i L h1;cases hb
 .obtain rfl:=hn i L h1;cases hb
theorem Ow.snoc(h:Ow s0 s jb Ls R I):Ow s0 s jb (Ls++[.af]) (R++[[]]) I:=by
 have sp:∀(i:Nat)(L:AV),(Ls++[.af])[i]? =some L->Ls[i]? =some L\/(i=Ls.length/\L= .af):=λi L h1=>by
   by_cases hi:i<Ls.length
   .rw[Zc3 hi]at h1;exact .inl h1
   . rw[Zc1 (by omega)]at h1;by_cases h0:i - Ls.length=0
     .rw[h0]at h1;simp at h1;exact .inr ⟨by omega,h1.symm⟩
     .rw[Zc0 (by simp;omega)]at h1;cases h1
 have mem:∀L∈Ls++[AV.af],∀b,aR L=some b->L∈Ls:=λL hL b hb=>by
   rcases Ze0.1 hL with hL|hL
   .exact hL
   .simp at hL;subst hL;cases hb
 refine⟨h.jW,h.lt,h.wf,h.next,h.keep,λi L r h1 h2=> ?_,by simp[h.len],λL hL b hb=>h.new L (mem L hL b hb) b hb,λi j L M X4 h1 h2 b hb yl=> ?_,λe he=>⟨(h.eI e he).1,λb hb=>⟨((h.eI e he).2 b hb).1,λL hL yl=>((h.eI e he).2 b hb).2 L (mem L hL b yl) yl⟩⟩,λi L r h1 h2 b hb=> ?_,h.itg,h.inw⟩
 . rcases sp i L h1 with h1|⟨rfl,rfl⟩
   .have hi:i<R.length:=(by rw[<-h.len];exact(Za1.1 h1).1);rw[Zc3 hi]at h2;exact h.own i L r h1 h2
   .rw[Zc1 (by rw[h.len];exact Za5 _),h.len]at h2;simp at h2;subst h2;exact QS.nil
 . rcases sp i L h1 with h1|⟨rfl,rfl⟩
   . rcases sp j M h2 with h2|⟨rfl,rfl⟩
     .exact h.apart i j L M X4 h1 h2 b hb yl
     .cases yl
   .cases hb
 . rcases sp i L h1 with h1|⟨rfl,rfl⟩
   .have hi:i<R.length:=(by rw[<-h.len];exact(Za1.1 h1).1);rw[Zc3 hi]at h2;exact h.tig i L r h1 h2 b hb
   .cases hb
theorem Ow.take{L:AV}{r:List AV}(h:Ow s0 s jb (Ls++[L]) (R++[r]) I):Ow s0 s jb Ls R ((L,r.map oH)::I):=by
 have hl:Ls.length=R.length:=by have:=h.len;simpa using this
 have up:∀(i:Nat)(M:AV),Ls[i]? =some M->(Ls++[L])[i]? =some M:=λi M h1=>by rw[Zc3 (Za1.1 h1).1];exact h1
 have upR:∀(i:Nat)(M:List AV),R[i]? =some M->(R++[r])[i]? =some M:=λi M h1=>by rw[Zc3 (Za1.1 h1).1];exact h1
 have hL:(Ls++[L])[Ls.length]? =some L:=by simp
 have hR:(R++[r])[Ls.length]? =some r:=by rw[hl];simp
 refine⟨h.jW,h.lt,h.wf,h.next,h.keep,λi M u h1 h2=>h.own i M u (up i M h1) (upR i u h2),hl,λM hM b hb=>h.new M (Zm5 _ hM) b hb,λi j M N X4 h1 h2 b hb yl=>h.apart i j M N X4 (up i M h1) (up j N h2) b hb yl,λe he=> ?_,λi M u h1 h2=>h.tig i M u (up i M h1) (upR i u h2),λe he b hb=> ?_,λe he b hb=> ?_⟩
 . rcases Za9.1 he with rfl|he
   . refine⟨h.own _ _ _ hL hR,λb hb=>⟨λe=> ?_,λM hM yl=> ?_⟩⟩
     .  have:=h.new L (by simp) b hb;have:=h.lt;rw[e]at *; omega
     .  obtain⟨i,hi,rfl⟩:=Zg6.1 hM;exact h.apart i Ls.length _ L (by omega) (up i _ (H0 hi)) hL b yl hb
   .exact⟨(h.eI e he).1,λb hb=>⟨((h.eI e he).2 b hb).1,λM hM=>((h.eI e he).2 b hb).2 M (Zm5 _ hM)⟩⟩
 . rcases Za9.1 he with rfl|he
   .rw[ahu];exact h.tig _ _ _ hL hR b hb
   .exact h.itg e he b hb
 . rcases Za9.1 he with rfl|he
   .exact h.new _ (by simp) b hb
   .exact h.inw e he b hb
end
theorem CJ{R:Type}{c:aj}(K:AV->St->Option R){s:St}{p:Pos}{o:Nat}{cs:List AV}{v:AV}(h:s.heap.get p=some (.cells cs 0))(ho:o<cs.length)(h1:v.cells=[v])(h2:v.one=true):
  aq c (.store 1) [.ptr p o,v] s K=K .undef (bn s p (.cells (cs.set o v) 0)):=by
 rw[cH c K s 1 p o v cs h (by rw[h1];rfl) (by omega) (by rw[h1];simp[aV,h2]),h1,zP _ _ ho]
theorem QS.beq{es:Nat}{s:St}{v:AV}{rows:List (List AV)}(h:QS es s v rows):eJ v v=true:=by
 rcases h with⟨rfl,_⟩|⟨b,off,cap,cs,rfl,_⟩|⟨b,off,rfl,_⟩
 .rfl
 .cases cap<;>simp[eJ,jC,fy,Pos.beq_eq.2 rfl]
 .simp[eJ,jC,fy,Pos.beq_eq.2 rfl]
theorem Mk.beq{es:Nat}{s s':St}{v:AV}{rows:List (List AV)}(h:Mk es s s' v rows):eJ v v=true:=h.own.beq
theorem Gs{R:Type}{z:List AV}{x:AV}(hz:z.length=1)(hx:x.cells=[x])(s:St)(K:AV->AB->Option R):
  Vl (.buildSlice 1 1 z [0]) [x] s K=K (.slice s.next 0 1 (some 1) 1) (.cells [x] 0):=by
 have:cS (cg z 1) ([0].map λi=>(i*1,1)) [x]=some [x]:=by
  simp only[Zd1,Zg9,Zo1,cg,Zd7,cS,dH,dG,hx,Zf6,Zb1,hz,Za5,Zc7,Zi2];simp only[bf,Zo2,Ze2,Zb1,Zc7,Zi2];rw[Zo3 (by omega),Zd7]
 rw[qx,this];rfl
theorem Gt{R:Type}{c:aj}{z:List AV}{x:AV}(hz:z.length=1)(hx:x.cells=[x])(s:St)(K:AV->St->Option R):
  aq c (.buildSlice 1 1 z [0]) [x] s K=K (.slice s.next 0 1 (some 1) 1) (ah s (.cells [x] 0)):=by
 rw[Gr hz (by rw[hx];rfl),hx]
section
variable{s0 s s':St}{jb:Pos}{Ls:List AV}{R:List (List AV)}{I:List (AV×List (List AV))}
theorem Ow.adJ(h:Ow s0 s jb Ls R I){c:aj}{Q:Type}(bytes:Nat){i:Nat}{L:AV}{r:List AV}(hL:Ls[i]? =some L)(hR:R[i]? =some r){x:AV}(hx:x.cells=[x])(h1:x.one=true)
  (hb:(2*(r.length+1)+768)*bytes<=281474976710656) (hn:r.length<=4000000):
  ∃s5 v',(∀(K:AV->St->Option Q),aq c (.append 1 bytes) [L,.slice s.next 0 1 (some 1) 1] (ah s (.cells [x] 0)) K=K v' s5)/\Ow s0 s5 jb (Ls.set i v') (R.set i (r++[x])) I/\(∀x,s.heap.get jb=some x->s5.heap.get jb=some x)/\(∀p y,aR L≠some p->s.heap.get p=some y->s5.heap.get p=some y)/\v'.cells=[v']/\v'.one=true/\s.next.toNat<=s5.next.toNat/\∀b,aR v'=some b->s.next.toNat<=b.toNat:=by
 obtain⟨s5,v',a1,a2⟩:=h.push (c:=c) (Q:=Q) (bytes:=bytes) hL hR (z:=[.int .i64 0]) rfl hx h1 hb hn;refine⟨s5,v',λK=> ?_,a2⟩;rw[<-a1 K,Gt rfl hx]
theorem Ow.mem_set{v':AV}{i:Nat}{p:Pos}(hL:∀L∈Ls,aR L≠some p)(hv:aR v'≠some p):∀L∈Ls.set i v',aR L≠some p:=λL h=>by
 rcases Zh3 h with h|rfl
 .exact hL L h
 .exact hv
theorem Ow.put(h:Ow s0 s jb Ls R I){H:List AV}(Dm:s.heap.get jb=some (.cells (H++Ls) 0)){c:aj}{Q:Type}(bytes:Nat){i:Nat}{L:AV}{r:List AV}(hL:Ls[i]? =some L)(hR:R[i]? =some r){x:AV}(hx:x.cells=[x])(h1:x.one=true)
   (hb:(2*(r.length+1)+768)*bytes<=281474976710656) (hn:r.length<=4000000) {o:Nat} (ho:o=H.length+i):
   ∃s5 s6 v',(∀(K:AV->St->Option Q),aq c (.append 1 bytes) [L,.slice s.next 0 1 (some 1) 1] (ah s (.cells [x] 0)) K=K v' s5)/\(∀(K:AV->St->Option Q),aq c (.store 1) [.ptr jb o,v'] s5 K=K .undef s6)/\Ow s0 s6 jb (Ls.set i v') (R.set i (r++[x])) I/\s6.heap.get jb=some (.cells (H++Ls.set i v') 0)/\
    (∀p y,p≠jb->(∀L∈Ls,aR L≠some p)->s.heap.get p=some y->s6.heap.get p=some y/\∀L∈Ls.set i v',aR L≠some p):=by
 obtain⟨s5,v',a1,a2,a3,a4,a5,a6,a7,a8⟩:=h.adJ (c:=c) (Q:=Q) bytes hL hR hx h1 hb hn;have fX:i<Ls.length:=(Za1.1 hL).1;have hj:=a3 _ Dm;have es:(H++Ls).set o v'=H++Ls.set i v':=by subst ho;rw[Zk1 _ _ (by omega)];congr 2;omega
 refine⟨s5,bn s5 jb (.cells (H++Ls.set i v') 0),v',a1,λK=> ?_,a2.store _,bW _ _ _,λp y hp hpL hy=>⟨?_,Ow.mem_set hpL λe=> ?_⟩⟩
 .rw[CJ K hj (by rw[Zd9];omega) a5 a6,es]
 .rw[aM (λe=>hp e.symm)];exact a4 p y (hpL L (Zc5 hL)) hy
 .have:=a8 p e;have:=h.wf _ _ hy;omega
end
def Q9:List (Int×Int)->Nat->List (AV×AV×Nat)
 |[],_=>[]
 |(k,d)::E,i=>(.int .i64 k,.int .i64 d,i)::Q9 E (i+1)
def im(E:List (Int×Int)):AB:= .map (Q9 E 0) E.length
def ku:List (Int×Int)->Int->Option Int
 |[],_=>none
 |(k,d)::E,x=>if x=k then some d else ku E x
theorem aix:∀(E:List (Int×Int))(i:Nat)(k d:Int),Q9 (E++[(k,d)]) i=Q9 E i++[(.int .i64 k,.int .i64 d,i+E.length)]
 |[],i,k,d=>rfl
 |(a,b)::E,i,k,d=>by
  show _::Q9 (E++[(k,d)]) (i+1)=_::(Q9 E (i+1)++_);rw[aix E (i+1) k d];simp only[Zc7];rw[show i+1+E.length=i+(E.length+1)by omega]
theorem CL(x:Int):∀(E:List (Int×Int))(i j:Nat),(ku E x=none->gX .i (.int .i64 x) (Q9 E i) j=some none)/\∀d,ku E x=some d->∃n,gX .i (.int .i64 x) (Q9 E i) j=some (some (n,.int .i64 d))
 |[],i,j=>⟨λ_=>rfl,λd h=>by cases h⟩
 |(k,e)::E,i,j=>by
  have ih:=CL x E (i+1) (j+1);have step:gX .i (.int .i64 x) (Q9 ((k,e)::E) i) j=if x=k then some (some (j,.int .i64 e))else gX .i (.int .i64 x) (Q9 E (i+1)) (j+1):=by
    show(match yE .i (.int .i64 x) (.int .i64 k)with|some true=>some (some (j,AV.int .i64 e))|some false=>gX .i (.int .i64 x) (Q9 E (i+1)) (j+1)|none=>none)=_;simp only[yE,dN,nF];by_cases h:x=k
    .rw[Zb4 h,Za0 h]
    .rw[Za7 h,Za2 h]
  rw[step];unfold ku;by_cases h:x=k
  .rw[Zb4 h,Zb4 h];exact⟨λh=>(by cases h),λd hd=>⟨j,by cases hd;rfl⟩⟩
  .rw[Za7 h,Za7 h];exact ih
section
variable{R:Type}(c:aj)(K:AV->St->Option R){st:St}{m:Pos}{E:List (Int×Int)}
theorem arf(h:st.heap.get m=some (im E))(x:Int):aq c (.lookup .i (.int .i64 0) true) [.map m,.int .i64 x] st K=K (.tuple [.int .i64 ((ku E x).getD 0),.bool (ku E x).isSome]) st:=by
 have:aJ.run (λb=>st.heap.get b) st.next (.lookup .i (.int .i64 0) true) [.map m,.int .i64 x]=some (.val (.tuple [.int .i64 ((ku E x).getD 0),.bool (ku E x).isSome])):=by
  unfold im at h;cases hl:ku E x with
  |none=>simp only[aJ.run,lU,h,(CL x E 0 0).1 hl];rfl
  |some d=>obtain⟨n,e⟩:=(CL x E 0 0).2 d hl;simp only[aJ.run,lU,h,e];rfl
 unfold aq cW;rw[this]
theorem avq(h:st.heap.get m=some (im E))(x:Int):aq c (.lookup .i (.int .i64 0) false) [.map m,.int .i64 x] st K=K (.int .i64 ((ku E x).getD 0)) st:=by
 have:aJ.run (λb=>st.heap.get b) st.next (.lookup .i (.int .i64 0) false) [.map m,.int .i64 x]=some (.val (.int .i64 ((ku E x).getD 0))):=by
  unfold im at h;cases hl:ku E x with
  |none=>simp only[aJ.run,lU,h,(CL x E 0 0).1 hl];rfl
  |some d=>obtain⟨n,e⟩:=(CL x E 0 0).2 d hl;simp only[aJ.run,lU,h,e];rfl
 unfold aq cW;rw[this]
theorem aiy(h:st.heap.get m=some (im E)){x:Int}(hx:ku E x=none)(d:Int):aq c (.mapSet .i) [.map m,.int .i64 x,.int .i64 d] st K=K .undef (bn st m (im (E++[(x,d)]))):=by
 have:aJ.run (λb=>st.heap.get b) st.next (.mapSet .i) [.map m,.int .i64 x,.int .i64 d]=some (.br .undef none (some (m,im (E++[(x,d)]))) none):=by unfold im at h;simp only[aJ.run,yF,h,ahG,(CL x E 0 0).1 hx];unfold im;rw[aix];simp
 unfold aq cW;rw[this];rfl
end
theorem aoB(i:Nat):bounds true false false [.int .i64 (i:Int)]=some (some i,none,none):=rfl
theorem aoC(i:Nat):bounds false true false [.int .i64 (i:Int)]=some (none,some i,none):=rfl
theorem af9{es:Nat}:∀(rows:List (List AV)),(∀r∈rows,r.length=es)->∀i,rows.flatten.drop (i*es)=(rows.drop i).flatten
 |[],_,i=>by simp
 |r::rows,hr,0=>by simp
 |r::rows,hr,i+1=>by have hl:=hr r (by simp);rw[Zf7,List.drop_succ_cons,Zh0,Zr5, <-Zl0, <-hl,List.drop_left,hl];exact af9 rows (λx hx=>hr x (Zb0 _ hx)) i
theorem QS.low{es:Nat}{s:St}{v:AV}{rows:List (List AV)}(h:QS es s v rows)(hr:∀r∈rows,r.length=es){i:Nat}(hi:i<=rows.length):
   ∃v',(∀{R:Type}(c:aj)(K:AV->St->Option R)(s1:St),aq c (.sliceL es true false false) [v,.int .i64 (i:Int)] s1 K=K v' s1)/\QS es s v' (rows.drop i)/\∀b,aR v'=some b->aR v=some b:=by
 rcases h with⟨rfl,rfl⟩|⟨b,off,cap,cs,rfl,g1,g2,g3,g4⟩|⟨b,off,rfl,rfl⟩
 .obtain rfl:i=0:=(by simpa using hi);exact⟨.af,λc K s1=>aY c K (λH n=>rfl) s1,.inl ⟨rfl,rfl⟩,λb hb=>hb⟩
 . refine⟨.slice b (off+i*es) (rows.length - i) (cap.map (· - i)) es,λc K s1=>aY c K (λH n=> ?_) s1,?_,λb' hb=> ?_⟩
   .simp only[aJ.run,iD,aoB,dH,dG,Zf6,Ze6,Zi3,Za0 hi];rcases g4 with rfl|rfl<;>simp
   . have hm:i*es+(rows.length - i)*es=rows.length*es:=(by rw[<-Zj6];congr 1;omega);refine .inr (.inl ⟨b,off+i*es,cap.map (· - i),cs,by rw[Zr3],g1,?_,?_,?_⟩)
     .  rw[Zr3];omega
     .  rw[<-af9 rows hr i, <-g3,Zn8,Zl0,Zr3];congr 1;omega
     .  rcases g4 with rfl|rfl
        .exact .inl rfl
        .right;simp
   . obtain rfl:=tI hb;simp only[aR]at hb ⊢;by_cases h0:cap=some 0/\rows.length=0
     .  obtain⟨rfl,h0⟩:=h0;rw[Zb4 (by simp;omega)]at hb;cases hb
     .  rw[Za7 h0]
 . obtain rfl:i=0:=(by simpa using hi);refine⟨.slice b (off+0*es) 0 (some 0) es,λc K s1=>aY c K (λH n=> ?_) s1,.inr (.inr ⟨_,_,rfl,rfl⟩),λb' hb=> ?_⟩
   .simp only[aJ.run,iD,aoB,dH,dG,Zf6,Ze6,Zi3,Za5,Zk7]
   .rw[mh]at hb;cases hb
theorem QS.high{es:Nat}{s:St}{v:AV}{rows:List (List AV)}(h:QS es s v rows){i:Nat}(hi:i<=rows.length):
   ∃v',(∀{R:Type}(c:aj)(K:AV->St->Option R)(s1:St),aq c (.sliceL es false true false) [v,.int .i64 (i:Int)] s1 K=K v' s1)/\∀{R:Type}(c:aj)(K:AV->St->Option R)(s1:St),aq c (.lenB .l) [v'] s1 K=K (.int .i64 (i:Int)) s1:=by
 rcases h with⟨rfl,rfl⟩|⟨b,off,cap,cs,rfl,g1,g2,g3,g4⟩|⟨b,off,rfl,rfl⟩
 .obtain rfl:i=0:=(by simpa using hi);exact⟨.af,λc K s1=>aY c K (λH n=>rfl) s1,λc K s1=>aY c K (λH n=>rfl) s1⟩
 .refine⟨.slice b (off+0*es) (i - 0) cap es,λc K s1=>aY c K (λH n=> ?_) s1,λc K s1=>aY c K (λH n=>rfl) s1⟩;simp only[aJ.run,iD,aoC,dH,dG,Zf6,Ze6,Zi3,Zi6];rcases g4 with rfl|rfl<;>simp[hi]
 .obtain rfl:i=0:=(by simpa using hi);refine⟨.slice b (off+0*es) 0 (some 0) es,λc K s1=>aY c K (λH n=> ?_) s1,λc K s1=>aY c K (λH n=>rfl) s1⟩;simp only[aJ.run,iD,aoC,dH,dG,Zf6,Ze6,Zi3,Za5,Zk7]
theorem QS.clear{es:Nat}{z:List AV}{s:St}{v:AV}{rows:List (List AV)}(h:QS es s v rows)(hw:Wf s)(hz:z.length=es)(h1:∀n,aV (cg z n)=true):
   ∃s',(∀{R:Type}(c:aj)(K:AV->St->Option R),aq c (.clearS es z) [v] s K=K .undef s')/\Wf s'/\s'.next=s.next/\∀p x,aR v≠some p->s.heap.get p=some x->s'.heap.get p=some x:=by
 rcases h with⟨rfl,rfl⟩|⟨b,off,cap,cs,rfl,g1,g2,g3,g4⟩|⟨b,off,rfl,rfl⟩
 .exact⟨s,λc K=>aY c K (λH n=>rfl) s,hw,rfl,λ_ _ _ h=>h⟩
 . by_cases h0:rows.length=0
   .refine⟨s,λc K=>aY c K (λH n=> ?_) s,hw,rfl,λ_ _ _ h=>h⟩;simp only[aJ.run,tj,dH,h0,Zf6]
   . refine⟨bn s b (.cells (bf cs off (cg z rows.length)) 0),λc K=> ?_,kq hw (hw _ _ g1),dS _ _ _,λp x hp hx=> ?_⟩
     .  have:aJ.run (λb=>s.heap.get b) s.next (.clearS es z) [.slice b off rows.length cap es]=some (.br .undef none (some (b,.cells (bf cs off (cg z rows.length)) 0)) none):=by
         simp only[aJ.run,tj,dH,Za2 h0,g1,dG,Za0 g2,Zi6,Zf6,h1]
        unfold aq cW;rw[this];rfl
     .  rw[aM (λe=>hp (by simp only[aR];rw[Za7 (by omega),e]))];exact hx
 .refine⟨s,λc K=>aY c K (λH n=> ?_) s,hw,rfl,λ_ _ _ h=>h⟩;simp[aJ.run,tj,dH]
theorem QS.bare{es:Nat}{s:St}{v:AV}{rows:List (List AV)}(h:QS es s v rows):bS v:=by
 rcases h with⟨rfl,_⟩|⟨b,off,cap,cs,rfl,_⟩|⟨b,off,rfl,_⟩
 .exact bS.af
 .exact bS.slice _ _ _ _ _
 .exact bS.slice _ _ _ _ _
def emptyAt(s:St):St:={ heap:= .e,next:=s.next }
theorem zQ(s:St):Wf (emptyAt s):=λp x h=>by have h:(T.e:T AB).get p=some x:=h;rw[T.dZ]at h;cases h
noncomputable def cO(s s1:St):St:={ heap:=T.both s.heap (DC s1.heap),next:=s1.next }
theorem amB{s s1:St}{b:Pos}{x:AB}(h:s.heap.get b=some x):(cO s s1).heap.get b=some x:=by show(T.both _ _).get b=_;rw[T.Gq,h];rfl
theorem DF{s s1:St}(hw:Wf s){b:Pos}{x:AB}(hb:s.next.toNat<=b.toNat)(h:s1.heap.get b=some x)(hx:Lw x):(cO s s1).heap.get b=some x:=by
 show(T.both _ _).get b=_;have:s.heap.get b=none:=by
  cases e:s.heap.get b with
  |none=>rfl
  |some y=>have:=hw _ _ e;omega
 rw[T.Gq,this,aoz h hx];rfl
theorem abk{s s1:St}(hw:Wf s)(h1:Wf s1)(hn:s.next.toNat<=s1.next.toNat):Grew s (cO s s1):=
 ⟨fun p x h=>by
  have h:(T.both s.heap (DC s1.heap)).get p=some x:=h;show p.toNat<s1.next.toNat;rw[T.Gq]at h;cases e:s.heap.get p with
  |some y=>have:=hw _ _ e;omega
  |none=>
   rw[e]at h;have h:(DC s1.heap).get p=some x:=(by simpa using h);exact h1 _ _ (af6 h).1,λp x h=>amB h,hn⟩
theorem Mk.cO{es:Nat}{s s1:St}{v:AV}{rows:List (List AV)}(hw:Wf s)(h:Mk es (emptyAt s) s1 v rows)(hb:∀r∈rows,∀x∈r,bS x):Mk es s (Go.Ai.cO s s1) v rows:=by
 have key:∀b x,aR v=some b->s1.heap.get b=some x->(Go.Ai.cO s s1).heap.get b=some x:=λb x eO hx=>by
  have t:=h.tight b eO;have xq:x= .cells rows.flatten 0:=by rw[t]at hx;exact(Zi1 hx).symm
  subst xq;exact DF hw (h.new b eO) t (λv hv=>by obtain⟨r,hr,hv⟩:=List.mem_flatten.1 hv;exact hb r hr v hv)
 exact⟨hw,abk hw h.ai.wf h.ai.next,h.own.mono key,h.new,h.row,h.cap,λb eO=>key b _ eO (h.tight b eO)⟩
theorem HU{call:aj}{f:FuncId}{d:Nat}{args:List AV}{s:St}{v:AV}{s1:St}(h:call f (args.map (fE s d)) (emptyAt s)=some (v,s1))(hb:bS v)(hn:s.next.toNat<=s1.next.toNat):
 X0 call f d args s=some (v,cO s s1):=alo h ⟨hb,hn⟩
section
variable{H:Type}(Ok:DataW H->Prop)(enc:TypeId×Value->H)(P:Program)(w:World)(base:Nat)(spare:Nat->Bool)(held:Bool)
variable{Ok enc P w base spare held}
end
end
section
open Go Go.WideShapes
section
variable{H:Type}(enc:TypeId×Value->H)(P:Program)(w:World)(base:Nat)(spare:Nat->Bool)(held:Bool)
variable{enc P w base spare held}
end
end
section
open Go
section
variable{c:aj}{R:Type}
theorem aiz{H:Pos->Option AB}{n:Pos}{k:IntKind}{a b:Int}(h1:0<=a)(h2:0<b):aJ.run H n (.bin .rem .num) [.int k a,.int k b]=some (.val (.int k (a % b))):=by
 have e0:BC b 0=false:=by rw[mR,Zm8];omega
 have e1:a.tmod b=a % b:=Int.tmod_eq_emod_of_nonneg h1;simp only[aJ.run,jH,pO,dN,e0,e1]
theorem aiA{H:Pos->Option AB}{n:Pos}{a b:Int}(h1:0<=a)(h3:a<=9223372036854775807)(h2:0<b):aJ.run H n (.bin .quo .num) [.int .i64 a,.int .i64 b]=some (.val (.int .i64 (a / b))):=by
 have e0:BC b 0=false:=by rw[mR,Zm8];omega
 have e1:a.tdiv b=a / b:=Zi8 h1;have e3:0<=a / b:=Zs2 h1 (by omega);have e4:a / b<=a:=Int.ediv_le_self b h1;have e2:av .i64 (a / b)=a / b:=wrap64 (by omega) (by omega);simp only[aJ.run,jH,pO,dN,e0,e1,e2]
theorem arh{H:Pos->Option AB}{n:Pos}{a:Int}{i:Nat}(h:i<=64):aJ.run H n (.bin .shr .num) [.int .i64 a,.int .i64 (i:Int)]=some (.val (.int .i64 (a / 2 ^ i))):=by
 have e0:BD (i:Int) 0=false:=by rw[fH,Za2 (by omega)]
 have e1:min (i:Int).toNat (IntKind.bits .i64)=i:=by have:IntKind.bits .i64=64:=rfl;rw[this];omega
 simp only[aJ.run,jH,pO,e0,e1];rw[Zm6 _ (Int.le_of_lt (Int.pow_pos (by decide)))]
theorem dD{k:IntKind}{a b:Int}(h1:0<=a)(h2:0<b)(s:St)(K:AV->St->Option R):aq c (.bin .rem .num) [.int k a,.int k b] s K=K (.int k (a % b)) s:=aY c K (λH n=>aiz h1 h2) s
theorem Tv{k:IntKind}{a b:Int}(h1:0<=a)(h2:0<b)(K:AV->Option R):fq (.bin .rem .num) [.int k a,.int k b] K=K (.int k (a % b)):=dw K (λH n=>aiz h1 h2)
theorem iL{a b:Int}(h1:0<=a)(h3:a<=9223372036854775807)(h2:0<b)(s:St)(K:AV->St->Option R):aq c (.bin .quo .num) [.int .i64 a,.int .i64 b] s K=K (.int .i64 (a / b)) s:=aY c K (λH n=>aiA h1 h3 h2) s
theorem aiB{a b:Int}(h1:0<=a)(h3:a<=9223372036854775807)(h2:0<b)(K:AV->Option R):fq (.bin .quo .num) [.int .i64 a,.int .i64 b] K=K (.int .i64 (a / b)):=dw K (λH n=>aiA h1 h3 h2)
theorem aiC{a:Int}{i:Nat}(h:i<=64)(s:St)(K:AV->St->Option R):aq c (.bin .shr .num) [.int .i64 a,.int .i64 (i:Int)] s K=K (.int .i64 (a / 2 ^ i)) s:=aY c K (λH n=>arh h) s
theorem CM(i:Int)(s:St)(K:AV->St->Option R):aq c (.conv (.int .u8)) [.int .i64 i] s K=K (.int .u8 (av .u8 i)) s:=aY c K (λH n=>rfl) s
theorem tJ(i:Int)(k:IntKind)(s:St)(K:AV->St->Option R):aq c (.conv (.int .i64)) [.int k i] s K=K (.int .i64 (av .i64 i)) s:=aY c K (λH n=>rfl) s
theorem aiD{x y:Int}(a b:Nat)(hx:x=(a:Int))(hy:y=(b:Int))(ha:a<256)(hb:b<256)(s:St)(K:AV->St->Option R):
  aq c (.buildSlice 1 2 [.int .u8 0] [0,1]) [.int .u8 x,.int .u8 y] s (λv t=>aq c (.conv .ofBytes) [v] t K)=K (.str [a,b]) (ah s (.cells [.int .u8 x,.int .u8 y] 0)):=by
 subst hx;subst hy;rw[show aq c (.buildSlice 1 2 [.int .u8 0] [0,1]) [.int .u8 (a:Int),.int .u8 (b:Int)] s (λv t=>aq c (.conv .ofBytes) [v] t K)=aq c (.conv .ofBytes) [.slice s.next 0 2 (some 2) 1] (ah s (.cells [.int .u8 (a:Int),.int .u8 (b:Int)] 0)) K from rfl];have:aJ.run (λp=>(ah s (.cells [.int .u8 (a:Int),.int .u8 (b:Int)] 0)).heap.get p) (ah s (.cells [.int .u8 (a:Int),.int .u8 (b:Int)] 0)).next (.conv .ofBytes) [.slice s.next 0 2 (some 2) 1]=some (.val (.str [a,b])):=by
  have ha':Nat.blt a 256=true:=by simpa using ha
  have eO:Nat.blt b 256=true:=by simpa using hb
  simp only[aJ.run,Gb,aB];show(match bytesOf [.int .u8 (.ofNat a),.int .u8 (.ofNat b)]with|some s=>some (eZ.val (.str s))|none=>none)=_;simp only[bytesOf,ha',eO]
 unfold aq cW;rw[this]
end
theorem Mk.ari{s s':St}{l:List AV}(hi:∀u∈l,dV u)(hw:Wf s)(hg:Grew s s'):
   ∃fD,Go.Ai.tidy s (.agg l,s')=(.agg l,fD)/\Grew s fD/\(∀(es:Nat)(v:AV)(rows:List (List AV)),v∈l->Mk es s s' v rows->Mk es s fD v rows/\(fD=s'\/rows=[])):=by
 unfold Go.Ai.tidy;by_cases hp:Plain (AV.agg l,s').1/\aZ s (AV.agg l,s').2
 . rw[Zb4 hp];refine⟨s,rfl,Grew.refl hw,λes v rows hm h=> ?_⟩;rcases h.loose with⟨b,off,n,rfl⟩|⟨hl,h0⟩
   .exact absurd hp.1 (gh hi hm)
   .exact⟨hl s h.jW,.inr h0⟩
 .rw[Za7 hp];exact⟨s',rfl,hg,λes v rows _ h=>⟨h,.inl rfl⟩⟩
theorem Mk.rW{es:Nat}{s0 s s':St}{v:AV}{rows:List (List AV)}(h:Mk es s0 s v rows)(hg:Grew s0 s')(hk:∀b x,aR v=some b->s.heap.get b=some x->s'.heap.get b=some x):Mk es s0 s' v rows:=
 ⟨h.jW,hg,h.own.mono hk,h.new,h.row,h.cap,λb hb=>hk b _ hb (h.tight b hb)⟩
theorem Mk.pJ{es:Nat}{s0 s1 s s':St}{v:AV}{rows:List (List AV)}(h:Mk es s1 s v rows)(h0:Wf s0)(ON:Grew s0 s1)(hg:Grew s0 s')(hk:∀q b,s1.next.toNat<=q.toNat->s.heap.get q=some b->s'.heap.get q=some b):Mk es s0 s' v rows:=
 ⟨h0,hg,h.own.mono (λb x hb hx=>hk b x (h.new b hb) hx),λb hb=>Zb2 ON.next (h.new b hb),h.row,h.cap,λb hb=>hk b _ (h.new b hb) (h.tight b hb)⟩
end
section
open Go Go.WideShapes
theorem HV{Q:List AV->Prop}{Qs:List (List AV->Prop)}{ps:List (List AV)}(h:Ts (Q::Qs) ps):∃p qs,ps=p::qs/\Q p/\Ts Qs qs:=by
 cases ps with
 |nil=>exact h.elim
 |cons p qs=>exact⟨p,qs,rfl,h⟩
theorem aiE{ps:List (List AV)}(h:Ts [] ps):ps=[]:=by
 cases ps with
 |nil=>rfl
 |cons p qs=>exact h.elim
section
variable{H:Type}{enc:TypeId×Value->H}{P:Program}{w:World}{base:Nat}{spare:Nat->Bool}{held:Bool}
theorem ae3{t e:TypeId}{Q:List AV->Prop}{r:Go.Reach}{b0:Nat}{v:Value}{d:DataW H}{p:List MemPlace}(ho:pI enc P w base spare held t Q)(ht:P.underlying t=some (.slice e))
  (hval:Value.okWide P w r b0 t v) (hd:DataW.Trod enc P w base spare held t v d p):∃as,Q as/\∀ρ n,aN ρ n (λad=>w.cell? ad) as [v]:=by
 obtain⟨a,len,cap,rfl⟩:=okWide_slice ht hval;obtain⟨fuel,hf⟩:=hd;exact ho _ _ _ hf
end
end
noncomputable section
open Go
inductive Un where
 |z
 |s (n:Un)
def un:Nat->Un
 |0=>.z
 |n+1=>.s (un n)
inductive Tx where
 |bad
 |op (k:aJ) (xs:List iy) (d:Option Pos) (t:Tx)
 |gop (g:Pos) (w:Bool) (k:aJ) (xs:List iy) (d:Option Pos) (t:Tx)
 |dr (t:Tx)
 |pr (k:aJ) (xs:List iy) (d:Option Pos) (t:Tx)
 |gpr (g:Pos) (w:Bool) (k:aJ) (xs:List iy) (d:Option Pos) (t:Tx)
 |rd (b:List Bool) (k:aJ) (xs:List iy) (d:Option Pos) (t:Tx)
 |grd (g:Pos) (w:Bool) (b:List Bool) (k:aJ) (xs:List iy) (d:Option Pos) (t:Tx)
 |nw (k:aJ) (xs:List iy) (d:Option Pos) (t:Tx)
 |gnw (g:Pos) (w:Bool) (k:aJ) (xs:List iy) (d:Option Pos) (t:Tx)
 |ef (k:aJ) (xs:List iy) (d:Option Pos) (t:Tx)
 |gef (g:Pos) (w:Bool) (k:aJ) (xs:List iy) (d:Option Pos) (t:Tx)
 |cnd (x:iy) (a b:Tx)
 |jn (l:List Pos) (a b:Tx)
 |jmp (i:Un) (l:List Pos)
 |arg (l:List Pos) (t:Tx) (r:Tx)
 |lp (j:Un) (ins:List Pos)
 |agn (ins:List Pos)
 |out (i:Un) (l:List Pos)
 |res (rs:List Qz)
def txO:List b9->Tx->Tx
 |[],t=>t
 |  o::os,t=>match o.guard with
    |none=>.op o.k o.xs o.dst (txO os t)
    |some (p,w)=>.gop p w o.k o.xs o.dst (txO os t)
def bitsOf(cK:Nat):List Nat->List Bool
 |[]=>[]
 |i::is=>cK.testBit i::bitsOf cK is
def txD:List (Nat×b9)->List Nat->Tx->Tx
 |[],_,t=>t
 |  (j,o)::os,is,t=>match o.cls,o.guard with
    |.pure,none=>.pr o.k o.xs o.dst (txD os (j::is) t)
    |.pure,some (p,w)=>.gpr p w o.k o.xs o.dst (txD os (j::is) t)
    |.read,none=>.rd (bitsOf o.cK is) o.k o.xs o.dst (txD os (j::is) t)
    |.read,some (p,w)=>.grd p w (bitsOf o.cK is) o.k o.xs o.dst (txD os (j::is) t)
    |.new,none=>.nw o.k o.xs o.dst (txD os (j::is) t)
    |.new,some (p,w)=>.gnw p w o.k o.xs o.dst (txD os (j::is) t)
    |.br,none=>.ef o.k o.xs o.dst (txD os (j::is) t)
    |.br,some (p,w)=>.gef p w o.k o.xs o.dst (txD os (j::is) t)
def txA(K:oO->Tx):List (Nat×List Pos)->Tx->Tx
 |[],t=>t
 |(e,l)::r,t=>.arg l (K (exOf e)) (txA K r t)
def tx:AC->Sh->Nat->(oO->Nat->Tx)->Tx
 |.skip,_,d,K=>K .normal d
 |.region ops,_,d,K=>txO ops (K .normal d)
 |.draw ops,_,d,K=>.dr (txD ops [] (K .normal d))
 |  .seq a b,s,d,K=>match s with
    | .seq none s t=>tx a s d λex d=>match ex with
      |.normal=>tx b t d K
      |.exit i=>K (.exit i) d
      |.ret=>K .ret d
    | .seq (some l) s t=>.jn l (tx a s (d+1) λex d'=>match ex with
      |.normal=>.jmp (un (d' - d - 1)) l
      |.exit i=>K (.exit i) d'
      |.ret=>K .ret d') (tx b t d K)
    |_=>.bad
 |  .cond x a b,s,d,K=>match s with
    |.cond s t=>.cnd x (tx a s d K) (tx b t d K)
    |_=>.bad
 |  .block id a,s,d,K=>match s with
    | .block s=>tx a s d λex d=>match ex with
      |.normal=>K .normal d
      | .exit i=>match Nat.beq i id with
        |true=>K .normal d
        |false=>K (.exit i) d
      |.ret=>K .ret d
    |_=>.bad
 |  .loop _,s,d,K=>match s with
    |.loop j ins outs _=>txA (λex=>K ex d) outs (.lp (un j) ins)
    |_=>.bad
 |.exit id,_,d,K=>K (.exit id) d
 |.ret,_,d,K=>K .ret d
def idxOf:List (Nat×List Pos)->Nat->Nat
 |[],_=>0
 |  (i,_)::r,e=>match Nat.beq i e with
    |true=>0
    |false=>idxOf r e+1
def txF(A:dY)(s:Sh):Tx:=tx A.code s 0 λex _=>match ex with
 |.normal=>.res A.results
 |.ret=>.res A.results
 |.exit _=>.bad
def txL(x:AC×Sh):List Pos×Tx:=match x.2 with
 |  .loop _ ins outs s=>(ins,tx x.1 s 0 λex _=>match ex with
    |.normal=>.agn ins
    |.exit i=>.out (un (idxOf outs (i+2))) (ZY outs (i+2))
    |.ret=>.out (un (idxOf outs 1)) (ZY outs 1))
 |_=>([],.bad)
section
variable{R:Type}
abbrev KK(R:Type):=List AV->St->Option R
abbrev O2:=Option (AV×St)
abbrev Q2:=KK (AV×St)
def Fu:Unit:=(λ_=>()) (@den AV)
def BW(p:Pos)(fr:Fr)(k:AV->Option R):Option R:=match fr.get p with
 |some v=>k v
 |none=>(λ_=>none) Fu
def DG(p:Pos)(v:AV)(fr:Fr)(k:Fr->Option R):Option R:=(λ_=>k (fr.put (some v) p)) Fu
def DH(d:Option Pos)(v:AV)(fr:Fr)(k:Fr->Option R):Option R:=match d with
 |some p=>DG p v fr k
 |none=>k fr
def Fz(fr:Fr):List iy->(List AV->Option R)->Option R
 |[],k=>k []
 |.t p::xs,k=>BW p fr λv=>Fz fr xs λvs=>k (v::vs)
 |.c v::xs,k=>Fz fr xs λvs=>k (v::vs)
def getLT:List Pos->Fr->(List AV->Option R)->Option R
 |[],_,k=>k []
 |p::ps,fr,k=>BW p fr λv=>getLT ps fr λvs=>k (v::vs)
def DI:List Pos->List AV->Fr->(Fr->Option R)->Option R
 |[],vs,fr,k=>mG vs (k fr)
 |p::ps,vs,fr,k=>ir vs λv vs=>DG p v fr λfr=>DI ps vs fr k
def adK(p:Pos)(k:Pos->Option R):Option R:=(λ_=>k p.succ) Fu
def X5:Pos->List AV->Fr->(Fr->Option R)->Option R
 |_,[],fr,k=>k fr
 |p,v::vs,fr,k=>DG p v fr λfr=>adK p λp=>X5 p vs fr k
def kat:Un->List (KK R)->KK R
 |.z,k::_=>k
 |.s n,_::ks=>kat n ks
 |_,[]=>λ_ _=>none
def BG:List Bool->T AB->List RC->T AB
 |  b ::bs,h,r::rs=>match r with
    | .new id aT=>match b with
      |true=>(BG bs h rs).put (some aT) id
      |false=>BG bs h rs
    |.br _ _=>h
    |.pure=>BG bs h rs
 |_,h,_=>h
def BH(k:aJ)(xs:List AV)(v:AV):List (Pos×AB)->List Bool->List RC->Bool
 |  up,b::bs,r::rs=>match r with
    | .new id aT=>match b with
      |true=>BH k xs v ((id,aT)::up) bs rs
      |false=>BH k xs v up bs rs
    | .br base _=>match b with
      |true=>true
      |false=>pE k xs v (nW up (BG bs base rs))&&BH k xs v up bs rs
    |.pure=>BH k xs v up bs rs
 |_,_,_=>true
def Tw(fr:Fr)(st:St):List Qz->(List AV->Option R)->Option R
 |[],k=>k []
 |.tmp p::rs,k=>BW p fr λv=>Tw fr st rs λvs=>k (v::vs)
 |.cell p n::rs,k=>BW p fr λq=>ldr n q st λv=>Tw fr st rs λvs=>k (v::vs)
def ahv(as:List (KK R))(f:KK R)(k:List (KK R)->Option R):Option R:=(λ_=>k (as++[f])) Fu
def pkR(vs:List AV)(st:St):Option (AV×St):=some (zL vs,st)
end
section
variable(c:aj)(F:Nat)(Ls:Un->List Q2->Nat->Q2)(ag:Q2)(ko:List Q2)
def evX(fr:Fr)(x:iy)(k:AV->Option (AV×St)):Option (AV×St):=match x with
 |.t p=>BW p fr k
 |.c v=>k v
def ev:Tx->List (KK (AV×St))->List (KK (AV×St))->Fr->St->List RC->T AB->Option (AV×St)
 |.bad,_,_,_,_,_,_=>none
 |.op k xs d t,ks,as,fr,st,rs,b=>Fz fr xs λvs=>aq c k vs st λv st=>DH d v fr λfr=>ev t ks as fr st rs b
 |.gop g w k xs d t,ks,as,fr,st,rs,b=>Fz fr xs λvs=>BW g fr λg=>qK c g w k vs st λv st=>DH d v fr λfr=>ev t ks as fr st rs b
 |.dr t,ks,as,fr,st,_,_=>ev t ks as fr st [] st.heap
 |.pr k xs d t,ks,as,fr,st,rs,b=>Fz fr xs λvs=>fq k vs λv=>DH d v fr λfr=>ev t ks as fr st (.pure::rs) b
 |.gpr g w k xs d t,ks,as,fr,st,rs,b=>Fz fr xs λvs=>BW g fr λg=>gpr g w k vs λv=>DH d v fr λfr=>ev t ks as fr st (.pure::rs) b
 |.rd bs k xs d t,ks,as,fr,st,rs,b=>Fz fr xs λvs=>jJ k vs (BG bs b rs) (λv=>BH k vs v [] bs rs) λv=>DH d v fr λfr=>ev t ks as fr st (.pure::rs) b
 |.grd g w bs k xs d t,ks,as,fr,st,rs,b=>Fz fr xs λvs=>BW g fr λg=>grd g w k vs (BG bs b rs) (λv=>BH k vs v [] bs rs) λv=>DH d v fr λfr=>ev t ks as fr st (.pure::rs) b
 |.nw k xs d t,ks,as,fr,st,rs,b=>Fz fr xs λvs=>Vl k vs st λv aT=>DH d v fr λfr=>ev t ks as fr (ah st aT) (.new st.next aT::rs) b
 |.gnw g w k xs d t,ks,as,fr,st,rs,b=>Fz fr xs λvs=>BW g fr λg=>wnt g w (Vl k vs st λv aT=>DH d v fr λfr=>ev t ks as fr (ah st aT) (.new st.next aT::rs) b) (DH d .undef fr λfr=>ev t ks as fr st (.pure::rs) b)
 |.ef k xs d t,ks,as,fr,st,rs,b=>Fz fr xs λvs=>aq c k vs st λv st'=>DH d v fr λfr=>ev t ks as fr st' (.br b st'.heap::rs) st'.heap
 |.gef g w k xs d t,ks,as,fr,st,rs,b=>Fz fr xs λvs=>BW g fr λg=>wnt g w (aq c k vs st λv st'=>DH d v fr λfr=>ev t ks as fr st' (.br b st'.heap::rs) st'.heap) (DH d .undef fr λfr=>ev t ks as fr st (.pure::rs) b)
 |.cnd x t u,ks,as,fr,st,rs,b=>evX fr x λv=>cnd v (ev t ks as fr st rs b) (ev u ks as fr st rs b)
 |.jn l t u,ks,as,fr,st,rs,b=>cY (λk=>ev t (k::ks) as fr st rs b) (λvs st=>DI l vs .e λfr=>ev u ks as fr st [] .e)
 |.jmp i l,ks,_,fr,st,_,_=>getLT l fr λvs=>kat i ks vs st
 |.arg l t r,ks,as,fr,st,rs,b=>ahv as (λos st=>DI l os .e λfr=>ev t ks [] fr st [] .e) λas=>ev r ks as fr st rs b
 |.lp j ins,_,as,fr,st,_,_=>getLT ins fr λvs=>Ls j as F vs st
 |.agn ins,_,_,fr,st,_,_=>getLT ins fr λvs=>ag vs st
 |.out i l,_,_,fr,st,_,_=>getLT l fr λvs=>kat i ko vs st
 |.res rs,_,_,fr,st,_,_=>Tw fr st rs λvs=>pkR vs st
def dU(p:List Pos×Tx)(vs:List AV)(st:St):Option (AV×St):=DI p.1 vs .e λfr=>ev c F Ls ag ko p.2 [] [] fr st [] .e
end
def bk{R:Type}:Un->List (KK R)->Nat->KK R:=λ_ _ _ _ _=>none
def fj{R:Type}:KK R:=λ_ _=>none
def bh(c:aj)(F:Nat)(Ls:Un->List Q2->Nat->Q2)(t:Tx)(args:List AV)(st:St):O2:=X5 .h args .e λfr=>ev c F Ls fj [] t [] [] fr st [] .e
def uj(Ls:Un->List Q2->Nat->Q2)(A:dY)(s:Sh):Env (AV×St):=λj K=>Ls (un j) ((lpO (iK A s j).2).map λo=>K o.1)
def sl:Sh:= .leaf
def sq(a b:Sh):Sh:= .seq none a b
def sj(l:List Nat)(a b:Sh):Sh:= .seq (some (l.map key)) a b
def sc(a b:Sh):Sh:= .cond a b
def sb(a:Sh):Sh:= .block a
def sp(j:Nat)(ins:List Nat)(outs:List (Nat×List Nat))(a:Sh):Sh:= .loop j (ins.map key) (outs.map λo=>(o.1,o.2.map key)) a
section
variable{R:Type}(l r:Fr)(v u:AV)(x:Option AV)(p:Pos)(fr:Fr)(k:AV->Option R)(K:Fr->Option R)(kp:Pos->Option R)
theorem Ra:BW .h (.n l (some v) r) k=k v:=rfl
theorem Rb:BW (.o p) (.n l x r) k=BW p l k:=rfl
theorem Rc:BW (.i p) (.n l x r) k=BW p r k:=rfl
theorem LX:DG .h v .e K=K (.n .e (some v) .e):=rfl
theorem LY:DG .h v (.n l x r) K=K (.n l (some v) r):=rfl
theorem LZ:DG (.o p) v .e K=DG p v .e λt=>K (.n t none .e):=rfl
theorem L8:DG (.o p) v (.n l x r) K=DG p v l λt=>K (.n t x r):=rfl
theorem L9:DG (.i p) v .e K=DG p v .e λt=>K (.n .e none t):=rfl
theorem Ma:DG (.i p) v (.n l x r) K=DG p v r λt=>K (.n l x t):=rfl
theorem Re:DH none v fr K=K fr:=rfl
theorem Rf:DH (some p) v fr K=DG p v fr K:=rfl
theorem Mb:adK .h kp=kp (.o .h):=rfl
theorem Mc:adK (.o p) kp=kp (.i p):=rfl
theorem Md:adK (.i p) kp=adK p λq=>kp (.o q):=rfl
theorem Me(f:KK R)(k:List (KK R)->Option R):ahv [] f k=k [f]:=rfl
theorem Mf(a:KK R)(as:List (KK R))(f:KK R)(k:List (KK R)->Option R):ahv (a::as) f k=ahv as f λl=>k (a::l):=rfl
theorem Z3(st:St):pkR [] st=some (.tuple [],st):=rfl
theorem Z4(st:St):pkR [v] st=some (v,st):=rfl
theorem Z5(vs:List AV)(st:St):pkR (v::u::vs) st=some (.tuple (v::u::vs),st):=rfl
theorem BI(c:aj)(F:Nat)(Ls:Un->List Q2->Nat->Q2)(ag:Q2)(ko:List Q2)(l:List Pos)(t:Tx)(vs:List AV)(st:St):dU c F Ls ag ko (l,t) vs st=DI l vs .e λfr=>ev c F Ls ag ko t [] [] fr st [] .e:=rfl
end
def Ac{α:Type}:Option α->Bool
 |none=>true
 |some _=>false
theorem avr{α:Type}{o:Option α}(h:Ac o=true):o=none:=by cases o with|none=>rfl|some _=>cases h
theorem avs{α:Type}[Inhabited α]{o:Option α}(h:Ac o=false):o=some (o.getD default):=by cases o with|none=>cases h|some _=>rfl
def ym(G:T dY)(f:Nat):dY:=(G.get (key f)).getD default
theorem aoD{O:fk}{G:T dY}{F:Nat}{L:Env (AV×St)}{f:FuncId}{s:Sh}{args:List AV}{st:St}{r:AV×St}(hk:(Ac (O f)&& !Ac (G.get (key f)))=true)
  (hL:∀x∈fY (ym G f).code s,Dz (run O G) F L x.1 x.2) {k:O2} (hd:Jq (run O G) F L (ym G f) s args st=k) (h:k=some r):run O G f args st=some (tidy st r):=by
 simp only[Zb7,Zk5]at hk;exact aqZ (avr hk.1) (avs hk.2) hL (hd.trans h)
theorem als{O:fk}{G:T dY}{F:Nat}{f:FuncId}{args:List AV}{st:St}{r:AV×St}(s:Sh)(hk:(Ac (O f)&& !Ac (G.get (key f))&&(fY (ym G f).code s).isEmpty)=true)
  {k:O2} (hd:Jq (run O G) F (ahs []) (ym G f) s args st=k) (h:k=some r):run O G f args st=some (tidy st r):=by
 rw[Zb7,List.isEmpty_iff]at hk;exact aoD hk.1 (by rw[hk.2];intro x hx;cases hx) hd h
theorem ae4{O:fk}{G:T dY}{F:Nat}{f:FuncId}{args:List AV}{st:St}{r:AV×St}(Ls:Un->List Q2->Nat->Q2)(s:Sh)(n:Nat)(hk:(Ac (O f)&& !Ac (G.get (key f))&&Nat.beq (fY (ym G f).code s).length n)=true)
  (hL:∀i,i<n->Dz (run O G) F (uj Ls (ym G f) s) (iK (ym G f) s i).1 (iK (ym G f) s i).2) {k:O2} (hd:Jq (run O G) F (uj Ls (ym G f) s) (ym G f) s args st=k) (h:k=some r):run O G f args st=some (tidy st r):=by
 rw[Zb7]at hk;exact aoD hk.1 (aq0 n hk.2 hL) hd h
theorem alu {O:fk} {G:T dY}  {F:Nat}{f:FuncId}{args:List AV}{st:St}{r:AV×St}(Ls:Un->List Q2->Nat->Q2)(s:Sh)(hk:(Ac (O f)&& !Ac (G.get (key f))&&Nat.beq (fY (ym G f).code s).length 1)=true)
  (hs:(aeT (iK (ym G f) s 0).2&&Nat.beq (lpJ (iK (ym G f) s 0).2) 0)=true) (h0:∀K' vs st,uj Ls (ym G f) s 0 K' 0 vs st=none)
  (h1:∀K' n vs st,uj Ls (ym G f) s 0 K' (n+1) vs st=Q3 (den (run O G) F (uj Ls (ym G f) s) (iK (ym G f) s 0).1 (lpB (iK (ym G f) s 0).2)) (lpI (iK (ym G f) s 0).2) (lpO (iK (ym G f) s 0).2) K' (uj Ls (ym G f) s 0 K' n) vs st)
  {k:O2} (hd:Jq (run O G) F (uj Ls (ym G f) s) (ym G f) s args st=k) (h:k=some r):run O G f args st=some (tidy st r):=
 ae4 Ls s 1 hk (fun i hi=>by obtain rfl:i=0:=by omega
                             exact dc 0 hs h0 h1) hd h
end
section
open Go
theorem yV{R:Type}{Q:Option R->Prop}(P:(List AV->St->Option R)->Prop){A:(List AV->St->Option R)->Option R}{T:List AV->St->Option R}(hT:P T)(hA:∀j,P j->Q (A j)):Q (cY A T):=hA T hT
theorem Gu{m:Nat}(h1:1<=m)(h2:m<=18):m=1\/m=2\/m=3\/m=4\/m=5\/m=6\/m=7\/m=8\/m=9\/m=10\/m=11\/m=12\/m=13\/m=14\/m=15\/m=16\/m=17\/m=18:=by omega
end
section
def cnt(n:Nat)(P:Nat->Bool):Nat:=match n with
 |0=>0
 |n+1=>cnt n P+if P n then 1 else 0
def we(n:Nat)(f:Nat->Nat):Nat:=match n with
 |0=>0
 |n+1=>we n f+f n
theorem X6:∀{n:Nat}{f g:Nat->Nat},(∀i,i<n->f i<=g i)->we n f<=we n g
 |0,_,_,_=>Za5 _
 |n+1,f,g,h=>by
  have ih:=X6 (n:=n) (f:=f) (g:=g) λi hi=>h i (by omega)
  have:=h n (by omega);unfold we;omega
theorem zR{n:Nat}{f g:Nat->Nat}(h:∀i,i<n->f i=g i):we n f=we n g:=
 Nat.le_antisymm (X6 λi hi=>Nat.le_of_eq (h i hi)) (X6 λi hi=>Nat.le_of_eq (h i hi).symm)
theorem X7(n:Nat)(P:Nat->Bool):cnt n P<=n:=by
 induction n with
 |zero=>exact Za5 _
 |succ n ih=>unfold cnt;split<;>omega
def on(q:Nat->Int)(g:Nat):Bool:=decide (0<=q g)
inductive RM where
 |two (a b:Nat) (P:Int->Int->Bool)
 |one (a:Nat) (P:Int->Bool)
 |Rg (P:Nat->Nat->Int->Int->Bool)
 |qK (P:Nat->Int->Bool)
 |spk (f:(Nat->Int)->Nat)
 |iQ (A:Nat->Bool)
 |fil (A:Nat->Bool) (m:Nat)
 |HW (A:Nat->Bool) (m:Nat)
structure JT where
 n:Nat
 T:Nat
 tab:Int->Nat
 host:Nat->Bool
section
variable(J:JT)(q:Nat->Int)
def JT.at(t:Nat)(g:Nat):Bool:=on q g&&J.tab (q g)==t
def JT.uS:RM->Nat
 |.two a b P=>if on q a&&on q b&&P (q a) (q b)then 1 else 0
 |.one a P=>if on q a&&P (q a)then 1 else 0
 | .Rg P=>we J.n λa=>cnt J.n λb=>decide (a<b)&&on q a&&on q b&&P a b (q a) (q b)
 |.qK P=>cnt J.n λg=>on q g&&P g (q g)
 |.spk f=>f q
 |.iQ A=>we J.T λt=>if A t&&decide (0<cnt J.n (J.at q t))&&decide (cnt J.n (λg=>J.at q t g&&J.host g)=0)then 1 else 0
 |.fil A m=>we J.T λt=>if A t then m - cnt J.n (J.at q t)else 0
 | .HW A m=>we J.T λt=>if A t then cnt J.n (J.at q t) - m else 0
def JT.left:Nat:=cnt J.n λg=> !on q g
def JT.amC:Nat:=cnt J.n λg=> !on q g&&J.host g
def JT.least:RM->Nat
 |.spk f=>if 0<J.left q then 0 else f q
 |.iQ A=>J.uS q (.iQ A) - J.amC q
 |.fil A m=>J.uS q (.fil A m) - J.left q
 |r=>J.uS q r
end
section
variable{J:JT}{q p:Nat->Int}
theorem least_le(r:RM):J.least q r<=J.uS q r:=by
 cases r with
 |spk f=>
  show(if 0<J.left q then 0 else f q)<=f q;split
  .exact Zi6 _
  .exact Za5 _
 |iQ A=>exact Nat.sub_le _ _
 |fil A m=>exact Nat.sub_le _ _
 |_=>exact Za5 _
end
section
variable{J:JT}{q:Nat->Int}{A:Nat->Nat->Bool}{A0:Nat->Bool}
end
def rq(tk:List Bool)(fr:Nat):Nat->Nat->Option Nat
 |0,_=>none
 |m+1,k=>if tk.getD ((fr+k) % tk.length) true=false then some ((fr+k) % tk.length)else rq tk fr m (k+1)
def ru(tk:List Bool)(fr:Nat):List Bool×Int:=match rq tk fr tk.length 0 with
 |some s=>(tk.set s true,(s:Int))
 |none=>(tk,-1)
theorem Js{tk:List Bool}{fr s:Nat}:∀{m k:Nat},rq tk fr m k=some s->tk[s]? =some false
 |0,_,h=>by cases h
 |m +1,k,h=>by
  unfold rq at h;split at h
  . rename_i e;cases h;cases e2:tk[(fr+k) % tk.length]? with
    |none=>rw[Zb9,e2]at e;simp at e
    |some b=>rw[Zb9,e2]at e;simp at e;rw[e]
  .exact Js h
theorem Vp{tk:List Bool}{fr:Nat}:∀{m k:Nat},rq tk fr m k=none->∀j,k<=j->j<k+m->tk.getD ((fr+j) % tk.length) true=true
 |0,_,_,j,h1,h2=>by omega
 |m +1,k,h,j,h1,h2=>by
  unfold rq at h;split at h
  .cases h
  . rename_i e;by_cases e2:j=k
    .subst e2;simpa using e
    .exact Vp h j (by omega) (by omega)
def adL(tk:List Bool):Nat:=(tk.filter λb=> !b).length
theorem aga:∀{tk:List Bool},0<adL tk->∃s:Nat,tk[s]? =some false
 |[],h=>by simp[adL]at h
 |false::tk,_=>⟨0,rfl⟩
 |true::tk,h=>by
  obtain⟨s,hs⟩:=aga (tk:=tk) (by simpa [adL]using h);exact⟨s+1,by simpa using hs⟩
theorem BX(tk:List Bool)(fr:Nat):((ru tk fr).2= -1/\(ru tk fr).1=tk/\adL tk=0)\/∃s:Nat,ru tk fr=(tk.set s true,(s:Int))/\tk[s]? =some false:=by
 unfold ru;cases e:rq tk fr tk.length 0 with
 |some s=>exact .inr ⟨s,rfl,Js e⟩
 |none=>
  refine .inl ⟨rfl,rfl,?_⟩;rcases Zn3 (adL tk)with h|h
  .exact h
  . exfalso;obtain⟨s,hs⟩:=aga h;have hl:s<tk.length:=(Za1.1 hs).1;have key:=Vp e ((s+tk.length - fr % tk.length) % tk.length) (Zi6 _) (by rw[Zb1];exact Zk6 _ (by omega));have hm:fr % tk.length<tk.length:=Zk6 _ (by omega);have:(fr+(s+tk.length - fr % tk.length) % tk.length) % tk.length=s:=by
        rw[Nat.add_mod,Nat.mod_mod];rcases Zj3 (s+tk.length - fr % tk.length) tk.length with h1|h1
        .rw[Zk8 h1];rw[show fr % tk.length+(s+tk.length - fr % tk.length)=s+tk.length by omega,Nat.add_mod_right,Zk8 hl]
        .rw[Zq4 h1,Zk8 (by omega:s+tk.length - fr % tk.length - tk.length<tk.length)];rw[show fr % tk.length+(s+tk.length - fr % tk.length - tk.length)=s by omega,Zk8 hl]
    rw[this,Zb9,hs]at key;simp at key
inductive Ch where
 |no
 |X9 (s:Nat)
 |fr (f:Nat)
def ij(tk:List Bool):List Ch->List Int
 |[]=>[]
 |.no::l=> -1::ij tk l
 | .X9 s::l=>(s:Int)::ij tk l
 |.fr f::l=>(ru tk f).2::ij (ru tk f).1 l
theorem Tz:∀(l:List Ch)(tk:List Bool),(ij tk l).length=l.length
 |[],_=>rfl
 |.no::l,tk=>by simp[ij,Tz l]
 | .X9 s::l,tk=>by simp[ij,Tz l]
 |.fr f::l,tk=>by simp[ij,Tz l]
theorem aoE(tk:List Bool)(f:Nat):(ru tk f).1.length=tk.length:=by rcases BX tk f with⟨_,h,_⟩|⟨s,h,_⟩<;>rw[h]<;>simp
def Sat(tk:List Bool)(l:List Ch):Prop:=(∀s,Ch.X9 s∈l->tk[s]? =some true)/\∀(i j s:Nat),l[i]? =some (.X9 s)->l[j]? =some (.X9 s)->i=j
theorem Sat.tail{tk:List Bool}{c:Ch}{l:List Ch}(h:Sat tk (c::l)):Sat tk l:=
 ⟨λs hs=>h.1 s (Zb0 _ hs),λi j s h1 h2=>by have:=h.2 (i+1) (j+1) s (by simpa using h1) (by simpa using h2);omega⟩
theorem Sat.place{tk:List Bool}{l:List Ch}(h:Sat tk l)(f:Nat):Sat (ru tk f).1 l:=by
 refine⟨λs hs=> ?_,h.2⟩;have:=h.1 s hs;rcases BX tk f with⟨_,e,_⟩|⟨s',e,h'⟩<;>rw[e]
 .exact this
 . by_cases e2:s'=s
   .subst e2;rw[h']at this;cases this
   .rw[Zf2 e2];exact this
theorem CN:∀(l:List Ch)(tk:List Bool),Sat tk l->∀(i:Nat)(v:Int),(ij tk l)[i]? =some v->v= -1\/∃s:Nat,v=(s:Int)/\(tk[s]? =some false\/(tk[s]? =some true/\l[i]? =some (.X9 s)))
 |[],_,_,i,v,h=>by simp[ij]at h
 |c::l,tk,hs,0,v,h=>by
  cases c with
  |no=>simp[ij]at h;exact .inl h.symm
  |X9 s=>simp[ij]at h;exact .inr ⟨s,h.symm,.inr ⟨hs.1 s (Zd6),rfl⟩⟩
  |fr f=>
   simp[ij]at h;rcases BX tk f with⟨e,_,_⟩|⟨s,e,h'⟩
   .    exact .inl (by rw[<-h,e])
   .    exact .inr ⟨s,by rw[<-h,e],.inl h'⟩
 |c::l    ,tk,hs,i+1,v,h=>by
  cases c with
  |no=>simpa using CN l tk hs.tail i v (by simpa [ij]using h)
  |X9 s=>simpa using CN l tk hs.tail i v (by simpa [ij]using h)
  |fr f=>
   have h:(ij (ru tk f).1 l)[i]? =some v:=(by simpa [ij]using h);rcases CN l _ (hs.tail.place f) i v h with e|⟨s,e,h'⟩
   .    exact .inl e
   .    refine .inr ⟨s,e,?_⟩;rcases BX tk f with⟨_,e2,_⟩|⟨s',e2,h2⟩<;>rw[e2]at h'
        .simpa using h'
        . by_cases e3:s'=s
          .subst e3;exact .inl h2
          .rw[Zf2 e3]at h';simpa using h'
theorem Lx:∀(l:List Ch)(tk:List Bool),Sat tk l->∀(i j:Nat)(v:Int),i<j->(ij tk l)[i]? =some v->(ij tk l)[j]? =some v->v= -1
 |[],_,_,i,j,v,_,h,_=>by simp[ij]at h
 |c::l    ,tk,hs,0,j+1,v,_,h1,h2=>by
  cases c with
  |no=>simp[ij]at h1;exact h1.symm
  |X9 s=>
   simp[ij]at h1;rcases CN l tk hs.tail j v (by simpa [ij]using h2)with e|⟨s',e,h'|h'⟩
   .    exact e
   .    have:=hs.1 s (Zd6);obtain rfl:s'=s:=(by omega);rw[this]at h';cases h'
   .    obtain rfl:s'=s:=(by omega);have:=hs.2 0 (j+1) s' rfl (by simpa using h'.2);omega
  |fr f=>
   simp[ij]at h1;have h2:(ij (ru tk f).1 l)[j]? =some v:=(by simpa [ij]using h2);rcases BX tk f with⟨e,_,_⟩|⟨s,e,h'⟩
   .    rw[<-h1,e]
   .    rcases CN l _ (hs.tail.place f) j v h2 with e2|⟨s',e2,h3|h3⟩
        .exact e2
        .rw[e]at h1 h3;obtain rfl:s'=s:=(by simp at h1;omega);have hl:=(Za1.1 h').1;simp[Zg4 hl]at h3
        .rw[e]at h1;obtain rfl:s'=s:=(by simp at h1;omega);have:=hs.tail.1 s' (Zc5 h3.2);rw[h']at this;cases this
 |c::l,tk,hs,i+1,j+1,v,X4,h1,h2=>by
  cases c with
  |no=>exact Lx l tk hs.tail i j v (by omega) (by simpa [ij]using h1) (by simpa [ij]using h2)
  |X9 s=>exact Lx l tk hs.tail i j v (by omega) (by simpa [ij]using h1) (by simpa [ij]using h2)
  |fr f=>exact Lx l _ (hs.tail.place f) i j v (by omega) (by simpa [ij]using h1) (by simpa [ij]using h2)
def looks:List Ch->Nat
 |[]=>0
 |.fr _::l=>looks l+1
 |_::l=>looks l
end
section
open Go
section
variable{R:Type}{c:aj}
theorem atQ{v z:AV}{n N k:Nat}(hk:k<=n):cut (List.replicate n v++List.replicate N z) 0 k=some (List.replicate k v):=by
 unfold cut;rw[dG,Za0 (by simp;omega)];simp only[Ze3];rw[Zl6 (by simpa using hk),List.take_replicate,Zj5 hk]
theorem amD{v z:AV}{n m k:Nat}:bf (List.replicate n v++List.replicate m z) n (List.replicate k v)=List.replicate (n+k) v++List.replicate (m - k) z:=by unfold bf;rw[Zl6 (by simp),Zg0 (by simp)];rw[<-Zf0,List.replicate_append_replicate];congr 1;rw[List.drop_append];simp
theorem TA{v:AV}(hv:v.one=true):∀k,aV (List.replicate k v)=true
 |0=>rfl
 |k+1=>by rw[Zm9];unfold aV;rw[hv];exact TA hv k
theorem aiF{b:Pos}{v z:AV}{n m:Nat}{cp JS:Option Nat}(hn:0<n)(hm:0<m)(hv:v.one=true){s:St}(h:s.heap.get b=some (.cells (List.replicate n v++List.replicate m z) 0))(K:AV->St->Option R):
  aq c (.copyB 1) [.slice b n m cp 1,.slice b 0 n JS 1] s K=K (.int .i64 ((min n m:Nat):Int)) (bn s b (.cells (List.replicate (n+min n m) v++List.replicate (m - min n m) z) 0)):=by
 have e:aJ.run (λb=>s.heap.get b) s.next (.copyB 1) [.slice b n m cp 1,.slice b 0 n JS 1]=some (.br (Mn (min n m)) none (some (b,.cells (List.replicate (n+min n m) v++List.replicate (m - min n m) z) 0)) none):=by
  show pP (λb=>s.heap.get b) s.next 1 [.slice b n m cp 1,.slice b 0 n JS 1]=_;unfold pP;simp only[fc];rw[dH,Za2 (by omega)];simp only;have hf:dO 1 (min n m) (λb=>s.heap.get b) (.slice b 0 n JS 1)=some (List.replicate (min n m) v):=by
   unfold dO;rw[dH,Za2 (by omega)];simp only;rw[h];simp only[Zn4];exact atQ (Nat.min_le_left _ _)
  rw[h,hf];simp only;rw[dG,Za0 (by simp;omega),dG,Za0 (Zi6 _),TA hv];simp only;rw[amD]
 unfold aq cW;rw[e];rfl
theorem acg{n:Int}(h0:0<=n)(h1:n<4294967296)(s:St)(K:AV->St->Option R):aq c (.bin .and .num) [.int .u64 n,.int .u64 4294967295] s K=K (.int .u64 n) s:=by
 obtain⟨m,rfl⟩:=Int.eq_ofNat_of_zero_le h0;have hm:m<4294967296:=by omega
 have e:(IntKind.u64.wrap ((BitVec.ofInt IntKind.u64.bits (m:Int) &&& BitVec.ofInt IntKind.u64.bits 4294967295).toNat:Int))=(m:Int):=by
  have e1:(BitVec.ofInt 64 (m:Int) &&& BitVec.ofInt 64 4294967295).toNat=m:=by
   rw[BitVec.toNat_and];have a:(BitVec.ofInt 64 (m:Int)).toNat=m:=(by rw[BitVec.toNat_ofInt];omega);have b:(BitVec.ofInt 64 4294967295).toNat=2 ^ 32 - 1:=(by decide);rw[a,b,Nat.and_two_pow_sub_one_eq_mod,Zk8 (by omega)]
  show IntKind.u64.wrap (((BitVec.ofInt 64 (m:Int) &&& BitVec.ofInt 64 4294967295).toNat:Nat):Int)=_;rw[e1];simp only[IntKind.wrap,show IntKind.u64.bits=64 from rfl];have hs:IntKind.u64.signed=false:=rfl;simp only[hs,Zo5,Ze7,Zg7];omega
 refine aY c K (λH n=> ?_) s;show(pO .and .num (.int .u64 (m:Int)) (.int .u64 4294967295)).map eZ.val=_;unfold pO;simp only[dN];rw[e];rfl
end
theorem ark{R:Type}(K:AV->Option R){b:Pos}{off len es es':Nat}{cap:Option Nat}{k:IntKind}{i:Nat}(h:i<len):fq (.idxA es none) [.slice b off len cap es',.int k (i:Int)] K=K (.ptr b (off+i*es)):=
 dw K (λH n=>by
  simp only[aJ.run,sU,jK];have:Nat.blt i len=true:=by rw[Zr7];exact h
  rw[this])
end
section
abbrev Ev:=Nat×List Int
def kG(l:List Ev):Nat:=(l.map λe=>e.1).sum
def fS(l:List Ev):Nat:=(l.map λe=>e.1+e.2.length).sum
theorem ae5(l m:List Ev):kG (l++m)=kG l+kG m:=by unfold kG;rw[Zc8,Zs3]
theorem Mg(l m:List Ev):fS (l++m)=fS l+fS m:=by unfold fS;rw[Zc8,Zs3]
theorem atS(k:Nat)(w:List Int):kG [(k,w)]=k:=rfl
def cU(f:Nat->List Ev):Nat->Nat->List Ev
 |0,_=>[]
 |m+1,k=>f k++cU f m (k+1)
theorem adM(f:Nat->List Ev):∀m k,cU f (m+1) k=cU f m k++f (k+m)
 |0,k=>by simp[cU]
 |m+1,k=>by
  have:=adM f m (k+1);rw[cU,this,cU,Zf0,show k+1+m=k+(m+1)by omega]
theorem Gv(f:Nat->List Ev):∀n,kG (cU f n 0)=we n λi=>kG (f i)
 |0=>rfl
 |n+1=>by rw[adM,ae5,Gv f n,Zb1];rfl
theorem A7{f:Nat->List Ev}{B:Nat}(h:∀k,fS (f k)<=B):∀m k,fS (cU f m k)<=m*B
 |0,_=>by simp[cU,fS]
 |m+1,k=>by have:=A7 h m (k+1);have:=h k;rw[cU,Mg,Zh0];omega
theorem alv(n:Nat)(P:Nat->Bool):(we n λi=>if P i then 1 else 0)=cnt n P:=by
 induction n with
 |zero=>rfl
 |succ n ih=>unfold we cnt;rw[ih]
def JT.who(J:JT)(q:Nat->Int)(t:Nat):List Int:=((List.range J.n).filter (J.at q t)).map λ(g:Nat)=>(g:Int)
theorem TE(n:Nat)(P:Nat->Bool):cnt (n+1) P=cnt n P+if P n then 1 else 0:=rfl
theorem Ya(P:Nat->Bool):∀n,((List.range n).filter P).length=cnt n P
 |0=>rfl
 |n+1=>by
  rw[Zf9,Zk2,Zd9,Ya P n,TE];cases e:P n<;>simp[e]
theorem JT.ae6(J:JT)(q:Nat->Int)(t:Nat):(J.who q t).length=cnt J.n (J.at q t):=by unfold JT.who;rw[Za3,Ya]
theorem atT(P Q:Nat->Bool)(n:Nat):((List.range n).filter P).any Q=decide (0<cnt n λg=>P g&&Q g):=by
 induction n with
 |zero=>rfl
 |succ n ih=>
  rw[Zf9,Zk2,List.any_append,ih,TE];cases e:P n<;>cases e2:Q n<;>simp[e,e2]
section
variable(J:JT)(q:Nat->Int)
def yW(b:Bool)(k:Nat)(w:List Int):List Ev:=if b then [(k,w)]else []
theorem MK(b:Bool)(k:Nat)(w:List Int):kG (yW b k w)=if b then k else 0:=by unfold yW;split<;>rfl
theorem HX(b:Bool)(k:Nat)(w:List Int):fS (yW b k w)<=k+w.length:=by unfold yW;split<;>simp[fS]
def vL(P:Nat->Nat->Int->Int->Bool)(a b:Nat):List Ev:=yW (on q a&&on q b&&P a b (q a) (q b)) 1 [(a:Int),(b:Int)]
def DJ(a b:Nat)(P:Int->Int->Bool):List Ev:=yW (on q a&&on q b&&P (q a) (q b)) 1 [(a:Int),(b:Int)]
def Yb(a:Nat)(P:Int->Bool):List Ev:=yW (on q a&&P (q a)) 1 [(a:Int)]
def Aq(n:Nat)(P:Nat->Nat->Int->Int->Bool):List Ev:=cU (λa=>cU (vL q P a) (n - (a+1)) (a+1)) n 0
def PI(n:Nat)(P:Nat->Int->Bool):List Ev:=cU (λg=>yW (on q g&&P g (q g)) 1 [(g:Int)]) n 0
def ach(T:Nat)(A:Nat->Bool)(D:List Int->List Ev):List Ev:=cU (λt=>if A t then D (J.who q t)else []) T 0
def TF(host:Nat->Bool)(l:List Int):List Ev:=yW (!(l.any λg=>host g.toNat)&&decide (0<l.length)) 1 l
def TG(m:Nat)(l:List Int):List Ev:=yW (decide (l.length<m)) (m - l.length) l
def TH(m:Nat)(l:List Int):List Ev:=yW (decide (m<l.length)) (l.length - m) l
end
section
variable{J:JT}{q:Nat->Int}
theorem Rh(a b:Nat)(P:Int->Int->Bool):kG (DJ q a b P)=J.uS q (.two a b P):=MK _ _ _
theorem aiG(a:Nat)(P:Int->Bool):kG (Yb q a P)=J.uS q (.one a P):=MK _ _ _
theorem agb(f:Nat->List Ev):∀m k,kG (cU f m k)+we k (λi=>kG (f i))=we (k+m) λi=>kG (f i)
 |0,k=>by simp[cU,kG]
 |m+1,k=>by
  have:=agb f m (k+1);rw[cU,ae5];rw[show k+(m+1)=k+1+m by omega, <-this];show _=_+(we k _+kG (f k))
  omega
theorem Ri(P:Nat->Nat->Int->Int->Bool):kG (Aq q J.n P)=J.uS q (.Rg P):=by
 unfold Aq;rw[Gv];refine zR λa ha=> ?_
 have h1:=agb (λb=>if a<b then vL q P a b else []) (J.n - (a+1)) (a+1);have h2:we (a+1) (λi=>kG (if a<i then vL q P a i else []))=0:=by
   have:∀m,m<=a+1->we m (λi=>kG (if a<i then vL q P a i else []))=0:=λm=>by
    induction m with
    |zero=>intro _;rfl
    |succ m ih=>intro hm;unfold we;rw[ih (by omega),Za7 (by omega)];rfl
   exact this _ (Za5 _)
 have h3:∀m k,a<k->cU (λb=>if a<b then vL q P a b else []) m k=cU (vL q P a) m k:=λm=>by
   induction m with
   |zero=>intro k _;rfl
   |succ m ih=>intro k hk;rw[cU,cU,Zb4 hk,ih (k+1) (by omega)]
 rw[h3 _ _ (by omega),h2,Zg2,show a+1+(J.n - (a+1))=J.n by omega]at h1;rw[h1, <-alv];refine zR λb _=> ?_
 unfold vL;by_cases h:a<b
 .rw[Zb4 h,MK,Za0 h,Zg5]
 .rw[Za7 h,Za2 h];rfl
theorem ae7(P:Nat->Int->Bool):kG (PI q J.n P)=J.uS q (.qK P):=by unfold PI;rw[Gv];show _=cnt J.n _;rw[<-alv];exact zR λg _=>MK _ _ _
theorem atU(A:Nat->Bool):kG (ach J q J.T A (TF J.host))=J.uS q (.iQ A):=by
 unfold ach;rw[Gv];refine zR λt _=> ?_
 cases hA:A t with
 |false=>simp[kG]
 |true=>
  simp only[Zh6,Zg5];unfold TF;rw[MK,J.ae6];have:(J.who q t).any (λg=>J.host g.toNat)=decide (0<cnt J.n λg=>J.at q t g&&J.host g):=by unfold JT.who;rw[List.any_map];exact atT _ _ _
  rw[this];by_cases h:0<cnt J.n λg=>J.at q t g&&J.host g
  .rw[Za0 h,Za2 (show ¬cnt J.n (λg=>J.at q t g&&J.host g)=0 by omega)];simp
  .rw[Za2 h,Za0 (show cnt J.n (λg=>J.at q t g&&J.host g)=0 by omega)];simp
theorem atV(A:Nat->Bool)(m:Nat):kG (ach J q J.T A (TG m))=J.uS q (.fil A m):=by
 unfold ach;rw[Gv];refine zR λt _=> ?_
 cases hA:A t with
 |false=>simp[kG]
 |true=>
  simp only[Zh6];unfold TG;rw[MK,J.ae6];simp only[Ze8];split<;>omega
theorem atW(A:Nat->Bool)(m:Nat):kG (ach J q J.T A (TH m))=J.uS q (.HW A m):=by
 unfold ach;rw[Gv];refine zR λt _=> ?_
 cases hA:A t with
 |false=>simp[kG]
 |true=>
  simp only[Zh6];unfold TH;rw[MK,J.ae6];simp only[Ze8];split<;>omega
end
theorem alw(q:Nat->Int)(C:Int->Bool)(P:Nat->Nat->Int->Int->Bool)(a:Nat):∀m k,cU (vL q (λa b x y=>C x&&P a b x y) a) m k=if on q a&&C (q a)then cU (vL q P a) m k else []
 |0,k=>by simp[cU]
 |m+1,k=>by
  rw[cU,alw q C P a m (k+1),cU];unfold vL;cases e1:on q a<;>cases e2:C (q a)<;>simp[yW,e1,e2]
theorem rX(k:Nat)(w:List Int):yW true k w=[(k,w)]:=rfl
theorem eN(k:Nat)(w:List Int):yW false k w=[]:=rfl
def BJ(tab:Nat->Nat)(t:Nat):Nat->Nat
 |0=>0
 |i+1=>if tab i=t then BJ tab t i else i+1
end
section
open Go
structure Rd(s:St)(es:Nat)(L:AV)(i:Nat)(b:Pos)(o:Nat)(r:List AV):Prop where
 st:∀{R:Type}(c:aj)(K:AV->St->Option R)(k:IntKind)(s1:St),aq c (.idxA es none) [L,.int k (i:Int)] s1 K=K (.ptr b o) s1
 pr:∀{R:Type}(K:AV->Option R)(k:IntKind),fq (.idxA es none) [L,.int k (i:Int)] K=K (.ptr b o)
 at':∀(j:Nat)(u:AV),r[j]? =some u->((cellsOf (s.heap.get b)).bind λcs=>cs[o+j]?)=some u
 all:((cellsOf (s.heap.get b)).bind λcs=>cut cs o es)=some r
theorem QS.rd{s:St}{es:Nat}{v:AV}{rows:List (List AV)}(h:QS es s v rows)(hr:∀r∈rows,r.length=es){i:Nat}{r:List AV}(hi:rows[i]? =some r):∃b o,Rd s es v i b o r:=by
 obtain⟨fX,rfl⟩:=Za1.1 hi;have hlen:=hr _ (Zb8 fX);rcases h with⟨rfl,h⟩|⟨b,off,cap,cs,rfl,g1,g2,g3,g4⟩|⟨b,off,rfl,h⟩
 .rw[h]at fX;simp at fX
 rotate_left
 .rw[h]at fX;simp at fX
 have hmul:(i+1)*es<=rows.length*es:=Zh5 _ fX;rw[Zh0]at hmul;have at0:∀(j:Nat)(u:AV),rows[i][j]? =some u->cs[off+i*es+j]? =some u:=λj u hj=>by have hj2:j<es:=(by rw[<-hlen];exact(Za1.1 hj).1);have:=Go.Ai.yU hr i j rows[i] u (H0 fX) hj;rw[<-g3,Ze1,Zb4 (by omega),Ze4]at this;rw[<-this];congr 1;omega
 refine⟨b,off+i*es,λc K k s1=>je c K s1 fX,λK k=>ark K fX,λj u hj=>by rw[g1];exact at0 j u hj,?_⟩;rw[g1];show cut cs (off+i*es) es=some rows[i];unfold cut;rw[dG,Za0 (by omega)];refine congrArg some ?_;apply Zi7;intro j;by_cases hj:j<es
 .rw[Ze1,Zb4 hj,Ze4];exact(at0 j (rows[i]'fX)[j] (H0 (by omega))).trans (H0 (by omega)).symm
 .rw[Zc0 (by simp;omega),Zc0 (by omega)]
theorem Rd.one{s:St}{L x:AV}{i:Nat}{b:Pos}{o:Nat}(h:Rd s 1 L i b o [x]):((cellsOf (s.heap.get b)).bind λcs=>cs[o]?)=some x:=h.at' 0 x rfl
theorem QS.ML{s:St}{v:AV}{l:List AV}(h:QS 1 s v (l.map oH)){i:Nat}{x:AV}(hx:l[i]? =some x):∃b o,Rd s 1 v i b o [x]:=
 h.rd (aiw l) (by rw[Zb3,hx];rfl)
def RQ(s:St)(L:AV)(rows:List (List AV)):Prop:=∃ws:List AV,QS 1 s L (ws.map oH)/\ws.length=rows.length/\∀(i:Nat)(w:AV)(r:List AV),ws[i]? =some w->rows[i]? =some r->QS 1 s w (r.map oH)
theorem RQ.rd{s:St}{L:AV}{rows:List (List AV)}(h:RQ s L rows){i:Nat}{r:List AV}(hr:rows[i]? =some r):∃w b o,Rd s 1 L i b o [w]/\QS 1 s w (r.map oH):=by
 obtain⟨ws,h1,h2,h3⟩:=h;have hi:i<ws.length:=by rw[h2];exact(Za1.1 hr).1
 obtain⟨b,o,h4⟩:=h1.ML (H0 hi);exact⟨ws[i],b,o,h4,h3 i _ r (H0 hi) hr⟩
theorem RQ.ai{s s':St}{L:AV}{rows:List (List AV)}(h:RQ s L rows)(g:Grew s s'):RQ s' L rows:=by
 obtain⟨ws,h1,h2,h3⟩:=h;exact⟨ws,h1.mono λb x _ hx=>g.get hx,h2,λi w r a b=>(h3 i w r a b).mono λb x _ hx=>g.get hx⟩
theorem QS.ai{es:Nat}{s s':St}{v:AV}{rows:List (List AV)}(h:QS es s v rows)(g:Grew s s'):QS es s' v rows:=h.mono λb x _ hx=>g.get hx
section
variable{c:aj}{R:Type}
theorem Z6{x:Int}(h1:0<=x)(h2:x<=18446744073709551615):av .u64 x=x:=by
 unfold av loI hiI;simp only;split
 . split
   .rfl
   .contradiction
 .contradiction
theorem aci{a:Int}(h0:0<=a)(h1:a<4294967296)(s:St)(K:AV->St->Option R):aq c (.bin .shr .num) [.int .u64 a,.int .u64 32] s K=K (.int .u64 0) s:=aY c K (λH n=>by
 have e0:BD (32:Int) 0=false:=by rw[fH];rfl
 have e1:min (32:Int).toNat (IntKind.bits .u64)=32:=rfl;simp only[aJ.run,jH,pO,e0,e1];rw[Zm6 _ (by decide)];rw[show(2:Int) ^ 32=4294967296 from rfl,Int.ediv_eq_zero_of_lt h0 h1]
 ) s
theorem aku{v z:AV}{m k:Nat}:bf (List.replicate m z) 0 (List.replicate k v)=List.replicate k v++List.replicate (m - k) z:=by unfold bf;simp
theorem aiH{b b2:Pos}{v z:AV}{m:Nat}{cp JS:Option Nat}(hm:0<m)(hv:v.one=true){s:St}(h:s.heap.get b=some (.cells (List.replicate m z) 0))(h2:s.heap.get b2=some (.cells [v] 0))(K:AV->St->Option R):
  aq c (.copyB 1) [.slice b 0 m cp 1,.slice b2 0 1 JS 1] s K=K (.int .i64 1) (bn s b (.cells (List.replicate 1 v++List.replicate (m - 1) z) 0)):=by
 have e:aJ.run (λb=>s.heap.get b) s.next (.copyB 1) [.slice b 0 m cp 1,.slice b2 0 1 JS 1]=some (.br (Mn 1) none (some (b,.cells (List.replicate 1 v++List.replicate (m - 1) z) 0)) none):=by
  show pP (λb=>s.heap.get b) s.next 1 [.slice b 0 m cp 1,.slice b2 0 1 JS 1]=_;unfold pP;simp only[fc];have amh:min m 1=1:=by omega
  rw[show min 1 m=1 by omega,dH,Za2 (by omega)];simp only;have hf:dO 1 1 (λb=>s.heap.get b) (.slice b2 0 1 JS 1)=some (List.replicate 1 v):=by unfold dO;rw[dH,Za2 (by omega)];simp only;rw[h2];exact cQ rfl
  rw[h,hf];simp only;rw[dG,Za0 (by simp;omega),dG,Za0 (Zi6 _),TA hv];simp only;rw[aku]
 unfold aq cW;rw[e];rfl
theorem aoF{b:Pos}{N n:Nat}(h:n<=N)(k:IntKind)(K:AV->Option R):fq (.sliceL 1 true false false) [.slice b 0 N (some N) 1,.int k (n:Int)] K=K (.slice b n (N - n) (some (N - n)) 1):=dw K (λH m=>by
 have hb:bounds true false false [.int k (n:Int)]=some (some n,none,none):=by simp[bounds,jK]
 simp only[aJ.run,iD,hb,dH,dG,Zf6,Ze6,Zi3,Za0 h,Za5];simp)
theorem aoG{b:Pos}{N n:Nat}(h:n<=N)(k:IntKind)(K:AV->Option R):fq (.sliceL 1 false true false) [.slice b 0 N (some N) 1,.int k (n:Int)] K=K (.slice b 0 n (some N) 1):=dw K (λH m=>by
 have hb:bounds false true false [.int k (n:Int)]=some (none,some n,none):=by simp[bounds,jK]
 simp only[aJ.run,iD,hb,dH,dG,Zf6,Ze6,Zi3,Zi6,Za0 h]
 all_goals simp)
theorem agL{b b2:Pos}{cp JS:Option Nat}{n:Nat}(s:St)(K:AV->St->Option R):aq c (.copyB 1) [.slice b 0 0 cp 1,.slice b2 0 n JS 1] s K=K (.int .i64 0) s:=by
 have e:aJ.run (λb=>s.heap.get b) s.next (.copyB 1) [.slice b 0 0 cp 1,.slice b2 0 n JS 1]=some (.val (Mn 0)):=by
  show pP (λb=>s.heap.get b) s.next 1 [.slice b 0 0 cp 1,.slice b2 0 n JS 1]=_;unfold pP;simp only[fc];rw[show min n 0=0 by omega]
 unfold aq cW;rw[e];rfl
end
theorem T.acj{α:Type}{x:α}:∀(p:Pos)(t:T α),t.get p=some x->T.put (some x) p t=t
 |p,.e,h=>by rw[T.dZ]at h;cases h
 |.h,.n l v r,h=>by have h:v=some x:=h;subst h;rfl
 | .o p,.n l v r,h=>by
   have h:l.get p=some x:=h;simp only[T.put];rw[T.acj p l h]
 | .i p,.n l v r,h=>by
   have h:r.get p=some x:=h;simp only[T.put];rw[T.acj p r h]
theorem aiI{s:St}{p:Pos}{b:AB}(h:s.heap.get p=some b):bn s p b=s:=by
 unfold bn;rw[T.acj p s.heap h]
theorem ack{b:Pos}{off n es:Nat}(hn:n≠0)(h:Plain (.slice b off n (some n) es)):False:=by
 have h1:aG (λ_=>⟨0,0,off+n*es⟩) (b.toNat+1) (λ_=>none) (.slice b off n (some n) es) (.slice (some ⟨0,0+off,none⟩) n n):=
  .slice b off n (some n) es n _ (Za5 _) (λc hc=>by cases hc;rfl) (λ_=>⟨by omega,rfl,by simp⟩) (λh=>by cases h)
 have h2:=h _ (λ_=>⟨0,0,0⟩) _ 0 _ _ h1;cases h2 with
 |slice _ _ _ _ _ _ _ _ _ ha _=>exact absurd (ha hn).1 (by omega)
end
end Go.Ai
