/- The program as plain functions. -/
import Derived.Test.YtgihekklfnjkiaaGreatDoorBEvalD
import Derived.Maps.RangeRun
import Derived.Laws.EntriesVeiled
import Derived.WalkKit
import Derived.OpenShut
import Derived.ProofKit
import Derived.ShutString
set_option linter.all false
namespace Go.Ai
section
open Go Go.RowKit
def Zz(c c':aj):Prop:=∀f args st r,c f args st=some r->c' f args st=some r
theorem Zz.refl(c:aj):Zz c c:=λ_ _ _ _ h=>h
section
variable{c c':aj}
theorem Rw(h:Zz c c'){k:aE}{xs:List AV}{st:St}{r:AV×St}(e:cC c k xs st=some r):cC c' k xs st=some r:=by
 unfold cC at e ⊢;cases hr:k.run (λb=>st.heap.get b) st.next xs with
 |none=>simp[hr]at e
 |some x=>cases x with
  |val v=>simpa [hr]using e
  |bh v d s n=>simpa [hr]using e
  |call f args=>simp only[hr]at e ⊢; exact h _ _ _ _ e
theorem Yf(h:Zz c c'):∀(os:List bS)(fr:Fr)(st:St)(r:Fr×St),mE c os fr st=some r->mE c' os fr st=some r
 |[],_,_,_,e=>e
 |o::os,fr,st,r,e=>by
  unfold mE at e ⊢;cases hw:cJ fr o.guard with
  |none=>simp[hw]at e
  |some b=>cases b with
   |false=>simp only[hw]at e ⊢; exact Yf h _ _ _ _ e
   |    true=>
        simp only[hw]at e ⊢;cases hx:fP fr o.xs with
        |none=>simp[hx]at e
        |some xs=>
         simp only[hx]at e ⊢;cases hs:cC c o.k xs st with
         |none=>simp[hs]at e
         |some p=>simp only[hs]at e;simp only[Rw h hs];exact Yf h _ _ _ _ e
theorem aaz (h:Zz c c'):∀(os:List (Nat×bS))(recs:List Rec)(base:T AB)(fr:Fr)(st:St)(r:Fr×St),ei c os recs base fr st=some r->ei c' os recs base fr st=some r
 |[],_,_,_,_,_,e=>e
 |(j,   o)::os,recs,base,fr,st,r,e=>by
  have ih:=aaz h os;unfold ei at e ⊢;cases hw:cJ fr o.guard with
  |none=>simp[hw]at e
  | some b=>cases b with
    |false=>simp only[hw]at e ⊢; exact ih _ _ _ _ _ e
    |   true=>
        simp only[hw]at e ⊢;cases hx:fP fr o.xs with
        |none=>simp[hx]at e
        |some xs=>
         simp only[hx]at e ⊢;cases hc:o.cls with
         |  bh=>
            simp only[hc]at e ⊢;cases hs:cC c o.k xs st with
            |none=>simp[hs]at e
            |some p=>simp only[hs]at e;simp only[Rw h hs];exact ih _ _ _ _ _ e
         |  new=>
            simp only[hc]at e ⊢;split at e<;>first|(cases e;done)|exact ih _ _ _ _ _ e
         |  pure=>
            simp only[hc]at e ⊢;split at e<;>(try split at e)<;>(try split at e)<;>first|(cases e;done)|(simp only[*];exact ih _ _ _ _ _ e)|exact ih _ _ _ _ _ e
         |  read=>
            simp only[hc]at e ⊢;split at e<;>(try split at e)<;>(try split at e)<;>first|(cases e;done)|(simp only[*];exact ih _ _ _ _ _ e)|exact ih _ _ _ _ _ e
theorem Yg(h:Zz c c'):∀(n m:Nat),n<=m->∀(a:AC)(fr:Fr)(st:St)(r:oE×Fr×St),exec c n a fr st=some r->exec c' m a fr st=some r
 |0,_,_,_,_,_,_,e=>by simp[exec]at e
 |n+1,0,hm,_,_,_,_,_=>by omega
 |n+    1,m+1,hm,a,fr,st,r,e=>by
  have ih:=Yg h n m (by omega);cases a<;>simp only[exec,bC]at e ⊢
  case skip=>exact e
  case exit=>exact e
  case ret=>exact e
  case region ops=>
   cases ho:mE c ops fr st with
   |none=>simp[ho]at e
   |some p=>simp only[ho]at e;simp only[Yf h _ _ _ _ ho];exact e
  case draw ops=>
   cases ho:ei c ops [] st.heap fr st with
   |none=>simp[ho]at e
   |some p=>simp only[ho]at e;simp only[aaz h _ _ _ _ _ _ ho];exact e
  case seq a b=>
   cases ha:exec c n a fr st with
   |none=>simp[ha]at e
   |    some p=>
        obtain⟨ex,eX,bD⟩:=p;simp only[ha]at e;simp only[ih _ _ _ _ ha];cases ex<;>first|exact e|exact ih _ _ _ _ e
  case cond x a b=>
   split at e
   .    exact ih _ _ _ _ e
   .    exact ih _ _ _ _ e
   .    cases e
  case block id a=>
   cases ha:exec c n a fr st with
   |none=>simp[ha]at e
   |    some p=>
        obtain⟨ex,eX,bD⟩:=p;simp only[ha]at e;simp only[ih _ _ _ _ ha];cases ex<;>exact e
  case loop a=>
   cases ha:exec c n a fr st with
   |none=>simp[ha]at e
   |    some p=>
        obtain⟨ex,eX,bD⟩:=p;simp only[ha]at e;simp only[ih _ _ _ _ ha];cases ex<;>first|exact e|exact ih _ _ _ _ e
end
def Plain(v:AV):Prop:=∀(ρ ρ':Pos->Loc)(n n':Nat)(C:Cells)(x:Value),aC ρ n C v x->aC ρ' n' C v x
theorem Plain.bool(b:Bool):Plain (.bool b):=λ_ _ _ _ _ _ h=>by cases h;exact .bool b
theorem Plain.int(k:IntKind)(i:Int):Plain (.int k i):=λ_ _ _ _ _ _ h=>by cases h;exact .int k i
theorem Plain.str(s:List Nat):Plain (.str s):=λ_ _ _ _ _ _ h=>by cases h with|str _ bs h=>exact .str s bs h
theorem Plain.jf:Plain .jf:=λ_ _ _ _ _ _ h=>by cases h;exact .jf
theorem Plain.af:Plain .af:=λ_ _ _ _ _ _ h=>by cases h;exact .af
theorem Plain.jM:Plain .jM:=λ_ _ _ _ _ _ h=>by cases h;exact .jM
theorem Plain.func(f:FuncId){a b:List AV}(ha:∀v∈a,Plain v)(hb:∀v∈b,Plain v):Plain (.func f a b):=λ_ _ _ _ _ _ h=>by
 cases h with
 |func _ _ _ a' b' hx hy h1 h2=>exact .func f a b a' b' hx hy (λi v x hv hx=>ha v (Zc1 hv) _ _ _ _ _ _ (h1 i v x hv hx)) (λi v x hv hx=>hb v (Zc1 hv) _ _ _ _ _ _ (h2 i v x hv hx))
theorem Plain.tuple{l:List AV}(hl:∀v∈l,Plain v):Plain (.tuple l):=λ_ _ _ _ _ _ h=>by
 cases h with
 |tuple _ cs hx h1=>exact .tuple l cs hx λi v x hv hx=>hl v (Zc1 hv) _ _ _ _ _ _ (h1 i v x hv hx)
theorem Plain.agg{l:List AV}(hl:∀v∈l,Plain v):Plain (.agg l):=λ_ _ _ _ _ _ h=>by
 cases h with
 |agg _ cs hx h1=>exact .agg l cs hx λi v x hv hx=>hl v (Zc1 hv) _ _ _ _ _ _ (h1 i v x hv hx)
theorem Plain.fl{xs:List (List AV)}{es:Nat}(hl:∀cs∈xs,∀v∈cs,Plain v):Plain (.fl xs es):=λ_ _ _ _ _ _ h=>by
 cases h with
 |fl _ _ bn a cell h1 h2 h3 h4 h5=>exact .fl xs es bn a cell h1 h2 h3 h4 λi j cs v hi hj=>hl cs (Zc1 hi) v (Zc1 hj) _ _ _ _ _ _ (h5 i j cs v hi hj)
def aX(st st':St):Prop:=∀b x,st.heap.get b=some x->st'.heap.get b=some x
theorem aX.refl(st:St):aX st st:=λ_ _ h=>h
theorem aX.trans{a b c:St}(h:aX a b)(k:aX b c):aX a c:=λ_ _ e=>k _ _ (h _ _ e)
theorem aC.down{ρ ρ':Pos->Loc}{n n':Nat}{C:Cells}{v:AV}{x:Value}(h:aC ρ' n' C v x):∀{y:Value},aC ρ n C v y->(∀b:Pos,b.toNat<n->ρ' b=ρ b)->aC ρ n C v x:=by
 induction h with
 |bool b=>exact λh _=>.bool b
 |int k i=>exact λh _=>.int k i
 |str s bs h=>exact λ_ _=>.str s bs h
 |jf=>exact λ_ _=>.jf
 |ptr b off h=>
  intro y h bE;cases h with
  |ptr _ _ h'=>rw[bE b h'];exact .ptr b off h'
 |fp xs i j es aM base cell hl hc hv ih=>
  intro y h bE;cases h with
  |fp _ _ _ es' HX akV auY hl' Zt ON=>exact .fp xs i j es aM base cell hl hc λi j cs v hi hj=>ih i j cs v hi hj (ON i j cs v hi hj) bE
 |af=>exact λ_ _=>.af
 |slice  b off len cap es bn a hl hc ha hk=>
  intro y h bE;cases h with
  |slice _ _ _ _ _ arH a' hl' Zt ha' pF=>
   refine .slice b off len cap es bn a hl hc (λh0=> ?_) pF;obtain⟨h1,h2,h3⟩:=ha h0;have hb:b.toNat<n:=by
        cases cap with
        |none=>exact pF rfl
        |some c=>
         have e1:=hc c rfl;have e2:=Zt c rfl;exact(ha' (by rw[<-e2,e1];exact h0)).1
   rw[bE b hb]at h2 h3;exact⟨hb,h2,h3⟩
 |fl xs es bn a cell hl hs dW hc hv ih=>
  intro y h bE;cases h with
  |fl _ _ arH a' auY hl' qw hes' Zt ON=>exact .fl xs es bn a cell hl hs dW hc λi j cs v hi hj=>ih i j cs v hi hj (ON i j cs v hi hj) bE
 |qp=>exact λ_ _=>.qp
 |map b h=>
  intro y h bE;cases h with
  |map _ h'=>rw[bE b h'];exact .map b h'
 |func f x y x' y' hx hy h1 h2 ih1 ih2=>
  intro z h bE;cases h with
  |func _ _ _ a' b' kx ky k1 k2=>
   refine .func f x y x' y' hx hy (λi v x hv wC=> ?_) (λi v x hv wC=> ?_)
   .    have hi:i<a'.size:=(by rw[<-kx];exact(Za1.1 hv).1);exact ih1 i v x hv wC (k1 i v _ hv (Zg0 hi)) bE
   .    have hi:i<b'.size:=(by rw[<-ky];exact(Za1.1 hv).1);exact ih2 i v x hv wC (k2 i v _ hv (Zg0 hi)) bE
 |jM=>exact λ_ _=>.jM
 |Bh=>exact λ_ _=> .Bh
 |iface t v x _ ih=>
  intro y h bE;cases h with
  |iface _ _ x' h'=>exact .iface t v x (ih h' bE)
 |agg l cs hx h1 ih=>
  intro y h bE;cases h with
  |agg _ mJ kx k1=>
   (refine .agg l cs hx λi v x hv wC=> ?_);have hi:i<mJ.size:=(by rw[<-kx];exact(Za1.1 hv).1);exact ih i v x hv wC (k1 i v _ hv (Zg0 hi)) bE
 |tuple l cs hx h1 ih=>
  intro y h bE;cases h with
  |tuple _ mJ kx k1=>
   (refine .tuple l cs hx λi v x hv wC=> ?_);have hi:i<mJ.size:=(by rw[<-kx];exact(Za1.1 hv).1);exact ih i v x hv wC (k1 i v _ hv (Zg0 hi)) bE
end
noncomputable section
open Go Go.RowKit
def tidy(st:St)(r:AV×St):AV×St:=open Classical in if Plain r.1/\aX st r.2 then(r.1,st)else r
theorem bV.back{ρ ρ':Pos->Loc}{C:Cells}{st bD:St}{w w1:World}(hW:bV ρ C st w)(hk:aX st bD)(bE:∀b:Pos,b.toNat<st.next.toNat->ρ' b=ρ b)(ji:bV ρ' C bD w1)(hs:w.heap.size<=w1.heap.size):bV ρ C st w1:=by
 refine⟨λb y hb=> ?_,hW.inj,λa u ha=>⟨(ji.dS a u ha).1,(hW.dS a u ha).2⟩,ji.whole⟩;obtain⟨g1,g2,g3⟩:=hW.live b y hb;obtain⟨_,_,k3⟩:=ji.live b y (hk b y hb);refine⟨g1,Zd1 g2 hs,?_⟩;rw[bE b g1]at k3;cases y with
 |cells cs fz=>
  obtain⟨c,e,fr,q1,q2,q3,q4,q5⟩:=k3;obtain⟨c0,e0,cW,p1,p2,p3,p4,p5⟩:=g3;refine⟨c,e,fr,q1,q2,q3,⟨q4.1,λi v x hv hx=> ?_⟩,q5⟩;obtain⟨y0,hy0,hv0⟩:=p4.get hv;exact(q4.2 i v x hv hx).down hv0 bE
 |map es clock=>
  obtain⟨es',q1,q2,q3⟩:=k3;obtain⟨es0,p1,p2,p3⟩:=g3;refine⟨es',q1,q2,λi e e' he rf=> ?_⟩;obtain⟨a1,a2,a3⟩:=q3 i e e' he rf;have hi:i<es0.size:=by rw[<-p2];exact(Za1.1 he).1
  obtain⟨b1,b2,_⟩:=p3 i e _ he (Zg0 hi);exact⟨a1.down b1 bE,a2.down b2 bE,a3⟩
theorem amO{ρ:Pos->Loc}{C:Cells}{st:St}{w w':World}{r:AV×St}{x:Value}(hW:bV ρ C st w)(h:kV ρ C st w r.1 r.2 x w'):
   kV ρ C st w (tidy st r).1 (tidy st r).2 x w':=by
 unfold tidy;split
 .rename_i hp;obtain⟨ρ',hv,bE,hn,ji,hE⟩:=h;exact⟨ρ,hp.1 _ _ _ _ _ _ hv,λ_ _=>rfl,Za3 _,hW.back hp.2 bE ji hE.size,⟨hE.os,hE.tape,hE.output,hE.size,hE.block,λb y hb=>.inl ⟨b,y,hb,rfl⟩⟩⟩
 .exact h
theorem amP{st:St}{r:AV×St}(h:st.next.toNat<=r.2.next.toNat):st.next.toNat<=(tidy st r).2.next.toNat:=by
 unfold tidy;split
 .exact Za3 _
 .exact h
def xK(O:eP)(G:T dM)(m:Nat):Nat->aj
 |0=>λ_ _ _=>none
 |  d+1=>λf args st=>match O f with
    |some s=>s args st
    |none=>match G.get (key f)with
     |some F=>(xI (xK O G m d) m F args st).map (tidy st)
     |none=>none
section
variable{P:Program}{tt:TT}{C:Cells}
theorem amQ{call:aj}(hm:o9 call){m:Nat}{F:dM}{args:List AV}{st:St}{v:AV}{st':St}(h:xI call m F args st=some (v,st')):st.next.toNat<=st'.next.toNat:=by
 unfold xI at h;split at h<;>first|(cases h;done)|skip
 split at h<;>first|(cases h;done)|skip
 all_goals
  rename_i h1;split at h<;>first|(cases h;done)|skip
  simp only[H5,Zd4]at h;obtain⟨rfl,rfl⟩:=h;exact MP hm _ _ _ _ _ _ _ h1
theorem abP{O:eP}{G:T dM}(hO:oG O)(m:Nat):∀d,o9 (xK O G m d)
 |0=>λf args st v st' h=>by simp[xK]at h
 |d +1=>λf args st v st' h=>by
  unfold xK at h;split at h
  .rename_i s hs;exact hO _ _ hs _ _ _ _ h
  . (split at h<;>first|(cases h;done)|skip);simp only[Zf6]at h;obtain⟨r,hr,he⟩:=h;have:=amQ (abP hO m d) (v:=r.1) (st':=r.2) hr;have:=amP this;rw[he]at this;exact this
theorem ZA(hm:P.follows .mixedOrders=true)(hT:dh P tt){O:eP}{G:T dM}(hO:vu P C O)(Vz:oG O)(hG:GOk P tt G)(m:Nat):∀d,iX P C (xK O G m d)
 |0=>λρ st w f args v st' bZ h=>by simp[xK]at h
 |d +1=>by
  intro ρ st w f args v st' bZ h hW xJ;have ih:=ZA hm hT hO Vz hG m d;unfold xK at h;split at h
  .rename_i s hs;exact hO f s hs ρ st w args v st' bZ h hW xJ
  . (split at h<;>first|(cases h;done)|skip);rename_i F hF;simp only[Zf6]at h;obtain⟨r,hr,he⟩:=h;refine Reaches.mono (λx w' hp=> ?_) (abE hT hG ih (Rn hm hT ih (abP Vz m d)) m hF (v:=r.1) (st':=r.2) hr hW xJ);have:=amO hW hp;rw[he]at this;exact this
end
theorem ajz{c c':aj}(h:Zz c c'){n m:Nat}(hn:n<=m){F:dM}{args:List AV}{st:St}{r:AV×St}(e:xI c n F args st=some r):xI c' m F args st=some r:=by
 unfold xI at e ⊢;split at e<;>first|(cases e;done)|skip
 split at e<;>first|(cases e;done)|skip
 all_goals
  rename_i h1;simp only[Yg h n m hn _ _ _ _ h1];exact e
theorem aaA(O:eP)(G:T dM){n m:Nat}(hn:n<=m):∀d d',d<=d'->Zz (xK O G n d) (xK O G m d')
 |0,_,_=>λ_ _ _ _ e=>by simp[xK]at e
 |_+1,0,h=>by omega
 |d +1,d'+1,h=>λf args st r e=>by
  have ih:=aaA O G hn d d' (by omega);unfold xK at e ⊢;split at e
  .exact e
  . (split at e<;>first|(cases e;done)|skip);simp only[Zf6]at e ⊢;obtain⟨q,hq,he⟩:=e;exact⟨q,ajz ih hn hq,he⟩
def cn(O:eP)(G:T dM)(n:Nat):aj:=xK O G n n
theorem Rx(O:eP)(G:T dM){n m:Nat}(h:n<=m):Zz (cn O G n) (cn O G m):=aaA O G h n m h
def run(O:eP)(G:T dM):aj:=λf args st=>open Classical in
 if h:∃(r:AV×St) (n:Nat),cn O G n f args st=some r then some h.choose else none
variable{O:eP}{G:T dM}
theorem amR{f:FuncId}{args:List AV}{st:St}{r:AV×St}{n:Nat}(h:cn O G n f args st=some r):run O G f args st=some r:=by
 unfold run;have hx:∃(r:AV×St) (n:Nat),cn O G n f args st=some r:=⟨r,n,h⟩
 rw[dif_pos hx];obtain⟨m,hm⟩:=hx.choose_spec;have h1:=Rx O G (Zj9 n m) f args st _ h;have h2:=Rx O G (Zj0 n m) f args st _ hm;rw[h1]at h2;exact h2.symm
theorem agG{f:FuncId}{args:List AV}{st:St}{r:AV×St}(h:run O G f args st=some r):∃n,cn O G n f args st=some r:=by
 unfold run at h;split at h
 .rename_i hx;simp only[H5]at h;rw[<-h];exact hx.choose_spec
 .cases h
theorem abQ{k:aE}{xs:List AV}{st:St}{r:AV×St}(e:cC (run O G) k xs st=some r):∃n,cC (cn O G n) k xs st=some r:=by
 unfold cC at e;cases hr:k.run (λb=>st.heap.get b) st.next xs with
 |none=>simp[hr]at e
 |some x=>cases x with
  |val v=>exact⟨0,by simpa [cC,hr]using e⟩
  |bh v d s n=>exact⟨0,by simpa [cC,hr]using e⟩
  |call f args=>
   simp only[hr]at e;obtain⟨n,hn⟩:=agG e;exact⟨n,by simpa [cC,hr]using hn⟩
theorem VF:∀(os:List bS)(fr:Fr)(st:St)(r:Fr×St),mE (run O G) os fr st=some r->∃n,mE (cn O G n) os fr st=some r
 |[],_,_,_,e=>⟨0,e⟩
 |o::os,fr,st,r,e=>by
  unfold mE at e;cases hw:cJ fr o.guard with
  |none=>simp[hw]at e
  |some b=>cases b with
   |    false=>
        simp only[hw]at e;obtain⟨n,hn⟩:=VF os _ _ _ e;exact⟨n,by unfold mE;simp only[hw];exact hn⟩
   |    true=>
        simp only[hw]at e;cases hx:fP fr o.xs with
        |none=>simp[hx]at e
        |some xs=>
         simp only[hx]at e;cases hs:cC (run O G) o.k xs st with
         |none=>simp[hs]at e
         |some p=>
          simp only[hs]at e;obtain⟨n,hn⟩:=VF os _ _ _ e;obtain⟨m,hm⟩:=abQ hs;refine⟨max n m,?_⟩;unfold mE;simp only[hw,hx,Rw (Rx O G (Zj0 n m)) hm];exact Yf (Rx O G (Zj9 n m)) _ _ _ _ hn
theorem abR: ∀(os:List (Nat×bS))(recs:List Rec)(base:T AB)(fr:Fr)(st:St)(r:Fr×St),ei (run O G) os recs base fr st=some r->∃n,ei (cn O G n) os recs base fr st=some r
 |[],_,_,_,_,_,e=>⟨0,e⟩
 |(j,   o):: os,recs,base,fr,st,r,e=>by
  have ih:=abR os;unfold ei at e;cases hw:cJ fr o.guard with
  |none=>simp[hw]at e
  | some b=>cases b with
    |   false=>
        simp only[hw]at e;obtain⟨n,hn⟩:=ih _ _ _ _ _ e;exact⟨n,by unfold ei;simp only[hw];exact hn⟩
    |   true=>
        simp only[hw]at e;cases hx:fP fr o.xs with
        |none=>simp[hx]at e
        |some xs=>
         simp only[hx]at e;cases hc:o.cls with
         | bh=>
           simp only[hc]at e;cases hs:cC (run O G) o.k xs st with
           |none=>simp[hs]at e
           | some p=>
             simp only[hs]at e;obtain⟨n,hn⟩:=ih _ _ _ _ _ e;obtain⟨m,hm⟩:=abQ hs;refine⟨max n m,?_⟩;unfold ei;simp only[hw,hx,hc,Rw (Rx O G (Zj0 n m)) hm];exact aaz (Rx O G (Zj9 n m)) _ _ _ _ _ _ hn
         | new=>
           simp only[hc]at e;(split at e<;>first|(cases e;done)|skip);obtain⟨n,hn⟩:=ih _ _ _ _ _ e;refine⟨n,?_⟩;unfold ei;simp only[*]
         | pure=>
           simp only[hc]at e;split at e<;>(try split at e)<;>(try split at e)<;>first|(cases e;done)|skip
           all_goals
             obtain⟨n,hn⟩:=ih _ _ _ _ _ e;refine⟨n,?_⟩;unfold ei;simp only[*]
         | read=>
           simp only[hc]at e;split at e<;>(try split at e)<;>(try split at e)<;>first|(cases e;done)|skip
           all_goals
             obtain⟨n,hn⟩:=ih _ _ _ _ _ e;refine⟨n,?_⟩;unfold ei;simp only[*]
theorem aeq:∀(n:Nat)(a:AC)(fr:Fr)(st:St)(r:oE×Fr×St),exec (run O G) n a fr st=some r->∃m,exec (cn O G m) n a fr st=some r
 |0,_,_,_,_,e=>by simp[exec]at e
 |n+    1,a,fr,st,r,e=>by
  have ih:=aeq n;have up:∀{m m':Nat}{a:AC}{fr:Fr}{st:St}{r:oE×Fr×St},m<=m'->exec (cn O G m) n a fr st=some r->exec (cn O G m') n a fr st=some r:=
   λh e=>Yg (Rx O G h) _ _ (Za3 _) _ _ _ _ e
  cases a<;>simp only[exec,bC]at e
  case skip=>exact⟨0,e⟩
  case exit=>exact⟨0,e⟩
  case ret=>exact⟨0,e⟩
  case region ops=>
   cases ho:mE (run O G) ops fr st with
   |none=>simp[ho]at e
   |    some p=>
        obtain⟨m,hm⟩:=VF _ _ _ _ ho;exact⟨m,by simp only[exec,bC,hm];simpa only[ho]using e⟩
  case draw ops=>
   cases ho:ei (run O G) ops [] st.heap fr st with
   |none=>simp[ho]at e
   |    some p=>
        obtain⟨m,hm⟩:=abR _ _ _ _ _ _ ho;exact⟨m,by simp only[exec,bC,hm];simpa only[ho]using e⟩
  case seq a b=>
   cases ha:exec (run O G) n a fr st with
   |none=>simp[ha]at e
   |    some p=>
        obtain⟨ex,eX,bD⟩:=p;simp only[ha]at e;obtain⟨m,hm⟩:=ih _ _ _ _ ha;cases ex with
        |normal=>
         obtain⟨m',hm'⟩:=ih _ _ _ _ e;exact⟨max m m',by simp only[exec,bC,up (Zj9 m m') hm];exact up (Zj0 m m') hm'⟩
        |exit i=>exact⟨m,by simp only[exec,bC,hm];exact e⟩
        |ret=>exact⟨m,by simp only[exec,bC,hm];exact e⟩
  case cond x a b=>
   split at e
   .    rename_i hx;obtain⟨m,hm⟩:=ih _ _ _ _ e;exact⟨m,by simp only[exec,bC,hx];exact hm⟩
   .    rename_i hx;obtain⟨m,hm⟩:=ih _ _ _ _ e;exact⟨m,by simp only[exec,bC,hx];exact hm⟩
   .    cases e
  case block id a=>
   cases ha:exec (run O G) n a fr st with
   |none=>simp[ha]at e
   |    some p=>
        obtain⟨ex,eX,bD⟩:=p;simp only[ha]at e;obtain⟨m,hm⟩:=ih _ _ _ _ ha;exact⟨m,by simp only[exec,bC,hm];exact e⟩
  case loop a=>
   cases ha:exec (run O G) n a fr st with
   |none=>simp[ha]at e
   |    some p=>
        obtain⟨ex,eX,bD⟩:=p;simp only[ha]at e;obtain⟨m,hm⟩:=ih _ _ _ _ ha;cases ex with
        |normal=>
         obtain⟨m',hm'⟩:=ih _ _ _ _ e;exact⟨max m m',by simp only[exec,bC,up (Zj9 m m') hm];exact up (Zj0 m m') hm'⟩
        |exit i=>exact⟨m,by simp only[exec,bC,hm];exact e⟩
        |ret=>exact⟨m,by simp only[exec,bC,hm];exact e⟩
theorem apy{f:FuncId}{F:dM}{args:List AV}{st:St}{r:AV×St}{n:Nat}(ho:O f=none)(hF:G.get (key f)=some F)(h:xI (run O G) n F args st=some r):
   run O G f args st=some (tidy st r):=by
 unfold xI at h;split at h<;>first|(cases h;done)|skip
 rename_i hlen
 have fin:∀{ex fr st'},exec (run O G) n F.code (params 0 args .e) st=some (ex,fr,st')->(∀m k,exec (cn O G m) k F.code (params 0 args .e) st=some (ex,fr,st')->xI (cn O G m) k F args st=some r)->
    run O G f args st=some (tidy st r):=λh1 h2=>by
   obtain⟨m,hm⟩:=aeq _ _ _ _ _ h1;refine amR (n:=max n m+1) ?_;unfold cn xK;simp only[ho,hF];have:=h2 m n hm;have h3:=ajz (aaA O G (n:=m) (m:=max n m+1) (by have:=Zj0 n m;omega) m (max n m) (Zj0 n m)) (m:=max n m+1) (by have:=Zj9 n m;omega) this;rw[h3];rfl
 split at h<;>first|(cases h;done)|skip
 .rename_i h1;exact fin h1 λm k hk=>by unfold xI;simp only[hlen,hk];exact h
 .rename_i h1;exact fin h1 λm k hk=>by unfold xI;simp only[hlen,hk];exact h
theorem abS{f:FuncId}{s:List AV->St->Option (AV×St)}(ho:O f=some s){args:List AV}{st:St}{r:AV×St}(h:s args st=some r):run O G f args st=some r:=
 amR (n:=1) (by unfold cn xK;simp only[ho];exact h)
theorem aer{P:Program}{tt:TT}{C:Cells}(hm:P.follows .mixedOrders=true)(hT:dh P tt)(hO:vu P C O)(Vz:oG O)(hG:GOk P tt G):iX P C (run O G):=by intro ρ st w f args v st' bZ h hW xJ;obtain⟨n,hn⟩:=agG h;exact ZA hm hT hO Vz hG n n ρ st w f args v st' bZ hn hW xJ
section
variable{ρ ρ':Pos->Loc}{C:Cells}{st bD:St}{w w1 w':World}{nt r:Nat}{fr eX:Fr}{a a1:Act}
theorem kQ.sub{n:Nat}{tmps:Array Value}(h:kQ ρ n C eX tmps)(hf:∀p v,fr.get p=some v->eX.get p=some v):kQ ρ n C fr tmps:=λp v hp=>h p v (hf p v hp)
theorem yl.back(hS:yl nt ρ C fr st a w)(hf:∀p v,fr.get p=some v->eX.get p=some v)(hk:aX st bD)(h:kJ nt ρ C st w eX bD a1 w1):
  yl nt ρ C fr st a1 w1/\oJ ρ st w ρ st w1:=by
 obtain⟨jW,S1,k1,k2,E⟩:=h;refine⟨⟨hS.W.back hk k1 S1.W E.size,λp v hp=> ?_,S1.size,S1.defers⟩,⟨E.os,E.tape,E.output,E.size,E.block,λb x hb=>.inl ⟨b,x,hb,rfl⟩⟩⟩;obtain⟨x,hx,hv⟩:=S1.F p v (hf p v hp);obtain⟨y,_,hy⟩:=hS.F p v hp;exact⟨x,hx,hv.down hy k1⟩
theorem bV.iter{m:Option Nat}{s c:Nat}{seen:Array Nat}(hW:bV ρ C st w)(hr:w.heap[r]? =some (.mapIter m s seen c))(hn:∀b x,st.heap.get b=some x->(ρ b).aM≠r)
   (hs:w'.heap.size=w.heap.size) (hk:∀k,k≠r->w'.heap[k]? =w.heap[k]?):bV ρ C st w':=by
 have cN:∀a v,C a=some v->a.block≠r:=λa v ha e=>by have h:=(hW.dS a v ha).1;unfold World.cell? at h;rw[e,hr]at h;cases h
 refine⟨λb x hb=> ?_,hW.inj,λa v ha=> ?_,λa v ha o ho=> ?_⟩
 .obtain⟨h1,h2,h3⟩:=hW.live b x hb;exact⟨h1,by rw[hs];exact h2,h3.of_heap (hk _ (hn b x hb))⟩
 .obtain⟨h1,h2⟩:=hW.dS a v ha;exact⟨by rw[World.cell?_of_block (w:=w) (hk _ (cN a v ha))];exact h1,h2⟩
 .rw[World.cell?_of_block (w:=w) (a:=⟨a.block,o,none⟩) (hk _ (cN a v ha))];exact hW.whole a v ha o ho
end
def T.sub{α:Type}(f:α->α->Bool):T α->T α->Bool
 |.e,_=>true
 |.n l v r,.e=>(match v with|none=>true|some _=>false)&&T.sub f l .e&&T.sub f r .e
 |  .n l v r,.n l' v' r'=>(match v with
    |none=>true
    |some a=>match v' with
     |some b=>f a b
     |none=>false)&&T.sub f l l'&&T.sub f r r'
theorem T.Ko{α:Type}{f:α->α->Bool}(hf:∀a b,f a b=true->a=b):∀{t u:T α},T.sub f t u=true->∀p v,t.get p=some v->u.get p=some v
 |.e,_,_,p,v,h=>by rw[T.dN]at h;cases h
 | .n l x r,.e,hs,p,v,h=>by
   simp only[T.sub,Zb2]at hs;cases p with
   |h=>simp only[T.get]at h;subst h;simp at hs
   |o p=>have:=T.Ko hf hs.1.2 p v h;rw[T.dN]at this;cases this
   |i p=>have:=T.Ko hf hs.2 p v h;rw[T.dN]at this;cases this
 | .n l x r,.n l' x' r',hs,p,v,h=>by
   simp only[T.sub,Zb2]at hs;cases p with
   |h=>
    simp only[T.get]at h ⊢; subst h;have h1:=hs.1.1;cases x' with
    |none=>simp at h1
    |some y=>simp at h1;rw[hf _ _ h1]
   |o p=>exact T.Ko hf hs.1.2 p v h
   |i p=>exact T.Ko hf hs.2 p v h
structure RG where
 t17:Nat
 t18:Nat
 t19:Nat
 t20:Nat
 l2:List bS
 x:gX
 l4:List bS
 body:AC
 ds:List Pos
abbrev XR:=Option (oE×Fr×St)
section
variable(bW:sy XR)(m:Nat)(g:RG)
def exK(c:AC)(fr:Fr)(st:St):XR:=abt none bW m c fr st (λfr st=>some (.normal,fr,st)) (λi fr st=>some (.exit i,fr,st)) (λfr st=>some (.ret,fr,st))
def akW(k v:AV)(fr:Fr)(st:St):XR:=
 wT (some (.tuple [.bool true,k,v])) (key g.t18) fr λfr=>wT (some (.bool true)) (key g.t19) fr λfr=>wT (some (.tuple [k,v])) (key g.t20) fr λfr=>
    ac3 none bW g.l4 fr st λfr st=>exK bW m g.body fr st
def agH:List Pos->Fr->(Fr->XR)->XR
 |[],fr,k=>k fr
 |p::ps,fr,k=>wT none p fr λfr=>agH ps fr k
def Ry(fr:Fr)(st:St)(e:AV×AV×Nat):Bool:=match akW bW m g e.1 e.2.1 fr st with
 |some (.normal,eX,bD)=>T.sub eO fr eX&&T.sub abM st.heap bD.heap
 |_=>false
def adf(clock:Nat):List (AV×AV×Nat)->Bool
 |[]=>true
 |e::es=>Nat.blt e.2.2 clock&&es.all (λx=> !Nat.beq x.2.2 e.2.2)&&adf clock es
def akX (fr:  Fr) (st:St):XR:=
 ac3  none bW g.l2 fr st λfr st=>evK none fr g.x λ
    | .map b=>match Bj b st.heap with
      | some (.map es clock)=>match adf clock es with
        |true=>   agH g.ds fr λfr=>wT (some (.ptr st.next 0)) (key g.t17) fr λfr=>abr st.next λn=>
           match es.filter (λe=> !Ry bW m g fr { heap:=st.heap,next:=n } e)with
           |[]=>some (.normal,fr,{ heap:=st.heap,next:=n })
           |  [e] =>match akW bW m g e.1 e.2.1 fr { heap:=st.heap,next:=n }with
              |some (.normal,eX,bD)=>agH g.ds eX λeX=>
                  match Bj b bD.heap,Bj (key g.t17) eX with
                  |some y,some v=>match abM y (.map es clock)&&eO v (.ptr st.next 0)&&es.all (λx=>Nat.beq x.2.2 e.2.2||Ry bW m g eX bD x)with
                   |true=>some (.normal,eX,bD)
                   |false=>none
                  |_,_=>none
              |_=>none
           |_=>none
        |false=>none
      |_=>none
    |_=>none
end
section
variable{P:Program}{tt:TT}{C:Cells}
def pG(P:Program)(C:Cells)(nt:Nat)(c:Code)(ex:Fr->St->XR):Prop:=
 ∀  (fr bI:Fr)(st st':St)(e:oE)(ρ:Pos->Loc)(a:Act)(w:World)(Q:Exit->Act->World->Prop),ex fr st=some (e,bI,st')->yl nt ρ C fr st a w->
    (∀a' w',kJ nt ρ C st w bI st' a' w'->Q (OX e) a' w')->c.wp P Q a w
theorem amS{bW:sy XR}{call:aj}(hc:CK none bW call)(m:Nat)(c:AC)(fr:Fr)(st:St):exK bW m c fr st=exec call m c fr st:=by
 unfold exK;rw[aax none hc];cases exec call m c fr st with
 |none=>rfl
 |some x=>obtain⟨e,fr,st⟩:=x;cases e<;>rfl
theorem pG.ac(hT:dh P tt){bW:sy XR}{call:aj}(hc:CK none bW call)(dD:iX P C call)(lZ:ym P tt C call){nt m:Nat}{c:Code}{a:AC}(h:vq tt nt c=some a):
 pG P C nt c (exK bW m a):=λfr bI st st' e ρ ac w Q hx hS hQ=>(CC hT dD lZ m).1 c a fr bI st st' e ρ ac w Q h (by rw[<-amS hc];exact hx) hS hQ
def apz(x y:Fr->St->XR)(fr:Fr)(st:St):XR:=match x fr st with
 |some (.normal,fr,st)=>y fr st
 |r=>r
theorem pG.seq{nt:Nat}{c d:Code}{x y:Fr->St->XR}(hc:pG P C nt c x)(hd:pG P C nt d y):pG P C nt (.seq c d) (apz x y):=by
 intro fr bI st st' e ρ a w Q h hS hQ;unfold apz at h;apply wp_seq;split at h
 .rename_i eX bD h1;(refine hc fr eX st bD .normal ρ a w _ h1 hS λa1 w1 hp=> ?_);obtain⟨jW,S1,k1,k2,k3⟩:=hp;exact hd eX bI bD st' e jW a1 w1 Q h S1 λa2 w2 hp=>hQ a2 w2 (kJ.trans k1 k2 k3 hp)
 . rename_i cN;(refine hc fr bI st st' e ρ a w _ h hS λa1 w1 hp=> ?_);cases e with
   |normal=>exact(cN _ _ h).elim
   |exit id=>exact hQ a1 w1 hp
   |ret=>exact hQ a1 w1 hp
def clr:List Pos->Fr->Fr
 |[],fr=>fr
 |p::ps,fr=>clr ps (fr.put none p)
theorem ajA:∀(ps:List Pos)(fr:Fr)(k:Fr->XR),agH ps fr k=k (clr ps fr)
 |[],_,_=>rfl
 |p::ps,fr,k=>by simp only[agH,oa,clr];exact ajA ps _ k
theorem adg:∀(ps:List Pos)(fr:Fr)(p:Pos)(v:AV),(clr ps fr).get p=some v->fr.get p=some v
 |[],_,_,_,h=>h
 |q::ps,fr,p,v,h=>by
  have h:=adg ps _ p v h;by_cases hq:q=p
  .subst hq;rw[T.gy]at h;cases h
  .rwa [T.b9 _ hq]at h
theorem adh{clock:Nat}:∀{es:List (AV×AV×Nat)},adf clock es=true->(∀e∈es,e.2.2<clock)/\(es.map (·.2.2)).Nodup
 |[],_=>⟨λ_ h=>by simp at h,by simp⟩
 |e ::es,h=>by
  simp only[adf,Zb2]at h;obtain⟨⟨h1,h2⟩,h3⟩:=h;obtain⟨i1,i2⟩:=adh h3;refine⟨λx hx=> ?_,?_⟩
  . rcases Za9.1 hx with rfl|hx
    .exact Zb5 h1
    .exact i1 x hx
  .rw[Zd3,List.nodup_cons];refine⟨λhm=> ?_,i2⟩;obtain⟨x,hx,he⟩:=Zc6.1 hm;have:=Zg8.1 h2 x hx;simp[he]at this
def Mv(bW:sy XR)(m:Nat)(g:RG)(A B:Fr×St)(e:AV×AV×Nat):Prop:=
 ∃f1 s1,akW bW m g e.1 e.2.1 A.1 A.2=some (.normal,f1,s1)/\(∀p v,B.1.get p=some v->f1.get p=some v)/\((B=A/\aX A.2 s1)\/B.2=s1)
theorem adi{bW:sy XR}{m:Nat}{g:RG}{fr:Fr}{st:St}{e:AV×AV×Nat}(h:Ry bW m g fr st e=true):Mv bW m g (fr,st) (fr,st) e:=by
 unfold Ry at h;split at h<;>first|(cases h;done)|skip
 rename_i f1 s1 h1;simp only[Zb2]at h;exact⟨f1,s1,h1,T.Ko (λ_ _=>yo) h.1,.inl ⟨rfl,T.Ko (λ_ _=>aay) h.2⟩⟩
section
variable{bW:sy XR}{call:aj}{nt m:Nat}{g:RG}{tG:Array Oper}{o0 o1 o4:Oper}{i3 i4 b0 b1:Nat}{rest:Code}{Tz:List bS}{bs:List Nat}
def akY(g:RG)(o0 o1:Oper)(tG:Array Oper)(rest:Code)(i3 i4 b0 b1:Nat):Code:=
 .seq (.region i3 #[o0,o1] false) (.seq (.cond (.tmp g.t19) .skip (.exit b0)) (.block b1 (.seq (.region i4 tG false) rest)))
structure apA(tt:TT)(nt:Nat)(g:RG)(o0 o1 o4:Oper)(tG:Array Oper)(rest:Code)(Tz:List bS)(bs:List Nat):Prop where
 n0:o0.op= .next (.tmp g.t17) false/\o0.guard=none/\o0.dst=some g.t18
 n1:o1.op= .extract (.tmp g.t18) 0/\o1.guard=none/\o1.dst=some g.t19
 n4:tG[0]? =some o4/\o4.op= .entry (.tmp g.t17)/\o4.guard=none/\o4.dst=some g.t20
 lt:g.t17<nt/\g.t18<nt/\g.t19<nt/\g.t20<nt
 ne:g.t17≠g.t18/\g.t17≠g.t19/\g.t18≠g.t19
 c4:uj tt nt tG tG.toList bs=some Tz
 l4:Tz.tail=g.l4
 r4:vq tt nt rest=some g.body
structure LI(C:Cells)(nt:Nat)(g:RG)(X:Fr×St)(b O8:Pos)(es:List (AV×AV×Nat))(since r:Nat)(nK:Pos->Loc)(VG:St)(w0:World)(seen:Array Nat)(ρ:Pos->Loc)(a:Act)(w:World):Prop where
 S:yl nt ρ C X.1 X.2 a w
 k1:∀p:Pos,p.toNat<VG.next.toNat->ρ p=nK p
 k2:VG.next.toNat<=X.2.next.toNat
 E:oJ nK VG w0 ρ X.2 w
 ip:(ρ O8).aM=r/\(ρ O8).base=0/\O8.toNat<X.2.next.toNat
 at17:X.1.get (key g.t17)=some (.ptr O8 0)
 mp:X.2.heap.get b=some (.map es since)
 it:∃c,w.heap[r]? =some (.mapIter (some (ρ b).aM) since seen c)/\since<=c
 yu:∀p x,X.2.heap.get p=some x->(ρ p).aM≠r
 late:w0.heap.size<=r
 cl:X.1.get (key g.t18)=none/\X.1.get (key g.t19)=none
theorem BS{ops:Array Oper}{Q:Exit->Act->World->Prop}{i:Nat}{rest:List Nat}{o:Oper}{a:Act}{w w':World}{v:Value}(ho:ops[i]? =some o)(hg:o.guard=none)
  (hr:(execOp a.eval o).run P w= .ok (.value v) w') (hQ:wpOps P ops Q rest (a.put o.dst v) w'):wpOps P ops Q (i::rest) a w:=by
 unfold wpOps;rw[ho];simp only[Region.wanted,hg,Zh1];refine .inl ?_;unfold Oper.wp;rw[hr];exact hQ
theorem eval_put{a:Act}{t:Nat}{v:Value}(h:t<a.tmps.size):(a.put (some t) v).eval (.tmp t)=v:=by
 simp[Act.put,Act.eval,h]
theorem ZB{a:Act}{t s:Nat}{v:Value}(h:t≠s):(a.put (some t) v).eval (.tmp s)=a.eval (.tmp s):=by
 simp[Act.put,Act.eval,Zk0 h]
theorem LI.round(hT:dh P tt)(hc:CK none bW call)(dD:iX P C call)(lZ:ym P tt C call)(hR:apA tt nt g o0 o1 o4 tG rest Tz bs)
   {A:Fr×St} {b O8:Pos} {es:List (AV×AV×Nat)} {since r:Nat} {nK:Pos->Loc} {VG:St} {w0:World} {seen:Array Nat} {ρ:Pos->Loc} {a:Act} {w:World}
   (L:LI C nt g A b O8 es since r nK VG w0 seen ρ a w) (dW:adf since es=true) {Q:Exit->Act->World->Prop}
   (akZ:(∀e∈es,seen.contains e.2.2=true)->∀a',yl nt ρ C A.1 A.2 a' w->Q (.exit b0) a' w)
   (auZ:∀e∈es,seen.contains e.2.2=false->∃B,Mv bW m g A B e/\B.1.get (key g.t17)=some (.ptr O8 0)/\B.2.heap.get b=some (.map es since)/\B.1.get (key g.t18)=none/\B.1.get (key g.t19)=none/\
     ∀ρ' a' w',LI C nt g B b O8 es since r nK VG w0 (seen.push e.2.2) ρ' a' w'->Q .normal a' w'):
   (akY g o0 o1 tG rest i3 i4 b0 b1).wp P Q a w:=by
 obtain⟨c,hr,hsc⟩:=L.it;obtain⟨g1,g2,es',q1,q2,q3⟩:=L.S.W.live b _ L.mp;obtain⟨aV,hnd⟩:=adh dW;have hat:∀(i:Nat)(e':MapEntry),es'[i]? =some e'->∃e,es[i]? =some e/\aC ρ A.2.next.toNat C e.1 e'.key/\aC ρ A.2.next.toNat C e.2.1 e'.val/\e.2.2=e'.born:=λi e' h=>by
   have hi:i<es.length:=(by rw[q2];exact(Zd2.1 h).1);exact⟨_,H0 hi,q3 i _ e' (H0 hi) h⟩
 have hold:∀x∈es'.toList,x.born<since:=λx hx=>by
   obtain⟨i,hi⟩:=Zf1.1 hx;obtain⟨e,h1,_,_,h2⟩:=hat i x (by simpa using hi);rw[<-h2];exact aV e (Zc1 h1)
 have dO:es'.toList.map (·.born)=es.map (·.2.2):=by
   apply Zi3;intro i;simp only[Zb7,Zi2];cases h:es'[i]? with
   | none=>
     have:es.length<=i:=(by rw[q2];exact Array.getElem?_eq_none_iff.1 h);rw[Zc2 this];rfl
   | some x=>
     obtain⟨e,h1,_,_,h2⟩:=hat i x h;rw[h1];simp[h2]
 have hit:a.eval (.tmp g.t17)= .pointer (some ⟨r,0,none⟩):=by
   have h:=Bk (x:= .tmp g.t17) (o:= .t (key g.t17)) rfl L.S.F (v:= .ptr O8 0) L.at17;obtain⟨_,h⟩:=h.qj;rw[h,L.ip.1,L.ip.2.1]
 have fQ:=L.S.size;have s18:∀(v:Value),g.t18<(a.put (some g.t18) v).tmps.size:=λv=>by rw[Act.j7,fQ];exact hR.lt.2.1
 have hrl:r<w.heap.size:=(Zd2.1 hr).1;unfold akY;apply wp_seq;apply wp_region;show wpOps P _ _ [0,1] a w;rcases run_next_at (P:=P) w o0.type r (ρ b).aM since c seen es' since hr q1 hold hsc with⟨h0,dJ⟩|⟨e',rf,w1,oC,dJ⟩
 . refine BS (i:=0) (o:=o0) rfl hR.n0.2.1 (v:= .tuple #[.bool false]) (w':=w) (by simp[execOp,hR.n0.1,hit,dJ,Result.andThen]) ?_;rw[hR.n0.2.2];refine BS (i:=1) (o:=o1) rfl hR.n1.2.1 (v:= .bool false) (w':=w) (by simp[execOp,hR.n1.1,eval_put (fQ ▸hR.lt.2.1),Instr.extract,Result.andThen]) ?_;rw[hR.n1.2.2];apply wp_seq;refine wp_cond_false (eval_put (by rw[Act.j7,fQ];exact hR.lt.2.2.1)) (wp_exit ?_);refine akZ (λe he=> ?_) _ ⟨L.S.W,λp v hp=> ?_,by rw[Act.j7,Act.j7];exact fQ,by rw[Act.mC,Act.mC];exact L.S.defers⟩
   .obtain⟨i,hi⟩:=Zf1.1 he;have OS:i<es'.size:=(by rw[<-q2];exact(Za1.1 hi).1);obtain⟨e2,h1,_,_,h2⟩:=hat i _ (Zg0 OS);rw[hi]at h1;cases h1;rw[h2];have hem:leftOf es' seen= #[]:=Zo9 h0;unfold leftOf at hem;rw[Array.filter_eq_empty_iff]at hem;have:=hem es'[i] (Array.getElem_mem OS);simpa using this
   .rw[MT (λh=>by simp at h;subst h;rw[L.cl.2]at hp;cases hp),MT (λh=>by simp at h;subst h;rw[L.cl.1]at hp;cases hp)];exact L.S.F p v hp
 . have hr1:w1.heap[r]? =some (.mapIter (some (ρ b).aM) since seen c):=(by rcases oC with rfl|rfl<;>exact hr);have kg:w1.heap[(ρ b).aM]? =some (.map es' since):=(by rcases oC with rfl|rfl<;>exact q1);have HZ:=Go.MapKept.heap_set (o':= .mapIter (some (ρ b).aM) since (seen.push e'.born) since) hr1;obtain⟨w2,sH⟩:∃w2,w2=Go.ChangeMaps.setBlock w1 r (.mapIter (some (ρ b).aM) since (seen.push e'.born) since):=⟨_,rfl⟩
   (change (Go.ChangeMaps.setBlock w1 r (.mapIter (some (ρ b).aM) since (seen.push e'.born) since)).heap[r]? =_/\∀k,k≠r->(Go.ChangeMaps.setBlock w1 r (.mapIter (some (ρ b).aM) since (seen.push e'.born) since)).heap[k]? =_ at HZ;rw[<-sH]at HZ dJ;have tT:w2.heap.size=w.heap.size:=(by rw[sH];rcases oC with rfl|rfl<;>simp[Go.ChangeMaps.setBlock]<;>rfl);have tS:∀k,k≠r->w2.heap[k]? =w.heap[k]? :=λk hk=>(HZ.2 k hk).trans (by rcases oC with rfl|rfl<;>rfl));have KI:w2.os=w.os/\w2.tape=w.tape/\w2.output=w.output:=(by rw[sH];rcases oC with rfl|rfl<;>exact⟨rfl,rfl,rfl⟩);clear sH oC;have hW2:bV ρ C A.2 w2:=L.S.W.iter hr L.yu tT tS;have hen:(Instr.entry (.pointer (some ⟨r,0,none⟩))).run P w2= .ok (.tuple #[e'.key,e'.val]) w2:=
     run_entry_at _ r _ since seen es' since e' HZ.1 ((tS _ (L.yu b _ L.mp)).trans q1) (by simp[leftOf]at rf;simpa using rf.1) (dO ▸hnd)
   obtain⟨i,hi⟩:=Zf1.1 rf;have CJ:e'∈es'.toList/\seen.contains e'.born=false:=(by simpa [leftOf]using rf);obtain⟨j,hj⟩:=Zf1.1 CJ.1;obtain⟨e,h1,v1,v2,h2⟩:=hat j e' (by simpa using hj);obtain⟨B,⟨f1,s1,hx,hf,hB⟩,b17,bm,b18,b19,hQ⟩:=auZ e (Zc1 h1) (by rw[h2];exact CJ.2);refine BS (i:=0) (o:=o0) rfl hR.n0.2.1 (v:= .tuple #[.bool true,e'.key,e'.val]) (w':=w2) (by simp[execOp,hR.n0.1,hit,dJ,Result.andThen]) ?_;rw[hR.n0.2.2];refine BS (i:=1) (o:=o1) rfl hR.n1.2.1 (v:= .bool true) (w':=w2) (by simp[execOp,hR.n1.1,eval_put (fQ ▸hR.lt.2.1),Instr.extract,Result.andThen]) ?_;rw[hR.n1.2.2];apply wp_seq;refine wp_cond_true (eval_put (by rw[Act.j7,fQ];exact hR.lt.2.2.1)) (wp_skip ?_);apply wp_block;apply wp_seq;apply wp_region;have hln:tG.size=g.l4.length+1:=(by have h:Tz.length=tG.size:=(by rw[(wO hR.c4).1,Zi0]);obtain⟨h4,_⟩:=Zd2.1 hR.n4.1;have h4:0<tG.size:=h4;rw[<-hR.l4,List.length_tail];omega);rw[hln,Zl8,Zp0];refine BS (i:=0) (o:=o4) hR.n4.1 hR.n4.2.2.1 (v:= .tuple #[e'.key,e'.val]) (w':=w2) (by simp[execOp,hR.n4.2.1,ZB hR.ne.1.symm,ZB hR.ne.2.1.symm,hit,hen,Result.andThen]) ?_;rw[hR.n4.2.2.2];unfold akW at hx;simp only[oa]at hx;rw[Yd none hc]at hx;unfold uu at hx;(split at hx<;>first|(cases hx;done)|skip);rename_i y hy;simp only[amS hc]at hx;have hvt:aC ρ A.2.next.toNat C (.tuple [.bool true,e.1,e.2.1]) (.tuple #[.bool true,e'.key,e'.val]):= .qt ((aJ.nil.cons v2).cons v1 |>.cons (.bool true));have hve:aC ρ A.2.next.toNat C (.tuple [e.1,e.2.1]) (.tuple #[e'.key,e'.val]):= .qt ((aJ.nil.cons v2).cons v1);have F1:=kQ.put (nt:=nt) (d:=some g.t18) L.S.F fQ (λ_ h=>by cases h;exact hR.lt.2.1) hvt;have F2:=kQ.put (nt:=nt) (d:=some g.t19) F1 (by rw[Act.j7];exact fQ) (λ_ h=>by cases h;exact hR.lt.2.2.1) (.bool true);have F3:=kQ.put (nt:=nt) (d:=some g.t20) F2 (by rw[Act.j7,Act.j7];exact fQ) (λ_ h=>by cases h;exact hR.lt.2.2.2) hve;refine CB (nt:=nt) hT dD g.l4 1 _ y.1 A.2 y.2 ρ _ w2 (λi ao hi=> ?_) hy ⟨hW2,F3,by rw[Act.j7,Act.j7,Act.j7];exact fQ,by rw[Act.mC,Act.mC,Act.mC];exact L.S.defers⟩ λa3 w3 hp=> ?_
   .rw[<-hR.l4,List.getElem?_tail]at hi;obtain⟨o,k1,k2,_⟩:=Rb hR.c4 (i+1) ao hi;exact⟨o,by rw[Zr3];exact k1,k2⟩
   obtain⟨ρ3,S3,k1,k2,k3⟩:=hp;(refine(CC hT dD lZ m).1 rest g.body y.1 f1 y.2 s1 .normal ρ3 a3 w3 _ hR.r4 hx S3 λa4 w4 hp=> ?_);have hP:=kJ.trans k1 k2 k3 hp;show Q .normal a4 w4;have S2:yl nt ρ C A.1 A.2 a w2:=⟨hW2,L.S.F,fQ,L.S.defers⟩
   have hE2:oJ nK VG w0 ρ A.2 w2:=⟨KI.1.trans L.E.os,KI.2.1.trans L.E.tape,KI.2.2.trans L.E.output,by rw[tT];exact L.E.size,λk hk hn=>(tS k (by have:=L.late;omega)).trans (L.E.block k hk hn),λb x hb=>L.E.yf b x hb⟩
   obtain⟨ρ4,S4,l1,l2,E4⟩:∃ρ4,yl nt ρ4 C B.1 B.2 a4 w4/\(∀p:Pos,p.toNat<A.2.next.toNat->ρ4 p=ρ p)/\A.2.next.toNat<=B.2.next.toNat/\oJ ρ A.2 w2 ρ4 B.2 w4:=by
     rcases hB with⟨rfl,hk⟩|hB
     .  obtain⟨S,E⟩:=S2.back hf hk hP;exact⟨ρ,S,λ_ _=>rfl,Za3 _,E⟩
     .  obtain⟨ρ4,S,l1,l2,E⟩:=hP;rw[<-hB]at S l2 E;exact⟨ρ4,⟨S.W,S.F.sub hf,S.size,S.defers⟩,l1,l2,E⟩
   have h4r:w4.heap[r]? =some (.mapIter (some (ρ b).aM) since (seen.push e.2.2) since):=(by rw[E4.block r (by rw[tT];exact hrl) L.yu,h2];exact HZ.1);refine hQ ρ4 a4 w4 ⟨S4,λp hp=>(l1 p (Zd1 hp L.k2)).trans (L.k1 p hp),Zb3 L.k2 l2,hE2.trans E4,?_,b17,bm,⟨since,?_,Za3 _⟩,λp x hp=> ?_,L.late,b18,b19⟩
   .rw[l1 O8 L.ip.2.2];exact⟨L.ip.1,L.ip.2.1,Zd1 L.ip.2.2 l2⟩
   .rw[l1 b g1];exact h4r
   . rcases E4.yf p x hp with⟨p',x',hp',e1⟩|h
     .  rw[<-e1];exact L.yu p' x' hp'
     .  rw[tT]at h;omega
theorem amT{α:Type}{p q:α->Bool}(h:∀x,q x=true->p x=true){e:α}(hp:p e=true)(hq:q e=false):∀{l:List α},e∈l->(l.filter q).length<(l.filter p).length
 |[],h=>by simp at h
 |x ::l,hm=>by
  have hle:∀l:List α,(l.filter q).length<=(l.filter p).length:=λl=>by
    induction l with
    |nil=>simp
    |   cons y l ih=>
        have:=h y;cases hqy:q y<;>cases hpy:p y<;>simp_all<;>omega
  rcases Za9.1 hm with rfl|hm
  .simp only[List.filter_cons,hp,hq,Zh1,Zf4,Zh0,Zc9];have:=hle l;omega
  .have ih:=amT h hp hq hm;have:=h x;cases hqx:q x<;>cases BT:p x<;>simp_all<;>omega
theorem born_inj:∀{es:List (AV×AV×Nat)},(es.map (·.2.2)).Nodup->∀x∈es,∀y∈es,x.2.2=y.2.2->x=y
 |[],_,_,h,_,_,_=>by simp at h
 |e::es,hn,x,hx,y,hy,he=>by
  rw[Zd3,List.nodup_cons]at hn;rcases Za9.1 hx with h1|h1<;>rcases Za9.1 hy with h2|h2
  .rw[h1,h2]
  .subst h1;exact(hn.1 (he ▸Zc6.2 ⟨y,h2,rfl⟩)).elim
  .subst h2;exact(hn.1 (he ▸Zc6.2 ⟨x,h1,rfl⟩)).elim
  .exact born_inj hn.2 x h1 y h2 he
theorem LI.rounds(hT:dh P tt)(hc:CK none bW call)(dD:iX P C call)(lZ:ym P tt C call)(hR:apA tt nt g o0 o1 o4 tG rest Tz bs)
  {X:Bool->Fr×St} {act:Nat} {b O8:Pos} {es:List (AV×AV×Nat)} {since r:Nat} {nK:Pos->Loc} {VG:St} {w0:World} (dW:adf since es=true) {Q:Exit->Act->World->Prop}
  (hm:∀e∈es,(e.2.2=act->Mv bW m g (X false) (X true) e)/\(e.2.2≠act->∀f,Mv bW m g (X f) (X f) e))
  (hX:∀f,(X f).1.get (key g.t17)=some (.ptr O8 0)/\(X f).2.heap.get b=some (.map es since)/\(X f).1.get (key g.t18)=none/\(X f).1.get (key g.t19)=none)
  (apB:(∃e∈es,e.2.2=act)\/X false=X true)
  (hQ:∀a' w',kJ nt nK C VG w0 (X true).1 (X true).2 a' w'->Q (.exit b0) a' w'):
  ∀ (n:Nat)(seen:Array Nat)(ρ:Pos->Loc)(a:Act)(w:World),(es.filter λe=> !seen.contains e.2.2).length<n->LI C nt g (X (seen.contains act)) b O8 es since r nK VG w0 seen ρ a w->
    Code.rounds P (akY g o0 o1 tG rest i3 i4 b0 b1) Q n a w:=by
 intro n;induction n with
 |zero=>intro seen ρ a w hn;omega
 |succ n ih=>
  intro seen ρ a w hn L;rw[rounds_succ];refine L.round (m:=m) hT hc dD lZ hR dW (λo8 a' S=> ?_) λe he hs=> ?_
  . have hx:X (seen.contains act)=X true:=by
        rcases apB with⟨e,he,rfl⟩|h
        .rw[o8 e he]
        . cases seen.contains act
          .exact h
          .rfl
    rw[hx]at S L;exact hQ a' w ⟨ρ,S,L.k1,L.k2,L.E⟩
  . have hp:∀y,(seen.push e.2.2).contains y=(seen.contains y||y==e.2.2):=λy=>by
        rw[Array.contains_push]
    have aV:(es.filter λx=> !(seen.push e.2.2).contains x.2.2).length<(es.filter λx=> !seen.contains x.2.2).length:=
        amT (e:=e) (λx hx=>by simp only[hp]at hx;simp at hx ⊢; exact hx.1) (by show(!seen.contains e.2.2)=true;rw[hs];rfl) (by show(!(seen.push e.2.2).contains e.2.2)=false;rw[hp];simp) he
    refine⟨X ((seen.push e.2.2).contains act),?_,(hX _).1,(hX _).2.1,(hX _).2.2.1,(hX _).2.2.2,λρ' a' w' L'=>ih _ ρ' a' w' (by omega) L'⟩;rw[hp act];by_cases ha:e.2.2=act
    .   subst ha;rw[hs];simpa using(hm e he).1 rfl
    .   have:(act==e.2.2)=false:=(by simpa using λh=>ha h.symm);rw[this,Bool.or_false];exact(hm e he).2 ha _
theorem KR:∀(ps:List Pos)(fr:Fr)(p:Pos),p∈ps\/fr.get p=none->(clr ps fr).get p=none
 |[],_,_,h=>h.elim (λh=>by simp at h) id
 |q ::ps,fr,p,h=>KR ps _ p (by
  by_cases hq:q=p
  .subst hq;exact .inr (T.gy _ _ _)
  . rcases h with h|h
    .   rcases Za9.1 h with h|h
        .exact(hq h.symm).elim
        .exact .inl h
    .   exact .inr (by rw[T.b9 _ hq];exact h))
theorem MX{ops:Array Oper}{Q:Exit->Act->World->Prop}{l2:List Nat}:∀(l1:List Nat)(a:Act)(w:World),wpOps P ops (Exit.then (wpOps P ops Q l2) Q) l1 a w->wpOps P ops Q (l1++l2) a w
 |[],_,_,h=>h
 |i ::l1,a,w,h=>by
  rw[Zd7];unfold wpOps at h ⊢;split
  .rename_i ho;rw[ho]at h;exact MX l1 a w h
  . rename_i o ho;rw[ho]at h;simp only at h;split
    .   rename_i hw;rw[Zb4 hw]at h;refine h.imp (λh=> ?_) id;have h:=Oper.wp_mono (K':=wpOps P ops Q (l1++l2)) (λa w h=>MX l1 a w h) h;unfold Oper.wp at h ⊢;generalize (execOp a.eval o).run P w=r at h ⊢;rcases r with⟨x,w⟩|⟨x,w⟩
        .cases x<;>exact h
        .cases x<;>exact h
    .   rename_i hw;rw[Za6 hw]at h;exact MX l1 _ w h
theorem bV.slot{ρ ρ':Pos->Loc}{st:St}{w:World}(hW:bV ρ C st w)(bE:∀p:Pos,p.toNat<st.next.toNat->ρ' p=ρ p):bV ρ' C ⟨st.heap,st.next.succ⟩ w:=by
 have hl:∀p x,st.heap.get p=some x->ρ' p=ρ p:=λp x hp=>bE p (hW.live p x hp).1
 refine⟨λp x hp=> ?_,λp q x y hp hq h=> ?_,λa v ha=>⟨(hW.dS a v ha).1,λp x hp=> ?_⟩,hW.whole⟩
 .obtain⟨h1,h2,h3⟩:=hW.live p x hp;rw[hl p x hp];exact⟨by rw[Pos.aD];exact Nat.lt_succ_of_lt h1,h2,h3.mono bE (by rw[Pos.aD];omega)⟩
 .rw[hl p x hp,hl q y hq]at h;exact hW.inj p q x y hp hq h
 .rw[hl p x hp];exact(hW.dS a v ha).2 p x hp
theorem pG.rng(hT:dh P tt)(hc:CK none bW call)(dD:iX P C call)(lZ:ym P tt C call)(hR:apA tt nt g o0 o1 o4 tG rest Tz bs)
   {CN:Array Oper} {l2f:List bS} {o2:Oper} {x:Operand} {ty kt et:TypeId} {i2:Nat} {bs2:List Nat} (h2:uj tt nt CN CN.toList bs2=some l2f) (ri:l2f.dropLast=g.l2)
   (KI:CN[g.l2.length]? =some o2) (tT:CN.size=g.l2.length+1) (hop:o2.op= .range ty x) (zA:o2.guard=none) (hd2:o2.dst=some g.t17) (hx:uh x=some g.x) (apC:P.underlying ty=some (.map kt et))
   (OP:key g.t18∈g.ds/\key g.t19∈g.ds):pG P C nt (.seq (.region i2 CN false) (.block b0 (.loop (akY g o0 o1 tG rest i3 i4 b0 b1)))) (akX bW m g):=by
 intro fr bI st st' e ρ a w Q h hS hQ;unfold akX at h;rw[Yd none hc]at h;unfold uu at h;split at h<;>first|(cases h;done)|skip
 rename_i y hy;simp only[agz]at h;unfold uu at h;split at h<;>first|(cases h;done)|skip
 rename_i v hv;dsimp only at h;split at h<;>first|(cases h;done)|skip
 rename_i b;simp only[BR]at h;split at h<;>first|(cases h;done)|skip
 rename_i es clock hb;split at h<;>first|(cases h;done)|skip
 rename_i dW;simp only[ajA,oa,Rq]at h;apply wp_seq;apply wp_region;rw[tT,Zg2];apply MX;rw[Zl8];refine CB (nt:=nt) hT dD g.l2 0 fr y.1 st y.2 ρ a w (λi ao hi=> ?_) hy hS λa2 w2 hp=> ?_
 .rw[<-ri,List.getElem?_dropLast]at hi;(split at hi<;>first|(cases hi;done)|skip);obtain⟨o,k1,k2,_⟩:=Rb h2 i ao hi;exact⟨o,by rw[Zb9];exact k1,k2⟩
 obtain⟨uW,S2,k1,k2,E2⟩:=hp;obtain⟨hbn,Vu⟩:=(Bk hx S2.F hv).BP;obtain⟨g1,g2,es',q1,q2,q3⟩:=S2.W.live b _ hb;obtain⟨O9,hf3⟩:∃f,f=(clr g.ds y.1).put (some (.ptr y.2.next 0)) (key g.t17):=⟨_,rfl⟩
 rw[<-hf3]at h;obtain⟨EK,Gq⟩:∃s:St,s=⟨y.2.heap,y.2.next.succ⟩:=⟨_,rfl⟩
 rw[<-Gq]at h;have n18:key g.t17≠key g.t18:=λe=>hR.ne.1 (by have:=congrArg Pos.toNat e;rw[iM,iM]at this;omega)
 have n19:key g.t17≠key g.t19:=λe=>hR.ne.2.1 (by have:=congrArg Pos.toNat e;rw[iM,iM]at this;omega)
 have key:∃(X:Bool->Fr×St) (act:Nat),X false=(O9,EK)/\e= .normal/\X true=(bI,st')/\(∀e∈es,(e.2.2=act->Mv bW m g (X false) (X true) e)/\(e.2.2≠act->∀f,Mv bW m g (X f) (X f) e))/\
     (∀f,(X f).1.get (key g.t17)=some (.ptr y.2.next 0)/\(X f).2.heap.get b=some (.map es clock)/\(X f).1.get (key g.t18)=none/\(X f).1.get (key g.t19)=none)/\((∃e∈es,e.2.2=act)\/X false=X true):=by
   have hX0:O9.get (key g.t17)=some (.ptr y.2.next 0)/\EK.heap.get b=some (.map es clock)/\O9.get (key g.t18)=none/\O9.get (key g.t19)=none:=by
     rw[hf3,Gq,T.gy,T.b9 _ n18,T.b9 _ n19];exact⟨rfl,hb,KR _ _ _ (.inl OP.1),KR _ _ _ (.inl OP.2)⟩
   split at h
   . (rename_i agI;simp only[H5,Zd4]at h;obtain⟨rfl,rfl,rfl⟩:=h;have hid:∀e∈es,Mv bW m g (O9,EK) (O9,EK) e:=λe he=>adi (by rw[List.filter_eq_nil_iff]at agI;have:=agI e he;simpa using this));exact⟨λ_=>(O9,EK),0,rfl,rfl,rfl,λe he=>⟨λ_=>hid e he,λ_ _=>hid e he⟩,λ_=>hX0,.inr rfl⟩
   . (rename_i e1 agI;(split at h<;>first|(cases h;done)|skip);rename_i f1 s1 hr1;(split at h<;>first|(cases h;done)|skip);rename_i y1 v1 Vk hv1;(split at h<;>first|(cases h;done)|skip);rename_i o8;simp only[H5,Zd4]at h;obtain⟨rfl,rfl,rfl⟩:=h;simp only[Zb2]at o8;obtain⟨⟨c1,c2⟩,c3⟩:=o8;have c1:=aay c1;have c2:=yo c2;subst c1;subst c2;have CJ:e1∈es:=by have:e1∈es.filter (λe=> !Ry bW m g O9 EK e):=(by rw[agI];simp);exact(Zj4.1 this).1);refine⟨λf=>if f then(clr g.ds f1,s1)else(O9,EK),e1.2.2,rfl,rfl,rfl,λe he=>⟨λhb=> ?_,λhb f=> ?_⟩,λf=> ?_,.inl ⟨e1,CJ,rfl⟩⟩
     .  obtain rfl:=born_inj (adh dW).2 e he e1 CJ hb;exact⟨f1,s1,hr1,adg _ _,.inr rfl⟩
     .  cases f
        . refine adi ?_;cases hi:Ry bW m g O9 EK e
          .have:e∈es.filter (λe=> !Ry bW m g O9 EK e):=Zj4.2 ⟨he,by rw[hi];rfl⟩;rw[agI]at this;simp at this;exact(hb (by rw[this])).elim
          .rfl
        .refine adi ?_;have:=Zg8.1 c3 e he;simp only[Zj3]at this;exact this.resolve_left λh=>hb (Za7 h)
     .  cases f
        .exact hX0
        .exact⟨hv1,Vk,KR _ _ _ (.inl OP.1),KR _ _ _ (.inl OP.2)⟩
   .cases h
 obtain⟨X,act,x0,rfl,x1,hm,hX,apB⟩:=key;show wpOps P _ _ [g.l2.length] a2 w2
 refine BS KI zA (v:= .pointer (some ⟨w2.heap.size,0,none⟩)) (w':=w2.alloc (.mapIter (some (uW b).aM) clock #[] clock))
   (by simp[execOp,hop,Vu,run_range_map (P:=P) w2 ty kt et (uW b).aM es' clock apC q1,Result.andThen]) ?_
 rw[hd2];show(Code.block b0 _).wp P Q _ _;apply wp_block;have hold:∀k,k<w2.heap.size->(w2.alloc (.mapIter (some (uW b).aM) clock #[] clock)).heap[k]? =w2.heap[k]? :=λk hk=>heap_alloc_old w2 _ hk
 have fQ:(w2.alloc (.mapIter (some (uW b).aM) clock #[] clock)).heap.size=w2.heap.size+1:=by simp
 obtain⟨ρ3,h3,bE⟩:∃ρ3:Pos->Loc,ρ3 y.2.next=⟨w2.heap.size,0,0⟩/\∀p:Pos,p.toNat<y.2.next.toNat->ρ3 p=uW p:=
   ⟨λp=>if p=y.2.next then⟨w2.heap.size,0,0⟩else uW p,Zb4 rfl,λp hp=>Za6 λe=>by subst e;omega⟩
 have hW3:bV ρ3 C EK (w2.alloc (.mapIter (some (uW b).aM) clock #[] clock)):=by rw[Gq];exact(S2.W.slot bE).grow (by omega) hold
 have OY:EK.next.toNat=y.2.next.toNat+1:=by rw[Gq];exact Pos.aD _
 have hF3:kQ ρ3 EK.next.toNat C O9 (a2.put (some g.t17) (.pointer (some ⟨w2.heap.size,0,none⟩))).tmps:=by rw[hf3];refine kQ.put (nt:=nt) (d:=some g.t17) ((S2.F.sub (adg _ _)).mono bE (by omega)) S2.size (λ_ h=>by cases h;exact hR.lt.1) ?_;have:=aC.ptr (ρ:=ρ3) (C:=C) y.2.next 0 (n:=EK.next.toNat) (by omega);rw[h3]at this;exact this
 refine wp_loop_rounds (es.length+1) (LI.rounds (m:=m) (nK:=uW) (VG:=y.2) (w0:=w2) (r:=w2.heap.size) hT hc dD lZ hR dW hm hX apB (λa' w' hp=> ?_) (es.length+1) #[] ρ3 _ _
   (Nat.lt_succ_of_le (Zk1 ..)) ?_)
 .rw[x1]at hp;simp only[Exit.inBlock,Zh1];exact hQ a' w' (kJ.trans k1 k2 E2 hp)
 . have:X ((#[]:Array Nat).contains act)=(O9,EK):=(by simpa using x0);rw[this];refine⟨⟨hW3,hF3,by rw[Act.j7];exact S2.size,by rw[Act.mC];exact S2.defers⟩,bE,by show y.2.next.toNat<=EK.next.toNat;omega,
     ⟨rfl,rfl,rfl,by rw[fQ];omega,λk hk _=>hold k hk,λp x hp=>.inl ⟨p,x,by rw[Gq]at hp;exact hp,by
        rw[Gq]at hp;rw[bE p (S2.W.live p x hp).1]⟩⟩,⟨by rw[h3],by rw[h3],by show _<EK.next.toNat;omega⟩,x0 ▸(hX false).1,x0 ▸(hX false).2.1,⟨clock,?_,Za3 _⟩,λp x hp=> ?_,Za3 _,x0 ▸(hX false).2.2⟩
   .rw[bE b g1];exact heap_alloc_new w2 _
   .rw[Gq]at hp;obtain⟨l1,l2,_⟩:=S2.W.live p x hp;rw[bE p l1];omega
end
end
def xfn(ex:Fr->St->XR)(np:Nat)(rs:List OC)(args:List AV)(st:St):Option (AV×St):=match Nat.beq args.length np with
 |  true=>match OI args 0 .e λfr=>ex fr st with
    |some (.exit _,_,_)=>none
    |some (_,fr,st')=>match gP (λb=>Bj b st'.heap) fr rs,Nat.ble st.next.toNat st'.next.toNat with
     |some vs,true=>some (zf vs,st')
     |_,_=>none
    |none=>none
 |false=>none
section
variable{P:Program}{tt:TT}{C:Cells}
theorem atV(hT:dh P tt){f np:Nat}{fn:Func}{c:Code}{ex:Fr->St->XR}{rs:List OC}(hf:P.funcs[f]? =some fn)(oF:(fn.name== "runtime.NumGoroutine")=false)(hb:fn.body=some c)
  (hx:pG P C fn.ntmps c ex) (hr:qq tt fn.results.toList=some rs) (hle:np<=fn.ntmps):pW P C f (xfn ex np rs) where
 mono args st v st' h:=by
  unfold xfn at h;split at h<;>first|(cases h;done)|skip
  split at h<;>first|(cases h;done)|skip
  split at h<;>first|(cases h;done)|skip
  rename_i hn;cases h;exact Zb5 hn
 runs ρ st w args v st' bZ h hW xJ:=by
  unfold xfn at h;split at h<;>first|(cases h;done)|skip
  rename_i hlen;have hlen:=Za7 hlen;rw[Rs]at h;split at h<;>first|(cases h;done)|skip
  rename_i e eX bD cN h1;split at h<;>first|(cases h;done)|skip
  rename_i vs Cw _;simp only[H5,Zd4]at h;obtain⟨rfl,rfl⟩:=h;have dJ:(callFunc f bZ.toArray).run P w= .ok (.enter f bZ.toArray) w:=by
   have ags:¬fn.name= "runtime.NumGoroutine" :=(by simpa using oF);simp[callFunc,hf,ags,hb]
  rw[dJ];simp only[Reaches];refine calls_of_wp hf hb ?_;have fQ:bZ.length<=fn.ntmps:=by rw[<-xJ.1,hlen];exact hle
  have hS:yl fn.ntmps ρ C (params 0 args .e) st { tmps:=bZ.toArray++Array.replicate (fn.ntmps - bZ.toArray.size) undef,defers:=[] } w:=by
   refine⟨hW,?_,?_,rfl⟩
   .    refine Rc args bZ 0 .e xJ (λj x hx=> ?_) (λp v hp=>by rw[T.dN]at hp;cases hp);have hj:j<bZ.length:=(Za1.1 hx).1;rw[Zb9,Zq7 (by simpa using hj)];simpa using hx
   .    simp;omega
  refine hx _ eX st bD e ρ _ w _ h1 hS λa' w' hp=> ?_
  obtain⟨jW,zz,k1,k2,k3⟩:=hp;simp only[BR]at Cw;obtain⟨y,Vk,hy2⟩:=HW hT zz.W zz.F hr Cw;cases e with
  |exit id=>exact(cN id rfl).elim
  |normal=>exact⟨zz.defers,y,Vk,jW,hy2,k1,k2,zz.W,k3⟩
  |ret=>exact⟨zz.defers,y,Vk,jW,hy2,k1,k2,zz.W,k3⟩
def idxS:List AV->St->Option (AV×St)
 |[.str a,.int .u8 c],st=>some (.int .i64 (Lib.indexByte (a.map UInt8.ofNat) c.toNat.toUInt8),st)
 |_,_=>none
def ak0:List AV->St->Option (AV×St)
 |[.str a,.int .u8 c],st=>some (.int .i64 (Lib.countByte (a.map UInt8.ofNat) c.toNat.toUInt8),st)
 |_,_=>none
theorem amU{bs:ByteArray}{a:List Nat}(h:bs.data.toList.map UInt8.toNat=a):a.map UInt8.ofNat=bs.data.toList:=by
 rw[<-h,Zh8];have:(UInt8.ofNat∘UInt8.toNat)=id:=by funext c;simp
 rw[this,Zs3]
theorem aes{f:FuncId}{fn:Func}{s:List AV->St->Option (AV×St)}{X:List UInt8->UInt8->Int}{e:Array Value->Sem Value}(hs:∀args st,s args st=match args with
   |[.str a,.int .u8 c]=>some (.int .i64 (X (a.map UInt8.ofNat) c.toNat.toUInt8),st)
   |_=>none)
  (hr:∀(b:ByteArray)(c:Int)(w:World),(e #[.string b,.int .u8 c]).run P w= .ok (.int .i64 (X b.data.toList c.toNat.toUInt8)) w)
  (hf:P.funcs[f]? =some fn) (oF:(fn.name== "runtime.NumGoroutine")=false) (hb:fn.body.isNone=true) (hx:Extern.findNext fn=none) (he:Extern.find fn=some e):pW P C f s where
 mono args st v st' h:=by rw[hs]at h;split at h<;>cases h;exact Za3 _
 runs ρ st w args v st' bZ h hW hv:=by
  rw[hs]at h;split at h<;>cases h;rename_i a c;obtain⟨x,xs,rfl,h1,h2⟩:=hv.cons_inv;obtain⟨y,ys,rfl,h3,h4⟩:=h2.cons_inv;have:=h4.ku;subst this;obtain⟨b,rfl,dO⟩:=h1.ff;have:=h3.iq;subst this;have dJ:(callFunc f [Value.string b,Value.int .u8 c].toArray).run P w= .ok (.value (.int .i64 (X b.data.toList c.toNat.toUInt8))) w:=by rw[run_callFunc_extern hf oF hb hx he];show((e #[.string b,.int .u8 c]).run P w).andThen _=_;rw[hr];rfl
  rw[dJ];refine⟨ρ,?_,λ_ _=>rfl,Za3 _,hW,oJ.refl _ _ _⟩;rw[amU dO];exact .int _ _
theorem apD{f:FuncId}{fn:Func}(hf:P.funcs[f]? =some fn)(oF:(fn.name== "runtime.NumGoroutine")=false)(hb:fn.body.isNone=true)(hx:Extern.findNext fn=none)
  (he:Extern.find fn=some Extern.BytealgIndexByte.indexByte):pW P C f idxS:=
 aes (X:=Lib.indexByte) (λargs st=>by unfold idxS;split<;>first|rfl|(split<;>first|rfl|simp_all)) (λb c w=>Lib.run_indexByteString b c w) hf oF hb hx he
theorem apE{f:FuncId}{fn:Func}(hf:P.funcs[f]? =some fn)(oF:(fn.name== "runtime.NumGoroutine")=false)(hb:fn.body.isNone=true)(hx:Extern.findNext fn=none)
  (he:Extern.find fn=some Extern.BytealgCount.count):pW P C f ak0:=
 aes (X:=λl c=>Lib.countByte l c) (λargs st=>by unfold ak0;split<;>first|rfl|(split<;>first|rfl|simp_all)) (λb c w=>Lib.run_countString b c w) hf oF hb hx he
end
def Rz:Code->List Nat
 |.region _ ops _=>ops.toList.filterMap (·.dst)
 |.seq a b=>Rz a++Rz b
 |.cond _ a b=>Rz a++Rz b
 |.block _ a=>Rz a
 |.loop a=>Rz a
 |_=>[]
def arJ (tt :TT)(nt:Nat)(ds:List Nat)(b0 b0' t19:Nat)(o2 o0 o1 o4:Oper)(l2f Tz:List bS)(body:AC):Option (RG×Nat):=
 match o2.op,o0.op,o1.op,o4.op with
 |  .range ty x,.next (.tmp a0) false,.extract (.tmp a1) 0,.entry (.tmp a4)=>match o2.dst,o0.dst,o1.dst,o4.dst with
    |some t17,some t18,some c,some t20=>match o2.guard,o0.guard,o1.guard,o4.guard with
     |  none,none,none,none=>match uh x with
        |some xo=>match Nat.beq a0 t17&&Nat.beq a1 t18&&Nat.beq a4 t17&&Nat.beq c t19&&Nat.beq b0 b0'&&Nat.blt t17 nt&&Nat.blt t18 nt&&Nat.blt t19 nt&&Nat.blt t20 nt&&
            !Nat.beq t17 t18&& !Nat.beq t17 t19&& !Nat.beq t18 t19 with
         |true=>some (⟨t17,t18,t19,t20,l2f.dropLast,xo,Tz.tail,body,key t18::key t19::ds.map key⟩,ty)
         |false=>none
        |_=>none
     |_,_,_,_=>none
    |_,_,_,_=>none
 |_,_,_,_=>none
def agJ (tt:TT)(nt:Nat):Code->Option (RG×Nat)
 |  .seq (.region _ CN false) (.block b0 (.loop (.seq (.region _ ⟨[o0,o1]⟩ false) (.seq (.cond (.tmp t19) .skip (.exit b0')) (.block _ (.seq (.region _ tG false) rest))))))=>
    match CN[CN.size - 1]?,tG[0]? with
    |some o2,some o4=>match uj tt nt CN CN.toList [],uj tt nt tG tG.toList []with
     |  some l2f,some Tz=>match vq tt nt rest with
        |some body=>arJ tt nt (tG.toList.filterMap (·.dst)++Rz rest) b0 b0' t19 o2 o0 o1 o4 l2f Tz body
        |none=>none
     |_,_=>none
    |_,_=>none
 |_=>none
section
variable{P:Program}{tt:TT}{C:Cells}{bW:sy XR}{call:aj}{nt m:Nat}
theorem pG.agJ(hT:dh P tt)(hc:CK none bW call)(dD:iX P C call)(lZ:ym P tt C call){c:Code}{g:RG}{ty:Nat}(h:agJ tt nt c=some (g,ty))
  {kt et:TypeId} (apC:P.underlying ty=some (.map kt et)):pG P C nt c (akX bW m g):=by
 unfold Go.Ai.agJ at h;split at h<;>first|(cases h;done)|skip
 rename_i i2 CN b0 i3 o0 o1 t19 b0' b1 i4 tG rest;split at h<;>first|(cases h;done)|skip
 rename_i o2 o4 KI ho4;split at h<;>first|(cases h;done)|skip
 rename_i l2f Tz ri hl4;split at h<;>first|(cases h;done)|skip
 rename_i body ak1;unfold arJ at h;split at h<;>first|(cases h;done)|skip
 rename_i ty' x a0 a1 a4 p2 p0 p1 p4;split at h<;>first|(cases h;done)|skip
 rename_i t17 t18 c t20 d2 d0 d1 d4;split at h<;>first|(cases h;done)|skip
 rename_i g2 g0 g1 g4;split at h<;>first|(cases h;done)|skip
 rename_i xo hxo;split at h<;>first|(cases h;done)|skip
 rename_i hb;simp only[H5,Zd4]at h;obtain⟨rfl,rfl⟩:=h;simp only[Zb2,Zj7,Nat.beq_eq,Zr5]at hb;obtain⟨⟨⟨⟨⟨⟨⟨⟨⟨⟨⟨rfl,rfl⟩,rfl⟩,rfl⟩,rfl⟩,l17⟩,l18⟩,l19⟩,l20⟩,n1⟩,n2⟩,n3⟩:=hb;have hs:l2f.length=CN.size:=(wO ri).1.trans (Zi0 ..);have h0:0<CN.size:=by have:=(Zd2.1 KI).1;omega
 exact pG.rng hT hc dD lZ (i3:=i3) (i4:=i4) (b1:=b1) ⟨⟨p0,g0,d0⟩,⟨p1,g1,d1⟩,⟨ho4,p4,g4,d4⟩,⟨l17,l18,l19,l20⟩,⟨Zf2 n1,Zf2 n2,Zf2 n3⟩,hl4,rfl,ak1⟩ ri rfl
  (by rw[List.length_dropLast,hs];exact KI) (by show CN.size=l2f.dropLast.length+1;rw[List.length_dropLast,hs];omega) p2 g2 d2 hxo apC ⟨by simp,by simp⟩
def VH:Code->Bool
 |.region _ ops _=>ops.toList.any λo=>match o.op with|.range _ _=>true|_=>false
 |.seq a b=>VH a||VH b
 |.cond _ a b=>VH a||VH b
 |.block _ a=>VH a
 |.loop a=>VH a
 |_=>false
def spX (P:Program)(tt:TT)(bW:sy XR)(m nt:Nat):Code->Fr->St->XR
 |  .seq a b=>match Go.Ai.agJ tt nt (.seq a b)with
    |some (g,ty)=>match P.underlying ty with
     |some (.map _ _)=>akX bW m g
     |_=>λ_ _=>none
    |none=>match VH a||VH b with
     |true=>apz (spX P tt bW m nt a) (spX P tt bW m nt b)
     |  false=>match vq tt nt (.seq a b)with
        |some ac=>exK bW m ac
        |none=>λ_ _=>none
 |  c=>match vq tt nt c with
    |some ac=>exK bW m ac
    |none=>λ_ _=>none
theorem pG.no{c:Code}:pG P C nt c (λ_ _=>none):=λ_ _ _ _ _ _ _ _ _ h=>by cases h
theorem pG.spX(hT:dh P tt)(hc:CK none bW call)(dD:iX P C call)(lZ:ym P tt C call):∀c:Code,pG P C nt c (spX P tt bW m nt c):=by
 intro c;induction c with
 |seq   a b iha ihb=>
  unfold Go.Ai.spX;split
  . split
    .   rename_i h _ _ _ hu;exact .agJ hT hc dD lZ h hu
    .   exact .no
  . split
    .   exact iha.seq ihb
    .   split
        .exact .ac hT hc dD lZ (by assumption)
        .exact .no
 |_=>
  unfold Go.Ai.spX;split
  .exact .ac hT hc dD lZ (by assumption)
  .exact .no
def afR(P:Program)(tt:TT)(O:eP)(G:T dM)(m d:Nat)(fn:Func):List AV->St->Option (AV×St):=
 match fn.body,qq tt fn.results.toList,Nat.ble (fn.params.size+fn.nfree) fn.ntmps with
 |some c,some rs,true=>xfn (spX P tt (MF none O G m d) m fn.ntmps c) (fn.params.size+fn.nfree) rs
 |_,_,_=>λ_ _=>none
theorem apF(hm:P.follows .mixedOrders=true)(hT:dh P tt){O:eP}{G:T dM}(hO:vu P C O)(Vz:oG O)(hG:GOk P tt G){f d:Nat}{fn:Func}(hf:P.funcs[f]? =some fn)
   (oF:(fn.name== "runtime.NumGoroutine")=false):pW P C f (afR P tt O G m d fn):=by
 have dD:=CL (C:=C) hm hT hO Vz hG m d;have hcm:=CE (G:=G) Vz m d;have key:∀c rs,fn.body=some c->qq tt fn.results.toList=some rs->Nat.ble (fn.params.size+fn.nfree) fn.ntmps=true->pW P C f (xfn (spX P tt (MF none O G m d) m fn.ntmps c) (fn.params.size+fn.nfree) rs):=
   λc rs hb hr hle=>atV hT hf oF hb (.spX hT (Ft none O G m d) dD (Rn hm hT dD hcm) c) hr (Zb5 hle)
 unfold afR;split
 .exact key _ _ (by assumption) (by assumption) (by assumption)
 .exact⟨λ_ _ _ _ h=>(by cases h),λ_ _ _ _ _ _ _ h=>(by cases h)⟩
end
end
noncomputable section
open Go
inductive Sh where
 |leaf
 |seq (jn:Option (List Pos)) (a b:Sh)
 |cond (a b:Sh)
 |block (a:Sh)
 |loop (j:Nat) (ins:List Pos) (outs:List (Nat×List Pos)) (a:Sh)
variable{R:Type}
abbrev LpK(R:Type):=Nat->List AV->St->Option R
abbrev Env(R:Type):=Nat->LpK R->Nat->List AV->St->Option R
def gV(l:List AV)(k:AV->List AV->Option R):Option R:=match l with
 |v::vs=>k v vs
 |[]=>none
def mo(l:List AV)(k:Option R):Option R:=match l with
 |[]=>k
 |_::_=>none
def aq(c:aj)(k:aE)(xs:List AV)(st:St)(K:AV->St->Option R):Option R:=match cC c k xs st with
 |some (v,st')=>K v st'
 |none=>none
def qy(c:aj)(g:AV)(want:Bool)(k:aE)(xs:List AV)(st:St)(K:AV->St->Option R):Option R:=match g with
 |  .bool b=>match b==want with
    |true=>aq c k xs st K
    |false=>K .undef st
 |.tuple _=>K .undef st
 |_=>none
def fq(k:aE)(xs:List AV)(K:AV->Option R):Option R:=match k.run (λ_=>none) .h xs with
 |some (.val v)=>K v
 |_=>none
def ZC(g:AV)(want:Bool)(k:aE)(xs:List AV)(K:AV->Option R):Option R:=match g with
 |  .bool b=>match b==want with
    |true=>fq k xs K
    |false=>K .undef
 |.tuple _=>K .undef
 |_=>none
def jt(k:aE)(xs:List AV)(h:T AB)(ok:AV->Bool)(K:AV->Option R):Option R:=match k.run (λ_=>none) .h xs with
 |some (.val v)=>K v
 |  _=>match k.run (λb=>h.get b) .h xs with
    |some (.val v)=>match ok v with
     |true=>K v
     |false=>none
    |_=>none
def ZD(g:AV)(want:Bool)(k:aE)(xs:List AV)(h:T AB)(ok:AV->Bool)(K:AV->Option R):Option R:=match g with
 |  .bool b=>match b==want with
    |true=>jt k xs h ok K
    |false=>K .undef
 |.tuple _=>K .undef
 |_=>none
def TA(k:aE)(xs:List AV)(st:St)(K:AV->AB->Option R):Option R:=match k.run (λ_=>none) st.next xs with
 |some (.bh v none none (some aM))=>K v aM
 |_=>none
def ZE(g:AV)(want:Bool)(A B:Option R):Option R:=match g with
 |  .bool b=>match b==want with
    |true=>A
    |false=>B
 |.tuple _=>B
 |_=>none
def cnd(v:AV)(A B:Option R):Option R:=match v with
 |.bool true=>A
 |.bool false=>B
 |_=>none
def dw(f:(List AV->St->Option R)->Option R)(k:List AV->St->Option R):Option R:=f k
def aaB (c:aj):List bS->Fr->St->(Fr->St->Option R)->Option R
 |[],fr,st,K=>K fr st
 |  o::os,fr,st,K=>match fP fr o.xs with
    |some xs=>match o.guard with
     |none=>aq c o.k xs st λv st=>aaB c os (ez fr o.dst v) st K
     |  some (p,want)=>match fr.get p with
        |some g=>qy c g want o.k xs st λv st=>aaB c os (ez fr o.dst v) st K
        |none=>none
    |none=>none
def qN (c:aj ):List (Nat×bS)->List Rec->T AB->Fr->St->(Fr->St->Option R)->Option R
 |[],_,_,fr,st,K=>K fr st
 |  (j, o):: os,recs,base,fr,st,K=>match fP fr o.xs with
    | some xs=>match o.cls with
      | .pure=>match o.guard with
        |none=>fq o.k xs λv=>qN c os ({ idx:=j,o:=o,v:=v,c:= .pure,nx:=st.next }::recs) base (ez fr o.dst v) st K
        |some (p,want)=>match fr.get p with
         |some g=>ZC g want o.k xs λv=>qN c os ({ idx:=j,o:=o,v:=v,c:= .pure,nx:=st.next }::recs) base (ez fr o.dst v) st K
         |none=>none
      | .read=>match o.guard with
        |none=>jt o.k xs (snap o.cg base recs) (λv=>nZ o.cg o.k xs v [] recs) λv=>qN c os ({ idx:=j,o:=o,v:=v,c:= .pure,nx:=st.next }::recs) base (ez fr o.dst v) st K
        |some (p,want)=>match fr.get p with
         |some g=>ZD g want o.k xs (snap o.cg base recs) (λv=>nZ o.cg o.k xs v [] recs) λv=>qN c os ({ idx:=j,o:=o,v:=v,c:= .pure,nx:=st.next }::recs) base (ez fr o.dst v) st K
         |none=>none
      | .new=>match o.guard with
        |none=>TA o.k xs st λv aM=>qN c os ({ idx:=j,o:=o,v:=v,c:= .new st.next aM,nx:=st.next.succ }::recs) base (ez fr o.dst v) { heap:=st.heap.put (some aM) st.next,next:=st.next.succ } K
        |some (p,want)=>match fr.get p with
         |some g=>ZE g want (TA o.k xs st λv aM=>qN c os ({ idx:=j,o:=o,v:=v,c:= .new st.next aM,nx:=st.next.succ }::recs) base (ez fr o.dst v) { heap:=st.heap.put (some aM) st.next,next:=st.next.succ } K)
             (qN c os ({ idx:=j,o:=o,v:= .undef,c:= .pure,nx:=st.next }::recs) base (ez fr o.dst .undef) st K)
         |none=>none
      | .bh=>match o.guard with
        |none=>aq c o.k xs st λv st'=>qN c os ({ idx:=j,o:=o,v:=v,c:= .bh base st'.heap,nx:=st'.next }::recs) st'.heap (ez fr o.dst v) st' K
        |some (p,want)=>match fr.get p with
         |some g=>ZE g want (aq c o.k xs st λv st'=>qN c os ({ idx:=j,o:=o,v:=v,c:= .bh base st'.heap,nx:=st'.next }::recs) st'.heap (ez fr o.dst v) st' K)
             (qN c os ({ idx:=j,o:=o,v:= .undef,c:= .pure,nx:=st.next }::recs) base (ez fr o.dst .undef) st K)
         |none=>none
    |none=>none
def VI:List Pos->Fr->(List AV->Option R)->Option R
 |[],_,k=>k []
 |  p::ps,fr,k=>match fr.get p with
    |some v=>VI ps fr λvs=>k (v::vs)
    |none=>none
def VJ:List Pos->List AV->Fr->(Fr->Option R)->Option R
 |[],vs,fr,k=>mo vs (k fr)
 |p::ps,vs,fr,k=>gV vs λv vs=>VJ ps vs (fr.put (some v) p) k
def Yh:List (Nat×List Pos)->Nat->List Pos
 |[],_=>[]
 |  (i,l)::r,e=>match Nat.beq i e with
    |true=>l
    |false=>Yh r e
def exOf:Nat->oE
 |0=>.normal
 |1=>.ret
 |n+2=>.exit n
def Pa(D:Fr->St->(oE->Fr->St->Option R)->Option R)(ins:List Pos)(outs:List (Nat×List Pos))(K':LpK R)(again:List AV->St->Option R)(vs:List AV)(st:St):Option R:=
 VJ ins vs .e λfr=>D fr st λex fr st=>match ex with
    |.normal=>VI ins fr λvs=>again vs st
    |.exit i=>VI (Yh outs (i+2)) fr λos=>K' (i+2) os st
    |.ret=>VI (Yh outs 1) fr λos=>K' 1 os st
def knk(outs:List (Nat×List Pos))(K:oE->Fr->St->Option R):LpK R:=λe os st=>VJ (Yh outs e) os .e λfr=>K (exOf e) fr st
def den (c:aj)(F:Nat)(L:Env R):AC->Sh->Fr->St->(oE->Fr->St->Option R)->Option R
 |.skip,_,fr,st,K=>K .normal fr st
 |.region ops,_,fr,st,K=>aaB c ops fr st (K .normal)
 |.draw ops,_,fr,st,K=>qN c ops [] st.heap fr st (K .normal)
 |  .seq a b,s,fr,st,K=>match s with
    | .seq none s t=>den c F L a s fr st λex fr st=>match ex with
      |.normal=>den c F L b t fr st K
      |.exit i=>K (.exit i) fr st
      |.ret=>K .ret fr st
    | .seq (some l) s t=>dw (λK'=>den c F L a s fr st λex fr st=>match ex with
      |.normal=>VI l fr λvs=>K' vs st
      |.exit i=>K (.exit i) fr st
      |.ret=>K .ret fr st) (λvs st=>VJ l vs .e λfr=>den c F L b t fr st K)
    |_=>none
 |  .cond x a b,s,fr,st,K=>match s with
    | .cond s t=>match Gg fr x with
      |some v=>cnd v (den c F L a s fr st K) (den c F L b t fr st K)
      |none=>none
    |_=>none
 |  .block id a,s,fr,st,K=>match s with
    | .block s=>den c F L a s fr st λex fr st=>match ex with
      |.normal=>K .normal fr st
      | .exit i=>match Nat.beq i id with
        |true=>K .normal fr st
        |false=>K (.exit i) fr st
      |.ret=>K .ret fr st
    |_=>none
 |  .loop _,s,fr,st,K=>match s with
    |.loop j ins outs _=>VI ins fr λvs=>L j (knk outs K) F vs st
    |_=>none
 |.exit id,_,fr,st,K=>K (.exit id) fr st
 |.ret,_,fr,st,K=>K .ret fr st
def CO(c:aj)(F:Nat)(L:Env R)(a:AC):Sh->Prop
 |.loop j ins outs s=>∀K',(∀vs st,L j K' 0 vs st=none)/\∀n vs st,L j K' (n+1) vs st=Pa (den c F L a s) ins outs K' (L j K' n) vs st
 |_=>False
def zO(c:aj)(F:Nat)(L:Env R):AC->Sh->Prop
 |  .seq a b,s=>match s with
    |.seq _ s t=>zO c F L a s/\zO c F L b t
    |_=>True
 |  .cond _ a b,s=>match s with
    |.cond s t=>zO c F L a s/\zO c F L b t
    |_=>True
 |  .block _ a,s=>match s with
    |.block s=>zO c F L a s
    |_=>True
 |  .loop a,s=>match s with
    |.loop j ins outs s=>CO c F L a (.loop j ins outs s)/\zO c F L a s
    |_=>True
 |_,_=>True
def fM:AC->Sh->List (AC×Sh)
 |  .seq a b,s=>match s with
    |.seq _ s t=>fM a s++fM b t
    |_=>[]
 |  .cond _ a b,s=>match s with
    |.cond s t=>fM a s++fM b t
    |_=>[]
 |  .block _ a,s=>match s with
    |.block s=>fM a s
    |_=>[]
 |  .loop a,s=>match s with
    |.loop j ins outs s=>(a,.loop j ins outs s)::fM a s
    |_=>[]
 |_,_=>[]
theorem Fv{c:aj}{F:Nat}{L:Env R}:∀(a:AC)(s:Sh),(∀x∈fM a s,CO c F L x.1 x.2)->zO c F L a s
 |.skip,_,_=>trivial
 |.region _,_,_=>trivial
 |.draw _,_,_=>trivial
 |.exit _,_,_=>trivial
 |.ret,_,_=>trivial
 | .seq a b,s,h=>by
   cases s<;>simp only[zO]<;>simp only[fM,Zd5]at h;exact⟨Fv a _ λx hx=>h x (.inl hx),Fv b _ λx hx=>h x (.inr hx)⟩
 | .cond x a b,s,h=>by
   cases s<;>simp only[zO]<;>simp only[fM,Zd5]at h;exact⟨Fv a _ λx hx=>h x (.inl hx),Fv b _ λx hx=>h x (.inr hx)⟩
 |.block id a,s,h=>by cases s<;>simp only[zO]<;>simp only[fM]at h;exact Fv a _ h
 | .loop a,s,h=>by
   cases s<;>simp only[zO]<;>simp only[fM,Za9]at h;exact⟨h _ (.inl rfl),Fv a _ λx hx=>h x (.inr hx)⟩
def Sub(a b:Fr):Prop:=∀p v,a.get p=some v->b.get p=some v
theorem Sub.refl(a:Fr):Sub a a:=λ_ _ h=>h
theorem Sub.put{a b:Fr}(h:Sub a b)(p:Pos)(v:AV):Sub (a.put (some v) p) (b.put (some v) p):=λq u hq=>by
 by_cases e:p=q
 .subst e;rw[T.gy]at hq ⊢; exact hq
 .rw[T.b9 _ e]at hq ⊢; exact h _ _ hq
theorem Sub.dst{a b:Fr}(h:Sub a b)(d:Option Pos)(v:AV):Sub (ez a d v) (ez b d v):=by
 cases d with
 |none=>exact h
 |some p=>exact h.put p v
theorem Sub.ev{a b:Fr}(h:Sub a b){x:gX}{v:AV}(e:Gg a x=some v):Gg b x=some v:=by
 cases x with
 |t p=>exact h _ _ e
 |c v=>exact e
theorem Sub.evs{a b:Fr}(h:Sub a b):∀{xs:List gX}{vs:List AV},fP a xs=some vs->fP b xs=some vs
 |[],_,e=>e
 |x::xs,vs,e=>by
  unfold fP at e ⊢;cases hx:Gg a x with
  |none=>simp[hx]at e
  |some v=>
   simp only[hx]at e;cases hs:fP a xs with
   |none=>simp[hs]at e
   |some us=>simp only[hs]at e;simp only[h.ev hx,h.evs hs];exact e
theorem RA {c:aj}:∀(os:List bS){fr fR:Fr}{st:St}{K:Fr->St->Option R}{r:R},Sub fr fR->aaB c os fr st K=some r->
  ∃bI dX st',mE c os fR st=some (dX,st')/\Sub bI dX/\K bI st'=some r
 |[],fr,fR,st,K,r,hs,h=>⟨fr,fR,st,rfl,hs,h⟩
 |o::os,fr,fR,st,K,r,hs,h=>by
  unfold aaB at h;cases hx:fP fr o.xs with
  |none=>simp[hx]at h
  |some xs=>
   simp only[hx]at h;have hstp:∀{st},aq c o.k xs st (λv st=>aaB c os (ez fr o.dst v) st K)=some r->cJ fR o.guard=some true->∃bI dX st',mE c (o::os) fR st=some (dX,st')/\Sub bI dX/\K bI st'=some r:=λ{st} h hw=>by
        unfold aq at h;cases iY:cC c o.k xs st with
        |none=>simp[iY]at h
        |some p=>
         simp only[iY]at h;obtain⟨bI,dX,st',h1,h2⟩:=RA os (hs.dst o.dst p.1) h;exact⟨bI,dX,st',by unfold mE;simp only[hw,hs.evs hx,iY];exact h1,h2⟩
   have VK:∀{st},aaB c os (ez fr o.dst .undef) st K=some r->cJ fR o.guard=some false->∃bI dX st',mE c (o::os) fR st=some (dX,st')/\Sub bI dX/\K bI st'=some r:=λ{st} h hw=>by
        obtain⟨bI,dX,st',h1,h2⟩:=RA os (hs.dst o.dst .undef) h;exact⟨bI,dX,st',by unfold mE;simp only[hw];exact h1,h2⟩
   cases hg:o.guard with
   |none=>simp only[hg]at h;exact hstp h (by rw[hg];rfl)
   |    some pw=>
        obtain⟨p,want⟩:=pw;simp only[hg]at h;cases hp:fr.get p with
        |none=>simp[hp]at h
        |some g=>
         simp only[hp]at h;have BT:=hs _ _ hp;unfold qy at h;split at h
         .  rename_i b;split at h
            .rename_i hb;exact hstp h (by rw[hg];simp[cJ,BT,hb])
            .rename_i hb;exact VK h (by rw[hg];simp[cJ,BT,hb])
         .  exact VK h (by rw[hg];simp[cJ,BT])
         .  cases h
theorem ZF {c : aj}:∀(os:List (Nat×bS))(recs:List Rec)(base:T AB){fr fR:Fr}{st:St}{K:Fr->St->Option R}{r:R},Sub fr fR->qN c os recs base fr st K=some r->
  ∃bI dX st',ei c os recs base fR st=some (dX,st')/\Sub bI dX/\K bI st'=some r
 |[],_,_,fr,fR,st,K,r,hs,h=>⟨fr,fR,st,rfl,hs,h⟩
 |(j,   o)::  os, recs,base,fr,fR,st,K,r,hs,h=>by
  have ih:=λrecs base {fr fR:Fr}{st:St}{K:Fr->St->Option R}{r:R}=>ZF (c:=c) os recs base (fr:=fr) (fR:=fR) (st:=st) (K:=K) (r:=r)
  unfold qN at h;cases hx:fP fr o.xs with
  |none=>simp[hx]at h
  | some xs   =>
    simp only[hx]at h;have hxx:=hs.evs hx;have VK:∀{st},qN c os ({ idx:=j,o:=o,v:= .undef,c:= .pure,nx:=st.next }::recs) base (ez fr o.dst .undef) st K=some r->cJ fR o.guard=some false->∃bI dX st',ei c ((j,o)::os) recs base fR st=some (dX,st')/\Sub bI dX/\K bI st'=some r:=λ{st} h hw=>by
        obtain⟨bI,dX,st',h1,h2⟩:=ih _ _ (hs.dst o.dst .undef) h;exact⟨bI,dX,st',by unfold ei;simp only[hw];exact h1,h2⟩
    cases hc:o.cls with
    |   pure=>
        simp only[hc]at h;have VL:fq o.k xs (λv=>qN c os ({ idx:=j,o:=o,v:=v,c:= .pure,nx:=st.next }::recs) base (ez fr o.dst v) st K)=some r->cJ fR o.guard=some true->∃bI dX st',ei c ((j,o)::os) recs base fR st=some (dX,st')/\Sub bI dX/\K bI st'=some r:=λh hw=>by
         unfold fq at h;split at h
         .  rename_i v hv;obtain⟨bI,dX,st',h1,h2⟩:=ih _ _ (hs.dst o.dst v) h;exact⟨bI,dX,st',by unfold ei;simp only[hw,hxx,hc,hv];exact h1,h2⟩
         .  cases h
        cases hg:o.guard with
        |none=>simp only[hg]at h;exact VL h (by rw[hg];rfl)
        |some pw=>
         obtain⟨p,want⟩:=pw;simp only[hg]at h;cases hp:fr.get p with
         |none=>simp[hp]at h
         |  some g=>
            simp only[hp]at h;have BT:=hs _ _ hp;unfold ZC at h;split at h
            . split at h
              .rename_i hb;exact VL h (by rw[hg];simp[cJ,BT,hb])
              .rename_i hb;exact VK h (by rw[hg];simp[cJ,BT,hb])
            .exact VK h (by rw[hg];simp[cJ,BT])
            .cases h
    |   read=>
        simp only[hc]at h;have VL : jt o.k xs (snap o.cg base recs) (λv=>nZ o.cg o.k xs v [] recs) (λv=>qN c os ({ idx:=j,o:=o,v:=v,c:= .pure,nx:=st.next }::recs) base (ez fr o.dst v) st K)=some r->cJ fR o.guard=some true->∃bI dX st',ei c ((j,o)::os) recs base fR st=some (dX,st')/\Sub bI dX/\K bI st'=some r:=λh hw=>by
         unfold jt at h;split at h
         .  rename_i v hv;obtain⟨bI,dX,st',h1,h2⟩:=ih _ _ (hs.dst o.dst v) h;exact⟨bI,dX,st',by unfold ei;simp only[hw,hxx,hc,hv];exact h1,h2⟩
         .  rename_i lF;split at h
            . rename_i v hv;split at h
              . rename_i cw;obtain⟨bI,dX,st',h1,h2⟩:=ih _ _ (hs.dst o.dst v) h;refine⟨bI,dX,st',?_,h2⟩;unfold ei;simp only[hw,hxx,hc];cases hr:o.k.run (λ_=>none) .h xs with
                |none=>simp only[hv,cw];exact h1
                | some x=>cases x with
                  |val u=>exact absurd hr (lF u)
                  |bh v d e n=>simp only[hv,cw];exact h1
                  |call f xs=>simp only[hv,cw];exact h1
              .cases h
            .cases h
        cases hg:o.guard with
        |none=>simp only[hg]at h;exact VL h (by rw[hg];rfl)
        |some pw=>
         obtain⟨p,want⟩:=pw;simp only[hg]at h;cases hp:fr.get p with
         |none=>simp[hp]at h
         |  some g=>
            simp only[hp]at h;have BT:=hs _ _ hp;unfold ZD at h;split at h
            . split at h
              .rename_i hb;exact VL h (by rw[hg];simp[cJ,BT,hb])
              .rename_i hb;exact VK h (by rw[hg];simp[cJ,BT,hb])
            .exact VK h (by rw[hg];simp[cJ,BT])
            .cases h
    |   new =>
        simp only[hc]at h;have VL:TA o.k xs st (λv aM=>qN c os ({ idx:=j,o:=o,v:=v,c:= .new st.next aM,nx:=st.next.succ }::recs) base (ez fr o.dst v) { heap:=st.heap.put (some aM) st.next,next:=st.next.succ } K)=some r->cJ fR o.guard=some true->∃bI dX st',ei c ((j,o)::os) recs base fR st=some (dX,st')/\Sub bI dX/\K bI st'=some r:=λh hw=>by
         unfold TA at h;split at h
         .  rename_i v aM hv;obtain⟨bI,dX,st',h1,h2⟩:=ih _ _ (hs.dst o.dst v) h;exact⟨bI,dX,st',by unfold ei;simp only[hw,hxx,hc,hv];exact h1,h2⟩
         .  cases h
        cases hg:o.guard with
        |none=>simp only[hg]at h;exact VL h (by rw[hg];rfl)
        |some pw=>
         obtain⟨p,want⟩:=pw;simp only[hg]at h;cases hp:fr.get p with
         |none=>simp[hp]at h
         |  some g=>
            simp only[hp]at h;have BT:=hs _ _ hp;unfold ZE at h;split at h
            . split at h
              .rename_i hb;exact VL h (by rw[hg];simp[cJ,BT,hb])
              .rename_i hb;exact VK h (by rw[hg];simp[cJ,BT,hb])
            .exact VK h (by rw[hg];simp[cJ,BT])
            .cases h
    |   bh=>
        simp only[hc]at h;have VL:aq c o.k xs st (λv st'=>qN c os ({ idx:=j,o:=o,v:=v,c:= .bh base st'.heap,nx:=st'.next }::recs) st'.heap (ez fr o.dst v) st' K)=some r->cJ fR o.guard=some true->∃bI dX st',ei c ((j,o)::os) recs base fR st=some (dX,st')/\Sub bI dX/\K bI st'=some r:=λh hw=>by
         unfold aq at h;cases iY:cC c o.k xs st with
         |none=>simp[iY]at h
         |  some p=>
            simp only[iY]at h;obtain⟨bI,dX,st',h1,h2⟩:=ih _ _ (hs.dst o.dst p.1) h;exact⟨bI,dX,st',by unfold ei;simp only[hw,hxx,hc,iY];exact h1,h2⟩
        cases hg:o.guard with
        |none=>simp only[hg]at h;exact VL h (by rw[hg];rfl)
        |some pw=>
         obtain⟨p,want⟩:=pw;simp only[hg]at h;cases hp:fr.get p with
         |none=>simp[hp]at h
         |  some g=>
            simp only[hp]at h;have BT:=hs _ _ hp;unfold ZE at h;split at h
            . split at h
              .rename_i hb;exact VL h (by rw[hg];simp[cJ,BT,hb])
              .rename_i hb;exact VK h (by rw[hg];simp[cJ,BT,hb])
            .exact VK h (by rw[hg];simp[cJ,BT])
            .cases h
def Has:List Pos->List AV->Fr->Prop
 |[],[],_=>True
 |p::ps,v::vs,fr=>fr.get p=some v/\Has ps vs fr
 |_,_,_=>False
theorem Has.sub{a b:Fr}(hs:Sub a b):∀{ps:List Pos}{vs:List AV},Has ps vs a->Has ps vs b
 |[],[],_=>trivial
 |[],_::_,h=>h
 |_::_,[],h=>h
 |_::_,_::_,h=>⟨hs _ _ h.1,Has.sub hs h.2⟩
theorem BU:∀{ps:List Pos}{fr:Fr}{k:List AV->Option R}{r:R},VI ps fr k=some r->∃vs,Has ps vs fr/\k vs=some r
 |[],_,_,_,h=>⟨[],trivial,h⟩
 |p::ps,fr,k,r,h=>by
  unfold VI at h;cases hp:fr.get p with
  |none=>simp[hp]at h
  |some v=>
   simp only[hp]at h;obtain⟨vs,h1,h2⟩:=BU h;exact⟨v::vs,⟨hp,h1⟩,h2⟩
theorem Gr:∀{ps:List Pos}{vs:List AV}{fr fR:Fr}{k:Fr->Option R}{r:R},VJ ps vs fr k=some r->Has ps vs fR->Sub fr fR->∃bI,Sub bI fR/\k bI=some r
 |[],vs,fr,fR,k,r,h,_,hs=>by
  unfold VJ mo at h;split at h
  .exact⟨fr,hs,h⟩
  .cases h
 |p::ps,[],fr,fR,k,r,h,hh,hs=>by simp[VJ,gV]at h
 |p::ps,v::vs,fr,fR,k,r,h,hh,hs=>by
  unfold VJ gV at h;refine Gr h hh.2 λq u hq=> ?_
  by_cases e:p=q
  .subst e;rw[T.gy]at hq;cases hq;exact hh.1
  .rw[T.b9 _ e]at hq;exact hs _ _ hq
theorem Kq{c:aj}{n m:Nat}(h:n<=m){a:AC}{fr:Fr}{st:St}{r:oE×Fr×St}(e:exec c n a fr st=some r):exec c m a fr st=some r:=Yg (Zz.refl c) n m h _ _ _ _ e
theorem sK{c:aj}{F:Nat}{L:Env R}:∀(a:AC)(s:Sh),zO c F L a s->∀{fr fR:Fr}{st:St}{K:oE->Fr->St->Option R}{r:R},Sub fr fR->den c F L a s fr st K=some r->
   ∃n ex bI dX st',exec c n a fR st=some (ex,dX,st')/\Sub bI dX/\K ex bI st'=some r
 |.skip,s,_,fr,fR,st,K,r,hs,h=>⟨1,.normal,fr,fR,st,rfl,hs,by simpa [den]using h⟩
 |.exit id,s,_,fr,fR,st,K,r,hs,h=>⟨1,.exit id,fr,fR,st,rfl,hs,by simpa [den]using h⟩
 |.ret,s,_,fr,fR,st,K,r,hs,h=>⟨1,.ret,fr,fR,st,rfl,hs,by simpa [den]using h⟩
 | .region ops,s,_,fr,fR,st,K,r,hs,h=>by
   simp only[den]at h;obtain⟨bI,dX,st',h1,h2,h3⟩:=RA ops hs h;exact⟨1,.normal,bI,dX,st',by simp only[exec,bC,h1],h2,h3⟩
 | .draw ops,s,_,fr,fR,st,K,r,hs,h=>by
   simp only[den]at h;obtain⟨bI,dX,st',h1,h2,h3⟩:=ZF ops _ _ hs h;exact⟨1,.normal,bI,dX,st',by simp only[exec,bC,h1],h2,h3⟩
 | .seq a b,s,cw,fr,fR,st,K,r,hs,h=>by
   (cases s<;>simp only[den]at h<;>first|(cases h;done)|skip);rename_i jn s t;simp only[zO]at cw;cases jn with
   |none=>
    simp only at h;obtain⟨n,ex,eX,wW,bD,h1,h2,h3⟩:=sK a s cw.1 hs h;cases ex with
    |   normal=>
        obtain⟨m,ex,Tu,agK,An,k1,k2,k3⟩:=sK b t cw.2 h2 h3;exact⟨max n m+1,ex,Tu,agK,An,by simp only[exec,bC,Kq (Zj9 n m) h1];exact Kq (Zj0 n m) k1,k2,k3⟩
    |exit i=>exact⟨n+1,.exit i,eX,wW,bD,by simp only[exec,bC,h1],h2,h3⟩
    |ret=>exact⟨n+1,.ret,eX,wW,bD,by simp only[exec,bC,h1],h2,h3⟩
   |some l=>
    simp only[dw]at h;obtain⟨n,ex,eX,wW,bD,h1,h2,h3⟩:=sK a s cw.1 hs h;cases ex with
    |   normal=>
        obtain⟨vs,g1,g2⟩:=BU h3;obtain⟨bI,g3,g4⟩:=Gr g2 (Has.sub h2 g1) (λp v hp=>by rw[T.dN]at hp;cases hp);obtain⟨m,ex,Tu,agK,An,k1,k2,k3⟩:=sK b t cw.2 g3 g4;exact⟨max n m+1,ex,Tu,agK,An,by simp only[exec,bC,Kq (Zj9 n m) h1];exact Kq (Zj0 n m) k1,k2,k3⟩
    |exit i=>exact⟨n+1,.exit i,eX,wW,bD,by simp only[exec,bC,h1],h2,h3⟩
    |ret=>exact⟨n+1,.ret,eX,wW,bD,by simp only[exec,bC,h1],h2,h3⟩
 | .cond x a b,s,cw,fr,fR,st,K,r,hs,h=>by
   (cases s<;>simp only[den]at h<;>first|(cases h;done)|skip);simp only[zO]at cw;cases hx:Gg fr x with
   |none=>simp[hx]at h
   |some v=>
    simp only[hx]at h;unfold cnd at h;split at h
    .   obtain⟨n,ex,eX,wW,bD,h1,h2,h3⟩:=sK a _ cw.1 hs h;exact⟨n+1,ex,eX,wW,bD,by simp only[exec,bC,hs.ev hx];exact h1,h2,h3⟩
    .   obtain⟨n,ex,eX,wW,bD,h1,h2,h3⟩:=sK b _ cw.2 hs h;exact⟨n+1,ex,eX,wW,bD,by simp only[exec,bC,hs.ev hx];exact h1,h2,h3⟩
    .   cases h
 | .block id a,s,cw,fr,fR,st,K,r,hs,h=>by
   (cases s<;>simp only[den]at h<;>first|(cases h;done)|skip);simp only[zO]at cw;obtain⟨n,ex,eX,wW,bD,h1,h2,h3⟩:=sK a _ cw hs h;cases ex with
   |normal=>exact⟨n+1,.normal,eX,wW,bD,by simp only[exec,bC,h1],h2,h3⟩
   |ret=>exact⟨n+1,.ret,eX,wW,bD,by simp only[exec,bC,h1],h2,h3⟩
   |exit i=>
    simp only at h3;cases hb:Nat.beq i id with
    |true=>simp only[hb]at h3;exact⟨n+1,.normal,eX,wW,bD,by simp only[exec,bC,h1,hb],h2,h3⟩
    |false=>simp only[hb]at h3;exact⟨n+1,.exit i,eX,wW,bD,by simp only[exec,bC,h1,hb],h2,h3⟩
 | .loop a,s,cw,fr,fR,st,K,r,hs,h=>by
   (cases s<;>simp only[den]at h<;>first|(cases h;done)|skip);rename_i j ins outs s;simp only[zO,CO]at cw;obtain⟨au0,cw⟩:=cw;obtain⟨vs,g1,g2⟩:=BU h;obtain⟨hz,hsu⟩:=au0 (knk outs K)
   have main:∀(n:Nat)(vs:List AV)(st:St)(fR:Fr),Has ins vs fR->L j (knk outs K) n vs st=some r->
        ∃m ex bI dX st',exec c m (.loop a) fR st=some (ex,dX,st')/\Sub bI dX/\K ex bI st'=some r:=by
    intro n;induction n with
    |zero=>intro vs st fR _ h;rw[hz]at h;cases h
    |   succ n ihn=>
        intro vs st fR hh h;rw[hsu]at h;unfold Pa at h;obtain⟨cW,q1,q2⟩:=Gr h hh (λp v hp=>by rw[T.dN]at hp;cases hp);obtain⟨m,ex,eX,wW,bD,h1,h2,h3⟩:=sK a s cw q1 q2;cases ex with
        |normal=>
         obtain⟨us,p1,p2⟩:=BU h3;obtain⟨m',ex,Tu,agK,An,k1,k2,k3⟩:=ihn us bD wW (Has.sub h2 p1) p2;exact⟨max m m'+1,ex,Tu,agK,An,by simp only[exec,bC,Kq (Zj9 m m') h1];exact Kq (Zj0 m m') k1,k2,k3⟩
        |exit i=>
         obtain⟨os,p1,p2⟩:=BU h3;obtain⟨Tu,p3,p4⟩:=Gr p2 (Has.sub h2 p1) (λp v hp=>by rw[T.dN]at hp;cases hp);exact⟨m+1,.exit i,Tu,wW,bD,by simp only[exec,bC,h1],p3,p4⟩
        |ret=>
         obtain⟨os,p1,p2⟩:=BU h3;obtain⟨Tu,p3,p4⟩:=Gr p2 (Has.sub h2 p1) (λp v hp=>by rw[T.dN]at hp;cases hp);exact⟨m+1,.ret,Tu,wW,bD,by simp only[exec,bC,h1],p3,p4⟩
   exact main F vs st fR (Has.sub hs g1) g2
def aaC:(H:Pos->Option AB)->Fr->List OC->(List AV->Option R)->Option R
 |_,_,[],k=>k []
 |  H,fr,.tmp p::rs,k=>match fr.get p with
    |some v=>aaC H fr rs λvs=>k (v::vs)
    |none=>none
 |  H,fr,.cell p n::rs,k=>match fr.get p with
    |some q=>match (aE.load n).run H .h [q]with
     |some (.val v)=>aaC H fr rs λvs=>k (v::vs)
     |_=>none
    |none=>none
def ldr(n:Option Nat)(q:AV)(st:St)(K:AV->Option R):Option R:=match (aE.load n).run (λb=>st.heap.get b) .h [q]with
 |some (.val v)=>K v
 |_=>none
theorem MY{H:Pos->Option AB}{fr fR:Fr}(hs:Sub fr fR):∀{rs:List OC}{k:List AV->Option R}{r:R},aaC H fr rs k=some r->∃vs,gP H fR rs=some vs/\k vs=some r
 |[],k,r,h=>⟨[],rfl,h⟩
 | .tmp p::rs,k,r,h=>by
   unfold aaC at h;cases hp:fr.get p with
   |none=>simp[hp]at h
   |some v=>
    simp only[hp]at h;obtain⟨vs,h1,h2⟩:=MY hs h;exact⟨v::vs,by unfold gP;simp only[hs _ _ hp,h1],h2⟩
 | .cell p n::rs,k,r,h=>by
   unfold aaC at h;cases hp:fr.get p with
   |none=>simp[hp]at h
   |some q=>
    simp only[hp]at h;split at h
    .   rename_i v hv;obtain⟨vs,h1,h2⟩:=MY hs h;exact⟨v::vs,by unfold gP;simp only[hs _ _ hp,hv,h1],h2⟩
    .   cases h
def H6(c:aj)(F:Nat)(L:Env (AV×St))(A:dM)(s:Sh)(args:List AV)(st:St):Option (AV×St):=
 match Nat.beq args.length A.nparams with
 |  true=>den c F L A.code s (params 0 args .e) st λex fr st=>match ex with
    |.normal=>aaC (λb=>st.heap.get b) fr A.results λvs=>some (zf vs,st)
    |.ret=>aaC (λb=>st.heap.get b) fr A.results λvs=>some (zf vs,st)
    |.exit _=>none
 |false=>none
theorem apG{O:eP}{G:T dM}{F:Nat}{L:Env (AV×St)}{f:FuncId}{A:dM}{s:Sh}{args:List AV}{st:St}{r:AV×St}(ho:O f=none)(hF:G.get (key f)=some A)
  (hL:∀x∈fM A.code s,CO (run O G) F L x.1 x.2) (h:H6 (run O G) F L A s args st=some r):run O G f args st=some (tidy st r):=by
 unfold H6 at h;split at h<;>first|(cases h;done)|skip
 rename_i hlen;obtain⟨n,ex,bI,dX,st',h1,h2,h3⟩:=sK A.code s (Fv _ _ hL) (Sub.refl _) h;refine apy (n:=n) ho hF ?_;unfold xI;simp only[hlen,h1];cases ex with
 |normal=>
  obtain⟨vs,k1,k2⟩:=MY h2 h3;simp only[k1];exact k2
 |ret=>
  obtain⟨vs,k1,k2⟩:=MY h2 h3;simp only[k1];exact k2
 |exit i=>cases h3
def ah(st:St)(b:AB):St:={ heap:=st.heap.put (some b) st.next,next:=st.next.succ }
def afS{R:Type}:List (Nat×(LpK R->Nat->List AV->St->Option R))->Env R
 |[]=>λ_ _ _ _ _=>none
 |  (i,g)::l=>λj K n=>match Nat.beq i j with
    |true=>g K n
    |false=>afS l j K n
def iu(A:dM)(s:Sh)(i:Nat):AC×Sh:=(fM A.code s).getD i (.skip,.leaf)
theorem apH{R:Type}{c:aj}{F:Nat}{L:Env R}{A:dM}{s:Sh}(n:Nat)(hn:Nat.beq (fM A.code s).length n=true)(h:∀i,i<n->CO c F L (iu A s i).1 (iu A s i).2):
  ∀x∈fM A.code s,CO c F L x.1 x.2:=by
 intro x hx;obtain⟨i,hi,he⟩:=Zg4.1 hx;have hn:=Za7 hn;have:=h i (by omega);unfold iu at this;rw[Za8,H0 hi]at this;simp only[Ze8,he]at this;exact this
def adj:Sh->Bool
 |.loop _ _ _ _=>true
 |_=>false
def lpJ:Sh->Nat
 |.loop j _ _ _=>j
 |_=>0
def lpI:Sh->List Pos
 |.loop _ i _ _=>i
 |_=>[]
def lpO:Sh->List (Nat×List Pos)
 |.loop _ _ o _=>o
 |_=>[]
def lpB:Sh->Sh
 |.loop _ _ _ s=>s
 |_=>.leaf
theorem cH{R:Type}{c:aj}{F:Nat}{L:Env R}{A:dM}{sh:Sh}{i:Nat}(j:Nat)(hs:(adj (iu A sh i).2&&Nat.beq (lpJ (iu A sh i).2) j)=true)(h0:∀K' vs st,L j K' 0 vs st=none)
  (h1:∀K' n vs st,L j K' (n+1) vs st=Pa (den c F L (iu A sh i).1 (lpB (iu A sh i).2)) (lpI (iu A sh i).2) (lpO (iu A sh i).2) K' (L j K' n) vs st):CO c F L (iu A sh i).1 (iu A sh i).2:=by
 generalize (iu A sh i).1=a at*
 generalize (iu A sh i).2=t at*
 cases t with
 |loop j' ins outs s=>
  simp only[adj,lpJ,Zg5]at hs;obtain rfl:=Za7 hs;exact λK'=>⟨h0 K',h1 K'⟩
 |_=>simp[adj]at hs
end
end Go.Ai
section
namespace Go.Ai
open Go
theorem dG(k:IntKind):Ky k k=true:=by cases k<;>rfl
theorem mX(a b:Int):AZ a b=decide (a=b):=by rw[n9];rfl
theorem gH(a b:List Nat):kq a b=decide (a=b):=by rw[Zn6,mH];simp
theorem wrap64{x:Int}(h1: -9223372036854775808<=x)(h2:x<=9223372036854775807):ax .i64 x=x:=by
 unfold ax loI hiI;simp only;split
 . split
   .rfl
   .contradiction
 .contradiction
theorem F9{x:Int}(h1:0<=x)(h2:x<=255):ax .u8 x=x:=by
 unfold ax loI hiI;simp only;split
 . split
   .rfl
   .contradiction
 .contradiction
theorem ju(k:IntKind)(n:Nat):zN (.int k (n:Int))=some n:=id rfl
theorem cM(a b:Nat):Nat.ble a b=decide (a<=b):=by apply Zn6.2;simp
theorem JZ(a b:Nat):Nat.blt a b=decide (a<b):=by apply Zn6.2;simp[Nat.blt,Nat.ble_eq];omega
theorem cK(a b:Nat):Nat.beq a b=decide (a=b):=by apply Zn6.2;simp
def yw{R:Type}(o:Option AV)(k:AV->Option R):Option R:=match o with
 |some v=>k v
 |none=>none
def H7{R:Type}(o:Option (List AV))(k:List AV->Option R):Option R:=match o with
 |some v=>k v
 |none=>none
def aaD{R:Type}(o:Option (AV×St))(k:AV->St->Option R):Option R:=match o with
 |some (v,st)=>k v st
 |none=>none
section
variable{R:Type}(c:aj)(K:AV->St->Option R)(K1:AV->Option R)(A B:Option R)
@[simp] theorem aW(v:AV)(k:AV->Option R):yw (some v) k=k v:=id rfl
@[simp] theorem fC(v:List AV)(k:List AV->Option R):H7 (some v) k=k v:=id rfl
@[simp] theorem cL(v:AV)(st:St)(k:AV->St->Option R):aaD (some (v,st)) k=k v st:=id rfl
@[simp] theorem eo:cnd (.bool true) A B=A:=id rfl
@[simp] theorem dQ:cnd (.bool false) A B=B:=id rfl
@[simp] theorem aL(v:AV)(vs:List AV)(k:AV->List AV->Option R):gV (v::vs) k=k v vs:=id rfl
@[simp] theorem bu(k:Option R):mo [] k=k:=id rfl
theorem iZ(f:(List AV->St->Option R)->Option R)(k:List AV->St->Option R):dw f k=f k:=id rfl
@[simp] theorem lM(b:Bool)(k:aE)(xs:List AV)(st:St):qy c (.bool b) b k xs st K=aq c k xs st K:=by cases b<;>exact id rfl
@[simp] theorem amV(k:aE)(xs:List AV)(st:St):qy c (.bool true) false k xs st K=K .undef st:=id rfl
@[simp] theorem atW(k:aE)(xs:List AV)(st:St):qy c (.bool false) true k xs st K=K .undef st:=id rfl
@[simp] theorem gst_un(b:Bool)(k:aE)(xs:List AV)(st:St):qy c .undef b k xs st K=K .undef st:=id rfl
@[simp] theorem adk(b:Bool)(k:aE)(xs:List AV):ZC (.bool b) b k xs K1=fq k xs K1:=by cases b<;>exact id rfl
@[simp] theorem gpr_tf(k:aE)(xs:List AV):ZC (.bool true) false k xs K1=K1 .undef:=id rfl
@[simp] theorem gpr_ft(k:aE)(xs:List AV):ZC (.bool false) true k xs K1=K1 .undef:=id rfl
@[simp] theorem gpr_un(b:Bool)(k:aE)(xs:List AV):ZC .undef b k xs K1=K1 .undef:=id rfl
@[simp] theorem ajB(b:Bool)(k:aE)(xs:List AV)(h:T AB)(ok:AV->Bool):ZD (.bool b) b k xs h ok K1=jt k xs h ok K1:=by cases b<;>exact id rfl
@[simp] theorem grd_tf(k:aE)(xs:List AV)(h:T AB)(ok:AV->Bool):ZD (.bool true) false k xs h ok K1=K1 .undef:=id rfl
@[simp] theorem grd_ft(k:aE)(xs:List AV)(h:T AB)(ok:AV->Bool):ZD (.bool false) true k xs h ok K1=K1 .undef:=id rfl
@[simp] theorem grd_un(b:Bool)(k:aE)(xs:List AV)(h:T AB)(ok:AV->Bool):ZD .undef b k xs h ok K1=K1 .undef:=id rfl
@[simp] theorem avN(b:Bool):ZE (.bool b) b A B=A:=by cases b<;>exact id rfl
@[simp] theorem wnt_tf:ZE (.bool true) false A B=B:=id rfl
@[simp] theorem wnt_ft:ZE (.bool false) true A B=B:=id rfl
@[simp] theorem wnt_un(b:Bool):ZE .undef b A B=B:=id rfl
theorem KS{k:aE}{xs:List AV}{o:Option AV}(h:∀H n,k.run H n xs=o.map .val)(st:St):aq c k xs st K=yw o λv=>K v st:=by unfold aq cC;rw[h];cases o<;>rfl
theorem VM{k:aE}{xs:List AV}{o:Option AV}(h:∀H n,k.run H n xs=o.map .val):fq k xs K1=yw o K1:=by unfold fq;rw[h];cases o<;>rfl
theorem aS{k:aE}{xs:List AV}{v:AV}(h:∀H n,k.run H n xs=some (.val v))(st:St):aq c k xs st K=K v st:=by
 unfold aq cC;rw[h]
theorem cZ{k:aE}{xs:List AV}{v:AV}(h:∀H n,k.run H n xs=some (.val v)):fq k xs K1=K1 v:=by
 unfold fq;rw[h]
theorem cY(f:FuncId)(l:List AV)(st:St):aq c (.callF f) l st K=aaD (c f l st) K:=by unfold aq cC;show(match c f l st with|some (v,st')=>K v st'|none=>none)=_;cases c f l st<;>rfl
theorem gI(f:FuncId)(l u v:List AV)(st:St):aq c .callV (.func f u v::l) st K=aaD (c f (u++(l++v)) st) K:=by unfold aq cC;show(match c f (u++(l++v)) st with|some (v,st')=>K v st'|none=>none)=_;cases c f (u++(l++v)) st<;>rfl
attribute [simp] cY gI
end
def cellsOf:Option AB->Option (List AV)
 |some (.cells cs _)=>some cs
 |_=>none
@[simp] theorem aG(cs:List AV)(f:Nat):cellsOf (some (.cells cs f))=some cs:=id rfl
def ro(es:Nat)(z:Bool)(rs:List (List AV)):AV:=match z,rs with
 |true,[]=>.af
 |_,rs=>.fl rs es
theorem adl{es:Nat}{z:Bool}{rs:List (List AV)}(h:rs≠[]):ro es z rs= .fl rs es:=by
 unfold ro;split
 .exact absurd rfl h
 .rfl
theorem run_move(H:Pos->Option AB)(n:Pos)(x:AV):aE.run H n .move [x]=some (.val x):=rfl
@[simp] theorem az{R:Type}(c:aj)(K:AV->St->Option R)(st:St)(x:AV):aq c .move [x] st K=K x st:=aS c K (λH n=>run_move H n x) st
@[simp] theorem di{R:Type}(K:AV->Option R)(x:AV):fq .move [x] K=K x:=cZ K (λH n=>run_move H n x)
theorem abT(H:Pos->Option AB)(n:Pos)(x y:AV):aE.run H n .pick [.bool true,x,y]=some (.val x):=rfl
@[simp] theorem RB{R:Type}(c:aj)(K:AV->St->Option R)(st:St)(x y:AV):aq c .pick [.bool true,x,y] st K=K x st:=aS c K (λH n=>abT H n x y) st
@[simp] theorem RD{R:Type}(K:AV->Option R)(x y:AV):fq .pick [.bool true,x,y] K=K x:=cZ K (λH n=>abT H n x y)
theorem abU(H:Pos->Option AB)(n:Pos)(x y:AV):aE.run H n .pick [.bool false,x,y]=some (.val y):=rfl
@[simp] theorem pX{R:Type}(c:aj)(K:AV->St->Option R)(st:St)(x y:AV):aq c .pick [.bool false,x,y] st K=K y st:=aS c K (λH n=>abU H n x y) st
@[simp] theorem au1{R:Type}(K:AV->Option R)(x y:AV):fq .pick [.bool false,x,y] K=K y:=cZ K (λH n=>abU H n x y)
theorem ajC(H:Pos->Option AB)(n:Pos)(p:Bool):aE.run H n (.un .not) [.bool p]=some (.val (.bool (!p))):=rfl
@[simp] theorem Fw{R:Type}(c:aj)(K:AV->St->Option R)(st:St)(p:Bool):aq c (.un .not) [.bool p] st K=K (.bool (!p)) st:=aS c K (λH n=>ajC H n p) st
@[simp] theorem avO{R:Type}(K:AV->Option R)(p:Bool):fq (.un .not) [.bool p] K=K (.bool (!p)):=cZ K (λH n=>ajC H n p)
theorem ajD(H:Pos->Option AB)(n:Pos)(q:gU)(k:IntKind)(a b:Int):aE.run H n (.bin .lss q) [.int k a,.int k b]=some (.val (.bool (decide (a<b)))):=by simp[aE.run,js,o6,dG,mX,e8,kT,gH]
@[simp] theorem dI{R:Type}(c:aj)(K:AV->St->Option R)(st:St)(q:gU)(k:IntKind)(a b:Int):aq c (.bin .lss q) [.int k a,.int k b] st K=K (.bool (decide (a<b))) st:=aS c K (λH n=>ajD H n q k a b) st
@[simp] theorem ajE{R:Type}(K:AV->Option R)(q:gU)(k:IntKind)(a b:Int):fq (.bin .lss q) [.int k a,.int k b] K=K (.bool (decide (a<b))):=cZ K (λH n=>ajD H n q k a b)
theorem ajF(H:Pos->Option AB)(n:Pos)(q:gU)(k:IntKind)(a b:Int):aE.run H n (.bin .leq q) [.int k a,.int k b]=some (.val (.bool (decide (a<=b)))):=by simp[aE.run,js,o6,dG,mX,e8,kT,gH]
@[simp] theorem avP{R:Type}(c:aj)(K:AV->St->Option R)(st:St)(q:gU)(k:IntKind)(a b:Int):aq c (.bin .leq q) [.int k a,.int k b] st K=K (.bool (decide (a<=b))) st:=aS c K (λH n=>ajF H n q k a b) st
@[simp] theorem avQ{R:Type}(K:AV->Option R)(q:gU)(k:IntKind)(a b:Int):fq (.bin .leq q) [.int k a,.int k b] K=K (.bool (decide (a<=b))):=cZ K (λH n=>ajF H n q k a b)
theorem ajG(H:Pos->Option AB)(n:Pos)(q:gU)(k:IntKind)(a b:Int):aE.run H n (.bin .gtr q) [.int k a,.int k b]=some (.val (.bool (decide (b<a)))):=by simp[aE.run,js,o6,dG,mX,e8,kT,gH]
@[simp] theorem BV{R:Type}(c:aj)(K:AV->St->Option R)(st:St)(q:gU)(k:IntKind)(a b:Int):aq c (.bin .gtr q) [.int k a,.int k b] st K=K (.bool (decide (b<a))) st:=aS c K (λH n=>ajG H n q k a b) st
@[simp] theorem ajH{R:Type}(K:AV->Option R)(q:gU)(k:IntKind)(a b:Int):fq (.bin .gtr q) [.int k a,.int k b] K=K (.bool (decide (b<a))):=cZ K (λH n=>ajG H n q k a b)
theorem ajI(H:Pos->Option AB)(n:Pos)(q:gU)(k:IntKind)(a b:Int):aE.run H n (.bin .geq q) [.int k a,.int k b]=some (.val (.bool (decide (b<=a)))):=by simp[aE.run,js,o6,dG,mX,e8,kT,gH]
@[simp] theorem ajJ{R:Type}(c:aj)(K:AV->St->Option R)(st:St)(q:gU)(k:IntKind)(a b:Int):aq c (.bin .geq q) [.int k a,.int k b] st K=K (.bool (decide (b<=a))) st:=aS c K (λH n=>ajI H n q k a b) st
@[simp] theorem avR{R:Type}(K:AV->Option R)(q:gU)(k:IntKind)(a b:Int):fq (.bin .geq q) [.int k a,.int k b] K=K (.bool (decide (b<=a))):=cZ K (λH n=>ajI H n q k a b)
theorem ajK(H:Pos->Option AB)(n:Pos)(q:gU)(k:IntKind)(a b:Int):aE.run H n (.bin .eql q) [.int k a,.int k b]=some (.val (.bool (decide (a=b)))):=by simp[aE.run,js,o6,dG,mX,e8,kT,gH]
@[simp] theorem fN{R:Type}(c:aj)(K:AV->St->Option R)(st:St)(q:gU)(k:IntKind)(a b:Int):aq c (.bin .eql q) [.int k a,.int k b] st K=K (.bool (decide (a=b))) st:=aS c K (λH n=>ajK H n q k a b) st
@[simp] theorem adm{R:Type}(K:AV->Option R)(q:gU)(k:IntKind)(a b:Int):fq (.bin .eql q) [.int k a,.int k b] K=K (.bool (decide (a=b))):=cZ K (λH n=>ajK H n q k a b)
theorem ajL(H:Pos->Option AB)(n:Pos)(q:gU)(k:IntKind)(a b:Int):aE.run H n (.bin .neq q) [.int k a,.int k b]=some (.val (.bool (!decide (a=b)))):=by simp[aE.run,js,o6,dG,mX,e8,kT,gH]
@[simp] theorem Pb{R:Type}(c:aj)(K:AV->St->Option R)(st:St)(q:gU)(k:IntKind)(a b:Int):aq c (.bin .neq q) [.int k a,.int k b] st K=K (.bool (!decide (a=b))) st:=aS c K (λH n=>ajL H n q k a b) st
@[simp] theorem avS{R:Type}(K:AV->Option R)(q:gU)(k:IntKind)(a b:Int):fq (.bin .neq q) [.int k a,.int k b] K=K (.bool (!decide (a=b))):=cZ K (λH n=>ajL H n q k a b)
theorem ajM(H:Pos->Option AB)(n:Pos)(q:gU)(k:IntKind)(a b:Int):aE.run H n (.bin .add q) [.int k a,.int k b]=some (.val (.int k (ax k (a+b)))):=by simp[aE.run,js,o6,dG,mX,e8,kT,gH]
@[simp] theorem gC{R:Type}(c:aj)(K:AV->St->Option R)(st:St)(q:gU)(k:IntKind)(a b:Int):aq c (.bin .add q) [.int k a,.int k b] st K=K (.int k (ax k (a+b))) st:=aS c K (λH n=>ajM H n q k a b) st
@[simp] theorem asg{R:Type}(K:AV->Option R)(q:gU)(k:IntKind)(a b:Int):fq (.bin .add q) [.int k a,.int k b] K=K (.int k (ax k (a+b))):=cZ K (λH n=>ajM H n q k a b)
theorem ajN(H:Pos->Option AB)(n:Pos)(q:gU)(k:IntKind)(a b:Int):aE.run H n (.bin .sub q) [.int k a,.int k b]=some (.val (.int k (ax k (a - b)))):=by simp[aE.run,js,o6,dG,mX,e8,kT,gH]
@[simp] theorem adn{R:Type}(c:aj)(K:AV->St->Option R)(st:St)(q:gU)(k:IntKind)(a b:Int):aq c (.bin .sub q) [.int k a,.int k b] st K=K (.int k (ax k (a - b))) st:=aS c K (λH n=>ajN H n q k a b) st
@[simp] theorem ajO{R:Type}(K:AV->Option R)(q:gU)(k:IntKind)(a b:Int):fq (.bin .sub q) [.int k a,.int k b] K=K (.int k (ax k (a - b))):=cZ K (λH n=>ajN H n q k a b)
theorem ash(H:Pos->Option AB)(n:Pos)(q:gU)(k:IntKind)(a b:Int):aE.run H n (.bin .mul q) [.int k a,.int k b]=some (.val (.int k (ax k (a*b)))):=by simp[aE.run,js,o6,dG,mX,e8,kT,gH]
@[simp] theorem avT{R:Type}(c:aj)(K:AV->St->Option R)(st:St)(q:gU)(k:IntKind)(a b:Int):aq c (.bin .mul q) [.int k a,.int k b] st K=K (.int k (ax k (a*b))) st:=aS c K (λH n=>ash H n q k a b) st
theorem agL(H:Pos->Option AB)(n:Pos)(q:gU)(s t:List Nat):aE.run H n (.bin .eql q) [.str s,.str t]=some (.val (.bool (decide (s=t)))):=by simp[aE.run,js,o6,dG,mX,e8,kT,gH]
@[simp] theorem avB{R:Type}(c:aj)(K:AV->St->Option R)(st:St)(q:gU)(s t:List Nat):aq c (.bin .eql q) [.str s,.str t] st K=K (.bool (decide (s=t))) st:=aS c K (λH n=>agL H n q s t) st
@[simp] theorem avC{R:Type}(K:AV->Option R)(q:gU)(s t:List Nat):fq (.bin .eql q) [.str s,.str t] K=K (.bool (decide (s=t))):=cZ K (λH n=>agL H n q s t)
theorem agM(H:Pos->Option AB)(n:Pos)(q:gU)(s t:List Nat):aE.run H n (.bin .neq q) [.str s,.str t]=some (.val (.bool (!decide (s=t)))):=by simp[aE.run,js,o6,dG,mX,e8,kT,gH]
@[simp] theorem aaE{R:Type}(c:aj)(K:AV->St->Option R)(st:St)(q:gU)(s t:List Nat):aq c (.bin .neq q) [.str s,.str t] st K=K (.bool (!decide (s=t))) st:=aS c K (λH n=>agM H n q s t) st
@[simp] theorem apI{R:Type}(K:AV->Option R)(q:gU)(s t:List Nat):fq (.bin .neq q) [.str s,.str t] K=K (.bool (!decide (s=t))):=cZ K (λH n=>agM H n q s t)
theorem apJ(H:Pos->Option AB)(n:Pos)(q:gU)(s t:List Nat):aE.run H n (.bin .lss q) [.str s,.str t]=some (.val (.bool (aO s t))):=by simp[aE.run,js,o6,dG,mX,e8,kT,gH]
@[simp] theorem avD{R:Type}(K:AV->Option R)(q:gU)(s t:List Nat):fq (.bin .lss q) [.str s,.str t] K=K (.bool (aO s t)):=cZ K (λH n=>apJ H n q s t)
theorem apK(H:Pos->Option AB)(n:Pos)(q:gU)(s t:List Nat):aE.run H n (.bin .geq q) [.str s,.str t]=some (.val (.bool (!aO s t))):=by simp[aE.run,js,o6,dG,mX,e8,kT,gH]
@[simp] theorem avE{R:Type}(c:aj)(K:AV->St->Option R)(st:St)(q:gU)(s t:List Nat):aq c (.bin .geq q) [.str s,.str t] st K=K (.bool (!aO s t)) st:=aS c K (λH n=>apK H n q s t) st
theorem apL(H:Pos->Option AB)(n:Pos)(p r:Bool):aE.run H n (.bin .neq .bool) [.bool p,.bool r]=some (.val (.bool (!(p==r)))):=rfl
@[simp] theorem apM{R:Type}(c:aj)(K:AV->St->Option R)(st:St)(p r:Bool):aq c (.bin .neq .bool) [.bool p,.bool r] st K=K (.bool (!(p==r))) st:=aS c K (λH n=>apL H n p r) st
theorem apN(H:Pos->Option AB)(n:Pos)(s:List Nat):aE.run H n (.lenB .s) [.str s]=some (.val (.int .i64 (s.length:Int))):=rfl
@[simp] theorem avF{R:Type}(c:aj)(K:AV->St->Option R)(st:St)(s:List Nat):aq c (.lenB .s) [.str s] st K=K (.int .i64 (s.length:Int)) st:=aS c K (λH n=>apN H n s) st
theorem agN(H:Pos->Option AB)(n:Pos)(es:Nat)(z:Bool)(rs:List (List AV)):aE.run H n (.lenB .l) [ro es z rs]=some (.val (.int .i64 (rs.length:Int))):=by unfold ro;split<;>rfl
@[simp] theorem jv{R:Type}(c:aj)(K:AV->St->Option R)(st:St)(es:Nat)(z:Bool)(rs:List (List AV)):aq c (.lenB .l) [ro es z rs] st K=K (.int .i64 (rs.length:Int)) st:=aS c K (λH n=>agN H n es z rs) st
@[simp] theorem agO{R:Type}(K:AV->Option R)(es:Nat)(z:Bool)(rs:List (List AV)):fq (.lenB .l) [ro es z rs] K=K (.int .i64 (rs.length:Int)):=cZ K (λH n=>agN H n es z rs)
theorem agP(H:Pos->Option AB)(n:Pos)(k k2:IntKind)(a:Int):aE.run H n (.conv (.int k)) [.int k2 a]=some (.val (.int k (ax k a))):=rfl
@[simp] theorem KT{R:Type}(c:aj)(K:AV->St->Option R)(st:St)(k k2:IntKind)(a:Int):aq c (.conv (.int k)) [.int k2 a] st K=K (.int k (ax k a)) st:=aS c K (λH n=>agP H n k k2 a) st
@[simp] theorem avG{R:Type}(K:AV->Option R)(k k2:IntKind)(a:Int):fq (.conv (.int k)) [.int k2 a] K=K (.int k (ax k a)):=cZ K (λH n=>agP H n k k2 a)
theorem apO(H:Pos->Option AB)(n:Pos)(k:IntKind)(s:List Nat)(i:Nat):aE.run H n .idxS [.str s,.int k (i:Int)]=((s[i]?.map λc=>.int .u8 (c:Int)):Option AV).map .val:=by simp only[aE.run,X7,ju,qu];cases s[i]? <;>rfl
@[simp] theorem avH{R:Type}(c:aj)(K:AV->St->Option R)(st:St)(k:IntKind)(s:List Nat)(i:Nat):aq c .idxS [.str s,.int k (i:Int)] st K=yw (s[i]?.map λc=>.int .u8 (c:Int)) λv=>K v st:=KS c K (λH n=>apO H n k s i) st
theorem amW(H:Pos->Option AB)(n:Pos)(off:Nat)(l:List AV):aE.run H n (.field off none) [.agg l]=(l[off]? :Option AV).map .val:=by simp only[aE.run,QT,qu];cases l[off]? <;>rfl
@[simp] theorem aet{R:Type}(K:AV->Option R)(off:Nat)(l:List AV):fq (.field off none) [.agg l] K=yw l[off]? K:=VM K (λH n=>amW H n off l)
theorem VN(H:Pos->Option AB)(n:Pos)(off:Nat)(p:Pos)(o:Nat):aE.run H n (.fieldA off) [.ptr p o]=some (.val (.ptr p (o+off))):=rfl
@[simp] theorem aT{R:Type}(c:aj)(K:AV->St->Option R)(st:St)(off:Nat)(p:Pos)(o:Nat):aq c (.fieldA off) [.ptr p o] st K=K (.ptr p (o+off)) st:=aS c K (λH n=>VN H n off p o) st
@[simp] theorem br{R:Type}(K:AV->Option R)(off:Nat)(p:Pos)(o:Nat):fq (.fieldA off) [.ptr p o] K=K (.ptr p (o+off)):=cZ K (λH n=>VN H n off p o)
theorem agQ(H:Pos->Option AB)(n:Pos)(off:Nat)(xs:List (List AV))(i j:Nat):aE.run H n (.fieldA off) [.fp xs i j]=some (.val (.fp xs i (j+off))):=rfl
@[simp] theorem atX{R:Type}(c:aj)(K:AV->St->Option R)(st:St)(off:Nat)(xs:List (List AV))(i j:Nat):aq c (.fieldA off) [.fp xs i j] st K=K (.fp xs i (j+off)) st:=aS c K (λH n=>agQ H n off xs i j) st
theorem ZG(H:Pos->Option AB)(n:Pos)(i:Nat)(l:List AV):aE.run H n (.extract i) [.tuple l]=(l[i]? :Option AV).map .val:=by simp only[aE.run,JV,qu];cases l[i]? <;>rfl
@[simp] theorem jK{R:Type}(c:aj)(K:AV->St->Option R)(st:St)(i:Nat)(l:List AV):aq c (.extract i) [.tuple l] st K=yw l[i]? λv=>K v st:=KS c K (λH n=>ZG H n i l) st
@[simp] theorem auJ{R:Type}(K:AV->Option R)(i:Nat)(l:List AV):fq (.extract i) [.tuple l] K=yw l[i]? K:=VM K (λH n=>ZG H n i l)
theorem Pc(H:Pos->Option AB)(n:Pos)(p:Pos)(o:Nat):aE.run H n .nilCheck [.ptr p o]=some (.val (.ptr p o)):=rfl
@[simp] theorem cE{R:Type}(c:aj)(K:AV->St->Option R)(st:St)(p:Pos)(o:Nat):aq c .nilCheck [.ptr p o] st K=K (.ptr p o) st:=aS c K (λH n=>Pc H n p o) st
@[simp] theorem oc{R:Type}(K:AV->Option R)(p:Pos)(o:Nat):fq .nilCheck [.ptr p o] K=K (.ptr p o):=cZ K (λH n=>Pc H n p o)
theorem agR(H:Pos->Option AB)(n:Pos)(es:Nat)(z:Bool)(rs:List (List AV))(k:IntKind)(i:Nat):aE.run H n (.idxA es none) [ro es z rs,.int k (i:Int)]=((if i<rs.length then some (.fp rs i 0)else none):Option AV).map .val:=by
 by_cases h:i<rs.length
 .rw[adl (by intro e;subst e;simp at h)];simp[aE.run,rX,ju,JZ,cK,h]
 . unfold ro;split
   .rfl
   .simp[aE.run,rX,ju,JZ,cK,h]
@[simp] theorem aaF{R:Type}(c:aj)(K:AV->St->Option R)(st:St)(es:Nat)(z:Bool)(rs:List (List AV))(k:IntKind)(i:Nat):aq c (.idxA es none) [ro es z rs,.int k (i:Int)] st K=yw (if i<rs.length then some (.fp rs i 0)else none) λv=>K v st:=KS c K (λH n=>agR H n es z rs k i) st
@[simp] theorem apP{R:Type}(K:AV->Option R)(es:Nat)(z:Bool)(rs:List (List AV))(k:IntKind)(i:Nat):fq (.idxA es none) [ro es z rs,.int k (i:Int)] K=yw (if i<rs.length then some (.fp rs i 0)else none) K:=VM K (λH n=>agR H n es z rs k i)
theorem aeu(H:Pos->Option AB)(n:Pos)(es:Nat)(z:Bool)(rs:List (List AV))(k:IntKind)(i:Nat):aE.run H n (.sliceL es false true false) [ro es z rs,.int k (i:Int)]=((if i<=rs.length then some (ro es (z&&rs.isEmpty) (rs.take i))else none):Option AV).map .val:=by
 by_cases h:i<=rs.length
 . rw[  Zb4 h];unfold ro;split
   .simp at h;subst h;rfl
   .rename_i hn;have:(z&&rs.isEmpty)=false:=(by cases z<;>cases rs<;>simp at hn ⊢);simp only[this];simp[aE.run,iL,bounds,ju,cM,cK,h]
 . rw[Za6 h];unfold ro;split
   .simp only[aE.run,iL,bounds,ju];have:¬i=0:=(by simp at h;omega);simp[cK,this]
   .simp[aE.run,iL,bounds,ju,cM,cK,h]
@[simp] theorem avz{R:Type}(c:aj)(K:AV->St->Option R)(st:St)(es:Nat)(z:Bool)(rs:List (List AV))(k:IntKind)(i:Nat):aq c (.sliceL es false true false) [ro es z rs,.int k (i:Int)] st K=yw (if i<=rs.length then some (ro es (z&&rs.isEmpty) (rs.take i))else none) λv=>K v st:=KS c K (λH n=>aeu H n es z rs k i) st
@[simp] theorem amX{R:Type}(K:AV->Option R)(es:Nat)(z:Bool)(rs:List (List AV))(k:IntKind)(i:Nat):fq (.sliceL es false true false) [ro es z rs,.int k (i:Int)] K=yw (if i<=rs.length then some (ro es (z&&rs.isEmpty) (rs.take i))else none) K:=VM K (λH n=>aeu H n es z rs k i)
section
variable{R:Type}(c:aj)(K:AV->St->Option R)(K1:AV->Option R)
theorem CP(H:Pos->Option AB)(n:Pos)(xs:List (List AV))(i j:Nat):aE.run H n (.load none) [.fp xs i j]=(xs[i]?.bind λcs=>cs[j]?).map .val:=by
 simp only[aE.run,ze,qu];cases xs[i]? with
 |none=>rfl
 |some cs=>simp only[Zb1];cases cs[j]? <;>rfl
theorem NP(H:Pos->Option AB)(n:Pos)(m:Nat)(xs:List (List AV))(i j:Nat):aE.run H n (.load (some m)) [.fp xs i j]=((xs[i]?.bind λcs=>cut cs j m).map .agg).map .val:=by
 simp only[aE.run,ze,qu];cases xs[i]? with
 |none=>rfl
 |some cs=>simp only[Zb1];cases cut cs j m<;>rfl
theorem sM (H:Pos->Option AB)(n:Pos)(p:Pos)(o:Nat):aE.run H n (.load none) [.ptr p o]=((cellsOf (H p)).bind λcs=>cs[o]?).map .val:=by
 simp only[aE.run,ze,qu];cases H p with
 |none=>rfl
 |some x=>   cases x<;>simp only[cellsOf,Zb1,Option.bind_none]<;>try rfl
             all_goals first|(rename_i cs _;cases cs[o]? <;>rfl)|(rename_i _ cs;cases cs[o]? <;>rfl)
theorem wP (H:Pos->Option AB)(n:Pos)(m:Nat)(p:Pos)(o:Nat):aE.run H n (.load (some m)) [.ptr p o]=(((cellsOf (H p)).bind λcs=>cut cs o m).map .agg).map .val:=by
 simp only[aE.run,ze];cases H p with
 |none=>rfl
 |some x=>   cases x<;>simp only[cellsOf,Zb1,Option.bind_none]<;>try rfl
             all_goals first|(rename_i cs _;cases cut cs o m<;>rfl)|(rename_i _ cs;cases cut cs o m<;>rfl)
@[simp] theorem au2(st:St)(xs:List (List AV))(i j:Nat):aq c (.load none) [.fp xs i j] st K=yw (xs[i]?.bind λcs=>cs[j]?) λv=>K v st:=KS c K (λH n=>CP H n xs i j) st
@[simp] theorem aiV(st:St)(m:Nat)(xs:List (List AV))(i j:Nat):aq c (.load (some m)) [.fp xs i j] st K=H7 (xs[i]?.bind λcs=>cut cs j m) λl=>K (.agg l) st:=by rw[KS c K (λH n=>NP H n m xs i j) st];cases(xs[i]?.bind λcs=>cut cs j m)<;>rfl
@[simp] theorem aY(st:St)(p:Pos)(o:Nat):aq c (.load none) [.ptr p o] st K=yw ((cellsOf (st.heap.get p)).bind λcs=>cs[o]?) λv=>K v st:=by unfold aq cC;rw[sM];cases((cellsOf (st.heap.get p)).bind λcs=>cs[o]?)<;>rfl
@[simp] theorem gW(st:St)(m:Nat)(p:Pos)(o:Nat):aq c (.load (some m)) [.ptr p o] st K=H7 ((cellsOf (st.heap.get p)).bind λcs=>cut cs o m) λl=>K (.agg l) st:=by unfold aq cC;rw[wP];cases((cellsOf (st.heap.get p)).bind λcs=>cut cs o m)<;>rfl
@[simp] theorem au3(h:T AB)(xs:List (List AV))(i j:Nat):jt (.load none) [.fp xs i j] h (λ_=>true) K1=yw (xs[i]?.bind λcs=>cs[j]?) K1:=by unfold jt;rw[CP,CP];cases hx:(xs[i]?.bind λcs=>cs[j]?)<;>rfl
@[simp] theorem auK(h:T AB)(m:Nat)(xs:List (List AV))(i j:Nat):jt (.load (some m)) [.fp xs i j] h (λ_=>true) K1=H7 (xs[i]?.bind λcs=>cut cs j m) λl=>K1 (.agg l):=by unfold jt;rw[NP,NP];cases hx:(xs[i]?.bind λcs=>cut cs j m)<;>rfl
@[simp] theorem Gb(st:St)(f:FuncId)(xs:List AV):aq c (.mkFunc f 0) xs st K=K (.func f [] xs) st:=aS c K (λH n=>by simp[aE.run,Gf,cM]) st
@[simp] theorem NQ(f:FuncId)(xs:List AV):fq (.mkFunc f 0) xs K1=K1 (.func f [] xs):=cZ K1 (λH n=>by simp[aE.run,Gf,cM])
@[simp] theorem jN(h:T AB)(p:Pos)(o:Nat):jt (.load none) [.ptr p o] h (λ_=>true) K1=yw ((cellsOf (h.get p)).bind λcs=>cs[o]?) K1:=by unfold jt;rw[sM,sM];show(match ((cellsOf (h.get p)).bind λcs=>cs[o]?).map eG.val with|some (.val v)=>_|_=>_)=_;cases((cellsOf (h.get p)).bind λcs=>cs[o]?)<;>rfl
@[simp] theorem wQ(h:T AB)(m:Nat)(p:Pos)(o:Nat):jt (.load (some m)) [.ptr p o] h (λ_=>true) K1=H7 ((cellsOf (h.get p)).bind λcs=>cut cs o m) λl=>K1 (.agg l):=by unfold jt;rw[wP,wP];show(match (((cellsOf (h.get p)).bind λcs=>cut cs o m).map AV.agg).map eG.val with|some (.val v)=>_|_=>_)=_;cases((cellsOf (h.get p)).bind λcs=>cut cs o m)<;>rfl
theorem run_build(H:Pos->Option AB)(n:Pos)(z:List AV)(ps:List (Nat×Nat))(xs:List AV):aE.run H n (.build z ps) xs=((cF z ps xs).map .agg).map .val:=by simp only[aE.run,QM];cases cF z ps xs<;>rfl
@[simp] theorem ig(st:St)(z:List AV)(ps:List (Nat×Nat))(xs:List AV):aq c (.build z ps) xs st K=H7 (cF z ps xs) λl=>K (.agg l) st:=by rw[KS c K (λH n=>run_build H n z ps xs) st];cases cF z ps xs<;>rfl
@[simp] theorem Gs(z:List AV)(ps:List (Nat×Nat))(xs:List AV):fq (.build z ps) xs K1=H7 (cF z ps xs) λl=>K1 (.agg l):=by rw[VM K1 (λH n=>run_build H n z ps xs)];cases cF z ps xs<;>rfl
theorem cQ{α:Type}{l:List α}{m:Nat}(h:l.length=m):cut l 0 m=some l:=by
 unfold cut;rw[cM,Za0 (by omega)];simp only[Ze6];rw[Ze9 (by omega)]
end
end Go.Ai
namespace Go.Ai
open Go
def Wf(st:St):Prop:=∀p x,st.heap.get p=some x->p.toNat<st.next.toNat
theorem bN(st:St)(b:AB):(ah st b).next=st.next.succ:=id rfl
@[simp] theorem bF{st:St}{b:AB}(h:Wf st):Wf (ah st b):=λp x hp=>by
  rw[bN,Pos.aD];by_cases e:st.next=p
  .subst e;omega
  .have:=h p x (by rwa [ah,T.b9 _ e]at hp);omega
@[simp] theorem aA(st:St)(b:AB):(ah st b).heap.get st.next=some b:=T.gy _ _ _
theorem tH{st:St}{b:AB}{p:Pos}(h:p.toNat<st.next.toNat):(ah st b).heap.get p=st.heap.get p:=by
 rw[ah,T.b9 _ (by intro e;subst e;omega)]
@[simp] theorem CQ{st:St}{a b:AB}:(ah (ah st a) b).heap.get st.next=some a:=by
  rw[tH (by rw[bN,Pos.aD];omega),aA]
theorem cq{st:St}{b:AB}(h:Wf st):aX st (ah st b):=λp x hp=>by rw[tH (h p x hp)];exact hp
theorem aF{st st':St}{v:AV}(hv:Plain v)(hk:aX st st'):tidy st (v,st')=(v,st):=by
 unfold tidy;rw[Zb4 ⟨hv,hk⟩]
section
variable{R:Type}(c:aj)(K:AV->St->Option R)
@[simp] theorem dy(x:AV)(st:St):aq c .box [x] st K=K (.ptr st.next 0) (ah st (.cells x.cells 0)):=id rfl
@[simp] theorem dB(l:List AV)(st:St):aq c (.alloc l) [] st K=K (.ptr st.next 0) (ah st (.cells l 0)):=id rfl
end
theorem T.Fx{α:Type}(x y:Option α):∀(p:Pos)(t:T α),T.put x p (T.put y p t)=T.put x p t
 |.h,.e=>rfl
 |.h,.n _ _ _=>rfl
 |.o p,.e=>by simp only[T.put];rw[T.Fx x y p]
 |.o p,.n _ _ _=>by simp only[T.put];rw[T.Fx x y p]
 |.i p,.e=>by simp only[T.put];rw[T.Fx x y p]
 |.i p,.n _ _ _=>by simp only[T.put];rw[T.Fx x y p]
def bg(st:St)(p:Pos)(b:AB):St:={ heap:=st.heap.put (some b) p,next:=st.next }
@[simp] theorem dH(st:St)(p:Pos)(b:AB):(bg st p b).next=st.next:=id rfl
@[simp] theorem bG(st:St)(p:Pos)(b:AB):(bg st p b).heap.get p=some b:=T.gy _ _ _
theorem aH{st:St}{p q:Pos}{b:AB}(h:p≠q):(bg st p b).heap.get q=st.heap.get q:=T.b9 _ h _
@[simp] theorem Yi(st:St)(a b:AB):bg (ah st a) st.next b=ah st b:=by
  unfold bg ah;simp only[T.Fx]
@[simp] theorem Pe(st:St)(p:Pos)(a b:AB):bg (bg st p a) p b=bg st p b:=by
  unfold bg;simp only[T.Fx]
theorem Pos.Yj(p:Pos):p≠p.succ:=λe=>by have:=congrArg Pos.toNat e;rw[Pos.aD]at this;omega
theorem bY{R:Type}(c:aj)(K:AV->St->Option R)(st:St)(m:Nat)(p:Pos)(o:Nat)(v:AV)(cs:List AV)(h:st.heap.get p=some (.cells cs 0))(h1:v.cells.length=m)(h2:o+m<=cs.length)(h3:aN v.cells=true):
  aq c (.store m) [.ptr p o,v] st K=K .undef (bg st p (.cells (aQ cs o v.cells) 0)):=by
 have:aE.run (λb=>st.heap.get b) st.next (.store m) [.ptr p o,v]=some (.bh .undef none (some (p,.cells (aQ cs o v.cells) 0)) none):=by
  simp[aE.run,KA,h,h1,h2,h3,cK,cM]
 unfold aq cC;rw[this];rfl
@[simp] theorem cG{R:Type}(c:aj)(K:AV->St->Option R)(st:St)(m:Nat)(v:AV)(cs:List AV)(h1:v.cells.length=m)(h2:m=cs.length)(h3:aN v.cells=true):
   aq c (.store m) [.ptr st.next 0,v] (ah st (.cells cs 0)) K=K .undef (ah st (.cells v.cells 0)):=by
  rw[bY c K _ m st.next 0 v cs (aA _ _) h1 (by omega) h3,Yi];have:aQ cs 0 v.cells=v.cells:=by unfold aQ;rw[h1,h2];simp
  rw[this]
theorem au4{R:Type}(n:Option Nat)(p:Pos)(o:Nat)(st:St)(K:AV->Option R):ldr n (.ptr p o) st K=match n with
  |none=>yw ((cellsOf (st.heap.get p)).bind λcs=>cs[o]?) K
  |some m=>H7 ((cellsOf (st.heap.get p)).bind λcs=>cut cs o m) λl=>K (.agg l):=by
 unfold ldr;cases n with
 |none=>rw[sM];simp only;cases((cellsOf (st.heap.get p)).bind λcs=>cs[o]?)<;>rfl
 |some m=>rw[wP];simp only;cases((cellsOf (st.heap.get p)).bind λcs=>cut cs o m)<;>rfl
@[simp] theorem aaG{R:Type}(m:Nat)(p:Pos)(o:Nat)(st:St)(K:AV->Option R):ldr (some m) (.ptr p o) st K=H7 ((cellsOf (st.heap.get p)).bind λcs=>cut cs o m) λl=>K (.agg l):=au4 (some m) p o st K
@[simp] theorem amY(es:Nat)(z:Bool)(rs:List (List AV)):(ro es z rs).one=true:=by unfold ro;split<;>rfl
@[simp] theorem agS(es:Nat)(z:Bool)(rs:List (List AV)):(ro es z rs).cells=[ro es z rs]:=by unfold ro;split<;>rfl
theorem Plain.ro{es:Nat}{z:Bool}{rs:List (List AV)}(h:∀cs∈rs,∀v∈cs,Plain v):Plain (ro es z rs):=by
 unfold Go.Ai.ro;split
 .exact Plain.af
 .exact Plain.fl h
structure Grew(s s':St):Prop where
 wf:Wf s'
 keeps:aX s s'
 next:s.next.toNat<=s'.next.toNat
theorem Grew.refl{s:St}(h:Wf s):Grew s s:=⟨h,aX.refl s,Za3 _⟩
theorem Grew.trans{a b c:St}(h:Grew a b)(k:Grew b c):Grew a c:=⟨k.wf,h.keeps.trans k.keeps,Zb3 h.next k.next⟩
theorem Grew.ah{s:St}(h:Wf s)(b:AB):Grew s (ah s b):=⟨bF h,cq h,by rw[bN,Pos.aD];omega⟩
theorem Grew.get{s s':St}(h:Grew s s'){p:Pos}{x:AB}(hp:s.heap.get p=some x):s'.heap.get p=some x:=h.keeps p x hp
end Go.Ai
end
namespace Go.Ai
section
open Go
theorem iG{st:St}{p:Pos}{b:AB}(h:Wf st)(hp:p.toNat<st.next.toNat):Wf (bg st p b):=λq x hq=>by
 rw[dH];by_cases e:p=q
 .subst e;exact hp
 .rw[aH e]at hq;exact h q x hq
def dst(st:St)(p:Pos)(b:AB):St:={ heap:=(st.heap.put none p).put (some b) st.next,next:=st.next.succ }
theorem apQ(st:St)(p:Pos)(b:AB):(dst st p b).next=st.next.succ:=id rfl
theorem Yk(st:St)(p:Pos)(b:AB):(dst st p b).heap.get st.next=some b:=T.gy _ _ _
theorem RE{st:St}{p q:Pos}{b:AB}(h:p≠q)(h2:q.toNat<st.next.toNat):(dst st p b).heap.get q=st.heap.get q:=by
 rw[dst,T.b9 _ (by intro e;subst e;omega),T.b9 _ h]
theorem agT{st:St}{p:Pos}{b:AB}(h:Wf st):Wf (dst st p b):=λq x hq=>by
 rw[apQ,Pos.aD];by_cases e:st.next=q
 .subst e;omega
 . rw[dst,T.b9 _ e]at hq;by_cases e2:p=q
   .subst e2;rw[T.gy]at hq;cases hq
   .rw[T.b9 _ e2]at hq;have:=h q x hq;omega
theorem amZ{s s':St}{v:AV}(h:Grew s s')(hw:Wf s):∃fI,tidy s (v,s')=(v,fI)/\Grew s fI:=by
 unfold tidy;split
 .exact⟨s,rfl,Grew.refl hw⟩
 .exact⟨s',rfl,h⟩
theorem ado{s s':St}{v:AV}{b:Pos}{x:AB}(h:s.heap.get b=some x)(h2:s'.heap.get b≠some x):tidy s (v,s')=(v,s'):=by
 unfold tidy;rw[Za6];exact λe=>h2 (e.2 b x h)
section
variable{R:Type}(c:aj)(K:AV->St->Option R)(K1:AV->Option R)
theorem abV(H:Pos->Option AB)(n:Pos)(es len:Nat)(z:List AV)(ps:List Nat)(xs:List AV):aE.run H n (.buildSlice es len z ps) xs=(cF (bU z len) (ps.map λi=>(i*es,es)) xs).map λcs=>.bh (.slice n 0 len (some len) es) none none (some (.cells cs 0)):=by simp only[aE.run,wq];cases cF (bU z len) (ps.map λi=>(i*es,es)) xs<;>rfl
@[simp] theorem au(st:St)(es len:Nat)(z:List AV)(ps:List Nat)(xs:List AV):aq c (.buildSlice es len z ps) xs st K=H7 (cF (bU z len) (ps.map λi=>(i*es,es)) xs) λcs=>K (.slice st.next 0 len (some len) es) (ah st (.cells cs 0)):=by unfold aq cC;rw[abV];cases cF (bU z len) (ps.map λi=>(i*es,es)) xs<;>rfl
@[simp] theorem pY(st:St)(es len:Nat)(z:List AV)(ps:List Nat)(xs:List AV)(K2:AV->AB->Option R):TA (.buildSlice es len z ps) xs st K2=H7 (cF (bU z len) (ps.map λi=>(i*es,es)) xs) λcs=>K2 (.slice st.next 0 len (some len) es) (.cells cs 0):=by unfold TA;rw[abV];cases cF (bU z len) (ps.map λi=>(i*es,es)) xs<;>rfl
@[simp] theorem VO(st:St):aq c .mkMap [] st K=K (.map st.next) (ah st (.map [] 0)):=id rfl
theorem agU{st:St}{es bytes m:Nat}{x:AV}{new:List AV}(hm:dR x=some m)(h0:m≠0)(hb:(2*(0+m)+768)*bytes<=281474976710656)(hs:0+m<=9223372036854775807)(hx:cX es m (λb=>st.heap.get b) x=some new):
  aq c (.append es bytes) [.af,x] st K=K (.slice st.next 0 m none es) (ah st (.cells new 0)):=by
 have:aE.run (λb=>st.heap.get b) st.next (.append es bytes) [.af,x]=some (.bh (.slice st.next 0 m none es) none none (some (.cells new 0))):=by
  simp only[aE.run,ic];rw[show dR .af=some 0 from rfl,hm];simp only[cM,cK,Za0 hb,Za0 hs,Za2 h0,hx]
 unfold aq cC;rw[this];rfl
theorem asi{st:St}{es bytes m n:Nat}{p:Pos}{x:AV}{cs gG new:List AV}(hm:dR x=some m)(h0:m≠0)(hb:(2*(n+m)+768)*bytes<=281474976710656)(hs:n+m<=9223372036854775807)(hp:st.heap.get p=some (.cells cs 0))
  (ho:cX es n (λb=>st.heap.get b) (.slice p 0 n none es)=some gG) (hx:cX es m (λb=>st.heap.get b) x=some new) (h1:aN new=true):
  aq c (.append es bytes) [.slice p 0 n none es,x] st K=K (.slice st.next 0 (n+m) none es) (dst st p (.cells (gG++new) 0)):=by
 have:aE.run (λb=>st.heap.get b) st.next (.append es bytes) [.slice p 0 n none es,x]=some (.bh (.slice st.next 0 (n+m) none es) (some p) none (some (.cells (gG++new) 0))):=by simp only[aE.run,ic];rw[show dR (.slice p 0 n none es)=some n from rfl,hm];simp only[cM,cK,Za0 hb,Za0 hs,Za2 h0,hx,hp,ho,h1];simp
 unfold aq cC;rw[this];rfl
theorem am0{st:St}{es bytes m:Nat}{p:Pos}{x:AV}{new:List AV}(hm:dR x=some m)(h0:m≠0)(hb:(2*(0+m)+768)*bytes<=281474976710656)(hs:0+m<=9223372036854775807)(hx:cX es m (λb=>st.heap.get b) x=some new):
  aq c (.append es bytes) [.slice p 0 0 (some 0) es,x] st K=K (.slice st.next 0 m none es) (ah st (.cells new 0)):=by
 have:aE.run (λb=>st.heap.get b) st.next (.append es bytes) [.slice p 0 0 (some 0) es,x]=some (.bh (.slice st.next 0 m none es) none none (some (.cells new 0))):=by
  have h2:¬(0+m<=0):=by omega
  have ho:cX es 0 (λb=>st.heap.get b) (.slice p 0 0 (some 0) es)=some []:=by simp[cX]
  simp only[aE.run,ic];rw[show dR (.slice p 0 0 (some 0) es)=some 0 from rfl,hm];simp only[cM,cK,Za0 hb,Za0 hs,Za2 h0,Za2 h2,hx,ho];simp only[Zb9,Ze0]
 unfold aq cC;rw[this];rfl
theorem agV{st:St}{es bytes:Nat}{p:Pos}{off n:Nat}{cp:Option Nat}{x:AV}(hm:dR x=some 0)(hb:(2*(n+0)+768)*bytes<=281474976710656)(hs:n+0<=9223372036854775807):
  aq c (.append es bytes) [.slice p off n cp es,x] st K=K (.slice p off n cp es) st:=by
 have:aE.run (λb=>st.heap.get b) st.next (.append es bytes) [.slice p off n cp es,x]=some (.val (.slice p off n cp es)):=by
  simp only[aE.run,ic];rw[show dR (.slice p off n cp es)=some n from rfl,hm];simp only[cM,cK,Za0 hb,Za0 hs]
 unfold aq cC;rw[this]
theorem aev(H:Pos->Option AB)(n:Pos)(z:AV)(m:Pos)(es:List (AV×AV×Nat))(cl:Nat)(k:AV)(h:H m=some (.map es cl))(r:Option (Nat×AV))(hf:gM .s k es 0=some r):
  aE.run H n (.lookup .s z true) [.map m,k]=some (.val (match r with|some (_,v)=>.tuple [v,.bool true]|none=>.tuple [z,.bool false])):=by
 simp only[aE.run,lz,h,hf];cases r with
 |none=>rfl
 |some p=>rfl
theorem BW(z:AV){st:St}{m:Pos}{es:List (AV×AV×Nat)}{cl:Nat}{k:AV}{r:Option (Nat×AV)}(h:st.heap.get m=some (.map es cl))(hf:gM .s k es 0=some r):
  aq c (.lookup .s z true) [.map m,k] st K=K (match r with|some (_,v)=>.tuple [v,.bool true]|none=>.tuple [z,.bool false]) st:=by
 unfold aq cC;rw[aev _ _ z m es cl k h r hf]
theorem aew(z:AV){h:T AB}{m:Pos}{es:List (AV×AV×Nat)}{cl:Nat}{k:AV}{r:Option (Nat×AV)}(hh:h.get m=some (.map es cl))(hf:gM .s k es 0=some r):
  jt (.lookup .s z true) [.map m,k] h (λ_=>true) K1=K1 (match r with|some (_,v)=>.tuple [v,.bool true]|none=>.tuple [z,.bool false]):=by
 unfold jt;have e:aE.run (λ_=>none) .h (.lookup .s z true) [.map m,k]=none:=rfl;rw[e];simp only;rw[aev _ _ z m es cl k hh r hf]
theorem aiW{st:St}{m:Pos}{es:List (AV×AV×Nat)}{cl:Nat}{k:List Nat}{v:AV}(h:st.heap.get m=some (.map es cl))(hf:gM .s (.str k) es 0=some none):
  aq c (.mapSet .s) [.map m,.str k,v] st K=K .undef (bg st m (.map (es++[(.str k,v,cl)]) (cl+1))):=by
 have:aE.run (λb=>st.heap.get b) st.next (.mapSet .s) [.map m,.str k,v]=some (.bh .undef none (some (m,.map (es++[(.str k,v,cl)]) (cl+1))) none):=by
  simp[aE.run,ye,h,hf,af7]
 unfold aq cC;rw[this];rfl
theorem Fy{p:Pos}{o:Nat}{h h2:T AB}{v:AV}(hv:((cellsOf (h.get p)).bind λcs=>cs[o]?)=some v)(OJ:((cellsOf (h2.get p)).bind λcs=>cs[o]?)=some v)(hb:eO v v=true):
  jt (.load none) [.ptr p o] h (λv=>oR (.load none) [.ptr p o] v (nG [] h2)&&true) K1=K1 v:=by
 unfold jt;have e:aE.run (λ_=>none) .h (.load none) [.ptr p o]=none:=rfl;rw[e];simp only;rw[sM,hv];simp only[Zd9];have:oR (.load none) [.ptr p o] v (nG [] h2)=true:=by unfold oR;show(match aE.run (λb=>h2.get b) .h (.load none) [.ptr p o]with|some (.val u)=>eO u v|_=>false)=true;rw[sM,OJ];exact hb
 rw[this];rfl
end
theorem kW{R:Type}(K1:AV->Option R){p:Pos}{o:Nat}{h h2:T AB}{v:AV}(hv:((cellsOf (h.get p)).bind λcs=>cs[o]?)=some v)(OJ:((cellsOf (h2.get p)).bind λcs=>cs[o]?)=some v)(hb:eO v v=true):
  jt (.load none) [.ptr p o] h (λv=>oR (.load none) [.ptr p o] v (nG [] h2)) K1=K1 v:=by
 have:=Fy K1 hv OJ hb;simp only[Zj5]at this;exact this
theorem MZ(p:Pos)(o n es:Nat):eO (.slice p o n none es) (.slice p o n none es)=true:=by
 simp[eO,mW,fL,Pos.beq_eq.2 rfl]
theorem RF:eO .af .af=true:=rfl
inductive fS:Nat->AV->Prop
 |flat {d:Nat} {v:AV} (h:fL v v=true):fS d v
 |fl {d:Nat} {a:List (List AV)} {n:Nat} (h:∀r∈a,∀v∈r,fS d v):fS (d+1) (.fl a n)
theorem abW{f:AV->AV->Bool}:∀{a:List AV},(∀v∈a,f v v=true)->MD f a a=true
 |[],_=>rfl
 |a::x,h=>by
  simp only[MD,h a (by simp),abW (λv hv=>h v (Zb0 _ hv)),Zk6]
theorem VP{f:AV->AV->Bool}:∀{a:List (List AV)},(∀r∈a,∀v∈r,f v v=true)->BN f a a=true
 |[],_=>rfl
 |a::x,h=>by
  simp only[BN,abW (h a (by simp)),VP (λv hv=>h v (Zb0 _ hv)),Zk6]
theorem RH:∀{d:Nat}{v:AV},fS d v->ME d v v=true
 |d,v,.flat h=>by
  unfold ME;split
  .simp[fL]at h
  .exact h
 |d+1,.fl a n,.fl h=>by
  unfold ME;simp[VP (λr hr v hv=>RH (h r hr v hv))]
theorem fS.ro{d es:Nat}{z:Bool}{rs:List (List AV)}(h:∀r∈rs,∀v∈r,fS d v):fS (d+1) (ro es z rs):=by
 unfold Go.Ai.ro;split
 .exact .flat rfl
 .exact .fl h
theorem VQ{v:AV}(h:fS 3 v):eO v v=true:=by
 have h3:=RH h;cases h with
 |flat h=>
  cases v<;>simp[fL]at h<;>first|simp[eO,mW,fL,h]|skip
  all_goals simp_all [eO,mW,fL]
 |fl h=>exact h3
theorem ak2{v:AV}(h:fS 3 v):mW v v=true:=by
 have h3:=RH h;cases h with
 |flat h=>
  cases v<;>simp[fL]at h<;>first|simp[mW,fL,h]|skip
  all_goals simp_all [mW,fL]
 |fl h=>exact h3
theorem TE{l:List AV}(h:∀v∈l,fS 3 v):eO (.agg l) (.agg l)=true:=by
 show tC l l=true;induction l with
 |nil=>rfl
 |cons v l ih=>simp only[tC,ak2 (h v (by simp)),ih (λu hu=>h u (Zb0 _ hu)),Zk6]
theorem agW{R:Type}(K1:AV->Option R){m:Nat}{p:Pos}{o:Nat}{h h2:T AB}{l:List AV}(hv:((cellsOf (h.get p)).bind λcs=>cut cs o m)=some l)(OJ:((cellsOf (h2.get p)).bind λcs=>cut cs o m)=some l)(hb:eO (.agg l) (.agg l)=true):
  jt (.load (some m)) [.ptr p o] h (λv=>oR (.load (some m)) [.ptr p o] v (nG [] h2)) K1=K1 (.agg l):=by
 unfold jt;have e:aE.run (λ_=>none) .h (.load (some m)) [.ptr p o]=none:=rfl;rw[e];simp only;rw[wP,hv];simp only[Zd9];have:oR (.load (some m)) [.ptr p o] (.agg l) (nG [] h2)=true:=by unfold oR;show(match aE.run (λb=>h2.get b) .h (.load (some m)) [.ptr p o]with|some (.val u)=>eO u (.agg l)|_=>false)=true;rw[wP,OJ];exact hb
 rw[this]
theorem fS.int{d:Nat}(k:IntKind)(n:Int):fS d (.int k n):= .flat (by simp[fL,n9,dG])
theorem fS.str{d:Nat}(s:List Nat):fS d (.str s):= .flat (by simp[fL,mH])
theorem fS.bool{d:Nat}(s:Bool):fS d (.bool s):= .flat (by simp[fL])
end
section
open Go
section
variable{H:Type}(enc:TypeId×Value->H)(P:Program)(w:World)(base:Nat)(spare:Nat->Bool)(held:Bool)
def oX(t:TypeId)(Q:List AV->Prop):Prop:=
 ∀  (fuel:Nat)(cs:List Value)(x:DataW H×List MemPlace),DataW.trod enc P w base spare held fuel t cs=some x->
    ∃as,Q as/\∀ρ n,aJ ρ n (λad=>w.cell? ad) as cs
variable{enc P w base spare held}
theorem oX.mono{t:TypeId}{Q Q':List AV->Prop}(h:oX enc P w base spare held t Q)(k:∀as,Q as->Q' as):oX enc P w base spare held t Q':=
 λfuel cs x hx=>by obtain⟨as,h1,h2⟩:=h fuel cs x hx;exact⟨as,k _ h1,h2⟩
theorem aex{t:TypeId}{k:IntKind}(ht:P.underlying t=some (.int k)):oX enc P w base spare held t λas=>∃i,as=[.int k i]/\(Lit.int k i).wf=true:=
 fun fuel cs x hx=>by
  obtain⟨n,rfl,h⟩:=DataW.trod_int ht hx;exact⟨_,⟨n,rfl,h.2⟩,λρ m=>aJ.cons (.int k n) aJ.nil⟩
theorem ZH {t e:TypeId}{es:Nat}{Q:List AV->Prop}(ht:P.underlying t=some (.slice e))(hc:P.cellsOf e=es)(dW:0<es)(hQ:∀as,Q as->as.length=es)(h:oX enc P w base spare held e Q):
  oX enc P w base spare held t λas=>∃z rs,as=[ro es z rs]/\(∀r∈rs,Q r)/\rs.length<=maxLen:=
 fun fuel cs  x hx=>by
  rcases DataW.trod_slice ht hx with⟨rfl,_⟩|⟨a,len,cap,elems,rest,n,_,rfl,_,hb,hl,hm,hlen,hel,_,_⟩
  .  exact⟨_,⟨true,[],rfl,by simp,by simp⟩,λρ m=>aJ.cons .af aJ.nil⟩
  .  have each:∀i,∃r row,i<len->(Q r/\w.cells? base (a.add (i*es)) es=some row/\∀ρ m,aJ ρ m (λad=>w.cell? ad) r row):=by
        intro i;by_cases hi:i<len
        . have h1:=hel i hi;rw[H0 (by omega),hc]at h1;cases h2:w.cells? base (a.add (i*es)) es with
          |none=>rw[h2]at h1;cases h1
          | some row=>
            rw[h2]at h1;obtain⟨r,hr,hv⟩:=h n row _ h1;exact⟨r,row,λ_=>⟨hr,rfl,hv⟩⟩
        .exact⟨[],[],λh=>absurd h hi⟩
     obtain⟨r,each⟩:=Classical.axiomOfChoice each;obtain⟨row,hr⟩:=Classical.axiomOfChoice each;have arK:0<len->a.spot=none:=λh0=>by
        obtain⟨_,h1,_⟩:=hr 0 h0;have:=(World.cells?_some h1).2.2 0 dW;have hl:=(World.cells?_some h1).2.1;rw[H0 (by omega)]at this;simp only[Zo4,Addr.add,Zh1]at this;unfold World.cell? at this;split at this
        . split at this
          .cases this
          .rename_i h;simpa using h
        .cases this
     have au5:((List.range len).map r).length=len:=(by simp);have get:∀(i:Nat)(c:List AV),((List.range len).map r)[i]? =some c->i<len/\c=r i:=λi c hi=>by
        rw[Zb7]at hi;by_cases h:i<len
        .rw[Zh6 h]at hi;simp at hi;exact⟨h,hi.symm⟩
        .rw[Zc2 (by simpa using h)]at hi;cases hi
     refine⟨_,⟨false,(List.range len).map r,rfl,?_,by simp;omega⟩,λρ m=>aJ.cons ?_ aJ.nil⟩
     .  intro q hq;simp only[Zc6,Zg3]at hq;obtain⟨i,hi,rfl⟩:=hq;exact(hr i hi).1
     .  have key:aC ρ m (λad=>w.cell? ad) (.fl ((List.range len).map r) es) (.slice (some a) ((List.range len).map r).length cap):=by
          refine .fl _ es cap a (λi j=>((row i)[j]?).getD .nilFunc) (by omega) (λh0=>arK ?_) (λi c hi=> ?_) (λi j c v hi hj=> ?_) (λi j c v hi hj=> ?_)
          .apply Zl5;intro h;apply h0;have:len=0:=(by omega);subst this;rfl
          .obtain⟨h1,rfl⟩:=get i c hi;exact hQ _ (hr i h1).1
          . obtain⟨h1,rfl⟩:=get i c hi;obtain⟨q1,q2,q3⟩:=hr i h1;have hj2:j<es:=(by rw[<-hQ _ q1];exact(Za1.1 hj).1);have q4:=(World.cells?_some q2).2.2 j hj2;have q5:=(World.cells?_some q2).2.1;have hs:=arK (by omega);have e1:(a.add (i*es)).add j=⟨a.block,a.off+i*es+j,none⟩:=by
              obtain⟨aM,off,spot⟩:=a;simp only at hs;subst hs;unfold Addr.add;by_cases e1:i*es=0<;>by_cases e2:j=0<;>simp[e1,e2]
            rw[e1]at q4;show w.cell? _=_;rw[q4,H0 (by omega)];rfl
          .obtain⟨h1,rfl⟩:=get i c hi;obtain⟨q1,q2,q3⟩:=hr i h1;have hj2:j<es:=(by rw[<-hQ _ q1];exact(Za1.1 hj).1);have q5:=(World.cells?_some q2).2.1;refine(q3 ρ m).2 j v _ hj ?_;rw[H0 (by omega)];rfl
        rw[au5]at key;exact key
def RI:List (List AV->Prop)->List (List AV)->Prop
 |[],[]=>True
 |Q::Qs,p::ps=>Q p/\RI Qs ps
 |_,_=>False
def VR(P:Program)(tot:Nat):Nat->List Field->Bool
 |o,[]=>o==tot
 |o,f::fs=>f.offset==o&&VR P tot (o+P.cellsOf f.type) fs
def agX(enc:TypeId×Value->H)(P:Program)(w:World)(base:Nat)(spare:Nat->Bool)(held:Bool):List TypeId->List (List AV->Prop)->Prop
 |[],[]=>True
 |f::fs,Q::Qs=>oX enc P w base spare held f Q/\agX enc P w base spare held fs Qs
 |_,_=>False
theorem VS{tot n:Nat}:∀(fs:List Field)(Qs:List (List AV->Prop))(o:Nat)(cs:List Value),VR P tot o fs=true->agX enc P w base spare held (fs.map (·.type)) Qs->cs.length=tot->
  (∀f∈fs,∃y,DataW.trod enc P w base spare held n f.type ((cs.drop f.offset).take (P.cellsOf f.type))=some y)->
  ∃parts,RI Qs parts/\∀ρ m,aJ ρ m (λad=>w.cell? ad) parts.flatten (cs.drop o)
 |[],[],o,cs,hc,_,hl,_=>by simp only[VR,beq_iff_eq]at hc;refine⟨[],trivial,λρ m=> ?_⟩;rw[List.drop_eq_nil_of_le (by omega)];exact aJ.nil
 |f::fs,Q::Qs,o,cs,hc,hO,hl,hf=>by
  simp only[VR,Zb2,beq_iff_eq]at hc;obtain⟨y,hy⟩:=hf f (by simp);obtain⟨as,hq,hv⟩:=hO.1 n _ y hy;obtain⟨parts,hp,OJ⟩:=VS fs Qs _ cs hc.2 hO.2 hl (λg hg=>hf g (Zb0 _ hg));refine⟨as::parts,⟨hq,hp⟩,λρ m=> ?_⟩;have e:cs.drop o=(cs.drop f.offset).take (P.cellsOf f.type)++cs.drop (o+P.cellsOf f.type):=by
   rw[hc.1, <-Zl4,Zm3]
  rw[e,Zf8];exact(hv ρ m).append (OJ ρ m)
def fieldsOf(P:Program)(t:TypeId):List Field:=match P.underlying t with
 |some (.struct fs)=>fs.toList
 |_=>[]
def agY(P:Program)(t:TypeId):Bool:=match P.underlying t with
 |some (.struct _)=>true
 |_=>false
theorem agZ{t:TypeId}(ts:List TypeId){Qs:List (List AV->Prop)}(hs:agY P t=true)(um:(fieldsOf P t).map (·.type)=ts)(hc:VR P (P.cellsOf t) 0 (fieldsOf P t)=true)(hO:agX enc P w base spare held ts Qs):
  oX enc P w base spare held t λas=>∃parts,as=parts.flatten/\RI Qs parts:=
 fun fuel cs x hx=>by
  obtain⟨fs,ht⟩:∃fs,P.underlying t=some (.struct fs):=by
     unfold agY at hs;cases h:P.underlying t with
     |none=>rw[h]at hs;cases hs
     |some d=>rw[h]at hs;cases d<;>first|exact⟨_,rfl⟩|cases hs
  have ef:fieldsOf P t=fs.toList:=by unfold fieldsOf;rw[ht]
  rw[ef]at um hc;subst um;obtain⟨xs,n,_,_,hl,hxl,hf⟩:=DataW.trod_struct ht hx;obtain⟨parts,hp,hv⟩:=VS fs.toList Qs 0 cs hc hO hl (λf hf2=>by
     obtain⟨i,hi⟩:=List.getElem?_of_mem hf2;have sN:fs[i]? =some f:=(by rw[<-Zi2];exact hi);have aV:i<fs.size:=(Zd2.1 sN).1;exact⟨xs[i],by rw[hf i f sN,H0 (by omega)]⟩)
  exact⟨_,⟨parts,rfl,hp⟩,λρ m=>hv ρ m⟩
end
def Quiet(w w':World):Prop:=w'.os=w.os/\w'.tape=w.tape/\w'.output=w.output/\w.heap.size<=w'.heap.size/\∀k,k<w.heap.size->w'.heap[k]? =w.heap[k]?
def Yl:List AV->St->Option (AV×St)
 |[],st=>some (.bool true,st)
 |_,_=>none
theorem aey{P:Program}{C:Cells}{f:FuncId}{fn:Func}{c:Code}(hf:P.funcs[f]? =some fn)(oF:¬fn.name= "runtime.NumGoroutine")(hb:fn.body=some c)
  (h:∀w:World,(∀ad u,C ad=some u->w.cell? ad=some u)->Calls P f #[] w λe w'=>e= .returned (.bool true)/\Quiet w w'):pW P C f Yl where
 mono args st v st' hs:=by
  unfold Yl at hs;split at hs<;>first|(cases hs;done)|skip
  simp only[H5,Zd4]at hs;rw[<-hs.2];exact Za3 _
 runs ρ st w args v st' bZ hs hW hv:=by
  unfold Yl at hs;split at hs<;>first|(cases hs;done)|skip
  simp only[H5,Zd4]at hs;obtain⟨rfl,rfl⟩:=hs;obtain rfl:=hv.ku;have dJ:(callFunc f ([]:List Value).toArray).run P w= .ok (.enter f #[]) w:=by simp[callFunc,hf,oF,hb]
  rw[dJ];refine Calls.mono (h w λad u ha=>(hW.dS ad u ha).1) λe w' he=> ?_
  obtain⟨rfl,h1,h2,h3,h4,h5⟩:=he;exact⟨ρ,.bool true,λ_ _=>rfl,Za3 _,hW.grow h4 h5,⟨h1,h2,h3,h4,λk hk _=>h5 k hk,λb x hb=>.inl ⟨b,x,hb,rfl⟩⟩⟩
theorem apR{P:Program}{C:Cells}{call:aj}{f:FuncId}{fn:Func}{c:Code}{args:List AV}{bZ:List Value}{b:Bool}{n0:Pos}{bD:St}{w:World}
  (cw:iX P C call) (hC:∀ad v,C ad=some v->w.cell? ad=some v) (hC2:∀a v,C a=some v->∀o,C ⟨a.block,o,none⟩=none->w.cell? ⟨a.block,o,none⟩=none) (hf:P.funcs[f]? =some fn) (oF:¬fn.name= "runtime.NumGoroutine") (hb:fn.body=some c)
  (ha:aJ (λ_=>⟨0,0,0⟩) n0.toNat C args bZ) (h:call f args { heap:= .e,next:=n0 }=some (.bool b,bD)):
  Calls P f bZ.toArray w λe w'=>e= .returned (.bool b)/\Quiet w w':=by
 have hr:=cw (λ_=>⟨0,0,0⟩) { heap:= .e,next:=n0 } w f args (.bool b) bD bZ h (Gp hC hC2) ha;have dJ:(callFunc f bZ.toArray).run P w= .ok (.enter f bZ.toArray) w:=by simp[callFunc,hf,oF,hb]
 rw[dJ]at hr;refine Calls.mono hr λe w' he=> ?_
 cases e with
 |returned x=>
  obtain⟨ρ',h1,_,_,_,hE⟩:=he;have:=h1.kR;subst this;exact⟨rfl,hE.os,hE.tape,hE.output,hE.size,λk hk=>hE.block k hk λb x hb=>by rw[T.dN]at hb;cases hb⟩
 |panicked c=>exact he.elim
 |outgrown=>exact he.elim
end
section
open Go Go.ChangeShapes Go.WideShapes Go.ChangeAt Go.RowKit
theorem Quiet.below{w w':World}(h:Quiet w w'):Below w.heap.size w w':=⟨h.1,h.2.1,h.2.2.1,h.2.2.2.1,h.2.2.2.2⟩
section
variable{H:Type}{enc:TypeId×Value->H}{P:Program}
theorem TF{W W':World}(hl:laidOutB P=true)(hb:Below W.heap.size W W'):∀{ts:List TypeId}{vs:List Value}{ds:List (DataW H)}{p:List MemPlace},
  DataW.TrodAll enc P W 0 (λ_=>true) true ts vs ds p->(∀t∈ts,P.readableRec t=true/\t<P.types.size)->(∀x∈p,x.block<W.heap.size)->
  DataW.TrodAll enc P W' 0 (λb=>decide (b<W.heap.size)) true ts vs ds p
 |[],_,_,_,h,_,_=>by obtain⟨rfl,rfl,rfl⟩:=trodAll_nil h;exact trodAll_mk0
 |t::ts,_,_,_,h,hr,hx=>by
  obtain⟨v,vs1,d,ds1,a,b,rfl,rfl,rfl,h1,h2⟩:=trodAll_cons h
  exact trodAll_cons_mk (Below.trod hl (hr t (by simp)).1 (hr t (by simp)).2 h1 hb (λx Zl=>hx x (Zm7 _ Zl)))
   (TF hl hb h2 (λt ht=>hr t (Zb0 _ ht)) (λx Zl=>hx x (List.mem_append_right _ Zl)))
theorem am1{f:Func}{s:ChangeSpec}{W W':World}{args:Array Value}{ds gs:List (DataW H)}{before:List MemPlace}{tb:TypeId}(hl:laidOutB P=true)
   (hW:DataW.Whole enc P f.params.toList s.vars false W args.toList ds gs before) (hv:s.vars=[]) (Gm:s.fn H (ds++gs)={ results:=[.lit (.bool true)],args:=ds })
   (hr:∀t∈f.params.toList,P.readableRec t=true/\t<P.types.size) (hB:Below W.heap.size W W') (aaH:f.resultTypes= #[tb]) (htb:P.underlying tb=some .bool):
   s.post enc P f false true false false W args (.bool true) W':=by
 have aV:=hW.lt;have ji:=hW;obtain⟨p,q,hA,hV,rfl,hfz,hnd⟩:=hW;have hq:q=[]:=by
   rw[hv]at hV;cases gs with
   |nil=>exact hV
   |cons g gs=>exact hV.elim
 subst hq;refine⟨ds,gs,p++[],[],p,[],ji,?_,?_,?_,hB.frame _,λh=>by cases h⟩
 .rw[Gm,aaH];exact trodAll_cons_mk (shut_bool htb _) trodAll_mk0
 .rw[Gm];exact TF hl hB hA hr (λx hx=>aV x (Zm7 _ hx))
 .rw[Gm,hv];rfl
end
section
variable{H:Type}{enc:TypeId×Value->H}{P:Program}{w:World}{base:Nat}{spare:Nat->Bool}{held:Bool}
theorem abX{t:TypeId}{fs:Array Field}{Q:List AV->Prop}{r:Go.Reach}{b0:Nat}{v:Value}{d:DataW H}{p:List MemPlace}(ho:oX enc P w base spare held t Q)(ht:P.underlying t=some (.struct fs))
  (hval:Value.okWide P w r b0 t v) (hd:DataW.Trod enc P w base spare held t v d p):∃as,Q as/\∀ρ n,aC ρ n (λad=>w.cell? ad) (.agg as) v:=by
 obtain⟨cs,rfl,_⟩:=okWide_struct ht hval;obtain⟨fuel,hf⟩:=hd;obtain⟨as,h1,h2⟩:=ho _ _ _ hf;refine⟨as,h1,λρ n=> ?_⟩;have h3:=h2 ρ n;refine .agg as cs (by rw[h3.1];simp[Value.cells]) λi x x' hx wC=>h3.2 i x x' hx ?_
 simpa [Value.cells]using wC
end
end
section
open Go
theorem aC.au6{ρ:Pos->Loc}{n:Nat}{C C':Cells}{v:AV}{x:Value}(hC:∀ad u,C ad=some u->C' ad=some u)(h:aC ρ n C v x):aC ρ n C' v x:=by
 induction h with
 |bool b=>exact .bool b
 |int k i=>exact .int k i
 |str s bs h=>exact .str s bs h
 |jf=>exact .jf
 |ptr b off h=>exact .ptr b off h
 |fp xs i j es aM base cell hl hc _ ih=>exact .fp xs i j es aM base cell hl (λi j cs v h1 h2=>hC _ _ (hc i j cs v h1 h2)) ih
 |af=>exact .af
 |slice b off len cap es bn a hl hc ha hk=>exact .slice b off len cap es bn a hl hc ha hk
 |fl xs es bn a cell hl hs dW hc _ ih=>exact .fl xs es bn a cell hl hs dW (λi j cs v h1 h2=>hC _ _ (hc i j cs v h1 h2)) ih
 |qp=>exact .qp
 |map b h=>exact .map b h
 |func f x y x' y' hx hy _ _ ih1 ih2=>exact .func f x y x' y' hx hy ih1 ih2
 |jM=>exact .jM
 |Bh=>exact .Bh
 |iface t v x _ ih=>exact .iface t v x ih
 |agg l cs hl _ ih=>exact .agg l cs hl ih
 |tuple l cs hl _ ih=>exact .tuple l cs hl ih
def mK(ρ:Pos->Loc)(n:Nat)(C:Cells)(w:World)(v u:AV):Prop:=∀x,aC ρ n C v x->aC ρ n (λad=>w.cell? ad) u x
section
variable{ρ:Pos->Loc}{C:Cells}{st:St}{w:World}
theorem mK.self{n:Nat}(hC:∀ad u,C ad=some u->w.cell? ad=some u)(v:AV):mK ρ n C w v v:=λ_ h=>h.au6 hC
theorem mK.agg{n:Nat}{l l':List AV}(hl:l.length=l'.length)(h:∀(i:Nat)(v u:AV),l[i]? =some v->l'[i]? =some u->mK ρ n C w v u):mK ρ n C w (.agg l) (.agg l'):=λx hx=>by
 cases hx with
 |agg _ cs h1 h2=>
  refine .agg l' cs (by omega) λi u x hu hx=> ?_
  have hi:i<l.length:=by rw[hl];exact(Za1.1 hu).1
  exact h i l[i] u (H0 hi) hu _ (h2 i _ x (H0 hi) hx)
theorem mK.slice(hW:bV ρ C st w){b:Pos}{off len es fz:Nat}{cap:Option Nat}{cs:List AV}(hb:st.heap.get b=some (.cells cs fz))(hlen:off+len*es<=cs.length){F:List (List AV)}(hF:F.length=len)
  (dW:∀(i:Nat)(r:List AV),F[i]? =some r->r.length=es)
  (hr:∀(i j:Nat)(r:List AV)(u v:AV),F[i]? =some r->r[j]? =some u->cs[off+i*es+j]? =some v->mK ρ st.next.toNat C w v u):
  mK ρ st.next.toNat C w (.slice b off len cap es) (.fl F es):=λx hx=>by
 cases hx with
 |slice  _ _ _ _ _ bn a hl hc ha hk=>
  have get:∀(i j:Nat)(r:List AV)(u:AV),F[i]? =some r->r[j]? =some u->i<len/\j<es/\off+i*es+j<cs.length/\0<bn:=λi j r u h1 h2=>by
   have g1:i<len:=(by rw[<-hF];exact(Za1.1 h1).1);have g2:j<es:=(by rw[<-dW i r h1];exact(Za1.1 h2).1);have g3:(i+1)*es<=len*es:=Zh3 _ g1;rw[Zh4]at g3;exact⟨g1,g2,by omega,by omega⟩
  have cell:∀(i j:Nat)(r:List AV)(u:AV),F[i]? =some r->r[j]? =some u->∃v y,cs[off+i*es+j]? =some v/\w.cell? ⟨a.block,a.off+i*es+j,none⟩=some y/\aC ρ st.next.toNat C v y:=λi j r u h1 h2=>by
   obtain⟨g1,g2,g3,g4⟩:=get i j r u h1 h2;obtain⟨_,rfl,_⟩:=ha (by omega);have hv:=H0 g3;obtain⟨y,q1,q2⟩:=hW.cell hb hv;exact⟨_,y,hv,by rw[show(ρ b).base+off+i*es+j=(ρ b).base+(off+i*es+j)by omega];exact q1,q2⟩
  have key:aC ρ st.next.toNat (λad=>w.cell? ad) (.fl F es) (.slice (some a) F.length bn):=by
   refine .fl F es bn a (λi j=>(w.cell? ⟨a.block,a.off+i*es+j,none⟩).getD .nilFunc) (by omega) (λh0=> ?_) dW (λi j r u h1 h2=> ?_) (λi j r u h1 h2=> ?_)
   .    cases au7:len with
        |zero=>exfalso;apply h0;rw[au7]at hF;exact Zn9.1 hF
        |succ m=>
         obtain⟨_,rfl,_⟩:=ha (by omega);rfl
   .    obtain⟨v,y,_,q2,_⟩:=cell i j r u h1 h2;show w.cell? _=_;rw[q2];rfl
   .    obtain⟨v,y,q1,q2,q3⟩:=cell i j r u h1 h2;rw[q2];exact hr i j r u v h1 h2 q1 y q3
  rw[hF]at key;exact key
end
def fT (st:St):Nat->AV->AV
 |0,v=>v
 |  d+  1,.slice b off len cap es=>match decide (len=0)with
    |true=>.fl [] es
    |false=>match st.heap.get b with
     |  some (.cells cs _)=>match decide (off+len*es<=cs.length)with
        |true=>.fl ((List.range len).map λi=>((cs.drop (off+i*es)).take es).map (fT st d)) es
        |false=>.slice b off len cap es
     |_=>.slice b off len cap es
 |  d+1,.ptr b off=>match st.heap.get b with
    |some (.cells cs _)=>.fp [cs.map (fT st d)] 0 off
    |_=>.ptr b off
 |d+1,.agg l=>.agg (l.map (fT st d))
 |d+1,.func f x y=>.func f (x.map (fT st d)) (y.map (fT st d))
 |_,v=>v
theorem aez(st:St)(d:Nat)(b:Pos)(off len:Nat)(cap:Option Nat)(es:Nat):fT st (d+1) (.slice b off len cap es)=match decide (len=0)with
 |true=>.fl [] es
 |false=>match st.heap.get b with
  |     some (.cells cs _)=>match decide (off+len*es<=cs.length)with
        |true=>.fl ((List.range len).map λi=>((cs.drop (off+i*es)).take es).map (fT st d)) es
        |false=>.slice b off len cap es
  |_=>.slice b off len cap es:=rfl
theorem asj(st:St)(d:Nat)(b:Pos)(off:Nat):fT st (d+1) (.ptr b off)=match st.heap.get b with
 |some (.cells cs _)=>.fp [cs.map (fT st d)] 0 off
 |_=>.ptr b off:=rfl
theorem ajP(st:St)(d:Nat)(l:List AV):fT st (d+1) (.agg l)= .agg (l.map (fT st d)):=rfl
theorem apS(st:St)(d:Nat)(f:FuncId)(x y:List AV):fT st (d+1) (.func f x y)= .func f (x.map (fT st d)) (y.map (fT st d)):=rfl
section
variable{ρ:Pos->Loc}{C:Cells}{st:St}{w:World}
theorem mK.ptr(hW:bV ρ C st w){b:Pos}{off fz:Nat}{cs F:List AV}(hb:st.heap.get b=some (.cells cs fz))(hF:F.length=cs.length)
  (hr:∀(j:Nat)(u v:AV),F[j]? =some u->cs[j]? =some v->mK ρ st.next.toNat C w v u):mK ρ st.next.toNat C w (.ptr b off) (.fp [F] 0 off):=λx hx=>by
 cases hx with
 |ptr   _ _ h=>
  have row:∀(i j:Nat)(r:List AV)(u:AV),[F][i]? =some r->r[j]? =some u->i=0/\∃v y,cs[j]? =some v/\w.cell? ⟨(ρ b).aM,(ρ b).base+j,none⟩=some y/\aC ρ st.next.toNat C v y/\F[j]? =some u:=λi j r u h1 h2=>by
   have hi:i=0:=(by have:=(Za1.1 h1).1;simp at this;exact this);subst hi;simp at h1;subst h1;have hj:j<cs.length:=(by rw[<-hF];exact(Za1.1 h2).1);obtain⟨y,q1,q2⟩:=hW.cell hb (H0 hj);exact⟨rfl,_,y,H0 hj,q1,q2,h2⟩
  have key:aC ρ st.next.toNat (λad=>w.cell? ad) (.fp [F] 0 off) (.pointer (some ⟨(ρ b).aM,(ρ b).base+0*cs.length+off,none⟩)):=by
   refine .fp [F] 0 off cs.length (ρ b).aM (ρ b).base (λ_ j=>(w.cell? ⟨(ρ b).aM,(ρ b).base+j,none⟩).getD .nilFunc) (λi r h1=> ?_) (λi j r u h1 h2=> ?_) (λi j r u h1 h2=> ?_)
   .    have hi:i=0:=(by have:=(Za1.1 h1).1;simp at this;exact this);subst hi;simp at h1;subst h1;exact hF
   .    obtain⟨rfl,v,y,_,q2,_⟩:=row i j r u h1 h2;show w.cell? _=_;rw[show(ρ b).base+0*cs.length+j=(ρ b).base+j by omega,q2];rfl
   .    obtain⟨rfl,v,y,q1,q2,q3,q4⟩:=row i j r u h1 h2;rw[q2];exact hr j u v q4 q1 y q3
  rw[show(ρ b).base+0*cs.length+off=(ρ b).base+off by omega]at key;exact key
theorem mK.fT (hW:bV ρ C st w):∀(d:Nat)(v:AV),mK ρ st.next.toNat C w v (fT st d v)
 |0,v=>mK.self (λad u h=>(hW.dS ad u h).1) v
 |d+    1,v=>   by
  have self:=mK.self (ρ:=ρ) (n:=st.next.toNat) (λad u h=>(hW.dS ad u h).1) v;cases v with
  |slice    b off len cap es=>
   rw[aez];split
   .    rename_i h0;obtain rfl:=Zg1 h0;intro x hx;cases hx with
        | slice _ _ _ _ _ bn a hl hc ha hk=>
          exact .fl [] es bn a (λ_ _=>.nilFunc) (Zi1 _) (λh=>absurd rfl h) (λi c h=>by simp at h) (λi j c v h=>by simp at h) (λi j c v h=>by simp at h)
   split
   .    rename_i cs fz hb;split
        . rename_i hle;have hle:=Zg1 hle;refine mK.slice hW hb hle (by simp) (λi r hi=> ?_) (λi j r u v hi hj hv=> ?_)
          . rw[Zb7]at hi;by_cases h:i<len
            .rw[Zh6 h]at hi;simp only[Zd9,H5]at hi;subst hi;have g3:(i+1)*es<=len*es:=Zh3 _ h;rw[Zh4]at g3;simp;omega
            .rw[Zc2 (by simpa using h)]at hi;cases hi
          . rw[ Zb7]at hi;by_cases h:i<len
            . rw[Zh6 h]at hi;simp only[Zd9,H5]at hi;subst hi;rw[Zb7,Ze3]at hj;split at hj
              .rw[Ze5,hv]at hj;simp only[Zd9,H5]at hj;subst hj;exact mK.fT hW d v
              .cases hj
            .rw[Zc2 (by simpa using h)]at hi;cases hi
        .exact self
   .    exact self
  |ptr b off=>
   rw[asj];split
   .    rename_i cs fz hb;refine mK.ptr hW hb (by simp) (λj u v hu hv=> ?_);rw[Zb7,hv]at hu;simp only[Zd9,H5]at hu;subst hu;exact mK.fT hW d v
   .    exact self
  |agg l=>
   rw[ajP];refine mK.agg (by simp) (λi v u h1 h2=> ?_);rw[Zb7,h1]at h2;simp only[Zd9,H5]at h2;subst h2;exact mK.fT hW d v
  |func f x y=>
   rw[apS];intro v' hv;cases hv with
   |    func _ _ _ x' y' hx hy h1 h2=>
        have one:∀(l:List AV)(xs:Array Value),(∀(i:Nat)(v:AV)(v':Value),l[i]? =some v->xs[i]? =some v'->aC ρ st.next.toNat C v v')->∀(i:Nat)(v:AV)(v':Value),(l.map (Go.Ai.fT st d))[i]? =some v->xs[i]? =some v'->aC ρ st.next.toNat (λad=>w.cell? ad) v v':=λl xs h i u v' hu hx=>by
          rw[Zb7]at hu;cases hg:l[i]? with
          |none=>rw[hg]at hu;cases hu
          | some v0=>
            rw[hg]at hu;simp only[Zd9,H5]at hu;subst hu;exact mK.fT hW d v0 _ (h i v0 v' hg hx)
        exact .func f _ _ x' y' (by simpa using hx) (by simpa using hy) (one x x' h1) (one y y' h2)
  |_=>exact self
theorem aJ.fT(hW:bV ρ C st w)(d:Nat){l:List AV}{xs:List Value}(h:aJ ρ st.next.toNat C l xs):aJ ρ st.next.toNat (λad=>w.cell? ad) (l.map (Go.Ai.fT st d)) xs:=
 ⟨by rw[<-h.1];simp,λi u x hu hx=>by
  rw[Zb7]at hu;cases hv:l[i]? with
  |none=>rw[hv]at hu;cases hu
  |  some v=>
     rw[hv]at hu;simp only[Zd9,H5]at hu;subst hu;exact mK.fT hW d v _ (h.2 i v x hv hx)⟩
end
def bM(v:AV):Prop:=∀(ρ:Pos->Loc)(n:Nat)(C C':Cells)(x:Value),aC ρ n C v x->aC ρ n C' v x
theorem bM.bool(b:Bool):bM (.bool b):=λ_ _ _ _ _ h=>by cases h;exact .bool b
theorem bM.int(k:IntKind)(i:Int):bM (.int k i):=λ_ _ _ _ _ h=>by cases h;exact .int k i
theorem bM.str(s:List Nat):bM (.str s):=λ_ _ _ _ _ h=>by cases h with|str _ bs h=>exact .str s bs h
theorem bM.af:bM .af:=λ_ _ _ _ _ h=>by cases h;exact .af
theorem bM.jM:bM .jM:=λ_ _ _ _ _ h=>by cases h;exact .jM
theorem bM.ptr(b:Pos)(o:Nat):bM (.ptr b o):=λ_ _ _ _ _ h=>by cases h with|ptr _ _ h=>exact .ptr b o h
theorem bM.map(b:Pos):bM (.map b):=λ_ _ _ _ _ h=>by cases h with|map _ h=>exact .map b h
theorem bM.slice(b:Pos)(o l:Nat)(c:Option Nat)(es:Nat):bM (.slice b o l c es):=λ_ _ _ _ _ h=>by
 cases h with|slice _ _ _ _ _ bn a h1 h2 h3 h4=>exact .slice b o l c es bn a h1 h2 h3 h4
theorem bM.tuple{l:List AV}(hl:∀v∈l,bM v):bM (.tuple l):=λ_ _ _ _ _ h=>by
 cases h with|tuple _ cs hx h1=>exact .tuple l cs hx λi v x hv hx=>hl v (Zc1 hv) _ _ _ _ _ (h1 i v x hv hx)
theorem bM.agg{l:List AV}(hl:∀v∈l,bM v):bM (.agg l):=λ_ _ _ _ _ h=>by
 cases h with|agg _ cs hx h1=>exact .agg l cs hx λi v x hv hx=>hl v (Zc1 hv) _ _ _ _ _ (h1 i v x hv hx)
theorem bM.func(f:FuncId){a b:List AV}(ha:∀v∈a,bM v)(hb:∀v∈b,bM v):bM (.func f a b):=λ_ _ _ _ _ h=>by
 cases h with
 |func _ _ _ a' b' hx hy h1 h2=>exact .func f a b a' b' hx hy (λi v x hv hx=>ha v (Zc1 hv) _ _ _ _ _ (h1 i v x hv hx)) (λi v x hv hx=>hb v (Zc1 hv) _ _ _ _ _ (h2 i v x hv hx))
def J5:AB->Prop
 |.cells cs _=>∀v∈cs,bM v
 |.map es _=>∀e∈es,bM e.1/\bM e.2.1
theorem J5.rel{x:AB}(h:J5 x){ρ:Pos->Loc}{n:Nat}{C C':Cells}{L:Loc}{w:World}(k:tD ρ n C L w x):tD ρ n C' L w x:=by
 cases x with
 |cells cs fz=>
  obtain⟨c,e,fr,h1,h2,h3,h4,h5⟩:=k;exact⟨c,e,fr,h1,h2,h3,⟨h4.1,λi v x hv hx=>h v (Zc1 hv) _ _ _ _ _ (h4.2 i v x hv hx)⟩,h5⟩
 |map es clock=>
  obtain⟨es',h1,h2,h3⟩:=k;exact⟨es',h1,h2,λi e e' he rf=>let⟨a,b,c⟩:=h3 i e e' he rf;⟨(h e (Zc1 he)).1 _ _ _ _ _ a,(h e (Zc1 he)).2 _ _ _ _ _ b,c⟩⟩
def T.both{α:Type}:T α->T α->T α
 |t,.e=>t
 |.e,t=>t
 |.n l v r,.n l' v' r'=>.n (T.both l l') (v.or v') (T.both r r')
theorem T.am2{α:Type}(t:T α):T.both t .e=t:=by cases t<;>rfl
theorem T.Fz{α:Type}:∀(p:Pos)(t t':T α),(T.both t t').get p=(t.get p).or (t'.get p)
 |p,t,.e=>by rw[T.am2,T.dN];simp
 |p,.e,.n l v r=>by rw[T.dN];rfl
 |.h,.n l v r,.n l' v' r'=>rfl
 |.o p,.n l v r,.n l' v' r'=>T.Fz p l l'
 |.i p,.n l v r,.n l' v' r'=>T.Fz p r r'
def T.keep{α:Type}(P:α->Bool):T α->T α
 |.e=>.e
 |.n l v r=>.n (T.keep P l) (v.filter P) (T.keep P r)
theorem T.RJ{α:Type}(P:α->Bool):∀(p:Pos)(t:T α),(T.keep P t).get p=(t.get p).filter P
 |p,.e=>by rw[T.keep,T.dN];rfl
 |.h,.n l v r=>rfl
 |.o p,.n l v r=>T.RJ P p l
 |.i p,.n l v r=>T.RJ P p r
open Classical in
noncomputable def CR(t:T AB):T AB:=T.keep (λx=>decide (J5 x)) t
theorem aeA{t:T AB}{p:Pos}{x:AB}(h:(CR t).get p=some x):t.get p=some x/\J5 x:=by
 unfold CR at h;rw[T.RJ]at h;cases hg:t.get p with
 |none=>rw[hg]at h;cases h
 |some y=>
  rw[hg]at h;simp only[Option.filter]at h;split at h
  .rename_i hb;cases h;exact⟨rfl,@Zg1 _ (Classical.propDecidable _) hb⟩
  .cases h
theorem am3{t:T AB}{p:Pos}{x:AB}(h:t.get p=some x)(hb:J5 x):(CR t).get p=some x:=by
 unfold CR;rw[T.RJ,h];simp[Option.filter,hb]
theorem asl:CR .e= .e:=rfl
def Shut(n0:Pos)(r:AV×St):Prop:=bM r.1/\n0.toNat<=r.2.next.toNat
open Classical in
noncomputable def VT(call:aj)(f:FuncId)(d:Nat):List AV->St->Option (AV×St):=λargs st=>
 match call f (args.map (fT st d)) { heap:= .e,next:=st.next }with
 |some (v,bD)=>if Shut st.next (v,bD)then some (v,{ heap:=T.both st.heap (CR bD.heap),next:=bD.next })else none
 |none=>none
theorem ajQ{call:aj}{f:FuncId}{d:Nat}{args:List AV}{st:St}{v:AV}{bD:St}(h:call f (args.map (fT st d)) { heap:= .e,next:=st.next }=some (v,bD))(hs:Shut st.next (v,bD)):
  VT call f d args st=some (v,{ heap:=T.both st.heap (CR bD.heap),next:=bD.next }):=by
 unfold VT;rw[h];simp only;rw[Zb4 hs]
theorem apT{call:aj}{f:FuncId}{d:Nat}{args:List AV}{st:St}{v:AV}(h:call f (args.map (fT st d)) { heap:= .e,next:=st.next }=some (v,{ heap:= .e,next:=st.next }))(hs:bM v):
  VT call f d args st=some (v,st):=by
 rw[ajQ h ⟨hs,Za3 _⟩];simp only[asl,T.am2]
theorem yx {P :Program}{C:Cells}{f:FuncId}{call:aj}{d:Nat}(dD:∀C':Cells,(∀ad u,C ad=some u->C' ad=some u)->iX P C' call):pW P C f (VT call f d) where
 mono args st v st' h:=by
  unfold VT at h;split at h
  . split at h
    .   rename_i hs;simp only[H5,Zd4]at h;rw[<-h.2];exact hs.2
    .   cases h
  .cases h
 runs ρ st  w args v st' bZ h hW hv:=by
  unfold VT at h;split at h
  . rename_i v1 bD hc;split at h
    .   rename_i hs;simp only[H5,Zd4]at h;obtain⟨rfl,rfl⟩:=h;obtain⟨s1,s3⟩:=hs;have hr:=dD (λad=>w.cell? ad) (λad u ha=>(hW.dS ad u ha).1) ρ { heap:= .e,next:=st.next } w f _ v1 bD bZ hc (Gp (λad u ha=>ha) λa u _ o ho=>ho) (aJ.fT hW d hv);refine Reaches.mono (λx w' he=> ?_) hr
        . obtain⟨ρ',h1,h2,h3,h4,hE⟩:=he;have un:∀k,k<w.heap.size->w'.heap[k]? =w.heap[k]? :=λk hk=>hE.block k hk λb x hb=>by rw[T.dN]at hb;cases hb
          have new:∀b x,bD.heap.get b=some x->w.heap.size<=(ρ' b).aM:=λb x hx=>by
            rcases hE.yf b x hx with⟨b',x',dO,_⟩|hh
            .rw[T.dN]at dO;cases dO
            .exact hh
          have both:∀b x,(T.both st.heap (CR bD.heap)).get b=some x->(st.heap.get b=some x/\ρ' b=ρ b)\/(bD.heap.get b=some x/\J5 x):=λb x hx=>by
            rw[T.Fz]at hx;cases hg:st.heap.get b with
            |none=>rw[hg]at hx;exact .inr (aeA (by simpa using hx))
            |some y=>rw[hg]at hx;simp at hx;subst hx;exact .inl ⟨rfl,h2 b (hW.live b y hg).1⟩
          refine⟨ρ',s1 _ _ _ _ _ h1,h2,s3,⟨λb x hx=> ?_,λb b' x x' hx wC xH=> ?_,λa u ha=> ?_,λa u ha o ho=> ?_⟩,⟨hE.os,hE.tape,hE.output,hE.size,λk hk _=>un k hk,λb x hx=> ?_⟩⟩
          . rcases both b x hx with⟨hg,bE⟩|⟨hg,afT⟩
            .obtain⟨l1,l2,l3⟩:=hW.live b x hg;refine⟨Zd1 l1 s3,by rw[bE];exact Zd1 l2 hE.size,?_⟩;rw[bE];exact(l3.of_heap (un _ l2)).mono h2 s3
            .obtain⟨l1,l2,l3⟩:=h4.live b x hg;exact⟨l1,l2,afT.rel l3⟩
          . rcases both b x hx with⟨hg,bE⟩|⟨hg,afT⟩
            . rcases both b' x' wC with⟨tR,Fs⟩|⟨tR,_⟩
              .rw[bE,Fs]at xH;exact hW.inj b b' x x' hg tR xH
              .have q1:=(hW.live b x hg).2.1;have q2:=new b' x' tR;rw[bE]at xH;omega
            . rcases both b' x' wC with⟨tR,Fs⟩|⟨tR,_⟩
              .have q1:=(hW.live b' x' tR).2.1;have q2:=new b x hg;rw[Fs]at xH;omega
              .exact h4.inj b b' x x' hg tR xH
          . obtain⟨c1,c2⟩:=hW.dS a u ha;have aV:a.block<w.heap.size:=World.block_lt_of_cell? _ _ c1;refine⟨(h4.dS a u c1).1,λb x hx=> ?_⟩;rcases both b x hx with⟨hg,bE⟩|⟨hg,afT⟩
            .rw[bE];exact c2 b x hg
            .have:=new b x hg;omega
          .have aV:a.block<w.heap.size:=World.block_lt_of_cell? _ _ (hW.dS a u ha).1;rw[World.cell?_of_block (w:=w) (a:=⟨a.block,o,none⟩) (un _ aV)];exact hW.whole a u ha o ho
          . rcases both b x hx with⟨hg,bE⟩|⟨hg,afT⟩
            .exact .inl ⟨b,x,hg,by rw[bE]⟩
            .exact .inr (new b x hg)
    .   cases h
  .cases h
theorem ajR(H:Pos->Option AB)(n:Pos)(k k':IntKind)(a b:Int):aE.run H n .minB [.int k a,.int k' b]=some (.val (.int k (min a b))):=by
 show some (eG.val (.int k (match A0 b a with|true=>b|false=>a)))=_;rw[e8];by_cases h:b<a
 .rw[Za0 h];simp only;rw[Int.min_eq_right (by omega)]
 .rw[Za2 h];simp only;rw[Int.min_eq_left (by omega)]
theorem asm(H:Pos->Option AB)(n:Pos)(k k':IntKind)(a b:Int):aE.run H n .maxB [.int k a,.int k' b]=some (.val (.int k (max a b))):=by
 show some (eG.val (.int k (match A0 a b with|true=>b|false=>a)))=_;rw[e8];by_cases h:a<b
 .rw[Za0 h];simp only;rw[Int.max_eq_right (by omega)]
 .rw[Za2 h];simp only;rw[Int.max_eq_left (by omega)]
theorem asn(H:Pos->Option AB)(n:Pos)(q:gU)(k:IntKind)(a b:Int)(hb:b≠0):aE.run H n (.bin .quo q) [.int k a,.int k b]=some (.val (.int k (ax k (a.tdiv b)))):=by
 simp[aE.run,js,o6,dG,mX,hb]
theorem aso(H:Pos->Option AB)(n:Pos)(q:gU)(k:IntKind)(a b:Int)(hb:b≠0):aE.run H n (.bin .rem q) [.int k a,.int k b]=some (.val (.int k (a.tmod b))):=by
 simp[aE.run,js,o6,dG,mX,hb]
section
variable{R:Type}(c:aj)(K:AV->St->Option R)(st:St)
@[simp] theorem ajS(k k':IntKind)(a b:Int):aq c .minB [.int k a,.int k' b] st K=K (.int k (min a b)) st:=aS c K (λH n=>ajR H n k k' a b) st
@[simp] theorem avU(k k':IntKind)(a b:Int):aq c .maxB [.int k a,.int k' b] st K=K (.int k (max a b)) st:=aS c K (λH n=>asm H n k k' a b) st
theorem asq(q:gU)(k:IntKind)(a b:Int)(hb:b≠0):aq c (.bin .quo q) [.int k a,.int k b] st K=K (.int k (ax k (a.tdiv b))) st:=aS c K (λH n=>asn H n q k a b hb) st
theorem adp(q:gU)(k:IntKind)(a b:Int)(hb:b≠0):aq c (.bin .rem q) [.int k a,.int k b] st K=K (.int k (a.tmod b)) st:=aS c K (λH n=>aso H n q k a b hb) st
@[simp] theorem od(q:gU)(k:IntKind)(a:Int):aq c (.bin .quo q) [.int k a,.int k 2] st K=K (.int k (ax k (a.tdiv 2))) st:=asq c K st q k a 2 (by decide)
@[simp] theorem gQ(q:gU)(k:IntKind)(a:Int):aq c (.bin .rem q) [.int k a,.int k 2] st K=K (.int k (a.tmod 2)) st:=adp c K st q k a 2 (by decide)
end
def aK:AV->Option Pos
 |.slice b _ n cap _=>if cap=some 0/\n=0 then none else some b
 |_=>none
theorem sO{b b':Pos}{off n es:Nat}{cap:Option Nat}(h:aK (.slice b off n cap es)=some b'):b=b':=by
 simp only[aK]at h;split at h
 .cases h
 .exact Zi5 h
theorem iP(b:Pos)(off n es:Nat):aK (.slice b off n none es)=some b:=by simp[aK]
theorem lQ(b:Pos)(off es:Nat):aK (.slice b off 0 (some 0) es)=none:=by simp[aK]
def QS(es:Nat)(s:St)(v:AV)(rows:List (List AV)):Prop:=
 (v= .af/\rows=[])\/(∃b off cap cs,v= .slice b off rows.length cap es/\s.heap.get b=some (.cells cs 0)/\off+rows.length*es<=cs.length/\(cs.drop off).take (rows.length*es)=rows.flatten/\(cap=none\/cap=some rows.length))\/
    (∃b off,v= .slice b off 0 (some 0) es/\rows=[])
theorem QS.nil{es:Nat}{s:St}:QS es s .af []:= .inl ⟨rfl,rfl⟩
theorem QS.mono{es:Nat}{s s':St}{v:AV}{rows:List (List AV)}(h:QS es s v rows)(hk:∀b x,aK v=some b->s.heap.get b=some x->s'.heap.get b=some x):QS es s' v rows:=by
 rcases h with⟨rfl,rfl⟩|⟨b,off,cap,cs,rfl,h1,h2,h3,h4⟩|⟨b,off,rfl,rfl⟩
 .exact .inl ⟨rfl,rfl⟩
 . by_cases h0:cap=some 0/\rows.length=0
   .obtain⟨rfl,h0⟩:=h0;refine .inr (.inr ⟨b,off,by rw[h0],Zc0 h0⟩)
   .exact .inr (.inl ⟨b,off,cap,cs,rfl,hk b _ (by simp only[aK];rw[Za6 h0]) h1,h2,h3,h4⟩)
 .exact .inr (.inr ⟨b,off,rfl,rfl⟩)
theorem QS.len{es:Nat}{s:St}{v:AV}{rows:List (List AV)}(h:QS es s v rows):dR v=some rows.length:=by rcases h with⟨rfl,rfl⟩|⟨b,off,cap,cs,rfl,_⟩|⟨b,off,rfl,rfl⟩<;>rfl
theorem QS.lt{es:Nat}{s:St}{v:AV}{rows:List (List AV)}(h:QS es s v rows)(hw:Wf s){b:Pos}(hb:aK v=some b):b.toNat<s.next.toNat:=by
 rcases h with⟨rfl,rfl⟩|⟨b',off,cap,cs,rfl,h1,_⟩|⟨b',off,rfl,rfl⟩
 .cases hb
 .obtain rfl:=sO hb;exact hw _ _ h1
 .rw[lQ]at hb;cases hb
theorem QS.first{es:Nat}{s:St}{v:AV}{rows:List (List AV)}(h:QS es s v rows)(hr:∀r∈rows,r.length=es):cX es rows.length (λb=>s.heap.get b) v=some rows.flatten:=by
 rcases h with⟨rfl,rfl⟩|⟨b,off,cap,cs,rfl,h1,h2,h3,h4⟩|⟨b,off,rfl,rfl⟩
 .rfl
 rotate_left
 .simp[cX,cK]
 . by_cases h0:rows.length*es=0
   .simp only[cX,cK,Za0 h0];have:rows.flatten=[]:=(by rw[<-h3,h0];simp);rw[this]
   .simp only[cX,cK,Za2 h0,h1];unfold cut;rw[cM,Za0 h2];simp only;rw[h3]
theorem QS.app{R:Type}{c:aj}{es bytes:Nat}{s:St}{v:AV}{rows:List (List AV)}(hw:Wf s)(h:QS es s v rows)(hr:∀r∈rows,r.length=es){q:Pos}{row:List AV}(hq:s.heap.get q=some (.cells row 0))(gw:row.length=es)(h1:aN row=true)
   (dW:es≠0) (hb:(2*(rows.length+1)+768)*bytes<=281474976710656) (hn:rows.length<=4000000):
   ∃ s5,(∀(K:AV->St->Option R),aq c (.append es bytes) [v,.slice q 0 1 (some 1) es] s K=K (.slice s.next 0 (rows.length+1) none es) s5)/\QS es s5 (.slice s.next 0 (rows.length+1) none es) (rows++[row])/\
     Wf s5/\s5.next=s.next.succ/\(∀p,aK v≠some p->p.toNat<s.next.toNat->s5.heap.get p=s.heap.get p)/\s5.heap.get s.next=some (.cells (rows.flatten++row) 0):=by
 have hx:cX es 1 (λb=>s.heap.get b) (.slice q 0 1 (some 1) es)=some row:=by simp only[cX,cK,Zp7,Za2 dW,hq];exact cQ gw
 have ho:=h.first hr;have hlen:rows.flatten.length=rows.length*es:=by
   clear h ho hn hb;induction rows with
   |nil=>simp
   | cons r rows ih=>
     have:=ih (λx hx=>hr x (Zb0 _ hx));have h2:=hr r (by simp);simp only[Zf8,Zd8,Zc9,Zh4];omega
 have new:∀(s5:St),s5.heap.get s.next=some (.cells (rows.flatten++row) 0)->QS es s5 (.slice s.next 0 (rows.length+1) none es) (rows++[row]):=λs5 hs=>by
   refine .inr (.inl ⟨s.next,0,none,rows.flatten++row,by simp,hs,?_,?_,.inl rfl⟩)
   .simp only[Zd8,Zc9,Zi6,Zb9,Zj8,Zp7,hlen,gw];omega
   .simp only[Ze6,List.flatten_append,Zf8,List.flatten_nil,Ze1];refine Ze9 ?_;simp only[Zd8,Zc9,Zi6,Zb9,Zj8,Zp7,hlen,gw];omega
 have uv:(2*(rows.length+1)+768)*bytes<=281474976710656:=hb;have tT:rows.length+1<=9223372036854775807:=by omega
 rcases h with⟨rfl,rfl⟩|⟨b,off,cap,cs,rfl,g1,g2,g3,g4⟩|⟨b,off,rfl,rfl⟩
 rotate_right
 . have run:aE.run (λb=>s.heap.get b) s.next (.append es bytes) [.slice b off 0 (some 0) es,.slice q 0 1 (some 1) es]=some (.bh (.slice s.next 0 (0+1) none es) none none (some (.cells ([]++row) 0))):=(by have h2:¬(0+1<=0):=(by omega);have KI:cX es 0 (λb=>s.heap.get b) (.slice b off 0 (some 0) es)=some []:=(by simp[cX,cK]);simp only[aE.run,ic];rw[show dR (.slice b off 0 (some 0) es)=some 0 from rfl,show dR (.slice q 0 1 (some 1) es)=some 1 from rfl];have hb3:(2*(0+1)+768)*bytes<=281474976710656:=(by simpa using hb);simp only[cM,cK,Za0 hb3,Za2 h2,hx,KI];simp);refine⟨ah s (.cells row 0),λK=> ?_,?_,bF hw,rfl,λp _ hp=>tH hp,by simpa using aA s (.cells row 0)⟩
   .unfold aq cC;simp only[Zi6]at run ⊢; rw[run];rfl
   .simpa using new (ah s (.cells row 0)) (by simpa using aA s (.cells row 0))
 .refine⟨ah s (.cells row 0),λK=>agU c K (m:=1) rfl (by omega) (by simpa using hb) (by omega) hx,?_,bF hw,rfl,λp _ hp=>tH hp,by simpa using aA s (.cells row 0)⟩;simpa using new (ah s (.cells row 0)) (by simpa using aA s (.cells row 0))
 . rcases g4 with rfl|rfl
   .have run:aE.run (λb=>s.heap.get b) s.next (.append es bytes) [.slice b off rows.length none es,.slice q 0 1 (some 1) es]=some (.bh (.slice s.next 0 (rows.length+1) none es) (some b) none (some (.cells (rows.flatten++row) (0 - off)))):=(by simp only[aE.run,ic];rw[show dR (.slice b off rows.length none es)=some rows.length from rfl,show dR (.slice q 0 1 (some 1) es)=some 1 from rfl];simp only[cM,cK,Za0 uv,Za0 tT,hx,g1,ho,h1];simp);refine⟨dst s b (.cells (rows.flatten++row) 0),λK=> ?_,new _ (Yk _ _ _),agT hw,rfl,λp hp hl=>RE (λe=>hp (by rw[e,iP])) hl,Yk _ _ _⟩;unfold aq cC;rw[run];simp only[Nat.zero_sub];rfl
   . have h2:¬(rows.length+1<=rows.length):=(by omega);have run:aE.run (λb=>s.heap.get b) s.next (.append es bytes) [.slice b off rows.length (some rows.length) es,.slice q 0 1 (some 1) es]=some (.bh (.slice s.next 0 (rows.length+1) none es) none none (some (.cells (rows.flatten++row) 0))):=by
        simp only[aE.run,ic];rw[show dR (.slice b off rows.length (some rows.length) es)=some rows.length from rfl,show dR (.slice q 0 1 (some 1) es)=some 1 from rfl];simp only[cM,cK,Za0 uv,Za0 tT,Za2 h2,hx,ho]
     refine⟨ah s (.cells (rows.flatten++row) 0),λK=> ?_,new _ (aA _ _),bF hw,rfl,λp _ hp=>tH hp,aA _ _⟩;unfold aq cC;rw[run];rfl
theorem Kr{R:Type}{c:aj}{es:Nat}{z:List AV}{x:AV}(hz:z.length=es)(hx:x.cells.length=es)(s:St)(K:AV->St->Option R):
  aq c (.buildSlice es 1 z [0]) [x] s K=K (.slice s.next 0 1 (some 1) es) (ah s (.cells x.cells 0)):=by
 have:cF (bU z 1) ([0].map λi=>(i*es,es)) [x]=some x.cells:=by
  simp only[Zd3,Zi8,Zo4,bU,Ze1,cF,cK,cM,hx,Zg6,Zb9,hz,Za3];simp only[aQ,Zm8,Ze0,Zb9];rw[Zo5 (by omega),Ze1]
 rw[au,this];rfl
structure Mk(es:Nat)(s0 s:St)(v:AV)(rows:List (List AV)):Prop where
 jk:Wf s0
 ai:Grew s0 s
 own:QS es s v rows
 new:∀b,aK v=some b->s0.next.toNat<=b.toNat
 row:∀r∈rows,r.length=es
 cap:∀b off n cp e,v= .slice b off n cp e->cp=none\/(n=0/\cp=some 0)
 tight:∀b,aK v=some b->s.heap.get b=some (.cells rows.flatten 0)
theorem Mk.start{es:Nat}{s0 s:St}(h0:Wf s0)(hg:Grew s0 s):Mk es s0 s .af []:=⟨h0,hg,QS.nil,λb h=>(by cases h),λr h=>(by cases h),λb off n cp e h=>(by cases h),λb h=>(by cases h)⟩
theorem Mk.grow{es:Nat}{s0 s s':St}{v:AV}{rows:List (List AV)}(h:Mk es s0 s v rows)(hg:Grew s s'):Mk es s0 s' v rows:=
 ⟨h.jk,h.ai.trans hg,h.own.mono λb x _ hx=>hg.get hx,h.new,h.row,h.cap,λb hb=>hg.get (h.tight b hb)⟩
theorem Mk.push{R:Type}{c:aj}{es bytes:Nat}{s0 s:St}{v:AV}{rows:List (List AV)}(h:Mk es s0 s v rows){z:List AV}{x:AV}(hz:z.length=es)(hx:x.cells.length=es)(h1:aN x.cells=true)(dW:es≠0)
   (hb:(2*(rows.length+1)+768)*bytes<=281474976710656) (hn:rows.length<=4000000):
   ∃ s5 v',(∀(K:AV->St->Option R),aq c (.buildSlice es 1 z [0]) [x] s (λy t=>aq c (.append es bytes) [v,y] t K)=K v' s5)/\Mk es s0 s5 v' (rows++[x.cells])/\
     (∀p b,aK v≠some p->s.heap.get p=some b->s5.heap.get p=some b)/\∀b,aK v'=some b->s.next.toNat<=b.toNat:=by
 have hw:=h.ai.wf;have cO:Wf (ah s (.cells x.cells 0)):=bF hw;have g1:=Grew.ah hw (.cells x.cells 0);obtain⟨s5,a1,a2,a3,a4,a5,a6⟩:=QS.app (R:=R) (c:=c) (bytes:=bytes) cO (h.own.mono λb x _ hx=>g1.get hx) h.row (aA s (.cells x.cells 0)) hx h1 dW hb hn;have keep:∀p b,aK v≠some p->s.heap.get p=some b->s5.heap.get p=some b:=λp b hp hg=>by have aV:=hw _ _ hg;rw[a5 p hp (by rw[bN,Pos.aD];omega)];exact g1.get hg
 refine⟨s5,_,λK=> ?_,⟨h.jk,⟨a3,λp b hg=> ?_,?_⟩,a2,λb hb=> ?_,λr hr=> ?_,λb off n cp e he=> ?_,λb hb=> ?_⟩,keep,λb hb=> ?_⟩
 .rw[Kr hz hx,a1]
 .have zA:=h.ai.get hg;refine keep p b (λe=> ?_) zA;have:=h.new p e;have:=h.jk p b hg;omega
 .have:=h.ai.next;rw[a4,bN,Pos.aD,Pos.aD];omega
 .rw[iP]at hb;cases hb;have:=h.ai.next;rw[bN,Pos.aD];omega
 . rcases Zd5.1 hr with hr|hr
   .exact h.row r hr
   .simp at hr;subst hr;exact hx
 .cases he;exact .inl rfl
 .rw[iP]at hb;cases hb;rw[a6];simp
 .rw[iP]at hb;cases hb;rw[bN,Pos.aD];omega
theorem xL{b:Pos}{off n es:Nat}(h:Plain (.slice b off n none es)):False:=by
 have h1:aC (λ_=>⟨0,0,off+n*es⟩) (b.toNat+1) (λ_=>none) (.slice b off n none es) (.slice (some ⟨0,0+off,none⟩) n n):=
  .slice b off n none es n _ (Za3 _) (λc hc=>by cases hc) (λ_=>⟨by omega,rfl,by simp⟩) (λ_=>by omega)
 have h2:=h _ (λ_=>⟨0,0,0⟩) _ 0 _ _ h1;cases h2 with
 |slice _ _ _ _ _ _ _ _ _ _ hk=>exact absurd (hk rfl) (by omega)
theorem Mk.tidy{es:Nat}{s s':St}{v:AV}{rows:List (List AV)}(h:Mk es s s' v rows):∃fI,Go.Ai.tidy s (v,s')=(v,fI)/\Mk es s fI v rows:=by
 unfold Go.Ai.tidy;by_cases hp:Plain (v,s').1/\aX s (v,s').2
 . rw[Zb4 hp];refine⟨s,rfl,?_⟩;rcases h.own with⟨rfl,rfl⟩|⟨b,off,cap,cs,rfl,_⟩|⟨b,off,rfl,rfl⟩
   .exact Mk.start h.jk (Grew.refl h.jk)
   . rcases h.cap _ _ _ _ _ rfl with rfl|⟨h0,rfl⟩
     .exact(xL hp.1).elim
     .exact⟨h.jk,Grew.refl h.jk,.inr (.inr ⟨b,off,by rw[h0],Zc0 h0⟩),λb hb=>(by rw[h0,lQ]at hb;cases hb),h.row,h.cap,λb hb=>(by rw[h0,lQ]at hb;cases hb)⟩
   .exact⟨h.jk,Grew.refl h.jk,.inr (.inr ⟨b,off,rfl,rfl⟩),λb hb=>(by rw[lQ]at hb;cases hb),h.row,h.cap,λb hb=>(by rw[lQ]at hb;cases hb)⟩
 .rw[Za6 hp];exact⟨s',rfl,h⟩
theorem QS.fT{es d:Nat}{s:St}{v:AV}{rows:List (List AV)}(h:QS es s v rows)(hr:∀r∈rows,r.length=es):
   ∃z,Go.Ai.fT s (d+1) v=ro es z (rows.map λr=>r.map (Go.Ai.fT s d)):=by
 rcases h with⟨rfl,rfl⟩|⟨b,off,cap,cs,rfl,h1,h2,h3,h4⟩|⟨b,off,rfl,rfl⟩
 .exact⟨true,rfl⟩
 rotate_left
 .exact⟨false,rfl⟩
 . refine⟨false,?_⟩;by_cases h0:rows.length=0
   .obtain rfl:=Zc0 h0;rfl
   rw[aez,Za2 h0];simp only;rw[h1];simp only[Za0 h2];show AV.fl _ _=AV.fl _ _;congr 1;(refine List.ext_getElem (by simp) λi p1 p2=> ?_);simp only[Za5,Zr0]at p1;simp only[Zn0,List.getElem_range];congr 1;have key:∀(rows:List (List AV))(i:Nat)(hi:i<rows.length),(∀r∈rows,r.length=es)->((rows.flatten).drop (i*es)).take es=rows[i]:=by
     intro rows;induction rows with
     |nil=>intro i hi;simp at hi
     |  cons r rows ih=>
        intro i hi hr;have hl:=hr r (by simp);cases i with
        |zero=>simp[<-hl]
        |succ i=>
         have:=ih i (by simpa using hi) (λx hx=>hr x (Zb0 _ hx));rw[Zf8,Zh4,Zr3, <-hl,List.drop_append];simp only[Zo6];rw[<-this,hl];simp[List.drop_eq_nil_of_le (show r.length<=es+i*es by omega)]
   rw[<-key rows i p1 hr, <-h3];rw[Zo2,List.take_take,Zl4];congr 1;have:(i+1)*es<=rows.length*es:=Zh3 _ p1;rw[Zh4]at this;omega
section
variable{R:Type}(c:aj)(K:AV->St->Option R)(st:St)
theorem iR{b:Pos}{off len es es':Nat}{cap:Option Nat}{k:IntKind}{i:Nat}(h:i<len):aq c (.idxA es none) [.slice b off len cap es',.int k (i:Int)] st K=K (.ptr b (off+i*es)) st:=
 aS c K (λH n=>by
  simp only[aE.run,rX,ju];have:Nat.blt i len=true:=by rw[Zr5];exact h
  rw[this]) st
theorem kX(b:Pos)(off len es:Nat)(cap:Option Nat):aq c (.lenB .l) [.slice b off len cap es] st K=K (.int .i64 (len:Int)) st:=aS c K (λH n=>rfl) st
theorem am4{b:Pos}{off len es:Nat}{cap:Option Nat}(h:1<=len)(hc:∀x,cap=some x->len<=x):
  aq c (.sliceL es true false false) [.slice b off len cap es,.int .i64 1] st K=K (.slice b (off+1*es) (len - 1) (cap.map (· - 1)) es) st:=
 aS c K (λH n=>by
  have hb:bounds true false false [.int .i64 1]=some (some 1,none,none):=rfl;simp only[aE.run,iL,hb,cK,cM,Zg6,Ze8,Zi9,Za0 h];cases cap with
  |none=>simp
  |some x=>simp[hc x rfl]) st
theorem adq{es bytes:Nat}{z:List AV}{k k':IntKind}{n:Nat}(h1:bytes*n<=281474976710656)(h2:n<=9223372036854775807):
  aq c (.mkSlice es bytes z) [.int k (n:Int),.int k' (n:Int)] st K=K (.slice st.next 0 n (some n) es) (ah st (.cells (bU z n) 0)):=by
 have:aE.run (λb=>st.heap.get b) st.next (.mkSlice es bytes z) [.int k (n:Int),.int k' (n:Int)]=some (.bh (.slice st.next 0 n (some n) es) none none (some (.cells (bU z n) 0))):=by
  simp only[aE.run,Cr,ju,cM,Za0 h1,Za0 h2,Za3,Zg6]
 unfold aq cC;rw[this];rfl
end
theorem CS{α:Type}(x:α):∀n:Nat,bU [x] n=List.replicate n x
 |0=>rfl
 |n+1=>by simp[bU,CS x n,Zn2]
theorem yy{rows:List (List AV)}{es:Nat}(hr:∀r∈rows,r.length=es):∀(i j:Nat)(r:List AV)(u:AV),rows[i]? =some r->r[j]? =some u->rows.flatten[i*es+j]? =some u:=by
 induction rows with
 |nil=>intro i j r u h;simp at h
 |cons r0 rows ih=>
  intro i j r u h1 h2;have hl:=hr r0 (by simp);cases i with
  |zero=>
   simp at h1;subst h1;have:=(Za1.1 h2).1;rw[Zf8,Zo4,Zb9,Zc5 this];exact h2
  |succ i=>
   rw[Zf8,Zc4 (by rw[Zh4];omega)];rw[show(i+1)*es+j - r0.length=i*es+j by rw[Zh4];omega];exact ih (λx hx=>hr x (Zb0 _ hx)) i j r u (by simpa using h1) h2
theorem QS.at{R:Type}{c:aj}{es:Nat}{s:St}{v:AV}{rows:List (List AV)}(h:QS es s v rows)(hr:∀r∈rows,r.length=es)(dW:es≠0){i:Nat}(hi:i<rows.length):
   ∃b o cs,(∀(K:AV->St->Option R)(k:IntKind)(s1:St),aq c (.idxA es none) [v,.int k (i:Int)] s1 K=K (.ptr b o) s1)/\aK v=some b/\s.heap.get b=some (.cells cs 0)/\∀j u,rows[i][j]? =some u->cs[o+j]? =some u:=by
 rcases h with⟨rfl,rfl⟩|⟨b,off,cap,cs,rfl,g1,g2,g3,g4⟩|⟨b,off,rfl,rfl⟩
 .simp at hi
 rotate_left
 .simp at hi
 . refine⟨b,off+i*es,cs,λK k s1=>iR c K s1 hi,by simp only[aK];rw[Za6 (by omega)],g1,λj u hj=> ?_⟩;have hri:=hr rows[i] (Zb8 hi);have hj2:j<es:=(by rw[<-hri];exact(Za1.1 hj).1);have:=yy hr i j rows[i] u (H0 hi) hj;rw[<-g3,Ze3]at this;split at this
   .rw[Ze5]at this;rw[<-this];congr 1;omega
   .cases this
theorem QS.tail{R:Type}{c:aj}{es:Nat}{s:St}{v:AV}{r:List AV}{rows:List (List AV)}(h:QS es s v (r::rows))(hr:r.length=es):
   ∃v',(∀(K:AV->St->Option R)(s1:St),aq c (.sliceL es true false false) [v,.int .i64 1] s1 K=K v' s1)/\QS es s v' rows/\∀b,aK v'=some b->aK v=some b:=by
 rcases h with⟨rfl,h⟩|⟨b,off,cap,cs,rfl,g1,g2,g3,g4⟩|⟨b,off,rfl,h⟩
 .cases h
 rotate_left
 .cases h
 . refine⟨.slice b (off+1*es) rows.length (cap.map (· - 1)) es,λK s1=> ?_,.inr (.inl ⟨b,off+1*es,cap.map (· - 1),cs,rfl,g1,?_,?_,?_⟩),λb' hb=>by
     obtain rfl:=sO hb;simp only[aK,Zc9];rw[Za6 (by omega)]⟩
   .rw[am4 c K s1 (by simp) (λx hx=>by rcases g4 with rfl|rfl<;>cases hx;exact Za3 _)];simp
   .simp only[Zc9,Zh4]at g2;omega
   . have:((cs.drop off).take ((r::rows).length*es)).drop es=rows.flatten:=(by rw[g3,Zf8, <-hr];simp);rw[<-this,Zo2,Zl4];congr 1
     .simp only[Zc9,Zh4];omega
     .congr 1;omega
   . rcases g4 with rfl|rfl
     .exact .inl rfl
     .right;simp
theorem QS.arL{R:Type}{c:aj}{es bytes:Nat}{s:St}{v:AV}{rows:List (List AV)}(hw:Wf s)(h:QS es s v rows)(hr:∀r∈rows,r.length=es){z:List AV}{x:AV}(hz:z.length=es)(hx:x.cells.length=es)(h1:aN x.cells=true)(dW:es≠0)
   (hb:(2*(rows.length+1)+768)*bytes<=281474976710656) (hn:rows.length<=4000000):
   ∃s5 v',(∀(K:AV->St->Option R),aq c (.buildSlice es 1 z [0]) [x] s (λy t=>aq c (.append es bytes) [v,y] t K)=K v' s5)/\QS es s5 v' (rows++[x.cells])/\Wf s5/\s.next.toNat<=s5.next.toNat/\
    (∀p b,aK v≠some p->s.heap.get p=some b->s5.heap.get p=some b)/\(∀b,aK v'=some b->s.next.toNat<=b.toNat)/\∀b,aK v'=some b->s5.heap.get b=some (.cells (rows.flatten++x.cells) 0):=by
 have cO:Wf (ah s (.cells x.cells 0)):=bF hw;have g1:=Grew.ah hw (.cells x.cells 0);obtain⟨s5,a1,a2,a3,a4,a5,a6⟩:=QS.app (R:=R) (c:=c) (bytes:=bytes) cO (h.mono λb x _ hx=>g1.get hx) hr (aA s (.cells x.cells 0)) hx h1 dW hb hn;refine⟨s5,_,λK=>by rw[Kr hz hx,a1],a2,a3,by rw[a4,bN,Pos.aD,Pos.aD];omega,λp b hp hg=> ?_,λb hb=> ?_,λb hb=> ?_⟩
 .have aV:=hw _ _ hg;rw[a5 p hp (by rw[bN,Pos.aD];omega)];exact g1.get hg
 .rw[iP]at hb;cases hb;rw[bN,Pos.aD];omega
 .rw[iP]at hb;cases hb;exact a6
theorem QS.push{R:Type}{c:aj}{es bytes:Nat}{s:St}{v:AV}{rows:List (List AV)}(hw:Wf s)(h:QS es s v rows)(hr:∀r∈rows,r.length=es){z:List AV}{x:AV}(hz:z.length=es)(hx:x.cells.length=es)(h1:aN x.cells=true)(dW:es≠0)
  (hb:(2*(rows.length+1)+768)*bytes<=281474976710656) (hn:rows.length<=4000000):
  ∃s5 v',(∀(K:AV->St->Option R),aq c (.buildSlice es 1 z [0]) [x] s (λy t=>aq c (.append es bytes) [v,y] t K)=K v' s5)/\QS es s5 v' (rows++[x.cells])/\Wf s5/\s.next.toNat<=s5.next.toNat/\
   (∀p b,aK v≠some p->s.heap.get p=some b->s5.heap.get p=some b)/\∀b,aK v'=some b->s.next.toNat<=b.toNat:=by
 obtain⟨s5,v',a1,a2,a3,a4,a5,a6,_⟩:=QS.arL (R:=R) (c:=c) (bytes:=bytes) hw h hr hz hx h1 dW hb hn;exact⟨s5,v',a1,a2,a3,a4,a5,a6⟩
theorem QS.lenB{R:Type}{c:aj}{es:Nat}{s:St}{v:AV}{rows:List (List AV)}(h:QS es s v rows)(K:AV->St->Option R)(s1:St):aq c (.lenB .l) [v] s1 K=K (.int .i64 (rows.length:Int)) s1:=by
 rcases h with⟨rfl,rfl⟩|⟨b,off,cap,cs,rfl,_⟩|⟨b,off,rfl,rfl⟩
 .exact aS c K (λH n=>rfl) s1
 .exact kX c K s1 _ _ _ _ _
 .exact kX c K s1 _ _ _ _ _
def dP(v:AV):Prop:=∃N0 K0:Nat,∀N K:Nat,N0<=N->K0<=K->∃x,aC (λ_=>⟨0,0,K⟩) N (λ_=>none) v x
theorem dP.int(k:IntKind)(i:Int):dP (.int k i):=⟨0,0,λ_ _ _ _=>⟨_,.int k i⟩⟩
theorem dP.bool(b:Bool):dP (.bool b):=⟨0,0,λ_ _ _ _=>⟨_,.bool b⟩⟩
theorem dP.af:dP .af:=⟨0,0,λ_ _ _ _=>⟨_,.af⟩⟩
theorem dP.str{s:List Nat}(h:∀x∈s,x<256):dP (.str s):=⟨0,0,λ_ _ _ _=>⟨.string ⟨(s.map UInt8.ofNat).toArray⟩,.str s _ (by
 show(s.map UInt8.ofNat).toArray.toList.map UInt8.toNat=s;simp only[Zh8]
 conv=>rhs;rw[<-Zs3 s]
 refine Zk9 λc hc=> ?_
 have:=h c hc;simp[UInt8.toNat_ofNat];omega)⟩⟩
theorem dP.slice(b:Pos)(off n es:Nat):dP (.slice b off n none es):=⟨b.toNat+1,off+n*es,λN K hN hK=>⟨.slice (some ⟨0,0+off,none⟩) n n,
 .slice b off n none es n _ (Za3 _) (λc hc=>by cases hc) (λ_=>⟨by omega,rfl,by simpa using hK⟩) (λ_=>by omega)⟩⟩
theorem dP.zero(b:Pos)(off es:Nat):dP (.slice b off 0 (some 0) es):=⟨0,0,λN K _ _=>⟨.slice (some ⟨0,0,none⟩) 0 0,
 .slice b off 0 (some 0) es 0 _ (Za3 _) (λc hc=>by cases hc;rfl) (λh=>absurd rfl h) (λh=>by cases h)⟩⟩
theorem inst_list:∀{l:List AV},(∀v∈l,dP v)->∃N0 K0:Nat,∀N K:Nat,N0<=N->K0<=K->∃xs,aJ (λ_=>⟨0,0,K⟩) N (λ_=>none) l xs
 |[],_=>⟨0,0,λ_ _ _ _=>⟨[],aJ.nil⟩⟩
 |v::l,h=>by
  obtain⟨N1,K1,h1⟩:=h v (by simp);obtain⟨N2,K2,h2⟩:=inst_list (λu hu=>h u (Zb0 _ hu));refine⟨max N1 N2,max K1 K2,λN K hN hK=> ?_⟩;obtain⟨x,hx⟩:=h1 N K (by omega) (by omega);obtain⟨xs,qZ⟩:=h2 N K (by omega) (by omega);exact⟨x::xs,aJ.cons hx qZ⟩
theorem ni{l:List AV}(hi:∀v∈l,dP v){b:Pos}{off n es:Nat}(hm:AV.slice b off n none es∈l):¬Plain (.agg l):=λh=>by
 obtain⟨N0,K0,h1⟩:=inst_list hi;obtain⟨xs,hx⟩:=h1 N0 K0 (Za3 _) (Za3 _);have h2:aC (λ_=>⟨0,0,K0⟩) N0 (λ_=>none) (.agg l) (.agg xs.toArray):= .agg l _ (by rw[hx.1];simp) λi v x hv wC=>hx.2 i v x hv (by simpa using wC)
 have h3:=h _ (λ_=>⟨0,0,0⟩) _ 0 _ _ h2;obtain⟨i,aV,hi⟩:=Zg4.1 hm;cases h3 with
 |agg _ _ hl hc=>
  have ak3:i<xs.toArray.size:=by rw[<-hl];exact aV
  obtain⟨y,hy⟩:∃y,xs.toArray[i]? =some y:=⟨_,Zg0 ak3⟩
  have:=hc i _ y (by rw[H0 aV,hi]) hy;cases this with
  |slice _ _ _ _ _ _ _ _ _ _ hk=>exact absurd (hk rfl) (by omega)
theorem Mk.inst{es:Nat}{s s':St}{v:AV}{rows:List (List AV)}(h:Mk es s s' v rows):dP v:=by
 rcases h.own with⟨rfl,rfl⟩|⟨b,off,cap,cs,rfl,_⟩|⟨b,off,rfl,rfl⟩
 .exact dP.af
 . rcases h.cap _ _ _ _ _ rfl with rfl|⟨h0,rfl⟩
   .exact dP.slice _ _ _ _
   .rw[h0];exact dP.zero _ _ _
 .exact dP.zero _ _ _
theorem Mk.loose{es:Nat}{s s':St}{v:AV}{rows:List (List AV)}(h:Mk es s s' v rows):(∃b off n,v= .slice b off n none es)\/((∀t,Wf t->Mk es t t v rows)/\rows=[]):=by
 rcases h.own with⟨rfl,rfl⟩|⟨b,off,cap,cs,rfl,_⟩|⟨b,off,rfl,rfl⟩
 .exact .inr ⟨λt ht=>Mk.start ht (Grew.refl ht),rfl⟩
 . rcases h.cap _ _ _ _ _ rfl with rfl|⟨h0,rfl⟩
   .exact .inl ⟨_,_,_,rfl⟩
   .exact .inr ⟨λt ht=>⟨ht,Grew.refl ht,.inr (.inr ⟨b,off,by rw[h0],Zc0 h0⟩),λb hb=>(by rw[h0,lQ]at hb;cases hb),h.row,h.cap,λb hb=>(by rw[h0,lQ]at hb;cases hb)⟩,Zc0 h0⟩
 .exact .inr ⟨λt ht=>⟨ht,Grew.refl ht,.inr (.inr ⟨b,off,rfl,rfl⟩),λb hb=>(by rw[lQ]at hb;cases hb),h.row,h.cap,λb hb=>(by rw[lQ]at hb;cases hb)⟩,rfl⟩
theorem Mk.RN{es:Nat}{s s':St}{v:AV}{rows:List (List AV)}(h:Mk es s s' v rows){l:List AV}(hm:v∈l)(hi:∀u∈l,dP u):∃fI,Go.Ai.tidy s (.agg l,s')=(.agg l,fI)/\(fI=s'\/fI=s)/\Mk es s fI v rows:=by
 unfold Go.Ai.tidy;by_cases hp:Plain (AV.agg l,s').1/\aX s (AV.agg l,s').2
 . rw[Zb4 hp];refine⟨s,rfl,.inr rfl,?_⟩;rcases h.loose with⟨b,off,n,rfl⟩|⟨hl,_⟩
   .exact absurd hp.1 (ni hi hm)
   .exact hl s h.jk
 .rw[Za6 hp];exact⟨s',rfl,.inl rfl,h⟩
theorem Mk.cells{es:Nat}{s s':St}{v:AV}{rows:List (List AV)}(h:Mk es s s' v rows):v.cells=[v]/\aN [v]=true:=by
 rcases h.own with⟨rfl,rfl⟩|⟨b,off,cap,cs,rfl,_⟩|⟨b,off,rfl,rfl⟩<;>exact⟨rfl,rfl⟩
theorem Mk.store{es:Nat}{s s':St}{v:AV}{rows:List (List AV)}(h:Mk es s s' v rows){p:Pos}{b:AB}(hp:s.next.toNat<=p.toNat)(Gk:p.toNat<s'.next.toNat)(cN:aK v≠some p):Mk es s (bg s' p b) v rows:=
 ⟨h.jk,⟨iG h.ai.wf Gk,λq x hq=>by have:=h.jk _ _ hq;rw[aH (λe=>by rw[e]at hp;omega)];exact h.ai.get hq,by rw[dH];exact h.ai.next⟩,
  h.own.mono λq x hq hx=>by rw[aH (λe=>cN (by rw[hq,e]))];exact hx,h.new,h.row,h.cap,λb hb=>by rw[aH (λe=>cN (by rw[hb,e]))];exact h.tight b hb⟩
theorem Mk.back{es:Nat}{s0 s s':St}{v:AV}{rows:List (List AV)}(h:Mk es s s' v rows)(h0:Wf s0)(hg:Grew s0 s):Mk es s0 s' v rows:=
 ⟨h0,hg.trans h.ai,h.own,λb hb=>Zb3 hg.next (h.new b hb),h.row,h.cap,h.tight⟩
theorem zj{α:Type}(l:List α)(i:Nat)(h:i<l.length)(u:α):aQ l i [u]=l.set i u:=by unfold aQ;rw[Zo0,Zb4 h];simp
theorem NR{es:Nat}:∀(rows:List (List AV)),(∀r∈rows,r.length=es)->∀(i j:Nat)(hi:i<rows.length),j<es->∀u,rows.flatten.set (i*es+j) u=(rows.set i (rows[i].set j u)).flatten
 |[],_,i,j,hi,_,_=>by simp at hi
 |r::rows,hr,i,j,hi,hj,u=>by
  have hl:=hr r (by simp);cases i with
  |zero=>
   simp only[Zo4,Zb9,Zf8,Zq8,List.getElem_cons_zero];rw[List.set_append_left _ _ (by omega)]
  |succ i=>
   simp only[Zf8,List.set_cons_succ,Zo6];rw[Zk2 _ _ (by rw[Zh4];omega)];rw[show(i+1)*es+j - r.length=i*es+j by rw[Zh4];omega];rw[NR rows (λx hx=>hr x (Zb0 _ hx)) i j (by simpa using hi) hj u]
theorem QS.set{R:Type}{c:aj}{es:Nat}{s:St}{v:AV}{rows:List (List AV)}(h:QS es s v rows)(hr:∀r∈rows,r.length=es)(dW:es≠0){i:Nat}(hi:i<rows.length):
   ∃ b o cs,(∀(K:AV->St->Option R)(k:IntKind)(s1:St),aq c (.idxA es none) [v,.int k (i:Int)] s1 K=K (.ptr b o) s1)/\(∀(K:AV->Option R)(k:IntKind),fq (.idxA es none) [v,.int k (i:Int)] K=K (.ptr b o))/\aK v=some b/\s.heap.get b=some (.cells cs 0)/\o+es<=cs.length/\(∀j u,rows[i][j]? =some u->cs[o+j]? =some u)/\
     (∀j u (s':St),j<es->s'.heap.get b=some (.cells (aQ cs (o+j) [u]) 0)->QS es s' v (rows.set i (rows[i].set j u)))/\
     ∀j u,j<es->cs=rows.flatten->aQ cs (o+j) [u]=(rows.set i (rows[i].set j u)).flatten:=by
 rcases h with⟨rfl,rfl⟩|⟨b,off,cap,cs,rfl,g1,g2,g3,g4⟩|⟨b,off,rfl,rfl⟩
 .simp at hi
 rotate_left
 .simp at hi
 have hri:=hr rows[i] (Zb8 hi);have hm:(i+1)*es<=rows.length*es:=Zh3 _ hi;rw[Zh4]at hm;have hx:∀(k:IntKind)(H:Pos->Option AB)(n:Pos),aE.run H n (.idxA es none) [.slice b off rows.length cap es,.int k (i:Int)]=some (.val (.ptr b (off+i*es))):=λk H n=>by
   simp only[aE.run,rX,ju];have:Nat.blt i rows.length=true:=(by rw[Zr5];exact hi);rw[this]
 refine⟨b,off+i*es,cs,λK k s1=>iR c K s1 hi,λK k=>cZ K (hx k),by simp only[aK];rw[Za6 (by omega)],g1,by omega,λj u hj=> ?_,λj u s' hj hs=> ?_,λj u hj he=> ?_⟩
 . have hj2:j<es:=(by rw[<-hri];exact(Za1.1 hj).1);have:=yy hr i j rows[i] u (H0 hi) hj;rw[<-g3,Ze3]at this;split at this
   .rw[Ze5]at this;rw[<-this];congr 1;omega
   .cases this
 .rw[zj _ _ (by omega)]at hs;refine .inr (.inl ⟨b,off,cap,_,by simp,hs,by simpa using g2,?_,by simpa using g4⟩);rw[Zi7, <-NR rows hr i j hi hj u, <-g3,List.drop_set,Za6 (by omega),List.take_set];congr 1;omega
 . have hlen:rows.flatten.length=rows.length*es:=by
     clear g2 g3 g4 hi hri hm hx g1 he;induction rows with
     |nil=>simp
     |  cons r rows ih=>
        have:=ih (λx hx=>hr x (Zb0 _ hx));have h2:=hr r (by simp);simp only[Zf8,Zd8,Zc9,Zh4];omega
   have h0:off=0:=(by rw[he,hlen]at g2;omega);subst h0;rw[zj _ _ (by omega),he, <-NR rows hr i j hi hj u];congr 1;omega
def Src(es:Nat)(s:St)(v:AV)(rows:List (List AV)):Prop:=v= .fl rows es\/QS es s v rows
theorem Src.len{es:Nat}{s:St}{v:AV}{rows:List (List AV)}(h:Src es s v rows):dR v=some rows.length:=by
 rcases h with rfl|h
 .rfl
 .exact h.len
theorem Src.mono{es:Nat}{s s':St}{v:AV}{rows:List (List AV)}(h:Src es s v rows)(hk:∀b x,aK v=some b->s.heap.get b=some x->s'.heap.get b=some x):Src es s' v rows:=h.imp id λh=>h.mono hk
theorem Src.ai{es:Nat}{s s':St}{v:AV}{rows:List (List AV)}(h:Src es s v rows)(hg:Grew s s'):Src es s' v rows:=h.mono λ_ _ _ hx=>hg.get hx
theorem Src.first{es:Nat}{s:St}{v:AV}{rows:List (List AV)}(h:Src es s v rows)(hr:∀r∈rows,r.length=es):cX es rows.length (λb=>s.heap.get b) v=some rows.flatten:=by
 rcases h with rfl|h
 .simp only[cX,cK,cM,Zg6,Za3,Zh7]
 .exact h.first hr
theorem Src.nil{es:Nat}{s:St}{v:AV}{rows:List (List AV)}(h:Src es s v rows):(v= .af/\rows=[])\/∀{R:Type}(c:aj)(K:AV->St->Option R)(t:St),aq c (.bin .eql .slice) [v,.af] t K=K (.bool false) t:=by
 rcases h with rfl|⟨rfl,rfl⟩|⟨b,off,cap,cs,rfl,_⟩|⟨b,off,rfl,rfl⟩
 .exact .inr λc K t=>aS c K (λH n=>rfl) t
 .exact .inl ⟨rfl,rfl⟩
 .exact .inr λc K t=>aS c K (λH n=>rfl) t
 .exact .inr λc K t=>aS c K (λH n=>rfl) t
theorem Src.ro{es:Nat}{s:St}(z:Bool)(rows:List (List AV)):Src es s (ro es z rows) rows:=by
 unfold Go.Ai.ro;split
 .exact .inr (.inl ⟨rfl,rfl⟩)
 .exact .inl rfl
theorem aeB{es:Nat}:∀{rows:List (List AV)},(∀r∈rows,r.length=es)->rows.flatten.length=rows.length*es
 |[],_=>by simp
 |r::rows,hr=>by have ih:=aeB (λx hx=>hr x (Zb0 _ hx));have h2:=hr r (by simp);simp only[Zf8,Zd8,Zc9,Zh4];omega
theorem aeC{es bytes:Nat}{z:List AV}{src:AV}{rows:List (List AV)}(hr:∀r∈rows,r.length=es)(_hes:es≠0)(hb:(2*rows.length+768)*bytes<=281474976710656)(hn:rows.length<=4000000){c:aj}{R:Type}(s:St)(hw:Wf s)(h:Src es s src rows):
   ∃v s',(∀(K:AV->St->Option R),aq c (.buildSlice es 0 z []) [] s (λy t=>aq c (.append es bytes) [y,src] t K)=K v s')/\Mk es s s' v rows:=by
 have bs:∀(K:AV->St->Option R),aq c (.buildSlice es 0 z []) [] s K=K (.slice s.next 0 0 (some 0) es) (ah s (.cells [] 0)):=λK=>by rw[au];rfl
 have cO:Wf (ah s (.cells [] 0)):=bF hw;have g1:=Grew.ah hw (.cells [] 0);have hl:=h.len;by_cases h0:rows.length=0
 .obtain rfl:=Zc0 h0;refine⟨.slice s.next 0 0 (some 0) es,ah s (.cells [] 0),λK=> ?_,hw,g1,.inr (.inr ⟨_,_,rfl,rfl⟩),λb hb=>(by rw[lQ]at hb;cases hb),hr,λb off n cp e he=>(by cases he;exact .inr ⟨rfl,rfl⟩),λb hb=>(by rw[lQ]at hb;cases hb)⟩;rw[bs,agV c K hl (by simpa using hb) (by simp)]
 . have hx:cX es rows.length (λb=>(ah s (.cells [] 0)).heap.get b) src=some rows.flatten:=(h.ai g1).first hr;have hlen:=aeB hr;refine⟨.slice (ah s (.cells [] 0)).next 0 rows.length none es,ah (ah s (.cells [] 0)) (.cells rows.flatten 0),λK=> ?_,hw,g1.trans (Grew.ah cO _),.inr (.inl ⟨_,0,none,rows.flatten,rfl,aA _ _,by omega,?_,.inl rfl⟩),λb hb=> ?_,hr,λb off n cp e he=>(by cases he;exact .inl rfl),λb hb=>(by rw[iP]at hb;cases hb;exact aA _ _)⟩
   .rw[bs,am0 c K (m:=rows.length) hl h0 (by simpa using hb) (by omega) hx]
   .simp only[Ze6];exact Ze9 (by omega)
   .rw[iP]at hb;cases hb;rw[bN,Pos.aD];omega
theorem yA{v:AV}(h:aN [v]=true):v.one=true:=by
 simp only[aN]at h;split at h
 .assumption
 .cases h
theorem TG{b:Pos}{o:Nat}{k1 k2:IntKind}{i1 i2:Int}:¬Plain (.tuple [.ptr b o,.int k1 i1,.int k2 i2]):=λh=>by
 obtain⟨x0,e0⟩:∃x,aC (λ_=>⟨0,0,0⟩) (b.toNat+1) (λ_=>none) (.ptr b o) x:=⟨_,.ptr b o (by omega)⟩
 obtain⟨x1,e1⟩:∃x,aC (λ_=>⟨0,0,0⟩) (b.toNat+1) (λ_=>none) (.int k1 i1) x:=⟨_,.int k1 i1⟩
 obtain⟨x2,e2⟩:∃x,aC (λ_=>⟨0,0,0⟩) (b.toNat+1) (λ_=>none) (.int k2 i2) x:=⟨_,.int k2 i2⟩
 have:=h (λ_=>⟨0,0,0⟩) (λ_=>⟨0,0,0⟩) (b.toNat+1) 0 (λ_=>none) _ (.tuple _ #[x0,x1,x2] rfl (λi v v' hv hx=>by
  match i with
  |0=>simp at hv hx;subst hv hx;exact e0
  |1=>simp at hv hx;subst hv hx;exact e1
  |2=>simp at hv hx;subst hv hx;exact e2
  |i+3=>simp at hv))
 cases this with
 |tuple _ _ _ h=>
  have:=h 0 _ x0 rfl rfl;cases this with
  |ptr _ _ h=>omega
theorem apU{l:List AV}{t:Bool}(h:Plain (.tuple [.agg l,.bool t])):Plain (.agg l):=λρ ρ' n n' C x hx=>by
 obtain⟨y,hy⟩:∃y,aC ρ n C (.bool t) y:=⟨_,.bool t⟩
 have:=h ρ ρ' n n' C _ (.tuple _ #[x,y] rfl (λi v v' hv wC=>by
  match i with
  |0=>simp at hv wC;subst hv wC;exact hx
  |1=>simp at hv wC;subst hv wC;exact hy
  |i+2=>simp at hv))
 cases this with
 |tuple _ _ _ h=>exact h 0 _ x rfl rfl
theorem Mk.ajT{es:Nat}{s s':St}{v:AV}{rows:List (List AV)}(h:Mk es s s' v rows){l:List AV}(hm:v∈l)(hi:∀u∈l,dP u)(t:Bool):∃fI,Go.Ai.tidy s (.tuple [.agg l,.bool t],s')=(.tuple [.agg l,.bool t],fI)/\Mk es s fI v rows:=by
 unfold Go.Ai.tidy;by_cases hp:Plain (AV.tuple [.agg l,.bool t],s').1/\aX s (AV.tuple [.agg l,.bool t],s').2
 . rw[Zb4 hp];refine⟨s,rfl,?_⟩;rcases h.loose with⟨b,off,n,rfl⟩|⟨hl,_⟩
   .exact absurd (apU hp.1) (ni hi hm)
   .exact hl s h.jk
 .rw[Za6 hp];exact⟨s',rfl,h⟩
theorem QS.cells{es:Nat}{s:St}{v:AV}{rows:List (List AV)}(h:QS es s v rows):v.cells=[v]/\v.one=true:=by
 rcases h with⟨rfl,rfl⟩|⟨b,off,cap,cs,rfl,_⟩|⟨b,off,rfl,rfl⟩<;>exact⟨rfl,rfl⟩
abbrev oe(v:AV):List AV:=[v]
theorem ag0(l:List AV):∀r∈l.map oe,r.length=1:=λr hr=>by simp only[Zc6]at hr;obtain⟨m,_,rfl⟩:=hr;rfl
theorem afU(r:List AV):(r.map oe).flatten=r:=by induction r with|nil=>rfl|cons a r ih=>rw[Zd3,Zf8,ih];rfl
structure Ow(s0 s:St)(jb:Pos)(Ls:List AV)(R:List (List AV))(I:List (AV×List (List AV))):Prop where
 jk:Wf s0
 lt:jb.toNat<s0.next.toNat
 wf:Wf s
 next:s0.next.toNat<=s.next.toNat
 keep:∀q x,q≠jb->s0.heap.get q=some x->s.heap.get q=some x
 own:∀(i:Nat)(L:AV)(r:List AV),Ls[i]? =some L->R[i]? =some r->QS 1 s L (r.map oe)
 len:Ls.length=R.length
 new:∀L∈Ls,∀b,aK L=some b->s0.next.toNat<=b.toNat
 apart:∀(i j:Nat)(L M:AV),i≠j->Ls[i]? =some L->Ls[j]? =some M->∀b,aK L=some b->aK M≠some b
 dY:∀e∈I,QS 1 s e.1 e.2/\∀b,aK e.1=some b->b≠jb/\∀L∈Ls,aK L≠some b
 tig:∀(i:Nat)(L:AV)(r:List AV),Ls[i]? =some L->R[i]? =some r->∀b,aK L=some b->s.heap.get b=some (.cells r 0)
 itg:∀e∈I,∀b,aK e.1=some b->s.heap.get b=some (.cells e.2.flatten 0)
 inw:∀e∈I,∀b,aK e.1=some b->s0.next.toNat<=b.toNat
section
variable{s0 s s':St}{jb:Pos}{Ls:List AV}{R:List (List AV)}{I:List (AV×List (List AV))}
theorem Ow.ai(h:Ow s0 s jb Ls R I)(g:Grew s s'):Ow s0 s' jb Ls R I:=
 ⟨h.jk,h.lt,g.wf,Zb3 h.next g.next,λq x hq hx=>g.get (h.keep q x hq hx),λi L r h1 h2=>(h.own i L r h1 h2).mono λb x _ hx=>g.get hx,h.len,h.new,h.apart,
  λe he=>⟨(h.dY e he).1.mono λb x _ hx=>g.get hx,(h.dY e he).2⟩,λi L r h1 h2 b hb=>g.get (h.tig i L r h1 h2 b hb),λe he b hb=>g.get (h.itg e he b hb),h.inw⟩
theorem Ow.ltL(h:Ow s0 s jb Ls R I){L:AV}(hL:L∈Ls){b:Pos}(hb:aK L=some b):b.toNat<s.next.toNat:=by
 obtain⟨i,hi,rfl⟩:=Zg4.1 hL;have hr:i<R.length:=by rw[<-h.len];exact hi
 exact(h.own i _ _ (H0 hi) (H0 hr)).lt h.wf hb
theorem Ow.more(h:Ow s0 s jb Ls R I){w:AV}{rows:List (List AV)}(M:Mk 1 s s' w rows):Ow s0 s' jb Ls R ((w,rows)::I):=by
 have h2:=h.ai M.ai;refine { h2 with dY:=λe he=> ?_,itg:=λe he b hb=> ?_,inw:=λe he b hb=> ?_ }
 . rcases Za9.1 he with rfl|he
   . refine⟨M.own,λb hb=>⟨λe=> ?_,λL hL e=> ?_⟩⟩
     .have:=M.new b hb;have:=h.next;have:=h.lt;rw[e]at *; omega
     .have:=M.new b hb;have:=h.ltL hL e;omega
   .exact h2.dY e he
 . rcases Za9.1 he with rfl|he
   .exact M.tight b hb
   .exact h2.itg e he b hb
 . rcases Za9.1 he with rfl|he
   .exact Zb3 h.next (M.new b hb)
   .exact h2.inw e he b hb
theorem Ow.store(h:Ow s0 s jb Ls R I)(b:AB):Ow s0 (bg s jb b) jb Ls R I:=by
 have aV:jb.toNat<s.next.toNat:=Zd1 h.lt h.next;have nL:∀L∈Ls,∀b,aK L=some b->jb≠b:=λL hL b hb e=>by have:=h.new L hL b hb;have:=h.lt;rw[e]at *; omega
 refine⟨h.jk,h.lt,iG h.wf aV,by rw[dH];exact h.next,λq x hq hx=>by rw[aH (λe=>hq e.symm)];exact h.keep q x hq hx,λi L r h1 h2=> ?_,h.len,h.new,h.apart,λe he=>⟨?_,(h.dY e he).2⟩,λi L r h1 h2 b hb=> ?_,λe he b hb=> ?_,h.inw⟩
 . (refine(h.own i L r h1 h2).mono λb x hb hx=> ?_);rw[aH (nL L (Zc1 h1) b hb)];exact hx
 . (refine(h.dY e he).1.mono λb x hb hx=> ?_);rw[aH (λe2=>((h.dY e he).2 b hb).1 e2.symm)];exact hx
 .rw[aH (nL L (Zc1 h1) b hb)];exact h.tig i L r h1 h2 b hb
 .rw[aH (λe2=>((h.dY e he).2 b hb).1 e2.symm)];exact h.itg e he b hb
theorem Ow.push(h:Ow s0 s jb Ls R I){c:aj}{Q:Type}{bytes i:Nat}{L:AV}{r:List AV}(hL:Ls[i]? =some L)(hR:R[i]? =some r){z:List AV}{x:AV}(hz:z.length=1)(hx:x.cells=[x])(h1:x.one=true)
   (hb:(2*(r.length+1)+768)*bytes<=281474976710656) (hn:r.length<=4000000):
   ∃s5 v',(∀(K:AV->St->Option Q),aq c (.buildSlice 1 1 z [0]) [x] s (λy t=>aq c (.append 1 bytes) [L,y] t K)=K v' s5)/\Ow s0 s5 jb (Ls.set i v') (R.set i (r++[x])) I/\(∀x,s.heap.get jb=some x->s5.heap.get jb=some x)/\(∀p y,aK L≠some p->s.heap.get p=some y->s5.heap.get p=some y)/\v'.cells=[v']/\v'.one=true/\s.next.toNat<=s5.next.toNat/\∀b,aK v'=some b->s.next.toNat<=b.toNat:=by
 have q:=h.own i L r hL hR;have gJ:i<Ls.length:=(Za1.1 hL).1;have hmL:L∈Ls:=Zc1 hL;obtain⟨s5,v',a1,a2,a3,a4,a5,a6,a7⟩:=QS.arL (R:=Q) (c:=c) (bytes:=bytes) h.wf q (ag0 r) hz (x:=x) (by rw[hx];rfl) (by rw[hx];simp[aN,h1]) (by decide) (by simpa using hb) (by simpa using hn);have hjlt:jb.toNat<s.next.toNat:=Zd1 h.lt h.next;have nj:aK L≠some jb:=λe=>by have:=h.new L hmL jb e;have:=h.lt;omega
 refine⟨s5,v',a1,⟨h.jk,h.lt,a3,Zb3 h.next a4,λq x hq hx=> ?_,λj M u h2 h3=> ?_,by simpa using h.len,λM hM b hb=> ?_,λj k M N hjk h2 h3 b hb uv=> ?_,λe he=>⟨?_,λb hb=>⟨((h.dY e he).2 b hb).1,λM hM uv=> ?_⟩⟩,λj M u h2 h3 b hb=> ?_,λe he b hb=> ?_,h.inw⟩,?_,a5,a2.cells.1,a2.cells.2,a4,a6⟩
 .refine a5 q x (λe=> ?_) (h.keep q x hq hx);have:=h.new L hmL q e;have:=h.jk _ _ hx;omega
 . by_cases e:i=j
   .subst e;rw[Zf3 gJ]at h2;have hir:i<R.length:=(by rw[<-h.len];exact gJ);rw[Zf3 hir]at h3;cases h2;cases h3;simpa [hx]using a2
   .rw[Ze4 e]at h2 h3;exact(h.own j M u h2 h3).mono λb x hb hx=>a5 b x (λe2=>h.apart i j L M e hL h2 b e2 hb) hx
 . rcases Zh2 hM with hM|rfl
   .exact h.new M hM b hb
   .exact Zb3 h.next (a6 b hb)
 . by_cases e:i=j
   .subst e;rw[Zf3 gJ]at h2;cases h2;rw[Ze4 hjk]at h3;have:=a6 b hb;have:=h.ltL (Zc1 h3) uv;omega
   . rw[Ze4 e]at h2;by_cases e2:i=k
     .  subst e2;rw[Zf3 gJ]at h3;cases h3;have:=a6 b uv;have:=h.ltL (Zc1 h2) hb;omega
     .  rw[Ze4 e2]at h3;exact h.apart j k M N hjk h2 h3 b hb uv
 .exact(h.dY e he).1.mono λb x hb hx=>a5 b x (λe2=>((h.dY e he).2 b hb).2 L hmL e2) hx
 . rcases Zh2 hM with hM|rfl
   .exact((h.dY e he).2 b hb).2 M hM uv
   .have:=a6 b uv;have:=(h.dY e he).1.lt h.wf hb;omega
 . by_cases e:i=j
   .subst e;rw[Zf3 gJ]at h2;have hir:i<R.length:=(by rw[<-h.len];exact gJ);rw[Zf3 hir]at h3;cases h2;cases h3;rw[a7 b hb,hx,afU]
   .rw[Ze4 e]at h2 h3;exact a5 b _ (λe2=>h.apart i j L M e hL h2 b e2 hb) (h.tig j M u h2 h3 b hb)
 .exact a5 b _ (λe2=>((h.dY e he).2 b hb).2 L hmL e2) (h.itg e he b hb)
 .exact λx hx=>a5 jb x nj hx
end
section
variable{s0 s s':St}{jb:Pos}{Ls:List AV}{R:List (List AV)}{I:List (AV×List (List AV))}
theorem Ow.none(hw:Wf s)(hj:jb.toNat<s.next.toNat)(n:Nat):Ow s s jb (List.replicate n .af) (List.replicate n []) []:=by
 have hn:∀(i:Nat)(L:AV),(List.replicate n AV.af)[i]? =some L->L= .af:=λi L h=>by
   rw[Zm0]at h;split at h
   .cases h;rfl
   .cases h
 refine⟨hw,hj,hw,Za3 _,λ_ _ _ h=>h,λi L r h1 h2=> ?_,by simp,λL hL b hb=> ?_,λi j L M _ h1 _ b hb=> ?_,λe he=>(by cases he),λi L r h1 _ b hb=> ?_,λe he=>(by cases he),λe he=>by cases he⟩
 . obtain rfl:=hn i L h1;rw[Zm0]at h2;split at h2
   .cases h2;exact QS.nil
   .cases h2
 .rw[List.mem_replicate]at hL;obtain⟨_,rfl⟩:=hL;cases hb
 .obtain rfl:=hn i L h1;cases hb
 .obtain rfl:=hn i L h1;cases hb
theorem Ow.snoc(h:Ow s0 s jb Ls R I):Ow s0 s jb (Ls++[.af]) (R++[[]]) I:=by
 have sp:∀(i:Nat)(L:AV),(Ls++[.af])[i]? =some L->Ls[i]? =some L\/(i=Ls.length/\L= .af):=λi L h1=>by
   by_cases hi:i<Ls.length
   .rw[Zc5 hi]at h1;exact .inl h1
   . rw[Zc4 (by omega)]at h1;by_cases h0:i - Ls.length=0
     .rw[h0]at h1;simp at h1;exact .inr ⟨by omega,h1.symm⟩
     .rw[Zc2 (by simp;omega)]at h1;cases h1
 have mem:∀L∈Ls++[AV.af],∀b,aK L=some b->L∈Ls:=λL hL b hb=>by
   rcases Zd5.1 hL with hL|hL
   .exact hL
   .simp at hL;subst hL;cases hb
 refine⟨h.jk,h.lt,h.wf,h.next,h.keep,λi L r h1 h2=> ?_,by simp[h.len],λL hL b hb=>h.new L (mem L hL b hb) b hb,λi j L M VU h1 h2 b hb uv=> ?_,λe he=>⟨(h.dY e he).1,λb hb=>⟨((h.dY e he).2 b hb).1,λL hL uv=>((h.dY e he).2 b hb).2 L (mem L hL b uv) uv⟩⟩,λi L r h1 h2 b hb=> ?_,h.itg,h.inw⟩
 . rcases sp i L h1 with h1|⟨rfl,rfl⟩
   .have hi:i<R.length:=(by rw[<-h.len];exact(Za1.1 h1).1);rw[Zc5 hi]at h2;exact h.own i L r h1 h2
   .rw[Zc4 (by rw[h.len];exact Za3 _),h.len]at h2;simp at h2;subst h2;exact QS.nil
 . rcases sp i L h1 with h1|⟨rfl,rfl⟩
   . rcases sp j M h2 with h2|⟨rfl,rfl⟩
     .exact h.apart i j L M VU h1 h2 b hb uv
     .cases uv
   .cases hb
 . rcases sp i L h1 with h1|⟨rfl,rfl⟩
   .have hi:i<R.length:=(by rw[<-h.len];exact(Za1.1 h1).1);rw[Zc5 hi]at h2;exact h.tig i L r h1 h2 b hb
   .cases hb
theorem Ow.take{L:AV}{r:List AV}(h:Ow s0 s jb (Ls++[L]) (R++[r]) I):Ow s0 s jb Ls R ((L,r.map oe)::I):=by
 have hl:Ls.length=R.length:=by have:=h.len;simpa using this
 have up:∀(i:Nat)(M:AV),Ls[i]? =some M->(Ls++[L])[i]? =some M:=λi M h1=>by rw[Zc5 (Za1.1 h1).1];exact h1
 have upR:∀(i:Nat)(M:List AV),R[i]? =some M->(R++[r])[i]? =some M:=λi M h1=>by rw[Zc5 (Za1.1 h1).1];exact h1
 have hL:(Ls++[L])[Ls.length]? =some L:=by simp
 have hR:(R++[r])[Ls.length]? =some r:=by rw[hl];simp
 refine⟨h.jk,h.lt,h.wf,h.next,h.keep,λi M u h1 h2=>h.own i M u (up i M h1) (upR i u h2),hl,λM hM b hb=>h.new M (Zm7 _ hM) b hb,λi j M N VU h1 h2 b hb uv=>h.apart i j M N VU (up i M h1) (up j N h2) b hb uv,λe he=> ?_,λi M u h1 h2=>h.tig i M u (up i M h1) (upR i u h2),λe he b hb=> ?_,λe he b hb=> ?_⟩
 . rcases Za9.1 he with rfl|he
   . refine⟨h.own _ _ _ hL hR,λb hb=>⟨λe=> ?_,λM hM uv=> ?_⟩⟩
     .  have:=h.new L (by simp) b hb;have:=h.lt;rw[e]at *; omega
     .  obtain⟨i,hi,rfl⟩:=Zg4.1 hM;exact h.apart i Ls.length _ L (by omega) (up i _ (H0 hi)) hL b uv hb
   .exact⟨(h.dY e he).1,λb hb=>⟨((h.dY e he).2 b hb).1,λM hM=>((h.dY e he).2 b hb).2 M (Zm7 _ hM)⟩⟩
 . rcases Za9.1 he with rfl|he
   .rw[afU];exact h.tig _ _ _ hL hR b hb
   .exact h.itg e he b hb
 . rcases Za9.1 he with rfl|he
   .exact h.new _ (by simp) b hb
   .exact h.inw e he b hb
end
theorem Ks{R:Type}{c:aj}(K:AV->St->Option R){s:St}{p:Pos}{o:Nat}{cs:List AV}{v:AV}(h:s.heap.get p=some (.cells cs 0))(ho:o<cs.length)(h1:v.cells=[v])(h2:v.one=true):
  aq c (.store 1) [.ptr p o,v] s K=K .undef (bg s p (.cells (cs.set o v) 0)):=by
 rw[bY c K s 1 p o v cs h (by rw[h1];rfl) (by omega) (by rw[h1];simp[aN,h2]),h1,zj _ _ ho]
theorem QS.beq{es:Nat}{s:St}{v:AV}{rows:List (List AV)}(h:QS es s v rows):eO v v=true:=by
 rcases h with⟨rfl,_⟩|⟨b,off,cap,cs,rfl,_⟩|⟨b,off,rfl,_⟩
 .rfl
 .cases cap<;>simp[eO,mW,fL,Pos.beq_eq.2 rfl]
 .simp[eO,mW,fL,Pos.beq_eq.2 rfl]
theorem Mk.beq{es:Nat}{s s':St}{v:AV}{rows:List (List AV)}(h:Mk es s s' v rows):eO v v=true:=h.own.beq
theorem FA{R:Type}{z:List AV}{x:AV}(hz:z.length=1)(hx:x.cells=[x])(s:St)(K:AV->AB->Option R):
  TA (.buildSlice 1 1 z [0]) [x] s K=K (.slice s.next 0 1 (some 1) 1) (.cells [x] 0):=by
 have:cF (bU z 1) ([0].map λi=>(i*1,1)) [x]=some [x]:=by
  simp only[Zd3,Zi8,Zo4,bU,Ze1,cF,cK,cM,hx,Zg6,Zb9,hz,Za3,Zc9,Zi6];simp only[aQ,Zm8,Ze0,Zb9,Zc9,Zi6];rw[Zo5 (by omega),Ze1]
 rw[pY,this];rfl
theorem FB{R:Type}{c:aj}{z:List AV}{x:AV}(hz:z.length=1)(hx:x.cells=[x])(s:St)(K:AV->St->Option R):
  aq c (.buildSlice 1 1 z [0]) [x] s K=K (.slice s.next 0 1 (some 1) 1) (ah s (.cells [x] 0)):=by
 rw[Kr hz (by rw[hx];rfl),hx]
section
variable{s0 s s':St}{jb:Pos}{Ls:List AV}{R:List (List AV)}{I:List (AV×List (List AV))}
theorem Ow.abY(h:Ow s0 s jb Ls R I){c:aj}{Q:Type}(bytes:Nat){i:Nat}{L:AV}{r:List AV}(hL:Ls[i]? =some L)(hR:R[i]? =some r){x:AV}(hx:x.cells=[x])(h1:x.one=true)
  (hb:(2*(r.length+1)+768)*bytes<=281474976710656) (hn:r.length<=4000000):
  ∃s5 v',(∀(K:AV->St->Option Q),aq c (.append 1 bytes) [L,.slice s.next 0 1 (some 1) 1] (ah s (.cells [x] 0)) K=K v' s5)/\Ow s0 s5 jb (Ls.set i v') (R.set i (r++[x])) I/\(∀x,s.heap.get jb=some x->s5.heap.get jb=some x)/\(∀p y,aK L≠some p->s.heap.get p=some y->s5.heap.get p=some y)/\v'.cells=[v']/\v'.one=true/\s.next.toNat<=s5.next.toNat/\∀b,aK v'=some b->s.next.toNat<=b.toNat:=by
 obtain⟨s5,v',a1,a2⟩:=h.push (c:=c) (Q:=Q) (bytes:=bytes) hL hR (z:=[.int .i64 0]) rfl hx h1 hb hn;refine⟨s5,v',λK=> ?_,a2⟩;rw[<-a1 K,FB rfl hx]
theorem Ow.mem_set{v':AV}{i:Nat}{p:Pos}(hL:∀L∈Ls,aK L≠some p)(hv:aK v'≠some p):∀L∈Ls.set i v',aK L≠some p:=λL h=>by
 rcases Zh2 h with h|rfl
 .exact hL L h
 .exact hv
theorem Ow.put(h:Ow s0 s jb Ls R I){H:List AV}(Cx:s.heap.get jb=some (.cells (H++Ls) 0)){c:aj}{Q:Type}(bytes:Nat){i:Nat}{L:AV}{r:List AV}(hL:Ls[i]? =some L)(hR:R[i]? =some r){x:AV}(hx:x.cells=[x])(h1:x.one=true)
   (hb:(2*(r.length+1)+768)*bytes<=281474976710656) (hn:r.length<=4000000) {o:Nat} (ho:o=H.length+i):
   ∃s5 s6 v',(∀(K:AV->St->Option Q),aq c (.append 1 bytes) [L,.slice s.next 0 1 (some 1) 1] (ah s (.cells [x] 0)) K=K v' s5)/\(∀(K:AV->St->Option Q),aq c (.store 1) [.ptr jb o,v'] s5 K=K .undef s6)/\Ow s0 s6 jb (Ls.set i v') (R.set i (r++[x])) I/\s6.heap.get jb=some (.cells (H++Ls.set i v') 0)/\
    (∀p y,p≠jb->(∀L∈Ls,aK L≠some p)->s.heap.get p=some y->s6.heap.get p=some y/\∀L∈Ls.set i v',aK L≠some p):=by
 obtain⟨s5,v',a1,a2,a3,a4,a5,a6,a7,a8⟩:=h.abY (c:=c) (Q:=Q) bytes hL hR hx h1 hb hn;have gJ:i<Ls.length:=(Za1.1 hL).1;have hj:=a3 _ Cx;have es:(H++Ls).set o v'=H++Ls.set i v':=by subst ho;rw[Zk2 _ _ (by omega)];congr 2;omega
 refine⟨s5,bg s5 jb (.cells (H++Ls.set i v') 0),v',a1,λK=> ?_,a2.store _,bG _ _ _,λp y hp hpL hy=>⟨?_,Ow.mem_set hpL λe=> ?_⟩⟩
 .rw[Ks K hj (by rw[Zd8];omega) a5 a6,es]
 .rw[aH (λe=>hp e.symm)];exact a4 p y (hpL L (Zc1 hL)) hy
 .have:=a8 p e;have:=h.wf _ _ hy;omega
end
def Pg:List (Int×Int)->Nat->List (AV×AV×Nat)
 |[],_=>[]
 |(k,d)::E,i=>(.int .i64 k,.int .i64 d,i)::Pg E (i+1)
def im(E:List (Int×Int)):AB:= .map (Pg E 0) E.length
def jX:List (Int×Int)->Int->Option Int
 |[],_=>none
 |(k,d)::E,x=>if x=k then some d else jX E x
theorem ag1:∀(E:List (Int×Int))(i:Nat)(k d:Int),Pg (E++[(k,d)]) i=Pg E i++[(.int .i64 k,.int .i64 d,i+E.length)]
 |[],i,k,d=>rfl
 |(a,b)::E,i,k,d=>by
  show _::Pg (E++[(k,d)]) (i+1)=_::(Pg E (i+1)++_);rw[ag1 E (i+1) k d];simp only[Zc9];rw[show i+1+E.length=i+(E.length+1)by omega]
theorem BX(x:Int):∀(E:List (Int×Int))(i j:Nat),(jX E x=none->gM .i (.int .i64 x) (Pg E i) j=some none)/\∀d,jX E x=some d->∃n,gM .i (.int .i64 x) (Pg E i) j=some (some (n,.int .i64 d))
 |[],i,j=>⟨λ_=>rfl,λd h=>by cases h⟩
 |(k,e)::E,i,j=>by
  have ih:=BX x E (i+1) (j+1);have step:gM .i (.int .i64 x) (Pg ((k,e)::E) i) j=if x=k then some (some (j,.int .i64 e))else gM .i (.int .i64 x) (Pg E (i+1)) (j+1):=by
    show(match yd .i (.int .i64 x) (.int .i64 k)with|some true=>some (some (j,AV.int .i64 e))|some false=>gM .i (.int .i64 x) (Pg E (i+1)) (j+1)|none=>none)=_;simp only[yd,dG,mX];by_cases h:x=k
    .rw[Zb4 h,Za0 h]
    .rw[Za6 h,Za2 h]
  rw[step];unfold jX;by_cases h:x=k
  .rw[Zb4 h,Zb4 h];exact⟨λh=>(by cases h),λd hd=>⟨j,by cases hd;rfl⟩⟩
  .rw[Za6 h,Za6 h];exact ih
section
variable{R:Type}(c:aj)(K:AV->St->Option R){st:St}{m:Pos}{E:List (Int×Int)}
theorem apV(h:st.heap.get m=some (im E))(x:Int):aq c (.lookup .i (.int .i64 0) true) [.map m,.int .i64 x] st K=K (.tuple [.int .i64 ((jX E x).getD 0),.bool (jX E x).isSome]) st:=by
 have:aE.run (λb=>st.heap.get b) st.next (.lookup .i (.int .i64 0) true) [.map m,.int .i64 x]=some (.val (.tuple [.int .i64 ((jX E x).getD 0),.bool (jX E x).isSome])):=by
  unfold im at h;cases hl:jX E x with
  |none=>simp only[aE.run,lz,h,(BX x E 0 0).1 hl];rfl
  |some d=>obtain⟨n,e⟩:=(BX x E 0 0).2 d hl;simp only[aE.run,lz,h,e];rfl
 unfold aq cC;rw[this]
theorem atY(h:st.heap.get m=some (im E))(x:Int):aq c (.lookup .i (.int .i64 0) false) [.map m,.int .i64 x] st K=K (.int .i64 ((jX E x).getD 0)) st:=by
 have:aE.run (λb=>st.heap.get b) st.next (.lookup .i (.int .i64 0) false) [.map m,.int .i64 x]=some (.val (.int .i64 ((jX E x).getD 0))):=by
  unfold im at h;cases hl:jX E x with
  |none=>simp only[aE.run,lz,h,(BX x E 0 0).1 hl];rfl
  |some d=>obtain⟨n,e⟩:=(BX x E 0 0).2 d hl;simp only[aE.run,lz,h,e];rfl
 unfold aq cC;rw[this]
theorem ag2(h:st.heap.get m=some (im E)){x:Int}(hx:jX E x=none)(d:Int):aq c (.mapSet .i) [.map m,.int .i64 x,.int .i64 d] st K=K .undef (bg st m (im (E++[(x,d)]))):=by
 have:aE.run (λb=>st.heap.get b) st.next (.mapSet .i) [.map m,.int .i64 x,.int .i64 d]=some (.bh .undef none (some (m,im (E++[(x,d)]))) none):=by unfold im at h;simp only[aE.run,ye,h,af7,(BX x E 0 0).1 hx];unfold im;rw[ag1];simp
 unfold aq cC;rw[this];rfl
end
theorem am5(i:Nat):bounds true false false [.int .i64 (i:Int)]=some (some i,none,none):=rfl
theorem am6(i:Nat):bounds false true false [.int .i64 (i:Int)]=some (none,some i,none):=rfl
theorem aeD{es:Nat}:∀(rows:List (List AV)),(∀r∈rows,r.length=es)->∀i,rows.flatten.drop (i*es)=(rows.drop i).flatten
 |[],_,i=>by simp
 |r::rows,hr,0=>by simp
 |r::rows,hr,i+1=>by have hl:=hr r (by simp);rw[Zf8,List.drop_succ_cons,Zh4,Zr3, <-Zl4, <-hl,List.drop_left,hl];exact aeD rows (λx hx=>hr x (Zb0 _ hx)) i
theorem QS.low{es:Nat}{s:St}{v:AV}{rows:List (List AV)}(h:QS es s v rows)(hr:∀r∈rows,r.length=es){i:Nat}(hi:i<=rows.length):
   ∃v',(∀{R:Type}(c:aj)(K:AV->St->Option R)(s1:St),aq c (.sliceL es true false false) [v,.int .i64 (i:Int)] s1 K=K v' s1)/\QS es s v' (rows.drop i)/\∀b,aK v'=some b->aK v=some b:=by
 rcases h with⟨rfl,rfl⟩|⟨b,off,cap,cs,rfl,g1,g2,g3,g4⟩|⟨b,off,rfl,rfl⟩
 .obtain rfl:i=0:=(by simpa using hi);exact⟨.af,λc K s1=>aS c K (λH n=>rfl) s1,.inl ⟨rfl,rfl⟩,λb hb=>hb⟩
 . refine⟨.slice b (off+i*es) (rows.length - i) (cap.map (· - i)) es,λc K s1=>aS c K (λH n=> ?_) s1,?_,λb' hb=> ?_⟩
   .simp only[aE.run,iL,am5,cK,cM,Zg6,Ze8,Zi9,Za0 hi];rcases g4 with rfl|rfl<;>simp
   . have hm:i*es+(rows.length - i)*es=rows.length*es:=(by rw[<-Zj8];congr 1;omega);refine .inr (.inl ⟨b,off+i*es,cap.map (· - i),cs,by rw[Zp1],g1,?_,?_,?_⟩)
     .  rw[Zp1];omega
     .  rw[<-aeD rows hr i, <-g3,Zo2,Zl4,Zp1];congr 1;omega
     .  rcases g4 with rfl|rfl
        .exact .inl rfl
        .right;simp
   . obtain rfl:=sO hb;simp only[aK]at hb ⊢;by_cases h0:cap=some 0/\rows.length=0
     .  obtain⟨rfl,h0⟩:=h0;rw[Zb4 (by simp;omega)]at hb;cases hb
     .  rw[Za6 h0]
 . obtain rfl:i=0:=(by simpa using hi);refine⟨.slice b (off+0*es) 0 (some 0) es,λc K s1=>aS c K (λH n=> ?_) s1,.inr (.inr ⟨_,_,rfl,rfl⟩),λb' hb=> ?_⟩
   .simp only[aE.run,iL,am5,cK,cM,Zg6,Ze8,Zi9,Za3,Zl0]
   .rw[lQ]at hb;cases hb
theorem QS.high{es:Nat}{s:St}{v:AV}{rows:List (List AV)}(h:QS es s v rows){i:Nat}(hi:i<=rows.length):
   ∃v',(∀{R:Type}(c:aj)(K:AV->St->Option R)(s1:St),aq c (.sliceL es false true false) [v,.int .i64 (i:Int)] s1 K=K v' s1)/\∀{R:Type}(c:aj)(K:AV->St->Option R)(s1:St),aq c (.lenB .l) [v'] s1 K=K (.int .i64 (i:Int)) s1:=by
 rcases h with⟨rfl,rfl⟩|⟨b,off,cap,cs,rfl,g1,g2,g3,g4⟩|⟨b,off,rfl,rfl⟩
 .obtain rfl:i=0:=(by simpa using hi);exact⟨.af,λc K s1=>aS c K (λH n=>rfl) s1,λc K s1=>aS c K (λH n=>rfl) s1⟩
 .refine⟨.slice b (off+0*es) (i - 0) cap es,λc K s1=>aS c K (λH n=> ?_) s1,λc K s1=>aS c K (λH n=>rfl) s1⟩;simp only[aE.run,iL,am6,cK,cM,Zg6,Ze8,Zi9,Zi1];rcases g4 with rfl|rfl<;>simp[hi]
 .obtain rfl:i=0:=(by simpa using hi);refine⟨.slice b (off+0*es) 0 (some 0) es,λc K s1=>aS c K (λH n=> ?_) s1,λc K s1=>aS c K (λH n=>rfl) s1⟩;simp only[aE.run,iL,am6,cK,cM,Zg6,Ze8,Zi9,Za3,Zl0]
theorem QS.clear{es:Nat}{z:List AV}{s:St}{v:AV}{rows:List (List AV)}(h:QS es s v rows)(hw:Wf s)(hz:z.length=es)(h1:∀n,aN (bU z n)=true):
   ∃s',(∀{R:Type}(c:aj)(K:AV->St->Option R),aq c (.clearS es z) [v] s K=K .undef s')/\Wf s'/\s'.next=s.next/\∀p x,aK v≠some p->s.heap.get p=some x->s'.heap.get p=some x:=by
 rcases h with⟨rfl,rfl⟩|⟨b,off,cap,cs,rfl,g1,g2,g3,g4⟩|⟨b,off,rfl,rfl⟩
 .exact⟨s,λc K=>aS c K (λH n=>rfl) s,hw,rfl,λ_ _ _ h=>h⟩
 . by_cases h0:rows.length=0
   .refine⟨s,λc K=>aS c K (λH n=> ?_) s,hw,rfl,λ_ _ _ h=>h⟩;simp only[aE.run,sw,cK,h0,Zg6]
   . refine⟨bg s b (.cells (aQ cs off (bU z rows.length)) 0),λc K=> ?_,iG hw (hw _ _ g1),dH _ _ _,λp x hp hx=> ?_⟩
     .  have:aE.run (λb=>s.heap.get b) s.next (.clearS es z) [.slice b off rows.length cap es]=some (.bh .undef none (some (b,.cells (aQ cs off (bU z rows.length)) 0)) none):=by
         simp only[aE.run,sw,cK,Za2 h0,g1,cM,Za0 g2,Zi1,Zg6,h1]
        unfold aq cC;rw[this];rfl
     .  rw[aH (λe=>hp (by simp only[aK];rw[Za6 (by omega),e]))];exact hx
 .refine⟨s,λc K=>aS c K (λH n=> ?_) s,hw,rfl,λ_ _ _ h=>h⟩;simp[aE.run,sw,cK]
theorem QS.bare{es:Nat}{s:St}{v:AV}{rows:List (List AV)}(h:QS es s v rows):bM v:=by
 rcases h with⟨rfl,_⟩|⟨b,off,cap,cs,rfl,_⟩|⟨b,off,rfl,_⟩
 .exact bM.af
 .exact bM.slice _ _ _ _ _
 .exact bM.slice _ _ _ _ _
def emptyAt(s:St):St:={ heap:= .e,next:=s.next }
theorem abZ(s:St):Wf (emptyAt s):=λp x h=>by have h:(T.e:T AB).get p=some x:=h;rw[T.dN]at h;cases h
noncomputable def dc(s s1:St):St:={ heap:=T.both s.heap (CR s1.heap),next:=s1.next }
theorem ak4{s s1:St}{b:Pos}{x:AB}(h:s.heap.get b=some x):(dc s s1).heap.get b=some x:=by show(T.both _ _).get b=_;rw[T.Fz,h];rfl
theorem CU{s s1:St}(hw:Wf s){b:Pos}{x:AB}(hb:s.next.toNat<=b.toNat)(h:s1.heap.get b=some x)(hx:J5 x):(dc s s1).heap.get b=some x:=by
 show(T.both _ _).get b=_;have:s.heap.get b=none:=by
  cases e:s.heap.get b with
  |none=>rfl
  |some y=>have:=hw _ _ e;omega
 rw[T.Fz,this,am3 h hx];rfl
theorem ZI{s s1:St}(hw:Wf s)(h1:Wf s1)(hn:s.next.toNat<=s1.next.toNat):Grew s (dc s s1):=
 ⟨fun p x h=>by
  have h:(T.both s.heap (CR s1.heap)).get p=some x:=h;show p.toNat<s1.next.toNat;rw[T.Fz]at h;cases e:s.heap.get p with
  |some y=>have:=hw _ _ e;omega
  |none=>
   rw[e]at h;have h:(CR s1.heap).get p=some x:=(by simpa using h);exact h1 _ _ (aeA h).1,λp x h=>ak4 h,hn⟩
theorem Mk.dc{es:Nat}{s s1:St}{v:AV}{rows:List (List AV)}(hw:Wf s)(h:Mk es (emptyAt s) s1 v rows)(hb:∀r∈rows,∀x∈r,bM x):Mk es s (Go.Ai.dc s s1) v rows:=by
 have key:∀b x,aK v=some b->s1.heap.get b=some x->(Go.Ai.dc s s1).heap.get b=some x:=λb x dO hx=>by
  have t:=h.tight b dO;have wC:x= .cells rows.flatten 0:=by rw[t]at hx;exact(Zi5 hx).symm
  subst wC;exact CU hw (h.new b dO) t (λv hv=>by obtain⟨r,hr,hv⟩:=List.mem_flatten.1 hv;exact hb r hr v hv)
 exact⟨hw,ZI hw h.ai.wf h.ai.next,h.own.mono key,h.new,h.row,h.cap,λb dO=>key b _ dO (h.tight b dO)⟩
theorem am7{call:aj}{f:FuncId}{d:Nat}{args:List AV}{s:St}{v:AV}{s1:St}(h:call f (args.map (fT s d)) (emptyAt s)=some (v,s1))(hb:bM v)(hn:s.next.toNat<=s1.next.toNat):
 VT call f d args s=some (v,dc s s1):=ajQ h ⟨hb,hn⟩
section
variable{H:Type}(Ok:DataW H->Prop)(enc:TypeId×Value->H)(P:Program)(w:World)(base:Nat)(spare:Nat->Bool)(held:Bool)
variable{Ok enc P w base spare held}
end
end
section
open Go Go.WideShapes
section
variable{H:Type}(enc:TypeId×Value->H)(P:Program)(w:World)(base:Nat)(spare:Nat->Bool)(held:Bool)
variable{enc P w base spare held}
end
end
section
open Go
section
variable{c:aj}{R:Type}
theorem ag3{H:Pos->Option AB}{n:Pos}{k:IntKind}{a b:Int}(h1:0<=a)(h2:0<b):aE.run H n (.bin .rem .num) [.int k a,.int k b]=some (.val (.int k (a % b))):=by
 have e0:AZ b 0=false:=by rw[n9,Zn1];omega
 have e1:a.tmod b=a % b:=Int.tmod_eq_emod_of_nonneg h1;simp only[aE.run,js,o6,dG,e0,e1]
theorem ag4{H:Pos->Option AB}{n:Pos}{a b:Int}(h1:0<=a)(h3:a<=9223372036854775807)(h2:0<b):aE.run H n (.bin .quo .num) [.int .i64 a,.int .i64 b]=some (.val (.int .i64 (a / b))):=by
 have e0:AZ b 0=false:=by rw[n9,Zn1];omega
 have e1:a.tdiv b=a / b:=Zi4 h1;have e3:0<=a / b:=Zs0 h1 (by omega);have e4:a / b<=a:=Int.ediv_le_self b h1;have e2:ax .i64 (a / b)=a / b:=wrap64 (by omega) (by omega);simp only[aE.run,js,o6,dG,e0,e1,e2]
theorem apW{H:Pos->Option AB}{n:Pos}{a:Int}{i:Nat}(h:i<=64):aE.run H n (.bin .shr .num) [.int .i64 a,.int .i64 (i:Int)]=some (.val (.int .i64 (a / 2 ^ i))):=by
 have e0:A0 (i:Int) 0=false:=by rw[e8,Za2 (by omega)]
 have e1:min (i:Int).toNat (IntKind.bits .i64)=i:=by have:IntKind.bits .i64=64:=rfl;rw[this];omega
 simp only[aE.run,js,o6,e0,e1];rw[Zm9 _ (Int.le_of_lt (Int.pow_pos (by decide)))]
theorem cV{k:IntKind}{a b:Int}(h1:0<=a)(h2:0<b)(s:St)(K:AV->St->Option R):aq c (.bin .rem .num) [.int k a,.int k b] s K=K (.int k (a % b)) s:=aS c K (λH n=>ag3 h1 h2) s
theorem RO{k:IntKind}{a b:Int}(h1:0<=a)(h2:0<b)(K:AV->Option R):fq (.bin .rem .num) [.int k a,.int k b] K=K (.int k (a % b)):=cZ K (λH n=>ag3 h1 h2)
theorem iw{a b:Int}(h1:0<=a)(h3:a<=9223372036854775807)(h2:0<b)(s:St)(K:AV->St->Option R):aq c (.bin .quo .num) [.int .i64 a,.int .i64 b] s K=K (.int .i64 (a / b)) s:=aS c K (λH n=>ag4 h1 h3 h2) s
theorem ag5{a b:Int}(h1:0<=a)(h3:a<=9223372036854775807)(h2:0<b)(K:AV->Option R):fq (.bin .quo .num) [.int .i64 a,.int .i64 b] K=K (.int .i64 (a / b)):=cZ K (λH n=>ag4 h1 h3 h2)
theorem ag6{a:Int}{i:Nat}(h:i<=64)(s:St)(K:AV->St->Option R):aq c (.bin .shr .num) [.int .i64 a,.int .i64 (i:Int)] s K=K (.int .i64 (a / 2 ^ i)) s:=aS c K (λH n=>apW h) s
theorem BZ(i:Int)(s:St)(K:AV->St->Option R):aq c (.conv (.int .u8)) [.int .i64 i] s K=K (.int .u8 (ax .u8 i)) s:=aS c K (λH n=>rfl) s
theorem sP(i:Int)(k:IntKind)(s:St)(K:AV->St->Option R):aq c (.conv (.int .i64)) [.int k i] s K=K (.int .i64 (ax .i64 i)) s:=aS c K (λH n=>rfl) s
theorem ag7{x y:Int}(a b:Nat)(hx:x=(a:Int))(hy:y=(b:Int))(ha:a<256)(hb:b<256)(s:St)(K:AV->St->Option R):
  aq c (.buildSlice 1 2 [.int .u8 0] [0,1]) [.int .u8 x,.int .u8 y] s (λv t=>aq c (.conv .ofBytes) [v] t K)=K (.str [a,b]) (ah s (.cells [.int .u8 x,.int .u8 y] 0)):=by
 subst hx;subst hy;rw[show aq c (.buildSlice 1 2 [.int .u8 0] [0,1]) [.int .u8 (a:Int),.int .u8 (b:Int)] s (λv t=>aq c (.conv .ofBytes) [v] t K)=aq c (.conv .ofBytes) [.slice s.next 0 2 (some 2) 1] (ah s (.cells [.int .u8 (a:Int),.int .u8 (b:Int)] 0)) K from rfl];have:aE.run (λp=>(ah s (.cells [.int .u8 (a:Int),.int .u8 (b:Int)] 0)).heap.get p) (ah s (.cells [.int .u8 (a:Int),.int .u8 (b:Int)] 0)).next (.conv .ofBytes) [.slice s.next 0 2 (some 2) 1]=some (.val (.str [a,b])):=by
  have ha':Nat.blt a 256=true:=by simpa using ha
  have dO:Nat.blt b 256=true:=by simpa using hb
  simp only[aE.run,Fj,aA];show(match bytesOf [.int .u8 (.ofNat a),.int .u8 (.ofNat b)]with|some s=>some (eG.val (.str s))|none=>none)=_;simp only[bytesOf,ha',dO]
 unfold aq cC;rw[this]
end
theorem Mk.apX{s s':St}{l:List AV}(hi:∀u∈l,dP u)(hw:Wf s)(hg:Grew s s'):
   ∃fI,Go.Ai.tidy s (.agg l,s')=(.agg l,fI)/\Grew s fI/\(∀(es:Nat)(v:AV)(rows:List (List AV)),v∈l->Mk es s s' v rows->Mk es s fI v rows/\(fI=s'\/rows=[])):=by
 unfold Go.Ai.tidy;by_cases hp:Plain (AV.agg l,s').1/\aX s (AV.agg l,s').2
 . rw[Zb4 hp];refine⟨s,rfl,Grew.refl hw,λes v rows hm h=> ?_⟩;rcases h.loose with⟨b,off,n,rfl⟩|⟨hl,h0⟩
   .exact absurd hp.1 (ni hi hm)
   .exact⟨hl s h.jk,.inr h0⟩
 .rw[Za6 hp];exact⟨s',rfl,hg,λes v rows _ h=>⟨h,.inl rfl⟩⟩
theorem Mk.qO{es:Nat}{s0 s s':St}{v:AV}{rows:List (List AV)}(h:Mk es s0 s v rows)(hg:Grew s0 s')(hk:∀b x,aK v=some b->s.heap.get b=some x->s'.heap.get b=some x):Mk es s0 s' v rows:=
 ⟨h.jk,hg,h.own.mono hk,h.new,h.row,h.cap,λb hb=>hk b _ hb (h.tight b hb)⟩
theorem Mk.qP{es:Nat}{s0 s1 s s':St}{v:AV}{rows:List (List AV)}(h:Mk es s1 s v rows)(h0:Wf s0)(M7:Grew s0 s1)(hg:Grew s0 s')(hk:∀q b,s1.next.toNat<=q.toNat->s.heap.get q=some b->s'.heap.get q=some b):Mk es s0 s' v rows:=
 ⟨h0,hg,h.own.mono (λb x hb hx=>hk b x (h.new b hb) hx),λb hb=>Zb3 M7.next (h.new b hb),h.row,h.cap,λb hb=>hk b _ (h.new b hb) (h.tight b hb)⟩
end
section
open Go Go.WideShapes
theorem Gt{Q:List AV->Prop}{Qs:List (List AV->Prop)}{ps:List (List AV)}(h:RI (Q::Qs) ps):∃p qs,ps=p::qs/\Q p/\RI Qs qs:=by
 cases ps with
 |nil=>exact h.elim
 |cons p qs=>exact⟨p,qs,rfl,h⟩
theorem ag8{ps:List (List AV)}(h:RI [] ps):ps=[]:=by
 cases ps with
 |nil=>rfl
 |cons p qs=>exact h.elim
section
variable{H:Type}{enc:TypeId×Value->H}{P:Program}{w:World}{base:Nat}{spare:Nat->Bool}{held:Bool}
theorem adr{t e:TypeId}{Q:List AV->Prop}{r:Go.Reach}{b0:Nat}{v:Value}{d:DataW H}{p:List MemPlace}(ho:oX enc P w base spare held t Q)(ht:P.underlying t=some (.slice e))
  (hval:Value.okWide P w r b0 t v) (hd:DataW.Trod enc P w base spare held t v d p):∃as,Q as/\∀ρ n,aJ ρ n (λad=>w.cell? ad) as [v]:=by
 obtain⟨a,len,cap,rfl⟩:=okWide_slice ht hval;obtain⟨fuel,hf⟩:=hd;exact ho _ _ _ hf
end
end
noncomputable section
open Go
inductive Un where
 |z
 |s (n:Un)
def un:Nat->Un
 |0=>.z
 |n+1=>.s (un n)
inductive Tx where
 |bad
 |op (k:aE) (xs:List gX) (d:Option Pos) (t:Tx)
 |gop (g:Pos) (w:Bool) (k:aE) (xs:List gX) (d:Option Pos) (t:Tx)
 |dr (t:Tx)
 |pr (k:aE) (xs:List gX) (d:Option Pos) (t:Tx)
 |ZC (g:Pos) (w:Bool) (k:aE) (xs:List gX) (d:Option Pos) (t:Tx)
 |rd (b:List Bool) (k:aE) (xs:List gX) (d:Option Pos) (t:Tx)
 |ZD (g:Pos) (w:Bool) (b:List Bool) (k:aE) (xs:List gX) (d:Option Pos) (t:Tx)
 |nw (k:aE) (xs:List gX) (d:Option Pos) (t:Tx)
 |gnw (g:Pos) (w:Bool) (k:aE) (xs:List gX) (d:Option Pos) (t:Tx)
 |ef (k:aE) (xs:List gX) (d:Option Pos) (t:Tx)
 |gef (g:Pos) (w:Bool) (k:aE) (xs:List gX) (d:Option Pos) (t:Tx)
 |cnd (x:gX) (a b:Tx)
 |jn (l:List Pos) (a b:Tx)
 |jmp (i:Un) (l:List Pos)
 |arg (l:List Pos) (t:Tx) (r:Tx)
 |lp (j:Un) (ins:List Pos)
 |agn (ins:List Pos)
 |out (i:Un) (l:List Pos)
 |res (rs:List OC)
def txO:List bS->Tx->Tx
 |[],t=>t
 |  o::os,t=>match o.guard with
    |none=>.op o.k o.xs o.dst (txO os t)
    |some (p,w)=>.gop p w o.k o.xs o.dst (txO os t)
def bitsOf(cg:Nat):List Nat->List Bool
 |[]=>[]
 |i::is=>cg.testBit i::bitsOf cg is
def txD:List (Nat×bS)->List Nat->Tx->Tx
 |[],_,t=>t
 |  (j,o)::os,is,t=>match o.cls,o.guard with
    |.pure,none=>.pr o.k o.xs o.dst (txD os (j::is) t)
    |.pure,some (p,w)=> .ZC p w o.k o.xs o.dst (txD os (j::is) t)
    |.read,none=>.rd (bitsOf o.cg is) o.k o.xs o.dst (txD os (j::is) t)
    |.read,some (p,w)=> .ZD p w (bitsOf o.cg is) o.k o.xs o.dst (txD os (j::is) t)
    |.new,none=>.nw o.k o.xs o.dst (txD os (j::is) t)
    |.new,some (p,w)=>.gnw p w o.k o.xs o.dst (txD os (j::is) t)
    |.bh,none=>.ef o.k o.xs o.dst (txD os (j::is) t)
    |.bh,some (p,w)=>.gef p w o.k o.xs o.dst (txD os (j::is) t)
def txA(K:oE->Tx):List (Nat×List Pos)->Tx->Tx
 |[],t=>t
 |(e,l)::r,t=>.arg l (K (exOf e)) (txA K r t)
def tx:AC->Sh->Nat->(oE->Nat->Tx)->Tx
 |.skip,_,d,K=>K .normal d
 |.region ops,_,d,K=>txO ops (K .normal d)
 |.draw ops,_,d,K=>.dr (txD ops [] (K .normal d))
 |  .seq a b,s,d,K=>match s with
    | .seq none s t=>tx a s d λex d=>match ex with
      |.normal=>tx b t d K
      |.exit i=>K (.exit i) d
      |.ret=>K .ret d
    | .seq (some l) s t=>.jn l (tx a s (d+1) λex d'=>match ex with
      |.normal=>.jmp (un (d' - d - 1)) l
      |.exit i=>K (.exit i) d'
      |.ret=>K .ret d') (tx b t d K)
    |_=>.bad
 |  .cond x a b,s,d,K=>match s with
    |.cond s t=>.cnd x (tx a s d K) (tx b t d K)
    |_=>.bad
 |  .block id a,s,d,K=>match s with
    | .block s=>tx a s d λex d=>match ex with
      |.normal=>K .normal d
      | .exit i=>match Nat.beq i id with
        |true=>K .normal d
        |false=>K (.exit i) d
      |.ret=>K .ret d
    |_=>.bad
 |  .loop _,s,d,K=>match s with
    |.loop j ins outs _=>txA (λex=>K ex d) outs (.lp (un j) ins)
    |_=>.bad
 |.exit id,_,d,K=>K (.exit id) d
 |.ret,_,d,K=>K .ret d
def idxOf:List (Nat×List Pos)->Nat->Nat
 |[],_=>0
 |  (i,_)::r,e=>match Nat.beq i e with
    |true=>0
    |false=>idxOf r e+1
def txF(A:dM)(s:Sh):Tx:=tx A.code s 0 λex _=>match ex with
 |.normal=>.res A.results
 |.ret=>.res A.results
 |.exit _=>.bad
def txL(x:AC×Sh):List Pos×Tx:=match x.2 with
 |  .loop _ ins outs s=>(ins,tx x.1 s 0 λex _=>match ex with
    |.normal=>.agn ins
    |.exit i=>.out (un (idxOf outs (i+2))) (Yh outs (i+2))
    |.ret=>.out (un (idxOf outs 1)) (Yh outs 1))
 |_=>([],.bad)
section
variable{R:Type}
abbrev KK(R:Type):=List AV->St->Option R
abbrev O2:=Option (AV×St)
abbrev Q2:=KK (AV×St)
def EG:Unit:=(λ_=>()) (@den AV)
def Bl(p:Pos)(fr:Fr)(k:AV->Option R):Option R:=match fr.get p with
 |some v=>k v
 |none=>(λ_=>none) EG
def CV(p:Pos)(v:AV)(fr:Fr)(k:Fr->Option R):Option R:=(λ_=>k (fr.put (some v) p)) EG
def CW(d:Option Pos)(v:AV)(fr:Fr)(k:Fr->Option R):Option R:=match d with
 |some p=>CV p v fr k
 |none=>k fr
def Gu(fr:Fr):List gX->(List AV->Option R)->Option R
 |[],k=>k []
 |.t p::xs,k=>Bl p fr λv=>Gu fr xs λvs=>k (v::vs)
 |.c v::xs,k=>Gu fr xs λvs=>k (v::vs)
def getLT:List Pos->Fr->(List AV->Option R)->Option R
 |[],_,k=>k []
 |p::ps,fr,k=>Bl p fr λv=>getLT ps fr λvs=>k (v::vs)
def Gc:List Pos->List AV->Fr->(Fr->Option R)->Option R
 |[],vs,fr,k=>mo vs (k fr)
 |p::ps,vs,fr,k=>gV vs λv vs=>CV p v fr λfr=>Gc ps vs fr k
def ab0(p:Pos)(k:Pos->Option R):Option R:=(λ_=>k p.succ) EG
def aaI:Pos->List AV->Fr->(Fr->Option R)->Option R
 |_,[],fr,k=>k fr
 |p,v::vs,fr,k=>CV p v fr λfr=>ab0 p λp=>aaI p vs fr k
def kat:Un->List (KK R)->KK R
 |.z,k::_=>k
 |.s n,_::ks=>kat n ks
 |_,[]=>λ_ _=>none
def CX:List Bool->T AB->List RC->T AB
 |  b ::bs,h,r::rs=>match r with
    | .new id aM=>match b with
      |true=>(CX bs h rs).put (some aM) id
      |false=>CX bs h rs
    |.bh _ _=>h
    |.pure=>CX bs h rs
 |_,h,_=>h
def CY(k:aE)(xs:List AV)(v:AV):List (Pos×AB)->List Bool->List RC->Bool
 |  up,b::bs,r::rs=>match r with
    | .new id aM=>match b with
      |true=>CY k xs v ((id,aM)::up) bs rs
      |false=>CY k xs v up bs rs
    | .bh base _=>match b with
      |true=>true
      |false=>oR k xs v (nG up (CX bs base rs))&&CY k xs v up bs rs
    |.pure=>CY k xs v up bs rs
 |_,_,_=>true
def VV(fr:Fr)(st:St):List OC->(List AV->Option R)->Option R
 |[],k=>k []
 |.tmp p::rs,k=>Bl p fr λv=>VV fr st rs λvs=>k (v::vs)
 |.cell p n::rs,k=>Bl p fr λq=>ldr n q st λv=>VV fr st rs λvs=>k (v::vs)
def afV(as:List (KK R))(f:KK R)(k:List (KK R)->Option R):Option R:=(λ_=>k (as++[f])) EG
def pkR(vs:List AV)(st:St):Option (AV×St):=some (zf vs,st)
end
section
variable(c:aj)(F:Nat)(Ls:Un->List Q2->Nat->Q2)(ag:Q2)(ko:List Q2)
def evX(fr:Fr)(x:gX)(k:AV->Option (AV×St)):Option (AV×St):=match x with
 |.t p=>Bl p fr k
 |.c v=>k v
def ev:Tx->List (KK (AV×St))->List (KK (AV×St))->Fr->St->List RC->T AB->Option (AV×St)
 |.bad,_,_,_,_,_,_=>none
 |.op k xs d t,ks,as,fr,st,rs,b=>Gu fr xs λvs=>aq c k vs st λv st=>CW d v fr λfr=>ev t ks as fr st rs b
 |.gop g w k xs d t,ks,as,fr,st,rs,b=>Gu fr xs λvs=>Bl g fr λg=>qy c g w k vs st λv st=>CW d v fr λfr=>ev t ks as fr st rs b
 |.dr t,ks,as,fr,st,_,_=>ev t ks as fr st [] st.heap
 |.pr k xs d t,ks,as,fr,st,rs,b=>Gu fr xs λvs=>fq k vs λv=>CW d v fr λfr=>ev t ks as fr st (.pure::rs) b
 | .ZC g w k xs d t,ks,as,fr,st,rs,b=>Gu fr xs λvs=>Bl g fr λg=>ZC g w k vs λv=>CW d v fr λfr=>ev t ks as fr st (.pure::rs) b
 |.rd bs k xs d t,ks,as,fr,st,rs,b=>Gu fr xs λvs=>jt k vs (CX bs b rs) (λv=>CY k vs v [] bs rs) λv=>CW d v fr λfr=>ev t ks as fr st (.pure::rs) b
 | .ZD g w bs k xs d t,ks,as,fr,st,rs,b=>Gu fr xs λvs=>Bl g fr λg=>ZD g w k vs (CX bs b rs) (λv=>CY k vs v [] bs rs) λv=>CW d v fr λfr=>ev t ks as fr st (.pure::rs) b
 |.nw k xs d t,ks,as,fr,st,rs,b=>Gu fr xs λvs=>TA k vs st λv aM=>CW d v fr λfr=>ev t ks as fr (ah st aM) (.new st.next aM::rs) b
 |.gnw g w k xs d t,ks,as,fr,st,rs,b=>Gu fr xs λvs=>Bl g fr λg=>ZE g w (TA k vs st λv aM=>CW d v fr λfr=>ev t ks as fr (ah st aM) (.new st.next aM::rs) b) (CW d .undef fr λfr=>ev t ks as fr st (.pure::rs) b)
 |.ef k xs d t,ks,as,fr,st,rs,b=>Gu fr xs λvs=>aq c k vs st λv st'=>CW d v fr λfr=>ev t ks as fr st' (.bh b st'.heap::rs) st'.heap
 |.gef g w k xs d t,ks,as,fr,st,rs,b=>Gu fr xs λvs=>Bl g fr λg=>ZE g w (aq c k vs st λv st'=>CW d v fr λfr=>ev t ks as fr st' (.bh b st'.heap::rs) st'.heap) (CW d .undef fr λfr=>ev t ks as fr st (.pure::rs) b)
 |.cnd x t u,ks,as,fr,st,rs,b=>evX fr x λv=>cnd v (ev t ks as fr st rs b) (ev u ks as fr st rs b)
 |.jn l t u,ks,as,fr,st,rs,b=>dw (λk=>ev t (k::ks) as fr st rs b) (λvs st=>Gc l vs .e λfr=>ev u ks as fr st [] .e)
 |.jmp i l,ks,_,fr,st,_,_=>getLT l fr λvs=>kat i ks vs st
 |.arg l t r,ks,as,fr,st,rs,b=>afV as (λos st=>Gc l os .e λfr=>ev t ks [] fr st [] .e) λas=>ev r ks as fr st rs b
 |.lp j ins,_,as,fr,st,_,_=>getLT ins fr λvs=>Ls j as F vs st
 |.agn ins,_,_,fr,st,_,_=>getLT ins fr λvs=>ag vs st
 |.out i l,_,_,fr,st,_,_=>getLT l fr λvs=>kat i ko vs st
 |.res rs,_,_,fr,st,_,_=>VV fr st rs λvs=>pkR vs st
def dZ(p:List Pos×Tx)(vs:List AV)(st:St):Option (AV×St):=Gc p.1 vs .e λfr=>ev c F Ls ag ko p.2 [] [] fr st [] .e
end
def aZ{R:Type}:Un->List (KK R)->Nat->KK R:=λ_ _ _ _ _=>none
def fD{R:Type}:KK R:=λ_ _=>none
def bf(c:aj)(F:Nat)(Ls:Un->List Q2->Nat->Q2)(t:Tx)(args:List AV)(st:St):O2:=aaI .h args .e λfr=>ev c F Ls fD [] t [] [] fr st [] .e
def tI(Ls:Un->List Q2->Nat->Q2)(A:dM)(s:Sh):Env (AV×St):=λj K=>Ls (un j) ((lpO (iu A s j).2).map λo=>K o.1)
def sl:Sh:= .leaf
def sq(a b:Sh):Sh:= .seq none a b
def sj(l:List Nat)(a b:Sh):Sh:= .seq (some (l.map key)) a b
def sc(a b:Sh):Sh:= .cond a b
def sb(a:Sh):Sh:= .block a
def sp(j:Nat)(ins:List Nat)(outs:List (Nat×List Nat))(a:Sh):Sh:= .loop j (ins.map key) (outs.map λo=>(o.1,o.2.map key)) a
section
variable{R:Type}(l r:Fr)(v u:AV)(x:Option AV)(p:Pos)(fr:Fr)(k:AV->Option R)(K:Fr->Option R)(kp:Pos->Option R)
theorem VW:Bl .h (.n l (some v) r) k=k v:=rfl
theorem VX:Bl (.o p) (.n l x r) k=Bl p l k:=rfl
theorem VY:Bl (.i p) (.n l x r) k=Bl p r k:=rfl
theorem Ph:CV .h v .e K=K (.n .e (some v) .e):=rfl
theorem Pj:CV .h v (.n l x r) K=K (.n l (some v) r):=rfl
theorem Pk:CV (.o p) v .e K=CV p v .e λt=>K (.n t none .e):=rfl
theorem Pm:CV (.o p) v (.n l x r) K=CV p v l λt=>K (.n t x r):=rfl
theorem Pn:CV (.i p) v .e K=CV p v .e λt=>K (.n .e none t):=rfl
theorem Po:CV (.i p) v (.n l x r) K=CV p v r λt=>K (.n l x t):=rfl
theorem VZ:CW none v fr K=K fr:=rfl
theorem V8:CW (some p) v fr K=CV p v fr K:=rfl
theorem Pp:ab0 .h kp=kp (.o .h):=rfl
theorem Pq:ab0 (.o p) kp=kp (.i p):=rfl
theorem Pr:ab0 (.i p) kp=ab0 p λq=>kp (.o q):=rfl
theorem Pt(f:KK R)(k:List (KK R)->Option R):afV [] f k=k [f]:=rfl
theorem Pu(a:KK R)(as:List (KK R))(f:KK R)(k:List (KK R)->Option R):afV (a::as) f k=afV as f λl=>k (a::l):=rfl
theorem ab1(st:St):pkR [] st=some (.tuple [],st):=rfl
theorem ab2(st:St):pkR [v] st=some (v,st):=rfl
theorem ab3(vs:List AV)(st:St):pkR (v::u::vs) st=some (.tuple (v::u::vs),st):=rfl
theorem Gd(c:aj)(F:Nat)(Ls:Un->List Q2->Nat->Q2)(ag:Q2)(ko:List Q2)(l:List Pos)(t:Tx)(vs:List AV)(st:St):dZ c F Ls ag ko (l,t) vs st=Gc l vs .e λfr=>ev c F Ls ag ko t [] [] fr st [] .e:=rfl
end
def zB{α:Type}:Option α->Bool
 |none=>true
 |some _=>false
theorem atZ{α:Type}{o:Option α}(h:zB o=true):o=none:=by cases o with|none=>rfl|some _=>cases h
theorem at1{α:Type}[Inhabited α]{o:Option α}(h:zB o=false):o=some (o.getD default):=by cases o with|none=>cases h|some _=>rfl
def xN(G:T dM)(f:Nat):dM:=(G.get (key f)).getD default
theorem am8{O:eP}{G:T dM}{F:Nat}{L:Env (AV×St)}{f:FuncId}{s:Sh}{args:List AV}{st:St}{r:AV×St}(hk:(zB (O f)&& !zB (G.get (key f)))=true)
  (hL:∀x∈fM (xN G f).code s,CO (run O G) F L x.1 x.2) {k:O2} (hd:H6 (run O G) F L (xN G f) s args st=k) (h:k=some r):run O G f args st=some (tidy st r):=by
 simp only[Zb2,Zj7]at hk;exact apG (atZ hk.1) (at1 hk.2) hL (hd.trans h)
theorem ajU{O:eP}{G:T dM}{F:Nat}{f:FuncId}{args:List AV}{st:St}{r:AV×St}(s:Sh)(hk:(zB (O f)&& !zB (G.get (key f))&&(fM (xN G f).code s).isEmpty)=true)
  {k:O2} (hd:H6 (run O G) F (afS []) (xN G f) s args st=k) (h:k=some r):run O G f args st=some (tidy st r):=by
 rw[Zb2,List.isEmpty_iff]at hk;exact am8 hk.1 (by rw[hk.2];intro x hx;cases hx) hd h
theorem ads{O:eP}{G:T dM}{F:Nat}{f:FuncId}{args:List AV}{st:St}{r:AV×St}(Ls:Un->List Q2->Nat->Q2)(s:Sh)(n:Nat)(hk:(zB (O f)&& !zB (G.get (key f))&&Nat.beq (fM (xN G f).code s).length n)=true)
  (hL:∀i,i<n->CO (run O G) F (tI Ls (xN G f) s) (iu (xN G f) s i).1 (iu (xN G f) s i).2) {k:O2} (hd:H6 (run O G) F (tI Ls (xN G f) s) (xN G f) s args st=k) (h:k=some r):run O G f args st=some (tidy st r):=by
 rw[Zb2]at hk;exact am8 hk.1 (apH n hk.2 hL) hd h
theorem ajV {O:eP} {G:T dM}  {F:Nat}{f:FuncId}{args:List AV}{st:St}{r:AV×St}(Ls:Un->List Q2->Nat->Q2)(s:Sh)(hk:(zB (O f)&& !zB (G.get (key f))&&Nat.beq (fM (xN G f).code s).length 1)=true)
  (hs:(adj (iu (xN G f) s 0).2&&Nat.beq (lpJ (iu (xN G f) s 0).2) 0)=true) (h0:∀K' vs st,tI Ls (xN G f) s 0 K' 0 vs st=none)
  (h1:∀K' n vs st,tI Ls (xN G f) s 0 K' (n+1) vs st=Pa (den (run O G) F (tI Ls (xN G f) s) (iu (xN G f) s 0).1 (lpB (iu (xN G f) s 0).2)) (lpI (iu (xN G f) s 0).2) (lpO (iu (xN G f) s 0).2) K' (tI Ls (xN G f) s 0 K' n) vs st)
  {k:O2} (hd:H6 (run O G) F (tI Ls (xN G f) s) (xN G f) s args st=k) (h:k=some r):run O G f args st=some (tidy st r):=
 ads Ls s 1 hk (fun i hi=>by obtain rfl:i=0:=by omega
                             exact cH 0 hs h0 h1) hd h
end
section
open Go
theorem yB{R:Type}{Q:Option R->Prop}(P:(List AV->St->Option R)->Prop){A:(List AV->St->Option R)->Option R}{T:List AV->St->Option R}(hT:P T)(hA:∀j,P j->Q (A j)):Q (dw A T):=hA T hT
theorem B4{m:Nat}(h1:1<=m)(h2:m<=18):m=1\/m=2\/m=3\/m=4\/m=5\/m=6\/m=7\/m=8\/m=9\/m=10\/m=11\/m=12\/m=13\/m=14\/m=15\/m=16\/m=17\/m=18:=by omega
end
section
def cnt(n:Nat)(P:Nat->Bool):Nat:=match n with
 |0=>0
 |n+1=>cnt n P+if P n then 1 else 0
def vz(n:Nat)(f:Nat->Nat):Nat:=match n with
 |0=>0
 |n+1=>vz n f+f n
theorem V9:∀{n:Nat}{f g:Nat->Nat},(∀i,i<n->f i<=g i)->vz n f<=vz n g
 |0,_,_,_=>Za3 _
 |n+1,f,g,h=>by
  have ih:=V9 (n:=n) (f:=f) (g:=g) λi hi=>h i (by omega)
  have:=h n (by omega);unfold vz;omega
theorem zk{n:Nat}{f g:Nat->Nat}(h:∀i,i<n->f i=g i):vz n f=vz n g:=
 Nat.le_antisymm (V9 λi hi=>Zr6 (h i hi)) (V9 λi hi=>Zr6 (h i hi).symm)
theorem at2(n:Nat)(P:Nat->Bool):cnt n P<=n:=by
 induction n with
 |zero=>exact Za3 _
 |succ n ih=>unfold cnt;split<;>omega
def on(q:Nat->Int)(g:Nat):Bool:=decide (0<=q g)
inductive RM where
 |two (a b:Nat) (P:Int->Int->Bool)
 |one (a:Nat) (P:Int->Bool)
 |Pv (P:Nat->Nat->Int->Int->Bool)
 |qy (P:Nat->Int->Bool)
 |spk (f:(Nat->Int)->Nat)
 |iY (A:Nat->Bool)
 |fil (A:Nat->Bool) (m:Nat)
 |lim (A:Nat->Bool) (m:Nat)
structure JT where
 n:Nat
 T:Nat
 tab:Int->Nat
 host:Nat->Bool
section
variable(J:JT)(q:Nat->Int)
def JT.at(t:Nat)(g:Nat):Bool:=on q g&&J.tab (q g)==t
def JT.CZ:RM->Nat
 |.two a b P=>if on q a&&on q b&&P (q a) (q b)then 1 else 0
 |.one a P=>if on q a&&P (q a)then 1 else 0
 | .Pv P=>vz J.n λa=>cnt J.n λb=>decide (a<b)&&on q a&&on q b&&P a b (q a) (q b)
 |.qy P=>cnt J.n λg=>on q g&&P g (q g)
 |.spk f=>f q
 |.iY A=>vz J.T λt=>if A t&&decide (0<cnt J.n (J.at q t))&&decide (cnt J.n (λg=>J.at q t g&&J.host g)=0)then 1 else 0
 |.fil A m=>vz J.T λt=>if A t then m - cnt J.n (J.at q t)else 0
 |.lim A m=>vz J.T λt=>if A t then cnt J.n (J.at q t) - m else 0
end
section
variable{J:JT}{q p:Nat->Int}
end
def qz(tk:List Bool)(fr:Nat):Nat->Nat->Option Nat
 |0,_=>none
 |m+1,k=>if tk.getD ((fr+k) % tk.length) true=false then some ((fr+k) % tk.length)else qz tk fr m (k+1)
def qC(tk:List Bool)(fr:Nat):List Bool×Int:=match qz tk fr tk.length 0 with
 |some s=>(tk.set s true,(s:Int))
 |none=>(tk,-1)
theorem H8{tk:List Bool}{fr s:Nat}:∀{m k:Nat},qz tk fr m k=some s->tk[s]? =some false
 |0,_,h=>by cases h
 |m +1,k,h=>by
  unfold qz at h;split at h
  . rename_i e;cases h;cases e2:tk[(fr+k) % tk.length]? with
    |none=>rw[Za8,e2]at e;simp at e
    |some b=>rw[Za8,e2]at e;simp at e;rw[e]
  .exact H8 h
theorem TH{tk:List Bool}{fr:Nat}:∀{m k:Nat},qz tk fr m k=none->∀j,k<=j->j<k+m->tk.getD ((fr+j) % tk.length) true=true
 |0,_,_,j,h1,h2=>by omega
 |m +1,k,h,j,h1,h2=>by
  unfold qz at h;split at h
  .cases h
  . rename_i e;by_cases e2:j=k
    .subst e2;simpa using e
    .exact TH h j (by omega) (by omega)
def ab4(tk:List Bool):Nat:=(tk.filter λb=> !b).length
theorem aeE:∀{tk:List Bool},0<ab4 tk->∃s:Nat,tk[s]? =some false
 |[],h=>by simp[ab4]at h
 |false::tk,_=>⟨0,rfl⟩
 |true::tk,h=>by
  obtain⟨s,hs⟩:=aeE (tk:=tk) (by simpa [ab4]using h);exact⟨s+1,by simpa using hs⟩
theorem Bm(tk:List Bool)(fr:Nat):((qC tk fr).2= -1/\(qC tk fr).1=tk/\ab4 tk=0)\/∃s:Nat,qC tk fr=(tk.set s true,(s:Int))/\tk[s]? =some false:=by
 unfold qC;cases e:qz tk fr tk.length 0 with
 |some s=>exact .inr ⟨s,rfl,H8 e⟩
 |none=>
  refine .inl ⟨rfl,rfl,?_⟩;rcases Zn7 (ab4 tk)with h|h
  .exact h
  . exfalso;obtain⟨s,hs⟩:=aeE h;have hl:s<tk.length:=(Za1.1 hs).1;have key:=TH e ((s+tk.length - fr % tk.length) % tk.length) (Zi1 _) (by rw[Zb9];exact Zk8 _ (by omega));have hm:fr % tk.length<tk.length:=Zk8 _ (by omega);have:(fr+(s+tk.length - fr % tk.length) % tk.length) % tk.length=s:=by
        rw[Nat.add_mod,Nat.mod_mod];rcases Zj2 (s+tk.length - fr % tk.length) tk.length with h1|h1
        .rw[Zl1 h1];rw[show fr % tk.length+(s+tk.length - fr % tk.length)=s+tk.length by omega,Nat.add_mod_right,Zl1 hl]
        .rw[Zq6 h1,Zl1 (by omega:s+tk.length - fr % tk.length - tk.length<tk.length)];rw[show fr % tk.length+(s+tk.length - fr % tk.length - tk.length)=s by omega,Zl1 hl]
    rw[this,Za8,hs]at key;simp at key
inductive Ch where
 |no
 |Wc (s:Nat)
 |fr (f:Nat)
def gY(tk:List Bool):List Ch->List Int
 |[]=>[]
 |.no::l=> -1::gY tk l
 | .Wc s::l=>(s:Int)::gY tk l
 |.fr f::l=>(qC tk f).2::gY (qC tk f).1 l
theorem RP:∀(l:List Ch)(tk:List Bool),(gY tk l).length=l.length
 |[],_=>rfl
 |.no::l,tk=>by simp[gY,RP l]
 | .Wc s::l,tk=>by simp[gY,RP l]
 |.fr f::l,tk=>by simp[gY,RP l]
theorem am9(tk:List Bool)(f:Nat):(qC tk f).1.length=tk.length:=by rcases Bm tk f with⟨_,h,_⟩|⟨s,h,_⟩<;>rw[h]<;>simp
def Sat(tk:List Bool)(l:List Ch):Prop:=(∀s,Ch.Wc s∈l->tk[s]? =some true)/\∀(i j s:Nat),l[i]? =some (.Wc s)->l[j]? =some (.Wc s)->i=j
theorem Sat.tail{tk:List Bool}{c:Ch}{l:List Ch}(h:Sat tk (c::l)):Sat tk l:=
 ⟨λs hs=>h.1 s (Zb0 _ hs),λi j s h1 h2=>by have:=h.2 (i+1) (j+1) s (by simpa using h1) (by simpa using h2);omega⟩
theorem Sat.place{tk:List Bool}{l:List Ch}(h:Sat tk l)(f:Nat):Sat (qC tk f).1 l:=by
 refine⟨λs hs=> ?_,h.2⟩;have:=h.1 s hs;rcases Bm tk f with⟨_,e,_⟩|⟨s',e,h'⟩<;>rw[e]
 .exact this
 . by_cases e2:s'=s
   .subst e2;rw[h']at this;cases this
   .rw[Ze4 e2];exact this
theorem B5:∀(l:List Ch)(tk:List Bool),Sat tk l->∀(i:Nat)(v:Int),(gY tk l)[i]? =some v->v= -1\/∃s:Nat,v=(s:Int)/\(tk[s]? =some false\/(tk[s]? =some true/\l[i]? =some (.Wc s)))
 |[],_,_,i,v,h=>by simp[gY]at h
 |c::l,tk,hs,0,v,h=>by
  cases c with
  |no=>simp[gY]at h;exact .inl h.symm
  |Wc s=>simp[gY]at h;exact .inr ⟨s,h.symm,.inr ⟨hs.1 s (Zd6),rfl⟩⟩
  |fr f=>
   simp[gY]at h;rcases Bm tk f with⟨e,_,_⟩|⟨s,e,h'⟩
   .    exact .inl (by rw[<-h,e])
   .    exact .inr ⟨s,by rw[<-h,e],.inl h'⟩
 |c::l    ,tk,hs,i+1,v,h=>by
  cases c with
  |no=>simpa using B5 l tk hs.tail i v (by simpa [gY]using h)
  |Wc s=>simpa using B5 l tk hs.tail i v (by simpa [gY]using h)
  |fr f=>
   have h:(gY (qC tk f).1 l)[i]? =some v:=(by simpa [gY]using h);rcases B5 l _ (hs.tail.place f) i v h with e|⟨s,e,h'⟩
   .    exact .inl e
   .    refine .inr ⟨s,e,?_⟩;rcases Bm tk f with⟨_,e2,_⟩|⟨s',e2,h2⟩<;>rw[e2]at h'
        .simpa using h'
        . by_cases e3:s'=s
          .subst e3;exact .inl h2
          .rw[Ze4 e3]at h';simpa using h'
theorem J6:∀(l:List Ch)(tk:List Bool),Sat tk l->∀(i j:Nat)(v:Int),i<j->(gY tk l)[i]? =some v->(gY tk l)[j]? =some v->v= -1
 |[],_,_,i,j,v,_,h,_=>by simp[gY]at h
 |c::l    ,tk,hs,0,j+1,v,_,h1,h2=>by
  cases c with
  |no=>simp[gY]at h1;exact h1.symm
  |Wc s=>
   simp[gY]at h1;rcases B5 l tk hs.tail j v (by simpa [gY]using h2)with e|⟨s',e,h'|h'⟩
   .    exact e
   .    have:=hs.1 s (Zd6);obtain rfl:s'=s:=(by omega);rw[this]at h';cases h'
   .    obtain rfl:s'=s:=(by omega);have:=hs.2 0 (j+1) s' rfl (by simpa using h'.2);omega
  |fr f=>
   simp[gY]at h1;have h2:(gY (qC tk f).1 l)[j]? =some v:=(by simpa [gY]using h2);rcases Bm tk f with⟨e,_,_⟩|⟨s,e,h'⟩
   .    rw[<-h1,e]
   .    rcases B5 l _ (hs.tail.place f) j v h2 with e2|⟨s',e2,h3|h3⟩
        .exact e2
        .rw[e]at h1 h3;obtain rfl:s'=s:=(by simp at h1;omega);have hl:=(Za1.1 h').1;simp[Zf3 hl]at h3
        .rw[e]at h1;obtain rfl:s'=s:=(by simp at h1;omega);have:=hs.tail.1 s' (Zc1 h3.2);rw[h']at this;cases this
 |c::l,tk,hs,i+1,j+1,v,VU,h1,h2=>by
  cases c with
  |no=>exact J6 l tk hs.tail i j v (by omega) (by simpa [gY]using h1) (by simpa [gY]using h2)
  |Wc s=>exact J6 l tk hs.tail i j v (by omega) (by simpa [gY]using h1) (by simpa [gY]using h2)
  |fr f=>exact J6 l _ (hs.tail.place f) i j v (by omega) (by simpa [gY]using h1) (by simpa [gY]using h2)
def looks:List Ch->Nat
 |[]=>0
 |.fr _::l=>looks l+1
 |_::l=>looks l
end
section
open Go
section
variable{R:Type}{c:aj}
theorem asr{v z:AV}{n N k:Nat}(hk:k<=n):cut (List.replicate n v++List.replicate N z) 0 k=some (List.replicate k v):=by
 unfold cut;rw[cM,Za0 (by simp;omega)];simp only[Ze6];rw[Zk7 (by simpa using hk),List.take_replicate,Zl6 hk]
theorem ak5{v z:AV}{n m k:Nat}:aQ (List.replicate n v++List.replicate m z) n (List.replicate k v)=List.replicate (n+k) v++List.replicate (m - k) z:=by unfold aQ;rw[Zk7 (by simp),Ze9 (by simp)];rw[<-Zf7,List.replicate_append_replicate];congr 1;rw[List.drop_append];simp
theorem RT{v:AV}(hv:v.one=true):∀k,aN (List.replicate k v)=true
 |0=>rfl
 |k+1=>by rw[Zn2];unfold aN;rw[hv];exact RT hv k
theorem ag9{b:Pos}{v z:AV}{n m:Nat}{cp Iz:Option Nat}(hn:0<n)(hm:0<m)(hv:v.one=true){s:St}(h:s.heap.get b=some (.cells (List.replicate n v++List.replicate m z) 0))(K:AV->St->Option R):
  aq c (.copyB 1) [.slice b n m cp 1,.slice b 0 n Iz 1] s K=K (.int .i64 ((min n m:Nat):Int)) (bg s b (.cells (List.replicate (n+min n m) v++List.replicate (m - min n m) z) 0)):=by
 have e:aE.run (λb=>s.heap.get b) s.next (.copyB 1) [.slice b n m cp 1,.slice b 0 n Iz 1]=some (.bh (Kz (min n m)) none (some (b,.cells (List.replicate (n+min n m) v++List.replicate (m - min n m) z) 0)) none):=by
  show o7 (λb=>s.heap.get b) s.next 1 [.slice b n m cp 1,.slice b 0 n Iz 1]=_;unfold o7;simp only[dR];rw[cK,Za2 (by omega)];simp only;have hf:cX 1 (min n m) (λb=>s.heap.get b) (.slice b 0 n Iz 1)=some (List.replicate (min n m) v):=by
   unfold cX;rw[cK,Za2 (by omega)];simp only;rw[h];simp only[Zn8];exact asr (Nat.min_le_left _ _)
  rw[h,hf];simp only;rw[cM,Za0 (by simp;omega),cM,Za0 (Zi1 _),RT hv];simp only;rw[ak5]
 unfold aq cC;rw[e];rfl
theorem aaJ{n:Int}(h0:0<=n)(h1:n<4294967296)(s:St)(K:AV->St->Option R):aq c (.bin .and .num) [.int .u64 n,.int .u64 4294967295] s K=K (.int .u64 n) s:=by
 obtain⟨m,rfl⟩:=Int.eq_ofNat_of_zero_le h0;have hm:m<4294967296:=by omega
 have e:(IntKind.u64.wrap ((BitVec.ofInt IntKind.u64.bits (m:Int) &&& BitVec.ofInt IntKind.u64.bits 4294967295).toNat:Int))=(m:Int):=by
  have e1:(BitVec.ofInt 64 (m:Int) &&& BitVec.ofInt 64 4294967295).toNat=m:=by
   rw[BitVec.toNat_and];have a:(BitVec.ofInt 64 (m:Int)).toNat=m:=(by rw[BitVec.toNat_ofInt];omega);have b:(BitVec.ofInt 64 4294967295).toNat=2 ^ 32 - 1:=(by decide);rw[a,b,Nat.and_two_pow_sub_one_eq_mod,Zl1 (by omega)]
  show IntKind.u64.wrap (((BitVec.ofInt 64 (m:Int) &&& BitVec.ofInt 64 4294967295).toNat:Nat):Int)=_;rw[e1];simp only[IntKind.wrap,show IntKind.u64.bits=64 from rfl];have hs:IntKind.u64.signed=false:=rfl;simp only[hs,Bool.false_and,Zf4,Zh0];omega
 refine aS c K (λH n=> ?_) s;show(o6 .and .num (.int .u64 (m:Int)) (.int .u64 4294967295)).map eG.val=_;unfold o6;simp only[dG];rw[e];rfl
end
theorem apZ{R:Type}(K:AV->Option R){b:Pos}{off len es es':Nat}{cap:Option Nat}{k:IntKind}{i:Nat}(h:i<len):fq (.idxA es none) [.slice b off len cap es',.int k (i:Int)] K=K (.ptr b (off+i*es)):=
 cZ K (λH n=>by
  simp only[aE.run,rX,ju];have:Nat.blt i len=true:=by rw[Zr5];exact h
  rw[this])
end
section
abbrev Ev:=Nat×List Int
def nM(l:List Ev):Nat:=(l.map λe=>e.1).sum
def fu(l:List Ev):Nat:=(l.map λe=>e.1+e.2.length).sum
theorem adt(l m:List Ev):nM (l++m)=nM l+nM m:=by unfold nM;rw[Zc8,Zs1]
theorem Kt(l m:List Ev):fu (l++m)=fu l+fu m:=by unfold fu;rw[Zc8,Zs1]
theorem ass(k:Nat)(w:List Int):nM [(k,w)]=k:=rfl
def bX(f:Nat->List Ev):Nat->Nat->List Ev
 |0,_=>[]
 |m+1,k=>f k++bX f m (k+1)
theorem ab5(f:Nat->List Ev):∀m k,bX f (m+1) k=bX f m k++f (k+m)
 |0,k=>by simp[bX]
 |m+1,k=>by
  have:=ab5 f m (k+1);rw[bX,this,bX,Zf7,show k+1+m=k+(m+1)by omega]
theorem FC(f:Nat->List Ev):∀n,nM (bX f n 0)=vz n λi=>nM (f i)
 |0=>rfl
 |n+1=>by rw[ab5,adt,FC f n,Zb9];rfl
theorem Aq{f:Nat->List Ev}{B:Nat}(h:∀k,fu (f k)<=B):∀m k,fu (bX f m k)<=m*B
 |0,_=>by simp[bX,fu]
 |m+1,k=>by have:=Aq h m (k+1);have:=h k;rw[bX,Kt,Zh4];omega
theorem ajW(n:Nat)(P:Nat->Bool):(vz n λi=>if P i then 1 else 0)=cnt n P:=by
 induction n with
 |zero=>rfl
 |succ n ih=>unfold vz cnt;rw[ih]
def JT.who(J:JT)(q:Nat->Int)(t:Nat):List Int:=((List.range J.n).filter (J.at q t)).map λ(g:Nat)=>(g:Int)
theorem aha(n:Nat)(P:Nat->Bool):cnt (n+1) P=cnt n P+if P n then 1 else 0:=rfl
theorem Wd(P:Nat->Bool):∀n,((List.range n).filter P).length=cnt n P
 |0=>rfl
 |n+1=>by
  rw[Zg2,Zk4,Zd8,Wd P n,aha];cases e:P n<;>simp[e]
theorem JT.adu(J:JT)(q:Nat->Int)(t:Nat):(J.who q t).length=cnt J.n (J.at q t):=by unfold JT.who;rw[Za5,Wd]
theorem ast(P Q:Nat->Bool)(n:Nat):((List.range n).filter P).any Q=decide (0<cnt n λg=>P g&&Q g):=by
 induction n with
 |zero=>rfl
 |succ n ih=>
  rw[Zg2,Zk4,List.any_append,ih,aha];cases e:P n<;>cases e2:Q n<;>simp[e,e2]
section
variable(J:JT)(q:Nat->Int)
def tU(b:Bool)(k:Nat)(w:List Int):List Ev:=if b then [(k,w)]else []
theorem KU(b:Bool)(k:Nat)(w:List Int):nM (tU b k w)=if b then k else 0:=by unfold tU;split<;>rfl
theorem Gv(b:Bool)(k:Nat)(w:List Int):fu (tU b k w)<=k+w.length:=by unfold tU;split<;>simp[fu]
def uw(P:Nat->Nat->Int->Int->Bool)(a b:Nat):List Ev:=tU (on q a&&on q b&&P a b (q a) (q b)) 1 [(a:Int),(b:Int)]
def vC(a b:Nat)(P:Int->Int->Bool):List Ev:=tU (on q a&&on q b&&P (q a) (q b)) 1 [(a:Int),(b:Int)]
def FD(a:Nat)(P:Int->Bool):List Ev:=tU (on q a&&P (q a)) 1 [(a:Int)]
def ux(n:Nat)(P:Nat->Nat->Int->Int->Bool):List Ev:=bX (λa=>bX (uw q P a) (n - (a+1)) (a+1)) n 0
def Bn(n:Nat)(P:Nat->Int->Bool):List Ev:=bX (λg=>tU (on q g&&P g (q g)) 1 [(g:Int)]) n 0
def aaK(T:Nat)(A:Nat->Bool)(D:List Int->List Ev):List Ev:=bX (λt=>if A t then D (J.who q t)else []) T 0
def KV(host:Nat->Bool)(l:List Int):List Ev:=tU (!(l.any λg=>host g.toNat)&&decide (0<l.length)) 1 l
def NS(m:Nat)(l:List Int):List Ev:=tU (decide (l.length<m)) (m - l.length) l
def KW(m:Nat)(l:List Int):List Ev:=tU (decide (m<l.length)) (l.length - m) l
end
section
variable{J:JT}{q:Nat->Int}
theorem Px(a b:Nat)(P:Int->Int->Bool):nM (vC q a b P)=J.CZ q (.two a b P):=KU _ _ _
theorem ahb(a:Nat)(P:Int->Bool):nM (FD q a P)=J.CZ q (.one a P):=KU _ _ _
theorem aeF(f:Nat->List Ev):∀m k,nM (bX f m k)+vz k (λi=>nM (f i))=vz (k+m) λi=>nM (f i)
 |0,k=>by simp[bX,nM]
 |m+1,k=>by
  have:=aeF f m (k+1);rw[bX,adt];rw[show k+(m+1)=k+1+m by omega, <-this];show _=_+(vz k _+nM (f k))
  omega
theorem Py(P:Nat->Nat->Int->Int->Bool):nM (ux q J.n P)=J.CZ q (.Pv P):=by
 unfold ux;rw[FC];refine zk λa ha=> ?_
 have h1:=aeF (λb=>if a<b then uw q P a b else []) (J.n - (a+1)) (a+1);have h2:vz (a+1) (λi=>nM (if a<i then uw q P a i else []))=0:=by
   have:∀m,m<=a+1->vz m (λi=>nM (if a<i then uw q P a i else []))=0:=λm=>by
    induction m with
    |zero=>intro _;rfl
    |succ m ih=>intro hm;unfold vz;rw[ih (by omega),Za6 (by omega)];rfl
   exact this _ (Za3 _)
 have h3:∀m k,a<k->bX (λb=>if a<b then uw q P a b else []) m k=bX (uw q P a) m k:=λm=>by
   induction m with
   |zero=>intro k _;rfl
   |succ m ih=>intro k hk;rw[bX,bX,Zb4 hk,ih (k+1) (by omega)]
 rw[h3 _ _ (by omega),h2,Zf5,show a+1+(J.n - (a+1))=J.n by omega]at h1;rw[h1, <-ajW];refine zk λb _=> ?_
 unfold uw;by_cases h:a<b
 .rw[Zb4 h,KU,Za0 h,Zg5]
 .rw[Za6 h,Za2 h];rfl
theorem adv(P:Nat->Int->Bool):nM (Bn q J.n P)=J.CZ q (.qy P):=by unfold Bn;rw[FC];show _=cnt J.n _;rw[<-ajW];exact zk λg _=>KU _ _ _
theorem asu(A:Nat->Bool):nM (aaK J q J.T A (KV J.host))=J.CZ q (.iY A):=by
 unfold aaK;rw[FC];refine zk λt _=> ?_
 cases hA:A t with
 |false=>simp[nM]
 |true=>
  simp only[Zh1,Zg5];unfold KV;rw[KU,J.adu];have:(J.who q t).any (λg=>J.host g.toNat)=decide (0<cnt J.n λg=>J.at q t g&&J.host g):=by unfold JT.who;rw[List.any_map];exact ast _ _ _
  rw[this];by_cases h:0<cnt J.n λg=>J.at q t g&&J.host g
  .rw[Za0 h,Za2 (show ¬cnt J.n (λg=>J.at q t g&&J.host g)=0 by omega)];simp
  .rw[Za2 h,Za0 (show cnt J.n (λg=>J.at q t g&&J.host g)=0 by omega)];simp
theorem asv(A:Nat->Bool)(m:Nat):nM (aaK J q J.T A (NS m))=J.CZ q (.fil A m):=by
 unfold aaK;rw[FC];refine zk λt _=> ?_
 cases hA:A t with
 |false=>simp[nM]
 |true=>
  simp only[Zh1];unfold NS;rw[KU,J.adu];simp only[Ze7];split<;>omega
theorem asw(A:Nat->Bool)(m:Nat):nM (aaK J q J.T A (KW m))=J.CZ q (.lim A m):=by
 unfold aaK;rw[FC];refine zk λt _=> ?_
 cases hA:A t with
 |false=>simp[nM]
 |true=>
  simp only[Zh1];unfold KW;rw[KU,J.adu];simp only[Ze7];split<;>omega
end
theorem ajX(q:Nat->Int)(C:Int->Bool)(P:Nat->Nat->Int->Int->Bool)(a:Nat):∀m k,bX (uw q (λa b x y=>C x&&P a b x y) a) m k=if on q a&&C (q a)then bX (uw q P a) m k else []
 |0,k=>by simp[bX]
 |m+1,k=>by
  rw[bX,ajX q C P a m (k+1),bX];unfold uw;cases e1:on q a<;>cases e2:C (q a)<;>simp[tU,e1,e2]
theorem qQ(k:Nat)(w:List Int):tU true k w=[(k,w)]:=rfl
theorem eu(k:Nat)(w:List Int):tU false k w=[]:=rfl
def A5(tab:Nat->Nat)(t:Nat):Nat->Nat
 |0=>0
 |i+1=>if tab i=t then A5 tab t i else i+1
end
section
open Go
structure Rd(s:St)(es:Nat)(L:AV)(i:Nat)(b:Pos)(o:Nat)(r:List AV):Prop where
 st:∀{R:Type}(c:aj)(K:AV->St->Option R)(k:IntKind)(s1:St),aq c (.idxA es none) [L,.int k (i:Int)] s1 K=K (.ptr b o) s1
 pr:∀{R:Type}(K:AV->Option R)(k:IntKind),fq (.idxA es none) [L,.int k (i:Int)] K=K (.ptr b o)
 at':∀(j:Nat)(u:AV),r[j]? =some u->((cellsOf (s.heap.get b)).bind λcs=>cs[o+j]?)=some u
 all:((cellsOf (s.heap.get b)).bind λcs=>cut cs o es)=some r
theorem QS.rd{s:St}{es:Nat}{v:AV}{rows:List (List AV)}(h:QS es s v rows)(hr:∀r∈rows,r.length=es){i:Nat}{r:List AV}(hi:rows[i]? =some r):∃b o,Rd s es v i b o r:=by
 obtain⟨gJ,rfl⟩:=Za1.1 hi;have hlen:=hr _ (Zb8 gJ);rcases h with⟨rfl,h⟩|⟨b,off,cap,cs,rfl,g1,g2,g3,g4⟩|⟨b,off,rfl,h⟩
 .rw[h]at gJ;simp at gJ
 rotate_left
 .rw[h]at gJ;simp at gJ
 have hmul:(i+1)*es<=rows.length*es:=Zh3 _ gJ;rw[Zh4]at hmul;have at0:∀(j:Nat)(u:AV),rows[i][j]? =some u->cs[off+i*es+j]? =some u:=λj u hj=>by have hj2:j<es:=(by rw[<-hlen];exact(Za1.1 hj).1);have:=Go.Ai.yy hr i j rows[i] u (H0 gJ) hj;rw[<-g3,Ze3,Zb4 (by omega),Ze5]at this;rw[<-this];congr 1;omega
 refine⟨b,off+i*es,λc K k s1=>iR c K s1 gJ,λK k=>apZ K gJ,λj u hj=>by rw[g1];exact at0 j u hj,?_⟩;rw[g1];show cut cs (off+i*es) es=some rows[i];unfold cut;rw[cM,Za0 (by omega)];refine congrArg some ?_;apply Zi3;intro j;by_cases hj:j<es
 .rw[Ze3,Zb4 hj,Ze5];exact(at0 j (rows[i]'gJ)[j] (H0 (by omega))).trans (H0 (by omega)).symm
 .rw[Zc2 (by simp;omega),Zc2 (by omega)]
theorem Rd.one{s:St}{L x:AV}{i:Nat}{b:Pos}{o:Nat}(h:Rd s 1 L i b o [x]):((cellsOf (s.heap.get b)).bind λcs=>cs[o]?)=some x:=h.at' 0 x rfl
theorem QS.KY{s:St}{v:AV}{l:List AV}(h:QS 1 s v (l.map oe)){i:Nat}{x:AV}(hx:l[i]? =some x):∃b o,Rd s 1 v i b o [x]:=
 h.rd (ag0 l) (by rw[Zb7,hx];rfl)
def RQ(s:St)(L:AV)(rows:List (List AV)):Prop:=∃ws:List AV,QS 1 s L (ws.map oe)/\ws.length=rows.length/\∀(i:Nat)(w:AV)(r:List AV),ws[i]? =some w->rows[i]? =some r->QS 1 s w (r.map oe)
theorem RQ.rd{s:St}{L:AV}{rows:List (List AV)}(h:RQ s L rows){i:Nat}{r:List AV}(hr:rows[i]? =some r):∃w b o,Rd s 1 L i b o [w]/\QS 1 s w (r.map oe):=by
 obtain⟨ws,h1,h2,h3⟩:=h;have hi:i<ws.length:=by rw[h2];exact(Za1.1 hr).1
 obtain⟨b,o,h4⟩:=h1.KY (H0 hi);exact⟨ws[i],b,o,h4,h3 i _ r (H0 hi) hr⟩
theorem RQ.ai{s s':St}{L:AV}{rows:List (List AV)}(h:RQ s L rows)(g:Grew s s'):RQ s' L rows:=by
 obtain⟨ws,h1,h2,h3⟩:=h;exact⟨ws,h1.mono λb x _ hx=>g.get hx,h2,λi w r a b=>(h3 i w r a b).mono λb x _ hx=>g.get hx⟩
theorem QS.ai{es:Nat}{s s':St}{v:AV}{rows:List (List AV)}(h:QS es s v rows)(g:Grew s s'):QS es s' v rows:=h.mono λb x _ hx=>g.get hx
section
variable{c:aj}{R:Type}
theorem Ym{x:Int}(h1:0<=x)(h2:x<=18446744073709551615):ax .u64 x=x:=by
 unfold ax loI hiI;simp only;split
 . split
   .rfl
   .contradiction
 .contradiction
theorem aaL{a:Int}(h0:0<=a)(h1:a<4294967296)(s:St)(K:AV->St->Option R):aq c (.bin .shr .num) [.int .u64 a,.int .u64 32] s K=K (.int .u64 0) s:=aS c K (λH n=>by
 have e0:A0 (32:Int) 0=false:=by rw[e8];rfl
 have e1:min (32:Int).toNat (IntKind.bits .u64)=32:=rfl;simp only[aE.run,js,o6,e0,e1];rw[Zm9 _ (by decide)];rw[show(2:Int) ^ 32=4294967296 from rfl,Int.ediv_eq_zero_of_lt h0 h1]
 ) s
theorem aiX{v z:AV}{m k:Nat}:aQ (List.replicate m z) 0 (List.replicate k v)=List.replicate k v++List.replicate (m - k) z:=by unfold aQ;simp
theorem ahc{b b2:Pos}{v z:AV}{m:Nat}{cp Iz:Option Nat}(hm:0<m)(hv:v.one=true){s:St}(h:s.heap.get b=some (.cells (List.replicate m z) 0))(h2:s.heap.get b2=some (.cells [v] 0))(K:AV->St->Option R):
  aq c (.copyB 1) [.slice b 0 m cp 1,.slice b2 0 1 Iz 1] s K=K (.int .i64 1) (bg s b (.cells (List.replicate 1 v++List.replicate (m - 1) z) 0)):=by
 have e:aE.run (λb=>s.heap.get b) s.next (.copyB 1) [.slice b 0 m cp 1,.slice b2 0 1 Iz 1]=some (.bh (Kz 1) none (some (b,.cells (List.replicate 1 v++List.replicate (m - 1) z) 0)) none):=by
  show o7 (λb=>s.heap.get b) s.next 1 [.slice b 0 m cp 1,.slice b2 0 1 Iz 1]=_;unfold o7;simp only[dR];have akK:min m 1=1:=by omega
  rw[show min 1 m=1 by omega,cK,Za2 (by omega)];simp only;have hf:cX 1 1 (λb=>s.heap.get b) (.slice b2 0 1 Iz 1)=some (List.replicate 1 v):=by unfold cX;rw[cK,Za2 (by omega)];simp only;rw[h2];exact cQ rfl
  rw[h,hf];simp only;rw[cM,Za0 (by simp;omega),cM,Za0 (Zi1 _),RT hv];simp only;rw[aiX]
 unfold aq cC;rw[e];rfl
theorem ana{b:Pos}{N n:Nat}(h:n<=N)(k:IntKind)(K:AV->Option R):fq (.sliceL 1 true false false) [.slice b 0 N (some N) 1,.int k (n:Int)] K=K (.slice b n (N - n) (some (N - n)) 1):=cZ K (λH m=>by
 have hb:bounds true false false [.int k (n:Int)]=some (some n,none,none):=by simp[bounds,ju]
 simp only[aE.run,iL,hb,cK,cM,Zg6,Ze8,Zi9,Za0 h,Za3];simp)
theorem anb{b:Pos}{N n:Nat}(h:n<=N)(k:IntKind)(K:AV->Option R):fq (.sliceL 1 false true false) [.slice b 0 N (some N) 1,.int k (n:Int)] K=K (.slice b 0 n (some N) 1):=cZ K (λH m=>by
 have hb:bounds false true false [.int k (n:Int)]=some (none,some n,none):=by simp[bounds,ju]
 simp only[aE.run,iL,hb,cK,cM,Zg6,Ze8,Zi9,Zi1,Za0 h]
 all_goals simp)
theorem afc{b b2:Pos}{cp Iz:Option Nat}{n:Nat}(s:St)(K:AV->St->Option R):aq c (.copyB 1) [.slice b 0 0 cp 1,.slice b2 0 n Iz 1] s K=K (.int .i64 0) s:=by
 have e:aE.run (λb=>s.heap.get b) s.next (.copyB 1) [.slice b 0 0 cp 1,.slice b2 0 n Iz 1]=some (.val (Kz 0)):=by
  show o7 (λb=>s.heap.get b) s.next 1 [.slice b 0 0 cp 1,.slice b2 0 n Iz 1]=_;unfold o7;simp only[dR];rw[show min n 0=0 by omega]
 unfold aq cC;rw[e];rfl
end
theorem T.aaM{α:Type}{x:α}:∀(p:Pos)(t:T α),t.get p=some x->T.put (some x) p t=t
 |p,.e,h=>by rw[T.dN]at h;cases h
 |.h,.n l v r,h=>by have h:v=some x:=h;subst h;rfl
 | .o p,.n l v r,h=>by
   have h:l.get p=some x:=h;simp only[T.put];rw[T.aaM p l h]
 | .i p,.n l v r,h=>by
   have h:r.get p=some x:=h;simp only[T.put];rw[T.aaM p r h]
theorem ahd{s:St}{p:Pos}{b:AB}(h:s.heap.get p=some b):bg s p b=s:=by
 unfold bg;rw[T.aaM p s.heap h]
theorem aaN{b:Pos}{off n es:Nat}(hn:n≠0)(h:Plain (.slice b off n (some n) es)):False:=by
 have h1:aC (λ_=>⟨0,0,off+n*es⟩) (b.toNat+1) (λ_=>none) (.slice b off n (some n) es) (.slice (some ⟨0,0+off,none⟩) n n):=
  .slice b off n (some n) es n _ (Za3 _) (λc hc=>by cases hc;rfl) (λ_=>⟨by omega,rfl,by simp⟩) (λh=>by cases h)
 have h2:=h _ (λ_=>⟨0,0,0⟩) _ 0 _ _ h1;cases h2 with
 |slice _ _ _ _ _ _ _ _ _ ha _=>exact absurd (ha hn).1 (by omega)
end
end Go.Ai
