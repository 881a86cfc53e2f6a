/- The program as plain functions. -/
import Derived.Test.YtgihekklfnjkiaaGreatDoorTEvalD
import Derived.Maps.RangeRun
import Derived.Laws.EntriesVeiled
import Derived.WalkKit
import Derived.OpenShut
import Derived.ProofKit
import Derived.ShutString
set_option linter.all false
set_option linter.unusedSectionVars false
set_option linter.deprecated false
namespace Go.Ai
section
open Go Go.RowKit
def Z6(c c':au):Prop:=∀f args st r,c f args st=some r->c' f args st=some r
theorem Z6.refl(c:au):Z6 c c:=λ_ _ _ _ h=>h
section
variable{c c' : au}
theorem Sr(h:Z6 c c'){k:aF}{xs:List AV}{st:St}{r:AV×St}(e:cG c k xs st=some r):cG c' k xs st=some r:=by
 unfold cG at e ⊢;cases hr:k.run (λb=>st.heap.get b) st.next xs with
 |none=>simp[hr]at e
 |some x=>cases x with
  |val v=>simpa [hr]using e
  |bh v d s n=>simpa [hr]using e
  |call f args=>simp only[hr]at e ⊢; exact h _ _ _ _ e
theorem YS(h:Z6 c c'):∀(os:List bS)(fr:Fr)(st:St)(r:Fr×St),mD c os fr st=some r->mD c' os fr st=some r
 |[],_,_,_,e=>e
 |o::os,fr,st,r,e=>by
  unfold mD at e ⊢;cases hw:cH fr o.guard with
  |none=>simp[hw]at e
  |some b=>cases b with
   |false=>simp only[hw]at e ⊢; exact YS h _ _ _ _ e
   |    true=>
        simp only[hw]at e ⊢;cases hx:fU fr o.xs with
        |none=>simp[hx]at e
        |some xs=>
         simp only[hx]at e ⊢;cases hs:cG c o.k xs st with
         |none=>simp[hs]at e
         |some p=>simp only[hs]at e;simp only[Sr h hs];exact YS h _ _ _ _ e
theorem aaV (h:Z6 c c'):∀(os:List (Nat×bS))(recs:List Rec)(base:T AB)(fr:Fr)(st:St)(r:Fr×St),ep c os recs base fr st=some r->ep c' os recs base fr st=some r
 |[],_,_,_,_,_,e=>e
 |(j,   o)::os,recs,base,fr,st,r,e=>by
  have ih:=aaV h os;unfold ep at e ⊢;cases hw:cH fr o.guard with
  |none=>simp[hw]at e
  | some b=>cases b with
    |false=>simp only[hw]at e ⊢; exact ih _ _ _ _ _ e
    |   true=>
        simp only[hw]at e ⊢;cases hx:fU fr o.xs with
        |none=>simp[hx]at e
        |some xs=>
         simp only[hx]at e ⊢;cases hc:o.cls with
         |  bh=>
            simp only[hc]at e ⊢;cases hs:cG c o.k xs st with
            |none=>simp[hs]at e
            |some p=>simp only[hs]at e;simp only[Sr h hs];exact ih _ _ _ _ _ e
         |  new=>
            simp only[hc]at e ⊢;split at e<;>first|(cases e;done)|exact ih _ _ _ _ _ e
         |  pure=>
            simp only[hc]at e ⊢;split at e<;>(try split at e)<;>(try split at e)<;>first|(cases e;done)|(simp only[*];exact ih _ _ _ _ _ e)|exact ih _ _ _ _ _ e
         |  read=>
            simp only[hc]at e ⊢;split at e<;>(try split at e)<;>(try split at e)<;>first|(cases e;done)|(simp only[*];exact ih _ _ _ _ _ e)|exact ih _ _ _ _ _ e
theorem YT(h:Z6 c c'):∀(n m:Nat),n<=m->∀(a:AC)(fr:Fr)(st:St)(r:oe×Fr×St),exec c n a fr st=some r->exec c' m a fr st=some r
 |0,_,_,_,_,_,_,e=>by simp[exec]at e
 |n+1,0,hm,_,_,_,_,_=>by omega
 |n+    1,m+1,hm,a,fr,st,r,e=>by
  have ih:=YT h n m (by omega);cases a<;>simp only[exec,bE]at e ⊢
  case skip=>exact e
  case exit=>exact e
  case ret=>exact e
  case region ops=>
   cases ho:mD c ops fr st with
   |none=>simp[ho]at e
   |some p=>simp only[ho]at e;simp only[YS h _ _ _ _ ho];exact e
  case draw ops=>
   cases ho:ep c ops [] st.heap fr st with
   |none=>simp[ho]at e
   |some p=>simp only[ho]at e;simp only[aaV h _ _ _ _ _ _ ho];exact e
  case seq a b=>
   cases ha:exec c n a fr st with
   |none=>simp[ha]at e
   |    some p=>
        obtain⟨ex,ff,bw⟩:=p;simp only[ha]at e;simp only[ih _ _ _ _ ha];cases ex<;>first|exact e|exact ih _ _ _ _ e
  case cond x a b=>
   split at e
   .    exact ih _ _ _ _ e
   .    exact ih _ _ _ _ e
   .    cases e
  case block id a=>
   cases ha:exec c n a fr st with
   |none=>simp[ha]at e
   |    some p=>
        obtain⟨ex,ff,bw⟩:=p;simp only[ha]at e;simp only[ih _ _ _ _ ha];cases ex<;>exact e
  case loop a=>
   cases ha:exec c n a fr st with
   |none=>simp[ha]at e
   |    some p=>
        obtain⟨ex,ff,bw⟩:=p;simp only[ha]at e;simp only[ih _ _ _ _ ha];cases ex<;>first|exact e|exact ih _ _ _ _ e
end
def Plain(v:AV):Prop:=∀(ρ ρ':Pos->Loc)(n n':Nat)(C:Cells)(x:Value),aD ρ n C v x->aD ρ' n' C v x
theorem Plain.bool(b:Bool):Plain (.bool b):=λ_ _ _ _ _ _ h=>by cases h;exact .bool b
theorem Plain.int(k:IntKind)(i:Int):Plain (.int k i):=λ_ _ _ _ _ _ h=>by cases h;exact .int k i
theorem Plain.str(s:List Nat):Plain (.str s):=λ_ _ _ _ _ _ h=>by cases h with|str _ bs h=>exact .str s bs h
theorem Plain.ju:Plain .ju:=λ_ _ _ _ _ _ h=>by cases h;exact .ju
theorem Plain.af:Plain .af:=λ_ _ _ _ _ _ h=>by cases h;exact .af
theorem Plain.iI:Plain .iI:=λ_ _ _ _ _ _ h=>by cases h;exact .iI
theorem Plain.func(f:FuncId){a b:List AV}(ha:∀v∈a,Plain v)(hb:∀v∈b,Plain v):Plain (.func f a b):=λ_ _ _ _ _ _ h=>by
 cases h with
 |func _ _ _ a' b' hx hy h1 h2=>exact .func f a b a' b' hx hy (λi v x hv hx=>ha v (Zc0 hv) _ _ _ _ _ _ (h1 i v x hv hx)) (λi v x hv hx=>hb v (Zc0 hv) _ _ _ _ _ _ (h2 i v x hv hx))
theorem Plain.tuple{l:List AV}(hl:∀v∈l,Plain v):Plain (.tuple l):=λ_ _ _ _ _ _ h=>by
 cases h with
 |tuple _ cs hx h1=>exact .tuple l cs hx λi v x hv hx=>hl v (Zc0 hv) _ _ _ _ _ _ (h1 i v x hv hx)
theorem Plain.agg{l:List AV}(hl:∀v∈l,Plain v):Plain (.agg l):=λ_ _ _ _ _ _ h=>by
 cases h with
 |agg _ cs hx h1=>exact .agg l cs hx λi v x hv hx=>hl v (Zc0 hv) _ _ _ _ _ _ (h1 i v x hv hx)
theorem Plain.fl{xs:List (List AV)}{es:Nat}(hl:∀cs∈xs,∀v∈cs,Plain v):Plain (.fl xs es):=λ_ _ _ _ _ _ h=>by
 cases h with
 |fl _ _ bC a cell h1 h2 h3 h4 h5=>exact .fl xs es bC a cell h1 h2 h3 h4 λi j cs v hi hj=>hl cs (Zc0 hi) v (Zc0 hj) _ _ _ _ _ _ (h5 i j cs v hi hj)
def aT(st st':St):Prop:=∀b x,st.heap.get b=some x->st'.heap.get b=some x
theorem aT.refl(st:St):aT st st:=λ_ _ h=>h
theorem aT.trans{a b c:St}(h:aT a b)(k:aT b c):aT a c:=λ_ _ e=>k _ _ (h _ _ e)
theorem aD.down{ρ ρ':Pos->Loc}{n n':Nat}{C:Cells}{v:AV}{x:Value}(h:aD ρ' n' C v x):∀{y:Value},aD ρ n C v y->(∀b:Pos,b.toNat<n->ρ' b=ρ b)->aD ρ n C v x:=by
 induction h with
 |bool b=>exact λh _=> .bool b
 |int k i=>exact λh _=> .int k i
 |str s bs h=>exact λ_ _=> .str s bs h
 |ju=>exact λ_ _=> .ju
 |ptr b off h=>
  intro y h bF;cases h with
  |ptr _ _ h'=>rw[bF b h'];exact .ptr b off h'
 |fp xs i j es aN base cell hl hc hv ih=>
  intro y h bF;cases h with
  |fp _ _ _ es' IF alb auL hl' ZY P9=>exact .fp xs i j es aN base cell hl hc λi j cs v hi hj=>ih i j cs v hi hj (P9 i j cs v hi hj) bF
 |af=>exact λ_ _=> .af
 |slice  b off len cap es bC a hl hc ha hk=>
  intro y h bF;cases h with
  |slice _ _ _ _ _ ary a' hl' ZY ha' uj=>
   refine .slice b off len cap es bC a hl hc (λh0=> ?_) uj;obtain⟨h1,h2,h3⟩:=ha h0;have hb:b.toNat<n:=by
        cases cap with
        |none=>exact uj rfl
        |some c=>
         have e1:=hc c rfl;have e2:=ZY c rfl;exact(ha' (by rw[<-e2,e1];exact h0)).1
   rw[bF b hb]at h2 h3;exact⟨hb,h2,h3⟩
 |fl xs es bC a cell hl hs dY hc hv ih=>
  intro y h bF;cases h with
  |fl _ _ ary a' auL hl' qI hes' ZY P9=>exact .fl xs es bC a cell hl hs dY hc λi j cs v hi hj=>ih i j cs v hi hj (P9 i j cs v hi hj) bF
 |qE=>exact λ_ _=> .qE
 |map b h=>
  intro y h bF;cases h with
  |map _ h'=>rw[bF b h'];exact .map b h'
 |func f x y x' y' hx hy h1 h2 ih1 ZP=>
  intro z h bF;cases h with
  |func _ _ _ a' b' kx ky k1 k2=>
   refine .func f x y x' y' hx hy (λi v x hv yT=> ?_) (λi v x hv yT=> ?_)
   .    have hi:i<a'.size:=(by rw[<-kx];exact(Za1.1 hv).1);exact ih1 i v x hv yT (k1 i v _ hv (Zg5 hi)) bF
   .    have hi:i<b'.size:=(by rw[<-ky];exact(Za1.1 hv).1);exact ZP i v x hv yT (k2 i v _ hv (Zg5 hi)) bF
 |iI=>exact λ_ _=> .iI
 |BW=>exact λ_ _=> .BW
 |iface t v x _ ih=>
  intro y h bF;cases h with
  |iface _ _ x' h'=>exact .iface t v x (ih h' bF)
 |agg l cs hx h1 ih=>
  intro y h bF;cases h with
  |agg _ nh kx k1=>
   (refine .agg l cs hx λi v x hv yT=> ?_);have hi:i<nh.size:=(by rw[<-kx];exact(Za1.1 hv).1);exact ih i v x hv yT (k1 i v _ hv (Zg5 hi)) bF
 |tuple l cs hx h1 ih=>
  intro y h bF;cases h with
  |tuple _ nh kx k1=>
   (refine .tuple l cs hx λi v x hv yT=> ?_);have hi:i<nh.size:=(by rw[<-kx];exact(Za1.1 hv).1);exact ih i v x hv yT (k1 i v _ hv (Zg5 hi)) bF
end
noncomputable section
open Go Go.RowKit
def tidy(st:St)(r:AV×St):AV×St:=open Classical in if Plain r.1/\aT st r.2 then(r.1,st)else r
theorem cq.back{ρ ρ':Pos->Loc}{C:Cells}{st bw:St}{w w1:World}(hW:cq ρ C st w)(hk:aT st bw)(bF:∀b:Pos,b.toNat<st.next.toNat->ρ' b=ρ b)(jk:cq ρ' C bw w1)(hs:w.heap.size<=w1.heap.size):cq ρ C st w1:=by
 refine⟨λb y hb=> ?_,hW.inj,λa u ha=>⟨(jk.eD a u ha).1,(hW.eD a u ha).2⟩,jk.whole⟩;obtain⟨g1,g2,g3⟩:=hW.live b y hb;obtain⟨_,_,k3⟩:=jk.live b y (hk b y hb);refine⟨g1,Zd0 g2 hs,?_⟩;rw[bF b g1]at k3;cases y with
 |cells cs fz=>
  obtain⟨c,e,fr,q1,q2,q3,q4,q5⟩:=k3;obtain⟨c0,e0,cX,p1,p2,p3,p4,p5⟩:=g3;refine⟨c,e,fr,q1,q2,q3,⟨q4.1,λi v x hv hx=> ?_⟩,q5⟩;obtain⟨y0,hy0,hv0⟩:=p4.get hv;exact(q4.2 i v x hv hx).down hv0 bF
 |map es clock=>
  obtain⟨es',q1,q2,q3⟩:=k3;obtain⟨es0,p1,p2,p3⟩:=g3;refine⟨es',q1,q2,λi e e' he rH=> ?_⟩;obtain⟨a1,a2,a3⟩:=q3 i e e' he rH;have hi:i<es0.size:=by rw[<-p2];exact(Za1.1 he).1
  obtain⟨b1,b2,_⟩:=p3 i e _ he (Zg5 hi);exact⟨a1.down b1 bF,a2.down b2 bF,a3⟩
theorem am1{ρ:Pos->Loc}{C:Cells}{st:St}{w w':World}{r:AV×St}{x:Value}(hW:cq ρ C st w)(h:nS ρ C st w r.1 r.2 x w'):
   nS ρ C st w (tidy st r).1 (tidy st r).2 x w':=by
 unfold tidy;split
 . rename_i hp;obtain⟨ρ',hv,bF,hn,jk,hE⟩:=h;exact⟨ρ,hp.1 _ _ _ _ _ _ hv,λ_ _=>rfl,Za3 _,hW.back hp.2 bF jk hE.size,⟨hE.os,hE.tape,hE.output,hE.size,hE.block,λb y hb=> .inl ⟨b,y,hb,rfl⟩⟩⟩
 . exact h
theorem am2{st:St}{r:AV×St}(h:st.next.toNat<=r.2.next.toNat):st.next.toNat<=(tidy st r).2.next.toNat:=by
 unfold tidy;split
 . exact Za3 _
 . exact h
def yh(O:eV)(G:T dO)(m:Nat):Nat->au
 |0=>λ_ _ _=>none
 |  d+1=>λf args st=>match O f with
    |some s=>s args st
    |none=>match G.get (key f)with
     |some F=>(yf (yh O G m d) m F args st).map (tidy st)
     |none=>none
section
variable{P : Program}{tt : TT}{C : Cells}
theorem am3{call:au}(hm:oZ call){m:Nat}{F:dO}{args:List AV}{st:St}{v:AV}{st':St}(h:yf call m F args st=some (v,st')):st.next.toNat<=st'.next.toNat:=by
 unfold yf at h;split at h<;>first|(cases h;done)|skip
 split at h<;>first|(cases h;done)|skip
 all_goals
  rename_i h1;split at h<;>first|(cases h;done)|skip
  simp only[H5,Zd1]at h;obtain⟨rfl,rfl⟩:=h;exact NR hm _ _ _ _ _ _ _ h1
theorem ab8{O:eV}{G:T dO}(hO:oh O)(m:Nat):∀d,oZ (yh O G m d)
 |0=>λf args st v st' h=>by simp[yh]at h
 |d +1=>λf args st v st' h=>by
  unfold yh at h;split at h
  . rename_i s hs;exact hO _ _ hs _ _ _ _ h
  . (split at h<;>first|(cases h;done)|skip);simp only[Zf1]at h;obtain⟨r,hr,he⟩:=h;have:=am3 (ab8 hO m d) (v:=r.1) (st':=r.2) hr;have:=am2 this;rw[he]at this;exact this
theorem Z7(hm:P.follows .mixedOrders=true)(hT:di P tt){O:eV}{G:T dO}(hO:vU P C O)(Ws:oh O)(hG:GOk P tt G)(m:Nat):∀d,jd P C (yh O G m d)
 |0=>λρ st w f args v st' cL h=>by simp[yh]at h
 |d +1=>by
  intro ρ st w f args v st' cL h hW yg;have ih:=Z7 hm hT hO Ws hG m d;unfold yh at h;split at h
  . rename_i s hs;exact hO f s hs ρ st w args v st' cL h hW yg
  . (split at h<;>first|(cases h;done)|skip);rename_i F hF;simp only[Zf1]at h;obtain⟨r,hr,he⟩:=h;refine Reaches.mono (λx w' hp=> ?_) (abX hT hG ih (Sf hm hT ih (ab8 Ws m d)) m hF (v:=r.1) (st':=r.2) hr hW yg);have:=am1 hW hp;rw[he]at this;exact this
end
theorem ajT{c c':au}(h:Z6 c c'){n m:Nat}(hn:n<=m){F:dO}{args:List AV}{st:St}{r:AV×St}(e:yf c n F args st=some r):yf c' m F args st=some r:=by
 unfold yf at e ⊢;split at e<;>first|(cases e;done)|skip
 split at e<;>first|(cases e;done)|skip
 all_goals
  rename_i h1;simp only[YT h n m hn _ _ _ _ h1];exact e
theorem aaW(O:eV)(G:T dO){n m:Nat}(hn:n<=m):∀d d',d<=d'->Z6 (yh O G n d) (yh O G m d')
 |0,_,_=>λ_ _ _ _ e=>by simp[yh]at e
 |_+1,0,h=>by omega
 |d +1,d'+1,h=>λf args st r e=>by
  have ih:=aaW O G hn d d' (by omega);unfold yh at e ⊢;split at e
  . exact e
  . (split at e<;>first|(cases e;done)|skip);simp only[Zf1]at e ⊢;obtain⟨q,hq,he⟩:=e;exact⟨q,ajT ih hn hq,he⟩
def cn(O:eV)(G:T dO)(n:Nat):au:=yh O G n n
theorem Ss(O:eV)(G:T dO){n m:Nat}(h:n<=m):Z6 (cn O G n) (cn O G m):=aaW O G h n m h
def run(O:eV)(G:T dO):au:=λf args st=>open Classical in
 if h:∃(r:AV×St) (n:Nat),cn O G n f args st=some r then some h.choose else none
variable{O : eV}{G : T dO}
theorem am4{f:FuncId}{args:List AV}{st:St}{r:AV×St}{n:Nat}(h:cn O G n f args st=some r):run O G f args st=some r:=by
 unfold run;have hx:∃(r:AV×St) (n:Nat),cn O G n f args st=some r:=⟨r,n,h⟩
 rw[dif_pos hx];obtain⟨m,hm⟩:=hx.choose_spec;have h1:=Ss O G (Zj5 n m) f args st _ h;have h2:=Ss O G (Zi5 n m) f args st _ hm;rw[h1]at h2;exact h2.symm
theorem ag0{f:FuncId}{args:List AV}{st:St}{r:AV×St}(h:run O G f args st=some r):∃n,cn O G n f args st=some r:=by
 unfold run at h;split at h
 . rename_i hx;simp only[H5]at h;rw[<-h];exact hx.choose_spec
 . cases h
theorem ab9{k:aF}{xs:List AV}{st:St}{r:AV×St}(e:cG (run O G) k xs st=some r):∃n,cG (cn O G n) k xs st=some r:=by
 unfold cG at e;cases hr:k.run (λb=>st.heap.get b) st.next xs with
 |none=>simp[hr]at e
 |some x=>cases x with
  |val v=>exact⟨0,by simpa [cG,hr]using e⟩
  |bh v d s n=>exact⟨0,by simpa [cG,hr]using e⟩
  |call f args=>
   simp only[hr]at e;obtain⟨n,hn⟩:=ag0 e;exact⟨n,by simpa [cG,hr]using hn⟩
theorem Ww:∀(os:List bS)(fr:Fr)(st:St)(r:Fr×St),mD (run O G) os fr st=some r->∃n,mD (cn O G n) os fr st=some r
 |[],_,_,_,e=>⟨0,e⟩
 |o::os,fr,st,r,e=>by
  unfold mD at e;cases hw:cH fr o.guard with
  |none=>simp[hw]at e
  |some b=>cases b with
   |    false=>
        simp only[hw]at e;obtain⟨n,hn⟩:=Ww os _ _ _ e;exact⟨n,by unfold mD;simp only[hw];exact hn⟩
   |    true=>
        simp only[hw]at e;cases hx:fU fr o.xs with
        |none=>simp[hx]at e
        |some xs=>
         simp only[hx]at e;cases hs:cG (run O G) o.k xs st with
         |none=>simp[hs]at e
         |some p=>
          simp only[hs]at e;obtain⟨n,hn⟩:=Ww os _ _ _ e;obtain⟨m,hm⟩:=ab9 hs;refine⟨max n m,?_⟩;unfold mD;simp only[hw,hx,Sr (Ss O G (Zi5 n m)) hm];exact YS (Ss O G (Zj5 n m)) _ _ _ _ hn
theorem acd: ∀(os:List (Nat×bS))(recs:List Rec)(base:T AB)(fr:Fr)(st:St)(r:Fr×St),ep (run O G) os recs base fr st=some r->∃n,ep (cn O G n) os recs base fr st=some r
 |[],_,_,_,_,_,e=>⟨0,e⟩
 |(j,   o):: os,recs,base,fr,st,r,e=>by
  have ih:=acd os;unfold ep at e;cases hw:cH fr o.guard with
  |none=>simp[hw]at e
  | some b=>cases b with
    |   false=>
        simp only[hw]at e;obtain⟨n,hn⟩:=ih _ _ _ _ _ e;exact⟨n,by unfold ep;simp only[hw];exact hn⟩
    |   true=>
        simp only[hw]at e;cases hx:fU fr o.xs with
        |none=>simp[hx]at e
        |some xs=>
         simp only[hx]at e;cases hc:o.cls with
         | bh=>
           simp only[hc]at e;cases hs:cG (run O G) o.k xs st with
           |none=>simp[hs]at e
           | some p=>
             simp only[hs]at e;obtain⟨n,hn⟩:=ih _ _ _ _ _ e;obtain⟨m,hm⟩:=ab9 hs;refine⟨max n m,?_⟩;unfold ep;simp only[hw,hx,hc,Sr (Ss O G (Zi5 n m)) hm];exact aaV (Ss O G (Zj5 n m)) _ _ _ _ _ _ hn
         | new=>
           simp only[hc]at e;(split at e<;>first|(cases e;done)|skip);obtain⟨n,hn⟩:=ih _ _ _ _ _ e;refine⟨n,?_⟩;unfold ep;simp only[*]
         | pure=>
           simp only[hc]at e;split at e<;>(try split at e)<;>(try split at e)<;>first|(cases e;done)|skip
           all_goals
             obtain⟨n,hn⟩:=ih _ _ _ _ _ e;refine⟨n,?_⟩;unfold ep;simp only[*]
         | read=>
           simp only[hc]at e;split at e<;>(try split at e)<;>(try split at e)<;>first|(cases e;done)|skip
           all_goals
             obtain⟨n,hn⟩:=ih _ _ _ _ _ e;refine⟨n,?_⟩;unfold ep;simp only[*]
theorem aeI:∀(n:Nat)(a:AC)(fr:Fr)(st:St)(r:oe×Fr×St),exec (run O G) n a fr st=some r->∃m,exec (cn O G m) n a fr st=some r
 |0,_,_,_,_,e=>by simp[exec]at e
 |n+    1,a,fr,st,r,e=>by
  have ih:=aeI n;have up:∀{m m':Nat}{a:AC}{fr:Fr}{st:St}{r:oe×Fr×St},m<=m'->exec (cn O G m) n a fr st=some r->exec (cn O G m') n a fr st=some r:=
   λh e=>YT (Ss O G h) _ _ (Za3 _) _ _ _ _ e
  cases a<;>simp only[exec,bE]at e
  case skip=>exact⟨0,e⟩
  case exit=>exact⟨0,e⟩
  case ret=>exact⟨0,e⟩
  case region ops=>
   cases ho:mD (run O G) ops fr st with
   |none=>simp[ho]at e
   |    some p=>
        obtain⟨m,hm⟩:=Ww _ _ _ _ ho;exact⟨m,by simp only[exec,bE,hm];simpa only[ho]using e⟩
  case draw ops=>
   cases ho:ep (run O G) ops [] st.heap fr st with
   |none=>simp[ho]at e
   |    some p=>
        obtain⟨m,hm⟩:=acd _ _ _ _ _ _ ho;exact⟨m,by simp only[exec,bE,hm];simpa only[ho]using e⟩
  case seq a b=>
   cases ha:exec (run O G) n a fr st with
   |none=>simp[ha]at e
   |    some p=>
        obtain⟨ex,ff,bw⟩:=p;simp only[ha]at e;obtain⟨m,hm⟩:=ih _ _ _ _ ha;cases ex with
        |normal=>
         obtain⟨m',hm'⟩:=ih _ _ _ _ e;exact⟨max m m',by simp only[exec,bE,up (Zj5 m m') hm];exact up (Zi5 m m') hm'⟩
        |exit i=>exact⟨m,by simp only[exec,bE,hm];exact e⟩
        |ret=>exact⟨m,by simp only[exec,bE,hm];exact e⟩
  case cond x a b=>
   split at e
   .    rename_i hx;obtain⟨m,hm⟩:=ih _ _ _ _ e;exact⟨m,by simp only[exec,bE,hx];exact hm⟩
   .    rename_i hx;obtain⟨m,hm⟩:=ih _ _ _ _ e;exact⟨m,by simp only[exec,bE,hx];exact hm⟩
   .    cases e
  case block id a=>
   cases ha:exec (run O G) n a fr st with
   |none=>simp[ha]at e
   |    some p=>
        obtain⟨ex,ff,bw⟩:=p;simp only[ha]at e;obtain⟨m,hm⟩:=ih _ _ _ _ ha;exact⟨m,by simp only[exec,bE,hm];exact e⟩
  case loop a=>
   cases ha:exec (run O G) n a fr st with
   |none=>simp[ha]at e
   |    some p=>
        obtain⟨ex,ff,bw⟩:=p;simp only[ha]at e;obtain⟨m,hm⟩:=ih _ _ _ _ ha;cases ex with
        |normal=>
         obtain⟨m',hm'⟩:=ih _ _ _ _ e;exact⟨max m m',by simp only[exec,bE,up (Zj5 m m') hm];exact up (Zi5 m m') hm'⟩
        |exit i=>exact⟨m,by simp only[exec,bE,hm];exact e⟩
        |ret=>exact⟨m,by simp only[exec,bE,hm];exact e⟩
theorem apr{f:FuncId}{F:dO}{args:List AV}{st:St}{r:AV×St}{n:Nat}(ho:O f=none)(hF:G.get (key f)=some F)(h:yf (run O G) n F args st=some r):
   run O G f args st=some (tidy st r):=by
 unfold yf at h;split at h<;>first|(cases h;done)|skip
 rename_i hlen
 have fin:∀{ex fr st'},exec (run O G) n F.code (params 0 args .e) st=some (ex,fr,st')->(∀m k,exec (cn O G m) k F.code (params 0 args .e) st=some (ex,fr,st')->yf (cn O G m) k F args st=some r)->
    run O G f args st=some (tidy st r):=λh1 h2=>by
   obtain⟨m,hm⟩:=aeI _ _ _ _ _ h1;refine am4 (n:=max n m+1) ?_;unfold cn yh;simp only[ho,hF];have:=h2 m n hm;have h3:=ajT (aaW O G (n:=m) (m:=max n m+1) (by have:=Zi5 n m;omega) m (max n m) (Zi5 n m)) (m:=max n m+1) (by have:=Zj5 n m;omega) this;rw[h3];rfl
 split at h<;>first|(cases h;done)|skip
 . rename_i h1;exact fin h1 λm k hk=>by unfold yf;simp only[hlen,hk];exact h
 . rename_i h1;exact fin h1 λm k hk=>by unfold yf;simp only[hlen,hk];exact h
theorem ace{f:FuncId}{s:List AV->St->Option (AV×St)}(ho:O f=some s){args:List AV}{st:St}{r:AV×St}(h:s args st=some r):run O G f args st=some r:=
 am4 (n:=1) (by unfold cn yh;simp only[ho];exact h)
theorem aeJ{P:Program}{tt:TT}{C:Cells}(hm:P.follows .mixedOrders=true)(hT:di P tt)(hO:vU P C O)(Ws:oh O)(hG:GOk P tt G):jd P C (run O G):=by intro ρ st w f args v st' cL h hW yg;obtain⟨n,hn⟩:=ag0 h;exact Z7 hm hT hO Ws hG n n ρ st w f args v st' cL hn hW yg
section
variable{ρ ρ' : Pos -> Loc}{C : Cells}{st bw : St}{w w1 w' : World}{nt r : Nat}{fr ff : Fr}{a a1 : Act}
theorem kY.sub{n:Nat}{tmps:Array Value}(h:kY ρ n C ff tmps)(hf:∀p v,fr.get p=some v->ff.get p=some v):kY ρ n C fr tmps:=λp v hp=>h p v (hf p v hp)
theorem yO.back(hS:yO nt ρ C fr st a w)(hf:∀p v,fr.get p=some v->ff.get p=some v)(hk:aT st bw)(h:kP nt ρ C st w ff bw a1 w1):
  yO nt ρ C fr st a1 w1/\qi ρ st w ρ st w1:=by
 obtain⟨jY,S1,k1,k2,E⟩:=h;refine⟨⟨hS.W.back hk k1 S1.W E.size,λp v hp=> ?_,S1.size,S1.defers⟩,⟨E.os,E.tape,E.output,E.size,E.block,λb x hb=> .inl ⟨b,x,hb,rfl⟩⟩⟩;obtain⟨x,hx,hv⟩:=S1.F p v (hf p v hp);obtain⟨y,_,hy⟩:=hS.F p v hp;exact⟨x,hx,hv.down hy k1⟩
theorem cq.iter{m:Option Nat}{s c:Nat}{seen:Array Nat}(hW:cq ρ C st w)(hr:w.heap[r]? =some (.mapIter m s seen c))(hn:∀b x,st.heap.get b=some x->(ρ b).aN≠r)
   (hs:w'.heap.size=w.heap.size) (hk:∀k,k≠r->w'.heap[k]? =w.heap[k]?):cq ρ C st w':=by
 have cZ:∀a v,C a=some v->a.block≠r:=λa v ha e=>by have h:=(hW.eD a v ha).1;unfold World.cell? at h;rw[e,hr]at h;cases h
 refine⟨λb x hb=> ?_,hW.inj,λa v ha=> ?_,λa v ha o ho=> ?_⟩
 . obtain⟨h1,h2,h3⟩:=hW.live b x hb;exact⟨h1,by rw[hs];exact h2,h3.of_heap (hk _ (hn b x hb))⟩
 . obtain⟨h1,h2⟩:=hW.eD a v ha;exact⟨by rw[World.cell?_of_block (w:=w) (hk _ (cZ a v ha))];exact h1,h2⟩
 . rw[World.cell?_of_block (w:=w) (a:=⟨a.block,o,none⟩) (hk _ (cZ a v ha))];exact hW.whole a v ha o ho
end
def T.sub{α:Type}(f:α->α->Bool):T α->T α->Bool
 | .e,_=>true
 | .n l v r,.e=>(match v with|none=>true|some _=>false)&&T.sub f l .e&&T.sub f r .e
 |  .n l v r,.n l' v' r'=>(match v with
    |none=>true
    |some a=>match v' with
     |some b=>f a b
     |none=>false)&&T.sub f l l'&&T.sub f r r'
theorem T.Lf{α:Type}{f:α->α->Bool}(hf:∀a b,f a b=true->a=b):∀{t u:T α},T.sub f t u=true->∀p v,t.get p=some v->u.get p=some v
 | .e,_,_,p,v,h=>by rw[T.dP]at h;cases h
 | .n l x r,.e,hs,p,v,h=>by
   simp only[T.sub,Zb6]at hs;cases p with
   |h=>simp only[T.get]at h;subst h;simp at hs
   |o p=>have:=T.Lf hf hs.1.2 p v h;rw[T.dP]at this;cases this
   |i p=>have:=T.Lf hf hs.2 p v h;rw[T.dP]at this;cases this
 | .n l x r,.n l' x' r',hs,p,v,h=>by
   simp only[T.sub,Zb6]at hs;cases p with
   |h=>
    simp only[T.get]at h ⊢; subst h;have h1:=hs.1.1;cases x' with
    |none=>simp at h1
    |some y=>simp at h1;rw[hf _ _ h1]
   |o p=>exact T.Lf hf hs.1.2 p v h
   |i p=>exact T.Lf hf hs.2 p v h
structure RG where
 t17:Nat
 t18:Nat
 t19:Nat
 t20:Nat
 l2:List bS
 x:ij
 l4:List bS
 body:AC
 ds:List Pos
abbrev XR:=Option (oe×Fr×St)
section
variable(bW : sU XR)(m : Nat)(g : RG)
def exK(c:AC)(fr:Fr)(st:St):XR:=abM none bW m c fr st (λfr st=>some (.normal,fr,st)) (λi fr st=>some (.exit i,fr,st)) (λfr st=>some (.ret,fr,st))
def alc(k v:AV)(fr:Fr)(st:St):XR:=
 xI (some (.tuple [.bool true,k,v])) (key g.t18) fr λfr=>xI (some (.bool true)) (key g.t19) fr λfr=>xI (some (.tuple [k,v])) (key g.t20) fr λfr=>
    ado none bW g.l4 fr st λfr st=>exK bW m g.body fr st
def ag1:List Pos->Fr->(Fr->XR)->XR
 |[],fr,k=>k fr
 |p::ps,fr,k=>xI none p fr λfr=>ag1 ps fr k
def Su(fr:Fr)(st:St)(e:AV×AV×Nat):Bool:=match alc bW m g e.1 e.2.1 fr st with
 |some (.normal,ff,bw)=>T.sub eo fr ff&&T.sub ab5 st.heap bw.heap
 |_=>false
def ady(clock:Nat):List (AV×AV×Nat)->Bool
 |[]=>true
 |e::es=>Nat.blt e.2.2 clock&&es.all (λx=> !Nat.beq x.2.2 e.2.2)&&ady clock es
def ald (fr:  Fr) (st:St):XR:=
 ado  none bW g.l2 fr st λfr st=>evK none fr g.x λ
    | .map b=>match BZ b st.heap with
      | some (.map es clock)=>match ady clock es with
        |true=>   ag1 g.ds fr λfr=>xI (some (.ptr st.next 0)) (key g.t17) fr λfr=>abL st.next λn=>
           match es.filter (λe=> !Su bW m g fr { heap:=st.heap,next:=n } e)with
           |[]=>some (.normal,fr,{ heap:=st.heap,next:=n })
           |  [e] =>match alc bW m g e.1 e.2.1 fr { heap:=st.heap,next:=n }with
              |some (.normal,ff,bw)=>ag1 g.ds ff λff=>
                  match BZ b bw.heap,BZ (key g.t17) ff with
                  |some y,some v=>match ab5 y (.map es clock)&&eo v (.ptr st.next 0)&&es.all (λx=>Nat.beq x.2.2 e.2.2||Su bW m g ff bw x)with
                   |true=>some (.normal,ff,bw)
                   |false=>none
                  |_,_=>none
              |_=>none
           |_=>none
        |false=>none
      |_=>none
    |_=>none
end
section
variable{P : Program}{tt : TT}{C : Cells}
def pF(P:Program)(C:Cells)(nt:Nat)(c:Code)(ex:Fr->St->XR):Prop:=
 ∀  (fr bG:Fr)(st st':St)(e:oe)(ρ:Pos->Loc)(a:Act)(w:World)(Q:Exit->Act->World->Prop),ex fr st=some (e,bG,st')->yO nt ρ C fr st a w->
    (∀a' w',kP nt ρ C st w bG st' a' w'->Q (Qi e) a' w')->c.wp P Q a w
theorem am5{bW:sU XR}{call:au}(hc:CK none bW call)(m:Nat)(c:AC)(fr:Fr)(st:St):exK bW m c fr st=exec call m c fr st:=by
 unfold exK;rw[aaT none hc];cases exec call m c fr st with
 |none=>rfl
 |some x=>obtain⟨e,fr,st⟩:=x;cases e<;>rfl
theorem pF.ac(hT:di P tt){bW:sU XR}{call:au}(hc:CK none bW call)(dG:jd P C call)(mh:yP P tt C call){nt m:Nat}{c:Code}{a:AC}(h:vQ tt nt c=some a):
 pF P C nt c (exK bW m a):=λfr bG st st' e ρ ac w Q hx hS hQ=>(Dk hT dG mh m).1 c a fr bG st st' e ρ ac w Q h (by rw[<-am5 hc];exact hx) hS hQ
def aps(x y:Fr->St->XR)(fr:Fr)(st:St):XR:=match x fr st with
 |some (.normal,fr,st)=>y fr st
 |r=>r
theorem pF.seq{nt:Nat}{c d:Code}{x y:Fr->St->XR}(hc:pF P C nt c x)(hd:pF P C nt d y):pF P C nt (.seq c d) (aps x y):=by
 intro fr bG st st' e ρ a w Q h hS hQ;unfold aps at h;apply wp_seq;split at h
 . rename_i ff bw h1;(refine hc fr ff st bw .normal ρ a w _ h1 hS λa1 w1 hp=> ?_);obtain⟨jY,S1,k1,k2,k3⟩:=hp;exact hd ff bG bw st' e jY a1 w1 Q h S1 λa2 w2 hp=>hQ a2 w2 (kP.trans k1 k2 k3 hp)
 . rename_i cZ;(refine hc fr bG st st' e ρ a w _ h hS λa1 w1 hp=> ?_);cases e with
   |normal=>exact(cZ _ _ h).elim
   |exit id=>exact hQ a1 w1 hp
   |ret=>exact hQ a1 w1 hp
def clr:List Pos->Fr->Fr
 |[],fr=>fr
 |p::ps,fr=>clr ps (fr.put none p)
theorem ajU:∀(ps:List Pos)(fr:Fr)(k:Fr->XR),ag1 ps fr k=k (clr ps fr)
 |[],_,_=>rfl
 |p::ps,fr,k=>by simp only[ag1,nU,clr];exact ajU ps _ k
theorem adz:∀(ps:List Pos)(fr:Fr)(p:Pos)(v:AV),(clr ps fr).get p=some v->fr.get p=some v
 |[],_,_,_,h=>h
 |q::ps,fr,p,v,h=>by
  have h:=adz ps _ p v h;by_cases hq:q=p
  . subst hq;rw[T.gH]at h;cases h
  . rwa [T.bX _ hq]at h
theorem adA{clock:Nat}:∀{es:List (AV×AV×Nat)},ady clock es=true->(∀e∈es,e.2.2<clock)/\(es.map (·.2.2)).Nodup
 |[],_=>⟨λ_ h=>by simp at h,by simp⟩
 |e ::es,h=>by
  simp only[ady,Zb6]at h;obtain⟨⟨h1,h2⟩,h3⟩:=h;obtain⟨i1,i2⟩:=adA h3;refine⟨λx hx=> ?_,?_⟩
  . rcases Za8.1 hx with rfl|hx
    . exact Zb2 h1
    . exact i1 x hx
  . rw[Zd2,List.nodup_cons];refine⟨λhm=> ?_,i2⟩;obtain⟨x,hx,he⟩:=Zc7.1 hm;have:=Zg7.1 h2 x hx;simp[he]at this
def Mv(bW:sU XR)(m:Nat)(g:RG)(A B:Fr×St)(e:AV×AV×Nat):Prop:=
 ∃f1 s1,alc bW m g e.1 e.2.1 A.1 A.2=some (.normal,f1,s1)/\(∀p v,B.1.get p=some v->f1.get p=some v)/\((B=A/\aT A.2 s1)\/B.2=s1)
theorem adB{bW:sU XR}{m:Nat}{g:RG}{fr:Fr}{st:St}{e:AV×AV×Nat}(h:Su bW m g fr st e=true):Mv bW m g (fr,st) (fr,st) e:=by
 unfold Su at h;split at h<;>first|(cases h;done)|skip
 rename_i f1 s1 h1;simp only[Zb6]at h;exact⟨f1,s1,h1,T.Lf (λ_ _=>yQ) h.1,.inl ⟨rfl,T.Lf (λ_ _=>aaU) h.2⟩⟩
section
variable{bW : sU XR}{call : au}{nt m : Nat}{g : RG}{tS : Array Oper}{o0 o1 o4 : Oper}{i3 i4 b0 b1 : Nat}{rest : Code}{Ul : List bS}{bs : List Nat}
def ale(g:RG)(o0 o1:Oper)(tS:Array Oper)(rest:Code)(i3 i4 b0 b1:Nat):Code:=
 .seq (.region i3 #[o0,o1] false) (.seq (.cond (.tmp g.t19) .skip (.exit b0)) (.block b1 (.seq (.region i4 tS false) rest)))
structure apt(tt:TT)(nt:Nat)(g:RG)(o0 o1 o4:Oper)(tS:Array Oper)(rest:Code)(Ul:List bS)(bs:List Nat):Prop where
 n0:o0.op= .next (.tmp g.t17) false/\o0.guard=none/\o0.dst=some g.t18
 n1:o1.op= .extract (.tmp g.t18) 0/\o1.guard=none/\o1.dst=some g.t19
 n4:tS[0]? =some o4/\o4.op= .entry (.tmp g.t17)/\o4.guard=none/\o4.dst=some g.t20
 lt:g.t17<nt/\g.t18<nt/\g.t19<nt/\g.t20<nt
 ne:g.t17≠g.t18/\g.t17≠g.t19/\g.t18≠g.t19
 c4:uE tt nt tS tS.toList bs=some Ul
 l4:Ul.tail=g.l4
 r4:vQ tt nt rest=some g.body
structure LI(C:Cells)(nt:Nat)(g:RG)(X:Fr×St)(b Qk:Pos)(es:List (AV×AV×Nat))(since r:Nat)(nH:Pos->Loc)(Wx:St)(w0:World)(seen:Array Nat)(ρ:Pos->Loc)(a:Act)(w:World):Prop where
 S:yO nt ρ C X.1 X.2 a w
 k1:∀p:Pos,p.toNat<Wx.next.toNat->ρ p=nH p
 k2:Wx.next.toNat<=X.2.next.toNat
 E:qi nH Wx w0 ρ X.2 w
 ip:(ρ Qk).aN=r/\(ρ Qk).base=0/\Qk.toNat<X.2.next.toNat
 at17:X.1.get (key g.t17)=some (.ptr Qk 0)
 mp:X.2.heap.get b=some (.map es since)
 it:∃c,w.heap[r]? =some (.mapIter (some (ρ b).aN) since seen c)/\since<=c
 sY:∀p x,X.2.heap.get p=some x->(ρ p).aN≠r
 late:w0.heap.size<=r
 cl:X.1.get (key g.t18)=none/\X.1.get (key g.t19)=none
theorem Cy{ops:Array Oper}{Q:Exit->Act->World->Prop}{i:Nat}{rest:List Nat}{o:Oper}{a:Act}{w w':World}{v:Value}(ho:ops[i]? =some o)(hg:o.guard=none)
  (hr:(execOp a.eval o).run P w= .ok (.value v) w') (hQ:wpOps P ops Q rest (a.put o.dst v) w'):wpOps P ops Q (i::rest) a w:=by
 unfold wpOps;rw[ho];simp only[Region.wanted,hg,Zh7];refine .inl ?_;unfold Oper.wp;rw[hr];exact hQ
theorem eval_put{a:Act}{t:Nat}{v:Value}(h:t<a.tmps.size):(a.put (some t) v).eval (.tmp t)=v:=by
 simp[Act.put,Act.eval,h]
theorem Z8{a:Act}{t s:Nat}{v:Value}(h:t≠s):(a.put (some t) v).eval (.tmp s)=a.eval (.tmp s):=by
 simp[Act.put,Act.eval,Zj6 h]
theorem LI.round(hT:di P tt)(hc:CK none bW call)(dG:jd P C call)(mh:yP P tt C call)(hR:apt tt nt g o0 o1 o4 tS rest Ul bs)
   {A:Fr×St} {b Qk:Pos} {es:List (AV×AV×Nat)} {since r:Nat} {nH:Pos->Loc} {Wx:St} {w0:World} {seen:Array Nat} {ρ:Pos->Loc} {a:Act} {w:World}
   (L:LI C nt g A b Qk es since r nH Wx w0 seen ρ a w) (dY:ady since es=true) {Q:Exit->Act->World->Prop}
   (alf:(∀e∈es,seen.contains e.2.2=true)->∀a',yO nt ρ C A.1 A.2 a' w->Q (.exit b0) a' w)
   (auM:∀e∈es,seen.contains e.2.2=false->∃B,Mv bW m g A B e/\B.1.get (key g.t17)=some (.ptr Qk 0)/\B.2.heap.get b=some (.map es since)/\B.1.get (key g.t18)=none/\B.1.get (key g.t19)=none/\
     ∀ρ' a' w',LI C nt g B b Qk es since r nH Wx w0 (seen.push e.2.2) ρ' a' w'->Q .normal a' w'):
   (ale g o0 o1 tS rest i3 i4 b0 b1).wp P Q a w:=by
 obtain⟨c,hr,hsc⟩:=L.it;obtain⟨g1,g2,es',q1,q2,q3⟩:=L.S.W.live b _ L.mp;obtain⟨aV,hnd⟩:=adA dY;have hat:∀(i:Nat)(e':MapEntry),es'[i]? =some e'->∃e,es[i]? =some e/\aD ρ A.2.next.toNat C e.1 e'.key/\aD ρ A.2.next.toNat C e.2.1 e'.val/\e.2.2=e'.born:=λi e' h=>by
   have hi:i<es.length:=(by rw[q2];exact(Zd3.1 h).1);exact⟨_,H0 hi,q3 i _ e' (H0 hi) h⟩
 have hold:∀x∈es'.toList,x.born<since:=λx hx=>by
   obtain⟨i,hi⟩:=Ze3.1 hx;obtain⟨e,h1,_,_,h2⟩:=hat i x (by simpa using hi);rw[<-h2];exact aV e (Zc0 h1)
 have dZ:es'.toList.map (·.born)=es.map (·.2.2):=by
   apply Zi7;intro i;simp only[Zb4,Zj7];cases h:es'[i]? with
   | none=>
     have:es.length<=i:=(by rw[q2];exact Array.getElem?_eq_none_iff.1 h);rw[Zc4 this];rfl
   | some x=>
     obtain⟨e,h1,_,_,h2⟩:=hat i x h;rw[h1];simp[h2]
 have hit:a.eval (.tmp g.t17)= .pointer (some ⟨r,0,none⟩):=by
   have h:=B4 (x:= .tmp g.t17) (o:= .t (key g.t17)) rfl L.S.F (v:= .ptr Qk 0) L.at17;obtain⟨_,h⟩:=h.qy;rw[h,L.ip.1,L.ip.2.1]
 have gU:=L.S.size;have NY:∀(v:Value),g.t18<(a.put (some g.t18) v).tmps.size:=λv=>by rw[Act.ke,gU];exact hR.lt.2.1
 have hrl:r<w.heap.size:=(Zd3.1 hr).1;unfold ale;apply wp_seq;apply wp_region;show wpOps P _ _ [0,1] a w;rcases run_next_at (P:=P) w o0.type r (ρ b).aN since c seen es' since hr q1 hold hsc with⟨h0,dR⟩|⟨e',rH,w1,oa,dR⟩
 . refine Cy (i:=0) (o:=o0) rfl hR.n0.2.1 (v:= .tuple #[.bool false]) (w':=w) (by simp[execOp,hR.n0.1,hit,dR,Result.andThen]) ?_;rw[hR.n0.2.2];refine Cy (i:=1) (o:=o1) rfl hR.n1.2.1 (v:= .bool false) (w':=w) (by simp[execOp,hR.n1.1,eval_put (gU ▸hR.lt.2.1),Instr.extract,Result.andThen]) ?_;rw[hR.n1.2.2];apply wp_seq;refine wp_cond_false (eval_put (by rw[Act.ke,gU];exact hR.lt.2.2.1)) (wp_exit ?_);refine alf (λe he=> ?_) _ ⟨L.S.W,λp v hp=> ?_,by rw[Act.ke,Act.ke];exact gU,by rw[Act.mB,Act.mB];exact L.S.defers⟩
   . obtain⟨i,hi⟩:=Ze3.1 he;have hi':i<es'.size:=(by rw[<-q2];exact(Za1.1 hi).1);obtain⟨e2,h1,_,_,h2⟩:=hat i _ (Zg5 hi');rw[hi]at h1;cases h1;rw[h2];have hem:leftOf es' seen= #[]:=Zo0 h0;unfold leftOf at hem;rw[Array.filter_eq_empty_iff]at hem;have:=hem es'[i] (Array.getElem_mem hi');simpa using this
   . rw[NU (λh=>by simp at h;subst h;rw[L.cl.2]at hp;cases hp),NU (λh=>by simp at h;subst h;rw[L.cl.1]at hp;cases hp)];exact L.S.F p v hp
 . have hr1:w1.heap[r]? =some (.mapIter (some (ρ b).aN) since seen c):=(by rcases oa with rfl|rfl<;>exact hr);have jy:w1.heap[(ρ b).aN]? =some (.map es' since):=(by rcases oa with rfl|rfl<;>exact q1);have IG:=Go.MapKept.heap_set (o':= .mapIter (some (ρ b).aN) since (seen.push e'.born) since) hr1;obtain⟨w2,kW⟩:∃w2,w2=Go.ChangeMaps.setBlock w1 r (.mapIter (some (ρ b).aN) since (seen.push e'.born) since):=⟨_,rfl⟩
   (change (Go.ChangeMaps.setBlock w1 r (.mapIter (some (ρ b).aN) since (seen.push e'.born) since)).heap[r]? =_/\∀k,k≠r->(Go.ChangeMaps.setBlock w1 r (.mapIter (some (ρ b).aN) since (seen.push e'.born) since)).heap[k]? =_ at IG;rw[<-kW]at IG dR;have rJ:w2.heap.size=w.heap.size:=(by rw[kW];rcases oa with rfl|rfl<;>simp[Go.ChangeMaps.setBlock]<;>rfl);have uk:∀k,k≠r->w2.heap[k]? =w.heap[k]? :=λk hk=>(IG.2 k hk).trans (by rcases oa with rfl|rfl<;>rfl));have Wj:w2.os=w.os/\w2.tape=w.tape/\w2.output=w.output:=(by rw[kW];rcases oa with rfl|rfl<;>exact⟨rfl,rfl,rfl⟩);clear kW oa;have hW2:cq ρ C A.2 w2:=L.S.W.iter hr L.sY rJ uk;have hen:(Instr.entry (.pointer (some ⟨r,0,none⟩))).run P w2= .ok (.tuple #[e'.key,e'.val]) w2:=
     run_entry_at _ r _ since seen es' since e' IG.1 ((uk _ (L.sY b _ L.mp)).trans q1) (by simp[leftOf]at rH;simpa using rH.1) (dZ ▸hnd)
   obtain⟨i,hi⟩:=Ze3.1 rH;have Dp:e'∈es'.toList/\seen.contains e'.born=false:=(by simpa [leftOf]using rH);obtain⟨j,hj⟩:=Ze3.1 Dp.1;obtain⟨e,h1,v1,v2,h2⟩:=hat j e' (by simpa using hj);obtain⟨B,⟨f1,s1,hx,hf,hB⟩,b17,bm,b18,b19,hQ⟩:=auM e (Zc0 h1) (by rw[h2];exact Dp.2);refine Cy (i:=0) (o:=o0) rfl hR.n0.2.1 (v:= .tuple #[.bool true,e'.key,e'.val]) (w':=w2) (by simp[execOp,hR.n0.1,hit,dR,Result.andThen]) ?_;rw[hR.n0.2.2];refine Cy (i:=1) (o:=o1) rfl hR.n1.2.1 (v:= .bool true) (w':=w2) (by simp[execOp,hR.n1.1,eval_put (gU ▸hR.lt.2.1),Instr.extract,Result.andThen]) ?_;rw[hR.n1.2.2];apply wp_seq;refine wp_cond_true (eval_put (by rw[Act.ke,gU];exact hR.lt.2.2.1)) (wp_skip ?_);apply wp_block;apply wp_seq;apply wp_region;have hln:tS.size=g.l4.length+1:=(by have h:Ul.length=tS.size:=(by rw[(xD hR.c4).1,Zi6]);obtain⟨h4,_⟩:=Zd3.1 hR.n4.1;have h4:0<tS.size:=h4;rw[<-hR.l4,List.length_tail];omega);rw[hln,Zm0,Zp9];refine Cy (i:=0) (o:=o4) hR.n4.1 hR.n4.2.2.1 (v:= .tuple #[e'.key,e'.val]) (w':=w2) (by simp[execOp,hR.n4.2.1,Z8 hR.ne.1.symm,Z8 hR.ne.2.1.symm,hit,hen,Result.andThen]) ?_;rw[hR.n4.2.2.2];unfold alc at hx;simp only[nU]at hx;rw[YQ none hc]at hx;unfold uI at hx;(split at hx<;>first|(cases hx;done)|skip);rename_i y hy;simp only[am5 hc]at hx;have hvt:aD ρ A.2.next.toNat C (.tuple [.bool true,e.1,e.2.1]) (.tuple #[.bool true,e'.key,e'.val]):= .yH ((aL.nil.cons v2).cons v1 |>.cons (.bool true));have hve:aD ρ A.2.next.toNat C (.tuple [e.1,e.2.1]) (.tuple #[e'.key,e'.val]):= .yH ((aL.nil.cons v2).cons v1);have F1:=kY.put (nt:=nt) (d:=some g.t18) L.S.F gU (λ_ h=>by cases h;exact hR.lt.2.1) hvt;have F2:=kY.put (nt:=nt) (d:=some g.t19) F1 (by rw[Act.ke];exact gU) (λ_ h=>by cases h;exact hR.lt.2.2.1) (.bool true);have F3:=kY.put (nt:=nt) (d:=some g.t20) F2 (by rw[Act.ke,Act.ke];exact gU) (λ_ h=>by cases h;exact hR.lt.2.2.2) hve;refine Dj (nt:=nt) hT dG g.l4 1 _ y.1 A.2 y.2 ρ _ w2 (λi ao hi=> ?_) hy ⟨hW2,F3,by rw[Act.ke,Act.ke,Act.ke];exact gU,by rw[Act.mB,Act.mB,Act.mB];exact L.S.defers⟩ λa3 w3 hp=> ?_
   . rw[<-hR.l4,List.getElem?_tail]at hi;obtain⟨o,k1,k2,_⟩:=R5 hR.c4 (i+1) ao hi;exact⟨o,by rw[Zq2];exact k1,k2⟩
   obtain⟨ρ3,S3,k1,k2,k3⟩:=hp;(refine(Dk hT dG mh m).1 rest g.body y.1 f1 y.2 s1 .normal ρ3 a3 w3 _ hR.r4 hx S3 λa4 w4 hp=> ?_);have hP:=kP.trans k1 k2 k3 hp;show Q .normal a4 w4;have S2:yO nt ρ C A.1 A.2 a w2:=⟨hW2,L.S.F,gU,L.S.defers⟩
   have hE2:qi nH Wx w0 ρ A.2 w2:=⟨Wj.1.trans L.E.os,Wj.2.1.trans L.E.tape,Wj.2.2.trans L.E.output,by rw[rJ];exact L.E.size,λk hk hn=>(uk k (by have:=L.late;omega)).trans (L.E.block k hk hn),λb x hb=>L.E.yI b x hb⟩
   obtain⟨ρ4,S4,l1,l2,E4⟩:∃ρ4,yO nt ρ4 C B.1 B.2 a4 w4/\(∀p:Pos,p.toNat<A.2.next.toNat->ρ4 p=ρ p)/\A.2.next.toNat<=B.2.next.toNat/\qi ρ A.2 w2 ρ4 B.2 w4:=by
     rcases hB with⟨rfl,hk⟩|hB
     .  obtain⟨S,E⟩:=S2.back hf hk hP;exact⟨ρ,S,λ_ _=>rfl,Za3 _,E⟩
     .  obtain⟨ρ4,S,l1,l2,E⟩:=hP;rw[<-hB]at S l2 E;exact⟨ρ4,⟨S.W,S.F.sub hf,S.size,S.defers⟩,l1,l2,E⟩
   have h4r:w4.heap[r]? =some (.mapIter (some (ρ b).aN) since (seen.push e.2.2) since):=(by rw[E4.block r (by rw[rJ];exact hrl) L.sY,h2];exact IG.1);refine hQ ρ4 a4 w4 ⟨S4,λp hp=>(l1 p (Zd0 hp L.k2)).trans (L.k1 p hp),Zb0 L.k2 l2,hE2.trans E4,?_,b17,bm,⟨since,?_,Za3 _⟩,λp x hp=> ?_,L.late,b18,b19⟩
   . rw[l1 Qk L.ip.2.2];exact⟨L.ip.1,L.ip.2.1,Zd0 L.ip.2.2 l2⟩
   . rw[l1 b g1];exact h4r
   . rcases E4.yI p x hp with⟨p',x',hp',e1⟩|h
     .  rw[<-e1];exact L.sY p' x' hp'
     .  rw[rJ]at h;omega
theorem am6{α:Type}{p q:α->Bool}(h:∀x,q x=true->p x=true){e:α}(hp:p e=true)(hq:q e=false):∀{l:List α},e∈l->(l.filter q).length<(l.filter p).length
 |[],h=>by simp at h
 |x ::l,hm=>by
  have hle:∀l:List α,(l.filter q).length<=(l.filter p).length:=λl=>by
    induction l with
    |nil=>simp
    |   cons y l ih=>
        have:=h y;cases hqy:q y<;>cases hpy:p y<;>simp_all<;>omega
  rcases Za8.1 hm with rfl|hm
  . simp only[List.filter_cons,hp,hq,Zh7,Zf4,Zh0,Zc9];have:=hle l;omega
  . have ih:=am6 h hp hq hm;have:=h x;cases hqx:q x<;>cases Cz:p x<;>simp_all<;>omega
theorem born_inj:∀{es:List (AV×AV×Nat)},(es.map (·.2.2)).Nodup->∀x∈es,∀y∈es,x.2.2=y.2.2->x=y
 |[],_,_,h,_,_,_=>by simp at h
 |e::es,hn,x,hx,y,hy,he=>by
  rw[Zd2,List.nodup_cons]at hn;rcases Za8.1 hx with h1|h1<;>rcases Za8.1 hy with h2|h2
  . rw[h1,h2]
  . subst h1;exact(hn.1 (he ▸Zc7.2 ⟨y,h2,rfl⟩)).elim
  . subst h2;exact(hn.1 (he ▸Zc7.2 ⟨x,h1,rfl⟩)).elim
  . exact born_inj hn.2 x h1 y h2 he
theorem LI.rounds(hT:di P tt)(hc:CK none bW call)(dG:jd P C call)(mh:yP P tt C call)(hR:apt tt nt g o0 o1 o4 tS rest Ul bs)
  {X:Bool->Fr×St} {act:Nat} {b Qk:Pos} {es:List (AV×AV×Nat)} {since r:Nat} {nH:Pos->Loc} {Wx:St} {w0:World} (dY:ady since es=true) {Q:Exit->Act->World->Prop}
  (hm:∀e∈es,(e.2.2=act->Mv bW m g (X false) (X true) e)/\(e.2.2≠act->∀f,Mv bW m g (X f) (X f) e))
  (hX:∀f,(X f).1.get (key g.t17)=some (.ptr Qk 0)/\(X f).2.heap.get b=some (.map es since)/\(X f).1.get (key g.t18)=none/\(X f).1.get (key g.t19)=none)
  (apu:(∃e∈es,e.2.2=act)\/X false=X true)
  (hQ:∀a' w',kP nt nH C Wx w0 (X true).1 (X true).2 a' w'->Q (.exit b0) a' w'):
  ∀ (n:Nat)(seen:Array Nat)(ρ:Pos->Loc)(a:Act)(w:World),(es.filter λe=> !seen.contains e.2.2).length<n->LI C nt g (X (seen.contains act)) b Qk es since r nH Wx w0 seen ρ a w->
    Code.rounds P (ale g o0 o1 tS rest i3 i4 b0 b1) Q n a w:=by
 intro n;induction n with
 |zero=>intro seen ρ a w hn;omega
 |succ n ih=>
  intro seen ρ a w hn L;rw[rounds_succ];refine L.round (m:=m) hT hc dG mh hR dY (λoY a' S=> ?_) λe he hs=> ?_
  . have hx:X (seen.contains act)=X true:=by
        rcases apu with⟨e,he,rfl⟩|h
        . rw[oY e he]
        . cases seen.contains act
          . exact h
          . rfl
    rw[hx]at S L;exact hQ a' w ⟨ρ,S,L.k1,L.k2,L.E⟩
  . have hp:∀y,(seen.push e.2.2).contains y=(seen.contains y||y==e.2.2):=λy=>by
        rw[Array.contains_push]
    have aV:(es.filter λx=> !(seen.push e.2.2).contains x.2.2).length<(es.filter λx=> !seen.contains x.2.2).length:=
        am6 (e:=e) (λx hx=>by simp only[hp]at hx;simp at hx ⊢; exact hx.1) (by show(!seen.contains e.2.2)=true;rw[hs];rfl) (by show(!(seen.push e.2.2).contains e.2.2)=false;rw[hp];simp) he
    refine⟨X ((seen.push e.2.2).contains act),?_,(hX _).1,(hX _).2.1,(hX _).2.2.1,(hX _).2.2.2,λρ' a' w' L'=>ih _ ρ' a' w' (by omega) L'⟩;rw[hp act];by_cases ha:e.2.2=act
    .   subst ha;rw[hs];simpa using(hm e he).1 rfl
    .   have:(act==e.2.2)=false:=(by simpa using λh=>ha h.symm);rw[this,Bool.or_false];exact(hm e he).2 ha _
theorem LQ:∀(ps:List Pos)(fr:Fr)(p:Pos),p∈ps\/fr.get p=none->(clr ps fr).get p=none
 |[],_,_,h=>h.elim (λh=>by simp at h) id
 |q ::ps,fr,p,h=>LQ ps _ p (by
  by_cases hq:q=p
  . subst hq;exact .inr (T.gH _ _ _)
  . rcases h with h|h
    .   rcases Za8.1 h with h|h
        . exact(hq h.symm).elim
        . exact .inl h
    .   exact .inr (by rw[T.bX _ hq];exact h))
theorem NZ{ops:Array Oper}{Q:Exit->Act->World->Prop}{l2:List Nat}:∀(l1:List Nat)(a:Act)(w:World),wpOps P ops (Exit.then (wpOps P ops Q l2) Q) l1 a w->wpOps P ops Q (l1++l2) a w
 |[],_,_,h=>h
 |i ::l1,a,w,h=>by
  rw[Zd7];unfold wpOps at h ⊢;split
  . rename_i ho;rw[ho]at h;exact NZ l1 a w h
  . rename_i o ho;rw[ho]at h;simp only at h;split
    .   rename_i hw;rw[Zb3 hw]at h;refine h.imp (λh=> ?_) id;have h:=Oper.wp_mono (K':=wpOps P ops Q (l1++l2)) (λa w h=>NZ l1 a w h) h;unfold Oper.wp at h ⊢;generalize (execOp a.eval o).run P w=r at h ⊢;rcases r with⟨x,w⟩|⟨x,w⟩
        . cases x<;>exact h
        . cases x<;>exact h
    .   rename_i hw;rw[Za7 hw]at h;exact NZ l1 _ w h
theorem cq.slot{ρ ρ':Pos->Loc}{st:St}{w:World}(hW:cq ρ C st w)(bF:∀p:Pos,p.toNat<st.next.toNat->ρ' p=ρ p):cq ρ' C ⟨st.heap,st.next.succ⟩ w:=by
 have hl:∀p x,st.heap.get p=some x->ρ' p=ρ p:=λp x hp=>bF p (hW.live p x hp).1
 refine⟨λp x hp=> ?_,λp q x y hp hq h=> ?_,λa v ha=>⟨(hW.eD a v ha).1,λp x hp=> ?_⟩,hW.whole⟩
 . obtain⟨h1,h2,h3⟩:=hW.live p x hp;rw[hl p x hp];exact⟨by rw[Pos.aC];exact Nat.lt_succ_of_lt h1,h2,h3.mono bF (by rw[Pos.aC];omega)⟩
 . rw[hl p x hp,hl q y hq]at h;exact hW.inj p q x y hp hq h
 . rw[hl p x hp];exact(hW.eD a v ha).2 p x hp
theorem pF.rng(hT:di P tt)(hc:CK none bW call)(dG:jd P C call)(mh:yP P tt C call)(hR:apt tt nt g o0 o1 o4 tS rest Ul bs)
   {Ds:Array Oper} {l2f:List bS} {o2:Oper} {x:Operand} {ty kt et:TypeId} {i2:Nat} {bs2:List Nat} (h2:uE tt nt Ds Ds.toList bs2=some l2f) (rI:l2f.dropLast=g.l2)
   (Wj:Ds[g.l2.length]? =some o2) (rJ:Ds.size=g.l2.length+1) (hop:o2.op= .range ty x) (Aj:o2.guard=none) (hd2:o2.dst=some g.t17) (hx:uD x=some g.x) (apv:P.underlying ty=some (.map kt et))
   (Qb:key g.t18∈g.ds/\key g.t19∈g.ds):pF P C nt (.seq (.region i2 Ds false) (.block b0 (.loop (ale g o0 o1 tS rest i3 i4 b0 b1)))) (ald bW m g):=by
 intro fr bG st st' e ρ a w Q h hS hQ;unfold ald at h;rw[YQ none hc]at h;unfold uI at h;split at h<;>first|(cases h;done)|skip
 rename_i y hy;simp only[agT]at h;unfold uI at h;split at h<;>first|(cases h;done)|skip
 rename_i v hv;dsimp only at h;split at h<;>first|(cases h;done)|skip
 rename_i b;simp only[Cx]at h;split at h<;>first|(cases h;done)|skip
 rename_i es clock hb;split at h<;>first|(cases h;done)|skip
 rename_i dY;simp only[ajU,nU,Sj]at h;apply wp_seq;apply wp_region;rw[rJ,Zf8];apply NZ;rw[Zm0];refine Dj (nt:=nt) hT dG g.l2 0 fr y.1 st y.2 ρ a w (λi ao hi=> ?_) hy hS λa2 w2 hp=> ?_
 . rw[<-rI,List.getElem?_dropLast]at hi;(split at hi<;>first|(cases hi;done)|skip);obtain⟨o,k1,k2,_⟩:=R5 h2 i ao hi;exact⟨o,by rw[Zc3];exact k1,k2⟩
 obtain⟨vq,S2,k1,k2,E2⟩:=hp;obtain⟨hbn,Wn⟩:=(B4 hx S2.F hv).Cv;obtain⟨g1,g2,es',q1,q2,q3⟩:=S2.W.live b _ hb;obtain⟨Ql,hf3⟩:∃f,f=(clr g.ds y.1).put (some (.ptr y.2.next 0)) (key g.t17):=⟨_,rfl⟩
 rw[<-hf3]at h;obtain⟨Fj,Hp⟩:∃s:St,s=⟨y.2.heap,y.2.next.succ⟩:=⟨_,rfl⟩
 rw[<-Hp]at h;have n18:key g.t17≠key g.t18:=λe=>hR.ne.1 (by have:=congrArg Pos.toNat e;rw[iQ,iQ]at this;omega)
 have n19:key g.t17≠key g.t19:=λe=>hR.ne.2.1 (by have:=congrArg Pos.toNat e;rw[iQ,iQ]at this;omega)
 have key:∃(X:Bool->Fr×St) (act:Nat),X false=(Ql,Fj)/\e= .normal/\X true=(bG,st')/\(∀e∈es,(e.2.2=act->Mv bW m g (X false) (X true) e)/\(e.2.2≠act->∀f,Mv bW m g (X f) (X f) e))/\
     (∀f,(X f).1.get (key g.t17)=some (.ptr y.2.next 0)/\(X f).2.heap.get b=some (.map es clock)/\(X f).1.get (key g.t18)=none/\(X f).1.get (key g.t19)=none)/\((∃e∈es,e.2.2=act)\/X false=X true):=by
   have hX0:Ql.get (key g.t17)=some (.ptr y.2.next 0)/\Fj.heap.get b=some (.map es clock)/\Ql.get (key g.t18)=none/\Ql.get (key g.t19)=none:=by
     rw[hf3,Hp,T.gH,T.bX _ n18,T.bX _ n19];exact⟨rfl,hb,LQ _ _ _ (.inl Qb.1),LQ _ _ _ (.inl Qb.2)⟩
   split at h
   . (rename_i ag2;simp only[H5,Zd1]at h;obtain⟨rfl,rfl,rfl⟩:=h;have hid:∀e∈es,Mv bW m g (Ql,Fj) (Ql,Fj) e:=λe he=>adB (by rw[List.filter_eq_nil_iff]at ag2;have:=ag2 e he;simpa using this));exact⟨λ_=>(Ql,Fj),0,rfl,rfl,rfl,λe he=>⟨λ_=>hid e he,λ_ _=>hid e he⟩,λ_=>hX0,.inr rfl⟩
   . (rename_i e1 ag2;(split at h<;>first|(cases h;done)|skip);rename_i f1 s1 hr1;(split at h<;>first|(cases h;done)|skip);rename_i y1 v1 V9 hv1;(split at h<;>first|(cases h;done)|skip);rename_i oY;simp only[H5,Zd1]at h;obtain⟨rfl,rfl,rfl⟩:=h;simp only[Zb6]at oY;obtain⟨⟨c1,c2⟩,c3⟩:=oY;have c1:=aaU c1;have c2:=yQ c2;subst c1;subst c2;have Dp:e1∈es:=by have:e1∈es.filter (λe=> !Su bW m g Ql Fj e):=(by rw[ag2];simp);exact(Zl3.1 this).1);refine⟨λf=>if f then(clr g.ds f1,s1)else(Ql,Fj),e1.2.2,rfl,rfl,rfl,λe he=>⟨λhb=> ?_,λhb f=> ?_⟩,λf=> ?_,.inl ⟨e1,Dp,rfl⟩⟩
     .  obtain rfl:=born_inj (adA dY).2 e he e1 Dp hb;exact⟨f1,s1,hr1,adz _ _,.inr rfl⟩
     .  cases f
        . refine adB ?_;cases hi:Su bW m g Ql Fj e
          . have:e∈es.filter (λe=> !Su bW m g Ql Fj e):=Zl3.2 ⟨he,by rw[hi];rfl⟩;rw[ag2]at this;simp at this;exact(hb (by rw[this])).elim
          . rfl
        . refine adB ?_;have:=Zg7.1 c3 e he;simp only[Zj4]at this;exact this.resolve_left λh=>hb (Za6 h)
     .  cases f
        . exact hX0
        . exact⟨hv1,V9,LQ _ _ _ (.inl Qb.1),LQ _ _ _ (.inl Qb.2)⟩
   . cases h
 obtain⟨X,act,x0,rfl,x1,hm,hX,apu⟩:=key;show wpOps P _ _ [g.l2.length] a2 w2
 refine Cy Wj Aj (v:= .pointer (some ⟨w2.heap.size,0,none⟩)) (w':=w2.alloc (.mapIter (some (vq b).aN) clock #[] clock))
   (by simp[execOp,hop,Wn,run_range_map (P:=P) w2 ty kt et (vq b).aN es' clock apv q1,Result.andThen]) ?_
 rw[hd2];show(Code.block b0 _).wp P Q _ _;apply wp_block;have hold:∀k,k<w2.heap.size->(w2.alloc (.mapIter (some (vq b).aN) clock #[] clock)).heap[k]? =w2.heap[k]? :=λk hk=>heap_alloc_old w2 _ hk
 have gU:(w2.alloc (.mapIter (some (vq b).aN) clock #[] clock)).heap.size=w2.heap.size+1:=by simp
 obtain⟨ρ3,h3,bF⟩:∃ρ3:Pos->Loc,ρ3 y.2.next=⟨w2.heap.size,0,0⟩/\∀p:Pos,p.toNat<y.2.next.toNat->ρ3 p=vq p:=
   ⟨λp=>if p=y.2.next then⟨w2.heap.size,0,0⟩else vq p,Zb3 rfl,λp hp=>Za7 λe=>by subst e;omega⟩
 have hW3:cq ρ3 C Fj (w2.alloc (.mapIter (some (vq b).aN) clock #[] clock)):=by rw[Hp];exact(S2.W.slot bF).grow (by omega) hold
 have Wq:Fj.next.toNat=y.2.next.toNat+1:=by rw[Hp];exact Pos.aC _
 have hF3:kY ρ3 Fj.next.toNat C Ql (a2.put (some g.t17) (.pointer (some ⟨w2.heap.size,0,none⟩))).tmps:=by rw[hf3];refine kY.put (nt:=nt) (d:=some g.t17) ((S2.F.sub (adz _ _)).mono bF (by omega)) S2.size (λ_ h=>by cases h;exact hR.lt.1) ?_;have:=aD.ptr (ρ:=ρ3) (C:=C) y.2.next 0 (n:=Fj.next.toNat) (by omega);rw[h3]at this;exact this
 refine wp_loop_rounds (es.length+1) (LI.rounds (m:=m) (nH:=vq) (Wx:=y.2) (w0:=w2) (r:=w2.heap.size) hT hc dG mh hR dY hm hX apu (λa' w' hp=> ?_) (es.length+1) #[] ρ3 _ _
   (Nat.lt_succ_of_le (Zl6 ..)) ?_)
 . rw[x1]at hp;simp only[Exit.inBlock,Zh7];exact hQ a' w' (kP.trans k1 k2 E2 hp)
 . have:X ((#[]:Array Nat).contains act)=(Ql,Fj):=(by simpa using x0);rw[this];refine⟨⟨hW3,hF3,by rw[Act.ke];exact S2.size,by rw[Act.mB];exact S2.defers⟩,bF,by show y.2.next.toNat<=Fj.next.toNat;omega,
     ⟨rfl,rfl,rfl,by rw[gU];omega,λk hk _=>hold k hk,λp x hp=> .inl ⟨p,x,by rw[Hp]at hp;exact hp,by
        rw[Hp]at hp;rw[bF p (S2.W.live p x hp).1]⟩⟩,⟨by rw[h3],by rw[h3],by show _<Fj.next.toNat;omega⟩,x0 ▸(hX false).1,x0 ▸(hX false).2.1,⟨clock,?_,Za3 _⟩,λp x hp=> ?_,Za3 _,x0 ▸(hX false).2.2⟩
   . rw[bF b g1];exact heap_alloc_new w2 _
   . rw[Hp]at hp;obtain⟨l1,l2,_⟩:=S2.W.live p x hp;rw[bF p l1];omega
end
end
def xfn(ex:Fr->St->XR)(np:Nat)(rs:List PT)(args:List AV)(st:St):Option (AV×St):=match Nat.beq args.length np with
 |  true=>match PZ args 0 .e λfr=>ex fr st with
    |some (.exit _,_,_)=>none
    |some (_,fr,st')=>match gR (λb=>BZ b st'.heap) fr rs,Nat.ble st.next.toNat st'.next.toNat with
     |some vs,true=>some (zQ vs,st')
     |_,_=>none
    |none=>none
 |false=>none
section
variable{P : Program}{tt : TT}{C : Cells}
theorem atH(hT:di P tt){f np:Nat}{fn:Func}{c:Code}{ex:Fr->St->XR}{rs:List PT}(hf:P.funcs[f]? =some fn)(pX:(fn.name== "runtime.NumGoroutine")=false)(hb:fn.body=some c)
  (hx:pF P C fn.ntmps c ex) (hr:qG tt fn.results.toList=some rs) (hle:np<=fn.ntmps):tR P C f (xfn ex np rs) where
 mono args st v st' h:=by
  unfold xfn at h;split at h<;>first|(cases h;done)|skip
  split at h<;>first|(cases h;done)|skip
  split at h<;>first|(cases h;done)|skip
  rename_i hn;cases h;exact Zb2 hn
 runs ρ st w args v st' cL h hW yg:=by
  unfold xfn at h;split at h<;>first|(cases h;done)|skip
  rename_i hlen;have hlen:=Za6 hlen;rw[Sl]at h;split at h<;>first|(cases h;done)|skip
  rename_i e ff bw cZ h1;split at h<;>first|(cases h;done)|skip
  rename_i vs Dg _;simp only[H5,Zd1]at h;obtain⟨rfl,rfl⟩:=h;have dR:(callFunc f cL.toArray).run P w= .ok (.enter f cL.toArray) w:=by
   have agM:¬fn.name= "runtime.NumGoroutine" :=(by simpa using pX);simp[callFunc,hf,agM,hb]
  rw[dR];simp only[Reaches];refine calls_of_wp hf hb ?_;have gU:cL.length<=fn.ntmps:=by rw[<-yg.1,hlen];exact hle
  have hS:yO fn.ntmps ρ C (params 0 args .e) st { tmps:=cL.toArray++Array.replicate (fn.ntmps - cL.toArray.size) undef,defers:=[] } w:=by
   refine⟨hW,?_,?_,rfl⟩
   .    refine R6 args cL 0 .e yg (λj x hx=> ?_) (λp v hp=>by rw[T.dP]at hp;cases hp);have hj:j<cL.length:=(Za1.1 hx).1;rw[Zc3,Zp5 (by simpa using hj)];simpa using hx
   .    simp;omega
  refine hx _ ff st bw e ρ _ w _ h1 hS λa' w' hp=> ?_
  obtain⟨jY,Ah,k1,k2,k3⟩:=hp;simp only[Cx]at Dg;obtain⟨y,V9,hy2⟩:=IE hT Ah.W Ah.F hr Dg;cases e with
  |exit id=>exact(cZ id rfl).elim
  |normal=>exact⟨Ah.defers,y,V9,jY,hy2,k1,k2,Ah.W,k3⟩
  |ret=>exact⟨Ah.defers,y,V9,jY,hy2,k1,k2,Ah.W,k3⟩
def idxS:List AV->St->Option (AV×St)
 |[.str a,.int .u8 c],st=>some (.int .i64 (Lib.indexByte (a.map UInt8.ofNat) c.toNat.toUInt8),st)
 |_,_=>none
def alg:List AV->St->Option (AV×St)
 |[.str a,.int .u8 c],st=>some (.int .i64 (Lib.countByte (a.map UInt8.ofNat) c.toNat.toUInt8),st)
 |_,_=>none
theorem am7{bs:ByteArray}{a:List Nat}(h:bs.data.toList.map UInt8.toNat=a):a.map UInt8.ofNat=bs.data.toList:=by
 rw[<-h,Zh4];have:(UInt8.ofNat∘UInt8.toNat)=id:=by funext c;simp
 rw[this,Zr1]
theorem aeK{f:FuncId}{fn:Func}{s:List AV->St->Option (AV×St)}{X:List UInt8->UInt8->Int}{e:Array Value->Sem Value}(hs:∀args st,s args st=match args with
   |[.str a,.int .u8 c]=>some (.int .i64 (X (a.map UInt8.ofNat) c.toNat.toUInt8),st)
   |_=>none)
  (hr:∀(b:ByteArray)(c:Int)(w:World),(e #[.string b,.int .u8 c]).run P w= .ok (.int .i64 (X b.data.toList c.toNat.toUInt8)) w)
  (hf:P.funcs[f]? =some fn) (pX:(fn.name== "runtime.NumGoroutine")=false) (hb:fn.body.isNone=true) (hx:Extern.findNext fn=none) (he:Extern.find fn=some e):tR P C f s where
 mono args st v st' h:=by rw[hs]at h;split at h<;>cases h;exact Za3 _
 runs ρ st w args v st' cL h hW hv:=by
  rw[hs]at h;split at h<;>cases h;rename_i a c;obtain⟨x,xs,rfl,h1,h2⟩:=hv.cons_inv;obtain⟨y,ys,rfl,h3,h4⟩:=h2.cons_inv;have:=h4.qx;subst this;obtain⟨b,rfl,dZ⟩:=h1.fu;have:=h3.iM;subst this;have dR:(callFunc f [Value.string b,Value.int .u8 c].toArray).run P w= .ok (.value (.int .i64 (X b.data.toList c.toNat.toUInt8))) w:=by rw[run_callFunc_extern hf pX hb hx he];show((e #[.string b,.int .u8 c]).run P w).andThen _=_;rw[hr];rfl
  rw[dR];refine⟨ρ,?_,λ_ _=>rfl,Za3 _,hW,qi.refl _ _ _⟩;rw[am7 dZ];exact .int _ _
theorem apw{f:FuncId}{fn:Func}(hf:P.funcs[f]? =some fn)(pX:(fn.name== "runtime.NumGoroutine")=false)(hb:fn.body.isNone=true)(hx:Extern.findNext fn=none)
  (he:Extern.find fn=some Extern.BytealgIndexByte.indexByte):tR P C f idxS:=
 aeK (X:=Lib.indexByte) (λargs st=>by unfold idxS;split<;>first|rfl|(split<;>first|rfl|simp_all)) (λb c w=>Lib.run_indexByteString b c w) hf pX hb hx he
theorem apx{f:FuncId}{fn:Func}(hf:P.funcs[f]? =some fn)(pX:(fn.name== "runtime.NumGoroutine")=false)(hb:fn.body.isNone=true)(hx:Extern.findNext fn=none)
  (he:Extern.find fn=some Extern.BytealgCount.count):tR P C f alg:=
 aeK (X:=λl c=>Lib.countByte l c) (λargs st=>by unfold alg;split<;>first|rfl|(split<;>first|rfl|simp_all)) (λb c w=>Lib.run_countString b c w) hf pX hb hx he
end
def Sv:Code->List Nat
 | .region _ ops _=>ops.toList.filterMap (·.dst)
 | .seq a b=>Sv a++Sv b
 | .cond _ a b=>Sv a++Sv b
 | .block _ a=>Sv a
 | .loop a=>Sv a
 |_=>[]
def arA (tt :TT)(nt:Nat)(ds:List Nat)(b0 b0' t19:Nat)(o2 o0 o1 o4:Oper)(l2f Ul:List bS)(body:AC):Option (RG×Nat):=
 match o2.op,o0.op,o1.op,o4.op with
 |  .range ty x,.next (.tmp a0) false,.extract (.tmp a1) 0,.entry (.tmp a4)=>match o2.dst,o0.dst,o1.dst,o4.dst with
    |some t17,some t18,some c,some t20=>match o2.guard,o0.guard,o1.guard,o4.guard with
     |  none,none,none,none=>match uD x with
        |some xo=>match Nat.beq a0 t17&&Nat.beq a1 t18&&Nat.beq a4 t17&&Nat.beq c t19&&Nat.beq b0 b0'&&Nat.blt t17 nt&&Nat.blt t18 nt&&Nat.blt t19 nt&&Nat.blt t20 nt&&
            !Nat.beq t17 t18&& !Nat.beq t17 t19&& !Nat.beq t18 t19 with
         |true=>some (⟨t17,t18,t19,t20,l2f.dropLast,xo,Ul.tail,body,key t18::key t19::ds.map key⟩,ty)
         |false=>none
        |_=>none
     |_,_,_,_=>none
    |_,_,_,_=>none
 |_,_,_,_=>none
def ag3 (tt:TT)(nt:Nat):Code->Option (RG×Nat)
 |  .seq (.region _ Ds false) (.block b0 (.loop (.seq (.region _ ⟨[o0,o1]⟩ false) (.seq (.cond (.tmp t19) .skip (.exit b0')) (.block _ (.seq (.region _ tS false) rest))))))=>
    match Ds[Ds.size - 1]?,tS[0]? with
    |some o2,some o4=>match uE tt nt Ds Ds.toList [],uE tt nt tS tS.toList []with
     |  some l2f,some Ul=>match vQ tt nt rest with
        |some body=>arA tt nt (tS.toList.filterMap (·.dst)++Sv rest) b0 b0' t19 o2 o0 o1 o4 l2f Ul body
        |none=>none
     |_,_=>none
    |_,_=>none
 |_=>none
section
variable{P : Program}{tt : TT}{C : Cells}{bW : sU XR}{call : au}{nt m : Nat}
theorem pF.ag3(hT:di P tt)(hc:CK none bW call)(dG:jd P C call)(mh:yP P tt C call){c:Code}{g:RG}{ty:Nat}(h:ag3 tt nt c=some (g,ty))
  {kt et:TypeId} (apv:P.underlying ty=some (.map kt et)):pF P C nt c (ald bW m g):=by
 unfold Go.Ai.ag3 at h;split at h<;>first|(cases h;done)|skip
 rename_i i2 Ds b0 i3 o0 o1 t19 b0' b1 i4 tS rest;split at h<;>first|(cases h;done)|skip
 rename_i o2 o4 Wj ho4;split at h<;>first|(cases h;done)|skip
 rename_i l2f Ul rI hl4;split at h<;>first|(cases h;done)|skip
 rename_i body alh;unfold arA at h;split at h<;>first|(cases h;done)|skip
 rename_i ty' x a0 a1 a4 p2 p0 p1 p4;split at h<;>first|(cases h;done)|skip
 rename_i t17 t18 c t20 d2 d0 d1 d4;split at h<;>first|(cases h;done)|skip
 rename_i g2 g0 g1 g4;split at h<;>first|(cases h;done)|skip
 rename_i xo hxo;split at h<;>first|(cases h;done)|skip
 rename_i hb;simp only[H5,Zd1]at h;obtain⟨rfl,rfl⟩:=h;simp only[Zb6,Zk2,Nat.beq_eq,Zq4]at hb;obtain⟨⟨⟨⟨⟨⟨⟨⟨⟨⟨⟨rfl,rfl⟩,rfl⟩,rfl⟩,rfl⟩,l17⟩,l18⟩,l19⟩,l20⟩,n1⟩,n2⟩,n3⟩:=hb;have hs:l2f.length=Ds.size:=(xD rI).1.trans (Zi6 ..);have h0:0<Ds.size:=by have:=(Zd3.1 Wj).1;omega
 exact pF.rng hT hc dG mh (i3:=i3) (i4:=i4) (b1:=b1) ⟨⟨p0,g0,d0⟩,⟨p1,g1,d1⟩,⟨ho4,p4,g4,d4⟩,⟨l17,l18,l19,l20⟩,⟨Ze8 n1,Ze8 n2,Ze8 n3⟩,hl4,rfl,alh⟩ rI rfl
  (by rw[List.length_dropLast,hs];exact Wj) (by show Ds.size=l2f.dropLast.length+1;rw[List.length_dropLast,hs];omega) p2 g2 d2 hxo apv ⟨by simp,by simp⟩
def Wy:Code->Bool
 | .region _ ops _=>ops.toList.any λo=>match o.op with| .range _ _=>true|_=>false
 | .seq a b=>Wy a||Wy b
 | .cond _ a b=>Wy a||Wy b
 | .block _ a=>Wy a
 | .loop a=>Wy a
 |_=>false
def spX (P:Program)(tt:TT)(bW:sU XR)(m nt:Nat):Code->Fr->St->XR
 |  .seq a b=>match Go.Ai.ag3 tt nt (.seq a b)with
    |some (g,ty)=>match P.underlying ty with
     |some (.map _ _)=>ald bW m g
     |_=>λ_ _=>none
    |none=>match Wy a||Wy b with
     |true=>aps (spX P tt bW m nt a) (spX P tt bW m nt b)
     |  false=>match vQ tt nt (.seq a b)with
        |some ac=>exK bW m ac
        |none=>λ_ _=>none
 |  c=>match vQ tt nt c with
    |some ac=>exK bW m ac
    |none=>λ_ _=>none
theorem pF.no{c:Code}:pF P C nt c (λ_ _=>none):=λ_ _ _ _ _ _ _ _ _ h=>by cases h
theorem pF.spX(hT:di P tt)(hc:CK none bW call)(dG:jd P C call)(mh:yP P tt C call):∀c:Code,pF P C nt c (spX P tt bW m nt c):=by
 intro c;induction c with
 |seq   a b iha ihb=>
  unfold Go.Ai.spX;split
  . split
    .   rename_i h _ _ _ hu;exact .ag3 hT hc dG mh h hu
    .   exact .no
  . split
    .   exact iha.seq ihb
    .   split
        . exact .ac hT hc dG mh (by assumption)
        . exact .no
 |_=>
  unfold Go.Ai.spX;split
  . exact .ac hT hc dG mh (by assumption)
  . exact .no
def aga(P:Program)(tt:TT)(O:eV)(G:T dO)(m d:Nat)(fn:Func):List AV->St->Option (AV×St):=
 match fn.body,qG tt fn.results.toList,Nat.ble (fn.params.size+fn.nfree) fn.ntmps with
 |some c,some rs,true=>xfn (spX P tt (NH none O G m d) m fn.ntmps c) (fn.params.size+fn.nfree) rs
 |_,_,_=>λ_ _=>none
theorem apy(hm:P.follows .mixedOrders=true)(hT:di P tt){O:eV}{G:T dO}(hO:vU P C O)(Ws:oh O)(hG:GOk P tt G){f d:Nat}{fn:Func}(hf:P.funcs[f]? =some fn)
   (pX:(fn.name== "runtime.NumGoroutine")=false):tR P C f (aga P tt O G m d fn):=by
 have dG:=Dq (C:=C) hm hT hO Ws hG m d;have hcm:=Dl (G:=G) Ws m d;have key:∀c rs,fn.body=some c->qG tt fn.results.toList=some rs->Nat.ble (fn.params.size+fn.nfree) fn.ntmps=true->tR P C f (xfn (spX P tt (NH none O G m d) m fn.ntmps c) (fn.params.size+fn.nfree) rs):=
   λc rs hb hr hle=>atH hT hf pX hb (.spX hT (FZ none O G m d) dG (Sf hm hT dG hcm) c) hr (Zb2 hle)
 unfold aga;split
 . exact key _ _ (by assumption) (by assumption) (by assumption)
 . exact⟨λ_ _ _ _ h=>(by cases h),λ_ _ _ _ _ _ _ h=>(by cases h)⟩
end
end
noncomputable section
open Go
inductive Sh where
 |leaf
 |seq (jn:Option (List Pos)) (a b:Sh)
 |cond (a b:Sh)
 |block (a:Sh)
 |loop (j:Nat) (ins:List Pos) (outs:List (Nat×List Pos)) (a:Sh)
variable{R : Type}
abbrev LpK(R:Type):=Nat->List AV->St->Option R
abbrev Env(R:Type):=Nat->LpK R->Nat->List AV->St->Option R
def fO(l:List AV)(k:AV->List AV->Option R):Option R:=match l with
 |v::vs=>k v vs
 |[]=>none
def iT(l:List AV)(k:Option R):Option R:=match l with
 |[]=>k
 |_::_=>none
def aq(c:au)(k:aF)(xs:List AV)(st:St)(K:AV->St->Option R):Option R:=match cG c k xs st with
 |some (v,st')=>K v st'
 |none=>none
def qj(c:au)(g:AV)(want:Bool)(k:aF)(xs:List AV)(st:St)(K:AV->St->Option R):Option R:=match g with
 |  .bool b=>match b==want with
    |true=>aq c k xs st K
    |false=>K .undef st
 | .tuple _=>K .undef st
 |_=>none
def fD(k:aF)(xs:List AV)(K:AV->Option R):Option R:=match k.run (λ_=>none) .h xs with
 |some (.val v)=>K v
 |_=>none
def Z9(g:AV)(want:Bool)(k:aF)(xs:List AV)(K:AV->Option R):Option R:=match g with
 |  .bool b=>match b==want with
    |true=>fD k xs K
    |false=>K .undef
 | .tuple _=>K .undef
 |_=>none
def ia(k:aF)(xs:List AV)(h:T AB)(ok:AV->Bool)(K:AV->Option R):Option R:=match k.run (λ_=>none) .h xs with
 |some (.val v)=>K v
 |  _=>match k.run (λb=>h.get b) .h xs with
    |some (.val v)=>match ok v with
     |true=>K v
     |false=>none
    |_=>none
def grd(g:AV)(want:Bool)(k:aF)(xs:List AV)(h:T AB)(ok:AV->Bool)(K:AV->Option R):Option R:=match g with
 |  .bool b=>match b==want with
    |true=>ia k xs h ok K
    |false=>K .undef
 | .tuple _=>K .undef
 |_=>none
def Um(k:aF)(xs:List AV)(st:St)(K:AV->AB->Option R):Option R:=match k.run (λ_=>none) st.next xs with
 |some (.bh v none none (some aN))=>K v aN
 |_=>none
def wnt(g:AV)(want:Bool)(A B:Option R):Option R:=match g with
 |  .bool b=>match b==want with
    |true=>A
    |false=>B
 | .tuple _=>B
 |_=>none
def cnd(v:AV)(A B:Option R):Option R:=match v with
 | .bool true=>A
 | .bool false=>B
 |_=>none
def dz(f:(List AV->St->Option R)->Option R)(k:List AV->St->Option R):Option R:=f k
def aaX (c:au):List bS->Fr->St->(Fr->St->Option R)->Option R
 |[],fr,st,K=>K fr st
 |  o::os,fr,st,K=>match fU fr o.xs with
    |some xs=>match o.guard with
     |none=>aq c o.k xs st λv st=>aaX c os (eE fr o.dst v) st K
     |  some (p,want)=>match fr.get p with
        |some g=>qj c g want o.k xs st λv st=>aaX c os (eE fr o.dst v) st K
        |none=>none
    |none=>none
def ri (c:au ):List (Nat×bS)->List Rec->T AB->Fr->St->(Fr->St->Option R)->Option R
 |[],_,_,fr,st,K=>K fr st
 |  (j, o):: os,recs,base,fr,st,K=>match fU fr o.xs with
    | some xs=>match o.cls with
      | .pure=>match o.guard with
        |none=>fD o.k xs λv=>ri c os ({ idx:=j,o:=o,v:=v,c:= .pure,nx:=st.next }::recs) base (eE fr o.dst v) st K
        |some (p,want)=>match fr.get p with
         |some g=>Z9 g want o.k xs λv=>ri c os ({ idx:=j,o:=o,v:=v,c:= .pure,nx:=st.next }::recs) base (eE fr o.dst v) st K
         |none=>none
      | .read=>match o.guard with
        |none=>ia o.k xs (snap o.bZ base recs) (λv=>nQ o.bZ o.k xs v [] recs) λv=>ri c os ({ idx:=j,o:=o,v:=v,c:= .pure,nx:=st.next }::recs) base (eE fr o.dst v) st K
        |some (p,want)=>match fr.get p with
         |some g=>grd g want o.k xs (snap o.bZ base recs) (λv=>nQ o.bZ o.k xs v [] recs) λv=>ri c os ({ idx:=j,o:=o,v:=v,c:= .pure,nx:=st.next }::recs) base (eE fr o.dst v) st K
         |none=>none
      | .new=>match o.guard with
        |none=>Um o.k xs st λv aN=>ri c os ({ idx:=j,o:=o,v:=v,c:= .new st.next aN,nx:=st.next.succ }::recs) base (eE fr o.dst v) { heap:=st.heap.put (some aN) st.next,next:=st.next.succ } K
        |some (p,want)=>match fr.get p with
         |some g=>wnt g want (Um o.k xs st λv aN=>ri c os ({ idx:=j,o:=o,v:=v,c:= .new st.next aN,nx:=st.next.succ }::recs) base (eE fr o.dst v) { heap:=st.heap.put (some aN) st.next,next:=st.next.succ } K)
             (ri c os ({ idx:=j,o:=o,v:= .undef,c:= .pure,nx:=st.next }::recs) base (eE fr o.dst .undef) st K)
         |none=>none
      | .bh=>match o.guard with
        |none=>aq c o.k xs st λv st'=>ri c os ({ idx:=j,o:=o,v:=v,c:= .bh base st'.heap,nx:=st'.next }::recs) st'.heap (eE fr o.dst v) st' K
        |some (p,want)=>match fr.get p with
         |some g=>wnt g want (aq c o.k xs st λv st'=>ri c os ({ idx:=j,o:=o,v:=v,c:= .bh base st'.heap,nx:=st'.next }::recs) st'.heap (eE fr o.dst v) st' K)
             (ri c os ({ idx:=j,o:=o,v:= .undef,c:= .pure,nx:=st.next }::recs) base (eE fr o.dst .undef) st K)
         |none=>none
    |none=>none
def Wz:List Pos->Fr->(List AV->Option R)->Option R
 |[],_,k=>k []
 |  p::ps,fr,k=>match fr.get p with
    |some v=>Wz ps fr λvs=>k (v::vs)
    |none=>none
def WA:List Pos->List AV->Fr->(Fr->Option R)->Option R
 |[],vs,fr,k=>iT vs (k fr)
 |p::ps,vs,fr,k=>fO vs λv vs=>WA ps vs (fr.put (some v) p) k
def YU:List (Nat×List Pos)->Nat->List Pos
 |[],_=>[]
 |  (i,l)::r,e=>match Nat.beq i e with
    |true=>l
    |false=>YU r e
def exOf:Nat->oe
 |0=> .normal
 |1=> .ret
 |n+2=> .exit n
def Qm(D:Fr->St->(oe->Fr->St->Option R)->Option R)(ins:List Pos)(outs:List (Nat×List Pos))(K':LpK R)(again:List AV->St->Option R)(vs:List AV)(st:St):Option R:=
 WA ins vs .e λfr=>D fr st λex fr st=>match ex with
    | .normal=>Wz ins fr λvs=>again vs st
    | .exit i=>Wz (YU outs (i+2)) fr λos=>K' (i+2) os st
    | .ret=>Wz (YU outs 1) fr λos=>K' 1 os st
def knk(outs:List (Nat×List Pos))(K:oe->Fr->St->Option R):LpK R:=λe os st=>WA (YU outs e) os .e λfr=>K (exOf e) fr st
def den (c:au)(F:Nat)(L:Env R):AC->Sh->Fr->St->(oe->Fr->St->Option R)->Option R
 | .skip,_,fr,st,K=>K .normal fr st
 | .region ops,_,fr,st,K=>aaX c ops fr st (K .normal)
 | .draw ops,_,fr,st,K=>ri c ops [] st.heap fr st (K .normal)
 |  .seq a b,s,fr,st,K=>match s with
    | .seq none s t=>den c F L a s fr st λex fr st=>match ex with
      | .normal=>den c F L b t fr st K
      | .exit i=>K (.exit i) fr st
      | .ret=>K .ret fr st
    | .seq (some l) s t=>dz (λK'=>den c F L a s fr st λex fr st=>match ex with
      | .normal=>Wz l fr λvs=>K' vs st
      | .exit i=>K (.exit i) fr st
      | .ret=>K .ret fr st) (λvs st=>WA l vs .e λfr=>den c F L b t fr st K)
    |_=>none
 |  .cond x a b,s,fr,st,K=>match s with
    | .cond s t=>match He fr x with
      |some v=>cnd v (den c F L a s fr st K) (den c F L b t fr st K)
      |none=>none
    |_=>none
 |  .block id a,s,fr,st,K=>match s with
    | .block s=>den c F L a s fr st λex fr st=>match ex with
      | .normal=>K .normal fr st
      | .exit i=>match Nat.beq i id with
        |true=>K .normal fr st
        |false=>K (.exit i) fr st
      | .ret=>K .ret fr st
    |_=>none
 |  .loop _,s,fr,st,K=>match s with
    | .loop j ins outs _=>Wz ins fr λvs=>L j (knk outs K) F vs st
    |_=>none
 | .exit id,_,fr,st,K=>K (.exit id) fr st
 | .ret,_,fr,st,K=>K .ret fr st
def Dt(c:au)(F:Nat)(L:Env R)(a:AC):Sh->Prop
 | .loop j ins outs s=>∀K',(∀vs st,L j K' 0 vs st=none)/\∀n vs st,L j K' (n+1) vs st=Qm (den c F L a s) ins outs K' (L j K' n) vs st
 |_=>False
def AG(c:au)(F:Nat)(L:Env R):AC->Sh->Prop
 |  .seq a b,s=>match s with
    | .seq _ s t=>AG c F L a s/\AG c F L b t
    |_=>True
 |  .cond _ a b,s=>match s with
    | .cond s t=>AG c F L a s/\AG c F L b t
    |_=>True
 |  .block _ a,s=>match s with
    | .block s=>AG c F L a s
    |_=>True
 |  .loop a,s=>match s with
    | .loop j ins outs s=>Dt c F L a (.loop j ins outs s)/\AG c F L a s
    |_=>True
 |_,_=>True
def fQ:AC->Sh->List (AC×Sh)
 |  .seq a b,s=>match s with
    | .seq _ s t=>fQ a s++fQ b t
    |_=>[]
 |  .cond _ a b,s=>match s with
    | .cond s t=>fQ a s++fQ b t
    |_=>[]
 |  .block _ a,s=>match s with
    | .block s=>fQ a s
    |_=>[]
 |  .loop a,s=>match s with
    | .loop j ins outs s=>(a,.loop j ins outs s)::fQ a s
    |_=>[]
 |_,_=>[]
theorem F6{c:au}{F:Nat}{L:Env R}:∀(a:AC)(s:Sh),(∀x∈fQ a s,Dt c F L x.1 x.2)->AG c F L a s
 | .skip,_,_=>trivial
 | .region _,_,_=>trivial
 | .draw _,_,_=>trivial
 | .exit _,_,_=>trivial
 | .ret,_,_=>trivial
 | .seq a b,s,h=>by
   cases s<;>simp only[AG]<;>simp only[fQ,Zd8]at h;exact⟨F6 a _ λx hx=>h x (.inl hx),F6 b _ λx hx=>h x (.inr hx)⟩
 | .cond x a b,s,h=>by
   cases s<;>simp only[AG]<;>simp only[fQ,Zd8]at h;exact⟨F6 a _ λx hx=>h x (.inl hx),F6 b _ λx hx=>h x (.inr hx)⟩
 | .block id a,s,h=>by cases s<;>simp only[AG]<;>simp only[fQ]at h;exact F6 a _ h
 | .loop a,s,h=>by
   cases s<;>simp only[AG]<;>simp only[fQ,Za8]at h;exact⟨h _ (.inl rfl),F6 a _ λx hx=>h x (.inr hx)⟩
def Sub(a b:Fr):Prop:=∀p v,a.get p=some v->b.get p=some v
theorem Sub.refl(a:Fr):Sub a a:=λ_ _ h=>h
theorem Sub.put{a b:Fr}(h:Sub a b)(p:Pos)(v:AV):Sub (a.put (some v) p) (b.put (some v) p):=λq u hq=>by
 by_cases e:p=q
 . subst e;rw[T.gH]at hq ⊢; exact hq
 . rw[T.bX _ e]at hq ⊢; exact h _ _ hq
theorem Sub.dst{a b:Fr}(h:Sub a b)(d:Option Pos)(v:AV):Sub (eE a d v) (eE b d v):=by
 cases d with
 |none=>exact h
 |some p=>exact h.put p v
theorem Sub.ev{a b:Fr}(h:Sub a b){x:ij}{v:AV}(e:He a x=some v):He b x=some v:=by
 cases x with
 |t p=>exact h _ _ e
 |c v=>exact e
theorem Sub.evs{a b:Fr}(h:Sub a b):∀{xs:List ij}{vs:List AV},fU a xs=some vs->fU b xs=some vs
 |[],_,e=>e
 |x::xs,vs,e=>by
  unfold fU at e ⊢;cases hx:He a x with
  |none=>simp[hx]at e
  |some v=>
   simp only[hx]at e;cases hs:fU a xs with
   |none=>simp[hs]at e
   |some us=>simp only[hs]at e;simp only[h.ev hx,h.evs hs];exact e
theorem Sw {c:au}:∀(os:List bS){fr fV:Fr}{st:St}{K:Fr->St->Option R}{r:R},Sub fr fV->aaX c os fr st K=some r->
  ∃bG ei st',mD c os fV st=some (ei,st')/\Sub bG ei/\K bG st'=some r
 |[],fr,fV,st,K,r,hs,h=>⟨fr,fV,st,rfl,hs,h⟩
 |o::os,fr,fV,st,K,r,hs,h=>by
  unfold aaX at h;cases hx:fU fr o.xs with
  |none=>simp[hx]at h
  |some xs=>
   simp only[hx]at h;have hstp:∀{st},aq c o.k xs st (λv st=>aaX c os (eE fr o.dst v) st K)=some r->cH fV o.guard=some true->∃bG ei st',mD c (o::os) fV st=some (ei,st')/\Sub bG ei/\K bG st'=some r:=λ{st} h hw=>by
        unfold aq at h;cases gJ:cG c o.k xs st with
        |none=>simp[gJ]at h
        |some p=>
         simp only[gJ]at h;obtain⟨bG,ei,st',h1,h2⟩:=Sw os (hs.dst o.dst p.1) h;exact⟨bG,ei,st',by unfold mD;simp only[hw,hs.evs hx,gJ];exact h1,h2⟩
   have WE:∀{st},aaX c os (eE fr o.dst .undef) st K=some r->cH fV o.guard=some false->∃bG ei st',mD c (o::os) fV st=some (ei,st')/\Sub bG ei/\K bG st'=some r:=λ{st} h hw=>by
        obtain⟨bG,ei,st',h1,h2⟩:=Sw os (hs.dst o.dst .undef) h;exact⟨bG,ei,st',by unfold mD;simp only[hw];exact h1,h2⟩
   cases hg:o.guard with
   |none=>simp only[hg]at h;exact hstp h (by rw[hg];rfl)
   |    some pw=>
        obtain⟨p,want⟩:=pw;simp only[hg]at h;cases hp:fr.get p with
        |none=>simp[hp]at h
        |some g=>
         simp only[hp]at h;have Cz:=hs _ _ hp;unfold qj at h;split at h
         .  rename_i b;split at h
            . rename_i hb;exact hstp h (by rw[hg];simp[cH,Cz,hb])
            . rename_i hb;exact WE h (by rw[hg];simp[cH,Cz,hb])
         .  exact WE h (by rw[hg];simp[cH,Cz])
         .  cases h
theorem aaa {c:au}:∀(os:List (Nat×bS))(recs:List Rec)(base:T AB){fr fV:Fr}{st:St}{K:Fr->St->Option R}{r:R},Sub fr fV->ri c os recs base fr st K=some r->
  ∃bG ei st',ep c os recs base fV st=some (ei,st')/\Sub bG ei/\K bG st'=some r
 |[],_,_,fr,fV,st,K,r,hs,h=>⟨fr,fV,st,rfl,hs,h⟩
 |(j,   o)::  os,recs,base,fr,fV,st,K,r,hs,h=>by
  have ih:=λrecs base {fr fV:Fr}{st:St}{K:Fr->St->Option R}{r:R}=>aaa (c:=c) os recs base (fr:=fr) (fV:=fV) (st:=st) (K:=K) (r:=r)
  unfold ri at h;cases hx:fU fr o.xs with
  |none=>simp[hx]at h
  | some xs   =>
    simp only[hx]at h;have hxx:=hs.evs hx;have WE:∀{st},ri c os ({ idx:=j,o:=o,v:= .undef,c:= .pure,nx:=st.next }::recs) base (eE fr o.dst .undef) st K=some r->cH fV o.guard=some false->∃bG ei st',ep c ((j,o)::os) recs base fV st=some (ei,st')/\Sub bG ei/\K bG st'=some r:=λ{st} h hw=>by
        obtain⟨bG,ei,st',h1,h2⟩:=ih _ _ (hs.dst o.dst .undef) h;exact⟨bG,ei,st',by unfold ep;simp only[hw];exact h1,h2⟩
    cases hc:o.cls with
    |   pure=>
        simp only[hc]at h;have WG:fD o.k xs (λv=>ri c os ({ idx:=j,o:=o,v:=v,c:= .pure,nx:=st.next }::recs) base (eE fr o.dst v) st K)=some r->cH fV o.guard=some true->∃bG ei st',ep c ((j,o)::os) recs base fV st=some (ei,st')/\Sub bG ei/\K bG st'=some r:=λh hw=>by
         unfold fD at h;split at h
         .  rename_i v hv;obtain⟨bG,ei,st',h1,h2⟩:=ih _ _ (hs.dst o.dst v) h;exact⟨bG,ei,st',by unfold ep;simp only[hw,hxx,hc,hv];exact h1,h2⟩
         .  cases h
        cases hg:o.guard with
        |none=>simp only[hg]at h;exact WG h (by rw[hg];rfl)
        |some pw=>
         obtain⟨p,want⟩:=pw;simp only[hg]at h;cases hp:fr.get p with
         |none=>simp[hp]at h
         |  some g=>
            simp only[hp]at h;have Cz:=hs _ _ hp;unfold Z9 at h;split at h
            . split at h
              . rename_i hb;exact WG h (by rw[hg];simp[cH,Cz,hb])
              . rename_i hb;exact WE h (by rw[hg];simp[cH,Cz,hb])
            . exact WE h (by rw[hg];simp[cH,Cz])
            . cases h
    |   read=>
        simp only[hc]at h;have WG :ia o.k xs (snap o.bZ base recs) (λv=>nQ o.bZ o.k xs v [] recs) (λv=>ri c os ({ idx:=j,o:=o,v:=v,c:= .pure,nx:=st.next }::recs) base (eE fr o.dst v) st K)=some r->cH fV o.guard=some true->∃bG ei st',ep c ((j,o)::os) recs base fV st=some (ei,st')/\Sub bG ei/\K bG st'=some r:=λh hw=>by
         unfold ia at h;split at h
         .  rename_i v hv;obtain⟨bG,ei,st',h1,h2⟩:=ih _ _ (hs.dst o.dst v) h;exact⟨bG,ei,st',by unfold ep;simp only[hw,hxx,hc,hv];exact h1,h2⟩
         .  rename_i nG;split at h
            . rename_i v hv;split at h
              . rename_i cF;obtain⟨bG,ei,st',h1,h2⟩:=ih _ _ (hs.dst o.dst v) h;refine⟨bG,ei,st',?_,h2⟩;unfold ep;simp only[hw,hxx,hc];cases hr:o.k.run (λ_=>none) .h xs with
                |none=>simp only[hv,cF];exact h1
                |some x=>cases x with
                 |val u=>exact absurd hr (nG u)
                 |bh v d e n=>simp only[hv,cF];exact h1
                 |call f xs=>simp only[hv,cF];exact h1
              . cases h
            . cases h
        cases hg:o.guard with
        |none=>simp only[hg]at h;exact WG h (by rw[hg];rfl)
        |some pw=>
         obtain⟨p,want⟩:=pw;simp only[hg]at h;cases hp:fr.get p with
         |none=>simp[hp]at h
         |  some g=>
            simp only[hp]at h;have Cz:=hs _ _ hp;unfold grd at h;split at h
            . split at h
              . rename_i hb;exact WG h (by rw[hg];simp[cH,Cz,hb])
              . rename_i hb;exact WE h (by rw[hg];simp[cH,Cz,hb])
            . exact WE h (by rw[hg];simp[cH,Cz])
            . cases h
    |   new =>
        simp only[hc]at h;have WG:Um o.k xs st (λv aN=>ri c os ({ idx:=j,o:=o,v:=v,c:= .new st.next aN,nx:=st.next.succ }::recs) base (eE fr o.dst v) { heap:=st.heap.put (some aN) st.next,next:=st.next.succ } K)=some r->cH fV o.guard=some true->∃bG ei st',ep c ((j,o)::os) recs base fV st=some (ei,st')/\Sub bG ei/\K bG st'=some r:=λh hw=>by
         unfold Um at h;split at h
         .  rename_i v aN hv;obtain⟨bG,ei,st',h1,h2⟩:=ih _ _ (hs.dst o.dst v) h;exact⟨bG,ei,st',by unfold ep;simp only[hw,hxx,hc,hv];exact h1,h2⟩
         .  cases h
        cases hg:o.guard with
        |none=>simp only[hg]at h;exact WG h (by rw[hg];rfl)
        |some pw=>
         obtain⟨p,want⟩:=pw;simp only[hg]at h;cases hp:fr.get p with
         |none=>simp[hp]at h
         |  some g=>
            simp only[hp]at h;have Cz:=hs _ _ hp;unfold wnt at h;split at h
            . split at h
              . rename_i hb;exact WG h (by rw[hg];simp[cH,Cz,hb])
              . rename_i hb;exact WE h (by rw[hg];simp[cH,Cz,hb])
            . exact WE h (by rw[hg];simp[cH,Cz])
            . cases h
    |   bh=>
        simp only[hc]at h;have WG:aq c o.k xs st (λv st'=>ri c os ({ idx:=j,o:=o,v:=v,c:= .bh base st'.heap,nx:=st'.next }::recs) st'.heap (eE fr o.dst v) st' K)=some r->cH fV o.guard=some true->∃bG ei st',ep c ((j,o)::os) recs base fV st=some (ei,st')/\Sub bG ei/\K bG st'=some r:=λh hw=>by
         unfold aq at h;cases gJ:cG c o.k xs st with
         |none=>simp[gJ]at h
         |  some p=>
            simp only[gJ]at h;obtain⟨bG,ei,st',h1,h2⟩:=ih _ _ (hs.dst o.dst p.1) h;exact⟨bG,ei,st',by unfold ep;simp only[hw,hxx,hc,gJ];exact h1,h2⟩
        cases hg:o.guard with
        |none=>simp only[hg]at h;exact WG h (by rw[hg];rfl)
        |some pw=>
         obtain⟨p,want⟩:=pw;simp only[hg]at h;cases hp:fr.get p with
         |none=>simp[hp]at h
         |  some g=>
            simp only[hp]at h;have Cz:=hs _ _ hp;unfold wnt at h;split at h
            . split at h
              . rename_i hb;exact WG h (by rw[hg];simp[cH,Cz,hb])
              . rename_i hb;exact WE h (by rw[hg];simp[cH,Cz,hb])
            . exact WE h (by rw[hg];simp[cH,Cz])
            . cases h
def Has:List Pos->List AV->Fr->Prop
 |[],[],_=>True
 |p::ps,v::vs,fr=>fr.get p=some v/\Has ps vs fr
 |_,_,_=>False
theorem Has.sub{a b:Fr}(hs:Sub a b):∀{ps:List Pos}{vs:List AV},Has ps vs a->Has ps vs b
 |[],[],_=>trivial
 |[],_::_,h=>h
 |_::_,[],h=>h
 |_::_,_::_,h=>⟨hs _ _ h.1,Has.sub hs h.2⟩
theorem CA:∀{ps:List Pos}{fr:Fr}{k:List AV->Option R}{r:R},Wz ps fr k=some r->∃vs,Has ps vs fr/\k vs=some r
 |[],_,_,_,h=>⟨[],trivial,h⟩
 |p::ps,fr,k,r,h=>by
  unfold Wz at h;cases hp:fr.get p with
  |none=>simp[hp]at h
  |some v=>
   simp only[hp]at h;obtain⟨vs,h1,h2⟩:=CA h;exact⟨v::vs,⟨hp,h1⟩,h2⟩
theorem Hq:∀{ps:List Pos}{vs:List AV}{fr fV:Fr}{k:Fr->Option R}{r:R},WA ps vs fr k=some r->Has ps vs fV->Sub fr fV->∃bG,Sub bG fV/\k bG=some r
 |[],vs,fr,fV,k,r,h,_,hs=>by
  unfold WA iT at h;split at h
  . exact⟨fr,hs,h⟩
  . cases h
 |p::ps,[],fr,fV,k,r,h,hh,hs=>by simp[WA,fO]at h
 |p::ps,v::vs,fr,fV,k,r,h,hh,hs=>by
  unfold WA fO at h;refine Hq h hh.2 λq u hq=> ?_
  by_cases e:p=q
  . subst e;rw[T.gH]at hq;cases hq;exact hh.1
  . rw[T.bX _ e]at hq;exact hs _ _ hq
theorem Lg{c:au}{n m:Nat}(h:n<=m){a:AC}{fr:Fr}{st:St}{r:oe×Fr×St}(e:exec c n a fr st=some r):exec c m a fr st=some r:=YT (Z6.refl c) n m h _ _ _ _ e
theorem sZ{c:au}{F:Nat}{L:Env R}:∀(a:AC)(s:Sh),AG c F L a s->∀{fr fV:Fr}{st:St}{K:oe->Fr->St->Option R}{r:R},Sub fr fV->den c F L a s fr st K=some r->
   ∃n ex bG ei st',exec c n a fV st=some (ex,ei,st')/\Sub bG ei/\K ex bG st'=some r
 | .skip,s,_,fr,fV,st,K,r,hs,h=>⟨1,.normal,fr,fV,st,rfl,hs,by simpa [den]using h⟩
 | .exit id,s,_,fr,fV,st,K,r,hs,h=>⟨1,.exit id,fr,fV,st,rfl,hs,by simpa [den]using h⟩
 | .ret,s,_,fr,fV,st,K,r,hs,h=>⟨1,.ret,fr,fV,st,rfl,hs,by simpa [den]using h⟩
 | .region ops,s,_,fr,fV,st,K,r,hs,h=>by
   simp only[den]at h;obtain⟨bG,ei,st',h1,h2,h3⟩:=Sw ops hs h;exact⟨1,.normal,bG,ei,st',by simp only[exec,bE,h1],h2,h3⟩
 | .draw ops,s,_,fr,fV,st,K,r,hs,h=>by
   simp only[den]at h;obtain⟨bG,ei,st',h1,h2,h3⟩:=aaa ops _ _ hs h;exact⟨1,.normal,bG,ei,st',by simp only[exec,bE,h1],h2,h3⟩
 | .seq a b,s,cF,fr,fV,st,K,r,hs,h=>by
   (cases s<;>simp only[den]at h<;>first|(cases h;done)|skip);rename_i jn s t;simp only[AG]at cF;cases jn with
   |none=>
    simp only at h;obtain⟨n,ex,ff,xK,bw,h1,h2,h3⟩:=sZ a s cF.1 hs h;cases ex with
    |   normal=>
        obtain⟨m,ex,Ui,ag4,w7,k1,k2,k3⟩:=sZ b t cF.2 h2 h3;exact⟨max n m+1,ex,Ui,ag4,w7,by simp only[exec,bE,Lg (Zj5 n m) h1];exact Lg (Zi5 n m) k1,k2,k3⟩
    |exit i=>exact⟨n+1,.exit i,ff,xK,bw,by simp only[exec,bE,h1],h2,h3⟩
    |ret=>exact⟨n+1,.ret,ff,xK,bw,by simp only[exec,bE,h1],h2,h3⟩
   |some l=>
    simp only[dz]at h;obtain⟨n,ex,ff,xK,bw,h1,h2,h3⟩:=sZ a s cF.1 hs h;cases ex with
    |   normal=>
        obtain⟨vs,g1,g2⟩:=CA h3;obtain⟨bG,g3,g4⟩:=Hq g2 (Has.sub h2 g1) (λp v hp=>by rw[T.dP]at hp;cases hp);obtain⟨m,ex,Ui,ag4,w7,k1,k2,k3⟩:=sZ b t cF.2 g3 g4;exact⟨max n m+1,ex,Ui,ag4,w7,by simp only[exec,bE,Lg (Zj5 n m) h1];exact Lg (Zi5 n m) k1,k2,k3⟩
    |exit i=>exact⟨n+1,.exit i,ff,xK,bw,by simp only[exec,bE,h1],h2,h3⟩
    |ret=>exact⟨n+1,.ret,ff,xK,bw,by simp only[exec,bE,h1],h2,h3⟩
 | .cond x a b,s,cF,fr,fV,st,K,r,hs,h=>by
   (cases s<;>simp only[den]at h<;>first|(cases h;done)|skip);simp only[AG]at cF;cases hx:He fr x with
   |none=>simp[hx]at h
   |some v=>
    simp only[hx]at h;unfold cnd at h;split at h
    .   obtain⟨n,ex,ff,xK,bw,h1,h2,h3⟩:=sZ a _ cF.1 hs h;exact⟨n+1,ex,ff,xK,bw,by simp only[exec,bE,hs.ev hx];exact h1,h2,h3⟩
    .   obtain⟨n,ex,ff,xK,bw,h1,h2,h3⟩:=sZ b _ cF.2 hs h;exact⟨n+1,ex,ff,xK,bw,by simp only[exec,bE,hs.ev hx];exact h1,h2,h3⟩
    .   cases h
 | .block id a,s,cF,fr,fV,st,K,r,hs,h=>by
   (cases s<;>simp only[den]at h<;>first|(cases h;done)|skip);simp only[AG]at cF;obtain⟨n,ex,ff,xK,bw,h1,h2,h3⟩:=sZ a _ cF hs h;cases ex with
   |normal=>exact⟨n+1,.normal,ff,xK,bw,by simp only[exec,bE,h1],h2,h3⟩
   |ret=>exact⟨n+1,.ret,ff,xK,bw,by simp only[exec,bE,h1],h2,h3⟩
   |exit i=>
    simp only at h3;cases hb:Nat.beq i id with
    |true=>simp only[hb]at h3;exact⟨n+1,.normal,ff,xK,bw,by simp only[exec,bE,h1,hb],h2,h3⟩
    |false=>simp only[hb]at h3;exact⟨n+1,.exit i,ff,xK,bw,by simp only[exec,bE,h1,hb],h2,h3⟩
 | .loop a,s,cF,fr,fV,st,K,r,hs,h=>by
   (cases s<;>simp only[den]at h<;>first|(cases h;done)|skip);rename_i j ins outs s;simp only[AG,Dt]at cF;obtain⟨auN,cF⟩:=cF;obtain⟨vs,g1,g2⟩:=CA h;obtain⟨hz,hsu⟩:=auN (knk outs K)
   have main:∀(n:Nat)(vs:List AV)(st:St)(fV:Fr),Has ins vs fV->L j (knk outs K) n vs st=some r->
        ∃m ex bG ei st',exec c m (.loop a) fV st=some (ex,ei,st')/\Sub bG ei/\K ex bG st'=some r:=by
    intro n;induction n with
    |zero=>intro vs st fV _ h;rw[hz]at h;cases h
    |   succ n ihn=>
        intro vs st fV hh h;rw[hsu]at h;unfold Qm at h;obtain⟨cX,q1,q2⟩:=Hq h hh (λp v hp=>by rw[T.dP]at hp;cases hp);obtain⟨m,ex,ff,xK,bw,h1,h2,h3⟩:=sZ a s cF q1 q2;cases ex with
        |normal=>
         obtain⟨us,p1,p2⟩:=CA h3;obtain⟨m',ex,Ui,ag4,w7,k1,k2,k3⟩:=ihn us bw xK (Has.sub h2 p1) p2;exact⟨max m m'+1,ex,Ui,ag4,w7,by simp only[exec,bE,Lg (Zj5 m m') h1];exact Lg (Zi5 m m') k1,k2,k3⟩
        |exit i=>
         obtain⟨os,p1,p2⟩:=CA h3;obtain⟨Ui,p3,p4⟩:=Hq p2 (Has.sub h2 p1) (λp v hp=>by rw[T.dP]at hp;cases hp);exact⟨m+1,.exit i,Ui,xK,bw,by simp only[exec,bE,h1],p3,p4⟩
        |ret=>
         obtain⟨os,p1,p2⟩:=CA h3;obtain⟨Ui,p3,p4⟩:=Hq p2 (Has.sub h2 p1) (λp v hp=>by rw[T.dP]at hp;cases hp);exact⟨m+1,.ret,Ui,xK,bw,by simp only[exec,bE,h1],p3,p4⟩
   exact main F vs st fV (Has.sub hs g1) g2
def aaY:(H:Pos->Option AB)->Fr->List PT->(List AV->Option R)->Option R
 |_,_,[],k=>k []
 |  H,fr,.tmp p::rs,k=>match fr.get p with
    |some v=>aaY H fr rs λvs=>k (v::vs)
    |none=>none
 |  H,fr,.cell p n::rs,k=>match fr.get p with
    |some q=>match (aF.load n).run H .h [q]with
     |some (.val v)=>aaY H fr rs λvs=>k (v::vs)
     |_=>none
    |none=>none
def ldr(n:Option Nat)(q:AV)(st:St)(K:AV->Option R):Option R:=match (aF.load n).run (λb=>st.heap.get b) .h [q]with
 |some (.val v)=>K v
 |_=>none
theorem N4{H:Pos->Option AB}{fr fV:Fr}(hs:Sub fr fV):∀{rs:List PT}{k:List AV->Option R}{r:R},aaY H fr rs k=some r->∃vs,gR H fV rs=some vs/\k vs=some r
 |[],k,r,h=>⟨[],rfl,h⟩
 | .tmp p::rs,k,r,h=>by
   unfold aaY at h;cases hp:fr.get p with
   |none=>simp[hp]at h
   |some v=>
    simp only[hp]at h;obtain⟨vs,h1,h2⟩:=N4 hs h;exact⟨v::vs,by unfold gR;simp only[hs _ _ hp,h1],h2⟩
 | .cell p n::rs,k,r,h=>by
   unfold aaY at h;cases hp:fr.get p with
   |none=>simp[hp]at h
   |some q=>
    simp only[hp]at h;split at h
    .   rename_i v hv;obtain⟨vs,h1,h2⟩:=N4 hs h;exact⟨v::vs,by unfold gR;simp only[hs _ _ hp,hv,h1],h2⟩
    .   cases h
def II(c:au)(F:Nat)(L:Env (AV×St))(A:dO)(s:Sh)(args:List AV)(st:St):Option (AV×St):=
 match Nat.beq args.length A.nparams with
 |  true=>den c F L A.code s (params 0 args .e) st λex fr st=>match ex with
    | .normal=>aaY (λb=>st.heap.get b) fr A.results λvs=>some (zQ vs,st)
    | .ret=>aaY (λb=>st.heap.get b) fr A.results λvs=>some (zQ vs,st)
    | .exit _=>none
 |false=>none
theorem apz{O:eV}{G:T dO}{F:Nat}{L:Env (AV×St)}{f:FuncId}{A:dO}{s:Sh}{args:List AV}{st:St}{r:AV×St}(ho:O f=none)(hF:G.get (key f)=some A)
  (hL:∀x∈fQ A.code s,Dt (run O G) F L x.1 x.2) (h:II (run O G) F L A s args st=some r):run O G f args st=some (tidy st r):=by
 unfold II at h;split at h<;>first|(cases h;done)|skip
 rename_i hlen;obtain⟨n,ex,bG,ei,st',h1,h2,h3⟩:=sZ A.code s (F6 _ _ hL) (Sub.refl _) h;refine apr (n:=n) ho hF ?_;unfold yf;simp only[hlen,h1];cases ex with
 |normal=>
  obtain⟨vs,k1,k2⟩:=N4 h2 h3;simp only[k1];exact k2
 |ret=>
  obtain⟨vs,k1,k2⟩:=N4 h2 h3;simp only[k1];exact k2
 |exit i=>cases h3
def ah(st:St)(b:AB):St:={ heap:=st.heap.put (some b) st.next,next:=st.next.succ }
def agb{R:Type}:List (Nat×(LpK R->Nat->List AV->St->Option R))->Env R
 |[]=>λ_ _ _ _ _=>none
 |  (i,g)::l=>λj K n=>match Nat.beq i j with
    |true=>g K n
    |false=>agb l j K n
def iy(A:dO)(s:Sh)(i:Nat):AC×Sh:=(fQ A.code s).getD i (.skip,.leaf)
theorem apA{R:Type}{c:au}{F:Nat}{L:Env R}{A:dO}{s:Sh}(n:Nat)(hn:Nat.beq (fQ A.code s).length n=true)(h:∀i,i<n->Dt c F L (iy A s i).1 (iy A s i).2):
  ∀x∈fQ A.code s,Dt c F L x.1 x.2:=by
 intro x hx;obtain⟨i,hi,he⟩:=Zg2.1 hx;have hn:=Za6 hn;have:=h i (by omega);unfold iy at this;rw[Zb5,H0 hi]at this;simp only[Ze9,he]at this;exact this
def adC:Sh->Bool
 | .loop _ _ _ _=>true
 |_=>false
def lpJ:Sh->Nat
 | .loop j _ _ _=>j
 |_=>0
def lpI:Sh->List Pos
 | .loop _ i _ _=>i
 |_=>[]
def lpO:Sh->List (Nat×List Pos)
 | .loop _ _ o _=>o
 |_=>[]
def lpB:Sh->Sh
 | .loop _ _ _ s=>s
 |_=> .leaf
theorem cC{R:Type}{c:au}{F:Nat}{L:Env R}{A:dO}{sh:Sh}{i:Nat}(j:Nat)(hs:(adC (iy A sh i).2&&Nat.beq (lpJ (iy A sh i).2) j)=true)(h0:∀K' vs st,L j K' 0 vs st=none)
  (h1:∀K' n vs st,L j K' (n+1) vs st=Qm (den c F L (iy A sh i).1 (lpB (iy A sh i).2)) (lpI (iy A sh i).2) (lpO (iy A sh i).2) K' (L j K' n) vs st):Dt c F L (iy A sh i).1 (iy A sh i).2:=by
 generalize (iy A sh i).1=a at*
 generalize (iy A sh i).2=t at*
 cases t with
 |loop j' ins outs s=>
  simp only[adC,lpJ,Zf6]at hs;obtain rfl:=Za6 hs;exact λK'=>⟨h0 K',h1 K'⟩
 |_=>simp[adC]at hs
end
end Go.Ai
section
set_option linter.all false
namespace Go.Ai
open Go
theorem dw(k:IntKind):Lu k k=true:=by cases k<;>rfl
theorem mW(a b:Int):zO a b=decide (a=b):=by rw[mG];rfl
theorem iU(a b:List Nat):kA a b=decide (a=b):=by rw[Zm6,mH];simp
theorem wrap64{x:Int}(h1: -9223372036854775808<=x)(h2:x<=9223372036854775807):ax .i64 x=x:=by
 unfold ax loI hiI;simp only;split
 . split
   . rfl
   . contradiction
 . contradiction
theorem Du{x:Int}(h1:0<=x)(h2:x<=255):ax .u8 x=x:=by
 unfold ax loI hiI;simp only;split
 . split
   . rfl
   . contradiction
 . contradiction
theorem jz(k:IntKind)(n:Nat):AE (.int k (n:Int))=some n:=id rfl
theorem cU(a b:Nat):Nat.ble a b=decide (a<=b):=by apply Zm6.2;simp
theorem KJ(a b:Nat):Nat.blt a b=decide (a<b):=by apply Zm6.2;simp[Nat.blt,Nat.ble_eq];omega
theorem cV(a b:Nat):Nat.beq a b=decide (a=b):=by apply Zm6.2;simp
def yU{R:Type}(o:Option AV)(k:AV->Option R):Option R:=match o with
 |some v=>k v
 |none=>none
def IJ{R:Type}(o:Option (List AV))(k:List AV->Option R):Option R:=match o with
 |some v=>k v
 |none=>none
def aaZ{R:Type}(o:Option (AV×St))(k:AV->St->Option R):Option R:=match o with
 |some (v,st)=>k v st
 |none=>none
section
variable{R : Type}(c : au)(K : AV -> St -> Option R)(K1 : AV -> Option R)(A B : Option R)
@[simp] theorem bg(v:AV)(k:AV->Option R):yU (some v) k=k v:=id rfl
@[simp] theorem gO(v:List AV)(k:List AV->Option R):IJ (some v) k=k v:=id rfl
@[simp] theorem cO(v:AV)(st:St)(k:AV->St->Option R):aaZ (some (v,st)) k=k v st:=id rfl
@[simp] theorem dW:cnd (.bool true) A B=A:=id rfl
@[simp] theorem dQ:cnd (.bool false) A B=B:=id rfl
@[simp] theorem aH(v:AV)(vs:List AV)(k:AV->List AV->Option R):fO (v::vs) k=k v vs:=id rfl
@[simp] theorem br(k:Option R):iT [] k=k:=id rfl
theorem je(f:(List AV->St->Option R)->Option R)(k:List AV->St->Option R):dz f k=f k:=id rfl
@[simp] theorem lS(b:Bool)(k:aF)(xs:List AV)(st:St):qj c (.bool b) b k xs st K=aq c k xs st K:=by cases b<;>exact id rfl
@[simp] theorem acf(k:aF)(xs:List AV)(st:St):qj c (.bool true) false k xs st K=K .undef st:=id rfl
@[simp] theorem atI(k:aF)(xs:List AV)(st:St):qj c (.bool false) true k xs st K=K .undef st:=id rfl
@[simp] theorem gst_un(b:Bool)(k:aF)(xs:List AV)(st:St):qj c .undef b k xs st K=K .undef st:=id rfl
@[simp] theorem ajV(b:Bool)(k:aF)(xs:List AV):Z9 (.bool b) b k xs K1=fD k xs K1:=by cases b<;>exact id rfl
@[simp] theorem gpr_tf(k:aF)(xs:List AV):Z9 (.bool true) false k xs K1=K1 .undef:=id rfl
@[simp] theorem gpr_ft(k:aF)(xs:List AV):Z9 (.bool false) true k xs K1=K1 .undef:=id rfl
@[simp] theorem gpr_un(b:Bool)(k:aF)(xs:List AV):Z9 .undef b k xs K1=K1 .undef:=id rfl
@[simp] theorem ajW(b:Bool)(k:aF)(xs:List AV)(h:T AB)(ok:AV->Bool):grd (.bool b) b k xs h ok K1=ia k xs h ok K1:=by cases b<;>exact id rfl
@[simp] theorem grd_tf(k:aF)(xs:List AV)(h:T AB)(ok:AV->Bool):grd (.bool true) false k xs h ok K1=K1 .undef:=id rfl
@[simp] theorem grd_ft(k:aF)(xs:List AV)(h:T AB)(ok:AV->Bool):grd (.bool false) true k xs h ok K1=K1 .undef:=id rfl
@[simp] theorem grd_un(b:Bool)(k:aF)(xs:List AV)(h:T AB)(ok:AV->Bool):grd .undef b k xs h ok K1=K1 .undef:=id rfl
@[simp] theorem avB(b:Bool):wnt (.bool b) b A B=A:=by cases b<;>exact id rfl
@[simp] theorem wnt_tf:wnt (.bool true) false A B=B:=id rfl
@[simp] theorem wnt_ft:wnt (.bool false) true A B=B:=id rfl
@[simp] theorem wnt_un(b:Bool):wnt .undef b A B=B:=id rfl
theorem LR{k:aF}{xs:List AV}{o:Option AV}(h:∀H n,k.run H n xs=o.map .val)(st:St):aq c k xs st K=yU o λv=>K v st:=by unfold aq cG;rw[h];cases o<;>rfl
theorem WH{k:aF}{xs:List AV}{o:Option AV}(h:∀H n,k.run H n xs=o.map .val):fD k xs K1=yU o K1:=by unfold fD;rw[h];cases o<;>rfl
theorem aR{k:aF}{xs:List AV}{v:AV}(h:∀H n,k.run H n xs=some (.val v))(st:St):aq c k xs st K=K v st:=by
 unfold aq cG;rw[h]
theorem dB{k:aF}{xs:List AV}{v:AV}(h:∀H n,k.run H n xs=some (.val v)):fD k xs K1=K1 v:=by
 unfold fD;rw[h]
theorem dD(f:FuncId)(l:List AV)(st:St):aq c (.callF f) l st K=aaZ (c f l st) K:=by unfold aq cG;show(match c f l st with|some (v,st')=>K v st'|none=>none)=_;cases c f l st<;>rfl
theorem jC(f:FuncId)(l u v:List AV)(st:St):aq c .callV (.func f u v::l) st K=aaZ (c f (u++(l++v)) st) K:=by unfold aq cG;show(match c f (u++(l++v)) st with|some (v,st')=>K v st'|none=>none)=_;cases c f (u++(l++v)) st<;>rfl
attribute [simp] dD jC
end
def cellsOf:Option AB->Option (List AV)
 |some (.cells cs _)=>some cs
 |_=>none
@[simp] theorem aJ(cs:List AV)(f:Nat):cellsOf (some (.cells cs f))=some cs:=id rfl
def ro(es:Nat)(z:Bool)(rs:List (List AV)):AV:=match z,rs with
 |true,[]=> .af
 |_,rs=> .fl rs es
theorem adD{es:Nat}{z:Bool}{rs:List (List AV)}(h:rs≠[]):ro es z rs= .fl rs es:=by
 unfold ro;split
 . exact absurd rfl h
 . rfl
theorem run_move(H:Pos->Option AB)(n:Pos)(x:AV):aF.run H n .move [x]=some (.val x):=rfl
@[simp] theorem aA{R:Type}(c:au)(K:AV->St->Option R)(st:St)(x:AV):aq c .move [x] st K=K x st:=aR c K (λH n=>run_move H n x) st
@[simp] theorem dK{R:Type}(K:AV->Option R)(x:AV):fD .move [x] K=K x:=dB K (λH n=>run_move H n x)
theorem acg(H:Pos->Option AB)(n:Pos)(x y:AV):aF.run H n .pick [.bool true,x,y]=some (.val x):=rfl
@[simp] theorem Dv{R:Type}(c:au)(K:AV->St->Option R)(st:St)(x y:AV):aq c .pick [.bool true,x,y] st K=K x st:=aR c K (λH n=>acg H n x y) st
@[simp] theorem ach{R:Type}(K:AV->Option R)(x y:AV):fD .pick [.bool true,x,y] K=K x:=dB K (λH n=>acg H n x y)
theorem aci(H:Pos->Option AB)(n:Pos)(x y:AV):aF.run H n .pick [.bool false,x,y]=some (.val y):=rfl
@[simp] theorem pZ{R:Type}(c:au)(K:AV->St->Option R)(st:St)(x y:AV):aq c .pick [.bool false,x,y] st K=K y st:=aR c K (λH n=>aci H n x y) st
@[simp] theorem auO{R:Type}(K:AV->Option R)(x y:AV):fD .pick [.bool false,x,y] K=K y:=dB K (λH n=>aci H n x y)
theorem ajX(H:Pos->Option AB)(n:Pos)(p:Bool):aF.run H n (.un .not) [.bool p]=some (.val (.bool (!p))):=rfl
@[simp] theorem Lh{R:Type}(c:au)(K:AV->St->Option R)(st:St)(p:Bool):aq c (.un .not) [.bool p] st K=K (.bool (!p)) st:=aR c K (λH n=>ajX H n p) st
@[simp] theorem avC{R:Type}(K:AV->Option R)(p:Bool):fD (.un .not) [.bool p] K=K (.bool (!p)):=dB K (λH n=>ajX H n p)
theorem ajY(H:Pos->Option AB)(n:Pos)(q:gZ)(k:IntKind)(a b:Int):aF.run H n (.bin .lss q) [.int k a,.int k b]=some (.val (.bool (decide (a<b)))):=by simp[aF.run,jv,oW,dw,mW,fj,lf,iU]
@[simp] theorem dS{R:Type}(c:au)(K:AV->St->Option R)(st:St)(q:gZ)(k:IntKind)(a b:Int):aq c (.bin .lss q) [.int k a,.int k b] st K=K (.bool (decide (a<b))) st:=aR c K (λH n=>ajY H n q k a b) st
@[simp] theorem ajZ{R:Type}(K:AV->Option R)(q:gZ)(k:IntKind)(a b:Int):fD (.bin .lss q) [.int k a,.int k b] K=K (.bool (decide (a<b))):=dB K (λH n=>ajY H n q k a b)
theorem aj0(H:Pos->Option AB)(n:Pos)(q:gZ)(k:IntKind)(a b:Int):aF.run H n (.bin .leq q) [.int k a,.int k b]=some (.val (.bool (decide (a<=b)))):=by simp[aF.run,jv,oW,dw,mW,fj,lf,iU]
@[simp] theorem adE{R:Type}(c:au)(K:AV->St->Option R)(st:St)(q:gZ)(k:IntKind)(a b:Int):aq c (.bin .leq q) [.int k a,.int k b] st K=K (.bool (decide (a<=b))) st:=aR c K (λH n=>aj0 H n q k a b) st
@[simp] theorem avD{R:Type}(K:AV->Option R)(q:gZ)(k:IntKind)(a b:Int):fD (.bin .leq q) [.int k a,.int k b] K=K (.bool (decide (a<=b))):=dB K (λH n=>aj0 H n q k a b)
theorem aj1(H:Pos->Option AB)(n:Pos)(q:gZ)(k:IntKind)(a b:Int):aF.run H n (.bin .gtr q) [.int k a,.int k b]=some (.val (.bool (decide (b<a)))):=by simp[aF.run,jv,oW,dw,mW,fj,lf,iU]
@[simp] theorem CB{R:Type}(c:au)(K:AV->St->Option R)(st:St)(q:gZ)(k:IntKind)(a b:Int):aq c (.bin .gtr q) [.int k a,.int k b] st K=K (.bool (decide (b<a))) st:=aR c K (λH n=>aj1 H n q k a b) st
@[simp] theorem aj2{R:Type}(K:AV->Option R)(q:gZ)(k:IntKind)(a b:Int):fD (.bin .gtr q) [.int k a,.int k b] K=K (.bool (decide (b<a))):=dB K (λH n=>aj1 H n q k a b)
theorem aj3(H:Pos->Option AB)(n:Pos)(q:gZ)(k:IntKind)(a b:Int):aF.run H n (.bin .geq q) [.int k a,.int k b]=some (.val (.bool (decide (b<=a)))):=by simp[aF.run,jv,oW,dw,mW,fj,lf,iU]
@[simp] theorem avE{R:Type}(c:au)(K:AV->St->Option R)(st:St)(q:gZ)(k:IntKind)(a b:Int):aq c (.bin .geq q) [.int k a,.int k b] st K=K (.bool (decide (b<=a))) st:=aR c K (λH n=>aj3 H n q k a b) st
@[simp] theorem avF{R:Type}(K:AV->Option R)(q:gZ)(k:IntKind)(a b:Int):fD (.bin .geq q) [.int k a,.int k b] K=K (.bool (decide (b<=a))):=dB K (λH n=>aj3 H n q k a b)
theorem aj4(H:Pos->Option AB)(n:Pos)(q:gZ)(k:IntKind)(a b:Int):aF.run H n (.bin .eql q) [.int k a,.int k b]=some (.val (.bool (decide (a=b)))):=by simp[aF.run,jv,oW,dw,mW,fj,lf,iU]
@[simp] theorem fR{R:Type}(c:au)(K:AV->St->Option R)(st:St)(q:gZ)(k:IntKind)(a b:Int):aq c (.bin .eql q) [.int k a,.int k b] st K=K (.bool (decide (a=b))) st:=aR c K (λH n=>aj4 H n q k a b) st
@[simp] theorem aj5{R:Type}(K:AV->Option R)(q:gZ)(k:IntKind)(a b:Int):fD (.bin .eql q) [.int k a,.int k b] K=K (.bool (decide (a=b))):=dB K (λH n=>aj4 H n q k a b)
theorem aj6(H:Pos->Option AB)(n:Pos)(q:gZ)(k:IntKind)(a b:Int):aF.run H n (.bin .neq q) [.int k a,.int k b]=some (.val (.bool (!decide (a=b)))):=by simp[aF.run,jv,oW,dw,mW,fj,lf,iU]
@[simp] theorem Li{R:Type}(c:au)(K:AV->St->Option R)(st:St)(q:gZ)(k:IntKind)(a b:Int):aq c (.bin .neq q) [.int k a,.int k b] st K=K (.bool (!decide (a=b))) st:=aR c K (λH n=>aj6 H n q k a b) st
@[simp] theorem avG{R:Type}(K:AV->Option R)(q:gZ)(k:IntKind)(a b:Int):fD (.bin .neq q) [.int k a,.int k b] K=K (.bool (!decide (a=b))):=dB K (λH n=>aj6 H n q k a b)
theorem aj7(H:Pos->Option AB)(n:Pos)(q:gZ)(k:IntKind)(a b:Int):aF.run H n (.bin .add q) [.int k a,.int k b]=some (.val (.int k (ax k (a+b)))):=by simp[aF.run,jv,oW,dw,mW,fj,lf,iU]
@[simp] theorem fS{R:Type}(c:au)(K:AV->St->Option R)(st:St)(q:gZ)(k:IntKind)(a b:Int):aq c (.bin .add q) [.int k a,.int k b] st K=K (.int k (ax k (a+b))) st:=aR c K (λH n=>aj7 H n q k a b) st
@[simp] theorem ar5{R:Type}(K:AV->Option R)(q:gZ)(k:IntKind)(a b:Int):fD (.bin .add q) [.int k a,.int k b] K=K (.int k (ax k (a+b))):=dB K (λH n=>aj7 H n q k a b)
theorem aj8(H:Pos->Option AB)(n:Pos)(q:gZ)(k:IntKind)(a b:Int):aF.run H n (.bin .sub q) [.int k a,.int k b]=some (.val (.int k (ax k (a - b)))):=by simp[aF.run,jv,oW,dw,mW,fj,lf,iU]
@[simp] theorem adF{R:Type}(c:au)(K:AV->St->Option R)(st:St)(q:gZ)(k:IntKind)(a b:Int):aq c (.bin .sub q) [.int k a,.int k b] st K=K (.int k (ax k (a - b))) st:=aR c K (λH n=>aj8 H n q k a b) st
@[simp] theorem aj9{R:Type}(K:AV->Option R)(q:gZ)(k:IntKind)(a b:Int):fD (.bin .sub q) [.int k a,.int k b] K=K (.int k (ax k (a - b))):=dB K (λH n=>aj8 H n q k a b)
theorem ar6(H:Pos->Option AB)(n:Pos)(q:gZ)(k:IntKind)(a b:Int):aF.run H n (.bin .mul q) [.int k a,.int k b]=some (.val (.int k (ax k (a*b)))):=by simp[aF.run,jv,oW,dw,mW,fj,lf,iU]
@[simp] theorem avH{R:Type}(c:au)(K:AV->St->Option R)(st:St)(q:gZ)(k:IntKind)(a b:Int):aq c (.bin .mul q) [.int k a,.int k b] st K=K (.int k (ax k (a*b))) st:=aR c K (λH n=>ar6 H n q k a b) st
theorem ag5(H:Pos->Option AB)(n:Pos)(q:gZ)(s t:List Nat):aF.run H n (.bin .eql q) [.str s,.str t]=some (.val (.bool (decide (s=t)))):=by simp[aF.run,jv,oW,dw,mW,fj,lf,iU]
@[simp] theorem avp{R:Type}(c:au)(K:AV->St->Option R)(st:St)(q:gZ)(s t:List Nat):aq c (.bin .eql q) [.str s,.str t] st K=K (.bool (decide (s=t))) st:=aR c K (λH n=>ag5 H n q s t) st
@[simp] theorem avq{R:Type}(K:AV->Option R)(q:gZ)(s t:List Nat):fD (.bin .eql q) [.str s,.str t] K=K (.bool (decide (s=t))):=dB K (λH n=>ag5 H n q s t)
theorem ag6(H:Pos->Option AB)(n:Pos)(q:gZ)(s t:List Nat):aF.run H n (.bin .neq q) [.str s,.str t]=some (.val (.bool (!decide (s=t)))):=by simp[aF.run,jv,oW,dw,mW,fj,lf,iU]
@[simp] theorem aa0{R:Type}(c:au)(K:AV->St->Option R)(st:St)(q:gZ)(s t:List Nat):aq c (.bin .neq q) [.str s,.str t] st K=K (.bool (!decide (s=t))) st:=aR c K (λH n=>ag6 H n q s t) st
@[simp] theorem apB{R:Type}(K:AV->Option R)(q:gZ)(s t:List Nat):fD (.bin .neq q) [.str s,.str t] K=K (.bool (!decide (s=t))):=dB K (λH n=>ag6 H n q s t)
theorem apC(H:Pos->Option AB)(n:Pos)(q:gZ)(s t:List Nat):aF.run H n (.bin .lss q) [.str s,.str t]=some (.val (.bool (aO s t))):=by simp[aF.run,jv,oW,dw,mW,fj,lf,iU]
@[simp] theorem avr{R:Type}(K:AV->Option R)(q:gZ)(s t:List Nat):fD (.bin .lss q) [.str s,.str t] K=K (.bool (aO s t)):=dB K (λH n=>apC H n q s t)
theorem apD(H:Pos->Option AB)(n:Pos)(q:gZ)(s t:List Nat):aF.run H n (.bin .geq q) [.str s,.str t]=some (.val (.bool (!aO s t))):=by simp[aF.run,jv,oW,dw,mW,fj,lf,iU]
@[simp] theorem avs{R:Type}(c:au)(K:AV->St->Option R)(st:St)(q:gZ)(s t:List Nat):aq c (.bin .geq q) [.str s,.str t] st K=K (.bool (!aO s t)) st:=aR c K (λH n=>apD H n q s t) st
theorem apE(H:Pos->Option AB)(n:Pos)(s:List Nat):aF.run H n (.lenB .s) [.str s]=some (.val (.int .i64 (s.length:Int))):=rfl
@[simp] theorem avt{R:Type}(c:au)(K:AV->St->Option R)(st:St)(s:List Nat):aq c (.lenB .s) [.str s] st K=K (.int .i64 (s.length:Int)) st:=aR c K (λH n=>apE H n s) st
theorem ag7(H:Pos->Option AB)(n:Pos)(es:Nat)(z:Bool)(rs:List (List AV)):aF.run H n (.lenB .l) [ro es z rs]=some (.val (.int .i64 (rs.length:Int))):=by unfold ro;split<;>rfl
@[simp] theorem fE{R:Type}(c:au)(K:AV->St->Option R)(st:St)(es:Nat)(z:Bool)(rs:List (List AV)):aq c (.lenB .l) [ro es z rs] st K=K (.int .i64 (rs.length:Int)) st:=aR c K (λH n=>ag7 H n es z rs) st
@[simp] theorem ag8{R:Type}(K:AV->Option R)(es:Nat)(z:Bool)(rs:List (List AV)):fD (.lenB .l) [ro es z rs] K=K (.int .i64 (rs.length:Int)):=dB K (λH n=>ag7 H n es z rs)
theorem ag9(H:Pos->Option AB)(n:Pos)(k k2:IntKind)(a:Int):aF.run H n (.conv (.int k)) [.int k2 a]=some (.val (.int k (ax k a))):=rfl
@[simp] theorem LS{R:Type}(c:au)(K:AV->St->Option R)(st:St)(k k2:IntKind)(a:Int):aq c (.conv (.int k)) [.int k2 a] st K=K (.int k (ax k a)) st:=aR c K (λH n=>ag9 H n k k2 a) st
@[simp] theorem avu{R:Type}(K:AV->Option R)(k k2:IntKind)(a:Int):fD (.conv (.int k)) [.int k2 a] K=K (.int k (ax k a)):=dB K (λH n=>ag9 H n k k2 a)
theorem apF(H:Pos->Option AB)(n:Pos)(k:IntKind)(s:List Nat)(i:Nat):aF.run H n .idxS [.str s,.int k (i:Int)]=((s[i]?.map λc=> .int .u8 (c:Int)):Option AV).map .val:=by simp only[aF.run,YK,jz,qH];cases s[i]? <;>rfl
@[simp] theorem avv{R:Type}(c:au)(K:AV->St->Option R)(st:St)(k:IntKind)(s:List Nat)(i:Nat):aq c .idxS [.str s,.int k (i:Int)] st K=yU (s[i]?.map λc=> .int .u8 (c:Int)) λv=>K v st:=LR c K (λH n=>apF H n k s i) st
theorem am8(H:Pos->Option AB)(n:Pos)(off:Nat)(l:List AV):aF.run H n (.field off none) [.agg l]=(l[off]? :Option AV).map .val:=by simp only[aF.run,RE,qH];cases l[off]? <;>rfl
@[simp] theorem am9{R:Type}(K:AV->Option R)(off:Nat)(l:List AV):fD (.field off none) [.agg l] K=yU l[off]? K:=WH K (λH n=>am8 H n off l)
theorem WJ(H:Pos->Option AB)(n:Pos)(off:Nat)(p:Pos)(o:Nat):aF.run H n (.fieldA off) [.ptr p o]=some (.val (.ptr p (o+off))):=rfl
@[simp] theorem aS{R:Type}(c:au)(K:AV->St->Option R)(st:St)(off:Nat)(p:Pos)(o:Nat):aq c (.fieldA off) [.ptr p o] st K=K (.ptr p (o+off)) st:=aR c K (λH n=>WJ H n off p o) st
@[simp] theorem bu{R:Type}(K:AV->Option R)(off:Nat)(p:Pos)(o:Nat):fD (.fieldA off) [.ptr p o] K=K (.ptr p (o+off)):=dB K (λH n=>WJ H n off p o)
theorem aha(H:Pos->Option AB)(n:Pos)(off:Nat)(xs:List (List AV))(i j:Nat):aF.run H n (.fieldA off) [.fp xs i j]=some (.val (.fp xs i (j+off))):=rfl
@[simp] theorem atJ{R:Type}(c:au)(K:AV->St->Option R)(st:St)(off:Nat)(xs:List (List AV))(i j:Nat):aq c (.fieldA off) [.fp xs i j] st K=K (.fp xs i (j+off)) st:=aR c K (λH n=>aha H n off xs i j) st
theorem aab(H:Pos->Option AB)(n:Pos)(i:Nat)(l:List AV):aF.run H n (.extract i) [.tuple l]=(l[i]? :Option AV).map .val:=by simp only[aF.run,KE,qH];cases l[i]? <;>rfl
@[simp] theorem kC{R:Type}(c:au)(K:AV->St->Option R)(st:St)(i:Nat)(l:List AV):aq c (.extract i) [.tuple l] st K=yU l[i]? λv=>K v st:=LR c K (λH n=>aab H n i l) st
@[simp] theorem auv{R:Type}(K:AV->Option R)(i:Nat)(l:List AV):fD (.extract i) [.tuple l] K=yU l[i]? K:=WH K (λH n=>aab H n i l)
theorem Qn(H:Pos->Option AB)(n:Pos)(p:Pos)(o:Nat):aF.run H n .nilCheck [.ptr p o]=some (.val (.ptr p o)):=rfl
@[simp] theorem cJ{R:Type}(c:au)(K:AV->St->Option R)(st:St)(p:Pos)(o:Nat):aq c .nilCheck [.ptr p o] st K=K (.ptr p o) st:=aR c K (λH n=>Qn H n p o) st
@[simp] theorem qz{R:Type}(K:AV->Option R)(p:Pos)(o:Nat):fD .nilCheck [.ptr p o] K=K (.ptr p o):=dB K (λH n=>Qn H n p o)
theorem ahb(H:Pos->Option AB)(n:Pos)(es:Nat)(z:Bool)(rs:List (List AV))(k:IntKind)(i:Nat):aF.run H n (.idxA es none) [ro es z rs,.int k (i:Int)]=((if i<rs.length then some (.fp rs i 0)else none):Option AV).map .val:=by
 by_cases h:i<rs.length
 . rw[adD (by intro e;subst e;simp at h)];simp[aF.run,sH,jz,KJ,cV,h]
 . unfold ro;split
   . rfl
   . simp[aF.run,sH,jz,KJ,cV,h]
@[simp] theorem aa1{R:Type}(c:au)(K:AV->St->Option R)(st:St)(es:Nat)(z:Bool)(rs:List (List AV))(k:IntKind)(i:Nat):aq c (.idxA es none) [ro es z rs,.int k (i:Int)] st K=yU (if i<rs.length then some (.fp rs i 0)else none) λv=>K v st:=LR c K (λH n=>ahb H n es z rs k i) st
@[simp] theorem apG{R:Type}(K:AV->Option R)(es:Nat)(z:Bool)(rs:List (List AV))(k:IntKind)(i:Nat):fD (.idxA es none) [ro es z rs,.int k (i:Int)] K=yU (if i<rs.length then some (.fp rs i 0)else none) K:=WH K (λH n=>ahb H n es z rs k i)
theorem aeL(H:Pos->Option AB)(n:Pos)(es:Nat)(z:Bool)(rs:List (List AV))(k:IntKind)(i:Nat):aF.run H n (.sliceL es false true false) [ro es z rs,.int k (i:Int)]=((if i<=rs.length then some (ro es (z&&rs.isEmpty) (rs.take i))else none):Option AV).map .val:=by
 by_cases h:i<=rs.length
 . rw[  Zb3 h];unfold ro;split
   . simp at h;subst h;rfl
   . rename_i hn;have:(z&&rs.isEmpty)=false:=(by cases z<;>cases rs<;>simp at hn ⊢);simp only[this];simp[aF.run,iP,bounds,jz,cU,cV,h]
 . rw[Za7 h];unfold ro;split
   . simp only[aF.run,iP,bounds,jz];have:¬i=0:=(by simp at h;omega);simp[cV,this]
   . simp[aF.run,iP,bounds,jz,cU,cV,h]
@[simp] theorem avn{R:Type}(c:au)(K:AV->St->Option R)(st:St)(es:Nat)(z:Bool)(rs:List (List AV))(k:IntKind)(i:Nat):aq c (.sliceL es false true false) [ro es z rs,.int k (i:Int)] st K=yU (if i<=rs.length then some (ro es (z&&rs.isEmpty) (rs.take i))else none) λv=>K v st:=LR c K (λH n=>aeL H n es z rs k i) st
@[simp] theorem ana{R:Type}(K:AV->Option R)(es:Nat)(z:Bool)(rs:List (List AV))(k:IntKind)(i:Nat):fD (.sliceL es false true false) [ro es z rs,.int k (i:Int)] K=yU (if i<=rs.length then some (ro es (z&&rs.isEmpty) (rs.take i))else none) K:=WH K (λH n=>aeL H n es z rs k i)
section
variable{R : Type}(c : au)(K : AV -> St -> Option R)(K1 : AV -> Option R)
theorem Dw(H:Pos->Option AB)(n:Pos)(xs:List (List AV))(i j:Nat):aF.run H n (.load none) [.fp xs i j]=(xs[i]?.bind λcs=>cs[j]?).map .val:=by
 simp only[aF.run,zP,qH];cases xs[i]? with
 |none=>rfl
 |some cs=>simp only[Zb1];cases cs[j]? <;>rfl
theorem OS(H:Pos->Option AB)(n:Pos)(m:Nat)(xs:List (List AV))(i j:Nat):aF.run H n (.load (some m)) [.fp xs i j]=((xs[i]?.bind λcs=>cut cs j m).map .agg).map .val:=by
 simp only[aF.run,zP,qH];cases xs[i]? with
 |none=>rfl
 |some cs=>simp only[Zb1];cases cut cs j m<;>rfl
theorem td (H:Pos->Option AB)(n:Pos)(p:Pos)(o:Nat):aF.run H n (.load none) [.ptr p o]=((cellsOf (H p)).bind λcs=>cs[o]?).map .val:=by
 simp only[aF.run,zP,qH];cases H p with
 |none=>rfl
 |some x=>   cases x<;>simp only[cellsOf,Zb1,Option.bind_none]<;>try rfl
             all_goals first|(rename_i cs _;cases cs[o]? <;>rfl)|(rename_i _ cs;cases cs[o]? <;>rfl)
theorem xE (H:Pos->Option AB)(n:Pos)(m:Nat)(p:Pos)(o:Nat):aF.run H n (.load (some m)) [.ptr p o]=(((cellsOf (H p)).bind λcs=>cut cs o m).map .agg).map .val:=by
 simp only[aF.run,zP];cases H p with
 |none=>rfl
 |some x=>   cases x<;>simp only[cellsOf,Zb1,Option.bind_none]<;>try rfl
             all_goals first|(rename_i cs _;cases cut cs o m<;>rfl)|(rename_i _ cs;cases cut cs o m<;>rfl)
@[simp] theorem auP(st:St)(xs:List (List AV))(i j:Nat):aq c (.load none) [.fp xs i j] st K=yU (xs[i]?.bind λcs=>cs[j]?) λv=>K v st:=LR c K (λH n=>Dw H n xs i j) st
@[simp] theorem ajf(st:St)(m:Nat)(xs:List (List AV))(i j:Nat):aq c (.load (some m)) [.fp xs i j] st K=IJ (xs[i]?.bind λcs=>cut cs j m) λl=>K (.agg l) st:=by rw[LR c K (λH n=>OS H n m xs i j) st];cases(xs[i]?.bind λcs=>cut cs j m)<;>rfl
@[simp] theorem bf(st:St)(p:Pos)(o:Nat):aq c (.load none) [.ptr p o] st K=yU ((cellsOf (st.heap.get p)).bind λcs=>cs[o]?) λv=>K v st:=by unfold aq cG;rw[td];cases((cellsOf (st.heap.get p)).bind λcs=>cs[o]?)<;>rfl
@[simp] theorem gG(st:St)(m:Nat)(p:Pos)(o:Nat):aq c (.load (some m)) [.ptr p o] st K=IJ ((cellsOf (st.heap.get p)).bind λcs=>cut cs o m) λl=>K (.agg l) st:=by unfold aq cG;rw[xE];cases((cellsOf (st.heap.get p)).bind λcs=>cut cs o m)<;>rfl
@[simp] theorem auQ(h:T AB)(xs:List (List AV))(i j:Nat):ia (.load none) [.fp xs i j] h (λ_=>true) K1=yU (xs[i]?.bind λcs=>cs[j]?) K1:=by unfold ia;rw[Dw,Dw];cases hx:(xs[i]?.bind λcs=>cs[j]?)<;>rfl
@[simp] theorem auw(h:T AB)(m:Nat)(xs:List (List AV))(i j:Nat):ia (.load (some m)) [.fp xs i j] h (λ_=>true) K1=IJ (xs[i]?.bind λcs=>cut cs j m) λl=>K1 (.agg l):=by unfold ia;rw[OS,OS];cases hx:(xs[i]?.bind λcs=>cut cs j m)<;>rfl
@[simp] theorem GQ(st:St)(f:FuncId)(xs:List AV):aq c (.mkFunc f 0) xs st K=K (.func f [] xs) st:=aR c K (λH n=>by simp[aF.run,G8,cU]) st
@[simp] theorem aac(f:FuncId)(xs:List AV):fD (.mkFunc f 0) xs K1=K1 (.func f [] xs):=dB K1 (λH n=>by simp[aF.run,G8,cU])
@[simp] theorem kQ(h:T AB)(p:Pos)(o:Nat):ia (.load none) [.ptr p o] h (λ_=>true) K1=yU ((cellsOf (h.get p)).bind λcs=>cs[o]?) K1:=by unfold ia;rw[td,td];show(match ((cellsOf (h.get p)).bind λcs=>cs[o]?).map eI.val with|some (.val v)=>_|_=>_)=_;cases((cellsOf (h.get p)).bind λcs=>cs[o]?)<;>rfl
@[simp] theorem GU(h:T AB)(m:Nat)(p:Pos)(o:Nat):ia (.load (some m)) [.ptr p o] h (λ_=>true) K1=IJ ((cellsOf (h.get p)).bind λcs=>cut cs o m) λl=>K1 (.agg l):=by unfold ia;rw[xE,xE];show(match (((cellsOf (h.get p)).bind λcs=>cut cs o m).map AV.agg).map eI.val with|some (.val v)=>_|_=>_)=_;cases((cellsOf (h.get p)).bind λcs=>cut cs o m)<;>rfl
theorem run_build(H:Pos->Option AB)(n:Pos)(z:List AV)(ps:List (Nat×Nat))(xs:List AV):aF.run H n (.build z ps) xs=((bY z ps xs).map .agg).map .val:=by simp only[aF.run,RA];cases bY z ps xs<;>rfl
@[simp] theorem ir(st:St)(z:List AV)(ps:List (Nat×Nat))(xs:List AV):aq c (.build z ps) xs st K=IJ (bY z ps xs) λl=>K (.agg l) st:=by rw[LR c K (λH n=>run_build H n z ps xs) st];cases bY z ps xs<;>rfl
@[simp] theorem Hr(z:List AV)(ps:List (Nat×Nat))(xs:List AV):fD (.build z ps) xs K1=IJ (bY z ps xs) λl=>K1 (.agg l):=by rw[WH K1 (λH n=>run_build H n z ps xs)];cases bY z ps xs<;>rfl
theorem cM{α:Type}{l:List α}{m:Nat}(h:l.length=m):cut l 0 m=some l:=by
 unfold cut;rw[cU,Za0 (by omega)];simp only[Zf3];rw[Zf9 (by omega)]
end
end Go.Ai
namespace Go.Ai
open Go
def Wf(st:St):Prop:=∀p x,st.heap.get p=some x->p.toNat<st.next.toNat
theorem bD(st:St)(b:AB):(ah st b).next=st.next.succ:=id rfl
@[simp] theorem bn{st:St}{b:AB}(h:Wf st):Wf (ah st b):=λp x hp=>by
  rw[bD,Pos.aC];by_cases e:st.next=p
  . subst e;omega
  . have:=h p x (by rwa [ah,T.bX _ e]at hp);omega
@[simp] theorem az(st:St)(b:AB):(ah st b).heap.get st.next=some b:=T.gH _ _ _
theorem xF{st:St}{b:AB}{p:Pos}(h:p.toNat<st.next.toNat):(ah st b).heap.get p=st.heap.get p:=by
 rw[ah,T.bX _ (by intro e;subst e;omega)]
@[simp] theorem LU{st:St}{a b:AB}:(ah (ah st a) b).heap.get st.next=some a:=by
  rw[xF (by rw[bD,Pos.aC];omega),az]
theorem cm{st:St}{b:AB}(h:Wf st):aT st (ah st b):=λp x hp=>by rw[xF (h p x hp)];exact hp
theorem aE{st st':St}{v:AV}(hv:Plain v)(hk:aT st st'):tidy st (v,st')=(v,st):=by
 unfold tidy;rw[Zb3 ⟨hv,hk⟩]
section
variable{R : Type}(c : au)(K : AV -> St -> Option R)
@[simp] theorem dI(x:AV)(st:St):aq c .box [x] st K=K (.ptr st.next 0) (ah st (.cells x.cells 0)):=id rfl
@[simp] theorem dF(l:List AV)(st:St):aq c (.alloc l) [] st K=K (.ptr st.next 0) (ah st (.cells l 0)):=id rfl
end
theorem T.F7{α:Type}(x y:Option α):∀(p:Pos)(t:T α),T.put x p (T.put y p t)=T.put x p t
 | .h,.e=>rfl
 | .h,.n _ _ _=>rfl
 | .o p,.e=>by simp only[T.put];rw[T.F7 x y p]
 | .o p,.n _ _ _=>by simp only[T.put];rw[T.F7 x y p]
 | .i p,.e=>by simp only[T.put];rw[T.F7 x y p]
 | .i p,.n _ _ _=>by simp only[T.put];rw[T.F7 x y p]
def aY(st:St)(p:Pos)(b:AB):St:={ heap:=st.heap.put (some b) p,next:=st.next }
@[simp] theorem dH(st:St)(p:Pos)(b:AB):(aY st p b).next=st.next:=id rfl
@[simp] theorem bN(st:St)(p:Pos)(b:AB):(aY st p b).heap.get p=some b:=T.gH _ _ _
theorem aG{st:St}{p q:Pos}{b:AB}(h:p≠q):(aY st p b).heap.get q=st.heap.get q:=T.bX _ h _
@[simp] theorem Lj(st:St)(a b:AB):aY (ah st a) st.next b=ah st b:=by
  unfold aY ah;simp only[T.F7]
@[simp] theorem Qo(st:St)(p:Pos)(a b:AB):aY (aY st p a) p b=aY st p b:=by
  unfold aY;simp only[T.F7]
theorem Pos.Ll(p:Pos):p≠p.succ:=λe=>by have:=congrArg Pos.toNat e;rw[Pos.aC]at this;omega
theorem bP{R:Type}(c:au)(K:AV->St->Option R)(st:St)(m:Nat)(p:Pos)(o:Nat)(v:AV)(cs:List AV)(h:st.heap.get p=some (.cells cs 0))(h1:v.cells.length=m)(h2:o+m<=cs.length)(h3:aM v.cells=true):
  aq c (.store m) [.ptr p o,v] st K=K .undef (aY st p (.cells (aU cs o v.cells) 0)):=by
 have:aF.run (λb=>st.heap.get b) st.next (.store m) [.ptr p o,v]=some (.bh .undef none (some (p,.cells (aU cs o v.cells) 0)) none):=by
  simp[aF.run,Lw,h,h1,h2,h3,cV,cU]
 unfold aq cG;rw[this];rfl
@[simp] theorem cr{R:Type}(c:au)(K:AV->St->Option R)(st:St)(m:Nat)(v:AV)(cs:List AV)(h1:v.cells.length=m)(h2:m=cs.length)(h3:aM v.cells=true):
   aq c (.store m) [.ptr st.next 0,v] (ah st (.cells cs 0)) K=K .undef (ah st (.cells v.cells 0)):=by
  rw[bP c K _ m st.next 0 v cs (az _ _) h1 (by omega) h3,Lj];have:aU cs 0 v.cells=v.cells:=by unfold aU;rw[h1,h2];simp
  rw[this]
theorem auR{R:Type}(n:Option Nat)(p:Pos)(o:Nat)(st:St)(K:AV->Option R):ldr n (.ptr p o) st K=match n with
  |none=>yU ((cellsOf (st.heap.get p)).bind λcs=>cs[o]?) K
  |some m=>IJ ((cellsOf (st.heap.get p)).bind λcs=>cut cs o m) λl=>K (.agg l):=by
 unfold ldr;cases n with
 |none=>rw[td];simp only;cases((cellsOf (st.heap.get p)).bind λcs=>cs[o]?)<;>rfl
 |some m=>rw[xE];simp only;cases((cellsOf (st.heap.get p)).bind λcs=>cut cs o m)<;>rfl
@[simp] theorem ahc{R:Type}(m:Nat)(p:Pos)(o:Nat)(st:St)(K:AV->Option R):ldr (some m) (.ptr p o) st K=IJ ((cellsOf (st.heap.get p)).bind λcs=>cut cs o m) λl=>K (.agg l):=auR (some m) p o st K
@[simp] theorem anb(es:Nat)(z:Bool)(rs:List (List AV)):(ro es z rs).one=true:=by unfold ro;split<;>rfl
@[simp] theorem ahd(es:Nat)(z:Bool)(rs:List (List AV)):(ro es z rs).cells=[ro es z rs]:=by unfold ro;split<;>rfl
theorem Plain.ro{es:Nat}{z:Bool}{rs:List (List AV)}(h:∀cs∈rs,∀v∈cs,Plain v):Plain (ro es z rs):=by
 unfold Go.Ai.ro;split
 . exact Plain.af
 . exact Plain.fl h
structure Grew(s s':St):Prop where
 wf:Wf s'
 keeps:aT s s'
 next:s.next.toNat<=s'.next.toNat
theorem Grew.refl{s:St}(h:Wf s):Grew s s:=⟨h,aT.refl s,Za3 _⟩
theorem Grew.trans{a b c:St}(h:Grew a b)(k:Grew b c):Grew a c:=⟨k.wf,h.keeps.trans k.keeps,Zb0 h.next k.next⟩
theorem Grew.ah{s:St}(h:Wf s)(b:AB):Grew s (ah s b):=⟨bn h,cm h,by rw[bD,Pos.aC];omega⟩
theorem Grew.get{s s':St}(h:Grew s s'){p:Pos}{x:AB}(hp:s.heap.get p=some x):s'.heap.get p=some x:=h.keeps p x hp
end Go.Ai
end
namespace Go.Ai
section
set_option linter.all false
open Go
theorem jD{st:St}{p:Pos}{b:AB}(h:Wf st)(hp:p.toNat<st.next.toNat):Wf (aY st p b):=λq x hq=>by
 rw[dH];by_cases e:p=q
 . subst e;exact hp
 . rw[aG e]at hq;exact h q x hq
def dst(st:St)(p:Pos)(b:AB):St:={ heap:=(st.heap.put none p).put (some b) st.next,next:=st.next.succ }
theorem apH(st:St)(p:Pos)(b:AB):(dst st p b).next=st.next.succ:=id rfl
theorem adG(st:St)(p:Pos)(b:AB):(dst st p b).heap.get st.next=some b:=T.gH _ _ _
theorem acj{st:St}{p q:Pos}{b:AB}(h:p≠q)(h2:q.toNat<st.next.toNat):(dst st p b).heap.get q=st.heap.get q:=by
 rw[dst,T.bX _ (by intro e;subst e;omega),T.bX _ h]
theorem anc{st:St}{p:Pos}{b:AB}(h:Wf st):Wf (dst st p b):=λq x hq=>by
 rw[apH,Pos.aC];by_cases e:st.next=q
 . subst e;omega
 . rw[dst,T.bX _ e]at hq;by_cases e2:p=q
   . subst e2;rw[T.gH]at hq;cases hq
   . rw[T.bX _ e2]at hq;have:=h q x hq;omega
theorem ane{s s':St}{v:AV}(h:Grew s s')(hw:Wf s):∃cY,tidy s (v,s')=(v,cY)/\Grew s cY:=by
 unfold tidy;split
 . exact⟨s,rfl,Grew.refl hw⟩
 . exact⟨s',rfl,h⟩
theorem adH{s s':St}{v:AV}{b:Pos}{x:AB}(h:s.heap.get b=some x)(h2:s'.heap.get b≠some x):tidy s (v,s')=(v,s'):=by
 unfold tidy;rw[Za7];exact λe=>h2 (e.2 b x h)
section
variable{R : Type}(c : au)(K : AV -> St -> Option R)(K1 : AV -> Option R)
theorem ack(H:Pos->Option AB)(n:Pos)(es len:Nat)(z:List AV)(ps:List Nat)(xs:List AV):aF.run H n (.buildSlice es len z ps) xs=(bY (bU z len) (ps.map λi=>(i*es,es)) xs).map λcs=> .bh (.slice n 0 len (some len) es) none none (some (.cells cs 0)):=by simp only[aF.run,wZ];cases bY (bU z len) (ps.map λi=>(i*es,es)) xs<;>rfl
@[simp] theorem av(st:St)(es len:Nat)(z:List AV)(ps:List Nat)(xs:List AV):aq c (.buildSlice es len z ps) xs st K=IJ (bY (bU z len) (ps.map λi=>(i*es,es)) xs) λcs=>K (.slice st.next 0 len (some len) es) (ah st (.cells cs 0)):=by unfold aq cG;rw[ack];cases bY (bU z len) (ps.map λi=>(i*es,es)) xs<;>rfl
@[simp] theorem p7(st:St)(es len:Nat)(z:List AV)(ps:List Nat)(xs:List AV)(K2:AV->AB->Option R):Um (.buildSlice es len z ps) xs st K2=IJ (bY (bU z len) (ps.map λi=>(i*es,es)) xs) λcs=>K2 (.slice st.next 0 len (some len) es) (.cells cs 0):=by unfold Um;rw[ack];cases bY (bU z len) (ps.map λi=>(i*es,es)) xs<;>rfl
@[simp] theorem WM(st:St):aq c .mkMap [] st K=K (.map st.next) (ah st (.map [] 0)):=id rfl
theorem ahe{st:St}{es bytes m:Nat}{x:AV}{new:List AV}(hm:eJ x=some m)(h0:m≠0)(hb:(2*(0+m)+768)*bytes<=281474976710656)(hs:0+m<=9223372036854775807)(hx:dy es m (λb=>st.heap.get b) x=some new):
  aq c (.append es bytes) [.af,x] st K=K (.slice st.next 0 m none es) (ah st (.cells new 0)):=by
 have:aF.run (λb=>st.heap.get b) st.next (.append es bytes) [.af,x]=some (.bh (.slice st.next 0 m none es) none none (some (.cells new 0))):=by
  simp only[aF.run,lK];rw[show eJ .af=some 0 from rfl,hm];simp only[cU,cV,Za0 hb,Za0 hs,Za2 h0,hx]
 unfold aq cG;rw[this];rfl
theorem ar7{st:St}{es bytes m n:Nat}{p:Pos}{x:AV}{cs gL new:List AV}(hm:eJ x=some m)(h0:m≠0)(hb:(2*(n+m)+768)*bytes<=281474976710656)(hs:n+m<=9223372036854775807)(hp:st.heap.get p=some (.cells cs 0))
  (ho:dy es n (λb=>st.heap.get b) (.slice p 0 n none es)=some gL) (hx:dy es m (λb=>st.heap.get b) x=some new) (h1:aM new=true):
  aq c (.append es bytes) [.slice p 0 n none es,x] st K=K (.slice st.next 0 (n+m) none es) (dst st p (.cells (gL++new) 0)):=by
 have:aF.run (λb=>st.heap.get b) st.next (.append es bytes) [.slice p 0 n none es,x]=some (.bh (.slice st.next 0 (n+m) none es) (some p) none (some (.cells (gL++new) 0))):=by simp only[aF.run,lK];rw[show eJ (.slice p 0 n none es)=some n from rfl,hm];simp only[cU,cV,Za0 hb,Za0 hs,Za2 h0,hx,hp,ho,h1];simp
 unfold aq cG;rw[this];rfl
theorem anf{st:St}{es bytes m:Nat}{p:Pos}{x:AV}{new:List AV}(hm:eJ x=some m)(h0:m≠0)(hb:(2*(0+m)+768)*bytes<=281474976710656)(hs:0+m<=9223372036854775807)(hx:dy es m (λb=>st.heap.get b) x=some new):
  aq c (.append es bytes) [.slice p 0 0 (some 0) es,x] st K=K (.slice st.next 0 m none es) (ah st (.cells new 0)):=by
 have:aF.run (λb=>st.heap.get b) st.next (.append es bytes) [.slice p 0 0 (some 0) es,x]=some (.bh (.slice st.next 0 m none es) none none (some (.cells new 0))):=by
  have h2:¬(0+m<=0):=by omega
  have ho:dy es 0 (λb=>st.heap.get b) (.slice p 0 0 (some 0) es)=some []:=by simp[dy]
  simp only[aF.run,lK];rw[show eJ (.slice p 0 0 (some 0) es)=some 0 from rfl,hm];simp only[cU,cV,Za0 hb,Za0 hs,Za2 h0,Za2 h2,hx,ho];simp only[Zc3,Ze1]
 unfold aq cG;rw[this];rfl
theorem ahf{st:St}{es bytes:Nat}{p:Pos}{off n:Nat}{cp:Option Nat}{x:AV}(hm:eJ x=some 0)(hb:(2*(n+0)+768)*bytes<=281474976710656)(hs:n+0<=9223372036854775807):
  aq c (.append es bytes) [.slice p off n cp es,x] st K=K (.slice p off n cp es) st:=by
 have:aF.run (λb=>st.heap.get b) st.next (.append es bytes) [.slice p off n cp es,x]=some (.val (.slice p off n cp es)):=by
  simp only[aF.run,lK];rw[show eJ (.slice p off n cp es)=some n from rfl,hm];simp only[cU,cV,Za0 hb,Za0 hs]
 unfold aq cG;rw[this]
theorem aeM(H:Pos->Option AB)(n:Pos)(z:AV)(m:Pos)(es:List (AV×AV×Nat))(cl:Nat)(k:AV)(h:H m=some (.map es cl))(r:Option (Nat×AV))(hf:gP .s k es 0=some r):
  aF.run H n (.lookup .s z true) [.map m,k]=some (.val (match r with|some (_,v)=> .tuple [v,.bool true]|none=> .tuple [z,.bool false])):=by
 simp only[aF.run,kq,h,hf];cases r with
 |none=>rfl
 |some p=>rfl
theorem CC(z:AV){st:St}{m:Pos}{es:List (AV×AV×Nat)}{cl:Nat}{k:AV}{r:Option (Nat×AV)}(h:st.heap.get m=some (.map es cl))(hf:gP .s k es 0=some r):
  aq c (.lookup .s z true) [.map m,k] st K=K (match r with|some (_,v)=> .tuple [v,.bool true]|none=> .tuple [z,.bool false]) st:=by
 unfold aq cG;rw[aeM _ _ z m es cl k h r hf]
theorem aeN(z:AV){h:T AB}{m:Pos}{es:List (AV×AV×Nat)}{cl:Nat}{k:AV}{r:Option (Nat×AV)}(hh:h.get m=some (.map es cl))(hf:gP .s k es 0=some r):
  ia (.lookup .s z true) [.map m,k] h (λ_=>true) K1=K1 (match r with|some (_,v)=> .tuple [v,.bool true]|none=> .tuple [z,.bool false]):=by
 unfold ia;have e:aF.run (λ_=>none) .h (.lookup .s z true) [.map m,k]=none:=rfl;rw[e];simp only;rw[aeM _ _ z m es cl k hh r hf]
theorem ajg{st:St}{m:Pos}{es:List (AV×AV×Nat)}{cl:Nat}{k:List Nat}{v:AV}(h:st.heap.get m=some (.map es cl))(hf:gP .s (.str k) es 0=some none):
  aq c (.mapSet .s) [.map m,.str k,v] st K=K .undef (aY st m (.map (es++[(.str k,v,cl)]) (cl+1))):=by
 have:aF.run (λb=>st.heap.get b) st.next (.mapSet .s) [.map m,.str k,v]=some (.bh .undef none (some (m,.map (es++[(.str k,v,cl)]) (cl+1))) none):=by
  simp[aF.run,yG,h,hf,agt]
 unfold aq cG;rw[this];rfl
theorem F8{p:Pos}{o:Nat}{h h2:T AB}{v:AV}(hv:((cellsOf (h.get p)).bind λcs=>cs[o]?)=some v)(P5:((cellsOf (h2.get p)).bind λcs=>cs[o]?)=some v)(hb:eo v v=true):
  ia (.load none) [.ptr p o] h (λv=>oJ (.load none) [.ptr p o] v (nE [] h2)&&true) K1=K1 v:=by
 unfold ia;have e:aF.run (λ_=>none) .h (.load none) [.ptr p o]=none:=rfl;rw[e];simp only;rw[td,hv];simp only[Ze2];have:oJ (.load none) [.ptr p o] v (nE [] h2)=true:=by unfold oJ;show(match aF.run (λb=>h2.get b) .h (.load none) [.ptr p o]with|some (.val u)=>eo u v|_=>false)=true;rw[td,P5];exact hb
 rw[this];rfl
end
theorem kg{R:Type}(K1:AV->Option R){p:Pos}{o:Nat}{h h2:T AB}{v:AV}(hv:((cellsOf (h.get p)).bind λcs=>cs[o]?)=some v)(P5:((cellsOf (h2.get p)).bind λcs=>cs[o]?)=some v)(hb:eo v v=true):
  ia (.load none) [.ptr p o] h (λv=>oJ (.load none) [.ptr p o] v (nE [] h2)) K1=K1 v:=by
 have:=F8 K1 hv P5 hb;simp only[Zi1]at this;exact this
theorem N6(p:Pos)(o n es:Nat):eo (.slice p o n none es) (.slice p o n none es)=true:=by
 simp[eo,mV,fP,Pos.beq_eq.2 rfl]
theorem Sx:eo .af .af=true:=rfl
inductive dc:Nat->AV->Prop
 |flat {d:Nat} {v:AV} (h:fP v v=true):dc d v
 |fl {d:Nat} {a:List (List AV)} {n:Nat} (h:∀r∈a,∀v∈r,dc d v):dc (d+1) (.fl a n)
theorem acm{f:AV->AV->Bool}:∀{a:List AV},(∀v∈a,f v v=true)->NF f a a=true
 |[],_=>rfl
 |a::x,h=>by
  simp only[NF,h a (by simp),acm (λv hv=>h v (Za9 _ hv)),Zi2]
theorem WN{f:AV->AV->Bool}:∀{a:List (List AV)},(∀r∈a,∀v∈r,f v v=true)->Cs f a a=true
 |[],_=>rfl
 |a::x,h=>by
  simp only[Cs,acm (h a (by simp)),WN (λv hv=>h v (Za9 _ hv)),Zi2]
theorem Sy:∀{d:Nat}{v:AV},dc d v->NG d v v=true
 |d,v,.flat h=>by
  unfold NG;split
  . simp[fP]at h
  . exact h
 |d+1,.fl a n,.fl h=>by
  unfold NG;simp[WN (λr hr v hv=>Sy (h r hr v hv))]
theorem dc.ro{d es:Nat}{z:Bool}{rs:List (List AV)}(h:∀r∈rs,∀v∈r,dc d v):dc (d+1) (ro es z rs):=by
 unfold Go.Ai.ro;split
 . exact .flat rfl
 . exact .fl h
theorem vD{v:AV}(h:dc 3 v):eo v v=true:=by
 have h3:=Sy h;cases h with
 |flat h=>
  cases v<;>simp[fP]at h<;>first|simp[eo,mV,fP,h]|skip
  all_goals simp_all [eo,mV,fP]
 |fl h=>exact h3
theorem ali{v:AV}(h:dc 3 v):mV v v=true:=by
 have h3:=Sy h;cases h with
 |flat h=>
  cases v<;>simp[fP]at h<;>first|simp[mV,fP,h]|skip
  all_goals simp_all [mV,fP]
 |fl h=>exact h3
theorem BM{l:List AV}(h:∀v∈l,dc 3 v):eo (.agg l) (.agg l)=true:=by
 show tM l l=true;induction l with
 |nil=>rfl
 |cons v l ih=>simp only[tM,ali (h v (by simp)),ih (λu hu=>h u (Za9 _ hu)),Zi2]
theorem Sz{R:Type}(K1:AV->Option R){m:Nat}{p:Pos}{o:Nat}{h h2:T AB}{l:List AV}(hv:((cellsOf (h.get p)).bind λcs=>cut cs o m)=some l)(P5:((cellsOf (h2.get p)).bind λcs=>cut cs o m)=some l)(hb:eo (.agg l) (.agg l)=true):
  ia (.load (some m)) [.ptr p o] h (λv=>oJ (.load (some m)) [.ptr p o] v (nE [] h2)) K1=K1 (.agg l):=by
 unfold ia;have e:aF.run (λ_=>none) .h (.load (some m)) [.ptr p o]=none:=rfl;rw[e];simp only;rw[xE,hv];simp only[Ze2];have:oJ (.load (some m)) [.ptr p o] (.agg l) (nE [] h2)=true:=by unfold oJ;show(match aF.run (λb=>h2.get b) .h (.load (some m)) [.ptr p o]with|some (.val u)=>eo u (.agg l)|_=>false)=true;rw[xE,P5];exact hb
 rw[this]
theorem dc.int{d:Nat}(k:IntKind)(n:Int):dc d (.int k n):= .flat (by simp[fP,mG,dw])
theorem dc.str{d:Nat}(s:List Nat):dc d (.str s):= .flat (by simp[fP,mH])
theorem dc.bool{d:Nat}(s:Bool):dc d (.bool s):= .flat (by simp[fP])
end
section
open Go
section
variable{H : Type}(enc : TypeId × Value -> H)(P : Program)(w : World)(base : Nat)(spare : Nat -> Bool)(held : Bool)
def oO(t:TypeId)(Q:List AV->Prop):Prop:=
 ∀  (fuel:Nat)(cs:List Value)(x:DataW H×List MemPlace),DataW.trod enc P w base spare held fuel t cs=some x->
    ∃as,Q as/\∀ρ n,aL ρ n (λad=>w.cell? ad) as cs
variable{enc P w base spare held}
theorem oO.mono{t:TypeId}{Q Q':List AV->Prop}(h:oO enc P w base spare held t Q)(k:∀as,Q as->Q' as):oO enc P w base spare held t Q':=
 λfuel cs x hx=>by obtain⟨as,h1,h2⟩:=h fuel cs x hx;exact⟨as,k _ h1,h2⟩
theorem WO{t:TypeId}{k:IntKind}(ht:P.underlying t=some (.int k)):oO enc P w base spare held t λas=>∃i,as=[.int k i]/\(Lit.int k i).wf=true:=
 fun fuel cs x hx=>by
  obtain⟨n,rfl,h⟩:=DataW.trod_int ht hx;exact⟨_,⟨n,rfl,h.2⟩,λρ m=>aL.cons (.int k n) aL.nil⟩
theorem aad {t e:TypeId}{es:Nat}{Q:List AV->Prop}(ht:P.underlying t=some (.slice e))(hc:P.cellsOf e=es)(dY:0<es)(hQ:∀as,Q as->as.length=es)(h:oO enc P w base spare held e Q):
  oO enc P w base spare held t λas=>∃z rs,as=[ro es z rs]/\(∀r∈rs,Q r)/\rs.length<=maxLen:=
 fun fuel cs x hx=>by
  rcases DataW.trod_slice ht hx with⟨rfl,_⟩|⟨a,len,cap,elems,rest,n,_,rfl,_,hb,hl,hm,hlen,hel,_,_⟩
  .  exact⟨_,⟨true,[],rfl,by simp,by simp⟩,λρ m=>aL.cons .af aL.nil⟩
  .  have each:∀i,∃r row,i<len->(Q r/\w.cells? base (a.add (i*es)) es=some row/\∀ρ m,aL ρ m (λad=>w.cell? ad) r row):=by
        intro i;by_cases hi:i<len
        . have h1:=hel i hi;rw[H0 (by omega),hc]at h1;cases h2:w.cells? base (a.add (i*es)) es with
          |none=>rw[h2]at h1;cases h1
          | some row=>
            rw[h2]at h1;obtain⟨r,hr,hv⟩:=h n row _ h1;exact⟨r,row,λ_=>⟨hr,rfl,hv⟩⟩
        . exact⟨[],[],λh=>absurd h hi⟩
     obtain⟨r,each⟩:=Classical.axiomOfChoice each;obtain⟨row,hr⟩:=Classical.axiomOfChoice each;have arB:0<len->a.spot=none:=λh0=>by
        obtain⟨_,h1,_⟩:=hr 0 h0;have:=(World.cells?_some h1).2.2 0 dY;have hl:=(World.cells?_some h1).2.1;rw[H0 (by omega)]at this;simp only[Zn4,Addr.add,Zh7]at this;unfold World.cell? at this;split at this
        . split at this
          . cases this
          . rename_i h;simpa using h
        . cases this
     have auS:((List.range len).map r).length=len:=(by simp);have get:∀(i:Nat)(c:List AV),((List.range len).map r)[i]? =some c->i<len/\c=r i:=λi c hi=>by
        rw[Zb4]at hi;by_cases h:i<len
        . rw[Zh5 h]at hi;simp at hi;exact⟨h,hi.symm⟩
        . rw[Zc4 (by simpa using h)]at hi;cases hi
     refine⟨_,⟨false,(List.range len).map r,rfl,?_,by simp;omega⟩,λρ m=>aL.cons ?_ aL.nil⟩
     .  intro q hq;simp only[Zc7,Zh6]at hq;obtain⟨i,hi,rfl⟩:=hq;exact(hr i hi).1
     .  have key:aD ρ m (λad=>w.cell? ad) (.fl ((List.range len).map r) es) (.slice (some a) ((List.range len).map r).length cap):=by
          refine .fl _ es cap a (λi j=>((row i)[j]?).getD .nilFunc) (by omega) (λh0=>arB ?_) (λi c hi=> ?_) (λi j c v hi hj=> ?_) (λi j c v hi hj=> ?_)
          . apply Zk7;intro h;apply h0;have:len=0:=(by omega);subst this;rfl
          . obtain⟨h1,rfl⟩:=get i c hi;exact hQ _ (hr i h1).1
          . obtain⟨h1,rfl⟩:=get i c hi;obtain⟨q1,q2,q3⟩:=hr i h1;have hj2:j<es:=(by rw[<-hQ _ q1];exact(Za1.1 hj).1);have q4:=(World.cells?_some q2).2.2 j hj2;have q5:=(World.cells?_some q2).2.1;have hs:=arB (by omega);have e1:(a.add (i*es)).add j=⟨a.block,a.off+i*es+j,none⟩:=by
             obtain⟨aN,off,spot⟩:=a;simp only at hs;subst hs;unfold Addr.add;by_cases e1:i*es=0<;>by_cases e2:j=0<;>simp[e1,e2]
            rw[e1]at q4;show w.cell? _=_;rw[q4,H0 (by omega)];rfl
          . obtain⟨h1,rfl⟩:=get i c hi;obtain⟨q1,q2,q3⟩:=hr i h1;have hj2:j<es:=(by rw[<-hQ _ q1];exact(Za1.1 hj).1);have q5:=(World.cells?_some q2).2.1;refine(q3 ρ m).2 j v _ hj ?_;rw[H0 (by omega)];rfl
        rw[auS]at key;exact key
def SA:List (List AV->Prop)->List (List AV)->Prop
 |[],[]=>True
 |Q::Qs,p::ps=>Q p/\SA Qs ps
 |_,_=>False
def WQ(P:Program)(tot:Nat):Nat->List Field->Bool
 |o,[]=>o==tot
 |o,f::fs=>f.offset==o&&WQ P tot (o+P.cellsOf f.type) fs
def ahg(enc:TypeId×Value->H)(P:Program)(w:World)(base:Nat)(spare:Nat->Bool)(held:Bool):List TypeId->List (List AV->Prop)->Prop
 |[],[]=>True
 |f::fs,Q::Qs=>oO enc P w base spare held f Q/\ahg enc P w base spare held fs Qs
 |_,_=>False
theorem WS{tot n:Nat}:∀(fs:List Field)(Qs:List (List AV->Prop))(o:Nat)(cs:List Value),WQ P tot o fs=true->ahg enc P w base spare held (fs.map (·.type)) Qs->cs.length=tot->
  (∀f∈fs,∃y,DataW.trod enc P w base spare held n f.type ((cs.drop f.offset).take (P.cellsOf f.type))=some y)->
  ∃parts,SA Qs parts/\∀ρ m,aL ρ m (λad=>w.cell? ad) parts.flatten (cs.drop o)
 |[],[],o,cs,hc,_,hl,_=>by simp only[WQ,beq_iff_eq]at hc;refine⟨[],trivial,λρ m=> ?_⟩;rw[List.drop_eq_nil_of_le (by omega)];exact aL.nil
 |f::fs,Q::Qs,o,cs,hc,hO,hl,hf=>by
  simp only[WQ,Zb6,beq_iff_eq]at hc;obtain⟨y,hy⟩:=hf f (by simp);obtain⟨as,hq,hv⟩:=hO.1 n _ y hy;obtain⟨parts,hp,P5⟩:=WS fs Qs _ cs hc.2 hO.2 hl (λg hg=>hf g (Za9 _ hg));refine⟨as::parts,⟨hq,hp⟩,λρ m=> ?_⟩;have e:cs.drop o=(cs.drop f.offset).take (P.cellsOf f.type)++cs.drop (o+P.cellsOf f.type):=by
   rw[hc.1, <-Zl1,Zl5]
  rw[e,Zf5];exact(hv ρ m).append (P5 ρ m)
def fieldsOf(P:Program)(t:TypeId):List Field:=match P.underlying t with
 |some (.struct fs)=>fs.toList
 |_=>[]
def ahh(P:Program)(t:TypeId):Bool:=match P.underlying t with
 |some (.struct _)=>true
 |_=>false
theorem ahi{t:TypeId}(ts:List TypeId){Qs:List (List AV->Prop)}(hs:ahh P t=true)(um:(fieldsOf P t).map (·.type)=ts)(hc:WQ P (P.cellsOf t) 0 (fieldsOf P t)=true)(hO:ahg enc P w base spare held ts Qs):
  oO enc P w base spare held t λas=>∃parts,as=parts.flatten/\SA Qs parts:=
 fun fuel cs x hx=>by
  obtain⟨fs,ht⟩:∃fs,P.underlying t=some (.struct fs):=by
     unfold ahh at hs;cases h:P.underlying t with
     |none=>rw[h]at hs;cases hs
     |some d=>rw[h]at hs;cases d<;>first|exact⟨_,rfl⟩|cases hs
  have ef:fieldsOf P t=fs.toList:=by unfold fieldsOf;rw[ht]
  rw[ef]at um hc;subst um;obtain⟨xs,n,_,_,hl,hxl,hf⟩:=DataW.trod_struct ht hx;obtain⟨parts,hp,hv⟩:=WS fs.toList Qs 0 cs hc hO hl (λf hf2=>by
     obtain⟨i,hi⟩:=List.getElem?_of_mem hf2;have Ak:fs[i]? =some f:=(by rw[<-Zj7];exact hi);have aV:i<fs.size:=(Zd3.1 Ak).1;exact⟨xs[i],by rw[hf i f Ak,H0 (by omega)]⟩)
  exact⟨_,⟨parts,rfl,hp⟩,λρ m=>hv ρ m⟩
end
def Quiet(w w':World):Prop:=w'.os=w.os/\w'.tape=w.tape/\w'.output=w.output/\w.heap.size<=w'.heap.size/\∀k,k<w.heap.size->w'.heap[k]? =w.heap[k]?
def YV:List AV->St->Option (AV×St)
 |[],st=>some (.bool true,st)
 |_,_=>none
theorem aeO{P:Program}{C:Cells}{f:FuncId}{fn:Func}{c:Code}(hf:P.funcs[f]? =some fn)(pX:¬fn.name= "runtime.NumGoroutine")(hb:fn.body=some c)
  (h:∀w:World,(∀ad u,C ad=some u->w.cell? ad=some u)->Calls P f #[] w λe w'=>e= .returned (.bool true)/\Quiet w w'):tR P C f YV where
 mono args st v st' hs:=by
  unfold YV at hs;split at hs<;>first|(cases hs;done)|skip
  simp only[H5,Zd1]at hs;rw[<-hs.2];exact Za3 _
 runs ρ st w args v st' cL hs hW hv:=by
  unfold YV at hs;split at hs<;>first|(cases hs;done)|skip
  simp only[H5,Zd1]at hs;obtain⟨rfl,rfl⟩:=hs;obtain rfl:=hv.qx;have dR:(callFunc f ([]:List Value).toArray).run P w= .ok (.enter f #[]) w:=by simp[callFunc,hf,pX,hb]
  rw[dR];refine Calls.mono (h w λad u ha=>(hW.eD ad u ha).1) λe w' he=> ?_
  obtain⟨rfl,h1,h2,h3,h4,h5⟩:=he;exact⟨ρ,.bool true,λ_ _=>rfl,Za3 _,hW.grow h4 h5,⟨h1,h2,h3,h4,λk hk _=>h5 k hk,λb x hb=> .inl ⟨b,x,hb,rfl⟩⟩⟩
theorem apI{P:Program}{C:Cells}{call:au}{f:FuncId}{fn:Func}{c:Code}{args:List AV}{cL:List Value}{b:Bool}{n0:Pos}{bw:St}{w:World}
  (cF:jd P C call) (hC:∀ad v,C ad=some v->w.cell? ad=some v) (hC2:∀a v,C a=some v->∀o,C ⟨a.block,o,none⟩=none->w.cell? ⟨a.block,o,none⟩=none) (hf:P.funcs[f]? =some fn) (pX:¬fn.name= "runtime.NumGoroutine") (hb:fn.body=some c)
  (ha:aL (λ_=>⟨0,0,0⟩) n0.toNat C args cL) (h:call f args { heap:= .e,next:=n0 }=some (.bool b,bw)):
  Calls P f cL.toArray w λe w'=>e= .returned (.bool b)/\Quiet w w':=by
 have hr:=cF (λ_=>⟨0,0,0⟩) { heap:= .e,next:=n0 } w f args (.bool b) bw cL h (Ho hC hC2) ha;have dR:(callFunc f cL.toArray).run P w= .ok (.enter f cL.toArray) w:=by simp[callFunc,hf,pX,hb]
 rw[dR]at hr;refine Calls.mono hr λe w' he=> ?_
 cases e with
 |returned x=>
  obtain⟨ρ',h1,_,_,_,hE⟩:=he;have:=h1.kZ;subst this;exact⟨rfl,hE.os,hE.tape,hE.output,hE.size,λk hk=>hE.block k hk λb x hb=>by rw[T.dP]at hb;cases hb⟩
 |panicked c=>exact he.elim
 |outgrown=>exact he.elim
end
section
open Go Go.ChangeShapes Go.WideShapes Go.ChangeAt Go.RowKit
theorem Quiet.below{w w':World}(h:Quiet w w'):Below w.heap.size w w':=⟨h.1,h.2.1,h.2.2.1,h.2.2.2.1,h.2.2.2.2⟩
section
variable{H : Type}{enc : TypeId × Value -> H}{P : Program}
theorem Uo{W W':World}(hl:laidOutB P=true)(hb:Below W.heap.size W W'):∀{ts:List TypeId}{vs:List Value}{ds:List (DataW H)}{p:List MemPlace},
  DataW.TrodAll enc P W 0 (λ_=>true) true ts vs ds p->(∀t∈ts,P.readableRec t=true/\t<P.types.size)->(∀x∈p,x.block<W.heap.size)->
  DataW.TrodAll enc P W' 0 (λb=>decide (b<W.heap.size)) true ts vs ds p
 |[],_,_,_,h,_,_=>by obtain⟨rfl,rfl,rfl⟩:=trodAll_nil h;exact trodAll_mk0
 |t::ts,_,_,_,h,hr,hx=>by
  obtain⟨v,vs1,d,ds1,a,b,rfl,rfl,rfl,h1,h2⟩:=trodAll_cons h
  exact trodAll_cons_mk (Below.trod hl (hr t (by simp)).1 (hr t (by simp)).2 h1 hb (λx ZQ=>hx x (Zm1 _ ZQ)))
   (Uo hl hb h2 (λt ht=>hr t (Za9 _ ht)) (λx ZQ=>hx x (List.mem_append_right _ ZQ)))
theorem ang{f:Func}{s:ChangeSpec}{W W':World}{args:Array Value}{ds gs:List (DataW H)}{before:List MemPlace}{tb:TypeId}(hl:laidOutB P=true)
   (hW:DataW.Whole enc P f.params.toList s.vars false W args.toList ds gs before) (hv:s.vars=[]) (Hj:s.fn H (ds++gs)={ results:=[.lit (.bool true)],args:=ds })
   (hr:∀t∈f.params.toList,P.readableRec t=true/\t<P.types.size) (hB:Below W.heap.size W W') (aa2:f.resultTypes= #[tb]) (htb:P.underlying tb=some .bool):
   s.post enc P f false true false false W args (.bool true) W':=by
 have aV:=hW.lt;have jk:=hW;obtain⟨p,q,hA,hV,rfl,hfz,hnd⟩:=hW;have hq:q=[]:=by
   rw[hv]at hV;cases gs with
   |nil=>exact hV
   |cons g gs=>exact hV.elim
 subst hq;refine⟨ds,gs,p++[],[],p,[],jk,?_,?_,?_,hB.frame _,λh=>by cases h⟩
 . rw[Hj,aa2];exact trodAll_cons_mk (shut_bool htb _) trodAll_mk0
 . rw[Hj];exact Uo hl hB hA hr (λx hx=>aV x (Zm1 _ hx))
 . rw[Hj,hv];rfl
end
section
variable{H : Type}{enc : TypeId × Value -> H}{P : Program}{w : World}{base : Nat}{spare : Nat -> Bool}{held : Bool}
theorem acn{t:TypeId}{fs:Array Field}{Q:List AV->Prop}{r:Go.Reach}{b0:Nat}{v:Value}{d:DataW H}{p:List MemPlace}(ho:oO enc P w base spare held t Q)(ht:P.underlying t=some (.struct fs))
  (hval:Value.okWide P w r b0 t v) (hd:DataW.Trod enc P w base spare held t v d p):∃as,Q as/\∀ρ n,aD ρ n (λad=>w.cell? ad) (.agg as) v:=by
 obtain⟨cs,rfl,_⟩:=okWide_struct ht hval;obtain⟨fuel,hf⟩:=hd;obtain⟨as,h1,h2⟩:=ho _ _ _ hf;refine⟨as,h1,λρ n=> ?_⟩;have h3:=h2 ρ n;refine .agg as cs (by rw[h3.1];simp[Value.cells]) λi x x' hx yT=>h3.2 i x x' hx ?_
 simpa [Value.cells]using yT
end
end
section
open Go
theorem aD.auT{ρ:Pos->Loc}{n:Nat}{C C':Cells}{v:AV}{x:Value}(hC:∀ad u,C ad=some u->C' ad=some u)(h:aD ρ n C v x):aD ρ n C' v x:=by
 induction h with
 |bool b=>exact .bool b
 |int k i=>exact .int k i
 |str s bs h=>exact .str s bs h
 |ju=>exact .ju
 |ptr b off h=>exact .ptr b off h
 |fp xs i j es aN base cell hl hc _ ih=>exact .fp xs i j es aN base cell hl (λi j cs v h1 h2=>hC _ _ (hc i j cs v h1 h2)) ih
 |af=>exact .af
 |slice b off len cap es bC a hl hc ha hk=>exact .slice b off len cap es bC a hl hc ha hk
 |fl xs es bC a cell hl hs dY hc _ ih=>exact .fl xs es bC a cell hl hs dY (λi j cs v h1 h2=>hC _ _ (hc i j cs v h1 h2)) ih
 |qE=>exact .qE
 |map b h=>exact .map b h
 |func f x y x' y' hx hy _ _ ih1 ZP=>exact .func f x y x' y' hx hy ih1 ZP
 |iI=>exact .iI
 |BW=>exact .BW
 |iface t v x _ ih=>exact .iface t v x ih
 |agg l cs hl _ ih=>exact .agg l cs hl ih
 |tuple l cs hl _ ih=>exact .tuple l cs hl ih
def mJ(ρ:Pos->Loc)(n:Nat)(C:Cells)(w:World)(v u:AV):Prop:=∀x,aD ρ n C v x->aD ρ n (λad=>w.cell? ad) u x
section
variable{ρ : Pos -> Loc}{C : Cells}{st : St}{w : World}
theorem mJ.self{n:Nat}(hC:∀ad u,C ad=some u->w.cell? ad=some u)(v:AV):mJ ρ n C w v v:=λ_ h=>h.auT hC
theorem mJ.agg{n:Nat}{l l':List AV}(hl:l.length=l'.length)(h:∀(i:Nat)(v u:AV),l[i]? =some v->l'[i]? =some u->mJ ρ n C w v u):mJ ρ n C w (.agg l) (.agg l'):=λx hx=>by
 cases hx with
 |agg _ cs h1 h2=>
  refine .agg l' cs (by omega) λi u x hu hx=> ?_
  have hi:i<l.length:=by rw[hl];exact(Za1.1 hu).1
  exact h i l[i] u (H0 hi) hu _ (h2 i _ x (H0 hi) hx)
theorem mJ.slice(hW:cq ρ C st w){b:Pos}{off len es fz:Nat}{cap:Option Nat}{cs:List AV}(hb:st.heap.get b=some (.cells cs fz))(hlen:off+len*es<=cs.length){F:List (List AV)}(hF:F.length=len)
  (dY:∀(i:Nat)(r:List AV),F[i]? =some r->r.length=es)
  (hr:∀(i j:Nat)(r:List AV)(u v:AV),F[i]? =some r->r[j]? =some u->cs[off+i*es+j]? =some v->mJ ρ st.next.toNat C w v u):
  mJ ρ st.next.toNat C w (.slice b off len cap es) (.fl F es):=λx hx=>by
 cases hx with
 |slice  _ _ _ _ _ bC a hl hc ha hk=>
  have get:∀(i j:Nat)(r:List AV)(u:AV),F[i]? =some r->r[j]? =some u->i<len/\j<es/\off+i*es+j<cs.length/\0<bC:=λi j r u h1 h2=>by
   have g1:i<len:=(by rw[<-hF];exact(Za1.1 h1).1);have g2:j<es:=(by rw[<-dY i r h1];exact(Za1.1 h2).1);have g3:(i+1)*es<=len*es:=Zg8 _ g1;rw[Zh1]at g3;exact⟨g1,g2,by omega,by omega⟩
  have cell:∀(i j:Nat)(r:List AV)(u:AV),F[i]? =some r->r[j]? =some u->∃v y,cs[off+i*es+j]? =some v/\w.cell? ⟨a.block,a.off+i*es+j,none⟩=some y/\aD ρ st.next.toNat C v y:=λi j r u h1 h2=>by
   obtain⟨g1,g2,g3,g4⟩:=get i j r u h1 h2;obtain⟨_,rfl,_⟩:=ha (by omega);have hv:=H0 g3;obtain⟨y,q1,q2⟩:=hW.cell hb hv;exact⟨_,y,hv,by rw[show(ρ b).base+off+i*es+j=(ρ b).base+(off+i*es+j)by omega];exact q1,q2⟩
  have key:aD ρ st.next.toNat (λad=>w.cell? ad) (.fl F es) (.slice (some a) F.length bC):=by
   refine .fl F es bC a (λi j=>(w.cell? ⟨a.block,a.off+i*es+j,none⟩).getD .nilFunc) (by omega) (λh0=> ?_) dY (λi j r u h1 h2=> ?_) (λi j r u h1 h2=> ?_)
   .    cases auU:len with
        |zero=>exfalso;apply h0;rw[auU]at hF;exact List.length_eq_zero_iff.1 hF
        |succ m=>
         obtain⟨_,rfl,_⟩:=ha (by omega);rfl
   .    obtain⟨v,y,_,q2,_⟩:=cell i j r u h1 h2;show w.cell? _=_;rw[q2];rfl
   .    obtain⟨v,y,q1,q2,q3⟩:=cell i j r u h1 h2;rw[q2];exact hr i j r u v h1 h2 q1 y q3
  rw[hF]at key;exact key
end
def ey (st:St):Nat->AV->AV
 |0,v=>v
 |  d+  1,.slice b off len cap es=>match decide (len=0)with
    |true=> .fl [] es
    |false=>match st.heap.get b with
     |  some (.cells cs _)=>match decide (off+len*es<=cs.length)with
        |true=> .fl ((List.range len).map λi=>((cs.drop (off+i*es)).take es).map (ey st d)) es
        |false=> .slice b off len cap es
     |_=> .slice b off len cap es
 |  d+1,.ptr b off=>match st.heap.get b with
    |some (.cells cs _)=> .fp [cs.map (ey st d)] 0 off
    |_=> .ptr b off
 |d+1,.agg l=> .agg (l.map (ey st d))
 |d+1,.func f x y=> .func f (x.map (ey st d)) (y.map (ey st d))
 |_,v=>v
theorem aeP(st:St)(d:Nat)(b:Pos)(off len:Nat)(cap:Option Nat)(es:Nat):ey st (d+1) (.slice b off len cap es)=match decide (len=0)with
 |true=> .fl [] es
 |false=>match st.heap.get b with
  |     some (.cells cs _)=>match decide (off+len*es<=cs.length)with
        |true=> .fl ((List.range len).map λi=>((cs.drop (off+i*es)).take es).map (ey st d)) es
        |false=> .slice b off len cap es
  |_=> .slice b off len cap es:=rfl
theorem ar8(st:St)(d:Nat)(b:Pos)(off:Nat):ey st (d+1) (.ptr b off)=match st.heap.get b with
 |some (.cells cs _)=> .fp [cs.map (ey st d)] 0 off
 |_=> .ptr b off:=rfl
theorem YW(st:St)(d:Nat)(l:List AV):ey st (d+1) (.agg l)= .agg (l.map (ey st d)):=rfl
theorem apJ(st:St)(d:Nat)(f:FuncId)(x y:List AV):ey st (d+1) (.func f x y)= .func f (x.map (ey st d)) (y.map (ey st d)):=rfl
section
variable{ρ : Pos -> Loc}{C : Cells}{st : St}{w : World}
theorem mJ.ptr(hW:cq ρ C st w){b:Pos}{off fz:Nat}{cs F:List AV}(hb:st.heap.get b=some (.cells cs fz))(hF:F.length=cs.length)
  (hr:∀(j:Nat)(u v:AV),F[j]? =some u->cs[j]? =some v->mJ ρ st.next.toNat C w v u):mJ ρ st.next.toNat C w (.ptr b off) (.fp [F] 0 off):=λx hx=>by
 cases hx with
 |ptr   _ _ h=>
  have row:∀(i j:Nat)(r:List AV)(u:AV),[F][i]? =some r->r[j]? =some u->i=0/\∃v y,cs[j]? =some v/\w.cell? ⟨(ρ b).aN,(ρ b).base+j,none⟩=some y/\aD ρ st.next.toNat C v y/\F[j]? =some u:=λi j r u h1 h2=>by
   have hi:i=0:=(by have:=(Za1.1 h1).1;simp at this;exact this);subst hi;simp at h1;subst h1;have hj:j<cs.length:=(by rw[<-hF];exact(Za1.1 h2).1);obtain⟨y,q1,q2⟩:=hW.cell hb (H0 hj);exact⟨rfl,_,y,H0 hj,q1,q2,h2⟩
  have key:aD ρ st.next.toNat (λad=>w.cell? ad) (.fp [F] 0 off) (.pointer (some ⟨(ρ b).aN,(ρ b).base+0*cs.length+off,none⟩)):=by
   refine .fp [F] 0 off cs.length (ρ b).aN (ρ b).base (λ_ j=>(w.cell? ⟨(ρ b).aN,(ρ b).base+j,none⟩).getD .nilFunc) (λi r h1=> ?_) (λi j r u h1 h2=> ?_) (λi j r u h1 h2=> ?_)
   .    have hi:i=0:=(by have:=(Za1.1 h1).1;simp at this;exact this);subst hi;simp at h1;subst h1;exact hF
   .    obtain⟨rfl,v,y,_,q2,_⟩:=row i j r u h1 h2;show w.cell? _=_;rw[show(ρ b).base+0*cs.length+j=(ρ b).base+j by omega,q2];rfl
   .    obtain⟨rfl,v,y,q1,q2,q3,q4⟩:=row i j r u h1 h2;rw[q2];exact hr j u v q4 q1 y q3
  rw[show(ρ b).base+0*cs.length+off=(ρ b).base+off by omega]at key;exact key
theorem mJ.ey (hW:cq ρ C st w):∀(d:Nat)(v:AV),mJ ρ st.next.toNat C w v (ey st d v)
 |0,v=>mJ.self (λad u h=>(hW.eD ad u h).1) v
 |d+    1,v=>   by
  have self:=mJ.self (ρ:=ρ) (n:=st.next.toNat) (λad u h=>(hW.eD ad u h).1) v;cases v with
  |slice    b off len cap es=>
   rw[aeP];split
   .    rename_i h0;obtain rfl:=Zg9 h0;intro x hx;cases hx with
        | slice _ _ _ _ _ bC a hl hc ha hk=>
          exact .fl [] es bC a (λ_ _=> .nilFunc) (Zi8 _) (λh=>absurd rfl h) (λi c h=>by simp at h) (λi j c v h=>by simp at h) (λi j c v h=>by simp at h)
   split
   .    rename_i cs fz hb;split
        . rename_i hle;have hle:=Zg9 hle;refine mJ.slice hW hb hle (by simp) (λi r hi=> ?_) (λi j r u v hi hj hv=> ?_)
          . rw[Zb4]at hi;by_cases h:i<len
            . rw[Zh5 h]at hi;simp only[Ze2,H5]at hi;subst hi;have g3:(i+1)*es<=len*es:=Zg8 _ h;rw[Zh1]at g3;simp;omega
            . rw[Zc4 (by simpa using h)]at hi;cases hi
          . rw[ Zb4]at hi;by_cases h:i<len
            . rw[Zh5 h]at hi;simp only[Ze2,H5]at hi;subst hi;rw[Zb4,Zd5]at hj;split at hj
              . rw[Ze5,hv]at hj;simp only[Ze2,H5]at hj;subst hj;exact mJ.ey hW d v
              . cases hj
            . rw[Zc4 (by simpa using h)]at hi;cases hi
        . exact self
   .    exact self
  |ptr b off=>
   rw[ar8];split
   .    rename_i cs fz hb;refine mJ.ptr hW hb (by simp) (λj u v hu hv=> ?_);rw[Zb4,hv]at hu;simp only[Ze2,H5]at hu;subst hu;exact mJ.ey hW d v
   .    exact self
  |agg l=>
   rw[YW];refine mJ.agg (by simp) (λi v u h1 h2=> ?_);rw[Zb4,h1]at h2;simp only[Ze2,H5]at h2;subst h2;exact mJ.ey hW d v
  |func f x y=>
   rw[apJ];intro v' hv;cases hv with
   |    func _ _ _ x' y' hx hy h1 h2=>
        have one:∀(l:List AV)(xs:Array Value),(∀(i:Nat)(v:AV)(v':Value),l[i]? =some v->xs[i]? =some v'->aD ρ st.next.toNat C v v')->∀(i:Nat)(v:AV)(v':Value),(l.map (Go.Ai.ey st d))[i]? =some v->xs[i]? =some v'->aD ρ st.next.toNat (λad=>w.cell? ad) v v':=λl xs h i u v' hu hx=>by
          rw[Zb4]at hu;cases hg:l[i]? with
          |none=>rw[hg]at hu;cases hu
          | some v0=>
            rw[hg]at hu;simp only[Ze2,H5]at hu;subst hu;exact mJ.ey hW d v0 _ (h i v0 v' hg hx)
        exact .func f _ _ x' y' (by simpa using hx) (by simpa using hy) (one x x' h1) (one y y' h2)
  |_=>exact self
theorem aL.ey(hW:cq ρ C st w)(d:Nat){l:List AV}{xs:List Value}(h:aL ρ st.next.toNat C l xs):aL ρ st.next.toNat (λad=>w.cell? ad) (l.map (Go.Ai.ey st d)) xs:=
 ⟨by rw[<-h.1];simp,λi u x hu hx=>by
  rw[Zb4]at hu;cases hv:l[i]? with
  |none=>rw[hv]at hu;cases hu
  |  some v=>
     rw[hv]at hu;simp only[Ze2,H5]at hu;subst hu;exact mJ.ey hW d v _ (h.2 i v x hv hx)⟩
end
def bI(v:AV):Prop:=∀(ρ:Pos->Loc)(n:Nat)(C C':Cells)(x:Value),aD ρ n C v x->aD ρ n C' v x
theorem bI.bool(b:Bool):bI (.bool b):=λ_ _ _ _ _ h=>by cases h;exact .bool b
theorem bI.int(k:IntKind)(i:Int):bI (.int k i):=λ_ _ _ _ _ h=>by cases h;exact .int k i
theorem bI.str(s:List Nat):bI (.str s):=λ_ _ _ _ _ h=>by cases h with|str _ bs h=>exact .str s bs h
theorem bI.af:bI .af:=λ_ _ _ _ _ h=>by cases h;exact .af
theorem bI.iI:bI .iI:=λ_ _ _ _ _ h=>by cases h;exact .iI
theorem bI.ptr(b:Pos)(o:Nat):bI (.ptr b o):=λ_ _ _ _ _ h=>by cases h with|ptr _ _ h=>exact .ptr b o h
theorem bI.map(b:Pos):bI (.map b):=λ_ _ _ _ _ h=>by cases h with|map _ h=>exact .map b h
theorem bI.slice(b:Pos)(o l:Nat)(c:Option Nat)(es:Nat):bI (.slice b o l c es):=λ_ _ _ _ _ h=>by
 cases h with|slice _ _ _ _ _ bC a h1 h2 h3 h4=>exact .slice b o l c es bC a h1 h2 h3 h4
theorem bI.tuple{l:List AV}(hl:∀v∈l,bI v):bI (.tuple l):=λ_ _ _ _ _ h=>by
 cases h with|tuple _ cs hx h1=>exact .tuple l cs hx λi v x hv hx=>hl v (Zc0 hv) _ _ _ _ _ (h1 i v x hv hx)
theorem bI.agg{l:List AV}(hl:∀v∈l,bI v):bI (.agg l):=λ_ _ _ _ _ h=>by
 cases h with|agg _ cs hx h1=>exact .agg l cs hx λi v x hv hx=>hl v (Zc0 hv) _ _ _ _ _ (h1 i v x hv hx)
theorem bI.func(f:FuncId){a b:List AV}(ha:∀v∈a,bI v)(hb:∀v∈b,bI v):bI (.func f a b):=λ_ _ _ _ _ h=>by
 cases h with
 |func _ _ _ a' b' hx hy h1 h2=>exact .func f a b a' b' hx hy (λi v x hv hx=>ha v (Zc0 hv) _ _ _ _ _ (h1 i v x hv hx)) (λi v x hv hx=>hb v (Zc0 hv) _ _ _ _ _ (h2 i v x hv hx))
def KL:AB->Prop
 | .cells cs _=>∀v∈cs,bI v
 | .map es _=>∀e∈es,bI e.1/\bI e.2.1
theorem KL.rel{x:AB}(h:KL x){ρ:Pos->Loc}{n:Nat}{C C':Cells}{L:Loc}{w:World}(k:tO ρ n C L w x):tO ρ n C' L w x:=by
 cases x with
 |cells cs fz=>
  obtain⟨c,e,fr,h1,h2,h3,h4,h5⟩:=k;exact⟨c,e,fr,h1,h2,h3,⟨h4.1,λi v x hv hx=>h v (Zc0 hv) _ _ _ _ _ (h4.2 i v x hv hx)⟩,h5⟩
 |map es clock=>
  obtain⟨es',h1,h2,h3⟩:=k;exact⟨es',h1,h2,λi e e' he rH=>let⟨a,b,c⟩:=h3 i e e' he rH;⟨(h e (Zc0 he)).1 _ _ _ _ _ a,(h e (Zc0 he)).2 _ _ _ _ _ b,c⟩⟩
def T.both{α:Type}:T α->T α->T α
 |t,.e=>t
 | .e,t=>t
 | .n l v r,.n l' v' r'=> .n (T.both l l') (v.or v') (T.both r r')
theorem T.anh{α:Type}(t:T α):T.both t .e=t:=by cases t<;>rfl
theorem T.F9{α:Type}:∀(p:Pos)(t t':T α),(T.both t t').get p=(t.get p).or (t'.get p)
 |p,t,.e=>by rw[T.anh,T.dP];simp
 |p,.e,.n l v r=>by rw[T.dP];rfl
 | .h,.n l v r,.n l' v' r'=>rfl
 | .o p,.n l v r,.n l' v' r'=>T.F9 p l l'
 | .i p,.n l v r,.n l' v' r'=>T.F9 p r r'
def T.keep{α:Type}(P:α->Bool):T α->T α
 | .e=> .e
 | .n l v r=> .n (T.keep P l) (v.filter P) (T.keep P r)
theorem T.SB{α:Type}(P:α->Bool):∀(p:Pos)(t:T α),(T.keep P t).get p=(t.get p).filter P
 |p,.e=>by rw[T.keep,T.dP];rfl
 | .h,.n l v r=>rfl
 | .o p,.n l v r=>T.SB P p l
 | .i p,.n l v r=>T.SB P p r
open Classical in
noncomputable def Dx(t:T AB):T AB:=T.keep (λx=>decide (KL x)) t
theorem aeQ{t:T AB}{p:Pos}{x:AB}(h:(Dx t).get p=some x):t.get p=some x/\KL x:=by
 unfold Dx at h;rw[T.SB]at h;cases hg:t.get p with
 |none=>rw[hg]at h;cases h
 |some y=>
  rw[hg]at h;simp only[Option.filter]at h;split at h
  . rename_i hb;cases h;exact⟨rfl,@Zg9 _ (Classical.propDecidable _) hb⟩
  . cases h
theorem ani{t:T AB}{p:Pos}{x:AB}(h:t.get p=some x)(hb:KL x):(Dx t).get p=some x:=by
 unfold Dx;rw[T.SB,h];simp[Option.filter,hb]
theorem ar9:Dx .e= .e:=rfl
def Shut(n0:Pos)(r:AV×St):Prop:=bI r.1/\n0.toNat<=r.2.next.toNat
open Classical in
noncomputable def SC(call:au)(f:FuncId)(d:Nat):List AV->St->Option (AV×St):=λargs st=>
 match call f (args.map (ey st d)) { heap:= .e,next:=st.next }with
 |some (v,bw)=>if Shut st.next (v,bw)then some (v,{ heap:=T.both st.heap (Dx bw.heap),next:=bw.next })else none
 |none=>none
theorem aka{call:au}{f:FuncId}{d:Nat}{args:List AV}{st:St}{v:AV}{bw:St}(h:call f (args.map (ey st d)) { heap:= .e,next:=st.next }=some (v,bw))(hs:Shut st.next (v,bw)):
  SC call f d args st=some (v,{ heap:=T.both st.heap (Dx bw.heap),next:=bw.next }):=by
 unfold SC;rw[h];simp only;rw[Zb3 hs]
theorem ahj{call:au}{f:FuncId}{d:Nat}{args:List AV}{st:St}{v:AV}(h:call f (args.map (ey st d)) { heap:= .e,next:=st.next }=some (v,{ heap:= .e,next:=st.next }))(hs:bI v):
  SC call f d args st=some (v,st):=by
 rw[aka h ⟨hs,Za3 _⟩];simp only[ar9,T.anh]
theorem apK {P:Program}{C:Cells}{f:FuncId}{call:au}{d:Nat}(dG:∀C':Cells,(∀ad u,C ad=some u->C' ad=some u)->jd P C' call):tR P C f (SC call f d) where
 mono args st v st' h:=by
  unfold SC at h;split at h
  . split at h
    .   rename_i hs;simp only[H5,Zd1]at h;rw[<-h.2];exact hs.2
    .   cases h
  . cases h
 runs ρ st  w args v st' cL h hW hv:=by
  unfold SC at h;split at h
  . rename_i v1 bw hc;split at h
    .   rename_i hs;simp only[H5,Zd1]at h;obtain⟨rfl,rfl⟩:=h;obtain⟨s1,s3⟩:=hs;have hr:=dG (λad=>w.cell? ad) (λad u ha=>(hW.eD ad u ha).1) ρ { heap:= .e,next:=st.next } w f _ v1 bw cL hc (Ho (λad u ha=>ha) λa u _ o ho=>ho) (aL.ey hW d hv);refine Reaches.mono (λx w' he=> ?_) hr
        . obtain⟨ρ',h1,h2,h3,h4,hE⟩:=he;have un:∀k,k<w.heap.size->w'.heap[k]? =w.heap[k]? :=λk hk=>hE.block k hk λb x hb=>by rw[T.dP]at hb;cases hb
          have new:∀b x,bw.heap.get b=some x->w.heap.size<=(ρ' b).aN:=λb x hx=>by
            rcases hE.yI b x hx with⟨b',x',dZ,_⟩|hh
            . rw[T.dP]at dZ;cases dZ
            . exact hh
          have both:∀b x,(T.both st.heap (Dx bw.heap)).get b=some x->(st.heap.get b=some x/\ρ' b=ρ b)\/(bw.heap.get b=some x/\KL x):=λb x hx=>by
            rw[T.F9]at hx;cases hg:st.heap.get b with
            |none=>rw[hg]at hx;exact .inr (aeQ (by simpa using hx))
            |some y=>rw[hg]at hx;simp at hx;subst hx;exact .inl ⟨rfl,h2 b (hW.live b y hg).1⟩
          refine⟨ρ',s1 _ _ _ _ _ h1,h2,s3,⟨λb x hx=> ?_,λb b' x x' hx yT Af=> ?_,λa u ha=> ?_,λa u ha o ho=> ?_⟩,⟨hE.os,hE.tape,hE.output,hE.size,λk hk _=>un k hk,λb x hx=> ?_⟩⟩
          . rcases both b x hx with⟨hg,bF⟩|⟨hg,agc⟩
            . obtain⟨l1,l2,l3⟩:=hW.live b x hg;refine⟨Zd0 l1 s3,by rw[bF];exact Zd0 l2 hE.size,?_⟩;rw[bF];exact(l3.of_heap (un _ l2)).mono h2 s3
            . obtain⟨l1,l2,l3⟩:=h4.live b x hg;exact⟨l1,l2,agc.rel l3⟩
          . rcases both b x hx with⟨hg,bF⟩|⟨hg,agc⟩
            . rcases both b' x' yT with⟨Dh,FY⟩|⟨Dh,_⟩
              . rw[bF,FY]at Af;exact hW.inj b b' x x' hg Dh Af
              . have q1:=(hW.live b x hg).2.1;have q2:=new b' x' Dh;rw[bF]at Af;omega
            . rcases both b' x' yT with⟨Dh,FY⟩|⟨Dh,_⟩
              . have q1:=(hW.live b' x' Dh).2.1;have q2:=new b x hg;rw[FY]at Af;omega
              . exact h4.inj b b' x x' hg Dh Af
          . obtain⟨c1,c2⟩:=hW.eD a u ha;have aV:a.block<w.heap.size:=World.block_lt_of_cell? _ _ c1;refine⟨(h4.eD a u c1).1,λb x hx=> ?_⟩;rcases both b x hx with⟨hg,bF⟩|⟨hg,agc⟩
            . rw[bF];exact c2 b x hg
            . have:=new b x hg;omega
          . have aV:a.block<w.heap.size:=World.block_lt_of_cell? _ _ (hW.eD a u ha).1;rw[World.cell?_of_block (w:=w) (a:=⟨a.block,o,none⟩) (un _ aV)];exact hW.whole a u ha o ho
          . rcases both b x hx with⟨hg,bF⟩|⟨hg,agc⟩
            . exact .inl ⟨b,x,hg,by rw[bF]⟩
            . exact .inr (new b x hg)
    .   cases h
  . cases h
theorem akb(H:Pos->Option AB)(n:Pos)(k k':IntKind)(a b:Int):aF.run H n .minB [.int k a,.int k' b]=some (.val (.int k (min a b))):=by
 show some (eI.val (.int k (match BJ b a with|true=>b|false=>a)))=_;rw[fj];by_cases h:b<a
 . rw[Za0 h];simp only;rw[Int.min_eq_right (by omega)]
 . rw[Za2 h];simp only;rw[Int.min_eq_left (by omega)]
theorem asa(H:Pos->Option AB)(n:Pos)(k k':IntKind)(a b:Int):aF.run H n .maxB [.int k a,.int k' b]=some (.val (.int k (max a b))):=by
 show some (eI.val (.int k (match BJ a b with|true=>b|false=>a)))=_;rw[fj];by_cases h:a<b
 . rw[Za0 h];simp only;rw[Int.max_eq_right (by omega)]
 . rw[Za2 h];simp only;rw[Int.max_eq_left (by omega)]
theorem asb(H:Pos->Option AB)(n:Pos)(q:gZ)(k:IntKind)(a b:Int)(hb:b≠0):aF.run H n (.bin .quo q) [.int k a,.int k b]=some (.val (.int k (ax k (a.tdiv b)))):=by
 simp[aF.run,jv,oW,dw,mW,hb]
theorem asc(H:Pos->Option AB)(n:Pos)(q:gZ)(k:IntKind)(a b:Int)(hb:b≠0):aF.run H n (.bin .rem q) [.int k a,.int k b]=some (.val (.int k (a.tmod b))):=by
 simp[aF.run,jv,oW,dw,mW,hb]
section
variable{R : Type}(c : au)(K : AV -> St -> Option R)(st : St)
@[simp] theorem akc(k k':IntKind)(a b:Int):aq c .minB [.int k a,.int k' b] st K=K (.int k (min a b)) st:=aR c K (λH n=>akb H n k k' a b) st
@[simp] theorem avI(k k':IntKind)(a b:Int):aq c .maxB [.int k a,.int k' b] st K=K (.int k (max a b)) st:=aR c K (λH n=>asa H n k k' a b) st
theorem ase(q:gZ)(k:IntKind)(a b:Int)(hb:b≠0):aq c (.bin .quo q) [.int k a,.int k b] st K=K (.int k (ax k (a.tdiv b))) st:=aR c K (λH n=>asb H n q k a b hb) st
theorem adI(q:gZ)(k:IntKind)(a b:Int)(hb:b≠0):aq c (.bin .rem q) [.int k a,.int k b] st K=K (.int k (a.tmod b)) st:=aR c K (λH n=>asc H n q k a b hb) st
@[simp] theorem nW(q:gZ)(k:IntKind)(a:Int):aq c (.bin .quo q) [.int k a,.int k 2] st K=K (.int k (ax k (a.tdiv 2))) st:=ase c K st q k a 2 (by decide)
@[simp] theorem gV(q:gZ)(k:IntKind)(a:Int):aq c (.bin .rem q) [.int k a,.int k 2] st K=K (.int k (a.tmod 2)) st:=adI c K st q k a 2 (by decide)
end
def aK:AV->Option Pos
 | .slice b _ n cap _=>if cap=some 0/\n=0 then none else some b
 |_=>none
theorem qk{b b':Pos}{off n es:Nat}{cap:Option Nat}(h:aK (.slice b off n cap es)=some b'):b=b':=by
 simp only[aK]at h;split at h
 . cases h
 . exact Zi3 h
theorem qm(b:Pos)(off n es:Nat):aK (.slice b off n none es)=some b:=by simp[aK]
theorem lU(b:Pos)(off es:Nat):aK (.slice b off 0 (some 0) es)=none:=by simp[aK]
def QS(es:Nat)(s:St)(v:AV)(rows:List (List AV)):Prop:=
 (v= .af/\rows=[])\/(∃b off cap cs,v= .slice b off rows.length cap es/\s.heap.get b=some (.cells cs 0)/\off+rows.length*es<=cs.length/\(cs.drop off).take (rows.length*es)=rows.flatten/\(cap=none\/cap=some rows.length))\/
    (∃b off,v= .slice b off 0 (some 0) es/\rows=[])
theorem QS.nil{es:Nat}{s:St}:QS es s .af []:= .inl ⟨rfl,rfl⟩
theorem QS.mono{es:Nat}{s s':St}{v:AV}{rows:List (List AV)}(h:QS es s v rows)(hk:∀b x,aK v=some b->s.heap.get b=some x->s'.heap.get b=some x):QS es s' v rows:=by
 rcases h with⟨rfl,rfl⟩|⟨b,off,cap,cs,rfl,h1,h2,h3,h4⟩|⟨b,off,rfl,rfl⟩
 . exact .inl ⟨rfl,rfl⟩
 . by_cases h0:cap=some 0/\rows.length=0
   . obtain⟨rfl,h0⟩:=h0;refine .inr (.inr ⟨b,off,by rw[h0],Zc5 h0⟩)
   . exact .inr (.inl ⟨b,off,cap,cs,rfl,hk b _ (by simp only[aK];rw[Za7 h0]) h1,h2,h3,h4⟩)
 . exact .inr (.inr ⟨b,off,rfl,rfl⟩)
theorem QS.len{es:Nat}{s:St}{v:AV}{rows:List (List AV)}(h:QS es s v rows):eJ v=some rows.length:=by rcases h with⟨rfl,rfl⟩|⟨b,off,cap,cs,rfl,_⟩|⟨b,off,rfl,rfl⟩<;>rfl
theorem QS.lt{es:Nat}{s:St}{v:AV}{rows:List (List AV)}(h:QS es s v rows)(hw:Wf s){b:Pos}(hb:aK v=some b):b.toNat<s.next.toNat:=by
 rcases h with⟨rfl,rfl⟩|⟨b',off,cap,cs,rfl,h1,_⟩|⟨b',off,rfl,rfl⟩
 . cases hb
 . obtain rfl:=qk hb;exact hw _ _ h1
 . rw[lU]at hb;cases hb
theorem QS.first{es:Nat}{s:St}{v:AV}{rows:List (List AV)}(h:QS es s v rows)(hr:∀r∈rows,r.length=es):dy es rows.length (λb=>s.heap.get b) v=some rows.flatten:=by
 rcases h with⟨rfl,rfl⟩|⟨b,off,cap,cs,rfl,h1,h2,h3,h4⟩|⟨b,off,rfl,rfl⟩
 . rfl
 rotate_left
 . simp[dy,cV]
 . by_cases h0:rows.length*es=0
   . simp only[dy,cV,Za0 h0];have:rows.flatten=[]:=(by rw[<-h3,h0];simp);rw[this]
   . simp only[dy,cV,Za2 h0,h1];unfold cut;rw[cU,Za0 h2];simp only;rw[h3]
theorem QS.app{R:Type}{c:au}{es bytes:Nat}{s:St}{v:AV}{rows:List (List AV)}(hw:Wf s)(h:QS es s v rows)(hr:∀r∈rows,r.length=es){q:Pos}{row:List AV}(hq:s.heap.get q=some (.cells row 0))(gF:row.length=es)(h1:aM row=true)
   (dY:es≠0) (hb:(2*(rows.length+1)+768)*bytes<=281474976710656) (hn:rows.length<=4000000):
   ∃ s5,(∀(K:AV->St->Option R),aq c (.append es bytes) [v,.slice q 0 1 (some 1) es] s K=K (.slice s.next 0 (rows.length+1) none es) s5)/\QS es s5 (.slice s.next 0 (rows.length+1) none es) (rows++[row])/\
     Wf s5/\s5.next=s.next.succ/\(∀p,aK v≠some p->p.toNat<s.next.toNat->s5.heap.get p=s.heap.get p)/\s5.heap.get s.next=some (.cells (rows.flatten++row) 0):=by
 have hx:dy es 1 (λb=>s.heap.get b) (.slice q 0 1 (some 1) es)=some row:=by simp only[dy,cV,Zo8,Za2 dY,hq];exact cM gF
 have ho:=h.first hr;have hlen:rows.flatten.length=rows.length*es:=by
   clear h ho hn hb;induction rows with
   |nil=>simp
   | cons r rows ih=>
     have:=ih (λx hx=>hr x (Za9 _ hx));have h2:=hr r (by simp);simp only[Zf5,Ze6,Zc9,Zh1];omega
 have new:∀(s5:St),s5.heap.get s.next=some (.cells (rows.flatten++row) 0)->QS es s5 (.slice s.next 0 (rows.length+1) none es) (rows++[row]):=λs5 hs=>by
   refine .inr (.inl ⟨s.next,0,none,rows.flatten++row,by simp,hs,?_,?_,.inl rfl⟩)
   . simp only[Ze6,Zc9,Zi9,Zc3,Zj3,Zo8,hlen,gF];omega
   . simp only[Zf3,List.flatten_append,Zf5,List.flatten_nil,Ze0];refine Zf9 ?_;simp only[Ze6,Zc9,Zi9,Zc3,Zj3,Zo8,hlen,gF];omega
 have vE:(2*(rows.length+1)+768)*bytes<=281474976710656:=hb;have rJ:rows.length+1<=9223372036854775807:=by omega
 rcases h with⟨rfl,rfl⟩|⟨b,off,cap,cs,rfl,g1,g2,g3,g4⟩|⟨b,off,rfl,rfl⟩
 rotate_right
 . have run:aF.run (λb=>s.heap.get b) s.next (.append es bytes) [.slice b off 0 (some 0) es,.slice q 0 1 (some 1) es]=some (.bh (.slice s.next 0 (0+1) none es) none none (some (.cells ([]++row) 0))):=(by have h2:¬(0+1<=0):=(by omega);have Wj:dy es 0 (λb=>s.heap.get b) (.slice b off 0 (some 0) es)=some []:=(by simp[dy,cV]);simp only[aF.run,lK];rw[show eJ (.slice b off 0 (some 0) es)=some 0 from rfl,show eJ (.slice q 0 1 (some 1) es)=some 1 from rfl];have hb3:(2*(0+1)+768)*bytes<=281474976710656:=(by simpa using hb);simp only[cU,cV,Za0 hb3,Za2 h2,hx,Wj];simp);refine⟨ah s (.cells row 0),λK=> ?_,?_,bn hw,rfl,λp _ hp=>xF hp,by simpa using az s (.cells row 0)⟩
   . unfold aq cG;simp only[Zi9]at run ⊢; rw[run];rfl
   . simpa using new (ah s (.cells row 0)) (by simpa using az s (.cells row 0))
 . refine⟨ah s (.cells row 0),λK=>ahe c K (m:=1) rfl (by omega) (by simpa using hb) (by omega) hx,?_,bn hw,rfl,λp _ hp=>xF hp,by simpa using az s (.cells row 0)⟩;simpa using new (ah s (.cells row 0)) (by simpa using az s (.cells row 0))
 . rcases g4 with rfl|rfl
   . have run:aF.run (λb=>s.heap.get b) s.next (.append es bytes) [.slice b off rows.length none es,.slice q 0 1 (some 1) es]=some (.bh (.slice s.next 0 (rows.length+1) none es) (some b) none (some (.cells (rows.flatten++row) (0 - off)))):=(by simp only[aF.run,lK];rw[show eJ (.slice b off rows.length none es)=some rows.length from rfl,show eJ (.slice q 0 1 (some 1) es)=some 1 from rfl];simp only[cU,cV,Za0 vE,Za0 rJ,hx,g1,ho,h1];simp);refine⟨dst s b (.cells (rows.flatten++row) 0),λK=> ?_,new _ (adG _ _ _),anc hw,rfl,λp hp hl=>acj (λe=>hp (by rw[e,qm])) hl,adG _ _ _⟩;unfold aq cG;rw[run];simp only[Nat.zero_sub];rfl
   . have h2:¬(rows.length+1<=rows.length):=(by omega);have run:aF.run (λb=>s.heap.get b) s.next (.append es bytes) [.slice b off rows.length (some rows.length) es,.slice q 0 1 (some 1) es]=some (.bh (.slice s.next 0 (rows.length+1) none es) none none (some (.cells (rows.flatten++row) 0))):=by
        simp only[aF.run,lK];rw[show eJ (.slice b off rows.length (some rows.length) es)=some rows.length from rfl,show eJ (.slice q 0 1 (some 1) es)=some 1 from rfl];simp only[cU,cV,Za0 vE,Za0 rJ,Za2 h2,hx,ho]
     refine⟨ah s (.cells (rows.flatten++row) 0),λK=> ?_,new _ (az _ _),bn hw,rfl,λp _ hp=>xF hp,az _ _⟩;unfold aq cG;rw[run];rfl
theorem Gb{R:Type}{c:au}{es:Nat}{z:List AV}{x:AV}(hz:z.length=es)(hx:x.cells.length=es)(s:St)(K:AV->St->Option R):
  aq c (.buildSlice es 1 z [0]) [x] s K=K (.slice s.next 0 1 (some 1) es) (ah s (.cells x.cells 0)):=by
 have:bY (bU z 1) ([0].map λi=>(i*es,es)) [x]=some x.cells:=by
  simp only[Zd2,Zg3,Zn4,bU,Ze0,bY,cV,cU,hx,Zh2,Zc3,hz,Za3];simp only[aU,List.take_zero,Ze1,Zc3];rw[Zn5 (by omega),Ze0]
 rw[av,this];rfl
structure Mk(es:Nat)(s0 s:St)(v:AV)(rows:List (List AV)):Prop where
 jq:Wf s0
 ai:Grew s0 s
 own:QS es s v rows
 new:∀b,aK v=some b->s0.next.toNat<=b.toNat
 row:∀r∈rows,r.length=es
 cap:∀b off n cp e,v= .slice b off n cp e->cp=none\/(n=0/\cp=some 0)
 tight:∀b,aK v=some b->s.heap.get b=some (.cells rows.flatten 0)
theorem Mk.start{es:Nat}{s0 s:St}(h0:Wf s0)(hg:Grew s0 s):Mk es s0 s .af []:=⟨h0,hg,QS.nil,λb h=>(by cases h),λr h=>(by cases h),λb off n cp e h=>(by cases h),λb h=>(by cases h)⟩
theorem Mk.grow{es:Nat}{s0 s s':St}{v:AV}{rows:List (List AV)}(h:Mk es s0 s v rows)(hg:Grew s s'):Mk es s0 s' v rows:=
 ⟨h.jq,h.ai.trans hg,h.own.mono λb x _ hx=>hg.get hx,h.new,h.row,h.cap,λb hb=>hg.get (h.tight b hb)⟩
theorem Mk.push{R:Type}{c:au}{es bytes:Nat}{s0 s:St}{v:AV}{rows:List (List AV)}(h:Mk es s0 s v rows){z:List AV}{x:AV}(hz:z.length=es)(hx:x.cells.length=es)(h1:aM x.cells=true)(dY:es≠0)
   (hb:(2*(rows.length+1)+768)*bytes<=281474976710656) (hn:rows.length<=4000000):
   ∃ s5 v',(∀(K:AV->St->Option R),aq c (.buildSlice es 1 z [0]) [x] s (λy t=>aq c (.append es bytes) [v,y] t K)=K v' s5)/\Mk es s0 s5 v' (rows++[x.cells])/\
     (∀p b,aK v≠some p->s.heap.get p=some b->s5.heap.get p=some b)/\∀b,aK v'=some b->s.next.toNat<=b.toNat:=by
 have hw:=h.ai.wf;have cg:Wf (ah s (.cells x.cells 0)):=bn hw;have g1:=Grew.ah hw (.cells x.cells 0);obtain⟨s5,a1,a2,a3,a4,a5,a6⟩:=QS.app (R:=R) (c:=c) (bytes:=bytes) cg (h.own.mono λb x _ hx=>g1.get hx) h.row (az s (.cells x.cells 0)) hx h1 dY hb hn;have keep:∀p b,aK v≠some p->s.heap.get p=some b->s5.heap.get p=some b:=λp b hp hg=>by have aV:=hw _ _ hg;rw[a5 p hp (by rw[bD,Pos.aC];omega)];exact g1.get hg
 refine⟨s5,_,λK=> ?_,⟨h.jq,⟨a3,λp b hg=> ?_,?_⟩,a2,λb hb=> ?_,λr hr=> ?_,λb off n cp e he=> ?_,λb hb=> ?_⟩,keep,λb hb=> ?_⟩
 . rw[Gb hz hx,a1]
 . have Aj:=h.ai.get hg;refine keep p b (λe=> ?_) Aj;have:=h.new p e;have:=h.jq p b hg;omega
 . have:=h.ai.next;rw[a4,bD,Pos.aC,Pos.aC];omega
 . rw[qm]at hb;cases hb;have:=h.ai.next;rw[bD,Pos.aC];omega
 . rcases Zd8.1 hr with hr|hr
   . exact h.row r hr
   . simp at hr;subst hr;exact hx
 . cases he;exact .inl rfl
 . rw[qm]at hb;cases hb;rw[a6];simp
 . rw[qm]at hb;cases hb;rw[bD,Pos.aC];omega
theorem th{b:Pos}{off n es:Nat}(h:Plain (.slice b off n none es)):False:=by
 have h1:aD (λ_=>⟨0,0,off+n*es⟩) (b.toNat+1) (λ_=>none) (.slice b off n none es) (.slice (some ⟨0,0+off,none⟩) n n):=
  .slice b off n none es n _ (Za3 _) (λc hc=>by cases hc) (λ_=>⟨by omega,rfl,by simp⟩) (λ_=>by omega)
 have h2:=h _ (λ_=>⟨0,0,0⟩) _ 0 _ _ h1;cases h2 with
 |slice _ _ _ _ _ _ _ _ _ _ hk=>exact absurd (hk rfl) (by omega)
theorem Mk.tidy{es:Nat}{s s':St}{v:AV}{rows:List (List AV)}(h:Mk es s s' v rows):∃cY,Go.Ai.tidy s (v,s')=(v,cY)/\Mk es s cY v rows:=by
 unfold Go.Ai.tidy;by_cases hp:Plain (v,s').1/\aT s (v,s').2
 . rw[Zb3 hp];refine⟨s,rfl,?_⟩;rcases h.own with⟨rfl,rfl⟩|⟨b,off,cap,cs,rfl,_⟩|⟨b,off,rfl,rfl⟩
   . exact Mk.start h.jq (Grew.refl h.jq)
   . rcases h.cap _ _ _ _ _ rfl with rfl|⟨h0,rfl⟩
     . exact(th hp.1).elim
     . exact⟨h.jq,Grew.refl h.jq,.inr (.inr ⟨b,off,by rw[h0],Zc5 h0⟩),λb hb=>(by rw[h0,lU]at hb;cases hb),h.row,h.cap,λb hb=>(by rw[h0,lU]at hb;cases hb)⟩
   . exact⟨h.jq,Grew.refl h.jq,.inr (.inr ⟨b,off,rfl,rfl⟩),λb hb=>(by rw[lU]at hb;cases hb),h.row,h.cap,λb hb=>(by rw[lU]at hb;cases hb)⟩
 . rw[Za7 hp];exact⟨s',rfl,h⟩
theorem QS.ey{es d:Nat}{s:St}{v:AV}{rows:List (List AV)}(h:QS es s v rows)(hr:∀r∈rows,r.length=es):
   ∃z,Go.Ai.ey s (d+1) v=ro es z (rows.map λr=>r.map (Go.Ai.ey s d)):=by
 rcases h with⟨rfl,rfl⟩|⟨b,off,cap,cs,rfl,h1,h2,h3,h4⟩|⟨b,off,rfl,rfl⟩
 . exact⟨true,rfl⟩
 rotate_left
 . exact⟨false,rfl⟩
 . refine⟨false,?_⟩;by_cases h0:rows.length=0
   . obtain rfl:=Zc5 h0;rfl
   rw[aeP,Za2 h0];simp only;rw[h1];simp only[Za0 h2];show AV.fl _ _=AV.fl _ _;congr 1;(refine List.ext_getElem (by simp) λi p1 p2=> ?_);simp only[Za5,Zp7]at p1;simp only[Zo1,List.getElem_range];congr 1;have key:∀(rows:List (List AV))(i:Nat)(hi:i<rows.length),(∀r∈rows,r.length=es)->((rows.flatten).drop (i*es)).take es=rows[i]:=by
     intro rows;induction rows with
     |nil=>intro i hi;simp at hi
     |  cons r rows ih=>
        intro i hi hr;have hl:=hr r (by simp);cases i with
        |zero=>simp[<-hl]
        |succ i=>
         have:=ih i (by simpa using hi) (λx hx=>hr x (Za9 _ hx));rw[Zf5,Zh1,Zq2, <-hl,List.drop_append];simp only[Zn6];rw[<-this,hl];simp[List.drop_eq_nil_of_le (show r.length<=es+i*es by omega)]
   rw[<-key rows i p1 hr, <-h3];rw[Zn2,List.take_take,Zl1];congr 1;have:(i+1)*es<=rows.length*es:=Zg8 _ p1;rw[Zh1]at this;omega
section
variable{R : Type}(c : au)(K : AV -> St -> Option R)(st : St)
theorem iV{b:Pos}{off len es es':Nat}{cap:Option Nat}{k:IntKind}{i:Nat}(h:i<len):aq c (.idxA es none) [.slice b off len cap es',.int k (i:Int)] st K=K (.ptr b (off+i*es)) st:=
 aR c K (λH n=>by
  simp only[aF.run,sH,jz];have:Nat.blt i len=true:=by rw[Zq4];exact h
  rw[this]) st
theorem lq(b:Pos)(off len es:Nat)(cap:Option Nat):aq c (.lenB .l) [.slice b off len cap es] st K=K (.int .i64 (len:Int)) st:=aR c K (λH n=>rfl) st
theorem anj{b:Pos}{off len es:Nat}{cap:Option Nat}(h:1<=len)(hc:∀x,cap=some x->len<=x):
  aq c (.sliceL es true false false) [.slice b off len cap es,.int .i64 1] st K=K (.slice b (off+1*es) (len - 1) (cap.map (· - 1)) es) st:=
 aR c K (λH n=>by
  have hb:bounds true false false [.int .i64 1]=some (some 1,none,none):=rfl;simp only[aF.run,iP,hb,cV,cU,Zh2,Ze9,Zj0,Za0 h];cases cap with
  |none=>simp
  |some x=>simp[hc x rfl]) st
theorem adJ{es bytes:Nat}{z:List AV}{k k':IntKind}{n:Nat}(h1:bytes*n<=281474976710656)(h2:n<=9223372036854775807):
  aq c (.mkSlice es bytes z) [.int k (n:Int),.int k' (n:Int)] st K=K (.slice st.next 0 n (some n) es) (ah st (.cells (bU z n) 0)):=by
 have:aF.run (λb=>st.heap.get b) st.next (.mkSlice es bytes z) [.int k (n:Int),.int k' (n:Int)]=some (.bh (.slice st.next 0 n (some n) es) none none (some (.cells (bU z n) 0))):=by
  simp only[aF.run,Dc,jz,cU,Za0 h1,Za0 h2,Za3,Zh2]
 unfold aq cG;rw[this];rfl
end
theorem Dy{α:Type}(x:α):∀n:Nat,bU [x] n=List.replicate n x
 |0=>rfl
 |n+1=>by simp[bU,Dy x n,Zm4]
theorem yV{rows:List (List AV)}{es:Nat}(hr:∀r∈rows,r.length=es):∀(i j:Nat)(r:List AV)(u:AV),rows[i]? =some r->r[j]? =some u->rows.flatten[i*es+j]? =some u:=by
 induction rows with
 |nil=>intro i j r u h;simp at h
 |cons r0 rows ih=>
  intro i j r u h1 h2;have hl:=hr r0 (by simp);cases i with
  |zero=>
   simp at h1;subst h1;have:=(Za1.1 h2).1;rw[Zf5,Zn4,Zc3,Zc1 this];exact h2
  |succ i=>
   rw[Zf5,Zb9 (by rw[Zh1];omega)];rw[show(i+1)*es+j - r0.length=i*es+j by rw[Zh1];omega];exact ih (λx hx=>hr x (Za9 _ hx)) i j r u (by simpa using h1) h2
theorem QS.at{R:Type}{c:au}{es:Nat}{s:St}{v:AV}{rows:List (List AV)}(h:QS es s v rows)(hr:∀r∈rows,r.length=es)(dY:es≠0){i:Nat}(hi:i<rows.length):
   ∃b o cs,(∀(K:AV->St->Option R)(k:IntKind)(s1:St),aq c (.idxA es none) [v,.int k (i:Int)] s1 K=K (.ptr b o) s1)/\aK v=some b/\s.heap.get b=some (.cells cs 0)/\∀j u,rows[i][j]? =some u->cs[o+j]? =some u:=by
 rcases h with⟨rfl,rfl⟩|⟨b,off,cap,cs,rfl,g1,g2,g3,g4⟩|⟨b,off,rfl,rfl⟩
 . simp at hi
 rotate_left
 . simp at hi
 . refine⟨b,off+i*es,cs,λK k s1=>iV c K s1 hi,by simp only[aK];rw[Za7 (by omega)],g1,λj u hj=> ?_⟩;have hri:=hr rows[i] (Zc2 hi);have hj2:j<es:=(by rw[<-hri];exact(Za1.1 hj).1);have:=yV hr i j rows[i] u (H0 hi) hj;rw[<-g3,Zd5]at this;split at this
   . rw[Ze5]at this;rw[<-this];congr 1;omega
   . cases this
theorem QS.tail{R:Type}{c:au}{es:Nat}{s:St}{v:AV}{r:List AV}{rows:List (List AV)}(h:QS es s v (r::rows))(hr:r.length=es):
   ∃v',(∀(K:AV->St->Option R)(s1:St),aq c (.sliceL es true false false) [v,.int .i64 1] s1 K=K v' s1)/\QS es s v' rows/\∀b,aK v'=some b->aK v=some b:=by
 rcases h with⟨rfl,h⟩|⟨b,off,cap,cs,rfl,g1,g2,g3,g4⟩|⟨b,off,rfl,h⟩
 . cases h
 rotate_left
 . cases h
 . refine⟨.slice b (off+1*es) rows.length (cap.map (· - 1)) es,λK s1=> ?_,.inr (.inl ⟨b,off+1*es,cap.map (· - 1),cs,rfl,g1,?_,?_,?_⟩),λb' hb=>by
     obtain rfl:=qk hb;simp only[aK,Zc9];rw[Za7 (by omega)]⟩
   . rw[anj c K s1 (by simp) (λx hx=>by rcases g4 with rfl|rfl<;>cases hx;exact Za3 _)];simp
   . simp only[Zc9,Zh1]at g2;omega
   . have:((cs.drop off).take ((r::rows).length*es)).drop es=rows.flatten:=(by rw[g3,Zf5, <-hr];simp);rw[<-this,Zn2,Zl1];congr 1
     . simp only[Zc9,Zh1];omega
     . congr 1;omega
   . rcases g4 with rfl|rfl
     . exact .inl rfl
     . right;simp
theorem QS.arC{R:Type}{c:au}{es bytes:Nat}{s:St}{v:AV}{rows:List (List AV)}(hw:Wf s)(h:QS es s v rows)(hr:∀r∈rows,r.length=es){z:List AV}{x:AV}(hz:z.length=es)(hx:x.cells.length=es)(h1:aM x.cells=true)(dY:es≠0)
   (hb:(2*(rows.length+1)+768)*bytes<=281474976710656) (hn:rows.length<=4000000):
   ∃s5 v',(∀(K:AV->St->Option R),aq c (.buildSlice es 1 z [0]) [x] s (λy t=>aq c (.append es bytes) [v,y] t K)=K v' s5)/\QS es s5 v' (rows++[x.cells])/\Wf s5/\s.next.toNat<=s5.next.toNat/\
    (∀p b,aK v≠some p->s.heap.get p=some b->s5.heap.get p=some b)/\(∀b,aK v'=some b->s.next.toNat<=b.toNat)/\∀b,aK v'=some b->s5.heap.get b=some (.cells (rows.flatten++x.cells) 0):=by
 have cg:Wf (ah s (.cells x.cells 0)):=bn hw;have g1:=Grew.ah hw (.cells x.cells 0);obtain⟨s5,a1,a2,a3,a4,a5,a6⟩:=QS.app (R:=R) (c:=c) (bytes:=bytes) cg (h.mono λb x _ hx=>g1.get hx) hr (az s (.cells x.cells 0)) hx h1 dY hb hn;refine⟨s5,_,λK=>by rw[Gb hz hx,a1],a2,a3,by rw[a4,bD,Pos.aC,Pos.aC];omega,λp b hp hg=> ?_,λb hb=> ?_,λb hb=> ?_⟩
 . have aV:=hw _ _ hg;rw[a5 p hp (by rw[bD,Pos.aC];omega)];exact g1.get hg
 . rw[qm]at hb;cases hb;rw[bD,Pos.aC];omega
 . rw[qm]at hb;cases hb;exact a6
theorem QS.push{R:Type}{c:au}{es bytes:Nat}{s:St}{v:AV}{rows:List (List AV)}(hw:Wf s)(h:QS es s v rows)(hr:∀r∈rows,r.length=es){z:List AV}{x:AV}(hz:z.length=es)(hx:x.cells.length=es)(h1:aM x.cells=true)(dY:es≠0)
  (hb:(2*(rows.length+1)+768)*bytes<=281474976710656) (hn:rows.length<=4000000):
  ∃s5 v',(∀(K:AV->St->Option R),aq c (.buildSlice es 1 z [0]) [x] s (λy t=>aq c (.append es bytes) [v,y] t K)=K v' s5)/\QS es s5 v' (rows++[x.cells])/\Wf s5/\s.next.toNat<=s5.next.toNat/\
   (∀p b,aK v≠some p->s.heap.get p=some b->s5.heap.get p=some b)/\∀b,aK v'=some b->s.next.toNat<=b.toNat:=by
 obtain⟨s5,v',a1,a2,a3,a4,a5,a6,_⟩:=QS.arC (R:=R) (c:=c) (bytes:=bytes) hw h hr hz hx h1 dY hb hn;exact⟨s5,v',a1,a2,a3,a4,a5,a6⟩
theorem QS.lenB{R:Type}{c:au}{es:Nat}{s:St}{v:AV}{rows:List (List AV)}(h:QS es s v rows)(K:AV->St->Option R)(s1:St):aq c (.lenB .l) [v] s1 K=K (.int .i64 (rows.length:Int)) s1:=by
 rcases h with⟨rfl,rfl⟩|⟨b,off,cap,cs,rfl,_⟩|⟨b,off,rfl,rfl⟩
 . exact aR c K (λH n=>rfl) s1
 . exact lq c K s1 _ _ _ _ _
 . exact lq c K s1 _ _ _ _ _
def dm(v:AV):Prop:=∃N0 K0:Nat,∀N K:Nat,N0<=N->K0<=K->∃x,aD (λ_=>⟨0,0,K⟩) N (λ_=>none) v x
theorem dm.int(k:IntKind)(i:Int):dm (.int k i):=⟨0,0,λ_ _ _ _=>⟨_,.int k i⟩⟩
theorem dm.bool(b:Bool):dm (.bool b):=⟨0,0,λ_ _ _ _=>⟨_,.bool b⟩⟩
theorem dm.af:dm .af:=⟨0,0,λ_ _ _ _=>⟨_,.af⟩⟩
theorem dm.str{s:List Nat}(h:∀x∈s,x<256):dm (.str s):=⟨0,0,λ_ _ _ _=>⟨.string ⟨(s.map UInt8.ofNat).toArray⟩,.str s _ (by
 show(s.map UInt8.ofNat).toArray.toList.map UInt8.toNat=s;simp only[Zh4]
 conv=>rhs;rw[<-Zr1 s]
 refine Zj2 λc hc=> ?_
 have:=h c hc;simp[UInt8.toNat_ofNat];omega)⟩⟩
theorem dm.slice(b:Pos)(off n es:Nat):dm (.slice b off n none es):=⟨b.toNat+1,off+n*es,λN K hN hK=>⟨.slice (some ⟨0,0+off,none⟩) n n,
 .slice b off n none es n _ (Za3 _) (λc hc=>by cases hc) (λ_=>⟨by omega,rfl,by simpa using hK⟩) (λ_=>by omega)⟩⟩
theorem dm.zero(b:Pos)(off es:Nat):dm (.slice b off 0 (some 0) es):=⟨0,0,λN K _ _=>⟨.slice (some ⟨0,0,none⟩) 0 0,
 .slice b off 0 (some 0) es 0 _ (Za3 _) (λc hc=>by cases hc;rfl) (λh=>absurd rfl h) (λh=>by cases h)⟩⟩
theorem inst_list:∀{l:List AV},(∀v∈l,dm v)->∃N0 K0:Nat,∀N K:Nat,N0<=N->K0<=K->∃xs,aL (λ_=>⟨0,0,K⟩) N (λ_=>none) l xs
 |[],_=>⟨0,0,λ_ _ _ _=>⟨[],aL.nil⟩⟩
 |v::l,h=>by
  obtain⟨N1,K1,h1⟩:=h v (by simp);obtain⟨N2,K2,h2⟩:=inst_list (λu hu=>h u (Za9 _ hu));refine⟨max N1 N2,max K1 K2,λN K hN hK=> ?_⟩;obtain⟨x,hx⟩:=h1 N K (by omega) (by omega);obtain⟨xs,rF⟩:=h2 N K (by omega) (by omega);exact⟨x::xs,aL.cons hx rF⟩
theorem fT{l:List AV}(hi:∀v∈l,dm v){b:Pos}{off n es:Nat}(hm:AV.slice b off n none es∈l):¬Plain (.agg l):=λh=>by
 obtain⟨N0,K0,h1⟩:=inst_list hi;obtain⟨xs,hx⟩:=h1 N0 K0 (Za3 _) (Za3 _);have h2:aD (λ_=>⟨0,0,K0⟩) N0 (λ_=>none) (.agg l) (.agg xs.toArray):= .agg l _ (by rw[hx.1];simp) λi v x hv yT=>hx.2 i v x hv (by simpa using yT)
 have h3:=h _ (λ_=>⟨0,0,0⟩) _ 0 _ _ h2;obtain⟨i,aV,hi⟩:=Zg2.1 hm;cases h3 with
 |agg _ _ hl hc=>
  have apL:i<xs.toArray.size:=by rw[<-hl];exact aV
  obtain⟨y,hy⟩:∃y,xs.toArray[i]? =some y:=⟨_,Zg5 apL⟩
  have:=hc i _ y (by rw[H0 aV,hi]) hy;cases this with
  |slice _ _ _ _ _ _ _ _ _ _ hk=>exact absurd (hk rfl) (by omega)
theorem Mk.inst{es:Nat}{s s':St}{v:AV}{rows:List (List AV)}(h:Mk es s s' v rows):dm v:=by
 rcases h.own with⟨rfl,rfl⟩|⟨b,off,cap,cs,rfl,_⟩|⟨b,off,rfl,rfl⟩
 . exact dm.af
 . rcases h.cap _ _ _ _ _ rfl with rfl|⟨h0,rfl⟩
   . exact dm.slice _ _ _ _
   . rw[h0];exact dm.zero _ _ _
 . exact dm.zero _ _ _
theorem Mk.loose{es:Nat}{s s':St}{v:AV}{rows:List (List AV)}(h:Mk es s s' v rows):(∃b off n,v= .slice b off n none es)\/((∀t,Wf t->Mk es t t v rows)/\rows=[]):=by
 rcases h.own with⟨rfl,rfl⟩|⟨b,off,cap,cs,rfl,_⟩|⟨b,off,rfl,rfl⟩
 . exact .inr ⟨λt ht=>Mk.start ht (Grew.refl ht),rfl⟩
 . rcases h.cap _ _ _ _ _ rfl with rfl|⟨h0,rfl⟩
   . exact .inl ⟨_,_,_,rfl⟩
   . exact .inr ⟨λt ht=>⟨ht,Grew.refl ht,.inr (.inr ⟨b,off,by rw[h0],Zc5 h0⟩),λb hb=>(by rw[h0,lU]at hb;cases hb),h.row,h.cap,λb hb=>(by rw[h0,lU]at hb;cases hb)⟩,Zc5 h0⟩
 . exact .inr ⟨λt ht=>⟨ht,Grew.refl ht,.inr (.inr ⟨b,off,rfl,rfl⟩),λb hb=>(by rw[lU]at hb;cases hb),h.row,h.cap,λb hb=>(by rw[lU]at hb;cases hb)⟩,rfl⟩
theorem Mk.Gc{es:Nat}{s s':St}{v:AV}{rows:List (List AV)}(h:Mk es s s' v rows){l:List AV}(hm:v∈l)(hi:∀u∈l,dm u):∃cY,Go.Ai.tidy s (.agg l,s')=(.agg l,cY)/\(cY=s'\/cY=s)/\Mk es s cY v rows:=by
 unfold Go.Ai.tidy;by_cases hp:Plain (AV.agg l,s').1/\aT s (AV.agg l,s').2
 . rw[Zb3 hp];refine⟨s,rfl,.inr rfl,?_⟩;rcases h.loose with⟨b,off,n,rfl⟩|⟨hl,_⟩
   . exact absurd hp.1 (fT hi hm)
   . exact hl s h.jq
 . rw[Za7 hp];exact⟨s',rfl,.inl rfl,h⟩
theorem Mk.cells{es:Nat}{s s':St}{v:AV}{rows:List (List AV)}(h:Mk es s s' v rows):v.cells=[v]/\aM [v]=true:=by
 rcases h.own with⟨rfl,rfl⟩|⟨b,off,cap,cs,rfl,_⟩|⟨b,off,rfl,rfl⟩<;>exact⟨rfl,rfl⟩
theorem Mk.store{es:Nat}{s s':St}{v:AV}{rows:List (List AV)}(h:Mk es s s' v rows){p:Pos}{b:AB}(hp:s.next.toNat<=p.toNat)(yM:p.toNat<s'.next.toNat)(cZ:aK v≠some p):Mk es s (aY s' p b) v rows:=
 ⟨h.jq,⟨jD h.ai.wf yM,λq x hq=>by have:=h.jq _ _ hq;rw[aG (λe=>by rw[e]at hp;omega)];exact h.ai.get hq,by rw[dH];exact h.ai.next⟩,
  h.own.mono λq x hq hx=>by rw[aG (λe=>cZ (by rw[hq,e]))];exact hx,h.new,h.row,h.cap,λb hb=>by rw[aG (λe=>cZ (by rw[hb,e]))];exact h.tight b hb⟩
theorem Mk.back{es:Nat}{s0 s s':St}{v:AV}{rows:List (List AV)}(h:Mk es s s' v rows)(h0:Wf s0)(hg:Grew s0 s):Mk es s0 s' v rows:=
 ⟨h0,hg.trans h.ai,h.own,λb hb=>Zb0 hg.next (h.new b hb),h.row,h.cap,h.tight⟩
theorem zW{α:Type}(l:List α)(i:Nat)(h:i<l.length)(u:α):aU l i [u]=l.set i u:=by unfold aU;rw[Zn0,Zb3 h];simp
theorem OT{es:Nat}:∀(rows:List (List AV)),(∀r∈rows,r.length=es)->∀(i j:Nat)(hi:i<rows.length),j<es->∀u,rows.flatten.set (i*es+j) u=(rows.set i (rows[i].set j u)).flatten
 |[],_,i,j,hi,_,_=>by simp at hi
 |r::rows,hr,i,j,hi,hj,u=>by
  have hl:=hr r (by simp);cases i with
  |zero=>
   simp only[Zn4,Zc3,Zf5,Zp6,List.getElem_cons_zero];rw[List.set_append_left _ _ (by omega)]
  |succ i=>
   simp only[Zf5,List.set_cons_succ,Zn6];rw[Zj8 _ _ (by rw[Zh1];omega)];rw[show(i+1)*es+j - r.length=i*es+j by rw[Zh1];omega];rw[OT rows (λx hx=>hr x (Za9 _ hx)) i j (by simpa using hi) hj u]
theorem QS.set{R:Type}{c:au}{es:Nat}{s:St}{v:AV}{rows:List (List AV)}(h:QS es s v rows)(hr:∀r∈rows,r.length=es)(dY:es≠0){i:Nat}(hi:i<rows.length):
   ∃ b o cs,(∀(K:AV->St->Option R)(k:IntKind)(s1:St),aq c (.idxA es none) [v,.int k (i:Int)] s1 K=K (.ptr b o) s1)/\(∀(K:AV->Option R)(k:IntKind),fD (.idxA es none) [v,.int k (i:Int)] K=K (.ptr b o))/\aK v=some b/\s.heap.get b=some (.cells cs 0)/\o+es<=cs.length/\(∀j u,rows[i][j]? =some u->cs[o+j]? =some u)/\
     (∀j u (s':St),j<es->s'.heap.get b=some (.cells (aU cs (o+j) [u]) 0)->QS es s' v (rows.set i (rows[i].set j u)))/\
     ∀j u,j<es->cs=rows.flatten->aU cs (o+j) [u]=(rows.set i (rows[i].set j u)).flatten:=by
 rcases h with⟨rfl,rfl⟩|⟨b,off,cap,cs,rfl,g1,g2,g3,g4⟩|⟨b,off,rfl,rfl⟩
 . simp at hi
 rotate_left
 . simp at hi
 have hri:=hr rows[i] (Zc2 hi);have hm:(i+1)*es<=rows.length*es:=Zg8 _ hi;rw[Zh1]at hm;have hx:∀(k:IntKind)(H:Pos->Option AB)(n:Pos),aF.run H n (.idxA es none) [.slice b off rows.length cap es,.int k (i:Int)]=some (.val (.ptr b (off+i*es))):=λk H n=>by
   simp only[aF.run,sH,jz];have:Nat.blt i rows.length=true:=(by rw[Zq4];exact hi);rw[this]
 refine⟨b,off+i*es,cs,λK k s1=>iV c K s1 hi,λK k=>dB K (hx k),by simp only[aK];rw[Za7 (by omega)],g1,by omega,λj u hj=> ?_,λj u s' hj hs=> ?_,λj u hj he=> ?_⟩
 . have hj2:j<es:=(by rw[<-hri];exact(Za1.1 hj).1);have:=yV hr i j rows[i] u (H0 hi) hj;rw[<-g3,Zd5]at this;split at this
   . rw[Ze5]at this;rw[<-this];congr 1;omega
   . cases this
 . rw[zW _ _ (by omega)]at hs;refine .inr (.inl ⟨b,off,cap,_,by simp,hs,by simpa using g2,?_,by simpa using g4⟩);rw[Zl4, <-OT rows hr i j hi hj u, <-g3,List.drop_set,Za7 (by omega),List.take_set];congr 1;omega
 . have hlen:rows.flatten.length=rows.length*es:=by
     clear g2 g3 g4 hi hri hm hx g1 he;induction rows with
     |nil=>simp
     |  cons r rows ih=>
        have:=ih (λx hx=>hr x (Za9 _ hx));have h2:=hr r (by simp);simp only[Zf5,Ze6,Zc9,Zh1];omega
   have h0:off=0:=(by rw[he,hlen]at g2;omega);subst h0;rw[zW _ _ (by omega),he, <-OT rows hr i j hi hj u];congr 1;omega
def Src(es:Nat)(s:St)(v:AV)(rows:List (List AV)):Prop:=v= .fl rows es\/QS es s v rows
theorem Src.len{es:Nat}{s:St}{v:AV}{rows:List (List AV)}(h:Src es s v rows):eJ v=some rows.length:=by
 rcases h with rfl|h
 . rfl
 . exact h.len
theorem Src.mono{es:Nat}{s s':St}{v:AV}{rows:List (List AV)}(h:Src es s v rows)(hk:∀b x,aK v=some b->s.heap.get b=some x->s'.heap.get b=some x):Src es s' v rows:=h.imp id λh=>h.mono hk
theorem Src.ai{es:Nat}{s s':St}{v:AV}{rows:List (List AV)}(h:Src es s v rows)(hg:Grew s s'):Src es s' v rows:=h.mono λ_ _ _ hx=>hg.get hx
theorem Src.first{es:Nat}{s:St}{v:AV}{rows:List (List AV)}(h:Src es s v rows)(hr:∀r∈rows,r.length=es):dy es rows.length (λb=>s.heap.get b) v=some rows.flatten:=by
 rcases h with rfl|h
 . simp only[dy,cV,cU,Zh2,Za3,Zj1]
 . exact h.first hr
theorem Src.nil{es:Nat}{s:St}{v:AV}{rows:List (List AV)}(h:Src es s v rows):(v= .af/\rows=[])\/∀{R:Type}(c:au)(K:AV->St->Option R)(t:St),aq c (.bin .eql .slice) [v,.af] t K=K (.bool false) t:=by
 rcases h with rfl|⟨rfl,rfl⟩|⟨b,off,cap,cs,rfl,_⟩|⟨b,off,rfl,rfl⟩
 . exact .inr λc K t=>aR c K (λH n=>rfl) t
 . exact .inl ⟨rfl,rfl⟩
 . exact .inr λc K t=>aR c K (λH n=>rfl) t
 . exact .inr λc K t=>aR c K (λH n=>rfl) t
theorem Src.ro{es:Nat}{s:St}(z:Bool)(rows:List (List AV)):Src es s (ro es z rows) rows:=by
 unfold Go.Ai.ro;split
 . exact .inr (.inl ⟨rfl,rfl⟩)
 . exact .inl rfl
theorem aeR{es:Nat}:∀{rows:List (List AV)},(∀r∈rows,r.length=es)->rows.flatten.length=rows.length*es
 |[],_=>by simp
 |r::rows,hr=>by have ih:=aeR (λx hx=>hr x (Za9 _ hx));have h2:=hr r (by simp);simp only[Zf5,Ze6,Zc9,Zh1];omega
theorem aeS{es bytes:Nat}{z:List AV}{src:AV}{rows:List (List AV)}(hr:∀r∈rows,r.length=es)(_hes:es≠0)(hb:(2*rows.length+768)*bytes<=281474976710656)(hn:rows.length<=4000000){c:au}{R:Type}(s:St)(hw:Wf s)(h:Src es s src rows):
   ∃v s',(∀(K:AV->St->Option R),aq c (.buildSlice es 0 z []) [] s (λy t=>aq c (.append es bytes) [y,src] t K)=K v s')/\Mk es s s' v rows:=by
 have bs:∀(K:AV->St->Option R),aq c (.buildSlice es 0 z []) [] s K=K (.slice s.next 0 0 (some 0) es) (ah s (.cells [] 0)):=λK=>by rw[av];rfl
 have cg:Wf (ah s (.cells [] 0)):=bn hw;have g1:=Grew.ah hw (.cells [] 0);have hl:=h.len;by_cases h0:rows.length=0
 . obtain rfl:=Zc5 h0;refine⟨.slice s.next 0 0 (some 0) es,ah s (.cells [] 0),λK=> ?_,hw,g1,.inr (.inr ⟨_,_,rfl,rfl⟩),λb hb=>(by rw[lU]at hb;cases hb),hr,λb off n cp e he=>(by cases he;exact .inr ⟨rfl,rfl⟩),λb hb=>(by rw[lU]at hb;cases hb)⟩;rw[bs,ahf c K hl (by simpa using hb) (by simp)]
 . have hx:dy es rows.length (λb=>(ah s (.cells [] 0)).heap.get b) src=some rows.flatten:=(h.ai g1).first hr;have hlen:=aeR hr;refine⟨.slice (ah s (.cells [] 0)).next 0 rows.length none es,ah (ah s (.cells [] 0)) (.cells rows.flatten 0),λK=> ?_,hw,g1.trans (Grew.ah cg _),.inr (.inl ⟨_,0,none,rows.flatten,rfl,az _ _,by omega,?_,.inl rfl⟩),λb hb=> ?_,hr,λb off n cp e he=>(by cases he;exact .inl rfl),λb hb=>(by rw[qm]at hb;cases hb;exact az _ _)⟩
   . rw[bs,anf c K (m:=rows.length) hl h0 (by simpa using hb) (by omega) hx]
   . simp only[Zf3];exact Zf9 (by omega)
   . rw[qm]at hb;cases hb;rw[bD,Pos.aC];omega
theorem yW{v:AV}(h:aM [v]=true):v.one=true:=by
 simp only[aM]at h;split at h
 . assumption
 . cases h
theorem Up{b:Pos}{o:Nat}{k1 k2:IntKind}{i1 i2:Int}:¬Plain (.tuple [.ptr b o,.int k1 i1,.int k2 i2]):=λh=>by
 obtain⟨x0,e0⟩:∃x,aD (λ_=>⟨0,0,0⟩) (b.toNat+1) (λ_=>none) (.ptr b o) x:=⟨_,.ptr b o (by omega)⟩
 obtain⟨x1,e1⟩:∃x,aD (λ_=>⟨0,0,0⟩) (b.toNat+1) (λ_=>none) (.int k1 i1) x:=⟨_,.int k1 i1⟩
 obtain⟨x2,e2⟩:∃x,aD (λ_=>⟨0,0,0⟩) (b.toNat+1) (λ_=>none) (.int k2 i2) x:=⟨_,.int k2 i2⟩
 have:=h (λ_=>⟨0,0,0⟩) (λ_=>⟨0,0,0⟩) (b.toNat+1) 0 (λ_=>none) _ (.tuple _ #[x0,x1,x2] rfl (λi v v' hv hx=>by
  match i with
  |0=>simp at hv hx;subst hv hx;exact e0
  |1=>simp at hv hx;subst hv hx;exact e1
  |2=>simp at hv hx;subst hv hx;exact e2
  |i+3=>simp at hv))
 cases this with
 |tuple _ _ _ h=>
  have:=h 0 _ x0 rfl rfl;cases this with
  |ptr _ _ h=>omega
theorem apM{l:List AV}{t:Bool}(h:Plain (.tuple [.agg l,.bool t])):Plain (.agg l):=λρ ρ' n n' C x hx=>by
 obtain⟨y,hy⟩:∃y,aD ρ n C (.bool t) y:=⟨_,.bool t⟩
 have:=h ρ ρ' n n' C _ (.tuple _ #[x,y] rfl (λi v v' hv yT=>by
  match i with
  |0=>simp at hv yT;subst hv yT;exact hx
  |1=>simp at hv yT;subst hv yT;exact hy
  |i+2=>simp at hv))
 cases this with
 |tuple _ _ _ h=>exact h 0 _ x rfl rfl
theorem Mk.akd{es:Nat}{s s':St}{v:AV}{rows:List (List AV)}(h:Mk es s s' v rows){l:List AV}(hm:v∈l)(hi:∀u∈l,dm u)(t:Bool):∃cY,Go.Ai.tidy s (.tuple [.agg l,.bool t],s')=(.tuple [.agg l,.bool t],cY)/\Mk es s cY v rows:=by
 unfold Go.Ai.tidy;by_cases hp:Plain (AV.tuple [.agg l,.bool t],s').1/\aT s (AV.tuple [.agg l,.bool t],s').2
 . rw[Zb3 hp];refine⟨s,rfl,?_⟩;rcases h.loose with⟨b,off,n,rfl⟩|⟨hl,_⟩
   . exact absurd (apM hp.1) (fT hi hm)
   . exact hl s h.jq
 . rw[Za7 hp];exact⟨s',rfl,h⟩
theorem QS.cells{es:Nat}{s:St}{v:AV}{rows:List (List AV)}(h:QS es s v rows):v.cells=[v]/\v.one=true:=by
 rcases h with⟨rfl,rfl⟩|⟨b,off,cap,cs,rfl,_⟩|⟨b,off,rfl,rfl⟩<;>exact⟨rfl,rfl⟩
abbrev nX(v:AV):List AV:=[v]
theorem ahk(l:List AV):∀r∈l.map nX,r.length=1:=λr hr=>by simp only[Zc7]at hr;obtain⟨m,_,rfl⟩:=hr;rfl
theorem agd(r:List AV):(r.map nX).flatten=r:=by induction r with|nil=>rfl|cons a r ih=>rw[Zd2,Zf5,ih];rfl
structure Ow(s0 s:St)(jb:Pos)(Ls:List AV)(R:List (List AV))(I:List (AV×List (List AV))):Prop where
 jq:Wf s0
 lt:jb.toNat<s0.next.toNat
 wf:Wf s
 next:s0.next.toNat<=s.next.toNat
 keep:∀q x,q≠jb->s0.heap.get q=some x->s.heap.get q=some x
 own:∀(i:Nat)(L:AV)(r:List AV),Ls[i]? =some L->R[i]? =some r->QS 1 s L (r.map nX)
 len:Ls.length=R.length
 new:∀L∈Ls,∀b,aK L=some b->s0.next.toNat<=b.toNat
 apart:∀(i j:Nat)(L M:AV),i≠j->Ls[i]? =some L->Ls[j]? =some M->∀b,aK L=some b->aK M≠some b
 dV:∀e∈I,QS 1 s e.1 e.2/\∀b,aK e.1=some b->b≠jb/\∀L∈Ls,aK L≠some b
 tig:∀(i:Nat)(L:AV)(r:List AV),Ls[i]? =some L->R[i]? =some r->∀b,aK L=some b->s.heap.get b=some (.cells r 0)
 itg:∀e∈I,∀b,aK e.1=some b->s.heap.get b=some (.cells e.2.flatten 0)
 inw:∀e∈I,∀b,aK e.1=some b->s0.next.toNat<=b.toNat
section
variable{s0 s s' : St}{jb : Pos}{Ls : List AV}{R : List (List AV)}{I : List (AV × List (List AV))}
theorem Ow.ai(h:Ow s0 s jb Ls R I)(g:Grew s s'):Ow s0 s' jb Ls R I:=
 ⟨h.jq,h.lt,g.wf,Zb0 h.next g.next,λq x hq hx=>g.get (h.keep q x hq hx),λi L r h1 h2=>(h.own i L r h1 h2).mono λb x _ hx=>g.get hx,h.len,h.new,h.apart,
  λe he=>⟨(h.dV e he).1.mono λb x _ hx=>g.get hx,(h.dV e he).2⟩,λi L r h1 h2 b hb=>g.get (h.tig i L r h1 h2 b hb),λe he b hb=>g.get (h.itg e he b hb),h.inw⟩
theorem Ow.ltL(h:Ow s0 s jb Ls R I){L:AV}(hL:L∈Ls){b:Pos}(hb:aK L=some b):b.toNat<s.next.toNat:=by
 obtain⟨i,hi,rfl⟩:=Zg2.1 hL;have hr:i<R.length:=by rw[<-h.len];exact hi
 exact(h.own i _ _ (H0 hi) (H0 hr)).lt h.wf hb
theorem Ow.more(h:Ow s0 s jb Ls R I){w:AV}{rows:List (List AV)}(M:Mk 1 s s' w rows):Ow s0 s' jb Ls R ((w,rows)::I):=by
 have h2:=h.ai M.ai;refine { h2 with dV:=λe he=> ?_,itg:=λe he b hb=> ?_,inw:=λe he b hb=> ?_ }
 . rcases Za8.1 he with rfl|he
   . refine⟨M.own,λb hb=>⟨λe=> ?_,λL hL e=> ?_⟩⟩
     . have:=M.new b hb;have:=h.next;have:=h.lt;rw[e]at *; omega
     . have:=M.new b hb;have:=h.ltL hL e;omega
   . exact h2.dV e he
 . rcases Za8.1 he with rfl|he
   . exact M.tight b hb
   . exact h2.itg e he b hb
 . rcases Za8.1 he with rfl|he
   . exact Zb0 h.next (M.new b hb)
   . exact h2.inw e he b hb
theorem Ow.store(h:Ow s0 s jb Ls R I)(b:AB):Ow s0 (aY s jb b) jb Ls R I:=by
 have aV:jb.toNat<s.next.toNat:=Zd0 h.lt h.next;have nL:∀L∈Ls,∀b,aK L=some b->jb≠b:=λL hL b hb e=>by have:=h.new L hL b hb;have:=h.lt;rw[e]at *; omega
 refine⟨h.jq,h.lt,jD h.wf aV,by rw[dH];exact h.next,λq x hq hx=>by rw[aG (λe=>hq e.symm)];exact h.keep q x hq hx,λi L r h1 h2=> ?_,h.len,h.new,h.apart,λe he=>⟨?_,(h.dV e he).2⟩,λi L r h1 h2 b hb=> ?_,λe he b hb=> ?_,h.inw⟩
 . (refine(h.own i L r h1 h2).mono λb x hb hx=> ?_);rw[aG (nL L (Zc0 h1) b hb)];exact hx
 . (refine(h.dV e he).1.mono λb x hb hx=> ?_);rw[aG (λe2=>((h.dV e he).2 b hb).1 e2.symm)];exact hx
 . rw[aG (nL L (Zc0 h1) b hb)];exact h.tig i L r h1 h2 b hb
 . rw[aG (λe2=>((h.dV e he).2 b hb).1 e2.symm)];exact h.itg e he b hb
theorem Ow.push(h:Ow s0 s jb Ls R I){c:au}{Q:Type}{bytes i:Nat}{L:AV}{r:List AV}(hL:Ls[i]? =some L)(hR:R[i]? =some r){z:List AV}{x:AV}(hz:z.length=1)(hx:x.cells=[x])(h1:x.one=true)
   (hb:(2*(r.length+1)+768)*bytes<=281474976710656) (hn:r.length<=4000000):
   ∃s5 v',(∀(K:AV->St->Option Q),aq c (.buildSlice 1 1 z [0]) [x] s (λy t=>aq c (.append 1 bytes) [L,y] t K)=K v' s5)/\Ow s0 s5 jb (Ls.set i v') (R.set i (r++[x])) I/\(∀x,s.heap.get jb=some x->s5.heap.get jb=some x)/\(∀p y,aK L≠some p->s.heap.get p=some y->s5.heap.get p=some y)/\v'.cells=[v']/\v'.one=true/\s.next.toNat<=s5.next.toNat/\∀b,aK v'=some b->s.next.toNat<=b.toNat:=by
 have q:=h.own i L r hL hR;have iH:i<Ls.length:=(Za1.1 hL).1;have hmL:L∈Ls:=Zc0 hL;obtain⟨s5,v',a1,a2,a3,a4,a5,a6,a7⟩:=QS.arC (R:=Q) (c:=c) (bytes:=bytes) h.wf q (ahk r) hz (x:=x) (by rw[hx];rfl) (by rw[hx];simp[aM,h1]) (by decide) (by simpa using hb) (by simpa using hn);have hjlt:jb.toNat<s.next.toNat:=Zd0 h.lt h.next;have nj:aK L≠some jb:=λe=>by have:=h.new L hmL jb e;have:=h.lt;omega
 refine⟨s5,v',a1,⟨h.jq,h.lt,a3,Zb0 h.next a4,λq x hq hx=> ?_,λj M u h2 h3=> ?_,by simpa using h.len,λM hM b hb=> ?_,λj k M N hjk h2 h3 b hb vE=> ?_,λe he=>⟨?_,λb hb=>⟨((h.dV e he).2 b hb).1,λM hM vE=> ?_⟩⟩,λj M u h2 h3 b hb=> ?_,λe he b hb=> ?_,h.inw⟩,?_,a5,a2.cells.1,a2.cells.2,a4,a6⟩
 . refine a5 q x (λe=> ?_) (h.keep q x hq hx);have:=h.new L hmL q e;have:=h.jq _ _ hx;omega
 . by_cases e:i=j
   . subst e;rw[Zg1 iH]at h2;have hir:i<R.length:=(by rw[<-h.len];exact iH);rw[Zg1 hir]at h3;cases h2;cases h3;simpa [hx]using a2
   . rw[Zf0 e]at h2 h3;exact(h.own j M u h2 h3).mono λb x hb hx=>a5 b x (λe2=>h.apart i j L M e hL h2 b e2 hb) hx
 . rcases Zg6 hM with hM|rfl
   . exact h.new M hM b hb
   . exact Zb0 h.next (a6 b hb)
 . by_cases e:i=j
   . subst e;rw[Zg1 iH]at h2;cases h2;rw[Zf0 hjk]at h3;have:=a6 b hb;have:=h.ltL (Zc0 h3) vE;omega
   . rw[Zf0 e]at h2;by_cases e2:i=k
     .  subst e2;rw[Zg1 iH]at h3;cases h3;have:=a6 b vE;have:=h.ltL (Zc0 h2) hb;omega
     .  rw[Zf0 e2]at h3;exact h.apart j k M N hjk h2 h3 b hb vE
 . exact(h.dV e he).1.mono λb x hb hx=>a5 b x (λe2=>((h.dV e he).2 b hb).2 L hmL e2) hx
 . rcases Zg6 hM with hM|rfl
   . exact((h.dV e he).2 b hb).2 M hM vE
   . have:=a6 b vE;have:=(h.dV e he).1.lt h.wf hb;omega
 . by_cases e:i=j
   . subst e;rw[Zg1 iH]at h2;have hir:i<R.length:=(by rw[<-h.len];exact iH);rw[Zg1 hir]at h3;cases h2;cases h3;rw[a7 b hb,hx,agd]
   . rw[Zf0 e]at h2 h3;exact a5 b _ (λe2=>h.apart i j L M e hL h2 b e2 hb) (h.tig j M u h2 h3 b hb)
 . exact a5 b _ (λe2=>((h.dV e he).2 b hb).2 L hmL e2) (h.itg e he b hb)
 . exact λx hx=>a5 jb x nj hx
end
section
variable{s0 s s' : St}{jb : Pos}{Ls : List AV}{R : List (List AV)}{I : List (AV × List (List AV))}
theorem Ow.none(hw:Wf s)(hj:jb.toNat<s.next.toNat)(n:Nat):Ow s s jb (List.replicate n .af) (List.replicate n []) []:=by
 have hn:∀(i:Nat)(L:AV),(List.replicate n AV.af)[i]? =some L->L= .af:=λi L h=>by
   rw[Zm9]at h;split at h
   . cases h;rfl
   . cases h
 refine⟨hw,hj,hw,Za3 _,λ_ _ _ h=>h,λi L r h1 h2=> ?_,by simp,λL hL b hb=> ?_,λi j L M _ h1 _ b hb=> ?_,λe he=>(by cases he),λi L r h1 _ b hb=> ?_,λe he=>(by cases he),λe he=>by cases he⟩
 . obtain rfl:=hn i L h1;rw[Zm9]at h2;split at h2
   . cases h2;exact QS.nil
   . cases h2
 . rw[List.mem_replicate]at hL;obtain⟨_,rfl⟩:=hL;cases hb
 . obtain rfl:=hn i L h1;cases hb
 . obtain rfl:=hn i L h1;cases hb
theorem Ow.snoc(h:Ow s0 s jb Ls R I):Ow s0 s jb (Ls++[.af]) (R++[[]]) I:=by
 have sp:∀(i:Nat)(L:AV),(Ls++[.af])[i]? =some L->Ls[i]? =some L\/(i=Ls.length/\L= .af):=λi L h1=>by
   by_cases hi:i<Ls.length
   . rw[Zc1 hi]at h1;exact .inl h1
   . rw[Zb9 (by omega)]at h1;by_cases h0:i - Ls.length=0
     . rw[h0]at h1;simp at h1;exact .inr ⟨by omega,h1.symm⟩
     . rw[Zc4 (by simp;omega)]at h1;cases h1
 have mem:∀L∈Ls++[AV.af],∀b,aK L=some b->L∈Ls:=λL hL b hb=>by
   rcases Zd8.1 hL with hL|hL
   . exact hL
   . simp at hL;subst hL;cases hb
 refine⟨h.jq,h.lt,h.wf,h.next,h.keep,λi L r h1 h2=> ?_,by simp[h.len],λL hL b hb=>h.new L (mem L hL b hb) b hb,λi j L M Uq h1 h2 b hb vE=> ?_,λe he=>⟨(h.dV e he).1,λb hb=>⟨((h.dV e he).2 b hb).1,λL hL vE=>((h.dV e he).2 b hb).2 L (mem L hL b vE) vE⟩⟩,λi L r h1 h2 b hb=> ?_,h.itg,h.inw⟩
 . rcases sp i L h1 with h1|⟨rfl,rfl⟩
   . have hi:i<R.length:=(by rw[<-h.len];exact(Za1.1 h1).1);rw[Zc1 hi]at h2;exact h.own i L r h1 h2
   . rw[Zb9 (by rw[h.len];exact Za3 _),h.len]at h2;simp at h2;subst h2;exact QS.nil
 . rcases sp i L h1 with h1|⟨rfl,rfl⟩
   . rcases sp j M h2 with h2|⟨rfl,rfl⟩
     . exact h.apart i j L M Uq h1 h2 b hb vE
     . cases vE
   . cases hb
 . rcases sp i L h1 with h1|⟨rfl,rfl⟩
   . have hi:i<R.length:=(by rw[<-h.len];exact(Za1.1 h1).1);rw[Zc1 hi]at h2;exact h.tig i L r h1 h2 b hb
   . cases hb
theorem Ow.take{L:AV}{r:List AV}(h:Ow s0 s jb (Ls++[L]) (R++[r]) I):Ow s0 s jb Ls R ((L,r.map nX)::I):=by
 have hl:Ls.length=R.length:=by have:=h.len;simpa using this
 have up:∀(i:Nat)(M:AV),Ls[i]? =some M->(Ls++[L])[i]? =some M:=λi M h1=>by rw[Zc1 (Za1.1 h1).1];exact h1
 have upR:∀(i:Nat)(M:List AV),R[i]? =some M->(R++[r])[i]? =some M:=λi M h1=>by rw[Zc1 (Za1.1 h1).1];exact h1
 have hL:(Ls++[L])[Ls.length]? =some L:=by simp
 have hR:(R++[r])[Ls.length]? =some r:=by rw[hl];simp
 refine⟨h.jq,h.lt,h.wf,h.next,h.keep,λi M u h1 h2=>h.own i M u (up i M h1) (upR i u h2),hl,λM hM b hb=>h.new M (Zm1 _ hM) b hb,λi j M N Uq h1 h2 b hb vE=>h.apart i j M N Uq (up i M h1) (up j N h2) b hb vE,λe he=> ?_,λi M u h1 h2=>h.tig i M u (up i M h1) (upR i u h2),λe he b hb=> ?_,λe he b hb=> ?_⟩
 . rcases Za8.1 he with rfl|he
   . refine⟨h.own _ _ _ hL hR,λb hb=>⟨λe=> ?_,λM hM vE=> ?_⟩⟩
     .  have:=h.new L (by simp) b hb;have:=h.lt;rw[e]at *; omega
     .  obtain⟨i,hi,rfl⟩:=Zg2.1 hM;exact h.apart i Ls.length _ L (by omega) (up i _ (H0 hi)) hL b vE hb
   . exact⟨(h.dV e he).1,λb hb=>⟨((h.dV e he).2 b hb).1,λM hM=>((h.dV e he).2 b hb).2 M (Zm1 _ hM)⟩⟩
 . rcases Za8.1 he with rfl|he
   . rw[agd];exact h.tig _ _ _ hL hR b hb
   . exact h.itg e he b hb
 . rcases Za8.1 he with rfl|he
   . exact h.new _ (by simp) b hb
   . exact h.inw e he b hb
end
theorem zX{R:Type}{c:au}(K:AV->St->Option R){s:St}{p:Pos}{o:Nat}{cs:List AV}{v:AV}(h:s.heap.get p=some (.cells cs 0))(ho:o<cs.length)(h1:v.cells=[v])(h2:v.one=true):
  aq c (.store 1) [.ptr p o,v] s K=K .undef (aY s p (.cells (cs.set o v) 0)):=by
 rw[bP c K s 1 p o v cs h (by rw[h1];rfl) (by omega) (by rw[h1];simp[aM,h2]),h1,zW _ _ ho]
theorem QS.beq{es:Nat}{s:St}{v:AV}{rows:List (List AV)}(h:QS es s v rows):eo v v=true:=by
 rcases h with⟨rfl,_⟩|⟨b,off,cap,cs,rfl,_⟩|⟨b,off,rfl,_⟩
 . rfl
 . cases cap<;>simp[eo,mV,fP,Pos.beq_eq.2 rfl]
 . simp[eo,mV,fP,Pos.beq_eq.2 rfl]
theorem Mk.beq{es:Nat}{s s':St}{v:AV}{rows:List (List AV)}(h:Mk es s s' v rows):eo v v=true:=h.own.beq
theorem Gd{R:Type}{z:List AV}{x:AV}(hz:z.length=1)(hx:x.cells=[x])(s:St)(K:AV->AB->Option R):
  Um (.buildSlice 1 1 z [0]) [x] s K=K (.slice s.next 0 1 (some 1) 1) (.cells [x] 0):=by
 have:bY (bU z 1) ([0].map λi=>(i*1,1)) [x]=some [x]:=by
  simp only[Zd2,Zg3,Zn4,bU,Ze0,bY,cV,cU,hx,Zh2,Zc3,hz,Za3,Zc9,Zi9];simp only[aU,List.take_zero,Ze1,Zc3,Zc9,Zi9];rw[Zn5 (by omega),Ze0]
 rw[p7,this];rfl
theorem Ge{R:Type}{c:au}{z:List AV}{x:AV}(hz:z.length=1)(hx:x.cells=[x])(s:St)(K:AV->St->Option R):
  aq c (.buildSlice 1 1 z [0]) [x] s K=K (.slice s.next 0 1 (some 1) 1) (ah s (.cells [x] 0)):=by
 rw[Gb hz (by rw[hx];rfl),hx]
section
variable{s0 s s' : St}{jb : Pos}{Ls : List AV}{R : List (List AV)}{I : List (AV × List (List AV))}
theorem Ow.aco(h:Ow s0 s jb Ls R I){c:au}{Q:Type}(bytes:Nat){i:Nat}{L:AV}{r:List AV}(hL:Ls[i]? =some L)(hR:R[i]? =some r){x:AV}(hx:x.cells=[x])(h1:x.one=true)
  (hb:(2*(r.length+1)+768)*bytes<=281474976710656) (hn:r.length<=4000000):
  ∃s5 v',(∀(K:AV->St->Option Q),aq c (.append 1 bytes) [L,.slice s.next 0 1 (some 1) 1] (ah s (.cells [x] 0)) K=K v' s5)/\Ow s0 s5 jb (Ls.set i v') (R.set i (r++[x])) I/\(∀x,s.heap.get jb=some x->s5.heap.get jb=some x)/\(∀p y,aK L≠some p->s.heap.get p=some y->s5.heap.get p=some y)/\v'.cells=[v']/\v'.one=true/\s.next.toNat<=s5.next.toNat/\∀b,aK v'=some b->s.next.toNat<=b.toNat:=by
 obtain⟨s5,v',a1,a2⟩:=h.push (c:=c) (Q:=Q) (bytes:=bytes) hL hR (z:=[.int .i64 0]) rfl hx h1 hb hn;refine⟨s5,v',λK=> ?_,a2⟩;rw[<-a1 K,Ge rfl hx]
theorem Ow.mem_set{v':AV}{i:Nat}{p:Pos}(hL:∀L∈Ls,aK L≠some p)(hv:aK v'≠some p):∀L∈Ls.set i v',aK L≠some p:=λL h=>by
 rcases Zg6 h with h|rfl
 . exact hL L h
 . exact hv
theorem Ow.put(h:Ow s0 s jb Ls R I){H:List AV}(KF:s.heap.get jb=some (.cells (H++Ls) 0)){c:au}{Q:Type}(bytes:Nat){i:Nat}{L:AV}{r:List AV}(hL:Ls[i]? =some L)(hR:R[i]? =some r){x:AV}(hx:x.cells=[x])(h1:x.one=true)
   (hb:(2*(r.length+1)+768)*bytes<=281474976710656) (hn:r.length<=4000000) {o:Nat} (ho:o=H.length+i):
   ∃s5 s6 v',(∀(K:AV->St->Option Q),aq c (.append 1 bytes) [L,.slice s.next 0 1 (some 1) 1] (ah s (.cells [x] 0)) K=K v' s5)/\(∀(K:AV->St->Option Q),aq c (.store 1) [.ptr jb o,v'] s5 K=K .undef s6)/\Ow s0 s6 jb (Ls.set i v') (R.set i (r++[x])) I/\s6.heap.get jb=some (.cells (H++Ls.set i v') 0)/\
    (∀p y,p≠jb->(∀L∈Ls,aK L≠some p)->s.heap.get p=some y->s6.heap.get p=some y/\∀L∈Ls.set i v',aK L≠some p):=by
 obtain⟨s5,v',a1,a2,a3,a4,a5,a6,a7,a8⟩:=h.aco (c:=c) (Q:=Q) bytes hL hR hx h1 hb hn;have iH:i<Ls.length:=(Za1.1 hL).1;have hj:=a3 _ KF;have es:(H++Ls).set o v'=H++Ls.set i v':=by subst ho;rw[Zj8 _ _ (by omega)];congr 2;omega
 refine⟨s5,aY s5 jb (.cells (H++Ls.set i v') 0),v',a1,λK=> ?_,a2.store _,bN _ _ _,λp y hp hpL hy=>⟨?_,Ow.mem_set hpL λe=> ?_⟩⟩
 . rw[zX K hj (by rw[Ze6];omega) a5 a6,es]
 . rw[aG (λe=>hp e.symm)];exact a4 p y (hpL L (Zc0 hL)) hy
 . have:=a8 p e;have:=h.wf _ _ hy;omega
end
def Qp:List (Int×Int)->Nat->List (AV×AV×Nat)
 |[],_=>[]
 |(k,d)::E,i=>(.int .i64 k,.int .i64 d,i)::Qp E (i+1)
def im(E:List (Int×Int)):AB:= .map (Qp E 0) E.length
def jZ:List (Int×Int)->Int->Option Int
 |[],_=>none
 |(k,d)::E,x=>if x=k then some d else jZ E x
theorem ahl:∀(E:List (Int×Int))(i:Nat)(k d:Int),Qp (E++[(k,d)]) i=Qp E i++[(.int .i64 k,.int .i64 d,i+E.length)]
 |[],i,k,d=>rfl
 |(a,b)::E,i,k,d=>by
  show _::Qp (E++[(k,d)]) (i+1)=_::(Qp E (i+1)++_);rw[ahl E (i+1) k d];simp only[Zc9];rw[show i+1+E.length=i+(E.length+1)by omega]
theorem CE(x:Int):∀(E:List (Int×Int))(i j:Nat),(jZ E x=none->gP .i (.int .i64 x) (Qp E i) j=some none)/\∀d,jZ E x=some d->∃n,gP .i (.int .i64 x) (Qp E i) j=some (some (n,.int .i64 d))
 |[],i,j=>⟨λ_=>rfl,λd h=>by cases h⟩
 |(k,e)::E,i,j=>by
  have ih:=CE x E (i+1) (j+1);have step:gP .i (.int .i64 x) (Qp ((k,e)::E) i) j=if x=k then some (some (j,.int .i64 e))else gP .i (.int .i64 x) (Qp E (i+1)) (j+1):=by
    show(match AD .i (.int .i64 x) (.int .i64 k)with|some true=>some (some (j,AV.int .i64 e))|some false=>gP .i (.int .i64 x) (Qp E (i+1)) (j+1)|none=>none)=_;simp only[AD,dw,mW];by_cases h:x=k
    . rw[Zb3 h,Za0 h]
    . rw[Za7 h,Za2 h]
  rw[step];unfold jZ;by_cases h:x=k
  . rw[Zb3 h,Zb3 h];exact⟨λh=>(by cases h),λd hd=>⟨j,by cases hd;rfl⟩⟩
  . rw[Za7 h,Za7 h];exact ih
section
variable{R : Type}(c : au)(K : AV -> St -> Option R){st : St}{m : Pos}{E : List (Int × Int)}
theorem apN(h:st.heap.get m=some (im E))(x:Int):aq c (.lookup .i (.int .i64 0) true) [.map m,.int .i64 x] st K=K (.tuple [.int .i64 ((jZ E x).getD 0),.bool (jZ E x).isSome]) st:=by
 have:aF.run (λb=>st.heap.get b) st.next (.lookup .i (.int .i64 0) true) [.map m,.int .i64 x]=some (.val (.tuple [.int .i64 ((jZ E x).getD 0),.bool (jZ E x).isSome])):=by
  unfold im at h;cases hl:jZ E x with
  |none=>simp only[aF.run,kq,h,(CE x E 0 0).1 hl];rfl
  |some d=>obtain⟨n,e⟩:=(CE x E 0 0).2 d hl;simp only[aF.run,kq,h,e];rfl
 unfold aq cG;rw[this]
theorem atK(h:st.heap.get m=some (im E))(x:Int):aq c (.lookup .i (.int .i64 0) false) [.map m,.int .i64 x] st K=K (.int .i64 ((jZ E x).getD 0)) st:=by
 have:aF.run (λb=>st.heap.get b) st.next (.lookup .i (.int .i64 0) false) [.map m,.int .i64 x]=some (.val (.int .i64 ((jZ E x).getD 0))):=by
  unfold im at h;cases hl:jZ E x with
  |none=>simp only[aF.run,kq,h,(CE x E 0 0).1 hl];rfl
  |some d=>obtain⟨n,e⟩:=(CE x E 0 0).2 d hl;simp only[aF.run,kq,h,e];rfl
 unfold aq cG;rw[this]
theorem ahm(h:st.heap.get m=some (im E)){x:Int}(hx:jZ E x=none)(d:Int):aq c (.mapSet .i) [.map m,.int .i64 x,.int .i64 d] st K=K .undef (aY st m (im (E++[(x,d)]))):=by
 have:aF.run (λb=>st.heap.get b) st.next (.mapSet .i) [.map m,.int .i64 x,.int .i64 d]=some (.bh .undef none (some (m,im (E++[(x,d)]))) none):=by unfold im at h;simp only[aF.run,yG,h,agt,(CE x E 0 0).1 hx];unfold im;rw[ahl];simp
 unfold aq cG;rw[this];rfl
end
theorem ank(i:Nat):bounds true false false [.int .i64 (i:Int)]=some (some i,none,none):=rfl
theorem anl(i:Nat):bounds false true false [.int .i64 (i:Int)]=some (none,some i,none):=rfl
theorem aeT{es:Nat}:∀(rows:List (List AV)),(∀r∈rows,r.length=es)->∀i,rows.flatten.drop (i*es)=(rows.drop i).flatten
 |[],_,i=>by simp
 |r::rows,hr,0=>by simp
 |r::rows,hr,i+1=>by have hl:=hr r (by simp);rw[Zf5,List.drop_succ_cons,Zh1,Zq2, <-Zl1, <-hl,List.drop_left,hl];exact aeT rows (λx hx=>hr x (Za9 _ hx)) i
theorem QS.low{es:Nat}{s:St}{v:AV}{rows:List (List AV)}(h:QS es s v rows)(hr:∀r∈rows,r.length=es){i:Nat}(hi:i<=rows.length):
   ∃v',(∀{R:Type}(c:au)(K:AV->St->Option R)(s1:St),aq c (.sliceL es true false false) [v,.int .i64 (i:Int)] s1 K=K v' s1)/\QS es s v' (rows.drop i)/\∀b,aK v'=some b->aK v=some b:=by
 rcases h with⟨rfl,rfl⟩|⟨b,off,cap,cs,rfl,g1,g2,g3,g4⟩|⟨b,off,rfl,rfl⟩
 . obtain rfl:i=0:=(by simpa using hi);exact⟨.af,λc K s1=>aR c K (λH n=>rfl) s1,.inl ⟨rfl,rfl⟩,λb hb=>hb⟩
 . refine⟨.slice b (off+i*es) (rows.length - i) (cap.map (· - i)) es,λc K s1=>aR c K (λH n=> ?_) s1,?_,λb' hb=> ?_⟩
   . simp only[aF.run,iP,ank,cV,cU,Zh2,Ze9,Zj0,Za0 hi];rcases g4 with rfl|rfl<;>simp
   . have hm:i*es+(rows.length - i)*es=rows.length*es:=(by rw[<-Zj3];congr 1;omega);refine .inr (.inl ⟨b,off+i*es,cap.map (· - i),cs,by rw[Zq0],g1,?_,?_,?_⟩)
     .  rw[Zq0];omega
     .  rw[<-aeT rows hr i, <-g3,Zn2,Zl1,Zq0];congr 1;omega
     .  rcases g4 with rfl|rfl
        . exact .inl rfl
        . right;simp
   . obtain rfl:=qk hb;simp only[aK]at hb ⊢;by_cases h0:cap=some 0/\rows.length=0
     .  obtain⟨rfl,h0⟩:=h0;rw[Zb3 (by simp;omega)]at hb;cases hb
     .  rw[Za7 h0]
 . obtain rfl:i=0:=(by simpa using hi);refine⟨.slice b (off+0*es) 0 (some 0) es,λc K s1=>aR c K (λH n=> ?_) s1,.inr (.inr ⟨_,_,rfl,rfl⟩),λb' hb=> ?_⟩
   . simp only[aF.run,iP,ank,cV,cU,Zh2,Ze9,Zj0,Za3,Zk3]
   . rw[lU]at hb;cases hb
theorem QS.high{es:Nat}{s:St}{v:AV}{rows:List (List AV)}(h:QS es s v rows){i:Nat}(hi:i<=rows.length):
   ∃v',(∀{R:Type}(c:au)(K:AV->St->Option R)(s1:St),aq c (.sliceL es false true false) [v,.int .i64 (i:Int)] s1 K=K v' s1)/\∀{R:Type}(c:au)(K:AV->St->Option R)(s1:St),aq c (.lenB .l) [v'] s1 K=K (.int .i64 (i:Int)) s1:=by
 rcases h with⟨rfl,rfl⟩|⟨b,off,cap,cs,rfl,g1,g2,g3,g4⟩|⟨b,off,rfl,rfl⟩
 . obtain rfl:i=0:=(by simpa using hi);exact⟨.af,λc K s1=>aR c K (λH n=>rfl) s1,λc K s1=>aR c K (λH n=>rfl) s1⟩
 . refine⟨.slice b (off+0*es) (i - 0) cap es,λc K s1=>aR c K (λH n=> ?_) s1,λc K s1=>aR c K (λH n=>rfl) s1⟩;simp only[aF.run,iP,anl,cV,cU,Zh2,Ze9,Zj0,Zi8];rcases g4 with rfl|rfl<;>simp[hi]
 . obtain rfl:i=0:=(by simpa using hi);refine⟨.slice b (off+0*es) 0 (some 0) es,λc K s1=>aR c K (λH n=> ?_) s1,λc K s1=>aR c K (λH n=>rfl) s1⟩;simp only[aF.run,iP,anl,cV,cU,Zh2,Ze9,Zj0,Za3,Zk3]
theorem QS.clear{es:Nat}{z:List AV}{s:St}{v:AV}{rows:List (List AV)}(h:QS es s v rows)(hw:Wf s)(hz:z.length=es)(h1:∀n,aM (bU z n)=true):
   ∃s',(∀{R:Type}(c:au)(K:AV->St->Option R),aq c (.clearS es z) [v] s K=K .undef s')/\Wf s'/\s'.next=s.next/\∀p x,aK v≠some p->s.heap.get p=some x->s'.heap.get p=some x:=by
 rcases h with⟨rfl,rfl⟩|⟨b,off,cap,cs,rfl,g1,g2,g3,g4⟩|⟨b,off,rfl,rfl⟩
 . exact⟨s,λc K=>aR c K (λH n=>rfl) s,hw,rfl,λ_ _ _ h=>h⟩
 . by_cases h0:rows.length=0
   . refine⟨s,λc K=>aR c K (λH n=> ?_) s,hw,rfl,λ_ _ _ h=>h⟩;simp only[aF.run,sP,cV,h0,Zh2]
   . refine⟨aY s b (.cells (aU cs off (bU z rows.length)) 0),λc K=> ?_,jD hw (hw _ _ g1),dH _ _ _,λp x hp hx=> ?_⟩
     .  have:aF.run (λb=>s.heap.get b) s.next (.clearS es z) [.slice b off rows.length cap es]=some (.bh .undef none (some (b,.cells (aU cs off (bU z rows.length)) 0)) none):=by
         simp only[aF.run,sP,cV,Za2 h0,g1,cU,Za0 g2,Zi8,Zh2,h1]
        unfold aq cG;rw[this];rfl
     .  rw[aG (λe=>hp (by simp only[aK];rw[Za7 (by omega),e]))];exact hx
 . refine⟨s,λc K=>aR c K (λH n=> ?_) s,hw,rfl,λ_ _ _ h=>h⟩;simp[aF.run,sP,cV]
theorem QS.bare{es:Nat}{s:St}{v:AV}{rows:List (List AV)}(h:QS es s v rows):bI v:=by
 rcases h with⟨rfl,_⟩|⟨b,off,cap,cs,rfl,_⟩|⟨b,off,rfl,_⟩
 . exact bI.af
 . exact bI.slice _ _ _ _ _
 . exact bI.slice _ _ _ _ _
def emptyAt(s:St):St:={ heap:= .e,next:=s.next }
theorem KM(s:St):Wf (emptyAt s):=λp x h=>by have h:(T.e:T AB).get p=some x:=h;rw[T.dP]at h;cases h
noncomputable def cW(s s1:St):St:={ heap:=T.both s.heap (Dx s1.heap),next:=s1.next }
theorem alj{s s1:St}{b:Pos}{x:AB}(h:s.heap.get b=some x):(cW s s1).heap.get b=some x:=by show(T.both _ _).get b=_;rw[T.F9,h];rfl
theorem Dz{s s1:St}(hw:Wf s){b:Pos}{x:AB}(hb:s.next.toNat<=b.toNat)(h:s1.heap.get b=some x)(hx:KL x):(cW s s1).heap.get b=some x:=by
 show(T.both _ _).get b=_;have:s.heap.get b=none:=by
  cases e:s.heap.get b with
  |none=>rfl
  |some y=>have:=hw _ _ e;omega
 rw[T.F9,this,ani h hx];rfl
theorem aae{s s1:St}(hw:Wf s)(h1:Wf s1)(hn:s.next.toNat<=s1.next.toNat):Grew s (cW s s1):=
 ⟨fun p x h=>by
  have h:(T.both s.heap (Dx s1.heap)).get p=some x:=h;show p.toNat<s1.next.toNat;rw[T.F9]at h;cases e:s.heap.get p with
  |some y=>have:=hw _ _ e;omega
  |none=>
   rw[e]at h;have h:(Dx s1.heap).get p=some x:=(by simpa using h);exact h1 _ _ (aeQ h).1,λp x h=>alj h,hn⟩
theorem Mk.cW{es:Nat}{s s1:St}{v:AV}{rows:List (List AV)}(hw:Wf s)(h:Mk es (emptyAt s) s1 v rows)(hb:∀r∈rows,∀x∈r,bI x):Mk es s (Go.Ai.cW s s1) v rows:=by
 have key:∀b x,aK v=some b->s1.heap.get b=some x->(Go.Ai.cW s s1).heap.get b=some x:=λb x dZ hx=>by
  have t:=h.tight b dZ;have yT:x= .cells rows.flatten 0:=by rw[t]at hx;exact(Zi3 hx).symm
  subst yT;exact Dz hw (h.new b dZ) t (λv hv=>by obtain⟨r,hr,hv⟩:=List.mem_flatten.1 hv;exact hb r hr v hv)
 exact⟨hw,aae hw h.ai.wf h.ai.next,h.own.mono key,h.new,h.row,h.cap,λb dZ=>key b _ dZ (h.tight b dZ)⟩
theorem aeU{call:au}{f:FuncId}{d:Nat}{args:List AV}{s:St}{v:AV}{s1:St}(h:call f (args.map (ey s d)) (emptyAt s)=some (v,s1))(hb:bI v)(hn:s.next.toNat<=s1.next.toNat):
 SC call f d args s=some (v,cW s s1):=aka h ⟨hb,hn⟩
theorem alk{call:au}{f:FuncId}{d:Nat}{args:List AV}{s:St}{v:AV}(h:call f (args.map (ey s d)) (emptyAt s)=some (v,emptyAt s))(hb:bI v):SC call f d args s=some (v,s):=ahj h hb
section
variable{H : Type}(Ok : DataW H -> Prop)(enc : TypeId × Value -> H)(P : Program)(w : World)(base : Nat)(spare : Nat -> Bool)(held : Bool)
variable{Ok enc P w base spare held}
end
end
section
open Go Go.WideShapes
section
variable{H : Type}(enc : TypeId × Value -> H)(P : Program)(w : World)(base : Nat)(spare : Nat -> Bool)(held : Bool)
variable{enc P w base spare held}
end
end
section
open Go
section
variable{c : au}{R : Type}
theorem ahn{H:Pos->Option AB}{n:Pos}{k:IntKind}{a b:Int}(h1:0<=a)(h2:0<b):aF.run H n (.bin .rem .num) [.int k a,.int k b]=some (.val (.int k (a % b))):=by
 have e0:zO b 0=false:=by rw[mG,Zm3];omega
 have e1:a.tmod b=a % b:=Int.tmod_eq_emod_of_nonneg h1;simp only[aF.run,jv,oW,dw,e0,e1]
theorem aho{H:Pos->Option AB}{n:Pos}{a b:Int}(h1:0<=a)(h3:a<=9223372036854775807)(h2:0<b):aF.run H n (.bin .quo .num) [.int .i64 a,.int .i64 b]=some (.val (.int .i64 (a / b))):=by
 have e0:zO b 0=false:=by rw[mG,Zm3];omega
 have e1:a.tdiv b=a / b:=Zi0 h1;have e3:0<=a / b:=Zq9 h1 (by omega);have e4:a / b<=a:=Int.ediv_le_self b h1;have e2:ax .i64 (a / b)=a / b:=wrap64 (by omega) (by omega);simp only[aF.run,jv,oW,dw,e0,e1,e2]
theorem apO{H:Pos->Option AB}{n:Pos}{a:Int}{i:Nat}(h:i<=64):aF.run H n (.bin .shr .num) [.int .i64 a,.int .i64 (i:Int)]=some (.val (.int .i64 (a / 2 ^ i))):=by
 have e0:BJ (i:Int) 0=false:=by rw[fj,Za2 (by omega)]
 have e1:min (i:Int).toNat (IntKind.bits .i64)=i:=by have:IntKind.bits .i64=64:=rfl;rw[this];omega
 simp only[aF.run,jv,oW,e0,e1];rw[Zm2 _ (Int.le_of_lt (Int.pow_pos (by decide)))]
theorem cN{k:IntKind}{a b:Int}(h1:0<=a)(h2:0<b)(s:St)(K:AV->St->Option R):aq c (.bin .rem .num) [.int k a,.int k b] s K=K (.int k (a % b)) s:=aR c K (λH n=>ahn h1 h2) s
theorem SD{k:IntKind}{a b:Int}(h1:0<=a)(h2:0<b)(K:AV->Option R):fD (.bin .rem .num) [.int k a,.int k b] K=K (.int k (a % b)):=dB K (λH n=>ahn h1 h2)
theorem iz{a b:Int}(h1:0<=a)(h3:a<=9223372036854775807)(h2:0<b)(s:St)(K:AV->St->Option R):aq c (.bin .quo .num) [.int .i64 a,.int .i64 b] s K=K (.int .i64 (a / b)) s:=aR c K (λH n=>aho h1 h3 h2) s
theorem ahp{a b:Int}(h1:0<=a)(h3:a<=9223372036854775807)(h2:0<b)(K:AV->Option R):fD (.bin .quo .num) [.int .i64 a,.int .i64 b] K=K (.int .i64 (a / b)):=dB K (λH n=>aho h1 h3 h2)
theorem ahq{a:Int}{i:Nat}(h:i<=64)(s:St)(K:AV->St->Option R):aq c (.bin .shr .num) [.int .i64 a,.int .i64 (i:Int)] s K=K (.int .i64 (a / 2 ^ i)) s:=aR c K (λH n=>apO h) s
theorem vF(i:Int)(s:St)(K:AV->St->Option R):aq c (.conv (.int .u8)) [.int .i64 i] s K=K (.int .u8 (ax .u8 i)) s:=aR c K (λH n=>rfl) s
theorem om(i:Int)(k:IntKind)(s:St)(K:AV->St->Option R):aq c (.conv (.int .i64)) [.int k i] s K=K (.int .i64 (ax .i64 i)) s:=aR c K (λH n=>rfl) s
theorem ahr{x y:Int}(a b:Nat)(hx:x=(a:Int))(hy:y=(b:Int))(ha:a<256)(hb:b<256)(s:St)(K:AV->St->Option R):
  aq c (.buildSlice 1 2 [.int .u8 0] [0,1]) [.int .u8 x,.int .u8 y] s (λv t=>aq c (.conv .ofBytes) [v] t K)=K (.str [a,b]) (ah s (.cells [.int .u8 x,.int .u8 y] 0)):=by
 subst hx;subst hy;rw[show aq c (.buildSlice 1 2 [.int .u8 0] [0,1]) [.int .u8 (a:Int),.int .u8 (b:Int)] s (λv t=>aq c (.conv .ofBytes) [v] t K)=aq c (.conv .ofBytes) [.slice s.next 0 2 (some 2) 1] (ah s (.cells [.int .u8 (a:Int),.int .u8 (b:Int)] 0)) K from rfl];have:aF.run (λp=>(ah s (.cells [.int .u8 (a:Int),.int .u8 (b:Int)] 0)).heap.get p) (ah s (.cells [.int .u8 (a:Int),.int .u8 (b:Int)] 0)).next (.conv .ofBytes) [.slice s.next 0 2 (some 2) 1]=some (.val (.str [a,b])):=by
  have ha':Nat.blt a 256=true:=by simpa using ha
  have dZ:Nat.blt b 256=true:=by simpa using hb
  simp only[aF.run,FP,az];show(match bytesOf [.int .u8 (.ofNat a),.int .u8 (.ofNat b)]with|some s=>some (eI.val (.str s))|none=>none)=_;simp only[bytesOf,ha',dZ]
 unfold aq cG;rw[this]
end
theorem Mk.apP{s s':St}{l:List AV}(hi:∀u∈l,dm u)(hw:Wf s)(hg:Grew s s'):
   ∃cY,Go.Ai.tidy s (.agg l,s')=(.agg l,cY)/\Grew s cY/\(∀(es:Nat)(v:AV)(rows:List (List AV)),v∈l->Mk es s s' v rows->Mk es s cY v rows/\(cY=s'\/rows=[])):=by
 unfold Go.Ai.tidy;by_cases hp:Plain (AV.agg l,s').1/\aT s (AV.agg l,s').2
 . rw[Zb3 hp];refine⟨s,rfl,Grew.refl hw,λes v rows hm h=> ?_⟩;rcases h.loose with⟨b,off,n,rfl⟩|⟨hl,h0⟩
   . exact absurd hp.1 (fT hi hm)
   . exact⟨hl s h.jq,.inr h0⟩
 . rw[Za7 hp];exact⟨s',rfl,hg,λes v rows _ h=>⟨h,.inl rfl⟩⟩
theorem Mk.oP{es:Nat}{s0 s s':St}{v:AV}{rows:List (List AV)}(h:Mk es s0 s v rows)(hg:Grew s0 s')(hk:∀b x,aK v=some b->s.heap.get b=some x->s'.heap.get b=some x):Mk es s0 s' v rows:=
 ⟨h.jq,hg,h.own.mono hk,h.new,h.row,h.cap,λb hb=>hk b _ hb (h.tight b hb)⟩
theorem Mk.oo{es:Nat}{s0 s1 s s':St}{v:AV}{rows:List (List AV)}(h:Mk es s1 s v rows)(h0:Wf s0)(N7:Grew s0 s1)(hg:Grew s0 s')(hk:∀q b,s1.next.toNat<=q.toNat->s.heap.get q=some b->s'.heap.get q=some b):Mk es s0 s' v rows:=
 ⟨h0,hg,h.own.mono (λb x hb hx=>hk b x (h.new b hb) hx),λb hb=>Zb0 N7.next (h.new b hb),h.row,h.cap,λb hb=>hk b _ (h.new b hb) (h.tight b hb)⟩
end
section
open Go Go.WideShapes
theorem Hs{Q:List AV->Prop}{Qs:List (List AV->Prop)}{ps:List (List AV)}(h:SA (Q::Qs) ps):∃p qs,ps=p::qs/\Q p/\SA Qs qs:=by
 cases ps with
 |nil=>exact h.elim
 |cons p qs=>exact⟨p,qs,rfl,h⟩
theorem ahs{ps:List (List AV)}(h:SA [] ps):ps=[]:=by
 cases ps with
 |nil=>rfl
 |cons p qs=>exact h.elim
section
variable{H : Type}{enc : TypeId × Value -> H}{P : Program}{w : World}{base : Nat}{spare : Nat -> Bool}{held : Bool}
theorem adK{t e:TypeId}{Q:List AV->Prop}{r:Go.Reach}{b0:Nat}{v:Value}{d:DataW H}{p:List MemPlace}(ho:oO enc P w base spare held t Q)(ht:P.underlying t=some (.slice e))
  (hval:Value.okWide P w r b0 t v) (hd:DataW.Trod enc P w base spare held t v d p):∃as,Q as/\∀ρ n,aL ρ n (λad=>w.cell? ad) as [v]:=by
 obtain⟨a,len,cap,rfl⟩:=okWide_slice ht hval;obtain⟨fuel,hf⟩:=hd;exact ho _ _ _ hf
end
end
noncomputable section
open Go
inductive Un where
 |z
 |s (n:Un)
def un:Nat->Un
 |0=> .z
 |n+1=> .s (un n)
inductive Tx where
 |bad
 |op (k:aF) (xs:List ij) (d:Option Pos) (t:Tx)
 |gop (g:Pos) (w:Bool) (k:aF) (xs:List ij) (d:Option Pos) (t:Tx)
 |dr (t:Tx)
 |pr (k:aF) (xs:List ij) (d:Option Pos) (t:Tx)
 |Z9 (g:Pos) (w:Bool) (k:aF) (xs:List ij) (d:Option Pos) (t:Tx)
 |rd (b:List Bool) (k:aF) (xs:List ij) (d:Option Pos) (t:Tx)
 |grd (g:Pos) (w:Bool) (b:List Bool) (k:aF) (xs:List ij) (d:Option Pos) (t:Tx)
 |nw (k:aF) (xs:List ij) (d:Option Pos) (t:Tx)
 |gnw (g:Pos) (w:Bool) (k:aF) (xs:List ij) (d:Option Pos) (t:Tx)
 |ef (k:aF) (xs:List ij) (d:Option Pos) (t:Tx)
 |gef (g:Pos) (w:Bool) (k:aF) (xs:List ij) (d:Option Pos) (t:Tx)
 |cnd (x:ij) (a b:Tx)
 |jn (l:List Pos) (a b:Tx)
 |jmp (i:Un) (l:List Pos)
 |arg (l:List Pos) (t:Tx) (r:Tx)
 |lp (j:Un) (ins:List Pos)
 |agn (ins:List Pos)
 |out (i:Un) (l:List Pos)
 |res (rs:List PT)
def txO:List bS->Tx->Tx
 |[],t=>t
 |  o::os,t=>match o.guard with
    |none=> .op o.k o.xs o.dst (txO os t)
    |some (p,w)=> .gop p w o.k o.xs o.dst (txO os t)
def bitsOf(bZ:Nat):List Nat->List Bool
 |[]=>[]
 |i::is=>bZ.testBit i::bitsOf bZ is
def txD:List (Nat×bS)->List Nat->Tx->Tx
 |[],_,t=>t
 |  (j,o)::os,is,t=>match o.cls,o.guard with
    | .pure,none=> .pr o.k o.xs o.dst (txD os (j::is) t)
    | .pure,some (p,w)=> .Z9 p w o.k o.xs o.dst (txD os (j::is) t)
    | .read,none=> .rd (bitsOf o.bZ is) o.k o.xs o.dst (txD os (j::is) t)
    | .read,some (p,w)=> .grd p w (bitsOf o.bZ is) o.k o.xs o.dst (txD os (j::is) t)
    | .new,none=> .nw o.k o.xs o.dst (txD os (j::is) t)
    | .new,some (p,w)=> .gnw p w o.k o.xs o.dst (txD os (j::is) t)
    | .bh,none=> .ef o.k o.xs o.dst (txD os (j::is) t)
    | .bh,some (p,w)=> .gef p w o.k o.xs o.dst (txD os (j::is) t)
def txA(K:oe->Tx):List (Nat×List Pos)->Tx->Tx
 |[],t=>t
 |(e,l)::r,t=> .arg l (K (exOf e)) (txA K r t)
def tx:AC->Sh->Nat->(oe->Nat->Tx)->Tx
 | .skip,_,d,K=>K .normal d
 | .region ops,_,d,K=>txO ops (K .normal d)
 | .draw ops,_,d,K=> .dr (txD ops [] (K .normal d))
 |  .seq a b,s,d,K=>match s with
    | .seq none s t=>tx a s d λex d=>match ex with
      | .normal=>tx b t d K
      | .exit i=>K (.exit i) d
      | .ret=>K .ret d
    | .seq (some l) s t=> .jn l (tx a s (d+1) λex d'=>match ex with
      | .normal=> .jmp (un (d' - d - 1)) l
      | .exit i=>K (.exit i) d'
      | .ret=>K .ret d') (tx b t d K)
    |_=> .bad
 |  .cond x a b,s,d,K=>match s with
    | .cond s t=> .cnd x (tx a s d K) (tx b t d K)
    |_=> .bad
 |  .block id a,s,d,K=>match s with
    | .block s=>tx a s d λex d=>match ex with
      | .normal=>K .normal d
      | .exit i=>match Nat.beq i id with
        |true=>K .normal d
        |false=>K (.exit i) d
      | .ret=>K .ret d
    |_=> .bad
 |  .loop _,s,d,K=>match s with
    | .loop j ins outs _=>txA (λex=>K ex d) outs (.lp (un j) ins)
    |_=> .bad
 | .exit id,_,d,K=>K (.exit id) d
 | .ret,_,d,K=>K .ret d
def idxOf:List (Nat×List Pos)->Nat->Nat
 |[],_=>0
 |  (i,_)::r,e=>match Nat.beq i e with
    |true=>0
    |false=>idxOf r e+1
def txF(A:dO)(s:Sh):Tx:=tx A.code s 0 λex _=>match ex with
 | .normal=> .res A.results
 | .ret=> .res A.results
 | .exit _=> .bad
def txL(x:AC×Sh):List Pos×Tx:=match x.2 with
 |  .loop _ ins outs s=>(ins,tx x.1 s 0 λex _=>match ex with
    | .normal=> .agn ins
    | .exit i=> .out (un (idxOf outs (i+2))) (YU outs (i+2))
    | .ret=> .out (un (idxOf outs 1)) (YU outs 1))
 |_=>([],.bad)
section
variable{R : Type}
abbrev KK(R:Type):=List AV->St->Option R
abbrev O2:=Option (AV×St)
abbrev Q2:=KK (AV×St)
def Fg:Unit:=(λ_=>()) (@den AV)
def B5(p:Pos)(fr:Fr)(k:AV->Option R):Option R:=match fr.get p with
 |some v=>k v
 |none=>(λ_=>none) Fg
def DA(p:Pos)(v:AV)(fr:Fr)(k:Fr->Option R):Option R:=(λ_=>k (fr.put (some v) p)) Fg
def DB(d:Option Pos)(v:AV)(fr:Fr)(k:Fr->Option R):Option R:=match d with
 |some p=>DA p v fr k
 |none=>k fr
def Ht(fr:Fr):List ij->(List AV->Option R)->Option R
 |[],k=>k []
 | .t p::xs,k=>B5 p fr λv=>Ht fr xs λvs=>k (v::vs)
 | .c v::xs,k=>Ht fr xs λvs=>k (v::vs)
def getLT:List Pos->Fr->(List AV->Option R)->Option R
 |[],_,k=>k []
 |p::ps,fr,k=>B5 p fr λv=>getLT ps fr λvs=>k (v::vs)
def GV:List Pos->List AV->Fr->(Fr->Option R)->Option R
 |[],vs,fr,k=>iT vs (k fr)
 |p::ps,vs,fr,k=>fO vs λv vs=>DA p v fr λfr=>GV ps vs fr k
def acp(p:Pos)(k:Pos->Option R):Option R:=(λ_=>k p.succ) Fg
def aa3:Pos->List AV->Fr->(Fr->Option R)->Option R
 |_,[],fr,k=>k fr
 |p,v::vs,fr,k=>DA p v fr λfr=>acp p λp=>aa3 p vs fr k
def kat:Un->List (KK R)->KK R
 | .z,k::_=>k
 | .s n,_::ks=>kat n ks
 |_,[]=>λ_ _=>none
def DC:List Bool->T AB->List RC->T AB
 |  b ::bs,h,r::rs=>match r with
    | .new id aN=>match b with
      |true=>(DC bs h rs).put (some aN) id
      |false=>DC bs h rs
    | .bh _ _=>h
    | .pure=>DC bs h rs
 |_,h,_=>h
def DD(k:aF)(xs:List AV)(v:AV):List (Pos×AB)->List Bool->List RC->Bool
 |  up,b::bs,r::rs=>match r with
    | .new id aN=>match b with
      |true=>DD k xs v ((id,aN)::up) bs rs
      |false=>DD k xs v up bs rs
    | .bh base _=>match b with
      |true=>true
      |false=>oJ k xs v (nE up (DC bs base rs))&&DD k xs v up bs rs
    | .pure=>DD k xs v up bs rs
 |_,_,_=>true
def WT(fr:Fr)(st:St):List PT->(List AV->Option R)->Option R
 |[],k=>k []
 | .tmp p::rs,k=>B5 p fr λv=>WT fr st rs λvs=>k (v::vs)
 | .cell p n::rs,k=>B5 p fr λq=>ldr n q st λv=>WT fr st rs λvs=>k (v::vs)
def age(as:List (KK R))(f:KK R)(k:List (KK R)->Option R):Option R:=(λ_=>k (as++[f])) Fg
def pkR(vs:List AV)(st:St):Option (AV×St):=some (zQ vs,st)
end
section
variable(c : au)(F : Nat)(Ls : Un -> List Q2 -> Nat -> Q2)(ag : Q2)(ko : List Q2)
def evX(fr:Fr)(x:ij)(k:AV->Option (AV×St)):Option (AV×St):=match x with
 | .t p=>B5 p fr k
 | .c v=>k v
def ev:Tx->List (KK (AV×St))->List (KK (AV×St))->Fr->St->List RC->T AB->Option (AV×St)
 | .bad,_,_,_,_,_,_=>none
 | .op k xs d t,ks,as,fr,st,rs,b=>Ht fr xs λvs=>aq c k vs st λv st=>DB d v fr λfr=>ev t ks as fr st rs b
 | .gop g w k xs d t,ks,as,fr,st,rs,b=>Ht fr xs λvs=>B5 g fr λg=>qj c g w k vs st λv st=>DB d v fr λfr=>ev t ks as fr st rs b
 | .dr t,ks,as,fr,st,_,_=>ev t ks as fr st [] st.heap
 | .pr k xs d t,ks,as,fr,st,rs,b=>Ht fr xs λvs=>fD k vs λv=>DB d v fr λfr=>ev t ks as fr st (.pure::rs) b
 | .Z9 g w k xs d t,ks,as,fr,st,rs,b=>Ht fr xs λvs=>B5 g fr λg=>Z9 g w k vs λv=>DB d v fr λfr=>ev t ks as fr st (.pure::rs) b
 | .rd bs k xs d t,ks,as,fr,st,rs,b=>Ht fr xs λvs=>ia k vs (DC bs b rs) (λv=>DD k vs v [] bs rs) λv=>DB d v fr λfr=>ev t ks as fr st (.pure::rs) b
 | .grd g w bs k xs d t,ks,as,fr,st,rs,b=>Ht fr xs λvs=>B5 g fr λg=>grd g w k vs (DC bs b rs) (λv=>DD k vs v [] bs rs) λv=>DB d v fr λfr=>ev t ks as fr st (.pure::rs) b
 | .nw k xs d t,ks,as,fr,st,rs,b=>Ht fr xs λvs=>Um k vs st λv aN=>DB d v fr λfr=>ev t ks as fr (ah st aN) (.new st.next aN::rs) b
 | .gnw g w k xs d t,ks,as,fr,st,rs,b=>Ht fr xs λvs=>B5 g fr λg=>wnt g w (Um k vs st λv aN=>DB d v fr λfr=>ev t ks as fr (ah st aN) (.new st.next aN::rs) b) (DB d .undef fr λfr=>ev t ks as fr st (.pure::rs) b)
 | .ef k xs d t,ks,as,fr,st,rs,b=>Ht fr xs λvs=>aq c k vs st λv st'=>DB d v fr λfr=>ev t ks as fr st' (.bh b st'.heap::rs) st'.heap
 | .gef g w k xs d t,ks,as,fr,st,rs,b=>Ht fr xs λvs=>B5 g fr λg=>wnt g w (aq c k vs st λv st'=>DB d v fr λfr=>ev t ks as fr st' (.bh b st'.heap::rs) st'.heap) (DB d .undef fr λfr=>ev t ks as fr st (.pure::rs) b)
 | .cnd x t u,ks,as,fr,st,rs,b=>evX fr x λv=>cnd v (ev t ks as fr st rs b) (ev u ks as fr st rs b)
 | .jn l t u,ks,as,fr,st,rs,b=>dz (λk=>ev t (k::ks) as fr st rs b) (λvs st=>GV l vs .e λfr=>ev u ks as fr st [] .e)
 | .jmp i l,ks,_,fr,st,_,_=>getLT l fr λvs=>kat i ks vs st
 | .arg l t r,ks,as,fr,st,rs,b=>age as (λos st=>GV l os .e λfr=>ev t ks [] fr st [] .e) λas=>ev r ks as fr st rs b
 | .lp j ins,_,as,fr,st,_,_=>getLT ins fr λvs=>Ls j as F vs st
 | .agn ins,_,_,fr,st,_,_=>getLT ins fr λvs=>ag vs st
 | .out i l,_,_,fr,st,_,_=>getLT l fr λvs=>kat i ko vs st
 | .res rs,_,_,fr,st,_,_=>WT fr st rs λvs=>pkR vs st
def dL(p:List Pos×Tx)(vs:List AV)(st:St):Option (AV×St):=GV p.1 vs .e λfr=>ev c F Ls ag ko p.2 [] [] fr st [] .e
end
def aX{R:Type}:Un->List (KK R)->Nat->KK R:=λ_ _ _ _ _=>none
def eP{R:Type}:KK R:=λ_ _=>none
def aZ(c:au)(F:Nat)(Ls:Un->List Q2->Nat->Q2)(t:Tx)(args:List AV)(st:St):O2:=aa3 .h args .e λfr=>ev c F Ls eP [] t [] [] fr st [] .e
def tT(Ls:Un->List Q2->Nat->Q2)(A:dO)(s:Sh):Env (AV×St):=λj K=>Ls (un j) ((lpO (iy A s j).2).map λo=>K o.1)
def sl:Sh:= .leaf
def sq(a b:Sh):Sh:= .seq none a b
def sj(l:List Nat)(a b:Sh):Sh:= .seq (some (l.map key)) a b
def sc(a b:Sh):Sh:= .cond a b
def sb(a:Sh):Sh:= .block a
def sp(j:Nat)(ins:List Nat)(outs:List (Nat×List Nat))(a:Sh):Sh:= .loop j (ins.map key) (outs.map λo=>(o.1,o.2.map key)) a
section
variable{R : Type}(l r : Fr)(v u : AV)(x : Option AV)(p : Pos)(fr : Fr)(k : AV -> Option R)(K : Fr -> Option R)(kp : Pos -> Option R)
theorem WU:B5 .h (.n l (some v) r) k=k v:=rfl
theorem WV:B5 (.o p) (.n l x r) k=B5 p l k:=rfl
theorem WW:B5 (.i p) (.n l x r) k=B5 p r k:=rfl
theorem Qq:DA .h v .e K=K (.n .e (some v) .e):=rfl
theorem Qr:DA .h v (.n l x r) K=K (.n l (some v) r):=rfl
theorem Qt:DA (.o p) v .e K=DA p v .e λt=>K (.n t none .e):=rfl
theorem Qu:DA (.o p) v (.n l x r) K=DA p v l λt=>K (.n t x r):=rfl
theorem Qv:DA (.i p) v .e K=DA p v .e λt=>K (.n .e none t):=rfl
theorem Qw:DA (.i p) v (.n l x r) K=DA p v r λt=>K (.n l x t):=rfl
theorem WY:DB none v fr K=K fr:=rfl
theorem WZ:DB (some p) v fr K=DA p v fr K:=rfl
theorem Qx:acp .h kp=kp (.o .h):=rfl
theorem Qy:acp (.o p) kp=kp (.i p):=rfl
theorem Qz:acp (.i p) kp=acp p λq=>kp (.o q):=rfl
theorem QC(f:KK R)(k:List (KK R)->Option R):age [] f k=k [f]:=rfl
theorem QD(a:KK R)(as:List (KK R))(f:KK R)(k:List (KK R)->Option R):age (a::as) f k=age as f λl=>k (a::l):=rfl
theorem acq(st:St):pkR [] st=some (.tuple [],st):=rfl
theorem acs(st:St):pkR [v] st=some (v,st):=rfl
theorem acu(vs:List AV)(st:St):pkR (v::u::vs) st=some (.tuple (v::u::vs),st):=rfl
theorem GW(c:au)(F:Nat)(Ls:Un->List Q2->Nat->Q2)(ag:Q2)(ko:List Q2)(l:List Pos)(t:Tx)(vs:List AV)(st:St):dL c F Ls ag ko (l,t) vs st=GV l vs .e λfr=>ev c F Ls ag ko t [] [] fr st [] .e:=rfl
end
def Al{α:Type}:Option α->Bool
 |none=>true
 |some _=>false
theorem atL{α:Type}{o:Option α}(h:Al o=true):o=none:=by cases o with|none=>rfl|some _=>cases h
theorem atM{α:Type}[Inhabited α]{o:Option α}(h:Al o=false):o=some (o.getD default):=by cases o with|none=>cases h|some _=>rfl
def yj(G:T dO)(f:Nat):dO:=(G.get (key f)).getD default
theorem anm{O:eV}{G:T dO}{F:Nat}{L:Env (AV×St)}{f:FuncId}{s:Sh}{args:List AV}{st:St}{r:AV×St}(hk:(Al (O f)&& !Al (G.get (key f)))=true)
  (hL:∀x∈fQ (yj G f).code s,Dt (run O G) F L x.1 x.2) {k:O2} (hd:II (run O G) F L (yj G f) s args st=k) (h:k=some r):run O G f args st=some (tidy st r):=by
 simp only[Zb6,Zk2]at hk;exact apz (atL hk.1) (atM hk.2) hL (hd.trans h)
theorem ake{O:eV}{G:T dO}{F:Nat}{f:FuncId}{args:List AV}{st:St}{r:AV×St}(s:Sh)(hk:(Al (O f)&& !Al (G.get (key f))&&(fQ (yj G f).code s).isEmpty)=true)
  {k:O2} (hd:II (run O G) F (agb []) (yj G f) s args st=k) (h:k=some r):run O G f args st=some (tidy st r):=by
 rw[Zb6,List.isEmpty_iff]at hk;exact anm hk.1 (by rw[hk.2];intro x hx;cases hx) hd h
theorem adL{O:eV}{G:T dO}{F:Nat}{f:FuncId}{args:List AV}{st:St}{r:AV×St}(Ls:Un->List Q2->Nat->Q2)(s:Sh)(n:Nat)(hk:(Al (O f)&& !Al (G.get (key f))&&Nat.beq (fQ (yj G f).code s).length n)=true)
  (hL:∀i,i<n->Dt (run O G) F (tT Ls (yj G f) s) (iy (yj G f) s i).1 (iy (yj G f) s i).2) {k:O2} (hd:II (run O G) F (tT Ls (yj G f) s) (yj G f) s args st=k) (h:k=some r):run O G f args st=some (tidy st r):=by
 rw[Zb6]at hk;exact anm hk.1 (apA n hk.2 hL) hd h
theorem akf {O:eV} {G:T dO}  {F:Nat}{f:FuncId}{args:List AV}{st:St}{r:AV×St}(Ls:Un->List Q2->Nat->Q2)(s:Sh)(hk:(Al (O f)&& !Al (G.get (key f))&&Nat.beq (fQ (yj G f).code s).length 1)=true)
  (hs:(adC (iy (yj G f) s 0).2&&Nat.beq (lpJ (iy (yj G f) s 0).2) 0)=true) (h0:∀K' vs st,tT Ls (yj G f) s 0 K' 0 vs st=none)
  (h1:∀K' n vs st,tT Ls (yj G f) s 0 K' (n+1) vs st=Qm (den (run O G) F (tT Ls (yj G f) s) (iy (yj G f) s 0).1 (lpB (iy (yj G f) s 0).2)) (lpI (iy (yj G f) s 0).2) (lpO (iy (yj G f) s 0).2) K' (tT Ls (yj G f) s 0 K' n) vs st)
  {k:O2} (hd:II (run O G) F (tT Ls (yj G f) s) (yj G f) s args st=k) (h:k=some r):run O G f args st=some (tidy st r):=
 adL Ls s 1 hk (fun i hi=>by obtain rfl:i=0:=by omega
                             exact cC 0 hs h0 h1) hd h
end
section
open Go
theorem yX{R:Type}{Q:Option R->Prop}(P:(List AV->St->Option R)->Prop){A:(List AV->St->Option R)->Option R}{T:List AV->St->Option R}(hT:P T)(hA:∀j,P j->Q (A j)):Q (dz A T):=hA T hT
theorem Lm{m:Nat}(h1:1<=m)(h2:m<=18):m=1\/m=2\/m=3\/m=4\/m=5\/m=6\/m=7\/m=8\/m=9\/m=10\/m=11\/m=12\/m=13\/m=14\/m=15\/m=16\/m=17\/m=18:=by omega
end
section
def cnt(n:Nat)(P:Nat->Bool):Nat:=match n with
 |0=>0
 |n+1=>cnt n P+if P n then 1 else 0
def dh(n:Nat)(f:Nat->Nat):Nat:=match n with
 |0=>0
 |n+1=>dh n f+f n
theorem aa4:∀{n:Nat}{P Q:Nat->Bool},(∀i,i<n->P i=true->Q i=true)->cnt n P<=cnt n Q
 |0,_,_,_=>Za3 _
 |n+1,P,Q,h=>by
  have ih:=aa4 (n:=n) (P:=P) (Q:=Q) λi hi=>h i (by omega)
  have:=h n (by omega);unfold cnt;cases hp:P n<;>cases hq:Q n<;>simp_all<;>omega
theorem W4:∀{n:Nat}{f g:Nat->Nat},(∀i,i<n->f i<=g i)->dh n f<=dh n g
 |0,_,_,_=>Za3 _
 |n+1,f,g,h=>by
  have ih:=W4 (n:=n) (f:=f) (g:=g) λi hi=>h i (by omega)
  have:=h n (by omega);unfold dh;omega
theorem aht:∀(n:Nat)(f g:Nat->Nat),dh n (λi=>f i+g i)=dh n f+dh n g
 |0,_,_=>rfl
 |n+1,f,g=>by unfold dh;rw[aht n f g];omega
theorem fG{n:Nat}{f g:Nat->Nat}(h:∀i,i<n->f i=g i):dh n f=dh n g:=
 Nat.le_antisymm (W4 λi hi=>Nat.le_of_eq (h i hi)) (W4 λi hi=>Nat.le_of_eq (h i hi).symm)
theorem N9{n:Nat}{P Q:Nat->Bool}(h:∀i,i<n->P i=Q i):cnt n P=cnt n Q:=
 Nat.le_antisymm (aa4 λi hi e=>by rw[<-h i hi];exact e) (aa4 λi hi e=>by rw[h i hi];exact e)
theorem apQ{n:Nat}{P:Nat->Bool}(h:∀i,i<n->P i=false):cnt n P=0:=by
 induction n with
 |zero=>rfl
 |succ n ih=>unfold cnt;rw[ih λi hi=>h i (by omega),h n (by omega)];rfl
theorem atN(n:Nat)(P:Nat->Bool):cnt n P<=n:=by
 induction n with
 |zero=>exact Za3 _
 |succ n ih=>unfold cnt;split<;>omega
theorem aeV:∀(n:Nat)(P Q:Nat->Bool),cnt n P=cnt n (λi=>P i&&Q i)+cnt n (λi=>P i&& !Q i)
 |0,_,_=>rfl
 |n+1,P,Q=>by unfold cnt;rw[aeV n P Q];cases P n<;>cases Q n<;>simp<;>omega
def on(q:Nat->Int)(g:Nat):Bool:=decide (0<=q g)
inductive RM where
 |two (a b:Nat) (P:Int->Int->Bool)
 |one (a:Nat) (P:Int->Bool)
 |Fk (P:Nat->Nat->Int->Int->Bool)
 |qj (P:Nat->Int->Bool)
 |spk (f:(Nat->Int)->Nat)
 |gJ (A:Nat->Bool)
 |fil (A:Nat->Bool) (m:Nat)
 |uq (A:Nat->Bool) (m:Nat)
structure JT where
 n:Nat
 T:Nat
 tab:Int->Nat
 host:Nat->Bool
section
variable(J : JT)(q : Nat -> Int)
def JT.at(t:Nat)(g:Nat):Bool:=on q g&&J.tab (q g)==t
def JT.gW:RM->Nat
 | .two a b P=>if on q a&&on q b&&P (q a) (q b)then 1 else 0
 | .one a P=>if on q a&&P (q a)then 1 else 0
 | .Fk P=>dh J.n λa=>cnt J.n λb=>decide (a<b)&&on q a&&on q b&&P a b (q a) (q b)
 | .qj P=>cnt J.n λg=>on q g&&P g (q g)
 | .spk f=>f q
 | .gJ A=>dh J.T λt=>if A t&&decide (0<cnt J.n (J.at q t))&&decide (cnt J.n (λg=>J.at q t g&&J.host g)=0)then 1 else 0
 | .fil A m=>dh J.T λt=>if A t then m - cnt J.n (J.at q t)else 0
 | .uq A m=>dh J.T λt=>if A t then cnt J.n (J.at q t) - m else 0
def JT.left:Nat:=cnt J.n λg=> !on q g
def JT.auV:Nat:=cnt J.n λg=> !on q g&&J.host g
def JT.least:RM->Nat
 | .spk f=>if 0<J.left q then 0 else f q
 | .gJ A=>J.gW q (.gJ A) - J.auV q
 | .fil A m=>J.gW q (.fil A m) - J.left q
 |r=>J.gW q r
end
section
variable{J : JT}{q p : Nat -> Int}
theorem least_le(r:RM):J.least q r<=J.gW q r:=by
 cases r with
 |spk f=>
  show(if 0<J.left q then 0 else f q)<=f q;split
  . exact Zi8 _
  . exact Za3 _
 |gJ A=>exact Nat.sub_le _ _
 |fil A m=>exact Nat.sub_le _ _
 |_=>exact Za3 _
end
theorem afu (n:Nat)(P:Nat->Bool)(t:Nat->Nat)(T:Nat)(ht:∀i,i<n->P i=true->t i<T):dh T (λk=>cnt n λi=>P i&&t i==k)=cnt n P:=by
 have h: ∀T  ,dh T (λk=>cnt n λi=>P i&&t i==k)=cnt n λi=>P i&&decide (t i<T):=λT=>by
  induction T with
  |zero=>    rw[apQ];· rfl
             . intro i _;simp
  |succ T ih=>
   unfold dh;rw[ih,aeV n (λi=>P i&&decide (t i<T+1)) (λi=>decide (t i<T))];congr 1
   .    (refine N9 λi _=> ?_);cases P i<;>simp<;>omega
   .    (refine N9 λi _=> ?_);cases P i
        . simp
        . rcases Nat.lt_trichotomy (t i) T with h|h|h
          . simp[h];omega
          . simp[h]
          . have h1:¬t i<T+1:=(by omega);have h2:t i≠T:=(by omega);simp[h1,h2]
 rw[h T];refine N9 λi hi=> ?_
 cases e:P i with
 |false=>rfl
 |true=>simp[ht i hi e]
theorem aeW(f:Nat->Nat->Nat):∀(m n:Nat),dh m (λi=>dh n λj=>f i j)=dh n λj=>dh m λi=>f i j
 |0,n=>by
  have:∀n,dh n (λ_=>0)=0:=λn=>by induction n with|zero=>rfl|succ n ih=>unfold dh;omega
  exact(this n).symm
 |m+1,n=>by
  show dh m _+dh n (λj=>f m j)=dh n λj=>dh m (λi=>f i j)+f m j
  rw[aht,aeW f m n]
theorem apR{T t:Nat}(ht:t<T)(f:Nat->Nat):dh T (λk=>if k==t then f k else 0)=f t:=by
 induction T with
 |zero=>omega
 |succ T ih=>
  unfold dh;by_cases e:T=t
  . subst e;have:dh T (λk=>if k==T then f k else 0)=0:=by
        have:∀m,m<=T->dh m (λk=>if k==T then f k else 0)=0:=λm=>by
         induction m with
         |zero=>intro _;rfl
         |succ m ZP=>intro hm;unfold dh;rw[ZP (by omega),Za7 (by simp;omega)]
        exact this T (Za3 _)
    rw[this];simp
  . rw[ih (by omega),Za7 (by simpa using e)];rfl
theorem W6{T:Nat}{A:Nat->Nat->Bool}(hA:∀k t,k<T->t<T->A k t=(t==k))(f:Nat->Nat):dh T (λk=>dh T λt=>if A k t then f t else 0)=dh T f:=
 fG λk hk=>by
  rw[<-apR hk f];exact fG λt ht=>by rw[hA k t hk ht]
section
variable{J : JT}{q : Nat -> Int}{A : Nat -> Nat -> Bool}{A0 : Nat -> Bool}
theorem asf(hA:∀k t,k<J.T->t<J.T->A k t=(t==k))(h0:∀t,t<J.T->A0 t=true):dh J.T (λk=>J.gW q (.gJ (A k)))=J.gW q (.gJ A0):=by
 have e:∀B:Nat->Bool,J.gW q (.gJ B)=dh J.T λt=>if B t then(if decide (0<cnt J.n (J.at q t))&&decide (cnt J.n (λg=>J.at q t g&&J.host g)=0)then 1 else 0)else 0:=λB=>
  fG λt _=>by cases B t<;>simp
 rw[fG λk _=>e (A k),W6 hA,e A0];exact fG λt ht=>by rw[h0 t ht];rfl
theorem asg(m:Nat)(hA:∀k t,k<J.T->t<J.T->A k t=(t==k))(h0:∀t,t<J.T->A0 t=true):dh J.T (λk=>J.gW q (.fil (A k) m))=J.gW q (.fil A0 m):=by
 have e:∀B:Nat->Bool,J.gW q (.fil B m)=dh J.T λt=>if B t then m - cnt J.n (J.at q t)else 0:=λB=>rfl
 rw[fG λk _=>e (A k),W6 hA,e A0];exact fG λt ht=>by rw[h0 t ht];rfl
theorem ash(m:Nat)(hA:∀k t,k<J.T->t<J.T->A k t=(t==k))(h0:∀t,t<J.T->A0 t=true):dh J.T (λk=>J.gW q (.uq (A k) m))=J.gW q (.uq A0 m):=by
 have e:∀B:Nat->Bool,J.gW q (.uq B m)=dh J.T λt=>if B t then cnt J.n (J.at q t) - m else 0:=λB=>rfl
 rw[fG λk _=>e (A k),W6 hA,e A0];exact fG λt ht=>by rw[h0 t ht];rfl
theorem akg(n:Nat){P:Nat->Nat->Bool}{P0:Nat->Bool}(T:Nat){t:Nat->Nat}(hP:∀k i,k<T->i<n->P k i=(P0 i&&t i==k))(ht:∀i,i<n->P0 i=true->t i<T):dh T (λk=>cnt n (P k))=cnt n P0:=by rw[<-afu n P0 t T ht];exact fG λk hk=>N9 λi hi=>hP k i hk hi
theorem asi{P:Nat->Nat->Nat->Int->Int->Bool}{P0:Nat->Nat->Int->Int->Bool}(hP:∀k a b,k<J.T->on q a=true->P k a b (q a) (q b)=(P0 a b (q a) (q b)&&J.tab (q a)==k))(ht:∀a,a<J.n->on q a=true->J.tab (q a)<J.T):
   dh J.T (λk=>J.gW q (.Fk (P k)))=J.gW q (.Fk P0):=by
 have e:∀B,J.gW q (.Fk B)=dh J.n λa=>cnt J.n λb=>decide (a<b)&&on q a&&on q b&&B a b (q a) (q b):=λB=>rfl
 rw[fG λk _=>e (P k),aeW,e P0];refine fG λa ha=>akg J.n J.T (t:=λ_=>J.tab (q a)) (λk b hk hb=> ?_) λb hb h=> ?_
 . cases h:on q a
   . simp
   . rw[hP k a b hk h];cases decide (a<b)<;>cases on q b<;>simp
 . refine ht a ha ?_;cases h2:on q a
   . rw[h2]at h;simp at h
   . rfl
theorem asj{P:Nat->Nat->Int->Bool}{P0:Nat->Int->Bool}(hP:∀k a,k<J.T->on q a=true->P k a (q a)=(P0 a (q a)&&J.tab (q a)==k))(ht:∀a,a<J.n->on q a=true->J.tab (q a)<J.T):
   dh J.T (λk=>cnt J.n λa=>on q a&&P k a (q a))=cnt J.n λa=>on q a&&P0 a (q a):=by
 refine akg J.n J.T (t:=λa=>J.tab (q a)) (λk a hk _=> ?_) λa ha h=> ?_
 . cases h:on q a
   . simp
   . rw[hP k a hk h];simp
 . refine ht a ha ?_;cases h2:on q a
   . rw[h2]at h;simp at h
   . rfl
end
def qK(tk:List Bool)(fr:Nat):Nat->Nat->Option Nat
 |0,_=>none
 |m+1,k=>if tk.getD ((fr+k) % tk.length) true=false then some ((fr+k) % tk.length)else qK tk fr m (k+1)
def qL(tk:List Bool)(fr:Nat):List Bool×Int:=match qK tk fr tk.length 0 with
 |some s=>(tk.set s true,(s:Int))
 |none=>(tk,-1)
theorem IK{tk:List Bool}{fr s:Nat}:∀{m k:Nat},qK tk fr m k=some s->tk[s]? =some false
 |0,_,h=>by cases h
 |m +1,k,h=>by
  unfold qK at h;split at h
  . rename_i e;cases h;cases e2:tk[(fr+k) % tk.length]? with
    |none=>rw[Zb5,e2]at e;simp at e
    |some b=>rw[Zb5,e2]at e;simp at e;rw[e]
  . exact IK h
theorem Ur{tk:List Bool}{fr:Nat}:∀{m k:Nat},qK tk fr m k=none->∀j,k<=j->j<k+m->tk.getD ((fr+j) % tk.length) true=true
 |0,_,_,j,h1,h2=>by omega
 |m +1,k,h,j,h1,h2=>by
  unfold qK at h;split at h
  . cases h
  . rename_i e;by_cases e2:j=k
    . subst e2;simpa using e
    . exact Ur h j (by omega) (by omega)
def acv(tk:List Bool):Nat:=(tk.filter λb=> !b).length
theorem aeX:∀{tk:List Bool},0<acv tk->∃s:Nat,tk[s]? =some false
 |[],h=>by simp[acv]at h
 |false::tk,_=>⟨0,rfl⟩
 |true::tk,h=>by
  obtain⟨s,hs⟩:=aeX (tk:=tk) (by simpa [acv]using h);exact⟨s+1,by simpa using hs⟩
theorem B6(tk:List Bool)(fr:Nat):((qL tk fr).2= -1/\(qL tk fr).1=tk/\acv tk=0)\/∃s:Nat,qL tk fr=(tk.set s true,(s:Int))/\tk[s]? =some false:=by
 unfold qL;cases e:qK tk fr tk.length 0 with
 |some s=>exact .inr ⟨s,rfl,IK e⟩
 |none=>
  refine .inl ⟨rfl,rfl,?_⟩;rcases Zm8 (acv tk)with h|h
  . exact h
  . exfalso;obtain⟨s,hs⟩:=aeX h;have hl:s<tk.length:=(Za1.1 hs).1;have key:=Ur e ((s+tk.length - fr % tk.length) % tk.length) (Zi8 _) (by rw[Zc3];exact Zl8 _ (by omega));have hm:fr % tk.length<tk.length:=Zl8 _ (by omega);have:(fr+(s+tk.length - fr % tk.length) % tk.length) % tk.length=s:=by
        rw[Nat.add_mod,Nat.mod_mod];rcases Zi4 (s+tk.length - fr % tk.length) tk.length with h1|h1
        . rw[Zk4 h1];rw[show fr % tk.length+(s+tk.length - fr % tk.length)=s+tk.length by omega,Nat.add_mod_right,Zk4 hl]
        . rw[Zp4 h1,Zk4 (by omega:s+tk.length - fr % tk.length - tk.length<tk.length)];rw[show fr % tk.length+(s+tk.length - fr % tk.length - tk.length)=s by omega,Zk4 hl]
    rw[this,Zb5,hs]at key;simp at key
inductive Ch where
 |no
 |W7 (s:Nat)
 |fr (f:Nat)
def iC(tk:List Bool):List Ch->List Int
 |[]=>[]
 | .no::l=> -1::iC tk l
 | .W7 s::l=>(s:Int)::iC tk l
 | .fr f::l=>(qL tk f).2::iC (qL tk f).1 l
theorem SE:∀(l:List Ch)(tk:List Bool),(iC tk l).length=l.length
 |[],_=>rfl
 | .no::l,tk=>by simp[iC,SE l]
 | .W7 s::l,tk=>by simp[iC,SE l]
 | .fr f::l,tk=>by simp[iC,SE l]
theorem ann(tk:List Bool)(f:Nat):(qL tk f).1.length=tk.length:=by rcases B6 tk f with⟨_,h,_⟩|⟨s,h,_⟩<;>rw[h]<;>simp
def Sat(tk:List Bool)(l:List Ch):Prop:=(∀s,Ch.W7 s∈l->tk[s]? =some true)/\∀(i j s:Nat),l[i]? =some (.W7 s)->l[j]? =some (.W7 s)->i=j
theorem Sat.tail{tk:List Bool}{c:Ch}{l:List Ch}(h:Sat tk (c::l)):Sat tk l:=
 ⟨λs hs=>h.1 s (Za9 _ hs),λi j s h1 h2=>by have:=h.2 (i+1) (j+1) s (by simpa using h1) (by simpa using h2);omega⟩
theorem Sat.place{tk:List Bool}{l:List Ch}(h:Sat tk l)(f:Nat):Sat (qL tk f).1 l:=by
 refine⟨λs hs=> ?_,h.2⟩;have:=h.1 s hs;rcases B6 tk f with⟨_,e,_⟩|⟨s',e,h'⟩<;>rw[e]
 . exact this
 . by_cases e2:s'=s
   . subst e2;rw[h']at this;cases this
   . rw[Zf0 e2];exact this
theorem CH:∀(l:List Ch)(tk:List Bool),Sat tk l->∀(i:Nat)(v:Int),(iC tk l)[i]? =some v->v= -1\/∃s:Nat,v=(s:Int)/\(tk[s]? =some false\/(tk[s]? =some true/\l[i]? =some (.W7 s)))
 |[],_,_,i,v,h=>by simp[iC]at h
 |c::l,tk,hs,0,v,h=>by
  cases c with
  |no=>simp[iC]at h;exact .inl h.symm
  |W7 s=>simp[iC]at h;exact .inr ⟨s,h.symm,.inr ⟨hs.1 s (Zd6),rfl⟩⟩
  |fr f=>
   simp[iC]at h;rcases B6 tk f with⟨e,_,_⟩|⟨s,e,h'⟩
   .    exact .inl (by rw[<-h,e])
   .    exact .inr ⟨s,by rw[<-h,e],.inl h'⟩
 |c::l    ,tk,hs,i+1,v,h=>by
  cases c with
  |no=>simpa using CH l tk hs.tail i v (by simpa [iC]using h)
  |W7 s=>simpa using CH l tk hs.tail i v (by simpa [iC]using h)
  |fr f=>
   have h:(iC (qL tk f).1 l)[i]? =some v:=(by simpa [iC]using h);rcases CH l _ (hs.tail.place f) i v h with e|⟨s,e,h'⟩
   .    exact .inl e
   .    refine .inr ⟨s,e,?_⟩;rcases B6 tk f with⟨_,e2,_⟩|⟨s',e2,h2⟩<;>rw[e2]at h'
        . simpa using h'
        . by_cases e3:s'=s
          . subst e3;exact .inl h2
          . rw[Zf0 e3]at h';simpa using h'
theorem KN:∀(l:List Ch)(tk:List Bool),Sat tk l->∀(i j:Nat)(v:Int),i<j->(iC tk l)[i]? =some v->(iC tk l)[j]? =some v->v= -1
 |[],_,_,i,j,v,_,h,_=>by simp[iC]at h
 |c::l    ,tk,hs,0,j+1,v,_,h1,h2=>by
  cases c with
  |no=>simp[iC]at h1;exact h1.symm
  |W7 s=>
   simp[iC]at h1;rcases CH l tk hs.tail j v (by simpa [iC]using h2)with e|⟨s',e,h'|h'⟩
   .    exact e
   .    have:=hs.1 s (Zd6);obtain rfl:s'=s:=(by omega);rw[this]at h';cases h'
   .    obtain rfl:s'=s:=(by omega);have:=hs.2 0 (j+1) s' rfl (by simpa using h'.2);omega
  |fr f=>
   simp[iC]at h1;have h2:(iC (qL tk f).1 l)[j]? =some v:=(by simpa [iC]using h2);rcases B6 tk f with⟨e,_,_⟩|⟨s,e,h'⟩
   .    rw[<-h1,e]
   .    rcases CH l _ (hs.tail.place f) j v h2 with e2|⟨s',e2,h3|h3⟩
        . exact e2
        . rw[e]at h1 h3;obtain rfl:s'=s:=(by simp at h1;omega);have hl:=(Za1.1 h').1;simp[Zg1 hl]at h3
        . rw[e]at h1;obtain rfl:s'=s:=(by simp at h1;omega);have:=hs.tail.1 s' (Zc0 h3.2);rw[h']at this;cases this
 |c::l,tk,hs,i+1,j+1,v,Uq,h1,h2=>by
  cases c with
  |no=>exact KN l tk hs.tail i j v (by omega) (by simpa [iC]using h1) (by simpa [iC]using h2)
  |W7 s=>exact KN l tk hs.tail i j v (by omega) (by simpa [iC]using h1) (by simpa [iC]using h2)
  |fr f=>exact KN l _ (hs.tail.place f) i j v (by omega) (by simpa [iC]using h1) (by simpa [iC]using h2)
def looks:List Ch->Nat
 |[]=>0
 | .fr _::l=>looks l+1
 |_::l=>looks l
end
section
open Go
section
variable{R : Type}{c : au}
theorem asl{v z:AV}{n N k:Nat}(hk:k<=n):cut (List.replicate n v++List.replicate N z) 0 k=some (List.replicate k v):=by
 unfold cut;rw[cU,Za0 (by simp;omega)];simp only[Zf3];rw[Zl2 (by simpa using hk),List.take_replicate,Zk8 hk]
theorem alm{v z:AV}{n m k:Nat}:aU (List.replicate n v++List.replicate m z) n (List.replicate k v)=List.replicate (n+k) v++List.replicate (m - k) z:=by unfold aU;rw[Zl2 (by simp),Zf9 (by simp)];rw[<-Zf2,List.replicate_append_replicate];congr 1;rw[List.drop_append];simp
theorem SG{v:AV}(hv:v.one=true):∀k,aM (List.replicate k v)=true
 |0=>rfl
 |k+1=>by rw[Zm4];unfold aM;rw[hv];exact SG hv k
theorem ahu{b:Pos}{v z:AV}{n m:Nat}{cp Jj:Option Nat}(hn:0<n)(hm:0<m)(hv:v.one=true){s:St}(h:s.heap.get b=some (.cells (List.replicate n v++List.replicate m z) 0))(K:AV->St->Option R):
  aq c (.copyB 1) [.slice b n m cp 1,.slice b 0 n Jj 1] s K=K (.int .i64 ((min n m:Nat):Int)) (aY s b (.cells (List.replicate (n+min n m) v++List.replicate (m - min n m) z) 0)):=by
 have e:aF.run (λb=>s.heap.get b) s.next (.copyB 1) [.slice b n m cp 1,.slice b 0 n Jj 1]=some (.bh (Lv (min n m)) none (some (b,.cells (List.replicate (n+min n m) v++List.replicate (m - min n m) z) 0)) none):=by
  show oX (λb=>s.heap.get b) s.next 1 [.slice b n m cp 1,.slice b 0 n Jj 1]=_;unfold oX;simp only[eJ];rw[cV,Za2 (by omega)];simp only;have hf:dy 1 (min n m) (λb=>s.heap.get b) (.slice b 0 n Jj 1)=some (List.replicate (min n m) v):=by
   unfold dy;rw[cV,Za2 (by omega)];simp only;rw[h];simp only[Zo7];exact asl (Nat.min_le_left _ _)
  rw[h,hf];simp only;rw[cU,Za0 (by simp;omega),cU,Za0 (Zi8 _),SG hv];simp only;rw[alm]
 unfold aq cG;rw[e];rfl
theorem aa5{n:Int}(h0:0<=n)(h1:n<4294967296)(s:St)(K:AV->St->Option R):aq c (.bin .and .num) [.int .u64 n,.int .u64 4294967295] s K=K (.int .u64 n) s:=by
 obtain⟨m,rfl⟩:=Int.eq_ofNat_of_zero_le h0;have hm:m<4294967296:=by omega
 have e:(IntKind.u64.wrap ((BitVec.ofInt IntKind.u64.bits (m:Int) &&& BitVec.ofInt IntKind.u64.bits 4294967295).toNat:Int))=(m:Int):=by
  have e1:(BitVec.ofInt 64 (m:Int) &&& BitVec.ofInt 64 4294967295).toNat=m:=by
   rw[BitVec.toNat_and];have a:(BitVec.ofInt 64 (m:Int)).toNat=m:=(by rw[BitVec.toNat_ofInt];omega);have b:(BitVec.ofInt 64 4294967295).toNat=2 ^ 32 - 1:=(by decide);rw[a,b,Nat.and_two_pow_sub_one_eq_mod,Zk4 (by omega)]
  show IntKind.u64.wrap (((BitVec.ofInt 64 (m:Int) &&& BitVec.ofInt 64 4294967295).toNat:Nat):Int)=_;rw[e1];simp only[IntKind.wrap,show IntKind.u64.bits=64 from rfl];have hs:IntKind.u64.signed=false:=rfl;simp only[hs,Bool.false_and,Zf4,Zh0];omega
 refine aR c K (λH n=> ?_) s;show(oW .and .num (.int .u64 (m:Int)) (.int .u64 4294967295)).map eI.val=_;unfold oW;simp only[dw];rw[e];rfl
end
theorem apS{R:Type}(K:AV->Option R){b:Pos}{off len es es':Nat}{cap:Option Nat}{k:IntKind}{i:Nat}(h:i<len):fD (.idxA es none) [.slice b off len cap es',.int k (i:Int)] K=K (.ptr b (off+i*es)):=
 dB K (λH n=>by
  simp only[aF.run,sH,jz];have:Nat.blt i len=true:=by rw[Zq4];exact h
  rw[this])
end
section
abbrev Ev:=Nat×List Int
def pG(l:List Ev):Nat:=(l.map λe=>e.1).sum
def fH(l:List Ev):Nat:=(l.map λe=>e.1+e.2.length).sum
theorem adM(l m:List Ev):pG (l++m)=pG l+pG m:=by unfold pG;rw[Zc8,Zr0]
theorem Ln(l m:List Ev):fH (l++m)=fH l+fH m:=by unfold fH;rw[Zc8,Zr0]
theorem asm(k:Nat)(w:List Int):pG [(k,w)]=k:=rfl
def cw(f:Nat->List Ev):Nat->Nat->List Ev
 |0,_=>[]
 |m+1,k=>f k++cw f m (k+1)
theorem acw(f:Nat->List Ev):∀m k,cw f (m+1) k=cw f m k++f (k+m)
 |0,k=>by simp[cw]
 |m+1,k=>by
  have:=acw f m (k+1);rw[cw,this,cw,Zf2,show k+1+m=k+(m+1)by omega]
theorem Gf(f:Nat->List Ev):∀n,pG (cw f n 0)=dh n λi=>pG (f i)
 |0=>rfl
 |n+1=>by rw[acw,adM,Gf f n,Zc3];rfl
theorem A9{f:Nat->List Ev}{B:Nat}(h:∀k,fH (f k)<=B):∀m k,fH (cw f m k)<=m*B
 |0,_=>by simp[cw,fH]
 |m+1,k=>by have:=A9 h m (k+1);have:=h k;rw[cw,Ln,Zh1];omega
theorem akh(n:Nat)(P:Nat->Bool):(dh n λi=>if P i then 1 else 0)=cnt n P:=by
 induction n with
 |zero=>rfl
 |succ n ih=>unfold dh cnt;rw[ih]
def JT.who(J:JT)(q:Nat->Int)(t:Nat):List Int:=((List.range J.n).filter (J.at q t)).map λ(g:Nat)=>(g:Int)
theorem ahv(n:Nat)(P:Nat->Bool):cnt (n+1) P=cnt n P+if P n then 1 else 0:=rfl
theorem W9(P:Nat->Bool):∀n,((List.range n).filter P).length=cnt n P
 |0=>rfl
 |n+1=>by
  rw[Zf8,Zk5,Ze6,W9 P n,ahv];cases e:P n<;>simp[e]
theorem JT.adN(J:JT)(q:Nat->Int)(t:Nat):(J.who q t).length=cnt J.n (J.at q t):=by unfold JT.who;rw[Za5,W9]
theorem asn(P Q:Nat->Bool)(n:Nat):((List.range n).filter P).any Q=decide (0<cnt n λg=>P g&&Q g):=by
 induction n with
 |zero=>rfl
 |succ n ih=>
  rw[Zf8,Zk5,List.any_append,ih,ahv];cases e:P n<;>cases e2:Q n<;>simp[e,e2]
section
variable(J : JT)(q : Nat -> Int)
def yY(b:Bool)(k:Nat)(w:List Int):List Ev:=if b then [(k,w)]else []
theorem LV(b:Bool)(k:Nat)(w:List Int):pG (yY b k w)=if b then k else 0:=by unfold yY;split<;>rfl
theorem Hu(b:Bool)(k:Nat)(w:List Int):fH (yY b k w)<=k+w.length:=by unfold yY;split<;>simp[fH]
def vG(P:Nat->Nat->Int->Int->Bool)(a b:Nat):List Ev:=yY (on q a&&on q b&&P a b (q a) (q b)) 1 [(a:Int),(b:Int)]
def DE(a b:Nat)(P:Int->Int->Bool):List Ev:=yY (on q a&&on q b&&P (q a) (q b)) 1 [(a:Int),(b:Int)]
def Xa(a:Nat)(P:Int->Bool):List Ev:=yY (on q a&&P (q a)) 1 [(a:Int)]
def AH(n:Nat)(P:Nat->Nat->Int->Int->Bool):List Ev:=cw (λa=>cw (vG q P a) (n - (a+1)) (a+1)) n 0
def OU(n:Nat)(P:Nat->Int->Bool):List Ev:=cw (λg=>yY (on q g&&P g (q g)) 1 [(g:Int)]) n 0
def aa6(T:Nat)(A:Nat->Bool)(D:List Int->List Ev):List Ev:=cw (λt=>if A t then D (J.who q t)else []) T 0
def SH(host:Nat->Bool)(l:List Int):List Ev:=yY (!(l.any λg=>host g.toNat)&&decide (0<l.length)) 1 l
def SJ(m:Nat)(l:List Int):List Ev:=yY (decide (l.length<m)) (m - l.length) l
def SK(m:Nat)(l:List Int):List Ev:=yY (decide (m<l.length)) (l.length - m) l
end
section
variable{J : JT}{q : Nat -> Int}
theorem QE(a b:Nat)(P:Int->Int->Bool):pG (DE q a b P)=J.gW q (.two a b P):=LV _ _ _
theorem ahw(a:Nat)(P:Int->Bool):pG (Xa q a P)=J.gW q (.one a P):=LV _ _ _
theorem aeY(f:Nat->List Ev):∀m k,pG (cw f m k)+dh k (λi=>pG (f i))=dh (k+m) λi=>pG (f i)
 |0,k=>by simp[cw,pG]
 |m+1,k=>by
  have:=aeY f m (k+1);rw[cw,adM];rw[show k+(m+1)=k+1+m by omega, <-this];show _=_+(dh k _+pG (f k))
  omega
theorem QF(P:Nat->Nat->Int->Int->Bool):pG (AH q J.n P)=J.gW q (.Fk P):=by
 unfold AH;rw[Gf];refine fG λa ha=> ?_
 have h1:=aeY (λb=>if a<b then vG q P a b else []) (J.n - (a+1)) (a+1);have h2:dh (a+1) (λi=>pG (if a<i then vG q P a i else []))=0:=by
   have:∀m,m<=a+1->dh m (λi=>pG (if a<i then vG q P a i else []))=0:=λm=>by
    induction m with
    |zero=>intro _;rfl
    |succ m ih=>intro hm;unfold dh;rw[ih (by omega),Za7 (by omega)];rfl
   exact this _ (Za3 _)
 have h3:∀m k,a<k->cw (λb=>if a<b then vG q P a b else []) m k=cw (vG q P a) m k:=λm=>by
   induction m with
   |zero=>intro k _;rfl
   |succ m ih=>intro k hk;rw[cw,cw,Zb3 hk,ih (k+1) (by omega)]
 rw[h3 _ _ (by omega),h2,Zg0,show a+1+(J.n - (a+1))=J.n by omega]at h1;rw[h1, <-akh];refine fG λb _=> ?_
 unfold vG;by_cases h:a<b
 . rw[Zb3 h,LV,Za0 h,Zf6]
 . rw[Za7 h,Za2 h];rfl
theorem adO(P:Nat->Int->Bool):pG (OU q J.n P)=J.gW q (.qj P):=by unfold OU;rw[Gf];show _=cnt J.n _;rw[<-akh];exact fG λg _=>LV _ _ _
theorem aso(A:Nat->Bool):pG (aa6 J q J.T A (SH J.host))=J.gW q (.gJ A):=by
 unfold aa6;rw[Gf];refine fG λt _=> ?_
 cases hA:A t with
 |false=>simp[pG]
 |true=>
  simp only[Zh7,Zf6];unfold SH;rw[LV,J.adN];have:(J.who q t).any (λg=>J.host g.toNat)=decide (0<cnt J.n λg=>J.at q t g&&J.host g):=by unfold JT.who;rw[List.any_map];exact asn _ _ _
  rw[this];by_cases h:0<cnt J.n λg=>J.at q t g&&J.host g
  . rw[Za0 h,Za2 (show ¬cnt J.n (λg=>J.at q t g&&J.host g)=0 by omega)];simp
  . rw[Za2 h,Za0 (show cnt J.n (λg=>J.at q t g&&J.host g)=0 by omega)];simp
theorem asq(A:Nat->Bool)(m:Nat):pG (aa6 J q J.T A (SJ m))=J.gW q (.fil A m):=by
 unfold aa6;rw[Gf];refine fG λt _=> ?_
 cases hA:A t with
 |false=>simp[pG]
 |true=>
  simp only[Zh7];unfold SJ;rw[LV,J.adN];simp only[Ze7];split<;>omega
theorem asr(A:Nat->Bool)(m:Nat):pG (aa6 J q J.T A (SK m))=J.gW q (.uq A m):=by
 unfold aa6;rw[Gf];refine fG λt _=> ?_
 cases hA:A t with
 |false=>simp[pG]
 |true=>
  simp only[Zh7];unfold SK;rw[LV,J.adN];simp only[Ze7];split<;>omega
end
theorem aki(q:Nat->Int)(C:Int->Bool)(P:Nat->Nat->Int->Int->Bool)(a:Nat):∀m k,cw (vG q (λa b x y=>C x&&P a b x y) a) m k=if on q a&&C (q a)then cw (vG q P a) m k else []
 |0,k=>by simp[cw]
 |m+1,k=>by
  rw[cw,aki q C P a m (k+1),cw];unfold vG;cases e1:on q a<;>cases e2:C (q a)<;>simp[yY,e1,e2]
theorem rj(k:Nat)(w:List Int):yY true k w=[(k,w)]:=rfl
theorem eu(k:Nat)(w:List Int):yY false k w=[]:=rfl
def BN(tab:Nat->Nat)(t:Nat):Nat->Nat
 |0=>0
 |i+1=>if tab i=t then BN tab t i else i+1
end
section
open Go
structure Rd(s:St)(es:Nat)(L:AV)(i:Nat)(b:Pos)(o:Nat)(r:List AV):Prop where
 st:∀{R:Type}(c:au)(K:AV->St->Option R)(k:IntKind)(s1:St),aq c (.idxA es none) [L,.int k (i:Int)] s1 K=K (.ptr b o) s1
 pr:∀{R:Type}(K:AV->Option R)(k:IntKind),fD (.idxA es none) [L,.int k (i:Int)] K=K (.ptr b o)
 at':∀(j:Nat)(u:AV),r[j]? =some u->((cellsOf (s.heap.get b)).bind λcs=>cs[o+j]?)=some u
 all:((cellsOf (s.heap.get b)).bind λcs=>cut cs o es)=some r
theorem QS.rd{s:St}{es:Nat}{v:AV}{rows:List (List AV)}(h:QS es s v rows)(hr:∀r∈rows,r.length=es){i:Nat}{r:List AV}(hi:rows[i]? =some r):∃b o,Rd s es v i b o r:=by
 obtain⟨iH,rfl⟩:=Za1.1 hi;have hlen:=hr _ (Zc2 iH);rcases h with⟨rfl,h⟩|⟨b,off,cap,cs,rfl,g1,g2,g3,g4⟩|⟨b,off,rfl,h⟩
 . rw[h]at iH;simp at iH
 rotate_left
 . rw[h]at iH;simp at iH
 have hmul:(i+1)*es<=rows.length*es:=Zg8 _ iH;rw[Zh1]at hmul;have at0:∀(j:Nat)(u:AV),rows[i][j]? =some u->cs[off+i*es+j]? =some u:=λj u hj=>by have hj2:j<es:=(by rw[<-hlen];exact(Za1.1 hj).1);have:=Go.Ai.yV hr i j rows[i] u (H0 iH) hj;rw[<-g3,Zd5,Zb3 (by omega),Ze5]at this;rw[<-this];congr 1;omega
 refine⟨b,off+i*es,λc K k s1=>iV c K s1 iH,λK k=>apS K iH,λj u hj=>by rw[g1];exact at0 j u hj,?_⟩;rw[g1];show cut cs (off+i*es) es=some rows[i];unfold cut;rw[cU,Za0 (by omega)];refine congrArg some ?_;apply Zi7;intro j;by_cases hj:j<es
 . rw[Zd5,Zb3 hj,Ze5];exact(at0 j (rows[i]'iH)[j] (H0 (by omega))).trans (H0 (by omega)).symm
 . rw[Zc4 (by simp;omega),Zc4 (by omega)]
theorem Rd.one{s:St}{L x:AV}{i:Nat}{b:Pos}{o:Nat}(h:Rd s 1 L i b o [x]):((cellsOf (s.heap.get b)).bind λcs=>cs[o]?)=some x:=h.at' 0 x rfl
theorem QS.Jk{s:St}{v:AV}{l:List AV}(h:QS 1 s v (l.map nX)){i:Nat}{x:AV}(hx:l[i]? =some x):∃b o,Rd s 1 v i b o [x]:=
 h.rd (ahk l) (by rw[Zb4,hx];rfl)
def RQ(s:St)(L:AV)(rows:List (List AV)):Prop:=∃ws:List AV,QS 1 s L (ws.map nX)/\ws.length=rows.length/\∀(i:Nat)(w:AV)(r:List AV),ws[i]? =some w->rows[i]? =some r->QS 1 s w (r.map nX)
theorem RQ.rd{s:St}{L:AV}{rows:List (List AV)}(h:RQ s L rows){i:Nat}{r:List AV}(hr:rows[i]? =some r):∃w b o,Rd s 1 L i b o [w]/\QS 1 s w (r.map nX):=by
 obtain⟨ws,h1,h2,h3⟩:=h;have hi:i<ws.length:=by rw[h2];exact(Za1.1 hr).1
 obtain⟨b,o,h4⟩:=h1.Jk (H0 hi);exact⟨ws[i],b,o,h4,h3 i _ r (H0 hi) hr⟩
theorem RQ.ai{s s':St}{L:AV}{rows:List (List AV)}(h:RQ s L rows)(g:Grew s s'):RQ s' L rows:=by
 obtain⟨ws,h1,h2,h3⟩:=h;exact⟨ws,h1.mono λb x _ hx=>g.get hx,h2,λi w r a b=>(h3 i w r a b).mono λb x _ hx=>g.get hx⟩
theorem QS.ai{es:Nat}{s s':St}{v:AV}{rows:List (List AV)}(h:QS es s v rows)(g:Grew s s'):QS es s' v rows:=h.mono λb x _ hx=>g.get hx
section
variable{c : au}{R : Type}
theorem YX{x:Int}(h1:0<=x)(h2:x<=18446744073709551615):ax .u64 x=x:=by
 unfold ax loI hiI;simp only;split
 . split
   . rfl
   . contradiction
 . contradiction
theorem aa7{a:Int}(h0:0<=a)(h1:a<4294967296)(s:St)(K:AV->St->Option R):aq c (.bin .shr .num) [.int .u64 a,.int .u64 32] s K=K (.int .u64 0) s:=aR c K (λH n=>by
 have e0:BJ (32:Int) 0=false:=by rw[fj];rfl
 have e1:min (32:Int).toNat (IntKind.bits .u64)=32:=rfl;simp only[aF.run,jv,oW,e0,e1];rw[Zm2 _ (by decide)];rw[show(2:Int) ^ 32=4294967296 from rfl,Int.ediv_eq_zero_of_lt h0 h1]
 ) s
theorem ajh{v z:AV}{m k:Nat}:aU (List.replicate m z) 0 (List.replicate k v)=List.replicate k v++List.replicate (m - k) z:=by unfold aU;simp
theorem ahx{b b2:Pos}{v z:AV}{m:Nat}{cp Jj:Option Nat}(hm:0<m)(hv:v.one=true){s:St}(h:s.heap.get b=some (.cells (List.replicate m z) 0))(h2:s.heap.get b2=some (.cells [v] 0))(K:AV->St->Option R):
  aq c (.copyB 1) [.slice b 0 m cp 1,.slice b2 0 1 Jj 1] s K=K (.int .i64 1) (aY s b (.cells (List.replicate 1 v++List.replicate (m - 1) z) 0)):=by
 have e:aF.run (λb=>s.heap.get b) s.next (.copyB 1) [.slice b 0 m cp 1,.slice b2 0 1 Jj 1]=some (.bh (Lv 1) none (some (b,.cells (List.replicate 1 v++List.replicate (m - 1) z) 0)) none):=by
  show oX (λb=>s.heap.get b) s.next 1 [.slice b 0 m cp 1,.slice b2 0 1 Jj 1]=_;unfold oX;simp only[eJ];have ak0:min m 1=1:=by omega
  rw[show min 1 m=1 by omega,cV,Za2 (by omega)];simp only;have hf:dy 1 1 (λb=>s.heap.get b) (.slice b2 0 1 Jj 1)=some (List.replicate 1 v):=by unfold dy;rw[cV,Za2 (by omega)];simp only;rw[h2];exact cM rfl
  rw[h,hf];simp only;rw[cU,Za0 (by simp;omega),cU,Za0 (Zi8 _),SG hv];simp only;rw[ajh]
 unfold aq cG;rw[e];rfl
theorem ano{b:Pos}{N n:Nat}(h:n<=N)(k:IntKind)(K:AV->Option R):fD (.sliceL 1 true false false) [.slice b 0 N (some N) 1,.int k (n:Int)] K=K (.slice b n (N - n) (some (N - n)) 1):=dB K (λH m=>by
 have hb:bounds true false false [.int k (n:Int)]=some (some n,none,none):=by simp[bounds,jz]
 simp only[aF.run,iP,hb,cV,cU,Zh2,Ze9,Zj0,Za0 h,Za3];simp)
theorem anp{b:Pos}{N n:Nat}(h:n<=N)(k:IntKind)(K:AV->Option R):fD (.sliceL 1 false true false) [.slice b 0 N (some N) 1,.int k (n:Int)] K=K (.slice b 0 n (some N) 1):=dB K (λH m=>by
 have hb:bounds false true false [.int k (n:Int)]=some (none,some n,none):=by simp[bounds,jz]
 simp only[aF.run,iP,hb,cV,cU,Zh2,Ze9,Zj0,Zi8,Za0 h]
 all_goals simp)
theorem afv{b b2:Pos}{cp Jj:Option Nat}{n:Nat}(s:St)(K:AV->St->Option R):aq c (.copyB 1) [.slice b 0 0 cp 1,.slice b2 0 n Jj 1] s K=K (.int .i64 0) s:=by
 have e:aF.run (λb=>s.heap.get b) s.next (.copyB 1) [.slice b 0 0 cp 1,.slice b2 0 n Jj 1]=some (.val (Lv 0)):=by
  show oX (λb=>s.heap.get b) s.next 1 [.slice b 0 0 cp 1,.slice b2 0 n Jj 1]=_;unfold oX;simp only[eJ];rw[show min n 0=0 by omega]
 unfold aq cG;rw[e];rfl
end
theorem T.aa8{α:Type}{x:α}:∀(p:Pos)(t:T α),t.get p=some x->T.put (some x) p t=t
 |p,.e,h=>by rw[T.dP]at h;cases h
 | .h,.n l v r,h=>by have h:v=some x:=h;subst h;rfl
 | .o p,.n l v r,h=>by
   have h:l.get p=some x:=h;simp only[T.put];rw[T.aa8 p l h]
 | .i p,.n l v r,h=>by
   have h:r.get p=some x:=h;simp only[T.put];rw[T.aa8 p r h]
theorem ahy{s:St}{p:Pos}{b:AB}(h:s.heap.get p=some b):aY s p b=s:=by
 unfold aY;rw[T.aa8 p s.heap h]
theorem aa9{b:Pos}{off n es:Nat}(hn:n≠0)(h:Plain (.slice b off n (some n) es)):False:=by
 have h1:aD (λ_=>⟨0,0,off+n*es⟩) (b.toNat+1) (λ_=>none) (.slice b off n (some n) es) (.slice (some ⟨0,0+off,none⟩) n n):=
  .slice b off n (some n) es n _ (Za3 _) (λc hc=>by cases hc;rfl) (λ_=>⟨by omega,rfl,by simp⟩) (λh=>by cases h)
 have h2:=h _ (λ_=>⟨0,0,0⟩) _ 0 _ _ h1;cases h2 with
 |slice _ _ _ _ _ _ _ _ _ ha _=>exact absurd (ha hn).1 (by omega)
end
end Go.Ai
