/- The program as plain functions. -/
import Derived.Test.YtngcejgciomphaaGreatDoorNEvalD
import Derived.Maps.RangeRun
import Derived.Laws.EntriesVeiled
import Derived.WalkKit
import Derived.OpenShut
import Derived.ProofKit
import Derived.ShutString
import Derived.Lib.SlicesCompact
set_option linter.all false
namespace Go.Ai
section
open Go Go.RowKit
def US(c c':aq):Prop:=∀f args st r,c f args st=some r->c' f args st=some r
theorem US.refl(c:aq):US c c:=λ_ _ _ _ h=>h
section
variable{c c':aq}
theorem Oy(h:US c c'){k:aJ}{xs:List AV}{st:St}{r:AV×St}(e:cJ c k xs st=some r):cJ c' k xs st=some r:=by
 unfold cJ at e ⊢;cases hr:k.run (λb=>st.heap.get b) st.next xs with
 |none=>simp[hr]at e
 |some x=>cases x with
  |val v=>simpa [hr]using e
  |br v d s n=>simpa [hr]using e
  |call f args=>simp only[hr]at e ⊢; exact h _ _ _ _ e
theorem TN(h:US c c'):∀(os:List bR)(fr:Fr)(st:St)(r:Fr×St),lK c os fr st=some r->lK c' os fr st=some r
 |[],_,_,_,e=>e
 |o::os,fr,st,r,e=>by
  unfold lK at e ⊢;cases hw:cw fr o.guard with
  |none=>simp[hw]at e
  |some b=>cases b with
   |false=>simp only[hw]at e ⊢; exact TN h _ _ _ _ e
   |    true=>
        simp only[hw]at e ⊢;cases hx:fE fr o.xs with
        |none=>simp[hx]at e
        |some xs=>
         simp only[hx]at e ⊢;cases hs:cJ c o.k xs st with
         |none=>simp[hs]at e
         |some p=>simp only[hs]at e;simp only[Oy h hs];exact TN h _ _ _ _ e
theorem VR (h:US c c'):∀(os:List (Nat×bR))(recs:List Rec)(base:T AB)(fr:Fr)(st:St)(r:Fr×St),dV c os recs base fr st=some r->dV c' os recs base fr st=some r
 |[],_,_,_,_,_,e=>e
 |(j,   o)::os,recs,base,fr,st,r,e=>by
  have ih:=VR h os;unfold dV at e ⊢;cases hw:cw fr o.guard with
  |none=>simp[hw]at e
  | some b=>cases b with
    |false=>simp only[hw]at e ⊢; exact ih _ _ _ _ _ e
    |   true=>
        simp only[hw]at e ⊢;cases hx:fE fr o.xs with
        |none=>simp[hx]at e
        |some xs=>
         simp only[hx]at e ⊢;cases hc:o.cls with
         |  br=>
            simp only[hc]at e ⊢;cases hs:cJ c o.k xs st with
            |none=>simp[hs]at e
            |some p=>simp only[hs]at e;simp only[Oy h hs];exact ih _ _ _ _ _ e
         |  new=>
            simp only[hc]at e ⊢;split at e<;>first|(cases e;done)|exact ih _ _ _ _ _ e
         |  pure=>
            simp only[hc]at e ⊢;split at e<;>(try split at e)<;>(try split at e)<;>first|(cases e;done)|(simp only[*];exact ih _ _ _ _ _ e)|exact ih _ _ _ _ _ e
         |  read=>
            simp only[hc]at e ⊢;split at e<;>(try split at e)<;>(try split at e)<;>first|(cases e;done)|(simp only[*];exact ih _ _ _ _ _ e)|exact ih _ _ _ _ _ e
theorem TO(h:US c c'):∀(n m:Nat),n<=m->∀(a:AC)(fr:Fr)(st:St)(r:mY×Fr×St),exec c n a fr st=some r->exec c' m a fr st=some r
 |0,_,_,_,_,_,_,e=>by simp[exec]at e
 |n+1,0,hm,_,_,_,_,_=>by omega
 |n+    1,m+1,hm,a,fr,st,r,e=>by
  have ih:=TO h n m (by omega);cases a<;>simp only[exec,bF]at e ⊢
  case skip=>exact e
  case exit=>exact e
  case ret=>exact e
  case region ops=>
   cases ho:lK c ops fr st with
   |none=>simp[ho]at e
   |some p=>simp only[ho]at e;simp only[TN h _ _ _ _ ho];exact e
  case draw ops=>
   cases ho:dV c ops [] st.heap fr st with
   |none=>simp[ho]at e
   |some p=>simp only[ho]at e;simp only[VR h _ _ _ _ _ _ ho];exact e
  case seq a b=>
   cases ha:exec c n a fr st with
   |none=>simp[ha]at e
   |    some p=>
        obtain⟨ex,eG,bQ⟩:=p;simp only[ha]at e;simp only[ih _ _ _ _ ha];cases ex<;>first|exact e|exact ih _ _ _ _ e
  case cond x a b=>
   split at e
   .    exact ih _ _ _ _ e
   .    exact ih _ _ _ _ e
   .    cases e
  case block id a=>
   cases ha:exec c n a fr st with
   |none=>simp[ha]at e
   |    some p=>
        obtain⟨ex,eG,bQ⟩:=p;simp only[ha]at e;simp only[ih _ _ _ _ ha];cases ex<;>exact e
  case loop a=>
   cases ha:exec c n a fr st with
   |none=>simp[ha]at e
   |    some p=>
        obtain⟨ex,eG,bQ⟩:=p;simp only[ha]at e;simp only[ih _ _ _ _ ha];cases ex<;>first|exact e|exact ih _ _ _ _ e
end
def Plain(v:AV):Prop:=∀(ρ ρ':Pos->Loc)(n n':Nat)(C:Cells)(x:Value),aC ρ n C v x->aC ρ' n' C v x
theorem Plain.bool(b:Bool):Plain (.bool b):=λ_ _ _ _ _ _ h=>by cases h;exact .bool b
theorem Plain.int(k:IntKind)(i:Int):Plain (.int k i):=λ_ _ _ _ _ _ h=>by cases h;exact .int k i
theorem Plain.str(s:List Nat):Plain (.str s):=λ_ _ _ _ _ _ h=>by cases h with|str _ bs h=>exact .str s bs h
theorem Plain.af:Plain .af:=λ_ _ _ _ _ _ h=>by cases h;exact .af
theorem Plain.lf:Plain .lf:=λ_ _ _ _ _ _ h=>by cases h;exact .lf
theorem Plain.func(f:FuncId){a b:List AV}(ha:∀v∈a,Plain v)(hb:∀v∈b,Plain v):Plain (.func f a b):=λ_ _ _ _ _ _ h=>by
 cases h with
 |func _ _ _ a' b' hx hy h1 h2=>exact .func f a b a' b' hx hy (λi v x hv hx=>ha v (Zf2 hv) _ _ _ _ _ _ (h1 i v x hv hx)) (λi v x hv hx=>hb v (Zf2 hv) _ _ _ _ _ _ (h2 i v x hv hx))
theorem Plain.tuple{l:List AV}(hl:∀v∈l,Plain v):Plain (.tuple l):=λ_ _ _ _ _ _ h=>by
 cases h with
 |tuple _ cs hx h1=>exact .tuple l cs hx λi v x hv hx=>hl v (Zf2 hv) _ _ _ _ _ _ (h1 i v x hv hx)
theorem Plain.agg{l:List AV}(hl:∀v∈l,Plain v):Plain (.agg l):=λ_ _ _ _ _ _ h=>by
 cases h with
 |agg _ cs hx h1=>exact .agg l cs hx λi v x hv hx=>hl v (Zf2 hv) _ _ _ _ _ _ (h1 i v x hv hx)
def bf(st st':St):Prop:=∀b x,st.heap.get b=some x->st'.heap.get b=some x
theorem bf.refl(st:St):bf st st:=λ_ _ h=>h
theorem bf.trans{a b c:St}(h:bf a b)(k:bf b c):bf a c:=λ_ _ e=>k _ _ (h _ _ e)
theorem aC.down{ρ ρ':Pos->Loc}{n n':Nat}{C:Cells}{v:AV}{x:Value}(h:aC ρ' n' C v x):∀{y:Value},aC ρ n C v y->(∀b:Pos,b.toNat<n->ρ' b=ρ b)->aC ρ n C v x:=by
 induction h with
 |bool b=>exact λh _=>.bool b
 |int k i=>exact λh _=>.int k i
 |str s bs h=>exact λ_ _=>.str s bs h
 |pz=>exact λ_ _=>.pz
 |ptr b off h=>
  intro y h bG;cases h with
  |ptr _ _ h'=>rw[bG b h'];exact .ptr b off h'
 |fp xs i j es aQ base cell hl hc hv ih=>
  intro y h bG;cases h with
  |fp _ _ _ es' FG afs ang hl' UM Gd=>exact .fp xs i j es aQ base cell hl hc λi j cs v hi hj=>ih i j cs v hi hj (Gd i j cs v hi hj) bG
 |af=>exact λ_ _=>.af
 |slice  b off len cap es bA a hl hc ha hk=>
  intro y h bG;cases h with
  |slice _ _ _ _ _ akw a' hl' UM ha' qM=>
   refine .slice b off len cap es bA a hl hc (λh0=> ?_) qM;obtain⟨h1,h2,h3⟩:=ha h0;have hb:b.toNat<n:=by
        cases cap with
        |none=>exact qM rfl
        |some c=>
         have e1:=hc c rfl;have e2:=UM c rfl;exact(ha' (by rw[<-e2,e1];exact h0)).1
   rw[bG b hb]at h2 h3;exact⟨hb,h2,h3⟩
 |fl xs es bA a cell hl hs dB hc hv ih=>
  intro y h bG;cases h with
  |fl _ _ akw a' ang hl' pJ hes' UM Gd=>exact .fl xs es bA a cell hl hs dB hc λi j cs v hi hj=>ih i j cs v hi hj (Gd i j cs v hi hj) bG
 |sF=>exact λ_ _=>.sF
 |map b h=>
  intro y h bG;cases h with
  |map _ h'=>rw[bG b h'];exact .map b h'
 |func f x y x' y' hx hy h1 h2 ih1 ih2=>
  intro z h bG;cases h with
  |func _ _ _ a' b' kx ky k1 k2=>
   refine .func f x y x' y' hx hy (λi v x hv DV=> ?_) (λi v x hv DV=> ?_)
   .    have hi:i<a'.size:=(by rw[<-kx];exact(Za4.1 hv).1);exact ih1 i v x hv DV (k1 i v _ hv (Zf3 hi)) bG
   .    have hi:i<b'.size:=(by rw[<-ky];exact(Za4.1 hv).1);exact ih2 i v x hv DV (k2 i v _ hv (Zf3 hi)) bG
 |lf=>exact λ_ _=>.lf
 |AU=>exact λ_ _=> .AU
 |iface t v x _ ih=>
  intro y h bG;cases h with
  |iface _ _ x' h'=>exact .iface t v x (ih h' bG)
 |agg l cs hx h1 ih=>
  intro y h bG;cases h with
  |agg _ cs' kx k1=>
   (refine .agg l cs hx λi v x hv DV=> ?_);have hi:i<cs'.size:=(by rw[<-kx];exact(Za4.1 hv).1);exact ih i v x hv DV (k1 i v _ hv (Zf3 hi)) bG
 |tuple l cs hx h1 ih=>
  intro y h bG;cases h with
  |tuple _ cs' kx k1=>
   (refine .tuple l cs hx λi v x hv DV=> ?_);have hi:i<cs'.size:=(by rw[<-kx];exact(Za4.1 hv).1);exact ih i v x hv DV (k1 i v _ hv (Zf3 hi)) bG
end
noncomputable section
open Go Go.RowKit
def tidy(st:St)(r:AV×St):AV×St:=open Classical in if Plain r.1/\bf st r.2 then(r.1,st)else r
theorem bS.back{ρ ρ':Pos->Loc}{C:Cells}{st bQ:St}{w w1:World}(hW:bS ρ C st w)(hk:bf st bQ)(bG:∀b:Pos,b.toNat<st.next.toNat->ρ' b=ρ b)(iW:bS ρ' C bQ w1)(hs:w.heap.size<=w1.heap.size):bS ρ C st w1:=by
 refine⟨λb y hb=> ?_,hW.inj,λa u ha=>⟨(iW.dH a u ha).1,(hW.dH a u ha).2⟩,iW.whole⟩;obtain⟨g1,g2,g3⟩:=hW.live b y hb;obtain⟨_,_,k3⟩:=iW.live b y (hk b y hb);refine⟨g1,Zc5 g2 hs,?_⟩;rw[bG b g1]at k3;cases y with
 |cells cs fz=>
  obtain⟨c,e,fr,q1,q2,q3,q4,q5⟩:=k3;obtain⟨c0,e0,cM,p1,p2,p3,p4,p5⟩:=g3;refine⟨c,e,fr,q1,q2,q3,⟨q4.1,λi v x hv hx=> ?_⟩,q5⟩;obtain⟨y0,hy0,hv0⟩:=p4.get hv;exact(q4.2 i v x hv hx).down hv0 bG
 |map es clock=>
  obtain⟨es',q1,q2,q3⟩:=k3;obtain⟨es0,p1,p2,p3⟩:=g3;refine⟨es',q1,q2,λi e e' he qf=> ?_⟩;obtain⟨a1,a2,a3⟩:=q3 i e e' he qf;have hi:i<es0.size:=by rw[<-p2];exact(Za4.1 he).1
  obtain⟨b1,b2,_⟩:=p3 i e _ he (Zf3 hi);exact⟨a1.down b1 bG,a2.down b2 bG,a3⟩
theorem agQ{ρ:Pos->Loc}{C:Cells}{st:St}{w w':World}{r:AV×St}{x:Value}(hW:bS ρ C st w)(h:kE ρ C st w r.1 r.2 x w'):
   kE ρ C st w (tidy st r).1 (tidy st r).2 x w':=by
 unfold tidy;split
 .rename_i hp;obtain⟨ρ',hv,bG,hn,iW,hE⟩:=h;exact⟨ρ,hp.1 _ _ _ _ _ _ hv,λ_ _=>rfl,Za6 _,hW.back hp.2 bG iW hE.size,⟨hE.os,hE.tape,hE.output,hE.size,hE.block,λb y hb=>.inl ⟨b,y,hb,rfl⟩⟩⟩
 .exact h
theorem agR{st:St}{r:AV×St}(h:st.next.toNat<=r.2.next.toNat):st.next.toNat<=(tidy st r).2.next.toNat:=by
 unfold tidy;split
 .exact Za6 _
 .exact h
def wQ(O:eE)(G:T dF)(m:Nat):Nat->aq
 |0=>λ_ _ _=>none
 |  d+1=>λf args st=>match O f with
    |some s=>s args st
    |none=>match G.get (key f)with
     |some F=>(wO (wQ O G m d) m F args st).map (tidy st)
     |none=>none
section
variable{P:Program}{tt:TT}{C:Cells}
theorem agS{call:aq}(hm:nU call){m:Nat}{F:dF}{args:List AV}{st:St}{v:AV}{st':St}(h:wO call m F args st=some (v,st')):st.next.toNat<=st'.next.toNat:=by
 unfold wO at h;split at h<;>first|(cases h;done)|skip
 split at h<;>first|(cases h;done)|skip
 all_goals
  rename_i h1;split at h<;>first|(cases h;done)|skip
  simp only[H0,Zc7]at h;obtain⟨rfl,rfl⟩:=h;exact Ki hm _ _ _ _ _ _ _ h1
theorem Xi{O:eE}{G:T dF}(hO:mZ O)(m:Nat):∀d,nU (wQ O G m d)
 |0=>λf args st v st' h=>by simp[wQ]at h
 |d +1=>λf args st v st' h=>by
  unfold wQ at h;split at h
  .rename_i s hs;exact hO _ _ hs _ _ _ _ h
  . (split at h<;>first|(cases h;done)|skip);simp only[Zi7]at h;obtain⟨r,hr,he⟩:=h;have:=agS (Xi hO m d) (v:=r.1) (st':=r.2) hr;have:=agR this;rw[he]at this;exact this
theorem UT(hm:P.follows .mixedOrders=true)(hT:cQ P tt){O:eE}{G:T dF}(hO:uA P C O)(RM:mZ O)(hG:WZ P tt G)(m:Nat):∀d,iK P C (wQ O G m d)
 |0=>λρ st w f args v st' bV h=>by simp[wQ]at h
 |d +1=>by
  intro ρ st w f args v st' bV h hW wP;have ih:=UT hm hT hO RM hG m d;unfold wQ at h;split at h
  .rename_i s hs;exact hO f s hs ρ st w args v st' bV h hW wP
  . (split at h<;>first|(cases h;done)|skip);rename_i F hF;simp only[Zi7]at h;obtain⟨r,hr,he⟩:=h;refine Reaches.mono (λx w' hp=> ?_) (W6 hT hG ih (Om hm hT ih (Xi RM m d)) m hF (v:=r.1) (st':=r.2) hr hW wP);have:=agQ hW hp;rw[he]at this;exact this
end
theorem aem{c c':aq}(h:US c c'){n m:Nat}(hn:n<=m){F:dF}{args:List AV}{st:St}{r:AV×St}(e:wO c n F args st=some r):wO c' m F args st=some r:=by
 unfold wO at e ⊢;split at e<;>first|(cases e;done)|skip
 split at e<;>first|(cases e;done)|skip
 all_goals
  rename_i h1;simp only[TO h n m hn _ _ _ _ h1];exact e
theorem VS(O:eE)(G:T dF){n m:Nat}(hn:n<=m):∀d d',d<=d'->US (wQ O G n d) (wQ O G m d')
 |0,_,_=>λ_ _ _ _ e=>by simp[wQ]at e
 |_+1,0,h=>by omega
 |d +1,d'+1,h=>λf args st r e=>by
  have ih:=VS O G hn d d' (by omega);unfold wQ at e ⊢;split at e
  .exact e
  . (split at e<;>first|(cases e;done)|skip);simp only[Zi7]at e ⊢;obtain⟨q,hq,he⟩:=e;exact⟨q,aem ih hn hq,he⟩
def cn(O:eE)(G:T dF)(n:Nat):aq:=wQ O G n n
theorem Oz(O:eE)(G:T dF){n m:Nat}(h:n<=m):US (cn O G n) (cn O G m):=VS O G h n m h
def run(O:eE)(G:T dF):aq:=λf args st=>open Classical in
 if h:∃(r:AV×St) (n:Nat),cn O G n f args st=some r then some h.choose else none
variable{O:eE}{G:T dF}
theorem agT{f:FuncId}{args:List AV}{st:St}{r:AV×St}{n:Nat}(h:cn O G n f args st=some r):run O G f args st=some r:=by
 unfold run;have hx:∃(r:AV×St) (n:Nat),cn O G n f args st=some r:=⟨r,n,h⟩
 rw[dif_pos hx];obtain⟨m,hm⟩:=hx.choose_spec;have h1:=Oz O G (Zj6 n m) f args st _ h;have h2:=Oz O G (Zi8 n m) f args st _ hm;rw[h1]at h2;exact h2.symm
theorem abX{f:FuncId}{args:List AV}{st:St}{r:AV×St}(h:run O G f args st=some r):∃n,cn O G n f args st=some r:=by
 unfold run at h;split at h
 .rename_i hx;simp only[H0]at h;rw[<-h];exact hx.choose_spec
 .cases h
theorem Xj{k:aJ}{xs:List AV}{st:St}{r:AV×St}(e:cJ (run O G) k xs st=some r):∃n,cJ (cn O G n) k xs st=some r:=by
 unfold cJ at e;cases hr:k.run (λb=>st.heap.get b) st.next xs with
 |none=>simp[hr]at e
 |some x=>cases x with
  |val v=>exact⟨0,by simpa [cJ,hr]using e⟩
  |br v d s n=>exact⟨0,by simpa [cJ,hr]using e⟩
  |call f args=>
   simp only[hr]at e;obtain⟨n,hn⟩:=abX e;exact⟨n,by simpa [cJ,hr]using hn⟩
theorem RQ:∀(os:List bR)(fr:Fr)(st:St)(r:Fr×St),lK (run O G) os fr st=some r->∃n,lK (cn O G n) os fr st=some r
 |[],_,_,_,e=>⟨0,e⟩
 |o::os,fr,st,r,e=>by
  unfold lK at e;cases hw:cw fr o.guard with
  |none=>simp[hw]at e
  |some b=>cases b with
   |    false=>
        simp only[hw]at e;obtain⟨n,hn⟩:=RQ os _ _ _ e;exact⟨n,by unfold lK;simp only[hw];exact hn⟩
   |    true=>
        simp only[hw]at e;cases hx:fE fr o.xs with
        |none=>simp[hx]at e
        |some xs=>
         simp only[hx]at e;cases hs:cJ (run O G) o.k xs st with
         |none=>simp[hs]at e
         |some p=>
          simp only[hs]at e;obtain⟨n,hn⟩:=RQ os _ _ _ e;obtain⟨m,hm⟩:=Xj hs;refine⟨max n m,?_⟩;unfold lK;simp only[hw,hx,Oy (Oz O G (Zi8 n m)) hm];exact TN (Oz O G (Zj6 n m)) _ _ _ _ hn
theorem Xk: ∀(os:List (Nat×bR))(recs:List Rec)(base:T AB)(fr:Fr)(st:St)(r:Fr×St),dV (run O G) os recs base fr st=some r->∃n,dV (cn O G n) os recs base fr st=some r
 |[],_,_,_,_,_,e=>⟨0,e⟩
 |(j,   o)::os,recs,base,fr,st,r,e=>by
  have ih:=Xk os;unfold dV at e;cases hw:cw fr o.guard with
  |none=>simp[hw]at e
  | some b=>cases b with
    |   false=>
        simp only[hw]at e;obtain⟨n,hn⟩:=ih _ _ _ _ _ e;exact⟨n,by unfold dV;simp only[hw];exact hn⟩
    |   true=>
        simp only[hw]at e;cases hx:fE fr o.xs with
        |none=>simp[hx]at e
        |some xs=>
         simp only[hx]at e;cases hc:o.cls with
         |br=>
          simp only[hc]at e;cases hs:cJ (run O G) o.k xs st with
          |none=>simp[hs]at e
          | some p=>
            simp only[hs]at e;obtain⟨n,hn⟩:=ih _ _ _ _ _ e;obtain⟨m,hm⟩:=Xj hs;refine⟨max n m,?_⟩;unfold dV;simp only[hw,hx,hc,Oy (Oz O G (Zi8 n m)) hm];exact VR (Oz O G (Zj6 n m)) _ _ _ _ _ _ hn
         |new=>
          simp only[hc]at e;(split at e<;>first|(cases e;done)|skip);obtain⟨n,hn⟩:=ih _ _ _ _ _ e;refine⟨n,?_⟩;unfold dV;simp only[*]
         |pure=>
          simp only[hc]at e;split at e<;>(try split at e)<;>(try split at e)<;>first|(cases e;done)|skip
          all_goals
            obtain⟨n,hn⟩:=ih _ _ _ _ _ e;refine⟨n,?_⟩;unfold dV;simp only[*]
         |read=>
          simp only[hc]at e;split at e<;>(try split at e)<;>(try split at e)<;>first|(cases e;done)|skip
          all_goals
            obtain⟨n,hn⟩:=ih _ _ _ _ _ e;refine⟨n,?_⟩;unfold dV;simp only[*]
theorem ZT:∀(n:Nat)(a:AC)(fr:Fr)(st:St)(r:mY×Fr×St),exec (run O G) n a fr st=some r->∃m,exec (cn O G m) n a fr st=some r
 |0,_,_,_,_,e=>by simp[exec]at e
 |n+    1,a,fr,st,r,e=>by
  have ih:=ZT n;have up:∀{m m':Nat}{a:AC}{fr:Fr}{st:St}{r:mY×Fr×St},m<=m'->exec (cn O G m) n a fr st=some r->exec (cn O G m') n a fr st=some r:=
   λh e=>TO (Oz O G h) _ _ (Za6 _) _ _ _ _ e
  cases a<;>simp only[exec,bF]at e
  case skip=>exact⟨0,e⟩
  case exit=>exact⟨0,e⟩
  case ret=>exact⟨0,e⟩
  case region ops=>
   cases ho:lK (run O G) ops fr st with
   |none=>simp[ho]at e
   |    some p=>
        obtain⟨m,hm⟩:=RQ _ _ _ _ ho;exact⟨m,by simp only[exec,bF,hm];simpa only[ho]using e⟩
  case draw ops=>
   cases ho:dV (run O G) ops [] st.heap fr st with
   |none=>simp[ho]at e
   |    some p=>
        obtain⟨m,hm⟩:=Xk _ _ _ _ _ _ ho;exact⟨m,by simp only[exec,bF,hm];simpa only[ho]using e⟩
  case seq a b=>
   cases ha:exec (run O G) n a fr st with
   |none=>simp[ha]at e
   |    some p=>
        obtain⟨ex,eG,bQ⟩:=p;simp only[ha]at e;obtain⟨m,hm⟩:=ih _ _ _ _ ha;cases ex with
        |normal=>
         obtain⟨m',hm'⟩:=ih _ _ _ _ e;exact⟨max m m',by simp only[exec,bF,up (Zj6 m m') hm];exact up (Zi8 m m') hm'⟩
        |exit i=>exact⟨m,by simp only[exec,bF,hm];exact e⟩
        |ret=>exact⟨m,by simp only[exec,bF,hm];exact e⟩
  case cond x a b=>
   split at e
   .    rename_i hx;obtain⟨m,hm⟩:=ih _ _ _ _ e;exact⟨m,by simp only[exec,bF,hx];exact hm⟩
   .    rename_i hx;obtain⟨m,hm⟩:=ih _ _ _ _ e;exact⟨m,by simp only[exec,bF,hx];exact hm⟩
   .    cases e
  case block id a=>
   cases ha:exec (run O G) n a fr st with
   |none=>simp[ha]at e
   |    some p=>
        obtain⟨ex,eG,bQ⟩:=p;simp only[ha]at e;obtain⟨m,hm⟩:=ih _ _ _ _ ha;exact⟨m,by simp only[exec,bF,hm];exact e⟩
  case loop a=>
   cases ha:exec (run O G) n a fr st with
   |none=>simp[ha]at e
   |    some p=>
        obtain⟨ex,eG,bQ⟩:=p;simp only[ha]at e;obtain⟨m,hm⟩:=ih _ _ _ _ ha;cases ex with
        |normal=>
         obtain⟨m',hm'⟩:=ih _ _ _ _ e;exact⟨max m m',by simp only[exec,bF,up (Zj6 m m') hm];exact up (Zi8 m m') hm'⟩
        |exit i=>exact⟨m,by simp only[exec,bF,hm];exact e⟩
        |ret=>exact⟨m,by simp only[exec,bF,hm];exact e⟩
theorem aiK{f:FuncId}{F:dF}{args:List AV}{st:St}{r:AV×St}{n:Nat}(ho:O f=none)(hF:G.get (key f)=some F)(h:wO (run O G) n F args st=some r):
   run O G f args st=some (tidy st r):=by
 unfold wO at h;split at h<;>first|(cases h;done)|skip
 rename_i hlen
 have fin:∀{ex fr st'},exec (run O G) n F.code (params 0 args .e) st=some (ex,fr,st')->(∀m k,exec (cn O G m) k F.code (params 0 args .e) st=some (ex,fr,st')->wO (cn O G m) k F args st=some r)->
    run O G f args st=some (tidy st r):=λh1 h2=>by
   obtain⟨m,hm⟩:=ZT _ _ _ _ _ h1;refine agT (n:=max n m+1) ?_;unfold cn wQ;simp only[ho,hF];have:=h2 m n hm;have h3:=aem (VS O G (n:=m) (m:=max n m+1) (by have:=Zi8 n m;omega) m (max n m) (Zi8 n m)) (m:=max n m+1) (by have:=Zj6 n m;omega) this;rw[h3];rfl
 split at h<;>first|(cases h;done)|skip
 .rename_i h1;exact fin h1 λm k hk=>by unfold wO;simp only[hlen,hk];exact h
 .rename_i h1;exact fin h1 λm k hk=>by unfold wO;simp only[hlen,hk];exact h
theorem Hf{f:FuncId}{s:List AV->St->Option (AV×St)}(ho:O f=some s){args:List AV}{st:St}{r:AV×St}(h:s args st=some r):run O G f args st=some r:=
 agT (n:=1) (by unfold cn wQ;simp only[ho];exact h)
theorem ZU{P:Program}{tt:TT}{C:Cells}(hm:P.follows .mixedOrders=true)(hT:cQ P tt)(hO:uA P C O)(RM:mZ O)(hG:WZ P tt G):iK P C (run O G):=by intro ρ st w f args v st' bV h hW wP;obtain⟨n,hn⟩:=abX h;exact UT hm hT hO RM hG n n ρ st w f args v st' bV hn hW wP
section
variable{ρ ρ':Pos->Loc}{C:Cells}{st bQ:St}{w w1 w':World}{nt r:Nat}{fr eG:Fr}{a a1:Act}
theorem kC.sub{n:Nat}{tmps:Array Value}(h:kC ρ n C eG tmps)(hf:∀p v,fr.get p=some v->eG.get p=some v):kC ρ n C fr tmps:=λp v hp=>h p v (hf p v hp)
theorem xQ.back(hS:xQ nt ρ C fr st a w)(hf:∀p v,fr.get p=some v->eG.get p=some v)(hk:bf st bQ)(h:kz nt ρ C st w eG bQ a1 w1):
  xQ nt ρ C fr st a1 w1/\nh ρ st w ρ st w1:=by
 obtain⟨jH,S1,k1,k2,E⟩:=h;refine⟨⟨hS.W.back hk k1 S1.W E.size,λp v hp=> ?_,S1.size,S1.defers⟩,⟨E.os,E.tape,E.output,E.size,E.block,λb x hb=>.inl ⟨b,x,hb,rfl⟩⟩⟩;obtain⟨x,hx,hv⟩:=S1.F p v (hf p v hp);obtain⟨y,_,hy⟩:=hS.F p v hp;exact⟨x,hx,hv.down hy k1⟩
theorem bS.iter{m:Option Nat}{s c:Nat}{seen:Array Nat}(hW:bS ρ C st w)(hr:w.heap[r]? =some (.mapIter m s seen c))(hn:∀b x,st.heap.get b=some x->(ρ b).aQ≠r)
   (hs:w'.heap.size=w.heap.size) (hk:∀k,k≠r->w'.heap[k]? =w.heap[k]?):bS ρ C st w':=by
 have cA:∀a v,C a=some v->a.block≠r:=λa v ha e=>by have h:=(hW.dH a v ha).1;unfold World.cell? at h;rw[e,hr]at h;cases h
 refine⟨λb x hb=> ?_,hW.inj,λa v ha=> ?_,λa v ha o ho=> ?_⟩
 .obtain⟨h1,h2,h3⟩:=hW.live b x hb;exact⟨h1,by rw[hs];exact h2,h3.of_heap (hk _ (hn b x hb))⟩
 .obtain⟨h1,h2⟩:=hW.dH a v ha;exact⟨by rw[World.cell?_of_block (w:=w) (hk _ (cA a v ha))];exact h1,h2⟩
 .rw[World.cell?_of_block (w:=w) (a:=⟨a.block,o,none⟩) (hk _ (cA a v ha))];exact hW.whole a v ha o ho
end
def T.sub{α:Type}(f:α->α->Bool):T α->T α->Bool
 |.e,_=>true
 |.n l v r,.e=>(match v with|none=>true|some _=>false)&&T.sub f l .e&&T.sub f r .e
 |  .n l v r,.n l' v' r'=>(match v with
    |none=>true
    |some a=>match v' with
     |some b=>f a b
     |none=>false)&&T.sub f l l'&&T.sub f r r'
theorem T.HG{α:Type}{f:α->α->Bool}(hf:∀a b,f a b=true->a=b):∀{t u:T α},T.sub f t u=true->∀p v,t.get p=some v->u.get p=some v
 |.e,_,_,p,v,h=>by rw[T.eV]at h;cases h
 | .n l x r,.e,hs,p,v,h=>by
   simp only[T.sub,Zb6]at hs;cases p with
   |h=>simp only[T.get]at h;subst h;simp at hs
   |o p=>have:=T.HG hf hs.1.2 p v h;rw[T.eV]at this;cases this
   |i p=>have:=T.HG hf hs.2 p v h;rw[T.eV]at this;cases this
 | .n l x r,.n l' x' r',hs,p,v,h=>by
   simp only[T.sub,Zb6]at hs;cases p with
   |h=>
    simp only[T.get]at h ⊢; subst h;have h1:=hs.1.1;cases x' with
    |none=>simp at h1
    |some y=>simp at h1;rw[hf _ _ h1]
   |o p=>exact T.HG hf hs.1.2 p v h
   |i p=>exact T.HG hf hs.2 p v h
structure RG where
 t17:Nat
 t18:Nat
 t19:Nat
 t20:Nat
 l2:List bR
 x:gO
 l4:List bR
 body:AC
 ds:List Pos
abbrev XR:=Option (mY×Fr×St)
section
variable(bU:qK XR)(m:Nat)(g:RG)
def exK(c:AC)(fr:Fr)(st:St):XR:=WI none bU m c fr st (λfr st=>some (.normal,fr,st)) (λi fr st=>some (.exit i,fr,st)) (λfr st=>some (.ret,fr,st))
def afu(k v:AV)(fr:Fr)(st:St):XR:=
 vS (some (.tuple [.bool true,k,v])) (key g.t18) fr λfr=>vS (some (.bool true)) (key g.t19) fr λfr=>vS (some (.tuple [k,v])) (key g.t20) fr λfr=>
    Yw none bU g.l4 fr st λfr st=>exK bU m g.body fr st
def abY:List Pos->Fr->(Fr->XR)->XR
 |[],fr,k=>k fr
 |p::ps,fr,k=>vS none p fr λfr=>abY ps fr k
def OA(fr:Fr)(st:St)(e:AV×AV×Nat):Bool:=match afu bU m g e.1 e.2.1 fr st with
 |some (.normal,eG,bQ)=>T.sub dO fr eG&&T.sub Xe st.heap bQ.heap
 |_=>false
def YH(clock:Nat):List (AV×AV×Nat)->Bool
 |[]=>true
 |e::es=>Nat.blt e.2.2 clock&&es.all (λx=> !Nat.beq x.2.2 e.2.2)&&YH clock es
def afv (fr:  Fr) (st:St):XR:=
 Yw none bU g.l2  fr st λfr st=>evK none fr g.x λ
    | .map b=>match AX b st.heap with
      | some (.map es clock)=>match YH clock es with
        |true=>   abY g.ds fr λfr=>vS (some (.ptr st.next 0)) (key g.t17) fr λfr=>WH st.next λn=>
           match es.filter (λe=> !OA bU m g fr { heap:=st.heap,next:=n } e)with
           |[]=>some (.normal,fr,{ heap:=st.heap,next:=n })
           |  [e] =>match afu bU m g e.1 e.2.1 fr { heap:=st.heap,next:=n }with
              |some (.normal,eG,bQ)=>abY g.ds eG λeG=>
                  match AX b bQ.heap,AX (key g.t17) eG with
                  |some y,some v=>match Xe y (.map es clock)&&dO v (.ptr st.next 0)&&es.all (λx=>Nat.beq x.2.2 e.2.2||OA bU m g eG bQ x)with
                   |true=>some (.normal,eG,bQ)
                   |false=>none
                  |_,_=>none
              |_=>none
           |_=>none
        |false=>none
      |_=>none
    |_=>none
end
section
variable{P:Program}{tt:TT}{C:Cells}
def oe(P:Program)(C:Cells)(nt:Nat)(c:Code)(ex:Fr->St->XR):Prop:=
 ∀  (fr bK:Fr)(st st':St)(e:mY)(ρ:Pos->Loc)(a:Act)(w:World)(Q:Exit->Act->World->Prop),ex fr st=some (e,bK,st')->xQ nt ρ C fr st a w->
    (∀a' w',kz nt ρ C st w bK st' a' w'->Q (MD e) a' w')->c.wp P Q a w
theorem agU{bU:qK XR}{call:aq}(hc:CK none bU call)(m:Nat)(c:AC)(fr:Fr)(st:St):exK bU m c fr st=exec call m c fr st:=by
 unfold exK;rw[VP none hc];cases exec call m c fr st with
 |none=>rfl
 |some x=>obtain⟨e,fr,st⟩:=x;cases e<;>rfl
theorem oe.ac(hT:cQ P tt){bU:qK XR}{call:aq}(hc:CK none bU call)(c9:iK P C call)(kX:xR P tt C call){nt m:Nat}{c:Code}{a:AC}(h:ux tt nt c=some a):
 oe P C nt c (exK bU m a):=λfr bK st st' e ρ ac w Q hx hS hQ=>(Cz hT c9 kX m).1 c a fr bK st st' e ρ ac w Q h (by rw[<-agU hc];exact hx) hS hQ
def aiL(x y:Fr->St->XR)(fr:Fr)(st:St):XR:=match x fr st with
 |some (.normal,fr,st)=>y fr st
 |r=>r
theorem oe.seq{nt:Nat}{c d:Code}{x y:Fr->St->XR}(hc:oe P C nt c x)(hd:oe P C nt d y):oe P C nt (.seq c d) (aiL x y):=by
 intro fr bK st st' e ρ a w Q h hS hQ;unfold aiL at h;apply wp_seq;split at h
 .rename_i eG bQ h1;(refine hc fr eG st bQ .normal ρ a w _ h1 hS λa1 w1 hp=> ?_);obtain⟨jH,S1,k1,k2,k3⟩:=hp;exact hd eG bK bQ st' e jH a1 w1 Q h S1 λa2 w2 hp=>hQ a2 w2 (kz.trans k1 k2 k3 hp)
 . rename_i cA;(refine hc fr bK st st' e ρ a w _ h hS λa1 w1 hp=> ?_);cases e with
   |normal=>exact(cA _ _ h).elim
   |exit id=>exact hQ a1 w1 hp
   |ret=>exact hQ a1 w1 hp
def clr:List Pos->Fr->Fr
 |[],fr=>fr
 |p::ps,fr=>clr ps (fr.put none p)
theorem aen:∀(ps:List Pos)(fr:Fr)(k:Fr->XR),abY ps fr k=k (clr ps fr)
 |[],_,_=>rfl
 |p::ps,fr,k=>by simp only[abY,mN,clr];exact aen ps _ k
theorem YI:∀(ps:List Pos)(fr:Fr)(p:Pos)(v:AV),(clr ps fr).get p=some v->fr.get p=some v
 |[],_,_,_,h=>h
 |q::ps,fr,p,v,h=>by
  have h:=YI ps _ p v h;by_cases hq:q=p
  .subst hq;rw[T.fP]at h;cases h
  .rwa [T.bY _ hq]at h
theorem YJ{clock:Nat}:∀{es:List (AV×AV×Nat)},YH clock es=true->(∀e∈es,e.2.2<clock)/\(es.map (·.2.2)).Nodup
 |[],_=>⟨λ_ h=>by simp at h,by simp⟩
 |e ::es,h=>by
  simp only[YH,Zb6]at h;obtain⟨⟨h1,h2⟩,h3⟩:=h;obtain⟨i1,i2⟩:=YJ h3;refine⟨λx hx=> ?_,?_⟩
  . rcases Zb4.1 hx with rfl|hx
    .exact Za9 h1
    .exact i1 x hx
  .rw[Zb1,List.nodup_cons];refine⟨λhm=> ?_,i2⟩;obtain⟨x,hx,he⟩:=Zd0.1 hm;have:=Zj3.1 h2 x hx;simp[he]at this
def Mv(bU:qK XR)(m:Nat)(g:RG)(A B:Fr×St)(e:AV×AV×Nat):Prop:=
 ∃f1 s1,afu bU m g e.1 e.2.1 A.1 A.2=some (.normal,f1,s1)/\(∀p v,B.1.get p=some v->f1.get p=some v)/\((B=A/\bf A.2 s1)\/B.2=s1)
theorem YK{bU:qK XR}{m:Nat}{g:RG}{fr:Fr}{st:St}{e:AV×AV×Nat}(h:OA bU m g fr st e=true):Mv bU m g (fr,st) (fr,st) e:=by
 unfold OA at h;split at h<;>first|(cases h;done)|skip
 rename_i f1 s1 h1;simp only[Zb6]at h;exact⟨f1,s1,h1,T.HG (λ_ _=>xS) h.1,.inl ⟨rfl,T.HG (λ_ _=>VQ) h.2⟩⟩
section
variable{bU:qK XR}{call:aq}{nt m:Nat}{g:RG}{rq:Array Oper}{o0 o1 o4:Oper}{i3 i4 b0 b1:Nat}{rest:Code}{PZ:List bR}{bs:List Nat}
def afw(g:RG)(o0 o1:Oper)(rq:Array Oper)(rest:Code)(i3 i4 b0 b1:Nat):Code:=
 .seq (.region i3 #[o0,o1] false) (.seq (.cond (.tmp g.t19) .skip (.exit b0)) (.block b1 (.seq (.region i4 rq false) rest)))
structure aiM(tt:TT)(nt:Nat)(g:RG)(o0 o1 o4:Oper)(rq:Array Oper)(rest:Code)(PZ:List bR)(bs:List Nat):Prop where
 n0:o0.op= .next (.tmp g.t17) false/\o0.guard=none/\o0.dst=some g.t18
 n1:o1.op= .extract (.tmp g.t18) 0/\o1.guard=none/\o1.dst=some g.t19
 n4:rq[0]? =some o4/\o4.op= .entry (.tmp g.t17)/\o4.guard=none/\o4.dst=some g.t20
 lt:g.t17<nt/\g.t18<nt/\g.t19<nt/\g.t20<nt
 ne:g.t17≠g.t18/\g.t17≠g.t19/\g.t18≠g.t19
 c4:sH tt nt rq rq.toList bs=some PZ
 l4:PZ.tail=g.l4
 r4:ux tt nt rest=some g.body
structure LI(C:Cells)(nt:Nat)(g:RG)(X:Fr×St)(b MG:Pos)(es:List (AV×AV×Nat))(since r:Nat)(mG:Pos->Loc)(MH:St)(w0:World)(seen:Array Nat)(ρ:Pos->Loc)(a:Act)(w:World):Prop where
 S:xQ nt ρ C X.1 X.2 a w
 k1:∀p:Pos,p.toNat<MH.next.toNat->ρ p=mG p
 k2:MH.next.toNat<=X.2.next.toNat
 E:nh mG MH w0 ρ X.2 w
 ip:(ρ MG).aQ=r/\(ρ MG).base=0/\MG.toNat<X.2.next.toNat
 at17:X.1.get (key g.t17)=some (.ptr MG 0)
 mp:X.2.heap.get b=some (.map es since)
 it:∃c,w.heap[r]? =some (.mapIter (some (ρ b).aQ) since seen c)/\since<=c
 sM:∀p x,X.2.heap.get p=some x->(ρ p).aQ≠r
 late:w0.heap.size<=r
 cl:X.1.get (key g.t18)=none/\X.1.get (key g.t19)=none
theorem Br{ops:Array Oper}{Q:Exit->Act->World->Prop}{i:Nat}{rest:List Nat}{o:Oper}{a:Act}{w w':World}{v:Value}(ho:ops[i]? =some o)(hg:o.guard=none)
  (hr:(execOp a.eval o).run P w= .ok (.value v) w') (hQ:wpOps P ops Q rest (a.put o.dst v) w'):wpOps P ops Q (i::rest) a w:=by
 unfold wpOps;rw[ho];simp only[Region.wanted,hg,Zg7];refine .inl ?_;unfold Oper.wp;rw[hr];exact hQ
theorem eval_put{a:Act}{t:Nat}{v:Value}(h:t<a.tmps.size):(a.put (some t) v).eval (.tmp t)=v:=by
 simp[Act.put,Act.eval,h]
theorem UU{a:Act}{t s:Nat}{v:Value}(h:t≠s):(a.put (some t) v).eval (.tmp s)=a.eval (.tmp s):=by
 simp[Act.put,Act.eval,Zj7 h]
theorem LI.round(hT:cQ P tt)(hc:CK none bU call)(c9:iK P C call)(kX:xR P tt C call)(hR:aiM tt nt g o0 o1 o4 rq rest PZ bs)
   {A:Fr×St} {b MG:Pos} {es:List (AV×AV×Nat)} {since r:Nat} {mG:Pos->Loc} {MH:St} {w0:World} {seen:Array Nat} {ρ:Pos->Loc} {a:Act} {w:World}
   (L:LI C nt g A b MG es since r mG MH w0 seen ρ a w) (dB:YH since es=true) {Q:Exit->Act->World->Prop}
   (afx:(∀e∈es,seen.contains e.2.2=true)->∀a',xQ nt ρ C A.1 A.2 a' w->Q (.exit b0) a' w)
   (anh:∀e∈es,seen.contains e.2.2=false->∃B,Mv bU m g A B e/\B.1.get (key g.t17)=some (.ptr MG 0)/\B.2.heap.get b=some (.map es since)/\B.1.get (key g.t18)=none/\B.1.get (key g.t19)=none/\
     ∀ρ' a' w',LI C nt g B b MG es since r mG MH w0 (seen.push e.2.2) ρ' a' w'->Q .normal a' w'):
   (afw g o0 o1 rq rest i3 i4 b0 b1).wp P Q a w:=by
 obtain⟨c,hr,hsc⟩:=L.it;obtain⟨g1,g2,es',q1,q2,q3⟩:=L.S.W.live b _ L.mp;obtain⟨aW,hnd⟩:=YJ dB;have UW:∀(i:Nat)(e':MapEntry),es'[i]? =some e'->∃e,es[i]? =some e/\aC ρ A.2.next.toNat C e.1 e'.key/\aC ρ A.2.next.toNat C e.2.1 e'.val/\e.2.2=e'.born:=λi e' h=>by
   have hi:i<es.length:=(by rw[q2];exact(Zc4.1 h).1);exact⟨_,Za0 hi,q3 i _ e' (Za0 hi) h⟩
 have hold:∀x∈es'.toList,x.born<since:=λx hx=>by
   obtain⟨i,hi⟩:=Zl3.1 hx;obtain⟨e,h1,_,_,h2⟩:=UW i x (by simpa using hi);rw[<-h2];exact aW e (Zf2 h1)
 have gK:es'.toList.map (·.born)=es.map (·.2.2):=by
   apply Zj4;intro i;simp only[Zc3,Zh9];cases h:es'[i]? with
   | none=>
     have:es.length<=i:=(by rw[q2];exact Array.getElem?_eq_none_iff.1 h);rw[Zc6 this];rfl
   | some x=>
     obtain⟨e,h1,_,_,h2⟩:=UW i x h;rw[h1];simp[h2]
 have hit:a.eval (.tmp g.t17)= .pointer (some ⟨r,0,none⟩):=by
   have h:=AY (x:= .tmp g.t17) (o:= .t (key g.t17)) rfl L.S.F (v:= .ptr MG 0) L.at17;obtain⟨_,h⟩:=h.o9;rw[h,L.ip.1,L.ip.2.1]
 have fC:=L.S.size;have tY:∀(v:Value),g.t18<(a.put (some g.t18) v).tmps.size:=λv=>by rw[Act.jQ,fC];exact hR.lt.2.1
 have hrl:r<w.heap.size:=(Zc4.1 hr).1;unfold afw;apply wp_seq;apply wp_region;show wpOps P _ _ [0,1] a w;rcases run_next_at (P:=P) w o0.type r (ρ b).aQ since c seen es' since hr q1 hold hsc with⟨h0,dy⟩|⟨e',qf,w1,hal,dy⟩
 . refine Br (i:=0) (o:=o0) rfl hR.n0.2.1 (v:= .tuple #[.bool false]) (w':=w) (by simp[execOp,hR.n0.1,hit,dy,Result.andThen]) ?_;rw[hR.n0.2.2];refine Br (i:=1) (o:=o1) rfl hR.n1.2.1 (v:= .bool false) (w':=w) (by simp[execOp,hR.n1.1,eval_put (fC ▸hR.lt.2.1),Instr.extract,Result.andThen]) ?_;rw[hR.n1.2.2];apply wp_seq;refine wp_cond_false (eval_put (by rw[Act.jQ,fC];exact hR.lt.2.2.1)) (wp_exit ?_);refine afx (λe he=> ?_) _ ⟨L.S.W,λp v hp=> ?_,by rw[Act.jQ,Act.jQ];exact fC,by rw[Act.lH,Act.lH];exact L.S.defers⟩
   .obtain⟨i,hi⟩:=Zl3.1 he;have Ge:i<es'.size:=(by rw[<-q2];exact(Za4.1 hi).1);obtain⟨e2,h1,_,_,h2⟩:=UW i _ (Zf3 Ge);rw[hi]at h1;cases h1;rw[h2];have hem:leftOf es' seen= #[]:=Zo2 h0;unfold leftOf at hem;rw[Array.filter_eq_empty_iff]at hem;have:=hem es'[i] (Array.getElem_mem Ge);simpa using this
   .rw[Kk (λh=>by simp at h;subst h;rw[L.cl.2]at hp;cases hp),Kk (λh=>by simp at h;subst h;rw[L.cl.1]at hp;cases hp)];exact L.S.F p v hp
 . have hr1:w1.heap[r]? =some (.mapIter (some (ρ b).aQ) since seen c):=(by rcases hal with rfl|rfl<;>exact hr);have ji:w1.heap[(ρ b).aQ]? =some (.map es' since):=(by rcases hal with rfl|rfl<;>exact q1);have FH:=Go.MapKept.heap_set (o':= .mapIter (some (ρ b).aQ) since (seen.push e'.born) since) hr1;obtain⟨w2,gS⟩:∃w2,w2=Go.ChangeMaps.setBlock w1 r (.mapIter (some (ρ b).aQ) since (seen.push e'.born) since):=⟨_,rfl⟩
   (change (Go.ChangeMaps.setBlock w1 r (.mapIter (some (ρ b).aQ) since (seen.push e'.born) since)).heap[r]? =_/\∀k,k≠r->(Go.ChangeMaps.setBlock w1 r (.mapIter (some (ρ b).aQ) since (seen.push e'.born) since)).heap[k]? =_ at FH;rw[<-gS]at FH dy;have wR:w2.heap.size=w.heap.size:=(by rw[gS];rcases hal with rfl|rfl<;>simp[Go.ChangeMaps.setBlock]<;>rfl);have rU:∀k,k≠r->w2.heap[k]? =w.heap[k]? :=λk hk=>(FH.2 k hk).trans (by rcases hal with rfl|rfl<;>rfl));have RA:w2.os=w.os/\w2.tape=w.tape/\w2.output=w.output:=(by rw[gS];rcases hal with rfl|rfl<;>exact⟨rfl,rfl,rfl⟩);clear gS hal;have hW2:bS ρ C A.2 w2:=L.S.W.iter hr L.sM wR rU;have hen:(Instr.entry (.pointer (some ⟨r,0,none⟩))).run P w2= .ok (.tuple #[e'.key,e'.val]) w2:=
     run_entry_at _ r _ since seen es' since e' FH.1 ((rU _ (L.sM b _ L.mp)).trans q1) (by simp[leftOf]at qf;simpa using qf.1) (gK ▸hnd)
   obtain⟨i,hi⟩:=Zl3.1 qf;have Ln:e'∈es'.toList/\seen.contains e'.born=false:=(by simpa [leftOf]using qf);obtain⟨j,hj⟩:=Zl3.1 Ln.1;obtain⟨e,h1,v1,v2,h2⟩:=UW j e' (by simpa using hj);obtain⟨B,⟨f1,s1,hx,hf,hB⟩,b17,bm,b18,b19,hQ⟩:=anh e (Zf2 h1) (by rw[h2];exact Ln.2);refine Br (i:=0) (o:=o0) rfl hR.n0.2.1 (v:= .tuple #[.bool true,e'.key,e'.val]) (w':=w2) (by simp[execOp,hR.n0.1,hit,dy,Result.andThen]) ?_;rw[hR.n0.2.2];refine Br (i:=1) (o:=o1) rfl hR.n1.2.1 (v:= .bool true) (w':=w2) (by simp[execOp,hR.n1.1,eval_put (fC ▸hR.lt.2.1),Instr.extract,Result.andThen]) ?_;rw[hR.n1.2.2];apply wp_seq;refine wp_cond_true (eval_put (by rw[Act.jQ,fC];exact hR.lt.2.2.1)) (wp_skip ?_);apply wp_block;apply wp_seq;apply wp_region;have hln:rq.size=g.l4.length+1:=(by have h:PZ.length=rq.size:=(by rw[(vP hR.c4).1,Zh7]);obtain⟨h4,_⟩:=Zc4.1 hR.n4.1;have h4:0<rq.size:=h4;rw[<-hR.l4,List.length_tail];omega);rw[hln,Zl8,Zq7];refine Br (i:=0) (o:=o4) hR.n4.1 hR.n4.2.2.1 (v:= .tuple #[e'.key,e'.val]) (w':=w2) (by simp[execOp,hR.n4.2.1,UU hR.ne.1.symm,UU hR.ne.2.1.symm,hit,hen,Result.andThen]) ?_;rw[hR.n4.2.2.2];unfold afu at hx;simp only[mN]at hx;rw[TL none hc]at hx;unfold sL at hx;(split at hx<;>first|(cases hx;done)|skip);rename_i y hy;simp only[agU hc]at hx;have hvt:aC ρ A.2.next.toNat C (.tuple [.bool true,e.1,e.2.1]) (.tuple #[.bool true,e'.key,e'.val]):= .pH ((aI.nil.cons v2).cons v1 |>.cons (.bool true));have hve:aC ρ A.2.next.toNat C (.tuple [e.1,e.2.1]) (.tuple #[e'.key,e'.val]):= .pH ((aI.nil.cons v2).cons v1);have F1:=kC.put (nt:=nt) (d:=some g.t18) L.S.F fC (λ_ h=>by cases h;exact hR.lt.2.1) hvt;have F2:=kC.put (nt:=nt) (d:=some g.t19) F1 (by rw[Act.jQ];exact fC) (λ_ h=>by cases h;exact hR.lt.2.2.1) (.bool true);have F3:=kC.put (nt:=nt) (d:=some g.t20) F2 (by rw[Act.jQ,Act.jQ];exact fC) (λ_ h=>by cases h;exact hR.lt.2.2.2) hve;refine Cy (nt:=nt) hT c9 g.l4 1 _ y.1 A.2 y.2 ρ _ w2 (λi ao hi=> ?_) hy ⟨hW2,F3,by rw[Act.jQ,Act.jQ,Act.jQ];exact fC,by rw[Act.lH,Act.lH,Act.lH];exact L.S.defers⟩ λa3 w3 hp=> ?_
   .rw[<-hR.l4,List.getElem?_tail]at hi;obtain⟨o,k1,k2,_⟩:=Ob hR.c4 (i+1) ao hi;exact⟨o,by rw[Zq9];exact k1,k2⟩
   obtain⟨Xl,S3,k1,k2,k3⟩:=hp;(refine(Cz hT c9 kX m).1 rest g.body y.1 f1 y.2 s1 .normal Xl a3 w3 _ hR.r4 hx S3 λa4 w4 hp=> ?_);have hP:=kz.trans k1 k2 k3 hp;show Q .normal a4 w4;have S2:xQ nt ρ C A.1 A.2 a w2:=⟨hW2,L.S.F,fC,L.S.defers⟩
   have hE2:nh mG MH w0 ρ A.2 w2:=⟨RA.1.trans L.E.os,RA.2.1.trans L.E.tape,RA.2.2.trans L.E.output,by rw[wR];exact L.E.size,λk hk hn=>(rU k (by have:=L.late;omega)).trans (L.E.block k hk hn),λb x hb=>L.E.xL b x hb⟩
   obtain⟨ρ4,S4,l1,l2,E4⟩:∃ρ4,xQ nt ρ4 C B.1 B.2 a4 w4/\(∀p:Pos,p.toNat<A.2.next.toNat->ρ4 p=ρ p)/\A.2.next.toNat<=B.2.next.toNat/\nh ρ A.2 w2 ρ4 B.2 w4:=by
     rcases hB with⟨rfl,hk⟩|hB
     .  obtain⟨S,E⟩:=S2.back hf hk hP;exact⟨ρ,S,λ_ _=>rfl,Za6 _,E⟩
     .  obtain⟨ρ4,S,l1,l2,E⟩:=hP;rw[<-hB]at S l2 E;exact⟨ρ4,⟨S.W,S.F.sub hf,S.size,S.defers⟩,l1,l2,E⟩
   have h4r:w4.heap[r]? =some (.mapIter (some (ρ b).aQ) since (seen.push e.2.2) since):=(by rw[E4.block r (by rw[wR];exact hrl) L.sM,h2];exact FH.1);refine hQ ρ4 a4 w4 ⟨S4,λp hp=>(l1 p (Zc5 hp L.k2)).trans (L.k1 p hp),Zb7 L.k2 l2,hE2.trans E4,?_,b17,bm,⟨since,?_,Za6 _⟩,λp x hp=> ?_,L.late,b18,b19⟩
   .rw[l1 MG L.ip.2.2];exact⟨L.ip.1,L.ip.2.1,Zc5 L.ip.2.2 l2⟩
   .rw[l1 b g1];exact h4r
   . rcases E4.xL p x hp with⟨p',x',hp',e1⟩|h
     .  rw[<-e1];exact L.sM p' x' hp'
     .  rw[wR]at h;omega
theorem agV{α:Type}{p q:α->Bool}(h:∀x,q x=true->p x=true){e:α}(hp:p e=true)(hq:q e=false):∀{l:List α},e∈l->(l.filter q).length<(l.filter p).length
 |[],h=>by simp at h
 |x ::l,hm=>by
  have hle:∀l:List α,(l.filter q).length<=(l.filter p).length:=λl=>by
    induction l with
    |nil=>simp
    |   cons y l ih=>
        have:=h y;cases hqy:q y<;>cases hpy:p y<;>simp_all<;>omega
  rcases Zb4.1 hm with rfl|hm
  .simp only[List.filter_cons,hp,hq,Zg7,Zd3,Ze8,Zc2];have:=hle l;omega
  .have ih:=agV h hp hq hm;have:=h x;cases hqx:q x<;>cases Bs:p x<;>simp_all<;>omega
theorem born_inj:∀{es:List (AV×AV×Nat)},(es.map (·.2.2)).Nodup->∀x∈es,∀y∈es,x.2.2=y.2.2->x=y
 |[],_,_,h,_,_,_=>by simp at h
 |e::es,hn,x,hx,y,hy,he=>by
  rw[Zb1,List.nodup_cons]at hn;rcases Zb4.1 hx with h1|h1<;>rcases Zb4.1 hy with h2|h2
  .rw[h1,h2]
  .subst h1;exact(hn.1 (he ▸Zd0.2 ⟨y,h2,rfl⟩)).elim
  .subst h2;exact(hn.1 (he ▸Zd0.2 ⟨x,h1,rfl⟩)).elim
  .exact born_inj hn.2 x h1 y h2 he
theorem LI.rounds(hT:cQ P tt)(hc:CK none bU call)(c9:iK P C call)(kX:xR P tt C call)(hR:aiM tt nt g o0 o1 o4 rq rest PZ bs)
  {X:Bool->Fr×St} {act:Nat} {b MG:Pos} {es:List (AV×AV×Nat)} {since r:Nat} {mG:Pos->Loc} {MH:St} {w0:World} (dB:YH since es=true) {Q:Exit->Act->World->Prop}
  (hm:∀e∈es,(e.2.2=act->Mv bU m g (X false) (X true) e)/\(e.2.2≠act->∀f,Mv bU m g (X f) (X f) e))
  (hX:∀f,(X f).1.get (key g.t17)=some (.ptr MG 0)/\(X f).2.heap.get b=some (.map es since)/\(X f).1.get (key g.t18)=none/\(X f).1.get (key g.t19)=none)
  (aiN:(∃e∈es,e.2.2=act)\/X false=X true)
  (hQ:∀a' w',kz nt mG C MH w0 (X true).1 (X true).2 a' w'->Q (.exit b0) a' w'):
  ∀ (n:Nat)(seen:Array Nat)(ρ:Pos->Loc)(a:Act)(w:World),(es.filter λe=> !seen.contains e.2.2).length<n->LI C nt g (X (seen.contains act)) b MG es since r mG MH w0 seen ρ a w->
    Code.rounds P (afw g o0 o1 rq rest i3 i4 b0 b1) Q n a w:=by
 intro n;induction n with
 |zero=>intro seen ρ a w hn;omega
 |succ n ih=>
  intro seen ρ a w hn L;rw[rounds_succ];refine L.round (m:=m) hT hc c9 kX hR dB (λnT a' S=> ?_) λe he hs=> ?_
  . have hx:X (seen.contains act)=X true:=by
        rcases aiN with⟨e,he,rfl⟩|h
        .rw[nT e he]
        . cases seen.contains act
          .exact h
          .rfl
    rw[hx]at S L;exact hQ a' w ⟨ρ,S,L.k1,L.k2,L.E⟩
  . have hp:∀y,(seen.push e.2.2).contains y=(seen.contains y||y==e.2.2):=λy=>by
        rw[Array.contains_push]
    have aW:(es.filter λx=> !(seen.push e.2.2).contains x.2.2).length<(es.filter λx=> !seen.contains x.2.2).length:=
        agV (e:=e) (λx hx=>by simp only[hp]at hx;simp at hx ⊢; exact hx.1) (by show(!seen.contains e.2.2)=true;rw[hs];rfl) (by show(!(seen.push e.2.2).contains e.2.2)=false;rw[hp];simp) he
    refine⟨X ((seen.push e.2.2).contains act),?_,(hX _).1,(hX _).2.1,(hX _).2.2.1,(hX _).2.2.2,λρ' a' w' L'=>ih _ ρ' a' w' (by omega) L'⟩;rw[hp act];by_cases ha:e.2.2=act
    .   subst ha;rw[hs];simpa using(hm e he).1 rfl
    .   have:(act==e.2.2)=false:=(by simpa using λh=>ha h.symm);rw[this,Zh0];exact(hm e he).2 ha _
theorem Il:∀(ps:List Pos)(fr:Fr)(p:Pos),p∈ps\/fr.get p=none->(clr ps fr).get p=none
 |[],_,_,h=>h.elim (λh=>by simp at h) id
 |q ::ps,fr,p,h=>Il ps _ p (by
  by_cases hq:q=p
  .subst hq;exact .inr (T.fP _ _ _)
  . rcases h with h|h
    .   rcases Zb4.1 h with h|h
        .exact(hq h.symm).elim
        .exact .inl h
    .   exact .inr (by rw[T.bY _ hq];exact h))
theorem Ko{ops:Array Oper}{Q:Exit->Act->World->Prop}{l2:List Nat}:∀(l1:List Nat)(a:Act)(w:World),wpOps P ops (Exit.then (wpOps P ops Q l2) Q) l1 a w->wpOps P ops Q (l1++l2) a w
 |[],_,_,h=>h
 |i ::l1,a,w,h=>by
  rw[Ze3];unfold wpOps at h ⊢;split
  .rename_i ho;rw[ho]at h;exact Ko l1 a w h
  . rename_i o ho;rw[ho]at h;simp only at h;split
    .   rename_i hw;rw[Zb5 hw]at h;refine h.imp (λh=> ?_) id;have h:=Oper.wp_mono (K':=wpOps P ops Q (l1++l2)) (λa w h=>Ko l1 a w h) h;unfold Oper.wp at h ⊢;generalize (execOp a.eval o).run P w=r at h ⊢;rcases r with⟨x,w⟩|⟨x,w⟩
        .cases x<;>exact h
        .cases x<;>exact h
    .   rename_i hw;rw[Zb2 hw]at h;exact Ko l1 _ w h
theorem bS.slot{ρ ρ':Pos->Loc}{st:St}{w:World}(hW:bS ρ C st w)(bG:∀p:Pos,p.toNat<st.next.toNat->ρ' p=ρ p):bS ρ' C ⟨st.heap,st.next.succ⟩ w:=by
 have hl:∀p x,st.heap.get p=some x->ρ' p=ρ p:=λp x hp=>bG p (hW.live p x hp).1
 refine⟨λp x hp=> ?_,λp q x y hp hq h=> ?_,λa v ha=>⟨(hW.dH a v ha).1,λp x hp=> ?_⟩,hW.whole⟩
 .obtain⟨h1,h2,h3⟩:=hW.live p x hp;rw[hl p x hp];exact⟨by rw[Pos.aK];exact Nat.lt_succ_of_lt h1,h2,h3.mono bG (by rw[Pos.aK];omega)⟩
 .rw[hl p x hp,hl q y hq]at h;exact hW.inj p q x y hp hq h
 .rw[hl p x hp];exact(hW.dH a v ha).2 p x hp
theorem oe.rng(hT:cQ P tt)(hc:CK none bU call)(c9:iK P C call)(kX:xR P tt C call)(hR:aiM tt nt g o0 o1 o4 rq rest PZ bs)
   {CH:Array Oper} {Xm:List bR} {o2:Oper} {x:Operand} {ty kt et:TypeId} {i2:Nat} {bs2:List Nat} (h2:sH tt nt CH CH.toList bs2=some Xm) (gx:Xm.dropLast=g.l2)
   (RA:CH[g.l2.length]? =some o2) (wR:CH.size=g.l2.length+1) (hop:o2.op= .range ty x) (ze:o2.guard=none) (hd2:o2.dst=some g.t17) (hx:sG x=some g.x) (aiO:P.underlying ty=some (.map kt et))
   (Mw:key g.t18∈g.ds/\key g.t19∈g.ds):oe P C nt (.seq (.region i2 CH false) (.block b0 (.loop (afw g o0 o1 rq rest i3 i4 b0 b1)))) (afv bU m g):=by
 intro fr bK st st' e ρ a w Q h hS hQ;unfold afv at h;rw[TL none hc]at h;unfold sL at h;split at h<;>first|(cases h;done)|skip
 rename_i y hy;simp only[abQ]at h;unfold sL at h;split at h<;>first|(cases h;done)|skip
 rename_i v hv;dsimp only at h;split at h<;>first|(cases h;done)|skip
 rename_i b;simp only[Bq]at h;split at h<;>first|(cases h;done)|skip
 rename_i es clock hb;split at h<;>first|(cases h;done)|skip
 rename_i dB;simp only[aen,mN,Oq]at h;apply wp_seq;apply wp_region;rw[wR,Zp5];apply Ko;rw[Zl8];refine Cy (nt:=nt) hT c9 g.l2 0 fr y.1 st y.2 ρ a w (λi ao hi=> ?_) hy hS λa2 w2 hp=> ?_
 .rw[<-gx,List.getElem?_dropLast]at hi;(split at hi<;>first|(cases hi;done)|skip);obtain⟨o,k1,k2,_⟩:=Ob h2 i ao hi;exact⟨o,by rw[Za5];exact k1,k2⟩
 obtain⟨tQ,S2,k1,k2,E2⟩:=hp;obtain⟨hbn,RF⟩:=(AY hx S2.F hv).Bn;obtain⟨g1,g2,es',q1,q2,q3⟩:=S2.W.live b _ hb;obtain⟨MI,Xn⟩:∃f,f=(clr g.ds y.1).put (some (.ptr y.2.next 0)) (key g.t17):=⟨_,rfl⟩
 rw[<-Xn]at h;obtain⟨Gh,Xo⟩:∃s:St,s=⟨y.2.heap,y.2.next.succ⟩:=⟨_,rfl⟩
 rw[<-Xo]at h;have n18:key g.t17≠key g.t18:=λe=>hR.ne.1 (by have:=congrArg Pos.toNat e;rw[iB,iB]at this;omega)
 have n19:key g.t17≠key g.t19:=λe=>hR.ne.2.1 (by have:=congrArg Pos.toNat e;rw[iB,iB]at this;omega)
 have key:∃(X:Bool->Fr×St) (act:Nat),X false=(MI,Gh)/\e= .normal/\X true=(bK,st')/\(∀e∈es,(e.2.2=act->Mv bU m g (X false) (X true) e)/\(e.2.2≠act->∀f,Mv bU m g (X f) (X f) e))/\
     (∀f,(X f).1.get (key g.t17)=some (.ptr y.2.next 0)/\(X f).2.heap.get b=some (.map es clock)/\(X f).1.get (key g.t18)=none/\(X f).1.get (key g.t19)=none)/\((∃e∈es,e.2.2=act)\/X false=X true):=by
   have hX0:MI.get (key g.t17)=some (.ptr y.2.next 0)/\Gh.heap.get b=some (.map es clock)/\MI.get (key g.t18)=none/\MI.get (key g.t19)=none:=by
     rw[Xn,Xo,T.fP,T.bY _ n18,T.bY _ n19];exact⟨rfl,hb,Il _ _ _ (.inl Mw.1),Il _ _ _ (.inl Mw.2)⟩
   split at h
   . (rename_i abZ;simp only[H0,Zc7]at h;obtain⟨rfl,rfl,rfl⟩:=h;have hid:∀e∈es,Mv bU m g (MI,Gh) (MI,Gh) e:=λe he=>YK (by rw[List.filter_eq_nil_iff]at abZ;have:=abZ e he;simpa using this));exact⟨λ_=>(MI,Gh),0,rfl,rfl,rfl,λe he=>⟨λ_=>hid e he,λ_ _=>hid e he⟩,λ_=>hX0,.inr rfl⟩
   . (rename_i e1 abZ;(split at h<;>first|(cases h;done)|skip);rename_i f1 s1 hr1;(split at h<;>first|(cases h;done)|skip);rename_i y1 v1 Rt hv1;(split at h<;>first|(cases h;done)|skip);rename_i nT;simp only[H0,Zc7]at h;obtain⟨rfl,rfl,rfl⟩:=h;simp only[Zb6]at nT;obtain⟨⟨c1,c2⟩,c3⟩:=nT;have c1:=VQ c1;have c2:=xS c2;subst c1;subst c2;have Ln:e1∈es:=by have:e1∈es.filter (λe=> !OA bU m g MI Gh e):=(by rw[abZ];simp);exact(Zk2.1 this).1);refine⟨λf=>if f then(clr g.ds f1,s1)else(MI,Gh),e1.2.2,rfl,rfl,rfl,λe he=>⟨λhb=> ?_,λhb f=> ?_⟩,λf=> ?_,.inl ⟨e1,Ln,rfl⟩⟩
     .  obtain rfl:=born_inj (YJ dB).2 e he e1 Ln hb;exact⟨f1,s1,hr1,YI _ _,.inr rfl⟩
     .  cases f
        . refine YK ?_;cases hi:OA bU m g MI Gh e
          .have:e∈es.filter (λe=> !OA bU m g MI Gh e):=Zk2.2 ⟨he,by rw[hi];rfl⟩;rw[abZ]at this;simp at this;exact(hb (by rw[this])).elim
          .rfl
        .refine YK ?_;have:=Zj3.1 c3 e he;simp only[Zg5]at this;exact this.resolve_left λh=>hb (Za7 h)
     .  cases f
        .exact hX0
        .exact⟨hv1,Rt,Il _ _ _ (.inl Mw.1),Il _ _ _ (.inl Mw.2)⟩
   .cases h
 obtain⟨X,act,x0,rfl,x1,hm,hX,aiN⟩:=key;show wpOps P _ _ [g.l2.length] a2 w2
 refine Br RA ze (v:= .pointer (some ⟨w2.heap.size,0,none⟩)) (w':=w2.alloc (.mapIter (some (tQ b).aQ) clock #[] clock))
   (by simp[execOp,hop,RF,run_range_map (P:=P) w2 ty kt et (tQ b).aQ es' clock aiO q1,Result.andThen]) ?_
 rw[hd2];show(Code.block b0 _).wp P Q _ _;apply wp_block;have hold:∀k,k<w2.heap.size->(w2.alloc (.mapIter (some (tQ b).aQ) clock #[] clock)).heap[k]? =w2.heap[k]? :=λk hk=>heap_alloc_old w2 _ hk
 have fC:(w2.alloc (.mapIter (some (tQ b).aQ) clock #[] clock)).heap.size=w2.heap.size+1:=by simp
 obtain⟨Xl,h3,bG⟩:∃Xl:Pos->Loc,Xl y.2.next=⟨w2.heap.size,0,0⟩/\∀p:Pos,p.toNat<y.2.next.toNat->Xl p=tQ p:=
   ⟨λp=>if p=y.2.next then⟨w2.heap.size,0,0⟩else tQ p,Zb5 rfl,λp hp=>Zb2 λe=>by subst e;omega⟩
 have hW3:bS Xl C Gh (w2.alloc (.mapIter (some (tQ b).aQ) clock #[] clock)):=by rw[Xo];exact(S2.W.slot bG).grow (by omega) hold
 have RJ:Gh.next.toNat=y.2.next.toNat+1:=by rw[Xo];exact Pos.aK _
 have hF3:kC Xl Gh.next.toNat C MI (a2.put (some g.t17) (.pointer (some ⟨w2.heap.size,0,none⟩))).tmps:=by rw[Xn];refine kC.put (nt:=nt) (d:=some g.t17) ((S2.F.sub (YI _ _)).mono bG (by omega)) S2.size (λ_ h=>by cases h;exact hR.lt.1) ?_;have:=aC.ptr (ρ:=Xl) (C:=C) y.2.next 0 (n:=Gh.next.toNat) (by omega);rw[h3]at this;exact this
 refine wp_loop_rounds (es.length+1) (LI.rounds (m:=m) (mG:=tQ) (MH:=y.2) (w0:=w2) (r:=w2.heap.size) hT hc c9 kX hR dB hm hX aiN (λa' w' hp=> ?_) (es.length+1) #[] Xl _ _
   (Nat.lt_succ_of_le (Zo1 ..)) ?_)
 .rw[x1]at hp;simp only[Exit.inBlock,Zg7];exact hQ a' w' (kz.trans k1 k2 E2 hp)
 . have:X ((#[]:Array Nat).contains act)=(MI,Gh):=(by simpa using x0);rw[this];refine⟨⟨hW3,hF3,by rw[Act.jQ];exact S2.size,by rw[Act.lH];exact S2.defers⟩,bG,by show y.2.next.toNat<=Gh.next.toNat;omega,
     ⟨rfl,rfl,rfl,by rw[fC];omega,λk hk _=>hold k hk,λp x hp=>.inl ⟨p,x,by rw[Xo]at hp;exact hp,by
        rw[Xo]at hp;rw[bG p (S2.W.live p x hp).1]⟩⟩,⟨by rw[h3],by rw[h3],by show _<Gh.next.toNat;omega⟩,x0 ▸(hX false).1,x0 ▸(hX false).2.1,⟨clock,?_,Za6 _⟩,λp x hp=> ?_,Za6 _,x0 ▸(hX false).2.2⟩
   .rw[bG b g1];exact heap_alloc_new w2 _
   .rw[Xo]at hp;obtain⟨l1,l2,_⟩:=S2.W.live p x hp;rw[bG p l1];omega
end
end
def xfn(ex:Fr->St->XR)(np:Nat)(rs:List Ml)(args:List AV)(st:St):Option (AV×St):=match Nat.beq args.length np with
 |  true=>match Mq args 0 .e λfr=>ex fr st with
    |some (.exit _,_,_)=>none
    |some (_,fr,st')=>match gw (λb=>AX b st'.heap) fr rs,Nat.ble st.next.toNat st'.next.toNat with
     |some vs,true=>some (yY vs,st')
     |_,_=>none
    |none=>none
 |false=>none
section
variable{P:Program}{tt:TT}{C:Cells}
theorem amo(hT:cQ P tt){f np:Nat}{fn:Func}{c:Code}{ex:Fr->St->XR}{rs:List Ml}(hf:P.funcs[f]? =some fn)(mC:(fn.name== "runtime.NumGoroutine")=false)(hb:fn.body=some c)
  (hx:oe P C fn.ntmps c ex) (hr:pG tt fn.results.toList=some rs) (hle:np<=fn.ntmps):oP P C f (xfn ex np rs) where
 mono args st v st' h:=by
  unfold xfn at h;split at h<;>first|(cases h;done)|skip
  split at h<;>first|(cases h;done)|skip
  split at h<;>first|(cases h;done)|skip
  rename_i hn;cases h;exact Za9 hn
 runs ρ st w args v st' bV h hW wP:=by
  unfold xfn at h;split at h<;>first|(cases h;done)|skip
  rename_i hlen;have hlen:=Za7 hlen;rw[Ou]at h;split at h<;>first|(cases h;done)|skip
  rename_i e eG bQ cA h1;split at h<;>first|(cases h;done)|skip
  rename_i vs Cr _;simp only[H0,Zc7]at h;obtain⟨rfl,rfl⟩:=h;have dy:(callFunc f bV.toArray).run P w= .ok (.enter f bV.toArray) w:=by
   have abJ:¬fn.name= "runtime.NumGoroutine" :=(by simpa using mC);simp[callFunc,hf,abJ,hb]
  rw[dy];simp only[Reaches];refine calls_of_wp hf hb ?_;have fC:bV.length<=fn.ntmps:=by rw[<-wP.1,hlen];exact hle
  have hS:xQ fn.ntmps ρ C (params 0 args .e) st { tmps:=bV.toArray++Array.replicate (fn.ntmps - bV.toArray.size) undef,defers:=[] } w:=by
   refine⟨hW,?_,?_,rfl⟩
   .    refine Oc args bV 0 .e wP (λj x hx=> ?_) (λp v hp=>by rw[T.eV]at hp;cases hp);have hj:j<bV.length:=(Za4.1 hx).1;rw[Za5,Zq3 (by simpa using hj)];simpa using hx
   .    simp;omega
  refine hx _ eG st bQ e ρ _ w _ h1 hS λa' w' hp=> ?_
  obtain⟨jH,Bp,k1,k2,k3⟩:=hp;simp only[Bq]at Cr;obtain⟨y,Rt,WL⟩:=FE hT Bp.W Bp.F hr Cr;cases e with
  |exit id=>exact(cA id rfl).elim
  |normal=>exact⟨Bp.defers,y,Rt,jH,WL,k1,k2,Bp.W,k3⟩
  |ret=>exact⟨Bp.defers,y,Rt,jH,WL,k1,k2,Bp.W,k3⟩
def idxS:List AV->St->Option (AV×St)
 |[.str a,.int .u8 c],st=>some (.int .i64 (Lib.indexByte (a.map UInt8.ofNat) c.toNat.toUInt8),st)
 |_,_=>none
def afy:List AV->St->Option (AV×St)
 |[.str a,.int .u8 c],st=>some (.int .i64 (Lib.countByte (a.map UInt8.ofNat) c.toNat.toUInt8),st)
 |_,_=>none
theorem agW{bs:ByteArray}{a:List Nat}(h:bs.data.toList.map UInt8.toNat=a):a.map UInt8.ofNat=bs.data.toList:=by
 rw[<-h,Zi0];have:(UInt8.ofNat∘UInt8.toNat)=id:=by funext c;simp
 rw[this,Zr4]
theorem ZV{f:FuncId}{fn:Func}{s:List AV->St->Option (AV×St)}{X:List UInt8->UInt8->Int}{e:Array Value->Sem Value}(hs:∀args st,s args st=match args with
   |[.str a,.int .u8 c]=>some (.int .i64 (X (a.map UInt8.ofNat) c.toNat.toUInt8),st)
   |_=>none)
  (hr:∀(b:ByteArray)(c:Int)(w:World),(e #[.string b,.int .u8 c]).run P w= .ok (.int .i64 (X b.data.toList c.toNat.toUInt8)) w)
  (hf:P.funcs[f]? =some fn) (mC:(fn.name== "runtime.NumGoroutine")=false) (hb:fn.body.isNone=true) (hx:Extern.findNext fn=none) (he:Extern.find fn=some e):oP P C f s where
 mono args st v st' h:=by rw[hs]at h;split at h<;>cases h;exact Za6 _
 runs ρ st w args v st' bV h hW hv:=by
  rw[hs]at h;split at h<;>cases h;rename_i a c;obtain⟨x,xs,rfl,h1,h2⟩:=hv.cons_inv;obtain⟨y,ys,rfl,h3,h4⟩:=h2.cons_inv;have:=h4.j5;subst this;obtain⟨b,rfl,gK⟩:=h1.eR;have:=h3.gX;subst this;have dy:(callFunc f [Value.string b,Value.int .u8 c].toArray).run P w= .ok (.value (.int .i64 (X b.data.toList c.toNat.toUInt8))) w:=by rw[run_callFunc_extern hf mC hb hx he];show((e #[.string b,.int .u8 c]).run P w).andThen _=_;rw[hr];rfl
  rw[dy];refine⟨ρ,?_,λ_ _=>rfl,Za6 _,hW,nh.refl _ _ _⟩;rw[agW gK];exact .int _ _
theorem aiP{f:FuncId}{fn:Func}(hf:P.funcs[f]? =some fn)(mC:(fn.name== "runtime.NumGoroutine")=false)(hb:fn.body.isNone=true)(hx:Extern.findNext fn=none)
  (he:Extern.find fn=some Extern.BytealgIndexByte.indexByte):oP P C f idxS:=
 ZV (X:=Lib.indexByte) (λargs st=>by unfold idxS;split<;>first|rfl|(split<;>first|rfl|simp_all)) (λb c w=>Lib.run_indexByteString b c w) hf mC hb hx he
theorem aiQ{f:FuncId}{fn:Func}(hf:P.funcs[f]? =some fn)(mC:(fn.name== "runtime.NumGoroutine")=false)(hb:fn.body.isNone=true)(hx:Extern.findNext fn=none)
  (he:Extern.find fn=some Extern.BytealgCount.count):oP P C f afy:=
 ZV (X:=λl c=>Lib.countByte l c) (λargs st=>by unfold afy;split<;>first|rfl|(split<;>first|rfl|simp_all)) (λb c w=>Lib.run_countString b c w) hf mC hb hx he
end
def OB:Code->List Nat
 |.region _ ops _=>ops.toList.filterMap (·.dst)
 |.seq a b=>OB a++OB b
 |.cond _ a b=>OB a++OB b
 |.block _ a=>OB a
 |.loop a=>OB a
 |_=>[]
def aky (tt :TT)(nt:Nat)(ds:List Nat)(b0 b0' t19:Nat)(o2 o0 o1 o4:Oper)(Xm PZ:List bR)(body:AC):Option (RG×Nat):=
 match o2.op,o0.op,o1.op,o4.op with
 |  .range ty x,.next (.tmp a0) false,.extract (.tmp a1) 0,.entry (.tmp a4)=>match o2.dst,o0.dst,o1.dst,o4.dst with
    |some t17,some t18,some c,some t20=>match o2.guard,o0.guard,o1.guard,o4.guard with
     |  none,none,none,none=>match sG x with
        |some xo=>match Nat.beq a0 t17&&Nat.beq a1 t18&&Nat.beq a4 t17&&Nat.beq c t19&&Nat.beq b0 b0'&&Nat.blt t17 nt&&Nat.blt t18 nt&&Nat.blt t19 nt&&Nat.blt t20 nt&&
            !Nat.beq t17 t18&& !Nat.beq t17 t19&& !Nat.beq t18 t19 with
         |true=>some (⟨t17,t18,t19,t20,Xm.dropLast,xo,PZ.tail,body,key t18::key t19::ds.map key⟩,ty)
         |false=>none
        |_=>none
     |_,_,_,_=>none
    |_,_,_,_=>none
 |_,_,_,_=>none
def ab0 (tt:TT)(nt:Nat):Code->Option (RG×Nat)
 |  .seq (.region _ CH false) (.block b0 (.loop (.seq (.region _ ⟨[o0,o1]⟩ false) (.seq (.cond (.tmp t19) .skip (.exit b0')) (.block _ (.seq (.region _ rq false) rest))))))=>
    match CH[CH.size - 1]?,rq[0]? with
    |some o2,some o4=>match sH tt nt CH CH.toList [],sH tt nt rq rq.toList []with
     |  some Xm,some PZ=>match ux tt nt rest with
        |some body=>aky tt nt (rq.toList.filterMap (·.dst)++OB rest) b0 b0' t19 o2 o0 o1 o4 Xm PZ body
        |none=>none
     |_,_=>none
    |_,_=>none
 |_=>none
section
variable{P:Program}{tt:TT}{C:Cells}{bU:qK XR}{call:aq}{nt m:Nat}
theorem oe.ab0(hT:cQ P tt)(hc:CK none bU call)(c9:iK P C call)(kX:xR P tt C call){c:Code}{g:RG}{ty:Nat}(h:ab0 tt nt c=some (g,ty))
  {kt et:TypeId} (aiO:P.underlying ty=some (.map kt et)):oe P C nt c (afv bU m g):=by
 unfold Go.Ai.ab0 at h;split at h<;>first|(cases h;done)|skip
 rename_i i2 CH b0 i3 o0 o1 t19 b0' b1 i4 rq rest;split at h<;>first|(cases h;done)|skip
 rename_i o2 o4 RA ho4;split at h<;>first|(cases h;done)|skip
 rename_i Xm PZ gx hl4;split at h<;>first|(cases h;done)|skip
 rename_i body afz;unfold aky at h;split at h<;>first|(cases h;done)|skip
 rename_i ty' x a0 a1 a4 p2 p0 p1 p4;split at h<;>first|(cases h;done)|skip
 rename_i t17 t18 c t20 d2 d0 d1 d4;split at h<;>first|(cases h;done)|skip
 rename_i g2 g0 g1 g4;split at h<;>first|(cases h;done)|skip
 rename_i xo hxo;split at h<;>first|(cases h;done)|skip
 rename_i hb;simp only[H0,Zc7]at h;obtain⟨rfl,rfl⟩:=h;simp only[Zb6,Zk1,Nat.beq_eq,Nat.blt_eq]at hb;obtain⟨⟨⟨⟨⟨⟨⟨⟨⟨⟨⟨rfl,rfl⟩,rfl⟩,rfl⟩,rfl⟩,l17⟩,l18⟩,l19⟩,l20⟩,n1⟩,n2⟩,n3⟩:=hb;have hs:Xm.length=CH.size:=(vP gx).1.trans (Zh7 ..);have h0:0<CH.size:=by have:=(Zc4.1 RA).1;omega
 exact oe.rng hT hc c9 kX (i3:=i3) (i4:=i4) (b1:=b1) ⟨⟨p0,g0,d0⟩,⟨p1,g1,d1⟩,⟨ho4,p4,g4,d4⟩,⟨l17,l18,l19,l20⟩,⟨Ze6 n1,Ze6 n2,Ze6 n3⟩,hl4,rfl,afz⟩ gx rfl
  (by rw[List.length_dropLast,hs];exact RA) (by show CH.size=Xm.dropLast.length+1;rw[List.length_dropLast,hs];omega) p2 g2 d2 hxo aiO ⟨by simp,by simp⟩
def RS:Code->Bool
 |.region _ ops _=>ops.toList.any λo=>match o.op with|.range _ _=>true|_=>false
 |.seq a b=>RS a||RS b
 |.cond _ a b=>RS a||RS b
 |.block _ a=>RS a
 |.loop a=>RS a
 |_=>false
def Xp (P:Program)(tt:TT)(bU:qK XR)(m nt:Nat):Code->Fr->St->XR
 |  .seq a b=>match Go.Ai.ab0 tt nt (.seq a b)with
    |some (g,ty)=>match P.underlying ty with
     |some (.map _ _)=>afv bU m g
     |_=>λ_ _=>none
    |none=>match RS a||RS b with
     |true=>aiL (Xp P tt bU m nt a) (Xp P tt bU m nt b)
     |  false=>match ux tt nt (.seq a b)with
        |some ac=>exK bU m ac
        |none=>λ_ _=>none
 |  c=>match ux tt nt c with
    |some ac=>exK bU m ac
    |none=>λ_ _=>none
theorem oe.no{c:Code}:oe P C nt c (λ_ _=>none):=λ_ _ _ _ _ _ _ _ _ h=>by cases h
theorem oe.Xp(hT:cQ P tt)(hc:CK none bU call)(c9:iK P C call)(kX:xR P tt C call):∀c:Code,oe P C nt c (Xp P tt bU m nt c):=by
 intro c;induction c with
 |seq   a b iha ihb=>
  unfold Go.Ai.Xp;split
  . split
    .   rename_i h _ _ _ hu;exact .ab0 hT hc c9 kX h hu
    .   exact .no
  . split
    .   exact iha.seq ihb
    .   split
        .exact .ac hT hc c9 kX (by assumption)
        .exact .no
 |_=>
  unfold Go.Ai.Xp;split
  .exact .ac hT hc c9 kX (by assumption)
  .exact .no
def abh(P:Program)(tt:TT)(O:eE)(G:T dF)(m d:Nat)(fn:Func):List AV->St->Option (AV×St):=
 match fn.body,pG tt fn.results.toList,Nat.ble (fn.params.size+fn.nfree) fn.ntmps with
 |some c,some rs,true=>xfn (Xp P tt (J6 none O G m d) m fn.ntmps c) (fn.params.size+fn.nfree) rs
 |_,_,_=>λ_ _=>none
theorem aiR(hm:P.follows .mixedOrders=true)(hT:cQ P tt){O:eE}{G:T dF}(hO:uA P C O)(RM:mZ O)(hG:WZ P tt G){f d:Nat}{fn:Func}(hf:P.funcs[f]? =some fn)
   (mC:(fn.name== "runtime.NumGoroutine")=false):oP P C f (abh P tt O G m d fn):=by
 have c9:=CD (C:=C) hm hT hO RM hG m d;have hcm:=CA (G:=G) RM m d;have key:∀c rs,fn.body=some c->pG tt fn.results.toList=some rs->Nat.ble (fn.params.size+fn.nfree) fn.ntmps=true->oP P C f (xfn (Xp P tt (J6 none O G m d) m fn.ntmps c) (fn.params.size+fn.nfree) rs):=
   λc rs hb hr hle=>amo hT hf mC hb (.Xp hT (En none O G m d) c9 (Om hm hT c9 hcm) c) hr (Za9 hle)
 unfold abh;split
 .exact key _ _ (by assumption) (by assumption) (by assumption)
 .exact⟨λ_ _ _ _ h=>(by cases h),λ_ _ _ _ _ _ _ h=>(by cases h)⟩
end
end
noncomputable section
open Go
inductive Sh where
 |leaf
 |seq (jn:Option (List Pos)) (a b:Sh)
 |cond (a b:Sh)
 |block (a:Sh)
 |loop (j:Nat) (ins:List Pos) (outs:List (Nat×List Pos)) (a:Sh)
variable{R:Type}
abbrev LpK(R:Type):=Nat->List AV->St->Option R
abbrev Env(R:Type):=Nat->LpK R->Nat->List AV->St->Option R
def eP(l:List AV)(k:AV->List AV->Option R):Option R:=match l with
 |v::vs=>k v vs
 |[]=>none
def iD(l:List AV)(k:Option R):Option R:=match l with
 |[]=>k
 |_::_=>none
def aj(c:aq)(k:aJ)(xs:List AV)(st:St)(K:AV->St->Option R):Option R:=match cJ c k xs st with
 |some (v,st')=>K v st'
 |none=>none
def bT(c:aq)(g:AV)(want:Bool)(k:aJ)(xs:List AV)(st:St)(K:AV->St->Option R):Option R:=match g with
 |  .bool b=>match b==want with
    |true=>aj c k xs st K
    |false=>K .undef st
 |.tuple _=>K .undef st
 |_=>none
def gU(k:aJ)(xs:List AV)(K:AV->Option R):Option R:=match k.run (λ_=>none) .h xs with
 |some (.val v)=>K v
 |_=>none
def UX(g:AV)(want:Bool)(k:aJ)(xs:List AV)(K:AV->Option R):Option R:=match g with
 |  .bool b=>match b==want with
    |true=>gU k xs K
    |false=>K .undef
 |.tuple _=>K .undef
 |_=>none
def kB(k:aJ)(xs:List AV)(h:T AB)(ok:AV->Bool)(K:AV->Option R):Option R:=match k.run (λ_=>none) .h xs with
 |some (.val v)=>K v
 |  _=>match k.run (λb=>h.get b) .h xs with
    |some (.val v)=>match ok v with
     |true=>K v
     |false=>none
    |_=>none
def UY(g:AV)(want:Bool)(k:aJ)(xs:List AV)(h:T AB)(ok:AV->Bool)(K:AV->Option R):Option R:=match g with
 |  .bool b=>match b==want with
    |true=>kB k xs h ok K
    |false=>K .undef
 |.tuple _=>K .undef
 |_=>none
def Xq(k:aJ)(xs:List AV)(st:St)(K:AV->AB->Option R):Option R:=match k.run (λ_=>none) st.next xs with
 |some (.br v none none (some aQ))=>K v aQ
 |_=>none
def UZ(g:AV)(want:Bool)(A B:Option R):Option R:=match g with
 |  .bool b=>match b==want with
    |true=>A
    |false=>B
 |.tuple _=>B
 |_=>none
def MJ(v:AV)(A B:Option R):Option R:=match v with
 |.bool true=>A
 |.bool false=>B
 |_=>none
def fB(f:(List AV->St->Option R)->Option R)(k:List AV->St->Option R):Option R:=f k
def VT (c:aq):List bR->Fr->St->(Fr->St->Option R)->Option R
 |[],fr,st,K=>K fr st
 |  o::os,fr,st,K=>match fE fr o.xs with
    |some xs=>match o.guard with
     |none=>aj c o.k xs st λv st=>VT c os (dZ fr o.dst v) st K
     |  some (p,want)=>match fr.get p with
        |some g=>bT c g want o.k xs st λv st=>VT c os (dZ fr o.dst v) st K
        |none=>none
    |none=>none
def qc (c:aq ):List (Nat×bR)->List Rec->T AB->Fr->St->(Fr->St->Option R)->Option R
 |[],_,_,fr,st,K=>K fr st
 |  (j, o):: os,recs,base,fr,st,K=>match fE fr o.xs with
    | some xs=>match o.cls with
      | .pure=>match o.guard with
        |none=>gU o.k xs λv=>qc c os ({ idx:=j,o:=o,v:=v,c:= .pure,nx:=st.next }::recs) base (dZ fr o.dst v) st K
        |some (p,want)=>match fr.get p with
         |some g=>UX g want o.k xs λv=>qc c os ({ idx:=j,o:=o,v:=v,c:= .pure,nx:=st.next }::recs) base (dZ fr o.dst v) st K
         |none=>none
      | .read=>match o.guard with
        |none=>kB o.k xs (snap o.bZ base recs) (λv=>mL o.bZ o.k xs v [] recs) λv=>qc c os ({ idx:=j,o:=o,v:=v,c:= .pure,nx:=st.next }::recs) base (dZ fr o.dst v) st K
        |some (p,want)=>match fr.get p with
         |some g=>UY g want o.k xs (snap o.bZ base recs) (λv=>mL o.bZ o.k xs v [] recs) λv=>qc c os ({ idx:=j,o:=o,v:=v,c:= .pure,nx:=st.next }::recs) base (dZ fr o.dst v) st K
         |none=>none
      | .new=>match o.guard with
        |none=>Xq o.k xs st λv aQ=>qc c os ({ idx:=j,o:=o,v:=v,c:= .new st.next aQ,nx:=st.next.succ }::recs) base (dZ fr o.dst v) { heap:=st.heap.put (some aQ) st.next,next:=st.next.succ } K
        |some (p,want)=>match fr.get p with
         |some g=>UZ g want (Xq o.k xs st λv aQ=>qc c os ({ idx:=j,o:=o,v:=v,c:= .new st.next aQ,nx:=st.next.succ }::recs) base (dZ fr o.dst v) { heap:=st.heap.put (some aQ) st.next,next:=st.next.succ } K)
             (qc c os ({ idx:=j,o:=o,v:= .undef,c:= .pure,nx:=st.next }::recs) base (dZ fr o.dst .undef) st K)
         |none=>none
      | .br=>match o.guard with
        |none=>aj c o.k xs st λv st'=>qc c os ({ idx:=j,o:=o,v:=v,c:= .br base st'.heap,nx:=st'.next }::recs) st'.heap (dZ fr o.dst v) st' K
        |some (p,want)=>match fr.get p with
         |some g=>UZ g want (aj c o.k xs st λv st'=>qc c os ({ idx:=j,o:=o,v:=v,c:= .br base st'.heap,nx:=st'.next }::recs) st'.heap (dZ fr o.dst v) st' K)
             (qc c os ({ idx:=j,o:=o,v:= .undef,c:= .pure,nx:=st.next }::recs) base (dZ fr o.dst .undef) st K)
         |none=>none
    |none=>none
def RT:List Pos->Fr->(List AV->Option R)->Option R
 |[],_,k=>k []
 |  p::ps,fr,k=>match fr.get p with
    |some v=>RT ps fr λvs=>k (v::vs)
    |none=>none
def RU:List Pos->List AV->Fr->(Fr->Option R)->Option R
 |[],vs,fr,k=>iD vs (k fr)
 |p::ps,vs,fr,k=>eP vs λv vs=>RU ps vs (fr.put (some v) p) k
def TP:List (Nat×List Pos)->Nat->List Pos
 |[],_=>[]
 |  (i,l)::r,e=>match Nat.beq i e with
    |true=>l
    |false=>TP r e
def exOf:Nat->mY
 |0=>.normal
 |1=>.ret
 |n+2=>.exit n
def RW(D:Fr->St->(mY->Fr->St->Option R)->Option R)(ins:List Pos)(outs:List (Nat×List Pos))(K':LpK R)(again:List AV->St->Option R)(vs:List AV)(st:St):Option R:=
 RU ins vs .e λfr=>D fr st λex fr st=>match ex with
    |.normal=>RT ins fr λvs=>again vs st
    |.exit i=>RT (TP outs (i+2)) fr λos=>K' (i+2) os st
    |.ret=>RT (TP outs 1) fr λos=>K' 1 os st
def knk(outs:List (Nat×List Pos))(K:mY->Fr->St->Option R):LpK R:=λe os st=>RU (TP outs e) os .e λfr=>K (exOf e) fr st
def den (c:aq)(F:Nat)(L:Env R):AC->Sh->Fr->St->(mY->Fr->St->Option R)->Option R
 |.skip,_,fr,st,K=>K .normal fr st
 |.region ops,_,fr,st,K=>VT c ops fr st (K .normal)
 |.draw ops,_,fr,st,K=>qc c ops [] st.heap fr st (K .normal)
 |  .seq a b,s,fr,st,K=>match s with
    | .seq none s t=>den c F L a s fr st λex fr st=>match ex with
      |.normal=>den c F L b t fr st K
      |.exit i=>K (.exit i) fr st
      |.ret=>K .ret fr st
    | .seq (some l) s t=>fB (λK'=>den c F L a s fr st λex fr st=>match ex with
      |.normal=>RT l fr λvs=>K' vs st
      |.exit i=>K (.exit i) fr st
      |.ret=>K .ret fr st) (λvs st=>RU l vs .e λfr=>den c F L b t fr st K)
    |_=>none
 |  .cond x a b,s,fr,st,K=>match s with
    | .cond s t=>match ET fr x with
      |some v=>MJ v (den c F L a s fr st K) (den c F L b t fr st K)
      |none=>none
    |_=>none
 |  .block id a,s,fr,st,K=>match s with
    | .block s=>den c F L a s fr st λex fr st=>match ex with
      |.normal=>K .normal fr st
      | .exit i=>match Nat.beq i id with
        |true=>K .normal fr st
        |false=>K (.exit i) fr st
      |.ret=>K .ret fr st
    |_=>none
 |  .loop _,s,fr,st,K=>match s with
    |.loop j ins outs _=>RT ins fr λvs=>L j (knk outs K) F vs st
    |_=>none
 |.exit id,_,fr,st,K=>K (.exit id) fr st
 |.ret,_,fr,st,K=>K .ret fr st
def CI(c:aq)(F:Nat)(L:Env R)(a:AC):Sh->Prop
 |.loop j ins outs s=>∀K',(∀vs st,L j K' 0 vs st=none)/\∀n vs st,L j K' (n+1) vs st=RW (den c F L a s) ins outs K' (L j K' n) vs st
 |_=>False
def zI(c:aq)(F:Nat)(L:Env R):AC->Sh->Prop
 |  .seq a b,s=>match s with
    |.seq _ s t=>zI c F L a s/\zI c F L b t
    |_=>True
 |  .cond _ a b,s=>match s with
    |.cond s t=>zI c F L a s/\zI c F L b t
    |_=>True
 |  .block _ a,s=>match s with
    |.block s=>zI c F L a s
    |_=>True
 |  .loop a,s=>match s with
    |.loop j ins outs s=>CI c F L a (.loop j ins outs s)/\zI c F L a s
    |_=>True
 |_,_=>True
def gC:AC->Sh->List (AC×Sh)
 |  .seq a b,s=>match s with
    |.seq _ s t=>gC a s++gC b t
    |_=>[]
 |  .cond _ a b,s=>match s with
    |.cond s t=>gC a s++gC b t
    |_=>[]
 |  .block _ a,s=>match s with
    |.block s=>gC a s
    |_=>[]
 |  .loop a,s=>match s with
    |.loop j ins outs s=>(a,.loop j ins outs s)::gC a s
    |_=>[]
 |_,_=>[]
theorem Ep{c:aq}{F:Nat}{L:Env R}:∀(a:AC)(s:Sh),(∀x∈gC a s,CI c F L x.1 x.2)->zI c F L a s
 |.skip,_,_=>trivial
 |.region _,_,_=>trivial
 |.draw _,_,_=>trivial
 |.exit _,_,_=>trivial
 |.ret,_,_=>trivial
 | .seq a b,s,h=>by
   cases s<;>simp only[zI]<;>simp only[gC,Ze7]at h;exact⟨Ep a _ λx hx=>h x (.inl hx),Ep b _ λx hx=>h x (.inr hx)⟩
 | .cond x a b,s,h=>by
   cases s<;>simp only[zI]<;>simp only[gC,Ze7]at h;exact⟨Ep a _ λx hx=>h x (.inl hx),Ep b _ λx hx=>h x (.inr hx)⟩
 |.block id a,s,h=>by cases s<;>simp only[zI]<;>simp only[gC]at h;exact Ep a _ h
 | .loop a,s,h=>by
   cases s<;>simp only[zI]<;>simp only[gC,Zb4]at h;exact⟨h _ (.inl rfl),Ep a _ λx hx=>h x (.inr hx)⟩
def Sub(a b:Fr):Prop:=∀p v,a.get p=some v->b.get p=some v
theorem Sub.refl(a:Fr):Sub a a:=λ_ _ h=>h
theorem Sub.put{a b:Fr}(h:Sub a b)(p:Pos)(v:AV):Sub (a.put (some v) p) (b.put (some v) p):=λq u hq=>by
 by_cases e:p=q
 .subst e;rw[T.fP]at hq ⊢; exact hq
 .rw[T.bY _ e]at hq ⊢; exact h _ _ hq
theorem Sub.dst{a b:Fr}(h:Sub a b)(d:Option Pos)(v:AV):Sub (dZ a d v) (dZ b d v):=by
 cases d with
 |none=>exact h
 |some p=>exact h.put p v
theorem Sub.ev{a b:Fr}(h:Sub a b){x:gO}{v:AV}(e:ET a x=some v):ET b x=some v:=by
 cases x with
 |t p=>exact h _ _ e
 |c v=>exact e
theorem Sub.evs{a b:Fr}(h:Sub a b):∀{xs:List gO}{vs:List AV},fE a xs=some vs->fE b xs=some vs
 |[],_,e=>e
 |x::xs,vs,e=>by
  unfold fE at e ⊢;cases hx:ET a x with
  |none=>simp[hx]at e
  |some v=>
   simp only[hx]at e;cases hs:fE a xs with
   |none=>simp[hs]at e
   |some us=>simp only[hs]at e;simp only[h.ev hx,h.evs hs];exact e
theorem OC {c:aq}:∀(os:List bR){fr fF:Fr}{st:St}{K:Fr->St->Option R}{r:R},Sub fr fF->VT c os fr st K=some r->
  ∃bK dR st',lK c os fF st=some (dR,st')/\Sub bK dR/\K bK st'=some r
 |[],fr,fF,st,K,r,hs,h=>⟨fr,fF,st,rfl,hs,h⟩
 |o::os,fr,fF,st,K,r,hs,h=>by
  unfold VT at h;cases hx:fE fr o.xs with
  |none=>simp[hx]at h
  |some xs=>
   simp only[hx]at h;have hstp:∀{st},aj c o.k xs st (λv st=>VT c os (dZ fr o.dst v) st K)=some r->cw fF o.guard=some true->∃bK dR st',lK c (o::os) fF st=some (dR,st')/\Sub bK dR/\K bK st'=some r:=λ{st} h hw=>by
        unfold aj at h;cases nj:cJ c o.k xs st with
        |none=>simp[nj]at h
        |some p=>
         simp only[nj]at h;obtain⟨bK,dR,st',h1,h2⟩:=OC os (hs.dst o.dst p.1) h;exact⟨bK,dR,st',by unfold lK;simp only[hw,hs.evs hx,nj];exact h1,h2⟩
   have MK:∀{st},VT c os (dZ fr o.dst .undef) st K=some r->cw fF o.guard=some false->∃bK dR st',lK c (o::os) fF st=some (dR,st')/\Sub bK dR/\K bK st'=some r:=λ{st} h hw=>by
        obtain⟨bK,dR,st',h1,h2⟩:=OC os (hs.dst o.dst .undef) h;exact⟨bK,dR,st',by unfold lK;simp only[hw];exact h1,h2⟩
   cases hg:o.guard with
   |none=>simp only[hg]at h;exact hstp h (by rw[hg];rfl)
   |    some pw=>
        obtain⟨p,want⟩:=pw;simp only[hg]at h;cases hp:fr.get p with
        |none=>simp[hp]at h
        |some g=>
         simp only[hp]at h;have Bs:=hs _ _ hp;unfold bT at h;split at h
         .  rename_i b;split at h
            .rename_i hb;exact hstp h (by rw[hg];simp[cw,Bs,hb])
            .rename_i hb;exact MK h (by rw[hg];simp[cw,Bs,hb])
         .  exact MK h (by rw[hg];simp[cw,Bs])
         .  cases h
theorem U0 {c : aq}:∀(os:List (Nat×bR))(recs:List Rec)(base:T AB){fr fF:Fr}{st:St}{K:Fr->St->Option R}{r:R},Sub fr fF->qc c os recs base fr st K=some r->
  ∃bK dR st',dV c os recs base fF st=some (dR,st')/\Sub bK dR/\K bK st'=some r
 |[],_,_,fr,fF,st,K,r,hs,h=>⟨fr,fF,st,rfl,hs,h⟩
 |(j,   o)::  os, recs,base,fr,fF,st,K,r,hs,h=>by
  have ih:=λrecs base {fr fF:Fr}{st:St}{K:Fr->St->Option R}{r:R}=>U0 (c:=c) os recs base (fr:=fr) (fF:=fF) (st:=st) (K:=K) (r:=r)
  unfold qc at h;cases hx:fE fr o.xs with
  |none=>simp[hx]at h
  | some xs   =>
    simp only[hx]at h;have hxx:=hs.evs hx;have MK:∀{st},qc c os ({ idx:=j,o:=o,v:= .undef,c:= .pure,nx:=st.next }::recs) base (dZ fr o.dst .undef) st K=some r->cw fF o.guard=some false->∃bK dR st',dV c ((j,o)::os) recs base fF st=some (dR,st')/\Sub bK dR/\K bK st'=some r:=λ{st} h hw=>by
        obtain⟨bK,dR,st',h1,h2⟩:=ih _ _ (hs.dst o.dst .undef) h;exact⟨bK,dR,st',by unfold dV;simp only[hw];exact h1,h2⟩
    cases hc:o.cls with
    |   pure=>
        simp only[hc]at h;have RX:gU o.k xs (λv=>qc c os ({ idx:=j,o:=o,v:=v,c:= .pure,nx:=st.next }::recs) base (dZ fr o.dst v) st K)=some r->cw fF o.guard=some true->∃bK dR st',dV c ((j,o)::os) recs base fF st=some (dR,st')/\Sub bK dR/\K bK st'=some r:=λh hw=>by
         unfold gU at h;split at h
         .  rename_i v hv;obtain⟨bK,dR,st',h1,h2⟩:=ih _ _ (hs.dst o.dst v) h;exact⟨bK,dR,st',by unfold dV;simp only[hw,hxx,hc,hv];exact h1,h2⟩
         .  cases h
        cases hg:o.guard with
        |none=>simp only[hg]at h;exact RX h (by rw[hg];rfl)
        |some pw=>
         obtain⟨p,want⟩:=pw;simp only[hg]at h;cases hp:fr.get p with
         |none=>simp[hp]at h
         |  some g=>
            simp only[hp]at h;have Bs:=hs _ _ hp;unfold UX at h;split at h
            . split at h
              .rename_i hb;exact RX h (by rw[hg];simp[cw,Bs,hb])
              .rename_i hb;exact MK h (by rw[hg];simp[cw,Bs,hb])
            .exact MK h (by rw[hg];simp[cw,Bs])
            .cases h
    |   read=>
        simp only[hc]at h;have RX : kB o.k xs (snap o.bZ base recs) (λv=>mL o.bZ o.k xs v [] recs) (λv=>qc c os ({ idx:=j,o:=o,v:=v,c:= .pure,nx:=st.next }::recs) base (dZ fr o.dst v) st K)=some r->cw fF o.guard=some true->∃bK dR st',dV c ((j,o)::os) recs base fF st=some (dR,st')/\Sub bK dR/\K bK st'=some r:=λh hw=>by
         unfold kB at h;split at h
         .  rename_i v hv;obtain⟨bK,dR,st',h1,h2⟩:=ih _ _ (hs.dst o.dst v) h;exact⟨bK,dR,st',by unfold dV;simp only[hw,hxx,hc,hv];exact h1,h2⟩
         .  rename_i oY;split at h
            . rename_i v hv;split at h
              . rename_i cR;obtain⟨bK,dR,st',h1,h2⟩:=ih _ _ (hs.dst o.dst v) h;refine⟨bK,dR,st',?_,h2⟩;unfold dV;simp only[hw,hxx,hc];cases hr:o.k.run (λ_=>none) .h xs with
                |none=>simp only[hv,cR];exact h1
                | some x=>cases x with
                  |val u=>exact absurd hr (oY u)
                  |br v d e n=>simp only[hv,cR];exact h1
                  |call f xs=>simp only[hv,cR];exact h1
              .cases h
            .cases h
        cases hg:o.guard with
        |none=>simp only[hg]at h;exact RX h (by rw[hg];rfl)
        |some pw=>
         obtain⟨p,want⟩:=pw;simp only[hg]at h;cases hp:fr.get p with
         |none=>simp[hp]at h
         |  some g=>
            simp only[hp]at h;have Bs:=hs _ _ hp;unfold UY at h;split at h
            . split at h
              .rename_i hb;exact RX h (by rw[hg];simp[cw,Bs,hb])
              .rename_i hb;exact MK h (by rw[hg];simp[cw,Bs,hb])
            .exact MK h (by rw[hg];simp[cw,Bs])
            .cases h
    |   new =>
        simp only[hc]at h;have RX:Xq o.k xs st (λv aQ=>qc c os ({ idx:=j,o:=o,v:=v,c:= .new st.next aQ,nx:=st.next.succ }::recs) base (dZ fr o.dst v) { heap:=st.heap.put (some aQ) st.next,next:=st.next.succ } K)=some r->cw fF o.guard=some true->∃bK dR st',dV c ((j,o)::os) recs base fF st=some (dR,st')/\Sub bK dR/\K bK st'=some r:=λh hw=>by
         unfold Xq at h;split at h
         .  rename_i v aQ hv;obtain⟨bK,dR,st',h1,h2⟩:=ih _ _ (hs.dst o.dst v) h;exact⟨bK,dR,st',by unfold dV;simp only[hw,hxx,hc,hv];exact h1,h2⟩
         .  cases h
        cases hg:o.guard with
        |none=>simp only[hg]at h;exact RX h (by rw[hg];rfl)
        |some pw=>
         obtain⟨p,want⟩:=pw;simp only[hg]at h;cases hp:fr.get p with
         |none=>simp[hp]at h
         |  some g=>
            simp only[hp]at h;have Bs:=hs _ _ hp;unfold UZ at h;split at h
            . split at h
              .rename_i hb;exact RX h (by rw[hg];simp[cw,Bs,hb])
              .rename_i hb;exact MK h (by rw[hg];simp[cw,Bs,hb])
            .exact MK h (by rw[hg];simp[cw,Bs])
            .cases h
    |   br=>
        simp only[hc]at h;have RX:aj c o.k xs st (λv st'=>qc c os ({ idx:=j,o:=o,v:=v,c:= .br base st'.heap,nx:=st'.next }::recs) st'.heap (dZ fr o.dst v) st' K)=some r->cw fF o.guard=some true->∃bK dR st',dV c ((j,o)::os) recs base fF st=some (dR,st')/\Sub bK dR/\K bK st'=some r:=λh hw=>by
         unfold aj at h;cases nj:cJ c o.k xs st with
         |none=>simp[nj]at h
         |  some p=>
            simp only[nj]at h;obtain⟨bK,dR,st',h1,h2⟩:=ih _ _ (hs.dst o.dst p.1) h;exact⟨bK,dR,st',by unfold dV;simp only[hw,hxx,hc,nj];exact h1,h2⟩
        cases hg:o.guard with
        |none=>simp only[hg]at h;exact RX h (by rw[hg];rfl)
        |some pw=>
         obtain⟨p,want⟩:=pw;simp only[hg]at h;cases hp:fr.get p with
         |none=>simp[hp]at h
         |  some g=>
            simp only[hp]at h;have Bs:=hs _ _ hp;unfold UZ at h;split at h
            . split at h
              .rename_i hb;exact RX h (by rw[hg];simp[cw,Bs,hb])
              .rename_i hb;exact MK h (by rw[hg];simp[cw,Bs,hb])
            .exact MK h (by rw[hg];simp[cw,Bs])
            .cases h
def Has:List Pos->List AV->Fr->Prop
 |[],[],_=>True
 |p::ps,v::vs,fr=>fr.get p=some v/\Has ps vs fr
 |_,_,_=>False
theorem Has.sub{a b:Fr}(hs:Sub a b):∀{ps:List Pos}{vs:List AV},Has ps vs a->Has ps vs b
 |[],[],_=>trivial
 |[],_::_,h=>h
 |_::_,[],h=>h
 |_::_,_::_,h=>⟨hs _ _ h.1,Has.sub hs h.2⟩
theorem Bt:∀{ps:List Pos}{fr:Fr}{k:List AV->Option R}{r:R},RT ps fr k=some r->∃vs,Has ps vs fr/\k vs=some r
 |[],_,_,_,h=>⟨[],trivial,h⟩
 |p::ps,fr,k,r,h=>by
  unfold RT at h;cases hp:fr.get p with
  |none=>simp[hp]at h
  |some v=>
   simp only[hp]at h;obtain⟨vs,h1,h2⟩:=Bt h;exact⟨v::vs,⟨hp,h1⟩,h2⟩
theorem E5:∀{ps:List Pos}{vs:List AV}{fr fF:Fr}{k:Fr->Option R}{r:R},RU ps vs fr k=some r->Has ps vs fF->Sub fr fF->∃bK,Sub bK fF/\k bK=some r
 |[],vs,fr,fF,k,r,h,_,hs=>by
  unfold RU iD at h;split at h
  .exact⟨fr,hs,h⟩
  .cases h
 |p::ps,[],fr,fF,k,r,h,hh,hs=>by simp[RU,eP]at h
 |p::ps,v::vs,fr,fF,k,r,h,hh,hs=>by
  unfold RU eP at h;refine E5 h hh.2 λq u hq=> ?_
  by_cases e:p=q
  .subst e;rw[T.fP]at hq;cases hq;exact hh.1
  .rw[T.bY _ e]at hq;exact hs _ _ hq
theorem HJ{c:aq}{n m:Nat}(h:n<=m){a:AC}{fr:Fr}{st:St}{r:mY×Fr×St}(e:exec c n a fr st=some r):exec c m a fr st=some r:=TO (US.refl c) n m h _ _ _ _ e
theorem qO{c:aq}{F:Nat}{L:Env R}:∀(a:AC)(s:Sh),zI c F L a s->∀{fr fF:Fr}{st:St}{K:mY->Fr->St->Option R}{r:R},Sub fr fF->den c F L a s fr st K=some r->
   ∃n ex bK dR st',exec c n a fF st=some (ex,dR,st')/\Sub bK dR/\K ex bK st'=some r
 |.skip,s,_,fr,fF,st,K,r,hs,h=>⟨1,.normal,fr,fF,st,rfl,hs,by simpa [den]using h⟩
 |.exit id,s,_,fr,fF,st,K,r,hs,h=>⟨1,.exit id,fr,fF,st,rfl,hs,by simpa [den]using h⟩
 |.ret,s,_,fr,fF,st,K,r,hs,h=>⟨1,.ret,fr,fF,st,rfl,hs,by simpa [den]using h⟩
 | .region ops,s,_,fr,fF,st,K,r,hs,h=>by
   simp only[den]at h;obtain⟨bK,dR,st',h1,h2,h3⟩:=OC ops hs h;exact⟨1,.normal,bK,dR,st',by simp only[exec,bF,h1],h2,h3⟩
 | .draw ops,s,_,fr,fF,st,K,r,hs,h=>by
   simp only[den]at h;obtain⟨bK,dR,st',h1,h2,h3⟩:=U0 ops _ _ hs h;exact⟨1,.normal,bK,dR,st',by simp only[exec,bF,h1],h2,h3⟩
 | .seq a b,s,cR,fr,fF,st,K,r,hs,h=>by
   (cases s<;>simp only[den]at h<;>first|(cases h;done)|skip);rename_i jn s t;simp only[zI]at cR;cases jn with
   |none=>
    simp only at h;obtain⟨n,ex,eG,vU,bQ,h1,h2,h3⟩:=qO a s cR.1 hs h;cases ex with
    |   normal=>
        obtain⟨m,ex,PV,ab1,zZ,k1,k2,k3⟩:=qO b t cR.2 h2 h3;exact⟨max n m+1,ex,PV,ab1,zZ,by simp only[exec,bF,HJ (Zj6 n m) h1];exact HJ (Zi8 n m) k1,k2,k3⟩
    |exit i=>exact⟨n+1,.exit i,eG,vU,bQ,by simp only[exec,bF,h1],h2,h3⟩
    |ret=>exact⟨n+1,.ret,eG,vU,bQ,by simp only[exec,bF,h1],h2,h3⟩
   |some l=>
    simp only[fB]at h;obtain⟨n,ex,eG,vU,bQ,h1,h2,h3⟩:=qO a s cR.1 hs h;cases ex with
    |   normal=>
        obtain⟨vs,g1,g2⟩:=Bt h3;obtain⟨bK,g3,g4⟩:=E5 g2 (Has.sub h2 g1) (λp v hp=>by rw[T.eV]at hp;cases hp);obtain⟨m,ex,PV,ab1,zZ,k1,k2,k3⟩:=qO b t cR.2 g3 g4;exact⟨max n m+1,ex,PV,ab1,zZ,by simp only[exec,bF,HJ (Zj6 n m) h1];exact HJ (Zi8 n m) k1,k2,k3⟩
    |exit i=>exact⟨n+1,.exit i,eG,vU,bQ,by simp only[exec,bF,h1],h2,h3⟩
    |ret=>exact⟨n+1,.ret,eG,vU,bQ,by simp only[exec,bF,h1],h2,h3⟩
 | .cond x a b,s,cR,fr,fF,st,K,r,hs,h=>by
   (cases s<;>simp only[den]at h<;>first|(cases h;done)|skip);simp only[zI]at cR;cases hx:ET fr x with
   |none=>simp[hx]at h
   |some v=>
    simp only[hx]at h;unfold MJ at h;split at h
    .   obtain⟨n,ex,eG,vU,bQ,h1,h2,h3⟩:=qO a _ cR.1 hs h;exact⟨n+1,ex,eG,vU,bQ,by simp only[exec,bF,hs.ev hx];exact h1,h2,h3⟩
    .   obtain⟨n,ex,eG,vU,bQ,h1,h2,h3⟩:=qO b _ cR.2 hs h;exact⟨n+1,ex,eG,vU,bQ,by simp only[exec,bF,hs.ev hx];exact h1,h2,h3⟩
    .   cases h
 | .block id a,s,cR,fr,fF,st,K,r,hs,h=>by
   (cases s<;>simp only[den]at h<;>first|(cases h;done)|skip);simp only[zI]at cR;obtain⟨n,ex,eG,vU,bQ,h1,h2,h3⟩:=qO a _ cR hs h;cases ex with
   |normal=>exact⟨n+1,.normal,eG,vU,bQ,by simp only[exec,bF,h1],h2,h3⟩
   |ret=>exact⟨n+1,.ret,eG,vU,bQ,by simp only[exec,bF,h1],h2,h3⟩
   |exit i=>
    simp only at h3;cases hb:Nat.beq i id with
    |true=>simp only[hb]at h3;exact⟨n+1,.normal,eG,vU,bQ,by simp only[exec,bF,h1,hb],h2,h3⟩
    |false=>simp only[hb]at h3;exact⟨n+1,.exit i,eG,vU,bQ,by simp only[exec,bF,h1,hb],h2,h3⟩
 | .loop a,s,cR,fr,fF,st,K,r,hs,h=>by
   (cases s<;>simp only[den]at h<;>first|(cases h;done)|skip);rename_i j ins outs s;simp only[zI,CI]at cR;obtain⟨ani,cR⟩:=cR;obtain⟨vs,g1,g2⟩:=Bt h;obtain⟨hz,hsu⟩:=ani (knk outs K)
   have main:∀(n:Nat)(vs:List AV)(st:St)(fF:Fr),Has ins vs fF->L j (knk outs K) n vs st=some r->
        ∃m ex bK dR st',exec c m (.loop a) fF st=some (ex,dR,st')/\Sub bK dR/\K ex bK st'=some r:=by
    intro n;induction n with
    |zero=>intro vs st fF _ h;rw[hz]at h;cases h
    |   succ n ihn=>
        intro vs st fF hh h;rw[hsu]at h;unfold RW at h;obtain⟨cM,q1,q2⟩:=E5 h hh (λp v hp=>by rw[T.eV]at hp;cases hp);obtain⟨m,ex,eG,vU,bQ,h1,h2,h3⟩:=qO a s cR q1 q2;cases ex with
        |normal=>
         obtain⟨us,p1,p2⟩:=Bt h3;obtain⟨m',ex,PV,ab1,zZ,k1,k2,k3⟩:=ihn us bQ vU (Has.sub h2 p1) p2;exact⟨max m m'+1,ex,PV,ab1,zZ,by simp only[exec,bF,HJ (Zj6 m m') h1];exact HJ (Zi8 m m') k1,k2,k3⟩
        |exit i=>
         obtain⟨os,p1,p2⟩:=Bt h3;obtain⟨PV,p3,p4⟩:=E5 p2 (Has.sub h2 p1) (λp v hp=>by rw[T.eV]at hp;cases hp);exact⟨m+1,.exit i,PV,vU,bQ,by simp only[exec,bF,h1],p3,p4⟩
        |ret=>
         obtain⟨os,p1,p2⟩:=Bt h3;obtain⟨PV,p3,p4⟩:=E5 p2 (Has.sub h2 p1) (λp v hp=>by rw[T.eV]at hp;cases hp);exact⟨m+1,.ret,PV,vU,bQ,by simp only[exec,bF,h1],p3,p4⟩
   exact main F vs st fF (Has.sub hs g1) g2
def VU:(H:Pos->Option AB)->Fr->List Ml->(List AV->Option R)->Option R
 |_,_,[],k=>k []
 |  H,fr,.tmp p::rs,k=>match fr.get p with
    |some v=>VU H fr rs λvs=>k (v::vs)
    |none=>none
 |  H,fr,.cell p n::rs,k=>match fr.get p with
    |some q=>match (aJ.load n).run H .h [q]with
     |some (.val v)=>VU H fr rs λvs=>k (v::vs)
     |_=>none
    |none=>none
def ldr(n:Option Nat)(q:AV)(st:St)(K:AV->Option R):Option R:=match (aJ.load n).run (λb=>st.heap.get b) .h [q]with
 |some (.val v)=>K v
 |_=>none
theorem Kq{H:Pos->Option AB}{fr fF:Fr}(hs:Sub fr fF):∀{rs:List Ml}{k:List AV->Option R}{r:R},VU H fr rs k=some r->∃vs,gw H fF rs=some vs/\k vs=some r
 |[],k,r,h=>⟨[],rfl,h⟩
 | .tmp p::rs,k,r,h=>by
   unfold VU at h;cases hp:fr.get p with
   |none=>simp[hp]at h
   |some v=>
    simp only[hp]at h;obtain⟨vs,h1,h2⟩:=Kq hs h;exact⟨v::vs,by unfold gw;simp only[hs _ _ hp,h1],h2⟩
 | .cell p n::rs,k,r,h=>by
   unfold VU at h;cases hp:fr.get p with
   |none=>simp[hp]at h
   |some q=>
    simp only[hp]at h;split at h
    .   rename_i v hv;obtain⟨vs,h1,h2⟩:=Kq hs h;exact⟨v::vs,by unfold gw;simp only[hs _ _ hp,hv,h1],h2⟩
    .   cases h
def Lp(c:aq)(F:Nat)(L:Env (AV×St))(A:dF)(s:Sh)(args:List AV)(st:St):Option (AV×St):=
 match Nat.beq args.length A.nparams with
 |  true=>den c F L A.code s (params 0 args .e) st λex fr st=>match ex with
    |.normal=>VU (λb=>st.heap.get b) fr A.results λvs=>some (yY vs,st)
    |.ret=>VU (λb=>st.heap.get b) fr A.results λvs=>some (yY vs,st)
    |.exit _=>none
 |false=>none
theorem aiS{O:eE}{G:T dF}{F:Nat}{L:Env (AV×St)}{f:FuncId}{A:dF}{s:Sh}{args:List AV}{st:St}{r:AV×St}(ho:O f=none)(hF:G.get (key f)=some A)
  (hL:∀x∈gC A.code s,CI (run O G) F L x.1 x.2) (h:Lp (run O G) F L A s args st=some r):run O G f args st=some (tidy st r):=by
 unfold Lp at h;split at h<;>first|(cases h;done)|skip
 rename_i hlen;obtain⟨n,ex,bK,dR,st',h1,h2,h3⟩:=qO A.code s (Ep _ _ hL) (Sub.refl _) h;refine aiK (n:=n) ho hF ?_;unfold wO;simp only[hlen,h1];cases ex with
 |normal=>
  obtain⟨vs,k1,k2⟩:=Kq h2 h3;simp only[k1];exact k2
 |ret=>
  obtain⟨vs,k1,k2⟩:=Kq h2 h3;simp only[k1];exact k2
 |exit i=>cases h3
def ah(st:St)(b:AB):St:={ heap:=st.heap.put (some b) st.next,next:=st.next.succ }
def afA{R:Type}:List (Nat×(LpK R->Nat->List AV->St->Option R))->Env R
 |[]=>λ_ _ _ _ _=>none
 |  (i,g)::l=>λj K n=>match Nat.beq i j with
    |true=>g K n
    |false=>afA l j K n
def jR(A:dF)(s:Sh)(i:Nat):AC×Sh:=(gC A.code s).getD i (.skip,.leaf)
theorem aiT{R:Type}{c:aq}{F:Nat}{L:Env R}{A:dF}{s:Sh}(n:Nat)(hn:Nat.beq (gC A.code s).length n=true)(h:∀i,i<n->CI c F L (jR A s i).1 (jR A s i).2):
  ∀x∈gC A.code s,CI c F L x.1 x.2:=by
 intro x hx;obtain⟨i,hi,he⟩:=Zf0.1 hx;have hn:=Za7 hn;have:=h i (by omega);unfold jR at this;rw[Ze4,Za0 hi]at this;simp only[Zj8,he]at this;exact this
def ab2:Sh->Bool
 |.loop _ _ _ _=>true
 |_=>false
def lpJ:Sh->Nat
 |.loop j _ _ _=>j
 |_=>0
def lpI:Sh->List Pos
 |.loop _ i _ _=>i
 |_=>[]
def lpO:Sh->List (Nat×List Pos)
 |.loop _ _ o _=>o
 |_=>[]
def lpB:Sh->Sh
 |.loop _ _ _ s=>s
 |_=>.leaf
theorem cq{R:Type}{c:aq}{F:Nat}{L:Env R}{A:dF}{sh:Sh}{i:Nat}(j:Nat)(hs:(ab2 (jR A sh i).2&&Nat.beq (lpJ (jR A sh i).2) j)=true)(h0:∀K' vs st,L j K' 0 vs st=none)
  (h1:∀K' n vs st,L j K' (n+1) vs st=RW (den c F L (jR A sh i).1 (lpB (jR A sh i).2)) (lpI (jR A sh i).2) (lpO (jR A sh i).2) K' (L j K' n) vs st):CI c F L (jR A sh i).1 (jR A sh i).2:=by
 generalize (jR A sh i).1=a at*
 generalize (jR A sh i).2=t at*
 cases t with
 |loop j' ins outs s=>
  simp only[ab2,lpJ,Zf7]at hs;obtain rfl:=Za7 hs;exact λK'=>⟨h0 K',h1 K'⟩
 |_=>simp[ab2]at hs
end
end Go.Ai
section
namespace Go.Ai
open Go
theorem cN(k:IntKind):HU k k=true:=by cases k<;>rfl
theorem iy(a b:Int):EL a b=decide (a=b):=by rw[pI];rfl
theorem fG(a b:List Nat):kL a b=decide (a=b):=by rw[Zk7,qN];simp
theorem wrap64{x:Int}(h1: -9223372036854775808<=x)(h2:x<=9223372036854775807):az .i64 x=x:=by
 unfold az loI hiI;simp only;split
 . split
   .rfl
   .contradiction
 .contradiction
theorem kF(k:IntKind)(n:Nat):zH (.int k (n:Int))=some n:=id rfl
theorem eZ(a b:Nat):Nat.ble a b=decide (a<=b):=by apply Zk7.2;simp
theorem Hg(a b:Nat):Nat.blt a b=decide (a<b):=by apply Zk7.2;simp[Nat.blt,Nat.ble_eq];omega
theorem eD(a b:Nat):Nat.beq a b=decide (a=b):=by apply Zk7.2;simp
def AZ{R:Type}(o:Option AV)(k:AV->Option R):Option R:=match o with
 |some v=>k v
 |none=>none
def Er{R:Type}(o:Option (List AV))(k:List AV->Option R):Option R:=match o with
 |some v=>k v
 |none=>none
def VV{R:Type}(o:Option (AV×St))(k:AV->St->Option R):Option R:=match o with
 |some (v,st)=>k v st
 |none=>none
section
variable{R:Type}(c:aq)(K:AV->St->Option R)(K1:AV->Option R)(A B:Option R)
@[simp] theorem aD(v:AV)(k:AV->Option R):AZ (some v) k=k v:=id rfl
@[simp] theorem cT(v:List AV)(k:List AV->Option R):Er (some v) k=k v:=id rfl
@[simp] theorem aR(v:AV)(st:St)(k:AV->St->Option R):VV (some (v,st)) k=k v st:=id rfl
@[simp] theorem bk:MJ (.bool true) A B=A:=id rfl
@[simp] theorem aX:MJ (.bool false) A B=B:=id rfl
@[simp] theorem au(v:AV)(vs:List AV)(k:AV->List AV->Option R):eP (v::vs) k=k v vs:=id rfl
@[simp] theorem ay(k:Option R):iD [] k=k:=id rfl
theorem bO(f:(List AV->St->Option R)->Option R)(k:List AV->St->Option R):fB f k=f k:=id rfl
@[simp] theorem dI(b:Bool)(k:aJ)(xs:List AV)(st:St):bT c (.bool b) b k xs st K=aj c k xs st K:=by cases b<;>exact id rfl
@[simp] theorem z8(k:aJ)(xs:List AV)(st:St):bT c (.bool true) false k xs st K=K .undef st:=id rfl
@[simp] theorem ML(k:aJ)(xs:List AV)(st:St):bT c (.bool false) true k xs st K=K .undef st:=id rfl
@[simp] theorem gst_un(b:Bool)(k:aJ)(xs:List AV)(st:St):bT c .undef b k xs st K=K .undef st:=id rfl
@[simp] theorem fQ(b:Bool)(k:aJ)(xs:List AV):UX (.bool b) b k xs K1=gU k xs K1:=by cases b<;>exact id rfl
@[simp] theorem oh(k:aJ)(xs:List AV):UX (.bool true) false k xs K1=K1 .undef:=id rfl
@[simp] theorem nk(k:aJ)(xs:List AV):UX (.bool false) true k xs K1=K1 .undef:=id rfl
@[simp] theorem om(b:Bool)(k:aJ)(xs:List AV):UX .undef b k xs K1=K1 .undef:=id rfl
@[simp] theorem fh(b:Bool)(k:aJ)(xs:List AV)(h:T AB)(ok:AV->Bool):UY (.bool b) b k xs h ok K1=kB k xs h ok K1:=by cases b<;>exact id rfl
@[simp] theorem oo(k:aJ)(xs:List AV)(h:T AB)(ok:AV->Bool):UY (.bool true) false k xs h ok K1=K1 .undef:=id rfl
@[simp] theorem nu(k:aJ)(xs:List AV)(h:T AB)(ok:AV->Bool):UY (.bool false) true k xs h ok K1=K1 .undef:=id rfl
@[simp] theorem oq(b:Bool)(k:aJ)(xs:List AV)(h:T AB)(ok:AV->Bool):UY .undef b k xs h ok K1=K1 .undef:=id rfl
@[simp] theorem gG(b:Bool):UZ (.bool b) b A B=A:=by cases b<;>exact id rfl
@[simp] theorem wnt_tf:UZ (.bool true) false A B=B:=id rfl
@[simp] theorem vz:UZ (.bool false) true A B=B:=id rfl
@[simp] theorem xV(b:Bool):UZ .undef b A B=B:=id rfl
theorem Im{k:aJ}{xs:List AV}{o:Option AV}(h:∀H n,k.run H n xs=o.map .val)(st:St):aj c k xs st K=AZ o λv=>K v st:=by unfold aj cJ;rw[h];cases o<;>rfl
theorem Xr{k:aJ}{xs:List AV}{o:Option AV}(h:∀H n,k.run H n xs=o.map .val):gU k xs K1=AZ o K1:=by unfold gU;rw[h];cases o<;>rfl
theorem bC{k:aJ}{xs:List AV}{v:AV}(h:∀H n,k.run H n xs=some (.val v))(st:St):aj c k xs st K=K v st:=by
 unfold aj cJ;rw[h]
theorem dJ{k:aJ}{xs:List AV}{v:AV}(h:∀H n,k.run H n xs=some (.val v)):gU k xs K1=K1 v:=by
 unfold gU;rw[h]
theorem aT(f:FuncId)(l:List AV)(st:St):aj c (.callF f) l st K=VV (c f l st) K:=by unfold aj cJ;show(match c f l st with|some (v,st')=>K v st'|none=>none)=_;cases c f l st<;>rfl
theorem kR(f:FuncId)(l u v:List AV)(st:St):aj c .callV (.func f u v::l) st K=VV (c f (u++(l++v)) st) K:=by unfold aj cJ;show(match c f (u++(l++v)) st with|some (v,st')=>K v st'|none=>none)=_;cases c f (u++(l++v)) st<;>rfl
attribute [simp] aT kR
end
def cellsOf:Option AB->Option (List AV)
 |some (.cells cs _)=>some cs
 |_=>none
@[simp] theorem ak(cs:List AV)(f:Nat):cellsOf (some (.cells cs f))=some cs:=id rfl
def ro(es:Nat)(z:Bool)(rs:List (List AV)):AV:=match z,rs with
 |true,[]=>.af
 |_,rs=>.fl rs es
theorem aeo{es:Nat}{z:Bool}{rs:List (List AV)}(h:rs≠[]):ro es z rs= .fl rs es:=by
 unfold ro;split
 .exact absurd rfl h
 .rfl
theorem run_move(H:Pos->Option AB)(n:Pos)(x:AV):aJ.run H n .move [x]=some (.val x):=rfl
@[simp] theorem ai{R:Type}(c:aq)(K:AV->St->Option R)(st:St)(x:AV):aj c .move [x] st K=K x st:=bC c K (λH n=>run_move H n x) st
@[simp] theorem bH{R:Type}(K:AV->Option R)(x:AV):gU .move [x] K=K x:=dJ K (λH n=>run_move H n x)
theorem Xs(H:Pos->Option AB)(n:Pos)(x y:AV):aJ.run H n .pick [.bool true,x,y]=some (.val x):=rfl
@[simp] theorem fc{R:Type}(c:aq)(K:AV->St->Option R)(st:St)(x y:AV):aj c .pick [.bool true,x,y] st K=K x st:=bC c K (λH n=>Xs H n x y) st
@[simp] theorem dc{R:Type}(K:AV->Option R)(x y:AV):gU .pick [.bool true,x,y] K=K x:=dJ K (λH n=>Xs H n x y)
theorem Xt(H:Pos->Option AB)(n:Pos)(x y:AV):aJ.run H n .pick [.bool false,x,y]=some (.val y):=rfl
@[simp] theorem eM{R:Type}(c:aq)(K:AV->St->Option R)(st:St)(x y:AV):aj c .pick [.bool false,x,y] st K=K y st:=bC c K (λH n=>Xt H n x y) st
@[simp] theorem eN{R:Type}(K:AV->Option R)(x y:AV):gU .pick [.bool false,x,y] K=K y:=dJ K (λH n=>Xt H n x y)
theorem aep(H:Pos->Option AB)(n:Pos)(p:Bool):aJ.run H n (.un .not) [.bool p]=some (.val (.bool (!p))):=rfl
@[simp] theorem Es{R:Type}(c:aq)(K:AV->St->Option R)(st:St)(p:Bool):aj c (.un .not) [.bool p] st K=K (.bool (!p)) st:=bC c K (λH n=>aep H n p) st
@[simp] theorem Et{R:Type}(K:AV->Option R)(p:Bool):gU (.un .not) [.bool p] K=K (.bool (!p)):=dJ K (λH n=>aep H n p)
theorem aeq(H:Pos->Option AB)(n:Pos)(q:fM)(k:IntKind)(a b:Int):aJ.run H n (.bin .lss q) [.int k a,.int k b]=some (.val (.bool (decide (a<b)))):=by simp[aJ.run,jg,pE,cN,iy,eW,jP,fG]
@[simp] theorem aE{R:Type}(c:aq)(K:AV->St->Option R)(st:St)(q:fM)(k:IntKind)(a b:Int):aj c (.bin .lss q) [.int k a,.int k b] st K=K (.bool (decide (a<b))) st:=bC c K (λH n=>aeq H n q k a b) st
@[simp] theorem vQ{R:Type}(K:AV->Option R)(q:fM)(k:IntKind)(a b:Int):gU (.bin .lss q) [.int k a,.int k b] K=K (.bool (decide (a<b))):=dJ K (λH n=>aeq H n q k a b)
theorem aer(H:Pos->Option AB)(n:Pos)(q:fM)(k:IntKind)(a b:Int):aJ.run H n (.bin .leq q) [.int k a,.int k b]=some (.val (.bool (decide (a<=b)))):=by simp[aJ.run,jg,pE,cN,iy,eW,jP,fG]
@[simp] theorem HN{R:Type}(c:aq)(K:AV->St->Option R)(st:St)(q:fM)(k:IntKind)(a b:Int):aj c (.bin .leq q) [.int k a,.int k b] st K=K (.bool (decide (a<=b))) st:=bC c K (λH n=>aer H n q k a b) st
@[simp] theorem aoj{R:Type}(K:AV->Option R)(q:fM)(k:IntKind)(a b:Int):gU (.bin .leq q) [.int k a,.int k b] K=K (.bool (decide (a<=b))):=dJ K (λH n=>aer H n q k a b)
theorem aes(H:Pos->Option AB)(n:Pos)(q:fM)(k:IntKind)(a b:Int):aJ.run H n (.bin .gtr q) [.int k a,.int k b]=some (.val (.bool (decide (b<a)))):=by simp[aJ.run,jg,pE,cN,iy,eW,jP,fG]
@[simp] theorem nK{R:Type}(c:aq)(K:AV->St->Option R)(st:St)(q:fM)(k:IntKind)(a b:Int):aj c (.bin .gtr q) [.int k a,.int k b] st K=K (.bool (decide (b<a))) st:=bC c K (λH n=>aes H n q k a b) st
@[simp] theorem YL{R:Type}(K:AV->Option R)(q:fM)(k:IntKind)(a b:Int):gU (.bin .gtr q) [.int k a,.int k b] K=K (.bool (decide (b<a))):=dJ K (λH n=>aes H n q k a b)
theorem aet(H:Pos->Option AB)(n:Pos)(q:fM)(k:IntKind)(a b:Int):aJ.run H n (.bin .geq q) [.int k a,.int k b]=some (.val (.bool (decide (b<=a)))):=by simp[aJ.run,jg,pE,cN,iy,eW,jP,fG]
@[simp] theorem MM{R:Type}(c:aq)(K:AV->St->Option R)(st:St)(q:fM)(k:IntKind)(a b:Int):aj c (.bin .geq q) [.int k a,.int k b] st K=K (.bool (decide (b<=a))) st:=bC c K (λH n=>aet H n q k a b) st
@[simp] theorem aok{R:Type}(K:AV->Option R)(q:fM)(k:IntKind)(a b:Int):gU (.bin .geq q) [.int k a,.int k b] K=K (.bool (decide (b<=a))):=dJ K (λH n=>aet H n q k a b)
theorem aeu(H:Pos->Option AB)(n:Pos)(q:fM)(k:IntKind)(a b:Int):aJ.run H n (.bin .eql q) [.int k a,.int k b]=some (.val (.bool (decide (a=b)))):=by simp[aJ.run,jg,pE,cN,iy,eW,jP,fG]
@[simp] theorem nL{R:Type}(c:aq)(K:AV->St->Option R)(st:St)(q:fM)(k:IntKind)(a b:Int):aj c (.bin .eql q) [.int k a,.int k b] st K=K (.bool (decide (a=b))) st:=bC c K (λH n=>aeu H n q k a b) st
@[simp] theorem j6{R:Type}(K:AV->Option R)(q:fM)(k:IntKind)(a b:Int):gU (.bin .eql q) [.int k a,.int k b] K=K (.bool (decide (a=b))):=dJ K (λH n=>aeu H n q k a b)
theorem aev(H:Pos->Option AB)(n:Pos)(q:fM)(k:IntKind)(a b:Int):aJ.run H n (.bin .neq q) [.int k a,.int k b]=some (.val (.bool (!decide (a=b)))):=by simp[aJ.run,jg,pE,cN,iy,eW,jP,fG]
@[simp] theorem nM{R:Type}(c:aq)(K:AV->St->Option R)(st:St)(q:fM)(k:IntKind)(a b:Int):aj c (.bin .neq q) [.int k a,.int k b] st K=K (.bool (!decide (a=b))) st:=bC c K (λH n=>aev H n q k a b) st
@[simp] theorem aol{R:Type}(K:AV->Option R)(q:fM)(k:IntKind)(a b:Int):gU (.bin .neq q) [.int k a,.int k b] K=K (.bool (!decide (a=b))):=dJ K (λH n=>aev H n q k a b)
theorem aew(H:Pos->Option AB)(n:Pos)(q:fM)(k:IntKind)(a b:Int):aJ.run H n (.bin .add q) [.int k a,.int k b]=some (.val (.int k (az k (a+b)))):=by simp[aJ.run,jg,pE,cN,iy,eW,jP,fG]
@[simp] theorem bw{R:Type}(c:aq)(K:AV->St->Option R)(st:St)(q:fM)(k:IntKind)(a b:Int):aj c (.bin .add q) [.int k a,.int k b] st K=K (.int k (az k (a+b))) st:=bC c K (λH n=>aew H n q k a b) st
@[simp] theorem TQ{R:Type}(K:AV->Option R)(q:fM)(k:IntKind)(a b:Int):gU (.bin .add q) [.int k a,.int k b] K=K (.int k (az k (a+b))):=dJ K (λH n=>aew H n q k a b)
theorem aex(H:Pos->Option AB)(n:Pos)(q:fM)(k:IntKind)(a b:Int):aJ.run H n (.bin .sub q) [.int k a,.int k b]=some (.val (.int k (az k (a - b)))):=by simp[aJ.run,jg,pE,cN,iy,eW,jP,fG]
@[simp] theorem mO{R:Type}(c:aq)(K:AV->St->Option R)(st:St)(q:fM)(k:IntKind)(a b:Int):aj c (.bin .sub q) [.int k a,.int k b] st K=K (.int k (az k (a - b))) st:=bC c K (λH n=>aex H n q k a b) st
@[simp] theorem HO{R:Type}(K:AV->Option R)(q:fM)(k:IntKind)(a b:Int):gU (.bin .sub q) [.int k a,.int k b] K=K (.int k (az k (a - b))):=dJ K (λH n=>aex H n q k a b)
theorem akX(H:Pos->Option AB)(n:Pos)(q:fM)(k:IntKind)(a b:Int):aJ.run H n (.bin .mul q) [.int k a,.int k b]=some (.val (.int k (az k (a*b)))):=by simp[aJ.run,jg,pE,cN,iy,eW,jP,fG]
@[simp] theorem aey{R:Type}(c:aq)(K:AV->St->Option R)(st:St)(q:fM)(k:IntKind)(a b:Int):aj c (.bin .mul q) [.int k a,.int k b] st K=K (.int k (az k (a*b))) st:=bC c K (λH n=>akX H n q k a b) st
theorem ab3(H:Pos->Option AB)(n:Pos)(q:fM)(s t:List Nat):aJ.run H n (.bin .eql q) [.str s,.str t]=some (.val (.bool (decide (s=t)))):=by simp[aJ.run,jg,pE,cN,iy,eW,jP,fG]
@[simp] theorem Eu{R:Type}(c:aq)(K:AV->St->Option R)(st:St)(q:fM)(s t:List Nat):aj c (.bin .eql q) [.str s,.str t] st K=K (.bool (decide (s=t))) st:=bC c K (λH n=>ab3 H n q s t) st
@[simp] theorem jk{R:Type}(K:AV->Option R)(q:fM)(s t:List Nat):gU (.bin .eql q) [.str s,.str t] K=K (.bool (decide (s=t))):=dJ K (λH n=>ab3 H n q s t)
theorem ab4(H:Pos->Option AB)(n:Pos)(q:fM)(s t:List Nat):aJ.run H n (.bin .neq q) [.str s,.str t]=some (.val (.bool (!decide (s=t)))):=by simp[aJ.run,jg,pE,cN,iy,eW,jP,fG]
@[simp] theorem an3{R:Type}(c:aq)(K:AV->St->Option R)(st:St)(q:fM)(s t:List Nat):aj c (.bin .neq q) [.str s,.str t] st K=K (.bool (!decide (s=t))) st:=bC c K (λH n=>ab4 H n q s t) st
@[simp] theorem an4{R:Type}(K:AV->Option R)(q:fM)(s t:List Nat):gU (.bin .neq q) [.str s,.str t] K=K (.bool (!decide (s=t))):=dJ K (λH n=>ab4 H n q s t)
theorem ab5(H:Pos->Option AB)(n:Pos)(q:fM)(s t:List Nat):aJ.run H n (.bin .lss q) [.str s,.str t]=some (.val (.bool (aL s t))):=by simp[aJ.run,jg,pE,cN,iy,eW,jP,fG]
@[simp] theorem an5{R:Type}(c:aq)(K:AV->St->Option R)(st:St)(q:fM)(s t:List Nat):aj c (.bin .lss q) [.str s,.str t] st K=K (.bool (aL s t)) st:=bC c K (λH n=>ab5 H n q s t) st
@[simp] theorem an6{R:Type}(K:AV->Option R)(q:fM)(s t:List Nat):gU (.bin .lss q) [.str s,.str t] K=K (.bool (aL s t)):=dJ K (λH n=>ab5 H n q s t)
theorem aiU(H:Pos->Option AB)(n:Pos)(q:fM)(s t:List Nat):aJ.run H n (.bin .leq q) [.str s,.str t]=some (.val (.bool (aL s t||decide (s=t)))):=by simp[aJ.run,jg,pE,cN,iy,eW,jP,fG]
@[simp] theorem an7{R:Type}(K:AV->Option R)(q:fM)(s t:List Nat):gU (.bin .leq q) [.str s,.str t] K=K (.bool (aL s t||decide (s=t))):=dJ K (λH n=>aiU H n q s t)
theorem ab6(H:Pos->Option AB)(n:Pos)(q:fM)(s t:List Nat):aJ.run H n (.bin .geq q) [.str s,.str t]=some (.val (.bool (!aL s t))):=by simp[aJ.run,jg,pE,cN,iy,eW,jP,fG]
@[simp] theorem an8{R:Type}(c:aq)(K:AV->St->Option R)(st:St)(q:fM)(s t:List Nat):aj c (.bin .geq q) [.str s,.str t] st K=K (.bool (!aL s t)) st:=bC c K (λH n=>ab6 H n q s t) st
@[simp] theorem an9{R:Type}(K:AV->Option R)(q:fM)(s t:List Nat):gU (.bin .geq q) [.str s,.str t] K=K (.bool (!aL s t)):=dJ K (λH n=>ab6 H n q s t)
theorem aiV(H:Pos->Option AB)(n:Pos)(p r:Bool):aJ.run H n (.bin .eql .bool) [.bool p,.bool r]=some (.val (.bool (p==r))):=rfl
@[simp] theorem aoa{R:Type}(c:aq)(K:AV->St->Option R)(st:St)(p r:Bool):aj c (.bin .eql .bool) [.bool p,.bool r] st K=K (.bool (p==r)) st:=bC c K (λH n=>aiV H n p r) st
theorem aiW(H:Pos->Option AB)(n:Pos)(s:List Nat):aJ.run H n (.lenB .s) [.str s]=some (.val (.int .i64 (s.length:Int))):=rfl
@[simp] theorem aob{R:Type}(c:aq)(K:AV->St->Option R)(st:St)(s:List Nat):aj c (.lenB .s) [.str s] st K=K (.int .i64 (s.length:Int)) st:=bC c K (λH n=>aiW H n s) st
theorem ab7(H:Pos->Option AB)(n:Pos)(es:Nat)(z:Bool)(rs:List (List AV)):aJ.run H n (.lenB .l) [ro es z rs]=some (.val (.int .i64 (rs.length:Int))):=by unfold ro;split<;>rfl
@[simp] theorem dh{R:Type}(c:aq)(K:AV->St->Option R)(st:St)(es:Nat)(z:Bool)(rs:List (List AV)):aj c (.lenB .l) [ro es z rs] st K=K (.int .i64 (rs.length:Int)) st:=bC c K (λH n=>ab7 H n es z rs) st
@[simp] theorem aiX{R:Type}(K:AV->Option R)(es:Nat)(z:Bool)(rs:List (List AV)):gU (.lenB .l) [ro es z rs] K=K (.int .i64 (rs.length:Int)):=dJ K (λH n=>ab7 H n es z rs)
theorem aiY(H:Pos->Option AB)(n:Pos)(k k2:IntKind)(a:Int):aJ.run H n (.conv (.int k)) [.int k2 a]=some (.val (.int k (az k a))):=rfl
@[simp] theorem VW{R:Type}(c:aq)(K:AV->St->Option R)(st:St)(k k2:IntKind)(a:Int):aj c (.conv (.int k)) [.int k2 a] st K=K (.int k (az k a)) st:=bC c K (λH n=>aiY H n k k2 a) st
theorem aiZ(H:Pos->Option AB)(n:Pos)(k:IntKind)(s:List Nat)(i:Nat):aJ.run H n .idxS [.str s,.int k (i:Int)]=((s[i]?.map λc=>.int .u8 (c:Int)):Option AV).map .val:=by simp only[aJ.run,TE,kF,qL];cases s[i]? <;>rfl
@[simp] theorem aoc{R:Type}(c:aq)(K:AV->St->Option R)(st:St)(k:IntKind)(s:List Nat)(i:Nat):aj c .idxS [.str s,.int k (i:Int)] st K=AZ (s[i]?.map λc=>.int .u8 (c:Int)) λv=>K v st:=Im c K (λH n=>aiZ H n k s i) st
theorem RY(H:Pos->Option AB)(n:Pos)(off:Nat)(p:Pos)(o:Nat):aJ.run H n (.fieldA off) [.ptr p o]=some (.val (.ptr p (o+off))):=rfl
@[simp] theorem aG{R:Type}(c:aq)(K:AV->St->Option R)(st:St)(off:Nat)(p:Pos)(o:Nat):aj c (.fieldA off) [.ptr p o] st K=K (.ptr p (o+off)) st:=bC c K (λH n=>RY H n off p o) st
@[simp] theorem di{R:Type}(K:AV->Option R)(off:Nat)(p:Pos)(o:Nat):gU (.fieldA off) [.ptr p o] K=K (.ptr p (o+off)):=dJ K (λH n=>RY H n off p o)
theorem RZ(H:Pos->Option AB)(n:Pos)(off:Nat)(xs:List (List AV))(i j:Nat):aJ.run H n (.fieldA off) [.fp xs i j]=some (.val (.fp xs i (j+off))):=rfl
@[simp] theorem R4{R:Type}(c:aq)(K:AV->St->Option R)(st:St)(off:Nat)(xs:List (List AV))(i j:Nat):aj c (.fieldA off) [.fp xs i j] st K=K (.fp xs i (j+off)) st:=bC c K (λH n=>RZ H n off xs i j) st
@[simp] theorem dS{R:Type}(K:AV->Option R)(off:Nat)(xs:List (List AV))(i j:Nat):gU (.fieldA off) [.fp xs i j] K=K (.fp xs i (j+off)):=dJ K (λH n=>RZ H n off xs i j)
theorem U6(H:Pos->Option AB)(n:Pos)(i:Nat)(l:List AV):aJ.run H n (.extract i) [.tuple l]=(l[i]? :Option AV).map .val:=by simp only[aJ.run,G4,qL];cases l[i]? <;>rfl
@[simp] theorem fq{R:Type}(c:aq)(K:AV->St->Option R)(st:St)(i:Nat)(l:List AV):aj c (.extract i) [.tuple l] st K=AZ l[i]? λv=>K v st:=Im c K (λH n=>U6 H n i l) st
@[simp] theorem am0{R:Type}(K:AV->Option R)(i:Nat)(l:List AV):gU (.extract i) [.tuple l] K=AZ l[i]? K:=Xr K (λH n=>U6 H n i l)
theorem MN(H:Pos->Option AB)(n:Pos)(p:Pos)(o:Nat):aJ.run H n .nilCheck [.ptr p o]=some (.val (.ptr p o)):=rfl
@[simp] theorem y7{R:Type}(c:aq)(K:AV->St->Option R)(st:St)(p:Pos)(o:Nat):aj c .nilCheck [.ptr p o] st K=K (.ptr p o) st:=bC c K (λH n=>MN H n p o) st
@[simp] theorem akY{R:Type}(K:AV->Option R)(p:Pos)(o:Nat):gU .nilCheck [.ptr p o] K=K (.ptr p o):=dJ K (λH n=>MN H n p o)
theorem ab8(H:Pos->Option AB)(n:Pos)(es:Nat)(z:Bool)(rs:List (List AV))(k:IntKind)(i:Nat):aJ.run H n (.idxA es none) [ro es z rs,.int k (i:Int)]=((if i<rs.length then some (.fp rs i 0)else none):Option AV).map .val:=by
 by_cases h:i<rs.length
 .rw[aeo (by intro e;subst e;simp at h)];simp[aJ.run,qC,kF,Hg,eD,h]
 . unfold ro;split
   .rfl
   .simp[aJ.run,qC,kF,Hg,eD,h]
@[simp] theorem Io{R:Type}(c:aq)(K:AV->St->Option R)(st:St)(es:Nat)(z:Bool)(rs:List (List AV))(k:IntKind)(i:Nat):aj c (.idxA es none) [ro es z rs,.int k (i:Int)] st K=AZ (if i<rs.length then some (.fp rs i 0)else none) λv=>K v st:=Im c K (λH n=>ab8 H n es z rs k i) st
@[simp] theorem ab9{R:Type}(K:AV->Option R)(es:Nat)(z:Bool)(rs:List (List AV))(k:IntKind)(i:Nat):gU (.idxA es none) [ro es z rs,.int k (i:Int)] K=AZ (if i<rs.length then some (.fp rs i 0)else none) K:=Xr K (λH n=>ab8 H n es z rs k i)
theorem ZW(H:Pos->Option AB)(n:Pos)(es:Nat)(z:Bool)(rs:List (List AV))(k:IntKind)(i:Nat):aJ.run H n (.sliceL es false true false) [ro es z rs,.int k (i:Int)]=((if i<=rs.length then some (ro es (z&&rs.isEmpty) (rs.take i))else none):Option AV).map .val:=by
 by_cases h:i<=rs.length
 . rw[  Zb5 h];unfold ro;split
   .simp at h;subst h;rfl
   .rename_i hn;have:(z&&rs.isEmpty)=false:=(by cases z<;>cases rs<;>simp at hn ⊢);simp only[this];simp[aJ.run,qI,bounds,kF,eZ,eD,h]
 . rw[Zb2 h];unfold ro;split
   .simp only[aJ.run,qI,bounds,kF];have:¬i=0:=(by simp at h;omega);simp[eD,this]
   .simp[aJ.run,qI,bounds,kF,eZ,eD,h]
@[simp] theorem an0{R:Type}(c:aq)(K:AV->St->Option R)(st:St)(es:Nat)(z:Bool)(rs:List (List AV))(k:IntKind)(i:Nat):aj c (.sliceL es false true false) [ro es z rs,.int k (i:Int)] st K=AZ (if i<=rs.length then some (ro es (z&&rs.isEmpty) (rs.take i))else none) λv=>K v st:=Im c K (λH n=>ZW H n es z rs k i) st
@[simp] theorem an1{R:Type}(K:AV->Option R)(es:Nat)(z:Bool)(rs:List (List AV))(k:IntKind)(i:Nat):gU (.sliceL es false true false) [ro es z rs,.int k (i:Int)] K=AZ (if i<=rs.length then some (ro es (z&&rs.isEmpty) (rs.take i))else none) K:=Xr K (λH n=>ZW H n es z rs k i)
section
variable{R:Type}(c:aq)(K:AV->St->Option R)(K1:AV->Option R)
theorem OD(H:Pos->Option AB)(n:Pos)(xs:List (List AV))(i j:Nat):aJ.run H n (.load none) [.fp xs i j]=(xs[i]?.bind λcs=>cs[j]?).map .val:=by
 simp only[aJ.run,yX,qL];cases xs[i]? with
 |none=>rfl
 |some cs=>simp only[Za2];cases cs[j]? <;>rfl
theorem Lq(H:Pos->Option AB)(n:Pos)(m:Nat)(xs:List (List AV))(i j:Nat):aJ.run H n (.load (some m)) [.fp xs i j]=((xs[i]?.bind λcs=>cut cs j m).map .agg).map .val:=by
 simp only[aJ.run,yX,qL];cases xs[i]? with
 |none=>rfl
 |some cs=>simp only[Za2];cases cut cs j m<;>rfl
theorem qP (H:Pos->Option AB)(n:Pos)(p:Pos)(o:Nat):aJ.run H n (.load none) [.ptr p o]=((cellsOf (H p)).bind λcs=>cs[o]?).map .val:=by
 simp only[aJ.run,yX,qL];cases H p with
 |none=>rfl
 |some x=>   cases x<;>simp only[cellsOf,Za2,Option.bind_none]<;>try rfl
             all_goals first|(rename_i cs _;cases cs[o]? <;>rfl)|(rename_i _ cs;cases cs[o]? <;>rfl)
theorem o6 (H:Pos->Option AB)(n:Pos)(m:Nat)(p:Pos)(o:Nat):aJ.run H n (.load (some m)) [.ptr p o]=(((cellsOf (H p)).bind λcs=>cut cs o m).map .agg).map .val:=by
 simp only[aJ.run,yX];cases H p with
 |none=>rfl
 |some x=>   cases x<;>simp only[cellsOf,Za2,Option.bind_none]<;>try rfl
             all_goals first|(rename_i cs _;cases cut cs o m<;>rfl)|(rename_i _ cs;cases cut cs o m<;>rfl)
@[simp] theorem OE(st:St)(xs:List (List AV))(i j:Nat):aj c (.load none) [.fp xs i j] st K=AZ (xs[i]?.bind λcs=>cs[j]?) λv=>K v st:=Im c K (λH n=>OD H n xs i j) st
@[simp] theorem ER(st:St)(m:Nat)(xs:List (List AV))(i j:Nat):aj c (.load (some m)) [.fp xs i j] st K=Er (xs[i]?.bind λcs=>cut cs j m) λl=>K (.agg l) st:=by rw[Im c K (λH n=>Lq H n m xs i j) st];cases(xs[i]?.bind λcs=>cut cs j m)<;>rfl
@[simp] theorem aN(st:St)(p:Pos)(o:Nat):aj c (.load none) [.ptr p o] st K=AZ ((cellsOf (st.heap.get p)).bind λcs=>cs[o]?) λv=>K v st:=by unfold aj cJ;rw[qP];cases((cellsOf (st.heap.get p)).bind λcs=>cs[o]?)<;>rfl
@[simp] theorem cY(st:St)(m:Nat)(p:Pos)(o:Nat):aj c (.load (some m)) [.ptr p o] st K=Er ((cellsOf (st.heap.get p)).bind λcs=>cut cs o m) λl=>K (.agg l) st:=by unfold aj cJ;rw[o6];cases((cellsOf (st.heap.get p)).bind λcs=>cut cs o m)<;>rfl
@[simp] theorem fH(h:T AB)(xs:List (List AV))(i j:Nat):kB (.load none) [.fp xs i j] h (λ_=>true) K1=AZ (xs[i]?.bind λcs=>cs[j]?) K1:=by unfold kB;rw[OD,OD];cases hx:(xs[i]?.bind λcs=>cs[j]?)<;>rfl
@[simp] theorem adK(h:T AB)(m:Nat)(xs:List (List AV))(i j:Nat):kB (.load (some m)) [.fp xs i j] h (λ_=>true) K1=Er (xs[i]?.bind λcs=>cut cs j m) λl=>K1 (.agg l):=by unfold kB;rw[Lq,Lq];cases hx:(xs[i]?.bind λcs=>cut cs j m)<;>rfl
@[simp] theorem Lr(st:St)(f:FuncId)(xs:List AV):aj c (.mkFunc f 0) xs st K=K (.func f [] xs) st:=bC c K (λH n=>by simp[aJ.run,JZ,eZ]) st
@[simp] theorem cu(h:T AB)(p:Pos)(o:Nat):kB (.load none) [.ptr p o] h (λ_=>true) K1=AZ ((cellsOf (h.get p)).bind λcs=>cs[o]?) K1:=by unfold kB;rw[qP,qP];show(match ((cellsOf (h.get p)).bind λcs=>cs[o]?).map eH.val with|some (.val v)=>_|_=>_)=_;cases((cellsOf (h.get p)).bind λcs=>cs[o]?)<;>rfl
@[simp] theorem ES(h:T AB)(m:Nat)(p:Pos)(o:Nat):kB (.load (some m)) [.ptr p o] h (λ_=>true) K1=Er ((cellsOf (h.get p)).bind λcs=>cut cs o m) λl=>K1 (.agg l):=by unfold kB;rw[o6,o6];show(match (((cellsOf (h.get p)).bind λcs=>cut cs o m).map AV.agg).map eH.val with|some (.val v)=>_|_=>_)=_;cases((cellsOf (h.get p)).bind λcs=>cut cs o m)<;>rfl
theorem run_build(H:Pos->Option AB)(n:Pos)(z:List AV)(ps:List (Nat×Nat))(xs:List AV):aJ.run H n (.build z ps) xs=((cH z ps xs).map .agg).map .val:=by simp only[aJ.run,NP];cases cH z ps xs<;>rfl
@[simp] theorem agX(st:St)(z:List AV)(ps:List (Nat×Nat))(xs:List AV):aj c (.build z ps) xs st K=Er (cH z ps xs) λl=>K (.agg l) st:=by rw[Im c K (λH n=>run_build H n z ps xs) st];cases cH z ps xs<;>rfl
@[simp] theorem an2(z:List AV)(ps:List (Nat×Nat))(xs:List AV):gU (.build z ps) xs K1=Er (cH z ps xs) λl=>K1 (.agg l):=by rw[Xr K1 (λH n=>run_build H n z ps xs)];cases cH z ps xs<;>rfl
theorem bP{α:Type}{l:List α}{m:Nat}(h:l.length=m):cut l 0 m=some l:=by
 unfold cut;rw[eZ,Za1 (by omega)];simp only[Zf4];rw[Zg0 (by omega)]
end
end Go.Ai
namespace Go.Ai
open Go
def Wf(st:St):Prop:=∀p x,st.heap.get p=some x->p.toNat<st.next.toNat
theorem cO(st:St)(b:AB):(ah st b).next=st.next.succ:=id rfl
@[simp] theorem bL{st:St}{b:AB}(h:Wf st):Wf (ah st b):=λp x hp=>by
  rw[cO,Pos.aK];by_cases e:st.next=p
  .subst e;omega
  .have:=h p x (by rwa [ah,T.bY _ e]at hp);omega
@[simp] theorem aF(st:St)(b:AB):(ah st b).heap.get st.next=some b:=T.fP _ _ _
theorem ru{st:St}{b:AB}{p:Pos}(h:p.toNat<st.next.toNat):(ah st b).heap.get p=st.heap.get p:=by
 rw[ah,T.bY _ (by intro e;subst e;omega)]
@[simp] theorem CJ{st:St}{a b:AB}:(ah (ah st a) b).heap.get st.next=some a:=by
  rw[ru (by rw[cO,Pos.aK];omega),aF]
theorem bE{st:St}{b:AB}(h:Wf st):bf st (ah st b):=λp x hp=>by rw[ru (h p x hp)];exact hp
theorem aB{st st':St}{v:AV}(hv:Plain v)(hk:bf st st'):tidy st (v,st')=(v,st):=by
 unfold tidy;rw[Zb5 ⟨hv,hk⟩]
section
variable{R:Type}(c:aq)(K:AV->St->Option R)
@[simp] theorem dw(x:AV)(st:St):aj c .box [x] st K=K (.ptr st.next 0) (ah st (.cells x.cells 0)):=id rfl
@[simp] theorem bM(l:List AV)(st:St):aj c (.alloc l) [] st K=K (.ptr st.next 0) (ah st (.cells l 0)):=id rfl
end
theorem T.Ev{α:Type}(x y:Option α):∀(p:Pos)(t:T α),T.put x p (T.put y p t)=T.put x p t
 |.h,.e=>rfl
 |.h,.n _ _ _=>rfl
 |.o p,.e=>by simp only[T.put];rw[T.Ev x y p]
 |.o p,.n _ _ _=>by simp only[T.put];rw[T.Ev x y p]
 |.i p,.e=>by simp only[T.put];rw[T.Ev x y p]
 |.i p,.n _ _ _=>by simp only[T.put];rw[T.Ev x y p]
def bI(st:St)(p:Pos)(b:AB):St:={ heap:=st.heap.put (some b) p,next:=st.next }
@[simp] theorem eB(st:St)(p:Pos)(b:AB):(bI st p b).next=st.next:=id rfl
@[simp] theorem cW(st:St)(p:Pos)(b:AB):(bI st p b).heap.get p=some b:=T.fP _ _ _
theorem aO{st:St}{p q:Pos}{b:AB}(h:p≠q):(bI st p b).heap.get q=st.heap.get q:=T.bY _ h _
@[simp] theorem YM(st:St)(a b:AB):bI (ah st a) st.next b=ah st b:=by
  unfold bI ah;simp only[T.Ev]
@[simp] theorem YN(st:St)(p:Pos)(a b:AB):bI (bI st p a) p b=bI st p b:=by
  unfold bI;simp only[T.Ev]
theorem Pos.TR(p:Pos):p≠p.succ:=λe=>by have:=congrArg Pos.toNat e;rw[Pos.aK]at this;omega
theorem dz{R:Type}(c:aq)(K:AV->St->Option R)(st:St)(m:Nat)(p:Pos)(o:Nat)(v:AV)(cs:List AV)(h:st.heap.get p=some (.cells cs 0))(h1:v.cells.length=m)(h2:o+m<=cs.length)(h3:aV v.cells=true):
  aj c (.store m) [.ptr p o,v] st K=K .undef (bI st p (.cells (aZ cs o v.cells) 0)):=by
 have:aJ.run (λb=>st.heap.get b) st.next (.store m) [.ptr p o,v]=some (.br .undef none (some (p,.cells (aZ cs o v.cells) 0)) none):=by
  simp[aJ.run,HV,h,h1,h2,h3,eD,eZ]
 unfold aj cJ;rw[this];rfl
@[simp] theorem cV{R:Type}(c:aq)(K:AV->St->Option R)(st:St)(m:Nat)(v:AV)(cs:List AV)(h1:v.cells.length=m)(h2:m=cs.length)(h3:aV v.cells=true):
   aj c (.store m) [.ptr st.next 0,v] (ah st (.cells cs 0)) K=K .undef (ah st (.cells v.cells 0)):=by
  rw[dz c K _ m st.next 0 v cs (aF _ _) h1 (by omega) h3,YM];have:aZ cs 0 v.cells=v.cells:=by unfold aZ;rw[h1,h2];simp
  rw[this]
theorem anj{R:Type}(n:Option Nat)(p:Pos)(o:Nat)(st:St)(K:AV->Option R):ldr n (.ptr p o) st K=match n with
  |none=>AZ ((cellsOf (st.heap.get p)).bind λcs=>cs[o]?) K
  |some m=>Er ((cellsOf (st.heap.get p)).bind λcs=>cut cs o m) λl=>K (.agg l):=by
 unfold ldr;cases n with
 |none=>rw[qP];simp only;cases((cellsOf (st.heap.get p)).bind λcs=>cs[o]?)<;>rfl
 |some m=>rw[o6];simp only;cases((cellsOf (st.heap.get p)).bind λcs=>cut cs o m)<;>rfl
@[simp] theorem OG{R:Type}(m:Nat)(p:Pos)(o:Nat)(st:St)(K:AV->Option R):ldr (some m) (.ptr p o) st K=Er ((cellsOf (st.heap.get p)).bind λcs=>cut cs o m) λl=>K (.agg l):=anj (some m) p o st K
@[simp] theorem agY(es:Nat)(z:Bool)(rs:List (List AV)):(ro es z rs).one=true:=by unfold ro;split<;>rfl
@[simp] theorem acd(es:Nat)(z:Bool)(rs:List (List AV)):(ro es z rs).cells=[ro es z rs]:=by unfold ro;split<;>rfl
structure Grew(s s':St):Prop where
 wf:Wf s'
 keeps:bf s s'
 next:s.next.toNat<=s'.next.toNat
theorem Grew.refl{s:St}(h:Wf s):Grew s s:=⟨h,bf.refl s,Za6 _⟩
theorem Grew.trans{a b c:St}(h:Grew a b)(k:Grew b c):Grew a c:=⟨k.wf,h.keeps.trans k.keeps,Zb7 h.next k.next⟩
theorem Grew.ah{s:St}(h:Wf s)(b:AB):Grew s (ah s b):=⟨bL h,bE h,by rw[cO,Pos.aK];omega⟩
theorem Grew.get{s s':St}(h:Grew s s'){p:Pos}{x:AB}(hp:s.heap.get p=some x):s'.heap.get p=some x:=h.keeps p x hp
end Go.Ai
end
namespace Go.Ai
section
open Go
theorem jI{st:St}{p:Pos}{b:AB}(h:Wf st)(hp:p.toNat<st.next.toNat):Wf (bI st p b):=λq x hq=>by
 rw[eB];by_cases e:p=q
 .subst e;exact hp
 .rw[aO e]at hq;exact h q x hq
def dst(st:St)(p:Pos)(b:AB):St:={ heap:=(st.heap.put none p).put (some b) st.next,next:=st.next.succ }
theorem ai0(st:St)(p:Pos)(b:AB):(dst st p b).next=st.next.succ:=id rfl
theorem TU(st:St)(p:Pos)(b:AB):(dst st p b).heap.get st.next=some b:=T.fP _ _ _
theorem OH{st:St}{p q:Pos}{b:AB}(h:p≠q)(h2:q.toNat<st.next.toNat):(dst st p b).heap.get q=st.heap.get q:=by
 rw[dst,T.bY _ (by intro e;subst e;omega),T.bY _ h]
theorem ace{st:St}{p:Pos}{b:AB}(h:Wf st):Wf (dst st p b):=λq x hq=>by
 rw[ai0,Pos.aK];by_cases e:st.next=q
 .subst e;omega
 . rw[dst,T.bY _ e]at hq;by_cases e2:p=q
   .subst e2;rw[T.fP]at hq;cases hq
   .rw[T.bY _ e2]at hq;have:=h q x hq;omega
theorem aez{s s':St}{v:AV}{b:Pos}{x:AB}(h:s.heap.get b=some x)(h2:s'.heap.get b≠some x):tidy s (v,s')=(v,s'):=by
 unfold tidy;rw[Zb2];exact λe=>h2 (e.2 b x h)
section
variable{R:Type}(c:aq)(K:AV->St->Option R)(K1:AV->Option R)
theorem Xu(H:Pos->Option AB)(n:Pos)(es len:Nat)(z:List AV)(ps:List Nat)(xs:List AV):aJ.run H n (.buildSlice es len z ps) xs=(cH (cv z len) (ps.map λi=>(i*es,es)) xs).map λcs=>.br (.slice n 0 len (some len) es) none none (some (.cells cs 0)):=by simp only[aJ.run,vr];cases cH (cv z len) (ps.map λi=>(i*es,es)) xs<;>rfl
@[simp] theorem eo(st:St)(es len:Nat)(z:List AV)(ps:List Nat)(xs:List AV):aj c (.buildSlice es len z ps) xs st K=Er (cH (cv z len) (ps.map λi=>(i*es,es)) xs) λcs=>K (.slice st.next 0 len (some len) es) (ah st (.cells cs 0)):=by unfold aj cJ;rw[Xu];cases cH (cv z len) (ps.map λi=>(i*es,es)) xs<;>rfl
@[simp] theorem afB(st:St)(es len:Nat)(z:List AV)(ps:List Nat)(xs:List AV)(K2:AV->AB->Option R):Xq (.buildSlice es len z ps) xs st K2=Er (cH (cv z len) (ps.map λi=>(i*es,es)) xs) λcs=>K2 (.slice st.next 0 len (some len) es) (.cells cs 0):=by unfold Xq;rw[Xu];cases cH (cv z len) (ps.map λi=>(i*es,es)) xs<;>rfl
@[simp] theorem agZ(st:St):aj c .mkMap [] st K=K (.map st.next) (ah st (.map [] 0)):=id rfl
theorem acf{st:St}{es bytes m:Nat}{x:AV}{new:List AV}(hm:dX x=some m)(h0:m≠0)(hb:(2*(0+m)+768)*bytes<=281474976710656)(hs:0+m<=9223372036854775807)(hx:cZ es m (λb=>st.heap.get b) x=some new):
  aj c (.append es bytes) [.af,x] st K=K (.slice st.next 0 m none es) (ah st (.cells new 0)):=by
 have:aJ.run (λb=>st.heap.get b) st.next (.append es bytes) [.af,x]=some (.br (.slice st.next 0 m none es) none none (some (.cells new 0))):=by
  simp only[aJ.run,gR];rw[show dX .af=some 0 from rfl,hm];simp only[eZ,eD,Za1 hb,Za1 hs,Za3 h0,hx]
 unfold aj cJ;rw[this];rfl
theorem akZ{st:St}{es bytes m n:Nat}{p:Pos}{x:AV}{cs iA new:List AV}(hm:dX x=some m)(h0:m≠0)(hb:(2*(n+m)+768)*bytes<=281474976710656)(hs:n+m<=9223372036854775807)(hp:st.heap.get p=some (.cells cs 0))
  (ho:cZ es n (λb=>st.heap.get b) (.slice p 0 n none es)=some iA) (hx:cZ es m (λb=>st.heap.get b) x=some new) (h1:aV new=true):
  aj c (.append es bytes) [.slice p 0 n none es,x] st K=K (.slice st.next 0 (n+m) none es) (dst st p (.cells (iA++new) 0)):=by
 have:aJ.run (λb=>st.heap.get b) st.next (.append es bytes) [.slice p 0 n none es,x]=some (.br (.slice st.next 0 (n+m) none es) (some p) none (some (.cells (iA++new) 0))):=by simp only[aJ.run,gR];rw[show dX (.slice p 0 n none es)=some n from rfl,hm];simp only[eZ,eD,Za1 hb,Za1 hs,Za3 h0,hx,hp,ho,h1];simp
 unfold aj cJ;rw[this];rfl
theorem ag0{st:St}{es bytes m:Nat}{p:Pos}{x:AV}{new:List AV}(hm:dX x=some m)(h0:m≠0)(hb:(2*(0+m)+768)*bytes<=281474976710656)(hs:0+m<=9223372036854775807)(hx:cZ es m (λb=>st.heap.get b) x=some new):
  aj c (.append es bytes) [.slice p 0 0 (some 0) es,x] st K=K (.slice st.next 0 m none es) (ah st (.cells new 0)):=by
 have:aJ.run (λb=>st.heap.get b) st.next (.append es bytes) [.slice p 0 0 (some 0) es,x]=some (.br (.slice st.next 0 m none es) none none (some (.cells new 0))):=by
  have h2:¬(0+m<=0):=by omega
  have ho:cZ es 0 (λb=>st.heap.get b) (.slice p 0 0 (some 0) es)=some []:=by simp[cZ]
  simp only[aJ.run,gR];rw[show dX (.slice p 0 0 (some 0) es)=some 0 from rfl,hm];simp only[eZ,eD,Za1 hb,Za1 hs,Za3 h0,Za3 h2,hx,ho];simp only[Za5,Zg3]
 unfold aj cJ;rw[this];rfl
theorem acg{st:St}{es bytes:Nat}{p:Pos}{off n:Nat}{cp:Option Nat}{x:AV}(hm:dX x=some 0)(hb:(2*(n+0)+768)*bytes<=281474976710656)(hs:n+0<=9223372036854775807):
  aj c (.append es bytes) [.slice p off n cp es,x] st K=K (.slice p off n cp es) st:=by
 have:aJ.run (λb=>st.heap.get b) st.next (.append es bytes) [.slice p off n cp es,x]=some (.val (.slice p off n cp es)):=by
  simp only[aJ.run,gR];rw[show dX (.slice p off n cp es)=some n from rfl,hm];simp only[eZ,eD,Za1 hb,Za1 hs]
 unfold aj cJ;rw[this]
theorem ZX(H:Pos->Option AB)(n:Pos)(z:AV)(m:Pos)(es:List (AV×AV×Nat))(cl:Nat)(k:AV)(h:H m=some (.map es cl))(r:Option (Nat×AV))(hf:lJ .s k es 0=some r):
  aJ.run H n (.lookup .s z true) [.map m,k]=some (.val (match r with|some (_,v)=>.tuple [v,.bool true]|none=>.tuple [z,.bool false])):=by
 simp only[aJ.run,Bi,h,hf];cases r with
 |none=>rfl
 |some p=>rfl
theorem Kr(z:AV){st:St}{m:Pos}{es:List (AV×AV×Nat)}{cl:Nat}{k:AV}{r:Option (Nat×AV)}(h:st.heap.get m=some (.map es cl))(hf:lJ .s k es 0=some r):
  aj c (.lookup .s z true) [.map m,k] st K=K (match r with|some (_,v)=>.tuple [v,.bool true]|none=>.tuple [z,.bool false]) st:=by
 unfold aj cJ;rw[ZX _ _ z m es cl k h r hf]
theorem ZY(z:AV){h:T AB}{m:Pos}{es:List (AV×AV×Nat)}{cl:Nat}{k:AV}{r:Option (Nat×AV)}(hh:h.get m=some (.map es cl))(hf:lJ .s k es 0=some r):
  kB (.lookup .s z true) [.map m,k] h (λ_=>true) K1=K1 (match r with|some (_,v)=>.tuple [v,.bool true]|none=>.tuple [z,.bool false]):=by
 unfold kB;have e:aJ.run (λ_=>none) .h (.lookup .s z true) [.map m,k]=none:=rfl;rw[e];simp only;rw[ZX _ _ z m es cl k hh r hf]
theorem adL{st:St}{m:Pos}{es:List (AV×AV×Nat)}{cl:Nat}{k:List Nat}{v:AV}(h:st.heap.get m=some (.map es cl))(hf:lJ .s (.str k) es 0=some none):
  aj c (.mapSet .s) [.map m,.str k,v] st K=K .undef (bI st m (.map (es++[(.str k,v,cl)]) (cl+1))):=by
 have:aJ.run (λb=>st.heap.get b) st.next (.mapSet .s) [.map m,.str k,v]=some (.br .undef none (some (m,.map (es++[(.str k,v,cl)]) (cl+1))) none):=by
  simp[aJ.run,Bj,h,hf,aeX]
 unfold aj cJ;rw[this];rfl
theorem ak0{p:Pos}{o:Nat}{h h2:T AB}{v:AV}(hv:((cellsOf (h.get p)).bind λcs=>cs[o]?)=some v)(Rq:((cellsOf (h2.get p)).bind λcs=>cs[o]?)=some v)(hb:dO v v=true):
  kB (.load none) [.ptr p o] h (λv=>jA (.load none) [.ptr p o] v (jU [] h2)&&true) K1=K1 v:=by
 unfold kB;have e:aJ.run (λ_=>none) .h (.load none) [.ptr p o]=none:=rfl;rw[e];simp only;rw[qP,hv];simp only[Zd8];have:jA (.load none) [.ptr p o] v (jU [] h2)=true:=by unfold jA;show(match aJ.run (λb=>h2.get b) .h (.load none) [.ptr p o]with|some (.val u)=>dO u v|_=>false)=true;rw[qP,Rq];exact hb
 rw[this];rfl
end
theorem Ip{R:Type}(K1:AV->Option R){p:Pos}{o:Nat}{h h2:T AB}{v:AV}(hv:((cellsOf (h.get p)).bind λcs=>cs[o]?)=some v)(Rq:((cellsOf (h2.get p)).bind λcs=>cs[o]?)=some v)(hb:dO v v=true):
  kB (.load none) [.ptr p o] h (λv=>jA (.load none) [.ptr p o] v (jU [] h2)) K1=K1 v:=by
 have:=ak0 K1 hv Rq hb;simp only[Zg8]at this;exact this
theorem R6(p:Pos)(o n es:Nat):dO (.slice p o n none es) (.slice p o n none es)=true:=by
 simp[dO,nG,gq,Pos.beq_eq.2 rfl]
theorem VX:dO .af .af=true:=rfl
inductive cU:Nat->AV->Prop
 |flat {d:Nat} {v:AV} (h:gq v v=true):cU d v
 |fl {d:Nat} {a:List (List AV)} {n:Nat} (h:∀r∈a,∀v∈r,cU d v):cU (d+1) (.fl a n)
theorem Xv{f:AV->AV->Bool}:∀{a:List AV},(∀v∈a,f v v=true)->J0 f a a=true
 |[],_=>rfl
 |a::x,h=>by
  simp only[J0,h a (by simp),Xv (λv hv=>h v (Za8 _ hv)),Ze5]
theorem R7{f:AV->AV->Bool}:∀{a:List (List AV)},(∀r∈a,∀v∈r,f v v=true)->Bl f a a=true
 |[],_=>rfl
 |a::x,h=>by
  simp only[Bl,Xv (h a (by simp)),R7 (λv hv=>h v (Za8 _ hv)),Ze5]
theorem OJ:∀{d:Nat}{v:AV},cU d v->J5 d v v=true
 |d,v,.flat h=>by
  unfold J5;split
  .simp[gq]at h
  .exact h
 |d+1,.fl a n,.fl h=>by
  unfold J5;simp[R7 (λr hr v hv=>OJ (h r hr v hv))]
theorem cU.ro{d es:Nat}{z:Bool}{rs:List (List AV)}(h:∀r∈rs,∀v∈r,cU d v):cU (d+1) (ro es z rs):=by
 unfold Go.Ai.ro;split
 .exact .flat rfl
 .exact .fl h
theorem qQ{v:AV}(h:cU 3 v):dO v v=true:=by
 have h3:=OJ h;cases h with
 |flat h=>
  cases v<;>simp[gq]at h<;>first|simp[dO,nG,gq,h]|skip
  all_goals simp_all [dO,nG,gq]
 |fl h=>exact h3
theorem afC{v:AV}(h:cU 3 v):nG v v=true:=by
 have h3:=OJ h;cases h with
 |flat h=>
  cases v<;>simp[gq]at h<;>first|simp[nG,gq,h]|skip
  all_goals simp_all [nG,gq]
 |fl h=>exact h3
theorem FI{l:List AV}(h:∀v∈l,cU 3 v):dO (.agg l) (.agg l)=true:=by
 show pF l l=true;induction l with
 |nil=>rfl
 |cons v l ih=>simp only[pF,afC (h v (by simp)),ih (λu hu=>h u (Za8 _ hu)),Ze5]
theorem ach{R:Type}(K1:AV->Option R){m:Nat}{p:Pos}{o:Nat}{h h2:T AB}{l:List AV}(hv:((cellsOf (h.get p)).bind λcs=>cut cs o m)=some l)(Rq:((cellsOf (h2.get p)).bind λcs=>cut cs o m)=some l)(hb:dO (.agg l) (.agg l)=true):
  kB (.load (some m)) [.ptr p o] h (λv=>jA (.load (some m)) [.ptr p o] v (jU [] h2)) K1=K1 (.agg l):=by
 unfold kB;have e:aJ.run (λ_=>none) .h (.load (some m)) [.ptr p o]=none:=rfl;rw[e];simp only;rw[o6,hv];simp only[Zd8];have:jA (.load (some m)) [.ptr p o] (.agg l) (jU [] h2)=true:=by unfold jA;show(match aJ.run (λb=>h2.get b) .h (.load (some m)) [.ptr p o]with|some (.val u)=>dO u (.agg l)|_=>false)=true;rw[o6,Rq];exact hb
 rw[this]
theorem cU.int{d:Nat}(k:IntKind)(n:Int):cU d (.int k n):= .flat (by simp[gq,pI,cN])
theorem cU.str{d:Nat}(s:List Nat):cU d (.str s):= .flat (by simp[gq,qN])
theorem cU.bool{d:Nat}(s:Bool):cU d (.bool s):= .flat (by simp[gq])
end
section
open Go
section
variable{H:Type}(enc:TypeId×Value->H)(P:Program)(w:World)(base:Nat)(spare:Nat->Bool)(held:Bool)
def kY(t:TypeId)(Q:List AV->Prop):Prop:=
 ∀  (fuel:Nat)(cs:List Value)(x:DataW H×List MemPlace),DataW.trod enc P w base spare held fuel t cs=some x->
    ∃as,Q as/\∀ρ n,aI ρ n (λad=>w.cell? ad) as cs
variable{enc P w base spare held}
theorem kY.mono{t:TypeId}{Q Q':List AV->Prop}(h:kY enc P w base spare held t Q)(k:∀as,Q as->Q' as):kY enc P w base spare held t Q':=
 λfuel cs x hx=>by obtain⟨as,h1,h2⟩:=h fuel cs x hx;exact⟨as,k _ h1,h2⟩
theorem Ks{t:TypeId}{k:IntKind}(ht:P.underlying t=some (.int k)):kY enc P w base spare held t λas=>∃i,as=[.int k i]/\(Lit.int k i).wf=true:=
 fun fuel cs x hx=>by
  obtain⟨n,rfl,h⟩:=DataW.trod_int ht hx;exact⟨_,⟨n,rfl,h.2⟩,λρ m=>aI.cons (.int k n) aI.nil⟩
theorem afD{t:TypeId}(ht:P.underlying t=some .bool):kY enc P w base spare held t λas=>∃b,as=[.bool b]:=
 fun fuel cs x hx=>by
  obtain⟨b,rfl,h⟩:=DataW.trod_bool ht hx;exact⟨_,⟨b,rfl⟩,λρ m=>aI.cons (.bool b) aI.nil⟩
theorem ag1{t:TypeId}(ht:P.underlying t=some .string):kY enc P w base spare held t λas=>∃s,as=[.str s]/\s.length<=maxLen/\∀x∈s,x<256:=
 fun fuel cs x hx=>by
  obtain⟨s,rfl,h⟩:=DataW.trod_string ht hx;refine⟨_,⟨s.data.toList.map UInt8.toNat,rfl,?_,?_⟩,λρ m=>aI.cons (.str _ s rfl) aI.nil⟩
  .simp;exact h.2
  .intro x hx;simp only[Zd0]at hx;obtain⟨y,_,rfl⟩:=hx;exact y.toNat_lt
theorem vR {t e:TypeId}{es:Nat}{Q:List AV->Prop}(ht:P.underlying t=some (.slice e))(hc:P.cellsOf e=es)(dB:0<es)(hQ:∀as,Q as->as.length=es)(h:kY enc P w base spare held e Q):
  kY enc P w base spare held t λas=>∃z rs,as=[ro es z rs]/\(∀r∈rs,Q r)/\rs.length<=maxLen:=
 fun fuel cs  x hx=>by
  rcases DataW.trod_slice ht hx with⟨rfl,_⟩|⟨a,len,cap,elems,rest,n,_,rfl,_,hb,hl,hm,hlen,hel,_,_⟩
  .  exact⟨_,⟨true,[],rfl,by simp,by simp⟩,λρ m=>aI.cons .af aI.nil⟩
  .  have each:∀i,∃r row,i<len->(Q r/\w.cells? base (a.add (i*es)) es=some row/\∀ρ m,aI ρ m (λad=>w.cell? ad) r row):=by
        intro i;by_cases hi:i<len
        . have h1:=hel i hi;rw[Za0 (by omega),hc]at h1;cases h2:w.cells? base (a.add (i*es)) es with
          |none=>rw[h2]at h1;cases h1
          | some row=>
            rw[h2]at h1;obtain⟨r,hr,hv⟩:=h n row _ h1;exact⟨r,row,λ_=>⟨hr,rfl,hv⟩⟩
        .exact⟨[],[],λh=>absurd h hi⟩
     obtain⟨r,each⟩:=Classical.axiomOfChoice each;obtain⟨row,hr⟩:=Classical.axiomOfChoice each;have akz:0<len->a.spot=none:=λh0=>by
        obtain⟨_,h1,_⟩:=hr 0 h0;have:=(World.cells?_some h1).2.2 0 dB;have hl:=(World.cells?_some h1).2.1;rw[Za0 (by omega)]at this;simp only[Zn2,Addr.add,Zg7]at this;unfold World.cell? at this;split at this
        . split at this
          .cases this
          .rename_i h;simpa using h
        .cases this
     have ank:((List.range len).map r).length=len:=(by simp);have get:∀(i:Nat)(c:List AV),((List.range len).map r)[i]? =some c->i<len/\c=r i:=λi c hi=>by
        rw[Zc3]at hi;by_cases h:i<len
        .rw[Zm2 h]at hi;simp at hi;exact⟨h,hi.symm⟩
        .rw[Zc6 (by simpa using h)]at hi;cases hi
     refine⟨_,⟨false,(List.range len).map r,rfl,?_,by simp;omega⟩,λρ m=>aI.cons ?_ aI.nil⟩
     .  intro q hq;simp only[Zd0,Zi5]at hq;obtain⟨i,hi,rfl⟩:=hq;exact(hr i hi).1
     .  have key:aC ρ m (λad=>w.cell? ad) (.fl ((List.range len).map r) es) (.slice (some a) ((List.range len).map r).length cap):=by
          refine .fl _ es cap a (λi j=>((row i)[j]?).getD .nilFunc) (by omega) (λh0=>akz ?_) (λi c hi=> ?_) (λi j c v hi hj=> ?_) (λi j c v hi hj=> ?_)
          .apply Zk5;intro h;apply h0;have:len=0:=(by omega);subst this;rfl
          .obtain⟨h1,rfl⟩:=get i c hi;exact hQ _ (hr i h1).1
          . obtain⟨h1,rfl⟩:=get i c hi;obtain⟨q1,q2,q3⟩:=hr i h1;have hj2:j<es:=(by rw[<-hQ _ q1];exact(Za4.1 hj).1);have q4:=(World.cells?_some q2).2.2 j hj2;have q5:=(World.cells?_some q2).2.1;have hs:=akz (by omega);have e1:(a.add (i*es)).add j=⟨a.block,a.off+i*es+j,none⟩:=by
              obtain⟨aQ,off,spot⟩:=a;simp only at hs;subst hs;unfold Addr.add;by_cases e1:i*es=0<;>by_cases e2:j=0<;>simp[e1,e2]
            rw[e1]at q4;show w.cell? _=_;rw[q4,Za0 (by omega)];rfl
          .obtain⟨h1,rfl⟩:=get i c hi;obtain⟨q1,q2,q3⟩:=hr i h1;have hj2:j<es:=(by rw[<-hQ _ q1];exact(Za4.1 hj).1);have q5:=(World.cells?_some q2).2.1;refine(q3 ρ m).2 j v _ hj ?_;rw[Za0 (by omega)];rfl
        rw[ank]at key;exact key
def OK:List (List AV->Prop)->List (List AV)->Prop
 |[],[]=>True
 |Q::Qs,p::ps=>Q p/\OK Qs ps
 |_,_=>False
def R8(P:Program)(tot:Nat):Nat->List Field->Bool
 |o,[]=>o==tot
 |o,f::fs=>f.offset==o&&R8 P tot (o+P.cellsOf f.type) fs
def aci(enc:TypeId×Value->H)(P:Program)(w:World)(base:Nat)(spare:Nat->Bool)(held:Bool):List TypeId->List (List AV->Prop)->Prop
 |[],[]=>True
 |f::fs,Q::Qs=>kY enc P w base spare held f Q/\aci enc P w base spare held fs Qs
 |_,_=>False
theorem R9{tot n:Nat}:∀(fs:List Field)(Qs:List (List AV->Prop))(o:Nat)(cs:List Value),R8 P tot o fs=true->aci enc P w base spare held (fs.map (·.type)) Qs->cs.length=tot->
  (∀f∈fs,∃y,DataW.trod enc P w base spare held n f.type ((cs.drop f.offset).take (P.cellsOf f.type))=some y)->
  ∃parts,OK Qs parts/\∀ρ m,aI ρ m (λad=>w.cell? ad) parts.flatten (cs.drop o)
 |[],[],o,cs,hc,_,hl,_=>by simp only[R8,beq_iff_eq]at hc;refine⟨[],trivial,λρ m=> ?_⟩;rw[List.drop_eq_nil_of_le (by omega)];exact aI.nil
 |f::fs,Q::Qs,o,cs,hc,hO,hl,hf=>by
  simp only[R8,Zb6,beq_iff_eq]at hc;obtain⟨y,hy⟩:=hf f (by simp);obtain⟨as,hq,hv⟩:=hO.1 n _ y hy;obtain⟨parts,hp,Rq⟩:=R9 fs Qs _ cs hc.2 hO.2 hl (λg hg=>hf g (Za8 _ hg));refine⟨as::parts,⟨hq,hp⟩,λρ m=> ?_⟩;have e:cs.drop o=(cs.drop f.offset).take (P.cellsOf f.type)++cs.drop (o+P.cellsOf f.type):=by
   rw[hc.1, <-Zn1,Zn8]
  rw[e,Ze9];exact(hv ρ m).append (Rq ρ m)
def fieldsOf(P:Program)(t:TypeId):List Field:=match P.underlying t with
 |some (.struct fs)=>fs.toList
 |_=>[]
def acj(P:Program)(t:TypeId):Bool:=match P.underlying t with
 |some (.struct _)=>true
 |_=>false
theorem xW{t:TypeId}(ts:List TypeId){Qs:List (List AV->Prop)}(hs:acj P t=true)(Gf:(fieldsOf P t).map (·.type)=ts)(hc:R8 P (P.cellsOf t) 0 (fieldsOf P t)=true)(hO:aci enc P w base spare held ts Qs):
  kY enc P w base spare held t λas=>∃parts,as=parts.flatten/\OK Qs parts:=
 fun fuel cs x hx=>by
  obtain⟨fs,ht⟩:∃fs,P.underlying t=some (.struct fs):=by
     unfold acj at hs;cases h:P.underlying t with
     |none=>rw[h]at hs;cases hs
     |some d=>rw[h]at hs;cases d<;>first|exact⟨_,rfl⟩|cases hs
  have ef:fieldsOf P t=fs.toList:=by unfold fieldsOf;rw[ht]
  rw[ef]at Gf hc;subst Gf;obtain⟨xs,n,_,_,hl,hxl,hf⟩:=DataW.trod_struct ht hx;obtain⟨parts,hp,hv⟩:=R9 fs.toList Qs 0 cs hc hO hl (λf hf2=>by
     obtain⟨i,hi⟩:=List.getElem?_of_mem hf2;have Iq:fs[i]? =some f:=(by rw[<-Zh9];exact hi);have aW:i<fs.size:=(Zc4.1 Iq).1;exact⟨xs[i],by rw[hf i f Iq,Za0 (by omega)]⟩)
  exact⟨_,⟨parts,rfl,hp⟩,λρ m=>hv ρ m⟩
end
def Quiet(w w':World):Prop:=w'.os=w.os/\w'.tape=w.tape/\w'.output=w.output/\w.heap.size<=w'.heap.size/\∀k,k<w.heap.size->w'.heap[k]? =w.heap[k]?
def TV:List AV->St->Option (AV×St)
 |[],st=>some (.bool true,st)
 |_,_=>none
theorem ZZ{P:Program}{C:Cells}{f:FuncId}{fn:Func}{c:Code}(hf:P.funcs[f]? =some fn)(mC:¬fn.name= "runtime.NumGoroutine")(hb:fn.body=some c)
  (h:∀w:World,(∀ad u,C ad=some u->w.cell? ad=some u)->Calls P f #[] w λe w'=>e= .returned (.bool true)/\Quiet w w'):oP P C f TV where
 mono args st v st' hs:=by
  unfold TV at hs;split at hs<;>first|(cases hs;done)|skip
  simp only[H0,Zc7]at hs;rw[<-hs.2];exact Za6 _
 runs ρ st w args v st' bV hs hW hv:=by
  unfold TV at hs;split at hs<;>first|(cases hs;done)|skip
  simp only[H0,Zc7]at hs;obtain⟨rfl,rfl⟩:=hs;obtain rfl:=hv.j5;have dy:(callFunc f ([]:List Value).toArray).run P w= .ok (.enter f #[]) w:=by simp[callFunc,hf,mC,hb]
  rw[dy];refine Calls.mono (h w λad u ha=>(hW.dH ad u ha).1) λe w' he=> ?_
  obtain⟨rfl,h1,h2,h3,h4,h5⟩:=he;exact⟨ρ,.bool true,λ_ _=>rfl,Za6 _,hW.grow h4 h5,⟨h1,h2,h3,h4,λk hk _=>h5 k hk,λb x hb=>.inl ⟨b,x,hb,rfl⟩⟩⟩
theorem ai1{P:Program}{C:Cells}{call:aq}{f:FuncId}{fn:Func}{c:Code}{args:List AV}{bV:List Value}{b:Bool}{n0:Pos}{bQ:St}{w:World}
  (cR:iK P C call) (hC:∀ad v,C ad=some v->w.cell? ad=some v) (hC2:∀a v,C a=some v->∀o,C ⟨a.block,o,none⟩=none->w.cell? ⟨a.block,o,none⟩=none) (hf:P.funcs[f]? =some fn) (mC:¬fn.name= "runtime.NumGoroutine") (hb:fn.body=some c)
  (ha:aI (λ_=>⟨0,0,0⟩) n0.toNat C args bV) (h:call f args { heap:= .e,next:=n0 }=some (.bool b,bQ)):
  Calls P f bV.toArray w λe w'=>e= .returned (.bool b)/\Quiet w w':=by
 have hr:=cR (λ_=>⟨0,0,0⟩) { heap:= .e,next:=n0 } w f args (.bool b) bQ bV h (E0 hC hC2) ha;have dy:(callFunc f bV.toArray).run P w= .ok (.enter f bV.toArray) w:=by simp[callFunc,hf,mC,hb]
 rw[dy]at hr;refine Calls.mono hr λe w' he=> ?_
 cases e with
 |returned x=>
  obtain⟨ρ',h1,_,_,_,hE⟩:=he;have:=h1.kD;subst this;exact⟨rfl,hE.os,hE.tape,hE.output,hE.size,λk hk=>hE.block k hk λb x hb=>by rw[T.eV]at hb;cases hb⟩
 |panicked c=>exact he.elim
 |outgrown=>exact he.elim
end
section
open Go Go.ChangeShapes Go.WideShapes Go.ChangeAt Go.RowKit
theorem Quiet.below{w w':World}(h:Quiet w w'):Below w.heap.size w w':=⟨h.1,h.2.1,h.2.2.1,h.2.2.2.1,h.2.2.2.2⟩
section
variable{H:Type}{enc:TypeId×Value->H}{P:Program}
theorem P5{W W':World}(hl:laidOutB P=true)(hb:Below W.heap.size W W'):∀{ts:List TypeId}{vs:List Value}{ds:List (DataW H)}{p:List MemPlace},
  DataW.TrodAll enc P W 0 (λ_=>true) true ts vs ds p->(∀t∈ts,P.readableRec t=true/\t<P.types.size)->(∀x∈p,x.block<W.heap.size)->
  DataW.TrodAll enc P W' 0 (λb=>decide (b<W.heap.size)) true ts vs ds p
 |[],_,_,_,h,_,_=>by obtain⟨rfl,rfl,rfl⟩:=trodAll_nil h;exact trodAll_mk0
 |t::ts,_,_,_,h,hr,hx=>by
  obtain⟨v,vs1,d,ds1,a,b,rfl,rfl,rfl,h1,h2⟩:=trodAll_cons h
  exact trodAll_cons_mk (Below.trod hl (hr t (by simp)).1 (hr t (by simp)).2 h1 hb (λx Zz=>hx x (List.mem_append_left _ Zz)))
   (P5 hl hb h2 (λt ht=>hr t (Za8 _ ht)) (λx Zz=>hx x (List.mem_append_right _ Zz)))
theorem ag2{f:Func}{s:ChangeSpec}{W W':World}{args:Array Value}{ds gs:List (DataW H)}{before:List MemPlace}{tb:TypeId}(hl:laidOutB P=true)
   (hW:DataW.Whole enc P f.params.toList s.vars false W args.toList ds gs before) (hv:s.vars=[]) (EY:s.fn H (ds++gs)={ results:=[.lit (.bool true)],args:=ds })
   (hr:∀t∈f.params.toList,P.readableRec t=true/\t<P.types.size) (hB:Below W.heap.size W W') (VY:f.resultTypes= #[tb]) (htb:P.underlying tb=some .bool):
   s.post enc P f false true false false W args (.bool true) W':=by
 have aW:=hW.lt;have iW:=hW;obtain⟨p,q,hA,hV,rfl,hfz,hnd⟩:=hW;have hq:q=[]:=by
   rw[hv]at hV;cases gs with
   |nil=>exact hV
   |cons g gs=>exact hV.elim
 subst hq;refine⟨ds,gs,p++[],[],p,[],iW,?_,?_,?_,hB.frame _,λh=>by cases h⟩
 .rw[EY,VY];exact trodAll_cons_mk (shut_bool htb _) trodAll_mk0
 .rw[EY];exact P5 hl hB hA hr (λx hx=>aW x (List.mem_append_left _ hx))
 .rw[EY,hv];rfl
end
section
variable{H:Type}{enc:TypeId×Value->H}{P:Program}{w:World}{base:Nat}{spare:Nat->Bool}{held:Bool}
theorem Xw{t:TypeId}{fs:Array Field}{Q:List AV->Prop}{r:Go.Reach}{b0:Nat}{v:Value}{d:DataW H}{p:List MemPlace}(ho:kY enc P w base spare held t Q)(ht:P.underlying t=some (.struct fs))
  (hval:Value.okWide P w r b0 t v) (hd:DataW.Trod enc P w base spare held t v d p):∃as,Q as/\∀ρ n,aC ρ n (λad=>w.cell? ad) (.agg as) v:=by
 obtain⟨cs,rfl,_⟩:=okWide_struct ht hval;obtain⟨fuel,hf⟩:=hd;obtain⟨as,h1,h2⟩:=ho _ _ _ hf;refine⟨as,h1,λρ n=> ?_⟩;have h3:=h2 ρ n;refine .agg as cs (by rw[h3.1];simp[Value.cells]) λi x x' hx DV=>h3.2 i x x' hx ?_
 simpa [Value.cells]using DV
end
end
section
open Go
theorem aC.anl{ρ:Pos->Loc}{n:Nat}{C C':Cells}{v:AV}{x:Value}(hC:∀ad u,C ad=some u->C' ad=some u)(h:aC ρ n C v x):aC ρ n C' v x:=by
 induction h with
 |bool b=>exact .bool b
 |int k i=>exact .int k i
 |str s bs h=>exact .str s bs h
 |pz=>exact .pz
 |ptr b off h=>exact .ptr b off h
 |fp xs i j es aQ base cell hl hc _ ih=>exact .fp xs i j es aQ base cell hl (λi j cs v h1 h2=>hC _ _ (hc i j cs v h1 h2)) ih
 |af=>exact .af
 |slice b off len cap es bA a hl hc ha hk=>exact .slice b off len cap es bA a hl hc ha hk
 |fl xs es bA a cell hl hs dB hc _ ih=>exact .fl xs es bA a cell hl hs dB (λi j cs v h1 h2=>hC _ _ (hc i j cs v h1 h2)) ih
 |sF=>exact .sF
 |map b h=>exact .map b h
 |func f x y x' y' hx hy _ _ ih1 ih2=>exact .func f x y x' y' hx hy ih1 ih2
 |lf=>exact .lf
 |AU=>exact .AU
 |iface t v x _ ih=>exact .iface t v x ih
 |agg l cs hl _ ih=>exact .agg l cs hl ih
 |tuple l cs hl _ ih=>exact .tuple l cs hl ih
def lR(ρ:Pos->Loc)(n:Nat)(C:Cells)(w:World)(v u:AV):Prop:=∀x,aC ρ n C v x->aC ρ n (λad=>w.cell? ad) u x
section
variable{ρ:Pos->Loc}{C:Cells}{st:St}{w:World}
theorem lR.self{n:Nat}(hC:∀ad u,C ad=some u->w.cell? ad=some u)(v:AV):lR ρ n C w v v:=λ_ h=>h.anl hC
theorem lR.agg{n:Nat}{l l':List AV}(hl:l.length=l'.length)(h:∀(i:Nat)(v u:AV),l[i]? =some v->l'[i]? =some u->lR ρ n C w v u):lR ρ n C w (.agg l) (.agg l'):=λx hx=>by
 cases hx with
 |agg _ cs h1 h2=>
  refine .agg l' cs (by omega) λi u x hu hx=> ?_
  have hi:i<l.length:=by rw[hl];exact(Za4.1 hu).1
  exact h i l[i] u (Za0 hi) hu _ (h2 i _ x (Za0 hi) hx)
theorem lR.slice(hW:bS ρ C st w){b:Pos}{off len es fz:Nat}{cap:Option Nat}{cs:List AV}(hb:st.heap.get b=some (.cells cs fz))(hlen:off+len*es<=cs.length){F:List (List AV)}(hF:F.length=len)
  (dB:∀(i:Nat)(r:List AV),F[i]? =some r->r.length=es)
  (hr:∀(i j:Nat)(r:List AV)(u v:AV),F[i]? =some r->r[j]? =some u->cs[off+i*es+j]? =some v->lR ρ st.next.toNat C w v u):
  lR ρ st.next.toNat C w (.slice b off len cap es) (.fl F es):=λx hx=>by
 cases hx with
 |slice  _ _ _ _ _ bA a hl hc ha hk=>
  have get:∀(i j:Nat)(r:List AV)(u:AV),F[i]? =some r->r[j]? =some u->i<len/\j<es/\off+i*es+j<cs.length/\0<bA:=λi j r u h1 h2=>by
   have g1:i<len:=(by rw[<-hF];exact(Za4.1 h1).1);have g2:j<es:=(by rw[<-dB i r h1];exact(Za4.1 h2).1);have g3:(i+1)*es<=len*es:=Zi3 _ g1;rw[Zi9]at g3;exact⟨g1,g2,by omega,by omega⟩
  have cell:∀(i j:Nat)(r:List AV)(u:AV),F[i]? =some r->r[j]? =some u->∃v y,cs[off+i*es+j]? =some v/\w.cell? ⟨a.block,a.off+i*es+j,none⟩=some y/\aC ρ st.next.toNat C v y:=λi j r u h1 h2=>by
   obtain⟨g1,g2,g3,g4⟩:=get i j r u h1 h2;obtain⟨_,rfl,_⟩:=ha (by omega);have hv:=Za0 g3;obtain⟨y,q1,q2⟩:=hW.cell hb hv;exact⟨_,y,hv,by rw[show(ρ b).base+off+i*es+j=(ρ b).base+(off+i*es+j)by omega];exact q1,q2⟩
  have key:aC ρ st.next.toNat (λad=>w.cell? ad) (.fl F es) (.slice (some a) F.length bA):=by
   refine .fl F es bA a (λi j=>(w.cell? ⟨a.block,a.off+i*es+j,none⟩).getD .nilFunc) (by omega) (λh0=> ?_) dB (λi j r u h1 h2=> ?_) (λi j r u h1 h2=> ?_)
   .    cases anm:len with
        |zero=>exfalso;apply h0;rw[anm]at hF;exact List.length_eq_zero_iff.1 hF
        |succ m=>
         obtain⟨_,rfl,_⟩:=ha (by omega);rfl
   .    obtain⟨v,y,_,q2,_⟩:=cell i j r u h1 h2;show w.cell? _=_;rw[q2];rfl
   .    obtain⟨v,y,q1,q2,q3⟩:=cell i j r u h1 h2;rw[q2];exact hr i j r u v h1 h2 q1 y q3
  rw[hF]at key;exact key
end
def dM (st:St):Nat->AV->AV
 |0,v=>v
 |  d+  1,.slice b off len cap es=>match decide (len=0)with
    |true=>.fl [] es
    |false=>match st.heap.get b with
     |  some (.cells cs _)=>match decide (off+len*es<=cs.length)with
        |true=>.fl ((List.range len).map λi=>((cs.drop (off+i*es)).take es).map (dM st d)) es
        |false=>.slice b off len cap es
     |_=>.slice b off len cap es
 |  d+1,.ptr b off=>match st.heap.get b with
    |some (.cells cs _)=>.fp [cs.map (dM st d)] 0 off
    |_=>.ptr b off
 |d+1,.agg l=>.agg (l.map (dM st d))
 |d+1,.func f x y=>.func f (x.map (dM st d)) (y.map (dM st d))
 |_,v=>v
theorem Z0(st:St)(d:Nat)(b:Pos)(off len:Nat)(cap:Option Nat)(es:Nat):dM st (d+1) (.slice b off len cap es)=match decide (len=0)with
 |true=>.fl [] es
 |false=>match st.heap.get b with
  |     some (.cells cs _)=>match decide (off+len*es<=cs.length)with
        |true=>.fl ((List.range len).map λi=>((cs.drop (off+i*es)).take es).map (dM st d)) es
        |false=>.slice b off len cap es
  |_=>.slice b off len cap es:=rfl
theorem ak1(st:St)(d:Nat)(b:Pos)(off:Nat):dM st (d+1) (.ptr b off)=match st.heap.get b with
 |some (.cells cs _)=>.fp [cs.map (dM st d)] 0 off
 |_=>.ptr b off:=rfl
theorem YO(st:St)(d:Nat)(l:List AV):dM st (d+1) (.agg l)= .agg (l.map (dM st d)):=rfl
theorem ai2(st:St)(d:Nat)(f:FuncId)(x y:List AV):dM st (d+1) (.func f x y)= .func f (x.map (dM st d)) (y.map (dM st d)):=rfl
section
variable{ρ:Pos->Loc}{C:Cells}{st:St}{w:World}
theorem lR.ptr(hW:bS ρ C st w){b:Pos}{off fz:Nat}{cs F:List AV}(hb:st.heap.get b=some (.cells cs fz))(hF:F.length=cs.length)
  (hr:∀(j:Nat)(u v:AV),F[j]? =some u->cs[j]? =some v->lR ρ st.next.toNat C w v u):lR ρ st.next.toNat C w (.ptr b off) (.fp [F] 0 off):=λx hx=>by
 cases hx with
 |ptr   _ _ h=>
  have row:∀(i j:Nat)(r:List AV)(u:AV),[F][i]? =some r->r[j]? =some u->i=0/\∃v y,cs[j]? =some v/\w.cell? ⟨(ρ b).aQ,(ρ b).base+j,none⟩=some y/\aC ρ st.next.toNat C v y/\F[j]? =some u:=λi j r u h1 h2=>by
   have hi:i=0:=(by have:=(Za4.1 h1).1;simp at this;exact this);subst hi;simp at h1;subst h1;have hj:j<cs.length:=(by rw[<-hF];exact(Za4.1 h2).1);obtain⟨y,q1,q2⟩:=hW.cell hb (Za0 hj);exact⟨rfl,_,y,Za0 hj,q1,q2,h2⟩
  have key:aC ρ st.next.toNat (λad=>w.cell? ad) (.fp [F] 0 off) (.pointer (some ⟨(ρ b).aQ,(ρ b).base+0*cs.length+off,none⟩)):=by
   refine .fp [F] 0 off cs.length (ρ b).aQ (ρ b).base (λ_ j=>(w.cell? ⟨(ρ b).aQ,(ρ b).base+j,none⟩).getD .nilFunc) (λi r h1=> ?_) (λi j r u h1 h2=> ?_) (λi j r u h1 h2=> ?_)
   .    have hi:i=0:=(by have:=(Za4.1 h1).1;simp at this;exact this);subst hi;simp at h1;subst h1;exact hF
   .    obtain⟨rfl,v,y,_,q2,_⟩:=row i j r u h1 h2;show w.cell? _=_;rw[show(ρ b).base+0*cs.length+j=(ρ b).base+j by omega,q2];rfl
   .    obtain⟨rfl,v,y,q1,q2,q3,q4⟩:=row i j r u h1 h2;rw[q2];exact hr j u v q4 q1 y q3
  rw[show(ρ b).base+0*cs.length+off=(ρ b).base+off by omega]at key;exact key
theorem lR.dM (hW:bS ρ C st w):∀(d:Nat)(v:AV),lR ρ st.next.toNat C w v (dM st d v)
 |0,v=>lR.self (λad u h=>(hW.dH ad u h).1) v
 |d+    1,v=>   by
  have self:=lR.self (ρ:=ρ) (n:=st.next.toNat) (λad u h=>(hW.dH ad u h).1) v;cases v with
  |slice    b off len cap es=>
   rw[Z0];split
   .    rename_i h0;obtain rfl:=Zi1 h0;intro x hx;cases hx with
        | slice _ _ _ _ _ bA a hl hc ha hk=>
          exact .fl [] es bA a (λ_ _=>.nilFunc) (Zj1 _) (λh=>absurd rfl h) (λi c h=>by simp at h) (λi j c v h=>by simp at h) (λi j c v h=>by simp at h)
   split
   .    rename_i cs fz hb;split
        . rename_i hle;have hle:=Zi1 hle;refine lR.slice hW hb hle (by simp) (λi r hi=> ?_) (λi j r u v hi hj hv=> ?_)
          . rw[Zc3]at hi;by_cases h:i<len
            .rw[Zm2 h]at hi;simp only[Zd8,H0]at hi;subst hi;have g3:(i+1)*es<=len*es:=Zi3 _ h;rw[Zi9]at g3;simp;omega
            .rw[Zc6 (by simpa using h)]at hi;cases hi
          . rw[ Zc3]at hi;by_cases h:i<len
            . rw[Zm2 h]at hi;simp only[Zd8,H0]at hi;subst hi;rw[Zc3,Zd7]at hj;split at hj
              .rw[Zf5,hv]at hj;simp only[Zd8,H0]at hj;subst hj;exact lR.dM hW d v
              .cases hj
            .rw[Zc6 (by simpa using h)]at hi;cases hi
        .exact self
   .    exact self
  |ptr b off=>
   rw[ak1];split
   .    rename_i cs fz hb;refine lR.ptr hW hb (by simp) (λj u v hu hv=> ?_);rw[Zc3,hv]at hu;simp only[Zd8,H0]at hu;subst hu;exact lR.dM hW d v
   .    exact self
  |agg l=>
   rw[YO];refine lR.agg (by simp) (λi v u h1 h2=> ?_);rw[Zc3,h1]at h2;simp only[Zd8,H0]at h2;subst h2;exact lR.dM hW d v
  |func f x y=>
   rw[ai2];intro v' hv;cases hv with
   |    func _ _ _ x' y' hx hy h1 h2=>
        have one:∀(l:List AV)(xs:Array Value),(∀(i:Nat)(v:AV)(v':Value),l[i]? =some v->xs[i]? =some v'->aC ρ st.next.toNat C v v')->∀(i:Nat)(v:AV)(v':Value),(l.map (Go.Ai.dM st d))[i]? =some v->xs[i]? =some v'->aC ρ st.next.toNat (λad=>w.cell? ad) v v':=λl xs h i u v' hu hx=>by
          rw[Zc3]at hu;cases hg:l[i]? with
          |none=>rw[hg]at hu;cases hu
          | some v0=>
            rw[hg]at hu;simp only[Zd8,H0]at hu;subst hu;exact lR.dM hW d v0 _ (h i v0 v' hg hx)
        exact .func f _ _ x' y' (by simpa using hx) (by simpa using hy) (one x x' h1) (one y y' h2)
  |_=>exact self
theorem aI.dM(hW:bS ρ C st w)(d:Nat){l:List AV}{xs:List Value}(h:aI ρ st.next.toNat C l xs):aI ρ st.next.toNat (λad=>w.cell? ad) (l.map (Go.Ai.dM st d)) xs:=
 ⟨by rw[<-h.1];simp,λi u x hu hx=>by
  rw[Zc3]at hu;cases hv:l[i]? with
  |none=>rw[hv]at hu;cases hu
  |  some v=>
     rw[hv]at hu;simp only[Zd8,H0]at hu;subst hu;exact lR.dM hW d v _ (h.2 i v x hv hx)⟩
end
def cL(v:AV):Prop:=∀(ρ:Pos->Loc)(n:Nat)(C C':Cells)(x:Value),aC ρ n C v x->aC ρ n C' v x
theorem cL.bool(b:Bool):cL (.bool b):=λ_ _ _ _ _ h=>by cases h;exact .bool b
theorem cL.int(k:IntKind)(i:Int):cL (.int k i):=λ_ _ _ _ _ h=>by cases h;exact .int k i
theorem cL.str(s:List Nat):cL (.str s):=λ_ _ _ _ _ h=>by cases h with|str _ bs h=>exact .str s bs h
theorem cL.af:cL .af:=λ_ _ _ _ _ h=>by cases h;exact .af
theorem cL.slice(b:Pos)(o l:Nat)(c:Option Nat)(es:Nat):cL (.slice b o l c es):=λ_ _ _ _ _ h=>by
 cases h with|slice _ _ _ _ _ bA a h1 h2 h3 h4=>exact .slice b o l c es bA a h1 h2 h3 h4
theorem cL.agg{l:List AV}(hl:∀v∈l,cL v):cL (.agg l):=λ_ _ _ _ _ h=>by
 cases h with|agg _ cs hx h1=>exact .agg l cs hx λi v x hv hx=>hl v (Zf2 hv) _ _ _ _ _ (h1 i v x hv hx)
def OL:AB->Prop
 |.cells cs _=>∀v∈cs,cL v
 |.map es _=>∀e∈es,cL e.1/\cL e.2.1
theorem OL.rel{x:AB}(h:OL x){ρ:Pos->Loc}{n:Nat}{C C':Cells}{L:Loc}{w:World}(k:ri ρ n C L w x):ri ρ n C' L w x:=by
 cases x with
 |cells cs fz=>
  obtain⟨c,e,fr,h1,h2,h3,h4,h5⟩:=k;exact⟨c,e,fr,h1,h2,h3,⟨h4.1,λi v x hv hx=>h v (Zf2 hv) _ _ _ _ _ (h4.2 i v x hv hx)⟩,h5⟩
 |map es clock=>
  obtain⟨es',h1,h2,h3⟩:=k;exact⟨es',h1,h2,λi e e' he qf=>let⟨a,b,c⟩:=h3 i e e' he qf;⟨(h e (Zf2 he)).1 _ _ _ _ _ a,(h e (Zf2 he)).2 _ _ _ _ _ b,c⟩⟩
def T.both{α:Type}:T α->T α->T α
 |t,.e=>t
 |.e,t=>t
 |.n l v r,.n l' v' r'=>.n (T.both l l') (v.or v') (T.both r r')
theorem T.ag3{α:Type}(t:T α):T.both t .e=t:=by cases t<;>rfl
theorem T.Ew{α:Type}:∀(p:Pos)(t t':T α),(T.both t t').get p=(t.get p).or (t'.get p)
 |p,t,.e=>by rw[T.ag3,T.eV];simp
 |p,.e,.n l v r=>by rw[T.eV];rfl
 |.h,.n l v r,.n l' v' r'=>rfl
 |.o p,.n l v r,.n l' v' r'=>T.Ew p l l'
 |.i p,.n l v r,.n l' v' r'=>T.Ew p r r'
def T.keep{α:Type}(P:α->Bool):T α->T α
 |.e=>.e
 |.n l v r=>.n (T.keep P l) (v.filter P) (T.keep P r)
theorem T.OM{α:Type}(P:α->Bool):∀(p:Pos)(t:T α),(T.keep P t).get p=(t.get p).filter P
 |p,.e=>by rw[T.keep,T.eV];rfl
 |.h,.n l v r=>rfl
 |.o p,.n l v r=>T.OM P p l
 |.i p,.n l v r=>T.OM P p r
open Classical in
noncomputable def CL(t:T AB):T AB:=T.keep (λx=>decide (OL x)) t
theorem Z3{t:T AB}{p:Pos}{x:AB}(h:(CL t).get p=some x):t.get p=some x/\OL x:=by
 unfold CL at h;rw[T.OM]at h;cases hg:t.get p with
 |none=>rw[hg]at h;cases h
 |some y=>
  rw[hg]at h;simp only[Option.filter]at h;split at h
  .rename_i hb;cases h;exact⟨rfl,@Zi1 _ (Classical.propDecidable _) hb⟩
  .cases h
theorem ag4{t:T AB}{p:Pos}{x:AB}(h:t.get p=some x)(hb:OL x):(CL t).get p=some x:=by
 unfold CL;rw[T.OM,h];simp[Option.filter,hb]
theorem ak2:CL .e= .e:=rfl
def Shut(n0:Pos)(r:AV×St):Prop:=cL r.1/\n0.toNat<=r.2.next.toNat
open Classical in
noncomputable def ON(call:aq)(f:FuncId)(d:Nat):List AV->St->Option (AV×St):=λargs st=>
 match call f (args.map (dM st d)) { heap:= .e,next:=st.next }with
 |some (v,bQ)=>if Shut st.next (v,bQ)then some (v,{ heap:=T.both st.heap (CL bQ.heap),next:=bQ.next })else none
 |none=>none
theorem aeA{call:aq}{f:FuncId}{d:Nat}{args:List AV}{st:St}{v:AV}{bQ:St}(h:call f (args.map (dM st d)) { heap:= .e,next:=st.next }=some (v,bQ))(hs:Shut st.next (v,bQ)):
  ON call f d args st=some (v,{ heap:=T.both st.heap (CL bQ.heap),next:=bQ.next }):=by
 unfold ON;rw[h];simp only;rw[Zb5 hs]
theorem ai3{call:aq}{f:FuncId}{d:Nat}{args:List AV}{st:St}{v:AV}(h:call f (args.map (dM st d)) { heap:= .e,next:=st.next }=some (v,{ heap:= .e,next:=st.next }))(hs:cL v):
  ON call f d args st=some (v,st):=by
 rw[aeA h ⟨hs,Za6 _⟩];simp only[ak2,T.ag3]
theorem lS {P :Program}{C:Cells}{f:FuncId}{call:aq}{d:Nat}(c9:∀C':Cells,(∀ad u,C ad=some u->C' ad=some u)->iK P C' call):oP P C f (ON call f d) where
 mono args st v st' h:=by
  unfold ON at h;split at h
  . split at h
    .   rename_i hs;simp only[H0,Zc7]at h;rw[<-h.2];exact hs.2
    .   cases h
  .cases h
 runs ρ st  w args v st' bV h hW hv:=by
  unfold ON at h;split at h
  . rename_i v1 bQ hc;split at h
    .   rename_i hs;simp only[H0,Zc7]at h;obtain⟨rfl,rfl⟩:=h;obtain⟨s1,s3⟩:=hs;have hr:=c9 (λad=>w.cell? ad) (λad u ha=>(hW.dH ad u ha).1) ρ { heap:= .e,next:=st.next } w f _ v1 bQ bV hc (E0 (λad u ha=>ha) λa u _ o ho=>ho) (aI.dM hW d hv);refine Reaches.mono (λx w' he=> ?_) hr
        . obtain⟨ρ',h1,h2,h3,h4,hE⟩:=he;have un:∀k,k<w.heap.size->w'.heap[k]? =w.heap[k]? :=λk hk=>hE.block k hk λb x hb=>by rw[T.eV]at hb;cases hb
          have new:∀b x,bQ.heap.get b=some x->w.heap.size<=(ρ' b).aQ:=λb x hx=>by
            rcases hE.xL b x hx with⟨b',x',gK,_⟩|hh
            .rw[T.eV]at gK;cases gK
            .exact hh
          have both:∀b x,(T.both st.heap (CL bQ.heap)).get b=some x->(st.heap.get b=some x/\ρ' b=ρ b)\/(bQ.heap.get b=some x/\OL x):=λb x hx=>by
            rw[T.Ew]at hx;cases hg:st.heap.get b with
            |none=>rw[hg]at hx;exact .inr (Z3 (by simpa using hx))
            |some y=>rw[hg]at hx;simp at hx;subst hx;exact .inl ⟨rfl,h2 b (hW.live b y hg).1⟩
          refine⟨ρ',s1 _ _ _ _ _ h1,h2,s3,⟨λb x hx=> ?_,λb b' x x' hx DV WQ=> ?_,λa u ha=> ?_,λa u ha o ho=> ?_⟩,⟨hE.os,hE.tape,hE.output,hE.size,λk hk _=>un k hk,λb x hx=> ?_⟩⟩
          . rcases both b x hx with⟨hg,bG⟩|⟨hg,abi⟩
            .obtain⟨l1,l2,l3⟩:=hW.live b x hg;refine⟨Zc5 l1 s3,by rw[bG];exact Zc5 l2 hE.size,?_⟩;rw[bG];exact(l3.of_heap (un _ l2)).mono h2 s3
            .obtain⟨l1,l2,l3⟩:=h4.live b x hg;exact⟨l1,l2,abi.rel l3⟩
          . rcases both b x hx with⟨hg,bG⟩|⟨hg,abi⟩
            . rcases both b' x' DV with⟨Cs,Em⟩|⟨Cs,_⟩
              .rw[bG,Em]at WQ;exact hW.inj b b' x x' hg Cs WQ
              .have q1:=(hW.live b x hg).2.1;have q2:=new b' x' Cs;rw[bG]at WQ;omega
            . rcases both b' x' DV with⟨Cs,Em⟩|⟨Cs,_⟩
              .have q1:=(hW.live b' x' Cs).2.1;have q2:=new b x hg;rw[Em]at WQ;omega
              .exact h4.inj b b' x x' hg Cs WQ
          . obtain⟨c1,c2⟩:=hW.dH a u ha;have aW:a.block<w.heap.size:=World.block_lt_of_cell? _ _ c1;refine⟨(h4.dH a u c1).1,λb x hx=> ?_⟩;rcases both b x hx with⟨hg,bG⟩|⟨hg,abi⟩
            .rw[bG];exact c2 b x hg
            .have:=new b x hg;omega
          .have aW:a.block<w.heap.size:=World.block_lt_of_cell? _ _ (hW.dH a u ha).1;rw[World.cell?_of_block (w:=w) (a:=⟨a.block,o,none⟩) (un _ aW)];exact hW.whole a u ha o ho
          . rcases both b x hx with⟨hg,bG⟩|⟨hg,abi⟩
            .exact .inl ⟨b,x,hg,by rw[bG]⟩
            .exact .inr (new b x hg)
    .   cases h
  .cases h
theorem ak3(H:Pos->Option AB)(n:Pos)(k k':IntKind)(a b:Int):aJ.run H n .minB [.int k a,.int k' b]=some (.val (.int k (min a b))):=by
 show some (eH.val (.int k (match EM b a with|true=>b|false=>a)))=_;rw[eW];by_cases h:b<a
 .rw[Za1 h];simp only;rw[Int.min_eq_right (by omega)]
 .rw[Za3 h];simp only;rw[Int.min_eq_left (by omega)]
theorem ak4(H:Pos->Option AB)(n:Pos)(k k':IntKind)(a b:Int):aJ.run H n .maxB [.int k a,.int k' b]=some (.val (.int k (max a b))):=by
 show some (eH.val (.int k (match EM a b with|true=>b|false=>a)))=_;rw[eW];by_cases h:a<b
 .rw[Za1 h];simp only;rw[Int.max_eq_right (by omega)]
 .rw[Za3 h];simp only;rw[Int.max_eq_left (by omega)]
theorem ak5(H:Pos->Option AB)(n:Pos)(q:fM)(k:IntKind)(a b:Int)(hb:b≠0):aJ.run H n (.bin .quo q) [.int k a,.int k b]=some (.val (.int k (az k (a.tdiv b)))):=by
 simp[aJ.run,jg,pE,cN,iy,hb]
theorem ak6(H:Pos->Option AB)(n:Pos)(q:fM)(k:IntKind)(a b:Int)(hb:b≠0):aJ.run H n (.bin .rem q) [.int k a,.int k b]=some (.val (.int k (a.tmod b))):=by
 simp[aJ.run,jg,pE,cN,iy,hb]
section
variable{R:Type}(c:aq)(K:AV->St->Option R)(st:St)
@[simp] theorem aom(k k':IntKind)(a b:Int):aj c .minB [.int k a,.int k' b] st K=K (.int k (min a b)) st:=bC c K (λH n=>ak3 H n k k' a b) st
@[simp] theorem aon(k k':IntKind)(a b:Int):aj c .maxB [.int k a,.int k' b] st K=K (.int k (max a b)) st:=bC c K (λH n=>ak4 H n k k' a b) st
theorem ak7(q:fM)(k:IntKind)(a b:Int)(hb:b≠0):aj c (.bin .quo q) [.int k a,.int k b] st K=K (.int k (az k (a.tdiv b))) st:=bC c K (λH n=>ak5 H n q k a b hb) st
theorem aeB(q:fM)(k:IntKind)(a b:Int)(hb:b≠0):aj c (.bin .rem q) [.int k a,.int k b] st K=K (.int k (a.tmod b)) st:=bC c K (λH n=>ak6 H n q k a b hb) st
@[simp] theorem aod(q:fM)(k:IntKind)(a:Int):aj c (.bin .quo q) [.int k a,.int k 2] st K=K (.int k (az k (a.tdiv 2))) st:=ak7 c K st q k a 2 (by decide)
@[simp] theorem aoe(q:fM)(k:IntKind)(a:Int):aj c (.bin .rem q) [.int k a,.int k 2] st K=K (.int k (a.tmod 2)) st:=aeB c K st q k a 2 (by decide)
end
def bN:AV->Option Pos
 |.slice b _ n cap _=>if cap=some 0/\n=0 then none else some b
 |_=>none
theorem Bu{b b':Pos}{off n es:Nat}{cap:Option Nat}(h:bN (.slice b off n cap es)=some b'):b=b':=by
 simp only[bN]at h;split at h
 .cases h
 .exact Zh2 h
theorem iE(b:Pos)(off n es:Nat):bN (.slice b off n none es)=some b:=by simp[bN]
theorem l9(b:Pos)(off es:Nat):bN (.slice b off 0 (some 0) es)=none:=by simp[bN]
def QS(es:Nat)(s:St)(v:AV)(rows:List (List AV)):Prop:=
 (v= .af/\rows=[])\/(∃b off cap cs,v= .slice b off rows.length cap es/\s.heap.get b=some (.cells cs 0)/\off+rows.length*es<=cs.length/\(cs.drop off).take (rows.length*es)=rows.flatten/\(cap=none\/cap=some rows.length))\/
    (∃b off,v= .slice b off 0 (some 0) es/\rows=[])
theorem QS.nil{es:Nat}{s:St}:QS es s .af []:= .inl ⟨rfl,rfl⟩
theorem QS.mono{es:Nat}{s s':St}{v:AV}{rows:List (List AV)}(h:QS es s v rows)(hk:∀b x,bN v=some b->s.heap.get b=some x->s'.heap.get b=some x):QS es s' v rows:=by
 rcases h with⟨rfl,rfl⟩|⟨b,off,cap,cs,rfl,h1,h2,h3,h4⟩|⟨b,off,rfl,rfl⟩
 .exact .inl ⟨rfl,rfl⟩
 . by_cases h0:cap=some 0/\rows.length=0
   .obtain⟨rfl,h0⟩:=h0;refine .inr (.inr ⟨b,off,by rw[h0],Zc1 h0⟩)
   .exact .inr (.inl ⟨b,off,cap,cs,rfl,hk b _ (by simp only[bN];rw[Zb2 h0]) h1,h2,h3,h4⟩)
 .exact .inr (.inr ⟨b,off,rfl,rfl⟩)
theorem QS.len{es:Nat}{s:St}{v:AV}{rows:List (List AV)}(h:QS es s v rows):dX v=some rows.length:=by rcases h with⟨rfl,rfl⟩|⟨b,off,cap,cs,rfl,_⟩|⟨b,off,rfl,rfl⟩<;>rfl
theorem QS.lt{es:Nat}{s:St}{v:AV}{rows:List (List AV)}(h:QS es s v rows)(hw:Wf s){b:Pos}(hb:bN v=some b):b.toNat<s.next.toNat:=by
 rcases h with⟨rfl,rfl⟩|⟨b',off,cap,cs,rfl,h1,_⟩|⟨b',off,rfl,rfl⟩
 .cases hb
 .obtain rfl:=Bu hb;exact hw _ _ h1
 .rw[l9]at hb;cases hb
theorem QS.first{es:Nat}{s:St}{v:AV}{rows:List (List AV)}(h:QS es s v rows)(hr:∀r∈rows,r.length=es):cZ es rows.length (λb=>s.heap.get b) v=some rows.flatten:=by
 rcases h with⟨rfl,rfl⟩|⟨b,off,cap,cs,rfl,h1,h2,h3,h4⟩|⟨b,off,rfl,rfl⟩
 .rfl
 rotate_left
 .simp[cZ,eD]
 . by_cases h0:rows.length*es=0
   .simp only[cZ,eD,Za1 h0];have:rows.flatten=[]:=(by rw[<-h3,h0];simp);rw[this]
   .simp only[cZ,eD,Za3 h0,h1];unfold cut;rw[eZ,Za1 h2];simp only;rw[h3]
theorem QS.app{R:Type}{c:aq}{es bytes:Nat}{s:St}{v:AV}{rows:List (List AV)}(hw:Wf s)(h:QS es s v rows)(hr:∀r∈rows,r.length=es){q:Pos}{row:List AV}(hq:s.heap.get q=some (.cells row 0))(gy:row.length=es)(h1:aV row=true)
   (dB:es≠0) (hb:(2*(rows.length+1)+768)*bytes<=281474976710656) (hn:rows.length<=4000000):
   ∃ s5,(∀(K:AV->St->Option R),aj c (.append es bytes) [v,.slice q 0 1 (some 1) es] s K=K (.slice s.next 0 (rows.length+1) none es) s5)/\QS es s5 (.slice s.next 0 (rows.length+1) none es) (rows++[row])/\
     Wf s5/\s5.next=s.next.succ/\(∀p,bN v≠some p->p.toNat<s.next.toNat->s5.heap.get p=s.heap.get p)/\s5.heap.get s.next=some (.cells (rows.flatten++row) 0):=by
 have hx:cZ es 1 (λb=>s.heap.get b) (.slice q 0 1 (some 1) es)=some row:=by simp only[cZ,eD,Zm7,Za3 dB,hq];exact bP gy
 have ho:=h.first hr;have hlen:rows.flatten.length=rows.length*es:=by
   clear h ho hn hb;induction rows with
   |nil=>simp
   | cons r rows ih=>
     have:=ih (λx hx=>hr x (Za8 _ hx));have h2:=hr r (by simp);simp only[Ze9,Zc9,Zc2,Zi9];omega
 have new:∀(s5:St),s5.heap.get s.next=some (.cells (rows.flatten++row) 0)->QS es s5 (.slice s.next 0 (rows.length+1) none es) (rows++[row]):=λs5 hs=>by
   refine .inr (.inl ⟨s.next,0,none,rows.flatten++row,by simp,hs,?_,?_,.inl rfl⟩)
   .simp only[Zc9,Zc2,Zi6,Za5,Zj0,Zm7,hlen,gy];omega
   .simp only[Zf4,List.flatten_append,Ze9,List.flatten_nil,Zd4];refine Zg0 ?_;simp only[Zc9,Zc2,Zi6,Za5,Zj0,Zm7,hlen,gy];omega
 have Kt:(2*(rows.length+1)+768)*bytes<=281474976710656:=hb;have wR:rows.length+1<=9223372036854775807:=by omega
 rcases h with⟨rfl,rfl⟩|⟨b,off,cap,cs,rfl,g1,g2,g3,g4⟩|⟨b,off,rfl,rfl⟩
 rotate_right
 . have run:aJ.run (λb=>s.heap.get b) s.next (.append es bytes) [.slice b off 0 (some 0) es,.slice q 0 1 (some 1) es]=some (.br (.slice s.next 0 (0+1) none es) none none (some (.cells ([]++row) 0))):=(by have h2:¬(0+1<=0):=(by omega);have RA:cZ es 0 (λb=>s.heap.get b) (.slice b off 0 (some 0) es)=some []:=(by simp[cZ,eD]);simp only[aJ.run,gR];rw[show dX (.slice b off 0 (some 0) es)=some 0 from rfl,show dX (.slice q 0 1 (some 1) es)=some 1 from rfl];have hb3:(2*(0+1)+768)*bytes<=281474976710656:=(by simpa using hb);simp only[eZ,eD,Za1 hb3,Za3 h2,hx,RA];simp);refine⟨ah s (.cells row 0),λK=> ?_,?_,bL hw,rfl,λp _ hp=>ru hp,by simpa using aF s (.cells row 0)⟩
   .unfold aj cJ;simp only[Zi6]at run ⊢; rw[run];rfl
   .simpa using new (ah s (.cells row 0)) (by simpa using aF s (.cells row 0))
 .refine⟨ah s (.cells row 0),λK=>acf c K (m:=1) rfl (by omega) (by simpa using hb) (by omega) hx,?_,bL hw,rfl,λp _ hp=>ru hp,by simpa using aF s (.cells row 0)⟩;simpa using new (ah s (.cells row 0)) (by simpa using aF s (.cells row 0))
 . rcases g4 with rfl|rfl
   .have run:aJ.run (λb=>s.heap.get b) s.next (.append es bytes) [.slice b off rows.length none es,.slice q 0 1 (some 1) es]=some (.br (.slice s.next 0 (rows.length+1) none es) (some b) none (some (.cells (rows.flatten++row) (0 - off)))):=(by simp only[aJ.run,gR];rw[show dX (.slice b off rows.length none es)=some rows.length from rfl,show dX (.slice q 0 1 (some 1) es)=some 1 from rfl];simp only[eZ,eD,Za1 Kt,Za1 wR,hx,g1,ho,h1];simp);refine⟨dst s b (.cells (rows.flatten++row) 0),λK=> ?_,new _ (TU _ _ _),ace hw,rfl,λp hp hl=>OH (λe=>hp (by rw[e,iE])) hl,TU _ _ _⟩;unfold aj cJ;rw[run];simp only[Nat.zero_sub];rfl
   . have h2:¬(rows.length+1<=rows.length):=(by omega);have run:aJ.run (λb=>s.heap.get b) s.next (.append es bytes) [.slice b off rows.length (some rows.length) es,.slice q 0 1 (some 1) es]=some (.br (.slice s.next 0 (rows.length+1) none es) none none (some (.cells (rows.flatten++row) 0))):=by
        simp only[aJ.run,gR];rw[show dX (.slice b off rows.length (some rows.length) es)=some rows.length from rfl,show dX (.slice q 0 1 (some 1) es)=some 1 from rfl];simp only[eZ,eD,Za1 Kt,Za1 wR,Za3 h2,hx,ho]
     refine⟨ah s (.cells (rows.flatten++row) 0),λK=> ?_,new _ (aF _ _),bL hw,rfl,λp _ hp=>ru hp,aF _ _⟩;unfold aj cJ;rw[run];rfl
theorem TW{R:Type}{c:aq}{es:Nat}{z:List AV}{x:AV}(hz:z.length=es)(hx:x.cells.length=es)(s:St)(K:AV->St->Option R):
  aj c (.buildSlice es 1 z [0]) [x] s K=K (.slice s.next 0 1 (some 1) es) (ah s (.cells x.cells 0)):=by
 have:cH (cv z 1) ([0].map λi=>(i*es,es)) [x]=some x.cells:=by
  simp only[Zb1,Zd5,Zn2,cv,Zd4,cH,eD,eZ,hx,Zh8,Za5,hz,Za6];simp only[aZ,List.take_zero,Zg3,Za5];rw[Zn3 (by omega),Zd4]
 rw[eo,this];rfl
structure Mk(es:Nat)(s0 s:St)(v:AV)(rows:List (List AV)):Prop where
 tZ:Wf s0
 aA:Grew s0 s
 own:QS es s v rows
 new:∀b,bN v=some b->s0.next.toNat<=b.toNat
 row:∀r∈rows,r.length=es
 cap:∀b off n cp e,v= .slice b off n cp e->cp=none\/(n=0/\cp=some 0)
 tight:∀b,bN v=some b->s.heap.get b=some (.cells rows.flatten 0)
theorem Mk.start{es:Nat}{s0 s:St}(h0:Wf s0)(hg:Grew s0 s):Mk es s0 s .af []:=⟨h0,hg,QS.nil,λb h=>(by cases h),λr h=>(by cases h),λb off n cp e h=>(by cases h),λb h=>(by cases h)⟩
theorem Mk.grow{es:Nat}{s0 s s':St}{v:AV}{rows:List (List AV)}(h:Mk es s0 s v rows)(hg:Grew s s'):Mk es s0 s' v rows:=
 ⟨h.tZ,h.aA.trans hg,h.own.mono λb x _ hx=>hg.get hx,h.new,h.row,h.cap,λb hb=>hg.get (h.tight b hb)⟩
theorem Mk.push{R:Type}{c:aq}{es bytes:Nat}{s0 s:St}{v:AV}{rows:List (List AV)}(h:Mk es s0 s v rows){z:List AV}{x:AV}(hz:z.length=es)(hx:x.cells.length=es)(h1:aV x.cells=true)(dB:es≠0)
   (hb:(2*(rows.length+1)+768)*bytes<=281474976710656) (hn:rows.length<=4000000):
   ∃ s5 v',(∀(K:AV->St->Option R),aj c (.buildSlice es 1 z [0]) [x] s (λy t=>aj c (.append es bytes) [v,y] t K)=K v' s5)/\Mk es s0 s5 v' (rows++[x.cells])/\
     (∀p b,bN v≠some p->s.heap.get p=some b->s5.heap.get p=some b)/\∀b,bN v'=some b->s.next.toNat<=b.toNat:=by
 have hw:=h.aA.wf;have bX:Wf (ah s (.cells x.cells 0)):=bL hw;have g1:=Grew.ah hw (.cells x.cells 0);obtain⟨s5,a1,a2,a3,a4,a5,a6⟩:=QS.app (R:=R) (c:=c) (bytes:=bytes) bX (h.own.mono λb x _ hx=>g1.get hx) h.row (aF s (.cells x.cells 0)) hx h1 dB hb hn;have keep:∀p b,bN v≠some p->s.heap.get p=some b->s5.heap.get p=some b:=λp b hp hg=>by have aW:=hw _ _ hg;rw[a5 p hp (by rw[cO,Pos.aK];omega)];exact g1.get hg
 refine⟨s5,_,λK=> ?_,⟨h.tZ,⟨a3,λp b hg=> ?_,?_⟩,a2,λb hb=> ?_,λr hr=> ?_,λb off n cp e he=> ?_,λb hb=> ?_⟩,keep,λb hb=> ?_⟩
 .rw[TW hz hx,a1]
 .have ze:=h.aA.get hg;refine keep p b (λe=> ?_) ze;have:=h.new p e;have:=h.tZ p b hg;omega
 .have:=h.aA.next;rw[a4,cO,Pos.aK,Pos.aK];omega
 .rw[iE]at hb;cases hb;have:=h.aA.next;rw[cO,Pos.aK];omega
 . rcases Ze7.1 hr with hr|hr
   .exact h.row r hr
   .simp at hr;subst hr;exact hx
 .cases he;exact .inl rfl
 .rw[iE]at hb;cases hb;rw[a6];simp
 .rw[iE]at hb;cases hb;rw[cO,Pos.aK];omega
theorem nN{b:Pos}{off n es:Nat}(h:Plain (.slice b off n none es)):False:=by
 have h1:aC (λ_=>⟨0,0,off+n*es⟩) (b.toNat+1) (λ_=>none) (.slice b off n none es) (.slice (some ⟨0,0+off,none⟩) n n):=
  .slice b off n none es n _ (Za6 _) (λc hc=>by cases hc) (λ_=>⟨by omega,rfl,by simp⟩) (λ_=>by omega)
 have h2:=h _ (λ_=>⟨0,0,0⟩) _ 0 _ _ h1;cases h2 with
 |slice _ _ _ _ _ _ _ _ _ _ hk=>exact absurd (hk rfl) (by omega)
theorem Mk.tidy{es:Nat}{s s':St}{v:AV}{rows:List (List AV)}(h:Mk es s s' v rows):∃cP,Go.Ai.tidy s (v,s')=(v,cP)/\Mk es s cP v rows:=by
 unfold Go.Ai.tidy;by_cases hp:Plain (v,s').1/\bf s (v,s').2
 . rw[Zb5 hp];refine⟨s,rfl,?_⟩;rcases h.own with⟨rfl,rfl⟩|⟨b,off,cap,cs,rfl,_⟩|⟨b,off,rfl,rfl⟩
   .exact Mk.start h.tZ (Grew.refl h.tZ)
   . rcases h.cap _ _ _ _ _ rfl with rfl|⟨h0,rfl⟩
     .exact(nN hp.1).elim
     .exact⟨h.tZ,Grew.refl h.tZ,.inr (.inr ⟨b,off,by rw[h0],Zc1 h0⟩),λb hb=>(by rw[h0,l9]at hb;cases hb),h.row,h.cap,λb hb=>(by rw[h0,l9]at hb;cases hb)⟩
   .exact⟨h.tZ,Grew.refl h.tZ,.inr (.inr ⟨b,off,rfl,rfl⟩),λb hb=>(by rw[l9]at hb;cases hb),h.row,h.cap,λb hb=>(by rw[l9]at hb;cases hb)⟩
 .rw[Zb2 hp];exact⟨s',rfl,h⟩
theorem QS.dM{es d:Nat}{s:St}{v:AV}{rows:List (List AV)}(h:QS es s v rows)(hr:∀r∈rows,r.length=es):
   ∃z,Go.Ai.dM s (d+1) v=ro es z (rows.map λr=>r.map (Go.Ai.dM s d)):=by
 rcases h with⟨rfl,rfl⟩|⟨b,off,cap,cs,rfl,h1,h2,h3,h4⟩|⟨b,off,rfl,rfl⟩
 .exact⟨true,rfl⟩
 rotate_left
 .exact⟨false,rfl⟩
 . refine⟨false,?_⟩;by_cases h0:rows.length=0
   .obtain rfl:=Zc1 h0;rfl
   rw[Z0,Za3 h0];simp only;rw[h1];simp only[Za1 h2];show AV.fl _ _=AV.fl _ _;congr 1;(refine List.ext_getElem (by simp) λi p1 p2=> ?_);simp only[Zb9,List.length_range]at p1;simp only[Zm1,List.getElem_range];congr 1;have key:∀(rows:List (List AV))(i:Nat)(hi:i<rows.length),(∀r∈rows,r.length=es)->((rows.flatten).drop (i*es)).take es=rows[i]:=by
     intro rows;induction rows with
     |nil=>intro i hi;simp at hi
     |  cons r rows ih=>
        intro i hi hr;have hl:=hr r (by simp);cases i with
        |zero=>simp[<-hl]
        |succ i=>
         have:=ih i (by simpa using hi) (λx hx=>hr x (Za8 _ hx));rw[Ze9,Zi9,Zq9, <-hl,List.drop_append];simp only[Zn4];rw[<-this,hl];simp[List.drop_eq_nil_of_le (show r.length<=es+i*es by omega)]
   rw[<-key rows i p1 hr, <-h3];rw[Zq0,List.take_take,Zn1];congr 1;have:(i+1)*es<=rows.length*es:=Zi3 _ p1;rw[Zi9]at this;omega
section
variable{R:Type}(c:aq)(K:AV->St->Option R)(st:St)
theorem xX{b:Pos}{off len es es':Nat}{cap:Option Nat}{k:IntKind}{i:Nat}(h:i<len):aj c (.idxA es none) [.slice b off len cap es',.int k (i:Int)] st K=K (.ptr b (off+i*es)) st:=
 bC c K (λH n=>by
  simp only[aJ.run,qC,kF];have:Nat.blt i len=true:=by rw[Nat.blt_eq];exact h
  rw[this]) st
theorem xY(b:Pos)(off len es:Nat)(cap:Option Nat):aj c (.lenB .l) [.slice b off len cap es] st K=K (.int .i64 (len:Int)) st:=bC c K (λH n=>rfl) st
theorem ag5{b:Pos}{off len es:Nat}{cap:Option Nat}(h:1<=len)(hc:∀x,cap=some x->len<=x):
  aj c (.sliceL es true false false) [.slice b off len cap es,.int .i64 1] st K=K (.slice b (off+1*es) (len - 1) (cap.map (· - 1)) es) st:=
 bC c K (λH n=>by
  have hb:bounds true false false [.int .i64 1]=some (some 1,none,none):=rfl;simp only[aJ.run,qI,hb,eD,eZ,Zh8,Zj8,Zq6,Za1 h];cases cap with
  |none=>simp
  |some x=>simp[hc x rfl]) st
theorem aeC{es bytes:Nat}{z:List AV}{k k':IntKind}{n:Nat}(h1:bytes*n<=281474976710656)(h2:n<=9223372036854775807):
  aj c (.mkSlice es bytes z) [.int k (n:Int),.int k' (n:Int)] st K=K (.slice st.next 0 n (some n) es) (ah st (.cells (cv z n) 0)):=by
 have:aJ.run (λb=>st.heap.get b) st.next (.mkSlice es bytes z) [.int k (n:Int),.int k' (n:Int)]=some (.br (.slice st.next 0 n (some n) es) none none (some (.cells (cv z n) 0))):=by
  simp only[aJ.run,Cl,kF,eZ,Za1 h1,Za1 h2,Za6,Zh8]
 unfold aj cJ;rw[this];rfl
end
theorem OO{α:Type}(x:α):∀n:Nat,cv [x] n=List.replicate n x
 |0=>rfl
 |n+1=>by simp[cv,OO x n,Zp7]
theorem Ir{rows:List (List AV)}{es:Nat}(hr:∀r∈rows,r.length=es):∀(i j:Nat)(r:List AV)(u:AV),rows[i]? =some r->r[j]? =some u->rows.flatten[i*es+j]? =some u:=by
 induction rows with
 |nil=>intro i j r u h;simp at h
 |cons r0 rows ih=>
  intro i j r u h1 h2;have hl:=hr r0 (by simp);cases i with
  |zero=>
   simp at h1;subst h1;have:=(Za4.1 h2).1;rw[Ze9,Zn2,Za5,Zd9 this];exact h2
  |succ i=>
   rw[Ze9,Zd6 (by rw[Zi9];omega)];rw[show(i+1)*es+j - r0.length=i*es+j by rw[Zi9];omega];exact ih (λx hx=>hr x (Za8 _ hx)) i j r u (by simpa using h1) h2
theorem QS.at{R:Type}{c:aq}{es:Nat}{s:St}{v:AV}{rows:List (List AV)}(h:QS es s v rows)(hr:∀r∈rows,r.length=es)(dB:es≠0){i:Nat}(hi:i<rows.length):
   ∃b o cs,(∀(K:AV->St->Option R)(k:IntKind)(s1:St),aj c (.idxA es none) [v,.int k (i:Int)] s1 K=K (.ptr b o) s1)/\bN v=some b/\s.heap.get b=some (.cells cs 0)/\∀j u,rows[i][j]? =some u->cs[o+j]? =some u:=by
 rcases h with⟨rfl,rfl⟩|⟨b,off,cap,cs,rfl,g1,g2,g3,g4⟩|⟨b,off,rfl,rfl⟩
 .simp at hi
 rotate_left
 .simp at hi
 . refine⟨b,off+i*es,cs,λK k s1=>xX c K s1 hi,by simp only[bN];rw[Zb2 (by omega)],g1,λj u hj=> ?_⟩;have hri:=hr rows[i] (Zc0 hi);have hj2:j<es:=(by rw[<-hri];exact(Za4.1 hj).1);have:=Ir hr i j rows[i] u (Za0 hi) hj;rw[<-g3,Zd7]at this;split at this
   .rw[Zf5]at this;rw[<-this];congr 1;omega
   .cases this
theorem QS.tail{R:Type}{c:aq}{es:Nat}{s:St}{v:AV}{r:List AV}{rows:List (List AV)}(h:QS es s v (r::rows))(hr:r.length=es):
   ∃v',(∀(K:AV->St->Option R)(s1:St),aj c (.sliceL es true false false) [v,.int .i64 1] s1 K=K v' s1)/\QS es s v' rows/\∀b,bN v'=some b->bN v=some b:=by
 rcases h with⟨rfl,h⟩|⟨b,off,cap,cs,rfl,g1,g2,g3,g4⟩|⟨b,off,rfl,h⟩
 .cases h
 rotate_left
 .cases h
 . refine⟨.slice b (off+1*es) rows.length (cap.map (· - 1)) es,λK s1=> ?_,.inr (.inl ⟨b,off+1*es,cap.map (· - 1),cs,rfl,g1,?_,?_,?_⟩),λb' hb=>by
     obtain rfl:=Bu hb;simp only[bN,Zc2];rw[Zb2 (by omega)]⟩
   .rw[ag5 c K s1 (by simp) (λx hx=>by rcases g4 with rfl|rfl<;>cases hx;exact Za6 _)];simp
   .simp only[Zc2,Zi9]at g2;omega
   . have:((cs.drop off).take ((r::rows).length*es)).drop es=rows.flatten:=(by rw[g3,Ze9, <-hr];simp);rw[<-this,Zq0,Zn1];congr 1
     .simp only[Zc2,Zi9];omega
     .congr 1;omega
   . rcases g4 with rfl|rfl
     .exact .inl rfl
     .right;simp
theorem QS.ann{R:Type}{c:aq}{es bytes:Nat}{s:St}{v:AV}{rows:List (List AV)}(hw:Wf s)(h:QS es s v rows)(hr:∀r∈rows,r.length=es){z:List AV}{x:AV}(hz:z.length=es)(hx:x.cells.length=es)(h1:aV x.cells=true)(dB:es≠0)
   (hb:(2*(rows.length+1)+768)*bytes<=281474976710656) (hn:rows.length<=4000000):
   ∃s5 v',(∀(K:AV->St->Option R),aj c (.buildSlice es 1 z [0]) [x] s (λy t=>aj c (.append es bytes) [v,y] t K)=K v' s5)/\QS es s5 v' (rows++[x.cells])/\Wf s5/\s.next.toNat<=s5.next.toNat/\
    (∀p b,bN v≠some p->s.heap.get p=some b->s5.heap.get p=some b)/\(∀b,bN v'=some b->s.next.toNat<=b.toNat)/\∀b,bN v'=some b->s5.heap.get b=some (.cells (rows.flatten++x.cells) 0):=by
 have bX:Wf (ah s (.cells x.cells 0)):=bL hw;have g1:=Grew.ah hw (.cells x.cells 0);obtain⟨s5,a1,a2,a3,a4,a5,a6⟩:=QS.app (R:=R) (c:=c) (bytes:=bytes) bX (h.mono λb x _ hx=>g1.get hx) hr (aF s (.cells x.cells 0)) hx h1 dB hb hn;refine⟨s5,_,λK=>by rw[TW hz hx,a1],a2,a3,by rw[a4,cO,Pos.aK,Pos.aK];omega,λp b hp hg=> ?_,λb hb=> ?_,λb hb=> ?_⟩
 .have aW:=hw _ _ hg;rw[a5 p hp (by rw[cO,Pos.aK];omega)];exact g1.get hg
 .rw[iE]at hb;cases hb;rw[cO,Pos.aK];omega
 .rw[iE]at hb;cases hb;exact a6
theorem QS.push{R:Type}{c:aq}{es bytes:Nat}{s:St}{v:AV}{rows:List (List AV)}(hw:Wf s)(h:QS es s v rows)(hr:∀r∈rows,r.length=es){z:List AV}{x:AV}(hz:z.length=es)(hx:x.cells.length=es)(h1:aV x.cells=true)(dB:es≠0)
  (hb:(2*(rows.length+1)+768)*bytes<=281474976710656) (hn:rows.length<=4000000):
  ∃s5 v',(∀(K:AV->St->Option R),aj c (.buildSlice es 1 z [0]) [x] s (λy t=>aj c (.append es bytes) [v,y] t K)=K v' s5)/\QS es s5 v' (rows++[x.cells])/\Wf s5/\s.next.toNat<=s5.next.toNat/\
   (∀p b,bN v≠some p->s.heap.get p=some b->s5.heap.get p=some b)/\∀b,bN v'=some b->s.next.toNat<=b.toNat:=by
 obtain⟨s5,v',a1,a2,a3,a4,a5,a6,_⟩:=QS.ann (R:=R) (c:=c) (bytes:=bytes) hw h hr hz hx h1 dB hb hn;exact⟨s5,v',a1,a2,a3,a4,a5,a6⟩
theorem QS.lenB{R:Type}{c:aq}{es:Nat}{s:St}{v:AV}{rows:List (List AV)}(h:QS es s v rows)(K:AV->St->Option R)(s1:St):aj c (.lenB .l) [v] s1 K=K (.int .i64 (rows.length:Int)) s1:=by
 rcases h with⟨rfl,rfl⟩|⟨b,off,cap,cs,rfl,_⟩|⟨b,off,rfl,rfl⟩
 .exact bC c K (λH n=>rfl) s1
 .exact xY c K s1 _ _ _ _ _
 .exact xY c K s1 _ _ _ _ _
def gP(v:AV):Prop:=∃N0 K0:Nat,∀N K:Nat,N0<=N->K0<=K->∃x,aC (λ_=>⟨0,0,K⟩) N (λ_=>none) v x
theorem gP.int(k:IntKind)(i:Int):gP (.int k i):=⟨0,0,λ_ _ _ _=>⟨_,.int k i⟩⟩
theorem gP.bool(b:Bool):gP (.bool b):=⟨0,0,λ_ _ _ _=>⟨_,.bool b⟩⟩
theorem gP.af:gP .af:=⟨0,0,λ_ _ _ _=>⟨_,.af⟩⟩
theorem gP.str{s:List Nat}(h:∀x∈s,x<256):gP (.str s):=⟨0,0,λ_ _ _ _=>⟨.string ⟨(s.map UInt8.ofNat).toArray⟩,.str s _ (by
 show(s.map UInt8.ofNat).toArray.toList.map UInt8.toNat=s;simp only[Zi0]
 conv=>rhs;rw[<-Zr4 s]
 refine Zj5 λc hc=> ?_
 have:=h c hc;simp[UInt8.toNat_ofNat];omega)⟩⟩
theorem gP.slice(b:Pos)(off n es:Nat):gP (.slice b off n none es):=⟨b.toNat+1,off+n*es,λN K hN hK=>⟨.slice (some ⟨0,0+off,none⟩) n n,
 .slice b off n none es n _ (Za6 _) (λc hc=>by cases hc) (λ_=>⟨by omega,rfl,by simpa using hK⟩) (λ_=>by omega)⟩⟩
theorem gP.zero(b:Pos)(off es:Nat):gP (.slice b off 0 (some 0) es):=⟨0,0,λN K _ _=>⟨.slice (some ⟨0,0,none⟩) 0 0,
 .slice b off 0 (some 0) es 0 _ (Za6 _) (λc hc=>by cases hc;rfl) (λh=>absurd rfl h) (λh=>by cases h)⟩⟩
theorem inst_list:∀{l:List AV},(∀v∈l,gP v)->∃N0 K0:Nat,∀N K:Nat,N0<=N->K0<=K->∃xs,aI (λ_=>⟨0,0,K⟩) N (λ_=>none) l xs
 |[],_=>⟨0,0,λ_ _ _ _=>⟨[],aI.nil⟩⟩
 |v::l,h=>by
  obtain⟨N1,K1,h1⟩:=h v (by simp);obtain⟨N2,K2,h2⟩:=inst_list (λu hu=>h u (Za8 _ hu));refine⟨max N1 N2,max K1 K2,λN K hN hK=> ?_⟩;obtain⟨x,hx⟩:=h1 N K (by omega) (by omega);obtain⟨xs,qe⟩:=h2 N K (by omega) (by omega);exact⟨x::xs,aI.cons hx qe⟩
theorem dN{l:List AV}(hi:∀v∈l,gP v){b:Pos}{off n es:Nat}(hm:AV.slice b off n none es∈l):¬Plain (.agg l):=λh=>by
 obtain⟨N0,K0,h1⟩:=inst_list hi;obtain⟨xs,hx⟩:=h1 N0 K0 (Za6 _) (Za6 _);have h2:aC (λ_=>⟨0,0,K0⟩) N0 (λ_=>none) (.agg l) (.agg xs.toArray):= .agg l _ (by rw[hx.1];simp) λi v x hv DV=>hx.2 i v x hv (by simpa using DV)
 have h3:=h _ (λ_=>⟨0,0,0⟩) _ 0 _ _ h2;obtain⟨i,aW,hi⟩:=Zf0.1 hm;cases h3 with
 |agg _ _ hl hc=>
  have ai4:i<xs.toArray.size:=by rw[<-hl];exact aW
  obtain⟨y,hy⟩:∃y,xs.toArray[i]? =some y:=⟨_,Zf3 ai4⟩
  have:=hc i _ y (by rw[Za0 aW,hi]) hy;cases this with
  |slice _ _ _ _ _ _ _ _ _ _ hk=>exact absurd (hk rfl) (by omega)
theorem Mk.inst{es:Nat}{s s':St}{v:AV}{rows:List (List AV)}(h:Mk es s s' v rows):gP v:=by
 rcases h.own with⟨rfl,rfl⟩|⟨b,off,cap,cs,rfl,_⟩|⟨b,off,rfl,rfl⟩
 .exact gP.af
 . rcases h.cap _ _ _ _ _ rfl with rfl|⟨h0,rfl⟩
   .exact gP.slice _ _ _ _
   .rw[h0];exact gP.zero _ _ _
 .exact gP.zero _ _ _
theorem Mk.loose{es:Nat}{s s':St}{v:AV}{rows:List (List AV)}(h:Mk es s s' v rows):(∃b off n,v= .slice b off n none es)\/((∀t,Wf t->Mk es t t v rows)/\rows=[]):=by
 rcases h.own with⟨rfl,rfl⟩|⟨b,off,cap,cs,rfl,_⟩|⟨b,off,rfl,rfl⟩
 .exact .inr ⟨λt ht=>Mk.start ht (Grew.refl ht),rfl⟩
 . rcases h.cap _ _ _ _ _ rfl with rfl|⟨h0,rfl⟩
   .exact .inl ⟨_,_,_,rfl⟩
   .exact .inr ⟨λt ht=>⟨ht,Grew.refl ht,.inr (.inr ⟨b,off,by rw[h0],Zc1 h0⟩),λb hb=>(by rw[h0,l9]at hb;cases hb),h.row,h.cap,λb hb=>(by rw[h0,l9]at hb;cases hb)⟩,Zc1 h0⟩
 .exact .inr ⟨λt ht=>⟨ht,Grew.refl ht,.inr (.inr ⟨b,off,rfl,rfl⟩),λb hb=>(by rw[l9]at hb;cases hb),h.row,h.cap,λb hb=>(by rw[l9]at hb;cases hb)⟩,rfl⟩
theorem Mk.VZ{es:Nat}{s s':St}{v:AV}{rows:List (List AV)}(h:Mk es s s' v rows){l:List AV}(hm:v∈l)(hi:∀u∈l,gP u):∃cP,Go.Ai.tidy s (.agg l,s')=(.agg l,cP)/\(cP=s'\/cP=s)/\Mk es s cP v rows:=by
 unfold Go.Ai.tidy;by_cases hp:Plain (AV.agg l,s').1/\bf s (AV.agg l,s').2
 . rw[Zb5 hp];refine⟨s,rfl,.inr rfl,?_⟩;rcases h.loose with⟨b,off,n,rfl⟩|⟨hl,_⟩
   .exact absurd hp.1 (dN hi hm)
   .exact hl s h.tZ
 .rw[Zb2 hp];exact⟨s',rfl,.inl rfl,h⟩
theorem Mk.cells{es:Nat}{s s':St}{v:AV}{rows:List (List AV)}(h:Mk es s s' v rows):v.cells=[v]/\aV [v]=true:=by
 rcases h.own with⟨rfl,rfl⟩|⟨b,off,cap,cs,rfl,_⟩|⟨b,off,rfl,rfl⟩<;>exact⟨rfl,rfl⟩
theorem Mk.store{es:Nat}{s s':St}{v:AV}{rows:List (List AV)}(h:Mk es s s' v rows){p:Pos}{b:AB}(hp:s.next.toNat<=p.toNat)(My:p.toNat<s'.next.toNat)(cA:bN v≠some p):Mk es s (bI s' p b) v rows:=
 ⟨h.tZ,⟨jI h.aA.wf My,λq x hq=>by have:=h.tZ _ _ hq;rw[aO (λe=>by rw[e]at hp;omega)];exact h.aA.get hq,by rw[eB];exact h.aA.next⟩,
  h.own.mono λq x hq hx=>by rw[aO (λe=>cA (by rw[hq,e]))];exact hx,h.new,h.row,h.cap,λb hb=>by rw[aO (λe=>cA (by rw[hb,e]))];exact h.tight b hb⟩
theorem Mk.back{es:Nat}{s0 s s':St}{v:AV}{rows:List (List AV)}(h:Mk es s s' v rows)(h0:Wf s0)(hg:Grew s0 s):Mk es s0 s' v rows:=
 ⟨h0,hg.trans h.aA,h.own,λb hb=>Zb7 hg.next (h.new b hb),h.row,h.cap,h.tight⟩
theorem OP{α:Type}(l:List α)(i:Nat)(h:i<l.length)(u:α):aZ l i [u]=l.set i u:=by unfold aZ;rw[Zm8,Zb5 h];simp
theorem Lt{es:Nat}:∀(rows:List (List AV)),(∀r∈rows,r.length=es)->∀(i j:Nat)(hi:i<rows.length),j<es->∀u,rows.flatten.set (i*es+j) u=(rows.set i (rows[i].set j u)).flatten
 |[],_,i,j,hi,_,_=>by simp at hi
 |r::rows,hr,i,j,hi,hj,u=>by
  have hl:=hr r (by simp);cases i with
  |zero=>
   simp only[Zn2,Za5,Ze9,Zm6,List.getElem_cons_zero];rw[List.set_append_left _ _ (by omega)]
  |succ i=>
   simp only[Ze9,List.set_cons_succ,Zn4];rw[Zl4 _ _ (by rw[Zi9];omega)];rw[show(i+1)*es+j - r.length=i*es+j by rw[Zi9];omega];rw[Lt rows (λx hx=>hr x (Za8 _ hx)) i j (by simpa using hi) hj u]
theorem QS.set{R:Type}{c:aq}{es:Nat}{s:St}{v:AV}{rows:List (List AV)}(h:QS es s v rows)(hr:∀r∈rows,r.length=es)(dB:es≠0){i:Nat}(hi:i<rows.length):
   ∃ b o cs,(∀(K:AV->St->Option R)(k:IntKind)(s1:St),aj c (.idxA es none) [v,.int k (i:Int)] s1 K=K (.ptr b o) s1)/\(∀(K:AV->Option R)(k:IntKind),gU (.idxA es none) [v,.int k (i:Int)] K=K (.ptr b o))/\bN v=some b/\s.heap.get b=some (.cells cs 0)/\o+es<=cs.length/\(∀j u,rows[i][j]? =some u->cs[o+j]? =some u)/\
     (∀j u (s':St),j<es->s'.heap.get b=some (.cells (aZ cs (o+j) [u]) 0)->QS es s' v (rows.set i (rows[i].set j u)))/\
     ∀j u,j<es->cs=rows.flatten->aZ cs (o+j) [u]=(rows.set i (rows[i].set j u)).flatten:=by
 rcases h with⟨rfl,rfl⟩|⟨b,off,cap,cs,rfl,g1,g2,g3,g4⟩|⟨b,off,rfl,rfl⟩
 .simp at hi
 rotate_left
 .simp at hi
 have hri:=hr rows[i] (Zc0 hi);have hm:(i+1)*es<=rows.length*es:=Zi3 _ hi;rw[Zi9]at hm;have hx:∀(k:IntKind)(H:Pos->Option AB)(n:Pos),aJ.run H n (.idxA es none) [.slice b off rows.length cap es,.int k (i:Int)]=some (.val (.ptr b (off+i*es))):=λk H n=>by
   simp only[aJ.run,qC,kF];have:Nat.blt i rows.length=true:=(by rw[Nat.blt_eq];exact hi);rw[this]
 refine⟨b,off+i*es,cs,λK k s1=>xX c K s1 hi,λK k=>dJ K (hx k),by simp only[bN];rw[Zb2 (by omega)],g1,by omega,λj u hj=> ?_,λj u s' hj hs=> ?_,λj u hj he=> ?_⟩
 . have hj2:j<es:=(by rw[<-hri];exact(Za4.1 hj).1);have:=Ir hr i j rows[i] u (Za0 hi) hj;rw[<-g3,Zd7]at this;split at this
   .rw[Zf5]at this;rw[<-this];congr 1;omega
   .cases this
 .rw[OP _ _ (by omega)]at hs;refine .inr (.inl ⟨b,off,cap,_,by simp,hs,by simpa using g2,?_,by simpa using g4⟩);rw[Zf9, <-Lt rows hr i j hi hj u, <-g3,List.drop_set,Zb2 (by omega),List.take_set];congr 1;omega
 . have hlen:rows.flatten.length=rows.length*es:=by
     clear g2 g3 g4 hi hri hm hx g1 he;induction rows with
     |nil=>simp
     |  cons r rows ih=>
        have:=ih (λx hx=>hr x (Za8 _ hx));have h2:=hr r (by simp);simp only[Ze9,Zc9,Zc2,Zi9];omega
   have h0:off=0:=(by rw[he,hlen]at g2;omega);subst h0;rw[OP _ _ (by omega),he, <-Lt rows hr i j hi hj u];congr 1;omega
def Src(es:Nat)(s:St)(v:AV)(rows:List (List AV)):Prop:=v= .fl rows es\/QS es s v rows
theorem Src.len{es:Nat}{s:St}{v:AV}{rows:List (List AV)}(h:Src es s v rows):dX v=some rows.length:=by
 rcases h with rfl|h
 .rfl
 .exact h.len
theorem Src.mono{es:Nat}{s s':St}{v:AV}{rows:List (List AV)}(h:Src es s v rows)(hk:∀b x,bN v=some b->s.heap.get b=some x->s'.heap.get b=some x):Src es s' v rows:=h.imp id λh=>h.mono hk
theorem Src.aA{es:Nat}{s s':St}{v:AV}{rows:List (List AV)}(h:Src es s v rows)(hg:Grew s s'):Src es s' v rows:=h.mono λ_ _ _ hx=>hg.get hx
theorem Src.first{es:Nat}{s:St}{v:AV}{rows:List (List AV)}(h:Src es s v rows)(hr:∀r∈rows,r.length=es):cZ es rows.length (λb=>s.heap.get b) v=some rows.flatten:=by
 rcases h with rfl|h
 .simp only[cZ,eD,eZ,Zh8,Za6,Zh6]
 .exact h.first hr
theorem Src.nil{es:Nat}{s:St}{v:AV}{rows:List (List AV)}(h:Src es s v rows):(v= .af/\rows=[])\/∀{R:Type}(c:aq)(K:AV->St->Option R)(t:St),aj c (.bin .eql .slice) [v,.af] t K=K (.bool false) t:=by
 rcases h with rfl|⟨rfl,rfl⟩|⟨b,off,cap,cs,rfl,_⟩|⟨b,off,rfl,rfl⟩
 .exact .inr λc K t=>bC c K (λH n=>rfl) t
 .exact .inl ⟨rfl,rfl⟩
 .exact .inr λc K t=>bC c K (λH n=>rfl) t
 .exact .inr λc K t=>bC c K (λH n=>rfl) t
theorem Src.ro{es:Nat}{s:St}(z:Bool)(rows:List (List AV)):Src es s (ro es z rows) rows:=by
 unfold Go.Ai.ro;split
 .exact .inr (.inl ⟨rfl,rfl⟩)
 .exact .inl rfl
theorem Z4{es:Nat}:∀{rows:List (List AV)},(∀r∈rows,r.length=es)->rows.flatten.length=rows.length*es
 |[],_=>by simp
 |r::rows,hr=>by have ih:=Z4 (λx hx=>hr x (Za8 _ hx));have h2:=hr r (by simp);simp only[Ze9,Zc9,Zc2,Zi9];omega
theorem Z5{es bytes:Nat}{z:List AV}{src:AV}{rows:List (List AV)}(hr:∀r∈rows,r.length=es)(_hes:es≠0)(hb:(2*rows.length+768)*bytes<=281474976710656)(hn:rows.length<=4000000){c:aq}{R:Type}(s:St)(hw:Wf s)(h:Src es s src rows):
   ∃v s',(∀(K:AV->St->Option R),aj c (.buildSlice es 0 z []) [] s (λy t=>aj c (.append es bytes) [y,src] t K)=K v s')/\Mk es s s' v rows:=by
 have bs:∀(K:AV->St->Option R),aj c (.buildSlice es 0 z []) [] s K=K (.slice s.next 0 0 (some 0) es) (ah s (.cells [] 0)):=λK=>by rw[eo];rfl
 have bX:Wf (ah s (.cells [] 0)):=bL hw;have g1:=Grew.ah hw (.cells [] 0);have hl:=h.len;by_cases h0:rows.length=0
 .obtain rfl:=Zc1 h0;refine⟨.slice s.next 0 0 (some 0) es,ah s (.cells [] 0),λK=> ?_,hw,g1,.inr (.inr ⟨_,_,rfl,rfl⟩),λb hb=>(by rw[l9]at hb;cases hb),hr,λb off n cp e he=>(by cases he;exact .inr ⟨rfl,rfl⟩),λb hb=>(by rw[l9]at hb;cases hb)⟩;rw[bs,acg c K hl (by simpa using hb) (by simp)]
 . have hx:cZ es rows.length (λb=>(ah s (.cells [] 0)).heap.get b) src=some rows.flatten:=(h.aA g1).first hr;have hlen:=Z4 hr;refine⟨.slice (ah s (.cells [] 0)).next 0 rows.length none es,ah (ah s (.cells [] 0)) (.cells rows.flatten 0),λK=> ?_,hw,g1.trans (Grew.ah bX _),.inr (.inl ⟨_,0,none,rows.flatten,rfl,aF _ _,by omega,?_,.inl rfl⟩),λb hb=> ?_,hr,λb off n cp e he=>(by cases he;exact .inl rfl),λb hb=>(by rw[iE]at hb;cases hb;exact aF _ _)⟩
   .rw[bs,ag0 c K (m:=rows.length) hl h0 (by simpa using hb) (by omega) hx]
   .simp only[Zf4];exact Zg0 (by omega)
   .rw[iE]at hb;cases hb;rw[cO,Pos.aK];omega
theorem Xx{v:AV}(h:aV [v]=true):v.one=true:=by
 simp only[aV]at h;split at h
 .assumption
 .cases h
theorem aaA{b:Pos}{o:Nat}{k1 k2:IntKind}{i1 i2:Int}:¬Plain (.tuple [.ptr b o,.int k1 i1,.int k2 i2]):=λh=>by
 obtain⟨x0,e0⟩:∃x,aC (λ_=>⟨0,0,0⟩) (b.toNat+1) (λ_=>none) (.ptr b o) x:=⟨_,.ptr b o (by omega)⟩
 obtain⟨x1,e1⟩:∃x,aC (λ_=>⟨0,0,0⟩) (b.toNat+1) (λ_=>none) (.int k1 i1) x:=⟨_,.int k1 i1⟩
 obtain⟨x2,e2⟩:∃x,aC (λ_=>⟨0,0,0⟩) (b.toNat+1) (λ_=>none) (.int k2 i2) x:=⟨_,.int k2 i2⟩
 have:=h (λ_=>⟨0,0,0⟩) (λ_=>⟨0,0,0⟩) (b.toNat+1) 0 (λ_=>none) _ (.tuple _ #[x0,x1,x2] rfl (λi v v' hv hx=>by
  match i with
  |0=>simp at hv hx;subst hv hx;exact e0
  |1=>simp at hv hx;subst hv hx;exact e1
  |2=>simp at hv hx;subst hv hx;exact e2
  |i+3=>simp at hv))
 cases this with
 |tuple _ _ _ h=>
  have:=h 0 _ x0 rfl rfl;cases this with
  |ptr _ _ h=>omega
section
variable{s0 s s':St}{jb:Pos}{Ls:List AV}{R:List (List AV)}{I:List (AV×List (List AV))}
end
section
variable{s0 s s':St}{jb:Pos}{Ls:List AV}{R:List (List AV)}{I:List (AV×List (List AV))}
end
theorem Ex{R:Type}{c:aq}(K:AV->St->Option R){s:St}{p:Pos}{o:Nat}{cs:List AV}{v:AV}(h:s.heap.get p=some (.cells cs 0))(ho:o<cs.length)(h1:v.cells=[v])(h2:v.one=true):
  aj c (.store 1) [.ptr p o,v] s K=K .undef (bI s p (.cells (cs.set o v) 0)):=by
 rw[dz c K s 1 p o v cs h (by rw[h1];rfl) (by omega) (by rw[h1];simp[aV,h2]),h1,OP _ _ ho]
theorem QS.beq{es:Nat}{s:St}{v:AV}{rows:List (List AV)}(h:QS es s v rows):dO v v=true:=by
 rcases h with⟨rfl,_⟩|⟨b,off,cap,cs,rfl,_⟩|⟨b,off,rfl,_⟩
 .rfl
 .cases cap<;>simp[dO,nG,gq,Pos.beq_eq.2 rfl]
 .simp[dO,nG,gq,Pos.beq_eq.2 rfl]
theorem Mk.beq{es:Nat}{s s':St}{v:AV}{rows:List (List AV)}(h:Mk es s s' v rows):dO v v=true:=h.own.beq
theorem ak8{R:Type}{z:List AV}{x:AV}(hz:z.length=1)(hx:x.cells=[x])(s:St)(K:AV->AB->Option R):
  Xq (.buildSlice 1 1 z [0]) [x] s K=K (.slice s.next 0 1 (some 1) 1) (.cells [x] 0):=by
 have:cH (cv z 1) ([0].map λi=>(i*1,1)) [x]=some [x]:=by
  simp only[Zb1,Zd5,Zn2,cv,Zd4,cH,eD,eZ,hx,Zh8,Za5,hz,Za6,Zc2,Zi6];simp only[aZ,List.take_zero,Zg3,Za5,Zc2,Zi6];rw[Zn3 (by omega),Zd4]
 rw[afB,this];rfl
theorem ai5{R:Type}{c:aq}{z:List AV}{x:AV}(hz:z.length=1)(hx:x.cells=[x])(s:St)(K:AV->St->Option R):
  aj c (.buildSlice 1 1 z [0]) [x] s K=K (.slice s.next 0 1 (some 1) 1) (ah s (.cells [x] 0)):=by
 rw[TW hz (by rw[hx];rfl),hx]
section
variable{s0 s s':St}{jb:Pos}{Ls:List AV}{R:List (List AV)}{I:List (AV×List (List AV))}
end
def lkE:List (Int×Int)->Int->Option Int
 |[],_=>none
 |(k,d)::E,x=>if x=k then some d else lkE E x
section
variable{R:Type}(c:aq)(K:AV->St->Option R){st:St}{m:Pos}{E:List (Int×Int)}
end
theorem QS.bare{es:Nat}{s:St}{v:AV}{rows:List (List AV)}(h:QS es s v rows):cL v:=by
 rcases h with⟨rfl,_⟩|⟨b,off,cap,cs,rfl,_⟩|⟨b,off,rfl,_⟩
 .exact cL.af
 .exact cL.slice _ _ _ _ _
 .exact cL.slice _ _ _ _ _
def emptyAt(s:St):St:={ heap:= .e,next:=s.next }
theorem dG(s:St):Wf (emptyAt s):=λp x h=>by have h:(T.e:T AB).get p=some x:=h;rw[T.eV]at h;cases h
noncomputable def cK(s s1:St):St:={ heap:=T.both s.heap (CL s1.heap),next:=s1.next }
theorem afE{s s1:St}{b:Pos}{x:AB}(h:s.heap.get b=some x):(cK s s1).heap.get b=some x:=by show(T.both _ _).get b=_;rw[T.Ew,h];rfl
theorem Xy{s s1:St}(hw:Wf s){b:Pos}{x:AB}(hb:s.next.toNat<=b.toNat)(h:s1.heap.get b=some x)(hx:OL x):(cK s s1).heap.get b=some x:=by
 show(T.both _ _).get b=_;have:s.heap.get b=none:=by
  cases e:s.heap.get b with
  |none=>rfl
  |some y=>have:=hw _ _ e;omega
 rw[T.Ew,this,ag4 h hx];rfl
theorem Lu{s s1:St}(hw:Wf s)(h1:Wf s1)(hn:s.next.toNat<=s1.next.toNat):Grew s (cK s s1):=
 ⟨fun p x h=>by
  have h:(T.both s.heap (CL s1.heap)).get p=some x:=h;show p.toNat<s1.next.toNat;rw[T.Ew]at h;cases e:s.heap.get p with
  |some y=>have:=hw _ _ e;omega
  |none=>
   rw[e]at h;have h:(CL s1.heap).get p=some x:=(by simpa using h);exact h1 _ _ (Z3 h).1,λp x h=>afE h,hn⟩
theorem Mk.cK{es:Nat}{s s1:St}{v:AV}{rows:List (List AV)}(hw:Wf s)(h:Mk es (emptyAt s) s1 v rows)(hb:∀r∈rows,∀x∈r,cL x):Mk es s (Go.Ai.cK s s1) v rows:=by
 have key:∀b x,bN v=some b->s1.heap.get b=some x->(Go.Ai.cK s s1).heap.get b=some x:=λb x gK hx=>by
  have t:=h.tight b gK;have DV:x= .cells rows.flatten 0:=by rw[t]at hx;exact(Zh2 hx).symm
  subst DV;exact Xy hw (h.new b gK) t (λv hv=>by obtain⟨r,hr,hv⟩:=Zq8.1 hv;exact hb r hr v hv)
 exact⟨hw,Lu hw h.aA.wf h.aA.next,h.own.mono key,h.new,h.row,h.cap,λb gK=>key b _ gK (h.tight b gK)⟩
theorem o7{call:aq}{f:FuncId}{d:Nat}{args:List AV}{s:St}{v:AV}{s1:St}(h:call f (args.map (dM s d)) (emptyAt s)=some (v,s1))(hb:cL v)(hn:s.next.toNat<=s1.next.toNat):
 ON call f d args s=some (v,cK s s1):=aeA h ⟨hb,hn⟩
theorem jB{call:aq}{f:FuncId}{d:Nat}{args:List AV}{s:St}{v:AV}(h:call f (args.map (dM s d)) (emptyAt s)=some (v,emptyAt s))(hb:cL v):ON call f d args s=some (v,s):=ai3 h hb
section
variable{H:Type}(Ok:DataW H->Prop)(enc:TypeId×Value->H)(P:Program)(w:World)(base:Nat)(spare:Nat->Bool)(held:Bool)
variable{Ok enc P w base spare held}
end
end
section
open Go Go.WideShapes
section
variable{H:Type}(enc:TypeId×Value->H)(P:Program)(w:World)(base:Nat)(spare:Nat->Bool)(held:Bool)
variable{enc P w base spare held}
end
end
section
open Go
section
variable{c:aq}{R:Type}
end
theorem Mk.Hh{es:Nat}{s0 s s':St}{v:AV}{rows:List (List AV)}(h:Mk es s0 s v rows)(hg:Grew s0 s')(hk:∀b x,bN v=some b->s.heap.get b=some x->s'.heap.get b=some x):Mk es s0 s' v rows:=
 ⟨h.tZ,hg,h.own.mono hk,h.new,h.row,h.cap,λb hb=>hk b _ hb (h.tight b hb)⟩
theorem Mk.kZ{es:Nat}{s0 s1 s s':St}{v:AV}{rows:List (List AV)}(h:Mk es s1 s v rows)(h0:Wf s0)(MO:Grew s0 s1)(hg:Grew s0 s')(hk:∀q b,s1.next.toNat<=q.toNat->s.heap.get q=some b->s'.heap.get q=some b):Mk es s0 s' v rows:=
 ⟨h0,hg,h.own.mono (λb x hb hx=>hk b x (h.new b hb) hx),λb hb=>Zb7 MO.next (h.new b hb),h.row,h.cap,λb hb=>hk b _ (h.new b hb) (h.tight b hb)⟩
end
section
open Go Go.WideShapes
theorem cB{Q:List AV->Prop}{Qs:List (List AV->Prop)}{ps:List (List AV)}(h:OK (Q::Qs) ps):∃p qs,ps=p::qs/\Q p/\OK Qs qs:=by
 cases ps with
 |nil=>exact h.elim
 |cons p qs=>exact⟨p,qs,rfl,h⟩
theorem Ey{ps:List (List AV)}(h:OK [] ps):ps=[]:=by
 cases ps with
 |nil=>rfl
 |cons p qs=>exact h.elim
section
variable{H:Type}{enc:TypeId×Value->H}{P:Program}{w:World}{base:Nat}{spare:Nat->Bool}{held:Bool}
theorem YP{t e:TypeId}{Q:List AV->Prop}{r:Go.Reach}{b0:Nat}{v:Value}{d:DataW H}{p:List MemPlace}(ho:kY enc P w base spare held t Q)(ht:P.underlying t=some (.slice e))
  (hval:Value.okWide P w r b0 t v) (hd:DataW.Trod enc P w base spare held t v d p):∃as,Q as/\∀ρ n,aI ρ n (λad=>w.cell? ad) as [v]:=by
 obtain⟨a,len,cap,rfl⟩:=okWide_slice ht hval;obtain⟨fuel,hf⟩:=hd;exact ho _ _ _ hf
end
end
noncomputable section
open Go
inductive Un where
 |z
 |s (n:Un)
def un:Nat->Un
 |0=>.z
 |n+1=>.s (un n)
inductive Tx where
 |bad
 |op (k:aJ) (xs:List gO) (d:Option Pos) (t:Tx)
 |gop (g:Pos) (w:Bool) (k:aJ) (xs:List gO) (d:Option Pos) (t:Tx)
 |dr (t:Tx)
 |pr (k:aJ) (xs:List gO) (d:Option Pos) (t:Tx)
 |UX (g:Pos) (w:Bool) (k:aJ) (xs:List gO) (d:Option Pos) (t:Tx)
 |rd (b:List Bool) (k:aJ) (xs:List gO) (d:Option Pos) (t:Tx)
 |UY (g:Pos) (w:Bool) (b:List Bool) (k:aJ) (xs:List gO) (d:Option Pos) (t:Tx)
 |nw (k:aJ) (xs:List gO) (d:Option Pos) (t:Tx)
 |gnw (g:Pos) (w:Bool) (k:aJ) (xs:List gO) (d:Option Pos) (t:Tx)
 |ef (k:aJ) (xs:List gO) (d:Option Pos) (t:Tx)
 |gef (g:Pos) (w:Bool) (k:aJ) (xs:List gO) (d:Option Pos) (t:Tx)
 |MJ (x:gO) (a b:Tx)
 |jn (l:List Pos) (a b:Tx)
 |jmp (i:Un) (l:List Pos)
 |arg (l:List Pos) (t:Tx) (r:Tx)
 |lp (j:Un) (ins:List Pos)
 |agn (ins:List Pos)
 |out (i:Un) (l:List Pos)
 |res (rs:List Ml)
def txO:List bR->Tx->Tx
 |[],t=>t
 |  o::os,t=>match o.guard with
    |none=>.op o.k o.xs o.dst (txO os t)
    |some (p,w)=>.gop p w o.k o.xs o.dst (txO os t)
def bitsOf(bZ:Nat):List Nat->List Bool
 |[]=>[]
 |i::is=>bZ.testBit i::bitsOf bZ is
def Xz:List (Nat×bR)->List Nat->Tx->Tx
 |[],_,t=>t
 |  (j,o)::os,is,t=>match o.cls,o.guard with
    |.pure,none=>.pr o.k o.xs o.dst (Xz os (j::is) t)
    |.pure,some (p,w)=> .UX p w o.k o.xs o.dst (Xz os (j::is) t)
    |.read,none=>.rd (bitsOf o.bZ is) o.k o.xs o.dst (Xz os (j::is) t)
    |.read,some (p,w)=> .UY p w (bitsOf o.bZ is) o.k o.xs o.dst (Xz os (j::is) t)
    |.new,none=>.nw o.k o.xs o.dst (Xz os (j::is) t)
    |.new,some (p,w)=>.gnw p w o.k o.xs o.dst (Xz os (j::is) t)
    |.br,none=>.ef o.k o.xs o.dst (Xz os (j::is) t)
    |.br,some (p,w)=>.gef p w o.k o.xs o.dst (Xz os (j::is) t)
def txA(K:mY->Tx):List (Nat×List Pos)->Tx->Tx
 |[],t=>t
 |(e,l)::r,t=>.arg l (K (exOf e)) (txA K r t)
def tx:AC->Sh->Nat->(mY->Nat->Tx)->Tx
 |.skip,_,d,K=>K .normal d
 |.region ops,_,d,K=>txO ops (K .normal d)
 |.draw ops,_,d,K=>.dr (Xz ops [] (K .normal d))
 |  .seq a b,s,d,K=>match s with
    | .seq none s t=>tx a s d λex d=>match ex with
      |.normal=>tx b t d K
      |.exit i=>K (.exit i) d
      |.ret=>K .ret d
    | .seq (some l) s t=>.jn l (tx a s (d+1) λex d'=>match ex with
      |.normal=>.jmp (un (d' - d - 1)) l
      |.exit i=>K (.exit i) d'
      |.ret=>K .ret d') (tx b t d K)
    |_=>.bad
 |  .cond x a b,s,d,K=>match s with
    |.cond s t=> .MJ x (tx a s d K) (tx b t d K)
    |_=>.bad
 |  .block id a,s,d,K=>match s with
    | .block s=>tx a s d λex d=>match ex with
      |.normal=>K .normal d
      | .exit i=>match Nat.beq i id with
        |true=>K .normal d
        |false=>K (.exit i) d
      |.ret=>K .ret d
    |_=>.bad
 |  .loop _,s,d,K=>match s with
    |.loop j ins outs _=>txA (λex=>K ex d) outs (.lp (un j) ins)
    |_=>.bad
 |.exit id,_,d,K=>K (.exit id) d
 |.ret,_,d,K=>K .ret d
def idxOf:List (Nat×List Pos)->Nat->Nat
 |[],_=>0
 |  (i,_)::r,e=>match Nat.beq i e with
    |true=>0
    |false=>idxOf r e+1
def txF(A:dF)(s:Sh):Tx:=tx A.code s 0 λex _=>match ex with
 |.normal=>.res A.results
 |.ret=>.res A.results
 |.exit _=>.bad
def txL(x:AC×Sh):List Pos×Tx:=match x.2 with
 |  .loop _ ins outs s=>(ins,tx x.1 s 0 λex _=>match ex with
    |.normal=>.agn ins
    |.exit i=>.out (un (idxOf outs (i+2))) (TP outs (i+2))
    |.ret=>.out (un (idxOf outs 1)) (TP outs 1))
 |_=>([],.bad)
section
variable{R:Type}
abbrev KK(R:Type):=List AV->St->Option R
abbrev O2:=Option (AV×St)
abbrev Q2:=KK (AV×St)
def DS:Unit:=(λ_=>()) (@den AV)
def A0(p:Pos)(fr:Fr)(k:AV->Option R):Option R:=match fr.get p with
 |some v=>k v
 |none=>(λ_=>none) DS
def CM(p:Pos)(v:AV)(fr:Fr)(k:Fr->Option R):Option R:=(λ_=>k (fr.put (some v) p)) DS
def CN(d:Option Pos)(v:AV)(fr:Fr)(k:Fr->Option R):Option R:=match d with
 |some p=>CM p v fr k
 |none=>k fr
def Bv(fr:Fr):List gO->(List AV->Option R)->Option R
 |[],k=>k []
 |.t p::xs,k=>A0 p fr λv=>Bv fr xs λvs=>k (v::vs)
 |.c v::xs,k=>Bv fr xs λvs=>k (v::vs)
def getLT:List Pos->Fr->(List AV->Option R)->Option R
 |[],_,k=>k []
 |p::ps,fr,k=>A0 p fr λv=>getLT ps fr λvs=>k (v::vs)
def y8:List Pos->List AV->Fr->(Fr->Option R)->Option R
 |[],vs,fr,k=>iD vs (k fr)
 |p::ps,vs,fr,k=>eP vs λv vs=>CM p v fr λfr=>y8 ps vs fr k
def XA(p:Pos)(k:Pos->Option R):Option R:=(λ_=>k p.succ) DS
def Lv:Pos->List AV->Fr->(Fr->Option R)->Option R
 |_,[],fr,k=>k fr
 |p,v::vs,fr,k=>CM p v fr λfr=>XA p λp=>Lv p vs fr k
def Sa:Un->List (KK R)->KK R
 |.z,k::_=>k
 |.s n,_::ks=>Sa n ks
 |_,[]=>λ_ _=>none
def wS:List Bool->T AB->List RC->T AB
 |  b ::bs,h,r::rs=>match r with
    | .new id aQ=>match b with
      |true=>(wS bs h rs).put (some aQ) id
      |false=>wS bs h rs
    |.br _ _=>h
    |.pure=>wS bs h rs
 |_,h,_=>h
def wT(k:aJ)(xs:List AV)(v:AV):List (Pos×AB)->List Bool->List RC->Bool
 |  up,b::bs,r::rs=>match r with
    | .new id aQ=>match b with
      |true=>wT k xs v ((id,aQ)::up) bs rs
      |false=>wT k xs v up bs rs
    | .br base _=>match b with
      |true=>true
      |false=>jA k xs v (jU up (wS bs base rs))&&wT k xs v up bs rs
    |.pure=>wT k xs v up bs rs
 |_,_,_=>true
def It(fr:Fr)(st:St):List Ml->(List AV->Option R)->Option R
 |[],k=>k []
 |.tmp p::rs,k=>A0 p fr λv=>It fr st rs λvs=>k (v::vs)
 |.cell p n::rs,k=>A0 p fr λq=>ldr n q st λv=>It fr st rs λvs=>k (v::vs)
def abj(as:List (KK R))(f:KK R)(k:List (KK R)->Option R):Option R:=(λ_=>k (as++[f])) DS
def pkR(vs:List AV)(st:St):Option (AV×St):=some (yY vs,st)
end
section
variable(c:aq)(F:Nat)(Ls:Un->List Q2->Nat->Q2)(ag:Q2)(ko:List Q2)
def XB(fr:Fr)(x:gO)(k:AV->Option (AV×St)):Option (AV×St):=match x with
 |.t p=>A0 p fr k
 |.c v=>k v
def ev:Tx->List (KK (AV×St))->List (KK (AV×St))->Fr->St->List RC->T AB->Option (AV×St)
 |.bad,_,_,_,_,_,_=>none
 |.op k xs d t,ks,as,fr,st,rs,b=>Bv fr xs λvs=>aj c k vs st λv st=>CN d v fr λfr=>ev t ks as fr st rs b
 |.gop g w k xs d t,ks,as,fr,st,rs,b=>Bv fr xs λvs=>A0 g fr λg=>bT c g w k vs st λv st=>CN d v fr λfr=>ev t ks as fr st rs b
 |.dr t,ks,as,fr,st,_,_=>ev t ks as fr st [] st.heap
 |.pr k xs d t,ks,as,fr,st,rs,b=>Bv fr xs λvs=>gU k vs λv=>CN d v fr λfr=>ev t ks as fr st (.pure::rs) b
 | .UX g w k xs d t,ks,as,fr,st,rs,b=>Bv fr xs λvs=>A0 g fr λg=>UX g w k vs λv=>CN d v fr λfr=>ev t ks as fr st (.pure::rs) b
 |.rd bs k xs d t,ks,as,fr,st,rs,b=>Bv fr xs λvs=>kB k vs (wS bs b rs) (λv=>wT k vs v [] bs rs) λv=>CN d v fr λfr=>ev t ks as fr st (.pure::rs) b
 | .UY g w bs k xs d t,ks,as,fr,st,rs,b=>Bv fr xs λvs=>A0 g fr λg=>UY g w k vs (wS bs b rs) (λv=>wT k vs v [] bs rs) λv=>CN d v fr λfr=>ev t ks as fr st (.pure::rs) b
 |.nw k xs d t,ks,as,fr,st,rs,b=>Bv fr xs λvs=>Xq k vs st λv aQ=>CN d v fr λfr=>ev t ks as fr (ah st aQ) (.new st.next aQ::rs) b
 |.gnw g w k xs d t,ks,as,fr,st,rs,b=>Bv fr xs λvs=>A0 g fr λg=>UZ g w (Xq k vs st λv aQ=>CN d v fr λfr=>ev t ks as fr (ah st aQ) (.new st.next aQ::rs) b) (CN d .undef fr λfr=>ev t ks as fr st (.pure::rs) b)
 |.ef k xs d t,ks,as,fr,st,rs,b=>Bv fr xs λvs=>aj c k vs st λv st'=>CN d v fr λfr=>ev t ks as fr st' (.br b st'.heap::rs) st'.heap
 |.gef g w k xs d t,ks,as,fr,st,rs,b=>Bv fr xs λvs=>A0 g fr λg=>UZ g w (aj c k vs st λv st'=>CN d v fr λfr=>ev t ks as fr st' (.br b st'.heap::rs) st'.heap) (CN d .undef fr λfr=>ev t ks as fr st (.pure::rs) b)
 | .MJ x t u,ks,as,fr,st,rs,b=>XB fr x λv=>MJ v (ev t ks as fr st rs b) (ev u ks as fr st rs b)
 |.jn l t u,ks,as,fr,st,rs,b=>fB (λk=>ev t (k::ks) as fr st rs b) (λvs st=>y8 l vs .e λfr=>ev u ks as fr st [] .e)
 |.jmp i l,ks,_,fr,st,_,_=>getLT l fr λvs=>Sa i ks vs st
 |.arg l t r,ks,as,fr,st,rs,b=>abj as (λos st=>y8 l os .e λfr=>ev t ks [] fr st [] .e) λas=>ev r ks as fr st rs b
 |.lp j ins,_,as,fr,st,_,_=>getLT ins fr λvs=>Ls j as F vs st
 |.agn ins,_,_,fr,st,_,_=>getLT ins fr λvs=>ag vs st
 |.out i l,_,_,fr,st,_,_=>getLT l fr λvs=>Sa i ko vs st
 |.res rs,_,_,fr,st,_,_=>It fr st rs λvs=>pkR vs st
def cS(p:List Pos×Tx)(vs:List AV)(st:St):Option (AV×St):=y8 p.1 vs .e λfr=>ev c F Ls ag ko p.2 [] [] fr st [] .e
end
def bn{R:Type}:Un->List (KK R)->Nat->KK R:=λ_ _ _ _ _=>none
def dQ{R:Type}:KK R:=λ_ _=>none
def bl(c:aq)(F:Nat)(Ls:Un->List Q2->Nat->Q2)(t:Tx)(args:List AV)(st:St):O2:=Lv .h args .e λfr=>ev c F Ls dQ [] t [] [] fr st [] .e
def zJ(Ls:Un->List Q2->Nat->Q2)(A:dF)(s:Sh):Env (AV×St):=λj K=>Ls (un j) ((lpO (jR A s j).2).map λo=>K o.1)
def sl:Sh:= .leaf
def sq(a b:Sh):Sh:= .seq none a b
def sj(l:List Nat)(a b:Sh):Sh:= .seq (some (l.map key)) a b
def sc(a b:Sh):Sh:= .cond a b
def sb(a:Sh):Sh:= .block a
def sp(j:Nat)(ins:List Nat)(outs:List (Nat×List Nat))(a:Sh):Sh:= .loop j (ins.map key) (outs.map λo=>(o.1,o.2.map key)) a
section
variable{R:Type}(l r:Fr)(v u:AV)(x:Option AV)(p:Pos)(fr:Fr)(k:AV->Option R)(K:Fr->Option R)(kp:Pos->Option R)
theorem E6:A0 .h (.n l (some v) r) k=k v:=rfl
theorem E7:A0 (.o p) (.n l x r) k=A0 p l k:=rfl
theorem E8:A0 (.i p) (.n l x r) k=A0 p r k:=rfl
theorem Bw:CM .h v .e K=K (.n .e (some v) .e):=rfl
theorem Bx:CM .h v (.n l x r) K=K (.n l (some v) r):=rfl
theorem By:CM (.o p) v .e K=CM p v .e λt=>K (.n t none .e):=rfl
theorem Bz:CM (.o p) v (.n l x r) K=CM p v l λt=>K (.n t x r):=rfl
theorem BA:CM (.i p) v .e K=CM p v .e λt=>K (.n .e none t):=rfl
theorem BB:CM (.i p) v (.n l x r) K=CM p v r λt=>K (.n l x t):=rfl
theorem E9:CN none v fr K=K fr:=rfl
theorem Fa:CN (some p) v fr K=CM p v fr K:=rfl
theorem BC:XA .h kp=kp (.o .h):=rfl
theorem BD:XA (.o p) kp=kp (.i p):=rfl
theorem BE:XA (.i p) kp=XA p λq=>kp (.o q):=rfl
theorem BF(f:KK R)(k:List (KK R)->Option R):abj [] f k=k [f]:=rfl
theorem BG(a:KK R)(as:List (KK R))(f:KK R)(k:List (KK R)->Option R):abj (a::as) f k=abj as f λl=>k (a::l):=rfl
theorem Ku(st:St):pkR [] st=some (.tuple [],st):=rfl
theorem Kv(st:St):pkR [v] st=some (v,st):=rfl
theorem Kw(vs:List AV)(st:St):pkR (v::u::vs) st=some (.tuple (v::u::vs),st):=rfl
theorem su(c:aq)(F:Nat)(Ls:Un->List Q2->Nat->Q2)(ag:Q2)(ko:List Q2)(l:List Pos)(t:Tx)(vs:List AV)(st:St):cS c F Ls ag ko (l,t) vs st=y8 l vs .e λfr=>ev c F Ls ag ko t [] [] fr st [] .e:=rfl
end
def DW{α:Type}:Option α->Bool
 |none=>true
 |some _=>false
theorem amq{α:Type}{o:Option α}(h:DW o=true):o=none:=by cases o with|none=>rfl|some _=>cases h
theorem amr{α:Type}[Inhabited α]{o:Option α}(h:DW o=false):o=some (o.getD default):=by cases o with|none=>cases h|some _=>rfl
def wU(G:T dF)(f:Nat):dF:=(G.get (key f)).getD default
theorem ag6{O:eE}{G:T dF}{F:Nat}{L:Env (AV×St)}{f:FuncId}{s:Sh}{args:List AV}{st:St}{r:AV×St}(hk:(DW (O f)&& !DW (G.get (key f)))=true)
  (hL:∀x∈gC (wU G f).code s,CI (run O G) F L x.1 x.2) {k:O2} (hd:Lp (run O G) F L (wU G f) s args st=k) (h:k=some r):run O G f args st=some (tidy st r):=by
 simp only[Zb6,Zk1]at hk;exact aiS (amq hk.1) (amr hk.2) hL (hd.trans h)
theorem ak9{O:eE}{G:T dF}{F:Nat}{f:FuncId}{args:List AV}{st:St}{r:AV×St}(s:Sh)(hk:(DW (O f)&& !DW (G.get (key f))&&(gC (wU G f).code s).isEmpty)=true)
  {k:O2} (hd:Lp (run O G) F (afA []) (wU G f) s args st=k) (h:k=some r):run O G f args st=some (tidy st r):=by
 rw[Zb6,List.isEmpty_iff]at hk;exact ag6 hk.1 (by rw[hk.2];intro x hx;cases hx) hd h
theorem YQ{O:eE}{G:T dF}{F:Nat}{f:FuncId}{args:List AV}{st:St}{r:AV×St}(Ls:Un->List Q2->Nat->Q2)(s:Sh)(n:Nat)(hk:(DW (O f)&& !DW (G.get (key f))&&Nat.beq (gC (wU G f).code s).length n)=true)
  (hL:∀i,i<n->CI (run O G) F (zJ Ls (wU G f) s) (jR (wU G f) s i).1 (jR (wU G f) s i).2) {k:O2} (hd:Lp (run O G) F (zJ Ls (wU G f) s) (wU G f) s args st=k) (h:k=some r):run O G f args st=some (tidy st r):=by
 rw[Zb6]at hk;exact ag6 hk.1 (aiT n hk.2 hL) hd h
theorem ala {O:eE} {G:T dF} {F:Nat}{f:FuncId}{args:List AV}{st:St}{r:AV×St}(Ls:Un->List Q2->Nat->Q2)(s:Sh)(hk:(DW (O f)&& !DW (G.get (key f))&&Nat.beq (gC (wU G f).code s).length 1)=true)
  (hs:(ab2 (jR (wU G f) s 0).2&&Nat.beq (lpJ (jR (wU G f) s 0).2) 0)=true) (h0:∀K' vs st,zJ Ls (wU G f) s 0 K' 0 vs st=none)
  (h1:∀K' n vs st,zJ Ls (wU G f) s 0 K' (n+1) vs st=RW (den (run O G) F (zJ Ls (wU G f) s) (jR (wU G f) s 0).1 (lpB (jR (wU G f) s 0).2)) (lpI (jR (wU G f) s 0).2) (lpO (jR (wU G f) s 0).2) K' (zJ Ls (wU G f) s 0 K' n) vs st)
  {k:O2} (hd:Lp (run O G) F (zJ Ls (wU G f) s) (wU G f) s args st=k) (h:k=some r):run O G f args st=some (tidy st r):=
 YQ Ls s 1 hk (fun i hi=>by obtain rfl:i=0:=by omega
                            exact cq 0 hs h0 h1) hd h
end
section
open Go
theorem aeD{m:Nat}(h1:1<=m)(h2:m<=18):m=1\/m=2\/m=3\/m=4\/m=5\/m=6\/m=7\/m=8\/m=9\/m=10\/m=11\/m=12\/m=13\/m=14\/m=15\/m=16\/m=17\/m=18:=by omega
end
section
def cnt(n:Nat)(P:Nat->Bool):Nat:=match n with
 |0=>0
 |n+1=>cnt n P+if P n then 1 else 0
def on(q:Nat->Int)(g:Nat):Bool:=decide (0<=q g)
structure JT where
 n:Nat
 T:Nat
 tab:Int->Nat
 host:Nat->Bool
section
variable(J:JT)(q:Nat->Int)
end
section
variable{J:JT}{q p:Nat->Int}
end
def A3(tk:List Bool)(fr:Nat):Nat->Nat->Option Nat
 |0,_=>none
 |m+1,k=>if tk.getD ((fr+k) % tk.length) true=false then some ((fr+k) % tk.length)else A3 tk fr m (k+1)
def XC(tk:List Bool)(fr:Nat):List Bool×Int:=match A3 tk fr tk.length 0 with
 |some s=>(tk.set s true,(s:Int))
 |none=>(tk,-1)
theorem P7{tk:List Bool}{fr s:Nat}:∀{m k:Nat},A3 tk fr m k=some s->tk[s]? =some false
 |0,_,h=>by cases h
 |m +1,k,h=>by
  unfold A3 at h;split at h
  . rename_i e;cases h;cases e2:tk[(fr+k) % tk.length]? with
    |none=>rw[Ze4,e2]at e;simp at e
    |some b=>rw[Ze4,e2]at e;simp at e;rw[e]
  .exact P7 h
theorem P8{tk:List Bool}{fr:Nat}:∀{m k:Nat},A3 tk fr m k=none->∀j,k<=j->j<k+m->tk.getD ((fr+j) % tk.length) true=true
 |0,_,_,j,h1,h2=>by omega
 |m +1,k,h,j,h1,h2=>by
  unfold A3 at h;split at h
  .cases h
  . rename_i e;by_cases e2:j=k
    .subst e2;simpa using e
    .exact P8 h j (by omega) (by omega)
def XD(tk:List Bool):Nat:=(tk.filter λb=> !b).length
theorem Z6:∀{tk:List Bool},0<XD tk->∃s:Nat,tk[s]? =some false
 |[],h=>by simp[XD]at h
 |false::tk,_=>⟨0,rfl⟩
 |true::tk,h=>by
  obtain⟨s,hs⟩:=Z6 (tk:=tk) (by simpa [XD]using h);exact⟨s+1,by simpa using hs⟩
theorem ack(tk:List Bool)(fr:Nat):((XC tk fr).2= -1/\(XC tk fr).1=tk/\XD tk=0)\/∃s:Nat,XC tk fr=(tk.set s true,(s:Int))/\tk[s]? =some false:=by
 unfold XC;cases e:A3 tk fr tk.length 0 with
 |some s=>exact .inr ⟨s,rfl,P7 e⟩
 |none=>
  refine .inl ⟨rfl,rfl,?_⟩;rcases Zq2 (XD tk)with h|h
  .exact h
  . exfalso;obtain⟨s,hs⟩:=Z6 h;have hl:s<tk.length:=(Za4.1 hs).1;have key:=P8 e ((s+tk.length - fr % tk.length) % tk.length) (Zj1 _) (by rw[Za5];exact Nat.mod_lt _ (by omega));have hm:fr % tk.length<tk.length:=Nat.mod_lt _ (by omega);have:(fr+(s+tk.length - fr % tk.length) % tk.length) % tk.length=s:=by
        rw[Nat.add_mod,Nat.mod_mod];rcases Zj9 (s+tk.length - fr % tk.length) tk.length with h1|h1
        .rw[Zl2 h1];rw[show fr % tk.length+(s+tk.length - fr % tk.length)=s+tk.length by omega,Nat.add_mod_right,Zl2 hl]
        .rw[Zq1 h1,Zl2 (by omega:s+tk.length - fr % tk.length - tk.length<tk.length)];rw[show fr % tk.length+(s+tk.length - fr % tk.length - tk.length)=s by omega,Zl2 hl]
    rw[this,Ze4,hs]at key;simp at key
inductive Ch where
 |no
 |sit (s:Nat)
 |fr (f:Nat)
def looks:List Ch->Nat
 |[]=>0
 |.fr _::l=>looks l+1
 |_::l=>looks l
end
section
open Go
section
variable{R:Type}{c:aq}
end
end
section
section
variable(J:JT)(q:Nat->Int)
end
section
variable{J:JT}{q:Nat->Int}
end
end
section
open Go
section
variable{c:aq}{R:Type}
theorem afF{x:Int}(h1:0<=x)(h2:x<=18446744073709551615):az .u64 x=x:=by
 unfold az loI hiI;simp only;split
 . split
   .rfl
   .contradiction
 .contradiction
end
end
section
abbrev Ris(l:List Int):Prop:=l.Pairwise (· < ·)
theorem ag7:∀{l m:List Int},Ris l->Ris m->(∀x,x∈l↔x∈m)->l=m
 |[],[],_,_,_=>rfl
 |[],b::m,_,_,h=>absurd ((h b).2 Ze1) (by simp)
 |a::l,[],_,_,h=>absurd ((h a).1 Ze1) (by simp)
 |a ::l,b::m,hl,hm,h=>by
  have ⟨la,ll⟩:=List.pairwise_cons.1 hl;have⟨ma,mm⟩:=List.pairwise_cons.1 hm;have e:a=b:=by
    have h1:=(h a).1 Ze1;have h2:=(h b).2 Ze1;rcases Zb4.1 h1 with h1|h1
    .   exact h1
    .   rcases Zb4.1 h2 with h2|h2
        .exact h2.symm
        .have:=la _ h2;have:=ma _ h1;omega
  subst e;rw[ag7 ll mm λx=>⟨λhx=> ?_,λhx=> ?_⟩]
  . rcases Zb4.1 ((h x).1 (Za8 _ hx))with e|e
    .   have:=la _ hx;omega
    .   exact e
  . rcases Zb4.1 ((h x).2 (Za8 _ hx))with e|e
    .   have:=ma _ hx;omega
    .   exact e
theorem ag8(n:Nat)(f:Int)(P:Nat->Bool):Ris (((List.range n).filter P).map λ(k:Nat)=>f+(k:Int)):=by rw[Ris,Zq4];exact(Zn5.filter P).imp λh=>by omega
theorem adM{zs:List Int}(h:zs.Pairwise (· <= ·)):Ris (Lib.compact zs):=by
 unfold Lib.compact Lib.compactUpTo;rw[Ris,Zq4];have mono:∀(i j:Nat)(hj:j<zs.length)(Z7:i<=j),zs[i]'(by omega)<=zs[j]:=λi j hj Z7=>by
  by_cases e:i=j
  .subst e;exact Zp1 _
  .exact List.pairwise_iff_getElem.1 h i j (by omega) hj (by omega)
 refine List.Pairwise.imp_of_mem (λ{i j} hi hj Z7=> ?_) (Zn5.filter _);have⟨hi1,_⟩:=Zk2.1 hi;have⟨hj1,hj2⟩:=Zk2.1 hj;have EW:=Zi5.1 hj1;have fN:=Zi5.1 hi1;have cA:zs[j]≠zs[j - 1]'(by omega):=by
  unfold Lib.keeps at hj2;rcases Zi1 hj2 with h|h
  .omega
  .simpa [getElem!_pos,EW,show j - 1<zs.length by omega]using h
 have m1:=mono i (j - 1) (by omega) (by omega);have m2:=mono (j - 1) j EW (by omega);simp[getElem!_pos,EW,fN];omega
end
end Go.Ai
