/- The program as plain functions. -/
import Derived.Test.YtgihekklfnjkiaaGreatDoorGEvalD
import Derived.Maps.RangeRun
import Derived.Laws.EntriesVeiled
import Derived.WalkKit
import Derived.OpenShut
import Derived.ProofKit
import Derived.ShutString
set_option linter.all false
set_option linter.unusedSectionVars false
set_option linter.deprecated false
namespace Go.Ai
section
open Go Go.RowKit
def ZF(c c':aj):Prop:=∀f args st r,c f args st=some r->c' f args st=some r
theorem ZF.refl(c:aj):ZF c c:=λ_ _ _ _ h=>h
section
variable{c c' : aj}
theorem Rw(h:ZF c c'){k:aG}{xs:List AV}{st:St}{r:AV×St}(e:cH c k xs st=some r):cH c' k xs st=some r:=by
 unfold cH at e ⊢;cases hr:k.run (λb=>st.heap.get b) st.next xs with
 |none=>simp[hr]at e
 |some x=>cases x with
  |val v=>simpa [hr]using e
  |bk v d s n=>simpa [hr]using e
  |call f args=>simp only[hr]at e ⊢; exact h _ _ _ _ e
theorem Yl(h:ZF c c'):∀(os:List bQ)(fr:Fr)(st:St)(r:Fr×St),mH c os fr st=some r->mH c' os fr st=some r
 |[],_,_,_,e=>e
 |o::os,fr,st,r,e=>by
  unfold mH at e ⊢;cases hw:cK fr o.guard with
  |none=>simp[hw]at e
  |some b=>cases b with
   |false=>simp only[hw]at e ⊢; exact Yl h _ _ _ _ e
   |    true=>
        simp only[hw]at e ⊢;cases hx:fS fr o.xs with
        |none=>simp[hx]at e
        |some xs=>
         simp only[hx]at e ⊢;cases hs:cH c o.k xs st with
         |none=>simp[hs]at e
         |some p=>simp only[hs]at e;simp only[Rw h hs];exact Yl h _ _ _ _ e
theorem aaE (h:ZF c c'):∀(os:List (Nat×bQ))(recs:List Rec)(base:T AB)(fr:Fr)(st:St)(r:Fr×St),dY c os recs base fr st=some r->dY c' os recs base fr st=some r
 |[],_,_,_,_,_,e=>e
 |(j,   o)::os,recs,base,fr,st,r,e=>by
  have ih:=aaE h os;unfold dY at e ⊢;cases hw:cK fr o.guard with
  |none=>simp[hw]at e
  | some b=>cases b with
    |false=>simp only[hw]at e ⊢; exact ih _ _ _ _ _ e
    |   true=>
        simp only[hw]at e ⊢;cases hx:fS fr o.xs with
        |none=>simp[hx]at e
        |some xs=>
         simp only[hx]at e ⊢;cases hc:o.cls with
         |  bk=>
            simp only[hc]at e ⊢;cases hs:cH c o.k xs st with
            |none=>simp[hs]at e
            |some p=>simp only[hs]at e;simp only[Rw h hs];exact ih _ _ _ _ _ e
         |  new=>
            simp only[hc]at e ⊢;split at e<;>first|(cases e;done)|exact ih _ _ _ _ _ e
         |  pure=>
            simp only[hc]at e ⊢;split at e<;>(try split at e)<;>(try split at e)<;>first|(cases e;done)|(simp only[*];exact ih _ _ _ _ _ e)|exact ih _ _ _ _ _ e
         |  read=>
            simp only[hc]at e ⊢;split at e<;>(try split at e)<;>(try split at e)<;>first|(cases e;done)|(simp only[*];exact ih _ _ _ _ _ e)|exact ih _ _ _ _ _ e
theorem Ym(h:ZF c c'):∀(n m:Nat),n<=m->∀(a:AC)(fr:Fr)(st:St)(r:oH×Fr×St),exec c n a fr st=some r->exec c' m a fr st=some r
 |0,_,_,_,_,_,_,e=>by simp[exec]at e
 |n+1,0,hm,_,_,_,_,_=>by omega
 |n+    1,m+1,hm,a,fr,st,r,e=>by
  have ih:=Ym h n m (by omega);cases a<;>simp only[exec,bC]at e ⊢
  case skip=>exact e
  case exit=>exact e
  case ret=>exact e
  case region ops=>
   cases ho:mH c ops fr st with
   |none=>simp[ho]at e
   |some p=>simp only[ho]at e;simp only[Yl h _ _ _ _ ho];exact e
  case draw ops=>
   cases ho:dY c ops [] st.heap fr st with
   |none=>simp[ho]at e
   |some p=>simp only[ho]at e;simp only[aaE h _ _ _ _ _ _ ho];exact e
  case seq a b=>
   cases ha:exec c n a fr st with
   |none=>simp[ha]at e
   |    some p=>
        obtain⟨ex,eZ,bD⟩:=p;simp only[ha]at e;simp only[ih _ _ _ _ ha];cases ex<;>first|exact e|exact ih _ _ _ _ e
  case cond x a b=>
   split at e
   .    exact ih _ _ _ _ e
   .    exact ih _ _ _ _ e
   .    cases e
  case block id a=>
   cases ha:exec c n a fr st with
   |none=>simp[ha]at e
   |    some p=>
        obtain⟨ex,eZ,bD⟩:=p;simp only[ha]at e;simp only[ih _ _ _ _ ha];cases ex<;>exact e
  case loop a=>
   cases ha:exec c n a fr st with
   |none=>simp[ha]at e
   |    some p=>
        obtain⟨ex,eZ,bD⟩:=p;simp only[ha]at e;simp only[ih _ _ _ _ ha];cases ex<;>first|exact e|exact ih _ _ _ _ e
end
def Plain(v:AV):Prop:=∀(ρ ρ':Pos->Loc)(n n':Nat)(C:Cells)(x:Value),aC ρ n C v x->aC ρ' n' C v x
theorem Plain.bool(b:Bool):Plain (.bool b):=λ_ _ _ _ _ _ h=>by cases h;exact .bool b
theorem Plain.int(k:IntKind)(i:Int):Plain (.int k i):=λ_ _ _ _ _ _ h=>by cases h;exact .int k i
theorem Plain.str(s:List Nat):Plain (.str s):=λ_ _ _ _ _ _ h=>by cases h with|str _ bs h=>exact .str s bs h
theorem Plain.jg:Plain .jg:=λ_ _ _ _ _ _ h=>by cases h;exact .jg
theorem Plain.af:Plain .af:=λ_ _ _ _ _ _ h=>by cases h;exact .af
theorem Plain.jO:Plain .jO:=λ_ _ _ _ _ _ h=>by cases h;exact .jO
theorem Plain.func(f:FuncId){a b:List AV}(ha:∀v∈a,Plain v)(hb:∀v∈b,Plain v):Plain (.func f a b):=λ_ _ _ _ _ _ h=>by
 cases h with
 |func _ _ _ a' b' hx hy h1 h2=>exact .func f a b a' b' hx hy (λi v x hv hx=>ha v (Zb9 hv) _ _ _ _ _ _ (h1 i v x hv hx)) (λi v x hv hx=>hb v (Zb9 hv) _ _ _ _ _ _ (h2 i v x hv hx))
theorem Plain.tuple{l:List AV}(hl:∀v∈l,Plain v):Plain (.tuple l):=λ_ _ _ _ _ _ h=>by
 cases h with
 |tuple _ cs hx h1=>exact .tuple l cs hx λi v x hv hx=>hl v (Zb9 hv) _ _ _ _ _ _ (h1 i v x hv hx)
theorem Plain.agg{l:List AV}(hl:∀v∈l,Plain v):Plain (.agg l):=λ_ _ _ _ _ _ h=>by
 cases h with
 |agg _ cs hx h1=>exact .agg l cs hx λi v x hv hx=>hl v (Zb9 hv) _ _ _ _ _ _ (h1 i v x hv hx)
theorem Plain.fl{xs:List (List AV)}{es:Nat}(hl:∀cs∈xs,∀v∈cs,Plain v):Plain (.fl xs es):=λ_ _ _ _ _ _ h=>by
 cases h with
 |fl _ _ bu a cell h1 h2 h3 h4 h5=>exact .fl xs es bu a cell h1 h2 h3 h4 λi j cs v hi hj=>hl cs (Zb9 hi) v (Zb9 hj) _ _ _ _ _ _ (h5 i j cs v hi hj)
def aW(st st':St):Prop:=∀b x,st.heap.get b=some x->st'.heap.get b=some x
theorem aW.refl(st:St):aW st st:=λ_ _ h=>h
theorem aW.trans{a b c:St}(h:aW a b)(k:aW b c):aW a c:=λ_ _ e=>k _ _ (h _ _ e)
theorem aC.down{ρ ρ':Pos->Loc}{n n':Nat}{C:Cells}{v:AV}{x:Value}(h:aC ρ' n' C v x):∀{y:Value},aC ρ n C v y->(∀b:Pos,b.toNat<n->ρ' b=ρ b)->aC ρ n C v x:=by
 induction h with
 |bool b=>exact λh _=> .bool b
 |int k i=>exact λh _=> .int k i
 |str s bs h=>exact λ_ _=> .str s bs h
 |jg=>exact λ_ _=> .jg
 |ptr b off h=>
  intro y h bE;cases h with
  |ptr _ _ h'=>rw[bE b h'];exact .ptr b off h'
 |fp xs i j es aM base cell hl hc hv ih=>
  intro y h bE;cases h with
  |fp _ _ _ es' Ii akT auv hl' Zz OV=>exact .fp xs i j es aM base cell hl hc λi j cs v hi hj=>ih i j cs v hi hj (OV i j cs v hi hj) bE
 |af=>exact λ_ _=> .af
 |slice  b off len cap es bu a hl hc ha hk=>
  intro y h bE;cases h with
  |slice _ _ _ _ _ arb a' hl' Zz ha' uf=>
   refine .slice b off len cap es bu a hl hc (λh0=> ?_) uf;obtain⟨h1,h2,h3⟩:=ha h0;have hb:b.toNat<n:=by
        cases cap with
        |none=>exact uf rfl
        |some c=>
         have e1:=hc c rfl;have e2:=Zz c rfl;exact(ha' (by rw[<-e2,e1];exact h0)).1
   rw[bE b hb]at h2 h3;exact⟨hb,h2,h3⟩
 |fl xs es bu a cell hl hs dV hc hv ih=>
  intro y h bE;cases h with
  |fl _ _ arb a' auv hl' qJ hes' Zz OV=>exact .fl xs es bu a cell hl hs dV hc λi j cs v hi hj=>ih i j cs v hi hj (OV i j cs v hi hj) bE
 |qG=>exact λ_ _=> .qG
 |map b h=>
  intro y h bE;cases h with
  |map _ h'=>rw[bE b h'];exact .map b h'
 |func f x y x' y' hx hy h1 h2 ih1 ih2=>
  intro z h bE;cases h with
  |func _ _ _ a' b' kx ky k1 k2=>
   refine .func f x y x' y' hx hy (λi v x hv wD=> ?_) (λi v x hv wD=> ?_)
   .    have hi:i<a'.size:=(by rw[<-kx];exact(Za2.1 hv).1);exact ih1 i v x hv wD (k1 i v _ hv (Zg7 hi)) bE
   .    have hi:i<b'.size:=(by rw[<-ky];exact(Za2.1 hv).1);exact ih2 i v x hv wD (k2 i v _ hv (Zg7 hi)) bE
 |jO=>exact λ_ _=> .jO
 |Bo=>exact λ_ _=> .Bo
 |iface t v x _ ih=>
  intro y h bE;cases h with
  |iface _ _ x' h'=>exact .iface t v x (ih h' bE)
 |agg l cs hx h1 ih=>
  intro y h bE;cases h with
  |agg _ nv kx k1=>
   (refine .agg l cs hx λi v x hv wD=> ?_);have hi:i<nv.size:=(by rw[<-kx];exact(Za2.1 hv).1);exact ih i v x hv wD (k1 i v _ hv (Zg7 hi)) bE
 |tuple l cs hx h1 ih=>
  intro y h bE;cases h with
  |tuple _ nv kx k1=>
   (refine .tuple l cs hx λi v x hv wD=> ?_);have hi:i<nv.size:=(by rw[<-kx];exact(Za2.1 hv).1);exact ih i v x hv wD (k1 i v _ hv (Zg7 hi)) bE
end
noncomputable section
open Go Go.RowKit
def tidy(st:St)(r:AV×St):AV×St:=open Classical in if Plain r.1/\aW st r.2 then(r.1,st)else r
theorem cq.back{ρ ρ':Pos->Loc}{C:Cells}{st bD:St}{w w1:World}(hW:cq ρ C st w)(hk:aW st bD)(bE:∀b:Pos,b.toNat<st.next.toNat->ρ' b=ρ b)(jk:cq ρ' C bD w1)(hs:w.heap.size<=w1.heap.size):cq ρ C st w1:=by
 refine⟨λb y hb=> ?_,hW.inj,λa u ha=>⟨(jk.ei a u ha).1,(hW.ei a u ha).2⟩,jk.whole⟩;obtain⟨g1,g2,g3⟩:=hW.live b y hb;obtain⟨_,_,k3⟩:=jk.live b y (hk b y hb);refine⟨g1,Zc8 g2 hs,?_⟩;rw[bE b g1]at k3;cases y with
 |cells cs fz=>
  obtain⟨c,e,fr,q1,q2,q3,q4,q5⟩:=k3;obtain⟨c0,e0,cW,p1,p2,p3,p4,p5⟩:=g3;refine⟨c,e,fr,q1,q2,q3,⟨q4.1,λi v x hv hx=> ?_⟩,q5⟩;obtain⟨y0,hy0,hv0⟩:=p4.get hv;exact(q4.2 i v x hv hx).down hv0 bE
 |map es clock=>
  obtain⟨es',q1,q2,q3⟩:=k3;obtain⟨es0,p1,p2,p3⟩:=g3;refine⟨es',q1,q2,λi e e' he rH=> ?_⟩;obtain⟨a1,a2,a3⟩:=q3 i e e' he rH;have hi:i<es0.size:=by rw[<-p2];exact(Za2.1 he).1
  obtain⟨b1,b2,_⟩:=p3 i e _ he (Zg7 hi);exact⟨a1.down b1 bE,a2.down b2 bE,a3⟩
theorem amI{ρ:Pos->Loc}{C:Cells}{st:St}{w w':World}{r:AV×St}{x:Value}(hW:cq ρ C st w)(h:oh ρ C st w r.1 r.2 x w'):
   oh ρ C st w (tidy st r).1 (tidy st r).2 x w':=by
 unfold tidy;split
 . rename_i hp;obtain⟨ρ',hv,bE,hn,jk,hE⟩:=h;exact⟨ρ,hp.1 _ _ _ _ _ _ hv,λ_ _=>rfl,Za3 _,hW.back hp.2 bE jk hE.size,⟨hE.os,hE.tape,hE.output,hE.size,hE.block,λb y hb=> .inl ⟨b,y,hb,rfl⟩⟩⟩
 . exact h
theorem amJ{st:St}{r:AV×St}(h:st.next.toNat<=r.2.next.toNat):st.next.toNat<=(tidy st r).2.next.toNat:=by
 unfold tidy;split
 . exact Za3 _
 . exact h
def xL(O:eP)(G:T dN)(m:Nat):Nat->aj
 |0=>λ_ _ _=>none
 |  d+1=>λf args st=>match O f with
    |some s=>s args st
    |none=>match G.get (key f)with
     |some F=>(xJ (xL O G m d) m F args st).map (tidy st)
     |none=>none
section
variable{P : Program}{tt : TT}{C : Cells}
theorem amK{call:aj}(hm:pG call){m:Nat}{F:dN}{args:List AV}{st:St}{v:AV}{st':St}(h:xJ call m F args st=some (v,st')):st.next.toNat<=st'.next.toNat:=by
 unfold xJ at h;split at h<;>first|(cases h;done)|skip
 split at h<;>first|(cases h;done)|skip
 all_goals
  rename_i h1;split at h<;>first|(cases h;done)|skip
  simp only[H5,Zc9]at h;obtain⟨rfl,rfl⟩:=h;exact MU hm _ _ _ _ _ _ _ h1
theorem abU{O:eP}{G:T dN}(hO:oI O)(m:Nat):∀d,pG (xL O G m d)
 |0=>λf args st v st' h=>by simp[xL]at h
 |d +1=>λf args st v st' h=>by
  unfold xL at h;split at h
  . rename_i s hs;exact hO _ _ hs _ _ _ _ h
  . (split at h<;>first|(cases h;done)|skip);simp only[Zf3]at h;obtain⟨r,hr,he⟩:=h;have:=amK (abU hO m d) (v:=r.1) (st':=r.2) hr;have:=amJ this;rw[he]at this;exact this
theorem ZG(hm:P.follows .mixedOrders=true)(hT:dy P tt){O:eP}{G:T dN}(hO:vz P C O)(VH:oI O)(hG:GOk P tt G)(m:Nat):∀d,iZ P C (xL O G m d)
 |0=>λρ st w f args v st' cM h=>by simp[xL]at h
 |d +1=>by
  intro ρ st w f args v st' cM h hW xK;have ih:=ZG hm hT hO VH hG m d;unfold xL at h;split at h
  . rename_i s hs;exact hO f s hs ρ st w args v st' cM h hW xK
  . (split at h<;>first|(cases h;done)|skip);rename_i F hF;simp only[Zf3]at h;obtain⟨r,hr,he⟩:=h;refine Reaches.mono (λx w' hp=> ?_) (abJ hT hG ih (Rn hm hT ih (abU VH m d)) m hF (v:=r.1) (st':=r.2) hr hW xK);have:=amI hW hp;rw[he]at this;exact this
end
theorem ajC{c c':aj}(h:ZF c c'){n m:Nat}(hn:n<=m){F:dN}{args:List AV}{st:St}{r:AV×St}(e:xJ c n F args st=some r):xJ c' m F args st=some r:=by
 unfold xJ at e ⊢;split at e<;>first|(cases e;done)|skip
 split at e<;>first|(cases e;done)|skip
 all_goals
  rename_i h1;simp only[Ym h n m hn _ _ _ _ h1];exact e
theorem aaF(O:eP)(G:T dN){n m:Nat}(hn:n<=m):∀d d',d<=d'->ZF (xL O G n d) (xL O G m d')
 |0,_,_=>λ_ _ _ _ e=>by simp[xL]at e
 |_+1,0,h=>by omega
 |d +1,d'+1,h=>λf args st r e=>by
  have ih:=aaF O G hn d d' (by omega);unfold xL at e ⊢;split at e
  . exact e
  . (split at e<;>first|(cases e;done)|skip);simp only[Zf3]at e ⊢;obtain⟨q,hq,he⟩:=e;exact⟨q,ajC ih hn hq,he⟩
def cn(O:eP)(G:T dN)(n:Nat):aj:=xL O G n n
theorem Rx(O:eP)(G:T dN){n m:Nat}(h:n<=m):ZF (cn O G n) (cn O G m):=aaF O G h n m h
def run(O:eP)(G:T dN):aj:=λf args st=>open Classical in
 if h:∃(r:AV×St) (n:Nat),cn O G n f args st=some r then some h.choose else none
variable{O : eP}{G : T dN}
theorem amL{f:FuncId}{args:List AV}{st:St}{r:AV×St}{n:Nat}(h:cn O G n f args st=some r):run O G f args st=some r:=by
 unfold run;have hx:∃(r:AV×St) (n:Nat),cn O G n f args st=some r:=⟨r,n,h⟩
 rw[dif_pos hx];obtain⟨m,hm⟩:=hx.choose_spec;have h1:=Rx O G (Zj5 n m) f args st _ h;have h2:=Rx O G (Zi6 n m) f args st _ hm;rw[h1]at h2;exact h2.symm
theorem agR{f:FuncId}{args:List AV}{st:St}{r:AV×St}(h:run O G f args st=some r):∃n,cn O G n f args st=some r:=by
 unfold run at h;split at h
 . rename_i hx;simp only[H5]at h;rw[<-h];exact hx.choose_spec
 . cases h
theorem abV{k:aG}{xs:List AV}{st:St}{r:AV×St}(e:cH (run O G) k xs st=some r):∃n,cH (cn O G n) k xs st=some r:=by
 unfold cH at e;cases hr:k.run (λb=>st.heap.get b) st.next xs with
 |none=>simp[hr]at e
 |some x=>cases x with
  |val v=>exact⟨0,by simpa [cH,hr]using e⟩
  |bk v d s n=>exact⟨0,by simpa [cH,hr]using e⟩
  |call f args=>
   simp only[hr]at e;obtain⟨n,hn⟩:=agR e;exact⟨n,by simpa [cH,hr]using hn⟩
theorem VL:∀(os:List bQ)(fr:Fr)(st:St)(r:Fr×St),mH (run O G) os fr st=some r->∃n,mH (cn O G n) os fr st=some r
 |[],_,_,_,e=>⟨0,e⟩
 |o::os,fr,st,r,e=>by
  unfold mH at e;cases hw:cK fr o.guard with
  |none=>simp[hw]at e
  |some b=>cases b with
   |    false=>
        simp only[hw]at e;obtain⟨n,hn⟩:=VL os _ _ _ e;exact⟨n,by unfold mH;simp only[hw];exact hn⟩
   |    true=>
        simp only[hw]at e;cases hx:fS fr o.xs with
        |none=>simp[hx]at e
        |some xs=>
         simp only[hx]at e;cases hs:cH (run O G) o.k xs st with
         |none=>simp[hs]at e
         |some p=>
          simp only[hs]at e;obtain⟨n,hn⟩:=VL os _ _ _ e;obtain⟨m,hm⟩:=abV hs;refine⟨max n m,?_⟩;unfold mH;simp only[hw,hx,Rw (Rx O G (Zi6 n m)) hm];exact Yl (Rx O G (Zj5 n m)) _ _ _ _ hn
theorem abW: ∀(os:List (Nat×bQ))(recs:List Rec)(base:T AB)(fr:Fr)(st:St)(r:Fr×St),dY (run O G) os recs base fr st=some r->∃n,dY (cn O G n) os recs base fr st=some r
 |[],_,_,_,_,_,e=>⟨0,e⟩
 |(j,   o):: os,recs,base,fr,st,r,e=>by
  have ih:=abW os;unfold dY at e;cases hw:cK fr o.guard with
  |none=>simp[hw]at e
  | some b=>cases b with
    |   false=>
        simp only[hw]at e;obtain⟨n,hn⟩:=ih _ _ _ _ _ e;exact⟨n,by unfold dY;simp only[hw];exact hn⟩
    |   true=>
        simp only[hw]at e;cases hx:fS fr o.xs with
        |none=>simp[hx]at e
        |some xs=>
         simp only[hx]at e;cases hc:o.cls with
         | bk=>
           simp only[hc]at e;cases hs:cH (run O G) o.k xs st with
           |none=>simp[hs]at e
           | some p=>
             simp only[hs]at e;obtain⟨n,hn⟩:=ih _ _ _ _ _ e;obtain⟨m,hm⟩:=abV hs;refine⟨max n m,?_⟩;unfold dY;simp only[hw,hx,hc,Rw (Rx O G (Zi6 n m)) hm];exact aaE (Rx O G (Zj5 n m)) _ _ _ _ _ _ hn
         | new=>
           simp only[hc]at e;(split at e<;>first|(cases e;done)|skip);obtain⟨n,hn⟩:=ih _ _ _ _ _ e;refine⟨n,?_⟩;unfold dY;simp only[*]
         | pure=>
           simp only[hc]at e;split at e<;>(try split at e)<;>(try split at e)<;>first|(cases e;done)|skip
           all_goals
             obtain⟨n,hn⟩:=ih _ _ _ _ _ e;refine⟨n,?_⟩;unfold dY;simp only[*]
         | read=>
           simp only[hc]at e;split at e<;>(try split at e)<;>(try split at e)<;>first|(cases e;done)|skip
           all_goals
             obtain⟨n,hn⟩:=ih _ _ _ _ _ e;refine⟨n,?_⟩;unfold dY;simp only[*]
theorem aew:∀(n:Nat)(a:AC)(fr:Fr)(st:St)(r:oH×Fr×St),exec (run O G) n a fr st=some r->∃m,exec (cn O G m) n a fr st=some r
 |0,_,_,_,_,e=>by simp[exec]at e
 |n+    1,a,fr,st,r,e=>by
  have ih:=aew n;have up:∀{m m':Nat}{a:AC}{fr:Fr}{st:St}{r:oH×Fr×St},m<=m'->exec (cn O G m) n a fr st=some r->exec (cn O G m') n a fr st=some r:=
   λh e=>Ym (Rx O G h) _ _ (Za3 _) _ _ _ _ e
  cases a<;>simp only[exec,bC]at e
  case skip=>exact⟨0,e⟩
  case exit=>exact⟨0,e⟩
  case ret=>exact⟨0,e⟩
  case region ops=>
   cases ho:mH (run O G) ops fr st with
   |none=>simp[ho]at e
   |    some p=>
        obtain⟨m,hm⟩:=VL _ _ _ _ ho;exact⟨m,by simp only[exec,bC,hm];simpa only[ho]using e⟩
  case draw ops=>
   cases ho:dY (run O G) ops [] st.heap fr st with
   |none=>simp[ho]at e
   |    some p=>
        obtain⟨m,hm⟩:=abW _ _ _ _ _ _ ho;exact⟨m,by simp only[exec,bC,hm];simpa only[ho]using e⟩
  case seq a b=>
   cases ha:exec (run O G) n a fr st with
   |none=>simp[ha]at e
   |    some p=>
        obtain⟨ex,eZ,bD⟩:=p;simp only[ha]at e;obtain⟨m,hm⟩:=ih _ _ _ _ ha;cases ex with
        |normal=>
         obtain⟨m',hm'⟩:=ih _ _ _ _ e;exact⟨max m m',by simp only[exec,bC,up (Zj5 m m') hm];exact up (Zi6 m m') hm'⟩
        |exit i=>exact⟨m,by simp only[exec,bC,hm];exact e⟩
        |ret=>exact⟨m,by simp only[exec,bC,hm];exact e⟩
  case cond x a b=>
   split at e
   .    rename_i hx;obtain⟨m,hm⟩:=ih _ _ _ _ e;exact⟨m,by simp only[exec,bC,hx];exact hm⟩
   .    rename_i hx;obtain⟨m,hm⟩:=ih _ _ _ _ e;exact⟨m,by simp only[exec,bC,hx];exact hm⟩
   .    cases e
  case block id a=>
   cases ha:exec (run O G) n a fr st with
   |none=>simp[ha]at e
   |    some p=>
        obtain⟨ex,eZ,bD⟩:=p;simp only[ha]at e;obtain⟨m,hm⟩:=ih _ _ _ _ ha;exact⟨m,by simp only[exec,bC,hm];exact e⟩
  case loop a=>
   cases ha:exec (run O G) n a fr st with
   |none=>simp[ha]at e
   |    some p=>
        obtain⟨ex,eZ,bD⟩:=p;simp only[ha]at e;obtain⟨m,hm⟩:=ih _ _ _ _ ha;cases ex with
        |normal=>
         obtain⟨m',hm'⟩:=ih _ _ _ _ e;exact⟨max m m',by simp only[exec,bC,up (Zj5 m m') hm];exact up (Zi6 m m') hm'⟩
        |exit i=>exact⟨m,by simp only[exec,bC,hm];exact e⟩
        |ret=>exact⟨m,by simp only[exec,bC,hm];exact e⟩
theorem ao8{f:FuncId}{F:dN}{args:List AV}{st:St}{r:AV×St}{n:Nat}(ho:O f=none)(hF:G.get (key f)=some F)(h:xJ (run O G) n F args st=some r):
   run O G f args st=some (tidy st r):=by
 unfold xJ at h;split at h<;>first|(cases h;done)|skip
 rename_i hlen
 have fin:∀{ex fr st'},exec (run O G) n F.code (params 0 args .e) st=some (ex,fr,st')->(∀m k,exec (cn O G m) k F.code (params 0 args .e) st=some (ex,fr,st')->xJ (cn O G m) k F args st=some r)->
    run O G f args st=some (tidy st r):=λh1 h2=>by
   obtain⟨m,hm⟩:=aew _ _ _ _ _ h1;refine amL (n:=max n m+1) ?_;unfold cn xL;simp only[ho,hF];have:=h2 m n hm;have h3:=ajC (aaF O G (n:=m) (m:=max n m+1) (by have:=Zi6 n m;omega) m (max n m) (Zi6 n m)) (m:=max n m+1) (by have:=Zj5 n m;omega) this;rw[h3];rfl
 split at h<;>first|(cases h;done)|skip
 . rename_i h1;exact fin h1 λm k hk=>by unfold xJ;simp only[hlen,hk];exact h
 . rename_i h1;exact fin h1 λm k hk=>by unfold xJ;simp only[hlen,hk];exact h
theorem abX{f:FuncId}{s:List AV->St->Option (AV×St)}(ho:O f=some s){args:List AV}{st:St}{r:AV×St}(h:s args st=some r):run O G f args st=some r:=
 amL (n:=1) (by unfold cn xL;simp only[ho];exact h)
theorem aex{P:Program}{tt:TT}{C:Cells}(hm:P.follows .mixedOrders=true)(hT:dy P tt)(hO:vz P C O)(VH:oI O)(hG:GOk P tt G):iZ P C (run O G):=by intro ρ st w f args v st' cM h hW xK;obtain⟨n,hn⟩:=agR h;exact ZG hm hT hO VH hG n n ρ st w f args v st' cM hn hW xK
section
variable{ρ ρ' : Pos -> Loc}{C : Cells}{st bD : St}{w w1 w' : World}{nt r : Nat}{fr eZ : Fr}{a a1 : Act}
theorem kV.sub{n:Nat}{tmps:Array Value}(h:kV ρ n C eZ tmps)(hf:∀p v,fr.get p=some v->eZ.get p=some v):kV ρ n C fr tmps:=λp v hp=>h p v (hf p v hp)
theorem yp.back(hS:yp nt ρ C fr st a w)(hf:∀p v,fr.get p=some v->eZ.get p=some v)(hk:aW st bD)(h:kJ nt ρ C st w eZ bD a1 w1):
  yp nt ρ C fr st a1 w1/\qm ρ st w ρ st w1:=by
 obtain⟨jX,S1,k1,k2,E⟩:=h;refine⟨⟨hS.W.back hk k1 S1.W E.size,λp v hp=> ?_,S1.size,S1.defers⟩,⟨E.os,E.tape,E.output,E.size,E.block,λb x hb=> .inl ⟨b,x,hb,rfl⟩⟩⟩;obtain⟨x,hx,hv⟩:=S1.F p v (hf p v hp);obtain⟨y,_,hy⟩:=hS.F p v hp;exact⟨x,hx,hv.down hy k1⟩
theorem cq.iter{m:Option Nat}{s c:Nat}{seen:Array Nat}(hW:cq ρ C st w)(hr:w.heap[r]? =some (.mapIter m s seen c))(hn:∀b x,st.heap.get b=some x->(ρ b).aM≠r)
   (hs:w'.heap.size=w.heap.size) (hk:∀k,k≠r->w'.heap[k]? =w.heap[k]?):cq ρ C st w':=by
 have dJ:∀a v,C a=some v->a.block≠r:=λa v ha e=>by have h:=(hW.ei a v ha).1;unfold World.cell? at h;rw[e,hr]at h;cases h
 refine⟨λb x hb=> ?_,hW.inj,λa v ha=> ?_,λa v ha o ho=> ?_⟩
 . obtain⟨h1,h2,h3⟩:=hW.live b x hb;exact⟨h1,by rw[hs];exact h2,h3.of_heap (hk _ (hn b x hb))⟩
 . obtain⟨h1,h2⟩:=hW.ei a v ha;exact⟨by rw[World.cell?_of_block (w:=w) (hk _ (dJ a v ha))];exact h1,h2⟩
 . rw[World.cell?_of_block (w:=w) (a:=⟨a.block,o,none⟩) (hk _ (dJ a v ha))];exact hW.whole a v ha o ho
end
def T.sub{α:Type}(f:α->α->Bool):T α->T α->Bool
 | .e,_=>true
 | .n l v r,.e=>(match v with|none=>true|some _=>false)&&T.sub f l .e&&T.sub f r .e
 |  .n l v r,.n l' v' r'=>(match v with
    |none=>true
    |some a=>match v' with
     |some b=>f a b
     |none=>false)&&T.sub f l l'&&T.sub f r r'
theorem T.KA{α:Type}{f:α->α->Bool}(hf:∀a b,f a b=true->a=b):∀{t u:T α},T.sub f t u=true->∀p v,t.get p=some v->u.get p=some v
 | .e,_,_,p,v,h=>by rw[T.dO]at h;cases h
 | .n l x r,.e,hs,p,v,h=>by
   simp only[T.sub,Zb5]at hs;cases p with
   |h=>simp only[T.get]at h;subst h;simp at hs
   |o p=>have:=T.KA hf hs.1.2 p v h;rw[T.dO]at this;cases this
   |i p=>have:=T.KA hf hs.2 p v h;rw[T.dO]at this;cases this
 | .n l x r,.n l' x' r',hs,p,v,h=>by
   simp only[T.sub,Zb5]at hs;cases p with
   |h=>
    simp only[T.get]at h ⊢; subst h;have h1:=hs.1.1;cases x' with
    |none=>simp at h1
    |some y=>simp at h1;rw[hf _ _ h1]
   |o p=>exact T.KA hf hs.1.2 p v h
   |i p=>exact T.KA hf hs.2 p v h
structure RG where
 t17:Nat
 t18:Nat
 t19:Nat
 t20:Nat
 l2:List bQ
 x:ic
 l4:List bQ
 body:AC
 ds:List Pos
abbrev XR:=Option (oH×Fr×St)
section
variable(bU : sN XR)(m : Nat)(g : RG)
def exK(c:AC)(fr:Fr)(st:St):XR:=aby none bU m c fr st (λfr st=>some (.normal,fr,st)) (λi fr st=>some (.exit i,fr,st)) (λfr st=>some (.ret,fr,st))
def akU(k v:AV)(fr:Fr)(st:St):XR:=
 wY (some (.tuple [.bool true,k,v])) (key g.t18) fr λfr=>wY (some (.bool true)) (key g.t19) fr λfr=>wY (some (.tuple [k,v])) (key g.t20) fr λfr=>
    adb none bU g.l4 fr st λfr st=>exK bU m g.body fr st
def agS:List Pos->Fr->(Fr->XR)->XR
 |[],fr,k=>k fr
 |p::ps,fr,k=>wY none p fr λfr=>agS ps fr k
def Ry(fr:Fr)(st:St)(e:AV×AV×Nat):Bool:=match akU bU m g e.1 e.2.1 fr st with
 |some (.normal,eZ,bD)=>T.sub ey fr eZ&&T.sub abR st.heap bD.heap
 |_=>false
def adn(clock:Nat):List (AV×AV×Nat)->Bool
 |[]=>true
 |e::es=>Nat.blt e.2.2 clock&&es.all (λx=> !Nat.beq x.2.2 e.2.2)&&adn clock es
def akV (fr:  Fr) (st:St):XR:=
 adb  none bU g.l2 fr st λfr st=>evK none fr g.x λ
    | .map b=>match Br b st.heap with
      | some (.map es clock)=>match adn clock es with
        |true=>   agS g.ds fr λfr=>wY (some (.ptr st.next 0)) (key g.t17) fr λfr=>abx st.next λn=>
           match es.filter (λe=> !Ry bU m g fr { heap:=st.heap,next:=n } e)with
           |[]=>some (.normal,fr,{ heap:=st.heap,next:=n })
           |  [e] =>match akU bU m g e.1 e.2.1 fr { heap:=st.heap,next:=n }with
              |some (.normal,eZ,bD)=>agS g.ds eZ λeZ=>
                  match Br b bD.heap,Br (key g.t17) eZ with
                  |some y,some v=>match abR y (.map es clock)&&ey v (.ptr st.next 0)&&es.all (λx=>Nat.beq x.2.2 e.2.2||Ry bU m g eZ bD x)with
                   |true=>some (.normal,eZ,bD)
                   |false=>none
                  |_,_=>none
              |_=>none
           |_=>none
        |false=>none
      |_=>none
    |_=>none
end
section
variable{P : Program}{tt : TT}{C : Cells}
def pM(P:Program)(C:Cells)(nt:Nat)(c:Code)(ex:Fr->St->XR):Prop:=
 ∀  (fr bH:Fr)(st st':St)(e:oH)(ρ:Pos->Loc)(a:Act)(w:World)(Q:Exit->Act->World->Prop),ex fr st=some (e,bH,st')->yp nt ρ C fr st a w->
    (∀a' w',kJ nt ρ C st w bH st' a' w'->Q (Pb e) a' w')->c.wp P Q a w
theorem amM{bU:sN XR}{call:aj}(hc:CK none bU call)(m:Nat)(c:AC)(fr:Fr)(st:St):exK bU m c fr st=exec call m c fr st:=by
 unfold exK;rw[aaC none hc];cases exec call m c fr st with
 |none=>rfl
 |some x=>obtain⟨e,fr,st⟩:=x;cases e<;>rfl
theorem pM.ac(hT:dy P tt){bU:sN XR}{call:aj}(hc:CK none bU call)(cV:iZ P C call)(mj:yq P tt C call){nt m:Nat}{c:Code}{a:AC}(h:vt tt nt c=some a):
 pM P C nt c (exK bU m a):=λfr bH st st' e ρ ac w Q hx hS hQ=>(CJ hT cV mj m).1 c a fr bH st st' e ρ ac w Q h (by rw[<-amM hc];exact hx) hS hQ
def ao9(x y:Fr->St->XR)(fr:Fr)(st:St):XR:=match x fr st with
 |some (.normal,fr,st)=>y fr st
 |r=>r
theorem pM.seq{nt:Nat}{c d:Code}{x y:Fr->St->XR}(hc:pM P C nt c x)(hd:pM P C nt d y):pM P C nt (.seq c d) (ao9 x y):=by
 intro fr bH st st' e ρ a w Q h hS hQ;unfold ao9 at h;apply wp_seq;split at h
 . rename_i eZ bD h1;(refine hc fr eZ st bD .normal ρ a w _ h1 hS λa1 w1 hp=> ?_);obtain⟨jX,S1,k1,k2,k3⟩:=hp;exact hd eZ bH bD st' e jX a1 w1 Q h S1 λa2 w2 hp=>hQ a2 w2 (kJ.trans k1 k2 k3 hp)
 . rename_i dJ;(refine hc fr bH st st' e ρ a w _ h hS λa1 w1 hp=> ?_);cases e with
   |normal=>exact(dJ _ _ h).elim
   |exit id=>exact hQ a1 w1 hp
   |ret=>exact hQ a1 w1 hp
def clr:List Pos->Fr->Fr
 |[],fr=>fr
 |p::ps,fr=>clr ps (fr.put none p)
theorem ajD:∀(ps:List Pos)(fr:Fr)(k:Fr->XR),agS ps fr k=k (clr ps fr)
 |[],_,_=>rfl
 |p::ps,fr,k=>by simp only[agS,om,clr];exact ajD ps _ k
theorem ado:∀(ps:List Pos)(fr:Fr)(p:Pos)(v:AV),(clr ps fr).get p=some v->fr.get p=some v
 |[],_,_,_,h=>h
 |q::ps,fr,p,v,h=>by
  have h:=ado ps _ p v h;by_cases hq:q=p
  . subst hq;rw[T.gH]at h;cases h
  . rwa [T.bX _ hq]at h
theorem adp{clock:Nat}:∀{es:List (AV×AV×Nat)},adn clock es=true->(∀e∈es,e.2.2<clock)/\(es.map (·.2.2)).Nodup
 |[],_=>⟨λ_ h=>by simp at h,by simp⟩
 |e ::es,h=>by
  simp only[adn,Zb5]at h;obtain⟨⟨h1,h2⟩,h3⟩:=h;obtain⟨i1,i2⟩:=adp h3;refine⟨λx hx=> ?_,?_⟩
  . rcases Zb0.1 hx with rfl|hx
    . exact Zb4 h1
    . exact i1 x hx
  . rw[Zd5,List.nodup_cons];refine⟨λhm=> ?_,i2⟩;obtain⟨x,hx,he⟩:=Zd0.1 hm;have:=Zg9.1 h2 x hx;simp[he]at this
def Mv(bU:sN XR)(m:Nat)(g:RG)(A B:Fr×St)(e:AV×AV×Nat):Prop:=
 ∃f1 s1,akU bU m g e.1 e.2.1 A.1 A.2=some (.normal,f1,s1)/\(∀p v,B.1.get p=some v->f1.get p=some v)/\((B=A/\aW A.2 s1)\/B.2=s1)
theorem adq{bU:sN XR}{m:Nat}{g:RG}{fr:Fr}{st:St}{e:AV×AV×Nat}(h:Ry bU m g fr st e=true):Mv bU m g (fr,st) (fr,st) e:=by
 unfold Ry at h;split at h<;>first|(cases h;done)|skip
 rename_i f1 s1 h1;simp only[Zb5]at h;exact⟨f1,s1,h1,T.KA (λ_ _=>yu) h.1,.inl ⟨rfl,T.KA (λ_ _=>aaD) h.2⟩⟩
section
variable{bU : sN XR}{call : aj}{nt m : Nat}{g : RG}{tR : Array Oper}{o0 o1 o4 : Oper}{i3 i4 b0 b1 : Nat}{rest : Code}{Tz : List bQ}{bs : List Nat}
def akW(g:RG)(o0 o1:Oper)(tR:Array Oper)(rest:Code)(i3 i4 b0 b1:Nat):Code:=
 .seq (.region i3 #[o0,o1] false) (.seq (.cond (.tmp g.t19) .skip (.exit b0)) (.block b1 (.seq (.region i4 tR false) rest)))
structure apa(tt:TT)(nt:Nat)(g:RG)(o0 o1 o4:Oper)(tR:Array Oper)(rest:Code)(Tz:List bQ)(bs:List Nat):Prop where
 n0:o0.op= .next (.tmp g.t17) false/\o0.guard=none/\o0.dst=some g.t18
 n1:o1.op= .extract (.tmp g.t18) 0/\o1.guard=none/\o1.dst=some g.t19
 n4:tR[0]? =some o4/\o4.op= .entry (.tmp g.t17)/\o4.guard=none/\o4.dst=some g.t20
 lt:g.t17<nt/\g.t18<nt/\g.t19<nt/\g.t20<nt
 ne:g.t17≠g.t18/\g.t17≠g.t19/\g.t18≠g.t19
 c4:uw tt nt tR tR.toList bs=some Tz
 l4:Tz.tail=g.l4
 r4:vt tt nt rest=some g.body
structure LI(C:Cells)(nt:Nat)(g:RG)(X:Fr×St)(b Pd:Pos)(es:List (AV×AV×Nat))(since r:Nat)(nS:Pos->Loc)(VM:St)(w0:World)(seen:Array Nat)(ρ:Pos->Loc)(a:Act)(w:World):Prop where
 S:yp nt ρ C X.1 X.2 a w
 k1:∀p:Pos,p.toNat<VM.next.toNat->ρ p=nS p
 k2:VM.next.toNat<=X.2.next.toNat
 E:qm nS VM w0 ρ X.2 w
 ip:(ρ Pd).aM=r/\(ρ Pd).base=0/\Pd.toNat<X.2.next.toNat
 at17:X.1.get (key g.t17)=some (.ptr Pd 0)
 mp:X.2.heap.get b=some (.map es since)
 it:∃c,w.heap[r]? =some (.mapIter (some (ρ b).aM) since seen c)/\since<=c
 yA:∀p x,X.2.heap.get p=some x->(ρ p).aM≠r
 late:w0.heap.size<=r
 cl:X.1.get (key g.t18)=none/\X.1.get (key g.t19)=none
theorem BZ{ops:Array Oper}{Q:Exit->Act->World->Prop}{i:Nat}{rest:List Nat}{o:Oper}{a:Act}{w w':World}{v:Value}(ho:ops[i]? =some o)(hg:o.guard=none)
  (hr:(execOp a.eval o).run P w= .ok (.value v) w') (hQ:wpOps P ops Q rest (a.put o.dst v) w'):wpOps P ops Q (i::rest) a w:=by
 unfold wpOps;rw[ho];simp only[Region.wanted,hg,Zh5];refine .inl ?_;unfold Oper.wp;rw[hr];exact hQ
theorem eval_put{a:Act}{t:Nat}{v:Value}(h:t<a.tmps.size):(a.put (some t) v).eval (.tmp t)=v:=by
 simp[Act.put,Act.eval,h]
theorem ZH{a:Act}{t s:Nat}{v:Value}(h:t≠s):(a.put (some t) v).eval (.tmp s)=a.eval (.tmp s):=by
 simp[Act.put,Act.eval,Zj6 h]
theorem LI.round(hT:dy P tt)(hc:CK none bU call)(cV:iZ P C call)(mj:yq P tt C call)(hR:apa tt nt g o0 o1 o4 tR rest Tz bs)
   {A:Fr×St} {b Pd:Pos} {es:List (AV×AV×Nat)} {since r:Nat} {nS:Pos->Loc} {VM:St} {w0:World} {seen:Array Nat} {ρ:Pos->Loc} {a:Act} {w:World}
   (L:LI C nt g A b Pd es since r nS VM w0 seen ρ a w) (dV:adn since es=true) {Q:Exit->Act->World->Prop}
   (akX:(∀e∈es,seen.contains e.2.2=true)->∀a',yp nt ρ C A.1 A.2 a' w->Q (.exit b0) a' w)
   (auw:∀e∈es,seen.contains e.2.2=false->∃B,Mv bU m g A B e/\B.1.get (key g.t17)=some (.ptr Pd 0)/\B.2.heap.get b=some (.map es since)/\B.1.get (key g.t18)=none/\B.1.get (key g.t19)=none/\
     ∀ρ' a' w',LI C nt g B b Pd es since r nS VM w0 (seen.push e.2.2) ρ' a' w'->Q .normal a' w'):
   (akW g o0 o1 tR rest i3 i4 b0 b1).wp P Q a w:=by
 obtain⟨c,hr,hsc⟩:=L.it;obtain⟨g1,g2,es',q1,q2,q3⟩:=L.S.W.live b _ L.mp;obtain⟨aS,hnd⟩:=adp dV;have hat:∀(i:Nat)(e':MapEntry),es'[i]? =some e'->∃e,es[i]? =some e/\aC ρ A.2.next.toNat C e.1 e'.key/\aC ρ A.2.next.toNat C e.2.1 e'.val/\e.2.2=e'.born:=λi e' h=>by
   have hi:i<es.length:=(by rw[q2];exact(Zd1.1 h).1);exact⟨_,H0 hi,q3 i _ e' (H0 hi) h⟩
 have hold:∀x∈es'.toList,x.born<since:=λx hx=>by
   obtain⟨i,hi⟩:=Ze9.1 hx;obtain⟨e,h1,_,_,h2⟩:=hat i x (by simpa using hi);rw[<-h2];exact aS e (Zb9 h1)
 have eN:es'.toList.map (·.born)=es.map (·.2.2):=by
   apply Zh7;intro i;simp only[Zb7,Zj7];cases h:es'[i]? with
   | none=>
     have:es.length<=i:=(by rw[q2];exact Array.getElem?_eq_none_iff.1 h);rw[Zc1 this];rfl
   | some x=>
     obtain⟨e,h1,_,_,h2⟩:=hat i x h;rw[h1];simp[h2]
 have hit:a.eval (.tmp g.t17)= .pointer (some ⟨r,0,none⟩):=by
   have h:=Bs (x:= .tmp g.t17) (o:= .t (key g.t17)) rfl L.S.F (v:= .ptr Pd 0) L.at17;obtain⟨_,h⟩:=h.qz;rw[h,L.ip.1,L.ip.2.1]
 have gR:=L.S.size;have s18:∀(v:Value),g.t18<(a.put (some g.t18) v).tmps.size:=λv=>by rw[Act.j9,gR];exact hR.lt.2.1
 have hrl:r<w.heap.size:=(Zd1.1 hr).1;unfold akW;apply wp_seq;apply wp_region;show wpOps P _ _ [0,1] a w;rcases run_next_at (P:=P) w o0.type r (ρ b).aM since c seen es' since hr q1 hold hsc with⟨h0,dP⟩|⟨e',rH,w1,oE,dP⟩
 . refine BZ (i:=0) (o:=o0) rfl hR.n0.2.1 (v:= .tuple #[.bool false]) (w':=w) (by simp[execOp,hR.n0.1,hit,dP,Result.andThen]) ?_;rw[hR.n0.2.2];refine BZ (i:=1) (o:=o1) rfl hR.n1.2.1 (v:= .bool false) (w':=w) (by simp[execOp,hR.n1.1,eval_put (gR ▸hR.lt.2.1),Instr.extract,Result.andThen]) ?_;rw[hR.n1.2.2];apply wp_seq;refine wp_cond_false (eval_put (by rw[Act.j9,gR];exact hR.lt.2.2.1)) (wp_exit ?_);refine akX (λe he=> ?_) _ ⟨L.S.W,λp v hp=> ?_,by rw[Act.j9,Act.j9];exact gR,by rw[Act.mF,Act.mF];exact L.S.defers⟩
   . obtain⟨i,hi⟩:=Ze9.1 he;have hi':i<es'.size:=(by rw[<-q2];exact(Za2.1 hi).1);obtain⟨e2,h1,_,_,h2⟩:=hat i _ (Zg7 hi');rw[hi]at h1;cases h1;rw[h2];have hem:leftOf es' seen= #[]:=Zo4 h0;unfold leftOf at hem;rw[Array.filter_eq_empty_iff]at hem;have:=hem es'[i] (Array.getElem_mem hi');simpa using this
   . rw[MX (λh=>by simp at h;subst h;rw[L.cl.2]at hp;cases hp),MX (λh=>by simp at h;subst h;rw[L.cl.1]at hp;cases hp)];exact L.S.F p v hp
 . have hr1:w1.heap[r]? =some (.mapIter (some (ρ b).aM) since seen c):=(by rcases oE with rfl|rfl<;>exact hr);have lU:w1.heap[(ρ b).aM]? =some (.map es' since):=(by rcases oE with rfl|rfl<;>exact q1);have Ij:=Go.MapKept.heap_set (o':= .mapIter (some (ρ b).aM) since (seen.push e'.born) since) hr1;obtain⟨w2,sQ⟩:∃w2,w2=Go.ChangeMaps.setBlock w1 r (.mapIter (some (ρ b).aM) since (seen.push e'.born) since):=⟨_,rfl⟩
   (change (Go.ChangeMaps.setBlock w1 r (.mapIter (some (ρ b).aM) since (seen.push e'.born) since)).heap[r]? =_/\∀k,k≠r->(Go.ChangeMaps.setBlock w1 r (.mapIter (some (ρ b).aM) since (seen.push e'.born) since)).heap[k]? =_ at Ij;rw[<-sQ]at Ij dP;have rI:w2.heap.size=w.heap.size:=(by rw[sQ];rcases oE with rfl|rfl<;>simp[Go.ChangeMaps.setBlock]<;>rfl);have ug:∀k,k≠r->w2.heap[k]? =w.heap[k]? :=λk hk=>(Ij.2 k hk).trans (by rcases oE with rfl|rfl<;>rfl));have Vv:w2.os=w.os/\w2.tape=w.tape/\w2.output=w.output:=(by rw[sQ];rcases oE with rfl|rfl<;>exact⟨rfl,rfl,rfl⟩);clear sQ oE;have hW2:cq ρ C A.2 w2:=L.S.W.iter hr L.yA rI ug;have hen:(Instr.entry (.pointer (some ⟨r,0,none⟩))).run P w2= .ok (.tuple #[e'.key,e'.val]) w2:=
     run_entry_at _ r _ since seen es' since e' Ij.1 ((ug _ (L.yA b _ L.mp)).trans q1) (by simp[leftOf]at rH;simpa using rH.1) (eN ▸hnd)
   obtain⟨i,hi⟩:=Ze9.1 rH;have yx:e'∈es'.toList/\seen.contains e'.born=false:=(by simpa [leftOf]using rH);obtain⟨j,hj⟩:=Ze9.1 yx.1;obtain⟨e,h1,v1,v2,h2⟩:=hat j e' (by simpa using hj);obtain⟨B,⟨f1,s1,hx,hf,hB⟩,b17,bm,b18,b19,hQ⟩:=auw e (Zb9 h1) (by rw[h2];exact yx.2);refine BZ (i:=0) (o:=o0) rfl hR.n0.2.1 (v:= .tuple #[.bool true,e'.key,e'.val]) (w':=w2) (by simp[execOp,hR.n0.1,hit,dP,Result.andThen]) ?_;rw[hR.n0.2.2];refine BZ (i:=1) (o:=o1) rfl hR.n1.2.1 (v:= .bool true) (w':=w2) (by simp[execOp,hR.n1.1,eval_put (gR ▸hR.lt.2.1),Instr.extract,Result.andThen]) ?_;rw[hR.n1.2.2];apply wp_seq;refine wp_cond_true (eval_put (by rw[Act.j9,gR];exact hR.lt.2.2.1)) (wp_skip ?_);apply wp_block;apply wp_seq;apply wp_region;have hln:tR.size=g.l4.length+1:=(by have h:Tz.length=tR.size:=(by rw[(wR hR.c4).1,Zi7]);obtain⟨h4,_⟩:=Zd1.1 hR.n4.1;have h4:0<tR.size:=h4;rw[<-hR.l4,List.length_tail];omega);rw[hln,Zm6,Zq6];refine BZ (i:=0) (o:=o4) hR.n4.1 hR.n4.2.2.1 (v:= .tuple #[e'.key,e'.val]) (w':=w2) (by simp[execOp,hR.n4.2.1,ZH hR.ne.1.symm,ZH hR.ne.2.1.symm,hit,hen,Result.andThen]) ?_;rw[hR.n4.2.2.2];unfold akU at hx;simp only[om]at hx;rw[Yj none hc]at hx;unfold uA at hx;(split at hx<;>first|(cases hx;done)|skip);rename_i y hy;simp only[amM hc]at hx;have hvt:aC ρ A.2.next.toNat C (.tuple [.bool true,e.1,e.2.1]) (.tuple #[.bool true,e'.key,e'.val]):= .yg ((aK.nil.cons v2).cons v1 |>.cons (.bool true));have hve:aC ρ A.2.next.toNat C (.tuple [e.1,e.2.1]) (.tuple #[e'.key,e'.val]):= .yg ((aK.nil.cons v2).cons v1);have F1:=kV.put (nt:=nt) (d:=some g.t18) L.S.F gR (λ_ h=>by cases h;exact hR.lt.2.1) hvt;have F2:=kV.put (nt:=nt) (d:=some g.t19) F1 (by rw[Act.j9];exact gR) (λ_ h=>by cases h;exact hR.lt.2.2.1) (.bool true);have F3:=kV.put (nt:=nt) (d:=some g.t20) F2 (by rw[Act.j9,Act.j9];exact gR) (λ_ h=>by cases h;exact hR.lt.2.2.2) hve;refine CI (nt:=nt) hT cV g.l4 1 _ y.1 A.2 y.2 ρ _ w2 (λi ao hi=> ?_) hy ⟨hW2,F3,by rw[Act.j9,Act.j9,Act.j9];exact gR,by rw[Act.mF,Act.mF,Act.mF];exact L.S.defers⟩ λa3 w3 hp=> ?_
   . rw[<-hR.l4,List.getElem?_tail]at hi;obtain⟨o,k1,k2,_⟩:=Rb hR.c4 (i+1) ao hi;exact⟨o,by rw[Zq9];exact k1,k2⟩
   obtain⟨ρ3,S3,k1,k2,k3⟩:=hp;(refine(CJ hT cV mj m).1 rest g.body y.1 f1 y.2 s1 .normal ρ3 a3 w3 _ hR.r4 hx S3 λa4 w4 hp=> ?_);have hP:=kJ.trans k1 k2 k3 hp;show Q .normal a4 w4;have S2:yp nt ρ C A.1 A.2 a w2:=⟨hW2,L.S.F,gR,L.S.defers⟩
   have hE2:qm nS VM w0 ρ A.2 w2:=⟨Vv.1.trans L.E.os,Vv.2.1.trans L.E.tape,Vv.2.2.trans L.E.output,by rw[rI];exact L.E.size,λk hk hn=>(ug k (by have:=L.late;omega)).trans (L.E.block k hk hn),λb x hb=>L.E.yh b x hb⟩
   obtain⟨ρ4,S4,l1,l2,E4⟩:∃ρ4,yp nt ρ4 C B.1 B.2 a4 w4/\(∀p:Pos,p.toNat<A.2.next.toNat->ρ4 p=ρ p)/\A.2.next.toNat<=B.2.next.toNat/\qm ρ A.2 w2 ρ4 B.2 w4:=by
     rcases hB with⟨rfl,hk⟩|hB
     .  obtain⟨S,E⟩:=S2.back hf hk hP;exact⟨ρ,S,λ_ _=>rfl,Za3 _,E⟩
     .  obtain⟨ρ4,S,l1,l2,E⟩:=hP;rw[<-hB]at S l2 E;exact⟨ρ4,⟨S.W,S.F.sub hf,S.size,S.defers⟩,l1,l2,E⟩
   have h4r:w4.heap[r]? =some (.mapIter (some (ρ b).aM) since (seen.push e.2.2) since):=(by rw[E4.block r (by rw[rI];exact hrl) L.yA,h2];exact Ij.1);refine hQ ρ4 a4 w4 ⟨S4,λp hp=>(l1 p (Zc8 hp L.k2)).trans (L.k1 p hp),Zb2 L.k2 l2,hE2.trans E4,?_,b17,bm,⟨since,?_,Za3 _⟩,λp x hp=> ?_,L.late,b18,b19⟩
   . rw[l1 Pd L.ip.2.2];exact⟨L.ip.1,L.ip.2.1,Zc8 L.ip.2.2 l2⟩
   . rw[l1 b g1];exact h4r
   . rcases E4.yh p x hp with⟨p',x',hp',e1⟩|h
     .  rw[<-e1];exact L.yA p' x' hp'
     .  rw[rI]at h;omega
theorem amN{α:Type}{p q:α->Bool}(h:∀x,q x=true->p x=true){e:α}(hp:p e=true)(hq:q e=false):∀{l:List α},e∈l->(l.filter q).length<(l.filter p).length
 |[],h=>by simp at h
 |x ::l,hm=>by
  have hle:∀l:List α,(l.filter q).length<=(l.filter p).length:=λl=>by
    induction l with
    |nil=>simp
    |   cons y l ih=>
        have:=h y;cases hqy:q y<;>cases hpy:p y<;>simp_all<;>omega
  rcases Zb0.1 hm with rfl|hm
  . simp only[List.filter_cons,hp,hq,Zh5,Zf5,Zh2,Zc6];have:=hle l;omega
  . have ih:=amN h hp hq hm;have:=h x;cases hqx:q x<;>cases B4:p x<;>simp_all<;>omega
theorem born_inj:∀{es:List (AV×AV×Nat)},(es.map (·.2.2)).Nodup->∀x∈es,∀y∈es,x.2.2=y.2.2->x=y
 |[],_,_,h,_,_,_=>by simp at h
 |e::es,hn,x,hx,y,hy,he=>by
  rw[Zd5,List.nodup_cons]at hn;rcases Zb0.1 hx with h1|h1<;>rcases Zb0.1 hy with h2|h2
  . rw[h1,h2]
  . subst h1;exact(hn.1 (he ▸Zd0.2 ⟨y,h2,rfl⟩)).elim
  . subst h2;exact(hn.1 (he ▸Zd0.2 ⟨x,h1,rfl⟩)).elim
  . exact born_inj hn.2 x h1 y h2 he
theorem LI.rounds(hT:dy P tt)(hc:CK none bU call)(cV:iZ P C call)(mj:yq P tt C call)(hR:apa tt nt g o0 o1 o4 tR rest Tz bs)
  {X:Bool->Fr×St} {act:Nat} {b Pd:Pos} {es:List (AV×AV×Nat)} {since r:Nat} {nS:Pos->Loc} {VM:St} {w0:World} (dV:adn since es=true) {Q:Exit->Act->World->Prop}
  (hm:∀e∈es,(e.2.2=act->Mv bU m g (X false) (X true) e)/\(e.2.2≠act->∀f,Mv bU m g (X f) (X f) e))
  (hX:∀f,(X f).1.get (key g.t17)=some (.ptr Pd 0)/\(X f).2.heap.get b=some (.map es since)/\(X f).1.get (key g.t18)=none/\(X f).1.get (key g.t19)=none)
  (apb:(∃e∈es,e.2.2=act)\/X false=X true)
  (hQ:∀a' w',kJ nt nS C VM w0 (X true).1 (X true).2 a' w'->Q (.exit b0) a' w'):
  ∀ (n:Nat)(seen:Array Nat)(ρ:Pos->Loc)(a:Act)(w:World),(es.filter λe=> !seen.contains e.2.2).length<n->LI C nt g (X (seen.contains act)) b Pd es since r nS VM w0 seen ρ a w->
    Code.rounds P (akW g o0 o1 tR rest i3 i4 b0 b1) Q n a w:=by
 intro n;induction n with
 |zero=>intro seen ρ a w hn;omega
 |succ n ih=>
  intro seen ρ a w hn L;rw[rounds_succ];refine L.round (m:=m) hT hc cV mj hR dV (λpF a' S=> ?_) λe he hs=> ?_
  . have hx:X (seen.contains act)=X true:=by
        rcases apb with⟨e,he,rfl⟩|h
        . rw[pF e he]
        . cases seen.contains act
          . exact h
          . rfl
    rw[hx]at S L;exact hQ a' w ⟨ρ,S,L.k1,L.k2,L.E⟩
  . have hp:∀y,(seen.push e.2.2).contains y=(seen.contains y||y==e.2.2):=λy=>by
        rw[Array.contains_push]
    have aS:(es.filter λx=> !(seen.push e.2.2).contains x.2.2).length<(es.filter λx=> !seen.contains x.2.2).length:=
        amN (e:=e) (λx hx=>by simp only[hp]at hx;simp at hx ⊢; exact hx.1) (by show(!seen.contains e.2.2)=true;rw[hs];rfl) (by show(!(seen.push e.2.2).contains e.2.2)=false;rw[hp];simp) he
    refine⟨X ((seen.push e.2.2).contains act),?_,(hX _).1,(hX _).2.1,(hX _).2.2.1,(hX _).2.2.2,λρ' a' w' L'=>ih _ ρ' a' w' (by omega) L'⟩;rw[hp act];by_cases ha:e.2.2=act
    .   subst ha;rw[hs];simpa using(hm e he).1 rfl
    .   have:(act==e.2.2)=false:=(by simpa using λh=>ha h.symm);rw[this,Bool.or_false];exact(hm e he).2 ha _
theorem La:∀(ps:List Pos)(fr:Fr)(p:Pos),p∈ps\/fr.get p=none->(clr ps fr).get p=none
 |[],_,_,h=>h.elim (λh=>by simp at h) id
 |q ::ps,fr,p,h=>La ps _ p (by
  by_cases hq:q=p
  . subst hq;exact .inr (T.gH _ _ _)
  . rcases h with h|h
    .   rcases Zb0.1 h with h|h
        . exact(hq h.symm).elim
        . exact .inl h
    .   exact .inr (by rw[T.bX _ hq];exact h))
theorem M8{ops:Array Oper}{Q:Exit->Act->World->Prop}{l2:List Nat}:∀(l1:List Nat)(a:Act)(w:World),wpOps P ops (Exit.then (wpOps P ops Q l2) Q) l1 a w->wpOps P ops Q (l1++l2) a w
 |[],_,_,h=>h
 |i ::l1,a,w,h=>by
  rw[Zd9];unfold wpOps at h ⊢;split
  . rename_i ho;rw[ho]at h;exact M8 l1 a w h
  . rename_i o ho;rw[ho]at h;simp only at h;split
    .   rename_i hw;rw[Zb3 hw]at h;refine h.imp (λh=> ?_) id;have h:=Oper.wp_mono (K':=wpOps P ops Q (l1++l2)) (λa w h=>M8 l1 a w h) h;unfold Oper.wp at h ⊢;generalize (execOp a.eval o).run P w=r at h ⊢;rcases r with⟨x,w⟩|⟨x,w⟩
        . cases x<;>exact h
        . cases x<;>exact h
    .   rename_i hw;rw[Za7 hw]at h;exact M8 l1 _ w h
theorem cq.slot{ρ ρ':Pos->Loc}{st:St}{w:World}(hW:cq ρ C st w)(bE:∀p:Pos,p.toNat<st.next.toNat->ρ' p=ρ p):cq ρ' C ⟨st.heap,st.next.succ⟩ w:=by
 have hl:∀p x,st.heap.get p=some x->ρ' p=ρ p:=λp x hp=>bE p (hW.live p x hp).1
 refine⟨λp x hp=> ?_,λp q x y hp hq h=> ?_,λa v ha=>⟨(hW.ei a v ha).1,λp x hp=> ?_⟩,hW.whole⟩
 . obtain⟨h1,h2,h3⟩:=hW.live p x hp;rw[hl p x hp];exact⟨by rw[Pos.aF];exact Nat.lt_succ_of_lt h1,h2,h3.mono bE (by rw[Pos.aF];omega)⟩
 . rw[hl p x hp,hl q y hq]at h;exact hW.inj p q x y hp hq h
 . rw[hl p x hp];exact(hW.ei a v ha).2 p x hp
theorem pM.rng(hT:dy P tt)(hc:CK none bU call)(cV:iZ P C call)(mj:yq P tt C call)(hR:apa tt nt g o0 o1 o4 tR rest Tz bs)
   {CQ:Array Oper} {l2f:List bQ} {o2:Oper} {x:Operand} {ty kt et:TypeId} {i2:Nat} {bs2:List Nat} (h2:uw tt nt CQ CQ.toList bs2=some l2f) (u6:l2f.dropLast=g.l2)
   (Vv:CQ[g.l2.length]? =some o2) (rI:CQ.size=g.l2.length+1) (hop:o2.op= .range ty x) (CR:o2.guard=none) (hd2:o2.dst=some g.t17) (hx:uv x=some g.x) (apc:P.underlying ty=some (.map kt et))
   (OX:key g.t18∈g.ds/\key g.t19∈g.ds):pM P C nt (.seq (.region i2 CQ false) (.block b0 (.loop (akW g o0 o1 tR rest i3 i4 b0 b1)))) (akV bU m g):=by
 intro fr bH st st' e ρ a w Q h hS hQ;unfold akV at h;rw[Yj none hc]at h;unfold uA at h;split at h<;>first|(cases h;done)|skip
 rename_i y hy;simp only[agK]at h;unfold uA at h;split at h<;>first|(cases h;done)|skip
 rename_i v hv;dsimp only at h;split at h<;>first|(cases h;done)|skip
 rename_i b;simp only[BX]at h;split at h<;>first|(cases h;done)|skip
 rename_i es clock hb;split at h<;>first|(cases h;done)|skip
 rename_i dV;simp only[ajD,om,Rq]at h;apply wp_seq;apply wp_region;rw[rI,Zf9];apply M8;rw[Zm6];refine CI (nt:=nt) hT cV g.l2 0 fr y.1 st y.2 ρ a w (λi ao hi=> ?_) hy hS λa2 w2 hp=> ?_
 . rw[<-u6,List.getElem?_dropLast]at hi;(split at hi<;>first|(cases hi;done)|skip);obtain⟨o,k1,k2,_⟩:=Rb h2 i ao hi;exact⟨o,by rw[Zb6];exact k1,k2⟩
 obtain⟨uX,S2,k1,k2,E2⟩:=hp;obtain⟨hbn,VC⟩:=(Bs hx S2.F hv).BV;obtain⟨g1,g2,es',q1,q2,q3⟩:=S2.W.live b _ hb;obtain⟨Pe,hf3⟩:∃f,f=(clr g.ds y.1).put (some (.ptr y.2.next 0)) (key g.t17):=⟨_,rfl⟩
 rw[<-hf3]at h;obtain⟨EM,Gx⟩:∃s:St,s=⟨y.2.heap,y.2.next.succ⟩:=⟨_,rfl⟩
 rw[<-Gx]at h;have n18:key g.t17≠key g.t18:=λe=>hR.ne.1 (by have:=congrArg Pos.toNat e;rw[iQ,iQ]at this;omega)
 have n19:key g.t17≠key g.t19:=λe=>hR.ne.2.1 (by have:=congrArg Pos.toNat e;rw[iQ,iQ]at this;omega)
 have key:∃(X:Bool->Fr×St) (act:Nat),X false=(Pe,EM)/\e= .normal/\X true=(bH,st')/\(∀e∈es,(e.2.2=act->Mv bU m g (X false) (X true) e)/\(e.2.2≠act->∀f,Mv bU m g (X f) (X f) e))/\
     (∀f,(X f).1.get (key g.t17)=some (.ptr y.2.next 0)/\(X f).2.heap.get b=some (.map es clock)/\(X f).1.get (key g.t18)=none/\(X f).1.get (key g.t19)=none)/\((∃e∈es,e.2.2=act)\/X false=X true):=by
   have hX0:Pe.get (key g.t17)=some (.ptr y.2.next 0)/\EM.heap.get b=some (.map es clock)/\Pe.get (key g.t18)=none/\Pe.get (key g.t19)=none:=by
     rw[hf3,Gx,T.gH,T.bX _ n18,T.bX _ n19];exact⟨rfl,hb,La _ _ _ (.inl OX.1),La _ _ _ (.inl OX.2)⟩
   split at h
   . (rename_i agT;simp only[H5,Zc9]at h;obtain⟨rfl,rfl,rfl⟩:=h;have hid:∀e∈es,Mv bU m g (Pe,EM) (Pe,EM) e:=λe he=>adq (by rw[List.filter_eq_nil_iff]at agT;have:=agT e he;simpa using this));exact⟨λ_=>(Pe,EM),0,rfl,rfl,rfl,λe he=>⟨λ_=>hid e he,λ_ _=>hid e he⟩,λ_=>hX0,.inr rfl⟩
   . (rename_i e1 agT;(split at h<;>first|(cases h;done)|skip);rename_i f1 s1 hr1;(split at h<;>first|(cases h;done)|skip);rename_i y1 v1 Vm hv1;(split at h<;>first|(cases h;done)|skip);rename_i pF;simp only[H5,Zc9]at h;obtain⟨rfl,rfl,rfl⟩:=h;simp only[Zb5]at pF;obtain⟨⟨c1,c2⟩,c3⟩:=pF;have c1:=aaD c1;have c2:=yu c2;subst c1;subst c2;have yx:e1∈es:=by have:e1∈es.filter (λe=> !Ry bU m g Pe EM e):=(by rw[agT];simp);exact(Zm1.1 this).1);refine⟨λf=>if f then(clr g.ds f1,s1)else(Pe,EM),e1.2.2,rfl,rfl,rfl,λe he=>⟨λhb=> ?_,λhb f=> ?_⟩,λf=> ?_,.inl ⟨e1,yx,rfl⟩⟩
     .  obtain rfl:=born_inj (adp dV).2 e he e1 yx hb;exact⟨f1,s1,hr1,ado _ _,.inr rfl⟩
     .  cases f
        . refine adq ?_;cases hi:Ry bU m g Pe EM e
          . have:e∈es.filter (λe=> !Ry bU m g Pe EM e):=Zm1.2 ⟨he,by rw[hi];rfl⟩;rw[agT]at this;simp at this;exact(hb (by rw[this])).elim
          . rfl
        . refine adq ?_;have:=Zg9.1 c3 e he;simp only[Zj4]at this;exact this.resolve_left λh=>hb (Za6 h)
     .  cases f
        . exact hX0
        . exact⟨hv1,Vm,La _ _ _ (.inl OX.1),La _ _ _ (.inl OX.2)⟩
   . cases h
 obtain⟨X,act,x0,rfl,x1,hm,hX,apb⟩:=key;show wpOps P _ _ [g.l2.length] a2 w2
 refine BZ Vv CR (v:= .pointer (some ⟨w2.heap.size,0,none⟩)) (w':=w2.alloc (.mapIter (some (uX b).aM) clock #[] clock))
   (by simp[execOp,hop,VC,run_range_map (P:=P) w2 ty kt et (uX b).aM es' clock apc q1,Result.andThen]) ?_
 rw[hd2];show(Code.block b0 _).wp P Q _ _;apply wp_block;have hold:∀k,k<w2.heap.size->(w2.alloc (.mapIter (some (uX b).aM) clock #[] clock)).heap[k]? =w2.heap[k]? :=λk hk=>heap_alloc_old w2 _ hk
 have gR:(w2.alloc (.mapIter (some (uX b).aM) clock #[] clock)).heap.size=w2.heap.size+1:=by simp
 obtain⟨ρ3,h3,bE⟩:∃ρ3:Pos->Loc,ρ3 y.2.next=⟨w2.heap.size,0,0⟩/\∀p:Pos,p.toNat<y.2.next.toNat->ρ3 p=uX p:=
   ⟨λp=>if p=y.2.next then⟨w2.heap.size,0,0⟩else uX p,Zb3 rfl,λp hp=>Za7 λe=>by subst e;omega⟩
 have hW3:cq ρ3 C EM (w2.alloc (.mapIter (some (uX b).aM) clock #[] clock)):=by rw[Gx];exact(S2.W.slot bE).grow (by omega) hold
 have VF:EM.next.toNat=y.2.next.toNat+1:=by rw[Gx];exact Pos.aF _
 have hF3:kV ρ3 EM.next.toNat C Pe (a2.put (some g.t17) (.pointer (some ⟨w2.heap.size,0,none⟩))).tmps:=by rw[hf3];refine kV.put (nt:=nt) (d:=some g.t17) ((S2.F.sub (ado _ _)).mono bE (by omega)) S2.size (λ_ h=>by cases h;exact hR.lt.1) ?_;have:=aC.ptr (ρ:=ρ3) (C:=C) y.2.next 0 (n:=EM.next.toNat) (by omega);rw[h3]at this;exact this
 refine wp_loop_rounds (es.length+1) (LI.rounds (m:=m) (nS:=uX) (VM:=y.2) (w0:=w2) (r:=w2.heap.size) hT hc cV mj hR dV hm hX apb (λa' w' hp=> ?_) (es.length+1) #[] ρ3 _ _
   (Nat.lt_succ_of_le (Zm3 ..)) ?_)
 . rw[x1]at hp;simp only[Exit.inBlock,Zh5];exact hQ a' w' (kJ.trans k1 k2 E2 hp)
 . have:X ((#[]:Array Nat).contains act)=(Pe,EM):=(by simpa using x0);rw[this];refine⟨⟨hW3,hF3,by rw[Act.j9];exact S2.size,by rw[Act.mF];exact S2.defers⟩,bE,by show y.2.next.toNat<=EM.next.toNat;omega,
     ⟨rfl,rfl,rfl,by rw[gR];omega,λk hk _=>hold k hk,λp x hp=> .inl ⟨p,x,by rw[Gx]at hp;exact hp,by
        rw[Gx]at hp;rw[bE p (S2.W.live p x hp).1]⟩⟩,⟨by rw[h3],by rw[h3],by show _<EM.next.toNat;omega⟩,x0 ▸(hX false).1,x0 ▸(hX false).2.1,⟨clock,?_,Za3 _⟩,λp x hp=> ?_,Za3 _,x0 ▸(hX false).2.2⟩
   . rw[bE b g1];exact heap_alloc_new w2 _
   . rw[Gx]at hp;obtain⟨l1,l2,_⟩:=S2.W.live p x hp;rw[bE p l1];omega
end
end
def xfn(ex:Fr->St->XR)(np:Nat)(rs:List OL)(args:List AV)(st:St):Option (AV×St):=match Nat.beq args.length np with
 |  true=>match OQ args 0 .e λfr=>ex fr st with
    |some (.exit _,_,_)=>none
    |some (_,fr,st')=>match gQ (λb=>Br b st'.heap) fr rs,Nat.ble st.next.toNat st'.next.toNat with
     |some vs,true=>some (zi vs,st')
     |_,_=>none
    |none=>none
 |false=>none
section
variable{P : Program}{tt : TT}{C : Cells}
theorem att(hT:dy P tt){f np:Nat}{fn:Func}{c:Code}{ex:Fr->St->XR}{rs:List OL}(hf:P.funcs[f]? =some fn)(qd:(fn.name== "runtime.NumGoroutine")=false)(hb:fn.body=some c)
  (hx:pM P C fn.ntmps c ex) (hr:qH tt fn.results.toList=some rs) (hle:np<=fn.ntmps):tQ P C f (xfn ex np rs) where
 mono args st v st' h:=by
  unfold xfn at h;split at h<;>first|(cases h;done)|skip
  split at h<;>first|(cases h;done)|skip
  split at h<;>first|(cases h;done)|skip
  rename_i hn;cases h;exact Zb4 hn
 runs ρ st w args v st' cM h hW xK:=by
  unfold xfn at h;split at h<;>first|(cases h;done)|skip
  rename_i hlen;have hlen:=Za6 hlen;rw[Rs]at h;split at h<;>first|(cases h;done)|skip
  rename_i e eZ bD dJ h1;split at h<;>first|(cases h;done)|skip
  rename_i vs CA _;simp only[H5,Zc9]at h;obtain⟨rfl,rfl⟩:=h;have dP:(callFunc f cM.toArray).run P w= .ok (.enter f cM.toArray) w:=by
   have agD:¬fn.name= "runtime.NumGoroutine" :=(by simpa using qd);simp[callFunc,hf,agD,hb]
  rw[dP];simp only[Reaches];refine calls_of_wp hf hb ?_;have gR:cM.length<=fn.ntmps:=by rw[<-xK.1,hlen];exact hle
  have hS:yp fn.ntmps ρ C (params 0 args .e) st { tmps:=cM.toArray++Array.replicate (fn.ntmps - cM.toArray.size) undef,defers:=[] } w:=by
   refine⟨hW,?_,?_,rfl⟩
   .    refine Rc args cM 0 .e xK (λj x hx=> ?_) (λp v hp=>by rw[T.dO]at hp;cases hp);have hj:j<cM.length:=(Za2.1 hx).1;rw[Zb6,Zp7 (by simpa using hj)];simpa using hx
   .    simp;omega
  refine hx _ eZ st bD e ρ _ w _ h1 hS λa' w' hp=> ?_
  obtain⟨jX,zE,k1,k2,k3⟩:=hp;simp only[BX]at CA;obtain⟨y,Vm,hy2⟩:=Ih hT zE.W zE.F hr CA;cases e with
  |exit id=>exact(dJ id rfl).elim
  |normal=>exact⟨zE.defers,y,Vm,jX,hy2,k1,k2,zE.W,k3⟩
  |ret=>exact⟨zE.defers,y,Vm,jX,hy2,k1,k2,zE.W,k3⟩
def idxS:List AV->St->Option (AV×St)
 |[.str a,.int .u8 c],st=>some (.int .i64 (Lib.indexByte (a.map UInt8.ofNat) c.toNat.toUInt8),st)
 |_,_=>none
def akY:List AV->St->Option (AV×St)
 |[.str a,.int .u8 c],st=>some (.int .i64 (Lib.countByte (a.map UInt8.ofNat) c.toNat.toUInt8),st)
 |_,_=>none
theorem amO{bs:ByteArray}{a:List Nat}(h:bs.data.toList.map UInt8.toNat=a):a.map UInt8.ofNat=bs.data.toList:=by
 rw[<-h,Zh8];have:(UInt8.ofNat∘UInt8.toNat)=id:=by funext c;simp
 rw[this,Zr9]
theorem aey{f:FuncId}{fn:Func}{s:List AV->St->Option (AV×St)}{X:List UInt8->UInt8->Int}{e:Array Value->Sem Value}(hs:∀args st,s args st=match args with
   |[.str a,.int .u8 c]=>some (.int .i64 (X (a.map UInt8.ofNat) c.toNat.toUInt8),st)
   |_=>none)
  (hr:∀(b:ByteArray)(c:Int)(w:World),(e #[.string b,.int .u8 c]).run P w= .ok (.int .i64 (X b.data.toList c.toNat.toUInt8)) w)
  (hf:P.funcs[f]? =some fn) (qd:(fn.name== "runtime.NumGoroutine")=false) (hb:fn.body.isNone=true) (hx:Extern.findNext fn=none) (he:Extern.find fn=some e):tQ P C f s where
 mono args st v st' h:=by rw[hs]at h;split at h<;>cases h;exact Za3 _
 runs ρ st w args v st' cM h hW hv:=by
  rw[hs]at h;split at h<;>cases h;rename_i a c;obtain⟨x,xs,rfl,h1,h2⟩:=hv.cons_inv;obtain⟨y,ys,rfl,h3,h4⟩:=h2.cons_inv;have:=h4.qy;subst this;obtain⟨b,rfl,eN⟩:=h1.fu;have:=h3.iM;subst this;have dP:(callFunc f [Value.string b,Value.int .u8 c].toArray).run P w= .ok (.value (.int .i64 (X b.data.toList c.toNat.toUInt8))) w:=by rw[run_callFunc_extern hf qd hb hx he];show((e #[.string b,.int .u8 c]).run P w).andThen _=_;rw[hr];rfl
  rw[dP];refine⟨ρ,?_,λ_ _=>rfl,Za3 _,hW,qm.refl _ _ _⟩;rw[amO eN];exact .int _ _
theorem apd{f:FuncId}{fn:Func}(hf:P.funcs[f]? =some fn)(qd:(fn.name== "runtime.NumGoroutine")=false)(hb:fn.body.isNone=true)(hx:Extern.findNext fn=none)
  (he:Extern.find fn=some Extern.BytealgIndexByte.indexByte):tQ P C f idxS:=
 aey (X:=Lib.indexByte) (λargs st=>by unfold idxS;split<;>first|rfl|(split<;>first|rfl|simp_all)) (λb c w=>Lib.run_indexByteString b c w) hf qd hb hx he
theorem ape{f:FuncId}{fn:Func}(hf:P.funcs[f]? =some fn)(qd:(fn.name== "runtime.NumGoroutine")=false)(hb:fn.body.isNone=true)(hx:Extern.findNext fn=none)
  (he:Extern.find fn=some Extern.BytealgCount.count):tQ P C f akY:=
 aey (X:=λl c=>Lib.countByte l c) (λargs st=>by unfold akY;split<;>first|rfl|(split<;>first|rfl|simp_all)) (λb c w=>Lib.run_countString b c w) hf qd hb hx he
end
def Rz:Code->List Nat
 | .region _ ops _=>ops.toList.filterMap (·.dst)
 | .seq a b=>Rz a++Rz b
 | .cond _ a b=>Rz a++Rz b
 | .block _ a=>Rz a
 | .loop a=>Rz a
 |_=>[]
def ard (tt :TT)(nt:Nat)(ds:List Nat)(b0 b0' t19:Nat)(o2 o0 o1 o4:Oper)(l2f Tz:List bQ)(body:AC):Option (RG×Nat):=
 match o2.op,o0.op,o1.op,o4.op with
 |  .range ty x,.next (.tmp a0) false,.extract (.tmp a1) 0,.entry (.tmp a4)=>match o2.dst,o0.dst,o1.dst,o4.dst with
    |some t17,some t18,some c,some t20=>match o2.guard,o0.guard,o1.guard,o4.guard with
     |  none,none,none,none=>match uv x with
        |some xo=>match Nat.beq a0 t17&&Nat.beq a1 t18&&Nat.beq a4 t17&&Nat.beq c t19&&Nat.beq b0 b0'&&Nat.blt t17 nt&&Nat.blt t18 nt&&Nat.blt t19 nt&&Nat.blt t20 nt&&
            !Nat.beq t17 t18&& !Nat.beq t17 t19&& !Nat.beq t18 t19 with
         |true=>some (⟨t17,t18,t19,t20,l2f.dropLast,xo,Tz.tail,body,key t18::key t19::ds.map key⟩,ty)
         |false=>none
        |_=>none
     |_,_,_,_=>none
    |_,_,_,_=>none
 |_,_,_,_=>none
def agU (tt:TT)(nt:Nat):Code->Option (RG×Nat)
 |  .seq (.region _ CQ false) (.block b0 (.loop (.seq (.region _ ⟨[o0,o1]⟩ false) (.seq (.cond (.tmp t19) .skip (.exit b0')) (.block _ (.seq (.region _ tR false) rest))))))=>
    match CQ[CQ.size - 1]?,tR[0]? with
    |some o2,some o4=>match uw tt nt CQ CQ.toList [],uw tt nt tR tR.toList []with
     |  some l2f,some Tz=>match vt tt nt rest with
        |some body=>ard tt nt (tR.toList.filterMap (·.dst)++Rz rest) b0 b0' t19 o2 o0 o1 o4 l2f Tz body
        |none=>none
     |_,_=>none
    |_,_=>none
 |_=>none
section
variable{P : Program}{tt : TT}{C : Cells}{bU : sN XR}{call : aj}{nt m : Nat}
theorem pM.agU(hT:dy P tt)(hc:CK none bU call)(cV:iZ P C call)(mj:yq P tt C call){c:Code}{g:RG}{ty:Nat}(h:agU tt nt c=some (g,ty))
  {kt et:TypeId} (apc:P.underlying ty=some (.map kt et)):pM P C nt c (akV bU m g):=by
 unfold Go.Ai.agU at h;split at h<;>first|(cases h;done)|skip
 rename_i i2 CQ b0 i3 o0 o1 t19 b0' b1 i4 tR rest;split at h<;>first|(cases h;done)|skip
 rename_i o2 o4 Vv ho4;split at h<;>first|(cases h;done)|skip
 rename_i l2f Tz u6 hl4;split at h<;>first|(cases h;done)|skip
 rename_i body akZ;unfold ard at h;split at h<;>first|(cases h;done)|skip
 rename_i ty' x a0 a1 a4 p2 p0 p1 p4;split at h<;>first|(cases h;done)|skip
 rename_i t17 t18 c t20 d2 d0 d1 d4;split at h<;>first|(cases h;done)|skip
 rename_i g2 g0 g1 g4;split at h<;>first|(cases h;done)|skip
 rename_i xo hxo;split at h<;>first|(cases h;done)|skip
 rename_i hb;simp only[H5,Zc9]at h;obtain⟨rfl,rfl⟩:=h;simp only[Zb5,Zk5,Nat.beq_eq,Zr1]at hb;obtain⟨⟨⟨⟨⟨⟨⟨⟨⟨⟨⟨rfl,rfl⟩,rfl⟩,rfl⟩,rfl⟩,l17⟩,l18⟩,l19⟩,l20⟩,n1⟩,n2⟩,n3⟩:=hb;have hs:l2f.length=CQ.size:=(wR u6).1.trans (Zi7 ..);have h0:0<CQ.size:=by have:=(Zd1.1 Vv).1;omega
 exact pM.rng hT hc cV mj (i3:=i3) (i4:=i4) (b1:=b1) ⟨⟨p0,g0,d0⟩,⟨p1,g1,d1⟩,⟨ho4,p4,g4,d4⟩,⟨l17,l18,l19,l20⟩,⟨Zf0 n1,Zf0 n2,Zf0 n3⟩,hl4,rfl,akZ⟩ u6 rfl
  (by rw[List.length_dropLast,hs];exact Vv) (by show CQ.size=l2f.dropLast.length+1;rw[List.length_dropLast,hs];omega) p2 g2 d2 hxo apc ⟨by simp,by simp⟩
def VN:Code->Bool
 | .region _ ops _=>ops.toList.any λo=>match o.op with| .range _ _=>true|_=>false
 | .seq a b=>VN a||VN b
 | .cond _ a b=>VN a||VN b
 | .block _ a=>VN a
 | .loop a=>VN a
 |_=>false
def spX (P:Program)(tt:TT)(bU:sN XR)(m nt:Nat):Code->Fr->St->XR
 |  .seq a b=>match Go.Ai.agU tt nt (.seq a b)with
    |some (g,ty)=>match P.underlying ty with
     |some (.map _ _)=>akV bU m g
     |_=>λ_ _=>none
    |none=>match VN a||VN b with
     |true=>ao9 (spX P tt bU m nt a) (spX P tt bU m nt b)
     |  false=>match vt tt nt (.seq a b)with
        |some ac=>exK bU m ac
        |none=>λ_ _=>none
 |  c=>match vt tt nt c with
    |some ac=>exK bU m ac
    |none=>λ_ _=>none
theorem pM.no{c:Code}:pM P C nt c (λ_ _=>none):=λ_ _ _ _ _ _ _ _ _ h=>by cases h
theorem pM.spX(hT:dy P tt)(hc:CK none bU call)(cV:iZ P C call)(mj:yq P tt C call):∀c:Code,pM P C nt c (spX P tt bU m nt c):=by
 intro c;induction c with
 |seq   a b iha ihb=>
  unfold Go.Ai.spX;split
  . split
    .   rename_i h _ _ _ hu;exact .agU hT hc cV mj h hu
    .   exact .no
  . split
    .   exact iha.seq ihb
    .   split
        . exact .ac hT hc cV mj (by assumption)
        . exact .no
 |_=>
  unfold Go.Ai.spX;split
  . exact .ac hT hc cV mj (by assumption)
  . exact .no
def af2(P:Program)(tt:TT)(O:eP)(G:T dN)(m d:Nat)(fn:Func):List AV->St->Option (AV×St):=
 match fn.body,qH tt fn.results.toList,Nat.ble (fn.params.size+fn.nfree) fn.ntmps with
 |some c,some rs,true=>xfn (spX P tt (MJ none O G m d) m fn.ntmps c) (fn.params.size+fn.nfree) rs
 |_,_,_=>λ_ _=>none
theorem apf(hm:P.follows .mixedOrders=true)(hT:dy P tt){O:eP}{G:T dN}(hO:vz P C O)(VH:oI O)(hG:GOk P tt G){f d:Nat}{fn:Func}(hf:P.funcs[f]? =some fn)
   (qd:(fn.name== "runtime.NumGoroutine")=false):tQ P C f (af2 P tt O G m d fn):=by
 have cV:=CO (C:=C) hm hT hO VH hG m d;have hcm:=CL (G:=G) VH m d;have key:∀c rs,fn.body=some c->qH tt fn.results.toList=some rs->Nat.ble (fn.params.size+fn.nfree) fn.ntmps=true->tQ P C f (xfn (spX P tt (MJ none O G m d) m fn.ntmps c) (fn.params.size+fn.nfree) rs):=
   λc rs hb hr hle=>att hT hf qd hb (.spX hT (FB none O G m d) cV (Rn hm hT cV hcm) c) hr (Zb4 hle)
 unfold af2;split
 . exact key _ _ (by assumption) (by assumption) (by assumption)
 . exact⟨λ_ _ _ _ h=>(by cases h),λ_ _ _ _ _ _ _ h=>(by cases h)⟩
end
end
noncomputable section
open Go
inductive Sh where
 |leaf
 |seq (jn:Option (List Pos)) (a b:Sh)
 |cond (a b:Sh)
 |block (a:Sh)
 |loop (j:Nat) (ins:List Pos) (outs:List (Nat×List Pos)) (a:Sh)
variable{R : Type}
abbrev LpK(R:Type):=Nat->List AV->St->Option R
abbrev Env(R:Type):=Nat->LpK R->Nat->List AV->St->Option R
def gY(l:List AV)(k:AV->List AV->Option R):Option R:=match l with
 |v::vs=>k v vs
 |[]=>none
def mz(l:List AV)(k:Option R):Option R:=match l with
 |[]=>k
 |_::_=>none
def aq(c:aj)(k:aG)(xs:List AV)(st:St)(K:AV->St->Option R):Option R:=match cH c k xs st with
 |some (v,st')=>K v st'
 |none=>none
def pN(c:aj)(g:AV)(want:Bool)(k:aG)(xs:List AV)(st:St)(K:AV->St->Option R):Option R:=match g with
 |  .bool b=>match b==want with
    |true=>aq c k xs st K
    |false=>K .undef st
 | .tuple _=>K .undef st
 |_=>none
def fh(k:aG)(xs:List AV)(K:AV->Option R):Option R:=match k.run (λ_=>none) .h xs with
 |some (.val v)=>K v
 |_=>none
def ZI(g:AV)(want:Bool)(k:aG)(xs:List AV)(K:AV->Option R):Option R:=match g with
 |  .bool b=>match b==want with
    |true=>fh k xs K
    |false=>K .undef
 | .tuple _=>K .undef
 |_=>none
def jx(k:aG)(xs:List AV)(h:T AB)(ok:AV->Bool)(K:AV->Option R):Option R:=match k.run (λ_=>none) .h xs with
 |some (.val v)=>K v
 |  _=>match k.run (λb=>h.get b) .h xs with
    |some (.val v)=>match ok v with
     |true=>K v
     |false=>none
    |_=>none
def ZJ(g:AV)(want:Bool)(k:aG)(xs:List AV)(h:T AB)(ok:AV->Bool)(K:AV->Option R):Option R:=match g with
 |  .bool b=>match b==want with
    |true=>jx k xs h ok K
    |false=>K .undef
 | .tuple _=>K .undef
 |_=>none
def TA(k:aG)(xs:List AV)(st:St)(K:AV->AB->Option R):Option R:=match k.run (λ_=>none) st.next xs with
 |some (.bk v none none (some aM))=>K v aM
 |_=>none
def ZK(g:AV)(want:Bool)(A B:Option R):Option R:=match g with
 |  .bool b=>match b==want with
    |true=>A
    |false=>B
 | .tuple _=>B
 |_=>none
def cnd(v:AV)(A B:Option R):Option R:=match v with
 | .bool true=>A
 | .bool false=>B
 |_=>none
def cL(f:(List AV->St->Option R)->Option R)(k:List AV->St->Option R):Option R:=f k
def aaG (c:aj):List bQ->Fr->St->(Fr->St->Option R)->Option R
 |[],fr,st,K=>K fr st
 |  o::os,fr,st,K=>match fS fr o.xs with
    |some xs=>match o.guard with
     |none=>aq c o.k xs st λv st=>aaG c os (eu fr o.dst v) st K
     |  some (p,want)=>match fr.get p with
        |some g=>pN c g want o.k xs st λv st=>aaG c os (eu fr o.dst v) st K
        |none=>none
    |none=>none
def qX (c:aj ):List (Nat×bQ)->List Rec->T AB->Fr->St->(Fr->St->Option R)->Option R
 |[],_,_,fr,st,K=>K fr st
 |  (j, o):: os,recs,base,fr,st,K=>match fS fr o.xs with
    | some xs=>match o.cls with
      | .pure=>match o.guard with
        |none=>fh o.k xs λv=>qX c os ({ idx:=j,o:=o,v:=v,c:= .pure,nx:=st.next }::recs) base (eu fr o.dst v) st K
        |some (p,want)=>match fr.get p with
         |some g=>ZI g want o.k xs λv=>qX c os ({ idx:=j,o:=o,v:=v,c:= .pure,nx:=st.next }::recs) base (eu fr o.dst v) st K
         |none=>none
      | .read=>match o.guard with
        |none=>jx o.k xs (snap o.bY base recs) (λv=>od o.bY o.k xs v [] recs) λv=>qX c os ({ idx:=j,o:=o,v:=v,c:= .pure,nx:=st.next }::recs) base (eu fr o.dst v) st K
        |some (p,want)=>match fr.get p with
         |some g=>ZJ g want o.k xs (snap o.bY base recs) (λv=>od o.bY o.k xs v [] recs) λv=>qX c os ({ idx:=j,o:=o,v:=v,c:= .pure,nx:=st.next }::recs) base (eu fr o.dst v) st K
         |none=>none
      | .new=>match o.guard with
        |none=>TA o.k xs st λv aM=>qX c os ({ idx:=j,o:=o,v:=v,c:= .new st.next aM,nx:=st.next.succ }::recs) base (eu fr o.dst v) { heap:=st.heap.put (some aM) st.next,next:=st.next.succ } K
        |some (p,want)=>match fr.get p with
         |some g=>ZK g want (TA o.k xs st λv aM=>qX c os ({ idx:=j,o:=o,v:=v,c:= .new st.next aM,nx:=st.next.succ }::recs) base (eu fr o.dst v) { heap:=st.heap.put (some aM) st.next,next:=st.next.succ } K)
             (qX c os ({ idx:=j,o:=o,v:= .undef,c:= .pure,nx:=st.next }::recs) base (eu fr o.dst .undef) st K)
         |none=>none
      | .bk=>match o.guard with
        |none=>aq c o.k xs st λv st'=>qX c os ({ idx:=j,o:=o,v:=v,c:= .bk base st'.heap,nx:=st'.next }::recs) st'.heap (eu fr o.dst v) st' K
        |some (p,want)=>match fr.get p with
         |some g=>ZK g want (aq c o.k xs st λv st'=>qX c os ({ idx:=j,o:=o,v:=v,c:= .bk base st'.heap,nx:=st'.next }::recs) st'.heap (eu fr o.dst v) st' K)
             (qX c os ({ idx:=j,o:=o,v:= .undef,c:= .pure,nx:=st.next }::recs) base (eu fr o.dst .undef) st K)
         |none=>none
    |none=>none
def VO:List Pos->Fr->(List AV->Option R)->Option R
 |[],_,k=>k []
 |  p::ps,fr,k=>match fr.get p with
    |some v=>VO ps fr λvs=>k (v::vs)
    |none=>none
def VP:List Pos->List AV->Fr->(Fr->Option R)->Option R
 |[],vs,fr,k=>mz vs (k fr)
 |p::ps,vs,fr,k=>gY vs λv vs=>VP ps vs (fr.put (some v) p) k
def Yn:List (Nat×List Pos)->Nat->List Pos
 |[],_=>[]
 |  (i,l)::r,e=>match Nat.beq i e with
    |true=>l
    |false=>Yn r e
def exOf:Nat->oH
 |0=> .normal
 |1=> .ret
 |n+2=> .exit n
def Pg(D:Fr->St->(oH->Fr->St->Option R)->Option R)(ins:List Pos)(outs:List (Nat×List Pos))(K':LpK R)(again:List AV->St->Option R)(vs:List AV)(st:St):Option R:=
 VP ins vs .e λfr=>D fr st λex fr st=>match ex with
    | .normal=>VO ins fr λvs=>again vs st
    | .exit i=>VO (Yn outs (i+2)) fr λos=>K' (i+2) os st
    | .ret=>VO (Yn outs 1) fr λos=>K' 1 os st
def knk(outs:List (Nat×List Pos))(K:oH->Fr->St->Option R):LpK R:=λe os st=>VP (Yn outs e) os .e λfr=>K (exOf e) fr st
def den (c:aj)(F:Nat)(L:Env R):AC->Sh->Fr->St->(oH->Fr->St->Option R)->Option R
 | .skip,_,fr,st,K=>K .normal fr st
 | .region ops,_,fr,st,K=>aaG c ops fr st (K .normal)
 | .draw ops,_,fr,st,K=>qX c ops [] st.heap fr st (K .normal)
 |  .seq a b,s,fr,st,K=>match s with
    | .seq none s t=>den c F L a s fr st λex fr st=>match ex with
      | .normal=>den c F L b t fr st K
      | .exit i=>K (.exit i) fr st
      | .ret=>K .ret fr st
    | .seq (some l) s t=>cL (λK'=>den c F L a s fr st λex fr st=>match ex with
      | .normal=>VO l fr λvs=>K' vs st
      | .exit i=>K (.exit i) fr st
      | .ret=>K .ret fr st) (λvs st=>VP l vs .e λfr=>den c F L b t fr st K)
    |_=>none
 |  .cond x a b,s,fr,st,K=>match s with
    | .cond s t=>match Gn fr x with
      |some v=>cnd v (den c F L a s fr st K) (den c F L b t fr st K)
      |none=>none
    |_=>none
 |  .block id a,s,fr,st,K=>match s with
    | .block s=>den c F L a s fr st λex fr st=>match ex with
      | .normal=>K .normal fr st
      | .exit i=>match Nat.beq i id with
        |true=>K .normal fr st
        |false=>K (.exit i) fr st
      | .ret=>K .ret fr st
    |_=>none
 |  .loop _,s,fr,st,K=>match s with
    | .loop j ins outs _=>VO ins fr λvs=>L j (knk outs K) F vs st
    |_=>none
 | .exit id,_,fr,st,K=>K (.exit id) fr st
 | .ret,_,fr,st,K=>K .ret fr st
def CS(c:aj)(F:Nat)(L:Env R)(a:AC):Sh->Prop
 | .loop j ins outs s=>∀K',(∀vs st,L j K' 0 vs st=none)/\∀n vs st,L j K' (n+1) vs st=Pg (den c F L a s) ins outs K' (L j K' n) vs st
 |_=>False
def zS(c:aj)(F:Nat)(L:Env R):AC->Sh->Prop
 |  .seq a b,s=>match s with
    | .seq _ s t=>zS c F L a s/\zS c F L b t
    |_=>True
 |  .cond _ a b,s=>match s with
    | .cond s t=>zS c F L a s/\zS c F L b t
    |_=>True
 |  .block _ a,s=>match s with
    | .block s=>zS c F L a s
    |_=>True
 |  .loop a,s=>match s with
    | .loop j ins outs s=>CS c F L a (.loop j ins outs s)/\zS c F L a s
    |_=>True
 |_,_=>True
def fP:AC->Sh->List (AC×Sh)
 |  .seq a b,s=>match s with
    | .seq _ s t=>fP a s++fP b t
    |_=>[]
 |  .cond _ a b,s=>match s with
    | .cond s t=>fP a s++fP b t
    |_=>[]
 |  .block _ a,s=>match s with
    | .block s=>fP a s
    |_=>[]
 |  .loop a,s=>match s with
    | .loop j ins outs s=>(a,.loop j ins outs s)::fP a s
    |_=>[]
 |_,_=>[]
theorem FD{c:aj}{F:Nat}{L:Env R}:∀(a:AC)(s:Sh),(∀x∈fP a s,CS c F L x.1 x.2)->zS c F L a s
 | .skip,_,_=>trivial
 | .region _,_,_=>trivial
 | .draw _,_,_=>trivial
 | .exit _,_,_=>trivial
 | .ret,_,_=>trivial
 | .seq a b,s,h=>by
   cases s<;>simp only[zS]<;>simp only[fP,Zd8]at h;exact⟨FD a _ λx hx=>h x (.inl hx),FD b _ λx hx=>h x (.inr hx)⟩
 | .cond x a b,s,h=>by
   cases s<;>simp only[zS]<;>simp only[fP,Zd8]at h;exact⟨FD a _ λx hx=>h x (.inl hx),FD b _ λx hx=>h x (.inr hx)⟩
 | .block id a,s,h=>by cases s<;>simp only[zS]<;>simp only[fP]at h;exact FD a _ h
 | .loop a,s,h=>by
   cases s<;>simp only[zS]<;>simp only[fP,Zb0]at h;exact⟨h _ (.inl rfl),FD a _ λx hx=>h x (.inr hx)⟩
def Sub(a b:Fr):Prop:=∀p v,a.get p=some v->b.get p=some v
theorem Sub.refl(a:Fr):Sub a a:=λ_ _ h=>h
theorem Sub.put{a b:Fr}(h:Sub a b)(p:Pos)(v:AV):Sub (a.put (some v) p) (b.put (some v) p):=λq u hq=>by
 by_cases e:p=q
 . subst e;rw[T.gH]at hq ⊢; exact hq
 . rw[T.bX _ e]at hq ⊢; exact h _ _ hq
theorem Sub.dst{a b:Fr}(h:Sub a b)(d:Option Pos)(v:AV):Sub (eu a d v) (eu b d v):=by
 cases d with
 |none=>exact h
 |some p=>exact h.put p v
theorem Sub.ev{a b:Fr}(h:Sub a b){x:ic}{v:AV}(e:Gn a x=some v):Gn b x=some v:=by
 cases x with
 |t p=>exact h _ _ e
 |c v=>exact e
theorem Sub.evs{a b:Fr}(h:Sub a b):∀{xs:List ic}{vs:List AV},fS a xs=some vs->fS b xs=some vs
 |[],_,e=>e
 |x::xs,vs,e=>by
  unfold fS at e ⊢;cases hx:Gn a x with
  |none=>simp[hx]at e
  |some v=>
   simp only[hx]at e;cases hs:fS a xs with
   |none=>simp[hs]at e
   |some us=>simp only[hs]at e;simp only[h.ev hx,h.evs hs];exact e
theorem RA {c:aj}:∀(os:List bQ){fr fU:Fr}{st:St}{K:Fr->St->Option R}{r:R},Sub fr fU->aaG c os fr st K=some r->
  ∃bH dW st',mH c os fU st=some (dW,st')/\Sub bH dW/\K bH st'=some r
 |[],fr,fU,st,K,r,hs,h=>⟨fr,fU,st,rfl,hs,h⟩
 |o::os,fr,fU,st,K,r,hs,h=>by
  unfold aaG at h;cases hx:fS fr o.xs with
  |none=>simp[hx]at h
  |some xs=>
   simp only[hx]at h;have hstp:∀{st},aq c o.k xs st (λv st=>aaG c os (eu fr o.dst v) st K)=some r->cK fU o.guard=some true->∃bH dW st',mH c (o::os) fU st=some (dW,st')/\Sub bH dW/\K bH st'=some r:=λ{st} h hw=>by
        unfold aq at h;cases fT:cH c o.k xs st with
        |none=>simp[fT]at h
        |some p=>
         simp only[fT]at h;obtain⟨bH,dW,st',h1,h2⟩:=RA os (hs.dst o.dst p.1) h;exact⟨bH,dW,st',by unfold mH;simp only[hw,hs.evs hx,fT];exact h1,h2⟩
   have VQ:∀{st},aaG c os (eu fr o.dst .undef) st K=some r->cK fU o.guard=some false->∃bH dW st',mH c (o::os) fU st=some (dW,st')/\Sub bH dW/\K bH st'=some r:=λ{st} h hw=>by
        obtain⟨bH,dW,st',h1,h2⟩:=RA os (hs.dst o.dst .undef) h;exact⟨bH,dW,st',by unfold mH;simp only[hw];exact h1,h2⟩
   cases hg:o.guard with
   |none=>simp only[hg]at h;exact hstp h (by rw[hg];rfl)
   |    some pw=>
        obtain⟨p,want⟩:=pw;simp only[hg]at h;cases hp:fr.get p with
        |none=>simp[hp]at h
        |some g=>
         simp only[hp]at h;have B4:=hs _ _ hp;unfold pN at h;split at h
         .  rename_i b;split at h
            . rename_i hb;exact hstp h (by rw[hg];simp[cK,B4,hb])
            . rename_i hb;exact VQ h (by rw[hg];simp[cK,B4,hb])
         .  exact VQ h (by rw[hg];simp[cK,B4])
         .  cases h
theorem ZL {c : aj}:∀(os:List (Nat×bQ))(recs:List Rec)(base:T AB){fr fU:Fr}{st:St}{K:Fr->St->Option R}{r:R},Sub fr fU->qX c os recs base fr st K=some r->
  ∃bH dW st',dY c os recs base fU st=some (dW,st')/\Sub bH dW/\K bH st'=some r
 |[],_,_,fr,fU,st,K,r,hs,h=>⟨fr,fU,st,rfl,hs,h⟩
 |(j,   o)::  os, recs,base,fr,fU,st,K,r,hs,h=>by
  have ih:=λrecs base {fr fU:Fr}{st:St}{K:Fr->St->Option R}{r:R}=>ZL (c:=c) os recs base (fr:=fr) (fU:=fU) (st:=st) (K:=K) (r:=r)
  unfold qX at h;cases hx:fS fr o.xs with
  |none=>simp[hx]at h
  | some xs   =>
    simp only[hx]at h;have hxx:=hs.evs hx;have VQ:∀{st},qX c os ({ idx:=j,o:=o,v:= .undef,c:= .pure,nx:=st.next }::recs) base (eu fr o.dst .undef) st K=some r->cK fU o.guard=some false->∃bH dW st',dY c ((j,o)::os) recs base fU st=some (dW,st')/\Sub bH dW/\K bH st'=some r:=λ{st} h hw=>by
        obtain⟨bH,dW,st',h1,h2⟩:=ih _ _ (hs.dst o.dst .undef) h;exact⟨bH,dW,st',by unfold dY;simp only[hw];exact h1,h2⟩
    cases hc:o.cls with
    |   pure=>
        simp only[hc]at h;have VR:fh o.k xs (λv=>qX c os ({ idx:=j,o:=o,v:=v,c:= .pure,nx:=st.next }::recs) base (eu fr o.dst v) st K)=some r->cK fU o.guard=some true->∃bH dW st',dY c ((j,o)::os) recs base fU st=some (dW,st')/\Sub bH dW/\K bH st'=some r:=λh hw=>by
         unfold fh at h;split at h
         .  rename_i v hv;obtain⟨bH,dW,st',h1,h2⟩:=ih _ _ (hs.dst o.dst v) h;exact⟨bH,dW,st',by unfold dY;simp only[hw,hxx,hc,hv];exact h1,h2⟩
         .  cases h
        cases hg:o.guard with
        |none=>simp only[hg]at h;exact VR h (by rw[hg];rfl)
        |some pw=>
         obtain⟨p,want⟩:=pw;simp only[hg]at h;cases hp:fr.get p with
         |none=>simp[hp]at h
         |  some g=>
            simp only[hp]at h;have B4:=hs _ _ hp;unfold ZI at h;split at h
            . split at h
              . rename_i hb;exact VR h (by rw[hg];simp[cK,B4,hb])
              . rename_i hb;exact VQ h (by rw[hg];simp[cK,B4,hb])
            . exact VQ h (by rw[hg];simp[cK,B4])
            . cases h
    |   read=>
        simp only[hc]at h;have VR : jx o.k xs (snap o.bY base recs) (λv=>od o.bY o.k xs v [] recs) (λv=>qX c os ({ idx:=j,o:=o,v:=v,c:= .pure,nx:=st.next }::recs) base (eu fr o.dst v) st K)=some r->cK fU o.guard=some true->∃bH dW st',dY c ((j,o)::os) recs base fU st=some (dW,st')/\Sub bH dW/\K bH st'=some r:=λh hw=>by
         unfold jx at h;split at h
         .  rename_i v hv;obtain⟨bH,dW,st',h1,h2⟩:=ih _ _ (hs.dst o.dst v) h;exact⟨bH,dW,st',by unfold dY;simp only[hw,hxx,hc,hv];exact h1,h2⟩
         .  rename_i nQ;split at h
            . rename_i v hv;split at h
              . rename_i cG;obtain⟨bH,dW,st',h1,h2⟩:=ih _ _ (hs.dst o.dst v) h;refine⟨bH,dW,st',?_,h2⟩;unfold dY;simp only[hw,hxx,hc];cases hr:o.k.run (λ_=>none) .h xs with
                |none=>simp only[hv,cG];exact h1
                | some x=>cases x with
                  |val u=>exact absurd hr (nQ u)
                  |bk v d e n=>simp only[hv,cG];exact h1
                  |call f xs=>simp only[hv,cG];exact h1
              . cases h
            . cases h
        cases hg:o.guard with
        |none=>simp only[hg]at h;exact VR h (by rw[hg];rfl)
        |some pw=>
         obtain⟨p,want⟩:=pw;simp only[hg]at h;cases hp:fr.get p with
         |none=>simp[hp]at h
         |  some g=>
            simp only[hp]at h;have B4:=hs _ _ hp;unfold ZJ at h;split at h
            . split at h
              . rename_i hb;exact VR h (by rw[hg];simp[cK,B4,hb])
              . rename_i hb;exact VQ h (by rw[hg];simp[cK,B4,hb])
            . exact VQ h (by rw[hg];simp[cK,B4])
            . cases h
    |   new =>
        simp only[hc]at h;have VR:TA o.k xs st (λv aM=>qX c os ({ idx:=j,o:=o,v:=v,c:= .new st.next aM,nx:=st.next.succ }::recs) base (eu fr o.dst v) { heap:=st.heap.put (some aM) st.next,next:=st.next.succ } K)=some r->cK fU o.guard=some true->∃bH dW st',dY c ((j,o)::os) recs base fU st=some (dW,st')/\Sub bH dW/\K bH st'=some r:=λh hw=>by
         unfold TA at h;split at h
         .  rename_i v aM hv;obtain⟨bH,dW,st',h1,h2⟩:=ih _ _ (hs.dst o.dst v) h;exact⟨bH,dW,st',by unfold dY;simp only[hw,hxx,hc,hv];exact h1,h2⟩
         .  cases h
        cases hg:o.guard with
        |none=>simp only[hg]at h;exact VR h (by rw[hg];rfl)
        |some pw=>
         obtain⟨p,want⟩:=pw;simp only[hg]at h;cases hp:fr.get p with
         |none=>simp[hp]at h
         |  some g=>
            simp only[hp]at h;have B4:=hs _ _ hp;unfold ZK at h;split at h
            . split at h
              . rename_i hb;exact VR h (by rw[hg];simp[cK,B4,hb])
              . rename_i hb;exact VQ h (by rw[hg];simp[cK,B4,hb])
            . exact VQ h (by rw[hg];simp[cK,B4])
            . cases h
    |   bk=>
        simp only[hc]at h;have VR:aq c o.k xs st (λv st'=>qX c os ({ idx:=j,o:=o,v:=v,c:= .bk base st'.heap,nx:=st'.next }::recs) st'.heap (eu fr o.dst v) st' K)=some r->cK fU o.guard=some true->∃bH dW st',dY c ((j,o)::os) recs base fU st=some (dW,st')/\Sub bH dW/\K bH st'=some r:=λh hw=>by
         unfold aq at h;cases fT:cH c o.k xs st with
         |none=>simp[fT]at h
         |  some p=>
            simp only[fT]at h;obtain⟨bH,dW,st',h1,h2⟩:=ih _ _ (hs.dst o.dst p.1) h;exact⟨bH,dW,st',by unfold dY;simp only[hw,hxx,hc,fT];exact h1,h2⟩
        cases hg:o.guard with
        |none=>simp only[hg]at h;exact VR h (by rw[hg];rfl)
        |some pw=>
         obtain⟨p,want⟩:=pw;simp only[hg]at h;cases hp:fr.get p with
         |none=>simp[hp]at h
         |  some g=>
            simp only[hp]at h;have B4:=hs _ _ hp;unfold ZK at h;split at h
            . split at h
              . rename_i hb;exact VR h (by rw[hg];simp[cK,B4,hb])
              . rename_i hb;exact VQ h (by rw[hg];simp[cK,B4,hb])
            . exact VQ h (by rw[hg];simp[cK,B4])
            . cases h
def Has:List Pos->List AV->Fr->Prop
 |[],[],_=>True
 |p::ps,v::vs,fr=>fr.get p=some v/\Has ps vs fr
 |_,_,_=>False
theorem Has.sub{a b:Fr}(hs:Sub a b):∀{ps:List Pos}{vs:List AV},Has ps vs a->Has ps vs b
 |[],[],_=>trivial
 |[],_::_,h=>h
 |_::_,[],h=>h
 |_::_,_::_,h=>⟨hs _ _ h.1,Has.sub hs h.2⟩
theorem B5:∀{ps:List Pos}{fr:Fr}{k:List AV->Option R}{r:R},VO ps fr k=some r->∃vs,Has ps vs fr/\k vs=some r
 |[],_,_,_,h=>⟨[],trivial,h⟩
 |p::ps,fr,k,r,h=>by
  unfold VO at h;cases hp:fr.get p with
  |none=>simp[hp]at h
  |some v=>
   simp only[hp]at h;obtain⟨vs,h1,h2⟩:=B5 h;exact⟨v::vs,⟨hp,h1⟩,h2⟩
theorem Gy:∀{ps:List Pos}{vs:List AV}{fr fU:Fr}{k:Fr->Option R}{r:R},VP ps vs fr k=some r->Has ps vs fU->Sub fr fU->∃bH,Sub bH fU/\k bH=some r
 |[],vs,fr,fU,k,r,h,_,hs=>by
  unfold VP mz at h;split at h
  . exact⟨fr,hs,h⟩
  . cases h
 |p::ps,[],fr,fU,k,r,h,hh,hs=>by simp[VP,gY]at h
 |p::ps,v::vs,fr,fU,k,r,h,hh,hs=>by
  unfold VP gY at h;refine Gy h hh.2 λq u hq=> ?_
  by_cases e:p=q
  . subst e;rw[T.gH]at hq;cases hq;exact hh.1
  . rw[T.bX _ e]at hq;exact hs _ _ hq
theorem KB{c:aj}{n m:Nat}(h:n<=m){a:AC}{fr:Fr}{st:St}{r:oH×Fr×St}(e:exec c n a fr st=some r):exec c m a fr st=some r:=Ym (ZF.refl c) n m h _ _ _ _ e
theorem sV{c:aj}{F:Nat}{L:Env R}:∀(a:AC)(s:Sh),zS c F L a s->∀{fr fU:Fr}{st:St}{K:oH->Fr->St->Option R}{r:R},Sub fr fU->den c F L a s fr st K=some r->
   ∃n ex bH dW st',exec c n a fU st=some (ex,dW,st')/\Sub bH dW/\K ex bH st'=some r
 | .skip,s,_,fr,fU,st,K,r,hs,h=>⟨1,.normal,fr,fU,st,rfl,hs,by simpa [den]using h⟩
 | .exit id,s,_,fr,fU,st,K,r,hs,h=>⟨1,.exit id,fr,fU,st,rfl,hs,by simpa [den]using h⟩
 | .ret,s,_,fr,fU,st,K,r,hs,h=>⟨1,.ret,fr,fU,st,rfl,hs,by simpa [den]using h⟩
 | .region ops,s,_,fr,fU,st,K,r,hs,h=>by
   simp only[den]at h;obtain⟨bH,dW,st',h1,h2,h3⟩:=RA ops hs h;exact⟨1,.normal,bH,dW,st',by simp only[exec,bC,h1],h2,h3⟩
 | .draw ops,s,_,fr,fU,st,K,r,hs,h=>by
   simp only[den]at h;obtain⟨bH,dW,st',h1,h2,h3⟩:=ZL ops _ _ hs h;exact⟨1,.normal,bH,dW,st',by simp only[exec,bC,h1],h2,h3⟩
 | .seq a b,s,cG,fr,fU,st,K,r,hs,h=>by
   (cases s<;>simp only[den]at h<;>first|(cases h;done)|skip);rename_i jn s t;simp only[zS]at cG;cases jn with
   |none=>
    simp only at h;obtain⟨n,ex,eZ,w7,bD,h1,h2,h3⟩:=sV a s cG.1 hs h;cases ex with
    |   normal=>
        obtain⟨m,ex,Tu,agV,Av,k1,k2,k3⟩:=sV b t cG.2 h2 h3;exact⟨max n m+1,ex,Tu,agV,Av,by simp only[exec,bC,KB (Zj5 n m) h1];exact KB (Zi6 n m) k1,k2,k3⟩
    |exit i=>exact⟨n+1,.exit i,eZ,w7,bD,by simp only[exec,bC,h1],h2,h3⟩
    |ret=>exact⟨n+1,.ret,eZ,w7,bD,by simp only[exec,bC,h1],h2,h3⟩
   |some l=>
    simp only[cL]at h;obtain⟨n,ex,eZ,w7,bD,h1,h2,h3⟩:=sV a s cG.1 hs h;cases ex with
    |   normal=>
        obtain⟨vs,g1,g2⟩:=B5 h3;obtain⟨bH,g3,g4⟩:=Gy g2 (Has.sub h2 g1) (λp v hp=>by rw[T.dO]at hp;cases hp);obtain⟨m,ex,Tu,agV,Av,k1,k2,k3⟩:=sV b t cG.2 g3 g4;exact⟨max n m+1,ex,Tu,agV,Av,by simp only[exec,bC,KB (Zj5 n m) h1];exact KB (Zi6 n m) k1,k2,k3⟩
    |exit i=>exact⟨n+1,.exit i,eZ,w7,bD,by simp only[exec,bC,h1],h2,h3⟩
    |ret=>exact⟨n+1,.ret,eZ,w7,bD,by simp only[exec,bC,h1],h2,h3⟩
 | .cond x a b,s,cG,fr,fU,st,K,r,hs,h=>by
   (cases s<;>simp only[den]at h<;>first|(cases h;done)|skip);simp only[zS]at cG;cases hx:Gn fr x with
   |none=>simp[hx]at h
   |some v=>
    simp only[hx]at h;unfold cnd at h;split at h
    .   obtain⟨n,ex,eZ,w7,bD,h1,h2,h3⟩:=sV a _ cG.1 hs h;exact⟨n+1,ex,eZ,w7,bD,by simp only[exec,bC,hs.ev hx];exact h1,h2,h3⟩
    .   obtain⟨n,ex,eZ,w7,bD,h1,h2,h3⟩:=sV b _ cG.2 hs h;exact⟨n+1,ex,eZ,w7,bD,by simp only[exec,bC,hs.ev hx];exact h1,h2,h3⟩
    .   cases h
 | .block id a,s,cG,fr,fU,st,K,r,hs,h=>by
   (cases s<;>simp only[den]at h<;>first|(cases h;done)|skip);simp only[zS]at cG;obtain⟨n,ex,eZ,w7,bD,h1,h2,h3⟩:=sV a _ cG hs h;cases ex with
   |normal=>exact⟨n+1,.normal,eZ,w7,bD,by simp only[exec,bC,h1],h2,h3⟩
   |ret=>exact⟨n+1,.ret,eZ,w7,bD,by simp only[exec,bC,h1],h2,h3⟩
   |exit i=>
    simp only at h3;cases hb:Nat.beq i id with
    |true=>simp only[hb]at h3;exact⟨n+1,.normal,eZ,w7,bD,by simp only[exec,bC,h1,hb],h2,h3⟩
    |false=>simp only[hb]at h3;exact⟨n+1,.exit i,eZ,w7,bD,by simp only[exec,bC,h1,hb],h2,h3⟩
 | .loop a,s,cG,fr,fU,st,K,r,hs,h=>by
   (cases s<;>simp only[den]at h<;>first|(cases h;done)|skip);rename_i j ins outs s;simp only[zS,CS]at cG;obtain⟨auy,cG⟩:=cG;obtain⟨vs,g1,g2⟩:=B5 h;obtain⟨hz,hsu⟩:=auy (knk outs K)
   have main:∀(n:Nat)(vs:List AV)(st:St)(fU:Fr),Has ins vs fU->L j (knk outs K) n vs st=some r->
        ∃m ex bH dW st',exec c m (.loop a) fU st=some (ex,dW,st')/\Sub bH dW/\K ex bH st'=some r:=by
    intro n;induction n with
    |zero=>intro vs st fU _ h;rw[hz]at h;cases h
    |   succ n ihn=>
        intro vs st fU hh h;rw[hsu]at h;unfold Pg at h;obtain⟨cW,q1,q2⟩:=Gy h hh (λp v hp=>by rw[T.dO]at hp;cases hp);obtain⟨m,ex,eZ,w7,bD,h1,h2,h3⟩:=sV a s cG q1 q2;cases ex with
        |normal=>
         obtain⟨us,p1,p2⟩:=B5 h3;obtain⟨m',ex,Tu,agV,Av,k1,k2,k3⟩:=ihn us bD w7 (Has.sub h2 p1) p2;exact⟨max m m'+1,ex,Tu,agV,Av,by simp only[exec,bC,KB (Zj5 m m') h1];exact KB (Zi6 m m') k1,k2,k3⟩
        |exit i=>
         obtain⟨os,p1,p2⟩:=B5 h3;obtain⟨Tu,p3,p4⟩:=Gy p2 (Has.sub h2 p1) (λp v hp=>by rw[T.dO]at hp;cases hp);exact⟨m+1,.exit i,Tu,w7,bD,by simp only[exec,bC,h1],p3,p4⟩
        |ret=>
         obtain⟨os,p1,p2⟩:=B5 h3;obtain⟨Tu,p3,p4⟩:=Gy p2 (Has.sub h2 p1) (λp v hp=>by rw[T.dO]at hp;cases hp);exact⟨m+1,.ret,Tu,w7,bD,by simp only[exec,bC,h1],p3,p4⟩
   exact main F vs st fU (Has.sub hs g1) g2
def aaH:(H:Pos->Option AB)->Fr->List OL->(List AV->Option R)->Option R
 |_,_,[],k=>k []
 |  H,fr,.tmp p::rs,k=>match fr.get p with
    |some v=>aaH H fr rs λvs=>k (v::vs)
    |none=>none
 |  H,fr,.cell p n::rs,k=>match fr.get p with
    |some q=>match (aG.load n).run H .h [q]with
     |some (.val v)=>aaH H fr rs λvs=>k (v::vs)
     |_=>none
    |none=>none
def ldr(n:Option Nat)(q:AV)(st:St)(K:AV->Option R):Option R:=match (aG.load n).run (λb=>st.heap.get b) .h [q]with
 |some (.val v)=>K v
 |_=>none
theorem M9{H:Pos->Option AB}{fr fU:Fr}(hs:Sub fr fU):∀{rs:List OL}{k:List AV->Option R}{r:R},aaH H fr rs k=some r->∃vs,gQ H fU rs=some vs/\k vs=some r
 |[],k,r,h=>⟨[],rfl,h⟩
 | .tmp p::rs,k,r,h=>by
   unfold aaH at h;cases hp:fr.get p with
   |none=>simp[hp]at h
   |some v=>
    simp only[hp]at h;obtain⟨vs,h1,h2⟩:=M9 hs h;exact⟨v::vs,by unfold gQ;simp only[hs _ _ hp,h1],h2⟩
 | .cell p n::rs,k,r,h=>by
   unfold aaH at h;cases hp:fr.get p with
   |none=>simp[hp]at h
   |some q=>
    simp only[hp]at h;split at h
    .   rename_i v hv;obtain⟨vs,h1,h2⟩:=M9 hs h;exact⟨v::vs,by unfold gQ;simp only[hs _ _ hp,hv,h1],h2⟩
    .   cases h
def Ik(c:aj)(F:Nat)(L:Env (AV×St))(A:dN)(s:Sh)(args:List AV)(st:St):Option (AV×St):=
 match Nat.beq args.length A.nparams with
 |  true=>den c F L A.code s (params 0 args .e) st λex fr st=>match ex with
    | .normal=>aaH (λb=>st.heap.get b) fr A.results λvs=>some (zi vs,st)
    | .ret=>aaH (λb=>st.heap.get b) fr A.results λvs=>some (zi vs,st)
    | .exit _=>none
 |false=>none
theorem apg{O:eP}{G:T dN}{F:Nat}{L:Env (AV×St)}{f:FuncId}{A:dN}{s:Sh}{args:List AV}{st:St}{r:AV×St}(ho:O f=none)(hF:G.get (key f)=some A)
  (hL:∀x∈fP A.code s,CS (run O G) F L x.1 x.2) (h:Ik (run O G) F L A s args st=some r):run O G f args st=some (tidy st r):=by
 unfold Ik at h;split at h<;>first|(cases h;done)|skip
 rename_i hlen;obtain⟨n,ex,bH,dW,st',h1,h2,h3⟩:=sV A.code s (FD _ _ hL) (Sub.refl _) h;refine ao8 (n:=n) ho hF ?_;unfold xJ;simp only[hlen,h1];cases ex with
 |normal=>
  obtain⟨vs,k1,k2⟩:=M9 h2 h3;simp only[k1];exact k2
 |ret=>
  obtain⟨vs,k1,k2⟩:=M9 h2 h3;simp only[k1];exact k2
 |exit i=>cases h3
def ah(st:St)(b:AB):St:={ heap:=st.heap.put (some b) st.next,next:=st.next.succ }
def af3{R:Type}:List (Nat×(LpK R->Nat->List AV->St->Option R))->Env R
 |[]=>λ_ _ _ _ _=>none
 |  (i,g)::l=>λj K n=>match Nat.beq i j with
    |true=>g K n
    |false=>af3 l j K n
def iw(A:dN)(s:Sh)(i:Nat):AC×Sh:=(fP A.code s).getD i (.skip,.leaf)
theorem aph{R:Type}{c:aj}{F:Nat}{L:Env R}{A:dN}{s:Sh}(n:Nat)(hn:Nat.beq (fP A.code s).length n=true)(h:∀i,i<n->CS c F L (iw A s i).1 (iw A s i).2):
  ∀x∈fP A.code s,CS c F L x.1 x.2:=by
 intro x hx;obtain⟨i,hi,he⟩:=Zg0.1 hx;have hn:=Za6 hn;have:=h i (by omega);unfold iw at this;rw[Zb1,H0 hi]at this;simp only[Zf1,he]at this;exact this
def adr:Sh->Bool
 | .loop _ _ _ _=>true
 |_=>false
def lpJ:Sh->Nat
 | .loop j _ _ _=>j
 |_=>0
def lpI:Sh->List Pos
 | .loop _ i _ _=>i
 |_=>[]
def lpO:Sh->List (Nat×List Pos)
 | .loop _ _ o _=>o
 |_=>[]
def lpB:Sh->Sh
 | .loop _ _ _ s=>s
 |_=> .leaf
theorem cr{R:Type}{c:aj}{F:Nat}{L:Env R}{A:dN}{sh:Sh}{i:Nat}(j:Nat)(hs:(adr (iw A sh i).2&&Nat.beq (lpJ (iw A sh i).2) j)=true)(h0:∀K' vs st,L j K' 0 vs st=none)
  (h1:∀K' n vs st,L j K' (n+1) vs st=Pg (den c F L (iw A sh i).1 (lpB (iw A sh i).2)) (lpI (iw A sh i).2) (lpO (iw A sh i).2) K' (L j K' n) vs st):CS c F L (iw A sh i).1 (iw A sh i).2:=by
 generalize (iw A sh i).1=a at*
 generalize (iw A sh i).2=t at*
 cases t with
 |loop j' ins outs s=>
  simp only[adr,lpJ,Zg6]at hs;obtain rfl:=Za6 hs;exact λK'=>⟨h0 K',h1 K'⟩
 |_=>simp[adr]at hs
end
end Go.Ai
section
set_option linter.all false
namespace Go.Ai
open Go
theorem dD(k:IntKind):KJ k k=true:=by cases k<;>rfl
theorem nh(a b:Int):Ba a b=decide (a=b):=by rw[mK];rfl
theorem iT(a b:List Nat):ku a b=decide (a=b):=by rw[Zn3,mL];simp
theorem wrap64{x:Int}(h1: -9223372036854775808<=x)(h2:x<=9223372036854775807):av .i64 x=x:=by
 unfold av loI hiI;simp only;split
 . split
   . rfl
   . contradiction
 . contradiction
theorem Gh{x:Int}(h1:0<=x)(h2:x<=255):av .u8 x=x:=by
 unfold av loI hiI;simp only;split
 . split
   . rfl
   . contradiction
 . contradiction
theorem jy(k:IntKind)(n:Nat):zR (.int k (n:Int))=some n:=id rfl
theorem cZ(a b:Nat):Nat.ble a b=decide (a<=b):=by apply Zn3.2;simp
theorem Kh(a b:Nat):Nat.blt a b=decide (a<b):=by apply Zn3.2;simp[Nat.blt,Nat.ble_eq];omega
theorem dc(a b:Nat):Nat.beq a b=decide (a=b):=by apply Zn3.2;simp
def yB{R:Type}(o:Option AV)(k:AV->Option R):Option R:=match o with
 |some v=>k v
 |none=>none
def Il{R:Type}(o:Option (List AV))(k:List AV->Option R):Option R:=match o with
 |some v=>k v
 |none=>none
def aaI{R:Type}(o:Option (AV×St))(k:AV->St->Option R):Option R:=match o with
 |some (v,st)=>k v st
 |none=>none
section
variable{R : Type}(c : aj)(K : AV -> St -> Option R)(K1 : AV -> Option R)(A B : Option R)
@[simp] theorem aV(v:AV)(k:AV->Option R):yB (some v) k=k v:=id rfl
@[simp] theorem eO(v:List AV)(k:List AV->Option R):Il (some v) k=k v:=id rfl
@[simp] theorem bS(v:AV)(st:St)(k:AV->St->Option R):aaI (some (v,st)) k=k v st:=id rfl
@[simp] theorem dG:cnd (.bool true) A B=A:=id rfl
@[simp] theorem di:cnd (.bool false) A B=B:=id rfl
@[simp] theorem aH(v:AV)(vs:List AV)(k:AV->List AV->Option R):gY (v::vs) k=k v vs:=id rfl
@[simp] theorem bh(k:Option R):mz [] k=k:=id rfl
theorem iH(f:(List AV->St->Option R)->Option R)(k:List AV->St->Option R):cL f k=f k:=id rfl
@[simp] theorem gU(b:Bool)(k:aG)(xs:List AV)(st:St):pN c (.bool b) b k xs st K=aq c k xs st K:=by cases b<;>exact id rfl
@[simp] theorem amP(k:aG)(xs:List AV)(st:St):pN c (.bool true) false k xs st K=K .undef st:=id rfl
@[simp] theorem amQ(k:aG)(xs:List AV)(st:St):pN c (.bool false) true k xs st K=K .undef st:=id rfl
@[simp] theorem gst_un(b:Bool)(k:aG)(xs:List AV)(st:St):pN c .undef b k xs st K=K .undef st:=id rfl
@[simp] theorem ads(b:Bool)(k:aG)(xs:List AV):ZI (.bool b) b k xs K1=fh k xs K1:=by cases b<;>exact id rfl
@[simp] theorem gpr_tf(k:aG)(xs:List AV):ZI (.bool true) false k xs K1=K1 .undef:=id rfl
@[simp] theorem gpr_ft(k:aG)(xs:List AV):ZI (.bool false) true k xs K1=K1 .undef:=id rfl
@[simp] theorem gpr_un(b:Bool)(k:aG)(xs:List AV):ZI .undef b k xs K1=K1 .undef:=id rfl
@[simp] theorem ajE(b:Bool)(k:aG)(xs:List AV)(h:T AB)(ok:AV->Bool):ZJ (.bool b) b k xs h ok K1=jx k xs h ok K1:=by cases b<;>exact id rfl
@[simp] theorem grd_tf(k:aG)(xs:List AV)(h:T AB)(ok:AV->Bool):ZJ (.bool true) false k xs h ok K1=K1 .undef:=id rfl
@[simp] theorem grd_ft(k:aG)(xs:List AV)(h:T AB)(ok:AV->Bool):ZJ (.bool false) true k xs h ok K1=K1 .undef:=id rfl
@[simp] theorem grd_un(b:Bool)(k:aG)(xs:List AV)(h:T AB)(ok:AV->Bool):ZJ .undef b k xs h ok K1=K1 .undef:=id rfl
@[simp] theorem avj(b:Bool):ZK (.bool b) b A B=A:=by cases b<;>exact id rfl
@[simp] theorem wnt_tf:ZK (.bool true) false A B=B:=id rfl
@[simp] theorem wnt_ft:ZK (.bool false) true A B=B:=id rfl
@[simp] theorem wnt_un(b:Bool):ZK .undef b A B=B:=id rfl
theorem Lb{k:aG}{xs:List AV}{o:Option AV}(h:∀H n,k.run H n xs=o.map .val)(st:St):aq c k xs st K=yB o λv=>K v st:=by unfold aq cH;rw[h];cases o<;>rfl
theorem VS{k:aG}{xs:List AV}{o:Option AV}(h:∀H n,k.run H n xs=o.map .val):fh k xs K1=yB o K1:=by unfold fh;rw[h];cases o<;>rfl
theorem aR{k:aG}{xs:List AV}{v:AV}(h:∀H n,k.run H n xs=some (.val v))(st:St):aq c k xs st K=K v st:=by
 unfold aq cH;rw[h]
theorem cX{k:aG}{xs:List AV}{v:AV}(h:∀H n,k.run H n xs=some (.val v)):fh k xs K1=K1 v:=by
 unfold fh;rw[h]
theorem cC(f:FuncId)(l:List AV)(st:St):aq c (.callF f) l st K=aaI (c f l st) K:=by unfold aq cH;show(match c f l st with|some (v,st')=>K v st'|none=>none)=_;cases c f l st<;>rfl
theorem iU(f:FuncId)(l u v:List AV)(st:St):aq c .callV (.func f u v::l) st K=aaI (c f (u++(l++v)) st) K:=by unfold aq cH;show(match c f (u++(l++v)) st with|some (v,st')=>K v st'|none=>none)=_;cases c f (u++(l++v)) st<;>rfl
attribute [simp] cC iU
end
def cellsOf:Option AB->Option (List AV)
 |some (.cells cs _)=>some cs
 |_=>none
@[simp] theorem aB(cs:List AV)(f:Nat):cellsOf (some (.cells cs f))=some cs:=id rfl
def ro(es:Nat)(z:Bool)(rs:List (List AV)):AV:=match z,rs with
 |true,[]=> .af
 |_,rs=> .fl rs es
theorem adt{es:Nat}{z:Bool}{rs:List (List AV)}(h:rs≠[]):ro es z rs= .fl rs es:=by
 unfold ro;split
 . exact absurd rfl h
 . rfl
theorem run_move(H:Pos->Option AB)(n:Pos)(x:AV):aG.run H n .move [x]=some (.val x):=rfl
@[simp] theorem az{R:Type}(c:aj)(K:AV->St->Option R)(st:St)(x:AV):aq c .move [x] st K=K x st:=aR c K (λH n=>run_move H n x) st
@[simp] theorem dz{R:Type}(K:AV->Option R)(x:AV):fh .move [x] K=K x:=cX K (λH n=>run_move H n x)
theorem abY(H:Pos->Option AB)(n:Pos)(x y:AV):aG.run H n .pick [.bool true,x,y]=some (.val x):=rfl
@[simp] theorem CU{R:Type}(c:aj)(K:AV->St->Option R)(st:St)(x y:AV):aq c .pick [.bool true,x,y] st K=K x st:=aR c K (λH n=>abY H n x y) st
@[simp] theorem RB{R:Type}(K:AV->Option R)(x y:AV):fh .pick [.bool true,x,y] K=K x:=cX K (λH n=>abY H n x y)
theorem abZ(H:Pos->Option AB)(n:Pos)(x y:AV):aG.run H n .pick [.bool false,x,y]=some (.val y):=rfl
@[simp] theorem ja{R:Type}(c:aj)(K:AV->St->Option R)(st:St)(x y:AV):aq c .pick [.bool false,x,y] st K=K y st:=aR c K (λH n=>abZ H n x y) st
@[simp] theorem auz{R:Type}(K:AV->Option R)(x y:AV):fh .pick [.bool false,x,y] K=K y:=cX K (λH n=>abZ H n x y)
theorem ajF(H:Pos->Option AB)(n:Pos)(p:Bool):aG.run H n (.un .not) [.bool p]=some (.val (.bool (!p))):=rfl
@[simp] theorem FE{R:Type}(c:aj)(K:AV->St->Option R)(st:St)(p:Bool):aq c (.un .not) [.bool p] st K=K (.bool (!p)) st:=aR c K (λH n=>ajF H n p) st
@[simp] theorem avk{R:Type}(K:AV->Option R)(p:Bool):fh (.un .not) [.bool p] K=K (.bool (!p)):=cX K (λH n=>ajF H n p)
theorem ajG(H:Pos->Option AB)(n:Pos)(q:gP)(k:IntKind)(a b:Int):aG.run H n (.bin .lss q) [.int k a,.int k b]=some (.val (.bool (decide (a<b)))):=by simp[aG.run,ju,pz,dD,nh,fc,kX,iT]
@[simp] theorem cY{R:Type}(c:aj)(K:AV->St->Option R)(st:St)(q:gP)(k:IntKind)(a b:Int):aq c (.bin .lss q) [.int k a,.int k b] st K=K (.bool (decide (a<b))) st:=aR c K (λH n=>ajG H n q k a b) st
@[simp] theorem ajH{R:Type}(K:AV->Option R)(q:gP)(k:IntKind)(a b:Int):fh (.bin .lss q) [.int k a,.int k b] K=K (.bool (decide (a<b))):=cX K (λH n=>ajG H n q k a b)
theorem ajI(H:Pos->Option AB)(n:Pos)(q:gP)(k:IntKind)(a b:Int):aG.run H n (.bin .leq q) [.int k a,.int k b]=some (.val (.bool (decide (a<=b)))):=by simp[aG.run,ju,pz,dD,nh,fc,kX,iT]
@[simp] theorem adu{R:Type}(c:aj)(K:AV->St->Option R)(st:St)(q:gP)(k:IntKind)(a b:Int):aq c (.bin .leq q) [.int k a,.int k b] st K=K (.bool (decide (a<=b))) st:=aR c K (λH n=>ajI H n q k a b) st
@[simp] theorem avl{R:Type}(K:AV->Option R)(q:gP)(k:IntKind)(a b:Int):fh (.bin .leq q) [.int k a,.int k b] K=K (.bool (decide (a<=b))):=cX K (λH n=>ajI H n q k a b)
theorem ajJ(H:Pos->Option AB)(n:Pos)(q:gP)(k:IntKind)(a b:Int):aG.run H n (.bin .gtr q) [.int k a,.int k b]=some (.val (.bool (decide (b<a)))):=by simp[aG.run,ju,pz,dD,nh,fc,kX,iT]
@[simp] theorem oo{R:Type}(c:aj)(K:AV->St->Option R)(st:St)(q:gP)(k:IntKind)(a b:Int):aq c (.bin .gtr q) [.int k a,.int k b] st K=K (.bool (decide (b<a))) st:=aR c K (λH n=>ajJ H n q k a b) st
@[simp] theorem ajK{R:Type}(K:AV->Option R)(q:gP)(k:IntKind)(a b:Int):fh (.bin .gtr q) [.int k a,.int k b] K=K (.bool (decide (b<a))):=cX K (λH n=>ajJ H n q k a b)
theorem ajL(H:Pos->Option AB)(n:Pos)(q:gP)(k:IntKind)(a b:Int):aG.run H n (.bin .geq q) [.int k a,.int k b]=some (.val (.bool (decide (b<=a)))):=by simp[aG.run,ju,pz,dD,nh,fc,kX,iT]
@[simp] theorem Yo{R:Type}(c:aj)(K:AV->St->Option R)(st:St)(q:gP)(k:IntKind)(a b:Int):aq c (.bin .geq q) [.int k a,.int k b] st K=K (.bool (decide (b<=a))) st:=aR c K (λH n=>ajL H n q k a b) st
@[simp] theorem avm{R:Type}(K:AV->Option R)(q:gP)(k:IntKind)(a b:Int):fh (.bin .geq q) [.int k a,.int k b] K=K (.bool (decide (b<=a))):=cX K (λH n=>ajL H n q k a b)
theorem ajM(H:Pos->Option AB)(n:Pos)(q:gP)(k:IntKind)(a b:Int):aG.run H n (.bin .eql q) [.int k a,.int k b]=some (.val (.bool (decide (a=b)))):=by simp[aG.run,ju,pz,dD,nh,fc,kX,iT]
@[simp] theorem ez{R:Type}(c:aj)(K:AV->St->Option R)(st:St)(q:gP)(k:IntKind)(a b:Int):aq c (.bin .eql q) [.int k a,.int k b] st K=K (.bool (decide (a=b))) st:=aR c K (λH n=>ajM H n q k a b) st
@[simp] theorem adv{R:Type}(K:AV->Option R)(q:gP)(k:IntKind)(a b:Int):fh (.bin .eql q) [.int k a,.int k b] K=K (.bool (decide (a=b))):=cX K (λH n=>ajM H n q k a b)
theorem ajN(H:Pos->Option AB)(n:Pos)(q:gP)(k:IntKind)(a b:Int):aG.run H n (.bin .neq q) [.int k a,.int k b]=some (.val (.bool (!decide (a=b)))):=by simp[aG.run,ju,pz,dD,nh,fc,kX,iT]
@[simp] theorem Ph{R:Type}(c:aj)(K:AV->St->Option R)(st:St)(q:gP)(k:IntKind)(a b:Int):aq c (.bin .neq q) [.int k a,.int k b] st K=K (.bool (!decide (a=b))) st:=aR c K (λH n=>ajN H n q k a b) st
@[simp] theorem avn{R:Type}(K:AV->Option R)(q:gP)(k:IntKind)(a b:Int):fh (.bin .neq q) [.int k a,.int k b] K=K (.bool (!decide (a=b))):=cX K (λH n=>ajN H n q k a b)
theorem ajO(H:Pos->Option AB)(n:Pos)(q:gP)(k:IntKind)(a b:Int):aG.run H n (.bin .add q) [.int k a,.int k b]=some (.val (.int k (av k (a+b)))):=by simp[aG.run,ju,pz,dD,nh,fc,kX,iT]
@[simp] theorem eV{R:Type}(c:aj)(K:AV->St->Option R)(st:St)(q:gP)(k:IntKind)(a b:Int):aq c (.bin .add q) [.int k a,.int k b] st K=K (.int k (av k (a+b))) st:=aR c K (λH n=>ajO H n q k a b) st
@[simp] theorem ajP{R:Type}(K:AV->Option R)(q:gP)(k:IntKind)(a b:Int):fh (.bin .add q) [.int k a,.int k b] K=K (.int k (av k (a+b))):=cX K (λH n=>ajO H n q k a b)
theorem ajQ(H:Pos->Option AB)(n:Pos)(q:gP)(k:IntKind)(a b:Int):aG.run H n (.bin .sub q) [.int k a,.int k b]=some (.val (.int k (av k (a - b)))):=by simp[aG.run,ju,pz,dD,nh,fc,kX,iT]
@[simp] theorem adw{R:Type}(c:aj)(K:AV->St->Option R)(st:St)(q:gP)(k:IntKind)(a b:Int):aq c (.bin .sub q) [.int k a,.int k b] st K=K (.int k (av k (a - b))) st:=aR c K (λH n=>ajQ H n q k a b) st
@[simp] theorem ajR{R:Type}(K:AV->Option R)(q:gP)(k:IntKind)(a b:Int):fh (.bin .sub q) [.int k a,.int k b] K=K (.int k (av k (a - b))):=cX K (λH n=>ajQ H n q k a b)
theorem ajS(H:Pos->Option AB)(n:Pos)(q:gP)(k:IntKind)(a b:Int):aG.run H n (.bin .mul q) [.int k a,.int k b]=some (.val (.int k (av k (a*b)))):=by simp[aG.run,ju,pz,dD,nh,fc,kX,iT]
@[simp] theorem avo{R:Type}(c:aj)(K:AV->St->Option R)(st:St)(q:gP)(k:IntKind)(a b:Int):aq c (.bin .mul q) [.int k a,.int k b] st K=K (.int k (av k (a*b))) st:=aR c K (λH n=>ajS H n q k a b) st
@[simp] theorem arR{R:Type}(K:AV->Option R)(q:gP)(k:IntKind)(a b:Int):fh (.bin .mul q) [.int k a,.int k b] K=K (.int k (av k (a*b))):=cX K (λH n=>ajS H n q k a b)
theorem agW(H:Pos->Option AB)(n:Pos)(q:gP)(s t:List Nat):aG.run H n (.bin .eql q) [.str s,.str t]=some (.val (.bool (decide (s=t)))):=by simp[aG.run,ju,pz,dD,nh,fc,kX,iT]
@[simp] theorem au7{R:Type}(c:aj)(K:AV->St->Option R)(st:St)(q:gP)(s t:List Nat):aq c (.bin .eql q) [.str s,.str t] st K=K (.bool (decide (s=t))) st:=aR c K (λH n=>agW H n q s t) st
@[simp] theorem au8{R:Type}(K:AV->Option R)(q:gP)(s t:List Nat):fh (.bin .eql q) [.str s,.str t] K=K (.bool (decide (s=t))):=cX K (λH n=>agW H n q s t)
theorem agX(H:Pos->Option AB)(n:Pos)(q:gP)(s t:List Nat):aG.run H n (.bin .neq q) [.str s,.str t]=some (.val (.bool (!decide (s=t)))):=by simp[aG.run,ju,pz,dD,nh,fc,kX,iT]
@[simp] theorem aaJ{R:Type}(c:aj)(K:AV->St->Option R)(st:St)(q:gP)(s t:List Nat):aq c (.bin .neq q) [.str s,.str t] st K=K (.bool (!decide (s=t))) st:=aR c K (λH n=>agX H n q s t) st
@[simp] theorem api{R:Type}(K:AV->Option R)(q:gP)(s t:List Nat):fh (.bin .neq q) [.str s,.str t] K=K (.bool (!decide (s=t))):=cX K (λH n=>agX H n q s t)
theorem apj(H:Pos->Option AB)(n:Pos)(q:gP)(s t:List Nat):aG.run H n (.bin .lss q) [.str s,.str t]=some (.val (.bool (aN s t))):=by simp[aG.run,ju,pz,dD,nh,fc,kX,iT]
@[simp] theorem au9{R:Type}(K:AV->Option R)(q:gP)(s t:List Nat):fh (.bin .lss q) [.str s,.str t] K=K (.bool (aN s t)):=cX K (λH n=>apj H n q s t)
theorem apk(H:Pos->Option AB)(n:Pos)(q:gP)(s t:List Nat):aG.run H n (.bin .geq q) [.str s,.str t]=some (.val (.bool (!aN s t))):=by simp[aG.run,ju,pz,dD,nh,fc,kX,iT]
@[simp] theorem ava{R:Type}(c:aj)(K:AV->St->Option R)(st:St)(q:gP)(s t:List Nat):aq c (.bin .geq q) [.str s,.str t] st K=K (.bool (!aN s t)) st:=aR c K (λH n=>apk H n q s t) st
theorem apl(H:Pos->Option AB)(n:Pos)(s:List Nat):aG.run H n (.lenB .s) [.str s]=some (.val (.int .i64 (s.length:Int))):=rfl
@[simp] theorem avb{R:Type}(c:aj)(K:AV->St->Option R)(st:St)(s:List Nat):aq c (.lenB .s) [.str s] st K=K (.int .i64 (s.length:Int)) st:=aR c K (λH n=>apl H n s) st
theorem agY(H:Pos->Option AB)(n:Pos)(es:Nat)(z:Bool)(rs:List (List AV)):aG.run H n (.lenB .l) [ro es z rs]=some (.val (.int .i64 (rs.length:Int))):=by unfold ro;split<;>rfl
@[simp] theorem iy{R:Type}(c:aj)(K:AV->St->Option R)(st:St)(es:Nat)(z:Bool)(rs:List (List AV)):aq c (.lenB .l) [ro es z rs] st K=K (.int .i64 (rs.length:Int)) st:=aR c K (λH n=>agY H n es z rs) st
@[simp] theorem agZ{R:Type}(K:AV->Option R)(es:Nat)(z:Bool)(rs:List (List AV)):fh (.lenB .l) [ro es z rs] K=K (.int .i64 (rs.length:Int)):=cX K (λH n=>agY H n es z rs)
theorem ag0(H:Pos->Option AB)(n:Pos)(k k2:IntKind)(a:Int):aG.run H n (.conv (.int k)) [.int k2 a]=some (.val (.int k (av k a))):=rfl
@[simp] theorem Lc{R:Type}(c:aj)(K:AV->St->Option R)(st:St)(k k2:IntKind)(a:Int):aq c (.conv (.int k)) [.int k2 a] st K=K (.int k (av k a)) st:=aR c K (λH n=>ag0 H n k k2 a) st
@[simp] theorem avc{R:Type}(K:AV->Option R)(k k2:IntKind)(a:Int):fh (.conv (.int k)) [.int k2 a] K=K (.int k (av k a)):=cX K (λH n=>ag0 H n k k2 a)
theorem apm(H:Pos->Option AB)(n:Pos)(k:IntKind)(s:List Nat)(i:Nat):aG.run H n .idxS [.str s,.int k (i:Int)]=((s[i]?.map λc=> .int .u8 (c:Int)):Option AV).map .val:=by simp only[aG.run,Ye,jy,qI];cases s[i]? <;>rfl
@[simp] theorem avd{R:Type}(c:aj)(K:AV->St->Option R)(st:St)(k:IntKind)(s:List Nat)(i:Nat):aq c .idxS [.str s,.int k (i:Int)] st K=yB (s[i]?.map λc=> .int .u8 (c:Int)) λv=>K v st:=Lb c K (λH n=>apm H n k s i) st
theorem amR(H:Pos->Option AB)(n:Pos)(off:Nat)(l:List AV):aG.run H n (.field off none) [.agg l]=(l[off]? :Option AV).map .val:=by simp only[aG.run,QT,qI];cases l[off]? <;>rfl
@[simp] theorem amS{R:Type}(K:AV->Option R)(off:Nat)(l:List AV):fh (.field off none) [.agg l] K=yB l[off]? K:=VS K (λH n=>amR H n off l)
theorem VT(H:Pos->Option AB)(n:Pos)(off:Nat)(p:Pos)(o:Nat):aG.run H n (.fieldA off) [.ptr p o]=some (.val (.ptr p (o+off))):=rfl
@[simp] theorem aO{R:Type}(c:aj)(K:AV->St->Option R)(st:St)(off:Nat)(p:Pos)(o:Nat):aq c (.fieldA off) [.ptr p o] st K=K (.ptr p (o+off)) st:=aR c K (λH n=>VT H n off p o) st
@[simp] theorem br{R:Type}(K:AV->Option R)(off:Nat)(p:Pos)(o:Nat):fh (.fieldA off) [.ptr p o] K=K (.ptr p (o+off)):=cX K (λH n=>VT H n off p o)
theorem ag1(H:Pos->Option AB)(n:Pos)(off:Nat)(xs:List (List AV))(i j:Nat):aG.run H n (.fieldA off) [.fp xs i j]=some (.val (.fp xs i (j+off))):=rfl
@[simp] theorem atu{R:Type}(c:aj)(K:AV->St->Option R)(st:St)(off:Nat)(xs:List (List AV))(i j:Nat):aq c (.fieldA off) [.fp xs i j] st K=K (.fp xs i (j+off)) st:=aR c K (λH n=>ag1 H n off xs i j) st
theorem ZM(H:Pos->Option AB)(n:Pos)(i:Nat)(l:List AV):aG.run H n (.extract i) [.tuple l]=(l[i]? :Option AV).map .val:=by simp only[aG.run,Kc,qI];cases l[i]? <;>rfl
@[simp] theorem jM{R:Type}(c:aj)(K:AV->St->Option R)(st:St)(i:Nat)(l:List AV):aq c (.extract i) [.tuple l] st K=yB l[i]? λv=>K v st:=Lb c K (λH n=>ZM H n i l) st
@[simp] theorem aug{R:Type}(K:AV->Option R)(i:Nat)(l:List AV):fh (.extract i) [.tuple l] K=yB l[i]? K:=VS K (λH n=>ZM H n i l)
theorem Pj(H:Pos->Option AB)(n:Pos)(p:Pos)(o:Nat):aG.run H n .nilCheck [.ptr p o]=some (.val (.ptr p o)):=rfl
@[simp] theorem bW{R:Type}(c:aj)(K:AV->St->Option R)(st:St)(p:Pos)(o:Nat):aq c .nilCheck [.ptr p o] st K=K (.ptr p o) st:=aR c K (λH n=>Pj H n p o) st
@[simp] theorem qC{R:Type}(K:AV->Option R)(p:Pos)(o:Nat):fh .nilCheck [.ptr p o] K=K (.ptr p o):=cX K (λH n=>Pj H n p o)
theorem ag2(H:Pos->Option AB)(n:Pos)(es:Nat)(z:Bool)(rs:List (List AV))(k:IntKind)(i:Nat):aG.run H n (.idxA es none) [ro es z rs,.int k (i:Int)]=((if i<rs.length then some (.fp rs i 0)else none):Option AV).map .val:=by
 by_cases h:i<rs.length
 . rw[adt (by intro e;subst e;simp at h)];simp[aG.run,sw,jy,Kh,dc,h]
 . unfold ro;split
   . rfl
   . simp[aG.run,sw,jy,Kh,dc,h]
@[simp] theorem RD{R:Type}(c:aj)(K:AV->St->Option R)(st:St)(es:Nat)(z:Bool)(rs:List (List AV))(k:IntKind)(i:Nat):aq c (.idxA es none) [ro es z rs,.int k (i:Int)] st K=yB (if i<rs.length then some (.fp rs i 0)else none) λv=>K v st:=Lb c K (λH n=>ag2 H n es z rs k i) st
@[simp] theorem apn{R:Type}(K:AV->Option R)(es:Nat)(z:Bool)(rs:List (List AV))(k:IntKind)(i:Nat):fh (.idxA es none) [ro es z rs,.int k (i:Int)] K=yB (if i<rs.length then some (.fp rs i 0)else none) K:=VS K (λH n=>ag2 H n es z rs k i)
theorem aez(H:Pos->Option AB)(n:Pos)(es:Nat)(z:Bool)(rs:List (List AV))(k:IntKind)(i:Nat):aG.run H n (.sliceL es false true false) [ro es z rs,.int k (i:Int)]=((if i<=rs.length then some (ro es (z&&rs.isEmpty) (rs.take i))else none):Option AV).map .val:=by
 by_cases h:i<=rs.length
 . rw[  Zb3 h];unfold ro;split
   . simp at h;subst h;rfl
   . rename_i hn;have:(z&&rs.isEmpty)=false:=(by cases z<;>cases rs<;>simp at hn ⊢);simp only[this];simp[aG.run,iP,bounds,jy,cZ,dc,h]
 . rw[Za7 h];unfold ro;split
   . simp only[aG.run,iP,bounds,jy];have:¬i=0:=(by simp at h;omega);simp[dc,this]
   . simp[aG.run,iP,bounds,jy,cZ,dc,h]
@[simp] theorem au4{R:Type}(c:aj)(K:AV->St->Option R)(st:St)(es:Nat)(z:Bool)(rs:List (List AV))(k:IntKind)(i:Nat):aq c (.sliceL es false true false) [ro es z rs,.int k (i:Int)] st K=yB (if i<=rs.length then some (ro es (z&&rs.isEmpty) (rs.take i))else none) λv=>K v st:=Lb c K (λH n=>aez H n es z rs k i) st
@[simp] theorem amT{R:Type}(K:AV->Option R)(es:Nat)(z:Bool)(rs:List (List AV))(k:IntKind)(i:Nat):fh (.sliceL es false true false) [ro es z rs,.int k (i:Int)] K=yB (if i<=rs.length then some (ro es (z&&rs.isEmpty) (rs.take i))else none) K:=VS K (λH n=>aez H n es z rs k i)
section
variable{R : Type}(c : aj)(K : AV -> St -> Option R)(K1 : AV -> Option R)
theorem CV(H:Pos->Option AB)(n:Pos)(xs:List (List AV))(i j:Nat):aG.run H n (.load none) [.fp xs i j]=(xs[i]?.bind λcs=>cs[j]?).map .val:=by
 simp only[aG.run,zh,qI];cases xs[i]? with
 |none=>rfl
 |some cs=>simp only[Za8];cases cs[j]? <;>rfl
theorem NY(H:Pos->Option AB)(n:Pos)(m:Nat)(xs:List (List AV))(i j:Nat):aG.run H n (.load (some m)) [.fp xs i j]=((xs[i]?.bind λcs=>cut cs j m).map .agg).map .val:=by
 simp only[aG.run,zh,qI];cases xs[i]? with
 |none=>rfl
 |some cs=>simp only[Za8];cases cut cs j m<;>rfl
theorem sW (H:Pos->Option AB)(n:Pos)(p:Pos)(o:Nat):aG.run H n (.load none) [.ptr p o]=((cellsOf (H p)).bind λcs=>cs[o]?).map .val:=by
 simp only[aG.run,zh,qI];cases H p with
 |none=>rfl
 |some x=>   cases x<;>simp only[cellsOf,Za8,Option.bind_none]<;>try rfl
             all_goals first|(rename_i cs _;cases cs[o]? <;>rfl)|(rename_i _ cs;cases cs[o]? <;>rfl)
theorem wS (H:Pos->Option AB)(n:Pos)(m:Nat)(p:Pos)(o:Nat):aG.run H n (.load (some m)) [.ptr p o]=(((cellsOf (H p)).bind λcs=>cut cs o m).map .agg).map .val:=by
 simp only[aG.run,zh];cases H p with
 |none=>rfl
 |some x=>   cases x<;>simp only[cellsOf,Za8,Option.bind_none]<;>try rfl
             all_goals first|(rename_i cs _;cases cut cs o m<;>rfl)|(rename_i _ cs;cases cut cs o m<;>rfl)
@[simp] theorem ak0(st:St)(xs:List (List AV))(i j:Nat):aq c (.load none) [.fp xs i j] st K=yB (xs[i]?.bind λcs=>cs[j]?) λv=>K v st:=Lb c K (λH n=>CV H n xs i j) st
@[simp] theorem ai2(st:St)(m:Nat)(xs:List (List AV))(i j:Nat):aq c (.load (some m)) [.fp xs i j] st K=Il (xs[i]?.bind λcs=>cut cs j m) λl=>K (.agg l) st:=by rw[Lb c K (λH n=>NY H n m xs i j) st];cases(xs[i]?.bind λcs=>cut cs j m)<;>rfl
@[simp] theorem aU(st:St)(p:Pos)(o:Nat):aq c (.load none) [.ptr p o] st K=yB ((cellsOf (st.heap.get p)).bind λcs=>cs[o]?) λv=>K v st:=by unfold aq cH;rw[sW];cases((cellsOf (st.heap.get p)).bind λcs=>cs[o]?)<;>rfl
@[simp] theorem fj(st:St)(m:Nat)(p:Pos)(o:Nat):aq c (.load (some m)) [.ptr p o] st K=Il ((cellsOf (st.heap.get p)).bind λcs=>cut cs o m) λl=>K (.agg l) st:=by unfold aq cH;rw[wS];cases((cellsOf (st.heap.get p)).bind λcs=>cut cs o m)<;>rfl
@[simp] theorem auA(h:T AB)(xs:List (List AV))(i j:Nat):jx (.load none) [.fp xs i j] h (λ_=>true) K1=yB (xs[i]?.bind λcs=>cs[j]?) K1:=by unfold jx;rw[CV,CV];cases hx:(xs[i]?.bind λcs=>cs[j]?)<;>rfl
@[simp] theorem auh(h:T AB)(m:Nat)(xs:List (List AV))(i j:Nat):jx (.load (some m)) [.fp xs i j] h (λ_=>true) K1=Il (xs[i]?.bind λcs=>cut cs j m) λl=>K1 (.agg l):=by unfold jx;rw[NY,NY];cases hx:(xs[i]?.bind λcs=>cut cs j m)<;>rfl
@[simp] theorem Gi(st:St)(f:FuncId)(xs:List AV):aq c (.mkFunc f 0) xs st K=K (.func f [] xs) st:=aR c K (λH n=>by simp[aG.run,Gm,cZ]) st
@[simp] theorem ZN(f:FuncId)(xs:List AV):fh (.mkFunc f 0) xs K1=K1 (.func f [] xs):=cX K1 (λH n=>by simp[aG.run,Gm,cZ])
@[simp] theorem kK(h:T AB)(p:Pos)(o:Nat):jx (.load none) [.ptr p o] h (λ_=>true) K1=yB ((cellsOf (h.get p)).bind λcs=>cs[o]?) K1:=by unfold jx;rw[sW,sW];show(match ((cellsOf (h.get p)).bind λcs=>cs[o]?).map eG.val with|some (.val v)=>_|_=>_)=_;cases((cellsOf (h.get p)).bind λcs=>cs[o]?)<;>rfl
@[simp] theorem Az(h:T AB)(m:Nat)(p:Pos)(o:Nat):jx (.load (some m)) [.ptr p o] h (λ_=>true) K1=Il ((cellsOf (h.get p)).bind λcs=>cut cs o m) λl=>K1 (.agg l):=by unfold jx;rw[wS,wS];show(match (((cellsOf (h.get p)).bind λcs=>cut cs o m).map AV.agg).map eG.val with|some (.val v)=>_|_=>_)=_;cases((cellsOf (h.get p)).bind λcs=>cut cs o m)<;>rfl
theorem run_build(H:Pos->Option AB)(n:Pos)(z:List AV)(ps:List (Nat×Nat))(xs:List AV):aG.run H n (.build z ps) xs=((cE z ps xs).map .agg).map .val:=by simp only[aG.run,QM];cases cE z ps xs<;>rfl
@[simp] theorem iq(st:St)(z:List AV)(ps:List (Nat×Nat))(xs:List AV):aq c (.build z ps) xs st K=Il (cE z ps xs) λl=>K (.agg l) st:=by rw[Lb c K (λH n=>run_build H n z ps xs) st];cases cE z ps xs<;>rfl
@[simp] theorem Gz(z:List AV)(ps:List (Nat×Nat))(xs:List AV):fh (.build z ps) xs K1=Il (cE z ps xs) λl=>K1 (.agg l):=by rw[VS K1 (λH n=>run_build H n z ps xs)];cases cE z ps xs<;>rfl
theorem cQ{α:Type}{l:List α}{m:Nat}(h:l.length=m):cut l 0 m=some l:=by
 unfold cut;rw[cZ,Za0 (by omega)];simp only[Ze6];rw[Zf7 (by omega)]
end
end Go.Ai
namespace Go.Ai
open Go
def Wf(st:St):Prop:=∀p x,st.heap.get p=some x->p.toNat<st.next.toNat
theorem bM(st:St)(b:AB):(ah st b).next=st.next.succ:=id rfl
@[simp] theorem bF{st:St}{b:AB}(h:Wf st):Wf (ah st b):=λp x hp=>by
  rw[bM,Pos.aF];by_cases e:st.next=p
  . subst e;omega
  . have:=h p x (by rwa [ah,T.bX _ e]at hp);omega
@[simp] theorem aA(st:St)(b:AB):(ah st b).heap.get st.next=some b:=T.gH _ _ _
theorem wT{st:St}{b:AB}{p:Pos}(h:p.toNat<st.next.toNat):(ah st b).heap.get p=st.heap.get p:=by
 rw[ah,T.bX _ (by intro e;subst e;omega)]
@[simp] theorem Ld{st:St}{a b:AB}:(ah (ah st a) b).heap.get st.next=some a:=by
  rw[wT (by rw[bM,Pos.aF];omega),aA]
theorem b9{st:St}{b:AB}(h:Wf st):aW st (ah st b):=λp x hp=>by rw[wT (h p x hp)];exact hp
theorem aE{st st':St}{v:AV}(hv:Plain v)(hk:aW st st'):tidy st (v,st')=(v,st):=by
 unfold tidy;rw[Zb3 ⟨hv,hk⟩]
section
variable{R : Type}(c : aj)(K : AV -> St -> Option R)
@[simp] theorem dm(x:AV)(st:St):aq c .box [x] st K=K (.ptr st.next 0) (ah st (.cells x.cells 0)):=id rfl
@[simp] theorem dh(l:List AV)(st:St):aq c (.alloc l) [] st K=K (.ptr st.next 0) (ah st (.cells l 0)):=id rfl
end
theorem T.FF{α:Type}(x y:Option α):∀(p:Pos)(t:T α),T.put x p (T.put y p t)=T.put x p t
 | .h,.e=>rfl
 | .h,.n _ _ _=>rfl
 | .o p,.e=>by simp only[T.put];rw[T.FF x y p]
 | .o p,.n _ _ _=>by simp only[T.put];rw[T.FF x y p]
 | .i p,.e=>by simp only[T.put];rw[T.FF x y p]
 | .i p,.n _ _ _=>by simp only[T.put];rw[T.FF x y p]
def bg(st:St)(p:Pos)(b:AB):St:={ heap:=st.heap.put (some b) p,next:=st.next }
@[simp] theorem dK(st:St)(p:Pos)(b:AB):(bg st p b).next=st.next:=id rfl
@[simp] theorem bG(st:St)(p:Pos)(b:AB):(bg st p b).heap.get p=some b:=T.gH _ _ _
theorem aJ{st:St}{p q:Pos}{b:AB}(h:p≠q):(bg st p b).heap.get q=st.heap.get q:=T.bX _ h _
@[simp] theorem Yp(st:St)(a b:AB):bg (ah st a) st.next b=ah st b:=by
  unfold bg ah;simp only[T.FF]
@[simp] theorem KC(st:St)(p:Pos)(a b:AB):bg (bg st p a) p b=bg st p b:=by
  unfold bg;simp only[T.FF]
theorem Pos.Yq(p:Pos):p≠p.succ:=λe=>by have:=congrArg Pos.toNat e;rw[Pos.aF]at this;omega
theorem cg{R:Type}(c:aj)(K:AV->St->Option R)(st:St)(m:Nat)(p:Pos)(o:Nat)(v:AV)(cs:List AV)(h:st.heap.get p=some (.cells cs 0))(h1:v.cells.length=m)(h2:o+m<=cs.length)(h3:aQ v.cells=true):
  aq c (.store m) [.ptr p o,v] st K=K .undef (bg st p (.cells (aX cs o v.cells) 0)):=by
 have:aG.run (λb=>st.heap.get b) st.next (.store m) [.ptr p o,v]=some (.bk .undef none (some (p,.cells (aX cs o v.cells) 0)) none):=by
  simp[aG.run,KM,h,h1,h2,h3,dc,cZ]
 unfold aq cH;rw[this];rfl
@[simp] theorem cw{R:Type}(c:aj)(K:AV->St->Option R)(st:St)(m:Nat)(v:AV)(cs:List AV)(h1:v.cells.length=m)(h2:m=cs.length)(h3:aQ v.cells=true):
   aq c (.store m) [.ptr st.next 0,v] (ah st (.cells cs 0)) K=K .undef (ah st (.cells v.cells 0)):=by
  rw[cg c K _ m st.next 0 v cs (aA _ _) h1 (by omega) h3,Yp];have:aX cs 0 v.cells=v.cells:=by unfold aX;rw[h1,h2];simp
  rw[this]
theorem auB{R:Type}(n:Option Nat)(p:Pos)(o:Nat)(st:St)(K:AV->Option R):ldr n (.ptr p o) st K=match n with
  |none=>yB ((cellsOf (st.heap.get p)).bind λcs=>cs[o]?) K
  |some m=>Il ((cellsOf (st.heap.get p)).bind λcs=>cut cs o m) λl=>K (.agg l):=by
 unfold ldr;cases n with
 |none=>rw[sW];simp only;cases((cellsOf (st.heap.get p)).bind λcs=>cs[o]?)<;>rfl
 |some m=>rw[wS];simp only;cases((cellsOf (st.heap.get p)).bind λcs=>cut cs o m)<;>rfl
@[simp] theorem aaK{R:Type}(m:Nat)(p:Pos)(o:Nat)(st:St)(K:AV->Option R):ldr (some m) (.ptr p o) st K=Il ((cellsOf (st.heap.get p)).bind λcs=>cut cs o m) λl=>K (.agg l):=auB (some m) p o st K
@[simp] theorem amU(es:Nat)(z:Bool)(rs:List (List AV)):(ro es z rs).one=true:=by unfold ro;split<;>rfl
@[simp] theorem ag3(es:Nat)(z:Bool)(rs:List (List AV)):(ro es z rs).cells=[ro es z rs]:=by unfold ro;split<;>rfl
theorem Plain.ro{es:Nat}{z:Bool}{rs:List (List AV)}(h:∀cs∈rs,∀v∈cs,Plain v):Plain (ro es z rs):=by
 unfold Go.Ai.ro;split
 . exact Plain.af
 . exact Plain.fl h
structure Grew(s s':St):Prop where
 wf:Wf s'
 keeps:aW s s'
 next:s.next.toNat<=s'.next.toNat
theorem Grew.refl{s:St}(h:Wf s):Grew s s:=⟨h,aW.refl s,Za3 _⟩
theorem Grew.trans{a b c:St}(h:Grew a b)(k:Grew b c):Grew a c:=⟨k.wf,h.keeps.trans k.keeps,Zb2 h.next k.next⟩
theorem Grew.ah{s:St}(h:Wf s)(b:AB):Grew s (ah s b):=⟨bF h,b9 h,by rw[bM,Pos.aF];omega⟩
theorem Grew.get{s s':St}(h:Grew s s'){p:Pos}{x:AB}(hp:s.heap.get p=some x):s'.heap.get p=some x:=h.keeps p x hp
end Go.Ai
end
namespace Go.Ai
section
set_option linter.all false
open Go
theorem jY{st:St}{p:Pos}{b:AB}(h:Wf st)(hp:p.toNat<st.next.toNat):Wf (bg st p b):=λq x hq=>by
 rw[dK];by_cases e:p=q
 . subst e;exact hp
 . rw[aJ e]at hq;exact h q x hq
def dst(st:St)(p:Pos)(b:AB):St:={ heap:=(st.heap.put none p).put (some b) st.next,next:=st.next.succ }
theorem apo(st:St)(p:Pos)(b:AB):(dst st p b).next=st.next.succ:=id rfl
theorem adx(st:St)(p:Pos)(b:AB):(dst st p b).heap.get st.next=some b:=T.gH _ _ _
theorem ab0{st:St}{p q:Pos}{b:AB}(h:p≠q)(h2:q.toNat<st.next.toNat):(dst st p b).heap.get q=st.heap.get q:=by
 rw[dst,T.bX _ (by intro e;subst e;omega),T.bX _ h]
theorem amV{st:St}{p:Pos}{b:AB}(h:Wf st):Wf (dst st p b):=λq x hq=>by
 rw[apo,Pos.aF];by_cases e:st.next=q
 . subst e;omega
 . rw[dst,T.bX _ e]at hq;by_cases e2:p=q
   . subst e2;rw[T.gH]at hq;cases hq
   . rw[T.bX _ e2]at hq;have:=h q x hq;omega
theorem amW{s s':St}{v:AV}(h:Grew s s')(hw:Wf s):∃fN,tidy s (v,s')=(v,fN)/\Grew s fN:=by
 unfold tidy;split
 . exact⟨s,rfl,Grew.refl hw⟩
 . exact⟨s',rfl,h⟩
theorem ady{s s':St}{v:AV}{b:Pos}{x:AB}(h:s.heap.get b=some x)(h2:s'.heap.get b≠some x):tidy s (v,s')=(v,s'):=by
 unfold tidy;rw[Za7];exact λe=>h2 (e.2 b x h)
section
variable{R : Type}(c : aj)(K : AV -> St -> Option R)(K1 : AV -> Option R)
theorem ab1(H:Pos->Option AB)(n:Pos)(es len:Nat)(z:List AV)(ps:List Nat)(xs:List AV):aG.run H n (.buildSlice es len z ps) xs=(cE (bR z len) (ps.map λi=>(i*es,es)) xs).map λcs=> .bk (.slice n 0 len (some len) es) none none (some (.cells cs 0)):=by simp only[aG.run,wu];cases cE (bR z len) (ps.map λi=>(i*es,es)) xs<;>rfl
@[simp] theorem au(st:St)(es len:Nat)(z:List AV)(ps:List Nat)(xs:List AV):aq c (.buildSlice es len z ps) xs st K=Il (cE (bR z len) (ps.map λi=>(i*es,es)) xs) λcs=>K (.slice st.next 0 len (some len) es) (ah st (.cells cs 0)):=by unfold aq cH;rw[ab1];cases cE (bR z len) (ps.map λi=>(i*es,es)) xs<;>rfl
@[simp] theorem qf(st:St)(es len:Nat)(z:List AV)(ps:List Nat)(xs:List AV)(K2:AV->AB->Option R):TA (.buildSlice es len z ps) xs st K2=Il (cE (bR z len) (ps.map λi=>(i*es,es)) xs) λcs=>K2 (.slice st.next 0 len (some len) es) (.cells cs 0):=by unfold TA;rw[ab1];cases cE (bR z len) (ps.map λi=>(i*es,es)) xs<;>rfl
@[simp] theorem VU(st:St):aq c .mkMap [] st K=K (.map st.next) (ah st (.map [] 0)):=id rfl
theorem ag4{st:St}{es bytes m:Nat}{x:AV}{new:List AV}(hm:eH x=some m)(h0:m≠0)(hb:(2*(0+m)+768)*bytes<=281474976710656)(hs:0+m<=9223372036854775807)(hx:dF es m (λb=>st.heap.get b) x=some new):
  aq c (.append es bytes) [.af,x] st K=K (.slice st.next 0 m none es) (ah st (.cells new 0)):=by
 have:aG.run (λb=>st.heap.get b) st.next (.append es bytes) [.af,x]=some (.bk (.slice st.next 0 m none es) none none (some (.cells new 0))):=by
  simp only[aG.run,lK];rw[show eH .af=some 0 from rfl,hm];simp only[cZ,dc,Za0 hb,Za0 hs,Za1 h0,hx]
 unfold aq cH;rw[this];rfl
theorem arS{st:St}{es bytes m n:Nat}{p:Pos}{x:AV}{cs gK new:List AV}(hm:eH x=some m)(h0:m≠0)(hb:(2*(n+m)+768)*bytes<=281474976710656)(hs:n+m<=9223372036854775807)(hp:st.heap.get p=some (.cells cs 0))
  (ho:dF es n (λb=>st.heap.get b) (.slice p 0 n none es)=some gK) (hx:dF es m (λb=>st.heap.get b) x=some new) (h1:aQ new=true):
  aq c (.append es bytes) [.slice p 0 n none es,x] st K=K (.slice st.next 0 (n+m) none es) (dst st p (.cells (gK++new) 0)):=by
 have:aG.run (λb=>st.heap.get b) st.next (.append es bytes) [.slice p 0 n none es,x]=some (.bk (.slice st.next 0 (n+m) none es) (some p) none (some (.cells (gK++new) 0))):=by simp only[aG.run,lK];rw[show eH (.slice p 0 n none es)=some n from rfl,hm];simp only[cZ,dc,Za0 hb,Za0 hs,Za1 h0,hx,hp,ho,h1];simp
 unfold aq cH;rw[this];rfl
theorem amX{st:St}{es bytes m:Nat}{p:Pos}{x:AV}{new:List AV}(hm:eH x=some m)(h0:m≠0)(hb:(2*(0+m)+768)*bytes<=281474976710656)(hs:0+m<=9223372036854775807)(hx:dF es m (λb=>st.heap.get b) x=some new):
  aq c (.append es bytes) [.slice p 0 0 (some 0) es,x] st K=K (.slice st.next 0 m none es) (ah st (.cells new 0)):=by
 have:aG.run (λb=>st.heap.get b) st.next (.append es bytes) [.slice p 0 0 (some 0) es,x]=some (.bk (.slice st.next 0 m none es) none none (some (.cells new 0))):=by
  have h2:¬(0+m<=0):=by omega
  have ho:dF es 0 (λb=>st.heap.get b) (.slice p 0 0 (some 0) es)=some []:=by simp[dF]
  simp only[aG.run,lK];rw[show eH (.slice p 0 0 (some 0) es)=some 0 from rfl,hm];simp only[cZ,dc,Za0 hb,Za0 hs,Za1 h0,Za1 h2,hx,ho];simp only[Zb6,Ze3]
 unfold aq cH;rw[this];rfl
theorem ag5{st:St}{es bytes:Nat}{p:Pos}{off n:Nat}{cp:Option Nat}{x:AV}(hm:eH x=some 0)(hb:(2*(n+0)+768)*bytes<=281474976710656)(hs:n+0<=9223372036854775807):
  aq c (.append es bytes) [.slice p off n cp es,x] st K=K (.slice p off n cp es) st:=by
 have:aG.run (λb=>st.heap.get b) st.next (.append es bytes) [.slice p off n cp es,x]=some (.val (.slice p off n cp es)):=by
  simp only[aG.run,lK];rw[show eH (.slice p off n cp es)=some n from rfl,hm];simp only[cZ,dc,Za0 hb,Za0 hs]
 unfold aq cH;rw[this]
theorem aeA(H:Pos->Option AB)(n:Pos)(z:AV)(m:Pos)(es:List (AV×AV×Nat))(cl:Nat)(k:AV)(h:H m=some (.map es cl))(r:Option (Nat×AV))(hf:iu .s k es 0=some r):
  aG.run H n (.lookup .s z true) [.map m,k]=some (.val (match r with|some (_,v)=> .tuple [v,.bool true]|none=> .tuple [z,.bool false])):=by
 simp only[aG.run,lH,h,hf];cases r with
 |none=>rfl
 |some p=>rfl
theorem B6(z:AV){st:St}{m:Pos}{es:List (AV×AV×Nat)}{cl:Nat}{k:AV}{r:Option (Nat×AV)}(h:st.heap.get m=some (.map es cl))(hf:iu .s k es 0=some r):
  aq c (.lookup .s z true) [.map m,k] st K=K (match r with|some (_,v)=> .tuple [v,.bool true]|none=> .tuple [z,.bool false]) st:=by
 unfold aq cH;rw[aeA _ _ z m es cl k h r hf]
theorem aeB(z:AV){h:T AB}{m:Pos}{es:List (AV×AV×Nat)}{cl:Nat}{k:AV}{r:Option (Nat×AV)}(hh:h.get m=some (.map es cl))(hf:iu .s k es 0=some r):
  jx (.lookup .s z true) [.map m,k] h (λ_=>true) K1=K1 (match r with|some (_,v)=> .tuple [v,.bool true]|none=> .tuple [z,.bool false]):=by
 unfold jx;have e:aG.run (λ_=>none) .h (.lookup .s z true) [.map m,k]=none:=rfl;rw[e];simp only;rw[aeA _ _ z m es cl k hh r hf]
theorem ai3{st:St}{m:Pos}{es:List (AV×AV×Nat)}{cl:Nat}{k:List Nat}{v:AV}(h:st.heap.get m=some (.map es cl))(hf:iu .s (.str k) es 0=some none):
  aq c (.mapSet .s) [.map m,.str k,v] st K=K .undef (bg st m (.map (es++[(.str k,v,cl)]) (cl+1))):=by
 have:aG.run (λb=>st.heap.get b) st.next (.mapSet .s) [.map m,.str k,v]=some (.bk .undef none (some (m,.map (es++[(.str k,v,cl)]) (cl+1))) none):=by
  simp[aG.run,yf,h,hf,agj]
 unfold aq cH;rw[this];rfl
theorem B7{p:Pos}{o:Nat}{h h2:T AB}{v:AV}(hv:((cellsOf (h.get p)).bind λcs=>cs[o]?)=some v)(OR:((cellsOf (h2.get p)).bind λcs=>cs[o]?)=some v)(hb:ey v v=true):
  jx (.load none) [.ptr p o] h (λv=>oY (.load none) [.ptr p o] v (nK [] h2)&&true) K1=K1 v:=by
 unfold jx;have e:aG.run (λ_=>none) .h (.load none) [.ptr p o]=none:=rfl;rw[e];simp only;rw[sW,hv];simp only[Ze5];have:oY (.load none) [.ptr p o] v (nK [] h2)=true:=by unfold oY;show(match aG.run (λb=>h2.get b) .h (.load none) [.ptr p o]with|some (.val u)=>ey u v|_=>false)=true;rw[sW,OR];exact hb
 rw[this];rfl
end
theorem kY{R:Type}(K1:AV->Option R){p:Pos}{o:Nat}{h h2:T AB}{v:AV}(hv:((cellsOf (h.get p)).bind λcs=>cs[o]?)=some v)(OR:((cellsOf (h2.get p)).bind λcs=>cs[o]?)=some v)(hb:ey v v=true):
  jx (.load none) [.ptr p o] h (λv=>oY (.load none) [.ptr p o] v (nK [] h2)) K1=K1 v:=by
 have:=B7 K1 hv OR hb;simp only[Zi3]at this;exact this
theorem Na(p:Pos)(o n es:Nat):ey (.slice p o n none es) (.slice p o n none es)=true:=by
 simp[ey,lM,fH,Pos.beq_eq.2 rfl]
theorem RE:ey .af .af=true:=rfl
inductive fV:Nat->AV->Prop
 |flat {d:Nat} {v:AV} (h:fH v v=true):fV d v
 |fl {d:Nat} {a:List (List AV)} {n:Nat} (h:∀r∈a,∀v∈r,fV d v):fV (d+1) (.fl a n)
theorem ab2{f:AV->AV->Bool}:∀{a:List AV},(∀v∈a,f v v=true)->MH f a a=true
 |[],_=>rfl
 |a::x,h=>by
  simp only[MH,h a (by simp),ab2 (λv hv=>h v (Za9 _ hv)),Zk2]
theorem VV{f:AV->AV->Bool}:∀{a:List (List AV)},(∀r∈a,∀v∈r,f v v=true)->BS f a a=true
 |[],_=>rfl
 |a::x,h=>by
  simp only[BS,ab2 (h a (by simp)),VV (λv hv=>h v (Za9 _ hv)),Zk2]
theorem RF:∀{d:Nat}{v:AV},fV d v->MI d v v=true
 |d,v,.flat h=>by
  unfold MI;split
  . simp[fH]at h
  . exact h
 |d+1,.fl a n,.fl h=>by
  unfold MI;simp[VV (λr hr v hv=>RF (h r hr v hv))]
theorem fV.ro{d es:Nat}{z:Bool}{rs:List (List AV)}(h:∀r∈rs,∀v∈r,fV d v):fV (d+1) (ro es z rs):=by
 unfold Go.Ai.ro;split
 . exact .flat rfl
 . exact .fl h
theorem VW{v:AV}(h:fV 3 v):ey v v=true:=by
 have h3:=RF h;cases h with
 |flat h=>
  cases v<;>simp[fH]at h<;>first|simp[ey,lM,fH,h]|skip
  all_goals simp_all [ey,lM,fH]
 |fl h=>exact h3
theorem ak1{v:AV}(h:fV 3 v):lM v v=true:=by
 have h3:=RF h;cases h with
 |flat h=>
  cases v<;>simp[fH]at h<;>first|simp[lM,fH,h]|skip
  all_goals simp_all [lM,fH]
 |fl h=>exact h3
theorem TE{l:List AV}(h:∀v∈l,fV 3 v):ey (.agg l) (.agg l)=true:=by
 show tL l l=true;induction l with
 |nil=>rfl
 |cons v l ih=>simp only[tL,ak1 (h v (by simp)),ih (λu hu=>h u (Za9 _ hu)),Zk2]
theorem ag6{R:Type}(K1:AV->Option R){m:Nat}{p:Pos}{o:Nat}{h h2:T AB}{l:List AV}(hv:((cellsOf (h.get p)).bind λcs=>cut cs o m)=some l)(OR:((cellsOf (h2.get p)).bind λcs=>cut cs o m)=some l)(hb:ey (.agg l) (.agg l)=true):
  jx (.load (some m)) [.ptr p o] h (λv=>oY (.load (some m)) [.ptr p o] v (nK [] h2)) K1=K1 (.agg l):=by
 unfold jx;have e:aG.run (λ_=>none) .h (.load (some m)) [.ptr p o]=none:=rfl;rw[e];simp only;rw[wS,hv];simp only[Ze5];have:oY (.load (some m)) [.ptr p o] (.agg l) (nK [] h2)=true:=by unfold oY;show(match aG.run (λb=>h2.get b) .h (.load (some m)) [.ptr p o]with|some (.val u)=>ey u (.agg l)|_=>false)=true;rw[wS,OR];exact hb
 rw[this]
theorem fV.int{d:Nat}(k:IntKind)(n:Int):fV d (.int k n):= .flat (by simp[fH,mK,dD])
theorem fV.str{d:Nat}(s:List Nat):fV d (.str s):= .flat (by simp[fH,mL])
theorem fV.bool{d:Nat}(s:Bool):fV d (.bool s):= .flat (by simp[fH])
end
section
open Go
section
variable{H : Type}(enc : TypeId × Value -> H)(P : Program)(w : World)(base : Nat)(spare : Nat -> Bool)(held : Bool)
def o8(t:TypeId)(Q:List AV->Prop):Prop:=
 ∀  (fuel:Nat)(cs:List Value)(x:DataW H×List MemPlace),DataW.trod enc P w base spare held fuel t cs=some x->
    ∃as,Q as/\∀ρ n,aK ρ n (λad=>w.cell? ad) as cs
variable{enc P w base spare held}
theorem o8.mono{t:TypeId}{Q Q':List AV->Prop}(h:o8 enc P w base spare held t Q)(k:∀as,Q as->Q' as):o8 enc P w base spare held t Q':=
 λfuel cs x hx=>by obtain⟨as,h1,h2⟩:=h fuel cs x hx;exact⟨as,k _ h1,h2⟩
theorem aeC{t:TypeId}{k:IntKind}(ht:P.underlying t=some (.int k)):o8 enc P w base spare held t λas=>∃i,as=[.int k i]/\(Lit.int k i).wf=true:=
 fun fuel cs x hx=>by
  obtain⟨n,rfl,h⟩:=DataW.trod_int ht hx;exact⟨_,⟨n,rfl,h.2⟩,λρ m=>aK.cons (.int k n) aK.nil⟩
theorem ZO {t e:TypeId}{es:Nat}{Q:List AV->Prop}(ht:P.underlying t=some (.slice e))(hc:P.cellsOf e=es)(dV:0<es)(hQ:∀as,Q as->as.length=es)(h:o8 enc P w base spare held e Q):
  o8 enc P w base spare held t λas=>∃z rs,as=[ro es z rs]/\(∀r∈rs,Q r)/\rs.length<=maxLen:=
 fun fuel cs  x hx=>by
  rcases DataW.trod_slice ht hx with⟨rfl,_⟩|⟨a,len,cap,elems,rest,n,_,rfl,_,hb,hl,hm,hlen,hel,_,_⟩
  .  exact⟨_,⟨true,[],rfl,by simp,by simp⟩,λρ m=>aK.cons .af aK.nil⟩
  .  have each:∀i,∃r row,i<len->(Q r/\w.cells? base (a.add (i*es)) es=some row/\∀ρ m,aK ρ m (λad=>w.cell? ad) r row):=by
        intro i;by_cases hi:i<len
        . have h1:=hel i hi;rw[H0 (by omega),hc]at h1;cases h2:w.cells? base (a.add (i*es)) es with
          |none=>rw[h2]at h1;cases h1
          | some row=>
            rw[h2]at h1;obtain⟨r,hr,hv⟩:=h n row _ h1;exact⟨r,row,λ_=>⟨hr,rfl,hv⟩⟩
        . exact⟨[],[],λh=>absurd h hi⟩
     obtain⟨r,each⟩:=Classical.axiomOfChoice each;obtain⟨row,hr⟩:=Classical.axiomOfChoice each;have arf:0<len->a.spot=none:=λh0=>by
        obtain⟨_,h1,_⟩:=hr 0 h0;have:=(World.cells?_some h1).2.2 0 dV;have hl:=(World.cells?_some h1).2.1;rw[H0 (by omega)]at this;simp only[Zn9,Addr.add,Zh5]at this;unfold World.cell? at this;split at this
        . split at this
          . cases this
          . rename_i h;simpa using h
        . cases this
     have auC:((List.range len).map r).length=len:=(by simp);have get:∀(i:Nat)(c:List AV),((List.range len).map r)[i]? =some c->i<len/\c=r i:=λi c hi=>by
        rw[Zb7]at hi;by_cases h:i<len
        . rw[Zh6 h]at hi;simp at hi;exact⟨h,hi.symm⟩
        . rw[Zc1 (by simpa using h)]at hi;cases hi
     refine⟨_,⟨false,(List.range len).map r,rfl,?_,by simp;omega⟩,λρ m=>aK.cons ?_ aK.nil⟩
     .  intro q hq;simp only[Zd0,Zh3]at hq;obtain⟨i,hi,rfl⟩:=hq;exact(hr i hi).1
     .  have key:aC ρ m (λad=>w.cell? ad) (.fl ((List.range len).map r) es) (.slice (some a) ((List.range len).map r).length cap):=by
          refine .fl _ es cap a (λi j=>((row i)[j]?).getD .nilFunc) (by omega) (λh0=>arf ?_) (λi c hi=> ?_) (λi j c v hi hj=> ?_) (λi j c v hi hj=> ?_)
          . apply Zl2;intro h;apply h0;have:len=0:=(by omega);subst this;rfl
          . obtain⟨h1,rfl⟩:=get i c hi;exact hQ _ (hr i h1).1
          . obtain⟨h1,rfl⟩:=get i c hi;obtain⟨q1,q2,q3⟩:=hr i h1;have hj2:j<es:=(by rw[<-hQ _ q1];exact(Za2.1 hj).1);have q4:=(World.cells?_some q2).2.2 j hj2;have q5:=(World.cells?_some q2).2.1;have hs:=arf (by omega);have e1:(a.add (i*es)).add j=⟨a.block,a.off+i*es+j,none⟩:=by
              obtain⟨aM,off,spot⟩:=a;simp only at hs;subst hs;unfold Addr.add;by_cases e1:i*es=0<;>by_cases e2:j=0<;>simp[e1,e2]
            rw[e1]at q4;show w.cell? _=_;rw[q4,H0 (by omega)];rfl
          . obtain⟨h1,rfl⟩:=get i c hi;obtain⟨q1,q2,q3⟩:=hr i h1;have hj2:j<es:=(by rw[<-hQ _ q1];exact(Za2.1 hj).1);have q5:=(World.cells?_some q2).2.1;refine(q3 ρ m).2 j v _ hj ?_;rw[H0 (by omega)];rfl
        rw[auC]at key;exact key
def RH:List (List AV->Prop)->List (List AV)->Prop
 |[],[]=>True
 |Q::Qs,p::ps=>Q p/\RH Qs ps
 |_,_=>False
def VX(P:Program)(tot:Nat):Nat->List Field->Bool
 |o,[]=>o==tot
 |o,f::fs=>f.offset==o&&VX P tot (o+P.cellsOf f.type) fs
def ag7(enc:TypeId×Value->H)(P:Program)(w:World)(base:Nat)(spare:Nat->Bool)(held:Bool):List TypeId->List (List AV->Prop)->Prop
 |[],[]=>True
 |f::fs,Q::Qs=>o8 enc P w base spare held f Q/\ag7 enc P w base spare held fs Qs
 |_,_=>False
theorem VY{tot n:Nat}:∀(fs:List Field)(Qs:List (List AV->Prop))(o:Nat)(cs:List Value),VX P tot o fs=true->ag7 enc P w base spare held (fs.map (·.type)) Qs->cs.length=tot->
  (∀f∈fs,∃y,DataW.trod enc P w base spare held n f.type ((cs.drop f.offset).take (P.cellsOf f.type))=some y)->
  ∃parts,RH Qs parts/\∀ρ m,aK ρ m (λad=>w.cell? ad) parts.flatten (cs.drop o)
 |[],[],o,cs,hc,_,hl,_=>by simp only[VX,beq_iff_eq]at hc;refine⟨[],trivial,λρ m=> ?_⟩;rw[List.drop_eq_nil_of_le (by omega)];exact aK.nil
 |f::fs,Q::Qs,o,cs,hc,hO,hl,hf=>by
  simp only[VX,Zb5,beq_iff_eq]at hc;obtain⟨y,hy⟩:=hf f (by simp);obtain⟨as,hq,hv⟩:=hO.1 n _ y hy;obtain⟨parts,hp,OR⟩:=VY fs Qs _ cs hc.2 hO.2 hl (λg hg=>hf g (Za9 _ hg));refine⟨as::parts,⟨hq,hp⟩,λρ m=> ?_⟩;have e:cs.drop o=(cs.drop f.offset).take (P.cellsOf f.type)++cs.drop (o+P.cellsOf f.type):=by
   rw[hc.1, <-Zl7,Zm2]
  rw[e,Zf6];exact(hv ρ m).append (OR ρ m)
def fieldsOf(P:Program)(t:TypeId):List Field:=match P.underlying t with
 |some (.struct fs)=>fs.toList
 |_=>[]
def ag8(P:Program)(t:TypeId):Bool:=match P.underlying t with
 |some (.struct _)=>true
 |_=>false
theorem ag9{t:TypeId}(ts:List TypeId){Qs:List (List AV->Prop)}(hs:ag8 P t=true)(sU:(fieldsOf P t).map (·.type)=ts)(hc:VX P (P.cellsOf t) 0 (fieldsOf P t)=true)(hO:ag7 enc P w base spare held ts Qs):
  o8 enc P w base spare held t λas=>∃parts,as=parts.flatten/\RH Qs parts:=
 fun fuel cs x hx=>by
  obtain⟨fs,ht⟩:∃fs,P.underlying t=some (.struct fs):=by
     unfold ag8 at hs;cases h:P.underlying t with
     |none=>rw[h]at hs;cases hs
     |some d=>rw[h]at hs;cases d<;>first|exact⟨_,rfl⟩|cases hs
  have ef:fieldsOf P t=fs.toList:=by unfold fieldsOf;rw[ht]
  rw[ef]at sU hc;subst sU;obtain⟨xs,n,_,_,hl,hxl,hf⟩:=DataW.trod_struct ht hx;obtain⟨parts,hp,hv⟩:=VY fs.toList Qs 0 cs hc hO hl (λf hf2=>by
     obtain⟨i,hi⟩:=List.getElem?_of_mem hf2;have GF:fs[i]? =some f:=(by rw[<-Zj7];exact hi);have aS:i<fs.size:=(Zd1.1 GF).1;exact⟨xs[i],by rw[hf i f GF,H0 (by omega)]⟩)
  exact⟨_,⟨parts,rfl,hp⟩,λρ m=>hv ρ m⟩
end
def Quiet(w w':World):Prop:=w'.os=w.os/\w'.tape=w.tape/\w'.output=w.output/\w.heap.size<=w'.heap.size/\∀k,k<w.heap.size->w'.heap[k]? =w.heap[k]?
def Yr:List AV->St->Option (AV×St)
 |[],st=>some (.bool true,st)
 |_,_=>none
theorem aeD{P:Program}{C:Cells}{f:FuncId}{fn:Func}{c:Code}(hf:P.funcs[f]? =some fn)(qd:¬fn.name= "runtime.NumGoroutine")(hb:fn.body=some c)
  (h:∀w:World,(∀ad u,C ad=some u->w.cell? ad=some u)->Calls P f #[] w λe w'=>e= .returned (.bool true)/\Quiet w w'):tQ P C f Yr where
 mono args st v st' hs:=by
  unfold Yr at hs;split at hs<;>first|(cases hs;done)|skip
  simp only[H5,Zc9]at hs;rw[<-hs.2];exact Za3 _
 runs ρ st w args v st' cM hs hW hv:=by
  unfold Yr at hs;split at hs<;>first|(cases hs;done)|skip
  simp only[H5,Zc9]at hs;obtain⟨rfl,rfl⟩:=hs;obtain rfl:=hv.qy;have dP:(callFunc f ([]:List Value).toArray).run P w= .ok (.enter f #[]) w:=by simp[callFunc,hf,qd,hb]
  rw[dP];refine Calls.mono (h w λad u ha=>(hW.ei ad u ha).1) λe w' he=> ?_
  obtain⟨rfl,h1,h2,h3,h4,h5⟩:=he;exact⟨ρ,.bool true,λ_ _=>rfl,Za3 _,hW.grow h4 h5,⟨h1,h2,h3,h4,λk hk _=>h5 k hk,λb x hb=> .inl ⟨b,x,hb,rfl⟩⟩⟩
theorem apq{P:Program}{C:Cells}{call:aj}{f:FuncId}{fn:Func}{c:Code}{args:List AV}{cM:List Value}{b:Bool}{n0:Pos}{bD:St}{w:World}
  (cG:iZ P C call) (hC:∀ad v,C ad=some v->w.cell? ad=some v) (hC2:∀a v,C a=some v->∀o,C ⟨a.block,o,none⟩=none->w.cell? ⟨a.block,o,none⟩=none) (hf:P.funcs[f]? =some fn) (qd:¬fn.name= "runtime.NumGoroutine") (hb:fn.body=some c)
  (ha:aK (λ_=>⟨0,0,0⟩) n0.toNat C args cM) (h:call f args { heap:= .e,next:=n0 }=some (.bool b,bD)):
  Calls P f cM.toArray w λe w'=>e= .returned (.bool b)/\Quiet w w':=by
 have hr:=cG (λ_=>⟨0,0,0⟩) { heap:= .e,next:=n0 } w f args (.bool b) bD cM h (Gw hC hC2) ha;have dP:(callFunc f cM.toArray).run P w= .ok (.enter f cM.toArray) w:=by simp[callFunc,hf,qd,hb]
 rw[dP]at hr;refine Calls.mono hr λe w' he=> ?_
 cases e with
 |returned x=>
  obtain⟨ρ',h1,_,_,_,hE⟩:=he;have:=h1.kW;subst this;exact⟨rfl,hE.os,hE.tape,hE.output,hE.size,λk hk=>hE.block k hk λb x hb=>by rw[T.dO]at hb;cases hb⟩
 |panicked c=>exact he.elim
 |outgrown=>exact he.elim
end
section
open Go Go.ChangeShapes Go.WideShapes Go.ChangeAt Go.RowKit
theorem Quiet.below{w w':World}(h:Quiet w w'):Below w.heap.size w w':=⟨h.1,h.2.1,h.2.2.1,h.2.2.2.1,h.2.2.2.2⟩
section
variable{H : Type}{enc : TypeId × Value -> H}{P : Program}
theorem TF{W W':World}(hl:laidOutB P=true)(hb:Below W.heap.size W W'):∀{ts:List TypeId}{vs:List Value}{ds:List (DataW H)}{p:List MemPlace},
  DataW.TrodAll enc P W 0 (λ_=>true) true ts vs ds p->(∀t∈ts,P.readableRec t=true/\t<P.types.size)->(∀x∈p,x.block<W.heap.size)->
  DataW.TrodAll enc P W' 0 (λb=>decide (b<W.heap.size)) true ts vs ds p
 |[],_,_,_,h,_,_=>by obtain⟨rfl,rfl,rfl⟩:=trodAll_nil h;exact trodAll_mk0
 |t::ts,_,_,_,h,hr,hx=>by
  obtain⟨v,vs1,d,ds1,a,b,rfl,rfl,rfl,h1,h2⟩:=trodAll_cons h
  exact trodAll_cons_mk (Below.trod hl (hr t (by simp)).1 (hr t (by simp)).2 h1 hb (λx Zr=>hx x (Zm7 _ Zr)))
   (TF hl hb h2 (λt ht=>hr t (Za9 _ ht)) (λx Zr=>hx x (List.mem_append_right _ Zr)))
theorem amY{f:Func}{s:ChangeSpec}{W W':World}{args:Array Value}{ds gs:List (DataW H)}{before:List MemPlace}{tb:TypeId}(hl:laidOutB P=true)
   (hW:DataW.Whole enc P f.params.toList s.vars false W args.toList ds gs before) (hv:s.vars=[]) (Gu:s.fn H (ds++gs)={ results:=[.lit (.bool true)],args:=ds })
   (hr:∀t∈f.params.toList,P.readableRec t=true/\t<P.types.size) (hB:Below W.heap.size W W') (aaL:f.resultTypes= #[tb]) (htb:P.underlying tb=some .bool):
   s.post enc P f false true false false W args (.bool true) W':=by
 have aS:=hW.lt;have jk:=hW;obtain⟨p,q,hA,hV,rfl,hfz,hnd⟩:=hW;have hq:q=[]:=by
   rw[hv]at hV;cases gs with
   |nil=>exact hV
   |cons g gs=>exact hV.elim
 subst hq;refine⟨ds,gs,p++[],[],p,[],jk,?_,?_,?_,hB.frame _,λh=>by cases h⟩
 . rw[Gu,aaL];exact trodAll_cons_mk (shut_bool htb _) trodAll_mk0
 . rw[Gu];exact TF hl hB hA hr (λx hx=>aS x (Zm7 _ hx))
 . rw[Gu,hv];rfl
end
section
variable{H : Type}{enc : TypeId × Value -> H}{P : Program}{w : World}{base : Nat}{spare : Nat -> Bool}{held : Bool}
theorem ab3{t:TypeId}{fs:Array Field}{Q:List AV->Prop}{r:Go.Reach}{b0:Nat}{v:Value}{d:DataW H}{p:List MemPlace}(ho:o8 enc P w base spare held t Q)(ht:P.underlying t=some (.struct fs))
  (hval:Value.okWide P w r b0 t v) (hd:DataW.Trod enc P w base spare held t v d p):∃as,Q as/\∀ρ n,aC ρ n (λad=>w.cell? ad) (.agg as) v:=by
 obtain⟨cs,rfl,_⟩:=okWide_struct ht hval;obtain⟨fuel,hf⟩:=hd;obtain⟨as,h1,h2⟩:=ho _ _ _ hf;refine⟨as,h1,λρ n=> ?_⟩;have h3:=h2 ρ n;refine .agg as cs (by rw[h3.1];simp[Value.cells]) λi x x' hx wD=>h3.2 i x x' hx ?_
 simpa [Value.cells]using wD
end
end
section
open Go
theorem aC.auD{ρ:Pos->Loc}{n:Nat}{C C':Cells}{v:AV}{x:Value}(hC:∀ad u,C ad=some u->C' ad=some u)(h:aC ρ n C v x):aC ρ n C' v x:=by
 induction h with
 |bool b=>exact .bool b
 |int k i=>exact .int k i
 |str s bs h=>exact .str s bs h
 |jg=>exact .jg
 |ptr b off h=>exact .ptr b off h
 |fp xs i j es aM base cell hl hc _ ih=>exact .fp xs i j es aM base cell hl (λi j cs v h1 h2=>hC _ _ (hc i j cs v h1 h2)) ih
 |af=>exact .af
 |slice b off len cap es bu a hl hc ha hk=>exact .slice b off len cap es bu a hl hc ha hk
 |fl xs es bu a cell hl hs dV hc _ ih=>exact .fl xs es bu a cell hl hs dV (λi j cs v h1 h2=>hC _ _ (hc i j cs v h1 h2)) ih
 |qG=>exact .qG
 |map b h=>exact .map b h
 |func f x y x' y' hx hy _ _ ih1 ih2=>exact .func f x y x' y' hx hy ih1 ih2
 |jO=>exact .jO
 |Bo=>exact .Bo
 |iface t v x _ ih=>exact .iface t v x ih
 |agg l cs hl _ ih=>exact .agg l cs hl ih
 |tuple l cs hl _ ih=>exact .tuple l cs hl ih
def mN(ρ:Pos->Loc)(n:Nat)(C:Cells)(w:World)(v u:AV):Prop:=∀x,aC ρ n C v x->aC ρ n (λad=>w.cell? ad) u x
section
variable{ρ : Pos -> Loc}{C : Cells}{st : St}{w : World}
theorem mN.self{n:Nat}(hC:∀ad u,C ad=some u->w.cell? ad=some u)(v:AV):mN ρ n C w v v:=λ_ h=>h.auD hC
theorem mN.agg{n:Nat}{l l':List AV}(hl:l.length=l'.length)(h:∀(i:Nat)(v u:AV),l[i]? =some v->l'[i]? =some u->mN ρ n C w v u):mN ρ n C w (.agg l) (.agg l'):=λx hx=>by
 cases hx with
 |agg _ cs h1 h2=>
  refine .agg l' cs (by omega) λi u x hu hx=> ?_
  have hi:i<l.length:=by rw[hl];exact(Za2.1 hu).1
  exact h i l[i] u (H0 hi) hu _ (h2 i _ x (H0 hi) hx)
theorem mN.slice(hW:cq ρ C st w){b:Pos}{off len es fz:Nat}{cap:Option Nat}{cs:List AV}(hb:st.heap.get b=some (.cells cs fz))(hlen:off+len*es<=cs.length){F:List (List AV)}(hF:F.length=len)
  (dV:∀(i:Nat)(r:List AV),F[i]? =some r->r.length=es)
  (hr:∀(i j:Nat)(r:List AV)(u v:AV),F[i]? =some r->r[j]? =some u->cs[off+i*es+j]? =some v->mN ρ st.next.toNat C w v u):
  mN ρ st.next.toNat C w (.slice b off len cap es) (.fl F es):=λx hx=>by
 cases hx with
 |slice  _ _ _ _ _ bu a hl hc ha hk=>
  have get:∀(i j:Nat)(r:List AV)(u:AV),F[i]? =some r->r[j]? =some u->i<len/\j<es/\off+i*es+j<cs.length/\0<bu:=λi j r u h1 h2=>by
   have g1:i<len:=(by rw[<-hF];exact(Za2.1 h1).1);have g2:j<es:=(by rw[<-dV i r h1];exact(Za2.1 h2).1);have g3:(i+1)*es<=len*es:=Zh0 _ g1;rw[Zg4]at g3;exact⟨g1,g2,by omega,by omega⟩
  have cell:∀(i j:Nat)(r:List AV)(u:AV),F[i]? =some r->r[j]? =some u->∃v y,cs[off+i*es+j]? =some v/\w.cell? ⟨a.block,a.off+i*es+j,none⟩=some y/\aC ρ st.next.toNat C v y:=λi j r u h1 h2=>by
   obtain⟨g1,g2,g3,g4⟩:=get i j r u h1 h2;obtain⟨_,rfl,_⟩:=ha (by omega);have hv:=H0 g3;obtain⟨y,q1,q2⟩:=hW.cell hb hv;exact⟨_,y,hv,by rw[show(ρ b).base+off+i*es+j=(ρ b).base+(off+i*es+j)by omega];exact q1,q2⟩
  have key:aC ρ st.next.toNat (λad=>w.cell? ad) (.fl F es) (.slice (some a) F.length bu):=by
   refine .fl F es bu a (λi j=>(w.cell? ⟨a.block,a.off+i*es+j,none⟩).getD .nilFunc) (by omega) (λh0=> ?_) dV (λi j r u h1 h2=> ?_) (λi j r u h1 h2=> ?_)
   .    cases auE:len with
        |zero=>exfalso;apply h0;rw[auE]at hF;exact List.length_eq_zero_iff.1 hF
        |succ m=>
         obtain⟨_,rfl,_⟩:=ha (by omega);rfl
   .    obtain⟨v,y,_,q2,_⟩:=cell i j r u h1 h2;show w.cell? _=_;rw[q2];rfl
   .    obtain⟨v,y,q1,q2,q3⟩:=cell i j r u h1 h2;rw[q2];exact hr i j r u v h1 h2 q1 y q3
  rw[hF]at key;exact key
end
def fW (st:St):Nat->AV->AV
 |0,v=>v
 |  d+  1,.slice b off len cap es=>match decide (len=0)with
    |true=> .fl [] es
    |false=>match st.heap.get b with
     |  some (.cells cs _)=>match decide (off+len*es<=cs.length)with
        |true=> .fl ((List.range len).map λi=>((cs.drop (off+i*es)).take es).map (fW st d)) es
        |false=> .slice b off len cap es
     |_=> .slice b off len cap es
 |  d+1,.ptr b off=>match st.heap.get b with
    |some (.cells cs _)=> .fp [cs.map (fW st d)] 0 off
    |_=> .ptr b off
 |d+1,.agg l=> .agg (l.map (fW st d))
 |d+1,.func f x y=> .func f (x.map (fW st d)) (y.map (fW st d))
 |_,v=>v
theorem aeE(st:St)(d:Nat)(b:Pos)(off len:Nat)(cap:Option Nat)(es:Nat):fW st (d+1) (.slice b off len cap es)=match decide (len=0)with
 |true=> .fl [] es
 |false=>match st.heap.get b with
  |     some (.cells cs _)=>match decide (off+len*es<=cs.length)with
        |true=> .fl ((List.range len).map λi=>((cs.drop (off+i*es)).take es).map (fW st d)) es
        |false=> .slice b off len cap es
  |_=> .slice b off len cap es:=rfl
theorem arT(st:St)(d:Nat)(b:Pos)(off:Nat):fW st (d+1) (.ptr b off)=match st.heap.get b with
 |some (.cells cs _)=> .fp [cs.map (fW st d)] 0 off
 |_=> .ptr b off:=rfl
theorem ajT(st:St)(d:Nat)(l:List AV):fW st (d+1) (.agg l)= .agg (l.map (fW st d)):=rfl
theorem apr(st:St)(d:Nat)(f:FuncId)(x y:List AV):fW st (d+1) (.func f x y)= .func f (x.map (fW st d)) (y.map (fW st d)):=rfl
section
variable{ρ : Pos -> Loc}{C : Cells}{st : St}{w : World}
theorem mN.ptr(hW:cq ρ C st w){b:Pos}{off fz:Nat}{cs F:List AV}(hb:st.heap.get b=some (.cells cs fz))(hF:F.length=cs.length)
  (hr:∀(j:Nat)(u v:AV),F[j]? =some u->cs[j]? =some v->mN ρ st.next.toNat C w v u):mN ρ st.next.toNat C w (.ptr b off) (.fp [F] 0 off):=λx hx=>by
 cases hx with
 |ptr   _ _ h=>
  have row:∀(i j:Nat)(r:List AV)(u:AV),[F][i]? =some r->r[j]? =some u->i=0/\∃v y,cs[j]? =some v/\w.cell? ⟨(ρ b).aM,(ρ b).base+j,none⟩=some y/\aC ρ st.next.toNat C v y/\F[j]? =some u:=λi j r u h1 h2=>by
   have hi:i=0:=(by have:=(Za2.1 h1).1;simp at this;exact this);subst hi;simp at h1;subst h1;have hj:j<cs.length:=(by rw[<-hF];exact(Za2.1 h2).1);obtain⟨y,q1,q2⟩:=hW.cell hb (H0 hj);exact⟨rfl,_,y,H0 hj,q1,q2,h2⟩
  have key:aC ρ st.next.toNat (λad=>w.cell? ad) (.fp [F] 0 off) (.pointer (some ⟨(ρ b).aM,(ρ b).base+0*cs.length+off,none⟩)):=by
   refine .fp [F] 0 off cs.length (ρ b).aM (ρ b).base (λ_ j=>(w.cell? ⟨(ρ b).aM,(ρ b).base+j,none⟩).getD .nilFunc) (λi r h1=> ?_) (λi j r u h1 h2=> ?_) (λi j r u h1 h2=> ?_)
   .    have hi:i=0:=(by have:=(Za2.1 h1).1;simp at this;exact this);subst hi;simp at h1;subst h1;exact hF
   .    obtain⟨rfl,v,y,_,q2,_⟩:=row i j r u h1 h2;show w.cell? _=_;rw[show(ρ b).base+0*cs.length+j=(ρ b).base+j by omega,q2];rfl
   .    obtain⟨rfl,v,y,q1,q2,q3,q4⟩:=row i j r u h1 h2;rw[q2];exact hr j u v q4 q1 y q3
  rw[show(ρ b).base+0*cs.length+off=(ρ b).base+off by omega]at key;exact key
theorem mN.fW (hW:cq ρ C st w):∀(d:Nat)(v:AV),mN ρ st.next.toNat C w v (fW st d v)
 |0,v=>mN.self (λad u h=>(hW.ei ad u h).1) v
 |d+    1,v=>   by
  have self:=mN.self (ρ:=ρ) (n:=st.next.toNat) (λad u h=>(hW.ei ad u h).1) v;cases v with
  |slice    b off len cap es=>
   rw[aeE];split
   .    rename_i h0;obtain rfl:=Zh1 h0;intro x hx;cases hx with
        | slice _ _ _ _ _ bu a hl hc ha hk=>
          exact .fl [] es bu a (λ_ _=> .nilFunc) (Zi0 _) (λh=>absurd rfl h) (λi c h=>by simp at h) (λi j c v h=>by simp at h) (λi j c v h=>by simp at h)
   split
   .    rename_i cs fz hb;split
        . rename_i hle;have hle:=Zh1 hle;refine mN.slice hW hb hle (by simp) (λi r hi=> ?_) (λi j r u v hi hj hv=> ?_)
          . rw[Zb7]at hi;by_cases h:i<len
            . rw[Zh6 h]at hi;simp only[Ze5,H5]at hi;subst hi;have g3:(i+1)*es<=len*es:=Zh0 _ h;rw[Zg4]at g3;simp;omega
            . rw[Zc1 (by simpa using h)]at hi;cases hi
          . rw[ Zb7]at hi;by_cases h:i<len
            . rw[Zh6 h]at hi;simp only[Ze5,H5]at hi;subst hi;rw[Zb7,Ze1]at hj;split at hj
              . rw[Ze7,hv]at hj;simp only[Ze5,H5]at hj;subst hj;exact mN.fW hW d v
              . cases hj
            . rw[Zc1 (by simpa using h)]at hi;cases hi
        . exact self
   .    exact self
  |ptr b off=>
   rw[arT];split
   .    rename_i cs fz hb;refine mN.ptr hW hb (by simp) (λj u v hu hv=> ?_);rw[Zb7,hv]at hu;simp only[Ze5,H5]at hu;subst hu;exact mN.fW hW d v
   .    exact self
  |agg l=>
   rw[ajT];refine mN.agg (by simp) (λi v u h1 h2=> ?_);rw[Zb7,h1]at h2;simp only[Ze5,H5]at h2;subst h2;exact mN.fW hW d v
  |func f x y=>
   rw[apr];intro v' hv;cases hv with
   |    func _ _ _ x' y' hx hy h1 h2=>
        have one:∀(l:List AV)(xs:Array Value),(∀(i:Nat)(v:AV)(v':Value),l[i]? =some v->xs[i]? =some v'->aC ρ st.next.toNat C v v')->∀(i:Nat)(v:AV)(v':Value),(l.map (Go.Ai.fW st d))[i]? =some v->xs[i]? =some v'->aC ρ st.next.toNat (λad=>w.cell? ad) v v':=λl xs h i u v' hu hx=>by
          rw[Zb7]at hu;cases hg:l[i]? with
          |none=>rw[hg]at hu;cases hu
          | some v0=>
            rw[hg]at hu;simp only[Ze5,H5]at hu;subst hu;exact mN.fW hW d v0 _ (h i v0 v' hg hx)
        exact .func f _ _ x' y' (by simpa using hx) (by simpa using hy) (one x x' h1) (one y y' h2)
  |_=>exact self
theorem aK.fW(hW:cq ρ C st w)(d:Nat){l:List AV}{xs:List Value}(h:aK ρ st.next.toNat C l xs):aK ρ st.next.toNat (λad=>w.cell? ad) (l.map (Go.Ai.fW st d)) xs:=
 ⟨by rw[<-h.1];simp,λi u x hu hx=>by
  rw[Zb7]at hu;cases hv:l[i]? with
  |none=>rw[hv]at hu;cases hu
  |  some v=>
     rw[hv]at hu;simp only[Ze5,H5]at hu;subst hu;exact mN.fW hW d v _ (h.2 i v x hv hx)⟩
end
def bK(v:AV):Prop:=∀(ρ:Pos->Loc)(n:Nat)(C C':Cells)(x:Value),aC ρ n C v x->aC ρ n C' v x
theorem bK.bool(b:Bool):bK (.bool b):=λ_ _ _ _ _ h=>by cases h;exact .bool b
theorem bK.int(k:IntKind)(i:Int):bK (.int k i):=λ_ _ _ _ _ h=>by cases h;exact .int k i
theorem bK.str(s:List Nat):bK (.str s):=λ_ _ _ _ _ h=>by cases h with|str _ bs h=>exact .str s bs h
theorem bK.af:bK .af:=λ_ _ _ _ _ h=>by cases h;exact .af
theorem bK.jO:bK .jO:=λ_ _ _ _ _ h=>by cases h;exact .jO
theorem bK.ptr(b:Pos)(o:Nat):bK (.ptr b o):=λ_ _ _ _ _ h=>by cases h with|ptr _ _ h=>exact .ptr b o h
theorem bK.map(b:Pos):bK (.map b):=λ_ _ _ _ _ h=>by cases h with|map _ h=>exact .map b h
theorem bK.slice(b:Pos)(o l:Nat)(c:Option Nat)(es:Nat):bK (.slice b o l c es):=λ_ _ _ _ _ h=>by
 cases h with|slice _ _ _ _ _ bu a h1 h2 h3 h4=>exact .slice b o l c es bu a h1 h2 h3 h4
theorem bK.tuple{l:List AV}(hl:∀v∈l,bK v):bK (.tuple l):=λ_ _ _ _ _ h=>by
 cases h with|tuple _ cs hx h1=>exact .tuple l cs hx λi v x hv hx=>hl v (Zb9 hv) _ _ _ _ _ (h1 i v x hv hx)
theorem bK.agg{l:List AV}(hl:∀v∈l,bK v):bK (.agg l):=λ_ _ _ _ _ h=>by
 cases h with|agg _ cs hx h1=>exact .agg l cs hx λi v x hv hx=>hl v (Zb9 hv) _ _ _ _ _ (h1 i v x hv hx)
theorem bK.func(f:FuncId){a b:List AV}(ha:∀v∈a,bK v)(hb:∀v∈b,bK v):bK (.func f a b):=λ_ _ _ _ _ h=>by
 cases h with
 |func _ _ _ a' b' hx hy h1 h2=>exact .func f a b a' b' hx hy (λi v x hv hx=>ha v (Zb9 hv) _ _ _ _ _ (h1 i v x hv hx)) (λi v x hv hx=>hb v (Zb9 hv) _ _ _ _ _ (h2 i v x hv hx))
def Ki:AB->Prop
 | .cells cs _=>∀v∈cs,bK v
 | .map es _=>∀e∈es,bK e.1/\bK e.2.1
theorem Ki.rel{x:AB}(h:Ki x){ρ:Pos->Loc}{n:Nat}{C C':Cells}{L:Loc}{w:World}(k:tM ρ n C L w x):tM ρ n C' L w x:=by
 cases x with
 |cells cs fz=>
  obtain⟨c,e,fr,h1,h2,h3,h4,h5⟩:=k;exact⟨c,e,fr,h1,h2,h3,⟨h4.1,λi v x hv hx=>h v (Zb9 hv) _ _ _ _ _ (h4.2 i v x hv hx)⟩,h5⟩
 |map es clock=>
  obtain⟨es',h1,h2,h3⟩:=k;exact⟨es',h1,h2,λi e e' he rH=>let⟨a,b,c⟩:=h3 i e e' he rH;⟨(h e (Zb9 he)).1 _ _ _ _ _ a,(h e (Zb9 he)).2 _ _ _ _ _ b,c⟩⟩
def T.both{α:Type}:T α->T α->T α
 |t,.e=>t
 | .e,t=>t
 | .n l v r,.n l' v' r'=> .n (T.both l l') (v.or v') (T.both r r')
theorem T.amZ{α:Type}(t:T α):T.both t .e=t:=by cases t<;>rfl
theorem T.FG{α:Type}:∀(p:Pos)(t t':T α),(T.both t t').get p=(t.get p).or (t'.get p)
 |p,t,.e=>by rw[T.amZ,T.dO];simp
 |p,.e,.n l v r=>by rw[T.dO];rfl
 | .h,.n l v r,.n l' v' r'=>rfl
 | .o p,.n l v r,.n l' v' r'=>T.FG p l l'
 | .i p,.n l v r,.n l' v' r'=>T.FG p r r'
def T.keep{α:Type}(P:α->Bool):T α->T α
 | .e=> .e
 | .n l v r=> .n (T.keep P l) (v.filter P) (T.keep P r)
theorem T.RI{α:Type}(P:α->Bool):∀(p:Pos)(t:T α),(T.keep P t).get p=(t.get p).filter P
 |p,.e=>by rw[T.keep,T.dO];rfl
 | .h,.n l v r=>rfl
 | .o p,.n l v r=>T.RI P p l
 | .i p,.n l v r=>T.RI P p r
open Classical in
noncomputable def CW(t:T AB):T AB:=T.keep (λx=>decide (Ki x)) t
theorem aeF{t:T AB}{p:Pos}{x:AB}(h:(CW t).get p=some x):t.get p=some x/\Ki x:=by
 unfold CW at h;rw[T.RI]at h;cases hg:t.get p with
 |none=>rw[hg]at h;cases h
 |some y=>
  rw[hg]at h;simp only[Option.filter]at h;split at h
  . rename_i hb;cases h;exact⟨rfl,@Zh1 _ (Classical.propDecidable _) hb⟩
  . cases h
theorem am0{t:T AB}{p:Pos}{x:AB}(h:t.get p=some x)(hb:Ki x):(CW t).get p=some x:=by
 unfold CW;rw[T.RI,h];simp[Option.filter,hb]
theorem arU:CW .e= .e:=rfl
def Shut(n0:Pos)(r:AV×St):Prop:=bK r.1/\n0.toNat<=r.2.next.toNat
open Classical in
noncomputable def VZ(call:aj)(f:FuncId)(d:Nat):List AV->St->Option (AV×St):=λargs st=>
 match call f (args.map (fW st d)) { heap:= .e,next:=st.next }with
 |some (v,bD)=>if Shut st.next (v,bD)then some (v,{ heap:=T.both st.heap (CW bD.heap),next:=bD.next })else none
 |none=>none
theorem ajU{call:aj}{f:FuncId}{d:Nat}{args:List AV}{st:St}{v:AV}{bD:St}(h:call f (args.map (fW st d)) { heap:= .e,next:=st.next }=some (v,bD))(hs:Shut st.next (v,bD)):
  VZ call f d args st=some (v,{ heap:=T.both st.heap (CW bD.heap),next:=bD.next }):=by
 unfold VZ;rw[h];simp only;rw[Zb3 hs]
theorem aps{call:aj}{f:FuncId}{d:Nat}{args:List AV}{st:St}{v:AV}(h:call f (args.map (fW st d)) { heap:= .e,next:=st.next }=some (v,{ heap:= .e,next:=st.next }))(hs:bK v):
  VZ call f d args st=some (v,st):=by
 rw[ajU h ⟨hs,Za3 _⟩];simp only[arU,T.amZ]
theorem apt {P:Program}{C:Cells}{f:FuncId}{call:aj}{d:Nat}(cV:∀C':Cells,(∀ad u,C ad=some u->C' ad=some u)->iZ P C' call):tQ P C f (VZ call f d) where
 mono args st v st' h:=by
  unfold VZ at h;split at h
  . split at h
    .   rename_i hs;simp only[H5,Zc9]at h;rw[<-h.2];exact hs.2
    .   cases h
  . cases h
 runs ρ st  w args v st' cM h hW hv:=by
  unfold VZ at h;split at h
  . rename_i v1 bD hc;split at h
    .   rename_i hs;simp only[H5,Zc9]at h;obtain⟨rfl,rfl⟩:=h;obtain⟨s1,s3⟩:=hs;have hr:=cV (λad=>w.cell? ad) (λad u ha=>(hW.ei ad u ha).1) ρ { heap:= .e,next:=st.next } w f _ v1 bD cM hc (Gw (λad u ha=>ha) λa u _ o ho=>ho) (aK.fW hW d hv);refine Reaches.mono (λx w' he=> ?_) hr
        . obtain⟨ρ',h1,h2,h3,h4,hE⟩:=he;have un:∀k,k<w.heap.size->w'.heap[k]? =w.heap[k]? :=λk hk=>hE.block k hk λb x hb=>by rw[T.dO]at hb;cases hb
          have new:∀b x,bD.heap.get b=some x->w.heap.size<=(ρ' b).aM:=λb x hx=>by
            rcases hE.yh b x hx with⟨b',x',eN,_⟩|hh
            . rw[T.dO]at eN;cases eN
            . exact hh
          have both:∀b x,(T.both st.heap (CW bD.heap)).get b=some x->(st.heap.get b=some x/\ρ' b=ρ b)\/(bD.heap.get b=some x/\Ki x):=λb x hx=>by
            rw[T.FG]at hx;cases hg:st.heap.get b with
            |none=>rw[hg]at hx;exact .inr (aeF (by simpa using hx))
            |some y=>rw[hg]at hx;simp at hx;subst hx;exact .inl ⟨rfl,h2 b (hW.live b y hg).1⟩
          refine⟨ρ',s1 _ _ _ _ _ h1,h2,s3,⟨λb x hx=> ?_,λb b' x x' hx wD zC=> ?_,λa u ha=> ?_,λa u ha o ho=> ?_⟩,⟨hE.os,hE.tape,hE.output,hE.size,λk hk _=>un k hk,λb x hx=> ?_⟩⟩
          . rcases both b x hx with⟨hg,bE⟩|⟨hg,af4⟩
            . obtain⟨l1,l2,l3⟩:=hW.live b x hg;refine⟨Zc8 l1 s3,by rw[bE];exact Zc8 l2 hE.size,?_⟩;rw[bE];exact(l3.of_heap (un _ l2)).mono h2 s3
            . obtain⟨l1,l2,l3⟩:=h4.live b x hg;exact⟨l1,l2,af4.rel l3⟩
          . rcases both b x hx with⟨hg,bE⟩|⟨hg,af4⟩
            . rcases both b' x' wD with⟨CC,FA⟩|⟨CC,_⟩
              . rw[bE,FA]at zC;exact hW.inj b b' x x' hg CC zC
              . have q1:=(hW.live b x hg).2.1;have q2:=new b' x' CC;rw[bE]at zC;omega
            . rcases both b' x' wD with⟨CC,FA⟩|⟨CC,_⟩
              . have q1:=(hW.live b' x' CC).2.1;have q2:=new b x hg;rw[FA]at zC;omega
              . exact h4.inj b b' x x' hg CC zC
          . obtain⟨c1,c2⟩:=hW.ei a u ha;have aS:a.block<w.heap.size:=World.block_lt_of_cell? _ _ c1;refine⟨(h4.ei a u c1).1,λb x hx=> ?_⟩;rcases both b x hx with⟨hg,bE⟩|⟨hg,af4⟩
            . rw[bE];exact c2 b x hg
            . have:=new b x hg;omega
          . have aS:a.block<w.heap.size:=World.block_lt_of_cell? _ _ (hW.ei a u ha).1;rw[World.cell?_of_block (w:=w) (a:=⟨a.block,o,none⟩) (un _ aS)];exact hW.whole a u ha o ho
          . rcases both b x hx with⟨hg,bE⟩|⟨hg,af4⟩
            . exact .inl ⟨b,x,hg,by rw[bE]⟩
            . exact .inr (new b x hg)
    .   cases h
  . cases h
theorem ajV(H:Pos->Option AB)(n:Pos)(k k':IntKind)(a b:Int):aG.run H n .minB [.int k a,.int k' b]=some (.val (.int k (min a b))):=by
 show some (eG.val (.int k (match Bb b a with|true=>b|false=>a)))=_;rw[fc];by_cases h:b<a
 . rw[Za0 h];simp only;rw[Int.min_eq_right (by omega)]
 . rw[Za1 h];simp only;rw[Int.min_eq_left (by omega)]
theorem arV(H:Pos->Option AB)(n:Pos)(k k':IntKind)(a b:Int):aG.run H n .maxB [.int k a,.int k' b]=some (.val (.int k (max a b))):=by
 show some (eG.val (.int k (match Bb a b with|true=>b|false=>a)))=_;rw[fc];by_cases h:a<b
 . rw[Za0 h];simp only;rw[Int.max_eq_right (by omega)]
 . rw[Za1 h];simp only;rw[Int.max_eq_left (by omega)]
theorem arW(H:Pos->Option AB)(n:Pos)(q:gP)(k:IntKind)(a b:Int)(hb:b≠0):aG.run H n (.bin .quo q) [.int k a,.int k b]=some (.val (.int k (av k (a.tdiv b)))):=by
 simp[aG.run,ju,pz,dD,nh,hb]
theorem arX(H:Pos->Option AB)(n:Pos)(q:gP)(k:IntKind)(a b:Int)(hb:b≠0):aG.run H n (.bin .rem q) [.int k a,.int k b]=some (.val (.int k (a.tmod b))):=by
 simp[aG.run,ju,pz,dD,nh,hb]
section
variable{R : Type}(c : aj)(K : AV -> St -> Option R)(st : St)
@[simp] theorem ajW(k k':IntKind)(a b:Int):aq c .minB [.int k a,.int k' b] st K=K (.int k (min a b)) st:=aR c K (λH n=>ajV H n k k' a b) st
@[simp] theorem avp(k k':IntKind)(a b:Int):aq c .maxB [.int k a,.int k' b] st K=K (.int k (max a b)) st:=aR c K (λH n=>arV H n k k' a b) st
theorem arY(q:gP)(k:IntKind)(a b:Int)(hb:b≠0):aq c (.bin .quo q) [.int k a,.int k b] st K=K (.int k (av k (a.tdiv b))) st:=aR c K (λH n=>arW H n q k a b hb) st
theorem adz(q:gP)(k:IntKind)(a b:Int)(hb:b≠0):aq c (.bin .rem q) [.int k a,.int k b] st K=K (.int k (a.tmod b)) st:=aR c K (λH n=>arX H n q k a b hb) st
@[simp] theorem oq(q:gP)(k:IntKind)(a:Int):aq c (.bin .quo q) [.int k a,.int k 2] st K=K (.int k (av k (a.tdiv 2))) st:=arY c K st q k a 2 (by decide)
@[simp] theorem gV(q:gP)(k:IntKind)(a:Int):aq c (.bin .rem q) [.int k a,.int k 2] st K=K (.int k (a.tmod 2)) st:=adz c K st q k a 2 (by decide)
end
def aL:AV->Option Pos
 | .slice b _ n cap _=>if cap=some 0/\n=0 then none else some b
 |_=>none
theorem sY{b b':Pos}{off n es:Nat}{cap:Option Nat}(h:aL (.slice b off n cap es)=some b'):b=b':=by
 simp only[aL]at h;split at h
 . cases h
 . exact Zg3 h
theorem qp(b:Pos)(off n es:Nat):aL (.slice b off n none es)=some b:=by simp[aL]
theorem lV(b:Pos)(off es:Nat):aL (.slice b off 0 (some 0) es)=none:=by simp[aL]
def QS(es:Nat)(s:St)(v:AV)(rows:List (List AV)):Prop:=
 (v= .af/\rows=[])\/(∃b off cap cs,v= .slice b off rows.length cap es/\s.heap.get b=some (.cells cs 0)/\off+rows.length*es<=cs.length/\(cs.drop off).take (rows.length*es)=rows.flatten/\(cap=none\/cap=some rows.length))\/
    (∃b off,v= .slice b off 0 (some 0) es/\rows=[])
theorem QS.nil{es:Nat}{s:St}:QS es s .af []:= .inl ⟨rfl,rfl⟩
theorem QS.mono{es:Nat}{s s':St}{v:AV}{rows:List (List AV)}(h:QS es s v rows)(hk:∀b x,aL v=some b->s.heap.get b=some x->s'.heap.get b=some x):QS es s' v rows:=by
 rcases h with⟨rfl,rfl⟩|⟨b,off,cap,cs,rfl,h1,h2,h3,h4⟩|⟨b,off,rfl,rfl⟩
 . exact .inl ⟨rfl,rfl⟩
 . by_cases h0:cap=some 0/\rows.length=0
   . obtain⟨rfl,h0⟩:=h0;refine .inr (.inr ⟨b,off,by rw[h0],Zc4 h0⟩)
   . exact .inr (.inl ⟨b,off,cap,cs,rfl,hk b _ (by simp only[aL];rw[Za7 h0]) h1,h2,h3,h4⟩)
 . exact .inr (.inr ⟨b,off,rfl,rfl⟩)
theorem QS.len{es:Nat}{s:St}{v:AV}{rows:List (List AV)}(h:QS es s v rows):eH v=some rows.length:=by rcases h with⟨rfl,rfl⟩|⟨b,off,cap,cs,rfl,_⟩|⟨b,off,rfl,rfl⟩<;>rfl
theorem QS.lt{es:Nat}{s:St}{v:AV}{rows:List (List AV)}(h:QS es s v rows)(hw:Wf s){b:Pos}(hb:aL v=some b):b.toNat<s.next.toNat:=by
 rcases h with⟨rfl,rfl⟩|⟨b',off,cap,cs,rfl,h1,_⟩|⟨b',off,rfl,rfl⟩
 . cases hb
 . obtain rfl:=sY hb;exact hw _ _ h1
 . rw[lV]at hb;cases hb
theorem QS.first{es:Nat}{s:St}{v:AV}{rows:List (List AV)}(h:QS es s v rows)(hr:∀r∈rows,r.length=es):dF es rows.length (λb=>s.heap.get b) v=some rows.flatten:=by
 rcases h with⟨rfl,rfl⟩|⟨b,off,cap,cs,rfl,h1,h2,h3,h4⟩|⟨b,off,rfl,rfl⟩
 . rfl
 rotate_left
 . simp[dF,dc]
 . by_cases h0:rows.length*es=0
   . simp only[dF,dc,Za0 h0];have:rows.flatten=[]:=(by rw[<-h3,h0];simp);rw[this]
   . simp only[dF,dc,Za1 h0,h1];unfold cut;rw[cZ,Za0 h2];simp only;rw[h3]
theorem QS.app{R:Type}{c:aj}{es bytes:Nat}{s:St}{v:AV}{rows:List (List AV)}(hw:Wf s)(h:QS es s v rows)(hr:∀r∈rows,r.length=es){q:Pos}{row:List AV}(hq:s.heap.get q=some (.cells row 0))(gG:row.length=es)(h1:aQ row=true)
   (dV:es≠0) (hb:(2*(rows.length+1)+768)*bytes<=281474976710656) (hn:rows.length<=4000000):
   ∃ s5,(∀(K:AV->St->Option R),aq c (.append es bytes) [v,.slice q 0 1 (some 1) es] s K=K (.slice s.next 0 (rows.length+1) none es) s5)/\QS es s5 (.slice s.next 0 (rows.length+1) none es) (rows++[row])/\
     Wf s5/\s5.next=s.next.succ/\(∀p,aL v≠some p->p.toNat<s.next.toNat->s5.heap.get p=s.heap.get p)/\s5.heap.get s.next=some (.cells (rows.flatten++row) 0):=by
 have hx:dF es 1 (λb=>s.heap.get b) (.slice q 0 1 (some 1) es)=some row:=by simp only[dF,dc,Zp0,Za1 dV,hq];exact cQ gG
 have ho:=h.first hr;have hlen:rows.flatten.length=rows.length*es:=by
   clear h ho hn hb;induction rows with
   |nil=>simp
   | cons r rows ih=>
     have:=ih (λx hx=>hr x (Za9 _ hx));have h2:=hr r (by simp);simp only[Zf6,Ze8,Zc6,Zg4];omega
 have new:∀(s5:St),s5.heap.get s.next=some (.cells (rows.flatten++row) 0)->QS es s5 (.slice s.next 0 (rows.length+1) none es) (rows++[row]):=λs5 hs=>by
   refine .inr (.inl ⟨s.next,0,none,rows.flatten++row,by simp,hs,?_,?_,.inl rfl⟩)
   . simp only[Ze8,Zc6,Zi9,Zb6,Zj3,Zp0,hlen,gG];omega
   . simp only[Ze6,List.flatten_append,Zf6,List.flatten_nil,Ze0];refine Zf7 ?_;simp only[Ze8,Zc6,Zi9,Zb6,Zj3,Zp0,hlen,gG];omega
 have xN:(2*(rows.length+1)+768)*bytes<=281474976710656:=hb;have rI:rows.length+1<=9223372036854775807:=by omega
 rcases h with⟨rfl,rfl⟩|⟨b,off,cap,cs,rfl,g1,g2,g3,g4⟩|⟨b,off,rfl,rfl⟩
 rotate_right
 . have run:aG.run (λb=>s.heap.get b) s.next (.append es bytes) [.slice b off 0 (some 0) es,.slice q 0 1 (some 1) es]=some (.bk (.slice s.next 0 (0+1) none es) none none (some (.cells ([]++row) 0))):=(by have h2:¬(0+1<=0):=(by omega);have Vv:dF es 0 (λb=>s.heap.get b) (.slice b off 0 (some 0) es)=some []:=(by simp[dF,dc]);simp only[aG.run,lK];rw[show eH (.slice b off 0 (some 0) es)=some 0 from rfl,show eH (.slice q 0 1 (some 1) es)=some 1 from rfl];have hb3:(2*(0+1)+768)*bytes<=281474976710656:=(by simpa using hb);simp only[cZ,dc,Za0 hb3,Za1 h2,hx,Vv];simp);refine⟨ah s (.cells row 0),λK=> ?_,?_,bF hw,rfl,λp _ hp=>wT hp,by simpa using aA s (.cells row 0)⟩
   . unfold aq cH;simp only[Zi9]at run ⊢; rw[run];rfl
   . simpa using new (ah s (.cells row 0)) (by simpa using aA s (.cells row 0))
 . refine⟨ah s (.cells row 0),λK=>ag4 c K (m:=1) rfl (by omega) (by simpa using hb) (by omega) hx,?_,bF hw,rfl,λp _ hp=>wT hp,by simpa using aA s (.cells row 0)⟩;simpa using new (ah s (.cells row 0)) (by simpa using aA s (.cells row 0))
 . rcases g4 with rfl|rfl
   . have run:aG.run (λb=>s.heap.get b) s.next (.append es bytes) [.slice b off rows.length none es,.slice q 0 1 (some 1) es]=some (.bk (.slice s.next 0 (rows.length+1) none es) (some b) none (some (.cells (rows.flatten++row) (0 - off)))):=(by simp only[aG.run,lK];rw[show eH (.slice b off rows.length none es)=some rows.length from rfl,show eH (.slice q 0 1 (some 1) es)=some 1 from rfl];simp only[cZ,dc,Za0 xN,Za0 rI,hx,g1,ho,h1];simp);refine⟨dst s b (.cells (rows.flatten++row) 0),λK=> ?_,new _ (adx _ _ _),amV hw,rfl,λp hp hl=>ab0 (λe=>hp (by rw[e,qp])) hl,adx _ _ _⟩;unfold aq cH;rw[run];simp only[Nat.zero_sub];rfl
   . have h2:¬(rows.length+1<=rows.length):=(by omega);have run:aG.run (λb=>s.heap.get b) s.next (.append es bytes) [.slice b off rows.length (some rows.length) es,.slice q 0 1 (some 1) es]=some (.bk (.slice s.next 0 (rows.length+1) none es) none none (some (.cells (rows.flatten++row) 0))):=by
        simp only[aG.run,lK];rw[show eH (.slice b off rows.length (some rows.length) es)=some rows.length from rfl,show eH (.slice q 0 1 (some 1) es)=some 1 from rfl];simp only[cZ,dc,Za0 xN,Za0 rI,Za1 h2,hx,ho]
     refine⟨ah s (.cells (rows.flatten++row) 0),λK=> ?_,new _ (aA _ _),bF hw,rfl,λp _ hp=>wT hp,aA _ _⟩;unfold aq cH;rw[run];rfl
theorem KD{R:Type}{c:aj}{es:Nat}{z:List AV}{x:AV}(hz:z.length=es)(hx:x.cells.length=es)(s:St)(K:AV->St->Option R):
  aq c (.buildSlice es 1 z [0]) [x] s K=K (.slice s.next 0 1 (some 1) es) (ah s (.cells x.cells 0)):=by
 have:cE (bR z 1) ([0].map λi=>(i*es,es)) [x]=some x.cells:=by
  simp only[Zd5,Zi5,Zn9,bR,Ze0,cE,dc,cZ,hx,Zg1,Zb6,hz,Za3];simp only[aX,Zp8,Ze3,Zb6];rw[Zm0 (by omega),Ze0]
 rw[au,this];rfl
structure Mk(es:Nat)(s0 s:St)(v:AV)(rows:List (List AV)):Prop where
 jN:Wf s0
 ai:Grew s0 s
 own:QS es s v rows
 new:∀b,aL v=some b->s0.next.toNat<=b.toNat
 row:∀r∈rows,r.length=es
 cap:∀b off n cp e,v= .slice b off n cp e->cp=none\/(n=0/\cp=some 0)
 tight:∀b,aL v=some b->s.heap.get b=some (.cells rows.flatten 0)
theorem Mk.start{es:Nat}{s0 s:St}(h0:Wf s0)(hg:Grew s0 s):Mk es s0 s .af []:=⟨h0,hg,QS.nil,λb h=>(by cases h),λr h=>(by cases h),λb off n cp e h=>(by cases h),λb h=>(by cases h)⟩
theorem Mk.grow{es:Nat}{s0 s s':St}{v:AV}{rows:List (List AV)}(h:Mk es s0 s v rows)(hg:Grew s s'):Mk es s0 s' v rows:=
 ⟨h.jN,h.ai.trans hg,h.own.mono λb x _ hx=>hg.get hx,h.new,h.row,h.cap,λb hb=>hg.get (h.tight b hb)⟩
theorem Mk.push{R:Type}{c:aj}{es bytes:Nat}{s0 s:St}{v:AV}{rows:List (List AV)}(h:Mk es s0 s v rows){z:List AV}{x:AV}(hz:z.length=es)(hx:x.cells.length=es)(h1:aQ x.cells=true)(dV:es≠0)
   (hb:(2*(rows.length+1)+768)*bytes<=281474976710656) (hn:rows.length<=4000000):
   ∃ s5 v',(∀(K:AV->St->Option R),aq c (.buildSlice es 1 z [0]) [x] s (λy t=>aq c (.append es bytes) [v,y] t K)=K v' s5)/\Mk es s0 s5 v' (rows++[x.cells])/\
     (∀p b,aL v≠some p->s.heap.get p=some b->s5.heap.get p=some b)/\∀b,aL v'=some b->s.next.toNat<=b.toNat:=by
 have hw:=h.ai.wf;have cN:Wf (ah s (.cells x.cells 0)):=bF hw;have g1:=Grew.ah hw (.cells x.cells 0);obtain⟨s5,a1,a2,a3,a4,a5,a6⟩:=QS.app (R:=R) (c:=c) (bytes:=bytes) cN (h.own.mono λb x _ hx=>g1.get hx) h.row (aA s (.cells x.cells 0)) hx h1 dV hb hn;have keep:∀p b,aL v≠some p->s.heap.get p=some b->s5.heap.get p=some b:=λp b hp hg=>by have aS:=hw _ _ hg;rw[a5 p hp (by rw[bM,Pos.aF];omega)];exact g1.get hg
 refine⟨s5,_,λK=> ?_,⟨h.jN,⟨a3,λp b hg=> ?_,?_⟩,a2,λb hb=> ?_,λr hr=> ?_,λb off n cp e he=> ?_,λb hb=> ?_⟩,keep,λb hb=> ?_⟩
 . rw[KD hz hx,a1]
 . have CR:=h.ai.get hg;refine keep p b (λe=> ?_) CR;have:=h.new p e;have:=h.jN p b hg;omega
 . have:=h.ai.next;rw[a4,bM,Pos.aF,Pos.aF];omega
 . rw[qp]at hb;cases hb;have:=h.ai.next;rw[bM,Pos.aF];omega
 . rcases Zd8.1 hr with hr|hr
   . exact h.row r hr
   . simp at hr;subst hr;exact hx
 . cases he;exact .inl rfl
 . rw[qp]at hb;cases hb;rw[a6];simp
 . rw[qp]at hb;cases hb;rw[bM,Pos.aF];omega
theorem CX{b:Pos}{off n es:Nat}(h:Plain (.slice b off n none es)):False:=by
 have h1:aC (λ_=>⟨0,0,off+n*es⟩) (b.toNat+1) (λ_=>none) (.slice b off n none es) (.slice (some ⟨0,0+off,none⟩) n n):=
  .slice b off n none es n _ (Za3 _) (λc hc=>by cases hc) (λ_=>⟨by omega,rfl,by simp⟩) (λ_=>by omega)
 have h2:=h _ (λ_=>⟨0,0,0⟩) _ 0 _ _ h1;cases h2 with
 |slice _ _ _ _ _ _ _ _ _ _ hk=>exact absurd (hk rfl) (by omega)
theorem Mk.tidy{es:Nat}{s s':St}{v:AV}{rows:List (List AV)}(h:Mk es s s' v rows):∃fN,Go.Ai.tidy s (v,s')=(v,fN)/\Mk es s fN v rows:=by
 unfold Go.Ai.tidy;by_cases hp:Plain (v,s').1/\aW s (v,s').2
 . rw[Zb3 hp];refine⟨s,rfl,?_⟩;rcases h.own with⟨rfl,rfl⟩|⟨b,off,cap,cs,rfl,_⟩|⟨b,off,rfl,rfl⟩
   . exact Mk.start h.jN (Grew.refl h.jN)
   . rcases h.cap _ _ _ _ _ rfl with rfl|⟨h0,rfl⟩
     . exact(CX hp.1).elim
     . exact⟨h.jN,Grew.refl h.jN,.inr (.inr ⟨b,off,by rw[h0],Zc4 h0⟩),λb hb=>(by rw[h0,lV]at hb;cases hb),h.row,h.cap,λb hb=>(by rw[h0,lV]at hb;cases hb)⟩
   . exact⟨h.jN,Grew.refl h.jN,.inr (.inr ⟨b,off,rfl,rfl⟩),λb hb=>(by rw[lV]at hb;cases hb),h.row,h.cap,λb hb=>(by rw[lV]at hb;cases hb)⟩
 . rw[Za7 hp];exact⟨s',rfl,h⟩
theorem QS.fW{es d:Nat}{s:St}{v:AV}{rows:List (List AV)}(h:QS es s v rows)(hr:∀r∈rows,r.length=es):
   ∃z,Go.Ai.fW s (d+1) v=ro es z (rows.map λr=>r.map (Go.Ai.fW s d)):=by
 rcases h with⟨rfl,rfl⟩|⟨b,off,cap,cs,rfl,h1,h2,h3,h4⟩|⟨b,off,rfl,rfl⟩
 . exact⟨true,rfl⟩
 rotate_left
 . exact⟨false,rfl⟩
 . refine⟨false,?_⟩;by_cases h0:rows.length=0
   . obtain rfl:=Zc4 h0;rfl
   rw[aeE,Za1 h0];simp only;rw[h1];simp only[Za0 h2];show AV.fl _ _=AV.fl _ _;congr 1;(refine List.ext_getElem (by simp) λi p1 p2=> ?_);simp only[Za4,Zq4]at p1;simp only[Zo5,List.getElem_range];congr 1;have key:∀(rows:List (List AV))(i:Nat)(hi:i<rows.length),(∀r∈rows,r.length=es)->((rows.flatten).drop (i*es)).take es=rows[i]:=by
     intro rows;induction rows with
     |nil=>intro i hi;simp at hi
     |  cons r rows ih=>
        intro i hi hr;have hl:=hr r (by simp);cases i with
        |zero=>simp[<-hl]
        |succ i=>
         have:=ih i (by simpa using hi) (λx hx=>hr x (Za9 _ hx));rw[Zf6,Zg4,Zq9, <-hl,List.drop_append];simp only[Zo0];rw[<-this,hl];simp[List.drop_eq_nil_of_le (show r.length<=es+i*es by omega)]
   rw[<-key rows i p1 hr, <-h3];rw[Zn7,List.take_take,Zl7];congr 1;have:(i+1)*es<=rows.length*es:=Zh0 _ p1;rw[Zg4]at this;omega
section
variable{R : Type}(c : aj)(K : AV -> St -> Option R)(st : St)
theorem fG{b:Pos}{off len es es':Nat}{cap:Option Nat}{k:IntKind}{i:Nat}(h:i<len):aq c (.idxA es none) [.slice b off len cap es',.int k (i:Int)] st K=K (.ptr b (off+i*es)) st:=
 aR c K (λH n=>by
  simp only[aG.run,sw,jy];have:Nat.blt i len=true:=by rw[Zr1];exact h
  rw[this]) st
theorem kZ(b:Pos)(off len es:Nat)(cap:Option Nat):aq c (.lenB .l) [.slice b off len cap es] st K=K (.int .i64 (len:Int)) st:=aR c K (λH n=>rfl) st
theorem am1{b:Pos}{off len es:Nat}{cap:Option Nat}(h:1<=len)(hc:∀x,cap=some x->len<=x):
  aq c (.sliceL es true false false) [.slice b off len cap es,.int .i64 1] st K=K (.slice b (off+1*es) (len - 1) (cap.map (· - 1)) es) st:=
 aR c K (λH n=>by
  have hb:bounds true false false [.int .i64 1]=some (some 1,none,none):=rfl;simp only[aG.run,iP,hb,dc,cZ,Zg1,Zf1,Zj0,Za0 h];cases cap with
  |none=>simp
  |some x=>simp[hc x rfl]) st
theorem KE{es bytes:Nat}{z:List AV}{k k':IntKind}{n:Nat}(h1:bytes*n<=281474976710656)(h2:n<=9223372036854775807):
  aq c (.mkSlice es bytes z) [.int k (n:Int),.int k' (n:Int)] st K=K (.slice st.next 0 n (some n) es) (ah st (.cells (bR z n) 0)):=by
 have:aG.run (λb=>st.heap.get b) st.next (.mkSlice es bytes z) [.int k (n:Int),.int k' (n:Int)]=some (.bk (.slice st.next 0 n (some n) es) none none (some (.cells (bR z n) 0))):=by
  simp only[aG.run,Cw,jy,cZ,Za0 h1,Za0 h2,Za3,Zg1]
 unfold aq cH;rw[this];rfl
end
theorem sZ{α:Type}(x:α):∀n:Nat,bR [x] n=List.replicate n x
 |0=>rfl
 |n+1=>by simp[bR,sZ x n,Zl5]
theorem yC{rows:List (List AV)}{es:Nat}(hr:∀r∈rows,r.length=es):∀(i j:Nat)(r:List AV)(u:AV),rows[i]? =some r->r[j]? =some u->rows.flatten[i*es+j]? =some u:=by
 induction rows with
 |nil=>intro i j r u h;simp at h
 |cons r0 rows ih=>
  intro i j r u h1 h2;have hl:=hr r0 (by simp);cases i with
  |zero=>
   simp at h1;subst h1;have:=(Za2.1 h2).1;rw[Zf6,Zn9,Zb6,Zc3 this];exact h2
  |succ i=>
   rw[Zf6,Zc2 (by rw[Zg4];omega)];rw[show(i+1)*es+j - r0.length=i*es+j by rw[Zg4];omega];exact ih (λx hx=>hr x (Za9 _ hx)) i j r u (by simpa using h1) h2
theorem QS.at{R:Type}{c:aj}{es:Nat}{s:St}{v:AV}{rows:List (List AV)}(h:QS es s v rows)(hr:∀r∈rows,r.length=es)(dV:es≠0){i:Nat}(hi:i<rows.length):
   ∃b o cs,(∀(K:AV->St->Option R)(k:IntKind)(s1:St),aq c (.idxA es none) [v,.int k (i:Int)] s1 K=K (.ptr b o) s1)/\aL v=some b/\s.heap.get b=some (.cells cs 0)/\∀j u,rows[i][j]? =some u->cs[o+j]? =some u:=by
 rcases h with⟨rfl,rfl⟩|⟨b,off,cap,cs,rfl,g1,g2,g3,g4⟩|⟨b,off,rfl,rfl⟩
 . simp at hi
 rotate_left
 . simp at hi
 . refine⟨b,off+i*es,cs,λK k s1=>fG c K s1 hi,by simp only[aL];rw[Za7 (by omega)],g1,λj u hj=> ?_⟩;have hri:=hr rows[i] (Zb8 hi);have hj2:j<es:=(by rw[<-hri];exact(Za2.1 hj).1);have:=yC hr i j rows[i] u (H0 hi) hj;rw[<-g3,Ze1]at this;split at this
   . rw[Ze7]at this;rw[<-this];congr 1;omega
   . cases this
theorem QS.tail{R:Type}{c:aj}{es:Nat}{s:St}{v:AV}{r:List AV}{rows:List (List AV)}(h:QS es s v (r::rows))(hr:r.length=es):
   ∃v',(∀(K:AV->St->Option R)(s1:St),aq c (.sliceL es true false false) [v,.int .i64 1] s1 K=K v' s1)/\QS es s v' rows/\∀b,aL v'=some b->aL v=some b:=by
 rcases h with⟨rfl,h⟩|⟨b,off,cap,cs,rfl,g1,g2,g3,g4⟩|⟨b,off,rfl,h⟩
 . cases h
 rotate_left
 . cases h
 . refine⟨.slice b (off+1*es) rows.length (cap.map (· - 1)) es,λK s1=> ?_,.inr (.inl ⟨b,off+1*es,cap.map (· - 1),cs,rfl,g1,?_,?_,?_⟩),λb' hb=>by
     obtain rfl:=sY hb;simp only[aL,Zc6];rw[Za7 (by omega)]⟩
   . rw[am1 c K s1 (by simp) (λx hx=>by rcases g4 with rfl|rfl<;>cases hx;exact Za3 _)];simp
   . simp only[Zc6,Zg4]at g2;omega
   . have:((cs.drop off).take ((r::rows).length*es)).drop es=rows.flatten:=(by rw[g3,Zf6, <-hr];simp);rw[<-this,Zn7,Zl7];congr 1
     . simp only[Zc6,Zg4];omega
     . congr 1;omega
   . rcases g4 with rfl|rfl
     . exact .inl rfl
     . right;simp
theorem QS.arh{R:Type}{c:aj}{es bytes:Nat}{s:St}{v:AV}{rows:List (List AV)}(hw:Wf s)(h:QS es s v rows)(hr:∀r∈rows,r.length=es){z:List AV}{x:AV}(hz:z.length=es)(hx:x.cells.length=es)(h1:aQ x.cells=true)(dV:es≠0)
   (hb:(2*(rows.length+1)+768)*bytes<=281474976710656) (hn:rows.length<=4000000):
   ∃s5 v',(∀(K:AV->St->Option R),aq c (.buildSlice es 1 z [0]) [x] s (λy t=>aq c (.append es bytes) [v,y] t K)=K v' s5)/\QS es s5 v' (rows++[x.cells])/\Wf s5/\s.next.toNat<=s5.next.toNat/\
    (∀p b,aL v≠some p->s.heap.get p=some b->s5.heap.get p=some b)/\(∀b,aL v'=some b->s.next.toNat<=b.toNat)/\∀b,aL v'=some b->s5.heap.get b=some (.cells (rows.flatten++x.cells) 0):=by
 have cN:Wf (ah s (.cells x.cells 0)):=bF hw;have g1:=Grew.ah hw (.cells x.cells 0);obtain⟨s5,a1,a2,a3,a4,a5,a6⟩:=QS.app (R:=R) (c:=c) (bytes:=bytes) cN (h.mono λb x _ hx=>g1.get hx) hr (aA s (.cells x.cells 0)) hx h1 dV hb hn;refine⟨s5,_,λK=>by rw[KD hz hx,a1],a2,a3,by rw[a4,bM,Pos.aF,Pos.aF];omega,λp b hp hg=> ?_,λb hb=> ?_,λb hb=> ?_⟩
 . have aS:=hw _ _ hg;rw[a5 p hp (by rw[bM,Pos.aF];omega)];exact g1.get hg
 . rw[qp]at hb;cases hb;rw[bM,Pos.aF];omega
 . rw[qp]at hb;cases hb;exact a6
theorem QS.push{R:Type}{c:aj}{es bytes:Nat}{s:St}{v:AV}{rows:List (List AV)}(hw:Wf s)(h:QS es s v rows)(hr:∀r∈rows,r.length=es){z:List AV}{x:AV}(hz:z.length=es)(hx:x.cells.length=es)(h1:aQ x.cells=true)(dV:es≠0)
  (hb:(2*(rows.length+1)+768)*bytes<=281474976710656) (hn:rows.length<=4000000):
  ∃s5 v',(∀(K:AV->St->Option R),aq c (.buildSlice es 1 z [0]) [x] s (λy t=>aq c (.append es bytes) [v,y] t K)=K v' s5)/\QS es s5 v' (rows++[x.cells])/\Wf s5/\s.next.toNat<=s5.next.toNat/\
   (∀p b,aL v≠some p->s.heap.get p=some b->s5.heap.get p=some b)/\∀b,aL v'=some b->s.next.toNat<=b.toNat:=by
 obtain⟨s5,v',a1,a2,a3,a4,a5,a6,_⟩:=QS.arh (R:=R) (c:=c) (bytes:=bytes) hw h hr hz hx h1 dV hb hn;exact⟨s5,v',a1,a2,a3,a4,a5,a6⟩
theorem QS.lenB{R:Type}{c:aj}{es:Nat}{s:St}{v:AV}{rows:List (List AV)}(h:QS es s v rows)(K:AV->St->Option R)(s1:St):aq c (.lenB .l) [v] s1 K=K (.int .i64 (rows.length:Int)) s1:=by
 rcases h with⟨rfl,rfl⟩|⟨b,off,cap,cs,rfl,_⟩|⟨b,off,rfl,rfl⟩
 . exact aR c K (λH n=>rfl) s1
 . exact kZ c K s1 _ _ _ _ _
 . exact kZ c K s1 _ _ _ _ _
def dQ(v:AV):Prop:=∃N0 K0:Nat,∀N K:Nat,N0<=N->K0<=K->∃x,aC (λ_=>⟨0,0,K⟩) N (λ_=>none) v x
theorem dQ.int(k:IntKind)(i:Int):dQ (.int k i):=⟨0,0,λ_ _ _ _=>⟨_,.int k i⟩⟩
theorem dQ.bool(b:Bool):dQ (.bool b):=⟨0,0,λ_ _ _ _=>⟨_,.bool b⟩⟩
theorem dQ.af:dQ .af:=⟨0,0,λ_ _ _ _=>⟨_,.af⟩⟩
theorem dQ.str{s:List Nat}(h:∀x∈s,x<256):dQ (.str s):=⟨0,0,λ_ _ _ _=>⟨.string ⟨(s.map UInt8.ofNat).toArray⟩,.str s _ (by
 show(s.map UInt8.ofNat).toArray.toList.map UInt8.toNat=s;simp only[Zh8]
 conv=>rhs;rw[<-Zr9 s]
 refine Zj2 λc hc=> ?_
 have:=h c hc;simp[UInt8.toNat_ofNat];omega)⟩⟩
theorem dQ.slice(b:Pos)(off n es:Nat):dQ (.slice b off n none es):=⟨b.toNat+1,off+n*es,λN K hN hK=>⟨.slice (some ⟨0,0+off,none⟩) n n,
 .slice b off n none es n _ (Za3 _) (λc hc=>by cases hc) (λ_=>⟨by omega,rfl,by simpa using hK⟩) (λ_=>by omega)⟩⟩
theorem dQ.zero(b:Pos)(off es:Nat):dQ (.slice b off 0 (some 0) es):=⟨0,0,λN K _ _=>⟨.slice (some ⟨0,0,none⟩) 0 0,
 .slice b off 0 (some 0) es 0 _ (Za3 _) (λc hc=>by cases hc;rfl) (λh=>absurd rfl h) (λh=>by cases h)⟩⟩
theorem inst_list:∀{l:List AV},(∀v∈l,dQ v)->∃N0 K0:Nat,∀N K:Nat,N0<=N->K0<=K->∃xs,aK (λ_=>⟨0,0,K⟩) N (λ_=>none) l xs
 |[],_=>⟨0,0,λ_ _ _ _=>⟨[],aK.nil⟩⟩
 |v::l,h=>by
  obtain⟨N1,K1,h1⟩:=h v (by simp);obtain⟨N2,K2,h2⟩:=inst_list (λu hu=>h u (Za9 _ hu));refine⟨max N1 N2,max K1 K2,λN K hN hK=> ?_⟩;obtain⟨x,hx⟩:=h1 N K (by omega) (by omega);obtain⟨xs,rF⟩:=h2 N K (by omega) (by omega);exact⟨x::xs,aK.cons hx rF⟩
theorem ny{l:List AV}(hi:∀v∈l,dQ v){b:Pos}{off n es:Nat}(hm:AV.slice b off n none es∈l):¬Plain (.agg l):=λh=>by
 obtain⟨N0,K0,h1⟩:=inst_list hi;obtain⟨xs,hx⟩:=h1 N0 K0 (Za3 _) (Za3 _);have h2:aC (λ_=>⟨0,0,K0⟩) N0 (λ_=>none) (.agg l) (.agg xs.toArray):= .agg l _ (by rw[hx.1];simp) λi v x hv wD=>hx.2 i v x hv (by simpa using wD)
 have h3:=h _ (λ_=>⟨0,0,0⟩) _ 0 _ _ h2;obtain⟨i,aS,hi⟩:=Zg0.1 hm;cases h3 with
 |agg _ _ hl hc=>
  have apu:i<xs.toArray.size:=by rw[<-hl];exact aS
  obtain⟨y,hy⟩:∃y,xs.toArray[i]? =some y:=⟨_,Zg7 apu⟩
  have:=hc i _ y (by rw[H0 aS,hi]) hy;cases this with
  |slice _ _ _ _ _ _ _ _ _ _ hk=>exact absurd (hk rfl) (by omega)
theorem Mk.inst{es:Nat}{s s':St}{v:AV}{rows:List (List AV)}(h:Mk es s s' v rows):dQ v:=by
 rcases h.own with⟨rfl,rfl⟩|⟨b,off,cap,cs,rfl,_⟩|⟨b,off,rfl,rfl⟩
 . exact dQ.af
 . rcases h.cap _ _ _ _ _ rfl with rfl|⟨h0,rfl⟩
   . exact dQ.slice _ _ _ _
   . rw[h0];exact dQ.zero _ _ _
 . exact dQ.zero _ _ _
theorem Mk.loose{es:Nat}{s s':St}{v:AV}{rows:List (List AV)}(h:Mk es s s' v rows):(∃b off n,v= .slice b off n none es)\/((∀t,Wf t->Mk es t t v rows)/\rows=[]):=by
 rcases h.own with⟨rfl,rfl⟩|⟨b,off,cap,cs,rfl,_⟩|⟨b,off,rfl,rfl⟩
 . exact .inr ⟨λt ht=>Mk.start ht (Grew.refl ht),rfl⟩
 . rcases h.cap _ _ _ _ _ rfl with rfl|⟨h0,rfl⟩
   . exact .inl ⟨_,_,_,rfl⟩
   . exact .inr ⟨λt ht=>⟨ht,Grew.refl ht,.inr (.inr ⟨b,off,by rw[h0],Zc4 h0⟩),λb hb=>(by rw[h0,lV]at hb;cases hb),h.row,h.cap,λb hb=>(by rw[h0,lV]at hb;cases hb)⟩,Zc4 h0⟩
 . exact .inr ⟨λt ht=>⟨ht,Grew.refl ht,.inr (.inr ⟨b,off,rfl,rfl⟩),λb hb=>(by rw[lV]at hb;cases hb),h.row,h.cap,λb hb=>(by rw[lV]at hb;cases hb)⟩,rfl⟩
theorem Mk.RJ{es:Nat}{s s':St}{v:AV}{rows:List (List AV)}(h:Mk es s s' v rows){l:List AV}(hm:v∈l)(hi:∀u∈l,dQ u):∃fN,Go.Ai.tidy s (.agg l,s')=(.agg l,fN)/\(fN=s'\/fN=s)/\Mk es s fN v rows:=by
 unfold Go.Ai.tidy;by_cases hp:Plain (AV.agg l,s').1/\aW s (AV.agg l,s').2
 . rw[Zb3 hp];refine⟨s,rfl,.inr rfl,?_⟩;rcases h.loose with⟨b,off,n,rfl⟩|⟨hl,_⟩
   . exact absurd hp.1 (ny hi hm)
   . exact hl s h.jN
 . rw[Za7 hp];exact⟨s',rfl,.inl rfl,h⟩
theorem Mk.cells{es:Nat}{s s':St}{v:AV}{rows:List (List AV)}(h:Mk es s s' v rows):v.cells=[v]/\aQ [v]=true:=by
 rcases h.own with⟨rfl,rfl⟩|⟨b,off,cap,cs,rfl,_⟩|⟨b,off,rfl,rfl⟩<;>exact⟨rfl,rfl⟩
theorem Mk.store{es:Nat}{s s':St}{v:AV}{rows:List (List AV)}(h:Mk es s s' v rows){p:Pos}{b:AB}(hp:s.next.toNat<=p.toNat)(Gs:p.toNat<s'.next.toNat)(dJ:aL v≠some p):Mk es s (bg s' p b) v rows:=
 ⟨h.jN,⟨jY h.ai.wf Gs,λq x hq=>by have:=h.jN _ _ hq;rw[aJ (λe=>by rw[e]at hp;omega)];exact h.ai.get hq,by rw[dK];exact h.ai.next⟩,
  h.own.mono λq x hq hx=>by rw[aJ (λe=>dJ (by rw[hq,e]))];exact hx,h.new,h.row,h.cap,λb hb=>by rw[aJ (λe=>dJ (by rw[hb,e]))];exact h.tight b hb⟩
theorem Mk.back{es:Nat}{s0 s s':St}{v:AV}{rows:List (List AV)}(h:Mk es s s' v rows)(h0:Wf s0)(hg:Grew s0 s):Mk es s0 s' v rows:=
 ⟨h0,hg.trans h.ai,h.own,λb hb=>Zb2 hg.next (h.new b hb),h.row,h.cap,h.tight⟩
theorem zl{α:Type}(l:List α)(i:Nat)(h:i<l.length)(u:α):aX l i [u]=l.set i u:=by unfold aX;rw[Zn5,Zb3 h];simp
theorem NZ{es:Nat}:∀(rows:List (List AV)),(∀r∈rows,r.length=es)->∀(i j:Nat)(hi:i<rows.length),j<es->∀u,rows.flatten.set (i*es+j) u=(rows.set i (rows[i].set j u)).flatten
 |[],_,i,j,hi,_,_=>by simp at hi
 |r::rows,hr,i,j,hi,hj,u=>by
  have hl:=hr r (by simp);cases i with
  |zero=>
   simp only[Zn9,Zb6,Zf6,Zp9,List.getElem_cons_zero];rw[List.set_append_left _ _ (by omega)]
  |succ i=>
   simp only[Zf6,List.set_cons_succ,Zo0];rw[Zj8 _ _ (by rw[Zg4];omega)];rw[show(i+1)*es+j - r.length=i*es+j by rw[Zg4];omega];rw[NZ rows (λx hx=>hr x (Za9 _ hx)) i j (by simpa using hi) hj u]
theorem QS.set{R:Type}{c:aj}{es:Nat}{s:St}{v:AV}{rows:List (List AV)}(h:QS es s v rows)(hr:∀r∈rows,r.length=es)(dV:es≠0){i:Nat}(hi:i<rows.length):
   ∃ b o cs,(∀(K:AV->St->Option R)(k:IntKind)(s1:St),aq c (.idxA es none) [v,.int k (i:Int)] s1 K=K (.ptr b o) s1)/\(∀(K:AV->Option R)(k:IntKind),fh (.idxA es none) [v,.int k (i:Int)] K=K (.ptr b o))/\aL v=some b/\s.heap.get b=some (.cells cs 0)/\o+es<=cs.length/\(∀j u,rows[i][j]? =some u->cs[o+j]? =some u)/\
     (∀j u (s':St),j<es->s'.heap.get b=some (.cells (aX cs (o+j) [u]) 0)->QS es s' v (rows.set i (rows[i].set j u)))/\
     ∀j u,j<es->cs=rows.flatten->aX cs (o+j) [u]=(rows.set i (rows[i].set j u)).flatten:=by
 rcases h with⟨rfl,rfl⟩|⟨b,off,cap,cs,rfl,g1,g2,g3,g4⟩|⟨b,off,rfl,rfl⟩
 . simp at hi
 rotate_left
 . simp at hi
 have hri:=hr rows[i] (Zb8 hi);have hm:(i+1)*es<=rows.length*es:=Zh0 _ hi;rw[Zg4]at hm;have hx:∀(k:IntKind)(H:Pos->Option AB)(n:Pos),aG.run H n (.idxA es none) [.slice b off rows.length cap es,.int k (i:Int)]=some (.val (.ptr b (off+i*es))):=λk H n=>by
   simp only[aG.run,sw,jy];have:Nat.blt i rows.length=true:=(by rw[Zr1];exact hi);rw[this]
 refine⟨b,off+i*es,cs,λK k s1=>fG c K s1 hi,λK k=>cX K (hx k),by simp only[aL];rw[Za7 (by omega)],g1,by omega,λj u hj=> ?_,λj u s' hj hs=> ?_,λj u hj he=> ?_⟩
 . have hj2:j<es:=(by rw[<-hri];exact(Za2.1 hj).1);have:=yC hr i j rows[i] u (H0 hi) hj;rw[<-g3,Ze1]at this;split at this
   . rw[Ze7]at this;rw[<-this];congr 1;omega
   . cases this
 . rw[zl _ _ (by omega)]at hs;refine .inr (.inl ⟨b,off,cap,_,by simp,hs,by simpa using g2,?_,by simpa using g4⟩);rw[Zk6, <-NZ rows hr i j hi hj u, <-g3,List.drop_set,Za7 (by omega),List.take_set];congr 1;omega
 . have hlen:rows.flatten.length=rows.length*es:=by
     clear g2 g3 g4 hi hri hm hx g1 he;induction rows with
     |nil=>simp
     |  cons r rows ih=>
        have:=ih (λx hx=>hr x (Za9 _ hx));have h2:=hr r (by simp);simp only[Zf6,Ze8,Zc6,Zg4];omega
   have h0:off=0:=(by rw[he,hlen]at g2;omega);subst h0;rw[zl _ _ (by omega),he, <-NZ rows hr i j hi hj u];congr 1;omega
def Src(es:Nat)(s:St)(v:AV)(rows:List (List AV)):Prop:=v= .fl rows es\/QS es s v rows
theorem Src.len{es:Nat}{s:St}{v:AV}{rows:List (List AV)}(h:Src es s v rows):eH v=some rows.length:=by
 rcases h with rfl|h
 . rfl
 . exact h.len
theorem Src.mono{es:Nat}{s s':St}{v:AV}{rows:List (List AV)}(h:Src es s v rows)(hk:∀b x,aL v=some b->s.heap.get b=some x->s'.heap.get b=some x):Src es s' v rows:=h.imp id λh=>h.mono hk
theorem Src.ai{es:Nat}{s s':St}{v:AV}{rows:List (List AV)}(h:Src es s v rows)(hg:Grew s s'):Src es s' v rows:=h.mono λ_ _ _ hx=>hg.get hx
theorem Src.first{es:Nat}{s:St}{v:AV}{rows:List (List AV)}(h:Src es s v rows)(hr:∀r∈rows,r.length=es):dF es rows.length (λb=>s.heap.get b) v=some rows.flatten:=by
 rcases h with rfl|h
 . simp only[dF,dc,cZ,Zg1,Za3,Zk1]
 . exact h.first hr
theorem Src.nil{es:Nat}{s:St}{v:AV}{rows:List (List AV)}(h:Src es s v rows):(v= .af/\rows=[])\/∀{R:Type}(c:aj)(K:AV->St->Option R)(t:St),aq c (.bin .eql .slice) [v,.af] t K=K (.bool false) t:=by
 rcases h with rfl|⟨rfl,rfl⟩|⟨b,off,cap,cs,rfl,_⟩|⟨b,off,rfl,rfl⟩
 . exact .inr λc K t=>aR c K (λH n=>rfl) t
 . exact .inl ⟨rfl,rfl⟩
 . exact .inr λc K t=>aR c K (λH n=>rfl) t
 . exact .inr λc K t=>aR c K (λH n=>rfl) t
theorem Src.ro{es:Nat}{s:St}(z:Bool)(rows:List (List AV)):Src es s (ro es z rows) rows:=by
 unfold Go.Ai.ro;split
 . exact .inr (.inl ⟨rfl,rfl⟩)
 . exact .inl rfl
theorem aeG{es:Nat}:∀{rows:List (List AV)},(∀r∈rows,r.length=es)->rows.flatten.length=rows.length*es
 |[],_=>by simp
 |r::rows,hr=>by have ih:=aeG (λx hx=>hr x (Za9 _ hx));have h2:=hr r (by simp);simp only[Zf6,Ze8,Zc6,Zg4];omega
theorem aeH{es bytes:Nat}{z:List AV}{src:AV}{rows:List (List AV)}(hr:∀r∈rows,r.length=es)(_hes:es≠0)(hb:(2*rows.length+768)*bytes<=281474976710656)(hn:rows.length<=4000000){c:aj}{R:Type}(s:St)(hw:Wf s)(h:Src es s src rows):
   ∃v s',(∀(K:AV->St->Option R),aq c (.buildSlice es 0 z []) [] s (λy t=>aq c (.append es bytes) [y,src] t K)=K v s')/\Mk es s s' v rows:=by
 have bs:∀(K:AV->St->Option R),aq c (.buildSlice es 0 z []) [] s K=K (.slice s.next 0 0 (some 0) es) (ah s (.cells [] 0)):=λK=>by rw[au];rfl
 have cN:Wf (ah s (.cells [] 0)):=bF hw;have g1:=Grew.ah hw (.cells [] 0);have hl:=h.len;by_cases h0:rows.length=0
 . obtain rfl:=Zc4 h0;refine⟨.slice s.next 0 0 (some 0) es,ah s (.cells [] 0),λK=> ?_,hw,g1,.inr (.inr ⟨_,_,rfl,rfl⟩),λb hb=>(by rw[lV]at hb;cases hb),hr,λb off n cp e he=>(by cases he;exact .inr ⟨rfl,rfl⟩),λb hb=>(by rw[lV]at hb;cases hb)⟩;rw[bs,ag5 c K hl (by simpa using hb) (by simp)]
 . have hx:dF es rows.length (λb=>(ah s (.cells [] 0)).heap.get b) src=some rows.flatten:=(h.ai g1).first hr;have hlen:=aeG hr;refine⟨.slice (ah s (.cells [] 0)).next 0 rows.length none es,ah (ah s (.cells [] 0)) (.cells rows.flatten 0),λK=> ?_,hw,g1.trans (Grew.ah cN _),.inr (.inl ⟨_,0,none,rows.flatten,rfl,aA _ _,by omega,?_,.inl rfl⟩),λb hb=> ?_,hr,λb off n cp e he=>(by cases he;exact .inl rfl),λb hb=>(by rw[qp]at hb;cases hb;exact aA _ _)⟩
   . rw[bs,amX c K (m:=rows.length) hl h0 (by simpa using hb) (by omega) hx]
   . simp only[Ze6];exact Zf7 (by omega)
   . rw[qp]at hb;cases hb;rw[bM,Pos.aF];omega
theorem yD{v:AV}(h:aQ [v]=true):v.one=true:=by
 simp only[aQ]at h;split at h
 . assumption
 . cases h
theorem TG{b:Pos}{o:Nat}{k1 k2:IntKind}{i1 i2:Int}:¬Plain (.tuple [.ptr b o,.int k1 i1,.int k2 i2]):=λh=>by
 obtain⟨x0,e0⟩:∃x,aC (λ_=>⟨0,0,0⟩) (b.toNat+1) (λ_=>none) (.ptr b o) x:=⟨_,.ptr b o (by omega)⟩
 obtain⟨x1,e1⟩:∃x,aC (λ_=>⟨0,0,0⟩) (b.toNat+1) (λ_=>none) (.int k1 i1) x:=⟨_,.int k1 i1⟩
 obtain⟨x2,e2⟩:∃x,aC (λ_=>⟨0,0,0⟩) (b.toNat+1) (λ_=>none) (.int k2 i2) x:=⟨_,.int k2 i2⟩
 have:=h (λ_=>⟨0,0,0⟩) (λ_=>⟨0,0,0⟩) (b.toNat+1) 0 (λ_=>none) _ (.tuple _ #[x0,x1,x2] rfl (λi v v' hv hx=>by
  match i with
  |0=>simp at hv hx;subst hv hx;exact e0
  |1=>simp at hv hx;subst hv hx;exact e1
  |2=>simp at hv hx;subst hv hx;exact e2
  |i+3=>simp at hv))
 cases this with
 |tuple _ _ _ h=>
  have:=h 0 _ x0 rfl rfl;cases this with
  |ptr _ _ h=>omega
theorem apv{l:List AV}{t:Bool}(h:Plain (.tuple [.agg l,.bool t])):Plain (.agg l):=λρ ρ' n n' C x hx=>by
 obtain⟨y,hy⟩:∃y,aC ρ n C (.bool t) y:=⟨_,.bool t⟩
 have:=h ρ ρ' n n' C _ (.tuple _ #[x,y] rfl (λi v v' hv wD=>by
  match i with
  |0=>simp at hv wD;subst hv wD;exact hx
  |1=>simp at hv wD;subst hv wD;exact hy
  |i+2=>simp at hv))
 cases this with
 |tuple _ _ _ h=>exact h 0 _ x rfl rfl
theorem Mk.ajX{es:Nat}{s s':St}{v:AV}{rows:List (List AV)}(h:Mk es s s' v rows){l:List AV}(hm:v∈l)(hi:∀u∈l,dQ u)(t:Bool):∃fN,Go.Ai.tidy s (.tuple [.agg l,.bool t],s')=(.tuple [.agg l,.bool t],fN)/\Mk es s fN v rows:=by
 unfold Go.Ai.tidy;by_cases hp:Plain (AV.tuple [.agg l,.bool t],s').1/\aW s (AV.tuple [.agg l,.bool t],s').2
 . rw[Zb3 hp];refine⟨s,rfl,?_⟩;rcases h.loose with⟨b,off,n,rfl⟩|⟨hl,_⟩
   . exact absurd (apv hp.1) (ny hi hm)
   . exact hl s h.jN
 . rw[Za7 hp];exact⟨s',rfl,h⟩
theorem QS.cells{es:Nat}{s:St}{v:AV}{rows:List (List AV)}(h:QS es s v rows):v.cells=[v]/\v.one=true:=by
 rcases h with⟨rfl,rfl⟩|⟨b,off,cap,cs,rfl,_⟩|⟨b,off,rfl,rfl⟩<;>exact⟨rfl,rfl⟩
abbrev ot(v:AV):List AV:=[v]
theorem aha(l:List AV):∀r∈l.map ot,r.length=1:=λr hr=>by simp only[Zd0]at hr;obtain⟨m,_,rfl⟩:=hr;rfl
theorem af5(r:List AV):(r.map ot).flatten=r:=by induction r with|nil=>rfl|cons a r ih=>rw[Zd5,Zf6,ih];rfl
structure Ow(s0 s:St)(jb:Pos)(Ls:List AV)(R:List (List AV))(I:List (AV×List (List AV))):Prop where
 jN:Wf s0
 lt:jb.toNat<s0.next.toNat
 wf:Wf s
 next:s0.next.toNat<=s.next.toNat
 keep:∀q x,q≠jb->s0.heap.get q=some x->s.heap.get q=some x
 own:∀(i:Nat)(L:AV)(r:List AV),Ls[i]? =some L->R[i]? =some r->QS 1 s L (r.map ot)
 len:Ls.length=R.length
 new:∀L∈Ls,∀b,aL L=some b->s0.next.toNat<=b.toNat
 apart:∀(i j:Nat)(L M:AV),i≠j->Ls[i]? =some L->Ls[j]? =some M->∀b,aL L=some b->aL M≠some b
 dX:∀e∈I,QS 1 s e.1 e.2/\∀b,aL e.1=some b->b≠jb/\∀L∈Ls,aL L≠some b
 tig:∀(i:Nat)(L:AV)(r:List AV),Ls[i]? =some L->R[i]? =some r->∀b,aL L=some b->s.heap.get b=some (.cells r 0)
 itg:∀e∈I,∀b,aL e.1=some b->s.heap.get b=some (.cells e.2.flatten 0)
 inw:∀e∈I,∀b,aL e.1=some b->s0.next.toNat<=b.toNat
section
variable{s0 s s' : St}{jb : Pos}{Ls : List AV}{R : List (List AV)}{I : List (AV × List (List AV))}
theorem Ow.ai(h:Ow s0 s jb Ls R I)(g:Grew s s'):Ow s0 s' jb Ls R I:=
 ⟨h.jN,h.lt,g.wf,Zb2 h.next g.next,λq x hq hx=>g.get (h.keep q x hq hx),λi L r h1 h2=>(h.own i L r h1 h2).mono λb x _ hx=>g.get hx,h.len,h.new,h.apart,
  λe he=>⟨(h.dX e he).1.mono λb x _ hx=>g.get hx,(h.dX e he).2⟩,λi L r h1 h2 b hb=>g.get (h.tig i L r h1 h2 b hb),λe he b hb=>g.get (h.itg e he b hb),h.inw⟩
theorem Ow.ltL(h:Ow s0 s jb Ls R I){L:AV}(hL:L∈Ls){b:Pos}(hb:aL L=some b):b.toNat<s.next.toNat:=by
 obtain⟨i,hi,rfl⟩:=Zg0.1 hL;have hr:i<R.length:=by rw[<-h.len];exact hi
 exact(h.own i _ _ (H0 hi) (H0 hr)).lt h.wf hb
theorem Ow.more(h:Ow s0 s jb Ls R I){w:AV}{rows:List (List AV)}(M:Mk 1 s s' w rows):Ow s0 s' jb Ls R ((w,rows)::I):=by
 have h2:=h.ai M.ai;refine { h2 with dX:=λe he=> ?_,itg:=λe he b hb=> ?_,inw:=λe he b hb=> ?_ }
 . rcases Zb0.1 he with rfl|he
   . refine⟨M.own,λb hb=>⟨λe=> ?_,λL hL e=> ?_⟩⟩
     . have:=M.new b hb;have:=h.next;have:=h.lt;rw[e]at *; omega
     . have:=M.new b hb;have:=h.ltL hL e;omega
   . exact h2.dX e he
 . rcases Zb0.1 he with rfl|he
   . exact M.tight b hb
   . exact h2.itg e he b hb
 . rcases Zb0.1 he with rfl|he
   . exact Zb2 h.next (M.new b hb)
   . exact h2.inw e he b hb
theorem Ow.store(h:Ow s0 s jb Ls R I)(b:AB):Ow s0 (bg s jb b) jb Ls R I:=by
 have aS:jb.toNat<s.next.toNat:=Zc8 h.lt h.next;have nL:∀L∈Ls,∀b,aL L=some b->jb≠b:=λL hL b hb e=>by have:=h.new L hL b hb;have:=h.lt;rw[e]at *; omega
 refine⟨h.jN,h.lt,jY h.wf aS,by rw[dK];exact h.next,λq x hq hx=>by rw[aJ (λe=>hq e.symm)];exact h.keep q x hq hx,λi L r h1 h2=> ?_,h.len,h.new,h.apart,λe he=>⟨?_,(h.dX e he).2⟩,λi L r h1 h2 b hb=> ?_,λe he b hb=> ?_,h.inw⟩
 . (refine(h.own i L r h1 h2).mono λb x hb hx=> ?_);rw[aJ (nL L (Zb9 h1) b hb)];exact hx
 . (refine(h.dX e he).1.mono λb x hb hx=> ?_);rw[aJ (λe2=>((h.dX e he).2 b hb).1 e2.symm)];exact hx
 . rw[aJ (nL L (Zb9 h1) b hb)];exact h.tig i L r h1 h2 b hb
 . rw[aJ (λe2=>((h.dX e he).2 b hb).1 e2.symm)];exact h.itg e he b hb
theorem Ow.push(h:Ow s0 s jb Ls R I){c:aj}{Q:Type}{bytes i:Nat}{L:AV}{r:List AV}(hL:Ls[i]? =some L)(hR:R[i]? =some r){z:List AV}{x:AV}(hz:z.length=1)(hx:x.cells=[x])(h1:x.one=true)
   (hb:(2*(r.length+1)+768)*bytes<=281474976710656) (hn:r.length<=4000000):
   ∃s5 v',(∀(K:AV->St->Option Q),aq c (.buildSlice 1 1 z [0]) [x] s (λy t=>aq c (.append 1 bytes) [L,y] t K)=K v' s5)/\Ow s0 s5 jb (Ls.set i v') (R.set i (r++[x])) I/\(∀x,s.heap.get jb=some x->s5.heap.get jb=some x)/\(∀p y,aL L≠some p->s.heap.get p=some y->s5.heap.get p=some y)/\v'.cells=[v']/\v'.one=true/\s.next.toNat<=s5.next.toNat/\∀b,aL v'=some b->s.next.toNat<=b.toNat:=by
 have q:=h.own i L r hL hR;have gZ:i<Ls.length:=(Za2.1 hL).1;have hmL:L∈Ls:=Zb9 hL;obtain⟨s5,v',a1,a2,a3,a4,a5,a6,a7⟩:=QS.arh (R:=Q) (c:=c) (bytes:=bytes) h.wf q (aha r) hz (x:=x) (by rw[hx];rfl) (by rw[hx];simp[aQ,h1]) (by decide) (by simpa using hb) (by simpa using hn);have hjlt:jb.toNat<s.next.toNat:=Zc8 h.lt h.next;have nj:aL L≠some jb:=λe=>by have:=h.new L hmL jb e;have:=h.lt;omega
 refine⟨s5,v',a1,⟨h.jN,h.lt,a3,Zb2 h.next a4,λq x hq hx=> ?_,λj M u h2 h3=> ?_,by simpa using h.len,λM hM b hb=> ?_,λj k M N hjk h2 h3 b hb xN=> ?_,λe he=>⟨?_,λb hb=>⟨((h.dX e he).2 b hb).1,λM hM xN=> ?_⟩⟩,λj M u h2 h3 b hb=> ?_,λe he b hb=> ?_,h.inw⟩,?_,a5,a2.cells.1,a2.cells.2,a4,a6⟩
 . refine a5 q x (λe=> ?_) (h.keep q x hq hx);have:=h.new L hmL q e;have:=h.jN _ _ hx;omega
 . by_cases e:i=j
   . subst e;rw[Ze2 gZ]at h2;have hir:i<R.length:=(by rw[<-h.len];exact gZ);rw[Ze2 hir]at h3;cases h2;cases h3;simpa [hx]using a2
   . rw[Zd7 e]at h2 h3;exact(h.own j M u h2 h3).mono λb x hb hx=>a5 b x (λe2=>h.apart i j L M e hL h2 b e2 hb) hx
 . rcases Zg8 hM with hM|rfl
   . exact h.new M hM b hb
   . exact Zb2 h.next (a6 b hb)
 . by_cases e:i=j
   . subst e;rw[Ze2 gZ]at h2;cases h2;rw[Zd7 hjk]at h3;have:=a6 b hb;have:=h.ltL (Zb9 h3) xN;omega
   . rw[Zd7 e]at h2;by_cases e2:i=k
     .  subst e2;rw[Ze2 gZ]at h3;cases h3;have:=a6 b xN;have:=h.ltL (Zb9 h2) hb;omega
     .  rw[Zd7 e2]at h3;exact h.apart j k M N hjk h2 h3 b hb xN
 . exact(h.dX e he).1.mono λb x hb hx=>a5 b x (λe2=>((h.dX e he).2 b hb).2 L hmL e2) hx
 . rcases Zg8 hM with hM|rfl
   . exact((h.dX e he).2 b hb).2 M hM xN
   . have:=a6 b xN;have:=(h.dX e he).1.lt h.wf hb;omega
 . by_cases e:i=j
   . subst e;rw[Ze2 gZ]at h2;have hir:i<R.length:=(by rw[<-h.len];exact gZ);rw[Ze2 hir]at h3;cases h2;cases h3;rw[a7 b hb,hx,af5]
   . rw[Zd7 e]at h2 h3;exact a5 b _ (λe2=>h.apart i j L M e hL h2 b e2 hb) (h.tig j M u h2 h3 b hb)
 . exact a5 b _ (λe2=>((h.dX e he).2 b hb).2 L hmL e2) (h.itg e he b hb)
 . exact λx hx=>a5 jb x nj hx
end
section
variable{s0 s s' : St}{jb : Pos}{Ls : List AV}{R : List (List AV)}{I : List (AV × List (List AV))}
theorem Ow.none(hw:Wf s)(hj:jb.toNat<s.next.toNat)(n:Nat):Ow s s jb (List.replicate n .af) (List.replicate n []) []:=by
 have hn:∀(i:Nat)(L:AV),(List.replicate n AV.af)[i]? =some L->L= .af:=λi L h=>by
   rw[Zi1]at h;split at h
   . cases h;rfl
   . cases h
 refine⟨hw,hj,hw,Za3 _,λ_ _ _ h=>h,λi L r h1 h2=> ?_,by simp,λL hL b hb=> ?_,λi j L M _ h1 _ b hb=> ?_,λe he=>(by cases he),λi L r h1 _ b hb=> ?_,λe he=>(by cases he),λe he=>by cases he⟩
 . obtain rfl:=hn i L h1;rw[Zi1]at h2;split at h2
   . cases h2;exact QS.nil
   . cases h2
 . rw[Zq0]at hL;obtain⟨_,rfl⟩:=hL;cases hb
 . obtain rfl:=hn i L h1;cases hb
 . obtain rfl:=hn i L h1;cases hb
theorem Ow.snoc(h:Ow s0 s jb Ls R I):Ow s0 s jb (Ls++[.af]) (R++[[]]) I:=by
 have sp:∀(i:Nat)(L:AV),(Ls++[.af])[i]? =some L->Ls[i]? =some L\/(i=Ls.length/\L= .af):=λi L h1=>by
   by_cases hi:i<Ls.length
   . rw[Zc3 hi]at h1;exact .inl h1
   . rw[Zc2 (by omega)]at h1;by_cases h0:i - Ls.length=0
     . rw[h0]at h1;simp at h1;exact .inr ⟨by omega,h1.symm⟩
     . rw[Zc1 (by simp;omega)]at h1;cases h1
 have mem:∀L∈Ls++[AV.af],∀b,aL L=some b->L∈Ls:=λL hL b hb=>by
   rcases Zd8.1 hL with hL|hL
   . exact hL
   . simp at hL;subst hL;cases hb
 refine⟨h.jN,h.lt,h.wf,h.next,h.keep,λi L r h1 h2=> ?_,by simp[h.len],λL hL b hb=>h.new L (mem L hL b hb) b hb,λi j L M V8 h1 h2 b hb xN=> ?_,λe he=>⟨(h.dX e he).1,λb hb=>⟨((h.dX e he).2 b hb).1,λL hL xN=>((h.dX e he).2 b hb).2 L (mem L hL b xN) xN⟩⟩,λi L r h1 h2 b hb=> ?_,h.itg,h.inw⟩
 . rcases sp i L h1 with h1|⟨rfl,rfl⟩
   . have hi:i<R.length:=(by rw[<-h.len];exact(Za2.1 h1).1);rw[Zc3 hi]at h2;exact h.own i L r h1 h2
   . rw[Zc2 (by rw[h.len];exact Za3 _),h.len]at h2;simp at h2;subst h2;exact QS.nil
 . rcases sp i L h1 with h1|⟨rfl,rfl⟩
   . rcases sp j M h2 with h2|⟨rfl,rfl⟩
     . exact h.apart i j L M V8 h1 h2 b hb xN
     . cases xN
   . cases hb
 . rcases sp i L h1 with h1|⟨rfl,rfl⟩
   . have hi:i<R.length:=(by rw[<-h.len];exact(Za2.1 h1).1);rw[Zc3 hi]at h2;exact h.tig i L r h1 h2 b hb
   . cases hb
theorem Ow.take{L:AV}{r:List AV}(h:Ow s0 s jb (Ls++[L]) (R++[r]) I):Ow s0 s jb Ls R ((L,r.map ot)::I):=by
 have hl:Ls.length=R.length:=by have:=h.len;simpa using this
 have up:∀(i:Nat)(M:AV),Ls[i]? =some M->(Ls++[L])[i]? =some M:=λi M h1=>by rw[Zc3 (Za2.1 h1).1];exact h1
 have upR:∀(i:Nat)(M:List AV),R[i]? =some M->(R++[r])[i]? =some M:=λi M h1=>by rw[Zc3 (Za2.1 h1).1];exact h1
 have hL:(Ls++[L])[Ls.length]? =some L:=by simp
 have hR:(R++[r])[Ls.length]? =some r:=by rw[hl];simp
 refine⟨h.jN,h.lt,h.wf,h.next,h.keep,λi M u h1 h2=>h.own i M u (up i M h1) (upR i u h2),hl,λM hM b hb=>h.new M (Zm7 _ hM) b hb,λi j M N V8 h1 h2 b hb xN=>h.apart i j M N V8 (up i M h1) (up j N h2) b hb xN,λe he=> ?_,λi M u h1 h2=>h.tig i M u (up i M h1) (upR i u h2),λe he b hb=> ?_,λe he b hb=> ?_⟩
 . rcases Zb0.1 he with rfl|he
   . refine⟨h.own _ _ _ hL hR,λb hb=>⟨λe=> ?_,λM hM xN=> ?_⟩⟩
     .  have:=h.new L (by simp) b hb;have:=h.lt;rw[e]at *; omega
     .  obtain⟨i,hi,rfl⟩:=Zg0.1 hM;exact h.apart i Ls.length _ L (by omega) (up i _ (H0 hi)) hL b xN hb
   . exact⟨(h.dX e he).1,λb hb=>⟨((h.dX e he).2 b hb).1,λM hM=>((h.dX e he).2 b hb).2 M (Zm7 _ hM)⟩⟩
 . rcases Zb0.1 he with rfl|he
   . rw[af5];exact h.tig _ _ _ hL hR b hb
   . exact h.itg e he b hb
 . rcases Zb0.1 he with rfl|he
   . exact h.new _ (by simp) b hb
   . exact h.inw e he b hb
end
theorem wU{R:Type}{c:aj}(K:AV->St->Option R){s:St}{p:Pos}{o:Nat}{cs:List AV}{v:AV}(h:s.heap.get p=some (.cells cs 0))(ho:o<cs.length)(h1:v.cells=[v])(h2:v.one=true):
  aq c (.store 1) [.ptr p o,v] s K=K .undef (bg s p (.cells (cs.set o v) 0)):=by
 rw[cg c K s 1 p o v cs h (by rw[h1];rfl) (by omega) (by rw[h1];simp[aQ,h2]),h1,zl _ _ ho]
theorem QS.beq{es:Nat}{s:St}{v:AV}{rows:List (List AV)}(h:QS es s v rows):ey v v=true:=by
 rcases h with⟨rfl,_⟩|⟨b,off,cap,cs,rfl,_⟩|⟨b,off,rfl,_⟩
 . rfl
 . cases cap<;>simp[ey,lM,fH,Pos.beq_eq.2 rfl]
 . simp[ey,lM,fH,Pos.beq_eq.2 rfl]
theorem Mk.beq{es:Nat}{s s':St}{v:AV}{rows:List (List AV)}(h:Mk es s s' v rows):ey v v=true:=h.own.beq
theorem FH{R:Type}{z:List AV}{x:AV}(hz:z.length=1)(hx:x.cells=[x])(s:St)(K:AV->AB->Option R):
  TA (.buildSlice 1 1 z [0]) [x] s K=K (.slice s.next 0 1 (some 1) 1) (.cells [x] 0):=by
 have:cE (bR z 1) ([0].map λi=>(i*1,1)) [x]=some [x]:=by
  simp only[Zd5,Zi5,Zn9,bR,Ze0,cE,dc,cZ,hx,Zg1,Zb6,hz,Za3,Zc6,Zi9];simp only[aX,Zp8,Ze3,Zb6,Zc6,Zi9];rw[Zm0 (by omega),Ze0]
 rw[qf,this];rfl
theorem FJ{R:Type}{c:aj}{z:List AV}{x:AV}(hz:z.length=1)(hx:x.cells=[x])(s:St)(K:AV->St->Option R):
  aq c (.buildSlice 1 1 z [0]) [x] s K=K (.slice s.next 0 1 (some 1) 1) (ah s (.cells [x] 0)):=by
 rw[KD hz (by rw[hx];rfl),hx]
section
variable{s0 s s' : St}{jb : Pos}{Ls : List AV}{R : List (List AV)}{I : List (AV × List (List AV))}
theorem Ow.ab4(h:Ow s0 s jb Ls R I){c:aj}{Q:Type}(bytes:Nat){i:Nat}{L:AV}{r:List AV}(hL:Ls[i]? =some L)(hR:R[i]? =some r){x:AV}(hx:x.cells=[x])(h1:x.one=true)
  (hb:(2*(r.length+1)+768)*bytes<=281474976710656) (hn:r.length<=4000000):
  ∃s5 v',(∀(K:AV->St->Option Q),aq c (.append 1 bytes) [L,.slice s.next 0 1 (some 1) 1] (ah s (.cells [x] 0)) K=K v' s5)/\Ow s0 s5 jb (Ls.set i v') (R.set i (r++[x])) I/\(∀x,s.heap.get jb=some x->s5.heap.get jb=some x)/\(∀p y,aL L≠some p->s.heap.get p=some y->s5.heap.get p=some y)/\v'.cells=[v']/\v'.one=true/\s.next.toNat<=s5.next.toNat/\∀b,aL v'=some b->s.next.toNat<=b.toNat:=by
 obtain⟨s5,v',a1,a2⟩:=h.push (c:=c) (Q:=Q) (bytes:=bytes) hL hR (z:=[.int .i64 0]) rfl hx h1 hb hn;refine⟨s5,v',λK=> ?_,a2⟩;rw[<-a1 K,FJ rfl hx]
theorem Ow.mem_set{v':AV}{i:Nat}{p:Pos}(hL:∀L∈Ls,aL L≠some p)(hv:aL v'≠some p):∀L∈Ls.set i v',aL L≠some p:=λL h=>by
 rcases Zg8 h with h|rfl
 . exact hL L h
 . exact hv
theorem Ow.put(h:Ow s0 s jb Ls R I){H:List AV}(CB:s.heap.get jb=some (.cells (H++Ls) 0)){c:aj}{Q:Type}(bytes:Nat){i:Nat}{L:AV}{r:List AV}(hL:Ls[i]? =some L)(hR:R[i]? =some r){x:AV}(hx:x.cells=[x])(h1:x.one=true)
   (hb:(2*(r.length+1)+768)*bytes<=281474976710656) (hn:r.length<=4000000) {o:Nat} (ho:o=H.length+i):
   ∃s5 s6 v',(∀(K:AV->St->Option Q),aq c (.append 1 bytes) [L,.slice s.next 0 1 (some 1) 1] (ah s (.cells [x] 0)) K=K v' s5)/\(∀(K:AV->St->Option Q),aq c (.store 1) [.ptr jb o,v'] s5 K=K .undef s6)/\Ow s0 s6 jb (Ls.set i v') (R.set i (r++[x])) I/\s6.heap.get jb=some (.cells (H++Ls.set i v') 0)/\
    (∀p y,p≠jb->(∀L∈Ls,aL L≠some p)->s.heap.get p=some y->s6.heap.get p=some y/\∀L∈Ls.set i v',aL L≠some p):=by
 obtain⟨s5,v',a1,a2,a3,a4,a5,a6,a7,a8⟩:=h.ab4 (c:=c) (Q:=Q) bytes hL hR hx h1 hb hn;have gZ:i<Ls.length:=(Za2.1 hL).1;have hj:=a3 _ CB;have es:(H++Ls).set o v'=H++Ls.set i v':=by subst ho;rw[Zj8 _ _ (by omega)];congr 2;omega
 refine⟨s5,bg s5 jb (.cells (H++Ls.set i v') 0),v',a1,λK=> ?_,a2.store _,bG _ _ _,λp y hp hpL hy=>⟨?_,Ow.mem_set hpL λe=> ?_⟩⟩
 . rw[wU K hj (by rw[Ze8];omega) a5 a6,es]
 . rw[aJ (λe=>hp e.symm)];exact a4 p y (hpL L (Zb9 hL)) hy
 . have:=a8 p e;have:=h.wf _ _ hy;omega
end
def Pk:List (Int×Int)->Nat->List (AV×AV×Nat)
 |[],_=>[]
 |(k,d)::E,i=>(.int .i64 k,.int .i64 d,i)::Pk E (i+1)
def im(E:List (Int×Int)):AB:= .map (Pk E 0) E.length
def jZ:List (Int×Int)->Int->Option Int
 |[],_=>none
 |(k,d)::E,x=>if x=k then some d else jZ E x
theorem ahb:∀(E:List (Int×Int))(i:Nat)(k d:Int),Pk (E++[(k,d)]) i=Pk E i++[(.int .i64 k,.int .i64 d,i+E.length)]
 |[],i,k,d=>rfl
 |(a,b)::E,i,k,d=>by
  show _::Pk (E++[(k,d)]) (i+1)=_::(Pk E (i+1)++_);rw[ahb E (i+1) k d];simp only[Zc6];rw[show i+1+E.length=i+(E.length+1)by omega]
theorem B8(x:Int):∀(E:List (Int×Int))(i j:Nat),(jZ E x=none->iu .i (.int .i64 x) (Pk E i) j=some none)/\∀d,jZ E x=some d->∃n,iu .i (.int .i64 x) (Pk E i) j=some (some (n,.int .i64 d))
 |[],i,j=>⟨λ_=>rfl,λd h=>by cases h⟩
 |(k,e)::E,i,j=>by
  have ih:=B8 x E (i+1) (j+1);have step:iu .i (.int .i64 x) (Pk ((k,e)::E) i) j=if x=k then some (some (j,.int .i64 e))else iu .i (.int .i64 x) (Pk E (i+1)) (j+1):=by
    show(match Bp .i (.int .i64 x) (.int .i64 k)with|some true=>some (some (j,AV.int .i64 e))|some false=>iu .i (.int .i64 x) (Pk E (i+1)) (j+1)|none=>none)=_;simp only[Bp,dD,nh];by_cases h:x=k
    . rw[Zb3 h,Za0 h]
    . rw[Za7 h,Za1 h]
  rw[step];unfold jZ;by_cases h:x=k
  . rw[Zb3 h,Zb3 h];exact⟨λh=>(by cases h),λd hd=>⟨j,by cases hd;rfl⟩⟩
  . rw[Za7 h,Za7 h];exact ih
section
variable{R : Type}(c : aj)(K : AV -> St -> Option R){st : St}{m : Pos}{E : List (Int × Int)}
theorem apw(h:st.heap.get m=some (im E))(x:Int):aq c (.lookup .i (.int .i64 0) true) [.map m,.int .i64 x] st K=K (.tuple [.int .i64 ((jZ E x).getD 0),.bool (jZ E x).isSome]) st:=by
 have:aG.run (λb=>st.heap.get b) st.next (.lookup .i (.int .i64 0) true) [.map m,.int .i64 x]=some (.val (.tuple [.int .i64 ((jZ E x).getD 0),.bool (jZ E x).isSome])):=by
  unfold im at h;cases hl:jZ E x with
  |none=>simp only[aG.run,lH,h,(B8 x E 0 0).1 hl];rfl
  |some d=>obtain⟨n,e⟩:=(B8 x E 0 0).2 d hl;simp only[aG.run,lH,h,e];rfl
 unfold aq cH;rw[this]
theorem atv(h:st.heap.get m=some (im E))(x:Int):aq c (.lookup .i (.int .i64 0) false) [.map m,.int .i64 x] st K=K (.int .i64 ((jZ E x).getD 0)) st:=by
 have:aG.run (λb=>st.heap.get b) st.next (.lookup .i (.int .i64 0) false) [.map m,.int .i64 x]=some (.val (.int .i64 ((jZ E x).getD 0))):=by
  unfold im at h;cases hl:jZ E x with
  |none=>simp only[aG.run,lH,h,(B8 x E 0 0).1 hl];rfl
  |some d=>obtain⟨n,e⟩:=(B8 x E 0 0).2 d hl;simp only[aG.run,lH,h,e];rfl
 unfold aq cH;rw[this]
theorem ahc(h:st.heap.get m=some (im E)){x:Int}(hx:jZ E x=none)(d:Int):aq c (.mapSet .i) [.map m,.int .i64 x,.int .i64 d] st K=K .undef (bg st m (im (E++[(x,d)]))):=by
 have:aG.run (λb=>st.heap.get b) st.next (.mapSet .i) [.map m,.int .i64 x,.int .i64 d]=some (.bk .undef none (some (m,im (E++[(x,d)]))) none):=by unfold im at h;simp only[aG.run,yf,h,agj,(B8 x E 0 0).1 hx];unfold im;rw[ahb];simp
 unfold aq cH;rw[this];rfl
end
theorem am2(i:Nat):bounds true false false [.int .i64 (i:Int)]=some (some i,none,none):=rfl
theorem am3(i:Nat):bounds false true false [.int .i64 (i:Int)]=some (none,some i,none):=rfl
theorem aeI{es:Nat}:∀(rows:List (List AV)),(∀r∈rows,r.length=es)->∀i,rows.flatten.drop (i*es)=(rows.drop i).flatten
 |[],_,i=>by simp
 |r::rows,hr,0=>by simp
 |r::rows,hr,i+1=>by have hl:=hr r (by simp);rw[Zf6,List.drop_succ_cons,Zg4,Zq9, <-Zl7, <-hl,List.drop_left,hl];exact aeI rows (λx hx=>hr x (Za9 _ hx)) i
theorem QS.low{es:Nat}{s:St}{v:AV}{rows:List (List AV)}(h:QS es s v rows)(hr:∀r∈rows,r.length=es){i:Nat}(hi:i<=rows.length):
   ∃v',(∀{R:Type}(c:aj)(K:AV->St->Option R)(s1:St),aq c (.sliceL es true false false) [v,.int .i64 (i:Int)] s1 K=K v' s1)/\QS es s v' (rows.drop i)/\∀b,aL v'=some b->aL v=some b:=by
 rcases h with⟨rfl,rfl⟩|⟨b,off,cap,cs,rfl,g1,g2,g3,g4⟩|⟨b,off,rfl,rfl⟩
 . obtain rfl:i=0:=(by simpa using hi);exact⟨.af,λc K s1=>aR c K (λH n=>rfl) s1,.inl ⟨rfl,rfl⟩,λb hb=>hb⟩
 . refine⟨.slice b (off+i*es) (rows.length - i) (cap.map (· - i)) es,λc K s1=>aR c K (λH n=> ?_) s1,?_,λb' hb=> ?_⟩
   . simp only[aG.run,iP,am2,dc,cZ,Zg1,Zf1,Zj0,Za0 hi];rcases g4 with rfl|rfl<;>simp
   . have hm:i*es+(rows.length - i)*es=rows.length*es:=(by rw[<-Zj3];congr 1;omega);refine .inr (.inl ⟨b,off+i*es,cap.map (· - i),cs,by rw[Zq7],g1,?_,?_,?_⟩)
     .  rw[Zq7];omega
     .  rw[<-aeI rows hr i, <-g3,Zn7,Zl7,Zq7];congr 1;omega
     .  rcases g4 with rfl|rfl
        . exact .inl rfl
        . right;simp
   . obtain rfl:=sY hb;simp only[aL]at hb ⊢;by_cases h0:cap=some 0/\rows.length=0
     .  obtain⟨rfl,h0⟩:=h0;rw[Zb3 (by simp;omega)]at hb;cases hb
     .  rw[Za7 h0]
 . obtain rfl:i=0:=(by simpa using hi);refine⟨.slice b (off+0*es) 0 (some 0) es,λc K s1=>aR c K (λH n=> ?_) s1,.inr (.inr ⟨_,_,rfl,rfl⟩),λb' hb=> ?_⟩
   . simp only[aG.run,iP,am2,dc,cZ,Zg1,Zf1,Zj0,Za3,Zk8]
   . rw[lV]at hb;cases hb
theorem QS.high{es:Nat}{s:St}{v:AV}{rows:List (List AV)}(h:QS es s v rows){i:Nat}(hi:i<=rows.length):
   ∃v',(∀{R:Type}(c:aj)(K:AV->St->Option R)(s1:St),aq c (.sliceL es false true false) [v,.int .i64 (i:Int)] s1 K=K v' s1)/\∀{R:Type}(c:aj)(K:AV->St->Option R)(s1:St),aq c (.lenB .l) [v'] s1 K=K (.int .i64 (i:Int)) s1:=by
 rcases h with⟨rfl,rfl⟩|⟨b,off,cap,cs,rfl,g1,g2,g3,g4⟩|⟨b,off,rfl,rfl⟩
 . obtain rfl:i=0:=(by simpa using hi);exact⟨.af,λc K s1=>aR c K (λH n=>rfl) s1,λc K s1=>aR c K (λH n=>rfl) s1⟩
 . refine⟨.slice b (off+0*es) (i - 0) cap es,λc K s1=>aR c K (λH n=> ?_) s1,λc K s1=>aR c K (λH n=>rfl) s1⟩;simp only[aG.run,iP,am3,dc,cZ,Zg1,Zf1,Zj0,Zi0];rcases g4 with rfl|rfl<;>simp[hi]
 . obtain rfl:i=0:=(by simpa using hi);refine⟨.slice b (off+0*es) 0 (some 0) es,λc K s1=>aR c K (λH n=> ?_) s1,λc K s1=>aR c K (λH n=>rfl) s1⟩;simp only[aG.run,iP,am3,dc,cZ,Zg1,Zf1,Zj0,Za3,Zk8]
theorem QS.clear{es:Nat}{z:List AV}{s:St}{v:AV}{rows:List (List AV)}(h:QS es s v rows)(hw:Wf s)(hz:z.length=es)(h1:∀n,aQ (bR z n)=true):
   ∃s',(∀{R:Type}(c:aj)(K:AV->St->Option R),aq c (.clearS es z) [v] s K=K .undef s')/\Wf s'/\s'.next=s.next/\∀p x,aL v≠some p->s.heap.get p=some x->s'.heap.get p=some x:=by
 rcases h with⟨rfl,rfl⟩|⟨b,off,cap,cs,rfl,g1,g2,g3,g4⟩|⟨b,off,rfl,rfl⟩
 . exact⟨s,λc K=>aR c K (λH n=>rfl) s,hw,rfl,λ_ _ _ h=>h⟩
 . by_cases h0:rows.length=0
   . refine⟨s,λc K=>aR c K (λH n=> ?_) s,hw,rfl,λ_ _ _ h=>h⟩;simp only[aG.run,sK,dc,h0,Zg1]
   . refine⟨bg s b (.cells (aX cs off (bR z rows.length)) 0),λc K=> ?_,jY hw (hw _ _ g1),dK _ _ _,λp x hp hx=> ?_⟩
     .  have:aG.run (λb=>s.heap.get b) s.next (.clearS es z) [.slice b off rows.length cap es]=some (.bk .undef none (some (b,.cells (aX cs off (bR z rows.length)) 0)) none):=by
         simp only[aG.run,sK,dc,Za1 h0,g1,cZ,Za0 g2,Zi0,Zg1,h1]
        unfold aq cH;rw[this];rfl
     .  rw[aJ (λe=>hp (by simp only[aL];rw[Za7 (by omega),e]))];exact hx
 . refine⟨s,λc K=>aR c K (λH n=> ?_) s,hw,rfl,λ_ _ _ h=>h⟩;simp[aG.run,sK,dc]
theorem QS.bare{es:Nat}{s:St}{v:AV}{rows:List (List AV)}(h:QS es s v rows):bK v:=by
 rcases h with⟨rfl,_⟩|⟨b,off,cap,cs,rfl,_⟩|⟨b,off,rfl,_⟩
 . exact bK.af
 . exact bK.slice _ _ _ _ _
 . exact bK.slice _ _ _ _ _
def emptyAt(s:St):St:={ heap:= .e,next:=s.next }
theorem ab5(s:St):Wf (emptyAt s):=λp x h=>by have h:(T.e:T AB).get p=some x:=h;rw[T.dO]at h;cases h
noncomputable def dw(s s1:St):St:={ heap:=T.both s.heap (CW s1.heap),next:=s1.next }
theorem ak2{s s1:St}{b:Pos}{x:AB}(h:s.heap.get b=some x):(dw s s1).heap.get b=some x:=by show(T.both _ _).get b=_;rw[T.FG,h];rfl
theorem CY{s s1:St}(hw:Wf s){b:Pos}{x:AB}(hb:s.next.toNat<=b.toNat)(h:s1.heap.get b=some x)(hx:Ki x):(dw s s1).heap.get b=some x:=by
 show(T.both _ _).get b=_;have:s.heap.get b=none:=by
  cases e:s.heap.get b with
  |none=>rfl
  |some y=>have:=hw _ _ e;omega
 rw[T.FG,this,am0 h hx];rfl
theorem ZP{s s1:St}(hw:Wf s)(h1:Wf s1)(hn:s.next.toNat<=s1.next.toNat):Grew s (dw s s1):=
 ⟨fun p x h=>by
  have h:(T.both s.heap (CW s1.heap)).get p=some x:=h;show p.toNat<s1.next.toNat;rw[T.FG]at h;cases e:s.heap.get p with
  |some y=>have:=hw _ _ e;omega
  |none=>
   rw[e]at h;have h:(CW s1.heap).get p=some x:=(by simpa using h);exact h1 _ _ (aeF h).1,λp x h=>ak2 h,hn⟩
theorem Mk.dw{es:Nat}{s s1:St}{v:AV}{rows:List (List AV)}(hw:Wf s)(h:Mk es (emptyAt s) s1 v rows)(hb:∀r∈rows,∀x∈r,bK x):Mk es s (Go.Ai.dw s s1) v rows:=by
 have key:∀b x,aL v=some b->s1.heap.get b=some x->(Go.Ai.dw s s1).heap.get b=some x:=λb x eN hx=>by
  have t:=h.tight b eN;have wD:x= .cells rows.flatten 0:=by rw[t]at hx;exact(Zg3 hx).symm
  subst wD;exact CY hw (h.new b eN) t (λv hv=>by obtain⟨r,hr,hv⟩:=List.mem_flatten.1 hv;exact hb r hr v hv)
 exact⟨hw,ZP hw h.ai.wf h.ai.next,h.own.mono key,h.new,h.row,h.cap,λb eN=>key b _ eN (h.tight b eN)⟩
theorem am4{call:aj}{f:FuncId}{d:Nat}{args:List AV}{s:St}{v:AV}{s1:St}(h:call f (args.map (fW s d)) (emptyAt s)=some (v,s1))(hb:bK v)(hn:s.next.toNat<=s1.next.toNat):
 VZ call f d args s=some (v,dw s s1):=ajU h ⟨hb,hn⟩
section
variable{H : Type}(Ok : DataW H -> Prop)(enc : TypeId × Value -> H)(P : Program)(w : World)(base : Nat)(spare : Nat -> Bool)(held : Bool)
variable{Ok enc P w base spare held}
end
end
section
open Go Go.WideShapes
section
variable{H : Type}(enc : TypeId × Value -> H)(P : Program)(w : World)(base : Nat)(spare : Nat -> Bool)(held : Bool)
variable{enc P w base spare held}
end
end
section
open Go
section
variable{c : aj}{R : Type}
theorem ahd{H:Pos->Option AB}{n:Pos}{k:IntKind}{a b:Int}(h1:0<=a)(h2:0<b):aG.run H n (.bin .rem .num) [.int k a,.int k b]=some (.val (.int k (a % b))):=by
 have e0:Ba b 0=false:=by rw[mK,Zn1];omega
 have e1:a.tmod b=a % b:=Int.tmod_eq_emod_of_nonneg h1;simp only[aG.run,ju,pz,dD,e0,e1]
theorem ahe{H:Pos->Option AB}{n:Pos}{a b:Int}(h1:0<=a)(h3:a<=9223372036854775807)(h2:0<b):aG.run H n (.bin .quo .num) [.int .i64 a,.int .i64 b]=some (.val (.int .i64 (a / b))):=by
 have e0:Ba b 0=false:=by rw[mK,Zn1];omega
 have e1:a.tdiv b=a / b:=Zi2 h1;have e3:0<=a / b:=Zr6 h1 (by omega);have e4:a / b<=a:=Int.ediv_le_self b h1;have e2:av .i64 (a / b)=a / b:=wrap64 (by omega) (by omega);simp only[aG.run,ju,pz,dD,e0,e1,e2]
theorem apx{H:Pos->Option AB}{n:Pos}{a:Int}{i:Nat}(h:i<=64):aG.run H n (.bin .shr .num) [.int .i64 a,.int .i64 (i:Int)]=some (.val (.int .i64 (a / 2 ^ i))):=by
 have e0:Bb (i:Int) 0=false:=by rw[fc,Za1 (by omega)]
 have e1:min (i:Int).toNat (IntKind.bits .i64)=i:=by have:IntKind.bits .i64=64:=rfl;rw[this];omega
 simp only[aG.run,ju,pz,e0,e1];rw[Zm8 _ (Int.le_of_lt (Int.pow_pos (by decide)))]
theorem cO{k:IntKind}{a b:Int}(h1:0<=a)(h2:0<b)(s:St)(K:AV->St->Option R):aq c (.bin .rem .num) [.int k a,.int k b] s K=K (.int k (a % b)) s:=aR c K (λH n=>ahd h1 h2) s
theorem RN{k:IntKind}{a b:Int}(h1:0<=a)(h2:0<b)(K:AV->Option R):fh (.bin .rem .num) [.int k a,.int k b] K=K (.int k (a % b)):=cX K (λH n=>ahd h1 h2)
theorem iz{a b:Int}(h1:0<=a)(h3:a<=9223372036854775807)(h2:0<b)(s:St)(K:AV->St->Option R):aq c (.bin .quo .num) [.int .i64 a,.int .i64 b] s K=K (.int .i64 (a / b)) s:=aR c K (λH n=>ahe h1 h3 h2) s
theorem ahf{a b:Int}(h1:0<=a)(h3:a<=9223372036854775807)(h2:0<b)(K:AV->Option R):fh (.bin .quo .num) [.int .i64 a,.int .i64 b] K=K (.int .i64 (a / b)):=cX K (λH n=>ahe h1 h3 h2)
theorem ahg{a:Int}{i:Nat}(h:i<=64)(s:St)(K:AV->St->Option R):aq c (.bin .shr .num) [.int .i64 a,.int .i64 (i:Int)] s K=K (.int .i64 (a / 2 ^ i)) s:=aR c K (λH n=>apx h) s
theorem B9(i:Int)(s:St)(K:AV->St->Option R):aq c (.conv (.int .u8)) [.int .i64 i] s K=K (.int .u8 (av .u8 i)) s:=aR c K (λH n=>rfl) s
theorem td(i:Int)(k:IntKind)(s:St)(K:AV->St->Option R):aq c (.conv (.int .i64)) [.int k i] s K=K (.int .i64 (av .i64 i)) s:=aR c K (λH n=>rfl) s
theorem ahh{x y:Int}(a b:Nat)(hx:x=(a:Int))(hy:y=(b:Int))(ha:a<256)(hb:b<256)(s:St)(K:AV->St->Option R):
  aq c (.buildSlice 1 2 [.int .u8 0] [0,1]) [.int .u8 x,.int .u8 y] s (λv t=>aq c (.conv .ofBytes) [v] t K)=K (.str [a,b]) (ah s (.cells [.int .u8 x,.int .u8 y] 0)):=by
 subst hx;subst hy;rw[show aq c (.buildSlice 1 2 [.int .u8 0] [0,1]) [.int .u8 (a:Int),.int .u8 (b:Int)] s (λv t=>aq c (.conv .ofBytes) [v] t K)=aq c (.conv .ofBytes) [.slice s.next 0 2 (some 2) 1] (ah s (.cells [.int .u8 (a:Int),.int .u8 (b:Int)] 0)) K from rfl];have:aG.run (λp=>(ah s (.cells [.int .u8 (a:Int),.int .u8 (b:Int)] 0)).heap.get p) (ah s (.cells [.int .u8 (a:Int),.int .u8 (b:Int)] 0)).next (.conv .ofBytes) [.slice s.next 0 2 (some 2) 1]=some (.val (.str [a,b])):=by
  have ha':Nat.blt a 256=true:=by simpa using ha
  have eN:Nat.blt b 256=true:=by simpa using hb
  simp only[aG.run,Ft,aA];show(match bytesOf [.int .u8 (.ofNat a),.int .u8 (.ofNat b)]with|some s=>some (eG.val (.str s))|none=>none)=_;simp only[bytesOf,ha',eN]
 unfold aq cH;rw[this]
end
theorem Mk.apy{s s':St}{l:List AV}(hi:∀u∈l,dQ u)(hw:Wf s)(hg:Grew s s'):
   ∃fN,Go.Ai.tidy s (.agg l,s')=(.agg l,fN)/\Grew s fN/\(∀(es:Nat)(v:AV)(rows:List (List AV)),v∈l->Mk es s s' v rows->Mk es s fN v rows/\(fN=s'\/rows=[])):=by
 unfold Go.Ai.tidy;by_cases hp:Plain (AV.agg l,s').1/\aW s (AV.agg l,s').2
 . rw[Zb3 hp];refine⟨s,rfl,Grew.refl hw,λes v rows hm h=> ?_⟩;rcases h.loose with⟨b,off,n,rfl⟩|⟨hl,h0⟩
   . exact absurd hp.1 (ny hi hm)
   . exact⟨hl s h.jN,.inr h0⟩
 . rw[Za7 hp];exact⟨s',rfl,hg,λes v rows _ h=>⟨h,.inl rfl⟩⟩
theorem Mk.qY{es:Nat}{s0 s s':St}{v:AV}{rows:List (List AV)}(h:Mk es s0 s v rows)(hg:Grew s0 s')(hk:∀b x,aL v=some b->s.heap.get b=some x->s'.heap.get b=some x):Mk es s0 s' v rows:=
 ⟨h.jN,hg,h.own.mono hk,h.new,h.row,h.cap,λb hb=>hk b _ hb (h.tight b hb)⟩
theorem Mk.qZ{es:Nat}{s0 s1 s s':St}{v:AV}{rows:List (List AV)}(h:Mk es s1 s v rows)(h0:Wf s0)(zF:Grew s0 s1)(hg:Grew s0 s')(hk:∀q b,s1.next.toNat<=q.toNat->s.heap.get q=some b->s'.heap.get q=some b):Mk es s0 s' v rows:=
 ⟨h0,hg,h.own.mono (λb x hb hx=>hk b x (h.new b hb) hx),λb hb=>Zb2 zF.next (h.new b hb),h.row,h.cap,λb hb=>hk b _ (h.new b hb) (h.tight b hb)⟩
end
section
open Go Go.WideShapes
theorem GG{Q:List AV->Prop}{Qs:List (List AV->Prop)}{ps:List (List AV)}(h:RH (Q::Qs) ps):∃p qs,ps=p::qs/\Q p/\RH Qs qs:=by
 cases ps with
 |nil=>exact h.elim
 |cons p qs=>exact⟨p,qs,rfl,h⟩
theorem ahi{ps:List (List AV)}(h:RH [] ps):ps=[]:=by
 cases ps with
 |nil=>rfl
 |cons p qs=>exact h.elim
section
variable{H : Type}{enc : TypeId × Value -> H}{P : Program}{w : World}{base : Nat}{spare : Nat -> Bool}{held : Bool}
theorem Pm{t e:TypeId}{Q:List AV->Prop}{r:Go.Reach}{b0:Nat}{v:Value}{d:DataW H}{p:List MemPlace}(ho:o8 enc P w base spare held t Q)(ht:P.underlying t=some (.slice e))
  (hval:Value.okWide P w r b0 t v) (hd:DataW.Trod enc P w base spare held t v d p):∃as,Q as/\∀ρ n,aK ρ n (λad=>w.cell? ad) as [v]:=by
 obtain⟨a,len,cap,rfl⟩:=okWide_slice ht hval;obtain⟨fuel,hf⟩:=hd;exact ho _ _ _ hf
end
end
noncomputable section
open Go
inductive Un where
 |z
 |s (n:Un)
def un:Nat->Un
 |0=> .z
 |n+1=> .s (un n)
inductive Tx where
 |bad
 |op (k:aG) (xs:List ic) (d:Option Pos) (t:Tx)
 |gop (g:Pos) (w:Bool) (k:aG) (xs:List ic) (d:Option Pos) (t:Tx)
 |dr (t:Tx)
 |pr (k:aG) (xs:List ic) (d:Option Pos) (t:Tx)
 |ZI (g:Pos) (w:Bool) (k:aG) (xs:List ic) (d:Option Pos) (t:Tx)
 |rd (b:List Bool) (k:aG) (xs:List ic) (d:Option Pos) (t:Tx)
 |ZJ (g:Pos) (w:Bool) (b:List Bool) (k:aG) (xs:List ic) (d:Option Pos) (t:Tx)
 |nw (k:aG) (xs:List ic) (d:Option Pos) (t:Tx)
 |gnw (g:Pos) (w:Bool) (k:aG) (xs:List ic) (d:Option Pos) (t:Tx)
 |ef (k:aG) (xs:List ic) (d:Option Pos) (t:Tx)
 |gef (g:Pos) (w:Bool) (k:aG) (xs:List ic) (d:Option Pos) (t:Tx)
 |cnd (x:ic) (a b:Tx)
 |jn (l:List Pos) (a b:Tx)
 |jmp (i:Un) (l:List Pos)
 |arg (l:List Pos) (t:Tx) (r:Tx)
 |lp (j:Un) (ins:List Pos)
 |agn (ins:List Pos)
 |out (i:Un) (l:List Pos)
 |res (rs:List OL)
def txO:List bQ->Tx->Tx
 |[],t=>t
 |  o::os,t=>match o.guard with
    |none=> .op o.k o.xs o.dst (txO os t)
    |some (p,w)=> .gop p w o.k o.xs o.dst (txO os t)
def bitsOf(bY:Nat):List Nat->List Bool
 |[]=>[]
 |i::is=>bY.testBit i::bitsOf bY is
def txD:List (Nat×bQ)->List Nat->Tx->Tx
 |[],_,t=>t
 |  (j,o)::os,is,t=>match o.cls,o.guard with
    | .pure,none=> .pr o.k o.xs o.dst (txD os (j::is) t)
    | .pure,some (p,w)=> .ZI p w o.k o.xs o.dst (txD os (j::is) t)
    | .read,none=> .rd (bitsOf o.bY is) o.k o.xs o.dst (txD os (j::is) t)
    | .read,some (p,w)=> .ZJ p w (bitsOf o.bY is) o.k o.xs o.dst (txD os (j::is) t)
    | .new,none=> .nw o.k o.xs o.dst (txD os (j::is) t)
    | .new,some (p,w)=> .gnw p w o.k o.xs o.dst (txD os (j::is) t)
    | .bk,none=> .ef o.k o.xs o.dst (txD os (j::is) t)
    | .bk,some (p,w)=> .gef p w o.k o.xs o.dst (txD os (j::is) t)
def txA(K:oH->Tx):List (Nat×List Pos)->Tx->Tx
 |[],t=>t
 |(e,l)::r,t=> .arg l (K (exOf e)) (txA K r t)
def tx:AC->Sh->Nat->(oH->Nat->Tx)->Tx
 | .skip,_,d,K=>K .normal d
 | .region ops,_,d,K=>txO ops (K .normal d)
 | .draw ops,_,d,K=> .dr (txD ops [] (K .normal d))
 |  .seq a b,s,d,K=>match s with
    | .seq none s t=>tx a s d λex d=>match ex with
      | .normal=>tx b t d K
      | .exit i=>K (.exit i) d
      | .ret=>K .ret d
    | .seq (some l) s t=> .jn l (tx a s (d+1) λex d'=>match ex with
      | .normal=> .jmp (un (d' - d - 1)) l
      | .exit i=>K (.exit i) d'
      | .ret=>K .ret d') (tx b t d K)
    |_=> .bad
 |  .cond x a b,s,d,K=>match s with
    | .cond s t=> .cnd x (tx a s d K) (tx b t d K)
    |_=> .bad
 |  .block id a,s,d,K=>match s with
    | .block s=>tx a s d λex d=>match ex with
      | .normal=>K .normal d
      | .exit i=>match Nat.beq i id with
        |true=>K .normal d
        |false=>K (.exit i) d
      | .ret=>K .ret d
    |_=> .bad
 |  .loop _,s,d,K=>match s with
    | .loop j ins outs _=>txA (λex=>K ex d) outs (.lp (un j) ins)
    |_=> .bad
 | .exit id,_,d,K=>K (.exit id) d
 | .ret,_,d,K=>K .ret d
def idxOf:List (Nat×List Pos)->Nat->Nat
 |[],_=>0
 |  (i,_)::r,e=>match Nat.beq i e with
    |true=>0
    |false=>idxOf r e+1
def txF(A:dN)(s:Sh):Tx:=tx A.code s 0 λex _=>match ex with
 | .normal=> .res A.results
 | .ret=> .res A.results
 | .exit _=> .bad
def txL(x:AC×Sh):List Pos×Tx:=match x.2 with
 |  .loop _ ins outs s=>(ins,tx x.1 s 0 λex _=>match ex with
    | .normal=> .agn ins
    | .exit i=> .out (un (idxOf outs (i+2))) (Yn outs (i+2))
    | .ret=> .out (un (idxOf outs 1)) (Yn outs 1))
 |_=>([],.bad)
section
variable{R : Type}
abbrev KK(R:Type):=List AV->St->Option R
abbrev O2:=Option (AV×St)
abbrev Q2:=KK (AV×St)
def EI:Unit:=(λ_=>()) (@den AV)
def Bt(p:Pos)(fr:Fr)(k:AV->Option R):Option R:=match fr.get p with
 |some v=>k v
 |none=>(λ_=>none) EI
def CZ(p:Pos)(v:AV)(fr:Fr)(k:Fr->Option R):Option R:=(λ_=>k (fr.put (some v) p)) EI
def C8(d:Option Pos)(v:AV)(fr:Fr)(k:Fr->Option R):Option R:=match d with
 |some p=>CZ p v fr k
 |none=>k fr
def GH(fr:Fr):List ic->(List AV->Option R)->Option R
 |[],k=>k []
 | .t p::xs,k=>Bt p fr λv=>GH fr xs λvs=>k (v::vs)
 | .c v::xs,k=>GH fr xs λvs=>k (v::vs)
def getLT:List Pos->Fr->(List AV->Option R)->Option R
 |[],_,k=>k []
 |p::ps,fr,k=>Bt p fr λv=>getLT ps fr λvs=>k (v::vs)
def Gj:List Pos->List AV->Fr->(Fr->Option R)->Option R
 |[],vs,fr,k=>mz vs (k fr)
 |p::ps,vs,fr,k=>gY vs λv vs=>CZ p v fr λfr=>Gj ps vs fr k
def ab6(p:Pos)(k:Pos->Option R):Option R:=(λ_=>k p.succ) EI
def aaM:Pos->List AV->Fr->(Fr->Option R)->Option R
 |_,[],fr,k=>k fr
 |p,v::vs,fr,k=>CZ p v fr λfr=>ab6 p λp=>aaM p vs fr k
def kat:Un->List (KK R)->KK R
 | .z,k::_=>k
 | .s n,_::ks=>kat n ks
 |_,[]=>λ_ _=>none
def C9:List Bool->T AB->List RC->T AB
 |  b ::bs,h,r::rs=>match r with
    | .new id aM=>match b with
      |true=>(C9 bs h rs).put (some aM) id
      |false=>C9 bs h rs
    | .bk _ _=>h
    | .pure=>C9 bs h rs
 |_,h,_=>h
def Da(k:aG)(xs:List AV)(v:AV):List (Pos×AB)->List Bool->List RC->Bool
 |  up,b::bs,r::rs=>match r with
    | .new id aM=>match b with
      |true=>Da k xs v ((id,aM)::up) bs rs
      |false=>Da k xs v up bs rs
    | .bk base _=>match b with
      |true=>true
      |false=>oY k xs v (nK up (C9 bs base rs))&&Da k xs v up bs rs
    | .pure=>Da k xs v up bs rs
 |_,_,_=>true
def V9(fr:Fr)(st:St):List OL->(List AV->Option R)->Option R
 |[],k=>k []
 | .tmp p::rs,k=>Bt p fr λv=>V9 fr st rs λvs=>k (v::vs)
 | .cell p n::rs,k=>Bt p fr λq=>ldr n q st λv=>V9 fr st rs λvs=>k (v::vs)
def af6(as:List (KK R))(f:KK R)(k:List (KK R)->Option R):Option R:=(λ_=>k (as++[f])) EI
def pkR(vs:List AV)(st:St):Option (AV×St):=some (zi vs,st)
end
section
variable(c : aj)(F : Nat)(Ls : Un -> List Q2 -> Nat -> Q2)(ag : Q2)(ko : List Q2)
def evX(fr:Fr)(x:ic)(k:AV->Option (AV×St)):Option (AV×St):=match x with
 | .t p=>Bt p fr k
 | .c v=>k v
def ev:Tx->List (KK (AV×St))->List (KK (AV×St))->Fr->St->List RC->T AB->Option (AV×St)
 | .bad,_,_,_,_,_,_=>none
 | .op k xs d t,ks,as,fr,st,rs,b=>GH fr xs λvs=>aq c k vs st λv st=>C8 d v fr λfr=>ev t ks as fr st rs b
 | .gop g w k xs d t,ks,as,fr,st,rs,b=>GH fr xs λvs=>Bt g fr λg=>pN c g w k vs st λv st=>C8 d v fr λfr=>ev t ks as fr st rs b
 | .dr t,ks,as,fr,st,_,_=>ev t ks as fr st [] st.heap
 | .pr k xs d t,ks,as,fr,st,rs,b=>GH fr xs λvs=>fh k vs λv=>C8 d v fr λfr=>ev t ks as fr st (.pure::rs) b
 | .ZI g w k xs d t,ks,as,fr,st,rs,b=>GH fr xs λvs=>Bt g fr λg=>ZI g w k vs λv=>C8 d v fr λfr=>ev t ks as fr st (.pure::rs) b
 | .rd bs k xs d t,ks,as,fr,st,rs,b=>GH fr xs λvs=>jx k vs (C9 bs b rs) (λv=>Da k vs v [] bs rs) λv=>C8 d v fr λfr=>ev t ks as fr st (.pure::rs) b
 | .ZJ g w bs k xs d t,ks,as,fr,st,rs,b=>GH fr xs λvs=>Bt g fr λg=>ZJ g w k vs (C9 bs b rs) (λv=>Da k vs v [] bs rs) λv=>C8 d v fr λfr=>ev t ks as fr st (.pure::rs) b
 | .nw k xs d t,ks,as,fr,st,rs,b=>GH fr xs λvs=>TA k vs st λv aM=>C8 d v fr λfr=>ev t ks as fr (ah st aM) (.new st.next aM::rs) b
 | .gnw g w k xs d t,ks,as,fr,st,rs,b=>GH fr xs λvs=>Bt g fr λg=>ZK g w (TA k vs st λv aM=>C8 d v fr λfr=>ev t ks as fr (ah st aM) (.new st.next aM::rs) b) (C8 d .undef fr λfr=>ev t ks as fr st (.pure::rs) b)
 | .ef k xs d t,ks,as,fr,st,rs,b=>GH fr xs λvs=>aq c k vs st λv st'=>C8 d v fr λfr=>ev t ks as fr st' (.bk b st'.heap::rs) st'.heap
 | .gef g w k xs d t,ks,as,fr,st,rs,b=>GH fr xs λvs=>Bt g fr λg=>ZK g w (aq c k vs st λv st'=>C8 d v fr λfr=>ev t ks as fr st' (.bk b st'.heap::rs) st'.heap) (C8 d .undef fr λfr=>ev t ks as fr st (.pure::rs) b)
 | .cnd x t u,ks,as,fr,st,rs,b=>evX fr x λv=>cnd v (ev t ks as fr st rs b) (ev u ks as fr st rs b)
 | .jn l t u,ks,as,fr,st,rs,b=>cL (λk=>ev t (k::ks) as fr st rs b) (λvs st=>Gj l vs .e λfr=>ev u ks as fr st [] .e)
 | .jmp i l,ks,_,fr,st,_,_=>getLT l fr λvs=>kat i ks vs st
 | .arg l t r,ks,as,fr,st,rs,b=>af6 as (λos st=>Gj l os .e λfr=>ev t ks [] fr st [] .e) λas=>ev r ks as fr st rs b
 | .lp j ins,_,as,fr,st,_,_=>getLT ins fr λvs=>Ls j as F vs st
 | .agn ins,_,_,fr,st,_,_=>getLT ins fr λvs=>ag vs st
 | .out i l,_,_,fr,st,_,_=>getLT l fr λvs=>kat i ko vs st
 | .res rs,_,_,fr,st,_,_=>V9 fr st rs λvs=>pkR vs st
def dR(p:List Pos×Tx)(vs:List AV)(st:St):Option (AV×St):=Gj p.1 vs .e λfr=>ev c F Ls ag ko p.2 [] [] fr st [] .e
end
def aY{R:Type}:Un->List (KK R)->Nat->KK R:=λ_ _ _ _ _=>none
def fD{R:Type}:KK R:=λ_ _=>none
def bf(c:aj)(F:Nat)(Ls:Un->List Q2->Nat->Q2)(t:Tx)(args:List AV)(st:St):O2:=aaM .h args .e λfr=>ev c F Ls fD [] t [] [] fr st [] .e
def tS(Ls:Un->List Q2->Nat->Q2)(A:dN)(s:Sh):Env (AV×St):=λj K=>Ls (un j) ((lpO (iw A s j).2).map λo=>K o.1)
def sl:Sh:= .leaf
def sq(a b:Sh):Sh:= .seq none a b
def sj(l:List Nat)(a b:Sh):Sh:= .seq (some (l.map key)) a b
def sc(a b:Sh):Sh:= .cond a b
def sb(a:Sh):Sh:= .block a
def sp(j:Nat)(ins:List Nat)(outs:List (Nat×List Nat))(a:Sh):Sh:= .loop j (ins.map key) (outs.map λo=>(o.1,o.2.map key)) a
section
variable{R : Type}(l r : Fr)(v u : AV)(x : Option AV)(p : Pos)(fr : Fr)(k : AV -> Option R)(K : Fr -> Option R)(kp : Pos -> Option R)
theorem Wc:Bt .h (.n l (some v) r) k=k v:=rfl
theorem Wd:Bt (.o p) (.n l x r) k=Bt p l k:=rfl
theorem We:Bt (.i p) (.n l x r) k=Bt p r k:=rfl
theorem Pn:CZ .h v .e K=K (.n .e (some v) .e):=rfl
theorem Po:CZ .h v (.n l x r) K=K (.n l (some v) r):=rfl
theorem Pp:CZ (.o p) v .e K=CZ p v .e λt=>K (.n t none .e):=rfl
theorem Pq:CZ (.o p) v (.n l x r) K=CZ p v l λt=>K (.n t x r):=rfl
theorem Pr:CZ (.i p) v .e K=CZ p v .e λt=>K (.n .e none t):=rfl
theorem Pt:CZ (.i p) v (.n l x r) K=CZ p v r λt=>K (.n l x t):=rfl
theorem Wg:C8 none v fr K=K fr:=rfl
theorem Wh:C8 (some p) v fr K=CZ p v fr K:=rfl
theorem Pu:ab6 .h kp=kp (.o .h):=rfl
theorem Pv:ab6 (.o p) kp=kp (.i p):=rfl
theorem Px:ab6 (.i p) kp=ab6 p λq=>kp (.o q):=rfl
theorem Py(f:KK R)(k:List (KK R)->Option R):af6 [] f k=k [f]:=rfl
theorem Pz(a:KK R)(as:List (KK R))(f:KK R)(k:List (KK R)->Option R):af6 (a::as) f k=af6 as f λl=>k (a::l):=rfl
theorem ab7(st:St):pkR [] st=some (.tuple [],st):=rfl
theorem ab8(st:St):pkR [v] st=some (v,st):=rfl
theorem ab9(vs:List AV)(st:St):pkR (v::u::vs) st=some (.tuple (v::u::vs),st):=rfl
theorem Gk(c:aj)(F:Nat)(Ls:Un->List Q2->Nat->Q2)(ag:Q2)(ko:List Q2)(l:List Pos)(t:Tx)(vs:List AV)(st:St):dR c F Ls ag ko (l,t) vs st=Gj l vs .e λfr=>ev c F Ls ag ko t [] [] fr st [] .e:=rfl
end
def zH{α:Type}:Option α->Bool
 |none=>true
 |some _=>false
theorem atw{α:Type}{o:Option α}(h:zH o=true):o=none:=by cases o with|none=>rfl|some _=>cases h
theorem atx{α:Type}[Inhabited α]{o:Option α}(h:zH o=false):o=some (o.getD default):=by cases o with|none=>cases h|some _=>rfl
def xO(G:T dN)(f:Nat):dN:=(G.get (key f)).getD default
theorem am5{O:eP}{G:T dN}{F:Nat}{L:Env (AV×St)}{f:FuncId}{s:Sh}{args:List AV}{st:St}{r:AV×St}(hk:(zH (O f)&& !zH (G.get (key f)))=true)
  (hL:∀x∈fP (xO G f).code s,CS (run O G) F L x.1 x.2) {k:O2} (hd:Ik (run O G) F L (xO G f) s args st=k) (h:k=some r):run O G f args st=some (tidy st r):=by
 simp only[Zb5,Zk5]at hk;exact apg (atw hk.1) (atx hk.2) hL (hd.trans h)
theorem ajY{O:eP}{G:T dN}{F:Nat}{f:FuncId}{args:List AV}{st:St}{r:AV×St}(s:Sh)(hk:(zH (O f)&& !zH (G.get (key f))&&(fP (xO G f).code s).isEmpty)=true)
  {k:O2} (hd:Ik (run O G) F (af3 []) (xO G f) s args st=k) (h:k=some r):run O G f args st=some (tidy st r):=by
 rw[Zb5,List.isEmpty_iff]at hk;exact am5 hk.1 (by rw[hk.2];intro x hx;cases hx) hd h
theorem adA{O:eP}{G:T dN}{F:Nat}{f:FuncId}{args:List AV}{st:St}{r:AV×St}(Ls:Un->List Q2->Nat->Q2)(s:Sh)(n:Nat)(hk:(zH (O f)&& !zH (G.get (key f))&&Nat.beq (fP (xO G f).code s).length n)=true)
  (hL:∀i,i<n->CS (run O G) F (tS Ls (xO G f) s) (iw (xO G f) s i).1 (iw (xO G f) s i).2) {k:O2} (hd:Ik (run O G) F (tS Ls (xO G f) s) (xO G f) s args st=k) (h:k=some r):run O G f args st=some (tidy st r):=by
 rw[Zb5]at hk;exact am5 hk.1 (aph n hk.2 hL) hd h
theorem ajZ {O:eP} {G:T dN}  {F:Nat}{f:FuncId}{args:List AV}{st:St}{r:AV×St}(Ls:Un->List Q2->Nat->Q2)(s:Sh)(hk:(zH (O f)&& !zH (G.get (key f))&&Nat.beq (fP (xO G f).code s).length 1)=true)
  (hs:(adr (iw (xO G f) s 0).2&&Nat.beq (lpJ (iw (xO G f) s 0).2) 0)=true) (h0:∀K' vs st,tS Ls (xO G f) s 0 K' 0 vs st=none)
  (h1:∀K' n vs st,tS Ls (xO G f) s 0 K' (n+1) vs st=Pg (den (run O G) F (tS Ls (xO G f) s) (iw (xO G f) s 0).1 (lpB (iw (xO G f) s 0).2)) (lpI (iw (xO G f) s 0).2) (lpO (iw (xO G f) s 0).2) K' (tS Ls (xO G f) s 0 K' n) vs st)
  {k:O2} (hd:Ik (run O G) F (tS Ls (xO G f) s) (xO G f) s args st=k) (h:k=some r):run O G f args st=some (tidy st r):=
 adA Ls s 1 hk (fun i hi=>by obtain rfl:i=0:=by omega
                             exact cr 0 hs h0 h1) hd h
end
section
open Go
theorem yE{R:Type}{Q:Option R->Prop}(P:(List AV->St->Option R)->Prop){A:(List AV->St->Option R)->Option R}{T:List AV->St->Option R}(hT:P T)(hA:∀j,P j->Q (A j)):Q (cL A T):=hA T hT
theorem Ca{m:Nat}(h1:1<=m)(h2:m<=18):m=1\/m=2\/m=3\/m=4\/m=5\/m=6\/m=7\/m=8\/m=9\/m=10\/m=11\/m=12\/m=13\/m=14\/m=15\/m=16\/m=17\/m=18:=by omega
end
section
def cnt(n:Nat)(P:Nat->Bool):Nat:=match n with
 |0=>0
 |n+1=>cnt n P+if P n then 1 else 0
def nG(n:Nat)(f:Nat->Nat):Nat:=match n with
 |0=>0
 |n+1=>nG n f+f n
theorem vD:∀{n:Nat}{P Q:Nat->Bool},(∀i,i<n->P i=true->Q i=true)->cnt n P<=cnt n Q
 |0,_,_,_=>Za3 _
 |n+1,P,Q,h=>by
  have ih:=vD (n:=n) (P:=P) (Q:=Q) λi hi=>h i (by omega)
  have:=h n (by omega);unfold cnt;cases hp:P n<;>cases hq:Q n<;>simp_all<;>omega
theorem yF:∀{n:Nat}{f g:Nat->Nat},(∀i,i<n->f i<=g i)->nG n f<=nG n g
 |0,_,_,_=>Za3 _
 |n+1,f,g,h=>by
  have ih:=yF (n:=n) (f:=f) (g:=g) λi hi=>h i (by omega)
  have:=h n (by omega);unfold nG;omega
theorem aaN:∀(n:Nat)(f g:Nat->Nat),nG n (λi=>f i+g i)=nG n f+nG n g
 |0,_,_=>rfl
 |n+1,f,g=>by unfold nG;rw[aaN n f g];omega
theorem zm{n:Nat}{f g:Nat->Nat}(h:∀i,i<n->f i=g i):nG n f=nG n g:=
 Nat.le_antisymm (yF λi hi=>Zr2 (h i hi)) (yF λi hi=>Zr2 (h i hi).symm)
theorem yG{n:Nat}{P Q:Nat->Bool}(h:∀i,i<n->P i=Q i):cnt n P=cnt n Q:=
 Nat.le_antisymm (vD λi hi e=>by rw[<-h i hi];exact e) (vD λi hi e=>by rw[h i hi];exact e)
theorem ahj{n:Nat}{P:Nat->Bool}(h:∀i,i<n->P i=false):cnt n P=0:=by
 induction n with
 |zero=>rfl
 |succ n ih=>unfold cnt;rw[ih λi hi=>h i (by omega),h n (by omega)];rfl
theorem arZ{n:Nat}{P:Nat->Bool}{i:Nat}(hi:i<n)(h:P i=true):0<cnt n P:=by
 induction n with
 |zero=>omega
 |succ n ih=>
  unfold cnt;by_cases e:i=n
  . subst e;rw[h];simp
  . have:=ih (by omega);omega
theorem Wi(n:Nat)(P:Nat->Bool):cnt n P<=n:=by
 induction n with
 |zero=>exact Za3 _
 |succ n ih=>unfold cnt;split<;>omega
theorem Nb:∀(n:Nat)(P Q:Nat->Bool),cnt n P=cnt n (λi=>P i&&Q i)+cnt n (λi=>P i&& !Q i)
 |0,_,_=>rfl
 |n+1,P,Q=>by unfold cnt;rw[Nb n P Q];cases P n<;>cases Q n<;>simp<;>omega
theorem acd (n:Nat)(P:Nat->Bool)(t:Nat->Nat):∀T,nG T (λk=>cnt n λi=>P i&&t i==k)<=cnt n P:=λT=>by
 have h: ∀T  ,nG T (λk=>cnt n λi=>P i&&t i==k)=cnt n λi=>P i&&decide (t i<T):=λT=>by
  induction T with
  |zero=>    rw[ahj];· rfl
             . intro i _;simp
  |succ T ih=>
   unfold nG;rw[ih,Nb n (λi=>P i&&decide (t i<T+1)) (λi=>decide (t i<T))];congr 1
   .    (refine yG λi _=> ?_);cases P i<;>simp<;>omega
   .    (refine yG λi _=> ?_);cases P i
        . simp
        . rcases Zq5 (t i) T with h|h|h
          . simp[h];omega
          . simp[h]
          . have h1:¬t i<T+1:=(by omega);have h2:t i≠T:=(by omega);simp[h1,h2]
 rw[h T];exact vD λi _ e=>by simp at e;exact e.1
def on(q:Nat->Int)(g:Nat):Bool:=decide (0<=q g)
inductive RM where
 |two (a b:Nat) (P:Int->Int->Bool)
 |one (a:Nat) (P:Int->Bool)
 |Nc (P:Nat->Nat->Int->Int->Bool)
 |pN (P:Nat->Int->Bool)
 |spk (f:(Nat->Int)->Nat)
 |fT (A:Nat->Bool)
 |PC (A:Nat->Bool) (m:Nat)
 |EN (A:Nat->Bool) (m:Nat)
structure JT where
 n:Nat
 T:Nat
 tab:Int->Nat
 host:Nat->Bool
section
variable(J : JT)(q : Nat -> Int)
def JT.at(t:Nat)(g:Nat):Bool:=on q g&&J.tab (q g)==t
def JT.jd:RM->Nat
 | .two a b P=>if on q a&&on q b&&P (q a) (q b)then 1 else 0
 | .one a P=>if on q a&&P (q a)then 1 else 0
 | .Nc P=>nG J.n λa=>cnt J.n λb=>decide (a<b)&&on q a&&on q b&&P a b (q a) (q b)
 | .pN P=>cnt J.n λg=>on q g&&P g (q g)
 | .spk f=>f q
 | .fT A=>nG J.T λt=>if A t&&decide (0<cnt J.n (J.at q t))&&decide (cnt J.n (λg=>J.at q t g&&J.host g)=0)then 1 else 0
 | .PC A m=>nG J.T λt=>if A t then m - cnt J.n (J.at q t)else 0
 | .EN A m=>nG J.T λt=>if A t then cnt J.n (J.at q t) - m else 0
def JT.left:Nat:=cnt J.n λg=> !on q g
def JT.Nd:Nat:=cnt J.n λg=> !on q g&&J.host g
def JT.least:RM->Nat
 | .spk f=>if 0<J.left q then 0 else f q
 | .fT A=>J.jd q (.fT A) - J.Nd q
 | .PC A m=>J.jd q (.PC A m) - J.left q
 |r=>J.jd q r
end
def Ext(n:Nat)(q p:Nat->Int):Prop:=∀g,g<n->0<=q g->p g=q g
theorem Ext.on{n:Nat}{q p:Nat->Int}(h:Ext n q p){g:Nat}(hg:g<n)(e:Go.Ai.on q g=true):Go.Ai.on p g=true/\p g=q g:=by
 have e:0<=q g:=Zh1 e;have:=h g hg e;exact⟨Za0 (by omega),this⟩
section
variable{J : JT}{q p : Nat -> Int}
theorem aj0(h:Ext J.n q p){t g:Nat}(hg:g<J.n)(e:J.at q t g=true):J.at p t g=true:=by
 unfold JT.at at e ⊢;simp only[Zb5]at e ⊢;obtain⟨h1,h2⟩:=h.on hg e.1;exact⟨h1,by rw[h2];exact e.2⟩
theorem am6(h:Ext J.n q p)(t:Nat)(P:Nat->Bool):cnt J.n (λg=>J.at p t g&&P g)=cnt J.n (λg=>J.at q t g&&P g)+cnt J.n (λg=>(!on q g&&on p g&&P g)&&J.tab (p g)==t):=by
 rw[Nb J.n (λg=>J.at p t g&&P g) (λg=>on q g)];congr 1
 . (refine yG λg hg=> ?_);cases e:on q g with
   |false=>simp[JT.at,e]
   |true=>
    obtain⟨h1,h2⟩:=h.on hg e;simp[JT.at,e,h1,h2]
 . (refine yG λg hg=> ?_);unfold JT.at;cases on p g<;>cases on q g<;>cases P g<;>simp
theorem am7(h:Ext J.n q p)(P:Nat->Bool):cnt J.n (λg=> !on q g&&on p g&&P g)+cnt J.n (λg=> !on p g&&P g)=cnt J.n (λg=> !on q g&&P g):=by
 rw[Nb J.n (λg=> !on q g&&P g) (λg=>on p g)];congr 1
 . (refine yG λg hg=> ?_);cases on p g<;>cases on q g<;>cases P g<;>rfl
 . (refine yG λg hg=> ?_);cases e:on q g with
   |true=>simp[(h.on hg e).1]
   |false=>cases on p g<;>cases P g<;>rfl
theorem ari{b c:Bool}(h:b=true->c=true):(if b then 1 else 0)<=(if c then 1 else 0:Nat):=by cases b<;>cases c<;>simp_all
def RM.Fit(n:Nat):RM->Prop
 | .two a b _=>a<n/\b<n
 | .one a _=>a<n
 | .spk f=>∀q p:Nat->Int,(∀g,g<n->q g=p g)->f q=f p
 |_=>True
theorem aty(h:Ext J.n q p)(A:Nat->Bool):J.jd q (.fT A)<=J.jd p (.fT A)+cnt J.n (λg=> !on q g&&on p g&&J.host g):=by
 refine Zb2 (m:=nG J.T λt=>(if A t&&decide (0<cnt J.n (J.at p t))&&decide (cnt J.n (λg=>J.at p t g&&J.host g)=0)then 1 else 0)+cnt J.n (λg=>(!on q g&&on p g&&J.host g)&&J.tab (p g)==t)) (yF λt _=> ?_) ?_
 . have e1:=am6 h t J.host;have e2:=vD (n:=J.n) (P:=J.at q t) (Q:=J.at p t) λg hg e=>aj0 h hg e
   split
   . rename_i hc;simp only[Zb5,Ze4]at hc;by_cases h0:cnt J.n (λg=>(!on q g&&on p g&&J.host g)&&J.tab (p g)==t)=0
     .  rw[Zb3 (by simp only[Zb5,Ze4];exact⟨⟨hc.1.1,by omega⟩,by omega⟩)];omega
     .  omega
   . omega
 . rw[aaN];exact Nat.add_le_add_left (acd J.n _ (λg=>J.tab (p g)) J.T) _
theorem atz(h:Ext J.n q p)(A:Nat->Bool)(m:Nat):J.jd q (.PC A m)<=J.jd p (.PC A m)+cnt J.n (λg=> !on q g&&on p g&&true):=by
 refine Zb2 (m:=nG J.T λt=>(if A t then m - cnt J.n (J.at p t)else 0)+cnt J.n (λg=>(!on q g&&on p g&&true)&&J.tab (p g)==t)) (yF λt _=> ?_) ?_
 . have e1:=am6 h t (λ_=>true);simp only[Zi3]at e1 ⊢;have e3:cnt J.n (λg=>J.at p t g)=cnt J.n (J.at p t):=rfl;have e4:cnt J.n (λg=>J.at q t g)=cnt J.n (J.at q t):=rfl;split<;>omega
 . rw[aaN];exact Nat.add_le_add_left (acd J.n _ (λg=>J.tab (p g)) J.T) _
theorem ak3(h:Ext J.n q p)(r:RM)(hr:r.Fit J.n):J.least q r<=J.least p r:=by
 cases r with
 |two a b P=>
  have ha:=hr;refine ari λe=> ?_
  simp only[Zb5]at e ⊢;obtain⟨h1,h2⟩:=h.on ha.1 e.1.1;obtain⟨h3,h4⟩:=h.on ha.2 e.1.2;exact⟨⟨h1,h3⟩,by rw[h2,h4];exact e.2⟩
 |one a P=>
  have ha:=hr;refine ari λe=> ?_
  simp only[Zb5]at e ⊢;obtain⟨h1,h2⟩:=h.on (g:=a) ha e.1;exact⟨h1,by rw[h2];exact e.2⟩
 |Nc P=>
  refine yF λa ha=>vD λb hb e=> ?_
  simp only[Zb5]at e ⊢;obtain⟨h1,h2⟩:=h.on ha e.1.1.2;obtain⟨h3,h4⟩:=h.on hb e.1.2;exact⟨⟨⟨e.1.1.1,h1⟩,h3⟩,by rw[h2,h4];exact e.2⟩
 |pN P=>
  refine vD λg hg e=> ?_
  simp only[Zb5]at e ⊢;obtain⟨h1,h2⟩:=h.on hg e.1;exact⟨h1,by rw[h2];exact e.2⟩
 |spk f=>
  have hl:J.left p<=J.left q:=vD λg hg e=>by
    cases e2:on q g with
    |false=>rfl
    |true=>rw[(h.on hg e2).1]at e;cases e
  show(if 0<J.left q then 0 else f q)<=(if 0<J.left p then 0 else f p)
  by_cases h0:0<J.left q
  . rw[Zb3 h0];exact Zi0 _
  . rw[Za7 h0,Za7 (by omega)];refine Zr2 (hr q p λg hg=> ?_);cases e:on q g with
    |true=>exact(h.on hg e).2.symm
    |false=>exact absurd (arZ (n:=J.n) (P:=λg=> !on q g) hg (by simp[e])) h0
 |fT A=>
  have a:=aty h A;have b:=am7 h J.host;show J.jd q (.fT A) - J.Nd q<=J.jd p (.fT A) - J.Nd p;unfold JT.Nd;omega
 |PC A m=>
  have a:=atz h A m;have b:=am7 h (λ_=>true);show J.jd q (.PC A m) - J.left q<=J.jd p (.PC A m) - J.left p;unfold JT.left;simp only[Zi3]at a b;omega
 |EN A m=>
  refine yF λt _=> ?_
  have:=vD (n:=J.n) (P:=J.at q t) (Q:=J.at p t) λg hg e=>aj0 h hg e
  split<;>omega
theorem least_le(r:RM):J.least q r<=J.jd q r:=by
 cases r with
 |spk f=>
  show(if 0<J.left q then 0 else f q)<=f q;split
  . exact Zi0 _
  . exact Za3 _
 |fT A=>exact Nat.sub_le _ _
 |PC A m=>exact Nat.sub_le _ _
 |_=>exact Za3 _
theorem ak4(hq:∀g,g<J.n->0<=q g)(r:RM):J.least q r=J.jd q r:=by
 have h0:∀P:Nat->Bool,cnt J.n (λg=> !on q g&&P g)=0:=λP=>ahj λg hg=>by simp[on,hq g hg]
 have h1:=h0 (λ_=>true);simp only[Zi3]at h1;cases r with
 |spk f=>show(if 0<J.left q then 0 else f q)=f q;rw[Za7 (by unfold JT.left;omega)]
 |fT A=>show J.jd q (.fT A) - J.Nd q=_;unfold JT.Nd;rw[h0];rfl
 |PC A m=>show J.jd q (.PC A m) - J.left q=_;unfold JT.left;rw[h1];rfl
 |_=>rfl
end
def lf(tk:List Bool)(fr:Nat):Nat->Nat->Option Nat
 |0,_=>none
 |m+1,k=>if tk.getD ((fr+k) % tk.length) true=false then some ((fr+k) % tk.length)else lf tk fr m (k+1)
def mO(tk:List Bool)(fr:Nat):List Bool×Int:=match lf tk fr tk.length 0 with
 |some s=>(tk.set s true,(s:Int))
 |none=>(tk,-1)
theorem Bf{tk:List Bool}{fr s:Nat}:∀{m k:Nat},lf tk fr m k=some s->tk[s]? =some false
 |0,_,h=>by cases h
 |m +1,k,h=>by
  unfold lf at h;split at h
  . rename_i e;cases h;cases e2:tk[(fr+k) % tk.length]? with
    |none=>rw[Zb1,e2]at e;simp at e
    |some b=>rw[Zb1,e2]at e;simp at e;rw[e]
  . exact Bf h
theorem TH{tk:List Bool}{fr:Nat}:∀{m k:Nat},lf tk fr m k=none->∀j,k<=j->j<k+m->tk.getD ((fr+j) % tk.length) true=true
 |0,_,_,j,h1,h2=>by omega
 |m +1,k,h,j,h1,h2=>by
  unfold lf at h;split at h
  . cases h
  . rename_i e;by_cases e2:j=k
    . subst e2;simpa using e
    . exact TH h j (by omega) (by omega)
def mo(tk:List Bool):Nat:=(tk.filter λb=> !b).length
theorem Nf:∀{tk:List Bool}{s:Nat},tk[s]? =some false->mo (tk.set s true)+1=mo tk
 |b::tk,0,h=>by simp at h;subst h;simp[mo]
 |b::tk,s+1,h=>by have ih:=Nf (tk:=tk) (s:=s) (by simpa using h);unfold mo at ih ⊢;cases b<;>simp[List.set]at ih ⊢ <;>omega
theorem aeJ:∀{tk:List Bool},0<mo tk->∃s:Nat,tk[s]? =some false
 |[],h=>by simp[mo]at h
 |false::tk,_=>⟨0,rfl⟩
 |true::tk,h=>by
  obtain⟨s,hs⟩:=aeJ (tk:=tk) (by simpa [mo]using h);exact⟨s+1,by simpa using hs⟩
theorem tT(tk:List Bool)(fr:Nat):((mO tk fr).2= -1/\(mO tk fr).1=tk/\mo tk=0)\/∃s:Nat,mO tk fr=(tk.set s true,(s:Int))/\tk[s]? =some false:=by
 unfold mO;cases e:lf tk fr tk.length 0 with
 |some s=>exact .inr ⟨s,rfl,Bf e⟩
 |none=>
  refine .inl ⟨rfl,rfl,?_⟩;rcases Zn4 (mo tk)with h|h
  . exact h
  . exfalso;obtain⟨s,hs⟩:=aeJ h;have hl:s<tk.length:=(Za2.1 hs).1;have key:=TH e ((s+tk.length - fr % tk.length) % tk.length) (Zi0 _) (by rw[Zb6];exact Zk0 _ (by omega));have hm:fr % tk.length<tk.length:=Zk0 _ (by omega);have:(fr+(s+tk.length - fr % tk.length) % tk.length) % tk.length=s:=by
        rw[Nat.add_mod,Nat.mod_mod];rcases Zi8 (s+tk.length - fr % tk.length) tk.length with h1|h1
        . rw[Zj9 h1];rw[show fr % tk.length+(s+tk.length - fr % tk.length)=s+tk.length by omega,Nat.add_mod_right,Zj9 hl]
        . rw[Zp6 h1,Zj9 (by omega:s+tk.length - fr % tk.length - tk.length<tk.length)];rw[show fr % tk.length+(s+tk.length - fr % tk.length - tk.length)=s by omega,Zj9 hl]
    rw[this,Zb1,hs]at key;simp at key
inductive Ch where
 |no
 |Db (s:Nat)
 |fr (f:Nat)
def dL(tk:List Bool):List Ch->List Int
 |[]=>[]
 | .no::l=> -1::dL tk l
 | .Db s::l=>(s:Int)::dL tk l
 | .fr f::l=>(mO tk f).2::dL (mO tk f).1 l
theorem RO:∀(l:List Ch)(tk:List Bool),(dL tk l).length=l.length
 |[],_=>rfl
 | .no::l,tk=>by simp[dL,RO l]
 | .Db s::l,tk=>by simp[dL,RO l]
 | .fr f::l,tk=>by simp[dL,RO l]
theorem aeK(tk:List Bool)(f:Nat):(mO tk f).1.length=tk.length:=by rcases tT tk f with⟨_,h,_⟩|⟨s,h,_⟩<;>rw[h]<;>simp
def Sat(tk:List Bool)(l:List Ch):Prop:=(∀s,Ch.Db s∈l->tk[s]? =some true)/\∀(i j s:Nat),l[i]? =some (.Db s)->l[j]? =some (.Db s)->i=j
theorem Sat.tail{tk:List Bool}{c:Ch}{l:List Ch}(h:Sat tk (c::l)):Sat tk l:=
 ⟨λs hs=>h.1 s (Za9 _ hs),λi j s h1 h2=>by have:=h.2 (i+1) (j+1) s (by simpa using h1) (by simpa using h2);omega⟩
theorem Sat.place{tk:List Bool}{l:List Ch}(h:Sat tk l)(f:Nat):Sat (mO tk f).1 l:=by
 refine⟨λs hs=> ?_,h.2⟩;have:=h.1 s hs;rcases tT tk f with⟨_,e,_⟩|⟨s',e,h'⟩<;>rw[e]
 . exact this
 . by_cases e2:s'=s
   . subst e2;rw[h']at this;cases this
   . rw[Zd7 e2];exact this
theorem Cb:∀(l:List Ch)(tk:List Bool),Sat tk l->∀(i:Nat)(v:Int),(dL tk l)[i]? =some v->v= -1\/∃s:Nat,v=(s:Int)/\(tk[s]? =some false\/(tk[s]? =some true/\l[i]? =some (.Db s)))
 |[],_,_,i,v,h=>by simp[dL]at h
 |c::l,tk,hs,0,v,h=>by
  cases c with
  |no=>simp[dL]at h;exact .inl h.symm
  |Db s=>simp[dL]at h;exact .inr ⟨s,h.symm,.inr ⟨hs.1 s (Zd2),rfl⟩⟩
  |fr f=>
   simp[dL]at h;rcases tT tk f with⟨e,_,_⟩|⟨s,e,h'⟩
   .    exact .inl (by rw[<-h,e])
   .    exact .inr ⟨s,by rw[<-h,e],.inl h'⟩
 |c::l    ,tk,hs,i+1,v,h=>by
  cases c with
  |no=>simpa using Cb l tk hs.tail i v (by simpa [dL]using h)
  |Db s=>simpa using Cb l tk hs.tail i v (by simpa [dL]using h)
  |fr f=>
   have h:(dL (mO tk f).1 l)[i]? =some v:=(by simpa [dL]using h);rcases Cb l _ (hs.tail.place f) i v h with e|⟨s,e,h'⟩
   .    exact .inl e
   .    refine .inr ⟨s,e,?_⟩;rcases tT tk f with⟨_,e2,_⟩|⟨s',e2,h2⟩<;>rw[e2]at h'
        . simpa using h'
        . by_cases e3:s'=s
          . subst e3;exact .inl h2
          . rw[Zd7 e3]at h';simpa using h'
theorem Kj:∀(l:List Ch)(tk:List Bool),Sat tk l->∀(i j:Nat)(v:Int),i<j->(dL tk l)[i]? =some v->(dL tk l)[j]? =some v->v= -1
 |[],_,_,i,j,v,_,h,_=>by simp[dL]at h
 |c::l    ,tk,hs,0,j+1,v,_,h1,h2=>by
  cases c with
  |no=>simp[dL]at h1;exact h1.symm
  |Db s=>
   simp[dL]at h1;rcases Cb l tk hs.tail j v (by simpa [dL]using h2)with e|⟨s',e,h'|h'⟩
   .    exact e
   .    have:=hs.1 s (Zd2);obtain rfl:s'=s:=(by omega);rw[this]at h';cases h'
   .    obtain rfl:s'=s:=(by omega);have:=hs.2 0 (j+1) s' rfl (by simpa using h'.2);omega
  |fr f=>
   simp[dL]at h1;have h2:(dL (mO tk f).1 l)[j]? =some v:=(by simpa [dL]using h2);rcases tT tk f with⟨e,_,_⟩|⟨s,e,h'⟩
   .    rw[<-h1,e]
   .    rcases Cb l _ (hs.tail.place f) j v h2 with e2|⟨s',e2,h3|h3⟩
        . exact e2
        . rw[e]at h1 h3;obtain rfl:s'=s:=(by simp at h1;omega);have hl:=(Za2.1 h').1;simp[Ze2 hl]at h3
        . rw[e]at h1;obtain rfl:s'=s:=(by simp at h1;omega);have:=hs.tail.1 s' (Zb9 h3.2);rw[h']at this;cases this
 |c::l,tk,hs,i+1,j+1,v,V8,h1,h2=>by
  cases c with
  |no=>exact Kj l tk hs.tail i j v (by omega) (by simpa [dL]using h1) (by simpa [dL]using h2)
  |Db s=>exact Kj l tk hs.tail i j v (by omega) (by simpa [dL]using h1) (by simpa [dL]using h2)
  |fr f=>exact Kj l _ (hs.tail.place f) i j v (by omega) (by simpa [dL]using h1) (by simpa [dL]using h2)
def looks:List Ch->Nat
 |[]=>0
 | .fr _::l=>looks l+1
 |_::l=>looks l
theorem Ng:∀(l:List Ch)(tk:List Bool),looks l<=mo tk->∀(i:Nat)(f:Nat),l[i]? =some (.fr f)->∃s:Nat,(dL tk l)[i]? =some (s:Int)
 |[],_,_,i,f,h=>by simp at h
 |c::l,tk,hl,0,f,h=>by
  simp at h;subst h;rcases tT tk f with⟨_,_,e⟩|⟨s,e,_⟩
  . simp[looks]at hl;omega
  . exact⟨s,by simp[dL,e]⟩
 |c ::l,tk,hl,i+1,f,h=>by
  have h:l[i]? =some (.fr f):=by simpa using h
  cases c with
  |no=>simpa [dL]using Ng l tk (by simpa [looks]using hl) i f h
  |Db s=>simpa [dL]using Ng l tk (by simpa [looks]using hl) i f h
  | fr g=>
    have:=Ng l (mO tk g).1 (by
        rcases tT tk g with⟨_,e,e2⟩|⟨s,e,h'⟩
        . simp[looks]at hl;omega
        . rw[e];have:=Nf h';simp[looks]at hl;simp only;omega) i f h
    simpa [dL]using this
end
section
open Go
section
variable{R : Type}{c : aj}
theorem ar0{v z:AV}{n N k:Nat}(hk:k<=n):cut (List.replicate n v++List.replicate N z) 0 k=some (List.replicate k v):=by
 unfold cut;rw[cZ,Za0 (by simp;omega)];simp only[Ze6];rw[Zl8 (by simpa using hk),List.take_replicate,Zl3 hk]
theorem ak5{v z:AV}{n m k:Nat}:aX (List.replicate n v++List.replicate m z) n (List.replicate k v)=List.replicate (n+k) v++List.replicate (m - k) z:=by unfold aX;rw[Zl8 (by simp),Zf7 (by simp)];rw[<-Zf4,List.replicate_append_replicate];congr 1;rw[List.drop_append];simp
theorem RP{v:AV}(hv:v.one=true):∀k,aQ (List.replicate k v)=true
 |0=>rfl
 |k+1=>by rw[Zl5];unfold aQ;rw[hv];exact RP hv k
theorem ahk{b:Pos}{v z:AV}{n m:Nat}{cp II:Option Nat}(hn:0<n)(hm:0<m)(hv:v.one=true){s:St}(h:s.heap.get b=some (.cells (List.replicate n v++List.replicate m z) 0))(K:AV->St->Option R):
  aq c (.copyB 1) [.slice b n m cp 1,.slice b 0 n II 1] s K=K (.int .i64 ((min n m:Nat):Int)) (bg s b (.cells (List.replicate (n+min n m) v++List.replicate (m - min n m) z) 0)):=by
 have e:aG.run (λb=>s.heap.get b) s.next (.copyB 1) [.slice b n m cp 1,.slice b 0 n II 1]=some (.bk (KL (min n m)) none (some (b,.cells (List.replicate (n+min n m) v++List.replicate (m - min n m) z) 0)) none):=by
  show pE (λb=>s.heap.get b) s.next 1 [.slice b n m cp 1,.slice b 0 n II 1]=_;unfold pE;simp only[eH];rw[dc,Za1 (by omega)];simp only;have hf:dF 1 (min n m) (λb=>s.heap.get b) (.slice b 0 n II 1)=some (List.replicate (min n m) v):=by
   unfold dF;rw[dc,Za1 (by omega)];simp only;rw[h];simp only[Zk4];exact ar0 (Nat.min_le_left _ _)
  rw[h,hf];simp only;rw[cZ,Za0 (by simp;omega),cZ,Za0 (Zi0 _),RP hv];simp only;rw[ak5]
 unfold aq cH;rw[e];rfl
theorem aaO{n:Int}(h0:0<=n)(h1:n<4294967296)(s:St)(K:AV->St->Option R):aq c (.bin .and .num) [.int .u64 n,.int .u64 4294967295] s K=K (.int .u64 n) s:=by
 obtain⟨m,rfl⟩:=Int.eq_ofNat_of_zero_le h0;have hm:m<4294967296:=by omega
 have e:(IntKind.u64.wrap ((BitVec.ofInt IntKind.u64.bits (m:Int) &&& BitVec.ofInt IntKind.u64.bits 4294967295).toNat:Int))=(m:Int):=by
  have e1:(BitVec.ofInt 64 (m:Int) &&& BitVec.ofInt 64 4294967295).toNat=m:=by
   rw[BitVec.toNat_and];have a:(BitVec.ofInt 64 (m:Int)).toNat=m:=(by rw[BitVec.toNat_ofInt];omega);have b:(BitVec.ofInt 64 4294967295).toNat=2 ^ 32 - 1:=(by decide);rw[a,b,Nat.and_two_pow_sub_one_eq_mod,Zj9 (by omega)]
  show IntKind.u64.wrap (((BitVec.ofInt 64 (m:Int) &&& BitVec.ofInt 64 4294967295).toNat:Nat):Int)=_;rw[e1];simp only[IntKind.wrap,show IntKind.u64.bits=64 from rfl];have hs:IntKind.u64.signed=false:=rfl;simp only[hs,Bool.false_and,Zf5,Zh2];omega
 refine aR c K (λH n=> ?_) s;show(pz .and .num (.int .u64 (m:Int)) (.int .u64 4294967295)).map eG.val=_;unfold pz;simp only[dD];rw[e];rfl
end
theorem apz{R:Type}(K:AV->Option R){b:Pos}{off len es es':Nat}{cap:Option Nat}{k:IntKind}{i:Nat}(h:i<len):fh (.idxA es none) [.slice b off len cap es',.int k (i:Int)] K=K (.ptr b (off+i*es)):=
 cX K (λH n=>by
  simp only[aG.run,sw,jy];have:Nat.blt i len=true:=by rw[Zr1];exact h
  rw[this])
end
section
abbrev Ev:=Nat×List Int
def kj(l:List Ev):Nat:=(l.map λe=>e.1).sum
def fK(l:List Ev):Nat:=(l.map λe=>e.1+e.2.length).sum
theorem adB(l m:List Ev):kj (l++m)=kj l+kj m:=by unfold kj;rw[Zd3,Zr7]
theorem KF(l m:List Ev):fK (l++m)=fK l+fK m:=by unfold fK;rw[Zd3,Zr7]
theorem ar1(k:Nat)(w:List Int):kj [(k,w)]=k:=rfl
def cF(f:Nat->List Ev):Nat->Nat->List Ev
 |0,_=>[]
 |m+1,k=>f k++cF f m (k+1)
theorem ace(f:Nat->List Ev):∀m k,cF f (m+1) k=cF f m k++f (k+m)
 |0,k=>by simp[cF]
 |m+1,k=>by
  have:=ace f m (k+1);rw[cF,this,cF,Zf4,show k+1+m=k+(m+1)by omega]
theorem FK(f:Nat->List Ev):∀n,kj (cF f n 0)=nG n λi=>kj (f i)
 |0=>rfl
 |n+1=>by rw[ace,adB,FK f n,Zb6];rfl
theorem AA{f:Nat->List Ev}{B:Nat}(h:∀k,fK (f k)<=B):∀m k,fK (cF f m k)<=m*B
 |0,_=>by simp[cF,fK]
 |m+1,k=>by have:=AA h m (k+1);have:=h k;rw[cF,KF,Zg4];omega
theorem aj1(n:Nat)(P:Nat->Bool):(nG n λi=>if P i then 1 else 0)=cnt n P:=by
 induction n with
 |zero=>rfl
 |succ n ih=>unfold nG cnt;rw[ih]
def JT.who(J:JT)(q:Nat->Int)(t:Nat):List Int:=((List.range J.n).filter (J.at q t)).map λ(g:Nat)=>(g:Int)
theorem RT(n:Nat)(P:Nat->Bool):cnt (n+1) P=cnt n P+if P n then 1 else 0:=rfl
theorem Wj(P:Nat->Bool):∀n,((List.range n).filter P).length=cnt n P
 |0=>rfl
 |n+1=>by
  rw[Zf9,Zk9,Ze8,Wj P n,RT];cases e:P n<;>simp[e]
theorem JT.adC(J:JT)(q:Nat->Int)(t:Nat):(J.who q t).length=cnt J.n (J.at q t):=by unfold JT.who;rw[Za4,Wj]
theorem ar2(P Q:Nat->Bool)(n:Nat):((List.range n).filter P).any Q=decide (0<cnt n λg=>P g&&Q g):=by
 induction n with
 |zero=>rfl
 |succ n ih=>
  rw[Zf9,Zk9,List.any_append,ih,RT];cases e:P n<;>cases e2:Q n<;>simp[e,e2]
section
variable(J : JT)(q : Nat -> Int)
def yH(b:Bool)(k:Nat)(w:List Int):List Ev:=if b then [(k,w)]else []
theorem Le(b:Bool)(k:Nat)(w:List Int):kj (yH b k w)=if b then k else 0:=by unfold yH;split<;>rfl
theorem GJ(b:Bool)(k:Nat)(w:List Int):fK (yH b k w)<=k+w.length:=by unfold yH;split<;>simp[fK]
def vg(P:Nat->Nat->Int->Int->Bool)(a b:Nat):List Ev:=yH (on q a&&on q b&&P a b (q a) (q b)) 1 [(a:Int),(b:Int)]
def Dc(a b:Nat)(P:Int->Int->Bool):List Ev:=yH (on q a&&on q b&&P (q a) (q b)) 1 [(a:Int),(b:Int)]
def Wk(a:Nat)(P:Int->Bool):List Ev:=yH (on q a&&P (q a)) 1 [(a:Int)]
def zU(n:Nat)(P:Nat->Nat->Int->Int->Bool):List Ev:=cF (λa=>cF (vg q P a) (n - (a+1)) (a+1)) n 0
def N4(n:Nat)(P:Nat->Int->Bool):List Ev:=cF (λg=>yH (on q g&&P g (q g)) 1 [(g:Int)]) n 0
def aaP(T:Nat)(A:Nat->Bool)(D:List Int->List Ev):List Ev:=cF (λt=>if A t then D (J.who q t)else []) T 0
def RU(host:Nat->Bool)(l:List Int):List Ev:=yH (!(l.any λg=>host g.toNat)&&decide (0<l.length)) 1 l
def RV(m:Nat)(l:List Int):List Ev:=yH (decide (l.length<m)) (m - l.length) l
def RW(m:Nat)(l:List Int):List Ev:=yH (decide (m<l.length)) (l.length - m) l
end
section
variable{J : JT}{q : Nat -> Int}
theorem PD(a b:Nat)(P:Int->Int->Bool):kj (Dc q a b P)=J.jd q (.two a b P):=Le _ _ _
theorem ahl(a:Nat)(P:Int->Bool):kj (Wk q a P)=J.jd q (.one a P):=Le _ _ _
theorem aeL(f:Nat->List Ev):∀m k,kj (cF f m k)+nG k (λi=>kj (f i))=nG (k+m) λi=>kj (f i)
 |0,k=>by simp[cF,kj]
 |m+1,k=>by
  have:=aeL f m (k+1);rw[cF,adB];rw[show k+(m+1)=k+1+m by omega, <-this];show _=_+(nG k _+kj (f k))
  omega
theorem PG(P:Nat->Nat->Int->Int->Bool):kj (zU q J.n P)=J.jd q (.Nc P):=by
 unfold zU;rw[FK];refine zm λa ha=> ?_
 have h1:=aeL (λb=>if a<b then vg q P a b else []) (J.n - (a+1)) (a+1);have h2:nG (a+1) (λi=>kj (if a<i then vg q P a i else []))=0:=by
   have:∀m,m<=a+1->nG m (λi=>kj (if a<i then vg q P a i else []))=0:=λm=>by
    induction m with
    |zero=>intro _;rfl
    |succ m ih=>intro hm;unfold nG;rw[ih (by omega),Za7 (by omega)];rfl
   exact this _ (Za3 _)
 have h3:∀m k,a<k->cF (λb=>if a<b then vg q P a b else []) m k=cF (vg q P a) m k:=λm=>by
   induction m with
   |zero=>intro k _;rfl
   |succ m ih=>intro k hk;rw[cF,cF,Zb3 hk,ih (k+1) (by omega)]
 rw[h3 _ _ (by omega),h2,Zf8,show a+1+(J.n - (a+1))=J.n by omega]at h1;rw[h1, <-aj1];refine zm λb _=> ?_
 unfold vg;by_cases h:a<b
 . rw[Zb3 h,Le,Za0 h,Zg6]
 . rw[Za7 h,Za1 h];rfl
theorem adD(P:Nat->Int->Bool):kj (N4 q J.n P)=J.jd q (.pN P):=by unfold N4;rw[FK];show _=cnt J.n _;rw[<-aj1];exact zm λg _=>Le _ _ _
theorem ar3(A:Nat->Bool):kj (aaP J q J.T A (RU J.host))=J.jd q (.fT A):=by
 unfold aaP;rw[FK];refine zm λt _=> ?_
 cases hA:A t with
 |false=>simp[kj]
 |true=>
  simp only[Zh5,Zg6];unfold RU;rw[Le,J.adC];have:(J.who q t).any (λg=>J.host g.toNat)=decide (0<cnt J.n λg=>J.at q t g&&J.host g):=by unfold JT.who;rw[List.any_map];exact ar2 _ _ _
  rw[this];by_cases h:0<cnt J.n λg=>J.at q t g&&J.host g
  . rw[Za0 h,Za1 (show ¬cnt J.n (λg=>J.at q t g&&J.host g)=0 by omega)];simp
  . rw[Za1 h,Za0 (show cnt J.n (λg=>J.at q t g&&J.host g)=0 by omega)];simp
theorem ar4(A:Nat->Bool)(m:Nat):kj (aaP J q J.T A (RV m))=J.jd q (.PC A m):=by
 unfold aaP;rw[FK];refine zm λt _=> ?_
 cases hA:A t with
 |false=>simp[kj]
 |true=>
  simp only[Zh5];unfold RV;rw[Le,J.adC];simp only[Ze4];split<;>omega
theorem ar5(A:Nat->Bool)(m:Nat):kj (aaP J q J.T A (RW m))=J.jd q (.EN A m):=by
 unfold aaP;rw[FK];refine zm λt _=> ?_
 cases hA:A t with
 |false=>simp[kj]
 |true=>
  simp only[Zh5];unfold RW;rw[Le,J.adC];simp only[Ze4];split<;>omega
end
theorem aj2(q:Nat->Int)(C:Int->Bool)(P:Nat->Nat->Int->Int->Bool)(a:Nat):∀m k,cF (vg q (λa b x y=>C x&&P a b x y) a) m k=if on q a&&C (q a)then cF (vg q P a) m k else []
 |0,k=>by simp[cF]
 |m+1,k=>by
  rw[cF,aj2 q C P a m (k+1),cF];unfold vg;cases e1:on q a<;>cases e2:C (q a)<;>simp[yH,e1,e2]
theorem rf(k:Nat)(w:List Int):yH true k w=[(k,w)]:=rfl
theorem dZ(k:Nat)(w:List Int):yH false k w=[]:=rfl
def Bg(tab:Nat->Nat)(t:Nat):Nat->Nat
 |0=>0
 |i+1=>if tab i=t then Bg tab t i else i+1
end
section
open Go
structure Rd(s:St)(es:Nat)(L:AV)(i:Nat)(b:Pos)(o:Nat)(r:List AV):Prop where
 st:∀{R:Type}(c:aj)(K:AV->St->Option R)(k:IntKind)(s1:St),aq c (.idxA es none) [L,.int k (i:Int)] s1 K=K (.ptr b o) s1
 pr:∀{R:Type}(K:AV->Option R)(k:IntKind),fh (.idxA es none) [L,.int k (i:Int)] K=K (.ptr b o)
 at':∀(j:Nat)(u:AV),r[j]? =some u->((cellsOf (s.heap.get b)).bind λcs=>cs[o+j]?)=some u
 all:((cellsOf (s.heap.get b)).bind λcs=>cut cs o es)=some r
theorem QS.rd{s:St}{es:Nat}{v:AV}{rows:List (List AV)}(h:QS es s v rows)(hr:∀r∈rows,r.length=es){i:Nat}{r:List AV}(hi:rows[i]? =some r):∃b o,Rd s es v i b o r:=by
 obtain⟨gZ,rfl⟩:=Za2.1 hi;have hlen:=hr _ (Zb8 gZ);rcases h with⟨rfl,h⟩|⟨b,off,cap,cs,rfl,g1,g2,g3,g4⟩|⟨b,off,rfl,h⟩
 . rw[h]at gZ;simp at gZ
 rotate_left
 . rw[h]at gZ;simp at gZ
 have hmul:(i+1)*es<=rows.length*es:=Zh0 _ gZ;rw[Zg4]at hmul;have at0:∀(j:Nat)(u:AV),rows[i][j]? =some u->cs[off+i*es+j]? =some u:=λj u hj=>by have hj2:j<es:=(by rw[<-hlen];exact(Za2.1 hj).1);have:=Go.Ai.yC hr i j rows[i] u (H0 gZ) hj;rw[<-g3,Ze1,Zb3 (by omega),Ze7]at this;rw[<-this];congr 1;omega
 refine⟨b,off+i*es,λc K k s1=>fG c K s1 gZ,λK k=>apz K gZ,λj u hj=>by rw[g1];exact at0 j u hj,?_⟩;rw[g1];show cut cs (off+i*es) es=some rows[i];unfold cut;rw[cZ,Za0 (by omega)];refine congrArg some ?_;apply Zh7;intro j;by_cases hj:j<es
 . rw[Ze1,Zb3 hj,Ze7];exact(at0 j (rows[i]'gZ)[j] (H0 (by omega))).trans (H0 (by omega)).symm
 . rw[Zc1 (by simp;omega),Zc1 (by omega)]
theorem Rd.one{s:St}{L x:AV}{i:Nat}{b:Pos}{o:Nat}(h:Rd s 1 L i b o [x]):((cellsOf (s.heap.get b)).bind λcs=>cs[o]?)=some x:=h.at' 0 x rfl
theorem QS.Lf{s:St}{v:AV}{l:List AV}(h:QS 1 s v (l.map ot)){i:Nat}{x:AV}(hx:l[i]? =some x):∃b o,Rd s 1 v i b o [x]:=
 h.rd (aha l) (by rw[Zb7,hx];rfl)
def RQ(s:St)(L:AV)(rows:List (List AV)):Prop:=∃ws:List AV,QS 1 s L (ws.map ot)/\ws.length=rows.length/\∀(i:Nat)(w:AV)(r:List AV),ws[i]? =some w->rows[i]? =some r->QS 1 s w (r.map ot)
theorem RQ.rd{s:St}{L:AV}{rows:List (List AV)}(h:RQ s L rows){i:Nat}{r:List AV}(hr:rows[i]? =some r):∃w b o,Rd s 1 L i b o [w]/\QS 1 s w (r.map ot):=by
 obtain⟨ws,h1,h2,h3⟩:=h;have hi:i<ws.length:=by rw[h2];exact(Za2.1 hr).1
 obtain⟨b,o,h4⟩:=h1.Lf (H0 hi);exact⟨ws[i],b,o,h4,h3 i _ r (H0 hi) hr⟩
theorem RQ.ai{s s':St}{L:AV}{rows:List (List AV)}(h:RQ s L rows)(g:Grew s s'):RQ s' L rows:=by
 obtain⟨ws,h1,h2,h3⟩:=h;exact⟨ws,h1.mono λb x _ hx=>g.get hx,h2,λi w r a b=>(h3 i w r a b).mono λb x _ hx=>g.get hx⟩
theorem QS.ai{es:Nat}{s s':St}{v:AV}{rows:List (List AV)}(h:QS es s v rows)(g:Grew s s'):QS es s' v rows:=h.mono λb x _ hx=>g.get hx
section
variable{c : aj}{R : Type}
theorem Ys{x:Int}(h1:0<=x)(h2:x<=18446744073709551615):av .u64 x=x:=by
 unfold av loI hiI;simp only;split
 . split
   . rfl
   . contradiction
 . contradiction
theorem aaQ{a:Int}(h0:0<=a)(h1:a<4294967296)(s:St)(K:AV->St->Option R):aq c (.bin .shr .num) [.int .u64 a,.int .u64 32] s K=K (.int .u64 0) s:=aR c K (λH n=>by
 have e0:Bb (32:Int) 0=false:=by rw[fc];rfl
 have e1:min (32:Int).toNat (IntKind.bits .u64)=32:=rfl;simp only[aG.run,ju,pz,e0,e1];rw[Zm8 _ (by decide)];rw[show(2:Int) ^ 32=4294967296 from rfl,Int.ediv_eq_zero_of_lt h0 h1]
 ) s
theorem ai4{v z:AV}{m k:Nat}:aX (List.replicate m z) 0 (List.replicate k v)=List.replicate k v++List.replicate (m - k) z:=by unfold aX;simp
theorem ahm{b b2:Pos}{v z:AV}{m:Nat}{cp II:Option Nat}(hm:0<m)(hv:v.one=true){s:St}(h:s.heap.get b=some (.cells (List.replicate m z) 0))(h2:s.heap.get b2=some (.cells [v] 0))(K:AV->St->Option R):
  aq c (.copyB 1) [.slice b 0 m cp 1,.slice b2 0 1 II 1] s K=K (.int .i64 1) (bg s b (.cells (List.replicate 1 v++List.replicate (m - 1) z) 0)):=by
 have e:aG.run (λb=>s.heap.get b) s.next (.copyB 1) [.slice b 0 m cp 1,.slice b2 0 1 II 1]=some (.bk (KL 1) none (some (b,.cells (List.replicate 1 v++List.replicate (m - 1) z) 0)) none):=by
  show pE (λb=>s.heap.get b) s.next 1 [.slice b 0 m cp 1,.slice b2 0 1 II 1]=_;unfold pE;simp only[eH];have akI:min m 1=1:=by omega
  rw[show min 1 m=1 by omega,dc,Za1 (by omega)];simp only;have hf:dF 1 1 (λb=>s.heap.get b) (.slice b2 0 1 II 1)=some (List.replicate 1 v):=by unfold dF;rw[dc,Za1 (by omega)];simp only;rw[h2];exact cQ rfl
  rw[h,hf];simp only;rw[cZ,Za0 (by simp;omega),cZ,Za0 (Zi0 _),RP hv];simp only;rw[ai4]
 unfold aq cH;rw[e];rfl
theorem am8{b:Pos}{N n:Nat}(h:n<=N)(k:IntKind)(K:AV->Option R):fh (.sliceL 1 true false false) [.slice b 0 N (some N) 1,.int k (n:Int)] K=K (.slice b n (N - n) (some (N - n)) 1):=cX K (λH m=>by
 have hb:bounds true false false [.int k (n:Int)]=some (some n,none,none):=by simp[bounds,jy]
 simp only[aG.run,iP,hb,dc,cZ,Zg1,Zf1,Zj0,Za0 h,Za3];simp)
theorem am9{b:Pos}{N n:Nat}(h:n<=N)(k:IntKind)(K:AV->Option R):fh (.sliceL 1 false true false) [.slice b 0 N (some N) 1,.int k (n:Int)] K=K (.slice b 0 n (some N) 1):=cX K (λH m=>by
 have hb:bounds false true false [.int k (n:Int)]=some (none,some n,none):=by simp[bounds,jy]
 simp only[aG.run,iP,hb,dc,cZ,Zg1,Zf1,Zj0,Zi0,Za0 h]
 all_goals simp)
theorem afo{b b2:Pos}{cp II:Option Nat}{n:Nat}(s:St)(K:AV->St->Option R):aq c (.copyB 1) [.slice b 0 0 cp 1,.slice b2 0 n II 1] s K=K (.int .i64 0) s:=by
 have e:aG.run (λb=>s.heap.get b) s.next (.copyB 1) [.slice b 0 0 cp 1,.slice b2 0 n II 1]=some (.val (KL 0)):=by
  show pE (λb=>s.heap.get b) s.next 1 [.slice b 0 0 cp 1,.slice b2 0 n II 1]=_;unfold pE;simp only[eH];rw[show min n 0=0 by omega]
 unfold aq cH;rw[e];rfl
end
theorem T.aaR{α:Type}{x:α}:∀(p:Pos)(t:T α),t.get p=some x->T.put (some x) p t=t
 |p,.e,h=>by rw[T.dO]at h;cases h
 | .h,.n l v r,h=>by have h:v=some x:=h;subst h;rfl
 | .o p,.n l v r,h=>by
   have h:l.get p=some x:=h;simp only[T.put];rw[T.aaR p l h]
 | .i p,.n l v r,h=>by
   have h:r.get p=some x:=h;simp only[T.put];rw[T.aaR p r h]
theorem acf{s:St}{p:Pos}{b:AB}(h:s.heap.get p=some b):bg s p b=s:=by
 unfold bg;rw[T.aaR p s.heap h]
theorem aaS{b:Pos}{off n es:Nat}(hn:n≠0)(h:Plain (.slice b off n (some n) es)):False:=by
 have h1:aC (λ_=>⟨0,0,off+n*es⟩) (b.toNat+1) (λ_=>none) (.slice b off n (some n) es) (.slice (some ⟨0,0+off,none⟩) n n):=
  .slice b off n (some n) es n _ (Za3 _) (λc hc=>by cases hc;rfl) (λ_=>⟨by omega,rfl,by simp⟩) (λh=>by cases h)
 have h2:=h _ (λ_=>⟨0,0,0⟩) _ 0 _ _ h1;cases h2 with
 |slice _ _ _ _ _ _ _ _ _ ha _=>exact absurd (ha hn).1 (by omega)
end
end Go.Ai
