/- The program as plain functions. -/
import Derived.Test.YtmldijpopgaaeaaGreatDoorSEvalD
import Derived.Maps.RangeRun
import Derived.Laws.EntriesVeiled
import Derived.WalkKit
import Derived.OpenShut
import Derived.ProofKit
import Derived.ShutString
set_option linter.all false
namespace Go.Ai
section
open Go Go.RowKit
def LeC(c c':aj):Prop:=∀f args st r,c f args st=some r->c' f args st=some r
theorem LeC.refl(c:aj):LeC c c:=λ_ _ _ _ h=>h
section
variable{c c':aj}
theorem Th(h:LeC c c'){k:aG}{xs:List AV}{st:St}{r:AV×St}(e:cJ c k xs st=some r):cJ c' k xs st=some r:=by
 unfold cJ at e ⊢;cases hr:k.run (λb=>st.heap.get b) st.next xs with
 |none=>simp[hr]at e
 |some x=>cases x with
  |val v=>simpa [hr]using e
  |bk v d s n=>simpa [hr]using e
  |call f args=>simp only[hr]at e ⊢; exact h _ _ _ _ e
theorem ZJ(h:LeC c c'):∀(os:List bV)(fr:Fr)(st:St)(r:Fr×St),mV c os fr st=some r->mV c' os fr st=some r
 |[],_,_,_,e=>e
 |o::os,fr,st,r,e=>by
  unfold mV at e ⊢;cases hw:cN fr o.guard with
  |none=>simp[hw]at e
  |some b=>cases b with
   |false=>simp only[hw]at e ⊢; exact ZJ h _ _ _ _ e
   |    true=>
        simp only[hw]at e ⊢;cases hx:gu fr o.xs with
        |none=>simp[hx]at e
        |some xs=>
         simp only[hx]at e ⊢;cases hs:cJ c o.k xs st with
         |none=>simp[hs]at e
         |some p=>simp only[hs]at e;simp only[Th h hs];exact ZJ h _ _ _ _ e
theorem abM (h:LeC c c'):∀(os:List (Nat×bV))(recs:List Rec)(base:T AB)(fr:Fr)(st:St)(r:Fr×St),eD c os recs base fr st=some r->eD c' os recs base fr st=some r
 |[],_,_,_,_,_,e=>e
 |(j,   o)::os,recs,base,fr,st,r,e=>by
  have ih:=abM h os;unfold eD at e ⊢;cases hw:cN fr o.guard with
  |none=>simp[hw]at e
  | some b=>cases b with
    |false=>simp only[hw]at e ⊢; exact ih _ _ _ _ _ e
    |   true=>
        simp only[hw]at e ⊢;cases hx:gu fr o.xs with
        |none=>simp[hx]at e
        |some xs=>
         simp only[hx]at e ⊢;cases hc:o.cls with
         |  bk=>
            simp only[hc]at e ⊢;cases hs:cJ c o.k xs st with
            |none=>simp[hs]at e
            |some p=>simp only[hs]at e;simp only[Th h hs];exact ih _ _ _ _ _ e
         |  new=>
            simp only[hc]at e ⊢;split at e<;>first|(cases e;done)|exact ih _ _ _ _ _ e
         |  pure=>
            simp only[hc]at e ⊢;split at e<;>(try split at e)<;>(try split at e)<;>first|(cases e;done)|(simp only[*];exact ih _ _ _ _ _ e)|exact ih _ _ _ _ _ e
         |  read=>
            simp only[hc]at e ⊢;split at e<;>(try split at e)<;>(try split at e)<;>first|(cases e;done)|(simp only[*];exact ih _ _ _ _ _ e)|exact ih _ _ _ _ _ e
theorem ZK(h:LeC c c'):∀(n m:Nat),n<=m->∀(a:AC)(fr:Fr)(st:St)(r:o6×Fr×St),exec c n a fr st=some r->exec c' m a fr st=some r
 |0,_,_,_,_,_,_,e=>by simp[exec]at e
 |n+1,0,hm,_,_,_,_,_=>by omega
 |n+    1,m+1,hm,a,fr,st,r,e=>by
  have ih:=ZK h n m (by omega);cases a<;>simp only[exec,bD]at e ⊢
  case skip=>exact e
  case exit=>exact e
  case ret=>exact e
  case region ops=>
   cases ho:mV c ops fr st with
   |none=>simp[ho]at e
   |some p=>simp only[ho]at e;simp only[ZJ h _ _ _ _ ho];exact e
  case draw ops=>
   cases ho:eD c ops [] st.heap fr st with
   |none=>simp[ho]at e
   |some p=>simp only[ho]at e;simp only[abM h _ _ _ _ _ _ ho];exact e
  case seq a b=>
   cases ha:exec c n a fr st with
   |none=>simp[ha]at e
   |    some p=>
        obtain⟨ex,fh,bE⟩:=p;simp only[ha]at e;simp only[ih _ _ _ _ ha];cases ex<;>first|exact e|exact ih _ _ _ _ e
  case cond x a b=>
   split at e
   .    exact ih _ _ _ _ e
   .    exact ih _ _ _ _ e
   .    cases e
  case block id a=>
   cases ha:exec c n a fr st with
   |none=>simp[ha]at e
   |    some p=>
        obtain⟨ex,fh,bE⟩:=p;simp only[ha]at e;simp only[ih _ _ _ _ ha];cases ex<;>exact e
  case loop a=>
   cases ha:exec c n a fr st with
   |none=>simp[ha]at e
   |    some p=>
        obtain⟨ex,fh,bE⟩:=p;simp only[ha]at e;simp only[ih _ _ _ _ ha];cases ex<;>first|exact e|exact ih _ _ _ _ e
end
def Plain(v:AV):Prop:=∀(ρ ρ':Pos->Loc)(n n':Nat)(C:Cells)(x:Value),aC ρ n C v x->aC ρ' n' C v x
theorem Plain.bool(b:Bool):Plain (.bool b):=λ_ _ _ _ _ _ h=>by cases h;exact .bool b
theorem Plain.int(k:IntKind)(i:Int):Plain (.int k i):=λ_ _ _ _ _ _ h=>by cases h;exact .int k i
theorem Plain.str(s:List Nat):Plain (.str s):=λ_ _ _ _ _ _ h=>by cases h with|str _ bs h=>exact .str s bs h
theorem Plain.jg:Plain .jg:=λ_ _ _ _ _ _ h=>by cases h;exact .jg
theorem Plain.af:Plain .af:=λ_ _ _ _ _ _ h=>by cases h;exact .af
theorem Plain.jX:Plain .jX:=λ_ _ _ _ _ _ h=>by cases h;exact .jX
theorem Plain.func(f:FuncId){a b:List AV}(ha:∀v∈a,Plain v)(hb:∀v∈b,Plain v):Plain (.func f a b):=λ_ _ _ _ _ _ h=>by
 cases h with
 |func _ _ _ a' b' hx hy h1 h2=>exact .func f a b a' b' hx hy (λi v x hv hx=>ha v (Zc1 hv) _ _ _ _ _ _ (h1 i v x hv hx)) (λi v x hv hx=>hb v (Zc1 hv) _ _ _ _ _ _ (h2 i v x hv hx))
theorem Plain.tuple{l:List AV}(hl:∀v∈l,Plain v):Plain (.tuple l):=λ_ _ _ _ _ _ h=>by
 cases h with
 |tuple _ cs hx h1=>exact .tuple l cs hx λi v x hv hx=>hl v (Zc1 hv) _ _ _ _ _ _ (h1 i v x hv hx)
theorem Plain.agg{l:List AV}(hl:∀v∈l,Plain v):Plain (.agg l):=λ_ _ _ _ _ _ h=>by
 cases h with
 |agg _ cs hx h1=>exact .agg l cs hx λi v x hv hx=>hl v (Zc1 hv) _ _ _ _ _ _ (h1 i v x hv hx)
theorem Plain.fl{xs:List (List AV)}{es:Nat}(hl:∀cs∈xs,∀v∈cs,Plain v):Plain (.fl xs es):=λ_ _ _ _ _ _ h=>by
 cases h with
 |fl _ _ br a cell h1 h2 h3 h4 h5=>exact .fl xs es br a cell h1 h2 h3 h4 λi j cs v hi hj=>hl cs (Zc1 hi) v (Zc1 hj) _ _ _ _ _ _ (h5 i j cs v hi hj)
def aX(st st':St):Prop:=∀b x,st.heap.get b=some x->st'.heap.get b=some x
theorem aX.refl(st:St):aX st st:=λ_ _ h=>h
theorem aX.trans{a b c:St}(h:aX a b)(k:aX b c):aX a c:=λ_ _ e=>k _ _ (h _ _ e)
theorem aC.down{ρ ρ':Pos->Loc}{n n':Nat}{C:Cells}{v:AV}{x:Value}(h:aC ρ' n' C v x):∀{y:Value},aC ρ n C v y->(∀b:Pos,b.toNat<n->ρ' b=ρ b)->aC ρ n C v x:=by
 induction h with
 |bool b=>exact λh _=>.bool b
 |int k i=>exact λh _=>.int k i
 |str s bs h=>exact λ_ _=>.str s bs h
 |jg=>exact λ_ _=>.jg
 |ptr b off h=>
  intro y h bF;cases h with
  |ptr _ _ h'=>rw[bF b h'];exact .ptr b off h'
 |fp xs i j es aM base cell hl hc hv ih=>
  intro y h bF;cases h with
  |fp _ _ _ es' Jv amd awo hl' hc' QM=>exact .fp xs i j es aM base cell hl hc λi j cs v hi hj=>ih i j cs v hi hj (QM i j cs v hi hj) bF
 |af=>exact λ_ _=>.af
 |slice  b off len cap es br a hl hc ha hk=>
  intro y h bF;cases h with
  |slice _ _ _ _ _ as6 a' hl' hc' ha' ri=>
   refine .slice b off len cap es br a hl hc (λh0=> ?_) ri;obtain⟨h1,h2,h3⟩:=ha h0;have hb:b.toNat<n:=by
        cases cap with
        |none=>exact ri rfl
        |some c=>
         have e1:=hc c rfl;have e2:=hc' c rfl;exact(ha' (by rw[<-e2,e1];exact h0)).1
   rw[bF b hb]at h2 h3;exact⟨hb,h2,h3⟩
 |fl xs es br a cell hl hs dN hc hv ih=>
  intro y h bF;cases h with
  |fl _ _ as6 a' awo hl' rj hes' hc' QM=>exact .fl xs es br a cell hl hs dN hc λi j cs v hi hj=>ih i j cs v hi hj (QM i j cs v hi hj) bF
 |qX=>exact λ_ _=>.qX
 |map b h=>
  intro y h bF;cases h with
  |map _ h'=>rw[bF b h'];exact .map b h'
 |func f x y x' y' hx hy h1 h2 ih1 ih2=>
  intro z h bF;cases h with
  |func _ _ _ a' b' kx ky k1 k2=>
   refine .func f x y x' y' hx hy (λi v x hv xB=> ?_) (λi v x hv xB=> ?_)
   .    have hi:i<a'.size:=(by rw[<-kx];exact(Za2.1 hv).1);exact ih1 i v x hv xB (k1 i v _ hv (Zg1 hi)) bF
   .    have hi:i<b'.size:=(by rw[<-ky];exact(Za2.1 hv).1);exact ih2 i v x hv xB (k2 i v _ hv (Zg1 hi)) bF
 |jX=>exact λ_ _=>.jX
 |B9=>exact λ_ _=> .B9
 |iface t v x _ ih=>
  intro y h bF;cases h with
  |iface _ _ x' h'=>exact .iface t v x (ih h' bF)
 |agg l cs hx h1 ih=>
  intro y h bF;cases h with
  |agg _ mZ kx k1=>
   (refine .agg l cs hx λi v x hv xB=> ?_);have hi:i<mZ.size:=(by rw[<-kx];exact(Za2.1 hv).1);exact ih i v x hv xB (k1 i v _ hv (Zg1 hi)) bF
 |tuple l cs hx h1 ih=>
  intro y h bF;cases h with
  |tuple _ mZ kx k1=>
   (refine .tuple l cs hx λi v x hv xB=> ?_);have hi:i<mZ.size:=(by rw[<-kx];exact(Za2.1 hv).1);exact ih i v x hv xB (k1 i v _ hv (Zg1 hi)) bF
end
noncomputable section
open Go Go.RowKit
def tidy(st:St)(r:AV×St):AV×St:=open Classical in if Plain r.1/\aX st r.2 then(r.1,st)else r
theorem bZ.back{ρ ρ':Pos->Loc}{C:Cells}{st bE:St}{w w1:World}(hW:bZ ρ C st w)(hk:aX st bE)(bF:∀b:Pos,b.toNat<st.next.toNat->ρ' b=ρ b)(jD:bZ ρ' C bE w1)(hs:w.heap.size<=w1.heap.size):bZ ρ C st w1:=by
 refine⟨λb y hb=> ?_,hW.inj,λa u ha=>⟨(jD.dW a u ha).1,(hW.dW a u ha).2⟩,jD.whole⟩;obtain⟨g1,g2,g3⟩:=hW.live b y hb;obtain⟨_,_,k3⟩:=jD.live b y (hk b y hb);refine⟨g1,Zd0 g2 hs,?_⟩;rw[bF b g1]at k3;cases y with
 |cells cs fz=>
  obtain⟨c,e,fr,q1,q2,q3,q4,q5⟩:=k3;obtain⟨c0,e0,dB,p1,p2,p3,p4,p5⟩:=g3;refine⟨c,e,fr,q1,q2,q3,⟨q4.1,λi v x hv hx=> ?_⟩,q5⟩;obtain⟨y0,hy0,hv0⟩:=p4.get hv;exact(q4.2 i v x hv hx).down hv0 bF
 |map es clock=>
  obtain⟨es',q1,q2,q3⟩:=k3;obtain⟨es0,p1,p2,p3⟩:=g3;refine⟨es',q1,q2,λi e e' he sw=> ?_⟩;obtain⟨a1,a2,a3⟩:=q3 i e e' he sw;have hi:i<es0.size:=by rw[<-p2];exact(Za2.1 he).1
  obtain⟨b1,b2,_⟩:=p3 i e _ he (Zg1 hi);exact⟨a1.down b1 bF,a2.down b2 bF,a3⟩
theorem an8{ρ:Pos->Loc}{C:Cells}{st:St}{w w':World}{r:AV×St}{x:Value}(hW:bZ ρ C st w)(h:lM ρ C st w r.1 r.2 x w'):
   lM ρ C st w (tidy st r).1 (tidy st r).2 x w':=by
 unfold tidy;split
 .rename_i hp;obtain⟨ρ',hv,bF,hn,jD,hE⟩:=h;exact⟨ρ,hp.1 _ _ _ _ _ _ hv,λ_ _=>rfl,Za3 _,hW.back hp.2 bF jD hE.size,⟨hE.os,hE.tape,hE.output,hE.size,hE.block,λb y hb=>.inl ⟨b,y,hb,rfl⟩⟩⟩
 .exact h
theorem an9{st:St}{r:AV×St}(h:st.next.toNat<=r.2.next.toNat):st.next.toNat<=(tidy st r).2.next.toNat:=by
 unfold tidy;split
 .exact Za3 _
 .exact h
def yC(O:fc)(G:T dR)(m:Nat):Nat->aj
 |0=>λ_ _ _=>none
 |  d+1=>λf args st=>match O f with
    |some s=>s args st
    |none=>match G.get (key f)with
     |some F=>(yA (yC O G m d) m F args st).map (tidy st)
     |none=>none
section
variable{P:Program}{tt:TT}{C:Cells}
theorem aoa{call:aj}(hm:pY call){m:Nat}{F:dR}{args:List AV}{st:St}{v:AV}{st':St}(h:yA call m F args st=some (v,st')):st.next.toNat<=st'.next.toNat:=by
 unfold yA at h;split at h<;>first|(cases h;done)|skip
 split at h<;>first|(cases h;done)|skip
 all_goals
  rename_i h1;split at h<;>first|(cases h;done)|skip
  simp only[H5,Zd2]at h;obtain⟨rfl,rfl⟩:=h;exact Oq hm _ _ _ _ _ _ _ h1
theorem ac7{O:fc}{G:T dR}(hO:o8 O)(m:Nat):∀d,pY (yC O G m d)
 |0=>λf args st v st' h=>by simp[yC]at h
 |d +1=>λf args st v st' h=>by
  unfold yC at h;split at h
  .rename_i s hs;exact hO _ _ hs _ _ _ _ h
  . (split at h<;>first|(cases h;done)|skip);simp only[Zf6]at h;obtain⟨r,hr,he⟩:=h;have:=aoa (ac7 hO m d) (v:=r.1) (st':=r.2) hr;have:=an9 this;rw[he]at this;exact this
theorem aaZ(hm:P.follows .mixedOrders=true)(hT:dG P tt){O:fc}{G:T dR}(hO:wm P C O)(Xp:o8 O)(hG:GOk P tt G)(m:Nat):∀d,jt P C (yC O G m d)
 |0=>λρ st w f args v st' cq h=>by simp[yC]at h
 |d +1=>by
  intro ρ st w f args v st' cq h hW yB;have ih:=aaZ hm hT hO Xp hG m d;unfold yC at h;split at h
  .rename_i s hs;exact hO f s hs ρ st w args v st' cq h hW yB
  . (split at h<;>first|(cases h;done)|skip);rename_i F hF;simp only[Zf6]at h;obtain⟨r,hr,he⟩:=h;refine Reaches.mono (λx w' hp=> ?_) (acW hT hG ih (S7 hm hT ih (ac7 Xp m d)) m hF (v:=r.1) (st':=r.2) hr hW yB);have:=an8 hW hp;rw[he]at this;exact this
end
theorem akQ{c c':aj}(h:LeC c c'){n m:Nat}(hn:n<=m){F:dR}{args:List AV}{st:St}{r:AV×St}(e:yA c n F args st=some r):yA c' m F args st=some r:=by
 unfold yA at e ⊢;split at e<;>first|(cases e;done)|skip
 split at e<;>first|(cases e;done)|skip
 all_goals
  rename_i h1;simp only[ZK h n m hn _ _ _ _ h1];exact e
theorem abN(O:fc)(G:T dR){n m:Nat}(hn:n<=m):∀d d',d<=d'->LeC (yC O G n d) (yC O G m d')
 |0,_,_=>λ_ _ _ _ e=>by simp[yC]at e
 |_+1,0,h=>by omega
 |d +1,d'+1,h=>λf args st r e=>by
  have ih:=abN O G hn d d' (by omega);unfold yC at e ⊢;split at e
  .exact e
  . (split at e<;>first|(cases e;done)|skip);simp only[Zf6]at e ⊢;obtain⟨q,hq,he⟩:=e;exact⟨q,akQ ih hn hq,he⟩
def cn(O:fc)(G:T dR)(n:Nat):aj:=yC O G n n
theorem Ti(O:fc)(G:T dR){n m:Nat}(h:n<=m):LeC (cn O G n) (cn O G m):=abN O G h n m h
def run(O:fc)(G:T dR):aj:=λf args st=>open Classical in
 if h:∃(r:AV×St) (n:Nat),cn O G n f args st=some r then some h.choose else none
variable{O:fc}{G:T dR}
theorem aob{f:FuncId}{args:List AV}{st:St}{r:AV×St}{n:Nat}(h:cn O G n f args st=some r):run O G f args st=some r:=by
 unfold run;have hx:∃(r:AV×St) (n:Nat),cn O G n f args st=some r:=⟨r,n,h⟩
 rw[dif_pos hx];obtain⟨m,hm⟩:=hx.choose_spec;have h1:=Ti O G (Zj9 n m) f args st _ h;have h2:=Ti O G (Zj0 n m) f args st _ hm;rw[h1]at h2;exact h2.symm
theorem ahV{f:FuncId}{args:List AV}{st:St}{r:AV×St}(h:run O G f args st=some r):∃n,cn O G n f args st=some r:=by
 unfold run at h;split at h
 .rename_i hx;simp only[H5]at h;rw[<-h];exact hx.choose_spec
 .cases h
theorem ac8{k:aG}{xs:List AV}{st:St}{r:AV×St}(e:cJ (run O G) k xs st=some r):∃n,cJ (cn O G n) k xs st=some r:=by
 unfold cJ at e;cases hr:k.run (λb=>st.heap.get b) st.next xs with
 |none=>simp[hr]at e
 |some x=>cases x with
  |val v=>exact⟨0,by simpa [cJ,hr]using e⟩
  |bk v d s n=>exact⟨0,by simpa [cJ,hr]using e⟩
  |call f args=>
   simp only[hr]at e;obtain⟨n,hn⟩:=ahV e;exact⟨n,by simpa [cJ,hr]using hn⟩
theorem Xt:∀(os:List bV)(fr:Fr)(st:St)(r:Fr×St),mV (run O G) os fr st=some r->∃n,mV (cn O G n) os fr st=some r
 |[],_,_,_,e=>⟨0,e⟩
 |o::os,fr,st,r,e=>by
  unfold mV at e;cases hw:cN fr o.guard with
  |none=>simp[hw]at e
  |some b=>cases b with
   |    false=>
        simp only[hw]at e;obtain⟨n,hn⟩:=Xt os _ _ _ e;exact⟨n,by unfold mV;simp only[hw];exact hn⟩
   |    true=>
        simp only[hw]at e;cases hx:gu fr o.xs with
        |none=>simp[hx]at e
        |some xs=>
         simp only[hx]at e;cases hs:cJ (run O G) o.k xs st with
         |none=>simp[hs]at e
         |some p=>
          simp only[hs]at e;obtain⟨n,hn⟩:=Xt os _ _ _ e;obtain⟨m,hm⟩:=ac8 hs;refine⟨max n m,?_⟩;unfold mV;simp only[hw,hx,Th (Ti O G (Zj0 n m)) hm];exact ZJ (Ti O G (Zj9 n m)) _ _ _ _ hn
theorem ac9: ∀(os:List (Nat×bV))(recs:List Rec)(base:T AB)(fr:Fr)(st:St)(r:Fr×St),eD (run O G) os recs base fr st=some r->∃n,eD (cn O G n) os recs base fr st=some r
 |[],_,_,_,_,_,e=>⟨0,e⟩
 |(j,   o):: os,recs,base,fr,st,r,e=>by
  have ih:=ac9 os;unfold eD at e;cases hw:cN fr o.guard with
  |none=>simp[hw]at e
  | some b=>cases b with
    |   false=>
        simp only[hw]at e;obtain⟨n,hn⟩:=ih _ _ _ _ _ e;exact⟨n,by unfold eD;simp only[hw];exact hn⟩
    |   true=>
        simp only[hw]at e;cases hx:gu fr o.xs with
        |none=>simp[hx]at e
        |some xs=>
         simp only[hx]at e;cases hc:o.cls with
         | bk=>
           simp only[hc]at e;cases hs:cJ (run O G) o.k xs st with
           |none=>simp[hs]at e
           | some p=>
             simp only[hs]at e;obtain⟨n,hn⟩:=ih _ _ _ _ _ e;obtain⟨m,hm⟩:=ac8 hs;refine⟨max n m,?_⟩;unfold eD;simp only[hw,hx,hc,Th (Ti O G (Zj0 n m)) hm];exact abM (Ti O G (Zj9 n m)) _ _ _ _ _ _ hn
         | new=>
           simp only[hc]at e;(split at e<;>first|(cases e;done)|skip);obtain⟨n,hn⟩:=ih _ _ _ _ _ e;refine⟨n,?_⟩;unfold eD;simp only[*]
         | pure=>
           simp only[hc]at e;split at e<;>(try split at e)<;>(try split at e)<;>first|(cases e;done)|skip
           all_goals
             obtain⟨n,hn⟩:=ih _ _ _ _ _ e;refine⟨n,?_⟩;unfold eD;simp only[*]
         | read=>
           simp only[hc]at e;split at e<;>(try split at e)<;>(try split at e)<;>first|(cases e;done)|skip
           all_goals
             obtain⟨n,hn⟩:=ih _ _ _ _ _ e;refine⟨n,?_⟩;unfold eD;simp only[*]
theorem afH:∀(n:Nat)(a:AC)(fr:Fr)(st:St)(r:o6×Fr×St),exec (run O G) n a fr st=some r->∃m,exec (cn O G m) n a fr st=some r
 |0,_,_,_,_,e=>by simp[exec]at e
 |n+    1,a,fr,st,r,e=>by
  have ih:=afH n;have up:∀{m m':Nat}{a:AC}{fr:Fr}{st:St}{r:o6×Fr×St},m<=m'->exec (cn O G m) n a fr st=some r->exec (cn O G m') n a fr st=some r:=
   λh e=>ZK (Ti O G h) _ _ (Za3 _) _ _ _ _ e
  cases a<;>simp only[exec,bD]at e
  case skip=>exact⟨0,e⟩
  case exit=>exact⟨0,e⟩
  case ret=>exact⟨0,e⟩
  case region ops=>
   cases ho:mV (run O G) ops fr st with
   |none=>simp[ho]at e
   |    some p=>
        obtain⟨m,hm⟩:=Xt _ _ _ _ ho;exact⟨m,by simp only[exec,bD,hm];simpa only[ho]using e⟩
  case draw ops=>
   cases ho:eD (run O G) ops [] st.heap fr st with
   |none=>simp[ho]at e
   |    some p=>
        obtain⟨m,hm⟩:=ac9 _ _ _ _ _ _ ho;exact⟨m,by simp only[exec,bD,hm];simpa only[ho]using e⟩
  case seq a b=>
   cases ha:exec (run O G) n a fr st with
   |none=>simp[ha]at e
   |    some p=>
        obtain⟨ex,fh,bE⟩:=p;simp only[ha]at e;obtain⟨m,hm⟩:=ih _ _ _ _ ha;cases ex with
        |normal=>
         obtain⟨m',hm'⟩:=ih _ _ _ _ e;exact⟨max m m',by simp only[exec,bD,up (Zj9 m m') hm];exact up (Zj0 m m') hm'⟩
        |exit i=>exact⟨m,by simp only[exec,bD,hm];exact e⟩
        |ret=>exact⟨m,by simp only[exec,bD,hm];exact e⟩
  case cond x a b=>
   split at e
   .    rename_i hx;obtain⟨m,hm⟩:=ih _ _ _ _ e;exact⟨m,by simp only[exec,bD,hx];exact hm⟩
   .    rename_i hx;obtain⟨m,hm⟩:=ih _ _ _ _ e;exact⟨m,by simp only[exec,bD,hx];exact hm⟩
   .    cases e
  case block id a=>
   cases ha:exec (run O G) n a fr st with
   |none=>simp[ha]at e
   |    some p=>
        obtain⟨ex,fh,bE⟩:=p;simp only[ha]at e;obtain⟨m,hm⟩:=ih _ _ _ _ ha;exact⟨m,by simp only[exec,bD,hm];exact e⟩
  case loop a=>
   cases ha:exec (run O G) n a fr st with
   |none=>simp[ha]at e
   |    some p=>
        obtain⟨ex,fh,bE⟩:=p;simp only[ha]at e;obtain⟨m,hm⟩:=ih _ _ _ _ ha;cases ex with
        |normal=>
         obtain⟨m',hm'⟩:=ih _ _ _ _ e;exact⟨max m m',by simp only[exec,bD,up (Zj9 m m') hm];exact up (Zj0 m m') hm'⟩
        |exit i=>exact⟨m,by simp only[exec,bD,hm];exact e⟩
        |ret=>exact⟨m,by simp only[exec,bD,hm];exact e⟩
theorem aqL{f:FuncId}{F:dR}{args:List AV}{st:St}{r:AV×St}{n:Nat}(ho:O f=none)(hF:G.get (key f)=some F)(h:yA (run O G) n F args st=some r):
   run O G f args st=some (tidy st r):=by
 unfold yA at h;split at h<;>first|(cases h;done)|skip
 rename_i hlen
 have fin:∀{ex fr st'},exec (run O G) n F.code (params 0 args .e) st=some (ex,fr,st')->(∀m k,exec (cn O G m) k F.code (params 0 args .e) st=some (ex,fr,st')->yA (cn O G m) k F args st=some r)->
    run O G f args st=some (tidy st r):=λh1 h2=>by
   obtain⟨m,hm⟩:=afH _ _ _ _ _ h1;refine aob (n:=max n m+1) ?_;unfold cn yC;simp only[ho,hF];have:=h2 m n hm;have h3:=akQ (abN O G (n:=m) (m:=max n m+1) (by have:=Zj0 n m;omega) m (max n m) (Zj0 n m)) (m:=max n m+1) (by have:=Zj9 n m;omega) this;rw[h3];rfl
 split at h<;>first|(cases h;done)|skip
 .rename_i h1;exact fin h1 λm k hk=>by unfold yA;simp only[hlen,hk];exact h
 .rename_i h1;exact fin h1 λm k hk=>by unfold yA;simp only[hlen,hk];exact h
theorem ada{f:FuncId}{s:List AV->St->Option (AV×St)}(ho:O f=some s){args:List AV}{st:St}{r:AV×St}(h:s args st=some r):run O G f args st=some r:=
 aob (n:=1) (by unfold cn yC;simp only[ho];exact h)
theorem afI{P:Program}{tt:TT}{C:Cells}(hm:P.follows .mixedOrders=true)(hT:dG P tt)(hO:wm P C O)(Xp:o8 O)(hG:GOk P tt G):jt P C (run O G):=by intro ρ st w f args v st' cq h hW yB;obtain⟨n,hn⟩:=ahV h;exact aaZ hm hT hO Xp hG n n ρ st w f args v st' cq hn hW yB
section
variable{ρ ρ':Pos->Loc}{C:Cells}{st bE:St}{w w1 w':World}{nt r:Nat}{fr fh:Fr}{a a1:Act}
theorem lF.sub{n:Nat}{tmps:Array Value}(h:lF ρ n C fh tmps)(hf:∀p v,fr.get p=some v->fh.get p=some v):lF ρ n C fr tmps:=λp v hp=>h p v (hf p v hp)
theorem zf.back(hS:zf nt ρ C fr st a w)(hf:∀p v,fr.get p=some v->fh.get p=some v)(hk:aX st bE)(h:lf nt ρ C st w fh bE a1 w1):
  zf nt ρ C fr st a1 w1/\pg ρ st w ρ st w1:=by
 obtain⟨ki,S1,k1,k2,E⟩:=h;refine⟨⟨hS.W.back hk k1 S1.W E.size,λp v hp=> ?_,S1.size,S1.defers⟩,⟨E.os,E.tape,E.output,E.size,E.block,λb x hb=>.inl ⟨b,x,hb,rfl⟩⟩⟩;obtain⟨x,hx,hv⟩:=S1.F p v (hf p v hp);obtain⟨y,_,hy⟩:=hS.F p v hp;exact⟨x,hx,hv.down hy k1⟩
theorem bZ.iter{m:Option Nat}{s c:Nat}{seen:Array Nat}(hW:bZ ρ C st w)(hr:w.heap[r]? =some (.mapIter m s seen c))(hn:∀b x,st.heap.get b=some x->(ρ b).aM≠r)
   (hs:w'.heap.size=w.heap.size) (hk:∀k,k≠r->w'.heap[k]? =w.heap[k]?):bZ ρ C st w':=by
 have cY:∀a v,C a=some v->a.block≠r:=λa v ha e=>by have h:=(hW.dW a v ha).1;unfold World.cell? at h;rw[e,hr]at h;cases h
 refine⟨λb x hb=> ?_,hW.inj,λa v ha=> ?_,λa v ha o ho=> ?_⟩
 .obtain⟨h1,h2,h3⟩:=hW.live b x hb;exact⟨h1,by rw[hs];exact h2,h3.of_heap (hk _ (hn b x hb))⟩
 .obtain⟨h1,h2⟩:=hW.dW a v ha;exact⟨by rw[World.cell?_of_block (w:=w) (hk _ (cY a v ha))];exact h1,h2⟩
 .rw[World.cell?_of_block (w:=w) (a:=⟨a.block,o,none⟩) (hk _ (cY a v ha))];exact hW.whole a v ha o ho
end
def T.sub{α:Type}(f:α->α->Bool):T α->T α->Bool
 |.e,_=>true
 |.n l v r,.e=>(match v with|none=>true|some _=>false)&&T.sub f l .e&&T.sub f r .e
 |  .n l v r,.n l' v' r'=>(match v with
    |none=>true
    |some a=>match v' with
     |some b=>f a b
     |none=>false)&&T.sub f l l'&&T.sub f r r'
theorem T.LQ{α:Type}{f:α->α->Bool}(hf:∀a b,f a b=true->a=b):∀{t u:T α},T.sub f t u=true->∀p v,t.get p=some v->u.get p=some v
 |.e,_,_,p,v,h=>by rw[T.dS]at h;cases h
 | .n l x r,.e,hs,p,v,h=>by
   simp only[T.sub,Zb1]at hs;cases p with
   |h=>simp only[T.get]at h;subst h;simp at hs
   |o p=>have:=T.LQ hf hs.1.2 p v h;rw[T.dS]at this;cases this
   |i p=>have:=T.LQ hf hs.2 p v h;rw[T.dS]at this;cases this
 | .n l x r,.n l' x' r',hs,p,v,h=>by
   simp only[T.sub,Zb1]at hs;cases p with
   |h=>
    simp only[T.get]at h ⊢; subst h;have h1:=hs.1.1;cases x' with
    |none=>simp at h1
    |some y=>simp at h1;rw[hf _ _ h1]
   |o p=>exact T.LQ hf hs.1.2 p v h
   |i p=>exact T.LQ hf hs.2 p v h
structure RG where
 t17:Nat
 t18:Nat
 t19:Nat
 t20:Nat
 l2:List bV
 x:iy
 l4:List bV
 body:AC
 ds:List Pos
abbrev XR:=Option (o6×Fr×St)
section
variable(cg:tF XR)(m:Nat)(g:RG)
def exK(c:AC)(fr:Fr)(st:St):XR:=acL none cg m c fr st (λfr st=>some (.normal,fr,st)) (λi fr st=>some (.exit i,fr,st)) (λfr st=>some (.ret,fr,st))
def ame(k v:AV)(fr:Fr)(st:St):XR:=
 xV (some (.tuple [.bool true,k,v])) (key g.t18) fr λfr=>xV (some (.bool true)) (key g.t19) fr λfr=>xV (some (.tuple [k,v])) (key g.t20) fr λfr=>
    aeg none cg g.l4 fr st λfr st=>exK cg m g.body fr st
def ahW:List Pos->Fr->(Fr->XR)->XR
 |[],fr,k=>k fr
 |p::ps,fr,k=>xV none p fr λfr=>ahW ps fr k
def Tj(fr:Fr)(st:St)(e:AV×AV×Nat):Bool:=match ame cg m g e.1 e.2.1 fr st with
 |some (.normal,fh,bE)=>T.sub eZ fr fh&&T.sub ac4 st.heap bE.heap
 |_=>false
def aeq(clock:Nat):List (AV×AV×Nat)->Bool
 |[]=>true
 |e::es=>Nat.blt e.2.2 clock&&es.all (λx=> !Nat.beq x.2.2 e.2.2)&&aeq clock es
def amf (fr:  Fr) (st:St):XR:=
 aeg  none cg g.l2 fr st λfr st=>evK none fr g.x λ
    | .map b=>match Cb b st.heap with
      | some (.map es clock)=>match aeq clock es with
        |true=>   ahW g.ds fr λfr=>xV (some (.ptr st.next 0)) (key g.t17) fr λfr=>acK st.next λn=>
           match es.filter (λe=> !Tj cg m g fr { heap:=st.heap,next:=n } e)with
           |[]=>some (.normal,fr,{ heap:=st.heap,next:=n })
           |  [e] =>match ame cg m g e.1 e.2.1 fr { heap:=st.heap,next:=n }with
              |some (.normal,fh,bE)=>ahW g.ds fh λfh=>
                  match Cb b bE.heap,Cb (key g.t17) fh with
                  |some y,some v=>match ac4 y (.map es clock)&&eZ v (.ptr st.next 0)&&es.all (λx=>Nat.beq x.2.2 e.2.2||Tj cg m g fh bE x)with
                   |true=>some (.normal,fh,bE)
                   |false=>none
                  |_,_=>none
              |_=>none
           |_=>none
        |false=>none
      |_=>none
    |_=>none
end
section
variable{P:Program}{tt:TT}{C:Cells}
def qf(P:Program)(C:Cells)(nt:Nat)(c:Code)(ex:Fr->St->XR):Prop:=
 ∀  (fr bI:Fr)(st st':St)(e:o6)(ρ:Pos->Loc)(a:Act)(w:World)(Q:Exit->Act->World->Prop),ex fr st=some (e,bI,st')->zf nt ρ C fr st a w->
    (∀a' w',lf nt ρ C st w bI st' a' w'->Q (Q0 e) a' w')->c.wp P Q a w
theorem aoc{cg:tF XR}{call:aj}(hc:CK none cg call)(m:Nat)(c:AC)(fr:Fr)(st:St):exK cg m c fr st=exec call m c fr st:=by
 unfold exK;rw[abK none hc];cases exec call m c fr st with
 |none=>rfl
 |some x=>obtain⟨e,fr,st⟩:=x;cases e<;>rfl
theorem qf.ac(hT:dG P tt){cg:tF XR}{call:aj}(hc:CK none cg call)(dI:jt P C call)(mI:zh P tt C call){nt m:Nat}{c:Code}{a:AC}(h:v8 tt nt c=some a):
 qf P C nt c (exK cg m a):=λfr bI st st' e ρ ac w Q hx hS hQ=>(DS hT dI mI m).1 c a fr bI st st' e ρ ac w Q h (by rw[<-aoc hc];exact hx) hS hQ
def aqM(x y:Fr->St->XR)(fr:Fr)(st:St):XR:=match x fr st with
 |some (.normal,fr,st)=>y fr st
 |r=>r
theorem qf.seq{nt:Nat}{c d:Code}{x y:Fr->St->XR}(hc:qf P C nt c x)(hd:qf P C nt d y):qf P C nt (.seq c d) (aqM x y):=by
 intro fr bI st st' e ρ a w Q h hS hQ;unfold aqM at h;apply wp_seq;split at h
 .rename_i fh bE h1;(refine hc fr fh st bE .normal ρ a w _ h1 hS λa1 w1 hp=> ?_);obtain⟨ki,S1,k1,k2,k3⟩:=hp;exact hd fh bI bE st' e ki a1 w1 Q h S1 λa2 w2 hp=>hQ a2 w2 (lf.trans k1 k2 k3 hp)
 . rename_i cY;(refine hc fr bI st st' e ρ a w _ h hS λa1 w1 hp=> ?_);cases e with
   |normal=>exact(cY _ _ h).elim
   |exit id=>exact hQ a1 w1 hp
   |ret=>exact hQ a1 w1 hp
def clr:List Pos->Fr->Fr
 |[],fr=>fr
 |p::ps,fr=>clr ps (fr.put none p)
theorem akR:∀(ps:List Pos)(fr:Fr)(k:Fr->XR),ahW ps fr k=k (clr ps fr)
 |[],_,_=>rfl
 |p::ps,fr,k=>by simp only[ahW,oN,clr];exact akR ps _ k
theorem aer:∀(ps:List Pos)(fr:Fr)(p:Pos)(v:AV),(clr ps fr).get p=some v->fr.get p=some v
 |[],_,_,_,h=>h
 |q::ps,fr,p,v,h=>by
  have h:=aer ps _ p v h;by_cases hq:q=p
  .subst hq;rw[T.gU]at h;cases h
  .rwa [T.cC _ hq]at h
theorem aes{clock:Nat}:∀{es:List (AV×AV×Nat)},aeq clock es=true->(∀e∈es,e.2.2<clock)/\(es.map (·.2.2)).Nodup
 |[],_=>⟨λ_ h=>by simp at h,by simp⟩
 |e ::es,h=>by
  simp only[aeq,Zb1]at h;obtain⟨⟨h1,h2⟩,h3⟩:=h;obtain⟨i1,i2⟩:=aes h3;refine⟨λx hx=> ?_,?_⟩
  . rcases Za8.1 hx with rfl|hx
    .exact Zb5 h1
    .exact i1 x hx
  .rw[Zd1,List.nodup_cons];refine⟨λhm=> ?_,i2⟩;obtain⟨x,hx,he⟩:=Zc7.1 hm;have:=Zh3.1 h2 x hx;simp[he]at this
def Mv(cg:tF XR)(m:Nat)(g:RG)(A B:Fr×St)(e:AV×AV×Nat):Prop:=
 ∃f1 s1,ame cg m g e.1 e.2.1 A.1 A.2=some (.normal,f1,s1)/\(∀p v,B.1.get p=some v->f1.get p=some v)/\((B=A/\aX A.2 s1)\/B.2=s1)
theorem aet{cg:tF XR}{m:Nat}{g:RG}{fr:Fr}{st:St}{e:AV×AV×Nat}(h:Tj cg m g fr st e=true):Mv cg m g (fr,st) (fr,st) e:=by
 unfold Tj at h;split at h<;>first|(cases h;done)|skip
 rename_i f1 s1 h1;simp only[Zb1]at h;exact⟨f1,s1,h1,T.LQ (λ_ _=>zi) h.1,.inl ⟨rfl,T.LQ (λ_ _=>abL) h.2⟩⟩
section
variable{cg:tF XR}{call:aj}{nt m:Nat}{g:RG}{um:Array Oper}{o0 o1 o4:Oper}{i3 i4 b0 b1:Nat}{rest:Code}{U8:List bV}{bs:List Nat}
def amg(g:RG)(o0 o1:Oper)(um:Array Oper)(rest:Code)(i3 i4 b0 b1:Nat):Code:=
 .seq (.region i3 #[o0,o1] false) (.seq (.cond (.tmp g.t19) .skip (.exit b0)) (.block b1 (.seq (.region i4 um false) rest)))
structure aqN(tt:TT)(nt:Nat)(g:RG)(o0 o1 o4:Oper)(um:Array Oper)(rest:Code)(U8:List bV)(bs:List Nat):Prop where
 n0:o0.op= .next (.tmp g.t17) false/\o0.guard=none/\o0.dst=some g.t18
 n1:o1.op= .extract (.tmp g.t18) 0/\o1.guard=none/\o1.dst=some g.t19
 n4:um[0]? =some o4/\o4.op= .entry (.tmp g.t17)/\o4.guard=none/\o4.dst=some g.t20
 lt:g.t17<nt/\g.t18<nt/\g.t19<nt/\g.t20<nt
 ne:g.t17≠g.t18/\g.t17≠g.t19/\g.t18≠g.t19
 c4:uQ tt nt um um.toList bs=some U8
 l4:U8.tail=g.l4
 r4:v8 tt nt rest=some g.body
structure LI(C:Cells)(nt:Nat)(g:RG)(X:Fr×St)(b Q5:Pos)(es:List (AV×AV×Nat))(since r:Nat)(oh:Pos->Loc)(Xu:St)(w0:World)(seen:Array Nat)(ρ:Pos->Loc)(a:Act)(w:World):Prop where
 S:zf nt ρ C X.1 X.2 a w
 k1:∀p:Pos,p.toNat<Xu.next.toNat->ρ p=oh p
 k2:Xu.next.toNat<=X.2.next.toNat
 E:pg oh Xu w0 ρ X.2 w
 ip:(ρ Q5).aM=r/\(ρ Q5).base=0/\Q5.toNat<X.2.next.toNat
 at17:X.1.get (key g.t17)=some (.ptr Q5 0)
 mp:X.2.heap.get b=some (.map es since)
 it:∃c,w.heap[r]? =some (.mapIter (some (ρ b).aM) since seen c)/\since<=c
 zl:∀p x,X.2.heap.get p=some x->(ρ p).aM≠r
 late:w0.heap.size<=r
 cl:X.1.get (key g.t18)=none/\X.1.get (key g.t19)=none
theorem CN{ops:Array Oper}{Q:Exit->Act->World->Prop}{i:Nat}{rest:List Nat}{o:Oper}{a:Act}{w w':World}{v:Value}(ho:ops[i]? =some o)(hg:o.guard=none)
  (hr:(execOp a.eval o).run P w= .ok (.value v) w') (hQ:wpOps P ops Q rest (a.put o.dst v) w'):wpOps P ops Q (i::rest) a w:=by
 unfold wpOps;rw[ho];simp only[Region.wanted,hg,Zh1];refine .inl ?_;unfold Oper.wp;rw[hr];exact hQ
theorem eval_put{a:Act}{t:Nat}{v:Value}(h:t<a.tmps.size):(a.put (some t) v).eval (.tmp t)=v:=by
 simp[Act.put,Act.eval,h]
theorem aa0{a:Act}{t s:Nat}{v:Value}(h:t≠s):(a.put (some t) v).eval (.tmp s)=a.eval (.tmp s):=by
 simp[Act.put,Act.eval,Zk0 h]
theorem LI.round(hT:dG P tt)(hc:CK none cg call)(dI:jt P C call)(mI:zh P tt C call)(hR:aqN tt nt g o0 o1 o4 um rest U8 bs)
   {A:Fr×St} {b Q5:Pos} {es:List (AV×AV×Nat)} {since r:Nat} {oh:Pos->Loc} {Xu:St} {w0:World} {seen:Array Nat} {ρ:Pos->Loc} {a:Act} {w:World}
   (L:LI C nt g A b Q5 es since r oh Xu w0 seen ρ a w) (dN:aeq since es=true) {Q:Exit->Act->World->Prop}
   (amh:(∀e∈es,seen.contains e.2.2=true)->∀a',zf nt ρ C A.1 A.2 a' w->Q (.exit b0) a' w)
   (awp:∀e∈es,seen.contains e.2.2=false->∃B,Mv cg m g A B e/\B.1.get (key g.t17)=some (.ptr Q5 0)/\B.2.heap.get b=some (.map es since)/\B.1.get (key g.t18)=none/\B.1.get (key g.t19)=none/\
     ∀ρ' a' w',LI C nt g B b Q5 es since r oh Xu w0 (seen.push e.2.2) ρ' a' w'->Q .normal a' w'):
   (amg g o0 o1 um rest i3 i4 b0 b1).wp P Q a w:=by
 obtain⟨c,hr,hsc⟩:=L.it;obtain⟨g1,g2,es',q1,q2,q3⟩:=L.S.W.live b _ L.mp;obtain⟨aW,hnd⟩:=aes dN;have hat:∀(i:Nat)(e':MapEntry),es'[i]? =some e'->∃e,es[i]? =some e/\aC ρ A.2.next.toNat C e.1 e'.key/\aC ρ A.2.next.toNat C e.2.1 e'.val/\e.2.2=e'.born:=λi e' h=>by
   have hi:i<es.length:=(by rw[q2];exact(Zd3.1 h).1);exact⟨_,H0 hi,q3 i _ e' (H0 hi) h⟩
 have hold:∀x∈es'.toList,x.born<since:=λx hx=>by
   obtain⟨i,hi⟩:=Zf2.1 hx;obtain⟨e,h1,_,_,h2⟩:=hat i x (by simpa using hi);rw[<-h2];exact aW e (Zc1 h1)
 have dY:es'.toList.map (·.born)=es.map (·.2.2):=by
   apply Zi6;intro i;simp only[Zb7,Zi4];cases h:es'[i]? with
   | none=>
     have:es.length<=i:=(by rw[q2];exact Array.getElem?_eq_none_iff.1 h);rw[Zc3 this];rfl
   | some x=>
     obtain⟨e,h1,_,_,h2⟩:=hat i x h;rw[h1];simp[h2]
 have hit:a.eval (.tmp g.t17)= .pointer (some ⟨r,0,none⟩):=by
   have h:=Cc (x:= .tmp g.t17) (o:= .t (key g.t17)) rfl L.S.F (v:= .ptr Q5 0) L.at17;obtain⟨_,h⟩:=h.qU;rw[h,L.ip.1,L.ip.2.1]
 have gw:=L.S.size;have s18:∀(v:Value),g.t18<(a.put (some g.t18) v).tmps.size:=λv=>by rw[Act.kB,gw];exact hR.lt.2.1
 have hrl:r<w.heap.size:=(Zd3.1 hr).1;unfold amg;apply wp_seq;apply wp_region;show wpOps P _ _ [0,1] a w;rcases run_next_at (P:=P) w o0.type r (ρ b).aM since c seen es' since hr q1 hold hsc with⟨h0,dO⟩|⟨e',sw,w1,om,dO⟩
 . refine CN (i:=0) (o:=o0) rfl hR.n0.2.1 (v:= .tuple #[.bool false]) (w':=w) (by simp[execOp,hR.n0.1,hit,dO,Result.andThen]) ?_;rw[hR.n0.2.2];refine CN (i:=1) (o:=o1) rfl hR.n1.2.1 (v:= .bool false) (w':=w) (by simp[execOp,hR.n1.1,eval_put (gw ▸hR.lt.2.1),Instr.extract,Result.andThen]) ?_;rw[hR.n1.2.2];apply wp_seq;refine wp_cond_false (eval_put (by rw[Act.kB,gw];exact hR.lt.2.2.1)) (wp_exit ?_);refine amh (λe he=> ?_) _ ⟨L.S.W,λp v hp=> ?_,by rw[Act.kB,Act.kB];exact gw,by rw[Act.mT,Act.mT];exact L.S.defers⟩
   .obtain⟨i,hi⟩:=Zf2.1 he;have QV:i<es'.size:=(by rw[<-q2];exact(Za2.1 hi).1);obtain⟨e2,h1,_,_,h2⟩:=hat i _ (Zg1 QV);rw[hi]at h1;cases h1;rw[h2];have hem:leftOf es' seen= #[]:=Zo9 h0;unfold leftOf at hem;rw[Array.filter_eq_empty_iff]at hem;have:=hem es'[i] (Array.getElem_mem QV);simpa using this
   .rw[Ov (λh=>by simp at h;subst h;rw[L.cl.2]at hp;cases hp),Ov (λh=>by simp at h;subst h;rw[L.cl.1]at hp;cases hp)];exact L.S.F p v hp
 . have hr1:w1.heap[r]? =some (.mapIter (some (ρ b).aM) since seen c):=(by rcases om with rfl|rfl<;>exact hr);have kj:w1.heap[(ρ b).aM]? =some (.map es' since):=(by rcases om with rfl|rfl<;>exact q1);have Jw:=Go.MapKept.heap_set (o':= .mapIter (some (ρ b).aM) since (seen.push e'.born) since) hr1;obtain⟨w2,tH⟩:∃w2,w2=Go.ChangeMaps.setBlock w1 r (.mapIter (some (ρ b).aM) since (seen.push e'.born) since):=⟨_,rfl⟩
   (change (Go.ChangeMaps.setBlock w1 r (.mapIter (some (ρ b).aM) since (seen.push e'.born) since)).heap[r]? =_/\∀k,k≠r->(Go.ChangeMaps.setBlock w1 r (.mapIter (some (ρ b).aM) since (seen.push e'.born) since)).heap[k]? =_ at Jw;rw[<-tH]at Jw dO;have uD:w2.heap.size=w.heap.size:=(by rw[tH];rcases om with rfl|rfl<;>simp[Go.ChangeMaps.setBlock]<;>rfl);have uC:∀k,k≠r->w2.heap[k]? =w.heap[k]? :=λk hk=>(Jw.2 k hk).trans (by rcases om with rfl|rfl<;>rfl));have Mj:w2.os=w.os/\w2.tape=w.tape/\w2.output=w.output:=(by rw[tH];rcases om with rfl|rfl<;>exact⟨rfl,rfl,rfl⟩);clear tH om;have hW2:bZ ρ C A.2 w2:=L.S.W.iter hr L.zl uD uC;have hen:(Instr.entry (.pointer (some ⟨r,0,none⟩))).run P w2= .ok (.tuple #[e'.key,e'.val]) w2:=
     run_entry_at _ r _ since seen es' since e' Jw.1 ((uC _ (L.zl b _ L.mp)).trans q1) (by simp[leftOf]at sw;simpa using sw.1) (dY ▸hnd)
   obtain⟨i,hi⟩:=Zf2.1 sw;have DW:e'∈es'.toList/\seen.contains e'.born=false:=(by simpa [leftOf]using sw);obtain⟨j,hj⟩:=Zf2.1 DW.1;obtain⟨e,h1,v1,v2,h2⟩:=hat j e' (by simpa using hj);obtain⟨B,⟨f1,s1,hx,hf,hB⟩,b17,bm,b18,b19,hQ⟩:=awp e (Zc1 h1) (by rw[h2];exact DW.2);refine CN (i:=0) (o:=o0) rfl hR.n0.2.1 (v:= .tuple #[.bool true,e'.key,e'.val]) (w':=w2) (by simp[execOp,hR.n0.1,hit,dO,Result.andThen]) ?_;rw[hR.n0.2.2];refine CN (i:=1) (o:=o1) rfl hR.n1.2.1 (v:= .bool true) (w':=w2) (by simp[execOp,hR.n1.1,eval_put (gw ▸hR.lt.2.1),Instr.extract,Result.andThen]) ?_;rw[hR.n1.2.2];apply wp_seq;refine wp_cond_true (eval_put (by rw[Act.kB,gw];exact hR.lt.2.2.1)) (wp_skip ?_);apply wp_block;apply wp_seq;apply wp_region;have hln:um.size=g.l4.length+1:=(by have h:U8.length=um.size:=(by rw[(xP hR.c4).1,Zi3]);obtain⟨h4,_⟩:=Zd3.1 hR.n4.1;have h4:0<um.size:=h4;rw[<-hR.l4,List.length_tail];omega);rw[hln,Zl6,Zp0];refine CN (i:=0) (o:=o4) hR.n4.1 hR.n4.2.2.1 (v:= .tuple #[e'.key,e'.val]) (w':=w2) (by simp[execOp,hR.n4.2.1,aa0 hR.ne.1.symm,aa0 hR.ne.2.1.symm,hit,hen,Result.andThen]) ?_;rw[hR.n4.2.2.2];unfold ame at hx;simp only[oN]at hx;rw[ZH none hc]at hx;unfold uW at hx;(split at hx<;>first|(cases hx;done)|skip);rename_i y hy;simp only[aoc hc]at hx;have hvt:aC ρ A.2.next.toNat C (.tuple [.bool true,e.1,e.2.1]) (.tuple #[.bool true,e'.key,e'.val]):= .qZ ((aK.nil.cons v2).cons v1 |>.cons (.bool true));have hve:aC ρ A.2.next.toNat C (.tuple [e.1,e.2.1]) (.tuple #[e'.key,e'.val]):= .qZ ((aK.nil.cons v2).cons v1);have F1:=lF.put (nt:=nt) (d:=some g.t18) L.S.F gw (λ_ h=>by cases h;exact hR.lt.2.1) hvt;have F2:=lF.put (nt:=nt) (d:=some g.t19) F1 (by rw[Act.kB];exact gw) (λ_ h=>by cases h;exact hR.lt.2.2.1) (.bool true);have F3:=lF.put (nt:=nt) (d:=some g.t20) F2 (by rw[Act.kB,Act.kB];exact gw) (λ_ h=>by cases h;exact hR.lt.2.2.2) hve;refine DR (nt:=nt) hT dI g.l4 1 _ y.1 A.2 y.2 ρ _ w2 (λi ao hi=> ?_) hy ⟨hW2,F3,by rw[Act.kB,Act.kB,Act.kB];exact gw,by rw[Act.mT,Act.mT,Act.mT];exact L.S.defers⟩ λa3 w3 hp=> ?_
   .rw[<-hR.l4,List.getElem?_tail]at hi;obtain⟨o,k1,k2,_⟩:=SM hR.c4 (i+1) ao hi;exact⟨o,by rw[Zr6];exact k1,k2⟩
   obtain⟨ρ3,S3,k1,k2,k3⟩:=hp;(refine(DS hT dI mI m).1 rest g.body y.1 f1 y.2 s1 .normal ρ3 a3 w3 _ hR.r4 hx S3 λa4 w4 hp=> ?_);have hP:=lf.trans k1 k2 k3 hp;show Q .normal a4 w4;have S2:zf nt ρ C A.1 A.2 a w2:=⟨hW2,L.S.F,gw,L.S.defers⟩
   have hE2:pg oh Xu w0 ρ A.2 w2:=⟨Mj.1.trans L.E.os,Mj.2.1.trans L.E.tape,Mj.2.2.trans L.E.output,by rw[uD];exact L.E.size,λk hk hn=>(uC k (by have:=L.late;omega)).trans (L.E.block k hk hn),λb x hb=>L.E.yX b x hb⟩
   obtain⟨ρ4,S4,l1,l2,E4⟩:∃ρ4,zf nt ρ4 C B.1 B.2 a4 w4/\(∀p:Pos,p.toNat<A.2.next.toNat->ρ4 p=ρ p)/\A.2.next.toNat<=B.2.next.toNat/\pg ρ A.2 w2 ρ4 B.2 w4:=by
     rcases hB with⟨rfl,hk⟩|hB
     .  obtain⟨S,E⟩:=S2.back hf hk hP;exact⟨ρ,S,λ_ _=>rfl,Za3 _,E⟩
     .  obtain⟨ρ4,S,l1,l2,E⟩:=hP;rw[<-hB]at S l2 E;exact⟨ρ4,⟨S.W,S.F.sub hf,S.size,S.defers⟩,l1,l2,E⟩
   have h4r:w4.heap[r]? =some (.mapIter (some (ρ b).aM) since (seen.push e.2.2) since):=(by rw[E4.block r (by rw[uD];exact hrl) L.zl,h2];exact Jw.1);refine hQ ρ4 a4 w4 ⟨S4,λp hp=>(l1 p (Zd0 hp L.k2)).trans (L.k1 p hp),Zb2 L.k2 l2,hE2.trans E4,?_,b17,bm,⟨since,?_,Za3 _⟩,λp x hp=> ?_,L.late,b18,b19⟩
   .rw[l1 Q5 L.ip.2.2];exact⟨L.ip.1,L.ip.2.1,Zd0 L.ip.2.2 l2⟩
   .rw[l1 b g1];exact h4r
   . rcases E4.yX p x hp with⟨p',x',hp',e1⟩|h
     .  rw[<-e1];exact L.zl p' x' hp'
     .  rw[uD]at h;omega
theorem aod{α:Type}{p q:α->Bool}(h:∀x,q x=true->p x=true){e:α}(hp:p e=true)(hq:q e=false):∀{l:List α},e∈l->(l.filter q).length<(l.filter p).length
 |[],h=>by simp at h
 |x ::l,hm=>by
  have hle:∀l:List α,(l.filter q).length<=(l.filter p).length:=λl=>by
    induction l with
    |nil=>simp
    |   cons y l ih=>
        have:=h y;cases hqy:q y<;>cases hpy:p y<;>simp_all<;>omega
  rcases Za8.1 hm with rfl|hm
  .simp only[List.filter_cons,hp,hq,Zh1,Zf0,Zg7,Zc6];have:=hle l;omega
  .have ih:=aod h hp hq hm;have:=h x;cases hqx:q x<;>cases CO:p x<;>simp_all<;>omega
theorem born_inj:∀{es:List (AV×AV×Nat)},(es.map (·.2.2)).Nodup->∀x∈es,∀y∈es,x.2.2=y.2.2->x=y
 |[],_,_,h,_,_,_=>by simp at h
 |e::es,hn,x,hx,y,hy,he=>by
  rw[Zd1,List.nodup_cons]at hn;rcases Za8.1 hx with h1|h1<;>rcases Za8.1 hy with h2|h2
  .rw[h1,h2]
  .subst h1;exact(hn.1 (he ▸Zc7.2 ⟨y,h2,rfl⟩)).elim
  .subst h2;exact(hn.1 (he ▸Zc7.2 ⟨x,h1,rfl⟩)).elim
  .exact born_inj hn.2 x h1 y h2 he
theorem LI.rounds(hT:dG P tt)(hc:CK none cg call)(dI:jt P C call)(mI:zh P tt C call)(hR:aqN tt nt g o0 o1 o4 um rest U8 bs)
  {X:Bool->Fr×St} {act:Nat} {b Q5:Pos} {es:List (AV×AV×Nat)} {since r:Nat} {oh:Pos->Loc} {Xu:St} {w0:World} (dN:aeq since es=true) {Q:Exit->Act->World->Prop}
  (hm:∀e∈es,(e.2.2=act->Mv cg m g (X false) (X true) e)/\(e.2.2≠act->∀f,Mv cg m g (X f) (X f) e))
  (hX:∀f,(X f).1.get (key g.t17)=some (.ptr Q5 0)/\(X f).2.heap.get b=some (.map es since)/\(X f).1.get (key g.t18)=none/\(X f).1.get (key g.t19)=none)
  (aqO:(∃e∈es,e.2.2=act)\/X false=X true)
  (hQ:∀a' w',lf nt oh C Xu w0 (X true).1 (X true).2 a' w'->Q (.exit b0) a' w'):
  ∀ (n:Nat)(seen:Array Nat)(ρ:Pos->Loc)(a:Act)(w:World),(es.filter λe=> !seen.contains e.2.2).length<n->LI C nt g (X (seen.contains act)) b Q5 es since r oh Xu w0 seen ρ a w->
    Code.rounds P (amg g o0 o1 um rest i3 i4 b0 b1) Q n a w:=by
 intro n;induction n with
 |zero=>intro seen ρ a w hn;omega
 |succ n ih=>
  intro seen ρ a w hn L;rw[rounds_succ];refine L.round (m:=m) hT hc dI mI hR dN (λpX a' S=> ?_) λe he hs=> ?_
  . have hx:X (seen.contains act)=X true:=by
        rcases aqO with⟨e,he,rfl⟩|h
        .rw[pX e he]
        . cases seen.contains act
          .exact h
          .rfl
    rw[hx]at S L;exact hQ a' w ⟨ρ,S,L.k1,L.k2,L.E⟩
  . have hp:∀y,(seen.push e.2.2).contains y=(seen.contains y||y==e.2.2):=λy=>by
        rw[Array.contains_push]
    have aW:(es.filter λx=> !(seen.push e.2.2).contains x.2.2).length<(es.filter λx=> !seen.contains x.2.2).length:=
        aod (e:=e) (λx hx=>by simp only[hp]at hx;simp at hx ⊢; exact hx.1) (by show(!seen.contains e.2.2)=true;rw[hs];rfl) (by show(!(seen.push e.2.2).contains e.2.2)=false;rw[hp];simp) he
    refine⟨X ((seen.push e.2.2).contains act),?_,(hX _).1,(hX _).2.1,(hX _).2.2.1,(hX _).2.2.2,λρ' a' w' L'=>ih _ ρ' a' w' (by omega) L'⟩;rw[hp act];by_cases ha:e.2.2=act
    .   subst ha;rw[hs];simpa using(hm e he).1 rfl
    .   have:(act==e.2.2)=false:=(by simpa using λh=>ha h.symm);rw[this,Bool.or_false];exact(hm e he).2 ha _
theorem Mt:∀(ps:List Pos)(fr:Fr)(p:Pos),p∈ps\/fr.get p=none->(clr ps fr).get p=none
 |[],_,_,h=>h.elim (λh=>by simp at h) id
 |q ::ps,fr,p,h=>Mt ps _ p (by
  by_cases hq:q=p
  .subst hq;exact .inr (T.gU _ _ _)
  . rcases h with h|h
    .   rcases Za8.1 h with h|h
        .exact(hq h.symm).elim
        .exact .inl h
    .   exact .inr (by rw[T.cC _ hq];exact h))
theorem OA{ops:Array Oper}{Q:Exit->Act->World->Prop}{l2:List Nat}:∀(l1:List Nat)(a:Act)(w:World),wpOps P ops (Exit.then (wpOps P ops Q l2) Q) l1 a w->wpOps P ops Q (l1++l2) a w
 |[],_,_,h=>h
 |i ::l1,a,w,h=>by
  rw[Zd5];unfold wpOps at h ⊢;split
  .rename_i ho;rw[ho]at h;exact OA l1 a w h
  . rename_i o ho;rw[ho]at h;simp only at h;split
    .   rename_i hw;rw[Zb6 hw]at h;refine h.imp (λh=> ?_) id;have h:=Oper.wp_mono (K':=wpOps P ops Q (l1++l2)) (λa w h=>OA l1 a w h) h;unfold Oper.wp at h ⊢;generalize (execOp a.eval o).run P w=r at h ⊢;rcases r with⟨x,w⟩|⟨x,w⟩
        .cases x<;>exact h
        .cases x<;>exact h
    .   rename_i hw;rw[Za7 hw]at h;exact OA l1 _ w h
theorem bZ.slot{ρ ρ':Pos->Loc}{st:St}{w:World}(hW:bZ ρ C st w)(bF:∀p:Pos,p.toNat<st.next.toNat->ρ' p=ρ p):bZ ρ' C ⟨st.heap,st.next.succ⟩ w:=by
 have hl:∀p x,st.heap.get p=some x->ρ' p=ρ p:=λp x hp=>bF p (hW.live p x hp).1
 refine⟨λp x hp=> ?_,λp q x y hp hq h=> ?_,λa v ha=>⟨(hW.dW a v ha).1,λp x hp=> ?_⟩,hW.whole⟩
 .obtain⟨h1,h2,h3⟩:=hW.live p x hp;rw[hl p x hp];exact⟨by rw[Pos.aF];exact Nat.lt_succ_of_lt h1,h2,h3.mono bF (by rw[Pos.aF];omega)⟩
 .rw[hl p x hp,hl q y hq]at h;exact hW.inj p q x y hp hq h
 .rw[hl p x hp];exact(hW.dW a v ha).2 p x hp
theorem qf.rng(hT:dG P tt)(hc:CK none cg call)(dI:jt P C call)(mI:zh P tt C call)(hR:aqN tt nt g o0 o1 o4 um rest U8 bs)
   {DZ:Array Oper} {l2f:List bV} {o2:Oper} {x:Operand} {ty kt et:TypeId} {i2:Nat} {bs2:List Nat} (h2:uQ tt nt DZ DZ.toList bs2=some l2f) (sx:l2f.dropLast=g.l2)
   (Mj:DZ[g.l2.length]? =some o2) (uD:DZ.size=g.l2.length+1) (hop:o2.op= .range ty x) (xC:o2.guard=none) (hd2:o2.dst=some g.t17) (hx:uP x=some g.x) (aqP:P.underlying ty=some (.map kt et))
   (QO:key g.t18∈g.ds/\key g.t19∈g.ds):qf P C nt (.seq (.region i2 DZ false) (.block b0 (.loop (amg g o0 o1 um rest i3 i4 b0 b1)))) (amf cg m g):=by
 intro fr bI st st' e ρ a w Q h hS hQ;unfold amf at h;rw[ZH none hc]at h;unfold uW at h;split at h<;>first|(cases h;done)|skip
 rename_i y hy;simp only[ahO]at h;unfold uW at h;split at h<;>first|(cases h;done)|skip
 rename_i v hv;dsimp only at h;split at h<;>first|(cases h;done)|skip
 rename_i b;simp only[CM]at h;split at h<;>first|(cases h;done)|skip
 rename_i es clock hb;split at h<;>first|(cases h;done)|skip
 rename_i dN;simp only[akR,oN,Ta]at h;apply wp_seq;apply wp_region;rw[uD,Zg4];apply OA;rw[Zl6];refine DR (nt:=nt) hT dI g.l2 0 fr y.1 st y.2 ρ a w (λi ao hi=> ?_) hy hS λa2 w2 hp=> ?_
 .rw[<-sx,List.getElem?_dropLast]at hi;(split at hi<;>first|(cases hi;done)|skip);obtain⟨o,k1,k2,_⟩:=SM h2 i ao hi;exact⟨o,by rw[Zb8];exact k1,k2⟩
 obtain⟨vM,S2,k1,k2,E2⟩:=hp;obtain⟨hbn,Xl⟩:=(Cc hx S2.F hv).CJ;obtain⟨g1,g2,es',q1,q2,q3⟩:=S2.W.live b _ hb;obtain⟨Q6,hf3⟩:∃f,f=(clr g.ds y.1).put (some (.ptr y.2.next 0)) (key g.t17):=⟨_,rfl⟩
 rw[<-hf3]at h;obtain⟨FX,CP⟩:∃s:St,s=⟨y.2.heap,y.2.next.succ⟩:=⟨_,rfl⟩
 rw[<-CP]at h;have n18:key g.t17≠key g.t18:=λe=>hR.ne.1 (by have:=congrArg Pos.toNat e;rw[ja,ja]at this;omega)
 have n19:key g.t17≠key g.t19:=λe=>hR.ne.2.1 (by have:=congrArg Pos.toNat e;rw[ja,ja]at this;omega)
 have key:∃(X:Bool->Fr×St) (act:Nat),X false=(Q6,FX)/\e= .normal/\X true=(bI,st')/\(∀e∈es,(e.2.2=act->Mv cg m g (X false) (X true) e)/\(e.2.2≠act->∀f,Mv cg m g (X f) (X f) e))/\
     (∀f,(X f).1.get (key g.t17)=some (.ptr y.2.next 0)/\(X f).2.heap.get b=some (.map es clock)/\(X f).1.get (key g.t18)=none/\(X f).1.get (key g.t19)=none)/\((∃e∈es,e.2.2=act)\/X false=X true):=by
   have hX0:Q6.get (key g.t17)=some (.ptr y.2.next 0)/\FX.heap.get b=some (.map es clock)/\Q6.get (key g.t18)=none/\Q6.get (key g.t19)=none:=by
     rw[hf3,CP,T.gU,T.cC _ n18,T.cC _ n19];exact⟨rfl,hb,Mt _ _ _ (.inl QO.1),Mt _ _ _ (.inl QO.2)⟩
   split at h
   . (rename_i ahX;simp only[H5,Zd2]at h;obtain⟨rfl,rfl,rfl⟩:=h;have hid:∀e∈es,Mv cg m g (Q6,FX) (Q6,FX) e:=λe he=>aet (by rw[List.filter_eq_nil_iff]at ahX;have:=ahX e he;simpa using this));exact⟨λ_=>(Q6,FX),0,rfl,rfl,rfl,λe he=>⟨λ_=>hid e he,λ_ _=>hid e he⟩,λ_=>hX0,.inr rfl⟩
   . (rename_i e1 ahX;(split at h<;>first|(cases h;done)|skip);rename_i f1 s1 hr1;(split at h<;>first|(cases h;done)|skip);rename_i y1 v1 Xc hv1;(split at h<;>first|(cases h;done)|skip);rename_i pX;simp only[H5,Zd2]at h;obtain⟨rfl,rfl,rfl⟩:=h;simp only[Zb1]at pX;obtain⟨⟨c1,c2⟩,c3⟩:=pX;have c1:=abL c1;have c2:=zi c2;subst c1;subst c2;have DW:e1∈es:=by have:e1∈es.filter (λe=> !Tj cg m g Q6 FX e):=(by rw[ahX];simp);exact(Zk9.1 this).1);refine⟨λf=>if f then(clr g.ds f1,s1)else(Q6,FX),e1.2.2,rfl,rfl,rfl,λe he=>⟨λhb=> ?_,λhb f=> ?_⟩,λf=> ?_,.inl ⟨e1,DW,rfl⟩⟩
     .  obtain rfl:=born_inj (aes dN).2 e he e1 DW hb;exact⟨f1,s1,hr1,aer _ _,.inr rfl⟩
     .  cases f
        . refine aet ?_;cases hi:Tj cg m g Q6 FX e
          .have:e∈es.filter (λe=> !Tj cg m g Q6 FX e):=Zk9.2 ⟨he,by rw[hi];rfl⟩;rw[ahX]at this;simp at this;exact(hb (by rw[this])).elim
          .rfl
        .refine aet ?_;have:=Zh3.1 c3 e he;simp only[Zj8]at this;exact this.resolve_left λh=>hb (Za6 h)
     .  cases f
        .exact hX0
        .exact⟨hv1,Xc,Mt _ _ _ (.inl QO.1),Mt _ _ _ (.inl QO.2)⟩
   .cases h
 obtain⟨X,act,x0,rfl,x1,hm,hX,aqO⟩:=key;show wpOps P _ _ [g.l2.length] a2 w2
 refine CN Mj xC (v:= .pointer (some ⟨w2.heap.size,0,none⟩)) (w':=w2.alloc (.mapIter (some (vM b).aM) clock #[] clock))
   (by simp[execOp,hop,Xl,run_range_map (P:=P) w2 ty kt et (vM b).aM es' clock aqP q1,Result.andThen]) ?_
 rw[hd2];show(Code.block b0 _).wp P Q _ _;apply wp_block;have hold:∀k,k<w2.heap.size->(w2.alloc (.mapIter (some (vM b).aM) clock #[] clock)).heap[k]? =w2.heap[k]? :=λk hk=>heap_alloc_old w2 _ hk
 have gw:(w2.alloc (.mapIter (some (vM b).aM) clock #[] clock)).heap.size=w2.heap.size+1:=by simp
 obtain⟨ρ3,h3,bF⟩:∃ρ3:Pos->Loc,ρ3 y.2.next=⟨w2.heap.size,0,0⟩/\∀p:Pos,p.toNat<y.2.next.toNat->ρ3 p=vM p:=
   ⟨λp=>if p=y.2.next then⟨w2.heap.size,0,0⟩else vM p,Zb6 rfl,λp hp=>Za7 λe=>by subst e;omega⟩
 have hW3:bZ ρ3 C FX (w2.alloc (.mapIter (some (vM b).aM) clock #[] clock)):=by rw[CP];exact(S2.W.slot bF).grow (by omega) hold
 have Q3:FX.next.toNat=y.2.next.toNat+1:=by rw[CP];exact Pos.aF _
 have hF3:lF ρ3 FX.next.toNat C Q6 (a2.put (some g.t17) (.pointer (some ⟨w2.heap.size,0,none⟩))).tmps:=by rw[hf3];refine lF.put (nt:=nt) (d:=some g.t17) ((S2.F.sub (aer _ _)).mono bF (by omega)) S2.size (λ_ h=>by cases h;exact hR.lt.1) ?_;have:=aC.ptr (ρ:=ρ3) (C:=C) y.2.next 0 (n:=FX.next.toNat) (by omega);rw[h3]at this;exact this
 refine wp_loop_rounds (es.length+1) (LI.rounds (m:=m) (oh:=vM) (Xu:=y.2) (w0:=w2) (r:=w2.heap.size) hT hc dI mI hR dN hm hX aqO (λa' w' hp=> ?_) (es.length+1) #[] ρ3 _ _
   (Nat.lt_succ_of_le (Zk1 ..)) ?_)
 .rw[x1]at hp;simp only[Exit.inBlock,Zh1];exact hQ a' w' (lf.trans k1 k2 E2 hp)
 . have:X ((#[]:Array Nat).contains act)=(Q6,FX):=(by simpa using x0);rw[this];refine⟨⟨hW3,hF3,by rw[Act.kB];exact S2.size,by rw[Act.mT];exact S2.defers⟩,bF,by show y.2.next.toNat<=FX.next.toNat;omega,
     ⟨rfl,rfl,rfl,by rw[gw];omega,λk hk _=>hold k hk,λp x hp=>.inl ⟨p,x,by rw[CP]at hp;exact hp,by
        rw[CP]at hp;rw[bF p (S2.W.live p x hp).1]⟩⟩,⟨by rw[h3],by rw[h3],by show _<FX.next.toNat;omega⟩,x0 ▸(hX false).1,x0 ▸(hX false).2.1,⟨clock,?_,Za3 _⟩,λp x hp=> ?_,Za3 _,x0 ▸(hX false).2.2⟩
   .rw[bF b g1];exact heap_alloc_new w2 _
   .rw[CP]at hp;obtain⟨l1,l2,_⟩:=S2.W.live p x hp;rw[bF p l1];omega
end
end
def xfn(ex:Fr->St->XR)(np:Nat)(rs:List QC)(args:List AV)(st:St):Option (AV×St):=match Nat.beq args.length np with
 |  true=>match QH args 0 .e λfr=>ex fr st with
    |some (.exit _,_,_)=>none
    |some (_,fr,st')=>match ij (λb=>Cb b st'.heap) fr rs,Nat.ble st.next.toNat st'.next.toNat with
     |some vs,true=>some (Ab vs,st')
     |_,_=>none
    |none=>none
 |false=>none
section
variable{P:Program}{tt:TT}{C:Cells}
theorem avm(hT:dG P tt){f np:Nat}{fn:Func}{c:Code}{ex:Fr->St->XR}{rs:List QC}(hf:P.funcs[f]? =some fn)(o7:(fn.name== "runtime.NumGoroutine")=false)(hb:fn.body=some c)
  (hx:qf P C fn.ntmps c ex) (hr:qY tt fn.results.toList=some rs) (hle:np<=fn.ntmps):qD P C f (xfn ex np rs) where
 mono args st v st' h:=by
  unfold xfn at h;split at h<;>first|(cases h;done)|skip
  split at h<;>first|(cases h;done)|skip
  split at h<;>first|(cases h;done)|skip
  rename_i hn;cases h;exact Zb5 hn
 runs ρ st w args v st' cq h hW yB:=by
  unfold xfn at h;split at h<;>first|(cases h;done)|skip
  rename_i hlen;have hlen:=Za6 hlen;rw[Tc]at h;split at h<;>first|(cases h;done)|skip
  rename_i e fh bE cY h1;split at h<;>first|(cases h;done)|skip
  rename_i vs DI _;simp only[H5,Zd2]at h;obtain⟨rfl,rfl⟩:=h;have dO:(callFunc f cq.toArray).run P w= .ok (.enter f cq.toArray) w:=by
   have ahH:¬fn.name= "runtime.NumGoroutine" :=(by simpa using o7);simp[callFunc,hf,ahH,hb]
  rw[dO];simp only[Reaches];refine calls_of_wp hf hb ?_;have gw:cq.length<=fn.ntmps:=by rw[<-yB.1,hlen];exact hle
  have hS:zf fn.ntmps ρ C (params 0 args .e) st { tmps:=cq.toArray++Array.replicate (fn.ntmps - cq.toArray.size) undef,defers:=[] } w:=by
   refine⟨hW,?_,?_,rfl⟩
   .    refine SN args cq 0 .e yB (λj x hx=> ?_) (λp v hp=>by rw[T.dS]at hp;cases hp);have hj:j<cq.length:=(Za2.1 hx).1;rw[Zb8,Zq8 (by simpa using hj)];simpa using hx
   .    simp;omega
  refine hx _ fh st bE e ρ _ w _ h1 hS λa' w' hp=> ?_
  obtain⟨ki,Aq,k1,k2,k3⟩:=hp;simp only[CM]at DI;obtain⟨y,Xc,hy2⟩:=Ju hT Aq.W Aq.F hr DI;cases e with
  |exit id=>exact(cY id rfl).elim
  |normal=>exact⟨Aq.defers,y,Xc,ki,hy2,k1,k2,Aq.W,k3⟩
  |ret=>exact⟨Aq.defers,y,Xc,ki,hy2,k1,k2,Aq.W,k3⟩
def idxS:List AV->St->Option (AV×St)
 |[.str a,.int .u8 c],st=>some (.int .i64 (Lib.indexByte (a.map UInt8.ofNat) c.toNat.toUInt8),st)
 |_,_=>none
def ami:List AV->St->Option (AV×St)
 |[.str a,.int .u8 c],st=>some (.int .i64 (Lib.countByte (a.map UInt8.ofNat) c.toNat.toUInt8),st)
 |_,_=>none
theorem aoe{bs:ByteArray}{a:List Nat}(h:bs.data.toList.map UInt8.toNat=a):a.map UInt8.ofNat=bs.data.toList:=by
 rw[<-h,Zi1];have:(UInt8.ofNat∘UInt8.toNat)=id:=by funext c;simp
 rw[this,Zs5]
theorem afJ{f:FuncId}{fn:Func}{s:List AV->St->Option (AV×St)}{X:List UInt8->UInt8->Int}{e:Array Value->Sem Value}(hs:∀args st,s args st=match args with
   |[.str a,.int .u8 c]=>some (.int .i64 (X (a.map UInt8.ofNat) c.toNat.toUInt8),st)
   |_=>none)
  (hr:∀(b:ByteArray)(c:Int)(w:World),(e #[.string b,.int .u8 c]).run P w= .ok (.int .i64 (X b.data.toList c.toNat.toUInt8)) w)
  (hf:P.funcs[f]? =some fn) (o7:(fn.name== "runtime.NumGoroutine")=false) (hb:fn.body.isNone=true) (hx:Extern.findNext fn=none) (he:Extern.find fn=some e):qD P C f s where
 mono args st v st' h:=by rw[hs]at h;split at h<;>cases h;exact Za3 _
 runs ρ st w args v st' cq h hW hv:=by
  rw[hs]at h;split at h<;>cases h;rename_i a c;obtain⟨x,xs,rfl,h1,h2⟩:=hv.cons_inv;obtain⟨y,ys,rfl,h3,h4⟩:=h2.cons_inv;have:=h4.kO;subst this;obtain⟨b,rfl,dY⟩:=h1.fB;have:=h3.iI;subst this;have dO:(callFunc f [Value.string b,Value.int .u8 c].toArray).run P w= .ok (.value (.int .i64 (X b.data.toList c.toNat.toUInt8))) w:=by rw[run_callFunc_extern hf o7 hb hx he];show((e #[.string b,.int .u8 c]).run P w).andThen _=_;rw[hr];rfl
  rw[dO];refine⟨ρ,?_,λ_ _=>rfl,Za3 _,hW,pg.refl _ _ _⟩;rw[aoe dY];exact .int _ _
theorem aqQ{f:FuncId}{fn:Func}(hf:P.funcs[f]? =some fn)(o7:(fn.name== "runtime.NumGoroutine")=false)(hb:fn.body.isNone=true)(hx:Extern.findNext fn=none)
  (he:Extern.find fn=some Extern.BytealgIndexByte.indexByte):qD P C f idxS:=
 afJ (X:=Lib.indexByte) (λargs st=>by unfold idxS;split<;>first|rfl|(split<;>first|rfl|simp_all)) (λb c w=>Lib.run_indexByteString b c w) hf o7 hb hx he
theorem aqR{f:FuncId}{fn:Func}(hf:P.funcs[f]? =some fn)(o7:(fn.name== "runtime.NumGoroutine")=false)(hb:fn.body.isNone=true)(hx:Extern.findNext fn=none)
  (he:Extern.find fn=some Extern.BytealgCount.count):qD P C f ami:=
 afJ (X:=λl c=>Lib.countByte l c) (λargs st=>by unfold ami;split<;>first|rfl|(split<;>first|rfl|simp_all)) (λb c w=>Lib.run_countString b c w) hf o7 hb hx he
end
def Tk:Code->List Nat
 |.region _ ops _=>ops.toList.filterMap (·.dst)
 |.seq a b=>Tk a++Tk b
 |.cond _ a b=>Tk a++Tk b
 |.block _ a=>Tk a
 |.loop a=>Tk a
 |_=>[]
def as8 (tt :TT)(nt:Nat)(ds:List Nat)(b0 b0' t19:Nat)(o2 o0 o1 o4:Oper)(l2f U8:List bV)(body:AC):Option (RG×Nat):=
 match o2.op,o0.op,o1.op,o4.op with
 |  .range ty x,.next (.tmp a0) false,.extract (.tmp a1) 0,.entry (.tmp a4)=>match o2.dst,o0.dst,o1.dst,o4.dst with
    |some t17,some t18,some c,some t20=>match o2.guard,o0.guard,o1.guard,o4.guard with
     |  none,none,none,none=>match uP x with
        |some xo=>match Nat.beq a0 t17&&Nat.beq a1 t18&&Nat.beq a4 t17&&Nat.beq c t19&&Nat.beq b0 b0'&&Nat.blt t17 nt&&Nat.blt t18 nt&&Nat.blt t19 nt&&Nat.blt t20 nt&&
            !Nat.beq t17 t18&& !Nat.beq t17 t19&& !Nat.beq t18 t19 with
         |true=>some (⟨t17,t18,t19,t20,l2f.dropLast,xo,U8.tail,body,key t18::key t19::ds.map key⟩,ty)
         |false=>none
        |_=>none
     |_,_,_,_=>none
    |_,_,_,_=>none
 |_,_,_,_=>none
def ahY (tt:TT)(nt:Nat):Code->Option (RG×Nat)
 |  .seq (.region _ DZ false) (.block b0 (.loop (.seq (.region _ ⟨[o0,o1]⟩ false) (.seq (.cond (.tmp t19) .skip (.exit b0')) (.block _ (.seq (.region _ um false) rest))))))=>
    match DZ[DZ.size - 1]?,um[0]? with
    |some o2,some o4=>match uQ tt nt DZ DZ.toList [],uQ tt nt um um.toList []with
     |  some l2f,some U8=>match v8 tt nt rest with
        |some body=>as8 tt nt (um.toList.filterMap (·.dst)++Tk rest) b0 b0' t19 o2 o0 o1 o4 l2f U8 body
        |none=>none
     |_,_=>none
    |_,_=>none
 |_=>none
section
variable{P:Program}{tt:TT}{C:Cells}{cg:tF XR}{call:aj}{nt m:Nat}
theorem qf.ahY(hT:dG P tt)(hc:CK none cg call)(dI:jt P C call)(mI:zh P tt C call){c:Code}{g:RG}{ty:Nat}(h:ahY tt nt c=some (g,ty))
  {kt et:TypeId} (aqP:P.underlying ty=some (.map kt et)):qf P C nt c (amf cg m g):=by
 unfold Go.Ai.ahY at h;split at h<;>first|(cases h;done)|skip
 rename_i i2 DZ b0 i3 o0 o1 t19 b0' b1 i4 um rest;split at h<;>first|(cases h;done)|skip
 rename_i o2 o4 Mj ho4;split at h<;>first|(cases h;done)|skip
 rename_i l2f U8 sx hl4;split at h<;>first|(cases h;done)|skip
 rename_i body amj;unfold as8 at h;split at h<;>first|(cases h;done)|skip
 rename_i ty' x a0 a1 a4 p2 p0 p1 p4;split at h<;>first|(cases h;done)|skip
 rename_i t17 t18 c t20 d2 d0 d1 d4;split at h<;>first|(cases h;done)|skip
 rename_i g2 g0 g1 g4;split at h<;>first|(cases h;done)|skip
 rename_i xo hxo;split at h<;>first|(cases h;done)|skip
 rename_i hb;simp only[H5,Zd2]at h;obtain⟨rfl,rfl⟩:=h;simp only[Zb1,Zj6,Nat.beq_eq,Zr7]at hb;obtain⟨⟨⟨⟨⟨⟨⟨⟨⟨⟨⟨rfl,rfl⟩,rfl⟩,rfl⟩,rfl⟩,l17⟩,l18⟩,l19⟩,l20⟩,n1⟩,n2⟩,n3⟩:=hb;have hs:l2f.length=DZ.size:=(xP sx).1.trans (Zi3 ..);have h0:0<DZ.size:=by have:=(Zd3.1 Mj).1;omega
 exact qf.rng hT hc dI mI (i3:=i3) (i4:=i4) (b1:=b1) ⟨⟨p0,g0,d0⟩,⟨p1,g1,d1⟩,⟨ho4,p4,g4,d4⟩,⟨l17,l18,l19,l20⟩,⟨Zf3 n1,Zf3 n2,Zf3 n3⟩,hl4,rfl,amj⟩ sx rfl
  (by rw[List.length_dropLast,hs];exact Mj) (by show DZ.size=l2f.dropLast.length+1;rw[List.length_dropLast,hs];omega) p2 g2 d2 hxo aqP ⟨by simp,by simp⟩
def Xv:Code->Bool
 |.region _ ops _=>ops.toList.any λo=>match o.op with|.range _ _=>true|_=>false
 |.seq a b=>Xv a||Xv b
 |.cond _ a b=>Xv a||Xv b
 |.block _ a=>Xv a
 |.loop a=>Xv a
 |_=>false
def spX (P:Program)(tt:TT)(cg:tF XR)(m nt:Nat):Code->Fr->St->XR
 |  .seq a b=>match Go.Ai.ahY tt nt (.seq a b)with
    |some (g,ty)=>match P.underlying ty with
     |some (.map _ _)=>amf cg m g
     |_=>λ_ _=>none
    |none=>match Xv a||Xv b with
     |true=>aqM (spX P tt cg m nt a) (spX P tt cg m nt b)
     |  false=>match v8 tt nt (.seq a b)with
        |some ac=>exK cg m ac
        |none=>λ_ _=>none
 |  c=>match v8 tt nt c with
    |some ac=>exK cg m ac
    |none=>λ_ _=>none
theorem qf.no{c:Code}:qf P C nt c (λ_ _=>none):=λ_ _ _ _ _ _ _ _ _ h=>by cases h
theorem qf.spX(hT:dG P tt)(hc:CK none cg call)(dI:jt P C call)(mI:zh P tt C call):∀c:Code,qf P C nt c (spX P tt cg m nt c):=by
 intro c;induction c with
 |seq   a b iha ihb=>
  unfold Go.Ai.spX;split
  . split
    .   rename_i h _ _ _ hu;exact .ahY hT hc dI mI h hu
    .   exact .no
  . split
    .   exact iha.seq ihb
    .   split
        .exact .ac hT hc dI mI (by assumption)
        .exact .no
 |_=>
  unfold Go.Ai.spX;split
  .exact .ac hT hc dI mI (by assumption)
  .exact .no
def ag9(P:Program)(tt:TT)(O:fc)(G:T dR)(m d:Nat)(fn:Func):List AV->St->Option (AV×St):=
 match fn.body,qY tt fn.results.toList,Nat.ble (fn.params.size+fn.nfree) fn.ntmps with
 |some c,some rs,true=>xfn (spX P tt (Oe none O G m d) m fn.ntmps c) (fn.params.size+fn.nfree) rs
 |_,_,_=>λ_ _=>none
theorem aqS(hm:P.follows .mixedOrders=true)(hT:dG P tt){O:fc}{G:T dR}(hO:wm P C O)(Xp:o8 O)(hG:GOk P tt G){f d:Nat}{fn:Func}(hf:P.funcs[f]? =some fn)
   (o7:(fn.name== "runtime.NumGoroutine")=false):qD P C f (ag9 P tt O G m d fn):=by
 have dI:=DX (C:=C) hm hT hO Xp hG m d;have hcm:=DT (G:=G) Xp m d;have key:∀c rs,fn.body=some c->qY tt fn.results.toList=some rs->Nat.ble (fn.params.size+fn.nfree) fn.ntmps=true->qD P C f (xfn (spX P tt (Oe none O G m d) m fn.ntmps c) (fn.params.size+fn.nfree) rs):=
   λc rs hb hr hle=>avm hT hf o7 hb (.spX hT (GM none O G m d) dI (S7 hm hT dI hcm) c) hr (Zb5 hle)
 unfold ag9;split
 .exact key _ _ (by assumption) (by assumption) (by assumption)
 .exact⟨λ_ _ _ _ h=>(by cases h),λ_ _ _ _ _ _ _ h=>(by cases h)⟩
end
end
noncomputable section
open Go
inductive Sh where
 |leaf
 |seq (jn:Option (List Pos)) (a b:Sh)
 |cond (a b:Sh)
 |block (a:Sh)
 |loop (j:Nat) (ins:List Pos) (outs:List (Nat×List Pos)) (a:Sh)
variable{R:Type}
abbrev LpK(R:Type):=Nat->List AV->St->Option R
abbrev Env(R:Type):=Nat->LpK R->Nat->List AV->St->Option R
def iw(l:List AV)(k:AV->List AV->Option R):Option R:=match l with
 |v::vs=>k v vs
 |[]=>none
def mO(l:List AV)(k:Option R):Option R:=match l with
 |[]=>k
 |_::_=>none
def aq(c:aj)(k:aG)(xs:List AV)(st:St)(K:AV->St->Option R):Option R:=match cJ c k xs st with
 |some (v,st')=>K v st'
 |none=>none
def qM(c:aj)(g:AV)(want:Bool)(k:aG)(xs:List AV)(st:St)(K:AV->St->Option R):Option R:=match g with
 |  .bool b=>match b==want with
    |true=>aq c k xs st K
    |false=>K .undef st
 |.tuple _=>K .undef st
 |_=>none
def eX(k:aG)(xs:List AV)(K:AV->Option R):Option R:=match k.run (λ_=>none) .h xs with
 |some (.val v)=>K v
 |_=>none
def gpr(g:AV)(want:Bool)(k:aG)(xs:List AV)(K:AV->Option R):Option R:=match g with
 |  .bool b=>match b==want with
    |true=>eX k xs K
    |false=>K .undef
 |.tuple _=>K .undef
 |_=>none
def jI(k:aG)(xs:List AV)(h:T AB)(ok:AV->Bool)(K:AV->Option R):Option R:=match k.run (λ_=>none) .h xs with
 |some (.val v)=>K v
 |  _=>match k.run (λb=>h.get b) .h xs with
    |some (.val v)=>match ok v with
     |true=>K v
     |false=>none
    |_=>none
def grd(g:AV)(want:Bool)(k:aG)(xs:List AV)(h:T AB)(ok:AV->Bool)(K:AV->Option R):Option R:=match g with
 |  .bool b=>match b==want with
    |true=>jI k xs h ok K
    |false=>K .undef
 |.tuple _=>K .undef
 |_=>none
def U9(k:aG)(xs:List AV)(st:St)(K:AV->AB->Option R):Option R:=match k.run (λ_=>none) st.next xs with
 |some (.bk v none none (some aM))=>K v aM
 |_=>none
def wnt(g:AV)(want:Bool)(A B:Option R):Option R:=match g with
 |  .bool b=>match b==want with
    |true=>A
    |false=>B
 |.tuple _=>B
 |_=>none
def cnd(v:AV)(A B:Option R):Option R:=match v with
 |.bool true=>A
 |.bool false=>B
 |_=>none
def bR(f:(List AV->St->Option R)->Option R)(k:List AV->St->Option R):Option R:=f k
def abO (c:aj):List bV->Fr->St->(Fr->St->Option R)->Option R
 |[],fr,st,K=>K fr st
 |  o::os,fr,st,K=>match gu fr o.xs with
    |some xs=>match o.guard with
     |none=>aq c o.k xs st λv st=>abO c os (eF fr o.dst v) st K
     |  some (p,want)=>match fr.get p with
        |some g=>qM c g want o.k xs st λv st=>abO c os (eF fr o.dst v) st K
        |none=>none
    |none=>none
def rV (c:aj ):List (Nat×bV)->List Rec->T AB->Fr->St->(Fr->St->Option R)->Option R
 |[],_,_,fr,st,K=>K fr st
 |  (j, o):: os,recs,base,fr,st,K=>match gu fr o.xs with
    | some xs=>match o.cls with
      | .pure=>match o.guard with
        |none=>eX o.k xs λv=>rV c os ({ idx:=j,o:=o,v:=v,c:= .pure,nx:=st.next }::recs) base (eF fr o.dst v) st K
        |some (p,want)=>match fr.get p with
         |some g=>gpr g want o.k xs λv=>rV c os ({ idx:=j,o:=o,v:=v,c:= .pure,nx:=st.next }::recs) base (eF fr o.dst v) st K
         |none=>none
      | .read=>match o.guard with
        |none=>jI o.k xs (snap o.cE base recs) (λv=>oJ o.cE o.k xs v [] recs) λv=>rV c os ({ idx:=j,o:=o,v:=v,c:= .pure,nx:=st.next }::recs) base (eF fr o.dst v) st K
        |some (p,want)=>match fr.get p with
         |some g=>grd g want o.k xs (snap o.cE base recs) (λv=>oJ o.cE o.k xs v [] recs) λv=>rV c os ({ idx:=j,o:=o,v:=v,c:= .pure,nx:=st.next }::recs) base (eF fr o.dst v) st K
         |none=>none
      | .new=>match o.guard with
        |none=>U9 o.k xs st λv aM=>rV c os ({ idx:=j,o:=o,v:=v,c:= .new st.next aM,nx:=st.next.succ }::recs) base (eF fr o.dst v) { heap:=st.heap.put (some aM) st.next,next:=st.next.succ } K
        |some (p,want)=>match fr.get p with
         |some g=>wnt g want (U9 o.k xs st λv aM=>rV c os ({ idx:=j,o:=o,v:=v,c:= .new st.next aM,nx:=st.next.succ }::recs) base (eF fr o.dst v) { heap:=st.heap.put (some aM) st.next,next:=st.next.succ } K)
             (rV c os ({ idx:=j,o:=o,v:= .undef,c:= .pure,nx:=st.next }::recs) base (eF fr o.dst .undef) st K)
         |none=>none
      | .bk=>match o.guard with
        |none=>aq c o.k xs st λv st'=>rV c os ({ idx:=j,o:=o,v:=v,c:= .bk base st'.heap,nx:=st'.next }::recs) st'.heap (eF fr o.dst v) st' K
        |some (p,want)=>match fr.get p with
         |some g=>wnt g want (aq c o.k xs st λv st'=>rV c os ({ idx:=j,o:=o,v:=v,c:= .bk base st'.heap,nx:=st'.next }::recs) st'.heap (eF fr o.dst v) st' K)
             (rV c os ({ idx:=j,o:=o,v:= .undef,c:= .pure,nx:=st.next }::recs) base (eF fr o.dst .undef) st K)
         |none=>none
    |none=>none
def Xw:List Pos->Fr->(List AV->Option R)->Option R
 |[],_,k=>k []
 |  p::ps,fr,k=>match fr.get p with
    |some v=>Xw ps fr λvs=>k (v::vs)
    |none=>none
def Xx:List Pos->List AV->Fr->(Fr->Option R)->Option R
 |[],vs,fr,k=>mO vs (k fr)
 |p::ps,vs,fr,k=>iw vs λv vs=>Xx ps vs (fr.put (some v) p) k
def ZL:List (Nat×List Pos)->Nat->List Pos
 |[],_=>[]
 |  (i,l)::r,e=>match Nat.beq i e with
    |true=>l
    |false=>ZL r e
def exOf:Nat->o6
 |0=>.normal
 |1=>.ret
 |n+2=>.exit n
def Q7(D:Fr->St->(o6->Fr->St->Option R)->Option R)(ins:List Pos)(outs:List (Nat×List Pos))(K':LpK R)(again:List AV->St->Option R)(vs:List AV)(st:St):Option R:=
 Xx ins vs .e λfr=>D fr st λex fr st=>match ex with
    |.normal=>Xw ins fr λvs=>again vs st
    |.exit i=>Xw (ZL outs (i+2)) fr λos=>K' (i+2) os st
    |.ret=>Xw (ZL outs 1) fr λos=>K' 1 os st
def knk(outs:List (Nat×List Pos))(K:o6->Fr->St->Option R):LpK R:=λe os st=>Xx (ZL outs e) os .e λfr=>K (exOf e) fr st
def den (c:aj)(F:Nat)(L:Env R):AC->Sh->Fr->St->(o6->Fr->St->Option R)->Option R
 |.skip,_,fr,st,K=>K .normal fr st
 |.region ops,_,fr,st,K=>abO c ops fr st (K .normal)
 |.draw ops,_,fr,st,K=>rV c ops [] st.heap fr st (K .normal)
 |  .seq a b,s,fr,st,K=>match s with
    | .seq none s t=>den c F L a s fr st λex fr st=>match ex with
      |.normal=>den c F L b t fr st K
      |.exit i=>K (.exit i) fr st
      |.ret=>K .ret fr st
    | .seq (some l) s t=>bR (λK'=>den c F L a s fr st λex fr st=>match ex with
      |.normal=>Xw l fr λvs=>K' vs st
      |.exit i=>K (.exit i) fr st
      |.ret=>K .ret fr st) (λvs st=>Xx l vs .e λfr=>den c F L b t fr st K)
    |_=>none
 |  .cond x a b,s,fr,st,K=>match s with
    | .cond s t=>match HQ fr x with
      |some v=>cnd v (den c F L a s fr st K) (den c F L b t fr st K)
      |none=>none
    |_=>none
 |  .block id a,s,fr,st,K=>match s with
    | .block s=>den c F L a s fr st λex fr st=>match ex with
      |.normal=>K .normal fr st
      | .exit i=>match Nat.beq i id with
        |true=>K .normal fr st
        |false=>K (.exit i) fr st
      |.ret=>K .ret fr st
    |_=>none
 |  .loop _,s,fr,st,K=>match s with
    |.loop j ins outs _=>Xw ins fr λvs=>L j (knk outs K) F vs st
    |_=>none
 |.exit id,_,fr,st,K=>K (.exit id) fr st
 |.ret,_,fr,st,K=>K .ret fr st
def D0(c:aj)(F:Nat)(L:Env R)(a:AC):Sh->Prop
 |.loop j ins outs s=>∀K',(∀vs st,L j K' 0 vs st=none)/\∀n vs st,L j K' (n+1) vs st=Q7 (den c F L a s) ins outs K' (L j K' n) vs st
 |_=>False
def AK(c:aj)(F:Nat)(L:Env R):AC->Sh->Prop
 |  .seq a b,s=>match s with
    |.seq _ s t=>AK c F L a s/\AK c F L b t
    |_=>True
 |  .cond _ a b,s=>match s with
    |.cond s t=>AK c F L a s/\AK c F L b t
    |_=>True
 |  .block _ a,s=>match s with
    |.block s=>AK c F L a s
    |_=>True
 |  .loop a,s=>match s with
    |.loop j ins outs s=>D0 c F L a (.loop j ins outs s)/\AK c F L a s
    |_=>True
 |_,_=>True
def fZ:AC->Sh->List (AC×Sh)
 |  .seq a b,s=>match s with
    |.seq _ s t=>fZ a s++fZ b t
    |_=>[]
 |  .cond _ a b,s=>match s with
    |.cond s t=>fZ a s++fZ b t
    |_=>[]
 |  .block _ a,s=>match s with
    |.block s=>fZ a s
    |_=>[]
 |  .loop a,s=>match s with
    |.loop j ins outs s=>(a,.loop j ins outs s)::fZ a s
    |_=>[]
 |_,_=>[]
theorem GO{c:aj}{F:Nat}{L:Env R}:∀(a:AC)(s:Sh),(∀x∈fZ a s,D0 c F L x.1 x.2)->AK c F L a s
 |.skip,_,_=>trivial
 |.region _,_,_=>trivial
 |.draw _,_,_=>trivial
 |.exit _,_,_=>trivial
 |.ret,_,_=>trivial
 | .seq a b,s,h=>by
   cases s<;>simp only[AK]<;>simp only[fZ,Zd7]at h;exact⟨GO a _ λx hx=>h x (.inl hx),GO b _ λx hx=>h x (.inr hx)⟩
 | .cond x a b,s,h=>by
   cases s<;>simp only[AK]<;>simp only[fZ,Zd7]at h;exact⟨GO a _ λx hx=>h x (.inl hx),GO b _ λx hx=>h x (.inr hx)⟩
 |.block id a,s,h=>by cases s<;>simp only[AK]<;>simp only[fZ]at h;exact GO a _ h
 | .loop a,s,h=>by
   cases s<;>simp only[AK]<;>simp only[fZ,Za8]at h;exact⟨h _ (.inl rfl),GO a _ λx hx=>h x (.inr hx)⟩
def Sub(a b:Fr):Prop:=∀p v,a.get p=some v->b.get p=some v
theorem Sub.refl(a:Fr):Sub a a:=λ_ _ h=>h
theorem Sub.put{a b:Fr}(h:Sub a b)(p:Pos)(v:AV):Sub (a.put (some v) p) (b.put (some v) p):=λq u hq=>by
 by_cases e:p=q
 .subst e;rw[T.gU]at hq ⊢; exact hq
 .rw[T.cC _ e]at hq ⊢; exact h _ _ hq
theorem Sub.dst{a b:Fr}(h:Sub a b)(d:Option Pos)(v:AV):Sub (eF a d v) (eF b d v):=by
 cases d with
 |none=>exact h
 |some p=>exact h.put p v
theorem Sub.ev{a b:Fr}(h:Sub a b){x:iy}{v:AV}(e:HQ a x=some v):HQ b x=some v:=by
 cases x with
 |t p=>exact h _ _ e
 |c v=>exact e
theorem Sub.evs{a b:Fr}(h:Sub a b):∀{xs:List iy}{vs:List AV},gu a xs=some vs->gu b xs=some vs
 |[],_,e=>e
 |x::xs,vs,e=>by
  unfold gu at e ⊢;cases hx:HQ a x with
  |none=>simp[hx]at e
  |some v=>
   simp only[hx]at e;cases hs:gu a xs with
   |none=>simp[hs]at e
   |some us=>simp only[hs]at e;simp only[h.ev hx,h.evs hs];exact e
theorem Tl {c:aj}:∀(os:List bV){fr gy:Fr}{st:St}{K:Fr->St->Option R}{r:R},Sub fr gy->abO c os fr st K=some r->
  ∃bI ey st',mV c os gy st=some (ey,st')/\Sub bI ey/\K bI st'=some r
 |[],fr,gy,st,K,r,hs,h=>⟨fr,gy,st,rfl,hs,h⟩
 |o::os,fr,gy,st,K,r,hs,h=>by
  unfold abO at h;cases hx:gu fr o.xs with
  |none=>simp[hx]at h
  |some xs=>
   simp only[hx]at h;have hstp:∀{st},aq c o.k xs st (λv st=>abO c os (eF fr o.dst v) st K)=some r->cN gy o.guard=some true->∃bI ey st',mV c (o::os) gy st=some (ey,st')/\Sub bI ey/\K bI st'=some r:=λ{st} h hw=>by
        unfold aq at h;cases iQ:cJ c o.k xs st with
        |none=>simp[iQ]at h
        |some p=>
         simp only[iQ]at h;obtain⟨bI,ey,st',h1,h2⟩:=Tl os (hs.dst o.dst p.1) h;exact⟨bI,ey,st',by unfold mV;simp only[hw,hs.evs hx,iQ];exact h1,h2⟩
   have Xy:∀{st},abO c os (eF fr o.dst .undef) st K=some r->cN gy o.guard=some false->∃bI ey st',mV c (o::os) gy st=some (ey,st')/\Sub bI ey/\K bI st'=some r:=λ{st} h hw=>by
        obtain⟨bI,ey,st',h1,h2⟩:=Tl os (hs.dst o.dst .undef) h;exact⟨bI,ey,st',by unfold mV;simp only[hw];exact h1,h2⟩
   cases hg:o.guard with
   |none=>simp only[hg]at h;exact hstp h (by rw[hg];rfl)
   |    some pw=>
        obtain⟨p,want⟩:=pw;simp only[hg]at h;cases hp:fr.get p with
        |none=>simp[hp]at h
        |some g=>
         simp only[hp]at h;have CO:=hs _ _ hp;unfold qM at h;split at h
         .  rename_i b;split at h
            .rename_i hb;exact hstp h (by rw[hg];simp[cN,CO,hb])
            .rename_i hb;exact Xy h (by rw[hg];simp[cN,CO,hb])
         .  exact Xy h (by rw[hg];simp[cN,CO])
         .  cases h
theorem aa1 {c:aj}:∀(os:List (Nat×bV))(recs:List Rec)(base:T AB){fr gy:Fr}{st:St}{K:Fr->St->Option R}{r:R},Sub fr gy->rV c os recs base fr st K=some r->
  ∃bI ey st',eD c os recs base gy st=some (ey,st')/\Sub bI ey/\K bI st'=some r
 |[],_,_,fr,gy,st,K,r,hs,h=>⟨fr,gy,st,rfl,hs,h⟩
 |(j,   o)::  os,recs,base,fr,gy,st,K,r,hs,h=>by
  have ih:=λrecs base {fr gy:Fr}{st:St}{K:Fr->St->Option R}{r:R}=>aa1 (c:=c) os recs base (fr:=fr) (gy:=gy) (st:=st) (K:=K) (r:=r)
  unfold rV at h;cases hx:gu fr o.xs with
  |none=>simp[hx]at h
  | some xs   =>
    simp only[hx]at h;have hxx:=hs.evs hx;have Xy:∀{st},rV c os ({ idx:=j,o:=o,v:= .undef,c:= .pure,nx:=st.next }::recs) base (eF fr o.dst .undef) st K=some r->cN gy o.guard=some false->∃bI ey st',eD c ((j,o)::os) recs base gy st=some (ey,st')/\Sub bI ey/\K bI st'=some r:=λ{st} h hw=>by
        obtain⟨bI,ey,st',h1,h2⟩:=ih _ _ (hs.dst o.dst .undef) h;exact⟨bI,ey,st',by unfold eD;simp only[hw];exact h1,h2⟩
    cases hc:o.cls with
    |   pure=>
        simp only[hc]at h;have Xz:eX o.k xs (λv=>rV c os ({ idx:=j,o:=o,v:=v,c:= .pure,nx:=st.next }::recs) base (eF fr o.dst v) st K)=some r->cN gy o.guard=some true->∃bI ey st',eD c ((j,o)::os) recs base gy st=some (ey,st')/\Sub bI ey/\K bI st'=some r:=λh hw=>by
         unfold eX at h;split at h
         .  rename_i v hv;obtain⟨bI,ey,st',h1,h2⟩:=ih _ _ (hs.dst o.dst v) h;exact⟨bI,ey,st',by unfold eD;simp only[hw,hxx,hc,hv];exact h1,h2⟩
         .  cases h
        cases hg:o.guard with
        |none=>simp only[hg]at h;exact Xz h (by rw[hg];rfl)
        |some pw=>
         obtain⟨p,want⟩:=pw;simp only[hg]at h;cases hp:fr.get p with
         |none=>simp[hp]at h
         |  some g=>
            simp only[hp]at h;have CO:=hs _ _ hp;unfold gpr at h;split at h
            . split at h
              .rename_i hb;exact Xz h (by rw[hg];simp[cN,CO,hb])
              .rename_i hb;exact Xy h (by rw[hg];simp[cN,CO,hb])
            .exact Xy h (by rw[hg];simp[cN,CO])
            .cases h
    |   read=>
        simp only[hc]at h;have Xz :jI o.k xs (snap o.cE base recs) (λv=>oJ o.cE o.k xs v [] recs) (λv=>rV c os ({ idx:=j,o:=o,v:=v,c:= .pure,nx:=st.next }::recs) base (eF fr o.dst v) st K)=some r->cN gy o.guard=some true->∃bI ey st',eD c ((j,o)::os) recs base gy st=some (ey,st')/\Sub bI ey/\K bI st'=some r:=λh hw=>by
         unfold jI at h;split at h
         .  rename_i v hv;obtain⟨bI,ey,st',h1,h2⟩:=ih _ _ (hs.dst o.dst v) h;exact⟨bI,ey,st',by unfold eD;simp only[hw,hxx,hc,hv];exact h1,h2⟩
         .  rename_i od;split at h
            . rename_i v hv;split at h
              . rename_i cH;obtain⟨bI,ey,st',h1,h2⟩:=ih _ _ (hs.dst o.dst v) h;refine⟨bI,ey,st',?_,h2⟩;unfold eD;simp only[hw,hxx,hc];cases hr:o.k.run (λ_=>none) .h xs with
                |none=>simp only[hv,cH];exact h1
                |some x=>cases x with
                 |val u=>exact absurd hr (od u)
                 |bk v d e n=>simp only[hv,cH];exact h1
                 |call f xs=>simp only[hv,cH];exact h1
              .cases h
            .cases h
        cases hg:o.guard with
        |none=>simp only[hg]at h;exact Xz h (by rw[hg];rfl)
        |some pw=>
         obtain⟨p,want⟩:=pw;simp only[hg]at h;cases hp:fr.get p with
         |none=>simp[hp]at h
         |  some g=>
            simp only[hp]at h;have CO:=hs _ _ hp;unfold grd at h;split at h
            . split at h
              .rename_i hb;exact Xz h (by rw[hg];simp[cN,CO,hb])
              .rename_i hb;exact Xy h (by rw[hg];simp[cN,CO,hb])
            .exact Xy h (by rw[hg];simp[cN,CO])
            .cases h
    |   new =>
        simp only[hc]at h;have Xz:U9 o.k xs st (λv aM=>rV c os ({ idx:=j,o:=o,v:=v,c:= .new st.next aM,nx:=st.next.succ }::recs) base (eF fr o.dst v) { heap:=st.heap.put (some aM) st.next,next:=st.next.succ } K)=some r->cN gy o.guard=some true->∃bI ey st',eD c ((j,o)::os) recs base gy st=some (ey,st')/\Sub bI ey/\K bI st'=some r:=λh hw=>by
         unfold U9 at h;split at h
         .  rename_i v aM hv;obtain⟨bI,ey,st',h1,h2⟩:=ih _ _ (hs.dst o.dst v) h;exact⟨bI,ey,st',by unfold eD;simp only[hw,hxx,hc,hv];exact h1,h2⟩
         .  cases h
        cases hg:o.guard with
        |none=>simp only[hg]at h;exact Xz h (by rw[hg];rfl)
        |some pw=>
         obtain⟨p,want⟩:=pw;simp only[hg]at h;cases hp:fr.get p with
         |none=>simp[hp]at h
         |  some g=>
            simp only[hp]at h;have CO:=hs _ _ hp;unfold wnt at h;split at h
            . split at h
              .rename_i hb;exact Xz h (by rw[hg];simp[cN,CO,hb])
              .rename_i hb;exact Xy h (by rw[hg];simp[cN,CO,hb])
            .exact Xy h (by rw[hg];simp[cN,CO])
            .cases h
    |   bk=>
        simp only[hc]at h;have Xz:aq c o.k xs st (λv st'=>rV c os ({ idx:=j,o:=o,v:=v,c:= .bk base st'.heap,nx:=st'.next }::recs) st'.heap (eF fr o.dst v) st' K)=some r->cN gy o.guard=some true->∃bI ey st',eD c ((j,o)::os) recs base gy st=some (ey,st')/\Sub bI ey/\K bI st'=some r:=λh hw=>by
         unfold aq at h;cases iQ:cJ c o.k xs st with
         |none=>simp[iQ]at h
         |  some p=>
            simp only[iQ]at h;obtain⟨bI,ey,st',h1,h2⟩:=ih _ _ (hs.dst o.dst p.1) h;exact⟨bI,ey,st',by unfold eD;simp only[hw,hxx,hc,iQ];exact h1,h2⟩
        cases hg:o.guard with
        |none=>simp only[hg]at h;exact Xz h (by rw[hg];rfl)
        |some pw=>
         obtain⟨p,want⟩:=pw;simp only[hg]at h;cases hp:fr.get p with
         |none=>simp[hp]at h
         |  some g=>
            simp only[hp]at h;have CO:=hs _ _ hp;unfold wnt at h;split at h
            . split at h
              .rename_i hb;exact Xz h (by rw[hg];simp[cN,CO,hb])
              .rename_i hb;exact Xy h (by rw[hg];simp[cN,CO,hb])
            .exact Xy h (by rw[hg];simp[cN,CO])
            .cases h
def Has:List Pos->List AV->Fr->Prop
 |[],[],_=>True
 |p::ps,v::vs,fr=>fr.get p=some v/\Has ps vs fr
 |_,_,_=>False
theorem Has.sub{a b:Fr}(hs:Sub a b):∀{ps:List Pos}{vs:List AV},Has ps vs a->Has ps vs b
 |[],[],_=>trivial
 |[],_::_,h=>h
 |_::_,[],h=>h
 |_::_,_::_,h=>⟨hs _ _ h.1,Has.sub hs h.2⟩
theorem CQ:∀{ps:List Pos}{fr:Fr}{k:List AV->Option R}{r:R},Xw ps fr k=some r->∃vs,Has ps vs fr/\k vs=some r
 |[],_,_,_,h=>⟨[],trivial,h⟩
 |p::ps,fr,k,r,h=>by
  unfold Xw at h;cases hp:fr.get p with
  |none=>simp[hp]at h
  |some v=>
   simp only[hp]at h;obtain⟨vs,h1,h2⟩:=CQ h;exact⟨v::vs,⟨hp,h1⟩,h2⟩
theorem H6:∀{ps:List Pos}{vs:List AV}{fr gy:Fr}{k:Fr->Option R}{r:R},Xx ps vs fr k=some r->Has ps vs gy->Sub fr gy->∃bI,Sub bI gy/\k bI=some r
 |[],vs,fr,gy,k,r,h,_,hs=>by
  unfold Xx mO at h;split at h
  .exact⟨fr,hs,h⟩
  .cases h
 |p::ps,[],fr,gy,k,r,h,hh,hs=>by simp[Xx,iw]at h
 |p::ps,v::vs,fr,gy,k,r,h,hh,hs=>by
  unfold Xx iw at h;refine H6 h hh.2 λq u hq=> ?_
  by_cases e:p=q
  .subst e;rw[T.gU]at hq;cases hq;exact hh.1
  .rw[T.cC _ e]at hq;exact hs _ _ hq
theorem LR{c:aj}{n m:Nat}(h:n<=m){a:AC}{fr:Fr}{st:St}{r:o6×Fr×St}(e:exec c n a fr st=some r):exec c m a fr st=some r:=ZK (LeC.refl c) n m h _ _ _ _ e
theorem tK{c:aj}{F:Nat}{L:Env R}:∀(a:AC)(s:Sh),AK c F L a s->∀{fr gy:Fr}{st:St}{K:o6->Fr->St->Option R}{r:R},Sub fr gy->den c F L a s fr st K=some r->
   ∃n ex bI ey st',exec c n a gy st=some (ex,ey,st')/\Sub bI ey/\K ex bI st'=some r
 |.skip,s,_,fr,gy,st,K,r,hs,h=>⟨1,.normal,fr,gy,st,rfl,hs,by simpa [den]using h⟩
 |.exit id,s,_,fr,gy,st,K,r,hs,h=>⟨1,.exit id,fr,gy,st,rfl,hs,by simpa [den]using h⟩
 |.ret,s,_,fr,gy,st,K,r,hs,h=>⟨1,.ret,fr,gy,st,rfl,hs,by simpa [den]using h⟩
 | .region ops,s,_,fr,gy,st,K,r,hs,h=>by
   simp only[den]at h;obtain⟨bI,ey,st',h1,h2,h3⟩:=Tl ops hs h;exact⟨1,.normal,bI,ey,st',by simp only[exec,bD,h1],h2,h3⟩
 | .draw ops,s,_,fr,gy,st,K,r,hs,h=>by
   simp only[den]at h;obtain⟨bI,ey,st',h1,h2,h3⟩:=aa1 ops _ _ hs h;exact⟨1,.normal,bI,ey,st',by simp only[exec,bD,h1],h2,h3⟩
 | .seq a b,s,cH,fr,gy,st,K,r,hs,h=>by
   (cases s<;>simp only[den]at h<;>first|(cases h;done)|skip);rename_i jn s t;simp only[AK]at cH;cases jn with
   |none=>
    simp only at h;obtain⟨n,ex,fh,xX,bE,h1,h2,h3⟩:=tK a s cH.1 hs h;cases ex with
    |   normal=>
        obtain⟨m,ex,U5,ahZ,Bj,k1,k2,k3⟩:=tK b t cH.2 h2 h3;exact⟨max n m+1,ex,U5,ahZ,Bj,by simp only[exec,bD,LR (Zj9 n m) h1];exact LR (Zj0 n m) k1,k2,k3⟩
    |exit i=>exact⟨n+1,.exit i,fh,xX,bE,by simp only[exec,bD,h1],h2,h3⟩
    |ret=>exact⟨n+1,.ret,fh,xX,bE,by simp only[exec,bD,h1],h2,h3⟩
   |some l=>
    simp only[bR]at h;obtain⟨n,ex,fh,xX,bE,h1,h2,h3⟩:=tK a s cH.1 hs h;cases ex with
    |   normal=>
        obtain⟨vs,g1,g2⟩:=CQ h3;obtain⟨bI,g3,g4⟩:=H6 g2 (Has.sub h2 g1) (λp v hp=>by rw[T.dS]at hp;cases hp);obtain⟨m,ex,U5,ahZ,Bj,k1,k2,k3⟩:=tK b t cH.2 g3 g4;exact⟨max n m+1,ex,U5,ahZ,Bj,by simp only[exec,bD,LR (Zj9 n m) h1];exact LR (Zj0 n m) k1,k2,k3⟩
    |exit i=>exact⟨n+1,.exit i,fh,xX,bE,by simp only[exec,bD,h1],h2,h3⟩
    |ret=>exact⟨n+1,.ret,fh,xX,bE,by simp only[exec,bD,h1],h2,h3⟩
 | .cond x a b,s,cH,fr,gy,st,K,r,hs,h=>by
   (cases s<;>simp only[den]at h<;>first|(cases h;done)|skip);simp only[AK]at cH;cases hx:HQ fr x with
   |none=>simp[hx]at h
   |some v=>
    simp only[hx]at h;unfold cnd at h;split at h
    .   obtain⟨n,ex,fh,xX,bE,h1,h2,h3⟩:=tK a _ cH.1 hs h;exact⟨n+1,ex,fh,xX,bE,by simp only[exec,bD,hs.ev hx];exact h1,h2,h3⟩
    .   obtain⟨n,ex,fh,xX,bE,h1,h2,h3⟩:=tK b _ cH.2 hs h;exact⟨n+1,ex,fh,xX,bE,by simp only[exec,bD,hs.ev hx];exact h1,h2,h3⟩
    .   cases h
 | .block id a,s,cH,fr,gy,st,K,r,hs,h=>by
   (cases s<;>simp only[den]at h<;>first|(cases h;done)|skip);simp only[AK]at cH;obtain⟨n,ex,fh,xX,bE,h1,h2,h3⟩:=tK a _ cH hs h;cases ex with
   |normal=>exact⟨n+1,.normal,fh,xX,bE,by simp only[exec,bD,h1],h2,h3⟩
   |ret=>exact⟨n+1,.ret,fh,xX,bE,by simp only[exec,bD,h1],h2,h3⟩
   |exit i=>
    simp only at h3;cases hb:Nat.beq i id with
    |true=>simp only[hb]at h3;exact⟨n+1,.normal,fh,xX,bE,by simp only[exec,bD,h1,hb],h2,h3⟩
    |false=>simp only[hb]at h3;exact⟨n+1,.exit i,fh,xX,bE,by simp only[exec,bD,h1,hb],h2,h3⟩
 | .loop a,s,cH,fr,gy,st,K,r,hs,h=>by
   (cases s<;>simp only[den]at h<;>first|(cases h;done)|skip);rename_i j ins outs s;simp only[AK,D0]at cH;obtain⟨awq,cH⟩:=cH;obtain⟨vs,g1,g2⟩:=CQ h;obtain⟨hz,hsu⟩:=awq (knk outs K)
   have main:∀(n:Nat)(vs:List AV)(st:St)(gy:Fr),Has ins vs gy->L j (knk outs K) n vs st=some r->
        ∃m ex bI ey st',exec c m (.loop a) gy st=some (ex,ey,st')/\Sub bI ey/\K ex bI st'=some r:=by
    intro n;induction n with
    |zero=>intro vs st gy _ h;rw[hz]at h;cases h
    |   succ n ihn=>
        intro vs st gy hh h;rw[hsu]at h;unfold Q7 at h;obtain⟨dB,q1,q2⟩:=H6 h hh (λp v hp=>by rw[T.dS]at hp;cases hp);obtain⟨m,ex,fh,xX,bE,h1,h2,h3⟩:=tK a s cH q1 q2;cases ex with
        |normal=>
         obtain⟨us,p1,p2⟩:=CQ h3;obtain⟨m',ex,U5,ahZ,Bj,k1,k2,k3⟩:=ihn us bE xX (Has.sub h2 p1) p2;exact⟨max m m'+1,ex,U5,ahZ,Bj,by simp only[exec,bD,LR (Zj9 m m') h1];exact LR (Zj0 m m') k1,k2,k3⟩
        |exit i=>
         obtain⟨os,p1,p2⟩:=CQ h3;obtain⟨U5,p3,p4⟩:=H6 p2 (Has.sub h2 p1) (λp v hp=>by rw[T.dS]at hp;cases hp);exact⟨m+1,.exit i,U5,xX,bE,by simp only[exec,bD,h1],p3,p4⟩
        |ret=>
         obtain⟨os,p1,p2⟩:=CQ h3;obtain⟨U5,p3,p4⟩:=H6 p2 (Has.sub h2 p1) (λp v hp=>by rw[T.dS]at hp;cases hp);exact⟨m+1,.ret,U5,xX,bE,by simp only[exec,bD,h1],p3,p4⟩
   exact main F vs st gy (Has.sub hs g1) g2
def abP:(H:Pos->Option AB)->Fr->List QC->(List AV->Option R)->Option R
 |_,_,[],k=>k []
 |  H,fr,.tmp p::rs,k=>match fr.get p with
    |some v=>abP H fr rs λvs=>k (v::vs)
    |none=>none
 |  H,fr,.cell p n::rs,k=>match fr.get p with
    |some q=>match (aG.load n).run H .h [q]with
     |some (.val v)=>abP H fr rs λvs=>k (v::vs)
     |_=>none
    |none=>none
def ldr(n:Option Nat)(q:AV)(st:St)(K:AV->Option R):Option R:=match (aG.load n).run (λb=>st.heap.get b) .h [q]with
 |some (.val v)=>K v
 |_=>none
theorem OB{H:Pos->Option AB}{fr gy:Fr}(hs:Sub fr gy):∀{rs:List QC}{k:List AV->Option R}{r:R},abP H fr rs k=some r->∃vs,ij H gy rs=some vs/\k vs=some r
 |[],k,r,h=>⟨[],rfl,h⟩
 | .tmp p::rs,k,r,h=>by
   unfold abP at h;cases hp:fr.get p with
   |none=>simp[hp]at h
   |some v=>
    simp only[hp]at h;obtain⟨vs,h1,h2⟩:=OB hs h;exact⟨v::vs,by unfold ij;simp only[hs _ _ hp,h1],h2⟩
 | .cell p n::rs,k,r,h=>by
   unfold abP at h;cases hp:fr.get p with
   |none=>simp[hp]at h
   |some q=>
    simp only[hp]at h;split at h
    .   rename_i v hv;obtain⟨vs,h1,h2⟩:=OB hs h;exact⟨v::vs,by unfold ij;simp only[hs _ _ hp,hv,h1],h2⟩
    .   cases h
def Jy(c:aj)(F:Nat)(L:Env (AV×St))(A:dR)(s:Sh)(args:List AV)(st:St):Option (AV×St):=
 match Nat.beq args.length A.nparams with
 |  true=>den c F L A.code s (params 0 args .e) st λex fr st=>match ex with
    |.normal=>abP (λb=>st.heap.get b) fr A.results λvs=>some (Ab vs,st)
    |.ret=>abP (λb=>st.heap.get b) fr A.results λvs=>some (Ab vs,st)
    |.exit _=>none
 |false=>none
theorem aqT{O:fc}{G:T dR}{F:Nat}{L:Env (AV×St)}{f:FuncId}{A:dR}{s:Sh}{args:List AV}{st:St}{r:AV×St}(ho:O f=none)(hF:G.get (key f)=some A)
  (hL:∀x∈fZ A.code s,D0 (run O G) F L x.1 x.2) (h:Jy (run O G) F L A s args st=some r):run O G f args st=some (tidy st r):=by
 unfold Jy at h;split at h<;>first|(cases h;done)|skip
 rename_i hlen;obtain⟨n,ex,bI,ey,st',h1,h2,h3⟩:=tK A.code s (GO _ _ hL) (Sub.refl _) h;refine aqL (n:=n) ho hF ?_;unfold yA;simp only[hlen,h1];cases ex with
 |normal=>
  obtain⟨vs,k1,k2⟩:=OB h2 h3;simp only[k1];exact k2
 |ret=>
  obtain⟨vs,k1,k2⟩:=OB h2 h3;simp only[k1];exact k2
 |exit i=>cases h3
def ah(st:St)(b:AB):St:={ heap:=st.heap.put (some b) st.next,next:=st.next.succ }
def aha{R:Type}:List (Nat×(LpK R->Nat->List AV->St->Option R))->Env R
 |[]=>λ_ _ _ _ _=>none
 |  (i,g)::l=>λj K n=>match Nat.beq i j with
    |true=>g K n
    |false=>aha l j K n
def iK(A:dR)(s:Sh)(i:Nat):AC×Sh:=(fZ A.code s).getD i (.skip,.leaf)
theorem aqU{R:Type}{c:aj}{F:Nat}{L:Env R}{A:dR}{s:Sh}(n:Nat)(hn:Nat.beq (fZ A.code s).length n=true)(h:∀i,i<n->D0 c F L (iK A s i).1 (iK A s i).2):
  ∀x∈fZ A.code s,D0 c F L x.1 x.2:=by
 intro x hx;obtain⟨i,hi,he⟩:=Zg0.1 hx;have hn:=Za6 hn;have:=h i (by omega);unfold iK at this;rw[Zb3,H0 hi]at this;simp only[Ze8,he]at this;exact this
def aeu:Sh->Bool
 |.loop _ _ _ _=>true
 |_=>false
def lpJ:Sh->Nat
 |.loop j _ _ _=>j
 |_=>0
def lpI:Sh->List Pos
 |.loop _ i _ _=>i
 |_=>[]
def lpO:Sh->List (Nat×List Pos)
 |.loop _ _ o _=>o
 |_=>[]
def lpB:Sh->Sh
 |.loop _ _ _ s=>s
 |_=>.leaf
theorem cW{R:Type}{c:aj}{F:Nat}{L:Env R}{A:dR}{sh:Sh}{i:Nat}(j:Nat)(hs:(aeu (iK A sh i).2&&Nat.beq (lpJ (iK A sh i).2) j)=true)(h0:∀K' vs st,L j K' 0 vs st=none)
  (h1:∀K' n vs st,L j K' (n+1) vs st=Q7 (den c F L (iK A sh i).1 (lpB (iK A sh i).2)) (lpI (iK A sh i).2) (lpO (iK A sh i).2) K' (L j K' n) vs st):D0 c F L (iK A sh i).1 (iK A sh i).2:=by
 generalize (iK A sh i).1=a at*
 generalize (iK A sh i).2=t at*
 cases t with
 |loop j' ins outs s=>
  simp only[aeu,lpJ,Zg9]at hs;obtain rfl:=Za6 hs;exact λK'=>⟨h0 K',h1 K'⟩
 |_=>simp[aeu]at hs
end
end Go.Ai
section
namespace Go.Ai
open Go
theorem dL(k:IntKind):L9 k k=true:=by cases k<;>rfl
theorem nM(a b:Int):BP a b=decide (a=b):=by rw[oM];rfl
theorem gY(a b:List Nat):jY a b=decide (a=b):=by rw[Zm0,kZ];simp
theorem wrap64{x:Int}(h1: -9223372036854775808<=x)(h2:x<=9223372036854775807):ax .i64 x=x:=by
 unfold ax loI hiI;simp only;split
 . split
   .rfl
   .contradiction
 .contradiction
theorem HN{x:Int}(h1:0<=x)(h2:x<=255):ax .u8 x=x:=by
 unfold ax loI hiI;simp only;split
 . split
   .rfl
   .contradiction
 .contradiction
theorem jJ(k:IntKind)(n:Nat):AI (.int k (n:Int))=some n:=id rfl
theorem cU(a b:Nat):Nat.ble a b=decide (a<=b):=by apply Zm0.2;simp
theorem Lt(a b:Nat):Nat.blt a b=decide (a<b):=by apply Zm0.2;simp[Nat.blt,Nat.ble_eq];omega
theorem cO(a b:Nat):Nat.beq a b=decide (a=b):=by apply Zm0.2;simp
def zm{R:Type}(o:Option AV)(k:AV->Option R):Option R:=match o with
 |some v=>k v
 |none=>none
def Jz{R:Type}(o:Option (List AV))(k:List AV->Option R):Option R:=match o with
 |some v=>k v
 |none=>none
def abQ{R:Type}(o:Option (AV×St))(k:AV->St->Option R):Option R:=match o with
 |some (v,st)=>k v st
 |none=>none
section
variable{R:Type}(c:aj)(K:AV->St->Option R)(K1:AV->Option R)(A B:Option R)
@[simp] theorem aR(v:AV)(k:AV->Option R):zm (some v) k=k v:=id rfl
@[simp] theorem fu(v:List AV)(k:List AV->Option R):Jz (some v) k=k v:=id rfl
@[simp] theorem bM(v:AV)(st:St)(k:AV->St->Option R):abQ (some (v,st)) k=k v st:=id rfl
@[simp] theorem dH:cnd (.bool true) A B=A:=id rfl
@[simp] theorem cV:cnd (.bool false) A B=B:=id rfl
@[simp] theorem aH(v:AV)(vs:List AV)(k:AV->List AV->Option R):iw (v::vs) k=k v vs:=id rfl
@[simp] theorem bg(k:Option R):mO [] k=k:=id rfl
theorem jK(f:(List AV->St->Option R)->Option R)(k:List AV->St->Option R):bR f k=f k:=id rfl
@[simp] theorem fO(b:Bool)(k:aG)(xs:List AV)(st:St):qM c (.bool b) b k xs st K=aq c k xs st K:=by cases b<;>exact id rfl
@[simp] theorem Q8(k:aG)(xs:List AV)(st:St):qM c (.bool true) false k xs st K=K .undef st:=id rfl
@[simp] theorem adb(k:aG)(xs:List AV)(st:St):qM c (.bool false) true k xs st K=K .undef st:=id rfl
@[simp] theorem ade(b:Bool)(k:aG)(xs:List AV)(st:St):qM c .undef b k xs st K=K .undef st:=id rfl
@[simp] theorem aev(b:Bool)(k:aG)(xs:List AV):gpr (.bool b) b k xs K1=eX k xs K1:=by cases b<;>exact id rfl
@[simp] theorem gpr_tf(k:aG)(xs:List AV):gpr (.bool true) false k xs K1=K1 .undef:=id rfl
@[simp] theorem gpr_ft(k:aG)(xs:List AV):gpr (.bool false) true k xs K1=K1 .undef:=id rfl
@[simp] theorem gpr_un(b:Bool)(k:aG)(xs:List AV):gpr .undef b k xs K1=K1 .undef:=id rfl
@[simp] theorem akS(b:Bool)(k:aG)(xs:List AV)(h:T AB)(ok:AV->Bool):grd (.bool b) b k xs h ok K1=jI k xs h ok K1:=by cases b<;>exact id rfl
@[simp] theorem grd_tf(k:aG)(xs:List AV)(h:T AB)(ok:AV->Bool):grd (.bool true) false k xs h ok K1=K1 .undef:=id rfl
@[simp] theorem grd_ft(k:aG)(xs:List AV)(h:T AB)(ok:AV->Bool):grd (.bool false) true k xs h ok K1=K1 .undef:=id rfl
@[simp] theorem grd_un(b:Bool)(k:aG)(xs:List AV)(h:T AB)(ok:AV->Bool):grd .undef b k xs h ok K1=K1 .undef:=id rfl
@[simp] theorem axe(b:Bool):wnt (.bool b) b A B=A:=by cases b<;>exact id rfl
@[simp] theorem wnt_tf:wnt (.bool true) false A B=B:=id rfl
@[simp] theorem wnt_ft:wnt (.bool false) true A B=B:=id rfl
@[simp] theorem wnt_un(b:Bool):wnt .undef b A B=B:=id rfl
theorem Mu{k:aG}{xs:List AV}{o:Option AV}(h:∀H n,k.run H n xs=o.map .val)(st:St):aq c k xs st K=zm o λv=>K v st:=by unfold aq cJ;rw[h];cases o<;>rfl
theorem XA{k:aG}{xs:List AV}{o:Option AV}(h:∀H n,k.run H n xs=o.map .val):eX k xs K1=zm o K1:=by unfold eX;rw[h];cases o<;>rfl
theorem aV{k:aG}{xs:List AV}{v:AV}(h:∀H n,k.run H n xs=some (.val v))(st:St):aq c k xs st K=K v st:=by
 unfold aq cJ;rw[h]
theorem dD{k:aG}{xs:List AV}{v:AV}(h:∀H n,k.run H n xs=some (.val v)):eX k xs K1=K1 v:=by
 unfold eX;rw[h]
theorem bX(f:FuncId)(l:List AV)(st:St):aq c (.callF f) l st K=abQ (c f l st) K:=by unfold aq cJ;show(match c f l st with|some (v,st')=>K v st'|none=>none)=_;cases c f l st<;>rfl
theorem fP(f:FuncId)(l u v:List AV)(st:St):aq c .callV (.func f u v::l) st K=abQ (c f (u++(l++v)) st) K:=by unfold aq cJ;show(match c f (u++(l++v)) st with|some (v,st')=>K v st'|none=>none)=_;cases c f (u++(l++v)) st<;>rfl
attribute [simp] bX fP
end
def cellsOf:Option AB->Option (List AV)
 |some (.cells cs _)=>some cs
 |_=>none
@[simp] theorem aD(cs:List AV)(f:Nat):cellsOf (some (.cells cs f))=some cs:=id rfl
def ro(es:Nat)(z:Bool)(rs:List (List AV)):AV:=match z,rs with
 |true,[]=>.af
 |_,rs=>.fl rs es
theorem aew{es:Nat}{z:Bool}{rs:List (List AV)}(h:rs≠[]):ro es z rs= .fl rs es:=by
 unfold ro;split
 .exact absurd rfl h
 .rfl
theorem run_move(H:Pos->Option AB)(n:Pos)(x:AV):aG.run H n .move [x]=some (.val x):=rfl
@[simp] theorem av{R:Type}(c:aj)(K:AV->St->Option R)(st:St)(x:AV):aq c .move [x] st K=K x st:=aV c K (λH n=>run_move H n x) st
@[simp] theorem cX{R:Type}(K:AV->Option R)(x:AV):eX .move [x] K=K x:=dD K (λH n=>run_move H n x)
theorem adf(H:Pos->Option AB)(n:Pos)(x y:AV):aG.run H n .pick [.bool true,x,y]=some (.val x):=rfl
@[simp] theorem tL{R:Type}(c:aj)(K:AV->St->Option R)(st:St)(x y:AV):aq c .pick [.bool true,x,y] st K=K x st:=aV c K (λH n=>adf H n x y) st
@[simp] theorem Tm{R:Type}(K:AV->Option R)(x y:AV):eX .pick [.bool true,x,y] K=K x:=dD K (λH n=>adf H n x y)
theorem adg(H:Pos->Option AB)(n:Pos)(x y:AV):aG.run H n .pick [.bool false,x,y]=some (.val y):=rfl
@[simp] theorem gC{R:Type}(c:aj)(K:AV->St->Option R)(st:St)(x y:AV):aq c .pick [.bool false,x,y] st K=K y st:=aV c K (λH n=>adg H n x y) st
@[simp] theorem awr{R:Type}(K:AV->Option R)(x y:AV):eX .pick [.bool false,x,y] K=K y:=dD K (λH n=>adg H n x y)
theorem akT(H:Pos->Option AB)(n:Pos)(p:Bool):aG.run H n (.un .not) [.bool p]=some (.val (.bool (!p))):=rfl
@[simp] theorem pP{R:Type}(c:aj)(K:AV->St->Option R)(st:St)(p:Bool):aq c (.un .not) [.bool p] st K=K (.bool (!p)) st:=aV c K (λH n=>akT H n p) st
@[simp] theorem axf{R:Type}(K:AV->Option R)(p:Bool):eX (.un .not) [.bool p] K=K (.bool (!p)):=dD K (λH n=>akT H n p)
theorem akU(H:Pos->Option AB)(n:Pos)(q:iu)(k:IntKind)(a b:Int):aG.run H n (.bin .lss q) [.int k a,.int k b]=some (.val (.bool (decide (a<b)))):=by simp[aG.run,jH,pV,dL,nM,fo,lK,gY]
@[simp] theorem cG{R:Type}(c:aj)(K:AV->St->Option R)(st:St)(q:iu)(k:IntKind)(a b:Int):aq c (.bin .lss q) [.int k a,.int k b] st K=K (.bool (decide (a<b))) st:=aV c K (λH n=>akU H n q k a b) st
@[simp] theorem akV{R:Type}(K:AV->Option R)(q:iu)(k:IntKind)(a b:Int):eX (.bin .lss q) [.int k a,.int k b] K=K (.bool (decide (a<b))):=dD K (λH n=>akU H n q k a b)
theorem akW(H:Pos->Option AB)(n:Pos)(q:iu)(k:IntKind)(a b:Int):aG.run H n (.bin .leq q) [.int k a,.int k b]=some (.val (.bool (decide (a<=b)))):=by simp[aG.run,jH,pV,dL,nM,fo,lK,gY]
@[simp] theorem axg{R:Type}(c:aj)(K:AV->St->Option R)(st:St)(q:iu)(k:IntKind)(a b:Int):aq c (.bin .leq q) [.int k a,.int k b] st K=K (.bool (decide (a<=b))) st:=aV c K (λH n=>akW H n q k a b) st
@[simp] theorem axh{R:Type}(K:AV->Option R)(q:iu)(k:IntKind)(a b:Int):eX (.bin .leq q) [.int k a,.int k b] K=K (.bool (decide (a<=b))):=dD K (λH n=>akW H n q k a b)
theorem akX(H:Pos->Option AB)(n:Pos)(q:iu)(k:IntKind)(a b:Int):aG.run H n (.bin .gtr q) [.int k a,.int k b]=some (.val (.bool (decide (b<a)))):=by simp[aG.run,jH,pV,dL,nM,fo,lK,gY]
@[simp] theorem CR{R:Type}(c:aj)(K:AV->St->Option R)(st:St)(q:iu)(k:IntKind)(a b:Int):aq c (.bin .gtr q) [.int k a,.int k b] st K=K (.bool (decide (b<a))) st:=aV c K (λH n=>akX H n q k a b) st
@[simp] theorem akY{R:Type}(K:AV->Option R)(q:iu)(k:IntKind)(a b:Int):eX (.bin .gtr q) [.int k a,.int k b] K=K (.bool (decide (b<a))):=dD K (λH n=>akX H n q k a b)
theorem akZ(H:Pos->Option AB)(n:Pos)(q:iu)(k:IntKind)(a b:Int):aG.run H n (.bin .geq q) [.int k a,.int k b]=some (.val (.bool (decide (b<=a)))):=by simp[aG.run,jH,pV,dL,nM,fo,lK,gY]
@[simp] theorem ZM{R:Type}(c:aj)(K:AV->St->Option R)(st:St)(q:iu)(k:IntKind)(a b:Int):aq c (.bin .geq q) [.int k a,.int k b] st K=K (.bool (decide (b<=a))) st:=aV c K (λH n=>akZ H n q k a b) st
@[simp] theorem axi{R:Type}(K:AV->Option R)(q:iu)(k:IntKind)(a b:Int):eX (.bin .geq q) [.int k a,.int k b] K=K (.bool (decide (b<=a))):=dD K (λH n=>akZ H n q k a b)
theorem ak0(H:Pos->Option AB)(n:Pos)(q:iu)(k:IntKind)(a b:Int):aG.run H n (.bin .eql q) [.int k a,.int k b]=some (.val (.bool (decide (a=b)))):=by simp[aG.run,jH,pV,dL,nM,fo,lK,gY]
@[simp] theorem eG{R:Type}(c:aj)(K:AV->St->Option R)(st:St)(q:iu)(k:IntKind)(a b:Int):aq c (.bin .eql q) [.int k a,.int k b] st K=K (.bool (decide (a=b))) st:=aV c K (λH n=>ak0 H n q k a b) st
@[simp] theorem aex{R:Type}(K:AV->Option R)(q:iu)(k:IntKind)(a b:Int):eX (.bin .eql q) [.int k a,.int k b] K=K (.bool (decide (a=b))):=dD K (λH n=>ak0 H n q k a b)
theorem ak1(H:Pos->Option AB)(n:Pos)(q:iu)(k:IntKind)(a b:Int):aG.run H n (.bin .neq q) [.int k a,.int k b]=some (.val (.bool (!decide (a=b)))):=by simp[aG.run,jH,pV,dL,nM,fo,lK,gY]
@[simp] theorem LS{R:Type}(c:aj)(K:AV->St->Option R)(st:St)(q:iu)(k:IntKind)(a b:Int):aq c (.bin .neq q) [.int k a,.int k b] st K=K (.bool (!decide (a=b))) st:=aV c K (λH n=>ak1 H n q k a b) st
@[simp] theorem axj{R:Type}(K:AV->Option R)(q:iu)(k:IntKind)(a b:Int):eX (.bin .neq q) [.int k a,.int k b] K=K (.bool (!decide (a=b))):=dD K (λH n=>ak1 H n q k a b)
theorem ak2(H:Pos->Option AB)(n:Pos)(q:iu)(k:IntKind)(a b:Int):aG.run H n (.bin .add q) [.int k a,.int k b]=some (.val (.int k (ax k (a+b)))):=by simp[aG.run,jH,pV,dL,nM,fo,lK,gY]
@[simp] theorem fD{R:Type}(c:aj)(K:AV->St->Option R)(st:St)(q:iu)(k:IntKind)(a b:Int):aq c (.bin .add q) [.int k a,.int k b] st K=K (.int k (ax k (a+b))) st:=aV c K (λH n=>ak2 H n q k a b) st
@[simp] theorem atD{R:Type}(K:AV->Option R)(q:iu)(k:IntKind)(a b:Int):eX (.bin .add q) [.int k a,.int k b] K=K (.int k (ax k (a+b))):=dD K (λH n=>ak2 H n q k a b)
theorem ak3(H:Pos->Option AB)(n:Pos)(q:iu)(k:IntKind)(a b:Int):aG.run H n (.bin .sub q) [.int k a,.int k b]=some (.val (.int k (ax k (a - b)))):=by simp[aG.run,jH,pV,dL,nM,fo,lK,gY]
@[simp] theorem aey{R:Type}(c:aj)(K:AV->St->Option R)(st:St)(q:iu)(k:IntKind)(a b:Int):aq c (.bin .sub q) [.int k a,.int k b] st K=K (.int k (ax k (a - b))) st:=aV c K (λH n=>ak3 H n q k a b) st
@[simp] theorem ak4{R:Type}(K:AV->Option R)(q:iu)(k:IntKind)(a b:Int):eX (.bin .sub q) [.int k a,.int k b] K=K (.int k (ax k (a - b))):=dD K (λH n=>ak3 H n q k a b)
theorem atE(H:Pos->Option AB)(n:Pos)(q:iu)(k:IntKind)(a b:Int):aG.run H n (.bin .mul q) [.int k a,.int k b]=some (.val (.int k (ax k (a*b)))):=by simp[aG.run,jH,pV,dL,nM,fo,lK,gY]
@[simp] theorem axk{R:Type}(c:aj)(K:AV->St->Option R)(st:St)(q:iu)(k:IntKind)(a b:Int):aq c (.bin .mul q) [.int k a,.int k b] st K=K (.int k (ax k (a*b))) st:=aV c K (λH n=>atE H n q k a b) st
theorem ah0(H:Pos->Option AB)(n:Pos)(q:iu)(s t:List Nat):aG.run H n (.bin .eql q) [.str s,.str t]=some (.val (.bool (decide (s=t)))):=by simp[aG.run,jH,pV,dL,nM,fo,lK,gY]
@[simp] theorem aw3{R:Type}(c:aj)(K:AV->St->Option R)(st:St)(q:iu)(s t:List Nat):aq c (.bin .eql q) [.str s,.str t] st K=K (.bool (decide (s=t))) st:=aV c K (λH n=>ah0 H n q s t) st
@[simp] theorem aw4{R:Type}(K:AV->Option R)(q:iu)(s t:List Nat):eX (.bin .eql q) [.str s,.str t] K=K (.bool (decide (s=t))):=dD K (λH n=>ah0 H n q s t)
theorem ah1(H:Pos->Option AB)(n:Pos)(q:iu)(s t:List Nat):aG.run H n (.bin .neq q) [.str s,.str t]=some (.val (.bool (!decide (s=t)))):=by simp[aG.run,jH,pV,dL,nM,fo,lK,gY]
@[simp] theorem abR{R:Type}(c:aj)(K:AV->St->Option R)(st:St)(q:iu)(s t:List Nat):aq c (.bin .neq q) [.str s,.str t] st K=K (.bool (!decide (s=t))) st:=aV c K (λH n=>ah1 H n q s t) st
@[simp] theorem aqV{R:Type}(K:AV->Option R)(q:iu)(s t:List Nat):eX (.bin .neq q) [.str s,.str t] K=K (.bool (!decide (s=t))):=dD K (λH n=>ah1 H n q s t)
theorem aqW(H:Pos->Option AB)(n:Pos)(q:iu)(s t:List Nat):aG.run H n (.bin .lss q) [.str s,.str t]=some (.val (.bool (aO s t))):=by simp[aG.run,jH,pV,dL,nM,fo,lK,gY]
@[simp] theorem aw5{R:Type}(K:AV->Option R)(q:iu)(s t:List Nat):eX (.bin .lss q) [.str s,.str t] K=K (.bool (aO s t)):=dD K (λH n=>aqW H n q s t)
theorem aqX(H:Pos->Option AB)(n:Pos)(q:iu)(s t:List Nat):aG.run H n (.bin .geq q) [.str s,.str t]=some (.val (.bool (!aO s t))):=by simp[aG.run,jH,pV,dL,nM,fo,lK,gY]
@[simp] theorem aw6{R:Type}(c:aj)(K:AV->St->Option R)(st:St)(q:iu)(s t:List Nat):aq c (.bin .geq q) [.str s,.str t] st K=K (.bool (!aO s t)) st:=aV c K (λH n=>aqX H n q s t) st
theorem aqY(H:Pos->Option AB)(n:Pos)(s:List Nat):aG.run H n (.lenB .s) [.str s]=some (.val (.int .i64 (s.length:Int))):=rfl
@[simp] theorem aw7{R:Type}(c:aj)(K:AV->St->Option R)(st:St)(s:List Nat):aq c (.lenB .s) [.str s] st K=K (.int .i64 (s.length:Int)) st:=aV c K (λH n=>aqY H n s) st
theorem ah2(H:Pos->Option AB)(n:Pos)(es:Nat)(z:Bool)(rs:List (List AV)):aG.run H n (.lenB .l) [ro es z rs]=some (.val (.int .i64 (rs.length:Int))):=by unfold ro;split<;>rfl
@[simp] theorem jL{R:Type}(c:aj)(K:AV->St->Option R)(st:St)(es:Nat)(z:Bool)(rs:List (List AV)):aq c (.lenB .l) [ro es z rs] st K=K (.int .i64 (rs.length:Int)) st:=aV c K (λH n=>ah2 H n es z rs) st
@[simp] theorem ah3{R:Type}(K:AV->Option R)(es:Nat)(z:Bool)(rs:List (List AV)):eX (.lenB .l) [ro es z rs] K=K (.int .i64 (rs.length:Int)):=dD K (λH n=>ah2 H n es z rs)
theorem ah4(H:Pos->Option AB)(n:Pos)(k k2:IntKind)(a:Int):aG.run H n (.conv (.int k)) [.int k2 a]=some (.val (.int k (ax k a))):=rfl
@[simp] theorem Mw{R:Type}(c:aj)(K:AV->St->Option R)(st:St)(k k2:IntKind)(a:Int):aq c (.conv (.int k)) [.int k2 a] st K=K (.int k (ax k a)) st:=aV c K (λH n=>ah4 H n k k2 a) st
@[simp] theorem abS{R:Type}(K:AV->Option R)(k k2:IntKind)(a:Int):eX (.conv (.int k)) [.int k2 a] K=K (.int k (ax k a)):=dD K (λH n=>ah4 H n k k2 a)
theorem aqZ(H:Pos->Option AB)(n:Pos)(k:IntKind)(s:List Nat)(i:Nat):aG.run H n .idxS [.str s,.int k (i:Int)]=((s[i]?.map λc=>.int .u8 (c:Int)):Option AV).map .val:=by simp only[aG.run,ZC,jJ,rf];cases s[i]? <;>rfl
@[simp] theorem aw9{R:Type}(c:aj)(K:AV->St->Option R)(st:St)(k:IntKind)(s:List Nat)(i:Nat):aq c .idxS [.str s,.int k (i:Int)] st K=zm (s[i]?.map λc=>.int .u8 (c:Int)) λv=>K v st:=Mu c K (λH n=>aqZ H n k s i) st
theorem aof(H:Pos->Option AB)(n:Pos)(off:Nat)(l:List AV):aG.run H n (.field off none) [.agg l]=(l[off]? :Option AV).map .val:=by simp only[aG.run,Su,rf];cases l[off]? <;>rfl
@[simp] theorem afK{R:Type}(K:AV->Option R)(off:Nat)(l:List AV):eX (.field off none) [.agg l] K=zm l[off]? K:=XA K (λH n=>aof H n off l)
theorem XB(H:Pos->Option AB)(n:Pos)(off:Nat)(p:Pos)(o:Nat):aG.run H n (.fieldA off) [.ptr p o]=some (.val (.ptr p (o+off))):=rfl
@[simp] theorem aS{R:Type}(c:aj)(K:AV->St->Option R)(st:St)(off:Nat)(p:Pos)(o:Nat):aq c (.fieldA off) [.ptr p o] st K=K (.ptr p (o+off)) st:=aV c K (λH n=>XB H n off p o) st
@[simp] theorem bt{R:Type}(K:AV->Option R)(off:Nat)(p:Pos)(o:Nat):eX (.fieldA off) [.ptr p o] K=K (.ptr p (o+off)):=dD K (λH n=>XB H n off p o)
theorem ah5(H:Pos->Option AB)(n:Pos)(off:Nat)(xs:List (List AV))(i j:Nat):aG.run H n (.fieldA off) [.fp xs i j]=some (.val (.fp xs i (j+off))):=rfl
@[simp] theorem avn{R:Type}(c:aj)(K:AV->St->Option R)(st:St)(off:Nat)(xs:List (List AV))(i j:Nat):aq c (.fieldA off) [.fp xs i j] st K=K (.fp xs i (j+off)) st:=aV c K (λH n=>ah5 H n off xs i j) st
theorem aa2(H:Pos->Option AB)(n:Pos)(i:Nat)(l:List AV):aG.run H n (.extract i) [.tuple l]=(l[i]? :Option AV).map .val:=by simp only[aG.run,Lp,rf];cases l[i]? <;>rfl
@[simp] theorem fS{R:Type}(c:aj)(K:AV->St->Option R)(st:St)(i:Nat)(l:List AV):aq c (.extract i) [.tuple l] st K=zm l[i]? λv=>K v st:=Mu c K (λH n=>aa2 H n i l) st
@[simp] theorem av9{R:Type}(K:AV->Option R)(i:Nat)(l:List AV):eX (.extract i) [.tuple l] K=zm l[i]? K:=XA K (λH n=>aa2 H n i l)
theorem Q9(H:Pos->Option AB)(n:Pos)(p:Pos)(o:Nat):aG.run H n .nilCheck [.ptr p o]=some (.val (.ptr p o)):=rfl
@[simp] theorem cw{R:Type}(c:aj)(K:AV->St->Option R)(st:St)(p:Pos)(o:Nat):aq c .nilCheck [.ptr p o] st K=K (.ptr p o) st:=aV c K (λH n=>Q9 H n p o) st
@[simp] theorem oO{R:Type}(K:AV->Option R)(p:Pos)(o:Nat):eX .nilCheck [.ptr p o] K=K (.ptr p o):=dD K (λH n=>Q9 H n p o)
theorem ah6(H:Pos->Option AB)(n:Pos)(es:Nat)(z:Bool)(rs:List (List AV))(k:IntKind)(i:Nat):aG.run H n (.idxA es none) [ro es z rs,.int k (i:Int)]=((if i<rs.length then some (.fp rs i 0)else none):Option AV).map .val:=by
 by_cases h:i<rs.length
 .rw[aew (by intro e;subst e;simp at h)];simp[aG.run,td,jJ,Lt,cO,h]
 . unfold ro;split
   .rfl
   .simp[aG.run,td,jJ,Lt,cO,h]
@[simp] theorem Tn{R:Type}(c:aj)(K:AV->St->Option R)(st:St)(es:Nat)(z:Bool)(rs:List (List AV))(k:IntKind)(i:Nat):aq c (.idxA es none) [ro es z rs,.int k (i:Int)] st K=zm (if i<rs.length then some (.fp rs i 0)else none) λv=>K v st:=Mu c K (λH n=>ah6 H n es z rs k i) st
@[simp] theorem aq0{R:Type}(K:AV->Option R)(es:Nat)(z:Bool)(rs:List (List AV))(k:IntKind)(i:Nat):eX (.idxA es none) [ro es z rs,.int k (i:Int)] K=zm (if i<rs.length then some (.fp rs i 0)else none) K:=XA K (λH n=>ah6 H n es z rs k i)
theorem afL(H:Pos->Option AB)(n:Pos)(es:Nat)(z:Bool)(rs:List (List AV))(k:IntKind)(i:Nat):aG.run H n (.sliceL es false true false) [ro es z rs,.int k (i:Int)]=((if i<=rs.length then some (ro es (z&&rs.isEmpty) (rs.take i))else none):Option AV).map .val:=by
 by_cases h:i<=rs.length
 . rw[  Zb6 h];unfold ro;split
   .simp at h;subst h;rfl
   .rename_i hn;have:(z&&rs.isEmpty)=false:=(by cases z<;>cases rs<;>simp at hn ⊢);simp only[this];simp[aG.run,iZ,bounds,jJ,cU,cO,h]
 . rw[Za7 h];unfold ro;split
   .simp only[aG.run,iZ,bounds,jJ];have:¬i=0:=(by simp at h;omega);simp[cO,this]
   .simp[aG.run,iZ,bounds,jJ,cU,cO,h]
@[simp] theorem aw1{R:Type}(c:aj)(K:AV->St->Option R)(st:St)(es:Nat)(z:Bool)(rs:List (List AV))(k:IntKind)(i:Nat):aq c (.sliceL es false true false) [ro es z rs,.int k (i:Int)] st K=zm (if i<=rs.length then some (ro es (z&&rs.isEmpty) (rs.take i))else none) λv=>K v st:=Mu c K (λH n=>afL H n es z rs k i) st
@[simp] theorem aog{R:Type}(K:AV->Option R)(es:Nat)(z:Bool)(rs:List (List AV))(k:IntKind)(i:Nat):eX (.sliceL es false true false) [ro es z rs,.int k (i:Int)] K=zm (if i<=rs.length then some (ro es (z&&rs.isEmpty) (rs.take i))else none) K:=XA K (λH n=>afL H n es z rs k i)
section
variable{R:Type}(c:aj)(K:AV->St->Option R)(K1:AV->Option R)
theorem D4(H:Pos->Option AB)(n:Pos)(xs:List (List AV))(i j:Nat):aG.run H n (.load none) [.fp xs i j]=(xs[i]?.bind λcs=>cs[j]?).map .val:=by
 simp only[aG.run,Aa,rf];cases xs[i]? with
 |none=>rfl
 |some cs=>simp only[Za9];cases cs[j]? <;>rfl
theorem PD(H:Pos->Option AB)(n:Pos)(m:Nat)(xs:List (List AV))(i j:Nat):aG.run H n (.load (some m)) [.fp xs i j]=((xs[i]?.bind λcs=>cut cs j m).map .agg).map .val:=by
 simp only[aG.run,Aa,rf];cases xs[i]? with
 |none=>rfl
 |some cs=>simp only[Za9];cases cut cs j m<;>rfl
theorem tM (H:Pos->Option AB)(n:Pos)(p:Pos)(o:Nat):aG.run H n (.load none) [.ptr p o]=((cellsOf (H p)).bind λcs=>cs[o]?).map .val:=by
 simp only[aG.run,Aa,rf];cases H p with
 |none=>rfl
 |some x=>   cases x<;>simp only[cellsOf,Za9,Option.bind_none]<;>try rfl
             all_goals first|(rename_i cs _;cases cs[o]? <;>rfl)|(rename_i _ cs;cases cs[o]? <;>rfl)
theorem xQ (H:Pos->Option AB)(n:Pos)(m:Nat)(p:Pos)(o:Nat):aG.run H n (.load (some m)) [.ptr p o]=(((cellsOf (H p)).bind λcs=>cut cs o m).map .agg).map .val:=by
 simp only[aG.run,Aa];cases H p with
 |none=>rfl
 |some x=>   cases x<;>simp only[cellsOf,Za9,Option.bind_none]<;>try rfl
             all_goals first|(rename_i cs _;cases cut cs o m<;>rfl)|(rename_i _ cs;cases cut cs o m<;>rfl)
@[simp] theorem aws(st:St)(xs:List (List AV))(i j:Nat):aq c (.load none) [.fp xs i j] st K=zm (xs[i]?.bind λcs=>cs[j]?) λv=>K v st:=Mu c K (λH n=>D4 H n xs i j) st
@[simp] theorem aa3(st:St)(m:Nat)(xs:List (List AV))(i j:Nat):aq c (.load (some m)) [.fp xs i j] st K=Jz (xs[i]?.bind λcs=>cut cs j m) λl=>K (.agg l) st:=by rw[Mu c K (λH n=>PD H n m xs i j) st];cases(xs[i]?.bind λcs=>cut cs j m)<;>rfl
@[simp] theorem aT(st:St)(p:Pos)(o:Nat):aq c (.load none) [.ptr p o] st K=zm ((cellsOf (st.heap.get p)).bind λcs=>cs[o]?) λv=>K v st:=by unfold aq cJ;rw[tM];cases((cellsOf (st.heap.get p)).bind λcs=>cs[o]?)<;>rfl
@[simp] theorem gR(st:St)(m:Nat)(p:Pos)(o:Nat):aq c (.load (some m)) [.ptr p o] st K=Jz ((cellsOf (st.heap.get p)).bind λcs=>cut cs o m) λl=>K (.agg l) st:=by unfold aq cJ;rw[xQ];cases((cellsOf (st.heap.get p)).bind λcs=>cut cs o m)<;>rfl
@[simp] theorem awt(h:T AB)(xs:List (List AV))(i j:Nat):jI (.load none) [.fp xs i j] h (λ_=>true) K1=zm (xs[i]?.bind λcs=>cs[j]?) K1:=by unfold jI;rw[D4,D4];cases hx:(xs[i]?.bind λcs=>cs[j]?)<;>rfl
@[simp] theorem awa(h:T AB)(m:Nat)(xs:List (List AV))(i j:Nat):jI (.load (some m)) [.fp xs i j] h (λ_=>true) K1=Jz (xs[i]?.bind λcs=>cut cs j m) λl=>K1 (.agg l):=by unfold jI;rw[PD,PD];cases hx:(xs[i]?.bind λcs=>cut cs j m)<;>rfl
@[simp] theorem xR(st:St)(f:FuncId)(xs:List AV):aq c (.mkFunc f 0) xs st K=K (.func f [] xs) st:=aV c K (λH n=>by simp[aG.run,HP,cU]) st
@[simp] theorem PG(f:FuncId)(xs:List AV):eX (.mkFunc f 0) xs K1=K1 (.func f [] xs):=dD K1 (λH n=>by simp[aG.run,HP,cU])
@[simp] theorem ju(h:T AB)(p:Pos)(o:Nat):jI (.load none) [.ptr p o] h (λ_=>true) K1=zm ((cellsOf (h.get p)).bind λcs=>cs[o]?) K1:=by unfold jI;rw[tM,tM];show(match ((cellsOf (h.get p)).bind λcs=>cs[o]?).map eO.val with|some (.val v)=>_|_=>_)=_;cases((cellsOf (h.get p)).bind λcs=>cs[o]?)<;>rfl
@[simp] theorem xS(h:T AB)(m:Nat)(p:Pos)(o:Nat):jI (.load (some m)) [.ptr p o] h (λ_=>true) K1=Jz ((cellsOf (h.get p)).bind λcs=>cut cs o m) λl=>K1 (.agg l):=by unfold jI;rw[xQ,xQ];show(match (((cellsOf (h.get p)).bind λcs=>cut cs o m).map AV.agg).map eO.val with|some (.val v)=>_|_=>_)=_;cases((cellsOf (h.get p)).bind λcs=>cut cs o m)<;>rfl
theorem run_build(H:Pos->Option AB)(n:Pos)(z:List AV)(ps:List (Nat×Nat))(xs:List AV):aG.run H n (.build z ps) xs=((cK z ps xs).map .agg).map .val:=by simp only[aG.run,Sq];cases cK z ps xs<;>rfl
@[simp] theorem iF(st:St)(z:List AV)(ps:List (Nat×Nat))(xs:List AV):aq c (.build z ps) xs st K=Jz (cK z ps xs) λl=>K (.agg l) st:=by rw[Mu c K (λH n=>run_build H n z ps xs) st];cases cK z ps xs<;>rfl
@[simp] theorem H7(z:List AV)(ps:List (Nat×Nat))(xs:List AV):eX (.build z ps) xs K1=Jz (cK z ps xs) λl=>K1 (.agg l):=by rw[XA K1 (λH n=>run_build H n z ps xs)];cases cK z ps xs<;>rfl
theorem cQ{α:Type}{l:List α}{m:Nat}(h:l.length=m):cut l 0 m=some l:=by
 unfold cut;rw[cU,Za0 (by omega)];simp only[Ze5];rw[Zf1 (by omega)]
end
end Go.Ai
namespace Go.Ai
open Go
def Wf(st:St):Prop:=∀p x,st.heap.get p=some x->p.toNat<st.next.toNat
theorem bP(st:St)(b:AB):(ah st b).next=st.next.succ:=id rfl
@[simp] theorem bG{st:St}{b:AB}(h:Wf st):Wf (ah st b):=λp x hp=>by
  rw[bP,Pos.aF];by_cases e:st.next=p
  .subst e;omega
  .have:=h p x (by rwa [ah,T.cC _ e]at hp);omega
@[simp] theorem aA(st:St)(b:AB):(ah st b).heap.get st.next=some b:=T.gU _ _ _
theorem uq{st:St}{b:AB}{p:Pos}(h:p.toNat<st.next.toNat):(ah st b).heap.get p=st.heap.get p:=by
 rw[ah,T.cC _ (by intro e;subst e;omega)]
@[simp] theorem D5{st:St}{a b:AB}:(ah (ah st a) b).heap.get st.next=some a:=by
  rw[uq (by rw[bP,Pos.aF];omega),aA]
theorem bY{st:St}{b:AB}(h:Wf st):aX st (ah st b):=λp x hp=>by rw[uq (h p x hp)];exact hp
theorem aB{st st':St}{v:AV}(hv:Plain v)(hk:aX st st'):tidy st (v,st')=(v,st):=by
 unfold tidy;rw[Zb6 ⟨hv,hk⟩]
section
variable{R:Type}(c:aj)(K:AV->St->Option R)
@[simp] theorem cS(x:AV)(st:St):aq c .box [x] st K=K (.ptr st.next 0) (ah st (.cells x.cells 0)):=id rfl
@[simp] theorem cL(l:List AV)(st:St):aq c (.alloc l) [] st K=K (.ptr st.next 0) (ah st (.cells l 0)):=id rfl
end
theorem T.GP{α:Type}(x y:Option α):∀(p:Pos)(t:T α),T.put x p (T.put y p t)=T.put x p t
 |.h,.e=>rfl
 |.h,.n _ _ _=>rfl
 |.o p,.e=>by simp only[T.put];rw[T.GP x y p]
 |.o p,.n _ _ _=>by simp only[T.put];rw[T.GP x y p]
 |.i p,.e=>by simp only[T.put];rw[T.GP x y p]
 |.i p,.n _ _ _=>by simp only[T.put];rw[T.GP x y p]
def bh(st:St)(p:Pos)(b:AB):St:={ heap:=st.heap.put (some b) p,next:=st.next }
@[simp] theorem dM(st:St)(p:Pos)(b:AB):(bh st p b).next=st.next:=id rfl
@[simp] theorem bH(st:St)(p:Pos)(b:AB):(bh st p b).heap.get p=some b:=T.gU _ _ _
theorem aJ{st:St}{p q:Pos}{b:AB}(h:p≠q):(bh st p b).heap.get q=st.heap.get q:=T.cC _ h _
@[simp] theorem ZN(st:St)(a b:AB):bh (ah st a) st.next b=ah st b:=by
  unfold bh ah;simp only[T.GP]
@[simp] theorem Ra(st:St)(p:Pos)(a b:AB):bh (bh st p a) p b=bh st p b:=by
  unfold bh;simp only[T.GP]
theorem Pos.ZO(p:Pos):p≠p.succ:=λe=>by have:=congrArg Pos.toNat e;rw[Pos.aF]at this;omega
theorem cm{R:Type}(c:aj)(K:AV->St->Option R)(st:St)(m:Nat)(p:Pos)(o:Nat)(v:AV)(cs:List AV)(h:st.heap.get p=some (.cells cs 0))(h1:v.cells.length=m)(h2:o+m<=cs.length)(h3:aQ v.cells=true):
  aq c (.store m) [.ptr p o,v] st K=K .undef (bh st p (.cells (aU cs o v.cells) 0)):=by
 have:aG.run (λb=>st.heap.get b) st.next (.store m) [.ptr p o,v]=some (.bk .undef none (some (p,.cells (aU cs o v.cells) 0)) none):=by
  simp[aG.run,Mb,h,h1,h2,h3,cO,cU]
 unfold aq cJ;rw[this];rfl
@[simp] theorem cr{R:Type}(c:aj)(K:AV->St->Option R)(st:St)(m:Nat)(v:AV)(cs:List AV)(h1:v.cells.length=m)(h2:m=cs.length)(h3:aQ v.cells=true):
   aq c (.store m) [.ptr st.next 0,v] (ah st (.cells cs 0)) K=K .undef (ah st (.cells v.cells 0)):=by
  rw[cm c K _ m st.next 0 v cs (aA _ _) h1 (by omega) h3,ZN];have:aU cs 0 v.cells=v.cells:=by unfold aU;rw[h1,h2];simp
  rw[this]
theorem awu{R:Type}(n:Option Nat)(p:Pos)(o:Nat)(st:St)(K:AV->Option R):ldr n (.ptr p o) st K=match n with
  |none=>zm ((cellsOf (st.heap.get p)).bind λcs=>cs[o]?) K
  |some m=>Jz ((cellsOf (st.heap.get p)).bind λcs=>cut cs o m) λl=>K (.agg l):=by
 unfold ldr;cases n with
 |none=>rw[tM];simp only;cases((cellsOf (st.heap.get p)).bind λcs=>cs[o]?)<;>rfl
 |some m=>rw[xQ];simp only;cases((cellsOf (st.heap.get p)).bind λcs=>cut cs o m)<;>rfl
@[simp] theorem abT{R:Type}(m:Nat)(p:Pos)(o:Nat)(st:St)(K:AV->Option R):ldr (some m) (.ptr p o) st K=Jz ((cellsOf (st.heap.get p)).bind λcs=>cut cs o m) λl=>K (.agg l):=awu (some m) p o st K
@[simp] theorem aoh(es:Nat)(z:Bool)(rs:List (List AV)):(ro es z rs).one=true:=by unfold ro;split<;>rfl
@[simp] theorem ah7(es:Nat)(z:Bool)(rs:List (List AV)):(ro es z rs).cells=[ro es z rs]:=by unfold ro;split<;>rfl
theorem Plain.ro{es:Nat}{z:Bool}{rs:List (List AV)}(h:∀cs∈rs,∀v∈cs,Plain v):Plain (ro es z rs):=by
 unfold Go.Ai.ro;split
 .exact Plain.af
 .exact Plain.fl h
structure Grew(s s':St):Prop where
 wf:Wf s'
 keeps:aX s s'
 next:s.next.toNat<=s'.next.toNat
theorem Grew.refl{s:St}(h:Wf s):Grew s s:=⟨h,aX.refl s,Za3 _⟩
theorem Grew.trans{a b c:St}(h:Grew a b)(k:Grew b c):Grew a c:=⟨k.wf,h.keeps.trans k.keeps,Zb2 h.next k.next⟩
theorem Grew.ah{s:St}(h:Wf s)(b:AB):Grew s (ah s b):=⟨bG h,bY h,by rw[bP,Pos.aF];omega⟩
theorem Grew.get{s s':St}(h:Grew s s'){p:Pos}{x:AB}(hp:s.heap.get p=some x):s'.heap.get p=some x:=h.keeps p x hp
end Go.Ai
end
namespace Go.Ai
section
open Go
theorem iU{st:St}{p:Pos}{b:AB}(h:Wf st)(hp:p.toNat<st.next.toNat):Wf (bh st p b):=λq x hq=>by
 rw[dM];by_cases e:p=q
 .subst e;exact hp
 .rw[aJ e]at hq;exact h q x hq
def dst(st:St)(p:Pos)(b:AB):St:={ heap:=(st.heap.put none p).put (some b) st.next,next:=st.next.succ }
theorem aq1(st:St)(p:Pos)(b:AB):(dst st p b).next=st.next.succ:=id rfl
theorem ZP(st:St)(p:Pos)(b:AB):(dst st p b).heap.get st.next=some b:=T.gU _ _ _
theorem To{st:St}{p q:Pos}{b:AB}(h:p≠q)(h2:q.toNat<st.next.toNat):(dst st p b).heap.get q=st.heap.get q:=by
 rw[dst,T.cC _ (by intro e;subst e;omega),T.cC _ h]
theorem ah8{st:St}{p:Pos}{b:AB}(h:Wf st):Wf (dst st p b):=λq x hq=>by
 rw[aq1,Pos.aF];by_cases e:st.next=q
 .subst e;omega
 . rw[dst,T.cC _ e]at hq;by_cases e2:p=q
   .subst e2;rw[T.gU]at hq;cases hq
   .rw[T.cC _ e2]at hq;have:=h q x hq;omega
theorem aoi{s s':St}{v:AV}(h:Grew s s')(hw:Wf s):∃fU,tidy s (v,s')=(v,fU)/\Grew s fU:=by
 unfold tidy;split
 .exact⟨s,rfl,Grew.refl hw⟩
 .exact⟨s',rfl,h⟩
theorem aez{s s':St}{v:AV}{b:Pos}{x:AB}(h:s.heap.get b=some x)(h2:s'.heap.get b≠some x):tidy s (v,s')=(v,s'):=by
 unfold tidy;rw[Za7];exact λe=>h2 (e.2 b x h)
section
variable{R:Type}(c:aj)(K:AV->St->Option R)(K1:AV->Option R)
theorem adh(H:Pos->Option AB)(n:Pos)(es len:Nat)(z:List AV)(ps:List Nat)(xs:List AV):aG.run H n (.buildSlice es len z ps) xs=(cK (bW z len) (ps.map λi=>(i*es,es)) xs).map λcs=>.bk (.slice n 0 len (some len) es) none none (some (.cells cs 0)):=by simp only[aG.run,xx];cases cK (bW z len) (ps.map λi=>(i*es,es)) xs<;>rfl
@[simp] theorem au(st:St)(es len:Nat)(z:List AV)(ps:List Nat)(xs:List AV):aq c (.buildSlice es len z ps) xs st K=Jz (cK (bW z len) (ps.map λi=>(i*es,es)) xs) λcs=>K (.slice st.next 0 len (some len) es) (ah st (.cells cs 0)):=by unfold aq cJ;rw[adh];cases cK (bW z len) (ps.map λi=>(i*es,es)) xs<;>rfl
@[simp] theorem qE(st:St)(es len:Nat)(z:List AV)(ps:List Nat)(xs:List AV)(K2:AV->AB->Option R):U9 (.buildSlice es len z ps) xs st K2=Jz (cK (bW z len) (ps.map λi=>(i*es,es)) xs) λcs=>K2 (.slice st.next 0 len (some len) es) (.cells cs 0):=by unfold U9;rw[adh];cases cK (bW z len) (ps.map λi=>(i*es,es)) xs<;>rfl
@[simp] theorem XC(st:St):aq c .mkMap [] st K=K (.map st.next) (ah st (.map [] 0)):=id rfl
theorem ah9{st:St}{es bytes m:Nat}{x:AV}{new:List AV}(hm:dV x=some m)(h0:m≠0)(hb:(2*(0+m)+768)*bytes<=281474976710656)(hs:0+m<=9223372036854775807)(hx:dF es m (λb=>st.heap.get b) x=some new):
  aq c (.append es bytes) [.af,x] st K=K (.slice st.next 0 m none es) (ah st (.cells new 0)):=by
 have:aG.run (λb=>st.heap.get b) st.next (.append es bytes) [.af,x]=some (.bk (.slice st.next 0 m none es) none none (some (.cells new 0))):=by
  simp only[aG.run,iE];rw[show dV .af=some 0 from rfl,hm];simp only[cU,cO,Za0 hb,Za0 hs,Za1 h0,hx]
 unfold aq cJ;rw[this];rfl
theorem atF{st:St}{es bytes m n:Nat}{p:Pos}{x:AV}{cs gW new:List AV}(hm:dV x=some m)(h0:m≠0)(hb:(2*(n+m)+768)*bytes<=281474976710656)(hs:n+m<=9223372036854775807)(hp:st.heap.get p=some (.cells cs 0))
  (ho:dF es n (λb=>st.heap.get b) (.slice p 0 n none es)=some gW) (hx:dF es m (λb=>st.heap.get b) x=some new) (h1:aQ new=true):
  aq c (.append es bytes) [.slice p 0 n none es,x] st K=K (.slice st.next 0 (n+m) none es) (dst st p (.cells (gW++new) 0)):=by
 have:aG.run (λb=>st.heap.get b) st.next (.append es bytes) [.slice p 0 n none es,x]=some (.bk (.slice st.next 0 (n+m) none es) (some p) none (some (.cells (gW++new) 0))):=by simp only[aG.run,iE];rw[show dV (.slice p 0 n none es)=some n from rfl,hm];simp only[cU,cO,Za0 hb,Za0 hs,Za1 h0,hx,hp,ho,h1];simp
 unfold aq cJ;rw[this];rfl
theorem aoj{st:St}{es bytes m:Nat}{p:Pos}{x:AV}{new:List AV}(hm:dV x=some m)(h0:m≠0)(hb:(2*(0+m)+768)*bytes<=281474976710656)(hs:0+m<=9223372036854775807)(hx:dF es m (λb=>st.heap.get b) x=some new):
  aq c (.append es bytes) [.slice p 0 0 (some 0) es,x] st K=K (.slice st.next 0 m none es) (ah st (.cells new 0)):=by
 have:aG.run (λb=>st.heap.get b) st.next (.append es bytes) [.slice p 0 0 (some 0) es,x]=some (.bk (.slice st.next 0 m none es) none none (some (.cells new 0))):=by
  have h2:¬(0+m<=0):=by omega
  have ho:dF es 0 (λb=>st.heap.get b) (.slice p 0 0 (some 0) es)=some []:=by simp[dF]
  simp only[aG.run,iE];rw[show dV (.slice p 0 0 (some 0) es)=some 0 from rfl,hm];simp only[cU,cO,Za0 hb,Za0 hs,Za1 h0,Za1 h2,hx,ho];simp only[Zb8,Ze3]
 unfold aq cJ;rw[this];rfl
theorem aia{st:St}{es bytes:Nat}{p:Pos}{off n:Nat}{cp:Option Nat}{x:AV}(hm:dV x=some 0)(hb:(2*(n+0)+768)*bytes<=281474976710656)(hs:n+0<=9223372036854775807):
  aq c (.append es bytes) [.slice p off n cp es,x] st K=K (.slice p off n cp es) st:=by
 have:aG.run (λb=>st.heap.get b) st.next (.append es bytes) [.slice p off n cp es,x]=some (.val (.slice p off n cp es)):=by
  simp only[aG.run,iE];rw[show dV (.slice p off n cp es)=some n from rfl,hm];simp only[cU,cO,Za0 hb,Za0 hs]
 unfold aq cJ;rw[this]
theorem afM(H:Pos->Option AB)(n:Pos)(z:AV)(m:Pos)(es:List (AV×AV×Nat))(cl:Nat)(k:AV)(h:H m=some (.map es cl))(r:Option (Nat×AV))(hf:ic .s k es 0=some r):
  aG.run H n (.lookup .s z true) [.map m,k]=some (.val (match r with|some (_,v)=>.tuple [v,.bool true]|none=>.tuple [z,.bool false])):=by
 simp only[aG.run,l9,h,hf];cases r with
 |none=>rfl
 |some p=>rfl
theorem CS(z:AV){st:St}{m:Pos}{es:List (AV×AV×Nat)}{cl:Nat}{k:AV}{r:Option (Nat×AV)}(h:st.heap.get m=some (.map es cl))(hf:ic .s k es 0=some r):
  aq c (.lookup .s z true) [.map m,k] st K=K (match r with|some (_,v)=>.tuple [v,.bool true]|none=>.tuple [z,.bool false]) st:=by
 unfold aq cJ;rw[afM _ _ z m es cl k h r hf]
theorem afN(z:AV){h:T AB}{m:Pos}{es:List (AV×AV×Nat)}{cl:Nat}{k:AV}{r:Option (Nat×AV)}(hh:h.get m=some (.map es cl))(hf:ic .s k es 0=some r):
  jI (.lookup .s z true) [.map m,k] h (λ_=>true) K1=K1 (match r with|some (_,v)=>.tuple [v,.bool true]|none=>.tuple [z,.bool false]):=by
 unfold jI;have e:aG.run (λ_=>none) .h (.lookup .s z true) [.map m,k]=none:=rfl;rw[e];simp only;rw[afM _ _ z m es cl k hh r hf]
theorem akd{st:St}{m:Pos}{es:List (AV×AV×Nat)}{cl:Nat}{k:List Nat}{v:AV}(h:st.heap.get m=some (.map es cl))(hf:ic .s (.str k) es 0=some none):
  aq c (.mapSet .s) [.map m,.str k,v] st K=K .undef (bh st m (.map (es++[(.str k,v,cl)]) (cl+1))):=by
 have:aG.run (λb=>st.heap.get b) st.next (.mapSet .s) [.map m,.str k,v]=some (.bk .undef none (some (m,.map (es++[(.str k,v,cl)]) (cl+1))) none):=by
  simp[aG.run,yW,h,hf,aho]
 unfold aq cJ;rw[this];rfl
theorem GQ{p:Pos}{o:Nat}{h h2:T AB}{v:AV}(hv:((cellsOf (h.get p)).bind λcs=>cs[o]?)=some v)(QI:((cellsOf (h2.get p)).bind λcs=>cs[o]?)=some v)(hb:eZ v v=true):
  jI (.load none) [.ptr p o] h (λv=>pL (.load none) [.ptr p o] v (nZ [] h2)&&true) K1=K1 v:=by
 unfold jI;have e:aG.run (λ_=>none) .h (.load none) [.ptr p o]=none:=rfl;rw[e];simp only;rw[tM,hv];simp only[Ze0];have:pL (.load none) [.ptr p o] v (nZ [] h2)=true:=by unfold pL;show(match aG.run (λb=>h2.get b) .h (.load none) [.ptr p o]with|some (.val u)=>eZ u v|_=>false)=true;rw[tM,QI];exact hb
 rw[this];rfl
end
theorem lQ{R:Type}(K1:AV->Option R){p:Pos}{o:Nat}{h h2:T AB}{v:AV}(hv:((cellsOf (h.get p)).bind λcs=>cs[o]?)=some v)(QI:((cellsOf (h2.get p)).bind λcs=>cs[o]?)=some v)(hb:eZ v v=true):
  jI (.load none) [.ptr p o] h (λv=>pL (.load none) [.ptr p o] v (nZ [] h2)) K1=K1 v:=by
 have:=GQ K1 hv QI hb;simp only[Zj4]at this;exact this
theorem OC(p:Pos)(o n es:Nat):eZ (.slice p o n none es) (.slice p o n none es)=true:=by
 simp[eZ,nK,fY,Pos.beq_eq.2 rfl]
theorem Tq:eZ .af .af=true:=rfl
inductive gD:Nat->AV->Prop
 |flat {d:Nat} {v:AV} (h:fY v v=true):gD d v
 |fl {d:Nat} {a:List (List AV)} {n:Nat} (h:∀r∈a,∀v∈r,gD d v):gD (d+1) (.fl a n)
theorem adi{f:AV->AV->Bool}:∀{a:List AV},(∀v∈a,f v v=true)->Oc f a a=true
 |[],_=>rfl
 |a::x,h=>by
  simp only[Oc,h a (by simp),adi (λv hv=>h v (Zb0 _ hv)),Zk5]
theorem XD{f:AV->AV->Bool}:∀{a:List (List AV)},(∀r∈a,∀v∈r,f v v=true)->CH f a a=true
 |[],_=>rfl
 |a::x,h=>by
  simp only[CH,adi (h a (by simp)),XD (λv hv=>h v (Zb0 _ hv)),Zk5]
theorem Tr:∀{d:Nat}{v:AV},gD d v->Od d v v=true
 |d,v,.flat h=>by
  unfold Od;split
  .simp[fY]at h
  .exact h
 |d+1,.fl a n,.fl h=>by
  unfold Od;simp[XD (λr hr v hv=>Tr (h r hr v hv))]
theorem gD.ro{d es:Nat}{z:Bool}{rs:List (List AV)}(h:∀r∈rs,∀v∈r,gD d v):gD (d+1) (ro es z rs):=by
 unfold Go.Ai.ro;split
 .exact .flat rfl
 .exact .fl h
theorem XE{v:AV}(h:gD 3 v):eZ v v=true:=by
 have h3:=Tr h;cases h with
 |flat h=>
  cases v<;>simp[fY]at h<;>first|simp[eZ,nK,fY,h]|skip
  all_goals simp_all [eZ,nK,fY]
 |fl h=>exact h3
theorem amk{v:AV}(h:gD 3 v):nK v v=true:=by
 have h3:=Tr h;cases h with
 |flat h=>
  cases v<;>simp[fY]at h<;>first|simp[nK,fY,h]|skip
  all_goals simp_all [nK,fY]
 |fl h=>exact h3
theorem Va{l:List AV}(h:∀v∈l,gD 3 v):eZ (.agg l) (.agg l)=true:=by
 show ug l l=true;induction l with
 |nil=>rfl
 |cons v l ih=>simp only[ug,amk (h v (by simp)),ih (λu hu=>h u (Zb0 _ hu)),Zk5]
theorem aib{R:Type}(K1:AV->Option R){m:Nat}{p:Pos}{o:Nat}{h h2:T AB}{l:List AV}(hv:((cellsOf (h.get p)).bind λcs=>cut cs o m)=some l)(QI:((cellsOf (h2.get p)).bind λcs=>cut cs o m)=some l)(hb:eZ (.agg l) (.agg l)=true):
  jI (.load (some m)) [.ptr p o] h (λv=>pL (.load (some m)) [.ptr p o] v (nZ [] h2)) K1=K1 (.agg l):=by
 unfold jI;have e:aG.run (λ_=>none) .h (.load (some m)) [.ptr p o]=none:=rfl;rw[e];simp only;rw[xQ,hv];simp only[Ze0];have:pL (.load (some m)) [.ptr p o] (.agg l) (nZ [] h2)=true:=by unfold pL;show(match aG.run (λb=>h2.get b) .h (.load (some m)) [.ptr p o]with|some (.val u)=>eZ u (.agg l)|_=>false)=true;rw[xQ,QI];exact hb
 rw[this]
theorem gD.int{d:Nat}(k:IntKind)(n:Int):gD d (.int k n):= .flat (by simp[fY,oM,dL])
theorem gD.str{d:Nat}(s:List Nat):gD d (.str s):= .flat (by simp[fY,kZ])
theorem gD.bool{d:Nat}(s:Bool):gD d (.bool s):= .flat (by simp[fY])
end
section
open Go
section
variable{H:Type}(enc:TypeId×Value->H)(P:Program)(w:World)(base:Nat)(spare:Nat->Bool)(held:Bool)
def pQ(t:TypeId)(Q:List AV->Prop):Prop:=
 ∀  (fuel:Nat)(cs:List Value)(x:DataW H×List MemPlace),DataW.trod enc P w base spare held fuel t cs=some x->
    ∃as,Q as/\∀ρ n,aK ρ n (λad=>w.cell? ad) as cs
variable{enc P w base spare held}
theorem pQ.mono{t:TypeId}{Q Q':List AV->Prop}(h:pQ enc P w base spare held t Q)(k:∀as,Q as->Q' as):pQ enc P w base spare held t Q':=
 λfuel cs x hx=>by obtain⟨as,h1,h2⟩:=h fuel cs x hx;exact⟨as,k _ h1,h2⟩
theorem XF{t:TypeId}{k:IntKind}(ht:P.underlying t=some (.int k)):pQ enc P w base spare held t λas=>∃i,as=[.int k i]/\(Lit.int k i).wf=true:=
 fun fuel cs x hx=>by
  obtain⟨n,rfl,h⟩:=DataW.trod_int ht hx;exact⟨_,⟨n,rfl,h.2⟩,λρ m=>aK.cons (.int k n) aK.nil⟩
theorem aa4 {t e:TypeId}{es:Nat}{Q:List AV->Prop}(ht:P.underlying t=some (.slice e))(hc:P.cellsOf e=es)(dN:0<es)(hQ:∀as,Q as->as.length=es)(h:pQ enc P w base spare held e Q):
  pQ enc P w base spare held t λas=>∃z rs,as=[ro es z rs]/\(∀r∈rs,Q r)/\rs.length<=maxLen:=
 fun fuel cs x hx=>by
  rcases DataW.trod_slice ht hx with⟨rfl,_⟩|⟨a,len,cap,elems,rest,n,_,rfl,_,hb,hl,hm,hlen,hel,_,_⟩
  .  exact⟨_,⟨true,[],rfl,by simp,by simp⟩,λρ m=>aK.cons .af aK.nil⟩
  .  have each:∀i,∃r row,i<len->(Q r/\w.cells? base (a.add (i*es)) es=some row/\∀ρ m,aK ρ m (λad=>w.cell? ad) r row):=by
        intro i;by_cases hi:i<len
        . have h1:=hel i hi;rw[H0 (by omega),hc]at h1;cases h2:w.cells? base (a.add (i*es)) es with
          |none=>rw[h2]at h1;cases h1
          | some row=>
            rw[h2]at h1;obtain⟨r,hr,hv⟩:=h n row _ h1;exact⟨r,row,λ_=>⟨hr,rfl,hv⟩⟩
        .exact⟨[],[],λh=>absurd h hi⟩
     obtain⟨r,each⟩:=Classical.axiomOfChoice each;obtain⟨row,hr⟩:=Classical.axiomOfChoice each;have as9:0<len->a.spot=none:=λh0=>by
        obtain⟨_,h1,_⟩:=hr 0 h0;have:=(World.cells?_some h1).2.2 0 dN;have hl:=(World.cells?_some h1).2.1;rw[H0 (by omega)]at this;simp only[Zo1,Addr.add,Zh1]at this;unfold World.cell? at this;split at this
        . split at this
          .cases this
          .rename_i h;simpa using h
        .cases this
     have awv:((List.range len).map r).length=len:=(by simp);have get:∀(i:Nat)(c:List AV),((List.range len).map r)[i]? =some c->i<len/\c=r i:=λi c hi=>by
        rw[Zb7]at hi;by_cases h:i<len
        .rw[Zh8 h]at hi;simp at hi;exact⟨h,hi.symm⟩
        .rw[Zc3 (by simpa using h)]at hi;cases hi
     refine⟨_,⟨false,(List.range len).map r,rfl,?_,by simp;omega⟩,λρ m=>aK.cons ?_ aK.nil⟩
     .  intro q hq;simp only[Zc7,Zg5]at hq;obtain⟨i,hi,rfl⟩:=hq;exact(hr i hi).1
     .  have key:aC ρ m (λad=>w.cell? ad) (.fl ((List.range len).map r) es) (.slice (some a) ((List.range len).map r).length cap):=by
          refine .fl _ es cap a (λi j=>((row i)[j]?).getD .nilFunc) (by omega) (λh0=>as9 ?_) (λi c hi=> ?_) (λi j c v hi hj=> ?_) (λi j c v hi hj=> ?_)
          .apply Zl4;intro h;apply h0;have:len=0:=(by omega);subst this;rfl
          .obtain⟨h1,rfl⟩:=get i c hi;exact hQ _ (hr i h1).1
          . obtain⟨h1,rfl⟩:=get i c hi;obtain⟨q1,q2,q3⟩:=hr i h1;have hj2:j<es:=(by rw[<-hQ _ q1];exact(Za2.1 hj).1);have q4:=(World.cells?_some q2).2.2 j hj2;have q5:=(World.cells?_some q2).2.1;have hs:=as9 (by omega);have e1:(a.add (i*es)).add j=⟨a.block,a.off+i*es+j,none⟩:=by
             obtain⟨aM,off,spot⟩:=a;simp only at hs;subst hs;unfold Addr.add;by_cases e1:i*es=0<;>by_cases e2:j=0<;>simp[e1,e2]
            rw[e1]at q4;show w.cell? _=_;rw[q4,H0 (by omega)];rfl
          .obtain⟨h1,rfl⟩:=get i c hi;obtain⟨q1,q2,q3⟩:=hr i h1;have hj2:j<es:=(by rw[<-hQ _ q1];exact(Za2.1 hj).1);have q5:=(World.cells?_some q2).2.1;refine(q3 ρ m).2 j v _ hj ?_;rw[H0 (by omega)];rfl
        rw[awv]at key;exact key
def Ts:List (List AV->Prop)->List (List AV)->Prop
 |[],[]=>True
 |Q::Qs,p::ps=>Q p/\Ts Qs ps
 |_,_=>False
def XG(P:Program)(tot:Nat):Nat->List Field->Bool
 |o,[]=>o==tot
 |o,f::fs=>f.offset==o&&XG P tot (o+P.cellsOf f.type) fs
def aic(enc:TypeId×Value->H)(P:Program)(w:World)(base:Nat)(spare:Nat->Bool)(held:Bool):List TypeId->List (List AV->Prop)->Prop
 |[],[]=>True
 |f::fs,Q::Qs=>pQ enc P w base spare held f Q/\aic enc P w base spare held fs Qs
 |_,_=>False
theorem XH{tot n:Nat}:∀(fs:List Field)(Qs:List (List AV->Prop))(o:Nat)(cs:List Value),XG P tot o fs=true->aic enc P w base spare held (fs.map (·.type)) Qs->cs.length=tot->
  (∀f∈fs,∃y,DataW.trod enc P w base spare held n f.type ((cs.drop f.offset).take (P.cellsOf f.type))=some y)->
  ∃parts,Ts Qs parts/\∀ρ m,aK ρ m (λad=>w.cell? ad) parts.flatten (cs.drop o)
 |[],[],o,cs,hc,_,hl,_=>by simp only[XG,beq_iff_eq]at hc;refine⟨[],trivial,λρ m=> ?_⟩;rw[List.drop_eq_nil_of_le (by omega)];exact aK.nil
 |f::fs,Q::Qs,o,cs,hc,hO,hl,hf=>by
  simp only[XG,Zb1,beq_iff_eq]at hc;obtain⟨y,hy⟩:=hf f (by simp);obtain⟨as,hq,hv⟩:=hO.1 n _ y hy;obtain⟨parts,hp,QI⟩:=XH fs Qs _ cs hc.2 hO.2 hl (λg hg=>hf g (Zb0 _ hg));refine⟨as::parts,⟨hq,hp⟩,λρ m=> ?_⟩;have e:cs.drop o=(cs.drop f.offset).take (P.cellsOf f.type)++cs.drop (o+P.cellsOf f.type):=by
   rw[hc.1, <-Zl3,Zm1]
  rw[e,Zf8];exact(hv ρ m).append (QI ρ m)
def fieldsOf(P:Program)(t:TypeId):List Field:=match P.underlying t with
 |some (.struct fs)=>fs.toList
 |_=>[]
def aid(P:Program)(t:TypeId):Bool:=match P.underlying t with
 |some (.struct _)=>true
 |_=>false
theorem aie{t:TypeId}(ts:List TypeId){Qs:List (List AV->Prop)}(hs:aid P t=true)(uT:(fieldsOf P t).map (·.type)=ts)(hc:XG P (P.cellsOf t) 0 (fieldsOf P t)=true)(hO:aic enc P w base spare held ts Qs):
  pQ enc P w base spare held t λas=>∃parts,as=parts.flatten/\Ts Qs parts:=
 fun fuel cs x hx=>by
  obtain⟨fs,ht⟩:∃fs,P.underlying t=some (.struct fs):=by
     unfold aid at hs;cases h:P.underlying t with
     |none=>rw[h]at hs;cases hs
     |some d=>rw[h]at hs;cases d<;>first|exact⟨_,rfl⟩|cases hs
  have ef:fieldsOf P t=fs.toList:=by unfold fieldsOf;rw[ht]
  rw[ef]at uT hc;subst uT;obtain⟨xs,n,_,_,hl,hxl,hf⟩:=DataW.trod_struct ht hx;obtain⟨parts,hp,hv⟩:=XH fs.toList Qs 0 cs hc hO hl (λf hf2=>by
     obtain⟨i,hi⟩:=List.getElem?_of_mem hf2;have sy:fs[i]? =some f:=(by rw[<-Zi4];exact hi);have aW:i<fs.size:=(Zd3.1 sy).1;exact⟨xs[i],by rw[hf i f sy,H0 (by omega)]⟩)
  exact⟨_,⟨parts,rfl,hp⟩,λρ m=>hv ρ m⟩
end
def Quiet(w w':World):Prop:=w'.os=w.os/\w'.tape=w.tape/\w'.output=w.output/\w.heap.size<=w'.heap.size/\∀k,k<w.heap.size->w'.heap[k]? =w.heap[k]?
def ZQ:List AV->St->Option (AV×St)
 |[],st=>some (.bool true,st)
 |_,_=>none
theorem afO{P:Program}{C:Cells}{f:FuncId}{fn:Func}{c:Code}(hf:P.funcs[f]? =some fn)(o7:¬fn.name= "runtime.NumGoroutine")(hb:fn.body=some c)
  (h:∀w:World,(∀ad u,C ad=some u->w.cell? ad=some u)->Calls P f #[] w λe w'=>e= .returned (.bool true)/\Quiet w w'):qD P C f ZQ where
 mono args st v st' hs:=by
  unfold ZQ at hs;split at hs<;>first|(cases hs;done)|skip
  simp only[H5,Zd2]at hs;rw[<-hs.2];exact Za3 _
 runs ρ st w args v st' cq hs hW hv:=by
  unfold ZQ at hs;split at hs<;>first|(cases hs;done)|skip
  simp only[H5,Zd2]at hs;obtain⟨rfl,rfl⟩:=hs;obtain rfl:=hv.kO;have dO:(callFunc f ([]:List Value).toArray).run P w= .ok (.enter f #[]) w:=by simp[callFunc,hf,o7,hb]
  rw[dO];refine Calls.mono (h w λad u ha=>(hW.dW ad u ha).1) λe w' he=> ?_
  obtain⟨rfl,h1,h2,h3,h4,h5⟩:=he;exact⟨ρ,.bool true,λ_ _=>rfl,Za3 _,hW.grow h4 h5,⟨h1,h2,h3,h4,λk hk _=>h5 k hk,λb x hb=>.inl ⟨b,x,hb,rfl⟩⟩⟩
theorem aq2{P:Program}{C:Cells}{call:aj}{f:FuncId}{fn:Func}{c:Code}{args:List AV}{cq:List Value}{b:Bool}{n0:Pos}{bE:St}{w:World}
  (cH:jt P C call) (hC:∀ad v,C ad=some v->w.cell? ad=some v) (hC2:∀a v,C a=some v->∀o,C ⟨a.block,o,none⟩=none->w.cell? ⟨a.block,o,none⟩=none) (hf:P.funcs[f]? =some fn) (o7:¬fn.name= "runtime.NumGoroutine") (hb:fn.body=some c)
  (ha:aK (λ_=>⟨0,0,0⟩) n0.toNat C args cq) (h:call f args { heap:= .e,next:=n0 }=some (.bool b,bE)):
  Calls P f cq.toArray w λe w'=>e= .returned (.bool b)/\Quiet w w':=by
 have hr:=cH (λ_=>⟨0,0,0⟩) { heap:= .e,next:=n0 } w f args (.bool b) bE cq h (HZ hC hC2) ha;have dO:(callFunc f cq.toArray).run P w= .ok (.enter f cq.toArray) w:=by simp[callFunc,hf,o7,hb]
 rw[dO]at hr;refine Calls.mono hr λe w' he=> ?_
 cases e with
 |returned x=>
  obtain⟨ρ',h1,_,_,_,hE⟩:=he;have:=h1.lH;subst this;exact⟨rfl,hE.os,hE.tape,hE.output,hE.size,λk hk=>hE.block k hk λb x hb=>by rw[T.dS]at hb;cases hb⟩
 |panicked c=>exact he.elim
 |outgrown=>exact he.elim
end
section
open Go Go.ChangeShapes Go.WideShapes Go.ChangeAt Go.RowKit
theorem Quiet.below{w w':World}(h:Quiet w w'):Below w.heap.size w w':=⟨h.1,h.2.1,h.2.2.1,h.2.2.2.1,h.2.2.2.2⟩
section
variable{H:Type}{enc:TypeId×Value->H}{P:Program}
theorem Vb{W W':World}(hl:laidOutB P=true)(hb:Below W.heap.size W W'):∀{ts:List TypeId}{vs:List Value}{ds:List (DataW H)}{p:List MemPlace},
  DataW.TrodAll enc P W 0 (λ_=>true) true ts vs ds p->(∀t∈ts,P.readableRec t=true/\t<P.types.size)->(∀x∈p,x.block<W.heap.size)->
  DataW.TrodAll enc P W' 0 (λb=>decide (b<W.heap.size)) true ts vs ds p
 |[],_,_,_,h,_,_=>by obtain⟨rfl,rfl,rfl⟩:=trodAll_nil h;exact trodAll_mk0
 |t::ts,_,_,_,h,hr,hx=>by
  obtain⟨v,vs1,d,ds1,a,b,rfl,rfl,rfl,h1,h2⟩:=trodAll_cons h
  exact trodAll_cons_mk (Below.trod hl (hr t (by simp)).1 (hr t (by simp)).2 h1 hb (λx hx2=>hx x (Zm6 _ hx2)))
   (Vb hl hb h2 (λt ht=>hr t (Zb0 _ ht)) (λx hx2=>hx x (List.mem_append_right _ hx2)))
theorem aok{f:Func}{s:ChangeSpec}{W W':World}{args:Array Value}{ds gs:List (DataW H)}{before:List MemPlace}{tb:TypeId}(hl:laidOutB P=true)
   (hW:DataW.Whole enc P f.params.toList s.vars false W args.toList ds gs before) (hv:s.vars=[]) (HW:s.fn H (ds++gs)={ results:=[.lit (.bool true)],args:=ds })
   (hr:∀t∈f.params.toList,P.readableRec t=true/\t<P.types.size) (hB:Below W.heap.size W W') (abU:f.resultTypes= #[tb]) (htb:P.underlying tb=some .bool):
   s.post enc P f false true false false W args (.bool true) W':=by
 have aW:=hW.lt;have jD:=hW;obtain⟨p,q,hA,hV,rfl,hfz,hnd⟩:=hW;have hq:q=[]:=by
   rw[hv]at hV;cases gs with
   |nil=>exact hV
   |cons g gs=>exact hV.elim
 subst hq;refine⟨ds,gs,p++[],[],p,[],jD,?_,?_,?_,hB.frame _,λh=>by cases h⟩
 .rw[HW,abU];exact trodAll_cons_mk (shut_bool htb _) trodAll_mk0
 .rw[HW];exact Vb hl hB hA hr (λx hx=>aW x (Zm6 _ hx))
 .rw[HW,hv];rfl
end
section
variable{H:Type}{enc:TypeId×Value->H}{P:Program}{w:World}{base:Nat}{spare:Nat->Bool}{held:Bool}
theorem adj{t:TypeId}{fs:Array Field}{Q:List AV->Prop}{r:Go.Reach}{b0:Nat}{v:Value}{d:DataW H}{p:List MemPlace}(ho:pQ enc P w base spare held t Q)(ht:P.underlying t=some (.struct fs))
  (hval:Value.okWide P w r b0 t v) (hd:DataW.Trod enc P w base spare held t v d p):∃as,Q as/\∀ρ n,aC ρ n (λad=>w.cell? ad) (.agg as) v:=by
 obtain⟨cs,rfl,_⟩:=okWide_struct ht hval;obtain⟨fuel,hf⟩:=hd;obtain⟨as,h1,h2⟩:=ho _ _ _ hf;refine⟨as,h1,λρ n=> ?_⟩;have h3:=h2 ρ n;refine .agg as cs (by rw[h3.1];simp[Value.cells]) λi x x' hx xB=>h3.2 i x x' hx ?_
 simpa [Value.cells]using xB
end
end
section
open Go
theorem aC.aww{ρ:Pos->Loc}{n:Nat}{C C':Cells}{v:AV}{x:Value}(hC:∀ad u,C ad=some u->C' ad=some u)(h:aC ρ n C v x):aC ρ n C' v x:=by
 induction h with
 |bool b=>exact .bool b
 |int k i=>exact .int k i
 |str s bs h=>exact .str s bs h
 |jg=>exact .jg
 |ptr b off h=>exact .ptr b off h
 |fp xs i j es aM base cell hl hc _ ih=>exact .fp xs i j es aM base cell hl (λi j cs v h1 h2=>hC _ _ (hc i j cs v h1 h2)) ih
 |af=>exact .af
 |slice b off len cap es br a hl hc ha hk=>exact .slice b off len cap es br a hl hc ha hk
 |fl xs es br a cell hl hs dN hc _ ih=>exact .fl xs es br a cell hl hs dN (λi j cs v h1 h2=>hC _ _ (hc i j cs v h1 h2)) ih
 |qX=>exact .qX
 |map b h=>exact .map b h
 |func f x y x' y' hx hy _ _ ih1 ih2=>exact .func f x y x' y' hx hy ih1 ih2
 |jX=>exact .jX
 |B9=>exact .B9
 |iface t v x _ ih=>exact .iface t v x ih
 |agg l cs hl _ ih=>exact .agg l cs hl ih
 |tuple l cs hl _ ih=>exact .tuple l cs hl ih
def nh(ρ:Pos->Loc)(n:Nat)(C:Cells)(w:World)(v u:AV):Prop:=∀x,aC ρ n C v x->aC ρ n (λad=>w.cell? ad) u x
section
variable{ρ:Pos->Loc}{C:Cells}{st:St}{w:World}
theorem nh.self{n:Nat}(hC:∀ad u,C ad=some u->w.cell? ad=some u)(v:AV):nh ρ n C w v v:=λ_ h=>h.aww hC
theorem nh.agg{n:Nat}{l l':List AV}(hl:l.length=l'.length)(h:∀(i:Nat)(v u:AV),l[i]? =some v->l'[i]? =some u->nh ρ n C w v u):nh ρ n C w (.agg l) (.agg l'):=λx hx=>by
 cases hx with
 |agg _ cs h1 h2=>
  refine .agg l' cs (by omega) λi u x hu hx=> ?_
  have hi:i<l.length:=by rw[hl];exact(Za2.1 hu).1
  exact h i l[i] u (H0 hi) hu _ (h2 i _ x (H0 hi) hx)
theorem nh.slice(hW:bZ ρ C st w){b:Pos}{off len es fz:Nat}{cap:Option Nat}{cs:List AV}(hb:st.heap.get b=some (.cells cs fz))(hlen:off+len*es<=cs.length){F:List (List AV)}(hF:F.length=len)
  (dN:∀(i:Nat)(r:List AV),F[i]? =some r->r.length=es)
  (hr:∀(i j:Nat)(r:List AV)(u v:AV),F[i]? =some r->r[j]? =some u->cs[off+i*es+j]? =some v->nh ρ st.next.toNat C w v u):
  nh ρ st.next.toNat C w (.slice b off len cap es) (.fl F es):=λx hx=>by
 cases hx with
 |slice  _ _ _ _ _ br a hl hc ha hk=>
  have get:∀(i j:Nat)(r:List AV)(u:AV),F[i]? =some r->r[j]? =some u->i<len/\j<es/\off+i*es+j<cs.length/\0<br:=λi j r u h1 h2=>by
   have g1:i<len:=(by rw[<-hF];exact(Za2.1 h1).1);have g2:j<es:=(by rw[<-dN i r h1];exact(Za2.1 h2).1);have g3:(i+1)*es<=len*es:=Zh4 _ g1;rw[Zh5]at g3;exact⟨g1,g2,by omega,by omega⟩
  have cell:∀(i j:Nat)(r:List AV)(u:AV),F[i]? =some r->r[j]? =some u->∃v y,cs[off+i*es+j]? =some v/\w.cell? ⟨a.block,a.off+i*es+j,none⟩=some y/\aC ρ st.next.toNat C v y:=λi j r u h1 h2=>by
   obtain⟨g1,g2,g3,g4⟩:=get i j r u h1 h2;obtain⟨_,rfl,_⟩:=ha (by omega);have hv:=H0 g3;obtain⟨y,q1,q2⟩:=hW.cell hb hv;exact⟨_,y,hv,by rw[show(ρ b).base+off+i*es+j=(ρ b).base+(off+i*es+j)by omega];exact q1,q2⟩
  have key:aC ρ st.next.toNat (λad=>w.cell? ad) (.fl F es) (.slice (some a) F.length br):=by
   refine .fl F es br a (λi j=>(w.cell? ⟨a.block,a.off+i*es+j,none⟩).getD .nilFunc) (by omega) (λh0=> ?_) dN (λi j r u h1 h2=> ?_) (λi j r u h1 h2=> ?_)
   .    cases awx:len with
        |zero=>exfalso;apply h0;rw[awx]at hF;exact List.length_eq_zero_iff.1 hF
        |succ m=>
         obtain⟨_,rfl,_⟩:=ha (by omega);rfl
   .    obtain⟨v,y,_,q2,_⟩:=cell i j r u h1 h2;show w.cell? _=_;rw[q2];rfl
   .    obtain⟨v,y,q1,q2,q3⟩:=cell i j r u h1 h2;rw[q2];exact hr i j r u v h1 h2 q1 y q3
  rw[hF]at key;exact key
end
def fW (st:St):Nat->AV->AV
 |0,v=>v
 |  d+  1,.slice b off len cap es=>match decide (len=0)with
    |true=>.fl [] es
    |false=>match st.heap.get b with
     |  some (.cells cs _)=>match decide (off+len*es<=cs.length)with
        |true=>.fl ((List.range len).map λi=>((cs.drop (off+i*es)).take es).map (fW st d)) es
        |false=>.slice b off len cap es
     |_=>.slice b off len cap es
 |  d+1,.ptr b off=>match st.heap.get b with
    |some (.cells cs _)=>.fp [cs.map (fW st d)] 0 off
    |_=>.ptr b off
 |d+1,.agg l=>.agg (l.map (fW st d))
 |d+1,.func f x y=>.func f (x.map (fW st d)) (y.map (fW st d))
 |_,v=>v
theorem afP(st:St)(d:Nat)(b:Pos)(off len:Nat)(cap:Option Nat)(es:Nat):fW st (d+1) (.slice b off len cap es)=match decide (len=0)with
 |true=>.fl [] es
 |false=>match st.heap.get b with
  |     some (.cells cs _)=>match decide (off+len*es<=cs.length)with
        |true=>.fl ((List.range len).map λi=>((cs.drop (off+i*es)).take es).map (fW st d)) es
        |false=>.slice b off len cap es
  |_=>.slice b off len cap es:=rfl
theorem atG(st:St)(d:Nat)(b:Pos)(off:Nat):fW st (d+1) (.ptr b off)=match st.heap.get b with
 |some (.cells cs _)=>.fp [cs.map (fW st d)] 0 off
 |_=>.ptr b off:=rfl
theorem ak5(st:St)(d:Nat)(l:List AV):fW st (d+1) (.agg l)= .agg (l.map (fW st d)):=rfl
theorem aq3(st:St)(d:Nat)(f:FuncId)(x y:List AV):fW st (d+1) (.func f x y)= .func f (x.map (fW st d)) (y.map (fW st d)):=rfl
section
variable{ρ:Pos->Loc}{C:Cells}{st:St}{w:World}
theorem nh.ptr(hW:bZ ρ C st w){b:Pos}{off fz:Nat}{cs F:List AV}(hb:st.heap.get b=some (.cells cs fz))(hF:F.length=cs.length)
  (hr:∀(j:Nat)(u v:AV),F[j]? =some u->cs[j]? =some v->nh ρ st.next.toNat C w v u):nh ρ st.next.toNat C w (.ptr b off) (.fp [F] 0 off):=λx hx=>by
 cases hx with
 |ptr   _ _ h=>
  have row:∀(i j:Nat)(r:List AV)(u:AV),[F][i]? =some r->r[j]? =some u->i=0/\∃v y,cs[j]? =some v/\w.cell? ⟨(ρ b).aM,(ρ b).base+j,none⟩=some y/\aC ρ st.next.toNat C v y/\F[j]? =some u:=λi j r u h1 h2=>by
   have hi:i=0:=(by have:=(Za2.1 h1).1;simp at this;exact this);subst hi;simp at h1;subst h1;have hj:j<cs.length:=(by rw[<-hF];exact(Za2.1 h2).1);obtain⟨y,q1,q2⟩:=hW.cell hb (H0 hj);exact⟨rfl,_,y,H0 hj,q1,q2,h2⟩
  have key:aC ρ st.next.toNat (λad=>w.cell? ad) (.fp [F] 0 off) (.pointer (some ⟨(ρ b).aM,(ρ b).base+0*cs.length+off,none⟩)):=by
   refine .fp [F] 0 off cs.length (ρ b).aM (ρ b).base (λ_ j=>(w.cell? ⟨(ρ b).aM,(ρ b).base+j,none⟩).getD .nilFunc) (λi r h1=> ?_) (λi j r u h1 h2=> ?_) (λi j r u h1 h2=> ?_)
   .    have hi:i=0:=(by have:=(Za2.1 h1).1;simp at this;exact this);subst hi;simp at h1;subst h1;exact hF
   .    obtain⟨rfl,v,y,_,q2,_⟩:=row i j r u h1 h2;show w.cell? _=_;rw[show(ρ b).base+0*cs.length+j=(ρ b).base+j by omega,q2];rfl
   .    obtain⟨rfl,v,y,q1,q2,q3,q4⟩:=row i j r u h1 h2;rw[q2];exact hr j u v q4 q1 y q3
  rw[show(ρ b).base+0*cs.length+off=(ρ b).base+off by omega]at key;exact key
theorem nh.fW (hW:bZ ρ C st w):∀(d:Nat)(v:AV),nh ρ st.next.toNat C w v (fW st d v)
 |0,v=>nh.self (λad u h=>(hW.dW ad u h).1) v
 |d+    1,v=>   by
  have self:=nh.self (ρ:=ρ) (n:=st.next.toNat) (λad u h=>(hW.dW ad u h).1) v;cases v with
  |slice    b off len cap es=>
   rw[afP];split
   .    rename_i h0;obtain rfl:=Zg2 h0;intro x hx;cases hx with
        | slice _ _ _ _ _ br a hl hc ha hk=>
          exact .fl [] es br a (λ_ _=>.nilFunc) (Zi0 _) (λh=>absurd rfl h) (λi c h=>by simp at h) (λi j c v h=>by simp at h) (λi j c v h=>by simp at h)
   split
   .    rename_i cs fz hb;split
        . rename_i hle;have hle:=Zg2 hle;refine nh.slice hW hb hle (by simp) (λi r hi=> ?_) (λi j r u v hi hj hv=> ?_)
          . rw[Zb7]at hi;by_cases h:i<len
            .rw[Zh8 h]at hi;simp only[Ze0,H5]at hi;subst hi;have g3:(i+1)*es<=len*es:=Zh4 _ h;rw[Zh5]at g3;simp;omega
            .rw[Zc3 (by simpa using h)]at hi;cases hi
          . rw[ Zb7]at hi;by_cases h:i<len
            . rw[Zh8 h]at hi;simp only[Ze0,H5]at hi;subst hi;rw[Zb7,Ze4]at hj;split at hj
              .rw[Ze7,hv]at hj;simp only[Ze0,H5]at hj;subst hj;exact nh.fW hW d v
              .cases hj
            .rw[Zc3 (by simpa using h)]at hi;cases hi
        .exact self
   .    exact self
  |ptr b off=>
   rw[atG];split
   .    rename_i cs fz hb;refine nh.ptr hW hb (by simp) (λj u v hu hv=> ?_);rw[Zb7,hv]at hu;simp only[Ze0,H5]at hu;subst hu;exact nh.fW hW d v
   .    exact self
  |agg l=>
   rw[ak5];refine nh.agg (by simp) (λi v u h1 h2=> ?_);rw[Zb7,h1]at h2;simp only[Ze0,H5]at h2;subst h2;exact nh.fW hW d v
  |func f x y=>
   rw[aq3];intro v' hv;cases hv with
   |    func _ _ _ x' y' hx hy h1 h2=>
        have one:∀(l:List AV)(xs:Array Value),(∀(i:Nat)(v:AV)(v':Value),l[i]? =some v->xs[i]? =some v'->aC ρ st.next.toNat C v v')->∀(i:Nat)(v:AV)(v':Value),(l.map (Go.Ai.fW st d))[i]? =some v->xs[i]? =some v'->aC ρ st.next.toNat (λad=>w.cell? ad) v v':=λl xs h i u v' hu hx=>by
          rw[Zb7]at hu;cases hg:l[i]? with
          |none=>rw[hg]at hu;cases hu
          | some v0=>
            rw[hg]at hu;simp only[Ze0,H5]at hu;subst hu;exact nh.fW hW d v0 _ (h i v0 v' hg hx)
        exact .func f _ _ x' y' (by simpa using hx) (by simpa using hy) (one x x' h1) (one y y' h2)
  |_=>exact self
theorem aK.fW(hW:bZ ρ C st w)(d:Nat){l:List AV}{xs:List Value}(h:aK ρ st.next.toNat C l xs):aK ρ st.next.toNat (λad=>w.cell? ad) (l.map (Go.Ai.fW st d)) xs:=
 ⟨by rw[<-h.1];simp,λi u x hu hx=>by
  rw[Zb7]at hu;cases hv:l[i]? with
  |none=>rw[hv]at hu;cases hu
  |  some v=>
     rw[hv]at hu;simp only[Ze0,H5]at hu;subst hu;exact nh.fW hW d v _ (h.2 i v x hv hx)⟩
end
def bN(v:AV):Prop:=∀(ρ:Pos->Loc)(n:Nat)(C C':Cells)(x:Value),aC ρ n C v x->aC ρ n C' v x
theorem bN.bool(b:Bool):bN (.bool b):=λ_ _ _ _ _ h=>by cases h;exact .bool b
theorem bN.int(k:IntKind)(i:Int):bN (.int k i):=λ_ _ _ _ _ h=>by cases h;exact .int k i
theorem bN.str(s:List Nat):bN (.str s):=λ_ _ _ _ _ h=>by cases h with|str _ bs h=>exact .str s bs h
theorem bN.af:bN .af:=λ_ _ _ _ _ h=>by cases h;exact .af
theorem bN.jX:bN .jX:=λ_ _ _ _ _ h=>by cases h;exact .jX
theorem bN.ptr(b:Pos)(o:Nat):bN (.ptr b o):=λ_ _ _ _ _ h=>by cases h with|ptr _ _ h=>exact .ptr b o h
theorem bN.map(b:Pos):bN (.map b):=λ_ _ _ _ _ h=>by cases h with|map _ h=>exact .map b h
theorem bN.slice(b:Pos)(o l:Nat)(c:Option Nat)(es:Nat):bN (.slice b o l c es):=λ_ _ _ _ _ h=>by
 cases h with|slice _ _ _ _ _ br a h1 h2 h3 h4=>exact .slice b o l c es br a h1 h2 h3 h4
theorem bN.tuple{l:List AV}(hl:∀v∈l,bN v):bN (.tuple l):=λ_ _ _ _ _ h=>by
 cases h with|tuple _ cs hx h1=>exact .tuple l cs hx λi v x hv hx=>hl v (Zc1 hv) _ _ _ _ _ (h1 i v x hv hx)
theorem bN.agg{l:List AV}(hl:∀v∈l,bN v):bN (.agg l):=λ_ _ _ _ _ h=>by
 cases h with|agg _ cs hx h1=>exact .agg l cs hx λi v x hv hx=>hl v (Zc1 hv) _ _ _ _ _ (h1 i v x hv hx)
theorem bN.func(f:FuncId){a b:List AV}(ha:∀v∈a,bN v)(hb:∀v∈b,bN v):bN (.func f a b):=λ_ _ _ _ _ h=>by
 cases h with
 |func _ _ _ a' b' hx hy h1 h2=>exact .func f a b a' b' hx hy (λi v x hv hx=>ha v (Zc1 hv) _ _ _ _ _ (h1 i v x hv hx)) (λi v x hv hx=>hb v (Zc1 hv) _ _ _ _ _ (h2 i v x hv hx))
def Lu:AB->Prop
 |.cells cs _=>∀v∈cs,bN v
 |.map es _=>∀e∈es,bN e.1/\bN e.2.1
theorem Lu.rel{x:AB}(h:Lu x){ρ:Pos->Loc}{n:Nat}{C C':Cells}{L:Loc}{w:World}(k:uh ρ n C L w x):uh ρ n C' L w x:=by
 cases x with
 |cells cs fz=>
  obtain⟨c,e,fr,h1,h2,h3,h4,h5⟩:=k;exact⟨c,e,fr,h1,h2,h3,⟨h4.1,λi v x hv hx=>h v (Zc1 hv) _ _ _ _ _ (h4.2 i v x hv hx)⟩,h5⟩
 |map es clock=>
  obtain⟨es',h1,h2,h3⟩:=k;exact⟨es',h1,h2,λi e e' he sw=>let⟨a,b,c⟩:=h3 i e e' he sw;⟨(h e (Zc1 he)).1 _ _ _ _ _ a,(h e (Zc1 he)).2 _ _ _ _ _ b,c⟩⟩
def T.both{α:Type}:T α->T α->T α
 |t,.e=>t
 |.e,t=>t
 |.n l v r,.n l' v' r'=>.n (T.both l l') (v.or v') (T.both r r')
theorem T.aol{α:Type}(t:T α):T.both t .e=t:=by cases t<;>rfl
theorem T.GU{α:Type}:∀(p:Pos)(t t':T α),(T.both t t').get p=(t.get p).or (t'.get p)
 |p,t,.e=>by rw[T.aol,T.dS];simp
 |p,.e,.n l v r=>by rw[T.dS];rfl
 |.h,.n l v r,.n l' v' r'=>rfl
 |.o p,.n l v r,.n l' v' r'=>T.GU p l l'
 |.i p,.n l v r,.n l' v' r'=>T.GU p r r'
def T.keep{α:Type}(P:α->Bool):T α->T α
 |.e=>.e
 |.n l v r=>.n (T.keep P l) (v.filter P) (T.keep P r)
theorem T.Tt{α:Type}(P:α->Bool):∀(p:Pos)(t:T α),(T.keep P t).get p=(t.get p).filter P
 |p,.e=>by rw[T.keep,T.dS];rfl
 |.h,.n l v r=>rfl
 |.o p,.n l v r=>T.Tt P p l
 |.i p,.n l v r=>T.Tt P p r
open Classical in
noncomputable def D6(t:T AB):T AB:=T.keep (λx=>decide (Lu x)) t
theorem afQ{t:T AB}{p:Pos}{x:AB}(h:(D6 t).get p=some x):t.get p=some x/\Lu x:=by
 unfold D6 at h;rw[T.Tt]at h;cases hg:t.get p with
 |none=>rw[hg]at h;cases h
 |some y=>
  rw[hg]at h;simp only[Option.filter]at h;split at h
  .rename_i hb;cases h;exact⟨rfl,@Zg2 _ (Classical.propDecidable _) hb⟩
  .cases h
theorem aom{t:T AB}{p:Pos}{x:AB}(h:t.get p=some x)(hb:Lu x):(D6 t).get p=some x:=by
 unfold D6;rw[T.Tt,h];simp[Option.filter,hb]
theorem atH:D6 .e= .e:=rfl
def Shut(n0:Pos)(r:AV×St):Prop:=bN r.1/\n0.toNat<=r.2.next.toNat
open Classical in
noncomputable def XI(call:aj)(f:FuncId)(d:Nat):List AV->St->Option (AV×St):=λargs st=>
 match call f (args.map (fW st d)) { heap:= .e,next:=st.next }with
 |some (v,bE)=>if Shut st.next (v,bE)then some (v,{ heap:=T.both st.heap (D6 bE.heap),next:=bE.next })else none
 |none=>none
theorem ak6{call:aj}{f:FuncId}{d:Nat}{args:List AV}{st:St}{v:AV}{bE:St}(h:call f (args.map (fW st d)) { heap:= .e,next:=st.next }=some (v,bE))(hs:Shut st.next (v,bE)):
  XI call f d args st=some (v,{ heap:=T.both st.heap (D6 bE.heap),next:=bE.next }):=by
 unfold XI;rw[h];simp only;rw[Zb6 hs]
theorem aq4{call:aj}{f:FuncId}{d:Nat}{args:List AV}{st:St}{v:AV}(h:call f (args.map (fW st d)) { heap:= .e,next:=st.next }=some (v,{ heap:= .e,next:=st.next }))(hs:bN v):
  XI call f d args st=some (v,st):=by
 rw[ak6 h ⟨hs,Za3 _⟩];simp only[atH,T.aol]
theorem abV {P:Program}{C:Cells}{f:FuncId}{call:aj}{d:Nat}(dI:∀C':Cells,(∀ad u,C ad=some u->C' ad=some u)->jt P C' call):qD P C f (XI call f d) where
 mono args st v st' h:=by
  unfold XI at h;split at h
  . split at h
    .   rename_i hs;simp only[H5,Zd2]at h;rw[<-h.2];exact hs.2
    .   cases h
  .cases h
 runs ρ st  w args v st' cq h hW hv:=by
  unfold XI at h;split at h
  . rename_i v1 bE hc;split at h
    .   rename_i hs;simp only[H5,Zd2]at h;obtain⟨rfl,rfl⟩:=h;obtain⟨s1,s3⟩:=hs;have hr:=dI (λad=>w.cell? ad) (λad u ha=>(hW.dW ad u ha).1) ρ { heap:= .e,next:=st.next } w f _ v1 bE cq hc (HZ (λad u ha=>ha) λa u _ o ho=>ho) (aK.fW hW d hv);refine Reaches.mono (λx w' he=> ?_) hr
        . obtain⟨ρ',h1,h2,h3,h4,hE⟩:=he;have un:∀k,k<w.heap.size->w'.heap[k]? =w.heap[k]? :=λk hk=>hE.block k hk λb x hb=>by rw[T.dS]at hb;cases hb
          have new:∀b x,bE.heap.get b=some x->w.heap.size<=(ρ' b).aM:=λb x hx=>by
            rcases hE.yX b x hx with⟨b',x',dY,_⟩|hh
            .rw[T.dS]at dY;cases dY
            .exact hh
          have both:∀b x,(T.both st.heap (D6 bE.heap)).get b=some x->(st.heap.get b=some x/\ρ' b=ρ b)\/(bE.heap.get b=some x/\Lu x):=λb x hx=>by
            rw[T.GU]at hx;cases hg:st.heap.get b with
            |none=>rw[hg]at hx;exact .inr (afQ (by simpa using hx))
            |some y=>rw[hg]at hx;simp at hx;subst hx;exact .inl ⟨rfl,h2 b (hW.live b y hg).1⟩
          refine⟨ρ',s1 _ _ _ _ _ h1,h2,s3,⟨λb x hx=> ?_,λb b' x x' hx xB ze=> ?_,λa u ha=> ?_,λa u ha o ho=> ?_⟩,⟨hE.os,hE.tape,hE.output,hE.size,λk hk _=>un k hk,λb x hx=> ?_⟩⟩
          . rcases both b x hx with⟨hg,bF⟩|⟨hg,ahb⟩
            .obtain⟨l1,l2,l3⟩:=hW.live b x hg;refine⟨Zd0 l1 s3,by rw[bF];exact Zd0 l2 hE.size,?_⟩;rw[bF];exact(l3.of_heap (un _ l2)).mono h2 s3
            .obtain⟨l1,l2,l3⟩:=h4.live b x hg;exact⟨l1,l2,ahb.rel l3⟩
          . rcases both b x hx with⟨hg,bF⟩|⟨hg,ahb⟩
            . rcases both b' x' xB with⟨DK,GK⟩|⟨DK,_⟩
              .rw[bF,GK]at ze;exact hW.inj b b' x x' hg DK ze
              .have q1:=(hW.live b x hg).2.1;have q2:=new b' x' DK;rw[bF]at ze;omega
            . rcases both b' x' xB with⟨DK,GK⟩|⟨DK,_⟩
              .have q1:=(hW.live b' x' DK).2.1;have q2:=new b x hg;rw[GK]at ze;omega
              .exact h4.inj b b' x x' hg DK ze
          . obtain⟨c1,c2⟩:=hW.dW a u ha;have aW:a.block<w.heap.size:=World.block_lt_of_cell? _ _ c1;refine⟨(h4.dW a u c1).1,λb x hx=> ?_⟩;rcases both b x hx with⟨hg,bF⟩|⟨hg,ahb⟩
            .rw[bF];exact c2 b x hg
            .have:=new b x hg;omega
          .have aW:a.block<w.heap.size:=World.block_lt_of_cell? _ _ (hW.dW a u ha).1;rw[World.cell?_of_block (w:=w) (a:=⟨a.block,o,none⟩) (un _ aW)];exact hW.whole a u ha o ho
          . rcases both b x hx with⟨hg,bF⟩|⟨hg,ahb⟩
            .exact .inl ⟨b,x,hg,by rw[bF]⟩
            .exact .inr (new b x hg)
    .   cases h
  .cases h
theorem ak7(H:Pos->Option AB)(n:Pos)(k k':IntKind)(a b:Int):aG.run H n .minB [.int k a,.int k' b]=some (.val (.int k (min a b))):=by
 show some (eO.val (.int k (match BQ b a with|true=>b|false=>a)))=_;rw[fo];by_cases h:b<a
 .rw[Za0 h];simp only;rw[Int.min_eq_right (by omega)]
 .rw[Za1 h];simp only;rw[Int.min_eq_left (by omega)]
theorem atI(H:Pos->Option AB)(n:Pos)(k k':IntKind)(a b:Int):aG.run H n .maxB [.int k a,.int k' b]=some (.val (.int k (max a b))):=by
 show some (eO.val (.int k (match BQ a b with|true=>b|false=>a)))=_;rw[fo];by_cases h:a<b
 .rw[Za0 h];simp only;rw[Int.max_eq_right (by omega)]
 .rw[Za1 h];simp only;rw[Int.max_eq_left (by omega)]
theorem atJ(H:Pos->Option AB)(n:Pos)(q:iu)(k:IntKind)(a b:Int)(hb:b≠0):aG.run H n (.bin .quo q) [.int k a,.int k b]=some (.val (.int k (ax k (a.tdiv b)))):=by
 simp[aG.run,jH,pV,dL,nM,hb]
theorem atK(H:Pos->Option AB)(n:Pos)(q:iu)(k:IntKind)(a b:Int)(hb:b≠0):aG.run H n (.bin .rem q) [.int k a,.int k b]=some (.val (.int k (a.tmod b))):=by
 simp[aG.run,jH,pV,dL,nM,hb]
section
variable{R:Type}(c:aj)(K:AV->St->Option R)(st:St)
@[simp] theorem ak8(k k':IntKind)(a b:Int):aq c .minB [.int k a,.int k' b] st K=K (.int k (min a b)) st:=aV c K (λH n=>ak7 H n k k' a b) st
@[simp] theorem axl(k k':IntKind)(a b:Int):aq c .maxB [.int k a,.int k' b] st K=K (.int k (max a b)) st:=aV c K (λH n=>atI H n k k' a b) st
theorem atL(q:iu)(k:IntKind)(a b:Int)(hb:b≠0):aq c (.bin .quo q) [.int k a,.int k b] st K=K (.int k (ax k (a.tdiv b))) st:=aV c K (λH n=>atJ H n q k a b hb) st
theorem aeA(q:iu)(k:IntKind)(a b:Int)(hb:b≠0):aq c (.bin .rem q) [.int k a,.int k b] st K=K (.int k (a.tmod b)) st:=aV c K (λH n=>atK H n q k a b hb) st
@[simp] theorem oP(q:iu)(k:IntKind)(a:Int):aq c (.bin .quo q) [.int k a,.int k 2] st K=K (.int k (ax k (a.tdiv 2))) st:=atL c K st q k a 2 (by decide)
@[simp] theorem iq(q:iu)(k:IntKind)(a:Int):aq c (.bin .rem q) [.int k a,.int k 2] st K=K (.int k (a.tmod 2)) st:=aeA c K st q k a 2 (by decide)
end
def aL:AV->Option Pos
 |.slice b _ n cap _=>if cap=some 0/\n=0 then none else some b
 |_=>none
theorem tO{b b':Pos}{off n es:Nat}{cap:Option Nat}(h:aL (.slice b off n cap es)=some b'):b=b':=by
 simp only[aL]at h;split at h
 .cases h
 .exact Zi8 h
theorem je(b:Pos)(off n es:Nat):aL (.slice b off n none es)=some b:=by simp[aL]
theorem mq(b:Pos)(off es:Nat):aL (.slice b off 0 (some 0) es)=none:=by simp[aL]
def QS(es:Nat)(s:St)(v:AV)(rows:List (List AV)):Prop:=
 (v= .af/\rows=[])\/(∃b off cap cs,v= .slice b off rows.length cap es/\s.heap.get b=some (.cells cs 0)/\off+rows.length*es<=cs.length/\(cs.drop off).take (rows.length*es)=rows.flatten/\(cap=none\/cap=some rows.length))\/
    (∃b off,v= .slice b off 0 (some 0) es/\rows=[])
theorem QS.nil{es:Nat}{s:St}:QS es s .af []:= .inl ⟨rfl,rfl⟩
theorem QS.mono{es:Nat}{s s':St}{v:AV}{rows:List (List AV)}(h:QS es s v rows)(hk:∀b x,aL v=some b->s.heap.get b=some x->s'.heap.get b=some x):QS es s' v rows:=by
 rcases h with⟨rfl,rfl⟩|⟨b,off,cap,cs,rfl,h1,h2,h3,h4⟩|⟨b,off,rfl,rfl⟩
 .exact .inl ⟨rfl,rfl⟩
 . by_cases h0:cap=some 0/\rows.length=0
   .obtain⟨rfl,h0⟩:=h0;refine .inr (.inr ⟨b,off,by rw[h0],Zc2 h0⟩)
   .exact .inr (.inl ⟨b,off,cap,cs,rfl,hk b _ (by simp only[aL];rw[Za7 h0]) h1,h2,h3,h4⟩)
 .exact .inr (.inr ⟨b,off,rfl,rfl⟩)
theorem QS.len{es:Nat}{s:St}{v:AV}{rows:List (List AV)}(h:QS es s v rows):dV v=some rows.length:=by rcases h with⟨rfl,rfl⟩|⟨b,off,cap,cs,rfl,_⟩|⟨b,off,rfl,rfl⟩<;>rfl
theorem QS.lt{es:Nat}{s:St}{v:AV}{rows:List (List AV)}(h:QS es s v rows)(hw:Wf s){b:Pos}(hb:aL v=some b):b.toNat<s.next.toNat:=by
 rcases h with⟨rfl,rfl⟩|⟨b',off,cap,cs,rfl,h1,_⟩|⟨b',off,rfl,rfl⟩
 .cases hb
 .obtain rfl:=tO hb;exact hw _ _ h1
 .rw[mq]at hb;cases hb
theorem QS.first{es:Nat}{s:St}{v:AV}{rows:List (List AV)}(h:QS es s v rows)(hr:∀r∈rows,r.length=es):dF es rows.length (λb=>s.heap.get b) v=some rows.flatten:=by
 rcases h with⟨rfl,rfl⟩|⟨b,off,cap,cs,rfl,h1,h2,h3,h4⟩|⟨b,off,rfl,rfl⟩
 .rfl
 rotate_left
 .simp[dF,cO]
 . by_cases h0:rows.length*es=0
   .simp only[dF,cO,Za0 h0];have:rows.flatten=[]:=(by rw[<-h3,h0];simp);rw[this]
   .simp only[dF,cO,Za1 h0,h1];unfold cut;rw[cU,Za0 h2];simp only;rw[h3]
theorem QS.app{R:Type}{c:aj}{es bytes:Nat}{s:St}{v:AV}{rows:List (List AV)}(hw:Wf s)(h:QS es s v rows)(hr:∀r∈rows,r.length=es){q:Pos}{row:List AV}(hq:s.heap.get q=some (.cells row 0))(gQ:row.length=es)(h1:aQ row=true)
   (dN:es≠0) (hb:(2*(rows.length+1)+768)*bytes<=281474976710656) (hn:rows.length<=4000000):
   ∃ s5,(∀(K:AV->St->Option R),aq c (.append es bytes) [v,.slice q 0 1 (some 1) es] s K=K (.slice s.next 0 (rows.length+1) none es) s5)/\QS es s5 (.slice s.next 0 (rows.length+1) none es) (rows++[row])/\
     Wf s5/\s5.next=s.next.succ/\(∀p,aL v≠some p->p.toNat<s.next.toNat->s5.heap.get p=s.heap.get p)/\s5.heap.get s.next=some (.cells (rows.flatten++row) 0):=by
 have hx:dF es 1 (λb=>s.heap.get b) (.slice q 0 1 (some 1) es)=some row:=by simp only[dF,cO,Zp6,Za1 dN,hq];exact cQ gQ
 have ho:=h.first hr;have hlen:rows.flatten.length=rows.length*es:=by
   clear h ho hn hb;induction rows with
   |nil=>simp
   | cons r rows ih=>
     have:=ih (λx hx=>hr x (Zb0 _ hx));have h2:=hr r (by simp);simp only[Zf8,Zd6,Zc6,Zh5];omega
 have new:∀(s5:St),s5.heap.get s.next=some (.cells (rows.flatten++row) 0)->QS es s5 (.slice s.next 0 (rows.length+1) none es) (rows++[row]):=λs5 hs=>by
   refine .inr (.inl ⟨s.next,0,none,rows.flatten++row,by simp,hs,?_,?_,.inl rfl⟩)
   .simp only[Zd6,Zc6,Zi2,Zb8,Zj7,Zp6,hlen,gQ];omega
   .simp only[Ze5,List.flatten_append,Zf8,List.flatten_nil,Zd9];refine Zf1 ?_;simp only[Zd6,Zc6,Zi2,Zb8,Zj7,Zp6,hlen,gQ];omega
 have uE:(2*(rows.length+1)+768)*bytes<=281474976710656:=hb;have uD:rows.length+1<=9223372036854775807:=by omega
 rcases h with⟨rfl,rfl⟩|⟨b,off,cap,cs,rfl,g1,g2,g3,g4⟩|⟨b,off,rfl,rfl⟩
 rotate_right
 . have run:aG.run (λb=>s.heap.get b) s.next (.append es bytes) [.slice b off 0 (some 0) es,.slice q 0 1 (some 1) es]=some (.bk (.slice s.next 0 (0+1) none es) none none (some (.cells ([]++row) 0))):=(by have h2:¬(0+1<=0):=(by omega);have Mj:dF es 0 (λb=>s.heap.get b) (.slice b off 0 (some 0) es)=some []:=(by simp[dF,cO]);simp only[aG.run,iE];rw[show dV (.slice b off 0 (some 0) es)=some 0 from rfl,show dV (.slice q 0 1 (some 1) es)=some 1 from rfl];have Vc:(2*(0+1)+768)*bytes<=281474976710656:=(by simpa using hb);simp only[cU,cO,Za0 Vc,Za1 h2,hx,Mj];simp);refine⟨ah s (.cells row 0),λK=> ?_,?_,bG hw,rfl,λp _ hp=>uq hp,by simpa using aA s (.cells row 0)⟩
   .unfold aq cJ;simp only[Zi2]at run ⊢; rw[run];rfl
   .simpa using new (ah s (.cells row 0)) (by simpa using aA s (.cells row 0))
 .refine⟨ah s (.cells row 0),λK=>ah9 c K (m:=1) rfl (by omega) (by simpa using hb) (by omega) hx,?_,bG hw,rfl,λp _ hp=>uq hp,by simpa using aA s (.cells row 0)⟩;simpa using new (ah s (.cells row 0)) (by simpa using aA s (.cells row 0))
 . rcases g4 with rfl|rfl
   .have run:aG.run (λb=>s.heap.get b) s.next (.append es bytes) [.slice b off rows.length none es,.slice q 0 1 (some 1) es]=some (.bk (.slice s.next 0 (rows.length+1) none es) (some b) none (some (.cells (rows.flatten++row) (0 - off)))):=(by simp only[aG.run,iE];rw[show dV (.slice b off rows.length none es)=some rows.length from rfl,show dV (.slice q 0 1 (some 1) es)=some 1 from rfl];simp only[cU,cO,Za0 uE,Za0 uD,hx,g1,ho,h1];simp);refine⟨dst s b (.cells (rows.flatten++row) 0),λK=> ?_,new _ (ZP _ _ _),ah8 hw,rfl,λp hp hl=>To (λe=>hp (by rw[e,je])) hl,ZP _ _ _⟩;unfold aq cJ;rw[run];simp only[Nat.zero_sub];rfl
   . have h2:¬(rows.length+1<=rows.length):=(by omega);have run:aG.run (λb=>s.heap.get b) s.next (.append es bytes) [.slice b off rows.length (some rows.length) es,.slice q 0 1 (some 1) es]=some (.bk (.slice s.next 0 (rows.length+1) none es) none none (some (.cells (rows.flatten++row) 0))):=by
        simp only[aG.run,iE];rw[show dV (.slice b off rows.length (some rows.length) es)=some rows.length from rfl,show dV (.slice q 0 1 (some 1) es)=some 1 from rfl];simp only[cU,cO,Za0 uE,Za0 uD,Za1 h2,hx,ho]
     refine⟨ah s (.cells (rows.flatten++row) 0),λK=> ?_,new _ (aA _ _),bG hw,rfl,λp _ hp=>uq hp,aA _ _⟩;unfold aq cJ;rw[run];rfl
theorem LU{R:Type}{c:aj}{es:Nat}{z:List AV}{x:AV}(hz:z.length=es)(hx:x.cells.length=es)(s:St)(K:AV->St->Option R):
  aq c (.buildSlice es 1 z [0]) [x] s K=K (.slice s.next 0 1 (some 1) es) (ah s (.cells x.cells 0)):=by
 have:cK (bW z 1) ([0].map λi=>(i*es,es)) [x]=some x.cells:=by
  simp only[Zd1,Zi5,Zo1,bW,Zd9,cK,cO,cU,hx,Zg6,Zb8,hz,Za3];simp only[aU,Zq9,Ze3,Zb8];rw[Zo2 (by omega),Zd9]
 rw[au,this];rfl
structure Mk(es:Nat)(s0 s:St)(v:AV)(rows:List (List AV)):Prop where
 jE:Wf s0
 ai:Grew s0 s
 own:QS es s v rows
 new:∀b,aL v=some b->s0.next.toNat<=b.toNat
 row:∀r∈rows,r.length=es
 cap:∀b off n cp e,v= .slice b off n cp e->cp=none\/(n=0/\cp=some 0)
 tight:∀b,aL v=some b->s.heap.get b=some (.cells rows.flatten 0)
theorem Mk.start{es:Nat}{s0 s:St}(h0:Wf s0)(hg:Grew s0 s):Mk es s0 s .af []:=⟨h0,hg,QS.nil,λb h=>(by cases h),λr h=>(by cases h),λb off n cp e h=>(by cases h),λb h=>(by cases h)⟩
theorem Mk.grow{es:Nat}{s0 s s':St}{v:AV}{rows:List (List AV)}(h:Mk es s0 s v rows)(hg:Grew s s'):Mk es s0 s' v rows:=
 ⟨h.jE,h.ai.trans hg,h.own.mono λb x _ hx=>hg.get hx,h.new,h.row,h.cap,λb hb=>hg.get (h.tight b hb)⟩
theorem Mk.push{R:Type}{c:aj}{es bytes:Nat}{s0 s:St}{v:AV}{rows:List (List AV)}(h:Mk es s0 s v rows){z:List AV}{x:AV}(hz:z.length=es)(hx:x.cells.length=es)(h1:aQ x.cells=true)(dN:es≠0)
   (hb:(2*(rows.length+1)+768)*bytes<=281474976710656) (hn:rows.length<=4000000):
   ∃ s5 v',(∀(K:AV->St->Option R),aq c (.buildSlice es 1 z [0]) [x] s (λy t=>aq c (.append es bytes) [v,y] t K)=K v' s5)/\Mk es s0 s5 v' (rows++[x.cells])/\
     (∀p b,aL v≠some p->s.heap.get p=some b->s5.heap.get p=some b)/\∀b,aL v'=some b->s.next.toNat<=b.toNat:=by
 have hw:=h.ai.wf;have cZ:Wf (ah s (.cells x.cells 0)):=bG hw;have g1:=Grew.ah hw (.cells x.cells 0);obtain⟨s5,a1,a2,a3,a4,a5,a6⟩:=QS.app (R:=R) (c:=c) (bytes:=bytes) cZ (h.own.mono λb x _ hx=>g1.get hx) h.row (aA s (.cells x.cells 0)) hx h1 dN hb hn;have keep:∀p b,aL v≠some p->s.heap.get p=some b->s5.heap.get p=some b:=λp b hp hg=>by have aW:=hw _ _ hg;rw[a5 p hp (by rw[bP,Pos.aF];omega)];exact g1.get hg
 refine⟨s5,_,λK=> ?_,⟨h.jE,⟨a3,λp b hg=> ?_,?_⟩,a2,λb hb=> ?_,λr hr=> ?_,λb off n cp e he=> ?_,λb hb=> ?_⟩,keep,λb hb=> ?_⟩
 .rw[LU hz hx,a1]
 .have xC:=h.ai.get hg;refine keep p b (λe=> ?_) xC;have:=h.new p e;have:=h.jE p b hg;omega
 .have:=h.ai.next;rw[a4,bP,Pos.aF,Pos.aF];omega
 .rw[je]at hb;cases hb;have:=h.ai.next;rw[bP,Pos.aF];omega
 . rcases Zd7.1 hr with hr|hr
   .exact h.row r hr
   .simp at hr;subst hr;exact hx
 .cases he;exact .inl rfl
 .rw[je]at hb;cases hb;rw[a6];simp
 .rw[je]at hb;cases hb;rw[bP,Pos.aF];omega
theorem yD{b:Pos}{off n es:Nat}(h:Plain (.slice b off n none es)):False:=by
 have h1:aC (λ_=>⟨0,0,off+n*es⟩) (b.toNat+1) (λ_=>none) (.slice b off n none es) (.slice (some ⟨0,0+off,none⟩) n n):=
  .slice b off n none es n _ (Za3 _) (λc hc=>by cases hc) (λ_=>⟨by omega,rfl,by simp⟩) (λ_=>by omega)
 have h2:=h _ (λ_=>⟨0,0,0⟩) _ 0 _ _ h1;cases h2 with
 |slice _ _ _ _ _ _ _ _ _ _ hk=>exact absurd (hk rfl) (by omega)
theorem Mk.tidy{es:Nat}{s s':St}{v:AV}{rows:List (List AV)}(h:Mk es s s' v rows):∃fU,Go.Ai.tidy s (v,s')=(v,fU)/\Mk es s fU v rows:=by
 unfold Go.Ai.tidy;by_cases hp:Plain (v,s').1/\aX s (v,s').2
 . rw[Zb6 hp];refine⟨s,rfl,?_⟩;rcases h.own with⟨rfl,rfl⟩|⟨b,off,cap,cs,rfl,_⟩|⟨b,off,rfl,rfl⟩
   .exact Mk.start h.jE (Grew.refl h.jE)
   . rcases h.cap _ _ _ _ _ rfl with rfl|⟨h0,rfl⟩
     .exact(yD hp.1).elim
     .exact⟨h.jE,Grew.refl h.jE,.inr (.inr ⟨b,off,by rw[h0],Zc2 h0⟩),λb hb=>(by rw[h0,mq]at hb;cases hb),h.row,h.cap,λb hb=>(by rw[h0,mq]at hb;cases hb)⟩
   .exact⟨h.jE,Grew.refl h.jE,.inr (.inr ⟨b,off,rfl,rfl⟩),λb hb=>(by rw[mq]at hb;cases hb),h.row,h.cap,λb hb=>(by rw[mq]at hb;cases hb)⟩
 .rw[Za7 hp];exact⟨s',rfl,h⟩
theorem QS.fW{es d:Nat}{s:St}{v:AV}{rows:List (List AV)}(h:QS es s v rows)(hr:∀r∈rows,r.length=es):
   ∃z,Go.Ai.fW s (d+1) v=ro es z (rows.map λr=>r.map (Go.Ai.fW s d)):=by
 rcases h with⟨rfl,rfl⟩|⟨b,off,cap,cs,rfl,h1,h2,h3,h4⟩|⟨b,off,rfl,rfl⟩
 .exact⟨true,rfl⟩
 rotate_left
 .exact⟨false,rfl⟩
 . refine⟨false,?_⟩;by_cases h0:rows.length=0
   .obtain rfl:=Zc2 h0;rfl
   rw[afP,Za1 h0];simp only;rw[h1];simp only[Za0 h2];show AV.fl _ _=AV.fl _ _;congr 1;(refine List.ext_getElem (by simp) λi p1 p2=> ?_);simp only[Za4,Zr3]at p1;simp only[Zl8,List.getElem_range];congr 1;have key:∀(rows:List (List AV))(i:Nat)(hi:i<rows.length),(∀r∈rows,r.length=es)->((rows.flatten).drop (i*es)).take es=rows[i]:=by
     intro rows;induction rows with
     |nil=>intro i hi;simp at hi
     |  cons r rows ih=>
        intro i hi hr;have hl:=hr r (by simp);cases i with
        |zero=>simp[<-hl]
        |succ i=>
         have:=ih i (by simpa using hi) (λx hx=>hr x (Zb0 _ hx));rw[Zf8,Zh5,Zr6, <-hl,List.drop_append];simp only[Zo3];rw[<-this,hl];simp[List.drop_eq_nil_of_le (show r.length<=es+i*es by omega)]
   rw[<-key rows i p1 hr, <-h3];rw[Zn9,List.take_take,Zl3];congr 1;have:(i+1)*es<=rows.length*es:=Zh4 _ p1;rw[Zh5]at this;omega
section
variable{R:Type}(c:aj)(K:AV->St->Option R)(st:St)
theorem ji{b:Pos}{off len es es':Nat}{cap:Option Nat}{k:IntKind}{i:Nat}(h:i<len):aq c (.idxA es none) [.slice b off len cap es',.int k (i:Int)] st K=K (.ptr b (off+i*es)) st:=
 aV c K (λH n=>by
  simp only[aG.run,td,jJ];have:Nat.blt i len=true:=by rw[Zr7];exact h
  rw[this]) st
theorem lR(b:Pos)(off len es:Nat)(cap:Option Nat):aq c (.lenB .l) [.slice b off len cap es] st K=K (.int .i64 (len:Int)) st:=aV c K (λH n=>rfl) st
theorem aon{b:Pos}{off len es:Nat}{cap:Option Nat}(h:1<=len)(hc:∀x,cap=some x->len<=x):
  aq c (.sliceL es true false false) [.slice b off len cap es,.int .i64 1] st K=K (.slice b (off+1*es) (len - 1) (cap.map (· - 1)) es) st:=
 aV c K (λH n=>by
  have hb:bounds true false false [.int .i64 1]=some (some 1,none,none):=rfl;simp only[aG.run,iZ,hb,cO,cU,Zg6,Ze8,Zi9,Za0 h];cases cap with
  |none=>simp
  |some x=>simp[hc x rfl]) st
theorem aeB{es bytes:Nat}{z:List AV}{k k':IntKind}{n:Nat}(h1:bytes*n<=281474976710656)(h2:n<=9223372036854775807):
  aq c (.mkSlice es bytes z) [.int k (n:Int),.int k' (n:Int)] st K=K (.slice st.next 0 n (some n) es) (ah st (.cells (bW z n) 0)):=by
 have:aG.run (λb=>st.heap.get b) st.next (.mkSlice es bytes z) [.int k (n:Int),.int k' (n:Int)]=some (.bk (.slice st.next 0 n (some n) es) none none (some (.cells (bW z n) 0))):=by
  simp only[aG.run,DD,jJ,cU,Za0 h1,Za0 h2,Za3,Zg6]
 unfold aq cJ;rw[this];rfl
end
theorem D7{α:Type}(x:α):∀n:Nat,bW [x] n=List.replicate n x
 |0=>rfl
 |n+1=>by simp[bW,D7 x n,Zn0]
theorem zn{rows:List (List AV)}{es:Nat}(hr:∀r∈rows,r.length=es):∀(i j:Nat)(r:List AV)(u:AV),rows[i]? =some r->r[j]? =some u->rows.flatten[i*es+j]? =some u:=by
 induction rows with
 |nil=>intro i j r u h;simp at h
 |cons r0 rows ih=>
  intro i j r u h1 h2;have hl:=hr r0 (by simp);cases i with
  |zero=>
   simp at h1;subst h1;have:=(Za2.1 h2).1;rw[Zf8,Zo1,Zb8,Zc5 this];exact h2
  |succ i=>
   rw[Zf8,Zc4 (by rw[Zh5];omega)];rw[show(i+1)*es+j - r0.length=i*es+j by rw[Zh5];omega];exact ih (λx hx=>hr x (Zb0 _ hx)) i j r u (by simpa using h1) h2
theorem QS.at{R:Type}{c:aj}{es:Nat}{s:St}{v:AV}{rows:List (List AV)}(h:QS es s v rows)(hr:∀r∈rows,r.length=es)(dN:es≠0){i:Nat}(hi:i<rows.length):
   ∃b o cs,(∀(K:AV->St->Option R)(k:IntKind)(s1:St),aq c (.idxA es none) [v,.int k (i:Int)] s1 K=K (.ptr b o) s1)/\aL v=some b/\s.heap.get b=some (.cells cs 0)/\∀j u,rows[i][j]? =some u->cs[o+j]? =some u:=by
 rcases h with⟨rfl,rfl⟩|⟨b,off,cap,cs,rfl,g1,g2,g3,g4⟩|⟨b,off,rfl,rfl⟩
 .simp at hi
 rotate_left
 .simp at hi
 . refine⟨b,off+i*es,cs,λK k s1=>ji c K s1 hi,by simp only[aL];rw[Za7 (by omega)],g1,λj u hj=> ?_⟩;have hri:=hr rows[i] (Zb9 hi);have hj2:j<es:=(by rw[<-hri];exact(Za2.1 hj).1);have:=zn hr i j rows[i] u (H0 hi) hj;rw[<-g3,Ze4]at this;split at this
   .rw[Ze7]at this;rw[<-this];congr 1;omega
   .cases this
theorem QS.tail{R:Type}{c:aj}{es:Nat}{s:St}{v:AV}{r:List AV}{rows:List (List AV)}(h:QS es s v (r::rows))(hr:r.length=es):
   ∃v',(∀(K:AV->St->Option R)(s1:St),aq c (.sliceL es true false false) [v,.int .i64 1] s1 K=K v' s1)/\QS es s v' rows/\∀b,aL v'=some b->aL v=some b:=by
 rcases h with⟨rfl,h⟩|⟨b,off,cap,cs,rfl,g1,g2,g3,g4⟩|⟨b,off,rfl,h⟩
 .cases h
 rotate_left
 .cases h
 . refine⟨.slice b (off+1*es) rows.length (cap.map (· - 1)) es,λK s1=> ?_,.inr (.inl ⟨b,off+1*es,cap.map (· - 1),cs,rfl,g1,?_,?_,?_⟩),λb' hb=>by
     obtain rfl:=tO hb;simp only[aL,Zc6];rw[Za7 (by omega)]⟩
   .rw[aon c K s1 (by simp) (λx hx=>by rcases g4 with rfl|rfl<;>cases hx;exact Za3 _)];simp
   .simp only[Zc6,Zh5]at g2;omega
   . have:((cs.drop off).take ((r::rows).length*es)).drop es=rows.flatten:=(by rw[g3,Zf8, <-hr];simp);rw[<-this,Zn9,Zl3];congr 1
     .simp only[Zc6,Zh5];omega
     .congr 1;omega
   . rcases g4 with rfl|rfl
     .exact .inl rfl
     .right;simp
theorem QS.ata{R:Type}{c:aj}{es bytes:Nat}{s:St}{v:AV}{rows:List (List AV)}(hw:Wf s)(h:QS es s v rows)(hr:∀r∈rows,r.length=es){z:List AV}{x:AV}(hz:z.length=es)(hx:x.cells.length=es)(h1:aQ x.cells=true)(dN:es≠0)
   (hb:(2*(rows.length+1)+768)*bytes<=281474976710656) (hn:rows.length<=4000000):
   ∃s5 v',(∀(K:AV->St->Option R),aq c (.buildSlice es 1 z [0]) [x] s (λy t=>aq c (.append es bytes) [v,y] t K)=K v' s5)/\QS es s5 v' (rows++[x.cells])/\Wf s5/\s.next.toNat<=s5.next.toNat/\
    (∀p b,aL v≠some p->s.heap.get p=some b->s5.heap.get p=some b)/\(∀b,aL v'=some b->s.next.toNat<=b.toNat)/\∀b,aL v'=some b->s5.heap.get b=some (.cells (rows.flatten++x.cells) 0):=by
 have cZ:Wf (ah s (.cells x.cells 0)):=bG hw;have g1:=Grew.ah hw (.cells x.cells 0);obtain⟨s5,a1,a2,a3,a4,a5,a6⟩:=QS.app (R:=R) (c:=c) (bytes:=bytes) cZ (h.mono λb x _ hx=>g1.get hx) hr (aA s (.cells x.cells 0)) hx h1 dN hb hn;refine⟨s5,_,λK=>by rw[LU hz hx,a1],a2,a3,by rw[a4,bP,Pos.aF,Pos.aF];omega,λp b hp hg=> ?_,λb hb=> ?_,λb hb=> ?_⟩
 .have aW:=hw _ _ hg;rw[a5 p hp (by rw[bP,Pos.aF];omega)];exact g1.get hg
 .rw[je]at hb;cases hb;rw[bP,Pos.aF];omega
 .rw[je]at hb;cases hb;exact a6
theorem QS.push{R:Type}{c:aj}{es bytes:Nat}{s:St}{v:AV}{rows:List (List AV)}(hw:Wf s)(h:QS es s v rows)(hr:∀r∈rows,r.length=es){z:List AV}{x:AV}(hz:z.length=es)(hx:x.cells.length=es)(h1:aQ x.cells=true)(dN:es≠0)
  (hb:(2*(rows.length+1)+768)*bytes<=281474976710656) (hn:rows.length<=4000000):
  ∃s5 v',(∀(K:AV->St->Option R),aq c (.buildSlice es 1 z [0]) [x] s (λy t=>aq c (.append es bytes) [v,y] t K)=K v' s5)/\QS es s5 v' (rows++[x.cells])/\Wf s5/\s.next.toNat<=s5.next.toNat/\
   (∀p b,aL v≠some p->s.heap.get p=some b->s5.heap.get p=some b)/\∀b,aL v'=some b->s.next.toNat<=b.toNat:=by
 obtain⟨s5,v',a1,a2,a3,a4,a5,a6,_⟩:=QS.ata (R:=R) (c:=c) (bytes:=bytes) hw h hr hz hx h1 dN hb hn;exact⟨s5,v',a1,a2,a3,a4,a5,a6⟩
theorem QS.lenB{R:Type}{c:aj}{es:Nat}{s:St}{v:AV}{rows:List (List AV)}(h:QS es s v rows)(K:AV->St->Option R)(s1:St):aq c (.lenB .l) [v] s1 K=K (.int .i64 (rows.length:Int)) s1:=by
 rcases h with⟨rfl,rfl⟩|⟨b,off,cap,cs,rfl,_⟩|⟨b,off,rfl,rfl⟩
 .exact aV c K (λH n=>rfl) s1
 .exact lR c K s1 _ _ _ _ _
 .exact lR c K s1 _ _ _ _ _
def dU(v:AV):Prop:=∃N0 K0:Nat,∀N K:Nat,N0<=N->K0<=K->∃x,aC (λ_=>⟨0,0,K⟩) N (λ_=>none) v x
theorem dU.int(k:IntKind)(i:Int):dU (.int k i):=⟨0,0,λ_ _ _ _=>⟨_,.int k i⟩⟩
theorem dU.bool(b:Bool):dU (.bool b):=⟨0,0,λ_ _ _ _=>⟨_,.bool b⟩⟩
theorem dU.af:dU .af:=⟨0,0,λ_ _ _ _=>⟨_,.af⟩⟩
theorem dU.str{s:List Nat}(h:∀x∈s,x<256):dU (.str s):=⟨0,0,λ_ _ _ _=>⟨.string ⟨(s.map UInt8.ofNat).toArray⟩,.str s _ (by
 show(s.map UInt8.ofNat).toArray.toList.map UInt8.toNat=s;simp only[Zi1]
 conv=>rhs;rw[<-Zs5 s]
 refine Zl0 λc hc=> ?_
 have:=h c hc;simp[UInt8.toNat_ofNat];omega)⟩⟩
theorem dU.slice(b:Pos)(off n es:Nat):dU (.slice b off n none es):=⟨b.toNat+1,off+n*es,λN K hN hK=>⟨.slice (some ⟨0,0+off,none⟩) n n,
 .slice b off n none es n _ (Za3 _) (λc hc=>by cases hc) (λ_=>⟨by omega,rfl,by simpa using hK⟩) (λ_=>by omega)⟩⟩
theorem dU.zero(b:Pos)(off es:Nat):dU (.slice b off 0 (some 0) es):=⟨0,0,λN K _ _=>⟨.slice (some ⟨0,0,none⟩) 0 0,
 .slice b off 0 (some 0) es 0 _ (Za3 _) (λc hc=>by cases hc;rfl) (λh=>absurd rfl h) (λh=>by cases h)⟩⟩
theorem inst_list:∀{l:List AV},(∀v∈l,dU v)->∃N0 K0:Nat,∀N K:Nat,N0<=N->K0<=K->∃xs,aK (λ_=>⟨0,0,K⟩) N (λ_=>none) l xs
 |[],_=>⟨0,0,λ_ _ _ _=>⟨[],aK.nil⟩⟩
 |v::l,h=>by
  obtain⟨N1,K1,h1⟩:=h v (by simp);obtain⟨N2,K2,h2⟩:=inst_list (λu hu=>h u (Zb0 _ hu));refine⟨max N1 N2,max K1 K2,λN K hN hK=> ?_⟩;obtain⟨x,hx⟩:=h1 N K (by omega) (by omega);obtain⟨xs,su⟩:=h2 N K (by omega) (by omega);exact⟨x::xs,aK.cons hx su⟩
theorem nR{l:List AV}(hi:∀v∈l,dU v){b:Pos}{off n es:Nat}(hm:AV.slice b off n none es∈l):¬Plain (.agg l):=λh=>by
 obtain⟨N0,K0,h1⟩:=inst_list hi;obtain⟨xs,hx⟩:=h1 N0 K0 (Za3 _) (Za3 _);have h2:aC (λ_=>⟨0,0,K0⟩) N0 (λ_=>none) (.agg l) (.agg xs.toArray):= .agg l _ (by rw[hx.1];simp) λi v x hv xB=>hx.2 i v x hv (by simpa using xB)
 have h3:=h _ (λ_=>⟨0,0,0⟩) _ 0 _ _ h2;obtain⟨i,aW,hi⟩:=Zg0.1 hm;cases h3 with
 |agg _ _ hl hc=>
  have aml:i<xs.toArray.size:=by rw[<-hl];exact aW
  obtain⟨y,hy⟩:∃y,xs.toArray[i]? =some y:=⟨_,Zg1 aml⟩
  have:=hc i _ y (by rw[H0 aW,hi]) hy;cases this with
  |slice _ _ _ _ _ _ _ _ _ _ hk=>exact absurd (hk rfl) (by omega)
theorem Mk.inst{es:Nat}{s s':St}{v:AV}{rows:List (List AV)}(h:Mk es s s' v rows):dU v:=by
 rcases h.own with⟨rfl,rfl⟩|⟨b,off,cap,cs,rfl,_⟩|⟨b,off,rfl,rfl⟩
 .exact dU.af
 . rcases h.cap _ _ _ _ _ rfl with rfl|⟨h0,rfl⟩
   .exact dU.slice _ _ _ _
   .rw[h0];exact dU.zero _ _ _
 .exact dU.zero _ _ _
theorem Mk.loose{es:Nat}{s s':St}{v:AV}{rows:List (List AV)}(h:Mk es s s' v rows):(∃b off n,v= .slice b off n none es)\/((∀t,Wf t->Mk es t t v rows)/\rows=[]):=by
 rcases h.own with⟨rfl,rfl⟩|⟨b,off,cap,cs,rfl,_⟩|⟨b,off,rfl,rfl⟩
 .exact .inr ⟨λt ht=>Mk.start ht (Grew.refl ht),rfl⟩
 . rcases h.cap _ _ _ _ _ rfl with rfl|⟨h0,rfl⟩
   .exact .inl ⟨_,_,_,rfl⟩
   .exact .inr ⟨λt ht=>⟨ht,Grew.refl ht,.inr (.inr ⟨b,off,by rw[h0],Zc2 h0⟩),λb hb=>(by rw[h0,mq]at hb;cases hb),h.row,h.cap,λb hb=>(by rw[h0,mq]at hb;cases hb)⟩,Zc2 h0⟩
 .exact .inr ⟨λt ht=>⟨ht,Grew.refl ht,.inr (.inr ⟨b,off,rfl,rfl⟩),λb hb=>(by rw[mq]at hb;cases hb),h.row,h.cap,λb hb=>(by rw[mq]at hb;cases hb)⟩,rfl⟩
theorem Mk.Tu{es:Nat}{s s':St}{v:AV}{rows:List (List AV)}(h:Mk es s s' v rows){l:List AV}(hm:v∈l)(hi:∀u∈l,dU u):∃fU,Go.Ai.tidy s (.agg l,s')=(.agg l,fU)/\(fU=s'\/fU=s)/\Mk es s fU v rows:=by
 unfold Go.Ai.tidy;by_cases hp:Plain (AV.agg l,s').1/\aX s (AV.agg l,s').2
 . rw[Zb6 hp];refine⟨s,rfl,.inr rfl,?_⟩;rcases h.loose with⟨b,off,n,rfl⟩|⟨hl,_⟩
   .exact absurd hp.1 (nR hi hm)
   .exact hl s h.jE
 .rw[Za7 hp];exact⟨s',rfl,.inl rfl,h⟩
theorem Mk.cells{es:Nat}{s s':St}{v:AV}{rows:List (List AV)}(h:Mk es s s' v rows):v.cells=[v]/\aQ [v]=true:=by
 rcases h.own with⟨rfl,rfl⟩|⟨b,off,cap,cs,rfl,_⟩|⟨b,off,rfl,rfl⟩<;>exact⟨rfl,rfl⟩
theorem Mk.store{es:Nat}{s s':St}{v:AV}{rows:List (List AV)}(h:Mk es s s' v rows){p:Pos}{b:AB}(hp:s.next.toNat<=p.toNat)(HU:p.toNat<s'.next.toNat)(cY:aL v≠some p):Mk es s (bh s' p b) v rows:=
 ⟨h.jE,⟨iU h.ai.wf HU,λq x hq=>by have:=h.jE _ _ hq;rw[aJ (λe=>by rw[e]at hp;omega)];exact h.ai.get hq,by rw[dM];exact h.ai.next⟩,
  h.own.mono λq x hq hx=>by rw[aJ (λe=>cY (by rw[hq,e]))];exact hx,h.new,h.row,h.cap,λb hb=>by rw[aJ (λe=>cY (by rw[hb,e]))];exact h.tight b hb⟩
theorem Mk.back{es:Nat}{s0 s s':St}{v:AV}{rows:List (List AV)}(h:Mk es s s' v rows)(h0:Wf s0)(hg:Grew s0 s):Mk es s0 s' v rows:=
 ⟨h0,hg.trans h.ai,h.own,λb hb=>Zb2 hg.next (h.new b hb),h.row,h.cap,h.tight⟩
theorem Ae{α:Type}(l:List α)(i:Nat)(h:i<l.length)(u:α):aU l i [u]=l.set i u:=by unfold aU;rw[Zn7,Zb6 h];simp
theorem PI{es:Nat}:∀(rows:List (List AV)),(∀r∈rows,r.length=es)->∀(i j:Nat)(hi:i<rows.length),j<es->∀u,rows.flatten.set (i*es+j) u=(rows.set i (rows[i].set j u)).flatten
 |[],_,i,j,hi,_,_=>by simp at hi
 |r::rows,hr,i,j,hi,hj,u=>by
  have hl:=hr r (by simp);cases i with
  |zero=>
   simp only[Zo1,Zb8,Zf8,Zr0,List.getElem_cons_zero];rw[List.set_append_left _ _ (by omega)]
  |succ i=>
   simp only[Zf8,List.set_cons_succ,Zo3];rw[Zk2 _ _ (by rw[Zh5];omega)];rw[show(i+1)*es+j - r.length=i*es+j by rw[Zh5];omega];rw[PI rows (λx hx=>hr x (Zb0 _ hx)) i j (by simpa using hi) hj u]
theorem QS.set{R:Type}{c:aj}{es:Nat}{s:St}{v:AV}{rows:List (List AV)}(h:QS es s v rows)(hr:∀r∈rows,r.length=es)(dN:es≠0){i:Nat}(hi:i<rows.length):
   ∃ b o cs,(∀(K:AV->St->Option R)(k:IntKind)(s1:St),aq c (.idxA es none) [v,.int k (i:Int)] s1 K=K (.ptr b o) s1)/\(∀(K:AV->Option R)(k:IntKind),eX (.idxA es none) [v,.int k (i:Int)] K=K (.ptr b o))/\aL v=some b/\s.heap.get b=some (.cells cs 0)/\o+es<=cs.length/\(∀j u,rows[i][j]? =some u->cs[o+j]? =some u)/\
     (∀j u (s':St),j<es->s'.heap.get b=some (.cells (aU cs (o+j) [u]) 0)->QS es s' v (rows.set i (rows[i].set j u)))/\
     ∀j u,j<es->cs=rows.flatten->aU cs (o+j) [u]=(rows.set i (rows[i].set j u)).flatten:=by
 rcases h with⟨rfl,rfl⟩|⟨b,off,cap,cs,rfl,g1,g2,g3,g4⟩|⟨b,off,rfl,rfl⟩
 .simp at hi
 rotate_left
 .simp at hi
 have hri:=hr rows[i] (Zb9 hi);have hm:(i+1)*es<=rows.length*es:=Zh4 _ hi;rw[Zh5]at hm;have hx:∀(k:IntKind)(H:Pos->Option AB)(n:Pos),aG.run H n (.idxA es none) [.slice b off rows.length cap es,.int k (i:Int)]=some (.val (.ptr b (off+i*es))):=λk H n=>by
   simp only[aG.run,td,jJ];have:Nat.blt i rows.length=true:=(by rw[Zr7];exact hi);rw[this]
 refine⟨b,off+i*es,cs,λK k s1=>ji c K s1 hi,λK k=>dD K (hx k),by simp only[aL];rw[Za7 (by omega)],g1,by omega,λj u hj=> ?_,λj u s' hj hs=> ?_,λj u hj he=> ?_⟩
 . have hj2:j<es:=(by rw[<-hri];exact(Za2.1 hj).1);have:=zn hr i j rows[i] u (H0 hi) hj;rw[<-g3,Ze4]at this;split at this
   .rw[Ze7]at this;rw[<-this];congr 1;omega
   .cases this
 .rw[Ae _ _ (by omega)]at hs;refine .inr (.inl ⟨b,off,cap,_,by simp,hs,by simpa using g2,?_,by simpa using g4⟩);rw[Zj3, <-PI rows hr i j hi hj u, <-g3,List.drop_set,Za7 (by omega),List.take_set];congr 1;omega
 . have hlen:rows.flatten.length=rows.length*es:=by
     clear g2 g3 g4 hi hri hm hx g1 he;induction rows with
     |nil=>simp
     |  cons r rows ih=>
        have:=ih (λx hx=>hr x (Zb0 _ hx));have h2:=hr r (by simp);simp only[Zf8,Zd6,Zc6,Zh5];omega
   have h0:off=0:=(by rw[he,hlen]at g2;omega);subst h0;rw[Ae _ _ (by omega),he, <-PI rows hr i j hi hj u];congr 1;omega
def Src(es:Nat)(s:St)(v:AV)(rows:List (List AV)):Prop:=v= .fl rows es\/QS es s v rows
theorem Src.len{es:Nat}{s:St}{v:AV}{rows:List (List AV)}(h:Src es s v rows):dV v=some rows.length:=by
 rcases h with rfl|h
 .rfl
 .exact h.len
theorem Src.mono{es:Nat}{s s':St}{v:AV}{rows:List (List AV)}(h:Src es s v rows)(hk:∀b x,aL v=some b->s.heap.get b=some x->s'.heap.get b=some x):Src es s' v rows:=h.imp id λh=>h.mono hk
theorem Src.ai{es:Nat}{s s':St}{v:AV}{rows:List (List AV)}(h:Src es s v rows)(hg:Grew s s'):Src es s' v rows:=h.mono λ_ _ _ hx=>hg.get hx
theorem Src.first{es:Nat}{s:St}{v:AV}{rows:List (List AV)}(h:Src es s v rows)(hr:∀r∈rows,r.length=es):dF es rows.length (λb=>s.heap.get b) v=some rows.flatten:=by
 rcases h with rfl|h
 .simp only[dF,cO,cU,Zg6,Za3,Zh9]
 .exact h.first hr
theorem Src.nil{es:Nat}{s:St}{v:AV}{rows:List (List AV)}(h:Src es s v rows):(v= .af/\rows=[])\/∀{R:Type}(c:aj)(K:AV->St->Option R)(t:St),aq c (.bin .eql .slice) [v,.af] t K=K (.bool false) t:=by
 rcases h with rfl|⟨rfl,rfl⟩|⟨b,off,cap,cs,rfl,_⟩|⟨b,off,rfl,rfl⟩
 .exact .inr λc K t=>aV c K (λH n=>rfl) t
 .exact .inl ⟨rfl,rfl⟩
 .exact .inr λc K t=>aV c K (λH n=>rfl) t
 .exact .inr λc K t=>aV c K (λH n=>rfl) t
theorem Src.ro{es:Nat}{s:St}(z:Bool)(rows:List (List AV)):Src es s (ro es z rows) rows:=by
 unfold Go.Ai.ro;split
 .exact .inr (.inl ⟨rfl,rfl⟩)
 .exact .inl rfl
theorem afR{es:Nat}:∀{rows:List (List AV)},(∀r∈rows,r.length=es)->rows.flatten.length=rows.length*es
 |[],_=>by simp
 |r::rows,hr=>by have ih:=afR (λx hx=>hr x (Zb0 _ hx));have h2:=hr r (by simp);simp only[Zf8,Zd6,Zc6,Zh5];omega
theorem afS{es bytes:Nat}{z:List AV}{src:AV}{rows:List (List AV)}(hr:∀r∈rows,r.length=es)(_hes:es≠0)(hb:(2*rows.length+768)*bytes<=281474976710656)(hn:rows.length<=4000000){c:aj}{R:Type}(s:St)(hw:Wf s)(h:Src es s src rows):
   ∃v s',(∀(K:AV->St->Option R),aq c (.buildSlice es 0 z []) [] s (λy t=>aq c (.append es bytes) [y,src] t K)=K v s')/\Mk es s s' v rows:=by
 have bs:∀(K:AV->St->Option R),aq c (.buildSlice es 0 z []) [] s K=K (.slice s.next 0 0 (some 0) es) (ah s (.cells [] 0)):=λK=>by rw[au];rfl
 have cZ:Wf (ah s (.cells [] 0)):=bG hw;have g1:=Grew.ah hw (.cells [] 0);have hl:=h.len;by_cases h0:rows.length=0
 .obtain rfl:=Zc2 h0;refine⟨.slice s.next 0 0 (some 0) es,ah s (.cells [] 0),λK=> ?_,hw,g1,.inr (.inr ⟨_,_,rfl,rfl⟩),λb hb=>(by rw[mq]at hb;cases hb),hr,λb off n cp e he=>(by cases he;exact .inr ⟨rfl,rfl⟩),λb hb=>(by rw[mq]at hb;cases hb)⟩;rw[bs,aia c K hl (by simpa using hb) (by simp)]
 . have hx:dF es rows.length (λb=>(ah s (.cells [] 0)).heap.get b) src=some rows.flatten:=(h.ai g1).first hr;have hlen:=afR hr;refine⟨.slice (ah s (.cells [] 0)).next 0 rows.length none es,ah (ah s (.cells [] 0)) (.cells rows.flatten 0),λK=> ?_,hw,g1.trans (Grew.ah cZ _),.inr (.inl ⟨_,0,none,rows.flatten,rfl,aA _ _,by omega,?_,.inl rfl⟩),λb hb=> ?_,hr,λb off n cp e he=>(by cases he;exact .inl rfl),λb hb=>(by rw[je]at hb;cases hb;exact aA _ _)⟩
   .rw[bs,aoj c K (m:=rows.length) hl h0 (by simpa using hb) (by omega) hx]
   .simp only[Ze5];exact Zf1 (by omega)
   .rw[je]at hb;cases hb;rw[bP,Pos.aF];omega
theorem zo{v:AV}(h:aQ [v]=true):v.one=true:=by
 simp only[aQ]at h;split at h
 .assumption
 .cases h
theorem Vd{b:Pos}{o:Nat}{k1 k2:IntKind}{i1 i2:Int}:¬Plain (.tuple [.ptr b o,.int k1 i1,.int k2 i2]):=λh=>by
 obtain⟨x0,e0⟩:∃x,aC (λ_=>⟨0,0,0⟩) (b.toNat+1) (λ_=>none) (.ptr b o) x:=⟨_,.ptr b o (by omega)⟩
 obtain⟨x1,e1⟩:∃x,aC (λ_=>⟨0,0,0⟩) (b.toNat+1) (λ_=>none) (.int k1 i1) x:=⟨_,.int k1 i1⟩
 obtain⟨x2,e2⟩:∃x,aC (λ_=>⟨0,0,0⟩) (b.toNat+1) (λ_=>none) (.int k2 i2) x:=⟨_,.int k2 i2⟩
 have:=h (λ_=>⟨0,0,0⟩) (λ_=>⟨0,0,0⟩) (b.toNat+1) 0 (λ_=>none) _ (.tuple _ #[x0,x1,x2] rfl (λi v v' hv hx=>by
  match i with
  |0=>simp at hv hx;subst hv hx;exact e0
  |1=>simp at hv hx;subst hv hx;exact e1
  |2=>simp at hv hx;subst hv hx;exact e2
  |i+3=>simp at hv))
 cases this with
 |tuple _ _ _ h=>
  have:=h 0 _ x0 rfl rfl;cases this with
  |ptr _ _ h=>omega
theorem aq5{l:List AV}{t:Bool}(h:Plain (.tuple [.agg l,.bool t])):Plain (.agg l):=λρ ρ' n n' C x hx=>by
 obtain⟨y,hy⟩:∃y,aC ρ n C (.bool t) y:=⟨_,.bool t⟩
 have:=h ρ ρ' n n' C _ (.tuple _ #[x,y] rfl (λi v v' hv xB=>by
  match i with
  |0=>simp at hv xB;subst hv xB;exact hx
  |1=>simp at hv xB;subst hv xB;exact hy
  |i+2=>simp at hv))
 cases this with
 |tuple _ _ _ h=>exact h 0 _ x rfl rfl
theorem Mk.ak9{es:Nat}{s s':St}{v:AV}{rows:List (List AV)}(h:Mk es s s' v rows){l:List AV}(hm:v∈l)(hi:∀u∈l,dU u)(t:Bool):∃fU,Go.Ai.tidy s (.tuple [.agg l,.bool t],s')=(.tuple [.agg l,.bool t],fU)/\Mk es s fU v rows:=by
 unfold Go.Ai.tidy;by_cases hp:Plain (AV.tuple [.agg l,.bool t],s').1/\aX s (AV.tuple [.agg l,.bool t],s').2
 . rw[Zb6 hp];refine⟨s,rfl,?_⟩;rcases h.loose with⟨b,off,n,rfl⟩|⟨hl,_⟩
   .exact absurd (aq5 hp.1) (nR hi hm)
   .exact hl s h.jE
 .rw[Za7 hp];exact⟨s',rfl,h⟩
theorem QS.cells{es:Nat}{s:St}{v:AV}{rows:List (List AV)}(h:QS es s v rows):v.cells=[v]/\v.one=true:=by
 rcases h with⟨rfl,rfl⟩|⟨b,off,cap,cs,rfl,_⟩|⟨b,off,rfl,rfl⟩<;>exact⟨rfl,rfl⟩
abbrev oQ(v:AV):List AV:=[v]
theorem aif(l:List AV):∀r∈l.map oQ,r.length=1:=λr hr=>by simp only[Zc7]at hr;obtain⟨m,_,rfl⟩:=hr;rfl
theorem ahc(r:List AV):(r.map oQ).flatten=r:=by induction r with|nil=>rfl|cons a r ih=>rw[Zd1,Zf8,ih];rfl
structure Ow(s0 s:St)(jb:Pos)(Ls:List AV)(R:List (List AV))(I:List (AV×List (List AV))):Prop where
 jE:Wf s0
 lt:jb.toNat<s0.next.toNat
 wf:Wf s
 next:s0.next.toNat<=s.next.toNat
 keep:∀q x,q≠jb->s0.heap.get q=some x->s.heap.get q=some x
 own:∀(i:Nat)(L:AV)(r:List AV),Ls[i]? =some L->R[i]? =some r->QS 1 s L (r.map oQ)
 len:Ls.length=R.length
 new:∀L∈Ls,∀b,aL L=some b->s0.next.toNat<=b.toNat
 apart:∀(i j:Nat)(L M:AV),i≠j->Ls[i]? =some L->Ls[j]? =some M->∀b,aL L=some b->aL M≠some b
 ez:∀e∈I,QS 1 s e.1 e.2/\∀b,aL e.1=some b->b≠jb/\∀L∈Ls,aL L≠some b
 tig:∀(i:Nat)(L:AV)(r:List AV),Ls[i]? =some L->R[i]? =some r->∀b,aL L=some b->s.heap.get b=some (.cells r 0)
 itg:∀e∈I,∀b,aL e.1=some b->s.heap.get b=some (.cells e.2.flatten 0)
 inw:∀e∈I,∀b,aL e.1=some b->s0.next.toNat<=b.toNat
section
variable{s0 s s':St}{jb:Pos}{Ls:List AV}{R:List (List AV)}{I:List (AV×List (List AV))}
theorem Ow.ai(h:Ow s0 s jb Ls R I)(g:Grew s s'):Ow s0 s' jb Ls R I:=
 ⟨h.jE,h.lt,g.wf,Zb2 h.next g.next,λq x hq hx=>g.get (h.keep q x hq hx),λi L r h1 h2=>(h.own i L r h1 h2).mono λb x _ hx=>g.get hx,h.len,h.new,h.apart,
  λe he=>⟨(h.ez e he).1.mono λb x _ hx=>g.get hx,(h.ez e he).2⟩,λi L r h1 h2 b hb=>g.get (h.tig i L r h1 h2 b hb),λe he b hb=>g.get (h.itg e he b hb),h.inw⟩
theorem Ow.ltL(h:Ow s0 s jb Ls R I){L:AV}(hL:L∈Ls){b:Pos}(hb:aL L=some b):b.toNat<s.next.toNat:=by
 obtain⟨i,hi,rfl⟩:=Zg0.1 hL;have hr:i<R.length:=by rw[<-h.len];exact hi
 exact(h.own i _ _ (H0 hi) (H0 hr)).lt h.wf hb
theorem Ow.more(h:Ow s0 s jb Ls R I){w:AV}{rows:List (List AV)}(M:Mk 1 s s' w rows):Ow s0 s' jb Ls R ((w,rows)::I):=by
 have h2:=h.ai M.ai;refine { h2 with ez:=λe he=> ?_,itg:=λe he b hb=> ?_,inw:=λe he b hb=> ?_ }
 . rcases Za8.1 he with rfl|he
   . refine⟨M.own,λb hb=>⟨λe=> ?_,λL hL e=> ?_⟩⟩
     .have:=M.new b hb;have:=h.next;have:=h.lt;rw[e]at *; omega
     .have:=M.new b hb;have:=h.ltL hL e;omega
   .exact h2.ez e he
 . rcases Za8.1 he with rfl|he
   .exact M.tight b hb
   .exact h2.itg e he b hb
 . rcases Za8.1 he with rfl|he
   .exact Zb2 h.next (M.new b hb)
   .exact h2.inw e he b hb
theorem Ow.store(h:Ow s0 s jb Ls R I)(b:AB):Ow s0 (bh s jb b) jb Ls R I:=by
 have aW:jb.toNat<s.next.toNat:=Zd0 h.lt h.next;have nL:∀L∈Ls,∀b,aL L=some b->jb≠b:=λL hL b hb e=>by have:=h.new L hL b hb;have:=h.lt;rw[e]at *; omega
 refine⟨h.jE,h.lt,iU h.wf aW,by rw[dM];exact h.next,λq x hq hx=>by rw[aJ (λe=>hq e.symm)];exact h.keep q x hq hx,λi L r h1 h2=> ?_,h.len,h.new,h.apart,λe he=>⟨?_,(h.ez e he).2⟩,λi L r h1 h2 b hb=> ?_,λe he b hb=> ?_,h.inw⟩
 . (refine(h.own i L r h1 h2).mono λb x hb hx=> ?_);rw[aJ (nL L (Zc1 h1) b hb)];exact hx
 . (refine(h.ez e he).1.mono λb x hb hx=> ?_);rw[aJ (λe2=>((h.ez e he).2 b hb).1 e2.symm)];exact hx
 .rw[aJ (nL L (Zc1 h1) b hb)];exact h.tig i L r h1 h2 b hb
 .rw[aJ (λe2=>((h.ez e he).2 b hb).1 e2.symm)];exact h.itg e he b hb
theorem Ow.push(h:Ow s0 s jb Ls R I){c:aj}{Q:Type}{bytes i:Nat}{L:AV}{r:List AV}(hL:Ls[i]? =some L)(hR:R[i]? =some r){z:List AV}{x:AV}(hz:z.length=1)(hx:x.cells=[x])(h1:x.one=true)
   (hb:(2*(r.length+1)+768)*bytes<=281474976710656) (hn:r.length<=4000000):
   ∃s5 v',(∀(K:AV->St->Option Q),aq c (.buildSlice 1 1 z [0]) [x] s (λy t=>aq c (.append 1 bytes) [L,y] t K)=K v' s5)/\Ow s0 s5 jb (Ls.set i v') (R.set i (r++[x])) I/\(∀x,s.heap.get jb=some x->s5.heap.get jb=some x)/\(∀p y,aL L≠some p->s.heap.get p=some y->s5.heap.get p=some y)/\v'.cells=[v']/\v'.one=true/\s.next.toNat<=s5.next.toNat/\∀b,aL v'=some b->s.next.toNat<=b.toNat:=by
 have q:=h.own i L r hL hR;have fH:i<Ls.length:=(Za2.1 hL).1;have hmL:L∈Ls:=Zc1 hL;obtain⟨s5,v',a1,a2,a3,a4,a5,a6,a7⟩:=QS.ata (R:=Q) (c:=c) (bytes:=bytes) h.wf q (aif r) hz (x:=x) (by rw[hx];rfl) (by rw[hx];simp[aQ,h1]) (by decide) (by simpa using hb) (by simpa using hn);have hjlt:jb.toNat<s.next.toNat:=Zd0 h.lt h.next;have nj:aL L≠some jb:=λe=>by have:=h.new L hmL jb e;have:=h.lt;omega
 refine⟨s5,v',a1,⟨h.jE,h.lt,a3,Zb2 h.next a4,λq x hq hx=> ?_,λj M u h2 h3=> ?_,by simpa using h.len,λM hM b hb=> ?_,λj k M N hjk h2 h3 b hb uE=> ?_,λe he=>⟨?_,λb hb=>⟨((h.ez e he).2 b hb).1,λM hM uE=> ?_⟩⟩,λj M u h2 h3 b hb=> ?_,λe he b hb=> ?_,h.inw⟩,?_,a5,a2.cells.1,a2.cells.2,a4,a6⟩
 .refine a5 q x (λe=> ?_) (h.keep q x hq hx);have:=h.new L hmL q e;have:=h.jE _ _ hx;omega
 . by_cases e:i=j
   .subst e;rw[Zf4 fH]at h2;have hir:i<R.length:=(by rw[<-h.len];exact fH);rw[Zf4 hir]at h3;cases h2;cases h3;simpa [hx]using a2
   .rw[Ze6 e]at h2 h3;exact(h.own j M u h2 h3).mono λb x hb hx=>a5 b x (λe2=>h.apart i j L M e hL h2 b e2 hb) hx
 . rcases Zh2 hM with hM|rfl
   .exact h.new M hM b hb
   .exact Zb2 h.next (a6 b hb)
 . by_cases e:i=j
   .subst e;rw[Zf4 fH]at h2;cases h2;rw[Ze6 hjk]at h3;have:=a6 b hb;have:=h.ltL (Zc1 h3) uE;omega
   . rw[Ze6 e]at h2;by_cases e2:i=k
     .  subst e2;rw[Zf4 fH]at h3;cases h3;have:=a6 b uE;have:=h.ltL (Zc1 h2) hb;omega
     .  rw[Ze6 e2]at h3;exact h.apart j k M N hjk h2 h3 b hb uE
 .exact(h.ez e he).1.mono λb x hb hx=>a5 b x (λe2=>((h.ez e he).2 b hb).2 L hmL e2) hx
 . rcases Zh2 hM with hM|rfl
   .exact((h.ez e he).2 b hb).2 M hM uE
   .have:=a6 b uE;have:=(h.ez e he).1.lt h.wf hb;omega
 . by_cases e:i=j
   .subst e;rw[Zf4 fH]at h2;have hir:i<R.length:=(by rw[<-h.len];exact fH);rw[Zf4 hir]at h3;cases h2;cases h3;rw[a7 b hb,hx,ahc]
   .rw[Ze6 e]at h2 h3;exact a5 b _ (λe2=>h.apart i j L M e hL h2 b e2 hb) (h.tig j M u h2 h3 b hb)
 .exact a5 b _ (λe2=>((h.ez e he).2 b hb).2 L hmL e2) (h.itg e he b hb)
 .exact λx hx=>a5 jb x nj hx
end
section
variable{s0 s s':St}{jb:Pos}{Ls:List AV}{R:List (List AV)}{I:List (AV×List (List AV))}
theorem Ow.none(hw:Wf s)(hj:jb.toNat<s.next.toNat)(n:Nat):Ow s s jb (List.replicate n .af) (List.replicate n []) []:=by
 have hn:∀(i:Nat)(L:AV),(List.replicate n AV.af)[i]? =some L->L= .af:=λi L h=>by
   rw[Zn6]at h;split at h
   .cases h;rfl
   .cases h
 refine⟨hw,hj,hw,Za3 _,λ_ _ _ h=>h,λi L r h1 h2=> ?_,by simp,λL hL b hb=> ?_,λi j L M _ h1 _ b hb=> ?_,λe he=>(by cases he),λi L r h1 _ b hb=> ?_,λe he=>(by cases he),λe he=>by cases he⟩
 . obtain rfl:=hn i L h1;rw[Zn6]at h2;split at h2
   .cases h2;exact QS.nil
   .cases h2
 .rw[List.mem_replicate]at hL;obtain⟨_,rfl⟩:=hL;cases hb
 .obtain rfl:=hn i L h1;cases hb
 .obtain rfl:=hn i L h1;cases hb
theorem Ow.snoc(h:Ow s0 s jb Ls R I):Ow s0 s jb (Ls++[.af]) (R++[[]]) I:=by
 have sp:∀(i:Nat)(L:AV),(Ls++[.af])[i]? =some L->Ls[i]? =some L\/(i=Ls.length/\L= .af):=λi L h1=>by
   by_cases hi:i<Ls.length
   .rw[Zc5 hi]at h1;exact .inl h1
   . rw[Zc4 (by omega)]at h1;by_cases h0:i - Ls.length=0
     .rw[h0]at h1;simp at h1;exact .inr ⟨by omega,h1.symm⟩
     .rw[Zc3 (by simp;omega)]at h1;cases h1
 have mem:∀L∈Ls++[AV.af],∀b,aL L=some b->L∈Ls:=λL hL b hb=>by
   rcases Zd7.1 hL with hL|hL
   .exact hL
   .simp at hL;subst hL;cases hb
 refine⟨h.jE,h.lt,h.wf,h.next,h.keep,λi L r h1 h2=> ?_,by simp[h.len],λL hL b hb=>h.new L (mem L hL b hb) b hb,λi j L M XJ h1 h2 b hb uE=> ?_,λe he=>⟨(h.ez e he).1,λb hb=>⟨((h.ez e he).2 b hb).1,λL hL uE=>((h.ez e he).2 b hb).2 L (mem L hL b uE) uE⟩⟩,λi L r h1 h2 b hb=> ?_,h.itg,h.inw⟩
 . rcases sp i L h1 with h1|⟨rfl,rfl⟩
   .have hi:i<R.length:=(by rw[<-h.len];exact(Za2.1 h1).1);rw[Zc5 hi]at h2;exact h.own i L r h1 h2
   .rw[Zc4 (by rw[h.len];exact Za3 _),h.len]at h2;simp at h2;subst h2;exact QS.nil
 . rcases sp i L h1 with h1|⟨rfl,rfl⟩
   . rcases sp j M h2 with h2|⟨rfl,rfl⟩
     .exact h.apart i j L M XJ h1 h2 b hb uE
     .cases uE
   .cases hb
 . rcases sp i L h1 with h1|⟨rfl,rfl⟩
   .have hi:i<R.length:=(by rw[<-h.len];exact(Za2.1 h1).1);rw[Zc5 hi]at h2;exact h.tig i L r h1 h2 b hb
   .cases hb
theorem Ow.take{L:AV}{r:List AV}(h:Ow s0 s jb (Ls++[L]) (R++[r]) I):Ow s0 s jb Ls R ((L,r.map oQ)::I):=by
 have hl:Ls.length=R.length:=by have:=h.len;simpa using this
 have up:∀(i:Nat)(M:AV),Ls[i]? =some M->(Ls++[L])[i]? =some M:=λi M h1=>by rw[Zc5 (Za2.1 h1).1];exact h1
 have upR:∀(i:Nat)(M:List AV),R[i]? =some M->(R++[r])[i]? =some M:=λi M h1=>by rw[Zc5 (Za2.1 h1).1];exact h1
 have hL:(Ls++[L])[Ls.length]? =some L:=by simp
 have hR:(R++[r])[Ls.length]? =some r:=by rw[hl];simp
 refine⟨h.jE,h.lt,h.wf,h.next,h.keep,λi M u h1 h2=>h.own i M u (up i M h1) (upR i u h2),hl,λM hM b hb=>h.new M (Zm6 _ hM) b hb,λi j M N XJ h1 h2 b hb uE=>h.apart i j M N XJ (up i M h1) (up j N h2) b hb uE,λe he=> ?_,λi M u h1 h2=>h.tig i M u (up i M h1) (upR i u h2),λe he b hb=> ?_,λe he b hb=> ?_⟩
 . rcases Za8.1 he with rfl|he
   . refine⟨h.own _ _ _ hL hR,λb hb=>⟨λe=> ?_,λM hM uE=> ?_⟩⟩
     .  have:=h.new L (by simp) b hb;have:=h.lt;rw[e]at *; omega
     .  obtain⟨i,hi,rfl⟩:=Zg0.1 hM;exact h.apart i Ls.length _ L (by omega) (up i _ (H0 hi)) hL b uE hb
   .exact⟨(h.ez e he).1,λb hb=>⟨((h.ez e he).2 b hb).1,λM hM=>((h.ez e he).2 b hb).2 M (Zm6 _ hM)⟩⟩
 . rcases Za8.1 he with rfl|he
   .rw[ahc];exact h.tig _ _ _ hL hR b hb
   .exact h.itg e he b hb
 . rcases Za8.1 he with rfl|he
   .exact h.new _ (by simp) b hb
   .exact h.inw e he b hb
end
theorem LV{R:Type}{c:aj}(K:AV->St->Option R){s:St}{p:Pos}{o:Nat}{cs:List AV}{v:AV}(h:s.heap.get p=some (.cells cs 0))(ho:o<cs.length)(h1:v.cells=[v])(h2:v.one=true):
  aq c (.store 1) [.ptr p o,v] s K=K .undef (bh s p (.cells (cs.set o v) 0)):=by
 rw[cm c K s 1 p o v cs h (by rw[h1];rfl) (by omega) (by rw[h1];simp[aQ,h2]),h1,Ae _ _ ho]
theorem QS.beq{es:Nat}{s:St}{v:AV}{rows:List (List AV)}(h:QS es s v rows):eZ v v=true:=by
 rcases h with⟨rfl,_⟩|⟨b,off,cap,cs,rfl,_⟩|⟨b,off,rfl,_⟩
 .rfl
 .cases cap<;>simp[eZ,nK,fY,Pos.beq_eq.2 rfl]
 .simp[eZ,nK,fY,Pos.beq_eq.2 rfl]
theorem Mk.beq{es:Nat}{s s':St}{v:AV}{rows:List (List AV)}(h:Mk es s s' v rows):eZ v v=true:=h.own.beq
theorem GV{R:Type}{z:List AV}{x:AV}(hz:z.length=1)(hx:x.cells=[x])(s:St)(K:AV->AB->Option R):
  U9 (.buildSlice 1 1 z [0]) [x] s K=K (.slice s.next 0 1 (some 1) 1) (.cells [x] 0):=by
 have:cK (bW z 1) ([0].map λi=>(i*1,1)) [x]=some [x]:=by
  simp only[Zd1,Zi5,Zo1,bW,Zd9,cK,cO,cU,hx,Zg6,Zb8,hz,Za3,Zc6,Zi2];simp only[aU,Zq9,Ze3,Zb8,Zc6,Zi2];rw[Zo2 (by omega),Zd9]
 rw[qE,this];rfl
theorem GW{R:Type}{c:aj}{z:List AV}{x:AV}(hz:z.length=1)(hx:x.cells=[x])(s:St)(K:AV->St->Option R):
  aq c (.buildSlice 1 1 z [0]) [x] s K=K (.slice s.next 0 1 (some 1) 1) (ah s (.cells [x] 0)):=by
 rw[LU hz (by rw[hx];rfl),hx]
section
variable{s0 s s':St}{jb:Pos}{Ls:List AV}{R:List (List AV)}{I:List (AV×List (List AV))}
theorem Ow.adk(h:Ow s0 s jb Ls R I){c:aj}{Q:Type}(bytes:Nat){i:Nat}{L:AV}{r:List AV}(hL:Ls[i]? =some L)(hR:R[i]? =some r){x:AV}(hx:x.cells=[x])(h1:x.one=true)
  (hb:(2*(r.length+1)+768)*bytes<=281474976710656) (hn:r.length<=4000000):
  ∃s5 v',(∀(K:AV->St->Option Q),aq c (.append 1 bytes) [L,.slice s.next 0 1 (some 1) 1] (ah s (.cells [x] 0)) K=K v' s5)/\Ow s0 s5 jb (Ls.set i v') (R.set i (r++[x])) I/\(∀x,s.heap.get jb=some x->s5.heap.get jb=some x)/\(∀p y,aL L≠some p->s.heap.get p=some y->s5.heap.get p=some y)/\v'.cells=[v']/\v'.one=true/\s.next.toNat<=s5.next.toNat/\∀b,aL v'=some b->s.next.toNat<=b.toNat:=by
 obtain⟨s5,v',a1,a2⟩:=h.push (c:=c) (Q:=Q) (bytes:=bytes) hL hR (z:=[.int .i64 0]) rfl hx h1 hb hn;refine⟨s5,v',λK=> ?_,a2⟩;rw[<-a1 K,GW rfl hx]
theorem Ow.mem_set{v':AV}{i:Nat}{p:Pos}(hL:∀L∈Ls,aL L≠some p)(hv:aL v'≠some p):∀L∈Ls.set i v',aL L≠some p:=λL h=>by
 rcases Zh2 h with h|rfl
 .exact hL L h
 .exact hv
theorem Ow.put(h:Ow s0 s jb Ls R I){H:List AV}(DJ:s.heap.get jb=some (.cells (H++Ls) 0)){c:aj}{Q:Type}(bytes:Nat){i:Nat}{L:AV}{r:List AV}(hL:Ls[i]? =some L)(hR:R[i]? =some r){x:AV}(hx:x.cells=[x])(h1:x.one=true)
   (hb:(2*(r.length+1)+768)*bytes<=281474976710656) (hn:r.length<=4000000) {o:Nat} (ho:o=H.length+i):
   ∃s5 s6 v',(∀(K:AV->St->Option Q),aq c (.append 1 bytes) [L,.slice s.next 0 1 (some 1) 1] (ah s (.cells [x] 0)) K=K v' s5)/\(∀(K:AV->St->Option Q),aq c (.store 1) [.ptr jb o,v'] s5 K=K .undef s6)/\Ow s0 s6 jb (Ls.set i v') (R.set i (r++[x])) I/\s6.heap.get jb=some (.cells (H++Ls.set i v') 0)/\
    (∀p y,p≠jb->(∀L∈Ls,aL L≠some p)->s.heap.get p=some y->s6.heap.get p=some y/\∀L∈Ls.set i v',aL L≠some p):=by
 obtain⟨s5,v',a1,a2,a3,a4,a5,a6,a7,a8⟩:=h.adk (c:=c) (Q:=Q) bytes hL hR hx h1 hb hn;have fH:i<Ls.length:=(Za2.1 hL).1;have hj:=a3 _ DJ;have es:(H++Ls).set o v'=H++Ls.set i v':=by subst ho;rw[Zk2 _ _ (by omega)];congr 2;omega
 refine⟨s5,bh s5 jb (.cells (H++Ls.set i v') 0),v',a1,λK=> ?_,a2.store _,bH _ _ _,λp y hp hpL hy=>⟨?_,Ow.mem_set hpL λe=> ?_⟩⟩
 .rw[LV K hj (by rw[Zd6];omega) a5 a6,es]
 .rw[aJ (λe=>hp e.symm)];exact a4 p y (hpL L (Zc1 hL)) hy
 .have:=a8 p e;have:=h.wf _ _ hy;omega
end
def Rb:List (Int×Int)->Nat->List (AV×AV×Nat)
 |[],_=>[]
 |(k,d)::E,i=>(.int .i64 k,.int .i64 d,i)::Rb E (i+1)
def im(E:List (Int×Int)):AB:= .map (Rb E 0) E.length
def kq:List (Int×Int)->Int->Option Int
 |[],_=>none
 |(k,d)::E,x=>if x=k then some d else kq E x
theorem aih:∀(E:List (Int×Int))(i:Nat)(k d:Int),Rb (E++[(k,d)]) i=Rb E i++[(.int .i64 k,.int .i64 d,i+E.length)]
 |[],i,k,d=>rfl
 |(a,b)::E,i,k,d=>by
  show _::Rb (E++[(k,d)]) (i+1)=_::(Rb E (i+1)++_);rw[aih E (i+1) k d];simp only[Zc6];rw[show i+1+E.length=i+(E.length+1)by omega]
theorem CU(x:Int):∀(E:List (Int×Int))(i j:Nat),(kq E x=none->ic .i (.int .i64 x) (Rb E i) j=some none)/\∀d,kq E x=some d->∃n,ic .i (.int .i64 x) (Rb E i) j=some (some (n,.int .i64 d))
 |[],i,j=>⟨λ_=>rfl,λd h=>by cases h⟩
 |(k,e)::E,i,j=>by
  have ih:=CU x E (i+1) (j+1);have step:ic .i (.int .i64 x) (Rb ((k,e)::E) i) j=if x=k then some (some (j,.int .i64 e))else ic .i (.int .i64 x) (Rb E (i+1)) (j+1):=by
    show(match yV .i (.int .i64 x) (.int .i64 k)with|some true=>some (some (j,AV.int .i64 e))|some false=>ic .i (.int .i64 x) (Rb E (i+1)) (j+1)|none=>none)=_;simp only[yV,dL,nM];by_cases h:x=k
    .rw[Zb6 h,Za0 h]
    .rw[Za7 h,Za1 h]
  rw[step];unfold kq;by_cases h:x=k
  .rw[Zb6 h,Zb6 h];exact⟨λh=>(by cases h),λd hd=>⟨j,by cases hd;rfl⟩⟩
  .rw[Za7 h,Za7 h];exact ih
section
variable{R:Type}(c:aj)(K:AV->St->Option R){st:St}{m:Pos}{E:List (Int×Int)}
theorem aq6(h:st.heap.get m=some (im E))(x:Int):aq c (.lookup .i (.int .i64 0) true) [.map m,.int .i64 x] st K=K (.tuple [.int .i64 ((kq E x).getD 0),.bool (kq E x).isSome]) st:=by
 have:aG.run (λb=>st.heap.get b) st.next (.lookup .i (.int .i64 0) true) [.map m,.int .i64 x]=some (.val (.tuple [.int .i64 ((kq E x).getD 0),.bool (kq E x).isSome])):=by
  unfold im at h;cases hl:kq E x with
  |none=>simp only[aG.run,l9,h,(CU x E 0 0).1 hl];rfl
  |some d=>obtain⟨n,e⟩:=(CU x E 0 0).2 d hl;simp only[aG.run,l9,h,e];rfl
 unfold aq cJ;rw[this]
theorem avo(h:st.heap.get m=some (im E))(x:Int):aq c (.lookup .i (.int .i64 0) false) [.map m,.int .i64 x] st K=K (.int .i64 ((kq E x).getD 0)) st:=by
 have:aG.run (λb=>st.heap.get b) st.next (.lookup .i (.int .i64 0) false) [.map m,.int .i64 x]=some (.val (.int .i64 ((kq E x).getD 0))):=by
  unfold im at h;cases hl:kq E x with
  |none=>simp only[aG.run,l9,h,(CU x E 0 0).1 hl];rfl
  |some d=>obtain⟨n,e⟩:=(CU x E 0 0).2 d hl;simp only[aG.run,l9,h,e];rfl
 unfold aq cJ;rw[this]
theorem aii(h:st.heap.get m=some (im E)){x:Int}(hx:kq E x=none)(d:Int):aq c (.mapSet .i) [.map m,.int .i64 x,.int .i64 d] st K=K .undef (bh st m (im (E++[(x,d)]))):=by
 have:aG.run (λb=>st.heap.get b) st.next (.mapSet .i) [.map m,.int .i64 x,.int .i64 d]=some (.bk .undef none (some (m,im (E++[(x,d)]))) none):=by unfold im at h;simp only[aG.run,yW,h,aho,(CU x E 0 0).1 hx];unfold im;rw[aih];simp
 unfold aq cJ;rw[this];rfl
end
theorem aoo(i:Nat):bounds true false false [.int .i64 (i:Int)]=some (some i,none,none):=rfl
theorem aop(i:Nat):bounds false true false [.int .i64 (i:Int)]=some (none,some i,none):=rfl
theorem afT{es:Nat}:∀(rows:List (List AV)),(∀r∈rows,r.length=es)->∀i,rows.flatten.drop (i*es)=(rows.drop i).flatten
 |[],_,i=>by simp
 |r::rows,hr,0=>by simp
 |r::rows,hr,i+1=>by have hl:=hr r (by simp);rw[Zf8,List.drop_succ_cons,Zh5,Zr6, <-Zl3, <-hl,List.drop_left,hl];exact afT rows (λx hx=>hr x (Zb0 _ hx)) i
theorem QS.low{es:Nat}{s:St}{v:AV}{rows:List (List AV)}(h:QS es s v rows)(hr:∀r∈rows,r.length=es){i:Nat}(hi:i<=rows.length):
   ∃v',(∀{R:Type}(c:aj)(K:AV->St->Option R)(s1:St),aq c (.sliceL es true false false) [v,.int .i64 (i:Int)] s1 K=K v' s1)/\QS es s v' (rows.drop i)/\∀b,aL v'=some b->aL v=some b:=by
 rcases h with⟨rfl,rfl⟩|⟨b,off,cap,cs,rfl,g1,g2,g3,g4⟩|⟨b,off,rfl,rfl⟩
 .obtain rfl:i=0:=(by simpa using hi);exact⟨.af,λc K s1=>aV c K (λH n=>rfl) s1,.inl ⟨rfl,rfl⟩,λb hb=>hb⟩
 . refine⟨.slice b (off+i*es) (rows.length - i) (cap.map (· - i)) es,λc K s1=>aV c K (λH n=> ?_) s1,?_,λb' hb=> ?_⟩
   .simp only[aG.run,iZ,aoo,cO,cU,Zg6,Ze8,Zi9,Za0 hi];rcases g4 with rfl|rfl<;>simp
   . have hm:i*es+(rows.length - i)*es=rows.length*es:=(by rw[<-Zj7];congr 1;omega);refine .inr (.inl ⟨b,off+i*es,cap.map (· - i),cs,by rw[Zp1],g1,?_,?_,?_⟩)
     .  rw[Zp1];omega
     .  rw[<-afT rows hr i, <-g3,Zn9,Zl3,Zp1];congr 1;omega
     .  rcases g4 with rfl|rfl
        .exact .inl rfl
        .right;simp
   . obtain rfl:=tO hb;simp only[aL]at hb ⊢;by_cases h0:cap=some 0/\rows.length=0
     .  obtain⟨rfl,h0⟩:=h0;rw[Zb6 (by simp;omega)]at hb;cases hb
     .  rw[Za7 h0]
 . obtain rfl:i=0:=(by simpa using hi);refine⟨.slice b (off+0*es) 0 (some 0) es,λc K s1=>aV c K (λH n=> ?_) s1,.inr (.inr ⟨_,_,rfl,rfl⟩),λb' hb=> ?_⟩
   .simp only[aG.run,iZ,aoo,cO,cU,Zg6,Ze8,Zi9,Za3,Zl1]
   .rw[mq]at hb;cases hb
theorem QS.high{es:Nat}{s:St}{v:AV}{rows:List (List AV)}(h:QS es s v rows){i:Nat}(hi:i<=rows.length):
   ∃v',(∀{R:Type}(c:aj)(K:AV->St->Option R)(s1:St),aq c (.sliceL es false true false) [v,.int .i64 (i:Int)] s1 K=K v' s1)/\∀{R:Type}(c:aj)(K:AV->St->Option R)(s1:St),aq c (.lenB .l) [v'] s1 K=K (.int .i64 (i:Int)) s1:=by
 rcases h with⟨rfl,rfl⟩|⟨b,off,cap,cs,rfl,g1,g2,g3,g4⟩|⟨b,off,rfl,rfl⟩
 .obtain rfl:i=0:=(by simpa using hi);exact⟨.af,λc K s1=>aV c K (λH n=>rfl) s1,λc K s1=>aV c K (λH n=>rfl) s1⟩
 .refine⟨.slice b (off+0*es) (i - 0) cap es,λc K s1=>aV c K (λH n=> ?_) s1,λc K s1=>aV c K (λH n=>rfl) s1⟩;simp only[aG.run,iZ,aop,cO,cU,Zg6,Ze8,Zi9,Zi0];rcases g4 with rfl|rfl<;>simp[hi]
 .obtain rfl:i=0:=(by simpa using hi);refine⟨.slice b (off+0*es) 0 (some 0) es,λc K s1=>aV c K (λH n=> ?_) s1,λc K s1=>aV c K (λH n=>rfl) s1⟩;simp only[aG.run,iZ,aop,cO,cU,Zg6,Ze8,Zi9,Za3,Zl1]
theorem QS.clear{es:Nat}{z:List AV}{s:St}{v:AV}{rows:List (List AV)}(h:QS es s v rows)(hw:Wf s)(hz:z.length=es)(h1:∀n,aQ (bW z n)=true):
   ∃s',(∀{R:Type}(c:aj)(K:AV->St->Option R),aq c (.clearS es z) [v] s K=K .undef s')/\Wf s'/\s'.next=s.next/\∀p x,aL v≠some p->s.heap.get p=some x->s'.heap.get p=some x:=by
 rcases h with⟨rfl,rfl⟩|⟨b,off,cap,cs,rfl,g1,g2,g3,g4⟩|⟨b,off,rfl,rfl⟩
 .exact⟨s,λc K=>aV c K (λH n=>rfl) s,hw,rfl,λ_ _ _ h=>h⟩
 . by_cases h0:rows.length=0
   .refine⟨s,λc K=>aV c K (λH n=> ?_) s,hw,rfl,λ_ _ _ h=>h⟩;simp only[aG.run,tD,cO,h0,Zg6]
   . refine⟨bh s b (.cells (aU cs off (bW z rows.length)) 0),λc K=> ?_,iU hw (hw _ _ g1),dM _ _ _,λp x hp hx=> ?_⟩
     .  have:aG.run (λb=>s.heap.get b) s.next (.clearS es z) [.slice b off rows.length cap es]=some (.bk .undef none (some (b,.cells (aU cs off (bW z rows.length)) 0)) none):=by
         simp only[aG.run,tD,cO,Za1 h0,g1,cU,Za0 g2,Zi0,Zg6,h1]
        unfold aq cJ;rw[this];rfl
     .  rw[aJ (λe=>hp (by simp only[aL];rw[Za7 (by omega),e]))];exact hx
 .refine⟨s,λc K=>aV c K (λH n=> ?_) s,hw,rfl,λ_ _ _ h=>h⟩;simp[aG.run,tD,cO]
theorem QS.bare{es:Nat}{s:St}{v:AV}{rows:List (List AV)}(h:QS es s v rows):bN v:=by
 rcases h with⟨rfl,_⟩|⟨b,off,cap,cs,rfl,_⟩|⟨b,off,rfl,_⟩
 .exact bN.af
 .exact bN.slice _ _ _ _ _
 .exact bN.slice _ _ _ _ _
def emptyAt(s:St):St:={ heap:= .e,next:=s.next }
theorem Tv(s:St):Wf (emptyAt s):=λp x h=>by have h:(T.e:T AB).get p=some x:=h;rw[T.dS]at h;cases h
noncomputable def dw(s s1:St):St:={ heap:=T.both s.heap (D6 s1.heap),next:=s1.next }
theorem amm{s s1:St}{b:Pos}{x:AB}(h:s.heap.get b=some x):(dw s s1).heap.get b=some x:=by show(T.both _ _).get b=_;rw[T.GU,h];rfl
theorem D8{s s1:St}(hw:Wf s){b:Pos}{x:AB}(hb:s.next.toNat<=b.toNat)(h:s1.heap.get b=some x)(hx:Lu x):(dw s s1).heap.get b=some x:=by
 show(T.both _ _).get b=_;have:s.heap.get b=none:=by
  cases e:s.heap.get b with
  |none=>rfl
  |some y=>have:=hw _ _ e;omega
 rw[T.GU,this,aom h hx];rfl
theorem aa5{s s1:St}(hw:Wf s)(h1:Wf s1)(hn:s.next.toNat<=s1.next.toNat):Grew s (dw s s1):=
 ⟨fun p x h=>by
  have h:(T.both s.heap (D6 s1.heap)).get p=some x:=h;show p.toNat<s1.next.toNat;rw[T.GU]at h;cases e:s.heap.get p with
  |some y=>have:=hw _ _ e;omega
  |none=>
   rw[e]at h;have h:(D6 s1.heap).get p=some x:=(by simpa using h);exact h1 _ _ (afQ h).1,λp x h=>amm h,hn⟩
theorem Mk.dw{es:Nat}{s s1:St}{v:AV}{rows:List (List AV)}(hw:Wf s)(h:Mk es (emptyAt s) s1 v rows)(hb:∀r∈rows,∀x∈r,bN x):Mk es s (Go.Ai.dw s s1) v rows:=by
 have key:∀b x,aL v=some b->s1.heap.get b=some x->(Go.Ai.dw s s1).heap.get b=some x:=λb x dY hx=>by
  have t:=h.tight b dY;have xB:x= .cells rows.flatten 0:=by rw[t]at hx;exact(Zi8 hx).symm
  subst xB;exact D8 hw (h.new b dY) t (λv hv=>by obtain⟨r,hr,hv⟩:=List.mem_flatten.1 hv;exact hb r hr v hv)
 exact⟨hw,aa5 hw h.ai.wf h.ai.next,h.own.mono key,h.new,h.row,h.cap,λb dY=>key b _ dY (h.tight b dY)⟩
theorem afU{call:aj}{f:FuncId}{d:Nat}{args:List AV}{s:St}{v:AV}{s1:St}(h:call f (args.map (fW s d)) (emptyAt s)=some (v,s1))(hb:bN v)(hn:s.next.toNat<=s1.next.toNat):
 XI call f d args s=some (v,dw s s1):=ak6 h ⟨hb,hn⟩
section
variable{H:Type}(Ok:DataW H->Prop)(enc:TypeId×Value->H)(P:Program)(w:World)(base:Nat)(spare:Nat->Bool)(held:Bool)
variable{Ok enc P w base spare held}
end
end
section
open Go Go.WideShapes
section
variable{H:Type}(enc:TypeId×Value->H)(P:Program)(w:World)(base:Nat)(spare:Nat->Bool)(held:Bool)
variable{enc P w base spare held}
end
end
section
open Go
section
variable{c:aj}{R:Type}
theorem aij{H:Pos->Option AB}{n:Pos}{k:IntKind}{a b:Int}(h1:0<=a)(h2:0<b):aG.run H n (.bin .rem .num) [.int k a,.int k b]=some (.val (.int k (a % b))):=by
 have e0:BP b 0=false:=by rw[oM,Zm9];omega
 have e1:a.tmod b=a % b:=Int.tmod_eq_emod_of_nonneg h1;simp only[aG.run,jH,pV,dL,e0,e1]
theorem aik{H:Pos->Option AB}{n:Pos}{a b:Int}(h1:0<=a)(h3:a<=9223372036854775807)(h2:0<b):aG.run H n (.bin .quo .num) [.int .i64 a,.int .i64 b]=some (.val (.int .i64 (a / b))):=by
 have e0:BP b 0=false:=by rw[oM,Zm9];omega
 have e1:a.tdiv b=a / b:=Zi7 h1;have e3:0<=a / b:=Zs2 h1 (by omega);have e4:a / b<=a:=Int.ediv_le_self b h1;have e2:ax .i64 (a / b)=a / b:=wrap64 (by omega) (by omega);simp only[aG.run,jH,pV,dL,e0,e1,e2]
theorem aq7{H:Pos->Option AB}{n:Pos}{a:Int}{i:Nat}(h:i<=64):aG.run H n (.bin .shr .num) [.int .i64 a,.int .i64 (i:Int)]=some (.val (.int .i64 (a / 2 ^ i))):=by
 have e0:BQ (i:Int) 0=false:=by rw[fo,Za1 (by omega)]
 have e1:min (i:Int).toNat (IntKind.bits .i64)=i:=by have:IntKind.bits .i64=64:=rfl;rw[this];omega
 simp only[aG.run,jH,pV,e0,e1];rw[Zm7 _ (Int.le_of_lt (Int.pow_pos (by decide)))]
theorem di{k:IntKind}{a b:Int}(h1:0<=a)(h2:0<b)(s:St)(K:AV->St->Option R):aq c (.bin .rem .num) [.int k a,.int k b] s K=K (.int k (a % b)) s:=aV c K (λH n=>aij h1 h2) s
theorem GY{k:IntKind}{a b:Int}(h1:0<=a)(h2:0<b)(K:AV->Option R):eX (.bin .rem .num) [.int k a,.int k b] K=K (.int k (a % b)):=dD K (λH n=>aij h1 h2)
theorem iL{a b:Int}(h1:0<=a)(h3:a<=9223372036854775807)(h2:0<b)(s:St)(K:AV->St->Option R):aq c (.bin .quo .num) [.int .i64 a,.int .i64 b] s K=K (.int .i64 (a / b)) s:=aV c K (λH n=>aik h1 h3 h2) s
theorem ail{a b:Int}(h1:0<=a)(h3:a<=9223372036854775807)(h2:0<b)(K:AV->Option R):eX (.bin .quo .num) [.int .i64 a,.int .i64 b] K=K (.int .i64 (a / b)):=dD K (λH n=>aik h1 h3 h2)
theorem aim{a:Int}{i:Nat}(h:i<=64)(s:St)(K:AV->St->Option R):aq c (.bin .shr .num) [.int .i64 a,.int .i64 (i:Int)] s K=K (.int .i64 (a / 2 ^ i)) s:=aV c K (λH n=>aq7 h) s
theorem CV(i:Int)(s:St)(K:AV->St->Option R):aq c (.conv (.int .u8)) [.int .i64 i] s K=K (.int .u8 (ax .u8 i)) s:=aV c K (λH n=>rfl) s
theorem tP(i:Int)(k:IntKind)(s:St)(K:AV->St->Option R):aq c (.conv (.int .i64)) [.int k i] s K=K (.int .i64 (ax .i64 i)) s:=aV c K (λH n=>rfl) s
theorem ain{x y:Int}(a b:Nat)(hx:x=(a:Int))(hy:y=(b:Int))(ha:a<256)(hb:b<256)(s:St)(K:AV->St->Option R):
  aq c (.buildSlice 1 2 [.int .u8 0] [0,1]) [.int .u8 x,.int .u8 y] s (λv t=>aq c (.conv .ofBytes) [v] t K)=K (.str [a,b]) (ah s (.cells [.int .u8 x,.int .u8 y] 0)):=by
 subst hx;subst hy;rw[show aq c (.buildSlice 1 2 [.int .u8 0] [0,1]) [.int .u8 (a:Int),.int .u8 (b:Int)] s (λv t=>aq c (.conv .ofBytes) [v] t K)=aq c (.conv .ofBytes) [.slice s.next 0 2 (some 2) 1] (ah s (.cells [.int .u8 (a:Int),.int .u8 (b:Int)] 0)) K from rfl];have:aG.run (λp=>(ah s (.cells [.int .u8 (a:Int),.int .u8 (b:Int)] 0)).heap.get p) (ah s (.cells [.int .u8 (a:Int),.int .u8 (b:Int)] 0)).next (.conv .ofBytes) [.slice s.next 0 2 (some 2) 1]=some (.val (.str [a,b])):=by
  have ha':Nat.blt a 256=true:=by simpa using ha
  have dY:Nat.blt b 256=true:=by simpa using hb
  simp only[aG.run,Gx,aA];show(match bytesOf [.int .u8 (.ofNat a),.int .u8 (.ofNat b)]with|some s=>some (eO.val (.str s))|none=>none)=_;simp only[bytesOf,ha',dY]
 unfold aq cJ;rw[this]
end
theorem Mk.aq8{s s':St}{l:List AV}(hi:∀u∈l,dU u)(hw:Wf s)(hg:Grew s s'):
   ∃fU,Go.Ai.tidy s (.agg l,s')=(.agg l,fU)/\Grew s fU/\(∀(es:Nat)(v:AV)(rows:List (List AV)),v∈l->Mk es s s' v rows->Mk es s fU v rows/\(fU=s'\/rows=[])):=by
 unfold Go.Ai.tidy;by_cases hp:Plain (AV.agg l,s').1/\aX s (AV.agg l,s').2
 . rw[Zb6 hp];refine⟨s,rfl,Grew.refl hw,λes v rows hm h=> ?_⟩;rcases h.loose with⟨b,off,n,rfl⟩|⟨hl,h0⟩
   .exact absurd hp.1 (nR hi hm)
   .exact⟨hl s h.jE,.inr h0⟩
 .rw[Za7 hp];exact⟨s',rfl,hg,λes v rows _ h=>⟨h,.inl rfl⟩⟩
theorem Mk.rW{es:Nat}{s0 s s':St}{v:AV}{rows:List (List AV)}(h:Mk es s0 s v rows)(hg:Grew s0 s')(hk:∀b x,aL v=some b->s.heap.get b=some x->s'.heap.get b=some x):Mk es s0 s' v rows:=
 ⟨h.jE,hg,h.own.mono hk,h.new,h.row,h.cap,λb hb=>hk b _ hb (h.tight b hb)⟩
theorem Mk.rX{es:Nat}{s0 s1 s s':St}{v:AV}{rows:List (List AV)}(h:Mk es s1 s v rows)(h0:Wf s0)(OD:Grew s0 s1)(hg:Grew s0 s')(hk:∀q b,s1.next.toNat<=q.toNat->s.heap.get q=some b->s'.heap.get q=some b):Mk es s0 s' v rows:=
 ⟨h0,hg,h.own.mono (λb x hb hx=>hk b x (h.new b hb) hx),λb hb=>Zb2 OD.next (h.new b hb),h.row,h.cap,λb hb=>hk b _ (h.new b hb) (h.tight b hb)⟩
end
section
open Go Go.WideShapes
theorem H8{Q:List AV->Prop}{Qs:List (List AV->Prop)}{ps:List (List AV)}(h:Ts (Q::Qs) ps):∃p qs,ps=p::qs/\Q p/\Ts Qs qs:=by
 cases ps with
 |nil=>exact h.elim
 |cons p qs=>exact⟨p,qs,rfl,h⟩
theorem aio{ps:List (List AV)}(h:Ts [] ps):ps=[]:=by
 cases ps with
 |nil=>rfl
 |cons p qs=>exact h.elim
section
variable{H:Type}{enc:TypeId×Value->H}{P:Program}{w:World}{base:Nat}{spare:Nat->Bool}{held:Bool}
theorem aeC{t e:TypeId}{Q:List AV->Prop}{r:Go.Reach}{b0:Nat}{v:Value}{d:DataW H}{p:List MemPlace}(ho:pQ enc P w base spare held t Q)(ht:P.underlying t=some (.slice e))
  (hval:Value.okWide P w r b0 t v) (hd:DataW.Trod enc P w base spare held t v d p):∃as,Q as/\∀ρ n,aK ρ n (λad=>w.cell? ad) as [v]:=by
 obtain⟨a,len,cap,rfl⟩:=okWide_slice ht hval;obtain⟨fuel,hf⟩:=hd;exact ho _ _ _ hf
end
end
noncomputable section
open Go
inductive Un where
 |z
 |s (n:Un)
def un:Nat->Un
 |0=>.z
 |n+1=>.s (un n)
inductive Tx where
 |bad
 |op (k:aG) (xs:List iy) (d:Option Pos) (t:Tx)
 |gop (g:Pos) (w:Bool) (k:aG) (xs:List iy) (d:Option Pos) (t:Tx)
 |dr (t:Tx)
 |pr (k:aG) (xs:List iy) (d:Option Pos) (t:Tx)
 |gpr (g:Pos) (w:Bool) (k:aG) (xs:List iy) (d:Option Pos) (t:Tx)
 |rd (b:List Bool) (k:aG) (xs:List iy) (d:Option Pos) (t:Tx)
 |grd (g:Pos) (w:Bool) (b:List Bool) (k:aG) (xs:List iy) (d:Option Pos) (t:Tx)
 |nw (k:aG) (xs:List iy) (d:Option Pos) (t:Tx)
 |gnw (g:Pos) (w:Bool) (k:aG) (xs:List iy) (d:Option Pos) (t:Tx)
 |ef (k:aG) (xs:List iy) (d:Option Pos) (t:Tx)
 |gef (g:Pos) (w:Bool) (k:aG) (xs:List iy) (d:Option Pos) (t:Tx)
 |cnd (x:iy) (a b:Tx)
 |jn (l:List Pos) (a b:Tx)
 |jmp (i:Un) (l:List Pos)
 |arg (l:List Pos) (t:Tx) (r:Tx)
 |lp (j:Un) (ins:List Pos)
 |agn (ins:List Pos)
 |out (i:Un) (l:List Pos)
 |res (rs:List QC)
def txO:List bV->Tx->Tx
 |[],t=>t
 |  o::os,t=>match o.guard with
    |none=>.op o.k o.xs o.dst (txO os t)
    |some (p,w)=>.gop p w o.k o.xs o.dst (txO os t)
def bitsOf(cE:Nat):List Nat->List Bool
 |[]=>[]
 |i::is=>cE.testBit i::bitsOf cE is
def txD:List (Nat×bV)->List Nat->Tx->Tx
 |[],_,t=>t
 |  (j,o)::os,is,t=>match o.cls,o.guard with
    |.pure,none=>.pr o.k o.xs o.dst (txD os (j::is) t)
    |.pure,some (p,w)=>.gpr p w o.k o.xs o.dst (txD os (j::is) t)
    |.read,none=>.rd (bitsOf o.cE is) o.k o.xs o.dst (txD os (j::is) t)
    |.read,some (p,w)=>.grd p w (bitsOf o.cE is) o.k o.xs o.dst (txD os (j::is) t)
    |.new,none=>.nw o.k o.xs o.dst (txD os (j::is) t)
    |.new,some (p,w)=>.gnw p w o.k o.xs o.dst (txD os (j::is) t)
    |.bk,none=>.ef o.k o.xs o.dst (txD os (j::is) t)
    |.bk,some (p,w)=>.gef p w o.k o.xs o.dst (txD os (j::is) t)
def txA(K:o6->Tx):List (Nat×List Pos)->Tx->Tx
 |[],t=>t
 |(e,l)::r,t=>.arg l (K (exOf e)) (txA K r t)
def tx:AC->Sh->Nat->(o6->Nat->Tx)->Tx
 |.skip,_,d,K=>K .normal d
 |.region ops,_,d,K=>txO ops (K .normal d)
 |.draw ops,_,d,K=>.dr (txD ops [] (K .normal d))
 |  .seq a b,s,d,K=>match s with
    | .seq none s t=>tx a s d λex d=>match ex with
      |.normal=>tx b t d K
      |.exit i=>K (.exit i) d
      |.ret=>K .ret d
    | .seq (some l) s t=>.jn l (tx a s (d+1) λex d'=>match ex with
      |.normal=>.jmp (un (d' - d - 1)) l
      |.exit i=>K (.exit i) d'
      |.ret=>K .ret d') (tx b t d K)
    |_=>.bad
 |  .cond x a b,s,d,K=>match s with
    |.cond s t=>.cnd x (tx a s d K) (tx b t d K)
    |_=>.bad
 |  .block id a,s,d,K=>match s with
    | .block s=>tx a s d λex d=>match ex with
      |.normal=>K .normal d
      | .exit i=>match Nat.beq i id with
        |true=>K .normal d
        |false=>K (.exit i) d
      |.ret=>K .ret d
    |_=>.bad
 |  .loop _,s,d,K=>match s with
    |.loop j ins outs _=>txA (λex=>K ex d) outs (.lp (un j) ins)
    |_=>.bad
 |.exit id,_,d,K=>K (.exit id) d
 |.ret,_,d,K=>K .ret d
def idxOf:List (Nat×List Pos)->Nat->Nat
 |[],_=>0
 |  (i,_)::r,e=>match Nat.beq i e with
    |true=>0
    |false=>idxOf r e+1
def txF(A:dR)(s:Sh):Tx:=tx A.code s 0 λex _=>match ex with
 |.normal=>.res A.results
 |.ret=>.res A.results
 |.exit _=>.bad
def txL(x:AC×Sh):List Pos×Tx:=match x.2 with
 |  .loop _ ins outs s=>(ins,tx x.1 s 0 λex _=>match ex with
    |.normal=>.agn ins
    |.exit i=>.out (un (idxOf outs (i+2))) (ZL outs (i+2))
    |.ret=>.out (un (idxOf outs 1)) (ZL outs 1))
 |_=>([],.bad)
section
variable{R:Type}
abbrev KK(R:Type):=List AV->St->Option R
abbrev O2:=Option (AV×St)
abbrev Q2:=KK (AV×St)
def FU:Unit:=(λ_=>()) (@den AV)
def Cd(p:Pos)(fr:Fr)(k:AV->Option R):Option R:=match fr.get p with
 |some v=>k v
 |none=>(λ_=>none) FU
def D9(p:Pos)(v:AV)(fr:Fr)(k:Fr->Option R):Option R:=(λ_=>k (fr.put (some v) p)) FU
def Ec(d:Option Pos)(v:AV)(fr:Fr)(k:Fr->Option R):Option R:=match d with
 |some p=>D9 p v fr k
 |none=>k fr
def CW(fr:Fr):List iy->(List AV->Option R)->Option R
 |[],k=>k []
 |.t p::xs,k=>Cd p fr λv=>CW fr xs λvs=>k (v::vs)
 |.c v::xs,k=>CW fr xs λvs=>k (v::vs)
def getLT:List Pos->Fr->(List AV->Option R)->Option R
 |[],_,k=>k []
 |p::ps,fr,k=>Cd p fr λv=>getLT ps fr λvs=>k (v::vs)
def Af:List Pos->List AV->Fr->(Fr->Option R)->Option R
 |[],vs,fr,k=>mO vs (k fr)
 |p::ps,vs,fr,k=>iw vs λv vs=>D9 p v fr λfr=>Af ps vs fr k
def adl(p:Pos)(k:Pos->Option R):Option R:=(λ_=>k p.succ) FU
def PJ:Pos->List AV->Fr->(Fr->Option R)->Option R
 |_,[],fr,k=>k fr
 |p,v::vs,fr,k=>D9 p v fr λfr=>adl p λp=>PJ p vs fr k
def XK:Un->List (KK R)->KK R
 |.z,k::_=>k
 |.s n,_::ks=>XK n ks
 |_,[]=>λ_ _=>none
def yE:List Bool->T AB->List RC->T AB
 |  b ::bs,h,r::rs=>match r with
    | .new id aM=>match b with
      |true=>(yE bs h rs).put (some aM) id
      |false=>yE bs h rs
    |.bk _ _=>h
    |.pure=>yE bs h rs
 |_,h,_=>h
def yF(k:aG)(xs:List AV)(v:AV):List (Pos×AB)->List Bool->List RC->Bool
 |  up,b::bs,r::rs=>match r with
    | .new id aM=>match b with
      |true=>yF k xs v ((id,aM)::up) bs rs
      |false=>yF k xs v up bs rs
    | .bk base _=>match b with
      |true=>true
      |false=>pL k xs v (nZ up (yE bs base rs))&&yF k xs v up bs rs
    |.pure=>yF k xs v up bs rs
 |_,_,_=>true
def Mx(fr:Fr)(st:St):List QC->(List AV->Option R)->Option R
 |[],k=>k []
 |.tmp p::rs,k=>Cd p fr λv=>Mx fr st rs λvs=>k (v::vs)
 |.cell p n::rs,k=>Cd p fr λq=>ldr n q st λv=>Mx fr st rs λvs=>k (v::vs)
def ahd(as:List (KK R))(f:KK R)(k:List (KK R)->Option R):Option R:=(λ_=>k (as++[f])) FU
def pkR(vs:List AV)(st:St):Option (AV×St):=some (Ab vs,st)
end
section
variable(c:aj)(F:Nat)(Ls:Un->List Q2->Nat->Q2)(ag:Q2)(ko:List Q2)
def evX(fr:Fr)(x:iy)(k:AV->Option (AV×St)):Option (AV×St):=match x with
 |.t p=>Cd p fr k
 |.c v=>k v
def ev:Tx->List (KK (AV×St))->List (KK (AV×St))->Fr->St->List RC->T AB->Option (AV×St)
 |.bad,_,_,_,_,_,_=>none
 |.op k xs d t,ks,as,fr,st,rs,b=>CW fr xs λvs=>aq c k vs st λv st=>Ec d v fr λfr=>ev t ks as fr st rs b
 |.gop g w k xs d t,ks,as,fr,st,rs,b=>CW fr xs λvs=>Cd g fr λg=>qM c g w k vs st λv st=>Ec d v fr λfr=>ev t ks as fr st rs b
 |.dr t,ks,as,fr,st,_,_=>ev t ks as fr st [] st.heap
 |.pr k xs d t,ks,as,fr,st,rs,b=>CW fr xs λvs=>eX k vs λv=>Ec d v fr λfr=>ev t ks as fr st (.pure::rs) b
 |.gpr g w k xs d t,ks,as,fr,st,rs,b=>CW fr xs λvs=>Cd g fr λg=>gpr g w k vs λv=>Ec d v fr λfr=>ev t ks as fr st (.pure::rs) b
 |.rd bs k xs d t,ks,as,fr,st,rs,b=>CW fr xs λvs=>jI k vs (yE bs b rs) (λv=>yF k vs v [] bs rs) λv=>Ec d v fr λfr=>ev t ks as fr st (.pure::rs) b
 |.grd g w bs k xs d t,ks,as,fr,st,rs,b=>CW fr xs λvs=>Cd g fr λg=>grd g w k vs (yE bs b rs) (λv=>yF k vs v [] bs rs) λv=>Ec d v fr λfr=>ev t ks as fr st (.pure::rs) b
 |.nw k xs d t,ks,as,fr,st,rs,b=>CW fr xs λvs=>U9 k vs st λv aM=>Ec d v fr λfr=>ev t ks as fr (ah st aM) (.new st.next aM::rs) b
 |.gnw g w k xs d t,ks,as,fr,st,rs,b=>CW fr xs λvs=>Cd g fr λg=>wnt g w (U9 k vs st λv aM=>Ec d v fr λfr=>ev t ks as fr (ah st aM) (.new st.next aM::rs) b) (Ec d .undef fr λfr=>ev t ks as fr st (.pure::rs) b)
 |.ef k xs d t,ks,as,fr,st,rs,b=>CW fr xs λvs=>aq c k vs st λv st'=>Ec d v fr λfr=>ev t ks as fr st' (.bk b st'.heap::rs) st'.heap
 |.gef g w k xs d t,ks,as,fr,st,rs,b=>CW fr xs λvs=>Cd g fr λg=>wnt g w (aq c k vs st λv st'=>Ec d v fr λfr=>ev t ks as fr st' (.bk b st'.heap::rs) st'.heap) (Ec d .undef fr λfr=>ev t ks as fr st (.pure::rs) b)
 |.cnd x t u,ks,as,fr,st,rs,b=>evX fr x λv=>cnd v (ev t ks as fr st rs b) (ev u ks as fr st rs b)
 |.jn l t u,ks,as,fr,st,rs,b=>bR (λk=>ev t (k::ks) as fr st rs b) (λvs st=>Af l vs .e λfr=>ev u ks as fr st [] .e)
 |.jmp i l,ks,_,fr,st,_,_=>getLT l fr λvs=>XK i ks vs st
 |.arg l t r,ks,as,fr,st,rs,b=>ahd as (λos st=>Af l os .e λfr=>ev t ks [] fr st [] .e) λas=>ev r ks as fr st rs b
 |.lp j ins,_,as,fr,st,_,_=>getLT ins fr λvs=>Ls j as F vs st
 |.agn ins,_,_,fr,st,_,_=>getLT ins fr λvs=>ag vs st
 |.out i l,_,_,fr,st,_,_=>getLT l fr λvs=>XK i ko vs st
 |.res rs,_,_,fr,st,_,_=>Mx fr st rs λvs=>pkR vs st
def eu(p:List Pos×Tx)(vs:List AV)(st:St):Option (AV×St):=Af p.1 vs .e λfr=>ev c F Ls ag ko p.2 [] [] fr st [] .e
end
def aZ{R:Type}:Un->List (KK R)->Nat->KK R:=λ_ _ _ _ _=>none
def fI{R:Type}:KK R:=λ_ _=>none
def aY(c:aj)(F:Nat)(Ls:Un->List Q2->Nat->Q2)(t:Tx)(args:List AV)(st:St):O2:=PJ .h args .e λfr=>ev c F Ls fI [] t [] [] fr st [] .e
def ur(Ls:Un->List Q2->Nat->Q2)(A:dR)(s:Sh):Env (AV×St):=λj K=>Ls (un j) ((lpO (iK A s j).2).map λo=>K o.1)
def sl:Sh:= .leaf
def sq(a b:Sh):Sh:= .seq none a b
def sj(l:List Nat)(a b:Sh):Sh:= .seq (some (l.map key)) a b
def sc(a b:Sh):Sh:= .cond a b
def sb(a:Sh):Sh:= .block a
def sp(j:Nat)(ins:List Nat)(outs:List (Nat×List Nat))(a:Sh):Sh:= .loop j (ins.map key) (outs.map λo=>(o.1,o.2.map key)) a
section
variable{R:Type}(l r:Fr)(v u:AV)(x:Option AV)(p:Pos)(fr:Fr)(k:AV->Option R)(K:Fr->Option R)(kp:Pos->Option R)
theorem H9:Cd .h (.n l (some v) r) k=k v:=rfl
theorem Ia:Cd (.o p) (.n l x r) k=Cd p l k:=rfl
theorem Ib:Cd (.i p) (.n l x r) k=Cd p r k:=rfl
theorem CX:D9 .h v .e K=K (.n .e (some v) .e):=rfl
theorem CY:D9 .h v (.n l x r) K=K (.n l (some v) r):=rfl
theorem CZ:D9 (.o p) v .e K=D9 p v .e λt=>K (.n t none .e):=rfl
theorem C8:D9 (.o p) v (.n l x r) K=D9 p v l λt=>K (.n t x r):=rfl
theorem C9:D9 (.i p) v .e K=D9 p v .e λt=>K (.n .e none t):=rfl
theorem Da:D9 (.i p) v (.n l x r) K=D9 p v r λt=>K (.n l x t):=rfl
theorem Ic:Ec none v fr K=K fr:=rfl
theorem Ie:Ec (some p) v fr K=D9 p v fr K:=rfl
theorem Db:adl .h kp=kp (.o .h):=rfl
theorem Dc:adl (.o p) kp=kp (.i p):=rfl
theorem Dd:adl (.i p) kp=adl p λq=>kp (.o q):=rfl
theorem De(f:KK R)(k:List (KK R)->Option R):ahd [] f k=k [f]:=rfl
theorem Df(a:KK R)(as:List (KK R))(f:KK R)(k:List (KK R)->Option R):ahd (a::as) f k=ahd as f λl=>k (a::l):=rfl
theorem OE(st:St):pkR [] st=some (.tuple [],st):=rfl
theorem OG(st:St):pkR [v] st=some (v,st):=rfl
theorem OH(vs:List AV)(st:St):pkR (v::u::vs) st=some (.tuple (v::u::vs),st):=rfl
theorem uK(c:aj)(F:Nat)(Ls:Un->List Q2->Nat->Q2)(ag:Q2)(ko:List Q2)(l:List Pos)(t:Tx)(vs:List AV)(st:St):eu c F Ls ag ko (l,t) vs st=Af l vs .e λfr=>ev c F Ls ag ko t [] [] fr st [] .e:=rfl
end
def Ar{α:Type}:Option α->Bool
 |none=>true
 |some _=>false
theorem avp{α:Type}{o:Option α}(h:Ar o=true):o=none:=by cases o with|none=>rfl|some _=>cases h
theorem avq{α:Type}[Inhabited α]{o:Option α}(h:Ar o=false):o=some (o.getD default):=by cases o with|none=>cases h|some _=>rfl
def yG(G:T dR)(f:Nat):dR:=(G.get (key f)).getD default
theorem aoq{O:fc}{G:T dR}{F:Nat}{L:Env (AV×St)}{f:FuncId}{s:Sh}{args:List AV}{st:St}{r:AV×St}(hk:(Ar (O f)&& !Ar (G.get (key f)))=true)
  (hL:∀x∈fZ (yG G f).code s,D0 (run O G) F L x.1 x.2) {k:O2} (hd:Jy (run O G) F L (yG G f) s args st=k) (h:k=some r):run O G f args st=some (tidy st r):=by
 simp only[Zb1,Zj6]at hk;exact aqT (avp hk.1) (avq hk.2) hL (hd.trans h)
theorem ala{O:fc}{G:T dR}{F:Nat}{f:FuncId}{args:List AV}{st:St}{r:AV×St}(s:Sh)(hk:(Ar (O f)&& !Ar (G.get (key f))&&(fZ (yG G f).code s).isEmpty)=true)
  {k:O2} (hd:Jy (run O G) F (aha []) (yG G f) s args st=k) (h:k=some r):run O G f args st=some (tidy st r):=by
 rw[Zb1,List.isEmpty_iff]at hk;exact aoq hk.1 (by rw[hk.2];intro x hx;cases hx) hd h
theorem aeD{O:fc}{G:T dR}{F:Nat}{f:FuncId}{args:List AV}{st:St}{r:AV×St}(Ls:Un->List Q2->Nat->Q2)(s:Sh)(n:Nat)(hk:(Ar (O f)&& !Ar (G.get (key f))&&Nat.beq (fZ (yG G f).code s).length n)=true)
  (hL:∀i,i<n->D0 (run O G) F (ur Ls (yG G f) s) (iK (yG G f) s i).1 (iK (yG G f) s i).2) {k:O2} (hd:Jy (run O G) F (ur Ls (yG G f) s) (yG G f) s args st=k) (h:k=some r):run O G f args st=some (tidy st r):=by
 rw[Zb1]at hk;exact aoq hk.1 (aqU n hk.2 hL) hd h
theorem alb {O:fc} {G:T dR}  {F:Nat}{f:FuncId}{args:List AV}{st:St}{r:AV×St}(Ls:Un->List Q2->Nat->Q2)(s:Sh)(hk:(Ar (O f)&& !Ar (G.get (key f))&&Nat.beq (fZ (yG G f).code s).length 1)=true)
  (hs:(aeu (iK (yG G f) s 0).2&&Nat.beq (lpJ (iK (yG G f) s 0).2) 0)=true) (h0:∀K' vs st,ur Ls (yG G f) s 0 K' 0 vs st=none)
  (h1:∀K' n vs st,ur Ls (yG G f) s 0 K' (n+1) vs st=Q7 (den (run O G) F (ur Ls (yG G f) s) (iK (yG G f) s 0).1 (lpB (iK (yG G f) s 0).2)) (lpI (iK (yG G f) s 0).2) (lpO (iK (yG G f) s 0).2) K' (ur Ls (yG G f) s 0 K' n) vs st)
  {k:O2} (hd:Jy (run O G) F (ur Ls (yG G f) s) (yG G f) s args st=k) (h:k=some r):run O G f args st=some (tidy st r):=
 aeD Ls s 1 hk (fun i hi=>by obtain rfl:i=0:=by omega
                             exact cW 0 hs h0 h1) hd h
end
section
open Go
theorem zq{R:Type}{Q:Option R->Prop}(P:(List AV->St->Option R)->Prop){A:(List AV->St->Option R)->Option R}{T:List AV->St->Option R}(hT:P T)(hA:∀j,P j->Q (A j)):Q (bR A T):=hA T hT
theorem uX{m:Nat}(h1:1<=m)(h2:m<=18):m=1\/m=2\/m=3\/m=4\/m=5\/m=6\/m=7\/m=8\/m=9\/m=10\/m=11\/m=12\/m=13\/m=14\/m=15\/m=16\/m=17\/m=18:=by omega
end
section
def cnt(n:Nat)(P:Nat->Bool):Nat:=match n with
 |0=>0
 |n+1=>cnt n P+if P n then 1 else 0
def wz(n:Nat)(f:Nat->Nat):Nat:=match n with
 |0=>0
 |n+1=>wz n f+f n
theorem XL:∀{n:Nat}{f g:Nat->Nat},(∀i,i<n->f i<=g i)->wz n f<=wz n g
 |0,_,_,_=>Za3 _
 |n+1,f,g,h=>by
  have ih:=XL (n:=n) (f:=f) (g:=g) λi hi=>h i (by omega)
  have:=h n (by omega);unfold wz;omega
theorem Ag{n:Nat}{f g:Nat->Nat}(h:∀i,i<n->f i=g i):wz n f=wz n g:=
 Nat.le_antisymm (XL λi hi=>Zr8 (h i hi)) (XL λi hi=>Zr8 (h i hi).symm)
theorem XM(n:Nat)(P:Nat->Bool):cnt n P<=n:=by
 induction n with
 |zero=>exact Za3 _
 |succ n ih=>unfold cnt;split<;>omega
def on(q:Nat->Int)(g:Nat):Bool:=decide (0<=q g)
inductive RM where
 |two (a b:Nat) (P:Int->Int->Bool)
 |one (a:Nat) (P:Int->Bool)
 |Rc (P:Nat->Nat->Int->Int->Bool)
 |qM (P:Nat->Int->Bool)
 |spk (f:(Nat->Int)->Nat)
 |iQ (A:Nat->Bool)
 |fil (A:Nat->Bool) (m:Nat)
 |lim (A:Nat->Bool) (m:Nat)
structure JT where
 n:Nat
 T:Nat
 tab:Int->Nat
 host:Nat->Bool
section
variable(J:JT)(q:Nat->Int)
def JT.at(t:Nat)(g:Nat):Bool:=on q g&&J.tab (q g)==t
def JT.uY:RM->Nat
 |.two a b P=>if on q a&&on q b&&P (q a) (q b)then 1 else 0
 |.one a P=>if on q a&&P (q a)then 1 else 0
 | .Rc P=>wz J.n λa=>cnt J.n λb=>decide (a<b)&&on q a&&on q b&&P a b (q a) (q b)
 |.qM P=>cnt J.n λg=>on q g&&P g (q g)
 |.spk f=>f q
 |.iQ A=>wz J.T λt=>if A t&&decide (0<cnt J.n (J.at q t))&&decide (cnt J.n (λg=>J.at q t g&&J.host g)=0)then 1 else 0
 |.fil A m=>wz J.T λt=>if A t then m - cnt J.n (J.at q t)else 0
 |.lim A m=>wz J.T λt=>if A t then cnt J.n (J.at q t) - m else 0
def JT.left:Nat:=cnt J.n λg=> !on q g
def JT.amn:Nat:=cnt J.n λg=> !on q g&&J.host g
def JT.least:RM->Nat
 |.spk f=>if 0<J.left q then 0 else f q
 |.iQ A=>J.uY q (.iQ A) - J.amn q
 |.fil A m=>J.uY q (.fil A m) - J.left q
 |r=>J.uY q r
end
section
variable{J:JT}{q p:Nat->Int}
end
def ru(tk:List Bool)(fr:Nat):Nat->Nat->Option Nat
 |0,_=>none
 |m+1,k=>if tk.getD ((fr+k) % tk.length) true=false then some ((fr+k) % tk.length)else ru tk fr m (k+1)
def ry(tk:List Bool)(fr:Nat):List Bool×Int:=match ru tk fr tk.length 0 with
 |some s=>(tk.set s true,(s:Int))
 |none=>(tk,-1)
theorem JA{tk:List Bool}{fr s:Nat}:∀{m k:Nat},ru tk fr m k=some s->tk[s]? =some false
 |0,_,h=>by cases h
 |m +1,k,h=>by
  unfold ru at h;split at h
  . rename_i e;cases h;cases e2:tk[(fr+k) % tk.length]? with
    |none=>rw[Zb3,e2]at e;simp at e
    |some b=>rw[Zb3,e2]at e;simp at e;rw[e]
  .exact JA h
theorem Ve{tk:List Bool}{fr:Nat}:∀{m k:Nat},ru tk fr m k=none->∀j,k<=j->j<k+m->tk.getD ((fr+j) % tk.length) true=true
 |0,_,_,j,h1,h2=>by omega
 |m +1,k,h,j,h1,h2=>by
  unfold ru at h;split at h
  .cases h
  . rename_i e;by_cases e2:j=k
    .subst e2;simpa using e
    .exact Ve h j (by omega) (by omega)
def adm(tk:List Bool):Nat:=(tk.filter λb=> !b).length
theorem afV:∀{tk:List Bool},0<adm tk->∃s:Nat,tk[s]? =some false
 |[],h=>by simp[adm]at h
 |false::tk,_=>⟨0,rfl⟩
 |true::tk,h=>by
  obtain⟨s,hs⟩:=afV (tk:=tk) (by simpa [adm]using h);exact⟨s+1,by simpa using hs⟩
theorem Ce(tk:List Bool)(fr:Nat):((ry tk fr).2= -1/\(ry tk fr).1=tk/\adm tk=0)\/∃s:Nat,ry tk fr=(tk.set s true,(s:Int))/\tk[s]? =some false:=by
 unfold ry;cases e:ru tk fr tk.length 0 with
 |some s=>exact .inr ⟨s,rfl,JA e⟩
 |none=>
  refine .inl ⟨rfl,rfl,?_⟩;rcases Zn4 (adm tk)with h|h
  .exact h
  . exfalso;obtain⟨s,hs⟩:=afV h;have hl:s<tk.length:=(Za2.1 hs).1;have key:=Ve e ((s+tk.length - fr % tk.length) % tk.length) (Zi0 _) (by rw[Zb8];exact Zj5 _ (by omega));have hm:fr % tk.length<tk.length:=Zj5 _ (by omega);have:(fr+(s+tk.length - fr % tk.length) % tk.length) % tk.length=s:=by
        rw[Nat.add_mod,Nat.mod_mod];rcases Zj2 (s+tk.length - fr % tk.length) tk.length with h1|h1
        .rw[Zl2 h1];rw[show fr % tk.length+(s+tk.length - fr % tk.length)=s+tk.length by omega,Nat.add_mod_right,Zl2 hl]
        .rw[Zq7 h1,Zl2 (by omega:s+tk.length - fr % tk.length - tk.length<tk.length)];rw[show fr % tk.length+(s+tk.length - fr % tk.length - tk.length)=s by omega,Zl2 hl]
    rw[this,Zb3,hs]at key;simp at key
inductive Ch where
 |no
 |XN (s:Nat)
 |fr (f:Nat)
def iz(tk:List Bool):List Ch->List Int
 |[]=>[]
 |.no::l=> -1::iz tk l
 | .XN s::l=>(s:Int)::iz tk l
 |.fr f::l=>(ry tk f).2::iz (ry tk f).1 l
theorem Tw:∀(l:List Ch)(tk:List Bool),(iz tk l).length=l.length
 |[],_=>rfl
 |.no::l,tk=>by simp[iz,Tw l]
 | .XN s::l,tk=>by simp[iz,Tw l]
 |.fr f::l,tk=>by simp[iz,Tw l]
theorem aor(tk:List Bool)(f:Nat):(ry tk f).1.length=tk.length:=by rcases Ce tk f with⟨_,h,_⟩|⟨s,h,_⟩<;>rw[h]<;>simp
def Sat(tk:List Bool)(l:List Ch):Prop:=(∀s,Ch.XN s∈l->tk[s]? =some true)/\∀(i j s:Nat),l[i]? =some (.XN s)->l[j]? =some (.XN s)->i=j
theorem Sat.tail{tk:List Bool}{c:Ch}{l:List Ch}(h:Sat tk (c::l)):Sat tk l:=
 ⟨λs hs=>h.1 s (Zb0 _ hs),λi j s h1 h2=>by have:=h.2 (i+1) (j+1) s (by simpa using h1) (by simpa using h2);omega⟩
theorem Sat.place{tk:List Bool}{l:List Ch}(h:Sat tk l)(f:Nat):Sat (ry tk f).1 l:=by
 refine⟨λs hs=> ?_,h.2⟩;have:=h.1 s hs;rcases Ce tk f with⟨_,e,_⟩|⟨s',e,h'⟩<;>rw[e]
 .exact this
 . by_cases e2:s'=s
   .subst e2;rw[h']at this;cases this
   .rw[Ze6 e2];exact this
theorem Dg:∀(l:List Ch)(tk:List Bool),Sat tk l->∀(i:Nat)(v:Int),(iz tk l)[i]? =some v->v= -1\/∃s:Nat,v=(s:Int)/\(tk[s]? =some false\/(tk[s]? =some true/\l[i]? =some (.XN s)))
 |[],_,_,i,v,h=>by simp[iz]at h
 |c::l,tk,hs,0,v,h=>by
  cases c with
  |no=>simp[iz]at h;exact .inl h.symm
  |XN s=>simp[iz]at h;exact .inr ⟨s,h.symm,.inr ⟨hs.1 s (Ze2),rfl⟩⟩
  |fr f=>
   simp[iz]at h;rcases Ce tk f with⟨e,_,_⟩|⟨s,e,h'⟩
   .    exact .inl (by rw[<-h,e])
   .    exact .inr ⟨s,by rw[<-h,e],.inl h'⟩
 |c::l    ,tk,hs,i+1,v,h=>by
  cases c with
  |no=>simpa using Dg l tk hs.tail i v (by simpa [iz]using h)
  |XN s=>simpa using Dg l tk hs.tail i v (by simpa [iz]using h)
  |fr f=>
   have h:(iz (ry tk f).1 l)[i]? =some v:=(by simpa [iz]using h);rcases Dg l _ (hs.tail.place f) i v h with e|⟨s,e,h'⟩
   .    exact .inl e
   .    refine .inr ⟨s,e,?_⟩;rcases Ce tk f with⟨_,e2,_⟩|⟨s',e2,h2⟩<;>rw[e2]at h'
        .simpa using h'
        . by_cases e3:s'=s
          .subst e3;exact .inl h2
          .rw[Ze6 e3]at h';simpa using h'
theorem Lv:∀(l:List Ch)(tk:List Bool),Sat tk l->∀(i j:Nat)(v:Int),i<j->(iz tk l)[i]? =some v->(iz tk l)[j]? =some v->v= -1
 |[],_,_,i,j,v,_,h,_=>by simp[iz]at h
 |c::l    ,tk,hs,0,j+1,v,_,h1,h2=>by
  cases c with
  |no=>simp[iz]at h1;exact h1.symm
  |XN s=>
   simp[iz]at h1;rcases Dg l tk hs.tail j v (by simpa [iz]using h2)with e|⟨s',e,h'|h'⟩
   .    exact e
   .    have:=hs.1 s (Ze2);obtain rfl:s'=s:=(by omega);rw[this]at h';cases h'
   .    obtain rfl:s'=s:=(by omega);have:=hs.2 0 (j+1) s' rfl (by simpa using h'.2);omega
  |fr f=>
   simp[iz]at h1;have h2:(iz (ry tk f).1 l)[j]? =some v:=(by simpa [iz]using h2);rcases Ce tk f with⟨e,_,_⟩|⟨s,e,h'⟩
   .    rw[<-h1,e]
   .    rcases Dg l _ (hs.tail.place f) j v h2 with e2|⟨s',e2,h3|h3⟩
        .exact e2
        .rw[e]at h1 h3;obtain rfl:s'=s:=(by simp at h1;omega);have hl:=(Za2.1 h').1;simp[Zf4 hl]at h3
        .rw[e]at h1;obtain rfl:s'=s:=(by simp at h1;omega);have:=hs.tail.1 s' (Zc1 h3.2);rw[h']at this;cases this
 |c::l,tk,hs,i+1,j+1,v,XJ,h1,h2=>by
  cases c with
  |no=>exact Lv l tk hs.tail i j v (by omega) (by simpa [iz]using h1) (by simpa [iz]using h2)
  |XN s=>exact Lv l tk hs.tail i j v (by omega) (by simpa [iz]using h1) (by simpa [iz]using h2)
  |fr f=>exact Lv l _ (hs.tail.place f) i j v (by omega) (by simpa [iz]using h1) (by simpa [iz]using h2)
def looks:List Ch->Nat
 |[]=>0
 |.fr _::l=>looks l+1
 |_::l=>looks l
end
section
open Go
section
variable{R:Type}{c:aj}
theorem atM{v z:AV}{n N k:Nat}(hk:k<=n):cut (List.replicate n v++List.replicate N z) 0 k=some (List.replicate k v):=by
 unfold cut;rw[cU,Za0 (by simp;omega)];simp only[Ze5];rw[Zk7 (by simpa using hk),List.take_replicate,Zk8 hk]
theorem amo{v z:AV}{n m k:Nat}:aU (List.replicate n v++List.replicate m z) n (List.replicate k v)=List.replicate (n+k) v++List.replicate (m - k) z:=by unfold aU;rw[Zk7 (by simp),Zf1 (by simp)];rw[<-Zf5,List.replicate_append_replicate];congr 1;rw[List.drop_append];simp
theorem Tz{v:AV}(hv:v.one=true):∀k,aQ (List.replicate k v)=true
 |0=>rfl
 |k+1=>by rw[Zn0];unfold aQ;rw[hv];exact Tz hv k
theorem aip{b:Pos}{v z:AV}{n m:Nat}{cp JY:Option Nat}(hn:0<n)(hm:0<m)(hv:v.one=true){s:St}(h:s.heap.get b=some (.cells (List.replicate n v++List.replicate m z) 0))(K:AV->St->Option R):
  aq c (.copyB 1) [.slice b n m cp 1,.slice b 0 n JY 1] s K=K (.int .i64 ((min n m:Nat):Int)) (bh s b (.cells (List.replicate (n+min n m) v++List.replicate (m - min n m) z) 0)):=by
 have e:aG.run (λb=>s.heap.get b) s.next (.copyB 1) [.slice b n m cp 1,.slice b 0 n JY 1]=some (.bk (Ma (min n m)) none (some (b,.cells (List.replicate (n+min n m) v++List.replicate (m - min n m) z) 0)) none):=by
  show pW (λb=>s.heap.get b) s.next 1 [.slice b n m cp 1,.slice b 0 n JY 1]=_;unfold pW;simp only[dV];rw[cO,Za1 (by omega)];simp only;have hf:dF 1 (min n m) (λb=>s.heap.get b) (.slice b 0 n JY 1)=some (List.replicate (min n m) v):=by
   unfold dF;rw[cO,Za1 (by omega)];simp only;rw[h];simp only[Zn5];exact atM (Nat.min_le_left _ _)
  rw[h,hf];simp only;rw[cU,Za0 (by simp;omega),cU,Za0 (Zi0 _),Tz hv];simp only;rw[amo]
 unfold aq cJ;rw[e];rfl
theorem abW{n:Int}(h0:0<=n)(h1:n<4294967296)(s:St)(K:AV->St->Option R):aq c (.bin .and .num) [.int .u64 n,.int .u64 4294967295] s K=K (.int .u64 n) s:=by
 obtain⟨m,rfl⟩:=Int.eq_ofNat_of_zero_le h0;have hm:m<4294967296:=by omega
 have e:(IntKind.u64.wrap ((BitVec.ofInt IntKind.u64.bits (m:Int) &&& BitVec.ofInt IntKind.u64.bits 4294967295).toNat:Int))=(m:Int):=by
  have e1:(BitVec.ofInt 64 (m:Int) &&& BitVec.ofInt 64 4294967295).toNat=m:=by
   rw[BitVec.toNat_and];have a:(BitVec.ofInt 64 (m:Int)).toNat=m:=(by rw[BitVec.toNat_ofInt];omega);have b:(BitVec.ofInt 64 4294967295).toNat=2 ^ 32 - 1:=(by decide);rw[a,b,Nat.and_two_pow_sub_one_eq_mod,Zl2 (by omega)]
  show IntKind.u64.wrap (((BitVec.ofInt 64 (m:Int) &&& BitVec.ofInt 64 4294967295).toNat:Nat):Int)=_;rw[e1];simp only[IntKind.wrap,show IntKind.u64.bits=64 from rfl];have hs:IntKind.u64.signed=false:=rfl;simp only[hs,Bool.false_and,Zf0,Zg7];omega
 refine aV c K (λH n=> ?_) s;show(pV .and .num (.int .u64 (m:Int)) (.int .u64 4294967295)).map eO.val=_;unfold pV;simp only[dL];rw[e];rfl
end
theorem ara{R:Type}(K:AV->Option R){b:Pos}{off len es es':Nat}{cap:Option Nat}{k:IntKind}{i:Nat}(h:i<len):eX (.idxA es none) [.slice b off len cap es',.int k (i:Int)] K=K (.ptr b (off+i*es)):=
 dD K (λH n=>by
  simp only[aG.run,td,jJ];have:Nat.blt i len=true:=by rw[Zr7];exact h
  rw[this])
end
section
abbrev Ev:=Nat×List Int
def kJ(l:List Ev):Nat:=(l.map λe=>e.1).sum
def fK(l:List Ev):Nat:=(l.map λe=>e.1+e.2.length).sum
theorem aeE(l m:List Ev):kJ (l++m)=kJ l+kJ m:=by unfold kJ;rw[Zc8,Zs3]
theorem LW(l m:List Ev):fK (l++m)=fK l+fK m:=by unfold fK;rw[Zc8,Zs3]
theorem atN(k:Nat)(w:List Int):kJ [(k,w)]=k:=rfl
def b9(f:Nat->List Ev):Nat->Nat->List Ev
 |0,_=>[]
 |m+1,k=>f k++b9 f m (k+1)
theorem adn(f:Nat->List Ev):∀m k,b9 f (m+1) k=b9 f m k++f (k+m)
 |0,k=>by simp[b9]
 |m+1,k=>by
  have:=adn f m (k+1);rw[b9,this,b9,Zf5,show k+1+m=k+(m+1)by omega]
theorem GZ(f:Nat->List Ev):∀n,kJ (b9 f n 0)=wz n λi=>kJ (f i)
 |0=>rfl
 |n+1=>by rw[adn,aeE,GZ f n,Zb8];rfl
theorem Bm{f:Nat->List Ev}{B:Nat}(h:∀k,fK (f k)<=B):∀m k,fK (b9 f m k)<=m*B
 |0,_=>by simp[b9,fK]
 |m+1,k=>by have:=Bm h m (k+1);have:=h k;rw[b9,LW,Zh5];omega
theorem alc(n:Nat)(P:Nat->Bool):(wz n λi=>if P i then 1 else 0)=cnt n P:=by
 induction n with
 |zero=>rfl
 |succ n ih=>unfold wz cnt;rw[ih]
def JT.who(J:JT)(q:Nat->Int)(t:Nat):List Int:=((List.range J.n).filter (J.at q t)).map λ(g:Nat)=>(g:Int)
theorem TA(n:Nat)(P:Nat->Bool):cnt (n+1) P=cnt n P+if P n then 1 else 0:=rfl
theorem XO(P:Nat->Bool):∀n,((List.range n).filter P).length=cnt n P
 |0=>rfl
 |n+1=>by
  rw[Zg4,Zk3,Zd6,XO P n,TA];cases e:P n<;>simp[e]
theorem JT.aeF(J:JT)(q:Nat->Int)(t:Nat):(J.who q t).length=cnt J.n (J.at q t):=by unfold JT.who;rw[Za4,XO]
theorem atO(P Q:Nat->Bool)(n:Nat):((List.range n).filter P).any Q=decide (0<cnt n λg=>P g&&Q g):=by
 induction n with
 |zero=>rfl
 |succ n ih=>
  rw[Zg4,Zk3,List.any_append,ih,TA];cases e:P n<;>cases e2:Q n<;>simp[e,e2]
section
variable(J:JT)(q:Nat->Int)
def uZ(b:Bool)(k:Nat)(w:List Int):List Ev:=if b then [(k,w)]else []
theorem My(b:Bool)(k:Nat)(w:List Int):kJ (uZ b k w)=if b then k else 0:=by unfold uZ;split<;>rfl
theorem Ig(b:Bool)(k:Nat)(w:List Int):fK (uZ b k w)<=k+w.length:=by unfold uZ;split<;>simp[fK]
def u0(P:Nat->Nat->Int->Int->Bool)(a b:Nat):List Ev:=uZ (on q a&&on q b&&P a b (q a) (q b)) 1 [(a:Int),(b:Int)]
def wC(a b:Nat)(P:Int->Int->Bool):List Ev:=uZ (on q a&&on q b&&P (q a) (q b)) 1 [(a:Int),(b:Int)]
def Ed(a:Nat)(P:Int->Bool):List Ev:=uZ (on q a&&P (q a)) 1 [(a:Int)]
def u6(n:Nat)(P:Nat->Nat->Int->Int->Bool):List Ev:=b9 (λa=>b9 (u0 q P a) (n - (a+1)) (a+1)) n 0
def Ee(n:Nat)(P:Nat->Int->Bool):List Ev:=b9 (λg=>uZ (on q g&&P g (q g)) 1 [(g:Int)]) n 0
def abX(T:Nat)(A:Nat->Bool)(D:List Int->List Ev):List Ev:=b9 (λt=>if A t then D (J.who q t)else []) T 0
def Mz(host:Nat->Bool)(l:List Int):List Ev:=uZ (!(l.any λg=>host g.toNat)&&decide (0<l.length)) 1 l
def PM(m:Nat)(l:List Int):List Ev:=uZ (decide (l.length<m)) (m - l.length) l
def MA(m:Nat)(l:List Int):List Ev:=uZ (decide (m<l.length)) (l.length - m) l
end
section
variable{J:JT}{q:Nat->Int}
theorem Re(a b:Nat)(P:Int->Int->Bool):kJ (wC q a b P)=J.uY q (.two a b P):=My _ _ _
theorem aiq(a:Nat)(P:Int->Bool):kJ (Ed q a P)=J.uY q (.one a P):=My _ _ _
theorem afW(f:Nat->List Ev):∀m k,kJ (b9 f m k)+wz k (λi=>kJ (f i))=wz (k+m) λi=>kJ (f i)
 |0,k=>by simp[b9,kJ]
 |m+1,k=>by
  have:=afW f m (k+1);rw[b9,aeE];rw[show k+(m+1)=k+1+m by omega, <-this];show _=_+(wz k _+kJ (f k))
  omega
theorem Rf(P:Nat->Nat->Int->Int->Bool):kJ (u6 q J.n P)=J.uY q (.Rc P):=by
 unfold u6;rw[GZ];refine Ag λa ha=> ?_
 have h1:=afW (λb=>if a<b then u0 q P a b else []) (J.n - (a+1)) (a+1);have h2:wz (a+1) (λi=>kJ (if a<i then u0 q P a i else []))=0:=by
   have:∀m,m<=a+1->wz m (λi=>kJ (if a<i then u0 q P a i else []))=0:=λm=>by
    induction m with
    |zero=>intro _;rfl
    |succ m ih=>intro hm;unfold wz;rw[ih (by omega),Za7 (by omega)];rfl
   exact this _ (Za3 _)
 have h3:∀m k,a<k->b9 (λb=>if a<b then u0 q P a b else []) m k=b9 (u0 q P a) m k:=λm=>by
   induction m with
   |zero=>intro k _;rfl
   |succ m ih=>intro k hk;rw[b9,b9,Zb6 hk,ih (k+1) (by omega)]
 rw[h3 _ _ (by omega),h2,Zf7,show a+1+(J.n - (a+1))=J.n by omega]at h1;rw[h1, <-alc];refine Ag λb _=> ?_
 unfold u0;by_cases h:a<b
 .rw[Zb6 h,My,Za0 h,Zg9]
 .rw[Za7 h,Za1 h];rfl
theorem aeG(P:Nat->Int->Bool):kJ (Ee q J.n P)=J.uY q (.qM P):=by unfold Ee;rw[GZ];show _=cnt J.n _;rw[<-alc];exact Ag λg _=>My _ _ _
theorem atQ(A:Nat->Bool):kJ (abX J q J.T A (Mz J.host))=J.uY q (.iQ A):=by
 unfold abX;rw[GZ];refine Ag λt _=> ?_
 cases hA:A t with
 |false=>simp[kJ]
 |true=>
  simp only[Zh1,Zg9];unfold Mz;rw[My,J.aeF];have:(J.who q t).any (λg=>J.host g.toNat)=decide (0<cnt J.n λg=>J.at q t g&&J.host g):=by unfold JT.who;rw[List.any_map];exact atO _ _ _
  rw[this];by_cases h:0<cnt J.n λg=>J.at q t g&&J.host g
  .rw[Za0 h,Za1 (show ¬cnt J.n (λg=>J.at q t g&&J.host g)=0 by omega)];simp
  .rw[Za1 h,Za0 (show cnt J.n (λg=>J.at q t g&&J.host g)=0 by omega)];simp
theorem atS(A:Nat->Bool)(m:Nat):kJ (abX J q J.T A (PM m))=J.uY q (.fil A m):=by
 unfold abX;rw[GZ];refine Ag λt _=> ?_
 cases hA:A t with
 |false=>simp[kJ]
 |true=>
  simp only[Zh1];unfold PM;rw[My,J.aeF];simp only[Ze1];split<;>omega
theorem atT(A:Nat->Bool)(m:Nat):kJ (abX J q J.T A (MA m))=J.uY q (.lim A m):=by
 unfold abX;rw[GZ];refine Ag λt _=> ?_
 cases hA:A t with
 |false=>simp[kJ]
 |true=>
  simp only[Zh1];unfold MA;rw[My,J.aeF];simp only[Ze1];split<;>omega
end
theorem ald(q:Nat->Int)(C:Int->Bool)(P:Nat->Nat->Int->Int->Bool)(a:Nat):∀m k,b9 (u0 q (λa b x y=>C x&&P a b x y) a) m k=if on q a&&C (q a)then b9 (u0 q P a) m k else []
 |0,k=>by simp[b9]
 |m+1,k=>by
  rw[b9,ald q C P a m (k+1),b9];unfold u0;cases e1:on q a<;>cases e2:C (q a)<;>simp[uZ,e1,e2]
theorem rY(k:Nat)(w:List Int):uZ true k w=[(k,w)]:=rfl
theorem eE(k:Nat)(w:List Int):uZ false k w=[]:=rfl
def BT(tab:Nat->Nat)(t:Nat):Nat->Nat
 |0=>0
 |i+1=>if tab i=t then BT tab t i else i+1
end
section
open Go
structure Rd(s:St)(es:Nat)(L:AV)(i:Nat)(b:Pos)(o:Nat)(r:List AV):Prop where
 st:∀{R:Type}(c:aj)(K:AV->St->Option R)(k:IntKind)(s1:St),aq c (.idxA es none) [L,.int k (i:Int)] s1 K=K (.ptr b o) s1
 pr:∀{R:Type}(K:AV->Option R)(k:IntKind),eX (.idxA es none) [L,.int k (i:Int)] K=K (.ptr b o)
 at':∀(j:Nat)(u:AV),r[j]? =some u->((cellsOf (s.heap.get b)).bind λcs=>cs[o+j]?)=some u
 all:((cellsOf (s.heap.get b)).bind λcs=>cut cs o es)=some r
theorem QS.rd{s:St}{es:Nat}{v:AV}{rows:List (List AV)}(h:QS es s v rows)(hr:∀r∈rows,r.length=es){i:Nat}{r:List AV}(hi:rows[i]? =some r):∃b o,Rd s es v i b o r:=by
 obtain⟨fH,rfl⟩:=Za2.1 hi;have hlen:=hr _ (Zb9 fH);rcases h with⟨rfl,h⟩|⟨b,off,cap,cs,rfl,g1,g2,g3,g4⟩|⟨b,off,rfl,h⟩
 .rw[h]at fH;simp at fH
 rotate_left
 .rw[h]at fH;simp at fH
 have hmul:(i+1)*es<=rows.length*es:=Zh4 _ fH;rw[Zh5]at hmul;have at0:∀(j:Nat)(u:AV),rows[i][j]? =some u->cs[off+i*es+j]? =some u:=λj u hj=>by have hj2:j<es:=(by rw[<-hlen];exact(Za2.1 hj).1);have:=Go.Ai.zn hr i j rows[i] u (H0 fH) hj;rw[<-g3,Ze4,Zb6 (by omega),Ze7]at this;rw[<-this];congr 1;omega
 refine⟨b,off+i*es,λc K k s1=>ji c K s1 fH,λK k=>ara K fH,λj u hj=>by rw[g1];exact at0 j u hj,?_⟩;rw[g1];show cut cs (off+i*es) es=some rows[i];unfold cut;rw[cU,Za0 (by omega)];refine congrArg some ?_;apply Zi6;intro j;by_cases hj:j<es
 .rw[Ze4,Zb6 hj,Ze7];exact(at0 j (rows[i]'fH)[j] (H0 (by omega))).trans (H0 (by omega)).symm
 .rw[Zc3 (by simp;omega),Zc3 (by omega)]
theorem Rd.one{s:St}{L x:AV}{i:Nat}{b:Pos}{o:Nat}(h:Rd s 1 L i b o [x]):((cellsOf (s.heap.get b)).bind λcs=>cs[o]?)=some x:=h.at' 0 x rfl
theorem QS.MB{s:St}{v:AV}{l:List AV}(h:QS 1 s v (l.map oQ)){i:Nat}{x:AV}(hx:l[i]? =some x):∃b o,Rd s 1 v i b o [x]:=
 h.rd (aif l) (by rw[Zb7,hx];rfl)
def RQ(s:St)(L:AV)(rows:List (List AV)):Prop:=∃ws:List AV,QS 1 s L (ws.map oQ)/\ws.length=rows.length/\∀(i:Nat)(w:AV)(r:List AV),ws[i]? =some w->rows[i]? =some r->QS 1 s w (r.map oQ)
theorem RQ.rd{s:St}{L:AV}{rows:List (List AV)}(h:RQ s L rows){i:Nat}{r:List AV}(hr:rows[i]? =some r):∃w b o,Rd s 1 L i b o [w]/\QS 1 s w (r.map oQ):=by
 obtain⟨ws,h1,h2,h3⟩:=h;have hi:i<ws.length:=by rw[h2];exact(Za2.1 hr).1
 obtain⟨b,o,h4⟩:=h1.MB (H0 hi);exact⟨ws[i],b,o,h4,h3 i _ r (H0 hi) hr⟩
theorem RQ.ai{s s':St}{L:AV}{rows:List (List AV)}(h:RQ s L rows)(g:Grew s s'):RQ s' L rows:=by
 obtain⟨ws,h1,h2,h3⟩:=h;exact⟨ws,h1.mono λb x _ hx=>g.get hx,h2,λi w r a b=>(h3 i w r a b).mono λb x _ hx=>g.get hx⟩
theorem QS.ai{es:Nat}{s s':St}{v:AV}{rows:List (List AV)}(h:QS es s v rows)(g:Grew s s'):QS es s' v rows:=h.mono λb x _ hx=>g.get hx
section
variable{c:aj}{R:Type}
theorem ZR{x:Int}(h1:0<=x)(h2:x<=18446744073709551615):ax .u64 x=x:=by
 unfold ax loI hiI;simp only;split
 . split
   .rfl
   .contradiction
 .contradiction
theorem abY{a:Int}(h0:0<=a)(h1:a<4294967296)(s:St)(K:AV->St->Option R):aq c (.bin .shr .num) [.int .u64 a,.int .u64 32] s K=K (.int .u64 0) s:=aV c K (λH n=>by
 have e0:BQ (32:Int) 0=false:=by rw[fo];rfl
 have e1:min (32:Int).toNat (IntKind.bits .u64)=32:=rfl;simp only[aG.run,jH,pV,e0,e1];rw[Zm7 _ (by decide)];rw[show(2:Int) ^ 32=4294967296 from rfl,Int.ediv_eq_zero_of_lt h0 h1]
 ) s
theorem ake{v z:AV}{m k:Nat}:aU (List.replicate m z) 0 (List.replicate k v)=List.replicate k v++List.replicate (m - k) z:=by unfold aU;simp
theorem air{b b2:Pos}{v z:AV}{m:Nat}{cp JY:Option Nat}(hm:0<m)(hv:v.one=true){s:St}(h:s.heap.get b=some (.cells (List.replicate m z) 0))(h2:s.heap.get b2=some (.cells [v] 0))(K:AV->St->Option R):
  aq c (.copyB 1) [.slice b 0 m cp 1,.slice b2 0 1 JY 1] s K=K (.int .i64 1) (bh s b (.cells (List.replicate 1 v++List.replicate (m - 1) z) 0)):=by
 have e:aG.run (λb=>s.heap.get b) s.next (.copyB 1) [.slice b 0 m cp 1,.slice b2 0 1 JY 1]=some (.bk (Ma 1) none (some (b,.cells (List.replicate 1 v++List.replicate (m - 1) z) 0)) none):=by
  show pW (λb=>s.heap.get b) s.next 1 [.slice b 0 m cp 1,.slice b2 0 1 JY 1]=_;unfold pW;simp only[dV];have al0:min m 1=1:=by omega
  rw[show min 1 m=1 by omega,cO,Za1 (by omega)];simp only;have hf:dF 1 1 (λb=>s.heap.get b) (.slice b2 0 1 JY 1)=some (List.replicate 1 v):=by unfold dF;rw[cO,Za1 (by omega)];simp only;rw[h2];exact cQ rfl
  rw[h,hf];simp only;rw[cU,Za0 (by simp;omega),cU,Za0 (Zi0 _),Tz hv];simp only;rw[ake]
 unfold aq cJ;rw[e];rfl
theorem aot{b:Pos}{N n:Nat}(h:n<=N)(k:IntKind)(K:AV->Option R):eX (.sliceL 1 true false false) [.slice b 0 N (some N) 1,.int k (n:Int)] K=K (.slice b n (N - n) (some (N - n)) 1):=dD K (λH m=>by
 have hb:bounds true false false [.int k (n:Int)]=some (some n,none,none):=by simp[bounds,jJ]
 simp only[aG.run,iZ,hb,cO,cU,Zg6,Ze8,Zi9,Za0 h,Za3];simp)
theorem aou{b:Pos}{N n:Nat}(h:n<=N)(k:IntKind)(K:AV->Option R):eX (.sliceL 1 false true false) [.slice b 0 N (some N) 1,.int k (n:Int)] K=K (.slice b 0 n (some N) 1):=dD K (λH m=>by
 have hb:bounds false true false [.int k (n:Int)]=some (none,some n,none):=by simp[bounds,jJ]
 simp only[aG.run,iZ,hb,cO,cU,Zg6,Ze8,Zi9,Zi0,Za0 h]
 all_goals simp)
theorem agw{b b2:Pos}{cp JY:Option Nat}{n:Nat}(s:St)(K:AV->St->Option R):aq c (.copyB 1) [.slice b 0 0 cp 1,.slice b2 0 n JY 1] s K=K (.int .i64 0) s:=by
 have e:aG.run (λb=>s.heap.get b) s.next (.copyB 1) [.slice b 0 0 cp 1,.slice b2 0 n JY 1]=some (.val (Ma 0)):=by
  show pW (λb=>s.heap.get b) s.next 1 [.slice b 0 0 cp 1,.slice b2 0 n JY 1]=_;unfold pW;simp only[dV];rw[show min n 0=0 by omega]
 unfold aq cJ;rw[e];rfl
end
theorem T.abZ{α:Type}{x:α}:∀(p:Pos)(t:T α),t.get p=some x->T.put (some x) p t=t
 |p,.e,h=>by rw[T.dS]at h;cases h
 |.h,.n l v r,h=>by have h:v=some x:=h;subst h;rfl
 | .o p,.n l v r,h=>by
   have h:l.get p=some x:=h;simp only[T.put];rw[T.abZ p l h]
 | .i p,.n l v r,h=>by
   have h:r.get p=some x:=h;simp only[T.put];rw[T.abZ p r h]
theorem ais{s:St}{p:Pos}{b:AB}(h:s.heap.get p=some b):bh s p b=s:=by
 unfold bh;rw[T.abZ p s.heap h]
theorem ab0{b:Pos}{off n es:Nat}(hn:n≠0)(h:Plain (.slice b off n (some n) es)):False:=by
 have h1:aC (λ_=>⟨0,0,off+n*es⟩) (b.toNat+1) (λ_=>none) (.slice b off n (some n) es) (.slice (some ⟨0,0+off,none⟩) n n):=
  .slice b off n (some n) es n _ (Za3 _) (λc hc=>by cases hc;rfl) (λ_=>⟨by omega,rfl,by simp⟩) (λh=>by cases h)
 have h2:=h _ (λ_=>⟨0,0,0⟩) _ 0 _ _ h1;cases h2 with
 |slice _ _ _ _ _ _ _ _ _ ha _=>exact absurd (ha hn).1 (by omega)
end
end Go.Ai
