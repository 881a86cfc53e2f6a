/- The program as plain functions. -/
import Derived.Test.YtlkadmkojjceiaaGreatDoorWEvalD
import Derived.WalkKit
import Derived.OpenShut
import Derived.ProofKit
import Derived.ShutString
set_option linter.all false
namespace Go.Ai
section
open Go Go.RowKit
def K9(c c':ai):Prop:=∀f args st r,c f args st=some r->c' f args st=some r
theorem K9.refl(c:ai):K9 c c:=λ_ _ _ _ h=>h
section
variable{c c':ai}
theorem F8(h:K9 c c'){k:ay}{xs:List AV}{st:St}{r:AV×St}(e:bF c k xs st=some r):bF c' k xs st=some r:=by
 unfold bF at e ⊢;cases hr:k.run (λb=>st.heap.get b) st.next xs with
 |none=>simp[hr]at e
 |some x=>cases x with
  |val v=>simpa [hr]using e
  |aE v d s n=>simpa [hr]using e
  |call f args=>simp only[hr]at e ⊢; exact h _ _ _ _ e
theorem Ka(h:K9 c c'):∀(os:List bk)(fr:Fr)(st:St)(r:Fr×St),iW c os fr st=some r->iW c' os fr st=some r
 |[],_,_,_,e=>e
 |o::os,fr,st,r,e=>by
  unfold iW at e ⊢;cases hw:bI fr o.guard with
  |none=>simp[hw]at e
  |some b=>cases b with
   |false=>simp only[hw]at e ⊢; exact Ka h _ _ _ _ e
   |    true=>
        simp only[hw]at e ⊢;cases hx:dV fr o.xs with
        |none=>simp[hx]at e
        |some xs=>
         simp only[hx]at e ⊢;cases hs:bF c o.k xs st with
         |none=>simp[hs]at e
         |some p=>simp only[hs]at e;simp only[F8 h hs];exact Ka h _ _ _ _ e
theorem L9 (h:K9 c c'):∀(os:List (Nat×bk))(recs:List Rec)(base:T AB)(fr:Fr)(st:St)(r:Fr×St),cL c os recs base fr st=some r->cL c' os recs base fr st=some r
 |[],_,_,_,_,_,e=>e
 |(j,   o)::os,recs,base,fr,st,r,e=>by
  have ih:=L9 h os;unfold cL at e ⊢;cases hw:bI fr o.guard with
  |none=>simp[hw]at e
  | some b=>cases b with
    |false=>simp only[hw]at e ⊢; exact ih _ _ _ _ _ e
    |   true=>
        simp only[hw]at e ⊢;cases hx:dV fr o.xs with
        |none=>simp[hx]at e
        |some xs=>
         simp only[hx]at e ⊢;cases hc:o.cls with
         |  aE=>
            simp only[hc]at e ⊢;cases hs:bF c o.k xs st with
            |none=>simp[hs]at e
            |some p=>simp only[hs]at e;simp only[F8 h hs];exact ih _ _ _ _ _ e
         |  new=>
            simp only[hc]at e ⊢;split at e<;>first|(cases e;done)|exact ih _ _ _ _ _ e
         |  pure=>
            simp only[hc]at e ⊢;split at e<;>(try split at e)<;>(try split at e)<;>first|(cases e;done)|(simp only[*];exact ih _ _ _ _ _ e)|exact ih _ _ _ _ _ e
         |  read=>
            simp only[hc]at e ⊢;split at e<;>(try split at e)<;>(try split at e)<;>first|(cases e;done)|(simp only[*];exact ih _ _ _ _ _ e)|exact ih _ _ _ _ _ e
theorem Kb(h:K9 c c'):∀(n m:Nat),n<=m->∀(a:AC)(fr:Fr)(st:St)(r:js×Fr×St),exec c n a fr st=some r->exec c' m a fr st=some r
 |0,_,_,_,_,_,_,e=>by simp[exec]at e
 |n+1,0,hm,_,_,_,_,_=>by omega
 |n+    1,m+1,hm,a,fr,st,r,e=>by
  have ih:=Kb h n m (by omega);cases a<;>simp only[exec,aZ]at e ⊢
  case skip=>exact e
  case exit=>exact e
  case ret=>exact e
  case region ops=>
   cases ho:iW c ops fr st with
   |none=>simp[ho]at e
   |some p=>simp only[ho]at e;simp only[Ka h _ _ _ _ ho];exact e
  case draw ops=>
   cases ho:cL c ops [] st.heap fr st with
   |none=>simp[ho]at e
   |some p=>simp only[ho]at e;simp only[L9 h _ _ _ _ _ _ ho];exact e
  case seq a b=>
   cases ha:exec c n a fr st with
   |none=>simp[ha]at e
   |    some p=>
        obtain⟨ex,bO,aM⟩:=p;simp only[ha]at e;simp only[ih _ _ _ _ ha];cases ex<;>first|exact e|exact ih _ _ _ _ e
  case cond x a b=>
   split at e
   .    exact ih _ _ _ _ e
   .    exact ih _ _ _ _ e
   .    cases e
  case block id a=>
   cases ha:exec c n a fr st with
   |none=>simp[ha]at e
   |    some p=>
        obtain⟨ex,bO,aM⟩:=p;simp only[ha]at e;simp only[ih _ _ _ _ ha];cases ex<;>exact e
  case loop a=>
   cases ha:exec c n a fr st with
   |none=>simp[ha]at e
   |    some p=>
        obtain⟨ex,bO,aM⟩:=p;simp only[ha]at e;simp only[ih _ _ _ _ ha];cases ex<;>first|exact e|exact ih _ _ _ _ e
end
def Plain(v:AV):Prop:=∀(ρ ρ':Pos->Loc)(n n':Nat)(C:Cells)(x:Value),aj ρ n C v x->aj ρ' n' C v x
theorem Plain.bool(b:Bool):Plain (.bool b):=λ_ _ _ _ _ _ h=>by cases h;exact .bool b
theorem Plain.int(k:IntKind)(i:Int):Plain (.int k i):=λ_ _ _ _ _ _ h=>by cases h;exact .int k i
theorem Plain.str(s:List Nat):Plain (.str s):=λ_ _ _ _ _ _ h=>by cases h with|str _ bs h=>exact .str s bs h
theorem Plain.ah:Plain .ah:=λ_ _ _ _ _ _ h=>by cases h;exact .ah
theorem Plain.jk:Plain .jk:=λ_ _ _ _ _ _ h=>by cases h;exact .jk
theorem Plain.func(f:FuncId){a b:List AV}(ha:∀v∈a,Plain v)(hb:∀v∈b,Plain v):Plain (.func f a b):=λ_ _ _ _ _ _ h=>by
 cases h with
 |func _ _ _ a' b' hx hy h1 h2=>exact .func f a b a' b' hx hy (λi v x hv hx=>ha v (Zb6 hv) _ _ _ _ _ _ (h1 i v x hv hx)) (λi v x hv hx=>hb v (Zb6 hv) _ _ _ _ _ _ (h2 i v x hv hx))
theorem Plain.tuple{l:List AV}(hl:∀v∈l,Plain v):Plain (.tuple l):=λ_ _ _ _ _ _ h=>by
 cases h with
 |tuple _ cs hx h1=>exact .tuple l cs hx λi v x hv hx=>hl v (Zb6 hv) _ _ _ _ _ _ (h1 i v x hv hx)
theorem Plain.agg{l:List AV}(hl:∀v∈l,Plain v):Plain (.agg l):=λ_ _ _ _ _ _ h=>by
 cases h with
 |agg _ cs hx h1=>exact .agg l cs hx λi v x hv hx=>hl v (Zb6 hv) _ _ _ _ _ _ (h1 i v x hv hx)
theorem Plain.fl{xs:List (List AV)}{es:Nat}(hl:∀cs∈xs,∀v∈cs,Plain v):Plain (.fl xs es):=λ_ _ _ _ _ _ h=>by
 cases h with
 |fl _ _ aJ a cell h1 h2 h3 h4 h5=>exact .fl xs es aJ a cell h1 h2 h3 h4 λi j cs v hi hj=>hl cs (Zb6 hi) v (Zb6 hj) _ _ _ _ _ _ (h5 i j cs v hi hj)
def bu(st st':St):Prop:=∀b x,st.heap.get b=some x->st'.heap.get b=some x
theorem bu.refl(st:St):bu st st:=λ_ _ h=>h
theorem bu.trans{a b c:St}(h:bu a b)(k:bu b c):bu a c:=λ_ _ e=>k _ _ (h _ _ e)
theorem aj.down{ρ ρ':Pos->Loc}{n n':Nat}{C:Cells}{v:AV}{x:Value}(h:aj ρ' n' C v x):∀{y:Value},aj ρ n C v y->(∀b:Pos,b.toNat<n->ρ' b=ρ b)->aj ρ n C v x:=by
 induction h with
 |bool b=>exact λh _=>.bool b
 |int k i=>exact λh _=>.int k i
 |str s bs h=>exact λ_ _=>.str s bs h
 |iw=>exact λ_ _=>.iw
 |ptr b off h=>
  intro y h aT;cases h with
  |ptr _ _ h'=>rw[aT b h'];exact .ptr b off h'
 |fp xs i j es av base cell hl hc hv ih=>
  intro y h aT;cases h with
  |fp _ _ _ es' zT base' afc hl' tV xT=>exact .fp xs i j es av base cell hl hc λi j cs v hi hj=>ih i j cs v hi hj (xT i j cs v hi hj) aT
 |ah=>exact λ_ _=>.ah
 |slice  b off len cap es aJ a hl hc ha hk=>
  intro y h aT;cases h with
  |slice _ _ _ _ _ XQ a' hl' tV ha' kH=>
   refine .slice b off len cap es aJ a hl hc (λh0=> ?_) kH;obtain⟨h1,h2,h3⟩:=ha h0;have hb:b.toNat<n:=by
        cases cap with
        |none=>exact kH rfl
        |some c=>
         have e1:=hc c rfl;have e2:=tV c rfl;exact(ha' (by rw[<-e2,e1];exact h0)).1
   rw[aT b hb]at h2 h3;exact⟨hb,h2,h3⟩
 |fl xs es aJ a cell hl hs dc hc hv ih=>
  intro y h aT;cases h with
  |fl _ _ XQ a' afc hl' lZ hes' tV xT=>exact .fl xs es aJ a cell hl hs dc hc λi j cs v hi hj=>ih i j cs v hi hj (xT i j cs v hi hj) aT
 |nX=>exact λ_ _=>.nX
 |map b h=>
  intro y h aT;cases h with
  |map _ h'=>rw[aT b h'];exact .map b h'
 |func f x y x' y' hx hy h1 h2 Zb Zc=>
  intro z h aT;cases h with
  |func _ _ _ a' b' kx ky k1 k2=>
   refine .func f x y x' y' hx hy (λi v x hv kA=> ?_) (λi v x hv kA=> ?_)
   .    have hi:i<a'.size:=(by rw[<-kx];exact(Za0.1 hv).1);exact Zb i v x hv kA (k1 i v _ hv (Zf1 hi)) aT
   .    have hi:i<b'.size:=(by rw[<-ky];exact(Za0.1 hv).1);exact Zc i v x hv kA (k2 i v _ hv (Zf1 hi)) aT
 |jk=>exact λ_ _=>.jk
 |uG=>exact λ_ _=>.uG
 |iface t v x _ ih=>
  intro y h aT;cases h with
  |iface _ _ x' h'=>exact .iface t v x (ih h' aT)
 |agg l cs hx h1 ih=>
  intro y h aT;cases h with
  |agg _ lH kx k1=>
   (refine .agg l cs hx λi v x hv kA=> ?_);have hi:i<lH.size:=(by rw[<-kx];exact(Za0.1 hv).1);exact ih i v x hv kA (k1 i v _ hv (Zf1 hi)) aT
 |tuple l cs hx h1 ih=>
  intro y h aT;cases h with
  |tuple _ lH kx k1=>
   (refine .tuple l cs hx λi v x hv kA=> ?_);have hi:i<lH.size:=(by rw[<-kx];exact(Za0.1 hv).1);exact ih i v x hv kA (k1 i v _ hv (Zf1 hi)) aT
end
noncomputable section
open Go Go.RowKit
def tidy(st:St)(r:AV×St):AV×St:=open Classical in if Plain r.1/\bu st r.2 then(r.1,st)else r
theorem ZR{ρ:Pos->Loc}{C:Cells}{st:St}{w w':World}{r:AV×St}{x:Value}(hW:aX ρ C st w)(h:l6 ρ C st w r.1 r.2 x w'):
   l6 ρ C st w (tidy st r).1 (tidy st r).2 x w':=by
 unfold tidy;split
 . rename_i hp;obtain⟨ρ',hv,aT,hn,ew,hE⟩:=h;refine⟨ρ,hp.1 _ _ _ _ _ _ hv,λ_ _=>rfl,Za5 _,⟨λb y hb=> ?_,hW.inj,λa u ha=>⟨(ew.dx a u ha).1,(hW.dx a u ha).2⟩,ew.whole⟩,⟨hE.os,hE.tape,hE.output,hE.size,hE.block,λb y hb=>.inl ⟨b,y,hb,rfl⟩⟩⟩;obtain⟨g1,g2,g3⟩:=hW.live b y hb;obtain⟨_,_,k3⟩:=ew.live b y (hp.2 b y hb);refine⟨g1,Zc7 g2 hE.size,?_⟩;rw[aT b g1]at k3;cases y with
   |cells cs fz=>
    obtain⟨c,e,fr,q1,q2,q3,q4,q5⟩:=k3;obtain⟨c0,e0,bP,p1,p2,p3,p4,p5⟩:=g3;refine⟨c,e,fr,q1,q2,q3,⟨q4.1,λi v x hv hx=> ?_⟩,q5⟩;obtain⟨y0,hy0,Ep⟩:=p4.get hv;exact(q4.2 i v x hv hx).down Ep aT
   |map es clock=>
    obtain⟨es',q1,q2,q3⟩:=k3;obtain⟨ZS,p1,p2,p3⟩:=g3;refine⟨es',q1,q2,λi e e' he ku=> ?_⟩;obtain⟨a1,a2,a3⟩:=q3 i e e' he ku;have hi:i<ZS.size:=(by rw[<-p2];exact(Za0.1 he).1);obtain⟨b1,b2,_⟩:=p3 i e _ he (Zf1 hi);exact⟨a1.down b1 aT,a2.down b2 aT,a3⟩
   |jq s pos=>exact k3
   |typed t cs=>
    obtain⟨c,fr,q1,q2,q3,q4,q5⟩:=k3;obtain⟨c0,bP,p1,p2,p3,p4,p5⟩:=g3;refine⟨c,fr,q1,q2,q3,⟨q4.1,λi v x hv hx=> ?_⟩,q5⟩;obtain⟨y0,hy0,Ep⟩:=p4.get hv;exact(q4.2 i v x hv hx).down Ep aT
 .exact h
theorem ZT{st:St}{r:AV×St}(h:st.next.toNat<=r.2.next.toNat):st.next.toNat<=(tidy st r).2.next.toNat:=by
 unfold tidy;split
 .exact Za5 _
 .exact h
def qJ(call:ai)(m:Nat)(F:cE)(args:List AV)(st:St):Option (AV×St):=
 match Nat.beq args.length F.nparams with
 |  true=>match exec call m F.code (params 0 args .e) st with
    |some (.normal,fr,st')=>match cw (λb=>st'.heap.get b) fr F.results with
     |some vs=>some (gD vs,st')
     |none=>none
    |some (.ret,fr,st')=>match cw (λb=>st'.heap.get b) fr F.results with
     |some vs=>some (gD vs,st')
     |none=>none
    |_=>none
 |false=>none
def qK(O:dZ)(G:T cE)(m:Nat):Nat->ai
 |0=>λ_ _ _=>none
 |  d+1=>λf args st=>match O f with
    |some s=>s args st
    |none=>match G.get (key f)with
     |some F=>(qJ (qK O G m d) m F args st).map (tidy st)
     |none=>none
section
variable{P:Program}{tt:TT}{C:Cells}
theorem XU(hT:bM P tt){G:T cE}(hG:MU P tt G){call:ai}(bH:eV P C call)(fL:p9 P tt C call)(m:Nat){f:FuncId}{F:cE}(hF:G.get (key f)=some F)
   {ρ:Pos->Loc} {st:St} {w:World} {args:List AV} {v:AV} {st':St} {bE:List Value} (h:qJ call m F args st=some (v,st')) (hW:aX ρ C st w) (oW:au ρ st.next.toNat C args bE):
   Reaches P (l6 ρ C st w v st') ((callFunc f bE.toArray).run P w):=by
 unfold qJ at h;split at h<;>first|(cases h;done)|skip
 rename_i hlen;have hlen:=Za2 hlen;obtain⟨fn,Ah,ji,Bz⟩:=hG _ _ hF;rw[eO,Ze9]at Ah;unfold R5 at Bz;split at Bz<;>first|(cases Bz;done)|skip
 rename_i c hb;split at Bz<;>first|(cases Bz;done)|skip
 rename_i ac rs S8 ZH hle;simp only[H0]at Bz;subst Bz;simp only at h hlen;have hle:=Za4 hle;have bN:(callFunc f bE.toArray).run P w= .ok (.enter f bE.toArray) w:=by
   have BA:¬fn.name= "runtime.NumGoroutine" :=(by simpa using ji);simp[callFunc,Ah,BA,hb]
 rw[bN];simp only[Reaches];refine calls_of_wp Ah hb (eE.wp ?_);have eW:bE.length<=fn.ntmps:=by rw[<-oW.1,hlen];exact hle
 have hS:mF fn.ntmps ρ C (params 0 args .e) st { tmps:=bE.toArray++Array.replicate (fn.ntmps - bE.toArray.size) undef,defers:=[] } w:=by
   refine⟨hW,?_,?_,rfl⟩
   .refine vY args bE 0 .e oW (λj x hx=> ?_) (λp v hp=>by rw[T.dm]at hp;cases hp);have hj:j<bE.length:=(Za0.1 hx).1;rw[Zc4,Zg8 (by simpa using hj)];simpa using hx
   .simp;omega
 split at h<;>first|(cases h;done)|skip
 .rename_i bO aM h1;(split at h<;>first|(cases h;done)|skip);rename_i vs iz;simp only[H0,Zb3]at h;obtain⟨rfl,rfl⟩:=h;(refine(o9 hT bH fL m).1 c ac _ bO st aM .normal ρ _ w _ S8 h1 hS λa' w' hp=> ?_);obtain⟨dJ,ry,k1,k2,k3⟩:=hp;obtain⟨y,Aj,Bp⟩:=qc hT ry.W ry.F ZH iz;exact⟨ry.defers,y,Aj,dJ,Bp,k1,k2,ry.W,k3⟩
 .rename_i bO aM h1;(split at h<;>first|(cases h;done)|skip);rename_i vs iz;simp only[H0,Zb3]at h;obtain⟨rfl,rfl⟩:=h;(refine(o9 hT bH fL m).1 c ac _ bO st aM .ret ρ _ w _ S8 h1 hS λa' w' hp=> ?_);obtain⟨dJ,ry,k1,k2,k3⟩:=hp;obtain⟨y,Aj,Bp⟩:=qc hT ry.W ry.F ZH iz;exact⟨ry.defers,y,Aj,dJ,Bp,k1,k2,ry.W,k3⟩
theorem ZU{call:ai}(hm:l7 call){m:Nat}{F:cE}{args:List AV}{st:St}{v:AV}{st':St}(h:qJ call m F args st=some (v,st')):st.next.toNat<=st'.next.toNat:=by
 unfold qJ at h;split at h<;>first|(cases h;done)|skip
 split at h<;>first|(cases h;done)|skip
 all_goals
  rename_i h1;split at h<;>first|(cases h;done)|skip
  simp only[H0,Zb3]at h;obtain⟨rfl,rfl⟩:=h;exact CY hm _ _ _ _ _ _ _ h1
theorem NH{O:dZ}{G:T cE}(hO:kC O)(m:Nat):∀d,l7 (qK O G m d)
 |0=>λf args st v st' h=>by simp[qK]at h
 |d +1=>λf args st v st' h=>by
  unfold qK at h;split at h
  .rename_i s hs;exact hO _ _ hs _ _ _ _ h
  . (split at h<;>first|(cases h;done)|skip);simp only[Zd4]at h;obtain⟨r,hr,he⟩:=h;have:=ZU (NH hO m d) (v:=r.1) (st':=r.2) hr;have:=ZT this;rw[he]at this;exact this
theorem La(hm:P.follows .mixedOrders=true)(hT:bM P tt){O:dZ}{G:T cE}(hO:oV P C O)(IG:kC O)(hG:MU P tt G)(m:Nat):∀d,eV P C (qK O G m d)
 |0=>λρ st w f args v st' bE h=>by simp[qK]at h
 |d +1=>by
  intro ρ st w f args v st' bE h hW oW;have ih:=La hm hT hO IG hG m d;unfold qK at h;split at h
  .rename_i s hs;exact hO f s hs ρ st w args v st' bE h hW oW
  . (split at h<;>first|(cases h;done)|skip);rename_i F hF;simp only[Zd4]at h;obtain⟨r,hr,he⟩:=h;refine Reaches.mono (λx w' hp=> ?_) (XU hT hG ih (FV hm hT ih (NH IG m d)) m hF (v:=r.1) (st':=r.2) hr hW oW);have:=ZR hW hp;rw[he]at this;exact this
end
theorem Wg{c c':ai}(h:K9 c c'){n m:Nat}(hn:n<=m){F:cE}{args:List AV}{st:St}{r:AV×St}(e:qJ c n F args st=some r):qJ c' m F args st=some r:=by
 unfold qJ at e ⊢;split at e<;>first|(cases e;done)|skip
 split at e<;>first|(cases e;done)|skip
 all_goals
  rename_i h1;simp only[Kb h n m hn _ _ _ _ h1];exact e
theorem Ma(O:dZ)(G:T cE){n m:Nat}(hn:n<=m):∀d d',d<=d'->K9 (qK O G n d) (qK O G m d')
 |0,_,_=>λ_ _ _ _ e=>by simp[qK]at e
 |_+1,0,h=>by omega
 |d +1,d'+1,h=>λf args st r e=>by
  have ih:=Ma O G hn d d' (by omega);unfold qK at e ⊢;split at e
  .exact e
  . (split at e<;>first|(cases e;done)|skip);simp only[Zd4]at e ⊢;obtain⟨q,hq,he⟩:=e;exact⟨q,Wg ih hn hq,he⟩
def cn(O:dZ)(G:T cE)(n:Nat):ai:=qK O G n n
theorem F9(O:dZ)(G:T cE){n m:Nat}(h:n<=m):K9 (cn O G n) (cn O G m):=Ma O G h n m h
def run(O:dZ)(G:T cE):ai:=λf args st=>open Classical in
 if h:∃(r:AV×St) (n:Nat),cn O G n f args st=some r then some h.choose else none
variable{O:dZ}{G:T cE}
theorem ZV{f:FuncId}{args:List AV}{st:St}{r:AV×St}{n:Nat}(h:cn O G n f args st=some r):run O G f args st=some r:=by
 unfold run;have hx:∃(r:AV×St) (n:Nat),cn O G n f args st=some r:=⟨r,n,h⟩
 rw[dif_pos hx];obtain⟨m,hm⟩:=hx.choose_spec;have h1:=F9 O G (Zi2 n m) f args st _ h;have h2:=F9 O G (Zh1 n m) f args st _ hm;rw[h1]at h2;exact h2.symm
theorem Tn{f:FuncId}{args:List AV}{st:St}{r:AV×St}(h:run O G f args st=some r):∃n,cn O G n f args st=some r:=by
 unfold run at h;split at h
 .rename_i hx;simp only[H0]at h;rw[<-h];exact hx.choose_spec
 .cases h
theorem NI{k:ay}{xs:List AV}{st:St}{r:AV×St}(e:bF (run O G) k xs st=some r):∃n,bF (cn O G n) k xs st=some r:=by
 unfold bF at e;cases hr:k.run (λb=>st.heap.get b) st.next xs with
 |none=>simp[hr]at e
 |some x=>cases x with
  |val v=>exact⟨0,by simpa [bF,hr]using e⟩
  |aE v d s n=>exact⟨0,by simpa [bF,hr]using e⟩
  |call f args=>
   simp only[hr]at e;obtain⟨n,hn⟩:=Tn e;exact⟨n,by simpa [bF,hr]using hn⟩
theorem IK:∀(os:List bk)(fr:Fr)(st:St)(r:Fr×St),iW (run O G) os fr st=some r->∃n,iW (cn O G n) os fr st=some r
 |[],_,_,_,e=>⟨0,e⟩
 |o::os,fr,st,r,e=>by
  unfold iW at e;cases hw:bI fr o.guard with
  |none=>simp[hw]at e
  |some b=>cases b with
   |    false=>
        simp only[hw]at e;obtain⟨n,hn⟩:=IK os _ _ _ e;exact⟨n,by unfold iW;simp only[hw];exact hn⟩
   |    true=>
        simp only[hw]at e;cases hx:dV fr o.xs with
        |none=>simp[hx]at e
        |some xs=>
         simp only[hx]at e;cases hs:bF (run O G) o.k xs st with
         |none=>simp[hs]at e
         |some p=>
          simp only[hs]at e;obtain⟨n,hn⟩:=IK os _ _ _ e;obtain⟨m,hm⟩:=NI hs;refine⟨max n m,?_⟩;unfold iW;simp only[hw,hx,F8 (F9 O G (Zh1 n m)) hm];exact Ka (F9 O G (Zi2 n m)) _ _ _ _ hn
theorem NJ: ∀(os:List (Nat×bk))(recs:List Rec)(base:T AB)(fr:Fr)(st:St)(r:Fr×St),cL (run O G) os recs base fr st=some r->∃n,cL (cn O G n) os recs base fr st=some r
 |[],_,_,_,_,_,e=>⟨0,e⟩
 |(j,   o)::os,recs,base,fr,st,r,e=>by
  have ih:=NJ os;unfold cL at e;cases hw:bI fr o.guard with
  |none=>simp[hw]at e
  | some b=>cases b with
    |   false=>
        simp only[hw]at e;obtain⟨n,hn⟩:=ih _ _ _ _ _ e;exact⟨n,by unfold cL;simp only[hw];exact hn⟩
    |   true=>
        simp only[hw]at e;cases hx:dV fr o.xs with
        |none=>simp[hx]at e
        |some xs=>
         simp only[hx]at e;cases hc:o.cls with
         |aE=>
          simp only[hc]at e;cases hs:bF (run O G) o.k xs st with
          |none=>simp[hs]at e
          | some p=>
            simp only[hs]at e;obtain⟨n,hn⟩:=ih _ _ _ _ _ e;obtain⟨m,hm⟩:=NI hs;refine⟨max n m,?_⟩;unfold cL;simp only[hw,hx,hc,F8 (F9 O G (Zh1 n m)) hm];exact L9 (F9 O G (Zi2 n m)) _ _ _ _ _ _ hn
         |new=>
          simp only[hc]at e;(split at e<;>first|(cases e;done)|skip);obtain⟨n,hn⟩:=ih _ _ _ _ _ e;refine⟨n,?_⟩;unfold cL;simp only[*]
         |pure=>
          simp only[hc]at e;split at e<;>(try split at e)<;>(try split at e)<;>first|(cases e;done)|skip
          all_goals
            obtain⟨n,hn⟩:=ih _ _ _ _ _ e;refine⟨n,?_⟩;unfold cL;simp only[*]
         |read=>
          simp only[hc]at e;split at e<;>(try split at e)<;>(try split at e)<;>first|(cases e;done)|skip
          all_goals
            obtain⟨n,hn⟩:=ih _ _ _ _ _ e;refine⟨n,?_⟩;unfold cL;simp only[*]
theorem QU:∀(n:Nat)(a:AC)(fr:Fr)(st:St)(r:js×Fr×St),exec (run O G) n a fr st=some r->∃m,exec (cn O G m) n a fr st=some r
 |0,_,_,_,_,e=>by simp[exec]at e
 |n+    1,a,fr,st,r,e=>by
  have ih:=QU n;have up:∀{m m':Nat}{a:AC}{fr:Fr}{st:St}{r:js×Fr×St},m<=m'->exec (cn O G m) n a fr st=some r->exec (cn O G m') n a fr st=some r:=
   λh e=>Kb (F9 O G h) _ _ (Za5 _) _ _ _ _ e
  cases a<;>simp only[exec,aZ]at e
  case skip=>exact⟨0,e⟩
  case exit=>exact⟨0,e⟩
  case ret=>exact⟨0,e⟩
  case region ops=>
   cases ho:iW (run O G) ops fr st with
   |none=>simp[ho]at e
   |    some p=>
        obtain⟨m,hm⟩:=IK _ _ _ _ ho;exact⟨m,by simp only[exec,aZ,hm];simpa only[ho]using e⟩
  case draw ops=>
   cases ho:cL (run O G) ops [] st.heap fr st with
   |none=>simp[ho]at e
   |    some p=>
        obtain⟨m,hm⟩:=NJ _ _ _ _ _ _ ho;exact⟨m,by simp only[exec,aZ,hm];simpa only[ho]using e⟩
  case seq a b=>
   cases ha:exec (run O G) n a fr st with
   |none=>simp[ha]at e
   |    some p=>
        obtain⟨ex,bO,aM⟩:=p;simp only[ha]at e;obtain⟨m,hm⟩:=ih _ _ _ _ ha;cases ex with
        |normal=>
         obtain⟨m',Ze⟩:=ih _ _ _ _ e;exact⟨max m m',by simp only[exec,aZ,up (Zi2 m m') hm];exact up (Zh1 m m') Ze⟩
        |exit i=>exact⟨m,by simp only[exec,aZ,hm];exact e⟩
        |ret=>exact⟨m,by simp only[exec,aZ,hm];exact e⟩
  case cond x a b=>
   split at e
   .    rename_i hx;obtain⟨m,hm⟩:=ih _ _ _ _ e;exact⟨m,by simp only[exec,aZ,hx];exact hm⟩
   .    rename_i hx;obtain⟨m,hm⟩:=ih _ _ _ _ e;exact⟨m,by simp only[exec,aZ,hx];exact hm⟩
   .    cases e
  case block id a=>
   cases ha:exec (run O G) n a fr st with
   |none=>simp[ha]at e
   |    some p=>
        obtain⟨ex,bO,aM⟩:=p;simp only[ha]at e;obtain⟨m,hm⟩:=ih _ _ _ _ ha;exact⟨m,by simp only[exec,aZ,hm];exact e⟩
  case loop a=>
   cases ha:exec (run O G) n a fr st with
   |none=>simp[ha]at e
   |    some p=>
        obtain⟨ex,bO,aM⟩:=p;simp only[ha]at e;obtain⟨m,hm⟩:=ih _ _ _ _ ha;cases ex with
        |normal=>
         obtain⟨m',Ze⟩:=ih _ _ _ _ e;exact⟨max m m',by simp only[exec,aZ,up (Zi2 m m') hm];exact up (Zh1 m m') Ze⟩
        |exit i=>exact⟨m,by simp only[exec,aZ,hm];exact e⟩
        |ret=>exact⟨m,by simp only[exec,aZ,hm];exact e⟩
theorem abB{f:FuncId}{F:cE}{args:List AV}{st:St}{r:AV×St}{n:Nat}(ho:O f=none)(hF:G.get (key f)=some F)(h:qJ (run O G) n F args st=some r):
   run O G f args st=some (tidy st r):=by
 unfold qJ at h;split at h<;>first|(cases h;done)|skip
 rename_i hlen
 have fin:∀{ex fr st'},exec (run O G) n F.code (params 0 args .e) st=some (ex,fr,st')->(∀m k,exec (cn O G m) k F.code (params 0 args .e) st=some (ex,fr,st')->qJ (cn O G m) k F args st=some r)->
    run O G f args st=some (tidy st r):=λh1 h2=>by
   obtain⟨m,hm⟩:=QU _ _ _ _ _ h1;refine ZV (n:=max n m+1) ?_;unfold cn qK;simp only[ho,hF];have:=h2 m n hm;have h3:=Wg (Ma O G (n:=m) (m:=max n m+1) (by have:=Zh1 n m;omega) m (max n m) (Zh1 n m)) (m:=max n m+1) (by have:=Zi2 n m;omega) this;rw[h3];rfl
 split at h<;>first|(cases h;done)|skip
 .rename_i h1;exact fin h1 λm k hk=>by unfold qJ;simp only[hlen,hk];exact h
 .rename_i h1;exact fin h1 λm k hk=>by unfold qJ;simp only[hlen,hk];exact h
theorem NK{f:FuncId}{s:List AV->St->Option (AV×St)}(ho:O f=some s){args:List AV}{st:St}{r:AV×St}(h:s args st=some r):run O G f args st=some r:=
 ZV (n:=1) (by unfold cn qK;simp only[ho];exact h)
theorem Qj{P:Program}{tt:TT}{C:Cells}(hm:P.follows .mixedOrders=true)(hT:bM P tt)(hO:oV P C O)(IG:kC O)(hG:MU P tt G):eV P C (run O G):=by intro ρ st w f args v st' bE h hW oW;obtain⟨n,hn⟩:=Tn h;exact La hm hT hO IG hG n n ρ st w f args v st' bE hn hW oW
end
noncomputable section
open Go
inductive Sh where
 |leaf
 |seq (jn:Option (List Pos)) (a b:Sh)
 |cond (a b:Sh)
 |block (a:Sh)
 |loop (j:Nat) (ins:List Pos) (outs:List (Nat×List Pos)) (a:Sh)
variable{R:Type}
abbrev LpK(R:Type):=Nat->List AV->St->Option R
abbrev Env(R:Type):=Nat->LpK R->Nat->List AV->St->Option R
def ju(l:List AV)(k:AV->List AV->Option R):Option R:=match l with
 |v::vs=>k v vs
 |[]=>none
def qd(l:List AV)(k:Option R):Option R:=match l with
 |[]=>k
 |_::_=>none
def ak(c:ai)(k:ay)(xs:List AV)(st:St)(K:AV->St->Option R):Option R:=match bF c k xs st with
 |some (v,st')=>K v st'
 |none=>none
def To(c:ai)(g:AV)(want:Bool)(k:ay)(xs:List AV)(st:St)(K:AV->St->Option R):Option R:=match g with
 |  .bool b=>match b==want with
    |true=>ak c k xs st K
    |false=>K .undef st
 |.tuple _=>K .undef st
 |_=>none
def dQ(k:ay)(xs:List AV)(K:AV->Option R):Option R:=match k.run (λ_=>none) .h xs with
 |some (.val v)=>K v
 |_=>none
def Lb(g:AV)(want:Bool)(k:ay)(xs:List AV)(K:AV->Option R):Option R:=match g with
 |  .bool b=>match b==want with
    |true=>dQ k xs K
    |false=>K .undef
 |.tuple _=>K .undef
 |_=>none
def kY(k:ay)(xs:List AV)(h:T AB)(ok:AV->Bool)(K:AV->Option R):Option R:=match k.run (λ_=>none) .h xs with
 |some (.val v)=>K v
 |  _=>match k.run (λb=>h.get b) .h xs with
    |some (.val v)=>match ok v with
     |true=>K v
     |false=>none
    |_=>none
def Lc(g:AV)(want:Bool)(k:ay)(xs:List AV)(h:T AB)(ok:AV->Bool)(K:AV->Option R):Option R:=match g with
 |  .bool b=>match b==want with
    |true=>kY k xs h ok K
    |false=>K .undef
 |.tuple _=>K .undef
 |_=>none
def IL(k:ay)(xs:List AV)(st:St)(K:AV->AB->Option R):Option R:=match k.run (λ_=>none) st.next xs with
 |some (.aE v none none (some av))=>K v av
 |_=>none
def Ld(g:AV)(want:Bool)(A B:Option R):Option R:=match g with
 |  .bool b=>match b==want with
    |true=>A
    |false=>B
 |.tuple _=>B
 |_=>none
def QV(v:AV)(A B:Option R):Option R:=match v with
 |.bool true=>A
 |.bool false=>B
 |_=>none
def fe(f:(List AV->St->Option R)->Option R)(k:List AV->St->Option R):Option R:=f k
def Mb (c:ai):List bk->Fr->St->(Fr->St->Option R)->Option R
 |[],fr,st,K=>K fr st
 |  o::os,fr,st,K=>match dV fr o.xs with
    |some xs=>match o.guard with
     |none=>ak c o.k xs st λv st=>Mb c os (cM fr o.dst v) st K
     |  some (p,want)=>match fr.get p with
        |some g=>To c g want o.k xs st λv st=>Mb c os (cM fr o.dst v) st K
        |none=>none
    |none=>none
def mB (c:ai ):List (Nat×bk)->List Rec->T AB->Fr->St->(Fr->St->Option R)->Option R
 |[],_,_,fr,st,K=>K fr st
 |  (j, o):: os,recs,base,fr,st,K=>match dV fr o.xs with
    | some xs=>match o.cls with
      | .pure=>match o.guard with
        |none=>dQ o.k xs λv=>mB c os ({ idx:=j,o:=o,v:=v,c:= .pure,nx:=st.next }::recs) base (cM fr o.dst v) st K
        |some (p,want)=>match fr.get p with
         |some g=>Lb g want o.k xs λv=>mB c os ({ idx:=j,o:=o,v:=v,c:= .pure,nx:=st.next }::recs) base (cM fr o.dst v) st K
         |none=>none
      | .read=>match o.guard with
        |none=>kY o.k xs (snap o.bC base recs) (λv=>kg o.bC o.k xs v [] recs) λv=>mB c os ({ idx:=j,o:=o,v:=v,c:= .pure,nx:=st.next }::recs) base (cM fr o.dst v) st K
        |some (p,want)=>match fr.get p with
         |some g=>Lc g want o.k xs (snap o.bC base recs) (λv=>kg o.bC o.k xs v [] recs) λv=>mB c os ({ idx:=j,o:=o,v:=v,c:= .pure,nx:=st.next }::recs) base (cM fr o.dst v) st K
         |none=>none
      | .new=>match o.guard with
        |none=>IL o.k xs st λv av=>mB c os ({ idx:=j,o:=o,v:=v,c:= .new st.next av,nx:=st.next.succ }::recs) base (cM fr o.dst v) { heap:=st.heap.put (some av) st.next,next:=st.next.succ } K
        |some (p,want)=>match fr.get p with
         |some g=>Ld g want (IL o.k xs st λv av=>mB c os ({ idx:=j,o:=o,v:=v,c:= .new st.next av,nx:=st.next.succ }::recs) base (cM fr o.dst v) { heap:=st.heap.put (some av) st.next,next:=st.next.succ } K)
             (mB c os ({ idx:=j,o:=o,v:= .undef,c:= .pure,nx:=st.next }::recs) base (cM fr o.dst .undef) st K)
         |none=>none
      | .aE=>match o.guard with
        |none=>ak c o.k xs st λv st'=>mB c os ({ idx:=j,o:=o,v:=v,c:= .aE base st'.heap,nx:=st'.next }::recs) st'.heap (cM fr o.dst v) st' K
        |some (p,want)=>match fr.get p with
         |some g=>Ld g want (ak c o.k xs st λv st'=>mB c os ({ idx:=j,o:=o,v:=v,c:= .aE base st'.heap,nx:=st'.next }::recs) st'.heap (cM fr o.dst v) st' K)
             (mB c os ({ idx:=j,o:=o,v:= .undef,c:= .pure,nx:=st.next }::recs) base (cM fr o.dst .undef) st K)
         |none=>none
    |none=>none
def IM:List Pos->Fr->(List AV->Option R)->Option R
 |[],_,k=>k []
 |  p::ps,fr,k=>match fr.get p with
    |some v=>IM ps fr λvs=>k (v::vs)
    |none=>none
def IN:List Pos->List AV->Fr->(Fr->Option R)->Option R
 |[],vs,fr,k=>qd vs (k fr)
 |p::ps,vs,fr,k=>ju vs λv vs=>IN ps vs (fr.put (some v) p) k
def Kc:List (Nat×List Pos)->Nat->List Pos
 |[],_=>[]
 |  (i,l)::r,e=>match Nat.beq i e with
    |true=>l
    |false=>Kc r e
def exOf:Nat->js
 |0=>.normal
 |1=>.ret
 |n+2=>.exit n
def Ey(D:Fr->St->(js->Fr->St->Option R)->Option R)(ins:List Pos)(outs:List (Nat×List Pos))(K':LpK R)(again:List AV->St->Option R)(vs:List AV)(st:St):Option R:=
 IN ins vs .e λfr=>D fr st λex fr st=>match ex with
    |.normal=>IM ins fr λvs=>again vs st
    |.exit i=>IM (Kc outs (i+2)) fr λos=>K' (i+2) os st
    |.ret=>IM (Kc outs 1) fr λos=>K' 1 os st
def knk(outs:List (Nat×List Pos))(K:js->Fr->St->Option R):LpK R:=λe os st=>IN (Kc outs e) os .e λfr=>K (exOf e) fr st
def den (c:ai)(F:Nat)(L:Env R):AC->Sh->Fr->St->(js->Fr->St->Option R)->Option R
 |.skip,_,fr,st,K=>K .normal fr st
 |.region ops,_,fr,st,K=>Mb c ops fr st (K .normal)
 |.draw ops,_,fr,st,K=>mB c ops [] st.heap fr st (K .normal)
 |  .seq a b,s,fr,st,K=>match s with
    | .seq none s t=>den c F L a s fr st λex fr st=>match ex with
      |.normal=>den c F L b t fr st K
      |.exit i=>K (.exit i) fr st
      |.ret=>K .ret fr st
    | .seq (some l) s t=>fe (λK'=>den c F L a s fr st λex fr st=>match ex with
      |.normal=>IM l fr λvs=>K' vs st
      |.exit i=>K (.exit i) fr st
      |.ret=>K .ret fr st) (λvs st=>IN l vs .e λfr=>den c F L b t fr st K)
    |_=>none
 |  .cond x a b,s,fr,st,K=>match s with
    | .cond s t=>match zi fr x with
      |some v=>QV v (den c F L a s fr st K) (den c F L b t fr st K)
      |none=>none
    |_=>none
 |  .block id a,s,fr,st,K=>match s with
    | .block s=>den c F L a s fr st λex fr st=>match ex with
      |.normal=>K .normal fr st
      | .exit i=>match Nat.beq i id with
        |true=>K .normal fr st
        |false=>K (.exit i) fr st
      |.ret=>K .ret fr st
    |_=>none
 |  .loop _,s,fr,st,K=>match s with
    |.loop j ins outs _=>IM ins fr λvs=>L j (knk outs K) F vs st
    |_=>none
 |.exit id,_,fr,st,K=>K (.exit id) fr st
 |.ret,_,fr,st,K=>K .ret fr st
def v9(c:ai)(F:Nat)(L:Env R)(a:AC):Sh->Prop
 |.loop j ins outs s=>∀K',(∀vs st,L j K' 0 vs st=none)/\∀n vs st,L j K' (n+1) vs st=Ey (den c F L a s) ins outs K' (L j K' n) vs st
 |_=>False
def tD(c:ai)(F:Nat)(L:Env R):AC->Sh->Prop
 |  .seq a b,s=>match s with
    |.seq _ s t=>tD c F L a s/\tD c F L b t
    |_=>True
 |  .cond _ a b,s=>match s with
    |.cond s t=>tD c F L a s/\tD c F L b t
    |_=>True
 |  .block _ a,s=>match s with
    |.block s=>tD c F L a s
    |_=>True
 |  .loop a,s=>match s with
    |.loop j ins outs s=>v9 c F L a (.loop j ins outs s)/\tD c F L a s
    |_=>True
 |_,_=>True
def dY:AC->Sh->List (AC×Sh)
 |  .seq a b,s=>match s with
    |.seq _ s t=>dY a s++dY b t
    |_=>[]
 |  .cond _ a b,s=>match s with
    |.cond s t=>dY a s++dY b t
    |_=>[]
 |  .block _ a,s=>match s with
    |.block s=>dY a s
    |_=>[]
 |  .loop a,s=>match s with
    |.loop j ins outs s=>(a,.loop j ins outs s)::dY a s
    |_=>[]
 |_,_=>[]
theorem yB{c:ai}{F:Nat}{L:Env R}:∀(a:AC)(s:Sh),(∀x∈dY a s,v9 c F L x.1 x.2)->tD c F L a s
 |.skip,_,_=>trivial
 |.region _,_,_=>trivial
 |.draw _,_,_=>trivial
 |.exit _,_,_=>trivial
 |.ret,_,_=>trivial
 | .seq a b,s,h=>by
   cases s<;>simp only[tD]<;>simp only[dY,Zd6]at h;exact⟨yB a _ λx hx=>h x (.inl hx),yB b _ λx hx=>h x (.inr hx)⟩
 | .cond x a b,s,h=>by
   cases s<;>simp only[tD]<;>simp only[dY,Zd6]at h;exact⟨yB a _ λx hx=>h x (.inl hx),yB b _ λx hx=>h x (.inr hx)⟩
 |.block id a,s,h=>by cases s<;>simp only[tD]<;>simp only[dY]at h;exact yB a _ h
 | .loop a,s,h=>by
   cases s<;>simp only[tD]<;>simp only[dY,Zb0]at h;exact⟨h _ (.inl rfl),yB a _ λx hx=>h x (.inr hx)⟩
def Sub(a b:Fr):Prop:=∀p v,a.get p=some v->b.get p=some v
theorem Sub.refl(a:Fr):Sub a a:=λ_ _ h=>h
theorem Sub.put{a b:Fr}(h:Sub a b)(p:Pos)(v:AV):Sub (a.put (some v) p) (b.put (some v) p):=λq u hq=>by
 by_cases e:p=q
 .subst e;rw[T.eF]at hq ⊢; exact hq
 .rw[T.bw _ e]at hq ⊢; exact h _ _ hq
theorem Sub.dst{a b:Fr}(h:Sub a b)(d:Option Pos)(v:AV):Sub (cM a d v) (cM b d v):=by
 cases d with
 |none=>exact h
 |some p=>exact h.put p v
theorem Sub.ev{a b:Fr}(h:Sub a b){x:dU}{v:AV}(e:zi a x=some v):zi b x=some v:=by
 cases x with
 |t p=>exact h _ _ e
 |c v=>exact e
theorem Sub.evs{a b:Fr}(h:Sub a b):∀{xs:List dU}{vs:List AV},dV a xs=some vs->dV b xs=some vs
 |[],_,e=>e
 |x::xs,vs,e=>by
  unfold dV at e ⊢;cases hx:zi a x with
  |none=>simp[hx]at e
  |some v=>
   simp only[hx]at e;cases hs:dV a xs with
   |none=>simp[hs]at e
   |some us=>simp only[hs]at e;simp only[h.ev hx,h.evs hs];exact e
theorem Ga {c:ai}:∀(os:List bk){fr ei:Fr}{st:St}{K:Fr->St->Option R}{r:R},Sub fr ei->Mb c os fr st K=some r->
  ∃aY cK st',iW c os ei st=some (cK,st')/\Sub aY cK/\K aY st'=some r
 |[],fr,ei,st,K,r,hs,h=>⟨fr,ei,st,rfl,hs,h⟩
 |o::os,fr,ei,st,K,r,hs,h=>by
  unfold Mb at h;cases hx:dV fr o.xs with
  |none=>simp[hx]at h
  |some xs=>
   simp only[hx]at h;have hstp:∀{st},ak c o.k xs st (λv st=>Mb c os (cM fr o.dst v) st K)=some r->bI ei o.guard=some true->∃aY cK st',iW c (o::os) ei st=some (cK,st')/\Sub aY cK/\K aY st'=some r:=λ{st} h hw=>by
        unfold ak at h;cases iY:bF c o.k xs st with
        |none=>simp[iY]at h
        |some p=>
         simp only[iY]at h;obtain⟨aY,cK,st',h1,h2⟩:=Ga os (hs.dst o.dst p.1) h;exact⟨aY,cK,st',by unfold iW;simp only[hw,hs.evs hx,iY];exact h1,h2⟩
   have IP:∀{st},Mb c os (cM fr o.dst .undef) st K=some r->bI ei o.guard=some false->∃aY cK st',iW c (o::os) ei st=some (cK,st')/\Sub aY cK/\K aY st'=some r:=λ{st} h hw=>by
        obtain⟨aY,cK,st',h1,h2⟩:=Ga os (hs.dst o.dst .undef) h;exact⟨aY,cK,st',by unfold iW;simp only[hw];exact h1,h2⟩
   cases hg:o.guard with
   |none=>simp only[hg]at h;exact hstp h (by rw[hg];rfl)
   |    some pw=>
        obtain⟨p,want⟩:=pw;simp only[hg]at h;cases hp:fr.get p with
        |none=>simp[hp]at h
        |some g=>
         simp only[hp]at h;have we:=hs _ _ hp;unfold To at h;split at h
         .  rename_i b;split at h
            .rename_i hb;exact hstp h (by rw[hg];simp[bI,we,hb])
            .rename_i hb;exact IP h (by rw[hg];simp[bI,we,hb])
         .  exact IP h (by rw[hg];simp[bI,we])
         .  cases h
theorem Le {c : ai}:∀(os:List (Nat×bk))(recs:List Rec)(base:T AB){fr ei:Fr}{st:St}{K:Fr->St->Option R}{r:R},Sub fr ei->mB c os recs base fr st K=some r->
  ∃aY cK st',cL c os recs base ei st=some (cK,st')/\Sub aY cK/\K aY st'=some r
 |[],_,_,fr,ei,st,K,r,hs,h=>⟨fr,ei,st,rfl,hs,h⟩
 |(j,   o)::  os, recs,base,fr,ei,st,K,r,hs,h=>by
  have ih:=λrecs base {fr ei:Fr}{st:St}{K:Fr->St->Option R}{r:R}=>Le (c:=c) os recs base (fr:=fr) (ei:=ei) (st:=st) (K:=K) (r:=r)
  unfold mB at h;cases hx:dV fr o.xs with
  |none=>simp[hx]at h
  | some xs   =>
    simp only[hx]at h;have Tg:=hs.evs hx;have IP:∀{st},mB c os ({ idx:=j,o:=o,v:= .undef,c:= .pure,nx:=st.next }::recs) base (cM fr o.dst .undef) st K=some r->bI ei o.guard=some false->∃aY cK st',cL c ((j,o)::os) recs base ei st=some (cK,st')/\Sub aY cK/\K aY st'=some r:=λ{st} h hw=>by
        obtain⟨aY,cK,st',h1,h2⟩:=ih _ _ (hs.dst o.dst .undef) h;exact⟨aY,cK,st',by unfold cL;simp only[hw];exact h1,h2⟩
    cases hc:o.cls with
    |   pure=>
        simp only[hc]at h;have IQ:dQ o.k xs (λv=>mB c os ({ idx:=j,o:=o,v:=v,c:= .pure,nx:=st.next }::recs) base (cM fr o.dst v) st K)=some r->bI ei o.guard=some true->∃aY cK st',cL c ((j,o)::os) recs base ei st=some (cK,st')/\Sub aY cK/\K aY st'=some r:=λh hw=>by
         unfold dQ at h;split at h
         .  rename_i v hv;obtain⟨aY,cK,st',h1,h2⟩:=ih _ _ (hs.dst o.dst v) h;exact⟨aY,cK,st',by unfold cL;simp only[hw,Tg,hc,hv];exact h1,h2⟩
         .  cases h
        cases hg:o.guard with
        |none=>simp only[hg]at h;exact IQ h (by rw[hg];rfl)
        |some pw=>
         obtain⟨p,want⟩:=pw;simp only[hg]at h;cases hp:fr.get p with
         |none=>simp[hp]at h
         |  some g=>
            simp only[hp]at h;have we:=hs _ _ hp;unfold Lb at h;split at h
            . split at h
              .rename_i hb;exact IQ h (by rw[hg];simp[bI,we,hb])
              .rename_i hb;exact IP h (by rw[hg];simp[bI,we,hb])
            .exact IP h (by rw[hg];simp[bI,we])
            .cases h
    |   read=>
        simp only[hc]at h;have IQ : kY o.k xs (snap o.bC base recs) (λv=>kg o.bC o.k xs v [] recs) (λv=>mB c os ({ idx:=j,o:=o,v:=v,c:= .pure,nx:=st.next }::recs) base (cM fr o.dst v) st K)=some r->bI ei o.guard=some true->∃aY cK st',cL c ((j,o)::os) recs base ei st=some (cK,st')/\Sub aY cK/\K aY st'=some r:=λh hw=>by
         unfold kY at h;split at h
         .  rename_i v hv;obtain⟨aY,cK,st',h1,h2⟩:=ih _ _ (hs.dst o.dst v) h;exact⟨aY,cK,st',by unfold cL;simp only[hw,Tg,hc,hv];exact h1,h2⟩
         .  rename_i j4;split at h
            . rename_i v hv;split at h
              . rename_i e8;obtain⟨aY,cK,st',h1,h2⟩:=ih _ _ (hs.dst o.dst v) h;refine⟨aY,cK,st',?_,h2⟩;unfold cL;simp only[hw,Tg,hc];cases hr:o.k.run (λ_=>none) .h xs with
                |none=>simp only[hv,e8];exact h1
                | some x=>cases x with
                  |val u=>exact absurd hr (j4 u)
                  |aE v d e n=>simp only[hv,e8];exact h1
                  |call f xs=>simp only[hv,e8];exact h1
              .cases h
            .cases h
        cases hg:o.guard with
        |none=>simp only[hg]at h;exact IQ h (by rw[hg];rfl)
        |some pw=>
         obtain⟨p,want⟩:=pw;simp only[hg]at h;cases hp:fr.get p with
         |none=>simp[hp]at h
         |  some g=>
            simp only[hp]at h;have we:=hs _ _ hp;unfold Lc at h;split at h
            . split at h
              .rename_i hb;exact IQ h (by rw[hg];simp[bI,we,hb])
              .rename_i hb;exact IP h (by rw[hg];simp[bI,we,hb])
            .exact IP h (by rw[hg];simp[bI,we])
            .cases h
    |   new =>
        simp only[hc]at h;have IQ:IL o.k xs st (λv av=>mB c os ({ idx:=j,o:=o,v:=v,c:= .new st.next av,nx:=st.next.succ }::recs) base (cM fr o.dst v) { heap:=st.heap.put (some av) st.next,next:=st.next.succ } K)=some r->bI ei o.guard=some true->∃aY cK st',cL c ((j,o)::os) recs base ei st=some (cK,st')/\Sub aY cK/\K aY st'=some r:=λh hw=>by
         unfold IL at h;split at h
         .  rename_i v av hv;obtain⟨aY,cK,st',h1,h2⟩:=ih _ _ (hs.dst o.dst v) h;exact⟨aY,cK,st',by unfold cL;simp only[hw,Tg,hc,hv];exact h1,h2⟩
         .  cases h
        cases hg:o.guard with
        |none=>simp only[hg]at h;exact IQ h (by rw[hg];rfl)
        |some pw=>
         obtain⟨p,want⟩:=pw;simp only[hg]at h;cases hp:fr.get p with
         |none=>simp[hp]at h
         |  some g=>
            simp only[hp]at h;have we:=hs _ _ hp;unfold Ld at h;split at h
            . split at h
              .rename_i hb;exact IQ h (by rw[hg];simp[bI,we,hb])
              .rename_i hb;exact IP h (by rw[hg];simp[bI,we,hb])
            .exact IP h (by rw[hg];simp[bI,we])
            .cases h
    |   aE=>
        simp only[hc]at h;have IQ:ak c o.k xs st (λv st'=>mB c os ({ idx:=j,o:=o,v:=v,c:= .aE base st'.heap,nx:=st'.next }::recs) st'.heap (cM fr o.dst v) st' K)=some r->bI ei o.guard=some true->∃aY cK st',cL c ((j,o)::os) recs base ei st=some (cK,st')/\Sub aY cK/\K aY st'=some r:=λh hw=>by
         unfold ak at h;cases iY:bF c o.k xs st with
         |none=>simp[iY]at h
         |  some p=>
            simp only[iY]at h;obtain⟨aY,cK,st',h1,h2⟩:=ih _ _ (hs.dst o.dst p.1) h;exact⟨aY,cK,st',by unfold cL;simp only[hw,Tg,hc,iY];exact h1,h2⟩
        cases hg:o.guard with
        |none=>simp only[hg]at h;exact IQ h (by rw[hg];rfl)
        |some pw=>
         obtain⟨p,want⟩:=pw;simp only[hg]at h;cases hp:fr.get p with
         |none=>simp[hp]at h
         |  some g=>
            simp only[hp]at h;have we:=hs _ _ hp;unfold Ld at h;split at h
            . split at h
              .rename_i hb;exact IQ h (by rw[hg];simp[bI,we,hb])
              .rename_i hb;exact IP h (by rw[hg];simp[bI,we,hb])
            .exact IP h (by rw[hg];simp[bI,we])
            .cases h
def Has:List Pos->List AV->Fr->Prop
 |[],[],_=>True
 |p::ps,v::vs,fr=>fr.get p=some v/\Has ps vs fr
 |_,_,_=>False
theorem Has.sub{a b:Fr}(hs:Sub a b):∀{ps:List Pos}{vs:List AV},Has ps vs a->Has ps vs b
 |[],[],_=>trivial
 |[],_::_,h=>h
 |_::_,[],h=>h
 |_::_,_::_,h=>⟨hs _ _ h.1,Has.sub hs h.2⟩
theorem ve:∀{ps:List Pos}{fr:Fr}{k:List AV->Option R}{r:R},IM ps fr k=some r->∃vs,Has ps vs fr/\k vs=some r
 |[],_,_,_,h=>⟨[],trivial,h⟩
 |p::ps,fr,k,r,h=>by
  unfold IM at h;cases hp:fr.get p with
  |none=>simp[hp]at h
  |some v=>
   simp only[hp]at h;obtain⟨vs,h1,h2⟩:=ve h;exact⟨v::vs,⟨hp,h1⟩,h2⟩
theorem zp:∀{ps:List Pos}{vs:List AV}{fr ei:Fr}{k:Fr->Option R}{r:R},IN ps vs fr k=some r->Has ps vs ei->Sub fr ei->∃aY,Sub aY ei/\k aY=some r
 |[],vs,fr,ei,k,r,h,_,hs=>by
  unfold IN qd at h;split at h
  .exact⟨fr,hs,h⟩
  .cases h
 |p::ps,[],fr,ei,k,r,h,hh,hs=>by simp[IN,ju]at h
 |p::ps,v::vs,fr,ei,k,r,h,hh,hs=>by
  unfold IN ju at h;refine zp h hh.2 λq u hq=> ?_
  by_cases e:p=q
  .subst e;rw[T.eF]at hq;cases hq;exact hh.1
  .rw[T.bw _ e]at hq;exact hs _ _ hq
theorem Bd{c:ai}{n m:Nat}(h:n<=m){a:AC}{fr:Fr}{st:St}{r:js×Fr×St}(e:exec c n a fr st=some r):exec c m a fr st=some r:=Kb (K9.refl c) n m h _ _ _ _ e
theorem mW{c:ai}{F:Nat}{L:Env R}:∀(a:AC)(s:Sh),tD c F L a s->∀{fr ei:Fr}{st:St}{K:js->Fr->St->Option R}{r:R},Sub fr ei->den c F L a s fr st K=some r->
   ∃n ex aY cK st',exec c n a ei st=some (ex,cK,st')/\Sub aY cK/\K ex aY st'=some r
 |.skip,s,_,fr,ei,st,K,r,hs,h=>⟨1,.normal,fr,ei,st,rfl,hs,by simpa [den]using h⟩
 |.exit id,s,_,fr,ei,st,K,r,hs,h=>⟨1,.exit id,fr,ei,st,rfl,hs,by simpa [den]using h⟩
 |.ret,s,_,fr,ei,st,K,r,hs,h=>⟨1,.ret,fr,ei,st,rfl,hs,by simpa [den]using h⟩
 | .region ops,s,_,fr,ei,st,K,r,hs,h=>by
   simp only[den]at h;obtain⟨aY,cK,st',h1,h2,h3⟩:=Ga ops hs h;exact⟨1,.normal,aY,cK,st',by simp only[exec,aZ,h1],h2,h3⟩
 | .draw ops,s,_,fr,ei,st,K,r,hs,h=>by
   simp only[den]at h;obtain⟨aY,cK,st',h1,h2,h3⟩:=Le ops _ _ hs h;exact⟨1,.normal,aY,cK,st',by simp only[exec,aZ,h1],h2,h3⟩
 | .seq a b,s,e8,fr,ei,st,K,r,hs,h=>by
   (cases s<;>simp only[den]at h<;>first|(cases h;done)|skip);rename_i jn s t;simp only[tD]at e8;cases jn with
   |none=>
    simp only at h;obtain⟨n,ex,bO,qt,aM,h1,h2,h3⟩:=mW a s e8.1 hs h;cases ex with
    |   normal=>
        obtain⟨m,ex,sU,Tq,iy,k1,k2,k3⟩:=mW b t e8.2 h2 h3;exact⟨max n m+1,ex,sU,Tq,iy,by simp only[exec,aZ,Bd (Zi2 n m) h1];exact Bd (Zh1 n m) k1,k2,k3⟩
    |exit i=>exact⟨n+1,.exit i,bO,qt,aM,by simp only[exec,aZ,h1],h2,h3⟩
    |ret=>exact⟨n+1,.ret,bO,qt,aM,by simp only[exec,aZ,h1],h2,h3⟩
   |some l=>
    simp only[fe]at h;obtain⟨n,ex,bO,qt,aM,h1,h2,h3⟩:=mW a s e8.1 hs h;cases ex with
    |   normal=>
        obtain⟨vs,g1,g2⟩:=ve h3;obtain⟨aY,g3,g4⟩:=zp g2 (Has.sub h2 g1) (λp v hp=>by rw[T.dm]at hp;cases hp);obtain⟨m,ex,sU,Tq,iy,k1,k2,k3⟩:=mW b t e8.2 g3 g4;exact⟨max n m+1,ex,sU,Tq,iy,by simp only[exec,aZ,Bd (Zi2 n m) h1];exact Bd (Zh1 n m) k1,k2,k3⟩
    |exit i=>exact⟨n+1,.exit i,bO,qt,aM,by simp only[exec,aZ,h1],h2,h3⟩
    |ret=>exact⟨n+1,.ret,bO,qt,aM,by simp only[exec,aZ,h1],h2,h3⟩
 | .cond x a b,s,e8,fr,ei,st,K,r,hs,h=>by
   (cases s<;>simp only[den]at h<;>first|(cases h;done)|skip);simp only[tD]at e8;cases hx:zi fr x with
   |none=>simp[hx]at h
   |some v=>
    simp only[hx]at h;unfold QV at h;split at h
    .   obtain⟨n,ex,bO,qt,aM,h1,h2,h3⟩:=mW a _ e8.1 hs h;exact⟨n+1,ex,bO,qt,aM,by simp only[exec,aZ,hs.ev hx];exact h1,h2,h3⟩
    .   obtain⟨n,ex,bO,qt,aM,h1,h2,h3⟩:=mW b _ e8.2 hs h;exact⟨n+1,ex,bO,qt,aM,by simp only[exec,aZ,hs.ev hx];exact h1,h2,h3⟩
    .   cases h
 | .block id a,s,e8,fr,ei,st,K,r,hs,h=>by
   (cases s<;>simp only[den]at h<;>first|(cases h;done)|skip);simp only[tD]at e8;obtain⟨n,ex,bO,qt,aM,h1,h2,h3⟩:=mW a _ e8 hs h;cases ex with
   |normal=>exact⟨n+1,.normal,bO,qt,aM,by simp only[exec,aZ,h1],h2,h3⟩
   |ret=>exact⟨n+1,.ret,bO,qt,aM,by simp only[exec,aZ,h1],h2,h3⟩
   |exit i=>
    simp only at h3;cases hb:Nat.beq i id with
    |true=>simp only[hb]at h3;exact⟨n+1,.normal,bO,qt,aM,by simp only[exec,aZ,h1,hb],h2,h3⟩
    |false=>simp only[hb]at h3;exact⟨n+1,.exit i,bO,qt,aM,by simp only[exec,aZ,h1,hb],h2,h3⟩
 | .loop a,s,e8,fr,ei,st,K,r,hs,h=>by
   (cases s<;>simp only[den]at h<;>first|(cases h;done)|skip);rename_i j ins outs s;simp only[tD,v9]at e8;obtain⟨afd,e8⟩:=e8;obtain⟨vs,g1,g2⟩:=ve h;obtain⟨hz,hsu⟩:=afd (knk outs K)
   have main:∀(n:Nat)(vs:List AV)(st:St)(ei:Fr),Has ins vs ei->L j (knk outs K) n vs st=some r->
        ∃m ex aY cK st',exec c m (.loop a) ei st=some (ex,cK,st')/\Sub aY cK/\K ex aY st'=some r:=by
    intro n;induction n with
    |zero=>intro vs st ei _ h;rw[hz]at h;cases h
    |   succ n ihn=>
        intro vs st ei hh h;rw[hsu]at h;unfold Ey at h;obtain⟨bP,q1,q2⟩:=zp h hh (λp v hp=>by rw[T.dm]at hp;cases hp);obtain⟨m,ex,bO,qt,aM,h1,h2,h3⟩:=mW a s e8 q1 q2;cases ex with
        |normal=>
         obtain⟨us,p1,p2⟩:=ve h3;obtain⟨m',ex,sU,Tq,iy,k1,k2,k3⟩:=ihn us aM qt (Has.sub h2 p1) p2;exact⟨max m m'+1,ex,sU,Tq,iy,by simp only[exec,aZ,Bd (Zi2 m m') h1];exact Bd (Zh1 m m') k1,k2,k3⟩
        |exit i=>
         obtain⟨os,p1,p2⟩:=ve h3;obtain⟨sU,p3,p4⟩:=zp p2 (Has.sub h2 p1) (λp v hp=>by rw[T.dm]at hp;cases hp);exact⟨m+1,.exit i,sU,qt,aM,by simp only[exec,aZ,h1],p3,p4⟩
        |ret=>
         obtain⟨os,p1,p2⟩:=ve h3;obtain⟨sU,p3,p4⟩:=zp p2 (Has.sub h2 p1) (λp v hp=>by rw[T.dm]at hp;cases hp);exact⟨m+1,.ret,sU,qt,aM,by simp only[exec,aZ,h1],p3,p4⟩
   exact main F vs st ei (Has.sub hs g1) g2
def Mc:(H:Pos->Option AB)->Fr->List zh->(List AV->Option R)->Option R
 |_,_,[],k=>k []
 |  H,fr,.tmp p::rs,k=>match fr.get p with
    |some v=>Mc H fr rs λvs=>k (v::vs)
    |none=>none
 |  H,fr,.cell p n::rs,k=>match fr.get p with
    |some q=>match (ay.load n).run H .h [q]with
     |some (.val v)=>Mc H fr rs λvs=>k (v::vs)
     |_=>none
    |none=>none
def Wh(n:Option Nat)(q:AV)(st:St)(K:AV->Option R):Option R:=match (ay.load n).run (λb=>st.heap.get b) .h [q]with
 |some (.val v)=>K v
 |_=>none
theorem C8{H:Pos->Option AB}{fr ei:Fr}(hs:Sub fr ei):∀{rs:List zh}{k:List AV->Option R}{r:R},Mc H fr rs k=some r->∃vs,cw H ei rs=some vs/\k vs=some r
 |[],k,r,h=>⟨[],rfl,h⟩
 | .tmp p::rs,k,r,h=>by
   unfold Mc at h;cases hp:fr.get p with
   |none=>simp[hp]at h
   |some v=>
    simp only[hp]at h;obtain⟨vs,h1,h2⟩:=C8 hs h;exact⟨v::vs,by unfold cw;simp only[hs _ _ hp,h1],h2⟩
 | .cell p n::rs,k,r,h=>by
   unfold Mc at h;cases hp:fr.get p with
   |none=>simp[hp]at h
   |some q=>
    simp only[hp]at h;split at h
    .   rename_i v hv;obtain⟨vs,h1,h2⟩:=C8 hs h;exact⟨v::vs,by unfold cw;simp only[hs _ _ hp,hv,h1],h2⟩
    .   cases h
def zU(c:ai)(F:Nat)(L:Env (AV×St))(A:cE)(s:Sh)(args:List AV)(st:St):Option (AV×St):=
 match Nat.beq args.length A.nparams with
 |  true=>den c F L A.code s (params 0 args .e) st λex fr st=>match ex with
    |.normal=>Mc (λb=>st.heap.get b) fr A.results λvs=>some (gD vs,st)
    |.ret=>Mc (λb=>st.heap.get b) fr A.results λvs=>some (gD vs,st)
    |.exit _=>none
 |false=>none
theorem abC{O:dZ}{G:T cE}{F:Nat}{L:Env (AV×St)}{f:FuncId}{A:cE}{s:Sh}{args:List AV}{st:St}{r:AV×St}(ho:O f=none)(hF:G.get (key f)=some A)
  (hL:∀x∈dY A.code s,v9 (run O G) F L x.1 x.2) (h:zU (run O G) F L A s args st=some r):run O G f args st=some (tidy st r):=by
 unfold zU at h;split at h<;>first|(cases h;done)|skip
 rename_i hlen;obtain⟨n,ex,aY,cK,st',h1,h2,h3⟩:=mW A.code s (yB _ _ hL) (Sub.refl _) h;refine abB (n:=n) ho hF ?_;unfold qJ;simp only[hlen,h1];cases ex with
 |normal=>
  obtain⟨vs,k1,k2⟩:=C8 h2 h3;simp only[k1];exact k2
 |ret=>
  obtain⟨vs,k1,k2⟩:=C8 h2 h3;simp only[k1];exact k2
 |exit i=>cases h3
def af(st:St)(b:AB):St:={ heap:=st.heap.put (some b) st.next,next:=st.next.succ }
def Sb{R:Type}:List (Nat×(LpK R->Nat->List AV->St->Option R))->Env R
 |[]=>λ_ _ _ _ _=>none
 |  (i,g)::l=>λj K n=>match Nat.beq i j with
    |true=>g K n
    |false=>Sb l j K n
def fC(A:cE)(s:Sh)(i:Nat):AC×Sh:=(dY A.code s).getD i (.skip,.leaf)
theorem abD{R:Type}{c:ai}{F:Nat}{L:Env R}{A:cE}{s:Sh}(n:Nat)(hn:Nat.beq (dY A.code s).length n=true)(h:∀i,i<n->v9 c F L (fC A s i).1 (fC A s i).2):
  ∀x∈dY A.code s,v9 c F L x.1 x.2:=by
 intro x hx;obtain⟨i,hi,he⟩:=Zk8.1 hx;have hn:=Za2 hn;have:=h i (by omega);unfold fC at this;rw[Zb5,H4 hi]at this;simp only[Zj5,he]at this;exact this
def Pc:Sh->Bool
 |.loop _ _ _ _=>true
 |_=>false
def ZW:Sh->Nat
 |.loop j _ _ _=>j
 |_=>0
def lpI:Sh->List Pos
 |.loop _ i _ _=>i
 |_=>[]
def ZX:Sh->List (Nat×List Pos)
 |.loop _ _ o _=>o
 |_=>[]
def lpB:Sh->Sh
 |.loop _ _ _ s=>s
 |_=>.leaf
theorem fQ{R:Type}{c:ai}{F:Nat}{L:Env R}{A:cE}{sh:Sh}{i:Nat}(j:Nat)(hs:(Pc (fC A sh i).2&&Nat.beq (ZW (fC A sh i).2) j)=true)(h0:∀K' vs st,L j K' 0 vs st=none)
  (h1:∀K' n vs st,L j K' (n+1) vs st=Ey (den c F L (fC A sh i).1 (lpB (fC A sh i).2)) (lpI (fC A sh i).2) (ZX (fC A sh i).2) K' (L j K' n) vs st):v9 c F L (fC A sh i).1 (fC A sh i).2:=by
 generalize (fC A sh i).1=a at*
 generalize (fC A sh i).2=t at*
 cases t with
 |loop j' ins outs s=>
  simp only[Pc,ZW,Zf2]at hs;obtain rfl:=Za2 hs;exact λK'=>⟨h0 K',h1 K'⟩
 |_=>simp[Pc]at hs
end
end Go.Ai
section
namespace Go.Ai
open Go
theorem cC(k:IntKind):Bh k k=true:=by cases k<;>rfl
theorem jK(a b:Int):uB a b=decide (a=b):=by rw[kj];rfl
theorem fk(a b:List Nat):iF a b=decide (a=b):=by rw[Zk1,kD];simp
theorem wrap64{x:Int}(h1: -9223372036854775808<=x)(h2:x<=9223372036854775807):aq .i64 x=x:=by
 unfold aq Qk Ql;simp only;split
 . split
   .rfl
   .contradiction
 .contradiction
theorem yY{x:Int}(h1:0<=x)(h2:x<=255):aq .u8 x=x:=by
 unfold aq Qk Ql;simp only;split
 . split
   .rfl
   .contradiction
 .contradiction
theorem iE(k:IntKind)(n:Nat):tu (.int k (n:Int))=some n:=id rfl
theorem ff(a b:Nat):Nat.ble a b=decide (a<=b):=by apply Zk1.2;simp
theorem AX(a b:Nat):Nat.blt a b=decide (a<b):=by apply Zk1.2;simp[Nat.blt,Nat.ble_eq];omega
theorem eH(a b:Nat):Nat.beq a b=decide (a=b):=by apply Zk1.2;simp
def tE{R:Type}(o:Option AV)(k:AV->Option R):Option R:=match o with
 |some v=>k v
 |none=>none
def zV{R:Type}(o:Option (List AV))(k:List AV->Option R):Option R:=match o with
 |some v=>k v
 |none=>none
def Md{R:Type}(o:Option (AV×St))(k:AV->St->Option R):Option R:=match o with
 |some (v,st)=>k v st
 |none=>none
section
variable{R:Type}(c:ai)(K:AV->St->Option R)(K1:AV->Option R)(A B:Option R)
@[simp] theorem mX(v:AV)(k:AV->Option R):tE (some v) k=k v:=id rfl
@[simp] theorem rA(v:List AV)(k:List AV->Option R):zV (some v) k=k v:=id rfl
@[simp] theorem ig(v:AV)(st:St)(k:AV->St->Option R):Md (some (v,st)) k=k v st:=id rfl
@[simp] theorem jV:QV (.bool true) A B=A:=id rfl
@[simp] theorem lf:QV (.bool false) A B=B:=id rfl
@[simp] theorem aG(v:AV)(vs:List AV)(k:AV->List AV->Option R):ju (v::vs) k=k v vs:=id rfl
@[simp] theorem cN(k:Option R):qd [] k=k:=id rfl
theorem rC(f:(List AV->St->Option R)->Option R)(k:List AV->St->Option R):fe f k=f k:=id rfl
@[simp] theorem vg(b:Bool)(k:ay)(xs:List AV)(st:St):To c (.bool b) b k xs st K=ak c k xs st K:=by cases b<;>exact id rfl
@[simp] theorem ZY(k:ay)(xs:List AV)(st:St):To c (.bool true) false k xs st K=K .undef st:=id rfl
@[simp] theorem gst_ft(k:ay)(xs:List AV)(st:St):To c (.bool false) true k xs st K=K .undef st:=id rfl
@[simp] theorem gst_un(b:Bool)(k:ay)(xs:List AV)(st:St):To c .undef b k xs st K=K .undef st:=id rfl
@[simp] theorem afW(b:Bool)(k:ay)(xs:List AV):Lb (.bool b) b k xs K1=dQ k xs K1:=by cases b<;>exact id rfl
@[simp] theorem gpr_tf(k:ay)(xs:List AV):Lb (.bool true) false k xs K1=K1 .undef:=id rfl
@[simp] theorem gpr_ft(k:ay)(xs:List AV):Lb (.bool false) true k xs K1=K1 .undef:=id rfl
@[simp] theorem gpr_un(b:Bool)(k:ay)(xs:List AV):Lb .undef b k xs K1=K1 .undef:=id rfl
@[simp] theorem afX(b:Bool)(k:ay)(xs:List AV)(h:T AB)(ok:AV->Bool):Lc (.bool b) b k xs h ok K1=kY k xs h ok K1:=by cases b<;>exact id rfl
@[simp] theorem grd_tf(k:ay)(xs:List AV)(h:T AB)(ok:AV->Bool):Lc (.bool true) false k xs h ok K1=K1 .undef:=id rfl
@[simp] theorem grd_ft(k:ay)(xs:List AV)(h:T AB)(ok:AV->Bool):Lc (.bool false) true k xs h ok K1=K1 .undef:=id rfl
@[simp] theorem grd_un(b:Bool)(k:ay)(xs:List AV)(h:T AB)(ok:AV->Bool):Lc .undef b k xs h ok K1=K1 .undef:=id rfl
@[simp] theorem afY(b:Bool):Ld (.bool b) b A B=A:=by cases b<;>exact id rfl
@[simp] theorem wnt_tf:Ld (.bool true) false A B=B:=id rfl
@[simp] theorem wnt_ft:Ld (.bool false) true A B=B:=id rfl
@[simp] theorem wnt_un(b:Bool):Ld .undef b A B=B:=id rfl
theorem BF{k:ay}{xs:List AV}{o:Option AV}(h:∀H n,k.run H n xs=o.map .val)(st:St):ak c k xs st K=tE o λv=>K v st:=by unfold ak bF;rw[h];cases o<;>rfl
theorem NL{k:ay}{xs:List AV}{o:Option AV}(h:∀H n,k.run H n xs=o.map .val):dQ k xs K1=tE o K1:=by unfold dQ;rw[h];cases o<;>rfl
theorem aW{k:ay}{xs:List AV}{v:AV}(h:∀H n,k.run H n xs=some (.val v))(st:St):ak c k xs st K=K v st:=by
 unfold ak bF;rw[h]
theorem bZ{k:ay}{xs:List AV}{v:AV}(h:∀H n,k.run H n xs=some (.val v)):dQ k xs K1=K1 v:=by
 unfold dQ;rw[h]
theorem jO(f:FuncId)(l:List AV)(st:St):ak c (.callF f) l st K=Md (c f l st) K:=by unfold ak bF;show(match c f l st with|some (v,st')=>K v st'|none=>none)=_;cases c f l st<;>rfl
theorem vh(f:FuncId)(l u v:List AV)(st:St):ak c .callV (.func f u v::l) st K=Md (c f (u++(l++v)) st) K:=by unfold ak bF;show(match c f (u++(l++v)) st with|some (v,st')=>K v st'|none=>none)=_;cases c f (u++(l++v)) st<;>rfl
attribute [simp] jO vh
end
def cellsOf:Option AB->Option (List AV)
 |some (.cells cs _)=>some cs
 |some (.typed _ cs)=>some cs
 |_=>none
@[simp] theorem aec(t:TypeId)(cs:List AV):cellsOf (some (.typed t cs))=some cs:=id rfl
@[simp] theorem aR(cs:List AV)(f:Nat):cellsOf (some (.cells cs f))=some cs:=id rfl
def ro(es:Nat)(z:Bool)(rs:List (List AV)):AV:=match z,rs with
 |true,[]=>.ah
 |_,rs=>.fl rs es
theorem Wi{es:Nat}{z:Bool}{rs:List (List AV)}(h:rs≠[]):ro es z rs= .fl rs es:=by
 unfold ro;split
 .exact absurd rfl h
 .rfl
theorem run_move(H:Pos->Option AB)(n:Pos)(x:AV):ay.run H n .move [x]=some (.val x):=rfl
@[simp] theorem aC{R:Type}(c:ai)(K:AV->St->Option R)(st:St)(x:AV):ak c .move [x] st K=K x st:=aW c K (λH n=>run_move H n x) st
@[simp] theorem dW{R:Type}(K:AV->Option R)(x:AV):dQ .move [x] K=K x:=bZ K (λH n=>run_move H n x)
theorem NM(H:Pos->Option AB)(n:Pos)(x y:AV):ay.run H n .pick [.bool true,x,y]=some (.val x):=rfl
@[simp] theorem XV{R:Type}(c:ai)(K:AV->St->Option R)(st:St)(x y:AV):ak c .pick [.bool true,x,y] st K=K x st:=aW c K (λH n=>NM H n x y) st
@[simp] theorem afe{R:Type}(K:AV->Option R)(x y:AV):dQ .pick [.bool true,x,y] K=K x:=bZ K (λH n=>NM H n x y)
theorem NN(H:Pos->Option AB)(n:Pos)(x y:AV):ay.run H n .pick [.bool false,x,y]=some (.val y):=rfl
@[simp] theorem XW{R:Type}(c:ai)(K:AV->St->Option R)(st:St)(x y:AV):ak c .pick [.bool false,x,y] st K=K y st:=aW c K (λH n=>NN H n x y) st
@[simp] theorem aff{R:Type}(K:AV->Option R)(x y:AV):dQ .pick [.bool false,x,y] K=K y:=bZ K (λH n=>NN H n x y)
theorem Wj(H:Pos->Option AB)(n:Pos)(p:Bool):ay.run H n (.un .not) [.bool p]=some (.val (.bool (!p))):=rfl
@[simp] theorem Be{R:Type}(c:ai)(K:AV->St->Option R)(st:St)(p:Bool):ak c (.un .not) [.bool p] st K=K (.bool (!p)) st:=aW c K (λH n=>Wj H n p) st
@[simp] theorem afZ{R:Type}(K:AV->Option R)(p:Bool):dQ (.un .not) [.bool p] K=K (.bool (!p)):=bZ K (λH n=>Wj H n p)
theorem Wk(H:Pos->Option AB)(n:Pos)(q:ey)(k:IntKind)(a b:Int):ay.run H n (.bin .lss q) [.int k a,.int k b]=some (.val (.bool (decide (a<b)))):=by simp[ay.run,gF,lR,cC,jK,dK,gZ,fk]
@[simp] theorem oa{R:Type}(c:ai)(K:AV->St->Option R)(st:St)(q:ey)(k:IntKind)(a b:Int):ak c (.bin .lss q) [.int k a,.int k b] st K=K (.bool (decide (a<b))) st:=aW c K (λH n=>Wk H n q k a b) st
@[simp] theorem Wl{R:Type}(K:AV->Option R)(q:ey)(k:IntKind)(a b:Int):dQ (.bin .lss q) [.int k a,.int k b] K=K (.bool (decide (a<b))):=bZ K (λH n=>Wk H n q k a b)
theorem Wm(H:Pos->Option AB)(n:Pos)(q:ey)(k:IntKind)(a b:Int):ay.run H n (.bin .leq q) [.int k a,.int k b]=some (.val (.bool (decide (a<=b)))):=by simp[ay.run,gF,lR,cC,jK,dK,gZ,fk]
@[simp] theorem af0{R:Type}(c:ai)(K:AV->St->Option R)(st:St)(q:ey)(k:IntKind)(a b:Int):ak c (.bin .leq q) [.int k a,.int k b] st K=K (.bool (decide (a<=b))) st:=aW c K (λH n=>Wm H n q k a b) st
@[simp] theorem af1{R:Type}(K:AV->Option R)(q:ey)(k:IntKind)(a b:Int):dQ (.bin .leq q) [.int k a,.int k b] K=K (.bool (decide (a<=b))):=bZ K (λH n=>Wm H n q k a b)
theorem Wn(H:Pos->Option AB)(n:Pos)(q:ey)(k:IntKind)(a b:Int):ay.run H n (.bin .gtr q) [.int k a,.int k b]=some (.val (.bool (decide (b<a)))):=by simp[ay.run,gF,lR,cC,jK,dK,gZ,fk]
@[simp] theorem ady{R:Type}(c:ai)(K:AV->St->Option R)(st:St)(q:ey)(k:IntKind)(a b:Int):ak c (.bin .gtr q) [.int k a,.int k b] st K=K (.bool (decide (b<a))) st:=aW c K (λH n=>Wn H n q k a b) st
@[simp] theorem af2{R:Type}(K:AV->Option R)(q:ey)(k:IntKind)(a b:Int):dQ (.bin .gtr q) [.int k a,.int k b] K=K (.bool (decide (b<a))):=bZ K (λH n=>Wn H n q k a b)
theorem Wo(H:Pos->Option AB)(n:Pos)(q:ey)(k:IntKind)(a b:Int):ay.run H n (.bin .geq q) [.int k a,.int k b]=some (.val (.bool (decide (b<=a)))):=by simp[ay.run,gF,lR,cC,jK,dK,gZ,fk]
@[simp] theorem af3{R:Type}(c:ai)(K:AV->St->Option R)(st:St)(q:ey)(k:IntKind)(a b:Int):ak c (.bin .geq q) [.int k a,.int k b] st K=K (.bool (decide (b<=a))) st:=aW c K (λH n=>Wo H n q k a b) st
@[simp] theorem af4{R:Type}(K:AV->Option R)(q:ey)(k:IntKind)(a b:Int):dQ (.bin .geq q) [.int k a,.int k b] K=K (.bool (decide (b<=a))):=bZ K (λH n=>Wo H n q k a b)
theorem Wp(H:Pos->Option AB)(n:Pos)(q:ey)(k:IntKind)(a b:Int):ay.run H n (.bin .eql q) [.int k a,.int k b]=some (.val (.bool (decide (a=b)))):=by simp[ay.run,gF,lR,cC,jK,dK,gZ,fk]
@[simp] theorem fy{R:Type}(c:ai)(K:AV->St->Option R)(st:St)(q:ey)(k:IntKind)(a b:Int):ak c (.bin .eql q) [.int k a,.int k b] st K=K (.bool (decide (a=b))) st:=aW c K (λH n=>Wp H n q k a b) st
@[simp] theorem af5{R:Type}(K:AV->Option R)(q:ey)(k:IntKind)(a b:Int):dQ (.bin .eql q) [.int k a,.int k b] K=K (.bool (decide (a=b))):=bZ K (λH n=>Wp H n q k a b)
theorem Wq(H:Pos->Option AB)(n:Pos)(q:ey)(k:IntKind)(a b:Int):ay.run H n (.bin .neq q) [.int k a,.int k b]=some (.val (.bool (!decide (a=b)))):=by simp[ay.run,gF,lR,cC,jK,dK,gZ,fk]
@[simp] theorem af6{R:Type}(c:ai)(K:AV->St->Option R)(st:St)(q:ey)(k:IntKind)(a b:Int):ak c (.bin .neq q) [.int k a,.int k b] st K=K (.bool (!decide (a=b))) st:=aW c K (λH n=>Wq H n q k a b) st
@[simp] theorem af7{R:Type}(K:AV->Option R)(q:ey)(k:IntKind)(a b:Int):dQ (.bin .neq q) [.int k a,.int k b] K=K (.bool (!decide (a=b))):=bZ K (λH n=>Wq H n q k a b)
theorem Wr(H:Pos->Option AB)(n:Pos)(q:ey)(k:IntKind)(a b:Int):ay.run H n (.bin .add q) [.int k a,.int k b]=some (.val (.int k (aq k (a+b)))):=by simp[ay.run,gF,lR,cC,jK,dK,gZ,fk]
@[simp] theorem vk{R:Type}(c:ai)(K:AV->St->Option R)(st:St)(q:ey)(k:IntKind)(a b:Int):ak c (.bin .add q) [.int k a,.int k b] st K=K (.int k (aq k (a+b))) st:=aW c K (λH n=>Wr H n q k a b) st
@[simp] theorem af8{R:Type}(K:AV->Option R)(q:ey)(k:IntKind)(a b:Int):dQ (.bin .add q) [.int k a,.int k b] K=K (.int k (aq k (a+b))):=bZ K (λH n=>Wr H n q k a b)
theorem Ws(H:Pos->Option AB)(n:Pos)(q:ey)(k:IntKind)(a b:Int):ay.run H n (.bin .sub q) [.int k a,.int k b]=some (.val (.int k (aq k (a - b)))):=by simp[ay.run,gF,lR,cC,jK,dK,gZ,fk]
@[simp] theorem af9{R:Type}(c:ai)(K:AV->St->Option R)(st:St)(q:ey)(k:IntKind)(a b:Int):ak c (.bin .sub q) [.int k a,.int k b] st K=K (.int k (aq k (a - b))) st:=aW c K (λH n=>Ws H n q k a b) st
@[simp] theorem aga{R:Type}(K:AV->Option R)(q:ey)(k:IntKind)(a b:Int):dQ (.bin .sub q) [.int k a,.int k b] K=K (.int k (aq k (a - b))):=bZ K (λH n=>Ws H n q k a b)
theorem adz(H:Pos->Option AB)(n:Pos)(q:ey)(k:IntKind)(a b:Int):ay.run H n (.bin .mul q) [.int k a,.int k b]=some (.val (.int k (aq k (a*b)))):=by simp[ay.run,gF,lR,cC,jK,dK,gZ,fk]
@[simp] theorem agb{R:Type}(c:ai)(K:AV->St->Option R)(st:St)(q:ey)(k:IntKind)(a b:Int):ak c (.bin .mul q) [.int k a,.int k b] st K=K (.int k (aq k (a*b))) st:=aW c K (λH n=>adz H n q k a b) st
theorem Tr(H:Pos->Option AB)(n:Pos)(q:ey)(s t:List Nat):ay.run H n (.bin .eql q) [.str s,.str t]=some (.val (.bool (decide (s=t)))):=by simp[ay.run,gF,lR,cC,jK,dK,gZ,fk]
@[simp] theorem afH{R:Type}(c:ai)(K:AV->St->Option R)(st:St)(q:ey)(s t:List Nat):ak c (.bin .eql q) [.str s,.str t] st K=K (.bool (decide (s=t))) st:=aW c K (λH n=>Tr H n q s t) st
@[simp] theorem afI{R:Type}(K:AV->Option R)(q:ey)(s t:List Nat):dQ (.bin .eql q) [.str s,.str t] K=K (.bool (decide (s=t))):=bZ K (λH n=>Tr H n q s t)
theorem Ts(H:Pos->Option AB)(n:Pos)(q:ey)(s t:List Nat):ay.run H n (.bin .neq q) [.str s,.str t]=some (.val (.bool (!decide (s=t)))):=by simp[ay.run,gF,lR,cC,jK,dK,gZ,fk]
@[simp] theorem afJ{R:Type}(c:ai)(K:AV->St->Option R)(st:St)(q:ey)(s t:List Nat):ak c (.bin .neq q) [.str s,.str t] st K=K (.bool (!decide (s=t))) st:=aW c K (λH n=>Ts H n q s t) st
@[simp] theorem abE{R:Type}(K:AV->Option R)(q:ey)(s t:List Nat):dQ (.bin .neq q) [.str s,.str t] K=K (.bool (!decide (s=t))):=bZ K (λH n=>Ts H n q s t)
theorem Tt(H:Pos->Option AB)(n:Pos)(q:ey)(s t:List Nat):ay.run H n (.bin .lss q) [.str s,.str t]=some (.val (.bool (az s t))):=by simp[ay.run,gF,lR,cC,jK,dK,gZ,fk]
@[simp] theorem afK{R:Type}(c:ai)(K:AV->St->Option R)(st:St)(q:ey)(s t:List Nat):ak c (.bin .lss q) [.str s,.str t] st K=K (.bool (az s t)) st:=aW c K (λH n=>Tt H n q s t) st
@[simp] theorem afL{R:Type}(K:AV->Option R)(q:ey)(s t:List Nat):dQ (.bin .lss q) [.str s,.str t] K=K (.bool (az s t)):=bZ K (λH n=>Tt H n q s t)
theorem abF(H:Pos->Option AB)(n:Pos)(q:ey)(s t:List Nat):ay.run H n (.bin .leq q) [.str s,.str t]=some (.val (.bool (az s t||decide (s=t)))):=by simp[ay.run,gF,lR,cC,jK,dK,gZ,fk]
@[simp] theorem afM{R:Type}(K:AV->Option R)(q:ey)(s t:List Nat):dQ (.bin .leq q) [.str s,.str t] K=K (.bool (az s t||decide (s=t))):=bZ K (λH n=>abF H n q s t)
theorem Tu(H:Pos->Option AB)(n:Pos)(q:ey)(s t:List Nat):ay.run H n (.bin .geq q) [.str s,.str t]=some (.val (.bool (!az s t))):=by simp[ay.run,gF,lR,cC,jK,dK,gZ,fk]
@[simp] theorem afN{R:Type}(c:ai)(K:AV->St->Option R)(st:St)(q:ey)(s t:List Nat):ak c (.bin .geq q) [.str s,.str t] st K=K (.bool (!az s t)) st:=aW c K (λH n=>Tu H n q s t) st
@[simp] theorem afO{R:Type}(K:AV->Option R)(q:ey)(s t:List Nat):dQ (.bin .geq q) [.str s,.str t] K=K (.bool (!az s t)):=bZ K (λH n=>Tu H n q s t)
theorem abG(H:Pos->Option AB)(n:Pos)(s:List Nat):ay.run H n (.lenB .s) [.str s]=some (.val (.int .i64 (s.length:Int))):=rfl
@[simp] theorem afP{R:Type}(c:ai)(K:AV->St->Option R)(st:St)(s:List Nat):ak c (.lenB .s) [.str s] st K=K (.int .i64 (s.length:Int)) st:=aW c K (λH n=>abG H n s) st
theorem Tv(H:Pos->Option AB)(n:Pos)(es:Nat)(z:Bool)(rs:List (List AV)):ay.run H n (.lenB .l) [ro es z rs]=some (.val (.int .i64 (rs.length:Int))):=by unfold ro;split<;>rfl
@[simp] theorem jv{R:Type}(c:ai)(K:AV->St->Option R)(st:St)(es:Nat)(z:Bool)(rs:List (List AV)):ak c (.lenB .l) [ro es z rs] st K=K (.int .i64 (rs.length:Int)) st:=aW c K (λH n=>Tv H n es z rs) st
@[simp] theorem Tw{R:Type}(K:AV->Option R)(es:Nat)(z:Bool)(rs:List (List AV)):dQ (.lenB .l) [ro es z rs] K=K (.int .i64 (rs.length:Int)):=bZ K (λH n=>Tv H n es z rs)
theorem Tz(H:Pos->Option AB)(n:Pos)(k k2:IntKind)(a:Int):ay.run H n (.conv (.int k)) [.int k2 a]=some (.val (.int k (aq k a))):=rfl
@[simp] theorem Me{R:Type}(c:ai)(K:AV->St->Option R)(st:St)(k k2:IntKind)(a:Int):ak c (.conv (.int k)) [.int k2 a] st K=K (.int k (aq k a)) st:=aW c K (λH n=>Tz H n k k2 a) st
@[simp] theorem afQ{R:Type}(K:AV->Option R)(k k2:IntKind)(a:Int):dQ (.conv (.int k)) [.int k2 a] K=K (.int k (aq k a)):=bZ K (λH n=>Tz H n k k2 a)
theorem abH(H:Pos->Option AB)(n:Pos)(k:IntKind)(s:List Nat)(i:Nat):ay.run H n .idxS [.str s,.int k (i:Int)]=((s[i]?.map λc=>.int .u8 (c:Int)):Option AV).map .val:=by simp only[ay.run,J2,iE,kV];cases s[i]? <;>rfl
@[simp] theorem afR{R:Type}(c:ai)(K:AV->St->Option R)(st:St)(k:IntKind)(s:List Nat)(i:Nat):ak c .idxS [.str s,.int k (i:Int)] st K=tE (s[i]?.map λc=>.int .u8 (c:Int)) λv=>K v st:=BF c K (λH n=>abH H n k s i) st
theorem IU(H:Pos->Option AB)(n:Pos)(off:Nat)(p:Pos)(o:Nat):ay.run H n (.fieldA off) [.ptr p o]=some (.val (.ptr p (o+off))):=rfl
@[simp] theorem c9{R:Type}(c:ai)(K:AV->St->Option R)(st:St)(off:Nat)(p:Pos)(o:Nat):ak c (.fieldA off) [.ptr p o] st K=K (.ptr p (o+off)) st:=aW c K (λH n=>IU H n off p o) st
@[simp] theorem bn{R:Type}(K:AV->Option R)(off:Nat)(p:Pos)(o:Nat):dQ (.fieldA off) [.ptr p o] K=K (.ptr p (o+off)):=bZ K (λH n=>IU H n off p o)
theorem IV(H:Pos->Option AB)(n:Pos)(off:Nat)(xs:List (List AV))(i j:Nat):ay.run H n (.fieldA off) [.fp xs i j]=some (.val (.fp xs i (j+off))):=rfl
@[simp] theorem ael{R:Type}(c:ai)(K:AV->St->Option R)(st:St)(off:Nat)(xs:List (List AV))(i j:Nat):ak c (.fieldA off) [.fp xs i j] st K=K (.fp xs i (j+off)) st:=aW c K (λH n=>IV H n off xs i j) st
@[simp] theorem aem{R:Type}(K:AV->Option R)(off:Nat)(xs:List (List AV))(i j:Nat):dQ (.fieldA off) [.fp xs i j] K=K (.fp xs i (j+off)):=bZ K (λH n=>IV H n off xs i j)
theorem Lf(H:Pos->Option AB)(n:Pos)(i:Nat)(l:List AV):ay.run H n (.extract i) [.tuple l]=(l[i]? :Option AV).map .val:=by simp only[ay.run,AP,kV];cases l[i]? <;>rfl
@[simp] theorem yZ{R:Type}(c:ai)(K:AV->St->Option R)(st:St)(i:Nat)(l:List AV):ak c (.extract i) [.tuple l] st K=tE l[i]? λv=>K v st:=BF c K (λH n=>Lf H n i l) st
@[simp] theorem aeS{R:Type}(K:AV->Option R)(i:Nat)(l:List AV):dQ (.extract i) [.tuple l] K=tE l[i]? K:=NL K (λH n=>Lf H n i l)
theorem Ez(H:Pos->Option AB)(n:Pos)(p:Pos)(o:Nat):ay.run H n .nilCheck [.ptr p o]=some (.val (.ptr p o)):=rfl
@[simp] theorem sH{R:Type}(c:ai)(K:AV->St->Option R)(st:St)(p:Pos)(o:Nat):ak c .nilCheck [.ptr p o] st K=K (.ptr p o) st:=aW c K (λH n=>Ez H n p o) st
@[simp] theorem adA{R:Type}(K:AV->Option R)(p:Pos)(o:Nat):dQ .nilCheck [.ptr p o] K=K (.ptr p o):=bZ K (λH n=>Ez H n p o)
theorem TA(H:Pos->Option AB)(n:Pos)(es:Nat)(z:Bool)(rs:List (List AV))(k:IntKind)(i:Nat):ay.run H n (.idxA es none) [ro es z rs,.int k (i:Int)]=((if i<rs.length then some (.fp rs i 0)else none):Option AV).map .val:=by
 by_cases h:i<rs.length
 .rw[Wi (by intro e;subst e;simp at h)];simp[ay.run,mK,iE,AX,eH,h]
 . unfold ro;split
   .rfl
   .simp[ay.run,mK,iE,AX,eH,h]
@[simp] theorem Mf{R:Type}(c:ai)(K:AV->St->Option R)(st:St)(es:Nat)(z:Bool)(rs:List (List AV))(k:IntKind)(i:Nat):ak c (.idxA es none) [ro es z rs,.int k (i:Int)] st K=tE (if i<rs.length then some (.fp rs i 0)else none) λv=>K v st:=BF c K (λH n=>TA H n es z rs k i) st
@[simp] theorem abI{R:Type}(K:AV->Option R)(es:Nat)(z:Bool)(rs:List (List AV))(k:IntKind)(i:Nat):dQ (.idxA es none) [ro es z rs,.int k (i:Int)] K=tE (if i<rs.length then some (.fp rs i 0)else none) K:=NL K (λH n=>TA H n es z rs k i)
theorem QW(H:Pos->Option AB)(n:Pos)(es:Nat)(z:Bool)(rs:List (List AV))(k:IntKind)(i:Nat):ay.run H n (.sliceL es false true false) [ro es z rs,.int k (i:Int)]=((if i<=rs.length then some (ro es (z&&rs.isEmpty) (rs.take i))else none):Option AV).map .val:=by
 by_cases h:i<=rs.length
 . rw[  Za6 h];unfold ro;split
   .simp at h;subst h;rfl
   .rename_i hn;have:(z&&rs.isEmpty)=false:=(by cases z<;>cases rs<;>simp at hn ⊢);simp only[this];simp[ay.run,oI,bounds,iE,ff,eH,h]
 . rw[Za3 h];unfold ro;split
   .simp only[ay.run,oI,bounds,iE];have:¬i=0:=(by simp at h;omega);simp[eH,this]
   .simp[ay.run,oI,bounds,iE,ff,eH,h]
@[simp] theorem ZZ{R:Type}(c:ai)(K:AV->St->Option R)(st:St)(es:Nat)(z:Bool)(rs:List (List AV))(k:IntKind)(i:Nat):ak c (.sliceL es false true false) [ro es z rs,.int k (i:Int)] st K=tE (if i<=rs.length then some (ro es (z&&rs.isEmpty) (rs.take i))else none) λv=>K v st:=BF c K (λH n=>QW H n es z rs k i) st
@[simp] theorem Z0{R:Type}(K:AV->Option R)(es:Nat)(z:Bool)(rs:List (List AV))(k:IntKind)(i:Nat):dQ (.sliceL es false true false) [ro es z rs,.int k (i:Int)] K=tE (if i<=rs.length then some (ro es (z&&rs.isEmpty) (rs.take i))else none) K:=NL K (λH n=>QW H n es z rs k i)
section
variable{R:Type}(c:ai)(K:AV->St->Option R)(K1:AV->Option R)
theorem wj(H:Pos->Option AB)(n:Pos)(xs:List (List AV))(i j:Nat):ay.run H n (.load none) [.fp xs i j]=(xs[i]?.bind λcs=>cs[j]?).map .val:=by
 simp only[ay.run,sg,kV];cases xs[i]? with
 |none=>rfl
 |some cs=>simp only[Zd8];cases cs[j]? <;>rfl
theorem DH(H:Pos->Option AB)(n:Pos)(m:Nat)(xs:List (List AV))(i j:Nat):ay.run H n (.load (some m)) [.fp xs i j]=((xs[i]?.bind λcs=>cut cs j m).map .agg).map .val:=by
 simp only[ay.run,sg,kV];cases xs[i]? with
 |none=>rfl
 |some cs=>simp only[Zd8];cases cut cs j m<;>rfl
theorem sI (H:Pos->Option AB)(n:Pos)(p:Pos)(o:Nat):ay.run H n (.load none) [.ptr p o]=((cellsOf (H p)).bind λcs=>cs[o]?).map .val:=by
 simp only[ay.run,sg,kV];cases H p with
 |none=>rfl
 |some x=>   cases x<;>simp only[cellsOf,Zd8,Option.bind_none]<;>try rfl
             all_goals first|(rename_i cs _;cases cs[o]? <;>rfl)|(rename_i _ cs;cases cs[o]? <;>rfl)
theorem y9 (H:Pos->Option AB)(n:Pos)(m:Nat)(p:Pos)(o:Nat):ay.run H n (.load (some m)) [.ptr p o]=(((cellsOf (H p)).bind λcs=>cut cs o m).map .agg).map .val:=by
 simp only[ay.run,sg];cases H p with
 |none=>rfl
 |some x=>   cases x<;>simp only[cellsOf,Zd8,Option.bind_none]<;>try rfl
             all_goals first|(rename_i cs _;cases cut cs o m<;>rfl)|(rename_i _ cs;cases cut cs o m<;>rfl)
@[simp] theorem afg(st:St)(xs:List (List AV))(i j:Nat):ak c (.load none) [.fp xs i j] st K=tE (xs[i]?.bind λcs=>cs[j]?) λv=>K v st:=BF c K (λH n=>wj H n xs i j) st
@[simp] theorem aeT(st:St)(m:Nat)(xs:List (List AV))(i j:Nat):ak c (.load (some m)) [.fp xs i j] st K=zV (xs[i]?.bind λcs=>cut cs j m) λl=>K (.agg l) st:=by rw[BF c K (λH n=>DH H n m xs i j) st];cases(xs[i]?.bind λcs=>cut cs j m)<;>rfl
@[simp] theorem jw(st:St)(p:Pos)(o:Nat):ak c (.load none) [.ptr p o] st K=tE ((cellsOf (st.heap.get p)).bind λcs=>cs[o]?) λv=>K v st:=by unfold ak bF;rw[sI];cases((cellsOf (st.heap.get p)).bind λcs=>cs[o]?)<;>rfl
@[simp] theorem tX(st:St)(m:Nat)(p:Pos)(o:Nat):ak c (.load (some m)) [.ptr p o] st K=zV ((cellsOf (st.heap.get p)).bind λcs=>cut cs o m) λl=>K (.agg l) st:=by unfold ak bF;rw[y9];cases((cellsOf (st.heap.get p)).bind λcs=>cut cs o m)<;>rfl
@[simp] theorem afh(h:T AB)(xs:List (List AV))(i j:Nat):kY (.load none) [.fp xs i j] h (λ_=>true) K1=tE (xs[i]?.bind λcs=>cs[j]?) K1:=by unfold kY;rw[wj,wj];cases hx:(xs[i]?.bind λcs=>cs[j]?)<;>rfl
@[simp] theorem aeU(h:T AB)(m:Nat)(xs:List (List AV))(i j:Nat):kY (.load (some m)) [.fp xs i j] h (λ_=>true) K1=zV (xs[i]?.bind λcs=>cut cs j m) λl=>K1 (.agg l):=by unfold kY;rw[DH,DH];cases hx:(xs[i]?.bind λcs=>cut cs j m)<;>rfl
@[simp] theorem aeV(st:St)(f:FuncId)(xs:List AV):ak c (.mkFunc f 0) xs st K=K (.func f [] xs) st:=aW c K (λH n=>by simp[ay.run,CM,ff]) st
@[simp] theorem pz(h:T AB)(p:Pos)(o:Nat):kY (.load none) [.ptr p o] h (λ_=>true) K1=tE ((cellsOf (h.get p)).bind λcs=>cs[o]?) K1:=by unfold kY;rw[sI,sI];show(match ((cellsOf (h.get p)).bind λcs=>cs[o]?).map b6.val with|some (.val v)=>_|_=>_)=_;cases((cellsOf (h.get p)).bind λcs=>cs[o]?)<;>rfl
@[simp] theorem DI(h:T AB)(m:Nat)(p:Pos)(o:Nat):kY (.load (some m)) [.ptr p o] h (λ_=>true) K1=zV ((cellsOf (h.get p)).bind λcs=>cut cs o m) λl=>K1 (.agg l):=by unfold kY;rw[y9,y9];show(match (((cellsOf (h.get p)).bind λcs=>cut cs o m).map AV.agg).map b6.val with|some (.val v)=>_|_=>_)=_;cases((cellsOf (h.get p)).bind λcs=>cut cs o m)<;>rfl
theorem run_build(H:Pos->Option AB)(n:Pos)(z:List AV)(ps:List (Nat×Nat))(xs:List AV):ay.run H n (.build z ps) xs=((bY z ps xs).map .agg).map .val:=by simp only[ay.run,Ft];cases bY z ps xs<;>rfl
@[simp] theorem iJ(st:St)(z:List AV)(ps:List (Nat×Nat))(xs:List AV):ak c (.build z ps) xs st K=zV (bY z ps xs) λl=>K (.agg l) st:=by rw[BF c K (λH n=>run_build H n z ps xs) st];cases bY z ps xs<;>rfl
@[simp] theorem zq(z:List AV)(ps:List (Nat×Nat))(xs:List AV):dQ (.build z ps) xs K1=zV (bY z ps xs) λl=>K1 (.agg l):=by rw[NL K1 (λH n=>run_build H n z ps xs)];cases bY z ps xs<;>rfl
theorem bV{α:Type}{l:List α}{m:Nat}(h:l.length=m):cut l 0 m=some l:=by
 unfold cut;rw[ff,H5 (by omega)];simp only[Ze0];rw[Zg2 (by omega)]
end
end Go.Ai
namespace Go.Ai
open Go
def Wf(st:St):Prop:=∀p x,st.heap.get p=some x->p.toNat<st.next.toNat
theorem dz(st:St)(b:AB):(af st b).next=st.next.succ:=id rfl
@[simp] theorem bL{st:St}{b:AB}(h:Wf st):Wf (af st b):=λp x hp=>by
  rw[dz,Pos.aB];by_cases e:st.next=p
  .subst e;omega
  .have:=h p x (by rwa [af,T.bw _ e]at hp);omega
@[simp] theorem aD(st:St)(b:AB):(af st b).heap.get st.next=some b:=T.eF _ _ _
theorem qo{st:St}{b:AB}{p:Pos}(h:p.toNat<st.next.toNat):(af st b).heap.get p=st.heap.get p:=by
 rw[af,T.bw _ (by intro e;subst e;omega)]
@[simp] theorem wm{st:St}{a b:AB}:(af (af st a) b).heap.get st.next=some a:=by
  rw[qo (by rw[dz,Pos.aB];omega),aD]
theorem b9{st:St}{b:AB}(h:Wf st):bu st (af st b):=λp x hp=>by rw[qo (h p x hp)];exact hp
theorem aF{st st':St}{v:AV}(hv:Plain v)(hk:bu st st'):tidy st (v,st')=(v,st):=by
 unfold tidy;rw[Za6 ⟨hv,hk⟩]
section
variable{R:Type}(c:ai)(K:AV->St->Option R)
@[simp] theorem qp(x:AV)(st:St):ak c .box [x] st K=K (.ptr st.next 0) (af st (.cells x.cells 0)):=id rfl
@[simp] theorem jP(l:List AV)(st:St):ak c (.alloc l) [] st K=K (.ptr st.next 0) (af st (.cells l 0)):=id rfl
end
theorem T.yC{α:Type}(x y:Option α):∀(p:Pos)(t:T α),T.put x p (T.put y p t)=T.put x p t
 |.h,.e=>rfl
 |.h,.n _ _ _=>rfl
 |.o p,.e=>by simp only[T.put];rw[T.yC x y p]
 |.o p,.n _ _ _=>by simp only[T.put];rw[T.yC x y p]
 |.i p,.e=>by simp only[T.put];rw[T.yC x y p]
 |.i p,.n _ _ _=>by simp only[T.put];rw[T.yC x y p]
def cI(st:St)(p:Pos)(b:AB):St:={ heap:=st.heap.put (some b) p,next:=st.next }
@[simp] theorem Gb(st:St)(p:Pos)(b:AB):(cI st p b).next=st.next:=id rfl
@[simp] theorem dF(st:St)(p:Pos)(b:AB):(cI st p b).heap.get p=some b:=T.eF _ _ _
theorem bt{st:St}{p q:Pos}{b:AB}(h:p≠q):(cI st p b).heap.get q=st.heap.get q:=T.bw _ h _
@[simp] theorem Pd(st:St)(a b:AB):cI (af st a) st.next b=af st b:=by
  unfold cI af;simp only[T.yC]
@[simp] theorem adB(st:St)(p:Pos)(a b:AB):cI (cI st p a) p b=cI st p b:=by
  unfold cI;simp only[T.yC]
theorem Pos.Pe(p:Pos):p≠p.succ:=λe=>by have:=congrArg Pos.toNat e;rw[Pos.aB]at this;omega
theorem dN{R:Type}(c:ai)(K:AV->St->Option R)(st:St)(m:Nat)(p:Pos)(o:Nat)(v:AV)(cs:List AV)(h:st.heap.get p=some (.cells cs 0))(h1:v.cells.length=m)(h2:o+m<=cs.length)(h3:aS v.cells=true):
  ak c (.store m) [.ptr p o,v] st K=K .undef (cI st p (.cells (aH cs o v.cells) 0)):=by
 have:ay.run (λb=>st.heap.get b) st.next (.store m) [.ptr p o,v]=some (.aE .undef none (some (p,.cells (aH cs o v.cells) 0)) none):=by
  simp[ay.run,Bi,h,h1,h2,h3,eH,ff]
 unfold ak bF;rw[this];rfl
@[simp] theorem cv{R:Type}(c:ai)(K:AV->St->Option R)(st:St)(m:Nat)(v:AV)(cs:List AV)(h1:v.cells.length=m)(h2:m=cs.length)(h3:aS v.cells=true):
   ak c (.store m) [.ptr st.next 0,v] (af st (.cells cs 0)) K=K .undef (af st (.cells v.cells 0)):=by
  rw[dN c K _ m st.next 0 v cs (aD _ _) h1 (by omega) h3,Pd];have:aH cs 0 v.cells=v.cells:=by unfold aH;rw[h1,h2];simp
  rw[this]
theorem afi{R:Type}(n:Option Nat)(p:Pos)(o:Nat)(st:St)(K:AV->Option R):Wh n (.ptr p o) st K=match n with
  |none=>tE ((cellsOf (st.heap.get p)).bind λcs=>cs[o]?) K
  |some m=>zV ((cellsOf (st.heap.get p)).bind λcs=>cut cs o m) λl=>K (.agg l):=by
 unfold Wh;cases n with
 |none=>rw[sI];simp only;cases((cellsOf (st.heap.get p)).bind λcs=>cs[o]?)<;>rfl
 |some m=>rw[y9];simp only;cases((cellsOf (st.heap.get p)).bind λcs=>cut cs o m)<;>rfl
@[simp] theorem TE{R:Type}(m:Nat)(p:Pos)(o:Nat)(st:St)(K:AV->Option R):Wh (some m) (.ptr p o) st K=zV ((cellsOf (st.heap.get p)).bind λcs=>cut cs o m) λl=>K (.agg l):=afi (some m) p o st K
@[simp] theorem Z3(es:Nat)(z:Bool)(rs:List (List AV)):(ro es z rs).one=true:=by unfold ro;split<;>rfl
@[simp] theorem TF(es:Nat)(z:Bool)(rs:List (List AV)):(ro es z rs).cells=[ro es z rs]:=by unfold ro;split<;>rfl
structure Grew(s s':St):Prop where
 wf:Wf s'
 keeps:bu s s'
 next:s.next.toNat<=s'.next.toNat
theorem Grew.refl{s:St}(h:Wf s):Grew s s:=⟨h,bu.refl s,Za5 _⟩
theorem Grew.trans{a b c:St}(h:Grew a b)(k:Grew b c):Grew a c:=⟨k.wf,h.keeps.trans k.keeps,Zc8 h.next k.next⟩
theorem Grew.af{s:St}(h:Wf s)(b:AB):Grew s (af s b):=⟨bL h,b9 h,by rw[dz,Pos.aB];omega⟩
theorem Grew.get{s s':St}(h:Grew s s'){p:Pos}{x:AB}(hp:s.heap.get p=some x):s'.heap.get p=some x:=h.keeps p x hp
end Go.Ai
end
namespace Go.Ai
section
open Go
theorem EA{st:St}{p:Pos}{b:AB}(h:Wf st)(hp:p.toNat<st.next.toNat):Wf (cI st p b):=λq x hq=>by
 rw[Gb];by_cases e:p=q
 .subst e;exact hp
 .rw[bt e]at hq;exact h q x hq
def dst(st:St)(p:Pos)(b:AB):St:={ heap:=(st.heap.put none p).put (some b) st.next,next:=st.next.succ }
theorem abJ(st:St)(p:Pos)(b:AB):(dst st p b).next=st.next.succ:=id rfl
theorem Pg(st:St)(p:Pos)(b:AB):(dst st p b).heap.get st.next=some b:=T.eF _ _ _
theorem NO{st:St}{p q:Pos}{b:AB}(h:p≠q)(h2:q.toNat<st.next.toNat):(dst st p b).heap.get q=st.heap.get q:=by
 rw[dst,T.bw _ (by intro e;subst e;omega),T.bw _ h]
theorem Z4{st:St}{p:Pos}{b:AB}(h:Wf st):Wf (dst st p b):=λq x hq=>by
 rw[abJ,Pos.aB];by_cases e:st.next=q
 .subst e;omega
 . rw[dst,T.bw _ e]at hq;by_cases e2:p=q
   .subst e2;rw[T.eF]at hq;cases hq
   .rw[T.bw _ e2]at hq;have:=h q x hq;omega
theorem Ph{s s':St}{v:AV}{b:Pos}{x:AB}(h:s.heap.get b=some x)(h2:s'.heap.get b≠some x):tidy s (v,s')=(v,s'):=by
 unfold tidy;rw[Za3];exact λe=>h2 (e.2 b x h)
section
variable{R:Type}(c:ai)(K:AV->St->Option R)(K1:AV->Option R)
theorem NP(H:Pos->Option AB)(n:Pos)(es len:Nat)(z:List AV)(ps:List Nat)(xs:List AV):ay.run H n (.buildSlice es len z ps) xs=(bY (bK z len) (ps.map λi=>(i*es,es)) xs).map λcs=>.aE (.slice n 0 len (some len) es) none none (some (.cells cs 0)):=by simp only[ay.run,pW];cases bY (bK z len) (ps.map λi=>(i*es,es)) xs<;>rfl
@[simp] theorem aO(st:St)(es len:Nat)(z:List AV)(ps:List Nat)(xs:List AV):ak c (.buildSlice es len z ps) xs st K=zV (bY (bK z len) (ps.map λi=>(i*es,es)) xs) λcs=>K (.slice st.next 0 len (some len) es) (af st (.cells cs 0)):=by unfold ak bF;rw[NP];cases bY (bK z len) (ps.map λi=>(i*es,es)) xs<;>rfl
@[simp] theorem wo(st:St)(es len:Nat)(z:List AV)(ps:List Nat)(xs:List AV)(K2:AV->AB->Option R):IL (.buildSlice es len z ps) xs st K2=zV (bY (bK z len) (ps.map λi=>(i*es,es)) xs) λcs=>K2 (.slice st.next 0 len (some len) es) (.cells cs 0):=by unfold IL;rw[NP];cases bY (bK z len) (ps.map λi=>(i*es,es)) xs<;>rfl
@[simp] theorem Z5(st:St):ak c .mkMap [] st K=K (.map st.next) (af st (.map [] 0)):=id rfl
theorem TG{st:St}{es bytes m:Nat}{x:AV}{new:List AV}(hm:cZ x=some m)(h0:m≠0)(hb:(2*(0+m)+768)*bytes<=281474976710656)(hs:0+m<=9223372036854775807)(hx:cg es m (λb=>st.heap.get b) x=some new):
  ak c (.append es bytes) [.ah,x] st K=K (.slice st.next 0 m none es) (af st (.cells new 0)):=by
 have:ay.run (λb=>st.heap.get b) st.next (.append es bytes) [.ah,x]=some (.aE (.slice st.next 0 m none es) none none (some (.cells new 0))):=by
  simp only[ay.run,fN];rw[show cZ .ah=some 0 from rfl,hm];simp only[ff,eH,H5 hb,H5 hs,Za1 h0,hx]
 unfold ak bF;rw[this];rfl
theorem adC{st:St}{es bytes m n:Nat}{p:Pos}{x:AV}{cs dI new:List AV}(hm:cZ x=some m)(h0:m≠0)(hb:(2*(n+m)+768)*bytes<=281474976710656)(hs:n+m<=9223372036854775807)(hp:st.heap.get p=some (.cells cs 0))
  (ho:cg es n (λb=>st.heap.get b) (.slice p 0 n none es)=some dI) (hx:cg es m (λb=>st.heap.get b) x=some new) (h1:aS new=true):
  ak c (.append es bytes) [.slice p 0 n none es,x] st K=K (.slice st.next 0 (n+m) none es) (dst st p (.cells (dI++new) 0)):=by
 have:ay.run (λb=>st.heap.get b) st.next (.append es bytes) [.slice p 0 n none es,x]=some (.aE (.slice st.next 0 (n+m) none es) (some p) none (some (.cells (dI++new) 0))):=by simp only[ay.run,fN];rw[show cZ (.slice p 0 n none es)=some n from rfl,hm];simp only[ff,eH,H5 hb,H5 hs,Za1 h0,hx,hp,ho,h1];simp
 unfold ak bF;rw[this];rfl
theorem Z6{st:St}{es bytes m:Nat}{p:Pos}{x:AV}{new:List AV}(hm:cZ x=some m)(h0:m≠0)(hb:(2*(0+m)+768)*bytes<=281474976710656)(hs:0+m<=9223372036854775807)(hx:cg es m (λb=>st.heap.get b) x=some new):
  ak c (.append es bytes) [.slice p 0 0 (some 0) es,x] st K=K (.slice st.next 0 m none es) (af st (.cells new 0)):=by
 have:ay.run (λb=>st.heap.get b) st.next (.append es bytes) [.slice p 0 0 (some 0) es,x]=some (.aE (.slice st.next 0 m none es) none none (some (.cells new 0))):=by
  have h2:¬(0+m<=0):=by omega
  have ho:cg es 0 (λb=>st.heap.get b) (.slice p 0 0 (some 0) es)=some []:=by simp[cg]
  simp only[ay.run,fN];rw[show cZ (.slice p 0 0 (some 0) es)=some 0 from rfl,hm];simp only[ff,eH,H5 hb,H5 hs,Za1 h0,Za1 h2,hx,ho];simp only[Zc4,Zg9]
 unfold ak bF;rw[this];rfl
theorem TH{st:St}{es bytes:Nat}{p:Pos}{off n:Nat}{cp:Option Nat}{x:AV}(hm:cZ x=some 0)(hb:(2*(n+0)+768)*bytes<=281474976710656)(hs:n+0<=9223372036854775807):
  ak c (.append es bytes) [.slice p off n cp es,x] st K=K (.slice p off n cp es) st:=by
 have:ay.run (λb=>st.heap.get b) st.next (.append es bytes) [.slice p off n cp es,x]=some (.val (.slice p off n cp es)):=by
  simp only[ay.run,fN];rw[show cZ (.slice p off n cp es)=some n from rfl,hm];simp only[ff,eH,H5 hb,H5 hs]
 unfold ak bF;rw[this]
theorem QX(H:Pos->Option AB)(n:Pos)(z:AV)(m:Pos)(es:List (AV×AV×Nat))(cl:Nat)(k:AV)(h:H m=some (.map es cl))(r:Option (Nat×AV))(hf:jr .s k es 0=some r):
  ay.run H n (.lookup .s z true) [.map m,k]=some (.val (match r with|some (_,v)=>.tuple [v,.bool true]|none=>.tuple [z,.bool false])):=by
 simp only[ay.run,uW,h,hf];cases r with
 |none=>rfl
 |some p=>rfl
theorem C9(z:AV){st:St}{m:Pos}{es:List (AV×AV×Nat)}{cl:Nat}{k:AV}{r:Option (Nat×AV)}(h:st.heap.get m=some (.map es cl))(hf:jr .s k es 0=some r):
  ak c (.lookup .s z true) [.map m,k] st K=K (match r with|some (_,v)=>.tuple [v,.bool true]|none=>.tuple [z,.bool false]) st:=by
 unfold ak bF;rw[QX _ _ z m es cl k h r hf]
theorem QY(z:AV){h:T AB}{m:Pos}{es:List (AV×AV×Nat)}{cl:Nat}{k:AV}{r:Option (Nat×AV)}(hh:h.get m=some (.map es cl))(hf:jr .s k es 0=some r):
  kY (.lookup .s z true) [.map m,k] h (λ_=>true) K1=K1 (match r with|some (_,v)=>.tuple [v,.bool true]|none=>.tuple [z,.bool false]):=by
 unfold kY;have e:ay.run (λ_=>none) .h (.lookup .s z true) [.map m,k]=none:=rfl;rw[e];simp only;rw[QX _ _ z m es cl k hh r hf]
theorem Vx{st:St}{m:Pos}{es:List (AV×AV×Nat)}{cl:Nat}{k:List Nat}{v:AV}(h:st.heap.get m=some (.map es cl))(hf:jr .s (.str k) es 0=some none):
  ak c (.mapSet .s) [.map m,.str k,v] st K=K .undef (cI st m (.map (es++[(.str k,v,cl)]) (cl+1))):=by
 have:ay.run (λb=>st.heap.get b) st.next (.mapSet .s) [.map m,.str k,v]=some (.aE .undef none (some (m,.map (es++[(.str k,v,cl)]) (cl+1))) none):=by
  simp[ay.run,uX,h,hf,Xl]
 unfold ak bF;rw[this];rfl
theorem yD{p:Pos}{o:Nat}{h h2:T AB}{v:AV}(hv:((cellsOf (h.get p)).bind λcs=>cs[o]?)=some v)(Iq:((cellsOf (h2.get p)).bind λcs=>cs[o]?)=some v)(hb:e9 v v=true):
  kY (.load none) [.ptr p o] h (λv=>su (.load none) [.ptr p o] v (yV [] h2)&&true) K1=K1 v:=by
 unfold kY;have e:ay.run (λ_=>none) .h (.load none) [.ptr p o]=none:=rfl;rw[e];simp only;rw[sI,hv];simp only[Ze7];have:su (.load none) [.ptr p o] v (yV [] h2)=true:=by unfold su;show(match ay.run (λb=>h2.get b) .h (.load none) [.ptr p o]with|some (.val u)=>e9 u v|_=>false)=true;rw[sI,Iq];exact hb
 rw[this];rfl
end
theorem yE{R:Type}(K1:AV->Option R){p:Pos}{o:Nat}{h h2:T AB}{v:AV}(hv:((cellsOf (h.get p)).bind λcs=>cs[o]?)=some v)(Iq:((cellsOf (h2.get p)).bind λcs=>cs[o]?)=some v)(hb:e9 v v=true):
  kY (.load none) [.ptr p o] h (λv=>su (.load none) [.ptr p o] v (yV [] h2)) K1=K1 v:=by
 have:=yD K1 hv Iq hb;simp only[Zl5]at this;exact this
theorem IW(p:Pos)(o n es:Nat):e9 (.slice p o n none es) (.slice p o n none es)=true:=by
 simp[e9,kO,gq,Pos.beq_eq.2 rfl]
theorem Mg:e9 .ah .ah=true:=rfl
inductive iB:Nat->AV->Prop
 |flat {d:Nat} {v:AV} (h:gq v v=true):iB d v
 |fl {d:Nat} {a:List (List AV)} {n:Nat} (h:∀r∈a,∀v∈r,iB d v):iB (d+1) (.fl a n)
theorem NQ{f:AV->AV->Bool}:∀{a:List AV},(∀v∈a,f v v=true)->CP f a a=true
 |[],_=>rfl
 |a::x,h=>by
  simp only[CP,h a (by simp),NQ (λv hv=>h v (Za7 _ hv)),Zj4]
theorem IX{f:AV->AV->Bool}:∀{a:List (List AV)},(∀r∈a,∀v∈r,f v v=true)->uZ f a a=true
 |[],_=>rfl
 |a::x,h=>by
  simp only[uZ,NQ (h a (by simp)),IX (λv hv=>h v (Za7 _ hv)),Zj4]
theorem NR:∀{d:Nat}{v:AV},iB d v->CQ d v v=true
 |d,v,.flat h=>by
  unfold CQ;split
  .simp[gq]at h
  .exact h
 |d+1,.fl a n,.fl h=>by
  unfold CQ;simp[IX (λr hr v hv=>NR (h r hr v hv))]
theorem iB.ro{d es:Nat}{z:Bool}{rs:List (List AV)}(h:∀r∈rs,∀v∈r,iB d v):iB (d+1) (ro es z rs):=by
 unfold Go.Ai.ro;split
 .exact .flat rfl
 .exact .fl h
theorem Z7{v:AV}(h:iB 3 v):e9 v v=true:=by
 have h3:=NR h;cases h with
 |flat h=>
  cases v<;>simp[gq]at h<;>first|simp[e9,kO,gq,h]|skip
  all_goals simp_all [e9,kO,gq]
 |fl h=>exact h3
theorem iB.int{d:Nat}(k:IntKind)(n:Int):iB d (.int k n):= .flat (by simp[gq,kj,cC])
theorem iB.str{d:Nat}(s:List Nat):iB d (.str s):= .flat (by simp[gq,kD])
theorem iB.bool{d:Nat}(s:Bool):iB d (.bool s):= .flat (by simp[gq])
end
section
open Go
section
variable{H:Type}(enc:TypeId×Value->H)(P:Program)(w:World)(base:Nat)(spare:Nat->Bool)(held:Bool)
def iU(t:TypeId)(Q:List AV->Prop):Prop:=
 ∀  (fuel:Nat)(cs:List Value)(x:DataW H×List MemPlace),DataW.trod enc P w base spare held fuel t cs=some x->
    ∃as,Q as/\∀ρ n,au ρ n (λad=>w.cell? ad) as cs
variable{enc P w base spare held}
theorem iU.mono{t:TypeId}{Q Q':List AV->Prop}(h:iU enc P w base spare held t Q)(k:∀as,Q as->Q' as):iU enc P w base spare held t Q':=
 λfuel cs x hx=>by obtain⟨as,h1,h2⟩:=h fuel cs x hx;exact⟨as,k _ h1,h2⟩
theorem IY{t:TypeId}{k:IntKind}(ht:P.underlying t=some (.int k)):iU enc P w base spare held t λas=>∃i,as=[.int k i]/\(Lit.int k i).wf=true:=
 fun fuel cs x hx=>by
  obtain⟨n,rfl,h⟩:=DataW.trod_int ht hx;exact⟨_,⟨n,rfl,h.2⟩,λρ m=>au.cons (.int k n) au.nil⟩
theorem DJ {t e:TypeId}{es:Nat}{Q:List AV->Prop}(ht:P.underlying t=some (.slice e))(hc:P.cellsOf e=es)(dc:0<es)(hQ:∀as,Q as->as.length=es)(h:iU enc P w base spare held e Q):
  iU enc P w base spare held t λas=>∃z rs,as=[ro es z rs]/\(∀r∈rs,Q r)/\rs.length<=maxLen:=
 fun fuel cs  x hx=>by
  rcases DataW.trod_slice ht hx with⟨rfl,_⟩|⟨a,len,cap,elems,rest,n,_,rfl,_,hb,hl,hm,hlen,hel,_,_⟩
  .  exact⟨_,⟨true,[],rfl,by simp,by simp⟩,λρ m=>au.cons .ah au.nil⟩
  .  have each:∀i,∃r row,i<len->(Q r/\w.cells? base (a.add (i*es)) es=some row/\∀ρ m,au ρ m (λad=>w.cell? ad) r row):=by
        intro i;by_cases hi:i<len
        . have h1:=hel i hi;rw[H4 (by omega),hc]at h1;cases h2:w.cells? base (a.add (i*es)) es with
          |none=>rw[h2]at h1;cases h1
          | some row=>
            rw[h2]at h1;obtain⟨r,hr,hv⟩:=h n row _ h1;exact⟨r,row,λ_=>⟨hr,rfl,hv⟩⟩
        .exact⟨[],[],λh=>absurd h hi⟩
     obtain⟨r,each⟩:=Classical.axiomOfChoice each;obtain⟨row,hr⟩:=Classical.axiomOfChoice each;have ac7:0<len->a.spot=none:=λh0=>by
        obtain⟨_,h1,_⟩:=hr 0 h0;have:=(World.cells?_some h1).2.2 0 dc;have hl:=(World.cells?_some h1).2.1;rw[H4 (by omega)]at this;simp only[Zp5,Addr.add,Zg3]at this;unfold World.cell? at this;split at this
        . split at this
          .cases this
          .rename_i h;simpa using h
        .cases this
     have afj:((List.range len).map r).length=len:=(by simp);have get:∀(i:Nat)(c:List AV),((List.range len).map r)[i]? =some c->i<len/\c=r i:=λi c hi=>by
        rw[Zb8]at hi;by_cases h:i<len
        .rw[Zl4 h]at hi;simp at hi;exact⟨h,hi.symm⟩
        .rw[Zb4 (by simpa using h)]at hi;cases hi
     refine⟨_,⟨false,(List.range len).map r,rfl,?_,by simp;omega⟩,λρ m=>au.cons ?_ au.nil⟩
     .  intro q hq;simp only[Ze5,Zj7]at hq;obtain⟨i,hi,rfl⟩:=hq;exact(hr i hi).1
     .  have key:aj ρ m (λad=>w.cell? ad) (.fl ((List.range len).map r) es) (.slice (some a) ((List.range len).map r).length cap):=by
          refine .fl _ es cap a (λi j=>((row i)[j]?).getD .nilFunc) (by omega) (λh0=>ac7 ?_) (λi c hi=> ?_) (λi j c v hi hj=> ?_) (λi j c v hi hj=> ?_)
          .apply Zj1;intro h;apply h0;have:len=0:=(by omega);subst this;rfl
          .obtain⟨h1,rfl⟩:=get i c hi;exact hQ _ (hr i h1).1
          . obtain⟨h1,rfl⟩:=get i c hi;obtain⟨q1,q2,q3⟩:=hr i h1;have Z8:j<es:=(by rw[<-hQ _ q1];exact(Za0.1 hj).1);have q4:=(World.cells?_some q2).2.2 j Z8;have q5:=(World.cells?_some q2).2.1;have hs:=ac7 (by omega);have e1:(a.add (i*es)).add j=⟨a.block,a.off+i*es+j,none⟩:=by
              obtain⟨av,off,spot⟩:=a;simp only at hs;subst hs;unfold Addr.add;by_cases e1:i*es=0<;>by_cases e2:j=0<;>simp[e1,e2]
            rw[e1]at q4;show w.cell? _=_;rw[q4,H4 (by omega)];rfl
          .obtain⟨h1,rfl⟩:=get i c hi;obtain⟨q1,q2,q3⟩:=hr i h1;have Z8:j<es:=(by rw[<-hQ _ q1];exact(Za0.1 hj).1);have q5:=(World.cells?_some q2).2.1;refine(q3 ρ m).2 j v _ hj ?_;rw[H4 (by omega)];rfl
        rw[afj]at key;exact key
def Gc:List (List AV->Prop)->List (List AV)->Prop
 |[],[]=>True
 |Q::Qs,p::ps=>Q p/\Gc Qs ps
 |_,_=>False
def IZ(P:Program)(Z9:Nat):Nat->List Field->Bool
 |o,[]=>o==Z9
 |o,f::fs=>f.offset==o&&IZ P Z9 (o+P.cellsOf f.type) fs
def TJ(enc:TypeId×Value->H)(P:Program)(w:World)(base:Nat)(spare:Nat->Bool)(held:Bool):List TypeId->List (List AV->Prop)->Prop
 |[],[]=>True
 |f::fs,Q::Qs=>iU enc P w base spare held f Q/\TJ enc P w base spare held fs Qs
 |_,_=>False
theorem I0{Z9 n:Nat}:∀(fs:List Field)(Qs:List (List AV->Prop))(o:Nat)(cs:List Value),IZ P Z9 o fs=true->TJ enc P w base spare held (fs.map (·.type)) Qs->cs.length=Z9->
  (∀f∈fs,∃y,DataW.trod enc P w base spare held n f.type ((cs.drop f.offset).take (P.cellsOf f.type))=some y)->
  ∃parts,Gc Qs parts/\∀ρ m,au ρ m (λad=>w.cell? ad) parts.flatten (cs.drop o)
 |[],[],o,cs,hc,_,hl,_=>by simp only[IZ,beq_iff_eq]at hc;refine⟨[],trivial,λρ m=> ?_⟩;rw[List.drop_eq_nil_of_le (by omega)];exact au.nil
 |f::fs,Q::Qs,o,cs,hc,hO,hl,hf=>by
  simp only[IZ,Za8,beq_iff_eq]at hc;obtain⟨y,hy⟩:=hf f (by simp);obtain⟨as,hq,hv⟩:=hO.1 n _ y hy;obtain⟨parts,hp,Iq⟩:=I0 fs Qs _ cs hc.2 hO.2 hl (λg hg=>hf g (Za7 _ hg));refine⟨as::parts,⟨hq,hp⟩,λρ m=> ?_⟩;have e:cs.drop o=(cs.drop f.offset).take (P.cellsOf f.type)++cs.drop (o+P.cellsOf f.type):=by
   rw[hc.1, <-Zo7,Zj0]
  rw[e,Zf6];exact(hv ρ m).append (Iq ρ m)
def fieldsOf(P:Program)(t:TypeId):List Field:=match P.underlying t with
 |some (.struct fs)=>fs.toList
 |_=>[]
def TM(P:Program)(t:TypeId):Bool:=match P.underlying t with
 |some (.struct _)=>true
 |_=>false
theorem TN{t:TypeId}(ts:List TypeId){Qs:List (List AV->Prop)}(hs:TM P t=true)(cH:(fieldsOf P t).map (·.type)=ts)(hc:IZ P (P.cellsOf t) 0 (fieldsOf P t)=true)(hO:TJ enc P w base spare held ts Qs):
  iU enc P w base spare held t λas=>∃parts,as=parts.flatten/\Gc Qs parts:=
 fun fuel cs x hx=>by
  obtain⟨fs,ht⟩:∃fs,P.underlying t=some (.struct fs):=by
     unfold TM at hs;cases h:P.underlying t with
     |none=>rw[h]at hs;cases hs
     |some d=>rw[h]at hs;cases d<;>first|exact⟨_,rfl⟩|cases hs
  have ef:fieldsOf P t=fs.toList:=by unfold fieldsOf;rw[ht]
  rw[ef]at cH hc;subst cH;obtain⟨xs,n,_,_,hl,hxl,hf⟩:=DataW.trod_struct ht hx;obtain⟨parts,hp,hv⟩:=I0 fs.toList Qs 0 cs hc hO hl (λf hf2=>by
     obtain⟨i,hi⟩:=List.getElem?_of_mem hf2;have QZ:fs[i]? =some f:=(by rw[<-Zg4];exact hi);have aN:i<fs.size:=(Zd0.1 QZ).1;exact⟨xs[i],by rw[hf i f QZ,H4 (by omega)]⟩)
  exact⟨_,⟨parts,rfl,hp⟩,λρ m=>hv ρ m⟩
end
def Sc(w w':World):Prop:=w'.os=w.os/\w'.tape=w.tape/\w'.output=w.output/\w.heap.size<=w'.heap.size/\∀k,k<w.heap.size->w'.heap[k]? =w.heap[k]?
def Ke:List AV->St->Option (AV×St)
 |[],st=>some (.bool true,st)
 |_,_=>none
theorem Qi{P:Program}{C:Cells}{f:FuncId}{fn:Func}{c:Code}(hf:P.funcs[f]? =some fn)(ji:¬fn.name= "runtime.NumGoroutine")(hb:fn.body=some c)
  (h:∀w:World,(∀ad u,C ad=some u->w.cell? ad=some u)->Calls P f #[] w λe w'=>e= .returned (.bool true)/\Sc w w'):mE P C f Ke where
 mono args st v st' hs:=by
  unfold Ke at hs;split at hs<;>first|(cases hs;done)|skip
  simp only[H0,Zb3]at hs;rw[<-hs.2];exact Za5 _
 runs ρ st w args v st' bE hs hW hv:=by
  unfold Ke at hs;split at hs<;>first|(cases hs;done)|skip
  simp only[H0,Zb3]at hs;obtain⟨rfl,rfl⟩:=hs;obtain rfl:=hv.mL;have bN:(callFunc f ([]:List Value).toArray).run P w= .ok (.enter f #[]) w:=by simp[callFunc,hf,ji,hb]
  rw[bN];refine Calls.mono (h w λad u ha=>(hW.dx ad u ha).1) λe w' he=> ?_
  obtain⟨rfl,h1,h2,h3,h4,h5⟩:=he;exact⟨ρ,.bool true,λ_ _=>rfl,Za5 _,hW.grow h4 h5,⟨h1,h2,h3,h4,λk hk _=>h5 k hk,λb x hb=>.inl ⟨b,x,hb,rfl⟩⟩⟩
theorem aa0{P:Program}{C:Cells}{call:ai}{f:FuncId}{fn:Func}{c:Code}{args:List AV}{bE:List Value}{b:Bool}{n0:Pos}{aM:St}{w:World}
  (e8:eV P C call) (hC:∀ad v,C ad=some v->w.cell? ad=some v) (ZL:∀a v,C a=some v->∀o,C ⟨a.block,o,none⟩=none->w.cell? ⟨a.block,o,none⟩=none) (hf:P.funcs[f]? =some fn) (ji:¬fn.name= "runtime.NumGoroutine") (hb:fn.body=some c)
  (ha:au (λ_=>⟨0,0,0⟩) n0.toNat C args bE) (h:call f args { heap:= .e,next:=n0 }=some (.bool b,aM)):
  Calls P f bE.toArray w λe w'=>e= .returned (.bool b)/\Sc w w':=by
 have hr:=e8 (λ_=>⟨0,0,0⟩) { heap:= .e,next:=n0 } w f args (.bool b) aM bE h (zn hC ZL) ha;have bN:(callFunc f bE.toArray).run P w= .ok (.enter f bE.toArray) w:=by simp[callFunc,hf,ji,hb]
 rw[bN]at hr;refine Calls.mono hr λe w' he=> ?_
 cases e with
 |returned x=>
  obtain⟨ρ',h1,_,_,_,hE⟩:=he;have:=h1.gG;subst this;exact⟨rfl,hE.os,hE.tape,hE.output,hE.size,λk hk=>hE.block k hk λb x hb=>by rw[T.dm]at hb;cases hb⟩
 |panicked c=>exact he.elim
 |outgrown=>exact he.elim
end
section
open Go Go.ChangeShapes Go.WideShapes Go.ChangeAt Go.RowKit
theorem Sc.below{w w':World}(h:Sc w w'):Below w.heap.size w w':=⟨h.1,h.2.1,h.2.2.1,h.2.2.2.1,h.2.2.2.2⟩
section
variable{H:Type}{enc:TypeId×Value->H}{P:Program}
theorem Hv{W W':World}(hl:laidOutB P=true)(hb:Below W.heap.size W W'):∀{ts:List TypeId}{vs:List Value}{ds:List (DataW H)}{p:List MemPlace},
  DataW.TrodAll enc P W 0 (λ_=>true) true ts vs ds p->(∀t∈ts,P.readableRec t=true/\t<P.types.size)->(∀x∈p,x.block<W.heap.size)->
  DataW.TrodAll enc P W' 0 (λb=>decide (b<W.heap.size)) true ts vs ds p
 |[],_,_,_,h,_,_=>by obtain⟨rfl,rfl,rfl⟩:=trodAll_nil h;exact trodAll_mk0
 |t::ts,_,_,_,h,hr,hx=>by
  obtain⟨v,vs1,d,ds1,a,b,rfl,rfl,rfl,h1,h2⟩:=trodAll_cons h
  exact trodAll_cons_mk (Below.trod hl (hr t (by simp)).1 (hr t (by simp)).2 h1 hb (λx VV=>hx x (Zg7 _ VV)))
   (Hv hl hb h2 (λt ht=>hr t (Za7 _ ht)) (λx VV=>hx x (Zi3 _ VV)))
theorem YX{f:Func}{s:ChangeSpec}{W W':World}{args:Array Value}{ds gs:List (DataW H)}{before:List MemPlace}{tb:TypeId}(hl:laidOutB P=true)
   (hW:DataW.Whole enc P f.params.toList s.vars false W args.toList ds gs before) (hv:s.vars=[]) (Ah:s.fn H (ds++gs)={ results:=[.lit (.bool true)],args:=ds })
   (hr:∀t∈f.params.toList,P.readableRec t=true/\t<P.types.size) (hB:Below W.heap.size W W') (abK:f.resultTypes= #[tb]) (htb:P.underlying tb=some .bool):
   s.post enc P f false true false false W args (.bool true) W':=by
 have aN:=hW.lt;have ew:=hW;obtain⟨p,q,hA,hV,rfl,YW,CJ⟩:=hW;have hq:q=[]:=by
   rw[hv]at hV;cases gs with
   |nil=>exact hV
   |cons g gs=>exact hV.elim
 subst hq;refine⟨ds,gs,p++[],[],p,[],ew,?_,?_,?_,hB.frame _,λh=>by cases h⟩
 .rw[Ah,abK];exact trodAll_cons_mk (shut_bool htb _) trodAll_mk0
 .rw[Ah];exact Hv hl hB hA hr (λx hx=>aN x (Zg7 _ hx))
 .rw[Ah,hv];rfl
end
section
variable{H:Type}{enc:TypeId×Value->H}{P:Program}{w:World}{base:Nat}{spare:Nat->Bool}{held:Bool}
theorem MT{t:TypeId}{fs:Array Field}{Q:List AV->Prop}{r:Go.Reach}{b0:Nat}{v:Value}{d:DataW H}{p:List MemPlace}(ho:iU enc P w base spare held t Q)(ht:P.underlying t=some (.struct fs))
  (hval:Value.okWide P w r b0 t v) (hd:DataW.Trod enc P w base spare held t v d p):∃as,Q as/\∀ρ n,aj ρ n (λad=>w.cell? ad) (.agg as) v:=by
 obtain⟨cs,rfl,_⟩:=okWide_struct ht hval;obtain⟨fuel,hf⟩:=hd;obtain⟨as,h1,h2⟩:=ho _ _ _ hf;refine⟨as,h1,λρ n=> ?_⟩;have h3:=h2 ρ n;refine .agg as cs (by rw[h3.1];simp[Value.cells]) λi x x' hx kA=>h3.2 i x x' hx ?_
 simpa [Value.cells]using kA
end
end
section
open Go
theorem aj.afk{ρ:Pos->Loc}{n:Nat}{C C':Cells}{v:AV}{x:Value}(hC:∀ad u,C ad=some u->C' ad=some u)(h:aj ρ n C v x):aj ρ n C' v x:=by
 induction h with
 |bool b=>exact .bool b
 |int k i=>exact .int k i
 |str s bs h=>exact .str s bs h
 |iw=>exact .iw
 |ptr b off h=>exact .ptr b off h
 |fp xs i j es av base cell hl hc _ ih=>exact .fp xs i j es av base cell hl (λi j cs v h1 h2=>hC _ _ (hc i j cs v h1 h2)) ih
 |ah=>exact .ah
 |slice b off len cap es aJ a hl hc ha hk=>exact .slice b off len cap es aJ a hl hc ha hk
 |fl xs es aJ a cell hl hs dc hc _ ih=>exact .fl xs es aJ a cell hl hs dc (λi j cs v h1 h2=>hC _ _ (hc i j cs v h1 h2)) ih
 |nX=>exact .nX
 |map b h=>exact .map b h
 |func f x y x' y' hx hy _ _ Zb Zc=>exact .func f x y x' y' hx hy Zb Zc
 |jk=>exact .jk
 |uG=>exact .uG
 |iface t v x _ ih=>exact .iface t v x ih
 |agg l cs hl _ ih=>exact .agg l cs hl ih
 |tuple l cs hl _ ih=>exact .tuple l cs hl ih
def jx(ρ:Pos->Loc)(n:Nat)(C:Cells)(w:World)(v u:AV):Prop:=∀x,aj ρ n C v x->aj ρ n (λad=>w.cell? ad) u x
section
variable{ρ:Pos->Loc}{C:Cells}{st:St}{w:World}
theorem jx.self{n:Nat}(hC:∀ad u,C ad=some u->w.cell? ad=some u)(v:AV):jx ρ n C w v v:=λ_ h=>h.afk hC
theorem jx.agg{n:Nat}{l l':List AV}(hl:l.length=l'.length)(h:∀(i:Nat)(v u:AV),l[i]? =some v->l'[i]? =some u->jx ρ n C w v u):jx ρ n C w (.agg l) (.agg l'):=λx hx=>by
 cases hx with
 |agg _ cs h1 h2=>
  refine .agg l' cs (by omega) λi u x hu hx=> ?_
  have hi:i<l.length:=by rw[hl];exact(Za0.1 hu).1
  exact h i l[i] u (H4 hi) hu _ (h2 i _ x (H4 hi) hx)
theorem jx.slice(hW:aX ρ C st w){b:Pos}{off len es fz:Nat}{cap:Option Nat}{cs:List AV}(hb:st.heap.get b=some (.cells cs fz))(hlen:off+len*es<=cs.length){F:List (List AV)}(hF:F.length=len)
  (dc:∀(i:Nat)(r:List AV),F[i]? =some r->r.length=es)
  (hr:∀(i j:Nat)(r:List AV)(u v:AV),F[i]? =some r->r[j]? =some u->cs[off+i*es+j]? =some v->jx ρ st.next.toNat C w v u):
  jx ρ st.next.toNat C w (.slice b off len cap es) (.fl F es):=λx hx=>by
 cases hx with
 |slice  _ _ _ _ _ aJ a hl hc ha hk=>
  have get:∀(i j:Nat)(r:List AV)(u:AV),F[i]? =some r->r[j]? =some u->i<len/\j<es/\off+i*es+j<cs.length/\0<aJ:=λi j r u h1 h2=>by
   have g1:i<len:=(by rw[<-hF];exact(Za0.1 h1).1);have g2:j<es:=(by rw[<-dc i r h1];exact(Za0.1 h2).1);have g3:(i+1)*es<=len*es:=Zf9 _ g1;rw[Zh2]at g3;exact⟨g1,g2,by omega,by omega⟩
  have cell:∀(i j:Nat)(r:List AV)(u:AV),F[i]? =some r->r[j]? =some u->∃v y,cs[off+i*es+j]? =some v/\w.cell? ⟨a.block,a.off+i*es+j,none⟩=some y/\aj ρ st.next.toNat C v y:=λi j r u h1 h2=>by
   obtain⟨g1,g2,g3,g4⟩:=get i j r u h1 h2;obtain⟨_,rfl,_⟩:=ha (by omega);have hv:=H4 g3;obtain⟨y,q1,q2⟩:=hW.cell hb hv;exact⟨_,y,hv,by rw[show(ρ b).base+off+i*es+j=(ρ b).base+(off+i*es+j)by omega];exact q1,q2⟩
  have key:aj ρ st.next.toNat (λad=>w.cell? ad) (.fl F es) (.slice (some a) F.length aJ):=by
   refine .fl F es aJ a (λi j=>(w.cell? ⟨a.block,a.off+i*es+j,none⟩).getD .nilFunc) (by omega) (λh0=> ?_) dc (λi j r u h1 h2=> ?_) (λi j r u h1 h2=> ?_)
   .    cases afl:len with
        |zero=>exfalso;apply h0;rw[afl]at hF;exact List.length_eq_zero_iff.1 hF
        |succ m=>
         obtain⟨_,rfl,_⟩:=ha (by omega);rfl
   .    obtain⟨v,y,_,q2,_⟩:=cell i j r u h1 h2;show w.cell? _=_;rw[q2];rfl
   .    obtain⟨v,y,q1,q2,q3⟩:=cell i j r u h1 h2;rw[q2];exact hr i j r u v h1 h2 q1 y q3
  rw[hF]at key;exact key
end
def di (st:St):Nat->AV->AV
 |0,v=>v
 |  d+  1,.slice b off len cap es=>match decide (len=0)with
    |true=>.fl [] es
    |false=>match st.heap.get b with
     |  some (.cells cs _)=>match decide (off+len*es<=cs.length)with
        |true=>.fl ((List.range len).map λi=>((cs.drop (off+i*es)).take es).map (di st d)) es
        |false=>.slice b off len cap es
     |_=>.slice b off len cap es
 |  d+1,.ptr b off=>match st.heap.get b with
    |some (.cells cs _)=>.fp [cs.map (di st d)] 0 off
    |_=>.ptr b off
 |d+1,.agg l=>.agg (l.map (di st d))
 |d+1,.func f x y=>.func f (x.map (di st d)) (y.map (di st d))
 |_,v=>v
theorem Q0(st:St)(d:Nat)(b:Pos)(off len:Nat)(cap:Option Nat)(es:Nat):di st (d+1) (.slice b off len cap es)=match decide (len=0)with
 |true=>.fl [] es
 |false=>match st.heap.get b with
  |     some (.cells cs _)=>match decide (off+len*es<=cs.length)with
        |true=>.fl ((List.range len).map λi=>((cs.drop (off+i*es)).take es).map (di st d)) es
        |false=>.slice b off len cap es
  |_=>.slice b off len cap es:=rfl
theorem adD(st:St)(d:Nat)(b:Pos)(off:Nat):di st (d+1) (.ptr b off)=match st.heap.get b with
 |some (.cells cs _)=>.fp [cs.map (di st d)] 0 off
 |_=>.ptr b off:=rfl
theorem Wt(st:St)(d:Nat)(l:List AV):di st (d+1) (.agg l)= .agg (l.map (di st d)):=rfl
theorem abL(st:St)(d:Nat)(f:FuncId)(x y:List AV):di st (d+1) (.func f x y)= .func f (x.map (di st d)) (y.map (di st d)):=rfl
section
variable{ρ:Pos->Loc}{C:Cells}{st:St}{w:World}
theorem jx.ptr(hW:aX ρ C st w){b:Pos}{off fz:Nat}{cs F:List AV}(hb:st.heap.get b=some (.cells cs fz))(hF:F.length=cs.length)
  (hr:∀(j:Nat)(u v:AV),F[j]? =some u->cs[j]? =some v->jx ρ st.next.toNat C w v u):jx ρ st.next.toNat C w (.ptr b off) (.fp [F] 0 off):=λx hx=>by
 cases hx with
 |ptr   _ _ h=>
  have row:∀(i j:Nat)(r:List AV)(u:AV),[F][i]? =some r->r[j]? =some u->i=0/\∃v y,cs[j]? =some v/\w.cell? ⟨(ρ b).av,(ρ b).base+j,none⟩=some y/\aj ρ st.next.toNat C v y/\F[j]? =some u:=λi j r u h1 h2=>by
   have hi:i=0:=(by have:=(Za0.1 h1).1;simp at this;exact this);subst hi;simp at h1;subst h1;have hj:j<cs.length:=(by rw[<-hF];exact(Za0.1 h2).1);obtain⟨y,q1,q2⟩:=hW.cell hb (H4 hj);exact⟨rfl,_,y,H4 hj,q1,q2,h2⟩
  have key:aj ρ st.next.toNat (λad=>w.cell? ad) (.fp [F] 0 off) (.pointer (some ⟨(ρ b).av,(ρ b).base+0*cs.length+off,none⟩)):=by
   refine .fp [F] 0 off cs.length (ρ b).av (ρ b).base (λ_ j=>(w.cell? ⟨(ρ b).av,(ρ b).base+j,none⟩).getD .nilFunc) (λi r h1=> ?_) (λi j r u h1 h2=> ?_) (λi j r u h1 h2=> ?_)
   .    have hi:i=0:=(by have:=(Za0.1 h1).1;simp at this;exact this);subst hi;simp at h1;subst h1;exact hF
   .    obtain⟨rfl,v,y,_,q2,_⟩:=row i j r u h1 h2;show w.cell? _=_;rw[show(ρ b).base+0*cs.length+j=(ρ b).base+j by omega,q2];rfl
   .    obtain⟨rfl,v,y,q1,q2,q3,q4⟩:=row i j r u h1 h2;rw[q2];exact hr j u v q4 q1 y q3
  rw[show(ρ b).base+0*cs.length+off=(ρ b).base+off by omega]at key;exact key
theorem jx.di (hW:aX ρ C st w):∀(d:Nat)(v:AV),jx ρ st.next.toNat C w v (di st d v)
 |0,v=>jx.self (λad u h=>(hW.dx ad u h).1) v
 |d+    1,v=>   by
  have self:=jx.self (ρ:=ρ) (n:=st.next.toNat) (λad u h=>(hW.dx ad u h).1) v;cases v with
  |slice    b off len cap es=>
   rw[Q0];split
   .    rename_i h0;obtain rfl:=Zg5 h0;intro x hx;cases hx with
        | slice _ _ _ _ _ aJ a hl hc ha hk=>
          exact .fl [] es aJ a (λ_ _=>.nilFunc) (Zh3 _) (λh=>absurd rfl h) (λi c h=>by simp at h) (λi j c v h=>by simp at h) (λi j c v h=>by simp at h)
   split
   .    rename_i cs fz hb;split
        . rename_i hle;have hle:=Zg5 hle;refine jx.slice hW hb hle (by simp) (λi r hi=> ?_) (λi j r u v hi hj hv=> ?_)
          . rw[Zb8]at hi;by_cases h:i<len
            .rw[Zl4 h]at hi;simp only[Ze7,H0]at hi;subst hi;have g3:(i+1)*es<=len*es:=Zf9 _ h;rw[Zh2]at g3;simp;omega
            .rw[Zb4 (by simpa using h)]at hi;cases hi
          . rw[ Zb8]at hi;by_cases h:i<len
            . rw[Zl4 h]at hi;simp only[Ze7,H0]at hi;subst hi;rw[Zb8,Zc0]at hj;split at hj
              .rw[Zc6,hv]at hj;simp only[Ze7,H0]at hj;subst hj;exact jx.di hW d v
              .cases hj
            .rw[Zb4 (by simpa using h)]at hi;cases hi
        .exact self
   .    exact self
  |ptr b off=>
   rw[adD];split
   .    rename_i cs fz hb;refine jx.ptr hW hb (by simp) (λj u v hu hv=> ?_);rw[Zb8,hv]at hu;simp only[Ze7,H0]at hu;subst hu;exact jx.di hW d v
   .    exact self
  |agg l=>
   rw[Wt];refine jx.agg (by simp) (λi v u h1 h2=> ?_);rw[Zb8,h1]at h2;simp only[Ze7,H0]at h2;subst h2;exact jx.di hW d v
  |func f x y=>
   rw[abL];intro v' hv;cases hv with
   |    func _ _ _ x' y' hx hy h1 h2=>
        have one:∀(l:List AV)(xs:Array Value),(∀(i:Nat)(v:AV)(v':Value),l[i]? =some v->xs[i]? =some v'->aj ρ st.next.toNat C v v')->∀(i:Nat)(v:AV)(v':Value),(l.map (Go.Ai.di st d))[i]? =some v->xs[i]? =some v'->aj ρ st.next.toNat (λad=>w.cell? ad) v v':=λl xs h i u v' hu hx=>by
          rw[Zb8]at hu;cases hg:l[i]? with
          |none=>rw[hg]at hu;cases hu
          | some v0=>
            rw[hg]at hu;simp only[Ze7,H0]at hu;subst hu;exact jx.di hW d v0 _ (h i v0 v' hg hx)
        exact .func f _ _ x' y' (by simpa using hx) (by simpa using hy) (one x x' h1) (one y y' h2)
  |_=>exact self
theorem au.di(hW:aX ρ C st w)(d:Nat){l:List AV}{xs:List Value}(h:au ρ st.next.toNat C l xs):au ρ st.next.toNat (λad=>w.cell? ad) (l.map (Go.Ai.di st d)) xs:=
 ⟨by rw[<-h.1];simp,λi u x hu hx=>by
  rw[Zb8]at hu;cases hv:l[i]? with
  |none=>rw[hv]at hu;cases hu
  |  some v=>
     rw[hv]at hu;simp only[Ze7,H0]at hu;subst hu;exact jx.di hW d v _ (h.2 i v x hv hx)⟩
end
def oc(v:AV):Prop:=∀(ρ:Pos->Loc)(n:Nat)(C C':Cells)(x:Value),aj ρ n C v x->aj ρ n C' v x
theorem oc.bool(b:Bool):oc (.bool b):=λ_ _ _ _ _ h=>by cases h;exact .bool b
theorem oc.int(k:IntKind)(i:Int):oc (.int k i):=λ_ _ _ _ _ h=>by cases h;exact .int k i
theorem oc.tuple{l:List AV}(hl:∀v∈l,oc v):oc (.tuple l):=λ_ _ _ _ _ h=>by
 cases h with|tuple _ cs hx h1=>exact .tuple l cs hx λi v x hv hx=>hl v (Zb6 hv) _ _ _ _ _ (h1 i v x hv hx)
def NS:AB->Prop
 |.cells cs _=>∀v∈cs,oc v
 |.map es _=>∀e∈es,oc e.1/\oc e.2.1
 |.jq _ _=>True
 |.typed _ cs=>∀v∈cs,oc v
theorem NS.rel{x:AB}(h:NS x){ρ:Pos->Loc}{n:Nat}{C C':Cells}{L:Loc}{w:World}(k:lU ρ n C L w x):lU ρ n C' L w x:=by
 cases x with
 |cells cs fz=>
  obtain⟨c,e,fr,h1,h2,h3,h4,h5⟩:=k;exact⟨c,e,fr,h1,h2,h3,⟨h4.1,λi v x hv hx=>h v (Zb6 hv) _ _ _ _ _ (h4.2 i v x hv hx)⟩,h5⟩
 |map es clock=>
  obtain⟨es',h1,h2,h3⟩:=k;exact⟨es',h1,h2,λi e e' he ku=>let⟨a,b,c⟩:=h3 i e e' he ku;⟨(h e (Zb6 he)).1 _ _ _ _ _ a,(h e (Zb6 he)).2 _ _ _ _ _ b,c⟩⟩
 |jq s pos=>exact k
 |typed t cs=>
  obtain⟨c,fr,h1,h2,h3,h4,h5⟩:=k;exact⟨c,fr,h1,h2,h3,⟨h4.1,λi v x hv hx=>h v (Zb6 hv) _ _ _ _ _ (h4.2 i v x hv hx)⟩,h5⟩
def T.both{α:Type}:T α->T α->T α
 |t,.e=>t
 |.e,t=>t
 |.n l v r,.n l' v' r'=>.n (T.both l l') (v.or v') (T.both r r')
theorem T.aaa{α:Type}(t:T α):T.both t .e=t:=by cases t<;>rfl
theorem T.Mh{α:Type}:∀(p:Pos)(t t':T α),(T.both t t').get p=(t.get p).or (t'.get p)
 |p,t,.e=>by rw[T.aaa,T.dm];simp
 |p,.e,.n l v r=>by rw[T.dm];rfl
 |.h,.n l v r,.n l' v' r'=>rfl
 |.o p,.n l v r,.n l' v' r'=>T.Mh p l l'
 |.i p,.n l v r,.n l' v' r'=>T.Mh p r r'
def T.keep{α:Type}(P:α->Bool):T α->T α
 |.e=>.e
 |.n l v r=>.n (T.keep P l) (v.filter P) (T.keep P r)
theorem T.Mi{α:Type}(P:α->Bool):∀(p:Pos)(t:T α),(T.keep P t).get p=(t.get p).filter P
 |p,.e=>by rw[T.keep,T.dm];rfl
 |.h,.n l v r=>rfl
 |.o p,.n l v r=>T.Mi P p l
 |.i p,.n l v r=>T.Mi P p r
open Classical in
noncomputable def Kf(t:T AB):T AB:=T.keep (λx=>decide (NS x)) t
theorem aab{t:T AB}{p:Pos}{x:AB}(h:(Kf t).get p=some x):t.get p=some x/\NS x:=by
 unfold Kf at h;rw[T.Mi]at h;cases hg:t.get p with
 |none=>rw[hg]at h;cases h
 |some y=>
  rw[hg]at h;simp only[Option.filter]at h;split at h
  .rename_i hb;cases h;exact⟨rfl,@Zg5 _ (Classical.propDecidable _) hb⟩
  .cases h
theorem adE:Kf .e= .e:=rfl
def Shut(n0:Pos)(r:AV×St):Prop:=oc r.1/\n0.toNat<=r.2.next.toNat
open Classical in
noncomputable def I1(call:ai)(f:FuncId)(d:Nat):List AV->St->Option (AV×St):=λargs st=>
 match call f (args.map (di st d)) { heap:= .e,next:=st.next }with
 |some (v,aM)=>if Shut st.next (v,aM)then some (v,{ heap:=T.both st.heap (Kf aM.heap),next:=aM.next })else none
 |none=>none
theorem adF{call:ai}{f:FuncId}{d:Nat}{args:List AV}{st:St}{v:AV}{aM:St}(h:call f (args.map (di st d)) { heap:= .e,next:=st.next }=some (v,aM))(hs:Shut st.next (v,aM)):
  I1 call f d args st=some (v,{ heap:=T.both st.heap (Kf aM.heap),next:=aM.next }):=by
 unfold I1;rw[h];simp only;rw[Za6 hs]
theorem abM{call:ai}{f:FuncId}{d:Nat}{args:List AV}{st:St}{v:AV}(h:call f (args.map (di st d)) { heap:= .e,next:=st.next }=some (v,{ heap:= .e,next:=st.next }))(hs:oc v):
  I1 call f d args st=some (v,st):=by
 rw[adF h ⟨hs,Za5 _⟩];simp only[adE,T.aaa]
theorem aaY {P:Program}{C:Cells}{f:FuncId}{call:ai}{d:Nat}(bH:∀C':Cells,(∀ad u,C ad=some u->C' ad=some u)->eV P C' call):mE P C f (I1 call f d) where
 mono args st v st' h:=by
  unfold I1 at h;split at h
  . split at h
    .   rename_i hs;simp only[H0,Zb3]at h;rw[<-h.2];exact hs.2
    .   cases h
  .cases h
 runs ρ st  w args v st' bE h hW hv:=by
  unfold I1 at h;split at h
  . rename_i v1 aM hc;split at h
    .   rename_i hs;simp only[H0,Zb3]at h;obtain⟨rfl,rfl⟩:=h;obtain⟨s1,s3⟩:=hs;have hr:=bH (λad=>w.cell? ad) (λad u ha=>(hW.dx ad u ha).1) ρ { heap:= .e,next:=st.next } w f _ v1 aM bE hc (zn (λad u ha=>ha) λa u _ o ho=>ho) (au.di hW d hv);refine Reaches.mono (λx w' he=> ?_) hr
        . obtain⟨ρ',h1,h2,h3,h4,hE⟩:=he;have un:∀k,k<w.heap.size->w'.heap[k]? =w.heap[k]? :=λk hk=>hE.block k hk λb x hb=>by rw[T.dm]at hb;cases hb
          have new:∀b x,aM.heap.get b=some x->w.heap.size<=(ρ' b).av:=λb x hx=>by
            rcases hE.nr b x hx with⟨b',x',iX,_⟩|hh
            .rw[T.dm]at iX;cases iX
            .exact hh
          have both:∀b x,(T.both st.heap (Kf aM.heap)).get b=some x->(st.heap.get b=some x/\ρ' b=ρ b)\/(aM.heap.get b=some x/\NS x):=λb x hx=>by
            rw[T.Mh]at hx;cases hg:st.heap.get b with
            |none=>rw[hg]at hx;exact .inr (aab (by simpa using hx))
            |some y=>rw[hg]at hx;simp at hx;subst hx;exact .inl ⟨rfl,h2 b (hW.live b y hg).1⟩
          refine⟨ρ',s1 _ _ _ _ _ h1,h2,s3,⟨λb x hx=> ?_,λb b' x x' hx kA KS=> ?_,λa u ha=> ?_,λa u ha o ho=> ?_⟩,⟨hE.os,hE.tape,hE.output,hE.size,λk hk _=>un k hk,λb x hx=> ?_⟩⟩
          . rcases both b x hx with⟨hg,aT⟩|⟨hg,Sd⟩
            .obtain⟨l1,l2,l3⟩:=hW.live b x hg;refine⟨Zc7 l1 s3,by rw[aT];exact Zc7 l2 hE.size,?_⟩;rw[aT];exact(l3.of_heap (un _ l2)).mono h2 s3
            .obtain⟨l1,l2,l3⟩:=h4.live b x hg;exact⟨l1,l2,Sd.rel l3⟩
          . rcases both b x hx with⟨hg,aT⟩|⟨hg,Sd⟩
            . rcases both b' x' kA with⟨Ir,yA⟩|⟨Ir,_⟩
              .rw[aT,yA]at KS;exact hW.inj b b' x x' hg Ir KS
              .have q1:=(hW.live b x hg).2.1;have q2:=new b' x' Ir;rw[aT]at KS;omega
            . rcases both b' x' kA with⟨Ir,yA⟩|⟨Ir,_⟩
              .have q1:=(hW.live b' x' Ir).2.1;have q2:=new b x hg;rw[yA]at KS;omega
              .exact h4.inj b b' x x' hg Ir KS
          . obtain⟨c1,c2⟩:=hW.dx a u ha;have aN:a.block<w.heap.size:=World.block_lt_of_cell? _ _ c1;refine⟨(h4.dx a u c1).1,λb x hx=> ?_⟩;rcases both b x hx with⟨hg,aT⟩|⟨hg,Sd⟩
            .rw[aT];exact c2 b x hg
            .have:=new b x hg;omega
          .have aN:a.block<w.heap.size:=World.block_lt_of_cell? _ _ (hW.dx a u ha).1;rw[World.cell?_of_block (w:=w) (a:=⟨a.block,o,none⟩) (un _ aN)];exact hW.whole a u ha o ho
          . rcases both b x hx with⟨hg,aT⟩|⟨hg,Sd⟩
            .exact .inl ⟨b,x,hg,by rw[aT]⟩
            .exact .inr (new b x hg)
    .   cases h
  .cases h
theorem Pj(H:Pos->Option AB)(n:Pos)(k k':IntKind)(a b:Int):ay.run H n .minB [.int k a,.int k' b]=some (.val (.int k (min a b))):=by
 show some (b6.val (.int k (match yU b a with|true=>b|false=>a)))=_;rw[dK];by_cases h:b<a
 .rw[H5 h];simp only;rw[Int.min_eq_right (by omega)]
 .rw[Za1 h];simp only;rw[Int.min_eq_left (by omega)]
theorem adG(H:Pos->Option AB)(n:Pos)(q:ey)(k:IntKind)(a b:Int)(hb:b≠0):ay.run H n (.bin .quo q) [.int k a,.int k b]=some (.val (.int k (aq k (a.tdiv b)))):=by
 simp[ay.run,gF,lR,cC,jK,hb]
theorem adH(H:Pos->Option AB)(n:Pos)(q:ey)(k:IntKind)(a b:Int)(hb:b≠0):ay.run H n (.bin .rem q) [.int k a,.int k b]=some (.val (.int k (a.tmod b))):=by
 simp[ay.run,gF,lR,cC,jK,hb]
section
variable{R:Type}(c:ai)(K:AV->St->Option R)(st:St)
@[simp] theorem Wu(k k':IntKind)(a b:Int):ak c .minB [.int k a,.int k' b] st K=K (.int k (min a b)) st:=aW c K (λH n=>Pj H n k k' a b) st
theorem adI(q:ey)(k:IntKind)(a b:Int)(hb:b≠0):ak c (.bin .quo q) [.int k a,.int k b] st K=K (.int k (aq k (a.tdiv b))) st:=aW c K (λH n=>adG H n q k a b hb) st
theorem Wv(q:ey)(k:IntKind)(a b:Int)(hb:b≠0):ak c (.bin .rem q) [.int k a,.int k b] st K=K (.int k (a.tmod b)) st:=aW c K (λH n=>adH H n q k a b hb) st
@[simp] theorem kq(q:ey)(k:IntKind)(a:Int):ak c (.bin .quo q) [.int k a,.int k 2] st K=K (.int k (aq k (a.tdiv 2))) st:=adI c K st q k a 2 (by decide)
@[simp] theorem eX(q:ey)(k:IntKind)(a:Int):ak c (.bin .rem q) [.int k a,.int k 2] st K=K (.int k (a.tmod 2)) st:=Wv c K st q k a 2 (by decide)
end
def bg:AV->Option Pos
 |.slice b _ n cap _=>if cap=some 0/\n=0 then none else some b
 |_=>none
theorem Q1{b b':Pos}{off n es:Nat}{cap:Option Nat}(h:bg (.slice b off n cap es)=some b'):b=b':=by
 simp only[bg]at h;split at h
 .cases h
 .exact Zf5 h
theorem oM(b:Pos)(off n es:Nat):bg (.slice b off n none es)=some b:=by simp[bg]
theorem jQ(b:Pos)(off es:Nat):bg (.slice b off 0 (some 0) es)=none:=by simp[bg]
def QS(es:Nat)(s:St)(v:AV)(rows:List (List AV)):Prop:=
 (v= .ah/\rows=[])\/(∃b off cap cs,v= .slice b off rows.length cap es/\s.heap.get b=some (.cells cs 0)/\off+rows.length*es<=cs.length/\(cs.drop off).take (rows.length*es)=rows.flatten/\(cap=none\/cap=some rows.length))\/
    (∃b off,v= .slice b off 0 (some 0) es/\rows=[])
theorem QS.nil{es:Nat}{s:St}:QS es s .ah []:= .inl ⟨rfl,rfl⟩
theorem QS.mono{es:Nat}{s s':St}{v:AV}{rows:List (List AV)}(h:QS es s v rows)(hk:∀b x,bg v=some b->s.heap.get b=some x->s'.heap.get b=some x):QS es s' v rows:=by
 rcases h with⟨rfl,rfl⟩|⟨b,off,cap,cs,rfl,h1,h2,h3,h4⟩|⟨b,off,rfl,rfl⟩
 .exact .inl ⟨rfl,rfl⟩
 . by_cases h0:cap=some 0/\rows.length=0
   .obtain⟨rfl,h0⟩:=h0;refine .inr (.inr ⟨b,off,by rw[h0],Zb1 h0⟩)
   .exact .inr (.inl ⟨b,off,cap,cs,rfl,hk b _ (by simp only[bg];rw[Za3 h0]) h1,h2,h3,h4⟩)
 .exact .inr (.inr ⟨b,off,rfl,rfl⟩)
theorem QS.len{es:Nat}{s:St}{v:AV}{rows:List (List AV)}(h:QS es s v rows):cZ v=some rows.length:=by rcases h with⟨rfl,rfl⟩|⟨b,off,cap,cs,rfl,_⟩|⟨b,off,rfl,rfl⟩<;>rfl
theorem QS.lt{es:Nat}{s:St}{v:AV}{rows:List (List AV)}(h:QS es s v rows)(hw:Wf s){b:Pos}(hb:bg v=some b):b.toNat<s.next.toNat:=by
 rcases h with⟨rfl,rfl⟩|⟨b',off,cap,cs,rfl,h1,_⟩|⟨b',off,rfl,rfl⟩
 .cases hb
 .obtain rfl:=Q1 hb;exact hw _ _ h1
 .rw[jQ]at hb;cases hb
theorem QS.first{es:Nat}{s:St}{v:AV}{rows:List (List AV)}(h:QS es s v rows)(hr:∀r∈rows,r.length=es):cg es rows.length (λb=>s.heap.get b) v=some rows.flatten:=by
 rcases h with⟨rfl,rfl⟩|⟨b,off,cap,cs,rfl,h1,h2,h3,h4⟩|⟨b,off,rfl,rfl⟩
 .rfl
 rotate_left
 .simp[cg,eH]
 . by_cases h0:rows.length*es=0
   .simp only[cg,eH,H5 h0];have:rows.flatten=[]:=(by rw[<-h3,h0];simp);rw[this]
   .simp only[cg,eH,Za1 h0,h1];unfold cut;rw[ff,H5 h2];simp only;rw[h3]
theorem QS.app{R:Type}{c:ai}{es bytes:Nat}{s:St}{v:AV}{rows:List (List AV)}(hw:Wf s)(h:QS es s v rows)(hr:∀r∈rows,r.length=es){q:Pos}{row:List AV}(hq:s.heap.get q=some (.cells row 0))(DA:row.length=es)(h1:aS row=true)
   (dc:es≠0) (hb:(2*(rows.length+1)+768)*bytes<=281474976710656) (hn:rows.length<=4000000):
   ∃ s5,(∀(K:AV->St->Option R),ak c (.append es bytes) [v,.slice q 0 1 (some 1) es] s K=K (.slice s.next 0 (rows.length+1) none es) s5)/\QS es s5 (.slice s.next 0 (rows.length+1) none es) (rows++[row])/\
     Wf s5/\s5.next=s.next.succ/\(∀p,bg v≠some p->p.toNat<s.next.toNat->s5.heap.get p=s.heap.get p)/\s5.heap.get s.next=some (.cells (rows.flatten++row) 0):=by
 have hx:cg es 1 (λb=>s.heap.get b) (.slice q 0 1 (some 1) es)=some row:=by simp only[cg,eH,Zn5,Za1 dc,hq];exact bV DA
 have ho:=h.first hr;have hlen:rows.flatten.length=rows.length*es:=by
   clear h ho hn hb;induction rows with
   |nil=>simp
   | cons r rows ih=>
     have:=ih (λx hx=>hr x (Za7 _ hx));have h2:=hr r (by simp);simp only[Zf6,Zd2,Ze2,Zh2];omega
 have new:∀(s5:St),s5.heap.get s.next=some (.cells (rows.flatten++row) 0)->QS es s5 (.slice s.next 0 (rows.length+1) none es) (rows++[row]):=λs5 hs=>by
   refine .inr (.inl ⟨s.next,0,none,rows.flatten++row,by simp,hs,?_,?_,.inl rfl⟩)
   .simp only[Zd2,Ze2,Zn7,Zc4,Zi5,Zn5,hlen,DA];omega
   .simp only[Ze0,List.flatten_append,Zf6,List.flatten_nil,Zf3];refine Zg2 ?_;simp only[Zd2,Ze2,Zn7,Zc4,Zi5,Zn5,hlen,DA];omega
 have Hr:(2*(rows.length+1)+768)*bytes<=281474976710656:=hb;have zu:rows.length+1<=9223372036854775807:=by omega
 rcases h with⟨rfl,rfl⟩|⟨b,off,cap,cs,rfl,g1,g2,g3,g4⟩|⟨b,off,rfl,rfl⟩
 rotate_right
 . have run:ay.run (λb=>s.heap.get b) s.next (.append es bytes) [.slice b off 0 (some 0) es,.slice q 0 1 (some 1) es]=some (.aE (.slice s.next 0 (0+1) none es) none none (some (.cells ([]++row) 0))):=(by have h2:¬(0+1<=0):=(by omega);have Bt:cg es 0 (λb=>s.heap.get b) (.slice b off 0 (some 0) es)=some []:=(by simp[cg,eH]);simp only[ay.run,fN];rw[show cZ (.slice b off 0 (some 0) es)=some 0 from rfl,show cZ (.slice q 0 1 (some 1) es)=some 1 from rfl];have hb3:(2*(0+1)+768)*bytes<=281474976710656:=(by simpa using hb);simp only[ff,eH,H5 hb3,Za1 h2,hx,Bt];simp);refine⟨af s (.cells row 0),λK=> ?_,?_,bL hw,rfl,λp _ hp=>qo hp,by simpa using aD s (.cells row 0)⟩
   .unfold ak bF;simp only[Zn7]at run ⊢; rw[run];rfl
   .simpa using new (af s (.cells row 0)) (by simpa using aD s (.cells row 0))
 .refine⟨af s (.cells row 0),λK=>TG c K (m:=1) rfl (by omega) (by simpa using hb) (by omega) hx,?_,bL hw,rfl,λp _ hp=>qo hp,by simpa using aD s (.cells row 0)⟩;simpa using new (af s (.cells row 0)) (by simpa using aD s (.cells row 0))
 . rcases g4 with rfl|rfl
   .have run:ay.run (λb=>s.heap.get b) s.next (.append es bytes) [.slice b off rows.length none es,.slice q 0 1 (some 1) es]=some (.aE (.slice s.next 0 (rows.length+1) none es) (some b) none (some (.cells (rows.flatten++row) (0 - off)))):=(by simp only[ay.run,fN];rw[show cZ (.slice b off rows.length none es)=some rows.length from rfl,show cZ (.slice q 0 1 (some 1) es)=some 1 from rfl];simp only[ff,eH,H5 Hr,H5 zu,hx,g1,ho,h1];simp);refine⟨dst s b (.cells (rows.flatten++row) 0),λK=> ?_,new _ (Pg _ _ _),Z4 hw,rfl,λp hp hl=>NO (λe=>hp (by rw[e,oM])) hl,Pg _ _ _⟩;unfold ak bF;rw[run];simp only[Nat.zero_sub];rfl
   . have h2:¬(rows.length+1<=rows.length):=(by omega);have run:ay.run (λb=>s.heap.get b) s.next (.append es bytes) [.slice b off rows.length (some rows.length) es,.slice q 0 1 (some 1) es]=some (.aE (.slice s.next 0 (rows.length+1) none es) none none (some (.cells (rows.flatten++row) 0))):=by
        simp only[ay.run,fN];rw[show cZ (.slice b off rows.length (some rows.length) es)=some rows.length from rfl,show cZ (.slice q 0 1 (some 1) es)=some 1 from rfl];simp only[ff,eH,H5 Hr,H5 zu,Za1 h2,hx,ho]
     refine⟨af s (.cells (rows.flatten++row) 0),λK=> ?_,new _ (aD _ _),bL hw,rfl,λp _ hp=>qo hp,aD _ _⟩;unfold ak bF;rw[run];rfl
theorem Ww{R:Type}{c:ai}{es:Nat}{z:List AV}{x:AV}(hz:z.length=es)(hx:x.cells.length=es)(s:St)(K:AV->St->Option R):
  ak c (.buildSlice es 1 z [0]) [x] s K=K (.slice s.next 0 1 (some 1) es) (af s (.cells x.cells 0)):=by
 have:bY (bK z 1) ([0].map λi=>(i*es,es)) [x]=some x.cells:=by
  simp only[Zd5,Zh9,Zp5,bK,Zf3,bY,eH,ff,hx,Zl0,Zc4,hz,Za5];simp only[aH,List.take_zero,Zg9,Zc4];rw[List.drop_of_length_le (by omega),Zf3]
 rw[aO,this];rfl
structure Mk(es:Nat)(s0 s:St)(v:AV)(rows:List (List AV)):Prop where
 od:Wf s0
 ax:Grew s0 s
 own:QS es s v rows
 new:∀b,bg v=some b->s0.next.toNat<=b.toNat
 row:∀r∈rows,r.length=es
 cap:∀b off n cp e,v= .slice b off n cp e->cp=none\/(n=0/\cp=some 0)
 tight:∀b,bg v=some b->s.heap.get b=some (.cells rows.flatten 0)
theorem Mk.start{es:Nat}{s0 s:St}(h0:Wf s0)(hg:Grew s0 s):Mk es s0 s .ah []:=⟨h0,hg,QS.nil,λb h=>(by cases h),λr h=>(by cases h),λb off n cp e h=>(by cases h),λb h=>(by cases h)⟩
theorem Mk.grow{es:Nat}{s0 s s':St}{v:AV}{rows:List (List AV)}(h:Mk es s0 s v rows)(hg:Grew s s'):Mk es s0 s' v rows:=
 ⟨h.od,h.ax.trans hg,h.own.mono λb x _ hx=>hg.get hx,h.new,h.row,h.cap,λb hb=>hg.get (h.tight b hb)⟩
theorem Mk.push{R:Type}{c:ai}{es bytes:Nat}{s0 s:St}{v:AV}{rows:List (List AV)}(h:Mk es s0 s v rows){z:List AV}{x:AV}(hz:z.length=es)(hx:x.cells.length=es)(h1:aS x.cells=true)(dc:es≠0)
   (hb:(2*(rows.length+1)+768)*bytes<=281474976710656) (hn:rows.length<=4000000):
   ∃ s5 v',(∀(K:AV->St->Option R),ak c (.buildSlice es 1 z [0]) [x] s (λy t=>ak c (.append es bytes) [v,y] t K)=K v' s5)/\Mk es s0 s5 v' (rows++[x.cells])/\
     (∀p b,bg v≠some p->s.heap.get p=some b->s5.heap.get p=some b)/\∀b,bg v'=some b->s.next.toNat<=b.toNat:=by
 have hw:=h.ax.wf;have cX:Wf (af s (.cells x.cells 0)):=bL hw;have g1:=Grew.af hw (.cells x.cells 0);obtain⟨s5,a1,a2,a3,a4,a5,a6⟩:=QS.app (R:=R) (c:=c) (bytes:=bytes) cX (h.own.mono λb x _ hx=>g1.get hx) h.row (aD s (.cells x.cells 0)) hx h1 dc hb hn;have keep:∀p b,bg v≠some p->s.heap.get p=some b->s5.heap.get p=some b:=λp b hp hg=>by have aN:=hw _ _ hg;rw[a5 p hp (by rw[dz,Pos.aB];omega)];exact g1.get hg
 refine⟨s5,_,λK=> ?_,⟨h.od,⟨a3,λp b hg=> ?_,?_⟩,a2,λb hb=> ?_,λr hr=> ?_,λb off n cp e he=> ?_,λb hb=> ?_⟩,keep,λb hb=> ?_⟩
 .rw[Ww hz hx,a1]
 .have zw:=h.ax.get hg;refine keep p b (λe=> ?_) zw;have:=h.new p e;have:=h.od p b hg;omega
 .have:=h.ax.next;rw[a4,dz,Pos.aB,Pos.aB];omega
 .rw[oM]at hb;cases hb;have:=h.ax.next;rw[dz,Pos.aB];omega
 . rcases Zd6.1 hr with hr|hr
   .exact h.row r hr
   .simp at hr;subst hr;exact hx
 .cases he;exact .inl rfl
 .rw[oM]at hb;cases hb;rw[a6];simp
 .rw[oM]at hb;cases hb;rw[dz,Pos.aB];omega
theorem mY{b:Pos}{off n es:Nat}(h:Plain (.slice b off n none es)):False:=by
 have h1:aj (λ_=>⟨0,0,off+n*es⟩) (b.toNat+1) (λ_=>none) (.slice b off n none es) (.slice (some ⟨0,0+off,none⟩) n n):=
  .slice b off n none es n _ (Za5 _) (λc hc=>by cases hc) (λ_=>⟨by omega,rfl,by simp⟩) (λ_=>by omega)
 have h2:=h _ (λ_=>⟨0,0,0⟩) _ 0 _ _ h1;cases h2 with
 |slice _ _ _ _ _ _ _ _ _ _ hk=>exact absurd (hk rfl) (by omega)
theorem Mk.tidy{es:Nat}{s s':St}{v:AV}{rows:List (List AV)}(h:Mk es s s' v rows):∃ij,Go.Ai.tidy s (v,s')=(v,ij)/\Mk es s ij v rows:=by
 unfold Go.Ai.tidy;by_cases hp:Plain (v,s').1/\bu s (v,s').2
 . rw[Za6 hp];refine⟨s,rfl,?_⟩;rcases h.own with⟨rfl,rfl⟩|⟨b,off,cap,cs,rfl,_⟩|⟨b,off,rfl,rfl⟩
   .exact Mk.start h.od (Grew.refl h.od)
   . rcases h.cap _ _ _ _ _ rfl with rfl|⟨h0,rfl⟩
     .exact(mY hp.1).elim
     .exact⟨h.od,Grew.refl h.od,.inr (.inr ⟨b,off,by rw[h0],Zb1 h0⟩),λb hb=>(by rw[h0,jQ]at hb;cases hb),h.row,h.cap,λb hb=>(by rw[h0,jQ]at hb;cases hb)⟩
   .exact⟨h.od,Grew.refl h.od,.inr (.inr ⟨b,off,rfl,rfl⟩),λb hb=>(by rw[jQ]at hb;cases hb),h.row,h.cap,λb hb=>(by rw[jQ]at hb;cases hb)⟩
 .rw[Za3 hp];exact⟨s',rfl,h⟩
theorem QS.di{es d:Nat}{s:St}{v:AV}{rows:List (List AV)}(h:QS es s v rows)(hr:∀r∈rows,r.length=es):
   ∃z,Go.Ai.di s (d+1) v=ro es z (rows.map λr=>r.map (Go.Ai.di s d)):=by
 rcases h with⟨rfl,rfl⟩|⟨b,off,cap,cs,rfl,h1,h2,h3,h4⟩|⟨b,off,rfl,rfl⟩
 .exact⟨true,rfl⟩
 rotate_left
 .exact⟨false,rfl⟩
 . refine⟨false,?_⟩;by_cases h0:rows.length=0
   .obtain rfl:=Zb1 h0;rfl
   rw[Q0,Za1 h0];simp only;rw[h1];simp only[H5 h2];show AV.fl _ _=AV.fl _ _;congr 1;(refine List.ext_getElem (by simp) λi p1 p2=> ?_);simp only[Za9,Zp2]at p1;simp only[Zl2,List.getElem_range];congr 1;have key:∀(rows:List (List AV))(i:Nat)(hi:i<rows.length),(∀r∈rows,r.length=es)->((rows.flatten).drop (i*es)).take es=rows[i]:=by
     intro rows;induction rows with
     |nil=>intro i hi;simp at hi
     |  cons r rows ih=>
        intro i hi hr;have hl:=hr r (by simp);cases i with
        |zero=>simp[<-hl]
        |succ i=>
         have:=ih i (by simpa using hi) (λx hx=>hr x (Za7 _ hx));rw[Zf6,Zh2,Nat.add_comm, <-hl,List.drop_append];simp only[Zm2];rw[<-this,hl];simp[List.drop_eq_nil_of_le (show r.length<=es+i*es by omega)]
   rw[<-key rows i p1 hr, <-h3];rw[List.drop_take,Zo6,Zo7];congr 1;have:(i+1)*es<=rows.length*es:=Zf9 _ p1;rw[Zh2]at this;omega
section
variable{R:Type}(c:ai)(K:AV->St->Option R)(st:St)
theorem uM{b:Pos}{off len es es':Nat}{cap:Option Nat}{k:IntKind}{i:Nat}(h:i<len):ak c (.idxA es none) [.slice b off len cap es',.int k (i:Int)] st K=K (.ptr b (off+i*es)) st:=
 aW c K (λH n=>by
  simp only[ay.run,mK,iE];have:Nat.blt i len=true:=by rw[Zo8];exact h
  rw[this]) st
theorem BG(b:Pos)(off len es:Nat)(cap:Option Nat):ak c (.lenB .l) [.slice b off len cap es] st K=K (.int .i64 (len:Int)) st:=aW c K (λH n=>rfl) st
theorem Pk{es bytes:Nat}{z:List AV}{k k':IntKind}{n:Nat}(h1:bytes*n<=281474976710656)(h2:n<=9223372036854775807):
  ak c (.mkSlice es bytes z) [.int k (n:Int),.int k' (n:Int)] st K=K (.slice st.next 0 n (some n) es) (af st (.cells (bK z n) 0)):=by
 have:ay.run (λb=>st.heap.get b) st.next (.mkSlice es bytes z) [.int k (n:Int),.int k' (n:Int)]=some (.aE (.slice st.next 0 n (some n) es) none none (some (.cells (bK z n) 0))):=by
  simp only[ay.run,vO,iE,ff,H5 h1,H5 h2,Za5,Zl0]
 unfold ak bF;rw[this];rfl
end
theorem AY{α:Type}(x:α):∀n:Nat,bK [x] n=List.replicate n x
 |0=>rfl
 |n+1=>by simp[bK,AY x n,List.replicate_succ]
theorem yF{rows:List (List AV)}{es:Nat}(hr:∀r∈rows,r.length=es):∀(i j:Nat)(r:List AV)(u:AV),rows[i]? =some r->r[j]? =some u->rows.flatten[i*es+j]? =some u:=by
 induction rows with
 |nil=>intro i j r u h;simp at h
 |cons r0 rows ih=>
  intro i j r u h1 h2;have hl:=hr r0 (by simp);cases i with
  |zero=>
   simp at h1;subst h1;have:=(Za0.1 h2).1;rw[Zf6,Zp5,Zc4,Zc1 this];exact h2
  |succ i=>
   rw[Zf6,Zc2 (by rw[Zh2];omega)];rw[show(i+1)*es+j - r0.length=i*es+j by rw[Zh2];omega];exact ih (λx hx=>hr x (Za7 _ hx)) i j r u (by simpa using h1) h2
theorem QS.lenB{R:Type}{c:ai}{es:Nat}{s:St}{v:AV}{rows:List (List AV)}(h:QS es s v rows)(K:AV->St->Option R)(s1:St):ak c (.lenB .l) [v] s1 K=K (.int .i64 (rows.length:Int)) s1:=by
 rcases h with⟨rfl,rfl⟩|⟨b,off,cap,cs,rfl,_⟩|⟨b,off,rfl,rfl⟩
 .exact aW c K (λH n=>rfl) s1
 .exact BG c K s1 _ _ _ _ _
 .exact BG c K s1 _ _ _ _ _
def ia(v:AV):Prop:=∃N0 K0:Nat,∀N K:Nat,N0<=N->K0<=K->∃x,aj (λ_=>⟨0,0,K⟩) N (λ_=>none) v x
theorem ia.int(k:IntKind)(i:Int):ia (.int k i):=⟨0,0,λ_ _ _ _=>⟨_,.int k i⟩⟩
theorem ia.bool(b:Bool):ia (.bool b):=⟨0,0,λ_ _ _ _=>⟨_,.bool b⟩⟩
theorem ia.ah:ia .ah:=⟨0,0,λ_ _ _ _=>⟨_,.ah⟩⟩
theorem ia.str{s:List Nat}(h:∀x∈s,x<256):ia (.str s):=⟨0,0,λ_ _ _ _=>⟨.string ⟨(s.map UInt8.ofNat).toArray⟩,.str s _ (by
 show(s.map UInt8.ofNat).toArray.toList.map UInt8.toNat=s;simp only[Zg1]
 conv=>rhs;rw[<-List.map_id s]
 refine Zi8 λc hc=> ?_
 have:=h c hc;simp[UInt8.toNat_ofNat];omega)⟩⟩
theorem ia.slice(b:Pos)(off n es:Nat):ia (.slice b off n none es):=⟨b.toNat+1,off+n*es,λN K hN hK=>⟨.slice (some ⟨0,0+off,none⟩) n n,
 .slice b off n none es n _ (Za5 _) (λc hc=>by cases hc) (λ_=>⟨by omega,rfl,by simpa using hK⟩) (λ_=>by omega)⟩⟩
theorem ia.zero(b:Pos)(off es:Nat):ia (.slice b off 0 (some 0) es):=⟨0,0,λN K _ _=>⟨.slice (some ⟨0,0,none⟩) 0 0,
 .slice b off 0 (some 0) es 0 _ (Za5 _) (λc hc=>by cases hc;rfl) (λh=>absurd rfl h) (λh=>by cases h)⟩⟩
theorem inst_list:∀{l:List AV},(∀v∈l,ia v)->∃N0 K0:Nat,∀N K:Nat,N0<=N->K0<=K->∃xs,au (λ_=>⟨0,0,K⟩) N (λ_=>none) l xs
 |[],_=>⟨0,0,λ_ _ _ _=>⟨[],au.nil⟩⟩
 |v::l,h=>by
  obtain⟨N1,K1,h1⟩:=h v (by simp);obtain⟨N2,K2,h2⟩:=inst_list (λu hu=>h u (Za7 _ hu));refine⟨max N1 N2,max K1 K2,λN K hN hK=> ?_⟩;obtain⟨x,hx⟩:=h1 N K (by omega) (by omega);obtain⟨xs,gJ⟩:=h2 N K (by omega) (by omega);exact⟨x::xs,au.cons hx gJ⟩
theorem Hw{l:List AV}(hi:∀v∈l,ia v){b:Pos}{off n es:Nat}(hm:AV.slice b off n none es∈l):¬Plain (.agg l):=λh=>by
 obtain⟨N0,K0,h1⟩:=inst_list hi;obtain⟨xs,hx⟩:=h1 N0 K0 (Za5 _) (Za5 _);have h2:aj (λ_=>⟨0,0,K0⟩) N0 (λ_=>none) (.agg l) (.agg xs.toArray):= .agg l _ (by rw[hx.1];simp) λi v x hv kA=>hx.2 i v x hv (by simpa using kA)
 have h3:=h _ (λ_=>⟨0,0,0⟩) _ 0 _ _ h2;obtain⟨i,aN,hi⟩:=Zk8.1 hm;cases h3 with
 |agg _ _ hl hc=>
  have abN:i<xs.toArray.size:=by rw[<-hl];exact aN
  obtain⟨y,hy⟩:∃y,xs.toArray[i]? =some y:=⟨_,Zf1 abN⟩
  have:=hc i _ y (by rw[H4 aN,hi]) hy;cases this with
  |slice _ _ _ _ _ _ _ _ _ _ hk=>exact absurd (hk rfl) (by omega)
theorem Mk.inst{es:Nat}{s s':St}{v:AV}{rows:List (List AV)}(h:Mk es s s' v rows):ia v:=by
 rcases h.own with⟨rfl,rfl⟩|⟨b,off,cap,cs,rfl,_⟩|⟨b,off,rfl,rfl⟩
 .exact ia.ah
 . rcases h.cap _ _ _ _ _ rfl with rfl|⟨h0,rfl⟩
   .exact ia.slice _ _ _ _
   .rw[h0];exact ia.zero _ _ _
 .exact ia.zero _ _ _
theorem Mk.loose{es:Nat}{s s':St}{v:AV}{rows:List (List AV)}(h:Mk es s s' v rows):(∃b off n,v= .slice b off n none es)\/((∀t,Wf t->Mk es t t v rows)/\rows=[]):=by
 rcases h.own with⟨rfl,rfl⟩|⟨b,off,cap,cs,rfl,_⟩|⟨b,off,rfl,rfl⟩
 .exact .inr ⟨λt ht=>Mk.start ht (Grew.refl ht),rfl⟩
 . rcases h.cap _ _ _ _ _ rfl with rfl|⟨h0,rfl⟩
   .exact .inl ⟨_,_,_,rfl⟩
   .exact .inr ⟨λt ht=>⟨ht,Grew.refl ht,.inr (.inr ⟨b,off,by rw[h0],Zb1 h0⟩),λb hb=>(by rw[h0,jQ]at hb;cases hb),h.row,h.cap,λb hb=>(by rw[h0,jQ]at hb;cases hb)⟩,Zb1 h0⟩
 .exact .inr ⟨λt ht=>⟨ht,Grew.refl ht,.inr (.inr ⟨b,off,rfl,rfl⟩),λb hb=>(by rw[jQ]at hb;cases hb),h.row,h.cap,λb hb=>(by rw[jQ]at hb;cases hb)⟩,rfl⟩
theorem Mk.Gd{es:Nat}{s s':St}{v:AV}{rows:List (List AV)}(h:Mk es s s' v rows){l:List AV}(hm:v∈l)(hi:∀u∈l,ia u):∃ij,Go.Ai.tidy s (.agg l,s')=(.agg l,ij)/\(ij=s'\/ij=s)/\Mk es s ij v rows:=by
 unfold Go.Ai.tidy;by_cases hp:Plain (AV.agg l,s').1/\bu s (AV.agg l,s').2
 . rw[Za6 hp];refine⟨s,rfl,.inr rfl,?_⟩;rcases h.loose with⟨b,off,n,rfl⟩|⟨hl,_⟩
   .exact absurd hp.1 (Hw hi hm)
   .exact hl s h.od
 .rw[Za3 hp];exact⟨s',rfl,.inl rfl,h⟩
theorem Mk.cells{es:Nat}{s s':St}{v:AV}{rows:List (List AV)}(h:Mk es s s' v rows):v.cells=[v]/\aS [v]=true:=by
 rcases h.own with⟨rfl,rfl⟩|⟨b,off,cap,cs,rfl,_⟩|⟨b,off,rfl,rfl⟩<;>exact⟨rfl,rfl⟩
theorem Mk.store{es:Nat}{s s':St}{v:AV}{rows:List (List AV)}(h:Mk es s s' v rows){p:Pos}{b:AB}(hp:s.next.toNat<=p.toNat)(xY:p.toNat<s'.next.toNat)(aV:bg v≠some p):Mk es s (cI s' p b) v rows:=
 ⟨h.od,⟨EA h.ax.wf xY,λq x hq=>by have:=h.od _ _ hq;rw[bt (λe=>by rw[e]at hp;omega)];exact h.ax.get hq,by rw[Gb];exact h.ax.next⟩,
  h.own.mono λq x hq hx=>by rw[bt (λe=>aV (by rw[hq,e]))];exact hx,h.new,h.row,h.cap,λb hb=>by rw[bt (λe=>aV (by rw[hb,e]))];exact h.tight b hb⟩
theorem Mk.back{es:Nat}{s0 s s':St}{v:AV}{rows:List (List AV)}(h:Mk es s s' v rows)(h0:Wf s0)(hg:Grew s0 s):Mk es s0 s' v rows:=
 ⟨h0,hg.trans h.ax,h.own,λb hb=>Zc8 hg.next (h.new b hb),h.row,h.cap,h.tight⟩
theorem sJ{α:Type}(l:List α)(i:Nat)(h:i<l.length)(u:α):aH l i [u]=l.set i u:=by unfold aH;rw[List.set_eq_take_append_cons_drop,Za6 h];simp
theorem DK{es:Nat}:∀(rows:List (List AV)),(∀r∈rows,r.length=es)->∀(i j:Nat)(hi:i<rows.length),j<es->∀u,rows.flatten.set (i*es+j) u=(rows.set i (rows[i].set j u)).flatten
 |[],_,i,j,hi,_,_=>by simp at hi
 |r::rows,hr,i,j,hi,hj,u=>by
  have hl:=hr r (by simp);cases i with
  |zero=>
   simp only[Zp5,Zc4,Zf6,List.set_cons_zero,List.getElem_cons_zero];rw[List.set_append_left _ _ (by omega)]
  |succ i=>
   simp only[Zf6,List.set_cons_succ,Zm2];rw[List.set_append_right _ _ (by rw[Zh2];omega)];rw[show(i+1)*es+j - r.length=i*es+j by rw[Zh2];omega];rw[DK rows (λx hx=>hr x (Za7 _ hx)) i j (by simpa using hi) hj u]
theorem QS.set{R:Type}{c:ai}{es:Nat}{s:St}{v:AV}{rows:List (List AV)}(h:QS es s v rows)(hr:∀r∈rows,r.length=es)(dc:es≠0){i:Nat}(hi:i<rows.length):
   ∃ b o cs,(∀(K:AV->St->Option R)(k:IntKind)(s1:St),ak c (.idxA es none) [v,.int k (i:Int)] s1 K=K (.ptr b o) s1)/\(∀(K:AV->Option R)(k:IntKind),dQ (.idxA es none) [v,.int k (i:Int)] K=K (.ptr b o))/\bg v=some b/\s.heap.get b=some (.cells cs 0)/\o+es<=cs.length/\(∀j u,rows[i][j]? =some u->cs[o+j]? =some u)/\
     (∀j u (s':St),j<es->s'.heap.get b=some (.cells (aH cs (o+j) [u]) 0)->QS es s' v (rows.set i (rows[i].set j u)))/\
     ∀j u,j<es->cs=rows.flatten->aH cs (o+j) [u]=(rows.set i (rows[i].set j u)).flatten:=by
 rcases h with⟨rfl,rfl⟩|⟨b,off,cap,cs,rfl,g1,g2,g3,g4⟩|⟨b,off,rfl,rfl⟩
 .simp at hi
 rotate_left
 .simp at hi
 have hri:=hr rows[i] (Zb9 hi);have hm:(i+1)*es<=rows.length*es:=Zf9 _ hi;rw[Zh2]at hm;have hx:∀(k:IntKind)(H:Pos->Option AB)(n:Pos),ay.run H n (.idxA es none) [.slice b off rows.length cap es,.int k (i:Int)]=some (.val (.ptr b (off+i*es))):=λk H n=>by
   simp only[ay.run,mK,iE];have:Nat.blt i rows.length=true:=(by rw[Zo8];exact hi);rw[this]
 refine⟨b,off+i*es,cs,λK k s1=>uM c K s1 hi,λK k=>bZ K (hx k),by simp only[bg];rw[Za3 (by omega)],g1,by omega,λj u hj=> ?_,λj u s' hj hs=> ?_,λj u hj he=> ?_⟩
 . have Z8:j<es:=(by rw[<-hri];exact(Za0.1 hj).1);have:=yF hr i j rows[i] u (H4 hi) hj;rw[<-g3,Zc0]at this;split at this
   .rw[Zc6]at this;rw[<-this];congr 1;omega
   .cases this
 .rw[sJ _ _ (by omega)]at hs;refine .inr (.inl ⟨b,off,cap,_,by simp,hs,by simpa using g2,?_,by simpa using g4⟩);rw[Zl7, <-DK rows hr i j hi hj u, <-g3,List.drop_set,Za3 (by omega),List.take_set];congr 1;omega
 . have hlen:rows.flatten.length=rows.length*es:=by
     clear g2 g3 g4 hi hri hm hx g1 he;induction rows with
     |nil=>simp
     |  cons r rows ih=>
        have:=ih (λx hx=>hr x (Za7 _ hx));have h2:=hr r (by simp);simp only[Zf6,Zd2,Ze2,Zh2];omega
   have h0:off=0:=(by rw[he,hlen]at g2;omega);subst h0;rw[sJ _ _ (by omega),he, <-DK rows hr i j hi hj u];congr 1;omega
def Src(es:Nat)(s:St)(v:AV)(rows:List (List AV)):Prop:=v= .fl rows es\/QS es s v rows
theorem Src.len{es:Nat}{s:St}{v:AV}{rows:List (List AV)}(h:Src es s v rows):cZ v=some rows.length:=by
 rcases h with rfl|h
 .rfl
 .exact h.len
theorem Src.mono{es:Nat}{s s':St}{v:AV}{rows:List (List AV)}(h:Src es s v rows)(hk:∀b x,bg v=some b->s.heap.get b=some x->s'.heap.get b=some x):Src es s' v rows:=h.imp id λh=>h.mono hk
theorem Src.ax{es:Nat}{s s':St}{v:AV}{rows:List (List AV)}(h:Src es s v rows)(hg:Grew s s'):Src es s' v rows:=h.mono λ_ _ _ hx=>hg.get hx
theorem Src.first{es:Nat}{s:St}{v:AV}{rows:List (List AV)}(h:Src es s v rows)(hr:∀r∈rows,r.length=es):cg es rows.length (λb=>s.heap.get b) v=some rows.flatten:=by
 rcases h with rfl|h
 .simp only[cg,eH,ff,Zl0,Za5,Zi4]
 .exact h.first hr
theorem Src.nil{es:Nat}{s:St}{v:AV}{rows:List (List AV)}(h:Src es s v rows):(v= .ah/\rows=[])\/∀{R:Type}(c:ai)(K:AV->St->Option R)(t:St),ak c (.bin .eql .slice) [v,.ah] t K=K (.bool false) t:=by
 rcases h with rfl|⟨rfl,rfl⟩|⟨b,off,cap,cs,rfl,_⟩|⟨b,off,rfl,rfl⟩
 .exact .inr λc K t=>aW c K (λH n=>rfl) t
 .exact .inl ⟨rfl,rfl⟩
 .exact .inr λc K t=>aW c K (λH n=>rfl) t
 .exact .inr λc K t=>aW c K (λH n=>rfl) t
theorem Src.ro{es:Nat}{s:St}(z:Bool)(rows:List (List AV)):Src es s (ro es z rows) rows:=by
 unfold Go.Ai.ro;split
 .exact .inr (.inl ⟨rfl,rfl⟩)
 .exact .inl rfl
theorem Q3{es:Nat}:∀{rows:List (List AV)},(∀r∈rows,r.length=es)->rows.flatten.length=rows.length*es
 |[],_=>by simp
 |r::rows,hr=>by have ih:=Q3 (λx hx=>hr x (Za7 _ hx));have h2:=hr r (by simp);simp only[Zf6,Zd2,Ze2,Zh2];omega
theorem Q4{es bytes:Nat}{z:List AV}{src:AV}{rows:List (List AV)}(hr:∀r∈rows,r.length=es)(_hes:es≠0)(hb:(2*rows.length+768)*bytes<=281474976710656)(hn:rows.length<=4000000){c:ai}{R:Type}(s:St)(hw:Wf s)(h:Src es s src rows):
   ∃v s',(∀(K:AV->St->Option R),ak c (.buildSlice es 0 z []) [] s (λy t=>ak c (.append es bytes) [y,src] t K)=K v s')/\Mk es s s' v rows:=by
 have bs:∀(K:AV->St->Option R),ak c (.buildSlice es 0 z []) [] s K=K (.slice s.next 0 0 (some 0) es) (af s (.cells [] 0)):=λK=>by rw[aO];rfl
 have cX:Wf (af s (.cells [] 0)):=bL hw;have g1:=Grew.af hw (.cells [] 0);have hl:=h.len;by_cases h0:rows.length=0
 .obtain rfl:=Zb1 h0;refine⟨.slice s.next 0 0 (some 0) es,af s (.cells [] 0),λK=> ?_,hw,g1,.inr (.inr ⟨_,_,rfl,rfl⟩),λb hb=>(by rw[jQ]at hb;cases hb),hr,λb off n cp e he=>(by cases he;exact .inr ⟨rfl,rfl⟩),λb hb=>(by rw[jQ]at hb;cases hb)⟩;rw[bs,TH c K hl (by simpa using hb) (by simp)]
 . have hx:cg es rows.length (λb=>(af s (.cells [] 0)).heap.get b) src=some rows.flatten:=(h.ax g1).first hr;have hlen:=Q3 hr;refine⟨.slice (af s (.cells [] 0)).next 0 rows.length none es,af (af s (.cells [] 0)) (.cells rows.flatten 0),λK=> ?_,hw,g1.trans (Grew.af cX _),.inr (.inl ⟨_,0,none,rows.flatten,rfl,aD _ _,by omega,?_,.inl rfl⟩),λb hb=> ?_,hr,λb off n cp e he=>(by cases he;exact .inl rfl),λb hb=>(by rw[oM]at hb;cases hb;exact aD _ _)⟩
   .rw[bs,Z6 c K (m:=rows.length) hl h0 (by simpa using hb) (by omega) hx]
   .simp only[Ze0];exact Zg2 (by omega)
   .rw[oM]at hb;cases hb;rw[dz,Pos.aB];omega
theorem rD{v:AV}(h:aS [v]=true):v.one=true:=by
 simp only[aS]at h;split at h
 .assumption
 .cases h
theorem RL{b:Pos}{o:Nat}{k1 k2:IntKind}{i1 i2:Int}:¬Plain (.tuple [.ptr b o,.int k1 i1,.int k2 i2]):=λh=>by
 obtain⟨x0,e0⟩:∃x,aj (λ_=>⟨0,0,0⟩) (b.toNat+1) (λ_=>none) (.ptr b o) x:=⟨_,.ptr b o (by omega)⟩
 obtain⟨x1,e1⟩:∃x,aj (λ_=>⟨0,0,0⟩) (b.toNat+1) (λ_=>none) (.int k1 i1) x:=⟨_,.int k1 i1⟩
 obtain⟨x2,e2⟩:∃x,aj (λ_=>⟨0,0,0⟩) (b.toNat+1) (λ_=>none) (.int k2 i2) x:=⟨_,.int k2 i2⟩
 have:=h (λ_=>⟨0,0,0⟩) (λ_=>⟨0,0,0⟩) (b.toNat+1) 0 (λ_=>none) _ (.tuple _ #[x0,x1,x2] rfl (λi v v' hv hx=>by
  match i with
  |0=>simp at hv hx;subst hv hx;exact e0
  |1=>simp at hv hx;subst hv hx;exact e1
  |2=>simp at hv hx;subst hv hx;exact e2
  |i+3=>simp at hv))
 cases this with
 |tuple _ _ _ h=>
  have:=h 0 _ x0 rfl rfl;cases this with
  |ptr _ _ h=>omega
theorem QS.cells{es:Nat}{s:St}{v:AV}{rows:List (List AV)}(h:QS es s v rows):v.cells=[v]/\v.one=true:=by
 rcases h with⟨rfl,rfl⟩|⟨b,off,cap,cs,rfl,_⟩|⟨b,off,rfl,rfl⟩<;>exact⟨rfl,rfl⟩
abbrev TO(v:AV):List AV:=[v]
theorem abO(l:List AV):∀r∈l.map TO,r.length=1:=λr hr=>by simp only[Ze5]at hr;obtain⟨m,_,rfl⟩:=hr;rfl
section
variable{s0 s s':St}{jb:Pos}{Ls:List AV}{R:List (List AV)}{I:List (AV×List (List AV))}
end
section
variable{s0 s s':St}{jb:Pos}{Ls:List AV}{R:List (List AV)}{I:List (AV×List (List AV))}
end
theorem Pm{R:Type}{c:ai}(K:AV->St->Option R){s:St}{p:Pos}{o:Nat}{cs:List AV}{v:AV}(h:s.heap.get p=some (.cells cs 0))(ho:o<cs.length)(h1:v.cells=[v])(h2:v.one=true):
  ak c (.store 1) [.ptr p o,v] s K=K .undef (cI s p (.cells (cs.set o v) 0)):=by
 rw[dN c K s 1 p o v cs h (by rw[h1];rfl) (by omega) (by rw[h1];simp[aS,h2]),h1,sJ _ _ ho]
theorem QS.beq{es:Nat}{s:St}{v:AV}{rows:List (List AV)}(h:QS es s v rows):e9 v v=true:=by
 rcases h with⟨rfl,_⟩|⟨b,off,cap,cs,rfl,_⟩|⟨b,off,rfl,_⟩
 .rfl
 .cases cap<;>simp[e9,kO,gq,Pos.beq_eq.2 rfl]
 .simp[e9,kO,gq,Pos.beq_eq.2 rfl]
section
variable{s0 s s':St}{jb:Pos}{Ls:List AV}{R:List (List AV)}{I:List (AV×List (List AV))}
end
def emptyAt(s:St):St:={ heap:= .e,next:=s.next }
theorem NT(s:St):Wf (emptyAt s):=λp x h=>by have h:(T.e:T AB).get p=some x:=h;rw[T.dm]at h;cases h
theorem NU{call:ai}{f:FuncId}{d:Nat}{args:List AV}{s:St}{v:AV}(h:call f (args.map (di s d)) (emptyAt s)=some (v,emptyAt s))(hb:oc v):I1 call f d args s=some (v,s):=abM h hb
section
variable{H:Type}(Ok:DataW H->Prop)(enc:TypeId×Value->H)(P:Program)(w:World)(base:Nat)(spare:Nat->Bool)(held:Bool)
variable{Ok enc P w base spare held}
end
end
section
open Go Go.WideShapes
section
variable{H:Type}(enc:TypeId×Value->H)(P:Program)(w:World)(base:Nat)(spare:Nat->Bool)(held:Bool)
variable{enc P w base spare held}
end
end
section
open Go
section
variable{c:ai}{R:Type}
theorem TP{H:Pos->Option AB}{n:Pos}{k:IntKind}{a b:Int}(h1:0<=a)(h2:0<b):ay.run H n (.bin .rem .num) [.int k a,.int k b]=some (.val (.int k (a % b))):=by
 have e0:uB b 0=false:=by rw[kj,Zn9];omega
 have e1:a.tmod b=a % b:=Int.tmod_eq_emod_of_nonneg h1;simp only[ay.run,gF,lR,cC,e0,e1]
theorem TQ{H:Pos->Option AB}{n:Pos}{a b:Int}(h1:0<=a)(h3:a<=9223372036854775807)(h2:0<b):ay.run H n (.bin .quo .num) [.int .i64 a,.int .i64 b]=some (.val (.int .i64 (a / b))):=by
 have e0:uB b 0=false:=by rw[kj,Zn9];omega
 have e1:a.tdiv b=a / b:=Int.tdiv_eq_ediv_of_nonneg h1;have e3:0<=a / b:=Zp9 h1 (by omega);have e4:a / b<=a:=Int.ediv_le_self b h1;have e2:aq .i64 (a / b)=a / b:=wrap64 (by omega) (by omega);simp only[ay.run,gF,lR,cC,e0,e1,e2]
theorem abP{H:Pos->Option AB}{n:Pos}{a:Int}{i:Nat}(h:i<=64):ay.run H n (.bin .shr .num) [.int .i64 a,.int .i64 (i:Int)]=some (.val (.int .i64 (a / 2 ^ i))):=by
 have e0:yU (i:Int) 0=false:=by rw[dK,Za1 (by omega)]
 have e1:min (i:Int).toNat (IntKind.bits .i64)=i:=by have:IntKind.bits .i64=64:=rfl;rw[this];omega
 simp only[ay.run,gF,lR,e0,e1];rw[Zo9 _ (Int.le_of_lt (Int.pow_pos (by decide)))]
theorem bS{k:IntKind}{a b:Int}(h1:0<=a)(h2:0<b)(s:St)(K:AV->St->Option R):ak c (.bin .rem .num) [.int k a,.int k b] s K=K (.int k (a % b)) s:=aW c K (λH n=>TP h1 h2) s
theorem yG{k:IntKind}{a b:Int}(h1:0<=a)(h2:0<b)(K:AV->Option R):dQ (.bin .rem .num) [.int k a,.int k b] K=K (.int k (a % b)):=bZ K (λH n=>TP h1 h2)
theorem fD{a b:Int}(h1:0<=a)(h3:a<=9223372036854775807)(h2:0<b)(s:St)(K:AV->St->Option R):ak c (.bin .quo .num) [.int .i64 a,.int .i64 b] s K=K (.int .i64 (a / b)) s:=aW c K (λH n=>TQ h1 h3 h2) s
theorem TR{a b:Int}(h1:0<=a)(h3:a<=9223372036854775807)(h2:0<b)(K:AV->Option R):dQ (.bin .quo .num) [.int .i64 a,.int .i64 b] K=K (.int .i64 (a / b)):=bZ K (λH n=>TQ h1 h3 h2)
theorem TU{a:Int}{i:Nat}(h:i<=64)(s:St)(K:AV->St->Option R):ak c (.bin .shr .num) [.int .i64 a,.int .i64 (i:Int)] s K=K (.int .i64 (a / 2 ^ i)) s:=aW c K (λH n=>abP h) s
theorem vn(i:Int)(s:St)(K:AV->St->Option R):ak c (.conv (.int .u8)) [.int .i64 i] s K=K (.int .u8 (aq .u8 i)) s:=aW c K (λH n=>rfl) s
theorem mZ(i:Int)(k:IntKind)(s:St)(K:AV->St->Option R):ak c (.conv (.int .i64)) [.int k i] s K=K (.int .i64 (aq .i64 i)) s:=aW c K (λH n=>rfl) s
theorem TV{x y:Int}(a b:Nat)(hx:x=(a:Int))(hy:y=(b:Int))(ha:a<256)(hb:b<256)(s:St)(K:AV->St->Option R):
  ak c (.buildSlice 1 2 [.int .u8 0] [0,1]) [.int .u8 x,.int .u8 y] s (λv t=>ak c (.conv .ofBytes) [v] t K)=K (.str [a,b]) (af s (.cells [.int .u8 x,.int .u8 y] 0)):=by
 subst hx;subst hy;rw[show ak c (.buildSlice 1 2 [.int .u8 0] [0,1]) [.int .u8 (a:Int),.int .u8 (b:Int)] s (λv t=>ak c (.conv .ofBytes) [v] t K)=ak c (.conv .ofBytes) [.slice s.next 0 2 (some 2) 1] (af s (.cells [.int .u8 (a:Int),.int .u8 (b:Int)] 0)) K from rfl];have:ay.run (λp=>(af s (.cells [.int .u8 (a:Int),.int .u8 (b:Int)] 0)).heap.get p) (af s (.cells [.int .u8 (a:Int),.int .u8 (b:Int)] 0)).next (.conv .ofBytes) [.slice s.next 0 2 (some 2) 1]=some (.val (.str [a,b])):=by
  have ha':Nat.blt a 256=true:=by simpa using ha
  have iX:Nat.blt b 256=true:=by simpa using hb
  simp only[ay.run,uV,aD];show(match bytesOf [.int .u8 (.ofNat a),.int .u8 (.ofNat b)]with|some s=>some (b6.val (.str s))|none=>none)=_;simp only[bytesOf,ha',iX]
 unfold ak bF;rw[this]
end
theorem Mk.abQ{s s':St}{l:List AV}(hi:∀u∈l,ia u)(hw:Wf s)(hg:Grew s s'):
   ∃ij,Go.Ai.tidy s (.agg l,s')=(.agg l,ij)/\Grew s ij/\(∀(es:Nat)(v:AV)(rows:List (List AV)),v∈l->Mk es s s' v rows->Mk es s ij v rows/\(ij=s'\/rows=[])):=by
 unfold Go.Ai.tidy;by_cases hp:Plain (AV.agg l,s').1/\bu s (AV.agg l,s').2
 . rw[Za6 hp];refine⟨s,rfl,Grew.refl hw,λes v rows hm h=> ?_⟩;rcases h.loose with⟨b,off,n,rfl⟩|⟨hl,h0⟩
   .exact absurd hp.1 (Hw hi hm)
   .exact⟨hl s h.od,.inr h0⟩
 .rw[Za3 hp];exact⟨s',rfl,hg,λes v rows _ h=>⟨h,.inl rfl⟩⟩
theorem Mk.qL{es:Nat}{s0 s s':St}{v:AV}{rows:List (List AV)}(h:Mk es s0 s v rows)(hg:Grew s0 s')(hk:∀b x,bg v=some b->s.heap.get b=some x->s'.heap.get b=some x):Mk es s0 s' v rows:=
 ⟨h.od,hg,h.own.mono hk,h.new,h.row,h.cap,λb hb=>hk b _ hb (h.tight b hb)⟩
end
section
open Go Go.WideShapes
theorem zx{Q:List AV->Prop}{Qs:List (List AV->Prop)}{ps:List (List AV)}(h:Gc (Q::Qs) ps):∃p qs,ps=p::qs/\Q p/\Gc Qs qs:=by
 cases ps with
 |nil=>exact h.elim
 |cons p qs=>exact⟨p,qs,rfl,h⟩
theorem TW{ps:List (List AV)}(h:Gc [] ps):ps=[]:=by
 cases ps with
 |nil=>rfl
 |cons p qs=>exact h.elim
section
variable{H:Type}{enc:TypeId×Value->H}{P:Program}{w:World}{base:Nat}{spare:Nat->Bool}{held:Bool}
theorem Ec{t e:TypeId}{Q:List AV->Prop}{r:Go.Reach}{b0:Nat}{v:Value}{d:DataW H}{p:List MemPlace}(ho:iU enc P w base spare held t Q)(ht:P.underlying t=some (.slice e))
  (hval:Value.okWide P w r b0 t v) (hd:DataW.Trod enc P w base spare held t v d p):∃as,Q as/\∀ρ n,au ρ n (λad=>w.cell? ad) as [v]:=by
 obtain⟨a,len,cap,rfl⟩:=okWide_slice ht hval;obtain⟨fuel,hf⟩:=hd;exact ho _ _ _ hf
end
end
section
open Go
noncomputable def Pn(d:Nat)(As:List (List AV))(r:AV):List AV->St->Option (AV×St):=λargs st=>open Classical in if args.map (di st d)∈As then some (r,st)else none
theorem adJ{d:Nat}{As:List (List AV)}{r:AV}{args:List AV}{st:St}(A:List AV)(hA:A∈As)(h:args.map (di st d)=A):Pn d As r args st=some (r,st):=by
 unfold Pn;rw[h,Za6 hA]
theorem aac{P:Program}{C:Cells}{O:dZ}{G:T cE}{m n f d:Nat}{As:List (List AV)}{r:AV}(bH:∀C:Cells,eV P C (oX O G m n))(ha:∀A∈As,∀a∈A,Plain a)(hr:Plain r)(hb:oc r)
   (h:(As.all λA=>CL (R:=Bool) false O G m n f A { heap:= .e,next:= .h } (λv _=>e9 v r))=true):mE P C f (Pn d As r):=by
 have unf:∀args st v' st',Pn d As r args st=some (v',st')->v'=r/\st'=st/\(args.map (di st d))∈As:=by
   intro args st v' st' hs;unfold Pn at hs;(split at hs<;>first|(cases hs;done)|skip);rename_i hc;simp only[H0,Zb3]at hs;exact⟨hs.1.symm,hs.2.symm,hc⟩
 refine⟨λargs st v' st' hs=> ?_,λρ st w args v' st' bE hs hW hv=> ?_⟩
 .obtain⟨_,rfl,_⟩:=unf _ _ _ _ hs;exact Za5 _
 . obtain⟨rfl,rfl,hA⟩:=unf _ _ _ _ hs;have hk:=Zd1.1 h _ hA;rw[F0 false O G m n]at hk;unfold nD at hk;(split at hk<;>first|(cases hk;done)|skip);rename_i x hx;obtain⟨v,aM⟩:=x;have h1:=pg hk;subst h1;have KP:=au.di hW d hv;have Ep:au ρ (Pos.h).toNat (λad=>w.cell? ad) (args.map (di st' d)) bE:=⟨KP.1,λi u y hu hy=>ha _ hA u (Zb6 hu) _ _ _ _ _ _ (KP.2 i u y hu hy)⟩
   (refine Reaches.mono (λx w' hp=> ?_) (bH (λad=>w.cell? ad) ρ { heap:= .e,next:= .h } w f _ _ aM bE hx (zn (λad u hu=>hu) λa u _ o ho=>ho) Ep);obtain⟨ρ',k1,k2,k3,k4,hE⟩:=hp;have un:∀k,k<w.heap.size->w'.heap[k]? =w.heap[k]? :=λk hk=>hE.block k hk λb x hb=>by rw[T.dm]at hb;cases hb);refine⟨ρ,hb _ _ _ _ _ (hr _ _ _ _ _ _ k1),λ_ _=>rfl,Za5 _,⟨λb x hb=> ?_,hW.inj,λa u hu=> ?_,λa u hu o ho=> ?_⟩,⟨hE.os,hE.tape,hE.output,hE.size,λk hk _=>un k hk,λb x hb=>.inl ⟨b,x,hb,rfl⟩⟩⟩
   .obtain⟨l1,l2,l3⟩:=hW.live b x hb;exact⟨l1,Zc7 l2 hE.size,l3.of_heap (un _ l2)⟩
   .obtain⟨c1,c2⟩:=hW.dx a u hu;exact⟨(k4.dx a u c1).1,c2⟩
   .have aN:a.block<w.heap.size:=World.block_lt_of_cell? _ _ (hW.dx a u hu).1;rw[World.cell?_of_block (w:=w) (a:=⟨a.block,o,none⟩) (un _ aN)];exact hW.whole a u hu o ho
section
variable{H:Type}{enc:TypeId×Value->H}{P:Program}{w:World}{base:Nat}{spare:Nat->Bool}{held:Bool}
theorem XX{t e:TypeId}{Q:List AV->Prop}(ht:P.underlying t=some (.array 2 e))(he:P.cellsOf e=1)(hc:P.cellsOf t=2)(h:iU enc P w base spare held e Q):
  iU enc P w base spare held t λas=>∃a b,as=a++b/\Q a/\Q b:=λfuel cs x hx=>by
 obtain⟨xs,m,_,_,hl,hxl,hf⟩:=DataW.trod_array ht hx;rw[hc]at hl;rw[he]at hf;have f0:=hf 0 (by omega);have f1:=hf 1 (by omega);rw[H4 (by omega)]at f0 f1;obtain⟨a,qa,va⟩:=h m _ _ f0;obtain⟨b,qb,vb⟩:=h m _ _ f1;refine⟨a++b,⟨a,b,rfl,qa,qb⟩,λρ n=> ?_⟩;have e2:cs=(cs.drop (0*1)).take 1++(cs.drop (1*1)).take 1:=by
  match cs,hl with
  |[u,v],_=>rfl
 rw[e2];exact(va ρ n).append (vb ρ n)
end
end
noncomputable section
open Go
inductive Un where
 |z
 |s (n:Un)
def un:Nat->Un
 |0=>.z
 |n+1=>.s (un n)
inductive Tx where
 |bad
 |op (k:ay) (xs:List dU) (d:Option Pos) (t:Tx)
 |gop (g:Pos) (w:Bool) (k:ay) (xs:List dU) (d:Option Pos) (t:Tx)
 |dr (t:Tx)
 |pr (k:ay) (xs:List dU) (d:Option Pos) (t:Tx)
 |Lb (g:Pos) (w:Bool) (k:ay) (xs:List dU) (d:Option Pos) (t:Tx)
 |rd (b:List Bool) (k:ay) (xs:List dU) (d:Option Pos) (t:Tx)
 |Lc (g:Pos) (w:Bool) (b:List Bool) (k:ay) (xs:List dU) (d:Option Pos) (t:Tx)
 |nw (k:ay) (xs:List dU) (d:Option Pos) (t:Tx)
 |gnw (g:Pos) (w:Bool) (k:ay) (xs:List dU) (d:Option Pos) (t:Tx)
 |ef (k:ay) (xs:List dU) (d:Option Pos) (t:Tx)
 |gef (g:Pos) (w:Bool) (k:ay) (xs:List dU) (d:Option Pos) (t:Tx)
 |QV (x:dU) (a b:Tx)
 |jn (l:List Pos) (a b:Tx)
 |jmp (i:Un) (l:List Pos)
 |arg (l:List Pos) (t:Tx) (r:Tx)
 |lp (j:Un) (ins:List Pos)
 |agn (ins:List Pos)
 |out (i:Un) (l:List Pos)
 |res (rs:List zh)
def txO:List bk->Tx->Tx
 |[],t=>t
 |  o::os,t=>match o.guard with
    |none=>.op o.k o.xs o.dst (txO os t)
    |some (p,w)=>.gop p w o.k o.xs o.dst (txO os t)
def bitsOf(bC:Nat):List Nat->List Bool
 |[]=>[]
 |i::is=>bC.testBit i::bitsOf bC is
def NV:List (Nat×bk)->List Nat->Tx->Tx
 |[],_,t=>t
 |  (j,o)::os,is,t=>match o.cls,o.guard with
    |.pure,none=>.pr o.k o.xs o.dst (NV os (j::is) t)
    |.pure,some (p,w)=> .Lb p w o.k o.xs o.dst (NV os (j::is) t)
    |.read,none=>.rd (bitsOf o.bC is) o.k o.xs o.dst (NV os (j::is) t)
    |.read,some (p,w)=> .Lc p w (bitsOf o.bC is) o.k o.xs o.dst (NV os (j::is) t)
    |.new,none=>.nw o.k o.xs o.dst (NV os (j::is) t)
    |.new,some (p,w)=>.gnw p w o.k o.xs o.dst (NV os (j::is) t)
    |.aE,none=>.ef o.k o.xs o.dst (NV os (j::is) t)
    |.aE,some (p,w)=>.gef p w o.k o.xs o.dst (NV os (j::is) t)
def txA(K:js->Tx):List (Nat×List Pos)->Tx->Tx
 |[],t=>t
 |(e,l)::r,t=>.arg l (K (exOf e)) (txA K r t)
def tx:AC->Sh->Nat->(js->Nat->Tx)->Tx
 |.skip,_,d,K=>K .normal d
 |.region ops,_,d,K=>txO ops (K .normal d)
 |.draw ops,_,d,K=>.dr (NV ops [] (K .normal d))
 |  .seq a b,s,d,K=>match s with
    | .seq none s t=>tx a s d λex d=>match ex with
      |.normal=>tx b t d K
      |.exit i=>K (.exit i) d
      |.ret=>K .ret d
    | .seq (some l) s t=>.jn l (tx a s (d+1) λex d'=>match ex with
      |.normal=>.jmp (un (d' - d - 1)) l
      |.exit i=>K (.exit i) d'
      |.ret=>K .ret d') (tx b t d K)
    |_=>.bad
 |  .cond x a b,s,d,K=>match s with
    |.cond s t=> .QV x (tx a s d K) (tx b t d K)
    |_=>.bad
 |  .block id a,s,d,K=>match s with
    | .block s=>tx a s d λex d=>match ex with
      |.normal=>K .normal d
      | .exit i=>match Nat.beq i id with
        |true=>K .normal d
        |false=>K (.exit i) d
      |.ret=>K .ret d
    |_=>.bad
 |  .loop _,s,d,K=>match s with
    |.loop j ins outs _=>txA (λex=>K ex d) outs (.lp (un j) ins)
    |_=>.bad
 |.exit id,_,d,K=>K (.exit id) d
 |.ret,_,d,K=>K .ret d
def idxOf:List (Nat×List Pos)->Nat->Nat
 |[],_=>0
 |  (i,_)::r,e=>match Nat.beq i e with
    |true=>0
    |false=>idxOf r e+1
def txF(A:cE)(s:Sh):Tx:=tx A.code s 0 λex _=>match ex with
 |.normal=>.res A.results
 |.ret=>.res A.results
 |.exit _=>.bad
def txL(x:AC×Sh):List Pos×Tx:=match x.2 with
 |  .loop _ ins outs s=>(ins,tx x.1 s 0 λex _=>match ex with
    |.normal=>.agn ins
    |.exit i=>.out (un (idxOf outs (i+2))) (Kc outs (i+2))
    |.ret=>.out (un (idxOf outs 1)) (Kc outs 1))
 |_=>([],.bad)
section
variable{R:Type}
abbrev KK(R:Type):=List AV->St->Option R
abbrev O2:=Option (AV×St)
abbrev Q2:=KK (AV×St)
def xU:Unit:=(λ_=>()) (@den AV)
def uN(p:Pos)(fr:Fr)(k:AV->Option R):Option R:=match fr.get p with
 |some v=>k v
 |none=>(λ_=>none) xU
def wq(p:Pos)(v:AV)(fr:Fr)(k:Fr->Option R):Option R:=(λ_=>k (fr.put (some v) p)) xU
def wz(d:Option Pos)(v:AV)(fr:Fr)(k:Fr->Option R):Option R:=match d with
 |some p=>wq p v fr k
 |none=>k fr
def Am(fr:Fr):List dU->(List AV->Option R)->Option R
 |[],k=>k []
 |.t p::xs,k=>uN p fr λv=>Am fr xs λvs=>k (v::vs)
 |.c v::xs,k=>Am fr xs λvs=>k (v::vs)
def getLT:List Pos->Fr->(List AV->Option R)->Option R
 |[],_,k=>k []
 |p::ps,fr,k=>uN p fr λv=>getLT ps fr λvs=>k (v::vs)
def AZ:List Pos->List AV->Fr->(Fr->Option R)->Option R
 |[],vs,fr,k=>qd vs (k fr)
 |p::ps,vs,fr,k=>ju vs λv vs=>wq p v fr λfr=>AZ ps vs fr k
def NW(p:Pos)(k:Pos->Option R):Option R:=(λ_=>k p.succ) xU
def Po:Pos->List AV->Fr->(Fr->Option R)->Option R
 |_,[],fr,k=>k fr
 |p,v::vs,fr,k=>wq p v fr λfr=>NW p λp=>Po p vs fr k
def TX:Un->List (KK R)->KK R
 |.z,k::_=>k
 |.s n,_::ks=>TX n ks
 |_,[]=>λ_ _=>none
def zd:List Bool->T AB->List RC->T AB
 |  b ::bs,h,r::rs=>match r with
    | .new id av=>match b with
      |true=>(zd bs h rs).put (some av) id
      |false=>zd bs h rs
    |.aE _ _=>h
    |.pure=>zd bs h rs
 |_,h,_=>h
def ze(k:ay)(xs:List AV)(v:AV):List (Pos×AB)->List Bool->List RC->Bool
 |  up,b::bs,r::rs=>match r with
    | .new id av=>match b with
      |true=>ze k xs v ((id,av)::up) bs rs
      |false=>ze k xs v up bs rs
    | .aE base _=>match b with
      |true=>true
      |false=>su k xs v (yV up (zd bs base rs))&&ze k xs v up bs rs
    |.pure=>ze k xs v up bs rs
 |_,_,_=>true
def Mj(fr:Fr)(st:St):List zh->(List AV->Option R)->Option R
 |[],k=>k []
 |.tmp p::rs,k=>uN p fr λv=>Mj fr st rs λvs=>k (v::vs)
 |.cell p n::rs,k=>uN p fr λq=>Wh n q st λv=>Mj fr st rs λvs=>k (v::vs)
def Sf(as:List (KK R))(f:KK R)(k:List (KK R)->Option R):Option R:=(λ_=>k (as++[f])) xU
def pkR(vs:List AV)(st:St):Option (AV×St):=some (gD vs,st)
end
section
variable(c:ai)(F:Nat)(Ls:Un->List Q2->Nat->Q2)(ag:Q2)(ko:List Q2)
def evX(fr:Fr)(x:dU)(k:AV->Option (AV×St)):Option (AV×St):=match x with
 |.t p=>uN p fr k
 |.c v=>k v
def ev:Tx->List (KK (AV×St))->List (KK (AV×St))->Fr->St->List RC->T AB->Option (AV×St)
 |.bad,_,_,_,_,_,_=>none
 |.op k xs d t,ks,as,fr,st,rs,b=>Am fr xs λvs=>ak c k vs st λv st=>wz d v fr λfr=>ev t ks as fr st rs b
 |.gop g w k xs d t,ks,as,fr,st,rs,b=>Am fr xs λvs=>uN g fr λg=>To c g w k vs st λv st=>wz d v fr λfr=>ev t ks as fr st rs b
 |.dr t,ks,as,fr,st,_,_=>ev t ks as fr st [] st.heap
 |.pr k xs d t,ks,as,fr,st,rs,b=>Am fr xs λvs=>dQ k vs λv=>wz d v fr λfr=>ev t ks as fr st (.pure::rs) b
 | .Lb g w k xs d t,ks,as,fr,st,rs,b=>Am fr xs λvs=>uN g fr λg=>Lb g w k vs λv=>wz d v fr λfr=>ev t ks as fr st (.pure::rs) b
 |.rd bs k xs d t,ks,as,fr,st,rs,b=>Am fr xs λvs=>kY k vs (zd bs b rs) (λv=>ze k vs v [] bs rs) λv=>wz d v fr λfr=>ev t ks as fr st (.pure::rs) b
 | .Lc g w bs k xs d t,ks,as,fr,st,rs,b=>Am fr xs λvs=>uN g fr λg=>Lc g w k vs (zd bs b rs) (λv=>ze k vs v [] bs rs) λv=>wz d v fr λfr=>ev t ks as fr st (.pure::rs) b
 |.nw k xs d t,ks,as,fr,st,rs,b=>Am fr xs λvs=>IL k vs st λv av=>wz d v fr λfr=>ev t ks as fr (af st av) (.new st.next av::rs) b
 |.gnw g w k xs d t,ks,as,fr,st,rs,b=>Am fr xs λvs=>uN g fr λg=>Ld g w (IL k vs st λv av=>wz d v fr λfr=>ev t ks as fr (af st av) (.new st.next av::rs) b) (wz d .undef fr λfr=>ev t ks as fr st (.pure::rs) b)
 |.ef k xs d t,ks,as,fr,st,rs,b=>Am fr xs λvs=>ak c k vs st λv st'=>wz d v fr λfr=>ev t ks as fr st' (.aE b st'.heap::rs) st'.heap
 |.gef g w k xs d t,ks,as,fr,st,rs,b=>Am fr xs λvs=>uN g fr λg=>Ld g w (ak c k vs st λv st'=>wz d v fr λfr=>ev t ks as fr st' (.aE b st'.heap::rs) st'.heap) (wz d .undef fr λfr=>ev t ks as fr st (.pure::rs) b)
 | .QV x t u,ks,as,fr,st,rs,b=>evX fr x λv=>QV v (ev t ks as fr st rs b) (ev u ks as fr st rs b)
 |.jn l t u,ks,as,fr,st,rs,b=>fe (λk=>ev t (k::ks) as fr st rs b) (λvs st=>AZ l vs .e λfr=>ev u ks as fr st [] .e)
 |.jmp i l,ks,_,fr,st,_,_=>getLT l fr λvs=>TX i ks vs st
 |.arg l t r,ks,as,fr,st,rs,b=>Sf as (λos st=>AZ l os .e λfr=>ev t ks [] fr st [] .e) λas=>ev r ks as fr st rs b
 |.lp j ins,_,as,fr,st,_,_=>getLT ins fr λvs=>Ls j as F vs st
 |.agn ins,_,_,fr,st,_,_=>getLT ins fr λvs=>ag vs st
 |.out i l,_,_,fr,st,_,_=>getLT l fr λvs=>TX i ko vs st
 |.res rs,_,_,fr,st,_,_=>Mj fr st rs λvs=>pkR vs st
def gu(p:List Pos×Tx)(vs:List AV)(st:St):Option (AV×St):=AZ p.1 vs .e λfr=>ev c F Ls ag ko p.2 [] [] fr st [] .e
end
def bW{R:Type}:Un->List (KK R)->Nat->KK R:=λ_ _ _ _ _=>none
def iK{R:Type}:KK R:=λ_ _=>none
def bX(c:ai)(F:Nat)(Ls:Un->List Q2->Nat->Q2)(t:Tx)(args:List AV)(st:St):O2:=Po .h args .e λfr=>ev c F Ls iK [] t [] [] fr st [] .e
def nE(Ls:Un->List Q2->Nat->Q2)(A:cE)(s:Sh):Env (AV×St):=λj K=>Ls (un j) ((ZX (fC A s j).2).map λo=>K o.1)
def sl:Sh:= .leaf
def sq(a b:Sh):Sh:= .seq none a b
def sj(l:List Nat)(a b:Sh):Sh:= .seq (some (l.map key)) a b
def sc(a b:Sh):Sh:= .cond a b
def sb(a:Sh):Sh:= .block a
def sp(j:Nat)(ins:List Nat)(outs:List (Nat×List Nat))(a:Sh):Sh:= .loop j (ins.map key) (outs.map λo=>(o.1,o.2.map key)) a
section
variable{R:Type}(l r:Fr)(v u:AV)(x:Option AV)(p:Pos)(fr:Fr)(k:AV->Option R)(K:Fr->Option R)(kp:Pos->Option R)
theorem NX:uN .h (.n l (some v) r) k=k v:=rfl
theorem NY:uN (.o p) (.n l x r) k=uN p l k:=rfl
theorem NZ:uN (.i p) (.n l x r) k=uN p r k:=rfl
theorem Kg:wq .h v .e K=K (.n .e (some v) .e):=rfl
theorem Kh:wq .h v (.n l x r) K=K (.n l (some v) r):=rfl
theorem Ki:wq (.o p) v .e K=wq p v .e λt=>K (.n t none .e):=rfl
theorem Kj:wq (.o p) v (.n l x r) K=wq p v l λt=>K (.n t x r):=rfl
theorem Kk:wq (.i p) v .e K=wq p v .e λt=>K (.n .e none t):=rfl
theorem Kl:wq (.i p) v (.n l x r) K=wq p v r λt=>K (.n l x t):=rfl
theorem N4:wz none v fr K=K fr:=rfl
theorem N6:wz (some p) v fr K=wq p v fr K:=rfl
theorem Km:NW .h kp=kp (.o .h):=rfl
theorem Kn:NW (.o p) kp=kp (.i p):=rfl
theorem Ko:NW (.i p) kp=NW p λq=>kp (.o q):=rfl
theorem Kp(f:KK R)(k:List (KK R)->Option R):Sf [] f k=k [f]:=rfl
theorem Kq(a:KK R)(as:List (KK R))(f:KK R)(k:List (KK R)->Option R):Sf (a::as) f k=Sf as f λl=>k (a::l):=rfl
theorem Sg(st:St):pkR [] st=some (.tuple [],st):=rfl
theorem Si(st:St):pkR [v] st=some (v,st):=rfl
theorem Sj(vs:List AV)(st:St):pkR (v::u::vs) st=some (.tuple (v::u::vs),st):=rfl
theorem Da(c:ai)(F:Nat)(Ls:Un->List Q2->Nat->Q2)(ag:Q2)(ko:List Q2)(l:List Pos)(t:Tx)(vs:List AV)(st:St):gu c F Ls ag ko (l,t) vs st=AZ l vs .e λfr=>ev c F Ls ag ko t [] [] fr st [] .e:=rfl
end
def sV{α:Type}:Option α->Bool
 |none=>true
 |some _=>false
theorem aen{α:Type}{o:Option α}(h:sV o=true):o=none:=by cases o with|none=>rfl|some _=>cases h
theorem aeo{α:Type}[Inhabited α]{o:Option α}(h:sV o=false):o=some (o.getD default):=by cases o with|none=>cases h|some _=>rfl
def qM(G:T cE)(f:Nat):cE:=(G.get (key f)).getD default
theorem aad{O:dZ}{G:T cE}{F:Nat}{L:Env (AV×St)}{f:FuncId}{s:Sh}{args:List AV}{st:St}{r:AV×St}(hk:(sV (O f)&& !sV (G.get (key f)))=true)
  (hL:∀x∈dY (qM G f).code s,v9 (run O G) F L x.1 x.2) {k:O2} (hd:zU (run O G) F L (qM G f) s args st=k) (h:k=some r):run O G f args st=some (tidy st r):=by
 simp only[Za8,Zh4]at hk;exact abC (aen hk.1) (aeo hk.2) hL (hd.trans h)
theorem Wx{O:dZ}{G:T cE}{F:Nat}{f:FuncId}{args:List AV}{st:St}{r:AV×St}(s:Sh)(hk:(sV (O f)&& !sV (G.get (key f))&&(dY (qM G f).code s).isEmpty)=true)
  {k:O2} (hd:zU (run O G) F (Sb []) (qM G f) s args st=k) (h:k=some r):run O G f args st=some (tidy st r):=by
 rw[Za8,List.isEmpty_iff]at hk;exact aad hk.1 (by rw[hk.2];intro x hx;cases hx) hd h
theorem Pp{O:dZ}{G:T cE}{F:Nat}{f:FuncId}{args:List AV}{st:St}{r:AV×St}(Ls:Un->List Q2->Nat->Q2)(s:Sh)(n:Nat)(hk:(sV (O f)&& !sV (G.get (key f))&&Nat.beq (dY (qM G f).code s).length n)=true)
  (hL:∀i,i<n->v9 (run O G) F (nE Ls (qM G f) s) (fC (qM G f) s i).1 (fC (qM G f) s i).2) {k:O2} (hd:zU (run O G) F (nE Ls (qM G f) s) (qM G f) s args st=k) (h:k=some r):run O G f args st=some (tidy st r):=by
 rw[Za8]at hk;exact aad hk.1 (abD n hk.2 hL) hd h
theorem Wy {O:dZ} {G:T cE}  {F:Nat}{f:FuncId}{args:List AV}{st:St}{r:AV×St}(Ls:Un->List Q2->Nat->Q2)(s:Sh)(hk:(sV (O f)&& !sV (G.get (key f))&&Nat.beq (dY (qM G f).code s).length 1)=true)
  (hs:(Pc (fC (qM G f) s 0).2&&Nat.beq (ZW (fC (qM G f) s 0).2) 0)=true) (h0:∀K' vs st,nE Ls (qM G f) s 0 K' 0 vs st=none)
  (h1:∀K' n vs st,nE Ls (qM G f) s 0 K' (n+1) vs st=Ey (den (run O G) F (nE Ls (qM G f) s) (fC (qM G f) s 0).1 (lpB (fC (qM G f) s 0).2)) (lpI (fC (qM G f) s 0).2) (ZX (fC (qM G f) s 0).2) K' (nE Ls (qM G f) s 0 K' n) vs st)
  {k:O2} (hd:zU (run O G) F (nE Ls (qM G f) s) (qM G f) s args st=k) (h:k=some r):run O G f args st=some (tidy st r):=
 Pp Ls s 1 hk (fun i hi=>by obtain rfl:i=0:=by omega
                            exact fQ 0 hs h0 h1) hd h
end
section
open Go
theorem rE{R:Type}{Q:Option R->Prop}(P:(List AV->St->Option R)->Prop){A:(List AV->St->Option R)->Option R}{T:List AV->St->Option R}(hT:P T)(hA:∀j,P j->Q (A j)):Q (fe A T):=hA T hT
theorem Wz{m:Nat}(h1:1<=m)(h2:m<=18):m=1\/m=2\/m=3\/m=4\/m=5\/m=6\/m=7\/m=8\/m=9\/m=10\/m=11\/m=12\/m=13\/m=14\/m=15\/m=16\/m=17\/m=18:=by omega
end
section
def mg(tk:List Bool)(fr:Nat):Nat->Nat->Option Nat
 |0,_=>none
 |m+1,k=>if tk.getD ((fr+k) % tk.length) true=false then some ((fr+k) % tk.length)else mg tk fr m (k+1)
def mh(tk:List Bool)(fr:Nat):List Bool×Int:=match mg tk fr tk.length 0 with
 |some s=>(tk.set s true,(s:Int))
 |none=>(tk,-1)
theorem zW{tk:List Bool}{fr s:Nat}:∀{m k:Nat},mg tk fr m k=some s->tk[s]? =some false
 |0,_,h=>by cases h
 |m +1,k,h=>by
  unfold mg at h;split at h
  . rename_i e;cases h;cases e2:tk[(fr+k) % tk.length]? with
    |none=>rw[Zb5,e2]at e;simp at e
    |some b=>rw[Zb5,e2]at e;simp at e;rw[e]
  .exact zW h
theorem Hx{tk:List Bool}{fr:Nat}:∀{m k:Nat},mg tk fr m k=none->∀j,k<=j->j<k+m->tk.getD ((fr+j) % tk.length) true=true
 |0,_,_,j,h1,h2=>by omega
 |m +1,k,h,j,h1,h2=>by
  unfold mg at h;split at h
  .cases h
  . rename_i e;by_cases e2:j=k
    .subst e2;simpa using e
    .exact Hx h j (by omega) (by omega)
def N7(tk:List Bool):Nat:=(tk.filter λb=> !b).length
theorem Q5:∀{tk:List Bool},0<N7 tk->∃s:Nat,tk[s]? =some false
 |[],h=>by simp[N7]at h
 |false::tk,_=>⟨0,rfl⟩
 |true::tk,h=>by
  obtain⟨s,hs⟩:=Q5 (tk:=tk) (by simpa [N7]using h);exact⟨s+1,by simpa using hs⟩
theorem uO(tk:List Bool)(fr:Nat):((mh tk fr).2= -1/\(mh tk fr).1=tk/\N7 tk=0)\/∃s:Nat,mh tk fr=(tk.set s true,(s:Int))/\tk[s]? =some false:=by
 unfold mh;cases e:mg tk fr tk.length 0 with
 |some s=>exact .inr ⟨s,rfl,zW e⟩
 |none=>
  refine .inl ⟨rfl,rfl,?_⟩;rcases Zo4 (N7 tk)with h|h
  .exact h
  . exfalso;obtain⟨s,hs⟩:=Q5 h;have hl:s<tk.length:=(Za0.1 hs).1;have key:=Hx e ((s+tk.length - fr % tk.length) % tk.length) (Zh3 _) (by rw[Zc4];exact Zi1 _ (by omega));have hm:fr % tk.length<tk.length:=Zi1 _ (by omega);have:(fr+(s+tk.length - fr % tk.length) % tk.length) % tk.length=s:=by
        rw[Nat.add_mod,Nat.mod_mod];rcases Zh8 (s+tk.length - fr % tk.length) tk.length with h1|h1
        .rw[Zj6 h1];rw[show fr % tk.length+(s+tk.length - fr % tk.length)=s+tk.length by omega,Nat.add_mod_right,Zj6 hl]
        .rw[Zo3 h1,Zj6 (by omega:s+tk.length - fr % tk.length - tk.length<tk.length)];rw[show fr % tk.length+(s+tk.length - fr % tk.length - tk.length)=s by omega,Zj6 hl]
    rw[this,Zb5,hs]at key;simp at key
inductive Ch where
 |no
 |I2 (s:Nat)
 |fr (f:Nat)
def fE(tk:List Bool):List Ch->List Int
 |[]=>[]
 |.no::l=> -1::fE tk l
 | .I2 s::l=>(s:Int)::fE tk l
 |.fr f::l=>(mh tk f).2::fE (mh tk f).1 l
theorem Ge:∀(l:List Ch)(tk:List Bool),(fE tk l).length=l.length
 |[],_=>rfl
 |.no::l,tk=>by simp[fE,Ge l]
 | .I2 s::l,tk=>by simp[fE,Ge l]
 |.fr f::l,tk=>by simp[fE,Ge l]
theorem aae(tk:List Bool)(f:Nat):(mh tk f).1.length=tk.length:=by rcases uO tk f with⟨_,h,_⟩|⟨s,h,_⟩<;>rw[h]<;>simp
def Sat(tk:List Bool)(l:List Ch):Prop:=(∀s,Ch.I2 s∈l->tk[s]? =some true)/\∀(i j s:Nat),l[i]? =some (.I2 s)->l[j]? =some (.I2 s)->i=j
theorem Sat.tail{tk:List Bool}{c:Ch}{l:List Ch}(h:Sat tk (c::l)):Sat tk l:=
 ⟨λs hs=>h.1 s (Za7 _ hs),λi j s h1 h2=>by have:=h.2 (i+1) (j+1) s (by simpa using h1) (by simpa using h2);omega⟩
theorem Sat.place{tk:List Bool}{l:List Ch}(h:Sat tk l)(f:Nat):Sat (mh tk f).1 l:=by
 refine⟨λs hs=> ?_,h.2⟩;have:=h.1 s hs;rcases uO tk f with⟨_,e,_⟩|⟨s',e,h'⟩<;>rw[e]
 .exact this
 . by_cases e2:s'=s
   .subst e2;rw[h']at this;cases this
   .rw[Zk9 e2];exact this
theorem vp:∀(l:List Ch)(tk:List Bool),Sat tk l->∀(i:Nat)(v:Int),(fE tk l)[i]? =some v->v= -1\/∃s:Nat,v=(s:Int)/\(tk[s]? =some false\/(tk[s]? =some true/\l[i]? =some (.I2 s)))
 |[],_,_,i,v,h=>by simp[fE]at h
 |c::l,tk,hs,0,v,h=>by
  cases c with
  |no=>simp[fE]at h;exact .inl h.symm
  |I2 s=>simp[fE]at h;exact .inr ⟨s,h.symm,.inr ⟨hs.1 s (Zc3),rfl⟩⟩
  |fr f=>
   simp[fE]at h;rcases uO tk f with⟨e,_,_⟩|⟨s,e,h'⟩
   .    exact .inl (by rw[<-h,e])
   .    exact .inr ⟨s,by rw[<-h,e],.inl h'⟩
 |c::l    ,tk,hs,i+1,v,h=>by
  cases c with
  |no=>simpa using vp l tk hs.tail i v (by simpa [fE]using h)
  |I2 s=>simpa using vp l tk hs.tail i v (by simpa [fE]using h)
  |fr f=>
   have h:(fE (mh tk f).1 l)[i]? =some v:=(by simpa [fE]using h);rcases vp l _ (hs.tail.place f) i v h with e|⟨s,e,h'⟩
   .    exact .inl e
   .    refine .inr ⟨s,e,?_⟩;rcases uO tk f with⟨_,e2,_⟩|⟨s',e2,h2⟩<;>rw[e2]at h'
        .simpa using h'
        . by_cases e3:s'=s
          .subst e3;exact .inl h2
          .rw[Zk9 e3]at h';simpa using h'
theorem A3:∀(l:List Ch)(tk:List Bool),Sat tk l->∀(i j:Nat)(v:Int),i<j->(fE tk l)[i]? =some v->(fE tk l)[j]? =some v->v= -1
 |[],_,_,i,j,v,_,h,_=>by simp[fE]at h
 |c::l    ,tk,hs,0,j+1,v,_,h1,h2=>by
  cases c with
  |no=>simp[fE]at h1;exact h1.symm
  |I2 s=>
   simp[fE]at h1;rcases vp l tk hs.tail j v (by simpa [fE]using h2)with e|⟨s',e,h'|h'⟩
   .    exact e
   .    have:=hs.1 s (Zc3);obtain rfl:s'=s:=(by omega);rw[this]at h';cases h'
   .    obtain rfl:s'=s:=(by omega);have:=hs.2 0 (j+1) s' rfl (by simpa using h'.2);omega
  |fr f=>
   simp[fE]at h1;have h2:(fE (mh tk f).1 l)[j]? =some v:=(by simpa [fE]using h2);rcases uO tk f with⟨e,_,_⟩|⟨s,e,h'⟩
   .    rw[<-h1,e]
   .    rcases vp l _ (hs.tail.place f) j v h2 with e2|⟨s',e2,h3|h3⟩
        .exact e2
        .rw[e]at h1 h3;obtain rfl:s'=s:=(by simp at h1;omega);have hl:=(Za0.1 h').1;simp[Zj9 hl]at h3
        .rw[e]at h1;obtain rfl:s'=s:=(by simp at h1;omega);have:=hs.tail.1 s' (Zb6 h3.2);rw[h']at this;cases this
 |c::l,tk,hs,i+1,j+1,v,TY,h1,h2=>by
  cases c with
  |no=>exact A3 l tk hs.tail i j v (by omega) (by simpa [fE]using h1) (by simpa [fE]using h2)
  |I2 s=>exact A3 l tk hs.tail i j v (by omega) (by simpa [fE]using h1) (by simpa [fE]using h2)
  |fr f=>exact A3 l _ (hs.tail.place f) i j v (by omega) (by simpa [fE]using h1) (by simpa [fE]using h2)
def looks:List Ch->Nat
 |[]=>0
 |.fr _::l=>looks l+1
 |_::l=>looks l
end
section
open Go
section
variable{R:Type}{c:ai}
end
theorem abR{R:Type}(K:AV->Option R){b:Pos}{off len es es':Nat}{cap:Option Nat}{k:IntKind}{i:Nat}(h:i<len):dQ (.idxA es none) [.slice b off len cap es',.int k (i:Int)] K=K (.ptr b (off+i*es)):=
 bZ K (λH n=>by
  simp only[ay.run,mK,iE];have:Nat.blt i len=true:=by rw[Zo8];exact h
  rw[this])
end
end Go.Ai
namespace Go.Ai.Mvs
section
def sm:Nat->(Nat->Nat)->Nat
 |0,_=>0
 |n+1,f=>sm n f+f n
theorem rF{n:Nat}{f g:Nat->Nat}(h:∀i<n,f i=g i):sm n f=sm n g:=by
 induction n with
 |zero=>rfl
 |succ n ih=>rw[sm,sm,ih λi hi=>h i (by omega),h n (by omega)]
theorem XY{n:Nat}{f g:Nat->Nat}(h:∀i<n,f i<=g i):sm n f<=sm n g:=by
 induction n with
 |zero=>exact Za5 _
 |succ n ih=>
  have:=ih λi hi=>h i (by omega)
  have:=h n (by omega);rw[sm,sm];omega
theorem N9(n:Nat)(f g:Nat->Nat):sm n (λi=>f i+g i)=sm n f+sm n g:=by
 induction n with
 |zero=>rfl
 |succ n ih=>rw[sm,sm,sm,ih];omega
theorem Kr{n:Nat}{f:Nat->Nat}(h:∀i<n,f i=0):sm n f=0:=by
 induction n with
 |zero=>rfl
 |succ n ih=>rw[sm,ih λi hi=>h i (by omega),h n (by omega)]
theorem Oa{n g:Nat}(hg:g<n)(v:Nat):sm n (λi=>if i=g then v else 0)=v:=by
 induction n with
 |zero=>omega
 |succ n ih=>
  rw[sm];by_cases e:n=g
  .subst e;rw[Za6 rfl,Kr λi hi=>Za3 (by omega)];omega
  .rw[Za3 e,ih (by omega),Zg6]
theorem adK(n:Nat)(f:Nat->Nat):sm (n+1) f=f 0+sm n λi=>f (i+1):=by
 induction n with
 |zero=>simp[sm]
 |succ n ih=>rw[sm,ih,sm];omega
theorem EB{n:Nat}{f g:Nat->Nat}(h:∀i<n,f i<=g i){z:Nat}(hz:z<n)(h1:f z+1<=g z):sm n f+1<=sm n g:=by
 have a:=N9 n f (λi=>if i=z then 1 else 0);rw[Oa hz]at a;rw[<-a];refine XY λi hi=> ?_
 have:=h i hi;split<;>(try subst_vars)<;>omega
theorem aaf{n:Nat}{f:Nat->Nat}{z:Nat}(hz:z<n)(h:1<=f z):1<=sm n f:=by have:=EB (n:=n) (f:=λ_=>0) (g:=f) (λ_ _=>Zh3 _) hz (by simpa using h);rw[Kr λ_ _=>rfl]at this;exact this
theorem aep{n:Nat}{f:Nat->Nat}{y z:Nat}(hy:y<n)(hz:z<n)(aV:y≠z)(h1:1<=f y)(h2:1<=f z):2<=sm n f:=by have h:=EB (n:=n) (f:=λi=>if i=y then 1 else 0) (g:=f) (λi _=>by split<;>(try subst_vars)<;>omega) hz (by rw[Za3 (Ne.symm aV)];exact h2);rw[Oa hy]at h;exact h
abbrev Q:=Nat->Int
abbrev Ms:=List (Nat×Int×Int)
def lJ(q:Q)(g:Nat)(t:Int):Q:=λi=>if i=g then t else q i
def tY(n:Nat):Q->Ms->Q->Prop
 |q,[],r=>q=r
 |q,(g,f,t)::l,r=>g<n/\f≠t/\q g=f/\(0<=t->∀i,q i≠t)/\tY n (lJ q g t) l r
theorem tY.snoc{n:Nat}:∀{l:Ms}{a q:Q},tY n a l q->∀{g:Nat}{t:Int},g<n->q g≠t->(0<=t->∀i,q i≠t)->tY n a (l++[(g,q g,t)]) (lJ q g t)
 |[],a,q,h,g,t,h1,h2,h3=>by
  have h:a=q:=h;subst h;exact⟨h1,h2,rfl,h3,rfl⟩
 |(x,y,z)::l,a,q,⟨k1,k2,k3,k4,k5⟩,g,t,h1,h2,h3=>⟨k1,k2,k3,k4,k5.snoc h1 h2 h3⟩
def cm:Ms->Nat->Nat
 |[],_=>0
 |x::l,g=>(if g=x.1 then 1 else 0)+cm l g
theorem EC(l:Ms)(x:Nat×Int×Int)(g:Nat):cm (l++[x]) g=cm l g+if g=x.1 then 1 else 0:=by
 induction l with
 |nil=>simp[cm]
 |cons y l ih=>rw[Ze8,cm,cm,ih];omega
theorem tY.len{n:Nat}{r:Q}:∀{l:Ms}{q:Q},tY n q l r->l.length=sm n (cm l)
 |[],q,_=>(Kr λ_ _=>rfl).symm
 |(g,f,t)::l,q,⟨k1,_,_,_,k5⟩=>by have:sm n (cm ((g,f,t)::l))=sm n (λi=>if i=g then 1 else 0)+sm n (cm l):=N9 n _ _;rw[this,Oa k1,Ze2,k5.len];omega
theorem tY.once{n:Nat}{r:Q}{g:Nat}:∀{l:Ms}{q:Q},tY n q l r->q g≠r g->1<=cm l g
 |[],q,h,aV=>absurd (congrFun (show q=r from h) g) aV
 |(x,f,t)::l,q,⟨_,_,_,_,k5⟩,aV=>by
  rw[cm];by_cases e:g=x
  .rw[Za6 e];omega
  .have:=k5.once (g:=g) (by unfold lJ;rw[Za3 e];exact aV);omega
theorem tY.ring{n:Nat}{r:Q}{O:Nat->Prop}:∀{l:Ms}{q:Q},tY n q l r->(∃z,O z)->(∀z,O z->q z≠r z/\0<=r z/\∃y,O y/\q y=r z)->∃z,O z/\2<=cm l z
 |[],q,h,⟨z,hz⟩,hO=>absurd (congrFun (show q=r from h) z) (hO z hz).1
 |(g,   f,t)::l,q,⟨_,k2,k3,k4,k5⟩,hz,hO=>by
  by_cases e:O g
  . obtain⟨_,h0,y,hy,hyr⟩:=hO g e;have ht:t≠r g:=λht=>k4 (by omega) y (by omega)
    have:=k5.once (g:=g) (by unfold lJ;rw[Za6 rfl];exact ht);exact⟨g,e,by rw[cm,Za6 rfl];omega⟩
  . have hu:∀z,O z->lJ q g t z=q z:=λz hz=>Za3 λh:z=g=>e (h ▸hz)
    obtain⟨z,h1,h2⟩:=k5.ring hz λz hz=>by
        obtain⟨a,b,y,c,d⟩:=hO z hz;exact⟨by rw[hu z hz];exact a,b,y,c,by rw[hu y c];exact d⟩
    exact⟨z,h1,by rw[cm];omega⟩
theorem abS{L1:List Int}:∀{L2:List Int},L1.Nodup->(∀x∈L1,x∈L2)->L1.length<=L2.length:=by
 induction L1 with
 |nil=>intro L2 _ _;exact Zh3 _
 |cons x L1 ih=>
  intro L2 hn hs;obtain⟨h1,h2⟩:=Zn8.1 hn;have hx:=hs x (Zc3 ..);have:=ih (L2:=L2.erase x) h2 λy hy=>(List.mem_erase_of_ne (λe:y=x=>h1 (e ▸hy))).2 (hs y (Za7 _ hy))
  rw[List.length_erase_of_mem hx]at this;have:=List.length_pos_of_mem hx;rw[Ze2];omega
section
variable{n:Nat}{a b q:Q}{l:Ms}
def off(b q:Q)(i:Nat):Bool:=decide (q i≠b i)
def Inj(n:Nat)(q:Q):Prop:=∀i j,i<n->j<n->q i=q j->0<=q i->i=j
theorem aag(hb:Inj n b)(h:∀i<n,q i≠b i->0<=b i/\∃j<n,q j=b i):∀i<n,q i≠b i->0<=q i/\∃j<n,q j≠b j/\b j=q i:=by
 have h2:∀i<n,q i≠b i->∃j<n,q j≠b j/\q j=b i:=λi hi aV=>by obtain⟨h0,j,hj,e⟩:=h i hi aV;refine⟨j,hj,λe2=> ?_,e⟩;have:=hb j i hj hi (by omega) (by omega);subst this;exact aV e
 intro j0 hj0 aV;have key:∃j<n,q j≠b j/\b j=q j0:=Zj1 λj4=>by
  have j4:∀j<n,q j≠b j->b j≠q j0:=λj hj h1 h2=>j4 ⟨j,hj,h1,h2⟩
  obtain⟨M,hM⟩:∃M,M=(List.range n).filter (λi=>off b q i):=⟨_,rfl⟩
  have mM:∀i,i∈M↔i<n/\q i≠b i:=λi=>by rw[hM,Zl6,Zj7];unfold off;simp
  have CJ:(M.map b).Nodup:=by have hr:M.Nodup:=(by rw[hM];exact List.Pairwise.filter _ List.nodup_range);unfold List.Nodup;rw[List.pairwise_map];refine List.Pairwise.imp_of_mem (λ{i j} hi hj aV e=>aV ?_) hr;obtain⟨i1,i2⟩:=(mM i).1 hi;obtain⟨j1,j2⟩:=(mM j).1 hj;exact hb i j i1 j1 e (h i i1 i2).1
  have hle:=abS (L2:=(M.filter λi=>decide (i≠j0)).map q) CJ λx hx=>by
   obtain⟨i,hi,rfl⟩:=Ze5.1 hx;obtain⟨i1,i2⟩:=(mM i).1 hi;obtain⟨j,j1,j2,j3⟩:=h2 i i1 i2;refine Ze5.2 ⟨j,Zl6.2 ⟨(mM j).2 ⟨j1,j2⟩,?_⟩,j3⟩;have:j≠j0:=λe=>j4 i i1 i2 (by rw[<-j3,e])
   simpa using this
  rw[Za9,Za9]at hle;have:(M.filter λi=>decide (i≠j0)).length<M.length:=List.length_filter_lt_length_iff_exists.2 ⟨j0,(mM j0).2 ⟨hj0,aV⟩,by simp⟩;omega
 obtain⟨j,h1,h3,h4⟩:=key;have:=(h j h1 h3).1;exact⟨by omega,j,h1,h3,h4⟩
def zX(n:Nat)(a b:Q)(B:Nat->Bool)(k:Nat):Prop:=
 (∀S,tY n a S b->k<=sm n λi=>if B i then 0 else cm S i)/\2*k<=3*sm n λi=>if B i then 0 else if a i=b i then 0 else 1
theorem zX.congr{B B':Nat->Bool}{k:Nat}(h:zX n a b B k)(e:∀i<n,B i=B' i):zX n a b B' k:=by
 refine⟨λS r=> ?_,?_⟩
 .rw[<-rF (f:=λi=>if B i then 0 else cm S i) λi hi=>by rw[e i hi]];exact h.1 S r
 .rw[<-rF (f:=λi=>if B i then 0 else if a i=b i then 0 else 1) λi hi=>by rw[e i hi]];exact h.2
theorem Gf{B B':Nat->Bool}(hs:∀i<n,B' i=true->B i=true)(c:Nat->Nat):sm n (λi=>if B' i then 0 else c i)=sm n (λi=>if B i then 0 else c i)+sm n λi=>if B i&& !B' i then c i else 0:=by
 rw[<-N9];refine rF λi hi=> ?_
 have:=hs i hi;cases h1:B i<;>cases h2:B' i<;>simp_all
theorem zX.ring{B B':Nat->Bool}{k:Nat}(h:zX n a b B k)(hs:∀i<n,B' i=true->B i=true)(hz:∃z<n,B z=true/\B' z=false)(hO:∀z<n,B z=true->B' z=false->a z≠b z/\0<=b z/\∃y<n,B y=true/\B' y=false/\a y=b z):
   zX n a b B' (k+sm n (λi=>if B i&& !B' i then 1 else 0)+1):=by
 have h2:2<=sm n (λi=>if B i&& !B' i then 1 else 0):=by
   obtain⟨z,z1,z2,z3⟩:=hz;obtain⟨e,_,y,y1,y2,y3,y4⟩:=hO z z1 z2 z3;exact aep z1 y1 (λhh=>e (by rw[hh]at e ⊢; rw[<-hh]at y4 ⊢; rw[hh]at y4;exact absurd (by rw[<-hh]at y4;exact y4) (by rw[<-hh]at e;exact e))) (by simp[z2,z3]) (by simp[y2,y3])
 refine⟨λS r=> ?_,?_⟩
 . rw[Gf hs];have h1:=h.1 S r;obtain⟨z,z0,zc⟩:=r.ring (O:=λz=>z<n/\B z=true/\B' z=false) (by obtain⟨z,z1,z2,z3⟩:=hz;exact⟨z,z1,z2,z3⟩) λz ⟨z1,z2,z3⟩=>by
    obtain⟨e,h0,y,y1,y2,y3,y4⟩:=hO z z1 z2 z3;exact⟨e,h0,y,⟨y1,y2,y3⟩,y4⟩
   have:=EB (n:=n) (f:=λi=>if B i&& !B' i then 1 else 0) (g:=λi=>if B i&& !B' i then cm S i else 0) (λi hi=>by
    cases e1:B i<;>cases e2:B' i<;>simp;exact r.once (hO i hi e1 e2).1) z0.1 (by simp[z0.2.1,z0.2.2];omega)
   omega
 . (rw[Gf hs];have h1:=h.2;have:sm n (λi=>if B i&& !B' i then(if a i=b i then 0 else 1)else 0)=sm n (λi=>if B i&& !B' i then 1 else 0):=rF λi hi=>by cases e1:B i<;>cases e2:B' i<;>simp;exact(hO i hi e1 e2).1);omega
theorem zX.one{B:Nat->Bool}{k:Nat}(h:zX n a b B k){g:Nat}(hg:g<n)(hB:B g=true)(aV:a g≠b g):zX n a b (λi=>B i&&decide (i≠g)) (k+1):=by
 have hs:∀i<n,(B i&&decide (i≠g))=true->B i=true:=λi _ h=>by simp at h;exact h.1
 have e:∀c:Nat->Nat,sm n (λi=>if B i&& !(B i&&decide (i≠g))then c i else 0)=c g:=λc=>by
   rw[<-Oa hg (c g)];(refine rF λi hi=> ?_);by_cases e:i=g
   .subst e;simp[hB]
   .cases B i<;>simp[e]
 refine⟨λS r=> ?_,?_⟩
 .rw[Gf hs,e];have:=h.1 S r;have:=r.once aV;omega
 .rw[Gf hs,e,Za3 aV];have:=h.2;omega
def Mode(n:Nat)(a b q:Q)(l:Ms):Prop:=
 ((∀i<n,q i≠b i->q i=a i/\cm l i=0)/\zX n a b (off b q) l.length)\/
 ∃  B w k,zX n a b B k/\(∀z<n,B z=true->a z≠b z/\0<=b z/\∃y<n,B y=true/\a y=b z)/\w<n/\B w=true/\(∀i<n,q i≠b i->B i=true)/\
    l.length=k+1+sm n (λi=>if B i&& !off b q i then 1 else 0)/\(∀i<n,q i≠b i->i≠w->q i=a i/\cm l i=0)/\(q w≠b w->q w= -1/\cm l w<=1)
structure Inv(n:Nat)(a b q:Q)(l:Ms):Prop where
 run:tY n a l q
 two:∀g,cm l g<=2
 WA:∀g,cm l g≠0->a g≠b g
 mode:Mode n a b q l
theorem Inv.start:Inv n a b a []:=⟨rfl,λ_=>Zh3 _,λ_ h=>absurd rfl h,.inl ⟨λ_ _ _=>⟨rfl,rfl⟩,λ_ _=>Zh3 _,Zh3 _⟩⟩
theorem Mode.settle(h:Mode n a b q l)(hb:Inj n b)(hw:∀i<n,q i≠b i->0<=q i/\∃j<n,q j≠b j/\b j=q i):(∀i<n,q i≠b i->q i=a i/\cm l i=0)/\zX n a b (off b q) l.length:=by
 rcases h with h|⟨B,w,k,hN,hc,hwn,hBw,hs,hl,hk,hq⟩
 .exact h
 . have hwb:q w=b w:=Zj1 λaV=>by have:=(hw w hwn aV).1;have:=(hq aV).1;omega
   have hi:∀i<n,q i≠b i->q i=a i/\cm l i=0:=λi hi aV=>hk i hi aV λe=>aV (e ▸hwb)
   refine⟨hi,?_⟩;have hN':=hN.ring (B':=off b q) (λi hi h=>hs i hi (by simpa [off]using h)) ⟨w,hwn,hBw,by simp[off,hwb]⟩ λz hz h1 h2=>by
    obtain⟨e1,e2,y,y1,y2,y3⟩:=hc z hz h1;refine⟨e1,e2,y,y1,y2,?_,y3⟩;cases ho:off b q y with
    |false=>rfl
    |   true=>
        have aV:q y≠b y:=(by simpa [off]using ho);obtain⟨_,j,j1,j2,j3⟩:=hw y y1 aV;have e:=(hi y y1 aV).1;have:j=z:=hb j z j1 hz (by omega) (by omega);subst this;exact absurd (show off b q j=true by simpa [off]using j2) (by rw[h2];simp)
   rwa [show l.length=k+sm n (λi=>if B i&& !off b q i then 1 else 0)+1 by omega]
theorem Inv.go(h:Inv n a b q l){g:Nat}(hg:g<n)(aV:q g≠b g)(hf:0<=b g->∀i,q i≠b g):Inv n a b (lJ q g (b g)) (l++[(g,q g,b g)]):=by
 have ho:∀i,off b (lJ q g (b g)) i=(off b q i&&decide (i≠g)):=λi=>by
   unfold off lJ;by_cases e:i=g
   .subst e;simp
   .simp[e]
 have hu:∀i,lJ q g (b g) i≠b i->i≠g/\q i≠b i:=λi hi=>by
   have:off b (lJ q g (b g)) i=true:=(by simpa [off]using hi);rw[ho]at this;simp[off]at this;exact⟨this.2,this.1⟩
 have hog:off b q g=true:=by simpa [off]using aV
 have I3:∀i,i≠g->cm (l++[(g,q g,b g)]) i=cm l i:=λi hi=>by rw[EC,Za3 hi];rfl
 have WE:cm (l++[(g,q g,b g)]) g=cm l g+1:=by rw[EC,Za6 rfl]
 have hup:∀i,i≠g->lJ q g (b g) i=q i:=λi hi=>by unfold lJ;rw[Za3 hi]
 have core:cm l g<=1/\a g≠b g:=by
   rcases h.mode with⟨h1,_⟩|⟨B,w,k,_,hc,_,_,hs,_,hk,hq⟩
   .obtain⟨e1,e2⟩:=h1 g hg aV;exact⟨by omega,by rw[<-e1];exact aV⟩
   . refine⟨?_,(hc g hg (hs g hg aV)).1⟩;by_cases e:g=w
     .  subst e;exact(hq aV).2
     .  have:=(hk g hg aV e).2;omega
 refine⟨h.run.snoc hg aV hf,λi=> ?_,λi hi=> ?_,?_⟩
 . by_cases e:i=g
   .subst e;rw[WE];omega
   .rw[I3 i e];exact h.two i
 . by_cases e:i=g
   .subst e;exact core.2
   .rw[I3 i e]at hi;exact h.WA i hi
 . rcases h.mode with⟨h1,hN⟩|⟨B,w,k,hN,hc,hwn,hBw,hs,hl,hk,hq⟩
   . refine .inl ⟨λi hi hh=> ?_,?_⟩
     .  obtain⟨x1,x2⟩:=hu i hh;rw[hup i x1,I3 i x1];exact h1 i hi x2
     .  rw[Zd2];exact(hN.one hg hog core.2).congr λi _=>(ho i).symm
   . refine .inr ⟨B,w,k,hN,hc,hwn,hBw,λi hi hh=>hs i hi (hu i hh).2,?_,λi hi hh hw=> ?_,λhh=> ?_⟩
     .  rw[Zd2,hl];have hBg:=hs g hg aV;have:sm n (λi=>if B i&& !off b (lJ q g (b g)) i then 1 else 0)=sm n (λi=>if B i&& !off b q i then 1 else 0)+sm n (λi=>if i=g then 1 else 0):=by
         rw[<-N9];(refine rF λi _=> ?_);rw[ho];by_cases e:i=g
         .subst e;simp[hBg,hog]
         .simp[e]
        rw[this,Oa hg];simp;omega
     .  obtain⟨x1,x2⟩:=hu i hh;rw[hup i x1,I3 i x1];exact hk i hi x2 hw
     .  obtain⟨x1,x2⟩:=hu w hh;rw[hup w x1,I3 w x1];exact hq x2
theorem Inv.wait(h:Inv n a b q l)(hb:Inj n b)(cG:∀i<n,q i≠b i->0<=b i/\∃j<n,q j=b i){w:Nat}(hw:w<n)(aV:q w≠b w):Inv n a b (lJ q w (-1)) (l++[(w,q w,-1)])/\0<=q w:=by
 have W:=aag hb cG;obtain⟨hi,hN⟩:=h.mode.settle hb W;have hbw:=(cG w hw aV).1;have hq:=(W w hw aV).1;have ho:∀i,off b (lJ q w (-1)) i=off b q i:=λi=>by
   unfold off lJ;by_cases e:i=w
   .subst e;have:((-1:Int)≠b i):=(by omega);simp[this,aV]
   .simp[e]
 have I3:∀i,i≠w->cm (l++[(w,q w,-1)]) i=cm l i:=λi hi=>by rw[EC,Za3 hi];rfl
 have WE:cm (l++[(w,q w,-1)]) w=1:=by rw[EC,Za6 rfl,(hi w hw aV).2]
 have hup:∀i,i≠w->lJ q w (-1) i=q i:=λi hi=>by unfold lJ;rw[Za3 hi]
 have hu:∀i,lJ q w (-1) i≠b i->q i≠b i:=λi hh=>by have:off b (lJ q w (-1)) i=true:=(by simpa [off]using hh);rw[ho]at this;simpa [off]using this
 refine⟨⟨h.run.snoc hw (by omega) (λh=>by omega),λi=> ?_,λi hh=> ?_,.inr ⟨off b q,w,l.length,hN,λz hz h1=> ?_,hw,by simpa [off]using aV,λi hi hh=>by simpa [off]using hu i hh,?_,λi Ho hh hiw=> ?_,λ_=>⟨by unfold lJ;rw[Za6 rfl],by rw[WE];omega⟩⟩⟩,hq⟩
 . by_cases e:i=w
   .subst e;rw[WE];omega
   .rw[I3 i e];exact h.two i
 . by_cases e:i=w
   .subst e;rw[<-(hi i hw aV).1];exact aV
   .rw[I3 i e]at hh;exact h.WA i hh
 . have z1:q z≠b z:=(by simpa [off]using h1);obtain⟨z2,j,j1,j2⟩:=cG z hz z1;have j3:q j≠b j:=λe=>by have:=hb j z j1 hz (by omega) (by omega);subst this;exact z1 e
   refine⟨by rw[<-(hi z hz z1).1];exact z1,z2,j,j1,by simpa [off]using j3,by rw[<-(hi j j1 j3).1];exact j2⟩
 . (rw[Zd2];have:sm n (λi=>if off b q i&& !off b (lJ q w (-1)) i then 1 else 0)=0:=Kr λi _=>by rw[ho];cases off b q i<;>rfl);rw[this];rfl
 .rw[hup i hiw,I3 i hiw];exact hi i Ho (hu i hh)
theorem Inv.fin(h:Inv n a b q l)(hb:Inj n b)(cG:∀i<n,q i=b i):(∀S,tY n a S b->l.length<=S.length)/\2*l.length<=3*sm n λi=>if a i=b i then 0 else 1:=by
 obtain⟨_,hN⟩:=h.mode.settle hb λi hi aV=>absurd (cG i hi) aV
 have ho:∀i<n,off b q i=false:=λi hi=>by simp[off,cG i hi]
 refine⟨λS r=> ?_,?_⟩
 . rw[r.len];have:=hN.1 S r
   rwa [rF (g:=cm S) λi hi=>by rw[ho i hi];rfl]at this
 . have:=hN.2
   rwa [rF (g:=λi=>if a i=b i then 0 else 1) λi hi=>by rw[ho i hi];rfl]at this
def tZ(n:Nat)(b q:Q):Nat:=sm n λi=>if q i=b i then 0 else if q i<0 then 1 else 2
theorem aeq:tZ n b q<=2*n:=by
 have h:tZ n b q<=sm n λ_=>2:=XY λi _=>by split<;>(try split)<;>omega
 have:∀n,sm n (λ_=>2)=2*n:=λn=>by
  induction n with
  |zero=>rfl
  |succ n ih=>rw[sm,ih];omega
 rw[this]at h;exact h
theorem aer{g:Nat}(hg:g<n)(aV:q g≠b g):tZ n b (lJ q g (b g))+1<=tZ n b q:=by
 refine EB (λi hi=> ?_) hg ?_
 . unfold lJ;by_cases e:i=g
   .subst e;simp
   .simp[e]
 .unfold lJ;rw[Za6 rfl,Za6 rfl,Za3 aV];split<;>omega
theorem abT{g:Nat}(hg:g<n)(aV:q g≠b g)(h0:0<=q g)(hb:0<=b g):tZ n b (lJ q g (-1))+1<=tZ n b q:=by
 refine EB (λi hi=> ?_) hg ?_
 . unfold lJ;by_cases e:i=g
   .subst e;rw[Za6 rfl,Za3 (by omega),Za3 aV];split<;>split<;>omega
   .simp[e]
 .unfold lJ;rw[Za6 rfl,Za3 (by omega),Za3 aV];split<;>split<;>omega
end
end
end Go.Ai.Mvs
namespace Go.Ai
section
open Go
structure Rd(s:St)(es:Nat)(L:AV)(i:Nat)(b:Pos)(o:Nat)(r:List AV):Prop where
 st:∀{R:Type}(c:ai)(K:AV->St->Option R)(k:IntKind)(s1:St),ak c (.idxA es none) [L,.int k (i:Int)] s1 K=K (.ptr b o) s1
 pr:∀{R:Type}(K:AV->Option R)(k:IntKind),dQ (.idxA es none) [L,.int k (i:Int)] K=K (.ptr b o)
 at':∀(j:Nat)(u:AV),r[j]? =some u->((cellsOf (s.heap.get b)).bind λcs=>cs[o+j]?)=some u
 all:((cellsOf (s.heap.get b)).bind λcs=>cut cs o es)=some r
theorem QS.rd{s:St}{es:Nat}{v:AV}{rows:List (List AV)}(h:QS es s v rows)(hr:∀r∈rows,r.length=es){i:Nat}{r:List AV}(hi:rows[i]? =some r):∃b o,Rd s es v i b o r:=by
 obtain⟨jy,rfl⟩:=Za0.1 hi;have hlen:=hr _ (Zb9 jy);rcases h with⟨rfl,h⟩|⟨b,off,cap,cs,rfl,g1,g2,g3,g4⟩|⟨b,off,rfl,h⟩
 .rw[h]at jy;simp at jy
 rotate_left
 .rw[h]at jy;simp at jy
 have hmul:(i+1)*es<=rows.length*es:=Zf9 _ jy;rw[Zh2]at hmul;have at0:∀(j:Nat)(u:AV),rows[i][j]? =some u->cs[off+i*es+j]? =some u:=λj u hj=>by have Z8:j<es:=(by rw[<-hlen];exact(Za0.1 hj).1);have:=Go.Ai.yF hr i j rows[i] u (H4 jy) hj;rw[<-g3,Zc0,Za6 (by omega),Zc6]at this;rw[<-this];congr 1;omega
 refine⟨b,off+i*es,λc K k s1=>uM c K s1 jy,λK k=>abR K jy,λj u hj=>by rw[g1];exact at0 j u hj,?_⟩;rw[g1];show cut cs (off+i*es) es=some rows[i];unfold cut;rw[ff,H5 (by omega)];refine congrArg some ?_;apply Zi0;intro j;by_cases hj:j<es
 .rw[Zc0,Za6 hj,Zc6];exact(at0 j (rows[i]'jy)[j] (H4 (by omega))).trans (H4 (by omega)).symm
 .rw[Zb4 (by simp;omega),Zb4 (by omega)]
theorem Rd.one{s:St}{L x:AV}{i:Nat}{b:Pos}{o:Nat}(h:Rd s 1 L i b o [x]):((cellsOf (s.heap.get b)).bind λcs=>cs[o]?)=some x:=h.at' 0 x rfl
theorem QS.Lg{s:St}{v:AV}{l:List AV}(h:QS 1 s v (l.map TO)){i:Nat}{x:AV}(hx:l[i]? =some x):∃b o,Rd s 1 v i b o [x]:=
 h.rd (abO l) (by rw[Zb8,hx];rfl)
theorem QS.ax{es:Nat}{s s':St}{v:AV}{rows:List (List AV)}(h:QS es s v rows)(g:Grew s s'):QS es s' v rows:=h.mono λb x _ hx=>g.get hx
section
variable{c:ai}{R:Type}
theorem ac8{x:Int}(h1:0<=x)(h2:x<=18446744073709551615):aq .u64 x=x:=by
 unfold aq Qk Ql;simp only;split
 . split
   .rfl
   .contradiction
 .contradiction
end
theorem T.Ml{α:Type}{x:α}:∀(p:Pos)(t:T α),t.get p=some x->T.put (some x) p t=t
 |p,.e,h=>by rw[T.dm]at h;cases h
 |.h,.n l v r,h=>by have h:v=some x:=h;subst h;rfl
 | .o p,.n l v r,h=>by
   have h:l.get p=some x:=h;simp only[T.put];rw[T.Ml p l h]
 | .i p,.n l v r,h=>by
   have h:r.get p=some x:=h;simp only[T.put];rw[T.Ml p r h]
theorem aes{s:St}{p:Pos}{b:AB}(h:s.heap.get p=some b):cI s p b=s:=by
 unfold cI;rw[T.Ml p s.heap h]
end
end Go.Ai
