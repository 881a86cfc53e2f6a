/- The program as plain functions. -/
import Derived.Test.YtoeleelojgimfaaGreatDoorWEvalD
import Derived.WalkKit
import Derived.OpenShut
import Derived.ProofKit
import Derived.ShutString
set_option linter.all false
namespace Go.Ai
section
open Go Go.RowKit
def Jq(c c':ai):Prop:=∀f args st r,c f args st=some r->c' f args st=some r
theorem Jq.refl(c:ai):Jq c c:=λ_ _ _ _ h=>h
section
variable{c c':ai}
theorem Ep(h:Jq c c'){k:ay}{xs:List AV}{st:St}{r:AV×St}(e:bS c k xs st=some r):bS c' k xs st=some r:=by
 unfold bS at e ⊢;cases hr:k.run (λb=>st.heap.get b) st.next xs with
 |none=>simp[hr]at e
 |some x=>cases x with
  |val v=>simpa [hr]using e
  |aD v d s n=>simpa [hr]using e
  |call f args=>simp only[hr]at e ⊢; exact h _ _ _ _ e
theorem Iy(h:Jq c c'):∀(os:List bk)(fr:Fr)(st:St)(r:Fr×St),iA c os fr st=some r->iA c' os fr st=some r
 |[],_,_,_,e=>e
 |o::os,fr,st,r,e=>by
  unfold iA at e ⊢;cases hw:bG fr o.guard with
  |none=>simp[hw]at e
  |some b=>cases b with
   |false=>simp only[hw]at e ⊢; exact Iy h _ _ _ _ e
   |    true=>
        simp only[hw]at e ⊢;cases hx:dL fr o.xs with
        |none=>simp[hx]at e
        |some xs=>
         simp only[hx]at e ⊢;cases hs:bS c o.k xs st with
         |none=>simp[hs]at e
         |some p=>simp only[hs]at e;simp only[Ep h hs];exact Iy h _ _ _ _ e
theorem Kc (h:Jq c c'):∀(os:List (Nat×bk))(recs:List Rec)(base:T AB)(fr:Fr)(st:St)(r:Fr×St),cF c os recs base fr st=some r->cF c' os recs base fr st=some r
 |[],_,_,_,_,_,e=>e
 |(j,   o)::os,recs,base,fr,st,r,e=>by
  have ih:=Kc h os;unfold cF at e ⊢;cases hw:bG fr o.guard with
  |none=>simp[hw]at e
  | some b=>cases b with
    |false=>simp only[hw]at e ⊢; exact ih _ _ _ _ _ e
    |   true=>
        simp only[hw]at e ⊢;cases hx:dL fr o.xs with
        |none=>simp[hx]at e
        |some xs=>
         simp only[hx]at e ⊢;cases hc:o.cls with
         |  aD=>
            simp only[hc]at e ⊢;cases hs:bS c o.k xs st with
            |none=>simp[hs]at e
            |some p=>simp only[hs]at e;simp only[Ep h hs];exact ih _ _ _ _ _ e
         |  new=>
            simp only[hc]at e ⊢;split at e<;>first|(cases e;done)|exact ih _ _ _ _ _ e
         |  pure=>
            simp only[hc]at e ⊢;split at e<;>(try split at e)<;>(try split at e)<;>first|(cases e;done)|(simp only[*];exact ih _ _ _ _ _ e)|exact ih _ _ _ _ _ e
         |  read=>
            simp only[hc]at e ⊢;split at e<;>(try split at e)<;>(try split at e)<;>first|(cases e;done)|(simp only[*];exact ih _ _ _ _ _ e)|exact ih _ _ _ _ _ e
theorem Iz(h:Jq c c'):∀(n m:Nat),n<=m->∀(a:AC)(fr:Fr)(st:St)(r:iL×Fr×St),exec c n a fr st=some r->exec c' m a fr st=some r
 |0,_,_,_,_,_,_,e=>by simp[exec]at e
 |n+1,0,hm,_,_,_,_,_=>by omega
 |n+    1,m+1,hm,a,fr,st,r,e=>by
  have ih:=Iz h n m (by omega);cases a<;>simp only[exec,aZ]at e ⊢
  case skip=>exact e
  case exit=>exact e
  case ret=>exact e
  case region ops=>
   cases ho:iA c ops fr st with
   |none=>simp[ho]at e
   |some p=>simp only[ho]at e;simp only[Iy h _ _ _ _ ho];exact e
  case draw ops=>
   cases ho:cF c ops [] st.heap fr st with
   |none=>simp[ho]at e
   |some p=>simp only[ho]at e;simp only[Kc h _ _ _ _ _ _ ho];exact e
  case seq a b=>
   cases ha:exec c n a fr st with
   |none=>simp[ha]at e
   |    some p=>
        obtain⟨ex,bJ,aJ⟩:=p;simp only[ha]at e;simp only[ih _ _ _ _ ha];cases ex<;>first|exact e|exact ih _ _ _ _ e
  case cond x a b=>
   split at e
   .    exact ih _ _ _ _ e
   .    exact ih _ _ _ _ e
   .    cases e
  case block id a=>
   cases ha:exec c n a fr st with
   |none=>simp[ha]at e
   |    some p=>
        obtain⟨ex,bJ,aJ⟩:=p;simp only[ha]at e;simp only[ih _ _ _ _ ha];cases ex<;>exact e
  case loop a=>
   cases ha:exec c n a fr st with
   |none=>simp[ha]at e
   |    some p=>
        obtain⟨ex,bJ,aJ⟩:=p;simp only[ha]at e;simp only[ih _ _ _ _ ha];cases ex<;>first|exact e|exact ih _ _ _ _ e
end
def Plain(v:AV):Prop:=∀(ρ ρ':Pos->Loc)(n n':Nat)(C:Cells)(x:Value),aj ρ n C v x->aj ρ' n' C v x
theorem Plain.bool(b:Bool):Plain (.bool b):=λ_ _ _ _ _ _ h=>by cases h;exact .bool b
theorem Plain.int(k:IntKind)(i:Int):Plain (.int k i):=λ_ _ _ _ _ _ h=>by cases h;exact .int k i
theorem Plain.str(s:List Nat):Plain (.str s):=λ_ _ _ _ _ _ h=>by cases h with|str _ bs h=>exact .str s bs h
theorem Plain.ah:Plain .ah:=λ_ _ _ _ _ _ h=>by cases h;exact .ah
theorem Plain.iI:Plain .iI:=λ_ _ _ _ _ _ h=>by cases h;exact .iI
theorem Plain.func(f:FuncId){a b:List AV}(ha:∀v∈a,Plain v)(hb:∀v∈b,Plain v):Plain (.func f a b):=λ_ _ _ _ _ _ h=>by
 cases h with
 |func _ _ _ a' b' hx hy h1 h2=>exact .func f a b a' b' hx hy (λi v x hv hx=>ha v (Zb6 hv) _ _ _ _ _ _ (h1 i v x hv hx)) (λi v x hv hx=>hb v (Zb6 hv) _ _ _ _ _ _ (h2 i v x hv hx))
theorem Plain.tuple{l:List AV}(hl:∀v∈l,Plain v):Plain (.tuple l):=λ_ _ _ _ _ _ h=>by
 cases h with
 |tuple _ cs hx h1=>exact .tuple l cs hx λi v x hv hx=>hl v (Zb6 hv) _ _ _ _ _ _ (h1 i v x hv hx)
theorem Plain.agg{l:List AV}(hl:∀v∈l,Plain v):Plain (.agg l):=λ_ _ _ _ _ _ h=>by
 cases h with
 |agg _ cs hx h1=>exact .agg l cs hx λi v x hv hx=>hl v (Zb6 hv) _ _ _ _ _ _ (h1 i v x hv hx)
theorem Plain.fl{xs:List (List AV)}{es:Nat}(hl:∀cs∈xs,∀v∈cs,Plain v):Plain (.fl xs es):=λ_ _ _ _ _ _ h=>by
 cases h with
 |fl _ _ aG a cell h1 h2 h3 h4 h5=>exact .fl xs es aG a cell h1 h2 h3 h4 λi j cs v hi hj=>hl cs (Zb6 hi) v (Zb6 hj) _ _ _ _ _ _ (h5 i j cs v hi hj)
def bF(st st':St):Prop:=∀b x,st.heap.get b=some x->st'.heap.get b=some x
theorem bF.refl(st:St):bF st st:=λ_ _ h=>h
theorem bF.trans{a b c:St}(h:bF a b)(k:bF b c):bF a c:=λ_ _ e=>k _ _ (h _ _ e)
theorem aj.down{ρ ρ':Pos->Loc}{n n':Nat}{C:Cells}{v:AV}{x:Value}(h:aj ρ' n' C v x):∀{y:Value},aj ρ n C v y->(∀b:Pos,b.toNat<n->ρ' b=ρ b)->aj ρ n C v x:=by
 induction h with
 |bool b=>exact λh _=>.bool b
 |int k i=>exact λh _=>.int k i
 |str s bs h=>exact λ_ _=>.str s bs h
 |gP=>exact λ_ _=>.gP
 |ptr b off h=>
  intro y h aR;cases h with
  |ptr _ _ h'=>rw[aR b h'];exact .ptr b off h'
 |fp xs i j es aq base cell hl hc hv ih=>
  intro y h aR;cases h with
  |fp _ _ _ es' ye base' adx hl' rY vN=>exact .fp xs i j es aq base cell hl hc λi j cs v hi hj=>ih i j cs v hi hj (vN i j cs v hi hj) aR
 |ah=>exact λ_ _=>.ah
 |slice  b off len cap es aG a hl hc ha hk=>
  intro y h aR;cases h with
  |slice _ _ _ _ _ Vt a' hl' rY ha' jB=>
   refine .slice b off len cap es aG a hl hc (λh0=> ?_) jB;obtain⟨h1,h2,h3⟩:=ha h0;have hb:b.toNat<n:=by
        cases cap with
        |none=>exact jB rfl
        |some c=>
         have e1:=hc c rfl;have e2:=rY c rfl;exact(ha' (by rw[<-e2,e1];exact h0)).1
   rw[aR b hb]at h2 h3;exact⟨hb,h2,h3⟩
 |fl xs es aG a cell hl hs dc hc hv ih=>
  intro y h aR;cases h with
  |fl _ _ Vt a' adx hl' kR hes' rY vN=>exact .fl xs es aG a cell hl hs dc hc λi j cs v hi hj=>ih i j cs v hi hj (vN i j cs v hi hj) aR
 |nj=>exact λ_ _=>.nj
 |map b h=>
  intro y h aR;cases h with
  |map _ h'=>rw[aR b h'];exact .map b h'
 |func f x y x' y' hx hy h1 h2 Wz WA=>
  intro z h aR;cases h with
  |func _ _ _ a' b' kx ky k1 k2=>
   refine .func f x y x' y' hx hy (λi v x hv pU=> ?_) (λi v x hv pU=> ?_)
   .    have hi:i<a'.size:=(by rw[<-kx];exact(Za1.1 hv).1);exact Wz i v x hv pU (k1 i v _ hv (Ze6 hi)) aR
   .    have hi:i<b'.size:=(by rw[<-ky];exact(Za1.1 hv).1);exact WA i v x hv pU (k2 i v _ hv (Ze6 hi)) aR
 |iI=>exact λ_ _=>.iI
 |th=>exact λ_ _=>.th
 |iface t v x _ ih=>
  intro y h aR;cases h with
  |iface _ _ x' h'=>exact .iface t v x (ih h' aR)
 |agg l cs hx h1 ih=>
  intro y h aR;cases h with
  |agg _ kH kx k1=>
   (refine .agg l cs hx λi v x hv pU=> ?_);have hi:i<kH.size:=(by rw[<-kx];exact(Za1.1 hv).1);exact ih i v x hv pU (k1 i v _ hv (Ze6 hi)) aR
 |tuple l cs hx h1 ih=>
  intro y h aR;cases h with
  |tuple _ kH kx k1=>
   (refine .tuple l cs hx λi v x hv pU=> ?_);have hi:i<kH.size:=(by rw[<-kx];exact(Za1.1 hv).1);exact ih i v x hv pU (k1 i v _ hv (Ze6 hi)) aR
end
noncomputable section
open Go Go.RowKit
def tidy(st:St)(r:AV×St):AV×St:=open Classical in if Plain r.1/\bF st r.2 then(r.1,st)else r
theorem Xt{ρ:Pos->Loc}{C:Cells}{st:St}{w w':World}{r:AV×St}{x:Value}(hW:aV ρ C st w)(h:kT ρ C st w r.1 r.2 x w'):
   kT ρ C st w (tidy st r).1 (tidy st r).2 x w':=by
 unfold tidy;split
 . rename_i hp;obtain⟨ρ',hv,aR,hn,dY,hE⟩:=h;refine⟨ρ,hp.1 _ _ _ _ _ _ hv,λ_ _=>rfl,Za4 _,⟨λb y hb=> ?_,hW.inj,λa u ha=>⟨(dY.cZ a u ha).1,(hW.cZ a u ha).2⟩,dY.whole⟩,⟨hE.os,hE.tape,hE.output,hE.size,hE.block,λb y hb=>.inl ⟨b,y,hb,rfl⟩⟩⟩;obtain⟨g1,g2,g3⟩:=hW.live b y hb;obtain⟨_,_,k3⟩:=dY.live b y (hp.2 b y hb);refine⟨g1,Zc5 g2 hE.size,?_⟩;rw[aR b g1]at k3;cases y with
   |cells cs fz=>
    obtain⟨c,e,fr,q1,q2,q3,q4,q5⟩:=k3;obtain⟨c0,e0,bK,p1,p2,p3,p4,p5⟩:=g3;refine⟨c,e,fr,q1,q2,q3,⟨q4.1,λi v x hv hx=> ?_⟩,q5⟩;obtain⟨y0,hy0,CW⟩:=p4.get hv;exact(q4.2 i v x hv hx).down CW aR
   |map es clock=>
    obtain⟨es',q1,q2,q3⟩:=k3;obtain⟨Xu,p1,p2,p3⟩:=g3;refine⟨es',q1,q2,λi e e' he jP=> ?_⟩;obtain⟨a1,a2,a3⟩:=q3 i e e' he jP;have hi:i<Xu.size:=(by rw[<-p2];exact(Za1.1 he).1);obtain⟨b1,b2,_⟩:=p3 i e _ he (Ze6 hi);exact⟨a1.down b1 aR,a2.down b2 aR,a3⟩
   |iJ s pos=>exact k3
   |typed t cs=>
    obtain⟨c,fr,q1,q2,q3,q4,q5⟩:=k3;obtain⟨c0,bK,p1,p2,p3,p4,p5⟩:=g3;refine⟨c,fr,q1,q2,q3,⟨q4.1,λi v x hv hx=> ?_⟩,q5⟩;obtain⟨y0,hy0,CW⟩:=p4.get hv;exact(q4.2 i v x hv hx).down CW aR
 .exact h
theorem Xv{st:St}{r:AV×St}(h:st.next.toNat<=r.2.next.toNat):st.next.toNat<=(tidy st r).2.next.toNat:=by
 unfold tidy;split
 .exact Za4 _
 .exact h
def pV(call:ai)(m:Nat)(F:cj)(args:List AV)(st:St):Option (AV×St):=
 match Nat.beq args.length F.nparams with
 |  true=>match exec call m F.code (params 0 args .e) st with
    |some (.normal,fr,st')=>match b9 (λb=>st'.heap.get b) fr F.results with
     |some vs=>some (fR vs,st')
     |none=>none
    |some (.ret,fr,st')=>match b9 (λb=>st'.heap.get b) fr F.results with
     |some vs=>some (fR vs,st')
     |none=>none
    |_=>none
 |false=>none
def pW(O:dQ)(G:T cj)(m:Nat):Nat->ai
 |0=>λ_ _ _=>none
 |  d+1=>λf args st=>match O f with
    |some s=>s args st
    |none=>match G.get (key f)with
     |some F=>(pV (pW O G m d) m F args st).map (tidy st)
     |none=>none
section
variable{P:Program}{tt:TT}{C:Cells}
theorem Vv(hT:bH P tt){G:T cj}(hG:KV P tt G){call:ai}(bE:ey P C call)(fk:o7 P tt C call)(m:Nat){f:FuncId}{F:cj}(hF:G.get (key f)=some F)
   {ρ:Pos->Loc} {st:St} {w:World} {args:List AV} {v:AV} {st':St} {bC:List Value} (h:pV call m F args st=some (v,st')) (hW:aV ρ C st w) (od:av ρ st.next.toNat C args bC):
   Reaches P (kT ρ C st w v st') ((callFunc f bC.toArray).run P w):=by
 unfold pV at h;split at h<;>first|(cases h;done)|skip
 rename_i hlen;have hlen:=Za0 hlen;obtain⟨fn,yE,iH,Ab⟩:=hG _ _ hF;rw[eo,Ze9]at yE;unfold PY at Ab;split at Ab<;>first|(cases Ab;done)|skip
 rename_i c hb;split at Ab<;>first|(cases Ab;done)|skip
 rename_i ac rs QY Xj hle;simp only[H0]at Ab;subst Ab;simp only at h hlen;have hle:=Za3 hle;have bQ:(callFunc f bC.toArray).run P w= .ok (.enter f bC.toArray) w:=by
   have Ac:¬fn.name= "runtime.NumGoroutine" :=(by simpa using iH);simp[callFunc,yE,Ac,hb]
 rw[bQ];simp only[Reaches];refine calls_of_wp yE hb (dZ.wp ?_);have eD:bC.length<=fn.ntmps:=by rw[<-od.1,hlen];exact hle
 have hS:lS fn.ntmps ρ C (params 0 args .e) st { tmps:=bC.toArray++Array.replicate (fn.ntmps - bC.toArray.size) undef,defers:=[] } w:=by
   refine⟨hW,?_,?_,rfl⟩
   .refine uD args bC 0 .e od (λj x hx=> ?_) (λp v hp=>by rw[T.cY]at hp;cases hp);have hj:j<bC.length:=(Za1.1 hx).1;rw[Zc7,Zg6 (by simpa using hj)];simpa using hx
   .simp;omega
 split at h<;>first|(cases h;done)|skip
 .rename_i bJ aJ h1;(split at h<;>first|(cases h;done)|skip);rename_i vs gQ;simp only[H0,Zb3]at h;obtain⟨rfl,rfl⟩:=h;(refine(ou hT bE fk m).1 c ac _ bJ st aJ .normal ρ _ w _ QY h1 hS λa' w' hp=> ?_);obtain⟨dB,qu,k1,k2,k3⟩:=hp;obtain⟨y,yF,zU⟩:=o8 hT qu.W qu.F Xj gQ;exact⟨qu.defers,y,yF,dB,zU,k1,k2,qu.W,k3⟩
 .rename_i bJ aJ h1;(split at h<;>first|(cases h;done)|skip);rename_i vs gQ;simp only[H0,Zb3]at h;obtain⟨rfl,rfl⟩:=h;(refine(ou hT bE fk m).1 c ac _ bJ st aJ .ret ρ _ w _ QY h1 hS λa' w' hp=> ?_);obtain⟨dB,qu,k1,k2,k3⟩:=hp;obtain⟨y,yF,zU⟩:=o8 hT qu.W qu.F Xj gQ;exact⟨qu.defers,y,yF,dB,zU,k1,k2,qu.W,k3⟩
theorem Xw{call:ai}(hm:kU call){m:Nat}{F:cj}{args:List AV}{st:St}{v:AV}{st':St}(h:pV call m F args st=some (v,st')):st.next.toNat<=st'.next.toNat:=by
 unfold pV at h;split at h<;>first|(cases h;done)|skip
 split at h<;>first|(cases h;done)|skip
 all_goals
  rename_i h1;split at h<;>first|(cases h;done)|skip
  simp only[H0,Zb3]at h;obtain⟨rfl,rfl⟩:=h;exact Bx hm _ _ _ _ _ _ _ h1
theorem LF{O:dQ}{G:T cj}(hO:jU O)(m:Nat):∀d,kU (pW O G m d)
 |0=>λf args st v st' h=>by simp[pW]at h
 |d +1=>λf args st v st' h=>by
  unfold pW at h;split at h
  .rename_i s hs;exact hO _ _ hs _ _ _ _ h
  . (split at h<;>first|(cases h;done)|skip);simp only[Zd4]at h;obtain⟨r,hr,he⟩:=h;have:=Xw (LF hO m d) (v:=r.1) (st':=r.2) hr;have:=Xv this;rw[he]at this;exact this
theorem Jr(hm:P.follows .mixedOrders=true)(hT:bH P tt){O:dQ}{G:T cj}(hO:oc P C O)(GJ:jU O)(hG:KV P tt G)(m:Nat):∀d,ey P C (pW O G m d)
 |0=>λρ st w f args v st' bC h=>by simp[pW]at h
 |d +1=>by
  intro ρ st w f args v st' bC h hW od;have ih:=Jr hm hT hO GJ hG m d;unfold pW at h;split at h
  .rename_i s hs;exact hO f s hs ρ st w args v st' bC h hW od
  . (split at h<;>first|(cases h;done)|skip);rename_i F hF;simp only[Zd4]at h;obtain⟨r,hr,he⟩:=h;refine Reaches.mono (λx w' hp=> ?_) (Vv hT hG ih (Eg hm hT ih (LF GJ m d)) m hF (v:=r.1) (st':=r.2) hr hW od);have:=Xt hW hp;rw[he]at this;exact this
end
theorem T9{c c':ai}(h:Jq c c'){n m:Nat}(hn:n<=m){F:cj}{args:List AV}{st:St}{r:AV×St}(e:pV c n F args st=some r):pV c' m F args st=some r:=by
 unfold pV at e ⊢;split at e<;>first|(cases e;done)|skip
 split at e<;>first|(cases e;done)|skip
 all_goals
  rename_i h1;simp only[Iz h n m hn _ _ _ _ h1];exact e
theorem Ke(O:dQ)(G:T cj){n m:Nat}(hn:n<=m):∀d d',d<=d'->Jq (pW O G n d) (pW O G m d')
 |0,_,_=>λ_ _ _ _ e=>by simp[pW]at e
 |_+1,0,h=>by omega
 |d +1,d'+1,h=>λf args st r e=>by
  have ih:=Ke O G hn d d' (by omega);unfold pW at e ⊢;split at e
  .exact e
  . (split at e<;>first|(cases e;done)|skip);simp only[Zd4]at e ⊢;obtain⟨q,hq,he⟩:=e;exact⟨q,T9 ih hn hq,he⟩
def cn(O:dQ)(G:T cj)(n:Nat):ai:=pW O G n n
theorem Er(O:dQ)(G:T cj){n m:Nat}(h:n<=m):Jq (cn O G n) (cn O G m):=Ke O G h n m h
def run(O:dQ)(G:T cj):ai:=λf args st=>open Classical in
 if h:∃(r:AV×St) (n:Nat),cn O G n f args st=some r then some h.choose else none
variable{O:dQ}{G:T cj}
theorem Xx{f:FuncId}{args:List AV}{st:St}{r:AV×St}{n:Nat}(h:cn O G n f args st=some r):run O G f args st=some r:=by
 unfold run;have hx:∃(r:AV×St) (n:Nat),cn O G n f args st=some r:=⟨r,n,h⟩
 rw[dif_pos hx];obtain⟨m,hm⟩:=hx.choose_spec;have h1:=Er O G (Zi2 n m) f args st _ h;have h2:=Er O G (Zg9 n m) f args st _ hm;rw[h1]at h2;exact h2.symm
theorem Rh{f:FuncId}{args:List AV}{st:St}{r:AV×St}(h:run O G f args st=some r):∃n,cn O G n f args st=some r:=by
 unfold run at h;split at h
 .rename_i hx;simp only[H0]at h;rw[<-h];exact hx.choose_spec
 .cases h
theorem LG{k:ay}{xs:List AV}{st:St}{r:AV×St}(e:bS (run O G) k xs st=some r):∃n,bS (cn O G n) k xs st=some r:=by
 unfold bS at e;cases hr:k.run (λb=>st.heap.get b) st.next xs with
 |none=>simp[hr]at e
 |some x=>cases x with
  |val v=>exact⟨0,by simpa [bS,hr]using e⟩
  |aD v d s n=>exact⟨0,by simpa [bS,hr]using e⟩
  |call f args=>
   simp only[hr]at e;obtain⟨n,hn⟩:=Rh e;exact⟨n,by simpa [bS,hr]using hn⟩
theorem GN:∀(os:List bk)(fr:Fr)(st:St)(r:Fr×St),iA (run O G) os fr st=some r->∃n,iA (cn O G n) os fr st=some r
 |[],_,_,_,e=>⟨0,e⟩
 |o::os,fr,st,r,e=>by
  unfold iA at e;cases hw:bG fr o.guard with
  |none=>simp[hw]at e
  |some b=>cases b with
   |    false=>
        simp only[hw]at e;obtain⟨n,hn⟩:=GN os _ _ _ e;exact⟨n,by unfold iA;simp only[hw];exact hn⟩
   |    true=>
        simp only[hw]at e;cases hx:dL fr o.xs with
        |none=>simp[hx]at e
        |some xs=>
         simp only[hx]at e;cases hs:bS (run O G) o.k xs st with
         |none=>simp[hs]at e
         |some p=>
          simp only[hs]at e;obtain⟨n,hn⟩:=GN os _ _ _ e;obtain⟨m,hm⟩:=LG hs;refine⟨max n m,?_⟩;unfold iA;simp only[hw,hx,Ep (Er O G (Zg9 n m)) hm];exact Iy (Er O G (Zi2 n m)) _ _ _ _ hn
theorem LH: ∀(os:List (Nat×bk))(recs:List Rec)(base:T AB)(fr:Fr)(st:St)(r:Fr×St),cF (run O G) os recs base fr st=some r->∃n,cF (cn O G n) os recs base fr st=some r
 |[],_,_,_,_,_,e=>⟨0,e⟩
 |(j,   o)::os,recs,base,fr,st,r,e=>by
  have ih:=LH os;unfold cF at e;cases hw:bG fr o.guard with
  |none=>simp[hw]at e
  | some b=>cases b with
    |   false=>
        simp only[hw]at e;obtain⟨n,hn⟩:=ih _ _ _ _ _ e;exact⟨n,by unfold cF;simp only[hw];exact hn⟩
    |   true=>
        simp only[hw]at e;cases hx:dL fr o.xs with
        |none=>simp[hx]at e
        |some xs=>
         simp only[hx]at e;cases hc:o.cls with
         |aD=>
          simp only[hc]at e;cases hs:bS (run O G) o.k xs st with
          |none=>simp[hs]at e
          | some p=>
            simp only[hs]at e;obtain⟨n,hn⟩:=ih _ _ _ _ _ e;obtain⟨m,hm⟩:=LG hs;refine⟨max n m,?_⟩;unfold cF;simp only[hw,hx,hc,Ep (Er O G (Zg9 n m)) hm];exact Kc (Er O G (Zi2 n m)) _ _ _ _ _ _ hn
         |new=>
          simp only[hc]at e;(split at e<;>first|(cases e;done)|skip);obtain⟨n,hn⟩:=ih _ _ _ _ _ e;refine⟨n,?_⟩;unfold cF;simp only[*]
         |pure=>
          simp only[hc]at e;split at e<;>(try split at e)<;>(try split at e)<;>first|(cases e;done)|skip
          all_goals
            obtain⟨n,hn⟩:=ih _ _ _ _ _ e;refine⟨n,?_⟩;unfold cF;simp only[*]
         |read=>
          simp only[hc]at e;split at e<;>(try split at e)<;>(try split at e)<;>first|(cases e;done)|skip
          all_goals
            obtain⟨n,hn⟩:=ih _ _ _ _ _ e;refine⟨n,?_⟩;unfold cF;simp only[*]
theorem Ox:∀(n:Nat)(a:AC)(fr:Fr)(st:St)(r:iL×Fr×St),exec (run O G) n a fr st=some r->∃m,exec (cn O G m) n a fr st=some r
 |0,_,_,_,_,e=>by simp[exec]at e
 |n+    1,a,fr,st,r,e=>by
  have ih:=Ox n;have up:∀{m m':Nat}{a:AC}{fr:Fr}{st:St}{r:iL×Fr×St},m<=m'->exec (cn O G m) n a fr st=some r->exec (cn O G m') n a fr st=some r:=
   λh e=>Iz (Er O G h) _ _ (Za4 _) _ _ _ _ e
  cases a<;>simp only[exec,aZ]at e
  case skip=>exact⟨0,e⟩
  case exit=>exact⟨0,e⟩
  case ret=>exact⟨0,e⟩
  case region ops=>
   cases ho:iA (run O G) ops fr st with
   |none=>simp[ho]at e
   |    some p=>
        obtain⟨m,hm⟩:=GN _ _ _ _ ho;exact⟨m,by simp only[exec,aZ,hm];simpa only[ho]using e⟩
  case draw ops=>
   cases ho:cF (run O G) ops [] st.heap fr st with
   |none=>simp[ho]at e
   |    some p=>
        obtain⟨m,hm⟩:=LH _ _ _ _ _ _ ho;exact⟨m,by simp only[exec,aZ,hm];simpa only[ho]using e⟩
  case seq a b=>
   cases ha:exec (run O G) n a fr st with
   |none=>simp[ha]at e
   |    some p=>
        obtain⟨ex,bJ,aJ⟩:=p;simp only[ha]at e;obtain⟨m,hm⟩:=ih _ _ _ _ ha;cases ex with
        |normal=>
         obtain⟨m',WG⟩:=ih _ _ _ _ e;exact⟨max m m',by simp only[exec,aZ,up (Zi2 m m') hm];exact up (Zg9 m m') WG⟩
        |exit i=>exact⟨m,by simp only[exec,aZ,hm];exact e⟩
        |ret=>exact⟨m,by simp only[exec,aZ,hm];exact e⟩
  case cond x a b=>
   split at e
   .    rename_i hx;obtain⟨m,hm⟩:=ih _ _ _ _ e;exact⟨m,by simp only[exec,aZ,hx];exact hm⟩
   .    rename_i hx;obtain⟨m,hm⟩:=ih _ _ _ _ e;exact⟨m,by simp only[exec,aZ,hx];exact hm⟩
   .    cases e
  case block id a=>
   cases ha:exec (run O G) n a fr st with
   |none=>simp[ha]at e
   |    some p=>
        obtain⟨ex,bJ,aJ⟩:=p;simp only[ha]at e;obtain⟨m,hm⟩:=ih _ _ _ _ ha;exact⟨m,by simp only[exec,aZ,hm];exact e⟩
  case loop a=>
   cases ha:exec (run O G) n a fr st with
   |none=>simp[ha]at e
   |    some p=>
        obtain⟨ex,bJ,aJ⟩:=p;simp only[ha]at e;obtain⟨m,hm⟩:=ih _ _ _ _ ha;cases ex with
        |normal=>
         obtain⟨m',WG⟩:=ih _ _ _ _ e;exact⟨max m m',by simp only[exec,aZ,up (Zi2 m m') hm];exact up (Zg9 m m') WG⟩
        |exit i=>exact⟨m,by simp only[exec,aZ,hm];exact e⟩
        |ret=>exact⟨m,by simp only[exec,aZ,hm];exact e⟩
theorem ZY{f:FuncId}{F:cj}{args:List AV}{st:St}{r:AV×St}{n:Nat}(ho:O f=none)(hF:G.get (key f)=some F)(h:pV (run O G) n F args st=some r):
   run O G f args st=some (tidy st r):=by
 unfold pV at h;split at h<;>first|(cases h;done)|skip
 rename_i hlen
 have fin:∀{ex fr st'},exec (run O G) n F.code (params 0 args .e) st=some (ex,fr,st')->(∀m k,exec (cn O G m) k F.code (params 0 args .e) st=some (ex,fr,st')->pV (cn O G m) k F args st=some r)->
    run O G f args st=some (tidy st r):=λh1 h2=>by
   obtain⟨m,hm⟩:=Ox _ _ _ _ _ h1;refine Xx (n:=max n m+1) ?_;unfold cn pW;simp only[ho,hF];have:=h2 m n hm;have h3:=T9 (Ke O G (n:=m) (m:=max n m+1) (by have:=Zg9 n m;omega) m (max n m) (Zg9 n m)) (m:=max n m+1) (by have:=Zi2 n m;omega) this;rw[h3];rfl
 split at h<;>first|(cases h;done)|skip
 .rename_i h1;exact fin h1 λm k hk=>by unfold pV;simp only[hlen,hk];exact h
 .rename_i h1;exact fin h1 λm k hk=>by unfold pV;simp only[hlen,hk];exact h
theorem LJ{f:FuncId}{s:List AV->St->Option (AV×St)}(ho:O f=some s){args:List AV}{st:St}{r:AV×St}(h:s args st=some r):run O G f args st=some r:=
 Xx (n:=1) (by unfold cn pW;simp only[ho];exact h)
theorem NR{P:Program}{tt:TT}{C:Cells}(hm:P.follows .mixedOrders=true)(hT:bH P tt)(hO:oc P C O)(GJ:jU O)(hG:KV P tt G):ey P C (run O G):=by intro ρ st w f args v st' bC h hW od;obtain⟨n,hn⟩:=Rh h;exact Jr hm hT hO GJ hG n n ρ st w f args v st' bC hn hW od
end
noncomputable section
open Go
inductive Sh where
 |leaf
 |seq (jn:Option (List Pos)) (a b:Sh)
 |cond (a b:Sh)
 |block (a:Sh)
 |loop (j:Nat) (ins:List Pos) (outs:List (Nat×List Pos)) (a:Sh)
variable{R:Type}
abbrev LpK(R:Type):=Nat->List AV->St->Option R
abbrev Env(R:Type):=Nat->LpK R->Nat->List AV->St->Option R
def ji(l:List AV)(k:AV->List AV->Option R):Option R:=match l with
 |v::vs=>k v vs
 |[]=>none
def pX(l:List AV)(k:Option R):Option R:=match l with
 |[]=>k
 |_::_=>none
def ak(c:ai)(k:ay)(xs:List AV)(st:St)(K:AV->St->Option R):Option R:=match bS c k xs st with
 |some (v,st')=>K v st'
 |none=>none
def Ri(c:ai)(g:AV)(want:Bool)(k:ay)(xs:List AV)(st:St)(K:AV->St->Option R):Option R:=match g with
 |  .bool b=>match b==want with
    |true=>ak c k xs st K
    |false=>K .undef st
 |.tuple _=>K .undef st
 |_=>none
def fJ(k:ay)(xs:List AV)(K:AV->Option R):Option R:=match k.run (λ_=>none) .h xs with
 |some (.val v)=>K v
 |_=>none
def Js(g:AV)(want:Bool)(k:ay)(xs:List AV)(K:AV->Option R):Option R:=match g with
 |  .bool b=>match b==want with
    |true=>fJ k xs K
    |false=>K .undef
 |.tuple _=>K .undef
 |_=>none
def kW(k:ay)(xs:List AV)(h:T AB)(ok:AV->Bool)(K:AV->Option R):Option R:=match k.run (λ_=>none) .h xs with
 |some (.val v)=>K v
 |  _=>match k.run (λb=>h.get b) .h xs with
    |some (.val v)=>match ok v with
     |true=>K v
     |false=>none
    |_=>none
def Jt(g:AV)(want:Bool)(k:ay)(xs:List AV)(h:T AB)(ok:AV->Bool)(K:AV->Option R):Option R:=match g with
 |  .bool b=>match b==want with
    |true=>kW k xs h ok K
    |false=>K .undef
 |.tuple _=>K .undef
 |_=>none
def GO(k:ay)(xs:List AV)(st:St)(K:AV->AB->Option R):Option R:=match k.run (λ_=>none) st.next xs with
 |some (.aD v none none (some aq))=>K v aq
 |_=>none
def Ju(g:AV)(want:Bool)(A B:Option R):Option R:=match g with
 |  .bool b=>match b==want with
    |true=>A
    |false=>B
 |.tuple _=>B
 |_=>none
def Oy(v:AV)(A B:Option R):Option R:=match v with
 |.bool true=>A
 |.bool false=>B
 |_=>none
def fA(f:(List AV->St->Option R)->Option R)(k:List AV->St->Option R):Option R:=f k
def Kf (c:ai):List bk->Fr->St->(Fr->St->Option R)->Option R
 |[],fr,st,K=>K fr st
 |  o::os,fr,st,K=>match dL fr o.xs with
    |some xs=>match o.guard with
     |none=>ak c o.k xs st λv st=>Kf c os (cH fr o.dst v) st K
     |  some (p,want)=>match fr.get p with
        |some g=>Ri c g want o.k xs st λv st=>Kf c os (cH fr o.dst v) st K
        |none=>none
    |none=>none
def lC (c:ai ):List (Nat×bk)->List Rec->T AB->Fr->St->(Fr->St->Option R)->Option R
 |[],_,_,fr,st,K=>K fr st
 |  (j, o):: os,recs,base,fr,st,K=>match dL fr o.xs with
    | some xs=>match o.cls with
      | .pure=>match o.guard with
        |none=>fJ o.k xs λv=>lC c os ({ idx:=j,o:=o,v:=v,c:= .pure,nx:=st.next }::recs) base (cH fr o.dst v) st K
        |some (p,want)=>match fr.get p with
         |some g=>Js g want o.k xs λv=>lC c os ({ idx:=j,o:=o,v:=v,c:= .pure,nx:=st.next }::recs) base (cH fr o.dst v) st K
         |none=>none
      | .read=>match o.guard with
        |none=>kW o.k xs (snap o.bu base recs) (λv=>jJ o.bu o.k xs v [] recs) λv=>lC c os ({ idx:=j,o:=o,v:=v,c:= .pure,nx:=st.next }::recs) base (cH fr o.dst v) st K
        |some (p,want)=>match fr.get p with
         |some g=>Jt g want o.k xs (snap o.bu base recs) (λv=>jJ o.bu o.k xs v [] recs) λv=>lC c os ({ idx:=j,o:=o,v:=v,c:= .pure,nx:=st.next }::recs) base (cH fr o.dst v) st K
         |none=>none
      | .new=>match o.guard with
        |none=>GO o.k xs st λv aq=>lC c os ({ idx:=j,o:=o,v:=v,c:= .new st.next aq,nx:=st.next.succ }::recs) base (cH fr o.dst v) { heap:=st.heap.put (some aq) st.next,next:=st.next.succ } K
        |some (p,want)=>match fr.get p with
         |some g=>Ju g want (GO o.k xs st λv aq=>lC c os ({ idx:=j,o:=o,v:=v,c:= .new st.next aq,nx:=st.next.succ }::recs) base (cH fr o.dst v) { heap:=st.heap.put (some aq) st.next,next:=st.next.succ } K)
             (lC c os ({ idx:=j,o:=o,v:= .undef,c:= .pure,nx:=st.next }::recs) base (cH fr o.dst .undef) st K)
         |none=>none
      | .aD=>match o.guard with
        |none=>ak c o.k xs st λv st'=>lC c os ({ idx:=j,o:=o,v:=v,c:= .aD base st'.heap,nx:=st'.next }::recs) st'.heap (cH fr o.dst v) st' K
        |some (p,want)=>match fr.get p with
         |some g=>Ju g want (ak c o.k xs st λv st'=>lC c os ({ idx:=j,o:=o,v:=v,c:= .aD base st'.heap,nx:=st'.next }::recs) st'.heap (cH fr o.dst v) st' K)
             (lC c os ({ idx:=j,o:=o,v:= .undef,c:= .pure,nx:=st.next }::recs) base (cH fr o.dst .undef) st K)
         |none=>none
    |none=>none
def GP:List Pos->Fr->(List AV->Option R)->Option R
 |[],_,k=>k []
 |  p::ps,fr,k=>match fr.get p with
    |some v=>GP ps fr λvs=>k (v::vs)
    |none=>none
def GQ:List Pos->List AV->Fr->(Fr->Option R)->Option R
 |[],vs,fr,k=>pX vs (k fr)
 |p::ps,vs,fr,k=>ji vs λv vs=>GQ ps vs (fr.put (some v) p) k
def IA:List (Nat×List Pos)->Nat->List Pos
 |[],_=>[]
 |  (i,l)::r,e=>match Nat.beq i e with
    |true=>l
    |false=>IA r e
def exOf:Nat->iL
 |0=>.normal
 |1=>.ret
 |n+2=>.exit n
def C5(D:Fr->St->(iL->Fr->St->Option R)->Option R)(ins:List Pos)(outs:List (Nat×List Pos))(K':LpK R)(again:List AV->St->Option R)(vs:List AV)(st:St):Option R:=
 GQ ins vs .e λfr=>D fr st λex fr st=>match ex with
    |.normal=>GP ins fr λvs=>again vs st
    |.exit i=>GP (IA outs (i+2)) fr λos=>K' (i+2) os st
    |.ret=>GP (IA outs 1) fr λos=>K' 1 os st
def knk(outs:List (Nat×List Pos))(K:iL->Fr->St->Option R):LpK R:=λe os st=>GQ (IA outs e) os .e λfr=>K (exOf e) fr st
def den (c:ai)(F:Nat)(L:Env R):AC->Sh->Fr->St->(iL->Fr->St->Option R)->Option R
 |.skip,_,fr,st,K=>K .normal fr st
 |.region ops,_,fr,st,K=>Kf c ops fr st (K .normal)
 |.draw ops,_,fr,st,K=>lC c ops [] st.heap fr st (K .normal)
 |  .seq a b,s,fr,st,K=>match s with
    | .seq none s t=>den c F L a s fr st λex fr st=>match ex with
      |.normal=>den c F L b t fr st K
      |.exit i=>K (.exit i) fr st
      |.ret=>K .ret fr st
    | .seq (some l) s t=>fA (λK'=>den c F L a s fr st λex fr st=>match ex with
      |.normal=>GP l fr λvs=>K' vs st
      |.exit i=>K (.exit i) fr st
      |.ret=>K .ret fr st) (λvs st=>GQ l vs .e λfr=>den c F L b t fr st K)
    |_=>none
 |  .cond x a b,s,fr,st,K=>match s with
    | .cond s t=>match xC fr x with
      |some v=>Oy v (den c F L a s fr st K) (den c F L b t fr st K)
      |none=>none
    |_=>none
 |  .block id a,s,fr,st,K=>match s with
    | .block s=>den c F L a s fr st λex fr st=>match ex with
      |.normal=>K .normal fr st
      | .exit i=>match Nat.beq i id with
        |true=>K .normal fr st
        |false=>K (.exit i) fr st
      |.ret=>K .ret fr st
    |_=>none
 |  .loop _,s,fr,st,K=>match s with
    |.loop j ins outs _=>GP ins fr λvs=>L j (knk outs K) F vs st
    |_=>none
 |.exit id,_,fr,st,K=>K (.exit id) fr st
 |.ret,_,fr,st,K=>K .ret fr st
def uH(c:ai)(F:Nat)(L:Env R)(a:AC):Sh->Prop
 |.loop j ins outs s=>∀K',(∀vs st,L j K' 0 vs st=none)/\∀n vs st,L j K' (n+1) vs st=C5 (den c F L a s) ins outs K' (L j K' n) vs st
 |_=>False
def rO(c:ai)(F:Nat)(L:Env R):AC->Sh->Prop
 |  .seq a b,s=>match s with
    |.seq _ s t=>rO c F L a s/\rO c F L b t
    |_=>True
 |  .cond _ a b,s=>match s with
    |.cond s t=>rO c F L a s/\rO c F L b t
    |_=>True
 |  .block _ a,s=>match s with
    |.block s=>rO c F L a s
    |_=>True
 |  .loop a,s=>match s with
    |.loop j ins outs s=>uH c F L a (.loop j ins outs s)/\rO c F L a s
    |_=>True
 |_,_=>True
def dO:AC->Sh->List (AC×Sh)
 |  .seq a b,s=>match s with
    |.seq _ s t=>dO a s++dO b t
    |_=>[]
 |  .cond _ a b,s=>match s with
    |.cond s t=>dO a s++dO b t
    |_=>[]
 |  .block _ a,s=>match s with
    |.block s=>dO a s
    |_=>[]
 |  .loop a,s=>match s with
    |.loop j ins outs s=>(a,.loop j ins outs s)::dO a s
    |_=>[]
 |_,_=>[]
theorem wF{c:ai}{F:Nat}{L:Env R}:∀(a:AC)(s:Sh),(∀x∈dO a s,uH c F L x.1 x.2)->rO c F L a s
 |.skip,_,_=>trivial
 |.region _,_,_=>trivial
 |.draw _,_,_=>trivial
 |.exit _,_,_=>trivial
 |.ret,_,_=>trivial
 | .seq a b,s,h=>by
   cases s<;>simp only[rO]<;>simp only[dO,Zd8]at h;exact⟨wF a _ λx hx=>h x (.inl hx),wF b _ λx hx=>h x (.inr hx)⟩
 | .cond x a b,s,h=>by
   cases s<;>simp only[rO]<;>simp only[dO,Zd8]at h;exact⟨wF a _ λx hx=>h x (.inl hx),wF b _ λx hx=>h x (.inr hx)⟩
 |.block id a,s,h=>by cases s<;>simp only[rO]<;>simp only[dO]at h;exact wF a _ h
 | .loop a,s,h=>by
   cases s<;>simp only[rO]<;>simp only[dO,Za9]at h;exact⟨h _ (.inl rfl),wF a _ λx hx=>h x (.inr hx)⟩
def Sub(a b:Fr):Prop:=∀p v,a.get p=some v->b.get p=some v
theorem Sub.refl(a:Fr):Sub a a:=λ_ _ h=>h
theorem Sub.put{a b:Fr}(h:Sub a b)(p:Pos)(v:AV):Sub (a.put (some v) p) (b.put (some v) p):=λq u hq=>by
 by_cases e:p=q
 .subst e;rw[T.ee]at hq ⊢; exact hq
 .rw[T.br _ e]at hq ⊢; exact h _ _ hq
theorem Sub.dst{a b:Fr}(h:Sub a b)(d:Option Pos)(v:AV):Sub (cH a d v) (cH b d v):=by
 cases d with
 |none=>exact h
 |some p=>exact h.put p v
theorem Sub.ev{a b:Fr}(h:Sub a b){x:dK}{v:AV}(e:xC a x=some v):xC b x=some v:=by
 cases x with
 |t p=>exact h _ _ e
 |c v=>exact e
theorem Sub.evs{a b:Fr}(h:Sub a b):∀{xs:List dK}{vs:List AV},dL a xs=some vs->dL b xs=some vs
 |[],_,e=>e
 |x::xs,vs,e=>by
  unfold dL at e ⊢;cases hx:xC a x with
  |none=>simp[hx]at e
  |some v=>
   simp only[hx]at e;cases hs:dL a xs with
   |none=>simp[hs]at e
   |some us=>simp only[hs]at e;simp only[h.ev hx,h.evs hs];exact e
theorem Es {c:ai}:∀(os:List bk){fr dS:Fr}{st:St}{K:Fr->St->Option R}{r:R},Sub fr dS->Kf c os fr st K=some r->
  ∃aY cC st',iA c os dS st=some (cC,st')/\Sub aY cC/\K aY st'=some r
 |[],fr,dS,st,K,r,hs,h=>⟨fr,dS,st,rfl,hs,h⟩
 |o::os,fr,dS,st,K,r,hs,h=>by
  unfold Kf at h;cases hx:dL fr o.xs with
  |none=>simp[hx]at h
  |some xs=>
   simp only[hx]at h;have hstp:∀{st},ak c o.k xs st (λv st=>Kf c os (cH fr o.dst v) st K)=some r->bG dS o.guard=some true->∃aY cC st',iA c (o::os) dS st=some (cC,st')/\Sub aY cC/\K aY st'=some r:=λ{st} h hw=>by
        unfold ak at h;cases jg:bS c o.k xs st with
        |none=>simp[jg]at h
        |some p=>
         simp only[jg]at h;obtain⟨aY,cC,st',h1,h2⟩:=Es os (hs.dst o.dst p.1) h;exact⟨aY,cC,st',by unfold iA;simp only[hw,hs.evs hx,jg];exact h1,h2⟩
   have GU:∀{st},Kf c os (cH fr o.dst .undef) st K=some r->bG dS o.guard=some false->∃aY cC st',iA c (o::os) dS st=some (cC,st')/\Sub aY cC/\K aY st'=some r:=λ{st} h hw=>by
        obtain⟨aY,cC,st',h1,h2⟩:=Es os (hs.dst o.dst .undef) h;exact⟨aY,cC,st',by unfold iA;simp only[hw];exact h1,h2⟩
   cases hg:o.guard with
   |none=>simp only[hg]at h;exact hstp h (by rw[hg];rfl)
   |    some pw=>
        obtain⟨p,want⟩:=pw;simp only[hg]at h;cases hp:fr.get p with
        |none=>simp[hp]at h
        |some g=>
         simp only[hp]at h;have uI:=hs _ _ hp;unfold Ri at h;split at h
         .  rename_i b;split at h
            .rename_i hb;exact hstp h (by rw[hg];simp[bG,uI,hb])
            .rename_i hb;exact GU h (by rw[hg];simp[bG,uI,hb])
         .  exact GU h (by rw[hg];simp[bG,uI])
         .  cases h
theorem Jv {c : ai}:∀(os:List (Nat×bk))(recs:List Rec)(base:T AB){fr dS:Fr}{st:St}{K:Fr->St->Option R}{r:R},Sub fr dS->lC c os recs base fr st K=some r->
  ∃aY cC st',cF c os recs base dS st=some (cC,st')/\Sub aY cC/\K aY st'=some r
 |[],_,_,fr,dS,st,K,r,hs,h=>⟨fr,dS,st,rfl,hs,h⟩
 |(j,   o)::  os, recs,base,fr,dS,st,K,r,hs,h=>by
  have ih:=λrecs base {fr dS:Fr}{st:St}{K:Fr->St->Option R}{r:R}=>Jv (c:=c) os recs base (fr:=fr) (dS:=dS) (st:=st) (K:=K) (r:=r)
  unfold lC at h;cases hx:dL fr o.xs with
  |none=>simp[hx]at h
  | some xs   =>
    simp only[hx]at h;have Q8:=hs.evs hx;have GU:∀{st},lC c os ({ idx:=j,o:=o,v:= .undef,c:= .pure,nx:=st.next }::recs) base (cH fr o.dst .undef) st K=some r->bG dS o.guard=some false->∃aY cC st',cF c ((j,o)::os) recs base dS st=some (cC,st')/\Sub aY cC/\K aY st'=some r:=λ{st} h hw=>by
        obtain⟨aY,cC,st',h1,h2⟩:=ih _ _ (hs.dst o.dst .undef) h;exact⟨aY,cC,st',by unfold cF;simp only[hw];exact h1,h2⟩
    cases hc:o.cls with
    |   pure=>
        simp only[hc]at h;have GV:fJ o.k xs (λv=>lC c os ({ idx:=j,o:=o,v:=v,c:= .pure,nx:=st.next }::recs) base (cH fr o.dst v) st K)=some r->bG dS o.guard=some true->∃aY cC st',cF c ((j,o)::os) recs base dS st=some (cC,st')/\Sub aY cC/\K aY st'=some r:=λh hw=>by
         unfold fJ at h;split at h
         .  rename_i v hv;obtain⟨aY,cC,st',h1,h2⟩:=ih _ _ (hs.dst o.dst v) h;exact⟨aY,cC,st',by unfold cF;simp only[hw,Q8,hc,hv];exact h1,h2⟩
         .  cases h
        cases hg:o.guard with
        |none=>simp only[hg]at h;exact GV h (by rw[hg];rfl)
        |some pw=>
         obtain⟨p,want⟩:=pw;simp only[hg]at h;cases hp:fr.get p with
         |none=>simp[hp]at h
         |  some g=>
            simp only[hp]at h;have uI:=hs _ _ hp;unfold Js at h;split at h
            . split at h
              .rename_i hb;exact GV h (by rw[hg];simp[bG,uI,hb])
              .rename_i hb;exact GU h (by rw[hg];simp[bG,uI,hb])
            .exact GU h (by rw[hg];simp[bG,uI])
            .cases h
    |   read=>
        simp only[hc]at h;have GV : kW o.k xs (snap o.bu base recs) (λv=>jJ o.bu o.k xs v [] recs) (λv=>lC c os ({ idx:=j,o:=o,v:=v,c:= .pure,nx:=st.next }::recs) base (cH fr o.dst v) st K)=some r->bG dS o.guard=some true->∃aY cC st',cF c ((j,o)::os) recs base dS st=some (cC,st')/\Sub aY cC/\K aY st'=some r:=λh hw=>by
         unfold kW at h;split at h
         .  rename_i v hv;obtain⟨aY,cC,st',h1,h2⟩:=ih _ _ (hs.dst o.dst v) h;exact⟨aY,cC,st',by unfold cF;simp only[hw,Q8,hc,hv];exact h1,h2⟩
         .  rename_i kq;split at h
            . rename_i v hv;split at h
              . rename_i dH;obtain⟨aY,cC,st',h1,h2⟩:=ih _ _ (hs.dst o.dst v) h;refine⟨aY,cC,st',?_,h2⟩;unfold cF;simp only[hw,Q8,hc];cases hr:o.k.run (λ_=>none) .h xs with
                |none=>simp only[hv,dH];exact h1
                | some x=>cases x with
                  |val u=>exact absurd hr (kq u)
                  |aD v d e n=>simp only[hv,dH];exact h1
                  |call f xs=>simp only[hv,dH];exact h1
              .cases h
            .cases h
        cases hg:o.guard with
        |none=>simp only[hg]at h;exact GV h (by rw[hg];rfl)
        |some pw=>
         obtain⟨p,want⟩:=pw;simp only[hg]at h;cases hp:fr.get p with
         |none=>simp[hp]at h
         |  some g=>
            simp only[hp]at h;have uI:=hs _ _ hp;unfold Jt at h;split at h
            . split at h
              .rename_i hb;exact GV h (by rw[hg];simp[bG,uI,hb])
              .rename_i hb;exact GU h (by rw[hg];simp[bG,uI,hb])
            .exact GU h (by rw[hg];simp[bG,uI])
            .cases h
    |   new =>
        simp only[hc]at h;have GV:GO o.k xs st (λv aq=>lC c os ({ idx:=j,o:=o,v:=v,c:= .new st.next aq,nx:=st.next.succ }::recs) base (cH fr o.dst v) { heap:=st.heap.put (some aq) st.next,next:=st.next.succ } K)=some r->bG dS o.guard=some true->∃aY cC st',cF c ((j,o)::os) recs base dS st=some (cC,st')/\Sub aY cC/\K aY st'=some r:=λh hw=>by
         unfold GO at h;split at h
         .  rename_i v aq hv;obtain⟨aY,cC,st',h1,h2⟩:=ih _ _ (hs.dst o.dst v) h;exact⟨aY,cC,st',by unfold cF;simp only[hw,Q8,hc,hv];exact h1,h2⟩
         .  cases h
        cases hg:o.guard with
        |none=>simp only[hg]at h;exact GV h (by rw[hg];rfl)
        |some pw=>
         obtain⟨p,want⟩:=pw;simp only[hg]at h;cases hp:fr.get p with
         |none=>simp[hp]at h
         |  some g=>
            simp only[hp]at h;have uI:=hs _ _ hp;unfold Ju at h;split at h
            . split at h
              .rename_i hb;exact GV h (by rw[hg];simp[bG,uI,hb])
              .rename_i hb;exact GU h (by rw[hg];simp[bG,uI,hb])
            .exact GU h (by rw[hg];simp[bG,uI])
            .cases h
    |   aD=>
        simp only[hc]at h;have GV:ak c o.k xs st (λv st'=>lC c os ({ idx:=j,o:=o,v:=v,c:= .aD base st'.heap,nx:=st'.next }::recs) st'.heap (cH fr o.dst v) st' K)=some r->bG dS o.guard=some true->∃aY cC st',cF c ((j,o)::os) recs base dS st=some (cC,st')/\Sub aY cC/\K aY st'=some r:=λh hw=>by
         unfold ak at h;cases jg:bS c o.k xs st with
         |none=>simp[jg]at h
         |  some p=>
            simp only[jg]at h;obtain⟨aY,cC,st',h1,h2⟩:=ih _ _ (hs.dst o.dst p.1) h;exact⟨aY,cC,st',by unfold cF;simp only[hw,Q8,hc,jg];exact h1,h2⟩
        cases hg:o.guard with
        |none=>simp only[hg]at h;exact GV h (by rw[hg];rfl)
        |some pw=>
         obtain⟨p,want⟩:=pw;simp only[hg]at h;cases hp:fr.get p with
         |none=>simp[hp]at h
         |  some g=>
            simp only[hp]at h;have uI:=hs _ _ hp;unfold Ju at h;split at h
            . split at h
              .rename_i hb;exact GV h (by rw[hg];simp[bG,uI,hb])
              .rename_i hb;exact GU h (by rw[hg];simp[bG,uI,hb])
            .exact GU h (by rw[hg];simp[bG,uI])
            .cases h
def Has:List Pos->List AV->Fr->Prop
 |[],[],_=>True
 |p::ps,v::vs,fr=>fr.get p=some v/\Has ps vs fr
 |_,_,_=>False
theorem Has.sub{a b:Fr}(hs:Sub a b):∀{ps:List Pos}{vs:List AV},Has ps vs a->Has ps vs b
 |[],[],_=>trivial
 |[],_::_,h=>h
 |_::_,[],h=>h
 |_::_,_::_,h=>⟨hs _ _ h.1,Has.sub hs h.2⟩
theorem tT:∀{ps:List Pos}{fr:Fr}{k:List AV->Option R}{r:R},GP ps fr k=some r->∃vs,Has ps vs fr/\k vs=some r
 |[],_,_,_,h=>⟨[],trivial,h⟩
 |p::ps,fr,k,r,h=>by
  unfold GP at h;cases hp:fr.get p with
  |none=>simp[hp]at h
  |some v=>
   simp only[hp]at h;obtain⟨vs,h1,h2⟩:=tT h;exact⟨v::vs,⟨hp,h1⟩,h2⟩
theorem xJ:∀{ps:List Pos}{vs:List AV}{fr dS:Fr}{k:Fr->Option R}{r:R},GQ ps vs fr k=some r->Has ps vs dS->Sub fr dS->∃aY,Sub aY dS/\k aY=some r
 |[],vs,fr,dS,k,r,h,_,hs=>by
  unfold GQ pX at h;split at h
  .exact⟨fr,hs,h⟩
  .cases h
 |p::ps,[],fr,dS,k,r,h,hh,hs=>by simp[GQ,ji]at h
 |p::ps,v::vs,fr,dS,k,r,h,hh,hs=>by
  unfold GQ ji at h;refine xJ h hh.2 λq u hq=> ?_
  by_cases e:p=q
  .subst e;rw[T.ee]at hq;cases hq;exact hh.1
  .rw[T.br _ e]at hq;exact hs _ _ hq
theorem zH{c:ai}{n m:Nat}(h:n<=m){a:AC}{fr:Fr}{st:St}{r:iL×Fr×St}(e:exec c n a fr st=some r):exec c m a fr st=some r:=Iz (Jq.refl c) n m h _ _ _ _ e
theorem mB{c:ai}{F:Nat}{L:Env R}:∀(a:AC)(s:Sh),rO c F L a s->∀{fr dS:Fr}{st:St}{K:iL->Fr->St->Option R}{r:R},Sub fr dS->den c F L a s fr st K=some r->
   ∃n ex aY cC st',exec c n a dS st=some (ex,cC,st')/\Sub aY cC/\K ex aY st'=some r
 |.skip,s,_,fr,dS,st,K,r,hs,h=>⟨1,.normal,fr,dS,st,rfl,hs,by simpa [den]using h⟩
 |.exit id,s,_,fr,dS,st,K,r,hs,h=>⟨1,.exit id,fr,dS,st,rfl,hs,by simpa [den]using h⟩
 |.ret,s,_,fr,dS,st,K,r,hs,h=>⟨1,.ret,fr,dS,st,rfl,hs,by simpa [den]using h⟩
 | .region ops,s,_,fr,dS,st,K,r,hs,h=>by
   simp only[den]at h;obtain⟨aY,cC,st',h1,h2,h3⟩:=Es ops hs h;exact⟨1,.normal,aY,cC,st',by simp only[exec,aZ,h1],h2,h3⟩
 | .draw ops,s,_,fr,dS,st,K,r,hs,h=>by
   simp only[den]at h;obtain⟨aY,cC,st',h1,h2,h3⟩:=Jv ops _ _ hs h;exact⟨1,.normal,aY,cC,st',by simp only[exec,aZ,h1],h2,h3⟩
 | .seq a b,s,dH,fr,dS,st,K,r,hs,h=>by
   (cases s<;>simp only[den]at h<;>first|(cases h;done)|skip);rename_i jn s t;simp only[rO]at dH;cases jn with
   |none=>
    simp only at h;obtain⟨n,ex,bJ,pJ,aJ,h1,h2,h3⟩:=mB a s dH.1 hs h;cases ex with
    |   normal=>
        obtain⟨m,ex,rA,Rj,jz,k1,k2,k3⟩:=mB b t dH.2 h2 h3;exact⟨max n m+1,ex,rA,Rj,jz,by simp only[exec,aZ,zH (Zi2 n m) h1];exact zH (Zg9 n m) k1,k2,k3⟩
    |exit i=>exact⟨n+1,.exit i,bJ,pJ,aJ,by simp only[exec,aZ,h1],h2,h3⟩
    |ret=>exact⟨n+1,.ret,bJ,pJ,aJ,by simp only[exec,aZ,h1],h2,h3⟩
   |some l=>
    simp only[fA]at h;obtain⟨n,ex,bJ,pJ,aJ,h1,h2,h3⟩:=mB a s dH.1 hs h;cases ex with
    |   normal=>
        obtain⟨vs,g1,g2⟩:=tT h3;obtain⟨aY,g3,g4⟩:=xJ g2 (Has.sub h2 g1) (λp v hp=>by rw[T.cY]at hp;cases hp);obtain⟨m,ex,rA,Rj,jz,k1,k2,k3⟩:=mB b t dH.2 g3 g4;exact⟨max n m+1,ex,rA,Rj,jz,by simp only[exec,aZ,zH (Zi2 n m) h1];exact zH (Zg9 n m) k1,k2,k3⟩
    |exit i=>exact⟨n+1,.exit i,bJ,pJ,aJ,by simp only[exec,aZ,h1],h2,h3⟩
    |ret=>exact⟨n+1,.ret,bJ,pJ,aJ,by simp only[exec,aZ,h1],h2,h3⟩
 | .cond x a b,s,dH,fr,dS,st,K,r,hs,h=>by
   (cases s<;>simp only[den]at h<;>first|(cases h;done)|skip);simp only[rO]at dH;cases hx:xC fr x with
   |none=>simp[hx]at h
   |some v=>
    simp only[hx]at h;unfold Oy at h;split at h
    .   obtain⟨n,ex,bJ,pJ,aJ,h1,h2,h3⟩:=mB a _ dH.1 hs h;exact⟨n+1,ex,bJ,pJ,aJ,by simp only[exec,aZ,hs.ev hx];exact h1,h2,h3⟩
    .   obtain⟨n,ex,bJ,pJ,aJ,h1,h2,h3⟩:=mB b _ dH.2 hs h;exact⟨n+1,ex,bJ,pJ,aJ,by simp only[exec,aZ,hs.ev hx];exact h1,h2,h3⟩
    .   cases h
 | .block id a,s,dH,fr,dS,st,K,r,hs,h=>by
   (cases s<;>simp only[den]at h<;>first|(cases h;done)|skip);simp only[rO]at dH;obtain⟨n,ex,bJ,pJ,aJ,h1,h2,h3⟩:=mB a _ dH hs h;cases ex with
   |normal=>exact⟨n+1,.normal,bJ,pJ,aJ,by simp only[exec,aZ,h1],h2,h3⟩
   |ret=>exact⟨n+1,.ret,bJ,pJ,aJ,by simp only[exec,aZ,h1],h2,h3⟩
   |exit i=>
    simp only at h3;cases hb:Nat.beq i id with
    |true=>simp only[hb]at h3;exact⟨n+1,.normal,bJ,pJ,aJ,by simp only[exec,aZ,h1,hb],h2,h3⟩
    |false=>simp only[hb]at h3;exact⟨n+1,.exit i,bJ,pJ,aJ,by simp only[exec,aZ,h1,hb],h2,h3⟩
 | .loop a,s,dH,fr,dS,st,K,r,hs,h=>by
   (cases s<;>simp only[den]at h<;>first|(cases h;done)|skip);rename_i j ins outs s;simp only[rO,uH]at dH;obtain⟨ady,dH⟩:=dH;obtain⟨vs,g1,g2⟩:=tT h;obtain⟨hz,hsu⟩:=ady (knk outs K)
   have main:∀(n:Nat)(vs:List AV)(st:St)(dS:Fr),Has ins vs dS->L j (knk outs K) n vs st=some r->
        ∃m ex aY cC st',exec c m (.loop a) dS st=some (ex,cC,st')/\Sub aY cC/\K ex aY st'=some r:=by
    intro n;induction n with
    |zero=>intro vs st dS _ h;rw[hz]at h;cases h
    |   succ n ihn=>
        intro vs st dS hh h;rw[hsu]at h;unfold C5 at h;obtain⟨bK,q1,q2⟩:=xJ h hh (λp v hp=>by rw[T.cY]at hp;cases hp);obtain⟨m,ex,bJ,pJ,aJ,h1,h2,h3⟩:=mB a s dH q1 q2;cases ex with
        |normal=>
         obtain⟨us,p1,p2⟩:=tT h3;obtain⟨m',ex,rA,Rj,jz,k1,k2,k3⟩:=ihn us aJ pJ (Has.sub h2 p1) p2;exact⟨max m m'+1,ex,rA,Rj,jz,by simp only[exec,aZ,zH (Zi2 m m') h1];exact zH (Zg9 m m') k1,k2,k3⟩
        |exit i=>
         obtain⟨os,p1,p2⟩:=tT h3;obtain⟨rA,p3,p4⟩:=xJ p2 (Has.sub h2 p1) (λp v hp=>by rw[T.cY]at hp;cases hp);exact⟨m+1,.exit i,rA,pJ,aJ,by simp only[exec,aZ,h1],p3,p4⟩
        |ret=>
         obtain⟨os,p1,p2⟩:=tT h3;obtain⟨rA,p3,p4⟩:=xJ p2 (Has.sub h2 p1) (λp v hp=>by rw[T.cY]at hp;cases hp);exact⟨m+1,.ret,rA,pJ,aJ,by simp only[exec,aZ,h1],p3,p4⟩
   exact main F vs st dS (Has.sub hs g1) g2
def Kg:(H:Pos->Option AB)->Fr->List xB->(List AV->Option R)->Option R
 |_,_,[],k=>k []
 |  H,fr,.tmp p::rs,k=>match fr.get p with
    |some v=>Kg H fr rs λvs=>k (v::vs)
    |none=>none
 |  H,fr,.cell p n::rs,k=>match fr.get p with
    |some q=>match (ay.load n).run H .h [q]with
     |some (.val v)=>Kg H fr rs λvs=>k (v::vs)
     |_=>none
    |none=>none
def Ua(n:Option Nat)(q:AV)(st:St)(K:AV->Option R):Option R:=match (ay.load n).run (λb=>st.heap.get b) .h [q]with
 |some (.val v)=>K v
 |_=>none
theorem BF{H:Pos->Option AB}{fr dS:Fr}(hs:Sub fr dS):∀{rs:List xB}{k:List AV->Option R}{r:R},Kg H fr rs k=some r->∃vs,b9 H dS rs=some vs/\k vs=some r
 |[],k,r,h=>⟨[],rfl,h⟩
 | .tmp p::rs,k,r,h=>by
   unfold Kg at h;cases hp:fr.get p with
   |none=>simp[hp]at h
   |some v=>
    simp only[hp]at h;obtain⟨vs,h1,h2⟩:=BF hs h;exact⟨v::vs,by unfold b9;simp only[hs _ _ hp,h1],h2⟩
 | .cell p n::rs,k,r,h=>by
   unfold Kg at h;cases hp:fr.get p with
   |none=>simp[hp]at h
   |some q=>
    simp only[hp]at h;split at h
    .   rename_i v hv;obtain⟨vs,h1,h2⟩:=BF hs h;exact⟨v::vs,by unfold b9;simp only[hs _ _ hp,hv,h1],h2⟩
    .   cases h
def yf(c:ai)(F:Nat)(L:Env (AV×St))(A:cj)(s:Sh)(args:List AV)(st:St):Option (AV×St):=
 match Nat.beq args.length A.nparams with
 |  true=>den c F L A.code s (params 0 args .e) st λex fr st=>match ex with
    |.normal=>Kg (λb=>st.heap.get b) fr A.results λvs=>some (fR vs,st)
    |.ret=>Kg (λb=>st.heap.get b) fr A.results λvs=>some (fR vs,st)
    |.exit _=>none
 |false=>none
theorem ZZ{O:dQ}{G:T cj}{F:Nat}{L:Env (AV×St)}{f:FuncId}{A:cj}{s:Sh}{args:List AV}{st:St}{r:AV×St}(ho:O f=none)(hF:G.get (key f)=some A)
  (hL:∀x∈dO A.code s,uH (run O G) F L x.1 x.2) (h:yf (run O G) F L A s args st=some r):run O G f args st=some (tidy st r):=by
 unfold yf at h;split at h<;>first|(cases h;done)|skip
 rename_i hlen;obtain⟨n,ex,aY,cC,st',h1,h2,h3⟩:=mB A.code s (wF _ _ hL) (Sub.refl _) h;refine ZY (n:=n) ho hF ?_;unfold pV;simp only[hlen,h1];cases ex with
 |normal=>
  obtain⟨vs,k1,k2⟩:=BF h2 h3;simp only[k1];exact k2
 |ret=>
  obtain⟨vs,k1,k2⟩:=BF h2 h3;simp only[k1];exact k2
 |exit i=>cases h3
def af(st:St)(b:AB):St:={ heap:=st.heap.put (some b) st.next,next:=st.next.succ }
def P8{R:Type}:List (Nat×(LpK R->Nat->List AV->St->Option R))->Env R
 |[]=>λ_ _ _ _ _=>none
 |  (i,g)::l=>λj K n=>match Nat.beq i j with
    |true=>g K n
    |false=>P8 l j K n
def eR(A:cj)(s:Sh)(i:Nat):AC×Sh:=(dO A.code s).getD i (.skip,.leaf)
theorem Z0{R:Type}{c:ai}{F:Nat}{L:Env R}{A:cj}{s:Sh}(n:Nat)(hn:Nat.beq (dO A.code s).length n=true)(h:∀i,i<n->uH c F L (eR A s i).1 (eR A s i).2):
  ∀x∈dO A.code s,uH c F L x.1 x.2:=by
 intro x hx;obtain⟨i,hi,he⟩:=Zk5.1 hx;have hn:=Za0 hn;have:=h i (by omega);unfold eR at this;rw[Zc0,H4 hi]at this;simp only[Zj3,he]at this;exact this
def M1:Sh->Bool
 |.loop _ _ _ _=>true
 |_=>false
def Xy:Sh->Nat
 |.loop j _ _ _=>j
 |_=>0
def lpI:Sh->List Pos
 |.loop _ i _ _=>i
 |_=>[]
def Xz:Sh->List (Nat×List Pos)
 |.loop _ _ o _=>o
 |_=>[]
def lpB:Sh->Sh
 |.loop _ _ _ s=>s
 |_=>.leaf
theorem jM{R:Type}{c:ai}{F:Nat}{L:Env R}{A:cj}{sh:Sh}{i:Nat}(j:Nat)(hs:(M1 (eR A sh i).2&&Nat.beq (Xy (eR A sh i).2) j)=true)(h0:∀K' vs st,L j K' 0 vs st=none)
  (h1:∀K' n vs st,L j K' (n+1) vs st=C5 (den c F L (eR A sh i).1 (lpB (eR A sh i).2)) (lpI (eR A sh i).2) (Xz (eR A sh i).2) K' (L j K' n) vs st):uH c F L (eR A sh i).1 (eR A sh i).2:=by
 generalize (eR A sh i).1=a at*
 generalize (eR A sh i).2=t at*
 cases t with
 |loop j' ins outs s=>
  simp only[M1,Xy,Zf5]at hs;obtain rfl:=Za0 hs;exact λK'=>⟨h0 K',h1 K'⟩
 |_=>simp[M1]at hs
end
end Go.Ai
section
namespace Go.Ai
open Go
theorem cr(k:IntKind):zN k k=true:=by cases k<;>rfl
theorem jN(a b:Int):sU a b=decide (a=b):=by rw[jL];rfl
theorem fB(a b:List Nat):gX a b=decide (a=b):=by rw[Zh4,jV];simp
theorem wrap64{x:Int}(h1: -9223372036854775808<=x)(h2:x<=9223372036854775807):ax .i64 x=x:=by
 unfold ax NS NT;simp only;split
 . split
   .rfl
   .contradiction
 .contradiction
theorem xk{x:Int}(h1:0<=x)(h2:x<=255):ax .u8 x=x:=by
 unfold ax NS NT;simp only;split
 . split
   .rfl
   .contradiction
 .contradiction
theorem iN(k:IntKind)(n:Nat):rL (.int k (n:Int))=some n:=id rfl
theorem eV(a b:Nat):Nat.ble a b=decide (a<=b):=by apply Zh4.2;simp
theorem zl(a b:Nat):Nat.blt a b=decide (a<b):=by apply Zh4.2;simp[Nat.blt,Nat.ble_eq];omega
theorem eu(a b:Nat):Nat.beq a b=decide (a=b):=by apply Zh4.2;simp
def rP{R:Type}(o:Option AV)(k:AV->Option R):Option R:=match o with
 |some v=>k v
 |none=>none
def yg{R:Type}(o:Option (List AV))(k:List AV->Option R):Option R:=match o with
 |some v=>k v
 |none=>none
def Kh{R:Type}(o:Option (AV×St))(k:AV->St->Option R):Option R:=match o with
 |some (v,st)=>k v st
 |none=>none
section
variable{R:Type}(c:ai)(K:AV->St->Option R)(K1:AV->Option R)(A B:Option R)
@[simp] theorem mC(v:AV)(k:AV->Option R):rP (some v) k=k v:=id rfl
@[simp] theorem qv(v:List AV)(k:List AV->Option R):yg (some v) k=k v:=id rfl
@[simp] theorem ic(v:AV)(st:St)(k:AV->St->Option R):Kh (some (v,st)) k=k v st:=id rfl
@[simp] theorem iO:Oy (.bool true) A B=A:=id rfl
@[simp] theorem lF:Oy (.bool false) A B=B:=id rfl
@[simp] theorem aF(v:AV)(vs:List AV)(k:AV->List AV->Option R):ji (v::vs) k=k v vs:=id rfl
@[simp] theorem cX(k:Option R):pX [] k=k:=id rfl
theorem qw(f:(List AV->St->Option R)->Option R)(k:List AV->St->Option R):fA f k=f k:=id rfl
@[simp] theorem tU(b:Bool)(k:ay)(xs:List AV)(st:St):Ri c (.bool b) b k xs st K=ak c k xs st K:=by cases b<;>exact id rfl
@[simp] theorem XA(k:ay)(xs:List AV)(st:St):Ri c (.bool true) false k xs st K=K .undef st:=id rfl
@[simp] theorem gst_ft(k:ay)(xs:List AV)(st:St):Ri c (.bool false) true k xs st K=K .undef st:=id rfl
@[simp] theorem gst_un(b:Bool)(k:ay)(xs:List AV)(st:St):Ri c .undef b k xs st K=K .undef st:=id rfl
@[simp] theorem aef(b:Bool)(k:ay)(xs:List AV):Js (.bool b) b k xs K1=fJ k xs K1:=by cases b<;>exact id rfl
@[simp] theorem gpr_tf(k:ay)(xs:List AV):Js (.bool true) false k xs K1=K1 .undef:=id rfl
@[simp] theorem gpr_ft(k:ay)(xs:List AV):Js (.bool false) true k xs K1=K1 .undef:=id rfl
@[simp] theorem gpr_un(b:Bool)(k:ay)(xs:List AV):Js .undef b k xs K1=K1 .undef:=id rfl
@[simp] theorem aeg(b:Bool)(k:ay)(xs:List AV)(h:T AB)(ok:AV->Bool):Jt (.bool b) b k xs h ok K1=kW k xs h ok K1:=by cases b<;>exact id rfl
@[simp] theorem grd_tf(k:ay)(xs:List AV)(h:T AB)(ok:AV->Bool):Jt (.bool true) false k xs h ok K1=K1 .undef:=id rfl
@[simp] theorem grd_ft(k:ay)(xs:List AV)(h:T AB)(ok:AV->Bool):Jt (.bool false) true k xs h ok K1=K1 .undef:=id rfl
@[simp] theorem grd_un(b:Bool)(k:ay)(xs:List AV)(h:T AB)(ok:AV->Bool):Jt .undef b k xs h ok K1=K1 .undef:=id rfl
@[simp] theorem aeh(b:Bool):Ju (.bool b) b A B=A:=by cases b<;>exact id rfl
@[simp] theorem wnt_tf:Ju (.bool true) false A B=B:=id rfl
@[simp] theorem wnt_ft:Ju (.bool false) true A B=B:=id rfl
@[simp] theorem wnt_un(b:Bool):Ju .undef b A B=B:=id rfl
theorem Ah{k:ay}{xs:List AV}{o:Option AV}(h:∀H n,k.run H n xs=o.map .val)(st:St):ak c k xs st K=rP o λv=>K v st:=by unfold ak bS;rw[h];cases o<;>rfl
theorem LM{k:ay}{xs:List AV}{o:Option AV}(h:∀H n,k.run H n xs=o.map .val):fJ k xs K1=rP o K1:=by unfold fJ;rw[h];cases o<;>rfl
theorem aW{k:ay}{xs:List AV}{v:AV}(h:∀H n,k.run H n xs=some (.val v))(st:St):ak c k xs st K=K v st:=by
 unfold ak bS;rw[h]
theorem dP{k:ay}{xs:List AV}{v:AV}(h:∀H n,k.run H n xs=some (.val v)):fJ k xs K1=K1 v:=by
 unfold fJ;rw[h]
theorem kI(f:FuncId)(l:List AV)(st:St):ak c (.callF f) l st K=Kh (c f l st) K:=by unfold ak bS;show(match c f l st with|some (v,st')=>K v st'|none=>none)=_;cases c f l st<;>rfl
theorem tV(f:FuncId)(l u v:List AV)(st:St):ak c .callV (.func f u v::l) st K=Kh (c f (u++(l++v)) st) K:=by unfold ak bS;show(match c f (u++(l++v)) st with|some (v,st')=>K v st'|none=>none)=_;cases c f (u++(l++v)) st<;>rfl
attribute [simp] kI tV
end
def cellsOf:Option AB->Option (List AV)
 |some (.cells cs _)=>some cs
 |some (.typed _ cs)=>some cs
 |_=>none
@[simp] theorem acE(t:TypeId)(cs:List AV):cellsOf (some (.typed t cs))=some cs:=id rfl
@[simp] theorem aS(cs:List AV)(f:Nat):cellsOf (some (.cells cs f))=some cs:=id rfl
def ro(es:Nat)(z:Bool)(rs:List (List AV)):AV:=match z,rs with
 |true,[]=>.ah
 |_,rs=>.fl rs es
theorem Ub{es:Nat}{z:Bool}{rs:List (List AV)}(h:rs≠[]):ro es z rs= .fl rs es:=by
 unfold ro;split
 .exact absurd rfl h
 .rfl
theorem run_move(H:Pos->Option AB)(n:Pos)(x:AV):ay.run H n .move [x]=some (.val x):=rfl
@[simp] theorem aE{R:Type}(c:ai)(K:AV->St->Option R)(st:St)(x:AV):ak c .move [x] st K=K x st:=aW c K (λH n=>run_move H n x) st
@[simp] theorem dM{R:Type}(K:AV->Option R)(x:AV):fJ .move [x] K=K x:=dP K (λH n=>run_move H n x)
theorem LN(H:Pos->Option AB)(n:Pos)(x y:AV):ay.run H n .pick [.bool true,x,y]=some (.val x):=rfl
@[simp] theorem Vw{R:Type}(c:ai)(K:AV->St->Option R)(st:St)(x y:AV):ak c .pick [.bool true,x,y] st K=K x st:=aW c K (λH n=>LN H n x y) st
@[simp] theorem adz{R:Type}(K:AV->Option R)(x y:AV):fJ .pick [.bool true,x,y] K=K x:=dP K (λH n=>LN H n x y)
theorem LO(H:Pos->Option AB)(n:Pos)(x y:AV):ay.run H n .pick [.bool false,x,y]=some (.val y):=rfl
@[simp] theorem Vx{R:Type}(c:ai)(K:AV->St->Option R)(st:St)(x y:AV):ak c .pick [.bool false,x,y] st K=K y st:=aW c K (λH n=>LO H n x y) st
@[simp] theorem adA{R:Type}(K:AV->Option R)(x y:AV):fJ .pick [.bool false,x,y] K=K y:=dP K (λH n=>LO H n x y)
theorem abU(H:Pos->Option AB)(n:Pos)(p:Bool):ay.run H n (.un .not) [.bool p]=some (.val (.bool (!p))):=rfl
@[simp] theorem zI{R:Type}(c:ai)(K:AV->St->Option R)(st:St)(p:Bool):ak c (.un .not) [.bool p] st K=K (.bool (!p)) st:=aW c K (λH n=>abU H n p) st
theorem Uc(H:Pos->Option AB)(n:Pos)(q:e8)(k:IntKind)(a b:Int):ay.run H n (.bin .lss q) [.int k a,.int k b]=some (.val (.bool (decide (a<b)))):=by simp[ay.run,gy,lR,cr,jN,dD,gW,fB]
@[simp] theorem mg{R:Type}(c:ai)(K:AV->St->Option R)(st:St)(q:e8)(k:IntKind)(a b:Int):ak c (.bin .lss q) [.int k a,.int k b] st K=K (.bool (decide (a<b))) st:=aW c K (λH n=>Uc H n q k a b) st
@[simp] theorem Ud{R:Type}(K:AV->Option R)(q:e8)(k:IntKind)(a b:Int):fJ (.bin .lss q) [.int k a,.int k b] K=K (.bool (decide (a<b))):=dP K (λH n=>Uc H n q k a b)
theorem Ue(H:Pos->Option AB)(n:Pos)(q:e8)(k:IntKind)(a b:Int):ay.run H n (.bin .leq q) [.int k a,.int k b]=some (.val (.bool (decide (a<=b)))):=by simp[ay.run,gy,lR,cr,jN,dD,gW,fB]
@[simp] theorem aei{R:Type}(c:ai)(K:AV->St->Option R)(st:St)(q:e8)(k:IntKind)(a b:Int):ak c (.bin .leq q) [.int k a,.int k b] st K=K (.bool (decide (a<=b))) st:=aW c K (λH n=>Ue H n q k a b) st
@[simp] theorem aej{R:Type}(K:AV->Option R)(q:e8)(k:IntKind)(a b:Int):fJ (.bin .leq q) [.int k a,.int k b] K=K (.bool (decide (a<=b))):=dP K (λH n=>Ue H n q k a b)
theorem Uf(H:Pos->Option AB)(n:Pos)(q:e8)(k:IntKind)(a b:Int):ay.run H n (.bin .gtr q) [.int k a,.int k b]=some (.val (.bool (decide (b<a)))):=by simp[ay.run,gy,lR,cr,jN,dD,gW,fB]
@[simp] theorem abV{R:Type}(c:ai)(K:AV->St->Option R)(st:St)(q:e8)(k:IntKind)(a b:Int):ak c (.bin .gtr q) [.int k a,.int k b] st K=K (.bool (decide (b<a))) st:=aW c K (λH n=>Uf H n q k a b) st
@[simp] theorem aek{R:Type}(K:AV->Option R)(q:e8)(k:IntKind)(a b:Int):fJ (.bin .gtr q) [.int k a,.int k b] K=K (.bool (decide (b<a))):=dP K (λH n=>Uf H n q k a b)
theorem abW(H:Pos->Option AB)(n:Pos)(q:e8)(k:IntKind)(a b:Int):ay.run H n (.bin .geq q) [.int k a,.int k b]=some (.val (.bool (decide (b<=a)))):=by simp[ay.run,gy,lR,cr,jN,dD,gW,fB]
@[simp] theorem ael{R:Type}(c:ai)(K:AV->St->Option R)(st:St)(q:e8)(k:IntKind)(a b:Int):ak c (.bin .geq q) [.int k a,.int k b] st K=K (.bool (decide (b<=a))) st:=aW c K (λH n=>abW H n q k a b) st
theorem Ug(H:Pos->Option AB)(n:Pos)(q:e8)(k:IntKind)(a b:Int):ay.run H n (.bin .eql q) [.int k a,.int k b]=some (.val (.bool (decide (a=b)))):=by simp[ay.run,gy,lR,cr,jN,dD,gW,fB]
@[simp] theorem fo{R:Type}(c:ai)(K:AV->St->Option R)(st:St)(q:e8)(k:IntKind)(a b:Int):ak c (.bin .eql q) [.int k a,.int k b] st K=K (.bool (decide (a=b))) st:=aW c K (λH n=>Ug H n q k a b) st
@[simp] theorem aem{R:Type}(K:AV->Option R)(q:e8)(k:IntKind)(a b:Int):fJ (.bin .eql q) [.int k a,.int k b] K=K (.bool (decide (a=b))):=dP K (λH n=>Ug H n q k a b)
theorem abX(H:Pos->Option AB)(n:Pos)(q:e8)(k:IntKind)(a b:Int):ay.run H n (.bin .neq q) [.int k a,.int k b]=some (.val (.bool (!decide (a=b)))):=by simp[ay.run,gy,lR,cr,jN,dD,gW,fB]
@[simp] theorem aen{R:Type}(c:ai)(K:AV->St->Option R)(st:St)(q:e8)(k:IntKind)(a b:Int):ak c (.bin .neq q) [.int k a,.int k b] st K=K (.bool (!decide (a=b))) st:=aW c K (λH n=>abX H n q k a b) st
theorem Uh(H:Pos->Option AB)(n:Pos)(q:e8)(k:IntKind)(a b:Int):ay.run H n (.bin .add q) [.int k a,.int k b]=some (.val (.int k (ax k (a+b)))):=by simp[ay.run,gy,lR,cr,jN,dD,gW,fB]
@[simp] theorem pF{R:Type}(c:ai)(K:AV->St->Option R)(st:St)(q:e8)(k:IntKind)(a b:Int):ak c (.bin .add q) [.int k a,.int k b] st K=K (.int k (ax k (a+b))) st:=aW c K (λH n=>Uh H n q k a b) st
@[simp] theorem aeo{R:Type}(K:AV->Option R)(q:e8)(k:IntKind)(a b:Int):fJ (.bin .add q) [.int k a,.int k b] K=K (.int k (ax k (a+b))):=dP K (λH n=>Uh H n q k a b)
theorem Ui(H:Pos->Option AB)(n:Pos)(q:e8)(k:IntKind)(a b:Int):ay.run H n (.bin .sub q) [.int k a,.int k b]=some (.val (.int k (ax k (a - b)))):=by simp[ay.run,gy,lR,cr,jN,dD,gW,fB]
@[simp] theorem aep{R:Type}(c:ai)(K:AV->St->Option R)(st:St)(q:e8)(k:IntKind)(a b:Int):ak c (.bin .sub q) [.int k a,.int k b] st K=K (.int k (ax k (a - b))) st:=aW c K (λH n=>Ui H n q k a b) st
@[simp] theorem aeq{R:Type}(K:AV->Option R)(q:e8)(k:IntKind)(a b:Int):fJ (.bin .sub q) [.int k a,.int k b] K=K (.int k (ax k (a - b))):=dP K (λH n=>Ui H n q k a b)
theorem abY(H:Pos->Option AB)(n:Pos)(q:e8)(k:IntKind)(a b:Int):ay.run H n (.bin .mul q) [.int k a,.int k b]=some (.val (.int k (ax k (a*b)))):=by simp[ay.run,gy,lR,cr,jN,dD,gW,fB]
@[simp] theorem aer{R:Type}(c:ai)(K:AV->St->Option R)(st:St)(q:e8)(k:IntKind)(a b:Int):ak c (.bin .mul q) [.int k a,.int k b] st K=K (.int k (ax k (a*b))) st:=aW c K (λH n=>abY H n q k a b) st
theorem Rk(H:Pos->Option AB)(n:Pos)(q:e8)(s t:List Nat):ay.run H n (.bin .eql q) [.str s,.str t]=some (.val (.bool (decide (s=t)))):=by simp[ay.run,gy,lR,cr,jN,dD,gW,fB]
@[simp] theorem ad1{R:Type}(c:ai)(K:AV->St->Option R)(st:St)(q:e8)(s t:List Nat):ak c (.bin .eql q) [.str s,.str t] st K=K (.bool (decide (s=t))) st:=aW c K (λH n=>Rk H n q s t) st
@[simp] theorem ad2{R:Type}(K:AV->Option R)(q:e8)(s t:List Nat):fJ (.bin .eql q) [.str s,.str t] K=K (.bool (decide (s=t))):=dP K (λH n=>Rk H n q s t)
theorem Rm(H:Pos->Option AB)(n:Pos)(q:e8)(s t:List Nat):ay.run H n (.bin .neq q) [.str s,.str t]=some (.val (.bool (!decide (s=t)))):=by simp[ay.run,gy,lR,cr,jN,dD,gW,fB]
@[simp] theorem ad3{R:Type}(c:ai)(K:AV->St->Option R)(st:St)(q:e8)(s t:List Nat):ak c (.bin .neq q) [.str s,.str t] st K=K (.bool (!decide (s=t))) st:=aW c K (λH n=>Rm H n q s t) st
@[simp] theorem Z3{R:Type}(K:AV->Option R)(q:e8)(s t:List Nat):fJ (.bin .neq q) [.str s,.str t] K=K (.bool (!decide (s=t))):=dP K (λH n=>Rm H n q s t)
theorem Z4(H:Pos->Option AB)(n:Pos)(q:e8)(s t:List Nat):ay.run H n (.bin .lss q) [.str s,.str t]=some (.val (.bool (aB s t))):=by simp[ay.run,gy,lR,cr,jN,dD,gW,fB]
@[simp] theorem ad4{R:Type}(K:AV->Option R)(q:e8)(s t:List Nat):fJ (.bin .lss q) [.str s,.str t] K=K (.bool (aB s t)):=dP K (λH n=>Z4 H n q s t)
theorem Z5(H:Pos->Option AB)(n:Pos)(q:e8)(s t:List Nat):ay.run H n (.bin .geq q) [.str s,.str t]=some (.val (.bool (!aB s t))):=by simp[ay.run,gy,lR,cr,jN,dD,gW,fB]
@[simp] theorem ad5{R:Type}(c:ai)(K:AV->St->Option R)(st:St)(q:e8)(s t:List Nat):ak c (.bin .geq q) [.str s,.str t] st K=K (.bool (!aB s t)) st:=aW c K (λH n=>Z5 H n q s t) st
theorem Z6(H:Pos->Option AB)(n:Pos)(p r:Bool):ay.run H n (.bin .eql .bool) [.bool p,.bool r]=some (.val (.bool (p==r))):=rfl
@[simp] theorem ad6{R:Type}(c:ai)(K:AV->St->Option R)(st:St)(p r:Bool):ak c (.bin .eql .bool) [.bool p,.bool r] st K=K (.bool (p==r)) st:=aW c K (λH n=>Z6 H n p r) st
theorem Z7(H:Pos->Option AB)(n:Pos)(p r:Bool):ay.run H n (.bin .neq .bool) [.bool p,.bool r]=some (.val (.bool (!(p==r)))):=rfl
@[simp] theorem ad7{R:Type}(c:ai)(K:AV->St->Option R)(st:St)(p r:Bool):ak c (.bin .neq .bool) [.bool p,.bool r] st K=K (.bool (!(p==r))) st:=aW c K (λH n=>Z7 H n p r) st
theorem Z8(H:Pos->Option AB)(n:Pos)(s:List Nat):ay.run H n (.lenB .s) [.str s]=some (.val (.int .i64 (s.length:Int))):=rfl
@[simp] theorem ad8{R:Type}(c:ai)(K:AV->St->Option R)(st:St)(s:List Nat):ak c (.lenB .s) [.str s] st K=K (.int .i64 (s.length:Int)) st:=aW c K (λH n=>Z8 H n s) st
theorem Rn(H:Pos->Option AB)(n:Pos)(es:Nat)(z:Bool)(rs:List (List AV)):ay.run H n (.lenB .l) [ro es z rs]=some (.val (.int .i64 (rs.length:Int))):=by unfold ro;split<;>rfl
@[simp] theorem ke{R:Type}(c:ai)(K:AV->St->Option R)(st:St)(es:Nat)(z:Bool)(rs:List (List AV)):ak c (.lenB .l) [ro es z rs] st K=K (.int .i64 (rs.length:Int)) st:=aW c K (λH n=>Rn H n es z rs) st
@[simp] theorem Ro{R:Type}(K:AV->Option R)(es:Nat)(z:Bool)(rs:List (List AV)):fJ (.lenB .l) [ro es z rs] K=K (.int .i64 (rs.length:Int)):=dP K (λH n=>Rn H n es z rs)
theorem Rp(H:Pos->Option AB)(n:Pos)(k k2:IntKind)(a:Int):ay.run H n (.conv (.int k)) [.int k2 a]=some (.val (.int k (ax k a))):=rfl
@[simp] theorem Ki{R:Type}(c:ai)(K:AV->St->Option R)(st:St)(k k2:IntKind)(a:Int):ak c (.conv (.int k)) [.int k2 a] st K=K (.int k (ax k a)) st:=aW c K (λH n=>Rp H n k k2 a) st
@[simp] theorem ad9{R:Type}(K:AV->Option R)(k k2:IntKind)(a:Int):fJ (.conv (.int k)) [.int k2 a] K=K (.int k (ax k a)):=dP K (λH n=>Rp H n k k2 a)
theorem Z9(H:Pos->Option AB)(n:Pos)(k:IntKind)(s:List Nat)(i:Nat):ay.run H n .idxS [.str s,.int k (i:Int)]=((s[i]?.map λc=>.int .u8 (c:Int)):Option AV).map .val:=by simp only[ay.run,Iq,iN,ki];cases s[i]? <;>rfl
@[simp] theorem aea{R:Type}(c:ai)(K:AV->St->Option R)(st:St)(k:IntKind)(s:List Nat)(i:Nat):ak c .idxS [.str s,.int k (i:Int)] st K=rP (s[i]?.map λc=>.int .u8 (c:Int)) λv=>K v st:=Ah c K (λH n=>Z9 H n k s i) st
theorem GW(H:Pos->Option AB)(n:Pos)(off:Nat)(p:Pos)(o:Nat):ay.run H n (.fieldA off) [.ptr p o]=some (.val (.ptr p (o+off))):=rfl
@[simp] theorem cU{R:Type}(c:ai)(K:AV->St->Option R)(st:St)(off:Nat)(p:Pos)(o:Nat):ak c (.fieldA off) [.ptr p o] st K=K (.ptr p (o+off)) st:=aW c K (λH n=>GW H n off p o) st
@[simp] theorem bl{R:Type}(K:AV->Option R)(off:Nat)(p:Pos)(o:Nat):fJ (.fieldA off) [.ptr p o] K=K (.ptr p (o+off)):=dP K (λH n=>GW H n off p o)
theorem Jw(H:Pos->Option AB)(n:Pos)(i:Nat)(l:List AV):ay.run H n (.extract i) [.tuple l]=(l[i]? :Option AV).map .val:=by simp only[ay.run,zd,ki];cases l[i]? <;>rfl
@[simp] theorem xp{R:Type}(c:ai)(K:AV->St->Option R)(st:St)(i:Nat)(l:List AV):ak c (.extract i) [.tuple l] st K=rP l[i]? λv=>K v st:=Ah c K (λH n=>Jw H n i l) st
@[simp] theorem adb{R:Type}(K:AV->Option R)(i:Nat)(l:List AV):fJ (.extract i) [.tuple l] K=rP l[i]? K:=LM K (λH n=>Jw H n i l)
theorem C6(H:Pos->Option AB)(n:Pos)(p:Pos)(o:Nat):ay.run H n .nilCheck [.ptr p o]=some (.val (.ptr p o)):=rfl
@[simp] theorem qZ{R:Type}(c:ai)(K:AV->St->Option R)(st:St)(p:Pos)(o:Nat):ak c .nilCheck [.ptr p o] st K=K (.ptr p o) st:=aW c K (λH n=>C6 H n p o) st
@[simp] theorem abZ{R:Type}(K:AV->Option R)(p:Pos)(o:Nat):fJ .nilCheck [.ptr p o] K=K (.ptr p o):=dP K (λH n=>C6 H n p o)
theorem Rq(H:Pos->Option AB)(n:Pos)(es:Nat)(z:Bool)(rs:List (List AV))(k:IntKind)(i:Nat):ay.run H n (.idxA es none) [ro es z rs,.int k (i:Int)]=((if i<rs.length then some (.fp rs i 0)else none):Option AV).map .val:=by
 by_cases h:i<rs.length
 .rw[Ub (by intro e;subst e;simp at h)];simp[ay.run,nk,iN,zl,eu,h]
 . unfold ro;split
   .rfl
   .simp[ay.run,nk,iN,zl,eu,h]
@[simp] theorem Rr{R:Type}(c:ai)(K:AV->St->Option R)(st:St)(es:Nat)(z:Bool)(rs:List (List AV))(k:IntKind)(i:Nat):ak c (.idxA es none) [ro es z rs,.int k (i:Int)] st K=rP (if i<rs.length then some (.fp rs i 0)else none) λv=>K v st:=Ah c K (λH n=>Rq H n es z rs k i) st
@[simp] theorem aaa{R:Type}(K:AV->Option R)(es:Nat)(z:Bool)(rs:List (List AV))(k:IntKind)(i:Nat):fJ (.idxA es none) [ro es z rs,.int k (i:Int)] K=rP (if i<rs.length then some (.fp rs i 0)else none) K:=LM K (λH n=>Rq H n es z rs k i)
theorem Oz(H:Pos->Option AB)(n:Pos)(es:Nat)(z:Bool)(rs:List (List AV))(k:IntKind)(i:Nat):ay.run H n (.sliceL es false true false) [ro es z rs,.int k (i:Int)]=((if i<=rs.length then some (ro es (z&&rs.isEmpty) (rs.take i))else none):Option AV).map .val:=by
 by_cases h:i<=rs.length
 . rw[  Za8 h];unfold ro;split
   .simp at h;subst h;rfl
   .rename_i hn;have:(z&&rs.isEmpty)=false:=(by cases z<;>cases rs<;>simp at hn ⊢);simp only[this];simp[ay.run,nU,bounds,iN,eV,eu,h]
 . rw[Za5 h];unfold ro;split
   .simp only[ay.run,nU,bounds,iN];have:¬i=0:=(by simp at h;omega);simp[eu,this]
   .simp[ay.run,nU,bounds,iN,eV,eu,h]
@[simp] theorem adZ{R:Type}(c:ai)(K:AV->St->Option R)(st:St)(es:Nat)(z:Bool)(rs:List (List AV))(k:IntKind)(i:Nat):ak c (.sliceL es false true false) [ro es z rs,.int k (i:Int)] st K=rP (if i<=rs.length then some (ro es (z&&rs.isEmpty) (rs.take i))else none) λv=>K v st:=Ah c K (λH n=>Oz H n es z rs k i) st
@[simp] theorem XB{R:Type}(K:AV->Option R)(es:Nat)(z:Bool)(rs:List (List AV))(k:IntKind)(i:Nat):fJ (.sliceL es false true false) [ro es z rs,.int k (i:Int)] K=rP (if i<=rs.length then some (ro es (z&&rs.isEmpty) (rs.take i))else none) K:=LM K (λH n=>Oz H n es z rs k i)
section
variable{R:Type}(c:ai)(K:AV->St->Option R)(K1:AV->Option R)
theorem uJ(H:Pos->Option AB)(n:Pos)(xs:List (List AV))(i j:Nat):ay.run H n (.load none) [.fp xs i j]=(xs[i]?.bind λcs=>cs[j]?).map .val:=by
 simp only[ay.run,qP,ki];cases xs[i]? with
 |none=>rfl
 |some cs=>simp only[Zd5];cases cs[j]? <;>rfl
theorem Ci(H:Pos->Option AB)(n:Pos)(m:Nat)(xs:List (List AV))(i j:Nat):ay.run H n (.load (some m)) [.fp xs i j]=((xs[i]?.bind λcs=>cut cs j m).map .agg).map .val:=by
 simp only[ay.run,qP,ki];cases xs[i]? with
 |none=>rfl
 |some cs=>simp only[Zd5];cases cut cs j m<;>rfl
theorem q7 (H:Pos->Option AB)(n:Pos)(p:Pos)(o:Nat):ay.run H n (.load none) [.ptr p o]=((cellsOf (H p)).bind λcs=>cs[o]?).map .val:=by
 simp only[ay.run,qP,ki];cases H p with
 |none=>rfl
 |some x=>   cases x<;>simp only[cellsOf,Zd5,Option.bind_none]<;>try rfl
             all_goals first|(rename_i cs _;cases cs[o]? <;>rfl)|(rename_i _ cs;cases cs[o]? <;>rfl)
theorem xq (H:Pos->Option AB)(n:Pos)(m:Nat)(p:Pos)(o:Nat):ay.run H n (.load (some m)) [.ptr p o]=(((cellsOf (H p)).bind λcs=>cut cs o m).map .agg).map .val:=by
 simp only[ay.run,qP];cases H p with
 |none=>rfl
 |some x=>   cases x<;>simp only[cellsOf,Zd5,Option.bind_none]<;>try rfl
             all_goals first|(rename_i cs _;cases cut cs o m<;>rfl)|(rename_i _ cs;cases cut cs o m<;>rfl)
@[simp] theorem adB(st:St)(xs:List (List AV))(i j:Nat):ak c (.load none) [.fp xs i j] st K=rP (xs[i]?.bind λcs=>cs[j]?) λv=>K v st:=Ah c K (λH n=>uJ H n xs i j) st
@[simp] theorem ade(st:St)(m:Nat)(xs:List (List AV))(i j:Nat):ak c (.load (some m)) [.fp xs i j] st K=yg (xs[i]?.bind λcs=>cut cs j m) λl=>K (.agg l) st:=by rw[Ah c K (λH n=>Ci H n m xs i j) st];cases(xs[i]?.bind λcs=>cut cs j m)<;>rfl
@[simp] theorem iP(st:St)(p:Pos)(o:Nat):ak c (.load none) [.ptr p o] st K=rP ((cellsOf (st.heap.get p)).bind λcs=>cs[o]?) λv=>K v st:=by unfold ak bS;rw[q7];cases((cellsOf (st.heap.get p)).bind λcs=>cs[o]?)<;>rfl
@[simp] theorem sg(st:St)(m:Nat)(p:Pos)(o:Nat):ak c (.load (some m)) [.ptr p o] st K=yg ((cellsOf (st.heap.get p)).bind λcs=>cut cs o m) λl=>K (.agg l) st:=by unfold ak bS;rw[xq];cases((cellsOf (st.heap.get p)).bind λcs=>cut cs o m)<;>rfl
@[simp] theorem adC(h:T AB)(xs:List (List AV))(i j:Nat):kW (.load none) [.fp xs i j] h (λ_=>true) K1=rP (xs[i]?.bind λcs=>cs[j]?) K1:=by unfold kW;rw[uJ,uJ];cases hx:(xs[i]?.bind λcs=>cs[j]?)<;>rfl
@[simp] theorem adf(h:T AB)(m:Nat)(xs:List (List AV))(i j:Nat):kW (.load (some m)) [.fp xs i j] h (λ_=>true) K1=yg (xs[i]?.bind λcs=>cut cs j m) λl=>K1 (.agg l):=by unfold kW;rw[Ci,Ci];cases hx:(xs[i]?.bind λcs=>cut cs j m)<;>rfl
@[simp] theorem adg(st:St)(f:FuncId)(xs:List AV):ak c (.mkFunc f 0) xs st K=K (.func f [] xs) st:=aW c K (λH n=>by simp[ay.run,Bk,eV]) st
@[simp] theorem oC(h:T AB)(p:Pos)(o:Nat):kW (.load none) [.ptr p o] h (λ_=>true) K1=rP ((cellsOf (h.get p)).bind λcs=>cs[o]?) K1:=by unfold kW;rw[q7,q7];show(match ((cellsOf (h.get p)).bind λcs=>cs[o]?).map bV.val with|some (.val v)=>_|_=>_)=_;cases((cellsOf (h.get p)).bind λcs=>cs[o]?)<;>rfl
@[simp] theorem Cj(h:T AB)(m:Nat)(p:Pos)(o:Nat):kW (.load (some m)) [.ptr p o] h (λ_=>true) K1=yg ((cellsOf (h.get p)).bind λcs=>cut cs o m) λl=>K1 (.agg l):=by unfold kW;rw[xq,xq];show(match (((cellsOf (h.get p)).bind λcs=>cut cs o m).map AV.agg).map bV.val with|some (.val v)=>_|_=>_)=_;cases((cellsOf (h.get p)).bind λcs=>cut cs o m)<;>rfl
theorem run_build(H:Pos->Option AB)(n:Pos)(z:List AV)(ps:List (Nat×Nat))(xs:List AV):ay.run H n (.build z ps) xs=((b6 z ps xs).map .agg).map .val:=by simp only[ay.run,DI];cases b6 z ps xs<;>rfl
@[simp] theorem ig(st:St)(z:List AV)(ps:List (Nat×Nat))(xs:List AV):ak c (.build z ps) xs st K=yg (b6 z ps xs) λl=>K (.agg l) st:=by rw[Ah c K (λH n=>run_build H n z ps xs) st];cases b6 z ps xs<;>rfl
@[simp] theorem xK(z:List AV)(ps:List (Nat×Nat))(xs:List AV):fJ (.build z ps) xs K1=yg (b6 z ps xs) λl=>K1 (.agg l):=by rw[LM K1 (λH n=>run_build H n z ps xs)];cases b6 z ps xs<;>rfl
theorem bI{α:Type}{l:List α}{m:Nat}(h:l.length=m):cut l 0 m=some l:=by
 unfold cut;rw[eV,H5 (by omega)];simp only[Ze3];rw[Zf9 (by omega)]
end
end Go.Ai
namespace Go.Ai
open Go
def Wf(st:St):Prop:=∀p x,st.heap.get p=some x->p.toNat<st.next.toNat
theorem c9(st:St)(b:AB):(af st b).next=st.next.succ:=id rfl
@[simp] theorem bR{st:St}{b:AB}(h:Wf st):Wf (af st b):=λp x hp=>by
  rw[c9,Pos.az];by_cases e:st.next=p
  .subst e;omega
  .have:=h p x (by rwa [af,T.br _ e]at hp);omega
@[simp] theorem aC(st:St)(b:AB):(af st b).heap.get st.next=some b:=T.ee _ _ _
theorem pG{st:St}{b:AB}{p:Pos}(h:p.toNat<st.next.toNat):(af st b).heap.get p=st.heap.get p:=by
 rw[af,T.br _ (by intro e;subst e;omega)]
@[simp] theorem uK{st:St}{a b:AB}:(af (af st a) b).heap.get st.next=some a:=by
  rw[pG (by rw[c9,Pos.az];omega),aC]
theorem cE{st:St}{b:AB}(h:Wf st):bF st (af st b):=λp x hp=>by rw[pG (h p x hp)];exact hp
theorem aK{st st':St}{v:AV}(hv:Plain v)(hk:bF st st'):tidy st (v,st')=(v,st):=by
 unfold tidy;rw[Za8 ⟨hv,hk⟩]
section
variable{R:Type}(c:ai)(K:AV->St->Option R)
@[simp] theorem pH(x:AV)(st:St):ak c .box [x] st K=K (.ptr st.next 0) (af st (.cells x.cells 0)):=id rfl
@[simp] theorem jk(l:List AV)(st:St):ak c (.alloc l) [] st K=K (.ptr st.next 0) (af st (.cells l 0)):=id rfl
end
theorem T.wG{α:Type}(x y:Option α):∀(p:Pos)(t:T α),T.put x p (T.put y p t)=T.put x p t
 |.h,.e=>rfl
 |.h,.n _ _ _=>rfl
 |.o p,.e=>by simp only[T.put];rw[T.wG x y p]
 |.o p,.n _ _ _=>by simp only[T.put];rw[T.wG x y p]
 |.i p,.e=>by simp only[T.put];rw[T.wG x y p]
 |.i p,.n _ _ _=>by simp only[T.put];rw[T.wG x y p]
def cv(st:St)(p:Pos)(b:AB):St:={ heap:=st.heap.put (some b) p,next:=st.next }
@[simp] theorem Eu(st:St)(p:Pos)(b:AB):(cv st p b).next=st.next:=id rfl
@[simp] theorem ej(st:St)(p:Pos)(b:AB):(cv st p b).heap.get p=some b:=T.ee _ _ _
theorem bt{st:St}{p q:Pos}{b:AB}(h:p≠q):(cv st p b).heap.get q=st.heap.get q:=T.br _ h _
@[simp] theorem M3(st:St)(a b:AB):cv (af st a) st.next b=af st b:=by
  unfold cv af;simp only[T.wG]
@[simp] theorem ab0(st:St)(p:Pos)(a b:AB):cv (cv st p a) p b=cv st p b:=by
  unfold cv;simp only[T.wG]
theorem Pos.M7(p:Pos):p≠p.succ:=λe=>by have:=congrArg Pos.toNat e;rw[Pos.az]at this;omega
theorem dU{R:Type}(c:ai)(K:AV->St->Option R)(st:St)(m:Nat)(p:Pos)(o:Nat)(v:AV)(cs:List AV)(h:st.heap.get p=some (.cells cs 0))(h1:v.cells.length=m)(h2:o+m<=cs.length)(h3:aQ v.cells=true):
  ak c (.store m) [.ptr p o,v] st K=K .undef (cv st p (.cells (aM cs o v.cells) 0)):=by
 have:ay.run (λb=>st.heap.get b) st.next (.store m) [.ptr p o,v]=some (.aD .undef none (some (p,.cells (aM cs o v.cells) 0)) none):=by
  simp[ay.run,zO,h,h1,h2,h3,eu,eV]
 unfold ak bS;rw[this];rfl
@[simp] theorem dx{R:Type}(c:ai)(K:AV->St->Option R)(st:St)(m:Nat)(v:AV)(cs:List AV)(h1:v.cells.length=m)(h2:m=cs.length)(h3:aQ v.cells=true):
   ak c (.store m) [.ptr st.next 0,v] (af st (.cells cs 0)) K=K .undef (af st (.cells v.cells 0)):=by
  rw[dU c K _ m st.next 0 v cs (aC _ _) h1 (by omega) h3,M3];have:aM cs 0 v.cells=v.cells:=by unfold aM;rw[h1,h2];simp
  rw[this]
theorem adD{R:Type}(n:Option Nat)(p:Pos)(o:Nat)(st:St)(K:AV->Option R):Ua n (.ptr p o) st K=match n with
  |none=>rP ((cellsOf (st.heap.get p)).bind λcs=>cs[o]?) K
  |some m=>yg ((cellsOf (st.heap.get p)).bind λcs=>cut cs o m) λl=>K (.agg l):=by
 unfold Ua;cases n with
 |none=>rw[q7];simp only;cases((cellsOf (st.heap.get p)).bind λcs=>cs[o]?)<;>rfl
 |some m=>rw[xq];simp only;cases((cellsOf (st.heap.get p)).bind λcs=>cut cs o m)<;>rfl
@[simp] theorem Rs{R:Type}(m:Nat)(p:Pos)(o:Nat)(st:St)(K:AV->Option R):Ua (some m) (.ptr p o) st K=yg ((cellsOf (st.heap.get p)).bind λcs=>cut cs o m) λl=>K (.agg l):=adD (some m) p o st K
@[simp] theorem XC(es:Nat)(z:Bool)(rs:List (List AV)):(ro es z rs).one=true:=by unfold ro;split<;>rfl
@[simp] theorem Rt(es:Nat)(z:Bool)(rs:List (List AV)):(ro es z rs).cells=[ro es z rs]:=by unfold ro;split<;>rfl
structure Grew(s s':St):Prop where
 wf:Wf s'
 keeps:bF s s'
 next:s.next.toNat<=s'.next.toNat
theorem Grew.refl{s:St}(h:Wf s):Grew s s:=⟨h,bF.refl s,Za4 _⟩
theorem Grew.trans{a b c:St}(h:Grew a b)(k:Grew b c):Grew a c:=⟨k.wf,h.keeps.trans k.keeps,Zc4 h.next k.next⟩
theorem Grew.af{s:St}(h:Wf s)(b:AB):Grew s (af s b):=⟨bR h,cE h,by rw[c9,Pos.az];omega⟩
theorem Grew.get{s s':St}(h:Grew s s'){p:Pos}{x:AB}(hp:s.heap.get p=some x):s'.heap.get p=some x:=h.keeps p x hp
end Go.Ai
end
namespace Go.Ai
section
open Go
theorem C7{st:St}{p:Pos}{b:AB}(h:Wf st)(hp:p.toNat<st.next.toNat):Wf (cv st p b):=λq x hq=>by
 rw[Eu];by_cases e:p=q
 .subst e;exact hp
 .rw[bt e]at hq;exact h q x hq
def dst(st:St)(p:Pos)(b:AB):St:={ heap:=(st.heap.put none p).put (some b) st.next,next:=st.next.succ }
theorem aab(st:St)(p:Pos)(b:AB):(dst st p b).next=st.next.succ:=id rfl
theorem M8(st:St)(p:Pos)(b:AB):(dst st p b).heap.get st.next=some b:=T.ee _ _ _
theorem LP{st:St}{p q:Pos}{b:AB}(h:p≠q)(h2:q.toNat<st.next.toNat):(dst st p b).heap.get q=st.heap.get q:=by
 rw[dst,T.br _ (by intro e;subst e;omega),T.br _ h]
theorem XD{st:St}{p:Pos}{b:AB}(h:Wf st):Wf (dst st p b):=λq x hq=>by
 rw[aab,Pos.az];by_cases e:st.next=q
 .subst e;omega
 . rw[dst,T.br _ e]at hq;by_cases e2:p=q
   .subst e2;rw[T.ee]at hq;cases hq
   .rw[T.br _ e2]at hq;have:=h q x hq;omega
theorem M9{s s':St}{v:AV}{b:Pos}{x:AB}(h:s.heap.get b=some x)(h2:s'.heap.get b≠some x):tidy s (v,s')=(v,s'):=by
 unfold tidy;rw[Za5];exact λe=>h2 (e.2 b x h)
section
variable{R:Type}(c:ai)(K:AV->St->Option R)(K1:AV->Option R)
theorem LQ(H:Pos->Option AB)(n:Pos)(es len:Nat)(z:List AV)(ps:List Nat)(xs:List AV):ay.run H n (.buildSlice es len z ps) xs=(b6 (bL z len) (ps.map λi=>(i*es,es)) xs).map λcs=>.aD (.slice n 0 len (some len) es) none none (some (.cells cs 0)):=by simp only[ay.run,oX];cases b6 (bL z len) (ps.map λi=>(i*es,es)) xs<;>rfl
@[simp] theorem aT(st:St)(es len:Nat)(z:List AV)(ps:List Nat)(xs:List AV):ak c (.buildSlice es len z ps) xs st K=yg (b6 (bL z len) (ps.map λi=>(i*es,es)) xs) λcs=>K (.slice st.next 0 len (some len) es) (af st (.cells cs 0)):=by unfold ak bS;rw[LQ];cases b6 (bL z len) (ps.map λi=>(i*es,es)) xs<;>rfl
@[simp] theorem uL(st:St)(es len:Nat)(z:List AV)(ps:List Nat)(xs:List AV)(K2:AV->AB->Option R):GO (.buildSlice es len z ps) xs st K2=yg (b6 (bL z len) (ps.map λi=>(i*es,es)) xs) λcs=>K2 (.slice st.next 0 len (some len) es) (.cells cs 0):=by unfold GO;rw[LQ];cases b6 (bL z len) (ps.map λi=>(i*es,es)) xs<;>rfl
@[simp] theorem XE(st:St):ak c .mkMap [] st K=K (.map st.next) (af st (.map [] 0)):=id rfl
theorem Ru{st:St}{es bytes m:Nat}{x:AV}{new:List AV}(hm:cS x=some m)(h0:m≠0)(hb:(2*(0+m)+768)*bytes<=281474976710656)(hs:0+m<=9223372036854775807)(hx:bX es m (λb=>st.heap.get b) x=some new):
  ak c (.append es bytes) [.ah,x] st K=K (.slice st.next 0 m none es) (af st (.cells new 0)):=by
 have:ay.run (λb=>st.heap.get b) st.next (.append es bytes) [.ah,x]=some (.aD (.slice st.next 0 m none es) none none (some (.cells new 0))):=by
  simp only[ay.run,fu];rw[show cS .ah=some 0 from rfl,hm];simp only[eV,eu,H5 hb,H5 hs,Za2 h0,hx]
 unfold ak bS;rw[this];rfl
theorem ab1{st:St}{es bytes m n:Nat}{p:Pos}{x:AV}{cs dz new:List AV}(hm:cS x=some m)(h0:m≠0)(hb:(2*(n+m)+768)*bytes<=281474976710656)(hs:n+m<=9223372036854775807)(hp:st.heap.get p=some (.cells cs 0))
  (ho:bX es n (λb=>st.heap.get b) (.slice p 0 n none es)=some dz) (hx:bX es m (λb=>st.heap.get b) x=some new) (h1:aQ new=true):
  ak c (.append es bytes) [.slice p 0 n none es,x] st K=K (.slice st.next 0 (n+m) none es) (dst st p (.cells (dz++new) 0)):=by
 have:ay.run (λb=>st.heap.get b) st.next (.append es bytes) [.slice p 0 n none es,x]=some (.aD (.slice st.next 0 (n+m) none es) (some p) none (some (.cells (dz++new) 0))):=by simp only[ay.run,fu];rw[show cS (.slice p 0 n none es)=some n from rfl,hm];simp only[eV,eu,H5 hb,H5 hs,Za2 h0,hx,hp,ho,h1];simp
 unfold ak bS;rw[this];rfl
theorem XF{st:St}{es bytes m:Nat}{p:Pos}{x:AV}{new:List AV}(hm:cS x=some m)(h0:m≠0)(hb:(2*(0+m)+768)*bytes<=281474976710656)(hs:0+m<=9223372036854775807)(hx:bX es m (λb=>st.heap.get b) x=some new):
  ak c (.append es bytes) [.slice p 0 0 (some 0) es,x] st K=K (.slice st.next 0 m none es) (af st (.cells new 0)):=by
 have:ay.run (λb=>st.heap.get b) st.next (.append es bytes) [.slice p 0 0 (some 0) es,x]=some (.aD (.slice st.next 0 m none es) none none (some (.cells new 0))):=by
  have h2:¬(0+m<=0):=by omega
  have ho:bX es 0 (λb=>st.heap.get b) (.slice p 0 0 (some 0) es)=some []:=by simp[bX]
  simp only[ay.run,fu];rw[show cS (.slice p 0 0 (some 0) es)=some 0 from rfl,hm];simp only[eV,eu,H5 hb,H5 hs,Za2 h0,Za2 h2,hx,ho];simp only[Zc7,Zf2]
 unfold ak bS;rw[this];rfl
theorem Rv{st:St}{es bytes:Nat}{p:Pos}{off n:Nat}{cp:Option Nat}{x:AV}(hm:cS x=some 0)(hb:(2*(n+0)+768)*bytes<=281474976710656)(hs:n+0<=9223372036854775807):
  ak c (.append es bytes) [.slice p off n cp es,x] st K=K (.slice p off n cp es) st:=by
 have:ay.run (λb=>st.heap.get b) st.next (.append es bytes) [.slice p off n cp es,x]=some (.val (.slice p off n cp es)):=by
  simp only[ay.run,fu];rw[show cS (.slice p off n cp es)=some n from rfl,hm];simp only[eV,eu,H5 hb,H5 hs]
 unfold ak bS;rw[this]
theorem OA(H:Pos->Option AB)(n:Pos)(z:AV)(m:Pos)(es:List (AV×AV×Nat))(cl:Nat)(k:AV)(h:H m=some (.map es cl))(r:Option (Nat×AV))(hf:iK .s k es 0=some r):
  ay.run H n (.lookup .s z true) [.map m,k]=some (.val (match r with|some (_,v)=>.tuple [v,.bool true]|none=>.tuple [z,.bool false])):=by
 simp only[ay.run,tK,h,hf];cases r with
 |none=>rfl
 |some p=>rfl
theorem BG(z:AV){st:St}{m:Pos}{es:List (AV×AV×Nat)}{cl:Nat}{k:AV}{r:Option (Nat×AV)}(h:st.heap.get m=some (.map es cl))(hf:iK .s k es 0=some r):
  ak c (.lookup .s z true) [.map m,k] st K=K (match r with|some (_,v)=>.tuple [v,.bool true]|none=>.tuple [z,.bool false]) st:=by
 unfold ak bS;rw[OA _ _ z m es cl k h r hf]
theorem OB(z:AV){h:T AB}{m:Pos}{es:List (AV×AV×Nat)}{cl:Nat}{k:AV}{r:Option (Nat×AV)}(hh:h.get m=some (.map es cl))(hf:iK .s k es 0=some r):
  kW (.lookup .s z true) [.map m,k] h (λ_=>true) K1=K1 (match r with|some (_,v)=>.tuple [v,.bool true]|none=>.tuple [z,.bool false]):=by
 unfold kW;have e:ay.run (λ_=>none) .h (.lookup .s z true) [.map m,k]=none:=rfl;rw[e];simp only;rw[OA _ _ z m es cl k hh r hf]
theorem Th{st:St}{m:Pos}{es:List (AV×AV×Nat)}{cl:Nat}{k:List Nat}{v:AV}(h:st.heap.get m=some (.map es cl))(hf:iK .s (.str k) es 0=some none):
  ak c (.mapSet .s) [.map m,.str k,v] st K=K .undef (cv st m (.map (es++[(.str k,v,cl)]) (cl+1))):=by
 have:ay.run (λb=>st.heap.get b) st.next (.mapSet .s) [.map m,.str k,v]=some (.aD .undef none (some (m,.map (es++[(.str k,v,cl)]) (cl+1))) none):=by
  simp[ay.run,tL,h,hf,UY]
 unfold ak bS;rw[this];rfl
theorem wH{p:Pos}{o:Nat}{h h2:T AB}{v:AV}(hv:((cellsOf (h.get p)).bind λcs=>cs[o]?)=some v)(Gn:((cellsOf (h2.get p)).bind λcs=>cs[o]?)=some v)(hb:eH v v=true):
  kW (.load none) [.ptr p o] h (λv=>qR (.load none) [.ptr p o] v (w9 [] h2)&&true) K1=K1 v:=by
 unfold kW;have e:ay.run (λ_=>none) .h (.load none) [.ptr p o]=none:=rfl;rw[e];simp only;rw[q7,hv];simp only[Ze5];have:qR (.load none) [.ptr p o] v (w9 [] h2)=true:=by unfold qR;show(match ay.run (λb=>h2.get b) .h (.load none) [.ptr p o]with|some (.val u)=>eH u v|_=>false)=true;rw[q7,Gn];exact hb
 rw[this];rfl
end
theorem wJ{R:Type}(K1:AV->Option R){p:Pos}{o:Nat}{h h2:T AB}{v:AV}(hv:((cellsOf (h.get p)).bind λcs=>cs[o]?)=some v)(Gn:((cellsOf (h2.get p)).bind λcs=>cs[o]?)=some v)(hb:eH v v=true):
  kW (.load none) [.ptr p o] h (λv=>qR (.load none) [.ptr p o] v (w9 [] h2)) K1=K1 v:=by
 have:=wH K1 hv Gn hb;simp only[Zk9]at this;exact this
theorem GY(p:Pos)(o n es:Nat):eH (.slice p o n none es) (.slice p o n none es)=true:=by
 simp[eH,j6,fO,Pos.beq_eq.2 rfl]
theorem Kj:eH .ah .ah=true:=rfl
inductive gU:Nat->AV->Prop
 |flat {d:Nat} {v:AV} (h:fO v v=true):gU d v
 |fl {d:Nat} {a:List (List AV)} {n:Nat} (h:∀r∈a,∀v∈r,gU d v):gU (d+1) (.fl a n)
theorem LR{f:AV->AV->Bool}:∀{a:List AV},(∀v∈a,f v v=true)->Bn f a a=true
 |[],_=>rfl
 |a::x,h=>by
  simp only[Bn,h a (by simp),LR (λv hv=>h v (Za6 _ hv)),Zj2]
theorem GZ{f:AV->AV->Bool}:∀{a:List (List AV)},(∀r∈a,∀v∈r,f v v=true)->tO f a a=true
 |[],_=>rfl
 |a::x,h=>by
  simp only[tO,LR (h a (by simp)),GZ (λv hv=>h v (Za6 _ hv)),Zj2]
theorem LS:∀{d:Nat}{v:AV},gU d v->Bo d v v=true
 |d,v,.flat h=>by
  unfold Bo;split
  .simp[fO]at h
  .exact h
 |d+1,.fl a n,.fl h=>by
  unfold Bo;simp[GZ (λr hr v hv=>LS (h r hr v hv))]
theorem gU.ro{d es:Nat}{z:Bool}{rs:List (List AV)}(h:∀r∈rs,∀v∈r,gU d v):gU (d+1) (ro es z rs):=by
 unfold Go.Ai.ro;split
 .exact .flat rfl
 .exact .fl h
theorem XG{v:AV}(h:gU 3 v):eH v v=true:=by
 have h3:=LS h;cases h with
 |flat h=>
  cases v<;>simp[fO]at h<;>first|simp[eH,j6,fO,h]|skip
  all_goals simp_all [eH,j6,fO]
 |fl h=>exact h3
theorem gU.int{d:Nat}(k:IntKind)(n:Int):gU d (.int k n):= .flat (by simp[fO,jL,cr])
theorem gU.str{d:Nat}(s:List Nat):gU d (.str s):= .flat (by simp[fO,jV])
theorem gU.bool{d:Nat}(s:Bool):gU d (.bool s):= .flat (by simp[fO])
end
section
open Go
section
variable{H:Type}(enc:TypeId×Value->H)(P:Program)(w:World)(base:Nat)(spare:Nat->Bool)(held:Bool)
def j8(t:TypeId)(Q:List AV->Prop):Prop:=
 ∀  (fuel:Nat)(cs:List Value)(x:DataW H×List MemPlace),DataW.trod enc P w base spare held fuel t cs=some x->
    ∃as,Q as/\∀ρ n,av ρ n (λad=>w.cell? ad) as cs
variable{enc P w base spare held}
theorem j8.mono{t:TypeId}{Q Q':List AV->Prop}(h:j8 enc P w base spare held t Q)(k:∀as,Q as->Q' as):j8 enc P w base spare held t Q':=
 λfuel cs x hx=>by obtain⟨as,h1,h2⟩:=h fuel cs x hx;exact⟨as,k _ h1,h2⟩
theorem OC{t:TypeId}{k:IntKind}(ht:P.underlying t=some (.int k)):j8 enc P w base spare held t λas=>∃i,as=[.int k i]/\(Lit.int k i).wf=true:=
 fun fuel cs x hx=>by
  obtain⟨n,rfl,h⟩:=DataW.trod_int ht hx;exact⟨_,⟨n,rfl,h.2⟩,λρ m=>av.cons (.int k n) av.nil⟩
theorem Jx {t e:TypeId}{es:Nat}{Q:List AV->Prop}(ht:P.underlying t=some (.slice e))(hc:P.cellsOf e=es)(dc:0<es)(hQ:∀as,Q as->as.length=es)(h:j8 enc P w base spare held e Q):
  j8 enc P w base spare held t λas=>∃z rs,as=[ro es z rs]/\(∀r∈rs,Q r)/\rs.length<=maxLen:=
 fun fuel cs  x hx=>by
  rcases DataW.trod_slice ht hx with⟨rfl,_⟩|⟨a,len,cap,elems,rest,n,_,rfl,_,hb,hl,hm,hlen,hel,_,_⟩
  .  exact⟨_,⟨true,[],rfl,by simp,by simp⟩,λρ m=>av.cons .ah av.nil⟩
  .  have each:∀i,∃r row,i<len->(Q r/\w.cells? base (a.add (i*es)) es=some row/\∀ρ m,av ρ m (λad=>w.cell? ad) r row):=by
        intro i;by_cases hi:i<len
        . have h1:=hel i hi;rw[H4 (by omega),hc]at h1;cases h2:w.cells? base (a.add (i*es)) es with
          |none=>rw[h2]at h1;cases h1
          | some row=>
            rw[h2]at h1;obtain⟨r,hr,hv⟩:=h n row _ h1;exact⟨r,row,λ_=>⟨hr,rfl,hv⟩⟩
        .exact⟨[],[],λh=>absurd h hi⟩
     obtain⟨r,each⟩:=Classical.axiomOfChoice each;obtain⟨row,hr⟩:=Classical.axiomOfChoice each;have abv:0<len->a.spot=none:=λh0=>by
        obtain⟨_,h1,_⟩:=hr 0 h0;have:=(World.cells?_some h1).2.2 0 dc;have hl:=(World.cells?_some h1).2.1;rw[H4 (by omega)]at this;simp only[Nat.zero_mul,Addr.add,Zg8]at this;unfold World.cell? at this;split at this
        . split at this
          .cases this
          .rename_i h;simpa using h
        .cases this
     have adE:((List.range len).map r).length=len:=(by simp);have get:∀(i:Nat)(c:List AV),((List.range len).map r)[i]? =some c->i<len/\c=r i:=λi c hi=>by
        rw[Zb7]at hi;by_cases h:i<len
        .rw[Zk7 h]at hi;simp at hi;exact⟨h,hi.symm⟩
        .rw[Zb5 (by simpa using h)]at hi;cases hi
     refine⟨_,⟨false,(List.range len).map r,rfl,?_,by simp;omega⟩,λρ m=>av.cons ?_ av.nil⟩
     .  intro q hq;simp only[Zf4,Zk4]at hq;obtain⟨i,hi,rfl⟩:=hq;exact(hr i hi).1
     .  have key:aj ρ m (λad=>w.cell? ad) (.fl ((List.range len).map r) es) (.slice (some a) ((List.range len).map r).length cap):=by
          refine .fl _ es cap a (λi j=>((row i)[j]?).getD .nilFunc) (by omega) (λh0=>abv ?_) (λi c hi=> ?_) (λi j c v hi hj=> ?_) (λi j c v hi hj=> ?_)
          .apply Classical.byContradiction;intro h;apply h0;have:len=0:=(by omega);subst this;rfl
          .obtain⟨h1,rfl⟩:=get i c hi;exact hQ _ (hr i h1).1
          . obtain⟨h1,rfl⟩:=get i c hi;obtain⟨q1,q2,q3⟩:=hr i h1;have hj2:j<es:=(by rw[<-hQ _ q1];exact(Za1.1 hj).1);have q4:=(World.cells?_some q2).2.2 j hj2;have q5:=(World.cells?_some q2).2.1;have hs:=abv (by omega);have e1:(a.add (i*es)).add j=⟨a.block,a.off+i*es+j,none⟩:=by
              obtain⟨aq,off,spot⟩:=a;simp only at hs;subst hs;unfold Addr.add;by_cases e1:i*es=0<;>by_cases e2:j=0<;>simp[e1,e2]
            rw[e1]at q4;show w.cell? _=_;rw[q4,H4 (by omega)];rfl
          .obtain⟨h1,rfl⟩:=get i c hi;obtain⟨q1,q2,q3⟩:=hr i h1;have hj2:j<es:=(by rw[<-hQ _ q1];exact(Za1.1 hj).1);have q5:=(World.cells?_some q2).2.1;refine(q3 ρ m).2 j v _ hj ?_;rw[H4 (by omega)];rfl
        rw[adE]at key;exact key
def Ev:List (List AV->Prop)->List (List AV)->Prop
 |[],[]=>True
 |Q::Qs,p::ps=>Q p/\Ev Qs ps
 |_,_=>False
def G1(P:Program)(XH:Nat):Nat->List Field->Bool
 |o,[]=>o==XH
 |o,f::fs=>f.offset==o&&G1 P XH (o+P.cellsOf f.type) fs
def Rw(enc:TypeId×Value->H)(P:Program)(w:World)(base:Nat)(spare:Nat->Bool)(held:Bool):List TypeId->List (List AV->Prop)->Prop
 |[],[]=>True
 |f::fs,Q::Qs=>j8 enc P w base spare held f Q/\Rw enc P w base spare held fs Qs
 |_,_=>False
theorem G2{XH n:Nat}:∀(fs:List Field)(Qs:List (List AV->Prop))(o:Nat)(cs:List Value),G1 P XH o fs=true->Rw enc P w base spare held (fs.map (·.type)) Qs->cs.length=XH->
  (∀f∈fs,∃y,DataW.trod enc P w base spare held n f.type ((cs.drop f.offset).take (P.cellsOf f.type))=some y)->
  ∃parts,Ev Qs parts/\∀ρ m,av ρ m (λad=>w.cell? ad) parts.flatten (cs.drop o)
 |[],[],o,cs,hc,_,hl,_=>by simp only[G1,beq_iff_eq]at hc;refine⟨[],trivial,λρ m=> ?_⟩;rw[List.drop_eq_nil_of_le (by omega)];exact av.nil
 |f::fs,Q::Qs,o,cs,hc,hO,hl,hf=>by
  simp only[G1,Za7,beq_iff_eq]at hc;obtain⟨y,hy⟩:=hf f (by simp);obtain⟨as,hq,hv⟩:=hO.1 n _ y hy;obtain⟨parts,hp,Gn⟩:=G2 fs Qs _ cs hc.2 hO.2 hl (λg hg=>hf g (Za6 _ hg));refine⟨as::parts,⟨hq,hp⟩,λρ m=> ?_⟩;have e:cs.drop o=(cs.drop f.offset).take (P.cellsOf f.type)++cs.drop (o+P.cellsOf f.type):=by
   rw[hc.1, <-Zo1,Zk1]
  rw[e,Zh0];exact(hv ρ m).append (Gn ρ m)
def fieldsOf(P:Program)(t:TypeId):List Field:=match P.underlying t with
 |some (.struct fs)=>fs.toList
 |_=>[]
def Rx(P:Program)(t:TypeId):Bool:=match P.underlying t with
 |some (.struct _)=>true
 |_=>false
theorem Ry{t:TypeId}(ts:List TypeId){Qs:List (List AV->Prop)}(hs:Rx P t=true)(b7:(fieldsOf P t).map (·.type)=ts)(hc:G1 P (P.cellsOf t) 0 (fieldsOf P t)=true)(hO:Rw enc P w base spare held ts Qs):
  j8 enc P w base spare held t λas=>∃parts,as=parts.flatten/\Ev Qs parts:=
 fun fuel cs x hx=>by
  obtain⟨fs,ht⟩:∃fs,P.underlying t=some (.struct fs):=by
     unfold Rx at hs;cases h:P.underlying t with
     |none=>rw[h]at hs;cases hs
     |some d=>rw[h]at hs;cases d<;>first|exact⟨_,rfl⟩|cases hs
  have ef:fieldsOf P t=fs.toList:=by unfold fieldsOf;rw[ht]
  rw[ef]at b7 hc;subst b7;obtain⟨xs,n,_,_,hl,hxl,hf⟩:=DataW.trod_struct ht hx;obtain⟨parts,hp,hv⟩:=G2 fs.toList Qs 0 cs hc hO hl (λf hf2=>by
     obtain⟨i,hi⟩:=List.getElem?_of_mem hf2;have OD:fs[i]? =some f:=(by rw[<-Zg1];exact hi);have aU:i<fs.size:=(Zc9.1 OD).1;exact⟨xs[i],by rw[hf i f OD,H4 (by omega)]⟩)
  exact⟨_,⟨parts,rfl,hp⟩,λρ m=>hv ρ m⟩
end
def P9(w w':World):Prop:=w'.os=w.os/\w'.tape=w.tape/\w'.output=w.output/\w.heap.size<=w'.heap.size/\∀k,k<w.heap.size->w'.heap[k]? =w.heap[k]?
def IB:List AV->St->Option (AV×St)
 |[],st=>some (.bool true,st)
 |_,_=>none
theorem NQ{P:Program}{C:Cells}{f:FuncId}{fn:Func}{c:Code}(hf:P.funcs[f]? =some fn)(iH:¬fn.name= "runtime.NumGoroutine")(hb:fn.body=some c)
  (h:∀w:World,(∀ad u,C ad=some u->w.cell? ad=some u)->Calls P f #[] w λe w'=>e= .returned (.bool true)/\P9 w w'):lQ P C f IB where
 mono args st v st' hs:=by
  unfold IB at hs;split at hs<;>first|(cases hs;done)|skip
  simp only[H0,Zb3]at hs;rw[<-hs.2];exact Za4 _
 runs ρ st w args v st' bC hs hW hv:=by
  unfold IB at hs;split at hs<;>first|(cases hs;done)|skip
  simp only[H0,Zb3]at hs;obtain⟨rfl,rfl⟩:=hs;obtain rfl:=hv.l7;have bQ:(callFunc f ([]:List Value).toArray).run P w= .ok (.enter f #[]) w:=by simp[callFunc,hf,iH,hb]
  rw[bQ];refine Calls.mono (h w λad u ha=>(hW.cZ ad u ha).1) λe w' he=> ?_
  obtain⟨rfl,h1,h2,h3,h4,h5⟩:=he;exact⟨ρ,.bool true,λ_ _=>rfl,Za4 _,hW.grow h4 h5,⟨h1,h2,h3,h4,λk hk _=>h5 k hk,λb x hb=>.inl ⟨b,x,hb,rfl⟩⟩⟩
theorem Zn{P:Program}{C:Cells}{call:ai}{f:FuncId}{fn:Func}{c:Code}{args:List AV}{bC:List Value}{b:Bool}{n0:Pos}{aJ:St}{w:World}
  (dH:ey P C call) (hC:∀ad v,C ad=some v->w.cell? ad=some v) (Xn:∀a v,C a=some v->∀o,C ⟨a.block,o,none⟩=none->w.cell? ⟨a.block,o,none⟩=none) (hf:P.funcs[f]? =some fn) (iH:¬fn.name= "runtime.NumGoroutine") (hb:fn.body=some c)
  (ha:av (λ_=>⟨0,0,0⟩) n0.toNat C args bC) (h:call f args { heap:= .e,next:=n0 }=some (.bool b,aJ)):
  Calls P f bC.toArray w λe w'=>e= .returned (.bool b)/\P9 w w':=by
 have hr:=dH (λ_=>⟨0,0,0⟩) { heap:= .e,next:=n0 } w f args (.bool b) aJ bC h (xH hC Xn) ha;have bQ:(callFunc f bC.toArray).run P w= .ok (.enter f bC.toArray) w:=by simp[callFunc,hf,iH,hb]
 rw[bQ]at hr;refine Calls.mono hr λe w' he=> ?_
 cases e with
 |returned x=>
  obtain⟨ρ',h1,_,_,_,hE⟩:=he;have:=h1.fS;subst this;exact⟨rfl,hE.os,hE.tape,hE.output,hE.size,λk hk=>hE.block k hk λb x hb=>by rw[T.cY]at hb;cases hb⟩
 |panicked c=>exact he.elim
 |outgrown=>exact he.elim
end
section
open Go Go.ChangeShapes Go.WideShapes Go.ChangeAt Go.RowKit
theorem P9.below{w w':World}(h:P9 w w'):Below w.heap.size w w':=⟨h.1,h.2.1,h.2.2.1,h.2.2.2.1,h.2.2.2.2⟩
section
variable{H:Type}{enc:TypeId×Value->H}{P:Program}
theorem Fy{W W':World}(hl:laidOutB P=true)(hb:Below W.heap.size W W'):∀{ts:List TypeId}{vs:List Value}{ds:List (DataW H)}{p:List MemPlace},
  DataW.TrodAll enc P W 0 (λ_=>true) true ts vs ds p->(∀t∈ts,P.readableRec t=true/\t<P.types.size)->(∀x∈p,x.block<W.heap.size)->
  DataW.TrodAll enc P W' 0 (λb=>decide (b<W.heap.size)) true ts vs ds p
 |[],_,_,_,h,_,_=>by obtain⟨rfl,rfl,rfl⟩:=trodAll_nil h;exact trodAll_mk0
 |t::ts,_,_,_,h,hr,hx=>by
  obtain⟨v,vs1,d,ds1,a,b,rfl,rfl,rfl,h1,h2⟩:=trodAll_cons h
  exact trodAll_cons_mk (Below.trod hl (hr t (by simp)).1 (hr t (by simp)).2 h1 hb (λx TP=>hx x (Zg5 _ TP)))
   (Fy hl hb h2 (λt ht=>hr t (Za6 _ ht)) (λx TP=>hx x (Zi3 _ TP)))
theorem Wn{f:Func}{s:ChangeSpec}{W W':World}{args:Array Value}{ds gs:List (DataW H)}{before:List MemPlace}{tb:TypeId}(hl:laidOutB P=true)
   (hW:DataW.Whole enc P f.params.toList s.vars false W args.toList ds gs before) (hv:s.vars=[]) (yE:s.fn H (ds++gs)={ results:=[.lit (.bool true)],args:=ds })
   (hr:∀t∈f.params.toList,P.readableRec t=true/\t<P.types.size) (hB:Below W.heap.size W W') (aac:f.resultTypes= #[tb]) (htb:P.underlying tb=some .bool):
   s.post enc P f false true false false W args (.bool true) W':=by
 have aU:=hW.lt;have dY:=hW;obtain⟨p,q,hA,hV,rfl,Wm,Fl⟩:=hW;have hq:q=[]:=by
   rw[hv]at hV;cases gs with
   |nil=>exact hV
   |cons g gs=>exact hV.elim
 subst hq;refine⟨ds,gs,p++[],[],p,[],dY,?_,?_,?_,hB.frame _,λh=>by cases h⟩
 .rw[yE,aac];exact trodAll_cons_mk (shut_bool htb _) trodAll_mk0
 .rw[yE];exact Fy hl hB hA hr (λx hx=>aU x (Zg5 _ hx))
 .rw[yE,hv];rfl
end
section
variable{H:Type}{enc:TypeId×Value->H}{P:Program}{w:World}{base:Nat}{spare:Nat->Bool}{held:Bool}
theorem KU{t:TypeId}{fs:Array Field}{Q:List AV->Prop}{r:Go.Reach}{b0:Nat}{v:Value}{d:DataW H}{p:List MemPlace}(ho:j8 enc P w base spare held t Q)(ht:P.underlying t=some (.struct fs))
  (hval:Value.okWide P w r b0 t v) (hd:DataW.Trod enc P w base spare held t v d p):∃as,Q as/\∀ρ n,aj ρ n (λad=>w.cell? ad) (.agg as) v:=by
 obtain⟨cs,rfl,_⟩:=okWide_struct ht hval;obtain⟨fuel,hf⟩:=hd;obtain⟨as,h1,h2⟩:=ho _ _ _ hf;refine⟨as,h1,λρ n=> ?_⟩;have h3:=h2 ρ n;refine .agg as cs (by rw[h3.1];simp[Value.cells]) λi x x' hx pU=>h3.2 i x x' hx ?_
 simpa [Value.cells]using pU
end
end
section
open Go
theorem aj.adF{ρ:Pos->Loc}{n:Nat}{C C':Cells}{v:AV}{x:Value}(hC:∀ad u,C ad=some u->C' ad=some u)(h:aj ρ n C v x):aj ρ n C' v x:=by
 induction h with
 |bool b=>exact .bool b
 |int k i=>exact .int k i
 |str s bs h=>exact .str s bs h
 |gP=>exact .gP
 |ptr b off h=>exact .ptr b off h
 |fp xs i j es aq base cell hl hc _ ih=>exact .fp xs i j es aq base cell hl (λi j cs v h1 h2=>hC _ _ (hc i j cs v h1 h2)) ih
 |ah=>exact .ah
 |slice b off len cap es aG a hl hc ha hk=>exact .slice b off len cap es aG a hl hc ha hk
 |fl xs es aG a cell hl hs dc hc _ ih=>exact .fl xs es aG a cell hl hs dc (λi j cs v h1 h2=>hC _ _ (hc i j cs v h1 h2)) ih
 |nj=>exact .nj
 |map b h=>exact .map b h
 |func f x y x' y' hx hy _ _ Wz WA=>exact .func f x y x' y' hx hy Wz WA
 |iI=>exact .iI
 |th=>exact .th
 |iface t v x _ ih=>exact .iface t v x ih
 |agg l cs hl _ ih=>exact .agg l cs hl ih
 |tuple l cs hl _ ih=>exact .tuple l cs hl ih
def iQ(ρ:Pos->Loc)(n:Nat)(C:Cells)(w:World)(v u:AV):Prop:=∀x,aj ρ n C v x->aj ρ n (λad=>w.cell? ad) u x
section
variable{ρ:Pos->Loc}{C:Cells}{st:St}{w:World}
theorem iQ.self{n:Nat}(hC:∀ad u,C ad=some u->w.cell? ad=some u)(v:AV):iQ ρ n C w v v:=λ_ h=>h.adF hC
theorem iQ.agg{n:Nat}{l l':List AV}(hl:l.length=l'.length)(h:∀(i:Nat)(v u:AV),l[i]? =some v->l'[i]? =some u->iQ ρ n C w v u):iQ ρ n C w (.agg l) (.agg l'):=λx hx=>by
 cases hx with
 |agg _ cs h1 h2=>
  refine .agg l' cs (by omega) λi u x hu hx=> ?_
  have hi:i<l.length:=by rw[hl];exact(Za1.1 hu).1
  exact h i l[i] u (H4 hi) hu _ (h2 i _ x (H4 hi) hx)
theorem iQ.slice(hW:aV ρ C st w){b:Pos}{off len es fz:Nat}{cap:Option Nat}{cs:List AV}(hb:st.heap.get b=some (.cells cs fz))(hlen:off+len*es<=cs.length){F:List (List AV)}(hF:F.length=len)
  (dc:∀(i:Nat)(r:List AV),F[i]? =some r->r.length=es)
  (hr:∀(i j:Nat)(r:List AV)(u v:AV),F[i]? =some r->r[j]? =some u->cs[off+i*es+j]? =some v->iQ ρ st.next.toNat C w v u):
  iQ ρ st.next.toNat C w (.slice b off len cap es) (.fl F es):=λx hx=>by
 cases hx with
 |slice  _ _ _ _ _ aG a hl hc ha hk=>
  have get:∀(i j:Nat)(r:List AV)(u:AV),F[i]? =some r->r[j]? =some u->i<len/\j<es/\off+i*es+j<cs.length/\0<aG:=λi j r u h1 h2=>by
   have g1:i<len:=(by rw[<-hF];exact(Za1.1 h1).1);have g2:j<es:=(by rw[<-dc i r h1];exact(Za1.1 h2).1);have g3:(i+1)*es<=len*es:=Zg3 _ g1;rw[Zi9]at g3;exact⟨g1,g2,by omega,by omega⟩
  have cell:∀(i j:Nat)(r:List AV)(u:AV),F[i]? =some r->r[j]? =some u->∃v y,cs[off+i*es+j]? =some v/\w.cell? ⟨a.block,a.off+i*es+j,none⟩=some y/\aj ρ st.next.toNat C v y:=λi j r u h1 h2=>by
   obtain⟨g1,g2,g3,g4⟩:=get i j r u h1 h2;obtain⟨_,rfl,_⟩:=ha (by omega);have hv:=H4 g3;obtain⟨y,q1,q2⟩:=hW.cell hb hv;exact⟨_,y,hv,by rw[show(ρ b).base+off+i*es+j=(ρ b).base+(off+i*es+j)by omega];exact q1,q2⟩
  have key:aj ρ st.next.toNat (λad=>w.cell? ad) (.fl F es) (.slice (some a) F.length aG):=by
   refine .fl F es aG a (λi j=>(w.cell? ⟨a.block,a.off+i*es+j,none⟩).getD .nilFunc) (by omega) (λh0=> ?_) dc (λi j r u h1 h2=> ?_) (λi j r u h1 h2=> ?_)
   .    cases adG:len with
        |zero=>exfalso;apply h0;rw[adG]at hF;exact List.length_eq_zero_iff.1 hF
        |succ m=>
         obtain⟨_,rfl,_⟩:=ha (by omega);rfl
   .    obtain⟨v,y,_,q2,_⟩:=cell i j r u h1 h2;show w.cell? _=_;rw[q2];rfl
   .    obtain⟨v,y,q1,q2,q3⟩:=cell i j r u h1 h2;rw[q2];exact hr i j r u v h1 h2 q1 y q3
  rw[hF]at key;exact key
end
def cV (st:St):Nat->AV->AV
 |0,v=>v
 |  d+  1,.slice b off len cap es=>match decide (len=0)with
    |true=>.fl [] es
    |false=>match st.heap.get b with
     |  some (.cells cs _)=>match decide (off+len*es<=cs.length)with
        |true=>.fl ((List.range len).map λi=>((cs.drop (off+i*es)).take es).map (cV st d)) es
        |false=>.slice b off len cap es
     |_=>.slice b off len cap es
 |  d+1,.ptr b off=>match st.heap.get b with
    |some (.cells cs _)=>.fp [cs.map (cV st d)] 0 off
    |_=>.ptr b off
 |d+1,.agg l=>.agg (l.map (cV st d))
 |d+1,.func f x y=>.func f (x.map (cV st d)) (y.map (cV st d))
 |_,v=>v
theorem OE(st:St)(d:Nat)(b:Pos)(off len:Nat)(cap:Option Nat)(es:Nat):cV st (d+1) (.slice b off len cap es)=match decide (len=0)with
 |true=>.fl [] es
 |false=>match st.heap.get b with
  |     some (.cells cs _)=>match decide (off+len*es<=cs.length)with
        |true=>.fl ((List.range len).map λi=>((cs.drop (off+i*es)).take es).map (cV st d)) es
        |false=>.slice b off len cap es
  |_=>.slice b off len cap es:=rfl
theorem ab2(st:St)(d:Nat)(b:Pos)(off:Nat):cV st (d+1) (.ptr b off)=match st.heap.get b with
 |some (.cells cs _)=>.fp [cs.map (cV st d)] 0 off
 |_=>.ptr b off:=rfl
theorem Na(st:St)(d:Nat)(l:List AV):cV st (d+1) (.agg l)= .agg (l.map (cV st d)):=rfl
theorem aad(st:St)(d:Nat)(f:FuncId)(x y:List AV):cV st (d+1) (.func f x y)= .func f (x.map (cV st d)) (y.map (cV st d)):=rfl
section
variable{ρ:Pos->Loc}{C:Cells}{st:St}{w:World}
theorem iQ.ptr(hW:aV ρ C st w){b:Pos}{off fz:Nat}{cs F:List AV}(hb:st.heap.get b=some (.cells cs fz))(hF:F.length=cs.length)
  (hr:∀(j:Nat)(u v:AV),F[j]? =some u->cs[j]? =some v->iQ ρ st.next.toNat C w v u):iQ ρ st.next.toNat C w (.ptr b off) (.fp [F] 0 off):=λx hx=>by
 cases hx with
 |ptr   _ _ h=>
  have row:∀(i j:Nat)(r:List AV)(u:AV),[F][i]? =some r->r[j]? =some u->i=0/\∃v y,cs[j]? =some v/\w.cell? ⟨(ρ b).aq,(ρ b).base+j,none⟩=some y/\aj ρ st.next.toNat C v y/\F[j]? =some u:=λi j r u h1 h2=>by
   have hi:i=0:=(by have:=(Za1.1 h1).1;simp at this;exact this);subst hi;simp at h1;subst h1;have hj:j<cs.length:=(by rw[<-hF];exact(Za1.1 h2).1);obtain⟨y,q1,q2⟩:=hW.cell hb (H4 hj);exact⟨rfl,_,y,H4 hj,q1,q2,h2⟩
  have key:aj ρ st.next.toNat (λad=>w.cell? ad) (.fp [F] 0 off) (.pointer (some ⟨(ρ b).aq,(ρ b).base+0*cs.length+off,none⟩)):=by
   refine .fp [F] 0 off cs.length (ρ b).aq (ρ b).base (λ_ j=>(w.cell? ⟨(ρ b).aq,(ρ b).base+j,none⟩).getD .nilFunc) (λi r h1=> ?_) (λi j r u h1 h2=> ?_) (λi j r u h1 h2=> ?_)
   .    have hi:i=0:=(by have:=(Za1.1 h1).1;simp at this;exact this);subst hi;simp at h1;subst h1;exact hF
   .    obtain⟨rfl,v,y,_,q2,_⟩:=row i j r u h1 h2;show w.cell? _=_;rw[show(ρ b).base+0*cs.length+j=(ρ b).base+j by omega,q2];rfl
   .    obtain⟨rfl,v,y,q1,q2,q3,q4⟩:=row i j r u h1 h2;rw[q2];exact hr j u v q4 q1 y q3
  rw[show(ρ b).base+0*cs.length+off=(ρ b).base+off by omega]at key;exact key
theorem iQ.cV (hW:aV ρ C st w):∀(d:Nat)(v:AV),iQ ρ st.next.toNat C w v (cV st d v)
 |0,v=>iQ.self (λad u h=>(hW.cZ ad u h).1) v
 |d+    1,v=>   by
  have self:=iQ.self (ρ:=ρ) (n:=st.next.toNat) (λad u h=>(hW.cZ ad u h).1) v;cases v with
  |slice    b off len cap es=>
   rw[OE];split
   .    rename_i h0;obtain rfl:=Zg2 h0;intro x hx;cases hx with
        | slice _ _ _ _ _ aG a hl hc ha hk=>
          exact .fl [] es aG a (λ_ _=>.nilFunc) (Zj5 _) (λh=>absurd rfl h) (λi c h=>by simp at h) (λi j c v h=>by simp at h) (λi j c v h=>by simp at h)
   split
   .    rename_i cs fz hb;split
        . rename_i hle;have hle:=Zg2 hle;refine iQ.slice hW hb hle (by simp) (λi r hi=> ?_) (λi j r u v hi hj hv=> ?_)
          . rw[Zb7]at hi;by_cases h:i<len
            .rw[Zk7 h]at hi;simp only[Ze5,H0]at hi;subst hi;have g3:(i+1)*es<=len*es:=Zg3 _ h;rw[Zi9]at g3;simp;omega
            .rw[Zb5 (by simpa using h)]at hi;cases hi
          . rw[ Zb7]at hi;by_cases h:i<len
            . rw[Zk7 h]at hi;simp only[Ze5,H0]at hi;subst hi;rw[Zb7,Zb8]at hj;split at hj
              .rw[Zc8,hv]at hj;simp only[Ze5,H0]at hj;subst hj;exact iQ.cV hW d v
              .cases hj
            .rw[Zb5 (by simpa using h)]at hi;cases hi
        .exact self
   .    exact self
  |ptr b off=>
   rw[ab2];split
   .    rename_i cs fz hb;refine iQ.ptr hW hb (by simp) (λj u v hu hv=> ?_);rw[Zb7,hv]at hu;simp only[Ze5,H0]at hu;subst hu;exact iQ.cV hW d v
   .    exact self
  |agg l=>
   rw[Na];refine iQ.agg (by simp) (λi v u h1 h2=> ?_);rw[Zb7,h1]at h2;simp only[Ze5,H0]at h2;subst h2;exact iQ.cV hW d v
  |func f x y=>
   rw[aad];intro v' hv;cases hv with
   |    func _ _ _ x' y' hx hy h1 h2=>
        have one:∀(l:List AV)(xs:Array Value),(∀(i:Nat)(v:AV)(v':Value),l[i]? =some v->xs[i]? =some v'->aj ρ st.next.toNat C v v')->∀(i:Nat)(v:AV)(v':Value),(l.map (Go.Ai.cV st d))[i]? =some v->xs[i]? =some v'->aj ρ st.next.toNat (λad=>w.cell? ad) v v':=λl xs h i u v' hu hx=>by
          rw[Zb7]at hu;cases hg:l[i]? with
          |none=>rw[hg]at hu;cases hu
          | some v0=>
            rw[hg]at hu;simp only[Ze5,H0]at hu;subst hu;exact iQ.cV hW d v0 _ (h i v0 v' hg hx)
        exact .func f _ _ x' y' (by simpa using hx) (by simpa using hy) (one x x' h1) (one y y' h2)
  |_=>exact self
theorem av.cV(hW:aV ρ C st w)(d:Nat){l:List AV}{xs:List Value}(h:av ρ st.next.toNat C l xs):av ρ st.next.toNat (λad=>w.cell? ad) (l.map (Go.Ai.cV st d)) xs:=
 ⟨by rw[<-h.1];simp,λi u x hu hx=>by
  rw[Zb7]at hu;cases hv:l[i]? with
  |none=>rw[hv]at hu;cases hu
  |  some v=>
     rw[hv]at hu;simp only[Ze5,H0]at hu;subst hu;exact iQ.cV hW d v _ (h.2 i v x hv hx)⟩
end
def kX(v:AV):Prop:=∀(ρ:Pos->Loc)(n:Nat)(C C':Cells)(x:Value),aj ρ n C v x->aj ρ n C' v x
theorem kX.bool(b:Bool):kX (.bool b):=λ_ _ _ _ _ h=>by cases h;exact .bool b
theorem kX.int(k:IntKind)(i:Int):kX (.int k i):=λ_ _ _ _ _ h=>by cases h;exact .int k i
theorem kX.tuple{l:List AV}(hl:∀v∈l,kX v):kX (.tuple l):=λ_ _ _ _ _ h=>by
 cases h with|tuple _ cs hx h1=>exact .tuple l cs hx λi v x hv hx=>hl v (Zb6 hv) _ _ _ _ _ (h1 i v x hv hx)
def LU:AB->Prop
 |.cells cs _=>∀v∈cs,kX v
 |.map es _=>∀e∈es,kX e.1/\kX e.2.1
 |.iJ _ _=>True
 |.typed _ cs=>∀v∈cs,kX v
theorem LU.rel{x:AB}(h:LU x){ρ:Pos->Loc}{n:Nat}{C C':Cells}{L:Loc}{w:World}(k:kN ρ n C L w x):kN ρ n C' L w x:=by
 cases x with
 |cells cs fz=>
  obtain⟨c,e,fr,h1,h2,h3,h4,h5⟩:=k;exact⟨c,e,fr,h1,h2,h3,⟨h4.1,λi v x hv hx=>h v (Zb6 hv) _ _ _ _ _ (h4.2 i v x hv hx)⟩,h5⟩
 |map es clock=>
  obtain⟨es',h1,h2,h3⟩:=k;exact⟨es',h1,h2,λi e e' he jP=>let⟨a,b,c⟩:=h3 i e e' he jP;⟨(h e (Zb6 he)).1 _ _ _ _ _ a,(h e (Zb6 he)).2 _ _ _ _ _ b,c⟩⟩
 |iJ s pos=>exact k
 |typed t cs=>
  obtain⟨c,fr,h1,h2,h3,h4,h5⟩:=k;exact⟨c,fr,h1,h2,h3,⟨h4.1,λi v x hv hx=>h v (Zb6 hv) _ _ _ _ _ (h4.2 i v x hv hx)⟩,h5⟩
def T.both{α:Type}:T α->T α->T α
 |t,.e=>t
 |.e,t=>t
 |.n l v r,.n l' v' r'=>.n (T.both l l') (v.or v') (T.both r r')
theorem T.XI{α:Type}(t:T α):T.both t .e=t:=by cases t<;>rfl
theorem T.Kk{α:Type}:∀(p:Pos)(t t':T α),(T.both t t').get p=(t.get p).or (t'.get p)
 |p,t,.e=>by rw[T.XI,T.cY];simp
 |p,.e,.n l v r=>by rw[T.cY];rfl
 |.h,.n l v r,.n l' v' r'=>rfl
 |.o p,.n l v r,.n l' v' r'=>T.Kk p l l'
 |.i p,.n l v r,.n l' v' r'=>T.Kk p r r'
def T.keep{α:Type}(P:α->Bool):T α->T α
 |.e=>.e
 |.n l v r=>.n (T.keep P l) (v.filter P) (T.keep P r)
theorem T.Kl{α:Type}(P:α->Bool):∀(p:Pos)(t:T α),(T.keep P t).get p=(t.get p).filter P
 |p,.e=>by rw[T.keep,T.cY];rfl
 |.h,.n l v r=>rfl
 |.o p,.n l v r=>T.Kl P p l
 |.i p,.n l v r=>T.Kl P p r
open Classical in
noncomputable def IC(t:T AB):T AB:=T.keep (λx=>decide (LU x)) t
theorem XJ{t:T AB}{p:Pos}{x:AB}(h:(IC t).get p=some x):t.get p=some x/\LU x:=by
 unfold IC at h;rw[T.Kl]at h;cases hg:t.get p with
 |none=>rw[hg]at h;cases h
 |some y=>
  rw[hg]at h;simp only[Option.filter]at h;split at h
  .rename_i hb;cases h;exact⟨rfl,@Zg2 _ (Classical.propDecidable _) hb⟩
  .cases h
theorem ab3:IC .e= .e:=rfl
def Shut(n0:Pos)(r:AV×St):Prop:=kX r.1/\n0.toNat<=r.2.next.toNat
open Classical in
noncomputable def G4(call:ai)(f:FuncId)(d:Nat):List AV->St->Option (AV×St):=λargs st=>
 match call f (args.map (cV st d)) { heap:= .e,next:=st.next }with
 |some (v,aJ)=>if Shut st.next (v,aJ)then some (v,{ heap:=T.both st.heap (IC aJ.heap),next:=aJ.next })else none
 |none=>none
theorem ab4{call:ai}{f:FuncId}{d:Nat}{args:List AV}{st:St}{v:AV}{aJ:St}(h:call f (args.map (cV st d)) { heap:= .e,next:=st.next }=some (v,aJ))(hs:Shut st.next (v,aJ)):
  G4 call f d args st=some (v,{ heap:=T.both st.heap (IC aJ.heap),next:=aJ.next }):=by
 unfold G4;rw[h];simp only;rw[Za8 hs]
theorem aae{call:ai}{f:FuncId}{d:Nat}{args:List AV}{st:St}{v:AV}(h:call f (args.map (cV st d)) { heap:= .e,next:=st.next }=some (v,{ heap:= .e,next:=st.next }))(hs:kX v):
  G4 call f d args st=some (v,st):=by
 rw[ab4 h ⟨hs,Za4 _⟩];simp only[ab3,T.XI]
theorem zM {P :Program}{C:Cells}{f:FuncId}{call:ai}{d:Nat}(bE:∀C':Cells,(∀ad u,C ad=some u->C' ad=some u)->ey P C' call):lQ P C f (G4 call f d) where
 mono args st v st' h:=by
  unfold G4 at h;split at h
  . split at h
    .   rename_i hs;simp only[H0,Zb3]at h;rw[<-h.2];exact hs.2
    .   cases h
  .cases h
 runs ρ st  w args v st' bC h hW hv:=by
  unfold G4 at h;split at h
  . rename_i v1 aJ hc;split at h
    .   rename_i hs;simp only[H0,Zb3]at h;obtain⟨rfl,rfl⟩:=h;obtain⟨s1,s3⟩:=hs;have hr:=bE (λad=>w.cell? ad) (λad u ha=>(hW.cZ ad u ha).1) ρ { heap:= .e,next:=st.next } w f _ v1 aJ bC hc (xH (λad u ha=>ha) λa u _ o ho=>ho) (av.cV hW d hv);refine Reaches.mono (λx w' he=> ?_) hr
        . obtain⟨ρ',h1,h2,h3,h4,hE⟩:=he;have un:∀k,k<w.heap.size->w'.heap[k]? =w.heap[k]? :=λk hk=>hE.block k hk λb x hb=>by rw[T.cY]at hb;cases hb
          have new:∀b x,aJ.heap.get b=some x->w.heap.size<=(ρ' b).aq:=λb x hx=>by
            rcases hE.mN b x hx with⟨b',x',jf,_⟩|hh
            .rw[T.cY]at jf;cases jf
            .exact hh
          have both:∀b x,(T.both st.heap (IC aJ.heap)).get b=some x->(st.heap.get b=some x/\ρ' b=ρ b)\/(aJ.heap.get b=some x/\LU x):=λb x hx=>by
            rw[T.Kk]at hx;cases hg:st.heap.get b with
            |none=>rw[hg]at hx;exact .inr (XJ (by simpa using hx))
            |some y=>rw[hg]at hx;simp at hx;subst hx;exact .inl ⟨rfl,h2 b (hW.live b y hg).1⟩
          refine⟨ρ',s1 _ _ _ _ _ h1,h2,s3,⟨λb x hx=> ?_,λb b' x x' hx pU Lh=> ?_,λa u ha=> ?_,λa u ha o ho=> ?_⟩,⟨hE.os,hE.tape,hE.output,hE.size,λk hk _=>un k hk,λb x hx=> ?_⟩⟩
          . rcases both b x hx with⟨hg,aR⟩|⟨hg,Qa⟩
            .obtain⟨l1,l2,l3⟩:=hW.live b x hg;refine⟨Zc5 l1 s3,by rw[aR];exact Zc5 l2 hE.size,?_⟩;rw[aR];exact(l3.of_heap (un _ l2)).mono h2 s3
            .obtain⟨l1,l2,l3⟩:=h4.live b x hg;exact⟨l1,l2,Qa.rel l3⟩
          . rcases both b x hx with⟨hg,aR⟩|⟨hg,Qa⟩
            . rcases both b' x' pU with⟨Lb,wE⟩|⟨Lb,_⟩
              .rw[aR,wE]at Lh;exact hW.inj b b' x x' hg Lb Lh
              .have q1:=(hW.live b x hg).2.1;have q2:=new b' x' Lb;rw[aR]at Lh;omega
            . rcases both b' x' pU with⟨Lb,wE⟩|⟨Lb,_⟩
              .have q1:=(hW.live b' x' Lb).2.1;have q2:=new b x hg;rw[wE]at Lh;omega
              .exact h4.inj b b' x x' hg Lb Lh
          . obtain⟨c1,c2⟩:=hW.cZ a u ha;have aU:a.block<w.heap.size:=World.block_lt_of_cell? _ _ c1;refine⟨(h4.cZ a u c1).1,λb x hx=> ?_⟩;rcases both b x hx with⟨hg,aR⟩|⟨hg,Qa⟩
            .rw[aR];exact c2 b x hg
            .have:=new b x hg;omega
          .have aU:a.block<w.heap.size:=World.block_lt_of_cell? _ _ (hW.cZ a u ha).1;rw[World.cell?_of_block (w:=w) (a:=⟨a.block,o,none⟩) (un _ aU)];exact hW.whole a u ha o ho
          . rcases both b x hx with⟨hg,aR⟩|⟨hg,Qa⟩
            .exact .inl ⟨b,x,hg,by rw[aR]⟩
            .exact .inr (new b x hg)
    .   cases h
  .cases h
theorem Uj(H:Pos->Option AB)(n:Pos)(k k':IntKind)(a b:Int):ay.run H n .minB [.int k a,.int k' b]=some (.val (.int k (min a b))):=by
 show some (bV.val (.int k (match uv b a with|true=>b|false=>a)))=_;rw[dD];by_cases h:b<a
 .rw[H5 h];simp only;rw[Int.min_eq_right (by omega)]
 .rw[Za2 h];simp only;rw[Int.min_eq_left (by omega)]
theorem ab5(H:Pos->Option AB)(n:Pos)(k k':IntKind)(a b:Int):ay.run H n .maxB [.int k a,.int k' b]=some (.val (.int k (max a b))):=by
 show some (bV.val (.int k (match uv a b with|true=>b|false=>a)))=_;rw[dD];by_cases h:a<b
 .rw[H5 h];simp only;rw[Int.max_eq_right (by omega)]
 .rw[Za2 h];simp only;rw[Int.max_eq_left (by omega)]
theorem ab6(H:Pos->Option AB)(n:Pos)(q:e8)(k:IntKind)(a b:Int)(hb:b≠0):ay.run H n (.bin .quo q) [.int k a,.int k b]=some (.val (.int k (ax k (a.tdiv b)))):=by
 simp[ay.run,gy,lR,cr,jN,hb]
theorem ab7(H:Pos->Option AB)(n:Pos)(q:e8)(k:IntKind)(a b:Int)(hb:b≠0):ay.run H n (.bin .rem q) [.int k a,.int k b]=some (.val (.int k (a.tmod b))):=by
 simp[ay.run,gy,lR,cr,jN,hb]
section
variable{R:Type}(c:ai)(K:AV->St->Option R)(st:St)
@[simp] theorem Uk(k k':IntKind)(a b:Int):ak c .minB [.int k a,.int k' b] st K=K (.int k (min a b)) st:=aW c K (λH n=>Uj H n k k' a b) st
theorem ab8(q:e8)(k:IntKind)(a b:Int)(hb:b≠0):ak c (.bin .quo q) [.int k a,.int k b] st K=K (.int k (ax k (a.tdiv b))) st:=aW c K (λH n=>ab6 H n q k a b hb) st
theorem Ul(q:e8)(k:IntKind)(a b:Int)(hb:b≠0):ak c (.bin .rem q) [.int k a,.int k b] st K=K (.int k (a.tmod b)) st:=aW c K (λH n=>ab7 H n q k a b hb) st
@[simp] theorem jO(q:e8)(k:IntKind)(a:Int):ak c (.bin .quo q) [.int k a,.int k 2] st K=K (.int k (ax k (a.tdiv 2))) st:=ab8 c K st q k a 2 (by decide)
@[simp] theorem eE(q:e8)(k:IntKind)(a:Int):ak c (.bin .rem q) [.int k a,.int k 2] st K=K (.int k (a.tmod 2)) st:=Ul c K st q k a 2 (by decide)
end
def bg:AV->Option Pos
 |.slice b _ n cap _=>if cap=some 0/\n=0 then none else some b
 |_=>none
theorem OG{b b':Pos}{off n es:Nat}{cap:Option Nat}(h:bg (.slice b off n cap es)=some b'):b=b':=by
 simp only[bg]at h;split at h
 .cases h
 .exact Zg7 h
theorem nZ(b:Pos)(off n es:Nat):bg (.slice b off n none es)=some b:=by simp[bg]
theorem jq(b:Pos)(off es:Nat):bg (.slice b off 0 (some 0) es)=none:=by simp[bg]
def QS(es:Nat)(s:St)(v:AV)(rows:List (List AV)):Prop:=
 (v= .ah/\rows=[])\/(∃b off cap cs,v= .slice b off rows.length cap es/\s.heap.get b=some (.cells cs 0)/\off+rows.length*es<=cs.length/\(cs.drop off).take (rows.length*es)=rows.flatten/\(cap=none\/cap=some rows.length))\/
    (∃b off,v= .slice b off 0 (some 0) es/\rows=[])
theorem QS.nil{es:Nat}{s:St}:QS es s .ah []:= .inl ⟨rfl,rfl⟩
theorem QS.mono{es:Nat}{s s':St}{v:AV}{rows:List (List AV)}(h:QS es s v rows)(hk:∀b x,bg v=some b->s.heap.get b=some x->s'.heap.get b=some x):QS es s' v rows:=by
 rcases h with⟨rfl,rfl⟩|⟨b,off,cap,cs,rfl,h1,h2,h3,h4⟩|⟨b,off,rfl,rfl⟩
 .exact .inl ⟨rfl,rfl⟩
 . by_cases h0:cap=some 0/\rows.length=0
   .obtain⟨rfl,h0⟩:=h0;refine .inr (.inr ⟨b,off,by rw[h0],Zb1 h0⟩)
   .exact .inr (.inl ⟨b,off,cap,cs,rfl,hk b _ (by simp only[bg];rw[Za5 h0]) h1,h2,h3,h4⟩)
 .exact .inr (.inr ⟨b,off,rfl,rfl⟩)
theorem QS.len{es:Nat}{s:St}{v:AV}{rows:List (List AV)}(h:QS es s v rows):cS v=some rows.length:=by rcases h with⟨rfl,rfl⟩|⟨b,off,cap,cs,rfl,_⟩|⟨b,off,rfl,rfl⟩<;>rfl
theorem QS.lt{es:Nat}{s:St}{v:AV}{rows:List (List AV)}(h:QS es s v rows)(hw:Wf s){b:Pos}(hb:bg v=some b):b.toNat<s.next.toNat:=by
 rcases h with⟨rfl,rfl⟩|⟨b',off,cap,cs,rfl,h1,_⟩|⟨b',off,rfl,rfl⟩
 .cases hb
 .obtain rfl:=OG hb;exact hw _ _ h1
 .rw[jq]at hb;cases hb
theorem QS.first{es:Nat}{s:St}{v:AV}{rows:List (List AV)}(h:QS es s v rows)(hr:∀r∈rows,r.length=es):bX es rows.length (λb=>s.heap.get b) v=some rows.flatten:=by
 rcases h with⟨rfl,rfl⟩|⟨b,off,cap,cs,rfl,h1,h2,h3,h4⟩|⟨b,off,rfl,rfl⟩
 .rfl
 rotate_left
 .simp[bX,eu]
 . by_cases h0:rows.length*es=0
   .simp only[bX,eu,H5 h0];have:rows.flatten=[]:=(by rw[<-h3,h0];simp);rw[this]
   .simp only[bX,eu,Za2 h0,h1];unfold cut;rw[eV,H5 h2];simp only;rw[h3]
theorem QS.app{R:Type}{c:ai}{es bytes:Nat}{s:St}{v:AV}{rows:List (List AV)}(hw:Wf s)(h:QS es s v rows)(hr:∀r∈rows,r.length=es){q:Pos}{row:List AV}(hq:s.heap.get q=some (.cells row 0))(B9:row.length=es)(h1:aQ row=true)
   (dc:es≠0) (hb:(2*(rows.length+1)+768)*bytes<=281474976710656) (hn:rows.length<=4000000):
   ∃ s5,(∀(K:AV->St->Option R),ak c (.append es bytes) [v,.slice q 0 1 (some 1) es] s K=K (.slice s.next 0 (rows.length+1) none es) s5)/\QS es s5 (.slice s.next 0 (rows.length+1) none es) (rows++[row])/\
     Wf s5/\s5.next=s.next.succ/\(∀p,bg v≠some p->p.toNat<s.next.toNat->s5.heap.get p=s.heap.get p)/\s5.heap.get s.next=some (.cells (rows.flatten++row) 0):=by
 have hx:bX es 1 (λb=>s.heap.get b) (.slice q 0 1 (some 1) es)=some row:=by simp only[bX,eu,Zn1,Za2 dc,hq];exact bI B9
 have ho:=h.first hr;have hlen:rows.flatten.length=rows.length*es:=by
   clear h ho hn hb;induction rows with
   |nil=>simp
   | cons r rows ih=>
     have:=ih (λx hx=>hr x (Za6 _ hx));have h2:=hr r (by simp);simp only[Zh0,Ze0,Ze2,Zi9];omega
 have new:∀(s5:St),s5.heap.get s.next=some (.cells (rows.flatten++row) 0)->QS es s5 (.slice s.next 0 (rows.length+1) none es) (rows++[row]):=λs5 hs=>by
   refine .inr (.inl ⟨s.next,0,none,rows.flatten++row,by simp,hs,?_,?_,.inl rfl⟩)
   .simp only[Ze0,Ze2,Zn3,Zc7,Zi4,Zn1,hlen,B9];omega
   .simp only[Ze3,List.flatten_append,Zh0,List.flatten_nil,Ze8];refine Zf9 ?_;simp only[Ze0,Ze2,Zn3,Zc7,Zi4,Zn1,hlen,B9];omega
 have Ln:(2*(rows.length+1)+768)*bytes<=281474976710656:=hb;have xL:rows.length+1<=9223372036854775807:=by omega
 rcases h with⟨rfl,rfl⟩|⟨b,off,cap,cs,rfl,g1,g2,g3,g4⟩|⟨b,off,rfl,rfl⟩
 rotate_right
 . have run:ay.run (λb=>s.heap.get b) s.next (.append es bytes) [.slice b off 0 (some 0) es,.slice q 0 1 (some 1) es]=some (.aD (.slice s.next 0 (0+1) none es) none none (some (.cells ([]++row) 0))):=(by have h2:¬(0+1<=0):=(by omega);have zY:bX es 0 (λb=>s.heap.get b) (.slice b off 0 (some 0) es)=some []:=(by simp[bX,eu]);simp only[ay.run,fu];rw[show cS (.slice b off 0 (some 0) es)=some 0 from rfl,show cS (.slice q 0 1 (some 1) es)=some 1 from rfl];have hb3:(2*(0+1)+768)*bytes<=281474976710656:=(by simpa using hb);simp only[eV,eu,H5 hb3,Za2 h2,hx,zY];simp);refine⟨af s (.cells row 0),λK=> ?_,?_,bR hw,rfl,λp _ hp=>pG hp,by simpa using aC s (.cells row 0)⟩
   .unfold ak bS;simp only[Zn3]at run ⊢; rw[run];rfl
   .simpa using new (af s (.cells row 0)) (by simpa using aC s (.cells row 0))
 .refine⟨af s (.cells row 0),λK=>Ru c K (m:=1) rfl (by omega) (by simpa using hb) (by omega) hx,?_,bR hw,rfl,λp _ hp=>pG hp,by simpa using aC s (.cells row 0)⟩;simpa using new (af s (.cells row 0)) (by simpa using aC s (.cells row 0))
 . rcases g4 with rfl|rfl
   .have run:ay.run (λb=>s.heap.get b) s.next (.append es bytes) [.slice b off rows.length none es,.slice q 0 1 (some 1) es]=some (.aD (.slice s.next 0 (rows.length+1) none es) (some b) none (some (.cells (rows.flatten++row) (0 - off)))):=(by simp only[ay.run,fu];rw[show cS (.slice b off rows.length none es)=some rows.length from rfl,show cS (.slice q 0 1 (some 1) es)=some 1 from rfl];simp only[eV,eu,H5 Ln,H5 xL,hx,g1,ho,h1];simp);refine⟨dst s b (.cells (rows.flatten++row) 0),λK=> ?_,new _ (M8 _ _ _),XD hw,rfl,λp hp hl=>LP (λe=>hp (by rw[e,nZ])) hl,M8 _ _ _⟩;unfold ak bS;rw[run];simp only[Nat.zero_sub];rfl
   . have h2:¬(rows.length+1<=rows.length):=(by omega);have run:ay.run (λb=>s.heap.get b) s.next (.append es bytes) [.slice b off rows.length (some rows.length) es,.slice q 0 1 (some 1) es]=some (.aD (.slice s.next 0 (rows.length+1) none es) none none (some (.cells (rows.flatten++row) 0))):=by
        simp only[ay.run,fu];rw[show cS (.slice b off rows.length (some rows.length) es)=some rows.length from rfl,show cS (.slice q 0 1 (some 1) es)=some 1 from rfl];simp only[eV,eu,H5 Ln,H5 xL,Za2 h2,hx,ho]
     refine⟨af s (.cells (rows.flatten++row) 0),λK=> ?_,new _ (aC _ _),bR hw,rfl,λp _ hp=>pG hp,aC _ _⟩;unfold ak bS;rw[run];rfl
theorem Um{R:Type}{c:ai}{es:Nat}{z:List AV}{x:AV}(hz:z.length=es)(hx:x.cells.length=es)(s:St)(K:AV->St->Option R):
  ak c (.buildSlice es 1 z [0]) [x] s K=K (.slice s.next 0 1 (some 1) es) (af s (.cells x.cells 0)):=by
 have:b6 (bL z 1) ([0].map λi=>(i*es,es)) [x]=some x.cells:=by
  simp only[Zc6,Zf7,Nat.zero_mul,bL,Ze8,b6,eu,eV,hx,Zk6,Zc7,hz,Za4];simp only[aM,Zo2,Zf2,Zc7];rw[List.drop_of_length_le (by omega),Ze8]
 rw[aT,this];rfl
structure Mk(es:Nat)(s0 s:St)(v:AV)(rows:List (List AV)):Prop where
 sk:Wf s0
 aA:Grew s0 s
 own:QS es s v rows
 new:∀b,bg v=some b->s0.next.toNat<=b.toNat
 row:∀r∈rows,r.length=es
 cap:∀b off n cp e,v= .slice b off n cp e->cp=none\/(n=0/\cp=some 0)
 tight:∀b,bg v=some b->s.heap.get b=some (.cells rows.flatten 0)
theorem Mk.start{es:Nat}{s0 s:St}(h0:Wf s0)(hg:Grew s0 s):Mk es s0 s .ah []:=⟨h0,hg,QS.nil,λb h=>(by cases h),λr h=>(by cases h),λb off n cp e h=>(by cases h),λb h=>(by cases h)⟩
theorem Mk.grow{es:Nat}{s0 s s':St}{v:AV}{rows:List (List AV)}(h:Mk es s0 s v rows)(hg:Grew s s'):Mk es s0 s' v rows:=
 ⟨h.sk,h.aA.trans hg,h.own.mono λb x _ hx=>hg.get hx,h.new,h.row,h.cap,λb hb=>hg.get (h.tight b hb)⟩
theorem Mk.push{R:Type}{c:ai}{es bytes:Nat}{s0 s:St}{v:AV}{rows:List (List AV)}(h:Mk es s0 s v rows){z:List AV}{x:AV}(hz:z.length=es)(hx:x.cells.length=es)(h1:aQ x.cells=true)(dc:es≠0)
   (hb:(2*(rows.length+1)+768)*bytes<=281474976710656) (hn:rows.length<=4000000):
   ∃ s5 v',(∀(K:AV->St->Option R),ak c (.buildSlice es 1 z [0]) [x] s (λy t=>ak c (.append es bytes) [v,y] t K)=K v' s5)/\Mk es s0 s5 v' (rows++[x.cells])/\
     (∀p b,bg v≠some p->s.heap.get p=some b->s5.heap.get p=some b)/\∀b,bg v'=some b->s.next.toNat<=b.toNat:=by
 have hw:=h.aA.wf;have dI:Wf (af s (.cells x.cells 0)):=bR hw;have g1:=Grew.af hw (.cells x.cells 0);obtain⟨s5,a1,a2,a3,a4,a5,a6⟩:=QS.app (R:=R) (c:=c) (bytes:=bytes) dI (h.own.mono λb x _ hx=>g1.get hx) h.row (aC s (.cells x.cells 0)) hx h1 dc hb hn;have keep:∀p b,bg v≠some p->s.heap.get p=some b->s5.heap.get p=some b:=λp b hp hg=>by have aU:=hw _ _ hg;rw[a5 p hp (by rw[c9,Pos.az];omega)];exact g1.get hg
 refine⟨s5,_,λK=> ?_,⟨h.sk,⟨a3,λp b hg=> ?_,?_⟩,a2,λb hb=> ?_,λr hr=> ?_,λb off n cp e he=> ?_,λb hb=> ?_⟩,keep,λb hb=> ?_⟩
 .rw[Um hz hx,a1]
 .have xN:=h.aA.get hg;refine keep p b (λe=> ?_) xN;have:=h.new p e;have:=h.sk p b hg;omega
 .have:=h.aA.next;rw[a4,c9,Pos.az,Pos.az];omega
 .rw[nZ]at hb;cases hb;have:=h.aA.next;rw[c9,Pos.az];omega
 . rcases Zd8.1 hr with hr|hr
   .exact h.row r hr
   .simp at hr;subst hr;exact hx
 .cases he;exact .inl rfl
 .rw[nZ]at hb;cases hb;rw[a6];simp
 .rw[nZ]at hb;cases hb;rw[c9,Pos.az];omega
theorem uM{b:Pos}{off n es:Nat}(h:Plain (.slice b off n none es)):False:=by
 have h1:aj (λ_=>⟨0,0,off+n*es⟩) (b.toNat+1) (λ_=>none) (.slice b off n none es) (.slice (some ⟨0,0+off,none⟩) n n):=
  .slice b off n none es n _ (Za4 _) (λc hc=>by cases hc) (λ_=>⟨by omega,rfl,by simp⟩) (λ_=>by omega)
 have h2:=h _ (λ_=>⟨0,0,0⟩) _ 0 _ _ h1;cases h2 with
 |slice _ _ _ _ _ _ _ _ _ _ hk=>exact absurd (hk rfl) (by omega)
theorem Mk.tidy{es:Nat}{s s':St}{v:AV}{rows:List (List AV)}(h:Mk es s s' v rows):∃jR,Go.Ai.tidy s (v,s')=(v,jR)/\Mk es s jR v rows:=by
 unfold Go.Ai.tidy;by_cases hp:Plain (v,s').1/\bF s (v,s').2
 . rw[Za8 hp];refine⟨s,rfl,?_⟩;rcases h.own with⟨rfl,rfl⟩|⟨b,off,cap,cs,rfl,_⟩|⟨b,off,rfl,rfl⟩
   .exact Mk.start h.sk (Grew.refl h.sk)
   . rcases h.cap _ _ _ _ _ rfl with rfl|⟨h0,rfl⟩
     .exact(uM hp.1).elim
     .exact⟨h.sk,Grew.refl h.sk,.inr (.inr ⟨b,off,by rw[h0],Zb1 h0⟩),λb hb=>(by rw[h0,jq]at hb;cases hb),h.row,h.cap,λb hb=>(by rw[h0,jq]at hb;cases hb)⟩
   .exact⟨h.sk,Grew.refl h.sk,.inr (.inr ⟨b,off,rfl,rfl⟩),λb hb=>(by rw[jq]at hb;cases hb),h.row,h.cap,λb hb=>(by rw[jq]at hb;cases hb)⟩
 .rw[Za5 hp];exact⟨s',rfl,h⟩
theorem QS.cV{es d:Nat}{s:St}{v:AV}{rows:List (List AV)}(h:QS es s v rows)(hr:∀r∈rows,r.length=es):
   ∃z,Go.Ai.cV s (d+1) v=ro es z (rows.map λr=>r.map (Go.Ai.cV s d)):=by
 rcases h with⟨rfl,rfl⟩|⟨b,off,cap,cs,rfl,h1,h2,h3,h4⟩|⟨b,off,rfl,rfl⟩
 .exact⟨true,rfl⟩
 rotate_left
 .exact⟨false,rfl⟩
 . refine⟨false,?_⟩;by_cases h0:rows.length=0
   .obtain rfl:=Zb1 h0;rfl
   rw[OE,Za2 h0];simp only;rw[h1];simp only[H5 h2];show AV.fl _ _=AV.fl _ _;congr 1;(refine List.ext_getElem (by simp) λi p1 p2=> ?_);simp only[Zb2,Zo7]at p1;simp only[Zm6,List.getElem_range];congr 1;have key:∀(rows:List (List AV))(i:Nat)(hi:i<rows.length),(∀r∈rows,r.length=es)->((rows.flatten).drop (i*es)).take es=rows[i]:=by
     intro rows;induction rows with
     |nil=>intro i hi;simp at hi
     |  cons r rows ih=>
        intro i hi hr;have hl:=hr r (by simp);cases i with
        |zero=>simp[<-hl]
        |succ i=>
         have:=ih i (by simpa using hi) (λx hx=>hr x (Za6 _ hx));rw[Zh0,Zi9,Nat.add_comm, <-hl,List.drop_append];simp only[List.getElem_cons_succ];rw[<-this,hl];simp[List.drop_eq_nil_of_le (show r.length<=es+i*es by omega)]
   rw[<-key rows i p1 hr, <-h3];rw[List.drop_take,Zo0,Zo1];congr 1;have:(i+1)*es<=rows.length*es:=Zg3 _ p1;rw[Zi9]at this;omega
section
variable{R:Type}(c:ai)(K:AV->St->Option R)(st:St)
theorem Aj{b:Pos}{off len es es':Nat}{cap:Option Nat}{k:IntKind}{i:Nat}(h:i<len):ak c (.idxA es none) [.slice b off len cap es',.int k (i:Int)] st K=K (.ptr b (off+i*es)) st:=
 aW c K (λH n=>by
  simp only[ay.run,nk,iN];have:Nat.blt i len=true:=by rw[Zp2];exact h
  rw[this]) st
theorem Ak(b:Pos)(off len es:Nat)(cap:Option Nat):ak c (.lenB .l) [.slice b off len cap es] st K=K (.int .i64 (len:Int)) st:=aW c K (λH n=>rfl) st
theorem Uo{es bytes:Nat}{z:List AV}{k k':IntKind}{n:Nat}(h1:bytes*n<=281474976710656)(h2:n<=9223372036854775807):
  ak c (.mkSlice es bytes z) [.int k (n:Int),.int k' (n:Int)] st K=K (.slice st.next 0 n (some n) es) (af st (.cells (bL z n) 0)):=by
 have:ay.run (λb=>st.heap.get b) st.next (.mkSlice es bytes z) [.int k (n:Int),.int k' (n:Int)]=some (.aD (.slice st.next 0 n (some n) es) none none (some (.cells (bL z n) 0))):=by
  simp only[ay.run,uw,iN,eV,H5 h1,H5 h2,Za4,Zk6]
 unfold ak bS;rw[this];rfl
end
theorem Ew{α:Type}(x:α):∀n:Nat,bL [x] n=List.replicate n x
 |0=>rfl
 |n+1=>by simp[bL,Ew x n,List.replicate_succ]
theorem Al{rows:List (List AV)}{es:Nat}(hr:∀r∈rows,r.length=es):∀(i j:Nat)(r:List AV)(u:AV),rows[i]? =some r->r[j]? =some u->rows.flatten[i*es+j]? =some u:=by
 induction rows with
 |nil=>intro i j r u h;simp at h
 |cons r0 rows ih=>
  intro i j r u h1 h2;have hl:=hr r0 (by simp);cases i with
  |zero=>
   simp at h1;subst h1;have:=(Za1.1 h2).1;rw[Zh0,Nat.zero_mul,Zc7,Zc1 this];exact h2
  |succ i=>
   rw[Zh0,Zc3 (by rw[Zi9];omega)];rw[show(i+1)*es+j - r0.length=i*es+j by rw[Zi9];omega];exact ih (λx hx=>hr x (Za6 _ hx)) i j r u (by simpa using h1) h2
theorem QS.lenB{R:Type}{c:ai}{es:Nat}{s:St}{v:AV}{rows:List (List AV)}(h:QS es s v rows)(K:AV->St->Option R)(s1:St):ak c (.lenB .l) [v] s1 K=K (.int .i64 (rows.length:Int)) s1:=by
 rcases h with⟨rfl,rfl⟩|⟨b,off,cap,cs,rfl,_⟩|⟨b,off,rfl,rfl⟩
 .exact aW c K (λH n=>rfl) s1
 .exact Ak c K s1 _ _ _ _ _
 .exact Ak c K s1 _ _ _ _ _
def gJ(v:AV):Prop:=∃N0 K0:Nat,∀N K:Nat,N0<=N->K0<=K->∃x,aj (λ_=>⟨0,0,K⟩) N (λ_=>none) v x
theorem gJ.int(k:IntKind)(i:Int):gJ (.int k i):=⟨0,0,λ_ _ _ _=>⟨_,.int k i⟩⟩
theorem gJ.bool(b:Bool):gJ (.bool b):=⟨0,0,λ_ _ _ _=>⟨_,.bool b⟩⟩
theorem gJ.ah:gJ .ah:=⟨0,0,λ_ _ _ _=>⟨_,.ah⟩⟩
theorem gJ.str{s:List Nat}(h:∀x∈s,x<256):gJ (.str s):=⟨0,0,λ_ _ _ _=>⟨.string ⟨(s.map UInt8.ofNat).toArray⟩,.str s _ (by
 show(s.map UInt8.ofNat).toArray.toList.map UInt8.toNat=s;simp only[Zf8]
 conv=>rhs;rw[<-List.map_id s]
 refine Zi8 λc hc=> ?_
 have:=h c hc;simp[UInt8.toNat_ofNat];omega)⟩⟩
theorem gJ.slice(b:Pos)(off n es:Nat):gJ (.slice b off n none es):=⟨b.toNat+1,off+n*es,λN K hN hK=>⟨.slice (some ⟨0,0+off,none⟩) n n,
 .slice b off n none es n _ (Za4 _) (λc hc=>by cases hc) (λ_=>⟨by omega,rfl,by simpa using hK⟩) (λ_=>by omega)⟩⟩
theorem gJ.zero(b:Pos)(off es:Nat):gJ (.slice b off 0 (some 0) es):=⟨0,0,λN K _ _=>⟨.slice (some ⟨0,0,none⟩) 0 0,
 .slice b off 0 (some 0) es 0 _ (Za4 _) (λc hc=>by cases hc;rfl) (λh=>absurd rfl h) (λh=>by cases h)⟩⟩
theorem inst_list:∀{l:List AV},(∀v∈l,gJ v)->∃N0 K0:Nat,∀N K:Nat,N0<=N->K0<=K->∃xs,av (λ_=>⟨0,0,K⟩) N (λ_=>none) l xs
 |[],_=>⟨0,0,λ_ _ _ _=>⟨[],av.nil⟩⟩
 |v::l,h=>by
  obtain⟨N1,K1,h1⟩:=h v (by simp);obtain⟨N2,K2,h2⟩:=inst_list (λu hu=>h u (Za6 _ hu));refine⟨max N1 N2,max K1 K2,λN K hN hK=> ?_⟩;obtain⟨x,hx⟩:=h1 N K (by omega) (by omega);obtain⟨xs,fY⟩:=h2 N K (by omega) (by omega);exact⟨x::xs,av.cons hx fY⟩
theorem Fz{l:List AV}(hi:∀v∈l,gJ v){b:Pos}{off n es:Nat}(hm:AV.slice b off n none es∈l):¬Plain (.agg l):=λh=>by
 obtain⟨N0,K0,h1⟩:=inst_list hi;obtain⟨xs,hx⟩:=h1 N0 K0 (Za4 _) (Za4 _);have h2:aj (λ_=>⟨0,0,K0⟩) N0 (λ_=>none) (.agg l) (.agg xs.toArray):= .agg l _ (by rw[hx.1];simp) λi v x hv pU=>hx.2 i v x hv (by simpa using pU)
 have h3:=h _ (λ_=>⟨0,0,0⟩) _ 0 _ _ h2;obtain⟨i,aU,hi⟩:=Zk5.1 hm;cases h3 with
 |agg _ _ hl hc=>
  have aaf:i<xs.toArray.size:=by rw[<-hl];exact aU
  obtain⟨y,hy⟩:∃y,xs.toArray[i]? =some y:=⟨_,Ze6 aaf⟩
  have:=hc i _ y (by rw[H4 aU,hi]) hy;cases this with
  |slice _ _ _ _ _ _ _ _ _ _ hk=>exact absurd (hk rfl) (by omega)
theorem Mk.inst{es:Nat}{s s':St}{v:AV}{rows:List (List AV)}(h:Mk es s s' v rows):gJ v:=by
 rcases h.own with⟨rfl,rfl⟩|⟨b,off,cap,cs,rfl,_⟩|⟨b,off,rfl,rfl⟩
 .exact gJ.ah
 . rcases h.cap _ _ _ _ _ rfl with rfl|⟨h0,rfl⟩
   .exact gJ.slice _ _ _ _
   .rw[h0];exact gJ.zero _ _ _
 .exact gJ.zero _ _ _
theorem Mk.loose{es:Nat}{s s':St}{v:AV}{rows:List (List AV)}(h:Mk es s s' v rows):(∃b off n,v= .slice b off n none es)\/((∀t,Wf t->Mk es t t v rows)/\rows=[]):=by
 rcases h.own with⟨rfl,rfl⟩|⟨b,off,cap,cs,rfl,_⟩|⟨b,off,rfl,rfl⟩
 .exact .inr ⟨λt ht=>Mk.start ht (Grew.refl ht),rfl⟩
 . rcases h.cap _ _ _ _ _ rfl with rfl|⟨h0,rfl⟩
   .exact .inl ⟨_,_,_,rfl⟩
   .exact .inr ⟨λt ht=>⟨ht,Grew.refl ht,.inr (.inr ⟨b,off,by rw[h0],Zb1 h0⟩),λb hb=>(by rw[h0,jq]at hb;cases hb),h.row,h.cap,λb hb=>(by rw[h0,jq]at hb;cases hb)⟩,Zb1 h0⟩
 .exact .inr ⟨λt ht=>⟨ht,Grew.refl ht,.inr (.inr ⟨b,off,rfl,rfl⟩),λb hb=>(by rw[jq]at hb;cases hb),h.row,h.cap,λb hb=>(by rw[jq]at hb;cases hb)⟩,rfl⟩
theorem Mk.Ex{es:Nat}{s s':St}{v:AV}{rows:List (List AV)}(h:Mk es s s' v rows){l:List AV}(hm:v∈l)(hi:∀u∈l,gJ u):∃jR,Go.Ai.tidy s (.agg l,s')=(.agg l,jR)/\(jR=s'\/jR=s)/\Mk es s jR v rows:=by
 unfold Go.Ai.tidy;by_cases hp:Plain (AV.agg l,s').1/\bF s (AV.agg l,s').2
 . rw[Za8 hp];refine⟨s,rfl,.inr rfl,?_⟩;rcases h.loose with⟨b,off,n,rfl⟩|⟨hl,_⟩
   .exact absurd hp.1 (Fz hi hm)
   .exact hl s h.sk
 .rw[Za5 hp];exact⟨s',rfl,.inl rfl,h⟩
theorem Mk.cells{es:Nat}{s s':St}{v:AV}{rows:List (List AV)}(h:Mk es s s' v rows):v.cells=[v]/\aQ [v]=true:=by
 rcases h.own with⟨rfl,rfl⟩|⟨b,off,cap,cs,rfl,_⟩|⟨b,off,rfl,rfl⟩<;>exact⟨rfl,rfl⟩
theorem Mk.store{es:Nat}{s s':St}{v:AV}{rows:List (List AV)}(h:Mk es s s' v rows){p:Pos}{b:AB}(hp:s.next.toNat<=p.toNat)(vS:p.toNat<s'.next.toNat)(cG:bg v≠some p):Mk es s (cv s' p b) v rows:=
 ⟨h.sk,⟨C7 h.aA.wf vS,λq x hq=>by have:=h.sk _ _ hq;rw[bt (λe=>by rw[e]at hp;omega)];exact h.aA.get hq,by rw[Eu];exact h.aA.next⟩,
  h.own.mono λq x hq hx=>by rw[bt (λe=>cG (by rw[hq,e]))];exact hx,h.new,h.row,h.cap,λb hb=>by rw[bt (λe=>cG (by rw[hb,e]))];exact h.tight b hb⟩
theorem Mk.back{es:Nat}{s0 s s':St}{v:AV}{rows:List (List AV)}(h:Mk es s s' v rows)(h0:Wf s0)(hg:Grew s0 s):Mk es s0 s' v rows:=
 ⟨h0,hg.trans h.aA,h.own,λb hb=>Zc4 hg.next (h.new b hb),h.row,h.cap,h.tight⟩
theorem zm{α:Type}(l:List α)(i:Nat)(h:i<l.length)(u:α):aM l i [u]=l.set i u:=by unfold aM;rw[List.set_eq_take_append_cons_drop,Za8 h];simp
def Src(es:Nat)(s:St)(v:AV)(rows:List (List AV)):Prop:=v= .fl rows es\/QS es s v rows
theorem Src.len{es:Nat}{s:St}{v:AV}{rows:List (List AV)}(h:Src es s v rows):cS v=some rows.length:=by
 rcases h with rfl|h
 .rfl
 .exact h.len
theorem Src.mono{es:Nat}{s s':St}{v:AV}{rows:List (List AV)}(h:Src es s v rows)(hk:∀b x,bg v=some b->s.heap.get b=some x->s'.heap.get b=some x):Src es s' v rows:=h.imp id λh=>h.mono hk
theorem Src.aA{es:Nat}{s s':St}{v:AV}{rows:List (List AV)}(h:Src es s v rows)(hg:Grew s s'):Src es s' v rows:=h.mono λ_ _ _ hx=>hg.get hx
theorem Src.first{es:Nat}{s:St}{v:AV}{rows:List (List AV)}(h:Src es s v rows)(hr:∀r∈rows,r.length=es):bX es rows.length (λb=>s.heap.get b) v=some rows.flatten:=by
 rcases h with rfl|h
 .simp only[bX,eu,eV,Zk6,Za4,Zh6]
 .exact h.first hr
theorem Src.nil{es:Nat}{s:St}{v:AV}{rows:List (List AV)}(h:Src es s v rows):(v= .ah/\rows=[])\/∀{R:Type}(c:ai)(K:AV->St->Option R)(t:St),ak c (.bin .eql .slice) [v,.ah] t K=K (.bool false) t:=by
 rcases h with rfl|⟨rfl,rfl⟩|⟨b,off,cap,cs,rfl,_⟩|⟨b,off,rfl,rfl⟩
 .exact .inr λc K t=>aW c K (λH n=>rfl) t
 .exact .inl ⟨rfl,rfl⟩
 .exact .inr λc K t=>aW c K (λH n=>rfl) t
 .exact .inr λc K t=>aW c K (λH n=>rfl) t
theorem Src.ro{es:Nat}{s:St}(z:Bool)(rows:List (List AV)):Src es s (ro es z rows) rows:=by
 unfold Go.Ai.ro;split
 .exact .inr (.inl ⟨rfl,rfl⟩)
 .exact .inl rfl
theorem OH{es:Nat}:∀{rows:List (List AV)},(∀r∈rows,r.length=es)->rows.flatten.length=rows.length*es
 |[],_=>by simp
 |r::rows,hr=>by have ih:=OH (λx hx=>hr x (Za6 _ hx));have h2:=hr r (by simp);simp only[Zh0,Ze0,Ze2,Zi9];omega
theorem XK{es bytes:Nat}{z:List AV}{src:AV}{rows:List (List AV)}(hr:∀r∈rows,r.length=es)(_hes:es≠0)(hb:(2*rows.length+768)*bytes<=281474976710656)(hn:rows.length<=4000000){c:ai}{R:Type}(s:St)(hw:Wf s)(h:Src es s src rows):
   ∃v s',(∀(K:AV->St->Option R),ak c (.buildSlice es 0 z []) [] s (λy t=>ak c (.append es bytes) [y,src] t K)=K v s')/\Mk es s s' v rows:=by
 have bs:∀(K:AV->St->Option R),ak c (.buildSlice es 0 z []) [] s K=K (.slice s.next 0 0 (some 0) es) (af s (.cells [] 0)):=λK=>by rw[aT];rfl
 have dI:Wf (af s (.cells [] 0)):=bR hw;have g1:=Grew.af hw (.cells [] 0);have hl:=h.len;by_cases h0:rows.length=0
 .obtain rfl:=Zb1 h0;refine⟨.slice s.next 0 0 (some 0) es,af s (.cells [] 0),λK=> ?_,hw,g1,.inr (.inr ⟨_,_,rfl,rfl⟩),λb hb=>(by rw[jq]at hb;cases hb),hr,λb off n cp e he=>(by cases he;exact .inr ⟨rfl,rfl⟩),λb hb=>(by rw[jq]at hb;cases hb)⟩;rw[bs,Rv c K hl (by simpa using hb) (by simp)]
 . have hx:bX es rows.length (λb=>(af s (.cells [] 0)).heap.get b) src=some rows.flatten:=(h.aA g1).first hr;have hlen:=OH hr;refine⟨.slice (af s (.cells [] 0)).next 0 rows.length none es,af (af s (.cells [] 0)) (.cells rows.flatten 0),λK=> ?_,hw,g1.trans (Grew.af dI _),.inr (.inl ⟨_,0,none,rows.flatten,rfl,aC _ _,by omega,?_,.inl rfl⟩),λb hb=> ?_,hr,λb off n cp e he=>(by cases he;exact .inl rfl),λb hb=>(by rw[nZ]at hb;cases hb;exact aC _ _)⟩
   .rw[bs,XF c K (m:=rows.length) hl h0 (by simpa using hb) (by omega) hx]
   .simp only[Ze3];exact Zf9 (by omega)
   .rw[nZ]at hb;cases hb;rw[c9,Pos.az];omega
theorem qx{v:AV}(h:aQ [v]=true):v.one=true:=by
 simp only[aQ]at h;split at h
 .assumption
 .cases h
theorem Pv{b:Pos}{o:Nat}{k1 k2:IntKind}{i1 i2:Int}:¬Plain (.tuple [.ptr b o,.int k1 i1,.int k2 i2]):=λh=>by
 obtain⟨x0,e0⟩:∃x,aj (λ_=>⟨0,0,0⟩) (b.toNat+1) (λ_=>none) (.ptr b o) x:=⟨_,.ptr b o (by omega)⟩
 obtain⟨x1,e1⟩:∃x,aj (λ_=>⟨0,0,0⟩) (b.toNat+1) (λ_=>none) (.int k1 i1) x:=⟨_,.int k1 i1⟩
 obtain⟨x2,e2⟩:∃x,aj (λ_=>⟨0,0,0⟩) (b.toNat+1) (λ_=>none) (.int k2 i2) x:=⟨_,.int k2 i2⟩
 have:=h (λ_=>⟨0,0,0⟩) (λ_=>⟨0,0,0⟩) (b.toNat+1) 0 (λ_=>none) _ (.tuple _ #[x0,x1,x2] rfl (λi v v' hv hx=>by
  match i with
  |0=>simp at hv hx;subst hv hx;exact e0
  |1=>simp at hv hx;subst hv hx;exact e1
  |2=>simp at hv hx;subst hv hx;exact e2
  |i+3=>simp at hv))
 cases this with
 |tuple _ _ _ h=>
  have:=h 0 _ x0 rfl rfl;cases this with
  |ptr _ _ h=>omega
theorem QS.cells{es:Nat}{s:St}{v:AV}{rows:List (List AV)}(h:QS es s v rows):v.cells=[v]/\v.one=true:=by
 rcases h with⟨rfl,rfl⟩|⟨b,off,cap,cs,rfl,_⟩|⟨b,off,rfl,rfl⟩<;>exact⟨rfl,rfl⟩
abbrev aag(v:AV):List AV:=[v]
theorem aah(l:List AV):∀r∈l.map aag,r.length=1:=λr hr=>by simp only[Zf4]at hr;obtain⟨m,_,rfl⟩:=hr;rfl
section
variable{s0 s s':St}{jb:Pos}{Ls:List AV}{R:List (List AV)}{I:List (AV×List (List AV))}
end
section
variable{s0 s s':St}{jb:Pos}{Ls:List AV}{R:List (List AV)}{I:List (AV×List (List AV))}
end
theorem Up{R:Type}{c:ai}(K:AV->St->Option R){s:St}{p:Pos}{o:Nat}{cs:List AV}{v:AV}(h:s.heap.get p=some (.cells cs 0))(ho:o<cs.length)(h1:v.cells=[v])(h2:v.one=true):
  ak c (.store 1) [.ptr p o,v] s K=K .undef (cv s p (.cells (cs.set o v) 0)):=by
 rw[dU c K s 1 p o v cs h (by rw[h1];rfl) (by omega) (by rw[h1];simp[aQ,h2]),h1,zm _ _ ho]
theorem QS.beq{es:Nat}{s:St}{v:AV}{rows:List (List AV)}(h:QS es s v rows):eH v v=true:=by
 rcases h with⟨rfl,_⟩|⟨b,off,cap,cs,rfl,_⟩|⟨b,off,rfl,_⟩
 .rfl
 .cases cap<;>simp[eH,j6,fO,Pos.beq_eq.2 rfl]
 .simp[eH,j6,fO,Pos.beq_eq.2 rfl]
section
variable{s0 s s':St}{jb:Pos}{Ls:List AV}{R:List (List AV)}{I:List (AV×List (List AV))}
end
def emptyAt(s:St):St:={ heap:= .e,next:=s.next }
theorem uN(s:St):Wf (emptyAt s):=λp x h=>by have h:(T.e:T AB).get p=some x:=h;rw[T.cY]at h;cases h
theorem uO{call:ai}{f:FuncId}{d:Nat}{args:List AV}{s:St}{v:AV}(h:call f (args.map (cV s d)) (emptyAt s)=some (v,emptyAt s))(hb:kX v):G4 call f d args s=some (v,s):=aae h hb
section
variable{H:Type}(Ok:DataW H->Prop)(enc:TypeId×Value->H)(P:Program)(w:World)(base:Nat)(spare:Nat->Bool)(held:Bool)
variable{Ok enc P w base spare held}
end
end
section
open Go Go.WideShapes
section
variable{H:Type}(enc:TypeId×Value->H)(P:Program)(w:World)(base:Nat)(spare:Nat->Bool)(held:Bool)
variable{enc P w base spare held}
end
end
section
open Go
section
variable{c:ai}{R:Type}
theorem Rz{H:Pos->Option AB}{n:Pos}{k:IntKind}{a b:Int}(h1:0<=a)(h2:0<b):ay.run H n (.bin .rem .num) [.int k a,.int k b]=some (.val (.int k (a % b))):=by
 have e0:sU b 0=false:=by rw[jL,Zn4];omega
 have e1:a.tmod b=a % b:=Int.tmod_eq_emod_of_nonneg h1;simp only[ay.run,gy,lR,cr,e0,e1]
theorem RA{H:Pos->Option AB}{n:Pos}{a b:Int}(h1:0<=a)(h3:a<=9223372036854775807)(h2:0<b):ay.run H n (.bin .quo .num) [.int .i64 a,.int .i64 b]=some (.val (.int .i64 (a / b))):=by
 have e0:sU b 0=false:=by rw[jL,Zn4];omega
 have e1:a.tdiv b=a / b:=Int.tdiv_eq_ediv_of_nonneg h1;have e3:0<=a / b:=Zp6 h1 (by omega);have e4:a / b<=a:=Int.ediv_le_self b h1;have e2:ax .i64 (a / b)=a / b:=wrap64 (by omega) (by omega);simp only[ay.run,gy,lR,cr,e0,e1,e2]
theorem aai{H:Pos->Option AB}{n:Pos}{a:Int}{i:Nat}(h:i<=64):ay.run H n (.bin .shr .num) [.int .i64 a,.int .i64 (i:Int)]=some (.val (.int .i64 (a / 2 ^ i))):=by
 have e0:uv (i:Int) 0=false:=by rw[dD,Za2 (by omega)]
 have e1:min (i:Int).toNat (IntKind.bits .i64)=i:=by have:IntKind.bits .i64=64:=rfl;rw[this];omega
 simp only[ay.run,gy,lR,e0,e1];rw[Zo3 _ (Int.le_of_lt (Int.pow_pos (by decide)))]
theorem bO{k:IntKind}{a b:Int}(h1:0<=a)(h2:0<b)(s:St)(K:AV->St->Option R):ak c (.bin .rem .num) [.int k a,.int k b] s K=K (.int k (a % b)) s:=aW c K (λH n=>Rz h1 h2) s
theorem Ey{k:IntKind}{a b:Int}(h1:0<=a)(h2:0<b)(K:AV->Option R):fJ (.bin .rem .num) [.int k a,.int k b] K=K (.int k (a % b)):=dP K (λH n=>Rz h1 h2)
theorem eW{a b:Int}(h1:0<=a)(h3:a<=9223372036854775807)(h2:0<b)(s:St)(K:AV->St->Option R):ak c (.bin .quo .num) [.int .i64 a,.int .i64 b] s K=K (.int .i64 (a / b)) s:=aW c K (λH n=>RA h1 h3 h2) s
theorem RB{a b:Int}(h1:0<=a)(h3:a<=9223372036854775807)(h2:0<b)(K:AV->Option R):fJ (.bin .quo .num) [.int .i64 a,.int .i64 b] K=K (.int .i64 (a / b)):=dP K (λH n=>RA h1 h3 h2)
theorem RD{a:Int}{i:Nat}(h:i<=64)(s:St)(K:AV->St->Option R):ak c (.bin .shr .num) [.int .i64 a,.int .i64 (i:Int)] s K=K (.int .i64 (a / 2 ^ i)) s:=aW c K (λH n=>aai h) s
theorem tW(i:Int)(s:St)(K:AV->St->Option R):ak c (.conv (.int .u8)) [.int .i64 i] s K=K (.int .u8 (ax .u8 i)) s:=aW c K (λH n=>rfl) s
theorem mD(i:Int)(k:IntKind)(s:St)(K:AV->St->Option R):ak c (.conv (.int .i64)) [.int k i] s K=K (.int .i64 (ax .i64 i)) s:=aW c K (λH n=>rfl) s
theorem RE{x y:Int}(a b:Nat)(hx:x=(a:Int))(hy:y=(b:Int))(ha:a<256)(hb:b<256)(s:St)(K:AV->St->Option R):
  ak c (.buildSlice 1 2 [.int .u8 0] [0,1]) [.int .u8 x,.int .u8 y] s (λv t=>ak c (.conv .ofBytes) [v] t K)=K (.str [a,b]) (af s (.cells [.int .u8 x,.int .u8 y] 0)):=by
 subst hx;subst hy;rw[show ak c (.buildSlice 1 2 [.int .u8 0] [0,1]) [.int .u8 (a:Int),.int .u8 (b:Int)] s (λv t=>ak c (.conv .ofBytes) [v] t K)=ak c (.conv .ofBytes) [.slice s.next 0 2 (some 2) 1] (af s (.cells [.int .u8 (a:Int),.int .u8 (b:Int)] 0)) K from rfl];have:ay.run (λp=>(af s (.cells [.int .u8 (a:Int),.int .u8 (b:Int)] 0)).heap.get p) (af s (.cells [.int .u8 (a:Int),.int .u8 (b:Int)] 0)).next (.conv .ofBytes) [.slice s.next 0 2 (some 2) 1]=some (.val (.str [a,b])):=by
  have ha':Nat.blt a 256=true:=by simpa using ha
  have jf:Nat.blt b 256=true:=by simpa using hb
  simp only[ay.run,tJ,aC];show(match bytesOf [.int .u8 (.ofNat a),.int .u8 (.ofNat b)]with|some s=>some (bV.val (.str s))|none=>none)=_;simp only[bytesOf,ha',jf]
 unfold ak bS;rw[this]
end
theorem Mk.aaj{s s':St}{l:List AV}(hi:∀u∈l,gJ u)(hw:Wf s)(hg:Grew s s'):
   ∃jR,Go.Ai.tidy s (.agg l,s')=(.agg l,jR)/\Grew s jR/\(∀(es:Nat)(v:AV)(rows:List (List AV)),v∈l->Mk es s s' v rows->Mk es s jR v rows/\(jR=s'\/rows=[])):=by
 unfold Go.Ai.tidy;by_cases hp:Plain (AV.agg l,s').1/\bF s (AV.agg l,s').2
 . rw[Za8 hp];refine⟨s,rfl,Grew.refl hw,λes v rows hm h=> ?_⟩;rcases h.loose with⟨b,off,n,rfl⟩|⟨hl,h0⟩
   .exact absurd hp.1 (Fz hi hm)
   .exact⟨hl s h.sk,.inr h0⟩
 .rw[Za5 hp];exact⟨s',rfl,hg,λes v rows _ h=>⟨h,.inl rfl⟩⟩
theorem Mk.sY{es:Nat}{s0 s s':St}{v:AV}{rows:List (List AV)}(h:Mk es s0 s v rows)(hg:Grew s0 s')(hk:∀b x,bg v=some b->s.heap.get b=some x->s'.heap.get b=some x):Mk es s0 s' v rows:=
 ⟨h.sk,hg,h.own.mono hk,h.new,h.row,h.cap,λb hb=>hk b _ hb (h.tight b hb)⟩
end
section
open Go Go.WideShapes
theorem xO{Q:List AV->Prop}{Qs:List (List AV->Prop)}{ps:List (List AV)}(h:Ev (Q::Qs) ps):∃p qs,ps=p::qs/\Q p/\Ev Qs qs:=by
 cases ps with
 |nil=>exact h.elim
 |cons p qs=>exact⟨p,qs,rfl,h⟩
theorem RF{ps:List (List AV)}(h:Ev [] ps):ps=[]:=by
 cases ps with
 |nil=>rfl
 |cons p qs=>exact h.elim
section
variable{H:Type}{enc:TypeId×Value->H}{P:Program}{w:World}{base:Nat}{spare:Nat->Bool}{held:Bool}
theorem MK{t e:TypeId}{Q:List AV->Prop}{r:Go.Reach}{b0:Nat}{v:Value}{d:DataW H}{p:List MemPlace}(ho:j8 enc P w base spare held t Q)(ht:P.underlying t=some (.slice e))
  (hval:Value.okWide P w r b0 t v) (hd:DataW.Trod enc P w base spare held t v d p):∃as,Q as/\∀ρ n,av ρ n (λad=>w.cell? ad) as [v]:=by
 obtain⟨a,len,cap,rfl⟩:=okWide_slice ht hval;obtain⟨fuel,hf⟩:=hd;exact ho _ _ _ hf
end
end
section
open Go
noncomputable def Nb(d:Nat)(As:List (List AV))(r:AV):List AV->St->Option (AV×St):=λargs st=>open Classical in if args.map (cV st d)∈As then some (r,st)else none
theorem ab9{d:Nat}{As:List (List AV)}{r:AV}{args:List AV}{st:St}(A:List AV)(hA:A∈As)(h:args.map (cV st d)=A):Nb d As r args st=some (r,st):=by
 unfold Nb;rw[h,Za8 hA]
theorem XL{P:Program}{C:Cells}{O:dQ}{G:T cj}{m n f d:Nat}{As:List (List AV)}{r:AV}(bE:∀C:Cells,ey P C (oe O G m n))(ha:∀A∈As,∀a∈A,Plain a)(hr:Plain r)(hb:kX r)
   (h:(As.all λA=>Bj (R:=Bool) false O G m n f A { heap:= .e,next:= .h } (λv _=>eH v r))=true):lQ P C f (Nb d As r):=by
 have unf:∀args st v' st',Nb d As r args st=some (v',st')->v'=r/\st'=st/\(args.map (cV st d))∈As:=by
   intro args st v' st' hs;unfold Nb at hs;(split at hs<;>first|(cases hs;done)|skip);rename_i hc;simp only[H0,Zb3]at hs;exact⟨hs.1.symm,hs.2.symm,hc⟩
 refine⟨λargs st v' st' hs=> ?_,λρ st w args v' st' bC hs hW hv=> ?_⟩
 .obtain⟨_,rfl,_⟩:=unf _ _ _ _ hs;exact Za4 _
 . obtain⟨rfl,rfl,hA⟩:=unf _ _ _ _ hs;have hk:=Zd0.1 h _ hA;rw[El false O G m n]at hk;unfold mR at hk;(split at hk<;>first|(cases hk;done)|skip);rename_i x hx;obtain⟨v,aJ⟩:=x;have h1:=ov hk;subst h1;have Jb:=av.cV hW d hv;have CW:av ρ (Pos.h).toNat (λad=>w.cell? ad) (args.map (cV st' d)) bC:=⟨Jb.1,λi u y hu hy=>ha _ hA u (Zb6 hu) _ _ _ _ _ _ (Jb.2 i u y hu hy)⟩
   (refine Reaches.mono (λx w' hp=> ?_) (bE (λad=>w.cell? ad) ρ { heap:= .e,next:= .h } w f _ _ aJ bC hx (xH (λad u hu=>hu) λa u _ o ho=>ho) CW);obtain⟨ρ',k1,k2,k3,k4,hE⟩:=hp;have un:∀k,k<w.heap.size->w'.heap[k]? =w.heap[k]? :=λk hk=>hE.block k hk λb x hb=>by rw[T.cY]at hb;cases hb);refine⟨ρ,hb _ _ _ _ _ (hr _ _ _ _ _ _ k1),λ_ _=>rfl,Za4 _,⟨λb x hb=> ?_,hW.inj,λa u hu=> ?_,λa u hu o ho=> ?_⟩,⟨hE.os,hE.tape,hE.output,hE.size,λk hk _=>un k hk,λb x hb=>.inl ⟨b,x,hb,rfl⟩⟩⟩
   .obtain⟨l1,l2,l3⟩:=hW.live b x hb;exact⟨l1,Zc5 l2 hE.size,l3.of_heap (un _ l2)⟩
   .obtain⟨c1,c2⟩:=hW.cZ a u hu;exact⟨(k4.cZ a u c1).1,c2⟩
   .have aU:a.block<w.heap.size:=World.block_lt_of_cell? _ _ (hW.cZ a u hu).1;rw[World.cell?_of_block (w:=w) (a:=⟨a.block,o,none⟩) (un _ aU)];exact hW.whole a u hu o ho
end
noncomputable section
open Go
inductive Un where
 |z
 |s (n:Un)
def un:Nat->Un
 |0=>.z
 |n+1=>.s (un n)
inductive Tx where
 |bad
 |op (k:ay) (xs:List dK) (d:Option Pos) (t:Tx)
 |gop (g:Pos) (w:Bool) (k:ay) (xs:List dK) (d:Option Pos) (t:Tx)
 |dr (t:Tx)
 |pr (k:ay) (xs:List dK) (d:Option Pos) (t:Tx)
 |Js (g:Pos) (w:Bool) (k:ay) (xs:List dK) (d:Option Pos) (t:Tx)
 |rd (b:List Bool) (k:ay) (xs:List dK) (d:Option Pos) (t:Tx)
 |Jt (g:Pos) (w:Bool) (b:List Bool) (k:ay) (xs:List dK) (d:Option Pos) (t:Tx)
 |nw (k:ay) (xs:List dK) (d:Option Pos) (t:Tx)
 |gnw (g:Pos) (w:Bool) (k:ay) (xs:List dK) (d:Option Pos) (t:Tx)
 |ef (k:ay) (xs:List dK) (d:Option Pos) (t:Tx)
 |gef (g:Pos) (w:Bool) (k:ay) (xs:List dK) (d:Option Pos) (t:Tx)
 |Oy (x:dK) (a b:Tx)
 |jn (l:List Pos) (a b:Tx)
 |jmp (i:Un) (l:List Pos)
 |arg (l:List Pos) (t:Tx) (r:Tx)
 |lp (j:Un) (ins:List Pos)
 |agn (ins:List Pos)
 |out (i:Un) (l:List Pos)
 |res (rs:List xB)
def txO:List bk->Tx->Tx
 |[],t=>t
 |  o::os,t=>match o.guard with
    |none=>.op o.k o.xs o.dst (txO os t)
    |some (p,w)=>.gop p w o.k o.xs o.dst (txO os t)
def bitsOf(bu:Nat):List Nat->List Bool
 |[]=>[]
 |i::is=>bu.testBit i::bitsOf bu is
def LV:List (Nat×bk)->List Nat->Tx->Tx
 |[],_,t=>t
 |  (j,o)::os,is,t=>match o.cls,o.guard with
    |.pure,none=>.pr o.k o.xs o.dst (LV os (j::is) t)
    |.pure,some (p,w)=> .Js p w o.k o.xs o.dst (LV os (j::is) t)
    |.read,none=>.rd (bitsOf o.bu is) o.k o.xs o.dst (LV os (j::is) t)
    |.read,some (p,w)=> .Jt p w (bitsOf o.bu is) o.k o.xs o.dst (LV os (j::is) t)
    |.new,none=>.nw o.k o.xs o.dst (LV os (j::is) t)
    |.new,some (p,w)=>.gnw p w o.k o.xs o.dst (LV os (j::is) t)
    |.aD,none=>.ef o.k o.xs o.dst (LV os (j::is) t)
    |.aD,some (p,w)=>.gef p w o.k o.xs o.dst (LV os (j::is) t)
def txA(K:iL->Tx):List (Nat×List Pos)->Tx->Tx
 |[],t=>t
 |(e,l)::r,t=>.arg l (K (exOf e)) (txA K r t)
def tx:AC->Sh->Nat->(iL->Nat->Tx)->Tx
 |.skip,_,d,K=>K .normal d
 |.region ops,_,d,K=>txO ops (K .normal d)
 |.draw ops,_,d,K=>.dr (LV ops [] (K .normal d))
 |  .seq a b,s,d,K=>match s with
    | .seq none s t=>tx a s d λex d=>match ex with
      |.normal=>tx b t d K
      |.exit i=>K (.exit i) d
      |.ret=>K .ret d
    | .seq (some l) s t=>.jn l (tx a s (d+1) λex d'=>match ex with
      |.normal=>.jmp (un (d' - d - 1)) l
      |.exit i=>K (.exit i) d'
      |.ret=>K .ret d') (tx b t d K)
    |_=>.bad
 |  .cond x a b,s,d,K=>match s with
    |.cond s t=> .Oy x (tx a s d K) (tx b t d K)
    |_=>.bad
 |  .block id a,s,d,K=>match s with
    | .block s=>tx a s d λex d=>match ex with
      |.normal=>K .normal d
      | .exit i=>match Nat.beq i id with
        |true=>K .normal d
        |false=>K (.exit i) d
      |.ret=>K .ret d
    |_=>.bad
 |  .loop _,s,d,K=>match s with
    |.loop j ins outs _=>txA (λex=>K ex d) outs (.lp (un j) ins)
    |_=>.bad
 |.exit id,_,d,K=>K (.exit id) d
 |.ret,_,d,K=>K .ret d
def idxOf:List (Nat×List Pos)->Nat->Nat
 |[],_=>0
 |  (i,_)::r,e=>match Nat.beq i e with
    |true=>0
    |false=>idxOf r e+1
def txF(A:cj)(s:Sh):Tx:=tx A.code s 0 λex _=>match ex with
 |.normal=>.res A.results
 |.ret=>.res A.results
 |.exit _=>.bad
def txL(x:AC×Sh):List Pos×Tx:=match x.2 with
 |  .loop _ ins outs s=>(ins,tx x.1 s 0 λex _=>match ex with
    |.normal=>.agn ins
    |.exit i=>.out (un (idxOf outs (i+2))) (IA outs (i+2))
    |.ret=>.out (un (idxOf outs 1)) (IA outs 1))
 |_=>([],.bad)
section
variable{R:Type}
abbrev KK(R:Type):=List AV->St->Option R
abbrev O2:=Option (AV×St)
abbrev Q2:=KK (AV×St)
def vO:Unit:=(λ_=>()) (@den AV)
def tD(p:Pos)(fr:Fr)(k:AV->Option R):Option R:=match fr.get p with
 |some v=>k v
 |none=>(λ_=>none) vO
def uP(p:Pos)(v:AV)(fr:Fr)(k:Fr->Option R):Option R:=(λ_=>k (fr.put (some v) p)) vO
def uQ(d:Option Pos)(v:AV)(fr:Fr)(k:Fr->Option R):Option R:=match d with
 |some p=>uP p v fr k
 |none=>k fr
def yJ(fr:Fr):List dK->(List AV->Option R)->Option R
 |[],k=>k []
 |.t p::xs,k=>tD p fr λv=>yJ fr xs λvs=>k (v::vs)
 |.c v::xs,k=>yJ fr xs λvs=>k (v::vs)
def getLT:List Pos->Fr->(List AV->Option R)->Option R
 |[],_,k=>k []
 |p::ps,fr,k=>tD p fr λv=>getLT ps fr λvs=>k (v::vs)
def zn:List Pos->List AV->Fr->(Fr->Option R)->Option R
 |[],vs,fr,k=>pX vs (k fr)
 |p::ps,vs,fr,k=>ji vs λv vs=>uP p v fr λfr=>zn ps vs fr k
def LW(p:Pos)(k:Pos->Option R):Option R:=(λ_=>k p.succ) vO
def Nc:Pos->List AV->Fr->(Fr->Option R)->Option R
 |_,[],fr,k=>k fr
 |p,v::vs,fr,k=>uP p v fr λfr=>LW p λp=>Nc p vs fr k
def RH:Un->List (KK R)->KK R
 |.z,k::_=>k
 |.s n,_::ks=>RH n ks
 |_,[]=>λ_ _=>none
def xw:List Bool->T AB->List RC->T AB
 |  b ::bs,h,r::rs=>match r with
    | .new id aq=>match b with
      |true=>(xw bs h rs).put (some aq) id
      |false=>xw bs h rs
    |.aD _ _=>h
    |.pure=>xw bs h rs
 |_,h,_=>h
def xx(k:ay)(xs:List AV)(v:AV):List (Pos×AB)->List Bool->List RC->Bool
 |  up,b::bs,r::rs=>match r with
    | .new id aq=>match b with
      |true=>xx k xs v ((id,aq)::up) bs rs
      |false=>xx k xs v up bs rs
    | .aD base _=>match b with
      |true=>true
      |false=>qR k xs v (w9 up (xw bs base rs))&&xx k xs v up bs rs
    |.pure=>xx k xs v up bs rs
 |_,_,_=>true
def Km(fr:Fr)(st:St):List xB->(List AV->Option R)->Option R
 |[],k=>k []
 |.tmp p::rs,k=>tD p fr λv=>Km fr st rs λvs=>k (v::vs)
 |.cell p n::rs,k=>tD p fr λq=>Ua n q st λv=>Km fr st rs λvs=>k (v::vs)
def Qb(as:List (KK R))(f:KK R)(k:List (KK R)->Option R):Option R:=(λ_=>k (as++[f])) vO
def pkR(vs:List AV)(st:St):Option (AV×St):=some (fR vs,st)
end
section
variable(c:ai)(F:Nat)(Ls:Un->List Q2->Nat->Q2)(ag:Q2)(ko:List Q2)
def XM(fr:Fr)(x:dK)(k:AV->Option (AV×St)):Option (AV×St):=match x with
 |.t p=>tD p fr k
 |.c v=>k v
def ev:Tx->List (KK (AV×St))->List (KK (AV×St))->Fr->St->List RC->T AB->Option (AV×St)
 |.bad,_,_,_,_,_,_=>none
 |.op k xs d t,ks,as,fr,st,rs,b=>yJ fr xs λvs=>ak c k vs st λv st=>uQ d v fr λfr=>ev t ks as fr st rs b
 |.gop g w k xs d t,ks,as,fr,st,rs,b=>yJ fr xs λvs=>tD g fr λg=>Ri c g w k vs st λv st=>uQ d v fr λfr=>ev t ks as fr st rs b
 |.dr t,ks,as,fr,st,_,_=>ev t ks as fr st [] st.heap
 |.pr k xs d t,ks,as,fr,st,rs,b=>yJ fr xs λvs=>fJ k vs λv=>uQ d v fr λfr=>ev t ks as fr st (.pure::rs) b
 | .Js g w k xs d t,ks,as,fr,st,rs,b=>yJ fr xs λvs=>tD g fr λg=>Js g w k vs λv=>uQ d v fr λfr=>ev t ks as fr st (.pure::rs) b
 |.rd bs k xs d t,ks,as,fr,st,rs,b=>yJ fr xs λvs=>kW k vs (xw bs b rs) (λv=>xx k vs v [] bs rs) λv=>uQ d v fr λfr=>ev t ks as fr st (.pure::rs) b
 | .Jt g w bs k xs d t,ks,as,fr,st,rs,b=>yJ fr xs λvs=>tD g fr λg=>Jt g w k vs (xw bs b rs) (λv=>xx k vs v [] bs rs) λv=>uQ d v fr λfr=>ev t ks as fr st (.pure::rs) b
 |.nw k xs d t,ks,as,fr,st,rs,b=>yJ fr xs λvs=>GO k vs st λv aq=>uQ d v fr λfr=>ev t ks as fr (af st aq) (.new st.next aq::rs) b
 |.gnw g w k xs d t,ks,as,fr,st,rs,b=>yJ fr xs λvs=>tD g fr λg=>Ju g w (GO k vs st λv aq=>uQ d v fr λfr=>ev t ks as fr (af st aq) (.new st.next aq::rs) b) (uQ d .undef fr λfr=>ev t ks as fr st (.pure::rs) b)
 |.ef k xs d t,ks,as,fr,st,rs,b=>yJ fr xs λvs=>ak c k vs st λv st'=>uQ d v fr λfr=>ev t ks as fr st' (.aD b st'.heap::rs) st'.heap
 |.gef g w k xs d t,ks,as,fr,st,rs,b=>yJ fr xs λvs=>tD g fr λg=>Ju g w (ak c k vs st λv st'=>uQ d v fr λfr=>ev t ks as fr st' (.aD b st'.heap::rs) st'.heap) (uQ d .undef fr λfr=>ev t ks as fr st (.pure::rs) b)
 | .Oy x t u,ks,as,fr,st,rs,b=>XM fr x λv=>Oy v (ev t ks as fr st rs b) (ev u ks as fr st rs b)
 |.jn l t u,ks,as,fr,st,rs,b=>fA (λk=>ev t (k::ks) as fr st rs b) (λvs st=>zn l vs .e λfr=>ev u ks as fr st [] .e)
 |.jmp i l,ks,_,fr,st,_,_=>getLT l fr λvs=>RH i ks vs st
 |.arg l t r,ks,as,fr,st,rs,b=>Qb as (λos st=>zn l os .e λfr=>ev t ks [] fr st [] .e) λas=>ev r ks as fr st rs b
 |.lp j ins,_,as,fr,st,_,_=>getLT ins fr λvs=>Ls j as F vs st
 |.agn ins,_,_,fr,st,_,_=>getLT ins fr λvs=>ag vs st
 |.out i l,_,_,fr,st,_,_=>getLT l fr λvs=>RH i ko vs st
 |.res rs,_,_,fr,st,_,_=>Km fr st rs λvs=>pkR vs st
def jr(p:List Pos×Tx)(vs:List AV)(st:St):Option (AV×St):=zn p.1 vs .e λfr=>ev c F Ls ag ko p.2 [] [] fr st [] .e
end
def bY{R:Type}:Un->List (KK R)->Nat->KK R:=λ_ _ _ _ _=>none
def kz{R:Type}:KK R:=λ_ _=>none
def bW(c:ai)(F:Nat)(Ls:Un->List Q2->Nat->Q2)(t:Tx)(args:List AV)(st:St):O2:=Nc .h args .e λfr=>ev c F Ls kz [] t [] [] fr st [] .e
def mS(Ls:Un->List Q2->Nat->Q2)(A:cj)(s:Sh):Env (AV×St):=λj K=>Ls (un j) ((Xz (eR A s j).2).map λo=>K o.1)
def sl:Sh:= .leaf
def sq(a b:Sh):Sh:= .seq none a b
def sj(l:List Nat)(a b:Sh):Sh:= .seq (some (l.map key)) a b
def sc(a b:Sh):Sh:= .cond a b
def sb(a:Sh):Sh:= .block a
def sp(j:Nat)(ins:List Nat)(outs:List (Nat×List Nat))(a:Sh):Sh:= .loop j (ins.map key) (outs.map λo=>(o.1,o.2.map key)) a
section
variable{R:Type}(l r:Fr)(v u:AV)(x:Option AV)(p:Pos)(fr:Fr)(k:AV->Option R)(K:Fr->Option R)(kp:Pos->Option R)
theorem LX:tD .h (.n l (some v) r) k=k v:=rfl
theorem LY:tD (.o p) (.n l x r) k=tD p l k:=rfl
theorem LZ:tD (.i p) (.n l x r) k=tD p r k:=rfl
theorem ID:uP .h v .e K=K (.n .e (some v) .e):=rfl
theorem IE:uP .h v (.n l x r) K=K (.n l (some v) r):=rfl
theorem IF:uP (.o p) v .e K=uP p v .e λt=>K (.n t none .e):=rfl
theorem IG:uP (.o p) v (.n l x r) K=uP p v l λt=>K (.n t x r):=rfl
theorem II:uP (.i p) v .e K=uP p v .e λt=>K (.n .e none t):=rfl
theorem IJ:uP (.i p) v (.n l x r) K=uP p v r λt=>K (.n l x t):=rfl
theorem L4:uQ none v fr K=K fr:=rfl
theorem L5:uQ (some p) v fr K=uP p v fr K:=rfl
theorem IK:LW .h kp=kp (.o .h):=rfl
theorem IL:LW (.o p) kp=kp (.i p):=rfl
theorem IM:LW (.i p) kp=LW p λq=>kp (.o q):=rfl
theorem IN(f:KK R)(k:List (KK R)->Option R):Qb [] f k=k [f]:=rfl
theorem IP(a:KK R)(as:List (KK R))(f:KK R)(k:List (KK R)->Option R):Qb (a::as) f k=Qb as f λl=>k (a::l):=rfl
theorem Qc(st:St):pkR [] st=some (.tuple [],st):=rfl
theorem Qd(st:St):pkR [v] st=some (v,st):=rfl
theorem Qe(vs:List AV)(st:St):pkR (v::u::vs) st=some (.tuple (v::u::vs),st):=rfl
theorem BH(c:ai)(F:Nat)(Ls:Un->List Q2->Nat->Q2)(ag:Q2)(ko:List Q2)(l:List Pos)(t:Tx)(vs:List AV)(st:St):jr c F Ls ag ko (l,t) vs st=zn l vs .e λfr=>ev c F Ls ag ko t [] [] fr st [] .e:=rfl
end
def rC{α:Type}:Option α->Bool
 |none=>true
 |some _=>false
theorem acN{α:Type}{o:Option α}(h:rC o=true):o=none:=by cases o with|none=>rfl|some _=>cases h
theorem acO{α:Type}[Inhabited α]{o:Option α}(h:rC o=false):o=some (o.getD default):=by cases o with|none=>cases h|some _=>rfl
def pY(G:T cj)(f:Nat):cj:=(G.get (key f)).getD default
theorem XN{O:dQ}{G:T cj}{F:Nat}{L:Env (AV×St)}{f:FuncId}{s:Sh}{args:List AV}{st:St}{r:AV×St}(hk:(rC (O f)&& !rC (G.get (key f)))=true)
  (hL:∀x∈dO (pY G f).code s,uH (run O G) F L x.1 x.2) {k:O2} (hd:yf (run O G) F L (pY G f) s args st=k) (h:k=some r):run O G f args st=some (tidy st r):=by
 simp only[Za7,Zh1]at hk;exact ZZ (acN hk.1) (acO hk.2) hL (hd.trans h)
theorem Uq{O:dQ}{G:T cj}{F:Nat}{f:FuncId}{args:List AV}{st:St}{r:AV×St}(s:Sh)(hk:(rC (O f)&& !rC (G.get (key f))&&(dO (pY G f).code s).isEmpty)=true)
  {k:O2} (hd:yf (run O G) F (P8 []) (pY G f) s args st=k) (h:k=some r):run O G f args st=some (tidy st r):=by
 rw[Za7,List.isEmpty_iff]at hk;exact XN hk.1 (by rw[hk.2];intro x hx;cases hx) hd h
theorem Nd{O:dQ}{G:T cj}{F:Nat}{f:FuncId}{args:List AV}{st:St}{r:AV×St}(Ls:Un->List Q2->Nat->Q2)(s:Sh)(n:Nat)(hk:(rC (O f)&& !rC (G.get (key f))&&Nat.beq (dO (pY G f).code s).length n)=true)
  (hL:∀i,i<n->uH (run O G) F (mS Ls (pY G f) s) (eR (pY G f) s i).1 (eR (pY G f) s i).2) {k:O2} (hd:yf (run O G) F (mS Ls (pY G f) s) (pY G f) s args st=k) (h:k=some r):run O G f args st=some (tidy st r):=by
 rw[Za7]at hk;exact XN hk.1 (Z0 n hk.2 hL) hd h
theorem Ur {O:dQ} {G:T cj}  {F:Nat}{f:FuncId}{args:List AV}{st:St}{r:AV×St}(Ls:Un->List Q2->Nat->Q2)(s:Sh)(hk:(rC (O f)&& !rC (G.get (key f))&&Nat.beq (dO (pY G f).code s).length 1)=true)
  (hs:(M1 (eR (pY G f) s 0).2&&Nat.beq (Xy (eR (pY G f) s 0).2) 0)=true) (h0:∀K' vs st,mS Ls (pY G f) s 0 K' 0 vs st=none)
  (h1:∀K' n vs st,mS Ls (pY G f) s 0 K' (n+1) vs st=C5 (den (run O G) F (mS Ls (pY G f) s) (eR (pY G f) s 0).1 (lpB (eR (pY G f) s 0).2)) (lpI (eR (pY G f) s 0).2) (Xz (eR (pY G f) s 0).2) K' (mS Ls (pY G f) s 0 K' n) vs st)
  {k:O2} (hd:yf (run O G) F (mS Ls (pY G f) s) (pY G f) s args st=k) (h:k=some r):run O G f args st=some (tidy st r):=
 Nd Ls s 1 hk (fun i hi=>by obtain rfl:i=0:=by omega
                            exact jM 0 hs h0 h1) hd h
end
section
open Go
theorem qy{R:Type}{Q:Option R->Prop}(P:(List AV->St->Option R)->Prop){A:(List AV->St->Option R)->Option R}{T:List AV->St->Option R}(hT:P T)(hA:∀j,P j->Q (A j)):Q (fA A T):=hA T hT
theorem Us{m:Nat}(h1:1<=m)(h2:m<=18):m=1\/m=2\/m=3\/m=4\/m=5\/m=6\/m=7\/m=8\/m=9\/m=10\/m=11\/m=12\/m=13\/m=14\/m=15\/m=16\/m=17\/m=18:=by omega
end
section
def kY(tk:List Bool)(fr:Nat):Nat->Nat->Option Nat
 |0,_=>none
 |m+1,k=>if tk.getD ((fr+k) % tk.length) true=false then some ((fr+k) % tk.length)else kY tk fr m (k+1)
def kZ(tk:List Bool)(fr:Nat):List Bool×Int:=match kY tk fr tk.length 0 with
 |some s=>(tk.set s true,(s:Int))
 |none=>(tk,-1)
theorem yh{tk:List Bool}{fr s:Nat}:∀{m k:Nat},kY tk fr m k=some s->tk[s]? =some false
 |0,_,h=>by cases h
 |m +1,k,h=>by
  unfold kY at h;split at h
  . rename_i e;cases h;cases e2:tk[(fr+k) % tk.length]? with
    |none=>rw[Zc0,e2]at e;simp at e
    |some b=>rw[Zc0,e2]at e;simp at e;rw[e]
  .exact yh h
theorem FA{tk:List Bool}{fr:Nat}:∀{m k:Nat},kY tk fr m k=none->∀j,k<=j->j<k+m->tk.getD ((fr+j) % tk.length) true=true
 |0,_,_,j,h1,h2=>by omega
 |m +1,k,h,j,h1,h2=>by
  unfold kY at h;split at h
  .cases h
  . rename_i e;by_cases e2:j=k
    .subst e2;simpa using e
    .exact FA h j (by omega) (by omega)
def L6(tk:List Bool):Nat:=(tk.filter λb=> !b).length
theorem OI:∀{tk:List Bool},0<L6 tk->∃s:Nat,tk[s]? =some false
 |[],h=>by simp[L6]at h
 |false::tk,_=>⟨0,rfl⟩
 |true::tk,h=>by
  obtain⟨s,hs⟩:=OI (tk:=tk) (by simpa [L6]using h);exact⟨s+1,by simpa using hs⟩
theorem tE(tk:List Bool)(fr:Nat):((kZ tk fr).2= -1/\(kZ tk fr).1=tk/\L6 tk=0)\/∃s:Nat,kZ tk fr=(tk.set s true,(s:Int))/\tk[s]? =some false:=by
 unfold kZ;cases e:kY tk fr tk.length 0 with
 |some s=>exact .inr ⟨s,rfl,yh e⟩
 |none=>
  refine .inl ⟨rfl,rfl,?_⟩;rcases Zn8 (L6 tk)with h|h
  .exact h
  . exfalso;obtain⟨s,hs⟩:=OI h;have hl:s<tk.length:=(Za1.1 hs).1;have key:=FA e ((s+tk.length - fr % tk.length) % tk.length) (Zj5 _) (by rw[Zc7];exact Zi6 _ (by omega));have hm:fr % tk.length<tk.length:=Zi6 _ (by omega);have:(fr+(s+tk.length - fr % tk.length) % tk.length) % tk.length=s:=by
        rw[Nat.add_mod,Nat.mod_mod];rcases Zh8 (s+tk.length - fr % tk.length) tk.length with h1|h1
        .rw[Zj4 h1];rw[show fr % tk.length+(s+tk.length - fr % tk.length)=s+tk.length by omega,Nat.add_mod_right,Zj4 hl]
        .rw[Zn7 h1,Zj4 (by omega:s+tk.length - fr % tk.length - tk.length<tk.length)];rw[show fr % tk.length+(s+tk.length - fr % tk.length - tk.length)=s by omega,Zj4 hl]
    rw[this,Zc0,hs]at key;simp at key
inductive Ch where
 |no
 |G5 (s:Nat)
 |fr (f:Nat)
def eX(tk:List Bool):List Ch->List Int
 |[]=>[]
 |.no::l=> -1::eX tk l
 | .G5 s::l=>(s:Int)::eX tk l
 |.fr f::l=>(kZ tk f).2::eX (kZ tk f).1 l
theorem Ez:∀(l:List Ch)(tk:List Bool),(eX tk l).length=l.length
 |[],_=>rfl
 |.no::l,tk=>by simp[eX,Ez l]
 | .G5 s::l,tk=>by simp[eX,Ez l]
 |.fr f::l,tk=>by simp[eX,Ez l]
theorem XP(tk:List Bool)(f:Nat):(kZ tk f).1.length=tk.length:=by rcases tE tk f with⟨_,h,_⟩|⟨s,h,_⟩<;>rw[h]<;>simp
def Sat(tk:List Bool)(l:List Ch):Prop:=(∀s,Ch.G5 s∈l->tk[s]? =some true)/\∀(i j s:Nat),l[i]? =some (.G5 s)->l[j]? =some (.G5 s)->i=j
theorem Sat.tail{tk:List Bool}{c:Ch}{l:List Ch}(h:Sat tk (c::l)):Sat tk l:=
 ⟨λs hs=>h.1 s (Za6 _ hs),λi j s h1 h2=>by have:=h.2 (i+1) (j+1) s (by simpa using h1) (by simpa using h2);omega⟩
theorem Sat.place{tk:List Bool}{l:List Ch}(h:Sat tk l)(f:Nat):Sat (kZ tk f).1 l:=by
 refine⟨λs hs=> ?_,h.2⟩;have:=h.1 s hs;rcases tE tk f with⟨_,e,_⟩|⟨s',e,h'⟩<;>rw[e]
 .exact this
 . by_cases e2:s'=s
   .subst e2;rw[h']at this;cases this
   .rw[Zn2 e2];exact this
theorem tX:∀(l:List Ch)(tk:List Bool),Sat tk l->∀(i:Nat)(v:Int),(eX tk l)[i]? =some v->v= -1\/∃s:Nat,v=(s:Int)/\(tk[s]? =some false\/(tk[s]? =some true/\l[i]? =some (.G5 s)))
 |[],_,_,i,v,h=>by simp[eX]at h
 |c::l,tk,hs,0,v,h=>by
  cases c with
  |no=>simp[eX]at h;exact .inl h.symm
  |G5 s=>simp[eX]at h;exact .inr ⟨s,h.symm,.inr ⟨hs.1 s (Zc2),rfl⟩⟩
  |fr f=>
   simp[eX]at h;rcases tE tk f with⟨e,_,_⟩|⟨s,e,h'⟩
   .    exact .inl (by rw[<-h,e])
   .    exact .inr ⟨s,by rw[<-h,e],.inl h'⟩
 |c::l    ,tk,hs,i+1,v,h=>by
  cases c with
  |no=>simpa using tX l tk hs.tail i v (by simpa [eX]using h)
  |G5 s=>simpa using tX l tk hs.tail i v (by simpa [eX]using h)
  |fr f=>
   have h:(eX (kZ tk f).1 l)[i]? =some v:=(by simpa [eX]using h);rcases tX l _ (hs.tail.place f) i v h with e|⟨s,e,h'⟩
   .    exact .inl e
   .    refine .inr ⟨s,e,?_⟩;rcases tE tk f with⟨_,e2,_⟩|⟨s',e2,h2⟩<;>rw[e2]at h'
        .simpa using h'
        . by_cases e3:s'=s
          .subst e3;exact .inl h2
          .rw[Zn2 e3]at h';simpa using h'
theorem zo:∀(l:List Ch)(tk:List Bool),Sat tk l->∀(i j:Nat)(v:Int),i<j->(eX tk l)[i]? =some v->(eX tk l)[j]? =some v->v= -1
 |[],_,_,i,j,v,_,h,_=>by simp[eX]at h
 |c::l    ,tk,hs,0,j+1,v,_,h1,h2=>by
  cases c with
  |no=>simp[eX]at h1;exact h1.symm
  |G5 s=>
   simp[eX]at h1;rcases tX l tk hs.tail j v (by simpa [eX]using h2)with e|⟨s',e,h'|h'⟩
   .    exact e
   .    have:=hs.1 s (Zc2);obtain rfl:s'=s:=(by omega);rw[this]at h';cases h'
   .    obtain rfl:s'=s:=(by omega);have:=hs.2 0 (j+1) s' rfl (by simpa using h'.2);omega
  |fr f=>
   simp[eX]at h1;have h2:(eX (kZ tk f).1 l)[j]? =some v:=(by simpa [eX]using h2);rcases tE tk f with⟨e,_,_⟩|⟨s,e,h'⟩
   .    rw[<-h1,e]
   .    rcases tX l _ (hs.tail.place f) j v h2 with e2|⟨s',e2,h3|h3⟩
        .exact e2
        .rw[e]at h1 h3;obtain rfl:s'=s:=(by simp at h1;omega);have hl:=(Za1.1 h').1;simp[List.getElem?_set_self hl]at h3
        .rw[e]at h1;obtain rfl:s'=s:=(by simp at h1;omega);have:=hs.tail.1 s' (Zb6 h3.2);rw[h']at this;cases this
 |c::l,tk,hs,i+1,j+1,v,RI,h1,h2=>by
  cases c with
  |no=>exact zo l tk hs.tail i j v (by omega) (by simpa [eX]using h1) (by simpa [eX]using h2)
  |G5 s=>exact zo l tk hs.tail i j v (by omega) (by simpa [eX]using h1) (by simpa [eX]using h2)
  |fr f=>exact zo l _ (hs.tail.place f) i j v (by omega) (by simpa [eX]using h1) (by simpa [eX]using h2)
def looks:List Ch->Nat
 |[]=>0
 |.fr _::l=>looks l+1
 |_::l=>looks l
end
section
open Go
section
variable{R:Type}{c:ai}
end
theorem aak{R:Type}(K:AV->Option R){b:Pos}{off len es es':Nat}{cap:Option Nat}{k:IntKind}{i:Nat}(h:i<len):fJ (.idxA es none) [.slice b off len cap es',.int k (i:Int)] K=K (.ptr b (off+i*es)):=
 dP K (λH n=>by
  simp only[ay.run,nk,iN];have:Nat.blt i len=true:=by rw[Zp2];exact h
  rw[this])
structure Rd(s:St)(es:Nat)(L:AV)(i:Nat)(b:Pos)(o:Nat)(r:List AV):Prop where
 st:∀{R:Type}(c:ai)(K:AV->St->Option R)(k:IntKind)(s1:St),ak c (.idxA es none) [L,.int k (i:Int)] s1 K=K (.ptr b o) s1
 pr:∀{R:Type}(K:AV->Option R)(k:IntKind),fJ (.idxA es none) [L,.int k (i:Int)] K=K (.ptr b o)
 at':∀(j:Nat)(u:AV),r[j]? =some u->((cellsOf (s.heap.get b)).bind λcs=>cs[o+j]?)=some u
 all:((cellsOf (s.heap.get b)).bind λcs=>cut cs o es)=some r
theorem QS.rd{s:St}{es:Nat}{v:AV}{rows:List (List AV)}(h:QS es s v rows)(hr:∀r∈rows,r.length=es){i:Nat}{r:List AV}(hi:rows[i]? =some r):∃b o,Rd s es v i b o r:=by
 obtain⟨js,rfl⟩:=Za1.1 hi;have hlen:=hr _ (Zb9 js);rcases h with⟨rfl,h⟩|⟨b,off,cap,cs,rfl,g1,g2,g3,g4⟩|⟨b,off,rfl,h⟩
 .rw[h]at js;simp at js
 rotate_left
 .rw[h]at js;simp at js
 have hmul:(i+1)*es<=rows.length*es:=Zg3 _ js;rw[Zi9]at hmul;have at0:∀(j:Nat)(u:AV),rows[i][j]? =some u->cs[off+i*es+j]? =some u:=λj u hj=>by have hj2:j<es:=(by rw[<-hlen];exact(Za1.1 hj).1);have:=Go.Ai.Al hr i j rows[i] u (H4 js) hj;rw[<-g3,Zb8,Za8 (by omega),Zc8]at this;rw[<-this];congr 1;omega
 refine⟨b,off+i*es,λc K k s1=>Aj c K s1 js,λK k=>aak K js,λj u hj=>by rw[g1];exact at0 j u hj,?_⟩;rw[g1];show cut cs (off+i*es) es=some rows[i];unfold cut;rw[eV,H5 (by omega)];refine congrArg some ?_;apply Zh9;intro j;by_cases hj:j<es
 .rw[Zb8,Za8 hj,Zc8];exact(at0 j (rows[i]'js)[j] (H4 (by omega))).trans (H4 (by omega)).symm
 .rw[Zb5 (by simp;omega),Zb5 (by omega)]
theorem Rd.one{s:St}{L x:AV}{i:Nat}{b:Pos}{o:Nat}(h:Rd s 1 L i b o [x]):((cellsOf (s.heap.get b)).bind λcs=>cs[o]?)=some x:=h.at' 0 x rfl
theorem QS.OJ{s:St}{v:AV}{l:List AV}(h:QS 1 s v (l.map aag)){i:Nat}{x:AV}(hx:l[i]? =some x):∃b o,Rd s 1 v i b o [x]:=
 h.rd (aah l) (by rw[Zb7,hx];rfl)
theorem QS.aA{es:Nat}{s s':St}{v:AV}{rows:List (List AV)}(h:QS es s v rows)(g:Grew s s'):QS es s' v rows:=h.mono λb x _ hx=>g.get hx
section
variable{c:ai}{R:Type}
theorem abw{x:Int}(h1:0<=x)(h2:x<=18446744073709551615):ax .u64 x=x:=by
 unfold ax NS NT;simp only;split
 . split
   .rfl
   .contradiction
 .contradiction
end
theorem T.Kn{α:Type}{x:α}:∀(p:Pos)(t:T α),t.get p=some x->T.put (some x) p t=t
 |p,.e,h=>by rw[T.cY]at h;cases h
 |.h,.n l v r,h=>by have h:v=some x:=h;subst h;rfl
 | .o p,.n l v r,h=>by
   have h:l.get p=some x:=h;simp only[T.put];rw[T.Kn p l h]
 | .i p,.n l v r,h=>by
   have h:r.get p=some x:=h;simp only[T.put];rw[T.Kn p r h]
theorem acP{s:St}{p:Pos}{b:AB}(h:s.heap.get p=some b):cv s p b=s:=by
 unfold cv;rw[T.Kn p s.heap h]
end
end Go.Ai
