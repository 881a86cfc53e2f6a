/- The program as plain functions. -/
import Derived.Test.YtlkadmkojjceiaaGreatDoorKEvalD
import Derived.WalkKit
import Derived.OpenShut
import Derived.ProofKit
import Derived.ShutString
set_option linter.all false
namespace Go.Ai
section
open Go Go.RowKit
def JR(c c':ah):Prop:=∀f args st r,c f args st=some r->c' f args st=some r
theorem JR.refl(c:ah):JR c c:=λ_ _ _ _ h=>h
section
variable{c c':ah}
theorem Fh(h:JR c c'){k:au}{xs:List AV}{st:St}{r:AV×St}(e:bQ c k xs st=some r):bQ c' k xs st=some r:=by
 unfold bQ at e ⊢;cases hr:k.run (λb=>st.heap.get b) st.next xs with
 |none=>simp[hr]at e
 |some x=>cases x with
  |val v=>simpa [hr]using e
  |aC v d s n=>simpa [hr]using e
  |call f args=>simp only[hr]at e ⊢; exact h _ _ _ _ e
theorem Jg(h:JR c c'):∀(os:List aU)(fr:Fr)(st:St)(r:Fr×St),gM c os fr st=some r->gM c' os fr st=some r
 |[],_,_,_,e=>e
 |o::os,fr,st,r,e=>by
  unfold gM at e ⊢;cases hw:bA fr o.guard with
  |none=>simp[hw]at e
  |some b=>cases b with
   |false=>simp only[hw]at e ⊢; exact Jg h _ _ _ _ e
   |    true=>
        simp only[hw]at e ⊢;cases hx:di fr o.xs with
        |none=>simp[hx]at e
        |some xs=>
         simp only[hx]at e ⊢;cases hs:bQ c o.k xs st with
         |none=>simp[hs]at e
         |some p=>simp only[hs]at e;simp only[Fh h hs];exact Jg h _ _ _ _ e
theorem KF (h:JR c c'):∀(os:List (Nat×aU))(recs:List Rec)(base:T AB)(fr:Fr)(st:St)(r:Fr×St),cr c os recs base fr st=some r->cr c' os recs base fr st=some r
 |[],_,_,_,_,_,e=>e
 |(j,   o)::os,recs,base,fr,st,r,e=>by
  have ih:=KF h os;unfold cr at e ⊢;cases hw:bA fr o.guard with
  |none=>simp[hw]at e
  | some b=>cases b with
    |false=>simp only[hw]at e ⊢; exact ih _ _ _ _ _ e
    |   true=>
        simp only[hw]at e ⊢;cases hx:di fr o.xs with
        |none=>simp[hx]at e
        |some xs=>
         simp only[hx]at e ⊢;cases hc:o.cls with
         |  aC=>
            simp only[hc]at e ⊢;cases hs:bQ c o.k xs st with
            |none=>simp[hs]at e
            |some p=>simp only[hs]at e;simp only[Fh h hs];exact ih _ _ _ _ _ e
         |  new=>
            simp only[hc]at e ⊢;split at e<;>first|(cases e;done)|exact ih _ _ _ _ _ e
         |  pure=>
            simp only[hc]at e ⊢;split at e<;>(try split at e)<;>(try split at e)<;>first|(cases e;done)|(simp only[*];exact ih _ _ _ _ _ e)|exact ih _ _ _ _ _ e
         |  read=>
            simp only[hc]at e ⊢;split at e<;>(try split at e)<;>(try split at e)<;>first|(cases e;done)|(simp only[*];exact ih _ _ _ _ _ e)|exact ih _ _ _ _ _ e
theorem Jh(h:JR c c'):∀(n m:Nat),n<=m->∀(a:AC)(fr:Fr)(st:St)(r:gY×Fr×St),exec c n a fr st=some r->exec c' m a fr st=some r
 |0,_,_,_,_,_,_,e=>by simp[exec]at e
 |n+1,0,hm,_,_,_,_,_=>by omega
 |n+    1,m+1,hm,a,fr,st,r,e=>by
  have ih:=Jh h n m (by omega);cases a<;>simp only[exec,aO]at e ⊢
  case skip=>exact e
  case exit=>exact e
  case ret=>exact e
  case region ops=>
   cases ho:gM c ops fr st with
   |none=>simp[ho]at e
   |some p=>simp only[ho]at e;simp only[Jg h _ _ _ _ ho];exact e
  case draw ops=>
   cases ho:cr c ops [] st.heap fr st with
   |none=>simp[ho]at e
   |some p=>simp only[ho]at e;simp only[KF h _ _ _ _ _ _ ho];exact e
  case seq a b=>
   cases ha:exec c n a fr st with
   |none=>simp[ha]at e
   |    some p=>
        obtain⟨ex,bF,aJ⟩:=p;simp only[ha]at e;simp only[ih _ _ _ _ ha];cases ex<;>first|exact e|exact ih _ _ _ _ e
  case cond x a b=>
   split at e
   .    exact ih _ _ _ _ e
   .    exact ih _ _ _ _ e
   .    cases e
  case block id a=>
   cases ha:exec c n a fr st with
   |none=>simp[ha]at e
   |    some p=>
        obtain⟨ex,bF,aJ⟩:=p;simp only[ha]at e;simp only[ih _ _ _ _ ha];cases ex<;>exact e
  case loop a=>
   cases ha:exec c n a fr st with
   |none=>simp[ha]at e
   |    some p=>
        obtain⟨ex,bF,aJ⟩:=p;simp only[ha]at e;simp only[ih _ _ _ _ ha];cases ex<;>first|exact e|exact ih _ _ _ _ e
end
def Plain(v:AV):Prop:=∀(ρ ρ':Pos->Loc)(n n':Nat)(C:Cells)(x:Value),aj ρ n C v x->aj ρ' n' C v x
theorem Plain.bool(b:Bool):Plain (.bool b):=λ_ _ _ _ _ _ h=>by cases h;exact .bool b
theorem Plain.int(k:IntKind)(i:Int):Plain (.int k i):=λ_ _ _ _ _ _ h=>by cases h;exact .int k i
theorem Plain.str(s:List Nat):Plain (.str s):=λ_ _ _ _ _ _ h=>by cases h with|str _ bs h=>exact .str s bs h
theorem Plain.ax:Plain .ax:=λ_ _ _ _ _ _ h=>by cases h;exact .ax
theorem Plain.gV:Plain .gV:=λ_ _ _ _ _ _ h=>by cases h;exact .gV
theorem Plain.func(f:FuncId){a b:List AV}(ha:∀v∈a,Plain v)(hb:∀v∈b,Plain v):Plain (.func f a b):=λ_ _ _ _ _ _ h=>by
 cases h with
 |func _ _ _ a' b' hx hy h1 h2=>exact .func f a b a' b' hx hy (λi v x hv hx=>ha v (Zb8 hv) _ _ _ _ _ _ (h1 i v x hv hx)) (λi v x hv hx=>hb v (Zb8 hv) _ _ _ _ _ _ (h2 i v x hv hx))
theorem Plain.tuple{l:List AV}(hl:∀v∈l,Plain v):Plain (.tuple l):=λ_ _ _ _ _ _ h=>by
 cases h with
 |tuple _ cs hx h1=>exact .tuple l cs hx λi v x hv hx=>hl v (Zb8 hv) _ _ _ _ _ _ (h1 i v x hv hx)
theorem Plain.agg{l:List AV}(hl:∀v∈l,Plain v):Plain (.agg l):=λ_ _ _ _ _ _ h=>by
 cases h with
 |agg _ cs hx h1=>exact .agg l cs hx λi v x hv hx=>hl v (Zb8 hv) _ _ _ _ _ _ (h1 i v x hv hx)
theorem Plain.fl{xs:List (List AV)}{es:Nat}(hl:∀cs∈xs,∀v∈cs,Plain v):Plain (.fl xs es):=λ_ _ _ _ _ _ h=>by
 cases h with
 |fl _ _ aF a cell h1 h2 h3 h4 h5=>exact .fl xs es aF a cell h1 h2 h3 h4 λi j cs v hi hj=>hl cs (Zb8 hi) v (Zb8 hj) _ _ _ _ _ _ (h5 i j cs v hi hj)
def aV(st st':St):Prop:=∀b x,st.heap.get b=some x->st'.heap.get b=some x
theorem aV.refl(st:St):aV st st:=λ_ _ h=>h
theorem aV.trans{a b c:St}(h:aV a b)(k:aV b c):aV a c:=λ_ _ e=>k _ _ (h _ _ e)
theorem aj.down{ρ ρ':Pos->Loc}{n n':Nat}{C:Cells}{v:AV}{x:Value}(h:aj ρ' n' C v x):∀{y:Value},aj ρ n C v y->(∀b:Pos,b.toNat<n->ρ' b=ρ b)->aj ρ n C v x:=by
 induction h with
 |bool b=>exact λh _=>.bool b
 |int k i=>exact λh _=>.int k i
 |str s bs h=>exact λ_ _=>.str s bs h
 |fU=>exact λ_ _=>.fU
 |ptr b off h=>
  intro y h aL;cases h with
  |ptr _ _ h'=>rw[aL b h'];exact .ptr b off h'
 |fp xs i j es aq base cell hl hc hv ih=>
  intro y h aL;cases h with
  |fp _ _ _ es' yy base' ab7 ZO sv zZ=>exact .fp xs i j es aq base cell hl hc λi j cs v hi hj=>ih i j cs v hi hj (zZ i j cs v hi hj) aL
 |ax=>exact λ_ _=>.ax
 |slice  b off len cap es aF a hl hc ha hk=>
  intro y h aL;cases h with
  |slice _ _ _ _ _ Vf a' ZO sv ha' je=>
   refine .slice b off len cap es aF a hl hc (λh0=> ?_) je;obtain⟨h1,h2,h3⟩:=ha h0;have hb:b.toNat<n:=by
        cases cap with
        |none=>exact je rfl
        |some c=>
         have e1:=hc c rfl;have e2:=sv c rfl;exact(ha' (by rw[<-e2,e1];exact h0)).1
   rw[aL b hb]at h2 h3;exact⟨hb,h2,h3⟩
 |fl xs es aF a cell hl hs cU hc hv ih=>
  intro y h aL;cases h with
  |fl _ _ Vf a' ab7 ZO jV hes' sv zZ=>exact .fl xs es aF a cell hl hs cU hc λi j cs v hi hj=>ih i j cs v hi hj (zZ i j cs v hi hj) aL
 |l9=>exact λ_ _=>.l9
 |map b h=>
  intro y h aL;cases h with
  |map _ h'=>rw[aL b h'];exact .map b h'
 |func f x y x' y' hx hy h1 h2 V8 V9=>
  intro z h aL;cases h with
  |func _ _ _ a' b' kx ky k1 k2=>
   refine .func f x y x' y' hx hy (λi v x hv nr=> ?_) (λi v x hv nr=> ?_)
   .    have hi:i<a'.size:=(by rw[<-kx];exact(H3.1 hv).1);exact V8 i v x hv nr (k1 i v _ hv (Ze0 hi)) aL
   .    have hi:i<b'.size:=(by rw[<-ky];exact(H3.1 hv).1);exact V9 i v x hv nr (k2 i v _ hv (Ze0 hi)) aL
 |gV=>exact λ_ _=>.gV
 |tE=>exact λ_ _=>.tE
 |iface t v x _ ih=>
  intro y h aL;cases h with
  |iface _ _ x' h'=>exact .iface t v x (ih h' aL)
 |agg l cs hx h1 ih=>
  intro y h aL;cases h with
  |agg _ jK kx k1=>
   (refine .agg l cs hx λi v x hv nr=> ?_);have hi:i<jK.size:=(by rw[<-kx];exact(H3.1 hv).1);exact ih i v x hv nr (k1 i v _ hv (Ze0 hi)) aL
 |tuple l cs hx h1 ih=>
  intro y h aL;cases h with
  |tuple _ jK kx k1=>
   (refine .tuple l cs hx λi v x hv nr=> ?_);have hi:i<jK.size:=(by rw[<-kx];exact(H3.1 hv).1);exact ih i v x hv nr (k1 i v _ hv (Ze0 hi)) aL
end
noncomputable section
open Go Go.RowKit
def tidy(st:St)(r:AV×St):AV×St:=open Classical in if Plain r.1/\aV st r.2 then(r.1,st)else r
theorem WR{ρ:Pos->Loc}{C:Cells}{st:St}{w w':World}{r:AV×St}{x:Value}(hW:aM ρ C st w)(h:jW ρ C st w r.1 r.2 x w'):
   jW ρ C st w (tidy st r).1 (tidy st r).2 x w':=by
 unfold tidy;split
 . rename_i hp;obtain⟨ρ',hv,aL,hn,dG,hE⟩:=h;refine⟨ρ,hp.1 _ _ _ _ _ _ hv,λ_ _=>rfl,H5 _,⟨λb y hb=> ?_,hW.inj,λa u ha=>⟨(dG.cL a u ha).1,(hW.cL a u ha).2⟩,dG.whole⟩,⟨hE.os,hE.tape,hE.output,hE.size,hE.block,λb y hb=>.inl ⟨b,y,hb,rfl⟩⟩⟩;obtain⟨g1,g2,g3⟩:=hW.live b y hb;obtain⟨_,_,k3⟩:=dG.live b y (hp.2 b y hb);refine⟨g1,Zb5 g2 hE.size,?_⟩;rw[aL b g1]at k3;cases y with
   |cells cs fz=>
    obtain⟨c,e,fr,q1,q2,q3,q4,q5⟩:=k3;obtain⟨c0,e0,bG,p1,p2,p3,p4,p5⟩:=g3;refine⟨c,e,fr,q1,q2,q3,⟨q4.1,λi v x hv hx=> ?_⟩,q5⟩;obtain⟨y0,hy0,Ds⟩:=p4.get hv;exact(q4.2 i v x hv hx).down Ds aL
   |map es clock=>
    obtain⟨es',q1,q2,q3⟩:=k3;obtain⟨WS,p1,p2,p3⟩:=g3;refine⟨es',q1,q2,λi e e' he iT=> ?_⟩;obtain⟨a1,a2,a3⟩:=q3 i e e' he iT;have hi:i<WS.size:=(by rw[<-p2];exact(H3.1 he).1);obtain⟨b1,b2,_⟩:=p3 i e _ he (Ze0 hi);exact⟨a1.down b1 aL,a2.down b2 aL,a3⟩
   |gW s pos=>exact k3
   |typed t cs=>
    obtain⟨c,fr,q1,q2,q3,q4,q5⟩:=k3;obtain⟨c0,bG,p1,p2,p3,p4,p5⟩:=g3;refine⟨c,fr,q1,q2,q3,⟨q4.1,λi v x hv hx=> ?_⟩,q5⟩;obtain⟨y0,hy0,Ds⟩:=p4.get hv;exact(q4.2 i v x hv hx).down Ds aL
 .exact h
theorem WT{st:St}{r:AV×St}(h:st.next.toNat<=r.2.next.toNat):st.next.toNat<=(tidy st r).2.next.toNat:=by
 unfold tidy;split
 .exact H5 _
 .exact h
def pM(call:ah)(m:Nat)(F:b9)(args:List AV)(st:St):Option (AV×St):=
 match Nat.beq args.length F.nparams with
 |  true=>match exec call m F.code (params 0 args .e) st with
    |some (.normal,fr,st')=>match bY (λb=>st'.heap.get b) fr F.results with
     |some vs=>some (fk vs,st')
     |none=>none
    |some (.ret,fr,st')=>match bY (λb=>st'.heap.get b) fr F.results with
     |some vs=>some (fk vs,st')
     |none=>none
    |_=>none
 |false=>none
def pN(O:dw)(G:T b9)(m:Nat):Nat->ah
 |0=>λ_ _ _=>none
 |  d+1=>λf args st=>match O f with
    |some s=>s args st
    |none=>match G.get (key f)with
     |some F=>(pM (pN O G m d) m F args st).map (tidy st)
     |none=>none
section
variable{P:Program}{tt:TT}{C:Cells}
theorem Vh(hT:bE P tt){G:T b9}(hG:Lf P tt G){call:ah}(bw:dS P C call)(eG:oD P tt C call)(m:Nat){f:FuncId}{F:b9}(hF:G.get (key f)=some F)
   {ρ:Pos->Loc} {st:St} {w:World} {args:List AV} {v:AV} {st':St} {br:List Value} (h:pM call m F args st=some (v,st')) (hW:aM ρ C st w) (nB:ak ρ st.next.toNat C args br):
   Reaches P (jW ρ C st w v st') ((callFunc f br.toArray).run P w):=by
 unfold pM at h;split at h<;>first|(cases h;done)|skip
 rename_i hlen;have hlen:=H2 hlen;obtain⟨fn,yR,gj,Ae⟩:=hG _ _ hF;rw[dM,Zd9]at yR;unfold P1 at Ae;split at Ae<;>first|(cases Ae;done)|skip
 rename_i c hb;split at Ae<;>first|(cases Ae;done)|skip
 rename_i ac rs QU WE hle;simp only[H0]at Ae;subst Ae;simp only at h hlen;have hle:=H4 hle;have bL:(callFunc f br.toArray).run P w= .ok (.enter f br.toArray) w:=by
   have Af:¬fn.name= "runtime.NumGoroutine" :=(by simpa using gj);simp[callFunc,yR,Af,hb]
 rw[bL];simp only[Reaches];refine calls_of_wp yR hb (dI.wp ?_);have dV:br.length<=fn.ntmps:=by rw[<-nB.1,hlen];exact hle
 have hS:kg fn.ntmps ρ C (params 0 args .e) st { tmps:=br.toArray++Array.replicate (fn.ntmps - br.toArray.size) undef,defers:=[] } w:=by
   refine⟨hW,?_,?_,rfl⟩
   .refine vp args br 0 .e nB (λj x hx=> ?_) (λp v hp=>by rw[T.cR]at hp;cases hp);have hj:j<br.length:=(H3.1 hx).1;rw[Zc8,Zf9 (by simpa using hj)];simpa using hx
   .simp;omega
 split at h<;>first|(cases h;done)|skip
 .rename_i bF aJ h1;(split at h<;>first|(cases h;done)|skip);rename_i vs fV;simp only[H0,Za8]at h;obtain⟨rfl,rfl⟩:=h;(refine(nI hT bw eG m).1 c ac _ bF st aJ .normal ρ _ w _ QU h1 hS λa' w' hp=> ?_);obtain⟨cV,qg,k1,k2,k3⟩:=hp;obtain⟨y,yT,zX⟩:=oE hT qg.W qg.F WE fV;exact⟨qg.defers,y,yT,cV,zX,k1,k2,qg.W,k3⟩
 .rename_i bF aJ h1;(split at h<;>first|(cases h;done)|skip);rename_i vs fV;simp only[H0,Za8]at h;obtain⟨rfl,rfl⟩:=h;(refine(nI hT bw eG m).1 c ac _ bF st aJ .ret ρ _ w _ QU h1 hS λa' w' hp=> ?_);obtain⟨cV,qg,k1,k2,k3⟩:=hp;obtain⟨y,yT,zX⟩:=oE hT qg.W qg.F WE fV;exact⟨qg.defers,y,yT,cV,zX,k1,k2,qg.W,k3⟩
theorem WU{call:ah}(hm:jX call){m:Nat}{F:b9}{args:List AV}{st:St}{v:AV}{st':St}(h:pM call m F args st=some (v,st')):st.next.toNat<=st'.next.toNat:=by
 unfold pM at h;split at h<;>first|(cases h;done)|skip
 split at h<;>first|(cases h;done)|skip
 all_goals
  rename_i h1;split at h<;>first|(cases h;done)|skip
  simp only[H0,Za8]at h;obtain⟨rfl,rfl⟩:=h;exact BN hm _ _ _ _ _ _ _ h1
theorem LX{O:dw}{G:T b9}(hO:iX O)(m:Nat):∀d,jX (pN O G m d)
 |0=>λf args st v st' h=>by simp[pN]at h
 |d +1=>λf args st v st' h=>by
  unfold pN at h;split at h
  .rename_i s hs;exact hO _ _ hs _ _ _ _ h
  . (split at h<;>first|(cases h;done)|skip);simp only[Ze8]at h;obtain⟨r,hr,he⟩:=h;have:=WU (LX hO m d) (v:=r.1) (st':=r.2) hr;have:=WT this;rw[he]at this;exact this
theorem JS(hm:P.follows .mixedOrders=true)(hT:bE P tt){O:dw}{G:T b9}(hO:nA P C O)(HC:iX O)(hG:Lf P tt G)(m:Nat):∀d,dS P C (pN O G m d)
 |0=>λρ st w f args v st' br h=>by simp[pN]at h
 |d +1=>by
  intro ρ st w f args v st' br h hW nB;have ih:=JS hm hT hO HC hG m d;unfold pN at h;split at h
  .rename_i s hs;exact hO f s hs ρ st w args v st' br h hW nB
  . (split at h<;>first|(cases h;done)|skip);rename_i F hF;simp only[Ze8]at h;obtain⟨r,hr,he⟩:=h;refine Reaches.mono (λx w' hp=> ?_) (Vh hT hG ih (E7 hm hT ih (LX HC m d)) m hF (v:=r.1) (st':=r.2) hr hW nB);have:=WR hW hp;rw[he]at this;exact this
end
theorem TV{c c':ah}(h:JR c c'){n m:Nat}(hn:n<=m){F:b9}{args:List AV}{st:St}{r:AV×St}(e:pM c n F args st=some r):pM c' m F args st=some r:=by
 unfold pM at e ⊢;split at e<;>first|(cases e;done)|skip
 split at e<;>first|(cases e;done)|skip
 all_goals
  rename_i h1;simp only[Jh h n m hn _ _ _ _ h1];exact e
theorem KG(O:dw)(G:T b9){n m:Nat}(hn:n<=m):∀d d',d<=d'->JR (pN O G n d) (pN O G m d')
 |0,_,_=>λ_ _ _ _ e=>by simp[pN]at e
 |_+1,0,h=>by omega
 |d +1,d'+1,h=>λf args st r e=>by
  have ih:=KG O G hn d d' (by omega);unfold pN at e ⊢;split at e
  .exact e
  . (split at e<;>first|(cases e;done)|skip);simp only[Ze8]at e ⊢;obtain⟨q,hq,he⟩:=e;exact⟨q,TV ih hn hq,he⟩
def cn(O:dw)(G:T b9)(n:Nat):ah:=pN O G n n
theorem Fi(O:dw)(G:T b9){n m:Nat}(h:n<=m):JR (cn O G n) (cn O G m):=KG O G h n m h
def run(O:dw)(G:T b9):ah:=λf args st=>open Classical in
 if h:∃(r:AV×St) (n:Nat),cn O G n f args st=some r then some h.choose else none
variable{O:dw}{G:T b9}
theorem WV{f:FuncId}{args:List AV}{st:St}{r:AV×St}{n:Nat}(h:cn O G n f args st=some r):run O G f args st=some r:=by
 unfold run;have hx:∃(r:AV×St) (n:Nat),cn O G n f args st=some r:=⟨r,n,h⟩
 rw[dif_pos hx];obtain⟨m,hm⟩:=hx.choose_spec;have h1:=Fi O G (Zh3 n m) f args st _ h;have h2:=Fi O G (Zg1 n m) f args st _ hm;rw[h1]at h2;exact h2.symm
theorem Ra{f:FuncId}{args:List AV}{st:St}{r:AV×St}(h:run O G f args st=some r):∃n,cn O G n f args st=some r:=by
 unfold run at h;split at h
 .rename_i hx;simp only[H0]at h;rw[<-h];exact hx.choose_spec
 .cases h
theorem LY{k:au}{xs:List AV}{st:St}{r:AV×St}(e:bQ (run O G) k xs st=some r):∃n,bQ (cn O G n) k xs st=some r:=by
 unfold bQ at e;cases hr:k.run (λb=>st.heap.get b) st.next xs with
 |none=>simp[hr]at e
 |some x=>cases x with
  |val v=>exact⟨0,by simpa [bQ,hr]using e⟩
  |aC v d s n=>exact⟨0,by simpa [bQ,hr]using e⟩
  |call f args=>
   simp only[hr]at e;obtain⟨n,hn⟩:=Ra e;exact⟨n,by simpa [bQ,hr]using hn⟩
theorem HF:∀(os:List aU)(fr:Fr)(st:St)(r:Fr×St),gM (run O G) os fr st=some r->∃n,gM (cn O G n) os fr st=some r
 |[],_,_,_,e=>⟨0,e⟩
 |o::os,fr,st,r,e=>by
  unfold gM at e;cases hw:bA fr o.guard with
  |none=>simp[hw]at e
  |some b=>cases b with
   |    false=>
        simp only[hw]at e;obtain⟨n,hn⟩:=HF os _ _ _ e;exact⟨n,by unfold gM;simp only[hw];exact hn⟩
   |    true=>
        simp only[hw]at e;cases hx:di fr o.xs with
        |none=>simp[hx]at e
        |some xs=>
         simp only[hx]at e;cases hs:bQ (run O G) o.k xs st with
         |none=>simp[hs]at e
         |some p=>
          simp only[hs]at e;obtain⟨n,hn⟩:=HF os _ _ _ e;obtain⟨m,hm⟩:=LY hs;refine⟨max n m,?_⟩;unfold gM;simp only[hw,hx,Fh (Fi O G (Zg1 n m)) hm];exact Jg (Fi O G (Zh3 n m)) _ _ _ _ hn
theorem LZ: ∀(os:List (Nat×aU))(recs:List Rec)(base:T AB)(fr:Fr)(st:St)(r:Fr×St),cr (run O G) os recs base fr st=some r->∃n,cr (cn O G n) os recs base fr st=some r
 |[],_,_,_,_,_,e=>⟨0,e⟩
 |(j,   o)::os,recs,base,fr,st,r,e=>by
  have ih:=LZ os;unfold cr at e;cases hw:bA fr o.guard with
  |none=>simp[hw]at e
  | some b=>cases b with
    |   false=>
        simp only[hw]at e;obtain⟨n,hn⟩:=ih _ _ _ _ _ e;exact⟨n,by unfold cr;simp only[hw];exact hn⟩
    |   true=>
        simp only[hw]at e;cases hx:di fr o.xs with
        |none=>simp[hx]at e
        |some xs=>
         simp only[hx]at e;cases hc:o.cls with
         |aC=>
          simp only[hc]at e;cases hs:bQ (run O G) o.k xs st with
          |none=>simp[hs]at e
          | some p=>
            simp only[hs]at e;obtain⟨n,hn⟩:=ih _ _ _ _ _ e;obtain⟨m,hm⟩:=LY hs;refine⟨max n m,?_⟩;unfold cr;simp only[hw,hx,hc,Fh (Fi O G (Zg1 n m)) hm];exact KF (Fi O G (Zh3 n m)) _ _ _ _ _ _ hn
         |new=>
          simp only[hc]at e;(split at e<;>first|(cases e;done)|skip);obtain⟨n,hn⟩:=ih _ _ _ _ _ e;refine⟨n,?_⟩;unfold cr;simp only[*]
         |pure=>
          simp only[hc]at e;split at e<;>(try split at e)<;>(try split at e)<;>first|(cases e;done)|skip
          all_goals
            obtain⟨n,hn⟩:=ih _ _ _ _ _ e;refine⟨n,?_⟩;unfold cr;simp only[*]
         |read=>
          simp only[hc]at e;split at e<;>(try split at e)<;>(try split at e)<;>first|(cases e;done)|skip
          all_goals
            obtain⟨n,hn⟩:=ih _ _ _ _ _ e;refine⟨n,?_⟩;unfold cr;simp only[*]
theorem OG:∀(n:Nat)(a:AC)(fr:Fr)(st:St)(r:gY×Fr×St),exec (run O G) n a fr st=some r->∃m,exec (cn O G m) n a fr st=some r
 |0,_,_,_,_,e=>by simp[exec]at e
 |n+    1,a,fr,st,r,e=>by
  have ih:=OG n;have up:∀{m m':Nat}{a:AC}{fr:Fr}{st:St}{r:gY×Fr×St},m<=m'->exec (cn O G m) n a fr st=some r->exec (cn O G m') n a fr st=some r:=
   λh e=>Jh (Fi O G h) _ _ (H5 _) _ _ _ _ e
  cases a<;>simp only[exec,aO]at e
  case skip=>exact⟨0,e⟩
  case exit=>exact⟨0,e⟩
  case ret=>exact⟨0,e⟩
  case region ops=>
   cases ho:gM (run O G) ops fr st with
   |none=>simp[ho]at e
   |    some p=>
        obtain⟨m,hm⟩:=HF _ _ _ _ ho;exact⟨m,by simp only[exec,aO,hm];simpa only[ho]using e⟩
  case draw ops=>
   cases ho:cr (run O G) ops [] st.heap fr st with
   |none=>simp[ho]at e
   |    some p=>
        obtain⟨m,hm⟩:=LZ _ _ _ _ _ _ ho;exact⟨m,by simp only[exec,aO,hm];simpa only[ho]using e⟩
  case seq a b=>
   cases ha:exec (run O G) n a fr st with
   |none=>simp[ha]at e
   |    some p=>
        obtain⟨ex,bF,aJ⟩:=p;simp only[ha]at e;obtain⟨m,hm⟩:=ih _ _ _ _ ha;cases ex with
        |normal=>
         obtain⟨m',Wb⟩:=ih _ _ _ _ e;exact⟨max m m',by simp only[exec,aO,up (Zh3 m m') hm];exact up (Zg1 m m') Wb⟩
        |exit i=>exact⟨m,by simp only[exec,aO,hm];exact e⟩
        |ret=>exact⟨m,by simp only[exec,aO,hm];exact e⟩
  case cond x a b=>
   split at e
   .    rename_i hx;obtain⟨m,hm⟩:=ih _ _ _ _ e;exact⟨m,by simp only[exec,aO,hx];exact hm⟩
   .    rename_i hx;obtain⟨m,hm⟩:=ih _ _ _ _ e;exact⟨m,by simp only[exec,aO,hx];exact hm⟩
   .    cases e
  case block id a=>
   cases ha:exec (run O G) n a fr st with
   |none=>simp[ha]at e
   |    some p=>
        obtain⟨ex,bF,aJ⟩:=p;simp only[ha]at e;obtain⟨m,hm⟩:=ih _ _ _ _ ha;exact⟨m,by simp only[exec,aO,hm];exact e⟩
  case loop a=>
   cases ha:exec (run O G) n a fr st with
   |none=>simp[ha]at e
   |    some p=>
        obtain⟨ex,bF,aJ⟩:=p;simp only[ha]at e;obtain⟨m,hm⟩:=ih _ _ _ _ ha;cases ex with
        |normal=>
         obtain⟨m',Wb⟩:=ih _ _ _ _ e;exact⟨max m m',by simp only[exec,aO,up (Zh3 m m') hm];exact up (Zg1 m m') Wb⟩
        |exit i=>exact⟨m,by simp only[exec,aO,hm];exact e⟩
        |ret=>exact⟨m,by simp only[exec,aO,hm];exact e⟩
theorem YB{f:FuncId}{F:b9}{args:List AV}{st:St}{r:AV×St}{n:Nat}(ho:O f=none)(hF:G.get (key f)=some F)(h:pM (run O G) n F args st=some r):
   run O G f args st=some (tidy st r):=by
 unfold pM at h;split at h<;>first|(cases h;done)|skip
 rename_i hlen
 have fin:∀{ex fr st'},exec (run O G) n F.code (params 0 args .e) st=some (ex,fr,st')->(∀m k,exec (cn O G m) k F.code (params 0 args .e) st=some (ex,fr,st')->pM (cn O G m) k F args st=some r)->
    run O G f args st=some (tidy st r):=λh1 h2=>by
   obtain⟨m,hm⟩:=OG _ _ _ _ _ h1;refine WV (n:=max n m+1) ?_;unfold cn pN;simp only[ho,hF];have:=h2 m n hm;have h3:=TV (KG O G (n:=m) (m:=max n m+1) (by have:=Zg1 n m;omega) m (max n m) (Zg1 n m)) (m:=max n m+1) (by have:=Zh3 n m;omega) this;rw[h3];rfl
 split at h<;>first|(cases h;done)|skip
 .rename_i h1;exact fin h1 λm k hk=>by unfold pM;simp only[hlen,hk];exact h
 .rename_i h1;exact fin h1 λm k hk=>by unfold pM;simp only[hlen,hk];exact h
theorem L5{f:FuncId}{s:List AV->St->Option (AV×St)}(ho:O f=some s){args:List AV}{st:St}{r:AV×St}(h:s args st=some r):run O G f args st=some r:=
 WV (n:=1) (by unfold cn pN;simp only[ho];exact h)
theorem N7{P:Program}{tt:TT}{C:Cells}(hm:P.follows .mixedOrders=true)(hT:bE P tt)(hO:nA P C O)(HC:iX O)(hG:Lf P tt G):dS P C (run O G):=by intro ρ st w f args v st' br h hW nB;obtain⟨n,hn⟩:=Ra h;exact JS hm hT hO HC hG n n ρ st w f args v st' br hn hW nB
end
noncomputable section
open Go
inductive Sh where
 |leaf
 |seq (jn:Option (List Pos)) (a b:Sh)
 |cond (a b:Sh)
 |block (a:Sh)
 |loop (j:Nat) (ins:List Pos) (outs:List (Nat×List Pos)) (a:Sh)
variable{R:Type}
abbrev LpK(R:Type):=Nat->List AV->St->Option R
abbrev Env(R:Type):=Nat->LpK R->Nat->List AV->St->Option R
def dO(l:List AV)(k:AV->List AV->Option R):Option R:=match l with
 |v::vs=>k v vs
 |[]=>none
def fG(l:List AV)(k:Option R):Option R:=match l with
 |[]=>k
 |_::_=>none
def ai(c:ah)(k:au)(xs:List AV)(st:St)(K:AV->St->Option R):Option R:=match bQ c k xs st with
 |some (v,st')=>K v st'
 |none=>none
def bh(c:ah)(g:AV)(want:Bool)(k:au)(xs:List AV)(st:St)(K:AV->St->Option R):Option R:=match g with
 |  .bool b=>match b==want with
    |true=>ai c k xs st K
    |false=>K .undef st
 |.tuple _=>K .undef st
 |_=>none
def gu(k:au)(xs:List AV)(K:AV->Option R):Option R:=match k.run (λ_=>none) .h xs with
 |some (.val v)=>K v
 |_=>none
def JT(g:AV)(want:Bool)(k:au)(xs:List AV)(K:AV->Option R):Option R:=match g with
 |  .bool b=>match b==want with
    |true=>gu k xs K
    |false=>K .undef
 |.tuple _=>K .undef
 |_=>none
def lX(k:au)(xs:List AV)(h:T AB)(ok:AV->Bool)(K:AV->Option R):Option R:=match k.run (λ_=>none) .h xs with
 |some (.val v)=>K v
 |  _=>match k.run (λb=>h.get b) .h xs with
    |some (.val v)=>match ok v with
     |true=>K v
     |false=>none
    |_=>none
def JU(g:AV)(want:Bool)(k:au)(xs:List AV)(h:T AB)(ok:AV->Bool)(K:AV->Option R):Option R:=match g with
 |  .bool b=>match b==want with
    |true=>lX k xs h ok K
    |false=>K .undef
 |.tuple _=>K .undef
 |_=>none
def OH(k:au)(xs:List AV)(st:St)(K:AV->AB->Option R):Option R:=match k.run (λ_=>none) st.next xs with
 |some (.aC v none none (some aq))=>K v aq
 |_=>none
def JV(g:AV)(want:Bool)(A B:Option R):Option R:=match g with
 |  .bool b=>match b==want with
    |true=>A
    |false=>B
 |.tuple _=>B
 |_=>none
def HG(v:AV)(A B:Option R):Option R:=match v with
 |.bool true=>A
 |.bool false=>B
 |_=>none
def vu(f:(List AV->St->Option R)->Option R)(k:List AV->St->Option R):Option R:=f k
def KH (c:ah):List aU->Fr->St->(Fr->St->Option R)->Option R
 |[],fr,st,K=>K fr st
 |  o::os,fr,st,K=>match di fr o.xs with
    |some xs=>match o.guard with
     |none=>ai c o.k xs st λv st=>KH c os (cA fr o.dst v) st K
     |  some (p,want)=>match fr.get p with
        |some g=>bh c g want o.k xs st λv st=>KH c os (cA fr o.dst v) st K
        |none=>none
    |none=>none
def j8 (c:ah ):List (Nat×aU)->List Rec->T AB->Fr->St->(Fr->St->Option R)->Option R
 |[],_,_,fr,st,K=>K fr st
 |  (j, o):: os,recs,base,fr,st,K=>match di fr o.xs with
    | some xs=>match o.cls with
      | .pure=>match o.guard with
        |none=>gu o.k xs λv=>j8 c os ({ idx:=j,o:=o,v:=v,c:= .pure,nx:=st.next }::recs) base (cA fr o.dst v) st K
        |some (p,want)=>match fr.get p with
         |some g=>JT g want o.k xs λv=>j8 c os ({ idx:=j,o:=o,v:=v,c:= .pure,nx:=st.next }::recs) base (cA fr o.dst v) st K
         |none=>none
      | .read=>match o.guard with
        |none=>lX o.k xs (snap o.bl base recs) (λv=>iP o.bl o.k xs v [] recs) λv=>j8 c os ({ idx:=j,o:=o,v:=v,c:= .pure,nx:=st.next }::recs) base (cA fr o.dst v) st K
        |some (p,want)=>match fr.get p with
         |some g=>JU g want o.k xs (snap o.bl base recs) (λv=>iP o.bl o.k xs v [] recs) λv=>j8 c os ({ idx:=j,o:=o,v:=v,c:= .pure,nx:=st.next }::recs) base (cA fr o.dst v) st K
         |none=>none
      | .new=>match o.guard with
        |none=>OH o.k xs st λv aq=>j8 c os ({ idx:=j,o:=o,v:=v,c:= .new st.next aq,nx:=st.next.succ }::recs) base (cA fr o.dst v) { heap:=st.heap.put (some aq) st.next,next:=st.next.succ } K
        |some (p,want)=>match fr.get p with
         |some g=>JV g want (OH o.k xs st λv aq=>j8 c os ({ idx:=j,o:=o,v:=v,c:= .new st.next aq,nx:=st.next.succ }::recs) base (cA fr o.dst v) { heap:=st.heap.put (some aq) st.next,next:=st.next.succ } K)
             (j8 c os ({ idx:=j,o:=o,v:= .undef,c:= .pure,nx:=st.next }::recs) base (cA fr o.dst .undef) st K)
         |none=>none
      | .aC=>match o.guard with
        |none=>ai c o.k xs st λv st'=>j8 c os ({ idx:=j,o:=o,v:=v,c:= .aC base st'.heap,nx:=st'.next }::recs) st'.heap (cA fr o.dst v) st' K
        |some (p,want)=>match fr.get p with
         |some g=>JV g want (ai c o.k xs st λv st'=>j8 c os ({ idx:=j,o:=o,v:=v,c:= .aC base st'.heap,nx:=st'.next }::recs) st'.heap (cA fr o.dst v) st' K)
             (j8 c os ({ idx:=j,o:=o,v:= .undef,c:= .pure,nx:=st.next }::recs) base (cA fr o.dst .undef) st K)
         |none=>none
    |none=>none
def HH:List Pos->Fr->(List AV->Option R)->Option R
 |[],_,k=>k []
 |  p::ps,fr,k=>match fr.get p with
    |some v=>HH ps fr λvs=>k (v::vs)
    |none=>none
def HI:List Pos->List AV->Fr->(Fr->Option R)->Option R
 |[],vs,fr,k=>fG vs (k fr)
 |p::ps,vs,fr,k=>dO vs λv vs=>HI ps vs (fr.put (some v) p) k
def Ji:List (Nat×List Pos)->Nat->List Pos
 |[],_=>[]
 |  (i,l)::r,e=>match Nat.beq i e with
    |true=>l
    |false=>Ji r e
def exOf:Nat->gY
 |0=>.normal
 |1=>.ret
 |n+2=>.exit n
def DA(D:Fr->St->(gY->Fr->St->Option R)->Option R)(ins:List Pos)(outs:List (Nat×List Pos))(K':LpK R)(again:List AV->St->Option R)(vs:List AV)(st:St):Option R:=
 HI ins vs .e λfr=>D fr st λex fr st=>match ex with
    |.normal=>HH ins fr λvs=>again vs st
    |.exit i=>HH (Ji outs (i+2)) fr λos=>K' (i+2) os st
    |.ret=>HH (Ji outs 1) fr λos=>K' 1 os st
def knk(outs:List (Nat×List Pos))(K:gY->Fr->St->Option R):LpK R:=λe os st=>HI (Ji outs e) os .e λfr=>K (exOf e) fr st
def den (c:ah)(F:Nat)(L:Env R):AC->Sh->Fr->St->(gY->Fr->St->Option R)->Option R
 |.skip,_,fr,st,K=>K .normal fr st
 |.region ops,_,fr,st,K=>KH c ops fr st (K .normal)
 |.draw ops,_,fr,st,K=>j8 c ops [] st.heap fr st (K .normal)
 |  .seq a b,s,fr,st,K=>match s with
    | .seq none s t=>den c F L a s fr st λex fr st=>match ex with
      |.normal=>den c F L b t fr st K
      |.exit i=>K (.exit i) fr st
      |.ret=>K .ret fr st
    | .seq (some l) s t=>vu (λK'=>den c F L a s fr st λex fr st=>match ex with
      |.normal=>HH l fr λvs=>K' vs st
      |.exit i=>K (.exit i) fr st
      |.ret=>K .ret fr st) (λvs st=>HI l vs .e λfr=>den c F L b t fr st K)
    |_=>none
 |  .cond x a b,s,fr,st,K=>match s with
    | .cond s t=>match xM fr x with
      |some v=>HG v (den c F L a s fr st K) (den c F L b t fr st K)
      |none=>none
    |_=>none
 |  .block id a,s,fr,st,K=>match s with
    | .block s=>den c F L a s fr st λex fr st=>match ex with
      |.normal=>K .normal fr st
      | .exit i=>match Nat.beq i id with
        |true=>K .normal fr st
        |false=>K (.exit i) fr st
      |.ret=>K .ret fr st
    |_=>none
 |  .loop _,s,fr,st,K=>match s with
    |.loop j ins outs _=>HH ins fr λvs=>L j (knk outs K) F vs st
    |_=>none
 |.exit id,_,fr,st,K=>K (.exit id) fr st
 |.ret,_,fr,st,K=>K .ret fr st
def vw(c:ah)(F:Nat)(L:Env R)(a:AC):Sh->Prop
 |.loop j ins outs s=>∀K',(∀vs st,L j K' 0 vs st=none)/\∀n vs st,L j K' (n+1) vs st=DA (den c F L a s) ins outs K' (L j K' n) vs st
 |_=>False
def rV(c:ah)(F:Nat)(L:Env R):AC->Sh->Prop
 |  .seq a b,s=>match s with
    |.seq _ s t=>rV c F L a s/\rV c F L b t
    |_=>True
 |  .cond _ a b,s=>match s with
    |.cond s t=>rV c F L a s/\rV c F L b t
    |_=>True
 |  .block _ a,s=>match s with
    |.block s=>rV c F L a s
    |_=>True
 |  .loop a,s=>match s with
    |.loop j ins outs s=>vw c F L a (.loop j ins outs s)/\rV c F L a s
    |_=>True
 |_,_=>True
def dn:AC->Sh->List (AC×Sh)
 |  .seq a b,s=>match s with
    |.seq _ s t=>dn a s++dn b t
    |_=>[]
 |  .cond _ a b,s=>match s with
    |.cond s t=>dn a s++dn b t
    |_=>[]
 |  .block _ a,s=>match s with
    |.block s=>dn a s
    |_=>[]
 |  .loop a,s=>match s with
    |.loop j ins outs s=>(a,.loop j ins outs s)::dn a s
    |_=>[]
 |_,_=>[]
theorem xj{c:ah}{F:Nat}{L:Env R}:∀(a:AC)(s:Sh),(∀x∈dn a s,vw c F L x.1 x.2)->rV c F L a s
 |.skip,_,_=>trivial
 |.region _,_,_=>trivial
 |.draw _,_,_=>trivial
 |.exit _,_,_=>trivial
 |.ret,_,_=>trivial
 | .seq a b,s,h=>by
   cases s<;>simp only[rV]<;>simp only[dn,Zd2]at h;exact⟨xj a _ λx hx=>h x (.inl hx),xj b _ λx hx=>h x (.inr hx)⟩
 | .cond x a b,s,h=>by
   cases s<;>simp only[rV]<;>simp only[dn,Zd2]at h;exact⟨xj a _ λx hx=>h x (.inl hx),xj b _ λx hx=>h x (.inr hx)⟩
 |.block id a,s,h=>by cases s<;>simp only[rV]<;>simp only[dn]at h;exact xj a _ h
 | .loop a,s,h=>by
   cases s<;>simp only[rV]<;>simp only[dn,Za0]at h;exact⟨h _ (.inl rfl),xj a _ λx hx=>h x (.inr hx)⟩
def Sub(a b:Fr):Prop:=∀p v,a.get p=some v->b.get p=some v
theorem Sub.refl(a:Fr):Sub a a:=λ_ _ h=>h
theorem Sub.put{a b:Fr}(h:Sub a b)(p:Pos)(v:AV):Sub (a.put (some v) p) (b.put (some v) p):=λq u hq=>by
 by_cases e:p=q
 .subst e;rw[T.dJ]at hq ⊢; exact hq
 .rw[T.bk _ e]at hq ⊢; exact h _ _ hq
theorem Sub.dst{a b:Fr}(h:Sub a b)(d:Option Pos)(v:AV):Sub (cA a d v) (cA b d v):=by
 cases d with
 |none=>exact h
 |some p=>exact h.put p v
theorem Sub.ev{a b:Fr}(h:Sub a b){x:dh}{v:AV}(e:xM a x=some v):xM b x=some v:=by
 cases x with
 |t p=>exact h _ _ e
 |c v=>exact e
theorem Sub.evs{a b:Fr}(h:Sub a b):∀{xs:List dh}{vs:List AV},di a xs=some vs->di b xs=some vs
 |[],_,e=>e
 |x::xs,vs,e=>by
  unfold di at e ⊢;cases hx:xM a x with
  |none=>simp[hx]at e
  |some v=>
   simp only[hx]at e;cases hs:di a xs with
   |none=>simp[hs]at e
   |some us=>simp only[hs]at e;simp only[h.ev hx,h.evs hs];exact e
theorem Fj {c:ah}:∀(os:List aU){fr dz:Fr}{st:St}{K:Fr->St->Option R}{r:R},Sub fr dz->KH c os fr st K=some r->
  ∃aN cq st',gM c os dz st=some (cq,st')/\Sub aN cq/\K aN st'=some r
 |[],fr,dz,st,K,r,hs,h=>⟨fr,dz,st,rfl,hs,h⟩
 |o::os,fr,dz,st,K,r,hs,h=>by
  unfold KH at h;cases hx:di fr o.xs with
  |none=>simp[hx]at h
  |some xs=>
   simp only[hx]at h;have hstp:∀{st},ai c o.k xs st (λv st=>KH c os (cA fr o.dst v) st K)=some r->bA dz o.guard=some true->∃aN cq st',gM c (o::os) dz st=some (cq,st')/\Sub aN cq/\K aN st'=some r:=λ{st} h hw=>by
        unfold ai at h;cases nu:bQ c o.k xs st with
        |none=>simp[nu]at h
        |some p=>
         simp only[nu]at h;obtain⟨aN,cq,st',h1,h2⟩:=Fj os (hs.dst o.dst p.1) h;exact⟨aN,cq,st',by unfold gM;simp only[hw,hs.evs hx,nu];exact h1,h2⟩
   have HJ:∀{st},KH c os (cA fr o.dst .undef) st K=some r->bA dz o.guard=some false->∃aN cq st',gM c (o::os) dz st=some (cq,st')/\Sub aN cq/\K aN st'=some r:=λ{st} h hw=>by
        obtain⟨aN,cq,st',h1,h2⟩:=Fj os (hs.dst o.dst .undef) h;exact⟨aN,cq,st',by unfold gM;simp only[hw];exact h1,h2⟩
   cases hg:o.guard with
   |none=>simp only[hg]at h;exact hstp h (by rw[hg];rfl)
   |    some pw=>
        obtain⟨p,want⟩:=pw;simp only[hg]at h;cases hp:fr.get p with
        |none=>simp[hp]at h
        |some g=>
         simp only[hp]at h;have vz:=hs _ _ hp;unfold bh at h;split at h
         .  rename_i b;split at h
            .rename_i hb;exact hstp h (by rw[hg];simp[bA,vz,hb])
            .rename_i hb;exact HJ h (by rw[hg];simp[bA,vz,hb])
         .  exact HJ h (by rw[hg];simp[bA,vz])
         .  cases h
theorem JW {c : ah}:∀(os:List (Nat×aU))(recs:List Rec)(base:T AB){fr dz:Fr}{st:St}{K:Fr->St->Option R}{r:R},Sub fr dz->j8 c os recs base fr st K=some r->
  ∃aN cq st',cr c os recs base dz st=some (cq,st')/\Sub aN cq/\K aN st'=some r
 |[],_,_,fr,dz,st,K,r,hs,h=>⟨fr,dz,st,rfl,hs,h⟩
 |(j,   o)::  os, recs,base,fr,dz,st,K,r,hs,h=>by
  have ih:=λrecs base {fr dz:Fr}{st:St}{K:Fr->St->Option R}{r:R}=>JW (c:=c) os recs base (fr:=fr) (dz:=dz) (st:=st) (K:=K) (r:=r)
  unfold j8 at h;cases hx:di fr o.xs with
  |none=>simp[hx]at h
  | some xs   =>
    simp only[hx]at h;have Q3:=hs.evs hx;have HJ:∀{st},j8 c os ({ idx:=j,o:=o,v:= .undef,c:= .pure,nx:=st.next }::recs) base (cA fr o.dst .undef) st K=some r->bA dz o.guard=some false->∃aN cq st',cr c ((j,o)::os) recs base dz st=some (cq,st')/\Sub aN cq/\K aN st'=some r:=λ{st} h hw=>by
        obtain⟨aN,cq,st',h1,h2⟩:=ih _ _ (hs.dst o.dst .undef) h;exact⟨aN,cq,st',by unfold cr;simp only[hw];exact h1,h2⟩
    cases hc:o.cls with
    |   pure=>
        simp only[hc]at h;have HK:gu o.k xs (λv=>j8 c os ({ idx:=j,o:=o,v:=v,c:= .pure,nx:=st.next }::recs) base (cA fr o.dst v) st K)=some r->bA dz o.guard=some true->∃aN cq st',cr c ((j,o)::os) recs base dz st=some (cq,st')/\Sub aN cq/\K aN st'=some r:=λh hw=>by
         unfold gu at h;split at h
         .  rename_i v hv;obtain⟨aN,cq,st',h1,h2⟩:=ih _ _ (hs.dst o.dst v) h;exact⟨aN,cq,st',by unfold cr;simp only[hw,Q3,hc,hv];exact h1,h2⟩
         .  cases h
        cases hg:o.guard with
        |none=>simp only[hg]at h;exact HK h (by rw[hg];rfl)
        |some pw=>
         obtain⟨p,want⟩:=pw;simp only[hg]at h;cases hp:fr.get p with
         |none=>simp[hp]at h
         |  some g=>
            simp only[hp]at h;have vz:=hs _ _ hp;unfold JT at h;split at h
            . split at h
              .rename_i hb;exact HK h (by rw[hg];simp[bA,vz,hb])
              .rename_i hb;exact HJ h (by rw[hg];simp[bA,vz,hb])
            .exact HJ h (by rw[hg];simp[bA,vz])
            .cases h
    |   read=>
        simp only[hc]at h;have HK : lX o.k xs (snap o.bl base recs) (λv=>iP o.bl o.k xs v [] recs) (λv=>j8 c os ({ idx:=j,o:=o,v:=v,c:= .pure,nx:=st.next }::recs) base (cA fr o.dst v) st K)=some r->bA dz o.guard=some true->∃aN cq st',cr c ((j,o)::os) recs base dz st=some (cq,st')/\Sub aN cq/\K aN st'=some r:=λh hw=>by
         unfold lX at h;split at h
         .  rename_i v hv;obtain⟨aN,cq,st',h1,h2⟩:=ih _ _ (hs.dst o.dst v) h;exact⟨aN,cq,st',by unfold cr;simp only[hw,Q3,hc,hv];exact h1,h2⟩
         .  rename_i lW;split at h
            . rename_i v hv;split at h
              . rename_i cJ;obtain⟨aN,cq,st',h1,h2⟩:=ih _ _ (hs.dst o.dst v) h;refine⟨aN,cq,st',?_,h2⟩;unfold cr;simp only[hw,Q3,hc];cases hr:o.k.run (λ_=>none) .h xs with
                |none=>simp only[hv,cJ];exact h1
                | some x=>cases x with
                  |val u=>exact absurd hr (lW u)
                  |aC v d e n=>simp only[hv,cJ];exact h1
                  |call f xs=>simp only[hv,cJ];exact h1
              .cases h
            .cases h
        cases hg:o.guard with
        |none=>simp only[hg]at h;exact HK h (by rw[hg];rfl)
        |some pw=>
         obtain⟨p,want⟩:=pw;simp only[hg]at h;cases hp:fr.get p with
         |none=>simp[hp]at h
         |  some g=>
            simp only[hp]at h;have vz:=hs _ _ hp;unfold JU at h;split at h
            . split at h
              .rename_i hb;exact HK h (by rw[hg];simp[bA,vz,hb])
              .rename_i hb;exact HJ h (by rw[hg];simp[bA,vz,hb])
            .exact HJ h (by rw[hg];simp[bA,vz])
            .cases h
    |   new =>
        simp only[hc]at h;have HK:OH o.k xs st (λv aq=>j8 c os ({ idx:=j,o:=o,v:=v,c:= .new st.next aq,nx:=st.next.succ }::recs) base (cA fr o.dst v) { heap:=st.heap.put (some aq) st.next,next:=st.next.succ } K)=some r->bA dz o.guard=some true->∃aN cq st',cr c ((j,o)::os) recs base dz st=some (cq,st')/\Sub aN cq/\K aN st'=some r:=λh hw=>by
         unfold OH at h;split at h
         .  rename_i v aq hv;obtain⟨aN,cq,st',h1,h2⟩:=ih _ _ (hs.dst o.dst v) h;exact⟨aN,cq,st',by unfold cr;simp only[hw,Q3,hc,hv];exact h1,h2⟩
         .  cases h
        cases hg:o.guard with
        |none=>simp only[hg]at h;exact HK h (by rw[hg];rfl)
        |some pw=>
         obtain⟨p,want⟩:=pw;simp only[hg]at h;cases hp:fr.get p with
         |none=>simp[hp]at h
         |  some g=>
            simp only[hp]at h;have vz:=hs _ _ hp;unfold JV at h;split at h
            . split at h
              .rename_i hb;exact HK h (by rw[hg];simp[bA,vz,hb])
              .rename_i hb;exact HJ h (by rw[hg];simp[bA,vz,hb])
            .exact HJ h (by rw[hg];simp[bA,vz])
            .cases h
    |   aC=>
        simp only[hc]at h;have HK:ai c o.k xs st (λv st'=>j8 c os ({ idx:=j,o:=o,v:=v,c:= .aC base st'.heap,nx:=st'.next }::recs) st'.heap (cA fr o.dst v) st' K)=some r->bA dz o.guard=some true->∃aN cq st',cr c ((j,o)::os) recs base dz st=some (cq,st')/\Sub aN cq/\K aN st'=some r:=λh hw=>by
         unfold ai at h;cases nu:bQ c o.k xs st with
         |none=>simp[nu]at h
         |  some p=>
            simp only[nu]at h;obtain⟨aN,cq,st',h1,h2⟩:=ih _ _ (hs.dst o.dst p.1) h;exact⟨aN,cq,st',by unfold cr;simp only[hw,Q3,hc,nu];exact h1,h2⟩
        cases hg:o.guard with
        |none=>simp only[hg]at h;exact HK h (by rw[hg];rfl)
        |some pw=>
         obtain⟨p,want⟩:=pw;simp only[hg]at h;cases hp:fr.get p with
         |none=>simp[hp]at h
         |  some g=>
            simp only[hp]at h;have vz:=hs _ _ hp;unfold JV at h;split at h
            . split at h
              .rename_i hb;exact HK h (by rw[hg];simp[bA,vz,hb])
              .rename_i hb;exact HJ h (by rw[hg];simp[bA,vz,hb])
            .exact HJ h (by rw[hg];simp[bA,vz])
            .cases h
def Has:List Pos->List AV->Fr->Prop
 |[],[],_=>True
 |p::ps,v::vs,fr=>fr.get p=some v/\Has ps vs fr
 |_,_,_=>False
theorem Has.sub{a b:Fr}(hs:Sub a b):∀{ps:List Pos}{vs:List AV},Has ps vs a->Has ps vs b
 |[],[],_=>trivial
 |[],_::_,h=>h
 |_::_,[],h=>h
 |_::_,_::_,h=>⟨hs _ _ h.1,Has.sub hs h.2⟩
theorem uj:∀{ps:List Pos}{fr:Fr}{k:List AV->Option R}{r:R},HH ps fr k=some r->∃vs,Has ps vs fr/\k vs=some r
 |[],_,_,_,h=>⟨[],trivial,h⟩
 |p::ps,fr,k,r,h=>by
  unfold HH at h;cases hp:fr.get p with
  |none=>simp[hp]at h
  |some v=>
   simp only[hp]at h;obtain⟨vs,h1,h2⟩:=uj h;exact⟨v::vs,⟨hp,h1⟩,h2⟩
theorem xT:∀{ps:List Pos}{vs:List AV}{fr dz:Fr}{k:Fr->Option R}{r:R},HI ps vs fr k=some r->Has ps vs dz->Sub fr dz->∃aN,Sub aN dz/\k aN=some r
 |[],vs,fr,dz,k,r,h,_,hs=>by
  unfold HI fG at h;split at h
  .exact⟨fr,hs,h⟩
  .cases h
 |p::ps,[],fr,dz,k,r,h,hh,hs=>by simp[HI,dO]at h
 |p::ps,v::vs,fr,dz,k,r,h,hh,hs=>by
  unfold HI dO at h;refine xT h hh.2 λq u hq=> ?_
  by_cases e:p=q
  .subst e;rw[T.dJ]at hq;cases hq;exact hh.1
  .rw[T.bk _ e]at hq;exact hs _ _ hq
theorem zM{c:ah}{n m:Nat}(h:n<=m){a:AC}{fr:Fr}{st:St}{r:gY×Fr×St}(e:exec c n a fr st=some r):exec c m a fr st=some r:=Jh (JR.refl c) n m h _ _ _ _ e
theorem kU{c:ah}{F:Nat}{L:Env R}:∀(a:AC)(s:Sh),rV c F L a s->∀{fr dz:Fr}{st:St}{K:gY->Fr->St->Option R}{r:R},Sub fr dz->den c F L a s fr st K=some r->
   ∃n ex aN cq st',exec c n a dz st=some (ex,cq,st')/\Sub aN cq/\K ex aN st'=some r
 |.skip,s,_,fr,dz,st,K,r,hs,h=>⟨1,.normal,fr,dz,st,rfl,hs,by simpa [den]using h⟩
 |.exit id,s,_,fr,dz,st,K,r,hs,h=>⟨1,.exit id,fr,dz,st,rfl,hs,by simpa [den]using h⟩
 |.ret,s,_,fr,dz,st,K,r,hs,h=>⟨1,.ret,fr,dz,st,rfl,hs,by simpa [den]using h⟩
 | .region ops,s,_,fr,dz,st,K,r,hs,h=>by
   simp only[den]at h;obtain⟨aN,cq,st',h1,h2,h3⟩:=Fj ops hs h;exact⟨1,.normal,aN,cq,st',by simp only[exec,aO,h1],h2,h3⟩
 | .draw ops,s,_,fr,dz,st,K,r,hs,h=>by
   simp only[den]at h;obtain⟨aN,cq,st',h1,h2,h3⟩:=JW ops _ _ hs h;exact⟨1,.normal,aN,cq,st',by simp only[exec,aO,h1],h2,h3⟩
 | .seq a b,s,cJ,fr,dz,st,K,r,hs,h=>by
   (cases s<;>simp only[den]at h<;>first|(cases h;done)|skip);rename_i jn s t;simp only[rV]at cJ;cases jn with
   |none=>
    simp only at h;obtain⟨n,ex,bF,oV,aJ,h1,h2,h3⟩:=kU a s cJ.1 hs h;cases ex with
    |   normal=>
        obtain⟨m,ex,ru,Rb,iU,k1,k2,k3⟩:=kU b t cJ.2 h2 h3;exact⟨max n m+1,ex,ru,Rb,iU,by simp only[exec,aO,zM (Zh3 n m) h1];exact zM (Zg1 n m) k1,k2,k3⟩
    |exit i=>exact⟨n+1,.exit i,bF,oV,aJ,by simp only[exec,aO,h1],h2,h3⟩
    |ret=>exact⟨n+1,.ret,bF,oV,aJ,by simp only[exec,aO,h1],h2,h3⟩
   |some l=>
    simp only[vu]at h;obtain⟨n,ex,bF,oV,aJ,h1,h2,h3⟩:=kU a s cJ.1 hs h;cases ex with
    |   normal=>
        obtain⟨vs,g1,g2⟩:=uj h3;obtain⟨aN,g3,g4⟩:=xT g2 (Has.sub h2 g1) (λp v hp=>by rw[T.cR]at hp;cases hp);obtain⟨m,ex,ru,Rb,iU,k1,k2,k3⟩:=kU b t cJ.2 g3 g4;exact⟨max n m+1,ex,ru,Rb,iU,by simp only[exec,aO,zM (Zh3 n m) h1];exact zM (Zg1 n m) k1,k2,k3⟩
    |exit i=>exact⟨n+1,.exit i,bF,oV,aJ,by simp only[exec,aO,h1],h2,h3⟩
    |ret=>exact⟨n+1,.ret,bF,oV,aJ,by simp only[exec,aO,h1],h2,h3⟩
 | .cond x a b,s,cJ,fr,dz,st,K,r,hs,h=>by
   (cases s<;>simp only[den]at h<;>first|(cases h;done)|skip);simp only[rV]at cJ;cases hx:xM fr x with
   |none=>simp[hx]at h
   |some v=>
    simp only[hx]at h;unfold HG at h;split at h
    .   obtain⟨n,ex,bF,oV,aJ,h1,h2,h3⟩:=kU a _ cJ.1 hs h;exact⟨n+1,ex,bF,oV,aJ,by simp only[exec,aO,hs.ev hx];exact h1,h2,h3⟩
    .   obtain⟨n,ex,bF,oV,aJ,h1,h2,h3⟩:=kU b _ cJ.2 hs h;exact⟨n+1,ex,bF,oV,aJ,by simp only[exec,aO,hs.ev hx];exact h1,h2,h3⟩
    .   cases h
 | .block id a,s,cJ,fr,dz,st,K,r,hs,h=>by
   (cases s<;>simp only[den]at h<;>first|(cases h;done)|skip);simp only[rV]at cJ;obtain⟨n,ex,bF,oV,aJ,h1,h2,h3⟩:=kU a _ cJ hs h;cases ex with
   |normal=>exact⟨n+1,.normal,bF,oV,aJ,by simp only[exec,aO,h1],h2,h3⟩
   |ret=>exact⟨n+1,.ret,bF,oV,aJ,by simp only[exec,aO,h1],h2,h3⟩
   |exit i=>
    simp only at h3;cases hb:Nat.beq i id with
    |true=>simp only[hb]at h3;exact⟨n+1,.normal,bF,oV,aJ,by simp only[exec,aO,h1,hb],h2,h3⟩
    |false=>simp only[hb]at h3;exact⟨n+1,.exit i,bF,oV,aJ,by simp only[exec,aO,h1,hb],h2,h3⟩
 | .loop a,s,cJ,fr,dz,st,K,r,hs,h=>by
   (cases s<;>simp only[den]at h<;>first|(cases h;done)|skip);rename_i j ins outs s;simp only[rV,vw]at cJ;obtain⟨ab8,cJ⟩:=cJ;obtain⟨vs,g1,g2⟩:=uj h;obtain⟨hz,hsu⟩:=ab8 (knk outs K)
   have main:∀(n:Nat)(vs:List AV)(st:St)(dz:Fr),Has ins vs dz->L j (knk outs K) n vs st=some r->
        ∃m ex aN cq st',exec c m (.loop a) dz st=some (ex,cq,st')/\Sub aN cq/\K ex aN st'=some r:=by
    intro n;induction n with
    |zero=>intro vs st dz _ h;rw[hz]at h;cases h
    |   succ n ihn=>
        intro vs st dz hh h;rw[hsu]at h;unfold DA at h;obtain⟨bG,q1,q2⟩:=xT h hh (λp v hp=>by rw[T.cR]at hp;cases hp);obtain⟨m,ex,bF,oV,aJ,h1,h2,h3⟩:=kU a s cJ q1 q2;cases ex with
        |normal=>
         obtain⟨us,p1,p2⟩:=uj h3;obtain⟨m',ex,ru,Rb,iU,k1,k2,k3⟩:=ihn us aJ oV (Has.sub h2 p1) p2;exact⟨max m m'+1,ex,ru,Rb,iU,by simp only[exec,aO,zM (Zh3 m m') h1];exact zM (Zg1 m m') k1,k2,k3⟩
        |exit i=>
         obtain⟨os,p1,p2⟩:=uj h3;obtain⟨ru,p3,p4⟩:=xT p2 (Has.sub h2 p1) (λp v hp=>by rw[T.cR]at hp;cases hp);exact⟨m+1,.exit i,ru,oV,aJ,by simp only[exec,aO,h1],p3,p4⟩
        |ret=>
         obtain⟨os,p1,p2⟩:=uj h3;obtain⟨ru,p3,p4⟩:=xT p2 (Has.sub h2 p1) (λp v hp=>by rw[T.cR]at hp;cases hp);exact⟨m+1,.ret,ru,oV,aJ,by simp only[exec,aO,h1],p3,p4⟩
   exact main F vs st dz (Has.sub hs g1) g2
def KI:(H:Pos->Option AB)->Fr->List xL->(List AV->Option R)->Option R
 |_,_,[],k=>k []
 |  H,fr,.tmp p::rs,k=>match fr.get p with
    |some v=>KI H fr rs λvs=>k (v::vs)
    |none=>none
 |  H,fr,.cell p n::rs,k=>match fr.get p with
    |some q=>match (au.load n).run H .h [q]with
     |some (.val v)=>KI H fr rs λvs=>k (v::vs)
     |_=>none
    |none=>none
def ldr(n:Option Nat)(q:AV)(st:St)(K:AV->Option R):Option R:=match (au.load n).run (λb=>st.heap.get b) .h [q]with
 |some (.val v)=>K v
 |_=>none
theorem BV{H:Pos->Option AB}{fr dz:Fr}(hs:Sub fr dz):∀{rs:List xL}{k:List AV->Option R}{r:R},KI H fr rs k=some r->∃vs,bY H dz rs=some vs/\k vs=some r
 |[],k,r,h=>⟨[],rfl,h⟩
 | .tmp p::rs,k,r,h=>by
   unfold KI at h;cases hp:fr.get p with
   |none=>simp[hp]at h
   |some v=>
    simp only[hp]at h;obtain⟨vs,h1,h2⟩:=BV hs h;exact⟨v::vs,by unfold bY;simp only[hs _ _ hp,h1],h2⟩
 | .cell p n::rs,k,r,h=>by
   unfold KI at h;cases hp:fr.get p with
   |none=>simp[hp]at h
   |some q=>
    simp only[hp]at h;split at h
    .   rename_i v hv;obtain⟨vs,h1,h2⟩:=BV hs h;exact⟨v::vs,by unfold bY;simp only[hs _ _ hp,hv,h1],h2⟩
    .   cases h
def yA(c:ah)(F:Nat)(L:Env (AV×St))(A:b9)(s:Sh)(args:List AV)(st:St):Option (AV×St):=
 match Nat.beq args.length A.nparams with
 |  true=>den c F L A.code s (params 0 args .e) st λex fr st=>match ex with
    |.normal=>KI (λb=>st.heap.get b) fr A.results λvs=>some (fk vs,st)
    |.ret=>KI (λb=>st.heap.get b) fr A.results λvs=>some (fk vs,st)
    |.exit _=>none
 |false=>none
theorem YC{O:dw}{G:T b9}{F:Nat}{L:Env (AV×St)}{f:FuncId}{A:b9}{s:Sh}{args:List AV}{st:St}{r:AV×St}(ho:O f=none)(hF:G.get (key f)=some A)
  (hL:∀x∈dn A.code s,vw (run O G) F L x.1 x.2) (h:yA (run O G) F L A s args st=some r):run O G f args st=some (tidy st r):=by
 unfold yA at h;split at h<;>first|(cases h;done)|skip
 rename_i hlen;obtain⟨n,ex,aN,cq,st',h1,h2,h3⟩:=kU A.code s (xj _ _ hL) (Sub.refl _) h;refine YB (n:=n) ho hF ?_;unfold pM;simp only[hlen,h1];cases ex with
 |normal=>
  obtain⟨vs,k1,k2⟩:=BV h2 h3;simp only[k1];exact k2
 |ret=>
  obtain⟨vs,k1,k2⟩:=BV h2 h3;simp only[k1];exact k2
 |exit i=>cases h3
def af(st:St)(b:AB):St:={ heap:=st.heap.put (some b) st.next,next:=st.next.succ }
def P7{R:Type}:List (Nat×(LpK R->Nat->List AV->St->Option R))->Env R
 |[]=>λ_ _ _ _ _=>none
 |  (i,g)::l=>λj K n=>match Nat.beq i j with
    |true=>g K n
    |false=>P7 l j K n
def ey(A:b9)(s:Sh)(i:Nat):AC×Sh:=(dn A.code s).getD i (.skip,.leaf)
theorem YD{R:Type}{c:ah}{F:Nat}{L:Env R}{A:b9}{s:Sh}(n:Nat)(hn:Nat.beq (dn A.code s).length n=true)(h:∀i,i<n->vw c F L (ey A s i).1 (ey A s i).2):
  ∀x∈dn A.code s,vw c F L x.1 x.2:=by
 intro x hx;obtain⟨i,hi,he⟩:=Zg8.1 hx;have hn:=H2 hn;have:=h i (by omega);unfold ey at this;rw[Zd7,H1 hi]at this;simp only[Zj0,he]at this;exact this
def Ng:Sh->Bool
 |.loop _ _ _ _=>true
 |_=>false
def WW:Sh->Nat
 |.loop j _ _ _=>j
 |_=>0
def lpI:Sh->List Pos
 |.loop _ i _ _=>i
 |_=>[]
def WX:Sh->List (Nat×List Pos)
 |.loop _ _ o _=>o
 |_=>[]
def lpB:Sh->Sh
 |.loop _ _ _ s=>s
 |_=>.leaf
theorem nL{R:Type}{c:ah}{F:Nat}{L:Env R}{A:b9}{sh:Sh}{i:Nat}(j:Nat)(hs:(Ng (ey A sh i).2&&Nat.beq (WW (ey A sh i).2) j)=true)(h0:∀K' vs st,L j K' 0 vs st=none)
  (h1:∀K' n vs st,L j K' (n+1) vs st=DA (den c F L (ey A sh i).1 (lpB (ey A sh i).2)) (lpI (ey A sh i).2) (WX (ey A sh i).2) K' (L j K' n) vs st):vw c F L (ey A sh i).1 (ey A sh i).2:=by
 generalize (ey A sh i).1=a at*
 generalize (ey A sh i).2=t at*
 cases t with
 |loop j' ins outs s=>
  simp only[Ng,WW,Zd8]at hs;obtain rfl:=H2 hs;exact λK'=>⟨h0 K',h1 K'⟩
 |_=>simp[Ng]at hs
end
end Go.Ai
section
namespace Go.Ai
open Go
theorem cB(k:IntKind):zP k k=true:=by cases k<;>rfl
theorem iu(a b:Int):xD a b=decide (a=b):=by rw[jU];rfl
theorem dA(a b:List Nat):gw a b=decide (a=b):=by rw[Zi3,kS];simp
theorem wrap64{x:Int}(h1: -9223372036854775808<=x)(h2:x<=9223372036854775807):aB .i64 x=x:=by
 unfold aB Qn Qo;simp only;split
 . split
   .rfl
   .contradiction
 .contradiction
theorem g9(k:IntKind)(n:Nat):rS (.int k (n:Int))=some n:=id rfl
theorem dZ(a b:Nat):Nat.ble a b=decide (a<=b):=by apply Zi3.2;simp
theorem zw(a b:Nat):Nat.blt a b=decide (a<b):=by apply Zi3.2;simp[Nat.blt,Nat.ble_eq];omega
theorem dR(a b:Nat):Nat.beq a b=decide (a=b):=by apply Zi3.2;simp
def tL{R:Type}(o:Option AV)(k:AV->Option R):Option R:=match o with
 |some v=>k v
 |none=>none
def yB{R:Type}(o:Option (List AV))(k:List AV->Option R):Option R:=match o with
 |some v=>k v
 |none=>none
def KJ{R:Type}(o:Option (AV×St))(k:AV->St->Option R):Option R:=match o with
 |some (v,st)=>k v st
 |none=>none
section
variable{R:Type}(c:ah)(K:AV->St->Option R)(K1:AV->Option R)(A B:Option R)
@[simp] theorem uk(v:AV)(k:AV->Option R):tL (some v) k=k v:=id rfl
@[simp] theorem xU(v:List AV)(k:List AV->Option R):yB (some v) k=k v:=id rfl
@[simp] theorem BW(v:AV)(st:St)(k:AV->St->Option R):KJ (some (v,st)) k=k v st:=id rfl
@[simp] theorem pO:HG (.bool true) A B=A:=id rfl
@[simp] theorem pP:HG (.bool false) A B=B:=id rfl
@[simp] theorem iR(v:AV)(vs:List AV)(k:AV->List AV->Option R):dO (v::vs) k=k v vs:=id rfl
@[simp] theorem jM(k:Option R):fG [] k=k:=id rfl
theorem dB(f:(List AV->St->Option R)->Option R)(k:List AV->St->Option R):vu f k=f k:=id rfl
@[simp] theorem ac4(b:Bool)(k:au)(xs:List AV)(st:St):bh c (.bool b) b k xs st K=ai c k xs st K:=by cases b<;>exact id rfl
@[simp] theorem gst_tf(k:au)(xs:List AV)(st:St):bh c (.bool true) false k xs st K=K .undef st:=id rfl
@[simp] theorem gst_ft(k:au)(xs:List AV)(st:St):bh c (.bool false) true k xs st K=K .undef st:=id rfl
@[simp] theorem gst_un(b:Bool)(k:au)(xs:List AV)(st:St):bh c .undef b k xs st K=K .undef st:=id rfl
@[simp] theorem ac5(b:Bool)(k:au)(xs:List AV):JT (.bool b) b k xs K1=gu k xs K1:=by cases b<;>exact id rfl
@[simp] theorem gpr_tf(k:au)(xs:List AV):JT (.bool true) false k xs K1=K1 .undef:=id rfl
@[simp] theorem gpr_ft(k:au)(xs:List AV):JT (.bool false) true k xs K1=K1 .undef:=id rfl
@[simp] theorem gpr_un(b:Bool)(k:au)(xs:List AV):JT .undef b k xs K1=K1 .undef:=id rfl
@[simp] theorem ac6(b:Bool)(k:au)(xs:List AV)(h:T AB)(ok:AV->Bool):JU (.bool b) b k xs h ok K1=lX k xs h ok K1:=by cases b<;>exact id rfl
@[simp] theorem grd_tf(k:au)(xs:List AV)(h:T AB)(ok:AV->Bool):JU (.bool true) false k xs h ok K1=K1 .undef:=id rfl
@[simp] theorem grd_ft(k:au)(xs:List AV)(h:T AB)(ok:AV->Bool):JU (.bool false) true k xs h ok K1=K1 .undef:=id rfl
@[simp] theorem grd_un(b:Bool)(k:au)(xs:List AV)(h:T AB)(ok:AV->Bool):JU .undef b k xs h ok K1=K1 .undef:=id rfl
@[simp] theorem ac7(b:Bool):JV (.bool b) b A B=A:=by cases b<;>exact id rfl
@[simp] theorem wnt_tf:JV (.bool true) false A B=B:=id rfl
@[simp] theorem wnt_ft:JV (.bool false) true A B=B:=id rfl
@[simp] theorem wnt_un(b:Bool):JV .undef b A B=B:=id rfl
theorem Al{k:au}{xs:List AV}{o:Option AV}(h:∀H n,k.run H n xs=o.map .val)(st:St):ai c k xs st K=tL o λv=>K v st:=by unfold ai bQ;rw[h];cases o<;>rfl
theorem L6{k:au}{xs:List AV}{o:Option AV}(h:∀H n,k.run H n xs=o.map .val):gu k xs K1=tL o K1:=by unfold gu;rw[h];cases o<;>rfl
theorem aS{k:au}{xs:List AV}{v:AV}(h:∀H n,k.run H n xs=some (.val v))(st:St):ai c k xs st K=K v st:=by
 unfold ai bQ;rw[h]
theorem cO{k:au}{xs:List AV}{v:AV}(h:∀H n,k.run H n xs=some (.val v)):gu k xs K1=K1 v:=by
 unfold gu;rw[h]
theorem OI(f:FuncId)(l:List AV)(st:St):ai c (.callF f) l st K=KJ (c f l st) K:=by unfold ai bQ;show(match c f l st with|some (v,st')=>K v st'|none=>none)=_;cases c f l st<;>rfl
theorem xV(f:FuncId)(l u v:List AV)(st:St):ai c .callV (.func f u v::l) st K=KJ (c f (u++(l++v)) st) K:=by unfold ai bQ;show(match c f (u++(l++v)) st with|some (v,st')=>K v st'|none=>none)=_;cases c f (u++(l++v)) st<;>rfl
attribute [simp] OI xV
end
def cellsOf:Option AB->Option (List AV)
 |some (.cells cs _)=>some cs
 |some (.typed _ cs)=>some cs
 |_=>none
@[simp] theorem abd(t:TypeId)(cs:List AV):cellsOf (some (.typed t cs))=some cs:=id rfl
@[simp] theorem aT(cs:List AV)(f:Nat):cellsOf (some (.cells cs f))=some cs:=id rfl
def ro(es:Nat)(z:Bool)(rs:List (List AV)):AV:=match z,rs with
 |true,[]=>.ax
 |_,rs=>.fl rs es
theorem TW{es:Nat}{z:Bool}{rs:List (List AV)}(h:rs≠[]):ro es z rs= .fl rs es:=by
 unfold ro;split
 .exact absurd rfl h
 .rfl
theorem run_move(H:Pos->Option AB)(n:Pos)(x:AV):au.run H n .move [x]=some (.val x):=rfl
@[simp] theorem bZ{R:Type}(c:ah)(K:AV->St->Option R)(st:St)(x:AV):ai c .move [x] st K=K x st:=aS c K (λH n=>run_move H n x) st
@[simp] theorem Rc{R:Type}(K:AV->Option R)(x:AV):gu .move [x] K=K x:=cO K (λH n=>run_move H n x)
theorem L7(H:Pos->Option AB)(n:Pos)(x y:AV):au.run H n .pick [.bool true,x,y]=some (.val x):=rfl
@[simp] theorem ab9{R:Type}(c:ah)(K:AV->St->Option R)(st:St)(x y:AV):ai c .pick [.bool true,x,y] st K=K x st:=aS c K (λH n=>L7 H n x y) st
@[simp] theorem acd{R:Type}(K:AV->Option R)(x y:AV):gu .pick [.bool true,x,y] K=K x:=cO K (λH n=>L7 H n x y)
theorem L8(H:Pos->Option AB)(n:Pos)(x y:AV):au.run H n .pick [.bool false,x,y]=some (.val y):=rfl
@[simp] theorem ace{R:Type}(c:ah)(K:AV->St->Option R)(st:St)(x y:AV):ai c .pick [.bool false,x,y] st K=K y st:=aS c K (λH n=>L8 H n x y) st
@[simp] theorem acf{R:Type}(K:AV->Option R)(x y:AV):gu .pick [.bool false,x,y] K=K y:=cO K (λH n=>L8 H n x y)
theorem TX(H:Pos->Option AB)(n:Pos)(p:Bool):au.run H n (.un .not) [.bool p]=some (.val (.bool (!p))):=rfl
@[simp] theorem Jj{R:Type}(c:ah)(K:AV->St->Option R)(st:St)(p:Bool):ai c (.un .not) [.bool p] st K=K (.bool (!p)) st:=aS c K (λH n=>TX H n p) st
@[simp] theorem ac8{R:Type}(K:AV->Option R)(p:Bool):gu (.un .not) [.bool p] K=K (.bool (!p)):=cO K (λH n=>TX H n p)
theorem TY(H:Pos->Option AB)(n:Pos)(q:eA)(k:IntKind)(a b:Int):au.run H n (.bin .lss q) [.int k a,.int k b]=some (.val (.bool (decide (a<b)))):=by simp[au.run,gx,mb,cB,iu,dH,fO,dA]
@[simp] theorem xk{R:Type}(c:ah)(K:AV->St->Option R)(st:St)(q:eA)(k:IntKind)(a b:Int):ai c (.bin .lss q) [.int k a,.int k b] st K=K (.bool (decide (a<b))) st:=aS c K (λH n=>TY H n q k a b) st
@[simp] theorem TZ{R:Type}(K:AV->Option R)(q:eA)(k:IntKind)(a b:Int):gu (.bin .lss q) [.int k a,.int k b] K=K (.bool (decide (a<b))):=cO K (λH n=>TY H n q k a b)
theorem T6(H:Pos->Option AB)(n:Pos)(q:eA)(k:IntKind)(a b:Int):au.run H n (.bin .leq q) [.int k a,.int k b]=some (.val (.bool (decide (a<=b)))):=by simp[au.run,gx,mb,cB,iu,dH,fO,dA]
@[simp] theorem ac9{R:Type}(c:ah)(K:AV->St->Option R)(st:St)(q:eA)(k:IntKind)(a b:Int):ai c (.bin .leq q) [.int k a,.int k b] st K=K (.bool (decide (a<=b))) st:=aS c K (λH n=>T6 H n q k a b) st
@[simp] theorem ada{R:Type}(K:AV->Option R)(q:eA)(k:IntKind)(a b:Int):gu (.bin .leq q) [.int k a,.int k b] K=K (.bool (decide (a<=b))):=cO K (λH n=>T6 H n q k a b)
theorem T7(H:Pos->Option AB)(n:Pos)(q:eA)(k:IntKind)(a b:Int):au.run H n (.bin .gtr q) [.int k a,.int k b]=some (.val (.bool (decide (b<a)))):=by simp[au.run,gx,mb,cB,iu,dH,fO,dA]
@[simp] theorem adb{R:Type}(c:ah)(K:AV->St->Option R)(st:St)(q:eA)(k:IntKind)(a b:Int):ai c (.bin .gtr q) [.int k a,.int k b] st K=K (.bool (decide (b<a))) st:=aS c K (λH n=>T7 H n q k a b) st
@[simp] theorem ade{R:Type}(K:AV->Option R)(q:eA)(k:IntKind)(a b:Int):gu (.bin .gtr q) [.int k a,.int k b] K=K (.bool (decide (b<a))):=cO K (λH n=>T7 H n q k a b)
theorem T8(H:Pos->Option AB)(n:Pos)(q:eA)(k:IntKind)(a b:Int):au.run H n (.bin .geq q) [.int k a,.int k b]=some (.val (.bool (decide (b<=a)))):=by simp[au.run,gx,mb,cB,iu,dH,fO,dA]
@[simp] theorem adf{R:Type}(c:ah)(K:AV->St->Option R)(st:St)(q:eA)(k:IntKind)(a b:Int):ai c (.bin .geq q) [.int k a,.int k b] st K=K (.bool (decide (b<=a))) st:=aS c K (λH n=>T8 H n q k a b) st
@[simp] theorem adg{R:Type}(K:AV->Option R)(q:eA)(k:IntKind)(a b:Int):gu (.bin .geq q) [.int k a,.int k b] K=K (.bool (decide (b<=a))):=cO K (λH n=>T8 H n q k a b)
theorem T9(H:Pos->Option AB)(n:Pos)(q:eA)(k:IntKind)(a b:Int):au.run H n (.bin .eql q) [.int k a,.int k b]=some (.val (.bool (decide (a=b)))):=by simp[au.run,gx,mb,cB,iu,dH,fO,dA]
@[simp] theorem adh{R:Type}(c:ah)(K:AV->St->Option R)(st:St)(q:eA)(k:IntKind)(a b:Int):ai c (.bin .eql q) [.int k a,.int k b] st K=K (.bool (decide (a=b))) st:=aS c K (λH n=>T9 H n q k a b) st
@[simp] theorem adi{R:Type}(K:AV->Option R)(q:eA)(k:IntKind)(a b:Int):gu (.bin .eql q) [.int k a,.int k b] K=K (.bool (decide (a=b))):=cO K (λH n=>T9 H n q k a b)
theorem Ua(H:Pos->Option AB)(n:Pos)(q:eA)(k:IntKind)(a b:Int):au.run H n (.bin .neq q) [.int k a,.int k b]=some (.val (.bool (!decide (a=b)))):=by simp[au.run,gx,mb,cB,iu,dH,fO,dA]
@[simp] theorem adj{R:Type}(c:ah)(K:AV->St->Option R)(st:St)(q:eA)(k:IntKind)(a b:Int):ai c (.bin .neq q) [.int k a,.int k b] st K=K (.bool (!decide (a=b))) st:=aS c K (λH n=>Ua H n q k a b) st
@[simp] theorem adk{R:Type}(K:AV->Option R)(q:eA)(k:IntKind)(a b:Int):gu (.bin .neq q) [.int k a,.int k b] K=K (.bool (!decide (a=b))):=cO K (λH n=>Ua H n q k a b)
theorem Ub(H:Pos->Option AB)(n:Pos)(q:eA)(k:IntKind)(a b:Int):au.run H n (.bin .add q) [.int k a,.int k b]=some (.val (.int k (aB k (a+b)))):=by simp[au.run,gx,mb,cB,iu,dH,fO,dA]
@[simp] theorem Jk{R:Type}(c:ah)(K:AV->St->Option R)(st:St)(q:eA)(k:IntKind)(a b:Int):ai c (.bin .add q) [.int k a,.int k b] st K=K (.int k (aB k (a+b))) st:=aS c K (λH n=>Ub H n q k a b) st
@[simp] theorem adl{R:Type}(K:AV->Option R)(q:eA)(k:IntKind)(a b:Int):gu (.bin .add q) [.int k a,.int k b] K=K (.int k (aB k (a+b))):=cO K (λH n=>Ub H n q k a b)
theorem Uc(H:Pos->Option AB)(n:Pos)(q:eA)(k:IntKind)(a b:Int):au.run H n (.bin .sub q) [.int k a,.int k b]=some (.val (.int k (aB k (a - b)))):=by simp[au.run,gx,mb,cB,iu,dH,fO,dA]
@[simp] theorem adm{R:Type}(c:ah)(K:AV->St->Option R)(st:St)(q:eA)(k:IntKind)(a b:Int):ai c (.bin .sub q) [.int k a,.int k b] st K=K (.int k (aB k (a - b))) st:=aS c K (λH n=>Uc H n q k a b) st
@[simp] theorem adn{R:Type}(K:AV->Option R)(q:eA)(k:IntKind)(a b:Int):gu (.bin .sub q) [.int k a,.int k b] K=K (.int k (aB k (a - b))):=cO K (λH n=>Uc H n q k a b)
theorem aaA(H:Pos->Option AB)(n:Pos)(q:eA)(k:IntKind)(a b:Int):au.run H n (.bin .mul q) [.int k a,.int k b]=some (.val (.int k (aB k (a*b)))):=by simp[au.run,gx,mb,cB,iu,dH,fO,dA]
@[simp] theorem ado{R:Type}(c:ah)(K:AV->St->Option R)(st:St)(q:eA)(k:IntKind)(a b:Int):ai c (.bin .mul q) [.int k a,.int k b] st K=K (.int k (aB k (a*b))) st:=aS c K (λH n=>aaA H n q k a b) st
theorem Re(H:Pos->Option AB)(n:Pos)(q:eA)(s t:List Nat):au.run H n (.bin .eql q) [.str s,.str t]=some (.val (.bool (decide (s=t)))):=by simp[au.run,gx,mb,cB,iu,dH,fO,dA]
@[simp] theorem acN{R:Type}(c:ah)(K:AV->St->Option R)(st:St)(q:eA)(s t:List Nat):ai c (.bin .eql q) [.str s,.str t] st K=K (.bool (decide (s=t))) st:=aS c K (λH n=>Re H n q s t) st
@[simp] theorem acO{R:Type}(K:AV->Option R)(q:eA)(s t:List Nat):gu (.bin .eql q) [.str s,.str t] K=K (.bool (decide (s=t))):=cO K (λH n=>Re H n q s t)
theorem Rf(H:Pos->Option AB)(n:Pos)(q:eA)(s t:List Nat):au.run H n (.bin .neq q) [.str s,.str t]=some (.val (.bool (!decide (s=t)))):=by simp[au.run,gx,mb,cB,iu,dH,fO,dA]
@[simp] theorem acP{R:Type}(c:ah)(K:AV->St->Option R)(st:St)(q:eA)(s t:List Nat):ai c (.bin .neq q) [.str s,.str t] st K=K (.bool (!decide (s=t))) st:=aS c K (λH n=>Rf H n q s t) st
@[simp] theorem acQ{R:Type}(K:AV->Option R)(q:eA)(s t:List Nat):gu (.bin .neq q) [.str s,.str t] K=K (.bool (!decide (s=t))):=cO K (λH n=>Rf H n q s t)
theorem Rg(H:Pos->Option AB)(n:Pos)(q:eA)(s t:List Nat):au.run H n (.bin .lss q) [.str s,.str t]=some (.val (.bool (av s t))):=by simp[au.run,gx,mb,cB,iu,dH,fO,dA]
@[simp] theorem acR{R:Type}(c:ah)(K:AV->St->Option R)(st:St)(q:eA)(s t:List Nat):ai c (.bin .lss q) [.str s,.str t] st K=K (.bool (av s t)) st:=aS c K (λH n=>Rg H n q s t) st
@[simp] theorem acS{R:Type}(K:AV->Option R)(q:eA)(s t:List Nat):gu (.bin .lss q) [.str s,.str t] K=K (.bool (av s t)):=cO K (λH n=>Rg H n q s t)
theorem YE(H:Pos->Option AB)(n:Pos)(q:eA)(s t:List Nat):au.run H n (.bin .leq q) [.str s,.str t]=some (.val (.bool (av s t||decide (s=t)))):=by simp[au.run,gx,mb,cB,iu,dH,fO,dA]
@[simp] theorem acT{R:Type}(K:AV->Option R)(q:eA)(s t:List Nat):gu (.bin .leq q) [.str s,.str t] K=K (.bool (av s t||decide (s=t))):=cO K (λH n=>YE H n q s t)
theorem Rh(H:Pos->Option AB)(n:Pos)(q:eA)(s t:List Nat):au.run H n (.bin .geq q) [.str s,.str t]=some (.val (.bool (!av s t))):=by simp[au.run,gx,mb,cB,iu,dH,fO,dA]
@[simp] theorem acU{R:Type}(c:ah)(K:AV->St->Option R)(st:St)(q:eA)(s t:List Nat):ai c (.bin .geq q) [.str s,.str t] st K=K (.bool (!av s t)) st:=aS c K (λH n=>Rh H n q s t) st
@[simp] theorem acV{R:Type}(K:AV->Option R)(q:eA)(s t:List Nat):gu (.bin .geq q) [.str s,.str t] K=K (.bool (!av s t)):=cO K (λH n=>Rh H n q s t)
theorem YF(H:Pos->Option AB)(n:Pos)(p r:Bool):au.run H n (.bin .eql .bool) [.bool p,.bool r]=some (.val (.bool (p==r))):=rfl
@[simp] theorem acW{R:Type}(c:ah)(K:AV->St->Option R)(st:St)(p r:Bool):ai c (.bin .eql .bool) [.bool p,.bool r] st K=K (.bool (p==r)) st:=aS c K (λH n=>YF H n p r) st
theorem YG(H:Pos->Option AB)(n:Pos)(s:List Nat):au.run H n (.lenB .s) [.str s]=some (.val (.int .i64 (s.length:Int))):=rfl
@[simp] theorem acX{R:Type}(c:ah)(K:AV->St->Option R)(st:St)(s:List Nat):ai c (.lenB .s) [.str s] st K=K (.int .i64 (s.length:Int)) st:=aS c K (λH n=>YG H n s) st
theorem Ri(H:Pos->Option AB)(n:Pos)(es:Nat)(z:Bool)(rs:List (List AV)):au.run H n (.lenB .l) [ro es z rs]=some (.val (.int .i64 (rs.length:Int))):=by unfold ro;split<;>rfl
@[simp] theorem bN{R:Type}(c:ah)(K:AV->St->Option R)(st:St)(es:Nat)(z:Bool)(rs:List (List AV)):ai c (.lenB .l) [ro es z rs] st K=K (.int .i64 (rs.length:Int)) st:=aS c K (λH n=>Ri H n es z rs) st
@[simp] theorem YH{R:Type}(K:AV->Option R)(es:Nat)(z:Bool)(rs:List (List AV)):gu (.lenB .l) [ro es z rs] K=K (.int .i64 (rs.length:Int)):=cO K (λH n=>Ri H n es z rs)
theorem YI(H:Pos->Option AB)(n:Pos)(k k2:IntKind)(a:Int):au.run H n (.conv (.int k)) [.int k2 a]=some (.val (.int k (aB k a))):=rfl
@[simp] theorem Rj{R:Type}(c:ah)(K:AV->St->Option R)(st:St)(k k2:IntKind)(a:Int):ai c (.conv (.int k)) [.int k2 a] st K=K (.int k (aB k a)) st:=aS c K (λH n=>YI H n k k2 a) st
theorem YJ(H:Pos->Option AB)(n:Pos)(k:IntKind)(s:List Nat)(i:Nat):au.run H n .idxS [.str s,.int k (i:Int)]=((s[i]?.map λc=>.int .u8 (c:Int)):Option AV).map .val:=by simp only[au.run,I8,g9,jx];cases s[i]? <;>rfl
@[simp] theorem acY{R:Type}(c:ah)(K:AV->St->Option R)(st:St)(k:IntKind)(s:List Nat)(i:Nat):ai c .idxS [.str s,.int k (i:Int)] st K=tL (s[i]?.map λc=>.int .u8 (c:Int)) λv=>K v st:=Al c K (λH n=>YJ H n k s i) st
theorem HL(H:Pos->Option AB)(n:Pos)(off:Nat)(p:Pos)(o:Nat):au.run H n (.fieldA off) [.ptr p o]=some (.val (.ptr p (o+off))):=rfl
@[simp] theorem mB{R:Type}(c:ah)(K:AV->St->Option R)(st:St)(off:Nat)(p:Pos)(o:Nat):ai c (.fieldA off) [.ptr p o] st K=K (.ptr p (o+off)) st:=aS c K (λH n=>HL H n off p o) st
@[simp] theorem abn{R:Type}(K:AV->Option R)(off:Nat)(p:Pos)(o:Nat):gu (.fieldA off) [.ptr p o] K=K (.ptr p (o+off)):=cO K (λH n=>HL H n off p o)
theorem HM(H:Pos->Option AB)(n:Pos)(off:Nat)(xs:List (List AV))(i j:Nat):au.run H n (.fieldA off) [.fp xs i j]=some (.val (.fp xs i (j+off))):=rfl
@[simp] theorem abo{R:Type}(c:ah)(K:AV->St->Option R)(st:St)(off:Nat)(xs:List (List AV))(i j:Nat):ai c (.fieldA off) [.fp xs i j] st K=K (.fp xs i (j+off)) st:=aS c K (λH n=>HM H n off xs i j) st
@[simp] theorem abp{R:Type}(K:AV->Option R)(off:Nat)(xs:List (List AV))(i j:Nat):gu (.fieldA off) [.fp xs i j] K=K (.fp xs i (j+off)):=cO K (λH n=>HM H n off xs i j)
theorem JX(H:Pos->Option AB)(n:Pos)(i:Nat)(l:List AV):au.run H n (.extract i) [.tuple l]=(l[i]? :Option AV).map .val:=by simp only[au.run,zm,jx];cases l[i]? <;>rfl
@[simp] theorem xG{R:Type}(c:ah)(K:AV->St->Option R)(st:St)(i:Nat)(l:List AV):ai c (.extract i) [.tuple l] st K=tL l[i]? λv=>K v st:=Al c K (λH n=>JX H n i l) st
@[simp] theorem abN{R:Type}(K:AV->Option R)(i:Nat)(l:List AV):gu (.extract i) [.tuple l] K=tL l[i]? K:=L6 K (λH n=>JX H n i l)
theorem DB(H:Pos->Option AB)(n:Pos)(p:Pos)(o:Nat):au.run H n .nilCheck [.ptr p o]=some (.val (.ptr p o)):=rfl
@[simp] theorem q8{R:Type}(c:ah)(K:AV->St->Option R)(st:St)(p:Pos)(o:Nat):ai c .nilCheck [.ptr p o] st K=K (.ptr p o) st:=aS c K (λH n=>DB H n p o) st
@[simp] theorem aaB{R:Type}(K:AV->Option R)(p:Pos)(o:Nat):gu .nilCheck [.ptr p o] K=K (.ptr p o):=cO K (λH n=>DB H n p o)
theorem Rk(H:Pos->Option AB)(n:Pos)(es:Nat)(z:Bool)(rs:List (List AV))(k:IntKind)(i:Nat):au.run H n (.idxA es none) [ro es z rs,.int k (i:Int)]=((if i<rs.length then some (.fp rs i 0)else none):Option AV).map .val:=by
 by_cases h:i<rs.length
 .rw[TW (by intro e;subst e;simp at h)];simp[au.run,mg,g9,zw,dR,h]
 . unfold ro;split
   .rfl
   .simp[au.run,mg,g9,zw,dR,h]
@[simp] theorem Rm{R:Type}(c:ah)(K:AV->St->Option R)(st:St)(es:Nat)(z:Bool)(rs:List (List AV))(k:IntKind)(i:Nat):ai c (.idxA es none) [ro es z rs,.int k (i:Int)] st K=tL (if i<rs.length then some (.fp rs i 0)else none) λv=>K v st:=Al c K (λH n=>Rk H n es z rs k i) st
@[simp] theorem YK{R:Type}(K:AV->Option R)(es:Nat)(z:Bool)(rs:List (List AV))(k:IntKind)(i:Nat):gu (.idxA es none) [ro es z rs,.int k (i:Int)] K=tL (if i<rs.length then some (.fp rs i 0)else none) K:=L6 K (λH n=>Rk H n es z rs k i)
theorem OJ(H:Pos->Option AB)(n:Pos)(es:Nat)(z:Bool)(rs:List (List AV))(k:IntKind)(i:Nat):au.run H n (.sliceL es false true false) [ro es z rs,.int k (i:Int)]=((if i<=rs.length then some (ro es (z&&rs.isEmpty) (rs.take i))else none):Option AV).map .val:=by
 by_cases h:i<=rs.length
 . rw[  Za7 h];unfold ro;split
   .simp at h;subst h;rfl
   .rename_i hn;have:(z&&rs.isEmpty)=false:=(by cases z<;>cases rs<;>simp at hn ⊢);simp only[this];simp[au.run,ni,bounds,g9,dZ,dR,h]
 . rw[Za4 h];unfold ro;split
   .simp only[au.run,ni,bounds,g9];have:¬i=0:=(by simp at h;omega);simp[dR,this]
   .simp[au.run,ni,bounds,g9,dZ,dR,h]
@[simp] theorem acJ{R:Type}(c:ah)(K:AV->St->Option R)(st:St)(es:Nat)(z:Bool)(rs:List (List AV))(k:IntKind)(i:Nat):ai c (.sliceL es false true false) [ro es z rs,.int k (i:Int)] st K=tL (if i<=rs.length then some (ro es (z&&rs.isEmpty) (rs.take i))else none) λv=>K v st:=Al c K (λH n=>OJ H n es z rs k i) st
@[simp] theorem acK{R:Type}(K:AV->Option R)(es:Nat)(z:Bool)(rs:List (List AV))(k:IntKind)(i:Nat):gu (.sliceL es false true false) [ro es z rs,.int k (i:Int)] K=tL (if i<=rs.length then some (ro es (z&&rs.isEmpty) (rs.take i))else none) K:=L6 K (λH n=>OJ H n es z rs k i)
section
variable{R:Type}(c:ah)(K:AV->St->Option R)(K1:AV->Option R)
theorem Fk(H:Pos->Option AB)(n:Pos)(xs:List (List AV))(i j:Nat):au.run H n (.load none) [.fp xs i j]=(xs[i]?.bind λcs=>cs[j]?).map .val:=by
 simp only[au.run,qU,jx];cases xs[i]? with
 |none=>rfl
 |some cs=>simp only[Ze1];cases cs[j]? <;>rfl
theorem CC(H:Pos->Option AB)(n:Pos)(m:Nat)(xs:List (List AV))(i j:Nat):au.run H n (.load (some m)) [.fp xs i j]=((xs[i]?.bind λcs=>cut cs j m).map .agg).map .val:=by
 simp only[au.run,qU,jx];cases xs[i]? with
 |none=>rfl
 |some cs=>simp only[Ze1];cases cut cs j m<;>rfl
theorem kV (H:Pos->Option AB)(n:Pos)(p:Pos)(o:Nat):au.run H n (.load none) [.ptr p o]=((cellsOf (H p)).bind λcs=>cs[o]?).map .val:=by
 simp only[au.run,qU,jx];cases H p with
 |none=>rfl
 |some x=>   cases x<;>simp only[cellsOf,Ze1,Option.bind_none]<;>try rfl
             all_goals first|(rename_i cs _;cases cs[o]? <;>rfl)|(rename_i _ cs;cases cs[o]? <;>rfl)
theorem xH (H:Pos->Option AB)(n:Pos)(m:Nat)(p:Pos)(o:Nat):au.run H n (.load (some m)) [.ptr p o]=(((cellsOf (H p)).bind λcs=>cut cs o m).map .agg).map .val:=by
 simp only[au.run,qU];cases H p with
 |none=>rfl
 |some x=>   cases x<;>simp only[cellsOf,Ze1,Option.bind_none]<;>try rfl
             all_goals first|(rename_i cs _;cases cut cs o m<;>rfl)|(rename_i _ cs;cases cut cs o m<;>rfl)
@[simp] theorem acg(st:St)(xs:List (List AV))(i j:Nat):ai c (.load none) [.fp xs i j] st K=tL (xs[i]?.bind λcs=>cs[j]?) λv=>K v st:=Al c K (λH n=>Fk H n xs i j) st
@[simp] theorem abO(st:St)(m:Nat)(xs:List (List AV))(i j:Nat):ai c (.load (some m)) [.fp xs i j] st K=yB (xs[i]?.bind λcs=>cut cs j m) λl=>K (.agg l) st:=by rw[Al c K (λH n=>CC H n m xs i j) st];cases(xs[i]?.bind λcs=>cut cs j m)<;>rfl
@[simp] theorem q9(st:St)(p:Pos)(o:Nat):ai c (.load none) [.ptr p o] st K=tL ((cellsOf (st.heap.get p)).bind λcs=>cs[o]?) λv=>K v st:=by unfold ai bQ;rw[kV];cases((cellsOf (st.heap.get p)).bind λcs=>cs[o]?)<;>rfl
@[simp] theorem abP(st:St)(m:Nat)(p:Pos)(o:Nat):ai c (.load (some m)) [.ptr p o] st K=yB ((cellsOf (st.heap.get p)).bind λcs=>cut cs o m) λl=>K (.agg l) st:=by unfold ai bQ;rw[xH];cases((cellsOf (st.heap.get p)).bind λcs=>cut cs o m)<;>rfl
@[simp] theorem ach(h:T AB)(xs:List (List AV))(i j:Nat):lX (.load none) [.fp xs i j] h (λ_=>true) K1=tL (xs[i]?.bind λcs=>cs[j]?) K1:=by unfold lX;rw[Fk,Fk];cases hx:(xs[i]?.bind λcs=>cs[j]?)<;>rfl
@[simp] theorem abQ(h:T AB)(m:Nat)(xs:List (List AV))(i j:Nat):lX (.load (some m)) [.fp xs i j] h (λ_=>true) K1=yB (xs[i]?.bind λcs=>cut cs j m) λl=>K1 (.agg l):=by unfold lX;rw[CC,CC];cases hx:(xs[i]?.bind λcs=>cut cs j m)<;>rfl
@[simp] theorem abR(st:St)(f:FuncId)(xs:List AV):ai c (.mkFunc f 0) xs st K=K (.func f [] xs) st:=aS c K (λH n=>by simp[au.run,BB,dZ]) st
@[simp] theorem aci(h:T AB)(p:Pos)(o:Nat):lX (.load none) [.ptr p o] h (λ_=>true) K1=tL ((cellsOf (h.get p)).bind λcs=>cs[o]?) K1:=by unfold lX;rw[kV,kV];show(match ((cellsOf (h.get p)).bind λcs=>cs[o]?).map bW.val with|some (.val v)=>_|_=>_)=_;cases((cellsOf (h.get p)).bind λcs=>cs[o]?)<;>rfl
@[simp] theorem JY(h:T AB)(m:Nat)(p:Pos)(o:Nat):lX (.load (some m)) [.ptr p o] h (λ_=>true) K1=yB ((cellsOf (h.get p)).bind λcs=>cut cs o m) λl=>K1 (.agg l):=by unfold lX;rw[xH,xH];show(match (((cellsOf (h.get p)).bind λcs=>cut cs o m).map AV.agg).map bW.val with|some (.val v)=>_|_=>_)=_;cases((cellsOf (h.get p)).bind λcs=>cut cs o m)<;>rfl
theorem run_build(H:Pos->Option AB)(n:Pos)(z:List AV)(ps:List (Nat×Nat))(xs:List AV):au.run H n (.build z ps) xs=((bP z ps xs).map .agg).map .val:=by simp only[au.run,EA];cases bP z ps xs<;>rfl
@[simp] theorem WY(st:St)(z:List AV)(ps:List (Nat×Nat))(xs:List AV):ai c (.build z ps) xs st K=yB (bP z ps xs) λl=>K (.agg l) st:=by rw[Al c K (λH n=>run_build H n z ps xs) st];cases bP z ps xs<;>rfl
@[simp] theorem acL(z:List AV)(ps:List (Nat×Nat))(xs:List AV):gu (.build z ps) xs K1=yB (bP z ps xs) λl=>K1 (.agg l):=by rw[L6 K1 (λH n=>run_build H n z ps xs)];cases bP z ps xs<;>rfl
theorem bV{α:Type}{l:List α}{m:Nat}(h:l.length=m):cut l 0 m=some l:=by
 unfold cut;rw[dZ,Za3 (by omega)];simp only[Zc9];rw[Zf3 (by omega)]
end
end Go.Ai
namespace Go.Ai
open Go
def Wf(st:St):Prop:=∀p x,st.heap.get p=some x->p.toNat<st.next.toNat
theorem cX(st:St)(b:AB):(af st b).next=st.next.succ:=id rfl
@[simp] theorem bt{st:St}{b:AB}(h:Wf st):Wf (af st b):=λp x hp=>by
  rw[cX,Pos.ay];by_cases e:st.next=p
  .subst e;omega
  .have:=h p x (by rwa [af,T.bk _ e]at hp);omega
@[simp] theorem aE(st:St)(b:AB):(af st b).heap.get st.next=some b:=T.dJ _ _ _
theorem oT{st:St}{b:AB}{p:Pos}(h:p.toNat<st.next.toNat):(af st b).heap.get p=st.heap.get p:=by
 rw[af,T.bk _ (by intro e;subst e;omega)]
@[simp] theorem vA{st:St}{a b:AB}:(af (af st a) b).heap.get st.next=some a:=by
  rw[oT (by rw[cX,Pos.ay];omega),aE]
theorem aZ{st:St}{b:AB}(h:Wf st):aV st (af st b):=λp x hp=>by rw[oT (h p x hp)];exact hp
theorem aA{st st':St}{v:AV}(hv:Plain v)(hk:aV st st'):tidy st (v,st')=(v,st):=by
 unfold tidy;rw[Za7 ⟨hv,hk⟩]
section
variable{R:Type}(c:ah)(K:AV->St->Option R)
@[simp] theorem um(x:AV)(st:St):ai c .box [x] st K=K (.ptr st.next 0) (af st (.cells x.cells 0)):=id rfl
@[simp] theorem acM(l:List AV)(st:St):ai c (.alloc l) [] st K=K (.ptr st.next 0) (af st (.cells l 0)):=id rfl
end
theorem T.Am{α:Type}(x y:Option α):∀(p:Pos)(t:T α),T.put x p (T.put y p t)=T.put x p t
 |.h,.e=>rfl
 |.h,.n _ _ _=>rfl
 |.o p,.e=>by simp only[T.put];rw[T.Am x y p]
 |.o p,.n _ _ _=>by simp only[T.put];rw[T.Am x y p]
 |.i p,.e=>by simp only[T.put];rw[T.Am x y p]
 |.i p,.n _ _ _=>by simp only[T.put];rw[T.Am x y p]
def ei(st:St)(p:Pos)(b:AB):St:={ heap:=st.heap.put (some b) p,next:=st.next }
@[simp] theorem An(st:St)(p:Pos)(b:AB):(ei st p b).next=st.next:=id rfl
@[simp] theorem uo(st:St)(p:Pos)(b:AB):(ei st p b).heap.get p=some b:=T.dJ _ _ _
theorem bT{st:St}{p q:Pos}{b:AB}(h:p≠q):(ei st p b).heap.get q=st.heap.get q:=T.bk _ h _
@[simp] theorem Ud(st:St)(a b:AB):ei (af st a) st.next b=af st b:=by
  unfold ei af;simp only[T.Am]
theorem Pos.Nh(p:Pos):p≠p.succ:=λe=>by have:=congrArg Pos.toNat e;rw[Pos.ay]at this;omega
theorem jf{R:Type}(c:ah)(K:AV->St->Option R)(st:St)(m:Nat)(p:Pos)(o:Nat)(v:AV)(cs:List AV)(h:st.heap.get p=some (.cells cs 0))(h1:v.cells.length=m)(h2:o+m<=cs.length)(h3:aQ v.cells=true):
  ai c (.store m) [.ptr p o,v] st K=K .undef (ei st p (.cells (aI cs o v.cells) 0)):=by
 have:au.run (λb=>st.heap.get b) st.next (.store m) [.ptr p o,v]=some (.aC .undef none (some (p,.cells (aI cs o v.cells) 0)) none):=by
  simp[au.run,zQ,h,h1,h2,h3,dR,dZ]
 unfold ai bQ;rw[this];rfl
@[simp] theorem iz{R:Type}(c:ah)(K:AV->St->Option R)(st:St)(m:Nat)(v:AV)(cs:List AV)(h1:v.cells.length=m)(h2:m=cs.length)(h3:aQ v.cells=true):
   ai c (.store m) [.ptr st.next 0,v] (af st (.cells cs 0)) K=K .undef (af st (.cells v.cells 0)):=by
  rw[jf c K _ m st.next 0 v cs (aE _ _) h1 (by omega) h3,Ud];have:aI cs 0 v.cells=v.cells:=by unfold aI;rw[h1,h2];simp
  rw[this]
theorem acj{R:Type}(n:Option Nat)(p:Pos)(o:Nat)(st:St)(K:AV->Option R):ldr n (.ptr p o) st K=match n with
  |none=>tL ((cellsOf (st.heap.get p)).bind λcs=>cs[o]?) K
  |some m=>yB ((cellsOf (st.heap.get p)).bind λcs=>cut cs o m) λl=>K (.agg l):=by
 unfold ldr;cases n with
 |none=>rw[kV];simp only;cases((cellsOf (st.heap.get p)).bind λcs=>cs[o]?)<;>rfl
 |some m=>rw[xH];simp only;cases((cellsOf (st.heap.get p)).bind λcs=>cut cs o m)<;>rfl
@[simp] theorem acZ{R:Type}(m:Nat)(p:Pos)(o:Nat)(st:St)(K:AV->Option R):ldr (some m) (.ptr p o) st K=yB ((cellsOf (st.heap.get p)).bind λcs=>cut cs o m) λl=>K (.agg l):=acj (some m) p o st K
@[simp] theorem WZ(es:Nat)(z:Bool)(rs:List (List AV)):(ro es z rs).one=true:=by unfold ro;split<;>rfl
@[simp] theorem Rn(es:Nat)(z:Bool)(rs:List (List AV)):(ro es z rs).cells=[ro es z rs]:=by unfold ro;split<;>rfl
structure Grew(s s':St):Prop where
 wf:Wf s'
 keeps:aV s s'
 next:s.next.toNat<=s'.next.toNat
theorem Grew.refl{s:St}(h:Wf s):Grew s s:=⟨h,aV.refl s,H5 _⟩
theorem Grew.trans{a b c:St}(h:Grew a b)(k:Grew b c):Grew a c:=⟨k.wf,h.keeps.trans k.keeps,Zc1 h.next k.next⟩
theorem Grew.af{s:St}(h:Wf s)(b:AB):Grew s (af s b):=⟨bt h,aZ h,by rw[cX,Pos.ay];omega⟩
theorem Grew.get{s s':St}(h:Grew s s'){p:Pos}{x:AB}(hp:s.heap.get p=some x):s'.heap.get p=some x:=h.keeps p x hp
end Go.Ai
end
namespace Go.Ai
section
open Go
theorem DC{st:St}{p:Pos}{b:AB}(h:Wf st)(hp:p.toNat<st.next.toNat):Wf (ei st p b):=λq x hq=>by
 rw[An];by_cases e:p=q
 .subst e;exact hp
 .rw[bT e]at hq;exact h q x hq
def dst(st:St)(p:Pos)(b:AB):St:={ heap:=(st.heap.put none p).put (some b) st.next,next:=st.next.succ }
theorem YL(st:St)(p:Pos)(b:AB):(dst st p b).next=st.next.succ:=id rfl
theorem Ni(st:St)(p:Pos)(b:AB):(dst st p b).heap.get st.next=some b:=T.dJ _ _ _
theorem L9{st:St}{p q:Pos}{b:AB}(h:p≠q)(h2:q.toNat<st.next.toNat):(dst st p b).heap.get q=st.heap.get q:=by
 rw[dst,T.bk _ (by intro e;subst e;omega),T.bk _ h]
theorem W0{st:St}{p:Pos}{b:AB}(h:Wf st):Wf (dst st p b):=λq x hq=>by
 rw[YL,Pos.ay];by_cases e:st.next=q
 .subst e;omega
 . rw[dst,T.bk _ e]at hq;by_cases e2:p=q
   .subst e2;rw[T.dJ]at hq;cases hq
   .rw[T.bk _ e2]at hq;have:=h q x hq;omega
theorem Ue{s s':St}{v:AV}{b:Pos}{x:AB}(h:s.heap.get b=some x)(h2:s'.heap.get b≠some x):tidy s (v,s')=(v,s'):=by
 unfold tidy;rw[Za4];exact λe=>h2 (e.2 b x h)
section
variable{R:Type}(c:ah)(K:AV->St->Option R)(K1:AV->Option R)
theorem Ma(H:Pos->Option AB)(n:Pos)(es len:Nat)(z:List AV)(ps:List Nat)(xs:List AV):au.run H n (.buildSlice es len z ps) xs=(bP (bD z len) (ps.map λi=>(i*es,es)) xs).map λcs=>.aC (.slice n 0 len (some len) es) none none (some (.cells cs 0)):=by simp only[au.run,ow];cases bP (bD z len) (ps.map λi=>(i*es,es)) xs<;>rfl
@[simp] theorem cM(st:St)(es len:Nat)(z:List AV)(ps:List Nat)(xs:List AV):ai c (.buildSlice es len z ps) xs st K=yB (bP (bD z len) (ps.map λi=>(i*es,es)) xs) λcs=>K (.slice st.next 0 len (some len) es) (af st (.cells cs 0)):=by unfold ai bQ;rw[Ma];cases bP (bD z len) (ps.map λi=>(i*es,es)) xs<;>rfl
@[simp] theorem ack(st:St)(es len:Nat)(z:List AV)(ps:List Nat)(xs:List AV)(K2:AV->AB->Option R):OH (.buildSlice es len z ps) xs st K2=yB (bP (bD z len) (ps.map λi=>(i*es,es)) xs) λcs=>K2 (.slice st.next 0 len (some len) es) (.cells cs 0):=by unfold OH;rw[Ma];cases bP (bD z len) (ps.map λi=>(i*es,es)) xs<;>rfl
@[simp] theorem W2(st:St):ai c .mkMap [] st K=K (.map st.next) (af st (.map [] 0)):=id rfl
theorem Ro{st:St}{es bytes m:Nat}{x:AV}{new:List AV}(hm:cI x=some m)(h0:m≠0)(hb:(2*(0+m)+768)*bytes<=281474976710656)(hs:0+m<=9223372036854775807)(hx:bS es m (λb=>st.heap.get b) x=some new):
  ai c (.append es bytes) [.ax,x] st K=K (.slice st.next 0 m none es) (af st (.cells new 0)):=by
 have:au.run (λb=>st.heap.get b) st.next (.append es bytes) [.ax,x]=some (.aC (.slice st.next 0 m none es) none none (some (.cells new 0))):=by
  simp only[au.run,eI];rw[show cI .ax=some 0 from rfl,hm];simp only[dZ,dR,Za3 hb,Za3 hs,Za5 h0,hx]
 unfold ai bQ;rw[this];rfl
theorem aaC{st:St}{es bytes m n:Nat}{p:Pos}{x:AV}{cs cT new:List AV}(hm:cI x=some m)(h0:m≠0)(hb:(2*(n+m)+768)*bytes<=281474976710656)(hs:n+m<=9223372036854775807)(hp:st.heap.get p=some (.cells cs 0))
  (ho:bS es n (λb=>st.heap.get b) (.slice p 0 n none es)=some cT) (hx:bS es m (λb=>st.heap.get b) x=some new) (h1:aQ new=true):
  ai c (.append es bytes) [.slice p 0 n none es,x] st K=K (.slice st.next 0 (n+m) none es) (dst st p (.cells (cT++new) 0)):=by
 have:au.run (λb=>st.heap.get b) st.next (.append es bytes) [.slice p 0 n none es,x]=some (.aC (.slice st.next 0 (n+m) none es) (some p) none (some (.cells (cT++new) 0))):=by simp only[au.run,eI];rw[show cI (.slice p 0 n none es)=some n from rfl,hm];simp only[dZ,dR,Za3 hb,Za3 hs,Za5 h0,hx,hp,ho,h1];simp
 unfold ai bQ;rw[this];rfl
theorem W3{st:St}{es bytes m:Nat}{p:Pos}{x:AV}{new:List AV}(hm:cI x=some m)(h0:m≠0)(hb:(2*(0+m)+768)*bytes<=281474976710656)(hs:0+m<=9223372036854775807)(hx:bS es m (λb=>st.heap.get b) x=some new):
  ai c (.append es bytes) [.slice p 0 0 (some 0) es,x] st K=K (.slice st.next 0 m none es) (af st (.cells new 0)):=by
 have:au.run (λb=>st.heap.get b) st.next (.append es bytes) [.slice p 0 0 (some 0) es,x]=some (.aC (.slice st.next 0 m none es) none none (some (.cells new 0))):=by
  have h2:¬(0+m<=0):=by omega
  have ho:bS es 0 (λb=>st.heap.get b) (.slice p 0 0 (some 0) es)=some []:=by simp[bS]
  simp only[au.run,eI];rw[show cI (.slice p 0 0 (some 0) es)=some 0 from rfl,hm];simp only[dZ,dR,Za3 hb,Za3 hs,Za5 h0,Za5 h2,hx,ho];simp only[Zc8,Zg5]
 unfold ai bQ;rw[this];rfl
theorem Rp{st:St}{es bytes:Nat}{p:Pos}{off n:Nat}{cp:Option Nat}{x:AV}(hm:cI x=some 0)(hb:(2*(n+0)+768)*bytes<=281474976710656)(hs:n+0<=9223372036854775807):
  ai c (.append es bytes) [.slice p off n cp es,x] st K=K (.slice p off n cp es) st:=by
 have:au.run (λb=>st.heap.get b) st.next (.append es bytes) [.slice p off n cp es,x]=some (.val (.slice p off n cp es)):=by
  simp only[au.run,eI];rw[show cI (.slice p off n cp es)=some n from rfl,hm];simp only[dZ,dR,Za3 hb,Za3 hs]
 unfold ai bQ;rw[this]
theorem OK(H:Pos->Option AB)(n:Pos)(z:AV)(m:Pos)(es:List (AV×AV×Nat))(cl:Nat)(k:AV)(h:H m=some (.map es cl))(r:Option (Nat×AV))(hf:gX .s k es 0=some r):
  au.run H n (.lookup .s z true) [.map m,k]=some (.val (match r with|some (_,v)=>.tuple [v,.bool true]|none=>.tuple [z,.bool false])):=by
 simp only[au.run,tY,h,hf];cases r with
 |none=>rfl
 |some p=>rfl
theorem BX(z:AV){st:St}{m:Pos}{es:List (AV×AV×Nat)}{cl:Nat}{k:AV}{r:Option (Nat×AV)}(h:st.heap.get m=some (.map es cl))(hf:gX .s k es 0=some r):
  ai c (.lookup .s z true) [.map m,k] st K=K (match r with|some (_,v)=>.tuple [v,.bool true]|none=>.tuple [z,.bool false]) st:=by
 unfold ai bQ;rw[OK _ _ z m es cl k h r hf]
theorem OM(z:AV){h:T AB}{m:Pos}{es:List (AV×AV×Nat)}{cl:Nat}{k:AV}{r:Option (Nat×AV)}(hh:h.get m=some (.map es cl))(hf:gX .s k es 0=some r):
  lX (.lookup .s z true) [.map m,k] h (λ_=>true) K1=K1 (match r with|some (_,v)=>.tuple [v,.bool true]|none=>.tuple [z,.bool false]):=by
 unfold lX;have e:au.run (λ_=>none) .h (.lookup .s z true) [.map m,k]=none:=rfl;rw[e];simp only;rw[OK _ _ z m es cl k hh r hf]
theorem Tc{st:St}{m:Pos}{es:List (AV×AV×Nat)}{cl:Nat}{k:List Nat}{v:AV}(h:st.heap.get m=some (.map es cl))(hf:gX .s (.str k) es 0=some none):
  ai c (.mapSet .s) [.map m,.str k,v] st K=K .undef (ei st m (.map (es++[(.str k,v,cl)]) (cl+1))):=by
 have:au.run (λb=>st.heap.get b) st.next (.mapSet .s) [.map m,.str k,v]=some (.aC .undef none (some (m,.map (es++[(.str k,v,cl)]) (cl+1))) none):=by
  simp[au.run,tZ,h,hf,UL]
 unfold ai bQ;rw[this];rfl
theorem aaD{p:Pos}{o:Nat}{h h2:T AB}{v:AV}(hv:((cellsOf (h.get p)).bind λcs=>cs[o]?)=some v)(Hj:((cellsOf (h2.get p)).bind λcs=>cs[o]?)=some v)(hb:fj v v=true):
  lX (.load none) [.ptr p o] h (λv=>mj (.load none) [.ptr p o] v (u5 [] h2)&&true) K1=K1 v:=by
 unfold lX;have e:au.run (λ_=>none) .h (.load none) [.ptr p o]=none:=rfl;rw[e];simp only;rw[kV,hv];simp only[Zd6];have:mj (.load none) [.ptr p o] v (u5 [] h2)=true:=by unfold mj;show(match au.run (λb=>h2.get b) .h (.load none) [.ptr p o]with|some (.val u)=>fj u v|_=>false)=true;rw[kV,Hj];exact hb
 rw[this];rfl
end
theorem Ao{R:Type}(K1:AV->Option R){p:Pos}{o:Nat}{h h2:T AB}{v:AV}(hv:((cellsOf (h.get p)).bind λcs=>cs[o]?)=some v)(Hj:((cellsOf (h2.get p)).bind λcs=>cs[o]?)=some v)(hb:fj v v=true):
  lX (.load none) [.ptr p o] h (λv=>mj (.load none) [.ptr p o] v (u5 [] h2)) K1=K1 v:=by
 have:=aaD K1 hv Hj hb;simp only[Zi8]at this;exact this
theorem HN(p:Pos)(o n es:Nat):fj (.slice p o n none es) (.slice p o n none es)=true:=by
 simp[fj,w6,jq,Pos.beq_eq.2 rfl]
theorem KL:fj .ax .ax=true:=rfl
inductive dK:Nat->AV->Prop
 |flat {d:Nat} {v:AV} (h:jq v v=true):dK d v
 |fl {d:Nat} {a:List (List AV)} {n:Nat} (h:∀r∈a,∀v∈r,dK d v):dK (d+1) (.fl a n)
theorem Mb{f:AV->AV->Bool}:∀{a:List AV},(∀v∈a,f v v=true)->BE f a a=true
 |[],_=>rfl
 |a::x,h=>by
  simp only[BE,h a (by simp),Mb (λv hv=>h v (Za1 _ hv)),Zi9]
theorem HO{f:AV->AV->Bool}:∀{a:List (List AV)},(∀r∈a,∀v∈r,f v v=true)->ud f a a=true
 |[],_=>rfl
 |a::x,h=>by
  simp only[ud,Mb (h a (by simp)),HO (λv hv=>h v (Za1 _ hv)),Zi9]
theorem Mc:∀{d:Nat}{v:AV},dK d v->BF d v v=true
 |d,v,.flat h=>by
  unfold BF;split
  .simp[jq]at h
  .exact h
 |d+1,.fl a n,.fl h=>by
  unfold BF;simp[HO (λr hr v hv=>Mc (h r hr v hv))]
theorem dK.ro{d es:Nat}{z:Bool}{rs:List (List AV)}(h:∀r∈rs,∀v∈r,dK d v):dK (d+1) (ro es z rs):=by
 unfold Go.Ai.ro;split
 .exact .flat rfl
 .exact .fl h
theorem uq{v:AV}(h:dK 3 v):fj v v=true:=by
 have h3:=Mc h;cases h with
 |flat h=>
  cases v<;>simp[jq]at h<;>first|simp[fj,w6,jq,h]|skip
  all_goals simp_all [fj,w6,jq]
 |fl h=>exact h3
theorem dK.int{d:Nat}(k:IntKind)(n:Int):dK d (.int k n):= .flat (by simp[jq,jU,cB])
theorem dK.str{d:Nat}(s:List Nat):dK d (.str s):= .flat (by simp[jq,kS])
theorem dK.bool{d:Nat}(s:Bool):dK d (.bool s):= .flat (by simp[jq])
end
section
open Go
section
variable{H:Type}(enc:TypeId×Value->H)(P:Program)(w:World)(base:Nat)(spare:Nat->Bool)(held:Bool)
def tA(t:TypeId)(Q:List AV->Prop):Prop:=
 ∀  (fuel:Nat)(cs:List Value)(x:DataW H×List MemPlace),DataW.trod enc P w base spare held fuel t cs=some x->
    ∃as,Q as/\∀ρ n,ak ρ n (λad=>w.cell? ad) as cs
variable{enc P w base spare held}
theorem tA.mono{t:TypeId}{Q Q':List AV->Prop}(h:tA enc P w base spare held t Q)(k:∀as,Q as->Q' as):tA enc P w base spare held t Q':=
 λfuel cs x hx=>by obtain⟨as,h1,h2⟩:=h fuel cs x hx;exact⟨as,k _ h1,h2⟩
theorem BZ{t:TypeId}{k:IntKind}(ht:P.underlying t=some (.int k)):tA enc P w base spare held t λas=>∃i,as=[.int k i]/\(Lit.int k i).wf=true:=
 fun fuel cs x hx=>by
  obtain⟨n,rfl,h⟩:=DataW.trod_int ht hx;exact⟨_,⟨n,rfl,h.2⟩,λρ m=>ak.cons (.int k n) ak.nil⟩
theorem Vi{t:TypeId}(ht:P.underlying t=some .bool):tA enc P w base spare held t λas=>∃b,as=[.bool b]:=
 fun fuel cs x hx=>by
  obtain⟨b,rfl,h⟩:=DataW.trod_bool ht hx;exact⟨_,⟨b,rfl⟩,λρ m=>ak.cons (.bool b) ak.nil⟩
theorem W4{t:TypeId}(ht:P.underlying t=some .string):tA enc P w base spare held t λas=>∃s,as=[.str s]/\s.length<=maxLen/\∀x∈s,x<256:=
 fun fuel cs x hx=>by
  obtain⟨s,rfl,h⟩:=DataW.trod_string ht hx;refine⟨_,⟨s.data.toList.map UInt8.toNat,rfl,?_,?_⟩,λρ m=>ak.cons (.str _ s rfl) ak.nil⟩
  .simp;exact h.2
  .intro x hx;simp only[Zf1]at hx;obtain⟨y,_,rfl⟩:=hx;exact y.toNat_lt
def Ap:List (List AV->Prop)->List (List AV)->Prop
 |[],[]=>True
 |Q::Qs,p::ps=>Q p/\Ap Qs ps
 |_,_=>False
def vB(P:Program)(ON:Nat):Nat->List Field->Bool
 |o,[]=>o==ON
 |o,f::fs=>f.offset==o&&vB P ON (o+P.cellsOf f.type) fs
def Rq(enc:TypeId×Value->H)(P:Program)(w:World)(base:Nat)(spare:Nat->Bool)(held:Bool):List TypeId->List (List AV->Prop)->Prop
 |[],[]=>True
 |f::fs,Q::Qs=>tA enc P w base spare held f Q/\Rq enc P w base spare held fs Qs
 |_,_=>False
theorem HP{ON n:Nat}:∀(fs:List Field)(Qs:List (List AV->Prop))(o:Nat)(cs:List Value),vB P ON o fs=true->Rq enc P w base spare held (fs.map (·.type)) Qs->cs.length=ON->
  (∀f∈fs,∃y,DataW.trod enc P w base spare held n f.type ((cs.drop f.offset).take (P.cellsOf f.type))=some y)->
  ∃parts,Ap Qs parts/\∀ρ m,ak ρ m (λad=>w.cell? ad) parts.flatten (cs.drop o)
 |[],[],o,cs,hc,_,hl,_=>by simp only[vB,Zn8]at hc;refine⟨[],trivial,λρ m=> ?_⟩;rw[Zl3 (by omega)];exact ak.nil
 |f::fs,Q::Qs,o,cs,hc,hO,hl,hf=>by
  simp only[vB,Za2,Zn8]at hc;obtain⟨y,hy⟩:=hf f (by simp);obtain⟨as,hq,hv⟩:=hO.1 n _ y hy;obtain⟨parts,hp,Hj⟩:=HP fs Qs _ cs hc.2 hO.2 hl (λg hg=>hf g (Za1 _ hg));refine⟨as::parts,⟨hq,hp⟩,λρ m=> ?_⟩;have e:cs.drop o=(cs.drop f.offset).take (P.cellsOf f.type)++cs.drop (o+P.cellsOf f.type):=by
   rw[hc.1, <-Zl2,Zj7]
  rw[e,Zf6];exact(hv ρ m).append (Hj ρ m)
def fieldsOf(P:Program)(t:TypeId):List Field:=match P.underlying t with
 |some (.struct fs)=>fs.toList
 |_=>[]
def Fl(P:Program)(t:TypeId):Bool:=match P.underlying t with
 |some (.struct _)=>true
 |_=>false
theorem HQ{t:TypeId}(ts:List TypeId){Qs:List (List AV->Prop)}(hs:Fl P t=true)(cK:(fieldsOf P t).map (·.type)=ts)(hc:vB P (P.cellsOf t) 0 (fieldsOf P t)=true)(hO:Rq enc P w base spare held ts Qs):
  tA enc P w base spare held t λas=>∃parts,as=parts.flatten/\Ap Qs parts:=
 fun fuel cs x hx=>by
  obtain⟨fs,ht⟩:∃fs,P.underlying t=some (.struct fs):=by
     unfold Fl at hs;cases h:P.underlying t with
     |none=>rw[h]at hs;cases hs
     |some d=>rw[h]at hs;cases d<;>first|exact⟨_,rfl⟩|cases hs
  have ef:fieldsOf P t=fs.toList:=by unfold fieldsOf;rw[ht]
  rw[ef]at cK hc;subst cK;obtain⟨xs,n,_,_,hl,hxl,hf⟩:=DataW.trod_struct ht hx;obtain⟨parts,hp,hv⟩:=HP fs.toList Qs 0 cs hc hO hl (λf hf2=>by
     obtain⟨i,hi⟩:=List.getElem?_of_mem hf2;have wS:fs[i]? =some f:=(by rw[<-Ze9];exact hi);have aW:i<fs.size:=(Zb6.1 wS).1;exact⟨xs[i],by rw[hf i f wS,H1 (by omega)]⟩)
  exact⟨_,⟨parts,rfl,hp⟩,λρ m=>hv ρ m⟩
end
def P8(w w':World):Prop:=w'.os=w.os/\w'.tape=w.tape/\w'.output=w.output/\w.heap.size<=w'.heap.size/\∀k,k<w.heap.size->w'.heap[k]? =w.heap[k]?
def Jl:List AV->St->Option (AV×St)
 |[],st=>some (.bool true,st)
 |_,_=>none
theorem N6{P:Program}{C:Cells}{f:FuncId}{fn:Func}{c:Code}(hf:P.funcs[f]? =some fn)(gj:¬fn.name= "runtime.NumGoroutine")(hb:fn.body=some c)
  (h:∀w:World,(∀ad u,C ad=some u->w.cell? ad=some u)->Calls P f #[] w λe w'=>e= .returned (.bool true)/\P8 w w'):kf P C f Jl where
 mono args st v st' hs:=by
  unfold Jl at hs;split at hs<;>first|(cases hs;done)|skip
  simp only[H0,Za8]at hs;rw[<-hs.2];exact H5 _
 runs ρ st w args v st' br hs hW hv:=by
  unfold Jl at hs;split at hs<;>first|(cases hs;done)|skip
  simp only[H0,Za8]at hs;obtain⟨rfl,rfl⟩:=hs;obtain rfl:=hv.kK;have bL:(callFunc f ([]:List Value).toArray).run P w= .ok (.enter f #[]) w:=by simp[callFunc,hf,gj,hb]
  rw[bL];refine Calls.mono (h w λad u ha=>(hW.cL ad u ha).1) λe w' he=> ?_
  obtain⟨rfl,h1,h2,h3,h4,h5⟩:=he;exact⟨ρ,.bool true,λ_ _=>rfl,H5 _,hW.grow h4 h5,⟨h1,h2,h3,h4,λk hk _=>h5 k hk,λb x hb=>.inl ⟨b,x,hb,rfl⟩⟩⟩
theorem X1{P:Program}{C:Cells}{call:ah}{f:FuncId}{fn:Func}{c:Code}{args:List AV}{br:List Value}{b:Bool}{n0:Pos}{aJ:St}{w:World}
  (cJ:dS P C call) (hC:∀ad v,C ad=some v->w.cell? ad=some v) (WJ:∀a v,C a=some v->∀o,C ⟨a.block,o,none⟩=none->w.cell? ⟨a.block,o,none⟩=none) (hf:P.funcs[f]? =some fn) (gj:¬fn.name= "runtime.NumGoroutine") (hb:fn.body=some c)
  (ha:ak (λ_=>⟨0,0,0⟩) n0.toNat C args br) (h:call f args { heap:= .e,next:=n0 }=some (.bool b,aJ)):
  Calls P f br.toArray w λe w'=>e= .returned (.bool b)/\P8 w w':=by
 have hr:=cJ (λ_=>⟨0,0,0⟩) { heap:= .e,next:=n0 } w f args (.bool b) aJ br h (xR hC WJ) ha;have bL:(callFunc f br.toArray).run P w= .ok (.enter f br.toArray) w:=by simp[callFunc,hf,gj,hb]
 rw[bL]at hr;refine Calls.mono hr λe w' he=> ?_
 cases e with
 |returned x=>
  obtain⟨ρ',h1,_,_,_,hE⟩:=he;have:=h1.fo;subst this;exact⟨rfl,hE.os,hE.tape,hE.output,hE.size,λk hk=>hE.block k hk λb x hb=>by rw[T.cR]at hb;cases hb⟩
 |panicked c=>exact he.elim
 |outgrown=>exact he.elim
end
section
open Go Go.ChangeShapes Go.WideShapes Go.ChangeAt Go.RowKit
theorem P8.below{w w':World}(h:P8 w w'):Below w.heap.size w w':=⟨h.1,h.2.1,h.2.2.1,h.2.2.2.1,h.2.2.2.2⟩
section
variable{H:Type}{enc:TypeId×Value->H}{P:Program}
theorem Gu{W W':World}(hl:laidOutB P=true)(hb:Below W.heap.size W W'):∀{ts:List TypeId}{vs:List Value}{ds:List (DataW H)}{p:List MemPlace},
  DataW.TrodAll enc P W 0 (λ_=>true) true ts vs ds p->(∀t∈ts,P.readableRec t=true/\t<P.types.size)->(∀x∈p,x.block<W.heap.size)->
  DataW.TrodAll enc P W' 0 (λb=>decide (b<W.heap.size)) true ts vs ds p
 |[],_,_,_,h,_,_=>by obtain⟨rfl,rfl,rfl⟩:=trodAll_nil h;exact trodAll_mk0
 |t::ts,_,_,_,h,hr,hx=>by
  obtain⟨v,ZK,d,ds1,a,b,rfl,rfl,rfl,h1,h2⟩:=trodAll_cons h
  exact trodAll_cons_mk (Below.trod hl (hr t (by simp)).1 (hr t (by simp)).2 h1 hb (λx TD=>hx x (Zh8 _ TD)))
   (Gu hl hb h2 (λt ht=>hr t (Za1 _ ht)) (λx TD=>hx x (Zh4 _ TD)))
theorem VR{f:Func}{s:ChangeSpec}{W W':World}{args:Array Value}{ds gs:List (DataW H)}{before:List MemPlace}{tb:TypeId}(hl:laidOutB P=true)
   (hW:DataW.Whole enc P f.params.toList s.vars false W args.toList ds gs before) (hv:s.vars=[]) (yR:s.fn H (ds++gs)={ results:=[.lit (.bool true)],args:=ds })
   (hr:∀t∈f.params.toList,P.readableRec t=true/\t<P.types.size) (hB:Below W.heap.size W W') (YM:f.resultTypes= #[tb]) (htb:P.underlying tb=some .bool):
   s.post enc P f false true false false W args (.bool true) W':=by
 have aW:=hW.lt;have dG:=hW;obtain⟨p,q,hA,hV,rfl,VQ,Gj⟩:=hW;have hq:q=[]:=by
   rw[hv]at hV;cases gs with
   |nil=>exact hV
   |cons g gs=>exact hV.elim
 subst hq;refine⟨ds,gs,p++[],[],p,[],dG,?_,?_,?_,hB.frame _,λh=>by cases h⟩
 .rw[yR,YM];exact trodAll_cons_mk (shut_bool htb _) trodAll_mk0
 .rw[yR];exact Gu hl hB hA hr (λx hx=>aW x (Zh8 _ hx))
 .rw[yR,hv];rfl
end
section
variable{H:Type}{enc:TypeId×Value->H}{P:Program}{w:World}{base:Nat}{spare:Nat->Bool}{held:Bool}
end
end
section
open Go
theorem aj.acm{ρ:Pos->Loc}{n:Nat}{C C':Cells}{v:AV}{x:Value}(hC:∀ad u,C ad=some u->C' ad=some u)(h:aj ρ n C v x):aj ρ n C' v x:=by
 induction h with
 |bool b=>exact .bool b
 |int k i=>exact .int k i
 |str s bs h=>exact .str s bs h
 |fU=>exact .fU
 |ptr b off h=>exact .ptr b off h
 |fp xs i j es aq base cell hl hc _ ih=>exact .fp xs i j es aq base cell hl (λi j cs v h1 h2=>hC _ _ (hc i j cs v h1 h2)) ih
 |ax=>exact .ax
 |slice b off len cap es aF a hl hc ha hk=>exact .slice b off len cap es aF a hl hc ha hk
 |fl xs es aF a cell hl hs cU hc _ ih=>exact .fl xs es aF a cell hl hs cU (λi j cs v h1 h2=>hC _ _ (hc i j cs v h1 h2)) ih
 |l9=>exact .l9
 |map b h=>exact .map b h
 |func f x y x' y' hx hy _ _ V8 V9=>exact .func f x y x' y' hx hy V8 V9
 |gV=>exact .gV
 |tE=>exact .tE
 |iface t v x _ ih=>exact .iface t v x ih
 |agg l cs hl _ ih=>exact .agg l cs hl ih
 |tuple l cs hl _ ih=>exact .tuple l cs hl ih
def ia(ρ:Pos->Loc)(n:Nat)(C:Cells)(w:World)(v u:AV):Prop:=∀x,aj ρ n C v x->aj ρ n (λad=>w.cell? ad) u x
section
variable{ρ:Pos->Loc}{C:Cells}{st:St}{w:World}
theorem ia.self{n:Nat}(hC:∀ad u,C ad=some u->w.cell? ad=some u)(v:AV):ia ρ n C w v v:=λ_ h=>h.acm hC
theorem ia.agg{n:Nat}{l l':List AV}(hl:l.length=l'.length)(h:∀(i:Nat)(v u:AV),l[i]? =some v->l'[i]? =some u->ia ρ n C w v u):ia ρ n C w (.agg l) (.agg l'):=λx hx=>by
 cases hx with
 |agg _ cs h1 h2=>
  refine .agg l' cs (by omega) λi u x hu hx=> ?_
  have hi:i<l.length:=by rw[hl];exact(H3.1 hu).1
  exact h i l[i] u (H1 hi) hu _ (h2 i _ x (H1 hi) hx)
theorem ia.slice(hW:aM ρ C st w){b:Pos}{off len es fz:Nat}{cap:Option Nat}{cs:List AV}(hb:st.heap.get b=some (.cells cs fz))(hlen:off+len*es<=cs.length){F:List (List AV)}(hF:F.length=len)
  (cU:∀(i:Nat)(r:List AV),F[i]? =some r->r.length=es)
  (hr:∀(i j:Nat)(r:List AV)(u v:AV),F[i]? =some r->r[j]? =some u->cs[off+i*es+j]? =some v->ia ρ st.next.toNat C w v u):
  ia ρ st.next.toNat C w (.slice b off len cap es) (.fl F es):=λx hx=>by
 cases hx with
 |slice  _ _ _ _ _ aF a hl hc ha hk=>
  have get:∀(i j:Nat)(r:List AV)(u:AV),F[i]? =some r->r[j]? =some u->i<len/\j<es/\off+i*es+j<cs.length/\0<aF:=λi j r u h1 h2=>by
   have g1:i<len:=(by rw[<-hF];exact(H3.1 h1).1);have g2:j<es:=(by rw[<-cU i r h1];exact(H3.1 h2).1);have g3:(i+1)*es<=len*es:=Zg7 _ g1;rw[Zi6]at g3;exact⟨g1,g2,by omega,by omega⟩
  have cell:∀(i j:Nat)(r:List AV)(u:AV),F[i]? =some r->r[j]? =some u->∃v y,cs[off+i*es+j]? =some v/\w.cell? ⟨a.block,a.off+i*es+j,none⟩=some y/\aj ρ st.next.toNat C v y:=λi j r u h1 h2=>by
   obtain⟨g1,g2,g3,g4⟩:=get i j r u h1 h2;obtain⟨_,rfl,_⟩:=ha (by omega);have hv:=H1 g3;obtain⟨y,q1,q2⟩:=hW.cell hb hv;exact⟨_,y,hv,by rw[show(ρ b).base+off+i*es+j=(ρ b).base+(off+i*es+j)by omega];exact q1,q2⟩
  have key:aj ρ st.next.toNat (λad=>w.cell? ad) (.fl F es) (.slice (some a) F.length aF):=by
   refine .fl F es aF a (λi j=>(w.cell? ⟨a.block,a.off+i*es+j,none⟩).getD .nilFunc) (by omega) (λh0=> ?_) cU (λi j r u h1 h2=> ?_) (λi j r u h1 h2=> ?_)
   .    cases acn:len with
        |zero=>exfalso;apply h0;rw[acn]at hF;exact List.length_eq_zero_iff.1 hF
        |succ m=>
         obtain⟨_,rfl,_⟩:=ha (by omega);rfl
   .    obtain⟨v,y,_,q2,_⟩:=cell i j r u h1 h2;show w.cell? _=_;rw[q2];rfl
   .    obtain⟨v,y,q1,q2,q3⟩:=cell i j r u h1 h2;rw[q2];exact hr i j r u v h1 h2 q1 y q3
  rw[hF]at key;exact key
end
def cu (st:St):Nat->AV->AV
 |0,v=>v
 |  d+  1,.slice b off len cap es=>match decide (len=0)with
    |true=>.fl [] es
    |false=>match st.heap.get b with
     |  some (.cells cs _)=>match decide (off+len*es<=cs.length)with
        |true=>.fl ((List.range len).map λi=>((cs.drop (off+i*es)).take es).map (cu st d)) es
        |false=>.slice b off len cap es
     |_=>.slice b off len cap es
 |  d+1,.ptr b off=>match st.heap.get b with
    |some (.cells cs _)=>.fp [cs.map (cu st d)] 0 off
    |_=>.ptr b off
 |d+1,.agg l=>.agg (l.map (cu st d))
 |d+1,.func f x y=>.func f (x.map (cu st d)) (y.map (cu st d))
 |_,v=>v
theorem OO(st:St)(d:Nat)(b:Pos)(off len:Nat)(cap:Option Nat)(es:Nat):cu st (d+1) (.slice b off len cap es)=match decide (len=0)with
 |true=>.fl [] es
 |false=>match st.heap.get b with
  |     some (.cells cs _)=>match decide (off+len*es<=cs.length)with
        |true=>.fl ((List.range len).map λi=>((cs.drop (off+i*es)).take es).map (cu st d)) es
        |false=>.slice b off len cap es
  |_=>.slice b off len cap es:=rfl
theorem aaE(st:St)(d:Nat)(b:Pos)(off:Nat):cu st (d+1) (.ptr b off)=match st.heap.get b with
 |some (.cells cs _)=>.fp [cs.map (cu st d)] 0 off
 |_=>.ptr b off:=rfl
theorem Nj(st:St)(d:Nat)(l:List AV):cu st (d+1) (.agg l)= .agg (l.map (cu st d)):=rfl
theorem YN(st:St)(d:Nat)(f:FuncId)(x y:List AV):cu st (d+1) (.func f x y)= .func f (x.map (cu st d)) (y.map (cu st d)):=rfl
section
variable{ρ:Pos->Loc}{C:Cells}{st:St}{w:World}
theorem ia.ptr(hW:aM ρ C st w){b:Pos}{off fz:Nat}{cs F:List AV}(hb:st.heap.get b=some (.cells cs fz))(hF:F.length=cs.length)
  (hr:∀(j:Nat)(u v:AV),F[j]? =some u->cs[j]? =some v->ia ρ st.next.toNat C w v u):ia ρ st.next.toNat C w (.ptr b off) (.fp [F] 0 off):=λx hx=>by
 cases hx with
 |ptr   _ _ h=>
  have row:∀(i j:Nat)(r:List AV)(u:AV),[F][i]? =some r->r[j]? =some u->i=0/\∃v y,cs[j]? =some v/\w.cell? ⟨(ρ b).aq,(ρ b).base+j,none⟩=some y/\aj ρ st.next.toNat C v y/\F[j]? =some u:=λi j r u h1 h2=>by
   have hi:i=0:=(by have:=(H3.1 h1).1;simp at this;exact this);subst hi;simp at h1;subst h1;have hj:j<cs.length:=(by rw[<-hF];exact(H3.1 h2).1);obtain⟨y,q1,q2⟩:=hW.cell hb (H1 hj);exact⟨rfl,_,y,H1 hj,q1,q2,h2⟩
  have key:aj ρ st.next.toNat (λad=>w.cell? ad) (.fp [F] 0 off) (.pointer (some ⟨(ρ b).aq,(ρ b).base+0*cs.length+off,none⟩)):=by
   refine .fp [F] 0 off cs.length (ρ b).aq (ρ b).base (λ_ j=>(w.cell? ⟨(ρ b).aq,(ρ b).base+j,none⟩).getD .nilFunc) (λi r h1=> ?_) (λi j r u h1 h2=> ?_) (λi j r u h1 h2=> ?_)
   .    have hi:i=0:=(by have:=(H3.1 h1).1;simp at this;exact this);subst hi;simp at h1;subst h1;exact hF
   .    obtain⟨rfl,v,y,_,q2,_⟩:=row i j r u h1 h2;show w.cell? _=_;rw[show(ρ b).base+0*cs.length+j=(ρ b).base+j by omega,q2];rfl
   .    obtain⟨rfl,v,y,q1,q2,q3,q4⟩:=row i j r u h1 h2;rw[q2];exact hr j u v q4 q1 y q3
  rw[show(ρ b).base+0*cs.length+off=(ρ b).base+off by omega]at key;exact key
theorem ia.cu (hW:aM ρ C st w):∀(d:Nat)(v:AV),ia ρ st.next.toNat C w v (cu st d v)
 |0,v=>ia.self (λad u h=>(hW.cL ad u h).1) v
 |d+    1,v=>   by
  have self:=ia.self (ρ:=ρ) (n:=st.next.toNat) (λad u h=>(hW.cL ad u h).1) v;cases v with
  |slice    b off len cap es=>
   rw[OO];split
   .    rename_i h0;obtain rfl:=Zg2 h0;intro x hx;cases hx with
        | slice _ _ _ _ _ aF a hl hc ha hk=>
          exact .fl [] es aF a (λ_ _=>.nilFunc) (Zk7 _) (λh=>absurd rfl h) (λi c h=>by simp at h) (λi j c v h=>by simp at h) (λi j c v h=>by simp at h)
   split
   .    rename_i cs fz hb;split
        . rename_i hle;have hle:=Zg2 hle;refine ia.slice hW hb hle (by simp) (λi r hi=> ?_) (λi j r u v hi hj hv=> ?_)
          . rw[Zb7]at hi;by_cases h:i<len
            .rw[Zm7 h]at hi;simp only[Zd6,H0]at hi;subst hi;have g3:(i+1)*es<=len*es:=Zg7 _ h;rw[Zi6]at g3;simp;omega
            .rw[Zb1 (by simpa using h)]at hi;cases hi
          . rw[ Zb7]at hi;by_cases h:i<len
            . rw[Zm7 h]at hi;simp only[Zd6,H0]at hi;subst hi;rw[Zb7,Zb0]at hj;split at hj
              .rw[Zc6,hv]at hj;simp only[Zd6,H0]at hj;subst hj;exact ia.cu hW d v
              .cases hj
            .rw[Zb1 (by simpa using h)]at hi;cases hi
        .exact self
   .    exact self
  |ptr b off=>
   rw[aaE];split
   .    rename_i cs fz hb;refine ia.ptr hW hb (by simp) (λj u v hu hv=> ?_);rw[Zb7,hv]at hu;simp only[Zd6,H0]at hu;subst hu;exact ia.cu hW d v
   .    exact self
  |agg l=>
   rw[Nj];refine ia.agg (by simp) (λi v u h1 h2=> ?_);rw[Zb7,h1]at h2;simp only[Zd6,H0]at h2;subst h2;exact ia.cu hW d v
  |func f x y=>
   rw[YN];intro v' hv;cases hv with
   |    func _ _ _ x' y' hx hy h1 h2=>
        have one:∀(l:List AV)(xs:Array Value),(∀(i:Nat)(v:AV)(v':Value),l[i]? =some v->xs[i]? =some v'->aj ρ st.next.toNat C v v')->∀(i:Nat)(v:AV)(v':Value),(l.map (Go.Ai.cu st d))[i]? =some v->xs[i]? =some v'->aj ρ st.next.toNat (λad=>w.cell? ad) v v':=λl xs h i u v' hu hx=>by
          rw[Zb7]at hu;cases hg:l[i]? with
          |none=>rw[hg]at hu;cases hu
          | some v0=>
            rw[hg]at hu;simp only[Zd6,H0]at hu;subst hu;exact ia.cu hW d v0 _ (h i v0 v' hg hx)
        exact .func f _ _ x' y' (by simpa using hx) (by simpa using hy) (one x x' h1) (one y y' h2)
  |_=>exact self
theorem ak.cu(hW:aM ρ C st w)(d:Nat){l:List AV}{xs:List Value}(h:ak ρ st.next.toNat C l xs):ak ρ st.next.toNat (λad=>w.cell? ad) (l.map (Go.Ai.cu st d)) xs:=
 ⟨by rw[<-h.1];simp,λi u x hu hx=>by
  rw[Zb7]at hu;cases hv:l[i]? with
  |none=>rw[hv]at hu;cases hu
  |  some v=>
     rw[hv]at hu;simp only[Zd6,H0]at hu;subst hu;exact ia.cu hW d v _ (h.2 i v x hv hx)⟩
end
def bO(v:AV):Prop:=∀(ρ:Pos->Loc)(n:Nat)(C C':Cells)(x:Value),aj ρ n C v x->aj ρ n C' v x
theorem bO.bool(b:Bool):bO (.bool b):=λ_ _ _ _ _ h=>by cases h;exact .bool b
theorem bO.int(k:IntKind)(i:Int):bO (.int k i):=λ_ _ _ _ _ h=>by cases h;exact .int k i
theorem bO.str(s:List Nat):bO (.str s):=λ_ _ _ _ _ h=>by cases h with|str _ bs h=>exact .str s bs h
theorem bO.ax:bO .ax:=λ_ _ _ _ _ h=>by cases h;exact .ax
theorem bO.slice(b:Pos)(o l:Nat)(c:Option Nat)(es:Nat):bO (.slice b o l c es):=λ_ _ _ _ _ h=>by
 cases h with|slice _ _ _ _ _ aF a h1 h2 h3 h4=>exact .slice b o l c es aF a h1 h2 h3 h4
theorem bO.tuple{l:List AV}(hl:∀v∈l,bO v):bO (.tuple l):=λ_ _ _ _ _ h=>by
 cases h with|tuple _ cs hx h1=>exact .tuple l cs hx λi v x hv hx=>hl v (Zb8 hv) _ _ _ _ _ (h1 i v x hv hx)
theorem bO.agg{l:List AV}(hl:∀v∈l,bO v):bO (.agg l):=λ_ _ _ _ _ h=>by
 cases h with|agg _ cs hx h1=>exact .agg l cs hx λi v x hv hx=>hl v (Zb8 hv) _ _ _ _ _ (h1 i v x hv hx)
def Fm:AB->Prop
 |.cells cs _=>∀v∈cs,bO v
 |.map es _=>∀e∈es,bO e.1/\bO e.2.1
 |.gW _ _=>True
 |.typed _ cs=>∀v∈cs,bO v
theorem Fm.rel{x:AB}(h:Fm x){ρ:Pos->Loc}{n:Nat}{C C':Cells}{L:Loc}{w:World}(k:jQ ρ n C L w x):jQ ρ n C' L w x:=by
 cases x with
 |cells cs fz=>
  obtain⟨c,e,fr,h1,h2,h3,h4,h5⟩:=k;exact⟨c,e,fr,h1,h2,h3,⟨h4.1,λi v x hv hx=>h v (Zb8 hv) _ _ _ _ _ (h4.2 i v x hv hx)⟩,h5⟩
 |map es clock=>
  obtain⟨es',h1,h2,h3⟩:=k;exact⟨es',h1,h2,λi e e' he iT=>let⟨a,b,c⟩:=h3 i e e' he iT;⟨(h e (Zb8 he)).1 _ _ _ _ _ a,(h e (Zb8 he)).2 _ _ _ _ _ b,c⟩⟩
 |gW s pos=>exact k
 |typed t cs=>
  obtain⟨c,fr,h1,h2,h3,h4,h5⟩:=k;exact⟨c,fr,h1,h2,h3,⟨h4.1,λi v x hv hx=>h v (Zb8 hv) _ _ _ _ _ (h4.2 i v x hv hx)⟩,h5⟩
def T.both{α:Type}:T α->T α->T α
 |t,.e=>t
 |.e,t=>t
 |.n l v r,.n l' v' r'=>.n (T.both l l') (v.or v') (T.both r r')
theorem T.W5{α:Type}(t:T α):T.both t .e=t:=by cases t<;>rfl
theorem T.xp{α:Type}:∀(p:Pos)(t t':T α),(T.both t t').get p=(t.get p).or (t'.get p)
 |p,t,.e=>by rw[T.W5,T.cR];simp
 |p,.e,.n l v r=>by rw[T.cR];rfl
 |.h,.n l v r,.n l' v' r'=>rfl
 |.o p,.n l v r,.n l' v' r'=>T.xp p l l'
 |.i p,.n l v r,.n l' v' r'=>T.xp p r r'
def T.keep{α:Type}(P:α->Bool):T α->T α
 |.e=>.e
 |.n l v r=>.n (T.keep P l) (v.filter P) (T.keep P r)
theorem T.Fo{α:Type}(P:α->Bool):∀(p:Pos)(t:T α),(T.keep P t).get p=(t.get p).filter P
 |p,.e=>by rw[T.keep,T.cR];rfl
 |.h,.n l v r=>rfl
 |.o p,.n l v r=>T.Fo P p l
 |.i p,.n l v r=>T.Fo P p r
open Classical in
noncomputable def vC(t:T AB):T AB:=T.keep (λx=>decide (Fm x)) t
theorem OP{t:T AB}{p:Pos}{x:AB}(h:(vC t).get p=some x):t.get p=some x/\Fm x:=by
 unfold vC at h;rw[T.Fo]at h;cases hg:t.get p with
 |none=>rw[hg]at h;cases h
 |some y=>
  rw[hg]at h;simp only[Option.filter]at h;split at h
  .rename_i hb;cases h;exact⟨rfl,@Zg2 _ (Classical.propDecidable _) hb⟩
  .cases h
theorem W6{t:T AB}{p:Pos}{x:AB}(h:t.get p=some x)(hb:Fm x):(vC t).get p=some x:=by
 unfold vC;rw[T.Fo,h];simp[Option.filter,hb]
theorem aaF:vC .e= .e:=rfl
def Shut(n0:Pos)(r:AV×St):Prop:=bO r.1/\n0.toNat<=r.2.next.toNat
open Classical in
noncomputable def Fp(call:ah)(f:FuncId)(d:Nat):List AV->St->Option (AV×St):=λargs st=>
 match call f (args.map (cu st d)) { heap:= .e,next:=st.next }with
 |some (v,aJ)=>if Shut st.next (v,aJ)then some (v,{ heap:=T.both st.heap (vC aJ.heap),next:=aJ.next })else none
 |none=>none
theorem Uf{call:ah}{f:FuncId}{d:Nat}{args:List AV}{st:St}{v:AV}{aJ:St}(h:call f (args.map (cu st d)) { heap:= .e,next:=st.next }=some (v,aJ))(hs:Shut st.next (v,aJ)):
  Fp call f d args st=some (v,{ heap:=T.both st.heap (vC aJ.heap),next:=aJ.next }):=by
 unfold Fp;rw[h];simp only;rw[Za7 hs]
theorem YO{call:ah}{f:FuncId}{d:Nat}{args:List AV}{st:St}{v:AV}(h:call f (args.map (cu st d)) { heap:= .e,next:=st.next }=some (v,{ heap:= .e,next:=st.next }))(hs:bO v):
  Fp call f d args st=some (v,st):=by
 rw[Uf h ⟨hs,H5 _⟩];simp only[aaF,T.W5]
theorem X0 {P :Program}{C:Cells}{f:FuncId}{call:ah}{d:Nat}(bw:∀C':Cells,(∀ad u,C ad=some u->C' ad=some u)->dS P C' call):kf P C f (Fp call f d) where
 mono args st v st' h:=by
  unfold Fp at h;split at h
  . split at h
    .   rename_i hs;simp only[H0,Za8]at h;rw[<-h.2];exact hs.2
    .   cases h
  .cases h
 runs ρ st  w args v st' br h hW hv:=by
  unfold Fp at h;split at h
  . rename_i v1 aJ hc;split at h
    .   rename_i hs;simp only[H0,Za8]at h;obtain⟨rfl,rfl⟩:=h;obtain⟨s1,s3⟩:=hs;have hr:=bw (λad=>w.cell? ad) (λad u ha=>(hW.cL ad u ha).1) ρ { heap:= .e,next:=st.next } w f _ v1 aJ br hc (xR (λad u ha=>ha) λa u _ o ho=>ho) (ak.cu hW d hv);refine Reaches.mono (λx w' he=> ?_) hr
        . obtain⟨ρ',h1,h2,h3,h4,hE⟩:=he;have un:∀k,k<w.heap.size->w'.heap[k]? =w.heap[k]? :=λk hk=>hE.block k hk λb x hb=>by rw[T.cR]at hb;cases hb
          have new:∀b x,aJ.heap.get b=some x->w.heap.size<=(ρ' b).aq:=λb x hx=>by
            rcases hE.kZ b x hx with⟨b',x',gZ,_⟩|hh
            .rw[T.cR]at gZ;cases gZ
            .exact hh
          have both:∀b x,(T.both st.heap (vC aJ.heap)).get b=some x->(st.heap.get b=some x/\ρ' b=ρ b)\/(aJ.heap.get b=some x/\Fm x):=λb x hx=>by
            rw[T.xp]at hx;cases hg:st.heap.get b with
            |none=>rw[hg]at hx;exact .inr (OP (by simpa using hx))
            |some y=>rw[hg]at hx;simp at hx;subst hx;exact .inl ⟨rfl,h2 b (hW.live b y hg).1⟩
          refine⟨ρ',s1 _ _ _ _ _ h1,h2,s3,⟨λb x hx=> ?_,λb b' x x' hx nr Ly=> ?_,λa u ha=> ?_,λa u ha o ho=> ?_⟩,⟨hE.os,hE.tape,hE.output,hE.size,λk hk _=>un k hk,λb x hx=> ?_⟩⟩
          . rcases both b x hx with⟨hg,aL⟩|⟨hg,P9⟩
            .obtain⟨l1,l2,l3⟩:=hW.live b x hg;refine⟨Zb5 l1 s3,by rw[aL];exact Zb5 l2 hE.size,?_⟩;rw[aL];exact(l3.of_heap (un _ l2)).mono h2 s3
            .obtain⟨l1,l2,l3⟩:=h4.live b x hg;exact⟨l1,l2,P9.rel l3⟩
          . rcases both b x hx with⟨hg,aL⟩|⟨hg,P9⟩
            . rcases both b' x' nr with⟨Lr,xg⟩|⟨Lr,_⟩
              .rw[aL,xg]at Ly;exact hW.inj b b' x x' hg Lr Ly
              .have q1:=(hW.live b x hg).2.1;have q2:=new b' x' Lr;rw[aL]at Ly;omega
            . rcases both b' x' nr with⟨Lr,xg⟩|⟨Lr,_⟩
              .have q1:=(hW.live b' x' Lr).2.1;have q2:=new b x hg;rw[xg]at Ly;omega
              .exact h4.inj b b' x x' hg Lr Ly
          . obtain⟨c1,c2⟩:=hW.cL a u ha;have aW:a.block<w.heap.size:=World.block_lt_of_cell? _ _ c1;refine⟨(h4.cL a u c1).1,λb x hx=> ?_⟩;rcases both b x hx with⟨hg,aL⟩|⟨hg,P9⟩
            .rw[aL];exact c2 b x hg
            .have:=new b x hg;omega
          .have aW:a.block<w.heap.size:=World.block_lt_of_cell? _ _ (hW.cL a u ha).1;rw[World.cell?_of_block (w:=w) (a:=⟨a.block,o,none⟩) (un _ aW)];exact hW.whole a u ha o ho
          . rcases both b x hx with⟨hg,aL⟩|⟨hg,P9⟩
            .exact .inl ⟨b,x,hg,by rw[aL]⟩
            .exact .inr (new b x hg)
    .   cases h
  .cases h
section
variable{R:Type}(c:ah)(K:AV->St->Option R)(st:St)
end
def dL:AV->Option Pos
 |.slice b _ n cap _=>if cap=some 0/\n=0 then none else some b
 |_=>none
theorem OQ{b b':Pos}{off n es:Nat}{cap:Option Nat}(h:dL (.slice b off n cap es)=some b'):b=b':=by
 simp only[dL]at h;split at h
 .cases h
 .exact Zg4 h
theorem ur(b:Pos)(off n es:Nat):dL (.slice b off n none es)=some b:=by simp[dL]
theorem iA(b:Pos)(off es:Nat):dL (.slice b off 0 (some 0) es)=none:=by simp[dL]
def QS(es:Nat)(s:St)(v:AV)(rows:List (List AV)):Prop:=
 (v= .ax/\rows=[])\/(∃b off cap cs,v= .slice b off rows.length cap es/\s.heap.get b=some (.cells cs 0)/\off+rows.length*es<=cs.length/\(cs.drop off).take (rows.length*es)=rows.flatten/\(cap=none\/cap=some rows.length))\/
    (∃b off,v= .slice b off 0 (some 0) es/\rows=[])
theorem QS.nil{es:Nat}{s:St}:QS es s .ax []:= .inl ⟨rfl,rfl⟩
theorem QS.mono{es:Nat}{s s':St}{v:AV}{rows:List (List AV)}(h:QS es s v rows)(hk:∀b x,dL v=some b->s.heap.get b=some x->s'.heap.get b=some x):QS es s' v rows:=by
 rcases h with⟨rfl,rfl⟩|⟨b,off,cap,cs,rfl,h1,h2,h3,h4⟩|⟨b,off,rfl,rfl⟩
 .exact .inl ⟨rfl,rfl⟩
 . by_cases h0:cap=some 0/\rows.length=0
   .obtain⟨rfl,h0⟩:=h0;refine .inr (.inr ⟨b,off,by rw[h0],Za6 h0⟩)
   .exact .inr (.inl ⟨b,off,cap,cs,rfl,hk b _ (by simp only[dL];rw[Za4 h0]) h1,h2,h3,h4⟩)
 .exact .inr (.inr ⟨b,off,rfl,rfl⟩)
theorem QS.len{es:Nat}{s:St}{v:AV}{rows:List (List AV)}(h:QS es s v rows):cI v=some rows.length:=by rcases h with⟨rfl,rfl⟩|⟨b,off,cap,cs,rfl,_⟩|⟨b,off,rfl,rfl⟩<;>rfl
theorem QS.lt{es:Nat}{s:St}{v:AV}{rows:List (List AV)}(h:QS es s v rows)(hw:Wf s){b:Pos}(hb:dL v=some b):b.toNat<s.next.toNat:=by
 rcases h with⟨rfl,rfl⟩|⟨b',off,cap,cs,rfl,h1,_⟩|⟨b',off,rfl,rfl⟩
 .cases hb
 .obtain rfl:=OQ hb;exact hw _ _ h1
 .rw[iA]at hb;cases hb
theorem QS.first{es:Nat}{s:St}{v:AV}{rows:List (List AV)}(h:QS es s v rows)(hr:∀r∈rows,r.length=es):bS es rows.length (λb=>s.heap.get b) v=some rows.flatten:=by
 rcases h with⟨rfl,rfl⟩|⟨b,off,cap,cs,rfl,h1,h2,h3,h4⟩|⟨b,off,rfl,rfl⟩
 .rfl
 rotate_left
 .simp[bS,dR]
 . by_cases h0:rows.length*es=0
   .simp only[bS,dR,Za3 h0];have:rows.flatten=[]:=(by rw[<-h3,h0];simp);rw[this]
   .simp only[bS,dR,Za5 h0,h1];unfold cut;rw[dZ,Za3 h2];simp only;rw[h3]
theorem QS.app{R:Type}{c:ah}{es bytes:Nat}{s:St}{v:AV}{rows:List (List AV)}(hw:Wf s)(h:QS es s v rows)(hr:∀r∈rows,r.length=es){q:Pos}{row:List AV}(hq:s.heap.get q=some (.cells row 0))(Cu:row.length=es)(h1:aQ row=true)
   (cU:es≠0) (hb:(2*(rows.length+1)+768)*bytes<=281474976710656) (hn:rows.length<=4000000):
   ∃ s5,(∀(K:AV->St->Option R),ai c (.append es bytes) [v,.slice q 0 1 (some 1) es] s K=K (.slice s.next 0 (rows.length+1) none es) s5)/\QS es s5 (.slice s.next 0 (rows.length+1) none es) (rows++[row])/\
     Wf s5/\s5.next=s.next.succ/\(∀p,dL v≠some p->p.toNat<s.next.toNat->s5.heap.get p=s.heap.get p)/\s5.heap.get s.next=some (.cells (rows.flatten++row) 0):=by
 have hx:bS es 1 (λb=>s.heap.get b) (.slice q 0 1 (some 1) es)=some row:=by simp only[bS,dR,Zm5,Za5 cU,hq];exact bV Cu
 have ho:=h.first hr;have hlen:rows.flatten.length=rows.length*es:=by
   clear h ho hn hb;induction rows with
   |nil=>simp
   | cons r rows ih=>
     have:=ih (λx hx=>hr x (Za1 _ hx));have h2:=hr r (by simp);simp only[Zf6,Ze2,Ze6,Zi6];omega
 have new:∀(s5:St),s5.heap.get s.next=some (.cells (rows.flatten++row) 0)->QS es s5 (.slice s.next 0 (rows.length+1) none es) (rows++[row]):=λs5 hs=>by
   refine .inr (.inl ⟨s.next,0,none,rows.flatten++row,by simp,hs,?_,?_,.inl rfl⟩)
   .simp only[Ze2,Ze6,Zm6,Zc8,Zh7,Zm5,hlen,Cu];omega
   .simp only[Zc9,List.flatten_append,Zf6,List.flatten_nil,Zf4];refine Zf3 ?_;simp only[Ze2,Ze6,Zm6,Zc8,Zh7,Zm5,hlen,Cu];omega
 have Du:(2*(rows.length+1)+768)*bytes<=281474976710656:=hb;have xW:rows.length+1<=9223372036854775807:=by omega
 rcases h with⟨rfl,rfl⟩|⟨b,off,cap,cs,rfl,g1,g2,g3,g4⟩|⟨b,off,rfl,rfl⟩
 rotate_right
 . have run:au.run (λb=>s.heap.get b) s.next (.append es bytes) [.slice b off 0 (some 0) es,.slice q 0 1 (some 1) es]=some (.aC (.slice s.next 0 (0+1) none es) none none (some (.cells ([]++row) 0))):=(by have h2:¬(0+1<=0):=(by omega);have z8:bS es 0 (λb=>s.heap.get b) (.slice b off 0 (some 0) es)=some []:=(by simp[bS,dR]);simp only[au.run,eI];rw[show cI (.slice b off 0 (some 0) es)=some 0 from rfl,show cI (.slice q 0 1 (some 1) es)=some 1 from rfl];have hb3:(2*(0+1)+768)*bytes<=281474976710656:=(by simpa using hb);simp only[dZ,dR,Za3 hb3,Za5 h2,hx,z8];simp);refine⟨af s (.cells row 0),λK=> ?_,?_,bt hw,rfl,λp _ hp=>oT hp,by simpa using aE s (.cells row 0)⟩
   .unfold ai bQ;simp only[Zm6]at run ⊢; rw[run];rfl
   .simpa using new (af s (.cells row 0)) (by simpa using aE s (.cells row 0))
 .refine⟨af s (.cells row 0),λK=>Ro c K (m:=1) rfl (by omega) (by simpa using hb) (by omega) hx,?_,bt hw,rfl,λp _ hp=>oT hp,by simpa using aE s (.cells row 0)⟩;simpa using new (af s (.cells row 0)) (by simpa using aE s (.cells row 0))
 . rcases g4 with rfl|rfl
   .have run:au.run (λb=>s.heap.get b) s.next (.append es bytes) [.slice b off rows.length none es,.slice q 0 1 (some 1) es]=some (.aC (.slice s.next 0 (rows.length+1) none es) (some b) none (some (.cells (rows.flatten++row) (0 - off)))):=(by simp only[au.run,eI];rw[show cI (.slice b off rows.length none es)=some rows.length from rfl,show cI (.slice q 0 1 (some 1) es)=some 1 from rfl];simp only[dZ,dR,Za3 Du,Za3 xW,hx,g1,ho,h1];simp);refine⟨dst s b (.cells (rows.flatten++row) 0),λK=> ?_,new _ (Ni _ _ _),W0 hw,rfl,λp hp hl=>L9 (λe=>hp (by rw[e,ur])) hl,Ni _ _ _⟩;unfold ai bQ;rw[run];simp only[Nat.zero_sub];rfl
   . have h2:¬(rows.length+1<=rows.length):=(by omega);have run:au.run (λb=>s.heap.get b) s.next (.append es bytes) [.slice b off rows.length (some rows.length) es,.slice q 0 1 (some 1) es]=some (.aC (.slice s.next 0 (rows.length+1) none es) none none (some (.cells (rows.flatten++row) 0))):=by
        simp only[au.run,eI];rw[show cI (.slice b off rows.length (some rows.length) es)=some rows.length from rfl,show cI (.slice q 0 1 (some 1) es)=some 1 from rfl];simp only[dZ,dR,Za3 Du,Za3 xW,Za5 h2,hx,ho]
     refine⟨af s (.cells (rows.flatten++row) 0),λK=> ?_,new _ (aE _ _),bt hw,rfl,λp _ hp=>oT hp,aE _ _⟩;unfold ai bQ;rw[run];rfl
theorem aaG{R:Type}{c:ah}{es:Nat}{z:List AV}{x:AV}(hz:z.length=es)(hx:x.cells.length=es)(s:St)(K:AV->St->Option R):
  ai c (.buildSlice es 1 z [0]) [x] s K=K (.slice s.next 0 1 (some 1) es) (af s (.cells x.cells 0)):=by
 have:bP (bD z 1) ([0].map λi=>(i*es,es)) [x]=some x.cells:=by
  simp only[Zb4,Zf0,Nat.zero_mul,bD,Zf4,bP,dR,dZ,hx,Zi7,Zc8,hz,H5];simp only[aI,List.take_zero,Zg5,Zc8];rw[List.drop_of_length_le (by omega),Zf4]
 rw[cM,this];rfl
structure Mk(es:Nat)(s0 s:St)(v:AV)(rows:List (List AV)):Prop where
 Aq:Wf s0
 aY:Grew s0 s
 own:QS es s v rows
 new:∀b,dL v=some b->s0.next.toNat<=b.toNat
 row:∀r∈rows,r.length=es
 cap:∀b off n cp e,v= .slice b off n cp e->cp=none\/(n=0/\cp=some 0)
 tight:∀b,dL v=some b->s.heap.get b=some (.cells rows.flatten 0)
theorem Mk.start{es:Nat}{s0 s:St}(h0:Wf s0)(hg:Grew s0 s):Mk es s0 s .ax []:=⟨h0,hg,QS.nil,λb h=>(by cases h),λr h=>(by cases h),λb off n cp e h=>(by cases h),λb h=>(by cases h)⟩
theorem Mk.grow{es:Nat}{s0 s s':St}{v:AV}{rows:List (List AV)}(h:Mk es s0 s v rows)(hg:Grew s s'):Mk es s0 s' v rows:=
 ⟨h.Aq,h.aY.trans hg,h.own.mono λb x _ hx=>hg.get hx,h.new,h.row,h.cap,λb hb=>hg.get (h.tight b hb)⟩
theorem Mk.push{R:Type}{c:ah}{es bytes:Nat}{s0 s:St}{v:AV}{rows:List (List AV)}(h:Mk es s0 s v rows){z:List AV}{x:AV}(hz:z.length=es)(hx:x.cells.length=es)(h1:aQ x.cells=true)(cU:es≠0)
   (hb:(2*(rows.length+1)+768)*bytes<=281474976710656) (hn:rows.length<=4000000):
   ∃ s5 v',(∀(K:AV->St->Option R),ai c (.buildSlice es 1 z [0]) [x] s (λy t=>ai c (.append es bytes) [v,y] t K)=K v' s5)/\Mk es s0 s5 v' (rows++[x.cells])/\
     (∀p b,dL v≠some p->s.heap.get p=some b->s5.heap.get p=some b)/\∀b,dL v'=some b->s.next.toNat<=b.toNat:=by
 have hw:=h.aY.wf;have bM:Wf (af s (.cells x.cells 0)):=bt hw;have g1:=Grew.af hw (.cells x.cells 0);obtain⟨s5,a1,a2,a3,a4,a5,a6⟩:=QS.app (R:=R) (c:=c) (bytes:=bytes) bM (h.own.mono λb x _ hx=>g1.get hx) h.row (aE s (.cells x.cells 0)) hx h1 cU hb hn;have keep:∀p b,dL v≠some p->s.heap.get p=some b->s5.heap.get p=some b:=λp b hp hg=>by have aW:=hw _ _ hg;rw[a5 p hp (by rw[cX,Pos.ay];omega)];exact g1.get hg
 refine⟨s5,_,λK=> ?_,⟨h.Aq,⟨a3,λp b hg=> ?_,?_⟩,a2,λb hb=> ?_,λr hr=> ?_,λb off n cp e he=> ?_,λb hb=> ?_⟩,keep,λb hb=> ?_⟩
 .rw[aaG hz hx,a1]
 .have uu:=h.aY.get hg;refine keep p b (λe=> ?_) uu;have:=h.new p e;have:=h.Aq p b hg;omega
 .have:=h.aY.next;rw[a4,cX,Pos.ay,Pos.ay];omega
 .rw[ur]at hb;cases hb;have:=h.aY.next;rw[cX,Pos.ay];omega
 . rcases Zd2.1 hr with hr|hr
   .exact h.row r hr
   .simp at hr;subst hr;exact hx
 .cases he;exact .inl rfl
 .rw[ur]at hb;cases hb;rw[a6];simp
 .rw[ur]at hb;cases hb;rw[cX,Pos.ay];omega
theorem kW{b:Pos}{off n es:Nat}(h:Plain (.slice b off n none es)):False:=by
 have h1:aj (λ_=>⟨0,0,off+n*es⟩) (b.toNat+1) (λ_=>none) (.slice b off n none es) (.slice (some ⟨0,0+off,none⟩) n n):=
  .slice b off n none es n _ (H5 _) (λc hc=>by cases hc) (λ_=>⟨by omega,rfl,by simp⟩) (λ_=>by omega)
 have h2:=h _ (λ_=>⟨0,0,0⟩) _ 0 _ _ h1;cases h2 with
 |slice _ _ _ _ _ _ _ _ _ _ hk=>exact absurd (hk rfl) (by omega)
theorem Mk.tidy{es:Nat}{s s':St}{v:AV}{rows:List (List AV)}(h:Mk es s s' v rows):∃gO,Go.Ai.tidy s (v,s')=(v,gO)/\Mk es s gO v rows:=by
 unfold Go.Ai.tidy;by_cases hp:Plain (v,s').1/\aV s (v,s').2
 . rw[Za7 hp];refine⟨s,rfl,?_⟩;rcases h.own with⟨rfl,rfl⟩|⟨b,off,cap,cs,rfl,_⟩|⟨b,off,rfl,rfl⟩
   .exact Mk.start h.Aq (Grew.refl h.Aq)
   . rcases h.cap _ _ _ _ _ rfl with rfl|⟨h0,rfl⟩
     .exact(kW hp.1).elim
     .exact⟨h.Aq,Grew.refl h.Aq,.inr (.inr ⟨b,off,by rw[h0],Za6 h0⟩),λb hb=>(by rw[h0,iA]at hb;cases hb),h.row,h.cap,λb hb=>(by rw[h0,iA]at hb;cases hb)⟩
   .exact⟨h.Aq,Grew.refl h.Aq,.inr (.inr ⟨b,off,rfl,rfl⟩),λb hb=>(by rw[iA]at hb;cases hb),h.row,h.cap,λb hb=>(by rw[iA]at hb;cases hb)⟩
 .rw[Za4 hp];exact⟨s',rfl,h⟩
theorem QS.cu{es d:Nat}{s:St}{v:AV}{rows:List (List AV)}(h:QS es s v rows)(hr:∀r∈rows,r.length=es):
   ∃z,Go.Ai.cu s (d+1) v=ro es z (rows.map λr=>r.map (Go.Ai.cu s d)):=by
 rcases h with⟨rfl,rfl⟩|⟨b,off,cap,cs,rfl,h1,h2,h3,h4⟩|⟨b,off,rfl,rfl⟩
 .exact⟨true,rfl⟩
 rotate_left
 .exact⟨false,rfl⟩
 . refine⟨false,?_⟩;by_cases h0:rows.length=0
   .obtain rfl:=Za6 h0;rfl
   rw[OO,Za5 h0];simp only;rw[h1];simp only[Za3 h2];show AV.fl _ _=AV.fl _ _;congr 1;(refine List.ext_getElem (by simp) λi p1 p2=> ?_);simp only[Zd1,List.length_range]at p1;simp only[Zm0,List.getElem_range];congr 1;have key:∀(rows:List (List AV))(i:Nat)(hi:i<rows.length),(∀r∈rows,r.length=es)->((rows.flatten).drop (i*es)).take es=rows[i]:=by
     intro rows;induction rows with
     |nil=>intro i hi;simp at hi
     |  cons r rows ih=>
        intro i hi hr;have hl:=hr r (by simp);cases i with
        |zero=>simp[<-hl]
        |succ i=>
         have:=ih i (by simpa using hi) (λx hx=>hr x (Za1 _ hx));rw[Zf6,Zi6,Nat.add_comm, <-hl,List.drop_append];simp only[List.getElem_cons_succ];rw[<-this,hl];simp[Zl3 (show r.length<=es+i*es by omega)]
   rw[<-key rows i p1 hr, <-h3];rw[List.drop_take,Zn2,Zl2];congr 1;have:(i+1)*es<=rows.length*es:=Zg7 _ p1;rw[Zi6]at this;omega
section
variable{R:Type}(c:ah)(K:AV->St->Option R)(st:St)
theorem Rr{b:Pos}{off len es es':Nat}{cap:Option Nat}{k:IntKind}{i:Nat}(h:i<len):ai c (.idxA es none) [.slice b off len cap es',.int k (i:Int)] st K=K (.ptr b (off+i*es)) st:=
 aS c K (λH n=>by
  simp only[au.run,mg,g9];have:Nat.blt i len=true:=by rw[Nat.blt_eq];exact h
  rw[this]) st
theorem Rs(b:Pos)(off len es:Nat)(cap:Option Nat):ai c (.lenB .l) [.slice b off len cap es] st K=K (.int .i64 (len:Int)) st:=aS c K (λH n=>rfl) st
theorem aaH{es bytes:Nat}{z:List AV}{k k':IntKind}{n:Nat}(h1:bytes*n<=281474976710656)(h2:n<=9223372036854775807):
  ai c (.mkSlice es bytes z) [.int k (n:Int),.int k' (n:Int)] st K=K (.slice st.next 0 n (some n) es) (af st (.cells (bD z n) 0)):=by
 have:au.run (λb=>st.heap.get b) st.next (.mkSlice es bytes z) [.int k (n:Int),.int k' (n:Int)]=some (.aC (.slice st.next 0 n (some n) es) none none (some (.cells (bD z n) 0))):=by
  simp only[au.run,u0,g9,dZ,Za3 h1,Za3 h2,H5,Zi7]
 unfold ai bQ;rw[this];rfl
end
theorem Md{α:Type}(x:α):∀n:Nat,bD [x] n=List.replicate n x
 |0=>rfl
 |n+1=>by simp[bD,Md x n,List.replicate_succ]
theorem Fq{rows:List (List AV)}{es:Nat}(hr:∀r∈rows,r.length=es):∀(i j:Nat)(r:List AV)(u:AV),rows[i]? =some r->r[j]? =some u->rows.flatten[i*es+j]? =some u:=by
 induction rows with
 |nil=>intro i j r u h;simp at h
 |cons r0 rows ih=>
  intro i j r u h1 h2;have hl:=hr r0 (by simp);cases i with
  |zero=>
   simp at h1;subst h1;have:=(H3.1 h2).1;rw[Zf6,Nat.zero_mul,Zc8,Zc3 this];exact h2
  |succ i=>
   rw[Zf6,Zc5 (by rw[Zi6];omega)];rw[show(i+1)*es+j - r0.length=i*es+j by rw[Zi6];omega];exact ih (λx hx=>hr x (Za1 _ hx)) i j r u (by simpa using h1) h2
theorem QS.lenB{R:Type}{c:ah}{es:Nat}{s:St}{v:AV}{rows:List (List AV)}(h:QS es s v rows)(K:AV->St->Option R)(s1:St):ai c (.lenB .l) [v] s1 K=K (.int .i64 (rows.length:Int)) s1:=by
 rcases h with⟨rfl,rfl⟩|⟨b,off,cap,cs,rfl,_⟩|⟨b,off,rfl,rfl⟩
 .exact aS c K (λH n=>rfl) s1
 .exact Rs c K s1 _ _ _ _ _
 .exact Rs c K s1 _ _ _ _ _
def eD(v:AV):Prop:=∃N0 K0:Nat,∀N K:Nat,N0<=N->K0<=K->∃x,aj (λ_=>⟨0,0,K⟩) N (λ_=>none) v x
theorem eD.int(k:IntKind)(i:Int):eD (.int k i):=⟨0,0,λ_ _ _ _=>⟨_,.int k i⟩⟩
theorem eD.bool(b:Bool):eD (.bool b):=⟨0,0,λ_ _ _ _=>⟨_,.bool b⟩⟩
theorem eD.ax:eD .ax:=⟨0,0,λ_ _ _ _=>⟨_,.ax⟩⟩
theorem eD.str{s:List Nat}(h:∀x∈s,x<256):eD (.str s):=⟨0,0,λ_ _ _ _=>⟨.string ⟨(s.map UInt8.ofNat).toArray⟩,.str s _ (by
 show(s.map UInt8.ofNat).toArray.toList.map UInt8.toNat=s;simp only[Zf5]
 conv=>rhs;rw[<-List.map_id s]
 refine Zi0 λc hc=> ?_
 have:=h c hc;simp[UInt8.toNat_ofNat];omega)⟩⟩
theorem eD.slice(b:Pos)(off n es:Nat):eD (.slice b off n none es):=⟨b.toNat+1,off+n*es,λN K hN hK=>⟨.slice (some ⟨0,0+off,none⟩) n n,
 .slice b off n none es n _ (H5 _) (λc hc=>by cases hc) (λ_=>⟨by omega,rfl,by simpa using hK⟩) (λ_=>by omega)⟩⟩
theorem eD.zero(b:Pos)(off es:Nat):eD (.slice b off 0 (some 0) es):=⟨0,0,λN K _ _=>⟨.slice (some ⟨0,0,none⟩) 0 0,
 .slice b off 0 (some 0) es 0 _ (H5 _) (λc hc=>by cases hc;rfl) (λh=>absurd rfl h) (λh=>by cases h)⟩⟩
theorem inst_list:∀{l:List AV},(∀v∈l,eD v)->∃N0 K0:Nat,∀N K:Nat,N0<=N->K0<=K->∃xs,ak (λ_=>⟨0,0,K⟩) N (λ_=>none) l xs
 |[],_=>⟨0,0,λ_ _ _ _=>⟨[],ak.nil⟩⟩
 |v::l,h=>by
  obtain⟨N1,K1,h1⟩:=h v (by simp);obtain⟨N2,K2,h2⟩:=inst_list (λu hu=>h u (Za1 _ hu));refine⟨max N1 N2,max K1 K2,λN K hN hK=> ?_⟩;obtain⟨x,hx⟩:=h1 N K (by omega) (by omega);obtain⟨xs,fE⟩:=h2 N K (by omega) (by omega);exact⟨x::xs,ak.cons hx fE⟩
theorem kM{l:List AV}(hi:∀v∈l,eD v){b:Pos}{off n es:Nat}(hm:AV.slice b off n none es∈l):¬Plain (.agg l):=λh=>by
 obtain⟨N0,K0,h1⟩:=inst_list hi;obtain⟨xs,hx⟩:=h1 N0 K0 (H5 _) (H5 _);have h2:aj (λ_=>⟨0,0,K0⟩) N0 (λ_=>none) (.agg l) (.agg xs.toArray):= .agg l _ (by rw[hx.1];simp) λi v x hv nr=>hx.2 i v x hv (by simpa using nr)
 have h3:=h _ (λ_=>⟨0,0,0⟩) _ 0 _ _ h2;obtain⟨i,aW,hi⟩:=Zg8.1 hm;cases h3 with
 |agg _ _ hl hc=>
  have YP:i<xs.toArray.size:=by rw[<-hl];exact aW
  obtain⟨y,hy⟩:∃y,xs.toArray[i]? =some y:=⟨_,Ze0 YP⟩
  have:=hc i _ y (by rw[H1 aW,hi]) hy;cases this with
  |slice _ _ _ _ _ _ _ _ _ _ hk=>exact absurd (hk rfl) (by omega)
theorem Mk.inst{es:Nat}{s s':St}{v:AV}{rows:List (List AV)}(h:Mk es s s' v rows):eD v:=by
 rcases h.own with⟨rfl,rfl⟩|⟨b,off,cap,cs,rfl,_⟩|⟨b,off,rfl,rfl⟩
 .exact eD.ax
 . rcases h.cap _ _ _ _ _ rfl with rfl|⟨h0,rfl⟩
   .exact eD.slice _ _ _ _
   .rw[h0];exact eD.zero _ _ _
 .exact eD.zero _ _ _
theorem Mk.loose{es:Nat}{s s':St}{v:AV}{rows:List (List AV)}(h:Mk es s s' v rows):(∃b off n,v= .slice b off n none es)\/((∀t,Wf t->Mk es t t v rows)/\rows=[]):=by
 rcases h.own with⟨rfl,rfl⟩|⟨b,off,cap,cs,rfl,_⟩|⟨b,off,rfl,rfl⟩
 .exact .inr ⟨λt ht=>Mk.start ht (Grew.refl ht),rfl⟩
 . rcases h.cap _ _ _ _ _ rfl with rfl|⟨h0,rfl⟩
   .exact .inl ⟨_,_,_,rfl⟩
   .exact .inr ⟨λt ht=>⟨ht,Grew.refl ht,.inr (.inr ⟨b,off,by rw[h0],Za6 h0⟩),λb hb=>(by rw[h0,iA]at hb;cases hb),h.row,h.cap,λb hb=>(by rw[h0,iA]at hb;cases hb)⟩,Za6 h0⟩
 .exact .inr ⟨λt ht=>⟨ht,Grew.refl ht,.inr (.inr ⟨b,off,rfl,rfl⟩),λb hb=>(by rw[iA]at hb;cases hb),h.row,h.cap,λb hb=>(by rw[iA]at hb;cases hb)⟩,rfl⟩
theorem Mk.KM{es:Nat}{s s':St}{v:AV}{rows:List (List AV)}(h:Mk es s s' v rows){l:List AV}(hm:v∈l)(hi:∀u∈l,eD u):∃gO,Go.Ai.tidy s (.agg l,s')=(.agg l,gO)/\(gO=s'\/gO=s)/\Mk es s gO v rows:=by
 unfold Go.Ai.tidy;by_cases hp:Plain (AV.agg l,s').1/\aV s (AV.agg l,s').2
 . rw[Za7 hp];refine⟨s,rfl,.inr rfl,?_⟩;rcases h.loose with⟨b,off,n,rfl⟩|⟨hl,_⟩
   .exact absurd hp.1 (kM hi hm)
   .exact hl s h.Aq
 .rw[Za4 hp];exact⟨s',rfl,.inl rfl,h⟩
theorem Mk.cells{es:Nat}{s s':St}{v:AV}{rows:List (List AV)}(h:Mk es s s' v rows):v.cells=[v]/\aQ [v]=true:=by
 rcases h.own with⟨rfl,rfl⟩|⟨b,off,cap,cs,rfl,_⟩|⟨b,off,rfl,rfl⟩<;>exact⟨rfl,rfl⟩
theorem Mk.store{es:Nat}{s s':St}{v:AV}{rows:List (List AV)}(h:Mk es s s' v rows){p:Pos}{b:AB}(hp:s.next.toNat<=p.toNat)(xO:p.toNat<s'.next.toNat)(cW:dL v≠some p):Mk es s (ei s' p b) v rows:=
 ⟨h.Aq,⟨DC h.aY.wf xO,λq x hq=>by have:=h.Aq _ _ hq;rw[bT (λe=>by rw[e]at hp;omega)];exact h.aY.get hq,by rw[An];exact h.aY.next⟩,
  h.own.mono λq x hq hx=>by rw[bT (λe=>cW (by rw[hq,e]))];exact hx,h.new,h.row,h.cap,λb hb=>by rw[bT (λe=>cW (by rw[hb,e]))];exact h.tight b hb⟩
theorem Mk.back{es:Nat}{s0 s s':St}{v:AV}{rows:List (List AV)}(h:Mk es s s' v rows)(h0:Wf s0)(hg:Grew s0 s):Mk es s0 s' v rows:=
 ⟨h0,hg.trans h.aY,h.own,λb hb=>Zc1 hg.next (h.new b hb),h.row,h.cap,h.tight⟩
theorem Vj{α:Type}(l:List α)(i:Nat)(h:i<l.length)(u:α):aI l i [u]=l.set i u:=by unfold aI;rw[List.set_eq_take_append_cons_drop,Za7 h];simp
def Src(es:Nat)(s:St)(v:AV)(rows:List (List AV)):Prop:=v= .fl rows es\/QS es s v rows
theorem Src.len{es:Nat}{s:St}{v:AV}{rows:List (List AV)}(h:Src es s v rows):cI v=some rows.length:=by
 rcases h with rfl|h
 .rfl
 .exact h.len
theorem Src.mono{es:Nat}{s s':St}{v:AV}{rows:List (List AV)}(h:Src es s v rows)(hk:∀b x,dL v=some b->s.heap.get b=some x->s'.heap.get b=some x):Src es s' v rows:=h.imp id λh=>h.mono hk
theorem Src.aY{es:Nat}{s s':St}{v:AV}{rows:List (List AV)}(h:Src es s v rows)(hg:Grew s s'):Src es s' v rows:=h.mono λ_ _ _ hx=>hg.get hx
theorem Src.first{es:Nat}{s:St}{v:AV}{rows:List (List AV)}(h:Src es s v rows)(hr:∀r∈rows,r.length=es):bS es rows.length (λb=>s.heap.get b) v=some rows.flatten:=by
 rcases h with rfl|h
 .simp only[bS,dR,dZ,Zi7,H5,Zk3]
 .exact h.first hr
theorem Src.nil{es:Nat}{s:St}{v:AV}{rows:List (List AV)}(h:Src es s v rows):(v= .ax/\rows=[])\/∀{R:Type}(c:ah)(K:AV->St->Option R)(t:St),ai c (.bin .eql .slice) [v,.ax] t K=K (.bool false) t:=by
 rcases h with rfl|⟨rfl,rfl⟩|⟨b,off,cap,cs,rfl,_⟩|⟨b,off,rfl,rfl⟩
 .exact .inr λc K t=>aS c K (λH n=>rfl) t
 .exact .inl ⟨rfl,rfl⟩
 .exact .inr λc K t=>aS c K (λH n=>rfl) t
 .exact .inr λc K t=>aS c K (λH n=>rfl) t
theorem Src.ro{es:Nat}{s:St}(z:Bool)(rows:List (List AV)):Src es s (ro es z rows) rows:=by
 unfold Go.Ai.ro;split
 .exact .inr (.inl ⟨rfl,rfl⟩)
 .exact .inl rfl
theorem OR{es:Nat}:∀{rows:List (List AV)},(∀r∈rows,r.length=es)->rows.flatten.length=rows.length*es
 |[],_=>by simp
 |r::rows,hr=>by have ih:=OR (λx hx=>hr x (Za1 _ hx));have h2:=hr r (by simp);simp only[Zf6,Ze2,Ze6,Zi6];omega
theorem OS{es bytes:Nat}{z:List AV}{src:AV}{rows:List (List AV)}(hr:∀r∈rows,r.length=es)(_hes:es≠0)(hb:(2*rows.length+768)*bytes<=281474976710656)(hn:rows.length<=4000000){c:ah}{R:Type}(s:St)(hw:Wf s)(h:Src es s src rows):
   ∃v s',(∀(K:AV->St->Option R),ai c (.buildSlice es 0 z []) [] s (λy t=>ai c (.append es bytes) [y,src] t K)=K v s')/\Mk es s s' v rows:=by
 have bs:∀(K:AV->St->Option R),ai c (.buildSlice es 0 z []) [] s K=K (.slice s.next 0 0 (some 0) es) (af s (.cells [] 0)):=λK=>by rw[cM];rfl
 have bM:Wf (af s (.cells [] 0)):=bt hw;have g1:=Grew.af hw (.cells [] 0);have hl:=h.len;by_cases h0:rows.length=0
 .obtain rfl:=Za6 h0;refine⟨.slice s.next 0 0 (some 0) es,af s (.cells [] 0),λK=> ?_,hw,g1,.inr (.inr ⟨_,_,rfl,rfl⟩),λb hb=>(by rw[iA]at hb;cases hb),hr,λb off n cp e he=>(by cases he;exact .inr ⟨rfl,rfl⟩),λb hb=>(by rw[iA]at hb;cases hb)⟩;rw[bs,Rp c K hl (by simpa using hb) (by simp)]
 . have hx:bS es rows.length (λb=>(af s (.cells [] 0)).heap.get b) src=some rows.flatten:=(h.aY g1).first hr;have hlen:=OR hr;refine⟨.slice (af s (.cells [] 0)).next 0 rows.length none es,af (af s (.cells [] 0)) (.cells rows.flatten 0),λK=> ?_,hw,g1.trans (Grew.af bM _),.inr (.inl ⟨_,0,none,rows.flatten,rfl,aE _ _,by omega,?_,.inl rfl⟩),λb hb=> ?_,hr,λb off n cp e he=>(by cases he;exact .inl rfl),λb hb=>(by rw[ur]at hb;cases hb;exact aE _ _)⟩
   .rw[bs,W3 c K (m:=rows.length) hl h0 (by simpa using hb) (by omega) hx]
   .simp only[Zc9];exact Zf3 (by omega)
   .rw[ur]at hb;cases hb;rw[cX,Pos.ay];omega
theorem W7{v:AV}(h:aQ [v]=true):v.one=true:=by
 simp only[aQ]at h;split at h
 .assumption
 .cases h
theorem Pn{b:Pos}{o:Nat}{k1 k2:IntKind}{i1 i2:Int}:¬Plain (.tuple [.ptr b o,.int k1 i1,.int k2 i2]):=λh=>by
 obtain⟨x0,e0⟩:∃x,aj (λ_=>⟨0,0,0⟩) (b.toNat+1) (λ_=>none) (.ptr b o) x:=⟨_,.ptr b o (by omega)⟩
 obtain⟨x1,e1⟩:∃x,aj (λ_=>⟨0,0,0⟩) (b.toNat+1) (λ_=>none) (.int k1 i1) x:=⟨_,.int k1 i1⟩
 obtain⟨x2,e2⟩:∃x,aj (λ_=>⟨0,0,0⟩) (b.toNat+1) (λ_=>none) (.int k2 i2) x:=⟨_,.int k2 i2⟩
 have:=h (λ_=>⟨0,0,0⟩) (λ_=>⟨0,0,0⟩) (b.toNat+1) 0 (λ_=>none) _ (.tuple _ #[x0,x1,x2] rfl (λi v v' hv hx=>by
  match i with
  |0=>simp at hv hx;subst hv hx;exact e0
  |1=>simp at hv hx;subst hv hx;exact e1
  |2=>simp at hv hx;subst hv hx;exact e2
  |i+3=>simp at hv))
 cases this with
 |tuple _ _ _ h=>
  have:=h 0 _ x0 rfl rfl;cases this with
  |ptr _ _ h=>omega
abbrev Vk(v:AV):List AV:=[v]
theorem YQ(l:List AV):∀r∈l.map Vk,r.length=1:=λr hr=>by simp only[Zf1]at hr;obtain⟨m,_,rfl⟩:=hr;rfl
section
variable{s0 s s':St}{jb:Pos}{Ls:List AV}{R:List (List AV)}{I:List (AV×List (List AV))}
end
section
variable{s0 s s':St}{jb:Pos}{Ls:List AV}{R:List (List AV)}{I:List (AV×List (List AV))}
end
theorem aaI{R:Type}{c:ah}(K:AV->St->Option R){s:St}{p:Pos}{o:Nat}{cs:List AV}{v:AV}(h:s.heap.get p=some (.cells cs 0))(ho:o<cs.length)(h1:v.cells=[v])(h2:v.one=true):
  ai c (.store 1) [.ptr p o,v] s K=K .undef (ei s p (.cells (cs.set o v) 0)):=by
 rw[jf c K s 1 p o v cs h (by rw[h1];rfl) (by omega) (by rw[h1];simp[aQ,h2]),h1,Vj _ _ ho]
section
variable{s0 s s':St}{jb:Pos}{Ls:List AV}{R:List (List AV)}{I:List (AV×List (List AV))}
end
theorem QS.bare{es:Nat}{s:St}{v:AV}{rows:List (List AV)}(h:QS es s v rows):bO v:=by
 rcases h with⟨rfl,_⟩|⟨b,off,cap,cs,rfl,_⟩|⟨b,off,rfl,_⟩
 .exact bO.ax
 .exact bO.slice _ _ _ _ _
 .exact bO.slice _ _ _ _ _
def emptyAt(s:St):St:={ heap:= .e,next:=s.next }
theorem nM(s:St):Wf (emptyAt s):=λp x h=>by have h:(T.e:T AB).get p=some x:=h;rw[T.cR]at h;cases h
noncomputable def eT(s s1:St):St:={ heap:=T.both s.heap (vC s1.heap),next:=s1.next }
theorem Vl{s s1:St}{b:Pos}{x:AB}(h:s.heap.get b=some x):(eT s s1).heap.get b=some x:=by show(T.both _ _).get b=_;rw[T.xp,h];rfl
theorem Vm{s s1:St}(hw:Wf s){b:Pos}{x:AB}(hb:s.next.toNat<=b.toNat)(h:s1.heap.get b=some x)(hx:Fm x):(eT s s1).heap.get b=some x:=by
 show(T.both _ _).get b=_;have:s.heap.get b=none:=by
  cases e:s.heap.get b with
  |none=>rfl
  |some y=>have:=hw _ _ e;omega
 rw[T.xp,this,W6 h hx];rfl
theorem JZ{s s1:St}(hw:Wf s)(h1:Wf s1)(hn:s.next.toNat<=s1.next.toNat):Grew s (eT s s1):=
 ⟨fun p x h=>by
  have h:(T.both s.heap (vC s1.heap)).get p=some x:=h;show p.toNat<s1.next.toNat;rw[T.xp]at h;cases e:s.heap.get p with
  |some y=>have:=hw _ _ e;omega
  |none=>
   rw[e]at h;have h:(vC s1.heap).get p=some x:=(by simpa using h);exact h1 _ _ (OP h).1,λp x h=>Vl h,hn⟩
theorem Mk.eT{es:Nat}{s s1:St}{v:AV}{rows:List (List AV)}(hw:Wf s)(h:Mk es (emptyAt s) s1 v rows)(hb:∀r∈rows,∀x∈r,bO x):Mk es s (Go.Ai.eT s s1) v rows:=by
 have key:∀b x,dL v=some b->s1.heap.get b=some x->(Go.Ai.eT s s1).heap.get b=some x:=λb x gZ hx=>by
  have t:=h.tight b gZ;have nr:x= .cells rows.flatten 0:=by rw[t]at hx;exact(Zg4 hx).symm
  subst nr;exact Vm hw (h.new b gZ) t (λv hv=>by obtain⟨r,hr,hv⟩:=List.mem_flatten.1 hv;exact hb r hr v hv)
 exact⟨hw,JZ hw h.aY.wf h.aY.next,h.own.mono key,h.new,h.row,h.cap,λb gZ=>key b _ gZ (h.tight b gZ)⟩
theorem W8{call:ah}{f:FuncId}{d:Nat}{args:List AV}{s:St}{v:AV}{s1:St}(h:call f (args.map (cu s d)) (emptyAt s)=some (v,s1))(hb:bO v)(hn:s.next.toNat<=s1.next.toNat):
 Fp call f d args s=some (v,eT s s1):=Uf h ⟨hb,hn⟩
theorem ri{call:ah}{f:FuncId}{d:Nat}{args:List AV}{s:St}{v:AV}(h:call f (args.map (cu s d)) (emptyAt s)=some (v,emptyAt s))(hb:bO v):Fp call f d args s=some (v,s):=YO h hb
section
variable{H:Type}(Ok:DataW H->Prop)(enc:TypeId×Value->H)(P:Program)(w:World)(base:Nat)(spare:Nat->Bool)(held:Bool)
def bU(t:TypeId)(Q:List AV->Prop):Prop:=
 ∀  (fuel:Nat)(cs:List Value)(x:DataW H×List MemPlace),DataW.trod enc P w base spare held fuel t cs=some x->Ok x.1->
    ∃as,Q as/\∀ρ n,ak ρ n (λad=>w.cell? ad) as cs
def Nk:List TypeId->List (List AV->Prop)->Prop
 |[],[]=>True
 |f::fs,Q::Qs=>bU Ok enc P w base spare held f Q/\Nk fs Qs
 |_,_=>False
variable{Ok enc P w base spare held}
theorem bU.of{t:TypeId}{Q:List AV->Prop}(h:tA enc P w base spare held t Q):bU Ok enc P w base spare held t Q:=λfuel cs x hx _=>h fuel cs x hx
theorem bU.mono{t:TypeId}{Q Q':List AV->Prop}(h:bU Ok enc P w base spare held t Q)(k:∀as,Q as->Q' as):bU Ok enc P w base spare held t Q':=
 λfuel cs x hx hk=>by obtain⟨as,h1,h2⟩:=h fuel cs x hx hk;exact⟨as,k _ h1,h2⟩
theorem mC {N:Nat}{t e:TypeId}{es:Nat}{Q:List AV->Prop}(ht:P.underlying t=some (.slice e))(hc:P.cellsOf e=es)(cU:0<es)(hQ:∀as,Q as->as.length=es)(cJ:∀e s,Ok (.slice e s)->e.length<=N/\∀d∈e,Ok d)(h:bU Ok enc P w base spare held e Q):
  bU Ok enc P w base spare held t λas=>∃z rs,as=[ro es z rs]/\(∀r∈rs,Q r)/\rs.length<=N:=
 fun fuel cs x hx hk=>by
  rcases DataW.trod_slice ht hx with⟨rfl,_⟩|⟨a,len,cap,elems,rest,n,_,rfl,rfl,hb,hl,hm,hlen,hel,_,_⟩
  .  exact⟨_,⟨true,[],rfl,by simp,by simp⟩,λρ m=>ak.cons .ax ak.nil⟩
  .  obtain ⟨hN,hE⟩:=cJ _ _ hk;simp only[Zd1]at hN;have each:∀i,∃r row,i<len->(Q r/\w.cells? base (a.add (i*es)) es=some row/\∀ρ m,ak ρ m (λad=>w.cell? ad) r row):=by
        intro i;by_cases hi:i<len
        . have h1:=hel i hi;rw[H1 (by omega),hc]at h1;cases h2:w.cells? base (a.add (i*es)) es with
          |none=>rw[h2]at h1;cases h1
          | some row=>
            rw[h2]at h1;obtain⟨r,hr,hv⟩:=h n row _ h1 (hE _ (List.mem_map_of_mem (Zc4 _)));exact⟨r,row,λ_=>⟨hr,rfl,hv⟩⟩
        .exact⟨[],[],λh=>absurd h hi⟩
     obtain⟨r,each⟩:=Classical.axiomOfChoice each;obtain⟨row,hr⟩:=Classical.axiomOfChoice each;have aac:0<len->a.spot=none:=λh0=>by
        obtain⟨_,h1,_⟩:=hr 0 h0;have:=(World.cells?_some h1).2.2 0 cU;have hl:=(World.cells?_some h1).2.1;rw[H1 (by omega)]at this;simp only[Nat.zero_mul,Addr.add,Ze5]at this;unfold World.cell? at this;split at this
        . split at this
          .cases this
          .rename_i h;simpa using h
        .cases this
     have aco:((List.range len).map r).length=len:=(by simp);have get:∀(i:Nat)(c:List AV),((List.range len).map r)[i]? =some c->i<len/\c=r i:=λi c hi=>by
        rw[Zb7]at hi;by_cases h:i<len
        .rw[Zm7 h]at hi;simp at hi;exact⟨h,hi.symm⟩
        .rw[Zb1 (by simpa using h)]at hi;cases hi
     refine⟨_,⟨false,(List.range len).map r,rfl,?_,by simp;omega⟩,λρ m=>ak.cons ?_ ak.nil⟩
     .  intro q hq;simp only[Zf1,List.mem_range]at hq;obtain⟨i,hi,rfl⟩:=hq;exact(hr i hi).1
     .  have key:aj ρ m (λad=>w.cell? ad) (.fl ((List.range len).map r) es) (.slice (some a) ((List.range len).map r).length cap):=by
          refine .fl _ es cap a (λi j=>((row i)[j]?).getD .nilFunc) (by omega) (λh0=>aac ?_) (λi c hi=> ?_) (λi j c v hi hj=> ?_) (λi j c v hi hj=> ?_)
          .apply Zi2;intro h;apply h0;have:len=0:=(by omega);subst this;rfl
          .obtain⟨h1,rfl⟩:=get i c hi;exact hQ _ (hr i h1).1
          . obtain⟨h1,rfl⟩:=get i c hi;obtain⟨q1,q2,q3⟩:=hr i h1;have hj2:j<es:=(by rw[<-hQ _ q1];exact(H3.1 hj).1);have q4:=(World.cells?_some q2).2.2 j hj2;have q5:=(World.cells?_some q2).2.1;have hs:=aac (by omega);have e1:(a.add (i*es)).add j=⟨a.block,a.off+i*es+j,none⟩:=by
             obtain⟨aq,off,spot⟩:=a;simp only at hs;subst hs;unfold Addr.add;by_cases e1:i*es=0<;>by_cases e2:j=0<;>simp[e1,e2]
            rw[e1]at q4;show w.cell? _=_;rw[q4,H1 (by omega)];rfl
          .obtain⟨h1,rfl⟩:=get i c hi;obtain⟨q1,q2,q3⟩:=hr i h1;have hj2:j<es:=(by rw[<-hQ _ q1];exact(H3.1 hj).1);have q5:=(World.cells?_some q2).2.1;refine(q3 ρ m).2 j v _ hj ?_;rw[H1 (by omega)];rfl
        rw[aco]at key;exact key
theorem Gv{ON n:Nat}:∀(fs:List Field)(Qs:List (List AV->Prop))(o:Nat)(cs:List Value),vB P ON o fs=true->Nk Ok enc P w base spare held (fs.map (·.type)) Qs->cs.length=ON->
  (∀f∈fs,∃y,DataW.trod enc P w base spare held n f.type ((cs.drop f.offset).take (P.cellsOf f.type))=some y/\Ok y.1)->
  ∃parts,Ap Qs parts/\∀ρ m,ak ρ m (λad=>w.cell? ad) parts.flatten (cs.drop o)
 |[],[],o,cs,hc,_,hl,_=>by simp only[vB,Zn8]at hc;refine⟨[],trivial,λρ m=> ?_⟩;rw[Zl3 (by omega)];exact ak.nil
 |f::fs,Q::Qs,o,cs,hc,hO,hl,hf=>by
  simp only[vB,Za2,Zn8]at hc;obtain⟨y,hy,hyk⟩:=hf f (by simp);obtain⟨as,hq,hv⟩:=hO.1 n _ y hy hyk;obtain⟨parts,hp,Hj⟩:=Gv fs Qs _ cs hc.2 hO.2 hl (λg hg=>hf g (Za1 _ hg));refine⟨as::parts,⟨hq,hp⟩,λρ m=> ?_⟩;have e:cs.drop o=(cs.drop f.offset).take (P.cellsOf f.type)++cs.drop (o+P.cellsOf f.type):=by
   rw[hc.1, <-Zl2,Zj7]
  rw[e,Zf6];exact(hv ρ m).append (Hj ρ m)
theorem yC{t:TypeId}(ts:List TypeId){Qs:List (List AV->Prop)}(hs:Fl P t=true)(cK:(fieldsOf P t).map (·.type)=ts)(hc:vB P (P.cellsOf t) 0 (fieldsOf P t)=true)(cJ:∀ps,Ok (.agg ps)->∀d∈ps,Ok d)(hO:Nk Ok enc P w base spare held ts Qs):
  bU Ok enc P w base spare held t λas=>∃parts,as=parts.flatten/\Ap Qs parts:=
 fun fuel cs x hx hk=>by
  obtain⟨fs,ht⟩:∃fs,P.underlying t=some (.struct fs):=by
     unfold Fl at hs;cases h:P.underlying t with
     |none=>rw[h]at hs;cases hs
     |some d=>rw[h]at hs;cases d<;>first|exact⟨_,rfl⟩|cases hs
  have ef:fieldsOf P t=fs.toList:=by unfold fieldsOf;rw[ht]
  rw[ef]at cK hc;subst cK;obtain⟨xs,n,_,rfl,hl,hxl,hf⟩:=DataW.trod_struct ht hx;have hE:=cJ _ hk;obtain⟨parts,hp,hv⟩:=Gv fs.toList Qs 0 cs hc hO hl (λf hf2=>by
     obtain⟨i,hi⟩:=List.getElem?_of_mem hf2;have wS:fs[i]? =some f:=(by rw[<-Ze9];exact hi);have aW:i<fs.size:=(Zb6.1 wS).1;exact⟨xs[i],by rw[hf i f wS,H1 (by omega)],hE _ (List.mem_map_of_mem (Zc4 _))⟩)
  exact⟨_,⟨parts,rfl,hp⟩,λρ m=>hv ρ m⟩
end
end
section
open Go Go.WideShapes
section
variable{H:Type}(enc:TypeId×Value->H)(P:Program)(w:World)(base:Nat)(spare:Nat->Bool)(held:Bool)
variable{enc P w base spare held}
theorem Le{Ok:DataW H->Prop}{t e:TypeId}{Q:List AV->Prop}{r:Go.Reach}{b0:Nat}{v:Value}{d:DataW H}{p:List MemPlace}(ho:bU Ok enc P w base spare held t Q)(ht:P.underlying t=some (.slice e))
  (hval:Value.okWide P w r b0 t v) (hd:DataW.Trod enc P w base spare held t v d p) (hk:Ok d):∃as,Q as/\∀ρ n,ak ρ n (λad=>w.cell? ad) as [v]:=by
 obtain⟨a,len,cap,rfl⟩:=okWide_slice ht hval;obtain⟨fuel,hf⟩:=hd;exact ho _ _ _ hf hk
end
end
section
open Go
section
variable{c:ah}{R:Type}
end
theorem Mk.aad{es:Nat}{s0 s s':St}{v:AV}{rows:List (List AV)}(h:Mk es s0 s v rows)(hg:Grew s0 s')(hk:∀b x,dL v=some b->s.heap.get b=some x->s'.heap.get b=some x):Mk es s0 s' v rows:=
 ⟨h.Aq,hg,h.own.mono hk,h.new,h.row,h.cap,λb hb=>hk b _ hb (h.tight b hb)⟩
theorem Mk.vD{es:Nat}{s0 s1 s s':St}{v:AV}{rows:List (List AV)}(h:Mk es s1 s v rows)(h0:Wf s0)(Me:Grew s0 s1)(hg:Grew s0 s')(hk:∀q b,s1.next.toNat<=q.toNat->s.heap.get q=some b->s'.heap.get q=some b):Mk es s0 s' v rows:=
 ⟨h0,hg,h.own.mono (λb x hb hx=>hk b x (h.new b hb) hx),λb hb=>Zc1 Me.next (h.new b hb),h.row,h.cap,λb hb=>hk b _ (h.new b hb) (h.tight b hb)⟩
end
section
open Go Go.WideShapes
theorem bC{Q:List AV->Prop}{Qs:List (List AV->Prop)}{ps:List (List AV)}(h:Ap (Q::Qs) ps):∃p qs,ps=p::qs/\Q p/\Ap Qs qs:=by
 cases ps with
 |nil=>exact h.elim
 |cons p qs=>exact⟨p,qs,rfl,h⟩
theorem xq{ps:List (List AV)}(h:Ap [] ps):ps=[]:=by
 cases ps with
 |nil=>rfl
 |cons p qs=>exact h.elim
section
variable{H:Type}{enc:TypeId×Value->H}{P:Program}{w:World}{base:Nat}{spare:Nat->Bool}{held:Bool}
end
end
section
open Go
noncomputable def Nl(d:Nat)(As:List (List AV))(r:AV):List AV->St->Option (AV×St):=λargs st=>open Classical in if args.map (cu st d)∈As then some (r,st)else none
theorem aaJ{d:Nat}{As:List (List AV)}{r:AV}{args:List AV}{st:St}(A:List AV)(hA:A∈As)(h:args.map (cu st d)=A):Nl d As r args st=some (r,st):=by
 unfold Nl;rw[h,Za7 hA]
theorem W9{P:Program}{C:Cells}{O:dw}{G:T b9}{m n f d:Nat}{As:List (List AV)}{r:AV}(bw:∀C:Cells,dS P C (nC O G m n))(ha:∀A∈As,∀a∈A,Plain a)(hr:Plain r)(hb:bO r)
   (h:(As.all λA=>Bz (R:=Bool) false O G m n f A { heap:= .e,next:= .h } (λv _=>fj v r))=true):kf P C f (Nl d As r):=by
 have unf:∀args st v' st',Nl d As r args st=some (v',st')->v'=r/\st'=st/\(args.map (cu st d))∈As:=by
   intro args st v' st' hs;unfold Nl at hs;(split at hs<;>first|(cases hs;done)|skip);rename_i hc;simp only[H0,Za8]at hs;exact⟨hs.1.symm,hs.2.symm,hc⟩
 refine⟨λargs st v' st' hs=> ?_,λρ st w args v' st' br hs hW hv=> ?_⟩
 .obtain⟨_,rfl,_⟩:=unf _ _ _ _ hs;exact H5 _
 . obtain⟨rfl,rfl,hA⟩:=unf _ _ _ _ hs;have hk:=Zd4.1 h _ hA;rw[Fe false O G m n]at hk;unfold lq at hk;(split at hk<;>first|(cases hk;done)|skip);rename_i x hx;obtain⟨v,aJ⟩:=x;have h1:=nJ hk;subst h1;have JD:=ak.cu hW d hv;have Ds:ak ρ (Pos.h).toNat (λad=>w.cell? ad) (args.map (cu st' d)) br:=⟨JD.1,λi u y hu hy=>ha _ hA u (Zb8 hu) _ _ _ _ _ _ (JD.2 i u y hu hy)⟩
   (refine Reaches.mono (λx w' hp=> ?_) (bw (λad=>w.cell? ad) ρ { heap:= .e,next:= .h } w f _ _ aJ br hx (xR (λad u hu=>hu) λa u _ o ho=>ho) Ds);obtain⟨ρ',k1,k2,k3,k4,hE⟩:=hp;have un:∀k,k<w.heap.size->w'.heap[k]? =w.heap[k]? :=λk hk=>hE.block k hk λb x hb=>by rw[T.cR]at hb;cases hb);refine⟨ρ,hb _ _ _ _ _ (hr _ _ _ _ _ _ k1),λ_ _=>rfl,H5 _,⟨λb x hb=> ?_,hW.inj,λa u hu=> ?_,λa u hu o ho=> ?_⟩,⟨hE.os,hE.tape,hE.output,hE.size,λk hk _=>un k hk,λb x hb=>.inl ⟨b,x,hb,rfl⟩⟩⟩
   .obtain⟨l1,l2,l3⟩:=hW.live b x hb;exact⟨l1,Zb5 l2 hE.size,l3.of_heap (un _ l2)⟩
   .obtain⟨c1,c2⟩:=hW.cL a u hu;exact⟨(k4.cL a u c1).1,c2⟩
   .have aW:a.block<w.heap.size:=World.block_lt_of_cell? _ _ (hW.cL a u hu).1;rw[World.cell?_of_block (w:=w) (a:=⟨a.block,o,none⟩) (un _ aW)];exact hW.whole a u hu o ho
end
section
open Go Go.ChangeShapes Go.WideShapes Go.ChangeAt Go.RowKit
section
variable{H:Type}{enc:TypeId×Value->H}{P:Program}{w:World}{base:Nat}{spare:Nat->Bool}{held:Bool}
theorem Kl{Ok:DataW H->Prop}{t:TypeId}{fs:Array Field}{Q:List AV->Prop}{r:Go.Reach}{b0:Nat}{v:Value}{d:DataW H}{p:List MemPlace}(ho:bU Ok enc P w base spare held t Q)(ht:P.underlying t=some (.struct fs))
  (hval:Value.okWide P w r b0 t v) (hd:DataW.Trod enc P w base spare held t v d p) (hk:Ok d):∃as,Q as/\∀ρ n,aj ρ n (λad=>w.cell? ad) (.agg as) v:=by
 obtain⟨cs,rfl,_⟩:=okWide_struct ht hval;obtain⟨fuel,hf⟩:=hd;obtain⟨as,h1,h2⟩:=ho _ _ _ hf hk;refine⟨as,h1,λρ n=> ?_⟩;have h3:=h2 ρ n;refine .agg as cs (by rw[h3.1];simp[Value.cells]) λi x x' hx nr=>h3.2 i x x' hx ?_
 simpa [Value.cells]using nr
end
end
noncomputable section
open Go
inductive Un where
 |z
 |s (n:Un)
def un:Nat->Un
 |0=>.z
 |n+1=>.s (un n)
inductive Tx where
 |bad
 |op (k:au) (xs:List dh) (d:Option Pos) (t:Tx)
 |gop (g:Pos) (w:Bool) (k:au) (xs:List dh) (d:Option Pos) (t:Tx)
 |dr (t:Tx)
 |pr (k:au) (xs:List dh) (d:Option Pos) (t:Tx)
 |JT (g:Pos) (w:Bool) (k:au) (xs:List dh) (d:Option Pos) (t:Tx)
 |rd (b:List Bool) (k:au) (xs:List dh) (d:Option Pos) (t:Tx)
 |JU (g:Pos) (w:Bool) (b:List Bool) (k:au) (xs:List dh) (d:Option Pos) (t:Tx)
 |nw (k:au) (xs:List dh) (d:Option Pos) (t:Tx)
 |gnw (g:Pos) (w:Bool) (k:au) (xs:List dh) (d:Option Pos) (t:Tx)
 |ef (k:au) (xs:List dh) (d:Option Pos) (t:Tx)
 |gef (g:Pos) (w:Bool) (k:au) (xs:List dh) (d:Option Pos) (t:Tx)
 |HG (x:dh) (a b:Tx)
 |jn (l:List Pos) (a b:Tx)
 |jmp (i:Un) (l:List Pos)
 |arg (l:List Pos) (t:Tx) (r:Tx)
 |lp (j:Un) (ins:List Pos)
 |agn (ins:List Pos)
 |out (i:Un) (l:List Pos)
 |res (rs:List xL)
def txO:List aU->Tx->Tx
 |[],t=>t
 |  o::os,t=>match o.guard with
    |none=>.op o.k o.xs o.dst (txO os t)
    |some (p,w)=>.gop p w o.k o.xs o.dst (txO os t)
def bitsOf(bl:Nat):List Nat->List Bool
 |[]=>[]
 |i::is=>bl.testBit i::bitsOf bl is
def Mf:List (Nat×aU)->List Nat->Tx->Tx
 |[],_,t=>t
 |  (j,o)::os,is,t=>match o.cls,o.guard with
    |.pure,none=>.pr o.k o.xs o.dst (Mf os (j::is) t)
    |.pure,some (p,w)=> .JT p w o.k o.xs o.dst (Mf os (j::is) t)
    |.read,none=>.rd (bitsOf o.bl is) o.k o.xs o.dst (Mf os (j::is) t)
    |.read,some (p,w)=> .JU p w (bitsOf o.bl is) o.k o.xs o.dst (Mf os (j::is) t)
    |.new,none=>.nw o.k o.xs o.dst (Mf os (j::is) t)
    |.new,some (p,w)=>.gnw p w o.k o.xs o.dst (Mf os (j::is) t)
    |.aC,none=>.ef o.k o.xs o.dst (Mf os (j::is) t)
    |.aC,some (p,w)=>.gef p w o.k o.xs o.dst (Mf os (j::is) t)
def txA(K:gY->Tx):List (Nat×List Pos)->Tx->Tx
 |[],t=>t
 |(e,l)::r,t=>.arg l (K (exOf e)) (txA K r t)
def tx:AC->Sh->Nat->(gY->Nat->Tx)->Tx
 |.skip,_,d,K=>K .normal d
 |.region ops,_,d,K=>txO ops (K .normal d)
 |.draw ops,_,d,K=>.dr (Mf ops [] (K .normal d))
 |  .seq a b,s,d,K=>match s with
    | .seq none s t=>tx a s d λex d=>match ex with
      |.normal=>tx b t d K
      |.exit i=>K (.exit i) d
      |.ret=>K .ret d
    | .seq (some l) s t=>.jn l (tx a s (d+1) λex d'=>match ex with
      |.normal=>.jmp (un (d' - d - 1)) l
      |.exit i=>K (.exit i) d'
      |.ret=>K .ret d') (tx b t d K)
    |_=>.bad
 |  .cond x a b,s,d,K=>match s with
    |.cond s t=> .HG x (tx a s d K) (tx b t d K)
    |_=>.bad
 |  .block id a,s,d,K=>match s with
    | .block s=>tx a s d λex d=>match ex with
      |.normal=>K .normal d
      | .exit i=>match Nat.beq i id with
        |true=>K .normal d
        |false=>K (.exit i) d
      |.ret=>K .ret d
    |_=>.bad
 |  .loop _,s,d,K=>match s with
    |.loop j ins outs _=>txA (λex=>K ex d) outs (.lp (un j) ins)
    |_=>.bad
 |.exit id,_,d,K=>K (.exit id) d
 |.ret,_,d,K=>K .ret d
def idxOf:List (Nat×List Pos)->Nat->Nat
 |[],_=>0
 |  (i,_)::r,e=>match Nat.beq i e with
    |true=>0
    |false=>idxOf r e+1
def txF(A:b9)(s:Sh):Tx:=tx A.code s 0 λex _=>match ex with
 |.normal=>.res A.results
 |.ret=>.res A.results
 |.exit _=>.bad
def txL(x:AC×Sh):List Pos×Tx:=match x.2 with
 |  .loop _ ins outs s=>(ins,tx x.1 s 0 λex _=>match ex with
    |.normal=>.agn ins
    |.exit i=>.out (un (idxOf outs (i+2))) (Ji outs (i+2))
    |.ret=>.out (un (idxOf outs 1)) (Ji outs 1))
 |_=>([],.bad)
section
variable{R:Type}
abbrev KK(R:Type):=List AV->St->Option R
abbrev O2:=Option (AV×St)
abbrev Q2:=KK (AV×St)
def wO:Unit:=(λ_=>()) (@den AV)
def tM(p:Pos)(fr:Fr)(k:AV->Option R):Option R:=match fr.get p with
 |some v=>k v
 |none=>(λ_=>none) wO
def vE(p:Pos)(v:AV)(fr:Fr)(k:Fr->Option R):Option R:=(λ_=>k (fr.put (some v) p)) wO
def vF(d:Option Pos)(v:AV)(fr:Fr)(k:Fr->Option R):Option R:=match d with
 |some p=>vE p v fr k
 |none=>k fr
def xX(fr:Fr):List dh->(List AV->Option R)->Option R
 |[],k=>k []
 |.t p::xs,k=>tM p fr λv=>xX fr xs λvs=>k (v::vs)
 |.c v::xs,k=>xX fr xs λvs=>k (v::vs)
def getLT:List Pos->Fr->(List AV->Option R)->Option R
 |[],_,k=>k []
 |p::ps,fr,k=>tM p fr λv=>getLT ps fr λvs=>k (v::vs)
def xI:List Pos->List AV->Fr->(Fr->Option R)->Option R
 |[],vs,fr,k=>fG vs (k fr)
 |p::ps,vs,fr,k=>dO vs λv vs=>vE p v fr λfr=>xI ps vs fr k
def Mg(p:Pos)(k:Pos->Option R):Option R:=(λ_=>k p.succ) wO
def KN:Pos->List AV->Fr->(Fr->Option R)->Option R
 |_,[],fr,k=>k fr
 |p,v::vs,fr,k=>vE p v fr λfr=>Mg p λp=>KN p vs fr k
def OT:Un->List (KK R)->KK R
 |.z,k::_=>k
 |.s n,_::ks=>OT n ks
 |_,[]=>λ_ _=>none
def vG:List Bool->T AB->List RC->T AB
 |  b ::bs,h,r::rs=>match r with
    | .new id aq=>match b with
      |true=>(vG bs h rs).put (some aq) id
      |false=>vG bs h rs
    |.aC _ _=>h
    |.pure=>vG bs h rs
 |_,h,_=>h
def vH(k:au)(xs:List AV)(v:AV):List (Pos×AB)->List Bool->List RC->Bool
 |  up,b::bs,r::rs=>match r with
    | .new id aq=>match b with
      |true=>vH k xs v ((id,aq)::up) bs rs
      |false=>vH k xs v up bs rs
    | .aC base _=>match b with
      |true=>true
      |false=>mj k xs v (u5 up (vG bs base rs))&&vH k xs v up bs rs
    |.pure=>vH k xs v up bs rs
 |_,_,_=>true
def HR(fr:Fr)(st:St):List xL->(List AV->Option R)->Option R
 |[],k=>k []
 |.tmp p::rs,k=>tM p fr λv=>HR fr st rs λvs=>k (v::vs)
 |.cell p n::rs,k=>tM p fr λq=>ldr n q st λv=>HR fr st rs λvs=>k (v::vs)
def Qa(as:List (KK R))(f:KK R)(k:List (KK R)->Option R):Option R:=(λ_=>k (as++[f])) wO
def pkR(vs:List AV)(st:St):Option (AV×St):=some (fk vs,st)
end
section
variable(c:ah)(F:Nat)(Ls:Un->List Q2->Nat->Q2)(ag:Q2)(ko:List Q2)
def Ug(fr:Fr)(x:dh)(k:AV->Option (AV×St)):Option (AV×St):=match x with
 |.t p=>tM p fr k
 |.c v=>k v
def ev:Tx->List (KK (AV×St))->List (KK (AV×St))->Fr->St->List RC->T AB->Option (AV×St)
 |.bad,_,_,_,_,_,_=>none
 |.op k xs d t,ks,as,fr,st,rs,b=>xX fr xs λvs=>ai c k vs st λv st=>vF d v fr λfr=>ev t ks as fr st rs b
 |.gop g w k xs d t,ks,as,fr,st,rs,b=>xX fr xs λvs=>tM g fr λg=>bh c g w k vs st λv st=>vF d v fr λfr=>ev t ks as fr st rs b
 |.dr t,ks,as,fr,st,_,_=>ev t ks as fr st [] st.heap
 |.pr k xs d t,ks,as,fr,st,rs,b=>xX fr xs λvs=>gu k vs λv=>vF d v fr λfr=>ev t ks as fr st (.pure::rs) b
 | .JT g w k xs d t,ks,as,fr,st,rs,b=>xX fr xs λvs=>tM g fr λg=>JT g w k vs λv=>vF d v fr λfr=>ev t ks as fr st (.pure::rs) b
 |.rd bs k xs d t,ks,as,fr,st,rs,b=>xX fr xs λvs=>lX k vs (vG bs b rs) (λv=>vH k vs v [] bs rs) λv=>vF d v fr λfr=>ev t ks as fr st (.pure::rs) b
 | .JU g w bs k xs d t,ks,as,fr,st,rs,b=>xX fr xs λvs=>tM g fr λg=>JU g w k vs (vG bs b rs) (λv=>vH k vs v [] bs rs) λv=>vF d v fr λfr=>ev t ks as fr st (.pure::rs) b
 |.nw k xs d t,ks,as,fr,st,rs,b=>xX fr xs λvs=>OH k vs st λv aq=>vF d v fr λfr=>ev t ks as fr (af st aq) (.new st.next aq::rs) b
 |.gnw g w k xs d t,ks,as,fr,st,rs,b=>xX fr xs λvs=>tM g fr λg=>JV g w (OH k vs st λv aq=>vF d v fr λfr=>ev t ks as fr (af st aq) (.new st.next aq::rs) b) (vF d .undef fr λfr=>ev t ks as fr st (.pure::rs) b)
 |.ef k xs d t,ks,as,fr,st,rs,b=>xX fr xs λvs=>ai c k vs st λv st'=>vF d v fr λfr=>ev t ks as fr st' (.aC b st'.heap::rs) st'.heap
 |.gef g w k xs d t,ks,as,fr,st,rs,b=>xX fr xs λvs=>tM g fr λg=>JV g w (ai c k vs st λv st'=>vF d v fr λfr=>ev t ks as fr st' (.aC b st'.heap::rs) st'.heap) (vF d .undef fr λfr=>ev t ks as fr st (.pure::rs) b)
 | .HG x t u,ks,as,fr,st,rs,b=>Ug fr x λv=>HG v (ev t ks as fr st rs b) (ev u ks as fr st rs b)
 |.jn l t u,ks,as,fr,st,rs,b=>vu (λk=>ev t (k::ks) as fr st rs b) (λvs st=>xI l vs .e λfr=>ev u ks as fr st [] .e)
 |.jmp i l,ks,_,fr,st,_,_=>getLT l fr λvs=>OT i ks vs st
 |.arg l t r,ks,as,fr,st,rs,b=>Qa as (λos st=>xI l os .e λfr=>ev t ks [] fr st [] .e) λas=>ev r ks as fr st rs b
 |.lp j ins,_,as,fr,st,_,_=>getLT ins fr λvs=>Ls j as F vs st
 |.agn ins,_,_,fr,st,_,_=>getLT ins fr λvs=>ag vs st
 |.out i l,_,_,fr,st,_,_=>getLT l fr λvs=>OT i ko vs st
 |.res rs,_,_,fr,st,_,_=>HR fr st rs λvs=>pkR vs st
def eU(p:List Pos×Tx)(vs:List AV)(st:St):Option (AV×St):=xI p.1 vs .e λfr=>ev c F Ls ag ko p.2 [] [] fr st [] .e
end
def bu{R:Type}:Un->List (KK R)->Nat->KK R:=λ_ _ _ _ _=>none
def fH{R:Type}:KK R:=λ_ _=>none
def bg(c:ah)(F:Nat)(Ls:Un->List Q2->Nat->Q2)(t:Tx)(args:List AV)(st:St):O2:=KN .h args .e λfr=>ev c F Ls fH [] t [] [] fr st [] .e
def lu(Ls:Un->List Q2->Nat->Q2)(A:b9)(s:Sh):Env (AV×St):=λj K=>Ls (un j) ((WX (ey A s j).2).map λo=>K o.1)
def sl:Sh:= .leaf
def sq(a b:Sh):Sh:= .seq none a b
def sj(l:List Nat)(a b:Sh):Sh:= .seq (some (l.map key)) a b
def sc(a b:Sh):Sh:= .cond a b
def sb(a:Sh):Sh:= .block a
def sp(j:Nat)(ins:List Nat)(outs:List (Nat×List Nat))(a:Sh):Sh:= .loop j (ins.map key) (outs.map λo=>(o.1,o.2.map key)) a
section
variable{R:Type}(l r:Fr)(v u:AV)(x:Option AV)(p:Pos)(fr:Fr)(k:AV->Option R)(K:Fr->Option R)(kp:Pos->Option R)
theorem HS:tM .h (.n l (some v) r) k=k v:=rfl
theorem HT:tM (.o p) (.n l x r) k=tM p l k:=rfl
theorem HU:tM (.i p) (.n l x r) k=tM p r k:=rfl
theorem DD:vE .h v .e K=K (.n .e (some v) .e):=rfl
theorem DE:vE .h v (.n l x r) K=K (.n l (some v) r):=rfl
theorem DF:vE (.o p) v .e K=vE p v .e λt=>K (.n t none .e):=rfl
theorem DG:vE (.o p) v (.n l x r) K=vE p v l λt=>K (.n t x r):=rfl
theorem DH:vE (.i p) v .e K=vE p v .e λt=>K (.n .e none t):=rfl
theorem DI:vE (.i p) v (.n l x r) K=vE p v r λt=>K (.n l x t):=rfl
theorem HV:vF none v fr K=K fr:=rfl
theorem HW:vF (some p) v fr K=vE p v fr K:=rfl
theorem DJ:Mg .h kp=kp (.o .h):=rfl
theorem DK:Mg (.o p) kp=kp (.i p):=rfl
theorem DM:Mg (.i p) kp=Mg p λq=>kp (.o q):=rfl
theorem DN(f:KK R)(k:List (KK R)->Option R):Qa [] f k=k [f]:=rfl
theorem DO(a:KK R)(as:List (KK R))(f:KK R)(k:List (KK R)->Option R):Qa (a::as) f k=Qa as f λl=>k (a::l):=rfl
theorem Mh(st:St):pkR [] st=some (.tuple [],st):=rfl
theorem Mi(st:St):pkR [v] st=some (v,st):=rfl
theorem Mj(vs:List AV)(st:St):pkR (v::u::vs) st=some (.tuple (v::u::vs),st):=rfl
theorem xJ(c:ah)(F:Nat)(Ls:Un->List Q2->Nat->Q2)(ag:Q2)(ko:List Q2)(l:List Pos)(t:Tx)(vs:List AV)(st:St):eU c F Ls ag ko (l,t) vs st=xI l vs .e λfr=>ev c F Ls ag ko t [] [] fr st [] .e:=rfl
end
def ry{α:Type}:Option α->Bool
 |none=>true
 |some _=>false
theorem abq{α:Type}{o:Option α}(h:ry o=true):o=none:=by cases o with|none=>rfl|some _=>cases h
theorem abr{α:Type}[Inhabited α]{o:Option α}(h:ry o=false):o=some (o.getD default):=by cases o with|none=>cases h|some _=>rfl
def pQ(G:T b9)(f:Nat):b9:=(G.get (key f)).getD default
theorem Xa{O:dw}{G:T b9}{F:Nat}{L:Env (AV×St)}{f:FuncId}{s:Sh}{args:List AV}{st:St}{r:AV×St}(hk:(ry (O f)&& !ry (G.get (key f)))=true)
  (hL:∀x∈dn (pQ G f).code s,vw (run O G) F L x.1 x.2) {k:O2} (hd:yA (run O G) F L (pQ G f) s args st=k) (h:k=some r):run O G f args st=some (tidy st r):=by
 simp only[Za2,Zg3]at hk;exact YC (abq hk.1) (abr hk.2) hL (hd.trans h)
theorem Uh{O:dw}{G:T b9}{F:Nat}{f:FuncId}{args:List AV}{st:St}{r:AV×St}(s:Sh)(hk:(ry (O f)&& !ry (G.get (key f))&&(dn (pQ G f).code s).isEmpty)=true)
  {k:O2} (hd:yA (run O G) F (P7 []) (pQ G f) s args st=k) (h:k=some r):run O G f args st=some (tidy st r):=by
 rw[Za2,List.isEmpty_iff]at hk;exact Xa hk.1 (by rw[hk.2];intro x hx;cases hx) hd h
theorem Nm{O:dw}{G:T b9}{F:Nat}{f:FuncId}{args:List AV}{st:St}{r:AV×St}(Ls:Un->List Q2->Nat->Q2)(s:Sh)(n:Nat)(hk:(ry (O f)&& !ry (G.get (key f))&&Nat.beq (dn (pQ G f).code s).length n)=true)
  (hL:∀i,i<n->vw (run O G) F (lu Ls (pQ G f) s) (ey (pQ G f) s i).1 (ey (pQ G f) s i).2) {k:O2} (hd:yA (run O G) F (lu Ls (pQ G f) s) (pQ G f) s args st=k) (h:k=some r):run O G f args st=some (tidy st r):=by
 rw[Za2]at hk;exact Xa hk.1 (YD n hk.2 hL) hd h
theorem Ui {O:dw} {G:T b9}  {F:Nat}{f:FuncId}{args:List AV}{st:St}{r:AV×St}(Ls:Un->List Q2->Nat->Q2)(s:Sh)(hk:(ry (O f)&& !ry (G.get (key f))&&Nat.beq (dn (pQ G f).code s).length 1)=true)
  (hs:(Ng (ey (pQ G f) s 0).2&&Nat.beq (WW (ey (pQ G f) s 0).2) 0)=true) (h0:∀K' vs st,lu Ls (pQ G f) s 0 K' 0 vs st=none)
  (h1:∀K' n vs st,lu Ls (pQ G f) s 0 K' (n+1) vs st=DA (den (run O G) F (lu Ls (pQ G f) s) (ey (pQ G f) s 0).1 (lpB (ey (pQ G f) s 0).2)) (lpI (ey (pQ G f) s 0).2) (WX (ey (pQ G f) s 0).2) K' (lu Ls (pQ G f) s 0 K' n) vs st)
  {k:O2} (hd:yA (run O G) F (lu Ls (pQ G f) s) (pQ G f) s args st=k) (h:k=some r):run O G f args st=some (tidy st r):=
 Nm Ls s 1 hk (fun i hi=>by obtain rfl:i=0:=by omega
                            exact nL 0 hs h0 h1) hd h
end
section
open Go
end
section
def tN(tk:List Bool)(fr:Nat):Nat->Nat->Option Nat
 |0,_=>none
 |m+1,k=>if tk.getD ((fr+k) % tk.length) true=false then some ((fr+k) % tk.length)else tN tk fr m (k+1)
def Ml(tk:List Bool)(fr:Nat):List Bool×Int:=match tN tk fr tk.length 0 with
 |some s=>(tk.set s true,(s:Int))
 |none=>(tk,-1)
theorem Gw{tk:List Bool}{fr s:Nat}:∀{m k:Nat},tN tk fr m k=some s->tk[s]? =some false
 |0,_,h=>by cases h
 |m +1,k,h=>by
  unfold tN at h;split at h
  . rename_i e;cases h;cases e2:tk[(fr+k) % tk.length]? with
    |none=>rw[Zd7,e2]at e;simp at e
    |some b=>rw[Zd7,e2]at e;simp at e;rw[e]
  .exact Gw h
theorem Gx{tk:List Bool}{fr:Nat}:∀{m k:Nat},tN tk fr m k=none->∀j,k<=j->j<k+m->tk.getD ((fr+j) % tk.length) true=true
 |0,_,_,j,h1,h2=>by omega
 |m +1,k,h,j,h1,h2=>by
  unfold tN at h;split at h
  .cases h
  . rename_i e;by_cases e2:j=k
    .subst e2;simpa using e
    .exact Gx h j (by omega) (by omega)
def Mm(tk:List Bool):Nat:=(tk.filter λb=> !b).length
theorem OU:∀{tk:List Bool},0<Mm tk->∃s:Nat,tk[s]? =some false
 |[],h=>by simp[Mm]at h
 |false::tk,_=>⟨0,rfl⟩
 |true::tk,h=>by
  obtain⟨s,hs⟩:=OU (tk:=tk) (by simpa [Mm]using h);exact⟨s+1,by simpa using hs⟩
theorem Rt(tk:List Bool)(fr:Nat):((Ml tk fr).2= -1/\(Ml tk fr).1=tk/\Mm tk=0)\/∃s:Nat,Ml tk fr=(tk.set s true,(s:Int))/\tk[s]? =some false:=by
 unfold Ml;cases e:tN tk fr tk.length 0 with
 |some s=>exact .inr ⟨s,rfl,Gw e⟩
 |none=>
  refine .inl ⟨rfl,rfl,?_⟩;rcases Zn1 (Mm tk)with h|h
  .exact h
  . exfalso;obtain⟨s,hs⟩:=OU h;have hl:s<tk.length:=(H3.1 hs).1;have key:=Gx e ((s+tk.length - fr % tk.length) % tk.length) (Zk7 _) (by rw[Zc8];exact Nat.mod_lt _ (by omega));have hm:fr % tk.length<tk.length:=Nat.mod_lt _ (by omega);have:(fr+(s+tk.length - fr % tk.length) % tk.length) % tk.length=s:=by
        rw[Nat.add_mod,Nat.mod_mod];rcases Zh5 (s+tk.length - fr % tk.length) tk.length with h1|h1
        .rw[Zj2 h1];rw[show fr % tk.length+(s+tk.length - fr % tk.length)=s+tk.length by omega,Nat.add_mod_right,Zj2 hl]
        .rw[Zn0 h1,Zj2 (by omega:s+tk.length - fr % tk.length - tk.length<tk.length)];rw[show fr % tk.length+(s+tk.length - fr % tk.length - tk.length)=s by omega,Zj2 hl]
    rw[this,Zd7,hs]at key;simp at key
inductive Ch where
 |no
 |sit (s:Nat)
 |fr (f:Nat)
def looks:List Ch->Nat
 |[]=>0
 |.fr _::l=>looks l+1
 |_::l=>looks l
end
section
open Go
section
variable{R:Type}{c:ah}
end
theorem YS{R:Type}(K:AV->Option R){b:Pos}{off len es es':Nat}{cap:Option Nat}{k:IntKind}{i:Nat}(h:i<len):gu (.idxA es none) [.slice b off len cap es',.int k (i:Int)] K=K (.ptr b (off+i*es)):=
 cO K (λH n=>by
  simp only[au.run,mg,g9];have:Nat.blt i len=true:=by rw[Nat.blt_eq];exact h
  rw[this])
structure Rd(s:St)(es:Nat)(L:AV)(i:Nat)(b:Pos)(o:Nat)(r:List AV):Prop where
 st:∀{R:Type}(c:ah)(K:AV->St->Option R)(k:IntKind)(s1:St),ai c (.idxA es none) [L,.int k (i:Int)] s1 K=K (.ptr b o) s1
 pr:∀{R:Type}(K:AV->Option R)(k:IntKind),gu (.idxA es none) [L,.int k (i:Int)] K=K (.ptr b o)
 at':∀(j:Nat)(u:AV),r[j]? =some u->((cellsOf (s.heap.get b)).bind λcs=>cs[o+j]?)=some u
 all:((cellsOf (s.heap.get b)).bind λcs=>cut cs o es)=some r
theorem QS.rd{s:St}{es:Nat}{v:AV}{rows:List (List AV)}(h:QS es s v rows)(hr:∀r∈rows,r.length=es){i:Nat}{r:List AV}(hi:rows[i]? =some r):∃b o,Rd s es v i b o r:=by
 obtain⟨jz,rfl⟩:=H3.1 hi;have hlen:=hr _ (Zc4 jz);rcases h with⟨rfl,h⟩|⟨b,off,cap,cs,rfl,g1,g2,g3,g4⟩|⟨b,off,rfl,h⟩
 .rw[h]at jz;simp at jz
 rotate_left
 .rw[h]at jz;simp at jz
 have hmul:(i+1)*es<=rows.length*es:=Zg7 _ jz;rw[Zi6]at hmul;have at0:∀(j:Nat)(u:AV),rows[i][j]? =some u->cs[off+i*es+j]? =some u:=λj u hj=>by have hj2:j<es:=(by rw[<-hlen];exact(H3.1 hj).1);have:=Go.Ai.Fq hr i j rows[i] u (H1 jz) hj;rw[<-g3,Zb0,Za7 (by omega),Zc6]at this;rw[<-this];congr 1;omega
 refine⟨b,off+i*es,λc K k s1=>Rr c K s1 jz,λK k=>YS K jz,λj u hj=>by rw[g1];exact at0 j u hj,?_⟩;rw[g1];show cut cs (off+i*es) es=some rows[i];unfold cut;rw[dZ,Za3 (by omega)];refine congrArg some ?_;apply Zi5;intro j;by_cases hj:j<es
 .rw[Zb0,Za7 hj,Zc6];exact(at0 j (rows[i]'jz)[j] (H1 (by omega))).trans (H1 (by omega)).symm
 .rw[Zb1 (by simp;omega),Zb1 (by omega)]
theorem Rd.one{s:St}{L x:AV}{i:Nat}{b:Pos}{o:Nat}(h:Rd s 1 L i b o [x]):((cellsOf (s.heap.get b)).bind λcs=>cs[o]?)=some x:=h.at' 0 x rfl
theorem QS.rd1{s:St}{v:AV}{l:List AV}(h:QS 1 s v (l.map Vk)){i:Nat}{x:AV}(hx:l[i]? =some x):∃b o,Rd s 1 v i b o [x]:=
 h.rd (YQ l) (by rw[Zb7,hx];rfl)
theorem QS.aY{es:Nat}{s s':St}{v:AV}{rows:List (List AV)}(h:QS es s v rows)(g:Grew s s'):QS es s' v rows:=h.mono λb x _ hx=>g.get hx
section
variable{c:ah}{R:Type}
theorem aae{x:Int}(h1:0<=x)(h2:x<=18446744073709551615):aB .u64 x=x:=by
 unfold aB Qn Qo;simp only;split
 . split
   .rfl
   .contradiction
 .contradiction
end
end
end Go.Ai
