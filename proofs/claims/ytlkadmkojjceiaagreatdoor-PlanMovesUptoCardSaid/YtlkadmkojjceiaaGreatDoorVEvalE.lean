/- The program as plain functions. -/
import Derived.Test.YtlkadmkojjceiaaGreatDoorVEvalD
import Derived.WalkKit
import Derived.OpenShut
import Derived.ProofKit
import Derived.ShutString
set_option linter.all false
namespace Go.Ai
section
open Go Go.RowKit
def NO(c c':ah):Prop:=∀f args st r,c f args st=some r->c' f args st=some r
theorem NO.refl(c:ah):NO c c:=λ_ _ _ _ h=>h
section
variable{c c':ah}
theorem IJ(h:NO c c'){k:az}{xs:List AV}{st:St}{r:AV×St}(e:aV c k xs st=some r):aV c' k xs st=some r:=by
 unfold aV at e ⊢;cases hr:k.run (λb=>st.heap.get b) st.next xs with
 |none=>simp[hr]at e
 |some x=>cases x with
  |val v=>simpa [hr]using e
  |aF v d s n=>simpa [hr]using e
  |call f args=>simp only[hr]at e ⊢; exact h _ _ _ _ e
theorem M9(h:NO c c'):∀(os:List bg)(fr:Fr)(st:St)(r:Fr×St),iJ c os fr st=some r->iJ c' os fr st=some r
 |[],_,_,_,e=>e
 |o::os,fr,st,r,e=>by
  unfold iJ at e ⊢;cases hw:bI fr o.guard with
  |none=>simp[hw]at e
  |some b=>cases b with
   |false=>simp only[hw]at e ⊢; exact M9 h _ _ _ _ e
   |    true=>
        simp only[hw]at e ⊢;cases hx:dN fr o.xs with
        |none=>simp[hx]at e
        |some xs=>
         simp only[hx]at e ⊢;cases hs:aV c o.k xs st with
         |none=>simp[hs]at e
         |some p=>simp only[hs]at e;simp only[IJ h hs];exact M9 h _ _ _ _ e
theorem OP (h:NO c c'):∀(os:List (Nat×bg))(recs:List Rec)(base:T AB)(fr:Fr)(st:St)(r:Fr×St),cH c os recs base fr st=some r->cH c' os recs base fr st=some r
 |[],_,_,_,_,_,e=>e
 |(j,   o)::os,recs,base,fr,st,r,e=>by
  have ih:=OP h os;unfold cH at e ⊢;cases hw:bI fr o.guard with
  |none=>simp[hw]at e
  | some b=>cases b with
    |false=>simp only[hw]at e ⊢; exact ih _ _ _ _ _ e
    |   true=>
        simp only[hw]at e ⊢;cases hx:dN fr o.xs with
        |none=>simp[hx]at e
        |some xs=>
         simp only[hx]at e ⊢;cases hc:o.cls with
         |  aF=>
            simp only[hc]at e ⊢;cases hs:aV c o.k xs st with
            |none=>simp[hs]at e
            |some p=>simp only[hs]at e;simp only[IJ h hs];exact ih _ _ _ _ _ e
         |  new=>
            simp only[hc]at e ⊢;split at e<;>first|(cases e;done)|exact ih _ _ _ _ _ e
         |  pure=>
            simp only[hc]at e ⊢;split at e<;>(try split at e)<;>(try split at e)<;>first|(cases e;done)|(simp only[*];exact ih _ _ _ _ _ e)|exact ih _ _ _ _ _ e
         |  read=>
            simp only[hc]at e ⊢;split at e<;>(try split at e)<;>(try split at e)<;>first|(cases e;done)|(simp only[*];exact ih _ _ _ _ _ e)|exact ih _ _ _ _ _ e
theorem Na(h:NO c c'):∀(n m:Nat),n<=m->∀(a:AC)(fr:Fr)(st:St)(r:iU×Fr×St),exec c n a fr st=some r->exec c' m a fr st=some r
 |0,_,_,_,_,_,_,e=>by simp[exec]at e
 |n+1,0,hm,_,_,_,_,_=>by omega
 |n+    1,m+1,hm,a,fr,st,r,e=>by
  have ih:=Na h n m (by omega);cases a<;>simp only[exec,aW]at e ⊢
  case skip=>exact e
  case exit=>exact e
  case ret=>exact e
  case region ops=>
   cases ho:iJ c ops fr st with
   |none=>simp[ho]at e
   |some p=>simp only[ho]at e;simp only[M9 h _ _ _ _ ho];exact e
  case draw ops=>
   cases ho:cH c ops [] st.heap fr st with
   |none=>simp[ho]at e
   |some p=>simp only[ho]at e;simp only[OP h _ _ _ _ _ _ ho];exact e
  case seq a b=>
   cases ha:exec c n a fr st with
   |none=>simp[ha]at e
   |    some p=>
        obtain⟨ex,bN,aN⟩:=p;simp only[ha]at e;simp only[ih _ _ _ _ ha];cases ex<;>first|exact e|exact ih _ _ _ _ e
  case cond x a b=>
   split at e
   .    exact ih _ _ _ _ e
   .    exact ih _ _ _ _ e
   .    cases e
  case block id a=>
   cases ha:exec c n a fr st with
   |none=>simp[ha]at e
   |    some p=>
        obtain⟨ex,bN,aN⟩:=p;simp only[ha]at e;simp only[ih _ _ _ _ ha];cases ex<;>exact e
  case loop a=>
   cases ha:exec c n a fr st with
   |none=>simp[ha]at e
   |    some p=>
        obtain⟨ex,bN,aN⟩:=p;simp only[ha]at e;simp only[ih _ _ _ _ ha];cases ex<;>first|exact e|exact ih _ _ _ _ e
end
def Plain(v:AV):Prop:=∀(ρ ρ':Pos->Loc)(n n':Nat)(C:Cells)(x:Value),aj ρ n C v x->aj ρ' n' C v x
theorem Plain.bool(b:Bool):Plain (.bool b):=λ_ _ _ _ _ _ h=>by cases h;exact .bool b
theorem Plain.int(k:IntKind)(i:Int):Plain (.int k i):=λ_ _ _ _ _ _ h=>by cases h;exact .int k i
theorem Plain.str(s:List Nat):Plain (.str s):=λ_ _ _ _ _ _ h=>by cases h with|str _ bs h=>exact .str s bs h
theorem Plain.aq:Plain .aq:=λ_ _ _ _ _ _ h=>by cases h;exact .aq
theorem Plain.iQ:Plain .iQ:=λ_ _ _ _ _ _ h=>by cases h;exact .iQ
theorem Plain.func(f:FuncId){a b:List AV}(ha:∀v∈a,Plain v)(hb:∀v∈b,Plain v):Plain (.func f a b):=λ_ _ _ _ _ _ h=>by
 cases h with
 |func _ _ _ a' b' hx hy h1 h2=>exact .func f a b a' b' hx hy (λi v x hv hx=>ha v (Zc1 hv) _ _ _ _ _ _ (h1 i v x hv hx)) (λi v x hv hx=>hb v (Zc1 hv) _ _ _ _ _ _ (h2 i v x hv hx))
theorem Plain.tuple{l:List AV}(hl:∀v∈l,Plain v):Plain (.tuple l):=λ_ _ _ _ _ _ h=>by
 cases h with
 |tuple _ cs hx h1=>exact .tuple l cs hx λi v x hv hx=>hl v (Zc1 hv) _ _ _ _ _ _ (h1 i v x hv hx)
theorem Plain.agg{l:List AV}(hl:∀v∈l,Plain v):Plain (.agg l):=λ_ _ _ _ _ _ h=>by
 cases h with
 |agg _ cs hx h1=>exact .agg l cs hx λi v x hv hx=>hl v (Zc1 hv) _ _ _ _ _ _ (h1 i v x hv hx)
theorem Plain.fl{xs:List (List AV)}{es:Nat}(hl:∀cs∈xs,∀v∈cs,Plain v):Plain (.fl xs es):=λ_ _ _ _ _ _ h=>by
 cases h with
 |fl _ _ aI a cell h1 h2 h3 h4 h5=>exact .fl xs es aI a cell h1 h2 h3 h4 λi j cs v hi hj=>hl cs (Zc1 hi) v (Zc1 hj) _ _ _ _ _ _ (h5 i j cs v hi hj)
def aP(st st':St):Prop:=∀b x,st.heap.get b=some x->st'.heap.get b=some x
theorem aP.refl(st:St):aP st st:=λ_ _ h=>h
theorem aP.trans{a b c:St}(h:aP a b)(k:aP b c):aP a c:=λ_ _ e=>k _ _ (h _ _ e)
theorem aj.down{ρ ρ':Pos->Loc}{n n':Nat}{C:Cells}{v:AV}{x:Value}(h:aj ρ' n' C v x):∀{y:Value},aj ρ n C v y->(∀b:Pos,b.toNat<n->ρ' b=ρ b)->aj ρ n C v x:=by
 induction h with
 |bool b=>exact λh _=>.bool b
 |int k i=>exact λh _=>.int k i
 |str s bs h=>exact λ_ _=>.str s bs h
 |gR=>exact λ_ _=>.gR
 |ptr b off h=>
  intro y h aQ;cases h with
  |ptr _ _ h'=>rw[aQ b h'];exact .ptr b off h'
 |fp xs i j es ay base cell hl hc hv ih=>
  intro y h aQ;cases h with
  |fp _ _ _ es' By base' afT hl' uZ zQ=>exact .fp xs i j es ay base cell hl hc λi j cs v hi hj=>ih i j cs v hi hj (zQ i j cs v hi hj) aQ
 |aq=>exact λ_ _=>.aq
 |slice  b off len cap es aI a hl hc ha hk=>
  intro y h aQ;cases h with
  |slice _ _ _ _ _ ZC a' hl' uZ ha' jX=>
   refine .slice b off len cap es aI a hl hc (λh0=> ?_) jX;obtain⟨h1,h2,h3⟩:=ha h0;have hb:b.toNat<n:=by
        cases cap with
        |none=>exact jX rfl
        |some c=>
         have e1:=hc c rfl;have e2:=uZ c rfl;exact(ha' (by rw[<-e2,e1];exact h0)).1
   rw[aQ b hb]at h2 h3;exact⟨hb,h2,h3⟩
 |fl xs es aI a cell hl hs di hc hv ih=>
  intro y h aQ;cases h with
  |fl _ _ ZC a' afT hl' kZ hes' uZ zQ=>exact .fl xs es aI a cell hl hs di hc λi j cs v hi hj=>ih i j cs v hi hj (zQ i j cs v hi hj) aQ
 |nZ=>exact λ_ _=>.nZ
 |map b h=>
  intro y h aQ;cases h with
  |map _ h'=>rw[aQ b h'];exact .map b h'
 |func f x y x' y' hx hy h1 h2 ih1 ih2=>
  intro z h aQ;cases h with
  |func _ _ _ a' b' kx ky k1 k2=>
   refine .func f x y x' y' hx hy (λi v x hv js=> ?_) (λi v x hv js=> ?_)
   .    have hi:i<a'.size:=(by rw[<-kx];exact(H5.1 hv).1);exact ih1 i v x hv js (k1 i v _ hv (Ze3 hi)) aQ
   .    have hi:i<b'.size:=(by rw[<-ky];exact(H5.1 hv).1);exact ih2 i v x hv js (k2 i v _ hv (Ze3 hi)) aQ
 |iQ=>exact λ_ _=>.iQ
 |v8=>exact λ_ _=>.v8
 |iface t v x _ ih=>
  intro y h aQ;cases h with
  |iface _ _ x' h'=>exact .iface t v x (ih h' aQ)
 |agg l cs hx h1 ih=>
  intro y h aQ;cases h with
  |agg _ kO kx k1=>
   (refine .agg l cs hx λi v x hv js=> ?_);have hi:i<kO.size:=(by rw[<-kx];exact(H5.1 hv).1);exact ih i v x hv js (k1 i v _ hv (Ze3 hi)) aQ
 |tuple l cs hx h1 ih=>
  intro y h aQ;cases h with
  |tuple _ kO kx k1=>
   (refine .tuple l cs hx λi v x hv js=> ?_);have hi:i<kO.size:=(by rw[<-kx];exact(H5.1 hv).1);exact ih i v x hv js (k1 i v _ hv (Ze3 hi)) aQ
end
noncomputable section
open Go Go.RowKit
def tidy(st:St)(r:AV×St):AV×St:=open Classical in if Plain r.1/\aP st r.2 then(r.1,st)else r
theorem aaO{ρ:Pos->Loc}{C:Cells}{st:St}{w w':World}{r:AV×St}{x:Value}(hW:aT ρ C st w)(h:k8 ρ C st w r.1 r.2 x w'):
   k8 ρ C st w (tidy st r).1 (tidy st r).2 x w':=by
 unfold tidy;split
 . rename_i hp;obtain⟨ρ',hv,aQ,hn,ei,hE⟩:=h;refine⟨ρ,hp.1 _ _ _ _ _ _ hv,λ_ _=>rfl,Za3 _,⟨λb y hb=> ?_,hW.inj,λa u ha=>⟨(ei.cV a u ha).1,(hW.cV a u ha).2⟩,ei.whole⟩,⟨hE.os,hE.tape,hE.output,hE.size,hE.block,λb y hb=>.inl ⟨b,y,hb,rfl⟩⟩⟩;obtain⟨g1,g2,g3⟩:=hW.live b y hb;obtain⟨_,_,k3⟩:=ei.live b y (hp.2 b y hb);refine⟨g1,Zb9 g2 hE.size,?_⟩;rw[aQ b g1]at k3;cases y with
   |cells cs fz=>
    obtain⟨c,e,fr,q1,q2,q3,q4,q5⟩:=k3;obtain⟨c0,e0,bO,p1,p2,p3,p4,p5⟩:=g3;refine⟨c,e,fr,q1,q2,q3,⟨q4.1,λi v x hv hx=> ?_⟩,q5⟩;obtain⟨y0,hy0,GX⟩:=p4.get hv;exact(q4.2 i v x hv hx).down GX aQ
   |map es clock=>
    obtain⟨es',q1,q2,q3⟩:=k3;obtain⟨es0,p1,p2,p3⟩:=g3;refine⟨es',q1,q2,λi e e' he jN=> ?_⟩;obtain⟨a1,a2,a3⟩:=q3 i e e' he jN;have hi:i<es0.size:=(by rw[<-p2];exact(H5.1 he).1);obtain⟨b1,b2,_⟩:=p3 i e _ he (Ze3 hi);exact⟨a1.down b1 aQ,a2.down b2 aQ,a3⟩
   |iR s pos=>exact k3
   |typed t cs=>
    obtain⟨c,fr,q1,q2,q3,q4,q5⟩:=k3;obtain⟨c0,bO,p1,p2,p3,p4,p5⟩:=g3;refine⟨c,fr,q1,q2,q3,⟨q4.1,λi v x hv hx=> ?_⟩,q5⟩;obtain⟨y0,hy0,GX⟩:=p4.get hv;exact(q4.2 i v x hv hx).down GX aQ
 .exact h
theorem aaP{st:St}{r:AV×St}(h:st.next.toNat<=r.2.next.toNat):st.next.toNat<=(tidy st r).2.next.toNat:=by
 unfold tidy;split
 .exact Za3 _
 .exact h
def rC(call:ah)(m:Nat)(F:cw)(args:List AV)(st:St):Option (AV×St):=
 match Nat.beq args.length F.nparams with
 |  true=>match exec call m F.code (params 0 args .e) st with
    |some (.normal,fr,st')=>match cu (λb=>st'.heap.get b) fr F.results with
     |some vs=>some (fR vs,st')
     |none=>none
    |some (.ret,fr,st')=>match cu (λb=>st'.heap.get b) fr F.results with
     |some vs=>some (fR vs,st')
     |none=>none
    |_=>none
 |false=>none
def rD(O:dS)(G:T cw)(m:Nat):Nat->ah
 |0=>λ_ _ _=>none
 |  d+1=>λf args st=>match O f with
    |some s=>s args st
    |none=>match G.get (key f)with
     |some F=>(rC (rD O G m d) m F args st).map (tidy st)
     |none=>none
section
variable{P:Program}{tt:TT}{C:Cells}
theorem ZE(hT:bM P tt){G:T cw}(hG:Pu P tt G){call:ah}(bH:eE P C call)(fh:qy P tt C call)(m:Nat){f:FuncId}{F:cw}(hF:G.get (key f)=some F)
   {ρ:Pos->Loc} {st:St} {w:World} {args:List AV} {v:AV} {st':St} {bC:List Value} (h:rC call m F args st=some (v,st')) (hW:aT ρ C st w) (pn:av ρ st.next.toNat C args bC):
   Reaches P (k8 ρ C st w v st') ((callFunc f bC.toArray).run P w):=by
 unfold rC at h;split at h<;>first|(cases h;done)|skip
 rename_i hlen;have hlen:=H3 hlen;obtain⟨fn,BS,ia,Df⟩:=hG _ _ hF;rw[ey,Ze2]at BS;unfold Uy at Df;split at Df<;>first|(cases Df;done)|skip
 rename_i c hb;split at Df<;>first|(cases Df;done)|skip
 rename_i ac rs Vn hrs hle;simp only[H0]at Df;subst Df;simp only at h hlen;have hle:=Za0 hle;have bU:(callFunc f bC.toArray).run P w= .ok (.enter f bC.toArray) w:=by
   have Dg:¬fn.name= "runtime.NumGoroutine" :=(by simpa using ia);simp[callFunc,BS,Dg,hb]
 rw[bU];simp only[Reaches];refine calls_of_wp BS hb (ek.wp ?_);have eF:bC.length<=fn.ntmps:=by rw[<-pn.1,hlen];exact hle
 have hS:lX fn.ntmps ρ C (params 0 args .e) st { tmps:=bC.toArray++Array.replicate (fn.ntmps - bC.toArray.size) undef,defers:=[] } w:=by
   refine⟨hW,?_,?_,rfl⟩
   .refine yx args bC 0 .e pn (λj x hx=> ?_) (λp v hp=>by rw[T.dh]at hp;cases hp);have hj:j<bC.length:=(H5.1 hx).1;rw[Zb6,Zg5 (by simpa using hj)];simpa using hx
   .simp;omega
 split at h<;>first|(cases h;done)|skip
 .rename_i bN aN h1;(split at h<;>first|(cases h;done)|skip);rename_i vs gU;simp only[H0,Za9]at h;obtain⟨rfl,rfl⟩:=h;(refine(pK hT bH fh m).1 c ac _ bN st aN .normal ρ _ w _ Vn h1 hS λa' w' hp=> ?_);obtain⟨dB,sg,k1,k2,k3⟩:=hp;obtain⟨y,BU,C0⟩:=qz hT sg.W sg.F hrs gU;exact⟨sg.defers,y,BU,dB,C0,k1,k2,sg.W,k3⟩
 .rename_i bN aN h1;(split at h<;>first|(cases h;done)|skip);rename_i vs gU;simp only[H0,Za9]at h;obtain⟨rfl,rfl⟩:=h;(refine(pK hT bH fh m).1 c ac _ bN st aN .ret ρ _ w _ Vn h1 hS λa' w' hp=> ?_);obtain⟨dB,sg,k1,k2,k3⟩:=hp;obtain⟨y,BU,C0⟩:=qz hT sg.W sg.F hrs gU;exact⟨sg.defers,y,BU,dB,C0,k1,k2,sg.W,k3⟩
theorem aaQ{call:ah}(hm:k9 call){m:Nat}{F:cw}{args:List AV}{st:St}{v:AV}{st':St}(h:rC call m F args st=some (v,st')):st.next.toNat<=st'.next.toNat:=by
 unfold rC at h;split at h<;>first|(cases h;done)|skip
 split at h<;>first|(cases h;done)|skip
 all_goals
  rename_i h1;split at h<;>first|(cases h;done)|skip
  simp only[H0,Za9]at h;obtain⟨rfl,rfl⟩:=h;exact E7 hm _ _ _ _ _ _ _ h1
theorem Qe{O:dS}{G:T cw}(hO:jQ O)(m:Nat):∀d,k9 (rD O G m d)
 |0=>λf args st v st' h=>by simp[rD]at h
 |d +1=>λf args st v st' h=>by
  unfold rD at h;split at h
  .rename_i s hs;exact hO _ _ hs _ _ _ _ h
  . (split at h<;>first|(cases h;done)|skip);simp only[Zf1]at h;obtain⟨r,hr,he⟩:=h;have:=aaQ (Qe hO m d) (v:=r.1) (st':=r.2) hr;have:=aaP this;rw[he]at this;exact this
theorem NP(hm:P.follows .mixedOrders=true)(hT:bM P tt){O:dS}{G:T cw}(hO:pg P C O)(K8:jQ O)(hG:Pu P tt G)(m:Nat):∀d,eE P C (rD O G m d)
 |0=>λρ st w f args v st' bC h=>by simp[rD]at h
 |d +1=>by
  intro ρ st w f args v st' bC h hW pn;have ih:=NP hm hT hO K8 hG m d;unfold rD at h;split at h
  .rename_i s hs;exact hO f s hs ρ st w args v st' bC h hW pn
  . (split at h<;>first|(cases h;done)|skip);rename_i F hF;simp only[Zf1]at h;obtain⟨r,hr,he⟩:=h;refine Reaches.mono (λx w' hp=> ?_) (ZE hT hG ih (IA hm hT ih (Qe K8 m d)) m hF (v:=r.1) (st':=r.2) hr hW pn);have:=aaO hW hp;rw[he]at this;exact this
end
theorem Yh{c c':ah}(h:NO c c'){n m:Nat}(hn:n<=m){F:cw}{args:List AV}{st:St}{r:AV×St}(e:rC c n F args st=some r):rC c' m F args st=some r:=by
 unfold rC at e ⊢;split at e<;>first|(cases e;done)|skip
 split at e<;>first|(cases e;done)|skip
 all_goals
  rename_i h1;simp only[Na h n m hn _ _ _ _ h1];exact e
theorem OQ(O:dS)(G:T cw){n m:Nat}(hn:n<=m):∀d d',d<=d'->NO (rD O G n d) (rD O G m d')
 |0,_,_=>λ_ _ _ _ e=>by simp[rD]at e
 |_+1,0,h=>by omega
 |d +1,d'+1,h=>λf args st r e=>by
  have ih:=OQ O G hn d d' (by omega);unfold rD at e ⊢;split at e
  .exact e
  . (split at e<;>first|(cases e;done)|skip);simp only[Zf1]at e ⊢;obtain⟨q,hq,he⟩:=e;exact⟨q,Yh ih hn hq,he⟩
def cn(O:dS)(G:T cw)(n:Nat):ah:=rD O G n n
theorem IK(O:dS)(G:T cw){n m:Nat}(h:n<=m):NO (cn O G n) (cn O G m):=OQ O G h n m h
def run(O:dS)(G:T cw):ah:=λf args st=>open Classical in
 if h:∃(r:AV×St) (n:Nat),cn O G n f args st=some r then some h.choose else none
variable{O:dS}{G:T cw}
theorem aaR{f:FuncId}{args:List AV}{st:St}{r:AV×St}{n:Nat}(h:cn O G n f args st=some r):run O G f args st=some r:=by
 unfold run;have hx:∃(r:AV×St) (n:Nat),cn O G n f args st=some r:=⟨r,n,h⟩
 rw[dif_pos hx];obtain⟨m,hm⟩:=hx.choose_spec;have h1:=IK O G (Zh9 n m) f args st _ h;have h2:=IK O G (Zh0 n m) f args st _ hm;rw[h1]at h2;exact h2.symm
theorem VD{f:FuncId}{args:List AV}{st:St}{r:AV×St}(h:run O G f args st=some r):∃n,cn O G n f args st=some r:=by
 unfold run at h;split at h
 .rename_i hx;simp only[H0]at h;rw[<-h];exact hx.choose_spec
 .cases h
theorem Qf{k:az}{xs:List AV}{st:St}{r:AV×St}(e:aV (run O G) k xs st=some r):∃n,aV (cn O G n) k xs st=some r:=by
 unfold aV at e;cases hr:k.run (λb=>st.heap.get b) st.next xs with
 |none=>simp[hr]at e
 |some x=>cases x with
  |val v=>exact⟨0,by simpa [aV,hr]using e⟩
  |aF v d s n=>exact⟨0,by simpa [aV,hr]using e⟩
  |call f args=>
   simp only[hr]at e;obtain⟨n,hn⟩:=VD e;exact⟨n,by simpa [aV,hr]using hn⟩
theorem Lb:∀(os:List bg)(fr:Fr)(st:St)(r:Fr×St),iJ (run O G) os fr st=some r->∃n,iJ (cn O G n) os fr st=some r
 |[],_,_,_,e=>⟨0,e⟩
 |o::os,fr,st,r,e=>by
  unfold iJ at e;cases hw:bI fr o.guard with
  |none=>simp[hw]at e
  |some b=>cases b with
   |    false=>
        simp only[hw]at e;obtain⟨n,hn⟩:=Lb os _ _ _ e;exact⟨n,by unfold iJ;simp only[hw];exact hn⟩
   |    true=>
        simp only[hw]at e;cases hx:dN fr o.xs with
        |none=>simp[hx]at e
        |some xs=>
         simp only[hx]at e;cases hs:aV (run O G) o.k xs st with
         |none=>simp[hs]at e
         |some p=>
          simp only[hs]at e;obtain⟨n,hn⟩:=Lb os _ _ _ e;obtain⟨m,hm⟩:=Qf hs;refine⟨max n m,?_⟩;unfold iJ;simp only[hw,hx,IJ (IK O G (Zh0 n m)) hm];exact M9 (IK O G (Zh9 n m)) _ _ _ _ hn
theorem Qg: ∀(os:List (Nat×bg))(recs:List Rec)(base:T AB)(fr:Fr)(st:St)(r:Fr×St),cH (run O G) os recs base fr st=some r->∃n,cH (cn O G n) os recs base fr st=some r
 |[],_,_,_,_,_,e=>⟨0,e⟩
 |(j,   o)::os,recs,base,fr,st,r,e=>by
  have ih:=Qg os;unfold cH at e;cases hw:bI fr o.guard with
  |none=>simp[hw]at e
  | some b=>cases b with
    |   false=>
        simp only[hw]at e;obtain⟨n,hn⟩:=ih _ _ _ _ _ e;exact⟨n,by unfold cH;simp only[hw];exact hn⟩
    |   true=>
        simp only[hw]at e;cases hx:dN fr o.xs with
        |none=>simp[hx]at e
        |some xs=>
         simp only[hx]at e;cases hc:o.cls with
         |aF=>
          simp only[hc]at e;cases hs:aV (run O G) o.k xs st with
          |none=>simp[hs]at e
          | some p=>
            simp only[hs]at e;obtain⟨n,hn⟩:=ih _ _ _ _ _ e;obtain⟨m,hm⟩:=Qf hs;refine⟨max n m,?_⟩;unfold cH;simp only[hw,hx,hc,IJ (IK O G (Zh0 n m)) hm];exact OP (IK O G (Zh9 n m)) _ _ _ _ _ _ hn
         |new=>
          simp only[hc]at e;(split at e<;>first|(cases e;done)|skip);obtain⟨n,hn⟩:=ih _ _ _ _ _ e;refine⟨n,?_⟩;unfold cH;simp only[*]
         |pure=>
          simp only[hc]at e;split at e<;>(try split at e)<;>(try split at e)<;>first|(cases e;done)|skip
          all_goals
            obtain⟨n,hn⟩:=ih _ _ _ _ _ e;refine⟨n,?_⟩;unfold cH;simp only[*]
         |read=>
          simp only[hc]at e;split at e<;>(try split at e)<;>(try split at e)<;>first|(cases e;done)|skip
          all_goals
            obtain⟨n,hn⟩:=ih _ _ _ _ _ e;refine⟨n,?_⟩;unfold cH;simp only[*]
theorem Td:∀(n:Nat)(a:AC)(fr:Fr)(st:St)(r:iU×Fr×St),exec (run O G) n a fr st=some r->∃m,exec (cn O G m) n a fr st=some r
 |0,_,_,_,_,e=>by simp[exec]at e
 |n+    1,a,fr,st,r,e=>by
  have ih:=Td n;have up:∀{m m':Nat}{a:AC}{fr:Fr}{st:St}{r:iU×Fr×St},m<=m'->exec (cn O G m) n a fr st=some r->exec (cn O G m') n a fr st=some r:=
   λh e=>Na (IK O G h) _ _ (Za3 _) _ _ _ _ e
  cases a<;>simp only[exec,aW]at e
  case skip=>exact⟨0,e⟩
  case exit=>exact⟨0,e⟩
  case ret=>exact⟨0,e⟩
  case region ops=>
   cases ho:iJ (run O G) ops fr st with
   |none=>simp[ho]at e
   |    some p=>
        obtain⟨m,hm⟩:=Lb _ _ _ _ ho;exact⟨m,by simp only[exec,aW,hm];simpa only[ho]using e⟩
  case draw ops=>
   cases ho:cH (run O G) ops [] st.heap fr st with
   |none=>simp[ho]at e
   |    some p=>
        obtain⟨m,hm⟩:=Qg _ _ _ _ _ _ ho;exact⟨m,by simp only[exec,aW,hm];simpa only[ho]using e⟩
  case seq a b=>
   cases ha:exec (run O G) n a fr st with
   |none=>simp[ha]at e
   |    some p=>
        obtain⟨ex,bN,aN⟩:=p;simp only[ha]at e;obtain⟨m,hm⟩:=ih _ _ _ _ ha;cases ex with
        |normal=>
         obtain⟨m',hm'⟩:=ih _ _ _ _ e;exact⟨max m m',by simp only[exec,aW,up (Zh9 m m') hm];exact up (Zh0 m m') hm'⟩
        |exit i=>exact⟨m,by simp only[exec,aW,hm];exact e⟩
        |ret=>exact⟨m,by simp only[exec,aW,hm];exact e⟩
  case cond x a b=>
   split at e
   .    rename_i hx;obtain⟨m,hm⟩:=ih _ _ _ _ e;exact⟨m,by simp only[exec,aW,hx];exact hm⟩
   .    rename_i hx;obtain⟨m,hm⟩:=ih _ _ _ _ e;exact⟨m,by simp only[exec,aW,hx];exact hm⟩
   .    cases e
  case block id a=>
   cases ha:exec (run O G) n a fr st with
   |none=>simp[ha]at e
   |    some p=>
        obtain⟨ex,bN,aN⟩:=p;simp only[ha]at e;obtain⟨m,hm⟩:=ih _ _ _ _ ha;exact⟨m,by simp only[exec,aW,hm];exact e⟩
  case loop a=>
   cases ha:exec (run O G) n a fr st with
   |none=>simp[ha]at e
   |    some p=>
        obtain⟨ex,bN,aN⟩:=p;simp only[ha]at e;obtain⟨m,hm⟩:=ih _ _ _ _ ha;cases ex with
        |normal=>
         obtain⟨m',hm'⟩:=ih _ _ _ _ e;exact⟨max m m',by simp only[exec,aW,up (Zh9 m m') hm];exact up (Zh0 m m') hm'⟩
        |exit i=>exact⟨m,by simp only[exec,aW,hm];exact e⟩
        |ret=>exact⟨m,by simp only[exec,aW,hm];exact e⟩
theorem acj{f:FuncId}{F:cw}{args:List AV}{st:St}{r:AV×St}{n:Nat}(ho:O f=none)(hF:G.get (key f)=some F)(h:rC (run O G) n F args st=some r):
   run O G f args st=some (tidy st r):=by
 unfold rC at h;split at h<;>first|(cases h;done)|skip
 rename_i hlen
 have fin:∀{ex fr st'},exec (run O G) n F.code (params 0 args .e) st=some (ex,fr,st')->(∀m k,exec (cn O G m) k F.code (params 0 args .e) st=some (ex,fr,st')->rC (cn O G m) k F args st=some r)->
    run O G f args st=some (tidy st r):=λh1 h2=>by
   obtain⟨m,hm⟩:=Td _ _ _ _ _ h1;refine aaR (n:=max n m+1) ?_;unfold cn rD;simp only[ho,hF];have:=h2 m n hm;have h3:=Yh (OQ O G (n:=m) (m:=max n m+1) (by have:=Zh0 n m;omega) m (max n m) (Zh0 n m)) (m:=max n m+1) (by have:=Zh9 n m;omega) this;rw[h3];rfl
 split at h<;>first|(cases h;done)|skip
 .rename_i h1;exact fin h1 λm k hk=>by unfold rC;simp only[hlen,hk];exact h
 .rename_i h1;exact fin h1 λm k hk=>by unfold rC;simp only[hlen,hk];exact h
theorem Qh{f:FuncId}{s:List AV->St->Option (AV×St)}(ho:O f=some s){args:List AV}{st:St}{r:AV×St}(h:s args st=some r):run O G f args st=some r:=
 aaR (n:=1) (by unfold cn rD;simp only[ho];exact h)
theorem SB{P:Program}{tt:TT}{C:Cells}(hm:P.follows .mixedOrders=true)(hT:bM P tt)(hO:pg P C O)(K8:jQ O)(hG:Pu P tt G):eE P C (run O G):=by intro ρ st w f args v st' bC h hW pn;obtain⟨n,hn⟩:=VD h;exact NP hm hT hO K8 hG n n ρ st w f args v st' bC hn hW pn
end
noncomputable section
open Go
inductive Sh where
 |leaf
 |seq (jn:Option (List Pos)) (a b:Sh)
 |cond (a b:Sh)
 |block (a:Sh)
 |loop (j:Nat) (ins:List Pos) (outs:List (Nat×List Pos)) (a:Sh)
variable{R:Type}
abbrev LpK(R:Type):=Nat->List AV->St->Option R
abbrev Env(R:Type):=Nat->LpK R->Nat->List AV->St->Option R
def eB(l:List AV)(k:AV->List AV->Option R):Option R:=match l with
 |v::vs=>k v vs
 |[]=>none
def gu(l:List AV)(k:Option R):Option R:=match l with
 |[]=>k
 |_::_=>none
def ai(c:ah)(k:az)(xs:List AV)(st:St)(K:AV->St->Option R):Option R:=match aV c k xs st with
 |some (v,st')=>K v st'
 |none=>none
def bu(c:ah)(g:AV)(want:Bool)(k:az)(xs:List AV)(st:St)(K:AV->St->Option R):Option R:=match g with
 |  .bool b=>match b==want with
    |true=>ai c k xs st K
    |false=>K .undef st
 |.tuple _=>K .undef st
 |_=>none
def gh(k:az)(xs:List AV)(K:AV->Option R):Option R:=match k.run (λ_=>none) .h xs with
 |some (.val v)=>K v
 |_=>none
def NQ(g:AV)(want:Bool)(k:az)(xs:List AV)(K:AV->Option R):Option R:=match g with
 |  .bool b=>match b==want with
    |true=>gh k xs K
    |false=>K .undef
 |.tuple _=>K .undef
 |_=>none
def lS(k:az)(xs:List AV)(h:T AB)(ok:AV->Bool)(K:AV->Option R):Option R:=match k.run (λ_=>none) .h xs with
 |some (.val v)=>K v
 |  _=>match k.run (λb=>h.get b) .h xs with
    |some (.val v)=>match ok v with
     |true=>K v
     |false=>none
    |_=>none
def NR(g:AV)(want:Bool)(k:az)(xs:List AV)(h:T AB)(ok:AV->Bool)(K:AV->Option R):Option R:=match g with
 |  .bool b=>match b==want with
    |true=>lS k xs h ok K
    |false=>K .undef
 |.tuple _=>K .undef
 |_=>none
def Te(k:az)(xs:List AV)(st:St)(K:AV->AB->Option R):Option R:=match k.run (λ_=>none) st.next xs with
 |some (.aF v none none (some ay))=>K v ay
 |_=>none
def NT(g:AV)(want:Bool)(A B:Option R):Option R:=match g with
 |  .bool b=>match b==want with
    |true=>A
    |false=>B
 |.tuple _=>B
 |_=>none
def Lc(v:AV)(A B:Option R):Option R:=match v with
 |.bool true=>A
 |.bool false=>B
 |_=>none
def gK(f:(List AV->St->Option R)->Option R)(k:List AV->St->Option R):Option R:=f k
def OR (c:ah):List bg->Fr->St->(Fr->St->Option R)->Option R
 |[],fr,st,K=>K fr st
 |  o::os,fr,st,K=>match dN fr o.xs with
    |some xs=>match o.guard with
     |none=>ai c o.k xs st λv st=>OR c os (cM fr o.dst v) st K
     |  some (p,want)=>match fr.get p with
        |some g=>bu c g want o.k xs st λv st=>OR c os (cM fr o.dst v) st K
        |none=>none
    |none=>none
def lQ (c:ah ):List (Nat×bg)->List Rec->T AB->Fr->St->(Fr->St->Option R)->Option R
 |[],_,_,fr,st,K=>K fr st
 |  (j, o):: os,recs,base,fr,st,K=>match dN fr o.xs with
    | some xs=>match o.cls with
      | .pure=>match o.guard with
        |none=>gh o.k xs λv=>lQ c os ({ idx:=j,o:=o,v:=v,c:= .pure,nx:=st.next }::recs) base (cM fr o.dst v) st K
        |some (p,want)=>match fr.get p with
         |some g=>NQ g want o.k xs λv=>lQ c os ({ idx:=j,o:=o,v:=v,c:= .pure,nx:=st.next }::recs) base (cM fr o.dst v) st K
         |none=>none
      | .read=>match o.guard with
        |none=>lS o.k xs (snap o.bA base recs) (λv=>jL o.bA o.k xs v [] recs) λv=>lQ c os ({ idx:=j,o:=o,v:=v,c:= .pure,nx:=st.next }::recs) base (cM fr o.dst v) st K
        |some (p,want)=>match fr.get p with
         |some g=>NR g want o.k xs (snap o.bA base recs) (λv=>jL o.bA o.k xs v [] recs) λv=>lQ c os ({ idx:=j,o:=o,v:=v,c:= .pure,nx:=st.next }::recs) base (cM fr o.dst v) st K
         |none=>none
      | .new=>match o.guard with
        |none=>Te o.k xs st λv ay=>lQ c os ({ idx:=j,o:=o,v:=v,c:= .new st.next ay,nx:=st.next.succ }::recs) base (cM fr o.dst v) { heap:=st.heap.put (some ay) st.next,next:=st.next.succ } K
        |some (p,want)=>match fr.get p with
         |some g=>NT g want (Te o.k xs st λv ay=>lQ c os ({ idx:=j,o:=o,v:=v,c:= .new st.next ay,nx:=st.next.succ }::recs) base (cM fr o.dst v) { heap:=st.heap.put (some ay) st.next,next:=st.next.succ } K)
             (lQ c os ({ idx:=j,o:=o,v:= .undef,c:= .pure,nx:=st.next }::recs) base (cM fr o.dst .undef) st K)
         |none=>none
      | .aF=>match o.guard with
        |none=>ai c o.k xs st λv st'=>lQ c os ({ idx:=j,o:=o,v:=v,c:= .aF base st'.heap,nx:=st'.next }::recs) st'.heap (cM fr o.dst v) st' K
        |some (p,want)=>match fr.get p with
         |some g=>NT g want (ai c o.k xs st λv st'=>lQ c os ({ idx:=j,o:=o,v:=v,c:= .aF base st'.heap,nx:=st'.next }::recs) st'.heap (cM fr o.dst v) st' K)
             (lQ c os ({ idx:=j,o:=o,v:= .undef,c:= .pure,nx:=st.next }::recs) base (cM fr o.dst .undef) st K)
         |none=>none
    |none=>none
def Ld:List Pos->Fr->(List AV->Option R)->Option R
 |[],_,k=>k []
 |  p::ps,fr,k=>match fr.get p with
    |some v=>Ld ps fr λvs=>k (v::vs)
    |none=>none
def Le:List Pos->List AV->Fr->(Fr->Option R)->Option R
 |[],vs,fr,k=>gu vs (k fr)
 |p::ps,vs,fr,k=>eB vs λv vs=>Le ps vs (fr.put (some v) p) k
def Nb:List (Nat×List Pos)->Nat->List Pos
 |[],_=>[]
 |  (i,l)::r,e=>match Nat.beq i e with
    |true=>l
    |false=>Nb r e
def exOf:Nat->iU
 |0=>.normal
 |1=>.ret
 |n+2=>.exit n
def G4(D:Fr->St->(iU->Fr->St->Option R)->Option R)(ins:List Pos)(outs:List (Nat×List Pos))(K':LpK R)(again:List AV->St->Option R)(vs:List AV)(st:St):Option R:=
 Le ins vs .e λfr=>D fr st λex fr st=>match ex with
    |.normal=>Ld ins fr λvs=>again vs st
    |.exit i=>Ld (Nb outs (i+2)) fr λos=>K' (i+2) os st
    |.ret=>Ld (Nb outs 1) fr λos=>K' 1 os st
def knk(outs:List (Nat×List Pos))(K:iU->Fr->St->Option R):LpK R:=λe os st=>Le (Nb outs e) os .e λfr=>K (exOf e) fr st
def den (c:ah)(F:Nat)(L:Env R):AC->Sh->Fr->St->(iU->Fr->St->Option R)->Option R
 |.skip,_,fr,st,K=>K .normal fr st
 |.region ops,_,fr,st,K=>OR c ops fr st (K .normal)
 |.draw ops,_,fr,st,K=>lQ c ops [] st.heap fr st (K .normal)
 |  .seq a b,s,fr,st,K=>match s with
    | .seq none s t=>den c F L a s fr st λex fr st=>match ex with
      |.normal=>den c F L b t fr st K
      |.exit i=>K (.exit i) fr st
      |.ret=>K .ret fr st
    | .seq (some l) s t=>gK (λK'=>den c F L a s fr st λex fr st=>match ex with
      |.normal=>Ld l fr λvs=>K' vs st
      |.exit i=>K (.exit i) fr st
      |.ret=>K .ret fr st) (λvs st=>Le l vs .e λfr=>den c F L b t fr st K)
    |_=>none
 |  .cond x a b,s,fr,st,K=>match s with
    | .cond s t=>match AQ fr x with
      |some v=>Lc v (den c F L a s fr st K) (den c F L b t fr st K)
      |none=>none
    |_=>none
 |  .block id a,s,fr,st,K=>match s with
    | .block s=>den c F L a s fr st λex fr st=>match ex with
      |.normal=>K .normal fr st
      | .exit i=>match Nat.beq i id with
        |true=>K .normal fr st
        |false=>K (.exit i) fr st
      |.ret=>K .ret fr st
    |_=>none
 |  .loop _,s,fr,st,K=>match s with
    |.loop j ins outs _=>Ld ins fr λvs=>L j (knk outs K) F vs st
    |_=>none
 |.exit id,_,fr,st,K=>K (.exit id) fr st
 |.ret,_,fr,st,K=>K .ret fr st
def yC(c:ah)(F:Nat)(L:Env R)(a:AC):Sh->Prop
 |.loop j ins outs s=>∀K',(∀vs st,L j K' 0 vs st=none)/\∀n vs st,L j K' (n+1) vs st=G4 (den c F L a s) ins outs K' (L j K' n) vs st
 |_=>False
def uH(c:ah)(F:Nat)(L:Env R):AC->Sh->Prop
 |  .seq a b,s=>match s with
    |.seq _ s t=>uH c F L a s/\uH c F L b t
    |_=>True
 |  .cond _ a b,s=>match s with
    |.cond s t=>uH c F L a s/\uH c F L b t
    |_=>True
 |  .block _ a,s=>match s with
    |.block s=>uH c F L a s
    |_=>True
 |  .loop a,s=>match s with
    |.loop j ins outs s=>yC c F L a (.loop j ins outs s)/\uH c F L a s
    |_=>True
 |_,_=>True
def dQ:AC->Sh->List (AC×Sh)
 |  .seq a b,s=>match s with
    |.seq _ s t=>dQ a s++dQ b t
    |_=>[]
 |  .cond _ a b,s=>match s with
    |.cond s t=>dQ a s++dQ b t
    |_=>[]
 |  .block _ a,s=>match s with
    |.block s=>dQ a s
    |_=>[]
 |  .loop a,s=>match s with
    |.loop j ins outs s=>(a,.loop j ins outs s)::dQ a s
    |_=>[]
 |_,_=>[]
theorem Al{c:ah}{F:Nat}{L:Env R}:∀(a:AC)(s:Sh),(∀x∈dQ a s,yC c F L x.1 x.2)->uH c F L a s
 |.skip,_,_=>trivial
 |.region _,_,_=>trivial
 |.draw _,_,_=>trivial
 |.exit _,_,_=>trivial
 |.ret,_,_=>trivial
 | .seq a b,s,h=>by
   cases s<;>simp only[uH]<;>simp only[dQ,Zd4]at h;exact⟨Al a _ λx hx=>h x (.inl hx),Al b _ λx hx=>h x (.inr hx)⟩
 | .cond x a b,s,h=>by
   cases s<;>simp only[uH]<;>simp only[dQ,Zd4]at h;exact⟨Al a _ λx hx=>h x (.inl hx),Al b _ λx hx=>h x (.inr hx)⟩
 |.block id a,s,h=>by cases s<;>simp only[uH]<;>simp only[dQ]at h;exact Al a _ h
 | .loop a,s,h=>by
   cases s<;>simp only[uH]<;>simp only[dQ,Za5]at h;exact⟨h _ (.inl rfl),Al a _ λx hx=>h x (.inr hx)⟩
def Sub(a b:Fr):Prop:=∀p v,a.get p=some v->b.get p=some v
theorem Sub.refl(a:Fr):Sub a a:=λ_ _ h=>h
theorem Sub.put{a b:Fr}(h:Sub a b)(p:Pos)(v:AV):Sub (a.put (some v) p) (b.put (some v) p):=λq u hq=>by
 by_cases e:p=q
 .subst e;rw[T.eo]at hq ⊢; exact hq
 .rw[T.bw _ e]at hq ⊢; exact h _ _ hq
theorem Sub.dst{a b:Fr}(h:Sub a b)(d:Option Pos)(v:AV):Sub (cM a d v) (cM b d v):=by
 cases d with
 |none=>exact h
 |some p=>exact h.put p v
theorem Sub.ev{a b:Fr}(h:Sub a b){x:dM}{v:AV}(e:AQ a x=some v):AQ b x=some v:=by
 cases x with
 |t p=>exact h _ _ e
 |c v=>exact e
theorem Sub.evs{a b:Fr}(h:Sub a b):∀{xs:List dM}{vs:List AV},dN a xs=some vs->dN b xs=some vs
 |[],_,e=>e
 |x::xs,vs,e=>by
  unfold dN at e ⊢;cases hx:AQ a x with
  |none=>simp[hx]at e
  |some v=>
   simp only[hx]at e;cases hs:dN a xs with
   |none=>simp[hs]at e
   |some us=>simp only[hs]at e;simp only[h.ev hx,h.evs hs];exact e
theorem IL {c:ah}:∀(os:List bg){fr dV:Fr}{st:St}{K:Fr->St->Option R}{r:R},Sub fr dV->OR c os fr st K=some r->
  ∃aU cG st',iJ c os dV st=some (cG,st')/\Sub aU cG/\K aU st'=some r
 |[],fr,dV,st,K,r,hs,h=>⟨fr,dV,st,rfl,hs,h⟩
 |o::os,fr,dV,st,K,r,hs,h=>by
  unfold OR at h;cases hx:dN fr o.xs with
  |none=>simp[hx]at h
  |some xs=>
   simp only[hx]at h;have hstp:∀{st},ai c o.k xs st (λv st=>OR c os (cM fr o.dst v) st K)=some r->bI dV o.guard=some true->∃aU cG st',iJ c (o::os) dV st=some (cG,st')/\Sub aU cG/\K aU st'=some r:=λ{st} h hw=>by
        unfold ai at h;cases oX:aV c o.k xs st with
        |none=>simp[oX]at h
        |some p=>
         simp only[oX]at h;obtain⟨aU,cG,st',h1,h2⟩:=IL os (hs.dst o.dst p.1) h;exact⟨aU,cG,st',by unfold iJ;simp only[hw,hs.evs hx,oX];exact h1,h2⟩
   have Lf:∀{st},OR c os (cM fr o.dst .undef) st K=some r->bI dV o.guard=some false->∃aU cG st',iJ c (o::os) dV st=some (cG,st')/\Sub aU cG/\K aU st'=some r:=λ{st} h hw=>by
        obtain⟨aU,cG,st',h1,h2⟩:=IL os (hs.dst o.dst .undef) h;exact⟨aU,cG,st',by unfold iJ;simp only[hw];exact h1,h2⟩
   cases hg:o.guard with
   |none=>simp only[hg]at h;exact hstp h (by rw[hg];rfl)
   |    some pw=>
        obtain⟨p,want⟩:=pw;simp only[hg]at h;cases hp:fr.get p with
        |none=>simp[hp]at h
        |some g=>
         simp only[hp]at h;have yD:=hs _ _ hp;unfold bu at h;split at h
         .  rename_i b;split at h
            .rename_i hb;exact hstp h (by rw[hg];simp[bI,yD,hb])
            .rename_i hb;exact Lf h (by rw[hg];simp[bI,yD,hb])
         .  exact Lf h (by rw[hg];simp[bI,yD])
         .  cases h
theorem NU {c : ah}:∀(os:List (Nat×bg))(recs:List Rec)(base:T AB){fr dV:Fr}{st:St}{K:Fr->St->Option R}{r:R},Sub fr dV->lQ c os recs base fr st K=some r->
  ∃aU cG st',cH c os recs base dV st=some (cG,st')/\Sub aU cG/\K aU st'=some r
 |[],_,_,fr,dV,st,K,r,hs,h=>⟨fr,dV,st,rfl,hs,h⟩
 |(j,   o)::  os, recs,base,fr,dV,st,K,r,hs,h=>by
  have ih:=λrecs base {fr dV:Fr}{st:St}{K:Fr->St->Option R}{r:R}=>NU (c:=c) os recs base (fr:=fr) (dV:=dV) (st:=st) (K:=K) (r:=r)
  unfold lQ at h;cases hx:dN fr o.xs with
  |none=>simp[hx]at h
  | some xs   =>
    simp only[hx]at h;have Vw:=hs.evs hx;have Lf:∀{st},lQ c os ({ idx:=j,o:=o,v:= .undef,c:= .pure,nx:=st.next }::recs) base (cM fr o.dst .undef) st K=some r->bI dV o.guard=some false->∃aU cG st',cH c ((j,o)::os) recs base dV st=some (cG,st')/\Sub aU cG/\K aU st'=some r:=λ{st} h hw=>by
        obtain⟨aU,cG,st',h1,h2⟩:=ih _ _ (hs.dst o.dst .undef) h;exact⟨aU,cG,st',by unfold cH;simp only[hw];exact h1,h2⟩
    cases hc:o.cls with
    |   pure=>
        simp only[hc]at h;have Lg:gh o.k xs (λv=>lQ c os ({ idx:=j,o:=o,v:=v,c:= .pure,nx:=st.next }::recs) base (cM fr o.dst v) st K)=some r->bI dV o.guard=some true->∃aU cG st',cH c ((j,o)::os) recs base dV st=some (cG,st')/\Sub aU cG/\K aU st'=some r:=λh hw=>by
         unfold gh at h;split at h
         .  rename_i v hv;obtain⟨aU,cG,st',h1,h2⟩:=ih _ _ (hs.dst o.dst v) h;exact⟨aU,cG,st',by unfold cH;simp only[hw,Vw,hc,hv];exact h1,h2⟩
         .  cases h
        cases hg:o.guard with
        |none=>simp only[hg]at h;exact Lg h (by rw[hg];rfl)
        |some pw=>
         obtain⟨p,want⟩:=pw;simp only[hg]at h;cases hp:fr.get p with
         |none=>simp[hp]at h
         |  some g=>
            simp only[hp]at h;have yD:=hs _ _ hp;unfold NQ at h;split at h
            . split at h
              .rename_i hb;exact Lg h (by rw[hg];simp[bI,yD,hb])
              .rename_i hb;exact Lf h (by rw[hg];simp[bI,yD,hb])
            .exact Lf h (by rw[hg];simp[bI,yD])
            .cases h
    |   read=>
        simp only[hc]at h;have Lg : lS o.k xs (snap o.bA base recs) (λv=>jL o.bA o.k xs v [] recs) (λv=>lQ c os ({ idx:=j,o:=o,v:=v,c:= .pure,nx:=st.next }::recs) base (cM fr o.dst v) st K)=some r->bI dV o.guard=some true->∃aU cG st',cH c ((j,o)::os) recs base dV st=some (cG,st')/\Sub aU cG/\K aU st'=some r:=λh hw=>by
         unfold lS at h;split at h
         .  rename_i v hv;obtain⟨aU,cG,st',h1,h2⟩:=ih _ _ (hs.dst o.dst v) h;exact⟨aU,cG,st',by unfold cH;simp only[hw,Vw,hc,hv];exact h1,h2⟩
         .  rename_i kM;split at h
            . rename_i v hv;split at h
              . rename_i cT;obtain⟨aU,cG,st',h1,h2⟩:=ih _ _ (hs.dst o.dst v) h;refine⟨aU,cG,st',?_,h2⟩;unfold cH;simp only[hw,Vw,hc];cases hr:o.k.run (λ_=>none) .h xs with
                |none=>simp only[hv,cT];exact h1
                | some x=>cases x with
                  |val u=>exact absurd hr (kM u)
                  |aF v d e n=>simp only[hv,cT];exact h1
                  |call f xs=>simp only[hv,cT];exact h1
              .cases h
            .cases h
        cases hg:o.guard with
        |none=>simp only[hg]at h;exact Lg h (by rw[hg];rfl)
        |some pw=>
         obtain⟨p,want⟩:=pw;simp only[hg]at h;cases hp:fr.get p with
         |none=>simp[hp]at h
         |  some g=>
            simp only[hp]at h;have yD:=hs _ _ hp;unfold NR at h;split at h
            . split at h
              .rename_i hb;exact Lg h (by rw[hg];simp[bI,yD,hb])
              .rename_i hb;exact Lf h (by rw[hg];simp[bI,yD,hb])
            .exact Lf h (by rw[hg];simp[bI,yD])
            .cases h
    |   new =>
        simp only[hc]at h;have Lg:Te o.k xs st (λv ay=>lQ c os ({ idx:=j,o:=o,v:=v,c:= .new st.next ay,nx:=st.next.succ }::recs) base (cM fr o.dst v) { heap:=st.heap.put (some ay) st.next,next:=st.next.succ } K)=some r->bI dV o.guard=some true->∃aU cG st',cH c ((j,o)::os) recs base dV st=some (cG,st')/\Sub aU cG/\K aU st'=some r:=λh hw=>by
         unfold Te at h;split at h
         .  rename_i v ay hv;obtain⟨aU,cG,st',h1,h2⟩:=ih _ _ (hs.dst o.dst v) h;exact⟨aU,cG,st',by unfold cH;simp only[hw,Vw,hc,hv];exact h1,h2⟩
         .  cases h
        cases hg:o.guard with
        |none=>simp only[hg]at h;exact Lg h (by rw[hg];rfl)
        |some pw=>
         obtain⟨p,want⟩:=pw;simp only[hg]at h;cases hp:fr.get p with
         |none=>simp[hp]at h
         |  some g=>
            simp only[hp]at h;have yD:=hs _ _ hp;unfold NT at h;split at h
            . split at h
              .rename_i hb;exact Lg h (by rw[hg];simp[bI,yD,hb])
              .rename_i hb;exact Lf h (by rw[hg];simp[bI,yD,hb])
            .exact Lf h (by rw[hg];simp[bI,yD])
            .cases h
    |   aF=>
        simp only[hc]at h;have Lg:ai c o.k xs st (λv st'=>lQ c os ({ idx:=j,o:=o,v:=v,c:= .aF base st'.heap,nx:=st'.next }::recs) st'.heap (cM fr o.dst v) st' K)=some r->bI dV o.guard=some true->∃aU cG st',cH c ((j,o)::os) recs base dV st=some (cG,st')/\Sub aU cG/\K aU st'=some r:=λh hw=>by
         unfold ai at h;cases oX:aV c o.k xs st with
         |none=>simp[oX]at h
         |  some p=>
            simp only[oX]at h;obtain⟨aU,cG,st',h1,h2⟩:=ih _ _ (hs.dst o.dst p.1) h;exact⟨aU,cG,st',by unfold cH;simp only[hw,Vw,hc,oX];exact h1,h2⟩
        cases hg:o.guard with
        |none=>simp only[hg]at h;exact Lg h (by rw[hg];rfl)
        |some pw=>
         obtain⟨p,want⟩:=pw;simp only[hg]at h;cases hp:fr.get p with
         |none=>simp[hp]at h
         |  some g=>
            simp only[hp]at h;have yD:=hs _ _ hp;unfold NT at h;split at h
            . split at h
              .rename_i hb;exact Lg h (by rw[hg];simp[bI,yD,hb])
              .rename_i hb;exact Lf h (by rw[hg];simp[bI,yD,hb])
            .exact Lf h (by rw[hg];simp[bI,yD])
            .cases h
def Has:List Pos->List AV->Fr->Prop
 |[],[],_=>True
 |p::ps,v::vs,fr=>fr.get p=some v/\Has ps vs fr
 |_,_,_=>False
theorem Has.sub{a b:Fr}(hs:Sub a b):∀{ps:List Pos}{vs:List AV},Has ps vs a->Has ps vs b
 |[],[],_=>trivial
 |[],_::_,h=>h
 |_::_,[],h=>h
 |_::_,_::_,h=>⟨hs _ _ h.1,Has.sub hs h.2⟩
theorem wV:∀{ps:List Pos}{fr:Fr}{k:List AV->Option R}{r:R},Ld ps fr k=some r->∃vs,Has ps vs fr/\k vs=some r
 |[],_,_,_,h=>⟨[],trivial,h⟩
 |p::ps,fr,k,r,h=>by
  unfold Ld at h;cases hp:fr.get p with
  |none=>simp[hp]at h
  |some v=>
   simp only[hp]at h;obtain⟨vs,h1,h2⟩:=wV h;exact⟨v::vs,⟨hp,h1⟩,h2⟩
theorem AY:∀{ps:List Pos}{vs:List AV}{fr dV:Fr}{k:Fr->Option R}{r:R},Le ps vs fr k=some r->Has ps vs dV->Sub fr dV->∃aU,Sub aU dV/\k aU=some r
 |[],vs,fr,dV,k,r,h,_,hs=>by
  unfold Le gu at h;split at h
  .exact⟨fr,hs,h⟩
  .cases h
 |p::ps,[],fr,dV,k,r,h,hh,hs=>by simp[Le,eB]at h
 |p::ps,v::vs,fr,dV,k,r,h,hh,hs=>by
  unfold Le eB at h;refine AY h hh.2 λq u hq=> ?_
  by_cases e:p=q
  .subst e;rw[T.eo]at hq;cases hq;exact hh.1
  .rw[T.bw _ e]at hq;exact hs _ _ hq
theorem CO{c:ah}{n m:Nat}(h:n<=m){a:AC}{fr:Fr}{st:St}{r:iU×Fr×St}(e:exec c n a fr st=some r):exec c m a fr st=some r:=Na (NO.refl c) n m h _ _ _ _ e
theorem mT{c:ah}{F:Nat}{L:Env R}:∀(a:AC)(s:Sh),uH c F L a s->∀{fr dV:Fr}{st:St}{K:iU->Fr->St->Option R}{r:R},Sub fr dV->den c F L a s fr st K=some r->
   ∃n ex aU cG st',exec c n a dV st=some (ex,cG,st')/\Sub aU cG/\K ex aU st'=some r
 |.skip,s,_,fr,dV,st,K,r,hs,h=>⟨1,.normal,fr,dV,st,rfl,hs,by simpa [den]using h⟩
 |.exit id,s,_,fr,dV,st,K,r,hs,h=>⟨1,.exit id,fr,dV,st,rfl,hs,by simpa [den]using h⟩
 |.ret,s,_,fr,dV,st,K,r,hs,h=>⟨1,.ret,fr,dV,st,rfl,hs,by simpa [den]using h⟩
 | .region ops,s,_,fr,dV,st,K,r,hs,h=>by
   simp only[den]at h;obtain⟨aU,cG,st',h1,h2,h3⟩:=IL ops hs h;exact⟨1,.normal,aU,cG,st',by simp only[exec,aW,h1],h2,h3⟩
 | .draw ops,s,_,fr,dV,st,K,r,hs,h=>by
   simp only[den]at h;obtain⟨aU,cG,st',h1,h2,h3⟩:=NU ops _ _ hs h;exact⟨1,.normal,aU,cG,st',by simp only[exec,aW,h1],h2,h3⟩
 | .seq a b,s,cT,fr,dV,st,K,r,hs,h=>by
   (cases s<;>simp only[den]at h<;>first|(cases h;done)|skip);rename_i jn s t;simp only[uH]at cT;cases jn with
   |none=>
    simp only at h;obtain⟨n,ex,bN,qP,aN,h1,h2,h3⟩:=mT a s cT.1 hs h;cases ex with
    |   normal=>
        obtain⟨m,ex,ua,VE,jO,k1,k2,k3⟩:=mT b t cT.2 h2 h3;exact⟨max n m+1,ex,ua,VE,jO,by simp only[exec,aW,CO (Zh9 n m) h1];exact CO (Zh0 n m) k1,k2,k3⟩
    |exit i=>exact⟨n+1,.exit i,bN,qP,aN,by simp only[exec,aW,h1],h2,h3⟩
    |ret=>exact⟨n+1,.ret,bN,qP,aN,by simp only[exec,aW,h1],h2,h3⟩
   |some l=>
    simp only[gK]at h;obtain⟨n,ex,bN,qP,aN,h1,h2,h3⟩:=mT a s cT.1 hs h;cases ex with
    |   normal=>
        obtain⟨vs,g1,g2⟩:=wV h3;obtain⟨aU,g3,g4⟩:=AY g2 (Has.sub h2 g1) (λp v hp=>by rw[T.dh]at hp;cases hp);obtain⟨m,ex,ua,VE,jO,k1,k2,k3⟩:=mT b t cT.2 g3 g4;exact⟨max n m+1,ex,ua,VE,jO,by simp only[exec,aW,CO (Zh9 n m) h1];exact CO (Zh0 n m) k1,k2,k3⟩
    |exit i=>exact⟨n+1,.exit i,bN,qP,aN,by simp only[exec,aW,h1],h2,h3⟩
    |ret=>exact⟨n+1,.ret,bN,qP,aN,by simp only[exec,aW,h1],h2,h3⟩
 | .cond x a b,s,cT,fr,dV,st,K,r,hs,h=>by
   (cases s<;>simp only[den]at h<;>first|(cases h;done)|skip);simp only[uH]at cT;cases hx:AQ fr x with
   |none=>simp[hx]at h
   |some v=>
    simp only[hx]at h;unfold Lc at h;split at h
    .   obtain⟨n,ex,bN,qP,aN,h1,h2,h3⟩:=mT a _ cT.1 hs h;exact⟨n+1,ex,bN,qP,aN,by simp only[exec,aW,hs.ev hx];exact h1,h2,h3⟩
    .   obtain⟨n,ex,bN,qP,aN,h1,h2,h3⟩:=mT b _ cT.2 hs h;exact⟨n+1,ex,bN,qP,aN,by simp only[exec,aW,hs.ev hx];exact h1,h2,h3⟩
    .   cases h
 | .block id a,s,cT,fr,dV,st,K,r,hs,h=>by
   (cases s<;>simp only[den]at h<;>first|(cases h;done)|skip);simp only[uH]at cT;obtain⟨n,ex,bN,qP,aN,h1,h2,h3⟩:=mT a _ cT hs h;cases ex with
   |normal=>exact⟨n+1,.normal,bN,qP,aN,by simp only[exec,aW,h1],h2,h3⟩
   |ret=>exact⟨n+1,.ret,bN,qP,aN,by simp only[exec,aW,h1],h2,h3⟩
   |exit i=>
    simp only at h3;cases hb:Nat.beq i id with
    |true=>simp only[hb]at h3;exact⟨n+1,.normal,bN,qP,aN,by simp only[exec,aW,h1,hb],h2,h3⟩
    |false=>simp only[hb]at h3;exact⟨n+1,.exit i,bN,qP,aN,by simp only[exec,aW,h1,hb],h2,h3⟩
 | .loop a,s,cT,fr,dV,st,K,r,hs,h=>by
   (cases s<;>simp only[den]at h<;>first|(cases h;done)|skip);rename_i j ins outs s;simp only[uH,yC]at cT;obtain⟨afU,cT⟩:=cT;obtain⟨vs,g1,g2⟩:=wV h;obtain⟨hz,hsu⟩:=afU (knk outs K)
   have main:∀(n:Nat)(vs:List AV)(st:St)(dV:Fr),Has ins vs dV->L j (knk outs K) n vs st=some r->
        ∃m ex aU cG st',exec c m (.loop a) dV st=some (ex,cG,st')/\Sub aU cG/\K ex aU st'=some r:=by
    intro n;induction n with
    |zero=>intro vs st dV _ h;rw[hz]at h;cases h
    |   succ n ihn=>
        intro vs st dV hh h;rw[hsu]at h;unfold G4 at h;obtain⟨bO,q1,q2⟩:=AY h hh (λp v hp=>by rw[T.dh]at hp;cases hp);obtain⟨m,ex,bN,qP,aN,h1,h2,h3⟩:=mT a s cT q1 q2;cases ex with
        |normal=>
         obtain⟨us,p1,p2⟩:=wV h3;obtain⟨m',ex,ua,VE,jO,k1,k2,k3⟩:=ihn us aN qP (Has.sub h2 p1) p2;exact⟨max m m'+1,ex,ua,VE,jO,by simp only[exec,aW,CO (Zh9 m m') h1];exact CO (Zh0 m m') k1,k2,k3⟩
        |exit i=>
         obtain⟨os,p1,p2⟩:=wV h3;obtain⟨ua,p3,p4⟩:=AY p2 (Has.sub h2 p1) (λp v hp=>by rw[T.dh]at hp;cases hp);exact⟨m+1,.exit i,ua,qP,aN,by simp only[exec,aW,h1],p3,p4⟩
        |ret=>
         obtain⟨os,p1,p2⟩:=wV h3;obtain⟨ua,p3,p4⟩:=AY p2 (Has.sub h2 p1) (λp v hp=>by rw[T.dh]at hp;cases hp);exact⟨m+1,.ret,ua,qP,aN,by simp only[exec,aW,h1],p3,p4⟩
   exact main F vs st dV (Has.sub hs g1) g2
def OS:(H:Pos->Option AB)->Fr->List AP->(List AV->Option R)->Option R
 |_,_,[],k=>k []
 |  H,fr,.tmp p::rs,k=>match fr.get p with
    |some v=>OS H fr rs λvs=>k (v::vs)
    |none=>none
 |  H,fr,.cell p n::rs,k=>match fr.get p with
    |some q=>match (az.load n).run H .h [q]with
     |some (.val v)=>OS H fr rs λvs=>k (v::vs)
     |_=>none
    |none=>none
def ldr(n:Option Nat)(q:AV)(st:St)(K:AV->Option R):Option R:=match (az.load n).run (λb=>st.heap.get b) .h [q]with
 |some (.val v)=>K v
 |_=>none
theorem Fh{H:Pos->Option AB}{fr dV:Fr}(hs:Sub fr dV):∀{rs:List AP}{k:List AV->Option R}{r:R},OS H fr rs k=some r->∃vs,cu H dV rs=some vs/\k vs=some r
 |[],k,r,h=>⟨[],rfl,h⟩
 | .tmp p::rs,k,r,h=>by
   unfold OS at h;cases hp:fr.get p with
   |none=>simp[hp]at h
   |some v=>
    simp only[hp]at h;obtain⟨vs,h1,h2⟩:=Fh hs h;exact⟨v::vs,by unfold cu;simp only[hs _ _ hp,h1],h2⟩
 | .cell p n::rs,k,r,h=>by
   unfold OS at h;cases hp:fr.get p with
   |none=>simp[hp]at h
   |some q=>
    simp only[hp]at h;split at h
    .   rename_i v hv;obtain⟨vs,h1,h2⟩:=Fh hs h;exact⟨v::vs,by unfold cu;simp only[hs _ _ hp,hv,h1],h2⟩
    .   cases h
def Bz(c:ah)(F:Nat)(L:Env (AV×St))(A:cw)(s:Sh)(args:List AV)(st:St):Option (AV×St):=
 match Nat.beq args.length A.nparams with
 |  true=>den c F L A.code s (params 0 args .e) st λex fr st=>match ex with
    |.normal=>OS (λb=>st.heap.get b) fr A.results λvs=>some (fR vs,st)
    |.ret=>OS (λb=>st.heap.get b) fr A.results λvs=>some (fR vs,st)
    |.exit _=>none
 |false=>none
theorem ack{O:dS}{G:T cw}{F:Nat}{L:Env (AV×St)}{f:FuncId}{A:cw}{s:Sh}{args:List AV}{st:St}{r:AV×St}(ho:O f=none)(hF:G.get (key f)=some A)
  (hL:∀x∈dQ A.code s,yC (run O G) F L x.1 x.2) (h:Bz (run O G) F L A s args st=some r):run O G f args st=some (tidy st r):=by
 unfold Bz at h;split at h<;>first|(cases h;done)|skip
 rename_i hlen;obtain⟨n,ex,aU,cG,st',h1,h2,h3⟩:=mT A.code s (Al _ _ hL) (Sub.refl _) h;refine acj (n:=n) ho hF ?_;unfold rC;simp only[hlen,h1];cases ex with
 |normal=>
  obtain⟨vs,k1,k2⟩:=Fh h2 h3;simp only[k1];exact k2
 |ret=>
  obtain⟨vs,k1,k2⟩:=Fh h2 h3;simp only[k1];exact k2
 |exit i=>cases h3
def af(st:St)(b:AB):St:={ heap:=st.heap.put (some b) st.next,next:=st.next.succ }
def UE{R:Type}:List (Nat×(LpK R->Nat->List AV->St->Option R))->Env R
 |[]=>λ_ _ _ _ _=>none
 |  (i,g)::l=>λj K n=>match Nat.beq i j with
    |true=>g K n
    |false=>UE l j K n
def eX(A:cw)(s:Sh)(i:Nat):AC×Sh:=(dQ A.code s).getD i (.skip,.leaf)
theorem acm{R:Type}{c:ah}{F:Nat}{L:Env R}{A:cw}{s:Sh}(n:Nat)(hn:Nat.beq (dQ A.code s).length n=true)(h:∀i,i<n->yC c F L (eX A s i).1 (eX A s i).2):
  ∀x∈dQ A.code s,yC c F L x.1 x.2:=by
 intro x hx;obtain⟨i,hi,he⟩:=Zg6.1 hx;have hn:=H3 hn;have:=h i (by omega);unfold eX at this;rw[Zc5,H1 hi]at this;simp only[Zi7,he]at this;exact this
def RA:Sh->Bool
 |.loop _ _ _ _=>true
 |_=>false
def lpJ:Sh->Nat
 |.loop j _ _ _=>j
 |_=>0
def lpI:Sh->List Pos
 |.loop _ i _ _=>i
 |_=>[]
def lpO:Sh->List (Nat×List Pos)
 |.loop _ _ o _=>o
 |_=>[]
def lpB:Sh->Sh
 |.loop _ _ _ s=>s
 |_=>.leaf
theorem iq{R:Type}{c:ah}{F:Nat}{L:Env R}{A:cw}{sh:Sh}{i:Nat}(j:Nat)(hs:(RA (eX A sh i).2&&Nat.beq (lpJ (eX A sh i).2) j)=true)(h0:∀K' vs st,L j K' 0 vs st=none)
  (h1:∀K' n vs st,L j K' (n+1) vs st=G4 (den c F L (eX A sh i).1 (lpB (eX A sh i).2)) (lpI (eX A sh i).2) (lpO (eX A sh i).2) K' (L j K' n) vs st):yC c F L (eX A sh i).1 (eX A sh i).2:=by
 generalize (eX A sh i).1=a at*
 generalize (eX A sh i).2=t at*
 cases t with
 |loop j' ins outs s=>
  simp only[RA,lpJ,Ze1]at hs;obtain rfl:=H3 hs;exact λK'=>⟨h0 K',h1 K'⟩
 |_=>simp[RA]at hs
end
end Go.Ai
section
namespace Go.Ai
open Go
theorem cv(k:IntKind):CS k k=true:=by cases k<;>rfl
theorem jk(a b:Int):AG a b=decide (a=b):=by rw[iV];rfl
theorem dW(a b:List Nat):iy a b=decide (a=b):=by rw[Zi8,mR];simp
theorem wrap64{x:Int}(h1: -9223372036854775808<=x)(h2:x<=9223372036854775807):aD .i64 x=x:=by
 unfold aD UU UW;simp only;split
 . split
   .rfl
   .contradiction
 .contradiction
theorem ir(k:IntKind)(n:Nat):uF (.int k (n:Int))=some n:=id rfl
theorem dX(a b:Nat):Nat.ble a b=decide (a<=b):=by apply Zi8.2;simp
theorem Cw(a b:Nat):Nat.blt a b=decide (a<b):=by apply Zi8.2;simp[Nat.blt,Nat.ble_eq];omega
theorem dK(a b:Nat):Nat.beq a b=decide (a=b):=by apply Zi8.2;simp
def wq{R:Type}(o:Option AV)(k:AV->Option R):Option R:=match o with
 |some v=>k v
 |none=>none
def BA{R:Type}(o:Option (List AV))(k:List AV->Option R):Option R:=match o with
 |some v=>k v
 |none=>none
def OT{R:Type}(o:Option (AV×St))(k:AV->St->Option R):Option R:=match o with
 |some (v,st)=>k v st
 |none=>none
section
variable{R:Type}(c:ah)(K:AV->St->Option R)(K1:AV->Option R)(A B:Option R)
@[simp] theorem wW(v:AV)(k:AV->Option R):wq (some v) k=k v:=id rfl
@[simp] theorem AZ(v:List AV)(k:List AV->Option R):BA (some v) k=k v:=id rfl
@[simp] theorem kP(v:AV)(st:St)(k:AV->St->Option R):OT (some (v,st)) k=k v st:=id rfl
@[simp] theorem nW:Lc (.bool true) A B=A:=id rfl
@[simp] theorem mU:Lc (.bool false) A B=B:=id rfl
@[simp] theorem dO(v:AV)(vs:List AV)(k:AV->List AV->Option R):eB (v::vs) k=k v vs:=id rfl
@[simp] theorem eS(k:Option R):gu [] k=k:=id rfl
theorem dY(f:(List AV->St->Option R)->Option R)(k:List AV->St->Option R):gK f k=f k:=id rfl
@[simp] theorem agO(b:Bool)(k:az)(xs:List AV)(st:St):bu c (.bool b) b k xs st K=ai c k xs st K:=by cases b<;>exact id rfl
@[simp] theorem gst_tf(k:az)(xs:List AV)(st:St):bu c (.bool true) false k xs st K=K .undef st:=id rfl
@[simp] theorem gst_ft(k:az)(xs:List AV)(st:St):bu c (.bool false) true k xs st K=K .undef st:=id rfl
@[simp] theorem gst_un(b:Bool)(k:az)(xs:List AV)(st:St):bu c .undef b k xs st K=K .undef st:=id rfl
@[simp] theorem agP(b:Bool)(k:az)(xs:List AV):NQ (.bool b) b k xs K1=gh k xs K1:=by cases b<;>exact id rfl
@[simp] theorem gpr_tf(k:az)(xs:List AV):NQ (.bool true) false k xs K1=K1 .undef:=id rfl
@[simp] theorem gpr_ft(k:az)(xs:List AV):NQ (.bool false) true k xs K1=K1 .undef:=id rfl
@[simp] theorem gpr_un(b:Bool)(k:az)(xs:List AV):NQ .undef b k xs K1=K1 .undef:=id rfl
@[simp] theorem agQ(b:Bool)(k:az)(xs:List AV)(h:T AB)(ok:AV->Bool):NR (.bool b) b k xs h ok K1=lS k xs h ok K1:=by cases b<;>exact id rfl
@[simp] theorem grd_tf(k:az)(xs:List AV)(h:T AB)(ok:AV->Bool):NR (.bool true) false k xs h ok K1=K1 .undef:=id rfl
@[simp] theorem grd_ft(k:az)(xs:List AV)(h:T AB)(ok:AV->Bool):NR (.bool false) true k xs h ok K1=K1 .undef:=id rfl
@[simp] theorem grd_un(b:Bool)(k:az)(xs:List AV)(h:T AB)(ok:AV->Bool):NR .undef b k xs h ok K1=K1 .undef:=id rfl
@[simp] theorem agR(b:Bool):NT (.bool b) b A B=A:=by cases b<;>exact id rfl
@[simp] theorem wnt_tf:NT (.bool true) false A B=B:=id rfl
@[simp] theorem wnt_ft:NT (.bool false) true A B=B:=id rfl
@[simp] theorem wnt_un(b:Bool):NT .undef b A B=B:=id rfl
theorem Dl{k:az}{xs:List AV}{o:Option AV}(h:∀H n,k.run H n xs=o.map .val)(st:St):ai c k xs st K=wq o λv=>K v st:=by unfold ai aV;rw[h];cases o<;>rfl
theorem Qi{k:az}{xs:List AV}{o:Option AV}(h:∀H n,k.run H n xs=o.map .val):gh k xs K1=wq o K1:=by unfold gh;rw[h];cases o<;>rfl
theorem aY{k:az}{xs:List AV}{v:AV}(h:∀H n,k.run H n xs=some (.val v))(st:St):ai c k xs st K=K v st:=by
 unfold ai aV;rw[h]
theorem cF{k:az}{xs:List AV}{v:AV}(h:∀H n,k.run H n xs=some (.val v)):gh k xs K1=K1 v:=by
 unfold gh;rw[h]
theorem oY(f:FuncId)(l:List AV)(st:St):ai c (.callF f) l st K=OT (c f l st) K:=by unfold ai aV;show(match c f l st with|some (v,st')=>K v st'|none=>none)=_;cases c f l st<;>rfl
theorem oZ(f:FuncId)(l u v:List AV)(st:St):ai c .callV (.func f u v::l) st K=OT (c f (u++(l++v)) st) K:=by unfold ai aV;show(match c f (u++(l++v)) st with|some (v,st')=>K v st'|none=>none)=_;cases c f (u++(l++v)) st<;>rfl
attribute [simp] oY oZ
end
def cellsOf:Option AB->Option (List AV)
 |some (.cells cs _)=>some cs
 |some (.typed _ cs)=>some cs
 |_=>none
@[simp] theorem aeV(t:TypeId)(cs:List AV):cellsOf (some (.typed t cs))=some cs:=id rfl
@[simp] theorem ak(cs:List AV)(f:Nat):cellsOf (some (.cells cs f))=some cs:=id rfl
def ro(es:Nat)(z:Bool)(rs:List (List AV)):AV:=match z,rs with
 |true,[]=>.aq
 |_,rs=>.fl rs es
theorem Yi{es:Nat}{z:Bool}{rs:List (List AV)}(h:rs≠[]):ro es z rs= .fl rs es:=by
 unfold ro;split
 .exact absurd rfl h
 .rfl
theorem run_move(H:Pos->Option AB)(n:Pos)(x:AV):az.run H n .move [x]=some (.val x):=rfl
@[simp] theorem aJ{R:Type}(c:ah)(K:AV->St->Option R)(st:St)(x:AV):ai c .move [x] st K=K x st:=aY c K (λH n=>run_move H n x) st
@[simp] theorem VF{R:Type}(K:AV->Option R)(x:AV):gh .move [x] K=K x:=cF K (λH n=>run_move H n x)
theorem Qj(H:Pos->Option AB)(n:Pos)(x y:AV):az.run H n .pick [.bool true,x,y]=some (.val x):=rfl
@[simp] theorem afV{R:Type}(c:ah)(K:AV->St->Option R)(st:St)(x y:AV):ai c .pick [.bool true,x,y] st K=K x st:=aY c K (λH n=>Qj H n x y) st
@[simp] theorem afW{R:Type}(K:AV->Option R)(x y:AV):gh .pick [.bool true,x,y] K=K x:=cF K (λH n=>Qj H n x y)
theorem Qk(H:Pos->Option AB)(n:Pos)(x y:AV):az.run H n .pick [.bool false,x,y]=some (.val y):=rfl
@[simp] theorem afX{R:Type}(c:ah)(K:AV->St->Option R)(st:St)(x y:AV):ai c .pick [.bool false,x,y] st K=K y st:=aY c K (λH n=>Qk H n x y) st
@[simp] theorem afY{R:Type}(K:AV->Option R)(x y:AV):gh .pick [.bool false,x,y] K=K y:=cF K (λH n=>Qk H n x y)
theorem Yj(H:Pos->Option AB)(n:Pos)(p:Bool):az.run H n (.un .not) [.bool p]=some (.val (.bool (!p))):=rfl
@[simp] theorem Nc{R:Type}(c:ah)(K:AV->St->Option R)(st:St)(p:Bool):ai c (.un .not) [.bool p] st K=K (.bool (!p)) st:=aY c K (λH n=>Yj H n p) st
@[simp] theorem agS{R:Type}(K:AV->Option R)(p:Bool):gh (.un .not) [.bool p] K=K (.bool (!p)):=cF K (λH n=>Yj H n p)
theorem Yk(H:Pos->Option AB)(n:Pos)(q:eY)(k:IntKind)(a b:Int):az.run H n (.bin .lss q) [.int k a,.int k b]=some (.val (.bool (decide (a<b)))):=by simp[az.run,gS,mY,cv,jk,ej,gI,dW]
@[simp] theorem Am{R:Type}(c:ah)(K:AV->St->Option R)(st:St)(q:eY)(k:IntKind)(a b:Int):ai c (.bin .lss q) [.int k a,.int k b] st K=K (.bool (decide (a<b))) st:=aY c K (λH n=>Yk H n q k a b) st
@[simp] theorem Yl{R:Type}(K:AV->Option R)(q:eY)(k:IntKind)(a b:Int):gh (.bin .lss q) [.int k a,.int k b] K=K (.bool (decide (a<b))):=cF K (λH n=>Yk H n q k a b)
theorem Ym(H:Pos->Option AB)(n:Pos)(q:eY)(k:IntKind)(a b:Int):az.run H n (.bin .leq q) [.int k a,.int k b]=some (.val (.bool (decide (a<=b)))):=by simp[az.run,gS,mY,cv,jk,ej,gI,dW]
@[simp] theorem agT{R:Type}(c:ah)(K:AV->St->Option R)(st:St)(q:eY)(k:IntKind)(a b:Int):ai c (.bin .leq q) [.int k a,.int k b] st K=K (.bool (decide (a<=b))) st:=aY c K (λH n=>Ym H n q k a b) st
@[simp] theorem agU{R:Type}(K:AV->Option R)(q:eY)(k:IntKind)(a b:Int):gh (.bin .leq q) [.int k a,.int k b] K=K (.bool (decide (a<=b))):=cF K (λH n=>Ym H n q k a b)
theorem Yn(H:Pos->Option AB)(n:Pos)(q:eY)(k:IntKind)(a b:Int):az.run H n (.bin .gtr q) [.int k a,.int k b]=some (.val (.bool (decide (b<a)))):=by simp[az.run,gS,mY,cv,jk,ej,gI,dW]
@[simp] theorem aea{R:Type}(c:ah)(K:AV->St->Option R)(st:St)(q:eY)(k:IntKind)(a b:Int):ai c (.bin .gtr q) [.int k a,.int k b] st K=K (.bool (decide (b<a))) st:=aY c K (λH n=>Yn H n q k a b) st
@[simp] theorem agV{R:Type}(K:AV->Option R)(q:eY)(k:IntKind)(a b:Int):gh (.bin .gtr q) [.int k a,.int k b] K=K (.bool (decide (b<a))):=cF K (λH n=>Yn H n q k a b)
theorem Yo(H:Pos->Option AB)(n:Pos)(q:eY)(k:IntKind)(a b:Int):az.run H n (.bin .geq q) [.int k a,.int k b]=some (.val (.bool (decide (b<=a)))):=by simp[az.run,gS,mY,cv,jk,ej,gI,dW]
@[simp] theorem Yp{R:Type}(c:ah)(K:AV->St->Option R)(st:St)(q:eY)(k:IntKind)(a b:Int):ai c (.bin .geq q) [.int k a,.int k b] st K=K (.bool (decide (b<=a))) st:=aY c K (λH n=>Yo H n q k a b) st
@[simp] theorem agW{R:Type}(K:AV->Option R)(q:eY)(k:IntKind)(a b:Int):gh (.bin .geq q) [.int k a,.int k b] K=K (.bool (decide (b<=a))):=cF K (λH n=>Yo H n q k a b)
theorem Yq(H:Pos->Option AB)(n:Pos)(q:eY)(k:IntKind)(a b:Int):az.run H n (.bin .eql q) [.int k a,.int k b]=some (.val (.bool (decide (a=b)))):=by simp[az.run,gS,mY,cv,jk,ej,gI,dW]
@[simp] theorem agX{R:Type}(c:ah)(K:AV->St->Option R)(st:St)(q:eY)(k:IntKind)(a b:Int):ai c (.bin .eql q) [.int k a,.int k b] st K=K (.bool (decide (a=b))) st:=aY c K (λH n=>Yq H n q k a b) st
@[simp] theorem agY{R:Type}(K:AV->Option R)(q:eY)(k:IntKind)(a b:Int):gh (.bin .eql q) [.int k a,.int k b] K=K (.bool (decide (a=b))):=cF K (λH n=>Yq H n q k a b)
theorem Yr(H:Pos->Option AB)(n:Pos)(q:eY)(k:IntKind)(a b:Int):az.run H n (.bin .neq q) [.int k a,.int k b]=some (.val (.bool (!decide (a=b)))):=by simp[az.run,gS,mY,cv,jk,ej,gI,dW]
@[simp] theorem agZ{R:Type}(c:ah)(K:AV->St->Option R)(st:St)(q:eY)(k:IntKind)(a b:Int):ai c (.bin .neq q) [.int k a,.int k b] st K=K (.bool (!decide (a=b))) st:=aY c K (λH n=>Yr H n q k a b) st
@[simp] theorem ag0{R:Type}(K:AV->Option R)(q:eY)(k:IntKind)(a b:Int):gh (.bin .neq q) [.int k a,.int k b] K=K (.bool (!decide (a=b))):=cF K (λH n=>Yr H n q k a b)
theorem Ys(H:Pos->Option AB)(n:Pos)(q:eY)(k:IntKind)(a b:Int):az.run H n (.bin .add q) [.int k a,.int k b]=some (.val (.int k (aD k (a+b)))):=by simp[az.run,gS,mY,cv,jk,ej,gI,dW]
@[simp] theorem Nd{R:Type}(c:ah)(K:AV->St->Option R)(st:St)(q:eY)(k:IntKind)(a b:Int):ai c (.bin .add q) [.int k a,.int k b] st K=K (.int k (aD k (a+b))) st:=aY c K (λH n=>Ys H n q k a b) st
@[simp] theorem ag1{R:Type}(K:AV->Option R)(q:eY)(k:IntKind)(a b:Int):gh (.bin .add q) [.int k a,.int k b] K=K (.int k (aD k (a+b))):=cF K (λH n=>Ys H n q k a b)
theorem Yt(H:Pos->Option AB)(n:Pos)(q:eY)(k:IntKind)(a b:Int):az.run H n (.bin .sub q) [.int k a,.int k b]=some (.val (.int k (aD k (a - b)))):=by simp[az.run,gS,mY,cv,jk,ej,gI,dW]
@[simp] theorem ag2{R:Type}(c:ah)(K:AV->St->Option R)(st:St)(q:eY)(k:IntKind)(a b:Int):ai c (.bin .sub q) [.int k a,.int k b] st K=K (.int k (aD k (a - b))) st:=aY c K (λH n=>Yt H n q k a b) st
@[simp] theorem ag3{R:Type}(K:AV->Option R)(q:eY)(k:IntKind)(a b:Int):gh (.bin .sub q) [.int k a,.int k b] K=K (.int k (aD k (a - b))):=cF K (λH n=>Yt H n q k a b)
theorem aeb(H:Pos->Option AB)(n:Pos)(q:eY)(k:IntKind)(a b:Int):az.run H n (.bin .mul q) [.int k a,.int k b]=some (.val (.int k (aD k (a*b)))):=by simp[az.run,gS,mY,cv,jk,ej,gI,dW]
@[simp] theorem ag4{R:Type}(c:ah)(K:AV->St->Option R)(st:St)(q:eY)(k:IntKind)(a b:Int):ai c (.bin .mul q) [.int k a,.int k b] st K=K (.int k (aD k (a*b))) st:=aY c K (λH n=>aeb H n q k a b) st
theorem VG(H:Pos->Option AB)(n:Pos)(q:eY)(s t:List Nat):az.run H n (.bin .eql q) [.str s,.str t]=some (.val (.bool (decide (s=t)))):=by simp[az.run,gS,mY,cv,jk,ej,gI,dW]
@[simp] theorem agx{R:Type}(c:ah)(K:AV->St->Option R)(st:St)(q:eY)(s t:List Nat):ai c (.bin .eql q) [.str s,.str t] st K=K (.bool (decide (s=t))) st:=aY c K (λH n=>VG H n q s t) st
@[simp] theorem agy{R:Type}(K:AV->Option R)(q:eY)(s t:List Nat):gh (.bin .eql q) [.str s,.str t] K=K (.bool (decide (s=t))):=cF K (λH n=>VG H n q s t)
theorem VH(H:Pos->Option AB)(n:Pos)(q:eY)(s t:List Nat):az.run H n (.bin .neq q) [.str s,.str t]=some (.val (.bool (!decide (s=t)))):=by simp[az.run,gS,mY,cv,jk,ej,gI,dW]
@[simp] theorem agz{R:Type}(c:ah)(K:AV->St->Option R)(st:St)(q:eY)(s t:List Nat):ai c (.bin .neq q) [.str s,.str t] st K=K (.bool (!decide (s=t))) st:=aY c K (λH n=>VH H n q s t) st
@[simp] theorem agA{R:Type}(K:AV->Option R)(q:eY)(s t:List Nat):gh (.bin .neq q) [.str s,.str t] K=K (.bool (!decide (s=t))):=cF K (λH n=>VH H n q s t)
theorem VI(H:Pos->Option AB)(n:Pos)(q:eY)(s t:List Nat):az.run H n (.bin .lss q) [.str s,.str t]=some (.val (.bool (aA s t))):=by simp[az.run,gS,mY,cv,jk,ej,gI,dW]
@[simp] theorem agB{R:Type}(c:ah)(K:AV->St->Option R)(st:St)(q:eY)(s t:List Nat):ai c (.bin .lss q) [.str s,.str t] st K=K (.bool (aA s t)) st:=aY c K (λH n=>VI H n q s t) st
@[simp] theorem agC{R:Type}(K:AV->Option R)(q:eY)(s t:List Nat):gh (.bin .lss q) [.str s,.str t] K=K (.bool (aA s t)):=cF K (λH n=>VI H n q s t)
theorem acn(H:Pos->Option AB)(n:Pos)(q:eY)(s t:List Nat):az.run H n (.bin .leq q) [.str s,.str t]=some (.val (.bool (aA s t||decide (s=t)))):=by simp[az.run,gS,mY,cv,jk,ej,gI,dW]
@[simp] theorem agD{R:Type}(K:AV->Option R)(q:eY)(s t:List Nat):gh (.bin .leq q) [.str s,.str t] K=K (.bool (aA s t||decide (s=t))):=cF K (λH n=>acn H n q s t)
theorem VJ(H:Pos->Option AB)(n:Pos)(q:eY)(s t:List Nat):az.run H n (.bin .geq q) [.str s,.str t]=some (.val (.bool (!aA s t))):=by simp[az.run,gS,mY,cv,jk,ej,gI,dW]
@[simp] theorem agE{R:Type}(c:ah)(K:AV->St->Option R)(st:St)(q:eY)(s t:List Nat):ai c (.bin .geq q) [.str s,.str t] st K=K (.bool (!aA s t)) st:=aY c K (λH n=>VJ H n q s t) st
@[simp] theorem agF{R:Type}(K:AV->Option R)(q:eY)(s t:List Nat):gh (.bin .geq q) [.str s,.str t] K=K (.bool (!aA s t)):=cF K (λH n=>VJ H n q s t)
theorem aco(H:Pos->Option AB)(n:Pos)(p r:Bool):az.run H n (.bin .eql .bool) [.bool p,.bool r]=some (.val (.bool (p==r))):=rfl
@[simp] theorem agG{R:Type}(c:ah)(K:AV->St->Option R)(st:St)(p r:Bool):ai c (.bin .eql .bool) [.bool p,.bool r] st K=K (.bool (p==r)) st:=aY c K (λH n=>aco H n p r) st
theorem acp(H:Pos->Option AB)(n:Pos)(s:List Nat):az.run H n (.lenB .s) [.str s]=some (.val (.int .i64 (s.length:Int))):=rfl
@[simp] theorem agH{R:Type}(c:ah)(K:AV->St->Option R)(st:St)(s:List Nat):ai c (.lenB .s) [.str s] st K=K (.int .i64 (s.length:Int)) st:=aY c K (λH n=>acp H n s) st
theorem VK(H:Pos->Option AB)(n:Pos)(es:Nat)(z:Bool)(rs:List (List AV)):az.run H n (.lenB .l) [ro es z rs]=some (.val (.int .i64 (rs.length:Int))):=by unfold ro;split<;>rfl
@[simp] theorem bX{R:Type}(c:ah)(K:AV->St->Option R)(st:St)(es:Nat)(z:Bool)(rs:List (List AV)):ai c (.lenB .l) [ro es z rs] st K=K (.int .i64 (rs.length:Int)) st:=aY c K (λH n=>VK H n es z rs) st
@[simp] theorem acq{R:Type}(K:AV->Option R)(es:Nat)(z:Bool)(rs:List (List AV)):gh (.lenB .l) [ro es z rs] K=K (.int .i64 (rs.length:Int)):=cF K (λH n=>VK H n es z rs)
theorem acr(H:Pos->Option AB)(n:Pos)(k k2:IntKind)(a:Int):az.run H n (.conv (.int k)) [.int k2 a]=some (.val (.int k (aD k a))):=rfl
@[simp] theorem VL{R:Type}(c:ah)(K:AV->St->Option R)(st:St)(k k2:IntKind)(a:Int):ai c (.conv (.int k)) [.int k2 a] st K=K (.int k (aD k a)) st:=aY c K (λH n=>acr H n k k2 a) st
theorem acs(H:Pos->Option AB)(n:Pos)(k:IntKind)(s:List Nat)(i:Nat):az.run H n .idxS [.str s,.int k (i:Int)]=((s[i]?.map λc=>.int .u8 (c:Int)):Option AV).map .val:=by simp only[az.run,MV,ir,kq];cases s[i]? <;>rfl
@[simp] theorem agI{R:Type}(c:ah)(K:AV->St->Option R)(st:St)(k:IntKind)(s:List Nat)(i:Nat):ai c .idxS [.str s,.int k (i:Int)] st K=wq (s[i]?.map λc=>.int .u8 (c:Int)) λv=>K v st:=Dl c K (λH n=>acs H n k s i) st
theorem Lh(H:Pos->Option AB)(n:Pos)(off:Nat)(p:Pos)(o:Nat):az.run H n (.fieldA off) [.ptr p o]=some (.val (.ptr p (o+off))):=rfl
@[simp] theorem od{R:Type}(c:ah)(K:AV->St->Option R)(st:St)(off:Nat)(p:Pos)(o:Nat):ai c (.fieldA off) [.ptr p o] st K=K (.ptr p (o+off)) st:=aY c K (λH n=>Lh H n off p o) st
@[simp] theorem ae5{R:Type}(K:AV->Option R)(off:Nat)(p:Pos)(o:Nat):gh (.fieldA off) [.ptr p o] K=K (.ptr p (o+off)):=cF K (λH n=>Lh H n off p o)
theorem Li(H:Pos->Option AB)(n:Pos)(off:Nat)(xs:List (List AV))(i j:Nat):az.run H n (.fieldA off) [.fp xs i j]=some (.val (.fp xs i (j+off))):=rfl
@[simp] theorem ae6{R:Type}(c:ah)(K:AV->St->Option R)(st:St)(off:Nat)(xs:List (List AV))(i j:Nat):ai c (.fieldA off) [.fp xs i j] st K=K (.fp xs i (j+off)) st:=aY c K (λH n=>Li H n off xs i j) st
@[simp] theorem ae7{R:Type}(K:AV->Option R)(off:Nat)(xs:List (List AV))(i j:Nat):gh (.fieldA off) [.fp xs i j] K=K (.fp xs i (j+off)):=cF K (λH n=>Li H n off xs i j)
theorem NV(H:Pos->Option AB)(n:Pos)(i:Nat)(l:List AV):az.run H n (.extract i) [.tuple l]=(l[i]? :Option AV).map .val:=by simp only[az.run,Cp,kq];cases l[i]? <;>rfl
@[simp] theorem AK{R:Type}(c:ah)(K:AV->St->Option R)(st:St)(i:Nat)(l:List AV):ai c (.extract i) [.tuple l] st K=wq l[i]? λv=>K v st:=Dl c K (λH n=>NV H n i l) st
@[simp] theorem afA{R:Type}(K:AV->Option R)(i:Nat)(l:List AV):gh (.extract i) [.tuple l] K=wq l[i]? K:=Qi K (λH n=>NV H n i l)
theorem G5(H:Pos->Option AB)(n:Pos)(p:Pos)(o:Nat):az.run H n .nilCheck [.ptr p o]=some (.val (.ptr p o)):=rfl
@[simp] theorem tR{R:Type}(c:ah)(K:AV->St->Option R)(st:St)(p:Pos)(o:Nat):ai c .nilCheck [.ptr p o] st K=K (.ptr p o) st:=aY c K (λH n=>G5 H n p o) st
@[simp] theorem aec{R:Type}(K:AV->Option R)(p:Pos)(o:Nat):gh .nilCheck [.ptr p o] K=K (.ptr p o):=cF K (λH n=>G5 H n p o)
theorem VM(H:Pos->Option AB)(n:Pos)(es:Nat)(z:Bool)(rs:List (List AV))(k:IntKind)(i:Nat):az.run H n (.idxA es none) [ro es z rs,.int k (i:Int)]=((if i<rs.length then some (.fp rs i 0)else none):Option AV).map .val:=by
 by_cases h:i<rs.length
 .rw[Yi (by intro e;subst e;simp at h)];simp[az.run,mD,ir,Cw,dK,h]
 . unfold ro;split
   .rfl
   .simp[az.run,mD,ir,Cw,dK,h]
@[simp] theorem OU{R:Type}(c:ah)(K:AV->St->Option R)(st:St)(es:Nat)(z:Bool)(rs:List (List AV))(k:IntKind)(i:Nat):ai c (.idxA es none) [ro es z rs,.int k (i:Int)] st K=wq (if i<rs.length then some (.fp rs i 0)else none) λv=>K v st:=Dl c K (λH n=>VM H n es z rs k i) st
@[simp] theorem VN{R:Type}(K:AV->Option R)(es:Nat)(z:Bool)(rs:List (List AV))(k:IntKind)(i:Nat):gh (.idxA es none) [ro es z rs,.int k (i:Int)] K=wq (if i<rs.length then some (.fp rs i 0)else none) K:=Qi K (λH n=>VM H n es z rs k i)
theorem Tf(H:Pos->Option AB)(n:Pos)(es:Nat)(z:Bool)(rs:List (List AV))(k:IntKind)(i:Nat):az.run H n (.sliceL es false true false) [ro es z rs,.int k (i:Int)]=((if i<=rs.length then some (ro es (z&&rs.isEmpty) (rs.take i))else none):Option AV).map .val:=by
 by_cases h:i<=rs.length
 . rw[  Za2 h];unfold ro;split
   .simp at h;subst h;rfl
   .rename_i hn;have:(z&&rs.isEmpty)=false:=(by cases z<;>cases rs<;>simp at hn ⊢);simp only[this];simp[az.run,oT,bounds,ir,dX,dK,h]
 . rw[Za1 h];unfold ro;split
   .simp only[az.run,oT,bounds,ir];have:¬i=0:=(by simp at h;omega);simp[dK,this]
   .simp[az.run,oT,bounds,ir,dX,dK,h]
@[simp] theorem agt{R:Type}(c:ah)(K:AV->St->Option R)(st:St)(es:Nat)(z:Bool)(rs:List (List AV))(k:IntKind)(i:Nat):ai c (.sliceL es false true false) [ro es z rs,.int k (i:Int)] st K=wq (if i<=rs.length then some (ro es (z&&rs.isEmpty) (rs.take i))else none) λv=>K v st:=Dl c K (λH n=>Tf H n es z rs k i) st
@[simp] theorem agu{R:Type}(K:AV->Option R)(es:Nat)(z:Bool)(rs:List (List AV))(k:IntKind)(i:Nat):gh (.sliceL es false true false) [ro es z rs,.int k (i:Int)] K=wq (if i<=rs.length then some (ro es (z&&rs.isEmpty) (rs.take i))else none) K:=Qi K (λH n=>Tf H n es z rs k i)
section
variable{R:Type}(c:ah)(K:AV->St->Option R)(K1:AV->Option R)
theorem IM(H:Pos->Option AB)(n:Pos)(xs:List (List AV))(i j:Nat):az.run H n (.load none) [.fp xs i j]=(xs[i]?.bind λcs=>cs[j]?).map .val:=by
 simp only[az.run,tK,kq];cases xs[i]? with
 |none=>rfl
 |some cs=>simp only[Ze5];cases cs[j]? <;>rfl
theorem FV(H:Pos->Option AB)(n:Pos)(m:Nat)(xs:List (List AV))(i j:Nat):az.run H n (.load (some m)) [.fp xs i j]=((xs[i]?.bind λcs=>cut cs j m).map .agg).map .val:=by
 simp only[az.run,tK,kq];cases xs[i]? with
 |none=>rfl
 |some cs=>simp only[Ze5];cases cut cs j m<;>rfl
theorem mV (H:Pos->Option AB)(n:Pos)(p:Pos)(o:Nat):az.run H n (.load none) [.ptr p o]=((cellsOf (H p)).bind λcs=>cs[o]?).map .val:=by
 simp only[az.run,tK,kq];cases H p with
 |none=>rfl
 |some x=>   cases x<;>simp only[cellsOf,Ze5,Option.bind_none]<;>try rfl
             all_goals first|(rename_i cs _;cases cs[o]? <;>rfl)|(rename_i _ cs;cases cs[o]? <;>rfl)
theorem AL (H:Pos->Option AB)(n:Pos)(m:Nat)(p:Pos)(o:Nat):az.run H n (.load (some m)) [.ptr p o]=(((cellsOf (H p)).bind λcs=>cut cs o m).map .agg).map .val:=by
 simp only[az.run,tK];cases H p with
 |none=>rfl
 |some x=>   cases x<;>simp only[cellsOf,Ze5,Option.bind_none]<;>try rfl
             all_goals first|(rename_i cs _;cases cut cs o m<;>rfl)|(rename_i _ cs;cases cut cs o m<;>rfl)
@[simp] theorem afZ(st:St)(xs:List (List AV))(i j:Nat):ai c (.load none) [.fp xs i j] st K=wq (xs[i]?.bind λcs=>cs[j]?) λv=>K v st:=Dl c K (λH n=>IM H n xs i j) st
@[simp] theorem afB(st:St)(m:Nat)(xs:List (List AV))(i j:Nat):ai c (.load (some m)) [.fp xs i j] st K=BA (xs[i]?.bind λcs=>cut cs j m) λl=>K (.agg l) st:=by rw[Dl c K (λH n=>FV H n m xs i j) st];cases(xs[i]?.bind λcs=>cut cs j m)<;>rfl
@[simp] theorem tS(st:St)(p:Pos)(o:Nat):ai c (.load none) [.ptr p o] st K=wq ((cellsOf (st.heap.get p)).bind λcs=>cs[o]?) λv=>K v st:=by unfold ai aV;rw[mV];cases((cellsOf (st.heap.get p)).bind λcs=>cs[o]?)<;>rfl
@[simp] theorem XB(st:St)(m:Nat)(p:Pos)(o:Nat):ai c (.load (some m)) [.ptr p o] st K=BA ((cellsOf (st.heap.get p)).bind λcs=>cut cs o m) λl=>K (.agg l) st:=by unfold ai aV;rw[AL];cases((cellsOf (st.heap.get p)).bind λcs=>cut cs o m)<;>rfl
@[simp] theorem af0(h:T AB)(xs:List (List AV))(i j:Nat):lS (.load none) [.fp xs i j] h (λ_=>true) K1=wq (xs[i]?.bind λcs=>cs[j]?) K1:=by unfold lS;rw[IM,IM];cases hx:(xs[i]?.bind λcs=>cs[j]?)<;>rfl
@[simp] theorem afC(h:T AB)(m:Nat)(xs:List (List AV))(i j:Nat):lS (.load (some m)) [.fp xs i j] h (λ_=>true) K1=BA (xs[i]?.bind λcs=>cut cs j m) λl=>K1 (.agg l):=by unfold lS;rw[FV,FV];cases hx:(xs[i]?.bind λcs=>cut cs j m)<;>rfl
@[simp] theorem afD(st:St)(f:FuncId)(xs:List AV):ai c (.mkFunc f 0) xs st K=K (.func f [] xs) st:=aY c K (λH n=>by simp[az.run,EP,dX]) st
@[simp] theorem af1(h:T AB)(p:Pos)(o:Nat):lS (.load none) [.ptr p o] h (λ_=>true) K1=wq ((cellsOf (h.get p)).bind λcs=>cs[o]?) K1:=by unfold lS;rw[mV,mV];show(match ((cellsOf (h.get p)).bind λcs=>cs[o]?).map ct.val with|some (.val v)=>_|_=>_)=_;cases((cellsOf (h.get p)).bind λcs=>cs[o]?)<;>rfl
@[simp] theorem NW(h:T AB)(m:Nat)(p:Pos)(o:Nat):lS (.load (some m)) [.ptr p o] h (λ_=>true) K1=BA ((cellsOf (h.get p)).bind λcs=>cut cs o m) λl=>K1 (.agg l):=by unfold lS;rw[AL,AL];show(match (((cellsOf (h.get p)).bind λcs=>cut cs o m).map AV.agg).map ct.val with|some (.val v)=>_|_=>_)=_;cases((cellsOf (h.get p)).bind λcs=>cut cs o m)<;>rfl
theorem run_build(H:Pos->Option AB)(n:Pos)(z:List AV)(ps:List (Nat×Nat))(xs:List AV):az.run H n (.build z ps) xs=((bG z ps xs).map .agg).map .val:=by simp only[az.run,HZ];cases bG z ps xs<;>rfl
@[simp] theorem aaS(st:St)(z:List AV)(ps:List (Nat×Nat))(xs:List AV):ai c (.build z ps) xs st K=BA (bG z ps xs) λl=>K (.agg l) st:=by rw[Dl c K (λH n=>run_build H n z ps xs) st];cases bG z ps xs<;>rfl
@[simp] theorem agv(z:List AV)(ps:List (Nat×Nat))(xs:List AV):gh (.build z ps) xs K1=BA (bG z ps xs) λl=>K1 (.agg l):=by rw[Qi K1 (λH n=>run_build H n z ps xs)];cases bG z ps xs<;>rfl
theorem bK{α:Type}{l:List α}{m:Nat}(h:l.length=m):cut l 0 m=some l:=by
 unfold cut;rw[dX,H4 (by omega)];simp only[Zb7];rw[Zf8 (by omega)]
end
end Go.Ai
namespace Go.Ai
open Go
def Wf(st:St):Prop:=∀p x,st.heap.get p=some x->p.toNat<st.next.toNat
theorem dD(st:St)(b:AB):(af st b).next=st.next.succ:=id rfl
@[simp] theorem bE{st:St}{b:AB}(h:Wf st):Wf (af st b):=λp x hp=>by
  rw[dD,Pos.aB];by_cases e:st.next=p
  .subst e;omega
  .have:=h p x (by rwa [af,T.bw _ e]at hp);omega
@[simp] theorem aE(st:St)(b:AB):(af st b).heap.get st.next=some b:=T.eo _ _ _
theorem qN{st:St}{b:AB}{p:Pos}(h:p.toNat<st.next.toNat):(af st b).heap.get p=st.heap.get p:=by
 rw[af,T.bw _ (by intro e;subst e;omega)]
@[simp] theorem yE{st:St}{a b:AB}:(af (af st a) b).heap.get st.next=some a:=by
  rw[qN (by rw[dD,Pos.aB];omega),aE]
theorem bt{st:St}{b:AB}(h:Wf st):aP st (af st b):=λp x hp=>by rw[qN (h p x hp)];exact hp
theorem au{st st':St}{v:AV}(hv:Plain v)(hk:aP st st'):tidy st (v,st')=(v,st):=by
 unfold tidy;rw[Za2 ⟨hv,hk⟩]
section
variable{R:Type}(c:ah)(K:AV->St->Option R)
@[simp] theorem tT(x:AV)(st:St):ai c .box [x] st K=K (.ptr st.next 0) (af st (.cells x.cells 0)):=id rfl
@[simp] theorem agw(l:List AV)(st:St):ai c (.alloc l) [] st K=K (.ptr st.next 0) (af st (.cells l 0)):=id rfl
end
theorem T.Dm{α:Type}(x y:Option α):∀(p:Pos)(t:T α),T.put x p (T.put y p t)=T.put x p t
 |.h,.e=>rfl
 |.h,.n _ _ _=>rfl
 |.o p,.e=>by simp only[T.put];rw[T.Dm x y p]
 |.o p,.n _ _ _=>by simp only[T.put];rw[T.Dm x y p]
 |.i p,.e=>by simp only[T.put];rw[T.Dm x y p]
 |.i p,.n _ _ _=>by simp only[T.put];rw[T.Dm x y p]
def eG(st:St)(p:Pos)(b:AB):St:={ heap:=st.heap.put (some b) p,next:=st.next }
@[simp] theorem Dn(st:St)(p:Pos)(b:AB):(eG st p b).next=st.next:=id rfl
@[simp] theorem oe(st:St)(p:Pos)(b:AB):(eG st p b).heap.get p=some b:=T.eo _ _ _
theorem b9{st:St}{p q:Pos}{b:AB}(h:p≠q):(eG st p b).heap.get q=st.heap.get q:=T.bw _ h _
@[simp] theorem RB(st:St)(a b:AB):eG (af st a) st.next b=af st b:=by
  unfold eG af;simp only[T.Dm]
theorem Pos.RD(p:Pos):p≠p.succ:=λe=>by have:=congrArg Pos.toNat e;rw[Pos.aB]at this;omega
theorem jt{R:Type}(c:ah)(K:AV->St->Option R)(st:St)(m:Nat)(p:Pos)(o:Nat)(v:AV)(cs:List AV)(h:st.heap.get p=some (.cells cs 0))(h1:v.cells.length=m)(h2:o+m<=cs.length)(h3:aZ v.cells=true):
  ai c (.store m) [.ptr p o,v] st K=K .undef (eG st p (.cells (aH cs o v.cells) 0)):=by
 have:az.run (λb=>st.heap.get b) st.next (.store m) [.ptr p o,v]=some (.aF .undef none (some (p,.cells (aH cs o v.cells) 0)) none):=by
  simp[az.run,CT,h,h1,h2,h3,dK,dX]
 unfold ai aV;rw[this];rfl
@[simp] theorem dR{R:Type}(c:ah)(K:AV->St->Option R)(st:St)(m:Nat)(v:AV)(cs:List AV)(h1:v.cells.length=m)(h2:m=cs.length)(h3:aZ v.cells=true):
   ai c (.store m) [.ptr st.next 0,v] (af st (.cells cs 0)) K=K .undef (af st (.cells v.cells 0)):=by
  rw[jt c K _ m st.next 0 v cs (aE _ _) h1 (by omega) h3,RB];have:aH cs 0 v.cells=v.cells:=by unfold aH;rw[h1,h2];simp
  rw[this]
theorem af2{R:Type}(n:Option Nat)(p:Pos)(o:Nat)(st:St)(K:AV->Option R):ldr n (.ptr p o) st K=match n with
  |none=>wq ((cellsOf (st.heap.get p)).bind λcs=>cs[o]?) K
  |some m=>BA ((cellsOf (st.heap.get p)).bind λcs=>cut cs o m) λl=>K (.agg l):=by
 unfold ldr;cases n with
 |none=>rw[mV];simp only;cases((cellsOf (st.heap.get p)).bind λcs=>cs[o]?)<;>rfl
 |some m=>rw[AL];simp only;cases((cellsOf (st.heap.get p)).bind λcs=>cut cs o m)<;>rfl
@[simp] theorem agJ{R:Type}(m:Nat)(p:Pos)(o:Nat)(st:St)(K:AV->Option R):ldr (some m) (.ptr p o) st K=BA ((cellsOf (st.heap.get p)).bind λcs=>cut cs o m) λl=>K (.agg l):=af2 (some m) p o st K
@[simp] theorem aaT(es:Nat)(z:Bool)(rs:List (List AV)):(ro es z rs).one=true:=by unfold ro;split<;>rfl
@[simp] theorem OV(es:Nat)(z:Bool)(rs:List (List AV)):(ro es z rs).cells=[ro es z rs]:=by unfold ro;split<;>rfl
structure Grew(s s':St):Prop where
 wf:Wf s'
 keeps:aP s s'
 next:s.next.toNat<=s'.next.toNat
theorem Grew.refl{s:St}(h:Wf s):Grew s s:=⟨h,aP.refl s,Za3 _⟩
theorem Grew.trans{a b c:St}(h:Grew a b)(k:Grew b c):Grew a c:=⟨k.wf,h.keeps.trans k.keeps,Zc3 h.next k.next⟩
theorem Grew.af{s:St}(h:Wf s)(b:AB):Grew s (af s b):=⟨bE h,bt h,by rw[dD,Pos.aB];omega⟩
theorem Grew.get{s s':St}(h:Grew s s'){p:Pos}{x:AB}(hp:s.heap.get p=some x):s'.heap.get p=some x:=h.keeps p x hp
end Go.Ai
end
namespace Go.Ai
section
open Go
theorem G6{st:St}{p:Pos}{b:AB}(h:Wf st)(hp:p.toNat<st.next.toNat):Wf (eG st p b):=λq x hq=>by
 rw[Dn];by_cases e:p=q
 .subst e;exact hp
 .rw[b9 e]at hq;exact h q x hq
def dst(st:St)(p:Pos)(b:AB):St:={ heap:=(st.heap.put none p).put (some b) st.next,next:=st.next.succ }
theorem acu(st:St)(p:Pos)(b:AB):(dst st p b).next=st.next.succ:=id rfl
theorem RE(st:St)(p:Pos)(b:AB):(dst st p b).heap.get st.next=some b:=T.eo _ _ _
theorem Ql{st:St}{p q:Pos}{b:AB}(h:p≠q)(h2:q.toNat<st.next.toNat):(dst st p b).heap.get q=st.heap.get q:=by
 rw[dst,T.bw _ (by intro e;subst e;omega),T.bw _ h]
theorem aaU{st:St}{p:Pos}{b:AB}(h:Wf st):Wf (dst st p b):=λq x hq=>by
 rw[acu,Pos.aB];by_cases e:st.next=q
 .subst e;omega
 . rw[dst,T.bw _ e]at hq;by_cases e2:p=q
   .subst e2;rw[T.eo]at hq;cases hq
   .rw[T.bw _ e2]at hq;have:=h q x hq;omega
theorem Yu{s s':St}{v:AV}{b:Pos}{x:AB}(h:s.heap.get b=some x)(h2:s'.heap.get b≠some x):tidy s (v,s')=(v,s'):=by
 unfold tidy;rw[Za1];exact λe=>h2 (e.2 b x h)
section
variable{R:Type}(c:ah)(K:AV->St->Option R)(K1:AV->Option R)
theorem Qm(H:Pos->Option AB)(n:Pos)(es len:Nat)(z:List AV)(ps:List Nat)(xs:List AV):az.run H n (.buildSlice es len z ps) xs=(bG (bF z len) (ps.map λi=>(i*es,es)) xs).map λcs=>.aF (.slice n 0 len (some len) es) none none (some (.cells cs 0)):=by simp only[az.run,qu];cases bG (bF z len) (ps.map λi=>(i*es,es)) xs<;>rfl
@[simp] theorem cr(st:St)(es len:Nat)(z:List AV)(ps:List Nat)(xs:List AV):ai c (.buildSlice es len z ps) xs st K=BA (bG (bF z len) (ps.map λi=>(i*es,es)) xs) λcs=>K (.slice st.next 0 len (some len) es) (af st (.cells cs 0)):=by unfold ai aV;rw[Qm];cases bG (bF z len) (ps.map λi=>(i*es,es)) xs<;>rfl
@[simp] theorem af3(st:St)(es len:Nat)(z:List AV)(ps:List Nat)(xs:List AV)(K2:AV->AB->Option R):Te (.buildSlice es len z ps) xs st K2=BA (bG (bF z len) (ps.map λi=>(i*es,es)) xs) λcs=>K2 (.slice st.next 0 len (some len) es) (.cells cs 0):=by unfold Te;rw[Qm];cases bG (bF z len) (ps.map λi=>(i*es,es)) xs<;>rfl
@[simp] theorem aaV(st:St):ai c .mkMap [] st K=K (.map st.next) (af st (.map [] 0)):=id rfl
theorem VO{st:St}{es bytes m:Nat}{x:AV}{new:List AV}(hm:cS x=some m)(h0:m≠0)(hb:(2*(0+m)+768)*bytes<=281474976710656)(hs:0+m<=9223372036854775807)(hx:cq es m (λb=>st.heap.get b) x=some new):
  ai c (.append es bytes) [.aq,x] st K=K (.slice st.next 0 m none es) (af st (.cells new 0)):=by
 have:az.run (λb=>st.heap.get b) st.next (.append es bytes) [.aq,x]=some (.aF (.slice st.next 0 m none es) none none (some (.cells new 0))):=by
  simp only[az.run,fk];rw[show cS .aq=some 0 from rfl,hm];simp only[dX,dK,H4 hb,H4 hs,H2 h0,hx]
 unfold ai aV;rw[this];rfl
theorem aed{st:St}{es bytes m n:Nat}{p:Pos}{x:AV}{cs dA new:List AV}(hm:cS x=some m)(h0:m≠0)(hb:(2*(n+m)+768)*bytes<=281474976710656)(hs:n+m<=9223372036854775807)(hp:st.heap.get p=some (.cells cs 0))
  (ho:cq es n (λb=>st.heap.get b) (.slice p 0 n none es)=some dA) (hx:cq es m (λb=>st.heap.get b) x=some new) (h1:aZ new=true):
  ai c (.append es bytes) [.slice p 0 n none es,x] st K=K (.slice st.next 0 (n+m) none es) (dst st p (.cells (dA++new) 0)):=by
 have:az.run (λb=>st.heap.get b) st.next (.append es bytes) [.slice p 0 n none es,x]=some (.aF (.slice st.next 0 (n+m) none es) (some p) none (some (.cells (dA++new) 0))):=by simp only[az.run,fk];rw[show cS (.slice p 0 n none es)=some n from rfl,hm];simp only[dX,dK,H4 hb,H4 hs,H2 h0,hx,hp,ho,h1];simp
 unfold ai aV;rw[this];rfl
theorem aaW{st:St}{es bytes m:Nat}{p:Pos}{x:AV}{new:List AV}(hm:cS x=some m)(h0:m≠0)(hb:(2*(0+m)+768)*bytes<=281474976710656)(hs:0+m<=9223372036854775807)(hx:cq es m (λb=>st.heap.get b) x=some new):
  ai c (.append es bytes) [.slice p 0 0 (some 0) es,x] st K=K (.slice st.next 0 m none es) (af st (.cells new 0)):=by
 have:az.run (λb=>st.heap.get b) st.next (.append es bytes) [.slice p 0 0 (some 0) es,x]=some (.aF (.slice st.next 0 m none es) none none (some (.cells new 0))):=by
  have h2:¬(0+m<=0):=by omega
  have ho:cq es 0 (λb=>st.heap.get b) (.slice p 0 0 (some 0) es)=some []:=by simp[cq]
  simp only[az.run,fk];rw[show cS (.slice p 0 0 (some 0) es)=some 0 from rfl,hm];simp only[dX,dK,H4 hb,H4 hs,H2 h0,H2 h2,hx,ho];simp only[Zb6,Zg8]
 unfold ai aV;rw[this];rfl
theorem VP{st:St}{es bytes:Nat}{p:Pos}{off n:Nat}{cp:Option Nat}{x:AV}(hm:cS x=some 0)(hb:(2*(n+0)+768)*bytes<=281474976710656)(hs:n+0<=9223372036854775807):
  ai c (.append es bytes) [.slice p off n cp es,x] st K=K (.slice p off n cp es) st:=by
 have:az.run (λb=>st.heap.get b) st.next (.append es bytes) [.slice p off n cp es,x]=some (.val (.slice p off n cp es)):=by
  simp only[az.run,fk];rw[show cS (.slice p off n cp es)=some n from rfl,hm];simp only[dX,dK,H4 hb,H4 hs]
 unfold ai aV;rw[this]
theorem Tg(H:Pos->Option AB)(n:Pos)(z:AV)(m:Pos)(es:List (AV×AV×Nat))(cl:Nat)(k:AV)(h:H m=some (.map es cl))(r:Option (Nat×AV))(hf:iT .s k es 0=some r):
  az.run H n (.lookup .s z true) [.map m,k]=some (.val (match r with|some (_,v)=>.tuple [v,.bool true]|none=>.tuple [z,.bool false])):=by
 simp only[az.run,wM,h,hf];cases r with
 |none=>rfl
 |some p=>rfl
theorem Fi(z:AV){st:St}{m:Pos}{es:List (AV×AV×Nat)}{cl:Nat}{k:AV}{r:Option (Nat×AV)}(h:st.heap.get m=some (.map es cl))(hf:iT .s k es 0=some r):
  ai c (.lookup .s z true) [.map m,k] st K=K (match r with|some (_,v)=>.tuple [v,.bool true]|none=>.tuple [z,.bool false]) st:=by
 unfold ai aV;rw[Tg _ _ z m es cl k h r hf]
theorem Th(z:AV){h:T AB}{m:Pos}{es:List (AV×AV×Nat)}{cl:Nat}{k:AV}{r:Option (Nat×AV)}(hh:h.get m=some (.map es cl))(hf:iT .s k es 0=some r):
  lS (.lookup .s z true) [.map m,k] h (λ_=>true) K1=K1 (match r with|some (_,v)=>.tuple [v,.bool true]|none=>.tuple [z,.bool false]):=by
 unfold lS;have e:az.run (λ_=>none) .h (.lookup .s z true) [.map m,k]=none:=rfl;rw[e];simp only;rw[Tg _ _ z m es cl k hh r hf]
theorem XC{st:St}{m:Pos}{es:List (AV×AV×Nat)}{cl:Nat}{k:List Nat}{v:AV}(h:st.heap.get m=some (.map es cl))(hf:iT .s (.str k) es 0=some none):
  ai c (.mapSet .s) [.map m,.str k,v] st K=K .undef (eG st m (.map (es++[(.str k,v,cl)]) (cl+1))):=by
 have:az.run (λb=>st.heap.get b) st.next (.mapSet .s) [.map m,.str k,v]=some (.aF .undef none (some (m,.map (es++[(.str k,v,cl)]) (cl+1))) none):=by
  simp[az.run,wN,h,hf,Y9]
 unfold ai aV;rw[this];rfl
theorem aee{p:Pos}{o:Nat}{h h2:T AB}{v:AV}(hv:((cellsOf (h.get p)).bind λcs=>cs[o]?)=some v)(CY:((cellsOf (h2.get p)).bind λcs=>cs[o]?)=some v)(hb:fC v v=true):
  lS (.load none) [.ptr p o] h (λv=>mE (.load none) [.ptr p o] v (vR [] h2)&&true) K1=K1 v:=by
 unfold lS;have e:az.run (λ_=>none) .h (.load none) [.ptr p o]=none:=rfl;rw[e];simp only;rw[mV,hv];simp only[Ze0];have:mE (.load none) [.ptr p o] v (vR [] h2)=true:=by unfold mE;show(match az.run (λb=>h2.get b) .h (.load none) [.ptr p o]with|some (.val u)=>fC u v|_=>false)=true;rw[mV,CY];exact hb
 rw[this];rfl
end
theorem An{R:Type}(K1:AV->Option R){p:Pos}{o:Nat}{h h2:T AB}{v:AV}(hv:((cellsOf (h.get p)).bind λcs=>cs[o]?)=some v)(CY:((cellsOf (h2.get p)).bind λcs=>cs[o]?)=some v)(hb:fC v v=true):
  lS (.load none) [.ptr p o] h (λv=>mE (.load none) [.ptr p o] v (vR [] h2)) K1=K1 v:=by
 have:=aee K1 hv CY hb;simp only[Zj3]at this;exact this
theorem Lj(p:Pos)(o n es:Nat):fC (.slice p o n none es) (.slice p o n none es)=true:=by
 simp[fC,wQ,jK,Pos.beq_eq.2 rfl]
theorem OW:fC .aq .aq=true:=rfl
inductive ew:Nat->AV->Prop
 |flat {d:Nat} {v:AV} (h:jK v v=true):ew d v
 |fl {d:Nat} {a:List (List AV)} {n:Nat} (h:∀r∈a,∀v∈r,ew d v):ew (d+1) (.fl a n)
theorem Qn{f:AV->AV->Bool}:∀{a:List AV},(∀v∈a,f v v=true)->ET f a a=true
 |[],_=>rfl
 |a::x,h=>by
  simp only[ET,h a (by simp),Qn (λv hv=>h v (Za4 _ hv)),Zj4]
theorem Ll{f:AV->AV->Bool}:∀{a:List (List AV)},(∀r∈a,∀v∈r,f v v=true)->wP f a a=true
 |[],_=>rfl
 |a::x,h=>by
  simp only[wP,Qn (h a (by simp)),Ll (λv hv=>h v (Za4 _ hv)),Zj4]
theorem Qo:∀{d:Nat}{v:AV},ew d v->EU d v v=true
 |d,v,.flat h=>by
  unfold EU;split
  .simp[jK]at h
  .exact h
 |d+1,.fl a n,.fl h=>by
  unfold EU;simp[Ll (λr hr v hv=>Qo (h r hr v hv))]
theorem ew.ro{d es:Nat}{z:Bool}{rs:List (List AV)}(h:∀r∈rs,∀v∈r,ew d v):ew (d+1) (ro es z rs):=by
 unfold Go.Ai.ro;split
 .exact .flat rfl
 .exact .fl h
theorem wX{v:AV}(h:ew 3 v):fC v v=true:=by
 have h3:=Qo h;cases h with
 |flat h=>
  cases v<;>simp[jK]at h<;>first|simp[fC,wQ,jK,h]|skip
  all_goals simp_all [fC,wQ,jK]
 |fl h=>exact h3
theorem ew.int{d:Nat}(k:IntKind)(n:Int):ew d (.int k n):= .flat (by simp[jK,iV,cv])
theorem ew.str{d:Nat}(s:List Nat):ew d (.str s):= .flat (by simp[jK,mR])
theorem ew.bool{d:Nat}(s:Bool):ew d (.bool s):= .flat (by simp[jK])
end
section
open Go
section
variable{H:Type}(enc:TypeId×Value->H)(P:Program)(w:World)(base:Nat)(spare:Nat->Bool)(held:Bool)
def vU(t:TypeId)(Q:List AV->Prop):Prop:=
 ∀  (fuel:Nat)(cs:List Value)(x:DataW H×List MemPlace),DataW.trod enc P w base spare held fuel t cs=some x->
    ∃as,Q as/\∀ρ n,av ρ n (λad=>w.cell? ad) as cs
variable{enc P w base spare held}
theorem vU.mono{t:TypeId}{Q Q':List AV->Prop}(h:vU enc P w base spare held t Q)(k:∀as,Q as->Q' as):vU enc P w base spare held t Q':=
 λfuel cs x hx=>by obtain⟨as,h1,h2⟩:=h fuel cs x hx;exact⟨as,k _ h1,h2⟩
theorem Fj{t:TypeId}{k:IntKind}(ht:P.underlying t=some (.int k)):vU enc P w base spare held t λas=>∃i,as=[.int k i]/\(Lit.int k i).wf=true:=
 fun fuel cs x hx=>by
  obtain⟨n,rfl,h⟩:=DataW.trod_int ht hx;exact⟨_,⟨n,rfl,h.2⟩,λρ m=>av.cons (.int k n) av.nil⟩
theorem ZF{t:TypeId}(ht:P.underlying t=some .bool):vU enc P w base spare held t λas=>∃b,as=[.bool b]:=
 fun fuel cs x hx=>by
  obtain⟨b,rfl,h⟩:=DataW.trod_bool ht hx;exact⟨_,⟨b,rfl⟩,λρ m=>av.cons (.bool b) av.nil⟩
theorem aaX{t:TypeId}(ht:P.underlying t=some .string):vU enc P w base spare held t λas=>∃s,as=[.str s]/\s.length<=maxLen/\∀x∈s,x<256:=
 fun fuel cs x hx=>by
  obtain⟨s,rfl,h⟩:=DataW.trod_string ht hx;refine⟨_,⟨s.data.toList.map UInt8.toNat,rfl,?_,?_⟩,λρ m=>av.cons (.str _ s rfl) av.nil⟩
  .simp;exact h.2
  .intro x hx;simp only[Zd8]at hx;obtain⟨y,_,rfl⟩:=hx;exact y.toNat_lt
def Dp:List (List AV->Prop)->List (List AV)->Prop
 |[],[]=>True
 |Q::Qs,p::ps=>Q p/\Dp Qs ps
 |_,_=>False
def yF(P:Program)(Ti:Nat):Nat->List Field->Bool
 |o,[]=>o==Ti
 |o,f::fs=>f.offset==o&&yF P Ti (o+P.cellsOf f.type) fs
def VQ(enc:TypeId×Value->H)(P:Program)(w:World)(base:Nat)(spare:Nat->Bool)(held:Bool):List TypeId->List (List AV->Prop)->Prop
 |[],[]=>True
 |f::fs,Q::Qs=>vU enc P w base spare held f Q/\VQ enc P w base spare held fs Qs
 |_,_=>False
theorem Lm{Ti n:Nat}:∀(fs:List Field)(Qs:List (List AV->Prop))(o:Nat)(cs:List Value),yF P Ti o fs=true->VQ enc P w base spare held (fs.map (·.type)) Qs->cs.length=Ti->
  (∀f∈fs,∃y,DataW.trod enc P w base spare held n f.type ((cs.drop f.offset).take (P.cellsOf f.type))=some y)->
  ∃parts,Dp Qs parts/\∀ρ m,av ρ m (λad=>w.cell? ad) parts.flatten (cs.drop o)
 |[],[],o,cs,hc,_,hl,_=>by simp only[yF,Zo3]at hc;refine⟨[],trivial,λρ m=> ?_⟩;rw[Zl9 (by omega)];exact av.nil
 |f::fs,Q::Qs,o,cs,hc,hO,hl,hf=>by
  simp only[yF,Za6,Zo3]at hc;obtain⟨y,hy⟩:=hf f (by simp);obtain⟨as,hq,hv⟩:=hO.1 n _ y hy;obtain⟨parts,hp,CY⟩:=Lm fs Qs _ cs hc.2 hO.2 hl (λg hg=>hf g (Za4 _ hg));refine⟨as::parts,⟨hq,hp⟩,λρ m=> ?_⟩;have e:cs.drop o=(cs.drop f.offset).take (P.cellsOf f.type)++cs.drop (o+P.cellsOf f.type):=by
   rw[hc.1, <-Zl8,Zk2]
  rw[e,Ze6];exact(hv ρ m).append (CY ρ m)
def fieldsOf(P:Program)(t:TypeId):List Field:=match P.underlying t with
 |some (.struct fs)=>fs.toList
 |_=>[]
def IN(P:Program)(t:TypeId):Bool:=match P.underlying t with
 |some (.struct _)=>true
 |_=>false
theorem Ln{t:TypeId}(ts:List TypeId){Qs:List (List AV->Prop)}(hs:IN P t=true)(cU:(fieldsOf P t).map (·.type)=ts)(hc:yF P (P.cellsOf t) 0 (fieldsOf P t)=true)(hO:VQ enc P w base spare held ts Qs):
  vU enc P w base spare held t λas=>∃parts,as=parts.flatten/\Dp Qs parts:=
 fun fuel cs x hx=>by
  obtain⟨fs,ht⟩:∃fs,P.underlying t=some (.struct fs):=by
     unfold IN at hs;cases h:P.underlying t with
     |none=>rw[h]at hs;cases hs
     |some d=>rw[h]at hs;cases d<;>first|exact⟨_,rfl⟩|cases hs
  have ef:fieldsOf P t=fs.toList:=by unfold fieldsOf;rw[ht]
  rw[ef]at cU hc;subst cU;obtain⟨xs,n,_,_,hl,hxl,hf⟩:=DataW.trod_struct ht hx;obtain⟨parts,hp,hv⟩:=Lm fs.toList Qs 0 cs hc hO hl (λf hf2=>by
     obtain⟨i,hi⟩:=List.getElem?_of_mem hf2;have zW:fs[i]? =some f:=(by rw[<-Zf3];exact hi);have aK:i<fs.size:=(Zc0.1 zW).1;exact⟨xs[i],by rw[hf i f zW,H1 (by omega)]⟩)
  exact⟨_,⟨parts,rfl,hp⟩,λρ m=>hv ρ m⟩
end
def UF(w w':World):Prop:=w'.os=w.os/\w'.tape=w.tape/\w'.output=w.output/\w.heap.size<=w'.heap.size/\∀k,k<w.heap.size->w'.heap[k]? =w.heap[k]?
def Nf:List AV->St->Option (AV×St)
 |[],st=>some (.bool true,st)
 |_,_=>none
theorem SA{P:Program}{C:Cells}{f:FuncId}{fn:Func}{c:Code}(hf:P.funcs[f]? =some fn)(ia:¬fn.name= "runtime.NumGoroutine")(hb:fn.body=some c)
  (h:∀w:World,(∀ad u,C ad=some u->w.cell? ad=some u)->Calls P f #[] w λe w'=>e= .returned (.bool true)/\UF w w'):lW P C f Nf where
 mono args st v st' hs:=by
  unfold Nf at hs;split at hs<;>first|(cases hs;done)|skip
  simp only[H0,Za9]at hs;rw[<-hs.2];exact Za3 _
 runs ρ st w args v st' bC hs hW hv:=by
  unfold Nf at hs;split at hs<;>first|(cases hs;done)|skip
  simp only[H0,Za9]at hs;obtain⟨rfl,rfl⟩:=hs;obtain rfl:=hv.mF;have bU:(callFunc f ([]:List Value).toArray).run P w= .ok (.enter f #[]) w:=by simp[callFunc,hf,ia,hb]
  rw[bU];refine Calls.mono (h w λad u ha=>(hW.cV ad u ha).1) λe w' he=> ?_
  obtain⟨rfl,h1,h2,h3,h4,h5⟩:=he;exact⟨ρ,.bool true,λ_ _=>rfl,Za3 _,hW.grow h4 h5,⟨h1,h2,h3,h4,λk hk _=>h5 k hk,λb x hb=>.inl ⟨b,x,hb,rfl⟩⟩⟩
theorem abH{P:Program}{C:Cells}{call:ah}{f:FuncId}{fn:Func}{c:Code}{args:List AV}{bC:List Value}{b:Bool}{n0:Pos}{aN:St}{w:World}
  (cT:eE P C call) (hC:∀ad v,C ad=some v->w.cell? ad=some v) (hC2:∀a v,C a=some v->∀o,C ⟨a.block,o,none⟩=none->w.cell? ⟨a.block,o,none⟩=none) (hf:P.funcs[f]? =some fn) (ia:¬fn.name= "runtime.NumGoroutine") (hb:fn.body=some c)
  (ha:av (λ_=>⟨0,0,0⟩) n0.toNat C args bC) (h:call f args { heap:= .e,next:=n0 }=some (.bool b,aN)):
  Calls P f bC.toArray w λe w'=>e= .returned (.bool b)/\UF w w':=by
 have hr:=cT (λ_=>⟨0,0,0⟩) { heap:= .e,next:=n0 } w f args (.bool b) aN bC h (AW hC hC2) ha;have bU:(callFunc f bC.toArray).run P w= .ok (.enter f bC.toArray) w:=by simp[callFunc,hf,ia,hb]
 rw[bU]at hr;refine Calls.mono hr λe w' he=> ?_
 cases e with
 |returned x=>
  obtain⟨ρ',h1,_,_,_,hE⟩:=he;have:=h1.fS;subst this;exact⟨rfl,hE.os,hE.tape,hE.output,hE.size,λk hk=>hE.block k hk λb x hb=>by rw[T.dh]at hb;cases hb⟩
 |panicked c=>exact he.elim
 |outgrown=>exact he.elim
end
section
open Go Go.ChangeShapes Go.WideShapes Go.ChangeAt Go.RowKit
theorem UF.below{w w':World}(h:UF w w'):Below w.heap.size w w':=⟨h.1,h.2.1,h.2.2.1,h.2.2.2.1,h.2.2.2.2⟩
section
variable{H:Type}{enc:TypeId×Value->H}{P:Program}
theorem JY{W W':World}(hl:laidOutB P=true)(hb:Below W.heap.size W W'):∀{ts:List TypeId}{vs:List Value}{ds:List (DataW H)}{p:List MemPlace},
  DataW.TrodAll enc P W 0 (λ_=>true) true ts vs ds p->(∀t∈ts,P.readableRec t=true/\t<P.types.size)->(∀x∈p,x.block<W.heap.size)->
  DataW.TrodAll enc P W' 0 (λb=>decide (b<W.heap.size)) true ts vs ds p
 |[],_,_,_,h,_,_=>by obtain⟨rfl,rfl,rfl⟩:=trodAll_nil h;exact trodAll_mk0
 |t::ts,_,_,_,h,hr,hx=>by
  obtain⟨v,vs1,d,ds1,a,b,rfl,rfl,rfl,h1,h2⟩:=trodAll_cons h
  exact trodAll_cons_mk (Below.trod hl (hr t (by simp)).1 (hr t (by simp)).2 h1 hb (λx X4=>hx x (Zg4 _ X4)))
   (JY hl hb h2 (λt ht=>hr t (Za4 _ ht)) (λx X4=>hx x (Zi0 _ X4)))
theorem aai{f:Func}{s:ChangeSpec}{W W':World}{args:Array Value}{ds gs:List (DataW H)}{before:List MemPlace}{tb:TypeId}(hl:laidOutB P=true)
   (hW:DataW.Whole enc P f.params.toList s.vars false W args.toList ds gs before) (hv:s.vars=[]) (BS:s.fn H (ds++gs)={ results:=[.lit (.bool true)],args:=ds })
   (hr:∀t∈f.params.toList,P.readableRec t=true/\t<P.types.size) (hB:Below W.heap.size W W') (acv:f.resultTypes= #[tb]) (htb:P.underlying tb=some .bool):
   s.post enc P f false true false false W args (.bool true) W':=by
 have aK:=hW.lt;have ei:=hW;obtain⟨p,q,hA,hV,rfl,hfz,EL⟩:=hW;have hq:q=[]:=by
   rw[hv]at hV;cases gs with
   |nil=>exact hV
   |cons g gs=>exact hV.elim
 subst hq;refine⟨ds,gs,p++[],[],p,[],ei,?_,?_,?_,hB.frame _,λh=>by cases h⟩
 .rw[BS,acv];exact trodAll_cons_mk (shut_bool htb _) trodAll_mk0
 .rw[BS];exact JY hl hB hA hr (λx hx=>aK x (Zg4 _ hx))
 .rw[BS,hv];rfl
end
section
variable{H:Type}{enc:TypeId×Value->H}{P:Program}{w:World}{base:Nat}{spare:Nat->Bool}{held:Bool}
end
end
section
open Go
theorem aj.af4{ρ:Pos->Loc}{n:Nat}{C C':Cells}{v:AV}{x:Value}(hC:∀ad u,C ad=some u->C' ad=some u)(h:aj ρ n C v x):aj ρ n C' v x:=by
 induction h with
 |bool b=>exact .bool b
 |int k i=>exact .int k i
 |str s bs h=>exact .str s bs h
 |gR=>exact .gR
 |ptr b off h=>exact .ptr b off h
 |fp xs i j es ay base cell hl hc _ ih=>exact .fp xs i j es ay base cell hl (λi j cs v h1 h2=>hC _ _ (hc i j cs v h1 h2)) ih
 |aq=>exact .aq
 |slice b off len cap es aI a hl hc ha hk=>exact .slice b off len cap es aI a hl hc ha hk
 |fl xs es aI a cell hl hs di hc _ ih=>exact .fl xs es aI a cell hl hs di (λi j cs v h1 h2=>hC _ _ (hc i j cs v h1 h2)) ih
 |nZ=>exact .nZ
 |map b h=>exact .map b h
 |func f x y x' y' hx hy _ _ ih1 ih2=>exact .func f x y x' y' hx hy ih1 ih2
 |iQ=>exact .iQ
 |v8=>exact .v8
 |iface t v x _ ih=>exact .iface t v x ih
 |agg l cs hl _ ih=>exact .agg l cs hl ih
 |tuple l cs hl _ ih=>exact .tuple l cs hl ih
def iX(ρ:Pos->Loc)(n:Nat)(C:Cells)(w:World)(v u:AV):Prop:=∀x,aj ρ n C v x->aj ρ n (λad=>w.cell? ad) u x
section
variable{ρ:Pos->Loc}{C:Cells}{st:St}{w:World}
theorem iX.self{n:Nat}(hC:∀ad u,C ad=some u->w.cell? ad=some u)(v:AV):iX ρ n C w v v:=λ_ h=>h.af4 hC
theorem iX.agg{n:Nat}{l l':List AV}(hl:l.length=l'.length)(h:∀(i:Nat)(v u:AV),l[i]? =some v->l'[i]? =some u->iX ρ n C w v u):iX ρ n C w (.agg l) (.agg l'):=λx hx=>by
 cases hx with
 |agg _ cs h1 h2=>
  refine .agg l' cs (by omega) λi u x hu hx=> ?_
  have hi:i<l.length:=by rw[hl];exact(H5.1 hu).1
  exact h i l[i] u (H1 hi) hu _ (h2 i _ x (H1 hi) hx)
theorem iX.slice(hW:aT ρ C st w){b:Pos}{off len es fz:Nat}{cap:Option Nat}{cs:List AV}(hb:st.heap.get b=some (.cells cs fz))(hlen:off+len*es<=cs.length){F:List (List AV)}(hF:F.length=len)
  (di:∀(i:Nat)(r:List AV),F[i]? =some r->r.length=es)
  (hr:∀(i j:Nat)(r:List AV)(u v:AV),F[i]? =some r->r[j]? =some u->cs[off+i*es+j]? =some v->iX ρ st.next.toNat C w v u):
  iX ρ st.next.toNat C w (.slice b off len cap es) (.fl F es):=λx hx=>by
 cases hx with
 |slice  _ _ _ _ _ aI a hl hc ha hk=>
  have get:∀(i j:Nat)(r:List AV)(u:AV),F[i]? =some r->r[j]? =some u->i<len/\j<es/\off+i*es+j<cs.length/\0<aI:=λi j r u h1 h2=>by
   have g1:i<len:=(by rw[<-hF];exact(H5.1 h1).1);have g2:j<es:=(by rw[<-di i r h1];exact(H5.1 h2).1);have g3:(i+1)*es<=len*es:=Zg3 _ g1;rw[Zh5]at g3;exact⟨g1,g2,by omega,by omega⟩
  have cell:∀(i j:Nat)(r:List AV)(u:AV),F[i]? =some r->r[j]? =some u->∃v y,cs[off+i*es+j]? =some v/\w.cell? ⟨a.block,a.off+i*es+j,none⟩=some y/\aj ρ st.next.toNat C v y:=λi j r u h1 h2=>by
   obtain⟨g1,g2,g3,g4⟩:=get i j r u h1 h2;obtain⟨_,rfl,_⟩:=ha (by omega);have hv:=H1 g3;obtain⟨y,q1,q2⟩:=hW.cell hb hv;exact⟨_,y,hv,by rw[show(ρ b).base+off+i*es+j=(ρ b).base+(off+i*es+j)by omega];exact q1,q2⟩
  have key:aj ρ st.next.toNat (λad=>w.cell? ad) (.fl F es) (.slice (some a) F.length aI):=by
   refine .fl F es aI a (λi j=>(w.cell? ⟨a.block,a.off+i*es+j,none⟩).getD .nilFunc) (by omega) (λh0=> ?_) di (λi j r u h1 h2=> ?_) (λi j r u h1 h2=> ?_)
   .    cases af5:len with
        |zero=>exfalso;apply h0;rw[af5]at hF;exact List.length_eq_zero_iff.1 hF
        |succ m=>
         obtain⟨_,rfl,_⟩:=ha (by omega);rfl
   .    obtain⟨v,y,_,q2,_⟩:=cell i j r u h1 h2;show w.cell? _=_;rw[q2];rfl
   .    obtain⟨v,y,q1,q2,q3⟩:=cell i j r u h1 h2;rw[q2];exact hr i j r u v h1 h2 q1 y q3
  rw[hF]at key;exact key
end
def cJ (st:St):Nat->AV->AV
 |0,v=>v
 |  d+  1,.slice b off len cap es=>match decide (len=0)with
    |true=>.fl [] es
    |false=>match st.heap.get b with
     |  some (.cells cs _)=>match decide (off+len*es<=cs.length)with
        |true=>.fl ((List.range len).map λi=>((cs.drop (off+i*es)).take es).map (cJ st d)) es
        |false=>.slice b off len cap es
     |_=>.slice b off len cap es
 |  d+1,.ptr b off=>match st.heap.get b with
    |some (.cells cs _)=>.fp [cs.map (cJ st d)] 0 off
    |_=>.ptr b off
 |d+1,.agg l=>.agg (l.map (cJ st d))
 |d+1,.func f x y=>.func f (x.map (cJ st d)) (y.map (cJ st d))
 |_,v=>v
theorem Tj(st:St)(d:Nat)(b:Pos)(off len:Nat)(cap:Option Nat)(es:Nat):cJ st (d+1) (.slice b off len cap es)=match decide (len=0)with
 |true=>.fl [] es
 |false=>match st.heap.get b with
  |     some (.cells cs _)=>match decide (off+len*es<=cs.length)with
        |true=>.fl ((List.range len).map λi=>((cs.drop (off+i*es)).take es).map (cJ st d)) es
        |false=>.slice b off len cap es
  |_=>.slice b off len cap es:=rfl
theorem aef(st:St)(d:Nat)(b:Pos)(off:Nat):cJ st (d+1) (.ptr b off)=match st.heap.get b with
 |some (.cells cs _)=>.fp [cs.map (cJ st d)] 0 off
 |_=>.ptr b off:=rfl
theorem RF(st:St)(d:Nat)(l:List AV):cJ st (d+1) (.agg l)= .agg (l.map (cJ st d)):=rfl
theorem acw(st:St)(d:Nat)(f:FuncId)(x y:List AV):cJ st (d+1) (.func f x y)= .func f (x.map (cJ st d)) (y.map (cJ st d)):=rfl
section
variable{ρ:Pos->Loc}{C:Cells}{st:St}{w:World}
theorem iX.ptr(hW:aT ρ C st w){b:Pos}{off fz:Nat}{cs F:List AV}(hb:st.heap.get b=some (.cells cs fz))(hF:F.length=cs.length)
  (hr:∀(j:Nat)(u v:AV),F[j]? =some u->cs[j]? =some v->iX ρ st.next.toNat C w v u):iX ρ st.next.toNat C w (.ptr b off) (.fp [F] 0 off):=λx hx=>by
 cases hx with
 |ptr   _ _ h=>
  have row:∀(i j:Nat)(r:List AV)(u:AV),[F][i]? =some r->r[j]? =some u->i=0/\∃v y,cs[j]? =some v/\w.cell? ⟨(ρ b).ay,(ρ b).base+j,none⟩=some y/\aj ρ st.next.toNat C v y/\F[j]? =some u:=λi j r u h1 h2=>by
   have hi:i=0:=(by have:=(H5.1 h1).1;simp at this;exact this);subst hi;simp at h1;subst h1;have hj:j<cs.length:=(by rw[<-hF];exact(H5.1 h2).1);obtain⟨y,q1,q2⟩:=hW.cell hb (H1 hj);exact⟨rfl,_,y,H1 hj,q1,q2,h2⟩
  have key:aj ρ st.next.toNat (λad=>w.cell? ad) (.fp [F] 0 off) (.pointer (some ⟨(ρ b).ay,(ρ b).base+0*cs.length+off,none⟩)):=by
   refine .fp [F] 0 off cs.length (ρ b).ay (ρ b).base (λ_ j=>(w.cell? ⟨(ρ b).ay,(ρ b).base+j,none⟩).getD .nilFunc) (λi r h1=> ?_) (λi j r u h1 h2=> ?_) (λi j r u h1 h2=> ?_)
   .    have hi:i=0:=(by have:=(H5.1 h1).1;simp at this;exact this);subst hi;simp at h1;subst h1;exact hF
   .    obtain⟨rfl,v,y,_,q2,_⟩:=row i j r u h1 h2;show w.cell? _=_;rw[show(ρ b).base+0*cs.length+j=(ρ b).base+j by omega,q2];rfl
   .    obtain⟨rfl,v,y,q1,q2,q3,q4⟩:=row i j r u h1 h2;rw[q2];exact hr j u v q4 q1 y q3
  rw[show(ρ b).base+0*cs.length+off=(ρ b).base+off by omega]at key;exact key
theorem iX.cJ (hW:aT ρ C st w):∀(d:Nat)(v:AV),iX ρ st.next.toNat C w v (cJ st d v)
 |0,v=>iX.self (λad u h=>(hW.cV ad u h).1) v
 |d+    1,v=>   by
  have self:=iX.self (ρ:=ρ) (n:=st.next.toNat) (λad u h=>(hW.cV ad u h).1) v;cases v with
  |slice    b off len cap es=>
   rw[Tj];split
   .    rename_i h0;obtain rfl:=Zf5 h0;intro x hx;cases hx with
        | slice _ _ _ _ _ aI a hl hc ha hk=>
          exact .fl [] es aI a (λ_ _=>.nilFunc) (Zi3 _) (λh=>absurd rfl h) (λi c h=>by simp at h) (λi j c v h=>by simp at h) (λi j c v h=>by simp at h)
   split
   .    rename_i cs fz hb;split
        . rename_i hle;have hle:=Zf5 hle;refine iX.slice hW hb hle (by simp) (λi r hi=> ?_) (λi j r u v hi hj hv=> ?_)
          . rw[Zb5]at hi;by_cases h:i<len
            .rw[Zn5 h]at hi;simp only[Ze0,H0]at hi;subst hi;have g3:(i+1)*es<=len*es:=Zg3 _ h;rw[Zh5]at g3;simp;omega
            .rw[Zb3 (by simpa using h)]at hi;cases hi
          . rw[ Zb5]at hi;by_cases h:i<len
            . rw[Zn5 h]at hi;simp only[Ze0,H0]at hi;subst hi;rw[Zb5,Zb1]at hj;split at hj
              .rw[Zc6,hv]at hj;simp only[Ze0,H0]at hj;subst hj;exact iX.cJ hW d v
              .cases hj
            .rw[Zb3 (by simpa using h)]at hi;cases hi
        .exact self
   .    exact self
  |ptr b off=>
   rw[aef];split
   .    rename_i cs fz hb;refine iX.ptr hW hb (by simp) (λj u v hu hv=> ?_);rw[Zb5,hv]at hu;simp only[Ze0,H0]at hu;subst hu;exact iX.cJ hW d v
   .    exact self
  |agg l=>
   rw[RF];refine iX.agg (by simp) (λi v u h1 h2=> ?_);rw[Zb5,h1]at h2;simp only[Ze0,H0]at h2;subst h2;exact iX.cJ hW d v
  |func f x y=>
   rw[acw];intro v' hv;cases hv with
   |    func _ _ _ x' y' hx hy h1 h2=>
        have one:∀(l:List AV)(xs:Array Value),(∀(i:Nat)(v:AV)(v':Value),l[i]? =some v->xs[i]? =some v'->aj ρ st.next.toNat C v v')->∀(i:Nat)(v:AV)(v':Value),(l.map (Go.Ai.cJ st d))[i]? =some v->xs[i]? =some v'->aj ρ st.next.toNat (λad=>w.cell? ad) v v':=λl xs h i u v' hu hx=>by
          rw[Zb5]at hu;cases hg:l[i]? with
          |none=>rw[hg]at hu;cases hu
          | some v0=>
            rw[hg]at hu;simp only[Ze0,H0]at hu;subst hu;exact iX.cJ hW d v0 _ (h i v0 v' hg hx)
        exact .func f _ _ x' y' (by simpa using hx) (by simpa using hy) (one x x' h1) (one y y' h2)
  |_=>exact self
theorem av.cJ(hW:aT ρ C st w)(d:Nat){l:List AV}{xs:List Value}(h:av ρ st.next.toNat C l xs):av ρ st.next.toNat (λad=>w.cell? ad) (l.map (Go.Ai.cJ st d)) xs:=
 ⟨by rw[<-h.1];simp,λi u x hu hx=>by
  rw[Zb5]at hu;cases hv:l[i]? with
  |none=>rw[hv]at hu;cases hu
  |  some v=>
     rw[hv]at hu;simp only[Ze0,H0]at hu;subst hu;exact iX.cJ hW d v _ (h.2 i v x hv hx)⟩
end
def bY(v:AV):Prop:=∀(ρ:Pos->Loc)(n:Nat)(C C':Cells)(x:Value),aj ρ n C v x->aj ρ n C' v x
theorem bY.bool(b:Bool):bY (.bool b):=λ_ _ _ _ _ h=>by cases h;exact .bool b
theorem bY.int(k:IntKind)(i:Int):bY (.int k i):=λ_ _ _ _ _ h=>by cases h;exact .int k i
theorem bY.str(s:List Nat):bY (.str s):=λ_ _ _ _ _ h=>by cases h with|str _ bs h=>exact .str s bs h
theorem bY.aq:bY .aq:=λ_ _ _ _ _ h=>by cases h;exact .aq
theorem bY.slice(b:Pos)(o l:Nat)(c:Option Nat)(es:Nat):bY (.slice b o l c es):=λ_ _ _ _ _ h=>by
 cases h with|slice _ _ _ _ _ aI a h1 h2 h3 h4=>exact .slice b o l c es aI a h1 h2 h3 h4
theorem bY.tuple{l:List AV}(hl:∀v∈l,bY v):bY (.tuple l):=λ_ _ _ _ _ h=>by
 cases h with|tuple _ cs hx h1=>exact .tuple l cs hx λi v x hv hx=>hl v (Zc1 hv) _ _ _ _ _ (h1 i v x hv hx)
theorem bY.agg{l:List AV}(hl:∀v∈l,bY v):bY (.agg l):=λ_ _ _ _ _ h=>by
 cases h with|agg _ cs hx h1=>exact .agg l cs hx λi v x hv hx=>hl v (Zc1 hv) _ _ _ _ _ (h1 i v x hv hx)
def IP:AB->Prop
 |.cells cs _=>∀v∈cs,bY v
 |.map es _=>∀e∈es,bY e.1/\bY e.2.1
 |.iR _ _=>True
 |.typed _ cs=>∀v∈cs,bY v
theorem IP.rel{x:AB}(h:IP x){ρ:Pos->Loc}{n:Nat}{C C':Cells}{L:Loc}{w:World}(k:kV ρ n C L w x):kV ρ n C' L w x:=by
 cases x with
 |cells cs fz=>
  obtain⟨c,e,fr,h1,h2,h3,h4,h5⟩:=k;exact⟨c,e,fr,h1,h2,h3,⟨h4.1,λi v x hv hx=>h v (Zc1 hv) _ _ _ _ _ (h4.2 i v x hv hx)⟩,h5⟩
 |map es clock=>
  obtain⟨es',h1,h2,h3⟩:=k;exact⟨es',h1,h2,λi e e' he jN=>let⟨a,b,c⟩:=h3 i e e' he jN;⟨(h e (Zc1 he)).1 _ _ _ _ _ a,(h e (Zc1 he)).2 _ _ _ _ _ b,c⟩⟩
 |iR s pos=>exact k
 |typed t cs=>
  obtain⟨c,fr,h1,h2,h3,h4,h5⟩:=k;exact⟨c,fr,h1,h2,h3,⟨h4.1,λi v x hv hx=>h v (Zc1 hv) _ _ _ _ _ (h4.2 i v x hv hx)⟩,h5⟩
def T.both{α:Type}:T α->T α->T α
 |t,.e=>t
 |.e,t=>t
 |.n l v r,.n l' v' r'=>.n (T.both l l') (v.or v') (T.both r r')
theorem T.aaY{α:Type}(t:T α):T.both t .e=t:=by cases t<;>rfl
theorem T.Ao{α:Type}:∀(p:Pos)(t t':T α),(T.both t t').get p=(t.get p).or (t'.get p)
 |p,t,.e=>by rw[T.aaY,T.dh];simp
 |p,.e,.n l v r=>by rw[T.dh];rfl
 |.h,.n l v r,.n l' v' r'=>rfl
 |.o p,.n l v r,.n l' v' r'=>T.Ao p l l'
 |.i p,.n l v r,.n l' v' r'=>T.Ao p r r'
def T.keep{α:Type}(P:α->Bool):T α->T α
 |.e=>.e
 |.n l v r=>.n (T.keep P l) (v.filter P) (T.keep P r)
theorem T.IQ{α:Type}(P:α->Bool):∀(p:Pos)(t:T α),(T.keep P t).get p=(t.get p).filter P
 |p,.e=>by rw[T.keep,T.dh];rfl
 |.h,.n l v r=>rfl
 |.o p,.n l v r=>T.IQ P p l
 |.i p,.n l v r=>T.IQ P p r
open Classical in
noncomputable def yG(t:T AB):T AB:=T.keep (λx=>decide (IP x)) t
theorem Tk{t:T AB}{p:Pos}{x:AB}(h:(yG t).get p=some x):t.get p=some x/\IP x:=by
 unfold yG at h;rw[T.IQ]at h;cases hg:t.get p with
 |none=>rw[hg]at h;cases h
 |some y=>
  rw[hg]at h;simp only[Option.filter]at h;split at h
  .rename_i hb;cases h;exact⟨rfl,@Zf5 _ (Classical.propDecidable _) hb⟩
  .cases h
theorem aaZ{t:T AB}{p:Pos}{x:AB}(h:t.get p=some x)(hb:IP x):(yG t).get p=some x:=by
 unfold yG;rw[T.IQ,h];simp[Option.filter,hb]
theorem aeg:yG .e= .e:=rfl
def Shut(n0:Pos)(r:AV×St):Prop:=bY r.1/\n0.toNat<=r.2.next.toNat
open Classical in
noncomputable def IU(call:ah)(f:FuncId)(d:Nat):List AV->St->Option (AV×St):=λargs st=>
 match call f (args.map (cJ st d)) { heap:= .e,next:=st.next }with
 |some (v,aN)=>if Shut st.next (v,aN)then some (v,{ heap:=T.both st.heap (yG aN.heap),next:=aN.next })else none
 |none=>none
theorem Yv{call:ah}{f:FuncId}{d:Nat}{args:List AV}{st:St}{v:AV}{aN:St}(h:call f (args.map (cJ st d)) { heap:= .e,next:=st.next }=some (v,aN))(hs:Shut st.next (v,aN)):
  IU call f d args st=some (v,{ heap:=T.both st.heap (yG aN.heap),next:=aN.next }):=by
 unfold IU;rw[h];simp only;rw[Za2 hs]
theorem acy{call:ah}{f:FuncId}{d:Nat}{args:List AV}{st:St}{v:AV}(h:call f (args.map (cJ st d)) { heap:= .e,next:=st.next }=some (v,{ heap:= .e,next:=st.next }))(hs:bY v):
  IU call f d args st=some (v,st):=by
 rw[Yv h ⟨hs,Za3 _⟩];simp only[aeg,T.aaY]
theorem abF {P:Program}{C:Cells}{f:FuncId}{call:ah}{d:Nat}(bH:∀C':Cells,(∀ad u,C ad=some u->C' ad=some u)->eE P C' call):lW P C f (IU call f d) where
 mono args st v st' h:=by
  unfold IU at h;split at h
  . split at h
    .   rename_i hs;simp only[H0,Za9]at h;rw[<-h.2];exact hs.2
    .   cases h
  .cases h
 runs ρ st  w args v st' bC h hW hv:=by
  unfold IU at h;split at h
  . rename_i v1 aN hc;split at h
    .   rename_i hs;simp only[H0,Za9]at h;obtain⟨rfl,rfl⟩:=h;obtain⟨s1,s3⟩:=hs;have hr:=bH (λad=>w.cell? ad) (λad u ha=>(hW.cV ad u ha).1) ρ { heap:= .e,next:=st.next } w f _ v1 aN bC hc (AW (λad u ha=>ha) λa u _ o ho=>ho) (av.cJ hW d hv);refine Reaches.mono (λx w' he=> ?_) hr
        . obtain⟨ρ',h1,h2,h3,h4,hE⟩:=he;have un:∀k,k<w.heap.size->w'.heap[k]? =w.heap[k]? :=λk hk=>hE.block k hk λb x hb=>by rw[T.dh]at hb;cases hb
          have new:∀b x,aN.heap.get b=some x->w.heap.size<=(ρ' b).ay:=λb x hx=>by
            rcases hE.nc b x hx with⟨b',x',iz,_⟩|hh
            .rw[T.dh]at iz;cases iz
            .exact hh
          have both:∀b x,(T.both st.heap (yG aN.heap)).get b=some x->(st.heap.get b=some x/\ρ' b=ρ b)\/(aN.heap.get b=some x/\IP x):=λb x hx=>by
            rw[T.Ao]at hx;cases hg:st.heap.get b with
            |none=>rw[hg]at hx;exact .inr (Tk (by simpa using hx))
            |some y=>rw[hg]at hx;simp at hx;subst hx;exact .inl ⟨rfl,h2 b (hW.live b y hg).1⟩
          refine⟨ρ',s1 _ _ _ _ _ h1,h2,s3,⟨λb x hx=> ?_,λb b' x x' hx js PU=> ?_,λa u ha=> ?_,λa u ha o ho=> ?_⟩,⟨hE.os,hE.tape,hE.output,hE.size,λk hk _=>un k hk,λb x hx=> ?_⟩⟩
          . rcases both b x hx with⟨hg,aQ⟩|⟨hg,UG⟩
            .obtain⟨l1,l2,l3⟩:=hW.live b x hg;refine⟨Zb9 l1 s3,by rw[aQ];exact Zb9 l2 hE.size,?_⟩;rw[aQ];exact(l3.of_heap (un _ l2)).mono h2 s3
            .obtain⟨l1,l2,l3⟩:=h4.live b x hg;exact⟨l1,l2,UG.rel l3⟩
          . rcases both b x hx with⟨hg,aQ⟩|⟨hg,UG⟩
            . rcases both b' x' js with⟨oW,Ak⟩|⟨oW,_⟩
              .rw[aQ,Ak]at PU;exact hW.inj b b' x x' hg oW PU
              .have q1:=(hW.live b x hg).2.1;have q2:=new b' x' oW;rw[aQ]at PU;omega
            . rcases both b' x' js with⟨oW,Ak⟩|⟨oW,_⟩
              .have q1:=(hW.live b' x' oW).2.1;have q2:=new b x hg;rw[Ak]at PU;omega
              .exact h4.inj b b' x x' hg oW PU
          . obtain⟨c1,c2⟩:=hW.cV a u ha;have aK:a.block<w.heap.size:=World.block_lt_of_cell? _ _ c1;refine⟨(h4.cV a u c1).1,λb x hx=> ?_⟩;rcases both b x hx with⟨hg,aQ⟩|⟨hg,UG⟩
            .rw[aQ];exact c2 b x hg
            .have:=new b x hg;omega
          .have aK:a.block<w.heap.size:=World.block_lt_of_cell? _ _ (hW.cV a u ha).1;rw[World.cell?_of_block (w:=w) (a:=⟨a.block,o,none⟩) (un _ aK)];exact hW.whole a u ha o ho
          . rcases both b x hx with⟨hg,aQ⟩|⟨hg,UG⟩
            .exact .inl ⟨b,x,hg,by rw[aQ]⟩
            .exact .inr (new b x hg)
    .   cases h
  .cases h
section
variable{R:Type}(c:ah)(K:AV->St->Option R)(st:St)
end
def cZ:AV->Option Pos
 |.slice b _ n cap _=>if cap=some 0/\n=0 then none else some b
 |_=>none
theorem Tl{b b':Pos}{off n es:Nat}{cap:Option Nat}(h:cZ (.slice b off n cap es)=some b'):b=b':=by
 simp only[cZ]at h;split at h
 .cases h
 .exact Zf9 h
theorem wY(b:Pos)(off n es:Nat):cZ (.slice b off n none es)=some b:=by simp[cZ]
theorem ju(b:Pos)(off es:Nat):cZ (.slice b off 0 (some 0) es)=none:=by simp[cZ]
def QS(es:Nat)(s:St)(v:AV)(rows:List (List AV)):Prop:=
 (v= .aq/\rows=[])\/(∃b off cap cs,v= .slice b off rows.length cap es/\s.heap.get b=some (.cells cs 0)/\off+rows.length*es<=cs.length/\(cs.drop off).take (rows.length*es)=rows.flatten/\(cap=none\/cap=some rows.length))\/
    (∃b off,v= .slice b off 0 (some 0) es/\rows=[])
theorem QS.nil{es:Nat}{s:St}:QS es s .aq []:= .inl ⟨rfl,rfl⟩
theorem QS.mono{es:Nat}{s s':St}{v:AV}{rows:List (List AV)}(h:QS es s v rows)(hk:∀b x,cZ v=some b->s.heap.get b=some x->s'.heap.get b=some x):QS es s' v rows:=by
 rcases h with⟨rfl,rfl⟩|⟨b,off,cap,cs,rfl,h1,h2,h3,h4⟩|⟨b,off,rfl,rfl⟩
 .exact .inl ⟨rfl,rfl⟩
 . by_cases h0:cap=some 0/\rows.length=0
   .obtain⟨rfl,h0⟩:=h0;refine .inr (.inr ⟨b,off,by rw[h0],Za8 h0⟩)
   .exact .inr (.inl ⟨b,off,cap,cs,rfl,hk b _ (by simp only[cZ];rw[Za1 h0]) h1,h2,h3,h4⟩)
 .exact .inr (.inr ⟨b,off,rfl,rfl⟩)
theorem QS.len{es:Nat}{s:St}{v:AV}{rows:List (List AV)}(h:QS es s v rows):cS v=some rows.length:=by rcases h with⟨rfl,rfl⟩|⟨b,off,cap,cs,rfl,_⟩|⟨b,off,rfl,rfl⟩<;>rfl
theorem QS.lt{es:Nat}{s:St}{v:AV}{rows:List (List AV)}(h:QS es s v rows)(hw:Wf s){b:Pos}(hb:cZ v=some b):b.toNat<s.next.toNat:=by
 rcases h with⟨rfl,rfl⟩|⟨b',off,cap,cs,rfl,h1,_⟩|⟨b',off,rfl,rfl⟩
 .cases hb
 .obtain rfl:=Tl hb;exact hw _ _ h1
 .rw[ju]at hb;cases hb
theorem QS.first{es:Nat}{s:St}{v:AV}{rows:List (List AV)}(h:QS es s v rows)(hr:∀r∈rows,r.length=es):cq es rows.length (λb=>s.heap.get b) v=some rows.flatten:=by
 rcases h with⟨rfl,rfl⟩|⟨b,off,cap,cs,rfl,h1,h2,h3,h4⟩|⟨b,off,rfl,rfl⟩
 .rfl
 rotate_left
 .simp[cq,dK]
 . by_cases h0:rows.length*es=0
   .simp only[cq,dK,H4 h0];have:rows.flatten=[]:=(by rw[<-h3,h0];simp);rw[this]
   .simp only[cq,dK,H2 h0,h1];unfold cut;rw[dX,H4 h2];simp only;rw[h3]
theorem QS.app{R:Type}{c:ah}{es bytes:Nat}{s:St}{v:AV}{rows:List (List AV)}(hw:Wf s)(h:QS es s v rows)(hr:∀r∈rows,r.length=es){q:Pos}{row:List AV}(hq:s.heap.get q=some (.cells row 0))(FN:row.length=es)(h1:aZ row=true)
   (di:es≠0) (hb:(2*(rows.length+1)+768)*bytes<=281474976710656) (hn:rows.length<=4000000):
   ∃ s5,(∀(K:AV->St->Option R),ai c (.append es bytes) [v,.slice q 0 1 (some 1) es] s K=K (.slice s.next 0 (rows.length+1) none es) s5)/\QS es s5 (.slice s.next 0 (rows.length+1) none es) (rows++[row])/\
     Wf s5/\s5.next=s.next.succ/\(∀p,cZ v≠some p->p.toNat<s.next.toNat->s5.heap.get p=s.heap.get p)/\s5.heap.get s.next=some (.cells (rows.flatten++row) 0):=by
 have hx:cq es 1 (λb=>s.heap.get b) (.slice q 0 1 (some 1) es)=some row:=by simp only[cq,dK,Zn1,H2 di,hq];exact bK FN
 have ho:=h.first hr;have hlen:rows.flatten.length=rows.length*es:=by
   clear h ho hn hb;induction rows with
   |nil=>simp
   | cons r rows ih=>
     have:=ih (λx hx=>hr x (Za4 _ hx));have h2:=hr r (by simp);simp only[Ze6,Zd1,Zd7,Zh5];omega
 have new:∀(s5:St),s5.heap.get s.next=some (.cells (rows.flatten++row) 0)->QS es s5 (.slice s.next 0 (rows.length+1) none es) (rows++[row]):=λs5 hs=>by
   refine .inr (.inl ⟨s.next,0,none,rows.flatten++row,by simp,hs,?_,?_,.inl rfl⟩)
   .simp only[Zd1,Zd7,Zn3,Zb6,Zi2,Zn1,hlen,FN];omega
   .simp only[Zb7,List.flatten_append,Ze6,List.flatten_nil,Zf4];refine Zf8 ?_;simp only[Zd1,Zd7,Zn3,Zb6,Zi2,Zn1,hlen,FN];omega
 have zP:(2*(rows.length+1)+768)*bytes<=281474976710656:=hb;have A0:rows.length+1<=9223372036854775807:=by omega
 rcases h with⟨rfl,rfl⟩|⟨b,off,cap,cs,rfl,g1,g2,g3,g4⟩|⟨b,off,rfl,rfl⟩
 rotate_right
 . have run:az.run (λb=>s.heap.get b) s.next (.append es bytes) [.slice b off 0 (some 0) es,.slice q 0 1 (some 1) es]=some (.aF (.slice s.next 0 (0+1) none es) none none (some (.cells ([]++row) 0))):=(by have h2:¬(0+1<=0):=(by omega);have C9:cq es 0 (λb=>s.heap.get b) (.slice b off 0 (some 0) es)=some []:=(by simp[cq,dK]);simp only[az.run,fk];rw[show cS (.slice b off 0 (some 0) es)=some 0 from rfl,show cS (.slice q 0 1 (some 1) es)=some 1 from rfl];have hb3:(2*(0+1)+768)*bytes<=281474976710656:=(by simpa using hb);simp only[dX,dK,H4 hb3,H2 h2,hx,C9];simp);refine⟨af s (.cells row 0),λK=> ?_,?_,bE hw,rfl,λp _ hp=>qN hp,by simpa using aE s (.cells row 0)⟩
   .unfold ai aV;simp only[Zn3]at run ⊢; rw[run];rfl
   .simpa using new (af s (.cells row 0)) (by simpa using aE s (.cells row 0))
 .refine⟨af s (.cells row 0),λK=>VO c K (m:=1) rfl (by omega) (by simpa using hb) (by omega) hx,?_,bE hw,rfl,λp _ hp=>qN hp,by simpa using aE s (.cells row 0)⟩;simpa using new (af s (.cells row 0)) (by simpa using aE s (.cells row 0))
 . rcases g4 with rfl|rfl
   .have run:az.run (λb=>s.heap.get b) s.next (.append es bytes) [.slice b off rows.length none es,.slice q 0 1 (some 1) es]=some (.aF (.slice s.next 0 (rows.length+1) none es) (some b) none (some (.cells (rows.flatten++row) (0 - off)))):=(by simp only[az.run,fk];rw[show cS (.slice b off rows.length none es)=some rows.length from rfl,show cS (.slice q 0 1 (some 1) es)=some 1 from rfl];simp only[dX,dK,H4 zP,H4 A0,hx,g1,ho,h1];simp);refine⟨dst s b (.cells (rows.flatten++row) 0),λK=> ?_,new _ (RE _ _ _),aaU hw,rfl,λp hp hl=>Ql (λe=>hp (by rw[e,wY])) hl,RE _ _ _⟩;unfold ai aV;rw[run];simp only[Nat.zero_sub];rfl
   . have h2:¬(rows.length+1<=rows.length):=(by omega);have run:az.run (λb=>s.heap.get b) s.next (.append es bytes) [.slice b off rows.length (some rows.length) es,.slice q 0 1 (some 1) es]=some (.aF (.slice s.next 0 (rows.length+1) none es) none none (some (.cells (rows.flatten++row) 0))):=by
        simp only[az.run,fk];rw[show cS (.slice b off rows.length (some rows.length) es)=some rows.length from rfl,show cS (.slice q 0 1 (some 1) es)=some 1 from rfl];simp only[dX,dK,H4 zP,H4 A0,H2 h2,hx,ho]
     refine⟨af s (.cells (rows.flatten++row) 0),λK=> ?_,new _ (aE _ _),bE hw,rfl,λp _ hp=>qN hp,aE _ _⟩;unfold ai aV;rw[run];rfl
theorem aeh{R:Type}{c:ah}{es:Nat}{z:List AV}{x:AV}(hz:z.length=es)(hx:x.cells.length=es)(s:St)(K:AV->St->Option R):
  ai c (.buildSlice es 1 z [0]) [x] s K=K (.slice s.next 0 1 (some 1) es) (af s (.cells x.cells 0)):=by
 have:bG (bF z 1) ([0].map λi=>(i*es,es)) [x]=some x.cells:=by
  simp only[Zb8,Zf2,Zo4,bF,Zf4,bG,dK,dX,hx,Zj2,Zb6,hz,Za3];simp only[aH,List.take_zero,Zg8,Zb6];rw[List.drop_of_length_le (by omega),Zf4]
 rw[cr,this];rfl
structure Mk(es:Nat)(s0 s:St)(v:AV)(rows:List (List AV)):Prop where
 sk:Wf s0
 ax:Grew s0 s
 own:QS es s v rows
 new:∀b,cZ v=some b->s0.next.toNat<=b.toNat
 row:∀r∈rows,r.length=es
 cap:∀b off n cp e,v= .slice b off n cp e->cp=none\/(n=0/\cp=some 0)
 tight:∀b,cZ v=some b->s.heap.get b=some (.cells rows.flatten 0)
theorem Mk.start{es:Nat}{s0 s:St}(h0:Wf s0)(hg:Grew s0 s):Mk es s0 s .aq []:=⟨h0,hg,QS.nil,λb h=>(by cases h),λr h=>(by cases h),λb off n cp e h=>(by cases h),λb h=>(by cases h)⟩
theorem Mk.grow{es:Nat}{s0 s s':St}{v:AV}{rows:List (List AV)}(h:Mk es s0 s v rows)(hg:Grew s s'):Mk es s0 s' v rows:=
 ⟨h.sk,h.ax.trans hg,h.own.mono λb x _ hx=>hg.get hx,h.new,h.row,h.cap,λb hb=>hg.get (h.tight b hb)⟩
theorem Mk.push{R:Type}{c:ah}{es bytes:Nat}{s0 s:St}{v:AV}{rows:List (List AV)}(h:Mk es s0 s v rows){z:List AV}{x:AV}(hz:z.length=es)(hx:x.cells.length=es)(h1:aZ x.cells=true)(di:es≠0)
   (hb:(2*(rows.length+1)+768)*bytes<=281474976710656) (hn:rows.length<=4000000):
   ∃ s5 v',(∀(K:AV->St->Option R),ai c (.buildSlice es 1 z [0]) [x] s (λy t=>ai c (.append es bytes) [v,y] t K)=K v' s5)/\Mk es s0 s5 v' (rows++[x.cells])/\
     (∀p b,cZ v≠some p->s.heap.get p=some b->s5.heap.get p=some b)/\∀b,cZ v'=some b->s.next.toNat<=b.toNat:=by
 have hw:=h.ax.wf;have bV:Wf (af s (.cells x.cells 0)):=bE hw;have g1:=Grew.af hw (.cells x.cells 0);obtain⟨s5,a1,a2,a3,a4,a5,a6⟩:=QS.app (R:=R) (c:=c) (bytes:=bytes) bV (h.own.mono λb x _ hx=>g1.get hx) h.row (aE s (.cells x.cells 0)) hx h1 di hb hn;have keep:∀p b,cZ v≠some p->s.heap.get p=some b->s5.heap.get p=some b:=λp b hp hg=>by have aK:=hw _ _ hg;rw[a5 p hp (by rw[dD,Pos.aB];omega)];exact g1.get hg
 refine⟨s5,_,λK=> ?_,⟨h.sk,⟨a3,λp b hg=> ?_,?_⟩,a2,λb hb=> ?_,λr hr=> ?_,λb off n cp e he=> ?_,λb hb=> ?_⟩,keep,λb hb=> ?_⟩
 .rw[aeh hz hx,a1]
 .have wZ:=h.ax.get hg;refine keep p b (λe=> ?_) wZ;have:=h.new p e;have:=h.sk p b hg;omega
 .have:=h.ax.next;rw[a4,dD,Pos.aB,Pos.aB];omega
 .rw[wY]at hb;cases hb;have:=h.ax.next;rw[dD,Pos.aB];omega
 . rcases Zd4.1 hr with hr|hr
   .exact h.row r hr
   .simp at hr;subst hr;exact hx
 .cases he;exact .inl rfl
 .rw[wY]at hb;cases hb;rw[a6];simp
 .rw[wY]at hb;cases hb;rw[dD,Pos.aB];omega
theorem iY{b:Pos}{off n es:Nat}(h:Plain (.slice b off n none es)):False:=by
 have h1:aj (λ_=>⟨0,0,off+n*es⟩) (b.toNat+1) (λ_=>none) (.slice b off n none es) (.slice (some ⟨0,0+off,none⟩) n n):=
  .slice b off n none es n _ (Za3 _) (λc hc=>by cases hc) (λ_=>⟨by omega,rfl,by simp⟩) (λ_=>by omega)
 have h2:=h _ (λ_=>⟨0,0,0⟩) _ 0 _ _ h1;cases h2 with
 |slice _ _ _ _ _ _ _ _ _ _ hk=>exact absurd (hk rfl) (by omega)
theorem Mk.tidy{es:Nat}{s s':St}{v:AV}{rows:List (List AV)}(h:Mk es s s' v rows):∃fq,Go.Ai.tidy s (v,s')=(v,fq)/\Mk es s fq v rows:=by
 unfold Go.Ai.tidy;by_cases hp:Plain (v,s').1/\aP s (v,s').2
 . rw[Za2 hp];refine⟨s,rfl,?_⟩;rcases h.own with⟨rfl,rfl⟩|⟨b,off,cap,cs,rfl,_⟩|⟨b,off,rfl,rfl⟩
   .exact Mk.start h.sk (Grew.refl h.sk)
   . rcases h.cap _ _ _ _ _ rfl with rfl|⟨h0,rfl⟩
     .exact(iY hp.1).elim
     .exact⟨h.sk,Grew.refl h.sk,.inr (.inr ⟨b,off,by rw[h0],Za8 h0⟩),λb hb=>(by rw[h0,ju]at hb;cases hb),h.row,h.cap,λb hb=>(by rw[h0,ju]at hb;cases hb)⟩
   .exact⟨h.sk,Grew.refl h.sk,.inr (.inr ⟨b,off,rfl,rfl⟩),λb hb=>(by rw[ju]at hb;cases hb),h.row,h.cap,λb hb=>(by rw[ju]at hb;cases hb)⟩
 .rw[Za1 hp];exact⟨s',rfl,h⟩
theorem QS.cJ{es d:Nat}{s:St}{v:AV}{rows:List (List AV)}(h:QS es s v rows)(hr:∀r∈rows,r.length=es):
   ∃z,Go.Ai.cJ s (d+1) v=ro es z (rows.map λr=>r.map (Go.Ai.cJ s d)):=by
 rcases h with⟨rfl,rfl⟩|⟨b,off,cap,cs,rfl,h1,h2,h3,h4⟩|⟨b,off,rfl,rfl⟩
 .exact⟨true,rfl⟩
 rotate_left
 .exact⟨false,rfl⟩
 . refine⟨false,?_⟩;by_cases h0:rows.length=0
   .obtain rfl:=Za8 h0;rfl
   rw[Tj,H2 h0];simp only;rw[h1];simp only[H4 h2];show AV.fl _ _=AV.fl _ _;congr 1;(refine List.ext_getElem (by simp) λi p1 p2=> ?_);simp only[Zb0,List.length_range]at p1;simp only[Zk8,List.getElem_range];congr 1;have key:∀(rows:List (List AV))(i:Nat)(hi:i<rows.length),(∀r∈rows,r.length=es)->((rows.flatten).drop (i*es)).take es=rows[i]:=by
     intro rows;induction rows with
     |nil=>intro i hi;simp at hi
     |  cons r rows ih=>
        intro i hi hr;have hl:=hr r (by simp);cases i with
        |zero=>simp[<-hl]
        |succ i=>
         have:=ih i (by simpa using hi) (λx hx=>hr x (Za4 _ hx));rw[Ze6,Zh5,Nat.add_comm, <-hl,List.drop_append];simp only[Zm0];rw[<-this,hl];simp[Zl9 (show r.length<=es+i*es by omega)]
   rw[<-key rows i p1 hr, <-h3];rw[List.drop_take,Zo0,Zl8];congr 1;have:(i+1)*es<=rows.length*es:=Zg3 _ p1;rw[Zh5]at this;omega
section
variable{R:Type}(c:ah)(K:AV->St->Option R)(st:St)
theorem IV{b:Pos}{off len es es':Nat}{cap:Option Nat}{k:IntKind}{i:Nat}(h:i<len):ai c (.idxA es none) [.slice b off len cap es',.int k (i:Int)] st K=K (.ptr b (off+i*es)) st:=
 aY c K (λH n=>by
  simp only[az.run,mD,ir];have:Nat.blt i len=true:=by rw[Zo5];exact h
  rw[this]) st
theorem VR(b:Pos)(off len es:Nat)(cap:Option Nat):ai c (.lenB .l) [.slice b off len cap es] st K=K (.int .i64 (len:Int)) st:=aY c K (λH n=>rfl) st
theorem Yw{es bytes:Nat}{z:List AV}{k k':IntKind}{n:Nat}(h1:bytes*n<=281474976710656)(h2:n<=9223372036854775807):
  ai c (.mkSlice es bytes z) [.int k (n:Int),.int k' (n:Int)] st K=K (.slice st.next 0 n (some n) es) (af st (.cells (bF z n) 0)):=by
 have:az.run (λb=>st.heap.get b) st.next (.mkSlice es bytes z) [.int k (n:Int),.int k' (n:Int)]=some (.aF (.slice st.next 0 n (some n) es) none none (some (.cells (bF z n) 0))):=by
  simp only[az.run,yg,ir,dX,H4 h1,H4 h2,Za3,Zj2]
 unfold ai aV;rw[this];rfl
end
theorem IW{α:Type}(x:α):∀n:Nat,bF [x] n=List.replicate n x
 |0=>rfl
 |n+1=>by simp[bF,IW x n,List.replicate_succ]
theorem Dq{rows:List (List AV)}{es:Nat}(hr:∀r∈rows,r.length=es):∀(i j:Nat)(r:List AV)(u:AV),rows[i]? =some r->r[j]? =some u->rows.flatten[i*es+j]? =some u:=by
 induction rows with
 |nil=>intro i j r u h;simp at h
 |cons r0 rows ih=>
  intro i j r u h1 h2;have hl:=hr r0 (by simp);cases i with
  |zero=>
   simp at h1;subst h1;have:=(H5.1 h2).1;rw[Ze6,Zo4,Zb6,Zc9 this];exact h2
  |succ i=>
   rw[Ze6,Zd0 (by rw[Zh5];omega)];rw[show(i+1)*es+j - r0.length=i*es+j by rw[Zh5];omega];exact ih (λx hx=>hr x (Za4 _ hx)) i j r u (by simpa using h1) h2
theorem QS.lenB{R:Type}{c:ah}{es:Nat}{s:St}{v:AV}{rows:List (List AV)}(h:QS es s v rows)(K:AV->St->Option R)(s1:St):ai c (.lenB .l) [v] s1 K=K (.int .i64 (rows.length:Int)) s1:=by
 rcases h with⟨rfl,rfl⟩|⟨b,off,cap,cs,rfl,_⟩|⟨b,off,rfl,rfl⟩
 .exact aY c K (λH n=>rfl) s1
 .exact VR c K s1 _ _ _ _ _
 .exact VR c K s1 _ _ _ _ _
def fc(v:AV):Prop:=∃N0 K0:Nat,∀N K:Nat,N0<=N->K0<=K->∃x,aj (λ_=>⟨0,0,K⟩) N (λ_=>none) v x
theorem fc.int(k:IntKind)(i:Int):fc (.int k i):=⟨0,0,λ_ _ _ _=>⟨_,.int k i⟩⟩
theorem fc.bool(b:Bool):fc (.bool b):=⟨0,0,λ_ _ _ _=>⟨_,.bool b⟩⟩
theorem fc.aq:fc .aq:=⟨0,0,λ_ _ _ _=>⟨_,.aq⟩⟩
theorem fc.str{s:List Nat}(h:∀x∈s,x<256):fc (.str s):=⟨0,0,λ_ _ _ _=>⟨.string ⟨(s.map UInt8.ofNat).toArray⟩,.str s _ (by
 show(s.map UInt8.ofNat).toArray.toList.map UInt8.toNat=s;simp only[Zf7]
 conv=>rhs;rw[<-List.map_id s]
 refine Zi6 λc hc=> ?_
 have:=h c hc;simp[UInt8.toNat_ofNat];omega)⟩⟩
theorem fc.slice(b:Pos)(off n es:Nat):fc (.slice b off n none es):=⟨b.toNat+1,off+n*es,λN K hN hK=>⟨.slice (some ⟨0,0+off,none⟩) n n,
 .slice b off n none es n _ (Za3 _) (λc hc=>by cases hc) (λ_=>⟨by omega,rfl,by simpa using hK⟩) (λ_=>by omega)⟩⟩
theorem fc.zero(b:Pos)(off es:Nat):fc (.slice b off 0 (some 0) es):=⟨0,0,λN K _ _=>⟨.slice (some ⟨0,0,none⟩) 0 0,
 .slice b off 0 (some 0) es 0 _ (Za3 _) (λc hc=>by cases hc;rfl) (λh=>absurd rfl h) (λh=>by cases h)⟩⟩
theorem inst_list:∀{l:List AV},(∀v∈l,fc v)->∃N0 K0:Nat,∀N K:Nat,N0<=N->K0<=K->∃xs,av (λ_=>⟨0,0,K⟩) N (λ_=>none) l xs
 |[],_=>⟨0,0,λ_ _ _ _=>⟨[],av.nil⟩⟩
 |v::l,h=>by
  obtain⟨N1,K1,h1⟩:=h v (by simp);obtain⟨N2,K2,h2⟩:=inst_list (λu hu=>h u (Za4 _ hu));refine⟨max N1 N2,max K1 K2,λN K hN hK=> ?_⟩;obtain⟨x,hx⟩:=h1 N K (by omega) (by omega);obtain⟨xs,gb⟩:=h2 N K (by omega) (by omega);exact⟨x::xs,av.cons hx gb⟩
theorem mH{l:List AV}(hi:∀v∈l,fc v){b:Pos}{off n es:Nat}(hm:AV.slice b off n none es∈l):¬Plain (.agg l):=λh=>by
 obtain⟨N0,K0,h1⟩:=inst_list hi;obtain⟨xs,hx⟩:=h1 N0 K0 (Za3 _) (Za3 _);have h2:aj (λ_=>⟨0,0,K0⟩) N0 (λ_=>none) (.agg l) (.agg xs.toArray):= .agg l _ (by rw[hx.1];simp) λi v x hv js=>hx.2 i v x hv (by simpa using js)
 have h3:=h _ (λ_=>⟨0,0,0⟩) _ 0 _ _ h2;obtain⟨i,aK,hi⟩:=Zg6.1 hm;cases h3 with
 |agg _ _ hl hc=>
  have acz:i<xs.toArray.size:=by rw[<-hl];exact aK
  obtain⟨y,hy⟩:∃y,xs.toArray[i]? =some y:=⟨_,Ze3 acz⟩
  have:=hc i _ y (by rw[H1 aK,hi]) hy;cases this with
  |slice _ _ _ _ _ _ _ _ _ _ hk=>exact absurd (hk rfl) (by omega)
theorem Mk.inst{es:Nat}{s s':St}{v:AV}{rows:List (List AV)}(h:Mk es s s' v rows):fc v:=by
 rcases h.own with⟨rfl,rfl⟩|⟨b,off,cap,cs,rfl,_⟩|⟨b,off,rfl,rfl⟩
 .exact fc.aq
 . rcases h.cap _ _ _ _ _ rfl with rfl|⟨h0,rfl⟩
   .exact fc.slice _ _ _ _
   .rw[h0];exact fc.zero _ _ _
 .exact fc.zero _ _ _
theorem Mk.loose{es:Nat}{s s':St}{v:AV}{rows:List (List AV)}(h:Mk es s s' v rows):(∃b off n,v= .slice b off n none es)\/((∀t,Wf t->Mk es t t v rows)/\rows=[]):=by
 rcases h.own with⟨rfl,rfl⟩|⟨b,off,cap,cs,rfl,_⟩|⟨b,off,rfl,rfl⟩
 .exact .inr ⟨λt ht=>Mk.start ht (Grew.refl ht),rfl⟩
 . rcases h.cap _ _ _ _ _ rfl with rfl|⟨h0,rfl⟩
   .exact .inl ⟨_,_,_,rfl⟩
   .exact .inr ⟨λt ht=>⟨ht,Grew.refl ht,.inr (.inr ⟨b,off,by rw[h0],Za8 h0⟩),λb hb=>(by rw[h0,ju]at hb;cases hb),h.row,h.cap,λb hb=>(by rw[h0,ju]at hb;cases hb)⟩,Za8 h0⟩
 .exact .inr ⟨λt ht=>⟨ht,Grew.refl ht,.inr (.inr ⟨b,off,rfl,rfl⟩),λb hb=>(by rw[ju]at hb;cases hb),h.row,h.cap,λb hb=>(by rw[ju]at hb;cases hb)⟩,rfl⟩
theorem Mk.OX{es:Nat}{s s':St}{v:AV}{rows:List (List AV)}(h:Mk es s s' v rows){l:List AV}(hm:v∈l)(hi:∀u∈l,fc u):∃fq,Go.Ai.tidy s (.agg l,s')=(.agg l,fq)/\(fq=s'\/fq=s)/\Mk es s fq v rows:=by
 unfold Go.Ai.tidy;by_cases hp:Plain (AV.agg l,s').1/\aP s (AV.agg l,s').2
 . rw[Za2 hp];refine⟨s,rfl,.inr rfl,?_⟩;rcases h.loose with⟨b,off,n,rfl⟩|⟨hl,_⟩
   .exact absurd hp.1 (mH hi hm)
   .exact hl s h.sk
 .rw[Za1 hp];exact⟨s',rfl,.inl rfl,h⟩
theorem Mk.cells{es:Nat}{s s':St}{v:AV}{rows:List (List AV)}(h:Mk es s s' v rows):v.cells=[v]/\aZ [v]=true:=by
 rcases h.own with⟨rfl,rfl⟩|⟨b,off,cap,cs,rfl,_⟩|⟨b,off,rfl,rfl⟩<;>exact⟨rfl,rfl⟩
theorem Mk.store{es:Nat}{s s':St}{v:AV}{rows:List (List AV)}(h:Mk es s s' v rows){p:Pos}{b:AB}(hp:s.next.toNat<=p.toNat)(AS:p.toNat<s'.next.toNat)(aR:cZ v≠some p):Mk es s (eG s' p b) v rows:=
 ⟨h.sk,⟨G6 h.ax.wf AS,λq x hq=>by have:=h.sk _ _ hq;rw[b9 (λe=>by rw[e]at hp;omega)];exact h.ax.get hq,by rw[Dn];exact h.ax.next⟩,
  h.own.mono λq x hq hx=>by rw[b9 (λe=>aR (by rw[hq,e]))];exact hx,h.new,h.row,h.cap,λb hb=>by rw[b9 (λe=>aR (by rw[hb,e]))];exact h.tight b hb⟩
theorem Mk.back{es:Nat}{s0 s s':St}{v:AV}{rows:List (List AV)}(h:Mk es s s' v rows)(h0:Wf s0)(hg:Grew s0 s):Mk es s0 s' v rows:=
 ⟨h0,hg.trans h.ax,h.own,λb hb=>Zc3 hg.next (h.new b hb),h.row,h.cap,h.tight⟩
theorem IX{α:Type}(l:List α)(i:Nat)(h:i<l.length)(u:α):aH l i [u]=l.set i u:=by unfold aH;rw[List.set_eq_take_append_cons_drop,Za2 h];simp
theorem FW{es:Nat}:∀(rows:List (List AV)),(∀r∈rows,r.length=es)->∀(i j:Nat)(hi:i<rows.length),j<es->∀u,rows.flatten.set (i*es+j) u=(rows.set i (rows[i].set j u)).flatten
 |[],_,i,j,hi,_,_=>by simp at hi
 |r::rows,hr,i,j,hi,hj,u=>by
  have hl:=hr r (by simp);cases i with
  |zero=>
   simp only[Zo4,Zb6,Ze6,List.set_cons_zero,List.getElem_cons_zero];rw[List.set_append_left _ _ (by omega)]
  |succ i=>
   simp only[Ze6,List.set_cons_succ,Zm0];rw[List.set_append_right _ _ (by rw[Zh5];omega)];rw[show(i+1)*es+j - r.length=i*es+j by rw[Zh5];omega];rw[FW rows (λx hx=>hr x (Za4 _ hx)) i j (by simpa using hi) hj u]
theorem QS.set{R:Type}{c:ah}{es:Nat}{s:St}{v:AV}{rows:List (List AV)}(h:QS es s v rows)(hr:∀r∈rows,r.length=es)(di:es≠0){i:Nat}(hi:i<rows.length):
   ∃ b o cs,(∀(K:AV->St->Option R)(k:IntKind)(s1:St),ai c (.idxA es none) [v,.int k (i:Int)] s1 K=K (.ptr b o) s1)/\(∀(K:AV->Option R)(k:IntKind),gh (.idxA es none) [v,.int k (i:Int)] K=K (.ptr b o))/\cZ v=some b/\s.heap.get b=some (.cells cs 0)/\o+es<=cs.length/\(∀j u,rows[i][j]? =some u->cs[o+j]? =some u)/\
     (∀j u (s':St),j<es->s'.heap.get b=some (.cells (aH cs (o+j) [u]) 0)->QS es s' v (rows.set i (rows[i].set j u)))/\
     ∀j u,j<es->cs=rows.flatten->aH cs (o+j) [u]=(rows.set i (rows[i].set j u)).flatten:=by
 rcases h with⟨rfl,rfl⟩|⟨b,off,cap,cs,rfl,g1,g2,g3,g4⟩|⟨b,off,rfl,rfl⟩
 .simp at hi
 rotate_left
 .simp at hi
 have hri:=hr rows[i] (Zc2 hi);have hm:(i+1)*es<=rows.length*es:=Zg3 _ hi;rw[Zh5]at hm;have hx:∀(k:IntKind)(H:Pos->Option AB)(n:Pos),az.run H n (.idxA es none) [.slice b off rows.length cap es,.int k (i:Int)]=some (.val (.ptr b (off+i*es))):=λk H n=>by
   simp only[az.run,mD,ir];have:Nat.blt i rows.length=true:=(by rw[Zo5];exact hi);rw[this]
 refine⟨b,off+i*es,cs,λK k s1=>IV c K s1 hi,λK k=>cF K (hx k),by simp only[cZ];rw[Za1 (by omega)],g1,by omega,λj u hj=> ?_,λj u s' hj hs=> ?_,λj u hj he=> ?_⟩
 . have hj2:j<es:=(by rw[<-hri];exact(H5.1 hj).1);have:=Dq hr i j rows[i] u (H1 hi) hj;rw[<-g3,Zb1]at this;split at this
   .rw[Zc6]at this;rw[<-this];congr 1;omega
   .cases this
 .rw[IX _ _ (by omega)]at hs;refine .inr (.inl ⟨b,off,cap,_,by simp,hs,by simpa using g2,?_,by simpa using g4⟩);rw[Zi5, <-FW rows hr i j hi hj u, <-g3,List.drop_set,Za1 (by omega),List.take_set];congr 1;omega
 . have hlen:rows.flatten.length=rows.length*es:=by
     clear g2 g3 g4 hi hri hm hx g1 he;induction rows with
     |nil=>simp
     |  cons r rows ih=>
        have:=ih (λx hx=>hr x (Za4 _ hx));have h2:=hr r (by simp);simp only[Ze6,Zd1,Zd7,Zh5];omega
   have h0:off=0:=(by rw[he,hlen]at g2;omega);subst h0;rw[IX _ _ (by omega),he, <-FW rows hr i j hi hj u];congr 1;omega
def Src(es:Nat)(s:St)(v:AV)(rows:List (List AV)):Prop:=v= .fl rows es\/QS es s v rows
theorem Src.len{es:Nat}{s:St}{v:AV}{rows:List (List AV)}(h:Src es s v rows):cS v=some rows.length:=by
 rcases h with rfl|h
 .rfl
 .exact h.len
theorem Src.mono{es:Nat}{s s':St}{v:AV}{rows:List (List AV)}(h:Src es s v rows)(hk:∀b x,cZ v=some b->s.heap.get b=some x->s'.heap.get b=some x):Src es s' v rows:=h.imp id λh=>h.mono hk
theorem Src.ax{es:Nat}{s s':St}{v:AV}{rows:List (List AV)}(h:Src es s v rows)(hg:Grew s s'):Src es s' v rows:=h.mono λ_ _ _ hx=>hg.get hx
theorem Src.first{es:Nat}{s:St}{v:AV}{rows:List (List AV)}(h:Src es s v rows)(hr:∀r∈rows,r.length=es):cq es rows.length (λb=>s.heap.get b) v=some rows.flatten:=by
 rcases h with rfl|h
 .simp only[cq,dK,dX,Zj2,Za3,Zk7]
 .exact h.first hr
theorem Src.nil{es:Nat}{s:St}{v:AV}{rows:List (List AV)}(h:Src es s v rows):(v= .aq/\rows=[])\/∀{R:Type}(c:ah)(K:AV->St->Option R)(t:St),ai c (.bin .eql .slice) [v,.aq] t K=K (.bool false) t:=by
 rcases h with rfl|⟨rfl,rfl⟩|⟨b,off,cap,cs,rfl,_⟩|⟨b,off,rfl,rfl⟩
 .exact .inr λc K t=>aY c K (λH n=>rfl) t
 .exact .inl ⟨rfl,rfl⟩
 .exact .inr λc K t=>aY c K (λH n=>rfl) t
 .exact .inr λc K t=>aY c K (λH n=>rfl) t
theorem Src.ro{es:Nat}{s:St}(z:Bool)(rows:List (List AV)):Src es s (ro es z rows) rows:=by
 unfold Go.Ai.ro;split
 .exact .inr (.inl ⟨rfl,rfl⟩)
 .exact .inl rfl
theorem Tm{es:Nat}:∀{rows:List (List AV)},(∀r∈rows,r.length=es)->rows.flatten.length=rows.length*es
 |[],_=>by simp
 |r::rows,hr=>by have ih:=Tm (λx hx=>hr x (Za4 _ hx));have h2:=hr r (by simp);simp only[Ze6,Zd1,Zd7,Zh5];omega
theorem Fk{es bytes:Nat}{z:List AV}{src:AV}{rows:List (List AV)}(hr:∀r∈rows,r.length=es)(_hes:es≠0)(hb:(2*rows.length+768)*bytes<=281474976710656)(hn:rows.length<=4000000){c:ah}{R:Type}(s:St)(hw:Wf s)(h:Src es s src rows):
   ∃v s',(∀(K:AV->St->Option R),ai c (.buildSlice es 0 z []) [] s (λy t=>ai c (.append es bytes) [y,src] t K)=K v s')/\Mk es s s' v rows:=by
 have bs:∀(K:AV->St->Option R),ai c (.buildSlice es 0 z []) [] s K=K (.slice s.next 0 0 (some 0) es) (af s (.cells [] 0)):=λK=>by rw[cr];rfl
 have bV:Wf (af s (.cells [] 0)):=bE hw;have g1:=Grew.af hw (.cells [] 0);have hl:=h.len;by_cases h0:rows.length=0
 .obtain rfl:=Za8 h0;refine⟨.slice s.next 0 0 (some 0) es,af s (.cells [] 0),λK=> ?_,hw,g1,.inr (.inr ⟨_,_,rfl,rfl⟩),λb hb=>(by rw[ju]at hb;cases hb),hr,λb off n cp e he=>(by cases he;exact .inr ⟨rfl,rfl⟩),λb hb=>(by rw[ju]at hb;cases hb)⟩;rw[bs,VP c K hl (by simpa using hb) (by simp)]
 . have hx:cq es rows.length (λb=>(af s (.cells [] 0)).heap.get b) src=some rows.flatten:=(h.ax g1).first hr;have hlen:=Tm hr;refine⟨.slice (af s (.cells [] 0)).next 0 rows.length none es,af (af s (.cells [] 0)) (.cells rows.flatten 0),λK=> ?_,hw,g1.trans (Grew.af bV _),.inr (.inl ⟨_,0,none,rows.flatten,rfl,aE _ _,by omega,?_,.inl rfl⟩),λb hb=> ?_,hr,λb off n cp e he=>(by cases he;exact .inl rfl),λb hb=>(by rw[wY]at hb;cases hb;exact aE _ _)⟩
   .rw[bs,aaW c K (m:=rows.length) hl h0 (by simpa using hb) (by omega) hx]
   .simp only[Zb7];exact Zf8 (by omega)
   .rw[wY]at hb;cases hb;rw[dD,Pos.aB];omega
theorem aa0{v:AV}(h:aZ [v]=true):v.one=true:=by
 simp only[aZ]at h;split at h
 .assumption
 .cases h
theorem TY{b:Pos}{o:Nat}{k1 k2:IntKind}{i1 i2:Int}:¬Plain (.tuple [.ptr b o,.int k1 i1,.int k2 i2]):=λh=>by
 obtain⟨x0,e0⟩:∃x,aj (λ_=>⟨0,0,0⟩) (b.toNat+1) (λ_=>none) (.ptr b o) x:=⟨_,.ptr b o (by omega)⟩
 obtain⟨x1,e1⟩:∃x,aj (λ_=>⟨0,0,0⟩) (b.toNat+1) (λ_=>none) (.int k1 i1) x:=⟨_,.int k1 i1⟩
 obtain⟨x2,e2⟩:∃x,aj (λ_=>⟨0,0,0⟩) (b.toNat+1) (λ_=>none) (.int k2 i2) x:=⟨_,.int k2 i2⟩
 have:=h (λ_=>⟨0,0,0⟩) (λ_=>⟨0,0,0⟩) (b.toNat+1) 0 (λ_=>none) _ (.tuple _ #[x0,x1,x2] rfl (λi v v' hv hx=>by
  match i with
  |0=>simp at hv hx;subst hv hx;exact e0
  |1=>simp at hv hx;subst hv hx;exact e1
  |2=>simp at hv hx;subst hv hx;exact e2
  |i+3=>simp at hv))
 cases this with
 |tuple _ _ _ h=>
  have:=h 0 _ x0 rfl rfl;cases this with
  |ptr _ _ h=>omega
abbrev OY(v:AV):List AV:=[v]
theorem acA(l:List AV):∀r∈l.map OY,r.length=1:=λr hr=>by simp only[Zd8]at hr;obtain⟨m,_,rfl⟩:=hr;rfl
section
variable{s0 s s':St}{jb:Pos}{Ls:List AV}{R:List (List AV)}{I:List (AV×List (List AV))}
end
section
variable{s0 s s':St}{jb:Pos}{Ls:List AV}{R:List (List AV)}{I:List (AV×List (List AV))}
end
theorem RH{R:Type}{c:ah}(K:AV->St->Option R){s:St}{p:Pos}{o:Nat}{cs:List AV}{v:AV}(h:s.heap.get p=some (.cells cs 0))(ho:o<cs.length)(h1:v.cells=[v])(h2:v.one=true):
  ai c (.store 1) [.ptr p o,v] s K=K .undef (eG s p (.cells (cs.set o v) 0)):=by
 rw[jt c K s 1 p o v cs h (by rw[h1];rfl) (by omega) (by rw[h1];simp[aZ,h2]),h1,IX _ _ ho]
section
variable{s0 s s':St}{jb:Pos}{Ls:List AV}{R:List (List AV)}{I:List (AV×List (List AV))}
end
theorem QS.bare{es:Nat}{s:St}{v:AV}{rows:List (List AV)}(h:QS es s v rows):bY v:=by
 rcases h with⟨rfl,_⟩|⟨b,off,cap,cs,rfl,_⟩|⟨b,off,rfl,_⟩
 .exact bY.aq
 .exact bY.slice _ _ _ _ _
 .exact bY.slice _ _ _ _ _
def emptyAt(s:St):St:={ heap:= .e,next:=s.next }
theorem mW(s:St):Wf (emptyAt s):=λp x h=>by have h:(T.e:T AB).get p=some x:=h;rw[T.dh]at h;cases h
noncomputable def eP(s s1:St):St:={ heap:=T.both s.heap (yG s1.heap),next:=s1.next }
theorem ZG{s s1:St}{b:Pos}{x:AB}(h:s.heap.get b=some x):(eP s s1).heap.get b=some x:=by show(T.both _ _).get b=_;rw[T.Ao,h];rfl
theorem ZH{s s1:St}(hw:Wf s){b:Pos}{x:AB}(hb:s.next.toNat<=b.toNat)(h:s1.heap.get b=some x)(hx:IP x):(eP s s1).heap.get b=some x:=by
 show(T.both _ _).get b=_;have:s.heap.get b=none:=by
  cases e:s.heap.get b with
  |none=>rfl
  |some y=>have:=hw _ _ e;omega
 rw[T.Ao,this,aaZ h hx];rfl
theorem NX{s s1:St}(hw:Wf s)(h1:Wf s1)(hn:s.next.toNat<=s1.next.toNat):Grew s (eP s s1):=
 ⟨fun p x h=>by
  have h:(T.both s.heap (yG s1.heap)).get p=some x:=h;show p.toNat<s1.next.toNat;rw[T.Ao]at h;cases e:s.heap.get p with
  |some y=>have:=hw _ _ e;omega
  |none=>
   rw[e]at h;have h:(yG s1.heap).get p=some x:=(by simpa using h);exact h1 _ _ (Tk h).1,λp x h=>ZG h,hn⟩
theorem Mk.eP{es:Nat}{s s1:St}{v:AV}{rows:List (List AV)}(hw:Wf s)(h:Mk es (emptyAt s) s1 v rows)(hb:∀r∈rows,∀x∈r,bY x):Mk es s (Go.Ai.eP s s1) v rows:=by
 have key:∀b x,cZ v=some b->s1.heap.get b=some x->(Go.Ai.eP s s1).heap.get b=some x:=λb x iz hx=>by
  have t:=h.tight b iz;have js:x= .cells rows.flatten 0:=by rw[t]at hx;exact(Zf9 hx).symm
  subst js;exact ZH hw (h.new b iz) t (λv hv=>by obtain⟨r,hr,hv⟩:=List.mem_flatten.1 hv;exact hb r hr v hv)
 exact⟨hw,NX hw h.ax.wf h.ax.next,h.own.mono key,h.new,h.row,h.cap,λb iz=>key b _ iz (h.tight b iz)⟩
theorem Tn{call:ah}{f:FuncId}{d:Nat}{args:List AV}{s:St}{v:AV}{s1:St}(h:call f (args.map (cJ s d)) (emptyAt s)=some (v,s1))(hb:bY v)(hn:s.next.toNat<=s1.next.toNat):
 IU call f d args s=some (v,eP s s1):=Yv h ⟨hb,hn⟩
theorem tU{call:ah}{f:FuncId}{d:Nat}{args:List AV}{s:St}{v:AV}(h:call f (args.map (cJ s d)) (emptyAt s)=some (v,emptyAt s))(hb:bY v):IU call f d args s=some (v,s):=acy h hb
section
variable{H:Type}(Ok:DataW H->Prop)(enc:TypeId×Value->H)(P:Program)(w:World)(base:Nat)(spare:Nat->Bool)(held:Bool)
def bT(t:TypeId)(Q:List AV->Prop):Prop:=
 ∀  (fuel:Nat)(cs:List Value)(x:DataW H×List MemPlace),DataW.trod enc P w base spare held fuel t cs=some x->Ok x.1->
    ∃as,Q as/\∀ρ n,av ρ n (λad=>w.cell? ad) as cs
def RI:List TypeId->List (List AV->Prop)->Prop
 |[],[]=>True
 |f::fs,Q::Qs=>bT Ok enc P w base spare held f Q/\RI fs Qs
 |_,_=>False
variable{Ok enc P w base spare held}
theorem bT.of{t:TypeId}{Q:List AV->Prop}(h:vU enc P w base spare held t Q):bT Ok enc P w base spare held t Q:=λfuel cs x hx _=>h fuel cs x hx
theorem bT.mono{t:TypeId}{Q Q':List AV->Prop}(h:bT Ok enc P w base spare held t Q)(k:∀as,Q as->Q' as):bT Ok enc P w base spare held t Q':=
 λfuel cs x hx hk=>by obtain⟨as,h1,h2⟩:=h fuel cs x hx hk;exact⟨as,k _ h1,h2⟩
theorem lq {N:Nat}{t e:TypeId}{es:Nat}{Q:List AV->Prop}(ht:P.underlying t=some (.slice e))(hc:P.cellsOf e=es)(di:0<es)(hQ:∀as,Q as->as.length=es)(cT:∀e s,Ok (.slice e s)->e.length<=N/\∀d∈e,Ok d)(h:bT Ok enc P w base spare held e Q):
  bT Ok enc P w base spare held t λas=>∃z rs,as=[ro es z rs]/\(∀r∈rs,Q r)/\rs.length<=N:=
 fun fuel cs x hx hk=>by
  rcases DataW.trod_slice ht hx with⟨rfl,_⟩|⟨a,len,cap,elems,rest,n,_,rfl,rfl,hb,hl,hm,hlen,hel,_,_⟩
  .  exact⟨_,⟨true,[],rfl,by simp,by simp⟩,λρ m=>av.cons .aq av.nil⟩
  .  obtain ⟨hN,hE⟩:=cT _ _ hk;simp only[Zb0]at hN;have each:∀i,∃r row,i<len->(Q r/\w.cells? base (a.add (i*es)) es=some row/\∀ρ m,av ρ m (λad=>w.cell? ad) r row):=by
        intro i;by_cases hi:i<len
        . have h1:=hel i hi;rw[H1 (by omega),hc]at h1;cases h2:w.cells? base (a.add (i*es)) es with
          |none=>rw[h2]at h1;cases h1
          | some row=>
            rw[h2]at h1;obtain⟨r,hr,hv⟩:=h n row _ h1 (hE _ (List.mem_map_of_mem (Zc2 _)));exact⟨r,row,λ_=>⟨hr,rfl,hv⟩⟩
        .exact⟨[],[],λh=>absurd h hi⟩
     obtain⟨r,each⟩:=Classical.axiomOfChoice each;obtain⟨row,hr⟩:=Classical.axiomOfChoice each;have adN:0<len->a.spot=none:=λh0=>by
        obtain⟨_,h1,_⟩:=hr 0 h0;have:=(World.cells?_some h1).2.2 0 di;have hl:=(World.cells?_some h1).2.1;rw[H1 (by omega)]at this;simp only[Zo4,Addr.add,Zf0]at this;unfold World.cell? at this;split at this
        . split at this
          .cases this
          .rename_i h;simpa using h
        .cases this
     have af6:((List.range len).map r).length=len:=(by simp);have get:∀(i:Nat)(c:List AV),((List.range len).map r)[i]? =some c->i<len/\c=r i:=λi c hi=>by
        rw[Zb5]at hi;by_cases h:i<len
        .rw[Zn5 h]at hi;simp at hi;exact⟨h,hi.symm⟩
        .rw[Zb3 (by simpa using h)]at hi;cases hi
     refine⟨_,⟨false,(List.range len).map r,rfl,?_,by simp;omega⟩,λρ m=>av.cons ?_ av.nil⟩
     .  intro q hq;simp only[Zd8,List.mem_range]at hq;obtain⟨i,hi,rfl⟩:=hq;exact(hr i hi).1
     .  have key:aj ρ m (λad=>w.cell? ad) (.fl ((List.range len).map r) es) (.slice (some a) ((List.range len).map r).length cap):=by
          refine .fl _ es cap a (λi j=>((row i)[j]?).getD .nilFunc) (by omega) (λh0=>adN ?_) (λi c hi=> ?_) (λi j c v hi hj=> ?_) (λi j c v hi hj=> ?_)
          .apply Zh1;intro h;apply h0;have:len=0:=(by omega);subst this;rfl
          .obtain⟨h1,rfl⟩:=get i c hi;exact hQ _ (hr i h1).1
          . obtain⟨h1,rfl⟩:=get i c hi;obtain⟨q1,q2,q3⟩:=hr i h1;have hj2:j<es:=(by rw[<-hQ _ q1];exact(H5.1 hj).1);have q4:=(World.cells?_some q2).2.2 j hj2;have q5:=(World.cells?_some q2).2.1;have hs:=adN (by omega);have e1:(a.add (i*es)).add j=⟨a.block,a.off+i*es+j,none⟩:=by
             obtain⟨ay,off,spot⟩:=a;simp only at hs;subst hs;unfold Addr.add;by_cases e1:i*es=0<;>by_cases e2:j=0<;>simp[e1,e2]
            rw[e1]at q4;show w.cell? _=_;rw[q4,H1 (by omega)];rfl
          .obtain⟨h1,rfl⟩:=get i c hi;obtain⟨q1,q2,q3⟩:=hr i h1;have hj2:j<es:=(by rw[<-hQ _ q1];exact(H5.1 hj).1);have q5:=(World.cells?_some q2).2.1;refine(q3 ρ m).2 j v _ hj ?_;rw[H1 (by omega)];rfl
        rw[af6]at key;exact key
theorem JZ{Ti n:Nat}:∀(fs:List Field)(Qs:List (List AV->Prop))(o:Nat)(cs:List Value),yF P Ti o fs=true->RI Ok enc P w base spare held (fs.map (·.type)) Qs->cs.length=Ti->
  (∀f∈fs,∃y,DataW.trod enc P w base spare held n f.type ((cs.drop f.offset).take (P.cellsOf f.type))=some y/\Ok y.1)->
  ∃parts,Dp Qs parts/\∀ρ m,av ρ m (λad=>w.cell? ad) parts.flatten (cs.drop o)
 |[],[],o,cs,hc,_,hl,_=>by simp only[yF,Zo3]at hc;refine⟨[],trivial,λρ m=> ?_⟩;rw[Zl9 (by omega)];exact av.nil
 |f::fs,Q::Qs,o,cs,hc,hO,hl,hf=>by
  simp only[yF,Za6,Zo3]at hc;obtain⟨y,hy,hyk⟩:=hf f (by simp);obtain⟨as,hq,hv⟩:=hO.1 n _ y hy hyk;obtain⟨parts,hp,CY⟩:=JZ fs Qs _ cs hc.2 hO.2 hl (λg hg=>hf g (Za4 _ hg));refine⟨as::parts,⟨hq,hp⟩,λρ m=> ?_⟩;have e:cs.drop o=(cs.drop f.offset).take (P.cellsOf f.type)++cs.drop (o+P.cellsOf f.type):=by
   rw[hc.1, <-Zl8,Zk2]
  rw[e,Ze6];exact(hv ρ m).append (CY ρ m)
theorem vW{t:TypeId}(ts:List TypeId){Qs:List (List AV->Prop)}(hs:IN P t=true)(cU:(fieldsOf P t).map (·.type)=ts)(hc:yF P (P.cellsOf t) 0 (fieldsOf P t)=true)(cT:∀ps,Ok (.agg ps)->∀d∈ps,Ok d)(hO:RI Ok enc P w base spare held ts Qs):
  bT Ok enc P w base spare held t λas=>∃parts,as=parts.flatten/\Dp Qs parts:=
 fun fuel cs x hx hk=>by
  obtain⟨fs,ht⟩:∃fs,P.underlying t=some (.struct fs):=by
     unfold IN at hs;cases h:P.underlying t with
     |none=>rw[h]at hs;cases hs
     |some d=>rw[h]at hs;cases d<;>first|exact⟨_,rfl⟩|cases hs
  have ef:fieldsOf P t=fs.toList:=by unfold fieldsOf;rw[ht]
  rw[ef]at cU hc;subst cU;obtain⟨xs,n,_,rfl,hl,hxl,hf⟩:=DataW.trod_struct ht hx;have hE:=cT _ hk;obtain⟨parts,hp,hv⟩:=JZ fs.toList Qs 0 cs hc hO hl (λf hf2=>by
     obtain⟨i,hi⟩:=List.getElem?_of_mem hf2;have zW:fs[i]? =some f:=(by rw[<-Zf3];exact hi);have aK:i<fs.size:=(Zc0.1 zW).1;exact⟨xs[i],by rw[hf i f zW,H1 (by omega)],hE _ (List.mem_map_of_mem (Zc2 _))⟩)
  exact⟨_,⟨parts,rfl,hp⟩,λρ m=>hv ρ m⟩
end
end
section
open Go Go.WideShapes
section
variable{H:Type}(enc:TypeId×Value->H)(P:Program)(w:World)(base:Nat)(spare:Nat->Bool)(held:Bool)
variable{enc P w base spare held}
theorem ye{Ok:DataW H->Prop}{t e:TypeId}{Q:List AV->Prop}{r:Go.Reach}{b0:Nat}{v:Value}{d:DataW H}{p:List MemPlace}(ho:bT Ok enc P w base spare held t Q)(ht:P.underlying t=some (.slice e))
  (hval:Value.okWide P w r b0 t v) (hd:DataW.Trod enc P w base spare held t v d p) (hk:Ok d):∃as,Q as/\∀ρ n,av ρ n (λad=>w.cell? ad) as [v]:=by
 obtain⟨a,len,cap,rfl⟩:=okWide_slice ht hval;obtain⟨fuel,hf⟩:=hd;exact ho _ _ _ hf hk
end
end
section
open Go
section
variable{c:ah}{R:Type}
end
theorem Mk.Qp{es:Nat}{s0 s s':St}{v:AV}{rows:List (List AV)}(h:Mk es s0 s v rows)(hg:Grew s0 s')(hk:∀b x,cZ v=some b->s.heap.get b=some x->s'.heap.get b=some x):Mk es s0 s' v rows:=
 ⟨h.sk,hg,h.own.mono hk,h.new,h.row,h.cap,λb hb=>hk b _ hb (h.tight b hb)⟩
theorem Mk.yH{es:Nat}{s0 s1 s s':St}{v:AV}{rows:List (List AV)}(h:Mk es s1 s v rows)(h0:Wf s0)(Qq:Grew s0 s1)(hg:Grew s0 s')(hk:∀q b,s1.next.toNat<=q.toNat->s.heap.get q=some b->s'.heap.get q=some b):Mk es s0 s' v rows:=
 ⟨h0,hg,h.own.mono (λb x hb hx=>hk b x (h.new b hb) hx),λb hb=>Zc3 Qq.next (h.new b hb),h.row,h.cap,λb hb=>hk b _ (h.new b hb) (h.tight b hb)⟩
end
section
open Go Go.WideShapes
theorem bD{Q:List AV->Prop}{Qs:List (List AV->Prop)}{ps:List (List AV)}(h:Dp (Q::Qs) ps):∃p qs,ps=p::qs/\Q p/\Dp Qs qs:=by
 cases ps with
 |nil=>exact h.elim
 |cons p qs=>exact⟨p,qs,rfl,h⟩
theorem wu{ps:List (List AV)}(h:Dp [] ps):ps=[]:=by
 cases ps with
 |nil=>rfl
 |cons p qs=>exact h.elim
section
variable{H:Type}{enc:TypeId×Value->H}{P:Program}{w:World}{base:Nat}{spare:Nat->Bool}{held:Bool}
end
end
section
open Go
noncomputable def RJ(d:Nat)(As:List (List AV))(r:AV):List AV->St->Option (AV×St):=λargs st=>open Classical in if args.map (cJ st d)∈As then some (r,st)else none
theorem aei{d:Nat}{As:List (List AV)}{r:AV}{args:List AV}{st:St}(A:List AV)(hA:A∈As)(h:args.map (cJ st d)=A):RJ d As r args st=some (r,st):=by
 unfold RJ;rw[h,Za2 hA]
theorem aa1{P:Program}{C:Cells}{O:dS}{G:T cw}{m n f d:Nat}{As:List (List AV)}{r:AV}(bH:∀C:Cells,eE P C (pE O G m n))(ha:∀A∈As,∀a∈A,Plain a)(hr:Plain r)(hb:bY r)
   (h:(As.all λA=>EN (R:=Bool) false O G m n f A { heap:= .e,next:= .h } (λv _=>fC v r))=true):lW P C f (RJ d As r):=by
 have unf:∀args st v' st',RJ d As r args st=some (v',st')->v'=r/\st'=st/\(args.map (cJ st d))∈As:=by
   intro args st v' st' hs;unfold RJ at hs;(split at hs<;>first|(cases hs;done)|skip);rename_i hc;simp only[H0,Za9]at hs;exact⟨hs.1.symm,hs.2.symm,hc⟩
 refine⟨λargs st v' st' hs=> ?_,λρ st w args v' st' bC hs hW hv=> ?_⟩
 .obtain⟨_,rfl,_⟩:=unf _ _ _ _ hs;exact Za3 _
 . obtain⟨rfl,rfl,hA⟩:=unf _ _ _ _ hs;have hk:=Zd6.1 h _ hA;rw[IF false O G m n]at hk;unfold nk at hk;(split at hk<;>first|(cases hk;done)|skip);rename_i x hx;obtain⟨v,aN⟩:=x;have h1:=pL hk;subst h1;have EW:=av.cJ hW d hv;have GX:av ρ (Pos.h).toNat (λad=>w.cell? ad) (args.map (cJ st' d)) bC:=⟨EW.1,λi u y hu hy=>ha _ hA u (Zc1 hu) _ _ _ _ _ _ (EW.2 i u y hu hy)⟩
   (refine Reaches.mono (λx w' hp=> ?_) (bH (λad=>w.cell? ad) ρ { heap:= .e,next:= .h } w f _ _ aN bC hx (AW (λad u hu=>hu) λa u _ o ho=>ho) GX);obtain⟨ρ',k1,k2,k3,k4,hE⟩:=hp;have un:∀k,k<w.heap.size->w'.heap[k]? =w.heap[k]? :=λk hk=>hE.block k hk λb x hb=>by rw[T.dh]at hb;cases hb);refine⟨ρ,hb _ _ _ _ _ (hr _ _ _ _ _ _ k1),λ_ _=>rfl,Za3 _,⟨λb x hb=> ?_,hW.inj,λa u hu=> ?_,λa u hu o ho=> ?_⟩,⟨hE.os,hE.tape,hE.output,hE.size,λk hk _=>un k hk,λb x hb=>.inl ⟨b,x,hb,rfl⟩⟩⟩
   .obtain⟨l1,l2,l3⟩:=hW.live b x hb;exact⟨l1,Zb9 l2 hE.size,l3.of_heap (un _ l2)⟩
   .obtain⟨c1,c2⟩:=hW.cV a u hu;exact⟨(k4.cV a u c1).1,c2⟩
   .have aK:a.block<w.heap.size:=World.block_lt_of_cell? _ _ (hW.cV a u hu).1;rw[World.cell?_of_block (w:=w) (a:=⟨a.block,o,none⟩) (un _ aK)];exact hW.whole a u hu o ho
end
section
open Go Go.ChangeShapes Go.WideShapes Go.ChangeAt Go.RowKit
section
variable{H:Type}{enc:TypeId×Value->H}{P:Program}{w:World}{base:Nat}{spare:Nat->Bool}{held:Bool}
theorem Ot{Ok:DataW H->Prop}{t:TypeId}{fs:Array Field}{Q:List AV->Prop}{r:Go.Reach}{b0:Nat}{v:Value}{d:DataW H}{p:List MemPlace}(ho:bT Ok enc P w base spare held t Q)(ht:P.underlying t=some (.struct fs))
  (hval:Value.okWide P w r b0 t v) (hd:DataW.Trod enc P w base spare held t v d p) (hk:Ok d):∃as,Q as/\∀ρ n,aj ρ n (λad=>w.cell? ad) (.agg as) v:=by
 obtain⟨cs,rfl,_⟩:=okWide_struct ht hval;obtain⟨fuel,hf⟩:=hd;obtain⟨as,h1,h2⟩:=ho _ _ _ hf hk;refine⟨as,h1,λρ n=> ?_⟩;have h3:=h2 ρ n;refine .agg as cs (by rw[h3.1];simp[Value.cells]) λi x x' hx js=>h3.2 i x x' hx ?_
 simpa [Value.cells]using js
end
end
noncomputable section
open Go
inductive Un where
 |z
 |s (n:Un)
def un:Nat->Un
 |0=>.z
 |n+1=>.s (un n)
inductive Tx where
 |bad
 |op (k:az) (xs:List dM) (d:Option Pos) (t:Tx)
 |gop (g:Pos) (w:Bool) (k:az) (xs:List dM) (d:Option Pos) (t:Tx)
 |dr (t:Tx)
 |pr (k:az) (xs:List dM) (d:Option Pos) (t:Tx)
 |NQ (g:Pos) (w:Bool) (k:az) (xs:List dM) (d:Option Pos) (t:Tx)
 |rd (b:List Bool) (k:az) (xs:List dM) (d:Option Pos) (t:Tx)
 |NR (g:Pos) (w:Bool) (b:List Bool) (k:az) (xs:List dM) (d:Option Pos) (t:Tx)
 |nw (k:az) (xs:List dM) (d:Option Pos) (t:Tx)
 |gnw (g:Pos) (w:Bool) (k:az) (xs:List dM) (d:Option Pos) (t:Tx)
 |ef (k:az) (xs:List dM) (d:Option Pos) (t:Tx)
 |gef (g:Pos) (w:Bool) (k:az) (xs:List dM) (d:Option Pos) (t:Tx)
 |Lc (x:dM) (a b:Tx)
 |jn (l:List Pos) (a b:Tx)
 |jmp (i:Un) (l:List Pos)
 |arg (l:List Pos) (t:Tx) (r:Tx)
 |lp (j:Un) (ins:List Pos)
 |agn (ins:List Pos)
 |out (i:Un) (l:List Pos)
 |res (rs:List AP)
def txO:List bg->Tx->Tx
 |[],t=>t
 |  o::os,t=>match o.guard with
    |none=>.op o.k o.xs o.dst (txO os t)
    |some (p,w)=>.gop p w o.k o.xs o.dst (txO os t)
def bitsOf(bA:Nat):List Nat->List Bool
 |[]=>[]
 |i::is=>bA.testBit i::bitsOf bA is
def Qr:List (Nat×bg)->List Nat->Tx->Tx
 |[],_,t=>t
 |  (j,o)::os,is,t=>match o.cls,o.guard with
    |.pure,none=>.pr o.k o.xs o.dst (Qr os (j::is) t)
    |.pure,some (p,w)=> .NQ p w o.k o.xs o.dst (Qr os (j::is) t)
    |.read,none=>.rd (bitsOf o.bA is) o.k o.xs o.dst (Qr os (j::is) t)
    |.read,some (p,w)=> .NR p w (bitsOf o.bA is) o.k o.xs o.dst (Qr os (j::is) t)
    |.new,none=>.nw o.k o.xs o.dst (Qr os (j::is) t)
    |.new,some (p,w)=>.gnw p w o.k o.xs o.dst (Qr os (j::is) t)
    |.aF,none=>.ef o.k o.xs o.dst (Qr os (j::is) t)
    |.aF,some (p,w)=>.gef p w o.k o.xs o.dst (Qr os (j::is) t)
def txA(K:iU->Tx):List (Nat×List Pos)->Tx->Tx
 |[],t=>t
 |(e,l)::r,t=>.arg l (K (exOf e)) (txA K r t)
def tx:AC->Sh->Nat->(iU->Nat->Tx)->Tx
 |.skip,_,d,K=>K .normal d
 |.region ops,_,d,K=>txO ops (K .normal d)
 |.draw ops,_,d,K=>.dr (Qr ops [] (K .normal d))
 |  .seq a b,s,d,K=>match s with
    | .seq none s t=>tx a s d λex d=>match ex with
      |.normal=>tx b t d K
      |.exit i=>K (.exit i) d
      |.ret=>K .ret d
    | .seq (some l) s t=>.jn l (tx a s (d+1) λex d'=>match ex with
      |.normal=>.jmp (un (d' - d - 1)) l
      |.exit i=>K (.exit i) d'
      |.ret=>K .ret d') (tx b t d K)
    |_=>.bad
 |  .cond x a b,s,d,K=>match s with
    |.cond s t=> .Lc x (tx a s d K) (tx b t d K)
    |_=>.bad
 |  .block id a,s,d,K=>match s with
    | .block s=>tx a s d λex d=>match ex with
      |.normal=>K .normal d
      | .exit i=>match Nat.beq i id with
        |true=>K .normal d
        |false=>K (.exit i) d
      |.ret=>K .ret d
    |_=>.bad
 |  .loop _,s,d,K=>match s with
    |.loop j ins outs _=>txA (λex=>K ex d) outs (.lp (un j) ins)
    |_=>.bad
 |.exit id,_,d,K=>K (.exit id) d
 |.ret,_,d,K=>K .ret d
def idxOf:List (Nat×List Pos)->Nat->Nat
 |[],_=>0
 |  (i,_)::r,e=>match Nat.beq i e with
    |true=>0
    |false=>idxOf r e+1
def txF(A:cw)(s:Sh):Tx:=tx A.code s 0 λex _=>match ex with
 |.normal=>.res A.results
 |.ret=>.res A.results
 |.exit _=>.bad
def txL(x:AC×Sh):List Pos×Tx:=match x.2 with
 |  .loop _ ins outs s=>(ins,tx x.1 s 0 λex _=>match ex with
    |.normal=>.agn ins
    |.exit i=>.out (un (idxOf outs (i+2))) (Nb outs (i+2))
    |.ret=>.out (un (idxOf outs 1)) (Nb outs 1))
 |_=>([],.bad)
section
variable{R:Type}
abbrev KK(R:Type):=List AV->St->Option R
abbrev O2:=Option (AV×St)
abbrev Q2:=KK (AV×St)
def zR:Unit:=(λ_=>()) (@den AV)
def wz(p:Pos)(fr:Fr)(k:AV->Option R):Option R:=match fr.get p with
 |some v=>k v
 |none=>(λ_=>none) zR
def yI(p:Pos)(v:AV)(fr:Fr)(k:Fr->Option R):Option R:=(λ_=>k (fr.put (some v) p)) zR
def yJ(d:Option Pos)(v:AV)(fr:Fr)(k:Fr->Option R):Option R:=match d with
 |some p=>yI p v fr k
 |none=>k fr
def w5(fr:Fr):List dM->(List AV->Option R)->Option R
 |[],k=>k []
 |.t p::xs,k=>wz p fr λv=>w5 fr xs λvs=>k (v::vs)
 |.c v::xs,k=>w5 fr xs λvs=>k (v::vs)
def getLT:List Pos->Fr->(List AV->Option R)->Option R
 |[],_,k=>k []
 |p::ps,fr,k=>wz p fr λv=>getLT ps fr λvs=>k (v::vs)
def tV:List Pos->List AV->Fr->(Fr->Option R)->Option R
 |[],vs,fr,k=>gu vs (k fr)
 |p::ps,vs,fr,k=>eB vs λv vs=>yI p v fr λfr=>tV ps vs fr k
def Qt(p:Pos)(k:Pos->Option R):Option R:=(λ_=>k p.succ) zR
def FX:Pos->List AV->Fr->(Fr->Option R)->Option R
 |_,[],fr,k=>k fr
 |p,v::vs,fr,k=>yI p v fr λfr=>Qt p λp=>FX p vs fr k
def Lo:Un->List (KK R)->KK R
 |.z,k::_=>k
 |.s n,_::ks=>Lo n ks
 |_,[]=>λ_ _=>none
def rE:List Bool->T AB->List RC->T AB
 |  b ::bs,h,r::rs=>match r with
    | .new id ay=>match b with
      |true=>(rE bs h rs).put (some ay) id
      |false=>rE bs h rs
    |.aF _ _=>h
    |.pure=>rE bs h rs
 |_,h,_=>h
def rF(k:az)(xs:List AV)(v:AV):List (Pos×AB)->List Bool->List RC->Bool
 |  up,b::bs,r::rs=>match r with
    | .new id ay=>match b with
      |true=>rF k xs v ((id,ay)::up) bs rs
      |false=>rF k xs v up bs rs
    | .aF base _=>match b with
      |true=>true
      |false=>mE k xs v (vR up (rE bs base rs))&&rF k xs v up bs rs
    |.pure=>rF k xs v up bs rs
 |_,_,_=>true
def Dr(fr:Fr)(st:St):List AP->(List AV->Option R)->Option R
 |[],k=>k []
 |.tmp p::rs,k=>wz p fr λv=>Dr fr st rs λvs=>k (v::vs)
 |.cell p n::rs,k=>wz p fr λq=>ldr n q st λv=>Dr fr st rs λvs=>k (v::vs)
def UH(as:List (KK R))(f:KK R)(k:List (KK R)->Option R):Option R:=(λ_=>k (as++[f])) zR
def pkR(vs:List AV)(st:St):Option (AV×St):=some (fR vs,st)
end
section
variable(c:ah)(F:Nat)(Ls:Un->List Q2->Nat->Q2)(ag:Q2)(ko:List Q2)
def Qu(fr:Fr)(x:dM)(k:AV->Option (AV×St)):Option (AV×St):=match x with
 |.t p=>wz p fr k
 |.c v=>k v
def ev:Tx->List (KK (AV×St))->List (KK (AV×St))->Fr->St->List RC->T AB->Option (AV×St)
 |.bad,_,_,_,_,_,_=>none
 |.op k xs d t,ks,as,fr,st,rs,b=>w5 fr xs λvs=>ai c k vs st λv st=>yJ d v fr λfr=>ev t ks as fr st rs b
 |.gop g w k xs d t,ks,as,fr,st,rs,b=>w5 fr xs λvs=>wz g fr λg=>bu c g w k vs st λv st=>yJ d v fr λfr=>ev t ks as fr st rs b
 |.dr t,ks,as,fr,st,_,_=>ev t ks as fr st [] st.heap
 |.pr k xs d t,ks,as,fr,st,rs,b=>w5 fr xs λvs=>gh k vs λv=>yJ d v fr λfr=>ev t ks as fr st (.pure::rs) b
 | .NQ g w k xs d t,ks,as,fr,st,rs,b=>w5 fr xs λvs=>wz g fr λg=>NQ g w k vs λv=>yJ d v fr λfr=>ev t ks as fr st (.pure::rs) b
 |.rd bs k xs d t,ks,as,fr,st,rs,b=>w5 fr xs λvs=>lS k vs (rE bs b rs) (λv=>rF k vs v [] bs rs) λv=>yJ d v fr λfr=>ev t ks as fr st (.pure::rs) b
 | .NR g w bs k xs d t,ks,as,fr,st,rs,b=>w5 fr xs λvs=>wz g fr λg=>NR g w k vs (rE bs b rs) (λv=>rF k vs v [] bs rs) λv=>yJ d v fr λfr=>ev t ks as fr st (.pure::rs) b
 |.nw k xs d t,ks,as,fr,st,rs,b=>w5 fr xs λvs=>Te k vs st λv ay=>yJ d v fr λfr=>ev t ks as fr (af st ay) (.new st.next ay::rs) b
 |.gnw g w k xs d t,ks,as,fr,st,rs,b=>w5 fr xs λvs=>wz g fr λg=>NT g w (Te k vs st λv ay=>yJ d v fr λfr=>ev t ks as fr (af st ay) (.new st.next ay::rs) b) (yJ d .undef fr λfr=>ev t ks as fr st (.pure::rs) b)
 |.ef k xs d t,ks,as,fr,st,rs,b=>w5 fr xs λvs=>ai c k vs st λv st'=>yJ d v fr λfr=>ev t ks as fr st' (.aF b st'.heap::rs) st'.heap
 |.gef g w k xs d t,ks,as,fr,st,rs,b=>w5 fr xs λvs=>wz g fr λg=>NT g w (ai c k vs st λv st'=>yJ d v fr λfr=>ev t ks as fr st' (.aF b st'.heap::rs) st'.heap) (yJ d .undef fr λfr=>ev t ks as fr st (.pure::rs) b)
 | .Lc x t u,ks,as,fr,st,rs,b=>Qu fr x λv=>Lc v (ev t ks as fr st rs b) (ev u ks as fr st rs b)
 |.jn l t u,ks,as,fr,st,rs,b=>gK (λk=>ev t (k::ks) as fr st rs b) (λvs st=>tV l vs .e λfr=>ev u ks as fr st [] .e)
 |.jmp i l,ks,_,fr,st,_,_=>getLT l fr λvs=>Lo i ks vs st
 |.arg l t r,ks,as,fr,st,rs,b=>UH as (λos st=>tV l os .e λfr=>ev t ks [] fr st [] .e) λas=>ev r ks as fr st rs b
 |.lp j ins,_,as,fr,st,_,_=>getLT ins fr λvs=>Ls j as F vs st
 |.agn ins,_,_,fr,st,_,_=>getLT ins fr λvs=>ag vs st
 |.out i l,_,_,fr,st,_,_=>getLT l fr λvs=>Lo i ko vs st
 |.res rs,_,_,fr,st,_,_=>Dr fr st rs λvs=>pkR vs st
def cX(p:List Pos×Tx)(vs:List AV)(st:St):Option (AV×St):=tV p.1 vs .e λfr=>ev c F Ls ag ko p.2 [] [] fr st [] .e
end
def bh{R:Type}:Un->List (KK R)->Nat->KK R:=λ_ _ _ _ _=>none
def dZ{R:Type}:KK R:=λ_ _=>none
def bf(c:ah)(F:Nat)(Ls:Un->List Q2->Nat->Q2)(t:Tx)(args:List AV)(st:St):O2:=FX .h args .e λfr=>ev c F Ls dZ [] t [] [] fr st [] .e
def nr(Ls:Un->List Q2->Nat->Q2)(A:cw)(s:Sh):Env (AV×St):=λj K=>Ls (un j) ((lpO (eX A s j).2).map λo=>K o.1)
def sl:Sh:= .leaf
def sq(a b:Sh):Sh:= .seq none a b
def sj(l:List Nat)(a b:Sh):Sh:= .seq (some (l.map key)) a b
def sc(a b:Sh):Sh:= .cond a b
def sb(a:Sh):Sh:= .block a
def sp(j:Nat)(ins:List Nat)(outs:List (Nat×List Nat))(a:Sh):Sh:= .loop j (ins.map key) (outs.map λo=>(o.1,o.2.map key)) a
section
variable{R:Type}(l r:Fr)(v u:AV)(x:Option AV)(p:Pos)(fr:Fr)(k:AV->Option R)(K:Fr->Option R)(kp:Pos->Option R)
theorem A3:wz .h (.n l (some v) r) k=k v:=rfl
theorem A4:wz (.o p) (.n l x r) k=wz p l k:=rfl
theorem A5:wz (.i p) (.n l x r) k=wz p r k:=rfl
theorem w6:yI .h v .e K=K (.n .e (some v) .e):=rfl
theorem w7:yI .h v (.n l x r) K=K (.n l (some v) r):=rfl
theorem w8:yI (.o p) v .e K=yI p v .e λt=>K (.n t none .e):=rfl
theorem w9:yI (.o p) v (.n l x r) K=yI p v l λt=>K (.n t x r):=rfl
theorem xe:yI (.i p) v .e K=yI p v .e λt=>K (.n .e none t):=rfl
theorem xg:yI (.i p) v (.n l x r) K=yI p v r λt=>K (.n l x t):=rfl
theorem A6:yJ none v fr K=K fr:=rfl
theorem A7:yJ (some p) v fr K=yI p v fr K:=rfl
theorem xj:Qt .h kp=kp (.o .h):=rfl
theorem xk:Qt (.o p) kp=kp (.i p):=rfl
theorem xp:Qt (.i p) kp=Qt p λq=>kp (.o q):=rfl
theorem xq(f:KK R)(k:List (KK R)->Option R):UH [] f k=k [f]:=rfl
theorem xw(a:KK R)(as:List (KK R))(f:KK R)(k:List (KK R)->Option R):UH (a::as) f k=UH as f λl=>k (a::l):=rfl
theorem Fl(st:St):pkR [] st=some (.tuple [],st):=rfl
theorem Fm(st:St):pkR [v] st=some (v,st):=rfl
theorem Fo(vs:List AV)(st:St):pkR (v::u::vs) st=some (.tuple (v::u::vs),st):=rfl
theorem nX(c:ah)(F:Nat)(Ls:Un->List Q2->Nat->Q2)(ag:Q2)(ko:List Q2)(l:List Pos)(t:Tx)(vs:List AV)(st:St):cX c F Ls ag ko (l,t) vs st=tV l vs .e λfr=>ev c F Ls ag ko t [] [] fr st [] .e:=rfl
end
def ud{α:Type}:Option α->Bool
 |none=>true
 |some _=>false
theorem ae8{α:Type}{o:Option α}(h:ud o=true):o=none:=by cases o with|none=>rfl|some _=>cases h
theorem ae9{α:Type}[Inhabited α]{o:Option α}(h:ud o=false):o=some (o.getD default):=by cases o with|none=>cases h|some _=>rfl
def rG(G:T cw)(f:Nat):cw:=(G.get (key f)).getD default
theorem aa2{O:dS}{G:T cw}{F:Nat}{L:Env (AV×St)}{f:FuncId}{s:Sh}{args:List AV}{st:St}{r:AV×St}(hk:(ud (O f)&& !ud (G.get (key f)))=true)
  (hL:∀x∈dQ (rG G f).code s,yC (run O G) F L x.1 x.2) {k:O2} (hd:Bz (run O G) F L (rG G f) s args st=k) (h:k=some r):run O G f args st=some (tidy st r):=by
 simp only[Za6,Zh2]at hk;exact ack (ae8 hk.1) (ae9 hk.2) hL (hd.trans h)
theorem Yx{O:dS}{G:T cw}{F:Nat}{f:FuncId}{args:List AV}{st:St}{r:AV×St}(s:Sh)(hk:(ud (O f)&& !ud (G.get (key f))&&(dQ (rG G f).code s).isEmpty)=true)
  {k:O2} (hd:Bz (run O G) F (UE []) (rG G f) s args st=k) (h:k=some r):run O G f args st=some (tidy st r):=by
 rw[Za6,List.isEmpty_iff]at hk;exact aa2 hk.1 (by rw[hk.2];intro x hx;cases hx) hd h
theorem RK{O:dS}{G:T cw}{F:Nat}{f:FuncId}{args:List AV}{st:St}{r:AV×St}(Ls:Un->List Q2->Nat->Q2)(s:Sh)(n:Nat)(hk:(ud (O f)&& !ud (G.get (key f))&&Nat.beq (dQ (rG G f).code s).length n)=true)
  (hL:∀i,i<n->yC (run O G) F (nr Ls (rG G f) s) (eX (rG G f) s i).1 (eX (rG G f) s i).2) {k:O2} (hd:Bz (run O G) F (nr Ls (rG G f) s) (rG G f) s args st=k) (h:k=some r):run O G f args st=some (tidy st r):=by
 rw[Za6]at hk;exact aa2 hk.1 (acm n hk.2 hL) hd h
theorem Yy {O:dS} {G:T cw}  {F:Nat}{f:FuncId}{args:List AV}{st:St}{r:AV×St}(Ls:Un->List Q2->Nat->Q2)(s:Sh)(hk:(ud (O f)&& !ud (G.get (key f))&&Nat.beq (dQ (rG G f).code s).length 1)=true)
  (hs:(RA (eX (rG G f) s 0).2&&Nat.beq (lpJ (eX (rG G f) s 0).2) 0)=true) (h0:∀K' vs st,nr Ls (rG G f) s 0 K' 0 vs st=none)
  (h1:∀K' n vs st,nr Ls (rG G f) s 0 K' (n+1) vs st=G4 (den (run O G) F (nr Ls (rG G f) s) (eX (rG G f) s 0).1 (lpB (eX (rG G f) s 0).2)) (lpI (eX (rG G f) s 0).2) (lpO (eX (rG G f) s 0).2) K' (nr Ls (rG G f) s 0 K' n) vs st)
  {k:O2} (hd:Bz (run O G) F (nr Ls (rG G f) s) (rG G f) s args st=k) (h:k=some r):run O G f args st=some (tidy st r):=
 RK Ls s 1 hk (fun i hi=>by obtain rfl:i=0:=by omega
                            exact iq 0 hs h0 h1) hd h
end
section
open Go
end
section
def wA(tk:List Bool)(fr:Nat):Nat->Nat->Option Nat
 |0,_=>none
 |m+1,k=>if tk.getD ((fr+k) % tk.length) true=false then some ((fr+k) % tk.length)else wA tk fr m (k+1)
def Qv(tk:List Bool)(fr:Nat):List Bool×Int:=match wA tk fr tk.length 0 with
 |some s=>(tk.set s true,(s:Int))
 |none=>(tk,-1)
theorem J0{tk:List Bool}{fr s:Nat}:∀{m k:Nat},wA tk fr m k=some s->tk[s]? =some false
 |0,_,h=>by cases h
 |m +1,k,h=>by
  unfold wA at h;split at h
  . rename_i e;cases h;cases e2:tk[(fr+k) % tk.length]? with
    |none=>rw[Zc5,e2]at e;simp at e
    |some b=>rw[Zc5,e2]at e;simp at e;rw[e]
  .exact J0 h
theorem J1{tk:List Bool}{fr:Nat}:∀{m k:Nat},wA tk fr m k=none->∀j,k<=j->j<k+m->tk.getD ((fr+j) % tk.length) true=true
 |0,_,_,j,h1,h2=>by omega
 |m +1,k,h,j,h1,h2=>by
  unfold wA at h;split at h
  .cases h
  . rename_i e;by_cases e2:j=k
    .subst e2;simpa using e
    .exact J1 h j (by omega) (by omega)
def Qw(tk:List Bool):Nat:=(tk.filter λb=> !b).length
theorem To:∀{tk:List Bool},0<Qw tk->∃s:Nat,tk[s]? =some false
 |[],h=>by simp[Qw]at h
 |false::tk,_=>⟨0,rfl⟩
 |true::tk,h=>by
  obtain⟨s,hs⟩:=To (tk:=tk) (by simpa [Qw]using h);exact⟨s+1,by simpa using hs⟩
theorem VS(tk:List Bool)(fr:Nat):((Qv tk fr).2= -1/\(Qv tk fr).1=tk/\Qw tk=0)\/∃s:Nat,Qv tk fr=(tk.set s true,(s:Int))/\tk[s]? =some false:=by
 unfold Qv;cases e:wA tk fr tk.length 0 with
 |some s=>exact .inr ⟨s,rfl,J0 e⟩
 |none=>
  refine .inl ⟨rfl,rfl,?_⟩;rcases Zn9 (Qw tk)with h|h
  .exact h
  . exfalso;obtain⟨s,hs⟩:=To h;have hl:s<tk.length:=(H5.1 hs).1;have key:=J1 e ((s+tk.length - fr % tk.length) % tk.length) (Zi3 _) (by rw[Zb6];exact Nat.mod_lt _ (by omega));have hm:fr % tk.length<tk.length:=Nat.mod_lt _ (by omega);have:(fr+(s+tk.length - fr % tk.length) % tk.length) % tk.length=s:=by
        rw[Nat.add_mod,Nat.mod_mod];rcases Zi1 (s+tk.length - fr % tk.length) tk.length with h1|h1
        .rw[Zj6 h1];rw[show fr % tk.length+(s+tk.length - fr % tk.length)=s+tk.length by omega,Nat.add_mod_right,Zj6 hl]
        .rw[Zn8 h1,Zj6 (by omega:s+tk.length - fr % tk.length - tk.length<tk.length)];rw[show fr % tk.length+(s+tk.length - fr % tk.length - tk.length)=s by omega,Zj6 hl]
    rw[this,Zc5,hs]at key;simp at key
inductive Ch where
 |no
 |sit (s:Nat)
 |fr (f:Nat)
def looks:List Ch->Nat
 |[]=>0
 |.fr _::l=>looks l+1
 |_::l=>looks l
end
section
open Go
section
variable{R:Type}{c:ah}
end
theorem acB{R:Type}(K:AV->Option R){b:Pos}{off len es es':Nat}{cap:Option Nat}{k:IntKind}{i:Nat}(h:i<len):gh (.idxA es none) [.slice b off len cap es',.int k (i:Int)] K=K (.ptr b (off+i*es)):=
 cF K (λH n=>by
  simp only[az.run,mD,ir];have:Nat.blt i len=true:=by rw[Zo5];exact h
  rw[this])
end
end Go.Ai
namespace Go.Ai.Tp
section
def sm:Nat->(Nat->Nat)->Nat
 |0,_=>0
 |n+1,f=>sm n f+f n
theorem sr{n:Nat}{f g:Nat->Nat}(h:∀i<n,f i=g i):sm n f=sm n g:=by
 induction n with
 |zero=>rfl
 |succ n ih=>rw[sm,sm,ih λi hi=>h i (by omega),h n (by omega)]
theorem adO{n:Nat}{f g:Nat->Nat}(h:∀i<n,f i<=g i):sm n f<=sm n g:=by
 induction n with
 |zero=>exact Za3 _
 |succ n ih=>
  have:=ih λi hi=>h i (by omega)
  have:=h n (by omega);rw[sm,sm];omega
theorem Qx(n:Nat)(f g:Nat->Nat):sm n (λi=>f i+g i)=sm n f+sm n g:=by
 induction n with
 |zero=>rfl
 |succ n ih=>rw[sm,sm,sm,ih];omega
theorem G8{n:Nat}{f:Nat->Nat}(h:∀i<n,f i=0):sm n f=0:=by
 induction n with
 |zero=>rfl
 |succ n ih=>rw[sm,ih λi hi=>h i (by omega),h n (by omega)]
theorem Qy{n g:Nat}(hg:g<n)(v:Nat):sm n (λi=>if i=g then v else 0)=v:=by
 induction n with
 |zero=>omega
 |succ n ih=>
  rw[sm];by_cases e:n=g
  .subst e;rw[Za2 rfl,G8 λi hi=>Za1 (by omega)];omega
  .rw[Za1 e,ih (by omega),Zh8]
theorem aej(n:Nat)(f:Nat->Nat):sm (n+1) f=f 0+sm n λi=>f (i+1):=by
 induction n with
 |zero=>simp[sm]
 |succ n ih=>rw[sm,ih,sm];omega
theorem G9{n:Nat}{f g:Nat->Nat}(h:∀i<n,f i<=g i){z:Nat}(hz:z<n)(h1:f z+1<=g z):sm n f+1<=sm n g:=by
 have a:=Qx n f (λi=>if i=z then 1 else 0);rw[Qy hz]at a;rw[<-a];refine adO λi hi=> ?_
 have:=h i hi;split<;>(try subst_vars)<;>omega
theorem Lp{n:Nat}{f:Nat->Nat}{z:Nat}(hz:z<n)(h:1<=f z):1<=sm n f:=by have:=G9 (n:=n) (f:=λ_=>0) (g:=f) (λ_ _=>Zi3 _) hz (by simpa using h);rw[G8 λ_ _=>rfl]at this;exact this
theorem afa{n:Nat}{f:Nat->Nat}{y z:Nat}(hy:y<n)(hz:z<n)(aR:y≠z)(h1:1<=f y)(h2:1<=f z):2<=sm n f:=by have h:=G9 (n:=n) (f:=λi=>if i=y then 1 else 0) (g:=f) (λi _=>by split<;>(try subst_vars)<;>omega) hz (by rw[Za1 (Ne.symm aR)];exact h2);rw[Qy hy]at h;exact h
abbrev Q:=Nat->Int
abbrev Ms:=List (Nat×Int×Int)
def j8(q:Q)(g:Nat)(t:Int):Q:=λi=>if i=g then t else q i
def Ds(n:Nat):Q->Ms->Q->Prop
 |q,[],r=>q=r
 |q,(g,f,t)::l,r=>g<n/\f≠t/\q g=f/\(0<=t->∀i,q i≠t)/\Ds n (j8 q g t) l r
theorem Ds.snoc{n:Nat}:∀{l:Ms}{a q:Q},Ds n a l q->∀{g:Nat}{t:Int},g<n->q g≠t->(0<=t->∀i,q i≠t)->Ds n a (l++[(g,q g,t)]) (j8 q g t)
 |[],a,q,h,g,t,h1,h2,h3=>by
  have h:a=q:=h;subst h;exact⟨h1,h2,rfl,h3,rfl⟩
 |(x,y,z)::l,a,q,⟨k1,k2,k3,k4,k5⟩,g,t,h1,h2,h3=>⟨k1,k2,k3,k4,k5.snoc h1 h2 h3⟩
def cm:Ms->Nat->Nat
 |[],_=>0
 |x::l,g=>(if g=x.1 then 1 else 0)+cm l g
theorem Ng(l:Ms)(x:Nat×Int×Int)(g:Nat):cm (l++[x]) g=cm l g+if g=x.1 then 1 else 0:=by
 induction l with
 |nil=>simp[cm]
 |cons y l ih=>rw[Ze4,cm,cm,ih];omega
theorem Ds.len{n:Nat}{r:Q}:∀{l:Ms}{q:Q},Ds n q l r->l.length=sm n (cm l)
 |[],q,_=>(G8 λ_ _=>rfl).symm
 |(g,f,t)::l,q,⟨k1,_,_,_,k5⟩=>by have:sm n (cm ((g,f,t)::l))=sm n (λi=>if i=g then 1 else 0)+sm n (cm l):=Qx n _ _;rw[this,Qy k1,Zd7,k5.len];omega
theorem Ds.once{n:Nat}{r:Q}{g:Nat}:∀{l:Ms}{q:Q},Ds n q l r->q g≠r g->1<=cm l g
 |[],q,h,aR=>absurd (congrFun (show q=r from h) g) aR
 |(x,f,t)::l,q,⟨_,_,_,_,k5⟩,aR=>by
  rw[cm];by_cases e:g=x
  .rw[Za2 e];omega
  .have:=k5.once (g:=g) (by unfold j8;rw[Za1 e];exact aR);omega
theorem Ds.ring{n:Nat}{r:Q}{O:Nat->Prop}:∀{l:Ms}{q:Q},Ds n q l r->(∃z,O z)->(∀z,O z->q z≠r z/\0<=r z/\∃y,O y/\q y=r z)->∃z,O z/\2<=cm l z
 |[],q,h,⟨z,hz⟩,hO=>absurd (congrFun (show q=r from h) z) (hO z hz).1
 |(g,   f,t)::l,q,⟨_,k2,k3,k4,k5⟩,hz,hO=>by
  by_cases e:O g
  . obtain⟨_,h0,y,hy,hyr⟩:=hO g e;have ht:t≠r g:=λht=>k4 (by omega) y (by omega)
    have:=k5.once (g:=g) (by unfold j8;rw[Za2 rfl];exact ht);exact⟨g,e,by rw[cm,Za2 rfl];omega⟩
  . have hu:∀z,O z->j8 q g t z=q z:=λz hz=>Za1 λh:z=g=>e (h ▸hz)
    obtain⟨z,h1,h2⟩:=k5.ring hz λz hz=>by
        obtain⟨a,b,y,c,d⟩:=hO z hz;exact⟨by rw[hu z hz];exact a,b,y,c,by rw[hu y c];exact d⟩
    exact⟨z,h1,by rw[cm];omega⟩
theorem acC{L1:List Int}:∀{L2:List Int},L1.Nodup->(∀x∈L1,x∈L2)->L1.length<=L2.length:=by
 induction L1 with
 |nil=>intro L2 _ _;exact Zi3 _
 |cons x L1 ih=>
  intro L2 hn hs;obtain⟨h1,h2⟩:=Zn4.1 hn;have hx:=hs x (Zc4 ..);have:=ih (L2:=L2.erase x) h2 λy hy=>(List.mem_erase_of_ne (λe:y=x=>h1 (e ▸hy))).2 (hs y (Za4 _ hy))
  rw[List.length_erase_of_mem hx]at this;have:=List.length_pos_of_mem hx;rw[Zd7];omega
section
variable{n:Nat}{a b q:Q}{l:Ms}
def off(b q:Q)(i:Nat):Bool:=decide (q i≠b i)
def Inj(n:Nat)(q:Q):Prop:=∀i j,i<n->j<n->q i=q j->0<=q i->i=j
theorem aa3(hb:Inj n b)(h:∀i<n,q i≠b i->0<=b i/\∃j<n,q j=b i):∀i<n,q i≠b i->0<=q i/\∃j<n,q j≠b j/\b j=q i:=by
 have h2:∀i<n,q i≠b i->∃j<n,q j≠b j/\q j=b i:=λi hi aR=>by obtain⟨h0,j,hj,e⟩:=h i hi aR;refine⟨j,hj,λe2=> ?_,e⟩;have:=hb j i hj hi (by omega) (by omega);subst this;exact aR e
 intro j0 hj0 aR;have key:∃j<n,q j≠b j/\b j=q j0:=Zh1 λkM=>by
  have kM:∀j<n,q j≠b j->b j≠q j0:=λj hj h1 h2=>kM ⟨j,hj,h1,h2⟩
  obtain⟨M,hM⟩:∃M,M=(List.range n).filter (λi=>off b q i):=⟨_,rfl⟩
  have mM:∀i,i∈M↔i<n/\q i≠b i:=λi=>by rw[hM,Zk9,List.mem_range];unfold off;simp
  have EL:(M.map b).Nodup:=by have hr:M.Nodup:=(by rw[hM];exact List.Pairwise.filter _ List.nodup_range);unfold List.Nodup;rw[List.pairwise_map];refine List.Pairwise.imp_of_mem (λ{i j} hi hj aR e=>aR ?_) hr;obtain⟨i1,i2⟩:=(mM i).1 hi;obtain⟨j1,j2⟩:=(mM j).1 hj;exact hb i j i1 j1 e (h i i1 i2).1
  have hle:=acC (L2:=(M.filter λi=>decide (i≠j0)).map q) EL λx hx=>by
   obtain⟨i,hi,rfl⟩:=Zd8.1 hx;obtain⟨i1,i2⟩:=(mM i).1 hi;obtain⟨j,j1,j2,j3⟩:=h2 i i1 i2;refine Zd8.2 ⟨j,Zk9.2 ⟨(mM j).2 ⟨j1,j2⟩,?_⟩,j3⟩;have:j≠j0:=λe=>kM i i1 i2 (by rw[<-j3,e])
   simpa using this
  rw[Zb0,Zb0]at hle;have:(M.filter λi=>decide (i≠j0)).length<M.length:=List.length_filter_lt_length_iff_exists.2 ⟨j0,(mM j0).2 ⟨hj0,aR⟩,by simp⟩;omega
 obtain⟨j,h1,h3,h4⟩:=key;have:=(h j h1 h3).1;exact⟨by omega,j,h1,h3,h4⟩
def BB(n:Nat)(a b:Q)(B:Nat->Bool)(k:Nat):Prop:=
 (∀S,Ds n a S b->k<=sm n λi=>if B i then 0 else cm S i)/\2*k<=3*sm n λi=>if B i then 0 else if a i=b i then 0 else 1
theorem BB.congr{B B':Nat->Bool}{k:Nat}(h:BB n a b B k)(e:∀i<n,B i=B' i):BB n a b B' k:=by
 refine⟨λS r=> ?_,?_⟩
 .rw[<-sr (f:=λi=>if B i then 0 else cm S i) λi hi=>by rw[e i hi]];exact h.1 S r
 .rw[<-sr (f:=λi=>if B i then 0 else if a i=b i then 0 else 1) λi hi=>by rw[e i hi]];exact h.2
theorem IY{B B':Nat->Bool}(hs:∀i<n,B' i=true->B i=true)(c:Nat->Nat):sm n (λi=>if B' i then 0 else c i)=sm n (λi=>if B i then 0 else c i)+sm n λi=>if B i&& !B' i then c i else 0:=by
 rw[<-Qx];refine sr λi hi=> ?_
 have:=hs i hi;cases h1:B i<;>cases h2:B' i<;>simp_all
theorem BB.ring{B B':Nat->Bool}{k:Nat}(h:BB n a b B k)(hs:∀i<n,B' i=true->B i=true)(hz:∃z<n,B z=true/\B' z=false)(hO:∀z<n,B z=true->B' z=false->a z≠b z/\0<=b z/\∃y<n,B y=true/\B' y=false/\a y=b z):
   BB n a b B' (k+sm n (λi=>if B i&& !B' i then 1 else 0)+1):=by
 have h2:2<=sm n (λi=>if B i&& !B' i then 1 else 0):=by
   obtain⟨z,z1,z2,z3⟩:=hz;obtain⟨e,_,y,y1,y2,y3,y4⟩:=hO z z1 z2 z3;exact afa z1 y1 (λhh=>e (by rw[hh]at e ⊢; rw[<-hh]at y4 ⊢; rw[hh]at y4;exact absurd (by rw[<-hh]at y4;exact y4) (by rw[<-hh]at e;exact e))) (by simp[z2,z3]) (by simp[y2,y3])
 refine⟨λS r=> ?_,?_⟩
 . rw[IY hs];have h1:=h.1 S r;obtain⟨z,z0,zc⟩:=r.ring (O:=λz=>z<n/\B z=true/\B' z=false) (by obtain⟨z,z1,z2,z3⟩:=hz;exact⟨z,z1,z2,z3⟩) λz ⟨z1,z2,z3⟩=>by
    obtain⟨e,h0,y,y1,y2,y3,y4⟩:=hO z z1 z2 z3;exact⟨e,h0,y,⟨y1,y2,y3⟩,y4⟩
   have:=G9 (n:=n) (f:=λi=>if B i&& !B' i then 1 else 0) (g:=λi=>if B i&& !B' i then cm S i else 0) (λi hi=>by
    cases e1:B i<;>cases e2:B' i<;>simp;exact r.once (hO i hi e1 e2).1) z0.1 (by simp[z0.2.1,z0.2.2];omega)
   omega
 . (rw[IY hs];have h1:=h.2;have:sm n (λi=>if B i&& !B' i then(if a i=b i then 0 else 1)else 0)=sm n (λi=>if B i&& !B' i then 1 else 0):=sr λi hi=>by cases e1:B i<;>cases e2:B' i<;>simp;exact(hO i hi e1 e2).1);omega
theorem BB.one{B:Nat->Bool}{k:Nat}(h:BB n a b B k){g:Nat}(hg:g<n)(hB:B g=true)(aR:a g≠b g):BB n a b (λi=>B i&&decide (i≠g)) (k+1):=by
 have hs:∀i<n,(B i&&decide (i≠g))=true->B i=true:=λi _ h=>by simp at h;exact h.1
 have e:∀c:Nat->Nat,sm n (λi=>if B i&& !(B i&&decide (i≠g))then c i else 0)=c g:=λc=>by
   rw[<-Qy hg (c g)];(refine sr λi hi=> ?_);by_cases e:i=g
   .subst e;simp[hB]
   .cases B i<;>simp[e]
 refine⟨λS r=> ?_,?_⟩
 .rw[IY hs,e];have:=h.1 S r;have:=r.once aR;omega
 .rw[IY hs,e,Za1 aR];have:=h.2;omega
def Mode(n:Nat)(a b q:Q)(l:Ms):Prop:=
 ((∀i<n,q i≠b i->q i=a i/\cm l i=0)/\BB n a b (off b q) l.length)\/
 ∃  B w k,BB n a b B k/\(∀z<n,B z=true->a z≠b z/\0<=b z/\∃y<n,B y=true/\a y=b z)/\w<n/\B w=true/\(∀i<n,q i≠b i->B i=true)/\
    l.length=k+1+sm n (λi=>if B i&& !off b q i then 1 else 0)/\(∀i<n,q i≠b i->i≠w->q i=a i/\cm l i=0)/\(q w≠b w->q w= -1/\cm l w<=1)
structure Inv(n:Nat)(a b q:Q)(l:Ms):Prop where
 run:Ds n a l q
 two:∀g,cm l g<=2
 mov:∀g,cm l g≠0->a g≠b g
 mode:Mode n a b q l
theorem Inv.start:Inv n a b a []:=⟨rfl,λ_=>Zi3 _,λ_ h=>absurd rfl h,.inl ⟨λ_ _ _=>⟨rfl,rfl⟩,λ_ _=>Zi3 _,Zi3 _⟩⟩
theorem Mode.settle(h:Mode n a b q l)(hb:Inj n b)(hw:∀i<n,q i≠b i->0<=q i/\∃j<n,q j≠b j/\b j=q i):(∀i<n,q i≠b i->q i=a i/\cm l i=0)/\BB n a b (off b q) l.length:=by
 rcases h with h|⟨B,w,k,hN,hc,hwn,hBw,hs,hl,hk,hq⟩
 .exact h
 . have hwb:q w=b w:=Zh1 λaR=>by have:=(hw w hwn aR).1;have:=(hq aR).1;omega
   have hi:∀i<n,q i≠b i->q i=a i/\cm l i=0:=λi hi aR=>hk i hi aR λe=>aR (e ▸hwb)
   refine⟨hi,?_⟩;have hN':=hN.ring (B':=off b q) (λi hi h=>hs i hi (by simpa [off]using h)) ⟨w,hwn,hBw,by simp[off,hwb]⟩ λz hz h1 h2=>by
    obtain⟨e1,e2,y,y1,y2,y3⟩:=hc z hz h1;refine⟨e1,e2,y,y1,y2,?_,y3⟩;cases ho:off b q y with
    |false=>rfl
    |   true=>
        have aR:q y≠b y:=(by simpa [off]using ho);obtain⟨_,j,j1,j2,j3⟩:=hw y y1 aR;have e:=(hi y y1 aR).1;have:j=z:=hb j z j1 hz (by omega) (by omega);subst this;exact absurd (show off b q j=true by simpa [off]using j2) (by rw[h2];simp)
   rwa [show l.length=k+sm n (λi=>if B i&& !off b q i then 1 else 0)+1 by omega]
theorem Inv.go(h:Inv n a b q l){g:Nat}(hg:g<n)(aR:q g≠b g)(hf:0<=b g->∀i,q i≠b g):Inv n a b (j8 q g (b g)) (l++[(g,q g,b g)]):=by
 have ho:∀i,off b (j8 q g (b g)) i=(off b q i&&decide (i≠g)):=λi=>by
   unfold off j8;by_cases e:i=g
   .subst e;simp
   .simp[e]
 have hu:∀i,j8 q g (b g) i≠b i->i≠g/\q i≠b i:=λi hi=>by
   have:off b (j8 q g (b g)) i=true:=(by simpa [off]using hi);rw[ho]at this;simp[off]at this;exact⟨this.2,this.1⟩
 have hog:off b q g=true:=by simpa [off]using aR
 have Lq:∀i,i≠g->cm (l++[(g,q g,b g)]) i=cm l i:=λi hi=>by rw[Ng,Za1 hi];rfl
 have hcg:cm (l++[(g,q g,b g)]) g=cm l g+1:=by rw[Ng,Za2 rfl]
 have hup:∀i,i≠g->j8 q g (b g) i=q i:=λi hi=>by unfold j8;rw[Za1 hi]
 have core:cm l g<=1/\a g≠b g:=by
   rcases h.mode with⟨h1,_⟩|⟨B,w,k,_,hc,_,_,hs,_,hk,hq⟩
   .obtain⟨e1,e2⟩:=h1 g hg aR;exact⟨by omega,by rw[<-e1];exact aR⟩
   . refine⟨?_,(hc g hg (hs g hg aR)).1⟩;by_cases e:g=w
     .  subst e;exact(hq aR).2
     .  have:=(hk g hg aR e).2;omega
 refine⟨h.run.snoc hg aR hf,λi=> ?_,λi hi=> ?_,?_⟩
 . by_cases e:i=g
   .subst e;rw[hcg];omega
   .rw[Lq i e];exact h.two i
 . by_cases e:i=g
   .subst e;exact core.2
   .rw[Lq i e]at hi;exact h.mov i hi
 . rcases h.mode with⟨h1,hN⟩|⟨B,w,k,hN,hc,hwn,hBw,hs,hl,hk,hq⟩
   . refine .inl ⟨λi hi hh=> ?_,?_⟩
     .  obtain⟨x1,x2⟩:=hu i hh;rw[hup i x1,Lq i x1];exact h1 i hi x2
     .  rw[Zd1];exact(hN.one hg hog core.2).congr λi _=>(ho i).symm
   . refine .inr ⟨B,w,k,hN,hc,hwn,hBw,λi hi hh=>hs i hi (hu i hh).2,?_,λi hi hh hw=> ?_,λhh=> ?_⟩
     .  rw[Zd1,hl];have hBg:=hs g hg aR;have:sm n (λi=>if B i&& !off b (j8 q g (b g)) i then 1 else 0)=sm n (λi=>if B i&& !off b q i then 1 else 0)+sm n (λi=>if i=g then 1 else 0):=by
         rw[<-Qx];(refine sr λi _=> ?_);rw[ho];by_cases e:i=g
         .subst e;simp[hBg,hog]
         .simp[e]
        rw[this,Qy hg];simp;omega
     .  obtain⟨x1,x2⟩:=hu i hh;rw[hup i x1,Lq i x1];exact hk i hi x2 hw
     .  obtain⟨x1,x2⟩:=hu w hh;rw[hup w x1,Lq w x1];exact hq x2
theorem Inv.wait(h:Inv n a b q l)(hb:Inj n b)(bW:∀i<n,q i≠b i->0<=b i/\∃j<n,q j=b i){w:Nat}(hw:w<n)(aR:q w≠b w):Inv n a b (j8 q w (-1)) (l++[(w,q w,-1)])/\0<=q w:=by
 have W:=aa3 hb bW;obtain⟨hi,hN⟩:=h.mode.settle hb W;have hbw:=(bW w hw aR).1;have hq:=(W w hw aR).1;have ho:∀i,off b (j8 q w (-1)) i=off b q i:=λi=>by
   unfold off j8;by_cases e:i=w
   .subst e;have:((-1:Int)≠b i):=(by omega);simp[this,aR]
   .simp[e]
 have Lq:∀i,i≠w->cm (l++[(w,q w,-1)]) i=cm l i:=λi hi=>by rw[Ng,Za1 hi];rfl
 have hcg:cm (l++[(w,q w,-1)]) w=1:=by rw[Ng,Za2 rfl,(hi w hw aR).2]
 have hup:∀i,i≠w->j8 q w (-1) i=q i:=λi hi=>by unfold j8;rw[Za1 hi]
 have hu:∀i,j8 q w (-1) i≠b i->q i≠b i:=λi hh=>by have:off b (j8 q w (-1)) i=true:=(by simpa [off]using hh);rw[ho]at this;simpa [off]using this
 refine⟨⟨h.run.snoc hw (by omega) (λh=>by omega),λi=> ?_,λi hh=> ?_,.inr ⟨off b q,w,l.length,hN,λz hz h1=> ?_,hw,by simpa [off]using aR,λi hi hh=>by simpa [off]using hu i hh,?_,λi KS hh hiw=> ?_,λ_=>⟨by unfold j8;rw[Za2 rfl],by rw[hcg];omega⟩⟩⟩,hq⟩
 . by_cases e:i=w
   .subst e;rw[hcg];omega
   .rw[Lq i e];exact h.two i
 . by_cases e:i=w
   .subst e;rw[<-(hi i hw aR).1];exact aR
   .rw[Lq i e]at hh;exact h.mov i hh
 . have z1:q z≠b z:=(by simpa [off]using h1);obtain⟨z2,j,j1,j2⟩:=bW z hz z1;have j3:q j≠b j:=λe=>by have:=hb j z j1 hz (by omega) (by omega);subst this;exact z1 e
   refine⟨by rw[<-(hi z hz z1).1];exact z1,z2,j,j1,by simpa [off]using j3,by rw[<-(hi j j1 j3).1];exact j2⟩
 . (rw[Zd1];have:sm n (λi=>if off b q i&& !off b (j8 q w (-1)) i then 1 else 0)=0:=G8 λi _=>by rw[ho];cases off b q i<;>rfl);rw[this];rfl
 .rw[hup i hiw,Lq i hiw];exact hi i KS (hu i hh)
theorem Inv.fin(h:Inv n a b q l)(hb:Inj n b)(bW:∀i<n,q i=b i):(∀S,Ds n a S b->l.length<=S.length)/\2*l.length<=3*sm n λi=>if a i=b i then 0 else 1:=by
 obtain⟨_,hN⟩:=h.mode.settle hb λi hi aR=>absurd (bW i hi) aR
 have ho:∀i<n,off b q i=false:=λi hi=>by simp[off,bW i hi]
 refine⟨λS r=> ?_,?_⟩
 . rw[r.len];have:=hN.1 S r
   rwa [sr (g:=cm S) λi hi=>by rw[ho i hi];rfl]at this
 . have:=hN.2
   rwa [sr (g:=λi=>if a i=b i then 0 else 1) λi hi=>by rw[ho i hi];rfl]at this
def j9(n:Nat)(b q:Q):Nat:=sm n λi=>if q i=b i then 0 else if q i<0 then 1 else 2
theorem aa4:j9 n b q<=2*n:=by
 have h:j9 n b q<=sm n λ_=>2:=adO λi _=>by split<;>(try split)<;>omega
 have:∀n,sm n (λ_=>2)=2*n:=λn=>by
  induction n with
  |zero=>rfl
  |succ n ih=>rw[sm,ih];omega
 rw[this]at h;exact h
theorem aa5{g:Nat}(hg:g<n)(aR:q g≠b g):j9 n b (j8 q g (b g))+1<=j9 n b q:=by
 refine G9 (λi hi=> ?_) hg ?_
 . unfold j8;by_cases e:i=g
   .subst e;simp
   .simp[e]
 .unfold j8;rw[Za2 rfl,Za2 rfl,Za1 aR];split<;>omega
theorem VT{g:Nat}(hg:g<n)(aR:q g≠b g)(h0:0<=q g)(hb:0<=b g):j9 n b (j8 q g (-1))+1<=j9 n b q:=by
 refine G9 (λi hi=> ?_) hg ?_
 . unfold j8;by_cases e:i=g
   .subst e;rw[Za2 rfl,Za1 (by omega),Za1 aR];split<;>split<;>omega
   .simp[e]
 .unfold j8;rw[Za2 rfl,Za1 (by omega),Za1 aR];split<;>split<;>omega
end
end
end Go.Ai.Tp
namespace Go.Ai
section
open Go
structure Rd(s:St)(es:Nat)(L:AV)(i:Nat)(b:Pos)(o:Nat)(r:List AV):Prop where
 st:∀{R:Type}(c:ah)(K:AV->St->Option R)(k:IntKind)(s1:St),ai c (.idxA es none) [L,.int k (i:Int)] s1 K=K (.ptr b o) s1
 pr:∀{R:Type}(K:AV->Option R)(k:IntKind),gh (.idxA es none) [L,.int k (i:Int)] K=K (.ptr b o)
 at':∀(j:Nat)(u:AV),r[j]? =some u->((cellsOf (s.heap.get b)).bind λcs=>cs[o+j]?)=some u
 all:((cellsOf (s.heap.get b)).bind λcs=>cut cs o es)=some r
theorem QS.rd{s:St}{es:Nat}{v:AV}{rows:List (List AV)}(h:QS es s v rows)(hr:∀r∈rows,r.length=es){i:Nat}{r:List AV}(hi:rows[i]? =some r):∃b o,Rd s es v i b o r:=by
 obtain⟨jY,rfl⟩:=H5.1 hi;have hlen:=hr _ (Zc2 jY);rcases h with⟨rfl,h⟩|⟨b,off,cap,cs,rfl,g1,g2,g3,g4⟩|⟨b,off,rfl,h⟩
 .rw[h]at jY;simp at jY
 rotate_left
 .rw[h]at jY;simp at jY
 have hmul:(i+1)*es<=rows.length*es:=Zg3 _ jY;rw[Zh5]at hmul;have at0:∀(j:Nat)(u:AV),rows[i][j]? =some u->cs[off+i*es+j]? =some u:=λj u hj=>by have hj2:j<es:=(by rw[<-hlen];exact(H5.1 hj).1);have:=Go.Ai.Dq hr i j rows[i] u (H1 jY) hj;rw[<-g3,Zb1,Za2 (by omega),Zc6]at this;rw[<-this];congr 1;omega
 refine⟨b,off+i*es,λc K k s1=>IV c K s1 jY,λK k=>acB K jY,λj u hj=>by rw[g1];exact at0 j u hj,?_⟩;rw[g1];show cut cs (off+i*es) es=some rows[i];unfold cut;rw[dX,H4 (by omega)];refine congrArg some ?_;apply Zj0;intro j;by_cases hj:j<es
 .rw[Zb1,Za2 hj,Zc6];exact(at0 j (rows[i]'jY)[j] (H1 (by omega))).trans (H1 (by omega)).symm
 .rw[Zb3 (by simp;omega),Zb3 (by omega)]
theorem Rd.one{s:St}{L x:AV}{i:Nat}{b:Pos}{o:Nat}(h:Rd s 1 L i b o [x]):((cellsOf (s.heap.get b)).bind λcs=>cs[o]?)=some x:=h.at' 0 x rfl
theorem QS.Yz{s:St}{v:AV}{l:List AV}(h:QS 1 s v (l.map OY)){i:Nat}{x:AV}(hx:l[i]? =some x):∃b o,Rd s 1 v i b o [x]:=
 h.rd (acA l) (by rw[Zb5,hx];rfl)
theorem QS.ax{es:Nat}{s s':St}{v:AV}{rows:List (List AV)}(h:QS es s v rows)(g:Grew s s'):QS es s' v rows:=h.mono λb x _ hx=>g.get hx
section
variable{c:ah}{R:Type}
theorem adP{x:Int}(h1:0<=x)(h2:x<=18446744073709551615):aD .u64 x=x:=by
 unfold aD UU UW;simp only;split
 . split
   .rfl
   .contradiction
 .contradiction
end
end
end Go.Ai
