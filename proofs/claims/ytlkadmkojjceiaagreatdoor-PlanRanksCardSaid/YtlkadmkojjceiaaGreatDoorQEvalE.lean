/- The program as plain functions. -/
import Derived.Test.YtlkadmkojjceiaaGreatDoorQEvalD
import Derived.WalkKit
import Derived.OpenShut
import Derived.ProofKit
import Derived.ShutString
set_option linter.all false
namespace Go.Ai
section
open Go Go.RowKit
def K4(c c':ai):Prop:=∀f args st r,c f args st=some r->c' f args st=some r
theorem K4.refl(c:ai):K4 c c:=λ_ _ _ _ h=>h
section
variable{c c':ai}
theorem F7(h:K4 c c'){k:av}{xs:List AV}{st:St}{r:AV×St}(e:bS c k xs st=some r):bS c' k xs st=some r:=by
 unfold bS at e ⊢;cases hr:k.run (λb=>st.heap.get b) st.next xs with
 |none=>simp[hr]at e
 |some x=>cases x with
  |val v=>simpa [hr]using e
  |aH v d s n=>simpa [hr]using e
  |call f args=>simp only[hr]at e ⊢; exact h _ _ _ _ e
theorem Kb(h:K4 c c'):∀(os:List bh)(fr:Fr)(st:St)(r:Fr×St),iX c os fr st=some r->iX c' os fr st=some r
 |[],_,_,_,e=>e
 |o::os,fr,st,r,e=>by
  unfold iX at e ⊢;cases hw:bJ fr o.guard with
  |none=>simp[hw]at e
  |some b=>cases b with
   |false=>simp only[hw]at e ⊢; exact Kb h _ _ _ _ e
   |    true=>
        simp only[hw]at e ⊢;cases hx:dV fr o.xs with
        |none=>simp[hx]at e
        |some xs=>
         simp only[hx]at e ⊢;cases hs:bS c o.k xs st with
         |none=>simp[hs]at e
         |some p=>simp only[hs]at e;simp only[F7 h hs];exact Kb h _ _ _ _ e
theorem Mg (h:K4 c c'):∀(os:List (Nat×bh))(recs:List Rec)(base:T AB)(fr:Fr)(st:St)(r:Fr×St),cO c os recs base fr st=some r->cO c' os recs base fr st=some r
 |[],_,_,_,_,_,e=>e
 |(j,   o)::os,recs,base,fr,st,r,e=>by
  have ih:=Mg h os;unfold cO at e ⊢;cases hw:bJ fr o.guard with
  |none=>simp[hw]at e
  | some b=>cases b with
    |false=>simp only[hw]at e ⊢; exact ih _ _ _ _ _ e
    |   true=>
        simp only[hw]at e ⊢;cases hx:dV fr o.xs with
        |none=>simp[hx]at e
        |some xs=>
         simp only[hx]at e ⊢;cases hc:o.cls with
         |  aH=>
            simp only[hc]at e ⊢;cases hs:bS c o.k xs st with
            |none=>simp[hs]at e
            |some p=>simp only[hs]at e;simp only[F7 h hs];exact ih _ _ _ _ _ e
         |  new=>
            simp only[hc]at e ⊢;split at e<;>first|(cases e;done)|exact ih _ _ _ _ _ e
         |  pure=>
            simp only[hc]at e ⊢;split at e<;>(try split at e)<;>(try split at e)<;>first|(cases e;done)|(simp only[*];exact ih _ _ _ _ _ e)|exact ih _ _ _ _ _ e
         |  read=>
            simp only[hc]at e ⊢;split at e<;>(try split at e)<;>(try split at e)<;>first|(cases e;done)|(simp only[*];exact ih _ _ _ _ _ e)|exact ih _ _ _ _ _ e
theorem Kc(h:K4 c c'):∀(n m:Nat),n<=m->∀(a:AC)(fr:Fr)(st:St)(r:js×Fr×St),exec c n a fr st=some r->exec c' m a fr st=some r
 |0,_,_,_,_,_,_,e=>by simp[exec]at e
 |n+1,0,hm,_,_,_,_,_=>by omega
 |n+    1,m+1,hm,a,fr,st,r,e=>by
  have ih:=Kc h n m (by omega);cases a<;>simp only[exec,aX]at e ⊢
  case skip=>exact e
  case exit=>exact e
  case ret=>exact e
  case region ops=>
   cases ho:iX c ops fr st with
   |none=>simp[ho]at e
   |some p=>simp only[ho]at e;simp only[Kb h _ _ _ _ ho];exact e
  case draw ops=>
   cases ho:cO c ops [] st.heap fr st with
   |none=>simp[ho]at e
   |some p=>simp only[ho]at e;simp only[Mg h _ _ _ _ _ _ ho];exact e
  case seq a b=>
   cases ha:exec c n a fr st with
   |none=>simp[ha]at e
   |    some p=>
        obtain⟨ex,bO,aN⟩:=p;simp only[ha]at e;simp only[ih _ _ _ _ ha];cases ex<;>first|exact e|exact ih _ _ _ _ e
  case cond x a b=>
   split at e
   .    exact ih _ _ _ _ e
   .    exact ih _ _ _ _ e
   .    cases e
  case block id a=>
   cases ha:exec c n a fr st with
   |none=>simp[ha]at e
   |    some p=>
        obtain⟨ex,bO,aN⟩:=p;simp only[ha]at e;simp only[ih _ _ _ _ ha];cases ex<;>exact e
  case loop a=>
   cases ha:exec c n a fr st with
   |none=>simp[ha]at e
   |    some p=>
        obtain⟨ex,bO,aN⟩:=p;simp only[ha]at e;simp only[ih _ _ _ _ ha];cases ex<;>first|exact e|exact ih _ _ _ _ e
end
def Plain(v:AV):Prop:=∀(ρ ρ':Pos->Loc)(n n':Nat)(C:Cells)(x:Value),aj ρ n C v x->aj ρ' n' C v x
theorem Plain.bool(b:Bool):Plain (.bool b):=λ_ _ _ _ _ _ h=>by cases h;exact .bool b
theorem Plain.int(k:IntKind)(i:Int):Plain (.int k i):=λ_ _ _ _ _ _ h=>by cases h;exact .int k i
theorem Plain.str(s:List Nat):Plain (.str s):=λ_ _ _ _ _ _ h=>by cases h with|str _ bs h=>exact .str s bs h
theorem Plain.af:Plain .af:=λ_ _ _ _ _ _ h=>by cases h;exact .af
theorem Plain.jk:Plain .jk:=λ_ _ _ _ _ _ h=>by cases h;exact .jk
theorem Plain.func(f:FuncId){a b:List AV}(ha:∀v∈a,Plain v)(hb:∀v∈b,Plain v):Plain (.func f a b):=λ_ _ _ _ _ _ h=>by
 cases h with
 |func _ _ _ a' b' hx hy h1 h2=>exact .func f a b a' b' hx hy (λi v x hv hx=>ha v (Zb5 hv) _ _ _ _ _ _ (h1 i v x hv hx)) (λi v x hv hx=>hb v (Zb5 hv) _ _ _ _ _ _ (h2 i v x hv hx))
theorem Plain.tuple{l:List AV}(hl:∀v∈l,Plain v):Plain (.tuple l):=λ_ _ _ _ _ _ h=>by
 cases h with
 |tuple _ cs hx h1=>exact .tuple l cs hx λi v x hv hx=>hl v (Zb5 hv) _ _ _ _ _ _ (h1 i v x hv hx)
theorem Plain.agg{l:List AV}(hl:∀v∈l,Plain v):Plain (.agg l):=λ_ _ _ _ _ _ h=>by
 cases h with
 |agg _ cs hx h1=>exact .agg l cs hx λi v x hv hx=>hl v (Zb5 hv) _ _ _ _ _ _ (h1 i v x hv hx)
theorem Plain.fl{xs:List (List AV)}{es:Nat}(hl:∀cs∈xs,∀v∈cs,Plain v):Plain (.fl xs es):=λ_ _ _ _ _ _ h=>by
 cases h with
 |fl _ _ aJ a cell h1 h2 h3 h4 h5=>exact .fl xs es aJ a cell h1 h2 h3 h4 λi j cs v hi hj=>hl cs (Zb5 hi) v (Zb5 hj) _ _ _ _ _ _ (h5 i j cs v hi hj)
def bt(st st':St):Prop:=∀b x,st.heap.get b=some x->st'.heap.get b=some x
theorem bt.refl(st:St):bt st st:=λ_ _ h=>h
theorem bt.trans{a b c:St}(h:bt a b)(k:bt b c):bt a c:=λ_ _ e=>k _ _ (h _ _ e)
theorem aj.down{ρ ρ':Pos->Loc}{n n':Nat}{C:Cells}{v:AV}{x:Value}(h:aj ρ' n' C v x):∀{y:Value},aj ρ n C v y->(∀b:Pos,b.toNat<n->ρ' b=ρ b)->aj ρ n C v x:=by
 induction h with
 |bool b=>exact λh _=>.bool b
 |int k i=>exact λh _=>.int k i
 |str s bs h=>exact λ_ _=>.str s bs h
 |iC=>exact λ_ _=>.iC
 |ptr b off h=>
  intro y h aS;cases h with
  |ptr _ _ h'=>rw[aS b h'];exact .ptr b off h'
 |fp xs i j es ax base cell hl hc hv ih=>
  intro y h aS;cases h with
  |fp _ _ _ es' zk base' afb hl' tD Ba=>exact .fp xs i j es ax base cell hl hc λi j cs v hi hj=>ih i j cs v hi hj (Ba i j cs v hi hj) aS
 |af=>exact λ_ _=>.af
 |slice  b off len cap es aJ a hl hc ha hk=>
  intro y h aS;cases h with
  |slice _ _ _ _ _ XQ a' hl' tD ha' kA=>
   refine .slice b off len cap es aJ a hl hc (λh0=> ?_) kA;obtain⟨h1,h2,h3⟩:=ha h0;have hb:b.toNat<n:=by
        cases cap with
        |none=>exact kA rfl
        |some c=>
         have e1:=hc c rfl;have e2:=tD c rfl;exact(ha' (by rw[<-e2,e1];exact h0)).1
   rw[aS b hb]at h2 h3;exact⟨hb,h2,h3⟩
 |fl xs es aJ a cell hl hs dF hc hv ih=>
  intro y h aS;cases h with
  |fl _ _ XQ a' afb hl' gK hes' tD Ba=>exact .fl xs es aJ a cell hl hs dF hc λi j cs v hi hj=>ih i j cs v hi hj (Ba i j cs v hi hj) aS
 |nF=>exact λ_ _=>.nF
 |map b h=>
  intro y h aS;cases h with
  |map _ h'=>rw[aS b h'];exact .map b h'
 |func f x y x' y' hx hy h1 h2 Y8 Y9=>
  intro z h aS;cases h with
  |func _ _ _ a' b' kx ky k1 k2=>
   refine .func f x y x' y' hx hy (λi v x hv kG=> ?_) (λi v x hv kG=> ?_)
   .    have hi:i<a'.size:=(by rw[<-kx];exact(Za3.1 hv).1);exact Y8 i v x hv kG (k1 i v _ hv (Zf2 hi)) aS
   .    have hi:i<b'.size:=(by rw[<-ky];exact(Za3.1 hv).1);exact Y9 i v x hv kG (k2 i v _ hv (Zf2 hi)) aS
 |jk=>exact λ_ _=>.jk
 |uk=>exact λ_ _=>.uk
 |iface t v x _ ih=>
  intro y h aS;cases h with
  |iface _ _ x' h'=>exact .iface t v x (ih h' aS)
 |agg l cs hx h1 ih=>
  intro y h aS;cases h with
  |agg _ lf kx k1=>
   (refine .agg l cs hx λi v x hv kG=> ?_);have hi:i<lf.size:=(by rw[<-kx];exact(Za3.1 hv).1);exact ih i v x hv kG (k1 i v _ hv (Zf2 hi)) aS
 |tuple l cs hx h1 ih=>
  intro y h aS;cases h with
  |tuple _ lf kx k1=>
   (refine .tuple l cs hx λi v x hv kG=> ?_);have hi:i<lf.size:=(by rw[<-kx];exact(Za3.1 hv).1);exact ih i v x hv kG (k1 i v _ hv (Zf2 hi)) aS
end
noncomputable section
open Go Go.RowKit
def tidy(st:St)(r:AV×St):AV×St:=open Classical in if Plain r.1/\bt st r.2 then(r.1,st)else r
theorem ZP{ρ:Pos->Loc}{C:Cells}{st:St}{w w':World}{r:AV×St}{x:Value}(hW:aV ρ C st w)(h:lO ρ C st w r.1 r.2 x w'):
   lO ρ C st w (tidy st r).1 (tidy st r).2 x w':=by
 unfold tidy;split
 . rename_i hp;obtain⟨ρ',hv,aS,hn,ey,hE⟩:=h;refine⟨ρ,hp.1 _ _ _ _ _ _ hv,λ_ _=>rfl,Za6 _,⟨λb y hb=> ?_,hW.inj,λa u ha=>⟨(ey.dB a u ha).1,(hW.dB a u ha).2⟩,ey.whole⟩,⟨hE.os,hE.tape,hE.output,hE.size,hE.block,λb y hb=>.inl ⟨b,y,hb,rfl⟩⟩⟩;obtain⟨g1,g2,g3⟩:=hW.live b y hb;obtain⟨_,_,k3⟩:=ey.live b y (hp.2 b y hb);refine⟨g1,Zd0 g2 hE.size,?_⟩;rw[aS b g1]at k3;cases y with
   |cells cs fz=>
    obtain⟨c,e,fr,q1,q2,q3,q4,q5⟩:=k3;obtain⟨c0,e0,bP,p1,p2,p3,p4,p5⟩:=g3;refine⟨c,e,fr,q1,q2,q3,⟨q4.1,λi v x hv hx=> ?_⟩,q5⟩;obtain⟨y0,hy0,Ed⟩:=p4.get hv;exact(q4.2 i v x hv hx).down Ed aS
   |map es clock=>
    obtain⟨es',q1,q2,q3⟩:=k3;obtain⟨ZQ,p1,p2,p3⟩:=g3;refine⟨es',q1,q2,λi e e' he j9=> ?_⟩;obtain⟨a1,a2,a3⟩:=q3 i e e' he j9;have hi:i<ZQ.size:=(by rw[<-p2];exact(Za3.1 he).1);obtain⟨b1,b2,_⟩:=p3 i e _ he (Zf2 hi);exact⟨a1.down b1 aS,a2.down b2 aS,a3⟩
   |jq s pos=>exact k3
   |typed t cs=>
    obtain⟨c,fr,q1,q2,q3,q4,q5⟩:=k3;obtain⟨c0,bP,p1,p2,p3,p4,p5⟩:=g3;refine⟨c,fr,q1,q2,q3,⟨q4.1,λi v x hv hx=> ?_⟩,q5⟩;obtain⟨y0,hy0,Ed⟩:=p4.get hv;exact(q4.2 i v x hv hx).down Ed aS
 .exact h
theorem ZR{st:St}{r:AV×St}(h:st.next.toNat<=r.2.next.toNat):st.next.toNat<=(tidy st r).2.next.toNat:=by
 unfold tidy;split
 .exact Za6 _
 .exact h
def qg(call:ai)(m:Nat)(F:cI)(args:List AV)(st:St):Option (AV×St):=
 match Nat.beq args.length F.nparams with
 |  true=>match exec call m F.code (params 0 args .e) st with
    |some (.normal,fr,st')=>match cG (λb=>st'.heap.get b) fr F.results with
     |some vs=>some (gH vs,st')
     |none=>none
    |some (.ret,fr,st')=>match cG (λb=>st'.heap.get b) fr F.results with
     |some vs=>some (gH vs,st')
     |none=>none
    |_=>none
 |false=>none
def qh(O:dZ)(G:T cI)(m:Nat):Nat->ai
 |0=>λ_ _ _=>none
 |  d+1=>λf args st=>match O f with
    |some s=>s args st
    |none=>match G.get (key f)with
     |some F=>(qg (qh O G m d) m F args st).map (tidy st)
     |none=>none
section
variable{P:Program}{tt:TT}{C:Cells}
theorem XU(hT:bL P tt){G:T cI}(hG:MV P tt G){call:ai}(bI:eO P C call)(fJ:pF P tt C call)(m:Nat){f:FuncId}{F:cI}(hF:G.get (key f)=some F)
   {ρ:Pos->Loc} {st:St} {w:World} {args:List AV} {v:AV} {st':St} {bC:List Value} (h:qg call m F args st=some (v,st')) (hW:aV ρ C st w) (oH:au ρ st.next.toNat C args bC):
   Reaches P (lO ρ C st w v st') ((callFunc f bC.toArray).run P w):=by
 unfold qg at h;split at h<;>first|(cases h;done)|skip
 rename_i hlen;have hlen:=Za1 hlen;obtain⟨fn,zJ,ji,Bk⟩:=hG _ _ hF;rw[eW,Ze9]at zJ;unfold RX at Bk;split at Bk<;>first|(cases Bk;done)|skip
 rename_i c hb;split at Bk<;>first|(cases Bk;done)|skip
 rename_i ac rs SP ZF hle;simp only[H4]at Bk;subst Bk;simp only at h hlen;have hle:=Za4 hle;have b6:(callFunc f bC.toArray).run P w= .ok (.enter f bC.toArray) w:=by
   have Bl:¬fn.name= "runtime.NumGoroutine" :=(by simpa using ji);simp[callFunc,zJ,Bl,hb]
 rw[b6];simp only[Reaches];refine calls_of_wp zJ hb (eE.wp ?_);have fc:bC.length<=fn.ntmps:=by rw[<-oH.1,hlen];exact hle
 have hS:mj fn.ntmps ρ C (params 0 args .e) st { tmps:=bC.toArray++Array.replicate (fn.ntmps - bC.toArray.size) undef,defers:=[] } w:=by
   refine⟨hW,?_,?_,rfl⟩
   .refine vH args bC 0 .e oH (λj x hx=> ?_) (λp v hp=>by rw[T.dD]at hp;cases hp);have hj:j<bC.length:=(Za3.1 hx).1;rw[Zd9,Zh1 (by simpa using hj)];simpa using hx
   .simp;omega
 split at h<;>first|(cases h;done)|skip
 .rename_i bO aN h1;(split at h<;>first|(cases h;done)|skip);rename_i vs iD;simp only[H4,Zb6]at h;obtain⟨rfl,rfl⟩:=h;(refine(oF hT bI fJ m).1 c ac _ bO st aN .normal ρ _ w _ SP h1 hS λa' w' hp=> ?_);obtain⟨dM,qJ,k1,k2,k3⟩:=hp;obtain⟨y,zH,A8⟩:=pG hT qJ.W qJ.F ZF iD;exact⟨qJ.defers,y,zH,dM,A8,k1,k2,qJ.W,k3⟩
 .rename_i bO aN h1;(split at h<;>first|(cases h;done)|skip);rename_i vs iD;simp only[H4,Zb6]at h;obtain⟨rfl,rfl⟩:=h;(refine(oF hT bI fJ m).1 c ac _ bO st aN .ret ρ _ w _ SP h1 hS λa' w' hp=> ?_);obtain⟨dM,qJ,k1,k2,k3⟩:=hp;obtain⟨y,zH,A8⟩:=pG hT qJ.W qJ.F ZF iD;exact⟨qJ.defers,y,zH,dM,A8,k1,k2,qJ.W,k3⟩
theorem ZS{call:ai}(hm:lQ call){m:Nat}{F:cI}{args:List AV}{st:St}{v:AV}{st':St}(h:qg call m F args st=some (v,st')):st.next.toNat<=st'.next.toNat:=by
 unfold qg at h;split at h<;>first|(cases h;done)|skip
 split at h<;>first|(cases h;done)|skip
 all_goals
  rename_i h1;split at h<;>first|(cases h;done)|skip
  simp only[H4,Zb6]at h;obtain⟨rfl,rfl⟩:=h;exact CC hm _ _ _ _ _ _ _ h1
theorem NI{O:dZ}{G:T cI}(hO:ku O)(m:Nat):∀d,lQ (qh O G m d)
 |0=>λf args st v st' h=>by simp[qh]at h
 |d +1=>λf args st v st' h=>by
  unfold qh at h;split at h
  .rename_i s hs;exact hO _ _ hs _ _ _ _ h
  . (split at h<;>first|(cases h;done)|skip);simp only[Ze1]at h;obtain⟨r,hr,he⟩:=h;have:=ZS (NI hO m d) (v:=r.1) (st':=r.2) hr;have:=ZR this;rw[he]at this;exact this
theorem K5(hm:P.follows .mixedOrders=true)(hT:bL P tt){O:dZ}{G:T cI}(hO:oG P C O)(IB:ku O)(hG:MV P tt G)(m:Nat):∀d,eO P C (qh O G m d)
 |0=>λρ st w f args v st' bC h=>by simp[qh]at h
 |d +1=>by
  intro ρ st w f args v st' bC h hW oH;have ih:=K5 hm hT hO IB hG m d;unfold qh at h;split at h
  .rename_i s hs;exact hO f s hs ρ st w args v st' bC h hW oH
  . (split at h<;>first|(cases h;done)|skip);rename_i F hF;simp only[Ze1]at h;obtain⟨r,hr,he⟩:=h;refine Reaches.mono (λx w' hp=> ?_) (XU hT hG ih (FU hm hT ih (NI IB m d)) m hF (v:=r.1) (st':=r.2) hr hW oH);have:=ZP hW hp;rw[he]at this;exact this
end
theorem V0{c c':ai}(h:K4 c c'){n m:Nat}(hn:n<=m){F:cI}{args:List AV}{st:St}{r:AV×St}(e:qg c n F args st=some r):qg c' m F args st=some r:=by
 unfold qg at e ⊢;split at e<;>first|(cases e;done)|skip
 split at e<;>first|(cases e;done)|skip
 all_goals
  rename_i h1;simp only[Kc h n m hn _ _ _ _ h1];exact e
theorem Mh(O:dZ)(G:T cI){n m:Nat}(hn:n<=m):∀d d',d<=d'->K4 (qh O G n d) (qh O G m d')
 |0,_,_=>λ_ _ _ _ e=>by simp[qh]at e
 |_+1,0,h=>by omega
 |d +1,d'+1,h=>λf args st r e=>by
  have ih:=Mh O G hn d d' (by omega);unfold qh at e ⊢;split at e
  .exact e
  . (split at e<;>first|(cases e;done)|skip);simp only[Ze1]at e ⊢;obtain⟨q,hq,he⟩:=e;exact⟨q,V0 ih hn hq,he⟩
def cn(O:dZ)(G:T cI)(n:Nat):ai:=qh O G n n
theorem F8(O:dZ)(G:T cI){n m:Nat}(h:n<=m):K4 (cn O G n) (cn O G m):=Mh O G h n m h
def run(O:dZ)(G:T cI):ai:=λf args st=>open Classical in
 if h:∃(r:AV×St) (n:Nat),cn O G n f args st=some r then some h.choose else none
variable{O:dZ}{G:T cI}
theorem ZT{f:FuncId}{args:List AV}{st:St}{r:AV×St}{n:Nat}(h:cn O G n f args st=some r):run O G f args st=some r:=by
 unfold run;have hx:∃(r:AV×St) (n:Nat),cn O G n f args st=some r:=⟨r,n,h⟩
 rw[dif_pos hx];obtain⟨m,hm⟩:=hx.choose_spec;have h1:=F8 O G (Zi5 n m) f args st _ h;have h2:=F8 O G (Zh6 n m) f args st _ hm;rw[h1]at h2;exact h2.symm
theorem Tb{f:FuncId}{args:List AV}{st:St}{r:AV×St}(h:run O G f args st=some r):∃n,cn O G n f args st=some r:=by
 unfold run at h;split at h
 .rename_i hx;simp only[H4]at h;rw[<-h];exact hx.choose_spec
 .cases h
theorem NJ{k:av}{xs:List AV}{st:St}{r:AV×St}(e:bS (run O G) k xs st=some r):∃n,bS (cn O G n) k xs st=some r:=by
 unfold bS at e;cases hr:k.run (λb=>st.heap.get b) st.next xs with
 |none=>simp[hr]at e
 |some x=>cases x with
  |val v=>exact⟨0,by simpa [bS,hr]using e⟩
  |aH v d s n=>exact⟨0,by simpa [bS,hr]using e⟩
  |call f args=>
   simp only[hr]at e;obtain⟨n,hn⟩:=Tb e;exact⟨n,by simpa [bS,hr]using hn⟩
theorem IE:∀(os:List bh)(fr:Fr)(st:St)(r:Fr×St),iX (run O G) os fr st=some r->∃n,iX (cn O G n) os fr st=some r
 |[],_,_,_,e=>⟨0,e⟩
 |o::os,fr,st,r,e=>by
  unfold iX at e;cases hw:bJ fr o.guard with
  |none=>simp[hw]at e
  |some b=>cases b with
   |    false=>
        simp only[hw]at e;obtain⟨n,hn⟩:=IE os _ _ _ e;exact⟨n,by unfold iX;simp only[hw];exact hn⟩
   |    true=>
        simp only[hw]at e;cases hx:dV fr o.xs with
        |none=>simp[hx]at e
        |some xs=>
         simp only[hx]at e;cases hs:bS (run O G) o.k xs st with
         |none=>simp[hs]at e
         |some p=>
          simp only[hs]at e;obtain⟨n,hn⟩:=IE os _ _ _ e;obtain⟨m,hm⟩:=NJ hs;refine⟨max n m,?_⟩;unfold iX;simp only[hw,hx,F7 (F8 O G (Zh6 n m)) hm];exact Kb (F8 O G (Zi5 n m)) _ _ _ _ hn
theorem NK: ∀(os:List (Nat×bh))(recs:List Rec)(base:T AB)(fr:Fr)(st:St)(r:Fr×St),cO (run O G) os recs base fr st=some r->∃n,cO (cn O G n) os recs base fr st=some r
 |[],_,_,_,_,_,e=>⟨0,e⟩
 |(j,   o)::os,recs,base,fr,st,r,e=>by
  have ih:=NK os;unfold cO at e;cases hw:bJ fr o.guard with
  |none=>simp[hw]at e
  | some b=>cases b with
    |   false=>
        simp only[hw]at e;obtain⟨n,hn⟩:=ih _ _ _ _ _ e;exact⟨n,by unfold cO;simp only[hw];exact hn⟩
    |   true=>
        simp only[hw]at e;cases hx:dV fr o.xs with
        |none=>simp[hx]at e
        |some xs=>
         simp only[hx]at e;cases hc:o.cls with
         |aH=>
          simp only[hc]at e;cases hs:bS (run O G) o.k xs st with
          |none=>simp[hs]at e
          | some p=>
            simp only[hs]at e;obtain⟨n,hn⟩:=ih _ _ _ _ _ e;obtain⟨m,hm⟩:=NJ hs;refine⟨max n m,?_⟩;unfold cO;simp only[hw,hx,hc,F7 (F8 O G (Zh6 n m)) hm];exact Mg (F8 O G (Zi5 n m)) _ _ _ _ _ _ hn
         |new=>
          simp only[hc]at e;(split at e<;>first|(cases e;done)|skip);obtain⟨n,hn⟩:=ih _ _ _ _ _ e;refine⟨n,?_⟩;unfold cO;simp only[*]
         |pure=>
          simp only[hc]at e;split at e<;>(try split at e)<;>(try split at e)<;>first|(cases e;done)|skip
          all_goals
            obtain⟨n,hn⟩:=ih _ _ _ _ _ e;refine⟨n,?_⟩;unfold cO;simp only[*]
         |read=>
          simp only[hc]at e;split at e<;>(try split at e)<;>(try split at e)<;>first|(cases e;done)|skip
          all_goals
            obtain⟨n,hn⟩:=ih _ _ _ _ _ e;refine⟨n,?_⟩;unfold cO;simp only[*]
theorem QJ:∀(n:Nat)(a:AC)(fr:Fr)(st:St)(r:js×Fr×St),exec (run O G) n a fr st=some r->∃m,exec (cn O G m) n a fr st=some r
 |0,_,_,_,_,e=>by simp[exec]at e
 |n+    1,a,fr,st,r,e=>by
  have ih:=QJ n;have up:∀{m m':Nat}{a:AC}{fr:Fr}{st:St}{r:js×Fr×St},m<=m'->exec (cn O G m) n a fr st=some r->exec (cn O G m') n a fr st=some r:=
   λh e=>Kc (F8 O G h) _ _ (Za6 _) _ _ _ _ e
  cases a<;>simp only[exec,aX]at e
  case skip=>exact⟨0,e⟩
  case exit=>exact⟨0,e⟩
  case ret=>exact⟨0,e⟩
  case region ops=>
   cases ho:iX (run O G) ops fr st with
   |none=>simp[ho]at e
   |    some p=>
        obtain⟨m,hm⟩:=IE _ _ _ _ ho;exact⟨m,by simp only[exec,aX,hm];simpa only[ho]using e⟩
  case draw ops=>
   cases ho:cO (run O G) ops [] st.heap fr st with
   |none=>simp[ho]at e
   |    some p=>
        obtain⟨m,hm⟩:=NK _ _ _ _ _ _ ho;exact⟨m,by simp only[exec,aX,hm];simpa only[ho]using e⟩
  case seq a b=>
   cases ha:exec (run O G) n a fr st with
   |none=>simp[ha]at e
   |    some p=>
        obtain⟨ex,bO,aN⟩:=p;simp only[ha]at e;obtain⟨m,hm⟩:=ih _ _ _ _ ha;cases ex with
        |normal=>
         obtain⟨m',Zc⟩:=ih _ _ _ _ e;exact⟨max m m',by simp only[exec,aX,up (Zi5 m m') hm];exact up (Zh6 m m') Zc⟩
        |exit i=>exact⟨m,by simp only[exec,aX,hm];exact e⟩
        |ret=>exact⟨m,by simp only[exec,aX,hm];exact e⟩
  case cond x a b=>
   split at e
   .    rename_i hx;obtain⟨m,hm⟩:=ih _ _ _ _ e;exact⟨m,by simp only[exec,aX,hx];exact hm⟩
   .    rename_i hx;obtain⟨m,hm⟩:=ih _ _ _ _ e;exact⟨m,by simp only[exec,aX,hx];exact hm⟩
   .    cases e
  case block id a=>
   cases ha:exec (run O G) n a fr st with
   |none=>simp[ha]at e
   |    some p=>
        obtain⟨ex,bO,aN⟩:=p;simp only[ha]at e;obtain⟨m,hm⟩:=ih _ _ _ _ ha;exact⟨m,by simp only[exec,aX,hm];exact e⟩
  case loop a=>
   cases ha:exec (run O G) n a fr st with
   |none=>simp[ha]at e
   |    some p=>
        obtain⟨ex,bO,aN⟩:=p;simp only[ha]at e;obtain⟨m,hm⟩:=ih _ _ _ _ ha;cases ex with
        |normal=>
         obtain⟨m',Zc⟩:=ih _ _ _ _ e;exact⟨max m m',by simp only[exec,aX,up (Zi5 m m') hm];exact up (Zh6 m m') Zc⟩
        |exit i=>exact⟨m,by simp only[exec,aX,hm];exact e⟩
        |ret=>exact⟨m,by simp only[exec,aX,hm];exact e⟩
theorem abr{f:FuncId}{F:cI}{args:List AV}{st:St}{r:AV×St}{n:Nat}(ho:O f=none)(hF:G.get (key f)=some F)(h:qg (run O G) n F args st=some r):
   run O G f args st=some (tidy st r):=by
 unfold qg at h;split at h<;>first|(cases h;done)|skip
 rename_i hlen
 have fin:∀{ex fr st'},exec (run O G) n F.code (params 0 args .e) st=some (ex,fr,st')->(∀m k,exec (cn O G m) k F.code (params 0 args .e) st=some (ex,fr,st')->qg (cn O G m) k F args st=some r)->
    run O G f args st=some (tidy st r):=λh1 h2=>by
   obtain⟨m,hm⟩:=QJ _ _ _ _ _ h1;refine ZT (n:=max n m+1) ?_;unfold cn qh;simp only[ho,hF];have:=h2 m n hm;have h3:=V0 (Mh O G (n:=m) (m:=max n m+1) (by have:=Zh6 n m;omega) m (max n m) (Zh6 n m)) (m:=max n m+1) (by have:=Zi5 n m;omega) this;rw[h3];rfl
 split at h<;>first|(cases h;done)|skip
 .rename_i h1;exact fin h1 λm k hk=>by unfold qg;simp only[hlen,hk];exact h
 .rename_i h1;exact fin h1 λm k hk=>by unfold qg;simp only[hlen,hk];exact h
theorem NL{f:FuncId}{s:List AV->St->Option (AV×St)}(ho:O f=some s){args:List AV}{st:St}{r:AV×St}(h:s args st=some r):run O G f args st=some r:=
 ZT (n:=1) (by unfold cn qh;simp only[ho];exact h)
theorem QK{P:Program}{tt:TT}{C:Cells}(hm:P.follows .mixedOrders=true)(hT:bL P tt)(hO:oG P C O)(IB:ku O)(hG:MV P tt G):eO P C (run O G):=by intro ρ st w f args v st' bC h hW oH;obtain⟨n,hn⟩:=Tb h;exact K5 hm hT hO IB hG n n ρ st w f args v st' bC hn hW oH
end
noncomputable section
open Go
inductive Sh where
 |leaf
 |seq (jn:Option (List Pos)) (a b:Sh)
 |cond (a b:Sh)
 |block (a:Sh)
 |loop (j:Nat) (ins:List Pos) (outs:List (Nat×List Pos)) (a:Sh)
variable{R:Type}
abbrev LpK(R:Type):=Nat->List AV->St->Option R
abbrev Env(R:Type):=Nat->LpK R->Nat->List AV->St->Option R
def ju(l:List AV)(k:AV->List AV->Option R):Option R:=match l with
 |v::vs=>k v vs
 |[]=>none
def pH(l:List AV)(k:Option R):Option R:=match l with
 |[]=>k
 |_::_=>none
def ak(c:ai)(k:av)(xs:List AV)(st:St)(K:AV->St->Option R):Option R:=match bS c k xs st with
 |some (v,st')=>K v st'
 |none=>none
def Tc(c:ai)(g:AV)(want:Bool)(k:av)(xs:List AV)(st:St)(K:AV->St->Option R):Option R:=match g with
 |  .bool b=>match b==want with
    |true=>ak c k xs st K
    |false=>K .undef st
 |.tuple _=>K .undef st
 |_=>none
def dJ(k:av)(xs:List AV)(K:AV->Option R):Option R:=match k.run (λ_=>none) .h xs with
 |some (.val v)=>K v
 |_=>none
def K7(g:AV)(want:Bool)(k:av)(xs:List AV)(K:AV->Option R):Option R:=match g with
 |  .bool b=>match b==want with
    |true=>dJ k xs K
    |false=>K .undef
 |.tuple _=>K .undef
 |_=>none
def kR(k:av)(xs:List AV)(h:T AB)(ok:AV->Bool)(K:AV->Option R):Option R:=match k.run (λ_=>none) .h xs with
 |some (.val v)=>K v
 |  _=>match k.run (λb=>h.get b) .h xs with
    |some (.val v)=>match ok v with
     |true=>K v
     |false=>none
    |_=>none
def K8(g:AV)(want:Bool)(k:av)(xs:List AV)(h:T AB)(ok:AV->Bool)(K:AV->Option R):Option R:=match g with
 |  .bool b=>match b==want with
    |true=>kR k xs h ok K
    |false=>K .undef
 |.tuple _=>K .undef
 |_=>none
def IF(k:av)(xs:List AV)(st:St)(K:AV->AB->Option R):Option R:=match k.run (λ_=>none) st.next xs with
 |some (.aH v none none (some ax))=>K v ax
 |_=>none
def K9(g:AV)(want:Bool)(A B:Option R):Option R:=match g with
 |  .bool b=>match b==want with
    |true=>A
    |false=>B
 |.tuple _=>B
 |_=>none
def QL(v:AV)(A B:Option R):Option R:=match v with
 |.bool true=>A
 |.bool false=>B
 |_=>none
def gM(f:(List AV->St->Option R)->Option R)(k:List AV->St->Option R):Option R:=f k
def Mi (c:ai):List bh->Fr->St->(Fr->St->Option R)->Option R
 |[],fr,st,K=>K fr st
 |  o::os,fr,st,K=>match dV fr o.xs with
    |some xs=>match o.guard with
     |none=>ak c o.k xs st λv st=>Mi c os (cU fr o.dst v) st K
     |  some (p,want)=>match fr.get p with
        |some g=>Tc c g want o.k xs st λv st=>Mi c os (cU fr o.dst v) st K
        |none=>none
    |none=>none
def l9 (c:ai ):List (Nat×bh)->List Rec->T AB->Fr->St->(Fr->St->Option R)->Option R
 |[],_,_,fr,st,K=>K fr st
 |  (j, o):: os,recs,base,fr,st,K=>match dV fr o.xs with
    | some xs=>match o.cls with
      | .pure=>match o.guard with
        |none=>dJ o.k xs λv=>l9 c os ({ idx:=j,o:=o,v:=v,c:= .pure,nx:=st.next }::recs) base (cU fr o.dst v) st K
        |some (p,want)=>match fr.get p with
         |some g=>K7 g want o.k xs λv=>l9 c os ({ idx:=j,o:=o,v:=v,c:= .pure,nx:=st.next }::recs) base (cU fr o.dst v) st K
         |none=>none
      | .read=>match o.guard with
        |none=>kR o.k xs (snap o.bD base recs) (λv=>j5 o.bD o.k xs v [] recs) λv=>l9 c os ({ idx:=j,o:=o,v:=v,c:= .pure,nx:=st.next }::recs) base (cU fr o.dst v) st K
        |some (p,want)=>match fr.get p with
         |some g=>K8 g want o.k xs (snap o.bD base recs) (λv=>j5 o.bD o.k xs v [] recs) λv=>l9 c os ({ idx:=j,o:=o,v:=v,c:= .pure,nx:=st.next }::recs) base (cU fr o.dst v) st K
         |none=>none
      | .new=>match o.guard with
        |none=>IF o.k xs st λv ax=>l9 c os ({ idx:=j,o:=o,v:=v,c:= .new st.next ax,nx:=st.next.succ }::recs) base (cU fr o.dst v) { heap:=st.heap.put (some ax) st.next,next:=st.next.succ } K
        |some (p,want)=>match fr.get p with
         |some g=>K9 g want (IF o.k xs st λv ax=>l9 c os ({ idx:=j,o:=o,v:=v,c:= .new st.next ax,nx:=st.next.succ }::recs) base (cU fr o.dst v) { heap:=st.heap.put (some ax) st.next,next:=st.next.succ } K)
             (l9 c os ({ idx:=j,o:=o,v:= .undef,c:= .pure,nx:=st.next }::recs) base (cU fr o.dst .undef) st K)
         |none=>none
      | .aH=>match o.guard with
        |none=>ak c o.k xs st λv st'=>l9 c os ({ idx:=j,o:=o,v:=v,c:= .aH base st'.heap,nx:=st'.next }::recs) st'.heap (cU fr o.dst v) st' K
        |some (p,want)=>match fr.get p with
         |some g=>K9 g want (ak c o.k xs st λv st'=>l9 c os ({ idx:=j,o:=o,v:=v,c:= .aH base st'.heap,nx:=st'.next }::recs) st'.heap (cU fr o.dst v) st' K)
             (l9 c os ({ idx:=j,o:=o,v:= .undef,c:= .pure,nx:=st.next }::recs) base (cU fr o.dst .undef) st K)
         |none=>none
    |none=>none
def IG:List Pos->Fr->(List AV->Option R)->Option R
 |[],_,k=>k []
 |  p::ps,fr,k=>match fr.get p with
    |some v=>IG ps fr λvs=>k (v::vs)
    |none=>none
def II:List Pos->List AV->Fr->(Fr->Option R)->Option R
 |[],vs,fr,k=>pH vs (k fr)
 |p::ps,vs,fr,k=>ju vs λv vs=>II ps vs (fr.put (some v) p) k
def Ke:List (Nat×List Pos)->Nat->List Pos
 |[],_=>[]
 |  (i,l)::r,e=>match Nat.beq i e with
    |true=>l
    |false=>Ke r e
def exOf:Nat->js
 |0=>.normal
 |1=>.ret
 |n+2=>.exit n
def Ek(D:Fr->St->(js->Fr->St->Option R)->Option R)(ins:List Pos)(outs:List (Nat×List Pos))(K':LpK R)(again:List AV->St->Option R)(vs:List AV)(st:St):Option R:=
 II ins vs .e λfr=>D fr st λex fr st=>match ex with
    |.normal=>IG ins fr λvs=>again vs st
    |.exit i=>IG (Ke outs (i+2)) fr λos=>K' (i+2) os st
    |.ret=>IG (Ke outs 1) fr λos=>K' 1 os st
def knk(outs:List (Nat×List Pos))(K:js->Fr->St->Option R):LpK R:=λe os st=>II (Ke outs e) os .e λfr=>K (exOf e) fr st
def den (c:ai)(F:Nat)(L:Env R):AC->Sh->Fr->St->(js->Fr->St->Option R)->Option R
 |.skip,_,fr,st,K=>K .normal fr st
 |.region ops,_,fr,st,K=>Mi c ops fr st (K .normal)
 |.draw ops,_,fr,st,K=>l9 c ops [] st.heap fr st (K .normal)
 |  .seq a b,s,fr,st,K=>match s with
    | .seq none s t=>den c F L a s fr st λex fr st=>match ex with
      |.normal=>den c F L b t fr st K
      |.exit i=>K (.exit i) fr st
      |.ret=>K .ret fr st
    | .seq (some l) s t=>gM (λK'=>den c F L a s fr st λex fr st=>match ex with
      |.normal=>IG l fr λvs=>K' vs st
      |.exit i=>K (.exit i) fr st
      |.ret=>K .ret fr st) (λvs st=>II l vs .e λfr=>den c F L b t fr st K)
    |_=>none
 |  .cond x a b,s,fr,st,K=>match s with
    | .cond s t=>match yE fr x with
      |some v=>QL v (den c F L a s fr st K) (den c F L b t fr st K)
      |none=>none
    |_=>none
 |  .block id a,s,fr,st,K=>match s with
    | .block s=>den c F L a s fr st λex fr st=>match ex with
      |.normal=>K .normal fr st
      | .exit i=>match Nat.beq i id with
        |true=>K .normal fr st
        |false=>K (.exit i) fr st
      |.ret=>K .ret fr st
    |_=>none
 |  .loop _,s,fr,st,K=>match s with
    |.loop j ins outs _=>IG ins fr λvs=>L j (knk outs K) F vs st
    |_=>none
 |.exit id,_,fr,st,K=>K (.exit id) fr st
 |.ret,_,fr,st,K=>K .ret fr st
def vL(c:ai)(F:Nat)(L:Env R)(a:AC):Sh->Prop
 |.loop j ins outs s=>∀K',(∀vs st,L j K' 0 vs st=none)/\∀n vs st,L j K' (n+1) vs st=Ek (den c F L a s) ins outs K' (L j K' n) vs st
 |_=>False
def sO(c:ai)(F:Nat)(L:Env R):AC->Sh->Prop
 |  .seq a b,s=>match s with
    |.seq _ s t=>sO c F L a s/\sO c F L b t
    |_=>True
 |  .cond _ a b,s=>match s with
    |.cond s t=>sO c F L a s/\sO c F L b t
    |_=>True
 |  .block _ a,s=>match s with
    |.block s=>sO c F L a s
    |_=>True
 |  .loop a,s=>match s with
    |.loop j ins outs s=>vL c F L a (.loop j ins outs s)/\sO c F L a s
    |_=>True
 |_,_=>True
def dY:AC->Sh->List (AC×Sh)
 |  .seq a b,s=>match s with
    |.seq _ s t=>dY a s++dY b t
    |_=>[]
 |  .cond _ a b,s=>match s with
    |.cond s t=>dY a s++dY b t
    |_=>[]
 |  .block _ a,s=>match s with
    |.block s=>dY a s
    |_=>[]
 |  .loop a,s=>match s with
    |.loop j ins outs s=>(a,.loop j ins outs s)::dY a s
    |_=>[]
 |_,_=>[]
theorem xT{c:ai}{F:Nat}{L:Env R}:∀(a:AC)(s:Sh),(∀x∈dY a s,vL c F L x.1 x.2)->sO c F L a s
 |.skip,_,_=>trivial
 |.region _,_,_=>trivial
 |.draw _,_,_=>trivial
 |.exit _,_,_=>trivial
 |.ret,_,_=>trivial
 | .seq a b,s,h=>by
   cases s<;>simp only[sO]<;>simp only[dY,Zc9]at h;exact⟨xT a _ λx hx=>h x (.inl hx),xT b _ λx hx=>h x (.inr hx)⟩
 | .cond x a b,s,h=>by
   cases s<;>simp only[sO]<;>simp only[dY,Zc9]at h;exact⟨xT a _ λx hx=>h x (.inl hx),xT b _ λx hx=>h x (.inr hx)⟩
 |.block id a,s,h=>by cases s<;>simp only[sO]<;>simp only[dY]at h;exact xT a _ h
 | .loop a,s,h=>by
   cases s<;>simp only[sO]<;>simp only[dY,Zb1]at h;exact⟨h _ (.inl rfl),xT a _ λx hx=>h x (.inr hx)⟩
def Sub(a b:Fr):Prop:=∀p v,a.get p=some v->b.get p=some v
theorem Sub.refl(a:Fr):Sub a a:=λ_ _ h=>h
theorem Sub.put{a b:Fr}(h:Sub a b)(p:Pos)(v:AV):Sub (a.put (some v) p) (b.put (some v) p):=λq u hq=>by
 by_cases e:p=q
 .subst e;rw[T.eH]at hq ⊢; exact hq
 .rw[T.bw _ e]at hq ⊢; exact h _ _ hq
theorem Sub.dst{a b:Fr}(h:Sub a b)(d:Option Pos)(v:AV):Sub (cU a d v) (cU b d v):=by
 cases d with
 |none=>exact h
 |some p=>exact h.put p v
theorem Sub.ev{a b:Fr}(h:Sub a b){x:dU}{v:AV}(e:yE a x=some v):yE b x=some v:=by
 cases x with
 |t p=>exact h _ _ e
 |c v=>exact e
theorem Sub.evs{a b:Fr}(h:Sub a b):∀{xs:List dU}{vs:List AV},dV a xs=some vs->dV b xs=some vs
 |[],_,e=>e
 |x::xs,vs,e=>by
  unfold dV at e ⊢;cases hx:yE a x with
  |none=>simp[hx]at e
  |some v=>
   simp only[hx]at e;cases hs:dV a xs with
   |none=>simp[hs]at e
   |some us=>simp only[hs]at e;simp only[h.ev hx,h.evs hs];exact e
theorem F9 {c:ai}:∀(os:List bh){fr ei:Fr}{st:St}{K:Fr->St->Option R}{r:R},Sub fr ei->Mi c os fr st K=some r->
  ∃aW cM st',iX c os ei st=some (cM,st')/\Sub aW cM/\K aW st'=some r
 |[],fr,ei,st,K,r,hs,h=>⟨fr,ei,st,rfl,hs,h⟩
 |o::os,fr,ei,st,K,r,hs,h=>by
  unfold Mi at h;cases hx:dV fr o.xs with
  |none=>simp[hx]at h
  |some xs=>
   simp only[hx]at h;have hstp:∀{st},ak c o.k xs st (λv st=>Mi c os (cU fr o.dst v) st K)=some r->bJ ei o.guard=some true->∃aW cM st',iX c (o::os) ei st=some (cM,st')/\Sub aW cM/\K aW st'=some r:=λ{st} h hw=>by
        unfold ak at h;cases kf:bS c o.k xs st with
        |none=>simp[kf]at h
        |some p=>
         simp only[kf]at h;obtain⟨aW,cM,st',h1,h2⟩:=F9 os (hs.dst o.dst p.1) h;exact⟨aW,cM,st',by unfold iX;simp only[hw,hs.evs hx,kf];exact h1,h2⟩
   have IJ:∀{st},Mi c os (cU fr o.dst .undef) st K=some r->bJ ei o.guard=some false->∃aW cM st',iX c (o::os) ei st=some (cM,st')/\Sub aW cM/\K aW st'=some r:=λ{st} h hw=>by
        obtain⟨aW,cM,st',h1,h2⟩:=F9 os (hs.dst o.dst .undef) h;exact⟨aW,cM,st',by unfold iX;simp only[hw];exact h1,h2⟩
   cases hg:o.guard with
   |none=>simp only[hg]at h;exact hstp h (by rw[hg];rfl)
   |    some pw=>
        obtain⟨p,want⟩:=pw;simp only[hg]at h;cases hp:fr.get p with
        |none=>simp[hp]at h
        |some g=>
         simp only[hp]at h;have vM:=hs _ _ hp;unfold Tc at h;split at h
         .  rename_i b;split at h
            .rename_i hb;exact hstp h (by rw[hg];simp[bJ,vM,hb])
            .rename_i hb;exact IJ h (by rw[hg];simp[bJ,vM,hb])
         .  exact IJ h (by rw[hg];simp[bJ,vM])
         .  cases h
theorem La {c : ai}:∀(os:List (Nat×bh))(recs:List Rec)(base:T AB){fr ei:Fr}{st:St}{K:Fr->St->Option R}{r:R},Sub fr ei->l9 c os recs base fr st K=some r->
  ∃aW cM st',cO c os recs base ei st=some (cM,st')/\Sub aW cM/\K aW st'=some r
 |[],_,_,fr,ei,st,K,r,hs,h=>⟨fr,ei,st,rfl,hs,h⟩
 |(j,   o)::  os, recs,base,fr,ei,st,K,r,hs,h=>by
  have ih:=λrecs base {fr ei:Fr}{st:St}{K:Fr->St->Option R}{r:R}=>La (c:=c) os recs base (fr:=fr) (ei:=ei) (st:=st) (K:=K) (r:=r)
  unfold l9 at h;cases hx:dV fr o.xs with
  |none=>simp[hx]at h
  | some xs   =>
    simp only[hx]at h;have S0:=hs.evs hx;have IJ:∀{st},l9 c os ({ idx:=j,o:=o,v:= .undef,c:= .pure,nx:=st.next }::recs) base (cU fr o.dst .undef) st K=some r->bJ ei o.guard=some false->∃aW cM st',cO c ((j,o)::os) recs base ei st=some (cM,st')/\Sub aW cM/\K aW st'=some r:=λ{st} h hw=>by
        obtain⟨aW,cM,st',h1,h2⟩:=ih _ _ (hs.dst o.dst .undef) h;exact⟨aW,cM,st',by unfold cO;simp only[hw];exact h1,h2⟩
    cases hc:o.cls with
    |   pure=>
        simp only[hc]at h;have IK:dJ o.k xs (λv=>l9 c os ({ idx:=j,o:=o,v:=v,c:= .pure,nx:=st.next }::recs) base (cU fr o.dst v) st K)=some r->bJ ei o.guard=some true->∃aW cM st',cO c ((j,o)::os) recs base ei st=some (cM,st')/\Sub aW cM/\K aW st'=some r:=λh hw=>by
         unfold dJ at h;split at h
         .  rename_i v hv;obtain⟨aW,cM,st',h1,h2⟩:=ih _ _ (hs.dst o.dst v) h;exact⟨aW,cM,st',by unfold cO;simp only[hw,S0,hc,hv];exact h1,h2⟩
         .  cases h
        cases hg:o.guard with
        |none=>simp only[hg]at h;exact IK h (by rw[hg];rfl)
        |some pw=>
         obtain⟨p,want⟩:=pw;simp only[hg]at h;cases hp:fr.get p with
         |none=>simp[hp]at h
         |  some g=>
            simp only[hp]at h;have vM:=hs _ _ hp;unfold K7 at h;split at h
            . split at h
              .rename_i hb;exact IK h (by rw[hg];simp[bJ,vM,hb])
              .rename_i hb;exact IJ h (by rw[hg];simp[bJ,vM,hb])
            .exact IJ h (by rw[hg];simp[bJ,vM])
            .cases h
    |   read=>
        simp only[hc]at h;have IK : kR o.k xs (snap o.bD base recs) (λv=>j5 o.bD o.k xs v [] recs) (λv=>l9 c os ({ idx:=j,o:=o,v:=v,c:= .pure,nx:=st.next }::recs) base (cU fr o.dst v) st K)=some r->bJ ei o.guard=some true->∃aW cM st',cO c ((j,o)::os) recs base ei st=some (cM,st')/\Sub aW cM/\K aW st'=some r:=λh hw=>by
         unfold kR at h;split at h
         .  rename_i v hv;obtain⟨aW,cM,st',h1,h2⟩:=ih _ _ (hs.dst o.dst v) h;exact⟨aW,cM,st',by unfold cO;simp only[hw,S0,hc,hv];exact h1,h2⟩
         .  rename_i kP;split at h
            . rename_i v hv;split at h
              . rename_i dw;obtain⟨aW,cM,st',h1,h2⟩:=ih _ _ (hs.dst o.dst v) h;refine⟨aW,cM,st',?_,h2⟩;unfold cO;simp only[hw,S0,hc];cases hr:o.k.run (λ_=>none) .h xs with
                |none=>simp only[hv,dw];exact h1
                | some x=>cases x with
                  |val u=>exact absurd hr (kP u)
                  |aH v d e n=>simp only[hv,dw];exact h1
                  |call f xs=>simp only[hv,dw];exact h1
              .cases h
            .cases h
        cases hg:o.guard with
        |none=>simp only[hg]at h;exact IK h (by rw[hg];rfl)
        |some pw=>
         obtain⟨p,want⟩:=pw;simp only[hg]at h;cases hp:fr.get p with
         |none=>simp[hp]at h
         |  some g=>
            simp only[hp]at h;have vM:=hs _ _ hp;unfold K8 at h;split at h
            . split at h
              .rename_i hb;exact IK h (by rw[hg];simp[bJ,vM,hb])
              .rename_i hb;exact IJ h (by rw[hg];simp[bJ,vM,hb])
            .exact IJ h (by rw[hg];simp[bJ,vM])
            .cases h
    |   new =>
        simp only[hc]at h;have IK:IF o.k xs st (λv ax=>l9 c os ({ idx:=j,o:=o,v:=v,c:= .new st.next ax,nx:=st.next.succ }::recs) base (cU fr o.dst v) { heap:=st.heap.put (some ax) st.next,next:=st.next.succ } K)=some r->bJ ei o.guard=some true->∃aW cM st',cO c ((j,o)::os) recs base ei st=some (cM,st')/\Sub aW cM/\K aW st'=some r:=λh hw=>by
         unfold IF at h;split at h
         .  rename_i v ax hv;obtain⟨aW,cM,st',h1,h2⟩:=ih _ _ (hs.dst o.dst v) h;exact⟨aW,cM,st',by unfold cO;simp only[hw,S0,hc,hv];exact h1,h2⟩
         .  cases h
        cases hg:o.guard with
        |none=>simp only[hg]at h;exact IK h (by rw[hg];rfl)
        |some pw=>
         obtain⟨p,want⟩:=pw;simp only[hg]at h;cases hp:fr.get p with
         |none=>simp[hp]at h
         |  some g=>
            simp only[hp]at h;have vM:=hs _ _ hp;unfold K9 at h;split at h
            . split at h
              .rename_i hb;exact IK h (by rw[hg];simp[bJ,vM,hb])
              .rename_i hb;exact IJ h (by rw[hg];simp[bJ,vM,hb])
            .exact IJ h (by rw[hg];simp[bJ,vM])
            .cases h
    |   aH=>
        simp only[hc]at h;have IK:ak c o.k xs st (λv st'=>l9 c os ({ idx:=j,o:=o,v:=v,c:= .aH base st'.heap,nx:=st'.next }::recs) st'.heap (cU fr o.dst v) st' K)=some r->bJ ei o.guard=some true->∃aW cM st',cO c ((j,o)::os) recs base ei st=some (cM,st')/\Sub aW cM/\K aW st'=some r:=λh hw=>by
         unfold ak at h;cases kf:bS c o.k xs st with
         |none=>simp[kf]at h
         |  some p=>
            simp only[kf]at h;obtain⟨aW,cM,st',h1,h2⟩:=ih _ _ (hs.dst o.dst p.1) h;exact⟨aW,cM,st',by unfold cO;simp only[hw,S0,hc,kf];exact h1,h2⟩
        cases hg:o.guard with
        |none=>simp only[hg]at h;exact IK h (by rw[hg];rfl)
        |some pw=>
         obtain⟨p,want⟩:=pw;simp only[hg]at h;cases hp:fr.get p with
         |none=>simp[hp]at h
         |  some g=>
            simp only[hp]at h;have vM:=hs _ _ hp;unfold K9 at h;split at h
            . split at h
              .rename_i hb;exact IK h (by rw[hg];simp[bJ,vM,hb])
              .rename_i hb;exact IJ h (by rw[hg];simp[bJ,vM,hb])
            .exact IJ h (by rw[hg];simp[bJ,vM])
            .cases h
def Has:List Pos->List AV->Fr->Prop
 |[],[],_=>True
 |p::ps,v::vs,fr=>fr.get p=some v/\Has ps vs fr
 |_,_,_=>False
theorem Has.sub{a b:Fr}(hs:Sub a b):∀{ps:List Pos}{vs:List AV},Has ps vs a->Has ps vs b
 |[],[],_=>trivial
 |[],_::_,h=>h
 |_::_,[],h=>h
 |_::_,_::_,h=>⟨hs _ _ h.1,Has.sub hs h.2⟩
theorem uO:∀{ps:List Pos}{fr:Fr}{k:List AV->Option R}{r:R},IG ps fr k=some r->∃vs,Has ps vs fr/\k vs=some r
 |[],_,_,_,h=>⟨[],trivial,h⟩
 |p::ps,fr,k,r,h=>by
  unfold IG at h;cases hp:fr.get p with
  |none=>simp[hp]at h
  |some v=>
   simp only[hp]at h;obtain⟨vs,h1,h2⟩:=uO h;exact⟨v::vs,⟨hp,h1⟩,h2⟩
theorem yN:∀{ps:List Pos}{vs:List AV}{fr ei:Fr}{k:Fr->Option R}{r:R},II ps vs fr k=some r->Has ps vs ei->Sub fr ei->∃aW,Sub aW ei/\k aW=some r
 |[],vs,fr,ei,k,r,h,_,hs=>by
  unfold II pH at h;split at h
  .exact⟨fr,hs,h⟩
  .cases h
 |p::ps,[],fr,ei,k,r,h,hh,hs=>by simp[II,ju]at h
 |p::ps,v::vs,fr,ei,k,r,h,hh,hs=>by
  unfold II ju at h;refine yN h hh.2 λq u hq=> ?_
  by_cases e:p=q
  .subst e;rw[T.eH]at hq;cases hq;exact hh.1
  .rw[T.bw _ e]at hq;exact hs _ _ hq
theorem AG{c:ai}{n m:Nat}(h:n<=m){a:AC}{fr:Fr}{st:St}{r:js×Fr×St}(e:exec c n a fr st=some r):exec c m a fr st=some r:=Kc (K4.refl c) n m h _ _ _ _ e
theorem mJ{c:ai}{F:Nat}{L:Env R}:∀(a:AC)(s:Sh),sO c F L a s->∀{fr ei:Fr}{st:St}{K:js->Fr->St->Option R}{r:R},Sub fr ei->den c F L a s fr st K=some r->
   ∃n ex aW cM st',exec c n a ei st=some (ex,cM,st')/\Sub aW cM/\K ex aW st'=some r
 |.skip,s,_,fr,ei,st,K,r,hs,h=>⟨1,.normal,fr,ei,st,rfl,hs,by simpa [den]using h⟩
 |.exit id,s,_,fr,ei,st,K,r,hs,h=>⟨1,.exit id,fr,ei,st,rfl,hs,by simpa [den]using h⟩
 |.ret,s,_,fr,ei,st,K,r,hs,h=>⟨1,.ret,fr,ei,st,rfl,hs,by simpa [den]using h⟩
 | .region ops,s,_,fr,ei,st,K,r,hs,h=>by
   simp only[den]at h;obtain⟨aW,cM,st',h1,h2,h3⟩:=F9 ops hs h;exact⟨1,.normal,aW,cM,st',by simp only[exec,aX,h1],h2,h3⟩
 | .draw ops,s,_,fr,ei,st,K,r,hs,h=>by
   simp only[den]at h;obtain⟨aW,cM,st',h1,h2,h3⟩:=La ops _ _ hs h;exact⟨1,.normal,aW,cM,st',by simp only[exec,aX,h1],h2,h3⟩
 | .seq a b,s,dw,fr,ei,st,K,r,hs,h=>by
   (cases s<;>simp only[den]at h<;>first|(cases h;done)|skip);rename_i jn s t;simp only[sO]at dw;cases jn with
   |none=>
    simp only at h;obtain⟨n,ex,bO,pV,aN,h1,h2,h3⟩:=mJ a s dw.1 hs h;cases ex with
    |   normal=>
        obtain⟨m,ex,sk,Td,jT,k1,k2,k3⟩:=mJ b t dw.2 h2 h3;exact⟨max n m+1,ex,sk,Td,jT,by simp only[exec,aX,AG (Zi5 n m) h1];exact AG (Zh6 n m) k1,k2,k3⟩
    |exit i=>exact⟨n+1,.exit i,bO,pV,aN,by simp only[exec,aX,h1],h2,h3⟩
    |ret=>exact⟨n+1,.ret,bO,pV,aN,by simp only[exec,aX,h1],h2,h3⟩
   |some l=>
    simp only[gM]at h;obtain⟨n,ex,bO,pV,aN,h1,h2,h3⟩:=mJ a s dw.1 hs h;cases ex with
    |   normal=>
        obtain⟨vs,g1,g2⟩:=uO h3;obtain⟨aW,g3,g4⟩:=yN g2 (Has.sub h2 g1) (λp v hp=>by rw[T.dD]at hp;cases hp);obtain⟨m,ex,sk,Td,jT,k1,k2,k3⟩:=mJ b t dw.2 g3 g4;exact⟨max n m+1,ex,sk,Td,jT,by simp only[exec,aX,AG (Zi5 n m) h1];exact AG (Zh6 n m) k1,k2,k3⟩
    |exit i=>exact⟨n+1,.exit i,bO,pV,aN,by simp only[exec,aX,h1],h2,h3⟩
    |ret=>exact⟨n+1,.ret,bO,pV,aN,by simp only[exec,aX,h1],h2,h3⟩
 | .cond x a b,s,dw,fr,ei,st,K,r,hs,h=>by
   (cases s<;>simp only[den]at h<;>first|(cases h;done)|skip);simp only[sO]at dw;cases hx:yE fr x with
   |none=>simp[hx]at h
   |some v=>
    simp only[hx]at h;unfold QL at h;split at h
    .   obtain⟨n,ex,bO,pV,aN,h1,h2,h3⟩:=mJ a _ dw.1 hs h;exact⟨n+1,ex,bO,pV,aN,by simp only[exec,aX,hs.ev hx];exact h1,h2,h3⟩
    .   obtain⟨n,ex,bO,pV,aN,h1,h2,h3⟩:=mJ b _ dw.2 hs h;exact⟨n+1,ex,bO,pV,aN,by simp only[exec,aX,hs.ev hx];exact h1,h2,h3⟩
    .   cases h
 | .block id a,s,dw,fr,ei,st,K,r,hs,h=>by
   (cases s<;>simp only[den]at h<;>first|(cases h;done)|skip);simp only[sO]at dw;obtain⟨n,ex,bO,pV,aN,h1,h2,h3⟩:=mJ a _ dw hs h;cases ex with
   |normal=>exact⟨n+1,.normal,bO,pV,aN,by simp only[exec,aX,h1],h2,h3⟩
   |ret=>exact⟨n+1,.ret,bO,pV,aN,by simp only[exec,aX,h1],h2,h3⟩
   |exit i=>
    simp only at h3;cases hb:Nat.beq i id with
    |true=>simp only[hb]at h3;exact⟨n+1,.normal,bO,pV,aN,by simp only[exec,aX,h1,hb],h2,h3⟩
    |false=>simp only[hb]at h3;exact⟨n+1,.exit i,bO,pV,aN,by simp only[exec,aX,h1,hb],h2,h3⟩
 | .loop a,s,dw,fr,ei,st,K,r,hs,h=>by
   (cases s<;>simp only[den]at h<;>first|(cases h;done)|skip);rename_i j ins outs s;simp only[sO,vL]at dw;obtain⟨afc,dw⟩:=dw;obtain⟨vs,g1,g2⟩:=uO h;obtain⟨hz,hsu⟩:=afc (knk outs K)
   have main:∀(n:Nat)(vs:List AV)(st:St)(ei:Fr),Has ins vs ei->L j (knk outs K) n vs st=some r->
        ∃m ex aW cM st',exec c m (.loop a) ei st=some (ex,cM,st')/\Sub aW cM/\K ex aW st'=some r:=by
    intro n;induction n with
    |zero=>intro vs st ei _ h;rw[hz]at h;cases h
    |   succ n ihn=>
        intro vs st ei hh h;rw[hsu]at h;unfold Ek at h;obtain⟨bP,q1,q2⟩:=yN h hh (λp v hp=>by rw[T.dD]at hp;cases hp);obtain⟨m,ex,bO,pV,aN,h1,h2,h3⟩:=mJ a s dw q1 q2;cases ex with
        |normal=>
         obtain⟨us,p1,p2⟩:=uO h3;obtain⟨m',ex,sk,Td,jT,k1,k2,k3⟩:=ihn us aN pV (Has.sub h2 p1) p2;exact⟨max m m'+1,ex,sk,Td,jT,by simp only[exec,aX,AG (Zi5 m m') h1];exact AG (Zh6 m m') k1,k2,k3⟩
        |exit i=>
         obtain⟨os,p1,p2⟩:=uO h3;obtain⟨sk,p3,p4⟩:=yN p2 (Has.sub h2 p1) (λp v hp=>by rw[T.dD]at hp;cases hp);exact⟨m+1,.exit i,sk,pV,aN,by simp only[exec,aX,h1],p3,p4⟩
        |ret=>
         obtain⟨os,p1,p2⟩:=uO h3;obtain⟨sk,p3,p4⟩:=yN p2 (Has.sub h2 p1) (λp v hp=>by rw[T.dD]at hp;cases hp);exact⟨m+1,.ret,sk,pV,aN,by simp only[exec,aX,h1],p3,p4⟩
   exact main F vs st ei (Has.sub hs g1) g2
def Mj:(H:Pos->Option AB)->Fr->List yD->(List AV->Option R)->Option R
 |_,_,[],k=>k []
 |  H,fr,.tmp p::rs,k=>match fr.get p with
    |some v=>Mj H fr rs λvs=>k (v::vs)
    |none=>none
 |  H,fr,.cell p n::rs,k=>match fr.get p with
    |some q=>match (av.load n).run H .h [q]with
     |some (.val v)=>Mj H fr rs λvs=>k (v::vs)
     |_=>none
    |none=>none
def Lb(n:Option Nat)(q:AV)(st:St)(K:AV->Option R):Option R:=match (av.load n).run (λb=>st.heap.get b) .h [q]with
 |some (.val v)=>K v
 |_=>none
theorem CO{H:Pos->Option AB}{fr ei:Fr}(hs:Sub fr ei):∀{rs:List yD}{k:List AV->Option R}{r:R},Mj H fr rs k=some r->∃vs,cG H ei rs=some vs/\k vs=some r
 |[],k,r,h=>⟨[],rfl,h⟩
 | .tmp p::rs,k,r,h=>by
   unfold Mj at h;cases hp:fr.get p with
   |none=>simp[hp]at h
   |some v=>
    simp only[hp]at h;obtain⟨vs,h1,h2⟩:=CO hs h;exact⟨v::vs,by unfold cG;simp only[hs _ _ hp,h1],h2⟩
 | .cell p n::rs,k,r,h=>by
   unfold Mj at h;cases hp:fr.get p with
   |none=>simp[hp]at h
   |some q=>
    simp only[hp]at h;split at h
    .   rename_i v hv;obtain⟨vs,h1,h2⟩:=CO hs h;exact⟨v::vs,by unfold cG;simp only[hs _ _ hp,hv,h1],h2⟩
    .   cases h
def zl(c:ai)(F:Nat)(L:Env (AV×St))(A:cI)(s:Sh)(args:List AV)(st:St):Option (AV×St):=
 match Nat.beq args.length A.nparams with
 |  true=>den c F L A.code s (params 0 args .e) st λex fr st=>match ex with
    |.normal=>Mj (λb=>st.heap.get b) fr A.results λvs=>some (gH vs,st)
    |.ret=>Mj (λb=>st.heap.get b) fr A.results λvs=>some (gH vs,st)
    |.exit _=>none
 |false=>none
theorem abt{O:dZ}{G:T cI}{F:Nat}{L:Env (AV×St)}{f:FuncId}{A:cI}{s:Sh}{args:List AV}{st:St}{r:AV×St}(ho:O f=none)(hF:G.get (key f)=some A)
  (hL:∀x∈dY A.code s,vL (run O G) F L x.1 x.2) (h:zl (run O G) F L A s args st=some r):run O G f args st=some (tidy st r):=by
 unfold zl at h;split at h<;>first|(cases h;done)|skip
 rename_i hlen;obtain⟨n,ex,aW,cM,st',h1,h2,h3⟩:=mJ A.code s (xT _ _ hL) (Sub.refl _) h;refine abr (n:=n) ho hF ?_;unfold qg;simp only[hlen,h1];cases ex with
 |normal=>
  obtain⟨vs,k1,k2⟩:=CO h2 h3;simp only[k1];exact k2
 |ret=>
  obtain⟨vs,k1,k2⟩:=CO h2 h3;simp only[k1];exact k2
 |exit i=>cases h3
def ah(st:St)(b:AB):St:={ heap:=st.heap.put (some b) st.next,next:=st.next.succ }
def R4{R:Type}:List (Nat×(LpK R->Nat->List AV->St->Option R))->Env R
 |[]=>λ_ _ _ _ _=>none
 |  (i,g)::l=>λj K n=>match Nat.beq i j with
    |true=>g K n
    |false=>R4 l j K n
def fC(A:cI)(s:Sh)(i:Nat):AC×Sh:=(dY A.code s).getD i (.skip,.leaf)
theorem abu{R:Type}{c:ai}{F:Nat}{L:Env R}{A:cI}{s:Sh}(n:Nat)(hn:Nat.beq (dY A.code s).length n=true)(h:∀i,i<n->vL c F L (fC A s i).1 (fC A s i).2):
  ∀x∈dY A.code s,vL c F L x.1 x.2:=by
 intro x hx;obtain⟨i,hi,he⟩:=Zl5.1 hx;have hn:=Za1 hn;have:=h i (by omega);unfold fC at this;rw[Zb4,H5 hi]at this;simp only[Zg1,he]at this;exact this
def O9:Sh->Bool
 |.loop _ _ _ _=>true
 |_=>false
def ZU:Sh->Nat
 |.loop j _ _ _=>j
 |_=>0
def lpI:Sh->List Pos
 |.loop _ i _ _=>i
 |_=>[]
def ZV:Sh->List (Nat×List Pos)
 |.loop _ _ o _=>o
 |_=>[]
def lpB:Sh->Sh
 |.loop _ _ _ s=>s
 |_=>.leaf
theorem eF{R:Type}{c:ai}{F:Nat}{L:Env R}{A:cI}{sh:Sh}{i:Nat}(j:Nat)(hs:(O9 (fC A sh i).2&&Nat.beq (ZU (fC A sh i).2) j)=true)(h0:∀K' vs st,L j K' 0 vs st=none)
  (h1:∀K' n vs st,L j K' (n+1) vs st=Ek (den c F L (fC A sh i).1 (lpB (fC A sh i).2)) (lpI (fC A sh i).2) (ZV (fC A sh i).2) K' (L j K' n) vs st):vL c F L (fC A sh i).1 (fC A sh i).2:=by
 generalize (fC A sh i).1=a at*
 generalize (fC A sh i).2=t at*
 cases t with
 |loop j' ins outs s=>
  simp only[O9,ZU,Zf4]at hs;obtain rfl:=Za1 hs;exact λK'=>⟨h0 K',h1 K'⟩
 |_=>simp[O9]at hs
end
end Go.Ai
section
namespace Go.Ai
open Go
theorem cH(k:IntKind):AY k k=true:=by cases k<;>rfl
theorem jG(a b:Int):tY a b=decide (a=b):=by rw[j7];rfl
theorem fu(a b:List Nat):iJ a b=decide (a=b):=by rw[Zk5,kj];simp
theorem wrap64{x:Int}(h1: -9223372036854775808<=x)(h2:x<=9223372036854775807):aq .i64 x=x:=by
 unfold aq Qc Qd;simp only;split
 . split
   .rfl
   .contradiction
 .contradiction
theorem yu{x:Int}(h1:0<=x)(h2:x<=255):aq .u8 x=x:=by
 unfold aq Qc Qd;simp only;split
 . split
   .rfl
   .contradiction
 .contradiction
theorem fO(k:IntKind)(n:Nat):sM (.int k (n:Int))=some n:=id rfl
theorem di(a b:Nat):Nat.ble a b=decide (a<=b):=by apply Zk5.2;simp
theorem Ap(a b:Nat):Nat.blt a b=decide (a<b):=by apply Zk5.2;simp[Nat.blt,Nat.ble_eq];omega
theorem cQ(a b:Nat):Nat.beq a b=decide (a=b):=by apply Zk5.2;simp
def sP{R:Type}(o:Option AV)(k:AV->Option R):Option R:=match o with
 |some v=>k v
 |none=>none
def zm{R:Type}(o:Option (List AV))(k:List AV->Option R):Option R:=match o with
 |some v=>k v
 |none=>none
def Ml{R:Type}(o:Option (AV×St))(k:AV->St->Option R):Option R:=match o with
 |some (v,st)=>k v st
 |none=>none
section
variable{R:Type}(c:ai)(K:AV->St->Option R)(K1:AV->Option R)(A B:Option R)
@[simp] theorem uP(v:AV)(k:AV->Option R):sP (some v) k=k v:=id rfl
@[simp] theorem uQ(v:List AV)(k:List AV->Option R):zm (some v) k=k v:=id rfl
@[simp] theorem eZ(v:AV)(st:St)(k:AV->St->Option R):Ml (some (v,st)) k=k v st:=id rfl
@[simp] theorem e8:QL (.bool true) A B=A:=id rfl
@[simp] theorem eI:QL (.bool false) A B=B:=id rfl
@[simp] theorem aB(v:AV)(vs:List AV)(k:AV->List AV->Option R):ju (v::vs) k=k v vs:=id rfl
@[simp] theorem bu(k:Option R):pH [] k=k:=id rfl
theorem qK(f:(List AV->St->Option R)->Option R)(k:List AV->St->Option R):gM f k=f k:=id rfl
@[simp] theorem pR(b:Bool)(k:av)(xs:List AV)(st:St):Tc c (.bool b) b k xs st K=ak c k xs st K:=by cases b<;>exact id rfl
@[simp] theorem ZW(k:av)(xs:List AV)(st:St):Tc c (.bool true) false k xs st K=K .undef st:=id rfl
@[simp] theorem aem(k:av)(xs:List AV)(st:St):Tc c (.bool false) true k xs st K=K .undef st:=id rfl
@[simp] theorem aen(b:Bool)(k:av)(xs:List AV)(st:St):Tc c .undef b k xs st K=K .undef st:=id rfl
@[simp] theorem afX(b:Bool)(k:av)(xs:List AV):K7 (.bool b) b k xs K1=dJ k xs K1:=by cases b<;>exact id rfl
@[simp] theorem gpr_tf(k:av)(xs:List AV):K7 (.bool true) false k xs K1=K1 .undef:=id rfl
@[simp] theorem gpr_ft(k:av)(xs:List AV):K7 (.bool false) true k xs K1=K1 .undef:=id rfl
@[simp] theorem gpr_un(b:Bool)(k:av)(xs:List AV):K7 .undef b k xs K1=K1 .undef:=id rfl
@[simp] theorem afY(b:Bool)(k:av)(xs:List AV)(h:T AB)(ok:AV->Bool):K8 (.bool b) b k xs h ok K1=kR k xs h ok K1:=by cases b<;>exact id rfl
@[simp] theorem grd_tf(k:av)(xs:List AV)(h:T AB)(ok:AV->Bool):K8 (.bool true) false k xs h ok K1=K1 .undef:=id rfl
@[simp] theorem grd_ft(k:av)(xs:List AV)(h:T AB)(ok:AV->Bool):K8 (.bool false) true k xs h ok K1=K1 .undef:=id rfl
@[simp] theorem grd_un(b:Bool)(k:av)(xs:List AV)(h:T AB)(ok:AV->Bool):K8 .undef b k xs h ok K1=K1 .undef:=id rfl
@[simp] theorem afZ(b:Bool):K9 (.bool b) b A B=A:=by cases b<;>exact id rfl
@[simp] theorem wnt_tf:K9 (.bool true) false A B=B:=id rfl
@[simp] theorem wnt_ft:K9 (.bool false) true A B=B:=id rfl
@[simp] theorem wnt_un(b:Bool):K9 .undef b A B=B:=id rfl
theorem Bq{k:av}{xs:List AV}{o:Option AV}(h:∀H n,k.run H n xs=o.map .val)(st:St):ak c k xs st K=sP o λv=>K v st:=by unfold ak bS;rw[h];cases o<;>rfl
theorem NM{k:av}{xs:List AV}{o:Option AV}(h:∀H n,k.run H n xs=o.map .val):dJ k xs K1=sP o K1:=by unfold dJ;rw[h];cases o<;>rfl
theorem aK{k:av}{xs:List AV}{v:AV}(h:∀H n,k.run H n xs=some (.val v))(st:St):ak c k xs st K=K v st:=by
 unfold ak bS;rw[h]
theorem bU{k:av}{xs:List AV}{v:AV}(h:∀H n,k.run H n xs=some (.val v)):dJ k xs K1=K1 v:=by
 unfold dJ;rw[h]
theorem fM(f:FuncId)(l:List AV)(st:St):ak c (.callF f) l st K=Ml (c f l st) K:=by unfold ak bS;show(match c f l st with|some (v,st')=>K v st'|none=>none)=_;cases c f l st<;>rfl
theorem IL(f:FuncId)(l u v:List AV)(st:St):ak c .callV (.func f u v::l) st K=Ml (c f (u++(l++v)) st) K:=by unfold ak bS;show(match c f (u++(l++v)) st with|some (v,st')=>K v st'|none=>none)=_;cases c f (u++(l++v)) st<;>rfl
attribute [simp] fM IL
end
def cellsOf:Option AB->Option (List AV)
 |some (.cells cs _)=>some cs
 |some (.typed _ cs)=>some cs
 |_=>none
@[simp] theorem aed(t:TypeId)(cs:List AV):cellsOf (some (.typed t cs))=some cs:=id rfl
@[simp] theorem aQ(cs:List AV)(f:Nat):cellsOf (some (.cells cs f))=some cs:=id rfl
def ro(es:Nat)(z:Bool)(rs:List (List AV)):AV:=match z,rs with
 |true,[]=>.af
 |_,rs=>.fl rs es
theorem V6{es:Nat}{z:Bool}{rs:List (List AV)}(h:rs≠[]):ro es z rs= .fl rs es:=by
 unfold ro;split
 .exact absurd rfl h
 .rfl
theorem run_move(H:Pos->Option AB)(n:Pos)(x:AV):av.run H n .move [x]=some (.val x):=rfl
@[simp] theorem aC{R:Type}(c:ai)(K:AV->St->Option R)(st:St)(x:AV):ak c .move [x] st K=K x st:=aK c K (λH n=>run_move H n x) st
@[simp] theorem cZ{R:Type}(K:AV->Option R)(x:AV):dJ .move [x] K=K x:=bU K (λH n=>run_move H n x)
theorem NN(H:Pos->Option AB)(n:Pos)(x y:AV):av.run H n .pick [.bool true,x,y]=some (.val x):=rfl
@[simp] theorem Ga{R:Type}(c:ai)(K:AV->St->Option R)(st:St)(x y:AV):ak c .pick [.bool true,x,y] st K=K x st:=aK c K (λH n=>NN H n x y) st
@[simp] theorem afd{R:Type}(K:AV->Option R)(x y:AV):dJ .pick [.bool true,x,y] K=K x:=bU K (λH n=>NN H n x y)
theorem NO(H:Pos->Option AB)(n:Pos)(x y:AV):av.run H n .pick [.bool false,x,y]=some (.val y):=rfl
@[simp] theorem NP{R:Type}(c:ai)(K:AV->St->Option R)(st:St)(x y:AV):ak c .pick [.bool false,x,y] st K=K y st:=aK c K (λH n=>NO H n x y) st
@[simp] theorem afe{R:Type}(K:AV->Option R)(x y:AV):dJ .pick [.bool false,x,y] K=K y:=bU K (λH n=>NO H n x y)
theorem V8(H:Pos->Option AB)(n:Pos)(p:Bool):av.run H n (.un .not) [.bool p]=some (.val (.bool (!p))):=rfl
@[simp] theorem rQ{R:Type}(c:ai)(K:AV->St->Option R)(st:St)(p:Bool):ak c (.un .not) [.bool p] st K=K (.bool (!p)) st:=aK c K (λH n=>V8 H n p) st
@[simp] theorem af0{R:Type}(K:AV->Option R)(p:Bool):dJ (.un .not) [.bool p] K=K (.bool (!p)):=bU K (λH n=>V8 H n p)
theorem V9(H:Pos->Option AB)(n:Pos)(q:ew)(k:IntKind)(a b:Int):av.run H n (.bin .lss q) [.int k a,.int k b]=some (.val (.bool (decide (a<b)))):=by simp[av.run,gI,lC,cH,jG,dN,ig,fu]
@[simp] theorem eJ{R:Type}(c:ai)(K:AV->St->Option R)(st:St)(q:ew)(k:IntKind)(a b:Int):ak c (.bin .lss q) [.int k a,.int k b] st K=K (.bool (decide (a<b))) st:=aK c K (λH n=>V9 H n q k a b) st
@[simp] theorem Wa{R:Type}(K:AV->Option R)(q:ew)(k:IntKind)(a b:Int):dJ (.bin .lss q) [.int k a,.int k b] K=K (.bool (decide (a<b))):=bU K (λH n=>V9 H n q k a b)
theorem Wb(H:Pos->Option AB)(n:Pos)(q:ew)(k:IntKind)(a b:Int):av.run H n (.bin .leq q) [.int k a,.int k b]=some (.val (.bool (decide (a<=b)))):=by simp[av.run,gI,lC,cH,jG,dN,ig,fu]
@[simp] theorem Wc{R:Type}(c:ai)(K:AV->St->Option R)(st:St)(q:ew)(k:IntKind)(a b:Int):ak c (.bin .leq q) [.int k a,.int k b] st K=K (.bool (decide (a<=b))) st:=aK c K (λH n=>Wb H n q k a b) st
@[simp] theorem af1{R:Type}(K:AV->Option R)(q:ew)(k:IntKind)(a b:Int):dJ (.bin .leq q) [.int k a,.int k b] K=K (.bool (decide (a<=b))):=bU K (λH n=>Wb H n q k a b)
theorem Wd(H:Pos->Option AB)(n:Pos)(q:ew)(k:IntKind)(a b:Int):av.run H n (.bin .gtr q) [.int k a,.int k b]=some (.val (.bool (decide (b<a)))):=by simp[av.run,gI,lC,cH,jG,dN,ig,fu]
@[simp] theorem We{R:Type}(c:ai)(K:AV->St->Option R)(st:St)(q:ew)(k:IntKind)(a b:Int):ak c (.bin .gtr q) [.int k a,.int k b] st K=K (.bool (decide (b<a))) st:=aK c K (λH n=>Wd H n q k a b) st
@[simp] theorem af2{R:Type}(K:AV->Option R)(q:ew)(k:IntKind)(a b:Int):dJ (.bin .gtr q) [.int k a,.int k b] K=K (.bool (decide (b<a))):=bU K (λH n=>Wd H n q k a b)
theorem Wg(H:Pos->Option AB)(n:Pos)(q:ew)(k:IntKind)(a b:Int):av.run H n (.bin .geq q) [.int k a,.int k b]=some (.val (.bool (decide (b<=a)))):=by simp[av.run,gI,lC,cH,jG,dN,ig,fu]
@[simp] theorem AH{R:Type}(c:ai)(K:AV->St->Option R)(st:St)(q:ew)(k:IntKind)(a b:Int):ak c (.bin .geq q) [.int k a,.int k b] st K=K (.bool (decide (b<=a))) st:=aK c K (λH n=>Wg H n q k a b) st
@[simp] theorem af3{R:Type}(K:AV->Option R)(q:ew)(k:IntKind)(a b:Int):dJ (.bin .geq q) [.int k a,.int k b] K=K (.bool (decide (b<=a))):=bU K (λH n=>Wg H n q k a b)
theorem Wh(H:Pos->Option AB)(n:Pos)(q:ew)(k:IntKind)(a b:Int):av.run H n (.bin .eql q) [.int k a,.int k b]=some (.val (.bool (decide (a=b)))):=by simp[av.run,gI,lC,cH,jG,dN,ig,fu]
@[simp] theorem fe{R:Type}(c:ai)(K:AV->St->Option R)(st:St)(q:ew)(k:IntKind)(a b:Int):ak c (.bin .eql q) [.int k a,.int k b] st K=K (.bool (decide (a=b))) st:=aK c K (λH n=>Wh H n q k a b) st
@[simp] theorem af4{R:Type}(K:AV->Option R)(q:ew)(k:IntKind)(a b:Int):dJ (.bin .eql q) [.int k a,.int k b] K=K (.bool (decide (a=b))):=bU K (λH n=>Wh H n q k a b)
theorem Wi(H:Pos->Option AB)(n:Pos)(q:ew)(k:IntKind)(a b:Int):av.run H n (.bin .neq q) [.int k a,.int k b]=some (.val (.bool (!decide (a=b)))):=by simp[av.run,gI,lC,cH,jG,dN,ig,fu]
@[simp] theorem Wj{R:Type}(c:ai)(K:AV->St->Option R)(st:St)(q:ew)(k:IntKind)(a b:Int):ak c (.bin .neq q) [.int k a,.int k b] st K=K (.bool (!decide (a=b))) st:=aK c K (λH n=>Wi H n q k a b) st
@[simp] theorem af5{R:Type}(K:AV->Option R)(q:ew)(k:IntKind)(a b:Int):dJ (.bin .neq q) [.int k a,.int k b] K=K (.bool (!decide (a=b))):=bU K (λH n=>Wi H n q k a b)
theorem Wk(H:Pos->Option AB)(n:Pos)(q:ew)(k:IntKind)(a b:Int):av.run H n (.bin .add q) [.int k a,.int k b]=some (.val (.int k (aq k (a+b)))):=by simp[av.run,gI,lC,cH,jG,dN,ig,fu]
@[simp] theorem iA{R:Type}(c:ai)(K:AV->St->Option R)(st:St)(q:ew)(k:IntKind)(a b:Int):ak c (.bin .add q) [.int k a,.int k b] st K=K (.int k (aq k (a+b))) st:=aK c K (λH n=>Wk H n q k a b) st
@[simp] theorem adm{R:Type}(K:AV->Option R)(q:ew)(k:IntKind)(a b:Int):dJ (.bin .add q) [.int k a,.int k b] K=K (.int k (aq k (a+b))):=bU K (λH n=>Wk H n q k a b)
theorem Wl(H:Pos->Option AB)(n:Pos)(q:ew)(k:IntKind)(a b:Int):av.run H n (.bin .sub q) [.int k a,.int k b]=some (.val (.int k (aq k (a - b)))):=by simp[av.run,gI,lC,cH,jG,dN,ig,fu]
@[simp] theorem xU{R:Type}(c:ai)(K:AV->St->Option R)(st:St)(q:ew)(k:IntKind)(a b:Int):ak c (.bin .sub q) [.int k a,.int k b] st K=K (.int k (aq k (a - b))) st:=aK c K (λH n=>Wl H n q k a b) st
@[simp] theorem af6{R:Type}(K:AV->Option R)(q:ew)(k:IntKind)(a b:Int):dJ (.bin .sub q) [.int k a,.int k b] K=K (.int k (aq k (a - b))):=bU K (λH n=>Wl H n q k a b)
theorem adn(H:Pos->Option AB)(n:Pos)(q:ew)(k:IntKind)(a b:Int):av.run H n (.bin .mul q) [.int k a,.int k b]=some (.val (.int k (aq k (a*b)))):=by simp[av.run,gI,lC,cH,jG,dN,ig,fu]
@[simp] theorem Kf{R:Type}(c:ai)(K:AV->St->Option R)(st:St)(q:ew)(k:IntKind)(a b:Int):ak c (.bin .mul q) [.int k a,.int k b] st K=K (.int k (aq k (a*b))) st:=aK c K (λH n=>adn H n q k a b) st
theorem Te(H:Pos->Option AB)(n:Pos)(q:ew)(s t:List Nat):av.run H n (.bin .eql q) [.str s,.str t]=some (.val (.bool (decide (s=t)))):=by simp[av.run,gI,lC,cH,jG,dN,ig,fu]
@[simp] theorem afH{R:Type}(c:ai)(K:AV->St->Option R)(st:St)(q:ew)(s t:List Nat):ak c (.bin .eql q) [.str s,.str t] st K=K (.bool (decide (s=t))) st:=aK c K (λH n=>Te H n q s t) st
@[simp] theorem afI{R:Type}(K:AV->Option R)(q:ew)(s t:List Nat):dJ (.bin .eql q) [.str s,.str t] K=K (.bool (decide (s=t))):=bU K (λH n=>Te H n q s t)
theorem Tf(H:Pos->Option AB)(n:Pos)(q:ew)(s t:List Nat):av.run H n (.bin .neq q) [.str s,.str t]=some (.val (.bool (!decide (s=t)))):=by simp[av.run,gI,lC,cH,jG,dN,ig,fu]
@[simp] theorem afJ{R:Type}(c:ai)(K:AV->St->Option R)(st:St)(q:ew)(s t:List Nat):ak c (.bin .neq q) [.str s,.str t] st K=K (.bool (!decide (s=t))) st:=aK c K (λH n=>Tf H n q s t) st
@[simp] theorem abv{R:Type}(K:AV->Option R)(q:ew)(s t:List Nat):dJ (.bin .neq q) [.str s,.str t] K=K (.bool (!decide (s=t))):=bU K (λH n=>Tf H n q s t)
theorem Tg(H:Pos->Option AB)(n:Pos)(q:ew)(s t:List Nat):av.run H n (.bin .lss q) [.str s,.str t]=some (.val (.bool (ay s t))):=by simp[av.run,gI,lC,cH,jG,dN,ig,fu]
@[simp] theorem afK{R:Type}(c:ai)(K:AV->St->Option R)(st:St)(q:ew)(s t:List Nat):ak c (.bin .lss q) [.str s,.str t] st K=K (.bool (ay s t)) st:=aK c K (λH n=>Tg H n q s t) st
@[simp] theorem afL{R:Type}(K:AV->Option R)(q:ew)(s t:List Nat):dJ (.bin .lss q) [.str s,.str t] K=K (.bool (ay s t)):=bU K (λH n=>Tg H n q s t)
theorem abw(H:Pos->Option AB)(n:Pos)(q:ew)(s t:List Nat):av.run H n (.bin .leq q) [.str s,.str t]=some (.val (.bool (ay s t||decide (s=t)))):=by simp[av.run,gI,lC,cH,jG,dN,ig,fu]
@[simp] theorem afM{R:Type}(K:AV->Option R)(q:ew)(s t:List Nat):dJ (.bin .leq q) [.str s,.str t] K=K (.bool (ay s t||decide (s=t))):=bU K (λH n=>abw H n q s t)
theorem Th(H:Pos->Option AB)(n:Pos)(q:ew)(s t:List Nat):av.run H n (.bin .geq q) [.str s,.str t]=some (.val (.bool (!ay s t))):=by simp[av.run,gI,lC,cH,jG,dN,ig,fu]
@[simp] theorem afN{R:Type}(c:ai)(K:AV->St->Option R)(st:St)(q:ew)(s t:List Nat):ak c (.bin .geq q) [.str s,.str t] st K=K (.bool (!ay s t)) st:=aK c K (λH n=>Th H n q s t) st
@[simp] theorem afO{R:Type}(K:AV->Option R)(q:ew)(s t:List Nat):dJ (.bin .geq q) [.str s,.str t] K=K (.bool (!ay s t)):=bU K (λH n=>Th H n q s t)
theorem abx(H:Pos->Option AB)(n:Pos)(p r:Bool):av.run H n (.bin .neq .bool) [.bool p,.bool r]=some (.val (.bool (!(p==r)))):=rfl
@[simp] theorem afP{R:Type}(c:ai)(K:AV->St->Option R)(st:St)(p r:Bool):ak c (.bin .neq .bool) [.bool p,.bool r] st K=K (.bool (!(p==r))) st:=aK c K (λH n=>abx H n p r) st
theorem aby(H:Pos->Option AB)(n:Pos)(s:List Nat):av.run H n (.lenB .s) [.str s]=some (.val (.int .i64 (s.length:Int))):=rfl
@[simp] theorem afQ{R:Type}(c:ai)(K:AV->St->Option R)(st:St)(s:List Nat):ak c (.lenB .s) [.str s] st K=K (.int .i64 (s.length:Int)) st:=aK c K (λH n=>aby H n s) st
theorem Ti(H:Pos->Option AB)(n:Pos)(es:Nat)(z:Bool)(rs:List (List AV)):av.run H n (.lenB .l) [ro es z rs]=some (.val (.int .i64 (rs.length:Int))):=by unfold ro;split<;>rfl
@[simp] theorem kJ{R:Type}(c:ai)(K:AV->St->Option R)(st:St)(es:Nat)(z:Bool)(rs:List (List AV)):ak c (.lenB .l) [ro es z rs] st K=K (.int .i64 (rs.length:Int)) st:=aK c K (λH n=>Ti H n es z rs) st
@[simp] theorem Tj{R:Type}(K:AV->Option R)(es:Nat)(z:Bool)(rs:List (List AV)):dJ (.lenB .l) [ro es z rs] K=K (.int .i64 (rs.length:Int)):=bU K (λH n=>Ti H n es z rs)
theorem Tk(H:Pos->Option AB)(n:Pos)(k k2:IntKind)(a:Int):av.run H n (.conv (.int k)) [.int k2 a]=some (.val (.int k (aq k a))):=rfl
@[simp] theorem Mm{R:Type}(c:ai)(K:AV->St->Option R)(st:St)(k k2:IntKind)(a:Int):ak c (.conv (.int k)) [.int k2 a] st K=K (.int k (aq k a)) st:=aK c K (λH n=>Tk H n k k2 a) st
@[simp] theorem afR{R:Type}(K:AV->Option R)(k k2:IntKind)(a:Int):dJ (.conv (.int k)) [.int k2 a] K=K (.int k (aq k a)):=bU K (λH n=>Tk H n k k2 a)
theorem abz(H:Pos->Option AB)(n:Pos)(k:IntKind)(s:List Nat)(i:Nat):av.run H n .idxS [.str s,.int k (i:Int)]=((s[i]?.map λc=>.int .u8 (c:Int)):Option AV).map .val:=by simp only[av.run,J3,fO,kN];cases s[i]? <;>rfl
@[simp] theorem afS{R:Type}(c:ai)(K:AV->St->Option R)(st:St)(k:IntKind)(s:List Nat)(i:Nat):ak c .idxS [.str s,.int k (i:Int)] st K=sP (s[i]?.map λc=>.int .u8 (c:Int)) λv=>K v st:=Bq c K (λH n=>abz H n k s i) st
theorem IM(H:Pos->Option AB)(n:Pos)(off:Nat)(p:Pos)(o:Nat):av.run H n (.fieldA off) [.ptr p o]=some (.val (.ptr p (o+off))):=rfl
@[simp] theorem cC{R:Type}(c:ai)(K:AV->St->Option R)(st:St)(off:Nat)(p:Pos)(o:Nat):ak c (.fieldA off) [.ptr p o] st K=K (.ptr p (o+off)) st:=aK c K (λH n=>IM H n off p o) st
@[simp] theorem bn{R:Type}(K:AV->Option R)(off:Nat)(p:Pos)(o:Nat):dJ (.fieldA off) [.ptr p o] K=K (.ptr p (o+off)):=bU K (λH n=>IM H n off p o)
theorem IN(H:Pos->Option AB)(n:Pos)(off:Nat)(xs:List (List AV))(i j:Nat):av.run H n (.fieldA off) [.fp xs i j]=some (.val (.fp xs i (j+off))):=rfl
@[simp] theorem aeo{R:Type}(c:ai)(K:AV->St->Option R)(st:St)(off:Nat)(xs:List (List AV))(i j:Nat):ak c (.fieldA off) [.fp xs i j] st K=K (.fp xs i (j+off)) st:=aK c K (λH n=>IN H n off xs i j) st
@[simp] theorem aep{R:Type}(K:AV->Option R)(off:Nat)(xs:List (List AV))(i j:Nat):dJ (.fieldA off) [.fp xs i j] K=K (.fp xs i (j+off)):=bU K (λH n=>IN H n off xs i j)
theorem Lc(H:Pos->Option AB)(n:Pos)(i:Nat)(l:List AV):av.run H n (.extract i) [.tuple l]=(l[i]? :Option AV).map .val:=by simp only[av.run,Ah,kN];cases l[i]? <;>rfl
@[simp] theorem yw{R:Type}(c:ai)(K:AV->St->Option R)(st:St)(i:Nat)(l:List AV):ak c (.extract i) [.tuple l] st K=sP l[i]? λv=>K v st:=Bq c K (λH n=>Lc H n i l) st
@[simp] theorem aeR{R:Type}(K:AV->Option R)(i:Nat)(l:List AV):dJ (.extract i) [.tuple l] K=sP l[i]? K:=NM K (λH n=>Lc H n i l)
theorem El(H:Pos->Option AB)(n:Pos)(p:Pos)(o:Nat):av.run H n .nilCheck [.ptr p o]=some (.val (.ptr p o)):=rfl
@[simp] theorem rR{R:Type}(c:ai)(K:AV->St->Option R)(st:St)(p:Pos)(o:Nat):ak c .nilCheck [.ptr p o] st K=K (.ptr p o) st:=aK c K (λH n=>El H n p o) st
@[simp] theorem ado{R:Type}(K:AV->Option R)(p:Pos)(o:Nat):dJ .nilCheck [.ptr p o] K=K (.ptr p o):=bU K (λH n=>El H n p o)
theorem Tl(H:Pos->Option AB)(n:Pos)(es:Nat)(z:Bool)(rs:List (List AV))(k:IntKind)(i:Nat):av.run H n (.idxA es none) [ro es z rs,.int k (i:Int)]=((if i<rs.length then some (.fp rs i 0)else none):Option AV).map .val:=by
 by_cases h:i<rs.length
 .rw[V6 (by intro e;subst e;simp at h)];simp[av.run,nG,fO,Ap,cQ,h]
 . unfold ro;split
   .rfl
   .simp[av.run,nG,fO,Ap,cQ,h]
@[simp] theorem Tm{R:Type}(c:ai)(K:AV->St->Option R)(st:St)(es:Nat)(z:Bool)(rs:List (List AV))(k:IntKind)(i:Nat):ak c (.idxA es none) [ro es z rs,.int k (i:Int)] st K=sP (if i<rs.length then some (.fp rs i 0)else none) λv=>K v st:=Bq c K (λH n=>Tl H n es z rs k i) st
@[simp] theorem abA{R:Type}(K:AV->Option R)(es:Nat)(z:Bool)(rs:List (List AV))(k:IntKind)(i:Nat):dJ (.idxA es none) [ro es z rs,.int k (i:Int)] K=sP (if i<rs.length then some (.fp rs i 0)else none) K:=NM K (λH n=>Tl H n es z rs k i)
theorem QM(H:Pos->Option AB)(n:Pos)(es:Nat)(z:Bool)(rs:List (List AV))(k:IntKind)(i:Nat):av.run H n (.sliceL es false true false) [ro es z rs,.int k (i:Int)]=((if i<=rs.length then some (ro es (z&&rs.isEmpty) (rs.take i))else none):Option AV).map .val:=by
 by_cases h:i<=rs.length
 . rw[  Za7 h];unfold ro;split
   .simp at h;subst h;rfl
   .rename_i hn;have:(z&&rs.isEmpty)=false:=(by cases z<;>cases rs<;>simp at hn ⊢);simp only[this];simp[av.run,iK,bounds,fO,di,cQ,h]
 . rw[Za5 h];unfold ro;split
   .simp only[av.run,iK,bounds,fO];have:¬i=0:=(by simp at h;omega);simp[cQ,this]
   .simp[av.run,iK,bounds,fO,di,cQ,h]
@[simp] theorem ZX{R:Type}(c:ai)(K:AV->St->Option R)(st:St)(es:Nat)(z:Bool)(rs:List (List AV))(k:IntKind)(i:Nat):ak c (.sliceL es false true false) [ro es z rs,.int k (i:Int)] st K=sP (if i<=rs.length then some (ro es (z&&rs.isEmpty) (rs.take i))else none) λv=>K v st:=Bq c K (λH n=>QM H n es z rs k i) st
@[simp] theorem ZY{R:Type}(K:AV->Option R)(es:Nat)(z:Bool)(rs:List (List AV))(k:IntKind)(i:Nat):dJ (.sliceL es false true false) [ro es z rs,.int k (i:Int)] K=sP (if i<=rs.length then some (ro es (z&&rs.isEmpty) (rs.take i))else none) K:=NM K (λH n=>QM H n es z rs k i)
section
variable{R:Type}(c:ai)(K:AV->St->Option R)(K1:AV->Option R)
theorem vN(H:Pos->Option AB)(n:Pos)(xs:List (List AV))(i j:Nat):av.run H n (.load none) [.fp xs i j]=(xs[i]?.bind λcs=>cs[j]?).map .val:=by
 simp only[av.run,rI,kN];cases xs[i]? with
 |none=>rfl
 |some cs=>simp only[Ze7];cases cs[j]? <;>rfl
theorem Dw(H:Pos->Option AB)(n:Pos)(m:Nat)(xs:List (List AV))(i j:Nat):av.run H n (.load (some m)) [.fp xs i j]=((xs[i]?.bind λcs=>cut cs j m).map .agg).map .val:=by
 simp only[av.run,rI,kN];cases xs[i]? with
 |none=>rfl
 |some cs=>simp only[Ze7];cases cut cs j m<;>rfl
theorem rS (H:Pos->Option AB)(n:Pos)(p:Pos)(o:Nat):av.run H n (.load none) [.ptr p o]=((cellsOf (H p)).bind λcs=>cs[o]?).map .val:=by
 simp only[av.run,rI,kN];cases H p with
 |none=>rfl
 |some x=>   cases x<;>simp only[cellsOf,Ze7,Option.bind_none]<;>try rfl
             all_goals first|(rename_i cs _;cases cs[o]? <;>rfl)|(rename_i _ cs;cases cs[o]? <;>rfl)
theorem yx (H:Pos->Option AB)(n:Pos)(m:Nat)(p:Pos)(o:Nat):av.run H n (.load (some m)) [.ptr p o]=(((cellsOf (H p)).bind λcs=>cut cs o m).map .agg).map .val:=by
 simp only[av.run,rI];cases H p with
 |none=>rfl
 |some x=>   cases x<;>simp only[cellsOf,Ze7,Option.bind_none]<;>try rfl
             all_goals first|(rename_i cs _;cases cut cs o m<;>rfl)|(rename_i _ cs;cases cut cs o m<;>rfl)
@[simp] theorem aff(st:St)(xs:List (List AV))(i j:Nat):ak c (.load none) [.fp xs i j] st K=sP (xs[i]?.bind λcs=>cs[j]?) λv=>K v st:=Bq c K (λH n=>vN H n xs i j) st
@[simp] theorem aeS(st:St)(m:Nat)(xs:List (List AV))(i j:Nat):ak c (.load (some m)) [.fp xs i j] st K=zm (xs[i]?.bind λcs=>cut cs j m) λl=>K (.agg l) st:=by rw[Bq c K (λH n=>Dw H n m xs i j) st];cases(xs[i]?.bind λcs=>cut cs j m)<;>rfl
@[simp] theorem iG(st:St)(p:Pos)(o:Nat):ak c (.load none) [.ptr p o] st K=sP ((cellsOf (st.heap.get p)).bind λcs=>cs[o]?) λv=>K v st:=by unfold ak bS;rw[rS];cases((cellsOf (st.heap.get p)).bind λcs=>cs[o]?)<;>rfl
@[simp] theorem yy(st:St)(m:Nat)(p:Pos)(o:Nat):ak c (.load (some m)) [.ptr p o] st K=zm ((cellsOf (st.heap.get p)).bind λcs=>cut cs o m) λl=>K (.agg l) st:=by unfold ak bS;rw[yx];cases((cellsOf (st.heap.get p)).bind λcs=>cut cs o m)<;>rfl
@[simp] theorem afg(h:T AB)(xs:List (List AV))(i j:Nat):kR (.load none) [.fp xs i j] h (λ_=>true) K1=sP (xs[i]?.bind λcs=>cs[j]?) K1:=by unfold kR;rw[vN,vN];cases hx:(xs[i]?.bind λcs=>cs[j]?)<;>rfl
@[simp] theorem aeT(h:T AB)(m:Nat)(xs:List (List AV))(i j:Nat):kR (.load (some m)) [.fp xs i j] h (λ_=>true) K1=zm (xs[i]?.bind λcs=>cut cs j m) λl=>K1 (.agg l):=by unfold kR;rw[Dw,Dw];cases hx:(xs[i]?.bind λcs=>cut cs j m)<;>rfl
@[simp] theorem aeU(st:St)(f:FuncId)(xs:List AV):ak c (.mkFunc f 0) xs st K=K (.func f [] xs) st:=aK c K (λH n=>by simp[av.run,Cn,di]) st
@[simp] theorem oK(h:T AB)(p:Pos)(o:Nat):kR (.load none) [.ptr p o] h (λ_=>true) K1=sP ((cellsOf (h.get p)).bind λcs=>cs[o]?) K1:=by unfold kR;rw[rS,rS];show(match ((cellsOf (h.get p)).bind λcs=>cs[o]?).map cq.val with|some (.val v)=>_|_=>_)=_;cases((cellsOf (h.get p)).bind λcs=>cs[o]?)<;>rfl
@[simp] theorem Dx(h:T AB)(m:Nat)(p:Pos)(o:Nat):kR (.load (some m)) [.ptr p o] h (λ_=>true) K1=zm ((cellsOf (h.get p)).bind λcs=>cut cs o m) λl=>K1 (.agg l):=by unfold kR;rw[yx,yx];show(match (((cellsOf (h.get p)).bind λcs=>cut cs o m).map AV.agg).map cq.val with|some (.val v)=>_|_=>_)=_;cases((cellsOf (h.get p)).bind λcs=>cut cs o m)<;>rfl
theorem run_build(H:Pos->Option AB)(n:Pos)(z:List AV)(ps:List (Nat×Nat))(xs:List AV):av.run H n (.build z ps) xs=((cj z ps xs).map .agg).map .val:=by simp only[av.run,Fq];cases cj z ps xs<;>rfl
@[simp] theorem iw(st:St)(z:List AV)(ps:List (Nat×Nat))(xs:List AV):ak c (.build z ps) xs st K=zm (cj z ps xs) λl=>K (.agg l) st:=by rw[Bq c K (λH n=>run_build H n z ps xs) st];cases cj z ps xs<;>rfl
@[simp] theorem yO(z:List AV)(ps:List (Nat×Nat))(xs:List AV):dJ (.build z ps) xs K1=zm (cj z ps xs) λl=>K1 (.agg l):=by rw[NM K1 (λH n=>run_build H n z ps xs)];cases cj z ps xs<;>rfl
theorem bV{α:Type}{l:List α}{m:Nat}(h:l.length=m):cut l 0 m=some l:=by
 unfold cut;rw[di,Za0 (by omega)];simp only[Ze3];rw[Zf3 (by omega)]
end
end Go.Ai
namespace Go.Ai
open Go
def Wf(st:St):Prop:=∀p x,st.heap.get p=some x->p.toNat<st.next.toNat
theorem cN(st:St)(b:AB):(ah st b).next=st.next.succ:=id rfl
@[simp] theorem bK{st:St}{b:AB}(h:Wf st):Wf (ah st b):=λp x hp=>by
  rw[cN,Pos.az];by_cases e:st.next=p
  .subst e;omega
  .have:=h p x (by rwa [ah,T.bw _ e]at hp);omega
@[simp] theorem aD(st:St)(b:AB):(ah st b).heap.get st.next=some b:=T.eH _ _ _
theorem pS{st:St}{b:AB}{p:Pos}(h:p.toNat<st.next.toNat):(ah st b).heap.get p=st.heap.get p:=by
 rw[ah,T.bw _ (by intro e;subst e;omega)]
@[simp] theorem vO{st:St}{a b:AB}:(ah (ah st a) b).heap.get st.next=some a:=by
  rw[pS (by rw[cN,Pos.az];omega),aD]
theorem cw{st:St}{b:AB}(h:Wf st):bt st (ah st b):=λp x hp=>by rw[pS (h p x hp)];exact hp
theorem aG{st st':St}{v:AV}(hv:Plain v)(hk:bt st st'):tidy st (v,st')=(v,st):=by
 unfold tidy;rw[Za7 ⟨hv,hk⟩]
section
variable{R:Type}(c:ai)(K:AV->St->Option R)
@[simp] theorem pT(x:AV)(st:St):ak c .box [x] st K=K (.ptr st.next 0) (ah st (.cells x.cells 0)):=id rfl
@[simp] theorem iO(l:List AV)(st:St):ak c (.alloc l) [] st K=K (.ptr st.next 0) (ah st (.cells l 0)):=id rfl
end
theorem T.uv{α:Type}(x y:Option α):∀(p:Pos)(t:T α),T.put x p (T.put y p t)=T.put x p t
 |.h,.e=>rfl
 |.h,.n _ _ _=>rfl
 |.o p,.e=>by simp only[T.put];rw[T.uv x y p]
 |.o p,.n _ _ _=>by simp only[T.put];rw[T.uv x y p]
 |.i p,.e=>by simp only[T.put];rw[T.uv x y p]
 |.i p,.n _ _ _=>by simp only[T.put];rw[T.uv x y p]
def b9(st:St)(p:Pos)(b:AB):St:={ heap:=st.heap.put (some b) p,next:=st.next }
@[simp] theorem Br(st:St)(p:Pos)(b:AB):(b9 st p b).next=st.next:=id rfl
@[simp] theorem dx(st:St)(p:Pos)(b:AB):(b9 st p b).heap.get p=some b:=T.eH _ _ _
theorem bk{st:St}{p q:Pos}{b:AB}(h:p≠q):(b9 st p b).heap.get q=st.heap.get q:=T.bw _ h _
@[simp] theorem Pa(st:St)(a b:AB):b9 (ah st a) st.next b=ah st b:=by
  unfold b9 ah;simp only[T.uv]
@[simp] theorem adp(st:St)(p:Pos)(a b:AB):b9 (b9 st p a) p b=b9 st p b:=by
  unfold b9;simp only[T.uv]
theorem Pos.Pb(p:Pos):p≠p.succ:=λe=>by have:=congrArg Pos.toNat e;rw[Pos.az]at this;omega
theorem dh{R:Type}(c:ai)(K:AV->St->Option R)(st:St)(m:Nat)(p:Pos)(o:Nat)(v:AV)(cs:List AV)(h:st.heap.get p=some (.cells cs 0))(h1:v.cells.length=m)(h2:o+m<=cs.length)(h3:aL v.cells=true):
  ak c (.store m) [.ptr p o,v] st K=K .undef (b9 st p (.cells (aF cs o v.cells) 0)):=by
 have:av.run (λb=>st.heap.get b) st.next (.store m) [.ptr p o,v]=some (.aH .undef none (some (p,.cells (aF cs o v.cells) 0)) none):=by
  simp[av.run,AZ,h,h1,h2,h3,cQ,di]
 unfold ak bS;rw[this];rfl
@[simp] theorem dK{R:Type}(c:ai)(K:AV->St->Option R)(st:St)(m:Nat)(v:AV)(cs:List AV)(h1:v.cells.length=m)(h2:m=cs.length)(h3:aL v.cells=true):
   ak c (.store m) [.ptr st.next 0,v] (ah st (.cells cs 0)) K=K .undef (ah st (.cells v.cells 0)):=by
  rw[dh c K _ m st.next 0 v cs (aD _ _) h1 (by omega) h3,Pa];have:aF cs 0 v.cells=v.cells:=by unfold aF;rw[h1,h2];simp
  rw[this]
theorem afh{R:Type}(n:Option Nat)(p:Pos)(o:Nat)(st:St)(K:AV->Option R):Lb n (.ptr p o) st K=match n with
  |none=>sP ((cellsOf (st.heap.get p)).bind λcs=>cs[o]?) K
  |some m=>zm ((cellsOf (st.heap.get p)).bind λcs=>cut cs o m) λl=>K (.agg l):=by
 unfold Lb;cases n with
 |none=>rw[rS];simp only;cases((cellsOf (st.heap.get p)).bind λcs=>cs[o]?)<;>rfl
 |some m=>rw[yx];simp only;cases((cellsOf (st.heap.get p)).bind λcs=>cut cs o m)<;>rfl
@[simp] theorem Mn{R:Type}(m:Nat)(p:Pos)(o:Nat)(st:St)(K:AV->Option R):Lb (some m) (.ptr p o) st K=zm ((cellsOf (st.heap.get p)).bind λcs=>cut cs o m) λl=>K (.agg l):=afh (some m) p o st K
@[simp] theorem ZZ(es:Nat)(z:Bool)(rs:List (List AV)):(ro es z rs).one=true:=by unfold ro;split<;>rfl
@[simp] theorem Tn(es:Nat)(z:Bool)(rs:List (List AV)):(ro es z rs).cells=[ro es z rs]:=by unfold ro;split<;>rfl
structure Grew(s s':St):Prop where
 wf:Wf s'
 keeps:bt s s'
 next:s.next.toNat<=s'.next.toNat
theorem Grew.refl{s:St}(h:Wf s):Grew s s:=⟨h,bt.refl s,Za6 _⟩
theorem Grew.trans{a b c:St}(h:Grew a b)(k:Grew b c):Grew a c:=⟨k.wf,h.keeps.trans k.keeps,Zc8 h.next k.next⟩
theorem Grew.ah{s:St}(h:Wf s)(b:AB):Grew s (ah s b):=⟨bK h,cw h,by rw[cN,Pos.az];omega⟩
theorem Grew.get{s s':St}(h:Grew s s'){p:Pos}{x:AB}(hp:s.heap.get p=some x):s'.heap.get p=some x:=h.keeps p x hp
end Go.Ai
end
namespace Go.Ai
section
open Go
theorem Em{st:St}{p:Pos}{b:AB}(h:Wf st)(hp:p.toNat<st.next.toNat):Wf (b9 st p b):=λq x hq=>by
 rw[Br];by_cases e:p=q
 .subst e;exact hp
 .rw[bk e]at hq;exact h q x hq
def dst(st:St)(p:Pos)(b:AB):St:={ heap:=(st.heap.put none p).put (some b) st.next,next:=st.next.succ }
theorem abB(st:St)(p:Pos)(b:AB):(dst st p b).next=st.next.succ:=id rfl
theorem Pc(st:St)(p:Pos)(b:AB):(dst st p b).heap.get st.next=some b:=T.eH _ _ _
theorem NQ{st:St}{p q:Pos}{b:AB}(h:p≠q)(h2:q.toNat<st.next.toNat):(dst st p b).heap.get q=st.heap.get q:=by
 rw[dst,T.bw _ (by intro e;subst e;omega),T.bw _ h]
theorem Z0{st:St}{p:Pos}{b:AB}(h:Wf st):Wf (dst st p b):=λq x hq=>by
 rw[abB,Pos.az];by_cases e:st.next=q
 .subst e;omega
 . rw[dst,T.bw _ e]at hq;by_cases e2:p=q
   .subst e2;rw[T.eH]at hq;cases hq
   .rw[T.bw _ e2]at hq;have:=h q x hq;omega
theorem Wm{s s':St}{v:AV}{b:Pos}{x:AB}(h:s.heap.get b=some x)(h2:s'.heap.get b≠some x):tidy s (v,s')=(v,s'):=by
 unfold tidy;rw[Za5];exact λe=>h2 (e.2 b x h)
section
variable{R:Type}(c:ai)(K:AV->St->Option R)(K1:AV->Option R)
theorem NR(H:Pos->Option AB)(n:Pos)(es len:Nat)(z:List AV)(ps:List Nat)(xs:List AV):av.run H n (.buildSlice es len z ps) xs=(cj (bM z len) (ps.map λi=>(i*es,es)) xs).map λcs=>.aH (.slice n 0 len (some len) es) none none (some (.cells cs 0)):=by simp only[av.run,o9];cases cj (bM z len) (ps.map λi=>(i*es,es)) xs<;>rfl
@[simp] theorem bf(st:St)(es len:Nat)(z:List AV)(ps:List Nat)(xs:List AV):ak c (.buildSlice es len z ps) xs st K=zm (cj (bM z len) (ps.map λi=>(i*es,es)) xs) λcs=>K (.slice st.next 0 len (some len) es) (ah st (.cells cs 0)):=by unfold ak bS;rw[NR];cases cj (bM z len) (ps.map λi=>(i*es,es)) xs<;>rfl
@[simp] theorem vP(st:St)(es len:Nat)(z:List AV)(ps:List Nat)(xs:List AV)(K2:AV->AB->Option R):IF (.buildSlice es len z ps) xs st K2=zm (cj (bM z len) (ps.map λi=>(i*es,es)) xs) λcs=>K2 (.slice st.next 0 len (some len) es) (.cells cs 0):=by unfold IF;rw[NR];cases cj (bM z len) (ps.map λi=>(i*es,es)) xs<;>rfl
@[simp] theorem Z3(st:St):ak c .mkMap [] st K=K (.map st.next) (ah st (.map [] 0)):=id rfl
theorem To{st:St}{es bytes m:Nat}{x:AV}{new:List AV}(hm:cS x=some m)(h0:m≠0)(hb:(2*(0+m)+768)*bytes<=281474976710656)(hs:0+m<=9223372036854775807)(hx:cg es m (λb=>st.heap.get b) x=some new):
  ak c (.append es bytes) [.af,x] st K=K (.slice st.next 0 m none es) (ah st (.cells new 0)):=by
 have:av.run (λb=>st.heap.get b) st.next (.append es bytes) [.af,x]=some (.aH (.slice st.next 0 m none es) none none (some (.cells new 0))):=by
  simp only[av.run,eV];rw[show cS .af=some 0 from rfl,hm];simp only[di,cQ,Za0 hb,Za0 hs,Za2 h0,hx]
 unfold ak bS;rw[this];rfl
theorem adq{st:St}{es bytes m n:Nat}{p:Pos}{x:AV}{cs dL new:List AV}(hm:cS x=some m)(h0:m≠0)(hb:(2*(n+m)+768)*bytes<=281474976710656)(hs:n+m<=9223372036854775807)(hp:st.heap.get p=some (.cells cs 0))
  (ho:cg es n (λb=>st.heap.get b) (.slice p 0 n none es)=some dL) (hx:cg es m (λb=>st.heap.get b) x=some new) (h1:aL new=true):
  ak c (.append es bytes) [.slice p 0 n none es,x] st K=K (.slice st.next 0 (n+m) none es) (dst st p (.cells (dL++new) 0)):=by
 have:av.run (λb=>st.heap.get b) st.next (.append es bytes) [.slice p 0 n none es,x]=some (.aH (.slice st.next 0 (n+m) none es) (some p) none (some (.cells (dL++new) 0))):=by simp only[av.run,eV];rw[show cS (.slice p 0 n none es)=some n from rfl,hm];simp only[di,cQ,Za0 hb,Za0 hs,Za2 h0,hx,hp,ho,h1];simp
 unfold ak bS;rw[this];rfl
theorem Z4{st:St}{es bytes m:Nat}{p:Pos}{x:AV}{new:List AV}(hm:cS x=some m)(h0:m≠0)(hb:(2*(0+m)+768)*bytes<=281474976710656)(hs:0+m<=9223372036854775807)(hx:cg es m (λb=>st.heap.get b) x=some new):
  ak c (.append es bytes) [.slice p 0 0 (some 0) es,x] st K=K (.slice st.next 0 m none es) (ah st (.cells new 0)):=by
 have:av.run (λb=>st.heap.get b) st.next (.append es bytes) [.slice p 0 0 (some 0) es,x]=some (.aH (.slice st.next 0 m none es) none none (some (.cells new 0))):=by
  have h2:¬(0+m<=0):=by omega
  have ho:cg es 0 (λb=>st.heap.get b) (.slice p 0 0 (some 0) es)=some []:=by simp[cg]
  simp only[av.run,eV];rw[show cS (.slice p 0 0 (some 0) es)=some 0 from rfl,hm];simp only[di,cQ,Za0 hb,Za0 hs,Za2 h0,Za2 h2,hx,ho];simp only[Zd9,Ze0]
 unfold ak bS;rw[this];rfl
theorem Tq{st:St}{es bytes:Nat}{p:Pos}{off n:Nat}{cp:Option Nat}{x:AV}(hm:cS x=some 0)(hb:(2*(n+0)+768)*bytes<=281474976710656)(hs:n+0<=9223372036854775807):
  ak c (.append es bytes) [.slice p off n cp es,x] st K=K (.slice p off n cp es) st:=by
 have:av.run (λb=>st.heap.get b) st.next (.append es bytes) [.slice p off n cp es,x]=some (.val (.slice p off n cp es)):=by
  simp only[av.run,eV];rw[show cS (.slice p off n cp es)=some n from rfl,hm];simp only[di,cQ,Za0 hb,Za0 hs]
 unfold ak bS;rw[this]
theorem QN(H:Pos->Option AB)(n:Pos)(z:AV)(m:Pos)(es:List (AV×AV×Nat))(cl:Nat)(k:AV)(h:H m=some (.map es cl))(r:Option (Nat×AV))(hf:jr .s k es 0=some r):
  av.run H n (.lookup .s z true) [.map m,k]=some (.val (match r with|some (_,v)=>.tuple [v,.bool true]|none=>.tuple [z,.bool false])):=by
 simp only[av.run,uG,h,hf];cases r with
 |none=>rfl
 |some p=>rfl
theorem CP(z:AV){st:St}{m:Pos}{es:List (AV×AV×Nat)}{cl:Nat}{k:AV}{r:Option (Nat×AV)}(h:st.heap.get m=some (.map es cl))(hf:jr .s k es 0=some r):
  ak c (.lookup .s z true) [.map m,k] st K=K (match r with|some (_,v)=>.tuple [v,.bool true]|none=>.tuple [z,.bool false]) st:=by
 unfold ak bS;rw[QN _ _ z m es cl k h r hf]
theorem QO(z:AV){h:T AB}{m:Pos}{es:List (AV×AV×Nat)}{cl:Nat}{k:AV}{r:Option (Nat×AV)}(hh:h.get m=some (.map es cl))(hf:jr .s k es 0=some r):
  kR (.lookup .s z true) [.map m,k] h (λ_=>true) K1=K1 (match r with|some (_,v)=>.tuple [v,.bool true]|none=>.tuple [z,.bool false]):=by
 unfold kR;have e:av.run (λ_=>none) .h (.lookup .s z true) [.map m,k]=none:=rfl;rw[e];simp only;rw[QN _ _ z m es cl k hh r hf]
theorem Vi{st:St}{m:Pos}{es:List (AV×AV×Nat)}{cl:Nat}{k:List Nat}{v:AV}(h:st.heap.get m=some (.map es cl))(hf:jr .s (.str k) es 0=some none):
  ak c (.mapSet .s) [.map m,.str k,v] st K=K .undef (b9 st m (.map (es++[(.str k,v,cl)]) (cl+1))):=by
 have:av.run (λb=>st.heap.get b) st.next (.mapSet .s) [.map m,.str k,v]=some (.aH .undef none (some (m,.map (es++[(.str k,v,cl)]) (cl+1))) none):=by
  simp[av.run,uH,h,hf,Xm]
 unfold ak bS;rw[this];rfl
theorem uR{p:Pos}{o:Nat}{h h2:T AB}{v:AV}(hv:((cellsOf (h.get p)).bind λcs=>cs[o]?)=some v)(Il:((cellsOf (h2.get p)).bind λcs=>cs[o]?)=some v)(hb:fj v v=true):
  kR (.load none) [.ptr p o] h (λv=>pP (.load none) [.ptr p o] v (vu [] h2)&&true) K1=K1 v:=by
 unfold kR;have e:av.run (λ_=>none) .h (.load none) [.ptr p o]=none:=rfl;rw[e];simp only;rw[rS,hv];simp only[Ze8];have:pP (.load none) [.ptr p o] v (vu [] h2)=true:=by unfold pP;show(match av.run (λb=>h2.get b) .h (.load none) [.ptr p o]with|some (.val u)=>fj u v|_=>false)=true;rw[rS,Il];exact hb
 rw[this];rfl
end
theorem xV{R:Type}(K1:AV->Option R){p:Pos}{o:Nat}{h h2:T AB}{v:AV}(hv:((cellsOf (h.get p)).bind λcs=>cs[o]?)=some v)(Il:((cellsOf (h2.get p)).bind λcs=>cs[o]?)=some v)(hb:fj v v=true):
  kR (.load none) [.ptr p o] h (λv=>pP (.load none) [.ptr p o] v (vu [] h2)) K1=K1 v:=by
 have:=uR K1 hv Il hb;simp only[Zk8]at this;exact this
theorem IP(p:Pos)(o n es:Nat):fj (.slice p o n none es) (.slice p o n none es)=true:=by
 simp[fj,kF,gy,Pos.beq_eq.2 rfl]
theorem Mo:fj .af .af=true:=rfl
inductive iH:Nat->AV->Prop
 |flat {d:Nat} {v:AV} (h:gy v v=true):iH d v
 |fl {d:Nat} {a:List (List AV)} {n:Nat} (h:∀r∈a,∀v∈r,iH d v):iH (d+1) (.fl a n)
theorem NT{f:AV->AV->Bool}:∀{a:List AV},(∀v∈a,f v v=true)->Cq f a a=true
 |[],_=>rfl
 |a::x,h=>by
  simp only[Cq,h a (by simp),NT (λv hv=>h v (Zb0 _ hv)),Zi8]
theorem IQ{f:AV->AV->Bool}:∀{a:List (List AV)},(∀r∈a,∀v∈r,f v v=true)->uI f a a=true
 |[],_=>rfl
 |a::x,h=>by
  simp only[uI,NT (h a (by simp)),IQ (λv hv=>h v (Zb0 _ hv)),Zi8]
theorem NU:∀{d:Nat}{v:AV},iH d v->Cr d v v=true
 |d,v,.flat h=>by
  unfold Cr;split
  .simp[gy]at h
  .exact h
 |d+1,.fl a n,.fl h=>by
  unfold Cr;simp[IQ (λr hr v hv=>NU (h r hr v hv))]
theorem iH.ro{d es:Nat}{z:Bool}{rs:List (List AV)}(h:∀r∈rs,∀v∈r,iH d v):iH (d+1) (ro es z rs):=by
 unfold Go.Ai.ro;split
 .exact .flat rfl
 .exact .fl h
theorem Z5{v:AV}(h:iH 3 v):fj v v=true:=by
 have h3:=NU h;cases h with
 |flat h=>
  cases v<;>simp[gy]at h<;>first|simp[fj,kF,gy,h]|skip
  all_goals simp_all [fj,kF,gy]
 |fl h=>exact h3
theorem iH.int{d:Nat}(k:IntKind)(n:Int):iH d (.int k n):= .flat (by simp[gy,j7,cH])
theorem iH.str{d:Nat}(s:List Nat):iH d (.str s):= .flat (by simp[gy,kj])
theorem iH.bool{d:Nat}(s:Bool):iH d (.bool s):= .flat (by simp[gy])
end
section
open Go
section
variable{H:Type}(enc:TypeId×Value->H)(P:Program)(w:World)(base:Nat)(spare:Nat->Bool)(held:Bool)
def mK(t:TypeId)(Q:List AV->Prop):Prop:=
 ∀  (fuel:Nat)(cs:List Value)(x:DataW H×List MemPlace),DataW.trod enc P w base spare held fuel t cs=some x->
    ∃as,Q as/\∀ρ n,au ρ n (λad=>w.cell? ad) as cs
variable{enc P w base spare held}
theorem mK.mono{t:TypeId}{Q Q':List AV->Prop}(h:mK enc P w base spare held t Q)(k:∀as,Q as->Q' as):mK enc P w base spare held t Q':=
 λfuel cs x hx=>by obtain⟨as,h1,h2⟩:=h fuel cs x hx;exact⟨as,k _ h1,h2⟩
theorem QT{t:TypeId}{k:IntKind}(ht:P.underlying t=some (.int k)):mK enc P w base spare held t λas=>∃i,as=[.int k i]/\(Lit.int k i).wf=true:=
 fun fuel cs x hx=>by
  obtain⟨n,rfl,h⟩:=DataW.trod_int ht hx;exact⟨_,⟨n,rfl,h.2⟩,λρ m=>au.cons (.int k n) au.nil⟩
theorem Vj {t e:TypeId}{es:Nat}{Q:List AV->Prop}(ht:P.underlying t=some (.slice e))(hc:P.cellsOf e=es)(dF:0<es)(hQ:∀as,Q as->as.length=es)(h:mK enc P w base spare held e Q):
  mK enc P w base spare held t λas=>∃z rs,as=[ro es z rs]/\(∀r∈rs,Q r)/\rs.length<=maxLen:=
 fun fuel cs  x hx=>by
  rcases DataW.trod_slice ht hx with⟨rfl,_⟩|⟨a,len,cap,elems,rest,n,_,rfl,_,hb,hl,hm,hlen,hel,_,_⟩
  .  exact⟨_,⟨true,[],rfl,by simp,by simp⟩,λρ m=>au.cons .af au.nil⟩
  .  have each:∀i,∃r row,i<len->(Q r/\w.cells? base (a.add (i*es)) es=some row/\∀ρ m,au ρ m (λad=>w.cell? ad) r row):=by
        intro i;by_cases hi:i<len
        . have h1:=hel i hi;rw[H5 (by omega),hc]at h1;cases h2:w.cells? base (a.add (i*es)) es with
          |none=>rw[h2]at h1;cases h1
          | some row=>
            rw[h2]at h1;obtain⟨r,hr,hv⟩:=h n row _ h1;exact⟨r,row,λ_=>⟨hr,rfl,hv⟩⟩
        .exact⟨[],[],λh=>absurd h hi⟩
     obtain⟨r,each⟩:=Classical.axiomOfChoice each;obtain⟨row,hr⟩:=Classical.axiomOfChoice each;have acV:0<len->a.spot=none:=λh0=>by
        obtain⟨_,h1,_⟩:=hr 0 h0;have:=(World.cells?_some h1).2.2 0 dF;have hl:=(World.cells?_some h1).2.1;rw[H5 (by omega)]at this;simp only[Nat.zero_mul,Addr.add,Zg5]at this;unfold World.cell? at this;split at this
        . split at this
          .cases this
          .rename_i h;simpa using h
        .cases this
     have afi:((List.range len).map r).length=len:=(by simp);have get:∀(i:Nat)(c:List AV),((List.range len).map r)[i]? =some c->i<len/\c=r i:=λi c hi=>by
        rw[Zc1]at hi;by_cases h:i<len
        .rw[Zm0 h]at hi;simp at hi;exact⟨h,hi.symm⟩
        .rw[Zc0 (by simpa using h)]at hi;cases hi
     refine⟨_,⟨false,(List.range len).map r,rfl,?_,by simp;omega⟩,λρ m=>au.cons ?_ au.nil⟩
     .  intro q hq;simp only[Zg0,Zl4]at hq;obtain⟨i,hi,rfl⟩:=hq;exact(hr i hi).1
     .  have key:aj ρ m (λad=>w.cell? ad) (.fl ((List.range len).map r) es) (.slice (some a) ((List.range len).map r).length cap):=by
          refine .fl _ es cap a (λi j=>((row i)[j]?).getD .nilFunc) (by omega) (λh0=>acV ?_) (λi c hi=> ?_) (λi j c v hi hj=> ?_) (λi j c v hi hj=> ?_)
          .apply Classical.byContradiction;intro h;apply h0;have:len=0:=(by omega);subst this;rfl
          .obtain⟨h1,rfl⟩:=get i c hi;exact hQ _ (hr i h1).1
          . obtain⟨h1,rfl⟩:=get i c hi;obtain⟨q1,q2,q3⟩:=hr i h1;have hj2:j<es:=(by rw[<-hQ _ q1];exact(Za3.1 hj).1);have q4:=(World.cells?_some q2).2.2 j hj2;have q5:=(World.cells?_some q2).2.1;have hs:=acV (by omega);have e1:(a.add (i*es)).add j=⟨a.block,a.off+i*es+j,none⟩:=by
              obtain⟨ax,off,spot⟩:=a;simp only at hs;subst hs;unfold Addr.add;by_cases e1:i*es=0<;>by_cases e2:j=0<;>simp[e1,e2]
            rw[e1]at q4;show w.cell? _=_;rw[q4,H5 (by omega)];rfl
          .obtain⟨h1,rfl⟩:=get i c hi;obtain⟨q1,q2,q3⟩:=hr i h1;have hj2:j<es:=(by rw[<-hQ _ q1];exact(Za3.1 hj).1);have q5:=(World.cells?_some q2).2.1;refine(q3 ρ m).2 j v _ hj ?_;rw[H5 (by omega)];rfl
        rw[afi]at key;exact key
def Gb:List (List AV->Prop)->List (List AV)->Prop
 |[],[]=>True
 |Q::Qs,p::ps=>Q p/\Gb Qs ps
 |_,_=>False
def IU(P:Program)(Z6:Nat):Nat->List Field->Bool
 |o,[]=>o==Z6
 |o,f::fs=>f.offset==o&&IU P Z6 (o+P.cellsOf f.type) fs
def Tr(enc:TypeId×Value->H)(P:Program)(w:World)(base:Nat)(spare:Nat->Bool)(held:Bool):List TypeId->List (List AV->Prop)->Prop
 |[],[]=>True
 |f::fs,Q::Qs=>mK enc P w base spare held f Q/\Tr enc P w base spare held fs Qs
 |_,_=>False
theorem IV{Z6 n:Nat}:∀(fs:List Field)(Qs:List (List AV->Prop))(o:Nat)(cs:List Value),IU P Z6 o fs=true->Tr enc P w base spare held (fs.map (·.type)) Qs->cs.length=Z6->
  (∀f∈fs,∃y,DataW.trod enc P w base spare held n f.type ((cs.drop f.offset).take (P.cellsOf f.type))=some y)->
  ∃parts,Gb Qs parts/\∀ρ m,au ρ m (λad=>w.cell? ad) parts.flatten (cs.drop o)
 |[],[],o,cs,hc,_,hl,_=>by simp only[IU,beq_iff_eq]at hc;refine⟨[],trivial,λρ m=> ?_⟩;rw[List.drop_eq_nil_of_le (by omega)];exact au.nil
 |f::fs,Q::Qs,o,cs,hc,hO,hl,hf=>by
  simp only[IU,Za8,beq_iff_eq]at hc;obtain⟨y,hy⟩:=hf f (by simp);obtain⟨as,hq,hv⟩:=hO.1 n _ y hy;obtain⟨parts,hp,Il⟩:=IV fs Qs _ cs hc.2 hO.2 hl (λg hg=>hf g (Zb0 _ hg));refine⟨as::parts,⟨hq,hp⟩,λρ m=> ?_⟩;have e:cs.drop o=(cs.drop f.offset).take (P.cellsOf f.type)++cs.drop (o+P.cellsOf f.type):=by
   rw[hc.1, <-Zp2,Zg6]
  rw[e,Zf8];exact(hv ρ m).append (Il ρ m)
def fieldsOf(P:Program)(t:TypeId):List Field:=match P.underlying t with
 |some (.struct fs)=>fs.toList
 |_=>[]
def Ts(P:Program)(t:TypeId):Bool:=match P.underlying t with
 |some (.struct _)=>true
 |_=>false
theorem Tt{t:TypeId}(ts:List TypeId){Qs:List (List AV->Prop)}(hs:Ts P t=true)(cV:(fieldsOf P t).map (·.type)=ts)(hc:IU P (P.cellsOf t) 0 (fieldsOf P t)=true)(hO:Tr enc P w base spare held ts Qs):
  mK enc P w base spare held t λas=>∃parts,as=parts.flatten/\Gb Qs parts:=
 fun fuel cs x hx=>by
  obtain⟨fs,ht⟩:∃fs,P.underlying t=some (.struct fs):=by
     unfold Ts at hs;cases h:P.underlying t with
     |none=>rw[h]at hs;cases hs
     |some d=>rw[h]at hs;cases d<;>first|exact⟨_,rfl⟩|cases hs
  have ef:fieldsOf P t=fs.toList:=by unfold fieldsOf;rw[ht]
  rw[ef]at cV hc;subst cV;obtain⟨xs,n,_,_,hl,hxl,hf⟩:=DataW.trod_struct ht hx;obtain⟨parts,hp,hv⟩:=IV fs.toList Qs 0 cs hc hO hl (λf hf2=>by
     obtain⟨i,hi⟩:=List.getElem?_of_mem hf2;have QU:fs[i]? =some f:=(by rw[<-Zg7];exact hi);have aT:i<fs.size:=(Zd2.1 QU).1;exact⟨xs[i],by rw[hf i f QU,H5 (by omega)]⟩)
  exact⟨_,⟨parts,rfl,hp⟩,λρ m=>hv ρ m⟩
end
def R5(w w':World):Prop:=w'.os=w.os/\w'.tape=w.tape/\w'.output=w.output/\w.heap.size<=w'.heap.size/\∀k,k<w.heap.size->w'.heap[k]? =w.heap[k]?
def Kg:List AV->St->Option (AV×St)
 |[],st=>some (.bool true,st)
 |_,_=>none
theorem QV{P:Program}{C:Cells}{f:FuncId}{fn:Func}{c:Code}(hf:P.funcs[f]? =some fn)(ji:¬fn.name= "runtime.NumGoroutine")(hb:fn.body=some c)
  (h:∀w:World,(∀ad u,C ad=some u->w.cell? ad=some u)->Calls P f #[] w λe w'=>e= .returned (.bool true)/\R5 w w'):lA P C f Kg where
 mono args st v st' hs:=by
  unfold Kg at hs;split at hs<;>first|(cases hs;done)|skip
  simp only[H4,Zb6]at hs;rw[<-hs.2];exact Za6 _
 runs ρ st w args v st' bC hs hW hv:=by
  unfold Kg at hs;split at hs<;>first|(cases hs;done)|skip
  simp only[H4,Zb6]at hs;obtain⟨rfl,rfl⟩:=hs;obtain rfl:=hv.mB;have b6:(callFunc f ([]:List Value).toArray).run P w= .ok (.enter f #[]) w:=by simp[callFunc,hf,ji,hb]
  rw[b6];refine Calls.mono (h w λad u ha=>(hW.dB ad u ha).1) λe w' he=> ?_
  obtain⟨rfl,h1,h2,h3,h4,h5⟩:=he;exact⟨ρ,.bool true,λ_ _=>rfl,Za6 _,hW.grow h4 h5,⟨h1,h2,h3,h4,λk hk _=>h5 k hk,λb x hb=>.inl ⟨b,x,hb,rfl⟩⟩⟩
theorem abC{P:Program}{C:Cells}{call:ai}{f:FuncId}{fn:Func}{c:Code}{args:List AV}{bC:List Value}{b:Bool}{n0:Pos}{aN:St}{w:World}
  (dw:eO P C call) (hC:∀ad v,C ad=some v->w.cell? ad=some v) (ZJ:∀a v,C a=some v->∀o,C ⟨a.block,o,none⟩=none->w.cell? ⟨a.block,o,none⟩=none) (hf:P.funcs[f]? =some fn) (ji:¬fn.name= "runtime.NumGoroutine") (hb:fn.body=some c)
  (ha:au (λ_=>⟨0,0,0⟩) n0.toNat C args bC) (h:call f args { heap:= .e,next:=n0 }=some (.bool b,aN)):
  Calls P f bC.toArray w λe w'=>e= .returned (.bool b)/\R5 w w':=by
 have hr:=dw (λ_=>⟨0,0,0⟩) { heap:= .e,next:=n0 } w f args (.bool b) aN bC h (yL hC ZJ) ha;have b6:(callFunc f bC.toArray).run P w= .ok (.enter f bC.toArray) w:=by simp[callFunc,hf,ji,hb]
 rw[b6]at hr;refine Calls.mono hr λe w' he=> ?_
 cases e with
 |returned x=>
  obtain⟨ρ',h1,_,_,_,hE⟩:=he;have:=h1.gJ;subst this;exact⟨rfl,hE.os,hE.tape,hE.output,hE.size,λk hk=>hE.block k hk λb x hb=>by rw[T.dD]at hb;cases hb⟩
 |panicked c=>exact he.elim
 |outgrown=>exact he.elim
end
section
open Go Go.ChangeShapes Go.WideShapes Go.ChangeAt Go.RowKit
theorem R5.below{w w':World}(h:R5 w w'):Below w.heap.size w w':=⟨h.1,h.2.1,h.2.2.1,h.2.2.2.1,h.2.2.2.2⟩
section
variable{H:Type}{enc:TypeId×Value->H}{P:Program}
theorem Ht{W W':World}(hl:laidOutB P=true)(hb:Below W.heap.size W W'):∀{ts:List TypeId}{vs:List Value}{ds:List (DataW H)}{p:List MemPlace},
  DataW.TrodAll enc P W 0 (λ_=>true) true ts vs ds p->(∀t∈ts,P.readableRec t=true/\t<P.types.size)->(∀x∈p,x.block<W.heap.size)->
  DataW.TrodAll enc P W' 0 (λb=>decide (b<W.heap.size)) true ts vs ds p
 |[],_,_,_,h,_,_=>by obtain⟨rfl,rfl,rfl⟩:=trodAll_nil h;exact trodAll_mk0
 |t::ts,_,_,_,h,hr,hx=>by
  obtain⟨v,vs1,d,ds1,a,b,rfl,rfl,rfl,h1,h2⟩:=trodAll_cons h
  exact trodAll_cons_mk (Below.trod hl (hr t (by simp)).1 (hr t (by simp)).2 h1 hb (λx VM=>hx x (Zh0 _ VM)))
   (Ht hl hb h2 (λt ht=>hr t (Zb0 _ ht)) (λx VM=>hx x (Zi6 _ VM)))
theorem Z7{f:Func}{s:ChangeSpec}{W W':World}{args:Array Value}{ds gs:List (DataW H)}{before:List MemPlace}{tb:TypeId}(hl:laidOutB P=true)
   (hW:DataW.Whole enc P f.params.toList s.vars false W args.toList ds gs before) (hv:s.vars=[]) (zJ:s.fn H (ds++gs)={ results:=[.lit (.bool true)],args:=ds })
   (hr:∀t∈f.params.toList,P.readableRec t=true/\t<P.types.size) (hB:Below W.heap.size W W') (abD:f.resultTypes= #[tb]) (htb:P.underlying tb=some .bool):
   s.post enc P f false true false false W args (.bool true) W':=by
 have aT:=hW.lt;have ey:=hW;obtain⟨p,q,hA,hV,rfl,Zb,Hs⟩:=hW;have hq:q=[]:=by
   rw[hv]at hV;cases gs with
   |nil=>exact hV
   |cons g gs=>exact hV.elim
 subst hq;refine⟨ds,gs,p++[],[],p,[],ey,?_,?_,?_,hB.frame _,λh=>by cases h⟩
 .rw[zJ,abD];exact trodAll_cons_mk (shut_bool htb _) trodAll_mk0
 .rw[zJ];exact Ht hl hB hA hr (λx hx=>aT x (Zh0 _ hx))
 .rw[zJ,hv];rfl
end
section
variable{H:Type}{enc:TypeId×Value->H}{P:Program}{w:World}{base:Nat}{spare:Nat->Bool}{held:Bool}
theorem NV{t:TypeId}{fs:Array Field}{Q:List AV->Prop}{r:Go.Reach}{b0:Nat}{v:Value}{d:DataW H}{p:List MemPlace}(ho:mK enc P w base spare held t Q)(ht:P.underlying t=some (.struct fs))
  (hval:Value.okWide P w r b0 t v) (hd:DataW.Trod enc P w base spare held t v d p):∃as,Q as/\∀ρ n,aj ρ n (λad=>w.cell? ad) (.agg as) v:=by
 obtain⟨cs,rfl,_⟩:=okWide_struct ht hval;obtain⟨fuel,hf⟩:=hd;obtain⟨as,h1,h2⟩:=ho _ _ _ hf;refine⟨as,h1,λρ n=> ?_⟩;have h3:=h2 ρ n;refine .agg as cs (by rw[h3.1];simp[Value.cells]) λi x x' hx kG=>h3.2 i x x' hx ?_
 simpa [Value.cells]using kG
end
end
section
open Go
theorem aj.afj{ρ:Pos->Loc}{n:Nat}{C C':Cells}{v:AV}{x:Value}(hC:∀ad u,C ad=some u->C' ad=some u)(h:aj ρ n C v x):aj ρ n C' v x:=by
 induction h with
 |bool b=>exact .bool b
 |int k i=>exact .int k i
 |str s bs h=>exact .str s bs h
 |iC=>exact .iC
 |ptr b off h=>exact .ptr b off h
 |fp xs i j es ax base cell hl hc _ ih=>exact .fp xs i j es ax base cell hl (λi j cs v h1 h2=>hC _ _ (hc i j cs v h1 h2)) ih
 |af=>exact .af
 |slice b off len cap es aJ a hl hc ha hk=>exact .slice b off len cap es aJ a hl hc ha hk
 |fl xs es aJ a cell hl hs dF hc _ ih=>exact .fl xs es aJ a cell hl hs dF (λi j cs v h1 h2=>hC _ _ (hc i j cs v h1 h2)) ih
 |nF=>exact .nF
 |map b h=>exact .map b h
 |func f x y x' y' hx hy _ _ Y8 Y9=>exact .func f x y x' y' hx hy Y8 Y9
 |jk=>exact .jk
 |uk=>exact .uk
 |iface t v x _ ih=>exact .iface t v x ih
 |agg l cs hl _ ih=>exact .agg l cs hl ih
 |tuple l cs hl _ ih=>exact .tuple l cs hl ih
def jv(ρ:Pos->Loc)(n:Nat)(C:Cells)(w:World)(v u:AV):Prop:=∀x,aj ρ n C v x->aj ρ n (λad=>w.cell? ad) u x
section
variable{ρ:Pos->Loc}{C:Cells}{st:St}{w:World}
theorem jv.self{n:Nat}(hC:∀ad u,C ad=some u->w.cell? ad=some u)(v:AV):jv ρ n C w v v:=λ_ h=>h.afj hC
theorem jv.agg{n:Nat}{l l':List AV}(hl:l.length=l'.length)(h:∀(i:Nat)(v u:AV),l[i]? =some v->l'[i]? =some u->jv ρ n C w v u):jv ρ n C w (.agg l) (.agg l'):=λx hx=>by
 cases hx with
 |agg _ cs h1 h2=>
  refine .agg l' cs (by omega) λi u x hu hx=> ?_
  have hi:i<l.length:=by rw[hl];exact(Za3.1 hu).1
  exact h i l[i] u (H5 hi) hu _ (h2 i _ x (H5 hi) hx)
theorem jv.slice(hW:aV ρ C st w){b:Pos}{off len es fz:Nat}{cap:Option Nat}{cs:List AV}(hb:st.heap.get b=some (.cells cs fz))(hlen:off+len*es<=cs.length){F:List (List AV)}(hF:F.length=len)
  (dF:∀(i:Nat)(r:List AV),F[i]? =some r->r.length=es)
  (hr:∀(i j:Nat)(r:List AV)(u v:AV),F[i]? =some r->r[j]? =some u->cs[off+i*es+j]? =some v->jv ρ st.next.toNat C w v u):
  jv ρ st.next.toNat C w (.slice b off len cap es) (.fl F es):=λx hx=>by
 cases hx with
 |slice  _ _ _ _ _ aJ a hl hc ha hk=>
  have get:∀(i j:Nat)(r:List AV)(u:AV),F[i]? =some r->r[j]? =some u->i<len/\j<es/\off+i*es+j<cs.length/\0<aJ:=λi j r u h1 h2=>by
   have g1:i<len:=(by rw[<-hF];exact(Za3.1 h1).1);have g2:j<es:=(by rw[<-dF i r h1];exact(Za3.1 h2).1);have g3:(i+1)*es<=len*es:=Zg9 _ g1;rw[Zj4]at g3;exact⟨g1,g2,by omega,by omega⟩
  have cell:∀(i j:Nat)(r:List AV)(u:AV),F[i]? =some r->r[j]? =some u->∃v y,cs[off+i*es+j]? =some v/\w.cell? ⟨a.block,a.off+i*es+j,none⟩=some y/\aj ρ st.next.toNat C v y:=λi j r u h1 h2=>by
   obtain⟨g1,g2,g3,g4⟩:=get i j r u h1 h2;obtain⟨_,rfl,_⟩:=ha (by omega);have hv:=H5 g3;obtain⟨y,q1,q2⟩:=hW.cell hb hv;exact⟨_,y,hv,by rw[show(ρ b).base+off+i*es+j=(ρ b).base+(off+i*es+j)by omega];exact q1,q2⟩
  have key:aj ρ st.next.toNat (λad=>w.cell? ad) (.fl F es) (.slice (some a) F.length aJ):=by
   refine .fl F es aJ a (λi j=>(w.cell? ⟨a.block,a.off+i*es+j,none⟩).getD .nilFunc) (by omega) (λh0=> ?_) dF (λi j r u h1 h2=> ?_) (λi j r u h1 h2=> ?_)
   .    cases afk:len with
        |zero=>exfalso;apply h0;rw[afk]at hF;exact List.length_eq_zero_iff.1 hF
        |succ m=>
         obtain⟨_,rfl,_⟩:=ha (by omega);rfl
   .    obtain⟨v,y,_,q2,_⟩:=cell i j r u h1 h2;show w.cell? _=_;rw[q2];rfl
   .    obtain⟨v,y,q1,q2,q3⟩:=cell i j r u h1 h2;rw[q2];exact hr i j r u v h1 h2 q1 y q3
  rw[hF]at key;exact key
end
def dz (st:St):Nat->AV->AV
 |0,v=>v
 |  d+  1,.slice b off len cap es=>match decide (len=0)with
    |true=>.fl [] es
    |false=>match st.heap.get b with
     |  some (.cells cs _)=>match decide (off+len*es<=cs.length)with
        |true=>.fl ((List.range len).map λi=>((cs.drop (off+i*es)).take es).map (dz st d)) es
        |false=>.slice b off len cap es
     |_=>.slice b off len cap es
 |  d+1,.ptr b off=>match st.heap.get b with
    |some (.cells cs _)=>.fp [cs.map (dz st d)] 0 off
    |_=>.ptr b off
 |d+1,.agg l=>.agg (l.map (dz st d))
 |d+1,.func f x y=>.func f (x.map (dz st d)) (y.map (dz st d))
 |_,v=>v
theorem QW(st:St)(d:Nat)(b:Pos)(off len:Nat)(cap:Option Nat)(es:Nat):dz st (d+1) (.slice b off len cap es)=match decide (len=0)with
 |true=>.fl [] es
 |false=>match st.heap.get b with
  |     some (.cells cs _)=>match decide (off+len*es<=cs.length)with
        |true=>.fl ((List.range len).map λi=>((cs.drop (off+i*es)).take es).map (dz st d)) es
        |false=>.slice b off len cap es
  |_=>.slice b off len cap es:=rfl
theorem adr(st:St)(d:Nat)(b:Pos)(off:Nat):dz st (d+1) (.ptr b off)=match st.heap.get b with
 |some (.cells cs _)=>.fp [cs.map (dz st d)] 0 off
 |_=>.ptr b off:=rfl
theorem Wn(st:St)(d:Nat)(l:List AV):dz st (d+1) (.agg l)= .agg (l.map (dz st d)):=rfl
theorem abE(st:St)(d:Nat)(f:FuncId)(x y:List AV):dz st (d+1) (.func f x y)= .func f (x.map (dz st d)) (y.map (dz st d)):=rfl
section
variable{ρ:Pos->Loc}{C:Cells}{st:St}{w:World}
theorem jv.ptr(hW:aV ρ C st w){b:Pos}{off fz:Nat}{cs F:List AV}(hb:st.heap.get b=some (.cells cs fz))(hF:F.length=cs.length)
  (hr:∀(j:Nat)(u v:AV),F[j]? =some u->cs[j]? =some v->jv ρ st.next.toNat C w v u):jv ρ st.next.toNat C w (.ptr b off) (.fp [F] 0 off):=λx hx=>by
 cases hx with
 |ptr   _ _ h=>
  have row:∀(i j:Nat)(r:List AV)(u:AV),[F][i]? =some r->r[j]? =some u->i=0/\∃v y,cs[j]? =some v/\w.cell? ⟨(ρ b).ax,(ρ b).base+j,none⟩=some y/\aj ρ st.next.toNat C v y/\F[j]? =some u:=λi j r u h1 h2=>by
   have hi:i=0:=(by have:=(Za3.1 h1).1;simp at this;exact this);subst hi;simp at h1;subst h1;have hj:j<cs.length:=(by rw[<-hF];exact(Za3.1 h2).1);obtain⟨y,q1,q2⟩:=hW.cell hb (H5 hj);exact⟨rfl,_,y,H5 hj,q1,q2,h2⟩
  have key:aj ρ st.next.toNat (λad=>w.cell? ad) (.fp [F] 0 off) (.pointer (some ⟨(ρ b).ax,(ρ b).base+0*cs.length+off,none⟩)):=by
   refine .fp [F] 0 off cs.length (ρ b).ax (ρ b).base (λ_ j=>(w.cell? ⟨(ρ b).ax,(ρ b).base+j,none⟩).getD .nilFunc) (λi r h1=> ?_) (λi j r u h1 h2=> ?_) (λi j r u h1 h2=> ?_)
   .    have hi:i=0:=(by have:=(Za3.1 h1).1;simp at this;exact this);subst hi;simp at h1;subst h1;exact hF
   .    obtain⟨rfl,v,y,_,q2,_⟩:=row i j r u h1 h2;show w.cell? _=_;rw[show(ρ b).base+0*cs.length+j=(ρ b).base+j by omega,q2];rfl
   .    obtain⟨rfl,v,y,q1,q2,q3,q4⟩:=row i j r u h1 h2;rw[q2];exact hr j u v q4 q1 y q3
  rw[show(ρ b).base+0*cs.length+off=(ρ b).base+off by omega]at key;exact key
theorem jv.dz (hW:aV ρ C st w):∀(d:Nat)(v:AV),jv ρ st.next.toNat C w v (dz st d v)
 |0,v=>jv.self (λad u h=>(hW.dB ad u h).1) v
 |d+    1,v=>   by
  have self:=jv.self (ρ:=ρ) (n:=st.next.toNat) (λad u h=>(hW.dB ad u h).1) v;cases v with
  |slice    b off len cap es=>
   rw[QW];split
   .    rename_i h0;obtain rfl:=Zg8 h0;intro x hx;cases hx with
        | slice _ _ _ _ _ aJ a hl hc ha hk=>
          exact .fl [] es aJ a (λ_ _=>.nilFunc) (Zj0 _) (λh=>absurd rfl h) (λi c h=>by simp at h) (λi j c v h=>by simp at h) (λi j c v h=>by simp at h)
   split
   .    rename_i cs fz hb;split
        . rename_i hle;have hle:=Zg8 hle;refine jv.slice hW hb hle (by simp) (λi r hi=> ?_) (λi j r u v hi hj hv=> ?_)
          . rw[Zc1]at hi;by_cases h:i<len
            .rw[Zm0 h]at hi;simp only[Ze8,H4]at hi;subst hi;have g3:(i+1)*es<=len*es:=Zg9 _ h;rw[Zj4]at g3;simp;omega
            .rw[Zc0 (by simpa using h)]at hi;cases hi
          . rw[ Zc1]at hi;by_cases h:i<len
            . rw[Zm0 h]at hi;simp only[Ze8,H4]at hi;subst hi;rw[Zc1,Zb8]at hj;split at hj
              .rw[Zc5,hv]at hj;simp only[Ze8,H4]at hj;subst hj;exact jv.dz hW d v
              .cases hj
            .rw[Zc0 (by simpa using h)]at hi;cases hi
        .exact self
   .    exact self
  |ptr b off=>
   rw[adr];split
   .    rename_i cs fz hb;refine jv.ptr hW hb (by simp) (λj u v hu hv=> ?_);rw[Zc1,hv]at hu;simp only[Ze8,H4]at hu;subst hu;exact jv.dz hW d v
   .    exact self
  |agg l=>
   rw[Wn];refine jv.agg (by simp) (λi v u h1 h2=> ?_);rw[Zc1,h1]at h2;simp only[Ze8,H4]at h2;subst h2;exact jv.dz hW d v
  |func f x y=>
   rw[abE];intro v' hv;cases hv with
   |    func _ _ _ x' y' hx hy h1 h2=>
        have one:∀(l:List AV)(xs:Array Value),(∀(i:Nat)(v:AV)(v':Value),l[i]? =some v->xs[i]? =some v'->aj ρ st.next.toNat C v v')->∀(i:Nat)(v:AV)(v':Value),(l.map (Go.Ai.dz st d))[i]? =some v->xs[i]? =some v'->aj ρ st.next.toNat (λad=>w.cell? ad) v v':=λl xs h i u v' hu hx=>by
          rw[Zc1]at hu;cases hg:l[i]? with
          |none=>rw[hg]at hu;cases hu
          | some v0=>
            rw[hg]at hu;simp only[Ze8,H4]at hu;subst hu;exact jv.dz hW d v0 _ (h i v0 v' hg hx)
        exact .func f _ _ x' y' (by simpa using hx) (by simpa using hy) (one x x' h1) (one y y' h2)
  |_=>exact self
theorem au.dz(hW:aV ρ C st w)(d:Nat){l:List AV}{xs:List Value}(h:au ρ st.next.toNat C l xs):au ρ st.next.toNat (λad=>w.cell? ad) (l.map (Go.Ai.dz st d)) xs:=
 ⟨by rw[<-h.1];simp,λi u x hu hx=>by
  rw[Zc1]at hu;cases hv:l[i]? with
  |none=>rw[hv]at hu;cases hu
  |  some v=>
     rw[hv]at hu;simp only[Ze8,H4]at hu;subst hu;exact jv.dz hW d v _ (h.2 i v x hv hx)⟩
end
def nL(v:AV):Prop:=∀(ρ:Pos->Loc)(n:Nat)(C C':Cells)(x:Value),aj ρ n C v x->aj ρ n C' v x
theorem nL.bool(b:Bool):nL (.bool b):=λ_ _ _ _ _ h=>by cases h;exact .bool b
theorem nL.int(k:IntKind)(i:Int):nL (.int k i):=λ_ _ _ _ _ h=>by cases h;exact .int k i
theorem nL.tuple{l:List AV}(hl:∀v∈l,nL v):nL (.tuple l):=λ_ _ _ _ _ h=>by
 cases h with|tuple _ cs hx h1=>exact .tuple l cs hx λi v x hv hx=>hl v (Zb5 hv) _ _ _ _ _ (h1 i v x hv hx)
def NW:AB->Prop
 |.cells cs _=>∀v∈cs,nL v
 |.map es _=>∀e∈es,nL e.1/\nL e.2.1
 |.jq _ _=>True
 |.typed _ cs=>∀v∈cs,nL v
theorem NW.rel{x:AB}(h:NW x){ρ:Pos->Loc}{n:Nat}{C C':Cells}{L:Loc}{w:World}(k:lH ρ n C L w x):lH ρ n C' L w x:=by
 cases x with
 |cells cs fz=>
  obtain⟨c,e,fr,h1,h2,h3,h4,h5⟩:=k;exact⟨c,e,fr,h1,h2,h3,⟨h4.1,λi v x hv hx=>h v (Zb5 hv) _ _ _ _ _ (h4.2 i v x hv hx)⟩,h5⟩
 |map es clock=>
  obtain⟨es',h1,h2,h3⟩:=k;exact⟨es',h1,h2,λi e e' he j9=>let⟨a,b,c⟩:=h3 i e e' he j9;⟨(h e (Zb5 he)).1 _ _ _ _ _ a,(h e (Zb5 he)).2 _ _ _ _ _ b,c⟩⟩
 |jq s pos=>exact k
 |typed t cs=>
  obtain⟨c,fr,h1,h2,h3,h4,h5⟩:=k;exact⟨c,fr,h1,h2,h3,⟨h4.1,λi v x hv hx=>h v (Zb5 hv) _ _ _ _ _ (h4.2 i v x hv hx)⟩,h5⟩
def T.both{α:Type}:T α->T α->T α
 |t,.e=>t
 |.e,t=>t
 |.n l v r,.n l' v' r'=>.n (T.both l l') (v.or v') (T.both r r')
theorem T.Z8{α:Type}(t:T α):T.both t .e=t:=by cases t<;>rfl
theorem T.Mp{α:Type}:∀(p:Pos)(t t':T α),(T.both t t').get p=(t.get p).or (t'.get p)
 |p,t,.e=>by rw[T.Z8,T.dD];simp
 |p,.e,.n l v r=>by rw[T.dD];rfl
 |.h,.n l v r,.n l' v' r'=>rfl
 |.o p,.n l v r,.n l' v' r'=>T.Mp p l l'
 |.i p,.n l v r,.n l' v' r'=>T.Mp p r r'
def T.keep{α:Type}(P:α->Bool):T α->T α
 |.e=>.e
 |.n l v r=>.n (T.keep P l) (v.filter P) (T.keep P r)
theorem T.Mq{α:Type}(P:α->Bool):∀(p:Pos)(t:T α),(T.keep P t).get p=(t.get p).filter P
 |p,.e=>by rw[T.keep,T.dD];rfl
 |.h,.n l v r=>rfl
 |.o p,.n l v r=>T.Mq P p l
 |.i p,.n l v r=>T.Mq P p r
open Classical in
noncomputable def Kh(t:T AB):T AB:=T.keep (λx=>decide (NW x)) t
theorem Z9{t:T AB}{p:Pos}{x:AB}(h:(Kh t).get p=some x):t.get p=some x/\NW x:=by
 unfold Kh at h;rw[T.Mq]at h;cases hg:t.get p with
 |none=>rw[hg]at h;cases h
 |some y=>
  rw[hg]at h;simp only[Option.filter]at h;split at h
  .rename_i hb;cases h;exact⟨rfl,@Zg8 _ (Classical.propDecidable _) hb⟩
  .cases h
theorem ads:Kh .e= .e:=rfl
def Shut(n0:Pos)(r:AV×St):Prop:=nL r.1/\n0.toNat<=r.2.next.toNat
open Classical in
noncomputable def IW(call:ai)(f:FuncId)(d:Nat):List AV->St->Option (AV×St):=λargs st=>
 match call f (args.map (dz st d)) { heap:= .e,next:=st.next }with
 |some (v,aN)=>if Shut st.next (v,aN)then some (v,{ heap:=T.both st.heap (Kh aN.heap),next:=aN.next })else none
 |none=>none
theorem adt{call:ai}{f:FuncId}{d:Nat}{args:List AV}{st:St}{v:AV}{aN:St}(h:call f (args.map (dz st d)) { heap:= .e,next:=st.next }=some (v,aN))(hs:Shut st.next (v,aN)):
  IW call f d args st=some (v,{ heap:=T.both st.heap (Kh aN.heap),next:=aN.next }):=by
 unfold IW;rw[h];simp only;rw[Za7 hs]
theorem abF{call:ai}{f:FuncId}{d:Nat}{args:List AV}{st:St}{v:AV}(h:call f (args.map (dz st d)) { heap:= .e,next:=st.next }=some (v,{ heap:= .e,next:=st.next }))(hs:nL v):
  IW call f d args st=some (v,st):=by
 rw[adt h ⟨hs,Za6 _⟩];simp only[ads,T.Z8]
theorem abG {P:Program}{C:Cells}{f:FuncId}{call:ai}{d:Nat}(bI:∀C':Cells,(∀ad u,C ad=some u->C' ad=some u)->eO P C' call):lA P C f (IW call f d) where
 mono args st v st' h:=by
  unfold IW at h;split at h
  . split at h
    .   rename_i hs;simp only[H4,Zb6]at h;rw[<-h.2];exact hs.2
    .   cases h
  .cases h
 runs ρ st  w args v st' bC h hW hv:=by
  unfold IW at h;split at h
  . rename_i v1 aN hc;split at h
    .   rename_i hs;simp only[H4,Zb6]at h;obtain⟨rfl,rfl⟩:=h;obtain⟨s1,s3⟩:=hs;have hr:=bI (λad=>w.cell? ad) (λad u ha=>(hW.dB ad u ha).1) ρ { heap:= .e,next:=st.next } w f _ v1 aN bC hc (yL (λad u ha=>ha) λa u _ o ho=>ho) (au.dz hW d hv);refine Reaches.mono (λx w' he=> ?_) hr
        . obtain⟨ρ',h1,h2,h3,h4,hE⟩:=he;have un:∀k,k<w.heap.size->w'.heap[k]? =w.heap[k]? :=λk hk=>hE.block k hk λb x hb=>by rw[T.dD]at hb;cases hb
          have new:∀b x,aN.heap.get b=some x->w.heap.size<=(ρ' b).ax:=λb x hx=>by
            rcases hE.mW b x hx with⟨b',x',jK,_⟩|hh
            .rw[T.dD]at jK;cases jK
            .exact hh
          have both:∀b x,(T.both st.heap (Kh aN.heap)).get b=some x->(st.heap.get b=some x/\ρ' b=ρ b)\/(aN.heap.get b=some x/\NW x):=λb x hx=>by
            rw[T.Mp]at hx;cases hg:st.heap.get b with
            |none=>rw[hg]at hx;exact .inr (Z9 (by simpa using hx))
            |some y=>rw[hg]at hx;simp at hx;subst hx;exact .inl ⟨rfl,h2 b (hW.live b y hg).1⟩
          refine⟨ρ',s1 _ _ _ _ _ h1,h2,s3,⟨λb x hx=> ?_,λb b' x x' hx kG Nk=> ?_,λa u ha=> ?_,λa u ha o ho=> ?_⟩,⟨hE.os,hE.tape,hE.output,hE.size,λk hk _=>un k hk,λb x hx=> ?_⟩⟩
          . rcases both b x hx with⟨hg,aS⟩|⟨hg,R6⟩
            .obtain⟨l1,l2,l3⟩:=hW.live b x hg;refine⟨Zd0 l1 s3,by rw[aS];exact Zd0 l2 hE.size,?_⟩;rw[aS];exact(l3.of_heap (un _ l2)).mono h2 s3
            .obtain⟨l1,l2,l3⟩:=h4.live b x hg;exact⟨l1,l2,R6.rel l3⟩
          . rcases both b x hx with⟨hg,aS⟩|⟨hg,R6⟩
            . rcases both b' x' kG with⟨Nc,xS⟩|⟨Nc,_⟩
              .rw[aS,xS]at Nk;exact hW.inj b b' x x' hg Nc Nk
              .have q1:=(hW.live b x hg).2.1;have q2:=new b' x' Nc;rw[aS]at Nk;omega
            . rcases both b' x' kG with⟨Nc,xS⟩|⟨Nc,_⟩
              .have q1:=(hW.live b' x' Nc).2.1;have q2:=new b x hg;rw[xS]at Nk;omega
              .exact h4.inj b b' x x' hg Nc Nk
          . obtain⟨c1,c2⟩:=hW.dB a u ha;have aT:a.block<w.heap.size:=World.block_lt_of_cell? _ _ c1;refine⟨(h4.dB a u c1).1,λb x hx=> ?_⟩;rcases both b x hx with⟨hg,aS⟩|⟨hg,R6⟩
            .rw[aS];exact c2 b x hg
            .have:=new b x hg;omega
          .have aT:a.block<w.heap.size:=World.block_lt_of_cell? _ _ (hW.dB a u ha).1;rw[World.cell?_of_block (w:=w) (a:=⟨a.block,o,none⟩) (un _ aT)];exact hW.whole a u ha o ho
          . rcases both b x hx with⟨hg,aS⟩|⟨hg,R6⟩
            .exact .inl ⟨b,x,hg,by rw[aS]⟩
            .exact .inr (new b x hg)
    .   cases h
  .cases h
theorem Ki(H:Pos->Option AB)(n:Pos)(k k':IntKind)(a b:Int):av.run H n .minB [.int k a,.int k' b]=some (.val (.int k (min a b))):=by
 show some (cq.val (.int k (match yo b a with|true=>b|false=>a)))=_;rw[dN];by_cases h:b<a
 .rw[Za0 h];simp only;rw[Int.min_eq_right (by omega)]
 .rw[Za2 h];simp only;rw[Int.min_eq_left (by omega)]
theorem adu(H:Pos->Option AB)(n:Pos)(q:ew)(k:IntKind)(a b:Int)(hb:b≠0):av.run H n (.bin .quo q) [.int k a,.int k b]=some (.val (.int k (aq k (a.tdiv b)))):=by
 simp[av.run,gI,lC,cH,jG,hb]
theorem adv(H:Pos->Option AB)(n:Pos)(q:ew)(k:IntKind)(a b:Int)(hb:b≠0):av.run H n (.bin .rem q) [.int k a,.int k b]=some (.val (.int k (a.tmod b))):=by
 simp[av.run,gI,lC,cH,jG,hb]
section
variable{R:Type}(c:ai)(K:AV->St->Option R)(st:St)
@[simp] theorem Wo(k k':IntKind)(a b:Int):ak c .minB [.int k a,.int k' b] st K=K (.int k (min a b)) st:=aK c K (λH n=>Ki H n k k' a b) st
theorem adw(q:ew)(k:IntKind)(a b:Int)(hb:b≠0):ak c (.bin .quo q) [.int k a,.int k b] st K=K (.int k (aq k (a.tdiv b))) st:=aK c K (λH n=>adu H n q k a b hb) st
theorem adx(q:ew)(k:IntKind)(a b:Int)(hb:b≠0):ak c (.bin .rem q) [.int k a,.int k b] st K=K (.int k (a.tmod b)) st:=aK c K (λH n=>adv H n q k a b hb) st
@[simp] theorem j8(q:ew)(k:IntKind)(a:Int):ak c (.bin .quo q) [.int k a,.int k 2] st K=K (.int k (aq k (a.tdiv 2))) st:=adw c K st q k a 2 (by decide)
@[simp] theorem fP(q:ew)(k:IntKind)(a:Int):ak c (.bin .rem q) [.int k a,.int k 2] st K=K (.int k (a.tmod 2)) st:=adx c K st q k a 2 (by decide)
end
def aZ:AV->Option Pos
 |.slice b _ n cap _=>if cap=some 0/\n=0 then none else some b
 |_=>none
theorem QX{b b':Pos}{off n es:Nat}{cap:Option Nat}(h:aZ (.slice b off n cap es)=some b'):b=b':=by
 simp only[aZ]at h;split at h
 .cases h
 .exact Zh4 h
theorem oe(b:Pos)(off n es:Nat):aZ (.slice b off n none es)=some b:=by simp[aZ]
theorem jL(b:Pos)(off es:Nat):aZ (.slice b off 0 (some 0) es)=none:=by simp[aZ]
def QS(es:Nat)(s:St)(v:AV)(rows:List (List AV)):Prop:=
 (v= .af/\rows=[])\/(∃b off cap cs,v= .slice b off rows.length cap es/\s.heap.get b=some (.cells cs 0)/\off+rows.length*es<=cs.length/\(cs.drop off).take (rows.length*es)=rows.flatten/\(cap=none\/cap=some rows.length))\/
    (∃b off,v= .slice b off 0 (some 0) es/\rows=[])
theorem QS.nil{es:Nat}{s:St}:QS es s .af []:= .inl ⟨rfl,rfl⟩
theorem QS.mono{es:Nat}{s s':St}{v:AV}{rows:List (List AV)}(h:QS es s v rows)(hk:∀b x,aZ v=some b->s.heap.get b=some x->s'.heap.get b=some x):QS es s' v rows:=by
 rcases h with⟨rfl,rfl⟩|⟨b,off,cap,cs,rfl,h1,h2,h3,h4⟩|⟨b,off,rfl,rfl⟩
 .exact .inl ⟨rfl,rfl⟩
 . by_cases h0:cap=some 0/\rows.length=0
   .obtain⟨rfl,h0⟩:=h0;refine .inr (.inr ⟨b,off,by rw[h0],Zb2 h0⟩)
   .exact .inr (.inl ⟨b,off,cap,cs,rfl,hk b _ (by simp only[aZ];rw[Za5 h0]) h1,h2,h3,h4⟩)
 .exact .inr (.inr ⟨b,off,rfl,rfl⟩)
theorem QS.len{es:Nat}{s:St}{v:AV}{rows:List (List AV)}(h:QS es s v rows):cS v=some rows.length:=by rcases h with⟨rfl,rfl⟩|⟨b,off,cap,cs,rfl,_⟩|⟨b,off,rfl,rfl⟩<;>rfl
theorem QS.lt{es:Nat}{s:St}{v:AV}{rows:List (List AV)}(h:QS es s v rows)(hw:Wf s){b:Pos}(hb:aZ v=some b):b.toNat<s.next.toNat:=by
 rcases h with⟨rfl,rfl⟩|⟨b',off,cap,cs,rfl,h1,_⟩|⟨b',off,rfl,rfl⟩
 .cases hb
 .obtain rfl:=QX hb;exact hw _ _ h1
 .rw[jL]at hb;cases hb
theorem QS.first{es:Nat}{s:St}{v:AV}{rows:List (List AV)}(h:QS es s v rows)(hr:∀r∈rows,r.length=es):cg es rows.length (λb=>s.heap.get b) v=some rows.flatten:=by
 rcases h with⟨rfl,rfl⟩|⟨b,off,cap,cs,rfl,h1,h2,h3,h4⟩|⟨b,off,rfl,rfl⟩
 .rfl
 rotate_left
 .simp[cg,cQ]
 . by_cases h0:rows.length*es=0
   .simp only[cg,cQ,Za0 h0];have:rows.flatten=[]:=(by rw[<-h3,h0];simp);rw[this]
   .simp only[cg,cQ,Za2 h0,h1];unfold cut;rw[di,Za0 h2];simp only;rw[h3]
theorem QS.app{R:Type}{c:ai}{es bytes:Nat}{s:St}{v:AV}{rows:List (List AV)}(hw:Wf s)(h:QS es s v rows)(hr:∀r∈rows,r.length=es){q:Pos}{row:List AV}(hq:s.heap.get q=some (.cells row 0))(Dp:row.length=es)(h1:aL row=true)
   (dF:es≠0) (hb:(2*(rows.length+1)+768)*bytes<=281474976710656) (hn:rows.length<=4000000):
   ∃ s5,(∀(K:AV->St->Option R),ak c (.append es bytes) [v,.slice q 0 1 (some 1) es] s K=K (.slice s.next 0 (rows.length+1) none es) s5)/\QS es s5 (.slice s.next 0 (rows.length+1) none es) (rows++[row])/\
     Wf s5/\s5.next=s.next.succ/\(∀p,aZ v≠some p->p.toNat<s.next.toNat->s5.heap.get p=s.heap.get p)/\s5.heap.get s.next=some (.cells (rows.flatten++row) 0):=by
 have hx:cg es 1 (λb=>s.heap.get b) (.slice q 0 1 (some 1) es)=some row:=by simp only[cg,cQ,Zo4,Za2 dF,hq];exact bV Dp
 have ho:=h.first hr;have hlen:rows.flatten.length=rows.length*es:=by
   clear h ho hn hb;induction rows with
   |nil=>simp
   | cons r rows ih=>
     have:=ih (λx hx=>hr x (Zb0 _ hx));have h2:=hr r (by simp);simp only[Zf8,Zd7,Zd4,Zj4];omega
 have new:∀(s5:St),s5.heap.get s.next=some (.cells (rows.flatten++row) 0)->QS es s5 (.slice s.next 0 (rows.length+1) none es) (rows++[row]):=λs5 hs=>by
   refine .inr (.inl ⟨s.next,0,none,rows.flatten++row,by simp,hs,?_,?_,.inl rfl⟩)
   .simp only[Zd7,Zd4,Zj8,Zd9,Zi9,Zo4,hlen,Dp];omega
   .simp only[Ze3,List.flatten_append,Zf8,List.flatten_nil,Zf0];refine Zf3 ?_;simp only[Zd7,Zd4,Zj8,Zd9,Zi9,Zo4,hlen,Dp];omega
 have Nq:(2*(rows.length+1)+768)*bytes<=281474976710656:=hb;have pI:rows.length+1<=9223372036854775807:=by omega
 rcases h with⟨rfl,rfl⟩|⟨b,off,cap,cs,rfl,g1,g2,g3,g4⟩|⟨b,off,rfl,rfl⟩
 rotate_right
 . have run:av.run (λb=>s.heap.get b) s.next (.append es bytes) [.slice b off 0 (some 0) es,.slice q 0 1 (some 1) es]=some (.aH (.slice s.next 0 (0+1) none es) none none (some (.cells ([]++row) 0))):=(by have h2:¬(0+1<=0):=(by omega);have Be:cg es 0 (λb=>s.heap.get b) (.slice b off 0 (some 0) es)=some []:=(by simp[cg,cQ]);simp only[av.run,eV];rw[show cS (.slice b off 0 (some 0) es)=some 0 from rfl,show cS (.slice q 0 1 (some 1) es)=some 1 from rfl];have hb3:(2*(0+1)+768)*bytes<=281474976710656:=(by simpa using hb);simp only[di,cQ,Za0 hb3,Za2 h2,hx,Be];simp);refine⟨ah s (.cells row 0),λK=> ?_,?_,bK hw,rfl,λp _ hp=>pS hp,by simpa using aD s (.cells row 0)⟩
   .unfold ak bS;simp only[Zj8]at run ⊢; rw[run];rfl
   .simpa using new (ah s (.cells row 0)) (by simpa using aD s (.cells row 0))
 .refine⟨ah s (.cells row 0),λK=>To c K (m:=1) rfl (by omega) (by simpa using hb) (by omega) hx,?_,bK hw,rfl,λp _ hp=>pS hp,by simpa using aD s (.cells row 0)⟩;simpa using new (ah s (.cells row 0)) (by simpa using aD s (.cells row 0))
 . rcases g4 with rfl|rfl
   .have run:av.run (λb=>s.heap.get b) s.next (.append es bytes) [.slice b off rows.length none es,.slice q 0 1 (some 1) es]=some (.aH (.slice s.next 0 (rows.length+1) none es) (some b) none (some (.cells (rows.flatten++row) (0 - off)))):=(by simp only[av.run,eV];rw[show cS (.slice b off rows.length none es)=some rows.length from rfl,show cS (.slice q 0 1 (some 1) es)=some 1 from rfl];simp only[di,cQ,Za0 Nq,Za0 pI,hx,g1,ho,h1];simp);refine⟨dst s b (.cells (rows.flatten++row) 0),λK=> ?_,new _ (Pc _ _ _),Z0 hw,rfl,λp hp hl=>NQ (λe=>hp (by rw[e,oe])) hl,Pc _ _ _⟩;unfold ak bS;rw[run];simp only[Nat.zero_sub];rfl
   . have h2:¬(rows.length+1<=rows.length):=(by omega);have run:av.run (λb=>s.heap.get b) s.next (.append es bytes) [.slice b off rows.length (some rows.length) es,.slice q 0 1 (some 1) es]=some (.aH (.slice s.next 0 (rows.length+1) none es) none none (some (.cells (rows.flatten++row) 0))):=by
        simp only[av.run,eV];rw[show cS (.slice b off rows.length (some rows.length) es)=some rows.length from rfl,show cS (.slice q 0 1 (some 1) es)=some 1 from rfl];simp only[di,cQ,Za0 Nq,Za0 pI,Za2 h2,hx,ho]
     refine⟨ah s (.cells (rows.flatten++row) 0),λK=> ?_,new _ (aD _ _),bK hw,rfl,λp _ hp=>pS hp,aD _ _⟩;unfold ak bS;rw[run];rfl
theorem Wp{R:Type}{c:ai}{es:Nat}{z:List AV}{x:AV}(hz:z.length=es)(hx:x.cells.length=es)(s:St)(K:AV->St->Option R):
  ak c (.buildSlice es 1 z [0]) [x] s K=K (.slice s.next 0 1 (some 1) es) (ah s (.cells x.cells 0)):=by
 have:cj (bM z 1) ([0].map λi=>(i*es,es)) [x]=some x.cells:=by
  simp only[Zd6,Zi1,Nat.zero_mul,bM,Zf0,cj,cQ,di,hx,Zg2,Zd9,hz,Za6];simp only[aF,Zn3,Ze0,Zd9];rw[List.drop_of_length_le (by omega),Zf0]
 rw[bf,this];rfl
structure Mk(es:Nat)(s0 s:St)(v:AV)(rows:List (List AV)):Prop where
 qi:Wf s0
 aE:Grew s0 s
 own:QS es s v rows
 new:∀b,aZ v=some b->s0.next.toNat<=b.toNat
 row:∀r∈rows,r.length=es
 cap:∀b off n cp e,v= .slice b off n cp e->cp=none\/(n=0/\cp=some 0)
 tight:∀b,aZ v=some b->s.heap.get b=some (.cells rows.flatten 0)
theorem Mk.start{es:Nat}{s0 s:St}(h0:Wf s0)(hg:Grew s0 s):Mk es s0 s .af []:=⟨h0,hg,QS.nil,λb h=>(by cases h),λr h=>(by cases h),λb off n cp e h=>(by cases h),λb h=>(by cases h)⟩
theorem Mk.grow{es:Nat}{s0 s s':St}{v:AV}{rows:List (List AV)}(h:Mk es s0 s v rows)(hg:Grew s s'):Mk es s0 s' v rows:=
 ⟨h.qi,h.aE.trans hg,h.own.mono λb x _ hx=>hg.get hx,h.new,h.row,h.cap,λb hb=>hg.get (h.tight b hb)⟩
theorem Mk.push{R:Type}{c:ai}{es bytes:Nat}{s0 s:St}{v:AV}{rows:List (List AV)}(h:Mk es s0 s v rows){z:List AV}{x:AV}(hz:z.length=es)(hx:x.cells.length=es)(h1:aL x.cells=true)(dF:es≠0)
   (hb:(2*(rows.length+1)+768)*bytes<=281474976710656) (hn:rows.length<=4000000):
   ∃ s5 v',(∀(K:AV->St->Option R),ak c (.buildSlice es 1 z [0]) [x] s (λy t=>ak c (.append es bytes) [v,y] t K)=K v' s5)/\Mk es s0 s5 v' (rows++[x.cells])/\
     (∀p b,aZ v≠some p->s.heap.get p=some b->s5.heap.get p=some b)/\∀b,aZ v'=some b->s.next.toNat<=b.toNat:=by
 have hw:=h.aE.wf;have dc:Wf (ah s (.cells x.cells 0)):=bK hw;have g1:=Grew.ah hw (.cells x.cells 0);obtain⟨s5,a1,a2,a3,a4,a5,a6⟩:=QS.app (R:=R) (c:=c) (bytes:=bytes) dc (h.own.mono λb x _ hx=>g1.get hx) h.row (aD s (.cells x.cells 0)) hx h1 dF hb hn;have keep:∀p b,aZ v≠some p->s.heap.get p=some b->s5.heap.get p=some b:=λp b hp hg=>by have aT:=hw _ _ hg;rw[a5 p hp (by rw[cN,Pos.az];omega)];exact g1.get hg
 refine⟨s5,_,λK=> ?_,⟨h.qi,⟨a3,λp b hg=> ?_,?_⟩,a2,λb hb=> ?_,λr hr=> ?_,λb off n cp e he=> ?_,λb hb=> ?_⟩,keep,λb hb=> ?_⟩
 .rw[Wp hz hx,a1]
 .have yP:=h.aE.get hg;refine keep p b (λe=> ?_) yP;have:=h.new p e;have:=h.qi p b hg;omega
 .have:=h.aE.next;rw[a4,cN,Pos.az,Pos.az];omega
 .rw[oe]at hb;cases hb;have:=h.aE.next;rw[cN,Pos.az];omega
 . rcases Zc9.1 hr with hr|hr
   .exact h.row r hr
   .simp at hr;subst hr;exact hx
 .cases he;exact .inl rfl
 .rw[oe]at hb;cases hb;rw[a6];simp
 .rw[oe]at hb;cases hb;rw[cN,Pos.az];omega
theorem mL{b:Pos}{off n es:Nat}(h:Plain (.slice b off n none es)):False:=by
 have h1:aj (λ_=>⟨0,0,off+n*es⟩) (b.toNat+1) (λ_=>none) (.slice b off n none es) (.slice (some ⟨0,0+off,none⟩) n n):=
  .slice b off n none es n _ (Za6 _) (λc hc=>by cases hc) (λ_=>⟨by omega,rfl,by simp⟩) (λ_=>by omega)
 have h2:=h _ (λ_=>⟨0,0,0⟩) _ 0 _ _ h1;cases h2 with
 |slice _ _ _ _ _ _ _ _ _ _ hk=>exact absurd (hk rfl) (by omega)
theorem Mk.tidy{es:Nat}{s s':St}{v:AV}{rows:List (List AV)}(h:Mk es s s' v rows):∃gO,Go.Ai.tidy s (v,s')=(v,gO)/\Mk es s gO v rows:=by
 unfold Go.Ai.tidy;by_cases hp:Plain (v,s').1/\bt s (v,s').2
 . rw[Za7 hp];refine⟨s,rfl,?_⟩;rcases h.own with⟨rfl,rfl⟩|⟨b,off,cap,cs,rfl,_⟩|⟨b,off,rfl,rfl⟩
   .exact Mk.start h.qi (Grew.refl h.qi)
   . rcases h.cap _ _ _ _ _ rfl with rfl|⟨h0,rfl⟩
     .exact(mL hp.1).elim
     .exact⟨h.qi,Grew.refl h.qi,.inr (.inr ⟨b,off,by rw[h0],Zb2 h0⟩),λb hb=>(by rw[h0,jL]at hb;cases hb),h.row,h.cap,λb hb=>(by rw[h0,jL]at hb;cases hb)⟩
   .exact⟨h.qi,Grew.refl h.qi,.inr (.inr ⟨b,off,rfl,rfl⟩),λb hb=>(by rw[jL]at hb;cases hb),h.row,h.cap,λb hb=>(by rw[jL]at hb;cases hb)⟩
 .rw[Za5 hp];exact⟨s',rfl,h⟩
theorem QS.dz{es d:Nat}{s:St}{v:AV}{rows:List (List AV)}(h:QS es s v rows)(hr:∀r∈rows,r.length=es):
   ∃z,Go.Ai.dz s (d+1) v=ro es z (rows.map λr=>r.map (Go.Ai.dz s d)):=by
 rcases h with⟨rfl,rfl⟩|⟨b,off,cap,cs,rfl,h1,h2,h3,h4⟩|⟨b,off,rfl,rfl⟩
 .exact⟨true,rfl⟩
 rotate_left
 .exact⟨false,rfl⟩
 . refine⟨false,?_⟩;by_cases h0:rows.length=0
   .obtain rfl:=Zb2 h0;rfl
   rw[QW,Za2 h0];simp only;rw[h1];simp only[Za0 h2];show AV.fl _ _=AV.fl _ _;congr 1;(refine List.ext_getElem (by simp) λi p1 p2=> ?_);simp only[Za9,Zp6]at p1;simp only[Zo0,List.getElem_range];congr 1;have key:∀(rows:List (List AV))(i:Nat)(hi:i<rows.length),(∀r∈rows,r.length=es)->((rows.flatten).drop (i*es)).take es=rows[i]:=by
     intro rows;induction rows with
     |nil=>intro i hi;simp at hi
     |  cons r rows ih=>
        intro i hi hr;have hl:=hr r (by simp);cases i with
        |zero=>simp[<-hl]
        |succ i=>
         have:=ih i (by simpa using hi) (λx hx=>hr x (Zb0 _ hx));rw[Zf8,Zj4,Nat.add_comm, <-hl,List.drop_append];simp only[List.getElem_cons_succ];rw[<-this,hl];simp[List.drop_eq_nil_of_le (show r.length<=es+i*es by omega)]
   rw[<-key rows i p1 hr, <-h3];rw[Zo9,Zn2,Zp2];congr 1;have:(i+1)*es<=rows.length*es:=Zg9 _ p1;rw[Zj4]at this;omega
section
variable{R:Type}(c:ai)(K:AV->St->Option R)(st:St)
theorem Gc{b:Pos}{off len es es':Nat}{cap:Option Nat}{k:IntKind}{i:Nat}(h:i<len):ak c (.idxA es none) [.slice b off len cap es',.int k (i:Int)] st K=K (.ptr b (off+i*es)) st:=
 aK c K (λH n=>by
  simp only[av.run,nG,fO];have:Nat.blt i len=true:=by rw[Zq0];exact h
  rw[this]) st
theorem Tu(b:Pos)(off len es:Nat)(cap:Option Nat):ak c (.lenB .l) [.slice b off len cap es] st K=K (.int .i64 (len:Int)) st:=aK c K (λH n=>rfl) st
theorem ady{es bytes:Nat}{z:List AV}{k k':IntKind}{n:Nat}(h1:bytes*n<=281474976710656)(h2:n<=9223372036854775807):
  ak c (.mkSlice es bytes z) [.int k (n:Int),.int k' (n:Int)] st K=K (.slice st.next 0 n (some n) es) (ah st (.cells (bM z n) 0)):=by
 have:av.run (λb=>st.heap.get b) st.next (.mkSlice es bytes z) [.int k (n:Int),.int k' (n:Int)]=some (.aH (.slice st.next 0 n (some n) es) none none (some (.cells (bM z n) 0))):=by
  simp only[av.run,vt,fO,di,Za0 h1,Za0 h2,Za6,Zg2]
 unfold ak bS;rw[this];rfl
end
theorem NX{α:Type}(x:α):∀n:Nat,bM [x] n=List.replicate n x
 |0=>rfl
 |n+1=>by simp[bM,NX x n,List.replicate_succ]
theorem Bs{rows:List (List AV)}{es:Nat}(hr:∀r∈rows,r.length=es):∀(i j:Nat)(r:List AV)(u:AV),rows[i]? =some r->r[j]? =some u->rows.flatten[i*es+j]? =some u:=by
 induction rows with
 |nil=>intro i j r u h;simp at h
 |cons r0 rows ih=>
  intro i j r u h1 h2;have hl:=hr r0 (by simp);cases i with
  |zero=>
   simp at h1;subst h1;have:=(Za3.1 h2).1;rw[Zf8,Nat.zero_mul,Zd9,Zb7 this];exact h2
  |succ i=>
   rw[Zf8,Zc2 (by rw[Zj4];omega)];rw[show(i+1)*es+j - r0.length=i*es+j by rw[Zj4];omega];exact ih (λx hx=>hr x (Zb0 _ hx)) i j r u (by simpa using h1) h2
theorem QS.lenB{R:Type}{c:ai}{es:Nat}{s:St}{v:AV}{rows:List (List AV)}(h:QS es s v rows)(K:AV->St->Option R)(s1:St):ak c (.lenB .l) [v] s1 K=K (.int .i64 (rows.length:Int)) s1:=by
 rcases h with⟨rfl,rfl⟩|⟨b,off,cap,cs,rfl,_⟩|⟨b,off,rfl,rfl⟩
 .exact aK c K (λH n=>rfl) s1
 .exact Tu c K s1 _ _ _ _ _
 .exact Tu c K s1 _ _ _ _ _
def iq(v:AV):Prop:=∃N0 K0:Nat,∀N K:Nat,N0<=N->K0<=K->∃x,aj (λ_=>⟨0,0,K⟩) N (λ_=>none) v x
theorem iq.int(k:IntKind)(i:Int):iq (.int k i):=⟨0,0,λ_ _ _ _=>⟨_,.int k i⟩⟩
theorem iq.bool(b:Bool):iq (.bool b):=⟨0,0,λ_ _ _ _=>⟨_,.bool b⟩⟩
theorem iq.af:iq .af:=⟨0,0,λ_ _ _ _=>⟨_,.af⟩⟩
theorem iq.str{s:List Nat}(h:∀x∈s,x<256):iq (.str s):=⟨0,0,λ_ _ _ _=>⟨.string ⟨(s.map UInt8.ofNat).toArray⟩,.str s _ (by
 show(s.map UInt8.ofNat).toArray.toList.map UInt8.toNat=s;simp only[Zg4]
 conv=>rhs;rw[<-List.map_id s]
 refine Zj3 λc hc=> ?_
 have:=h c hc;simp[UInt8.toNat_ofNat];omega)⟩⟩
theorem iq.slice(b:Pos)(off n es:Nat):iq (.slice b off n none es):=⟨b.toNat+1,off+n*es,λN K hN hK=>⟨.slice (some ⟨0,0+off,none⟩) n n,
 .slice b off n none es n _ (Za6 _) (λc hc=>by cases hc) (λ_=>⟨by omega,rfl,by simpa using hK⟩) (λ_=>by omega)⟩⟩
theorem iq.zero(b:Pos)(off es:Nat):iq (.slice b off 0 (some 0) es):=⟨0,0,λN K _ _=>⟨.slice (some ⟨0,0,none⟩) 0 0,
 .slice b off 0 (some 0) es 0 _ (Za6 _) (λc hc=>by cases hc;rfl) (λh=>absurd rfl h) (λh=>by cases h)⟩⟩
theorem inst_list:∀{l:List AV},(∀v∈l,iq v)->∃N0 K0:Nat,∀N K:Nat,N0<=N->K0<=K->∃xs,au (λ_=>⟨0,0,K⟩) N (λ_=>none) l xs
 |[],_=>⟨0,0,λ_ _ _ _=>⟨[],au.nil⟩⟩
 |v::l,h=>by
  obtain⟨N1,K1,h1⟩:=h v (by simp);obtain⟨N2,K2,h2⟩:=inst_list (λu hu=>h u (Zb0 _ hu));refine⟨max N1 N2,max K1 K2,λN K hN hK=> ?_⟩;obtain⟨x,hx⟩:=h1 N K (by omega) (by omega);obtain⟨xs,gR⟩:=h2 N K (by omega) (by omega);exact⟨x::xs,au.cons hx gR⟩
theorem Hu{l:List AV}(hi:∀v∈l,iq v){b:Pos}{off n es:Nat}(hm:AV.slice b off n none es∈l):¬Plain (.agg l):=λh=>by
 obtain⟨N0,K0,h1⟩:=inst_list hi;obtain⟨xs,hx⟩:=h1 N0 K0 (Za6 _) (Za6 _);have h2:aj (λ_=>⟨0,0,K0⟩) N0 (λ_=>none) (.agg l) (.agg xs.toArray):= .agg l _ (by rw[hx.1];simp) λi v x hv kG=>hx.2 i v x hv (by simpa using kG)
 have h3:=h _ (λ_=>⟨0,0,0⟩) _ 0 _ _ h2;obtain⟨i,aT,hi⟩:=Zl5.1 hm;cases h3 with
 |agg _ _ hl hc=>
  have abH:i<xs.toArray.size:=by rw[<-hl];exact aT
  obtain⟨y,hy⟩:∃y,xs.toArray[i]? =some y:=⟨_,Zf2 abH⟩
  have:=hc i _ y (by rw[H5 aT,hi]) hy;cases this with
  |slice _ _ _ _ _ _ _ _ _ _ hk=>exact absurd (hk rfl) (by omega)
theorem Mk.inst{es:Nat}{s s':St}{v:AV}{rows:List (List AV)}(h:Mk es s s' v rows):iq v:=by
 rcases h.own with⟨rfl,rfl⟩|⟨b,off,cap,cs,rfl,_⟩|⟨b,off,rfl,rfl⟩
 .exact iq.af
 . rcases h.cap _ _ _ _ _ rfl with rfl|⟨h0,rfl⟩
   .exact iq.slice _ _ _ _
   .rw[h0];exact iq.zero _ _ _
 .exact iq.zero _ _ _
theorem Mk.loose{es:Nat}{s s':St}{v:AV}{rows:List (List AV)}(h:Mk es s s' v rows):(∃b off n,v= .slice b off n none es)\/((∀t,Wf t->Mk es t t v rows)/\rows=[]):=by
 rcases h.own with⟨rfl,rfl⟩|⟨b,off,cap,cs,rfl,_⟩|⟨b,off,rfl,rfl⟩
 .exact .inr ⟨λt ht=>Mk.start ht (Grew.refl ht),rfl⟩
 . rcases h.cap _ _ _ _ _ rfl with rfl|⟨h0,rfl⟩
   .exact .inl ⟨_,_,_,rfl⟩
   .exact .inr ⟨λt ht=>⟨ht,Grew.refl ht,.inr (.inr ⟨b,off,by rw[h0],Zb2 h0⟩),λb hb=>(by rw[h0,jL]at hb;cases hb),h.row,h.cap,λb hb=>(by rw[h0,jL]at hb;cases hb)⟩,Zb2 h0⟩
 .exact .inr ⟨λt ht=>⟨ht,Grew.refl ht,.inr (.inr ⟨b,off,rfl,rfl⟩),λb hb=>(by rw[jL]at hb;cases hb),h.row,h.cap,λb hb=>(by rw[jL]at hb;cases hb)⟩,rfl⟩
theorem Mk.Gd{es:Nat}{s s':St}{v:AV}{rows:List (List AV)}(h:Mk es s s' v rows){l:List AV}(hm:v∈l)(hi:∀u∈l,iq u):∃gO,Go.Ai.tidy s (.agg l,s')=(.agg l,gO)/\(gO=s'\/gO=s)/\Mk es s gO v rows:=by
 unfold Go.Ai.tidy;by_cases hp:Plain (AV.agg l,s').1/\bt s (AV.agg l,s').2
 . rw[Za7 hp];refine⟨s,rfl,.inr rfl,?_⟩;rcases h.loose with⟨b,off,n,rfl⟩|⟨hl,_⟩
   .exact absurd hp.1 (Hu hi hm)
   .exact hl s h.qi
 .rw[Za5 hp];exact⟨s',rfl,.inl rfl,h⟩
theorem Mk.cells{es:Nat}{s s':St}{v:AV}{rows:List (List AV)}(h:Mk es s s' v rows):v.cells=[v]/\aL [v]=true:=by
 rcases h.own with⟨rfl,rfl⟩|⟨b,off,cap,cs,rfl,_⟩|⟨b,off,rfl,rfl⟩<;>exact⟨rfl,rfl⟩
theorem Mk.store{es:Nat}{s s':St}{v:AV}{rows:List (List AV)}(h:Mk es s s' v rows){p:Pos}{b:AB}(hp:s.next.toNat<=p.toNat)(xx:p.toNat<s'.next.toNat)(cF:aZ v≠some p):Mk es s (b9 s' p b) v rows:=
 ⟨h.qi,⟨Em h.aE.wf xx,λq x hq=>by have:=h.qi _ _ hq;rw[bk (λe=>by rw[e]at hp;omega)];exact h.aE.get hq,by rw[Br];exact h.aE.next⟩,
  h.own.mono λq x hq hx=>by rw[bk (λe=>cF (by rw[hq,e]))];exact hx,h.new,h.row,h.cap,λb hb=>by rw[bk (λe=>cF (by rw[hb,e]))];exact h.tight b hb⟩
theorem Mk.back{es:Nat}{s0 s s':St}{v:AV}{rows:List (List AV)}(h:Mk es s s' v rows)(h0:Wf s0)(hg:Grew s0 s):Mk es s0 s' v rows:=
 ⟨h0,hg.trans h.aE,h.own,λb hb=>Zc8 hg.next (h.new b hb),h.row,h.cap,h.tight⟩
theorem Aq{α:Type}(l:List α)(i:Nat)(h:i<l.length)(u:α):aF l i [u]=l.set i u:=by unfold aF;rw[List.set_eq_take_append_cons_drop,Za7 h];simp
def Src(es:Nat)(s:St)(v:AV)(rows:List (List AV)):Prop:=v= .fl rows es\/QS es s v rows
theorem Src.len{es:Nat}{s:St}{v:AV}{rows:List (List AV)}(h:Src es s v rows):cS v=some rows.length:=by
 rcases h with rfl|h
 .rfl
 .exact h.len
theorem Src.mono{es:Nat}{s s':St}{v:AV}{rows:List (List AV)}(h:Src es s v rows)(hk:∀b x,aZ v=some b->s.heap.get b=some x->s'.heap.get b=some x):Src es s' v rows:=h.imp id λh=>h.mono hk
theorem Src.aE{es:Nat}{s s':St}{v:AV}{rows:List (List AV)}(h:Src es s v rows)(hg:Grew s s'):Src es s' v rows:=h.mono λ_ _ _ hx=>hg.get hx
theorem Src.first{es:Nat}{s:St}{v:AV}{rows:List (List AV)}(h:Src es s v rows)(hr:∀r∈rows,r.length=es):cg es rows.length (λb=>s.heap.get b) v=some rows.flatten:=by
 rcases h with rfl|h
 .simp only[cg,cQ,di,Zg2,Za6,Zi7]
 .exact h.first hr
theorem Src.nil{es:Nat}{s:St}{v:AV}{rows:List (List AV)}(h:Src es s v rows):(v= .af/\rows=[])\/∀{R:Type}(c:ai)(K:AV->St->Option R)(t:St),ak c (.bin .eql .slice) [v,.af] t K=K (.bool false) t:=by
 rcases h with rfl|⟨rfl,rfl⟩|⟨b,off,cap,cs,rfl,_⟩|⟨b,off,rfl,rfl⟩
 .exact .inr λc K t=>aK c K (λH n=>rfl) t
 .exact .inl ⟨rfl,rfl⟩
 .exact .inr λc K t=>aK c K (λH n=>rfl) t
 .exact .inr λc K t=>aK c K (λH n=>rfl) t
theorem Src.ro{es:Nat}{s:St}(z:Bool)(rows:List (List AV)):Src es s (ro es z rows) rows:=by
 unfold Go.Ai.ro;split
 .exact .inr (.inl ⟨rfl,rfl⟩)
 .exact .inl rfl
theorem QY{es:Nat}:∀{rows:List (List AV)},(∀r∈rows,r.length=es)->rows.flatten.length=rows.length*es
 |[],_=>by simp
 |r::rows,hr=>by have ih:=QY (λx hx=>hr x (Zb0 _ hx));have h2:=hr r (by simp);simp only[Zf8,Zd7,Zd4,Zj4];omega
theorem QZ{es bytes:Nat}{z:List AV}{src:AV}{rows:List (List AV)}(hr:∀r∈rows,r.length=es)(_hes:es≠0)(hb:(2*rows.length+768)*bytes<=281474976710656)(hn:rows.length<=4000000){c:ai}{R:Type}(s:St)(hw:Wf s)(h:Src es s src rows):
   ∃v s',(∀(K:AV->St->Option R),ak c (.buildSlice es 0 z []) [] s (λy t=>ak c (.append es bytes) [y,src] t K)=K v s')/\Mk es s s' v rows:=by
 have bs:∀(K:AV->St->Option R),ak c (.buildSlice es 0 z []) [] s K=K (.slice s.next 0 0 (some 0) es) (ah s (.cells [] 0)):=λK=>by rw[bf];rfl
 have dc:Wf (ah s (.cells [] 0)):=bK hw;have g1:=Grew.ah hw (.cells [] 0);have hl:=h.len;by_cases h0:rows.length=0
 .obtain rfl:=Zb2 h0;refine⟨.slice s.next 0 0 (some 0) es,ah s (.cells [] 0),λK=> ?_,hw,g1,.inr (.inr ⟨_,_,rfl,rfl⟩),λb hb=>(by rw[jL]at hb;cases hb),hr,λb off n cp e he=>(by cases he;exact .inr ⟨rfl,rfl⟩),λb hb=>(by rw[jL]at hb;cases hb)⟩;rw[bs,Tq c K hl (by simpa using hb) (by simp)]
 . have hx:cg es rows.length (λb=>(ah s (.cells [] 0)).heap.get b) src=some rows.flatten:=(h.aE g1).first hr;have hlen:=QY hr;refine⟨.slice (ah s (.cells [] 0)).next 0 rows.length none es,ah (ah s (.cells [] 0)) (.cells rows.flatten 0),λK=> ?_,hw,g1.trans (Grew.ah dc _),.inr (.inl ⟨_,0,none,rows.flatten,rfl,aD _ _,by omega,?_,.inl rfl⟩),λb hb=> ?_,hr,λb off n cp e he=>(by cases he;exact .inl rfl),λb hb=>(by rw[oe]at hb;cases hb;exact aD _ _)⟩
   .rw[bs,Z4 c K (m:=rows.length) hl h0 (by simpa using hb) (by omega) hx]
   .simp only[Ze3];exact Zf3 (by omega)
   .rw[oe]at hb;cases hb;rw[cN,Pos.az];omega
theorem qL{v:AV}(h:aL [v]=true):v.one=true:=by
 simp only[aL]at h;split at h
 .assumption
 .cases h
theorem RA{b:Pos}{o:Nat}{k1 k2:IntKind}{i1 i2:Int}:¬Plain (.tuple [.ptr b o,.int k1 i1,.int k2 i2]):=λh=>by
 obtain⟨x0,e0⟩:∃x,aj (λ_=>⟨0,0,0⟩) (b.toNat+1) (λ_=>none) (.ptr b o) x:=⟨_,.ptr b o (by omega)⟩
 obtain⟨x1,e1⟩:∃x,aj (λ_=>⟨0,0,0⟩) (b.toNat+1) (λ_=>none) (.int k1 i1) x:=⟨_,.int k1 i1⟩
 obtain⟨x2,e2⟩:∃x,aj (λ_=>⟨0,0,0⟩) (b.toNat+1) (λ_=>none) (.int k2 i2) x:=⟨_,.int k2 i2⟩
 have:=h (λ_=>⟨0,0,0⟩) (λ_=>⟨0,0,0⟩) (b.toNat+1) 0 (λ_=>none) _ (.tuple _ #[x0,x1,x2] rfl (λi v v' hv hx=>by
  match i with
  |0=>simp at hv hx;subst hv hx;exact e0
  |1=>simp at hv hx;subst hv hx;exact e1
  |2=>simp at hv hx;subst hv hx;exact e2
  |i+3=>simp at hv))
 cases this with
 |tuple _ _ _ h=>
  have:=h 0 _ x0 rfl rfl;cases this with
  |ptr _ _ h=>omega
abbrev abI(v:AV):List AV:=[v]
theorem abJ(l:List AV):∀r∈l.map abI,r.length=1:=λr hr=>by simp only[Zg0]at hr;obtain⟨m,_,rfl⟩:=hr;rfl
section
variable{s0 s s':St}{jb:Pos}{Ls:List AV}{R:List (List AV)}{I:List (AV×List (List AV))}
end
section
variable{s0 s s':St}{jb:Pos}{Ls:List AV}{R:List (List AV)}{I:List (AV×List (List AV))}
end
theorem adz{R:Type}{c:ai}(K:AV->St->Option R){s:St}{p:Pos}{o:Nat}{cs:List AV}{v:AV}(h:s.heap.get p=some (.cells cs 0))(ho:o<cs.length)(h1:v.cells=[v])(h2:v.one=true):
  ak c (.store 1) [.ptr p o,v] s K=K .undef (b9 s p (.cells (cs.set o v) 0)):=by
 rw[dh c K s 1 p o v cs h (by rw[h1];rfl) (by omega) (by rw[h1];simp[aL,h2]),h1,Aq _ _ ho]
theorem QS.beq{es:Nat}{s:St}{v:AV}{rows:List (List AV)}(h:QS es s v rows):fj v v=true:=by
 rcases h with⟨rfl,_⟩|⟨b,off,cap,cs,rfl,_⟩|⟨b,off,rfl,_⟩
 .rfl
 .cases cap<;>simp[fj,kF,gy,Pos.beq_eq.2 rfl]
 .simp[fj,kF,gy,Pos.beq_eq.2 rfl]
section
variable{s0 s s':St}{jb:Pos}{Ls:List AV}{R:List (List AV)}{I:List (AV×List (List AV))}
end
theorem aeq(i:Nat):bounds false true false [.int .i64 (i:Int)]=some (none,some i,none):=rfl
def emptyAt(s:St):St:={ heap:= .e,next:=s.next }
theorem NY(s:St):Wf (emptyAt s):=λp x h=>by have h:(T.e:T AB).get p=some x:=h;rw[T.dD]at h;cases h
theorem NZ{call:ai}{f:FuncId}{d:Nat}{args:List AV}{s:St}{v:AV}(h:call f (args.map (dz s d)) (emptyAt s)=some (v,emptyAt s))(hb:nL v):IW call f d args s=some (v,s):=abF h hb
section
variable{H:Type}(Ok:DataW H->Prop)(enc:TypeId×Value->H)(P:Program)(w:World)(base:Nat)(spare:Nat->Bool)(held:Bool)
variable{Ok enc P w base spare held}
end
end
section
open Go Go.WideShapes
section
variable{H:Type}(enc:TypeId×Value->H)(P:Program)(w:World)(base:Nat)(spare:Nat->Bool)(held:Bool)
variable{enc P w base spare held}
end
end
section
open Go
section
variable{c:ai}{R:Type}
theorem Tv{H:Pos->Option AB}{n:Pos}{k:IntKind}{a b:Int}(h1:0<=a)(h2:0<b):av.run H n (.bin .rem .num) [.int k a,.int k b]=some (.val (.int k (a % b))):=by
 have e0:tY b 0=false:=by rw[j7,Zo5];omega
 have e1:a.tmod b=a % b:=Int.tmod_eq_emod_of_nonneg h1;simp only[av.run,gI,lC,cH,e0,e1]
theorem Tw{H:Pos->Option AB}{n:Pos}{a b:Int}(h1:0<=a)(h3:a<=9223372036854775807)(h2:0<b):av.run H n (.bin .quo .num) [.int .i64 a,.int .i64 b]=some (.val (.int .i64 (a / b))):=by
 have e0:tY b 0=false:=by rw[j7,Zo5];omega
 have e1:a.tdiv b=a / b:=Int.tdiv_eq_ediv_of_nonneg h1;have e3:0<=a / b:=Zq5 h1 (by omega);have e4:a / b<=a:=Int.ediv_le_self b h1;have e2:aq .i64 (a / b)=a / b:=wrap64 (by omega) (by omega);simp only[av.run,gI,lC,cH,e0,e1,e2]
theorem abK{H:Pos->Option AB}{n:Pos}{a:Int}{i:Nat}(h:i<=64):av.run H n (.bin .shr .num) [.int .i64 a,.int .i64 (i:Int)]=some (.val (.int .i64 (a / 2 ^ i))):=by
 have e0:yo (i:Int) 0=false:=by rw[dN,Za2 (by omega)]
 have e1:min (i:Int).toNat (IntKind.bits .i64)=i:=by have:IntKind.bits .i64=64:=rfl;rw[this];omega
 simp only[av.run,gI,lC,e0,e1];rw[Zp3 _ (Int.le_of_lt (Int.pow_pos (by decide)))]
theorem bN{k:IntKind}{a b:Int}(h1:0<=a)(h2:0<b)(s:St)(K:AV->St->Option R):ak c (.bin .rem .num) [.int k a,.int k b] s K=K (.int k (a % b)) s:=aK c K (λH n=>Tv h1 h2) s
theorem Ge{k:IntKind}{a b:Int}(h1:0<=a)(h2:0<b)(K:AV->Option R):dJ (.bin .rem .num) [.int k a,.int k b] K=K (.int k (a % b)):=bU K (λH n=>Tv h1 h2)
theorem eG{a b:Int}(h1:0<=a)(h3:a<=9223372036854775807)(h2:0<b)(s:St)(K:AV->St->Option R):ak c (.bin .quo .num) [.int .i64 a,.int .i64 b] s K=K (.int .i64 (a / b)) s:=aK c K (λH n=>Tw h1 h3 h2) s
theorem Mr{a b:Int}(h1:0<=a)(h3:a<=9223372036854775807)(h2:0<b)(K:AV->Option R):dJ (.bin .quo .num) [.int .i64 a,.int .i64 b] K=K (.int .i64 (a / b)):=bU K (λH n=>Tw h1 h3 h2)
theorem Tz{a:Int}{i:Nat}(h:i<=64)(s:St)(K:AV->St->Option R):ak c (.bin .shr .num) [.int .i64 a,.int .i64 (i:Int)] s K=K (.int .i64 (a / 2 ^ i)) s:=aK c K (λH n=>abK h) s
theorem uS(i:Int)(s:St)(K:AV->St->Option R):ak c (.conv (.int .u8)) [.int .i64 i] s K=K (.int .u8 (aq .u8 i)) s:=aK c K (λH n=>rfl) s
theorem mM(i:Int)(k:IntKind)(s:St)(K:AV->St->Option R):ak c (.conv (.int .i64)) [.int k i] s K=K (.int .i64 (aq .i64 i)) s:=aK c K (λH n=>rfl) s
theorem TA{x y:Int}(a b:Nat)(hx:x=(a:Int))(hy:y=(b:Int))(ha:a<256)(hb:b<256)(s:St)(K:AV->St->Option R):
  ak c (.buildSlice 1 2 [.int .u8 0] [0,1]) [.int .u8 x,.int .u8 y] s (λv t=>ak c (.conv .ofBytes) [v] t K)=K (.str [a,b]) (ah s (.cells [.int .u8 x,.int .u8 y] 0)):=by
 subst hx;subst hy;rw[show ak c (.buildSlice 1 2 [.int .u8 0] [0,1]) [.int .u8 (a:Int),.int .u8 (b:Int)] s (λv t=>ak c (.conv .ofBytes) [v] t K)=ak c (.conv .ofBytes) [.slice s.next 0 2 (some 2) 1] (ah s (.cells [.int .u8 (a:Int),.int .u8 (b:Int)] 0)) K from rfl];have:av.run (λp=>(ah s (.cells [.int .u8 (a:Int),.int .u8 (b:Int)] 0)).heap.get p) (ah s (.cells [.int .u8 (a:Int),.int .u8 (b:Int)] 0)).next (.conv .ofBytes) [.slice s.next 0 2 (some 2) 1]=some (.val (.str [a,b])):=by
  have ha':Nat.blt a 256=true:=by simpa using ha
  have jK:Nat.blt b 256=true:=by simpa using hb
  simp only[av.run,uF,aD];show(match bytesOf [.int .u8 (.ofNat a),.int .u8 (.ofNat b)]with|some s=>some (cq.val (.str s))|none=>none)=_;simp only[bytesOf,ha',jK]
 unfold ak bS;rw[this]
end
theorem Mk.abL{s s':St}{l:List AV}(hi:∀u∈l,iq u)(hw:Wf s)(hg:Grew s s'):
   ∃gO,Go.Ai.tidy s (.agg l,s')=(.agg l,gO)/\Grew s gO/\(∀(es:Nat)(v:AV)(rows:List (List AV)),v∈l->Mk es s s' v rows->Mk es s gO v rows/\(gO=s'\/rows=[])):=by
 unfold Go.Ai.tidy;by_cases hp:Plain (AV.agg l,s').1/\bt s (AV.agg l,s').2
 . rw[Za7 hp];refine⟨s,rfl,Grew.refl hw,λes v rows hm h=> ?_⟩;rcases h.loose with⟨b,off,n,rfl⟩|⟨hl,h0⟩
   .exact absurd hp.1 (Hu hi hm)
   .exact⟨hl s h.qi,.inr h0⟩
 .rw[Za5 hp];exact⟨s',rfl,hg,λes v rows _ h=>⟨h,.inl rfl⟩⟩
theorem abM{u:AV}{t:Bool}(h:Plain (.tuple [u,.bool t])):Plain u:=λρ ρ' n n' C x hx=>by
 obtain⟨y,hy⟩:∃y,aj ρ n C (.bool t) y:=⟨_,.bool t⟩
 have:=h ρ ρ' n n' C _ (.tuple _ #[x,y] rfl (λi v v' hv kG=>by
  match i with
  |0=>simp at hv kG;subst hv kG;exact hx
  |1=>simp at hv kG;subst hv kG;exact hy
  |i+2=>simp at hv))
 cases this with
 |tuple _ _ _ h=>exact h 0 _ x rfl rfl
theorem Mk.adA{es:Nat}{s s':St}{v:AV}{rows:List (List AV)}(h:Mk es s s' v rows)(t:Bool):∃gO,Go.Ai.tidy s (.tuple [v,.bool t],s')=(.tuple [v,.bool t],gO)/\Mk es s gO v rows:=by
 unfold Go.Ai.tidy;by_cases hp:Plain (AV.tuple [v,.bool t],s').1/\bt s (AV.tuple [v,.bool t],s').2
 . rw[Za7 hp];refine⟨s,rfl,?_⟩;rcases h.loose with⟨b,off,n,rfl⟩|⟨hl,_⟩
   .exact(mL (abM hp.1)).elim
   .exact hl s h.qi
 .rw[Za5 hp];exact⟨s',rfl,h⟩
theorem Mk.ud{es:Nat}{s0 s s':St}{v:AV}{rows:List (List AV)}(h:Mk es s0 s v rows)(hg:Grew s0 s')(hk:∀b x,aZ v=some b->s.heap.get b=some x->s'.heap.get b=some x):Mk es s0 s' v rows:=
 ⟨h.qi,hg,h.own.mono hk,h.new,h.row,h.cap,λb hb=>hk b _ hb (h.tight b hb)⟩
theorem Mk.vQ{es:Nat}{s0 s1 s s':St}{v:AV}{rows:List (List AV)}(h:Mk es s1 s v rows)(h0:Wf s0)(zK:Grew s0 s1)(hg:Grew s0 s')(hk:∀q b,s1.next.toNat<=q.toNat->s.heap.get q=some b->s'.heap.get q=some b):Mk es s0 s' v rows:=
 ⟨h0,hg,h.own.mono (λb x hb hx=>hk b x (h.new b hb) hx),λb hb=>Zc8 zK.next (h.new b hb),h.row,h.cap,λb hb=>hk b _ (h.new b hb) (h.tight b hb)⟩
end
section
open Go Go.WideShapes
theorem yQ{Q:List AV->Prop}{Qs:List (List AV->Prop)}{ps:List (List AV)}(h:Gb (Q::Qs) ps):∃p qs,ps=p::qs/\Q p/\Gb Qs qs:=by
 cases ps with
 |nil=>exact h.elim
 |cons p qs=>exact⟨p,qs,rfl,h⟩
theorem TE{ps:List (List AV)}(h:Gb [] ps):ps=[]:=by
 cases ps with
 |nil=>rfl
 |cons p qs=>exact h.elim
section
variable{H:Type}{enc:TypeId×Value->H}{P:Program}{w:World}{base:Nat}{spare:Nat->Bool}{held:Bool}
end
end
section
open Go
noncomputable def Pd(d:Nat)(As:List (List AV))(r:AV):List AV->St->Option (AV×St):=λargs st=>open Classical in if args.map (dz st d)∈As then some (r,st)else none
theorem adB{d:Nat}{As:List (List AV)}{r:AV}{args:List AV}{st:St}(A:List AV)(hA:A∈As)(h:args.map (dz st d)=A):Pd d As r args st=some (r,st):=by
 unfold Pd;rw[h,Za7 hA]
theorem aaa{P:Program}{C:Cells}{O:dZ}{G:T cI}{m n f d:Nat}{As:List (List AV)}{r:AV}(bI:∀C:Cells,eO P C (ou O G m n))(ha:∀A∈As,∀a∈A,Plain a)(hr:Plain r)(hb:nL r)
   (h:(As.all λA=>Cm (R:=Bool) false O G m n f A { heap:= .e,next:= .h } (λv _=>fj v r))=true):lA P C f (Pd d As r):=by
 have unf:∀args st v' st',Pd d As r args st=some (v',st')->v'=r/\st'=st/\(args.map (dz st d))∈As:=by
   intro args st v' st' hs;unfold Pd at hs;(split at hs<;>first|(cases hs;done)|skip);rename_i hc;simp only[H4,Zb6]at hs;exact⟨hs.1.symm,hs.2.symm,hc⟩
 refine⟨λargs st v' st' hs=> ?_,λρ st w args v' st' bC hs hW hv=> ?_⟩
 .obtain⟨_,rfl,_⟩:=unf _ _ _ _ hs;exact Za6 _
 . obtain⟨rfl,rfl,hA⟩:=unf _ _ _ _ hs;have hk:=Zd3.1 h _ hA;rw[FZ false O G m n]at hk;unfold m5 at hk;(split at hk<;>first|(cases hk;done)|skip);rename_i x hx;obtain⟨v,aN⟩:=x;have h1:=oI hk;subst h1;have KM:=au.dz hW d hv;have Ed:au ρ (Pos.h).toNat (λad=>w.cell? ad) (args.map (dz st' d)) bC:=⟨KM.1,λi u y hu hy=>ha _ hA u (Zb5 hu) _ _ _ _ _ _ (KM.2 i u y hu hy)⟩
   (refine Reaches.mono (λx w' hp=> ?_) (bI (λad=>w.cell? ad) ρ { heap:= .e,next:= .h } w f _ _ aN bC hx (yL (λad u hu=>hu) λa u _ o ho=>ho) Ed);obtain⟨ρ',k1,k2,k3,k4,hE⟩:=hp;have un:∀k,k<w.heap.size->w'.heap[k]? =w.heap[k]? :=λk hk=>hE.block k hk λb x hb=>by rw[T.dD]at hb;cases hb);refine⟨ρ,hb _ _ _ _ _ (hr _ _ _ _ _ _ k1),λ_ _=>rfl,Za6 _,⟨λb x hb=> ?_,hW.inj,λa u hu=> ?_,λa u hu o ho=> ?_⟩,⟨hE.os,hE.tape,hE.output,hE.size,λk hk _=>un k hk,λb x hb=>.inl ⟨b,x,hb,rfl⟩⟩⟩
   .obtain⟨l1,l2,l3⟩:=hW.live b x hb;exact⟨l1,Zd0 l2 hE.size,l3.of_heap (un _ l2)⟩
   .obtain⟨c1,c2⟩:=hW.dB a u hu;exact⟨(k4.dB a u c1).1,c2⟩
   .have aT:a.block<w.heap.size:=World.block_lt_of_cell? _ _ (hW.dB a u hu).1;rw[World.cell?_of_block (w:=w) (a:=⟨a.block,o,none⟩) (un _ aT)];exact hW.whole a u hu o ho
end
noncomputable section
open Go
inductive Un where
 |z
 |s (n:Un)
def un:Nat->Un
 |0=>.z
 |n+1=>.s (un n)
inductive Tx where
 |bad
 |op (k:av) (xs:List dU) (d:Option Pos) (t:Tx)
 |gop (g:Pos) (w:Bool) (k:av) (xs:List dU) (d:Option Pos) (t:Tx)
 |dr (t:Tx)
 |pr (k:av) (xs:List dU) (d:Option Pos) (t:Tx)
 |K7 (g:Pos) (w:Bool) (k:av) (xs:List dU) (d:Option Pos) (t:Tx)
 |rd (b:List Bool) (k:av) (xs:List dU) (d:Option Pos) (t:Tx)
 |K8 (g:Pos) (w:Bool) (b:List Bool) (k:av) (xs:List dU) (d:Option Pos) (t:Tx)
 |nw (k:av) (xs:List dU) (d:Option Pos) (t:Tx)
 |gnw (g:Pos) (w:Bool) (k:av) (xs:List dU) (d:Option Pos) (t:Tx)
 |ef (k:av) (xs:List dU) (d:Option Pos) (t:Tx)
 |gef (g:Pos) (w:Bool) (k:av) (xs:List dU) (d:Option Pos) (t:Tx)
 |QL (x:dU) (a b:Tx)
 |jn (l:List Pos) (a b:Tx)
 |jmp (i:Un) (l:List Pos)
 |arg (l:List Pos) (t:Tx) (r:Tx)
 |lp (j:Un) (ins:List Pos)
 |agn (ins:List Pos)
 |out (i:Un) (l:List Pos)
 |res (rs:List yD)
def txO:List bh->Tx->Tx
 |[],t=>t
 |  o::os,t=>match o.guard with
    |none=>.op o.k o.xs o.dst (txO os t)
    |some (p,w)=>.gop p w o.k o.xs o.dst (txO os t)
def bitsOf(bD:Nat):List Nat->List Bool
 |[]=>[]
 |i::is=>bD.testBit i::bitsOf bD is
def N4:List (Nat×bh)->List Nat->Tx->Tx
 |[],_,t=>t
 |  (j,o)::os,is,t=>match o.cls,o.guard with
    |.pure,none=>.pr o.k o.xs o.dst (N4 os (j::is) t)
    |.pure,some (p,w)=> .K7 p w o.k o.xs o.dst (N4 os (j::is) t)
    |.read,none=>.rd (bitsOf o.bD is) o.k o.xs o.dst (N4 os (j::is) t)
    |.read,some (p,w)=> .K8 p w (bitsOf o.bD is) o.k o.xs o.dst (N4 os (j::is) t)
    |.new,none=>.nw o.k o.xs o.dst (N4 os (j::is) t)
    |.new,some (p,w)=>.gnw p w o.k o.xs o.dst (N4 os (j::is) t)
    |.aH,none=>.ef o.k o.xs o.dst (N4 os (j::is) t)
    |.aH,some (p,w)=>.gef p w o.k o.xs o.dst (N4 os (j::is) t)
def txA(K:js->Tx):List (Nat×List Pos)->Tx->Tx
 |[],t=>t
 |(e,l)::r,t=>.arg l (K (exOf e)) (txA K r t)
def tx:AC->Sh->Nat->(js->Nat->Tx)->Tx
 |.skip,_,d,K=>K .normal d
 |.region ops,_,d,K=>txO ops (K .normal d)
 |.draw ops,_,d,K=>.dr (N4 ops [] (K .normal d))
 |  .seq a b,s,d,K=>match s with
    | .seq none s t=>tx a s d λex d=>match ex with
      |.normal=>tx b t d K
      |.exit i=>K (.exit i) d
      |.ret=>K .ret d
    | .seq (some l) s t=>.jn l (tx a s (d+1) λex d'=>match ex with
      |.normal=>.jmp (un (d' - d - 1)) l
      |.exit i=>K (.exit i) d'
      |.ret=>K .ret d') (tx b t d K)
    |_=>.bad
 |  .cond x a b,s,d,K=>match s with
    |.cond s t=> .QL x (tx a s d K) (tx b t d K)
    |_=>.bad
 |  .block id a,s,d,K=>match s with
    | .block s=>tx a s d λex d=>match ex with
      |.normal=>K .normal d
      | .exit i=>match Nat.beq i id with
        |true=>K .normal d
        |false=>K (.exit i) d
      |.ret=>K .ret d
    |_=>.bad
 |  .loop _,s,d,K=>match s with
    |.loop j ins outs _=>txA (λex=>K ex d) outs (.lp (un j) ins)
    |_=>.bad
 |.exit id,_,d,K=>K (.exit id) d
 |.ret,_,d,K=>K .ret d
def idxOf:List (Nat×List Pos)->Nat->Nat
 |[],_=>0
 |  (i,_)::r,e=>match Nat.beq i e with
    |true=>0
    |false=>idxOf r e+1
def txF(A:cI)(s:Sh):Tx:=tx A.code s 0 λex _=>match ex with
 |.normal=>.res A.results
 |.ret=>.res A.results
 |.exit _=>.bad
def txL(x:AC×Sh):List Pos×Tx:=match x.2 with
 |  .loop _ ins outs s=>(ins,tx x.1 s 0 λex _=>match ex with
    |.normal=>.agn ins
    |.exit i=>.out (un (idxOf outs (i+2))) (Ke outs (i+2))
    |.ret=>.out (un (idxOf outs 1)) (Ke outs 1))
 |_=>([],.bad)
section
variable{R:Type}
abbrev KK(R:Type):=List AV->St->Option R
abbrev O2:=Option (AV×St)
abbrev Q2:=KK (AV×St)
def xk:Unit:=(λ_=>()) (@den AV)
def uw(p:Pos)(fr:Fr)(k:AV->Option R):Option R:=match fr.get p with
 |some v=>k v
 |none=>(λ_=>none) xk
def vR(p:Pos)(v:AV)(fr:Fr)(k:Fr->Option R):Option R:=(λ_=>k (fr.put (some v) p)) xk
def vS(d:Option Pos)(v:AV)(fr:Fr)(k:Fr->Option R):Option R:=match d with
 |some p=>vR p v fr k
 |none=>k fr
def xA(fr:Fr):List dU->(List AV->Option R)->Option R
 |[],k=>k []
 |.t p::xs,k=>uw p fr λv=>xA fr xs λvs=>k (v::vs)
 |.c v::xs,k=>xA fr xs λvs=>k (v::vs)
def getLT:List Pos->Fr->(List AV->Option R)->Option R
 |[],_,k=>k []
 |p::ps,fr,k=>uw p fr λv=>getLT ps fr λvs=>k (v::vs)
def vU:List Pos->List AV->Fr->(Fr->Option R)->Option R
 |[],vs,fr,k=>pH vs (k fr)
 |p::ps,vs,fr,k=>ju vs λv vs=>vR p v fr λfr=>vU ps vs fr k
def N6(p:Pos)(k:Pos->Option R):Option R:=(λ_=>k p.succ) xk
def IX:Pos->List AV->Fr->(Fr->Option R)->Option R
 |_,[],fr,k=>k fr
 |p,v::vs,fr,k=>vR p v fr λfr=>N6 p λp=>IX p vs fr k
def N7:Un->List (KK R)->KK R
 |.z,k::_=>k
 |.s n,_::ks=>N7 n ks
 |_,[]=>λ_ _=>none
def ue:List Bool->T AB->List RC->T AB
 |  b ::bs,h,r::rs=>match r with
    | .new id ax=>match b with
      |true=>(ue bs h rs).put (some ax) id
      |false=>ue bs h rs
    |.aH _ _=>h
    |.pure=>ue bs h rs
 |_,h,_=>h
def uf(k:av)(xs:List AV)(v:AV):List (Pos×AB)->List Bool->List RC->Bool
 |  up,b::bs,r::rs=>match r with
    | .new id ax=>match b with
      |true=>uf k xs v ((id,ax)::up) bs rs
      |false=>uf k xs v up bs rs
    | .aH base _=>match b with
      |true=>true
      |false=>pP k xs v (vu up (ue bs base rs))&&uf k xs v up bs rs
    |.pure=>uf k xs v up bs rs
 |_,_,_=>true
def Gf(fr:Fr)(st:St):List yD->(List AV->Option R)->Option R
 |[],k=>k []
 |.tmp p::rs,k=>uw p fr λv=>Gf fr st rs λvs=>k (v::vs)
 |.cell p n::rs,k=>uw p fr λq=>Lb n q st λv=>Gf fr st rs λvs=>k (v::vs)
def R7(as:List (KK R))(f:KK R)(k:List (KK R)->Option R):Option R:=(λ_=>k (as++[f])) xk
def pkR(vs:List AV)(st:St):Option (AV×St):=some (gH vs,st)
end
section
variable(c:ai)(F:Nat)(Ls:Un->List Q2->Nat->Q2)(ag:Q2)(ko:List Q2)
def TF(fr:Fr)(x:dU)(k:AV->Option (AV×St)):Option (AV×St):=match x with
 |.t p=>uw p fr k
 |.c v=>k v
def ev:Tx->List (KK (AV×St))->List (KK (AV×St))->Fr->St->List RC->T AB->Option (AV×St)
 |.bad,_,_,_,_,_,_=>none
 |.op k xs d t,ks,as,fr,st,rs,b=>xA fr xs λvs=>ak c k vs st λv st=>vS d v fr λfr=>ev t ks as fr st rs b
 |.gop g w k xs d t,ks,as,fr,st,rs,b=>xA fr xs λvs=>uw g fr λg=>Tc c g w k vs st λv st=>vS d v fr λfr=>ev t ks as fr st rs b
 |.dr t,ks,as,fr,st,_,_=>ev t ks as fr st [] st.heap
 |.pr k xs d t,ks,as,fr,st,rs,b=>xA fr xs λvs=>dJ k vs λv=>vS d v fr λfr=>ev t ks as fr st (.pure::rs) b
 | .K7 g w k xs d t,ks,as,fr,st,rs,b=>xA fr xs λvs=>uw g fr λg=>K7 g w k vs λv=>vS d v fr λfr=>ev t ks as fr st (.pure::rs) b
 |.rd bs k xs d t,ks,as,fr,st,rs,b=>xA fr xs λvs=>kR k vs (ue bs b rs) (λv=>uf k vs v [] bs rs) λv=>vS d v fr λfr=>ev t ks as fr st (.pure::rs) b
 | .K8 g w bs k xs d t,ks,as,fr,st,rs,b=>xA fr xs λvs=>uw g fr λg=>K8 g w k vs (ue bs b rs) (λv=>uf k vs v [] bs rs) λv=>vS d v fr λfr=>ev t ks as fr st (.pure::rs) b
 |.nw k xs d t,ks,as,fr,st,rs,b=>xA fr xs λvs=>IF k vs st λv ax=>vS d v fr λfr=>ev t ks as fr (ah st ax) (.new st.next ax::rs) b
 |.gnw g w k xs d t,ks,as,fr,st,rs,b=>xA fr xs λvs=>uw g fr λg=>K9 g w (IF k vs st λv ax=>vS d v fr λfr=>ev t ks as fr (ah st ax) (.new st.next ax::rs) b) (vS d .undef fr λfr=>ev t ks as fr st (.pure::rs) b)
 |.ef k xs d t,ks,as,fr,st,rs,b=>xA fr xs λvs=>ak c k vs st λv st'=>vS d v fr λfr=>ev t ks as fr st' (.aH b st'.heap::rs) st'.heap
 |.gef g w k xs d t,ks,as,fr,st,rs,b=>xA fr xs λvs=>uw g fr λg=>K9 g w (ak c k vs st λv st'=>vS d v fr λfr=>ev t ks as fr st' (.aH b st'.heap::rs) st'.heap) (vS d .undef fr λfr=>ev t ks as fr st (.pure::rs) b)
 | .QL x t u,ks,as,fr,st,rs,b=>TF fr x λv=>QL v (ev t ks as fr st rs b) (ev u ks as fr st rs b)
 |.jn l t u,ks,as,fr,st,rs,b=>gM (λk=>ev t (k::ks) as fr st rs b) (λvs st=>vU l vs .e λfr=>ev u ks as fr st [] .e)
 |.jmp i l,ks,_,fr,st,_,_=>getLT l fr λvs=>N7 i ks vs st
 |.arg l t r,ks,as,fr,st,rs,b=>R7 as (λos st=>vU l os .e λfr=>ev t ks [] fr st [] .e) λas=>ev r ks as fr st rs b
 |.lp j ins,_,as,fr,st,_,_=>getLT ins fr λvs=>Ls j as F vs st
 |.agn ins,_,_,fr,st,_,_=>getLT ins fr λvs=>ag vs st
 |.out i l,_,_,fr,st,_,_=>getLT l fr λvs=>N7 i ko vs st
 |.res rs,_,_,fr,st,_,_=>Gf fr st rs λvs=>pkR vs st
def fX(p:List Pos×Tx)(vs:List AV)(st:St):Option (AV×St):=vU p.1 vs .e λfr=>ev c F Ls ag ko p.2 [] [] fr st [] .e
end
def b7{R:Type}:Un->List (KK R)->Nat->KK R:=λ_ _ _ _ _=>none
def iE{R:Type}:KK R:=λ_ _=>none
def bQ(c:ai)(F:Nat)(Ls:Un->List Q2->Nat->Q2)(t:Tx)(args:List AV)(st:St):O2:=IX .h args .e λfr=>ev c F Ls iE [] t [] [] fr st [] .e
def m7(Ls:Un->List Q2->Nat->Q2)(A:cI)(s:Sh):Env (AV×St):=λj K=>Ls (un j) ((ZV (fC A s j).2).map λo=>K o.1)
def sl:Sh:= .leaf
def sq(a b:Sh):Sh:= .seq none a b
def sj(l:List Nat)(a b:Sh):Sh:= .seq (some (l.map key)) a b
def sc(a b:Sh):Sh:= .cond a b
def sb(a:Sh):Sh:= .block a
def sp(j:Nat)(ins:List Nat)(outs:List (Nat×List Nat))(a:Sh):Sh:= .loop j (ins.map key) (outs.map λo=>(o.1,o.2.map key)) a
section
variable{R:Type}(l r:Fr)(v u:AV)(x:Option AV)(p:Pos)(fr:Fr)(k:AV->Option R)(K:Fr->Option R)(kp:Pos->Option R)
theorem Eo:uw .h (.n l (some v) r) k=k v:=rfl
theorem Ep:uw (.o p) (.n l x r) k=uw p l k:=rfl
theorem Er:uw (.i p) (.n l x r) k=uw p r k:=rfl
theorem AI:vR .h v .e K=K (.n .e (some v) .e):=rfl
theorem AK:vR .h v (.n l x r) K=K (.n l (some v) r):=rfl
theorem AL:vR (.o p) v .e K=vR p v .e λt=>K (.n t none .e):=rfl
theorem AM:vR (.o p) v (.n l x r) K=vR p v l λt=>K (.n t x r):=rfl
theorem AN:vR (.i p) v .e K=vR p v .e λt=>K (.n .e none t):=rfl
theorem AO:vR (.i p) v (.n l x r) K=vR p v r λt=>K (.n l x t):=rfl
theorem Es:vS none v fr K=K fr:=rfl
theorem Eu:vS (some p) v fr K=vR p v fr K:=rfl
theorem AP:N6 .h kp=kp (.o .h):=rfl
theorem AQ:N6 (.o p) kp=kp (.i p):=rfl
theorem AR:N6 (.i p) kp=N6 p λq=>kp (.o q):=rfl
theorem AS(f:KK R)(k:List (KK R)->Option R):R7 [] f k=k [f]:=rfl
theorem AT(a:KK R)(as:List (KK R))(f:KK R)(k:List (KK R)->Option R):R7 (a::as) f k=R7 as f λl=>k (a::l):=rfl
theorem Kj(st:St):pkR [] st=some (.tuple [],st):=rfl
theorem Kk(st:St):pkR [v] st=some (v,st):=rfl
theorem Kl(vs:List AV)(st:St):pkR (v::u::vs) st=some (.tuple (v::u::vs),st):=rfl
theorem ug(c:ai)(F:Nat)(Ls:Un->List Q2->Nat->Q2)(ag:Q2)(ko:List Q2)(l:List Pos)(t:Tx)(vs:List AV)(st:St):fX c F Ls ag ko (l,t) vs st=vU l vs .e λfr=>ev c F Ls ag ko t [] [] fr st [] .e:=rfl
end
def su{α:Type}:Option α->Bool
 |none=>true
 |some _=>false
theorem aer{α:Type}{o:Option α}(h:su o=true):o=none:=by cases o with|none=>rfl|some _=>cases h
theorem aes{α:Type}[Inhabited α]{o:Option α}(h:su o=false):o=some (o.getD default):=by cases o with|none=>cases h|some _=>rfl
def qj(G:T cI)(f:Nat):cI:=(G.get (key f)).getD default
theorem aab{O:dZ}{G:T cI}{F:Nat}{L:Env (AV×St)}{f:FuncId}{s:Sh}{args:List AV}{st:St}{r:AV×St}(hk:(su (O f)&& !su (G.get (key f)))=true)
  (hL:∀x∈dY (qj G f).code s,vL (run O G) F L x.1 x.2) {k:O2} (hd:zl (run O G) F L (qj G f) s args st=k) (h:k=some r):run O G f args st=some (tidy st r):=by
 simp only[Za8,Zh7]at hk;exact abt (aer hk.1) (aes hk.2) hL (hd.trans h)
theorem Wq{O:dZ}{G:T cI}{F:Nat}{f:FuncId}{args:List AV}{st:St}{r:AV×St}(s:Sh)(hk:(su (O f)&& !su (G.get (key f))&&(dY (qj G f).code s).isEmpty)=true)
  {k:O2} (hd:zl (run O G) F (R4 []) (qj G f) s args st=k) (h:k=some r):run O G f args st=some (tidy st r):=by
 rw[Za8,List.isEmpty_iff]at hk;exact aab hk.1 (by rw[hk.2];intro x hx;cases hx) hd h
theorem Pe{O:dZ}{G:T cI}{F:Nat}{f:FuncId}{args:List AV}{st:St}{r:AV×St}(Ls:Un->List Q2->Nat->Q2)(s:Sh)(n:Nat)(hk:(su (O f)&& !su (G.get (key f))&&Nat.beq (dY (qj G f).code s).length n)=true)
  (hL:∀i,i<n->vL (run O G) F (m7 Ls (qj G f) s) (fC (qj G f) s i).1 (fC (qj G f) s i).2) {k:O2} (hd:zl (run O G) F (m7 Ls (qj G f) s) (qj G f) s args st=k) (h:k=some r):run O G f args st=some (tidy st r):=by
 rw[Za8]at hk;exact aab hk.1 (abu n hk.2 hL) hd h
theorem Wr {O:dZ} {G:T cI}  {F:Nat}{f:FuncId}{args:List AV}{st:St}{r:AV×St}(Ls:Un->List Q2->Nat->Q2)(s:Sh)(hk:(su (O f)&& !su (G.get (key f))&&Nat.beq (dY (qj G f).code s).length 1)=true)
  (hs:(O9 (fC (qj G f) s 0).2&&Nat.beq (ZU (fC (qj G f) s 0).2) 0)=true) (h0:∀K' vs st,m7 Ls (qj G f) s 0 K' 0 vs st=none)
  (h1:∀K' n vs st,m7 Ls (qj G f) s 0 K' (n+1) vs st=Ek (den (run O G) F (m7 Ls (qj G f) s) (fC (qj G f) s 0).1 (lpB (fC (qj G f) s 0).2)) (lpI (fC (qj G f) s 0).2) (ZV (fC (qj G f) s 0).2) K' (m7 Ls (qj G f) s 0 K' n) vs st)
  {k:O2} (hd:zl (run O G) F (m7 Ls (qj G f) s) (qj G f) s args st=k) (h:k=some r):run O G f args st=some (tidy st r):=
 Pe Ls s 1 hk (fun i hi=>by obtain rfl:i=0:=by omega
                            exact eF 0 hs h0 h1) hd h
end
section
open Go
theorem qM{R:Type}{Q:Option R->Prop}(P:(List AV->St->Option R)->Prop){A:(List AV->St->Option R)->Option R}{T:List AV->St->Option R}(hT:P T)(hA:∀j,P j->Q (A j)):Q (gM A T):=hA T hT
theorem Ws{m:Nat}(h1:1<=m)(h2:m<=18):m=1\/m=2\/m=3\/m=4\/m=5\/m=6\/m=7\/m=8\/m=9\/m=10\/m=11\/m=12\/m=13\/m=14\/m=15\/m=16\/m=17\/m=18:=by omega
end
section
def ux(tk:List Bool)(fr:Nat):Nat->Nat->Option Nat
 |0,_=>none
 |m+1,k=>if tk.getD ((fr+k) % tk.length) true=false then some ((fr+k) % tk.length)else ux tk fr m (k+1)
def N9(tk:List Bool)(fr:Nat):List Bool×Int:=match ux tk fr tk.length 0 with
 |some s=>(tk.set s true,(s:Int))
 |none=>(tk,-1)
theorem Hv{tk:List Bool}{fr s:Nat}:∀{m k:Nat},ux tk fr m k=some s->tk[s]? =some false
 |0,_,h=>by cases h
 |m +1,k,h=>by
  unfold ux at h;split at h
  . rename_i e;cases h;cases e2:tk[(fr+k) % tk.length]? with
    |none=>rw[Zb4,e2]at e;simp at e
    |some b=>rw[Zb4,e2]at e;simp at e;rw[e]
  .exact Hv h
theorem Hw{tk:List Bool}{fr:Nat}:∀{m k:Nat},ux tk fr m k=none->∀j,k<=j->j<k+m->tk.getD ((fr+j) % tk.length) true=true
 |0,_,_,j,h1,h2=>by omega
 |m +1,k,h,j,h1,h2=>by
  unfold ux at h;split at h
  .cases h
  . rename_i e;by_cases e2:j=k
    .subst e2;simpa using e
    .exact Hw h j (by omega) (by omega)
def Oa(tk:List Bool):Nat:=(tk.filter λb=> !b).length
theorem Q0:∀{tk:List Bool},0<Oa tk->∃s:Nat,tk[s]? =some false
 |[],h=>by simp[Oa]at h
 |false::tk,_=>⟨0,rfl⟩
 |true::tk,h=>by
  obtain⟨s,hs⟩:=Q0 (tk:=tk) (by simpa [Oa]using h);exact⟨s+1,by simpa using hs⟩
theorem TG(tk:List Bool)(fr:Nat):((N9 tk fr).2= -1/\(N9 tk fr).1=tk/\Oa tk=0)\/∃s:Nat,N9 tk fr=(tk.set s true,(s:Int))/\tk[s]? =some false:=by
 unfold N9;cases e:ux tk fr tk.length 0 with
 |some s=>exact .inr ⟨s,rfl,Hv e⟩
 |none=>
  refine .inl ⟨rfl,rfl,?_⟩;rcases Zp1 (Oa tk)with h|h
  .exact h
  . exfalso;obtain⟨s,hs⟩:=Q0 h;have hl:s<tk.length:=(Za3.1 hs).1;have key:=Hw e ((s+tk.length - fr % tk.length) % tk.length) (Zj0 _) (by rw[Zd9];exact Zi4 _ (by omega));have hm:fr % tk.length<tk.length:=Zi4 _ (by omega);have:(fr+(s+tk.length - fr % tk.length) % tk.length) % tk.length=s:=by
        rw[Nat.add_mod,Nat.mod_mod];rcases Zi0 (s+tk.length - fr % tk.length) tk.length with h1|h1
        .rw[Zk2 h1];rw[show fr % tk.length+(s+tk.length - fr % tk.length)=s+tk.length by omega,Nat.add_mod_right,Zk2 hl]
        .rw[Zp0 h1,Zk2 (by omega:s+tk.length - fr % tk.length - tk.length<tk.length)];rw[show fr % tk.length+(s+tk.length - fr % tk.length - tk.length)=s by omega,Zk2 hl]
    rw[this,Zb4,hs]at key;simp at key
inductive Ch where
 |no
 |sit (s:Nat)
 |fr (f:Nat)
def looks:List Ch->Nat
 |[]=>0
 |.fr _::l=>looks l+1
 |_::l=>looks l
end
section
open Go
section
variable{R:Type}{c:ai}
end
theorem abN{R:Type}(K:AV->Option R){b:Pos}{off len es es':Nat}{cap:Option Nat}{k:IntKind}{i:Nat}(h:i<len):dJ (.idxA es none) [.slice b off len cap es',.int k (i:Int)] K=K (.ptr b (off+i*es)):=
 bU K (λH n=>by
  simp only[av.run,nG,fO];have:Nat.blt i len=true:=by rw[Zq0];exact h
  rw[this])
end
end Go.Ai
namespace Go.Ai.Mvs
section
def sm:Nat->(Nat->Nat)->Nat
 |0,_=>0
 |n+1,f=>sm n f+f n
abbrev Q:=Nat->Int
abbrev Ms:=List (Nat×Int×Int)
def upd(q:Q)(g:Nat)(t:Int):Q:=λi=>if i=g then t else q i
def Run(n:Nat):Q->Ms->Q->Prop
 |q,[],r=>q=r
 |q,(g,f,t)::l,r=>g<n/\f≠t/\q g=f/\(0<=t->∀i,q i≠t)/\Run n (upd q g t) l r
def cm:Ms->Nat->Nat
 |[],_=>0
 |x::l,g=>(if g=x.1 then 1 else 0)+cm l g
section
variable{n:Nat}{a b q:Q}{l:Ms}
def off(b q:Q)(i:Nat):Bool:=decide (q i≠b i)
def Need(n:Nat)(a b:Q)(B:Nat->Bool)(k:Nat):Prop:=
 (∀S,Run n a S b->k<=sm n λi=>if B i then 0 else cm S i)/\2*k<=3*sm n λi=>if B i then 0 else if a i=b i then 0 else 1
def Mode(n:Nat)(a b q:Q)(l:Ms):Prop:=
 ((∀i<n,q i≠b i->q i=a i/\cm l i=0)/\Need n a b (off b q) l.length)\/
 ∃  B w k,Need n a b B k/\(∀z<n,B z=true->a z≠b z/\0<=b z/\∃y<n,B y=true/\a y=b z)/\w<n/\B w=true/\(∀i<n,q i≠b i->B i=true)/\
    l.length=k+1+sm n (λi=>if B i&& !off b q i then 1 else 0)/\(∀i<n,q i≠b i->i≠w->q i=a i/\cm l i=0)/\(q w≠b w->q w= -1/\cm l w<=1)
structure Inv(n:Nat)(a b q:Q)(l:Ms):Prop where
 run:Run n a l q
 two:∀g,cm l g<=2
 mov:∀g,cm l g≠0->a g≠b g
 mode:Mode n a b q l
def Ld(n:Nat)(b q:Q):Nat:=sm n λi=>if q i=b i then 0 else if q i<0 then 1 else 2
end
end
end Go.Ai.Mvs
namespace Go.Ai.Wt
section
def cnt(pre:List Int)(a b:Int):Nat:=pre.countP λz=>decide (a<=z)&&decide (z<b)
theorem kB(pre:List Int){a b c:Int}(h1:a<=b)(h2:b<=c):cnt pre a c=cnt pre a b+cnt pre b c:=by
 induction pre with
 |nil=>rfl
 |cons z l ih=>
  unfold cnt at ih ⊢;simp only[List.countP_cons,ih];by_cases e1:a<=z<;>by_cases e2:z<b<;>by_cases e3:z<c<;>by_cases e4:b<=z<;>simp[e1,e2,e3,e4]<;>omega
theorem uT(pre:List Int)(b:Int):cnt pre b (b+1)=pre.count b:=by
 unfold cnt List.count;congr 1;funext z;by_cases e:z=b
 .subst e;simp;omega
 .have:(z==b)=false:=(by simpa using e);rw[this];by_cases e1:b<=z<;>by_cases e2:z<b+1<;>simp[e1,e2]<;>omega
theorem CQ(pre:List Int)(a:Int):cnt pre a a=0:=by unfold cnt;rw[List.countP_eq_zero];intro z _;simp only[Za8,Zd1];omega
theorem Gg{pre:List Int}(hn:pre.Nodup){a:Int}:∀m:Nat,(∀y:Int,a<=y->y<a+m->y∈pre)->cnt pre a (a+m)=m
 |0,_=>by rw[show a+((0:Nat):Int)=a by omega];exact CQ pre a
 |m+1,h=>by
  rw[show a+((m+1:Nat):Int)=(a+m)+1 by omega,kB pre (b:=a+m) (by omega) (by omega),Gg hn m λy h1 h2=>h y h1 (by omega),uT,hn.count,Za7 (h _ (by omega) (by omega))]
theorem TH{pre:List Int}(hn:pre.Nodup){a:Int}:∀m:Nat,cnt pre a (a+m)<=m
 |0=>by rw[show a+((0:Nat):Int)=a by omega,CQ];exact Za6 _
 |m+1=>by rw[show a+((m+1:Nat):Int)=(a+m)+1 by omega,kB pre (b:=a+m) (by omega) (by omega),uT,hn.count];have:=TH hn (a:=a) m;split<;>omega
theorem Pg{pre:List Int}{s:Int}(h:∀y∈pre,0<=y/\y<s):cnt pre 0 s=pre.length:=by unfold cnt;rw[List.countP_eq_length];intro z hz;have:=h z hz;simp only[Za8,Zd1];omega
def dg(pre:List Int)(x:Int):Int:=x - (cnt pre 0 x:Int)
section
variable{pre:List Int}{s x y:Int}
structure Ok(s:Int)(pre:List Int):Prop where
 nd:pre.Nodup
 rg:∀y∈pre,0<=y/\y<s
theorem Ok.snoc(h:Ok s pre)(hx:x∉pre)(h0:0<=x)(h1:x<s):Ok s (pre++[x]):=by
 refine⟨?_,λy hy=> ?_⟩
 .rw[List.nodup_append];refine⟨h.nd,by simp,λa ha b hb=> ?_⟩;rw[Zc3]at hb;subst hb;exact λe=>hx (e ▸ha)
 . rcases Zc9.1 hy with hy|hy
   .exact h.rg y hy
   .rw[Zc3]at hy;subst hy;exact⟨h0,h1⟩
theorem acW(h:Ok s pre)(h0:0<=x):0<=dg pre x:=by have:=TH h.nd (a:=0) x.toNat;rw[show(0:Int)+(x.toNat:Int)=x by omega]at this;unfold dg;omega
theorem afl(h:Ok s pre)(hx:x∉pre)(h0:0<=x)(h1:x<s):dg pre x+1<=s - pre.length:=by have a:=Pg h.rg;rw[kB pre (b:=x) (by omega) (by omega),kB pre (a:=x) (b:=x+1) (by omega) (by omega),uT,Zm7.2 hx]at a;have b:=TH h.nd (a:=x+1) (s - x - 1).toNat;rw[show x+1+((s - x - 1).toNat:Int)=s by omega]at b;unfold dg;omega
theorem aet(h:Ok s pre)(hx:x∉pre)(h0:0<=x)(h1:x<s)(hy:∀y,x<y->y<s->y∈pre):dg pre x+1=s - pre.length:=by
 have a:=Pg h.rg;rw[kB pre (b:=x) (by omega) (by omega),kB pre (a:=x) (b:=x+1) (by omega) (by omega),uT,Zm7.2 hx]at a;have b:=Gg h.nd (a:=x+1) (s - x - 1).toNat λy h1 h2=>hy y (by omega) (by omega)
 rw[show x+1+((s - x - 1).toNat:Int)=s by omega]at b;unfold dg;omega
theorem adC(h:Ok s pre)(hx:x∉pre)(h0:0<=x)(h1:x<y)(hy:∀z,x<z->z<y->z∈pre):dg pre y=dg pre x+1:=by
 have b:=Gg h.nd (a:=x+1) (y - x - 1).toNat λz h1 h2=>hy z (by omega) (by omega)
 rw[show x+1+((y - x - 1).toNat:Int)=y by omega]at b;unfold dg;rw[kB pre (a:=0) (b:=x) (c:=y) (by omega) (by omega),kB pre (a:=x) (b:=x+1) (by omega) (by omega),uT,Zm7.2 hx,b];omega
theorem adD(h:Ok s pre)(h0:0<=x)(hy:∀z,0<=z->z<x->z∈pre):dg pre x=0:=by
 have b:=Gg h.nd (a:=0) x.toNat λz h1 h2=>hy z (by omega) (by omega)
 rw[show(0:Int)+(x.toNat:Int)=x by omega]at b;unfold dg;omega
end
def pr(s:Int):Nat->Nat->Int
 |0,_=>1
 |m+1,g=>(s - g)*pr s m (g+1)
theorem yR{s:Int}:∀(m g:Nat),((g+m:Nat):Int)<=s->1<=pr s m g
 |0,_,_=>by show(1:Int)<=1;omega
 |m+1,g,h=>by
  have h1:=yR (s:=s) m (g+1) (by omega);have h2:1<=s - g:=by omega
  have:=Int.mul_le_mul h2 h1 (by omega) (by omega);unfold pr;omega
def rk(s:Int):Int->List Int->List Int->Int
 |acc,_,[]=>acc
 |acc,pre,x::xs=>rk s (acc*(s - pre.length)+dg pre x) (pre++[x]) xs
def Seq(s:Int):List Int->List Int->Prop
 |_,[]=>True
 |pre,x::xs=>x∉pre/\0<=x/\x<s/\Seq s (pre++[x]) xs
section
variable{s:Int}
theorem fQ(pre:List Int)(x:Int):(pre++[x]).length=pre.length+1:=by simp
theorem Ob:∀(xs pre:List Int)(acc:Int),Ok s pre->Seq s pre xs->((pre.length+xs.length:Nat):Int)<=s->rk s acc pre xs+1<=(acc+1)*pr s xs.length pre.length
 |[],pre,acc,_,_,_=>by simp[rk,pr]
 |x::xs,pre,acc,h,⟨h1,h2,h3,h4⟩,hl=>by
  rw[Zd4]at hl;have ih:=Ob xs (pre++[x]) (acc*(s - pre.length)+dg pre x) (h.snoc h1 h2 h3) h4 (by rw[fQ];omega);rw[fQ]at ih;have hp:=yR (s:=s) xs.length (pre.length+1) (by omega);have hd:=afl h h1 h2 h3;have:(acc*(s - pre.length)+dg pre x+1)*pr s xs.length (pre.length+1)<=(acc+1)*((s - pre.length)*pr s xs.length (pre.length+1)):=by rw[<-Zm3];refine Zk3 ?_ (by omega);rw[Int.add_mul];omega
  show rk s _ (pre++[x]) xs+1<=(acc+1)*((s - pre.length)*pr s xs.length (pre.length+1))
  omega
def TJ(s:Int):List Int->List Int->Prop
 |_,[]=>True
 |pre,x::xs=>(∀y,x<y->y<s->y∈pre)/\TJ s (pre++[x]) xs
theorem Ph:∀(xs pre:List Int)(acc:Int),Ok s pre->Seq s pre xs->TJ s pre xs->rk s acc pre xs+1=(acc+1)*pr s xs.length pre.length
 |[],pre,acc,_,_,_=>by simp[rk,pr]
 |x::xs,pre,acc,h,⟨h1,h2,h3,h4⟩,⟨l1,l2⟩=>by
  have ih:=Ph xs (pre++[x]) (acc*(s - pre.length)+dg pre x) (h.snoc h1 h2 h3) h4 l2;rw[fQ]at ih;have hd:=aet h h1 h2 h3 l1;show rk s _ (pre++[x]) xs+1=(acc+1)*((s - pre.length)*pr s xs.length (pre.length+1))
  rw[ih, <-Zm3];congr 1;rw[Int.add_mul];omega
def Km(s:Int):List Int->List Int->Prop
 |_,[]=>True
 |pre,x::xs=>(∀y,0<=y->y<x->y∈pre)/\Km s (pre++[x]) xs
theorem TM:∀(xs pre:List Int)(acc:Int),Ok s pre->Seq s pre xs->Km s pre xs->rk s acc pre xs=acc*pr s xs.length pre.length
 |[],pre,acc,_,_,_=>by simp[rk,pr]
 |x::xs,pre,acc,h,⟨h1,h2,h3,h4⟩,⟨l1,l2⟩=>by
  have ih:=TM xs (pre++[x]) (acc*(s - pre.length)+dg pre x) (h.snoc h1 h2 h3) h4 l2;rw[fQ]at ih;have hd:=adD h h2 l1;show rk s _ (pre++[x]) xs=acc*((s - pre.length)*pr s xs.length (pre.length+1))
  rw[ih, <-Zm3,hd,Int.add_zero]
theorem Oc:∀(xs ys pre:List Int)(acc:Int),rk s acc pre (xs++ys)=rk s (rk s acc pre xs) (pre++xs) ys
 |[],ys,pre,acc=>by simp[rk]
 |x::xs,ys,pre,acc=>by show rk s _ (pre++[x]) (xs++ys)=rk s (rk s _ (pre++[x]) xs) (pre++x::xs) ys;rw[Oc xs ys];simp
theorem Seq.app:∀{xs ys pre:List Int},Seq s pre (xs++ys)↔Seq s pre xs/\Seq s (pre++xs) ys
 |[],ys,pre=>by simp[Seq]
 |x::xs,ys,pre=>by
  show(x∉pre/\0<=x/\x<s/\Seq s (pre++[x]) (xs++ys))↔(x∉pre/\0<=x/\x<s/\Seq s (pre++[x]) xs)/\Seq s (pre++x::xs) ys;rw[Seq.app (xs:=xs)];simp[and_assoc]
theorem Seq.ok:∀{xs pre:List Int},Ok s pre->Seq s pre xs->Ok s (pre++xs)
 |[],pre,h,_=>by simpa using h
 |x::xs,pre,h,⟨h1,h2,h3,h4⟩=>by have:=Seq.ok (h.snoc h1 h2 h3) h4;simpa using this
theorem adE{pre xs ys:List Int}{x y:Int}(h:Ok s [])(hs:Seq s [] (pre++x::xs))(hl:TJ s (pre++[x]) xs)(hxy:x<y)(yF:y<s)(hny:y∉pre)(hb:∀z,x<z->z<y->z∈pre)
  (pI:Seq s (pre++[y]) ys) (hle:Km s (pre++[y]) ys) (hlen:ys.length=xs.length):rk s 0 [] (pre++y::ys)=rk s 0 [] (pre++x::xs)+1:=by
 obtain⟨s1,s2⟩:=Seq.app.1 hs;rw[Ze0]at s2;obtain⟨a1,a2,a3,a4⟩:=s2;have dw:=Seq.ok h s1;rw[Ze0]at dw;rw[Oc,Oc,Ze0];show rk s _ (pre++[y]) ys=rk s _ (pre++[x]) xs+1;rw[Ph xs _ _ (dw.snoc a1 a2 a3) a4 hl,TM ys _ _ (dw.snoc hny (by omega) yF) pI hle,fQ,fQ,hlen,adC dw a1 a2 hxy hb];congr 1;omega
end
def dW(q:List Int):Nat->Nat->List Int
 |0,_=>[]
 |m+1,k=>if(k:Int)∈q then dW q m (k+1)else(k:Int)::dW q m (k+1)
theorem Ev:∀(m k:Nat),dW [] m k=(List.range' k m).map λ(i:Nat)=>(i:Int)
 |0,k=>rfl
 |m+1,k=>by rw[dW,Za5 (by simp),Ev m (k+1),Zl8,Zd6]
theorem Ew{q:List Int}:∀(m k:Nat),∀x∈dW q m k,(k:Int)<=x/\x<((k+m:Nat):Int)/\x∉q
 |0,k,x,h=>by cases h
 |m +   1,k,x,h=>by
  rw[dW]at h;split at h
  .have:=Ew m (k+1) x h;exact⟨by omega,by omega,this.2.2⟩
  . rename_i hk;rcases Zb1.1 h with rfl|h
    .   exact⟨by omega,by omega,hk⟩
    .   have:=Ew m (k+1) x h;exact⟨by omega,by omega,this.2.2⟩
theorem TN{q:List Int}(hn:q.Nodup):∀(m k i:Nat)(x:Int),(dW q m k)[i]? =some x->((cnt q k x+i:Nat):Int)=x - k
 |0,k,i,x,h=>by simp[dW]at h
 |m +   1,k,i,x,h=>by
  rw[dW]at h;split at h
  .rename_i hk;have:=TN hn m (k+1) i x h;have hg:=(Ew m (k+1) x (Zb5 h)).1;rw[kB q (a:=(k:Int)) (b:=(k:Int)+1) (c:=x) (by omega) (by omega),uT,hn.count,Za7 hk];rw[show(((k+1:Nat):Int))=(k:Int)+1 by omega]at this;omega
  . rename_i hk;cases i with
    |   zero=>
        simp at h;subst h;rw[CQ];omega
    |   succ i=>
        rw[Ze5]at h;have:=TN hn m (k+1) i x h;have hg:=(Ew m (k+1) x (Zb5 h)).1;rw[kB q (a:=(k:Int)) (b:=(k:Int)+1) (c:=x) (by omega) (by omega),uT,Zm7.2 hk];rw[show(((k+1:Nat):Int))=(k:Int)+1 by omega]at this;omega
theorem TO{q:List Int}{x:Int}:∀(m k:Nat),(x<k\/((k+m:Nat):Int)<=x)->dW (q++[x]) m k=dW q m k
 |0,k,_=>rfl
 |m+1,k,h=>by
  have cF:(k:Int)≠x:=by omega
  rw[dW,dW,TO m (k+1) (by omega)];simp[cF]
theorem Pj{q:List Int}{x:Int}:∀(m k i:Nat),(dW q m k)[i]? =some x->(dW q m k).eraseIdx i=dW (q++[x]) m k
 |0,k,i,h=>by simp[dW]at h
 |m +   1,k,i,h=>by
  rw[dW]at h ⊢;rw[dW];by_cases hk:(k:Int)∈q
  .rw[Za7 hk]at h ⊢;rw[Za7 (Zh0 _ hk)];exact Pj m (k+1) i h
  . rw[Za5 hk]at h ⊢;cases i with
    |   zero=>
        simp at h;subst h;rw[Za7 (by simp),List.eraseIdx_zero,List.tail_cons,TO m (k+1) (by omega)]
    |   succ i=>
        rw[Ze5]at h;have hg:=(Ew m (k+1) x (Zb5 h)).1;rw[Za5 (λh=>by rcases Zc9.1 h with h|h;exact hk h;rw[Zc3]at h;omega),List.eraseIdx_cons_succ,Pj m (k+1) i h]
theorem Wu{q:List Int}(hn:q.Nodup):∀(m k:Nat),(dW q m k).length+cnt q k ((k+m:Nat):Int)=m
 |0,k=>by rw[show((k+0:Nat):Int)=k by omega,CQ];rfl
 |m+1,k=>by
  have ih:=Wu hn m (k+1);rw[kB q (a:=(k:Int)) (b:=(k:Int)+1) (by omega) (by omega),uT,hn.count,dW];rw[show((k+1+m:Nat):Int)=((k+(m+1):Nat):Int)by omega,show(((k+1:Nat):Int))=(k:Int)+1 by omega]at ih;by_cases hk:(k:Int)∈q
  .rw[Za7 hk,Za7 hk];omega
  .rw[Za5 hk,Za5 hk,Zd4];omega
def Q1(s:Nat):Nat->List Int->Nat->List Int
 |0,q,_=>q
 |  m+1,q,n=>
    let k:=(pr s m (q.length+1)).toNat
    Q1 s m (q++[(dW q s 0).getD (n / k) 0]) (n % k)
theorem Kn{s:Nat}{q:List Int}(h:Ok s q):(dW q s 0).length+q.length=s:=by have:=Wu h.nd s 0;rw[show((0+s:Nat):Int)=(s:Int)by omega,show((0:Nat):Int)=0 from rfl,Pg h.rg]at this;exact this
theorem Wv{s m n:Nat}{q:List Int}(h:Ok s q)(hl:q.length+(m+1)<=s)(hn:(n:Int)<pr s (m+1) q.length):
  ∃k x,k=(pr s m (q.length+1)).toNat/\((k:Nat):Int)=pr s m (q.length+1)/\1<=k/\n / k<(dW q s 0).length/\(dW q s 0)[n / k]? =some x/\x∉q/\0<=x/\x<(s:Int)/\dg q x=((n / k:Nat):Int):=by
 have hp:=yR (s:=s) m (q.length+1) (by omega);obtain⟨k,hk⟩:∃k:Nat,pr s m (q.length+1)=(k:Int):=⟨(pr s m (q.length+1)).toNat,by omega⟩
 have hf:=Kn h;have e:pr s (m+1) q.length=((s:Int) - q.length)*(k:Int):=by rw[pr,hk]
 have aT:n / k<(dW q s 0).length:=by
  rw[Nat.div_lt_iff_lt_mul (by omega)];have:((s:Int) - q.length)*(k:Int)=((((dW q s 0).length*k:Nat)):Int):=by rw[Zq3];congr 1;omega
  omega
 have hx:=H5 aT;have h1:=Ew s 0 _ (Zb5 hx);have h2:=TN h.nd s 0 _ _ hx;refine⟨k,_,by rw[hk];rfl,hk.symm,by omega,aT,hx,h1.2.2,by omega,by omega,?_⟩;unfold dg;rw[show((0:Nat):Int)=0 from rfl]at h2;omega
theorem aac{s:Nat}:∀(m n:Nat)(q:List Int)(acc:Int),Ok s q->q.length+m<=s->(n:Int)<pr s m q.length->
  ∃xs,Q1 s m q n=q++xs/\xs.length=m/\Seq s q xs/\rk s acc q xs=acc*pr s m q.length+n
 |0,n,q,acc,_,_,hn=>by have hn:(n:Int)<1:=hn;refine⟨[],by simp[Q1],rfl,trivial,?_⟩;simp[rk,pr];omega
 |m +1,n,q,acc,h,hl,hn=>by
  obtain⟨k,x,hk,iu,kg,_,hx,h1,h2,h3,h4⟩:=Wv h hl hn;have hq:=h.snoc h1 h2 h3;have hm:n % k<k:=Zi4 _ kg;obtain⟨xs,e1,e2,e3,e4⟩:=aac m (n % k) (q++[x]) (acc*((s:Int) - q.length)+dg q x) hq (by rw[fQ];omega) (by rw[fQ, <-iu];omega);refine⟨x::xs,?_,by rw[Zd4,e2],⟨h1,h2,h3,e3⟩,?_⟩
  .rw[Q1, <-hk,Zb4,hx];simp only[Zg1];rw[e1];simp
  .show rk s _ (q++[x]) xs=_;rw[e4,fQ, <-iu,h4,pr, <-iu,Int.add_mul,Zm3];have:=Nat.div_add_mod n k;have h5:(((n / k:Nat)):Int)*(k:Int)=((k*(n / k):Nat):Int):=(by rw[Zq3];exact Int.mul_comm _ _);omega
def Hx(s:Nat)(q:List Int):Nat->Option (List Int)
 |0=>none
 |  g+1=>
    match (dW (q.take g) (s - ((q.getD g 0).toNat+1)) ((q.getD g 0).toNat+1)).head? with
    |some y=>some (q.take g++[y]++(dW (q.take g++[y]) s 0).take (q.length - (g+1)))
    |none=>Hx s q g
theorem Pk {s :Int}{out:List Int}:∀(m k n:Nat)(pre:List Int),((k+m:Nat):Int)<=s->(∀y:Int,0<=y->y<k->y∈pre)->(∀y:Int,(k:Int)<=y->(y∈pre↔y∈out))->
  Seq s pre ((dW out m k).take n)/\Km s pre ((dW out m k).take n)
 |0,k,n,pre,_,_,_=>by simp[dW,Seq,Km]
 |m +   1,k , n,pre,hs,h1,h2=>by
  rw[dW];by_cases hk:(k:Int)∈out
  . rw[Za7 hk];(refine Pk m (k+1) n pre (by omega) (λy a b=> ?_) λy a=>h2 y (by omega));by_cases e:y=k
    .   subst e;exact(h2 _ (by omega)).2 hk
    .   exact h1 y a (by omega)
  . rw[  Za5  hk];cases n with
    |zero=>simp[Seq,Km]
    |   succ n=>
        rw[Zo6];obtain⟨a1,a2⟩:=Pk (s:=s) (out:=out) m (k+1) n (pre++[(k:Int)]) (by omega) (λy a b=>by
         by_cases e:y=k
         .  subst e;simp
         .  exact Zh0 _ (h1 y a (by omega))) λy a=>by
            rw[Zc9,Zc3,h2 y (by omega)];constructor
            . rintro(h|h)
              .exact h
              .omega
            .exact .inl
        exact⟨⟨λh=>hk ((h2 _ (by omega)).1 h),by omega,by omega,a1⟩,⟨h1,a2⟩⟩
theorem TP{q:List Int}:∀(m k:Nat),match (dW q m k).head? with
  |some y=>(k:Int)<=y/\y<((k+m:Nat):Int)/\y∉q/\∀z:Int,(k:Int)<=z->z<y->z∈q
  |none=>∀z:Int,(k:Int)<=z->z<((k+m:Nat):Int)->z∈q
 |0,k=>by show ∀z:Int,(k:Int)<=z->z<((k+0:Nat):Int)->z∈q;intro z h1 h2;omega
 |m +   1,k=>by
  rw[dW];by_cases hk:(k:Int)∈q
  . rw[Za7 hk];have ih:=TP (q:=q) m (k+1);cases h:(dW q m (k+1)).head? with
    |   none=>
        rw[h]at ih;simp only at ih ⊢;intro z h1 h2;by_cases e:z=k
        .subst e;exact hk
        .exact ih z (by omega) (by omega)
    |   some y=>
        rw[h]at ih;simp only at ih ⊢;refine⟨by omega,by omega,ih.2.2.1,λz h1 h2=> ?_⟩;by_cases e:z=k
        .subst e;exact hk
        .exact ih.2.2.2 z (by omega) h2
  .rw[Za5 hk,List.head?_cons];simp only;exact⟨by omega,by omega,hk,λz h1 h2=>by omega⟩
def Below(a b:List Int):Prop:=∃pre x y xs ys,a=pre++x::xs/\b=pre++y::ys/\x<y
theorem aad{s:Nat}{q:List Int}(hs:Seq s [] q)(hl:q.length<=s):∀g,g<=q.length->TJ s (q.take g) (q.drop g)->
  match Hx s q g with
  |some r=>r.length=q.length/\Seq s [] r/\rk s 0 [] r=rk s 0 [] q+1/\Below q r
  |none=>TJ s [] q
 |0,_,h=>by simpa [Hx]using h
 |g+    1,hg,h=>by
  have zL:g<q.length:=by omega
  have eg:q=q.take g++q[g]::q.drop (g+1):=by rw[<-Zc7 zL,Zg6]
  have et:q.take (g+1)=q.take g++[q[g]]:=by rw[Zc4 zL]
  have ed:q.getD g 0=q[g]:=by rw[Zb4,H5 zL];rfl
  have gK:=hs;rw[eg]at gK;obtain⟨s1,s2⟩:=Seq.app.1 gK;rw[Ze0]at s2;obtain⟨a1,a2,a3,a4⟩:=s2;have dw:=Seq.ok (⟨Zj7,λy hy=>by cases hy⟩:Ok (s:Int) []) s1;rw[Ze0]at dw;rw[et]at h;have hd:=TP (q:=q.take g) (s - (q[g].toNat+1)) (q[g].toNat+1);rw[Hx,ed];cases hh:(dW (q.take g) (s - (q[g].toNat+1)) (q[g].toNat+1)).head? with
  |none=>
   rw[hh]at hd;simp only at hd ⊢;refine aad hs hl g (by omega) ?_;rw[Zc7 zL];exact⟨λy h1 h2=>hd y (by omega) (by omega),h⟩
  |some y=>
   (rw[hh]at hd;simp only at hd ⊢;obtain⟨d1,d2,d3,d4⟩:=hd;have abO:=dw.snoc (x:=y) d3 (by omega) (by omega);obtain⟨f1,f2⟩:=Pk (s:=(s:Int)) (out:=q.take g++[y]) s 0 (q.length - (g+1)) (q.take g++[y]) (by omega) (λz h1 h2=>by omega) λz _=>Iff.rfl);have Bd:=Kn abO;have CA:(q.take g++[y]).length=g+1:=(by simp;omega);have htl:((dW (q.take g++[y]) s 0).take (q.length - (g+1))).length=(q.drop (g+1)).length:=(by rw[Zd5,Zj5];omega);have er:q.take g++[y]++(dW (q.take g++[y]) s 0).take (q.length - (g+1))=q.take g++y::(dW (q.take g++[y]) s 0).take (q.length - (g+1)):=(by simp);rw[er];refine⟨?_,?_,?_,?_⟩
   .    rw[Zd7,Zd4,htl,Zd5,Zj5];omega
   .    exact Seq.app.2 ⟨s1,by rw[Ze0];exact⟨d3,by omega,by omega,f1⟩⟩
   .    have:=adE (s:=(s:Int)) (pre:=q.take g) (x:=q[g]) (y:=y) (xs:=q.drop (g+1)) ⟨Zj7,λy hy=>by cases hy⟩ gK h (by omega) (by omega) d3 (λz h1 h2=>d4 z (by omega) h2) f1 f2 htl;rw[<-eg]at this;exact this
   .    exact⟨q.take g,q[g],y,q.drop (g+1),_,eg,rfl,by omega⟩
theorem adF{s:Nat}{q:List Int}(hs:Seq s [] q)(hl:q.length<=s):
  match Hx s q q.length with
  |some r=>r.length=q.length/\Seq s [] r/\rk s 0 [] r=rk s 0 [] q+1/\rk s 0 [] q+1<pr s q.length 0/\Below q r
  |none=>rk s 0 [] q+1=pr s q.length 0:=by
 have h:=aad hs hl q.length (Za6 _) (by rw[List.drop_length];trivial);have Le:Ok (s:Int) []:=⟨Zj7,λy hy=>by cases hy⟩
 cases hn:Hx s q q.length with
 |none=>
  rw[hn]at h;have:=Ph q [] 0 Le hs h;simpa using this
 |some r=>
  rw[hn]at h;simp only at h ⊢;obtain⟨h1,h2,h3,h4⟩:=h;have:=Ob r [] 0 Le h2 (by rw[h1];simpa using hl);rw[h1]at this;simp only[Zj8,Int.zero_add,Int.one_mul]at this;exact⟨h1,h2,h3,by omega,h4⟩
end
end Go.Ai.Wt
namespace Go.Ai
section
open Go
structure Rd(s:St)(es:Nat)(L:AV)(i:Nat)(b:Pos)(o:Nat)(r:List AV):Prop where
 st:∀{R:Type}(c:ai)(K:AV->St->Option R)(k:IntKind)(s1:St),ak c (.idxA es none) [L,.int k (i:Int)] s1 K=K (.ptr b o) s1
 pr:∀{R:Type}(K:AV->Option R)(k:IntKind),dJ (.idxA es none) [L,.int k (i:Int)] K=K (.ptr b o)
 at':∀(j:Nat)(u:AV),r[j]? =some u->((cellsOf (s.heap.get b)).bind λcs=>cs[o+j]?)=some u
 all:((cellsOf (s.heap.get b)).bind λcs=>cut cs o es)=some r
theorem QS.rd{s:St}{es:Nat}{v:AV}{rows:List (List AV)}(h:QS es s v rows)(hr:∀r∈rows,r.length=es){i:Nat}{r:List AV}(hi:rows[i]? =some r):∃b o,Rd s es v i b o r:=by
 obtain⟨jX,rfl⟩:=Za3.1 hi;have hlen:=hr _ (Zc6 jX);rcases h with⟨rfl,h⟩|⟨b,off,cap,cs,rfl,g1,g2,g3,g4⟩|⟨b,off,rfl,h⟩
 .rw[h]at jX;simp at jX
 rotate_left
 .rw[h]at jX;simp at jX
 have hmul:(i+1)*es<=rows.length*es:=Zg9 _ jX;rw[Zj4]at hmul;have at0:∀(j:Nat)(u:AV),rows[i][j]? =some u->cs[off+i*es+j]? =some u:=λj u hj=>by have hj2:j<es:=(by rw[<-hlen];exact(Za3.1 hj).1);have:=Go.Ai.Bs hr i j rows[i] u (H5 jX) hj;rw[<-g3,Zb8,Za7 (by omega),Zc5]at this;rw[<-this];congr 1;omega
 refine⟨b,off+i*es,λc K k s1=>Gc c K s1 jX,λK k=>abN K jX,λj u hj=>by rw[g1];exact at0 j u hj,?_⟩;rw[g1];show cut cs (off+i*es) es=some rows[i];unfold cut;rw[di,Za0 (by omega)];refine congrArg some ?_;apply Zi3;intro j;by_cases hj:j<es
 .rw[Zb8,Za7 hj,Zc5];exact(at0 j (rows[i]'jX)[j] (H5 (by omega))).trans (H5 (by omega)).symm
 .rw[Zc0 (by simp;omega),Zc0 (by omega)]
theorem Rd.one{s:St}{L x:AV}{i:Nat}{b:Pos}{o:Nat}(h:Rd s 1 L i b o [x]):((cellsOf (s.heap.get b)).bind λcs=>cs[o]?)=some x:=h.at' 0 x rfl
theorem QS.Ww{s:St}{v:AV}{l:List AV}(h:QS 1 s v (l.map abI)){i:Nat}{x:AV}(hx:l[i]? =some x):∃b o,Rd s 1 v i b o [x]:=
 h.rd (abJ l) (by rw[Zc1,hx];rfl)
theorem QS.aE{es:Nat}{s s':St}{v:AV}{rows:List (List AV)}(h:QS es s v rows)(g:Grew s s'):QS es s' v rows:=h.mono λb x _ hx=>g.get hx
section
variable{c:ai}{R:Type}
theorem acX{x:Int}(h1:0<=x)(h2:x<=18446744073709551615):aq .u64 x=x:=by
 unfold aq Qc Qd;simp only;split
 . split
   .rfl
   .contradiction
 .contradiction
end
theorem T.Mt{α:Type}{x:α}:∀(p:Pos)(t:T α),t.get p=some x->T.put (some x) p t=t
 |p,.e,h=>by rw[T.dD]at h;cases h
 |.h,.n l v r,h=>by have h:v=some x:=h;subst h;rfl
 | .o p,.n l v r,h=>by
   have h:l.get p=some x:=h;simp only[T.put];rw[T.Mt p l h]
 | .i p,.n l v r,h=>by
   have h:r.get p=some x:=h;simp only[T.put];rw[T.Mt p r h]
theorem aae{s:St}{p:Pos}{b:AB}(h:s.heap.get p=some b):b9 s p b=s:=by
 unfold b9;rw[T.Mt p s.heap h]
end
end Go.Ai
