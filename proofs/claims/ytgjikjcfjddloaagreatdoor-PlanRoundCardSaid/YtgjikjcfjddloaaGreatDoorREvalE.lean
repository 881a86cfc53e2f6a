/- The program as plain functions. -/
import Derived.Test.YtgjikjcfjddloaaGreatDoorREvalD
import Derived.WalkKit
import Derived.OpenShut
import Derived.ProofKit
import Derived.ShutString
set_option linter.all false
namespace Go.Ai
section
open Go Go.RowKit
def Ou(c c':ai):Prop:=∀f args st r,c f args st=some r->c' f args st=some r
theorem Ou.refl(c:ai):Ou c c:=λ_ _ _ _ h=>h
section
variable{c c':ai}
theorem Jb(h:Ou c c'){k:av}{xs:List AV}{st:St}{r:AV×St}(e:bP c k xs st=some r):bP c' k xs st=some r:=by
 unfold bP at e ⊢;cases hr:k.run (λb=>st.heap.get b) st.next xs with
 |none=>simp[hr]at e
 |some x=>cases x with
  |val v=>simpa [hr]using e
  |aG v d s n=>simpa [hr]using e
  |call f args=>simp only[hr]at e ⊢; exact h _ _ _ _ e
theorem Nr(h:Ou c c'):∀(os:List bw)(fr:Fr)(st:St)(r:Fr×St),jN c os fr st=some r->jN c' os fr st=some r
 |[],_,_,_,e=>e
 |o::os,fr,st,r,e=>by
  unfold jN at e ⊢;cases hw:bW fr o.guard with
  |none=>simp[hw]at e
  |some b=>cases b with
   |false=>simp only[hw]at e ⊢; exact Nr h _ _ _ _ e
   |    true=>
        simp only[hw]at e ⊢;cases hx:e8 fr o.xs with
        |none=>simp[hx]at e
        |some xs=>
         simp only[hx]at e ⊢;cases hs:bP c o.k xs st with
         |none=>simp[hs]at e
         |some p=>simp only[hs]at e;simp only[Jb h hs];exact Nr h _ _ _ _ e
theorem Pp (h:Ou c c'):∀(os:List (Nat×bw))(recs:List Rec)(base:T AB)(fr:Fr)(st:St)(r:Fr×St),dN c os recs base fr st=some r->dN c' os recs base fr st=some r
 |[],_,_,_,_,_,e=>e
 |(j,   o)::os,recs,base,fr,st,r,e=>by
  have ih:=Pp h os;unfold dN at e ⊢;cases hw:bW fr o.guard with
  |none=>simp[hw]at e
  | some b=>cases b with
    |false=>simp only[hw]at e ⊢; exact ih _ _ _ _ _ e
    |   true=>
        simp only[hw]at e ⊢;cases hx:e8 fr o.xs with
        |none=>simp[hx]at e
        |some xs=>
         simp only[hx]at e ⊢;cases hc:o.cls with
         |  aG=>
            simp only[hc]at e ⊢;cases hs:bP c o.k xs st with
            |none=>simp[hs]at e
            |some p=>simp only[hs]at e;simp only[Jb h hs];exact ih _ _ _ _ _ e
         |  new=>
            simp only[hc]at e ⊢;split at e<;>first|(cases e;done)|exact ih _ _ _ _ _ e
         |  pure=>
            simp only[hc]at e ⊢;split at e<;>(try split at e)<;>(try split at e)<;>first|(cases e;done)|(simp only[*];exact ih _ _ _ _ _ e)|exact ih _ _ _ _ _ e
         |  read=>
            simp only[hc]at e ⊢;split at e<;>(try split at e)<;>(try split at e)<;>first|(cases e;done)|(simp only[*];exact ih _ _ _ _ _ e)|exact ih _ _ _ _ _ e
theorem Ns(h:Ou c c'):∀(n m:Nat),n<=m->∀(a:AC)(fr:Fr)(st:St)(r:jZ×Fr×St),exec c n a fr st=some r->exec c' m a fr st=some r
 |0,_,_,_,_,_,_,e=>by simp[exec]at e
 |n+1,0,hm,_,_,_,_,_=>by omega
 |n+    1,m+1,hm,a,fr,st,r,e=>by
  have ih:=Ns h n m (by omega);cases a<;>simp only[exec,bk]at e ⊢
  case skip=>exact e
  case exit=>exact e
  case ret=>exact e
  case region ops=>
   cases ho:jN c ops fr st with
   |none=>simp[ho]at e
   |some p=>simp only[ho]at e;simp only[Nr h _ _ _ _ ho];exact e
  case draw ops=>
   cases ho:dN c ops [] st.heap fr st with
   |none=>simp[ho]at e
   |some p=>simp only[ho]at e;simp only[Pp h _ _ _ _ _ _ ho];exact e
  case seq a b=>
   cases ha:exec c n a fr st with
   |none=>simp[ha]at e
   |    some p=>
        obtain⟨ex,cr,aQ⟩:=p;simp only[ha]at e;simp only[ih _ _ _ _ ha];cases ex<;>first|exact e|exact ih _ _ _ _ e
  case cond x a b=>
   split at e
   .    exact ih _ _ _ _ e
   .    exact ih _ _ _ _ e
   .    cases e
  case block id a=>
   cases ha:exec c n a fr st with
   |none=>simp[ha]at e
   |    some p=>
        obtain⟨ex,cr,aQ⟩:=p;simp only[ha]at e;simp only[ih _ _ _ _ ha];cases ex<;>exact e
  case loop a=>
   cases ha:exec c n a fr st with
   |none=>simp[ha]at e
   |    some p=>
        obtain⟨ex,cr,aQ⟩:=p;simp only[ha]at e;simp only[ih _ _ _ _ ha];cases ex<;>first|exact e|exact ih _ _ _ _ e
end
def Plain(v:AV):Prop:=∀(ρ ρ':Pos->Loc)(n n':Nat)(C:Cells)(x:Value),aq ρ n C v x->aq ρ' n' C v x
theorem Plain.bool(b:Bool):Plain (.bool b):=λ_ _ _ _ _ _ h=>by cases h;exact .bool b
theorem Plain.int(k:IntKind)(i:Int):Plain (.int k i):=λ_ _ _ _ _ _ h=>by cases h;exact .int k i
theorem Plain.str(s:List Nat):Plain (.str s):=λ_ _ _ _ _ _ h=>by cases h with|str _ bs h=>exact .str s bs h
theorem Plain.ah:Plain .ah:=λ_ _ _ _ _ _ h=>by cases h;exact .ah
theorem Plain.jV:Plain .jV:=λ_ _ _ _ _ _ h=>by cases h;exact .jV
theorem Plain.func(f:FuncId){a b:List AV}(ha:∀v∈a,Plain v)(hb:∀v∈b,Plain v):Plain (.func f a b):=λ_ _ _ _ _ _ h=>by
 cases h with
 |func _ _ _ a' b' hx hy h1 h2=>exact .func f a b a' b' hx hy (λi v x hv hx=>ha v (Zb4 hv) _ _ _ _ _ _ (h1 i v x hv hx)) (λi v x hv hx=>hb v (Zb4 hv) _ _ _ _ _ _ (h2 i v x hv hx))
theorem Plain.tuple{l:List AV}(hl:∀v∈l,Plain v):Plain (.tuple l):=λ_ _ _ _ _ _ h=>by
 cases h with
 |tuple _ cs hx h1=>exact .tuple l cs hx λi v x hv hx=>hl v (Zb4 hv) _ _ _ _ _ _ (h1 i v x hv hx)
theorem Plain.agg{l:List AV}(hl:∀v∈l,Plain v):Plain (.agg l):=λ_ _ _ _ _ _ h=>by
 cases h with
 |agg _ cs hx h1=>exact .agg l cs hx λi v x hv hx=>hl v (Zb4 hv) _ _ _ _ _ _ (h1 i v x hv hx)
theorem Plain.fl{xs:List (List AV)}{es:Nat}(hl:∀cs∈xs,∀v∈cs,Plain v):Plain (.fl xs es):=λ_ _ _ _ _ _ h=>by
 cases h with
 |fl _ _ aM a cell h1 h2 h3 h4 h5=>exact .fl xs es aM a cell h1 h2 h3 h4 λi j cs v hi hj=>hl cs (Zb4 hi) v (Zb4 hj) _ _ _ _ _ _ (h5 i j cs v hi hj)
def aT(st st':St):Prop:=∀b x,st.heap.get b=some x->st'.heap.get b=some x
theorem aT.refl(st:St):aT st st:=λ_ _ h=>h
theorem aT.trans{a b c:St}(h:aT a b)(k:aT b c):aT a c:=λ_ _ e=>k _ _ (h _ _ e)
theorem aq.down{ρ ρ':Pos->Loc}{n n':Nat}{C:Cells}{v:AV}{x:Value}(h:aq ρ' n' C v x):∀{y:Value},aq ρ n C v y->(∀b:Pos,b.toNat<n->ρ' b=ρ b)->aq ρ n C v x:=by
 induction h with
 |bool b=>exact λh _=>.bool b
 |int k i=>exact λh _=>.int k i
 |str s bs h=>exact λ_ _=>.str s bs h
 |fP=>exact λ_ _=>.fP
 |ptr b off h=>
  intro y h aU;cases h with
  |ptr _ _ h'=>rw[aU b h'];exact .ptr b off h'
 |fp xs i j es az base cell hl hc hv ih=>
  intro y h aU;cases h with
  |fp _ _ _ es' BX base' aiZ hl' vU DH=>exact .fp xs i j es az base cell hl hc λi j cs v hi hj=>ih i j cs v hi hj (DH i j cs v hi hj) aU
 |ah=>exact λ_ _=>.ah
 |slice  b off len cap es aM a hl hc ha hk=>
  intro y h aU;cases h with
  |slice _ _ _ _ _ abl a' hl' vU ha' lW=>
   refine .slice b off len cap es aM a hl hc (λh0=> ?_) lW;obtain⟨h1,h2,h3⟩:=ha h0;have hb:b.toNat<n:=by
        cases cap with
        |none=>exact lW rfl
        |some c=>
         have e1:=hc c rfl;have e2:=vU c rfl;exact(ha' (by rw[<-e2,e1];exact h0)).1
   rw[aU b hb]at h2 h3;exact⟨hb,h2,h3⟩
 |fl xs es aM a cell hl hs ee hc hv ih=>
  intro y h aU;cases h with
  |fl _ _ abl a' aiZ hl' nc hes' vU DH=>exact .fl xs es aM a cell hl hs ee hc λi j cs v hi hj=>ih i j cs v hi hj (DH i j cs v hi hj) aU
 |pP=>exact λ_ _=>.pP
 |map b h=>
  intro y h aU;cases h with
  |map _ h'=>rw[aU b h'];exact .map b h'
 |func f x y x' y' hx hy h1 h2 ih1 TP=>
  intro z h aU;cases h with
  |func _ _ _ a' b' kx ky k1 k2=>
   refine .func f x y x' y' hx hy (λi v x hv nh=> ?_) (λi v x hv nh=> ?_)
   .    have hi:i<a'.size:=(by rw[<-kx];exact(Za1.1 hv).1);exact ih1 i v x hv nh (k1 i v _ hv (Zg1 hi)) aU
   .    have hi:i<b'.size:=(by rw[<-ky];exact(Za1.1 hv).1);exact TP i v x hv nh (k2 i v _ hv (Zg1 hi)) aU
 |jV=>exact λ_ _=>.jV
 |tU=>exact λ_ _=>.tU
 |iface t v x _ ih=>
  intro y h aU;cases h with
  |iface _ _ x' h'=>exact .iface t v x (ih h' aU)
 |agg l cs hx h1 ih=>
  intro y h aU;cases h with
  |agg _ mP kx k1=>
   (refine .agg l cs hx λi v x hv nh=> ?_);have hi:i<mP.size:=(by rw[<-kx];exact(Za1.1 hv).1);exact ih i v x hv nh (k1 i v _ hv (Zg1 hi)) aU
 |tuple l cs hx h1 ih=>
  intro y h aU;cases h with
  |tuple _ mP kx k1=>
   (refine .tuple l cs hx λi v x hv nh=> ?_);have hi:i<mP.size:=(by rw[<-kx];exact(Za1.1 hv).1);exact ih i v x hv nh (k1 i v _ hv (Zg1 hi)) aU
end
noncomputable section
open Go Go.RowKit
def tidy(st:St)(r:AV×St):AV×St:=open Classical in if Plain r.1/\aT st r.2 then(r.1,st)else r
theorem ac2{ρ:Pos->Loc}{C:Cells}{st:St}{w w':World}{r:AV×St}{x:Value}(hW:aZ ρ C st w)(h:ni ρ C st w r.1 r.2 x w'):
   ni ρ C st w (tidy st r).1 (tidy st r).2 x w':=by
 unfold tidy;split
 . rename_i hp;obtain⟨ρ',hv,aU,hn,fB,hE⟩:=h;refine⟨ρ,hp.1 _ _ _ _ _ _ hv,λ_ _=>rfl,Za5 _,⟨λb y hb=> ?_,hW.inj,λa u ha=>⟨(fB.ej a u ha).1,(hW.ej a u ha).2⟩,fB.whole⟩,⟨hE.os,hE.tape,hE.output,hE.size,hE.block,λb y hb=>.inl ⟨b,y,hb,rfl⟩⟩⟩;obtain⟨g1,g2,g3⟩:=hW.live b y hb;obtain⟨_,_,k3⟩:=fB.live b y (hp.2 b y hb);refine⟨g1,Zd3 g2 hE.size,?_⟩;rw[aU b g1]at k3;cases y with
   |cells cs fz=>
    obtain⟨c,e,fr,q1,q2,q3,q4,q5⟩:=k3;obtain⟨c0,e0,cw,p1,p2,p3,p4,p5⟩:=g3;refine⟨c,e,fr,q1,q2,q3,⟨q4.1,λi v x hv hx=> ?_⟩,q5⟩;obtain⟨y0,hy0,Hr⟩:=p4.get hv;exact(q4.2 i v x hv hx).down Hr aU
   |map es clock=>
    obtain⟨es',q1,q2,q3⟩:=k3;obtain⟨es0,p1,p2,p3⟩:=g3;refine⟨es',q1,q2,λi e e' he lK=> ?_⟩;obtain⟨a1,a2,a3⟩:=q3 i e e' he lK;have hi:i<es0.size:=(by rw[<-p2];exact(Za1.1 he).1);obtain⟨b1,b2,_⟩:=p3 i e _ he (Zg1 hi);exact⟨a1.down b1 aU,a2.down b2 aU,a3⟩
   |jW s pos=>exact k3
   |typed t cs=>
    obtain⟨c,fr,q1,q2,q3,q4,q5⟩:=k3;obtain⟨c0,cw,p1,p2,p3,p4,p5⟩:=g3;refine⟨c,fr,q1,q2,q3,⟨q4.1,λi v x hv hx=> ?_⟩,q5⟩;obtain⟨y0,hy0,Hr⟩:=p4.get hv;exact(q4.2 i v x hv hx).down Hr aU
 .exact h
theorem ac3{st:St}{r:AV×St}(h:st.next.toNat<=r.2.next.toNat):st.next.toNat<=(tidy st r).2.next.toNat:=by
 unfold tidy;split
 .exact Za5 _
 .exact h
def tu(call:ai)(m:Nat)(F:dc)(args:List AV)(st:St):Option (AV×St):=
 match Nat.beq args.length F.nparams with
 |  true=>match exec call m F.code (params 0 args .e) st with
    |some (.normal,fr,st')=>match c9 (λb=>st'.heap.get b) fr F.results with
     |some vs=>some (iC vs,st')
     |none=>none
    |some (.ret,fr,st')=>match c9 (λb=>st'.heap.get b) fr F.results with
     |some vs=>some (iC vs,st')
     |none=>none
    |_=>none
 |false=>none
def tC(O:fh)(G:T dc)(m:Nat):Nat->ai
 |0=>λ_ _ _=>none
 |  d+1=>λf args st=>match O f with
    |some s=>s args st
    |none=>match G.get (key f)with
     |some F=>(tu (tC O G m d) m F args st).map (tidy st)
     |none=>none
section
variable{P:Program}{tt:TT}{C:Cells}
theorem abn(hT:bZ P tt){G:T dc}(hG:Qk P tt G){call:ai}(bV:fO P C call)(gJ:rQ P tt C call)(m:Nat){f:FuncId}{F:dc}(hF:G.get (key f)=some F)
   {ρ:Pos->Loc} {st:St} {w:World} {args:List AV} {v:AV} {st':St} {bJ:List Value} (h:tu call m F args st=some (v,st')) (hW:aZ ρ C st w) (qF:ay ρ st.next.toNat C args bJ):
   Reaches P (ni ρ C st w v st') ((callFunc f bJ.toArray).run P w):=by
 unfold tu at h;split at h<;>first|(cases h;done)|skip
 rename_i hlen;have hlen:=Za2 hlen;obtain⟨fn,Cw,gV,DR⟩:=hG _ _ hF;rw[fL,Zf4]at Cw;unfold VK at DR;split at DR<;>first|(cases DR;done)|skip
 rename_i c hb;split at DR<;>first|(cases DR;done)|skip
 rename_i ac rs WN hrs hle;simp only[H0]at DR;subst DR;simp only at h hlen;have hle:=Za6 hle;have cq:(callFunc f bJ.toArray).run P w= .ok (.enter f bJ.toArray) w:=by
   have DS:¬fn.name= "runtime.NumGoroutine" :=(by simpa using gV);simp[callFunc,Cw,DS,hb]
 rw[cq];simp only[Reaches];refine calls_of_wp Cw hb (fD.wp ?_);have e9:bJ.length<=fn.ntmps:=by rw[<-qF.1,hlen];exact hle
 have hS:nP fn.ntmps ρ C (params 0 args .e) st { tmps:=bJ.toArray++Array.replicate (fn.ntmps - bJ.toArray.size) undef,defers:=[] } w:=by
   refine⟨hW,?_,?_,rfl⟩
   .refine yD args bJ 0 .e qF (λj x hx=> ?_) (λp v hp=>by rw[T.ei]at hp;cases hp);have hj:j<bJ.length:=(Za1.1 hx).1;rw[Zd1,Zi1 (by simpa using hj)];simpa using hx
   .simp;omega
 split at h<;>first|(cases h;done)|skip
 .rename_i cr aQ h1;(split at h<;>first|(cases h;done)|skip);rename_i vs jq;simp only[H0,Zb9]at h;obtain⟨rfl,rfl⟩:=h;(refine(qN hT bV gJ m).1 c ac _ cr st aQ .normal ρ _ w _ WN h1 hS λa' w' hp=> ?_);obtain⟨eH,ud,k1,k2,k3⟩:=hp;obtain⟨y,Cx,DF⟩:=rR hT ud.W ud.F hrs jq;exact⟨ud.defers,y,Cx,eH,DF,k1,k2,ud.W,k3⟩
 .rename_i cr aQ h1;(split at h<;>first|(cases h;done)|skip);rename_i vs jq;simp only[H0,Zb9]at h;obtain⟨rfl,rfl⟩:=h;(refine(qN hT bV gJ m).1 c ac _ cr st aQ .ret ρ _ w _ WN h1 hS λa' w' hp=> ?_);obtain⟨eH,ud,k1,k2,k3⟩:=hp;obtain⟨y,Cx,DF⟩:=rR hT ud.W ud.F hrs jq;exact⟨ud.defers,y,Cx,eH,DF,k1,k2,ud.W,k3⟩
theorem ac4{call:ai}(hm:nj call){m:Nat}{F:dc}{args:List AV}{st:St}{v:AV}{st':St}(h:tu call m F args st=some (v,st')):st.next.toNat<=st'.next.toNat:=by
 unfold tu at h;split at h<;>first|(cases h;done)|skip
 split at h<;>first|(cases h;done)|skip
 all_goals
  rename_i h1;split at h<;>first|(cases h;done)|skip
  simp only[H0,Zb9]at h;obtain⟨rfl,rfl⟩:=h;exact Fq hm _ _ _ _ _ _ _ h1
theorem Q6{O:fh}{G:T dc}(hO:lQ O)(m:Nat):∀d,nj (tC O G m d)
 |0=>λf args st v st' h=>by simp[tC]at h
 |d +1=>λf args st v st' h=>by
  unfold tC at h;split at h
  .rename_i s hs;exact hO _ _ hs _ _ _ _ h
  . (split at h<;>first|(cases h;done)|skip);simp only[Zd0]at h;obtain⟨r,hr,he⟩:=h;have:=ac4 (Q6 hO m d) (v:=r.1) (st':=r.2) hr;have:=ac3 this;rw[he]at this;exact this
theorem Ov(hm:P.follows .mixedOrders=true)(hT:bZ P tt){O:fh}{G:T dc}(hO:qE P C O)(Lt:lQ O)(hG:Qk P tt G)(m:Nat):∀d,fO P C (tC O G m d)
 |0=>λρ st w f args v st' bJ h=>by simp[tC]at h
 |d +1=>by
  intro ρ st w f args v st' bJ h hW qF;have ih:=Ov hm hT hO Lt hG m d;unfold tC at h;split at h
  .rename_i s hs;exact hO f s hs ρ st w args v st' bJ h hW qF
  . (split at h<;>first|(cases h;done)|skip);rename_i F hF;simp only[Zd0]at h;obtain⟨r,hr,he⟩:=h;refine Reaches.mono (λx w' hp=> ?_) (abn hT hG ih (I3 hm hT ih (Q6 Lt m d)) m hF (v:=r.1) (st':=r.2) hr hW qF);have:=ac2 hW hp;rw[he]at this;exact this
end
theorem Z7{c c':ai}(h:Ou c c'){n m:Nat}(hn:n<=m){F:dc}{args:List AV}{st:St}{r:AV×St}(e:tu c n F args st=some r):tu c' m F args st=some r:=by
 unfold tu at e ⊢;split at e<;>first|(cases e;done)|skip
 split at e<;>first|(cases e;done)|skip
 all_goals
  rename_i h1;simp only[Ns h n m hn _ _ _ _ h1];exact e
theorem Pq(O:fh)(G:T dc){n m:Nat}(hn:n<=m):∀d d',d<=d'->Ou (tC O G n d) (tC O G m d')
 |0,_,_=>λ_ _ _ _ e=>by simp[tC]at e
 |_+1,0,h=>by omega
 |d +1,d'+1,h=>λf args st r e=>by
  have ih:=Pq O G hn d d' (by omega);unfold tC at e ⊢;split at e
  .exact e
  . (split at e<;>first|(cases e;done)|skip);simp only[Zd0]at e ⊢;obtain⟨q,hq,he⟩:=e;exact⟨q,Z7 ih hn hq,he⟩
def cn(O:fh)(G:T dc)(n:Nat):ai:=tC O G n n
theorem Jc(O:fh)(G:T dc){n m:Nat}(h:n<=m):Ou (cn O G n) (cn O G m):=Pq O G h n m h
def run(O:fh)(G:T dc):ai:=λf args st=>open Classical in
 if h:∃(r:AV×St) (n:Nat),cn O G n f args st=some r then some h.choose else none
variable{O:fh}{G:T dc}
theorem ac5{f:FuncId}{args:List AV}{st:St}{r:AV×St}{n:Nat}(h:cn O G n f args st=some r):run O G f args st=some r:=by
 unfold run;have hx:∃(r:AV×St) (n:Nat),cn O G n f args st=some r:=⟨r,n,h⟩
 rw[dif_pos hx];obtain⟨m,hm⟩:=hx.choose_spec;have h1:=Jc O G (Zj5 n m) f args st _ h;have h2:=Jc O G (Zi3 n m) f args st _ hm;rw[h1]at h2;exact h2.symm
theorem Xa{f:FuncId}{args:List AV}{st:St}{r:AV×St}(h:run O G f args st=some r):∃n,cn O G n f args st=some r:=by
 unfold run at h;split at h
 .rename_i hx;simp only[H0]at h;rw[<-h];exact hx.choose_spec
 .cases h
theorem Q7{k:av}{xs:List AV}{st:St}{r:AV×St}(e:bP (run O G) k xs st=some r):∃n,bP (cn O G n) k xs st=some r:=by
 unfold bP at e;cases hr:k.run (λb=>st.heap.get b) st.next xs with
 |none=>simp[hr]at e
 |some x=>cases x with
  |val v=>exact⟨0,by simpa [bP,hr]using e⟩
  |aG v d s n=>exact⟨0,by simpa [bP,hr]using e⟩
  |call f args=>
   simp only[hr]at e;obtain⟨n,hn⟩:=Xa e;exact⟨n,by simpa [bP,hr]using hn⟩
theorem Lw:∀(os:List bw)(fr:Fr)(st:St)(r:Fr×St),jN (run O G) os fr st=some r->∃n,jN (cn O G n) os fr st=some r
 |[],_,_,_,e=>⟨0,e⟩
 |o::os,fr,st,r,e=>by
  unfold jN at e;cases hw:bW fr o.guard with
  |none=>simp[hw]at e
  |some b=>cases b with
   |    false=>
        simp only[hw]at e;obtain⟨n,hn⟩:=Lw os _ _ _ e;exact⟨n,by unfold jN;simp only[hw];exact hn⟩
   |    true=>
        simp only[hw]at e;cases hx:e8 fr o.xs with
        |none=>simp[hx]at e
        |some xs=>
         simp only[hx]at e;cases hs:bP (run O G) o.k xs st with
         |none=>simp[hs]at e
         |some p=>
          simp only[hs]at e;obtain⟨n,hn⟩:=Lw os _ _ _ e;obtain⟨m,hm⟩:=Q7 hs;refine⟨max n m,?_⟩;unfold jN;simp only[hw,hx,Jb (Jc O G (Zi3 n m)) hm];exact Nr (Jc O G (Zj5 n m)) _ _ _ _ hn
theorem Q8: ∀(os:List (Nat×bw))(recs:List Rec)(base:T AB)(fr:Fr)(st:St)(r:Fr×St),dN (run O G) os recs base fr st=some r->∃n,dN (cn O G n) os recs base fr st=some r
 |[],_,_,_,_,_,e=>⟨0,e⟩
 |(j,   o)::os,recs,base,fr,st,r,e=>by
  have ih:=Q8 os;unfold dN at e;cases hw:bW fr o.guard with
  |none=>simp[hw]at e
  | some b=>cases b with
    |   false=>
        simp only[hw]at e;obtain⟨n,hn⟩:=ih _ _ _ _ _ e;exact⟨n,by unfold dN;simp only[hw];exact hn⟩
    |   true=>
        simp only[hw]at e;cases hx:e8 fr o.xs with
        |none=>simp[hx]at e
        |some xs=>
         simp only[hx]at e;cases hc:o.cls with
         |aG=>
          simp only[hc]at e;cases hs:bP (run O G) o.k xs st with
          |none=>simp[hs]at e
          | some p=>
            simp only[hs]at e;obtain⟨n,hn⟩:=ih _ _ _ _ _ e;obtain⟨m,hm⟩:=Q7 hs;refine⟨max n m,?_⟩;unfold dN;simp only[hw,hx,hc,Jb (Jc O G (Zi3 n m)) hm];exact Pp (Jc O G (Zj5 n m)) _ _ _ _ _ _ hn
         |new=>
          simp only[hc]at e;(split at e<;>first|(cases e;done)|skip);obtain⟨n,hn⟩:=ih _ _ _ _ _ e;refine⟨n,?_⟩;unfold dN;simp only[*]
         |pure=>
          simp only[hc]at e;split at e<;>(try split at e)<;>(try split at e)<;>first|(cases e;done)|skip
          all_goals
            obtain⟨n,hn⟩:=ih _ _ _ _ _ e;refine⟨n,?_⟩;unfold dN;simp only[*]
         |read=>
          simp only[hc]at e;split at e<;>(try split at e)<;>(try split at e)<;>first|(cases e;done)|skip
          all_goals
            obtain⟨n,hn⟩:=ih _ _ _ _ _ e;refine⟨n,?_⟩;unfold dN;simp only[*]
theorem Ut:∀(n:Nat)(a:AC)(fr:Fr)(st:St)(r:jZ×Fr×St),exec (run O G) n a fr st=some r->∃m,exec (cn O G m) n a fr st=some r
 |0,_,_,_,_,e=>by simp[exec]at e
 |n+    1,a,fr,st,r,e=>by
  have ih:=Ut n;have up:∀{m m':Nat}{a:AC}{fr:Fr}{st:St}{r:jZ×Fr×St},m<=m'->exec (cn O G m) n a fr st=some r->exec (cn O G m') n a fr st=some r:=
   λh e=>Ns (Jc O G h) _ _ (Za5 _) _ _ _ _ e
  cases a<;>simp only[exec,bk]at e
  case skip=>exact⟨0,e⟩
  case exit=>exact⟨0,e⟩
  case ret=>exact⟨0,e⟩
  case region ops=>
   cases ho:jN (run O G) ops fr st with
   |none=>simp[ho]at e
   |    some p=>
        obtain⟨m,hm⟩:=Lw _ _ _ _ ho;exact⟨m,by simp only[exec,bk,hm];simpa only[ho]using e⟩
  case draw ops=>
   cases ho:dN (run O G) ops [] st.heap fr st with
   |none=>simp[ho]at e
   |    some p=>
        obtain⟨m,hm⟩:=Q8 _ _ _ _ _ _ ho;exact⟨m,by simp only[exec,bk,hm];simpa only[ho]using e⟩
  case seq a b=>
   cases ha:exec (run O G) n a fr st with
   |none=>simp[ha]at e
   |    some p=>
        obtain⟨ex,cr,aQ⟩:=p;simp only[ha]at e;obtain⟨m,hm⟩:=ih _ _ _ _ ha;cases ex with
        |normal=>
         obtain⟨m',hm'⟩:=ih _ _ _ _ e;exact⟨max m m',by simp only[exec,bk,up (Zj5 m m') hm];exact up (Zi3 m m') hm'⟩
        |exit i=>exact⟨m,by simp only[exec,bk,hm];exact e⟩
        |ret=>exact⟨m,by simp only[exec,bk,hm];exact e⟩
  case cond x a b=>
   split at e
   .    rename_i hx;obtain⟨m,hm⟩:=ih _ _ _ _ e;exact⟨m,by simp only[exec,bk,hx];exact hm⟩
   .    rename_i hx;obtain⟨m,hm⟩:=ih _ _ _ _ e;exact⟨m,by simp only[exec,bk,hx];exact hm⟩
   .    cases e
  case block id a=>
   cases ha:exec (run O G) n a fr st with
   |none=>simp[ha]at e
   |    some p=>
        obtain⟨ex,cr,aQ⟩:=p;simp only[ha]at e;obtain⟨m,hm⟩:=ih _ _ _ _ ha;exact⟨m,by simp only[exec,bk,hm];exact e⟩
  case loop a=>
   cases ha:exec (run O G) n a fr st with
   |none=>simp[ha]at e
   |    some p=>
        obtain⟨ex,cr,aQ⟩:=p;simp only[ha]at e;obtain⟨m,hm⟩:=ih _ _ _ _ ha;cases ex with
        |normal=>
         obtain⟨m',hm'⟩:=ih _ _ _ _ e;exact⟨max m m',by simp only[exec,bk,up (Zj5 m m') hm];exact up (Zi3 m m') hm'⟩
        |exit i=>exact⟨m,by simp only[exec,bk,hm];exact e⟩
        |ret=>exact⟨m,by simp only[exec,bk,hm];exact e⟩
theorem ae5{f:FuncId}{F:dc}{args:List AV}{st:St}{r:AV×St}{n:Nat}(ho:O f=none)(hF:G.get (key f)=some F)(h:tu (run O G) n F args st=some r):
   run O G f args st=some (tidy st r):=by
 unfold tu at h;split at h<;>first|(cases h;done)|skip
 rename_i hlen
 have fin:∀{ex fr st'},exec (run O G) n F.code (params 0 args .e) st=some (ex,fr,st')->(∀m k,exec (cn O G m) k F.code (params 0 args .e) st=some (ex,fr,st')->tu (cn O G m) k F args st=some r)->
    run O G f args st=some (tidy st r):=λh1 h2=>by
   obtain⟨m,hm⟩:=Ut _ _ _ _ _ h1;refine ac5 (n:=max n m+1) ?_;unfold cn tC;simp only[ho,hF];have:=h2 m n hm;have h3:=Z7 (Pq O G (n:=m) (m:=max n m+1) (by have:=Zi3 n m;omega) m (max n m) (Zi3 n m)) (m:=max n m+1) (by have:=Zj5 n m;omega) this;rw[h3];rfl
 split at h<;>first|(cases h;done)|skip
 .rename_i h1;exact fin h1 λm k hk=>by unfold tu;simp only[hlen,hk];exact h
 .rename_i h1;exact fin h1 λm k hk=>by unfold tu;simp only[hlen,hk];exact h
theorem Q9{f:FuncId}{s:List AV->St->Option (AV×St)}(ho:O f=some s){args:List AV}{st:St}{r:AV×St}(h:s args st=some r):run O G f args st=some r:=
 ac5 (n:=1) (by unfold cn tC;simp only[ho];exact h)
theorem TM{P:Program}{tt:TT}{C:Cells}(hm:P.follows .mixedOrders=true)(hT:bZ P tt)(hO:qE P C O)(Lt:lQ O)(hG:Qk P tt G):fO P C (run O G):=by intro ρ st w f args v st' bJ h hW qF;obtain⟨n,hn⟩:=Xa h;exact Ov hm hT hO Lt hG n n ρ st w f args v st' bJ hn hW qF
end
noncomputable section
open Go
inductive Sh where
 |leaf
 |seq (jn:Option (List Pos)) (a b:Sh)
 |cond (a b:Sh)
 |block (a:Sh)
 |loop (j:Nat) (ins:List Pos) (outs:List (Nat×List Pos)) (a:Sh)
variable{R:Type}
abbrev LpK(R:Type):=Nat->List AV->St->Option R
abbrev Env(R:Type):=Nat->LpK R->Nat->List AV->St->Option R
def iR(l:List AV)(k:AV->List AV->Option R):Option R:=match l with
 |v::vs=>k v vs
 |[]=>none
def om(l:List AV)(k:Option R):Option R:=match l with
 |[]=>k
 |_::_=>none
def aj(c:ai)(k:av)(xs:List AV)(st:St)(K:AV->St->Option R):Option R:=match bP c k xs st with
 |some (v,st')=>K v st'
 |none=>none
def Xb(c:ai)(g:AV)(want:Bool)(k:av)(xs:List AV)(st:St)(K:AV->St->Option R):Option R:=match g with
 |  .bool b=>match b==want with
    |true=>aj c k xs st K
    |false=>K .undef st
 |.tuple _=>K .undef st
 |_=>none
def dK(k:av)(xs:List AV)(K:AV->Option R):Option R:=match k.run (λ_=>none) .h xs with
 |some (.val v)=>K v
 |_=>none
def Ow(g:AV)(want:Bool)(k:av)(xs:List AV)(K:AV->Option R):Option R:=match g with
 |  .bool b=>match b==want with
    |true=>dK k xs K
    |false=>K .undef
 |.tuple _=>K .undef
 |_=>none
def jB(k:av)(xs:List AV)(h:T AB)(ok:AV->Bool)(K:AV->Option R):Option R:=match k.run (λ_=>none) .h xs with
 |some (.val v)=>K v
 |  _=>match k.run (λb=>h.get b) .h xs with
    |some (.val v)=>match ok v with
     |true=>K v
     |false=>none
    |_=>none
def Ox(g:AV)(want:Bool)(k:av)(xs:List AV)(h:T AB)(ok:AV->Bool)(K:AV->Option R):Option R:=match g with
 |  .bool b=>match b==want with
    |true=>jB k xs h ok K
    |false=>K .undef
 |.tuple _=>K .undef
 |_=>none
def Lx(k:av)(xs:List AV)(st:St)(K:AV->AB->Option R):Option R:=match k.run (λ_=>none) st.next xs with
 |some (.aG v none none (some az))=>K v az
 |_=>none
def Oy(g:AV)(want:Bool)(A B:Option R):Option R:=match g with
 |  .bool b=>match b==want with
    |true=>A
    |false=>B
 |.tuple _=>B
 |_=>none
def Uu(v:AV)(A B:Option R):Option R:=match v with
 |.bool true=>A
 |.bool false=>B
 |_=>none
def gX(f:(List AV->St->Option R)->Option R)(k:List AV->St->Option R):Option R:=f k
def Pr (c:ai):List bw->Fr->St->(Fr->St->Option R)->Option R
 |[],fr,st,K=>K fr st
 |  o::os,fr,st,K=>match e8 fr o.xs with
    |some xs=>match o.guard with
     |none=>aj c o.k xs st λv st=>Pr c os (dQ fr o.dst v) st K
     |  some (p,want)=>match fr.get p with
        |some g=>Xb c g want o.k xs st λv st=>Pr c os (dQ fr o.dst v) st K
        |none=>none
    |none=>none
def nJ (c:ai ):List (Nat×bw)->List Rec->T AB->Fr->St->(Fr->St->Option R)->Option R
 |[],_,_,fr,st,K=>K fr st
 |  (j, o):: os,recs,base,fr,st,K=>match e8 fr o.xs with
    | some xs=>match o.cls with
      | .pure=>match o.guard with
        |none=>dK o.k xs λv=>nJ c os ({ idx:=j,o:=o,v:=v,c:= .pure,nx:=st.next }::recs) base (dQ fr o.dst v) st K
        |some (p,want)=>match fr.get p with
         |some g=>Ow g want o.k xs λv=>nJ c os ({ idx:=j,o:=o,v:=v,c:= .pure,nx:=st.next }::recs) base (dQ fr o.dst v) st K
         |none=>none
      | .read=>match o.guard with
        |none=>jB o.k xs (snap o.bK base recs) (λv=>lz o.bK o.k xs v [] recs) λv=>nJ c os ({ idx:=j,o:=o,v:=v,c:= .pure,nx:=st.next }::recs) base (dQ fr o.dst v) st K
        |some (p,want)=>match fr.get p with
         |some g=>Ox g want o.k xs (snap o.bK base recs) (λv=>lz o.bK o.k xs v [] recs) λv=>nJ c os ({ idx:=j,o:=o,v:=v,c:= .pure,nx:=st.next }::recs) base (dQ fr o.dst v) st K
         |none=>none
      | .new=>match o.guard with
        |none=>Lx o.k xs st λv az=>nJ c os ({ idx:=j,o:=o,v:=v,c:= .new st.next az,nx:=st.next.succ }::recs) base (dQ fr o.dst v) { heap:=st.heap.put (some az) st.next,next:=st.next.succ } K
        |some (p,want)=>match fr.get p with
         |some g=>Oy g want (Lx o.k xs st λv az=>nJ c os ({ idx:=j,o:=o,v:=v,c:= .new st.next az,nx:=st.next.succ }::recs) base (dQ fr o.dst v) { heap:=st.heap.put (some az) st.next,next:=st.next.succ } K)
             (nJ c os ({ idx:=j,o:=o,v:= .undef,c:= .pure,nx:=st.next }::recs) base (dQ fr o.dst .undef) st K)
         |none=>none
      | .aG=>match o.guard with
        |none=>aj c o.k xs st λv st'=>nJ c os ({ idx:=j,o:=o,v:=v,c:= .aG base st'.heap,nx:=st'.next }::recs) st'.heap (dQ fr o.dst v) st' K
        |some (p,want)=>match fr.get p with
         |some g=>Oy g want (aj c o.k xs st λv st'=>nJ c os ({ idx:=j,o:=o,v:=v,c:= .aG base st'.heap,nx:=st'.next }::recs) st'.heap (dQ fr o.dst v) st' K)
             (nJ c os ({ idx:=j,o:=o,v:= .undef,c:= .pure,nx:=st.next }::recs) base (dQ fr o.dst .undef) st K)
         |none=>none
    |none=>none
def Ly:List Pos->Fr->(List AV->Option R)->Option R
 |[],_,k=>k []
 |  p::ps,fr,k=>match fr.get p with
    |some v=>Ly ps fr λvs=>k (v::vs)
    |none=>none
def Lz:List Pos->List AV->Fr->(Fr->Option R)->Option R
 |[],vs,fr,k=>om vs (k fr)
 |p::ps,vs,fr,k=>iR vs λv vs=>Lz ps vs (fr.put (some v) p) k
def Nt:List (Nat×List Pos)->Nat->List Pos
 |[],_=>[]
 |  (i,l)::r,e=>match Nat.beq i e with
    |true=>l
    |false=>Nt r e
def exOf:Nat->jZ
 |0=>.normal
 |1=>.ret
 |n+2=>.exit n
def Hy(D:Fr->St->(jZ->Fr->St->Option R)->Option R)(ins:List Pos)(outs:List (Nat×List Pos))(K':LpK R)(again:List AV->St->Option R)(vs:List AV)(st:St):Option R:=
 Lz ins vs .e λfr=>D fr st λex fr st=>match ex with
    |.normal=>Ly ins fr λvs=>again vs st
    |.exit i=>Ly (Nt outs (i+2)) fr λos=>K' (i+2) os st
    |.ret=>Ly (Nt outs 1) fr λos=>K' 1 os st
def knk(outs:List (Nat×List Pos))(K:jZ->Fr->St->Option R):LpK R:=λe os st=>Lz (Nt outs e) os .e λfr=>K (exOf e) fr st
def den (c:ai)(F:Nat)(L:Env R):AC->Sh->Fr->St->(jZ->Fr->St->Option R)->Option R
 |.skip,_,fr,st,K=>K .normal fr st
 |.region ops,_,fr,st,K=>Pr c ops fr st (K .normal)
 |.draw ops,_,fr,st,K=>nJ c ops [] st.heap fr st (K .normal)
 |  .seq a b,s,fr,st,K=>match s with
    | .seq none s t=>den c F L a s fr st λex fr st=>match ex with
      |.normal=>den c F L b t fr st K
      |.exit i=>K (.exit i) fr st
      |.ret=>K .ret fr st
    | .seq (some l) s t=>gX (λK'=>den c F L a s fr st λex fr st=>match ex with
      |.normal=>Ly l fr λvs=>K' vs st
      |.exit i=>K (.exit i) fr st
      |.ret=>K .ret fr st) (λvs st=>Lz l vs .e λfr=>den c F L b t fr st K)
    |_=>none
 |  .cond x a b,s,fr,st,K=>match s with
    | .cond s t=>match Bm fr x with
      |some v=>Uu v (den c F L a s fr st K) (den c F L b t fr st K)
      |none=>none
    |_=>none
 |  .block id a,s,fr,st,K=>match s with
    | .block s=>den c F L a s fr st λex fr st=>match ex with
      |.normal=>K .normal fr st
      | .exit i=>match Nat.beq i id with
        |true=>K .normal fr st
        |false=>K (.exit i) fr st
      |.ret=>K .ret fr st
    |_=>none
 |  .loop _,s,fr,st,K=>match s with
    |.loop j ins outs _=>Ly ins fr λvs=>L j (knk outs K) F vs st
    |_=>none
 |.exit id,_,fr,st,K=>K (.exit id) fr st
 |.ret,_,fr,st,K=>K .ret fr st
def yH(c:ai)(F:Nat)(L:Env R)(a:AC):Sh->Prop
 |.loop j ins outs s=>∀K',(∀vs st,L j K' 0 vs st=none)/\∀n vs st,L j K' (n+1) vs st=Hy (den c F L a s) ins outs K' (L j K' n) vs st
 |_=>False
def vE(c:ai)(F:Nat)(L:Env R):AC->Sh->Prop
 |  .seq a b,s=>match s with
    |.seq _ s t=>vE c F L a s/\vE c F L b t
    |_=>True
 |  .cond _ a b,s=>match s with
    |.cond s t=>vE c F L a s/\vE c F L b t
    |_=>True
 |  .block _ a,s=>match s with
    |.block s=>vE c F L a s
    |_=>True
 |  .loop a,s=>match s with
    |.loop j ins outs s=>yH c F L a (.loop j ins outs s)/\vE c F L a s
    |_=>True
 |_,_=>True
def fe:AC->Sh->List (AC×Sh)
 |  .seq a b,s=>match s with
    |.seq _ s t=>fe a s++fe b t
    |_=>[]
 |  .cond _ a b,s=>match s with
    |.cond s t=>fe a s++fe b t
    |_=>[]
 |  .block _ a,s=>match s with
    |.block s=>fe a s
    |_=>[]
 |  .loop a,s=>match s with
    |.loop j ins outs s=>(a,.loop j ins outs s)::fe a s
    |_=>[]
 |_,_=>[]
theorem AK{c:ai}{F:Nat}{L:Env R}:∀(a:AC)(s:Sh),(∀x∈fe a s,yH c F L x.1 x.2)->vE c F L a s
 |.skip,_,_=>trivial
 |.region _,_,_=>trivial
 |.draw _,_,_=>trivial
 |.exit _,_,_=>trivial
 |.ret,_,_=>trivial
 | .seq a b,s,h=>by
   cases s<;>simp only[vE]<;>simp only[fe,Zd5]at h;exact⟨AK a _ λx hx=>h x (.inl hx),AK b _ λx hx=>h x (.inr hx)⟩
 | .cond x a b,s,h=>by
   cases s<;>simp only[vE]<;>simp only[fe,Zd5]at h;exact⟨AK a _ λx hx=>h x (.inl hx),AK b _ λx hx=>h x (.inr hx)⟩
 |.block id a,s,h=>by cases s<;>simp only[vE]<;>simp only[fe]at h;exact AK a _ h
 | .loop a,s,h=>by
   cases s<;>simp only[vE]<;>simp only[fe,Zb2]at h;exact⟨h _ (.inl rfl),AK a _ λx hx=>h x (.inr hx)⟩
def Sub(a b:Fr):Prop:=∀p v,a.get p=some v->b.get p=some v
theorem Sub.refl(a:Fr):Sub a a:=λ_ _ h=>h
theorem Sub.put{a b:Fr}(h:Sub a b)(p:Pos)(v:AV):Sub (a.put (some v) p) (b.put (some v) p):=λq u hq=>by
 by_cases e:p=q
 .subst e;rw[T.eO]at hq ⊢; exact hq
 .rw[T.bG _ e]at hq ⊢; exact h _ _ hq
theorem Sub.dst{a b:Fr}(h:Sub a b)(d:Option Pos)(v:AV):Sub (dQ a d v) (dQ b d v):=by
 cases d with
 |none=>exact h
 |some p=>exact h.put p v
theorem Sub.ev{a b:Fr}(h:Sub a b){x:eZ}{v:AV}(e:Bm a x=some v):Bm b x=some v:=by
 cases x with
 |t p=>exact h _ _ e
 |c v=>exact e
theorem Sub.evs{a b:Fr}(h:Sub a b):∀{xs:List eZ}{vs:List AV},e8 a xs=some vs->e8 b xs=some vs
 |[],_,e=>e
 |x::xs,vs,e=>by
  unfold e8 at e ⊢;cases hx:Bm a x with
  |none=>simp[hx]at e
  |some v=>
   simp only[hx]at e;cases hs:e8 a xs with
   |none=>simp[hs]at e
   |some us=>simp only[hs]at e;simp only[h.ev hx,h.evs hs];exact e
theorem Jd {c:ai}:∀(os:List bw){fr fk:Fr}{st:St}{K:Fr->St->Option R}{r:R},Sub fr fk->Pr c os fr st K=some r->
  ∃bh dL st',jN c os fk st=some (dL,st')/\Sub bh dL/\K bh st'=some r
 |[],fr,fk,st,K,r,hs,h=>⟨fr,fk,st,rfl,hs,h⟩
 |o::os,fr,fk,st,K,r,hs,h=>by
  unfold Pr at h;cases hx:e8 fr o.xs with
  |none=>simp[hx]at h
  |some xs=>
   simp only[hx]at h;have hstp:∀{st},aj c o.k xs st (λv st=>Pr c os (dQ fr o.dst v) st K)=some r->bW fk o.guard=some true->∃bh dL st',jN c (o::os) fk st=some (dL,st')/\Sub bh dL/\K bh st'=some r:=λ{st} h hw=>by
        unfold aj at h;cases jP:bP c o.k xs st with
        |none=>simp[jP]at h
        |some p=>
         simp only[jP]at h;obtain⟨bh,dL,st',h1,h2⟩:=Jd os (hs.dst o.dst p.1) h;exact⟨bh,dL,st',by unfold jN;simp only[hw,hs.evs hx,jP];exact h1,h2⟩
   have Hz:∀{st},Pr c os (dQ fr o.dst .undef) st K=some r->bW fk o.guard=some false->∃bh dL st',jN c (o::os) fk st=some (dL,st')/\Sub bh dL/\K bh st'=some r:=λ{st} h hw=>by
        obtain⟨bh,dL,st',h1,h2⟩:=Jd os (hs.dst o.dst .undef) h;exact⟨bh,dL,st',by unfold jN;simp only[hw];exact h1,h2⟩
   cases hg:o.guard with
   |none=>simp only[hg]at h;exact hstp h (by rw[hg];rfl)
   |    some pw=>
        obtain⟨p,want⟩:=pw;simp only[hg]at h;cases hp:fr.get p with
        |none=>simp[hp]at h
        |some g=>
         simp only[hp]at h;have yI:=hs _ _ hp;unfold Xb at h;split at h
         .  rename_i b;split at h
            .rename_i hb;exact hstp h (by rw[hg];simp[bW,yI,hb])
            .rename_i hb;exact Hz h (by rw[hg];simp[bW,yI,hb])
         .  exact Hz h (by rw[hg];simp[bW,yI])
         .  cases h
theorem Oz {c : ai}:∀(os:List (Nat×bw))(recs:List Rec)(base:T AB){fr fk:Fr}{st:St}{K:Fr->St->Option R}{r:R},Sub fr fk->nJ c os recs base fr st K=some r->
  ∃bh dL st',dN c os recs base fk st=some (dL,st')/\Sub bh dL/\K bh st'=some r
 |[],_,_,fr,fk,st,K,r,hs,h=>⟨fr,fk,st,rfl,hs,h⟩
 |(j,   o)::  os, recs,base,fr,fk,st,K,r,hs,h=>by
  have ih:=λrecs base {fr fk:Fr}{st:St}{K:Fr->St->Option R}{r:R}=>Oz (c:=c) os recs base (fr:=fr) (fk:=fk) (st:=st) (K:=K) (r:=r)
  unfold nJ at h;cases hx:e8 fr o.xs with
  |none=>simp[hx]at h
  | some xs   =>
    simp only[hx]at h;have Q0:=hs.evs hx;have Hz:∀{st},nJ c os ({ idx:=j,o:=o,v:= .undef,c:= .pure,nx:=st.next }::recs) base (dQ fr o.dst .undef) st K=some r->bW fk o.guard=some false->∃bh dL st',dN c ((j,o)::os) recs base fk st=some (dL,st')/\Sub bh dL/\K bh st'=some r:=λ{st} h hw=>by
        obtain⟨bh,dL,st',h1,h2⟩:=ih _ _ (hs.dst o.dst .undef) h;exact⟨bh,dL,st',by unfold dN;simp only[hw];exact h1,h2⟩
    cases hc:o.cls with
    |   pure=>
        simp only[hc]at h;have LA:dK o.k xs (λv=>nJ c os ({ idx:=j,o:=o,v:=v,c:= .pure,nx:=st.next }::recs) base (dQ fr o.dst v) st K)=some r->bW fk o.guard=some true->∃bh dL st',dN c ((j,o)::os) recs base fk st=some (dL,st')/\Sub bh dL/\K bh st'=some r:=λh hw=>by
         unfold dK at h;split at h
         .  rename_i v hv;obtain⟨bh,dL,st',h1,h2⟩:=ih _ _ (hs.dst o.dst v) h;exact⟨bh,dL,st',by unfold dN;simp only[hw,Q0,hc,hv];exact h1,h2⟩
         .  cases h
        cases hg:o.guard with
        |none=>simp only[hg]at h;exact LA h (by rw[hg];rfl)
        |some pw=>
         obtain⟨p,want⟩:=pw;simp only[hg]at h;cases hp:fr.get p with
         |none=>simp[hp]at h
         |  some g=>
            simp only[hp]at h;have yI:=hs _ _ hp;unfold Ow at h;split at h
            . split at h
              .rename_i hb;exact LA h (by rw[hg];simp[bW,yI,hb])
              .rename_i hb;exact Hz h (by rw[hg];simp[bW,yI,hb])
            .exact Hz h (by rw[hg];simp[bW,yI])
            .cases h
    |   read=>
        simp only[hc]at h;have LA : jB o.k xs (snap o.bK base recs) (λv=>lz o.bK o.k xs v [] recs) (λv=>nJ c os ({ idx:=j,o:=o,v:=v,c:= .pure,nx:=st.next }::recs) base (dQ fr o.dst v) st K)=some r->bW fk o.guard=some true->∃bh dL st',dN c ((j,o)::os) recs base fk st=some (dL,st')/\Sub bh dL/\K bh st'=some r:=λh hw=>by
         unfold jB at h;split at h
         .  rename_i v hv;obtain⟨bh,dL,st',h1,h2⟩:=ih _ _ (hs.dst o.dst v) h;exact⟨bh,dL,st',by unfold dN;simp only[hw,Q0,hc,hv];exact h1,h2⟩
         .  rename_i mE;split at h
            . rename_i v hv;split at h
              . rename_i dP;obtain⟨bh,dL,st',h1,h2⟩:=ih _ _ (hs.dst o.dst v) h;refine⟨bh,dL,st',?_,h2⟩;unfold dN;simp only[hw,Q0,hc];cases hr:o.k.run (λ_=>none) .h xs with
                |none=>simp only[hv,dP];exact h1
                | some x=>cases x with
                  |val u=>exact absurd hr (mE u)
                  |aG v d e n=>simp only[hv,dP];exact h1
                  |call f xs=>simp only[hv,dP];exact h1
              .cases h
            .cases h
        cases hg:o.guard with
        |none=>simp only[hg]at h;exact LA h (by rw[hg];rfl)
        |some pw=>
         obtain⟨p,want⟩:=pw;simp only[hg]at h;cases hp:fr.get p with
         |none=>simp[hp]at h
         |  some g=>
            simp only[hp]at h;have yI:=hs _ _ hp;unfold Ox at h;split at h
            . split at h
              .rename_i hb;exact LA h (by rw[hg];simp[bW,yI,hb])
              .rename_i hb;exact Hz h (by rw[hg];simp[bW,yI,hb])
            .exact Hz h (by rw[hg];simp[bW,yI])
            .cases h
    |   new =>
        simp only[hc]at h;have LA:Lx o.k xs st (λv az=>nJ c os ({ idx:=j,o:=o,v:=v,c:= .new st.next az,nx:=st.next.succ }::recs) base (dQ fr o.dst v) { heap:=st.heap.put (some az) st.next,next:=st.next.succ } K)=some r->bW fk o.guard=some true->∃bh dL st',dN c ((j,o)::os) recs base fk st=some (dL,st')/\Sub bh dL/\K bh st'=some r:=λh hw=>by
         unfold Lx at h;split at h
         .  rename_i v az hv;obtain⟨bh,dL,st',h1,h2⟩:=ih _ _ (hs.dst o.dst v) h;exact⟨bh,dL,st',by unfold dN;simp only[hw,Q0,hc,hv];exact h1,h2⟩
         .  cases h
        cases hg:o.guard with
        |none=>simp only[hg]at h;exact LA h (by rw[hg];rfl)
        |some pw=>
         obtain⟨p,want⟩:=pw;simp only[hg]at h;cases hp:fr.get p with
         |none=>simp[hp]at h
         |  some g=>
            simp only[hp]at h;have yI:=hs _ _ hp;unfold Oy at h;split at h
            . split at h
              .rename_i hb;exact LA h (by rw[hg];simp[bW,yI,hb])
              .rename_i hb;exact Hz h (by rw[hg];simp[bW,yI,hb])
            .exact Hz h (by rw[hg];simp[bW,yI])
            .cases h
    |   aG=>
        simp only[hc]at h;have LA:aj c o.k xs st (λv st'=>nJ c os ({ idx:=j,o:=o,v:=v,c:= .aG base st'.heap,nx:=st'.next }::recs) st'.heap (dQ fr o.dst v) st' K)=some r->bW fk o.guard=some true->∃bh dL st',dN c ((j,o)::os) recs base fk st=some (dL,st')/\Sub bh dL/\K bh st'=some r:=λh hw=>by
         unfold aj at h;cases jP:bP c o.k xs st with
         |none=>simp[jP]at h
         |  some p=>
            simp only[jP]at h;obtain⟨bh,dL,st',h1,h2⟩:=ih _ _ (hs.dst o.dst p.1) h;exact⟨bh,dL,st',by unfold dN;simp only[hw,Q0,hc,jP];exact h1,h2⟩
        cases hg:o.guard with
        |none=>simp only[hg]at h;exact LA h (by rw[hg];rfl)
        |some pw=>
         obtain⟨p,want⟩:=pw;simp only[hg]at h;cases hp:fr.get p with
         |none=>simp[hp]at h
         |  some g=>
            simp only[hp]at h;have yI:=hs _ _ hp;unfold Oy at h;split at h
            . split at h
              .rename_i hb;exact LA h (by rw[hg];simp[bW,yI,hb])
              .rename_i hb;exact Hz h (by rw[hg];simp[bW,yI,hb])
            .exact Hz h (by rw[hg];simp[bW,yI])
            .cases h
def Has:List Pos->List AV->Fr->Prop
 |[],[],_=>True
 |p::ps,v::vs,fr=>fr.get p=some v/\Has ps vs fr
 |_,_,_=>False
theorem Has.sub{a b:Fr}(hs:Sub a b):∀{ps:List Pos}{vs:List AV},Has ps vs a->Has ps vs b
 |[],[],_=>trivial
 |[],_::_,h=>h
 |_::_,[],h=>h
 |_::_,_::_,h=>⟨hs _ _ h.1,Has.sub hs h.2⟩
theorem xJ:∀{ps:List Pos}{fr:Fr}{k:List AV->Option R}{r:R},Ly ps fr k=some r->∃vs,Has ps vs fr/\k vs=some r
 |[],_,_,_,h=>⟨[],trivial,h⟩
 |p::ps,fr,k,r,h=>by
  unfold Ly at h;cases hp:fr.get p with
  |none=>simp[hp]at h
  |some v=>
   simp only[hp]at h;obtain⟨vs,h1,h2⟩:=xJ h;exact⟨v::vs,⟨hp,h1⟩,h2⟩
theorem Bv:∀{ps:List Pos}{vs:List AV}{fr fk:Fr}{k:Fr->Option R}{r:R},Lz ps vs fr k=some r->Has ps vs fk->Sub fr fk->∃bh,Sub bh fk/\k bh=some r
 |[],vs,fr,fk,k,r,h,_,hs=>by
  unfold Lz om at h;split at h
  .exact⟨fr,hs,h⟩
  .cases h
 |p::ps,[],fr,fk,k,r,h,hh,hs=>by simp[Lz,iR]at h
 |p::ps,v::vs,fr,fk,k,r,h,hh,hs=>by
  unfold Lz iR at h;refine Bv h hh.2 λq u hq=> ?_
  by_cases e:p=q
  .subst e;rw[T.eO]at hq;cases hq;exact hh.1
  .rw[T.bG _ e]at hq;exact hs _ _ hq
theorem Ds{c:ai}{n m:Nat}(h:n<=m){a:AC}{fr:Fr}{st:St}{r:jZ×Fr×St}(e:exec c n a fr st=some r):exec c m a fr st=some r:=Ns (Ou.refl c) n m h _ _ _ _ e
theorem oo{c:ai}{F:Nat}{L:Env R}:∀(a:AC)(s:Sh),vE c F L a s->∀{fr fk:Fr}{st:St}{K:jZ->Fr->St->Option R}{r:R},Sub fr fk->den c F L a s fr st K=some r->
   ∃n ex bh dL st',exec c n a fk st=some (ex,dL,st')/\Sub bh dL/\K ex bh st'=some r
 |.skip,s,_,fr,fk,st,K,r,hs,h=>⟨1,.normal,fr,fk,st,rfl,hs,by simpa [den]using h⟩
 |.exit id,s,_,fr,fk,st,K,r,hs,h=>⟨1,.exit id,fr,fk,st,rfl,hs,by simpa [den]using h⟩
 |.ret,s,_,fr,fk,st,K,r,hs,h=>⟨1,.ret,fr,fk,st,rfl,hs,by simpa [den]using h⟩
 | .region ops,s,_,fr,fk,st,K,r,hs,h=>by
   simp only[den]at h;obtain⟨bh,dL,st',h1,h2,h3⟩:=Jd ops hs h;exact⟨1,.normal,bh,dL,st',by simp only[exec,bk,h1],h2,h3⟩
 | .draw ops,s,_,fr,fk,st,K,r,hs,h=>by
   simp only[den]at h;obtain⟨bh,dL,st',h1,h2,h3⟩:=Oz ops _ _ hs h;exact⟨1,.normal,bh,dL,st',by simp only[exec,bk,h1],h2,h3⟩
 | .seq a b,s,dP,fr,fk,st,K,r,hs,h=>by
   (cases s<;>simp only[den]at h<;>first|(cases h;done)|skip);rename_i jn s t;simp only[vE]at dP;cases jn with
   |none=>
    simp only at h;obtain⟨n,ex,cr,sM,aQ,h1,h2,h3⟩:=oo a s dP.1 hs h;cases ex with
    |   normal=>
        obtain⟨m,ex,u9,Xc,kP,k1,k2,k3⟩:=oo b t dP.2 h2 h3;exact⟨max n m+1,ex,u9,Xc,kP,by simp only[exec,bk,Ds (Zj5 n m) h1];exact Ds (Zi3 n m) k1,k2,k3⟩
    |exit i=>exact⟨n+1,.exit i,cr,sM,aQ,by simp only[exec,bk,h1],h2,h3⟩
    |ret=>exact⟨n+1,.ret,cr,sM,aQ,by simp only[exec,bk,h1],h2,h3⟩
   |some l=>
    simp only[gX]at h;obtain⟨n,ex,cr,sM,aQ,h1,h2,h3⟩:=oo a s dP.1 hs h;cases ex with
    |   normal=>
        obtain⟨vs,g1,g2⟩:=xJ h3;obtain⟨bh,g3,g4⟩:=Bv g2 (Has.sub h2 g1) (λp v hp=>by rw[T.ei]at hp;cases hp);obtain⟨m,ex,u9,Xc,kP,k1,k2,k3⟩:=oo b t dP.2 g3 g4;exact⟨max n m+1,ex,u9,Xc,kP,by simp only[exec,bk,Ds (Zj5 n m) h1];exact Ds (Zi3 n m) k1,k2,k3⟩
    |exit i=>exact⟨n+1,.exit i,cr,sM,aQ,by simp only[exec,bk,h1],h2,h3⟩
    |ret=>exact⟨n+1,.ret,cr,sM,aQ,by simp only[exec,bk,h1],h2,h3⟩
 | .cond x a b,s,dP,fr,fk,st,K,r,hs,h=>by
   (cases s<;>simp only[den]at h<;>first|(cases h;done)|skip);simp only[vE]at dP;cases hx:Bm fr x with
   |none=>simp[hx]at h
   |some v=>
    simp only[hx]at h;unfold Uu at h;split at h
    .   obtain⟨n,ex,cr,sM,aQ,h1,h2,h3⟩:=oo a _ dP.1 hs h;exact⟨n+1,ex,cr,sM,aQ,by simp only[exec,bk,hs.ev hx];exact h1,h2,h3⟩
    .   obtain⟨n,ex,cr,sM,aQ,h1,h2,h3⟩:=oo b _ dP.2 hs h;exact⟨n+1,ex,cr,sM,aQ,by simp only[exec,bk,hs.ev hx];exact h1,h2,h3⟩
    .   cases h
 | .block id a,s,dP,fr,fk,st,K,r,hs,h=>by
   (cases s<;>simp only[den]at h<;>first|(cases h;done)|skip);simp only[vE]at dP;obtain⟨n,ex,cr,sM,aQ,h1,h2,h3⟩:=oo a _ dP hs h;cases ex with
   |normal=>exact⟨n+1,.normal,cr,sM,aQ,by simp only[exec,bk,h1],h2,h3⟩
   |ret=>exact⟨n+1,.ret,cr,sM,aQ,by simp only[exec,bk,h1],h2,h3⟩
   |exit i=>
    simp only at h3;cases hb:Nat.beq i id with
    |true=>simp only[hb]at h3;exact⟨n+1,.normal,cr,sM,aQ,by simp only[exec,bk,h1,hb],h2,h3⟩
    |false=>simp only[hb]at h3;exact⟨n+1,.exit i,cr,sM,aQ,by simp only[exec,bk,h1,hb],h2,h3⟩
 | .loop a,s,dP,fr,fk,st,K,r,hs,h=>by
   (cases s<;>simp only[den]at h<;>first|(cases h;done)|skip);rename_i j ins outs s;simp only[vE,yH]at dP;obtain⟨ai0,dP⟩:=dP;obtain⟨vs,g1,g2⟩:=xJ h;obtain⟨hz,hsu⟩:=ai0 (knk outs K)
   have main:∀(n:Nat)(vs:List AV)(st:St)(fk:Fr),Has ins vs fk->L j (knk outs K) n vs st=some r->
        ∃m ex bh dL st',exec c m (.loop a) fk st=some (ex,dL,st')/\Sub bh dL/\K ex bh st'=some r:=by
    intro n;induction n with
    |zero=>intro vs st fk _ h;rw[hz]at h;cases h
    |   succ n ihn=>
        intro vs st fk hh h;rw[hsu]at h;unfold Hy at h;obtain⟨cw,q1,q2⟩:=Bv h hh (λp v hp=>by rw[T.ei]at hp;cases hp);obtain⟨m,ex,cr,sM,aQ,h1,h2,h3⟩:=oo a s dP q1 q2;cases ex with
        |normal=>
         obtain⟨us,p1,p2⟩:=xJ h3;obtain⟨m',ex,u9,Xc,kP,k1,k2,k3⟩:=ihn us aQ sM (Has.sub h2 p1) p2;exact⟨max m m'+1,ex,u9,Xc,kP,by simp only[exec,bk,Ds (Zj5 m m') h1];exact Ds (Zi3 m m') k1,k2,k3⟩
        |exit i=>
         obtain⟨os,p1,p2⟩:=xJ h3;obtain⟨u9,p3,p4⟩:=Bv p2 (Has.sub h2 p1) (λp v hp=>by rw[T.ei]at hp;cases hp);exact⟨m+1,.exit i,u9,sM,aQ,by simp only[exec,bk,h1],p3,p4⟩
        |ret=>
         obtain⟨os,p1,p2⟩:=xJ h3;obtain⟨u9,p3,p4⟩:=Bv p2 (Has.sub h2 p1) (λp v hp=>by rw[T.ei]at hp;cases hp);exact⟨m+1,.ret,u9,sM,aQ,by simp only[exec,bk,h1],p3,p4⟩
   exact main F vs st fk (Has.sub hs g1) g2
def Pt:(H:Pos->Option AB)->Fr->List Bl->(List AV->Option R)->Option R
 |_,_,[],k=>k []
 |  H,fr,.tmp p::rs,k=>match fr.get p with
    |some v=>Pt H fr rs λvs=>k (v::vs)
    |none=>none
 |  H,fr,.cell p n::rs,k=>match fr.get p with
    |some q=>match (av.load n).run H .h [q]with
     |some (.val v)=>Pt H fr rs λvs=>k (v::vs)
     |_=>none
    |none=>none
def Z8(n:Option Nat)(q:AV)(st:St)(K:AV->Option R):Option R:=match (av.load n).run (λb=>st.heap.get b) .h [q]with
 |some (.val v)=>K v
 |_=>none
theorem Fz{H:Pos->Option AB}{fr fk:Fr}(hs:Sub fr fk):∀{rs:List Bl}{k:List AV->Option R}{r:R},Pt H fr rs k=some r->∃vs,c9 H fk rs=some vs/\k vs=some r
 |[],k,r,h=>⟨[],rfl,h⟩
 | .tmp p::rs,k,r,h=>by
   unfold Pt at h;cases hp:fr.get p with
   |none=>simp[hp]at h
   |some v=>
    simp only[hp]at h;obtain⟨vs,h1,h2⟩:=Fz hs h;exact⟨v::vs,by unfold c9;simp only[hs _ _ hp,h1],h2⟩
 | .cell p n::rs,k,r,h=>by
   unfold Pt at h;cases hp:fr.get p with
   |none=>simp[hp]at h
   |some q=>
    simp only[hp]at h;split at h
    .   rename_i v hv;obtain⟨vs,h1,h2⟩:=Fz hs h;exact⟨v::vs,by unfold c9;simp only[hs _ _ hp,hv,h1],h2⟩
    .   cases h
def B4(c:ai)(F:Nat)(L:Env (AV×St))(A:dc)(s:Sh)(args:List AV)(st:St):Option (AV×St):=
 match Nat.beq args.length A.nparams with
 |  true=>den c F L A.code s (params 0 args .e) st λex fr st=>match ex with
    |.normal=>Pt (λb=>st.heap.get b) fr A.results λvs=>some (iC vs,st)
    |.ret=>Pt (λb=>st.heap.get b) fr A.results λvs=>some (iC vs,st)
    |.exit _=>none
 |false=>none
theorem ae6{O:fh}{G:T dc}{F:Nat}{L:Env (AV×St)}{f:FuncId}{A:dc}{s:Sh}{args:List AV}{st:St}{r:AV×St}(ho:O f=none)(hF:G.get (key f)=some A)
  (hL:∀x∈fe A.code s,yH (run O G) F L x.1 x.2) (h:B4 (run O G) F L A s args st=some r):run O G f args st=some (tidy st r):=by
 unfold B4 at h;split at h<;>first|(cases h;done)|skip
 rename_i hlen;obtain⟨n,ex,bh,dL,st',h1,h2,h3⟩:=oo A.code s (AK _ _ hL) (Sub.refl _) h;refine ae5 (n:=n) ho hF ?_;unfold tu;simp only[hlen,h1];cases ex with
 |normal=>
  obtain⟨vs,k1,k2⟩:=Fz h2 h3;simp only[k1];exact k2
 |ret=>
  obtain⟨vs,k1,k2⟩:=Fz h2 h3;simp only[k1];exact k2
 |exit i=>cases h3
def af(st:St)(b:AB):St:={ heap:=st.heap.put (some b) st.next,next:=st.next.succ }
def VQ{R:Type}:List (Nat×(LpK R->Nat->List AV->St->Option R))->Env R
 |[]=>λ_ _ _ _ _=>none
 |  (i,g)::l=>λj K n=>match Nat.beq i j with
    |true=>g K n
    |false=>VQ l j K n
def gj(A:dc)(s:Sh)(i:Nat):AC×Sh:=(fe A.code s).getD i (.skip,.leaf)
theorem ae7{R:Type}{c:ai}{F:Nat}{L:Env R}{A:dc}{s:Sh}(n:Nat)(hn:Nat.beq (fe A.code s).length n=true)(h:∀i,i<n->yH c F L (gj A s i).1 (gj A s i).2):
  ∀x∈fe A.code s,yH c F L x.1 x.2:=by
 intro x hx;obtain⟨i,hi,he⟩:=Zm6.1 hx;have hn:=Za2 hn;have:=h i (by omega);unfold gj at this;rw[Za7,H4 hi]at this;simp only[Zf5,he]at this;exact this
def SB:Sh->Bool
 |.loop _ _ _ _=>true
 |_=>false
def lpJ:Sh->Nat
 |.loop j _ _ _=>j
 |_=>0
def lpI:Sh->List Pos
 |.loop _ i _ _=>i
 |_=>[]
def lpO:Sh->List (Nat×List Pos)
 |.loop _ _ o _=>o
 |_=>[]
def lpB:Sh->Sh
 |.loop _ _ _ s=>s
 |_=>.leaf
theorem j5{R:Type}{c:ai}{F:Nat}{L:Env R}{A:dc}{sh:Sh}{i:Nat}(j:Nat)(hs:(SB (gj A sh i).2&&Nat.beq (lpJ (gj A sh i).2) j)=true)(h0:∀K' vs st,L j K' 0 vs st=none)
  (h1:∀K' n vs st,L j K' (n+1) vs st=Hy (den c F L (gj A sh i).1 (lpB (gj A sh i).2)) (lpI (gj A sh i).2) (lpO (gj A sh i).2) K' (L j K' n) vs st):yH c F L (gj A sh i).1 (gj A sh i).2:=by
 generalize (gj A sh i).1=a at*
 generalize (gj A sh i).2=t at*
 cases t with
 |loop j' ins outs s=>
  simp only[SB,lpJ,Zg0]at hs;obtain rfl:=Za2 hs;exact λK'=>⟨h0 K',h1 K'⟩
 |_=>simp[SB]at hs
end
end Go.Ai
section
namespace Go.Ai
open Go
theorem cU(k:IntKind):Dx k k=true:=by cases k<;>rfl
theorem kB(a b:Int):wM a b=decide (a=b):=by rw[lC];rfl
theorem fX(a b:List Nat):jw a b=decide (a=b):=by rw[Zl8,j3];simp
theorem wrap64{x:Int}(h1: -9223372036854775808<=x)(h2:x<=9223372036854775807):au .i64 x=x:=by
 unfold au TN TO;simp only;split
 . split
   .rfl
   .contradiction
 .contradiction
theorem Bc{x:Int}(h1:0<=x)(h2:x<=255):au .u8 x=x:=by
 unfold au TN TO;simp only;split
 . split
   .rfl
   .contradiction
 .contradiction
theorem eI(k:IntKind)(n:Nat):tV (.int k (n:Int))=some n:=id rfl
theorem cI(a b:Nat):Nat.ble a b=decide (a<=b):=by apply Zl8.2;simp
theorem Df(a b:Nat):Nat.blt a b=decide (a<b):=by apply Zl8.2;simp[Nat.blt,Nat.ble_eq];omega
theorem cX(a b:Nat):Nat.beq a b=decide (a=b):=by apply Zl8.2;simp
def nr{R:Type}(o:Option AV)(k:AV->Option R):Option R:=match o with
 |some v=>k v
 |none=>none
def B5{R:Type}(o:Option (List AV))(k:List AV->Option R):Option R:=match o with
 |some v=>k v
 |none=>none
def LB{R:Type}(o:Option (AV×St))(k:AV->St->Option R):Option R:=match o with
 |some (v,st)=>k v st
 |none=>none
section
variable{R:Type}(c:ai)(K:AV->St->Option R)(K1:AV->Option R)(A B:Option R)
@[simp] theorem ew(v:AV)(k:AV->Option R):nr (some v) k=k v:=id rfl
@[simp] theorem ue(v:List AV)(k:List AV->Option R):B5 (some v) k=k v:=id rfl
@[simp] theorem aW(v:AV)(st:St)(k:AV->St->Option R):LB (some (v,st)) k=k v st:=id rfl
@[simp] theorem bR:Uu (.bool true) A B=A:=id rfl
@[simp] theorem cG:Uu (.bool false) A B=B:=id rfl
@[simp] theorem aA(v:AV)(vs:List AV)(k:AV->List AV->Option R):iR (v::vs) k=k v vs:=id rfl
@[simp] theorem bf(k:Option R):om [] k=k:=id rfl
theorem uf(f:(List AV->St->Option R)->Option R)(k:List AV->St->Option R):gX f k=f k:=id rfl
@[simp] theorem dJ(b:Bool)(k:av)(xs:List AV)(st:St):Xb c (.bool b) b k xs st K=aj c k xs st K:=by cases b<;>exact id rfl
@[simp] theorem Bw(k:av)(xs:List AV)(st:St):Xb c (.bool true) false k xs st K=K .undef st:=id rfl
@[simp] theorem ah7(k:av)(xs:List AV)(st:St):Xb c (.bool false) true k xs st K=K .undef st:=id rfl
@[simp] theorem LC(b:Bool)(k:av)(xs:List AV)(st:St):Xb c .undef b k xs st K=K .undef st:=id rfl
@[simp] theorem ajI(b:Bool)(k:av)(xs:List AV):Ow (.bool b) b k xs K1=dK k xs K1:=by cases b<;>exact id rfl
@[simp] theorem gpr_tf(k:av)(xs:List AV):Ow (.bool true) false k xs K1=K1 .undef:=id rfl
@[simp] theorem gpr_ft(k:av)(xs:List AV):Ow (.bool false) true k xs K1=K1 .undef:=id rfl
@[simp] theorem gpr_un(b:Bool)(k:av)(xs:List AV):Ow .undef b k xs K1=K1 .undef:=id rfl
@[simp] theorem ajJ(b:Bool)(k:av)(xs:List AV)(h:T AB)(ok:AV->Bool):Ox (.bool b) b k xs h ok K1=jB k xs h ok K1:=by cases b<;>exact id rfl
@[simp] theorem grd_tf(k:av)(xs:List AV)(h:T AB)(ok:AV->Bool):Ox (.bool true) false k xs h ok K1=K1 .undef:=id rfl
@[simp] theorem grd_ft(k:av)(xs:List AV)(h:T AB)(ok:AV->Bool):Ox (.bool false) true k xs h ok K1=K1 .undef:=id rfl
@[simp] theorem grd_un(b:Bool)(k:av)(xs:List AV)(h:T AB)(ok:AV->Bool):Ox .undef b k xs h ok K1=K1 .undef:=id rfl
@[simp] theorem ajK(b:Bool):Oy (.bool b) b A B=A:=by cases b<;>exact id rfl
@[simp] theorem wnt_tf:Oy (.bool true) false A B=B:=id rfl
@[simp] theorem wnt_ft:Oy (.bool false) true A B=B:=id rfl
@[simp] theorem wnt_un(b:Bool):Oy .undef b A B=B:=id rfl
theorem Bx{k:av}{xs:List AV}{o:Option AV}(h:∀H n,k.run H n xs=o.map .val)(st:St):aj c k xs st K=nr o λv=>K v st:=by unfold aj bP;rw[h];cases o<;>rfl
theorem Ra{k:av}{xs:List AV}{o:Option AV}(h:∀H n,k.run H n xs=o.map .val):dK k xs K1=nr o K1:=by unfold dK;rw[h];cases o<;>rfl
theorem aH{k:av}{xs:List AV}{v:AV}(h:∀H n,k.run H n xs=some (.val v))(st:St):aj c k xs st K=K v st:=by
 unfold aj bP;rw[h]
theorem b7{k:av}{xs:List AV}{v:AV}(h:∀H n,k.run H n xs=some (.val v)):dK k xs K1=K1 v:=by
 unfold dK;rw[h]
theorem bg(f:FuncId)(l:List AV)(st:St):aj c (.callF f) l st K=LB (c f l st) K:=by unfold aj bP;show(match c f l st with|some (v,st')=>K v st'|none=>none)=_;cases c f l st<;>rfl
theorem FA(f:FuncId)(l u v:List AV)(st:St):aj c .callV (.func f u v::l) st K=LB (c f (u++(l++v)) st) K:=by unfold aj bP;show(match c f (u++(l++v)) st with|some (v,st')=>K v st'|none=>none)=_;cases c f (u++(l++v)) st<;>rfl
attribute [simp] bg FA
end
def cellsOf:Option AB->Option (List AV)
 |some (.cells cs _)=>some cs
 |some (.typed _ cs)=>some cs
 |_=>none
@[simp] theorem ahY(t:TypeId)(cs:List AV):cellsOf (some (.typed t cs))=some cs:=id rfl
@[simp] theorem bF(cs:List AV)(f:Nat):cellsOf (some (.cells cs f))=some cs:=id rfl
def ro(es:Nat)(z:Bool)(rs:List (List AV)):AV:=match z,rs with
 |true,[]=>.ah
 |_,rs=>.fl rs es
theorem Z9{es:Nat}{z:Bool}{rs:List (List AV)}(h:rs≠[]):ro es z rs= .fl rs es:=by
 unfold ro;split
 .exact absurd rfl h
 .rfl
theorem run_move(H:Pos->Option AB)(n:Pos)(x:AV):av.run H n .move [x]=some (.val x):=rfl
@[simp] theorem ak{R:Type}(c:ai)(K:AV->St->Option R)(st:St)(x:AV):aj c .move [x] st K=K x st:=aH c K (λH n=>run_move H n x) st
@[simp] theorem cJ{R:Type}(K:AV->Option R)(x:AV):dK .move [x] K=K x:=b7 K (λH n=>run_move H n x)
theorem Rb(H:Pos->Option AB)(n:Pos)(x y:AV):av.run H n .pick [.bool true,x,y]=some (.val x):=rfl
@[simp] theorem j6{R:Type}(c:ai)(K:AV->St->Option R)(st:St)(x y:AV):aj c .pick [.bool true,x,y] st K=K x st:=aH c K (λH n=>Rb H n x y) st
@[simp] theorem ai1{R:Type}(K:AV->Option R)(x y:AV):dK .pick [.bool true,x,y] K=K x:=b7 K (λH n=>Rb H n x y)
theorem Rc(H:Pos->Option AB)(n:Pos)(x y:AV):av.run H n .pick [.bool false,x,y]=some (.val y):=rfl
@[simp] theorem dF{R:Type}(c:ai)(K:AV->St->Option R)(st:St)(x y:AV):aj c .pick [.bool false,x,y] st K=K y st:=aH c K (λH n=>Rc H n x y) st
@[simp] theorem ai2{R:Type}(K:AV->Option R)(x y:AV):dK .pick [.bool false,x,y] K=K y:=b7 K (λH n=>Rc H n x y)
theorem aaa(H:Pos->Option AB)(n:Pos)(p:Bool):av.run H n (.un .not) [.bool p]=some (.val (.bool (!p))):=rfl
@[simp] theorem mV{R:Type}(c:ai)(K:AV->St->Option R)(st:St)(p:Bool):aj c (.un .not) [.bool p] st K=K (.bool (!p)) st:=aH c K (λH n=>aaa H n p) st
@[simp] theorem ajL{R:Type}(K:AV->Option R)(p:Bool):dK (.un .not) [.bool p] K=K (.bool (!p)):=b7 K (λH n=>aaa H n p)
theorem aab(H:Pos->Option AB)(n:Pos)(q:fC)(k:IntKind)(a b:Int):av.run H n (.bin .lss q) [.int k a,.int k b]=some (.val (.bool (decide (a<b)))):=by simp[av.run,fQ,jX,cU,kB,ek,iZ,fX]
@[simp] theorem b9{R:Type}(c:ai)(K:AV->St->Option R)(st:St)(q:fC)(k:IntKind)(a b:Int):aj c (.bin .lss q) [.int k a,.int k b] st K=K (.bool (decide (a<b))) st:=aH c K (λH n=>aab H n q k a b) st
@[simp] theorem aac{R:Type}(K:AV->Option R)(q:fC)(k:IntKind)(a b:Int):dK (.bin .lss q) [.int k a,.int k b] K=K (.bool (decide (a<b))):=b7 K (λH n=>aab H n q k a b)
theorem aad(H:Pos->Option AB)(n:Pos)(q:fC)(k:IntKind)(a b:Int):av.run H n (.bin .leq q) [.int k a,.int k b]=some (.val (.bool (decide (a<=b)))):=by simp[av.run,fQ,jX,cU,kB,ek,iZ,fX]
@[simp] theorem ahc{R:Type}(c:ai)(K:AV->St->Option R)(st:St)(q:fC)(k:IntKind)(a b:Int):aj c (.bin .leq q) [.int k a,.int k b] st K=K (.bool (decide (a<=b))) st:=aH c K (λH n=>aad H n q k a b) st
@[simp] theorem ajM{R:Type}(K:AV->Option R)(q:fC)(k:IntKind)(a b:Int):dK (.bin .leq q) [.int k a,.int k b] K=K (.bool (decide (a<=b))):=b7 K (λH n=>aad H n q k a b)
theorem aae(H:Pos->Option AB)(n:Pos)(q:fC)(k:IntKind)(a b:Int):av.run H n (.bin .gtr q) [.int k a,.int k b]=some (.val (.bool (decide (b<a)))):=by simp[av.run,fQ,jX,cU,kB,ek,iZ,fX]
@[simp] theorem pU{R:Type}(c:ai)(K:AV->St->Option R)(st:St)(q:fC)(k:IntKind)(a b:Int):aj c (.bin .gtr q) [.int k a,.int k b] st K=K (.bool (decide (b<a))) st:=aH c K (λH n=>aae H n q k a b) st
@[simp] theorem ajN{R:Type}(K:AV->Option R)(q:fC)(k:IntKind)(a b:Int):dK (.bin .gtr q) [.int k a,.int k b] K=K (.bool (decide (b<a))):=b7 K (λH n=>aae H n q k a b)
theorem aaf(H:Pos->Option AB)(n:Pos)(q:fC)(k:IntKind)(a b:Int):av.run H n (.bin .geq q) [.int k a,.int k b]=some (.val (.bool (decide (b<=a)))):=by simp[av.run,fQ,jX,cU,kB,ek,iZ,fX]
@[simp] theorem Dt{R:Type}(c:ai)(K:AV->St->Option R)(st:St)(q:fC)(k:IntKind)(a b:Int):aj c (.bin .geq q) [.int k a,.int k b] st K=K (.bool (decide (b<=a))) st:=aH c K (λH n=>aaf H n q k a b) st
@[simp] theorem ajO{R:Type}(K:AV->Option R)(q:fC)(k:IntKind)(a b:Int):dK (.bin .geq q) [.int k a,.int k b] K=K (.bool (decide (b<=a))):=b7 K (λH n=>aaf H n q k a b)
theorem aag(H:Pos->Option AB)(n:Pos)(q:fC)(k:IntKind)(a b:Int):av.run H n (.bin .eql q) [.int k a,.int k b]=some (.val (.bool (decide (a=b)))):=by simp[av.run,fQ,jX,cU,kB,ek,iZ,fX]
@[simp] theorem cM{R:Type}(c:ai)(K:AV->St->Option R)(st:St)(q:fC)(k:IntKind)(a b:Int):aj c (.bin .eql q) [.int k a,.int k b] st K=K (.bool (decide (a=b))) st:=aH c K (λH n=>aag H n q k a b) st
@[simp] theorem ajP{R:Type}(K:AV->Option R)(q:fC)(k:IntKind)(a b:Int):dK (.bin .eql q) [.int k a,.int k b] K=K (.bool (decide (a=b))):=b7 K (λH n=>aag H n q k a b)
theorem aah(H:Pos->Option AB)(n:Pos)(q:fC)(k:IntKind)(a b:Int):av.run H n (.bin .neq q) [.int k a,.int k b]=some (.val (.bool (!decide (a=b)))):=by simp[av.run,fQ,jX,cU,kB,ek,iZ,fX]
@[simp] theorem ji{R:Type}(c:ai)(K:AV->St->Option R)(st:St)(q:fC)(k:IntKind)(a b:Int):aj c (.bin .neq q) [.int k a,.int k b] st K=K (.bool (!decide (a=b))) st:=aH c K (λH n=>aah H n q k a b) st
@[simp] theorem ajQ{R:Type}(K:AV->Option R)(q:fC)(k:IntKind)(a b:Int):dK (.bin .neq q) [.int k a,.int k b] K=K (.bool (!decide (a=b))):=b7 K (λH n=>aah H n q k a b)
theorem aai(H:Pos->Option AB)(n:Pos)(q:fC)(k:IntKind)(a b:Int):av.run H n (.bin .add q) [.int k a,.int k b]=some (.val (.int k (au k (a+b)))):=by simp[av.run,fQ,jX,cU,kB,ek,iZ,fX]
@[simp] theorem fG{R:Type}(c:ai)(K:AV->St->Option R)(st:St)(q:fC)(k:IntKind)(a b:Int):aj c (.bin .add q) [.int k a,.int k b] st K=K (.int k (au k (a+b))) st:=aH c K (λH n=>aai H n q k a b) st
@[simp] theorem aaj{R:Type}(K:AV->Option R)(q:fC)(k:IntKind)(a b:Int):dK (.bin .add q) [.int k a,.int k b] K=K (.int k (au k (a+b))):=b7 K (λH n=>aai H n q k a b)
theorem aak(H:Pos->Option AB)(n:Pos)(q:fC)(k:IntKind)(a b:Int):av.run H n (.bin .sub q) [.int k a,.int k b]=some (.val (.int k (au k (a - b)))):=by simp[av.run,fQ,jX,cU,kB,ek,iZ,fX]
@[simp] theorem SC{R:Type}(c:ai)(K:AV->St->Option R)(st:St)(q:fC)(k:IntKind)(a b:Int):aj c (.bin .sub q) [.int k a,.int k b] st K=K (.int k (au k (a - b))) st:=aH c K (λH n=>aak H n q k a b) st
@[simp] theorem ajR{R:Type}(K:AV->Option R)(q:fC)(k:IntKind)(a b:Int):dK (.bin .sub q) [.int k a,.int k b] K=K (.int k (au k (a - b))):=b7 K (λH n=>aak H n q k a b)
theorem ahd(H:Pos->Option AB)(n:Pos)(q:fC)(k:IntKind)(a b:Int):av.run H n (.bin .mul q) [.int k a,.int k b]=some (.val (.int k (au k (a*b)))):=by simp[av.run,fQ,jX,cU,kB,ek,iZ,fX]
@[simp] theorem aal{R:Type}(c:ai)(K:AV->St->Option R)(st:St)(q:fC)(k:IntKind)(a b:Int):aj c (.bin .mul q) [.int k a,.int k b] st K=K (.int k (au k (a*b))) st:=aH c K (λH n=>ahd H n q k a b) st
theorem Xd(H:Pos->Option AB)(n:Pos)(q:fC)(s t:List Nat):av.run H n (.bin .eql q) [.str s,.str t]=some (.val (.bool (decide (s=t)))):=by simp[av.run,fQ,jX,cU,kB,ek,iZ,fX]
@[simp] theorem mz{R:Type}(c:ai)(K:AV->St->Option R)(st:St)(q:fC)(s t:List Nat):aj c (.bin .eql q) [.str s,.str t] st K=K (.bool (decide (s=t))) st:=aH c K (λH n=>Xd H n q s t) st
@[simp] theorem ae8{R:Type}(K:AV->Option R)(q:fC)(s t:List Nat):dK (.bin .eql q) [.str s,.str t] K=K (.bool (decide (s=t))):=b7 K (λH n=>Xd H n q s t)
theorem Xe(H:Pos->Option AB)(n:Pos)(q:fC)(s t:List Nat):av.run H n (.bin .neq q) [.str s,.str t]=some (.val (.bool (!decide (s=t)))):=by simp[av.run,fQ,jX,cU,kB,ek,iZ,fX]
@[simp] theorem iF{R:Type}(c:ai)(K:AV->St->Option R)(st:St)(q:fC)(s t:List Nat):aj c (.bin .neq q) [.str s,.str t] st K=K (.bool (!decide (s=t))) st:=aH c K (λH n=>Xe H n q s t) st
@[simp] theorem ae9{R:Type}(K:AV->Option R)(q:fC)(s t:List Nat):dK (.bin .neq q) [.str s,.str t] K=K (.bool (!decide (s=t))):=b7 K (λH n=>Xe H n q s t)
theorem Xf(H:Pos->Option AB)(n:Pos)(q:fC)(s t:List Nat):av.run H n (.bin .lss q) [.str s,.str t]=some (.val (.bool (aC s t))):=by simp[av.run,fQ,jX,cU,kB,ek,iZ,fX]
@[simp] theorem ajx{R:Type}(c:ai)(K:AV->St->Option R)(st:St)(q:fC)(s t:List Nat):aj c (.bin .lss q) [.str s,.str t] st K=K (.bool (aC s t)) st:=aH c K (λH n=>Xf H n q s t) st
@[simp] theorem ajy{R:Type}(K:AV->Option R)(q:fC)(s t:List Nat):dK (.bin .lss q) [.str s,.str t] K=K (.bool (aC s t)):=b7 K (λH n=>Xf H n q s t)
theorem afa(H:Pos->Option AB)(n:Pos)(q:fC)(s t:List Nat):av.run H n (.bin .leq q) [.str s,.str t]=some (.val (.bool (aC s t||decide (s=t)))):=by simp[av.run,fQ,jX,cU,kB,ek,iZ,fX]
@[simp] theorem ajz{R:Type}(K:AV->Option R)(q:fC)(s t:List Nat):dK (.bin .leq q) [.str s,.str t] K=K (.bool (aC s t||decide (s=t))):=b7 K (λH n=>afa H n q s t)
theorem Xg(H:Pos->Option AB)(n:Pos)(q:fC)(s t:List Nat):av.run H n (.bin .geq q) [.str s,.str t]=some (.val (.bool (!aC s t))):=by simp[av.run,fQ,jX,cU,kB,ek,iZ,fX]
@[simp] theorem ajA{R:Type}(c:ai)(K:AV->St->Option R)(st:St)(q:fC)(s t:List Nat):aj c (.bin .geq q) [.str s,.str t] st K=K (.bool (!aC s t)) st:=aH c K (λH n=>Xg H n q s t) st
@[simp] theorem ajB{R:Type}(K:AV->Option R)(q:fC)(s t:List Nat):dK (.bin .geq q) [.str s,.str t] K=K (.bool (!aC s t)):=b7 K (λH n=>Xg H n q s t)
theorem Xh(H:Pos->Option AB)(n:Pos)(s:List Nat):av.run H n (.lenB .s) [.str s]=some (.val (.int .i64 (s.length:Int))):=rfl
@[simp] theorem jd{R:Type}(c:ai)(K:AV->St->Option R)(st:St)(s:List Nat):aj c (.lenB .s) [.str s] st K=K (.int .i64 (s.length:Int)) st:=aH c K (λH n=>Xh H n s) st
@[simp] theorem afb{R:Type}(K:AV->Option R)(s:List Nat):dK (.lenB .s) [.str s] K=K (.int .i64 (s.length:Int)):=b7 K (λH n=>Xh H n s)
theorem Xi(H:Pos->Option AB)(n:Pos)(es:Nat)(z:Bool)(rs:List (List AV)):av.run H n (.lenB .l) [ro es z rs]=some (.val (.int .i64 (rs.length:Int))):=by unfold ro;split<;>rfl
@[simp] theorem lF{R:Type}(c:ai)(K:AV->St->Option R)(st:St)(es:Nat)(z:Bool)(rs:List (List AV)):aj c (.lenB .l) [ro es z rs] st K=K (.int .i64 (rs.length:Int)) st:=aH c K (λH n=>Xi H n es z rs) st
@[simp] theorem Xj{R:Type}(K:AV->Option R)(es:Nat)(z:Bool)(rs:List (List AV)):dK (.lenB .l) [ro es z rs] K=K (.int .i64 (rs.length:Int)):=b7 K (λH n=>Xi H n es z rs)
theorem Xk(H:Pos->Option AB)(n:Pos)(k k2:IntKind)(a:Int):av.run H n (.conv (.int k)) [.int k2 a]=some (.val (.int k (au k a))):=rfl
@[simp] theorem w6{R:Type}(c:ai)(K:AV->St->Option R)(st:St)(k k2:IntKind)(a:Int):aj c (.conv (.int k)) [.int k2 a] st K=K (.int k (au k a)) st:=aH c K (λH n=>Xk H n k k2 a) st
@[simp] theorem ajC{R:Type}(K:AV->Option R)(k k2:IntKind)(a:Int):dK (.conv (.int k)) [.int k2 a] K=K (.int k (au k a)):=b7 K (λH n=>Xk H n k k2 a)
theorem Xl(H:Pos->Option AB)(n:Pos)(k:IntKind)(s:List Nat)(i:Nat):av.run H n .idxS [.str s,.int k (i:Int)]=((s[i]?.map λc=>.int .u8 (c:Int)):Option AV).map .val:=by simp only[av.run,Ni,eI,mC];cases s[i]? <;>rfl
@[simp] theorem ajD{R:Type}(c:ai)(K:AV->St->Option R)(st:St)(k:IntKind)(s:List Nat)(i:Nat):aj c .idxS [.str s,.int k (i:Int)] st K=nr (s[i]?.map λc=>.int .u8 (c:Int)) λv=>K v st:=Bx c K (λH n=>Xl H n k s i) st
theorem ac6(H:Pos->Option AB)(n:Pos)(k:IntKind)(s:List Nat):av.run H n .idxS [.str s,.int k 0]=((s[(0:Nat)]?.map λc=>.int .u8 (c:Int)):Option AV).map .val:=by have:=Xl H n k s 0;exact this
@[simp] theorem aju{R:Type}(c:ai)(K:AV->St->Option R)(st:St)(k:IntKind)(s:List Nat):aj c .idxS [.str s,.int k 0] st K=nr (s[(0:Nat)]?.map λc=>.int .u8 (c:Int)) λv=>K v st:=Bx c K (λH n=>ac6 H n k s) st
theorem LD(H:Pos->Option AB)(n:Pos)(off:Nat)(p:Pos)(o:Nat):av.run H n (.fieldA off) [.ptr p o]=some (.val (.ptr p (o+off))):=rfl
@[simp] theorem bN{R:Type}(c:ai)(K:AV->St->Option R)(st:St)(off:Nat)(p:Pos)(o:Nat):aj c (.fieldA off) [.ptr p o] st K=K (.ptr p (o+off)) st:=aH c K (λH n=>LD H n off p o) st
@[simp] theorem aV{R:Type}(K:AV->Option R)(off:Nat)(p:Pos)(o:Nat):dK (.fieldA off) [.ptr p o] K=K (.ptr p (o+off)):=b7 K (λH n=>LD H n off p o)
theorem LF(H:Pos->Option AB)(n:Pos)(off:Nat)(xs:List (List AV))(i j:Nat):av.run H n (.fieldA off) [.fp xs i j]=some (.val (.fp xs i (j+off))):=rfl
@[simp] theorem ah8{R:Type}(c:ai)(K:AV->St->Option R)(st:St)(off:Nat)(xs:List (List AV))(i j:Nat):aj c (.fieldA off) [.fp xs i j] st K=K (.fp xs i (j+off)) st:=aH c K (λH n=>LF H n off xs i j) st
@[simp] theorem ah9{R:Type}(K:AV->Option R)(off:Nat)(xs:List (List AV))(i j:Nat):dK (.fieldA off) [.fp xs i j] K=K (.fp xs i (j+off)):=b7 K (λH n=>LF H n off xs i j)
theorem OA(H:Pos->Option AB)(n:Pos)(i:Nat)(l:List AV):av.run H n (.extract i) [.tuple l]=(l[i]? :Option AV).map .val:=by simp only[av.run,C8,mC];cases l[i]? <;>rfl
@[simp] theorem eX{R:Type}(c:ai)(K:AV->St->Option R)(st:St)(i:Nat)(l:List AV):aj c (.extract i) [.tuple l] st K=nr l[i]? λv=>K v st:=Bx c K (λH n=>OA H n i l) st
@[simp] theorem vY{R:Type}(K:AV->Option R)(i:Nat)(l:List AV):dK (.extract i) [.tuple l] K=nr l[i]? K:=Ra K (λH n=>OA H n i l)
theorem HA(H:Pos->Option AB)(n:Pos)(p:Pos)(o:Nat):av.run H n .nilCheck [.ptr p o]=some (.val (.ptr p o)):=rfl
@[simp] theorem uV{R:Type}(c:ai)(K:AV->St->Option R)(st:St)(p:Pos)(o:Nat):aj c .nilCheck [.ptr p o] st K=K (.ptr p o) st:=aH c K (λH n=>HA H n p o) st
@[simp] theorem ahe{R:Type}(K:AV->Option R)(p:Pos)(o:Nat):dK .nilCheck [.ptr p o] K=K (.ptr p o):=b7 K (λH n=>HA H n p o)
theorem Xm(H:Pos->Option AB)(n:Pos)(es:Nat)(z:Bool)(rs:List (List AV))(k:IntKind)(i:Nat):av.run H n (.idxA es none) [ro es z rs,.int k (i:Int)]=((if i<rs.length then some (.fp rs i 0)else none):Option AV).map .val:=by
 by_cases h:i<rs.length
 .rw[Z9 (by intro e;subst e;simp at h)];simp[av.run,mS,eI,Df,cX,h]
 . unfold ro;split
   .rfl
   .simp[av.run,mS,eI,Df,cX,h]
@[simp] theorem Xn{R:Type}(c:ai)(K:AV->St->Option R)(st:St)(es:Nat)(z:Bool)(rs:List (List AV))(k:IntKind)(i:Nat):aj c (.idxA es none) [ro es z rs,.int k (i:Int)] st K=nr (if i<rs.length then some (.fp rs i 0)else none) λv=>K v st:=Bx c K (λH n=>Xm H n es z rs k i) st
@[simp] theorem afc{R:Type}(K:AV->Option R)(es:Nat)(z:Bool)(rs:List (List AV))(k:IntKind)(i:Nat):dK (.idxA es none) [ro es z rs,.int k (i:Int)] K=nr (if i<rs.length then some (.fp rs i 0)else none) K:=Ra K (λH n=>Xm H n es z rs k i)
theorem Uv(H:Pos->Option AB)(n:Pos)(es:Nat)(z:Bool)(rs:List (List AV))(k:IntKind)(i:Nat):av.run H n (.sliceL es false true false) [ro es z rs,.int k (i:Int)]=((if i<=rs.length then some (ro es (z&&rs.isEmpty) (rs.take i))else none):Option AV).map .val:=by
 by_cases h:i<=rs.length
 . rw[  Za9 h];unfold ro;split
   .simp at h;subst h;rfl
   .rename_i hn;have:(z&&rs.isEmpty)=false:=(by cases z<;>cases rs<;>simp at hn ⊢);simp only[this];simp[av.run,lS,bounds,eI,cI,cX,h]
 . rw[Za3 h];unfold ro;split
   .simp only[av.run,lS,bounds,eI];have:¬i=0:=(by simp at h;omega);simp[cX,this]
   .simp[av.run,lS,bounds,eI,cI,cX,h]
@[simp] theorem ajv{R:Type}(c:ai)(K:AV->St->Option R)(st:St)(es:Nat)(z:Bool)(rs:List (List AV))(k:IntKind)(i:Nat):aj c (.sliceL es false true false) [ro es z rs,.int k (i:Int)] st K=nr (if i<=rs.length then some (ro es (z&&rs.isEmpty) (rs.take i))else none) λv=>K v st:=Bx c K (λH n=>Uv H n es z rs k i) st
@[simp] theorem ac7{R:Type}(K:AV->Option R)(es:Nat)(z:Bool)(rs:List (List AV))(k:IntKind)(i:Nat):dK (.sliceL es false true false) [ro es z rs,.int k (i:Int)] K=nr (if i<=rs.length then some (ro es (z&&rs.isEmpty) (rs.take i))else none) K:=Ra K (λH n=>Uv H n es z rs k i)
section
variable{R:Type}(c:ai)(K:AV->St->Option R)(K1:AV->Option R)
theorem yJ(H:Pos->Option AB)(n:Pos)(xs:List (List AV))(i j:Nat):av.run H n (.load none) [.fp xs i j]=(xs[i]?.bind λcs=>cs[j]?).map .val:=by
 simp only[av.run,uP,mC];cases xs[i]? with
 |none=>rfl
 |some cs=>simp only[Ze6];cases cs[j]? <;>rfl
theorem Gs(H:Pos->Option AB)(n:Pos)(m:Nat)(xs:List (List AV))(i j:Nat):av.run H n (.load (some m)) [.fp xs i j]=((xs[i]?.bind λcs=>cut cs j m).map .agg).map .val:=by
 simp only[av.run,uP,mC];cases xs[i]? with
 |none=>rfl
 |some cs=>simp only[Ze6];cases cut cs j m<;>rfl
theorem uW (H:Pos->Option AB)(n:Pos)(p:Pos)(o:Nat):av.run H n (.load none) [.ptr p o]=((cellsOf (H p)).bind λcs=>cs[o]?).map .val:=by
 simp only[av.run,uP,mC];cases H p with
 |none=>rfl
 |some x=>   cases x<;>simp only[cellsOf,Ze6,Option.bind_none]<;>try rfl
             all_goals first|(rename_i cs _;cases cs[o]? <;>rfl)|(rename_i _ cs;cases cs[o]? <;>rfl)
theorem Bd (H:Pos->Option AB)(n:Pos)(m:Nat)(p:Pos)(o:Nat):av.run H n (.load (some m)) [.ptr p o]=(((cellsOf (H p)).bind λcs=>cut cs o m).map .agg).map .val:=by
 simp only[av.run,uP];cases H p with
 |none=>rfl
 |some x=>   cases x<;>simp only[cellsOf,Ze6,Option.bind_none]<;>try rfl
             all_goals first|(rename_i cs _;cases cut cs o m<;>rfl)|(rename_i _ cs;cases cut cs o m<;>rfl)
@[simp] theorem ai3(st:St)(xs:List (List AV))(i j:Nat):aj c (.load none) [.fp xs i j] st K=nr (xs[i]?.bind λcs=>cs[j]?) λv=>K v st:=Bx c K (λH n=>yJ H n xs i j) st
@[simp] theorem aiH(st:St)(m:Nat)(xs:List (List AV))(i j:Nat):aj c (.load (some m)) [.fp xs i j] st K=B5 (xs[i]?.bind λcs=>cut cs j m) λl=>K (.agg l) st:=by rw[Bx c K (λH n=>Gs H n m xs i j) st];cases(xs[i]?.bind λcs=>cut cs j m)<;>rfl
@[simp] theorem dG(st:St)(p:Pos)(o:Nat):aj c (.load none) [.ptr p o] st K=nr ((cellsOf (st.heap.get p)).bind λcs=>cs[o]?) λv=>K v st:=by unfold aj bP;rw[uW];cases((cellsOf (st.heap.get p)).bind λcs=>cs[o]?)<;>rfl
@[simp] theorem vZ(st:St)(m:Nat)(p:Pos)(o:Nat):aj c (.load (some m)) [.ptr p o] st K=B5 ((cellsOf (st.heap.get p)).bind λcs=>cut cs o m) λl=>K (.agg l) st:=by unfold aj bP;rw[Bd];cases((cellsOf (st.heap.get p)).bind λcs=>cut cs o m)<;>rfl
@[simp] theorem ai4(h:T AB)(xs:List (List AV))(i j:Nat):jB (.load none) [.fp xs i j] h (λ_=>true) K1=nr (xs[i]?.bind λcs=>cs[j]?) K1:=by unfold jB;rw[yJ,yJ];cases hx:(xs[i]?.bind λcs=>cs[j]?)<;>rfl
@[simp] theorem aiI(h:T AB)(m:Nat)(xs:List (List AV))(i j:Nat):jB (.load (some m)) [.fp xs i j] h (λ_=>true) K1=B5 (xs[i]?.bind λcs=>cut cs j m) λl=>K1 (.agg l):=by unfold jB;rw[Gs,Gs];cases hx:(xs[i]?.bind λcs=>cut cs j m)<;>rfl
@[simp] theorem si(st:St)(f:FuncId)(xs:List AV):aj c (.mkFunc f 0) xs st K=K (.func f [] xs) st:=aH c K (λH n=>by simp[av.run,Fa,cI]) st
@[simp] theorem iJ(h:T AB)(p:Pos)(o:Nat):jB (.load none) [.ptr p o] h (λ_=>true) K1=nr ((cellsOf (h.get p)).bind λcs=>cs[o]?) K1:=by unfold jB;rw[uW,uW];show(match ((cellsOf (h.get p)).bind λcs=>cs[o]?).map cO.val with|some (.val v)=>_|_=>_)=_;cases((cellsOf (h.get p)).bind λcs=>cs[o]?)<;>rfl
@[simp] theorem Gt(h:T AB)(m:Nat)(p:Pos)(o:Nat):jB (.load (some m)) [.ptr p o] h (λ_=>true) K1=B5 ((cellsOf (h.get p)).bind λcs=>cut cs o m) λl=>K1 (.agg l):=by unfold jB;rw[Bd,Bd];show(match (((cellsOf (h.get p)).bind λcs=>cut cs o m).map AV.agg).map cO.val with|some (.val v)=>_|_=>_)=_;cases((cellsOf (h.get p)).bind λcs=>cut cs o m)<;>rfl
theorem run_build(H:Pos->Option AB)(n:Pos)(z:List AV)(ps:List (Nat×Nat))(xs:List AV):av.run H n (.build z ps) xs=((cW z ps xs).map .agg).map .val:=by simp only[av.run,Ix];cases cW z ps xs<;>rfl
@[simp] theorem jC(st:St)(z:List AV)(ps:List (Nat×Nat))(xs:List AV):aj c (.build z ps) xs st K=B5 (cW z ps xs) λl=>K (.agg l) st:=by rw[Bx c K (λH n=>run_build H n z ps xs) st];cases cW z ps xs<;>rfl
@[simp] theorem By(z:List AV)(ps:List (Nat×Nat))(xs:List AV):dK (.build z ps) xs K1=B5 (cW z ps xs) λl=>K1 (.agg l):=by rw[Ra K1 (λH n=>run_build H n z ps xs)];cases cW z ps xs<;>rfl
theorem bY{α:Type}{l:List α}{m:Nat}(h:l.length=m):cut l 0 m=some l:=by
 unfold cut;rw[cI,H5 (by omega)];simp only[Zc9];rw[Zg8 (by omega)]
end
end Go.Ai
namespace Go.Ai
open Go
def Wf(st:St):Prop:=∀p x,st.heap.get p=some x->p.toNat<st.next.toNat
theorem dM(st:St)(b:AB):(af st b).next=st.next.succ:=id rfl
@[simp] theorem bU{st:St}{b:AB}(h:Wf st):Wf (af st b):=λp x hp=>by
  rw[dM,Pos.aB];by_cases e:st.next=p
  .subst e;omega
  .have:=h p x (by rwa [af,T.bG _ e]at hp);omega
@[simp] theorem aE(st:St)(b:AB):(af st b).heap.get st.next=some b:=T.eO _ _ _
theorem mQ{st:St}{b:AB}{p:Pos}(h:p.toNat<st.next.toNat):(af st b).heap.get p=st.heap.get p:=by
 rw[af,T.bG _ (by intro e;subst e;omega)]
@[simp] theorem yK{st:St}{a b:AB}:(af (af st a) b).heap.get st.next=some a:=by
  rw[mQ (by rw[dM,Pos.aB];omega),aE]
theorem cN{st:St}{b:AB}(h:Wf st):aT st (af st b):=λp x hp=>by rw[mQ (h p x hp)];exact hp
theorem aD{st st':St}{v:AV}(hv:Plain v)(hk:aT st st'):tidy st (v,st')=(v,st):=by
 unfold tidy;rw[Za9 ⟨hv,hk⟩]
section
variable{R:Type}(c:ai)(K:AV->St->Option R)
@[simp] theorem ff(x:AV)(st:St):aj c .box [x] st K=K (.ptr st.next 0) (af st (.cells x.cells 0)):=id rfl
@[simp] theorem jD(l:List AV)(st:St):aj c (.alloc l) [] st K=K (.ptr st.next 0) (af st (.cells l 0)):=id rfl
end
theorem T.AL{α:Type}(x y:Option α):∀(p:Pos)(t:T α),T.put x p (T.put y p t)=T.put x p t
 |.h,.e=>rfl
 |.h,.n _ _ _=>rfl
 |.o p,.e=>by simp only[T.put];rw[T.AL x y p]
 |.o p,.n _ _ _=>by simp only[T.put];rw[T.AL x y p]
 |.i p,.e=>by simp only[T.put];rw[T.AL x y p]
 |.i p,.n _ _ _=>by simp only[T.put];rw[T.AL x y p]
def cj(st:St)(p:Pos)(b:AB):St:={ heap:=st.heap.put (some b) p,next:=st.next }
@[simp] theorem AM(st:St)(p:Pos)(b:AB):(cj st p b).next=st.next:=id rfl
@[simp] theorem dB(st:St)(p:Pos)(b:AB):(cj st p b).heap.get p=some b:=T.eO _ _ _
theorem bC{st:St}{p q:Pos}{b:AB}(h:p≠q):(cj st p b).heap.get q=st.heap.get q:=T.bG _ h _
@[simp] theorem Du(st:St)(a b:AB):cj (af st a) st.next b=af st b:=by
  unfold cj af;simp only[T.AL]
@[simp] theorem SD(st:St)(p:Pos)(a b:AB):cj (cj st p a) p b=cj st p b:=by
  unfold cj;simp only[T.AL]
theorem Pos.SE(p:Pos):p≠p.succ:=λe=>by have:=congrArg Pos.toNat e;rw[Pos.aB]at this;omega
theorem eV{R:Type}(c:ai)(K:AV->St->Option R)(st:St)(m:Nat)(p:Pos)(o:Nat)(v:AV)(cs:List AV)(h:st.heap.get p=some (.cells cs 0))(h1:v.cells.length=m)(h2:o+m<=cs.length)(h3:aR v.cells=true):
  aj c (.store m) [.ptr p o,v] st K=K .undef (cj st p (.cells (aJ cs o v.cells) 0)):=by
 have:av.run (λb=>st.heap.get b) st.next (.store m) [.ptr p o,v]=some (.aG .undef none (some (p,.cells (aJ cs o v.cells) 0)) none):=by
  simp[av.run,Az,h,h1,h2,h3,cX,cI]
 unfold aj bP;rw[this];rfl
@[simp] theorem eG{R:Type}(c:ai)(K:AV->St->Option R)(st:St)(m:Nat)(v:AV)(cs:List AV)(h1:v.cells.length=m)(h2:m=cs.length)(h3:aR v.cells=true):
   aj c (.store m) [.ptr st.next 0,v] (af st (.cells cs 0)) K=K .undef (af st (.cells v.cells 0)):=by
  rw[eV c K _ m st.next 0 v cs (aE _ _) h1 (by omega) h3,Du];have:aJ cs 0 v.cells=v.cells:=by unfold aJ;rw[h1,h2];simp
  rw[this]
theorem ai5{R:Type}(n:Option Nat)(p:Pos)(o:Nat)(st:St)(K:AV->Option R):Z8 n (.ptr p o) st K=match n with
  |none=>nr ((cellsOf (st.heap.get p)).bind λcs=>cs[o]?) K
  |some m=>B5 ((cellsOf (st.heap.get p)).bind λcs=>cut cs o m) λl=>K (.agg l):=by
 unfold Z8;cases n with
 |none=>rw[uW];simp only;cases((cellsOf (st.heap.get p)).bind λcs=>cs[o]?)<;>rfl
 |some m=>rw[Bd];simp only;cases((cellsOf (st.heap.get p)).bind λcs=>cut cs o m)<;>rfl
@[simp] theorem Xo{R:Type}(m:Nat)(p:Pos)(o:Nat)(st:St)(K:AV->Option R):Z8 (some m) (.ptr p o) st K=B5 ((cellsOf (st.heap.get p)).bind λcs=>cut cs o m) λl=>K (.agg l):=ai5 (some m) p o st K
@[simp] theorem ac8(es:Nat)(z:Bool)(rs:List (List AV)):(ro es z rs).one=true:=by unfold ro;split<;>rfl
@[simp] theorem Xp(es:Nat)(z:Bool)(rs:List (List AV)):(ro es z rs).cells=[ro es z rs]:=by unfold ro;split<;>rfl
structure Grew(s s':St):Prop where
 wf:Wf s'
 keeps:aT s s'
 next:s.next.toNat<=s'.next.toNat
theorem Grew.refl{s:St}(h:Wf s):Grew s s:=⟨h,aT.refl s,Za5 _⟩
theorem Grew.trans{a b c:St}(h:Grew a b)(k:Grew b c):Grew a c:=⟨k.wf,h.keeps.trans k.keeps,Zd4 h.next k.next⟩
theorem Grew.af{s:St}(h:Wf s)(b:AB):Grew s (af s b):=⟨bU h,cN h,by rw[dM,Pos.aB];omega⟩
theorem Grew.get{s s':St}(h:Grew s s'){p:Pos}{x:AB}(hp:s.heap.get p=some x):s'.heap.get p=some x:=h.keeps p x hp
end Go.Ai
end
namespace Go.Ai
section
open Go
theorem HB{st:St}{p:Pos}{b:AB}(h:Wf st)(hp:p.toNat<st.next.toNat):Wf (cj st p b):=λq x hq=>by
 rw[AM];by_cases e:p=q
 .subst e;exact hp
 .rw[bC e]at hq;exact h q x hq
def dst(st:St)(p:Pos)(b:AB):St:={ heap:=(st.heap.put none p).put (some b) st.next,next:=st.next.succ }
theorem afd(st:St)(p:Pos)(b:AB):(dst st p b).next=st.next.succ:=id rfl
theorem SG(st:St)(p:Pos)(b:AB):(dst st p b).heap.get st.next=some b:=T.eO _ _ _
theorem Re{st:St}{p q:Pos}{b:AB}(h:p≠q)(h2:q.toNat<st.next.toNat):(dst st p b).heap.get q=st.heap.get q:=by
 rw[dst,T.bG _ (by intro e;subst e;omega),T.bG _ h]
theorem ac9{st:St}{p:Pos}{b:AB}(h:Wf st):Wf (dst st p b):=λq x hq=>by
 rw[afd,Pos.aB];by_cases e:st.next=q
 .subst e;omega
 . rw[dst,T.bG _ e]at hq;by_cases e2:p=q
   .subst e2;rw[T.eO]at hq;cases hq
   .rw[T.bG _ e2]at hq;have:=h q x hq;omega
theorem ada{s s':St}{v:AV}(h:Grew s s')(hw:Wf s):∃iy,tidy s (v,s')=(v,iy)/\Grew s iy:=by
 unfold tidy;split
 .exact⟨s,rfl,Grew.refl hw⟩
 .exact⟨s',rfl,h⟩
theorem SH{s s':St}{v:AV}{b:Pos}{x:AB}(h:s.heap.get b=some x)(h2:s'.heap.get b≠some x):tidy s (v,s')=(v,s'):=by
 unfold tidy;rw[Za3];exact λe=>h2 (e.2 b x h)
section
variable{R:Type}(c:ai)(K:AV->St->Option R)(K1:AV->Option R)
theorem Rf(H:Pos->Option AB)(n:Pos)(es len:Nat)(z:List AV)(ps:List Nat)(xs:List AV):av.run H n (.buildSlice es len z ps) xs=(cW (cC z len) (ps.map λi=>(i*es,es)) xs).map λcs=>.aG (.slice n 0 len (some len) es) none none (some (.cells cs 0)):=by simp only[av.run,rL];cases cW (cC z len) (ps.map λi=>(i*es,es)) xs<;>rfl
@[simp] theorem aX(st:St)(es len:Nat)(z:List AV)(ps:List Nat)(xs:List AV):aj c (.buildSlice es len z ps) xs st K=B5 (cW (cC z len) (ps.map λi=>(i*es,es)) xs) λcs=>K (.slice st.next 0 len (some len) es) (af st (.cells cs 0)):=by unfold aj bP;rw[Rf];cases cW (cC z len) (ps.map λi=>(i*es,es)) xs<;>rfl
@[simp] theorem yL(st:St)(es len:Nat)(z:List AV)(ps:List Nat)(xs:List AV)(K2:AV->AB->Option R):Lx (.buildSlice es len z ps) xs st K2=B5 (cW (cC z len) (ps.map λi=>(i*es,es)) xs) λcs=>K2 (.slice st.next 0 len (some len) es) (.cells cs 0):=by unfold Lx;rw[Rf];cases cW (cC z len) (ps.map λi=>(i*es,es)) xs<;>rfl
@[simp] theorem adb(st:St):aj c .mkMap [] st K=K (.map st.next) (af st (.map [] 0)):=id rfl
theorem Xq{st:St}{es bytes m:Nat}{x:AV}{new:List AV}(hm:dD x=some m)(h0:m≠0)(hb:(2*(0+m)+768)*bytes<=281474976710656)(hs:0+m<=9223372036854775807)(hx:cH es m (λb=>st.heap.get b) x=some new):
  aj c (.append es bytes) [.ah,x] st K=K (.slice st.next 0 m none es) (af st (.cells new 0)):=by
 have:av.run (λb=>st.heap.get b) st.next (.append es bytes) [.ah,x]=some (.aG (.slice st.next 0 m none es) none none (some (.cells new 0))):=by
  simp only[av.run,gO];rw[show dD .ah=some 0 from rfl,hm];simp only[cI,cX,H5 hb,H5 hs,Za0 h0,hx]
 unfold aj bP;rw[this];rfl
theorem ahf{st:St}{es bytes m n:Nat}{p:Pos}{x:AV}{cs cY new:List AV}(hm:dD x=some m)(h0:m≠0)(hb:(2*(n+m)+768)*bytes<=281474976710656)(hs:n+m<=9223372036854775807)(hp:st.heap.get p=some (.cells cs 0))
  (ho:cH es n (λb=>st.heap.get b) (.slice p 0 n none es)=some cY) (hx:cH es m (λb=>st.heap.get b) x=some new) (h1:aR new=true):
  aj c (.append es bytes) [.slice p 0 n none es,x] st K=K (.slice st.next 0 (n+m) none es) (dst st p (.cells (cY++new) 0)):=by
 have:av.run (λb=>st.heap.get b) st.next (.append es bytes) [.slice p 0 n none es,x]=some (.aG (.slice st.next 0 (n+m) none es) (some p) none (some (.cells (cY++new) 0))):=by simp only[av.run,gO];rw[show dD (.slice p 0 n none es)=some n from rfl,hm];simp only[cI,cX,H5 hb,H5 hs,Za0 h0,hx,hp,ho,h1];simp
 unfold aj bP;rw[this];rfl
theorem ade{st:St}{es bytes m:Nat}{p:Pos}{x:AV}{new:List AV}(hm:dD x=some m)(h0:m≠0)(hb:(2*(0+m)+768)*bytes<=281474976710656)(hs:0+m<=9223372036854775807)(hx:cH es m (λb=>st.heap.get b) x=some new):
  aj c (.append es bytes) [.slice p 0 0 (some 0) es,x] st K=K (.slice st.next 0 m none es) (af st (.cells new 0)):=by
 have:av.run (λb=>st.heap.get b) st.next (.append es bytes) [.slice p 0 0 (some 0) es,x]=some (.aG (.slice st.next 0 m none es) none none (some (.cells new 0))):=by
  have h2:¬(0+m<=0):=by omega
  have ho:cH es 0 (λb=>st.heap.get b) (.slice p 0 0 (some 0) es)=some []:=by simp[cH]
  simp only[av.run,gO];rw[show dD (.slice p 0 0 (some 0) es)=some 0 from rfl,hm];simp only[cI,cX,H5 hb,H5 hs,Za0 h0,Za0 h2,hx,ho];simp only[Zd1,Zf0]
 unfold aj bP;rw[this];rfl
theorem Xr{st:St}{es bytes:Nat}{p:Pos}{off n:Nat}{cp:Option Nat}{x:AV}(hm:dD x=some 0)(hb:(2*(n+0)+768)*bytes<=281474976710656)(hs:n+0<=9223372036854775807):
  aj c (.append es bytes) [.slice p off n cp es,x] st K=K (.slice p off n cp es) st:=by
 have:av.run (λb=>st.heap.get b) st.next (.append es bytes) [.slice p off n cp es,x]=some (.val (.slice p off n cp es)):=by
  simp only[av.run,gO];rw[show dD (.slice p off n cp es)=some n from rfl,hm];simp only[cI,cX,H5 hb,H5 hs]
 unfold aj bP;rw[this]
theorem Uw(H:Pos->Option AB)(n:Pos)(z:AV)(m:Pos)(es:List (AV×AV×Nat))(cl:Nat)(k:AV)(h:H m=some (.map es cl))(r:Option (Nat×AV))(hf:jY .s k es 0=some r):
  av.run H n (.lookup .s z true) [.map m,k]=some (.val (match r with|some (_,v)=>.tuple [v,.bool true]|none=>.tuple [z,.bool false])):=by
 simp only[av.run,xB,h,hf];cases r with
 |none=>rfl
 |some p=>rfl
theorem FC(z:AV){st:St}{m:Pos}{es:List (AV×AV×Nat)}{cl:Nat}{k:AV}{r:Option (Nat×AV)}(h:st.heap.get m=some (.map es cl))(hf:jY .s k es 0=some r):
  aj c (.lookup .s z true) [.map m,k] st K=K (match r with|some (_,v)=>.tuple [v,.bool true]|none=>.tuple [z,.bool false]) st:=by
 unfold aj bP;rw[Uw _ _ z m es cl k h r hf]
theorem Ux(z:AV){h:T AB}{m:Pos}{es:List (AV×AV×Nat)}{cl:Nat}{k:AV}{r:Option (Nat×AV)}(hh:h.get m=some (.map es cl))(hf:jY .s k es 0=some r):
  jB (.lookup .s z true) [.map m,k] h (λ_=>true) K1=K1 (match r with|some (_,v)=>.tuple [v,.bool true]|none=>.tuple [z,.bool false]):=by
 unfold jB;have e:av.run (λ_=>none) .h (.lookup .s z true) [.map m,k]=none:=rfl;rw[e];simp only;rw[Uw _ _ z m es cl k hh r hf]
theorem Zs{st:St}{m:Pos}{es:List (AV×AV×Nat)}{cl:Nat}{k:List Nat}{v:AV}(h:st.heap.get m=some (.map es cl))(hf:jY .s (.str k) es 0=some none):
  aj c (.mapSet .s) [.map m,.str k,v] st K=K .undef (cj st m (.map (es++[(.str k,v,cl)]) (cl+1))):=by
 have:av.run (λb=>st.heap.get b) st.next (.mapSet .s) [.map m,.str k,v]=some (.aG .undef none (some (m,.map (es++[(.str k,v,cl)]) (cl+1))) none):=by
  simp[av.run,xC,h,hf,aaQ]
 unfold aj bP;rw[this];rfl
theorem pV{p:Pos}{o:Nat}{h h2:T AB}{v:AV}(hv:((cellsOf (h.get p)).bind λcs=>cs[o]?)=some v)(Hi:((cellsOf (h2.get p)).bind λcs=>cs[o]?)=some v)(hb:fE v v=true):
  jB (.load none) [.ptr p o] h (λv=>mT (.load none) [.ptr p o] v (th [] h2)&&true) K1=K1 v:=by
 unfold jB;have e:av.run (λ_=>none) .h (.load none) [.ptr p o]=none:=rfl;rw[e];simp only;rw[uW,hv];simp only[Zf1];have:mT (.load none) [.ptr p o] v (th [] h2)=true:=by unfold mT;show(match av.run (λb=>h2.get b) .h (.load none) [.ptr p o]with|some (.val u)=>fE u v|_=>false)=true;rw[uW,Hi];exact hb
 rw[this];rfl
end
theorem AN{R:Type}(K1:AV->Option R){p:Pos}{o:Nat}{h h2:T AB}{v:AV}(hv:((cellsOf (h.get p)).bind λcs=>cs[o]?)=some v)(Hi:((cellsOf (h2.get p)).bind λcs=>cs[o]?)=some v)(hb:fE v v=true):
  jB (.load none) [.ptr p o] h (λv=>mT (.load none) [.ptr p o] v (th [] h2)) K1=K1 v:=by
 have:=pV K1 hv Hi hb;simp only[Zn1]at this;exact this
theorem LG(p:Pos)(o n es:Nat):fE (.slice p o n none es) (.slice p o n none es)=true:=by
 simp[fE,lu,gK,Pos.beq_eq.2 rfl]
theorem Pu:fE .ah .ah=true:=rfl
inductive jt:Nat->AV->Prop
 |flat {d:Nat} {v:AV} (h:gK v v=true):jt d v
 |fl {d:Nat} {a:List (List AV)} {n:Nat} (h:∀r∈a,∀v∈r,jt d v):jt (d+1) (.fl a n)
theorem Rg{f:AV->AV->Bool}:∀{a:List AV},(∀v∈a,f v v=true)->Ff f a a=true
 |[],_=>rfl
 |a::x,h=>by
  simp only[Ff,h a (by simp),Rg (λv hv=>h v (Za4 _ hv)),Zl1]
theorem LH{f:AV->AV->Bool}:∀{a:List (List AV)},(∀r∈a,∀v∈r,f v v=true)->xE f a a=true
 |[],_=>rfl
 |a::x,h=>by
  simp only[xE,Rg (h a (by simp)),LH (λv hv=>h v (Za4 _ hv)),Zl1]
theorem Rh:∀{d:Nat}{v:AV},jt d v->Fg d v v=true
 |d,v,.flat h=>by
  unfold Fg;split
  .simp[gK]at h
  .exact h
 |d+1,.fl a n,.fl h=>by
  unfold Fg;simp[LH (λr hr v hv=>Rh (h r hr v hv))]
theorem jt.ro{d es:Nat}{z:Bool}{rs:List (List AV)}(h:∀r∈rs,∀v∈r,jt d v):jt (d+1) (ro es z rs):=by
 unfold Go.Ai.ro;split
 .exact .flat rfl
 .exact .fl h
theorem adf{v:AV}(h:jt 3 v):fE v v=true:=by
 have h3:=Rh h;cases h with
 |flat h=>
  cases v<;>simp[gK]at h<;>first|simp[fE,lu,gK,h]|skip
  all_goals simp_all [fE,lu,gK]
 |fl h=>exact h3
theorem jt.int{d:Nat}(k:IntKind)(n:Int):jt d (.int k n):= .flat (by simp[gK,lC,cU])
theorem jt.str{d:Nat}(s:List Nat):jt d (.str s):= .flat (by simp[gK,j3])
theorem jt.bool{d:Nat}(s:Bool):jt d (.bool s):= .flat (by simp[gK])
end
section
open Go
section
variable{H:Type}(enc:TypeId×Value->H)(P:Program)(w:World)(base:Nat)(spare:Nat->Bool)(held:Bool)
def mh(t:TypeId)(Q:List AV->Prop):Prop:=
 ∀  (fuel:Nat)(cs:List Value)(x:DataW H×List MemPlace),DataW.trod enc P w base spare held fuel t cs=some x->
    ∃as,Q as/\∀ρ n,ay ρ n (λad=>w.cell? ad) as cs
variable{enc P w base spare held}
theorem mh.mono{t:TypeId}{Q Q':List AV->Prop}(h:mh enc P w base spare held t Q)(k:∀as,Q as->Q' as):mh enc P w base spare held t Q':=
 λfuel cs x hx=>by obtain⟨as,h1,h2⟩:=h fuel cs x hx;exact⟨as,k _ h1,h2⟩
theorem LJ{t:TypeId}{k:IntKind}(ht:P.underlying t=some (.int k)):mh enc P w base spare held t λas=>∃i,as=[.int k i]/\(Lit.int k i).wf=true:=
 fun fuel cs x hx=>by
  obtain⟨n,rfl,h⟩:=DataW.trod_int ht hx;exact⟨_,⟨n,rfl,h.2⟩,λρ m=>ay.cons (.int k n) ay.nil⟩
theorem OB {t e:TypeId}{es:Nat}{Q:List AV->Prop}(ht:P.underlying t=some (.slice e))(hc:P.cellsOf e=es)(ee:0<es)(hQ:∀as,Q as->as.length=es)(h:mh enc P w base spare held e Q):
  mh enc P w base spare held t λas=>∃z rs,as=[ro es z rs]/\(∀r∈rs,Q r)/\rs.length<=maxLen:=
 fun fuel cs  x hx=>by
  rcases DataW.trod_slice ht hx with⟨rfl,_⟩|⟨a,len,cap,elems,rest,n,_,rfl,_,hb,hl,hm,hlen,hel,_,_⟩
  .  exact⟨_,⟨true,[],rfl,by simp,by simp⟩,λρ m=>ay.cons .ah ay.nil⟩
  .  have each:∀i,∃r row,i<len->(Q r/\w.cells? base (a.add (i*es)) es=some row/\∀ρ m,ay ρ m (λad=>w.cell? ad) r row):=by
        intro i;by_cases hi:i<len
        . have h1:=hel i hi;rw[H4 (by omega),hc]at h1;cases h2:w.cells? base (a.add (i*es)) es with
          |none=>rw[h2]at h1;cases h1
          | some row=>
            rw[h2]at h1;obtain⟨r,hr,hv⟩:=h n row _ h1;exact⟨r,row,λ_=>⟨hr,rfl,hv⟩⟩
        .exact⟨[],[],λh=>absurd h hi⟩
     obtain⟨r,each⟩:=Classical.axiomOfChoice each;obtain⟨row,hr⟩:=Classical.axiomOfChoice each;have agO:0<len->a.spot=none:=λh0=>by
        obtain⟨_,h1,_⟩:=hr 0 h0;have:=(World.cells?_some h1).2.2 0 ee;have hl:=(World.cells?_some h1).2.1;rw[H4 (by omega)]at this;simp only[Zq9,Addr.add,Zh0]at this;unfold World.cell? at this;split at this
        . split at this
          .cases this
          .rename_i h;simpa using h
        .cases this
     have ai6:((List.range len).map r).length=len:=(by simp);have get:∀(i:Nat)(c:List AV),((List.range len).map r)[i]? =some c->i<len/\c=r i:=λi c hi=>by
        rw[Zb6]at hi;by_cases h:i<len
        .rw[Zj4 h]at hi;simp at hi;exact⟨h,hi.symm⟩
        .rw[Zb5 (by simpa using h)]at hi;cases hi
     refine⟨_,⟨false,(List.range len).map r,rfl,?_,by simp;omega⟩,λρ m=>ay.cons ?_ ay.nil⟩
     .  intro q hq;simp only[Ze3,Zj2]at hq;obtain⟨i,hi,rfl⟩:=hq;exact(hr i hi).1
     .  have key:aq ρ m (λad=>w.cell? ad) (.fl ((List.range len).map r) es) (.slice (some a) ((List.range len).map r).length cap):=by
          refine .fl _ es cap a (λi j=>((row i)[j]?).getD .nilFunc) (by omega) (λh0=>agO ?_) (λi c hi=> ?_) (λi j c v hi hj=> ?_) (λi j c v hi hj=> ?_)
          .apply Zm9;intro h;apply h0;have:len=0:=(by omega);subst this;rfl
          .obtain⟨h1,rfl⟩:=get i c hi;exact hQ _ (hr i h1).1
          . obtain⟨h1,rfl⟩:=get i c hi;obtain⟨q1,q2,q3⟩:=hr i h1;have hj2:j<es:=(by rw[<-hQ _ q1];exact(Za1.1 hj).1);have q4:=(World.cells?_some q2).2.2 j hj2;have q5:=(World.cells?_some q2).2.1;have hs:=agO (by omega);have e1:(a.add (i*es)).add j=⟨a.block,a.off+i*es+j,none⟩:=by
              obtain⟨az,off,spot⟩:=a;simp only at hs;subst hs;unfold Addr.add;by_cases e1:i*es=0<;>by_cases e2:j=0<;>simp[e1,e2]
            rw[e1]at q4;show w.cell? _=_;rw[q4,H4 (by omega)];rfl
          .obtain⟨h1,rfl⟩:=get i c hi;obtain⟨q1,q2,q3⟩:=hr i h1;have hj2:j<es:=(by rw[<-hQ _ q1];exact(Za1.1 hj).1);have q5:=(World.cells?_some q2).2.1;refine(q3 ρ m).2 j v _ hj ?_;rw[H4 (by omega)];rfl
        rw[ai6]at key;exact key
def Je:List (List AV->Prop)->List (List AV)->Prop
 |[],[]=>True
 |Q::Qs,p::ps=>Q p/\Je Qs ps
 |_,_=>False
def LM(P:Program)(tot:Nat):Nat->List Field->Bool
 |o,[]=>o==tot
 |o,f::fs=>f.offset==o&&LM P tot (o+P.cellsOf f.type) fs
def Xs(enc:TypeId×Value->H)(P:Program)(w:World)(base:Nat)(spare:Nat->Bool)(held:Bool):List TypeId->List (List AV->Prop)->Prop
 |[],[]=>True
 |f::fs,Q::Qs=>mh enc P w base spare held f Q/\Xs enc P w base spare held fs Qs
 |_,_=>False
theorem LN{tot n:Nat}:∀(fs:List Field)(Qs:List (List AV->Prop))(o:Nat)(cs:List Value),LM P tot o fs=true->Xs enc P w base spare held (fs.map (·.type)) Qs->cs.length=tot->
  (∀f∈fs,∃y,DataW.trod enc P w base spare held n f.type ((cs.drop f.offset).take (P.cellsOf f.type))=some y)->
  ∃parts,Je Qs parts/\∀ρ m,ay ρ m (λad=>w.cell? ad) parts.flatten (cs.drop o)
 |[],[],o,cs,hc,_,hl,_=>by simp only[LM,beq_iff_eq]at hc;refine⟨[],trivial,λρ m=> ?_⟩;rw[Zl7 (by omega)];exact ay.nil
 |f::fs,Q::Qs,o,cs,hc,hO,hl,hf=>by
  simp only[LM,Zb0,beq_iff_eq]at hc;obtain⟨y,hy⟩:=hf f (by simp);obtain⟨as,hq,hv⟩:=hO.1 n _ y hy;obtain⟨parts,hp,Hi⟩:=LN fs Qs _ cs hc.2 hO.2 hl (λg hg=>hf g (Za4 _ hg));refine⟨as::parts,⟨hq,hp⟩,λρ m=> ?_⟩;have e:cs.drop o=(cs.drop f.offset).take (P.cellsOf f.type)++cs.drop (o+P.cellsOf f.type):=by
   rw[hc.1, <-Zm3,Zj6]
  rw[e,Ze8];exact(hv ρ m).append (Hi ρ m)
def fieldsOf(P:Program)(t:TypeId):List Field:=match P.underlying t with
 |some (.struct fs)=>fs.toList
 |_=>[]
def Xt(P:Program)(t:TypeId):Bool:=match P.underlying t with
 |some (.struct _)=>true
 |_=>false
theorem Xu{t:TypeId}(ts:List TypeId){Qs:List (List AV->Prop)}(hs:Xt P t=true)(dH:(fieldsOf P t).map (·.type)=ts)(hc:LM P (P.cellsOf t) 0 (fieldsOf P t)=true)(hO:Xs enc P w base spare held ts Qs):
  mh enc P w base spare held t λas=>∃parts,as=parts.flatten/\Je Qs parts:=
 fun fuel cs x hx=>by
  obtain⟨fs,ht⟩:∃fs,P.underlying t=some (.struct fs):=by
     unfold Xt at hs;cases h:P.underlying t with
     |none=>rw[h]at hs;cases hs
     |some d=>rw[h]at hs;cases d<;>first|exact⟨_,rfl⟩|cases hs
  have ef:fieldsOf P t=fs.toList:=by unfold fieldsOf;rw[ht]
  rw[ef]at dH hc;subst dH;obtain⟨xs,n,_,_,hl,hxl,hf⟩:=DataW.trod_struct ht hx;obtain⟨parts,hp,hv⟩:=LN fs.toList Qs 0 cs hc hO hl (λf hf2=>by
     obtain⟨i,hi⟩:=List.getElem?_of_mem hf2;have Qp:fs[i]? =some f:=(by rw[<-Zh7];exact hi);have aO:i<fs.size:=(Zd8.1 Qp).1;exact⟨xs[i],by rw[hf i f Qp,H4 (by omega)]⟩)
  exact⟨_,⟨parts,rfl,hp⟩,λρ m=>hv ρ m⟩
end
def VR(w w':World):Prop:=w'.os=w.os/\w'.tape=w.tape/\w'.output=w.output/\w.heap.size<=w'.heap.size/\∀k,k<w.heap.size->w'.heap[k]? =w.heap[k]?
def Nu:List AV->St->Option (AV×St)
 |[],st=>some (.bool true,st)
 |_,_=>none
theorem TJ{P:Program}{C:Cells}{f:FuncId}{fn:Func}{c:Code}(hf:P.funcs[f]? =some fn)(gV:¬fn.name= "runtime.NumGoroutine")(hb:fn.body=some c)
  (h:∀w:World,(∀ad u,C ad=some u->w.cell? ad=some u)->Calls P f #[] w λe w'=>e= .returned (.bool true)/\VR w w'):lq P C f Nu where
 mono args st v st' hs:=by
  unfold Nu at hs;split at hs<;>first|(cases hs;done)|skip
  simp only[H0,Zb9]at hs;rw[<-hs.2];exact Za5 _
 runs ρ st w args v st' bJ hs hW hv:=by
  unfold Nu at hs;split at hs<;>first|(cases hs;done)|skip
  simp only[H0,Zb9]at hs;obtain⟨rfl,rfl⟩:=hs;obtain rfl:=hv.mU;have cq:(callFunc f ([]:List Value).toArray).run P w= .ok (.enter f #[]) w:=by simp[callFunc,hf,gV,hb]
  rw[cq];refine Calls.mono (h w λad u ha=>(hW.ej ad u ha).1) λe w' he=> ?_
  obtain⟨rfl,h1,h2,h3,h4,h5⟩:=he;exact⟨ρ,.bool true,λ_ _=>rfl,Za5 _,hW.grow h4 h5,⟨h1,h2,h3,h4,λk hk _=>h5 k hk,λb x hb=>.inl ⟨b,x,hb,rfl⟩⟩⟩
theorem aeA{P:Program}{C:Cells}{call:ai}{f:FuncId}{fn:Func}{c:Code}{args:List AV}{bJ:List Value}{b:Bool}{n0:Pos}{aQ:St}{w:World}
  (dP:fO P C call) (hC:∀ad v,C ad=some v->w.cell? ad=some v) (hC2:∀a v,C a=some v->∀o,C ⟨a.block,o,none⟩=none->w.cell? ⟨a.block,o,none⟩=none) (hf:P.funcs[f]? =some fn) (gV:¬fn.name= "runtime.NumGoroutine") (hb:fn.body=some c)
  (ha:ay (λ_=>⟨0,0,0⟩) n0.toNat C args bJ) (h:call f args { heap:= .e,next:=n0 }=some (.bool b,aQ)):
  Calls P f bJ.toArray w λe w'=>e= .returned (.bool b)/\VR w w':=by
 have hr:=dP (λ_=>⟨0,0,0⟩) { heap:= .e,next:=n0 } w f args (.bool b) aQ bJ h (Bt hC hC2) ha;have cq:(callFunc f bJ.toArray).run P w= .ok (.enter f bJ.toArray) w:=by simp[callFunc,hf,gV,hb]
 rw[cq]at hr;refine Calls.mono hr λe w' he=> ?_
 cases e with
 |returned x=>
  obtain⟨ρ',h1,_,_,_,hE⟩:=he;have:=h1.iD;subst this;exact⟨rfl,hE.os,hE.tape,hE.output,hE.size,λk hk=>hE.block k hk λb x hb=>by rw[T.ei]at hb;cases hb⟩
 |panicked c=>exact he.elim
 |outgrown=>exact he.elim
end
section
open Go Go.ChangeShapes Go.WideShapes Go.ChangeAt Go.RowKit
theorem VR.below{w w':World}(h:VR w w'):Below w.heap.size w w':=⟨h.1,h.2.1,h.2.2.1,h.2.2.2.1,h.2.2.2.2⟩
section
variable{H:Type}{enc:TypeId×Value->H}{P:Program}
theorem Ke{W W':World}(hl:laidOutB P=true)(hb:Below W.heap.size W W'):∀{ts:List TypeId}{vs:List Value}{ds:List (DataW H)}{p:List MemPlace},
  DataW.TrodAll enc P W 0 (λ_=>true) true ts vs ds p->(∀t∈ts,P.readableRec t=true/\t<P.types.size)->(∀x∈p,x.block<W.heap.size)->
  DataW.TrodAll enc P W' 0 (λb=>decide (b<W.heap.size)) true ts vs ds p
 |[],_,_,_,h,_,_=>by obtain⟨rfl,rfl,rfl⟩:=trodAll_nil h;exact trodAll_mk0
 |t::ts,_,_,_,h,hr,hx=>by
  obtain⟨v,vs1,d,ds1,a,b,rfl,rfl,rfl,h1,h2⟩:=trodAll_cons h
  exact trodAll_cons_mk (Below.trod hl (hr t (by simp)).1 (hr t (by simp)).2 h1 hb (λx Qz=>hx x (Zg9 _ Qz)))
   (Ke hl hb h2 (λt ht=>hr t (Za4 _ ht)) (λx Qz=>hx x (Zh8 _ Qz)))
theorem acE{f:Func}{s:ChangeSpec}{W W':World}{args:Array Value}{ds gs:List (DataW H)}{before:List MemPlace}{tb:TypeId}(hl:laidOutB P=true)
   (hW:DataW.Whole enc P f.params.toList s.vars false W args.toList ds gs before) (hv:s.vars=[]) (Cw:s.fn H (ds++gs)={ results:=[.lit (.bool true)],args:=ds })
   (hr:∀t∈f.params.toList,P.readableRec t=true/\t<P.types.size) (hB:Below W.heap.size W W') (afe:f.resultTypes= #[tb]) (htb:P.underlying tb=some .bool):
   s.post enc P f false true false false W args (.bool true) W':=by
 have aO:=hW.lt;have fB:=hW;obtain⟨p,q,hA,hV,rfl,hfz,E9⟩:=hW;have hq:q=[]:=by
   rw[hv]at hV;cases gs with
   |nil=>exact hV
   |cons g gs=>exact hV.elim
 subst hq;refine⟨ds,gs,p++[],[],p,[],fB,?_,?_,?_,hB.frame _,λh=>by cases h⟩
 .rw[Cw,afe];exact trodAll_cons_mk (shut_bool htb _) trodAll_mk0
 .rw[Cw];exact Ke hl hB hA hr (λx hx=>aO x (Zg9 _ hx))
 .rw[Cw,hv];rfl
end
section
variable{H:Type}{enc:TypeId×Value->H}{P:Program}{w:World}{base:Nat}{spare:Nat->Bool}{held:Bool}
theorem Qo{t:TypeId}{fs:Array Field}{Q:List AV->Prop}{r:Go.Reach}{b0:Nat}{v:Value}{d:DataW H}{p:List MemPlace}(ho:mh enc P w base spare held t Q)(ht:P.underlying t=some (.struct fs))
  (hval:Value.okWide P w r b0 t v) (hd:DataW.Trod enc P w base spare held t v d p):∃as,Q as/\∀ρ n,aq ρ n (λad=>w.cell? ad) (.agg as) v:=by
 obtain⟨cs,rfl,_⟩:=okWide_struct ht hval;obtain⟨fuel,hf⟩:=hd;obtain⟨as,h1,h2⟩:=ho _ _ _ hf;refine⟨as,h1,λρ n=> ?_⟩;have h3:=h2 ρ n;refine .agg as cs (by rw[h3.1];simp[Value.cells]) λi x x' hx nh=>h3.2 i x x' hx ?_
 simpa [Value.cells]using nh
end
end
section
open Go
theorem aq.ai7{ρ:Pos->Loc}{n:Nat}{C C':Cells}{v:AV}{x:Value}(hC:∀ad u,C ad=some u->C' ad=some u)(h:aq ρ n C v x):aq ρ n C' v x:=by
 induction h with
 |bool b=>exact .bool b
 |int k i=>exact .int k i
 |str s bs h=>exact .str s bs h
 |fP=>exact .fP
 |ptr b off h=>exact .ptr b off h
 |fp xs i j es az base cell hl hc _ ih=>exact .fp xs i j es az base cell hl (λi j cs v h1 h2=>hC _ _ (hc i j cs v h1 h2)) ih
 |ah=>exact .ah
 |slice b off len cap es aM a hl hc ha hk=>exact .slice b off len cap es aM a hl hc ha hk
 |fl xs es aM a cell hl hs ee hc _ ih=>exact .fl xs es aM a cell hl hs ee (λi j cs v h1 h2=>hC _ _ (hc i j cs v h1 h2)) ih
 |pP=>exact .pP
 |map b h=>exact .map b h
 |func f x y x' y' hx hy _ _ ih1 TP=>exact .func f x y x' y' hx hy ih1 TP
 |jV=>exact .jV
 |tU=>exact .tU
 |iface t v x _ ih=>exact .iface t v x ih
 |agg l cs hl _ ih=>exact .agg l cs hl ih
 |tuple l cs hl _ ih=>exact .tuple l cs hl ih
def j7(ρ:Pos->Loc)(n:Nat)(C:Cells)(w:World)(v u:AV):Prop:=∀x,aq ρ n C v x->aq ρ n (λad=>w.cell? ad) u x
section
variable{ρ:Pos->Loc}{C:Cells}{st:St}{w:World}
theorem j7.self{n:Nat}(hC:∀ad u,C ad=some u->w.cell? ad=some u)(v:AV):j7 ρ n C w v v:=λ_ h=>h.ai7 hC
theorem j7.agg{n:Nat}{l l':List AV}(hl:l.length=l'.length)(h:∀(i:Nat)(v u:AV),l[i]? =some v->l'[i]? =some u->j7 ρ n C w v u):j7 ρ n C w (.agg l) (.agg l'):=λx hx=>by
 cases hx with
 |agg _ cs h1 h2=>
  refine .agg l' cs (by omega) λi u x hu hx=> ?_
  have hi:i<l.length:=by rw[hl];exact(Za1.1 hu).1
  exact h i l[i] u (H4 hi) hu _ (h2 i _ x (H4 hi) hx)
theorem j7.slice(hW:aZ ρ C st w){b:Pos}{off len es fz:Nat}{cap:Option Nat}{cs:List AV}(hb:st.heap.get b=some (.cells cs fz))(hlen:off+len*es<=cs.length){F:List (List AV)}(hF:F.length=len)
  (ee:∀(i:Nat)(r:List AV),F[i]? =some r->r.length=es)
  (hr:∀(i j:Nat)(r:List AV)(u v:AV),F[i]? =some r->r[j]? =some u->cs[off+i*es+j]? =some v->j7 ρ st.next.toNat C w v u):
  j7 ρ st.next.toNat C w (.slice b off len cap es) (.fl F es):=λx hx=>by
 cases hx with
 |slice  _ _ _ _ _ aM a hl hc ha hk=>
  have get:∀(i j:Nat)(r:List AV)(u:AV),F[i]? =some r->r[j]? =some u->i<len/\j<es/\off+i*es+j<cs.length/\0<aM:=λi j r u h1 h2=>by
   have g1:i<len:=(by rw[<-hF];exact(Za1.1 h1).1);have g2:j<es:=(by rw[<-ee i r h1];exact(Za1.1 h2).1);have g3:(i+1)*es<=len*es:=Zh4 _ g1;rw[Zi4]at g3;exact⟨g1,g2,by omega,by omega⟩
  have cell:∀(i j:Nat)(r:List AV)(u:AV),F[i]? =some r->r[j]? =some u->∃v y,cs[off+i*es+j]? =some v/\w.cell? ⟨a.block,a.off+i*es+j,none⟩=some y/\aq ρ st.next.toNat C v y:=λi j r u h1 h2=>by
   obtain⟨g1,g2,g3,g4⟩:=get i j r u h1 h2;obtain⟨_,rfl,_⟩:=ha (by omega);have hv:=H4 g3;obtain⟨y,q1,q2⟩:=hW.cell hb hv;exact⟨_,y,hv,by rw[show(ρ b).base+off+i*es+j=(ρ b).base+(off+i*es+j)by omega];exact q1,q2⟩
  have key:aq ρ st.next.toNat (λad=>w.cell? ad) (.fl F es) (.slice (some a) F.length aM):=by
   refine .fl F es aM a (λi j=>(w.cell? ⟨a.block,a.off+i*es+j,none⟩).getD .nilFunc) (by omega) (λh0=> ?_) ee (λi j r u h1 h2=> ?_) (λi j r u h1 h2=> ?_)
   .    cases ai8:len with
        |zero=>exfalso;apply h0;rw[ai8]at hF;exact List.length_eq_zero_iff.1 hF
        |succ m=>
         obtain⟨_,rfl,_⟩:=ha (by omega);rfl
   .    obtain⟨v,y,_,q2,_⟩:=cell i j r u h1 h2;show w.cell? _=_;rw[q2];rfl
   .    obtain⟨v,y,q1,q2,q3⟩:=cell i j r u h1 h2;rw[q2];exact hr i j r u v h1 h2 q1 y q3
  rw[hF]at key;exact key
end
def dZ (st:St):Nat->AV->AV
 |0,v=>v
 |  d+  1,.slice b off len cap es=>match decide (len=0)with
    |true=>.fl [] es
    |false=>match st.heap.get b with
     |  some (.cells cs _)=>match decide (off+len*es<=cs.length)with
        |true=>.fl ((List.range len).map λi=>((cs.drop (off+i*es)).take es).map (dZ st d)) es
        |false=>.slice b off len cap es
     |_=>.slice b off len cap es
 |  d+1,.ptr b off=>match st.heap.get b with
    |some (.cells cs _)=>.fp [cs.map (dZ st d)] 0 off
    |_=>.ptr b off
 |d+1,.agg l=>.agg (l.map (dZ st d))
 |d+1,.func f x y=>.func f (x.map (dZ st d)) (y.map (dZ st d))
 |_,v=>v
theorem Uy(st:St)(d:Nat)(b:Pos)(off len:Nat)(cap:Option Nat)(es:Nat):dZ st (d+1) (.slice b off len cap es)=match decide (len=0)with
 |true=>.fl [] es
 |false=>match st.heap.get b with
  |     some (.cells cs _)=>match decide (off+len*es<=cs.length)with
        |true=>.fl ((List.range len).map λi=>((cs.drop (off+i*es)).take es).map (dZ st d)) es
        |false=>.slice b off len cap es
  |_=>.slice b off len cap es:=rfl
theorem ahg(st:St)(d:Nat)(b:Pos)(off:Nat):dZ st (d+1) (.ptr b off)=match st.heap.get b with
 |some (.cells cs _)=>.fp [cs.map (dZ st d)] 0 off
 |_=>.ptr b off:=rfl
theorem SI(st:St)(d:Nat)(l:List AV):dZ st (d+1) (.agg l)= .agg (l.map (dZ st d)):=rfl
theorem aff(st:St)(d:Nat)(f:FuncId)(x y:List AV):dZ st (d+1) (.func f x y)= .func f (x.map (dZ st d)) (y.map (dZ st d)):=rfl
section
variable{ρ:Pos->Loc}{C:Cells}{st:St}{w:World}
theorem j7.ptr(hW:aZ ρ C st w){b:Pos}{off fz:Nat}{cs F:List AV}(hb:st.heap.get b=some (.cells cs fz))(hF:F.length=cs.length)
  (hr:∀(j:Nat)(u v:AV),F[j]? =some u->cs[j]? =some v->j7 ρ st.next.toNat C w v u):j7 ρ st.next.toNat C w (.ptr b off) (.fp [F] 0 off):=λx hx=>by
 cases hx with
 |ptr   _ _ h=>
  have row:∀(i j:Nat)(r:List AV)(u:AV),[F][i]? =some r->r[j]? =some u->i=0/\∃v y,cs[j]? =some v/\w.cell? ⟨(ρ b).az,(ρ b).base+j,none⟩=some y/\aq ρ st.next.toNat C v y/\F[j]? =some u:=λi j r u h1 h2=>by
   have hi:i=0:=(by have:=(Za1.1 h1).1;simp at this;exact this);subst hi;simp at h1;subst h1;have hj:j<cs.length:=(by rw[<-hF];exact(Za1.1 h2).1);obtain⟨y,q1,q2⟩:=hW.cell hb (H4 hj);exact⟨rfl,_,y,H4 hj,q1,q2,h2⟩
  have key:aq ρ st.next.toNat (λad=>w.cell? ad) (.fp [F] 0 off) (.pointer (some ⟨(ρ b).az,(ρ b).base+0*cs.length+off,none⟩)):=by
   refine .fp [F] 0 off cs.length (ρ b).az (ρ b).base (λ_ j=>(w.cell? ⟨(ρ b).az,(ρ b).base+j,none⟩).getD .nilFunc) (λi r h1=> ?_) (λi j r u h1 h2=> ?_) (λi j r u h1 h2=> ?_)
   .    have hi:i=0:=(by have:=(Za1.1 h1).1;simp at this;exact this);subst hi;simp at h1;subst h1;exact hF
   .    obtain⟨rfl,v,y,_,q2,_⟩:=row i j r u h1 h2;show w.cell? _=_;rw[show(ρ b).base+0*cs.length+j=(ρ b).base+j by omega,q2];rfl
   .    obtain⟨rfl,v,y,q1,q2,q3,q4⟩:=row i j r u h1 h2;rw[q2];exact hr j u v q4 q1 y q3
  rw[show(ρ b).base+0*cs.length+off=(ρ b).base+off by omega]at key;exact key
theorem j7.dZ (hW:aZ ρ C st w):∀(d:Nat)(v:AV),j7 ρ st.next.toNat C w v (dZ st d v)
 |0,v=>j7.self (λad u h=>(hW.ej ad u h).1) v
 |d+    1,v=>   by
  have self:=j7.self (ρ:=ρ) (n:=st.next.toNat) (λad u h=>(hW.ej ad u h).1) v;cases v with
  |slice    b off len cap es=>
   rw[Uy];split
   .    rename_i h0;obtain rfl:=Zh9 h0;intro x hx;cases hx with
        | slice _ _ _ _ _ aM a hl hc ha hk=>
          exact .fl [] es aM a (λ_ _=>.nilFunc) (Zi5 _) (λh=>absurd rfl h) (λi c h=>by simp at h) (λi j c v h=>by simp at h) (λi j c v h=>by simp at h)
   split
   .    rename_i cs fz hb;split
        . rename_i hle;have hle:=Zh9 hle;refine j7.slice hW hb hle (by simp) (λi r hi=> ?_) (λi j r u v hi hj hv=> ?_)
          . rw[Zb6]at hi;by_cases h:i<len
            .rw[Zj4 h]at hi;simp only[Zf1,H0]at hi;subst hi;have g3:(i+1)*es<=len*es:=Zh4 _ h;rw[Zi4]at g3;simp;omega
            .rw[Zb5 (by simpa using h)]at hi;cases hi
          . rw[ Zb6]at hi;by_cases h:i<len
            . rw[Zj4 h]at hi;simp only[Zf1,H0]at hi;subst hi;rw[Zb6,Zc4]at hj;split at hj
              .rw[Zd2,hv]at hj;simp only[Zf1,H0]at hj;subst hj;exact j7.dZ hW d v
              .cases hj
            .rw[Zb5 (by simpa using h)]at hi;cases hi
        .exact self
   .    exact self
  |ptr b off=>
   rw[ahg];split
   .    rename_i cs fz hb;refine j7.ptr hW hb (by simp) (λj u v hu hv=> ?_);rw[Zb6,hv]at hu;simp only[Zf1,H0]at hu;subst hu;exact j7.dZ hW d v
   .    exact self
  |agg l=>
   rw[SI];refine j7.agg (by simp) (λi v u h1 h2=> ?_);rw[Zb6,h1]at h2;simp only[Zf1,H0]at h2;subst h2;exact j7.dZ hW d v
  |func f x y=>
   rw[aff];intro v' hv;cases hv with
   |    func _ _ _ x' y' hx hy h1 h2=>
        have one:∀(l:List AV)(xs:Array Value),(∀(i:Nat)(v:AV)(v':Value),l[i]? =some v->xs[i]? =some v'->aq ρ st.next.toNat C v v')->∀(i:Nat)(v:AV)(v':Value),(l.map (Go.Ai.dZ st d))[i]? =some v->xs[i]? =some v'->aq ρ st.next.toNat (λad=>w.cell? ad) v v':=λl xs h i u v' hu hx=>by
          rw[Zb6]at hu;cases hg:l[i]? with
          |none=>rw[hg]at hu;cases hu
          | some v0=>
            rw[hg]at hu;simp only[Zf1,H0]at hu;subst hu;exact j7.dZ hW d v0 _ (h i v0 v' hg hx)
        exact .func f _ _ x' y' (by simpa using hx) (by simpa using hy) (one x x' h1) (one y y' h2)
  |_=>exact self
theorem ay.dZ(hW:aZ ρ C st w)(d:Nat){l:List AV}{xs:List Value}(h:ay ρ st.next.toNat C l xs):ay ρ st.next.toNat (λad=>w.cell? ad) (l.map (Go.Ai.dZ st d)) xs:=
 ⟨by rw[<-h.1];simp,λi u x hu hx=>by
  rw[Zb6]at hu;cases hv:l[i]? with
  |none=>rw[hv]at hu;cases hu
  |  some v=>
     rw[hv]at hu;simp only[Zf1,H0]at hu;subst hu;exact j7.dZ hW d v _ (h.2 i v x hv hx)⟩
end
def iK(v:AV):Prop:=∀(ρ:Pos->Loc)(n:Nat)(C C':Cells)(x:Value),aq ρ n C v x->aq ρ n C' v x
theorem iK.bool(b:Bool):iK (.bool b):=λ_ _ _ _ _ h=>by cases h;exact .bool b
theorem iK.int(k:IntKind)(i:Int):iK (.int k i):=λ_ _ _ _ _ h=>by cases h;exact .int k i
theorem iK.tuple{l:List AV}(hl:∀v∈l,iK v):iK (.tuple l):=λ_ _ _ _ _ h=>by
 cases h with|tuple _ cs hx h1=>exact .tuple l cs hx λi v x hv hx=>hl v (Zb4 hv) _ _ _ _ _ (h1 i v x hv hx)
def Ri:AB->Prop
 |.cells cs _=>∀v∈cs,iK v
 |.map es _=>∀e∈es,iK e.1/\iK e.2.1
 |.jW _ _=>True
 |.typed _ cs=>∀v∈cs,iK v
theorem Ri.rel{x:AB}(h:Ri x){ρ:Pos->Loc}{n:Nat}{C C':Cells}{L:Loc}{w:World}(k:m5 ρ n C L w x):m5 ρ n C' L w x:=by
 cases x with
 |cells cs fz=>
  obtain⟨c,e,fr,h1,h2,h3,h4,h5⟩:=k;exact⟨c,e,fr,h1,h2,h3,⟨h4.1,λi v x hv hx=>h v (Zb4 hv) _ _ _ _ _ (h4.2 i v x hv hx)⟩,h5⟩
 |map es clock=>
  obtain⟨es',h1,h2,h3⟩:=k;exact⟨es',h1,h2,λi e e' he lK=>let⟨a,b,c⟩:=h3 i e e' he lK;⟨(h e (Zb4 he)).1 _ _ _ _ _ a,(h e (Zb4 he)).2 _ _ _ _ _ b,c⟩⟩
 |jW s pos=>exact k
 |typed t cs=>
  obtain⟨c,fr,h1,h2,h3,h4,h5⟩:=k;exact⟨c,fr,h1,h2,h3,⟨h4.1,λi v x hv hx=>h v (Zb4 hv) _ _ _ _ _ (h4.2 i v x hv hx)⟩,h5⟩
def T.both{α:Type}:T α->T α->T α
 |t,.e=>t
 |.e,t=>t
 |.n l v r,.n l' v' r'=>.n (T.both l l') (v.or v') (T.both r r')
theorem T.adg{α:Type}(t:T α):T.both t .e=t:=by cases t<;>rfl
theorem T.Pv{α:Type}:∀(p:Pos)(t t':T α),(T.both t t').get p=(t.get p).or (t'.get p)
 |p,t,.e=>by rw[T.adg,T.ei];simp
 |p,.e,.n l v r=>by rw[T.ei];rfl
 |.h,.n l v r,.n l' v' r'=>rfl
 |.o p,.n l v r,.n l' v' r'=>T.Pv p l l'
 |.i p,.n l v r,.n l' v' r'=>T.Pv p r r'
def T.keep{α:Type}(P:α->Bool):T α->T α
 |.e=>.e
 |.n l v r=>.n (T.keep P l) (v.filter P) (T.keep P r)
theorem T.Px{α:Type}(P:α->Bool):∀(p:Pos)(t:T α),(T.keep P t).get p=(t.get p).filter P
 |p,.e=>by rw[T.keep,T.ei];rfl
 |.h,.n l v r=>rfl
 |.o p,.n l v r=>T.Px P p l
 |.i p,.n l v r=>T.Px P p r
open Classical in
noncomputable def Nv(t:T AB):T AB:=T.keep (λx=>decide (Ri x)) t
theorem adh{t:T AB}{p:Pos}{x:AB}(h:(Nv t).get p=some x):t.get p=some x/\Ri x:=by
 unfold Nv at h;rw[T.Px]at h;cases hg:t.get p with
 |none=>rw[hg]at h;cases h
 |some y=>
  rw[hg]at h;simp only[Option.filter]at h;split at h
  .rename_i hb;cases h;exact⟨rfl,@Zh9 _ (Classical.propDecidable _) hb⟩
  .cases h
theorem ahh:Nv .e= .e:=rfl
def Shut(n0:Pos)(r:AV×St):Prop:=iK r.1/\n0.toNat<=r.2.next.toNat
open Classical in
noncomputable def LO(call:ai)(f:FuncId)(d:Nat):List AV->St->Option (AV×St):=λargs st=>
 match call f (args.map (dZ st d)) { heap:= .e,next:=st.next }with
 |some (v,aQ)=>if Shut st.next (v,aQ)then some (v,{ heap:=T.both st.heap (Nv aQ.heap),next:=aQ.next })else none
 |none=>none
theorem ahi{call:ai}{f:FuncId}{d:Nat}{args:List AV}{st:St}{v:AV}{aQ:St}(h:call f (args.map (dZ st d)) { heap:= .e,next:=st.next }=some (v,aQ))(hs:Shut st.next (v,aQ)):
  LO call f d args st=some (v,{ heap:=T.both st.heap (Nv aQ.heap),next:=aQ.next }):=by
 unfold LO;rw[h];simp only;rw[Za9 hs]
theorem afg{call:ai}{f:FuncId}{d:Nat}{args:List AV}{st:St}{v:AV}(h:call f (args.map (dZ st d)) { heap:= .e,next:=st.next }=some (v,{ heap:= .e,next:=st.next }))(hs:iK v):
  LO call f d args st=some (v,st):=by
 rw[ahi h ⟨hs,Za5 _⟩];simp only[ahh,T.adg]
theorem aey {P:Program}{C:Cells}{f:FuncId}{call:ai}{d:Nat}(bV:∀C':Cells,(∀ad u,C ad=some u->C' ad=some u)->fO P C' call):lq P C f (LO call f d) where
 mono args st v st' h:=by
  unfold LO at h;split at h
  . split at h
    .   rename_i hs;simp only[H0,Zb9]at h;rw[<-h.2];exact hs.2
    .   cases h
  .cases h
 runs ρ st  w args v st' bJ h hW hv:=by
  unfold LO at h;split at h
  . rename_i v1 aQ hc;split at h
    .   rename_i hs;simp only[H0,Zb9]at h;obtain⟨rfl,rfl⟩:=h;obtain⟨s1,s3⟩:=hs;have hr:=bV (λad=>w.cell? ad) (λad u ha=>(hW.ej ad u ha).1) ρ { heap:= .e,next:=st.next } w f _ v1 aQ bJ hc (Bt (λad u ha=>ha) λa u _ o ho=>ho) (ay.dZ hW d hv);refine Reaches.mono (λx w' he=> ?_) hr
        . obtain⟨ρ',h1,h2,h3,h4,hE⟩:=he;have un:∀k,k<w.heap.size->w'.heap[k]? =w.heap[k]? :=λk hk=>hE.block k hk λb x hb=>by rw[T.ei]at hb;cases hb
          have new:∀b x,aQ.heap.get b=some x->w.heap.size<=(ρ' b).az:=λb x hx=>by
            rcases hE.oJ b x hx with⟨b',x',jO,_⟩|hh
            .rw[T.ei]at jO;cases jO
            .exact hh
          have both:∀b x,(T.both st.heap (Nv aQ.heap)).get b=some x->(st.heap.get b=some x/\ρ' b=ρ b)\/(aQ.heap.get b=some x/\Ri x):=λb x hx=>by
            rw[T.Pv]at hx;cases hg:st.heap.get b with
            |none=>rw[hg]at hx;exact .inr (adh (by simpa using hx))
            |some y=>rw[hg]at hx;simp at hx;subst hx;exact .inl ⟨rfl,h2 b (hW.live b y hg).1⟩
          refine⟨ρ',s1 _ _ _ _ _ h1,h2,s3,⟨λb x hx=> ?_,λb b' x x' hx nh J8=> ?_,λa u ha=> ?_,λa u ha o ho=> ?_⟩,⟨hE.os,hE.tape,hE.output,hE.size,λk hk _=>un k hk,λb x hx=> ?_⟩⟩
          . rcases both b x hx with⟨hg,aU⟩|⟨hg,VS⟩
            .obtain⟨l1,l2,l3⟩:=hW.live b x hg;refine⟨Zd3 l1 s3,by rw[aU];exact Zd3 l2 hE.size,?_⟩;rw[aU];exact(l3.of_heap (un _ l2)).mono h2 s3
            .obtain⟨l1,l2,l3⟩:=h4.live b x hg;exact⟨l1,l2,VS.rel l3⟩
          . rcases both b x hx with⟨hg,aU⟩|⟨hg,VS⟩
            . rcases both b' x' nh with⟨Qy,AH⟩|⟨Qy,_⟩
              .rw[aU,AH]at J8;exact hW.inj b b' x x' hg Qy J8
              .have q1:=(hW.live b x hg).2.1;have q2:=new b' x' Qy;rw[aU]at J8;omega
            . rcases both b' x' nh with⟨Qy,AH⟩|⟨Qy,_⟩
              .have q1:=(hW.live b' x' Qy).2.1;have q2:=new b x hg;rw[AH]at J8;omega
              .exact h4.inj b b' x x' hg Qy J8
          . obtain⟨c1,c2⟩:=hW.ej a u ha;have aO:a.block<w.heap.size:=World.block_lt_of_cell? _ _ c1;refine⟨(h4.ej a u c1).1,λb x hx=> ?_⟩;rcases both b x hx with⟨hg,aU⟩|⟨hg,VS⟩
            .rw[aU];exact c2 b x hg
            .have:=new b x hg;omega
          .have aO:a.block<w.heap.size:=World.block_lt_of_cell? _ _ (hW.ej a u ha).1;rw[World.cell?_of_block (w:=w) (a:=⟨a.block,o,none⟩) (un _ aO)];exact hW.whole a u ha o ho
          . rcases both b x hx with⟨hg,aU⟩|⟨hg,VS⟩
            .exact .inl ⟨b,x,hg,by rw[aU]⟩
            .exact .inr (new b x hg)
    .   cases h
  .cases h
theorem aam(H:Pos->Option AB)(n:Pos)(k k':IntKind)(a b:Int):av.run H n .minB [.int k a,.int k' b]=some (.val (.int k (min a b))):=by
 show some (cO.val (.int k (match yo b a with|true=>b|false=>a)))=_;rw[ek];by_cases h:b<a
 .rw[H5 h];simp only;rw[Int.min_eq_right (by omega)]
 .rw[Za0 h];simp only;rw[Int.min_eq_left (by omega)]
theorem ahj(H:Pos->Option AB)(n:Pos)(q:fC)(k:IntKind)(a b:Int)(hb:b≠0):av.run H n (.bin .quo q) [.int k a,.int k b]=some (.val (.int k (au k (a.tdiv b)))):=by
 simp[av.run,fQ,jX,cU,kB,hb]
theorem ahk(H:Pos->Option AB)(n:Pos)(q:fC)(k:IntKind)(a b:Int)(hb:b≠0):av.run H n (.bin .rem q) [.int k a,.int k b]=some (.val (.int k (a.tmod b))):=by
 simp[av.run,fQ,jX,cU,kB,hb]
section
variable{R:Type}(c:ai)(K:AV->St->Option R)(st:St)
@[simp] theorem SJ(k k':IntKind)(a b:Int):aj c .minB [.int k a,.int k' b] st K=K (.int k (min a b)) st:=aH c K (λH n=>aam H n k k' a b) st
theorem ahl(q:fC)(k:IntKind)(a b:Int)(hb:b≠0):aj c (.bin .quo q) [.int k a,.int k b] st K=K (.int k (au k (a.tdiv b))) st:=aH c K (λH n=>ahj H n q k a b hb) st
theorem aan(q:fC)(k:IntKind)(a b:Int)(hb:b≠0):aj c (.bin .rem q) [.int k a,.int k b] st K=K (.int k (a.tmod b)) st:=aH c K (λH n=>ahk H n q k a b hb) st
@[simp] theorem lH(q:fC)(k:IntKind)(a:Int):aj c (.bin .quo q) [.int k a,.int k 2] st K=K (.int k (au k (a.tdiv 2))) st:=ahl c K st q k a 2 (by decide)
@[simp] theorem fS(q:fC)(k:IntKind)(a:Int):aj c (.bin .rem q) [.int k a,.int k 2] st K=K (.int k (a.tmod 2)) st:=aan c K st q k a 2 (by decide)
end
def br:AV->Option Pos
 |.slice b _ n cap _=>if cap=some 0/\n=0 then none else some b
 |_=>none
theorem FD{b b':Pos}{off n es:Nat}{cap:Option Nat}(h:br (.slice b off n cap es)=some b'):b=b':=by
 simp only[br]at h;split at h
 .cases h
 .exact Zg4 h
theorem qp(b:Pos)(off n es:Nat):br (.slice b off n none es)=some b:=by simp[br]
theorem jf(b:Pos)(off es:Nat):br (.slice b off 0 (some 0) es)=none:=by simp[br]
def QS(es:Nat)(s:St)(v:AV)(rows:List (List AV)):Prop:=
 (v= .ah/\rows=[])\/(∃b off cap cs,v= .slice b off rows.length cap es/\s.heap.get b=some (.cells cs 0)/\off+rows.length*es<=cs.length/\(cs.drop off).take (rows.length*es)=rows.flatten/\(cap=none\/cap=some rows.length))\/
    (∃b off,v= .slice b off 0 (some 0) es/\rows=[])
theorem QS.nil{es:Nat}{s:St}:QS es s .ah []:= .inl ⟨rfl,rfl⟩
theorem QS.mono{es:Nat}{s s':St}{v:AV}{rows:List (List AV)}(h:QS es s v rows)(hk:∀b x,br v=some b->s.heap.get b=some x->s'.heap.get b=some x):QS es s' v rows:=by
 rcases h with⟨rfl,rfl⟩|⟨b,off,cap,cs,rfl,h1,h2,h3,h4⟩|⟨b,off,rfl,rfl⟩
 .exact .inl ⟨rfl,rfl⟩
 . by_cases h0:cap=some 0/\rows.length=0
   .obtain⟨rfl,h0⟩:=h0;refine .inr (.inr ⟨b,off,by rw[h0],Zb1 h0⟩)
   .exact .inr (.inl ⟨b,off,cap,cs,rfl,hk b _ (by simp only[br];rw[Za3 h0]) h1,h2,h3,h4⟩)
 .exact .inr (.inr ⟨b,off,rfl,rfl⟩)
theorem QS.len{es:Nat}{s:St}{v:AV}{rows:List (List AV)}(h:QS es s v rows):dD v=some rows.length:=by rcases h with⟨rfl,rfl⟩|⟨b,off,cap,cs,rfl,_⟩|⟨b,off,rfl,rfl⟩<;>rfl
theorem QS.lt{es:Nat}{s:St}{v:AV}{rows:List (List AV)}(h:QS es s v rows)(hw:Wf s){b:Pos}(hb:br v=some b):b.toNat<s.next.toNat:=by
 rcases h with⟨rfl,rfl⟩|⟨b',off,cap,cs,rfl,h1,_⟩|⟨b',off,rfl,rfl⟩
 .cases hb
 .obtain rfl:=FD hb;exact hw _ _ h1
 .rw[jf]at hb;cases hb
theorem QS.first{es:Nat}{s:St}{v:AV}{rows:List (List AV)}(h:QS es s v rows)(hr:∀r∈rows,r.length=es):cH es rows.length (λb=>s.heap.get b) v=some rows.flatten:=by
 rcases h with⟨rfl,rfl⟩|⟨b,off,cap,cs,rfl,h1,h2,h3,h4⟩|⟨b,off,rfl,rfl⟩
 .rfl
 rotate_left
 .simp[cH,cX]
 . by_cases h0:rows.length*es=0
   .simp only[cH,cX,H5 h0];have:rows.flatten=[]:=(by rw[<-h3,h0];simp);rw[this]
   .simp only[cH,cX,Za0 h0,h1];unfold cut;rw[cI,H5 h2];simp only;rw[h3]
theorem QS.app{R:Type}{c:ai}{es bytes:Nat}{s:St}{v:AV}{rows:List (List AV)}(hw:Wf s)(h:QS es s v rows)(hr:∀r∈rows,r.length=es){q:Pos}{row:List AV}(hq:s.heap.get q=some (.cells row 0))(BV:row.length=es)(h1:aR row=true)
   (ee:es≠0) (hb:(2*(rows.length+1)+768)*bytes<=281474976710656) (hn:rows.length<=4000000):
   ∃ s5,(∀(K:AV->St->Option R),aj c (.append es bytes) [v,.slice q 0 1 (some 1) es] s K=K (.slice s.next 0 (rows.length+1) none es) s5)/\QS es s5 (.slice s.next 0 (rows.length+1) none es) (rows++[row])/\
     Wf s5/\s5.next=s.next.succ/\(∀p,br v≠some p->p.toNat<s.next.toNat->s5.heap.get p=s.heap.get p)/\s5.heap.get s.next=some (.cells (rows.flatten++row) 0):=by
 have hx:cH es 1 (λb=>s.heap.get b) (.slice q 0 1 (some 1) es)=some row:=by simp only[cH,cX,Zp1,Za0 ee,hq];exact bY BV
 have ho:=h.first hr;have hlen:rows.flatten.length=rows.length*es:=by
   clear h ho hn hb;induction rows with
   |nil=>simp
   | cons r rows ih=>
     have:=ih (λx hx=>hr x (Za4 _ hx));have h2:=hr r (by simp);simp only[Ze8,Zc1,Zc5,Zi4];omega
 have new:∀(s5:St),s5.heap.get s.next=some (.cells (rows.flatten++row) 0)->QS es s5 (.slice s.next 0 (rows.length+1) none es) (rows++[row]):=λs5 hs=>by
   refine .inr (.inl ⟨s.next,0,none,rows.flatten++row,by simp,hs,?_,?_,.inl rfl⟩)
   .simp only[Zc1,Zc5,Zg5,Zd1,Zj9,Zp1,hlen,BV];omega
   .simp only[Zc9,List.flatten_append,Ze8,Zq7,Zf7];refine Zg8 ?_;simp only[Zc1,Zc5,Zg5,Zd1,Zj9,Zp1,hlen,BV];omega
 have CA:(2*(rows.length+1)+768)*bytes<=281474976710656:=hb;have Bz:rows.length+1<=9223372036854775807:=by omega
 rcases h with⟨rfl,rfl⟩|⟨b,off,cap,cs,rfl,g1,g2,g3,g4⟩|⟨b,off,rfl,rfl⟩
 rotate_right
 . have run:av.run (λb=>s.heap.get b) s.next (.append es bytes) [.slice b off 0 (some 0) es,.slice q 0 1 (some 1) es]=some (.aG (.slice s.next 0 (0+1) none es) none none (some (.cells ([]++row) 0))):=(by have h2:¬(0+1<=0):=(by omega);have DK:cH es 0 (λb=>s.heap.get b) (.slice b off 0 (some 0) es)=some []:=(by simp[cH,cX]);simp only[av.run,gO];rw[show dD (.slice b off 0 (some 0) es)=some 0 from rfl,show dD (.slice q 0 1 (some 1) es)=some 1 from rfl];have hb3:(2*(0+1)+768)*bytes<=281474976710656:=(by simpa using hb);simp only[cI,cX,H5 hb3,Za0 h2,hx,DK];simp);refine⟨af s (.cells row 0),λK=> ?_,?_,bU hw,rfl,λp _ hp=>mQ hp,by simpa using aE s (.cells row 0)⟩
   .unfold aj bP;simp only[Zg5]at run ⊢; rw[run];rfl
   .simpa using new (af s (.cells row 0)) (by simpa using aE s (.cells row 0))
 .refine⟨af s (.cells row 0),λK=>Xq c K (m:=1) rfl (by omega) (by simpa using hb) (by omega) hx,?_,bU hw,rfl,λp _ hp=>mQ hp,by simpa using aE s (.cells row 0)⟩;simpa using new (af s (.cells row 0)) (by simpa using aE s (.cells row 0))
 . rcases g4 with rfl|rfl
   .have run:av.run (λb=>s.heap.get b) s.next (.append es bytes) [.slice b off rows.length none es,.slice q 0 1 (some 1) es]=some (.aG (.slice s.next 0 (rows.length+1) none es) (some b) none (some (.cells (rows.flatten++row) (0 - off)))):=(by simp only[av.run,gO];rw[show dD (.slice b off rows.length none es)=some rows.length from rfl,show dD (.slice q 0 1 (some 1) es)=some 1 from rfl];simp only[cI,cX,H5 CA,H5 Bz,hx,g1,ho,h1];simp);refine⟨dst s b (.cells (rows.flatten++row) 0),λK=> ?_,new _ (SG _ _ _),ac9 hw,rfl,λp hp hl=>Re (λe=>hp (by rw[e,qp])) hl,SG _ _ _⟩;unfold aj bP;rw[run];simp only[Nat.zero_sub];rfl
   . have h2:¬(rows.length+1<=rows.length):=(by omega);have run:av.run (λb=>s.heap.get b) s.next (.append es bytes) [.slice b off rows.length (some rows.length) es,.slice q 0 1 (some 1) es]=some (.aG (.slice s.next 0 (rows.length+1) none es) none none (some (.cells (rows.flatten++row) 0))):=by
        simp only[av.run,gO];rw[show dD (.slice b off rows.length (some rows.length) es)=some rows.length from rfl,show dD (.slice q 0 1 (some 1) es)=some 1 from rfl];simp only[cI,cX,H5 CA,H5 Bz,Za0 h2,hx,ho]
     refine⟨af s (.cells (rows.flatten++row) 0),λK=> ?_,new _ (aE _ _),bU hw,rfl,λp _ hp=>mQ hp,aE _ _⟩;unfold aj bP;rw[run];rfl
theorem aao{R:Type}{c:ai}{es:Nat}{z:List AV}{x:AV}(hz:z.length=es)(hx:x.cells.length=es)(s:St)(K:AV->St->Option R):
  aj c (.buildSlice es 1 z [0]) [x] s K=K (.slice s.next 0 1 (some 1) es) (af s (.cells x.cells 0)):=by
 have:cW (cC z 1) ([0].map λi=>(i*es,es)) [x]=some x.cells:=by
  simp only[Zb8,Zf8,Zq9,cC,Zf7,cW,cX,cI,hx,Zg2,Zd1,hz,Za5];simp only[aJ,List.take_zero,Zf0,Zd1];rw[List.drop_of_length_le (by omega),Zf7]
 rw[aX,this];rfl
structure Mk(es:Nat)(s0 s:St)(v:AV)(rows:List (List AV)):Prop where
 rS:Wf s0
 aF:Grew s0 s
 own:QS es s v rows
 new:∀b,br v=some b->s0.next.toNat<=b.toNat
 row:∀r∈rows,r.length=es
 cap:∀b off n cp e,v= .slice b off n cp e->cp=none\/(n=0/\cp=some 0)
 tight:∀b,br v=some b->s.heap.get b=some (.cells rows.flatten 0)
theorem Mk.start{es:Nat}{s0 s:St}(h0:Wf s0)(hg:Grew s0 s):Mk es s0 s .ah []:=⟨h0,hg,QS.nil,λb h=>(by cases h),λr h=>(by cases h),λb off n cp e h=>(by cases h),λb h=>(by cases h)⟩
theorem Mk.grow{es:Nat}{s0 s s':St}{v:AV}{rows:List (List AV)}(h:Mk es s0 s v rows)(hg:Grew s s'):Mk es s0 s' v rows:=
 ⟨h.rS,h.aF.trans hg,h.own.mono λb x _ hx=>hg.get hx,h.new,h.row,h.cap,λb hb=>hg.get (h.tight b hb)⟩
theorem Mk.push{R:Type}{c:ai}{es bytes:Nat}{s0 s:St}{v:AV}{rows:List (List AV)}(h:Mk es s0 s v rows){z:List AV}{x:AV}(hz:z.length=es)(hx:x.cells.length=es)(h1:aR x.cells=true)(ee:es≠0)
   (hb:(2*(rows.length+1)+768)*bytes<=281474976710656) (hn:rows.length<=4000000):
   ∃ s5 v',(∀(K:AV->St->Option R),aj c (.buildSlice es 1 z [0]) [x] s (λy t=>aj c (.append es bytes) [v,y] t K)=K v' s5)/\Mk es s0 s5 v' (rows++[x.cells])/\
     (∀p b,br v≠some p->s.heap.get p=some b->s5.heap.get p=some b)/\∀b,br v'=some b->s.next.toNat<=b.toNat:=by
 have hw:=h.aF.wf;have dm:Wf (af s (.cells x.cells 0)):=bU hw;have g1:=Grew.af hw (.cells x.cells 0);obtain⟨s5,a1,a2,a3,a4,a5,a6⟩:=QS.app (R:=R) (c:=c) (bytes:=bytes) dm (h.own.mono λb x _ hx=>g1.get hx) h.row (aE s (.cells x.cells 0)) hx h1 ee hb hn;have keep:∀p b,br v≠some p->s.heap.get p=some b->s5.heap.get p=some b:=λp b hp hg=>by have aO:=hw _ _ hg;rw[a5 p hp (by rw[dM,Pos.aB];omega)];exact g1.get hg
 refine⟨s5,_,λK=> ?_,⟨h.rS,⟨a3,λp b hg=> ?_,?_⟩,a2,λb hb=> ?_,λr hr=> ?_,λb off n cp e he=> ?_,λb hb=> ?_⟩,keep,λb hb=> ?_⟩
 .rw[aao hz hx,a1]
 .have BA:=h.aF.get hg;refine keep p b (λe=> ?_) BA;have:=h.new p e;have:=h.rS p b hg;omega
 .have:=h.aF.next;rw[a4,dM,Pos.aB,Pos.aB];omega
 .rw[qp]at hb;cases hb;have:=h.aF.next;rw[dM,Pos.aB];omega
 . rcases Zd5.1 hr with hr|hr
   .exact h.row r hr
   .simp at hr;subst hr;exact hx
 .cases he;exact .inl rfl
 .rw[qp]at hb;cases hb;rw[a6];simp
 .rw[qp]at hb;cases hb;rw[dM,Pos.aB];omega
theorem yM{b:Pos}{off n es:Nat}(h:Plain (.slice b off n none es)):False:=by
 have h1:aq (λ_=>⟨0,0,off+n*es⟩) (b.toNat+1) (λ_=>none) (.slice b off n none es) (.slice (some ⟨0,0+off,none⟩) n n):=
  .slice b off n none es n _ (Za5 _) (λc hc=>by cases hc) (λ_=>⟨by omega,rfl,by simp⟩) (λ_=>by omega)
 have h2:=h _ (λ_=>⟨0,0,0⟩) _ 0 _ _ h1;cases h2 with
 |slice _ _ _ _ _ _ _ _ _ _ hk=>exact absurd (hk rfl) (by omega)
theorem Mk.tidy{es:Nat}{s s':St}{v:AV}{rows:List (List AV)}(h:Mk es s s' v rows):∃iy,Go.Ai.tidy s (v,s')=(v,iy)/\Mk es s iy v rows:=by
 unfold Go.Ai.tidy;by_cases hp:Plain (v,s').1/\aT s (v,s').2
 . rw[Za9 hp];refine⟨s,rfl,?_⟩;rcases h.own with⟨rfl,rfl⟩|⟨b,off,cap,cs,rfl,_⟩|⟨b,off,rfl,rfl⟩
   .exact Mk.start h.rS (Grew.refl h.rS)
   . rcases h.cap _ _ _ _ _ rfl with rfl|⟨h0,rfl⟩
     .exact(yM hp.1).elim
     .exact⟨h.rS,Grew.refl h.rS,.inr (.inr ⟨b,off,by rw[h0],Zb1 h0⟩),λb hb=>(by rw[h0,jf]at hb;cases hb),h.row,h.cap,λb hb=>(by rw[h0,jf]at hb;cases hb)⟩
   .exact⟨h.rS,Grew.refl h.rS,.inr (.inr ⟨b,off,rfl,rfl⟩),λb hb=>(by rw[jf]at hb;cases hb),h.row,h.cap,λb hb=>(by rw[jf]at hb;cases hb)⟩
 .rw[Za3 hp];exact⟨s',rfl,h⟩
theorem QS.dZ{es d:Nat}{s:St}{v:AV}{rows:List (List AV)}(h:QS es s v rows)(hr:∀r∈rows,r.length=es):
   ∃z,Go.Ai.dZ s (d+1) v=ro es z (rows.map λr=>r.map (Go.Ai.dZ s d)):=by
 rcases h with⟨rfl,rfl⟩|⟨b,off,cap,cs,rfl,h1,h2,h3,h4⟩|⟨b,off,rfl,rfl⟩
 .exact⟨true,rfl⟩
 rotate_left
 .exact⟨false,rfl⟩
 . refine⟨false,?_⟩;by_cases h0:rows.length=0
   .obtain rfl:=Zb1 h0;rfl
   rw[Uy,Za0 h0];simp only;rw[h1];simp only[H5 h2];show AV.fl _ _=AV.fl _ _;congr 1;(refine List.ext_getElem (by simp) λi p1 p2=> ?_);simp only[Zb3,Zq3]at p1;simp only[Zk5,List.getElem_range];congr 1;have key:∀(rows:List (List AV))(i:Nat)(hi:i<rows.length),(∀r∈rows,r.length=es)->((rows.flatten).drop (i*es)).take es=rows[i]:=by
     intro rows;induction rows with
     |nil=>intro i hi;simp at hi
     |  cons r rows ih=>
        intro i hi hr;have hl:=hr r (by simp);cases i with
        |zero=>simp[<-hl]
        |succ i=>
         have:=ih i (by simpa using hi) (λx hx=>hr x (Za4 _ hx));rw[Ze8,Zi4,Nat.add_comm, <-hl,List.drop_append];simp only[Zn7];rw[<-this,hl];simp[Zl7 (show r.length<=es+i*es by omega)]
   rw[<-key rows i p1 hr, <-h3];rw[List.drop_take,Zp8,Zm3];congr 1;have:(i+1)*es<=rows.length*es:=Zh4 _ p1;rw[Zi4]at this;omega
section
variable{R:Type}(c:ai)(K:AV->St->Option R)(st:St)
theorem qQ{b:Pos}{off len es es':Nat}{cap:Option Nat}{k:IntKind}{i:Nat}(h:i<len):aj c (.idxA es none) [.slice b off len cap es',.int k (i:Int)] st K=K (.ptr b (off+i*es)) st:=
 aH c K (λH n=>by
  simp only[av.run,mS,eI];have:Nat.blt i len=true:=by rw[Zo7];exact h
  rw[this]) st
theorem lJ(b:Pos)(off len es:Nat)(cap:Option Nat):aj c (.lenB .l) [.slice b off len cap es] st K=K (.int .i64 (len:Int)) st:=aH c K (λH n=>rfl) st
theorem Nw{es bytes:Nat}{z:List AV}{k k':IntKind}{n:Nat}(h1:bytes*n<=281474976710656)(h2:n<=9223372036854775807):
  aj c (.mkSlice es bytes z) [.int k (n:Int),.int k' (n:Int)] st K=K (.slice st.next 0 n (some n) es) (af st (.cells (cC z n) 0)):=by
 have:av.run (λb=>st.heap.get b) st.next (.mkSlice es bytes z) [.int k (n:Int),.int k' (n:Int)]=some (.aG (.slice st.next 0 n (some n) es) none none (some (.cells (cC z n) 0))):=by
  simp only[av.run,yp,eI,cI,H5 h1,H5 h2,Za5,Zg2]
 unfold aj bP;rw[this];rfl
end
theorem yN{α:Type}(x:α):∀n:Nat,cC [x] n=List.replicate n x
 |0=>rfl
 |n+1=>by simp[cC,yN x n,Zn0]
theorem AO{rows:List (List AV)}{es:Nat}(hr:∀r∈rows,r.length=es):∀(i j:Nat)(r:List AV)(u:AV),rows[i]? =some r->r[j]? =some u->rows.flatten[i*es+j]? =some u:=by
 induction rows with
 |nil=>intro i j r u h;simp at h
 |cons r0 rows ih=>
  intro i j r u h1 h2;have hl:=hr r0 (by simp);cases i with
  |zero=>
   simp at h1;subst h1;have:=(Za1.1 h2).1;rw[Ze8,Zq9,Zd1,Zc6 this];exact h2
  |succ i=>
   rw[Ze8,Zc8 (by rw[Zi4];omega)];rw[show(i+1)*es+j - r0.length=i*es+j by rw[Zi4];omega];exact ih (λx hx=>hr x (Za4 _ hx)) i j r u (by simpa using h1) h2
theorem QS.lenB{R:Type}{c:ai}{es:Nat}{s:St}{v:AV}{rows:List (List AV)}(h:QS es s v rows)(K:AV->St->Option R)(s1:St):aj c (.lenB .l) [v] s1 K=K (.int .i64 (rows.length:Int)) s1:=by
 rcases h with⟨rfl,rfl⟩|⟨b,off,cap,cs,rfl,_⟩|⟨b,off,rfl,rfl⟩
 .exact aH c K (λH n=>rfl) s1
 .exact lJ c K s1 _ _ _ _ _
 .exact lJ c K s1 _ _ _ _ _
def je(v:AV):Prop:=∃N0 K0:Nat,∀N K:Nat,N0<=N->K0<=K->∃x,aq (λ_=>⟨0,0,K⟩) N (λ_=>none) v x
theorem je.int(k:IntKind)(i:Int):je (.int k i):=⟨0,0,λ_ _ _ _=>⟨_,.int k i⟩⟩
theorem je.bool(b:Bool):je (.bool b):=⟨0,0,λ_ _ _ _=>⟨_,.bool b⟩⟩
theorem je.ah:je .ah:=⟨0,0,λ_ _ _ _=>⟨_,.ah⟩⟩
theorem je.str{s:List Nat}(h:∀x∈s,x<256):je (.str s):=⟨0,0,λ_ _ _ _=>⟨.string ⟨(s.map UInt8.ofNat).toArray⟩,.str s _ (by
 show(s.map UInt8.ofNat).toArray.toList.map UInt8.toNat=s;simp only[Zh1]
 conv=>rhs;rw[<-Zr5 s]
 refine Zk2 λc hc=> ?_
 have:=h c hc;simp[UInt8.toNat_ofNat];omega)⟩⟩
theorem je.slice(b:Pos)(off n es:Nat):je (.slice b off n none es):=⟨b.toNat+1,off+n*es,λN K hN hK=>⟨.slice (some ⟨0,0+off,none⟩) n n,
 .slice b off n none es n _ (Za5 _) (λc hc=>by cases hc) (λ_=>⟨by omega,rfl,by simpa using hK⟩) (λ_=>by omega)⟩⟩
theorem je.zero(b:Pos)(off es:Nat):je (.slice b off 0 (some 0) es):=⟨0,0,λN K _ _=>⟨.slice (some ⟨0,0,none⟩) 0 0,
 .slice b off 0 (some 0) es 0 _ (Za5 _) (λc hc=>by cases hc;rfl) (λh=>absurd rfl h) (λh=>by cases h)⟩⟩
theorem inst_list:∀{l:List AV},(∀v∈l,je v)->∃N0 K0:Nat,∀N K:Nat,N0<=N->K0<=K->∃xs,ay (λ_=>⟨0,0,K⟩) N (λ_=>none) l xs
 |[],_=>⟨0,0,λ_ _ _ _=>⟨[],ay.nil⟩⟩
 |v::l,h=>by
  obtain⟨N1,K1,h1⟩:=h v (by simp);obtain⟨N2,K2,h2⟩:=inst_list (λu hu=>h u (Za4 _ hu));refine⟨max N1 N2,max K1 K2,λN K hN hK=> ?_⟩;obtain⟨x,hx⟩:=h1 N K (by omega) (by omega);obtain⟨xs,iw⟩:=h2 N K (by omega) (by omega);exact⟨x::xs,ay.cons hx iw⟩
theorem Kf{l:List AV}(hi:∀v∈l,je v){b:Pos}{off n es:Nat}(hm:AV.slice b off n none es∈l):¬Plain (.agg l):=λh=>by
 obtain⟨N0,K0,h1⟩:=inst_list hi;obtain⟨xs,hx⟩:=h1 N0 K0 (Za5 _) (Za5 _);have h2:aq (λ_=>⟨0,0,K0⟩) N0 (λ_=>none) (.agg l) (.agg xs.toArray):= .agg l _ (by rw[hx.1];simp) λi v x hv nh=>hx.2 i v x hv (by simpa using nh)
 have h3:=h _ (λ_=>⟨0,0,0⟩) _ 0 _ _ h2;obtain⟨i,aO,hi⟩:=Zm6.1 hm;cases h3 with
 |agg _ _ hl hc=>
  have afh:i<xs.toArray.size:=by rw[<-hl];exact aO
  obtain⟨y,hy⟩:∃y,xs.toArray[i]? =some y:=⟨_,Zg1 afh⟩
  have:=hc i _ y (by rw[H4 aO,hi]) hy;cases this with
  |slice _ _ _ _ _ _ _ _ _ _ hk=>exact absurd (hk rfl) (by omega)
theorem Mk.inst{es:Nat}{s s':St}{v:AV}{rows:List (List AV)}(h:Mk es s s' v rows):je v:=by
 rcases h.own with⟨rfl,rfl⟩|⟨b,off,cap,cs,rfl,_⟩|⟨b,off,rfl,rfl⟩
 .exact je.ah
 . rcases h.cap _ _ _ _ _ rfl with rfl|⟨h0,rfl⟩
   .exact je.slice _ _ _ _
   .rw[h0];exact je.zero _ _ _
 .exact je.zero _ _ _
theorem Mk.loose{es:Nat}{s s':St}{v:AV}{rows:List (List AV)}(h:Mk es s s' v rows):(∃b off n,v= .slice b off n none es)\/((∀t,Wf t->Mk es t t v rows)/\rows=[]):=by
 rcases h.own with⟨rfl,rfl⟩|⟨b,off,cap,cs,rfl,_⟩|⟨b,off,rfl,rfl⟩
 .exact .inr ⟨λt ht=>Mk.start ht (Grew.refl ht),rfl⟩
 . rcases h.cap _ _ _ _ _ rfl with rfl|⟨h0,rfl⟩
   .exact .inl ⟨_,_,_,rfl⟩
   .exact .inr ⟨λt ht=>⟨ht,Grew.refl ht,.inr (.inr ⟨b,off,by rw[h0],Zb1 h0⟩),λb hb=>(by rw[h0,jf]at hb;cases hb),h.row,h.cap,λb hb=>(by rw[h0,jf]at hb;cases hb)⟩,Zb1 h0⟩
 .exact .inr ⟨λt ht=>⟨ht,Grew.refl ht,.inr (.inr ⟨b,off,rfl,rfl⟩),λb hb=>(by rw[jf]at hb;cases hb),h.row,h.cap,λb hb=>(by rw[jf]at hb;cases hb)⟩,rfl⟩
theorem Mk.Jf{es:Nat}{s s':St}{v:AV}{rows:List (List AV)}(h:Mk es s s' v rows){l:List AV}(hm:v∈l)(hi:∀u∈l,je u):∃iy,Go.Ai.tidy s (.agg l,s')=(.agg l,iy)/\(iy=s'\/iy=s)/\Mk es s iy v rows:=by
 unfold Go.Ai.tidy;by_cases hp:Plain (AV.agg l,s').1/\aT s (AV.agg l,s').2
 . rw[Za9 hp];refine⟨s,rfl,.inr rfl,?_⟩;rcases h.loose with⟨b,off,n,rfl⟩|⟨hl,_⟩
   .exact absurd hp.1 (Kf hi hm)
   .exact hl s h.rS
 .rw[Za3 hp];exact⟨s',rfl,.inl rfl,h⟩
theorem Mk.cells{es:Nat}{s s':St}{v:AV}{rows:List (List AV)}(h:Mk es s s' v rows):v.cells=[v]/\aR [v]=true:=by
 rcases h.own with⟨rfl,rfl⟩|⟨b,off,cap,cs,rfl,_⟩|⟨b,off,rfl,rfl⟩<;>exact⟨rfl,rfl⟩
theorem Mk.store{es:Nat}{s s':St}{v:AV}{rows:List (List AV)}(h:Mk es s s' v rows){p:Pos}{b:AB}(hp:s.next.toNat<=p.toNat)(Af:p.toNat<s'.next.toNat)(cL:br v≠some p):Mk es s (cj s' p b) v rows:=
 ⟨h.rS,⟨HB h.aF.wf Af,λq x hq=>by have:=h.rS _ _ hq;rw[bC (λe=>by rw[e]at hp;omega)];exact h.aF.get hq,by rw[AM];exact h.aF.next⟩,
  h.own.mono λq x hq hx=>by rw[bC (λe=>cL (by rw[hq,e]))];exact hx,h.new,h.row,h.cap,λb hb=>by rw[bC (λe=>cL (by rw[hb,e]))];exact h.tight b hb⟩
theorem Mk.back{es:Nat}{s0 s s':St}{v:AV}{rows:List (List AV)}(h:Mk es s s' v rows)(h0:Wf s0)(hg:Grew s0 s):Mk es s0 s' v rows:=
 ⟨h0,hg.trans h.aF,h.own,λb hb=>Zd4 hg.next (h.new b hb),h.row,h.cap,h.tight⟩
theorem uX{α:Type}(l:List α)(i:Nat)(h:i<l.length)(u:α):aJ l i [u]=l.set i u:=by unfold aJ;rw[List.set_eq_take_append_cons_drop,Za9 h];simp
theorem Gu{es:Nat}:∀(rows:List (List AV)),(∀r∈rows,r.length=es)->∀(i j:Nat)(hi:i<rows.length),j<es->∀u,rows.flatten.set (i*es+j) u=(rows.set i (rows[i].set j u)).flatten
 |[],_,i,j,hi,_,_=>by simp at hi
 |r::rows,hr,i,j,hi,hj,u=>by
  have hl:=hr r (by simp);cases i with
  |zero=>
   simp only[Zq9,Zd1,Ze8,List.set_cons_zero,List.getElem_cons_zero];rw[List.set_append_left _ _ (by omega)]
  |succ i=>
   simp only[Ze8,List.set_cons_succ,Zn7];rw[List.set_append_right _ _ (by rw[Zi4];omega)];rw[show(i+1)*es+j - r.length=i*es+j by rw[Zi4];omega];rw[Gu rows (λx hx=>hr x (Za4 _ hx)) i j (by simpa using hi) hj u]
theorem QS.set{R:Type}{c:ai}{es:Nat}{s:St}{v:AV}{rows:List (List AV)}(h:QS es s v rows)(hr:∀r∈rows,r.length=es)(ee:es≠0){i:Nat}(hi:i<rows.length):
   ∃ b o cs,(∀(K:AV->St->Option R)(k:IntKind)(s1:St),aj c (.idxA es none) [v,.int k (i:Int)] s1 K=K (.ptr b o) s1)/\(∀(K:AV->Option R)(k:IntKind),dK (.idxA es none) [v,.int k (i:Int)] K=K (.ptr b o))/\br v=some b/\s.heap.get b=some (.cells cs 0)/\o+es<=cs.length/\(∀j u,rows[i][j]? =some u->cs[o+j]? =some u)/\
     (∀j u (s':St),j<es->s'.heap.get b=some (.cells (aJ cs (o+j) [u]) 0)->QS es s' v (rows.set i (rows[i].set j u)))/\
     ∀j u,j<es->cs=rows.flatten->aJ cs (o+j) [u]=(rows.set i (rows[i].set j u)).flatten:=by
 rcases h with⟨rfl,rfl⟩|⟨b,off,cap,cs,rfl,g1,g2,g3,g4⟩|⟨b,off,rfl,rfl⟩
 .simp at hi
 rotate_left
 .simp at hi
 have hri:=hr rows[i] (Zc0 hi);have hm:(i+1)*es<=rows.length*es:=Zh4 _ hi;rw[Zi4]at hm;have hx:∀(k:IntKind)(H:Pos->Option AB)(n:Pos),av.run H n (.idxA es none) [.slice b off rows.length cap es,.int k (i:Int)]=some (.val (.ptr b (off+i*es))):=λk H n=>by
   simp only[av.run,mS,eI];have:Nat.blt i rows.length=true:=(by rw[Zo7];exact hi);rw[this]
 refine⟨b,off+i*es,cs,λK k s1=>qQ c K s1 hi,λK k=>b7 K (hx k),by simp only[br];rw[Za3 (by omega)],g1,by omega,λj u hj=> ?_,λj u s' hj hs=> ?_,λj u hj he=> ?_⟩
 . have hj2:j<es:=(by rw[<-hri];exact(Za1.1 hj).1);have:=AO hr i j rows[i] u (H4 hi) hj;rw[<-g3,Zc4]at this;split at this
   .rw[Zd2]at this;rw[<-this];congr 1;omega
   .cases this
 .rw[uX _ _ (by omega)]at hs;refine .inr (.inl ⟨b,off,cap,_,by simp,hs,by simpa using g2,?_,by simpa using g4⟩);rw[List.length_set, <-Gu rows hr i j hi hj u, <-g3,List.drop_set,Za3 (by omega),List.take_set];congr 1;omega
 . have hlen:rows.flatten.length=rows.length*es:=by
     clear g2 g3 g4 hi hri hm hx g1 he;induction rows with
     |nil=>simp
     |  cons r rows ih=>
        have:=ih (λx hx=>hr x (Za4 _ hx));have h2:=hr r (by simp);simp only[Ze8,Zc1,Zc5,Zi4];omega
   have h0:off=0:=(by rw[he,hlen]at g2;omega);subst h0;rw[uX _ _ (by omega),he, <-Gu rows hr i j hi hj u];congr 1;omega
def Src(es:Nat)(s:St)(v:AV)(rows:List (List AV)):Prop:=v= .fl rows es\/QS es s v rows
theorem Src.len{es:Nat}{s:St}{v:AV}{rows:List (List AV)}(h:Src es s v rows):dD v=some rows.length:=by
 rcases h with rfl|h
 .rfl
 .exact h.len
theorem Src.mono{es:Nat}{s s':St}{v:AV}{rows:List (List AV)}(h:Src es s v rows)(hk:∀b x,br v=some b->s.heap.get b=some x->s'.heap.get b=some x):Src es s' v rows:=h.imp id λh=>h.mono hk
theorem Src.aF{es:Nat}{s s':St}{v:AV}{rows:List (List AV)}(h:Src es s v rows)(hg:Grew s s'):Src es s' v rows:=h.mono λ_ _ _ hx=>hg.get hx
theorem Src.first{es:Nat}{s:St}{v:AV}{rows:List (List AV)}(h:Src es s v rows)(hr:∀r∈rows,r.length=es):cH es rows.length (λb=>s.heap.get b) v=some rows.flatten:=by
 rcases h with rfl|h
 .simp only[cH,cX,cI,Zg2,Za5,Zi9]
 .exact h.first hr
theorem Src.nil{es:Nat}{s:St}{v:AV}{rows:List (List AV)}(h:Src es s v rows):(v= .ah/\rows=[])\/∀{R:Type}(c:ai)(K:AV->St->Option R)(t:St),aj c (.bin .eql .slice) [v,.ah] t K=K (.bool false) t:=by
 rcases h with rfl|⟨rfl,rfl⟩|⟨b,off,cap,cs,rfl,_⟩|⟨b,off,rfl,rfl⟩
 .exact .inr λc K t=>aH c K (λH n=>rfl) t
 .exact .inl ⟨rfl,rfl⟩
 .exact .inr λc K t=>aH c K (λH n=>rfl) t
 .exact .inr λc K t=>aH c K (λH n=>rfl) t
theorem Src.ro{es:Nat}{s:St}(z:Bool)(rows:List (List AV)):Src es s (ro es z rows) rows:=by
 unfold Go.Ai.ro;split
 .exact .inr (.inl ⟨rfl,rfl⟩)
 .exact .inl rfl
theorem Uz{es:Nat}:∀{rows:List (List AV)},(∀r∈rows,r.length=es)->rows.flatten.length=rows.length*es
 |[],_=>by simp
 |r::rows,hr=>by have ih:=Uz (λx hx=>hr x (Za4 _ hx));have h2:=hr r (by simp);simp only[Ze8,Zc1,Zc5,Zi4];omega
theorem adi{es bytes:Nat}{z:List AV}{src:AV}{rows:List (List AV)}(hr:∀r∈rows,r.length=es)(_hes:es≠0)(hb:(2*rows.length+768)*bytes<=281474976710656)(hn:rows.length<=4000000){c:ai}{R:Type}(s:St)(hw:Wf s)(h:Src es s src rows):
   ∃v s',(∀(K:AV->St->Option R),aj c (.buildSlice es 0 z []) [] s (λy t=>aj c (.append es bytes) [y,src] t K)=K v s')/\Mk es s s' v rows:=by
 have bs:∀(K:AV->St->Option R),aj c (.buildSlice es 0 z []) [] s K=K (.slice s.next 0 0 (some 0) es) (af s (.cells [] 0)):=λK=>by rw[aX];rfl
 have dm:Wf (af s (.cells [] 0)):=bU hw;have g1:=Grew.af hw (.cells [] 0);have hl:=h.len;by_cases h0:rows.length=0
 .obtain rfl:=Zb1 h0;refine⟨.slice s.next 0 0 (some 0) es,af s (.cells [] 0),λK=> ?_,hw,g1,.inr (.inr ⟨_,_,rfl,rfl⟩),λb hb=>(by rw[jf]at hb;cases hb),hr,λb off n cp e he=>(by cases he;exact .inr ⟨rfl,rfl⟩),λb hb=>(by rw[jf]at hb;cases hb)⟩;rw[bs,Xr c K hl (by simpa using hb) (by simp)]
 . have hx:cH es rows.length (λb=>(af s (.cells [] 0)).heap.get b) src=some rows.flatten:=(h.aF g1).first hr;have hlen:=Uz hr;refine⟨.slice (af s (.cells [] 0)).next 0 rows.length none es,af (af s (.cells [] 0)) (.cells rows.flatten 0),λK=> ?_,hw,g1.trans (Grew.af dm _),.inr (.inl ⟨_,0,none,rows.flatten,rfl,aE _ _,by omega,?_,.inl rfl⟩),λb hb=> ?_,hr,λb off n cp e he=>(by cases he;exact .inl rfl),λb hb=>(by rw[qp]at hb;cases hb;exact aE _ _)⟩
   .rw[bs,ade c K (m:=rows.length) hl h0 (by simpa using hb) (by omega) hx]
   .simp only[Zc9];exact Zg8 (by omega)
   .rw[qp]at hb;cases hb;rw[dM,Pos.aB];omega
theorem ug{v:AV}(h:aR [v]=true):v.one=true:=by
 simp only[aR]at h;split at h
 .assumption
 .cases h
theorem Vm{b:Pos}{o:Nat}{k1 k2:IntKind}{i1 i2:Int}:¬Plain (.tuple [.ptr b o,.int k1 i1,.int k2 i2]):=λh=>by
 obtain⟨x0,e0⟩:∃x,aq (λ_=>⟨0,0,0⟩) (b.toNat+1) (λ_=>none) (.ptr b o) x:=⟨_,.ptr b o (by omega)⟩
 obtain⟨x1,e1⟩:∃x,aq (λ_=>⟨0,0,0⟩) (b.toNat+1) (λ_=>none) (.int k1 i1) x:=⟨_,.int k1 i1⟩
 obtain⟨x2,e2⟩:∃x,aq (λ_=>⟨0,0,0⟩) (b.toNat+1) (λ_=>none) (.int k2 i2) x:=⟨_,.int k2 i2⟩
 have:=h (λ_=>⟨0,0,0⟩) (λ_=>⟨0,0,0⟩) (b.toNat+1) 0 (λ_=>none) _ (.tuple _ #[x0,x1,x2] rfl (λi v v' hv hx=>by
  match i with
  |0=>simp at hv hx;subst hv hx;exact e0
  |1=>simp at hv hx;subst hv hx;exact e1
  |2=>simp at hv hx;subst hv hx;exact e2
  |i+3=>simp at hv))
 cases this with
 |tuple _ _ _ h=>
  have:=h 0 _ x0 rfl rfl;cases this with
  |ptr _ _ h=>omega
abbrev afi(v:AV):List AV:=[v]
theorem afj(l:List AV):∀r∈l.map afi,r.length=1:=λr hr=>by simp only[Ze3]at hr;obtain⟨m,_,rfl⟩:=hr;rfl
section
variable{s0 s s':St}{jb:Pos}{Ls:List AV}{R:List (List AV)}{I:List (AV×List (List AV))}
end
section
variable{s0 s s':St}{jb:Pos}{Ls:List AV}{R:List (List AV)}{I:List (AV×List (List AV))}
end
theorem Nx{R:Type}{c:ai}(K:AV->St->Option R){s:St}{p:Pos}{o:Nat}{cs:List AV}{v:AV}(h:s.heap.get p=some (.cells cs 0))(ho:o<cs.length)(h1:v.cells=[v])(h2:v.one=true):
  aj c (.store 1) [.ptr p o,v] s K=K .undef (cj s p (.cells (cs.set o v) 0)):=by
 rw[eV c K s 1 p o v cs h (by rw[h1];rfl) (by omega) (by rw[h1];simp[aR,h2]),h1,uX _ _ ho]
theorem QS.beq{es:Nat}{s:St}{v:AV}{rows:List (List AV)}(h:QS es s v rows):fE v v=true:=by
 rcases h with⟨rfl,_⟩|⟨b,off,cap,cs,rfl,_⟩|⟨b,off,rfl,_⟩
 .rfl
 .cases cap<;>simp[fE,lu,gK,Pos.beq_eq.2 rfl]
 .simp[fE,lu,gK,Pos.beq_eq.2 rfl]
section
variable{s0 s s':St}{jb:Pos}{Ls:List AV}{R:List (List AV)}{I:List (AV×List (List AV))}
end
def emptyAt(s:St):St:={ heap:= .e,next:=s.next }
theorem qR(s:St):Wf (emptyAt s):=λp x h=>by have h:(T.e:T AB).get p=some x:=h;rw[T.ei]at h;cases h
theorem qU{call:ai}{f:FuncId}{d:Nat}{args:List AV}{s:St}{v:AV}(h:call f (args.map (dZ s d)) (emptyAt s)=some (v,emptyAt s))(hb:iK v):LO call f d args s=some (v,s):=afg h hb
end
noncomputable section
open Go
variable{R:Type}{c:ai}
theorem abo(t:TypeId)(z:List AV)(st:St)(K:AV->St->Option R):aj c (.allocT t z) [] st K=K (.ptr st.next 0) (af st (.typed t z)):=rfl
theorem Rj{st:St}{m:Nat}{p:Pos}{o:Nat}{v:AV}{t:TypeId}{cs:List AV}(h:st.heap.get p=some (.typed t cs))(h1:v.cells.length=m)(h2:o+m<=cs.length)(h3:aR v.cells=true)(K:AV->St->Option R):
  aj c (.store m) [.ptr p o,v] st K=K .undef (cj st p (.typed t (aJ cs o v.cells))):=by
 have:av.run (λb=>st.heap.get b) st.next (.store m) [.ptr p o,v]=some (.aG .undef none (some (p,.typed t (aJ cs o v.cells))) none):=by
  simp only[av.run,Az,h,cX,cI,H5 h1,H5 h2,h3]
 unfold aj bP;rw[this];rfl
theorem ahm{st:St}{p:Pos}{o:Nat}{t:TypeId}{cs:List AV}(h:st.heap.get p=some (.typed t cs))(ho:o<cs.length)(K:AV->St->Option R):aj c .toU [.ptr p o] st K=K (.ptr p o) st:=by
 have:av.run (λb=>st.heap.get b) st.next .toU [.ptr p o]=some (.val (.ptr p o)):=by
  have:Nat.blt o cs.length=true:=by simpa using ho
  simp only[av.run,K9,h,this]
 unfold aj bP;rw[this]
theorem adj{st:St}{p:Pos}{t:TypeId}{n:Nat}{cs:List AV}(h:st.heap.get p=some (.typed t cs))(hn:n<=cs.length)(K:AV->St->Option R):aj c (.fromU t n) [.ptr p 0] st K=K (.ptr p 0) st:=by
 have:av.run (λb=>st.heap.get b) st.next (.fromU t n) [.ptr p 0]=some (.val (.ptr p 0)):=by
  simp only[av.run,Dy,h,cX,cI,H5 hn,Zg2]
 unfold aj bP;rw[this]
abbrev xK(s:List Nat):List AV:=s.map λc=>.int .u8 (.ofNat c)
theorem aap(s:List Nat):(xK s).length=s.length:=by simp
theorem adk{st:St}{e bytes:TypeId}{u:List Nat}(h1:(2*(0+u.length)+768)*bytes<=281474976710656)(h2:0+u.length<=9223372036854775807)(h0:u.length≠0)(K:AV->St->Option R):
  aj c (.appendT e bytes) [.ah,.str u] st K=K (.slice st.next 0 (0+u.length) none 1) (af st (.typed e (xK u))):=by
 have:av.run (λb=>st.heap.get b) st.next (.appendT e bytes) [.ah,.str u]=some (.aG (.slice st.next 0 (0+u.length) none 1) none none (some (.typed e (xK u)))):=by
  simp only[av.run,oc,cI,cX,H5 h1,H5 h2,Za0 h0]
 unfold aj bP;rw[this];rfl
theorem afk{st:St}{e bytes:TypeId}{b:Pos}{cY u:List Nat}(h:st.heap.get b=some (.typed e (xK cY)))(h1:(2*(cY.length+u.length)+768)*bytes<=281474976710656)(h2:cY.length+u.length<=9223372036854775807)(h0:u.length≠0)(K:AV->St->Option R):
  aj c (.appendT e bytes) [.slice b 0 cY.length none 1,.str u] st K=K (.slice st.next 0 (cY.length+u.length) none 1) (st.aG (some b) none (some (.typed e (xK (cY++u))))):=by
 have hcut:cut (xK cY) 0 cY.length=some (xK cY):=bY (aap cY);have:av.run (λb=>st.heap.get b) st.next (.appendT e bytes) [.slice b 0 cY.length none 1,.str u]=some (.aG (.slice st.next 0 (cY.length+u.length) none 1) (some b) none (some (.typed e (xK (cY++u))))):=by
  simp only[av.run,oc,cI,cX,H5 h1,H5 h2,Za0 h0,h,Zg2,hcut];simp[xK]
 unfold aj bP;rw[this]
theorem OC:∀{s:List Nat},(∀x∈s,x<256)->bytesOf (xK s)=some s
 |[],_=>rfl
 |x::s,h=>by
  have h1:Nat.blt x 256=true:=by simpa using h x (by simp)
  have h2:=OC (s:=s) λy hy=>h y (Za4 _ hy)
  simp only[xK,Zb8,bytesOf,h1]at h2 ⊢;rw[h2]
theorem Vn{b:Pos}{off n es:Nat}{cp:Option Nat}(h:n≠0)(K:AV->Option R):dK .sliceData [.slice b off n cp es] K=K (.ptr b off):=by
 have:av.run (λ_=>none) .h .sliceData [.slice b off n cp es]=some (.val (.ptr b off)):=by
  simp only[av.run,pQ,cX,Za0 h]
 unfold dK;rw[this]
theorem SK(K:AV->Option R):dK .sliceData [.ah] K=K .fP:=rfl
theorem Vo{st:St}{e:TypeId}{b:Pos}{s:List Nat}(h:st.heap.get b=some (.typed e (xK s)))(h0:s.length≠0)(hm:s.length<=9223372036854775807)(hs:∀x∈s,x<256)(K:AV->St->Option R):
  aj c (.unsafeStr e) [.ptr b 0,.int .i64 (s.length:Int)] st K=K (.str s) (st.aG (some b) none none):=by
 have hcut:cut (xK s) 0 s.length=some (xK s):=bY (aap s);have:av.run (λb=>st.heap.get b) st.next (.unsafeStr e) [.ptr b 0,.int .i64 (s.length:Int)]=some (.aG (.str s) (some b) none none):=by
  show lU (λb=>st.heap.get b) st.next e [.ptr b 0,.int .i64 (.ofNat s.length)]=_;simp only[lU,cX,cI,Za0 h0,h,Zg2,hcut,H5 hm,OC hs]
 unfold aj bP;rw[this]
theorem SL(e:TypeId)(st:St)(K:AV->St->Option R):aj c (.unsafeStr e) [.fP,.int .i64 0] st K=K (.str []) st:=rfl
end
section
open Go
section
variable{H:Type}(Ok:DataW H->Prop)(enc:TypeId×Value->H)(P:Program)(w:World)(base:Nat)(spare:Nat->Bool)(held:Bool)
variable{Ok enc P w base spare held}
end
end
section
open Go Go.WideShapes
section
variable{H:Type}(enc:TypeId×Value->H)(P:Program)(w:World)(base:Nat)(spare:Nat->Bool)(held:Bool)
variable{enc P w base spare held}
end
end
section
open Go
section
variable{c:ai}{R:Type}
theorem Xv{H:Pos->Option AB}{n:Pos}{k:IntKind}{a b:Int}(h1:0<=a)(h2:0<b):av.run H n (.bin .rem .num) [.int k a,.int k b]=some (.val (.int k (a % b))):=by
 have e0:wM b 0=false:=by rw[lC,Zj3];omega
 have e1:a.tmod b=a % b:=Int.tmod_eq_emod_of_nonneg h1;simp only[av.run,fQ,jX,cU,e0,e1]
theorem Xw{H:Pos->Option AB}{n:Pos}{a b:Int}(h1:0<=a)(h3:a<=9223372036854775807)(h2:0<b):av.run H n (.bin .quo .num) [.int .i64 a,.int .i64 b]=some (.val (.int .i64 (a / b))):=by
 have e0:wM b 0=false:=by rw[lC,Zj3];omega
 have e1:a.tdiv b=a / b:=Int.tdiv_eq_ediv_of_nonneg h1;have e3:0<=a / b:=Zr1 h1 (by omega);have e4:a / b<=a:=Int.ediv_le_self b h1;have e2:au .i64 (a / b)=a / b:=wrap64 (by omega) (by omega);simp only[av.run,fQ,jX,cU,e0,e1,e2]
theorem afl{H:Pos->Option AB}{n:Pos}{a:Int}{i:Nat}(h:i<=64):av.run H n (.bin .shr .num) [.int .i64 a,.int .i64 (i:Int)]=some (.val (.int .i64 (a / 2 ^ i))):=by
 have e0:yo (i:Int) 0=false:=by rw[ek,Za0 (by omega)]
 have e1:min (i:Int).toNat (IntKind.bits .i64)=i:=by have:IntKind.bits .i64=64:=rfl;rw[this];omega
 simp only[av.run,fQ,jX,e0,e1];rw[Zm7 _ (Int.le_of_lt (Int.pow_pos (by decide)))]
theorem cg{k:IntKind}{a b:Int}(h1:0<=a)(h2:0<b)(s:St)(K:AV->St->Option R):aj c (.bin .rem .num) [.int k a,.int k b] s K=K (.int k (a % b)) s:=aH c K (λH n=>Xv h1 h2) s
theorem Jg{k:IntKind}{a b:Int}(h1:0<=a)(h2:0<b)(K:AV->Option R):dK (.bin .rem .num) [.int k a,.int k b] K=K (.int k (a % b)):=b7 K (λH n=>Xv h1 h2)
theorem gq{a b:Int}(h1:0<=a)(h3:a<=9223372036854775807)(h2:0<b)(s:St)(K:AV->St->Option R):aj c (.bin .quo .num) [.int .i64 a,.int .i64 b] s K=K (.int .i64 (a / b)) s:=aH c K (λH n=>Xw h1 h3 h2) s
theorem Xx{a b:Int}(h1:0<=a)(h3:a<=9223372036854775807)(h2:0<b)(K:AV->Option R):dK (.bin .quo .num) [.int .i64 a,.int .i64 b] K=K (.int .i64 (a / b)):=b7 K (λH n=>Xw h1 h3 h2)
theorem Xy{a:Int}{i:Nat}(h:i<=64)(s:St)(K:AV->St->Option R):aj c (.bin .shr .num) [.int .i64 a,.int .i64 (i:Int)] s K=K (.int .i64 (a / 2 ^ i)) s:=aH c K (λH n=>afl h) s
theorem xL(i:Int)(s:St)(K:AV->St->Option R):aj c (.conv (.int .u8)) [.int .i64 i] s K=K (.int .u8 (au .u8 i)) s:=aH c K (λH n=>rfl) s
theorem oq(i:Int)(k:IntKind)(s:St)(K:AV->St->Option R):aj c (.conv (.int .i64)) [.int k i] s K=K (.int .i64 (au .i64 i)) s:=aH c K (λH n=>rfl) s
theorem Xz{x y:Int}(a b:Nat)(hx:x=(a:Int))(hy:y=(b:Int))(ha:a<256)(hb:b<256)(s:St)(K:AV->St->Option R):
  aj c (.buildSlice 1 2 [.int .u8 0] [0,1]) [.int .u8 x,.int .u8 y] s (λv t=>aj c (.conv .ofBytes) [v] t K)=K (.str [a,b]) (af s (.cells [.int .u8 x,.int .u8 y] 0)):=by
 subst hx;subst hy;rw[show aj c (.buildSlice 1 2 [.int .u8 0] [0,1]) [.int .u8 (a:Int),.int .u8 (b:Int)] s (λv t=>aj c (.conv .ofBytes) [v] t K)=aj c (.conv .ofBytes) [.slice s.next 0 2 (some 2) 1] (af s (.cells [.int .u8 (a:Int),.int .u8 (b:Int)] 0)) K from rfl];have:av.run (λp=>(af s (.cells [.int .u8 (a:Int),.int .u8 (b:Int)] 0)).heap.get p) (af s (.cells [.int .u8 (a:Int),.int .u8 (b:Int)] 0)).next (.conv .ofBytes) [.slice s.next 0 2 (some 2) 1]=some (.val (.str [a,b])):=by
  have ha':Nat.blt a 256=true:=by simpa using ha
  have jO:Nat.blt b 256=true:=by simpa using hb
  simp only[av.run,xA,aE];show(match bytesOf [.int .u8 (.ofNat a),.int .u8 (.ofNat b)]with|some s=>some (cO.val (.str s))|none=>none)=_;simp only[bytesOf,ha',jO]
 unfold aj bP;rw[this]
end
theorem Mk.afm{s s':St}{l:List AV}(hi:∀u∈l,je u)(hw:Wf s)(hg:Grew s s'):
   ∃iy,Go.Ai.tidy s (.agg l,s')=(.agg l,iy)/\Grew s iy/\(∀(es:Nat)(v:AV)(rows:List (List AV)),v∈l->Mk es s s' v rows->Mk es s iy v rows/\(iy=s'\/rows=[])):=by
 unfold Go.Ai.tidy;by_cases hp:Plain (AV.agg l,s').1/\aT s (AV.agg l,s').2
 . rw[Za9 hp];refine⟨s,rfl,Grew.refl hw,λes v rows hm h=> ?_⟩;rcases h.loose with⟨b,off,n,rfl⟩|⟨hl,h0⟩
   .exact absurd hp.1 (Kf hi hm)
   .exact⟨hl s h.rS,.inr h0⟩
 .rw[Za3 hp];exact⟨s',rfl,hg,λes v rows _ h=>⟨h,.inl rfl⟩⟩
theorem Mk.wQ{es:Nat}{s0 s s':St}{v:AV}{rows:List (List AV)}(h:Mk es s0 s v rows)(hg:Grew s0 s')(hk:∀b x,br v=some b->s.heap.get b=some x->s'.heap.get b=some x):Mk es s0 s' v rows:=
 ⟨h.rS,hg,h.own.mono hk,h.new,h.row,h.cap,λb hb=>hk b _ hb (h.tight b hb)⟩
end
section
open Go Go.WideShapes
theorem BB{Q:List AV->Prop}{Qs:List (List AV->Prop)}{ps:List (List AV)}(h:Je (Q::Qs) ps):∃p qs,ps=p::qs/\Q p/\Je Qs qs:=by
 cases ps with
 |nil=>exact h.elim
 |cons p qs=>exact⟨p,qs,rfl,h⟩
theorem XA{ps:List (List AV)}(h:Je [] ps):ps=[]:=by
 cases ps with
 |nil=>rfl
 |cons p qs=>exact h.elim
section
variable{H:Type}{enc:TypeId×Value->H}{P:Program}{w:World}{base:Nat}{spare:Nat->Bool}{held:Bool}
theorem Sk{t e:TypeId}{Q:List AV->Prop}{r:Go.Reach}{b0:Nat}{v:Value}{d:DataW H}{p:List MemPlace}(ho:mh enc P w base spare held t Q)(ht:P.underlying t=some (.slice e))
  (hval:Value.okWide P w r b0 t v) (hd:DataW.Trod enc P w base spare held t v d p):∃as,Q as/\∀ρ n,ay ρ n (λad=>w.cell? ad) as [v]:=by
 obtain⟨a,len,cap,rfl⟩:=okWide_slice ht hval;obtain⟨fuel,hf⟩:=hd;exact ho _ _ _ hf
end
end
section
open Go
noncomputable def SM(d:Nat)(As:List (List AV))(r:AV):List AV->St->Option (AV×St):=λargs st=>open Classical in if args.map (dZ st d)∈As then some (r,st)else none
theorem ahn{d:Nat}{As:List (List AV)}{r:AV}{args:List AV}{st:St}(A:List AV)(hA:A∈As)(h:args.map (dZ st d)=A):SM d As r args st=some (r,st):=by
 unfold SM;rw[h,Za9 hA]
theorem adl{P:Program}{C:Cells}{O:fh}{G:T dc}{m n f d:Nat}{As:List (List AV)}{r:AV}(bV:∀C:Cells,fO P C (qG O G m n))(ha:∀A∈As,∀a∈A,Plain a)(hr:Plain r)(hb:iK r)
   (h:(As.all λA=>E7 (R:=Bool) false O G m n f A { heap:= .e,next:= .h } (λv _=>fE v r))=true):lq P C f (SM d As r):=by
 have unf:∀args st v' st',SM d As r args st=some (v',st')->v'=r/\st'=st/\(args.map (dZ st d))∈As:=by
   intro args st v' st' hs;unfold SM at hs;(split at hs<;>first|(cases hs;done)|skip);rename_i hc;simp only[H0,Zb9]at hs;exact⟨hs.1.symm,hs.2.symm,hc⟩
 refine⟨λargs st v' st' hs=> ?_,λρ st w args v' st' bJ hs hW hv=> ?_⟩
 .obtain⟨_,rfl,_⟩:=unf _ _ _ _ hs;exact Za5 _
 . obtain⟨rfl,rfl,hA⟩:=unf _ _ _ _ hs;have hk:=Zd9.1 h _ hA;rw[I8 false O G m n]at hk;unfold oO at hk;(split at hk<;>first|(cases hk;done)|skip);rename_i x hx;obtain⟨v,aQ⟩:=x;have h1:=qO hk;subst h1;have Oa:=ay.dZ hW d hv;have Hr:ay ρ (Pos.h).toNat (λad=>w.cell? ad) (args.map (dZ st' d)) bJ:=⟨Oa.1,λi u y hu hy=>ha _ hA u (Zb4 hu) _ _ _ _ _ _ (Oa.2 i u y hu hy)⟩
   (refine Reaches.mono (λx w' hp=> ?_) (bV (λad=>w.cell? ad) ρ { heap:= .e,next:= .h } w f _ _ aQ bJ hx (Bt (λad u hu=>hu) λa u _ o ho=>ho) Hr);obtain⟨ρ',k1,k2,k3,k4,hE⟩:=hp;have un:∀k,k<w.heap.size->w'.heap[k]? =w.heap[k]? :=λk hk=>hE.block k hk λb x hb=>by rw[T.ei]at hb;cases hb);refine⟨ρ,hb _ _ _ _ _ (hr _ _ _ _ _ _ k1),λ_ _=>rfl,Za5 _,⟨λb x hb=> ?_,hW.inj,λa u hu=> ?_,λa u hu o ho=> ?_⟩,⟨hE.os,hE.tape,hE.output,hE.size,λk hk _=>un k hk,λb x hb=>.inl ⟨b,x,hb,rfl⟩⟩⟩
   .obtain⟨l1,l2,l3⟩:=hW.live b x hb;exact⟨l1,Zd3 l2 hE.size,l3.of_heap (un _ l2)⟩
   .obtain⟨c1,c2⟩:=hW.ej a u hu;exact⟨(k4.ej a u c1).1,c2⟩
   .have aO:a.block<w.heap.size:=World.block_lt_of_cell? _ _ (hW.ej a u hu).1;rw[World.cell?_of_block (w:=w) (a:=⟨a.block,o,none⟩) (un _ aO)];exact hW.whole a u hu o ho
end
noncomputable section
open Go
inductive Un where
 |z
 |s (n:Un)
def un:Nat->Un
 |0=>.z
 |n+1=>.s (un n)
inductive Tx where
 |bad
 |op (k:av) (xs:List eZ) (d:Option Pos) (t:Tx)
 |gop (g:Pos) (w:Bool) (k:av) (xs:List eZ) (d:Option Pos) (t:Tx)
 |dr (t:Tx)
 |pr (k:av) (xs:List eZ) (d:Option Pos) (t:Tx)
 |Ow (g:Pos) (w:Bool) (k:av) (xs:List eZ) (d:Option Pos) (t:Tx)
 |rd (b:List Bool) (k:av) (xs:List eZ) (d:Option Pos) (t:Tx)
 |Ox (g:Pos) (w:Bool) (b:List Bool) (k:av) (xs:List eZ) (d:Option Pos) (t:Tx)
 |nw (k:av) (xs:List eZ) (d:Option Pos) (t:Tx)
 |gnw (g:Pos) (w:Bool) (k:av) (xs:List eZ) (d:Option Pos) (t:Tx)
 |ef (k:av) (xs:List eZ) (d:Option Pos) (t:Tx)
 |gef (g:Pos) (w:Bool) (k:av) (xs:List eZ) (d:Option Pos) (t:Tx)
 |Uu (x:eZ) (a b:Tx)
 |jn (l:List Pos) (a b:Tx)
 |jmp (i:Un) (l:List Pos)
 |arg (l:List Pos) (t:Tx) (r:Tx)
 |lp (j:Un) (ins:List Pos)
 |agn (ins:List Pos)
 |out (i:Un) (l:List Pos)
 |res (rs:List Bl)
def txO:List bw->Tx->Tx
 |[],t=>t
 |  o::os,t=>match o.guard with
    |none=>.op o.k o.xs o.dst (txO os t)
    |some (p,w)=>.gop p w o.k o.xs o.dst (txO os t)
def bitsOf(bK:Nat):List Nat->List Bool
 |[]=>[]
 |i::is=>bK.testBit i::bitsOf bK is
def Rk:List (Nat×bw)->List Nat->Tx->Tx
 |[],_,t=>t
 |  (j,o)::os,is,t=>match o.cls,o.guard with
    |.pure,none=>.pr o.k o.xs o.dst (Rk os (j::is) t)
    |.pure,some (p,w)=> .Ow p w o.k o.xs o.dst (Rk os (j::is) t)
    |.read,none=>.rd (bitsOf o.bK is) o.k o.xs o.dst (Rk os (j::is) t)
    |.read,some (p,w)=> .Ox p w (bitsOf o.bK is) o.k o.xs o.dst (Rk os (j::is) t)
    |.new,none=>.nw o.k o.xs o.dst (Rk os (j::is) t)
    |.new,some (p,w)=>.gnw p w o.k o.xs o.dst (Rk os (j::is) t)
    |.aG,none=>.ef o.k o.xs o.dst (Rk os (j::is) t)
    |.aG,some (p,w)=>.gef p w o.k o.xs o.dst (Rk os (j::is) t)
def txA(K:jZ->Tx):List (Nat×List Pos)->Tx->Tx
 |[],t=>t
 |(e,l)::r,t=>.arg l (K (exOf e)) (txA K r t)
def tx:AC->Sh->Nat->(jZ->Nat->Tx)->Tx
 |.skip,_,d,K=>K .normal d
 |.region ops,_,d,K=>txO ops (K .normal d)
 |.draw ops,_,d,K=>.dr (Rk ops [] (K .normal d))
 |  .seq a b,s,d,K=>match s with
    | .seq none s t=>tx a s d λex d=>match ex with
      |.normal=>tx b t d K
      |.exit i=>K (.exit i) d
      |.ret=>K .ret d
    | .seq (some l) s t=>.jn l (tx a s (d+1) λex d'=>match ex with
      |.normal=>.jmp (un (d' - d - 1)) l
      |.exit i=>K (.exit i) d'
      |.ret=>K .ret d') (tx b t d K)
    |_=>.bad
 |  .cond x a b,s,d,K=>match s with
    |.cond s t=> .Uu x (tx a s d K) (tx b t d K)
    |_=>.bad
 |  .block id a,s,d,K=>match s with
    | .block s=>tx a s d λex d=>match ex with
      |.normal=>K .normal d
      | .exit i=>match Nat.beq i id with
        |true=>K .normal d
        |false=>K (.exit i) d
      |.ret=>K .ret d
    |_=>.bad
 |  .loop _,s,d,K=>match s with
    |.loop j ins outs _=>txA (λex=>K ex d) outs (.lp (un j) ins)
    |_=>.bad
 |.exit id,_,d,K=>K (.exit id) d
 |.ret,_,d,K=>K .ret d
def idxOf:List (Nat×List Pos)->Nat->Nat
 |[],_=>0
 |  (i,_)::r,e=>match Nat.beq i e with
    |true=>0
    |false=>idxOf r e+1
def txF(A:dc)(s:Sh):Tx:=tx A.code s 0 λex _=>match ex with
 |.normal=>.res A.results
 |.ret=>.res A.results
 |.exit _=>.bad
def txL(x:AC×Sh):List Pos×Tx:=match x.2 with
 |  .loop _ ins outs s=>(ins,tx x.1 s 0 λex _=>match ex with
    |.normal=>.agn ins
    |.exit i=>.out (un (idxOf outs (i+2))) (Nt outs (i+2))
    |.ret=>.out (un (idxOf outs 1)) (Nt outs 1))
 |_=>([],.bad)
section
variable{R:Type}
abbrev KK(R:Type):=List AV->St->Option R
abbrev O2:=Option (AV×St)
abbrev Q2:=KK (AV×St)
def Aa:Unit:=(λ_=>()) (@den AV)
def w7(p:Pos)(fr:Fr)(k:AV->Option R):Option R:=match fr.get p with
 |some v=>k v
 |none=>(λ_=>none) Aa
def yO(p:Pos)(v:AV)(fr:Fr)(k:Fr->Option R):Option R:=(λ_=>k (fr.put (some v) p)) Aa
def yP(d:Option Pos)(v:AV)(fr:Fr)(k:Fr->Option R):Option R:=match d with
 |some p=>yO p v fr k
 |none=>k fr
def ve(fr:Fr):List eZ->(List AV->Option R)->Option R
 |[],k=>k []
 |.t p::xs,k=>w7 p fr λv=>ve fr xs λvs=>k (v::vs)
 |.c v::xs,k=>ve fr xs λvs=>k (v::vs)
def getLT:List Pos->Fr->(List AV->Option R)->Option R
 |[],_,k=>k []
 |p::ps,fr,k=>w7 p fr λv=>getLT ps fr λvs=>k (v::vs)
def qV:List Pos->List AV->Fr->(Fr->Option R)->Option R
 |[],vs,fr,k=>om vs (k fr)
 |p::ps,vs,fr,k=>iR vs λv vs=>yO p v fr λfr=>qV ps vs fr k
def Rm(p:Pos)(k:Pos->Option R):Option R:=(λ_=>k p.succ) Aa
def B6:Pos->List AV->Fr->(Fr->Option R)->Option R
 |_,[],fr,k=>k fr
 |p,v::vs,fr,k=>yO p v fr λfr=>Rm p λp=>B6 p vs fr k
def HC:Un->List (KK R)->KK R
 |.z,k::_=>k
 |.s n,_::ks=>HC n ks
 |_,[]=>λ_ _=>none
def pL:List Bool->T AB->List RC->T AB
 |  b ::bs,h,r::rs=>match r with
    | .new id az=>match b with
      |true=>(pL bs h rs).put (some az) id
      |false=>pL bs h rs
    |.aG _ _=>h
    |.pure=>pL bs h rs
 |_,h,_=>h
def pM(k:av)(xs:List AV)(v:AV):List (Pos×AB)->List Bool->List RC->Bool
 |  up,b::bs,r::rs=>match r with
    | .new id az=>match b with
      |true=>pM k xs v ((id,az)::up) bs rs
      |false=>pM k xs v up bs rs
    | .aG base _=>match b with
      |true=>true
      |false=>mT k xs v (th up (pL bs base rs))&&pM k xs v up bs rs
    |.pure=>pM k xs v up bs rs
 |_,_,_=>true
def AP(fr:Fr)(st:St):List Bl->(List AV->Option R)->Option R
 |[],k=>k []
 |.tmp p::rs,k=>w7 p fr λv=>AP fr st rs λvs=>k (v::vs)
 |.cell p n::rs,k=>w7 p fr λq=>Z8 n q st λv=>AP fr st rs λvs=>k (v::vs)
def VT(as:List (KK R))(f:KK R)(k:List (KK R)->Option R):Option R:=(λ_=>k (as++[f])) Aa
def pkR(vs:List AV)(st:St):Option (AV×St):=some (iC vs,st)
end
section
variable(c:ai)(F:Nat)(Ls:Un->List Q2->Nat->Q2)(ag:Q2)(ko:List Q2)
def LP(fr:Fr)(x:eZ)(k:AV->Option (AV×St)):Option (AV×St):=match x with
 |.t p=>w7 p fr k
 |.c v=>k v
def ev:Tx->List (KK (AV×St))->List (KK (AV×St))->Fr->St->List RC->T AB->Option (AV×St)
 |.bad,_,_,_,_,_,_=>none
 |.op k xs d t,ks,as,fr,st,rs,b=>ve fr xs λvs=>aj c k vs st λv st=>yP d v fr λfr=>ev t ks as fr st rs b
 |.gop g w k xs d t,ks,as,fr,st,rs,b=>ve fr xs λvs=>w7 g fr λg=>Xb c g w k vs st λv st=>yP d v fr λfr=>ev t ks as fr st rs b
 |.dr t,ks,as,fr,st,_,_=>ev t ks as fr st [] st.heap
 |.pr k xs d t,ks,as,fr,st,rs,b=>ve fr xs λvs=>dK k vs λv=>yP d v fr λfr=>ev t ks as fr st (.pure::rs) b
 | .Ow g w k xs d t,ks,as,fr,st,rs,b=>ve fr xs λvs=>w7 g fr λg=>Ow g w k vs λv=>yP d v fr λfr=>ev t ks as fr st (.pure::rs) b
 |.rd bs k xs d t,ks,as,fr,st,rs,b=>ve fr xs λvs=>jB k vs (pL bs b rs) (λv=>pM k vs v [] bs rs) λv=>yP d v fr λfr=>ev t ks as fr st (.pure::rs) b
 | .Ox g w bs k xs d t,ks,as,fr,st,rs,b=>ve fr xs λvs=>w7 g fr λg=>Ox g w k vs (pL bs b rs) (λv=>pM k vs v [] bs rs) λv=>yP d v fr λfr=>ev t ks as fr st (.pure::rs) b
 |.nw k xs d t,ks,as,fr,st,rs,b=>ve fr xs λvs=>Lx k vs st λv az=>yP d v fr λfr=>ev t ks as fr (af st az) (.new st.next az::rs) b
 |.gnw g w k xs d t,ks,as,fr,st,rs,b=>ve fr xs λvs=>w7 g fr λg=>Oy g w (Lx k vs st λv az=>yP d v fr λfr=>ev t ks as fr (af st az) (.new st.next az::rs) b) (yP d .undef fr λfr=>ev t ks as fr st (.pure::rs) b)
 |.ef k xs d t,ks,as,fr,st,rs,b=>ve fr xs λvs=>aj c k vs st λv st'=>yP d v fr λfr=>ev t ks as fr st' (.aG b st'.heap::rs) st'.heap
 |.gef g w k xs d t,ks,as,fr,st,rs,b=>ve fr xs λvs=>w7 g fr λg=>Oy g w (aj c k vs st λv st'=>yP d v fr λfr=>ev t ks as fr st' (.aG b st'.heap::rs) st'.heap) (yP d .undef fr λfr=>ev t ks as fr st (.pure::rs) b)
 | .Uu x t u,ks,as,fr,st,rs,b=>LP fr x λv=>Uu v (ev t ks as fr st rs b) (ev u ks as fr st rs b)
 |.jn l t u,ks,as,fr,st,rs,b=>gX (λk=>ev t (k::ks) as fr st rs b) (λvs st=>qV l vs .e λfr=>ev u ks as fr st [] .e)
 |.jmp i l,ks,_,fr,st,_,_=>getLT l fr λvs=>HC i ks vs st
 |.arg l t r,ks,as,fr,st,rs,b=>VT as (λos st=>qV l os .e λfr=>ev t ks [] fr st [] .e) λas=>ev r ks as fr st rs b
 |.lp j ins,_,as,fr,st,_,_=>getLT ins fr λvs=>Ls j as F vs st
 |.agn ins,_,_,fr,st,_,_=>getLT ins fr λvs=>ag vs st
 |.out i l,_,_,fr,st,_,_=>getLT l fr λvs=>HC i ko vs st
 |.res rs,_,_,fr,st,_,_=>AP fr st rs λvs=>pkR vs st
def gY(p:List Pos×Tx)(vs:List AV)(st:St):Option (AV×St):=qV p.1 vs .e λfr=>ev c F Ls ag ko p.2 [] [] fr st [] .e
end
def bM{R:Type}:Un->List (KK R)->Nat->KK R:=λ_ _ _ _ _=>none
def jr{R:Type}:KK R:=λ_ _=>none
def bD(c:ai)(F:Nat)(Ls:Un->List Q2->Nat->Q2)(t:Tx)(args:List AV)(st:St):O2:=B6 .h args .e λfr=>ev c F Ls jr [] t [] [] fr st [] .e
def oP(Ls:Un->List Q2->Nat->Q2)(A:dc)(s:Sh):Env (AV×St):=λj K=>Ls (un j) ((lpO (gj A s j).2).map λo=>K o.1)
def sl:Sh:= .leaf
def sq(a b:Sh):Sh:= .seq none a b
def sj(l:List Nat)(a b:Sh):Sh:= .seq (some (l.map key)) a b
def sc(a b:Sh):Sh:= .cond a b
def sb(a:Sh):Sh:= .block a
def sp(j:Nat)(ins:List Nat)(outs:List (Nat×List Nat))(a:Sh):Sh:= .loop j (ins.map key) (outs.map λo=>(o.1,o.2.map key)) a
section
variable{R:Type}(l r:Fr)(v u:AV)(x:Option AV)(p:Pos)(fr:Fr)(k:AV->Option R)(K:Fr->Option R)(kp:Pos->Option R)
theorem v7:w7 .h (.n l (some v) r) k=k v:=rfl
theorem v8:w7 (.o p) (.n l x r) k=w7 p l k:=rfl
theorem v9:w7 (.i p) (.n l x r) k=w7 p r k:=rfl
theorem sk:yO .h v .e K=K (.n .e (some v) .e):=rfl
theorem su:yO .h v (.n l x r) K=K (.n l (some v) r):=rfl
theorem sv:yO (.o p) v .e K=yO p v .e λt=>K (.n t none .e):=rfl
theorem sw:yO (.o p) v (.n l x r) K=yO p v l λt=>K (.n t x r):=rfl
theorem sx:yO (.i p) v .e K=yO p v .e λt=>K (.n .e none t):=rfl
theorem sy:yO (.i p) v (.n l x r) K=yO p v r λt=>K (.n l x t):=rfl
theorem we:yP none v fr K=K fr:=rfl
theorem wj:yP (some p) v fr K=yO p v fr K:=rfl
theorem sF:Rm .h kp=kp (.o .h):=rfl
theorem sH:Rm (.o p) kp=kp (.i p):=rfl
theorem sI:Rm (.i p) kp=Rm p λq=>kp (.o q):=rfl
theorem sJ(f:KK R)(k:List (KK R)->Option R):VT [] f k=k [f]:=rfl
theorem sK(a:KK R)(as:List (KK R))(f:KK R)(k:List (KK R)->Option R):VT (a::as) f k=VT as f λl=>k (a::l):=rfl
theorem Be(st:St):pkR [] st=some (.tuple [],st):=rfl
theorem Bf(st:St):pkR [v] st=some (v,st):=rfl
theorem Bg(vs:List AV)(st:St):pkR (v::u::vs) st=some (.tuple (v::u::vs),st):=rfl
theorem mj(c:ai)(F:Nat)(Ls:Un->List Q2->Nat->Q2)(ag:Q2)(ko:List Q2)(l:List Pos)(t:Tx)(vs:List AV)(st:St):gY c F Ls ag ko (l,t) vs st=qV l vs .e λfr=>ev c F Ls ag ko t [] [] fr st [] .e:=rfl
end
def vg{α:Type}:Option α->Bool
 |none=>true
 |some _=>false
theorem aia{α:Type}{o:Option α}(h:vg o=true):o=none:=by cases o with|none=>rfl|some _=>cases h
theorem aib{α:Type}[Inhabited α]{o:Option α}(h:vg o=false):o=some (o.getD default):=by cases o with|none=>cases h|some _=>rfl
def tD(G:T dc)(f:Nat):dc:=(G.get (key f)).getD default
theorem adm{O:fh}{G:T dc}{F:Nat}{L:Env (AV×St)}{f:FuncId}{s:Sh}{args:List AV}{st:St}{r:AV×St}(hk:(vg (O f)&& !vg (G.get (key f)))=true)
  (hL:∀x∈fe (tD G f).code s,yH (run O G) F L x.1 x.2) {k:O2} (hd:B4 (run O G) F L (tD G f) s args st=k) (h:k=some r):run O G f args st=some (tidy st r):=by
 simp only[Zb0,Zi6]at hk;exact ae6 (aia hk.1) (aib hk.2) hL (hd.trans h)
theorem aaq{O:fh}{G:T dc}{F:Nat}{f:FuncId}{args:List AV}{st:St}{r:AV×St}(s:Sh)(hk:(vg (O f)&& !vg (G.get (key f))&&(fe (tD G f).code s).isEmpty)=true)
  {k:O2} (hd:B4 (run O G) F (VQ []) (tD G f) s args st=k) (h:k=some r):run O G f args st=some (tidy st r):=by
 rw[Zb0,List.isEmpty_iff]at hk;exact adm hk.1 (by rw[hk.2];intro x hx;cases hx) hd h
theorem SN{O:fh}{G:T dc}{F:Nat}{f:FuncId}{args:List AV}{st:St}{r:AV×St}(Ls:Un->List Q2->Nat->Q2)(s:Sh)(n:Nat)(hk:(vg (O f)&& !vg (G.get (key f))&&Nat.beq (fe (tD G f).code s).length n)=true)
  (hL:∀i,i<n->yH (run O G) F (oP Ls (tD G f) s) (gj (tD G f) s i).1 (gj (tD G f) s i).2) {k:O2} (hd:B4 (run O G) F (oP Ls (tD G f) s) (tD G f) s args st=k) (h:k=some r):run O G f args st=some (tidy st r):=by
 rw[Zb0]at hk;exact adm hk.1 (ae7 n hk.2 hL) hd h
theorem aar {O:fh} {G:T dc} {F:Nat}{f:FuncId}{args:List AV}{st:St}{r:AV×St}(Ls:Un->List Q2->Nat->Q2)(s:Sh)(hk:(vg (O f)&& !vg (G.get (key f))&&Nat.beq (fe (tD G f).code s).length 1)=true)
  (hs:(SB (gj (tD G f) s 0).2&&Nat.beq (lpJ (gj (tD G f) s 0).2) 0)=true) (h0:∀K' vs st,oP Ls (tD G f) s 0 K' 0 vs st=none)
  (h1:∀K' n vs st,oP Ls (tD G f) s 0 K' (n+1) vs st=Hy (den (run O G) F (oP Ls (tD G f) s) (gj (tD G f) s 0).1 (lpB (gj (tD G f) s 0).2)) (lpI (gj (tD G f) s 0).2) (lpO (gj (tD G f) s 0).2) K' (oP Ls (tD G f) s 0 K' n) vs st)
  {k:O2} (hd:B4 (run O G) F (oP Ls (tD G f) s) (tD G f) s args st=k) (h:k=some r):run O G f args st=some (tidy st r):=
 SN Ls s 1 hk (fun i hi=>by obtain rfl:i=0:=by omega
                            exact j5 0 hs h0 h1) hd h
end
section
open Go
theorem uh{R:Type}{Q:Option R->Prop}(P:(List AV->St->Option R)->Prop){A:(List AV->St->Option R)->Option R}{T:List AV->St->Option R}(hT:P T)(hA:∀j,P j->Q (A j)):Q (gX A T):=hA T hT
theorem aas{m:Nat}(h1:1<=m)(h2:m<=18):m=1\/m=2\/m=3\/m=4\/m=5\/m=6\/m=7\/m=8\/m=9\/m=10\/m=11\/m=12\/m=13\/m=14\/m=15\/m=16\/m=17\/m=18:=by omega
end
section
def nu(tk:List Bool)(fr:Nat):Nat->Nat->Option Nat
 |0,_=>none
 |m+1,k=>if tk.getD ((fr+k) % tk.length) true=false then some ((fr+k) % tk.length)else nu tk fr m (k+1)
def nv(tk:List Bool)(fr:Nat):List Bool×Int:=match nu tk fr tk.length 0 with
 |some s=>(tk.set s true,(s:Int))
 |none=>(tk,-1)
theorem B7{tk:List Bool}{fr s:Nat}:∀{m k:Nat},nu tk fr m k=some s->tk[s]? =some false
 |0,_,h=>by cases h
 |m +1,k,h=>by
  unfold nu at h;split at h
  . rename_i e;cases h;cases e2:tk[(fr+k) % tk.length]? with
    |none=>rw[Za7,e2]at e;simp at e
    |some b=>rw[Za7,e2]at e;simp at e;rw[e]
  .exact B7 h
theorem Kg{tk:List Bool}{fr:Nat}:∀{m k:Nat},nu tk fr m k=none->∀j,k<=j->j<k+m->tk.getD ((fr+j) % tk.length) true=true
 |0,_,_,j,h1,h2=>by omega
 |m +1,k,h,j,h1,h2=>by
  unfold nu at h;split at h
  .cases h
  . rename_i e;by_cases e2:j=k
    .subst e2;simpa using e
    .exact Kg h j (by omega) (by omega)
def Rn(tk:List Bool):Nat:=(tk.filter λb=> !b).length
theorem UA:∀{tk:List Bool},0<Rn tk->∃s:Nat,tk[s]? =some false
 |[],h=>by simp[Rn]at h
 |false::tk,_=>⟨0,rfl⟩
 |true::tk,h=>by
  obtain⟨s,hs⟩:=UA (tk:=tk) (by simpa [Rn]using h);exact⟨s+1,by simpa using hs⟩
theorem w9(tk:List Bool)(fr:Nat):((nv tk fr).2= -1/\(nv tk fr).1=tk/\Rn tk=0)\/∃s:Nat,nv tk fr=(tk.set s true,(s:Int))/\tk[s]? =some false:=by
 unfold nv;cases e:nu tk fr tk.length 0 with
 |some s=>exact .inr ⟨s,rfl,B7 e⟩
 |none=>
  refine .inl ⟨rfl,rfl,?_⟩;rcases Zp7 (Rn tk)with h|h
  .exact h
  . exfalso;obtain⟨s,hs⟩:=UA h;have hl:s<tk.length:=(Za1.1 hs).1;have key:=Kg e ((s+tk.length - fr % tk.length) % tk.length) (Zi5 _) (by rw[Zd1];exact Zi7 _ (by omega));have hm:fr % tk.length<tk.length:=Zi7 _ (by omega);have:(fr+(s+tk.length - fr % tk.length) % tk.length) % tk.length=s:=by
        rw[Nat.add_mod,Nat.mod_mod];rcases Zj1 (s+tk.length - fr % tk.length) tk.length with h1|h1
        .rw[Zf6 h1];rw[show fr % tk.length+(s+tk.length - fr % tk.length)=s+tk.length by omega,Nat.add_mod_right,Zf6 hl]
        .rw[Zn3 h1,Zf6 (by omega:s+tk.length - fr % tk.length - tk.length<tk.length)];rw[show fr % tk.length+(s+tk.length - fr % tk.length - tk.length)=s by omega,Zf6 hl]
    rw[this,Za7,hs]at key;simp at key
inductive Ch where
 |no
 |LQ (s:Nat)
 |fr (f:Nat)
def gu(tk:List Bool):List Ch->List Int
 |[]=>[]
 |.no::l=> -1::gu tk l
 | .LQ s::l=>(s:Int)::gu tk l
 |.fr f::l=>(nv tk f).2::gu (nv tk f).1 l
theorem Jh:∀(l:List Ch)(tk:List Bool),(gu tk l).length=l.length
 |[],_=>rfl
 |.no::l,tk=>by simp[gu,Jh l]
 | .LQ s::l,tk=>by simp[gu,Jh l]
 |.fr f::l,tk=>by simp[gu,Jh l]
theorem adn(tk:List Bool)(f:Nat):(nv tk f).1.length=tk.length:=by rcases w9 tk f with⟨_,h,_⟩|⟨s,h,_⟩<;>rw[h]<;>simp
def Sat(tk:List Bool)(l:List Ch):Prop:=(∀s,Ch.LQ s∈l->tk[s]? =some true)/\∀(i j s:Nat),l[i]? =some (.LQ s)->l[j]? =some (.LQ s)->i=j
theorem Sat.tail{tk:List Bool}{c:Ch}{l:List Ch}(h:Sat tk (c::l)):Sat tk l:=
 ⟨λs hs=>h.1 s (Za4 _ hs),λi j s h1 h2=>by have:=h.2 (i+1) (j+1) s (by simpa using h1) (by simpa using h2);omega⟩
theorem Sat.place{tk:List Bool}{l:List Ch}(h:Sat tk l)(f:Nat):Sat (nv tk f).1 l:=by
 refine⟨λs hs=> ?_,h.2⟩;have:=h.1 s hs;rcases w9 tk f with⟨_,e,_⟩|⟨s',e,h'⟩<;>rw[e]
 .exact this
 . by_cases e2:s'=s
   .subst e2;rw[h']at this;cases this
   .rw[Zp2 e2];exact this
theorem xN:∀(l:List Ch)(tk:List Bool),Sat tk l->∀(i:Nat)(v:Int),(gu tk l)[i]? =some v->v= -1\/∃s:Nat,v=(s:Int)/\(tk[s]? =some false\/(tk[s]? =some true/\l[i]? =some (.LQ s)))
 |[],_,_,i,v,h=>by simp[gu]at h
 |c::l,tk,hs,0,v,h=>by
  cases c with
  |no=>simp[gu]at h;exact .inl h.symm
  |LQ s=>simp[gu]at h;exact .inr ⟨s,h.symm,.inr ⟨hs.1 s (Zd6),rfl⟩⟩
  |fr f=>
   simp[gu]at h;rcases w9 tk f with⟨e,_,_⟩|⟨s,e,h'⟩
   .    exact .inl (by rw[<-h,e])
   .    exact .inr ⟨s,by rw[<-h,e],.inl h'⟩
 |c::l    ,tk,hs,i+1,v,h=>by
  cases c with
  |no=>simpa using xN l tk hs.tail i v (by simpa [gu]using h)
  |LQ s=>simpa using xN l tk hs.tail i v (by simpa [gu]using h)
  |fr f=>
   have h:(gu (nv tk f).1 l)[i]? =some v:=(by simpa [gu]using h);rcases xN l _ (hs.tail.place f) i v h with e|⟨s,e,h'⟩
   .    exact .inl e
   .    refine .inr ⟨s,e,?_⟩;rcases w9 tk f with⟨_,e2,_⟩|⟨s',e2,h2⟩<;>rw[e2]at h'
        .simpa using h'
        . by_cases e3:s'=s
          .subst e3;exact .inl h2
          .rw[Zp2 e3]at h';simpa using h'
theorem Dg:∀(l:List Ch)(tk:List Bool),Sat tk l->∀(i j:Nat)(v:Int),i<j->(gu tk l)[i]? =some v->(gu tk l)[j]? =some v->v= -1
 |[],_,_,i,j,v,_,h,_=>by simp[gu]at h
 |c::l    ,tk,hs,0,j+1,v,_,h1,h2=>by
  cases c with
  |no=>simp[gu]at h1;exact h1.symm
  |LQ s=>
   simp[gu]at h1;rcases xN l tk hs.tail j v (by simpa [gu]using h2)with e|⟨s',e,h'|h'⟩
   .    exact e
   .    have:=hs.1 s (Zd6);obtain rfl:s'=s:=(by omega);rw[this]at h';cases h'
   .    obtain rfl:s'=s:=(by omega);have:=hs.2 0 (j+1) s' rfl (by simpa using h'.2);omega
  |fr f=>
   simp[gu]at h1;have h2:(gu (nv tk f).1 l)[j]? =some v:=(by simpa [gu]using h2);rcases w9 tk f with⟨e,_,_⟩|⟨s,e,h'⟩
   .    rw[<-h1,e]
   .    rcases xN l _ (hs.tail.place f) j v h2 with e2|⟨s',e2,h3|h3⟩
        .exact e2
        .rw[e]at h1 h3;obtain rfl:s'=s:=(by simp at h1;omega);have hl:=(Za1.1 h').1;simp[Zn8 hl]at h3
        .rw[e]at h1;obtain rfl:s'=s:=(by simp at h1;omega);have:=hs.tail.1 s' (Zb4 h3.2);rw[h']at this;cases this
 |c::l,tk,hs,i+1,j+1,v,XB,h1,h2=>by
  cases c with
  |no=>exact Dg l tk hs.tail i j v (by omega) (by simpa [gu]using h1) (by simpa [gu]using h2)
  |LQ s=>exact Dg l tk hs.tail i j v (by omega) (by simpa [gu]using h1) (by simpa [gu]using h2)
  |fr f=>exact Dg l _ (hs.tail.place f) i j v (by omega) (by simpa [gu]using h1) (by simpa [gu]using h2)
def looks:List Ch->Nat
 |[]=>0
 |.fr _::l=>looks l+1
 |_::l=>looks l
end
section
open Go
section
variable{R:Type}{c:ai}
theorem aho{v z:AV}{n N k:Nat}(hk:k<=n):cut (List.replicate n v++List.replicate N z) 0 k=some (List.replicate k v):=by
 unfold cut;rw[cI,H5 (by simp;omega)];simp only[Zc9];rw[Zl5 (by simpa using hk),List.take_replicate,Zk8 hk]
theorem abp{v z:AV}{n m k:Nat}:aJ (List.replicate n v++List.replicate m z) n (List.replicate k v)=List.replicate (n+k) v++List.replicate (m - k) z:=by unfold aJ;rw[Zl5 (by simp),Zg8 (by simp)];rw[<-Zg6,List.replicate_append_replicate];congr 1;rw[List.drop_append];simp
theorem Ji{v:AV}(hv:v.one=true):∀k,aR (List.replicate k v)=true
 |0=>rfl
 |k+1=>by rw[Zn0];unfold aR;rw[hv];exact Ji hv k
theorem XC{b:Pos}{v z:AV}{n m:Nat}{cp DX:Option Nat}(hn:0<n)(hm:0<m)(hv:v.one=true){s:St}(h:s.heap.get b=some (.cells (List.replicate n v++List.replicate m z) 0))(K:AV->St->Option R):
  aj c (.copyB 1) [.slice b n m cp 1,.slice b 0 n DX 1] s K=K (.int .i64 ((min n m:Nat):Int)) (cj s b (.cells (List.replicate (n+min n m) v++List.replicate (m - min n m) z) 0)):=by
 have e:av.run (λb=>s.heap.get b) s.next (.copyB 1) [.slice b n m cp 1,.slice b 0 n DX 1]=some (.aG (BU (min n m)) none (some (b,.cells (List.replicate (n+min n m) v++List.replicate (m - min n m) z) 0)) none):=by
  show mq (λb=>s.heap.get b) s.next 1 [.slice b n m cp 1,.slice b 0 n DX 1]=_;unfold mq;simp only[dD];rw[cX,Za0 (by omega)];simp only;have hf:cH 1 (min n m) (λb=>s.heap.get b) (.slice b 0 n DX 1)=some (List.replicate (min n m) v):=by
   unfold cH;rw[cX,Za0 (by omega)];simp only;rw[h];simp only[Zk4];exact aho (Nat.min_le_left _ _)
  rw[h,hf];simp only;rw[cI,H5 (by simp;omega),cI,H5 (Zi5 _),Ji hv];simp only;rw[abp]
 unfold aj bP;rw[e];rfl
theorem Py{n:Int}(h0:0<=n)(h1:n<4294967296)(s:St)(K:AV->St->Option R):aj c (.bin .and .num) [.int .u64 n,.int .u64 4294967295] s K=K (.int .u64 n) s:=by
 obtain⟨m,rfl⟩:=Int.eq_ofNat_of_zero_le h0;have hm:m<4294967296:=by omega
 have e:(IntKind.u64.wrap ((BitVec.ofInt IntKind.u64.bits (m:Int) &&& BitVec.ofInt IntKind.u64.bits 4294967295).toNat:Int))=(m:Int):=by
  have e1:(BitVec.ofInt 64 (m:Int) &&& BitVec.ofInt 64 4294967295).toNat=m:=by
   rw[BitVec.toNat_and];have a:(BitVec.ofInt 64 (m:Int)).toNat=m:=(by rw[BitVec.toNat_ofInt];omega);have b:(BitVec.ofInt 64 4294967295).toNat=2 ^ 32 - 1:=(by decide);rw[a,b,Nat.and_two_pow_sub_one_eq_mod,Zf6 (by omega)]
  show IntKind.u64.wrap (((BitVec.ofInt 64 (m:Int) &&& BitVec.ofInt 64 4294967295).toNat:Nat):Int)=_;rw[e1];simp only[IntKind.wrap,show IntKind.u64.bits=64 from rfl];have hs:IntKind.u64.signed=false:=rfl;simp only[hs,Zn9,Ze5,Zf9];omega
 refine aH c K (λH n=> ?_) s;show(jX .and .num (.int .u64 (m:Int)) (.int .u64 4294967295)).map cO.val=_;unfold jX;simp only[cU];rw[e];rfl
end
theorem afn{R:Type}(K:AV->Option R){b:Pos}{off len es es':Nat}{cap:Option Nat}{k:IntKind}{i:Nat}(h:i<len):dK (.idxA es none) [.slice b off len cap es',.int k (i:Int)] K=K (.ptr b (off+i*es)):=
 b7 K (λH n=>by
  simp only[av.run,mS,eI];have:Nat.blt i len=true:=by rw[Zo7];exact h
  rw[this])
end
end Go.Ai
namespace Go.Ai.Mvs
section
def sm:Nat->(Nat->Nat)->Nat
 |0,_=>0
 |n+1,f=>sm n f+f n
abbrev Q:=Nat->Int
abbrev Ms:=List (Nat×Int×Int)
def upd(q:Q)(g:Nat)(t:Int):Q:=λi=>if i=g then t else q i
def Run(n:Nat):Q->Ms->Q->Prop
 |q,[],r=>q=r
 |q,(g,f,t)::l,r=>g<n/\f≠t/\q g=f/\(0<=t->∀i,q i≠t)/\Run n (upd q g t) l r
def cm:Ms->Nat->Nat
 |[],_=>0
 |x::l,g=>(if g=x.1 then 1 else 0)+cm l g
section
variable{n:Nat}{a b q:Q}{l:Ms}
def off(b q:Q)(i:Nat):Bool:=decide (q i≠b i)
def Need(n:Nat)(a b:Q)(B:Nat->Bool)(k:Nat):Prop:=
 (∀S,Run n a S b->k<=sm n λi=>if B i then 0 else cm S i)/\2*k<=3*sm n λi=>if B i then 0 else if a i=b i then 0 else 1
def Mode(n:Nat)(a b q:Q)(l:Ms):Prop:=
 ((∀i<n,q i≠b i->q i=a i/\cm l i=0)/\Need n a b (off b q) l.length)\/
 ∃  B w k,Need n a b B k/\(∀z<n,B z=true->a z≠b z/\0<=b z/\∃y<n,B y=true/\a y=b z)/\w<n/\B w=true/\(∀i<n,q i≠b i->B i=true)/\
    l.length=k+1+sm n (λi=>if B i&& !off b q i then 1 else 0)/\(∀i<n,q i≠b i->i≠w->q i=a i/\cm l i=0)/\(q w≠b w->q w= -1/\cm l w<=1)
structure Inv(n:Nat)(a b q:Q)(l:Ms):Prop where
 run:Run n a l q
 two:∀g,cm l g<=2
 mov:∀g,cm l g≠0->a g≠b g
 mode:Mode n a b q l
def OD(n:Nat)(b q:Q):Nat:=sm n λi=>if q i=b i then 0 else if q i<0 then 1 else 2
end
end
end Go.Ai.Mvs
namespace Go.Ai.Ro
section
def put(q:List Int)(g:Nat)(x:Int):Option (List Int):=if 0<=q.getD g (-1)then none else if x∈q then none else some (q.set g x)
def sat(n:Nat)(t:Nat->Int)(l:List Nat):List Int:=(List.range n).map λi=>if i∈l then t i else -1
theorem Ny(n:Nat)(t:Nat->Int)(l:List Nat):(sat n t l).length=n:=by simp[sat]
theorem Rp{n:Nat}{t:Nat->Int}{l:List Nat}{i:Nat}(h:i<n):(sat n t l)[i]? =some (if i∈l then t i else -1):=by simp[sat,Zj4 h]
theorem ahp(n:Nat)(t:Nat->Int):sat n t []=List.replicate n (-1):=by
 unfold sat;apply Zf3;intro i;by_cases h:i<n<;>simp[List.getElem?_replicate,h]
theorem ahq{n:Nat}{t:Nat->Int}{l:List Nat}{g:Nat}(hg:g<n)(hl:g∉l)(hp:0<=t g)(hd:∀i<n,∀j<n,0<=t i->t i=t j->i=j):put (sat n t l) g (t g)=some (sat n t (l++[g])):=by
 have e:(sat n t l).getD g (-1)= -1:=by rw[Za7,Rp hg,Za3 hl];rfl
 have hm:t g∉sat n t l:=λh=>by
   unfold sat at h;obtain⟨i,hi,hx⟩:=Ze3.1 h;have hi:=Zj2.1 hi;split at hx
   .rename_i iT;have:=hd g hg i hi hp hx.symm;subst this;exact hl iT
   .omega
 unfold put;rw[e,Za3 (by omega),Za3 hm];congr 1;apply Zf3;intro i;rw[List.getElem?_set];by_cases hi:i<n
 . rw[Rp (l:=l++[g]) hi];by_cases hgi:g=i
   .subst hgi;rw[Za9 rfl,Ny,Za9 hi,Za9 (by simp)]
   .rw[Za3 hgi,Rp hi];have:(i∈l++[g])↔i∈l:=(by simp[Ne.symm (show g≠i from hgi)]);simp only[this]
 .rw[Zb5 (by rw[Ny];omega)];rw[Za3 (λh=>by omega),Zb5 (by rw[Ny];omega)]
def Pz(t:Nat->Int):List Nat->List Int->Option (List Int)
 |[],q=>some q
 |  g::l,q=>match put q g (t g)with
    |some q'=>Pz t l q'
    |none=>none
theorem aat{n:Nat}{t:Nat->Int}(hd:∀i<n,∀j<n,0<=t i->t i=t j->i=j):∀(l pre:List Nat),(pre++l).Nodup->(∀g∈l,g<n/\0<=t g)->Pz t l (sat n t pre)=some (sat n t (pre++l))
 |[],pre,_,_=>by simp[Pz]
 |g::l,pre,hn,h=>by
  obtain⟨h1,h2⟩:=h g (by simp);have hg:g∉pre:=λhm=>by have:=(List.nodup_append.1 hn).2.2 g hm g (by simp);exact this rfl
  rw[Pz,ahq h1 hg h2 hd];have:=aat hd l (pre++[g]) (by simpa using hn) λx hx=>h x (Za4 _ hx)
  simpa using this
def AQ{α:Type}(l:List α)(k:Nat)(d:α):List α:=(List.range l.length).map λi=>l.getD ((i+k) % l.length) d
theorem afo{α:Type}(l:List α)(k:Nat)(d:α):(AQ l k d).length=l.length:=by simp[AQ]
theorem Nz{α:Type}(l:List α)(k:Nat)(d:α)(h:l≠[]):AQ l k d=l.drop (k % l.length)++l.take (k % l.length):=by
 have hn:0<l.length:=List.length_pos_iff.2 h;have hr:k % l.length<l.length:=Zi7 _ hn;have hk:=Nat.div_add_mod k l.length;apply Zf3;intro i;by_cases hi:i<l.length
 . have e1:(AQ l k d)[i]? =some (l.getD ((i+k) % l.length) d):=(by simp[AQ,Zj4 hi]);have hm:(i+k) % l.length=if i+k % l.length<l.length then i+k % l.length else i+k % l.length - l.length:=by
     rw[Nat.add_mod,Zf6 hi];split
     .  rename_i aO;exact Zf6 aO
     .  rename_i aO;rw[Zn3 (by omega),Zf6 (by omega)]
   have hb:(i+k) % l.length<l.length:=Zi7 _ hn;rw[e1,Za7,H4 hb];simp only[Zf5];rw[<-H4 hb,hm];split
   .rename_i aO;rw[Zc6 (by rw[Zl3];omega),Zd2];congr 1;omega
   .rename_i aO;rw[Zc8 (by rw[Zl3];omega),Zl3,Zc4,Za9 (by omega)];congr 1;omega
 .rw[Zb5 (by rw[afo];omega),Zb5 (by rw[Zc1,Zl3,Zj7];omega)]
theorem LR{α:Type}(l:List α)(k:Nat)(d:α):(AQ l k d).Perm l:=by
 by_cases h:l=[]
 .subst h;exact List.Perm.refl _
 .rw[Nz l k d h];exact List.perm_append_comm.trans (by rw[Zj6])
theorem ado{n:Nat}{q:List Int}(hq:q.length=n)(hd:∀(i j:Nat)(x:Int),q[i]? =some x->q[j]? =some x->0<=x->i=j)(hm:∀x∈q,-1<=x){l:List Nat}(hl:l.Perm ((List.range n).filter λi=>decide (0<=q.getD i (-1)))):
   Pz (λi=>q.getD i (-1)) l (List.replicate n (-1))=some q:=by
 have at_:∀i<n,q[i]? =some (q.getD i (-1)):=λi hi=>by rw[Za7,H4 (by omega)];rfl
 have E9:l.Nodup:=hl.symm.nodup (List.Pairwise.filter _ List.nodup_range);have AI:∀g,g∈l↔g<n/\0<=q.getD g (-1):=λg=>by
   rw[hl.mem_iff,Zm0,Zj2,Zp9]
 have:=aat (n:=n) (t:=λi=>q.getD i (-1)) (λi hi j hj h0 he=>hd i j _ (at_ i hi) (by rw[he];exact at_ j hj) h0) l [] (by simpa using E9) λg hg=>(AI g).1 hg
 rw[ahp,Zf0]at this;rw[this];congr 1;apply Zf3;intro i;by_cases hi:i<n
 . rw[Rp hi,at_ i hi];congr 1;split
   .rfl
   . (rename_i h;have h1:¬0<=q.getD i (-1):=λh0=>h ((AI i).2 ⟨hi,h0⟩));have h2:=hm (q.getD i (-1)) (Zb4 (at_ i hi));omega
 .rw[Zb5 (by rw[Ny];omega),Zb5 (by omega)]
def cZ(c:Nat):List Nat->List Nat->List (List Nat)
 |acc,[]=>[acc]
 |acc,x::l=>if x=c then acc::cZ c [] l else cZ c (acc++[x]) l
theorem PA{c:Nat}:∀(w acc l:List Nat),c∉w->cZ c acc (w++l)=cZ c (acc++w) l
 |[],acc,l,_=>by simp
 |x::w,acc,l,h=>by
  have h1:x≠c:=λe=>h (by simp[e])
  have h2:c∉w:=λe=>h (Za4 _ e)
  rw[Zf2,cZ,Za3 h1,PA w (acc++[x]) l h2];simp
theorem HD{c:Nat}(w:List Nat)(h:c∉w):cZ c [] w=[w]:=by have:=PA (c:=c) w [] [] h;simpa [cZ]using this
theorem xe{c:Nat}(w l:List Nat)(h:c∉w):cZ c [] (w++c::l)=w::cZ c [] l:=by rw[PA w [] (c::l) h,cZ,Za9 rfl];simp
theorem aic{a g t n:List Nat}(ha:32∉a)(hg:32∉g)(ht:32∉t)(hn:32∉n):cZ 32 [] (a++32::(g++32::(t++32::n)))=[a,g,t,n]:=by
 rw[xe a _ ha,xe g _ hg,xe t _ ht,HD n hn]
def LS(k:Nat):List Nat:=if k<10 then [48+k]else [48+k / 10,48+k % 10]
theorem adp{k:Nat}(hk:k<100):32∉LS k/\10∉LS k:=by unfold LS;split<;>simp<;>omega
def num(l:List Nat):Option Nat:=
 if l.length=0\/9<l.length\/(1<l.length/\l[0]? =some 48)then none
 else if l.all (λc=>decide (48<=c)&&decide (c<=57))then some (l.foldl (λn c=>10*n+(c - 48)) 0)else none
theorem ahr:∀k,k<100->num (LS k)=some k:=by decide+kernel
def FE:List Int->Int->Nat->Option (Nat×Int)
 |[],_,_=>none
 |z::zs,s,i=>if s<z then some (i,s)else FE zs (s - z) (i+1)
theorem Rq:∀{zs:List Int}{s:Int}{i t:Nat}{y:Int},0<=s->FE zs s i=some (t,y)->i<=t/\0<=y/\(∃z,zs[t - i]? =some z/\y<z)/\(zs.take (t - i)).sum+y=s
 |[],_,_,_,_,_,h=>by cases h
 |z ::zs,s,i,t,y,hs,h=>by
  unfold FE at h;by_cases hz:s<z
  .rw[Za9 hz]at h;(injection h with h;injection h with h1 h2);subst h1;subst h2;refine⟨Za5 _,hs,⟨z,by simp,hz⟩,by simp⟩
  . rw[Za3 hz]at h;obtain⟨h1,h2,⟨u,h3,h4⟩,h5⟩:=Rq (by omega) h;refine⟨by omega,h2,⟨u,?_,h4⟩,?_⟩
    .rw[show t - i=(t - (i+1))+1 by omega,Zb7];exact h3
    .rw[show t - i=(t - (i+1))+1 by omega,List.take_succ_cons,Zq4];omega
theorem SP:∀{zs:List Int}{s:Int}{i:Nat},0<=s->s<zs.sum->∃t y,FE zs s i=some (t,y)
 |[],s,i,h1,h2=>by simp at h2;omega
 |z ::zs,s,i,h1,h2=>by
  unfold FE;by_cases hz:s<z
  .exact⟨i,s,by rw[Za9 hz]⟩
  .rw[Za3 hz];rw[Zq4]at h2;exact SP (by omega) (by omega)
def kJ(l:List (List Nat))(w:List Nat):Option Nat:=l.findIdx? (λx=>decide (x=w))
theorem aau{l:List (List Nat)}{i:Nat}{w:List Nat}(h:l[i]? =some w)(hd:∀(a b:Nat)(x:List Nat),l[a]? =some x->l[b]? =some x->a=b):kJ l w=some i:=by
 unfold kJ;have hi:=(Za1.1 h)
 obtain⟨hl,he⟩:=hi;rw[Zk7];refine⟨hl,by simp[he],λj hj hp=> ?_⟩;have e:l[j]=w:=by simpa using hp
 have:=hd i j w h (by rw[H4 (by omega),e]);omega
def NA(gn tn:List (List Nat))(zs:List Int)(ws:List (List Nat)):Option (Nat×Int):=match ws with
 |  [a,g,t,n]=>if a=[115,101,97,116]/\g≠[]/\t≠[]then
      match num n,kJ gn g,kJ tn t with
      |some k,some i,some j=>if(k:Int)<zs.getD j 0 then some (i,(zs.take j).sum+k)else none
      |_,_,_=>none
    else none
 |_=>none
theorem afp{gn tn:List (List Nat)}{zs:List Int}{g t:List Nat}{i j k:Nat}{x:Int}(hg:gn[i]? =some g)(ht:tn[j]? =some t)(Rr:g≠[])(XD:t≠[])
  (hdg:∀(a b:Nat)(x:List Nat),gn[a]? =some x->gn[b]? =some x->a=b) (hdt:∀(a b:Nat)(x:List Nat),tn[a]? =some x->tn[b]? =some x->a=b)
  (hsg:32∉g) (jP:32∉t) (hk:k<100) (hx:0<=x) (hw:FE zs x 0=some (j,(k:Int))):
  NA gn tn zs (cZ 32 [] ([115,101,97,116]++32::(g++32::(t++32::LS k))))=some (i,x):=by
 obtain⟨_,_,⟨z,hz,aO⟩,XE⟩:=Rq hx hw;rw[Zl6]at hz XE;rw[aic (by decide) hsg jP (adp hk).1];unfold NA;simp only[Rr,XD,ne_eq,Zq2,and_self,Zh0,ahr k hk,aau hg hdg,aau ht hdt];have e:zs.getD j 0=z:=by rw[Za7,hz];rfl
 rw[e,Za9 aO,XE]
theorem UB{c:Nat}:∀(ls:List (List Nat)),(∀w∈ls,c∉w)->cZ c [] ((ls.map λw=>w++[c]).flatten)=ls++[[]]
 |[],_=>rfl
 |w::ls,h=>by
  rw[Zb8,Ze8,Zg6,List.singleton_append,xe w _ (h w (by simp)),UB ls λx hx=>h x (Za4 _ hx),Zf2]
def tE(gn tn:List (List Nat))(zs:List Int)(g:Nat)(x:Int):List Nat:=match FE zs x 0 with
 |some (j,y)=>[115,101,97,116]++32::(gn.getD g []++32::(tn.getD j []++32::LS y.toNat))
 |none=>[]
structure Names(l:List (List Nat)):Prop where
 ne:∀w∈l,w≠[]/\32∉w/\10∉w
 ap:∀(a b:Nat)(x:List Nat),l[a]? =some x->l[b]? =some x->a=b
def Rs(gn tn:List (List Nat))(zs:List Int):List (List Nat)->List Int->Option (List Int)
 |[],q=>some q
 |  w::ls,q=>match NA gn tn zs (cZ 32 [] w)with
    |some (g,x)=>match put q g x with
     |some q'=>Rs gn tn zs ls q'
     |none=>none
    |none=>none
section
variable{gn tn:List (List Nat)}{zs:List Int}
theorem Rt(hg:Names gn)(ht:Names tn)(hz:∀z∈zs,z<=100)(htz:tn.length=zs.length){g:Nat}(UC:g<gn.length){x:Int}(hx:0<=x)(iw:x<zs.sum):
   NA gn tn zs (cZ 32 [] (tE gn tn zs g x))=some (g,x)/\10∉tE gn tn zs g x:=by
 obtain⟨j,y,hw⟩:=SP (i:=0) hx iw;obtain⟨_,y0,⟨z,hzj,aO⟩,XE⟩:=Rq hx hw;rw[Zl6]at hzj;have Oe:j<tn.length:=by rw[htz];exact(Za1.1 hzj).1
 have LU:=hz z (Zb4 hzj);obtain⟨k,rfl⟩:∃k:Nat,y=(k:Int):=⟨y.toNat,by omega⟩
 have eg:=H4 UC;have et:=H4 Oe;have egd:gn.getD g []=gn[g]:=by rw[Za7,eg];rfl
 have etd:tn.getD j []=tn[j]:=by rw[Za7,et];rfl
 obtain⟨g1,g2,g3⟩:=hg.ne _ (Zc0 UC);obtain⟨t1,t2,t3⟩:=ht.ne _ (Zc0 Oe);have el:tE gn tn zs g x=[115,101,97,116]++32::(gn[g]++32::(tn[j]++32::LS k)):=by
   unfold tE;rw[hw];simp only[egd,etd,Zi0]
 rw[el];refine⟨afp eg et g1 t1 hg.ap ht.ap g2 t2 (by omega) hx hw,λh=> ?_⟩;have:=(adp (k:=k) (by omega)).2;simp only[Zd5,Zb2]at h;simp at h;rcases h with h|h|h
 .exact g3 h
 .exact t3 h
 .exact this h
theorem adq(hg:Names gn)(ht:Names tn)(hz:∀z∈zs,z<=100)(htz:tn.length=zs.length){t:Nat->Int}:∀(l:List Nat)(q:List Int),(∀g∈l,g<gn.length/\0<=t g/\t g<zs.sum)->Rs gn tn zs (l.map λg=>tE gn tn zs g (t g)) q=Pz t l q
 |[],q,_=>rfl
 |g::l,q,h=>by
  obtain⟨h1,h2,h3⟩:=h g (by simp);rw[Zb8,Rs,(Rt hg ht hz htz h1 h2 h3).1,Pz];simp only;cases put q g (t g)with
  |none=>rfl
  |some q'=>exact adq hg ht hz htz l q' λx hx=>h x (Za4 _ hx)
theorem XF{α β:Type}(f:α->β)(l:List α)(k:Nat)(d:α)(e:β):AQ (l.map f) k e=(AQ l k d).map f:=by
 by_cases h:l=[]
 .subst h;rfl
 .rw[Nz (l.map f) k e (by simpa using h),Nz l k d h,Ze4,Zb3,List.map_drop,Zk3]
theorem abq(hg:Names gn)(ht:Names tn)(hz:∀z∈zs,z<=100)(htz:tn.length=zs.length){q:List Int}(hq:q.length=gn.length)(hd:∀(i j:Nat)(x:Int),q[i]? =some x->q[j]? =some x->0<=x->i=j)(hm:∀x∈q,-1<=x/\x<zs.sum)(k:Nat)(d:List Nat):
   Rs gn tn zs (AQ (((List.range gn.length).filter λi=>decide (0<=q.getD i (-1))).map λg=>tE gn tn zs g (q.getD g (-1))) k d) (List.replicate gn.length (-1))=some q:=by
 rw[XF _ _ k 0 d,adq hg ht hz htz]
 .exact ado hq hd (λx hx=>(hm x hx).1) (LR _ k 0)
 .intro g Kh;rw[(LR _ k 0).mem_iff,Zm0,Zj2,Zp9]at Kh;refine⟨Kh.1,Kh.2,?_⟩;have e:q.getD g (-1)=q[g]:=(by rw[Za7,H4 (by omega)];rfl);rw[e];exact(hm _ (Zc0 _)).2
end
theorem adr{q:List Int}(hm:∀x∈q,-1<=x):((List.range q.length).filter λi=>decide (0<=q.getD i (-1))).length+q.count (-1)=q.length:=by
 have e:(List.range q.length).map (λi=>q.getD i (-1))=q:=by
  apply Zf3;intro i;rw[Zb6];by_cases hi:i<q.length
  .rw[Zj4 hi,H4 hi];simp[Za7,H4 hi]
  .rw[Zb5 (by simpa using hi),Zb5 (by omega)];rfl
 have h1:((List.range q.length).filter λi=>decide (0<=q.getD i (-1))).length=q.countP λx=>decide (0<=x):=by
  rw[<-List.countP_eq_length_filter]
  conv=>rhs;rw[<-e]
  rw[List.countP_map];rfl
 rw[h1];clear h1 e;induction q with
 |nil=>rfl
 |cons x q ih=>
  have ih:=ih λy hy=>hm y (Za4 _ hy)
  have hx:=hm x (by simp);rw[List.countP_cons,Zr2,Zc5];by_cases h:0<=x
  .rw[Za9 (H5 h),Za3 (by simp;omega)];omega
  .obtain rfl:x= -1:=(by omega);simp;omega
open Go
def sN (gn tn:List (List Nat))(zs:List Int)(q:List Int)(w:List Nat):Int×List Int:=match cZ 32 [] w with
 |  [a, g,t,n]=>if a≠[115,101,97,116]\/g=[]\/t=[]then(3,q)else match num n with
    |none=>(3,q)
    | some k=>match kJ gn g with
      |none=>(6,q)
      | some i=>match kJ tn t with
        |none=>(6,q)
        |some j=>if zs.getD j 0<=(k:Int)then(50,q)else if 0<=q.getD i (-1)then(5,q)else if(zs.take j).sum+k∈q then(51,q)else(0,q.set i ((zs.take j).sum+k))
 |_=>(3,q)
def SQ(gn tn:List (List Nat))(zs:List Int):List (List Nat)->Nat->List Int->List Int×Nat×Int
 |[],_,q=>(q,0,0)
 |[w],k,q=>if w=[]then(q,0,0)else([],k,3)
 |w::v::ws,k,q=>if(sN gn tn zs q w).1=0 then SQ gn tn zs (v::ws) (k+1) (sN gn tn zs q w).2 else([],k,(sN gn tn zs q w).1)
section
variable{gn tn:List (List Nat)}{zs:List Int}
theorem ads{q q':List Int}{w:List Nat}{g:Nat}{x:Int}(h:NA gn tn zs (cZ 32 [] w)=some (g,x))(hp:put q g x=some q'):sN gn tn zs q w=(0,q'):=by
 unfold sN;generalize cZ 32 [] w=ws at h ⊢;have no:∀{o:Option (Nat×Int)},o=none->o=some (g,x)->False:=λe1 e2=>by rw[e1]at e2;cases e2
 rcases ws with _|⟨a,_|⟨g0,_|⟨t,_|⟨n,_|⟨y,ys⟩⟩⟩⟩⟩
 .exact(no rfl h).elim
 .exact(no rfl h).elim
 .exact(no rfl h).elim
 .exact(no rfl h).elim
 . have h:(if a=[115,101,97,116]/\g0≠[]/\t≠[]then match num n,kJ gn g0,kJ tn t with
        |some k,some i,some j=>if(k:Int)<zs.getD j 0 then some (i,(zs.take j).sum+k)else none
        |_,_,_=>none
     else none)=some (g,x):=h
   show (if a≠[115,101,97,116]\/g0=[]\/t=[]then((3:Int),q)else match num n with
     |none=>(3,q)
     |  some k=>match kJ gn g0 with
        |none=>(6,q)
        |some i=>match kJ tn t with
         |none=>(6,q)
         |some j=>if zs.getD j 0<=(k:Int)then(50,q)else if 0<=q.getD i (-1)then(5,q)else if(zs.take j).sum+k∈q then(51,q)else(0,q.set i ((zs.take j).sum+k)))=(0,q')
   by_cases hc:a=[115,101,97,116]/\g0≠[]/\t≠[];rotate_left
   .rw[Za3 hc]at h;cases h
   rw[Za9 hc]at h;rw[Za3 (by rintro(h|h|h);exact h hc.1;exact hc.2.1 h;exact hc.2.2 h)];cases e1:num n with
   |none=>rw[e1]at h;exact(no rfl h).elim
   |some k=>
   cases e2:kJ gn g0 with
   |none=>rw[e1,e2]at h;exact(no rfl h).elim
   |some i=>
   cases e3:kJ tn t with
   |none=>rw[e1,e2,e3]at h;exact(no rfl h).elim
   |some j=>
   rw[e1,e2,e3]at h;have h:(if(k:Int)<zs.getD j 0 then some (i,(zs.take j).sum+(k:Int))else none)=some (g,x):=h;by_cases hk:(k:Int)<zs.getD j 0;rotate_left
   .rw[Za3 hk]at h;cases h
   rw[Za9 hk]at h;(injection h with h;injection h with h1 h2);subst h1;subst h2;unfold put at hp;by_cases h1:0<=q.getD i (-1)
   .rw[Za9 h1]at hp;cases hp
   rw[Za3 h1]at hp;by_cases h2:(zs.take j).sum+(k:Int)∈q
   .rw[Za9 h2]at hp;cases hp
   rw[Za3 h2]at hp;(injection hp with hp);subst hp;show(if zs.getD j 0<=(k:Int)then((50:Int),q)else if 0<=q.getD i (-1)then(5,q)else if(zs.take j).sum+(k:Int)∈q then(51,q)else(0,q.set i ((zs.take j).sum+(k:Int))))=_;rw[Za3 (by omega),Za3 h1,Za3 h2]
 .exact(no rfl h).elim
theorem UD:∀(ls:List (List Nat))(k:Nat)(q q':List Int),Rs gn tn zs ls q=some q'->SQ gn tn zs (ls++[[]]) k q=(q',0,0)
 |[],k,q,q',h=>by
  rw[Rs]at h;injection h with h;subst h
  rfl
 |w::ls,k,q,q',h=>by
  rw[Rs]at h;cases e:NA gn tn zs (cZ 32 [] w)with
  |none=>rw[e]at h;cases h
  |some gx=>
   obtain⟨g,x⟩:=gx;rw[e]at h;dsimp only at h;cases e1:put q g x with
   |none=>rw[e1]at h;cases h
   |    some q1=>
        rw[e1]at h;dsimp only at h;have hp:=ads e e1;obtain⟨v,vs,hv⟩:∃v vs,ls++[[]]=v::vs:=by
         cases ls with
         |nil=>exact⟨_,_,rfl⟩
         |cons a b=>exact⟨_,_,rfl⟩
        rw[Zf2,hv,SQ,hp,Za9 rfl, <-hv];exact UD ls (k+1) q1 q' h
theorem afq {q:List Int}{w:List Nat}:(sN gn tn zs q w).2.length=q.length:=by
 unfold sN;split
 . split
   .rfl
   . split
     .  rfl
     .  split
        .rfl
        . split
          .rfl
          . split
            .rfl
            . split
              .rfl
              . split
                .rfl
                .simp
 .rfl
end
theorem XG{c:Nat}(hc:c<256):∀{l:List Nat},(∀x∈l,x<256)->c∉l->Lib.indexByte (l.map UInt8.ofNat) ((c:Int).toNat.toUInt8)= -1
 |[],_,_=>rfl
 |x::l,h,hn=>by
  have hx:=h x (by simp);have ih:=XG hc (l:=l) (λy hy=>h y (Za4 _ hy)) (λe=>hn (Za4 _ e));have cL:(UInt8.ofNat x==(c:Int).toNat.toUInt8)=false:=by
   rw[Zj3];intro e;have e:=congrArg UInt8.toNat e;rw[Zi0]at e;simp[Zf6 hx,Zf6 hc]at e;exact hn (by simp[e])
  rw[Zb8,Lib.indexByte,cL,ih];rfl
theorem Jj{c:Nat}(hc:c<256):∀{a b:List Nat},(∀x∈a,x<256)->c∉a->Lib.indexByte ((a++c::b).map UInt8.ofNat) ((c:Int).toNat.toUInt8)=(a.length:Int)
 |[],b,_,_=>by
  rw[Zf0,Zb8,Lib.indexByte,Za9]
  .rfl
  .rw[Zi0];exact Zq5 _
 |x ::a,b,h,hn=>by
  have hx:=h x (by simp);have ih:=Jj hc (a:=a) (b:=b) (λy hy=>h y (Za4 _ hy)) (λe=>hn (Za4 _ e));have cL:(UInt8.ofNat x==(c:Int).toNat.toUInt8)=false:=by
    rw[Zj3];intro e;have e:=congrArg UInt8.toNat e;rw[Zi0]at e;simp[Zf6 hx,Zf6 hc]at e;exact hn (by simp[e])
  rw[Zf2,Zb8,Lib.indexByte,cL,ih];have:(((a.length:Nat):Int)== -1)=false:=by rw[Zj3];omega
  rw[this];simp
theorem Ru{c:Nat}:∀(l:List Nat),c∉l\/∃a b,c∉a/\l=a++c::b
 |[]=>.inl (by simp)
 |x ::l=>by
  by_cases hx:x=c
  .exact .inr ⟨[],l,by simp,by simp[hx]⟩
  . rcases Ru (c:=c) l with h|⟨a,b,h,e⟩
    .exact .inl (by simp only[Zb2,not_or];exact⟨λe=>hx e.symm,h⟩)
    .exact .inr ⟨x::a,b,by simp only[Zb2,not_or];exact⟨λe=>hx e.symm,h⟩,by rw[e];rfl⟩
theorem SS{c:Nat}(hc:c<256):∀(l acc:List Nat),(∀x∈l,x<256)->Lib.countByte (l.map UInt8.ofNat) ((c:Int).toNat.toUInt8)+1=(cZ c acc l).length
 |[],_,_=>rfl
 |x ::l,acc,h=>by
  have hx:=h x (by simp);have hl:=λy hy=>h y (Za4 _ hy)
  unfold Lib.countByte;rw[Zb8,Zr2,cZ];by_cases e:x=c
  .subst e;have ih:=SS hc l [] hl;unfold Lib.countByte at ih;rw[Zi0]at ih ⊢;rw[Za9 rfl,Zc5, <-ih];have:(UInt8.ofNat x==x.toUInt8)=true:=Zq5 _;rw[this];simp
  .have ih:=SS hc l (acc++[x]) hl;unfold Lib.countByte at ih;have cL:(UInt8.ofNat x==(c:Int).toNat.toUInt8)=false:=(by rw[Zj3];intro e';have e':=congrArg UInt8.toNat e';rw[Zi0]at e';simp[Zf6 hx,Zf6 hc]at e';exact e e');rw[Za3 e, <-ih,cL];simp
theorem Rv{c:Nat}:∀(l acc:List Nat),cZ c acc l≠[]
 |[],_=>by simp[cZ]
 |x::l,acc=>by
  rw[cZ];split
  .simp
  .exact Rv l _
theorem SU{c:Nat}:∀(l acc:List Nat),(cZ c acc l).length<=l.length+1
 |[],_=>by simp[cZ]
 |x ::l,acc=>by
  rw[cZ];split
  .have:=SU (c:=c) l [];simp only[Zc5];omega
  .have:=SU (c:=c) l (acc++[x]);simp only[Zc5];omega
end
end Go.Ai.Ro
namespace Go.Ai
section
open Go
structure Rd(s:St)(es:Nat)(L:AV)(i:Nat)(b:Pos)(o:Nat)(r:List AV):Prop where
 st:∀{R:Type}(c:ai)(K:AV->St->Option R)(k:IntKind)(s1:St),aj c (.idxA es none) [L,.int k (i:Int)] s1 K=K (.ptr b o) s1
 pr:∀{R:Type}(K:AV->Option R)(k:IntKind),dK (.idxA es none) [L,.int k (i:Int)] K=K (.ptr b o)
 at':∀(j:Nat)(u:AV),r[j]? =some u->((cellsOf (s.heap.get b)).bind λcs=>cs[o+j]?)=some u
 all:((cellsOf (s.heap.get b)).bind λcs=>cut cs o es)=some r
theorem QS.rd{s:St}{es:Nat}{v:AV}{rows:List (List AV)}(h:QS es s v rows)(hr:∀r∈rows,r.length=es){i:Nat}{r:List AV}(hi:rows[i]? =some r):∃b o,Rd s es v i b o r:=by
 obtain⟨iT,rfl⟩:=Za1.1 hi;have hlen:=hr _ (Zc0 iT);rcases h with⟨rfl,h⟩|⟨b,off,cap,cs,rfl,g1,g2,g3,g4⟩|⟨b,off,rfl,h⟩
 .rw[h]at iT;simp at iT
 rotate_left
 .rw[h]at iT;simp at iT
 have hmul:(i+1)*es<=rows.length*es:=Zh4 _ iT;rw[Zi4]at hmul;have at0:∀(j:Nat)(u:AV),rows[i][j]? =some u->cs[off+i*es+j]? =some u:=λj u hj=>by have hj2:j<es:=(by rw[<-hlen];exact(Za1.1 hj).1);have:=Go.Ai.AO hr i j rows[i] u (H4 iT) hj;rw[<-g3,Zc4,Za9 (by omega),Zd2]at this;rw[<-this];congr 1;omega
 refine⟨b,off+i*es,λc K k s1=>qQ c K s1 iT,λK k=>afn K iT,λj u hj=>by rw[g1];exact at0 j u hj,?_⟩;rw[g1];show cut cs (off+i*es) es=some rows[i];unfold cut;rw[cI,H5 (by omega)];refine congrArg some ?_;apply Zf3;intro j;by_cases hj:j<es
 .rw[Zc4,Za9 hj,Zd2];exact(at0 j (rows[i]'iT)[j] (H4 (by omega))).trans (H4 (by omega)).symm
 .rw[Zb5 (by simp;omega),Zb5 (by omega)]
theorem Rd.one{s:St}{L x:AV}{i:Nat}{b:Pos}{o:Nat}(h:Rd s 1 L i b o [x]):((cellsOf (s.heap.get b)).bind λcs=>cs[o]?)=some x:=h.at' 0 x rfl
theorem QS.Ki{s:St}{v:AV}{l:List AV}(h:QS 1 s v (l.map afi)){i:Nat}{x:AV}(hx:l[i]? =some x):∃b o,Rd s 1 v i b o [x]:=
 h.rd (afj l) (by rw[Zb6,hx];rfl)
theorem QS.aF{es:Nat}{s s':St}{v:AV}{rows:List (List AV)}(h:QS es s v rows)(g:Grew s s'):QS es s' v rows:=h.mono λb x _ hx=>g.get hx
section
variable{c:ai}{R:Type}
theorem NB{x:Int}(h1:0<=x)(h2:x<=18446744073709551615):au .u64 x=x:=by
 unfold au TN TO;simp only;split
 . split
   .rfl
   .contradiction
 .contradiction
theorem PB{a:Int}(h0:0<=a)(h1:a<4294967296)(s:St)(K:AV->St->Option R):aj c (.bin .shr .num) [.int .u64 a,.int .u64 32] s K=K (.int .u64 0) s:=aH c K (λH n=>by
 have e0:yo (32:Int) 0=false:=by rw[ek];rfl
 have e1:min (32:Int).toNat (IntKind.bits .u64)=32:=rfl;simp only[av.run,fQ,jX,e0,e1];rw[Zm7 _ (by decide)];rw[show(2:Int) ^ 32=4294967296 from rfl,Int.ediv_eq_zero_of_lt h0 h1]
 ) s
theorem Zt{v z:AV}{m k:Nat}:aJ (List.replicate m z) 0 (List.replicate k v)=List.replicate k v++List.replicate (m - k) z:=by unfold aJ;simp
theorem XH{b b2:Pos}{v z:AV}{m:Nat}{cp DX:Option Nat}(hm:0<m)(hv:v.one=true){s:St}(h:s.heap.get b=some (.cells (List.replicate m z) 0))(h2:s.heap.get b2=some (.cells [v] 0))(K:AV->St->Option R):
  aj c (.copyB 1) [.slice b 0 m cp 1,.slice b2 0 1 DX 1] s K=K (.int .i64 1) (cj s b (.cells (List.replicate 1 v++List.replicate (m - 1) z) 0)):=by
 have e:av.run (λb=>s.heap.get b) s.next (.copyB 1) [.slice b 0 m cp 1,.slice b2 0 1 DX 1]=some (.aG (BU 1) none (some (b,.cells (List.replicate 1 v++List.replicate (m - 1) z) 0)) none):=by
  show mq (λb=>s.heap.get b) s.next 1 [.slice b 0 m cp 1,.slice b2 0 1 DX 1]=_;unfold mq;simp only[dD];have aba:min m 1=1:=by omega
  rw[show min 1 m=1 by omega,cX,Za0 (by omega)];simp only;have hf:cH 1 1 (λb=>s.heap.get b) (.slice b2 0 1 DX 1)=some (List.replicate 1 v):=by unfold cH;rw[cX,Za0 (by omega)];simp only;rw[h2];exact bY rfl
  rw[h,hf];simp only;rw[cI,H5 (by simp;omega),cI,H5 (Zi5 _),Ji hv];simp only;rw[Zt]
 unfold aj bP;rw[e];rfl
theorem adt{b:Pos}{N n:Nat}(h:n<=N)(k:IntKind)(K:AV->Option R):dK (.sliceL 1 true false false) [.slice b 0 N (some N) 1,.int k (n:Int)] K=K (.slice b n (N - n) (some (N - n)) 1):=b7 K (λH m=>by
 have hb:bounds true false false [.int k (n:Int)]=some (some n,none,none):=by simp[bounds,eI]
 simp only[av.run,lS,hb,cX,cI,Zg2,Zf5,Zi8,H5 h,Za5];simp)
theorem adu{b:Pos}{N n:Nat}(h:n<=N)(k:IntKind)(K:AV->Option R):dK (.sliceL 1 false true false) [.slice b 0 N (some N) 1,.int k (n:Int)] K=K (.slice b 0 n (some N) 1):=b7 K (λH m=>by
 have hb:bounds false true false [.int k (n:Int)]=some (none,some n,none):=by simp[bounds,eI]
 simp only[av.run,lS,hb,cX,cI,Zg2,Zf5,Zi8,Zi5,H5 h]
 all_goals simp)
theorem Vp{b b2:Pos}{cp DX:Option Nat}{n:Nat}(s:St)(K:AV->St->Option R):aj c (.copyB 1) [.slice b 0 0 cp 1,.slice b2 0 n DX 1] s K=K (.int .i64 0) s:=by
 have e:av.run (λb=>s.heap.get b) s.next (.copyB 1) [.slice b 0 0 cp 1,.slice b2 0 n DX 1]=some (.val (BU 0)):=by
  show mq (λb=>s.heap.get b) s.next 1 [.slice b 0 0 cp 1,.slice b2 0 n DX 1]=_;unfold mq;simp only[dD];rw[show min n 0=0 by omega]
 unfold aj bP;rw[e];rfl
end
theorem T.PC{α:Type}{x:α}:∀(p:Pos)(t:T α),t.get p=some x->T.put (some x) p t=t
 |p,.e,h=>by rw[T.ei]at h;cases h
 |.h,.n l v r,h=>by have h:v=some x:=h;subst h;rfl
 | .o p,.n l v r,h=>by
   have h:l.get p=some x:=h;simp only[T.put];rw[T.PC p l h]
 | .i p,.n l v r,h=>by
   have h:r.get p=some x:=h;simp only[T.put];rw[T.PC p r h]
theorem XI{s:St}{p:Pos}{b:AB}(h:s.heap.get p=some b):cj s p b=s:=by
 unfold cj;rw[T.PC p s.heap h]
theorem xj{b:Pos}{off n es:Nat}(hn:n≠0)(h:Plain (.slice b off n (some n) es)):False:=by
 have h1:aq (λ_=>⟨0,0,off+n*es⟩) (b.toNat+1) (λ_=>none) (.slice b off n (some n) es) (.slice (some ⟨0,0+off,none⟩) n n):=
  .slice b off n (some n) es n _ (Za5 _) (λc hc=>by cases hc;rfl) (λ_=>⟨by omega,rfl,by simp⟩) (λh=>by cases h)
 have h2:=h _ (λ_=>⟨0,0,0⟩) _ 0 _ _ h1;cases h2 with
 |slice _ _ _ _ _ _ _ _ _ ha _=>exact absurd (ha hn).1 (by omega)
end
end Go.Ai
