/- The program as plain functions. -/
import Derived.Test.YtgjikjcfjddloaaGreatDoorXEvalD
import Derived.WalkKit
import Derived.OpenShut
import Derived.ProofKit
import Derived.ShutString
set_option linter.all false
namespace Go.Ai
section
open Go Go.RowKit
def Rt(c c':ah):Prop:=∀f args st r,c f args st=some r->c' f args st=some r
theorem Rt.refl(c:ah):Rt c c:=λ_ _ _ _ h=>h
section
variable{c c':ah}
theorem Lz(h:Rt c c'){k:ax}{xs:List AV}{st:St}{r:AV×St}(e:bY c k xs st=some r):bY c' k xs st=some r:=by
 unfold bY at e ⊢;cases hr:k.run (λb=>st.heap.get b) st.next xs with
 |none=>simp[hr]at e
 |some x=>cases x with
  |val v=>simpa [hr]using e
  |aI v d s n=>simpa [hr]using e
  |call f args=>simp only[hr]at e ⊢; exact h _ _ _ _ e
theorem QA(h:Rt c c'):∀(os:List bD)(fr:Fr)(st:St)(r:Fr×St),jM c os fr st=some r->jM c' os fr st=some r
 |[],_,_,_,e=>e
 |o::os,fr,st,r,e=>by
  unfold jM at e ⊢;cases hw:cj fr o.guard with
  |none=>simp[hw]at e
  |some b=>cases b with
   |false=>simp only[hw]at e ⊢; exact QA h _ _ _ _ e
   |    true=>
        simp only[hw]at e ⊢;cases hx:e8 fr o.xs with
        |none=>simp[hx]at e
        |some xs=>
         simp only[hx]at e ⊢;cases hs:bY c o.k xs st with
         |none=>simp[hs]at e
         |some p=>simp only[hs]at e;simp only[Lz h hs];exact QA h _ _ _ _ e
theorem Su (h:Rt c c'):∀(os:List (Nat×bD))(recs:List Rec)(base:T AB)(fr:Fr)(st:St)(r:Fr×St),dO c os recs base fr st=some r->dO c' os recs base fr st=some r
 |[],_,_,_,_,_,e=>e
 |(j,   o)::os,recs,base,fr,st,r,e=>by
  have ih:=Su h os;unfold dO at e ⊢;cases hw:cj fr o.guard with
  |none=>simp[hw]at e
  | some b=>cases b with
    |false=>simp only[hw]at e ⊢; exact ih _ _ _ _ _ e
    |   true=>
        simp only[hw]at e ⊢;cases hx:e8 fr o.xs with
        |none=>simp[hx]at e
        |some xs=>
         simp only[hx]at e ⊢;cases hc:o.cls with
         |  aI=>
            simp only[hc]at e ⊢;cases hs:bY c o.k xs st with
            |none=>simp[hs]at e
            |some p=>simp only[hs]at e;simp only[Lz h hs];exact ih _ _ _ _ _ e
         |  new=>
            simp only[hc]at e ⊢;split at e<;>first|(cases e;done)|exact ih _ _ _ _ _ e
         |  pure=>
            simp only[hc]at e ⊢;split at e<;>(try split at e)<;>(try split at e)<;>first|(cases e;done)|(simp only[*];exact ih _ _ _ _ _ e)|exact ih _ _ _ _ _ e
         |  read=>
            simp only[hc]at e ⊢;split at e<;>(try split at e)<;>(try split at e)<;>first|(cases e;done)|(simp only[*];exact ih _ _ _ _ _ e)|exact ih _ _ _ _ _ e
theorem QB(h:Rt c c'):∀(n m:Nat),n<=m->∀(a:AC)(fr:Fr)(st:St)(r:jV×Fr×St),exec c n a fr st=some r->exec c' m a fr st=some r
 |0,_,_,_,_,_,_,e=>by simp[exec]at e
 |n+1,0,hm,_,_,_,_,_=>by omega
 |n+    1,m+1,hm,a,fr,st,r,e=>by
  have ih:=QB h n m (by omega);cases a<;>simp only[exec,bt]at e ⊢
  case skip=>exact e
  case exit=>exact e
  case ret=>exact e
  case region ops=>
   cases ho:jM c ops fr st with
   |none=>simp[ho]at e
   |some p=>simp only[ho]at e;simp only[QA h _ _ _ _ ho];exact e
  case draw ops=>
   cases ho:dO c ops [] st.heap fr st with
   |none=>simp[ho]at e
   |some p=>simp only[ho]at e;simp only[Su h _ _ _ _ _ _ ho];exact e
  case seq a b=>
   cases ha:exec c n a fr st with
   |none=>simp[ha]at e
   |    some p=>
        obtain⟨ex,cD,aW⟩:=p;simp only[ha]at e;simp only[ih _ _ _ _ ha];cases ex<;>first|exact e|exact ih _ _ _ _ e
  case cond x a b=>
   split at e
   .    exact ih _ _ _ _ e
   .    exact ih _ _ _ _ e
   .    cases e
  case block id a=>
   cases ha:exec c n a fr st with
   |none=>simp[ha]at e
   |    some p=>
        obtain⟨ex,cD,aW⟩:=p;simp only[ha]at e;simp only[ih _ _ _ _ ha];cases ex<;>exact e
  case loop a=>
   cases ha:exec c n a fr st with
   |none=>simp[ha]at e
   |    some p=>
        obtain⟨ex,cD,aW⟩:=p;simp only[ha]at e;simp only[ih _ _ _ _ ha];cases ex<;>first|exact e|exact ih _ _ _ _ e
end
def Plain(v:AV):Prop:=∀(ρ ρ':Pos->Loc)(n n':Nat)(C:Cells)(x:Value),aq ρ n C v x->aq ρ' n' C v x
theorem Plain.bool(b:Bool):Plain (.bool b):=λ_ _ _ _ _ _ h=>by cases h;exact .bool b
theorem Plain.int(k:IntKind)(i:Int):Plain (.int k i):=λ_ _ _ _ _ _ h=>by cases h;exact .int k i
theorem Plain.str(s:List Nat):Plain (.str s):=λ_ _ _ _ _ _ h=>by cases h with|str _ bs h=>exact .str s bs h
theorem Plain.av:Plain .av:=λ_ _ _ _ _ _ h=>by cases h;exact .av
theorem Plain.jR:Plain .jR:=λ_ _ _ _ _ _ h=>by cases h;exact .jR
theorem Plain.func(f:FuncId){a b:List AV}(ha:∀v∈a,Plain v)(hb:∀v∈b,Plain v):Plain (.func f a b):=λ_ _ _ _ _ _ h=>by
 cases h with
 |func _ _ _ a' b' hx hy h1 h2=>exact .func f a b a' b' hx hy (λi v x hv hx=>ha v (Zc5 hv) _ _ _ _ _ _ (h1 i v x hv hx)) (λi v x hv hx=>hb v (Zc5 hv) _ _ _ _ _ _ (h2 i v x hv hx))
theorem Plain.tuple{l:List AV}(hl:∀v∈l,Plain v):Plain (.tuple l):=λ_ _ _ _ _ _ h=>by
 cases h with
 |tuple _ cs hx h1=>exact .tuple l cs hx λi v x hv hx=>hl v (Zc5 hv) _ _ _ _ _ _ (h1 i v x hv hx)
theorem Plain.agg{l:List AV}(hl:∀v∈l,Plain v):Plain (.agg l):=λ_ _ _ _ _ _ h=>by
 cases h with
 |agg _ cs hx h1=>exact .agg l cs hx λi v x hv hx=>hl v (Zc5 hv) _ _ _ _ _ _ (h1 i v x hv hx)
theorem Plain.fl{xs:List (List AV)}{es:Nat}(hl:∀cs∈xs,∀v∈cs,Plain v):Plain (.fl xs es):=λ_ _ _ _ _ _ h=>by
 cases h with
 |fl _ _ aS a cell h1 h2 h3 h4 h5=>exact .fl xs es aS a cell h1 h2 h3 h4 λi j cs v hi hj=>hl cs (Zc5 hi) v (Zc5 hj) _ _ _ _ _ _ (h5 i j cs v hi hj)
def aM(st st':St):Prop:=∀b x,st.heap.get b=some x->st'.heap.get b=some x
theorem aM.refl(st:St):aM st st:=λ_ _ h=>h
theorem aM.trans{a b c:St}(h:aM a b)(k:aM b c):aM a c:=λ_ _ e=>k _ _ (h _ _ e)
theorem aq.down{ρ ρ':Pos->Loc}{n n':Nat}{C:Cells}{v:AV}{x:Value}(h:aq ρ' n' C v x):∀{y:Value},aq ρ n C v y->(∀b:Pos,b.toNat<n->ρ' b=ρ b)->aq ρ n C v x:=by
 induction h with
 |bool b=>exact λh _=>.bool b
 |int k i=>exact λh _=>.int k i
 |str s bs h=>exact λ_ _=>.str s bs h
 |fH=>exact λ_ _=>.fH
 |ptr b off h=>
  intro y h aY;cases h with
  |ptr _ _ h'=>rw[aY b h'];exact .ptr b off h'
 |fp xs i j es aA base cell hl hc hv ih=>
  intro y h aY;cases h with
  |fp _ _ _ es' DN base' akp hl' xS FD=>exact .fp xs i j es aA base cell hl hc λi j cs v hi hj=>ih i j cs v hi hj (FD i j cs v hi hj) aY
 |av=>exact λ_ _=>.av
 |slice  b off len cap es aS a hl hc ha hk=>
  intro y h aY;cases h with
  |slice _ _ _ _ _ acZ a' hl' xS ha' lB=>
   refine .slice b off len cap es aS a hl hc (λh0=> ?_) lB;obtain⟨h1,h2,h3⟩:=ha h0;have hb:b.toNat<n:=by
        cases cap with
        |none=>exact lB rfl
        |some c=>
         have e1:=hc c rfl;have e2:=xS c rfl;exact(ha' (by rw[<-e2,e1];exact h0)).1
   rw[aY b hb]at h2 h3;exact⟨hb,h2,h3⟩
 |fl xs es aS a cell hl hs eF hc hv ih=>
  intro y h aY;cases h with
  |fl _ _ acZ a' akp hl' mV hes' xS FD=>exact .fl xs es aS a cell hl hs eF hc λi j cs v hi hj=>ih i j cs v hi hj (FD i j cs v hi hj) aY
 |qe=>exact λ_ _=>.qe
 |map b h=>
  intro y h aY;cases h with
  |map _ h'=>rw[aY b h'];exact .map b h'
 |func f x y x' y' hx hy h1 h2 ih1 Wt=>
  intro z h aY;cases h with
  |func _ _ _ a' b' kx ky k1 k2=>
   refine .func f x y x' y' hx hy (λi v x hv kg=> ?_) (λi v x hv kg=> ?_)
   .    have hi:i<a'.size:=(by rw[<-kx];exact(H5.1 hv).1);exact ih1 i v x hv kg (k1 i v _ hv (Zf5 hi)) aY
   .    have hi:i<b'.size:=(by rw[<-ky];exact(H5.1 hv).1);exact Wt i v x hv kg (k2 i v _ hv (Zf5 hi)) aY
 |jR=>exact λ_ _=>.jR
 |uT=>exact λ_ _=>.uT
 |iface t v x _ ih=>
  intro y h aY;cases h with
  |iface _ _ x' h'=>exact .iface t v x (ih h' aY)
 |agg l cs hx h1 ih=>
  intro y h aY;cases h with
  |agg _ mG kx k1=>
   (refine .agg l cs hx λi v x hv kg=> ?_);have hi:i<mG.size:=(by rw[<-kx];exact(H5.1 hv).1);exact ih i v x hv kg (k1 i v _ hv (Zf5 hi)) aY
 |tuple l cs hx h1 ih=>
  intro y h aY;cases h with
  |tuple _ mG kx k1=>
   (refine .tuple l cs hx λi v x hv kg=> ?_);have hi:i<mG.size:=(by rw[<-kx];exact(H5.1 hv).1);exact ih i v x hv kg (k1 i v _ hv (Zf5 hi)) aY
end
noncomputable section
open Go Go.RowKit
def tidy(st:St)(r:AV×St):AV×St:=open Classical in if Plain r.1/\aM st r.2 then(r.1,st)else r
theorem aer{ρ:Pos->Loc}{C:Cells}{st:St}{w w':World}{r:AV×St}{x:Value}(hW:bn ρ C st w)(h:mW ρ C st w r.1 r.2 x w'):
   mW ρ C st w (tidy st r).1 (tidy st r).2 x w':=by
 unfold tidy;split
 . rename_i hp;obtain⟨ρ',hv,aY,hn,fA,hE⟩:=h;refine⟨ρ,hp.1 _ _ _ _ _ _ hv,λ_ _=>rfl,Za3 _,⟨λb y hb=> ?_,hW.inj,λa u ha=>⟨(fA.ek a u ha).1,(hW.ek a u ha).2⟩,fA.whole⟩,⟨hE.os,hE.tape,hE.output,hE.size,hE.block,λb y hb=>.inl ⟨b,y,hb,rfl⟩⟩⟩;obtain⟨g1,g2,g3⟩:=hW.live b y hb;obtain⟨_,_,k3⟩:=fA.live b y (hp.2 b y hb);refine⟨g1,Zc8 g2 hE.size,?_⟩;rw[aY b g1]at k3;cases y with
   |cells cs fz=>
    obtain⟨c,e,fr,q1,q2,q3,q4,q5⟩:=k3;obtain⟨c0,e0,cE,p1,p2,p3,p4,p5⟩:=g3;refine⟨c,e,fr,q1,q2,q3,⟨q4.1,λi v x hv hx=> ?_⟩,q5⟩;obtain⟨y0,hy0,JM⟩:=p4.get hv;exact(q4.2 i v x hv hx).down JM aY
   |map es clock=>
    obtain⟨es',q1,q2,q3⟩:=k3;obtain⟨es0,p1,p2,p3⟩:=g3;refine⟨es',q1,q2,λi e e' he kX=> ?_⟩;obtain⟨a1,a2,a3⟩:=q3 i e e' he kX;have hi:i<es0.size:=(by rw[<-p2];exact(H5.1 he).1);obtain⟨b1,b2,_⟩:=p3 i e _ he (Zf5 hi);exact⟨a1.down b1 aY,a2.down b2 aY,a3⟩
   |jS s pos=>exact k3
   |typed t cs=>
    obtain⟨c,fr,q1,q2,q3,q4,q5⟩:=k3;obtain⟨c0,cE,p1,p2,p3,p4,p5⟩:=g3;refine⟨c,fr,q1,q2,q3,⟨q4.1,λi v x hv hx=> ?_⟩,q5⟩;obtain⟨y0,hy0,JM⟩:=p4.get hv;exact(q4.2 i v x hv hx).down JM aY
 .exact h
theorem aes{st:St}{r:AV×St}(h:st.next.toNat<=r.2.next.toNat):st.next.toNat<=(tidy st r).2.next.toNat:=by
 unfold tidy;split
 .exact Za3 _
 .exact h
def uB(call:ah)(m:Nat)(F:dB)(args:List AV)(st:St):Option (AV×St):=
 match Nat.beq args.length F.nparams with
 |  true=>match exec call m F.code (params 0 args .e) st with
    |some (.normal,fr,st')=>match dA (λb=>st'.heap.get b) fr F.results with
     |some vs=>some (iq vs,st')
     |none=>none
    |some (.ret,fr,st')=>match dA (λb=>st'.heap.get b) fr F.results with
     |some vs=>some (iq vs,st')
     |none=>none
    |_=>none
 |false=>none
def uC(O:ff)(G:T dB)(m:Nat):Nat->ah
 |0=>λ_ _ _=>none
 |  d+1=>λf args st=>match O f with
    |some s=>s args st
    |none=>match G.get (key f)with
     |some F=>(uB (uC O G m d) m F args st).map (tidy st)
     |none=>none
section
variable{P:Program}{tt:TT}{C:Cells}
theorem ac1(hT:cB P tt){G:T dB}(hG:Te P tt G){call:ah}(cg:fG P C call)(gy:tj P tt C call)(m:Nat){f:FuncId}{F:dB}(hF:G.get (key f)=some F)
   {ρ:Pos->Loc} {st:St} {w:World} {args:List AV} {v:AV} {st':St} {bQ:List Value} (h:uB call m F args st=some (v,st')) (hW:bn ρ C st w) (rD:az ρ st.next.toNat C args bQ):
   Reaches P (mW ρ C st w v st') ((callFunc f bQ.toArray).run P w):=by
 unfold uB at h;split at h<;>first|(cases h;done)|skip
 rename_i hlen;have hlen:=H4 hlen;obtain⟨fn,Eh,fY,FM⟩:=hG _ _ hF;rw[fD,Zf0]at Eh;unfold Yq at FM;split at FM<;>first|(cases FM;done)|skip
 rename_i c hb;split at FM<;>first|(cases FM;done)|skip
 rename_i ac rs Zi hrs hle;simp only[H0]at FM;subst FM;simp only at h hlen;have hle:=Za1 hle;have cC:(callFunc f bQ.toArray).run P w= .ok (.enter f bQ.toArray) w:=by
   have FN:¬fn.name= "runtime.NumGoroutine" :=(by simpa using fY);simp[callFunc,Eh,FN,hb]
 rw[cC];simp only[Reaches];refine calls_of_wp Eh hb (fB.wp ?_);have ew:bQ.length<=fn.ntmps:=by rw[<-rD.1,hlen];exact hle
 have hS:nH fn.ntmps ρ C (params 0 args .e) st { tmps:=bQ.toArray++Array.replicate (fn.ntmps - bQ.toArray.size) undef,defers:=[] } w:=by
   refine⟨hW,?_,?_,rfl⟩
   .refine AH args bQ 0 .e rD (λj x hx=> ?_) (λp v hp=>by rw[T.ej]at hp;cases hp);have hj:j<bQ.length:=(H5.1 hx).1;rw[Zc7,Zh9 (by simpa using hj)];simpa using hx
   .simp;omega
 split at h<;>first|(cases h;done)|skip
 .rename_i cD aW h1;(split at h<;>first|(cases h;done)|skip);rename_i vs jf;simp only[H0,Zb6]at h;obtain⟨rfl,rfl⟩:=h;(refine(rL hT cg gy m).1 c ac _ cD st aW .normal ρ _ w _ Zi h1 hS λa' w' hp=> ?_);obtain⟨eI,u0,k1,k2,k3⟩:=hp;obtain⟨y,Ej,FA⟩:=tq hT u0.W u0.F hrs jf;exact⟨u0.defers,y,Ej,eI,FA,k1,k2,u0.W,k3⟩
 .rename_i cD aW h1;(split at h<;>first|(cases h;done)|skip);rename_i vs jf;simp only[H0,Zb6]at h;obtain⟨rfl,rfl⟩:=h;(refine(rL hT cg gy m).1 c ac _ cD st aW .ret ρ _ w _ Zi h1 hS λa' w' hp=> ?_);obtain⟨eI,u0,k1,k2,k3⟩:=hp;obtain⟨y,Ej,FA⟩:=tq hT u0.W u0.F hrs jf;exact⟨u0.defers,y,Ej,eI,FA,k1,k2,u0.W,k3⟩
theorem aet{call:ah}(hm:mX call){m:Nat}{F:dB}{args:List AV}{st:St}{v:AV}{st':St}(h:uB call m F args st=some (v,st')):st.next.toNat<=st'.next.toNat:=by
 unfold uB at h;split at h<;>first|(cases h;done)|skip
 split at h<;>first|(cases h;done)|skip
 all_goals
  rename_i h1;split at h<;>first|(cases h;done)|skip
  simp only[H0,Zb6]at h;obtain⟨rfl,rfl⟩:=h;exact HL hm _ _ _ _ _ _ _ h1
theorem TY{O:ff}{G:T dB}(hO:k8 O)(m:Nat):∀d,mX (uC O G m d)
 |0=>λf args st v st' h=>by simp[uC]at h
 |d +1=>λf args st v st' h=>by
  unfold uC at h;split at h
  .rename_i s hs;exact hO _ _ hs _ _ _ _ h
  . (split at h<;>first|(cases h;done)|skip);simp only[Zf7]at h;obtain⟨r,hr,he⟩:=h;have:=aet (TY hO m d) (v:=r.1) (st':=r.2) hr;have:=aes this;rw[he]at this;exact this
theorem Ru(hm:P.follows .mixedOrders=true)(hT:cB P tt){O:ff}{G:T dB}(hO:rC P C O)(Ox:k8 O)(hG:Te P tt G)(m:Nat):∀d,fG P C (uC O G m d)
 |0=>λρ st w f args v st' bQ h=>by simp[uC]at h
 |d +1=>by
  intro ρ st w f args v st' bQ h hW rD;have ih:=Ru hm hT hO Ox hG m d;unfold uC at h;split at h
  .rename_i s hs;exact hO f s hs ρ st w args v st' bQ h hW rD
  . (split at h<;>first|(cases h;done)|skip);rename_i F hF;simp only[Zf7]at h;obtain⟨r,hr,he⟩:=h;refine Reaches.mono (λx w' hp=> ?_) (ac1 hT hG ih (Lq hm hT ih (TY Ox m d)) m hF (v:=r.1) (st':=r.2) hr hW rD);have:=aer hW hp;rw[he]at this;exact this
end
theorem abM{c c':ah}(h:Rt c c'){n m:Nat}(hn:n<=m){F:dB}{args:List AV}{st:St}{r:AV×St}(e:uB c n F args st=some r):uB c' m F args st=some r:=by
 unfold uB at e ⊢;split at e<;>first|(cases e;done)|skip
 split at e<;>first|(cases e;done)|skip
 all_goals
  rename_i h1;simp only[QB h n m hn _ _ _ _ h1];exact e
theorem Sv(O:ff)(G:T dB){n m:Nat}(hn:n<=m):∀d d',d<=d'->Rt (uC O G n d) (uC O G m d')
 |0,_,_=>λ_ _ _ _ e=>by simp[uC]at e
 |_+1,0,h=>by omega
 |d +1,d'+1,h=>λf args st r e=>by
  have ih:=Sv O G hn d d' (by omega);unfold uC at e ⊢;split at e
  .exact e
  . (split at e<;>first|(cases e;done)|skip);simp only[Zf7]at e ⊢;obtain⟨q,hq,he⟩:=e;exact⟨q,abM ih hn hq,he⟩
def cn(O:ff)(G:T dB)(n:Nat):ah:=uC O G n n
theorem LA(O:ff)(G:T dB){n m:Nat}(h:n<=m):Rt (cn O G n) (cn O G m):=Sv O G h n m h
def run(O:ff)(G:T dB):ah:=λf args st=>open Classical in
 if h:∃(r:AV×St) (n:Nat),cn O G n f args st=some r then some h.choose else none
variable{O:ff}{G:T dB}
theorem aeu{f:FuncId}{args:List AV}{st:St}{r:AV×St}{n:Nat}(h:cn O G n f args st=some r):run O G f args st=some r:=by
 unfold run;have hx:∃(r:AV×St) (n:Nat),cn O G n f args st=some r:=⟨r,n,h⟩
 rw[dif_pos hx];obtain⟨m,hm⟩:=hx.choose_spec;have h1:=LA O G (Zj4 n m) f args st _ h;have h2:=LA O G (Zi1 n m) f args st _ hm;rw[h1]at h2;exact h2.symm
theorem Zw{f:FuncId}{args:List AV}{st:St}{r:AV×St}(h:run O G f args st=some r):∃n,cn O G n f args st=some r:=by
 unfold run at h;split at h
 .rename_i hx;simp only[H0]at h;rw[<-h];exact hx.choose_spec
 .cases h
theorem TZ{k:ax}{xs:List AV}{st:St}{r:AV×St}(e:bY (run O G) k xs st=some r):∃n,bY (cn O G n) k xs st=some r:=by
 unfold bY at e;cases hr:k.run (λb=>st.heap.get b) st.next xs with
 |none=>simp[hr]at e
 |some x=>cases x with
  |val v=>exact⟨0,by simpa [bY,hr]using e⟩
  |aI v d s n=>exact⟨0,by simpa [bY,hr]using e⟩
  |call f args=>
   simp only[hr]at e;obtain⟨n,hn⟩:=Zw e;exact⟨n,by simpa [bY,hr]using hn⟩
theorem OA:∀(os:List bD)(fr:Fr)(st:St)(r:Fr×St),jM (run O G) os fr st=some r->∃n,jM (cn O G n) os fr st=some r
 |[],_,_,_,e=>⟨0,e⟩
 |o::os,fr,st,r,e=>by
  unfold jM at e;cases hw:cj fr o.guard with
  |none=>simp[hw]at e
  |some b=>cases b with
   |    false=>
        simp only[hw]at e;obtain⟨n,hn⟩:=OA os _ _ _ e;exact⟨n,by unfold jM;simp only[hw];exact hn⟩
   |    true=>
        simp only[hw]at e;cases hx:e8 fr o.xs with
        |none=>simp[hx]at e
        |some xs=>
         simp only[hx]at e;cases hs:bY (run O G) o.k xs st with
         |none=>simp[hs]at e
         |some p=>
          simp only[hs]at e;obtain⟨n,hn⟩:=OA os _ _ _ e;obtain⟨m,hm⟩:=TZ hs;refine⟨max n m,?_⟩;unfold jM;simp only[hw,hx,Lz (LA O G (Zi1 n m)) hm];exact QA (LA O G (Zj4 n m)) _ _ _ _ hn
theorem T6: ∀(os:List (Nat×bD))(recs:List Rec)(base:T AB)(fr:Fr)(st:St)(r:Fr×St),dO (run O G) os recs base fr st=some r->∃n,dO (cn O G n) os recs base fr st=some r
 |[],_,_,_,_,_,e=>⟨0,e⟩
 |(j,   o)::os,recs,base,fr,st,r,e=>by
  have ih:=T6 os;unfold dO at e;cases hw:cj fr o.guard with
  |none=>simp[hw]at e
  | some b=>cases b with
    |   false=>
        simp only[hw]at e;obtain⟨n,hn⟩:=ih _ _ _ _ _ e;exact⟨n,by unfold dO;simp only[hw];exact hn⟩
    |   true=>
        simp only[hw]at e;cases hx:e8 fr o.xs with
        |none=>simp[hx]at e
        |some xs=>
         simp only[hx]at e;cases hc:o.cls with
         |aI=>
          simp only[hc]at e;cases hs:bY (run O G) o.k xs st with
          |none=>simp[hs]at e
          | some p=>
            simp only[hs]at e;obtain⟨n,hn⟩:=ih _ _ _ _ _ e;obtain⟨m,hm⟩:=TZ hs;refine⟨max n m,?_⟩;unfold dO;simp only[hw,hx,hc,Lz (LA O G (Zi1 n m)) hm];exact Su (LA O G (Zj4 n m)) _ _ _ _ _ _ hn
         |new=>
          simp only[hc]at e;(split at e<;>first|(cases e;done)|skip);obtain⟨n,hn⟩:=ih _ _ _ _ _ e;refine⟨n,?_⟩;unfold dO;simp only[*]
         |pure=>
          simp only[hc]at e;split at e<;>(try split at e)<;>(try split at e)<;>first|(cases e;done)|skip
          all_goals
            obtain⟨n,hn⟩:=ih _ _ _ _ _ e;refine⟨n,?_⟩;unfold dO;simp only[*]
         |read=>
          simp only[hc]at e;split at e<;>(try split at e)<;>(try split at e)<;>first|(cases e;done)|skip
          all_goals
            obtain⟨n,hn⟩:=ih _ _ _ _ _ e;refine⟨n,?_⟩;unfold dO;simp only[*]
theorem W5:∀(n:Nat)(a:AC)(fr:Fr)(st:St)(r:jV×Fr×St),exec (run O G) n a fr st=some r->∃m,exec (cn O G m) n a fr st=some r
 |0,_,_,_,_,e=>by simp[exec]at e
 |n+    1,a,fr,st,r,e=>by
  have ih:=W5 n;have up:∀{m m':Nat}{a:AC}{fr:Fr}{st:St}{r:jV×Fr×St},m<=m'->exec (cn O G m) n a fr st=some r->exec (cn O G m') n a fr st=some r:=
   λh e=>QB (LA O G h) _ _ (Za3 _) _ _ _ _ e
  cases a<;>simp only[exec,bt]at e
  case skip=>exact⟨0,e⟩
  case exit=>exact⟨0,e⟩
  case ret=>exact⟨0,e⟩
  case region ops=>
   cases ho:jM (run O G) ops fr st with
   |none=>simp[ho]at e
   |    some p=>
        obtain⟨m,hm⟩:=OA _ _ _ _ ho;exact⟨m,by simp only[exec,bt,hm];simpa only[ho]using e⟩
  case draw ops=>
   cases ho:dO (run O G) ops [] st.heap fr st with
   |none=>simp[ho]at e
   |    some p=>
        obtain⟨m,hm⟩:=T6 _ _ _ _ _ _ ho;exact⟨m,by simp only[exec,bt,hm];simpa only[ho]using e⟩
  case seq a b=>
   cases ha:exec (run O G) n a fr st with
   |none=>simp[ha]at e
   |    some p=>
        obtain⟨ex,cD,aW⟩:=p;simp only[ha]at e;obtain⟨m,hm⟩:=ih _ _ _ _ ha;cases ex with
        |normal=>
         obtain⟨m',hm'⟩:=ih _ _ _ _ e;exact⟨max m m',by simp only[exec,bt,up (Zj4 m m') hm];exact up (Zi1 m m') hm'⟩
        |exit i=>exact⟨m,by simp only[exec,bt,hm];exact e⟩
        |ret=>exact⟨m,by simp only[exec,bt,hm];exact e⟩
  case cond x a b=>
   split at e
   .    rename_i hx;obtain⟨m,hm⟩:=ih _ _ _ _ e;exact⟨m,by simp only[exec,bt,hx];exact hm⟩
   .    rename_i hx;obtain⟨m,hm⟩:=ih _ _ _ _ e;exact⟨m,by simp only[exec,bt,hx];exact hm⟩
   .    cases e
  case block id a=>
   cases ha:exec (run O G) n a fr st with
   |none=>simp[ha]at e
   |    some p=>
        obtain⟨ex,cD,aW⟩:=p;simp only[ha]at e;obtain⟨m,hm⟩:=ih _ _ _ _ ha;exact⟨m,by simp only[exec,bt,hm];exact e⟩
  case loop a=>
   cases ha:exec (run O G) n a fr st with
   |none=>simp[ha]at e
   |    some p=>
        obtain⟨ex,cD,aW⟩:=p;simp only[ha]at e;obtain⟨m,hm⟩:=ih _ _ _ _ ha;cases ex with
        |normal=>
         obtain⟨m',hm'⟩:=ih _ _ _ _ e;exact⟨max m m',by simp only[exec,bt,up (Zj4 m m') hm];exact up (Zi1 m m') hm'⟩
        |exit i=>exact⟨m,by simp only[exec,bt,hm];exact e⟩
        |ret=>exact⟨m,by simp only[exec,bt,hm];exact e⟩
theorem ago{f:FuncId}{F:dB}{args:List AV}{st:St}{r:AV×St}{n:Nat}(ho:O f=none)(hF:G.get (key f)=some F)(h:uB (run O G) n F args st=some r):
   run O G f args st=some (tidy st r):=by
 unfold uB at h;split at h<;>first|(cases h;done)|skip
 rename_i hlen
 have fin:∀{ex fr st'},exec (run O G) n F.code (params 0 args .e) st=some (ex,fr,st')->(∀m k,exec (cn O G m) k F.code (params 0 args .e) st=some (ex,fr,st')->uB (cn O G m) k F args st=some r)->
    run O G f args st=some (tidy st r):=λh1 h2=>by
   obtain⟨m,hm⟩:=W5 _ _ _ _ _ h1;refine aeu (n:=max n m+1) ?_;unfold cn uC;simp only[ho,hF];have:=h2 m n hm;have h3:=abM (Sv O G (n:=m) (m:=max n m+1) (by have:=Zi1 n m;omega) m (max n m) (Zi1 n m)) (m:=max n m+1) (by have:=Zj4 n m;omega) this;rw[h3];rfl
 split at h<;>first|(cases h;done)|skip
 .rename_i h1;exact fin h1 λm k hk=>by unfold uB;simp only[hlen,hk];exact h
 .rename_i h1;exact fin h1 λm k hk=>by unfold uB;simp only[hlen,hk];exact h
theorem T7{f:FuncId}{s:List AV->St->Option (AV×St)}(ho:O f=some s){args:List AV}{st:St}{r:AV×St}(h:s args st=some r):run O G f args st=some r:=
 aeu (n:=1) (by unfold cn uC;simp only[ho];exact h)
theorem Wq{P:Program}{tt:TT}{C:Cells}(hm:P.follows .mixedOrders=true)(hT:cB P tt)(hO:rC P C O)(Ox:k8 O)(hG:Te P tt G):fG P C (run O G):=by intro ρ st w f args v st' bQ h hW rD;obtain⟨n,hn⟩:=Zw h;exact Ru hm hT hO Ox hG n n ρ st w f args v st' bQ hn hW rD
end
noncomputable section
open Go
inductive Sh where
 |leaf
 |seq (jn:Option (List Pos)) (a b:Sh)
 |cond (a b:Sh)
 |block (a:Sh)
 |loop (j:Nat) (ins:List Pos) (outs:List (Nat×List Pos)) (a:Sh)
variable{R:Type}
abbrev LpK(R:Type):=Nat->List AV->St->Option R
abbrev Env(R:Type):=Nat->LpK R->Nat->List AV->St->Option R
def eV(l:List AV)(k:AV->List AV->Option R):Option R:=match l with
 |v::vs=>k v vs
 |[]=>none
def gP(l:List AV)(k:Option R):Option R:=match l with
 |[]=>k
 |_::_=>none
def ai(c:ah)(k:ax)(xs:List AV)(st:St)(K:AV->St->Option R):Option R:=match bY c k xs st with
 |some (v,st')=>K v st'
 |none=>none
def bO(c:ah)(g:AV)(want:Bool)(k:ax)(xs:List AV)(st:St)(K:AV->St->Option R):Option R:=match g with
 |  .bool b=>match b==want with
    |true=>ai c k xs st K
    |false=>K .undef st
 |.tuple _=>K .undef st
 |_=>none
def dI(k:ax)(xs:List AV)(K:AV->Option R):Option R:=match k.run (λ_=>none) .h xs with
 |some (.val v)=>K v
 |_=>none
def Rv(g:AV)(want:Bool)(k:ax)(xs:List AV)(K:AV->Option R):Option R:=match g with
 |  .bool b=>match b==want with
    |true=>dI k xs K
    |false=>K .undef
 |.tuple _=>K .undef
 |_=>none
def fP(k:ax)(xs:List AV)(h:T AB)(ok:AV->Bool)(K:AV->Option R):Option R:=match k.run (λ_=>none) .h xs with
 |some (.val v)=>K v
 |  _=>match k.run (λb=>h.get b) .h xs with
    |some (.val v)=>match ok v with
     |true=>K v
     |false=>none
    |_=>none
def Rw(g:AV)(want:Bool)(k:ax)(xs:List AV)(h:T AB)(ok:AV->Bool)(K:AV->Option R):Option R:=match g with
 |  .bool b=>match b==want with
    |true=>fP k xs h ok K
    |false=>K .undef
 |.tuple _=>K .undef
 |_=>none
def Ry(k:ax)(xs:List AV)(st:St)(K:AV->AB->Option R):Option R:=match k.run (λ_=>none) st.next xs with
 |some (.aI v none none (some aA))=>K v aA
 |_=>none
def Rz(g:AV)(want:Bool)(A B:Option R):Option R:=match g with
 |  .bool b=>match b==want with
    |true=>A
    |false=>B
 |.tuple _=>B
 |_=>none
def OB(v:AV)(A B:Option R):Option R:=match v with
 |.bool true=>A
 |.bool false=>B
 |_=>none
def ki(f:(List AV->St->Option R)->Option R)(k:List AV->St->Option R):Option R:=f k
def Sw (c:ah):List bD->Fr->St->(Fr->St->Option R)->Option R
 |[],fr,st,K=>K fr st
 |  o::os,fr,st,K=>match e8 fr o.xs with
    |some xs=>match o.guard with
     |none=>ai c o.k xs st λv st=>Sw c os (dP fr o.dst v) st K
     |  some (p,want)=>match fr.get p with
        |some g=>bO c g want o.k xs st λv st=>Sw c os (dP fr o.dst v) st K
        |none=>none
    |none=>none
def nA (c:ah ):List (Nat×bD)->List Rec->T AB->Fr->St->(Fr->St->Option R)->Option R
 |[],_,_,fr,st,K=>K fr st
 |  (j, o):: os,recs,base,fr,st,K=>match e8 fr o.xs with
    | some xs=>match o.cls with
      | .pure=>match o.guard with
        |none=>dI o.k xs λv=>nA c os ({ idx:=j,o:=o,v:=v,c:= .pure,nx:=st.next }::recs) base (dP fr o.dst v) st K
        |some (p,want)=>match fr.get p with
         |some g=>Rv g want o.k xs λv=>nA c os ({ idx:=j,o:=o,v:=v,c:= .pure,nx:=st.next }::recs) base (dP fr o.dst v) st K
         |none=>none
      | .read=>match o.guard with
        |none=>fP o.k xs (snap o.bT base recs) (λv=>kU o.bT o.k xs v [] recs) λv=>nA c os ({ idx:=j,o:=o,v:=v,c:= .pure,nx:=st.next }::recs) base (dP fr o.dst v) st K
        |some (p,want)=>match fr.get p with
         |some g=>Rw g want o.k xs (snap o.bT base recs) (λv=>kU o.bT o.k xs v [] recs) λv=>nA c os ({ idx:=j,o:=o,v:=v,c:= .pure,nx:=st.next }::recs) base (dP fr o.dst v) st K
         |none=>none
      | .new=>match o.guard with
        |none=>Ry o.k xs st λv aA=>nA c os ({ idx:=j,o:=o,v:=v,c:= .new st.next aA,nx:=st.next.succ }::recs) base (dP fr o.dst v) { heap:=st.heap.put (some aA) st.next,next:=st.next.succ } K
        |some (p,want)=>match fr.get p with
         |some g=>Rz g want (Ry o.k xs st λv aA=>nA c os ({ idx:=j,o:=o,v:=v,c:= .new st.next aA,nx:=st.next.succ }::recs) base (dP fr o.dst v) { heap:=st.heap.put (some aA) st.next,next:=st.next.succ } K)
             (nA c os ({ idx:=j,o:=o,v:= .undef,c:= .pure,nx:=st.next }::recs) base (dP fr o.dst .undef) st K)
         |none=>none
      | .aI=>match o.guard with
        |none=>ai c o.k xs st λv st'=>nA c os ({ idx:=j,o:=o,v:=v,c:= .aI base st'.heap,nx:=st'.next }::recs) st'.heap (dP fr o.dst v) st' K
        |some (p,want)=>match fr.get p with
         |some g=>Rz g want (ai c o.k xs st λv st'=>nA c os ({ idx:=j,o:=o,v:=v,c:= .aI base st'.heap,nx:=st'.next }::recs) st'.heap (dP fr o.dst v) st' K)
             (nA c os ({ idx:=j,o:=o,v:= .undef,c:= .pure,nx:=st.next }::recs) base (dP fr o.dst .undef) st K)
         |none=>none
    |none=>none
def OC:List Pos->Fr->(List AV->Option R)->Option R
 |[],_,k=>k []
 |  p::ps,fr,k=>match fr.get p with
    |some v=>OC ps fr λvs=>k (v::vs)
    |none=>none
def OD:List Pos->List AV->Fr->(Fr->Option R)->Option R
 |[],vs,fr,k=>gP vs (k fr)
 |p::ps,vs,fr,k=>eV vs λv vs=>OD ps vs (fr.put (some v) p) k
def QC:List (Nat×List Pos)->Nat->List Pos
 |[],_=>[]
 |  (i,l)::r,e=>match Nat.beq i e with
    |true=>l
    |false=>QC r e
def exOf:Nat->jV
 |0=>.normal
 |1=>.ret
 |n+2=>.exit n
def JT(D:Fr->St->(jV->Fr->St->Option R)->Option R)(ins:List Pos)(outs:List (Nat×List Pos))(K':LpK R)(again:List AV->St->Option R)(vs:List AV)(st:St):Option R:=
 OD ins vs .e λfr=>D fr st λex fr st=>match ex with
    |.normal=>OC ins fr λvs=>again vs st
    |.exit i=>OC (QC outs (i+2)) fr λos=>K' (i+2) os st
    |.ret=>OC (QC outs 1) fr λos=>K' 1 os st
def knk(outs:List (Nat×List Pos))(K:jV->Fr->St->Option R):LpK R:=λe os st=>OD (QC outs e) os .e λfr=>K (exOf e) fr st
def den (c:ah)(F:Nat)(L:Env R):AC->Sh->Fr->St->(jV->Fr->St->Option R)->Option R
 |.skip,_,fr,st,K=>K .normal fr st
 |.region ops,_,fr,st,K=>Sw c ops fr st (K .normal)
 |.draw ops,_,fr,st,K=>nA c ops [] st.heap fr st (K .normal)
 |  .seq a b,s,fr,st,K=>match s with
    | .seq none s t=>den c F L a s fr st λex fr st=>match ex with
      |.normal=>den c F L b t fr st K
      |.exit i=>K (.exit i) fr st
      |.ret=>K .ret fr st
    | .seq (some l) s t=>ki (λK'=>den c F L a s fr st λex fr st=>match ex with
      |.normal=>OC l fr λvs=>K' vs st
      |.exit i=>K (.exit i) fr st
      |.ret=>K .ret fr st) (λvs st=>OD l vs .e λfr=>den c F L b t fr st K)
    |_=>none
 |  .cond x a b,s,fr,st,K=>match s with
    | .cond s t=>match C6 fr x with
      |some v=>OB v (den c F L a s fr st K) (den c F L b t fr st K)
      |none=>none
    |_=>none
 |  .block id a,s,fr,st,K=>match s with
    | .block s=>den c F L a s fr st λex fr st=>match ex with
      |.normal=>K .normal fr st
      | .exit i=>match Nat.beq i id with
        |true=>K .normal fr st
        |false=>K (.exit i) fr st
      |.ret=>K .ret fr st
    |_=>none
 |  .loop _,s,fr,st,K=>match s with
    |.loop j ins outs _=>OC ins fr λvs=>L j (knk outs K) F vs st
    |_=>none
 |.exit id,_,fr,st,K=>K (.exit id) fr st
 |.ret,_,fr,st,K=>K .ret fr st
def AN(c:ah)(F:Nat)(L:Env R)(a:AC):Sh->Prop
 |.loop j ins outs s=>∀K',(∀vs st,L j K' 0 vs st=none)/\∀n vs st,L j K' (n+1) vs st=JT (den c F L a s) ins outs K' (L j K' n) vs st
 |_=>False
def xD(c:ah)(F:Nat)(L:Env R):AC->Sh->Prop
 |  .seq a b,s=>match s with
    |.seq _ s t=>xD c F L a s/\xD c F L b t
    |_=>True
 |  .cond _ a b,s=>match s with
    |.cond s t=>xD c F L a s/\xD c F L b t
    |_=>True
 |  .block _ a,s=>match s with
    |.block s=>xD c F L a s
    |_=>True
 |  .loop a,s=>match s with
    |.loop j ins outs s=>AN c F L a (.loop j ins outs s)/\xD c F L a s
    |_=>True
 |_,_=>True
def fe:AC->Sh->List (AC×Sh)
 |  .seq a b,s=>match s with
    |.seq _ s t=>fe a s++fe b t
    |_=>[]
 |  .cond _ a b,s=>match s with
    |.cond s t=>fe a s++fe b t
    |_=>[]
 |  .block _ a,s=>match s with
    |.block s=>fe a s
    |_=>[]
 |  .loop a,s=>match s with
    |.loop j ins outs s=>(a,.loop j ins outs s)::fe a s
    |_=>[]
 |_,_=>[]
theorem Cz{c:ah}{F:Nat}{L:Env R}:∀(a:AC)(s:Sh),(∀x∈fe a s,AN c F L x.1 x.2)->xD c F L a s
 |.skip,_,_=>trivial
 |.region _,_,_=>trivial
 |.draw _,_,_=>trivial
 |.exit _,_,_=>trivial
 |.ret,_,_=>trivial
 | .seq a b,s,h=>by
   cases s<;>simp only[xD]<;>simp only[fe,Zd5]at h;exact⟨Cz a _ λx hx=>h x (.inl hx),Cz b _ λx hx=>h x (.inr hx)⟩
 | .cond x a b,s,h=>by
   cases s<;>simp only[xD]<;>simp only[fe,Zd5]at h;exact⟨Cz a _ λx hx=>h x (.inl hx),Cz b _ λx hx=>h x (.inr hx)⟩
 |.block id a,s,h=>by cases s<;>simp only[xD]<;>simp only[fe]at h;exact Cz a _ h
 | .loop a,s,h=>by
   cases s<;>simp only[xD]<;>simp only[fe,Za7]at h;exact⟨h _ (.inl rfl),Cz a _ λx hx=>h x (.inr hx)⟩
def Sub(a b:Fr):Prop:=∀p v,a.get p=some v->b.get p=some v
theorem Sub.refl(a:Fr):Sub a a:=λ_ _ h=>h
theorem Sub.put{a b:Fr}(h:Sub a b)(p:Pos)(v:AV):Sub (a.put (some v) p) (b.put (some v) p):=λq u hq=>by
 by_cases e:p=q
 .subst e;rw[T.eB]at hq ⊢; exact hq
 .rw[T.bH _ e]at hq ⊢; exact h _ _ hq
theorem Sub.dst{a b:Fr}(h:Sub a b)(d:Option Pos)(v:AV):Sub (dP a d v) (dP b d v):=by
 cases d with
 |none=>exact h
 |some p=>exact h.put p v
theorem Sub.ev{a b:Fr}(h:Sub a b){x:eZ}{v:AV}(e:C6 a x=some v):C6 b x=some v:=by
 cases x with
 |t p=>exact h _ _ e
 |c v=>exact e
theorem Sub.evs{a b:Fr}(h:Sub a b):∀{xs:List eZ}{vs:List AV},e8 a xs=some vs->e8 b xs=some vs
 |[],_,e=>e
 |x::xs,vs,e=>by
  unfold e8 at e ⊢;cases hx:C6 a x with
  |none=>simp[hx]at e
  |some v=>
   simp only[hx]at e;cases hs:e8 a xs with
   |none=>simp[hs]at e
   |some us=>simp only[hs]at e;simp only[h.ev hx,h.evs hs];exact e
theorem LB {c:ah}:∀(os:List bD){fr fj:Fr}{st:St}{K:Fr->St->Option R}{r:R},Sub fr fj->Sw c os fr st K=some r->
  ∃br dL st',jM c os fj st=some (dL,st')/\Sub br dL/\K br st'=some r
 |[],fr,fj,st,K,r,hs,h=>⟨fr,fj,st,rfl,hs,h⟩
 |o::os,fr,fj,st,K,r,hs,h=>by
  unfold Sw at h;cases hx:e8 fr o.xs with
  |none=>simp[hx]at h
  |some xs=>
   simp only[hx]at h;have hstp:∀{st},ai c o.k xs st (λv st=>Sw c os (dP fr o.dst v) st K)=some r->cj fj o.guard=some true->∃br dL st',jM c (o::os) fj st=some (dL,st')/\Sub br dL/\K br st'=some r:=λ{st} h hw=>by
        unfold ai at h;cases q8:bY c o.k xs st with
        |none=>simp[q8]at h
        |some p=>
         simp only[q8]at h;obtain⟨br,dL,st',h1,h2⟩:=LB os (hs.dst o.dst p.1) h;exact⟨br,dL,st',by unfold jM;simp only[hw,hs.evs hx,q8];exact h1,h2⟩
   have JU:∀{st},Sw c os (dP fr o.dst .undef) st K=some r->cj fj o.guard=some false->∃br dL st',jM c (o::os) fj st=some (dL,st')/\Sub br dL/\K br st'=some r:=λ{st} h hw=>by
        obtain⟨br,dL,st',h1,h2⟩:=LB os (hs.dst o.dst .undef) h;exact⟨br,dL,st',by unfold jM;simp only[hw];exact h1,h2⟩
   cases hg:o.guard with
   |none=>simp only[hg]at h;exact hstp h (by rw[hg];rfl)
   |    some pw=>
        obtain⟨p,want⟩:=pw;simp only[hg]at h;cases hp:fr.get p with
        |none=>simp[hp]at h
        |some g=>
         simp only[hp]at h;have AO:=hs _ _ hp;unfold bO at h;split at h
         .  rename_i b;split at h
            .rename_i hb;exact hstp h (by rw[hg];simp[cj,AO,hb])
            .rename_i hb;exact JU h (by rw[hg];simp[cj,AO,hb])
         .  exact JU h (by rw[hg];simp[cj,AO])
         .  cases h
theorem RA {c : ah}:∀(os:List (Nat×bD))(recs:List Rec)(base:T AB){fr fj:Fr}{st:St}{K:Fr->St->Option R}{r:R},Sub fr fj->nA c os recs base fr st K=some r->
  ∃br dL st',dO c os recs base fj st=some (dL,st')/\Sub br dL/\K br st'=some r
 |[],_,_,fr,fj,st,K,r,hs,h=>⟨fr,fj,st,rfl,hs,h⟩
 |(j,   o)::  os, recs,base,fr,fj,st,K,r,hs,h=>by
  have ih:=λrecs base {fr fj:Fr}{st:St}{K:Fr->St->Option R}{r:R}=>RA (c:=c) os recs base (fr:=fr) (fj:=fj) (st:=st) (K:=K) (r:=r)
  unfold nA at h;cases hx:e8 fr o.xs with
  |none=>simp[hx]at h
  | some xs   =>
    simp only[hx]at h;have TR:=hs.evs hx;have JU:∀{st},nA c os ({ idx:=j,o:=o,v:= .undef,c:= .pure,nx:=st.next }::recs) base (dP fr o.dst .undef) st K=some r->cj fj o.guard=some false->∃br dL st',dO c ((j,o)::os) recs base fj st=some (dL,st')/\Sub br dL/\K br st'=some r:=λ{st} h hw=>by
        obtain⟨br,dL,st',h1,h2⟩:=ih _ _ (hs.dst o.dst .undef) h;exact⟨br,dL,st',by unfold dO;simp only[hw];exact h1,h2⟩
    cases hc:o.cls with
    |   pure=>
        simp only[hc]at h;have OE:dI o.k xs (λv=>nA c os ({ idx:=j,o:=o,v:=v,c:= .pure,nx:=st.next }::recs) base (dP fr o.dst v) st K)=some r->cj fj o.guard=some true->∃br dL st',dO c ((j,o)::os) recs base fj st=some (dL,st')/\Sub br dL/\K br st'=some r:=λh hw=>by
         unfold dI at h;split at h
         .  rename_i v hv;obtain⟨br,dL,st',h1,h2⟩:=ih _ _ (hs.dst o.dst v) h;exact⟨br,dL,st',by unfold dO;simp only[hw,TR,hc,hv];exact h1,h2⟩
         .  cases h
        cases hg:o.guard with
        |none=>simp only[hg]at h;exact OE h (by rw[hg];rfl)
        |some pw=>
         obtain⟨p,want⟩:=pw;simp only[hg]at h;cases hp:fr.get p with
         |none=>simp[hp]at h
         |  some g=>
            simp only[hp]at h;have AO:=hs _ _ hp;unfold Rv at h;split at h
            . split at h
              .rename_i hb;exact OE h (by rw[hg];simp[cj,AO,hb])
              .rename_i hb;exact JU h (by rw[hg];simp[cj,AO,hb])
            .exact JU h (by rw[hg];simp[cj,AO])
            .cases h
    |   read=>
        simp only[hc]at h;have OE : fP o.k xs (snap o.bT base recs) (λv=>kU o.bT o.k xs v [] recs) (λv=>nA c os ({ idx:=j,o:=o,v:=v,c:= .pure,nx:=st.next }::recs) base (dP fr o.dst v) st K)=some r->cj fj o.guard=some true->∃br dL st',dO c ((j,o)::os) recs base fj st=some (dL,st')/\Sub br dL/\K br st'=some r:=λh hw=>by
         unfold fP at h;split at h
         .  rename_i v hv;obtain⟨br,dL,st',h1,h2⟩:=ih _ _ (hs.dst o.dst v) h;exact⟨br,dL,st',by unfold dO;simp only[hw,TR,hc,hv];exact h1,h2⟩
         .  rename_i kH;split at h
            . rename_i v hv;split at h
              . rename_i cQ;obtain⟨br,dL,st',h1,h2⟩:=ih _ _ (hs.dst o.dst v) h;refine⟨br,dL,st',?_,h2⟩;unfold dO;simp only[hw,TR,hc];cases hr:o.k.run (λ_=>none) .h xs with
                |none=>simp only[hv,cQ];exact h1
                | some x=>cases x with
                  |val u=>exact absurd hr (kH u)
                  |aI v d e n=>simp only[hv,cQ];exact h1
                  |call f xs=>simp only[hv,cQ];exact h1
              .cases h
            .cases h
        cases hg:o.guard with
        |none=>simp only[hg]at h;exact OE h (by rw[hg];rfl)
        |some pw=>
         obtain⟨p,want⟩:=pw;simp only[hg]at h;cases hp:fr.get p with
         |none=>simp[hp]at h
         |  some g=>
            simp only[hp]at h;have AO:=hs _ _ hp;unfold Rw at h;split at h
            . split at h
              .rename_i hb;exact OE h (by rw[hg];simp[cj,AO,hb])
              .rename_i hb;exact JU h (by rw[hg];simp[cj,AO,hb])
            .exact JU h (by rw[hg];simp[cj,AO])
            .cases h
    |   new =>
        simp only[hc]at h;have OE:Ry o.k xs st (λv aA=>nA c os ({ idx:=j,o:=o,v:=v,c:= .new st.next aA,nx:=st.next.succ }::recs) base (dP fr o.dst v) { heap:=st.heap.put (some aA) st.next,next:=st.next.succ } K)=some r->cj fj o.guard=some true->∃br dL st',dO c ((j,o)::os) recs base fj st=some (dL,st')/\Sub br dL/\K br st'=some r:=λh hw=>by
         unfold Ry at h;split at h
         .  rename_i v aA hv;obtain⟨br,dL,st',h1,h2⟩:=ih _ _ (hs.dst o.dst v) h;exact⟨br,dL,st',by unfold dO;simp only[hw,TR,hc,hv];exact h1,h2⟩
         .  cases h
        cases hg:o.guard with
        |none=>simp only[hg]at h;exact OE h (by rw[hg];rfl)
        |some pw=>
         obtain⟨p,want⟩:=pw;simp only[hg]at h;cases hp:fr.get p with
         |none=>simp[hp]at h
         |  some g=>
            simp only[hp]at h;have AO:=hs _ _ hp;unfold Rz at h;split at h
            . split at h
              .rename_i hb;exact OE h (by rw[hg];simp[cj,AO,hb])
              .rename_i hb;exact JU h (by rw[hg];simp[cj,AO,hb])
            .exact JU h (by rw[hg];simp[cj,AO])
            .cases h
    |   aI=>
        simp only[hc]at h;have OE:ai c o.k xs st (λv st'=>nA c os ({ idx:=j,o:=o,v:=v,c:= .aI base st'.heap,nx:=st'.next }::recs) st'.heap (dP fr o.dst v) st' K)=some r->cj fj o.guard=some true->∃br dL st',dO c ((j,o)::os) recs base fj st=some (dL,st')/\Sub br dL/\K br st'=some r:=λh hw=>by
         unfold ai at h;cases q8:bY c o.k xs st with
         |none=>simp[q8]at h
         |  some p=>
            simp only[q8]at h;obtain⟨br,dL,st',h1,h2⟩:=ih _ _ (hs.dst o.dst p.1) h;exact⟨br,dL,st',by unfold dO;simp only[hw,TR,hc,q8];exact h1,h2⟩
        cases hg:o.guard with
        |none=>simp only[hg]at h;exact OE h (by rw[hg];rfl)
        |some pw=>
         obtain⟨p,want⟩:=pw;simp only[hg]at h;cases hp:fr.get p with
         |none=>simp[hp]at h
         |  some g=>
            simp only[hp]at h;have AO:=hs _ _ hp;unfold Rz at h;split at h
            . split at h
              .rename_i hb;exact OE h (by rw[hg];simp[cj,AO,hb])
              .rename_i hb;exact JU h (by rw[hg];simp[cj,AO,hb])
            .exact JU h (by rw[hg];simp[cj,AO])
            .cases h
def Has:List Pos->List AV->Fr->Prop
 |[],[],_=>True
 |p::ps,v::vs,fr=>fr.get p=some v/\Has ps vs fr
 |_,_,_=>False
theorem Has.sub{a b:Fr}(hs:Sub a b):∀{ps:List Pos}{vs:List AV},Has ps vs a->Has ps vs b
 |[],[],_=>trivial
 |[],_::_,h=>h
 |_::_,[],h=>h
 |_::_,_::_,h=>⟨hs _ _ h.1,Has.sub hs h.2⟩
theorem zE:∀{ps:List Pos}{fr:Fr}{k:List AV->Option R}{r:R},OC ps fr k=some r->∃vs,Has ps vs fr/\k vs=some r
 |[],_,_,_,h=>⟨[],trivial,h⟩
 |p::ps,fr,k,r,h=>by
  unfold OC at h;cases hp:fr.get p with
  |none=>simp[hp]at h
  |some v=>
   simp only[hp]at h;obtain⟨vs,h1,h2⟩:=zE h;exact⟨v::vs,⟨hp,h1⟩,h2⟩
theorem Dd:∀{ps:List Pos}{vs:List AV}{fr fj:Fr}{k:Fr->Option R}{r:R},OD ps vs fr k=some r->Has ps vs fj->Sub fr fj->∃br,Sub br fj/\k br=some r
 |[],vs,fr,fj,k,r,h,_,hs=>by
  unfold OD gP at h;split at h
  .exact⟨fr,hs,h⟩
  .cases h
 |p::ps,[],fr,fj,k,r,h,hh,hs=>by simp[OD,eV]at h
 |p::ps,v::vs,fr,fj,k,r,h,hh,hs=>by
  unfold OD eV at h;refine Dd h hh.2 λq u hq=> ?_
  by_cases e:p=q
  .subst e;rw[T.eB]at hq;cases hq;exact hh.1
  .rw[T.bH _ e]at hq;exact hs _ _ hq
theorem Fm{c:ah}{n m:Nat}(h:n<=m){a:AC}{fr:Fr}{st:St}{r:jV×Fr×St}(e:exec c n a fr st=some r):exec c m a fr st=some r:=QB (Rt.refl c) n m h _ _ _ _ e
theorem oK{c:ah}{F:Nat}{L:Env R}:∀(a:AC)(s:Sh),xD c F L a s->∀{fr fj:Fr}{st:St}{K:jV->Fr->St->Option R}{r:R},Sub fr fj->den c F L a s fr st K=some r->
   ∃n ex br dL st',exec c n a fj st=some (ex,dL,st')/\Sub br dL/\K ex br st'=some r
 |.skip,s,_,fr,fj,st,K,r,hs,h=>⟨1,.normal,fr,fj,st,rfl,hs,by simpa [den]using h⟩
 |.exit id,s,_,fr,fj,st,K,r,hs,h=>⟨1,.exit id,fr,fj,st,rfl,hs,by simpa [den]using h⟩
 |.ret,s,_,fr,fj,st,K,r,hs,h=>⟨1,.ret,fr,fj,st,rfl,hs,by simpa [den]using h⟩
 | .region ops,s,_,fr,fj,st,K,r,hs,h=>by
   simp only[den]at h;obtain⟨br,dL,st',h1,h2,h3⟩:=LB ops hs h;exact⟨1,.normal,br,dL,st',by simp only[exec,bt,h1],h2,h3⟩
 | .draw ops,s,_,fr,fj,st,K,r,hs,h=>by
   simp only[den]at h;obtain⟨br,dL,st',h1,h2,h3⟩:=RA ops _ _ hs h;exact⟨1,.normal,br,dL,st',by simp only[exec,bt,h1],h2,h3⟩
 | .seq a b,s,cQ,fr,fj,st,K,r,hs,h=>by
   (cases s<;>simp only[den]at h<;>first|(cases h;done)|skip);rename_i jn s t;simp only[xD]at cQ;cases jn with
   |none=>
    simp only at h;obtain⟨n,ex,cD,tV,aW,h1,h2,h3⟩:=oK a s cQ.1 hs h;cases ex with
    |   normal=>
        obtain⟨m,ex,wN,Zx,kY,k1,k2,k3⟩:=oK b t cQ.2 h2 h3;exact⟨max n m+1,ex,wN,Zx,kY,by simp only[exec,bt,Fm (Zj4 n m) h1];exact Fm (Zi1 n m) k1,k2,k3⟩
    |exit i=>exact⟨n+1,.exit i,cD,tV,aW,by simp only[exec,bt,h1],h2,h3⟩
    |ret=>exact⟨n+1,.ret,cD,tV,aW,by simp only[exec,bt,h1],h2,h3⟩
   |some l=>
    simp only[ki]at h;obtain⟨n,ex,cD,tV,aW,h1,h2,h3⟩:=oK a s cQ.1 hs h;cases ex with
    |   normal=>
        obtain⟨vs,g1,g2⟩:=zE h3;obtain⟨br,g3,g4⟩:=Dd g2 (Has.sub h2 g1) (λp v hp=>by rw[T.ej]at hp;cases hp);obtain⟨m,ex,wN,Zx,kY,k1,k2,k3⟩:=oK b t cQ.2 g3 g4;exact⟨max n m+1,ex,wN,Zx,kY,by simp only[exec,bt,Fm (Zj4 n m) h1];exact Fm (Zi1 n m) k1,k2,k3⟩
    |exit i=>exact⟨n+1,.exit i,cD,tV,aW,by simp only[exec,bt,h1],h2,h3⟩
    |ret=>exact⟨n+1,.ret,cD,tV,aW,by simp only[exec,bt,h1],h2,h3⟩
 | .cond x a b,s,cQ,fr,fj,st,K,r,hs,h=>by
   (cases s<;>simp only[den]at h<;>first|(cases h;done)|skip);simp only[xD]at cQ;cases hx:C6 fr x with
   |none=>simp[hx]at h
   |some v=>
    simp only[hx]at h;unfold OB at h;split at h
    .   obtain⟨n,ex,cD,tV,aW,h1,h2,h3⟩:=oK a _ cQ.1 hs h;exact⟨n+1,ex,cD,tV,aW,by simp only[exec,bt,hs.ev hx];exact h1,h2,h3⟩
    .   obtain⟨n,ex,cD,tV,aW,h1,h2,h3⟩:=oK b _ cQ.2 hs h;exact⟨n+1,ex,cD,tV,aW,by simp only[exec,bt,hs.ev hx];exact h1,h2,h3⟩
    .   cases h
 | .block id a,s,cQ,fr,fj,st,K,r,hs,h=>by
   (cases s<;>simp only[den]at h<;>first|(cases h;done)|skip);simp only[xD]at cQ;obtain⟨n,ex,cD,tV,aW,h1,h2,h3⟩:=oK a _ cQ hs h;cases ex with
   |normal=>exact⟨n+1,.normal,cD,tV,aW,by simp only[exec,bt,h1],h2,h3⟩
   |ret=>exact⟨n+1,.ret,cD,tV,aW,by simp only[exec,bt,h1],h2,h3⟩
   |exit i=>
    simp only at h3;cases hb:Nat.beq i id with
    |true=>simp only[hb]at h3;exact⟨n+1,.normal,cD,tV,aW,by simp only[exec,bt,h1,hb],h2,h3⟩
    |false=>simp only[hb]at h3;exact⟨n+1,.exit i,cD,tV,aW,by simp only[exec,bt,h1,hb],h2,h3⟩
 | .loop a,s,cQ,fr,fj,st,K,r,hs,h=>by
   (cases s<;>simp only[den]at h<;>first|(cases h;done)|skip);rename_i j ins outs s;simp only[xD,AN]at cQ;obtain⟨akq,cQ⟩:=cQ;obtain⟨vs,g1,g2⟩:=zE h;obtain⟨hz,hsu⟩:=akq (knk outs K)
   have main:∀(n:Nat)(vs:List AV)(st:St)(fj:Fr),Has ins vs fj->L j (knk outs K) n vs st=some r->
        ∃m ex br dL st',exec c m (.loop a) fj st=some (ex,dL,st')/\Sub br dL/\K ex br st'=some r:=by
    intro n;induction n with
    |zero=>intro vs st fj _ h;rw[hz]at h;cases h
    |   succ n ihn=>
        intro vs st fj hh h;rw[hsu]at h;unfold JT at h;obtain⟨cE,q1,q2⟩:=Dd h hh (λp v hp=>by rw[T.ej]at hp;cases hp);obtain⟨m,ex,cD,tV,aW,h1,h2,h3⟩:=oK a s cQ q1 q2;cases ex with
        |normal=>
         obtain⟨us,p1,p2⟩:=zE h3;obtain⟨m',ex,wN,Zx,kY,k1,k2,k3⟩:=ihn us aW tV (Has.sub h2 p1) p2;exact⟨max m m'+1,ex,wN,Zx,kY,by simp only[exec,bt,Fm (Zj4 m m') h1];exact Fm (Zi1 m m') k1,k2,k3⟩
        |exit i=>
         obtain⟨os,p1,p2⟩:=zE h3;obtain⟨wN,p3,p4⟩:=Dd p2 (Has.sub h2 p1) (λp v hp=>by rw[T.ej]at hp;cases hp);exact⟨m+1,.exit i,wN,tV,aW,by simp only[exec,bt,h1],p3,p4⟩
        |ret=>
         obtain⟨os,p1,p2⟩:=zE h3;obtain⟨wN,p3,p4⟩:=Dd p2 (Has.sub h2 p1) (λp v hp=>by rw[T.ej]at hp;cases hp);exact⟨m+1,.ret,wN,tV,aW,by simp only[exec,bt,h1],p3,p4⟩
   exact main F vs st fj (Has.sub hs g1) g2
def Sx:(H:Pos->Option AB)->Fr->List C0->(List AV->Option R)->Option R
 |_,_,[],k=>k []
 |  H,fr,.tmp p::rs,k=>match fr.get p with
    |some v=>Sx H fr rs λvs=>k (v::vs)
    |none=>none
 |  H,fr,.cell p n::rs,k=>match fr.get p with
    |some q=>match (ax.load n).run H .h [q]with
     |some (.val v)=>Sx H fr rs λvs=>k (v::vs)
     |_=>none
    |none=>none
def ldr(n:Option Nat)(q:AV)(st:St)(K:AV->Option R):Option R:=match (ax.load n).run (λb=>st.heap.get b) .h [q]with
 |some (.val v)=>K v
 |_=>none
theorem HT{H:Pos->Option AB}{fr fj:Fr}(hs:Sub fr fj):∀{rs:List C0}{k:List AV->Option R}{r:R},Sx H fr rs k=some r->∃vs,dA H fj rs=some vs/\k vs=some r
 |[],k,r,h=>⟨[],rfl,h⟩
 | .tmp p::rs,k,r,h=>by
   unfold Sx at h;cases hp:fr.get p with
   |none=>simp[hp]at h
   |some v=>
    simp only[hp]at h;obtain⟨vs,h1,h2⟩:=HT hs h;exact⟨v::vs,by unfold dA;simp only[hs _ _ hp,h1],h2⟩
 | .cell p n::rs,k,r,h=>by
   unfold Sx at h;cases hp:fr.get p with
   |none=>simp[hp]at h
   |some q=>
    simp only[hp]at h;split at h
    .   rename_i v hv;obtain⟨vs,h1,h2⟩:=HT hs h;exact⟨v::vs,by unfold dA;simp only[hs _ _ hp,hv,h1],h2⟩
    .   cases h
def DO(c:ah)(F:Nat)(L:Env (AV×St))(A:dB)(s:Sh)(args:List AV)(st:St):Option (AV×St):=
 match Nat.beq args.length A.nparams with
 |  true=>den c F L A.code s (params 0 args .e) st λex fr st=>match ex with
    |.normal=>Sx (λb=>st.heap.get b) fr A.results λvs=>some (iq vs,st)
    |.ret=>Sx (λb=>st.heap.get b) fr A.results λvs=>some (iq vs,st)
    |.exit _=>none
 |false=>none
theorem agp{O:ff}{G:T dB}{F:Nat}{L:Env (AV×St)}{f:FuncId}{A:dB}{s:Sh}{args:List AV}{st:St}{r:AV×St}(ho:O f=none)(hF:G.get (key f)=some A)
  (hL:∀x∈fe A.code s,AN (run O G) F L x.1 x.2) (h:DO (run O G) F L A s args st=some r):run O G f args st=some (tidy st r):=by
 unfold DO at h;split at h<;>first|(cases h;done)|skip
 rename_i hlen;obtain⟨n,ex,br,dL,st',h1,h2,h3⟩:=oK A.code s (Cz _ _ hL) (Sub.refl _) h;refine ago (n:=n) ho hF ?_;unfold uB;simp only[hlen,h1];cases ex with
 |normal=>
  obtain⟨vs,k1,k2⟩:=HT h2 h3;simp only[k1];exact k2
 |ret=>
  obtain⟨vs,k1,k2⟩:=HT h2 h3;simp only[k1];exact k2
 |exit i=>cases h3
def af(st:St)(b:AB):St:={ heap:=st.heap.put (some b) st.next,next:=st.next.succ }
def Yw{R:Type}:List (Nat×(LpK R->Nat->List AV->St->Option R))->Env R
 |[]=>λ_ _ _ _ _=>none
 |  (i,g)::l=>λj K n=>match Nat.beq i j with
    |true=>g K n
    |false=>Yw l j K n
def gj(A:dB)(s:Sh)(i:Nat):AC×Sh:=(fe A.code s).getD i (.skip,.leaf)
theorem agq{R:Type}{c:ah}{F:Nat}{L:Env R}{A:dB}{s:Sh}(n:Nat)(hn:Nat.beq (fe A.code s).length n=true)(h:∀i,i<n->AN c F L (gj A s i).1 (gj A s i).2):
  ∀x∈fe A.code s,AN c F L x.1 x.2:=by
 intro x hx;obtain⟨i,hi,he⟩:=Zg9.1 hx;have hn:=H4 hn;have:=h i (by omega);unfold gj at this;rw[Zc1,H1 hi]at this;simp only[Zf1,he]at this;exact this
def Vn:Sh->Bool
 |.loop _ _ _ _=>true
 |_=>false
def lpJ:Sh->Nat
 |.loop j _ _ _=>j
 |_=>0
def lpI:Sh->List Pos
 |.loop _ i _ _=>i
 |_=>[]
def lpO:Sh->List (Nat×List Pos)
 |.loop _ _ o _=>o
 |_=>[]
def lpB:Sh->Sh
 |.loop _ _ _ s=>s
 |_=>.leaf
theorem mZ{R:Type}{c:ah}{F:Nat}{L:Env R}{A:dB}{sh:Sh}{i:Nat}(j:Nat)(hs:(Vn (gj A sh i).2&&Nat.beq (lpJ (gj A sh i).2) j)=true)(h0:∀K' vs st,L j K' 0 vs st=none)
  (h1:∀K' n vs st,L j K' (n+1) vs st=JT (den c F L (gj A sh i).1 (lpB (gj A sh i).2)) (lpI (gj A sh i).2) (lpO (gj A sh i).2) K' (L j K' n) vs st):AN c F L (gj A sh i).1 (gj A sh i).2:=by
 generalize (gj A sh i).1=a at*
 generalize (gj A sh i).2=t at*
 cases t with
 |loop j' ins outs s=>
  simp only[Vn,lpJ,Ze4]at hs;obtain rfl:=H4 hs;exact λK'=>⟨h0 K',h1 K'⟩
 |_=>simp[Vn]at hs
end
end Go.Ai
section
namespace Go.Ai
open Go
theorem cV(k:IntKind):Fq k k=true:=by cases k<;>rfl
theorem ke(a b:Int):yK a b=decide (a=b):=by rw[mU];rfl
theorem fk(a b:List Nat):ja a b=decide (a=b):=by rw[Zk5,jX];simp
theorem wrap64{x:Int}(h1: -9223372036854775808<=x)(h2:x<=9223372036854775807):au .i64 x=x:=by
 unfold au Wr Ws;simp only;split
 . split
   .rfl
   .contradiction
 .contradiction
theorem aia{x:Int}(h1:0<=x)(h2:x<=255):au .u8 x=x:=by
 unfold au Wr Ws;simp only;split
 . split
   .rfl
   .contradiction
 .contradiction
theorem eM(k:IntKind)(n:Nat):uU (.int k (n:Int))=some n:=id rfl
theorem cF(a b:Nat):Nat.ble a b=decide (a<=b):=by apply Zk5.2;simp
theorem EW(a b:Nat):Nat.blt a b=decide (a<b):=by apply Zk5.2;simp[Nat.blt,Nat.ble_eq];omega
theorem cW(a b:Nat):Nat.beq a b=decide (a=b):=by apply Zk5.2;simp
def oZ{R:Type}(o:Option AV)(k:AV->Option R):Option R:=match o with
 |some v=>k v
 |none=>none
def DP{R:Type}(o:Option (List AV))(k:List AV->Option R):Option R:=match o with
 |some v=>k v
 |none=>none
def OG{R:Type}(o:Option (AV×St))(k:AV->St->Option R):Option R:=match o with
 |some (v,st)=>k v st
 |none=>none
section
variable{R:Type}(c:ah)(K:AV->St->Option R)(K1:AV->Option R)(A B:Option R)
@[simp] theorem bP(v:AV)(k:AV->Option R):oZ (some v) k=k v:=id rfl
@[simp] theorem De(v:List AV)(k:List AV->Option R):DP (some v) k=k v:=id rfl
@[simp] theorem aJ(v:AV)(st:St)(k:AV->St->Option R):OG (some (v,st)) k=k v st:=id rfl
@[simp] theorem bk:OB (.bool true) A B=A:=id rfl
@[simp] theorem bG:OB (.bool false) A B=B:=id rfl
@[simp] theorem aE(v:AV)(vs:List AV)(k:AV->List AV->Option R):eV (v::vs) k=k v vs:=id rfl
@[simp] theorem aH(k:Option R):gP [] k=k:=id rfl
theorem fo(f:(List AV->St->Option R)->Option R)(k:List AV->St->Option R):ki f k=f k:=id rfl
@[simp] theorem bN(b:Bool)(k:ax)(xs:List AV)(st:St):bO c (.bool b) b k xs st K=ai c k xs st K:=by cases b<;>exact id rfl
@[simp] theorem l7(k:ax)(xs:List AV)(st:St):bO c (.bool true) false k xs st K=K .undef st:=id rfl
@[simp] theorem OH(k:ax)(xs:List AV)(st:St):bO c (.bool false) true k xs st K=K .undef st:=id rfl
@[simp] theorem nc(b:Bool)(k:ax)(xs:List AV)(st:St):bO c .undef b k xs st K=K .undef st:=id rfl
@[simp] theorem ala(b:Bool)(k:ax)(xs:List AV):Rv (.bool b) b k xs K1=dI k xs K1:=by cases b<;>exact id rfl
@[simp] theorem gpr_tf(k:ax)(xs:List AV):Rv (.bool true) false k xs K1=K1 .undef:=id rfl
@[simp] theorem gpr_ft(k:ax)(xs:List AV):Rv (.bool false) true k xs K1=K1 .undef:=id rfl
@[simp] theorem gpr_un(b:Bool)(k:ax)(xs:List AV):Rv .undef b k xs K1=K1 .undef:=id rfl
@[simp] theorem alb(b:Bool)(k:ax)(xs:List AV)(h:T AB)(ok:AV->Bool):Rw (.bool b) b k xs h ok K1=fP k xs h ok K1:=by cases b<;>exact id rfl
@[simp] theorem grd_tf(k:ax)(xs:List AV)(h:T AB)(ok:AV->Bool):Rw (.bool true) false k xs h ok K1=K1 .undef:=id rfl
@[simp] theorem grd_ft(k:ax)(xs:List AV)(h:T AB)(ok:AV->Bool):Rw (.bool false) true k xs h ok K1=K1 .undef:=id rfl
@[simp] theorem grd_un(b:Bool)(k:ax)(xs:List AV)(h:T AB)(ok:AV->Bool):Rw .undef b k xs h ok K1=K1 .undef:=id rfl
@[simp] theorem alc(b:Bool):Rz (.bool b) b A B=A:=by cases b<;>exact id rfl
@[simp] theorem wnt_tf:Rz (.bool true) false A B=B:=id rfl
@[simp] theorem wnt_ft:Rz (.bool false) true A B=B:=id rfl
@[simp] theorem wnt_un(b:Bool):Rz .undef b A B=B:=id rfl
theorem Df{k:ax}{xs:List AV}{o:Option AV}(h:∀H n,k.run H n xs=o.map .val)(st:St):ai c k xs st K=oZ o λv=>K v st:=by unfold ai bY;rw[h];cases o<;>rfl
theorem T8{k:ax}{xs:List AV}{o:Option AV}(h:∀H n,k.run H n xs=o.map .val):dI k xs K1=oZ o K1:=by unfold dI;rw[h];cases o<;>rfl
theorem aP{k:ax}{xs:List AV}{v:AV}(h:∀H n,k.run H n xs=some (.val v))(st:St):ai c k xs st K=K v st:=by
 unfold ai bY;rw[h]
theorem cM{k:ax}{xs:List AV}{v:AV}(h:∀H n,k.run H n xs=some (.val v)):dI k xs K1=K1 v:=by
 unfold dI;rw[h]
theorem aK(f:FuncId)(l:List AV)(st:St):ai c (.callF f) l st K=OG (c f l st) K:=by unfold ai bY;show(match c f l st with|some (v,st')=>K v st'|none=>none)=_;cases c f l st<;>rfl
theorem zF(f:FuncId)(l u v:List AV)(st:St):ai c .callV (.func f u v::l) st K=OG (c f (u++(l++v)) st) K:=by unfold ai bY;show(match c f (u++(l++v)) st with|some (v,st')=>K v st'|none=>none)=_;cases c f (u++(l++v)) st<;>rfl
attribute [simp] aK zF
end
def cellsOf:Option AB->Option (List AV)
 |some (.cells cs _)=>some cs
 |some (.typed _ cs)=>some cs
 |_=>none
@[simp] theorem ajr(t:TypeId)(cs:List AV):cellsOf (some (.typed t cs))=some cs:=id rfl
@[simp] theorem aF(cs:List AV)(f:Nat):cellsOf (some (.cells cs f))=some cs:=id rfl
def ro(es:Nat)(z:Bool)(rs:List (List AV)):AV:=match z,rs with
 |true,[]=>.av
 |_,rs=>.fl rs es
theorem abN{es:Nat}{z:Bool}{rs:List (List AV)}(h:rs≠[]):ro es z rs= .fl rs es:=by
 unfold ro;split
 .exact absurd rfl h
 .rfl
theorem run_move(H:Pos->Option AB)(n:Pos)(x:AV):ax.run H n .move [x]=some (.val x):=rfl
@[simp] theorem aj{R:Type}(c:ah)(K:AV->St->Option R)(st:St)(x:AV):ai c .move [x] st K=K x st:=aP c K (λH n=>run_move H n x) st
@[simp] theorem gJ{R:Type}(K:AV->Option R)(x:AV):dI .move [x] K=K x:=cM K (λH n=>run_move H n x)
theorem T9(H:Pos->Option AB)(n:Pos)(x y:AV):ax.run H n .pick [.bool true,x,y]=some (.val x):=rfl
@[simp] theorem cr{R:Type}(c:ah)(K:AV->St->Option R)(st:St)(x y:AV):ai c .pick [.bool true,x,y] st K=K x st:=aP c K (λH n=>T9 H n x y) st
@[simp] theorem akr{R:Type}(K:AV->Option R)(x y:AV):dI .pick [.bool true,x,y] K=K x:=cM K (λH n=>T9 H n x y)
theorem Ua(H:Pos->Option AB)(n:Pos)(x y:AV):ax.run H n .pick [.bool false,x,y]=some (.val y):=rfl
@[simp] theorem aZ{R:Type}(c:ah)(K:AV->St->Option R)(st:St)(x y:AV):ai c .pick [.bool false,x,y] st K=K y st:=aP c K (λH n=>Ua H n x y) st
@[simp] theorem aks{R:Type}(K:AV->Option R)(x y:AV):dI .pick [.bool false,x,y] K=K y:=cM K (λH n=>Ua H n x y)
theorem abO(H:Pos->Option AB)(n:Pos)(p:Bool):ax.run H n (.un .not) [.bool p]=some (.val (.bool (!p))):=rfl
@[simp] theorem eC{R:Type}(c:ah)(K:AV->St->Option R)(st:St)(p:Bool):ai c (.un .not) [.bool p] st K=K (.bool (!p)) st:=aP c K (λH n=>abO H n p) st
@[simp] theorem ald{R:Type}(K:AV->Option R)(p:Bool):dI (.un .not) [.bool p] K=K (.bool (!p)):=cM K (λH n=>abO H n p)
theorem abP(H:Pos->Option AB)(n:Pos)(q:gp)(k:IntKind)(a b:Int):ax.run H n (.bin .lss q) [.int k a,.int k b]=some (.val (.bool (decide (a<b)))):=by simp[ax.run,fI,jT,cV,ke,eJ,iP,fk]
@[simp] theorem aU{R:Type}(c:ah)(K:AV->St->Option R)(st:St)(q:gp)(k:IntKind)(a b:Int):ai c (.bin .lss q) [.int k a,.int k b] st K=K (.bool (decide (a<b))) st:=aP c K (λH n=>abP H n q k a b) st
@[simp] theorem abQ{R:Type}(K:AV->Option R)(q:gp)(k:IntKind)(a b:Int):dI (.bin .lss q) [.int k a,.int k b] K=K (.bool (decide (a<b))):=cM K (λH n=>abP H n q k a b)
theorem abR(H:Pos->Option AB)(n:Pos)(q:gp)(k:IntKind)(a b:Int):ax.run H n (.bin .leq q) [.int k a,.int k b]=some (.val (.bool (decide (a<=b)))):=by simp[ax.run,fI,jT,cV,ke,eJ,iP,fk]
@[simp] theorem Vo{R:Type}(c:ah)(K:AV->St->Option R)(st:St)(q:gp)(k:IntKind)(a b:Int):ai c (.bin .leq q) [.int k a,.int k b] st K=K (.bool (decide (a<=b))) st:=aP c K (λH n=>abR H n q k a b) st
@[simp] theorem ale{R:Type}(K:AV->Option R)(q:gp)(k:IntKind)(a b:Int):dI (.bin .leq q) [.int k a,.int k b] K=K (.bool (decide (a<=b))):=cM K (λH n=>abR H n q k a b)
theorem abS(H:Pos->Option AB)(n:Pos)(q:gp)(k:IntKind)(a b:Int):ax.run H n (.bin .gtr q) [.int k a,.int k b]=some (.val (.bool (decide (b<a)))):=by simp[ax.run,fI,jT,cV,ke,eJ,iP,fk]
@[simp] theorem gF{R:Type}(c:ah)(K:AV->St->Option R)(st:St)(q:gp)(k:IntKind)(a b:Int):ai c (.bin .gtr q) [.int k a,.int k b] st K=K (.bool (decide (b<a))) st:=aP c K (λH n=>abS H n q k a b) st
@[simp] theorem alf{R:Type}(K:AV->Option R)(q:gp)(k:IntKind)(a b:Int):dI (.bin .gtr q) [.int k a,.int k b] K=K (.bool (decide (b<a))):=cM K (λH n=>abS H n q k a b)
theorem abT(H:Pos->Option AB)(n:Pos)(q:gp)(k:IntKind)(a b:Int):ax.run H n (.bin .geq q) [.int k a,.int k b]=some (.val (.bool (decide (b<=a)))):=by simp[ax.run,fI,jT,cV,ke,eJ,iP,fk]
@[simp] theorem oa{R:Type}(c:ah)(K:AV->St->Option R)(st:St)(q:gp)(k:IntKind)(a b:Int):ai c (.bin .geq q) [.int k a,.int k b] st K=K (.bool (decide (b<=a))) st:=aP c K (λH n=>abT H n q k a b) st
@[simp] theorem alg{R:Type}(K:AV->Option R)(q:gp)(k:IntKind)(a b:Int):dI (.bin .geq q) [.int k a,.int k b] K=K (.bool (decide (b<=a))):=cM K (λH n=>abT H n q k a b)
theorem abU(H:Pos->Option AB)(n:Pos)(q:gp)(k:IntKind)(a b:Int):ax.run H n (.bin .eql q) [.int k a,.int k b]=some (.val (.bool (decide (a=b)))):=by simp[ax.run,fI,jT,cV,ke,eJ,iP,fk]
@[simp] theorem cN{R:Type}(c:ah)(K:AV->St->Option R)(st:St)(q:gp)(k:IntKind)(a b:Int):ai c (.bin .eql q) [.int k a,.int k b] st K=K (.bool (decide (a=b))) st:=aP c K (λH n=>abU H n q k a b) st
@[simp] theorem alh{R:Type}(K:AV->Option R)(q:gp)(k:IntKind)(a b:Int):dI (.bin .eql q) [.int k a,.int k b] K=K (.bool (decide (a=b))):=cM K (λH n=>abU H n q k a b)
theorem abV(H:Pos->Option AB)(n:Pos)(q:gp)(k:IntKind)(a b:Int):ax.run H n (.bin .neq q) [.int k a,.int k b]=some (.val (.bool (!decide (a=b)))):=by simp[ax.run,fI,jT,cV,ke,eJ,iP,fk]
@[simp] theorem dQ{R:Type}(c:ah)(K:AV->St->Option R)(st:St)(q:gp)(k:IntKind)(a b:Int):ai c (.bin .neq q) [.int k a,.int k b] st K=K (.bool (!decide (a=b))) st:=aP c K (λH n=>abV H n q k a b) st
@[simp] theorem ali{R:Type}(K:AV->Option R)(q:gp)(k:IntKind)(a b:Int):dI (.bin .neq q) [.int k a,.int k b] K=K (.bool (!decide (a=b))):=cM K (λH n=>abV H n q k a b)
theorem abW(H:Pos->Option AB)(n:Pos)(q:gp)(k:IntKind)(a b:Int):ax.run H n (.bin .add q) [.int k a,.int k b]=some (.val (.int k (au k (a+b)))):=by simp[ax.run,fI,jT,cV,ke,eJ,iP,fk]
@[simp] theorem dR{R:Type}(c:ah)(K:AV->St->Option R)(st:St)(q:gp)(k:IntKind)(a b:Int):ai c (.bin .add q) [.int k a,.int k b] st K=K (.int k (au k (a+b))) st:=aP c K (λH n=>abW H n q k a b) st
@[simp] theorem abX{R:Type}(K:AV->Option R)(q:gp)(k:IntKind)(a b:Int):dI (.bin .add q) [.int k a,.int k b] K=K (.int k (au k (a+b))):=cM K (λH n=>abW H n q k a b)
theorem abY(H:Pos->Option AB)(n:Pos)(q:gp)(k:IntKind)(a b:Int):ax.run H n (.bin .sub q) [.int k a,.int k b]=some (.val (.int k (au k (a - b)))):=by simp[ax.run,fI,jT,cV,ke,eJ,iP,fk]
@[simp] theorem kW{R:Type}(c:ah)(K:AV->St->Option R)(st:St)(q:gp)(k:IntKind)(a b:Int):ai c (.bin .sub q) [.int k a,.int k b] st K=K (.int k (au k (a - b))) st:=aP c K (λH n=>abY H n q k a b) st
@[simp] theorem alj{R:Type}(K:AV->Option R)(q:gp)(k:IntKind)(a b:Int):dI (.bin .sub q) [.int k a,.int k b] K=K (.int k (au k (a - b))):=cM K (λH n=>abY H n q k a b)
theorem aiA(H:Pos->Option AB)(n:Pos)(q:gp)(k:IntKind)(a b:Int):ax.run H n (.bin .mul q) [.int k a,.int k b]=some (.val (.int k (au k (a*b)))):=by simp[ax.run,fI,jT,cV,ke,eJ,iP,fk]
@[simp] theorem QD{R:Type}(c:ah)(K:AV->St->Option R)(st:St)(q:gp)(k:IntKind)(a b:Int):ai c (.bin .mul q) [.int k a,.int k b] st K=K (.int k (au k (a*b))) st:=aP c K (λH n=>aiA H n q k a b) st
theorem Zy(H:Pos->Option AB)(n:Pos)(q:gp)(s t:List Nat):ax.run H n (.bin .eql q) [.str s,.str t]=some (.val (.bool (decide (s=t)))):=by simp[ax.run,fI,jT,cV,ke,eJ,iP,fk]
@[simp] theorem jZ{R:Type}(c:ah)(K:AV->St->Option R)(st:St)(q:gp)(s t:List Nat):ai c (.bin .eql q) [.str s,.str t] st K=K (.bool (decide (s=t))) st:=aP c K (λH n=>Zy H n q s t) st
@[simp] theorem agr{R:Type}(K:AV->Option R)(q:gp)(s t:List Nat):dI (.bin .eql q) [.str s,.str t] K=K (.bool (decide (s=t))):=cM K (λH n=>Zy H n q s t)
theorem Zz(H:Pos->Option AB)(n:Pos)(q:gp)(s t:List Nat):ax.run H n (.bin .neq q) [.str s,.str t]=some (.val (.bool (!decide (s=t)))):=by simp[ax.run,fI,jT,cV,ke,eJ,iP,fk]
@[simp] theorem eN{R:Type}(c:ah)(K:AV->St->Option R)(st:St)(q:gp)(s t:List Nat):ai c (.bin .neq q) [.str s,.str t] st K=K (.bool (!decide (s=t))) st:=aP c K (λH n=>Zz H n q s t) st
@[simp] theorem akY{R:Type}(K:AV->Option R)(q:gp)(s t:List Nat):dI (.bin .neq q) [.str s,.str t] K=K (.bool (!decide (s=t))):=cM K (λH n=>Zz H n q s t)
theorem ZA(H:Pos->Option AB)(n:Pos)(q:gp)(s t:List Nat):ax.run H n (.bin .lss q) [.str s,.str t]=some (.val (.bool (aD s t))):=by simp[ax.run,fI,jT,cV,ke,eJ,iP,fk]
@[simp] theorem akZ{R:Type}(c:ah)(K:AV->St->Option R)(st:St)(q:gp)(s t:List Nat):ai c (.bin .lss q) [.str s,.str t] st K=K (.bool (aD s t)) st:=aP c K (λH n=>ZA H n q s t) st
@[simp] theorem ak0{R:Type}(K:AV->Option R)(q:gp)(s t:List Nat):dI (.bin .lss q) [.str s,.str t] K=K (.bool (aD s t)):=cM K (λH n=>ZA H n q s t)
theorem ags(H:Pos->Option AB)(n:Pos)(q:gp)(s t:List Nat):ax.run H n (.bin .leq q) [.str s,.str t]=some (.val (.bool (aD s t||decide (s=t)))):=by simp[ax.run,fI,jT,cV,ke,eJ,iP,fk]
@[simp] theorem ak1{R:Type}(K:AV->Option R)(q:gp)(s t:List Nat):dI (.bin .leq q) [.str s,.str t] K=K (.bool (aD s t||decide (s=t))):=cM K (λH n=>ags H n q s t)
theorem ZB(H:Pos->Option AB)(n:Pos)(q:gp)(s t:List Nat):ax.run H n (.bin .geq q) [.str s,.str t]=some (.val (.bool (!aD s t))):=by simp[ax.run,fI,jT,cV,ke,eJ,iP,fk]
@[simp] theorem ak2{R:Type}(c:ah)(K:AV->St->Option R)(st:St)(q:gp)(s t:List Nat):ai c (.bin .geq q) [.str s,.str t] st K=K (.bool (!aD s t)) st:=aP c K (λH n=>ZB H n q s t) st
@[simp] theorem ak3{R:Type}(K:AV->Option R)(q:gp)(s t:List Nat):dI (.bin .geq q) [.str s,.str t] K=K (.bool (!aD s t)):=cM K (λH n=>ZB H n q s t)
theorem agt(H:Pos->Option AB)(n:Pos)(p r:Bool):ax.run H n (.bin .eql .bool) [.bool p,.bool r]=some (.val (.bool (p==r))):=rfl
@[simp] theorem ak4{R:Type}(c:ah)(K:AV->St->Option R)(st:St)(p r:Bool):ai c (.bin .eql .bool) [.bool p,.bool r] st K=K (.bool (p==r)) st:=aP c K (λH n=>agt H n p r) st
theorem ZC(H:Pos->Option AB)(n:Pos)(s:List Nat):ax.run H n (.lenB .s) [.str s]=some (.val (.int .i64 (s.length:Int))):=rfl
@[simp] theorem bL{R:Type}(c:ah)(K:AV->St->Option R)(st:St)(s:List Nat):ai c (.lenB .s) [.str s] st K=K (.int .i64 (s.length:Int)) st:=aP c K (λH n=>ZC H n s) st
@[simp] theorem agu{R:Type}(K:AV->Option R)(s:List Nat):dI (.lenB .s) [.str s] K=K (.int .i64 (s.length:Int)):=cM K (λH n=>ZC H n s)
theorem ZD(H:Pos->Option AB)(n:Pos)(es:Nat)(z:Bool)(rs:List (List AV)):ax.run H n (.lenB .l) [ro es z rs]=some (.val (.int .i64 (rs.length:Int))):=by unfold ro;split<;>rfl
@[simp] theorem bW{R:Type}(c:ah)(K:AV->St->Option R)(st:St)(es:Nat)(z:Bool)(rs:List (List AV)):ai c (.lenB .l) [ro es z rs] st K=K (.int .i64 (rs.length:Int)) st:=aP c K (λH n=>ZD H n es z rs) st
@[simp] theorem agv{R:Type}(K:AV->Option R)(es:Nat)(z:Bool)(rs:List (List AV)):dI (.lenB .l) [ro es z rs] K=K (.int .i64 (rs.length:Int)):=cM K (λH n=>ZD H n es z rs)
theorem agw(H:Pos->Option AB)(n:Pos)(k k2:IntKind)(a:Int):ax.run H n (.conv (.int k)) [.int k2 a]=some (.val (.int k (au k a))):=rfl
@[simp] theorem y8{R:Type}(c:ah)(K:AV->St->Option R)(st:St)(k k2:IntKind)(a:Int):ai c (.conv (.int k)) [.int k2 a] st K=K (.int k (au k a)) st:=aP c K (λH n=>agw H n k k2 a) st
theorem ZE(H:Pos->Option AB)(n:Pos)(k:IntKind)(s:List Nat)(i:Nat):ax.run H n .idxS [.str s,.int k (i:Int)]=((s[i]?.map λc=>.int .u8 (c:Int)):Option AV).map .val:=by simp only[ax.run,Qr,eM,lY];cases s[i]? <;>rfl
@[simp] theorem Sy{R:Type}(c:ah)(K:AV->St->Option R)(st:St)(k:IntKind)(s:List Nat)(i:Nat):ai c .idxS [.str s,.int k (i:Int)] st K=oZ (s[i]?.map λc=>.int .u8 (c:Int)) λv=>K v st:=Df c K (λH n=>ZE H n k s i) st
theorem aev(H:Pos->Option AB)(n:Pos)(k:IntKind)(s:List Nat):ax.run H n .idxS [.str s,.int k 0]=((s[(0:Nat)]?.map λc=>.int .u8 (c:Int)):Option AV).map .val:=by have:=ZE H n k s 0;exact this
@[simp] theorem aew{R:Type}(c:ah)(K:AV->St->Option R)(st:St)(k:IntKind)(s:List Nat):ai c .idxS [.str s,.int k 0] st K=oZ (s[(0:Nat)]?.map λc=>.int .u8 (c:Int)) λv=>K v st:=Df c K (λH n=>aev H n k s) st
theorem OI(H:Pos->Option AB)(n:Pos)(off:Nat)(p:Pos)(o:Nat):ax.run H n (.fieldA off) [.ptr p o]=some (.val (.ptr p (o+off))):=rfl
@[simp] theorem cO{R:Type}(c:ah)(K:AV->St->Option R)(st:St)(off:Nat)(p:Pos)(o:Nat):ai c (.fieldA off) [.ptr p o] st K=K (.ptr p (o+off)) st:=aP c K (λH n=>OI H n off p o) st
@[simp] theorem lC{R:Type}(K:AV->Option R)(off:Nat)(p:Pos)(o:Nat):dI (.fieldA off) [.ptr p o] K=K (.ptr p (o+off)):=cM K (λH n=>OI H n off p o)
theorem OJ(H:Pos->Option AB)(n:Pos)(off:Nat)(xs:List (List AV))(i j:Nat):ax.run H n (.fieldA off) [.fp xs i j]=some (.val (.fp xs i (j+off))):=rfl
@[simp] theorem ajB{R:Type}(c:ah)(K:AV->St->Option R)(st:St)(off:Nat)(xs:List (List AV))(i j:Nat):ai c (.fieldA off) [.fp xs i j] st K=K (.fp xs i (j+off)) st:=aP c K (λH n=>OJ H n off xs i j) st
@[simp] theorem ZF{R:Type}(K:AV->Option R)(off:Nat)(xs:List (List AV))(i j:Nat):dI (.fieldA off) [.fp xs i j] K=K (.fp xs i (j+off)):=cM K (λH n=>OJ H n off xs i j)
theorem RB(H:Pos->Option AB)(n:Pos)(i:Nat)(l:List AV):ax.run H n (.extract i) [.tuple l]=(l[i]? :Option AV).map .val:=by simp only[ax.run,EP,lY];cases l[i]? <;>rfl
@[simp] theorem bE{R:Type}(c:ah)(K:AV->St->Option R)(st:St)(i:Nat)(l:List AV):ai c (.extract i) [.tuple l] st K=oZ l[i]? λv=>K v st:=Df c K (λH n=>RB H n i l) st
@[simp] theorem tR{R:Type}(K:AV->Option R)(i:Nat)(l:List AV):dI (.extract i) [.tuple l] K=oZ l[i]? K:=T8 K (λH n=>RB H n i l)
theorem JV(H:Pos->Option AB)(n:Pos)(p:Pos)(o:Nat):ax.run H n .nilCheck [.ptr p o]=some (.val (.ptr p o)):=rfl
@[simp] theorem wJ{R:Type}(c:ah)(K:AV->St->Option R)(st:St)(p:Pos)(o:Nat):ai c .nilCheck [.ptr p o] st K=K (.ptr p o) st:=aP c K (λH n=>JV H n p o) st
@[simp] theorem aiB{R:Type}(K:AV->Option R)(p:Pos)(o:Nat):dI .nilCheck [.ptr p o] K=K (.ptr p o):=cM K (λH n=>JV H n p o)
theorem ZG(H:Pos->Option AB)(n:Pos)(es:Nat)(z:Bool)(rs:List (List AV))(k:IntKind)(i:Nat):ax.run H n (.idxA es none) [ro es z rs,.int k (i:Int)]=((if i<rs.length then some (.fp rs i 0)else none):Option AV).map .val:=by
 by_cases h:i<rs.length
 .rw[abN (by intro e;subst e;simp at h)];simp[ax.run,mK,eM,EW,cW,h]
 . unfold ro;split
   .rfl
   .simp[ax.run,mK,eM,EW,cW,h]
@[simp] theorem FT{R:Type}(c:ah)(K:AV->St->Option R)(st:St)(es:Nat)(z:Bool)(rs:List (List AV))(k:IntKind)(i:Nat):ai c (.idxA es none) [ro es z rs,.int k (i:Int)] st K=oZ (if i<rs.length then some (.fp rs i 0)else none) λv=>K v st:=Df c K (λH n=>ZG H n es z rs k i) st
@[simp] theorem LC{R:Type}(K:AV->Option R)(es:Nat)(z:Bool)(rs:List (List AV))(k:IntKind)(i:Nat):dI (.idxA es none) [ro es z rs,.int k (i:Int)] K=oZ (if i<rs.length then some (.fp rs i 0)else none) K:=T8 K (λH n=>ZG H n es z rs k i)
theorem W6(H:Pos->Option AB)(n:Pos)(es:Nat)(z:Bool)(rs:List (List AV))(k:IntKind)(i:Nat):ax.run H n (.sliceL es false true false) [ro es z rs,.int k (i:Int)]=((if i<=rs.length then some (ro es (z&&rs.isEmpty) (rs.take i))else none):Option AV).map .val:=by
 by_cases h:i<=rs.length
 . rw[  Za4 h];unfold ro;split
   .simp at h;subst h;rfl
   .rename_i hn;have:(z&&rs.isEmpty)=false:=(by cases z<;>cases rs<;>simp at hn ⊢);simp only[this];simp[ax.run,lu,bounds,eM,cF,cW,h]
 . rw[Za2 h];unfold ro;split
   .simp only[ax.run,lu,bounds,eM];have:¬i=0:=(by simp at h;omega);simp[cW,this]
   .simp[ax.run,lu,bounds,eM,cF,cW,h]
@[simp] theorem akV{R:Type}(c:ah)(K:AV->St->Option R)(st:St)(es:Nat)(z:Bool)(rs:List (List AV))(k:IntKind)(i:Nat):ai c (.sliceL es false true false) [ro es z rs,.int k (i:Int)] st K=oZ (if i<=rs.length then some (ro es (z&&rs.isEmpty) (rs.take i))else none) λv=>K v st:=Df c K (λH n=>W6 H n es z rs k i) st
@[simp] theorem akW{R:Type}(K:AV->Option R)(es:Nat)(z:Bool)(rs:List (List AV))(k:IntKind)(i:Nat):dI (.sliceL es false true false) [ro es z rs,.int k (i:Int)] K=oZ (if i<=rs.length then some (ro es (z&&rs.isEmpty) (rs.take i))else none) K:=T8 K (λH n=>W6 H n es z rs k i)
section
variable{R:Type}(c:ah)(K:AV->St->Option R)(K1:AV->Option R)
theorem EX(H:Pos->Option AB)(n:Pos)(xs:List (List AV))(i j:Nat):ax.run H n (.load none) [.fp xs i j]=(xs[i]?.bind λcs=>cs[j]?).map .val:=by
 simp only[ax.run,wC,lY];cases xs[i]? with
 |none=>rfl
 |some cs=>simp only[Zg2];cases cs[j]? <;>rfl
theorem IV(H:Pos->Option AB)(n:Pos)(m:Nat)(xs:List (List AV))(i j:Nat):ax.run H n (.load (some m)) [.fp xs i j]=((xs[i]?.bind λcs=>cut cs j m).map .agg).map .val:=by
 simp only[ax.run,wC,lY];cases xs[i]? with
 |none=>rfl
 |some cs=>simp only[Zg2];cases cut cs j m<;>rfl
theorem oM (H:Pos->Option AB)(n:Pos)(p:Pos)(o:Nat):ax.run H n (.load none) [.ptr p o]=((cellsOf (H p)).bind λcs=>cs[o]?).map .val:=by
 simp only[ax.run,wC,lY];cases H p with
 |none=>rfl
 |some x=>   cases x<;>simp only[cellsOf,Zg2,Option.bind_none]<;>try rfl
             all_goals first|(rename_i cs _;cases cs[o]? <;>rfl)|(rename_i _ cs;cases cs[o]? <;>rfl)
theorem tS (H:Pos->Option AB)(n:Pos)(m:Nat)(p:Pos)(o:Nat):ax.run H n (.load (some m)) [.ptr p o]=(((cellsOf (H p)).bind λcs=>cut cs o m).map .agg).map .val:=by
 simp only[ax.run,wC];cases H p with
 |none=>rfl
 |some x=>   cases x<;>simp only[cellsOf,Zg2,Option.bind_none]<;>try rfl
             all_goals first|(rename_i cs _;cases cut cs o m<;>rfl)|(rename_i _ cs;cases cut cs o m<;>rfl)
@[simp] theorem akt(st:St)(xs:List (List AV))(i j:Nat):ai c (.load none) [.fp xs i j] st K=oZ (xs[i]?.bind λcs=>cs[j]?) λv=>K v st:=Df c K (λH n=>EX H n xs i j) st
@[simp] theorem aj7(st:St)(m:Nat)(xs:List (List AV))(i j:Nat):ai c (.load (some m)) [.fp xs i j] st K=DP (xs[i]?.bind λcs=>cut cs j m) λl=>K (.agg l) st:=by rw[Df c K (λH n=>IV H n m xs i j) st];cases(xs[i]?.bind λcs=>cut cs j m)<;>rfl
@[simp] theorem dS(st:St)(p:Pos)(o:Nat):ai c (.load none) [.ptr p o] st K=oZ ((cellsOf (st.heap.get p)).bind λcs=>cs[o]?) λv=>K v st:=by unfold ai bY;rw[oM];cases((cellsOf (st.heap.get p)).bind λcs=>cs[o]?)<;>rfl
@[simp] theorem aj8(st:St)(m:Nat)(p:Pos)(o:Nat):ai c (.load (some m)) [.ptr p o] st K=DP ((cellsOf (st.heap.get p)).bind λcs=>cut cs o m) λl=>K (.agg l) st:=by unfold ai bY;rw[tS];cases((cellsOf (st.heap.get p)).bind λcs=>cut cs o m)<;>rfl
@[simp] theorem aku(h:T AB)(xs:List (List AV))(i j:Nat):fP (.load none) [.fp xs i j] h (λ_=>true) K1=oZ (xs[i]?.bind λcs=>cs[j]?) K1:=by unfold fP;rw[EX,EX];cases hx:(xs[i]?.bind λcs=>cs[j]?)<;>rfl
@[simp] theorem aj9(h:T AB)(m:Nat)(xs:List (List AV))(i j:Nat):fP (.load (some m)) [.fp xs i j] h (λ_=>true) K1=DP (xs[i]?.bind λcs=>cut cs j m) λl=>K1 (.agg l):=by unfold fP;rw[IV,IV];cases hx:(xs[i]?.bind λcs=>cut cs j m)<;>rfl
@[simp] theorem tT(st:St)(f:FuncId)(xs:List AV):ai c (.mkFunc f 0) xs st K=K (.func f [] xs) st:=aP c K (λH n=>by simp[ax.run,Hy,cF]) st
@[simp] theorem oN(h:T AB)(p:Pos)(o:Nat):fP (.load none) [.ptr p o] h (λ_=>true) K1=oZ ((cellsOf (h.get p)).bind λcs=>cs[o]?) K1:=by unfold fP;rw[oM,oM];show(match ((cellsOf (h.get p)).bind λcs=>cs[o]?).map cL.val with|some (.val v)=>_|_=>_)=_;cases((cellsOf (h.get p)).bind λcs=>cs[o]?)<;>rfl
@[simp] theorem RD(h:T AB)(m:Nat)(p:Pos)(o:Nat):fP (.load (some m)) [.ptr p o] h (λ_=>true) K1=DP ((cellsOf (h.get p)).bind λcs=>cut cs o m) λl=>K1 (.agg l):=by unfold fP;rw[tS,tS];show(match (((cellsOf (h.get p)).bind λcs=>cut cs o m).map AV.agg).map cL.val with|some (.val v)=>_|_=>_)=_;cases((cellsOf (h.get p)).bind λcs=>cut cs o m)<;>rfl
theorem run_build(H:Pos->Option AB)(n:Pos)(z:List AV)(ps:List (Nat×Nat))(xs:List AV):ax.run H n (.build z ps) xs=((cI z ps xs).map .agg).map .val:=by simp only[ax.run,KT];cases cI z ps xs<;>rfl
@[simp] theorem aex(st:St)(z:List AV)(ps:List (Nat×Nat))(xs:List AV):ai c (.build z ps) xs st K=DP (cI z ps xs) λl=>K (.agg l) st:=by rw[Df c K (λH n=>run_build H n z ps xs) st];cases cI z ps xs<;>rfl
@[simp] theorem akX(z:List AV)(ps:List (Nat×Nat))(xs:List AV):dI (.build z ps) xs K1=DP (cI z ps xs) λl=>K1 (.agg l):=by rw[T8 K1 (λH n=>run_build H n z ps xs)];cases cI z ps xs<;>rfl
theorem bJ{α:Type}{l:List α}{m:Nat}(h:l.length=m):cut l 0 m=some l:=by
 unfold cut;rw[cF,H2 (by omega)];simp only[Zb7];rw[Zg0 (by omega)]
end
end Go.Ai
namespace Go.Ai
open Go
def Wf(st:St):Prop:=∀p x,st.heap.get p=some x->p.toNat<st.next.toNat
theorem dX(st:St)(b:AB):(af st b).next=st.next.succ:=id rfl
@[simp] theorem bM{st:St}{b:AB}(h:Wf st):Wf (af st b):=λp x hp=>by
  rw[dX,Pos.aB];by_cases e:st.next=p
  .subst e;omega
  .have:=h p x (by rwa [af,T.bH _ e]at hp);omega
@[simp] theorem aC(st:St)(b:AB):(af st b).heap.get st.next=some b:=T.eB _ _ _
theorem mI{st:St}{b:AB}{p:Pos}(h:p.toNat<st.next.toNat):(af st b).heap.get p=st.heap.get p:=by
 rw[af,T.bH _ (by intro e;subst e;omega)]
@[simp] theorem AP{st:St}{a b:AB}:(af (af st a) b).heap.get st.next=some a:=by
  rw[mI (by rw[dX,Pos.aB];omega),aC]
theorem bK{st:St}{b:AB}(h:Wf st):aM st (af st b):=λp x hp=>by rw[mI (h p x hp)];exact hp
theorem ak{st st':St}{v:AV}(hv:Plain v)(hk:aM st st'):tidy st (v,st')=(v,st):=by
 unfold tidy;rw[Za4 ⟨hv,hk⟩]
section
variable{R:Type}(c:ah)(K:AV->St->Option R)
@[simp] theorem cP(x:AV)(st:St):ai c .box [x] st K=K (.ptr st.next 0) (af st (.cells x.cells 0)):=id rfl
@[simp] theorem aey(l:List AV)(st:St):ai c (.alloc l) [] st K=K (.ptr st.next 0) (af st (.cells l 0)):=id rfl
end
theorem T.CA{α:Type}(x y:Option α):∀(p:Pos)(t:T α),T.put x p (T.put y p t)=T.put x p t
 |.h,.e=>rfl
 |.h,.n _ _ _=>rfl
 |.o p,.e=>by simp only[T.put];rw[T.CA x y p]
 |.o p,.n _ _ _=>by simp only[T.put];rw[T.CA x y p]
 |.i p,.e=>by simp only[T.put];rw[T.CA x y p]
 |.i p,.n _ _ _=>by simp only[T.put];rw[T.CA x y p]
def cR(st:St)(p:Pos)(b:AB):St:={ heap:=st.heap.put (some b) p,next:=st.next }
@[simp] theorem y9(st:St)(p:Pos)(b:AB):(cR st p b).next=st.next:=id rfl
@[simp] theorem je(st:St)(p:Pos)(b:AB):(cR st p b).heap.get p=some b:=T.eB _ _ _
theorem cu{st:St}{p q:Pos}{b:AB}(h:p≠q):(cR st p b).heap.get q=st.heap.get q:=T.bH _ h _
@[simp] theorem JW(st:St)(a b:AB):cR (af st a) st.next b=af st b:=by
  unfold cR af;simp only[T.CA]
@[simp] theorem abZ(st:St)(p:Pos)(a b:AB):cR (cR st p a) p b=cR st p b:=by
  unfold cR;simp only[T.CA]
theorem Pos.Vp(p:Pos):p≠p.succ:=λe=>by have:=congrArg Pos.toNat e;rw[Pos.aB]at this;omega
theorem jA{R:Type}(c:ah)(K:AV->St->Option R)(st:St)(m:Nat)(p:Pos)(o:Nat)(v:AV)(cs:List AV)(h:st.heap.get p=some (.cells cs 0))(h1:v.cells.length=m)(h2:o+m<=cs.length)(h3:bg v.cells=true):
  ai c (.store m) [.ptr p o,v] st K=K .undef (cR st p (.cells (aL cs o v.cells) 0)):=by
 have:ax.run (λb=>st.heap.get b) st.next (.store m) [.ptr p o,v]=some (.aI .undef none (some (p,.cells (aL cs o v.cells) 0)) none):=by
  simp[ax.run,Cs,h,h1,h2,h3,cW,cF]
 unfold ai bY;rw[this];rfl
@[simp] theorem kj{R:Type}(c:ah)(K:AV->St->Option R)(st:St)(m:Nat)(v:AV)(cs:List AV)(h1:v.cells.length=m)(h2:m=cs.length)(h3:bg v.cells=true):
   ai c (.store m) [.ptr st.next 0,v] (af st (.cells cs 0)) K=K .undef (af st (.cells v.cells 0)):=by
  rw[jA c K _ m st.next 0 v cs (aC _ _) h1 (by omega) h3,JW];have:aL cs 0 v.cells=v.cells:=by unfold aL;rw[h1,h2];simp
  rw[this]
theorem akv{R:Type}(n:Option Nat)(p:Pos)(o:Nat)(st:St)(K:AV->Option R):ldr n (.ptr p o) st K=match n with
  |none=>oZ ((cellsOf (st.heap.get p)).bind λcs=>cs[o]?) K
  |some m=>DP ((cellsOf (st.heap.get p)).bind λcs=>cut cs o m) λl=>K (.agg l):=by
 unfold ldr;cases n with
 |none=>rw[oM];simp only;cases((cellsOf (st.heap.get p)).bind λcs=>cs[o]?)<;>rfl
 |some m=>rw[tS];simp only;cases((cellsOf (st.heap.get p)).bind λcs=>cut cs o m)<;>rfl
@[simp] theorem ak5{R:Type}(m:Nat)(p:Pos)(o:Nat)(st:St)(K:AV->Option R):ldr (some m) (.ptr p o) st K=DP ((cellsOf (st.heap.get p)).bind λcs=>cut cs o m) λl=>K (.agg l):=akv (some m) p o st K
@[simp] theorem aez(es:Nat)(z:Bool)(rs:List (List AV)):(ro es z rs).one=true:=by unfold ro;split<;>rfl
@[simp] theorem ZH(es:Nat)(z:Bool)(rs:List (List AV)):(ro es z rs).cells=[ro es z rs]:=by unfold ro;split<;>rfl
structure Grew(s s':St):Prop where
 wf:Wf s'
 keeps:aM s s'
 next:s.next.toNat<=s'.next.toNat
theorem Grew.refl{s:St}(h:Wf s):Grew s s:=⟨h,aM.refl s,Za3 _⟩
theorem Grew.trans{a b c:St}(h:Grew a b)(k:Grew b c):Grew a c:=⟨k.wf,h.keeps.trans k.keeps,Zd6 h.next k.next⟩
theorem Grew.af{s:St}(h:Wf s)(b:AB):Grew s (af s b):=⟨bM h,bK h,by rw[dX,Pos.aB];omega⟩
theorem Grew.get{s s':St}(h:Grew s s'){p:Pos}{x:AB}(hp:s.heap.get p=some x):s'.heap.get p=some x:=h.keeps p x hp
end Go.Ai
end
namespace Go.Ai
section
open Go
theorem JX{st:St}{p:Pos}{b:AB}(h:Wf st)(hp:p.toNat<st.next.toNat):Wf (cR st p b):=λq x hq=>by
 rw[y9];by_cases e:p=q
 .subst e;exact hp
 .rw[cu e]at hq;exact h q x hq
def dst(st:St)(p:Pos)(b:AB):St:={ heap:=(st.heap.put none p).put (some b) st.next,next:=st.next.succ }
theorem agx(st:St)(p:Pos)(b:AB):(dst st p b).next=st.next.succ:=id rfl
theorem Vq(st:St)(p:Pos)(b:AB):(dst st p b).heap.get st.next=some b:=T.eB _ _ _
theorem Ub{st:St}{p q:Pos}{b:AB}(h:p≠q)(h2:q.toNat<st.next.toNat):(dst st p b).heap.get q=st.heap.get q:=by
 rw[dst,T.bH _ (by intro e;subst e;omega),T.bH _ h]
theorem aeA{st:St}{p:Pos}{b:AB}(h:Wf st):Wf (dst st p b):=λq x hq=>by
 rw[agx,Pos.aB];by_cases e:st.next=q
 .subst e;omega
 . rw[dst,T.bH _ e]at hq;by_cases e2:p=q
   .subst e2;rw[T.eB]at hq;cases hq
   .rw[T.bH _ e2]at hq;have:=h q x hq;omega
theorem aeB{s s':St}{v:AV}(h:Grew s s')(hw:Wf s):∃eY,tidy s (v,s')=(v,eY)/\Grew s eY:=by
 unfold tidy;split
 .exact⟨s,rfl,Grew.refl hw⟩
 .exact⟨s',rfl,h⟩
theorem ab0{s s':St}{v:AV}{b:Pos}{x:AB}(h:s.heap.get b=some x)(h2:s'.heap.get b≠some x):tidy s (v,s')=(v,s'):=by
 unfold tidy;rw[Za2];exact λe=>h2 (e.2 b x h)
section
variable{R:Type}(c:ah)(K:AV->St->Option R)(K1:AV->Option R)
theorem Uc(H:Pos->Option AB)(n:Pos)(es len:Nat)(z:List AV)(ps:List Nat)(xs:List AV):ax.run H n (.buildSlice es len z ps) xs=(cI (bZ z len) (ps.map λi=>(i*es,es)) xs).map λcs=>.aI (.slice n 0 len (some len) es) none none (some (.cells cs 0)):=by simp only[ax.run,sZ];cases cI (bZ z len) (ps.map λi=>(i*es,es)) xs<;>rfl
@[simp] theorem eo(st:St)(es len:Nat)(z:List AV)(ps:List Nat)(xs:List AV):ai c (.buildSlice es len z ps) xs st K=DP (cI (bZ z len) (ps.map λi=>(i*es,es)) xs) λcs=>K (.slice st.next 0 len (some len) es) (af st (.cells cs 0)):=by unfold ai bY;rw[Uc];cases cI (bZ z len) (ps.map λi=>(i*es,es)) xs<;>rfl
@[simp] theorem Ud(st:St)(es len:Nat)(z:List AV)(ps:List Nat)(xs:List AV)(K2:AV->AB->Option R):Ry (.buildSlice es len z ps) xs st K2=DP (cI (bZ z len) (ps.map λi=>(i*es,es)) xs) λcs=>K2 (.slice st.next 0 len (some len) es) (.cells cs 0):=by unfold Ry;rw[Uc];cases cI (bZ z len) (ps.map λi=>(i*es,es)) xs<;>rfl
@[simp] theorem aeC(st:St):ai c .mkMap [] st K=K (.map st.next) (af st (.map [] 0)):=id rfl
theorem ZI{st:St}{es bytes m:Nat}{x:AV}{new:List AV}(hm:dH x=some m)(h0:m≠0)(hb:(2*(0+m)+768)*bytes<=281474976710656)(hs:0+m<=9223372036854775807)(hx:cJ es m (λb=>st.heap.get b) x=some new):
  ai c (.append es bytes) [.av,x] st K=K (.slice st.next 0 m none es) (af st (.cells new 0)):=by
 have:ax.run (λb=>st.heap.get b) st.next (.append es bytes) [.av,x]=some (.aI (.slice st.next 0 m none es) none none (some (.cells new 0))):=by
  simp only[ax.run,gH];rw[show dH .av=some 0 from rfl,hm];simp only[cF,cW,H2 hb,H2 hs,H3 h0,hx]
 unfold ai bY;rw[this];rfl
theorem aiC{st:St}{es bytes m n:Nat}{p:Pos}{x:AV}{cs c9 new:List AV}(hm:dH x=some m)(h0:m≠0)(hb:(2*(n+m)+768)*bytes<=281474976710656)(hs:n+m<=9223372036854775807)(hp:st.heap.get p=some (.cells cs 0))
  (ho:cJ es n (λb=>st.heap.get b) (.slice p 0 n none es)=some c9) (hx:cJ es m (λb=>st.heap.get b) x=some new) (h1:bg new=true):
  ai c (.append es bytes) [.slice p 0 n none es,x] st K=K (.slice st.next 0 (n+m) none es) (dst st p (.cells (c9++new) 0)):=by
 have:ax.run (λb=>st.heap.get b) st.next (.append es bytes) [.slice p 0 n none es,x]=some (.aI (.slice st.next 0 (n+m) none es) (some p) none (some (.cells (c9++new) 0))):=by simp only[ax.run,gH];rw[show dH (.slice p 0 n none es)=some n from rfl,hm];simp only[cF,cW,H2 hb,H2 hs,H3 h0,hx,hp,ho,h1];simp
 unfold ai bY;rw[this];rfl
theorem aeD{st:St}{es bytes m:Nat}{p:Pos}{x:AV}{new:List AV}(hm:dH x=some m)(h0:m≠0)(hb:(2*(0+m)+768)*bytes<=281474976710656)(hs:0+m<=9223372036854775807)(hx:cJ es m (λb=>st.heap.get b) x=some new):
  ai c (.append es bytes) [.slice p 0 0 (some 0) es,x] st K=K (.slice st.next 0 m none es) (af st (.cells new 0)):=by
 have:ax.run (λb=>st.heap.get b) st.next (.append es bytes) [.slice p 0 0 (some 0) es,x]=some (.aI (.slice st.next 0 m none es) none none (some (.cells new 0))):=by
  have h2:¬(0+m<=0):=by omega
  have ho:cJ es 0 (λb=>st.heap.get b) (.slice p 0 0 (some 0) es)=some []:=by simp[cJ]
  simp only[ax.run,gH];rw[show dH (.slice p 0 0 (some 0) es)=some 0 from rfl,hm];simp only[cF,cW,H2 hb,H2 hs,H3 h0,H3 h2,hx,ho];simp only[Zc7,Ze6]
 unfold ai bY;rw[this];rfl
theorem ZJ{st:St}{es bytes:Nat}{p:Pos}{off n:Nat}{cp:Option Nat}{x:AV}(hm:dH x=some 0)(hb:(2*(n+0)+768)*bytes<=281474976710656)(hs:n+0<=9223372036854775807):
  ai c (.append es bytes) [.slice p off n cp es,x] st K=K (.slice p off n cp es) st:=by
 have:ax.run (λb=>st.heap.get b) st.next (.append es bytes) [.slice p off n cp es,x]=some (.val (.slice p off n cp es)):=by
  simp only[ax.run,gH];rw[show dH (.slice p off n cp es)=some n from rfl,hm];simp only[cF,cW,H2 hb,H2 hs]
 unfold ai bY;rw[this]
theorem W7(H:Pos->Option AB)(n:Pos)(z:AV)(m:Pos)(es:List (AV×AV×Nat))(cl:Nat)(k:AV)(h:H m=some (.map es cl))(r:Option (Nat×AV))(hf:jU .s k es 0=some r):
  ax.run H n (.lookup .s z true) [.map m,k]=some (.val (match r with|some (_,v)=>.tuple [v,.bool true]|none=>.tuple [z,.bool false])):=by
 simp only[ax.run,zu,h,hf];cases r with
 |none=>rfl
 |some p=>rfl
theorem HU(z:AV){st:St}{m:Pos}{es:List (AV×AV×Nat)}{cl:Nat}{k:AV}{r:Option (Nat×AV)}(h:st.heap.get m=some (.map es cl))(hf:jU .s k es 0=some r):
  ai c (.lookup .s z true) [.map m,k] st K=K (match r with|some (_,v)=>.tuple [v,.bool true]|none=>.tuple [z,.bool false]) st:=by
 unfold ai bY;rw[W7 _ _ z m es cl k h r hf]
theorem W8(z:AV){h:T AB}{m:Pos}{es:List (AV×AV×Nat)}{cl:Nat}{k:AV}{r:Option (Nat×AV)}(hh:h.get m=some (.map es cl))(hf:jU .s k es 0=some r):
  fP (.lookup .s z true) [.map m,k] h (λ_=>true) K1=K1 (match r with|some (_,v)=>.tuple [v,.bool true]|none=>.tuple [z,.bool false]):=by
 unfold fP;have e:ax.run (λ_=>none) .h (.lookup .s z true) [.map m,k]=none:=rfl;rw[e];simp only;rw[W7 _ _ z m es cl k hh r hf]
theorem abi{st:St}{m:Pos}{es:List (AV×AV×Nat)}{cl:Nat}{k:List Nat}{v:AV}(h:st.heap.get m=some (.map es cl))(hf:jU .s (.str k) es 0=some none):
  ai c (.mapSet .s) [.map m,.str k,v] st K=K .undef (cR st m (.map (es++[(.str k,v,cl)]) (cl+1))):=by
 have:ax.run (λb=>st.heap.get b) st.next (.mapSet .s) [.map m,.str k,v]=some (.aI .undef none (some (m,.map (es++[(.str k,v,cl)]) (cl+1))) none):=by
  simp[ax.run,zw,h,hf,acv]
 unfold ai bY;rw[this];rfl
theorem zG{p:Pos}{o:Nat}{h h2:T AB}{v:AV}(hv:((cellsOf (h.get p)).bind λcs=>cs[o]?)=some v)(Fy:((cellsOf (h2.get p)).bind λcs=>cs[o]?)=some v)(hb:dN v v=true):
  fP (.load none) [.ptr p o] h (λv=>eA (.load none) [.ptr p o] v (iV [] h2)&&true) K1=K1 v:=by
 unfold fP;have e:ax.run (λ_=>none) .h (.load none) [.ptr p o]=none:=rfl;rw[e];simp only;rw[oM,hv];simp only[Ze3];have:eA (.load none) [.ptr p o] v (iV [] h2)=true:=by unfold eA;show(match ax.run (λb=>h2.get b) .h (.load none) [.ptr p o]with|some (.val u)=>dN u v|_=>false)=true;rw[oM,Fy];exact hb
 rw[this];rfl
end
theorem FU{R:Type}(K1:AV->Option R){p:Pos}{o:Nat}{h h2:T AB}{v:AV}(hv:((cellsOf (h.get p)).bind λcs=>cs[o]?)=some v)(Fy:((cellsOf (h2.get p)).bind λcs=>cs[o]?)=some v)(hb:dN v v=true):
  fP (.load none) [.ptr p o] h (λv=>eA (.load none) [.ptr p o] v (iV [] h2)) K1=K1 v:=by
 have:=zG K1 hv Fy hb;simp only[Zk9]at this;exact this
theorem OK(p:Pos)(o n es:Nat):dN (.slice p o n none es) (.slice p o n none es)=true:=by
 simp[dN,iE,fc,Pos.beq_eq.2 rfl]
theorem Sz:dN .av .av=true:=rfl
inductive dD:Nat->AV->Prop
 |flat {d:Nat} {v:AV} (h:fc v v=true):dD d v
 |fl {d:Nat} {a:List (List AV)} {n:Nat} (h:∀r∈a,∀v∈r,dD d v):dD (d+1) (.fl a n)
theorem Ue{f:AV->AV->Bool}:∀{a:List AV},(∀v∈a,f v v=true)->HB f a a=true
 |[],_=>rfl
 |a::x,h=>by
  simp only[HB,h a (by simp),Ue (λv hv=>h v (Za0 _ hv)),Zk0]
theorem OM{f:AV->AV->Bool}:∀{a:List (List AV)},(∀r∈a,∀v∈r,f v v=true)->zy f a a=true
 |[],_=>rfl
 |a::x,h=>by
  simp only[zy,Ue (h a (by simp)),OM (λv hv=>h v (Za0 _ hv)),Zk0]
theorem LD:∀{d:Nat}{v:AV},dD d v->HC d v v=true
 |d,v,.flat h=>by
  unfold HC;split
  .simp[fc]at h
  .exact h
 |d+1,.fl a n,.fl h=>by
  unfold HC;simp[OM (λr hr v hv=>LD (h r hr v hv))]
theorem dD.ro{d es:Nat}{z:Bool}{rs:List (List AV)}(h:∀r∈rs,∀v∈r,dD d v):dD (d+1) (ro es z rs):=by
 unfold Go.Ai.ro;split
 .exact .flat rfl
 .exact .fl h
theorem q9{v:AV}(h:dD 3 v):dN v v=true:=by
 have h3:=LD h;cases h with
 |flat h=>
  cases v<;>simp[fc]at h<;>first|simp[dN,iE,fc,h]|skip
  all_goals simp_all [dN,iE,fc]
 |fl h=>exact h3
theorem ac2{v:AV}(h:dD 3 v):iE v v=true:=by
 have h3:=LD h;cases h with
 |flat h=>
  cases v<;>simp[fc]at h<;>first|simp[iE,fc,h]|skip
  all_goals simp_all [iE,fc]
 |fl h=>exact h3
theorem XQ{l:List AV}(h:∀v∈l,dD 3 v):dN (.agg l) (.agg l)=true:=by
 show oT l l=true;induction l with
 |nil=>rfl
 |cons v l ih=>simp only[oT,ac2 (h v (by simp)),ih (λu hu=>h u (Za0 _ hu)),Zk0]
theorem dD.int{d:Nat}(k:IntKind)(n:Int):dD d (.int k n):= .flat (by simp[fc,mU,cV])
theorem dD.str{d:Nat}(s:List Nat):dD d (.str s):= .flat (by simp[fc,jX])
theorem dD.bool{d:Nat}(s:Bool):dD d (.bool s):= .flat (by simp[fc])
end
section
open Go
section
variable{H:Type}(enc:TypeId×Value->H)(P:Program)(w:World)(base:Nat)(spare:Nat->Bool)(held:Bool)
def yN(t:TypeId)(Q:List AV->Prop):Prop:=
 ∀  (fuel:Nat)(cs:List Value)(x:DataW H×List MemPlace),DataW.trod enc P w base spare held fuel t cs=some x->
    ∃as,Q as/\∀ρ n,az ρ n (λad=>w.cell? ad) as cs
variable{enc P w base spare held}
theorem yN.mono{t:TypeId}{Q Q':List AV->Prop}(h:yN enc P w base spare held t Q)(k:∀as,Q as->Q' as):yN enc P w base spare held t Q':=
 λfuel cs x hx=>by obtain⟨as,h1,h2⟩:=h fuel cs x hx;exact⟨as,k _ h1,h2⟩
theorem HV{t:TypeId}{k:IntKind}(ht:P.underlying t=some (.int k)):yN enc P w base spare held t λas=>∃i,as=[.int k i]/\(Lit.int k i).wf=true:=
 fun fuel cs x hx=>by
  obtain⟨n,rfl,h⟩:=DataW.trod_int ht hx;exact⟨_,⟨n,rfl,h.2⟩,λρ m=>az.cons (.int k n) az.nil⟩
theorem ac3{t:TypeId}(ht:P.underlying t=some .bool):yN enc P w base spare held t λas=>∃b,as=[.bool b]:=
 fun fuel cs x hx=>by
  obtain⟨b,rfl,h⟩:=DataW.trod_bool ht hx;exact⟨_,⟨b,rfl⟩,λρ m=>az.cons (.bool b) az.nil⟩
theorem Wo{t:TypeId}(ht:P.underlying t=some .string):yN enc P w base spare held t λas=>∃s,as=[.str s]/\s.length<=maxLen/\∀x∈s,x<256:=
 fun fuel cs x hx=>by
  obtain⟨s,rfl,h⟩:=DataW.trod_string ht hx;refine⟨_,⟨s.data.toList.map UInt8.toNat,rfl,?_,?_⟩,λρ m=>az.cons (.str _ s rfl) az.nil⟩
  .simp;exact h.2
  .intro x hx;simp only[Zf2]at hx;obtain⟨y,_,rfl⟩:=hx;exact y.toNat_lt
def FV:List (List AV->Prop)->List (List AV)->Prop
 |[],[]=>True
 |Q::Qs,p::ps=>Q p/\FV Qs ps
 |_,_=>False
def AQ(P:Program)(W9:Nat):Nat->List Field->Bool
 |o,[]=>o==W9
 |o,f::fs=>f.offset==o&&AQ P W9 (o+P.cellsOf f.type) fs
def ZK(enc:TypeId×Value->H)(P:Program)(w:World)(base:Nat)(spare:Nat->Bool)(held:Bool):List TypeId->List (List AV->Prop)->Prop
 |[],[]=>True
 |f::fs,Q::Qs=>yN enc P w base spare held f Q/\ZK enc P w base spare held fs Qs
 |_,_=>False
theorem ON{W9 n:Nat}:∀(fs:List Field)(Qs:List (List AV->Prop))(o:Nat)(cs:List Value),AQ P W9 o fs=true->ZK enc P w base spare held (fs.map (·.type)) Qs->cs.length=W9->
  (∀f∈fs,∃y,DataW.trod enc P w base spare held n f.type ((cs.drop f.offset).take (P.cellsOf f.type))=some y)->
  ∃parts,FV Qs parts/\∀ρ m,az ρ m (λad=>w.cell? ad) parts.flatten (cs.drop o)
 |[],[],o,cs,hc,_,hl,_=>by simp only[AQ,Zq1]at hc;refine⟨[],trivial,λρ m=> ?_⟩;rw[Zh2 (by omega)];exact az.nil
 |f::fs,Q::Qs,o,cs,hc,hO,hl,hf=>by
  simp only[AQ,Za9,Zq1]at hc;obtain⟨y,hy⟩:=hf f (by simp);obtain⟨as,hq,hv⟩:=hO.1 n _ y hy;obtain⟨parts,hp,Fy⟩:=ON fs Qs _ cs hc.2 hO.2 hl (λg hg=>hf g (Za0 _ hg));refine⟨as::parts,⟨hq,hp⟩,λρ m=> ?_⟩;have e:cs.drop o=(cs.drop f.offset).take (P.cellsOf f.type)++cs.drop (o+P.cellsOf f.type):=by
   rw[hc.1, <-Zl3,Zk2]
  rw[e,Zf3];exact(hv ρ m).append (Fy ρ m)
def fieldsOf(P:Program)(t:TypeId):List Field:=match P.underlying t with
 |some (.struct fs)=>fs.toList
 |_=>[]
def LF(P:Program)(t:TypeId):Bool:=match P.underlying t with
 |some (.struct _)=>true
 |_=>false
theorem OO{t:TypeId}(ts:List TypeId){Qs:List (List AV->Prop)}(hs:LF P t=true)(dF:(fieldsOf P t).map (·.type)=ts)(hc:AQ P (P.cellsOf t) 0 (fieldsOf P t)=true)(hO:ZK enc P w base spare held ts Qs):
  yN enc P w base spare held t λas=>∃parts,as=parts.flatten/\FV Qs parts:=
 fun fuel cs x hx=>by
  obtain⟨fs,ht⟩:∃fs,P.underlying t=some (.struct fs):=by
     unfold LF at hs;cases h:P.underlying t with
     |none=>rw[h]at hs;cases hs
     |some d=>rw[h]at hs;cases d<;>first|exact⟨_,rfl⟩|cases hs
  have ef:fieldsOf P t=fs.toList:=by unfold fieldsOf;rw[ht]
  rw[ef]at dF hc;subst dF;obtain⟨xs,n,_,_,hl,hxl,hf⟩:=DataW.trod_struct ht hx;obtain⟨parts,hp,hv⟩:=ON fs.toList Qs 0 cs hc hO hl (λf hf2=>by
     obtain⟨i,hi⟩:=List.getElem?_of_mem hf2;have Cb:fs[i]? =some f:=(by rw[<-Zg6];exact hi);have bw:i<fs.size:=(Zd2.1 Cb).1;exact⟨xs[i],by rw[hf i f Cb,H1 (by omega)]⟩)
  exact⟨_,⟨parts,rfl,hp⟩,λρ m=>hv ρ m⟩
end
def Yx(w w':World):Prop:=w'.os=w.os/\w'.tape=w.tape/\w'.output=w.output/\w.heap.size<=w'.heap.size/\∀k,k<w.heap.size->w'.heap[k]? =w.heap[k]?
def QE:List AV->St->Option (AV×St)
 |[],st=>some (.bool true,st)
 |_,_=>none
theorem Wp{P:Program}{C:Cells}{f:FuncId}{fn:Func}{c:Code}(hf:P.funcs[f]? =some fn)(fY:¬fn.name= "runtime.NumGoroutine")(hb:fn.body=some c)
  (h:∀w:World,(∀ad u,C ad=some u->w.cell? ad=some u)->Calls P f #[] w λe w'=>e= .returned (.bool true)/\Yx w w'):kT P C f QE where
 mono args st v st' hs:=by
  unfold QE at hs;split at hs<;>first|(cases hs;done)|skip
  simp only[H0,Zb6]at hs;rw[<-hs.2];exact Za3 _
 runs ρ st w args v st' bQ hs hW hv:=by
  unfold QE at hs;split at hs<;>first|(cases hs;done)|skip
  simp only[H0,Zb6]at hs;obtain⟨rfl,rfl⟩:=hs;obtain rfl:=hv.mL;have cC:(callFunc f ([]:List Value).toArray).run P w= .ok (.enter f #[]) w:=by simp[callFunc,hf,fY,hb]
  rw[cC];refine Calls.mono (h w λad u ha=>(hW.ek ad u ha).1) λe w' he=> ?_
  obtain⟨rfl,h1,h2,h3,h4,h5⟩:=he;exact⟨ρ,.bool true,λ_ _=>rfl,Za3 _,hW.grow h4 h5,⟨h1,h2,h3,h4,λk hk _=>h5 k hk,λb x hb=>.inl ⟨b,x,hb,rfl⟩⟩⟩
theorem afQ{P:Program}{C:Cells}{call:ah}{f:FuncId}{fn:Func}{c:Code}{args:List AV}{bQ:List Value}{b:Bool}{n0:Pos}{aW:St}{w:World}
  (cQ:fG P C call) (hC:∀ad v,C ad=some v->w.cell? ad=some v) (hC2:∀a v,C a=some v->∀o,C ⟨a.block,o,none⟩=none->w.cell? ⟨a.block,o,none⟩=none) (hf:P.funcs[f]? =some fn) (fY:¬fn.name= "runtime.NumGoroutine") (hb:fn.body=some c)
  (ha:az (λ_=>⟨0,0,0⟩) n0.toNat C args bQ) (h:call f args { heap:= .e,next:=n0 }=some (.bool b,aW)):
  Calls P f bQ.toArray w λe w'=>e= .returned (.bool b)/\Yx w w':=by
 have hr:=cQ (λ_=>⟨0,0,0⟩) { heap:= .e,next:=n0 } w f args (.bool b) aW bQ h (Db hC hC2) ha;have cC:(callFunc f bQ.toArray).run P w= .ok (.enter f bQ.toArray) w:=by simp[callFunc,hf,fY,hb]
 rw[cC]at hr;refine Calls.mono hr λe w' he=> ?_
 cases e with
 |returned x=>
  obtain⟨ρ',h1,_,_,_,hE⟩:=he;have:=h1.ir;subst this;exact⟨rfl,hE.os,hE.tape,hE.output,hE.size,λk hk=>hE.block k hk λb x hb=>by rw[T.ej]at hb;cases hb⟩
 |panicked c=>exact he.elim
 |outgrown=>exact he.elim
end
section
open Go Go.ChangeShapes Go.WideShapes Go.ChangeAt Go.RowKit
theorem Yx.below{w w':World}(h:Yx w w'):Below w.heap.size w w':=⟨h.1,h.2.1,h.2.2.1,h.2.2.2.1,h.2.2.2.2⟩
section
variable{H:Type}{enc:TypeId×Value->H}{P:Program}
theorem Ng{W W':World}(hl:laidOutB P=true)(hb:Below W.heap.size W W'):∀{ts:List TypeId}{vs:List Value}{ds:List (DataW H)}{p:List MemPlace},
  DataW.TrodAll enc P W 0 (λ_=>true) true ts vs ds p->(∀t∈ts,P.readableRec t=true/\t<P.types.size)->(∀x∈p,x.block<W.heap.size)->
  DataW.TrodAll enc P W' 0 (λb=>decide (b<W.heap.size)) true ts vs ds p
 |[],_,_,_,h,_,_=>by obtain⟨rfl,rfl,rfl⟩:=trodAll_nil h;exact trodAll_mk0
 |t::ts,_,_,_,h,hr,hx=>by
  obtain⟨v,vs1,d,ds1,a,b,rfl,rfl,rfl,h1,h2⟩:=trodAll_cons h
  exact trodAll_cons_mk (Below.trod hl (hr t (by simp)).1 (hr t (by simp)).2 h1 hb (λx Wz=>hx x (Zg1 _ Wz)))
   (Ng hl hb h2 (λt ht=>hr t (Za0 _ ht)) (λx Wz=>hx x (Zh5 _ Wz)))
theorem ad3{f:Func}{s:ChangeSpec}{W W':World}{args:Array Value}{ds gs:List (DataW H)}{before:List MemPlace}{tb:TypeId}(hl:laidOutB P=true)
   (hW:DataW.Whole enc P f.params.toList s.vars false W args.toList ds gs before) (hv:s.vars=[]) (Eh:s.fn H (ds++gs)={ results:=[.lit (.bool true)],args:=ds })
   (hr:∀t∈f.params.toList,P.readableRec t=true/\t<P.types.size) (hB:Below W.heap.size W W') (agy:f.resultTypes= #[tb]) (htb:P.underlying tb=some .bool):
   s.post enc P f false true false false W args (.bool true) W':=by
 have bw:=hW.lt;have fA:=hW;obtain⟨p,q,hA,hV,rfl,hfz,M7⟩:=hW;have hq:q=[]:=by
   rw[hv]at hV;cases gs with
   |nil=>exact hV
   |cons g gs=>exact hV.elim
 subst hq;refine⟨ds,gs,p++[],[],p,[],fA,?_,?_,?_,hB.frame _,λh=>by cases h⟩
 .rw[Eh,agy];exact trodAll_cons_mk (shut_bool htb _) trodAll_mk0
 .rw[Eh];exact Ng hl hB hA hr (λx hx=>bw x (Zg1 _ hx))
 .rw[Eh,hv];rfl
end
section
variable{H:Type}{enc:TypeId×Value->H}{P:Program}{w:World}{base:Nat}{spare:Nat->Bool}{held:Bool}
end
end
section
open Go
theorem aq.akw{ρ:Pos->Loc}{n:Nat}{C C':Cells}{v:AV}{x:Value}(hC:∀ad u,C ad=some u->C' ad=some u)(h:aq ρ n C v x):aq ρ n C' v x:=by
 induction h with
 |bool b=>exact .bool b
 |int k i=>exact .int k i
 |str s bs h=>exact .str s bs h
 |fH=>exact .fH
 |ptr b off h=>exact .ptr b off h
 |fp xs i j es aA base cell hl hc _ ih=>exact .fp xs i j es aA base cell hl (λi j cs v h1 h2=>hC _ _ (hc i j cs v h1 h2)) ih
 |av=>exact .av
 |slice b off len cap es aS a hl hc ha hk=>exact .slice b off len cap es aS a hl hc ha hk
 |fl xs es aS a cell hl hs eF hc _ ih=>exact .fl xs es aS a cell hl hs eF (λi j cs v h1 h2=>hC _ _ (hc i j cs v h1 h2)) ih
 |qe=>exact .qe
 |map b h=>exact .map b h
 |func f x y x' y' hx hy _ _ ih1 Wt=>exact .func f x y x' y' hx hy ih1 Wt
 |jR=>exact .jR
 |uT=>exact .uT
 |iface t v x _ ih=>exact .iface t v x ih
 |agg l cs hl _ ih=>exact .agg l cs hl ih
 |tuple l cs hl _ ih=>exact .tuple l cs hl ih
def j0(ρ:Pos->Loc)(n:Nat)(C:Cells)(w:World)(v u:AV):Prop:=∀x,aq ρ n C v x->aq ρ n (λad=>w.cell? ad) u x
section
variable{ρ:Pos->Loc}{C:Cells}{st:St}{w:World}
theorem j0.self{n:Nat}(hC:∀ad u,C ad=some u->w.cell? ad=some u)(v:AV):j0 ρ n C w v v:=λ_ h=>h.akw hC
theorem j0.agg{n:Nat}{l l':List AV}(hl:l.length=l'.length)(h:∀(i:Nat)(v u:AV),l[i]? =some v->l'[i]? =some u->j0 ρ n C w v u):j0 ρ n C w (.agg l) (.agg l'):=λx hx=>by
 cases hx with
 |agg _ cs h1 h2=>
  refine .agg l' cs (by omega) λi u x hu hx=> ?_
  have hi:i<l.length:=by rw[hl];exact(H5.1 hu).1
  exact h i l[i] u (H1 hi) hu _ (h2 i _ x (H1 hi) hx)
theorem j0.slice(hW:bn ρ C st w){b:Pos}{off len es fz:Nat}{cap:Option Nat}{cs:List AV}(hb:st.heap.get b=some (.cells cs fz))(hlen:off+len*es<=cs.length){F:List (List AV)}(hF:F.length=len)
  (eF:∀(i:Nat)(r:List AV),F[i]? =some r->r.length=es)
  (hr:∀(i j:Nat)(r:List AV)(u v:AV),F[i]? =some r->r[j]? =some u->cs[off+i*es+j]? =some v->j0 ρ st.next.toNat C w v u):
  j0 ρ st.next.toNat C w (.slice b off len cap es) (.fl F es):=λx hx=>by
 cases hx with
 |slice  _ _ _ _ _ aS a hl hc ha hk=>
  have get:∀(i j:Nat)(r:List AV)(u:AV),F[i]? =some r->r[j]? =some u->i<len/\j<es/\off+i*es+j<cs.length/\0<aS:=λi j r u h1 h2=>by
   have g1:i<len:=(by rw[<-hF];exact(H5.1 h1).1);have g2:j<es:=(by rw[<-eF i r h1];exact(H5.1 h2).1);have g3:(i+1)*es<=len*es:=Zh8 _ g1;rw[Zi7]at g3;exact⟨g1,g2,by omega,by omega⟩
  have cell:∀(i j:Nat)(r:List AV)(u:AV),F[i]? =some r->r[j]? =some u->∃v y,cs[off+i*es+j]? =some v/\w.cell? ⟨a.block,a.off+i*es+j,none⟩=some y/\aq ρ st.next.toNat C v y:=λi j r u h1 h2=>by
   obtain⟨g1,g2,g3,g4⟩:=get i j r u h1 h2;obtain⟨_,rfl,_⟩:=ha (by omega);have hv:=H1 g3;obtain⟨y,q1,q2⟩:=hW.cell hb hv;exact⟨_,y,hv,by rw[show(ρ b).base+off+i*es+j=(ρ b).base+(off+i*es+j)by omega];exact q1,q2⟩
  have key:aq ρ st.next.toNat (λad=>w.cell? ad) (.fl F es) (.slice (some a) F.length aS):=by
   refine .fl F es aS a (λi j=>(w.cell? ⟨a.block,a.off+i*es+j,none⟩).getD .nilFunc) (by omega) (λh0=> ?_) eF (λi j r u h1 h2=> ?_) (λi j r u h1 h2=> ?_)
   .    cases akx:len with
        |zero=>exfalso;apply h0;rw[akx]at hF;exact List.length_eq_zero_iff.1 hF
        |succ m=>
         obtain⟨_,rfl,_⟩:=ha (by omega);rfl
   .    obtain⟨v,y,_,q2,_⟩:=cell i j r u h1 h2;show w.cell? _=_;rw[q2];rfl
   .    obtain⟨v,y,q1,q2,q3⟩:=cell i j r u h1 h2;rw[q2];exact hr i j r u v h1 h2 q1 y q3
  rw[hF]at key;exact key
end
def dJ (st:St):Nat->AV->AV
 |0,v=>v
 |  d+  1,.slice b off len cap es=>match decide (len=0)with
    |true=>.fl [] es
    |false=>match st.heap.get b with
     |  some (.cells cs _)=>match decide (off+len*es<=cs.length)with
        |true=>.fl ((List.range len).map λi=>((cs.drop (off+i*es)).take es).map (dJ st d)) es
        |false=>.slice b off len cap es
     |_=>.slice b off len cap es
 |  d+1,.ptr b off=>match st.heap.get b with
    |some (.cells cs _)=>.fp [cs.map (dJ st d)] 0 off
    |_=>.ptr b off
 |d+1,.agg l=>.agg (l.map (dJ st d))
 |d+1,.func f x y=>.func f (x.map (dJ st d)) (y.map (dJ st d))
 |_,v=>v
theorem Xa(st:St)(d:Nat)(b:Pos)(off len:Nat)(cap:Option Nat)(es:Nat):dJ st (d+1) (.slice b off len cap es)=match decide (len=0)with
 |true=>.fl [] es
 |false=>match st.heap.get b with
  |     some (.cells cs _)=>match decide (off+len*es<=cs.length)with
        |true=>.fl ((List.range len).map λi=>((cs.drop (off+i*es)).take es).map (dJ st d)) es
        |false=>.slice b off len cap es
  |_=>.slice b off len cap es:=rfl
theorem aiD(st:St)(d:Nat)(b:Pos)(off:Nat):dJ st (d+1) (.ptr b off)=match st.heap.get b with
 |some (.cells cs _)=>.fp [cs.map (dJ st d)] 0 off
 |_=>.ptr b off:=rfl
theorem JY(st:St)(d:Nat)(l:List AV):dJ st (d+1) (.agg l)= .agg (l.map (dJ st d)):=rfl
theorem agz(st:St)(d:Nat)(f:FuncId)(x y:List AV):dJ st (d+1) (.func f x y)= .func f (x.map (dJ st d)) (y.map (dJ st d)):=rfl
section
variable{ρ:Pos->Loc}{C:Cells}{st:St}{w:World}
theorem j0.ptr(hW:bn ρ C st w){b:Pos}{off fz:Nat}{cs F:List AV}(hb:st.heap.get b=some (.cells cs fz))(hF:F.length=cs.length)
  (hr:∀(j:Nat)(u v:AV),F[j]? =some u->cs[j]? =some v->j0 ρ st.next.toNat C w v u):j0 ρ st.next.toNat C w (.ptr b off) (.fp [F] 0 off):=λx hx=>by
 cases hx with
 |ptr   _ _ h=>
  have row:∀(i j:Nat)(r:List AV)(u:AV),[F][i]? =some r->r[j]? =some u->i=0/\∃v y,cs[j]? =some v/\w.cell? ⟨(ρ b).aA,(ρ b).base+j,none⟩=some y/\aq ρ st.next.toNat C v y/\F[j]? =some u:=λi j r u h1 h2=>by
   have hi:i=0:=(by have:=(H5.1 h1).1;simp at this;exact this);subst hi;simp at h1;subst h1;have hj:j<cs.length:=(by rw[<-hF];exact(H5.1 h2).1);obtain⟨y,q1,q2⟩:=hW.cell hb (H1 hj);exact⟨rfl,_,y,H1 hj,q1,q2,h2⟩
  have key:aq ρ st.next.toNat (λad=>w.cell? ad) (.fp [F] 0 off) (.pointer (some ⟨(ρ b).aA,(ρ b).base+0*cs.length+off,none⟩)):=by
   refine .fp [F] 0 off cs.length (ρ b).aA (ρ b).base (λ_ j=>(w.cell? ⟨(ρ b).aA,(ρ b).base+j,none⟩).getD .nilFunc) (λi r h1=> ?_) (λi j r u h1 h2=> ?_) (λi j r u h1 h2=> ?_)
   .    have hi:i=0:=(by have:=(H5.1 h1).1;simp at this;exact this);subst hi;simp at h1;subst h1;exact hF
   .    obtain⟨rfl,v,y,_,q2,_⟩:=row i j r u h1 h2;show w.cell? _=_;rw[show(ρ b).base+0*cs.length+j=(ρ b).base+j by omega,q2];rfl
   .    obtain⟨rfl,v,y,q1,q2,q3,q4⟩:=row i j r u h1 h2;rw[q2];exact hr j u v q4 q1 y q3
  rw[show(ρ b).base+0*cs.length+off=(ρ b).base+off by omega]at key;exact key
theorem j0.dJ (hW:bn ρ C st w):∀(d:Nat)(v:AV),j0 ρ st.next.toNat C w v (dJ st d v)
 |0,v=>j0.self (λad u h=>(hW.ek ad u h).1) v
 |d+    1,v=>   by
  have self:=j0.self (ρ:=ρ) (n:=st.next.toNat) (λad u h=>(hW.ek ad u h).1) v;cases v with
  |slice    b off len cap es=>
   rw[Xa];split
   .    rename_i h0;obtain rfl:=Zh6 h0;intro x hx;cases hx with
        | slice _ _ _ _ _ aS a hl hc ha hk=>
          exact .fl [] es aS a (λ_ _=>.nilFunc) (Zi5 _) (λh=>absurd rfl h) (λi c h=>by simp at h) (λi j c v h=>by simp at h) (λi j c v h=>by simp at h)
   split
   .    rename_i cs fz hb;split
        . rename_i hle;have hle:=Zh6 hle;refine j0.slice hW hb hle (by simp) (λi r hi=> ?_) (λi j r u v hi hj hv=> ?_)
          . rw[Zb5]at hi;by_cases h:i<len
            .rw[Zo8 h]at hi;simp only[Ze3,H0]at hi;subst hi;have g3:(i+1)*es<=len*es:=Zh8 _ h;rw[Zi7]at g3;simp;omega
            .rw[Zc4 (by simpa using h)]at hi;cases hi
          . rw[ Zb5]at hi;by_cases h:i<len
            . rw[Zo8 h]at hi;simp only[Ze3,H0]at hi;subst hi;rw[Zb5,Zb8]at hj;split at hj
              .rw[Zd7,hv]at hj;simp only[Ze3,H0]at hj;subst hj;exact j0.dJ hW d v
              .cases hj
            .rw[Zc4 (by simpa using h)]at hi;cases hi
        .exact self
   .    exact self
  |ptr b off=>
   rw[aiD];split
   .    rename_i cs fz hb;refine j0.ptr hW hb (by simp) (λj u v hu hv=> ?_);rw[Zb5,hv]at hu;simp only[Ze3,H0]at hu;subst hu;exact j0.dJ hW d v
   .    exact self
  |agg l=>
   rw[JY];refine j0.agg (by simp) (λi v u h1 h2=> ?_);rw[Zb5,h1]at h2;simp only[Ze3,H0]at h2;subst h2;exact j0.dJ hW d v
  |func f x y=>
   rw[agz];intro v' hv;cases hv with
   |    func _ _ _ x' y' hx hy h1 h2=>
        have one:∀(l:List AV)(xs:Array Value),(∀(i:Nat)(v:AV)(v':Value),l[i]? =some v->xs[i]? =some v'->aq ρ st.next.toNat C v v')->∀(i:Nat)(v:AV)(v':Value),(l.map (Go.Ai.dJ st d))[i]? =some v->xs[i]? =some v'->aq ρ st.next.toNat (λad=>w.cell? ad) v v':=λl xs h i u v' hu hx=>by
          rw[Zb5]at hu;cases hg:l[i]? with
          |none=>rw[hg]at hu;cases hu
          | some v0=>
            rw[hg]at hu;simp only[Ze3,H0]at hu;subst hu;exact j0.dJ hW d v0 _ (h i v0 v' hg hx)
        exact .func f _ _ x' y' (by simpa using hx) (by simpa using hy) (one x x' h1) (one y y' h2)
  |_=>exact self
theorem az.dJ(hW:bn ρ C st w)(d:Nat){l:List AV}{xs:List Value}(h:az ρ st.next.toNat C l xs):az ρ st.next.toNat (λad=>w.cell? ad) (l.map (Go.Ai.dJ st d)) xs:=
 ⟨by rw[<-h.1];simp,λi u x hu hx=>by
  rw[Zb5]at hu;cases hv:l[i]? with
  |none=>rw[hv]at hu;cases hu
  |  some v=>
     rw[hv]at hu;simp only[Ze3,H0]at hu;subst hu;exact j0.dJ hW d v _ (h.2 i v x hv hx)⟩
end
def bR(v:AV):Prop:=∀(ρ:Pos->Loc)(n:Nat)(C C':Cells)(x:Value),aq ρ n C v x->aq ρ n C' v x
theorem bR.bool(b:Bool):bR (.bool b):=λ_ _ _ _ _ h=>by cases h;exact .bool b
theorem bR.int(k:IntKind)(i:Int):bR (.int k i):=λ_ _ _ _ _ h=>by cases h;exact .int k i
theorem bR.str(s:List Nat):bR (.str s):=λ_ _ _ _ _ h=>by cases h with|str _ bs h=>exact .str s bs h
theorem bR.av:bR .av:=λ_ _ _ _ _ h=>by cases h;exact .av
theorem bR.slice(b:Pos)(o l:Nat)(c:Option Nat)(es:Nat):bR (.slice b o l c es):=λ_ _ _ _ _ h=>by
 cases h with|slice _ _ _ _ _ aS a h1 h2 h3 h4=>exact .slice b o l c es aS a h1 h2 h3 h4
theorem bR.tuple{l:List AV}(hl:∀v∈l,bR v):bR (.tuple l):=λ_ _ _ _ _ h=>by
 cases h with|tuple _ cs hx h1=>exact .tuple l cs hx λi v x hv hx=>hl v (Zc5 hv) _ _ _ _ _ (h1 i v x hv hx)
theorem bR.agg{l:List AV}(hl:∀v∈l,bR v):bR (.agg l):=λ_ _ _ _ _ h=>by
 cases h with|agg _ cs hx h1=>exact .agg l cs hx λi v x hv hx=>hl v (Zc5 hv) _ _ _ _ _ (h1 i v x hv hx)
def LG:AB->Prop
 |.cells cs _=>∀v∈cs,bR v
 |.map es _=>∀e∈es,bR e.1/\bR e.2.1
 |.jS _ _=>True
 |.typed _ cs=>∀v∈cs,bR v
theorem LG.rel{x:AB}(h:LG x){ρ:Pos->Loc}{n:Nat}{C C':Cells}{L:Loc}{w:World}(k:mQ ρ n C L w x):mQ ρ n C' L w x:=by
 cases x with
 |cells cs fz=>
  obtain⟨c,e,fr,h1,h2,h3,h4,h5⟩:=k;exact⟨c,e,fr,h1,h2,h3,⟨h4.1,λi v x hv hx=>h v (Zc5 hv) _ _ _ _ _ (h4.2 i v x hv hx)⟩,h5⟩
 |map es clock=>
  obtain⟨es',h1,h2,h3⟩:=k;exact⟨es',h1,h2,λi e e' he kX=>let⟨a,b,c⟩:=h3 i e e' he kX;⟨(h e (Zc5 he)).1 _ _ _ _ _ a,(h e (Zc5 he)).2 _ _ _ _ _ b,c⟩⟩
 |jS s pos=>exact k
 |typed t cs=>
  obtain⟨c,fr,h1,h2,h3,h4,h5⟩:=k;exact⟨c,fr,h1,h2,h3,⟨h4.1,λi v x hv hx=>h v (Zc5 hv) _ _ _ _ _ (h4.2 i v x hv hx)⟩,h5⟩
def T.both{α:Type}:T α->T α->T α
 |t,.e=>t
 |.e,t=>t
 |.n l v r,.n l' v' r'=>.n (T.both l l') (v.or v') (T.both r r')
theorem T.aeE{α:Type}(t:T α):T.both t .e=t:=by cases t<;>rfl
theorem T.CB{α:Type}:∀(p:Pos)(t t':T α),(T.both t t').get p=(t.get p).or (t'.get p)
 |p,t,.e=>by rw[T.aeE,T.ej];simp
 |p,.e,.n l v r=>by rw[T.ej];rfl
 |.h,.n l v r,.n l' v' r'=>rfl
 |.o p,.n l v r,.n l' v' r'=>T.CB p l l'
 |.i p,.n l v r,.n l' v' r'=>T.CB p r r'
def T.keep{α:Type}(P:α->Bool):T α->T α
 |.e=>.e
 |.n l v r=>.n (T.keep P l) (v.filter P) (T.keep P r)
theorem T.LH{α:Type}(P:α->Bool):∀(p:Pos)(t:T α),(T.keep P t).get p=(t.get p).filter P
 |p,.e=>by rw[T.keep,T.ej];rfl
 |.h,.n l v r=>rfl
 |.o p,.n l v r=>T.LH P p l
 |.i p,.n l v r=>T.LH P p r
open Classical in
noncomputable def AR(t:T AB):T AB:=T.keep (λx=>decide (LG x)) t
theorem Xb{t:T AB}{p:Pos}{x:AB}(h:(AR t).get p=some x):t.get p=some x/\LG x:=by
 unfold AR at h;rw[T.LH]at h;cases hg:t.get p with
 |none=>rw[hg]at h;cases h
 |some y=>
  rw[hg]at h;simp only[Option.filter]at h;split at h
  .rename_i hb;cases h;exact⟨rfl,@Zh6 _ (Classical.propDecidable _) hb⟩
  .cases h
theorem aeF{t:T AB}{p:Pos}{x:AB}(h:t.get p=some x)(hb:LG x):(AR t).get p=some x:=by
 unfold AR;rw[T.LH,h];simp[Option.filter,hb]
theorem aiE:AR .e= .e:=rfl
def Shut(n0:Pos)(r:AV×St):Prop:=bR r.1/\n0.toNat<=r.2.next.toNat
open Classical in
noncomputable def LJ(call:ah)(f:FuncId)(d:Nat):List AV->St->Option (AV×St):=λargs st=>
 match call f (args.map (dJ st d)) { heap:= .e,next:=st.next }with
 |some (v,aW)=>if Shut st.next (v,aW)then some (v,{ heap:=T.both st.heap (AR aW.heap),next:=aW.next })else none
 |none=>none
theorem ab1{call:ah}{f:FuncId}{d:Nat}{args:List AV}{st:St}{v:AV}{aW:St}(h:call f (args.map (dJ st d)) { heap:= .e,next:=st.next }=some (v,aW))(hs:Shut st.next (v,aW)):
  LJ call f d args st=some (v,{ heap:=T.both st.heap (AR aW.heap),next:=aW.next }):=by
 unfold LJ;rw[h];simp only;rw[Za4 hs]
theorem agA{call:ah}{f:FuncId}{d:Nat}{args:List AV}{st:St}{v:AV}(h:call f (args.map (dJ st d)) { heap:= .e,next:=st.next }=some (v,{ heap:= .e,next:=st.next }))(hs:bR v):
  LJ call f d args st=some (v,st):=by
 rw[ab1 h ⟨hs,Za3 _⟩];simp only[aiE,T.aeE]
theorem afP {P:Program}{C:Cells}{f:FuncId}{call:ah}{d:Nat}(cg:∀C':Cells,(∀ad u,C ad=some u->C' ad=some u)->fG P C' call):kT P C f (LJ call f d) where
 mono args st v st' h:=by
  unfold LJ at h;split at h
  . split at h
    .   rename_i hs;simp only[H0,Zb6]at h;rw[<-h.2];exact hs.2
    .   cases h
  .cases h
 runs ρ st  w args v st' bQ h hW hv:=by
  unfold LJ at h;split at h
  . rename_i v1 aW hc;split at h
    .   rename_i hs;simp only[H0,Zb6]at h;obtain⟨rfl,rfl⟩:=h;obtain⟨s1,s3⟩:=hs;have hr:=cg (λad=>w.cell? ad) (λad u ha=>(hW.ek ad u ha).1) ρ { heap:= .e,next:=st.next } w f _ v1 aW bQ hc (Db (λad u ha=>ha) λa u _ o ho=>ho) (az.dJ hW d hv);refine Reaches.mono (λx w' he=> ?_) hr
        . obtain⟨ρ',h1,h2,h3,h4,hE⟩:=he;have un:∀k,k<w.heap.size->w'.heap[k]? =w.heap[k]? :=λk hk=>hE.block k hk λb x hb=>by rw[T.ej]at hb;cases hb
          have new:∀b x,aW.heap.get b=some x->w.heap.size<=(ρ' b).aA:=λb x hx=>by
            rcases hE.oU b x hx with⟨b',x',jw,_⟩|hh
            .rw[T.ej]at jw;cases jw
            .exact hh
          have both:∀b x,(T.both st.heap (AR aW.heap)).get b=some x->(st.heap.get b=some x/\ρ' b=ρ b)\/(aW.heap.get b=some x/\LG x):=λb x hx=>by
            rw[T.CB]at hx;cases hg:st.heap.get b with
            |none=>rw[hg]at hx;exact .inr (Xb (by simpa using hx))
            |some y=>rw[hg]at hx;simp at hx;subst hx;exact .inl ⟨rfl,h2 b (hW.live b y hg).1⟩
          refine⟨ρ',s1 _ _ _ _ _ h1,h2,s3,⟨λb x hx=> ?_,λb b' x x' hx kg HJ=> ?_,λa u ha=> ?_,λa u ha o ho=> ?_⟩,⟨hE.os,hE.tape,hE.output,hE.size,λk hk _=>un k hk,λb x hx=> ?_⟩⟩
          . rcases both b x hx with⟨hg,aY⟩|⟨hg,Yy⟩
            .obtain⟨l1,l2,l3⟩:=hW.live b x hg;refine⟨Zc8 l1 s3,by rw[aY];exact Zc8 l2 hE.size,?_⟩;rw[aY];exact(l3.of_heap (un _ l2)).mono h2 s3
            .obtain⟨l1,l2,l3⟩:=h4.live b x hg;exact⟨l1,l2,Yy.rel l3⟩
          . rcases both b x hx with⟨hg,aY⟩|⟨hg,Yy⟩
            . rcases both b' x' kg with⟨Tq,Cy⟩|⟨Tq,_⟩
              .rw[aY,Cy]at HJ;exact hW.inj b b' x x' hg Tq HJ
              .have q1:=(hW.live b x hg).2.1;have q2:=new b' x' Tq;rw[aY]at HJ;omega
            . rcases both b' x' kg with⟨Tq,Cy⟩|⟨Tq,_⟩
              .have q1:=(hW.live b' x' Tq).2.1;have q2:=new b x hg;rw[Cy]at HJ;omega
              .exact h4.inj b b' x x' hg Tq HJ
          . obtain⟨c1,c2⟩:=hW.ek a u ha;have bw:a.block<w.heap.size:=World.block_lt_of_cell? _ _ c1;refine⟨(h4.ek a u c1).1,λb x hx=> ?_⟩;rcases both b x hx with⟨hg,aY⟩|⟨hg,Yy⟩
            .rw[aY];exact c2 b x hg
            .have:=new b x hg;omega
          .have bw:a.block<w.heap.size:=World.block_lt_of_cell? _ _ (hW.ek a u ha).1;rw[World.cell?_of_block (w:=w) (a:=⟨a.block,o,none⟩) (un _ bw)];exact hW.whole a u ha o ho
          . rcases both b x hx with⟨hg,aY⟩|⟨hg,Yy⟩
            .exact .inl ⟨b,x,hg,by rw[aY]⟩
            .exact .inr (new b x hg)
    .   cases h
  .cases h
theorem aiF(H:Pos->Option AB)(n:Pos)(k k':IntKind)(a b:Int):ax.run H n .minB [.int k a,.int k' b]=some (.val (.int k (min a b))):=by
 show some (cL.val (.int k (match CT b a with|true=>b|false=>a)))=_;rw[eJ];by_cases h:b<a
 .rw[H2 h];simp only;rw[Int.min_eq_right (by omega)]
 .rw[H3 h];simp only;rw[Int.min_eq_left (by omega)]
section
variable{R:Type}(c:ah)(K:AV->St->Option R)(st:St)
@[simp] theorem aiG(k k':IntKind)(a b:Int):ai c .minB [.int k a,.int k' b] st K=K (.int k (min a b)) st:=aP c K (λH n=>aiF H n k k' a b) st
end
def dY:AV->Option Pos
 |.slice b _ n cap _=>if cap=some 0/\n=0 then none else some b
 |_=>none
theorem HW{b b':Pos}{off n es:Nat}{cap:Option Nat}(h:dY (.slice b off n cap es)=some b'):b=b':=by
 simp only[dY]at h;split at h
 .cases h
 .exact Zf4 h
theorem zH(b:Pos)(off n es:Nat):dY (.slice b off n none es)=some b:=by simp[dY]
theorem iW(b:Pos)(off es:Nat):dY (.slice b off 0 (some 0) es)=none:=by simp[dY]
def QS(es:Nat)(s:St)(v:AV)(rows:List (List AV)):Prop:=
 (v= .av/\rows=[])\/(∃b off cap cs,v= .slice b off rows.length cap es/\s.heap.get b=some (.cells cs 0)/\off+rows.length*es<=cs.length/\(cs.drop off).take (rows.length*es)=rows.flatten/\(cap=none\/cap=some rows.length))\/
    (∃b off,v= .slice b off 0 (some 0) es/\rows=[])
theorem QS.nil{es:Nat}{s:St}:QS es s .av []:= .inl ⟨rfl,rfl⟩
theorem QS.mono{es:Nat}{s s':St}{v:AV}{rows:List (List AV)}(h:QS es s v rows)(hk:∀b x,dY v=some b->s.heap.get b=some x->s'.heap.get b=some x):QS es s' v rows:=by
 rcases h with⟨rfl,rfl⟩|⟨b,off,cap,cs,rfl,h1,h2,h3,h4⟩|⟨b,off,rfl,rfl⟩
 .exact .inl ⟨rfl,rfl⟩
 . by_cases h0:cap=some 0/\rows.length=0
   .obtain⟨rfl,h0⟩:=h0;refine .inr (.inr ⟨b,off,by rw[h0],Zb0 h0⟩)
   .exact .inr (.inl ⟨b,off,cap,cs,rfl,hk b _ (by simp only[dY];rw[Za2 h0]) h1,h2,h3,h4⟩)
 .exact .inr (.inr ⟨b,off,rfl,rfl⟩)
theorem QS.len{es:Nat}{s:St}{v:AV}{rows:List (List AV)}(h:QS es s v rows):dH v=some rows.length:=by rcases h with⟨rfl,rfl⟩|⟨b,off,cap,cs,rfl,_⟩|⟨b,off,rfl,rfl⟩<;>rfl
theorem QS.lt{es:Nat}{s:St}{v:AV}{rows:List (List AV)}(h:QS es s v rows)(hw:Wf s){b:Pos}(hb:dY v=some b):b.toNat<s.next.toNat:=by
 rcases h with⟨rfl,rfl⟩|⟨b',off,cap,cs,rfl,h1,_⟩|⟨b',off,rfl,rfl⟩
 .cases hb
 .obtain rfl:=HW hb;exact hw _ _ h1
 .rw[iW]at hb;cases hb
theorem QS.first{es:Nat}{s:St}{v:AV}{rows:List (List AV)}(h:QS es s v rows)(hr:∀r∈rows,r.length=es):cJ es rows.length (λb=>s.heap.get b) v=some rows.flatten:=by
 rcases h with⟨rfl,rfl⟩|⟨b,off,cap,cs,rfl,h1,h2,h3,h4⟩|⟨b,off,rfl,rfl⟩
 .rfl
 rotate_left
 .simp[cJ,cW]
 . by_cases h0:rows.length*es=0
   .simp only[cJ,cW,H2 h0];have:rows.flatten=[]:=(by rw[<-h3,h0];simp);rw[this]
   .simp only[cJ,cW,H3 h0,h1];unfold cut;rw[cF,H2 h2];simp only;rw[h3]
theorem QS.app{R:Type}{c:ah}{es bytes:Nat}{s:St}{v:AV}{rows:List (List AV)}(hw:Wf s)(h:QS es s v rows)(hr:∀r∈rows,r.length=es){q:Pos}{row:List AV}(hq:s.heap.get q=some (.cells row 0))(AD:row.length=es)(h1:bg row=true)
   (eF:es≠0) (hb:(2*(rows.length+1)+768)*bytes<=281474976710656) (hn:rows.length<=4000000):
   ∃ s5,(∀(K:AV->St->Option R),ai c (.append es bytes) [v,.slice q 0 1 (some 1) es] s K=K (.slice s.next 0 (rows.length+1) none es) s5)/\QS es s5 (.slice s.next 0 (rows.length+1) none es) (rows++[row])/\
     Wf s5/\s5.next=s.next.succ/\(∀p,dY v≠some p->p.toNat<s.next.toNat->s5.heap.get p=s.heap.get p)/\s5.heap.get s.next=some (.cells (rows.flatten++row) 0):=by
 have hx:cJ es 1 (λb=>s.heap.get b) (.slice q 0 1 (some 1) es)=some row:=by simp only[cJ,cW,Zo6,H3 eF,hq];exact bJ AD
 have ho:=h.first hr;have hlen:rows.flatten.length=rows.length*es:=by
   clear h ho hn hb;induction rows with
   |nil=>simp
   | cons r rows ih=>
     have:=ih (λx hx=>hr x (Za0 _ hx));have h2:=hr r (by simp);simp only[Zf3,Zb1,Zb2,Zi7];omega
 have new:∀(s5:St),s5.heap.get s.next=some (.cells (rows.flatten++row) 0)->QS es s5 (.slice s.next 0 (rows.length+1) none es) (rows++[row]):=λs5 hs=>by
   refine .inr (.inl ⟨s.next,0,none,rows.flatten++row,by simp,hs,?_,?_,.inl rfl⟩)
   .simp only[Zb1,Zb2,Zc3,Zc7,Zj7,Zo6,hlen,AD];omega
   .simp only[Zb7,List.flatten_append,Zf3,List.flatten_nil,Ze9];refine Zg0 ?_;simp only[Zb1,Zb2,Zc3,Zc7,Zj7,Zo6,hlen,AD];omega
 have l6:(2*(rows.length+1)+768)*bytes<=281474976710656:=hb;have Dg:rows.length+1<=9223372036854775807:=by omega
 rcases h with⟨rfl,rfl⟩|⟨b,off,cap,cs,rfl,g1,g2,g3,g4⟩|⟨b,off,rfl,rfl⟩
 rotate_right
 . have run:ax.run (λb=>s.heap.get b) s.next (.append es bytes) [.slice b off 0 (some 0) es,.slice q 0 1 (some 1) es]=some (.aI (.slice s.next 0 (0+1) none es) none none (some (.cells ([]++row) 0))):=(by have h2:¬(0+1<=0):=(by omega);have FG:cJ es 0 (λb=>s.heap.get b) (.slice b off 0 (some 0) es)=some []:=(by simp[cJ,cW]);simp only[ax.run,gH];rw[show dH (.slice b off 0 (some 0) es)=some 0 from rfl,show dH (.slice q 0 1 (some 1) es)=some 1 from rfl];have hb3:(2*(0+1)+768)*bytes<=281474976710656:=(by simpa using hb);simp only[cF,cW,H2 hb3,H3 h2,hx,FG];simp);refine⟨af s (.cells row 0),λK=> ?_,?_,bM hw,rfl,λp _ hp=>mI hp,by simpa using aC s (.cells row 0)⟩
   .unfold ai bY;simp only[Zc3]at run ⊢; rw[run];rfl
   .simpa using new (af s (.cells row 0)) (by simpa using aC s (.cells row 0))
 .refine⟨af s (.cells row 0),λK=>ZI c K (m:=1) rfl (by omega) (by simpa using hb) (by omega) hx,?_,bM hw,rfl,λp _ hp=>mI hp,by simpa using aC s (.cells row 0)⟩;simpa using new (af s (.cells row 0)) (by simpa using aC s (.cells row 0))
 . rcases g4 with rfl|rfl
   .have run:ax.run (λb=>s.heap.get b) s.next (.append es bytes) [.slice b off rows.length none es,.slice q 0 1 (some 1) es]=some (.aI (.slice s.next 0 (rows.length+1) none es) (some b) none (some (.cells (rows.flatten++row) (0 - off)))):=(by simp only[ax.run,gH];rw[show dH (.slice b off rows.length none es)=some rows.length from rfl,show dH (.slice q 0 1 (some 1) es)=some 1 from rfl];simp only[cF,cW,H2 l6,H2 Dg,hx,g1,ho,h1];simp);refine⟨dst s b (.cells (rows.flatten++row) 0),λK=> ?_,new _ (Vq _ _ _),aeA hw,rfl,λp hp hl=>Ub (λe=>hp (by rw[e,zH])) hl,Vq _ _ _⟩;unfold ai bY;rw[run];simp only[Nat.zero_sub];rfl
   . have h2:¬(rows.length+1<=rows.length):=(by omega);have run:ax.run (λb=>s.heap.get b) s.next (.append es bytes) [.slice b off rows.length (some rows.length) es,.slice q 0 1 (some 1) es]=some (.aI (.slice s.next 0 (rows.length+1) none es) none none (some (.cells (rows.flatten++row) 0))):=by
        simp only[ax.run,gH];rw[show dH (.slice b off rows.length (some rows.length) es)=some rows.length from rfl,show dH (.slice q 0 1 (some 1) es)=some 1 from rfl];simp only[cF,cW,H2 l6,H2 Dg,H3 h2,hx,ho]
     refine⟨af s (.cells (rows.flatten++row) 0),λK=> ?_,new _ (aC _ _),bM hw,rfl,λp _ hp=>mI hp,aC _ _⟩;unfold ai bY;rw[run];rfl
theorem aiH{R:Type}{c:ah}{es:Nat}{z:List AV}{x:AV}(hz:z.length=es)(hx:x.cells.length=es)(s:St)(K:AV->St->Option R):
  ai c (.buildSlice es 1 z [0]) [x] s K=K (.slice s.next 0 1 (some 1) es) (af s (.cells x.cells 0)):=by
 have:cI (bZ z 1) ([0].map λi=>(i*es,es)) [x]=some x.cells:=by
  simp only[Zb4,Ze0,Zp1,bZ,Ze9,cI,cW,cF,hx,Zf6,Zc7,hz,Za3];simp only[aL,List.take_zero,Ze6,Zc7];rw[Zn6 (by omega),Ze9]
 rw[eo,this];rfl
structure Mk(es:Nat)(s0 s:St)(v:AV)(rows:List (List AV)):Prop where
 wO:Wf s0
 aN:Grew s0 s
 own:QS es s v rows
 new:∀b,dY v=some b->s0.next.toNat<=b.toNat
 row:∀r∈rows,r.length=es
 cap:∀b off n cp e,v= .slice b off n cp e->cp=none\/(n=0/\cp=some 0)
 tight:∀b,dY v=some b->s.heap.get b=some (.cells rows.flatten 0)
theorem Mk.start{es:Nat}{s0 s:St}(h0:Wf s0)(hg:Grew s0 s):Mk es s0 s .av []:=⟨h0,hg,QS.nil,λb h=>(by cases h),λr h=>(by cases h),λb off n cp e h=>(by cases h),λb h=>(by cases h)⟩
theorem Mk.grow{es:Nat}{s0 s s':St}{v:AV}{rows:List (List AV)}(h:Mk es s0 s v rows)(hg:Grew s s'):Mk es s0 s' v rows:=
 ⟨h.wO,h.aN.trans hg,h.own.mono λb x _ hx=>hg.get hx,h.new,h.row,h.cap,λb hb=>hg.get (h.tight b hb)⟩
theorem Mk.push{R:Type}{c:ah}{es bytes:Nat}{s0 s:St}{v:AV}{rows:List (List AV)}(h:Mk es s0 s v rows){z:List AV}{x:AV}(hz:z.length=es)(hx:x.cells.length=es)(h1:bg x.cells=true)(eF:es≠0)
   (hb:(2*(rows.length+1)+768)*bytes<=281474976710656) (hn:rows.length<=4000000):
   ∃ s5 v',(∀(K:AV->St->Option R),ai c (.buildSlice es 1 z [0]) [x] s (λy t=>ai c (.append es bytes) [v,y] t K)=K v' s5)/\Mk es s0 s5 v' (rows++[x.cells])/\
     (∀p b,dY v≠some p->s.heap.get p=some b->s5.heap.get p=some b)/\∀b,dY v'=some b->s.next.toNat<=b.toNat:=by
 have hw:=h.aN.wf;have cw:Wf (af s (.cells x.cells 0)):=bM hw;have g1:=Grew.af hw (.cells x.cells 0);obtain⟨s5,a1,a2,a3,a4,a5,a6⟩:=QS.app (R:=R) (c:=c) (bytes:=bytes) cw (h.own.mono λb x _ hx=>g1.get hx) h.row (aC s (.cells x.cells 0)) hx h1 eF hb hn;have keep:∀p b,dY v≠some p->s.heap.get p=some b->s5.heap.get p=some b:=λp b hp hg=>by have bw:=hw _ _ hg;rw[a5 p hp (by rw[dX,Pos.aB];omega)];exact g1.get hg
 refine⟨s5,_,λK=> ?_,⟨h.wO,⟨a3,λp b hg=> ?_,?_⟩,a2,λb hb=> ?_,λr hr=> ?_,λb off n cp e he=> ?_,λb hb=> ?_⟩,keep,λb hb=> ?_⟩
 .rw[aiH hz hx,a1]
 .have zI:=h.aN.get hg;refine keep p b (λe=> ?_) zI;have:=h.new p e;have:=h.wO p b hg;omega
 .have:=h.aN.next;rw[a4,dX,Pos.aB,Pos.aB];omega
 .rw[zH]at hb;cases hb;have:=h.aN.next;rw[dX,Pos.aB];omega
 . rcases Zd5.1 hr with hr|hr
   .exact h.row r hr
   .simp at hr;subst hr;exact hx
 .cases he;exact .inl rfl
 .rw[zH]at hb;cases hb;rw[a6];simp
 .rw[zH]at hb;cases hb;rw[dX,Pos.aB];omega
theorem j3{b:Pos}{off n es:Nat}(h:Plain (.slice b off n none es)):False:=by
 have h1:aq (λ_=>⟨0,0,off+n*es⟩) (b.toNat+1) (λ_=>none) (.slice b off n none es) (.slice (some ⟨0,0+off,none⟩) n n):=
  .slice b off n none es n _ (Za3 _) (λc hc=>by cases hc) (λ_=>⟨by omega,rfl,by simp⟩) (λ_=>by omega)
 have h2:=h _ (λ_=>⟨0,0,0⟩) _ 0 _ _ h1;cases h2 with
 |slice _ _ _ _ _ _ _ _ _ _ hk=>exact absurd (hk rfl) (by omega)
theorem Mk.tidy{es:Nat}{s s':St}{v:AV}{rows:List (List AV)}(h:Mk es s s' v rows):∃eY,Go.Ai.tidy s (v,s')=(v,eY)/\Mk es s eY v rows:=by
 unfold Go.Ai.tidy;by_cases hp:Plain (v,s').1/\aM s (v,s').2
 . rw[Za4 hp];refine⟨s,rfl,?_⟩;rcases h.own with⟨rfl,rfl⟩|⟨b,off,cap,cs,rfl,_⟩|⟨b,off,rfl,rfl⟩
   .exact Mk.start h.wO (Grew.refl h.wO)
   . rcases h.cap _ _ _ _ _ rfl with rfl|⟨h0,rfl⟩
     .exact(j3 hp.1).elim
     .exact⟨h.wO,Grew.refl h.wO,.inr (.inr ⟨b,off,by rw[h0],Zb0 h0⟩),λb hb=>(by rw[h0,iW]at hb;cases hb),h.row,h.cap,λb hb=>(by rw[h0,iW]at hb;cases hb)⟩
   .exact⟨h.wO,Grew.refl h.wO,.inr (.inr ⟨b,off,rfl,rfl⟩),λb hb=>(by rw[iW]at hb;cases hb),h.row,h.cap,λb hb=>(by rw[iW]at hb;cases hb)⟩
 .rw[Za2 hp];exact⟨s',rfl,h⟩
theorem QS.dJ{es d:Nat}{s:St}{v:AV}{rows:List (List AV)}(h:QS es s v rows)(hr:∀r∈rows,r.length=es):
   ∃z,Go.Ai.dJ s (d+1) v=ro es z (rows.map λr=>r.map (Go.Ai.dJ s d)):=by
 rcases h with⟨rfl,rfl⟩|⟨b,off,cap,cs,rfl,h1,h2,h3,h4⟩|⟨b,off,rfl,rfl⟩
 .exact⟨true,rfl⟩
 rotate_left
 .exact⟨false,rfl⟩
 . refine⟨false,?_⟩;by_cases h0:rows.length=0
   .obtain rfl:=Zb0 h0;rfl
   rw[Xa,H3 h0];simp only;rw[h1];simp only[H2 h2];show AV.fl _ _=AV.fl _ _;congr 1;(refine List.ext_getElem (by simp) λi p1 p2=> ?_);simp only[Zb3,List.length_range]at p1;simp only[Zi2,List.getElem_range];congr 1;have key:∀(rows:List (List AV))(i:Nat)(hi:i<rows.length),(∀r∈rows,r.length=es)->((rows.flatten).drop (i*es)).take es=rows[i]:=by
     intro rows;induction rows with
     |nil=>intro i hi;simp at hi
     |  cons r rows ih=>
        intro i hi hr;have hl:=hr r (by simp);cases i with
        |zero=>simp[<-hl]
        |succ i=>
         have:=ih i (by simpa using hi) (λx hx=>hr x (Za0 _ hx));rw[Zf3,Zi7,Nat.add_comm, <-hl,List.drop_append];simp only[Zn7];rw[<-this,hl];simp[Zh2 (show r.length<=es+i*es by omega)]
   rw[<-key rows i p1 hr, <-h3];rw[List.drop_take,Zp5,Zl3];congr 1;have:(i+1)*es<=rows.length*es:=Zh8 _ p1;rw[Zi7]at this;omega
section
variable{R:Type}(c:ah)(K:AV->St->Option R)(st:St)
theorem CC{b:Pos}{off len es es':Nat}{cap:Option Nat}{k:IntKind}{i:Nat}(h:i<len):ai c (.idxA es none) [.slice b off len cap es',.int k (i:Int)] st K=K (.ptr b (off+i*es)) st:=
 aP c K (λH n=>by
  simp only[ax.run,mK,eM];have:Nat.blt i len=true:=by rw[Zp6];exact h
  rw[this]) st
theorem rO(b:Pos)(off len es:Nat)(cap:Option Nat):ai c (.lenB .l) [.slice b off len cap es] st K=K (.int .i64 (len:Int)) st:=aP c K (λH n=>rfl) st
theorem QF{es bytes:Nat}{z:List AV}{k k':IntKind}{n:Nat}(h1:bytes*n<=281474976710656)(h2:n<=9223372036854775807):
  ai c (.mkSlice es bytes z) [.int k (n:Int),.int k' (n:Int)] st K=K (.slice st.next 0 n (some n) es) (af st (.cells (bZ z n) 0)):=by
 have:ax.run (λb=>st.heap.get b) st.next (.mkSlice es bytes z) [.int k (n:Int),.int k' (n:Int)]=some (.aI (.slice st.next 0 n (some n) es) none none (some (.cells (bZ z n) 0))):=by
  simp only[ax.run,Au,eM,cF,H2 h1,H2 h2,Za3,Zf6]
 unfold ai bY;rw[this];rfl
end
theorem AS{α:Type}(x:α):∀n:Nat,bZ [x] n=List.replicate n x
 |0=>rfl
 |n+1=>by simp[bZ,AS x n,Zm6]
theorem FW{rows:List (List AV)}{es:Nat}(hr:∀r∈rows,r.length=es):∀(i j:Nat)(r:List AV)(u:AV),rows[i]? =some r->r[j]? =some u->rows.flatten[i*es+j]? =some u:=by
 induction rows with
 |nil=>intro i j r u h;simp at h
 |cons r0 rows ih=>
  intro i j r u h1 h2;have hl:=hr r0 (by simp);cases i with
  |zero=>
   simp at h1;subst h1;have:=(H5.1 h2).1;rw[Zf3,Zp1,Zc7,Zd9 this];exact h2
  |succ i=>
   rw[Zf3,Zd1 (by rw[Zi7];omega)];rw[show(i+1)*es+j - r0.length=i*es+j by rw[Zi7];omega];exact ih (λx hx=>hr x (Za0 _ hx)) i j r u (by simpa using h1) h2
theorem QS.lenB{R:Type}{c:ah}{es:Nat}{s:St}{v:AV}{rows:List (List AV)}(h:QS es s v rows)(K:AV->St->Option R)(s1:St):ai c (.lenB .l) [v] s1 K=K (.int .i64 (rows.length:Int)) s1:=by
 rcases h with⟨rfl,rfl⟩|⟨b,off,cap,cs,rfl,_⟩|⟨b,off,rfl,rfl⟩
 .exact aP c K (λH n=>rfl) s1
 .exact rO c K s1 _ _ _ _ _
 .exact rO c K s1 _ _ _ _ _
def gu(v:AV):Prop:=∃N0 K0:Nat,∀N K:Nat,N0<=N->K0<=K->∃x,aq (λ_=>⟨0,0,K⟩) N (λ_=>none) v x
theorem gu.int(k:IntKind)(i:Int):gu (.int k i):=⟨0,0,λ_ _ _ _=>⟨_,.int k i⟩⟩
theorem gu.bool(b:Bool):gu (.bool b):=⟨0,0,λ_ _ _ _=>⟨_,.bool b⟩⟩
theorem gu.av:gu .av:=⟨0,0,λ_ _ _ _=>⟨_,.av⟩⟩
theorem gu.str{s:List Nat}(h:∀x∈s,x<256):gu (.str s):=⟨0,0,λ_ _ _ _=>⟨.string ⟨(s.map UInt8.ofNat).toArray⟩,.str s _ (by
 show(s.map UInt8.ofNat).toArray.toList.map UInt8.toNat=s;simp only[Zh1]
 conv=>rhs;rw[<-Zq7 s]
 refine Zj9 λc hc=> ?_
 have:=h c hc;simp[UInt8.toNat_ofNat];omega)⟩⟩
theorem gu.slice(b:Pos)(off n es:Nat):gu (.slice b off n none es):=⟨b.toNat+1,off+n*es,λN K hN hK=>⟨.slice (some ⟨0,0+off,none⟩) n n,
 .slice b off n none es n _ (Za3 _) (λc hc=>by cases hc) (λ_=>⟨by omega,rfl,by simpa using hK⟩) (λ_=>by omega)⟩⟩
theorem gu.zero(b:Pos)(off es:Nat):gu (.slice b off 0 (some 0) es):=⟨0,0,λN K _ _=>⟨.slice (some ⟨0,0,none⟩) 0 0,
 .slice b off 0 (some 0) es 0 _ (Za3 _) (λc hc=>by cases hc;rfl) (λh=>absurd rfl h) (λh=>by cases h)⟩⟩
theorem inst_list:∀{l:List AV},(∀v∈l,gu v)->∃N0 K0:Nat,∀N K:Nat,N0<=N->K0<=K->∃xs,az (λ_=>⟨0,0,K⟩) N (λ_=>none) l xs
 |[],_=>⟨0,0,λ_ _ _ _=>⟨[],az.nil⟩⟩
 |v::l,h=>by
  obtain⟨N1,K1,h1⟩:=h v (by simp);obtain⟨N2,K2,h2⟩:=inst_list (λu hu=>h u (Za0 _ hu));refine⟨max N1 N2,max K1 K2,λN K hN hK=> ?_⟩;obtain⟨x,hx⟩:=h1 N K (by omega) (by omega);obtain⟨xs,iD⟩:=h2 N K (by omega) (by omega);exact⟨x::xs,az.cons hx iD⟩
theorem ob{l:List AV}(hi:∀v∈l,gu v){b:Pos}{off n es:Nat}(hm:AV.slice b off n none es∈l):¬Plain (.agg l):=λh=>by
 obtain⟨N0,K0,h1⟩:=inst_list hi;obtain⟨xs,hx⟩:=h1 N0 K0 (Za3 _) (Za3 _);have h2:aq (λ_=>⟨0,0,K0⟩) N0 (λ_=>none) (.agg l) (.agg xs.toArray):= .agg l _ (by rw[hx.1];simp) λi v x hv kg=>hx.2 i v x hv (by simpa using kg)
 have h3:=h _ (λ_=>⟨0,0,0⟩) _ 0 _ _ h2;obtain⟨i,bw,hi⟩:=Zg9.1 hm;cases h3 with
 |agg _ _ hl hc=>
  have agB:i<xs.toArray.size:=by rw[<-hl];exact bw
  obtain⟨y,hy⟩:∃y,xs.toArray[i]? =some y:=⟨_,Zf5 agB⟩
  have:=hc i _ y (by rw[H1 bw,hi]) hy;cases this with
  |slice _ _ _ _ _ _ _ _ _ _ hk=>exact absurd (hk rfl) (by omega)
theorem Mk.inst{es:Nat}{s s':St}{v:AV}{rows:List (List AV)}(h:Mk es s s' v rows):gu v:=by
 rcases h.own with⟨rfl,rfl⟩|⟨b,off,cap,cs,rfl,_⟩|⟨b,off,rfl,rfl⟩
 .exact gu.av
 . rcases h.cap _ _ _ _ _ rfl with rfl|⟨h0,rfl⟩
   .exact gu.slice _ _ _ _
   .rw[h0];exact gu.zero _ _ _
 .exact gu.zero _ _ _
theorem Mk.loose{es:Nat}{s s':St}{v:AV}{rows:List (List AV)}(h:Mk es s s' v rows):(∃b off n,v= .slice b off n none es)\/((∀t,Wf t->Mk es t t v rows)/\rows=[]):=by
 rcases h.own with⟨rfl,rfl⟩|⟨b,off,cap,cs,rfl,_⟩|⟨b,off,rfl,rfl⟩
 .exact .inr ⟨λt ht=>Mk.start ht (Grew.refl ht),rfl⟩
 . rcases h.cap _ _ _ _ _ rfl with rfl|⟨h0,rfl⟩
   .exact .inl ⟨_,_,_,rfl⟩
   .exact .inr ⟨λt ht=>⟨ht,Grew.refl ht,.inr (.inr ⟨b,off,by rw[h0],Zb0 h0⟩),λb hb=>(by rw[h0,iW]at hb;cases hb),h.row,h.cap,λb hb=>(by rw[h0,iW]at hb;cases hb)⟩,Zb0 h0⟩
 .exact .inr ⟨λt ht=>⟨ht,Grew.refl ht,.inr (.inr ⟨b,off,rfl,rfl⟩),λb hb=>(by rw[iW]at hb;cases hb),h.row,h.cap,λb hb=>(by rw[iW]at hb;cases hb)⟩,rfl⟩
theorem Mk.SA{es:Nat}{s s':St}{v:AV}{rows:List (List AV)}(h:Mk es s s' v rows){l:List AV}(hm:v∈l)(hi:∀u∈l,gu u):∃eY,Go.Ai.tidy s (.agg l,s')=(.agg l,eY)/\(eY=s'\/eY=s)/\Mk es s eY v rows:=by
 unfold Go.Ai.tidy;by_cases hp:Plain (AV.agg l,s').1/\aM s (AV.agg l,s').2
 . rw[Za4 hp];refine⟨s,rfl,.inr rfl,?_⟩;rcases h.loose with⟨b,off,n,rfl⟩|⟨hl,_⟩
   .exact absurd hp.1 (ob hi hm)
   .exact hl s h.wO
 .rw[Za2 hp];exact⟨s',rfl,.inl rfl,h⟩
theorem Mk.cells{es:Nat}{s s':St}{v:AV}{rows:List (List AV)}(h:Mk es s s' v rows):v.cells=[v]/\bg [v]=true:=by
 rcases h.own with⟨rfl,rfl⟩|⟨b,off,cap,cs,rfl,_⟩|⟨b,off,rfl,rfl⟩<;>exact⟨rfl,rfl⟩
theorem Mk.store{es:Nat}{s s':St}{v:AV}{rows:List (List AV)}(h:Mk es s s' v rows){p:Pos}{b:AB}(hp:s.next.toNat<=p.toNat)(C8:p.toNat<s'.next.toNat)(cU:dY v≠some p):Mk es s (cR s' p b) v rows:=
 ⟨h.wO,⟨JX h.aN.wf C8,λq x hq=>by have:=h.wO _ _ hq;rw[cu (λe=>by rw[e]at hp;omega)];exact h.aN.get hq,by rw[y9];exact h.aN.next⟩,
  h.own.mono λq x hq hx=>by rw[cu (λe=>cU (by rw[hq,e]))];exact hx,h.new,h.row,h.cap,λb hb=>by rw[cu (λe=>cU (by rw[hb,e]))];exact h.tight b hb⟩
theorem Mk.back{es:Nat}{s0 s s':St}{v:AV}{rows:List (List AV)}(h:Mk es s s' v rows)(h0:Wf s0)(hg:Grew s0 s):Mk es s0 s' v rows:=
 ⟨h0,hg.trans h.aN,h.own,λb hb=>Zd6 hg.next (h.new b hb),h.row,h.cap,h.tight⟩
theorem LL{α:Type}(l:List α)(i:Nat)(h:i<l.length)(u:α):aL l i [u]=l.set i u:=by unfold aL;rw[List.set_eq_take_append_cons_drop,Za4 h];simp
theorem IW{es:Nat}:∀(rows:List (List AV)),(∀r∈rows,r.length=es)->∀(i j:Nat)(hi:i<rows.length),j<es->∀u,rows.flatten.set (i*es+j) u=(rows.set i (rows[i].set j u)).flatten
 |[],_,i,j,hi,_,_=>by simp at hi
 |r::rows,hr,i,j,hi,hj,u=>by
  have hl:=hr r (by simp);cases i with
  |zero=>
   simp only[Zp1,Zc7,Zf3,List.set_cons_zero,List.getElem_cons_zero];rw[List.set_append_left _ _ (by omega)]
  |succ i=>
   simp only[Zf3,List.set_cons_succ,Zn7];rw[List.set_append_right _ _ (by rw[Zi7];omega)];rw[show(i+1)*es+j - r.length=i*es+j by rw[Zi7];omega];rw[IW rows (λx hx=>hr x (Za0 _ hx)) i j (by simpa using hi) hj u]
theorem QS.set{R:Type}{c:ah}{es:Nat}{s:St}{v:AV}{rows:List (List AV)}(h:QS es s v rows)(hr:∀r∈rows,r.length=es)(eF:es≠0){i:Nat}(hi:i<rows.length):
   ∃ b o cs,(∀(K:AV->St->Option R)(k:IntKind)(s1:St),ai c (.idxA es none) [v,.int k (i:Int)] s1 K=K (.ptr b o) s1)/\(∀(K:AV->Option R)(k:IntKind),dI (.idxA es none) [v,.int k (i:Int)] K=K (.ptr b o))/\dY v=some b/\s.heap.get b=some (.cells cs 0)/\o+es<=cs.length/\(∀j u,rows[i][j]? =some u->cs[o+j]? =some u)/\
     (∀j u (s':St),j<es->s'.heap.get b=some (.cells (aL cs (o+j) [u]) 0)->QS es s' v (rows.set i (rows[i].set j u)))/\
     ∀j u,j<es->cs=rows.flatten->aL cs (o+j) [u]=(rows.set i (rows[i].set j u)).flatten:=by
 rcases h with⟨rfl,rfl⟩|⟨b,off,cap,cs,rfl,g1,g2,g3,g4⟩|⟨b,off,rfl,rfl⟩
 .simp at hi
 rotate_left
 .simp at hi
 have hri:=hr rows[i] (Zc6 hi);have hm:(i+1)*es<=rows.length*es:=Zh8 _ hi;rw[Zi7]at hm;have hx:∀(k:IntKind)(H:Pos->Option AB)(n:Pos),ax.run H n (.idxA es none) [.slice b off rows.length cap es,.int k (i:Int)]=some (.val (.ptr b (off+i*es))):=λk H n=>by
   simp only[ax.run,mK,eM];have:Nat.blt i rows.length=true:=(by rw[Zp6];exact hi);rw[this]
 refine⟨b,off+i*es,cs,λK k s1=>CC c K s1 hi,λK k=>cM K (hx k),by simp only[dY];rw[Za2 (by omega)],g1,by omega,λj u hj=> ?_,λj u s' hj hs=> ?_,λj u hj he=> ?_⟩
 . have hj2:j<es:=(by rw[<-hri];exact(H5.1 hj).1);have:=FW hr i j rows[i] u (H1 hi) hj;rw[<-g3,Zb8]at this;split at this
   .rw[Zd7]at this;rw[<-this];congr 1;omega
   .cases this
 .rw[LL _ _ (by omega)]at hs;refine .inr (.inl ⟨b,off,cap,_,by simp,hs,by simpa using g2,?_,by simpa using g4⟩);rw[Zq5, <-IW rows hr i j hi hj u, <-g3,List.drop_set,Za2 (by omega),List.take_set];congr 1;omega
 . have hlen:rows.flatten.length=rows.length*es:=by
     clear g2 g3 g4 hi hri hm hx g1 he;induction rows with
     |nil=>simp
     |  cons r rows ih=>
        have:=ih (λx hx=>hr x (Za0 _ hx));have h2:=hr r (by simp);simp only[Zf3,Zb1,Zb2,Zi7];omega
   have h0:off=0:=(by rw[he,hlen]at g2;omega);subst h0;rw[LL _ _ (by omega),he, <-IW rows hr i j hi hj u];congr 1;omega
def Src(es:Nat)(s:St)(v:AV)(rows:List (List AV)):Prop:=v= .fl rows es\/QS es s v rows
theorem Src.len{es:Nat}{s:St}{v:AV}{rows:List (List AV)}(h:Src es s v rows):dH v=some rows.length:=by
 rcases h with rfl|h
 .rfl
 .exact h.len
theorem Src.mono{es:Nat}{s s':St}{v:AV}{rows:List (List AV)}(h:Src es s v rows)(hk:∀b x,dY v=some b->s.heap.get b=some x->s'.heap.get b=some x):Src es s' v rows:=h.imp id λh=>h.mono hk
theorem Src.aN{es:Nat}{s s':St}{v:AV}{rows:List (List AV)}(h:Src es s v rows)(hg:Grew s s'):Src es s' v rows:=h.mono λ_ _ _ hx=>hg.get hx
theorem Src.first{es:Nat}{s:St}{v:AV}{rows:List (List AV)}(h:Src es s v rows)(hr:∀r∈rows,r.length=es):cJ es rows.length (λb=>s.heap.get b) v=some rows.flatten:=by
 rcases h with rfl|h
 .simp only[cJ,cW,cF,Zf6,Za3,Zk1]
 .exact h.first hr
theorem Src.nil{es:Nat}{s:St}{v:AV}{rows:List (List AV)}(h:Src es s v rows):(v= .av/\rows=[])\/∀{R:Type}(c:ah)(K:AV->St->Option R)(t:St),ai c (.bin .eql .slice) [v,.av] t K=K (.bool false) t:=by
 rcases h with rfl|⟨rfl,rfl⟩|⟨b,off,cap,cs,rfl,_⟩|⟨b,off,rfl,rfl⟩
 .exact .inr λc K t=>aP c K (λH n=>rfl) t
 .exact .inl ⟨rfl,rfl⟩
 .exact .inr λc K t=>aP c K (λH n=>rfl) t
 .exact .inr λc K t=>aP c K (λH n=>rfl) t
theorem Src.ro{es:Nat}{s:St}(z:Bool)(rows:List (List AV)):Src es s (ro es z rows) rows:=by
 unfold Go.Ai.ro;split
 .exact .inr (.inl ⟨rfl,rfl⟩)
 .exact .inl rfl
theorem Xc{es:Nat}:∀{rows:List (List AV)},(∀r∈rows,r.length=es)->rows.flatten.length=rows.length*es
 |[],_=>by simp
 |r::rows,hr=>by have ih:=Xc (λx hx=>hr x (Za0 _ hx));have h2:=hr r (by simp);simp only[Zf3,Zb1,Zb2,Zi7];omega
theorem Xd{es bytes:Nat}{z:List AV}{src:AV}{rows:List (List AV)}(hr:∀r∈rows,r.length=es)(_hes:es≠0)(hb:(2*rows.length+768)*bytes<=281474976710656)(hn:rows.length<=4000000){c:ah}{R:Type}(s:St)(hw:Wf s)(h:Src es s src rows):
   ∃v s',(∀(K:AV->St->Option R),ai c (.buildSlice es 0 z []) [] s (λy t=>ai c (.append es bytes) [y,src] t K)=K v s')/\Mk es s s' v rows:=by
 have bs:∀(K:AV->St->Option R),ai c (.buildSlice es 0 z []) [] s K=K (.slice s.next 0 0 (some 0) es) (af s (.cells [] 0)):=λK=>by rw[eo];rfl
 have cw:Wf (af s (.cells [] 0)):=bM hw;have g1:=Grew.af hw (.cells [] 0);have hl:=h.len;by_cases h0:rows.length=0
 .obtain rfl:=Zb0 h0;refine⟨.slice s.next 0 0 (some 0) es,af s (.cells [] 0),λK=> ?_,hw,g1,.inr (.inr ⟨_,_,rfl,rfl⟩),λb hb=>(by rw[iW]at hb;cases hb),hr,λb off n cp e he=>(by cases he;exact .inr ⟨rfl,rfl⟩),λb hb=>(by rw[iW]at hb;cases hb)⟩;rw[bs,ZJ c K hl (by simpa using hb) (by simp)]
 . have hx:cJ es rows.length (λb=>(af s (.cells [] 0)).heap.get b) src=some rows.flatten:=(h.aN g1).first hr;have hlen:=Xc hr;refine⟨.slice (af s (.cells [] 0)).next 0 rows.length none es,af (af s (.cells [] 0)) (.cells rows.flatten 0),λK=> ?_,hw,g1.trans (Grew.af cw _),.inr (.inl ⟨_,0,none,rows.flatten,rfl,aC _ _,by omega,?_,.inl rfl⟩),λb hb=> ?_,hr,λb off n cp e he=>(by cases he;exact .inl rfl),λb hb=>(by rw[zH]at hb;cases hb;exact aC _ _)⟩
   .rw[bs,aeD c K (m:=rows.length) hl h0 (by simpa using hb) (by omega) hx]
   .simp only[Zb7];exact Zg0 (by omega)
   .rw[zH]at hb;cases hb;rw[dX,Pos.aB];omega
theorem aeG{v:AV}(h:bg [v]=true):v.one=true:=by
 simp only[bg]at h;split at h
 .assumption
 .cases h
theorem XT{b:Pos}{o:Nat}{k1 k2:IntKind}{i1 i2:Int}:¬Plain (.tuple [.ptr b o,.int k1 i1,.int k2 i2]):=λh=>by
 obtain⟨x0,e0⟩:∃x,aq (λ_=>⟨0,0,0⟩) (b.toNat+1) (λ_=>none) (.ptr b o) x:=⟨_,.ptr b o (by omega)⟩
 obtain⟨x1,e1⟩:∃x,aq (λ_=>⟨0,0,0⟩) (b.toNat+1) (λ_=>none) (.int k1 i1) x:=⟨_,.int k1 i1⟩
 obtain⟨x2,e2⟩:∃x,aq (λ_=>⟨0,0,0⟩) (b.toNat+1) (λ_=>none) (.int k2 i2) x:=⟨_,.int k2 i2⟩
 have:=h (λ_=>⟨0,0,0⟩) (λ_=>⟨0,0,0⟩) (b.toNat+1) 0 (λ_=>none) _ (.tuple _ #[x0,x1,x2] rfl (λi v v' hv hx=>by
  match i with
  |0=>simp at hv hx;subst hv hx;exact e0
  |1=>simp at hv hx;subst hv hx;exact e1
  |2=>simp at hv hx;subst hv hx;exact e2
  |i+3=>simp at hv))
 cases this with
 |tuple _ _ _ h=>
  have:=h 0 _ x0 rfl rfl;cases this with
  |ptr _ _ h=>omega
abbrev ac4(v:AV):List AV:=[v]
theorem agC(l:List AV):∀r∈l.map ac4,r.length=1:=λr hr=>by simp only[Zf2]at hr;obtain⟨m,_,rfl⟩:=hr;rfl
section
variable{s0 s s':St}{jb:Pos}{Ls:List AV}{R:List (List AV)}{I:List (AV×List (List AV))}
end
section
variable{s0 s s':St}{jb:Pos}{Ls:List AV}{R:List (List AV)}{I:List (AV×List (List AV))}
end
theorem QG{R:Type}{c:ah}(K:AV->St->Option R){s:St}{p:Pos}{o:Nat}{cs:List AV}{v:AV}(h:s.heap.get p=some (.cells cs 0))(ho:o<cs.length)(h1:v.cells=[v])(h2:v.one=true):
  ai c (.store 1) [.ptr p o,v] s K=K .undef (cR s p (.cells (cs.set o v) 0)):=by
 rw[jA c K s 1 p o v cs h (by rw[h1];rfl) (by omega) (by rw[h1];simp[bg,h2]),h1,LL _ _ ho]
theorem QS.beq{es:Nat}{s:St}{v:AV}{rows:List (List AV)}(h:QS es s v rows):dN v v=true:=by
 rcases h with⟨rfl,_⟩|⟨b,off,cap,cs,rfl,_⟩|⟨b,off,rfl,_⟩
 .rfl
 .cases cap<;>simp[dN,iE,fc,Pos.beq_eq.2 rfl]
 .simp[dN,iE,fc,Pos.beq_eq.2 rfl]
theorem aiI{R:Type}{z:List AV}{x:AV}(hz:z.length=1)(hx:x.cells=[x])(s:St)(K:AV->AB->Option R):
  Ry (.buildSlice 1 1 z [0]) [x] s K=K (.slice s.next 0 1 (some 1) 1) (.cells [x] 0):=by
 have:cI (bZ z 1) ([0].map λi=>(i*1,1)) [x]=some [x]:=by
  simp only[Zb4,Ze0,Zp1,bZ,Ze9,cI,cW,cF,hx,Zf6,Zc7,hz,Za3,Zb2,Zc3];simp only[aL,List.take_zero,Ze6,Zc7,Zb2,Zc3];rw[Zn6 (by omega),Ze9]
 rw[Ud,this];rfl
section
variable{s0 s s':St}{jb:Pos}{Ls:List AV}{R:List (List AV)}{I:List (AV×List (List AV))}
end
theorem QS.bare{es:Nat}{s:St}{v:AV}{rows:List (List AV)}(h:QS es s v rows):bR v:=by
 rcases h with⟨rfl,_⟩|⟨b,off,cap,cs,rfl,_⟩|⟨b,off,rfl,_⟩
 .exact bR.av
 .exact bR.slice _ _ _ _ _
 .exact bR.slice _ _ _ _ _
def emptyAt(s:St):St:={ heap:= .e,next:=s.next }
theorem gQ(s:St):Wf (emptyAt s):=λp x h=>by have h:(T.e:T AB).get p=some x:=h;rw[T.ej]at h;cases h
noncomputable def gR(s s1:St):St:={ heap:=T.both s.heap (AR s1.heap),next:=s1.next }
theorem ac5{s s1:St}{b:Pos}{x:AB}(h:s.heap.get b=some x):(gR s s1).heap.get b=some x:=by show(T.both _ _).get b=_;rw[T.CB,h];rfl
theorem ac6{s s1:St}(hw:Wf s){b:Pos}{x:AB}(hb:s.next.toNat<=b.toNat)(h:s1.heap.get b=some x)(hx:LG x):(gR s s1).heap.get b=some x:=by
 show(T.both _ _).get b=_;have:s.heap.get b=none:=by
  cases e:s.heap.get b with
  |none=>rfl
  |some y=>have:=hw _ _ e;omega
 rw[T.CB,this,aeF h hx];rfl
theorem RE{s s1:St}(hw:Wf s)(h1:Wf s1)(hn:s.next.toNat<=s1.next.toNat):Grew s (gR s s1):=
 ⟨fun p x h=>by
  have h:(T.both s.heap (AR s1.heap)).get p=some x:=h;show p.toNat<s1.next.toNat;rw[T.CB]at h;cases e:s.heap.get p with
  |some y=>have:=hw _ _ e;omega
  |none=>
   rw[e]at h;have h:(AR s1.heap).get p=some x:=(by simpa using h);exact h1 _ _ (Xb h).1,λp x h=>ac5 h,hn⟩
theorem Mk.gR{es:Nat}{s s1:St}{v:AV}{rows:List (List AV)}(hw:Wf s)(h:Mk es (emptyAt s) s1 v rows)(hb:∀r∈rows,∀x∈r,bR x):Mk es s (Go.Ai.gR s s1) v rows:=by
 have key:∀b x,dY v=some b->s1.heap.get b=some x->(Go.Ai.gR s s1).heap.get b=some x:=λb x jw hx=>by
  have t:=h.tight b jw;have kg:x= .cells rows.flatten 0:=by rw[t]at hx;exact(Zf4 hx).symm
  subst kg;exact ac6 hw (h.new b jw) t (λv hv=>by obtain⟨r,hr,hv⟩:=List.mem_flatten.1 hv;exact hb r hr v hv)
 exact⟨hw,RE hw h.aN.wf h.aN.next,h.own.mono key,h.new,h.row,h.cap,λb jw=>key b _ jw (h.tight b jw)⟩
theorem aeH{call:ah}{f:FuncId}{d:Nat}{args:List AV}{s:St}{v:AV}{s1:St}(h:call f (args.map (dJ s d)) (emptyAt s)=some (v,s1))(hb:bR v)(hn:s.next.toNat<=s1.next.toNat):
 LJ call f d args s=some (v,gR s s1):=ab1 h ⟨hb,hn⟩
theorem iG{call:ah}{f:FuncId}{d:Nat}{args:List AV}{s:St}{v:AV}(h:call f (args.map (dJ s d)) (emptyAt s)=some (v,emptyAt s))(hb:bR v):LJ call f d args s=some (v,s):=agA h hb
end
noncomputable section
open Go
variable{R:Type}{c:ah}
theorem ac7(t:TypeId)(z:List AV)(st:St)(K:AV->St->Option R):ai c (.allocT t z) [] st K=K (.ptr st.next 0) (af st (.typed t z)):=rfl
theorem Uf{st:St}{m:Nat}{p:Pos}{o:Nat}{v:AV}{t:TypeId}{cs:List AV}(h:st.heap.get p=some (.typed t cs))(h1:v.cells.length=m)(h2:o+m<=cs.length)(h3:bg v.cells=true)(K:AV->St->Option R):
  ai c (.store m) [.ptr p o,v] st K=K .undef (cR st p (.typed t (aL cs o v.cells))):=by
 have:ax.run (λb=>st.heap.get b) st.next (.store m) [.ptr p o,v]=some (.aI .undef none (some (p,.typed t (aL cs o v.cells))) none):=by
  simp only[ax.run,Cs,h,cW,cF,H2 h1,H2 h2,h3]
 unfold ai bY;rw[this];rfl
theorem aiJ{st:St}{p:Pos}{o:Nat}{t:TypeId}{cs:List AV}(h:st.heap.get p=some (.typed t cs))(ho:o<cs.length)(K:AV->St->Option R):ai c .toU [.ptr p o] st K=K (.ptr p o) st:=by
 have:ax.run (λb=>st.heap.get b) st.next .toU [.ptr p o]=some (.val (.ptr p o)):=by
  have:Nat.blt o cs.length=true:=by simpa using ho
  simp only[ax.run,Oa,h,this]
 unfold ai bY;rw[this]
theorem aeI{st:St}{p:Pos}{t:TypeId}{n:Nat}{cs:List AV}(h:st.heap.get p=some (.typed t cs))(hn:n<=cs.length)(K:AV->St->Option R):ai c (.fromU t n) [.ptr p 0] st K=K (.ptr p 0) st:=by
 have:ax.run (λb=>st.heap.get b) st.next (.fromU t n) [.ptr p 0]=some (.val (.ptr p 0)):=by
  simp only[ax.run,Fs,h,cW,cF,H2 hn,Zf6]
 unfold ai bY;rw[this]
abbrev zJ(s:List Nat):List AV:=s.map λc=>.int .u8 (.ofNat c)
theorem ab2(s:List Nat):(zJ s).length=s.length:=by simp
theorem aeJ{st:St}{e bytes:TypeId}{u:List Nat}(h1:(2*(0+u.length)+768)*bytes<=281474976710656)(h2:0+u.length<=9223372036854775807)(h0:u.length≠0)(K:AV->St->Option R):
  ai c (.appendT e bytes) [.av,.str u] st K=K (.slice st.next 0 (0+u.length) none 1) (af st (.typed e (zJ u))):=by
 have:ax.run (λb=>st.heap.get b) st.next (.appendT e bytes) [.av,.str u]=some (.aI (.slice st.next 0 (0+u.length) none 1) none none (some (.typed e (zJ u)))):=by
  simp only[ax.run,oG,cF,cW,H2 h1,H2 h2,H3 h0]
 unfold ai bY;rw[this];rfl
theorem agD{st:St}{e bytes:TypeId}{b:Pos}{c9 u:List Nat}(h:st.heap.get b=some (.typed e (zJ c9)))(h1:(2*(c9.length+u.length)+768)*bytes<=281474976710656)(h2:c9.length+u.length<=9223372036854775807)(h0:u.length≠0)(K:AV->St->Option R):
  ai c (.appendT e bytes) [.slice b 0 c9.length none 1,.str u] st K=K (.slice st.next 0 (c9.length+u.length) none 1) (st.aI (some b) none (some (.typed e (zJ (c9++u))))):=by
 have hcut:cut (zJ c9) 0 c9.length=some (zJ c9):=bJ (ab2 c9);have:ax.run (λb=>st.heap.get b) st.next (.appendT e bytes) [.slice b 0 c9.length none 1,.str u]=some (.aI (.slice st.next 0 (c9.length+u.length) none 1) (some b) none (some (.typed e (zJ (c9++u))))):=by
  simp only[ax.run,oG,cF,cW,H2 h1,H2 h2,H3 h0,h,Zf6,hcut];simp[zJ]
 unfold ai bY;rw[this]
theorem RH:∀{s:List Nat},(∀x∈s,x<256)->bytesOf (zJ s)=some s
 |[],_=>rfl
 |x::s,h=>by
  have h1:Nat.blt x 256=true:=by simpa using h x (by simp)
  have h2:=RH (s:=s) λy hy=>h y (Za0 _ hy)
  simp only[zJ,Zb4,bytesOf,h1]at h2 ⊢;rw[h2]
theorem XU{b:Pos}{off n es:Nat}{cp:Option Nat}(h:n≠0)(K:AV->Option R):dI .sliceData [.slice b off n cp es] K=K (.ptr b off):=by
 have:ax.run (λ_=>none) .h .sliceData [.slice b off n cp es]=some (.val (.ptr b off)):=by
  simp only[ax.run,qf,cW,H3 h]
 unfold dI;rw[this]
theorem Vr(K:AV->Option R):dI .sliceData [.av] K=K .fH:=rfl
theorem XV{st:St}{e:TypeId}{b:Pos}{s:List Nat}(h:st.heap.get b=some (.typed e (zJ s)))(h0:s.length≠0)(hm:s.length<=9223372036854775807)(hs:∀x∈s,x<256)(K:AV->St->Option R):
  ai c (.unsafeStr e) [.ptr b 0,.int .i64 (s.length:Int)] st K=K (.str s) (st.aI (some b) none none):=by
 have hcut:cut (zJ s) 0 s.length=some (zJ s):=bJ (ab2 s);have:ax.run (λb=>st.heap.get b) st.next (.unsafeStr e) [.ptr b 0,.int .i64 (s.length:Int)]=some (.aI (.str s) (some b) none none):=by
  show lz (λb=>st.heap.get b) st.next e [.ptr b 0,.int .i64 (.ofNat s.length)]=_;simp only[lz,cW,cF,H3 h0,h,Zf6,hcut,H2 hm,RH hs]
 unfold ai bY;rw[this]
theorem Vt(e:TypeId)(st:St)(K:AV->St->Option R):ai c (.unsafeStr e) [.fH,.int .i64 0] st K=K (.str []) st:=rfl
end
section
open Go
section
variable{H:Type}(Ok:DataW H->Prop)(enc:TypeId×Value->H)(P:Program)(w:World)(base:Nat)(spare:Nat->Bool)(held:Bool)
def cX(t:TypeId)(Q:List AV->Prop):Prop:=
 ∀  (fuel:Nat)(cs:List Value)(x:DataW H×List MemPlace),DataW.trod enc P w base spare held fuel t cs=some x->Ok x.1->
    ∃as,Q as/\∀ρ n,az ρ n (λad=>w.cell? ad) as cs
def Vu:List TypeId->List (List AV->Prop)->Prop
 |[],[]=>True
 |f::fs,Q::Qs=>cX Ok enc P w base spare held f Q/\Vu fs Qs
 |_,_=>False
variable{Ok enc P w base spare held}
theorem cX.of{t:TypeId}{Q:List AV->Prop}(h:yN enc P w base spare held t Q):cX Ok enc P w base spare held t Q:=λfuel cs x hx _=>h fuel cs x hx
theorem cX.mono{t:TypeId}{Q Q':List AV->Prop}(h:cX Ok enc P w base spare held t Q)(k:∀as,Q as->Q' as):cX Ok enc P w base spare held t Q':=
 λfuel cs x hx hk=>by obtain⟨as,h1,h2⟩:=h fuel cs x hx hk;exact⟨as,k _ h1,h2⟩
theorem qk {N:Nat}{t e:TypeId}{es:Nat}{Q:List AV->Prop}(ht:P.underlying t=some (.slice e))(hc:P.cellsOf e=es)(eF:0<es)(hQ:∀as,Q as->as.length=es)(cQ:∀e s,Ok (.slice e s)->e.length<=N/\∀d∈e,Ok d)(h:cX Ok enc P w base spare held e Q):
  cX Ok enc P w base spare held t λas=>∃z rs,as=[ro es z rs]/\(∀r∈rs,Q r)/\rs.length<=N:=
 fun fuel cs x hx hk=>by
  rcases DataW.trod_slice ht hx with⟨rfl,_⟩|⟨a,len,cap,elems,rest,n,_,rfl,rfl,hb,hl,hm,hlen,hel,_,_⟩
  .  exact⟨_,⟨true,[],rfl,by simp,by simp⟩,λρ m=>az.cons .av az.nil⟩
  .  obtain ⟨hN,hE⟩:=cQ _ _ hk;simp only[Zb3]at hN;have each:∀i,∃r row,i<len->(Q r/\w.cells? base (a.add (i*es)) es=some row/\∀ρ m,az ρ m (λad=>w.cell? ad) r row):=by
        intro i;by_cases hi:i<len
        . have h1:=hel i hi;rw[H1 (by omega),hc]at h1;cases h2:w.cells? base (a.add (i*es)) es with
          |none=>rw[h2]at h1;cases h1
          | some row=>
            rw[h2]at h1;obtain⟨r,hr,hv⟩:=h n row _ h1 (hE _ (List.mem_map_of_mem (Zc6 _)));exact⟨r,row,λ_=>⟨hr,rfl,hv⟩⟩
        .exact⟨[],[],λh=>absurd h hi⟩
     obtain⟨r,each⟩:=Classical.axiomOfChoice each;obtain⟨row,hr⟩:=Classical.axiomOfChoice each;have aib:0<len->a.spot=none:=λh0=>by
        obtain⟨_,h1,_⟩:=hr 0 h0;have:=(World.cells?_some h1).2.2 0 eF;have hl:=(World.cells?_some h1).2.1;rw[H1 (by omega)]at this;simp only[Zp1,Addr.add,Zf9]at this;unfold World.cell? at this;split at this
        . split at this
          .cases this
          .rename_i h;simpa using h
        .cases this
     have aky:((List.range len).map r).length=len:=(by simp);have get:∀(i:Nat)(c:List AV),((List.range len).map r)[i]? =some c->i<len/\c=r i:=λi c hi=>by
        rw[Zb5]at hi;by_cases h:i<len
        .rw[Zo8 h]at hi;simp at hi;exact⟨h,hi.symm⟩
        .rw[Zc4 (by simpa using h)]at hi;cases hi
     refine⟨_,⟨false,(List.range len).map r,rfl,?_,by simp;omega⟩,λρ m=>az.cons ?_ az.nil⟩
     .  intro q hq;simp only[Zf2,List.mem_range]at hq;obtain⟨i,hi,rfl⟩:=hq;exact(hr i hi).1
     .  have key:aq ρ m (λad=>w.cell? ad) (.fl ((List.range len).map r) es) (.slice (some a) ((List.range len).map r).length cap):=by
          refine .fl _ es cap a (λi j=>((row i)[j]?).getD .nilFunc) (by omega) (λh0=>aib ?_) (λi c hi=> ?_) (λi j c v hi hj=> ?_) (λi j c v hi hj=> ?_)
          .apply Zj5;intro h;apply h0;have:len=0:=(by omega);subst this;rfl
          .obtain⟨h1,rfl⟩:=get i c hi;exact hQ _ (hr i h1).1
          . obtain⟨h1,rfl⟩:=get i c hi;obtain⟨q1,q2,q3⟩:=hr i h1;have hj2:j<es:=(by rw[<-hQ _ q1];exact(H5.1 hj).1);have q4:=(World.cells?_some q2).2.2 j hj2;have q5:=(World.cells?_some q2).2.1;have hs:=aib (by omega);have e1:(a.add (i*es)).add j=⟨a.block,a.off+i*es+j,none⟩:=by
             obtain⟨aA,off,spot⟩:=a;simp only at hs;subst hs;unfold Addr.add;by_cases e1:i*es=0<;>by_cases e2:j=0<;>simp[e1,e2]
            rw[e1]at q4;show w.cell? _=_;rw[q4,H1 (by omega)];rfl
          .obtain⟨h1,rfl⟩:=get i c hi;obtain⟨q1,q2,q3⟩:=hr i h1;have hj2:j<es:=(by rw[<-hQ _ q1];exact(H5.1 hj).1);have q5:=(World.cells?_some q2).2.1;refine(q3 ρ m).2 j v _ hj ?_;rw[H1 (by omega)];rfl
        rw[aky]at key;exact key
theorem Nh{W9 n:Nat}:∀(fs:List Field)(Qs:List (List AV->Prop))(o:Nat)(cs:List Value),AQ P W9 o fs=true->Vu Ok enc P w base spare held (fs.map (·.type)) Qs->cs.length=W9->
  (∀f∈fs,∃y,DataW.trod enc P w base spare held n f.type ((cs.drop f.offset).take (P.cellsOf f.type))=some y/\Ok y.1)->
  ∃parts,FV Qs parts/\∀ρ m,az ρ m (λad=>w.cell? ad) parts.flatten (cs.drop o)
 |[],[],o,cs,hc,_,hl,_=>by simp only[AQ,Zq1]at hc;refine⟨[],trivial,λρ m=> ?_⟩;rw[Zh2 (by omega)];exact az.nil
 |f::fs,Q::Qs,o,cs,hc,hO,hl,hf=>by
  simp only[AQ,Za9,Zq1]at hc;obtain⟨y,hy,hyk⟩:=hf f (by simp);obtain⟨as,hq,hv⟩:=hO.1 n _ y hy hyk;obtain⟨parts,hp,Fy⟩:=Nh fs Qs _ cs hc.2 hO.2 hl (λg hg=>hf g (Za0 _ hg));refine⟨as::parts,⟨hq,hp⟩,λρ m=> ?_⟩;have e:cs.drop o=(cs.drop f.offset).take (P.cellsOf f.type)++cs.drop (o+P.cellsOf f.type):=by
   rw[hc.1, <-Zl3,Zk2]
  rw[e,Zf3];exact(hv ρ m).append (Fy ρ m)
theorem DQ{t:TypeId}(ts:List TypeId){Qs:List (List AV->Prop)}(hs:LF P t=true)(dF:(fieldsOf P t).map (·.type)=ts)(hc:AQ P (P.cellsOf t) 0 (fieldsOf P t)=true)(cQ:∀ps,Ok (.agg ps)->∀d∈ps,Ok d)(hO:Vu Ok enc P w base spare held ts Qs):
  cX Ok enc P w base spare held t λas=>∃parts,as=parts.flatten/\FV Qs parts:=
 fun fuel cs x hx hk=>by
  obtain⟨fs,ht⟩:∃fs,P.underlying t=some (.struct fs):=by
     unfold LF at hs;cases h:P.underlying t with
     |none=>rw[h]at hs;cases hs
     |some d=>rw[h]at hs;cases d<;>first|exact⟨_,rfl⟩|cases hs
  have ef:fieldsOf P t=fs.toList:=by unfold fieldsOf;rw[ht]
  rw[ef]at dF hc;subst dF;obtain⟨xs,n,_,rfl,hl,hxl,hf⟩:=DataW.trod_struct ht hx;have hE:=cQ _ hk;obtain⟨parts,hp,hv⟩:=Nh fs.toList Qs 0 cs hc hO hl (λf hf2=>by
     obtain⟨i,hi⟩:=List.getElem?_of_mem hf2;have Cb:fs[i]? =some f:=(by rw[<-Zg6];exact hi);have bw:i<fs.size:=(Zd2.1 Cb).1;exact⟨xs[i],by rw[hf i f Cb,H1 (by omega)],hE _ (List.mem_map_of_mem (Zc6 _))⟩)
  exact⟨_,⟨parts,rfl,hp⟩,λρ m=>hv ρ m⟩
end
end
section
open Go Go.WideShapes
section
variable{H:Type}(enc:TypeId×Value->H)(P:Program)(w:World)(base:Nat)(spare:Nat->Bool)(held:Bool)
variable{enc P w base spare held}
theorem Ti{Ok:DataW H->Prop}{t e:TypeId}{Q:List AV->Prop}{r:Go.Reach}{b0:Nat}{v:Value}{d:DataW H}{p:List MemPlace}(ho:cX Ok enc P w base spare held t Q)(ht:P.underlying t=some (.slice e))
  (hval:Value.okWide P w r b0 t v) (hd:DataW.Trod enc P w base spare held t v d p) (hk:Ok d):∃as,Q as/\∀ρ n,az ρ n (λad=>w.cell? ad) as [v]:=by
 obtain⟨a,len,cap,rfl⟩:=okWide_slice ht hval;obtain⟨fuel,hf⟩:=hd;exact ho _ _ _ hf hk
end
end
section
open Go
section
variable{c:ah}{R:Type}
end
theorem agE{u:AV}{t:Bool}(h:Plain (.tuple [u,.bool t])):Plain u:=λρ ρ' n n' C x hx=>by
 obtain⟨y,hy⟩:∃y,aq ρ n C (.bool t) y:=⟨_,.bool t⟩
 have:=h ρ ρ' n n' C _ (.tuple _ #[x,y] rfl (λi v v' hv kg=>by
  match i with
  |0=>simp at hv kg;subst hv kg;exact hx
  |1=>simp at hv kg;subst hv kg;exact hy
  |i+2=>simp at hv))
 cases this with
 |tuple _ _ _ h=>exact h 0 _ x rfl rfl
theorem Mk.Vv{es:Nat}{s s':St}{v:AV}{rows:List (List AV)}(h:Mk es s s' v rows)(t:Bool):∃eY,Go.Ai.tidy s (.tuple [v,.bool t],s')=(.tuple [v,.bool t],eY)/\Mk es s eY v rows:=by
 unfold Go.Ai.tidy;by_cases hp:Plain (AV.tuple [v,.bool t],s').1/\aM s (AV.tuple [v,.bool t],s').2
 . rw[Za4 hp];refine⟨s,rfl,?_⟩;rcases h.loose with⟨b,off,n,rfl⟩|⟨hl,_⟩
   .exact(j3 (agE hp.1)).elim
   .exact hl s h.wO
 .rw[Za2 hp];exact⟨s',rfl,h⟩
theorem Mk.aic{es:Nat}{s0 s s':St}{v:AV}{rows:List (List AV)}(h:Mk es s0 s v rows)(hg:Grew s0 s')(hk:∀b x,dY v=some b->s.heap.get b=some x->s'.heap.get b=some x):Mk es s0 s' v rows:=
 ⟨h.wO,hg,h.own.mono hk,h.new,h.row,h.cap,λb hb=>hk b _ hb (h.tight b hb)⟩
theorem Mk.AT{es:Nat}{s0 s1 s s':St}{v:AV}{rows:List (List AV)}(h:Mk es s1 s v rows)(h0:Wf s0)(HX:Grew s0 s1)(hg:Grew s0 s')(hk:∀q b,s1.next.toNat<=q.toNat->s.heap.get q=some b->s'.heap.get q=some b):Mk es s0 s' v rows:=
 ⟨h0,hg,h.own.mono (λb x hb hx=>hk b x (h.new b hb) hx),λb hb=>Zd6 HX.next (h.new b hb),h.row,h.cap,λb hb=>hk b _ (h.new b hb) (h.tight b hb)⟩
end
section
open Go Go.WideShapes
theorem cA{Q:List AV->Prop}{Qs:List (List AV->Prop)}{ps:List (List AV)}(h:FV (Q::Qs) ps):∃p qs,ps=p::qs/\Q p/\FV Qs qs:=by
 cases ps with
 |nil=>exact h.elim
 |cons p qs=>exact⟨p,qs,rfl,h⟩
theorem CD{ps:List (List AV)}(h:FV [] ps):ps=[]:=by
 cases ps with
 |nil=>rfl
 |cons p qs=>exact h.elim
section
variable{H:Type}{enc:TypeId×Value->H}{P:Program}{w:World}{base:Nat}{spare:Nat->Bool}{held:Bool}
end
end
section
open Go
noncomputable def Vw(d:Nat)(As:List (List AV))(r:AV):List AV->St->Option (AV×St):=λargs st=>open Classical in if args.map (dJ st d)∈As then some (r,st)else none
theorem aiK{d:Nat}{As:List (List AV)}{r:AV}{args:List AV}{st:St}(A:List AV)(hA:A∈As)(h:args.map (dJ st d)=A):Vw d As r args st=some (r,st):=by
 unfold Vw;rw[h,Za4 hA]
theorem aeK{P:Program}{C:Cells}{O:ff}{G:T dB}{m n f d:Nat}{As:List (List AV)}{r:AV}(cg:∀C:Cells,fG P C (rE O G m n))(ha:∀A∈As,∀a∈A,Plain a)(hr:Plain r)(hb:bR r)
   (h:(As.all λA=>Hw (R:=Bool) false O G m n f A { heap:= .e,next:= .h } (λv _=>dN v r))=true):kT P C f (Vw d As r):=by
 have unf:∀args st v' st',Vw d As r args st=some (v',st')->v'=r/\st'=st/\(args.map (dJ st d))∈As:=by
   intro args st v' st' hs;unfold Vw at hs;(split at hs<;>first|(cases hs;done)|skip);rename_i hc;simp only[H0,Zb6]at hs;exact⟨hs.1.symm,hs.2.symm,hc⟩
 refine⟨λargs st v' st' hs=> ?_,λρ st w args v' st' bQ hs hW hv=> ?_⟩
 .obtain⟨_,rfl,_⟩:=unf _ _ _ _ hs;exact Za3 _
 . obtain⟨rfl,rfl,hA⟩:=unf _ _ _ _ hs;have hk:=Ze5.1 h _ hA;rw[Lw false O G m n]at hk;unfold oY at hk;(split at hk<;>first|(cases hk;done)|skip);rename_i x hx;obtain⟨v,aW⟩:=x;have h1:=rM hk;subst h1;have Rc:=az.dJ hW d hv;have JM:az ρ (Pos.h).toNat (λad=>w.cell? ad) (args.map (dJ st' d)) bQ:=⟨Rc.1,λi u y hu hy=>ha _ hA u (Zc5 hu) _ _ _ _ _ _ (Rc.2 i u y hu hy)⟩
   (refine Reaches.mono (λx w' hp=> ?_) (cg (λad=>w.cell? ad) ρ { heap:= .e,next:= .h } w f _ _ aW bQ hx (Db (λad u hu=>hu) λa u _ o ho=>ho) JM);obtain⟨ρ',k1,k2,k3,k4,hE⟩:=hp;have un:∀k,k<w.heap.size->w'.heap[k]? =w.heap[k]? :=λk hk=>hE.block k hk λb x hb=>by rw[T.ej]at hb;cases hb);refine⟨ρ,hb _ _ _ _ _ (hr _ _ _ _ _ _ k1),λ_ _=>rfl,Za3 _,⟨λb x hb=> ?_,hW.inj,λa u hu=> ?_,λa u hu o ho=> ?_⟩,⟨hE.os,hE.tape,hE.output,hE.size,λk hk _=>un k hk,λb x hb=>.inl ⟨b,x,hb,rfl⟩⟩⟩
   .obtain⟨l1,l2,l3⟩:=hW.live b x hb;exact⟨l1,Zc8 l2 hE.size,l3.of_heap (un _ l2)⟩
   .obtain⟨c1,c2⟩:=hW.ek a u hu;exact⟨(k4.ek a u c1).1,c2⟩
   .have bw:a.block<w.heap.size:=World.block_lt_of_cell? _ _ (hW.ek a u hu).1;rw[World.cell?_of_block (w:=w) (a:=⟨a.block,o,none⟩) (un _ bw)];exact hW.whole a u hu o ho
end
section
open Go Go.ChangeShapes Go.WideShapes Go.ChangeAt Go.RowKit
section
variable{H:Type}{enc:TypeId×Value->H}{P:Program}{w:World}{base:Nat}{spare:Nat->Bool}{held:Bool}
theorem Sa{Ok:DataW H->Prop}{t:TypeId}{fs:Array Field}{Q:List AV->Prop}{r:Go.Reach}{b0:Nat}{v:Value}{d:DataW H}{p:List MemPlace}(ho:cX Ok enc P w base spare held t Q)(ht:P.underlying t=some (.struct fs))
  (hval:Value.okWide P w r b0 t v) (hd:DataW.Trod enc P w base spare held t v d p) (hk:Ok d):∃as,Q as/\∀ρ n,aq ρ n (λad=>w.cell? ad) (.agg as) v:=by
 obtain⟨cs,rfl,_⟩:=okWide_struct ht hval;obtain⟨fuel,hf⟩:=hd;obtain⟨as,h1,h2⟩:=ho _ _ _ hf hk;refine⟨as,h1,λρ n=> ?_⟩;have h3:=h2 ρ n;refine .agg as cs (by rw[h3.1];simp[Value.cells]) λi x x' hx kg=>h3.2 i x x' hx ?_
 simpa [Value.cells]using kg
end
end
noncomputable section
open Go
inductive Un where
 |z
 |s (n:Un)
def un:Nat->Un
 |0=>.z
 |n+1=>.s (un n)
inductive Tx where
 |bad
 |op (k:ax) (xs:List eZ) (d:Option Pos) (t:Tx)
 |gop (g:Pos) (w:Bool) (k:ax) (xs:List eZ) (d:Option Pos) (t:Tx)
 |dr (t:Tx)
 |pr (k:ax) (xs:List eZ) (d:Option Pos) (t:Tx)
 |Rv (g:Pos) (w:Bool) (k:ax) (xs:List eZ) (d:Option Pos) (t:Tx)
 |rd (b:List Bool) (k:ax) (xs:List eZ) (d:Option Pos) (t:Tx)
 |Rw (g:Pos) (w:Bool) (b:List Bool) (k:ax) (xs:List eZ) (d:Option Pos) (t:Tx)
 |nw (k:ax) (xs:List eZ) (d:Option Pos) (t:Tx)
 |gnw (g:Pos) (w:Bool) (k:ax) (xs:List eZ) (d:Option Pos) (t:Tx)
 |ef (k:ax) (xs:List eZ) (d:Option Pos) (t:Tx)
 |gef (g:Pos) (w:Bool) (k:ax) (xs:List eZ) (d:Option Pos) (t:Tx)
 |OB (x:eZ) (a b:Tx)
 |jn (l:List Pos) (a b:Tx)
 |jmp (i:Un) (l:List Pos)
 |arg (l:List Pos) (t:Tx) (r:Tx)
 |lp (j:Un) (ins:List Pos)
 |agn (ins:List Pos)
 |out (i:Un) (l:List Pos)
 |res (rs:List C0)
def txO:List bD->Tx->Tx
 |[],t=>t
 |  o::os,t=>match o.guard with
    |none=>.op o.k o.xs o.dst (txO os t)
    |some (p,w)=>.gop p w o.k o.xs o.dst (txO os t)
def bitsOf(bT:Nat):List Nat->List Bool
 |[]=>[]
 |i::is=>bT.testBit i::bitsOf bT is
def Ug:List (Nat×bD)->List Nat->Tx->Tx
 |[],_,t=>t
 |  (j,o)::os,is,t=>match o.cls,o.guard with
    |.pure,none=>.pr o.k o.xs o.dst (Ug os (j::is) t)
    |.pure,some (p,w)=> .Rv p w o.k o.xs o.dst (Ug os (j::is) t)
    |.read,none=>.rd (bitsOf o.bT is) o.k o.xs o.dst (Ug os (j::is) t)
    |.read,some (p,w)=> .Rw p w (bitsOf o.bT is) o.k o.xs o.dst (Ug os (j::is) t)
    |.new,none=>.nw o.k o.xs o.dst (Ug os (j::is) t)
    |.new,some (p,w)=>.gnw p w o.k o.xs o.dst (Ug os (j::is) t)
    |.aI,none=>.ef o.k o.xs o.dst (Ug os (j::is) t)
    |.aI,some (p,w)=>.gef p w o.k o.xs o.dst (Ug os (j::is) t)
def txA(K:jV->Tx):List (Nat×List Pos)->Tx->Tx
 |[],t=>t
 |(e,l)::r,t=>.arg l (K (exOf e)) (txA K r t)
def tx:AC->Sh->Nat->(jV->Nat->Tx)->Tx
 |.skip,_,d,K=>K .normal d
 |.region ops,_,d,K=>txO ops (K .normal d)
 |.draw ops,_,d,K=>.dr (Ug ops [] (K .normal d))
 |  .seq a b,s,d,K=>match s with
    | .seq none s t=>tx a s d λex d=>match ex with
      |.normal=>tx b t d K
      |.exit i=>K (.exit i) d
      |.ret=>K .ret d
    | .seq (some l) s t=>.jn l (tx a s (d+1) λex d'=>match ex with
      |.normal=>.jmp (un (d' - d - 1)) l
      |.exit i=>K (.exit i) d'
      |.ret=>K .ret d') (tx b t d K)
    |_=>.bad
 |  .cond x a b,s,d,K=>match s with
    |.cond s t=> .OB x (tx a s d K) (tx b t d K)
    |_=>.bad
 |  .block id a,s,d,K=>match s with
    | .block s=>tx a s d λex d=>match ex with
      |.normal=>K .normal d
      | .exit i=>match Nat.beq i id with
        |true=>K .normal d
        |false=>K (.exit i) d
      |.ret=>K .ret d
    |_=>.bad
 |  .loop _,s,d,K=>match s with
    |.loop j ins outs _=>txA (λex=>K ex d) outs (.lp (un j) ins)
    |_=>.bad
 |.exit id,_,d,K=>K (.exit id) d
 |.ret,_,d,K=>K .ret d
def idxOf:List (Nat×List Pos)->Nat->Nat
 |[],_=>0
 |  (i,_)::r,e=>match Nat.beq i e with
    |true=>0
    |false=>idxOf r e+1
def txF(A:dB)(s:Sh):Tx:=tx A.code s 0 λex _=>match ex with
 |.normal=>.res A.results
 |.ret=>.res A.results
 |.exit _=>.bad
def txL(x:AC×Sh):List Pos×Tx:=match x.2 with
 |  .loop _ ins outs s=>(ins,tx x.1 s 0 λex _=>match ex with
    |.normal=>.agn ins
    |.exit i=>.out (un (idxOf outs (i+2))) (QC outs (i+2))
    |.ret=>.out (un (idxOf outs 1)) (QC outs 1))
 |_=>([],.bad)
section
variable{R:Type}
abbrev KK(R:Type):=List AV->St->Option R
abbrev O2:=Option (AV×St)
abbrev Q2:=KK (AV×St)
def B6:Unit:=(λ_=>()) (@den AV)
def za(p:Pos)(fr:Fr)(k:AV->Option R):Option R:=match fr.get p with
 |some v=>k v
 |none=>(λ_=>none) B6
def AU(p:Pos)(v:AV)(fr:Fr)(k:Fr->Option R):Option R:=(λ_=>k (fr.put (some v) p)) B6
def AW(d:Option Pos)(v:AV)(fr:Fr)(k:Fr->Option R):Option R:=match d with
 |some p=>AU p v fr k
 |none=>k fr
def uD(fr:Fr):List eZ->(List AV->Option R)->Option R
 |[],k=>k []
 |.t p::xs,k=>za p fr λv=>uD fr xs λvs=>k (v::vs)
 |.c v::xs,k=>uD fr xs λvs=>k (v::vs)
def getLT:List Pos->Fr->(List AV->Option R)->Option R
 |[],_,k=>k []
 |p::ps,fr,k=>za p fr λv=>getLT ps fr λvs=>k (v::vs)
def oO:List Pos->List AV->Fr->(Fr->Option R)->Option R
 |[],vs,fr,k=>gP vs (k fr)
 |p::ps,vs,fr,k=>eV vs λv vs=>AU p v fr λfr=>oO ps vs fr k
def Uh(p:Pos)(k:Pos->Option R):Option R:=(λ_=>k p.succ) B6
def AX:Pos->List AV->Fr->(Fr->Option R)->Option R
 |_,[],fr,k=>k fr
 |p,v::vs,fr,k=>AU p v fr λfr=>Uh p λp=>AX p vs fr k
def FX:Un->List (KK R)->KK R
 |.z,k::_=>k
 |.s n,_::ks=>FX n ks
 |_,[]=>λ_ _=>none
def nB:List Bool->T AB->List RC->T AB
 |  b ::bs,h,r::rs=>match r with
    | .new id aA=>match b with
      |true=>(nB bs h rs).put (some aA) id
      |false=>nB bs h rs
    |.aI _ _=>h
    |.pure=>nB bs h rs
 |_,h,_=>h
def nC(k:ax)(xs:List AV)(v:AV):List (Pos×AB)->List Bool->List RC->Bool
 |  up,b::bs,r::rs=>match r with
    | .new id aA=>match b with
      |true=>nC k xs v ((id,aA)::up) bs rs
      |false=>nC k xs v up bs rs
    | .aI base _=>match b with
      |true=>true
      |false=>eA k xs v (iV up (nB bs base rs))&&nC k xs v up bs rs
    |.pure=>nC k xs v up bs rs
 |_,_,_=>true
def zb(fr:Fr)(st:St):List C0->(List AV->Option R)->Option R
 |[],k=>k []
 |.tmp p::rs,k=>za p fr λv=>zb fr st rs λvs=>k (v::vs)
 |.cell p n::rs,k=>za p fr λq=>ldr n q st λv=>zb fr st rs λvs=>k (v::vs)
def Yz(as:List (KK R))(f:KK R)(k:List (KK R)->Option R):Option R:=(λ_=>k (as++[f])) B6
def pkR(vs:List AV)(st:St):Option (AV×St):=some (iq vs,st)
end
section
variable(c:ah)(F:Nat)(Ls:Un->List Q2->Nat->Q2)(ag:Q2)(ko:List Q2)
def JZ(fr:Fr)(x:eZ)(k:AV->Option (AV×St)):Option (AV×St):=match x with
 |.t p=>za p fr k
 |.c v=>k v
def ev:Tx->List (KK (AV×St))->List (KK (AV×St))->Fr->St->List RC->T AB->Option (AV×St)
 |.bad,_,_,_,_,_,_=>none
 |.op k xs d t,ks,as,fr,st,rs,b=>uD fr xs λvs=>ai c k vs st λv st=>AW d v fr λfr=>ev t ks as fr st rs b
 |.gop g w k xs d t,ks,as,fr,st,rs,b=>uD fr xs λvs=>za g fr λg=>bO c g w k vs st λv st=>AW d v fr λfr=>ev t ks as fr st rs b
 |.dr t,ks,as,fr,st,_,_=>ev t ks as fr st [] st.heap
 |.pr k xs d t,ks,as,fr,st,rs,b=>uD fr xs λvs=>dI k vs λv=>AW d v fr λfr=>ev t ks as fr st (.pure::rs) b
 | .Rv g w k xs d t,ks,as,fr,st,rs,b=>uD fr xs λvs=>za g fr λg=>Rv g w k vs λv=>AW d v fr λfr=>ev t ks as fr st (.pure::rs) b
 |.rd bs k xs d t,ks,as,fr,st,rs,b=>uD fr xs λvs=>fP k vs (nB bs b rs) (λv=>nC k vs v [] bs rs) λv=>AW d v fr λfr=>ev t ks as fr st (.pure::rs) b
 | .Rw g w bs k xs d t,ks,as,fr,st,rs,b=>uD fr xs λvs=>za g fr λg=>Rw g w k vs (nB bs b rs) (λv=>nC k vs v [] bs rs) λv=>AW d v fr λfr=>ev t ks as fr st (.pure::rs) b
 |.nw k xs d t,ks,as,fr,st,rs,b=>uD fr xs λvs=>Ry k vs st λv aA=>AW d v fr λfr=>ev t ks as fr (af st aA) (.new st.next aA::rs) b
 |.gnw g w k xs d t,ks,as,fr,st,rs,b=>uD fr xs λvs=>za g fr λg=>Rz g w (Ry k vs st λv aA=>AW d v fr λfr=>ev t ks as fr (af st aA) (.new st.next aA::rs) b) (AW d .undef fr λfr=>ev t ks as fr st (.pure::rs) b)
 |.ef k xs d t,ks,as,fr,st,rs,b=>uD fr xs λvs=>ai c k vs st λv st'=>AW d v fr λfr=>ev t ks as fr st' (.aI b st'.heap::rs) st'.heap
 |.gef g w k xs d t,ks,as,fr,st,rs,b=>uD fr xs λvs=>za g fr λg=>Rz g w (ai c k vs st λv st'=>AW d v fr λfr=>ev t ks as fr st' (.aI b st'.heap::rs) st'.heap) (AW d .undef fr λfr=>ev t ks as fr st (.pure::rs) b)
 | .OB x t u,ks,as,fr,st,rs,b=>JZ fr x λv=>OB v (ev t ks as fr st rs b) (ev u ks as fr st rs b)
 |.jn l t u,ks,as,fr,st,rs,b=>ki (λk=>ev t (k::ks) as fr st rs b) (λvs st=>oO l vs .e λfr=>ev u ks as fr st [] .e)
 |.jmp i l,ks,_,fr,st,_,_=>getLT l fr λvs=>FX i ks vs st
 |.arg l t r,ks,as,fr,st,rs,b=>Yz as (λos st=>oO l os .e λfr=>ev t ks [] fr st [] .e) λas=>ev r ks as fr st rs b
 |.lp j ins,_,as,fr,st,_,_=>getLT ins fr λvs=>Ls j as F vs st
 |.agn ins,_,_,fr,st,_,_=>getLT ins fr λvs=>ag vs st
 |.out i l,_,_,fr,st,_,_=>getLT l fr λvs=>FX i ko vs st
 |.res rs,_,_,fr,st,_,_=>zb fr st rs λvs=>pkR vs st
def eg(p:List Pos×Tx)(vs:List AV)(st:St):Option (AV×St):=oO p.1 vs .e λfr=>ev c F Ls ag ko p.2 [] [] fr st [] .e
end
def bf{R:Type}:Un->List (KK R)->Nat->KK R:=λ_ _ _ _ _=>none
def eO{R:Type}:KK R:=λ_ _=>none
def aT(c:ah)(F:Nat)(Ls:Un->List Q2->Nat->Q2)(t:Tx)(args:List AV)(st:St):O2:=AX .h args .e λfr=>ev c F Ls eO [] t [] [] fr st [] .e
def o7(Ls:Un->List Q2->Nat->Q2)(A:dB)(s:Sh):Env (AV×St):=λj K=>Ls (un j) ((lpO (gj A s j).2).map λo=>K o.1)
def sl:Sh:= .leaf
def sq(a b:Sh):Sh:= .seq none a b
def sj(l:List Nat)(a b:Sh):Sh:= .seq (some (l.map key)) a b
def sc(a b:Sh):Sh:= .cond a b
def sb(a:Sh):Sh:= .block a
def sp(j:Nat)(ins:List Nat)(outs:List (Nat×List Nat))(a:Sh):Sh:= .loop j (ins.map key) (outs.map λo=>(o.1,o.2.map key)) a
section
variable{R:Type}(l r:Fr)(v u:AV)(x:Option AV)(p:Pos)(fr:Fr)(k:AV->Option R)(K:Fr->Option R)(kp:Pos->Option R)
theorem tr:za .h (.n l (some v) r) k=k v:=rfl
theorem tu:za (.o p) (.n l x r) k=za p l k:=rfl
theorem tA:za (.i p) (.n l x r) k=za p r k:=rfl
theorem oc:AU .h v .e K=K (.n .e (some v) .e):=rfl
theorem od:AU .h v (.n l x r) K=K (.n l (some v) r):=rfl
theorem oe:AU (.o p) v .e K=AU p v .e λt=>K (.n t none .e):=rfl
theorem oh:AU (.o p) v (.n l x r) K=AU p v l λt=>K (.n t x r):=rfl
theorem om:AU (.i p) v .e K=AU p v .e λt=>K (.n .e none t):=rfl
theorem oq:AU (.i p) v (.n l x r) K=AU p v r λt=>K (.n l x t):=rfl
theorem tB:AW none v fr K=K fr:=rfl
theorem tC:AW (some p) v fr K=AU p v fr K:=rfl
theorem ot:Uh .h kp=kp (.o .h):=rfl
theorem ou:Uh (.o p) kp=kp (.i p):=rfl
theorem ov:Uh (.i p) kp=Uh p λq=>kp (.o q):=rfl
theorem ow(f:KK R)(k:List (KK R)->Option R):Yz [] f k=k [f]:=rfl
theorem oA(a:KK R)(as:List (KK R))(f:KK R)(k:List (KK R)->Option R):Yz (a::as) f k=Yz as f λl=>k (a::l):=rfl
theorem yO(st:St):pkR [] st=some (.tuple [],st):=rfl
theorem yP(st:St):pkR [v] st=some (v,st):=rfl
theorem yQ(vs:List AV)(st:St):pkR (v::u::vs) st=some (.tuple (v::u::vs),st):=rfl
theorem jK(c:ah)(F:Nat)(Ls:Un->List Q2->Nat->Q2)(ag:Q2)(ko:List Q2)(l:List Pos)(t:Tx)(vs:List AV)(st:St):eg c F Ls ag ko (l,t) vs st=oO l vs .e λfr=>ev c F Ls ag ko t [] [] fr st [] .e:=rfl
end
def wP{α:Type}:Option α->Bool
 |none=>true
 |some _=>false
theorem ajC{α:Type}{o:Option α}(h:wP o=true):o=none:=by cases o with|none=>rfl|some _=>cases h
theorem ajD{α:Type}[Inhabited α]{o:Option α}(h:wP o=false):o=some (o.getD default):=by cases o with|none=>cases h|some _=>rfl
def uE(G:T dB)(f:Nat):dB:=(G.get (key f)).getD default
theorem aeL{O:ff}{G:T dB}{F:Nat}{L:Env (AV×St)}{f:FuncId}{s:Sh}{args:List AV}{st:St}{r:AV×St}(hk:(wP (O f)&& !wP (G.get (key f)))=true)
  (hL:∀x∈fe (uE G f).code s,AN (run O G) F L x.1 x.2) {k:O2} (hd:DO (run O G) F L (uE G f) s args st=k) (h:k=some r):run O G f args st=some (tidy st r):=by
 simp only[Za9,Zi6]at hk;exact agp (ajC hk.1) (ajD hk.2) hL (hd.trans h)
theorem ab3{O:ff}{G:T dB}{F:Nat}{f:FuncId}{args:List AV}{st:St}{r:AV×St}(s:Sh)(hk:(wP (O f)&& !wP (G.get (key f))&&(fe (uE G f).code s).isEmpty)=true)
  {k:O2} (hd:DO (run O G) F (Yw []) (uE G f) s args st=k) (h:k=some r):run O G f args st=some (tidy st r):=by
 rw[Za9,List.isEmpty_iff]at hk;exact aeL hk.1 (by rw[hk.2];intro x hx;cases hx) hd h
theorem Vx{O:ff}{G:T dB}{F:Nat}{f:FuncId}{args:List AV}{st:St}{r:AV×St}(Ls:Un->List Q2->Nat->Q2)(s:Sh)(n:Nat)(hk:(wP (O f)&& !wP (G.get (key f))&&Nat.beq (fe (uE G f).code s).length n)=true)
  (hL:∀i,i<n->AN (run O G) F (o7 Ls (uE G f) s) (gj (uE G f) s i).1 (gj (uE G f) s i).2) {k:O2} (hd:DO (run O G) F (o7 Ls (uE G f) s) (uE G f) s args st=k) (h:k=some r):run O G f args st=some (tidy st r):=by
 rw[Za9]at hk;exact aeL hk.1 (agq n hk.2 hL) hd h
theorem ab4 {O:ff} {G:T dB} {F:Nat}{f:FuncId}{args:List AV}{st:St}{r:AV×St}(Ls:Un->List Q2->Nat->Q2)(s:Sh)(hk:(wP (O f)&& !wP (G.get (key f))&&Nat.beq (fe (uE G f).code s).length 1)=true)
  (hs:(Vn (gj (uE G f) s 0).2&&Nat.beq (lpJ (gj (uE G f) s 0).2) 0)=true) (h0:∀K' vs st,o7 Ls (uE G f) s 0 K' 0 vs st=none)
  (h1:∀K' n vs st,o7 Ls (uE G f) s 0 K' (n+1) vs st=JT (den (run O G) F (o7 Ls (uE G f) s) (gj (uE G f) s 0).1 (lpB (gj (uE G f) s 0).2)) (lpI (gj (uE G f) s 0).2) (lpO (gj (uE G f) s 0).2) K' (o7 Ls (uE G f) s 0 K' n) vs st)
  {k:O2} (hd:DO (run O G) F (o7 Ls (uE G f) s) (uE G f) s args st=k) (h:k=some r):run O G f args st=some (tidy st r):=
 Vx Ls s 1 hk (fun i hi=>by obtain rfl:i=0:=by omega
                            exact mZ 0 hs h0 h1) hd h
end
section
open Go
end
section
def zc(tk:List Bool)(fr:Nat):Nat->Nat->Option Nat
 |0,_=>none
 |m+1,k=>if tk.getD ((fr+k) % tk.length) true=false then some ((fr+k) % tk.length)else zc tk fr m (k+1)
def Ui(tk:List Bool)(fr:Nat):List Bool×Int:=match zc tk fr tk.length 0 with
 |some s=>(tk.set s true,(s:Int))
 |none=>(tk,-1)
theorem Ni{tk:List Bool}{fr s:Nat}:∀{m k:Nat},zc tk fr m k=some s->tk[s]? =some false
 |0,_,h=>by cases h
 |m +1,k,h=>by
  unfold zc at h;split at h
  . rename_i e;cases h;cases e2:tk[(fr+k) % tk.length]? with
    |none=>rw[Zc1,e2]at e;simp at e
    |some b=>rw[Zc1,e2]at e;simp at e;rw[e]
  .exact Ni h
theorem Nj{tk:List Bool}{fr:Nat}:∀{m k:Nat},zc tk fr m k=none->∀j,k<=j->j<k+m->tk.getD ((fr+j) % tk.length) true=true
 |0,_,_,j,h1,h2=>by omega
 |m +1,k,h,j,h1,h2=>by
  unfold zc at h;split at h
  .cases h
  . rename_i e;by_cases e2:j=k
    .subst e2;simpa using e
    .exact Nj h j (by omega) (by omega)
def Uj(tk:List Bool):Nat:=(tk.filter λb=> !b).length
theorem Xe:∀{tk:List Bool},0<Uj tk->∃s:Nat,tk[s]? =some false
 |[],h=>by simp[Uj]at h
 |false::tk,_=>⟨0,rfl⟩
 |true::tk,h=>by
  obtain⟨s,hs⟩:=Xe (tk:=tk) (by simpa [Uj]using h);exact⟨s+1,by simpa using hs⟩
theorem ZL(tk:List Bool)(fr:Nat):((Ui tk fr).2= -1/\(Ui tk fr).1=tk/\Uj tk=0)\/∃s:Nat,Ui tk fr=(tk.set s true,(s:Int))/\tk[s]? =some false:=by
 unfold Ui;cases e:zc tk fr tk.length 0 with
 |some s=>exact .inr ⟨s,rfl,Ni e⟩
 |none=>
  refine .inl ⟨rfl,rfl,?_⟩;rcases Zm8 (Uj tk)with h|h
  .exact h
  . exfalso;obtain⟨s,hs⟩:=Xe h;have hl:s<tk.length:=(H5.1 hs).1;have key:=Nj e ((s+tk.length - fr % tk.length) % tk.length) (Zi5 _) (by rw[Zc7];exact Nat.mod_lt _ (by omega));have hm:fr % tk.length<tk.length:=Nat.mod_lt _ (by omega);have:(fr+(s+tk.length - fr % tk.length) % tk.length) % tk.length=s:=by
        rw[Nat.add_mod,Nat.mod_mod];rcases Zj6 (s+tk.length - fr % tk.length) tk.length with h1|h1
        .rw[Zg5 h1];rw[show fr % tk.length+(s+tk.length - fr % tk.length)=s+tk.length by omega,Nat.add_mod_right,Zg5 hl]
        .rw[Zp4 h1,Zg5 (by omega:s+tk.length - fr % tk.length - tk.length<tk.length)];rw[show fr % tk.length+(s+tk.length - fr % tk.length - tk.length)=s by omega,Zg5 hl]
    rw[this,Zc1,hs]at key;simp at key
inductive Ch where
 |no
 |sit (s:Nat)
 |fr (f:Nat)
def looks:List Ch->Nat
 |[]=>0
 |.fr _::l=>looks l+1
 |_::l=>looks l
end
section
open Go
section
variable{R:Type}{c:ah}
theorem aiL{v z:AV}{n N k:Nat}(hk:k<=n):cut (List.replicate n v++List.replicate N z) 0 k=some (List.replicate k v):=by
 unfold cut;rw[cF,H2 (by simp;omega)];simp only[Zb7];rw[Zj8 (by simpa using hk),List.take_replicate,Zk4 hk]
theorem ac8{v z:AV}{n m k:Nat}:aL (List.replicate n v++List.replicate m z) n (List.replicate k v)=List.replicate (n+k) v++List.replicate (m - k) z:=by unfold aL;rw[Zj8 (by simp),Zg0 (by simp)];rw[<-Zg8,List.replicate_append_replicate];congr 1;rw[List.drop_append];simp
theorem LM{v:AV}(hv:v.one=true):∀k,bg (List.replicate k v)=true
 |0=>rfl
 |k+1=>by rw[Zm6];unfold bg;rw[hv];exact LM hv k
theorem ZM{b:Pos}{v z:AV}{n m:Nat}{cp FY:Option Nat}(hn:0<n)(hm:0<m)(hv:v.one=true){s:St}(h:s.heap.get b=some (.cells (List.replicate n v++List.replicate m z) 0))(K:AV->St->Option R):
  ai c (.copyB 1) [.slice b n m cp 1,.slice b 0 n FY 1] s K=K (.int .i64 ((min n m:Nat):Int)) (cR s b (.cells (List.replicate (n+min n m) v++List.replicate (m - min n m) z) 0)):=by
 have e:ax.run (λb=>s.heap.get b) s.next (.copyB 1) [.slice b n m cp 1,.slice b 0 n FY 1]=some (.aI (DK (min n m)) none (some (b,.cells (List.replicate (n+min n m) v++List.replicate (m - min n m) z) 0)) none):=by
  show lQ (λb=>s.heap.get b) s.next 1 [.slice b n m cp 1,.slice b 0 n FY 1]=_;unfold lQ;simp only[dH];rw[cW,H3 (by omega)];simp only;have hf:cJ 1 (min n m) (λb=>s.heap.get b) (.slice b 0 n FY 1)=some (List.replicate (min n m) v):=by
   unfold cJ;rw[cW,H3 (by omega)];simp only;rw[h];simp only[Zk7];exact aiL (Nat.min_le_left _ _)
  rw[h,hf];simp only;rw[cF,H2 (by simp;omega),cF,H2 (Zi5 _),LM hv];simp only;rw[ac8]
 unfold ai bY;rw[e];rfl
theorem SB{n:Int}(h0:0<=n)(h1:n<4294967296)(s:St)(K:AV->St->Option R):ai c (.bin .and .num) [.int .u64 n,.int .u64 4294967295] s K=K (.int .u64 n) s:=by
 obtain⟨m,rfl⟩:=Int.eq_ofNat_of_zero_le h0;have hm:m<4294967296:=by omega
 have e:(IntKind.u64.wrap ((BitVec.ofInt IntKind.u64.bits (m:Int) &&& BitVec.ofInt IntKind.u64.bits 4294967295).toNat:Int))=(m:Int):=by
  have e1:(BitVec.ofInt 64 (m:Int) &&& BitVec.ofInt 64 4294967295).toNat=m:=by
   rw[BitVec.toNat_and];have a:(BitVec.ofInt 64 (m:Int)).toNat=m:=(by rw[BitVec.toNat_ofInt];omega);have b:(BitVec.ofInt 64 4294967295).toNat=2 ^ 32 - 1:=(by decide);rw[a,b,Nat.and_two_pow_sub_one_eq_mod,Zg5 (by omega)]
  show IntKind.u64.wrap (((BitVec.ofInt 64 (m:Int) &&& BitVec.ofInt 64 4294967295).toNat:Nat):Int)=_;rw[e1];simp only[IntKind.wrap,show IntKind.u64.bits=64 from rfl];have hs:IntKind.u64.signed=false:=rfl;simp only[hs,Zj2,Zd4,Ze1];omega
 refine aP c K (λH n=> ?_) s;show(jT .and .num (.int .u64 (m:Int)) (.int .u64 4294967295)).map cL.val=_;unfold jT;simp only[cV];rw[e];rfl
end
theorem agF{R:Type}(K:AV->Option R){b:Pos}{off len es es':Nat}{cap:Option Nat}{k:IntKind}{i:Nat}(h:i<len):dI (.idxA es none) [.slice b off len cap es',.int k (i:Int)] K=K (.ptr b (off+i*es)):=
 cM K (λH n=>by
  simp only[ax.run,mK,eM];have:Nat.blt i len=true:=by rw[Zp6];exact h
  rw[this])
end
end Go.Ai
namespace Go.Ai.RI
section
def sm:Nat->(Nat->Nat)->Nat
 |0,_=>0
 |n+1,f=>sm n f+f n
abbrev Q:=Nat->Int
abbrev Ms:=List (Nat×Int×Int)
def upd(q:Q)(g:Nat)(t:Int):Q:=λi=>if i=g then t else q i
def Run(n:Nat):Q->Ms->Q->Prop
 |q,[],r=>q=r
 |q,(g,f,t)::l,r=>g<n/\f≠t/\q g=f/\(0<=t->∀i,q i≠t)/\Run n (upd q g t) l r
def cm:Ms->Nat->Nat
 |[],_=>0
 |x::l,g=>(if g=x.1 then 1 else 0)+cm l g
section
variable{n:Nat}{a b q:Q}{l:Ms}
def off(b q:Q)(i:Nat):Bool:=decide (q i≠b i)
def Need(n:Nat)(a b:Q)(B:Nat->Bool)(k:Nat):Prop:=
 (∀S,Run n a S b->k<=sm n λi=>if B i then 0 else cm S i)/\2*k<=3*sm n λi=>if B i then 0 else if a i=b i then 0 else 1
def Mode(n:Nat)(a b q:Q)(l:Ms):Prop:=
 ((∀i<n,q i≠b i->q i=a i/\cm l i=0)/\Need n a b (off b q) l.length)\/
 ∃  B w k,Need n a b B k/\(∀z<n,B z=true->a z≠b z/\0<=b z/\∃y<n,B y=true/\a y=b z)/\w<n/\B w=true/\(∀i<n,q i≠b i->B i=true)/\
    l.length=k+1+sm n (λi=>if B i&& !off b q i then 1 else 0)/\(∀i<n,q i≠b i->i≠w->q i=a i/\cm l i=0)/\(q w≠b w->q w= -1/\cm l w<=1)
structure Inv(n:Nat)(a b q:Q)(l:Ms):Prop where
 run:Run n a l q
 two:∀g,cm l g<=2
 mov:∀g,cm l g≠0->a g≠b g
 mode:Mode n a b q l
def Em(n:Nat)(b q:Q):Nat:=sm n λi=>if q i=b i then 0 else if q i<0 then 1 else 2
end
end
end Go.Ai.RI
namespace Go.Ai.HY
section
def put(q:List Int)(g:Nat)(x:Int):Option (List Int):=if 0<=q.getD g (-1)then none else if x∈q then none else some (q.set g x)
def bF(c:Nat):List Nat->List Nat->List (List Nat)
 |acc,[]=>[acc]
 |acc,x::l=>if x=c then acc::bF c [] l else bF c (acc++[x]) l
theorem SC{c:Nat}:∀(w acc l:List Nat),c∉w->bF c acc (w++l)=bF c (acc++w) l
 |[],acc,l,_=>by simp
 |x::w,acc,l,h=>by
  have h1:x≠c:=λe=>h (by simp[e])
  have h2:c∉w:=λe=>h (Za0 _ e)
  rw[Ze8,bF,Za2 h1,SC w (acc++[x]) l h2];simp
theorem QH{c:Nat}(w:List Nat)(h:c∉w):bF c [] w=[w]:=by have:=SC (c:=c) w [] [] h;simpa [bF]using this
theorem SD{c:Nat}(w l:List Nat)(h:c∉w):bF c [] (w++c::l)=w::bF c [] l:=by rw[SC w [] (c::l) h,bF,Za4 rfl];simp
def RJ(k:Nat):List Nat:=if k<10 then [48+k]else [48+k / 10,48+k % 10]
def num(l:List Nat):Option Nat:=
 if l.length=0\/9<l.length\/(1<l.length/\l[0]? =some 48)then none
 else if l.all (λc=>decide (48<=c)&&decide (c<=57))then some (l.foldl (λn c=>10*n+(c - 48)) 0)else none
def En:List Int->Int->Nat->Option (Nat×Int)
 |[],_,_=>none
 |z::zs,s,i=>if s<z then some (i,s)else En zs (s - z) (i+1)
theorem aeM:∀{zs:List Int}{s:Int}{i t:Nat}{y:Int},0<=s->En zs s i=some (t,y)->i<=t/\0<=y/\(∃z,zs[t - i]? =some z/\y<z)/\(zs.take (t - i)).sum+y=s
 |[],_,_,_,_,_,h=>by cases h
 |z ::zs,s,i,t,y,hs,h=>by
  unfold En at h;by_cases hz:s<z
  .rw[Za4 hz]at h;(injection h with h;injection h with h1 h2);subst h1;subst h2;refine⟨Za3 _,hs,⟨z,by simp,hz⟩,by simp⟩
  . rw[Za2 hz]at h;obtain⟨h1,h2,⟨u,h3,h4⟩,h5⟩:=aeM (by omega) h;refine⟨by omega,h2,⟨u,?_,h4⟩,?_⟩
    .rw[show t - i=(t - (i+1))+1 by omega,Za6];exact h3
    .rw[show t - i=(t - (i+1))+1 by omega,List.take_succ_cons,List.sum_cons];omega
theorem ab5:∀{zs:List Int}{s:Int}{i:Nat},0<=s->s<zs.sum->∃t y,En zs s i=some (t,y)
 |[],s,i,h1,h2=>by simp at h2;omega
 |z ::zs,s,i,h1,h2=>by
  unfold En;by_cases hz:s<z
  .exact⟨i,s,by rw[Za4 hz]⟩
  .rw[Za2 hz];rw[List.sum_cons]at h2;exact ab5 (by omega) (by omega)
def iR(l:List (List Nat))(w:List Nat):Option Nat:=l.findIdx? (λx=>decide (x=w))
def ac9(gn tn:List (List Nat))(zs:List Int)(g:Nat)(x:Int):List Nat:=match En zs x 0 with
 |some (j,y)=>[115,101,97,116]++32::(gn.getD g []++32::(tn.getD j []++32::RJ y.toNat))
 |none=>[]
section
variable{gn tn:List (List Nat)}{zs:List Int}
end
open Go
def ql (gn tn:List (List Nat))(zs:List Int)(q:List Int)(w:List Nat):Int×List Int:=match bF 32 [] w with
 |  [a, g,t,n]=>if a≠[115,101,97,116]\/g=[]\/t=[]then(3,q)else match num n with
    |none=>(3,q)
    | some k=>match iR gn g with
      |none=>(6,q)
      | some i=>match iR tn t with
        |none=>(6,q)
        |some j=>if zs.getD j 0<=(k:Int)then(50,q)else if 0<=q.getD i (-1)then(5,q)else if(zs.take j).sum+k∈q then(51,q)else(0,q.set i ((zs.take j).sum+k))
 |_=>(3,q)
def ZN(gn tn:List (List Nat))(zs:List Int):List (List Nat)->Nat->List Int->List Int×Nat×Int
 |[],_,q=>(q,0,0)
 |[w],k,q=>if w=[]then(q,0,0)else([],k,3)
 |w::v::ws,k,q=>if(ql gn tn zs q w).1=0 then ZN gn tn zs (v::ws) (k+1) (ql gn tn zs q w).2 else([],k,(ql gn tn zs q w).1)
section
variable{gn tn:List (List Nat)}{zs:List Int}
theorem ZO {q : List Int}{w:List Nat}:(ql gn tn zs q w).2.length=q.length:=by
 unfold ql;split
 . split
   .rfl
   . split
     .  rfl
     .  split
        .rfl
        . split
          .rfl
          . split
            .rfl
            . split
              .rfl
              . split
                .rfl
                .simp
 .rfl
end
theorem ZP{c:Nat}(hc:c<256):∀{l:List Nat},(∀x∈l,x<256)->c∉l->Lib.indexByte (l.map UInt8.ofNat) ((c:Int).toNat.toUInt8)= -1
 |[],_,_=>rfl
 |x::l,h,hn=>by
  have hx:=h x (by simp);have ih:=ZP hc (l:=l) (λy hy=>h y (Za0 _ hy)) (λe=>hn (Za0 _ e));have cU:(UInt8.ofNat x==(c:Int).toNat.toUInt8)=false:=by
   rw[Zl1];intro e;have e:=congrArg UInt8.toNat e;rw[Zj1]at e;simp[Zg5 hx,Zg5 hc]at e;exact hn (by simp[e])
  rw[Zb4,Lib.indexByte,cU,ih];rfl
theorem LN{c:Nat}(hc:c<256):∀{a b:List Nat},(∀x∈a,x<256)->c∉a->Lib.indexByte ((a++c::b).map UInt8.ofNat) ((c:Int).toNat.toUInt8)=(a.length:Int)
 |[],b,_,_=>by
  rw[Ze6,Zb4,Lib.indexByte,Za4]
  .rfl
  .rw[Zj1];exact Zp8 _
 |x ::a,b,h,hn=>by
  have hx:=h x (by simp);have ih:=LN hc (a:=a) (b:=b) (λy hy=>h y (Za0 _ hy)) (λe=>hn (Za0 _ e));have cU:(UInt8.ofNat x==(c:Int).toNat.toUInt8)=false:=by
    rw[Zl1];intro e;have e:=congrArg UInt8.toNat e;rw[Zj1]at e;simp[Zg5 hx,Zg5 hc]at e;exact hn (by simp[e])
  rw[Ze8,Zb4,Lib.indexByte,cU,ih];have:(((a.length:Nat):Int)== -1)=false:=by rw[Zl1];omega
  rw[this];simp
theorem Uk{c:Nat}:∀(l:List Nat),c∉l\/∃a b,c∉a/\l=a++c::b
 |[]=>.inl (by simp)
 |x ::l=>by
  by_cases hx:x=c
  .exact .inr ⟨[],l,by simp,by simp[hx]⟩
  . rcases Uk (c:=c) l with h|⟨a,b,h,e⟩
    .exact .inl (by simp only[Za7,not_or];exact⟨λe=>hx e.symm,h⟩)
    .exact .inr ⟨x::a,b,by simp only[Za7,not_or];exact⟨λe=>hx e.symm,h⟩,by rw[e];rfl⟩
theorem Vy{c:Nat}(hc:c<256):∀(l acc:List Nat),(∀x∈l,x<256)->Lib.countByte (l.map UInt8.ofNat) ((c:Int).toNat.toUInt8)+1=(bF c acc l).length
 |[],_,_=>rfl
 |x ::l,acc,h=>by
  have hx:=h x (by simp);have hl:=λy hy=>h y (Za0 _ hy)
  unfold Lib.countByte;rw[Zb4,List.count_cons,bF];by_cases e:x=c
  .subst e;have ih:=Vy hc l [] hl;unfold Lib.countByte at ih;rw[Zj1]at ih ⊢;rw[Za4 rfl,Zb2, <-ih];have:(UInt8.ofNat x==x.toUInt8)=true:=Zp8 _;rw[this];simp
  .have ih:=Vy hc l (acc++[x]) hl;unfold Lib.countByte at ih;have cU:(UInt8.ofNat x==(c:Int).toNat.toUInt8)=false:=(by rw[Zl1];intro e';have e':=congrArg UInt8.toNat e';rw[Zj1]at e';simp[Zg5 hx,Zg5 hc]at e';exact e e');rw[Za2 e, <-ih,cU];simp
theorem Dh{c:Nat}:∀(l acc:List Nat),bF c acc l≠[]
 |[],_=>by simp[bF]
 |x::l,acc=>by
  rw[bF];split
  .simp
  .exact Dh l _
theorem Vz{c:Nat}:∀(l acc:List Nat),(bF c acc l).length<=l.length+1
 |[],_=>by simp[bF]
 |x ::l,acc=>by
  rw[bF];split
  .have:=Vz (c:=c) l [];simp only[Zb2];omega
  .have:=Vz (c:=c) l (acc++[x]);simp only[Zb2];omega
end
end Go.Ai.HY
namespace Go.Ai
section
open Go
structure Rd(s:St)(es:Nat)(L:AV)(i:Nat)(b:Pos)(o:Nat)(r:List AV):Prop where
 st:∀{R:Type}(c:ah)(K:AV->St->Option R)(k:IntKind)(s1:St),ai c (.idxA es none) [L,.int k (i:Int)] s1 K=K (.ptr b o) s1
 pr:∀{R:Type}(K:AV->Option R)(k:IntKind),dI (.idxA es none) [L,.int k (i:Int)] K=K (.ptr b o)
 at':∀(j:Nat)(u:AV),r[j]? =some u->((cellsOf (s.heap.get b)).bind λcs=>cs[o+j]?)=some u
 all:((cellsOf (s.heap.get b)).bind λcs=>cut cs o es)=some r
theorem QS.rd{s:St}{es:Nat}{v:AV}{rows:List (List AV)}(h:QS es s v rows)(hr:∀r∈rows,r.length=es){i:Nat}{r:List AV}(hi:rows[i]? =some r):∃b o,Rd s es v i b o r:=by
 obtain⟨fU,rfl⟩:=H5.1 hi;have hlen:=hr _ (Zc6 fU);rcases h with⟨rfl,h⟩|⟨b,off,cap,cs,rfl,g1,g2,g3,g4⟩|⟨b,off,rfl,h⟩
 .rw[h]at fU;simp at fU
 rotate_left
 .rw[h]at fU;simp at fU
 have hmul:(i+1)*es<=rows.length*es:=Zh8 _ fU;rw[Zi7]at hmul;have Xf:∀(j:Nat)(u:AV),rows[i][j]? =some u->cs[off+i*es+j]? =some u:=λj u hj=>by have hj2:j<es:=(by rw[<-hlen];exact(H5.1 hj).1);have:=Go.Ai.FW hr i j rows[i] u (H1 fU) hj;rw[<-g3,Zb8,Za4 (by omega),Zd7]at this;rw[<-this];congr 1;omega
 refine⟨b,off+i*es,λc K k s1=>CC c K s1 fU,λK k=>agF K fU,λj u hj=>by rw[g1];exact Xf j u hj,?_⟩;rw[g1];show cut cs (off+i*es) es=some rows[i];unfold cut;rw[cF,H2 (by omega)];refine congrArg some ?_;apply Zi4;intro j;by_cases hj:j<es
 .rw[Zb8,Za4 hj,Zd7];exact(Xf j (rows[i]'fU)[j] (H1 (by omega))).trans (H1 (by omega)).symm
 .rw[Zc4 (by simp;omega),Zc4 (by omega)]
theorem Rd.one{s:St}{L x:AV}{i:Nat}{b:Pos}{o:Nat}(h:Rd s 1 L i b o [x]):((cellsOf (s.heap.get b)).bind λcs=>cs[o]?)=some x:=h.at' 0 x rfl
theorem QS.ZQ{s:St}{v:AV}{l:List AV}(h:QS 1 s v (l.map ac4)){i:Nat}{x:AV}(hx:l[i]? =some x):∃b o,Rd s 1 v i b o [x]:=
 h.rd (agC l) (by rw[Zb5,hx];rfl)
theorem QS.aN{es:Nat}{s s':St}{v:AV}{rows:List (List AV)}(h:QS es s v rows)(g:Grew s s'):QS es s' v rows:=h.mono λb x _ hx=>g.get hx
section
variable{c:ah}{R:Type}
theorem QI{x:Int}(h1:0<=x)(h2:x<=18446744073709551615):au .u64 x=x:=by
 unfold au Wr Ws;simp only;split
 . split
   .rfl
   .contradiction
 .contradiction
theorem SE{a:Int}(h0:0<=a)(h1:a<4294967296)(s:St)(K:AV->St->Option R):ai c (.bin .shr .num) [.int .u64 a,.int .u64 32] s K=K (.int .u64 0) s:=aP c K (λH n=>by
 have e0:CT (32:Int) 0=false:=by rw[eJ];rfl
 have e1:min (32:Int).toNat (IntKind.bits .u64)=32:=rfl;simp only[ax.run,fI,jT,e0,e1];rw[Zp7 _ (by decide)];rw[show(2:Int) ^ 32=4294967296 from rfl,Int.ediv_eq_zero_of_lt h0 h1]
 ) s
theorem abj{v z:AV}{m k:Nat}:aL (List.replicate m z) 0 (List.replicate k v)=List.replicate k v++List.replicate (m - k) z:=by unfold aL;simp
theorem ZR{b b2:Pos}{v z:AV}{m:Nat}{cp FY:Option Nat}(hm:0<m)(hv:v.one=true){s:St}(h:s.heap.get b=some (.cells (List.replicate m z) 0))(h2:s.heap.get b2=some (.cells [v] 0))(K:AV->St->Option R):
  ai c (.copyB 1) [.slice b 0 m cp 1,.slice b2 0 1 FY 1] s K=K (.int .i64 1) (cR s b (.cells (List.replicate 1 v++List.replicate (m - 1) z) 0)):=by
 have e:ax.run (λb=>s.heap.get b) s.next (.copyB 1) [.slice b 0 m cp 1,.slice b2 0 1 FY 1]=some (.aI (DK 1) none (some (b,.cells (List.replicate 1 v++List.replicate (m - 1) z) 0)) none):=by
  show lQ (λb=>s.heap.get b) s.next 1 [.slice b 0 m cp 1,.slice b2 0 1 FY 1]=_;unfold lQ;simp only[dH];have hmin:min m 1=1:=by omega
  rw[show min 1 m=1 by omega,cW,H3 (by omega)];simp only;have hf:cJ 1 1 (λb=>s.heap.get b) (.slice b2 0 1 FY 1)=some (List.replicate 1 v):=by unfold cJ;rw[cW,H3 (by omega)];simp only;rw[h2];exact bJ rfl
  rw[h,hf];simp only;rw[cF,H2 (by simp;omega),cF,H2 (Zi5 _),LM hv];simp only;rw[abj]
 unfold ai bY;rw[e];rfl
theorem aeN{b:Pos}{N n:Nat}(h:n<=N)(k:IntKind)(K:AV->Option R):dI (.sliceL 1 true false false) [.slice b 0 N (some N) 1,.int k (n:Int)] K=K (.slice b n (N - n) (some (N - n)) 1):=cM K (λH m=>by
 have hb:bounds true false false [.int k (n:Int)]=some (some n,none,none):=by simp[bounds,eM]
 simp only[ax.run,lu,hb,cW,cF,Zf6,Zf1,Zi8,H2 h,Za3];simp)
theorem aeO{b:Pos}{N n:Nat}(h:n<=N)(k:IntKind)(K:AV->Option R):dI (.sliceL 1 false true false) [.slice b 0 N (some N) 1,.int k (n:Int)] K=K (.slice b 0 n (some N) 1):=cM K (λH m=>by
 have hb:bounds false true false [.int k (n:Int)]=some (none,some n,none):=by simp[bounds,eM]
 simp only[ax.run,lu,hb,cW,cF,Zf6,Zf1,Zi8,Zi5,H2 h]
 all_goals simp)
theorem XW{b b2:Pos}{cp FY:Option Nat}{n:Nat}(s:St)(K:AV->St->Option R):ai c (.copyB 1) [.slice b 0 0 cp 1,.slice b2 0 n FY 1] s K=K (.int .i64 0) s:=by
 have e:ax.run (λb=>s.heap.get b) s.next (.copyB 1) [.slice b 0 0 cp 1,.slice b2 0 n FY 1]=some (.val (DK 0)):=by
  show lQ (λb=>s.heap.get b) s.next 1 [.slice b 0 0 cp 1,.slice b2 0 n FY 1]=_;unfold lQ;simp only[dH];rw[show min n 0=0 by omega]
 unfold ai bY;rw[e];rfl
end
theorem T.SG{α:Type}{x:α}:∀(p:Pos)(t:T α),t.get p=some x->T.put (some x) p t=t
 |p,.e,h=>by rw[T.ej]at h;cases h
 |.h,.n l v r,h=>by have h:v=some x:=h;subst h;rfl
 | .o p,.n l v r,h=>by
   have h:l.get p=some x:=h;simp only[T.put];rw[T.SG p l h]
 | .i p,.n l v r,h=>by
   have h:r.get p=some x:=h;simp only[T.put];rw[T.SG p r h]
theorem aeP{s:St}{p:Pos}{b:AB}(h:s.heap.get p=some b):cR s p b=s:=by
 unfold cR;rw[T.SG p s.heap h]
theorem zd{b:Pos}{off n es:Nat}(hn:n≠0)(h:Plain (.slice b off n (some n) es)):False:=by
 have h1:aq (λ_=>⟨0,0,off+n*es⟩) (b.toNat+1) (λ_=>none) (.slice b off n (some n) es) (.slice (some ⟨0,0+off,none⟩) n n):=
  .slice b off n (some n) es n _ (Za3 _) (λc hc=>by cases hc;rfl) (λ_=>⟨by omega,rfl,by simp⟩) (λh=>by cases h)
 have h2:=h _ (λ_=>⟨0,0,0⟩) _ 0 _ _ h1;cases h2 with
 |slice _ _ _ _ _ _ _ _ _ ha _=>exact absurd (ha hn).1 (by omega)
end
end Go.Ai
