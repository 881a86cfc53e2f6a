/- The program as plain functions. -/
import Derived.Test.YtoeleelojgimfaaGreatDoorPEvalD
import Derived.WalkKit
import Derived.OpenShut
import Derived.ProofKit
import Derived.ShutString
set_option linter.all false
namespace Go.Ai
section
open Go Go.RowKit
def IC(c c':ai):Prop:=∀f args st r,c f args st=some r->c' f args st=some r
theorem IC.refl(c:ai):IC c c:=λ_ _ _ _ h=>h
section
variable{c c':ai}
theorem DP(h:IC c c'){k:av}{xs:List AV}{st:St}{r:AV×St}(e:bS c k xs st=some r):bS c' k xs st=some r:=by
 unfold bS at e ⊢;cases hr:k.run (λb=>st.heap.get b) st.next xs with
 |none=>simp[hr]at e
 |some x=>cases x with
  |val v=>simpa [hr]using e
  |aC v d s n=>simpa [hr]using e
  |call f args=>simp only[hr]at e ⊢; exact h _ _ _ _ e
theorem HR(h:IC c c'):∀(os:List bh)(fr:Fr)(st:St)(r:Fr×St),iq c os fr st=some r->iq c' os fr st=some r
 |[],_,_,_,e=>e
 |o::os,fr,st,r,e=>by
  unfold iq at e ⊢;cases hw:bF fr o.guard with
  |none=>simp[hw]at e
  |some b=>cases b with
   |false=>simp only[hw]at e ⊢; exact HR h _ _ _ _ e
   |    true=>
        simp only[hw]at e ⊢;cases hx:dM fr o.xs with
        |none=>simp[hx]at e
        |some xs=>
         simp only[hx]at e ⊢;cases hs:bS c o.k xs st with
         |none=>simp[hs]at e
         |some p=>simp only[hs]at e;simp only[DP h hs];exact HR h _ _ _ _ e
theorem Jw (h:IC c c'):∀(os:List (Nat×bh))(recs:List Rec)(base:T AB)(fr:Fr)(st:St)(r:Fr×St),cF c os recs base fr st=some r->cF c' os recs base fr st=some r
 |[],_,_,_,_,_,e=>e
 |(j,   o)::os,recs,base,fr,st,r,e=>by
  have ih:=Jw h os;unfold cF at e ⊢;cases hw:bF fr o.guard with
  |none=>simp[hw]at e
  | some b=>cases b with
    |false=>simp only[hw]at e ⊢; exact ih _ _ _ _ _ e
    |   true=>
        simp only[hw]at e ⊢;cases hx:dM fr o.xs with
        |none=>simp[hx]at e
        |some xs=>
         simp only[hx]at e ⊢;cases hc:o.cls with
         |  aC=>
            simp only[hc]at e ⊢;cases hs:bS c o.k xs st with
            |none=>simp[hs]at e
            |some p=>simp only[hs]at e;simp only[DP h hs];exact ih _ _ _ _ _ e
         |  new=>
            simp only[hc]at e ⊢;split at e<;>first|(cases e;done)|exact ih _ _ _ _ _ e
         |  pure=>
            simp only[hc]at e ⊢;split at e<;>(try split at e)<;>(try split at e)<;>first|(cases e;done)|(simp only[*];exact ih _ _ _ _ _ e)|exact ih _ _ _ _ _ e
         |  read=>
            simp only[hc]at e ⊢;split at e<;>(try split at e)<;>(try split at e)<;>first|(cases e;done)|(simp only[*];exact ih _ _ _ _ _ e)|exact ih _ _ _ _ _ e
theorem HS(h:IC c c'):∀(n m:Nat),n<=m->∀(a:AC)(fr:Fr)(st:St)(r:iF×Fr×St),exec c n a fr st=some r->exec c' m a fr st=some r
 |0,_,_,_,_,_,_,e=>by simp[exec]at e
 |n+1,0,hm,_,_,_,_,_=>by omega
 |n+    1,m+1,hm,a,fr,st,r,e=>by
  have ih:=HS h n m (by omega);cases a<;>simp only[exec,aX]at e ⊢
  case skip=>exact e
  case exit=>exact e
  case ret=>exact e
  case region ops=>
   cases ho:iq c ops fr st with
   |none=>simp[ho]at e
   |some p=>simp only[ho]at e;simp only[HR h _ _ _ _ ho];exact e
  case draw ops=>
   cases ho:cF c ops [] st.heap fr st with
   |none=>simp[ho]at e
   |some p=>simp only[ho]at e;simp only[Jw h _ _ _ _ _ _ ho];exact e
  case seq a b=>
   cases ha:exec c n a fr st with
   |none=>simp[ha]at e
   |    some p=>
        obtain⟨ex,bI,aK⟩:=p;simp only[ha]at e;simp only[ih _ _ _ _ ha];cases ex<;>first|exact e|exact ih _ _ _ _ e
  case cond x a b=>
   split at e
   .    exact ih _ _ _ _ e
   .    exact ih _ _ _ _ e
   .    cases e
  case block id a=>
   cases ha:exec c n a fr st with
   |none=>simp[ha]at e
   |    some p=>
        obtain⟨ex,bI,aK⟩:=p;simp only[ha]at e;simp only[ih _ _ _ _ ha];cases ex<;>exact e
  case loop a=>
   cases ha:exec c n a fr st with
   |none=>simp[ha]at e
   |    some p=>
        obtain⟨ex,bI,aK⟩:=p;simp only[ha]at e;simp only[ih _ _ _ _ ha];cases ex<;>first|exact e|exact ih _ _ _ _ e
end
def Plain(v:AV):Prop:=∀(ρ ρ':Pos->Loc)(n n':Nat)(C:Cells)(x:Value),aj ρ n C v x->aj ρ' n' C v x
theorem Plain.bool(b:Bool):Plain (.bool b):=λ_ _ _ _ _ _ h=>by cases h;exact .bool b
theorem Plain.int(k:IntKind)(i:Int):Plain (.int k i):=λ_ _ _ _ _ _ h=>by cases h;exact .int k i
theorem Plain.str(s:List Nat):Plain (.str s):=λ_ _ _ _ _ _ h=>by cases h with|str _ bs h=>exact .str s bs h
theorem Plain.ah:Plain .ah:=λ_ _ _ _ _ _ h=>by cases h;exact .ah
theorem Plain.iC:Plain .iC:=λ_ _ _ _ _ _ h=>by cases h;exact .iC
theorem Plain.func(f:FuncId){a b:List AV}(ha:∀v∈a,Plain v)(hb:∀v∈b,Plain v):Plain (.func f a b):=λ_ _ _ _ _ _ h=>by
 cases h with
 |func _ _ _ a' b' hx hy h1 h2=>exact .func f a b a' b' hx hy (λi v x hv hx=>ha v (Zb5 hv) _ _ _ _ _ _ (h1 i v x hv hx)) (λi v x hv hx=>hb v (Zb5 hv) _ _ _ _ _ _ (h2 i v x hv hx))
theorem Plain.tuple{l:List AV}(hl:∀v∈l,Plain v):Plain (.tuple l):=λ_ _ _ _ _ _ h=>by
 cases h with
 |tuple _ cs hx h1=>exact .tuple l cs hx λi v x hv hx=>hl v (Zb5 hv) _ _ _ _ _ _ (h1 i v x hv hx)
theorem Plain.agg{l:List AV}(hl:∀v∈l,Plain v):Plain (.agg l):=λ_ _ _ _ _ _ h=>by
 cases h with
 |agg _ cs hx h1=>exact .agg l cs hx λi v x hv hx=>hl v (Zb5 hv) _ _ _ _ _ _ (h1 i v x hv hx)
theorem Plain.fl{xs:List (List AV)}{es:Nat}(hl:∀cs∈xs,∀v∈cs,Plain v):Plain (.fl xs es):=λ_ _ _ _ _ _ h=>by
 cases h with
 |fl _ _ aF a cell h1 h2 h3 h4 h5=>exact .fl xs es aF a cell h1 h2 h3 h4 λi j cs v hi hj=>hl cs (Zb5 hi) v (Zb5 hj) _ _ _ _ _ _ (h5 i j cs v hi hj)
def bD(st st':St):Prop:=∀b x,st.heap.get b=some x->st'.heap.get b=some x
theorem bD.refl(st:St):bD st st:=λ_ _ h=>h
theorem bD.trans{a b c:St}(h:bD a b)(k:bD b c):bD a c:=λ_ _ e=>k _ _ (h _ _ e)
theorem aj.down{ρ ρ':Pos->Loc}{n n':Nat}{C:Cells}{v:AV}{x:Value}(h:aj ρ' n' C v x):∀{y:Value},aj ρ n C v y->(∀b:Pos,b.toNat<n->ρ' b=ρ b)->aj ρ n C v x:=by
 induction h with
 |bool b=>exact λh _=>.bool b
 |int k i=>exact λh _=>.int k i
 |str s bs h=>exact λ_ _=>.str s bs h
 |gH=>exact λ_ _=>.gH
 |ptr b off h=>
  intro y h aQ;cases h with
  |ptr _ _ h'=>rw[aQ b h'];exact .ptr b off h'
 |fp xs i j es au base cell hl hc hv ih=>
  intro y h aQ;cases h with
  |fp _ _ _ es' xO base' acP hl' rG vw=>exact .fp xs i j es au base cell hl hc λi j cs v hi hj=>ih i j cs v hi hj (vw i j cs v hi hj) aQ
 |ah=>exact λ_ _=>.ah
 |slice  b off len cap es aF a hl hc ha hk=>
  intro y h aQ;cases h with
  |slice _ _ _ _ _ UL a' hl' rG ha' jO=>
   refine .slice b off len cap es aF a hl hc (λh0=> ?_) jO;obtain⟨h1,h2,h3⟩:=ha h0;have hb:b.toNat<n:=by
        cases cap with
        |none=>exact jO rfl
        |some c=>
         have e1:=hc c rfl;have e2:=rG c rfl;exact(ha' (by rw[<-e2,e1];exact h0)).1
   rw[aQ b hb]at h2 h3;exact⟨hb,h2,h3⟩
 |fl xs es aF a cell hl hs cW hc hv ih=>
  intro y h aQ;cases h with
  |fl _ _ UL a' acP hl' kK hes' rG vw=>exact .fl xs es aF a cell hl hs cW hc λi j cs v hi hj=>ih i j cs v hi hj (vw i j cs v hi hj) aQ
 |mR=>exact λ_ _=>.mR
 |map b h=>
  intro y h aQ;cases h with
  |map _ h'=>rw[aQ b h'];exact .map b h'
 |func f x y x' y' hx hy h1 h2 VQ VR=>
  intro z h aQ;cases h with
  |func _ _ _ a' b' kx ky k1 k2=>
   refine .func f x y x' y' hx hy (λi v x hv lR=> ?_) (λi v x hv lR=> ?_)
   .    have hi:i<a'.size:=(by rw[<-kx];exact(Za0.1 hv).1);exact VQ i v x hv lR (k1 i v _ hv (Ze7 hi)) aQ
   .    have hi:i<b'.size:=(by rw[<-ky];exact(Za0.1 hv).1);exact VR i v x hv lR (k2 i v _ hv (Ze7 hi)) aQ
 |iC=>exact λ_ _=>.iC
 |sN=>exact λ_ _=>.sN
 |iface t v x _ ih=>
  intro y h aQ;cases h with
  |iface _ _ x' h'=>exact .iface t v x (ih h' aQ)
 |agg l cs hx h1 ih=>
  intro y h aQ;cases h with
  |agg _ kz kx k1=>
   (refine .agg l cs hx λi v x hv lR=> ?_);have hi:i<kz.size:=(by rw[<-kx];exact(Za0.1 hv).1);exact ih i v x hv lR (k1 i v _ hv (Ze7 hi)) aQ
 |tuple l cs hx h1 ih=>
  intro y h aQ;cases h with
  |tuple _ kz kx k1=>
   (refine .tuple l cs hx λi v x hv lR=> ?_);have hi:i<kz.size:=(by rw[<-kx];exact(Za0.1 hv).1);exact ih i v x hv lR (k1 i v _ hv (Ze7 hi)) aQ
end
noncomputable section
open Go Go.RowKit
def tidy(st:St)(r:AV×St):AV×St:=open Classical in if Plain r.1/\bD st r.2 then(r.1,st)else r
theorem WI{ρ:Pos->Loc}{C:Cells}{st:St}{w w':World}{r:AV×St}{x:Value}(hW:aU ρ C st w)(h:kL ρ C st w r.1 r.2 x w'):
   kL ρ C st w (tidy st r).1 (tidy st r).2 x w':=by
 unfold tidy;split
 . rename_i hp;obtain⟨ρ',hv,aQ,hn,dY,hE⟩:=h;refine⟨ρ,hp.1 _ _ _ _ _ _ hv,λ_ _=>rfl,Za4 _,⟨λb y hb=> ?_,hW.inj,λa u ha=>⟨(dY.cY a u ha).1,(hW.cY a u ha).2⟩,dY.whole⟩,⟨hE.os,hE.tape,hE.output,hE.size,hE.block,λb y hb=>.inl ⟨b,y,hb,rfl⟩⟩⟩;obtain⟨g1,g2,g3⟩:=hW.live b y hb;obtain⟨_,_,k3⟩:=dY.live b y (hp.2 b y hb);refine⟨g1,Zc5 g2 hE.size,?_⟩;rw[aQ b g1]at k3;cases y with
   |cells cs fz=>
    obtain⟨c,e,fr,q1,q2,q3,q4,q5⟩:=k3;obtain⟨c0,e0,bJ,p1,p2,p3,p4,p5⟩:=g3;refine⟨c,e,fr,q1,q2,q3,⟨q4.1,λi v x hv hx=> ?_⟩,q5⟩;obtain⟨y0,hy0,Cl⟩:=p4.get hv;exact(q4.2 i v x hv hx).down Cl aQ
   |map es clock=>
    obtain⟨es',q1,q2,q3⟩:=k3;obtain⟨WJ,p1,p2,p3⟩:=g3;refine⟨es',q1,q2,λi e e' he jE=> ?_⟩;obtain⟨a1,a2,a3⟩:=q3 i e e' he jE;have hi:i<WJ.size:=(by rw[<-p2];exact(Za0.1 he).1);obtain⟨b1,b2,_⟩:=p3 i e _ he (Ze7 hi);exact⟨a1.down b1 aQ,a2.down b2 aQ,a3⟩
   |iD s pos=>exact k3
   |typed t cs=>
    obtain⟨c,fr,q1,q2,q3,q4,q5⟩:=k3;obtain⟨c0,bJ,p1,p2,p3,p4,p5⟩:=g3;refine⟨c,fr,q1,q2,q3,⟨q4.1,λi v x hv hx=> ?_⟩,q5⟩;obtain⟨y0,hy0,Cl⟩:=p4.get hv;exact(q4.2 i v x hv hx).down Cl aQ
 .exact h
theorem WM{st:St}{r:AV×St}(h:st.next.toNat<=r.2.next.toNat):st.next.toNat<=(tidy st r).2.next.toNat:=by
 unfold tidy;split
 .exact Za4 _
 .exact h
def pJ(call:ai)(m:Nat)(F:b7)(args:List AV)(st:St):Option (AV×St):=
 match Nat.beq args.length F.nparams with
 |  true=>match exec call m F.code (params 0 args .e) st with
    |some (.normal,fr,st')=>match bY (λb=>st'.heap.get b) fr F.results with
     |some vs=>some (fL vs,st')
     |none=>none
    |some (.ret,fr,st')=>match bY (λb=>st'.heap.get b) fr F.results with
     |some vs=>some (fL vs,st')
     |none=>none
    |_=>none
 |false=>none
def pK(O:dR)(G:T b7)(m:Nat):Nat->ai
 |0=>λ_ _ _=>none
 |  d+1=>λf args st=>match O f with
    |some s=>s args st
    |none=>match G.get (key f)with
     |some F=>(pJ (pK O G m d) m F args st).map (tidy st)
     |none=>none
section
variable{P:Program}{tt:TT}{C:Cells}
theorem UN(hT:bH P tt){G:T b7}(hG:Ka P tt G){call:ai}(bE:ew P C call)(fh:oH P tt C call)(m:Nat){f:FuncId}{F:b7}(hF:G.get (key f)=some F)
   {ρ:Pos->Loc} {st:St} {w:World} {args:List AV} {v:AV} {st':St} {bw:List Value} (h:pJ call m F args st=some (v,st')) (hW:aU ρ C st w) (nW:aq ρ st.next.toNat C args bw):
   Reaches P (kL ρ C st w v st') ((callFunc f bw.toArray).run P w):=by
 unfold pJ at h;split at h<;>first|(cases h;done)|skip
 rename_i hlen;have hlen:=Za1 hlen;obtain⟨fn,yh,iB,zD⟩:=hG _ _ hF;rw[ej,Ze9]at yh;unfold Pa at zD;split at zD<;>first|(cases zD;done)|skip
 rename_i c hb;split at zD<;>first|(cases zD;done)|skip
 rename_i ac rs Qd Wu hle;simp only[H0]at zD;subst zD;simp only at h hlen;have hle:=Za3 hle;have bP:(callFunc f bw.toArray).run P w= .ok (.enter f bw.toArray) w:=by
   have zE:¬fn.name= "runtime.NumGoroutine" :=(by simpa using iB);simp[callFunc,yh,zE,hb]
 rw[bP];simp only[Reaches];refine calls_of_wp yh hb (dZ.wp ?_);have eu:bw.length<=fn.ntmps:=by rw[<-nW.1,hlen];exact hle
 have hS:lf fn.ntmps ρ C (params 0 args .e) st { tmps:=bw.toArray++Array.replicate (fn.ntmps - bw.toArray.size) undef,defers:=[] } w:=by
   refine⟨hW,?_,?_,rfl⟩
   .refine uq args bw 0 .e nW (λj x hx=> ?_) (λp v hp=>by rw[T.cZ]at hp;cases hp);have hj:j<bw.length:=(Za0.1 hx).1;rw[Zc3,Zg5 (by simpa using hj)];simpa using hx
   .simp;omega
 split at h<;>first|(cases h;done)|skip
 .rename_i bI aK h1;(split at h<;>first|(cases h;done)|skip);rename_i vs gI;simp only[H0,Zb2]at h;obtain⟨rfl,rfl⟩:=h;(refine(nS hT bE fh m).1 c ac _ bI st aK .normal ρ _ w _ Qd h1 hS λa' w' hp=> ?_);obtain⟨dx,pY,k1,k2,k3⟩:=hp;obtain⟨y,yd,zo⟩:=oI hT pY.W pY.F Wu gI;exact⟨pY.defers,y,yd,dx,zo,k1,k2,pY.W,k3⟩
 .rename_i bI aK h1;(split at h<;>first|(cases h;done)|skip);rename_i vs gI;simp only[H0,Zb2]at h;obtain⟨rfl,rfl⟩:=h;(refine(nS hT bE fh m).1 c ac _ bI st aK .ret ρ _ w _ Qd h1 hS λa' w' hp=> ?_);obtain⟨dx,pY,k1,k2,k3⟩:=hp;obtain⟨y,yd,zo⟩:=oI hT pY.W pY.F Wu gI;exact⟨pY.defers,y,yd,dx,zo,k1,k2,pY.W,k3⟩
theorem WN{call:ai}(hm:kN call){m:Nat}{F:b7}{args:List AV}{st:St}{v:AV}{st':St}(h:pJ call m F args st=some (v,st')):st.next.toNat<=st'.next.toNat:=by
 unfold pJ at h;split at h<;>first|(cases h;done)|skip
 split at h<;>first|(cases h;done)|skip
 all_goals
  rename_i h1;split at h<;>first|(cases h;done)|skip
  simp only[H0,Zb2]at h;obtain⟨rfl,rfl⟩:=h;exact A3 hm _ _ _ _ _ _ _ h1
theorem KR{O:dR}{G:T b7}(hO:jK O)(m:Nat):∀d,kN (pK O G m d)
 |0=>λf args st v st' h=>by simp[pK]at h
 |d +1=>λf args st v st' h=>by
  unfold pK at h;split at h
  .rename_i s hs;exact hO _ _ hs _ _ _ _ h
  . (split at h<;>first|(cases h;done)|skip);simp only[Zd3]at h;obtain⟨r,hr,he⟩:=h;have:=WN (KR hO m d) (v:=r.1) (st':=r.2) hr;have:=WM this;rw[he]at this;exact this
theorem ID(hm:P.follows .mixedOrders=true)(hT:bH P tt){O:dR}{G:T b7}(hO:nU P C O)(FW:jK O)(hG:Ka P tt G)(m:Nat):∀d,ew P C (pK O G m d)
 |0=>λρ st w f args v st' bw h=>by simp[pK]at h
 |d +1=>by
  intro ρ st w f args v st' bw h hW nW;have ih:=ID hm hT hO FW hG m d;unfold pK at h;split at h
  .rename_i s hs;exact hO f s hs ρ st w args v st' bw h hW nW
  . (split at h<;>first|(cases h;done)|skip);rename_i F hF;simp only[Zd3]at h;obtain⟨r,hr,he⟩:=h;refine Reaches.mono (λx w' hp=> ?_) (UN hT hG ih (DG hm hT ih (KR FW m d)) m hF (v:=r.1) (st':=r.2) hr hW nW);have:=WI hW hp;rw[he]at this;exact this
end
theorem Tb{c c':ai}(h:IC c c'){n m:Nat}(hn:n<=m){F:b7}{args:List AV}{st:St}{r:AV×St}(e:pJ c n F args st=some r):pJ c' m F args st=some r:=by
 unfold pJ at e ⊢;split at e<;>first|(cases e;done)|skip
 split at e<;>first|(cases e;done)|skip
 all_goals
  rename_i h1;simp only[HS h n m hn _ _ _ _ h1];exact e
theorem Jx(O:dR)(G:T b7){n m:Nat}(hn:n<=m):∀d d',d<=d'->IC (pK O G n d) (pK O G m d')
 |0,_,_=>λ_ _ _ _ e=>by simp[pK]at e
 |_+1,0,h=>by omega
 |d +1,d'+1,h=>λf args st r e=>by
  have ih:=Jx O G hn d d' (by omega);unfold pK at e ⊢;split at e
  .exact e
  . (split at e<;>first|(cases e;done)|skip);simp only[Zd3]at e ⊢;obtain⟨q,hq,he⟩:=e;exact⟨q,Tb ih hn hq,he⟩
def cn(O:dR)(G:T b7)(n:Nat):ai:=pK O G n n
theorem DQ(O:dR)(G:T b7){n m:Nat}(h:n<=m):IC (cn O G n) (cn O G m):=Jx O G h n m h
def run(O:dR)(G:T b7):ai:=λf args st=>open Classical in
 if h:∃(r:AV×St) (n:Nat),cn O G n f args st=some r then some h.choose else none
variable{O:dR}{G:T b7}
theorem WO{f:FuncId}{args:List AV}{st:St}{r:AV×St}{n:Nat}(h:cn O G n f args st=some r):run O G f args st=some r:=by
 unfold run;have hx:∃(r:AV×St) (n:Nat),cn O G n f args st=some r:=⟨r,n,h⟩
 rw[dif_pos hx];obtain⟨m,hm⟩:=hx.choose_spec;have h1:=DQ O G (Zi0 n m) f args st _ h;have h2:=DQ O G (Zg9 n m) f args st _ hm;rw[h1]at h2;exact h2.symm
theorem Qu{f:FuncId}{args:List AV}{st:St}{r:AV×St}(h:run O G f args st=some r):∃n,cn O G n f args st=some r:=by
 unfold run at h;split at h
 .rename_i hx;simp only[H0]at h;rw[<-h];exact hx.choose_spec
 .cases h
theorem KS{k:av}{xs:List AV}{st:St}{r:AV×St}(e:bS (run O G) k xs st=some r):∃n,bS (cn O G n) k xs st=some r:=by
 unfold bS at e;cases hr:k.run (λb=>st.heap.get b) st.next xs with
 |none=>simp[hr]at e
 |some x=>cases x with
  |val v=>exact⟨0,by simpa [bS,hr]using e⟩
  |aC v d s n=>exact⟨0,by simpa [bS,hr]using e⟩
  |call f args=>
   simp only[hr]at e;obtain⟨n,hn⟩:=Qu e;exact⟨n,by simpa [bS,hr]using hn⟩
theorem FZ:∀(os:List bh)(fr:Fr)(st:St)(r:Fr×St),iq (run O G) os fr st=some r->∃n,iq (cn O G n) os fr st=some r
 |[],_,_,_,e=>⟨0,e⟩
 |o::os,fr,st,r,e=>by
  unfold iq at e;cases hw:bF fr o.guard with
  |none=>simp[hw]at e
  |some b=>cases b with
   |    false=>
        simp only[hw]at e;obtain⟨n,hn⟩:=FZ os _ _ _ e;exact⟨n,by unfold iq;simp only[hw];exact hn⟩
   |    true=>
        simp only[hw]at e;cases hx:dM fr o.xs with
        |none=>simp[hx]at e
        |some xs=>
         simp only[hx]at e;cases hs:bS (run O G) o.k xs st with
         |none=>simp[hs]at e
         |some p=>
          simp only[hs]at e;obtain⟨n,hn⟩:=FZ os _ _ _ e;obtain⟨m,hm⟩:=KS hs;refine⟨max n m,?_⟩;unfold iq;simp only[hw,hx,DP (DQ O G (Zg9 n m)) hm];exact HR (DQ O G (Zi0 n m)) _ _ _ _ hn
theorem KT: ∀(os:List (Nat×bh))(recs:List Rec)(base:T AB)(fr:Fr)(st:St)(r:Fr×St),cF (run O G) os recs base fr st=some r->∃n,cF (cn O G n) os recs base fr st=some r
 |[],_,_,_,_,_,e=>⟨0,e⟩
 |(j,   o)::os,recs,base,fr,st,r,e=>by
  have ih:=KT os;unfold cF at e;cases hw:bF fr o.guard with
  |none=>simp[hw]at e
  | some b=>cases b with
    |   false=>
        simp only[hw]at e;obtain⟨n,hn⟩:=ih _ _ _ _ _ e;exact⟨n,by unfold cF;simp only[hw];exact hn⟩
    |   true=>
        simp only[hw]at e;cases hx:dM fr o.xs with
        |none=>simp[hx]at e
        |some xs=>
         simp only[hx]at e;cases hc:o.cls with
         |aC=>
          simp only[hc]at e;cases hs:bS (run O G) o.k xs st with
          |none=>simp[hs]at e
          | some p=>
            simp only[hs]at e;obtain⟨n,hn⟩:=ih _ _ _ _ _ e;obtain⟨m,hm⟩:=KS hs;refine⟨max n m,?_⟩;unfold cF;simp only[hw,hx,hc,DP (DQ O G (Zg9 n m)) hm];exact Jw (DQ O G (Zi0 n m)) _ _ _ _ _ _ hn
         |new=>
          simp only[hc]at e;(split at e<;>first|(cases e;done)|skip);obtain⟨n,hn⟩:=ih _ _ _ _ _ e;refine⟨n,?_⟩;unfold cF;simp only[*]
         |pure=>
          simp only[hc]at e;split at e<;>(try split at e)<;>(try split at e)<;>first|(cases e;done)|skip
          all_goals
            obtain⟨n,hn⟩:=ih _ _ _ _ _ e;refine⟨n,?_⟩;unfold cF;simp only[*]
         |read=>
          simp only[hc]at e;split at e<;>(try split at e)<;>(try split at e)<;>first|(cases e;done)|skip
          all_goals
            obtain⟨n,hn⟩:=ih _ _ _ _ _ e;refine⟨n,?_⟩;unfold cF;simp only[*]
theorem NS:∀(n:Nat)(a:AC)(fr:Fr)(st:St)(r:iF×Fr×St),exec (run O G) n a fr st=some r->∃m,exec (cn O G m) n a fr st=some r
 |0,_,_,_,_,e=>by simp[exec]at e
 |n+    1,a,fr,st,r,e=>by
  have ih:=NS n;have up:∀{m m':Nat}{a:AC}{fr:Fr}{st:St}{r:iF×Fr×St},m<=m'->exec (cn O G m) n a fr st=some r->exec (cn O G m') n a fr st=some r:=
   λh e=>HS (DQ O G h) _ _ (Za4 _) _ _ _ _ e
  cases a<;>simp only[exec,aX]at e
  case skip=>exact⟨0,e⟩
  case exit=>exact⟨0,e⟩
  case ret=>exact⟨0,e⟩
  case region ops=>
   cases ho:iq (run O G) ops fr st with
   |none=>simp[ho]at e
   |    some p=>
        obtain⟨m,hm⟩:=FZ _ _ _ _ ho;exact⟨m,by simp only[exec,aX,hm];simpa only[ho]using e⟩
  case draw ops=>
   cases ho:cF (run O G) ops [] st.heap fr st with
   |none=>simp[ho]at e
   |    some p=>
        obtain⟨m,hm⟩:=KT _ _ _ _ _ _ ho;exact⟨m,by simp only[exec,aX,hm];simpa only[ho]using e⟩
  case seq a b=>
   cases ha:exec (run O G) n a fr st with
   |none=>simp[ha]at e
   |    some p=>
        obtain⟨ex,bI,aK⟩:=p;simp only[ha]at e;obtain⟨m,hm⟩:=ih _ _ _ _ ha;cases ex with
        |normal=>
         obtain⟨m',VU⟩:=ih _ _ _ _ e;exact⟨max m m',by simp only[exec,aX,up (Zi0 m m') hm];exact up (Zg9 m m') VU⟩
        |exit i=>exact⟨m,by simp only[exec,aX,hm];exact e⟩
        |ret=>exact⟨m,by simp only[exec,aX,hm];exact e⟩
  case cond x a b=>
   split at e
   .    rename_i hx;obtain⟨m,hm⟩:=ih _ _ _ _ e;exact⟨m,by simp only[exec,aX,hx];exact hm⟩
   .    rename_i hx;obtain⟨m,hm⟩:=ih _ _ _ _ e;exact⟨m,by simp only[exec,aX,hx];exact hm⟩
   .    cases e
  case block id a=>
   cases ha:exec (run O G) n a fr st with
   |none=>simp[ha]at e
   |    some p=>
        obtain⟨ex,bI,aK⟩:=p;simp only[ha]at e;obtain⟨m,hm⟩:=ih _ _ _ _ ha;exact⟨m,by simp only[exec,aX,hm];exact e⟩
  case loop a=>
   cases ha:exec (run O G) n a fr st with
   |none=>simp[ha]at e
   |    some p=>
        obtain⟨ex,bI,aK⟩:=p;simp only[ha]at e;obtain⟨m,hm⟩:=ih _ _ _ _ ha;cases ex with
        |normal=>
         obtain⟨m',VU⟩:=ih _ _ _ _ e;exact⟨max m m',by simp only[exec,aX,up (Zi0 m m') hm];exact up (Zg9 m m') VU⟩
        |exit i=>exact⟨m,by simp only[exec,aX,hm];exact e⟩
        |ret=>exact⟨m,by simp only[exec,aX,hm];exact e⟩
theorem Zg{f:FuncId}{F:b7}{args:List AV}{st:St}{r:AV×St}{n:Nat}(ho:O f=none)(hF:G.get (key f)=some F)(h:pJ (run O G) n F args st=some r):
   run O G f args st=some (tidy st r):=by
 unfold pJ at h;split at h<;>first|(cases h;done)|skip
 rename_i hlen
 have fin:∀{ex fr st'},exec (run O G) n F.code (params 0 args .e) st=some (ex,fr,st')->(∀m k,exec (cn O G m) k F.code (params 0 args .e) st=some (ex,fr,st')->pJ (cn O G m) k F args st=some r)->
    run O G f args st=some (tidy st r):=λh1 h2=>by
   obtain⟨m,hm⟩:=NS _ _ _ _ _ h1;refine WO (n:=max n m+1) ?_;unfold cn pK;simp only[ho,hF];have:=h2 m n hm;have h3:=Tb (Jx O G (n:=m) (m:=max n m+1) (by have:=Zg9 n m;omega) m (max n m) (Zg9 n m)) (m:=max n m+1) (by have:=Zi0 n m;omega) this;rw[h3];rfl
 split at h<;>first|(cases h;done)|skip
 .rename_i h1;exact fin h1 λm k hk=>by unfold pJ;simp only[hlen,hk];exact h
 .rename_i h1;exact fin h1 λm k hk=>by unfold pJ;simp only[hlen,hk];exact h
theorem KU{f:FuncId}{s:List AV->St->Option (AV×St)}(ho:O f=some s){args:List AV}{st:St}{r:AV×St}(h:s args st=some r):run O G f args st=some r:=
 WO (n:=1) (by unfold cn pK;simp only[ho];exact h)
theorem NT{P:Program}{tt:TT}{C:Cells}(hm:P.follows .mixedOrders=true)(hT:bH P tt)(hO:nU P C O)(FW:jK O)(hG:Ka P tt G):ew P C (run O G):=by intro ρ st w f args v st' bw h hW nW;obtain⟨n,hn⟩:=Qu h;exact ID hm hT hO FW hG n n ρ st w f args v st' bw hn hW nW
end
noncomputable section
open Go
inductive Sh where
 |leaf
 |seq (jn:Option (List Pos)) (a b:Sh)
 |cond (a b:Sh)
 |block (a:Sh)
 |loop (j:Nat) (ins:List Pos) (outs:List (Nat×List Pos)) (a:Sh)
variable{R:Type}
abbrev LpK(R:Type):=Nat->List AV->St->Option R
abbrev Env(R:Type):=Nat->LpK R->Nat->List AV->St->Option R
def js(l:List AV)(k:AV->List AV->Option R):Option R:=match l with
 |v::vs=>k v vs
 |[]=>none
def pZ(l:List AV)(k:Option R):Option R:=match l with
 |[]=>k
 |_::_=>none
def ak(c:ai)(k:av)(xs:List AV)(st:St)(K:AV->St->Option R):Option R:=match bS c k xs st with
 |some (v,st')=>K v st'
 |none=>none
def Qv(c:ai)(g:AV)(want:Bool)(k:av)(xs:List AV)(st:St)(K:AV->St->Option R):Option R:=match g with
 |  .bool b=>match b==want with
    |true=>ak c k xs st K
    |false=>K .undef st
 |.tuple _=>K .undef st
 |_=>none
def ey(k:av)(xs:List AV)(K:AV->Option R):Option R:=match k.run (λ_=>none) .h xs with
 |some (.val v)=>K v
 |_=>none
def IE(g:AV)(want:Bool)(k:av)(xs:List AV)(K:AV->Option R):Option R:=match g with
 |  .bool b=>match b==want with
    |true=>ey k xs K
    |false=>K .undef
 |.tuple _=>K .undef
 |_=>none
def jV(k:av)(xs:List AV)(h:T AB)(ok:AV->Bool)(K:AV->Option R):Option R:=match k.run (λ_=>none) .h xs with
 |some (.val v)=>K v
 |  _=>match k.run (λb=>h.get b) .h xs with
    |some (.val v)=>match ok v with
     |true=>K v
     |false=>none
    |_=>none
def IF(g:AV)(want:Bool)(k:av)(xs:List AV)(h:T AB)(ok:AV->Bool)(K:AV->Option R):Option R:=match g with
 |  .bool b=>match b==want with
    |true=>jV k xs h ok K
    |false=>K .undef
 |.tuple _=>K .undef
 |_=>none
def F0(k:av)(xs:List AV)(st:St)(K:AV->AB->Option R):Option R:=match k.run (λ_=>none) st.next xs with
 |some (.aC v none none (some au))=>K v au
 |_=>none
def IG(g:AV)(want:Bool)(A B:Option R):Option R:=match g with
 |  .bool b=>match b==want with
    |true=>A
    |false=>B
 |.tuple _=>B
 |_=>none
def NU(v:AV)(A B:Option R):Option R:=match v with
 |.bool true=>A
 |.bool false=>B
 |_=>none
def fY(f:(List AV->St->Option R)->Option R)(k:List AV->St->Option R):Option R:=f k
def Jy (c:ai):List bh->Fr->St->(Fr->St->Option R)->Option R
 |[],fr,st,K=>K fr st
 |  o::os,fr,st,K=>match dM fr o.xs with
    |some xs=>match o.guard with
     |none=>ak c o.k xs st λv st=>Jy c os (cG fr o.dst v) st K
     |  some (p,want)=>match fr.get p with
        |some g=>Qv c g want o.k xs st λv st=>Jy c os (cG fr o.dst v) st K
        |none=>none
    |none=>none
def kU (c:ai ):List (Nat×bh)->List Rec->T AB->Fr->St->(Fr->St->Option R)->Option R
 |[],_,_,fr,st,K=>K fr st
 |  (j, o):: os,recs,base,fr,st,K=>match dM fr o.xs with
    | some xs=>match o.cls with
      | .pure=>match o.guard with
        |none=>ey o.k xs λv=>kU c os ({ idx:=j,o:=o,v:=v,c:= .pure,nx:=st.next }::recs) base (cG fr o.dst v) st K
        |some (p,want)=>match fr.get p with
         |some g=>IE g want o.k xs λv=>kU c os ({ idx:=j,o:=o,v:=v,c:= .pure,nx:=st.next }::recs) base (cG fr o.dst v) st K
         |none=>none
      | .read=>match o.guard with
        |none=>jV o.k xs (snap o.bt base recs) (λv=>jz o.bt o.k xs v [] recs) λv=>kU c os ({ idx:=j,o:=o,v:=v,c:= .pure,nx:=st.next }::recs) base (cG fr o.dst v) st K
        |some (p,want)=>match fr.get p with
         |some g=>IF g want o.k xs (snap o.bt base recs) (λv=>jz o.bt o.k xs v [] recs) λv=>kU c os ({ idx:=j,o:=o,v:=v,c:= .pure,nx:=st.next }::recs) base (cG fr o.dst v) st K
         |none=>none
      | .new=>match o.guard with
        |none=>F0 o.k xs st λv au=>kU c os ({ idx:=j,o:=o,v:=v,c:= .new st.next au,nx:=st.next.succ }::recs) base (cG fr o.dst v) { heap:=st.heap.put (some au) st.next,next:=st.next.succ } K
        |some (p,want)=>match fr.get p with
         |some g=>IG g want (F0 o.k xs st λv au=>kU c os ({ idx:=j,o:=o,v:=v,c:= .new st.next au,nx:=st.next.succ }::recs) base (cG fr o.dst v) { heap:=st.heap.put (some au) st.next,next:=st.next.succ } K)
             (kU c os ({ idx:=j,o:=o,v:= .undef,c:= .pure,nx:=st.next }::recs) base (cG fr o.dst .undef) st K)
         |none=>none
      | .aC=>match o.guard with
        |none=>ak c o.k xs st λv st'=>kU c os ({ idx:=j,o:=o,v:=v,c:= .aC base st'.heap,nx:=st'.next }::recs) st'.heap (cG fr o.dst v) st' K
        |some (p,want)=>match fr.get p with
         |some g=>IG g want (ak c o.k xs st λv st'=>kU c os ({ idx:=j,o:=o,v:=v,c:= .aC base st'.heap,nx:=st'.next }::recs) st'.heap (cG fr o.dst v) st' K)
             (kU c os ({ idx:=j,o:=o,v:= .undef,c:= .pure,nx:=st.next }::recs) base (cG fr o.dst .undef) st K)
         |none=>none
    |none=>none
def F6:List Pos->Fr->(List AV->Option R)->Option R
 |[],_,k=>k []
 |  p::ps,fr,k=>match fr.get p with
    |some v=>F6 ps fr λvs=>k (v::vs)
    |none=>none
def F7:List Pos->List AV->Fr->(Fr->Option R)->Option R
 |[],vs,fr,k=>pZ vs (k fr)
 |p::ps,vs,fr,k=>js vs λv vs=>F7 ps vs (fr.put (some v) p) k
def HT:List (Nat×List Pos)->Nat->List Pos
 |[],_=>[]
 |  (i,l)::r,e=>match Nat.beq i e with
    |true=>l
    |false=>HT r e
def exOf:Nat->iF
 |0=>.normal
 |1=>.ret
 |n+2=>.exit n
def Cs(D:Fr->St->(iF->Fr->St->Option R)->Option R)(ins:List Pos)(outs:List (Nat×List Pos))(K':LpK R)(again:List AV->St->Option R)(vs:List AV)(st:St):Option R:=
 F7 ins vs .e λfr=>D fr st λex fr st=>match ex with
    |.normal=>F6 ins fr λvs=>again vs st
    |.exit i=>F6 (HT outs (i+2)) fr λos=>K' (i+2) os st
    |.ret=>F6 (HT outs 1) fr λos=>K' 1 os st
def knk(outs:List (Nat×List Pos))(K:iF->Fr->St->Option R):LpK R:=λe os st=>F7 (HT outs e) os .e λfr=>K (exOf e) fr st
def den (c:ai)(F:Nat)(L:Env R):AC->Sh->Fr->St->(iF->Fr->St->Option R)->Option R
 |.skip,_,fr,st,K=>K .normal fr st
 |.region ops,_,fr,st,K=>Jy c ops fr st (K .normal)
 |.draw ops,_,fr,st,K=>kU c ops [] st.heap fr st (K .normal)
 |  .seq a b,s,fr,st,K=>match s with
    | .seq none s t=>den c F L a s fr st λex fr st=>match ex with
      |.normal=>den c F L b t fr st K
      |.exit i=>K (.exit i) fr st
      |.ret=>K .ret fr st
    | .seq (some l) s t=>fY (λK'=>den c F L a s fr st λex fr st=>match ex with
      |.normal=>F6 l fr λvs=>K' vs st
      |.exit i=>K (.exit i) fr st
      |.ret=>K .ret fr st) (λvs st=>F7 l vs .e λfr=>den c F L b t fr st K)
    |_=>none
 |  .cond x a b,s,fr,st,K=>match s with
    | .cond s t=>match wU fr x with
      |some v=>NU v (den c F L a s fr st K) (den c F L b t fr st K)
      |none=>none
    |_=>none
 |  .block id a,s,fr,st,K=>match s with
    | .block s=>den c F L a s fr st λex fr st=>match ex with
      |.normal=>K .normal fr st
      | .exit i=>match Nat.beq i id with
        |true=>K .normal fr st
        |false=>K (.exit i) fr st
      |.ret=>K .ret fr st
    |_=>none
 |  .loop _,s,fr,st,K=>match s with
    |.loop j ins outs _=>F6 ins fr λvs=>L j (knk outs K) F vs st
    |_=>none
 |.exit id,_,fr,st,K=>K (.exit id) fr st
 |.ret,_,fr,st,K=>K .ret fr st
def uw(c:ai)(F:Nat)(L:Env R)(a:AC):Sh->Prop
 |.loop j ins outs s=>∀K',(∀vs st,L j K' 0 vs st=none)/\∀n vs st,L j K' (n+1) vs st=Cs (den c F L a s) ins outs K' (L j K' n) vs st
 |_=>False
def ri(c:ai)(F:Nat)(L:Env R):AC->Sh->Prop
 |  .seq a b,s=>match s with
    |.seq _ s t=>ri c F L a s/\ri c F L b t
    |_=>True
 |  .cond _ a b,s=>match s with
    |.cond s t=>ri c F L a s/\ri c F L b t
    |_=>True
 |  .block _ a,s=>match s with
    |.block s=>ri c F L a s
    |_=>True
 |  .loop a,s=>match s with
    |.loop j ins outs s=>uw c F L a (.loop j ins outs s)/\ri c F L a s
    |_=>True
 |_,_=>True
def dP:AC->Sh->List (AC×Sh)
 |  .seq a b,s=>match s with
    |.seq _ s t=>dP a s++dP b t
    |_=>[]
 |  .cond _ a b,s=>match s with
    |.cond s t=>dP a s++dP b t
    |_=>[]
 |  .block _ a,s=>match s with
    |.block s=>dP a s
    |_=>[]
 |  .loop a,s=>match s with
    |.loop j ins outs s=>(a,.loop j ins outs s)::dP a s
    |_=>[]
 |_,_=>[]
theorem v7{c:ai}{F:Nat}{L:Env R}:∀(a:AC)(s:Sh),(∀x∈dP a s,uw c F L x.1 x.2)->ri c F L a s
 |.skip,_,_=>trivial
 |.region _,_,_=>trivial
 |.draw _,_,_=>trivial
 |.exit _,_,_=>trivial
 |.ret,_,_=>trivial
 | .seq a b,s,h=>by
   cases s<;>simp only[ri]<;>simp only[dP,Zd7]at h;exact⟨v7 a _ λx hx=>h x (.inl hx),v7 b _ λx hx=>h x (.inr hx)⟩
 | .cond x a b,s,h=>by
   cases s<;>simp only[ri]<;>simp only[dP,Zd7]at h;exact⟨v7 a _ λx hx=>h x (.inl hx),v7 b _ λx hx=>h x (.inr hx)⟩
 |.block id a,s,h=>by cases s<;>simp only[ri]<;>simp only[dP]at h;exact v7 a _ h
 | .loop a,s,h=>by
   cases s<;>simp only[ri]<;>simp only[dP,Za9]at h;exact⟨h _ (.inl rfl),v7 a _ λx hx=>h x (.inr hx)⟩
def Sub(a b:Fr):Prop:=∀p v,a.get p=some v->b.get p=some v
theorem Sub.refl(a:Fr):Sub a a:=λ_ _ h=>h
theorem Sub.put{a b:Fr}(h:Sub a b)(p:Pos)(v:AV):Sub (a.put (some v) p) (b.put (some v) p):=λq u hq=>by
 by_cases e:p=q
 .subst e;rw[T.ee]at hq ⊢; exact hq
 .rw[T.bn _ e]at hq ⊢; exact h _ _ hq
theorem Sub.dst{a b:Fr}(h:Sub a b)(d:Option Pos)(v:AV):Sub (cG a d v) (cG b d v):=by
 cases d with
 |none=>exact h
 |some p=>exact h.put p v
theorem Sub.ev{a b:Fr}(h:Sub a b){x:dL}{v:AV}(e:wU a x=some v):wU b x=some v:=by
 cases x with
 |t p=>exact h _ _ e
 |c v=>exact e
theorem Sub.evs{a b:Fr}(h:Sub a b):∀{xs:List dL}{vs:List AV},dM a xs=some vs->dM b xs=some vs
 |[],_,e=>e
 |x::xs,vs,e=>by
  unfold dM at e ⊢;cases hx:wU a x with
  |none=>simp[hx]at e
  |some v=>
   simp only[hx]at e;cases hs:dM a xs with
   |none=>simp[hs]at e
   |some us=>simp only[hs]at e;simp only[h.ev hx,h.evs hs];exact e
theorem DR {c:ai}:∀(os:List bh){fr dU:Fr}{st:St}{K:Fr->St->Option R}{r:R},Sub fr dU->Jy c os fr st K=some r->
  ∃aW cw st',iq c os dU st=some (cw,st')/\Sub aW cw/\K aW st'=some r
 |[],fr,dU,st,K,r,hs,h=>⟨fr,dU,st,rfl,hs,h⟩
 |o::os,fr,dU,st,K,r,hs,h=>by
  unfold Jy at h;cases hx:dM fr o.xs with
  |none=>simp[hx]at h
  |some xs=>
   simp only[hx]at h;have hstp:∀{st},ak c o.k xs st (λv st=>Jy c os (cG fr o.dst v) st K)=some r->bF dU o.guard=some true->∃aW cw st',iq c (o::os) dU st=some (cw,st')/\Sub aW cw/\K aW st'=some r:=λ{st} h hw=>by
        unfold ak at h;cases iU:bS c o.k xs st with
        |none=>simp[iU]at h
        |some p=>
         simp only[iU]at h;obtain⟨aW,cw,st',h1,h2⟩:=DR os (hs.dst o.dst p.1) h;exact⟨aW,cw,st',by unfold iq;simp only[hw,hs.evs hx,iU];exact h1,h2⟩
   have F8:∀{st},Jy c os (cG fr o.dst .undef) st K=some r->bF dU o.guard=some false->∃aW cw st',iq c (o::os) dU st=some (cw,st')/\Sub aW cw/\K aW st'=some r:=λ{st} h hw=>by
        obtain⟨aW,cw,st',h1,h2⟩:=DR os (hs.dst o.dst .undef) h;exact⟨aW,cw,st',by unfold iq;simp only[hw];exact h1,h2⟩
   cases hg:o.guard with
   |none=>simp only[hg]at h;exact hstp h (by rw[hg];rfl)
   |    some pw=>
        obtain⟨p,want⟩:=pw;simp only[hg]at h;cases hp:fr.get p with
        |none=>simp[hp]at h
        |some g=>
         simp only[hp]at h;have ux:=hs _ _ hp;unfold Qv at h;split at h
         .  rename_i b;split at h
            .rename_i hb;exact hstp h (by rw[hg];simp[bF,ux,hb])
            .rename_i hb;exact F8 h (by rw[hg];simp[bF,ux,hb])
         .  exact F8 h (by rw[hg];simp[bF,ux])
         .  cases h
theorem II {c : ai}:∀(os:List (Nat×bh))(recs:List Rec)(base:T AB){fr dU:Fr}{st:St}{K:Fr->St->Option R}{r:R},Sub fr dU->kU c os recs base fr st K=some r->
  ∃aW cw st',cF c os recs base dU st=some (cw,st')/\Sub aW cw/\K aW st'=some r
 |[],_,_,fr,dU,st,K,r,hs,h=>⟨fr,dU,st,rfl,hs,h⟩
 |(j,   o)::  os, recs,base,fr,dU,st,K,r,hs,h=>by
  have ih:=λrecs base {fr dU:Fr}{st:St}{K:Fr->St->Option R}{r:R}=>II (c:=c) os recs base (fr:=fr) (dU:=dU) (st:=st) (K:=K) (r:=r)
  unfold kU at h;cases hx:dM fr o.xs with
  |none=>simp[hx]at h
  | some xs   =>
    simp only[hx]at h;have Qm:=hs.evs hx;have F8:∀{st},kU c os ({ idx:=j,o:=o,v:= .undef,c:= .pure,nx:=st.next }::recs) base (cG fr o.dst .undef) st K=some r->bF dU o.guard=some false->∃aW cw st',cF c ((j,o)::os) recs base dU st=some (cw,st')/\Sub aW cw/\K aW st'=some r:=λ{st} h hw=>by
        obtain⟨aW,cw,st',h1,h2⟩:=ih _ _ (hs.dst o.dst .undef) h;exact⟨aW,cw,st',by unfold cF;simp only[hw];exact h1,h2⟩
    cases hc:o.cls with
    |   pure=>
        simp only[hc]at h;have F9:ey o.k xs (λv=>kU c os ({ idx:=j,o:=o,v:=v,c:= .pure,nx:=st.next }::recs) base (cG fr o.dst v) st K)=some r->bF dU o.guard=some true->∃aW cw st',cF c ((j,o)::os) recs base dU st=some (cw,st')/\Sub aW cw/\K aW st'=some r:=λh hw=>by
         unfold ey at h;split at h
         .  rename_i v hv;obtain⟨aW,cw,st',h1,h2⟩:=ih _ _ (hs.dst o.dst v) h;exact⟨aW,cw,st',by unfold cF;simp only[hw,Qm,hc,hv];exact h1,h2⟩
         .  cases h
        cases hg:o.guard with
        |none=>simp only[hg]at h;exact F9 h (by rw[hg];rfl)
        |some pw=>
         obtain⟨p,want⟩:=pw;simp only[hg]at h;cases hp:fr.get p with
         |none=>simp[hp]at h
         |  some g=>
            simp only[hp]at h;have ux:=hs _ _ hp;unfold IE at h;split at h
            . split at h
              .rename_i hb;exact F9 h (by rw[hg];simp[bF,ux,hb])
              .rename_i hb;exact F8 h (by rw[hg];simp[bF,ux,hb])
            .exact F8 h (by rw[hg];simp[bF,ux])
            .cases h
    |   read=>
        simp only[hc]at h;have F9 : jV o.k xs (snap o.bt base recs) (λv=>jz o.bt o.k xs v [] recs) (λv=>kU c os ({ idx:=j,o:=o,v:=v,c:= .pure,nx:=st.next }::recs) base (cG fr o.dst v) st K)=some r->bF dU o.guard=some true->∃aW cw st',cF c ((j,o)::os) recs base dU st=some (cw,st')/\Sub aW cw/\K aW st'=some r:=λh hw=>by
         unfold jV at h;split at h
         .  rename_i v hv;obtain⟨aW,cw,st',h1,h2⟩:=ih _ _ (hs.dst o.dst v) h;exact⟨aW,cw,st',by unfold cF;simp only[hw,Qm,hc,hv];exact h1,h2⟩
         .  rename_i j6;split at h
            . rename_i v hv;split at h
              . rename_i eI;obtain⟨aW,cw,st',h1,h2⟩:=ih _ _ (hs.dst o.dst v) h;refine⟨aW,cw,st',?_,h2⟩;unfold cF;simp only[hw,Qm,hc];cases hr:o.k.run (λ_=>none) .h xs with
                |none=>simp only[hv,eI];exact h1
                | some x=>cases x with
                  |val u=>exact absurd hr (j6 u)
                  |aC v d e n=>simp only[hv,eI];exact h1
                  |call f xs=>simp only[hv,eI];exact h1
              .cases h
            .cases h
        cases hg:o.guard with
        |none=>simp only[hg]at h;exact F9 h (by rw[hg];rfl)
        |some pw=>
         obtain⟨p,want⟩:=pw;simp only[hg]at h;cases hp:fr.get p with
         |none=>simp[hp]at h
         |  some g=>
            simp only[hp]at h;have ux:=hs _ _ hp;unfold IF at h;split at h
            . split at h
              .rename_i hb;exact F9 h (by rw[hg];simp[bF,ux,hb])
              .rename_i hb;exact F8 h (by rw[hg];simp[bF,ux,hb])
            .exact F8 h (by rw[hg];simp[bF,ux])
            .cases h
    |   new =>
        simp only[hc]at h;have F9:F0 o.k xs st (λv au=>kU c os ({ idx:=j,o:=o,v:=v,c:= .new st.next au,nx:=st.next.succ }::recs) base (cG fr o.dst v) { heap:=st.heap.put (some au) st.next,next:=st.next.succ } K)=some r->bF dU o.guard=some true->∃aW cw st',cF c ((j,o)::os) recs base dU st=some (cw,st')/\Sub aW cw/\K aW st'=some r:=λh hw=>by
         unfold F0 at h;split at h
         .  rename_i v au hv;obtain⟨aW,cw,st',h1,h2⟩:=ih _ _ (hs.dst o.dst v) h;exact⟨aW,cw,st',by unfold cF;simp only[hw,Qm,hc,hv];exact h1,h2⟩
         .  cases h
        cases hg:o.guard with
        |none=>simp only[hg]at h;exact F9 h (by rw[hg];rfl)
        |some pw=>
         obtain⟨p,want⟩:=pw;simp only[hg]at h;cases hp:fr.get p with
         |none=>simp[hp]at h
         |  some g=>
            simp only[hp]at h;have ux:=hs _ _ hp;unfold IG at h;split at h
            . split at h
              .rename_i hb;exact F9 h (by rw[hg];simp[bF,ux,hb])
              .rename_i hb;exact F8 h (by rw[hg];simp[bF,ux,hb])
            .exact F8 h (by rw[hg];simp[bF,ux])
            .cases h
    |   aC=>
        simp only[hc]at h;have F9:ak c o.k xs st (λv st'=>kU c os ({ idx:=j,o:=o,v:=v,c:= .aC base st'.heap,nx:=st'.next }::recs) st'.heap (cG fr o.dst v) st' K)=some r->bF dU o.guard=some true->∃aW cw st',cF c ((j,o)::os) recs base dU st=some (cw,st')/\Sub aW cw/\K aW st'=some r:=λh hw=>by
         unfold ak at h;cases iU:bS c o.k xs st with
         |none=>simp[iU]at h
         |  some p=>
            simp only[iU]at h;obtain⟨aW,cw,st',h1,h2⟩:=ih _ _ (hs.dst o.dst p.1) h;exact⟨aW,cw,st',by unfold cF;simp only[hw,Qm,hc,iU];exact h1,h2⟩
        cases hg:o.guard with
        |none=>simp only[hg]at h;exact F9 h (by rw[hg];rfl)
        |some pw=>
         obtain⟨p,want⟩:=pw;simp only[hg]at h;cases hp:fr.get p with
         |none=>simp[hp]at h
         |  some g=>
            simp only[hp]at h;have ux:=hs _ _ hp;unfold IG at h;split at h
            . split at h
              .rename_i hb;exact F9 h (by rw[hg];simp[bF,ux,hb])
              .rename_i hb;exact F8 h (by rw[hg];simp[bF,ux,hb])
            .exact F8 h (by rw[hg];simp[bF,ux])
            .cases h
def Has:List Pos->List AV->Fr->Prop
 |[],[],_=>True
 |p::ps,v::vs,fr=>fr.get p=some v/\Has ps vs fr
 |_,_,_=>False
theorem Has.sub{a b:Fr}(hs:Sub a b):∀{ps:List Pos}{vs:List AV},Has ps vs a->Has ps vs b
 |[],[],_=>trivial
 |[],_::_,h=>h
 |_::_,[],h=>h
 |_::_,_::_,h=>⟨hs _ _ h.1,Has.sub hs h.2⟩
theorem tI:∀{ps:List Pos}{fr:Fr}{k:List AV->Option R}{r:R},F6 ps fr k=some r->∃vs,Has ps vs fr/\k vs=some r
 |[],_,_,_,h=>⟨[],trivial,h⟩
 |p::ps,fr,k,r,h=>by
  unfold F6 at h;cases hp:fr.get p with
  |none=>simp[hp]at h
  |some v=>
   simp only[hp]at h;obtain⟨vs,h1,h2⟩:=tI h;exact⟨v::vs,⟨hp,h1⟩,h2⟩
theorem xe:∀{ps:List Pos}{vs:List AV}{fr dU:Fr}{k:Fr->Option R}{r:R},F7 ps vs fr k=some r->Has ps vs dU->Sub fr dU->∃aW,Sub aW dU/\k aW=some r
 |[],vs,fr,dU,k,r,h,_,hs=>by
  unfold F7 pZ at h;split at h
  .exact⟨fr,hs,h⟩
  .cases h
 |p::ps,[],fr,dU,k,r,h,hh,hs=>by simp[F7,js]at h
 |p::ps,v::vs,fr,dU,k,r,h,hh,hs=>by
  unfold F7 js at h;refine xe h hh.2 λq u hq=> ?_
  by_cases e:p=q
  .subst e;rw[T.ee]at hq;cases hq;exact hh.1
  .rw[T.bn _ e]at hq;exact hs _ _ hq
theorem zc{c:ai}{n m:Nat}(h:n<=m){a:AC}{fr:Fr}{st:St}{r:iF×Fr×St}(e:exec c n a fr st=some r):exec c m a fr st=some r:=HS (IC.refl c) n m h _ _ _ _ e
theorem lS{c:ai}{F:Nat}{L:Env R}:∀(a:AC)(s:Sh),ri c F L a s->∀{fr dU:Fr}{st:St}{K:iF->Fr->St->Option R}{r:R},Sub fr dU->den c F L a s fr st K=some r->
   ∃n ex aW cw st',exec c n a dU st=some (ex,cw,st')/\Sub aW cw/\K ex aW st'=some r
 |.skip,s,_,fr,dU,st,K,r,hs,h=>⟨1,.normal,fr,dU,st,rfl,hs,by simpa [den]using h⟩
 |.exit id,s,_,fr,dU,st,K,r,hs,h=>⟨1,.exit id,fr,dU,st,rfl,hs,by simpa [den]using h⟩
 |.ret,s,_,fr,dU,st,K,r,hs,h=>⟨1,.ret,fr,dU,st,rfl,hs,by simpa [den]using h⟩
 | .region ops,s,_,fr,dU,st,K,r,hs,h=>by
   simp only[den]at h;obtain⟨aW,cw,st',h1,h2,h3⟩:=DR ops hs h;exact⟨1,.normal,aW,cw,st',by simp only[exec,aX,h1],h2,h3⟩
 | .draw ops,s,_,fr,dU,st,K,r,hs,h=>by
   simp only[den]at h;obtain⟨aW,cw,st',h1,h2,h3⟩:=II ops _ _ hs h;exact⟨1,.normal,aW,cw,st',by simp only[exec,aX,h1],h2,h3⟩
 | .seq a b,s,eI,fr,dU,st,K,r,hs,h=>by
   (cases s<;>simp only[den]at h<;>first|(cases h;done)|skip);rename_i jn s t;simp only[ri]at eI;cases jn with
   |none=>
    simp only at h;obtain⟨n,ex,bI,oY,aK,h1,h2,h3⟩:=lS a s eI.1 hs h;cases ex with
    |   normal=>
        obtain⟨m,ex,qQ,Qw,ji,k1,k2,k3⟩:=lS b t eI.2 h2 h3;exact⟨max n m+1,ex,qQ,Qw,ji,by simp only[exec,aX,zc (Zi0 n m) h1];exact zc (Zg9 n m) k1,k2,k3⟩
    |exit i=>exact⟨n+1,.exit i,bI,oY,aK,by simp only[exec,aX,h1],h2,h3⟩
    |ret=>exact⟨n+1,.ret,bI,oY,aK,by simp only[exec,aX,h1],h2,h3⟩
   |some l=>
    simp only[fY]at h;obtain⟨n,ex,bI,oY,aK,h1,h2,h3⟩:=lS a s eI.1 hs h;cases ex with
    |   normal=>
        obtain⟨vs,g1,g2⟩:=tI h3;obtain⟨aW,g3,g4⟩:=xe g2 (Has.sub h2 g1) (λp v hp=>by rw[T.cZ]at hp;cases hp);obtain⟨m,ex,qQ,Qw,ji,k1,k2,k3⟩:=lS b t eI.2 g3 g4;exact⟨max n m+1,ex,qQ,Qw,ji,by simp only[exec,aX,zc (Zi0 n m) h1];exact zc (Zg9 n m) k1,k2,k3⟩
    |exit i=>exact⟨n+1,.exit i,bI,oY,aK,by simp only[exec,aX,h1],h2,h3⟩
    |ret=>exact⟨n+1,.ret,bI,oY,aK,by simp only[exec,aX,h1],h2,h3⟩
 | .cond x a b,s,eI,fr,dU,st,K,r,hs,h=>by
   (cases s<;>simp only[den]at h<;>first|(cases h;done)|skip);simp only[ri]at eI;cases hx:wU fr x with
   |none=>simp[hx]at h
   |some v=>
    simp only[hx]at h;unfold NU at h;split at h
    .   obtain⟨n,ex,bI,oY,aK,h1,h2,h3⟩:=lS a _ eI.1 hs h;exact⟨n+1,ex,bI,oY,aK,by simp only[exec,aX,hs.ev hx];exact h1,h2,h3⟩
    .   obtain⟨n,ex,bI,oY,aK,h1,h2,h3⟩:=lS b _ eI.2 hs h;exact⟨n+1,ex,bI,oY,aK,by simp only[exec,aX,hs.ev hx];exact h1,h2,h3⟩
    .   cases h
 | .block id a,s,eI,fr,dU,st,K,r,hs,h=>by
   (cases s<;>simp only[den]at h<;>first|(cases h;done)|skip);simp only[ri]at eI;obtain⟨n,ex,bI,oY,aK,h1,h2,h3⟩:=lS a _ eI hs h;cases ex with
   |normal=>exact⟨n+1,.normal,bI,oY,aK,by simp only[exec,aX,h1],h2,h3⟩
   |ret=>exact⟨n+1,.ret,bI,oY,aK,by simp only[exec,aX,h1],h2,h3⟩
   |exit i=>
    simp only at h3;cases hb:Nat.beq i id with
    |true=>simp only[hb]at h3;exact⟨n+1,.normal,bI,oY,aK,by simp only[exec,aX,h1,hb],h2,h3⟩
    |false=>simp only[hb]at h3;exact⟨n+1,.exit i,bI,oY,aK,by simp only[exec,aX,h1,hb],h2,h3⟩
 | .loop a,s,eI,fr,dU,st,K,r,hs,h=>by
   (cases s<;>simp only[den]at h<;>first|(cases h;done)|skip);rename_i j ins outs s;simp only[ri,uw]at eI;obtain⟨acQ,eI⟩:=eI;obtain⟨vs,g1,g2⟩:=tI h;obtain⟨hz,hsu⟩:=acQ (knk outs K)
   have main:∀(n:Nat)(vs:List AV)(st:St)(dU:Fr),Has ins vs dU->L j (knk outs K) n vs st=some r->
        ∃m ex aW cw st',exec c m (.loop a) dU st=some (ex,cw,st')/\Sub aW cw/\K ex aW st'=some r:=by
    intro n;induction n with
    |zero=>intro vs st dU _ h;rw[hz]at h;cases h
    |   succ n ihn=>
        intro vs st dU hh h;rw[hsu]at h;unfold Cs at h;obtain⟨bJ,q1,q2⟩:=xe h hh (λp v hp=>by rw[T.cZ]at hp;cases hp);obtain⟨m,ex,bI,oY,aK,h1,h2,h3⟩:=lS a s eI q1 q2;cases ex with
        |normal=>
         obtain⟨us,p1,p2⟩:=tI h3;obtain⟨m',ex,qQ,Qw,ji,k1,k2,k3⟩:=ihn us aK oY (Has.sub h2 p1) p2;exact⟨max m m'+1,ex,qQ,Qw,ji,by simp only[exec,aX,zc (Zi0 m m') h1];exact zc (Zg9 m m') k1,k2,k3⟩
        |exit i=>
         obtain⟨os,p1,p2⟩:=tI h3;obtain⟨qQ,p3,p4⟩:=xe p2 (Has.sub h2 p1) (λp v hp=>by rw[T.cZ]at hp;cases hp);exact⟨m+1,.exit i,qQ,oY,aK,by simp only[exec,aX,h1],p3,p4⟩
        |ret=>
         obtain⟨os,p1,p2⟩:=tI h3;obtain⟨qQ,p3,p4⟩:=xe p2 (Has.sub h2 p1) (λp v hp=>by rw[T.cZ]at hp;cases hp);exact⟨m+1,.ret,qQ,oY,aK,by simp only[exec,aX,h1],p3,p4⟩
   exact main F vs st dU (Has.sub hs g1) g2
def Jz:(H:Pos->Option AB)->Fr->List wT->(List AV->Option R)->Option R
 |_,_,[],k=>k []
 |  H,fr,.tmp p::rs,k=>match fr.get p with
    |some v=>Jz H fr rs λvs=>k (v::vs)
    |none=>none
 |  H,fr,.cell p n::rs,k=>match fr.get p with
    |some q=>match (av.load n).run H .h [q]with
     |some (.val v)=>Jz H fr rs λvs=>k (v::vs)
     |_=>none
    |none=>none
def Tc(n:Option Nat)(q:AV)(st:St)(K:AV->Option R):Option R:=match (av.load n).run (λb=>st.heap.get b) .h [q]with
 |some (.val v)=>K v
 |_=>none
theorem Bb{H:Pos->Option AB}{fr dU:Fr}(hs:Sub fr dU):∀{rs:List wT}{k:List AV->Option R}{r:R},Jz H fr rs k=some r->∃vs,bY H dU rs=some vs/\k vs=some r
 |[],k,r,h=>⟨[],rfl,h⟩
 | .tmp p::rs,k,r,h=>by
   unfold Jz at h;cases hp:fr.get p with
   |none=>simp[hp]at h
   |some v=>
    simp only[hp]at h;obtain⟨vs,h1,h2⟩:=Bb hs h;exact⟨v::vs,by unfold bY;simp only[hs _ _ hp,h1],h2⟩
 | .cell p n::rs,k,r,h=>by
   unfold Jz at h;cases hp:fr.get p with
   |none=>simp[hp]at h
   |some q=>
    simp only[hp]at h;split at h
    .   rename_i v hv;obtain⟨vs,h1,h2⟩:=Bb hs h;exact⟨v::vs,by unfold bY;simp only[hs _ _ hp,hv,h1],h2⟩
    .   cases h
def xP(c:ai)(F:Nat)(L:Env (AV×St))(A:b7)(s:Sh)(args:List AV)(st:St):Option (AV×St):=
 match Nat.beq args.length A.nparams with
 |  true=>den c F L A.code s (params 0 args .e) st λex fr st=>match ex with
    |.normal=>Jz (λb=>st.heap.get b) fr A.results λvs=>some (fL vs,st)
    |.ret=>Jz (λb=>st.heap.get b) fr A.results λvs=>some (fL vs,st)
    |.exit _=>none
 |false=>none
theorem Zh{O:dR}{G:T b7}{F:Nat}{L:Env (AV×St)}{f:FuncId}{A:b7}{s:Sh}{args:List AV}{st:St}{r:AV×St}(ho:O f=none)(hF:G.get (key f)=some A)
  (hL:∀x∈dP A.code s,uw (run O G) F L x.1 x.2) (h:xP (run O G) F L A s args st=some r):run O G f args st=some (tidy st r):=by
 unfold xP at h;split at h<;>first|(cases h;done)|skip
 rename_i hlen;obtain⟨n,ex,aW,cw,st',h1,h2,h3⟩:=lS A.code s (v7 _ _ hL) (Sub.refl _) h;refine Zg (n:=n) ho hF ?_;unfold pJ;simp only[hlen,h1];cases ex with
 |normal=>
  obtain⟨vs,k1,k2⟩:=Bb h2 h3;simp only[k1];exact k2
 |ret=>
  obtain⟨vs,k1,k2⟩:=Bb h2 h3;simp only[k1];exact k2
 |exit i=>cases h3
def af(st:St)(b:AB):St:={ heap:=st.heap.put (some b) st.next,next:=st.next.succ }
def Ph{R:Type}:List (Nat×(LpK R->Nat->List AV->St->Option R))->Env R
 |[]=>λ_ _ _ _ _=>none
 |  (i,g)::l=>λj K n=>match Nat.beq i j with
    |true=>g K n
    |false=>Ph l j K n
def eV(A:b7)(s:Sh)(i:Nat):AC×Sh:=(dP A.code s).getD i (.skip,.leaf)
theorem Zi{R:Type}{c:ai}{F:Nat}{L:Env R}{A:b7}{s:Sh}(n:Nat)(hn:Nat.beq (dP A.code s).length n=true)(h:∀i,i<n->uw c F L (eV A s i).1 (eV A s i).2):
  ∀x∈dP A.code s,uw c F L x.1 x.2:=by
 intro x hx;obtain⟨i,hi,he⟩:=Zk7.1 hx;have hn:=Za1 hn;have:=h i (by omega);unfold eV at this;rw[Zb4,H4 hi]at this;simp only[Zj2,he]at this;exact this
def Mg:Sh->Bool
 |.loop _ _ _ _=>true
 |_=>false
def WQ:Sh->Nat
 |.loop j _ _ _=>j
 |_=>0
def lpI:Sh->List Pos
 |.loop _ i _ _=>i
 |_=>[]
def WS:Sh->List (Nat×List Pos)
 |.loop _ _ o _=>o
 |_=>[]
def lpB:Sh->Sh
 |.loop _ _ _ s=>s
 |_=>.leaf
theorem mB{R:Type}{c:ai}{F:Nat}{L:Env R}{A:b7}{sh:Sh}{i:Nat}(j:Nat)(hs:(Mg (eV A sh i).2&&Nat.beq (WQ (eV A sh i).2) j)=true)(h0:∀K' vs st,L j K' 0 vs st=none)
  (h1:∀K' n vs st,L j K' (n+1) vs st=Cs (den c F L (eV A sh i).1 (lpB (eV A sh i).2)) (lpI (eV A sh i).2) (WS (eV A sh i).2) K' (L j K' n) vs st):uw c F L (eV A sh i).1 (eV A sh i).2:=by
 generalize (eV A sh i).1=a at*
 generalize (eV A sh i).2=t at*
 cases t with
 |loop j' ins outs s=>
  simp only[Mg,WQ,Zg6]at hs;obtain rfl:=Za1 hs;exact λK'=>⟨h0 K',h1 K'⟩
 |_=>simp[Mg]at hs
end
end Go.Ai
section
namespace Go.Ai
open Go
theorem cq(k:IntKind):zh k k=true:=by cases k<;>rfl
theorem jC(a b:Int):sx a b=decide (a=b):=by rw[jB];rfl
theorem fq(a b:List Nat):gP a b=decide (a=b):=by rw[Zj0,jI];simp
theorem wrap64{x:Int}(h1: -9223372036854775808<=x)(h2:x<=9223372036854775807):ay .i64 x=x:=by
 unfold ay Nl Nm;simp only;split
 . split
   .rfl
   .contradiction
 .contradiction
theorem wQ{x:Int}(h1:0<=x)(h2:x<=255):ay .u8 x=x:=by
 unfold ay Nl Nm;simp only;split
 . split
   .rfl
   .contradiction
 .contradiction
theorem gO(k:IntKind)(n:Nat):q8 (.int k (n:Int))=some n:=id rfl
theorem eW(a b:Nat):Nat.ble a b=decide (a<=b):=by apply Zj0.2;simp
theorem yQ(a b:Nat):Nat.blt a b=decide (a<b):=by apply Zj0.2;simp[Nat.blt,Nat.ble_eq];omega
theorem eo(a b:Nat):Nat.beq a b=decide (a=b):=by apply Zj0.2;simp
def rj{R:Type}(o:Option AV)(k:AV->Option R):Option R:=match o with
 |some v=>k v
 |none=>none
def xQ{R:Type}(o:Option (List AV))(k:List AV->Option R):Option R:=match o with
 |some v=>k v
 |none=>none
def JA{R:Type}(o:Option (AV×St))(k:AV->St->Option R):Option R:=match o with
 |some (v,st)=>k v st
 |none=>none
section
variable{R:Type}(c:ai)(K:AV->St->Option R)(K1:AV->Option R)(A B:Option R)
@[simp] theorem lU(v:AV)(k:AV->Option R):rj (some v) k=k v:=id rfl
@[simp] theorem p7(v:List AV)(k:List AV->Option R):xQ (some v) k=k v:=id rfl
@[simp] theorem iV(v:AV)(st:St)(k:AV->St->Option R):JA (some (v,st)) k=k v st:=id rfl
@[simp] theorem jL:NU (.bool true) A B=A:=id rfl
@[simp] theorem jW:NU (.bool false) A B=B:=id rfl
@[simp] theorem aH(v:AV)(vs:List AV)(k:AV->List AV->Option R):js (v::vs) k=k v vs:=id rfl
@[simp] theorem dD(k:Option R):pZ [] k=k:=id rfl
theorem p9(f:(List AV->St->Option R)->Option R)(k:List AV->St->Option R):fY f k=f k:=id rfl
@[simp] theorem tJ(b:Bool)(k:av)(xs:List AV)(st:St):Qv c (.bool b) b k xs st K=ak c k xs st K:=by cases b<;>exact id rfl
@[simp] theorem WT(k:av)(xs:List AV)(st:St):Qv c (.bool true) false k xs st K=K .undef st:=id rfl
@[simp] theorem gst_ft(k:av)(xs:List AV)(st:St):Qv c (.bool false) true k xs st K=K .undef st:=id rfl
@[simp] theorem gst_un(b:Bool)(k:av)(xs:List AV)(st:St):Qv c .undef b k xs st K=K .undef st:=id rfl
@[simp] theorem adw(b:Bool)(k:av)(xs:List AV):IE (.bool b) b k xs K1=ey k xs K1:=by cases b<;>exact id rfl
@[simp] theorem gpr_tf(k:av)(xs:List AV):IE (.bool true) false k xs K1=K1 .undef:=id rfl
@[simp] theorem gpr_ft(k:av)(xs:List AV):IE (.bool false) true k xs K1=K1 .undef:=id rfl
@[simp] theorem gpr_un(b:Bool)(k:av)(xs:List AV):IE .undef b k xs K1=K1 .undef:=id rfl
@[simp] theorem adx(b:Bool)(k:av)(xs:List AV)(h:T AB)(ok:AV->Bool):IF (.bool b) b k xs h ok K1=jV k xs h ok K1:=by cases b<;>exact id rfl
@[simp] theorem grd_tf(k:av)(xs:List AV)(h:T AB)(ok:AV->Bool):IF (.bool true) false k xs h ok K1=K1 .undef:=id rfl
@[simp] theorem grd_ft(k:av)(xs:List AV)(h:T AB)(ok:AV->Bool):IF (.bool false) true k xs h ok K1=K1 .undef:=id rfl
@[simp] theorem grd_un(b:Bool)(k:av)(xs:List AV)(h:T AB)(ok:AV->Bool):IF .undef b k xs h ok K1=K1 .undef:=id rfl
@[simp] theorem ady(b:Bool):IG (.bool b) b A B=A:=by cases b<;>exact id rfl
@[simp] theorem wnt_tf:IG (.bool true) false A B=B:=id rfl
@[simp] theorem wnt_ft:IG (.bool false) true A B=B:=id rfl
@[simp] theorem wnt_un(b:Bool):IG .undef b A B=B:=id rfl
theorem zK{k:av}{xs:List AV}{o:Option AV}(h:∀H n,k.run H n xs=o.map .val)(st:St):ak c k xs st K=rj o λv=>K v st:=by unfold ak bS;rw[h];cases o<;>rfl
theorem KV{k:av}{xs:List AV}{o:Option AV}(h:∀H n,k.run H n xs=o.map .val):ey k xs K1=rj o K1:=by unfold ey;rw[h];cases o<;>rfl
theorem aS{k:av}{xs:List AV}{v:AV}(h:∀H n,k.run H n xs=some (.val v))(st:St):ak c k xs st K=K v st:=by
 unfold ak bS;rw[h]
theorem cV{k:av}{xs:List AV}{v:AV}(h:∀H n,k.run H n xs=some (.val v)):ey k xs K1=K1 v:=by
 unfold ey;rw[h]
theorem kA(f:FuncId)(l:List AV)(st:St):ak c (.callF f) l st K=JA (c f l st) K:=by unfold ak bS;show(match c f l st with|some (v,st')=>K v st'|none=>none)=_;cases c f l st<;>rfl
theorem xj(f:FuncId)(l u v:List AV)(st:St):ak c .callV (.func f u v::l) st K=JA (c f (u++(l++v)) st) K:=by unfold ak bS;show(match c f (u++(l++v)) st with|some (v,st')=>K v st'|none=>none)=_;cases c f (u++(l++v)) st<;>rfl
attribute [simp] kA xj
end
def cellsOf:Option AB->Option (List AV)
 |some (.cells cs _)=>some cs
 |some (.typed _ cs)=>some cs
 |_=>none
@[simp] theorem abR(t:TypeId)(cs:List AV):cellsOf (some (.typed t cs))=some cs:=id rfl
@[simp] theorem bf(cs:List AV)(f:Nat):cellsOf (some (.cells cs f))=some cs:=id rfl
def ro(es:Nat)(z:Bool)(rs:List (List AV)):AV:=match z,rs with
 |true,[]=>.ah
 |_,rs=>.fl rs es
theorem Td{es:Nat}{z:Bool}{rs:List (List AV)}(h:rs≠[]):ro es z rs= .fl rs es:=by
 unfold ro;split
 .exact absurd rfl h
 .rfl
theorem run_move(H:Pos->Option AB)(n:Pos)(x:AV):av.run H n .move [x]=some (.val x):=rfl
@[simp] theorem aE{R:Type}(c:ai)(K:AV->St->Option R)(st:St)(x:AV):ak c .move [x] st K=K x st:=aS c K (λH n=>run_move H n x) st
@[simp] theorem bZ{R:Type}(K:AV->Option R)(x:AV):ey .move [x] K=K x:=cV K (λH n=>run_move H n x)
theorem KW(H:Pos->Option AB)(n:Pos)(x y:AV):av.run H n .pick [.bool true,x,y]=some (.val x):=rfl
@[simp] theorem UO{R:Type}(c:ai)(K:AV->St->Option R)(st:St)(x y:AV):ak c .pick [.bool true,x,y] st K=K x st:=aS c K (λH n=>KW H n x y) st
@[simp] theorem acR{R:Type}(K:AV->Option R)(x y:AV):ey .pick [.bool true,x,y] K=K x:=cV K (λH n=>KW H n x y)
theorem KY(H:Pos->Option AB)(n:Pos)(x y:AV):av.run H n .pick [.bool false,x,y]=some (.val y):=rfl
@[simp] theorem UP{R:Type}(c:ai)(K:AV->St->Option R)(st:St)(x y:AV):ak c .pick [.bool false,x,y] st K=K y st:=aS c K (λH n=>KY H n x y) st
@[simp] theorem acS{R:Type}(K:AV->Option R)(x y:AV):ey .pick [.bool false,x,y] K=K y:=cV K (λH n=>KY H n x y)
theorem abc(H:Pos->Option AB)(n:Pos)(p:Bool):av.run H n (.un .not) [.bool p]=some (.val (.bool (!p))):=rfl
@[simp] theorem zd{R:Type}(c:ai)(K:AV->St->Option R)(st:St)(p:Bool):ak c (.un .not) [.bool p] st K=K (.bool (!p)) st:=aS c K (λH n=>abc H n p) st
theorem Te(H:Pos->Option AB)(n:Pos)(q:eO)(k:IntKind)(a b:Int):av.run H n (.bin .lss q) [.int k a,.int k b]=some (.val (.bool (decide (a<b)))):=by simp[av.run,fX,k9,cq,jC,dz,gM,fq]
@[simp] theorem oR{R:Type}(c:ai)(K:AV->St->Option R)(st:St)(q:eO)(k:IntKind)(a b:Int):ak c (.bin .lss q) [.int k a,.int k b] st K=K (.bool (decide (a<b))) st:=aS c K (λH n=>Te H n q k a b) st
@[simp] theorem Tf{R:Type}(K:AV->Option R)(q:eO)(k:IntKind)(a b:Int):ey (.bin .lss q) [.int k a,.int k b] K=K (.bool (decide (a<b))):=cV K (λH n=>Te H n q k a b)
theorem Tg(H:Pos->Option AB)(n:Pos)(q:eO)(k:IntKind)(a b:Int):av.run H n (.bin .leq q) [.int k a,.int k b]=some (.val (.bool (decide (a<=b)))):=by simp[av.run,fX,k9,cq,jC,dz,gM,fq]
@[simp] theorem adz{R:Type}(c:ai)(K:AV->St->Option R)(st:St)(q:eO)(k:IntKind)(a b:Int):ak c (.bin .leq q) [.int k a,.int k b] st K=K (.bool (decide (a<=b))) st:=aS c K (λH n=>Tg H n q k a b) st
@[simp] theorem adA{R:Type}(K:AV->Option R)(q:eO)(k:IntKind)(a b:Int):ey (.bin .leq q) [.int k a,.int k b] K=K (.bool (decide (a<=b))):=cV K (λH n=>Tg H n q k a b)
theorem Th(H:Pos->Option AB)(n:Pos)(q:eO)(k:IntKind)(a b:Int):av.run H n (.bin .gtr q) [.int k a,.int k b]=some (.val (.bool (decide (b<a)))):=by simp[av.run,fX,k9,cq,jC,dz,gM,fq]
@[simp] theorem abd{R:Type}(c:ai)(K:AV->St->Option R)(st:St)(q:eO)(k:IntKind)(a b:Int):ak c (.bin .gtr q) [.int k a,.int k b] st K=K (.bool (decide (b<a))) st:=aS c K (λH n=>Th H n q k a b) st
@[simp] theorem adB{R:Type}(K:AV->Option R)(q:eO)(k:IntKind)(a b:Int):ey (.bin .gtr q) [.int k a,.int k b] K=K (.bool (decide (b<a))):=cV K (λH n=>Th H n q k a b)
theorem abe(H:Pos->Option AB)(n:Pos)(q:eO)(k:IntKind)(a b:Int):av.run H n (.bin .geq q) [.int k a,.int k b]=some (.val (.bool (decide (b<=a)))):=by simp[av.run,fX,k9,cq,jC,dz,gM,fq]
@[simp] theorem adC{R:Type}(c:ai)(K:AV->St->Option R)(st:St)(q:eO)(k:IntKind)(a b:Int):ak c (.bin .geq q) [.int k a,.int k b] st K=K (.bool (decide (b<=a))) st:=aS c K (λH n=>abe H n q k a b) st
theorem Ti(H:Pos->Option AB)(n:Pos)(q:eO)(k:IntKind)(a b:Int):av.run H n (.bin .eql q) [.int k a,.int k b]=some (.val (.bool (decide (a=b)))):=by simp[av.run,fX,k9,cq,jC,dz,gM,fq]
@[simp] theorem eD{R:Type}(c:ai)(K:AV->St->Option R)(st:St)(q:eO)(k:IntKind)(a b:Int):ak c (.bin .eql q) [.int k a,.int k b] st K=K (.bool (decide (a=b))) st:=aS c K (λH n=>Ti H n q k a b) st
@[simp] theorem adD{R:Type}(K:AV->Option R)(q:eO)(k:IntKind)(a b:Int):ey (.bin .eql q) [.int k a,.int k b] K=K (.bool (decide (a=b))):=cV K (λH n=>Ti H n q k a b)
theorem Tj(H:Pos->Option AB)(n:Pos)(q:eO)(k:IntKind)(a b:Int):av.run H n (.bin .neq q) [.int k a,.int k b]=some (.val (.bool (!decide (a=b)))):=by simp[av.run,fX,k9,cq,jC,dz,gM,fq]
@[simp] theorem adE{R:Type}(c:ai)(K:AV->St->Option R)(st:St)(q:eO)(k:IntKind)(a b:Int):ak c (.bin .neq q) [.int k a,.int k b] st K=K (.bool (!decide (a=b))) st:=aS c K (λH n=>Tj H n q k a b) st
@[simp] theorem adF{R:Type}(K:AV->Option R)(q:eO)(k:IntKind)(a b:Int):ey (.bin .neq q) [.int k a,.int k b] K=K (.bool (!decide (a=b))):=cV K (λH n=>Tj H n q k a b)
theorem Tk(H:Pos->Option AB)(n:Pos)(q:eO)(k:IntKind)(a b:Int):av.run H n (.bin .add q) [.int k a,.int k b]=some (.val (.int k (ay k (a+b)))):=by simp[av.run,fX,k9,cq,jC,dz,gM,fq]
@[simp] theorem tK{R:Type}(c:ai)(K:AV->St->Option R)(st:St)(q:eO)(k:IntKind)(a b:Int):ak c (.bin .add q) [.int k a,.int k b] st K=K (.int k (ay k (a+b))) st:=aS c K (λH n=>Tk H n q k a b) st
@[simp] theorem adG{R:Type}(K:AV->Option R)(q:eO)(k:IntKind)(a b:Int):ey (.bin .add q) [.int k a,.int k b] K=K (.int k (ay k (a+b))):=cV K (λH n=>Tk H n q k a b)
theorem Tl(H:Pos->Option AB)(n:Pos)(q:eO)(k:IntKind)(a b:Int):av.run H n (.bin .sub q) [.int k a,.int k b]=some (.val (.int k (ay k (a - b)))):=by simp[av.run,fX,k9,cq,jC,dz,gM,fq]
@[simp] theorem adH{R:Type}(c:ai)(K:AV->St->Option R)(st:St)(q:eO)(k:IntKind)(a b:Int):ak c (.bin .sub q) [.int k a,.int k b] st K=K (.int k (ay k (a - b))) st:=aS c K (λH n=>Tl H n q k a b) st
@[simp] theorem adI{R:Type}(K:AV->Option R)(q:eO)(k:IntKind)(a b:Int):ey (.bin .sub q) [.int k a,.int k b] K=K (.int k (ay k (a - b))):=cV K (λH n=>Tl H n q k a b)
theorem abf(H:Pos->Option AB)(n:Pos)(q:eO)(k:IntKind)(a b:Int):av.run H n (.bin .mul q) [.int k a,.int k b]=some (.val (.int k (ay k (a*b)))):=by simp[av.run,fX,k9,cq,jC,dz,gM,fq]
@[simp] theorem adJ{R:Type}(c:ai)(K:AV->St->Option R)(st:St)(q:eO)(k:IntKind)(a b:Int):ak c (.bin .mul q) [.int k a,.int k b] st K=K (.int k (ay k (a*b))) st:=aS c K (λH n=>abf H n q k a b) st
theorem Qx(H:Pos->Option AB)(n:Pos)(q:eO)(s t:List Nat):av.run H n (.bin .eql q) [.str s,.str t]=some (.val (.bool (decide (s=t)))):=by simp[av.run,fX,k9,cq,jC,dz,gM,fq]
@[simp] theorem adl{R:Type}(c:ai)(K:AV->St->Option R)(st:St)(q:eO)(s t:List Nat):ak c (.bin .eql q) [.str s,.str t] st K=K (.bool (decide (s=t))) st:=aS c K (λH n=>Qx H n q s t) st
@[simp] theorem adm{R:Type}(K:AV->Option R)(q:eO)(s t:List Nat):ey (.bin .eql q) [.str s,.str t] K=K (.bool (decide (s=t))):=cV K (λH n=>Qx H n q s t)
theorem Qy(H:Pos->Option AB)(n:Pos)(q:eO)(s t:List Nat):av.run H n (.bin .neq q) [.str s,.str t]=some (.val (.bool (!decide (s=t)))):=by simp[av.run,fX,k9,cq,jC,dz,gM,fq]
@[simp] theorem adn{R:Type}(c:ai)(K:AV->St->Option R)(st:St)(q:eO)(s t:List Nat):ak c (.bin .neq q) [.str s,.str t] st K=K (.bool (!decide (s=t))) st:=aS c K (λH n=>Qy H n q s t) st
@[simp] theorem Zj{R:Type}(K:AV->Option R)(q:eO)(s t:List Nat):ey (.bin .neq q) [.str s,.str t] K=K (.bool (!decide (s=t))):=cV K (λH n=>Qy H n q s t)
theorem Zk(H:Pos->Option AB)(n:Pos)(q:eO)(s t:List Nat):av.run H n (.bin .lss q) [.str s,.str t]=some (.val (.bool (aB s t))):=by simp[av.run,fX,k9,cq,jC,dz,gM,fq]
@[simp] theorem ado{R:Type}(K:AV->Option R)(q:eO)(s t:List Nat):ey (.bin .lss q) [.str s,.str t] K=K (.bool (aB s t)):=cV K (λH n=>Zk H n q s t)
theorem Zl(H:Pos->Option AB)(n:Pos)(q:eO)(s t:List Nat):av.run H n (.bin .geq q) [.str s,.str t]=some (.val (.bool (!aB s t))):=by simp[av.run,fX,k9,cq,jC,dz,gM,fq]
@[simp] theorem adp{R:Type}(c:ai)(K:AV->St->Option R)(st:St)(q:eO)(s t:List Nat):ak c (.bin .geq q) [.str s,.str t] st K=K (.bool (!aB s t)) st:=aS c K (λH n=>Zl H n q s t) st
theorem Zm(H:Pos->Option AB)(n:Pos)(s:List Nat):av.run H n (.lenB .s) [.str s]=some (.val (.int .i64 (s.length:Int))):=rfl
@[simp] theorem adq{R:Type}(c:ai)(K:AV->St->Option R)(st:St)(s:List Nat):ak c (.lenB .s) [.str s] st K=K (.int .i64 (s.length:Int)) st:=aS c K (λH n=>Zm H n s) st
theorem Qz(H:Pos->Option AB)(n:Pos)(es:Nat)(z:Bool)(rs:List (List AV)):av.run H n (.lenB .l) [ro es z rs]=some (.val (.int .i64 (rs.length:Int))):=by unfold ro;split<;>rfl
@[simp] theorem jZ{R:Type}(c:ai)(K:AV->St->Option R)(st:St)(es:Nat)(z:Bool)(rs:List (List AV)):ak c (.lenB .l) [ro es z rs] st K=K (.int .i64 (rs.length:Int)) st:=aS c K (λH n=>Qz H n es z rs) st
@[simp] theorem QA{R:Type}(K:AV->Option R)(es:Nat)(z:Bool)(rs:List (List AV)):ey (.lenB .l) [ro es z rs] K=K (.int .i64 (rs.length:Int)):=cV K (λH n=>Qz H n es z rs)
theorem QB(H:Pos->Option AB)(n:Pos)(k k2:IntKind)(a:Int):av.run H n (.conv (.int k)) [.int k2 a]=some (.val (.int k (ay k a))):=rfl
@[simp] theorem JB{R:Type}(c:ai)(K:AV->St->Option R)(st:St)(k k2:IntKind)(a:Int):ak c (.conv (.int k)) [.int k2 a] st K=K (.int k (ay k a)) st:=aS c K (λH n=>QB H n k k2 a) st
@[simp] theorem QC{R:Type}(K:AV->Option R)(k k2:IntKind)(a:Int):ey (.conv (.int k)) [.int k2 a] K=K (.int k (ay k a)):=cV K (λH n=>QB H n k k2 a)
theorem Zn(H:Pos->Option AB)(n:Pos)(k:IntKind)(s:List Nat)(i:Nat):av.run H n .idxS [.str s,.int k (i:Int)]=((s[i]?.map λc=>.int .u8 (c:Int)):Option AV).map .val:=by simp only[av.run,HJ,gO,j4];cases s[i]? <;>rfl
@[simp] theorem adr{R:Type}(c:ai)(K:AV->St->Option R)(st:St)(k:IntKind)(s:List Nat)(i:Nat):ak c .idxS [.str s,.int k (i:Int)] st K=rj (s[i]?.map λc=>.int .u8 (c:Int)) λv=>K v st:=zK c K (λH n=>Zn H n k s i) st
theorem Ga(H:Pos->Option AB)(n:Pos)(off:Nat)(p:Pos)(o:Nat):av.run H n (.fieldA off) [.ptr p o]=some (.val (.ptr p (o+off))):=rfl
@[simp] theorem cS{R:Type}(c:ai)(K:AV->St->Option R)(st:St)(off:Nat)(p:Pos)(o:Nat):ak c (.fieldA off) [.ptr p o] st K=K (.ptr p (o+off)) st:=aS c K (λH n=>Ga H n off p o) st
@[simp] theorem bk{R:Type}(K:AV->Option R)(off:Nat)(p:Pos)(o:Nat):ey (.fieldA off) [.ptr p o] K=K (.ptr p (o+off)):=cV K (λH n=>Ga H n off p o)
theorem IJ(H:Pos->Option AB)(n:Pos)(i:Nat)(l:List AV):av.run H n (.extract i) [.tuple l]=(l[i]? :Option AV).map .val:=by simp only[av.run,yJ,j4];cases l[i]? <;>rfl
@[simp] theorem wR{R:Type}(c:ai)(K:AV->St->Option R)(st:St)(i:Nat)(l:List AV):ak c (.extract i) [.tuple l] st K=rj l[i]? λv=>K v st:=zK c K (λH n=>IJ H n i l) st
@[simp] theorem acu{R:Type}(K:AV->Option R)(i:Nat)(l:List AV):ey (.extract i) [.tuple l] K=rj l[i]? K:=KV K (λH n=>IJ H n i l)
theorem Ct(H:Pos->Option AB)(n:Pos)(p:Pos)(o:Nat):av.run H n .nilCheck [.ptr p o]=some (.val (.ptr p o)):=rfl
@[simp] theorem qG{R:Type}(c:ai)(K:AV->St->Option R)(st:St)(p:Pos)(o:Nat):ak c .nilCheck [.ptr p o] st K=K (.ptr p o) st:=aS c K (λH n=>Ct H n p o) st
@[simp] theorem abg{R:Type}(K:AV->Option R)(p:Pos)(o:Nat):ey .nilCheck [.ptr p o] K=K (.ptr p o):=cV K (λH n=>Ct H n p o)
theorem QD(H:Pos->Option AB)(n:Pos)(es:Nat)(z:Bool)(rs:List (List AV))(k:IntKind)(i:Nat):av.run H n (.idxA es none) [ro es z rs,.int k (i:Int)]=((if i<rs.length then some (.fp rs i 0)else none):Option AV).map .val:=by
 by_cases h:i<rs.length
 .rw[Td (by intro e;subst e;simp at h)];simp[av.run,lA,gO,yQ,eo,h]
 . unfold ro;split
   .rfl
   .simp[av.run,lA,gO,yQ,eo,h]
@[simp] theorem QE{R:Type}(c:ai)(K:AV->St->Option R)(st:St)(es:Nat)(z:Bool)(rs:List (List AV))(k:IntKind)(i:Nat):ak c (.idxA es none) [ro es z rs,.int k (i:Int)] st K=rj (if i<rs.length then some (.fp rs i 0)else none) λv=>K v st:=zK c K (λH n=>QD H n es z rs k i) st
@[simp] theorem Zo{R:Type}(K:AV->Option R)(es:Nat)(z:Bool)(rs:List (List AV))(k:IntKind)(i:Nat):ey (.idxA es none) [ro es z rs,.int k (i:Int)] K=rj (if i<rs.length then some (.fp rs i 0)else none) K:=KV K (λH n=>QD H n es z rs k i)
theorem NV(H:Pos->Option AB)(n:Pos)(es:Nat)(z:Bool)(rs:List (List AV))(k:IntKind)(i:Nat):av.run H n (.sliceL es false true false) [ro es z rs,.int k (i:Int)]=((if i<=rs.length then some (ro es (z&&rs.isEmpty) (rs.take i))else none):Option AV).map .val:=by
 by_cases h:i<=rs.length
 . rw[  Za7 h];unfold ro;split
   .simp at h;subst h;rfl
   .rename_i hn;have:(z&&rs.isEmpty)=false:=(by cases z<;>cases rs<;>simp at hn ⊢);simp only[this];simp[av.run,ny,bounds,gO,eW,eo,h]
 . rw[Za5 h];unfold ro;split
   .simp only[av.run,ny,bounds,gO];have:¬i=0:=(by simp at h;omega);simp[eo,this]
   .simp[av.run,ny,bounds,gO,eW,eo,h]
@[simp] theorem adj{R:Type}(c:ai)(K:AV->St->Option R)(st:St)(es:Nat)(z:Bool)(rs:List (List AV))(k:IntKind)(i:Nat):ak c (.sliceL es false true false) [ro es z rs,.int k (i:Int)] st K=rj (if i<=rs.length then some (ro es (z&&rs.isEmpty) (rs.take i))else none) λv=>K v st:=zK c K (λH n=>NV H n es z rs k i) st
@[simp] theorem WU{R:Type}(K:AV->Option R)(es:Nat)(z:Bool)(rs:List (List AV))(k:IntKind)(i:Nat):ey (.sliceL es false true false) [ro es z rs,.int k (i:Int)] K=rj (if i<=rs.length then some (ro es (z&&rs.isEmpty) (rs.take i))else none) K:=KV K (λH n=>NV H n es z rs k i)
section
variable{R:Type}(c:ai)(K:AV->St->Option R)(K1:AV->Option R)
theorem uy(H:Pos->Option AB)(n:Pos)(xs:List (List AV))(i j:Nat):av.run H n (.load none) [.fp xs i j]=(xs[i]?.bind λcs=>cs[j]?).map .val:=by
 simp only[av.run,qw,j4];cases xs[i]? with
 |none=>rfl
 |some cs=>simp only[Zd1];cases cs[j]? <;>rfl
theorem BJ(H:Pos->Option AB)(n:Pos)(m:Nat)(xs:List (List AV))(i j:Nat):av.run H n (.load (some m)) [.fp xs i j]=((xs[i]?.bind λcs=>cut cs j m).map .agg).map .val:=by
 simp only[av.run,qw,j4];cases xs[i]? with
 |none=>rfl
 |some cs=>simp only[Zd1];cases cut cs j m<;>rfl
theorem qH (H:Pos->Option AB)(n:Pos)(p:Pos)(o:Nat):av.run H n (.load none) [.ptr p o]=((cellsOf (H p)).bind λcs=>cs[o]?).map .val:=by
 simp only[av.run,qw,j4];cases H p with
 |none=>rfl
 |some x=>   cases x<;>simp only[cellsOf,Zd1,Option.bind_none]<;>try rfl
             all_goals first|(rename_i cs _;cases cs[o]? <;>rfl)|(rename_i _ cs;cases cs[o]? <;>rfl)
theorem oU (H:Pos->Option AB)(n:Pos)(m:Nat)(p:Pos)(o:Nat):av.run H n (.load (some m)) [.ptr p o]=(((cellsOf (H p)).bind λcs=>cut cs o m).map .agg).map .val:=by
 simp only[av.run,qw];cases H p with
 |none=>rfl
 |some x=>   cases x<;>simp only[cellsOf,Zd1,Option.bind_none]<;>try rfl
             all_goals first|(rename_i cs _;cases cut cs o m<;>rfl)|(rename_i _ cs;cases cut cs o m<;>rfl)
@[simp] theorem acT(st:St)(xs:List (List AV))(i j:Nat):ak c (.load none) [.fp xs i j] st K=rj (xs[i]?.bind λcs=>cs[j]?) λv=>K v st:=zK c K (λH n=>uy H n xs i j) st
@[simp] theorem acv(st:St)(m:Nat)(xs:List (List AV))(i j:Nat):ak c (.load (some m)) [.fp xs i j] st K=xQ (xs[i]?.bind λcs=>cut cs j m) λl=>K (.agg l) st:=by rw[zK c K (λH n=>BJ H n m xs i j) st];cases(xs[i]?.bind λcs=>cut cs j m)<;>rfl
@[simp] theorem iH(st:St)(p:Pos)(o:Nat):ak c (.load none) [.ptr p o] st K=rj ((cellsOf (st.heap.get p)).bind λcs=>cs[o]?) λv=>K v st:=by unfold ak bS;rw[qH];cases((cellsOf (st.heap.get p)).bind λcs=>cs[o]?)<;>rfl
@[simp] theorem rJ(st:St)(m:Nat)(p:Pos)(o:Nat):ak c (.load (some m)) [.ptr p o] st K=xQ ((cellsOf (st.heap.get p)).bind λcs=>cut cs o m) λl=>K (.agg l) st:=by unfold ak bS;rw[oU];cases((cellsOf (st.heap.get p)).bind λcs=>cut cs o m)<;>rfl
@[simp] theorem acU(h:T AB)(xs:List (List AV))(i j:Nat):jV (.load none) [.fp xs i j] h (λ_=>true) K1=rj (xs[i]?.bind λcs=>cs[j]?) K1:=by unfold jV;rw[uy,uy];cases hx:(xs[i]?.bind λcs=>cs[j]?)<;>rfl
@[simp] theorem acw(h:T AB)(m:Nat)(xs:List (List AV))(i j:Nat):jV (.load (some m)) [.fp xs i j] h (λ_=>true) K1=xQ (xs[i]?.bind λcs=>cut cs j m) λl=>K1 (.agg l):=by unfold jV;rw[BJ,BJ];cases hx:(xs[i]?.bind λcs=>cut cs j m)<;>rfl
@[simp] theorem acy(st:St)(f:FuncId)(xs:List AV):ak c (.mkFunc f 0) xs st K=K (.func f [] xs) st:=aS c K (λH n=>by simp[av.run,AN,eW]) st
@[simp] theorem nZ(h:T AB)(p:Pos)(o:Nat):jV (.load none) [.ptr p o] h (λ_=>true) K1=rj ((cellsOf (h.get p)).bind λcs=>cs[o]?) K1:=by unfold jV;rw[qH,qH];show(match ((cellsOf (h.get p)).bind λcs=>cs[o]?).map bU.val with|some (.val v)=>_|_=>_)=_;cases((cellsOf (h.get p)).bind λcs=>cs[o]?)<;>rfl
@[simp] theorem BK(h:T AB)(m:Nat)(p:Pos)(o:Nat):jV (.load (some m)) [.ptr p o] h (λ_=>true) K1=xQ ((cellsOf (h.get p)).bind λcs=>cut cs o m) λl=>K1 (.agg l):=by unfold jV;rw[oU,oU];show(match (((cellsOf (h.get p)).bind λcs=>cut cs o m).map AV.agg).map bU.val with|some (.val v)=>_|_=>_)=_;cases((cellsOf (h.get p)).bind λcs=>cut cs o m)<;>rfl
theorem run_build(H:Pos->Option AB)(n:Pos)(z:List AV)(ps:List (Nat×Nat))(xs:List AV):av.run H n (.build z ps) xs=((bW z ps xs).map .agg).map .val:=by simp only[av.run,Dd];cases bW z ps xs<;>rfl
@[simp] theorem gX(st:St)(z:List AV)(ps:List (Nat×Nat))(xs:List AV):ak c (.build z ps) xs st K=xQ (bW z ps xs) λl=>K (.agg l) st:=by rw[zK c K (λH n=>run_build H n z ps xs) st];cases bW z ps xs<;>rfl
@[simp] theorem xk(z:List AV)(ps:List (Nat×Nat))(xs:List AV):ey (.build z ps) xs K1=xQ (bW z ps xs) λl=>K1 (.agg l):=by rw[KV K1 (λH n=>run_build H n z ps xs)];cases bW z ps xs<;>rfl
theorem bQ{α:Type}{l:List α}{m:Nat}(h:l.length=m):cut l 0 m=some l:=by
 unfold cut;rw[eW,H5 (by omega)];simp only[Ze4];rw[Zf8 (by omega)]
end
end Go.Ai
namespace Go.Ai
open Go
def Wf(st:St):Prop:=∀p x,st.heap.get p=some x->p.toNat<st.next.toNat
theorem c9(st:St)(b:AB):(af st b).next=st.next.succ:=id rfl
@[simp] theorem bR{st:St}{b:AB}(h:Wf st):Wf (af st b):=λp x hp=>by
  rw[c9,Pos.ax];by_cases e:st.next=p
  .subst e;omega
  .have:=h p x (by rwa [af,T.bn _ e]at hp);omega
@[simp] theorem aD(st:St)(b:AB):(af st b).heap.get st.next=some b:=T.ee _ _ _
theorem oV{st:St}{b:AB}{p:Pos}(h:p.toNat<st.next.toNat):(af st b).heap.get p=st.heap.get p:=by
 rw[af,T.bn _ (by intro e;subst e;omega)]
@[simp] theorem uz{st:St}{a b:AB}:(af (af st a) b).heap.get st.next=some a:=by
  rw[oV (by rw[c9,Pos.ax];omega),aD]
theorem cC{st:St}{b:AB}(h:Wf st):bD st (af st b):=λp x hp=>by rw[oV (h p x hp)];exact hp
theorem aL{st st':St}{v:AV}(hv:Plain v)(hk:bD st st'):tidy st (v,st')=(v,st):=by
 unfold tidy;rw[Za7 ⟨hv,hk⟩]
section
variable{R:Type}(c:ai)(K:AV->St->Option R)
@[simp] theorem oW(x:AV)(st:St):ak c .box [x] st K=K (.ptr st.next 0) (af st (.cells x.cells 0)):=id rfl
@[simp] theorem iW(l:List AV)(st:St):ak c (.alloc l) [] st K=K (.ptr st.next 0) (af st (.cells l 0)):=id rfl
end
theorem T.v8{α:Type}(x y:Option α):∀(p:Pos)(t:T α),T.put x p (T.put y p t)=T.put x p t
 |.h,.e=>rfl
 |.h,.n _ _ _=>rfl
 |.o p,.e=>by simp only[T.put];rw[T.v8 x y p]
 |.o p,.n _ _ _=>by simp only[T.put];rw[T.v8 x y p]
 |.i p,.e=>by simp only[T.put];rw[T.v8 x y p]
 |.i p,.n _ _ _=>by simp only[T.put];rw[T.v8 x y p]
def cm(st:St)(p:Pos)(b:AB):St:={ heap:=st.heap.put (some b) p,next:=st.next }
@[simp] theorem DS(st:St)(p:Pos)(b:AB):(cm st p b).next=st.next:=id rfl
@[simp] theorem dF(st:St)(p:Pos)(b:AB):(cm st p b).heap.get p=some b:=T.ee _ _ _
theorem br{st:St}{p q:Pos}{b:AB}(h:p≠q):(cm st p b).heap.get q=st.heap.get q:=T.bn _ h _
@[simp] theorem Mh(st:St)(a b:AB):cm (af st a) st.next b=af st b:=by
  unfold cm af;simp only[T.v8]
@[simp] theorem abh(st:St)(p:Pos)(a b:AB):cm (cm st p a) p b=cm st p b:=by
  unfold cm;simp only[T.v8]
theorem Pos.Mi(p:Pos):p≠p.succ:=λe=>by have:=congrArg Pos.toNat e;rw[Pos.ax]at this;omega
theorem dG{R:Type}(c:ai)(K:AV->St->Option R)(st:St)(m:Nat)(p:Pos)(o:Nat)(v:AV)(cs:List AV)(h:st.heap.get p=some (.cells cs 0))(h1:v.cells.length=m)(h2:o+m<=cs.length)(h3:aO v.cells=true):
  ak c (.store m) [.ptr p o,v] st K=K .undef (cm st p (.cells (aG cs o v.cells) 0)):=by
 have:av.run (λb=>st.heap.get b) st.next (.store m) [.ptr p o,v]=some (.aC .undef none (some (p,.cells (aG cs o v.cells) 0)) none):=by
  simp[av.run,zi,h,h1,h2,h3,eo,eW]
 unfold ak bS;rw[this];rfl
@[simp] theorem dQ{R:Type}(c:ai)(K:AV->St->Option R)(st:St)(m:Nat)(v:AV)(cs:List AV)(h1:v.cells.length=m)(h2:m=cs.length)(h3:aO v.cells=true):
   ak c (.store m) [.ptr st.next 0,v] (af st (.cells cs 0)) K=K .undef (af st (.cells v.cells 0)):=by
  rw[dG c K _ m st.next 0 v cs (aD _ _) h1 (by omega) h3,Mh];have:aG cs 0 v.cells=v.cells:=by unfold aG;rw[h1,h2];simp
  rw[this]
theorem acV{R:Type}(n:Option Nat)(p:Pos)(o:Nat)(st:St)(K:AV->Option R):Tc n (.ptr p o) st K=match n with
  |none=>rj ((cellsOf (st.heap.get p)).bind λcs=>cs[o]?) K
  |some m=>xQ ((cellsOf (st.heap.get p)).bind λcs=>cut cs o m) λl=>K (.agg l):=by
 unfold Tc;cases n with
 |none=>rw[qH];simp only;cases((cellsOf (st.heap.get p)).bind λcs=>cs[o]?)<;>rfl
 |some m=>rw[oU];simp only;cases((cellsOf (st.heap.get p)).bind λcs=>cut cs o m)<;>rfl
@[simp] theorem QF{R:Type}(m:Nat)(p:Pos)(o:Nat)(st:St)(K:AV->Option R):Tc (some m) (.ptr p o) st K=xQ ((cellsOf (st.heap.get p)).bind λcs=>cut cs o m) λl=>K (.agg l):=acV (some m) p o st K
@[simp] theorem WV(es:Nat)(z:Bool)(rs:List (List AV)):(ro es z rs).one=true:=by unfold ro;split<;>rfl
@[simp] theorem QG(es:Nat)(z:Bool)(rs:List (List AV)):(ro es z rs).cells=[ro es z rs]:=by unfold ro;split<;>rfl
structure Grew(s s':St):Prop where
 wf:Wf s'
 keeps:bD s s'
 next:s.next.toNat<=s'.next.toNat
theorem Grew.refl{s:St}(h:Wf s):Grew s s:=⟨h,bD.refl s,Za4 _⟩
theorem Grew.trans{a b c:St}(h:Grew a b)(k:Grew b c):Grew a c:=⟨k.wf,h.keeps.trans k.keeps,Zc7 h.next k.next⟩
theorem Grew.af{s:St}(h:Wf s)(b:AB):Grew s (af s b):=⟨bR h,cC h,by rw[c9,Pos.ax];omega⟩
theorem Grew.get{s s':St}(h:Grew s s'){p:Pos}{x:AB}(hp:s.heap.get p=some x):s'.heap.get p=some x:=h.keeps p x hp
end Go.Ai
end
namespace Go.Ai
section
open Go
theorem Cu{st:St}{p:Pos}{b:AB}(h:Wf st)(hp:p.toNat<st.next.toNat):Wf (cm st p b):=λq x hq=>by
 rw[DS];by_cases e:p=q
 .subst e;exact hp
 .rw[br e]at hq;exact h q x hq
def dst(st:St)(p:Pos)(b:AB):St:={ heap:=(st.heap.put none p).put (some b) st.next,next:=st.next.succ }
theorem Zp(st:St)(p:Pos)(b:AB):(dst st p b).next=st.next.succ:=id rfl
theorem Mj(st:St)(p:Pos)(b:AB):(dst st p b).heap.get st.next=some b:=T.ee _ _ _
theorem KZ{st:St}{p q:Pos}{b:AB}(h:p≠q)(h2:q.toNat<st.next.toNat):(dst st p b).heap.get q=st.heap.get q:=by
 rw[dst,T.bn _ (by intro e;subst e;omega),T.bn _ h]
theorem WW{st:St}{p:Pos}{b:AB}(h:Wf st):Wf (dst st p b):=λq x hq=>by
 rw[Zp,Pos.ax];by_cases e:st.next=q
 .subst e;omega
 . rw[dst,T.bn _ e]at hq;by_cases e2:p=q
   .subst e2;rw[T.ee]at hq;cases hq
   .rw[T.bn _ e2]at hq;have:=h q x hq;omega
theorem Ml{s s':St}{v:AV}{b:Pos}{x:AB}(h:s.heap.get b=some x)(h2:s'.heap.get b≠some x):tidy s (v,s')=(v,s'):=by
 unfold tidy;rw[Za5];exact λe=>h2 (e.2 b x h)
section
variable{R:Type}(c:ai)(K:AV->St->Option R)(K1:AV->Option R)
theorem K3(H:Pos->Option AB)(n:Pos)(es len:Nat)(z:List AV)(ps:List Nat)(xs:List AV):av.run H n (.buildSlice es len z ps) xs=(bW (bK z len) (ps.map λi=>(i*es,es)) xs).map λcs=>.aC (.slice n 0 len (some len) es) none none (some (.cells cs 0)):=by simp only[av.run,oD];cases bW (bK z len) (ps.map λi=>(i*es,es)) xs<;>rfl
@[simp] theorem aT(st:St)(es len:Nat)(z:List AV)(ps:List Nat)(xs:List AV):ak c (.buildSlice es len z ps) xs st K=xQ (bW (bK z len) (ps.map λi=>(i*es,es)) xs) λcs=>K (.slice st.next 0 len (some len) es) (af st (.cells cs 0)):=by unfold ak bS;rw[K3];cases bW (bK z len) (ps.map λi=>(i*es,es)) xs<;>rfl
@[simp] theorem uA(st:St)(es len:Nat)(z:List AV)(ps:List Nat)(xs:List AV)(K2:AV->AB->Option R):F0 (.buildSlice es len z ps) xs st K2=xQ (bW (bK z len) (ps.map λi=>(i*es,es)) xs) λcs=>K2 (.slice st.next 0 len (some len) es) (.cells cs 0):=by unfold F0;rw[K3];cases bW (bK z len) (ps.map λi=>(i*es,es)) xs<;>rfl
@[simp] theorem WY(st:St):ak c .mkMap [] st K=K (.map st.next) (af st (.map [] 0)):=id rfl
theorem QH{st:St}{es bytes m:Nat}{x:AV}{new:List AV}(hm:cQ x=some m)(h0:m≠0)(hb:(2*(0+m)+768)*bytes<=281474976710656)(hs:0+m<=9223372036854775807)(hx:bV es m (λb=>st.heap.get b) x=some new):
  ak c (.append es bytes) [.ah,x] st K=K (.slice st.next 0 m none es) (af st (.cells new 0)):=by
 have:av.run (λb=>st.heap.get b) st.next (.append es bytes) [.ah,x]=some (.aC (.slice st.next 0 m none es) none none (some (.cells new 0))):=by
  simp only[av.run,fk];rw[show cQ .ah=some 0 from rfl,hm];simp only[eW,eo,H5 hb,H5 hs,Za2 h0,hx]
 unfold ak bS;rw[this];rfl
theorem abi{st:St}{es bytes m n:Nat}{p:Pos}{x:AV}{cs dw new:List AV}(hm:cQ x=some m)(h0:m≠0)(hb:(2*(n+m)+768)*bytes<=281474976710656)(hs:n+m<=9223372036854775807)(hp:st.heap.get p=some (.cells cs 0))
  (ho:bV es n (λb=>st.heap.get b) (.slice p 0 n none es)=some dw) (hx:bV es m (λb=>st.heap.get b) x=some new) (h1:aO new=true):
  ak c (.append es bytes) [.slice p 0 n none es,x] st K=K (.slice st.next 0 (n+m) none es) (dst st p (.cells (dw++new) 0)):=by
 have:av.run (λb=>st.heap.get b) st.next (.append es bytes) [.slice p 0 n none es,x]=some (.aC (.slice st.next 0 (n+m) none es) (some p) none (some (.cells (dw++new) 0))):=by simp only[av.run,fk];rw[show cQ (.slice p 0 n none es)=some n from rfl,hm];simp only[eW,eo,H5 hb,H5 hs,Za2 h0,hx,hp,ho,h1];simp
 unfold ak bS;rw[this];rfl
theorem WZ{st:St}{es bytes m:Nat}{p:Pos}{x:AV}{new:List AV}(hm:cQ x=some m)(h0:m≠0)(hb:(2*(0+m)+768)*bytes<=281474976710656)(hs:0+m<=9223372036854775807)(hx:bV es m (λb=>st.heap.get b) x=some new):
  ak c (.append es bytes) [.slice p 0 0 (some 0) es,x] st K=K (.slice st.next 0 m none es) (af st (.cells new 0)):=by
 have:av.run (λb=>st.heap.get b) st.next (.append es bytes) [.slice p 0 0 (some 0) es,x]=some (.aC (.slice st.next 0 m none es) none none (some (.cells new 0))):=by
  have h2:¬(0+m<=0):=by omega
  have ho:bV es 0 (λb=>st.heap.get b) (.slice p 0 0 (some 0) es)=some []:=by simp[bV]
  simp only[av.run,fk];rw[show cQ (.slice p 0 0 (some 0) es)=some 0 from rfl,hm];simp only[eW,eo,H5 hb,H5 hs,Za2 h0,Za2 h2,hx,ho];simp only[Zc3,Zf9]
 unfold ak bS;rw[this];rfl
theorem QI{st:St}{es bytes:Nat}{p:Pos}{off n:Nat}{cp:Option Nat}{x:AV}(hm:cQ x=some 0)(hb:(2*(n+0)+768)*bytes<=281474976710656)(hs:n+0<=9223372036854775807):
  ak c (.append es bytes) [.slice p off n cp es,x] st K=K (.slice p off n cp es) st:=by
 have:av.run (λb=>st.heap.get b) st.next (.append es bytes) [.slice p off n cp es,x]=some (.val (.slice p off n cp es)):=by
  simp only[av.run,fk];rw[show cQ (.slice p off n cp es)=some n from rfl,hm];simp only[eW,eo,H5 hb,H5 hs]
 unfold ak bS;rw[this]
theorem NW(H:Pos->Option AB)(n:Pos)(z:AV)(m:Pos)(es:List (AV×AV×Nat))(cl:Nat)(k:AV)(h:H m=some (.map es cl))(r:Option (Nat×AV))(hf:iE .s k es 0=some r):
  av.run H n (.lookup .s z true) [.map m,k]=some (.val (match r with|some (_,v)=>.tuple [v,.bool true]|none=>.tuple [z,.bool false])):=by
 simp only[av.run,tr,h,hf];cases r with
 |none=>rfl
 |some p=>rfl
theorem Bc(z:AV){st:St}{m:Pos}{es:List (AV×AV×Nat)}{cl:Nat}{k:AV}{r:Option (Nat×AV)}(h:st.heap.get m=some (.map es cl))(hf:iE .s k es 0=some r):
  ak c (.lookup .s z true) [.map m,k] st K=K (match r with|some (_,v)=>.tuple [v,.bool true]|none=>.tuple [z,.bool false]) st:=by
 unfold ak bS;rw[NW _ _ z m es cl k h r hf]
theorem NX(z:AV){h:T AB}{m:Pos}{es:List (AV×AV×Nat)}{cl:Nat}{k:AV}{r:Option (Nat×AV)}(hh:h.get m=some (.map es cl))(hf:iE .s k es 0=some r):
  jV (.lookup .s z true) [.map m,k] h (λ_=>true) K1=K1 (match r with|some (_,v)=>.tuple [v,.bool true]|none=>.tuple [z,.bool false]):=by
 unfold jV;have e:av.run (λ_=>none) .h (.lookup .s z true) [.map m,k]=none:=rfl;rw[e];simp only;rw[NW _ _ z m es cl k hh r hf]
theorem Sq{st:St}{m:Pos}{es:List (AV×AV×Nat)}{cl:Nat}{k:List Nat}{v:AV}(h:st.heap.get m=some (.map es cl))(hf:iE .s (.str k) es 0=some none):
  ak c (.mapSet .s) [.map m,.str k,v] st K=K .undef (cm st m (.map (es++[(.str k,v,cl)]) (cl+1))):=by
 have:av.run (λb=>st.heap.get b) st.next (.mapSet .s) [.map m,.str k,v]=some (.aC .undef none (some (m,.map (es++[(.str k,v,cl)]) (cl+1))) none):=by
  simp[av.run,tu,h,hf,Ug]
 unfold ak bS;rw[this];rfl
theorem v9{p:Pos}{o:Nat}{h h2:T AB}{v:AV}(hv:((cellsOf (h.get p)).bind λcs=>cs[o]?)=some v)(Ce:((cellsOf (h2.get p)).bind λcs=>cs[o]?)=some v)(hb:dJ v v=true):
  jV (.load none) [.ptr p o] h (λv=>kB (.load none) [.ptr p o] v (qy [] h2)&&true) K1=K1 v:=by
 unfold jV;have e:av.run (λ_=>none) .h (.load none) [.ptr p o]=none:=rfl;rw[e];simp only;rw[qH,hv];simp only[Ze2];have:kB (.load none) [.ptr p o] v (qy [] h2)=true:=by unfold kB;show(match av.run (λb=>h2.get b) .h (.load none) [.ptr p o]with|some (.val u)=>dJ u v|_=>false)=true;rw[qH,Ce];exact hb
 rw[this];rfl
end
theorem we{R:Type}(K1:AV->Option R){p:Pos}{o:Nat}{h h2:T AB}{v:AV}(hv:((cellsOf (h.get p)).bind λcs=>cs[o]?)=some v)(Ce:((cellsOf (h2.get p)).bind λcs=>cs[o]?)=some v)(hb:dJ v v=true):
  jV (.load none) [.ptr p o] h (λv=>kB (.load none) [.ptr p o] v (qy [] h2)) K1=K1 v:=by
 have:=v9 K1 hv Ce hb;simp only[Zj9]at this;exact this
theorem Gb(p:Pos)(o n es:Nat):dJ (.slice p o n none es) (.slice p o n none es)=true:=by
 simp[dJ,jT,fI,Pos.beq_eq.2 rfl]
theorem JC:dJ .ah .ah=true:=rfl
inductive gK:Nat->AV->Prop
 |flat {d:Nat} {v:AV} (h:fI v v=true):gK d v
 |fl {d:Nat} {a:List (List AV)} {n:Nat} (h:∀r∈a,∀v∈r,gK d v):gK (d+1) (.fl a n)
theorem K4{f:AV->AV->Bool}:∀{a:List AV},(∀v∈a,f v v=true)->AQ f a a=true
 |[],_=>rfl
 |a::x,h=>by
  simp only[AQ,h a (by simp),K4 (λv hv=>h v (Za6 _ hv)),Zi6]
theorem Gc{f:AV->AV->Bool}:∀{a:List (List AV)},(∀r∈a,∀v∈r,f v v=true)->tD f a a=true
 |[],_=>rfl
 |a::x,h=>by
  simp only[tD,K4 (h a (by simp)),Gc (λv hv=>h v (Za6 _ hv)),Zi6]
theorem K5:∀{d:Nat}{v:AV},gK d v->AR d v v=true
 |d,v,.flat h=>by
  unfold AR;split
  .simp[fI]at h
  .exact h
 |d+1,.fl a n,.fl h=>by
  unfold AR;simp[Gc (λr hr v hv=>K5 (h r hr v hv))]
theorem gK.ro{d es:Nat}{z:Bool}{rs:List (List AV)}(h:∀r∈rs,∀v∈r,gK d v):gK (d+1) (ro es z rs):=by
 unfold Go.Ai.ro;split
 .exact .flat rfl
 .exact .fl h
theorem W0{v:AV}(h:gK 3 v):dJ v v=true:=by
 have h3:=K5 h;cases h with
 |flat h=>
  cases v<;>simp[fI]at h<;>first|simp[dJ,jT,fI,h]|skip
  all_goals simp_all [dJ,jT,fI]
 |fl h=>exact h3
theorem gK.int{d:Nat}(k:IntKind)(n:Int):gK d (.int k n):= .flat (by simp[fI,jB,cq])
theorem gK.str{d:Nat}(s:List Nat):gK d (.str s):= .flat (by simp[fI,jI])
theorem gK.bool{d:Nat}(s:Bool):gK d (.bool s):= .flat (by simp[fI])
end
section
open Go
section
variable{H:Type}(enc:TypeId×Value->H)(P:Program)(w:World)(base:Nat)(spare:Nat->Bool)(held:Bool)
def jX(t:TypeId)(Q:List AV->Prop):Prop:=
 ∀  (fuel:Nat)(cs:List Value)(x:DataW H×List MemPlace),DataW.trod enc P w base spare held fuel t cs=some x->
    ∃as,Q as/\∀ρ n,aq ρ n (λad=>w.cell? ad) as cs
variable{enc P w base spare held}
theorem jX.mono{t:TypeId}{Q Q':List AV->Prop}(h:jX enc P w base spare held t Q)(k:∀as,Q as->Q' as):jX enc P w base spare held t Q':=
 λfuel cs x hx=>by obtain⟨as,h1,h2⟩:=h fuel cs x hx;exact⟨as,k _ h1,h2⟩
theorem Gd{t:TypeId}{k:IntKind}(ht:P.underlying t=some (.int k)):jX enc P w base spare held t λas=>∃i,as=[.int k i]/\(Lit.int k i).wf=true:=
 fun fuel cs x hx=>by
  obtain⟨n,rfl,h⟩:=DataW.trod_int ht hx;exact⟨_,⟨n,rfl,h.2⟩,λρ m=>aq.cons (.int k n) aq.nil⟩
theorem IK {t e:TypeId}{es:Nat}{Q:List AV->Prop}(ht:P.underlying t=some (.slice e))(hc:P.cellsOf e=es)(cW:0<es)(hQ:∀as,Q as->as.length=es)(h:jX enc P w base spare held e Q):
  jX enc P w base spare held t λas=>∃z rs,as=[ro es z rs]/\(∀r∈rs,Q r)/\rs.length<=maxLen:=
 fun fuel cs  x hx=>by
  rcases DataW.trod_slice ht hx with⟨rfl,_⟩|⟨a,len,cap,elems,rest,n,_,rfl,_,hb,hl,hm,hlen,hel,_,_⟩
  .  exact⟨_,⟨true,[],rfl,by simp,by simp⟩,λρ m=>aq.cons .ah aq.nil⟩
  .  have each:∀i,∃r row,i<len->(Q r/\w.cells? base (a.add (i*es)) es=some row/\∀ρ m,aq ρ m (λad=>w.cell? ad) r row):=by
        intro i;by_cases hi:i<len
        . have h1:=hel i hi;rw[H4 (by omega),hc]at h1;cases h2:w.cells? base (a.add (i*es)) es with
          |none=>rw[h2]at h1;cases h1
          | some row=>
            rw[h2]at h1;obtain⟨r,hr,hv⟩:=h n row _ h1;exact⟨r,row,λ_=>⟨hr,rfl,hv⟩⟩
        .exact⟨[],[],λh=>absurd h hi⟩
     obtain⟨r,each⟩:=Classical.axiomOfChoice each;obtain⟨row,hr⟩:=Classical.axiomOfChoice each;have aaP:0<len->a.spot=none:=λh0=>by
        obtain⟨_,h1,_⟩:=hr 0 h0;have:=(World.cells?_some h1).2.2 0 cW;have hl:=(World.cells?_some h1).2.1;rw[H4 (by omega)]at this;simp only[Zo5,Addr.add,Zg8]at this;unfold World.cell? at this;split at this
        . split at this
          .cases this
          .rename_i h;simpa using h
        .cases this
     have acW:((List.range len).map r).length=len:=(by simp);have get:∀(i:Nat)(c:List AV),((List.range len).map r)[i]? =some c->i<len/\c=r i:=λi c hi=>by
        rw[Zc0]at hi;by_cases h:i<len
        .rw[Zl1 h]at hi;simp at hi;exact⟨h,hi.symm⟩
        .rw[Zb7 (by simpa using h)]at hi;cases hi
     refine⟨_,⟨false,(List.range len).map r,rfl,?_,by simp;omega⟩,λρ m=>aq.cons ?_ aq.nil⟩
     .  intro q hq;simp only[Zf3,Zk5]at hq;obtain⟨i,hi,rfl⟩:=hq;exact(hr i hi).1
     .  have key:aj ρ m (λad=>w.cell? ad) (.fl ((List.range len).map r) es) (.slice (some a) ((List.range len).map r).length cap):=by
          refine .fl _ es cap a (λi j=>((row i)[j]?).getD .nilFunc) (by omega) (λh0=>aaP ?_) (λi c hi=> ?_) (λi j c v hi hj=> ?_) (λi j c v hi hj=> ?_)
          .apply Classical.byContradiction;intro h;apply h0;have:len=0:=(by omega);subst this;rfl
          .obtain⟨h1,rfl⟩:=get i c hi;exact hQ _ (hr i h1).1
          . obtain⟨h1,rfl⟩:=get i c hi;obtain⟨q1,q2,q3⟩:=hr i h1;have W4:j<es:=(by rw[<-hQ _ q1];exact(Za0.1 hj).1);have q4:=(World.cells?_some q2).2.2 j W4;have q5:=(World.cells?_some q2).2.1;have hs:=aaP (by omega);have e1:(a.add (i*es)).add j=⟨a.block,a.off+i*es+j,none⟩:=by
              obtain⟨au,off,spot⟩:=a;simp only at hs;subst hs;unfold Addr.add;by_cases e1:i*es=0<;>by_cases e2:j=0<;>simp[e1,e2]
            rw[e1]at q4;show w.cell? _=_;rw[q4,H4 (by omega)];rfl
          .obtain⟨h1,rfl⟩:=get i c hi;obtain⟨q1,q2,q3⟩:=hr i h1;have W4:j<es:=(by rw[<-hQ _ q1];exact(Za0.1 hj).1);have q5:=(World.cells?_some q2).2.1;refine(q3 ρ m).2 j v _ hj ?_;rw[H4 (by omega)];rfl
        rw[acW]at key;exact key
def DT:List (List AV->Prop)->List (List AV)->Prop
 |[],[]=>True
 |Q::Qs,p::ps=>Q p/\DT Qs ps
 |_,_=>False
def Ge(P:Program)(W6:Nat):Nat->List Field->Bool
 |o,[]=>o==W6
 |o,f::fs=>f.offset==o&&Ge P W6 (o+P.cellsOf f.type) fs
def QJ(enc:TypeId×Value->H)(P:Program)(w:World)(base:Nat)(spare:Nat->Bool)(held:Bool):List TypeId->List (List AV->Prop)->Prop
 |[],[]=>True
 |f::fs,Q::Qs=>jX enc P w base spare held f Q/\QJ enc P w base spare held fs Qs
 |_,_=>False
theorem Gf{W6 n:Nat}:∀(fs:List Field)(Qs:List (List AV->Prop))(o:Nat)(cs:List Value),Ge P W6 o fs=true->QJ enc P w base spare held (fs.map (·.type)) Qs->cs.length=W6->
  (∀f∈fs,∃y,DataW.trod enc P w base spare held n f.type ((cs.drop f.offset).take (P.cellsOf f.type))=some y)->
  ∃parts,DT Qs parts/\∀ρ m,aq ρ m (λad=>w.cell? ad) parts.flatten (cs.drop o)
 |[],[],o,cs,hc,_,hl,_=>by simp only[Ge,beq_iff_eq]at hc;refine⟨[],trivial,λρ m=> ?_⟩;rw[List.drop_eq_nil_of_le (by omega)];exact aq.nil
 |f::fs,Q::Qs,o,cs,hc,hO,hl,hf=>by
  simp only[Ge,Za8,beq_iff_eq]at hc;obtain⟨y,hy⟩:=hf f (by simp);obtain⟨as,hq,hv⟩:=hO.1 n _ y hy;obtain⟨parts,hp,Ce⟩:=Gf fs Qs _ cs hc.2 hO.2 hl (λg hg=>hf g (Za6 _ hg));refine⟨as::parts,⟨hq,hp⟩,λρ m=> ?_⟩;have e:cs.drop o=(cs.drop f.offset).take (P.cellsOf f.type)++cs.drop (o+P.cellsOf f.type):=by
   rw[hc.1, <-Zn6,Zk0]
  rw[e,Zf2];exact(hv ρ m).append (Ce ρ m)
def fieldsOf(P:Program)(t:TypeId):List Field:=match P.underlying t with
 |some (.struct fs)=>fs.toList
 |_=>[]
def QK(P:Program)(t:TypeId):Bool:=match P.underlying t with
 |some (.struct _)=>true
 |_=>false
theorem QL{t:TypeId}(ts:List TypeId){Qs:List (List AV->Prop)}(hs:QK P t=true)(cv:(fieldsOf P t).map (·.type)=ts)(hc:Ge P (P.cellsOf t) 0 (fieldsOf P t)=true)(hO:QJ enc P w base spare held ts Qs):
  jX enc P w base spare held t λas=>∃parts,as=parts.flatten/\DT Qs parts:=
 fun fuel cs x hx=>by
  obtain⟨fs,ht⟩:∃fs,P.underlying t=some (.struct fs):=by
     unfold QK at hs;cases h:P.underlying t with
     |none=>rw[h]at hs;cases hs
     |some d=>rw[h]at hs;cases d<;>first|exact⟨_,rfl⟩|cases hs
  have ef:fieldsOf P t=fs.toList:=by unfold fieldsOf;rw[ht]
  rw[ef]at cv hc;subst cv;obtain⟨xs,n,_,_,hl,hxl,hf⟩:=DataW.trod_struct ht hx;obtain⟨parts,hp,hv⟩:=Gf fs.toList Qs 0 cs hc hO hl (λf hf2=>by
     obtain⟨i,hi⟩:=List.getElem?_of_mem hf2;have K7:fs[i]? =some f:=(by rw[<-Zg1];exact hi);have aV:i<fs.size:=(Zc8.1 K7).1;exact⟨xs[i],by rw[hf i f K7,H4 (by omega)]⟩)
  exact⟨_,⟨parts,rfl,hp⟩,λρ m=>hv ρ m⟩
end
def Pj(w w':World):Prop:=w'.os=w.os/\w'.tape=w.tape/\w'.output=w.output/\w.heap.size<=w'.heap.size/\∀k,k<w.heap.size->w'.heap[k]? =w.heap[k]?
def HU:List AV->St->Option (AV×St)
 |[],st=>some (.bool true,st)
 |_,_=>none
theorem NY{P:Program}{C:Cells}{f:FuncId}{fn:Func}{c:Code}(hf:P.funcs[f]? =some fn)(iB:¬fn.name= "runtime.NumGoroutine")(hb:fn.body=some c)
  (h:∀w:World,(∀ad u,C ad=some u->w.cell? ad=some u)->Calls P f #[] w λe w'=>e= .returned (.bool true)/\Pj w w'):kZ P C f HU where
 mono args st v st' hs:=by
  unfold HU at hs;split at hs<;>first|(cases hs;done)|skip
  simp only[H0,Zb2]at hs;rw[<-hs.2];exact Za4 _
 runs ρ st w args v st' bw hs hW hv:=by
  unfold HU at hs;split at hs<;>first|(cases hs;done)|skip
  simp only[H0,Zb2]at hs;obtain⟨rfl,rfl⟩:=hs;obtain rfl:=hv.lC;have bP:(callFunc f ([]:List Value).toArray).run P w= .ok (.enter f #[]) w:=by simp[callFunc,hf,iB,hb]
  rw[bP];refine Calls.mono (h w λad u ha=>(hW.cY ad u ha).1) λe w' he=> ?_
  obtain⟨rfl,h1,h2,h3,h4,h5⟩:=he;exact⟨ρ,.bool true,λ_ _=>rfl,Za4 _,hW.grow h4 h5,⟨h1,h2,h3,h4,λk hk _=>h5 k hk,λb x hb=>.inl ⟨b,x,hb,rfl⟩⟩⟩
theorem Zq{P:Program}{C:Cells}{call:ai}{f:FuncId}{fn:Func}{c:Code}{args:List AV}{bw:List Value}{b:Bool}{n0:Pos}{aK:St}{w:World}
  (eI:ew P C call) (hC:∀ad v,C ad=some v->w.cell? ad=some v) (Wy:∀a v,C a=some v->∀o,C ⟨a.block,o,none⟩=none->w.cell? ⟨a.block,o,none⟩=none) (hf:P.funcs[f]? =some fn) (iB:¬fn.name= "runtime.NumGoroutine") (hb:fn.body=some c)
  (ha:aq (λ_=>⟨0,0,0⟩) n0.toNat C args bw) (h:call f args { heap:= .e,next:=n0 }=some (.bool b,aK)):
  Calls P f bw.toArray w λe w'=>e= .returned (.bool b)/\Pj w w':=by
 have hr:=eI (λ_=>⟨0,0,0⟩) { heap:= .e,next:=n0 } w f args (.bool b) aK bw h (w7 hC Wy) ha;have bP:(callFunc f bw.toArray).run P w= .ok (.enter f bw.toArray) w:=by simp[callFunc,hf,iB,hb]
 rw[bP]at hr;refine Calls.mono hr λe w' he=> ?_
 cases e with
 |returned x=>
  obtain⟨ρ',h1,_,_,_,hE⟩:=he;have:=h1.fM;subst this;exact⟨rfl,hE.os,hE.tape,hE.output,hE.size,λk hk=>hE.block k hk λb x hb=>by rw[T.cZ]at hb;cases hb⟩
 |panicked c=>exact he.elim
 |outgrown=>exact he.elim
end
section
open Go Go.ChangeShapes Go.WideShapes Go.ChangeAt Go.RowKit
theorem Pj.below{w w':World}(h:Pj w w'):Below w.heap.size w w':=⟨h.1,h.2.1,h.2.2.1,h.2.2.2.1,h.2.2.2.2⟩
section
variable{H:Type}{enc:TypeId×Value->H}{P:Program}
theorem ES{W W':World}(hl:laidOutB P=true)(hb:Below W.heap.size W W'):∀{ts:List TypeId}{vs:List Value}{ds:List (DataW H)}{p:List MemPlace},
  DataW.TrodAll enc P W 0 (λ_=>true) true ts vs ds p->(∀t∈ts,P.readableRec t=true/\t<P.types.size)->(∀x∈p,x.block<W.heap.size)->
  DataW.TrodAll enc P W' 0 (λb=>decide (b<W.heap.size)) true ts vs ds p
 |[],_,_,_,h,_,_=>by obtain⟨rfl,rfl,rfl⟩:=trodAll_nil h;exact trodAll_mk0
 |t::ts,_,_,_,h,hr,hx=>by
  obtain⟨v,vs1,d,ds1,a,b,rfl,rfl,rfl,h1,h2⟩:=trodAll_cons h
  exact trodAll_cons_mk (Below.trod hl (hr t (by simp)).1 (hr t (by simp)).2 h1 hb (λx SP=>hx x (Zg4 _ SP)))
   (ES hl hb h2 (λt ht=>hr t (Za6 _ ht)) (λx SP=>hx x (Zi1 _ SP)))
theorem W7{f:Func}{s:ChangeSpec}{W W':World}{args:Array Value}{ds gs:List (DataW H)}{before:List MemPlace}{tb:TypeId}(hl:laidOutB P=true)
   (hW:DataW.Whole enc P f.params.toList s.vars false W args.toList ds gs before) (hv:s.vars=[]) (yh:s.fn H (ds++gs)={ results:=[.lit (.bool true)],args:=ds })
   (hr:∀t∈f.params.toList,P.readableRec t=true/\t<P.types.size) (hB:Below W.heap.size W W') (Zr:f.resultTypes= #[tb]) (htb:P.underlying tb=some .bool):
   s.post enc P f false true false false W args (.bool true) W':=by
 have aV:=hW.lt;have dY:=hW;obtain⟨p,q,hA,hV,rfl,VT,ER⟩:=hW;have hq:q=[]:=by
   rw[hv]at hV;cases gs with
   |nil=>exact hV
   |cons g gs=>exact hV.elim
 subst hq;refine⟨ds,gs,p++[],[],p,[],dY,?_,?_,?_,hB.frame _,λh=>by cases h⟩
 .rw[yh,Zr];exact trodAll_cons_mk (shut_bool htb _) trodAll_mk0
 .rw[yh];exact ES hl hB hA hr (λx hx=>aV x (Zg4 _ hx))
 .rw[yh,hv];rfl
end
section
variable{H:Type}{enc:TypeId×Value->H}{P:Program}{w:World}{base:Nat}{spare:Nat->Bool}{held:Bool}
theorem K8{t:TypeId}{fs:Array Field}{Q:List AV->Prop}{r:Go.Reach}{b0:Nat}{v:Value}{d:DataW H}{p:List MemPlace}(ho:jX enc P w base spare held t Q)(ht:P.underlying t=some (.struct fs))
  (hval:Value.okWide P w r b0 t v) (hd:DataW.Trod enc P w base spare held t v d p):∃as,Q as/\∀ρ n,aj ρ n (λad=>w.cell? ad) (.agg as) v:=by
 obtain⟨cs,rfl,_⟩:=okWide_struct ht hval;obtain⟨fuel,hf⟩:=hd;obtain⟨as,h1,h2⟩:=ho _ _ _ hf;refine⟨as,h1,λρ n=> ?_⟩;have h3:=h2 ρ n;refine .agg as cs (by rw[h3.1];simp[Value.cells]) λi x x' hx lR=>h3.2 i x x' hx ?_
 simpa [Value.cells]using lR
end
end
section
open Go
theorem aj.acX{ρ:Pos->Loc}{n:Nat}{C C':Cells}{v:AV}{x:Value}(hC:∀ad u,C ad=some u->C' ad=some u)(h:aj ρ n C v x):aj ρ n C' v x:=by
 induction h with
 |bool b=>exact .bool b
 |int k i=>exact .int k i
 |str s bs h=>exact .str s bs h
 |gH=>exact .gH
 |ptr b off h=>exact .ptr b off h
 |fp xs i j es au base cell hl hc _ ih=>exact .fp xs i j es au base cell hl (λi j cs v h1 h2=>hC _ _ (hc i j cs v h1 h2)) ih
 |ah=>exact .ah
 |slice b off len cap es aF a hl hc ha hk=>exact .slice b off len cap es aF a hl hc ha hk
 |fl xs es aF a cell hl hs cW hc _ ih=>exact .fl xs es aF a cell hl hs cW (λi j cs v h1 h2=>hC _ _ (hc i j cs v h1 h2)) ih
 |mR=>exact .mR
 |map b h=>exact .map b h
 |func f x y x' y' hx hy _ _ VQ VR=>exact .func f x y x' y' hx hy VQ VR
 |iC=>exact .iC
 |sN=>exact .sN
 |iface t v x _ ih=>exact .iface t v x ih
 |agg l cs hl _ ih=>exact .agg l cs hl ih
 |tuple l cs hl _ ih=>exact .tuple l cs hl ih
def iI(ρ:Pos->Loc)(n:Nat)(C:Cells)(w:World)(v u:AV):Prop:=∀x,aj ρ n C v x->aj ρ n (λad=>w.cell? ad) u x
section
variable{ρ:Pos->Loc}{C:Cells}{st:St}{w:World}
theorem iI.self{n:Nat}(hC:∀ad u,C ad=some u->w.cell? ad=some u)(v:AV):iI ρ n C w v v:=λ_ h=>h.acX hC
theorem iI.agg{n:Nat}{l l':List AV}(hl:l.length=l'.length)(h:∀(i:Nat)(v u:AV),l[i]? =some v->l'[i]? =some u->iI ρ n C w v u):iI ρ n C w (.agg l) (.agg l'):=λx hx=>by
 cases hx with
 |agg _ cs h1 h2=>
  refine .agg l' cs (by omega) λi u x hu hx=> ?_
  have hi:i<l.length:=by rw[hl];exact(Za0.1 hu).1
  exact h i l[i] u (H4 hi) hu _ (h2 i _ x (H4 hi) hx)
theorem iI.slice(hW:aU ρ C st w){b:Pos}{off len es fz:Nat}{cap:Option Nat}{cs:List AV}(hb:st.heap.get b=some (.cells cs fz))(hlen:off+len*es<=cs.length){F:List (List AV)}(hF:F.length=len)
  (cW:∀(i:Nat)(r:List AV),F[i]? =some r->r.length=es)
  (hr:∀(i j:Nat)(r:List AV)(u v:AV),F[i]? =some r->r[j]? =some u->cs[off+i*es+j]? =some v->iI ρ st.next.toNat C w v u):
  iI ρ st.next.toNat C w (.slice b off len cap es) (.fl F es):=λx hx=>by
 cases hx with
 |slice  _ _ _ _ _ aF a hl hc ha hk=>
  have get:∀(i j:Nat)(r:List AV)(u:AV),F[i]? =some r->r[j]? =some u->i<len/\j<es/\off+i*es+j<cs.length/\0<aF:=λi j r u h1 h2=>by
   have g1:i<len:=(by rw[<-hF];exact(Za0.1 h1).1);have g2:j<es:=(by rw[<-cW i r h1];exact(Za0.1 h2).1);have g3:(i+1)*es<=len*es:=Zf5 _ g1;rw[Zh0]at g3;exact⟨g1,g2,by omega,by omega⟩
  have cell:∀(i j:Nat)(r:List AV)(u:AV),F[i]? =some r->r[j]? =some u->∃v y,cs[off+i*es+j]? =some v/\w.cell? ⟨a.block,a.off+i*es+j,none⟩=some y/\aj ρ st.next.toNat C v y:=λi j r u h1 h2=>by
   obtain⟨g1,g2,g3,g4⟩:=get i j r u h1 h2;obtain⟨_,rfl,_⟩:=ha (by omega);have hv:=H4 g3;obtain⟨y,q1,q2⟩:=hW.cell hb hv;exact⟨_,y,hv,by rw[show(ρ b).base+off+i*es+j=(ρ b).base+(off+i*es+j)by omega];exact q1,q2⟩
  have key:aj ρ st.next.toNat (λad=>w.cell? ad) (.fl F es) (.slice (some a) F.length aF):=by
   refine .fl F es aF a (λi j=>(w.cell? ⟨a.block,a.off+i*es+j,none⟩).getD .nilFunc) (by omega) (λh0=> ?_) cW (λi j r u h1 h2=> ?_) (λi j r u h1 h2=> ?_)
   .    cases acY:len with
        |zero=>exfalso;apply h0;rw[acY]at hF;exact List.length_eq_zero_iff.1 hF
        |succ m=>
         obtain⟨_,rfl,_⟩:=ha (by omega);rfl
   .    obtain⟨v,y,_,q2,_⟩:=cell i j r u h1 h2;show w.cell? _=_;rw[q2];rfl
   .    obtain⟨v,y,q1,q2,q3⟩:=cell i j r u h1 h2;rw[q2];exact hr i j r u v h1 h2 q1 y q3
  rw[hF]at key;exact key
end
def cX (st:St):Nat->AV->AV
 |0,v=>v
 |  d+  1,.slice b off len cap es=>match decide (len=0)with
    |true=>.fl [] es
    |false=>match st.heap.get b with
     |  some (.cells cs _)=>match decide (off+len*es<=cs.length)with
        |true=>.fl ((List.range len).map λi=>((cs.drop (off+i*es)).take es).map (cX st d)) es
        |false=>.slice b off len cap es
     |_=>.slice b off len cap es
 |  d+1,.ptr b off=>match st.heap.get b with
    |some (.cells cs _)=>.fp [cs.map (cX st d)] 0 off
    |_=>.ptr b off
 |d+1,.agg l=>.agg (l.map (cX st d))
 |d+1,.func f x y=>.func f (x.map (cX st d)) (y.map (cX st d))
 |_,v=>v
theorem NZ(st:St)(d:Nat)(b:Pos)(off len:Nat)(cap:Option Nat)(es:Nat):cX st (d+1) (.slice b off len cap es)=match decide (len=0)with
 |true=>.fl [] es
 |false=>match st.heap.get b with
  |     some (.cells cs _)=>match decide (off+len*es<=cs.length)with
        |true=>.fl ((List.range len).map λi=>((cs.drop (off+i*es)).take es).map (cX st d)) es
        |false=>.slice b off len cap es
  |_=>.slice b off len cap es:=rfl
theorem abj(st:St)(d:Nat)(b:Pos)(off:Nat):cX st (d+1) (.ptr b off)=match st.heap.get b with
 |some (.cells cs _)=>.fp [cs.map (cX st d)] 0 off
 |_=>.ptr b off:=rfl
theorem Tm(st:St)(d:Nat)(l:List AV):cX st (d+1) (.agg l)= .agg (l.map (cX st d)):=rfl
theorem Zs(st:St)(d:Nat)(f:FuncId)(x y:List AV):cX st (d+1) (.func f x y)= .func f (x.map (cX st d)) (y.map (cX st d)):=rfl
section
variable{ρ:Pos->Loc}{C:Cells}{st:St}{w:World}
theorem iI.ptr(hW:aU ρ C st w){b:Pos}{off fz:Nat}{cs F:List AV}(hb:st.heap.get b=some (.cells cs fz))(hF:F.length=cs.length)
  (hr:∀(j:Nat)(u v:AV),F[j]? =some u->cs[j]? =some v->iI ρ st.next.toNat C w v u):iI ρ st.next.toNat C w (.ptr b off) (.fp [F] 0 off):=λx hx=>by
 cases hx with
 |ptr   _ _ h=>
  have row:∀(i j:Nat)(r:List AV)(u:AV),[F][i]? =some r->r[j]? =some u->i=0/\∃v y,cs[j]? =some v/\w.cell? ⟨(ρ b).au,(ρ b).base+j,none⟩=some y/\aj ρ st.next.toNat C v y/\F[j]? =some u:=λi j r u h1 h2=>by
   have hi:i=0:=(by have:=(Za0.1 h1).1;simp at this;exact this);subst hi;simp at h1;subst h1;have hj:j<cs.length:=(by rw[<-hF];exact(Za0.1 h2).1);obtain⟨y,q1,q2⟩:=hW.cell hb (H4 hj);exact⟨rfl,_,y,H4 hj,q1,q2,h2⟩
  have key:aj ρ st.next.toNat (λad=>w.cell? ad) (.fp [F] 0 off) (.pointer (some ⟨(ρ b).au,(ρ b).base+0*cs.length+off,none⟩)):=by
   refine .fp [F] 0 off cs.length (ρ b).au (ρ b).base (λ_ j=>(w.cell? ⟨(ρ b).au,(ρ b).base+j,none⟩).getD .nilFunc) (λi r h1=> ?_) (λi j r u h1 h2=> ?_) (λi j r u h1 h2=> ?_)
   .    have hi:i=0:=(by have:=(Za0.1 h1).1;simp at this;exact this);subst hi;simp at h1;subst h1;exact hF
   .    obtain⟨rfl,v,y,_,q2,_⟩:=row i j r u h1 h2;show w.cell? _=_;rw[show(ρ b).base+0*cs.length+j=(ρ b).base+j by omega,q2];rfl
   .    obtain⟨rfl,v,y,q1,q2,q3,q4⟩:=row i j r u h1 h2;rw[q2];exact hr j u v q4 q1 y q3
  rw[show(ρ b).base+0*cs.length+off=(ρ b).base+off by omega]at key;exact key
theorem iI.cX (hW:aU ρ C st w):∀(d:Nat)(v:AV),iI ρ st.next.toNat C w v (cX st d v)
 |0,v=>iI.self (λad u h=>(hW.cY ad u h).1) v
 |d+    1,v=>   by
  have self:=iI.self (ρ:=ρ) (n:=st.next.toNat) (λad u h=>(hW.cY ad u h).1) v;cases v with
  |slice    b off len cap es=>
   rw[NZ];split
   .    rename_i h0;obtain rfl:=Zg2 h0;intro x hx;cases hx with
        | slice _ _ _ _ _ aF a hl hc ha hk=>
          exact .fl [] es aF a (λ_ _=>.nilFunc) (Zk2 _) (λh=>absurd rfl h) (λi c h=>by simp at h) (λi j c v h=>by simp at h) (λi j c v h=>by simp at h)
   split
   .    rename_i cs fz hb;split
        . rename_i hle;have hle:=Zg2 hle;refine iI.slice hW hb hle (by simp) (λi r hi=> ?_) (λi j r u v hi hj hv=> ?_)
          . rw[Zc0]at hi;by_cases h:i<len
            .rw[Zl1 h]at hi;simp only[Ze2,H0]at hi;subst hi;have g3:(i+1)*es<=len*es:=Zf5 _ h;rw[Zh0]at g3;simp;omega
            .rw[Zb7 (by simpa using h)]at hi;cases hi
          . rw[ Zc0]at hi;by_cases h:i<len
            . rw[Zl1 h]at hi;simp only[Ze2,H0]at hi;subst hi;rw[Zc0,Zb8]at hj;split at hj
              .rw[Zc4,hv]at hj;simp only[Ze2,H0]at hj;subst hj;exact iI.cX hW d v
              .cases hj
            .rw[Zb7 (by simpa using h)]at hi;cases hi
        .exact self
   .    exact self
  |ptr b off=>
   rw[abj];split
   .    rename_i cs fz hb;refine iI.ptr hW hb (by simp) (λj u v hu hv=> ?_);rw[Zc0,hv]at hu;simp only[Ze2,H0]at hu;subst hu;exact iI.cX hW d v
   .    exact self
  |agg l=>
   rw[Tm];refine iI.agg (by simp) (λi v u h1 h2=> ?_);rw[Zc0,h1]at h2;simp only[Ze2,H0]at h2;subst h2;exact iI.cX hW d v
  |func f x y=>
   rw[Zs];intro v' hv;cases hv with
   |    func _ _ _ x' y' hx hy h1 h2=>
        have one:∀(l:List AV)(xs:Array Value),(∀(i:Nat)(v:AV)(v':Value),l[i]? =some v->xs[i]? =some v'->aj ρ st.next.toNat C v v')->∀(i:Nat)(v:AV)(v':Value),(l.map (Go.Ai.cX st d))[i]? =some v->xs[i]? =some v'->aj ρ st.next.toNat (λad=>w.cell? ad) v v':=λl xs h i u v' hu hx=>by
          rw[Zc0]at hu;cases hg:l[i]? with
          |none=>rw[hg]at hu;cases hu
          | some v0=>
            rw[hg]at hu;simp only[Ze2,H0]at hu;subst hu;exact iI.cX hW d v0 _ (h i v0 v' hg hx)
        exact .func f _ _ x' y' (by simpa using hx) (by simpa using hy) (one x x' h1) (one y y' h2)
  |_=>exact self
theorem aq.cX(hW:aU ρ C st w)(d:Nat){l:List AV}{xs:List Value}(h:aq ρ st.next.toNat C l xs):aq ρ st.next.toNat (λad=>w.cell? ad) (l.map (Go.Ai.cX st d)) xs:=
 ⟨by rw[<-h.1];simp,λi u x hu hx=>by
  rw[Zc0]at hu;cases hv:l[i]? with
  |none=>rw[hv]at hu;cases hu
  |  some v=>
     rw[hv]at hu;simp only[Ze2,H0]at hu;subst hu;exact iI.cX hW d v _ (h.2 i v x hv hx)⟩
end
def mW(v:AV):Prop:=∀(ρ:Pos->Loc)(n:Nat)(C C':Cells)(x:Value),aj ρ n C v x->aj ρ n C' v x
theorem mW.bool(b:Bool):mW (.bool b):=λ_ _ _ _ _ h=>by cases h;exact .bool b
theorem mW.int(k:IntKind)(i:Int):mW (.int k i):=λ_ _ _ _ _ h=>by cases h;exact .int k i
theorem mW.tuple{l:List AV}(hl:∀v∈l,mW v):mW (.tuple l):=λ_ _ _ _ _ h=>by
 cases h with|tuple _ cs hx h1=>exact .tuple l cs hx λi v x hv hx=>hl v (Zb5 hv) _ _ _ _ _ (h1 i v x hv hx)
def K9:AB->Prop
 |.cells cs _=>∀v∈cs,mW v
 |.map es _=>∀e∈es,mW e.1/\mW e.2.1
 |.iD _ _=>True
 |.typed _ cs=>∀v∈cs,mW v
theorem K9.rel{x:AB}(h:K9 x){ρ:Pos->Loc}{n:Nat}{C C':Cells}{L:Loc}{w:World}(k:kG ρ n C L w x):kG ρ n C' L w x:=by
 cases x with
 |cells cs fz=>
  obtain⟨c,e,fr,h1,h2,h3,h4,h5⟩:=k;exact⟨c,e,fr,h1,h2,h3,⟨h4.1,λi v x hv hx=>h v (Zb5 hv) _ _ _ _ _ (h4.2 i v x hv hx)⟩,h5⟩
 |map es clock=>
  obtain⟨es',h1,h2,h3⟩:=k;exact⟨es',h1,h2,λi e e' he jE=>let⟨a,b,c⟩:=h3 i e e' he jE;⟨(h e (Zb5 he)).1 _ _ _ _ _ a,(h e (Zb5 he)).2 _ _ _ _ _ b,c⟩⟩
 |iD s pos=>exact k
 |typed t cs=>
  obtain⟨c,fr,h1,h2,h3,h4,h5⟩:=k;exact⟨c,fr,h1,h2,h3,⟨h4.1,λi v x hv hx=>h v (Zb5 hv) _ _ _ _ _ (h4.2 i v x hv hx)⟩,h5⟩
def T.both{α:Type}:T α->T α->T α
 |t,.e=>t
 |.e,t=>t
 |.n l v r,.n l' v' r'=>.n (T.both l l') (v.or v') (T.both r r')
theorem T.W9{α:Type}(t:T α):T.both t .e=t:=by cases t<;>rfl
theorem T.JD{α:Type}:∀(p:Pos)(t t':T α),(T.both t t').get p=(t.get p).or (t'.get p)
 |p,t,.e=>by rw[T.W9,T.cZ];simp
 |p,.e,.n l v r=>by rw[T.cZ];rfl
 |.h,.n l v r,.n l' v' r'=>rfl
 |.o p,.n l v r,.n l' v' r'=>T.JD p l l'
 |.i p,.n l v r,.n l' v' r'=>T.JD p r r'
def T.keep{α:Type}(P:α->Bool):T α->T α
 |.e=>.e
 |.n l v r=>.n (T.keep P l) (v.filter P) (T.keep P r)
theorem T.JE{α:Type}(P:α->Bool):∀(p:Pos)(t:T α),(T.keep P t).get p=(t.get p).filter P
 |p,.e=>by rw[T.keep,T.cZ];rfl
 |.h,.n l v r=>rfl
 |.o p,.n l v r=>T.JE P p l
 |.i p,.n l v r=>T.JE P p r
open Classical in
noncomputable def HV(t:T AB):T AB:=T.keep (λx=>decide (K9 x)) t
theorem Xa{t:T AB}{p:Pos}{x:AB}(h:(HV t).get p=some x):t.get p=some x/\K9 x:=by
 unfold HV at h;rw[T.JE]at h;cases hg:t.get p with
 |none=>rw[hg]at h;cases h
 |some y=>
  rw[hg]at h;simp only[Option.filter]at h;split at h
  .rename_i hb;cases h;exact⟨rfl,@Zg2 _ (Classical.propDecidable _) hb⟩
  .cases h
theorem abk:HV .e= .e:=rfl
def Shut(n0:Pos)(r:AV×St):Prop:=mW r.1/\n0.toNat<=r.2.next.toNat
open Classical in
noncomputable def Gg(call:ai)(f:FuncId)(d:Nat):List AV->St->Option (AV×St):=λargs st=>
 match call f (args.map (cX st d)) { heap:= .e,next:=st.next }with
 |some (v,aK)=>if Shut st.next (v,aK)then some (v,{ heap:=T.both st.heap (HV aK.heap),next:=aK.next })else none
 |none=>none
theorem abl{call:ai}{f:FuncId}{d:Nat}{args:List AV}{st:St}{v:AV}{aK:St}(h:call f (args.map (cX st d)) { heap:= .e,next:=st.next }=some (v,aK))(hs:Shut st.next (v,aK)):
  Gg call f d args st=some (v,{ heap:=T.both st.heap (HV aK.heap),next:=aK.next }):=by
 unfold Gg;rw[h];simp only;rw[Za7 hs]
theorem Zt{call:ai}{f:FuncId}{d:Nat}{args:List AV}{st:St}{v:AV}(h:call f (args.map (cX st d)) { heap:= .e,next:=st.next }=some (v,{ heap:= .e,next:=st.next }))(hs:mW v):
  Gg call f d args st=some (v,st):=by
 rw[abl h ⟨hs,Za4 _⟩];simp only[abk,T.W9]
theorem zL {P :Program}{C:Cells}{f:FuncId}{call:ai}{d:Nat}(bE:∀C':Cells,(∀ad u,C ad=some u->C' ad=some u)->ew P C' call):kZ P C f (Gg call f d) where
 mono args st v st' h:=by
  unfold Gg at h;split at h
  . split at h
    .   rename_i hs;simp only[H0,Zb2]at h;rw[<-h.2];exact hs.2
    .   cases h
  .cases h
 runs ρ st  w args v st' bw h hW hv:=by
  unfold Gg at h;split at h
  . rename_i v1 aK hc;split at h
    .   rename_i hs;simp only[H0,Zb2]at h;obtain⟨rfl,rfl⟩:=h;obtain⟨s1,s3⟩:=hs;have hr:=bE (λad=>w.cell? ad) (λad u ha=>(hW.cY ad u ha).1) ρ { heap:= .e,next:=st.next } w f _ v1 aK bw hc (w7 (λad u ha=>ha) λa u _ o ho=>ho) (aq.cX hW d hv);refine Reaches.mono (λx w' he=> ?_) hr
        . obtain⟨ρ',h1,h2,h3,h4,hE⟩:=he;have un:∀k,k<w.heap.size->w'.heap[k]? =w.heap[k]? :=λk hk=>hE.block k hk λb x hb=>by rw[T.cZ]at hb;cases hb
          have new:∀b x,aK.heap.get b=some x->w.heap.size<=(ρ' b).au:=λb x hx=>by
            rcases hE.mj b x hx with⟨b',x',gQ,_⟩|hh
            .rw[T.cZ]at gQ;cases gQ
            .exact hh
          have both:∀b x,(T.both st.heap (HV aK.heap)).get b=some x->(st.heap.get b=some x/\ρ' b=ρ b)\/(aK.heap.get b=some x/\K9 x):=λb x hx=>by
            rw[T.JD]at hx;cases hg:st.heap.get b with
            |none=>rw[hg]at hx;exact .inr (Xa (by simpa using hx))
            |some y=>rw[hg]at hx;simp at hx;subst hx;exact .inl ⟨rfl,h2 b (hW.live b y hg).1⟩
          refine⟨ρ',s1 _ _ _ _ _ h1,h2,s3,⟨λb x hx=> ?_,λb b' x x' hx lR Ks=> ?_,λa u ha=> ?_,λa u ha o ho=> ?_⟩,⟨hE.os,hE.tape,hE.output,hE.size,λk hk _=>un k hk,λb x hx=> ?_⟩⟩
          . rcases both b x hx with⟨hg,aQ⟩|⟨hg,Pk⟩
            .obtain⟨l1,l2,l3⟩:=hW.live b x hg;refine⟨Zc5 l1 s3,by rw[aQ];exact Zc5 l2 hE.size,?_⟩;rw[aQ];exact(l3.of_heap (un _ l2)).mono h2 s3
            .obtain⟨l1,l2,l3⟩:=h4.live b x hg;exact⟨l1,l2,Pk.rel l3⟩
          . rcases both b x hx with⟨hg,aQ⟩|⟨hg,Pk⟩
            . rcases both b' x' lR with⟨wX,vZ⟩|⟨wX,_⟩
              .rw[aQ,vZ]at Ks;exact hW.inj b b' x x' hg wX Ks
              .have q1:=(hW.live b x hg).2.1;have q2:=new b' x' wX;rw[aQ]at Ks;omega
            . rcases both b' x' lR with⟨wX,vZ⟩|⟨wX,_⟩
              .have q1:=(hW.live b' x' wX).2.1;have q2:=new b x hg;rw[vZ]at Ks;omega
              .exact h4.inj b b' x x' hg wX Ks
          . obtain⟨c1,c2⟩:=hW.cY a u ha;have aV:a.block<w.heap.size:=World.block_lt_of_cell? _ _ c1;refine⟨(h4.cY a u c1).1,λb x hx=> ?_⟩;rcases both b x hx with⟨hg,aQ⟩|⟨hg,Pk⟩
            .rw[aQ];exact c2 b x hg
            .have:=new b x hg;omega
          .have aV:a.block<w.heap.size:=World.block_lt_of_cell? _ _ (hW.cY a u ha).1;rw[World.cell?_of_block (w:=w) (a:=⟨a.block,o,none⟩) (un _ aV)];exact hW.whole a u ha o ho
          . rcases both b x hx with⟨hg,aQ⟩|⟨hg,Pk⟩
            .exact .inl ⟨b,x,hg,by rw[aQ]⟩
            .exact .inr (new b x hg)
    .   cases h
  .cases h
theorem HW(H:Pos->Option AB)(n:Pos)(k k':IntKind)(a b:Int):av.run H n .minB [.int k a,.int k' b]=some (.val (.int k (min a b))):=by
 show some (bU.val (.int k (match ue b a with|true=>b|false=>a)))=_;rw[dz];by_cases h:b<a
 .rw[H5 h];simp only;rw[Int.min_eq_right (by omega)]
 .rw[Za2 h];simp only;rw[Int.min_eq_left (by omega)]
theorem Tn(H:Pos->Option AB)(n:Pos)(k k':IntKind)(a b:Int):av.run H n .maxB [.int k a,.int k' b]=some (.val (.int k (max a b))):=by
 show some (bU.val (.int k (match ue a b with|true=>b|false=>a)))=_;rw[dz];by_cases h:a<b
 .rw[H5 h];simp only;rw[Int.max_eq_right (by omega)]
 .rw[Za2 h];simp only;rw[Int.max_eq_left (by omega)]
theorem abm(H:Pos->Option AB)(n:Pos)(q:eO)(k:IntKind)(a b:Int)(hb:b≠0):av.run H n (.bin .quo q) [.int k a,.int k b]=some (.val (.int k (ay k (a.tdiv b)))):=by
 simp[av.run,fX,k9,cq,jC,hb]
theorem abn(H:Pos->Option AB)(n:Pos)(q:eO)(k:IntKind)(a b:Int)(hb:b≠0):av.run H n (.bin .rem q) [.int k a,.int k b]=some (.val (.int k (a.tmod b))):=by
 simp[av.run,fX,k9,cq,jC,hb]
section
variable{R:Type}(c:ai)(K:AV->St->Option R)(st:St)
@[simp] theorem To(k k':IntKind)(a b:Int):ak c .minB [.int k a,.int k' b] st K=K (.int k (min a b)) st:=aS c K (λH n=>HW H n k k' a b) st
theorem abo(q:eO)(k:IntKind)(a b:Int)(hb:b≠0):ak c (.bin .quo q) [.int k a,.int k b] st K=K (.int k (ay k (a.tdiv b))) st:=aS c K (λH n=>abm H n q k a b hb) st
theorem Tq(q:eO)(k:IntKind)(a b:Int)(hb:b≠0):ak c (.bin .rem q) [.int k a,.int k b] st K=K (.int k (a.tmod b)) st:=aS c K (λH n=>abn H n q k a b hb) st
@[simp] theorem jD(q:eO)(k:IntKind)(a:Int):ak c (.bin .quo q) [.int k a,.int k 2] st K=K (.int k (ay k (a.tdiv 2))) st:=abo c K st q k a 2 (by decide)
@[simp] theorem eE(q:eO)(k:IntKind)(a:Int):ak c (.bin .rem q) [.int k a,.int k 2] st K=K (.int k (a.tmod 2)) st:=Tq c K st q k a 2 (by decide)
end
def aZ:AV->Option Pos
 |.slice b _ n cap _=>if cap=some 0/\n=0 then none else some b
 |_=>none
theorem N4{b b':Pos}{off n es:Nat}{cap:Option Nat}(h:aZ (.slice b off n cap es)=some b'):b=b':=by
 simp only[aZ]at h;split at h
 .cases h
 .exact Zg0 h
theorem nG(b:Pos)(off n es:Nat):aZ (.slice b off n none es)=some b:=by simp[aZ]
theorem iX(b:Pos)(off es:Nat):aZ (.slice b off 0 (some 0) es)=none:=by simp[aZ]
def QS(es:Nat)(s:St)(v:AV)(rows:List (List AV)):Prop:=
 (v= .ah/\rows=[])\/(∃b off cap cs,v= .slice b off rows.length cap es/\s.heap.get b=some (.cells cs 0)/\off+rows.length*es<=cs.length/\(cs.drop off).take (rows.length*es)=rows.flatten/\(cap=none\/cap=some rows.length))\/
    (∃b off,v= .slice b off 0 (some 0) es/\rows=[])
theorem QS.nil{es:Nat}{s:St}:QS es s .ah []:= .inl ⟨rfl,rfl⟩
theorem QS.mono{es:Nat}{s s':St}{v:AV}{rows:List (List AV)}(h:QS es s v rows)(hk:∀b x,aZ v=some b->s.heap.get b=some x->s'.heap.get b=some x):QS es s' v rows:=by
 rcases h with⟨rfl,rfl⟩|⟨b,off,cap,cs,rfl,h1,h2,h3,h4⟩|⟨b,off,rfl,rfl⟩
 .exact .inl ⟨rfl,rfl⟩
 . by_cases h0:cap=some 0/\rows.length=0
   .obtain⟨rfl,h0⟩:=h0;refine .inr (.inr ⟨b,off,by rw[h0],Zb0 h0⟩)
   .exact .inr (.inl ⟨b,off,cap,cs,rfl,hk b _ (by simp only[aZ];rw[Za5 h0]) h1,h2,h3,h4⟩)
 .exact .inr (.inr ⟨b,off,rfl,rfl⟩)
theorem QS.len{es:Nat}{s:St}{v:AV}{rows:List (List AV)}(h:QS es s v rows):cQ v=some rows.length:=by rcases h with⟨rfl,rfl⟩|⟨b,off,cap,cs,rfl,_⟩|⟨b,off,rfl,rfl⟩<;>rfl
theorem QS.lt{es:Nat}{s:St}{v:AV}{rows:List (List AV)}(h:QS es s v rows)(hw:Wf s){b:Pos}(hb:aZ v=some b):b.toNat<s.next.toNat:=by
 rcases h with⟨rfl,rfl⟩|⟨b',off,cap,cs,rfl,h1,_⟩|⟨b',off,rfl,rfl⟩
 .cases hb
 .obtain rfl:=N4 hb;exact hw _ _ h1
 .rw[iX]at hb;cases hb
theorem QS.first{es:Nat}{s:St}{v:AV}{rows:List (List AV)}(h:QS es s v rows)(hr:∀r∈rows,r.length=es):bV es rows.length (λb=>s.heap.get b) v=some rows.flatten:=by
 rcases h with⟨rfl,rfl⟩|⟨b,off,cap,cs,rfl,h1,h2,h3,h4⟩|⟨b,off,rfl,rfl⟩
 .rfl
 rotate_left
 .simp[bV,eo]
 . by_cases h0:rows.length*es=0
   .simp only[bV,eo,H5 h0];have:rows.flatten=[]:=(by rw[<-h3,h0];simp);rw[this]
   .simp only[bV,eo,Za2 h0,h1];unfold cut;rw[eW,H5 h2];simp only;rw[h3]
theorem QS.app{R:Type}{c:ai}{es bytes:Nat}{s:St}{v:AV}{rows:List (List AV)}(hw:Wf s)(h:QS es s v rows)(hr:∀r∈rows,r.length=es){q:Pos}{row:List AV}(hq:s.heap.get q=some (.cells row 0))(BC:row.length=es)(h1:aO row=true)
   (cW:es≠0) (hb:(2*(rows.length+1)+768)*bytes<=281474976710656) (hn:rows.length<=4000000):
   ∃ s5,(∀(K:AV->St->Option R),ak c (.append es bytes) [v,.slice q 0 1 (some 1) es] s K=K (.slice s.next 0 (rows.length+1) none es) s5)/\QS es s5 (.slice s.next 0 (rows.length+1) none es) (rows++[row])/\
     Wf s5/\s5.next=s.next.succ/\(∀p,aZ v≠some p->p.toNat<s.next.toNat->s5.heap.get p=s.heap.get p)/\s5.heap.get s.next=some (.cells (rows.flatten++row) 0):=by
 have hx:bV es 1 (λb=>s.heap.get b) (.slice q 0 1 (some 1) es)=some row:=by simp only[bV,eo,Zm8,Za2 cW,hq];exact bQ BC
 have ho:=h.first hr;have hlen:rows.flatten.length=rows.length*es:=by
   clear h ho hn hb;induction rows with
   |nil=>simp
   | cons r rows ih=>
     have:=ih (λx hx=>hr x (Za6 _ hx));have h2:=hr r (by simp);simp only[Zf2,Ze0,Ze6,Zh0];omega
 have new:∀(s5:St),s5.heap.get s.next=some (.cells (rows.flatten++row) 0)->QS es s5 (.slice s.next 0 (rows.length+1) none es) (rows++[row]):=λs5 hs=>by
   refine .inr (.inl ⟨s.next,0,none,rows.flatten++row,by simp,hs,?_,?_,.inl rfl⟩)
   .simp only[Ze0,Ze6,Zl2,Zc3,Zi2,Zm8,hlen,BC];omega
   .simp only[Ze4,List.flatten_append,Zf2,List.flatten_nil,Ze8];refine Zf8 ?_;simp only[Ze0,Ze6,Zl2,Zc3,Zi2,Zm8,hlen,BC];omega
 have Ky:(2*(rows.length+1)+768)*bytes<=281474976710656:=hb;have xp:rows.length+1<=9223372036854775807:=by omega
 rcases h with⟨rfl,rfl⟩|⟨b,off,cap,cs,rfl,g1,g2,g3,g4⟩|⟨b,off,rfl,rfl⟩
 rotate_right
 . have run:av.run (λb=>s.heap.get b) s.next (.append es bytes) [.slice b off 0 (some 0) es,.slice q 0 1 (some 1) es]=some (.aC (.slice s.next 0 (0+1) none es) none none (some (.cells ([]++row) 0))):=(by have h2:¬(0+1<=0):=(by omega);have zw:bV es 0 (λb=>s.heap.get b) (.slice b off 0 (some 0) es)=some []:=(by simp[bV,eo]);simp only[av.run,fk];rw[show cQ (.slice b off 0 (some 0) es)=some 0 from rfl,show cQ (.slice q 0 1 (some 1) es)=some 1 from rfl];have hb3:(2*(0+1)+768)*bytes<=281474976710656:=(by simpa using hb);simp only[eW,eo,H5 hb3,Za2 h2,hx,zw];simp);refine⟨af s (.cells row 0),λK=> ?_,?_,bR hw,rfl,λp _ hp=>oV hp,by simpa using aD s (.cells row 0)⟩
   .unfold ak bS;simp only[Zl2]at run ⊢; rw[run];rfl
   .simpa using new (af s (.cells row 0)) (by simpa using aD s (.cells row 0))
 .refine⟨af s (.cells row 0),λK=>QH c K (m:=1) rfl (by omega) (by simpa using hb) (by omega) hx,?_,bR hw,rfl,λp _ hp=>oV hp,by simpa using aD s (.cells row 0)⟩;simpa using new (af s (.cells row 0)) (by simpa using aD s (.cells row 0))
 . rcases g4 with rfl|rfl
   .have run:av.run (λb=>s.heap.get b) s.next (.append es bytes) [.slice b off rows.length none es,.slice q 0 1 (some 1) es]=some (.aC (.slice s.next 0 (rows.length+1) none es) (some b) none (some (.cells (rows.flatten++row) (0 - off)))):=(by simp only[av.run,fk];rw[show cQ (.slice b off rows.length none es)=some rows.length from rfl,show cQ (.slice q 0 1 (some 1) es)=some 1 from rfl];simp only[eW,eo,H5 Ky,H5 xp,hx,g1,ho,h1];simp);refine⟨dst s b (.cells (rows.flatten++row) 0),λK=> ?_,new _ (Mj _ _ _),WW hw,rfl,λp hp hl=>KZ (λe=>hp (by rw[e,nG])) hl,Mj _ _ _⟩;unfold ak bS;rw[run];simp only[Nat.zero_sub];rfl
   . have h2:¬(rows.length+1<=rows.length):=(by omega);have run:av.run (λb=>s.heap.get b) s.next (.append es bytes) [.slice b off rows.length (some rows.length) es,.slice q 0 1 (some 1) es]=some (.aC (.slice s.next 0 (rows.length+1) none es) none none (some (.cells (rows.flatten++row) 0))):=by
        simp only[av.run,fk];rw[show cQ (.slice b off rows.length (some rows.length) es)=some rows.length from rfl,show cQ (.slice q 0 1 (some 1) es)=some 1 from rfl];simp only[eW,eo,H5 Ky,H5 xp,Za2 h2,hx,ho]
     refine⟨af s (.cells (rows.flatten++row) 0),λK=> ?_,new _ (aD _ _),bR hw,rfl,λp _ hp=>oV hp,aD _ _⟩;unfold ak bS;rw[run];rfl
theorem Tr{R:Type}{c:ai}{es:Nat}{z:List AV}{x:AV}(hz:z.length=es)(hx:x.cells.length=es)(s:St)(K:AV->St->Option R):
  ak c (.buildSlice es 1 z [0]) [x] s K=K (.slice s.next 0 1 (some 1) es) (af s (.cells x.cells 0)):=by
 have:bW (bK z 1) ([0].map λi=>(i*es,es)) [x]=some x.cells:=by
  simp only[Zd4,Zh6,Zo5,bK,Ze8,bW,eo,eW,hx,Zk9,Zc3,hz,Za4];simp only[aG,List.take_zero,Zf9,Zc3];rw[List.drop_of_length_le (by omega),Ze8]
 rw[aT,this];rfl
structure Mk(es:Nat)(s0 s:St)(v:AV)(rows:List (List AV)):Prop where
 pL:Wf s0
 aA:Grew s0 s
 own:QS es s v rows
 new:∀b,aZ v=some b->s0.next.toNat<=b.toNat
 row:∀r∈rows,r.length=es
 cap:∀b off n cp e,v= .slice b off n cp e->cp=none\/(n=0/\cp=some 0)
 tight:∀b,aZ v=some b->s.heap.get b=some (.cells rows.flatten 0)
theorem Mk.start{es:Nat}{s0 s:St}(h0:Wf s0)(hg:Grew s0 s):Mk es s0 s .ah []:=⟨h0,hg,QS.nil,λb h=>(by cases h),λr h=>(by cases h),λb off n cp e h=>(by cases h),λb h=>(by cases h)⟩
theorem Mk.grow{es:Nat}{s0 s s':St}{v:AV}{rows:List (List AV)}(h:Mk es s0 s v rows)(hg:Grew s s'):Mk es s0 s' v rows:=
 ⟨h.pL,h.aA.trans hg,h.own.mono λb x _ hx=>hg.get hx,h.new,h.row,h.cap,λb hb=>hg.get (h.tight b hb)⟩
theorem Mk.push{R:Type}{c:ai}{es bytes:Nat}{s0 s:St}{v:AV}{rows:List (List AV)}(h:Mk es s0 s v rows){z:List AV}{x:AV}(hz:z.length=es)(hx:x.cells.length=es)(h1:aO x.cells=true)(cW:es≠0)
   (hb:(2*(rows.length+1)+768)*bytes<=281474976710656) (hn:rows.length<=4000000):
   ∃ s5 v',(∀(K:AV->St->Option R),ak c (.buildSlice es 1 z [0]) [x] s (λy t=>ak c (.append es bytes) [v,y] t K)=K v' s5)/\Mk es s0 s5 v' (rows++[x.cells])/\
     (∀p b,aZ v≠some p->s.heap.get p=some b->s5.heap.get p=some b)/\∀b,aZ v'=some b->s.next.toNat<=b.toNat:=by
 have hw:=h.aA.wf;have dI:Wf (af s (.cells x.cells 0)):=bR hw;have g1:=Grew.af hw (.cells x.cells 0);obtain⟨s5,a1,a2,a3,a4,a5,a6⟩:=QS.app (R:=R) (c:=c) (bytes:=bytes) dI (h.own.mono λb x _ hx=>g1.get hx) h.row (aD s (.cells x.cells 0)) hx h1 cW hb hn;have keep:∀p b,aZ v≠some p->s.heap.get p=some b->s5.heap.get p=some b:=λp b hp hg=>by have aV:=hw _ _ hg;rw[a5 p hp (by rw[c9,Pos.ax];omega)];exact g1.get hg
 refine⟨s5,_,λK=> ?_,⟨h.pL,⟨a3,λp b hg=> ?_,?_⟩,a2,λb hb=> ?_,λr hr=> ?_,λb off n cp e he=> ?_,λb hb=> ?_⟩,keep,λb hb=> ?_⟩
 .rw[Tr hz hx,a1]
 .have xq:=h.aA.get hg;refine keep p b (λe=> ?_) xq;have:=h.new p e;have:=h.pL p b hg;omega
 .have:=h.aA.next;rw[a4,c9,Pos.ax,Pos.ax];omega
 .rw[nG]at hb;cases hb;have:=h.aA.next;rw[c9,Pos.ax];omega
 . rcases Zd7.1 hr with hr|hr
   .exact h.row r hr
   .simp at hr;subst hr;exact hx
 .cases he;exact .inl rfl
 .rw[nG]at hb;cases hb;rw[a6];simp
 .rw[nG]at hb;cases hb;rw[c9,Pos.ax];omega
theorem pM{b:Pos}{off n es:Nat}(h:Plain (.slice b off n none es)):False:=by
 have h1:aj (λ_=>⟨0,0,off+n*es⟩) (b.toNat+1) (λ_=>none) (.slice b off n none es) (.slice (some ⟨0,0+off,none⟩) n n):=
  .slice b off n none es n _ (Za4 _) (λc hc=>by cases hc) (λ_=>⟨by omega,rfl,by simp⟩) (λ_=>by omega)
 have h2:=h _ (λ_=>⟨0,0,0⟩) _ 0 _ _ h1;cases h2 with
 |slice _ _ _ _ _ _ _ _ _ _ hk=>exact absurd (hk rfl) (by omega)
theorem Mk.tidy{es:Nat}{s s':St}{v:AV}{rows:List (List AV)}(h:Mk es s s' v rows):∃gY,Go.Ai.tidy s (v,s')=(v,gY)/\Mk es s gY v rows:=by
 unfold Go.Ai.tidy;by_cases hp:Plain (v,s').1/\bD s (v,s').2
 . rw[Za7 hp];refine⟨s,rfl,?_⟩;rcases h.own with⟨rfl,rfl⟩|⟨b,off,cap,cs,rfl,_⟩|⟨b,off,rfl,rfl⟩
   .exact Mk.start h.pL (Grew.refl h.pL)
   . rcases h.cap _ _ _ _ _ rfl with rfl|⟨h0,rfl⟩
     .exact(pM hp.1).elim
     .exact⟨h.pL,Grew.refl h.pL,.inr (.inr ⟨b,off,by rw[h0],Zb0 h0⟩),λb hb=>(by rw[h0,iX]at hb;cases hb),h.row,h.cap,λb hb=>(by rw[h0,iX]at hb;cases hb)⟩
   .exact⟨h.pL,Grew.refl h.pL,.inr (.inr ⟨b,off,rfl,rfl⟩),λb hb=>(by rw[iX]at hb;cases hb),h.row,h.cap,λb hb=>(by rw[iX]at hb;cases hb)⟩
 .rw[Za5 hp];exact⟨s',rfl,h⟩
theorem QS.cX{es d:Nat}{s:St}{v:AV}{rows:List (List AV)}(h:QS es s v rows)(hr:∀r∈rows,r.length=es):
   ∃z,Go.Ai.cX s (d+1) v=ro es z (rows.map λr=>r.map (Go.Ai.cX s d)):=by
 rcases h with⟨rfl,rfl⟩|⟨b,off,cap,cs,rfl,h1,h2,h3,h4⟩|⟨b,off,rfl,rfl⟩
 .exact⟨true,rfl⟩
 rotate_left
 .exact⟨false,rfl⟩
 . refine⟨false,?_⟩;by_cases h0:rows.length=0
   .obtain rfl:=Zb0 h0;rfl
   rw[NZ,Za2 h0];simp only;rw[h1];simp only[H5 h2];show AV.fl _ _=AV.fl _ _;congr 1;(refine List.ext_getElem (by simp) λi p1 p2=> ?_);simp only[Zb3,Zo1]at p1;simp only[Zl0,List.getElem_range];congr 1;have key:∀(rows:List (List AV))(i:Nat)(hi:i<rows.length),(∀r∈rows,r.length=es)->((rows.flatten).drop (i*es)).take es=rows[i]:=by
     intro rows;induction rows with
     |nil=>intro i hi;simp at hi
     |  cons r rows ih=>
        intro i hi hr;have hl:=hr r (by simp);cases i with
        |zero=>simp[<-hl]
        |succ i=>
         have:=ih i (by simpa using hi) (λx hx=>hr x (Za6 _ hx));rw[Zf2,Zh0,Nat.add_comm, <-hl,List.drop_append];simp only[Zl7];rw[<-this,hl];simp[List.drop_eq_nil_of_le (show r.length<=es+i*es by omega)]
   rw[<-key rows i p1 hr, <-h3];rw[List.drop_take,Zn5,Zn6];congr 1;have:(i+1)*es<=rows.length*es:=Zf5 _ p1;rw[Zh0]at this;omega
section
variable{R:Type}(c:ai)(K:AV->St->Option R)(st:St)
theorem wj{b:Pos}{off len es es':Nat}{cap:Option Nat}{k:IntKind}{i:Nat}(h:i<len):ak c (.idxA es none) [.slice b off len cap es',.int k (i:Int)] st K=K (.ptr b (off+i*es)) st:=
 aS c K (λH n=>by
  simp only[av.run,lA,gO];have:Nat.blt i len=true:=by rw[Zn7];exact h
  rw[this]) st
theorem zM(b:Pos)(off len es:Nat)(cap:Option Nat):ak c (.lenB .l) [.slice b off len cap es] st K=K (.int .i64 (len:Int)) st:=aS c K (λH n=>rfl) st
theorem Ts{es bytes:Nat}{z:List AV}{k k':IntKind}{n:Nat}(h1:bytes*n<=281474976710656)(h2:n<=9223372036854775807):
  ak c (.mkSlice es bytes z) [.int k (n:Int),.int k' (n:Int)] st K=K (.slice st.next 0 n (some n) es) (af st (.cells (bK z n) 0)):=by
 have:av.run (λb=>st.heap.get b) st.next (.mkSlice es bytes z) [.int k (n:Int),.int k' (n:Int)]=some (.aC (.slice st.next 0 n (some n) es) none none (some (.cells (bK z n) 0))):=by
  simp only[av.run,uf,gO,eW,H5 h1,H5 h2,Za4,Zk9]
 unfold ak bS;rw[this];rfl
end
theorem DU{α:Type}(x:α):∀n:Nat,bK [x] n=List.replicate n x
 |0=>rfl
 |n+1=>by simp[bK,DU x n,List.replicate_succ]
theorem wm{rows:List (List AV)}{es:Nat}(hr:∀r∈rows,r.length=es):∀(i j:Nat)(r:List AV)(u:AV),rows[i]? =some r->r[j]? =some u->rows.flatten[i*es+j]? =some u:=by
 induction rows with
 |nil=>intro i j r u h;simp at h
 |cons r0 rows ih=>
  intro i j r u h1 h2;have hl:=hr r0 (by simp);cases i with
  |zero=>
   simp at h1;subst h1;have:=(Za0.1 h2).1;rw[Zf2,Zo5,Zc3,Zc1 this];exact h2
  |succ i=>
   rw[Zf2,Zc2 (by rw[Zh0];omega)];rw[show(i+1)*es+j - r0.length=i*es+j by rw[Zh0];omega];exact ih (λx hx=>hr x (Za6 _ hx)) i j r u (by simpa using h1) h2
theorem QS.lenB{R:Type}{c:ai}{es:Nat}{s:St}{v:AV}{rows:List (List AV)}(h:QS es s v rows)(K:AV->St->Option R)(s1:St):ak c (.lenB .l) [v] s1 K=K (.int .i64 (rows.length:Int)) s1:=by
 rcases h with⟨rfl,rfl⟩|⟨b,off,cap,cs,rfl,_⟩|⟨b,off,rfl,rfl⟩
 .exact aS c K (λH n=>rfl) s1
 .exact zM c K s1 _ _ _ _ _
 .exact zM c K s1 _ _ _ _ _
def gy(v:AV):Prop:=∃N0 K0:Nat,∀N K:Nat,N0<=N->K0<=K->∃x,aj (λ_=>⟨0,0,K⟩) N (λ_=>none) v x
theorem gy.int(k:IntKind)(i:Int):gy (.int k i):=⟨0,0,λ_ _ _ _=>⟨_,.int k i⟩⟩
theorem gy.bool(b:Bool):gy (.bool b):=⟨0,0,λ_ _ _ _=>⟨_,.bool b⟩⟩
theorem gy.ah:gy .ah:=⟨0,0,λ_ _ _ _=>⟨_,.ah⟩⟩
theorem gy.str{s:List Nat}(h:∀x∈s,x<256):gy (.str s):=⟨0,0,λ_ _ _ _=>⟨.string ⟨(s.map UInt8.ofNat).toArray⟩,.str s _ (by
 show(s.map UInt8.ofNat).toArray.toList.map UInt8.toNat=s;simp only[Zf7]
 conv=>rhs;rw[<-List.map_id s]
 refine Zi5 λc hc=> ?_
 have:=h c hc;simp[UInt8.toNat_ofNat];omega)⟩⟩
theorem gy.slice(b:Pos)(off n es:Nat):gy (.slice b off n none es):=⟨b.toNat+1,off+n*es,λN K hN hK=>⟨.slice (some ⟨0,0+off,none⟩) n n,
 .slice b off n none es n _ (Za4 _) (λc hc=>by cases hc) (λ_=>⟨by omega,rfl,by simpa using hK⟩) (λ_=>by omega)⟩⟩
theorem gy.zero(b:Pos)(off es:Nat):gy (.slice b off 0 (some 0) es):=⟨0,0,λN K _ _=>⟨.slice (some ⟨0,0,none⟩) 0 0,
 .slice b off 0 (some 0) es 0 _ (Za4 _) (λc hc=>by cases hc;rfl) (λh=>absurd rfl h) (λh=>by cases h)⟩⟩
theorem inst_list:∀{l:List AV},(∀v∈l,gy v)->∃N0 K0:Nat,∀N K:Nat,N0<=N->K0<=K->∃xs,aq (λ_=>⟨0,0,K⟩) N (λ_=>none) l xs
 |[],_=>⟨0,0,λ_ _ _ _=>⟨[],aq.nil⟩⟩
 |v::l,h=>by
  obtain⟨N1,K1,h1⟩:=h v (by simp);obtain⟨N2,K2,h2⟩:=inst_list (λu hu=>h u (Za6 _ hu));refine⟨max N1 N2,max K1 K2,λN K hN hK=> ?_⟩;obtain⟨x,hx⟩:=h1 N K (by omega) (by omega);obtain⟨xs,fQ⟩:=h2 N K (by omega) (by omega);exact⟨x::xs,aq.cons hx fQ⟩
theorem ET{l:List AV}(hi:∀v∈l,gy v){b:Pos}{off n es:Nat}(hm:AV.slice b off n none es∈l):¬Plain (.agg l):=λh=>by
 obtain⟨N0,K0,h1⟩:=inst_list hi;obtain⟨xs,hx⟩:=h1 N0 K0 (Za4 _) (Za4 _);have h2:aj (λ_=>⟨0,0,K0⟩) N0 (λ_=>none) (.agg l) (.agg xs.toArray):= .agg l _ (by rw[hx.1];simp) λi v x hv lR=>hx.2 i v x hv (by simpa using lR)
 have h3:=h _ (λ_=>⟨0,0,0⟩) _ 0 _ _ h2;obtain⟨i,aV,hi⟩:=Zk7.1 hm;cases h3 with
 |agg _ _ hl hc=>
  have Zu:i<xs.toArray.size:=by rw[<-hl];exact aV
  obtain⟨y,hy⟩:∃y,xs.toArray[i]? =some y:=⟨_,Ze7 Zu⟩
  have:=hc i _ y (by rw[H4 aV,hi]) hy;cases this with
  |slice _ _ _ _ _ _ _ _ _ _ hk=>exact absurd (hk rfl) (by omega)
theorem Mk.inst{es:Nat}{s s':St}{v:AV}{rows:List (List AV)}(h:Mk es s s' v rows):gy v:=by
 rcases h.own with⟨rfl,rfl⟩|⟨b,off,cap,cs,rfl,_⟩|⟨b,off,rfl,rfl⟩
 .exact gy.ah
 . rcases h.cap _ _ _ _ _ rfl with rfl|⟨h0,rfl⟩
   .exact gy.slice _ _ _ _
   .rw[h0];exact gy.zero _ _ _
 .exact gy.zero _ _ _
theorem Mk.loose{es:Nat}{s s':St}{v:AV}{rows:List (List AV)}(h:Mk es s s' v rows):(∃b off n,v= .slice b off n none es)\/((∀t,Wf t->Mk es t t v rows)/\rows=[]):=by
 rcases h.own with⟨rfl,rfl⟩|⟨b,off,cap,cs,rfl,_⟩|⟨b,off,rfl,rfl⟩
 .exact .inr ⟨λt ht=>Mk.start ht (Grew.refl ht),rfl⟩
 . rcases h.cap _ _ _ _ _ rfl with rfl|⟨h0,rfl⟩
   .exact .inl ⟨_,_,_,rfl⟩
   .exact .inr ⟨λt ht=>⟨ht,Grew.refl ht,.inr (.inr ⟨b,off,by rw[h0],Zb0 h0⟩),λb hb=>(by rw[h0,iX]at hb;cases hb),h.row,h.cap,λb hb=>(by rw[h0,iX]at hb;cases hb)⟩,Zb0 h0⟩
 .exact .inr ⟨λt ht=>⟨ht,Grew.refl ht,.inr (.inr ⟨b,off,rfl,rfl⟩),λb hb=>(by rw[iX]at hb;cases hb),h.row,h.cap,λb hb=>(by rw[iX]at hb;cases hb)⟩,rfl⟩
theorem Mk.DV{es:Nat}{s s':St}{v:AV}{rows:List (List AV)}(h:Mk es s s' v rows){l:List AV}(hm:v∈l)(hi:∀u∈l,gy u):∃gY,Go.Ai.tidy s (.agg l,s')=(.agg l,gY)/\(gY=s'\/gY=s)/\Mk es s gY v rows:=by
 unfold Go.Ai.tidy;by_cases hp:Plain (AV.agg l,s').1/\bD s (AV.agg l,s').2
 . rw[Za7 hp];refine⟨s,rfl,.inr rfl,?_⟩;rcases h.loose with⟨b,off,n,rfl⟩|⟨hl,_⟩
   .exact absurd hp.1 (ET hi hm)
   .exact hl s h.pL
 .rw[Za5 hp];exact⟨s',rfl,.inl rfl,h⟩
theorem Mk.cells{es:Nat}{s s':St}{v:AV}{rows:List (List AV)}(h:Mk es s s' v rows):v.cells=[v]/\aO [v]=true:=by
 rcases h.own with⟨rfl,rfl⟩|⟨b,off,cap,cs,rfl,_⟩|⟨b,off,rfl,rfl⟩<;>exact⟨rfl,rfl⟩
theorem Mk.store{es:Nat}{s s':St}{v:AV}{rows:List (List AV)}(h:Mk es s s' v rows){p:Pos}{b:AB}(hp:s.next.toNat<=p.toNat)(vF:p.toNat<s'.next.toNat)(cj:aZ v≠some p):Mk es s (cm s' p b) v rows:=
 ⟨h.pL,⟨Cu h.aA.wf vF,λq x hq=>by have:=h.pL _ _ hq;rw[br (λe=>by rw[e]at hp;omega)];exact h.aA.get hq,by rw[DS];exact h.aA.next⟩,
  h.own.mono λq x hq hx=>by rw[br (λe=>cj (by rw[hq,e]))];exact hx,h.new,h.row,h.cap,λb hb=>by rw[br (λe=>cj (by rw[hb,e]))];exact h.tight b hb⟩
theorem Mk.back{es:Nat}{s0 s s':St}{v:AV}{rows:List (List AV)}(h:Mk es s s' v rows)(h0:Wf s0)(hg:Grew s0 s):Mk es s0 s' v rows:=
 ⟨h0,hg.trans h.aA,h.own,λb hb=>Zc7 hg.next (h.new b hb),h.row,h.cap,h.tight⟩
theorem qI{α:Type}(l:List α)(i:Nat)(h:i<l.length)(u:α):aG l i [u]=l.set i u:=by unfold aG;rw[List.set_eq_take_append_cons_drop,Za7 h];simp
theorem BL{es:Nat}:∀(rows:List (List AV)),(∀r∈rows,r.length=es)->∀(i j:Nat)(hi:i<rows.length),j<es->∀u,rows.flatten.set (i*es+j) u=(rows.set i (rows[i].set j u)).flatten
 |[],_,i,j,hi,_,_=>by simp at hi
 |r::rows,hr,i,j,hi,hj,u=>by
  have hl:=hr r (by simp);cases i with
  |zero=>
   simp only[Zo5,Zc3,Zf2,List.set_cons_zero,List.getElem_cons_zero];rw[List.set_append_left _ _ (by omega)]
  |succ i=>
   simp only[Zf2,List.set_cons_succ,Zl7];rw[List.set_append_right _ _ (by rw[Zh0];omega)];rw[show(i+1)*es+j - r.length=i*es+j by rw[Zh0];omega];rw[BL rows (λx hx=>hr x (Za6 _ hx)) i j (by simpa using hi) hj u]
theorem QS.set{R:Type}{c:ai}{es:Nat}{s:St}{v:AV}{rows:List (List AV)}(h:QS es s v rows)(hr:∀r∈rows,r.length=es)(cW:es≠0){i:Nat}(hi:i<rows.length):
   ∃ b o cs,(∀(K:AV->St->Option R)(k:IntKind)(s1:St),ak c (.idxA es none) [v,.int k (i:Int)] s1 K=K (.ptr b o) s1)/\(∀(K:AV->Option R)(k:IntKind),ey (.idxA es none) [v,.int k (i:Int)] K=K (.ptr b o))/\aZ v=some b/\s.heap.get b=some (.cells cs 0)/\o+es<=cs.length/\(∀j u,rows[i][j]? =some u->cs[o+j]? =some u)/\
     (∀j u (s':St),j<es->s'.heap.get b=some (.cells (aG cs (o+j) [u]) 0)->QS es s' v (rows.set i (rows[i].set j u)))/\
     ∀j u,j<es->cs=rows.flatten->aG cs (o+j) [u]=(rows.set i (rows[i].set j u)).flatten:=by
 rcases h with⟨rfl,rfl⟩|⟨b,off,cap,cs,rfl,g1,g2,g3,g4⟩|⟨b,off,rfl,rfl⟩
 .simp at hi
 rotate_left
 .simp at hi
 have hri:=hr rows[i] (Zb9 hi);have hm:(i+1)*es<=rows.length*es:=Zf5 _ hi;rw[Zh0]at hm;have hx:∀(k:IntKind)(H:Pos->Option AB)(n:Pos),av.run H n (.idxA es none) [.slice b off rows.length cap es,.int k (i:Int)]=some (.val (.ptr b (off+i*es))):=λk H n=>by
   simp only[av.run,lA,gO];have:Nat.blt i rows.length=true:=(by rw[Zn7];exact hi);rw[this]
 refine⟨b,off+i*es,cs,λK k s1=>wj c K s1 hi,λK k=>cV K (hx k),by simp only[aZ];rw[Za5 (by omega)],g1,by omega,λj u hj=> ?_,λj u s' hj hs=> ?_,λj u hj he=> ?_⟩
 . have W4:j<es:=(by rw[<-hri];exact(Za0.1 hj).1);have:=wm hr i j rows[i] u (H4 hi) hj;rw[<-g3,Zb8]at this;split at this
   .rw[Zc4]at this;rw[<-this];congr 1;omega
   .cases this
 .rw[qI _ _ (by omega)]at hs;refine .inr (.inl ⟨b,off,cap,_,by simp,hs,by simpa using g2,?_,by simpa using g4⟩);rw[List.length_set, <-BL rows hr i j hi hj u, <-g3,List.drop_set,Za5 (by omega),List.take_set];congr 1;omega
 . have hlen:rows.flatten.length=rows.length*es:=by
     clear g2 g3 g4 hi hri hm hx g1 he;induction rows with
     |nil=>simp
     |  cons r rows ih=>
        have:=ih (λx hx=>hr x (Za6 _ hx));have h2:=hr r (by simp);simp only[Zf2,Ze0,Ze6,Zh0];omega
   have h0:off=0:=(by rw[he,hlen]at g2;omega);subst h0;rw[qI _ _ (by omega),he, <-BL rows hr i j hi hj u];congr 1;omega
def Src(es:Nat)(s:St)(v:AV)(rows:List (List AV)):Prop:=v= .fl rows es\/QS es s v rows
theorem Src.len{es:Nat}{s:St}{v:AV}{rows:List (List AV)}(h:Src es s v rows):cQ v=some rows.length:=by
 rcases h with rfl|h
 .rfl
 .exact h.len
theorem Src.mono{es:Nat}{s s':St}{v:AV}{rows:List (List AV)}(h:Src es s v rows)(hk:∀b x,aZ v=some b->s.heap.get b=some x->s'.heap.get b=some x):Src es s' v rows:=h.imp id λh=>h.mono hk
theorem Src.aA{es:Nat}{s s':St}{v:AV}{rows:List (List AV)}(h:Src es s v rows)(hg:Grew s s'):Src es s' v rows:=h.mono λ_ _ _ hx=>hg.get hx
theorem Src.first{es:Nat}{s:St}{v:AV}{rows:List (List AV)}(h:Src es s v rows)(hr:∀r∈rows,r.length=es):bV es rows.length (λb=>s.heap.get b) v=some rows.flatten:=by
 rcases h with rfl|h
 .simp only[bV,eo,eW,Zk9,Za4,Zi8]
 .exact h.first hr
theorem Src.nil{es:Nat}{s:St}{v:AV}{rows:List (List AV)}(h:Src es s v rows):(v= .ah/\rows=[])\/∀{R:Type}(c:ai)(K:AV->St->Option R)(t:St),ak c (.bin .eql .slice) [v,.ah] t K=K (.bool false) t:=by
 rcases h with rfl|⟨rfl,rfl⟩|⟨b,off,cap,cs,rfl,_⟩|⟨b,off,rfl,rfl⟩
 .exact .inr λc K t=>aS c K (λH n=>rfl) t
 .exact .inl ⟨rfl,rfl⟩
 .exact .inr λc K t=>aS c K (λH n=>rfl) t
 .exact .inr λc K t=>aS c K (λH n=>rfl) t
theorem Src.ro{es:Nat}{s:St}(z:Bool)(rows:List (List AV)):Src es s (ro es z rows) rows:=by
 unfold Go.Ai.ro;split
 .exact .inr (.inl ⟨rfl,rfl⟩)
 .exact .inl rfl
theorem N6{es:Nat}:∀{rows:List (List AV)},(∀r∈rows,r.length=es)->rows.flatten.length=rows.length*es
 |[],_=>by simp
 |r::rows,hr=>by have ih:=N6 (λx hx=>hr x (Za6 _ hx));have h2:=hr r (by simp);simp only[Zf2,Ze0,Ze6,Zh0];omega
theorem N7{es bytes:Nat}{z:List AV}{src:AV}{rows:List (List AV)}(hr:∀r∈rows,r.length=es)(_hes:es≠0)(hb:(2*rows.length+768)*bytes<=281474976710656)(hn:rows.length<=4000000){c:ai}{R:Type}(s:St)(hw:Wf s)(h:Src es s src rows):
   ∃v s',(∀(K:AV->St->Option R),ak c (.buildSlice es 0 z []) [] s (λy t=>ak c (.append es bytes) [y,src] t K)=K v s')/\Mk es s s' v rows:=by
 have bs:∀(K:AV->St->Option R),ak c (.buildSlice es 0 z []) [] s K=K (.slice s.next 0 0 (some 0) es) (af s (.cells [] 0)):=λK=>by rw[aT];rfl
 have dI:Wf (af s (.cells [] 0)):=bR hw;have g1:=Grew.af hw (.cells [] 0);have hl:=h.len;by_cases h0:rows.length=0
 .obtain rfl:=Zb0 h0;refine⟨.slice s.next 0 0 (some 0) es,af s (.cells [] 0),λK=> ?_,hw,g1,.inr (.inr ⟨_,_,rfl,rfl⟩),λb hb=>(by rw[iX]at hb;cases hb),hr,λb off n cp e he=>(by cases he;exact .inr ⟨rfl,rfl⟩),λb hb=>(by rw[iX]at hb;cases hb)⟩;rw[bs,QI c K hl (by simpa using hb) (by simp)]
 . have hx:bV es rows.length (λb=>(af s (.cells [] 0)).heap.get b) src=some rows.flatten:=(h.aA g1).first hr;have hlen:=N6 hr;refine⟨.slice (af s (.cells [] 0)).next 0 rows.length none es,af (af s (.cells [] 0)) (.cells rows.flatten 0),λK=> ?_,hw,g1.trans (Grew.af dI _),.inr (.inl ⟨_,0,none,rows.flatten,rfl,aD _ _,by omega,?_,.inl rfl⟩),λb hb=> ?_,hr,λb off n cp e he=>(by cases he;exact .inl rfl),λb hb=>(by rw[nG]at hb;cases hb;exact aD _ _)⟩
   .rw[bs,WZ c K (m:=rows.length) hl h0 (by simpa using hb) (by omega) hx]
   .simp only[Ze4];exact Zf8 (by omega)
   .rw[nG]at hb;cases hb;rw[c9,Pos.ax];omega
theorem qa{v:AV}(h:aO [v]=true):v.one=true:=by
 simp only[aO]at h;split at h
 .assumption
 .cases h
theorem OQ{b:Pos}{o:Nat}{k1 k2:IntKind}{i1 i2:Int}:¬Plain (.tuple [.ptr b o,.int k1 i1,.int k2 i2]):=λh=>by
 obtain⟨x0,e0⟩:∃x,aj (λ_=>⟨0,0,0⟩) (b.toNat+1) (λ_=>none) (.ptr b o) x:=⟨_,.ptr b o (by omega)⟩
 obtain⟨x1,e1⟩:∃x,aj (λ_=>⟨0,0,0⟩) (b.toNat+1) (λ_=>none) (.int k1 i1) x:=⟨_,.int k1 i1⟩
 obtain⟨x2,e2⟩:∃x,aj (λ_=>⟨0,0,0⟩) (b.toNat+1) (λ_=>none) (.int k2 i2) x:=⟨_,.int k2 i2⟩
 have:=h (λ_=>⟨0,0,0⟩) (λ_=>⟨0,0,0⟩) (b.toNat+1) 0 (λ_=>none) _ (.tuple _ #[x0,x1,x2] rfl (λi v v' hv hx=>by
  match i with
  |0=>simp at hv hx;subst hv hx;exact e0
  |1=>simp at hv hx;subst hv hx;exact e1
  |2=>simp at hv hx;subst hv hx;exact e2
  |i+3=>simp at hv))
 cases this with
 |tuple _ _ _ h=>
  have:=h 0 _ x0 rfl rfl;cases this with
  |ptr _ _ h=>omega
theorem QS.cells{es:Nat}{s:St}{v:AV}{rows:List (List AV)}(h:QS es s v rows):v.cells=[v]/\v.one=true:=by
 rcases h with⟨rfl,rfl⟩|⟨b,off,cap,cs,rfl,_⟩|⟨b,off,rfl,rfl⟩<;>exact⟨rfl,rfl⟩
abbrev Zv(v:AV):List AV:=[v]
theorem Zw(l:List AV):∀r∈l.map Zv,r.length=1:=λr hr=>by simp only[Zf3]at hr;obtain⟨m,_,rfl⟩:=hr;rfl
section
variable{s0 s s':St}{jb:Pos}{Ls:List AV}{R:List (List AV)}{I:List (AV×List (List AV))}
end
section
variable{s0 s s':St}{jb:Pos}{Ls:List AV}{R:List (List AV)}{I:List (AV×List (List AV))}
end
theorem Tt{R:Type}{c:ai}(K:AV->St->Option R){s:St}{p:Pos}{o:Nat}{cs:List AV}{v:AV}(h:s.heap.get p=some (.cells cs 0))(ho:o<cs.length)(h1:v.cells=[v])(h2:v.one=true):
  ak c (.store 1) [.ptr p o,v] s K=K .undef (cm s p (.cells (cs.set o v) 0)):=by
 rw[dG c K s 1 p o v cs h (by rw[h1];rfl) (by omega) (by rw[h1];simp[aO,h2]),h1,qI _ _ ho]
theorem QS.beq{es:Nat}{s:St}{v:AV}{rows:List (List AV)}(h:QS es s v rows):dJ v v=true:=by
 rcases h with⟨rfl,_⟩|⟨b,off,cap,cs,rfl,_⟩|⟨b,off,rfl,_⟩
 .rfl
 .cases cap<;>simp[dJ,jT,fI,Pos.beq_eq.2 rfl]
 .simp[dJ,jT,fI,Pos.beq_eq.2 rfl]
section
variable{s0 s s':St}{jb:Pos}{Ls:List AV}{R:List (List AV)}{I:List (AV×List (List AV))}
end
def emptyAt(s:St):St:={ heap:= .e,next:=s.next }
theorem La(s:St):Wf (emptyAt s):=λp x h=>by have h:(T.e:T AB).get p=some x:=h;rw[T.cZ]at h;cases h
theorem Lb{call:ai}{f:FuncId}{d:Nat}{args:List AV}{s:St}{v:AV}(h:call f (args.map (cX s d)) (emptyAt s)=some (v,emptyAt s))(hb:mW v):Gg call f d args s=some (v,s):=Zt h hb
section
variable{H:Type}(Ok:DataW H->Prop)(enc:TypeId×Value->H)(P:Program)(w:World)(base:Nat)(spare:Nat->Bool)(held:Bool)
variable{Ok enc P w base spare held}
end
end
section
open Go Go.WideShapes
section
variable{H:Type}(enc:TypeId×Value->H)(P:Program)(w:World)(base:Nat)(spare:Nat->Bool)(held:Bool)
variable{enc P w base spare held}
end
end
section
open Go
section
variable{c:ai}{R:Type}
theorem QM{H:Pos->Option AB}{n:Pos}{k:IntKind}{a b:Int}(h1:0<=a)(h2:0<b):av.run H n (.bin .rem .num) [.int k a,.int k b]=some (.val (.int k (a % b))):=by
 have e0:sx b 0=false:=by rw[jB,Zm9];omega
 have e1:a.tmod b=a % b:=Int.tmod_eq_emod_of_nonneg h1;simp only[av.run,fX,k9,cq,e0,e1]
theorem QN{H:Pos->Option AB}{n:Pos}{a b:Int}(h1:0<=a)(h3:a<=9223372036854775807)(h2:0<b):av.run H n (.bin .quo .num) [.int .i64 a,.int .i64 b]=some (.val (.int .i64 (a / b))):=by
 have e0:sx b 0=false:=by rw[jB,Zm9];omega
 have e1:a.tdiv b=a / b:=Int.tdiv_eq_ediv_of_nonneg h1;have e3:0<=a / b:=Zo9 h1 (by omega);have e4:a / b<=a:=Int.ediv_le_self b h1;have e2:ay .i64 (a / b)=a / b:=wrap64 (by omega) (by omega);simp only[av.run,fX,k9,cq,e0,e1,e2]
theorem Zx{H:Pos->Option AB}{n:Pos}{a:Int}{i:Nat}(h:i<=64):av.run H n (.bin .shr .num) [.int .i64 a,.int .i64 (i:Int)]=some (.val (.int .i64 (a / 2 ^ i))):=by
 have e0:ue (i:Int) 0=false:=by rw[dz,Za2 (by omega)]
 have e1:min (i:Int).toNat (IntKind.bits .i64)=i:=by have:IntKind.bits .i64=64:=rfl;rw[this];omega
 simp only[av.run,fX,k9,e0,e1];rw[Zn8 _ (Int.le_of_lt (Int.pow_pos (by decide)))]
theorem bN{k:IntKind}{a b:Int}(h1:0<=a)(h2:0<b)(s:St)(K:AV->St->Option R):ak c (.bin .rem .num) [.int k a,.int k b] s K=K (.int k (a % b)) s:=aS c K (λH n=>QM h1 h2) s
theorem wo{k:IntKind}{a b:Int}(h1:0<=a)(h2:0<b)(K:AV->Option R):ey (.bin .rem .num) [.int k a,.int k b] K=K (.int k (a % b)):=cV K (λH n=>QM h1 h2)
theorem eX{a b:Int}(h1:0<=a)(h3:a<=9223372036854775807)(h2:0<b)(s:St)(K:AV->St->Option R):ak c (.bin .quo .num) [.int .i64 a,.int .i64 b] s K=K (.int .i64 (a / b)) s:=aS c K (λH n=>QN h1 h3 h2) s
theorem QO{a b:Int}(h1:0<=a)(h3:a<=9223372036854775807)(h2:0<b)(K:AV->Option R):ey (.bin .quo .num) [.int .i64 a,.int .i64 b] K=K (.int .i64 (a / b)):=cV K (λH n=>QN h1 h3 h2)
theorem QT{a:Int}{i:Nat}(h:i<=64)(s:St)(K:AV->St->Option R):ak c (.bin .shr .num) [.int .i64 a,.int .i64 (i:Int)] s K=K (.int .i64 (a / 2 ^ i)) s:=aS c K (λH n=>Zx h) s
theorem tL(i:Int)(s:St)(K:AV->St->Option R):ak c (.conv (.int .u8)) [.int .i64 i] s K=K (.int .u8 (ay .u8 i)) s:=aS c K (λH n=>rfl) s
theorem lV(i:Int)(k:IntKind)(s:St)(K:AV->St->Option R):ak c (.conv (.int .i64)) [.int k i] s K=K (.int .i64 (ay .i64 i)) s:=aS c K (λH n=>rfl) s
theorem QU{x y:Int}(a b:Nat)(hx:x=(a:Int))(hy:y=(b:Int))(ha:a<256)(hb:b<256)(s:St)(K:AV->St->Option R):
  ak c (.buildSlice 1 2 [.int .u8 0] [0,1]) [.int .u8 x,.int .u8 y] s (λv t=>ak c (.conv .ofBytes) [v] t K)=K (.str [a,b]) (af s (.cells [.int .u8 x,.int .u8 y] 0)):=by
 subst hx;subst hy;rw[show ak c (.buildSlice 1 2 [.int .u8 0] [0,1]) [.int .u8 (a:Int),.int .u8 (b:Int)] s (λv t=>ak c (.conv .ofBytes) [v] t K)=ak c (.conv .ofBytes) [.slice s.next 0 2 (some 2) 1] (af s (.cells [.int .u8 (a:Int),.int .u8 (b:Int)] 0)) K from rfl];have:av.run (λp=>(af s (.cells [.int .u8 (a:Int),.int .u8 (b:Int)] 0)).heap.get p) (af s (.cells [.int .u8 (a:Int),.int .u8 (b:Int)] 0)).next (.conv .ofBytes) [.slice s.next 0 2 (some 2) 1]=some (.val (.str [a,b])):=by
  have ha':Nat.blt a 256=true:=by simpa using ha
  have gQ:Nat.blt b 256=true:=by simpa using hb
  simp only[av.run,tq,aD];show(match bytesOf [.int .u8 (.ofNat a),.int .u8 (.ofNat b)]with|some s=>some (bU.val (.str s))|none=>none)=_;simp only[bytesOf,ha',gQ]
 unfold ak bS;rw[this]
end
theorem Mk.Zy{s s':St}{l:List AV}(hi:∀u∈l,gy u)(hw:Wf s)(hg:Grew s s'):
   ∃gY,Go.Ai.tidy s (.agg l,s')=(.agg l,gY)/\Grew s gY/\(∀(es:Nat)(v:AV)(rows:List (List AV)),v∈l->Mk es s s' v rows->Mk es s gY v rows/\(gY=s'\/rows=[])):=by
 unfold Go.Ai.tidy;by_cases hp:Plain (AV.agg l,s').1/\bD s (AV.agg l,s').2
 . rw[Za7 hp];refine⟨s,rfl,Grew.refl hw,λes v rows hm h=> ?_⟩;rcases h.loose with⟨b,off,n,rfl⟩|⟨hl,h0⟩
   .exact absurd hp.1 (ET hi hm)
   .exact⟨hl s h.pL,.inr h0⟩
 .rw[Za5 hp];exact⟨s',rfl,hg,λes v rows _ h=>⟨h,.inl rfl⟩⟩
theorem Mk.sH{es:Nat}{s0 s s':St}{v:AV}{rows:List (List AV)}(h:Mk es s0 s v rows)(hg:Grew s0 s')(hk:∀b x,aZ v=some b->s.heap.get b=some x->s'.heap.get b=some x):Mk es s0 s' v rows:=
 ⟨h.pL,hg,h.own.mono hk,h.new,h.row,h.cap,λb hb=>hk b _ hb (h.tight b hb)⟩
end
section
open Go Go.WideShapes
theorem xw{Q:List AV->Prop}{Qs:List (List AV->Prop)}{ps:List (List AV)}(h:DT (Q::Qs) ps):∃p qs,ps=p::qs/\Q p/\DT Qs qs:=by
 cases ps with
 |nil=>exact h.elim
 |cons p qs=>exact⟨p,qs,rfl,h⟩
theorem QV{ps:List (List AV)}(h:DT [] ps):ps=[]:=by
 cases ps with
 |nil=>rfl
 |cons p qs=>exact h.elim
section
variable{H:Type}{enc:TypeId×Value->H}{P:Program}{w:World}{base:Nat}{spare:Nat->Bool}{held:Bool}
theorem Mm{t e:TypeId}{Q:List AV->Prop}{r:Go.Reach}{b0:Nat}{v:Value}{d:DataW H}{p:List MemPlace}(ho:jX enc P w base spare held t Q)(ht:P.underlying t=some (.slice e))
  (hval:Value.okWide P w r b0 t v) (hd:DataW.Trod enc P w base spare held t v d p):∃as,Q as/\∀ρ n,aq ρ n (λad=>w.cell? ad) as [v]:=by
 obtain⟨a,len,cap,rfl⟩:=okWide_slice ht hval;obtain⟨fuel,hf⟩:=hd;exact ho _ _ _ hf
end
end
section
open Go
noncomputable def Mn(d:Nat)(As:List (List AV))(r:AV):List AV->St->Option (AV×St):=λargs st=>open Classical in if args.map (cX st d)∈As then some (r,st)else none
theorem abp{d:Nat}{As:List (List AV)}{r:AV}{args:List AV}{st:St}(A:List AV)(hA:A∈As)(h:args.map (cX st d)=A):Mn d As r args st=some (r,st):=by
 unfold Mn;rw[h,Za7 hA]
theorem Xb{P:Program}{C:Cells}{O:dR}{G:T b7}{m n f d:Nat}{As:List (List AV)}{r:AV}(bE:∀C:Cells,ew P C (nM O G m n))(ha:∀A∈As,∀a∈A,Plain a)(hr:Plain r)(hb:mW r)
   (h:(As.all λA=>AM (R:=Bool) false O G m n f A { heap:= .e,next:= .h } (λv _=>dJ v r))=true):kZ P C f (Mn d As r):=by
 have unf:∀args st v' st',Mn d As r args st=some (v',st')->v'=r/\st'=st/\(args.map (cX st d))∈As:=by
   intro args st v' st' hs;unfold Mn at hs;(split at hs<;>first|(cases hs;done)|skip);rename_i hc;simp only[H0,Zb2]at hs;exact⟨hs.1.symm,hs.2.symm,hc⟩
 refine⟨λargs st v' st' hs=> ?_,λρ st w args v' st' bw hs hW hv=> ?_⟩
 .obtain⟨_,rfl,_⟩:=unf _ _ _ _ hs;exact Za4 _
 . obtain⟨rfl,rfl,hA⟩:=unf _ _ _ _ hs;have hk:=Zc9.1 h _ hA;rw[DM false O G m n]at hk;unfold mA at hk;(split at hk<;>first|(cases hk;done)|skip);rename_i x hx;obtain⟨v,aK⟩:=x;have h1:=nX hk;subst h1;have Im:=aq.cX hW d hv;have Cl:aq ρ (Pos.h).toNat (λad=>w.cell? ad) (args.map (cX st' d)) bw:=⟨Im.1,λi u y hu hy=>ha _ hA u (Zb5 hu) _ _ _ _ _ _ (Im.2 i u y hu hy)⟩
   (refine Reaches.mono (λx w' hp=> ?_) (bE (λad=>w.cell? ad) ρ { heap:= .e,next:= .h } w f _ _ aK bw hx (w7 (λad u hu=>hu) λa u _ o ho=>ho) Cl);obtain⟨ρ',k1,k2,k3,k4,hE⟩:=hp;have un:∀k,k<w.heap.size->w'.heap[k]? =w.heap[k]? :=λk hk=>hE.block k hk λb x hb=>by rw[T.cZ]at hb;cases hb);refine⟨ρ,hb _ _ _ _ _ (hr _ _ _ _ _ _ k1),λ_ _=>rfl,Za4 _,⟨λb x hb=> ?_,hW.inj,λa u hu=> ?_,λa u hu o ho=> ?_⟩,⟨hE.os,hE.tape,hE.output,hE.size,λk hk _=>un k hk,λb x hb=>.inl ⟨b,x,hb,rfl⟩⟩⟩
   .obtain⟨l1,l2,l3⟩:=hW.live b x hb;exact⟨l1,Zc5 l2 hE.size,l3.of_heap (un _ l2)⟩
   .obtain⟨c1,c2⟩:=hW.cY a u hu;exact⟨(k4.cY a u c1).1,c2⟩
   .have aV:a.block<w.heap.size:=World.block_lt_of_cell? _ _ (hW.cY a u hu).1;rw[World.cell?_of_block (w:=w) (a:=⟨a.block,o,none⟩) (un _ aV)];exact hW.whole a u hu o ho
end
noncomputable section
open Go
inductive Un where
 |z
 |s (n:Un)
def un:Nat->Un
 |0=>.z
 |n+1=>.s (un n)
inductive Tx where
 |bad
 |op (k:av) (xs:List dL) (d:Option Pos) (t:Tx)
 |gop (g:Pos) (w:Bool) (k:av) (xs:List dL) (d:Option Pos) (t:Tx)
 |dr (t:Tx)
 |pr (k:av) (xs:List dL) (d:Option Pos) (t:Tx)
 |IE (g:Pos) (w:Bool) (k:av) (xs:List dL) (d:Option Pos) (t:Tx)
 |rd (b:List Bool) (k:av) (xs:List dL) (d:Option Pos) (t:Tx)
 |IF (g:Pos) (w:Bool) (b:List Bool) (k:av) (xs:List dL) (d:Option Pos) (t:Tx)
 |nw (k:av) (xs:List dL) (d:Option Pos) (t:Tx)
 |gnw (g:Pos) (w:Bool) (k:av) (xs:List dL) (d:Option Pos) (t:Tx)
 |ef (k:av) (xs:List dL) (d:Option Pos) (t:Tx)
 |gef (g:Pos) (w:Bool) (k:av) (xs:List dL) (d:Option Pos) (t:Tx)
 |NU (x:dL) (a b:Tx)
 |jn (l:List Pos) (a b:Tx)
 |jmp (i:Un) (l:List Pos)
 |arg (l:List Pos) (t:Tx) (r:Tx)
 |lp (j:Un) (ins:List Pos)
 |agn (ins:List Pos)
 |out (i:Un) (l:List Pos)
 |res (rs:List wT)
def txO:List bh->Tx->Tx
 |[],t=>t
 |  o::os,t=>match o.guard with
    |none=>.op o.k o.xs o.dst (txO os t)
    |some (p,w)=>.gop p w o.k o.xs o.dst (txO os t)
def bitsOf(bt:Nat):List Nat->List Bool
 |[]=>[]
 |i::is=>bt.testBit i::bitsOf bt is
def Lc:List (Nat×bh)->List Nat->Tx->Tx
 |[],_,t=>t
 |  (j,o)::os,is,t=>match o.cls,o.guard with
    |.pure,none=>.pr o.k o.xs o.dst (Lc os (j::is) t)
    |.pure,some (p,w)=> .IE p w o.k o.xs o.dst (Lc os (j::is) t)
    |.read,none=>.rd (bitsOf o.bt is) o.k o.xs o.dst (Lc os (j::is) t)
    |.read,some (p,w)=> .IF p w (bitsOf o.bt is) o.k o.xs o.dst (Lc os (j::is) t)
    |.new,none=>.nw o.k o.xs o.dst (Lc os (j::is) t)
    |.new,some (p,w)=>.gnw p w o.k o.xs o.dst (Lc os (j::is) t)
    |.aC,none=>.ef o.k o.xs o.dst (Lc os (j::is) t)
    |.aC,some (p,w)=>.gef p w o.k o.xs o.dst (Lc os (j::is) t)
def txA(K:iF->Tx):List (Nat×List Pos)->Tx->Tx
 |[],t=>t
 |(e,l)::r,t=>.arg l (K (exOf e)) (txA K r t)
def tx:AC->Sh->Nat->(iF->Nat->Tx)->Tx
 |.skip,_,d,K=>K .normal d
 |.region ops,_,d,K=>txO ops (K .normal d)
 |.draw ops,_,d,K=>.dr (Lc ops [] (K .normal d))
 |  .seq a b,s,d,K=>match s with
    | .seq none s t=>tx a s d λex d=>match ex with
      |.normal=>tx b t d K
      |.exit i=>K (.exit i) d
      |.ret=>K .ret d
    | .seq (some l) s t=>.jn l (tx a s (d+1) λex d'=>match ex with
      |.normal=>.jmp (un (d' - d - 1)) l
      |.exit i=>K (.exit i) d'
      |.ret=>K .ret d') (tx b t d K)
    |_=>.bad
 |  .cond x a b,s,d,K=>match s with
    |.cond s t=> .NU x (tx a s d K) (tx b t d K)
    |_=>.bad
 |  .block id a,s,d,K=>match s with
    | .block s=>tx a s d λex d=>match ex with
      |.normal=>K .normal d
      | .exit i=>match Nat.beq i id with
        |true=>K .normal d
        |false=>K (.exit i) d
      |.ret=>K .ret d
    |_=>.bad
 |  .loop _,s,d,K=>match s with
    |.loop j ins outs _=>txA (λex=>K ex d) outs (.lp (un j) ins)
    |_=>.bad
 |.exit id,_,d,K=>K (.exit id) d
 |.ret,_,d,K=>K .ret d
def idxOf:List (Nat×List Pos)->Nat->Nat
 |[],_=>0
 |  (i,_)::r,e=>match Nat.beq i e with
    |true=>0
    |false=>idxOf r e+1
def txF(A:b7)(s:Sh):Tx:=tx A.code s 0 λex _=>match ex with
 |.normal=>.res A.results
 |.ret=>.res A.results
 |.exit _=>.bad
def txL(x:AC×Sh):List Pos×Tx:=match x.2 with
 |  .loop _ ins outs s=>(ins,tx x.1 s 0 λex _=>match ex with
    |.normal=>.agn ins
    |.exit i=>.out (un (idxOf outs (i+2))) (HT outs (i+2))
    |.ret=>.out (un (idxOf outs 1)) (HT outs 1))
 |_=>([],.bad)
section
variable{R:Type}
abbrev KK(R:Type):=List AV->St->Option R
abbrev O2:=Option (AV×St)
abbrev Q2:=KK (AV×St)
def vz:Unit:=(λ_=>()) (@den AV)
def sV(p:Pos)(fr:Fr)(k:AV->Option R):Option R:=match fr.get p with
 |some v=>k v
 |none=>(λ_=>none) vz
def uB(p:Pos)(v:AV)(fr:Fr)(k:Fr->Option R):Option R:=(λ_=>k (fr.put (some v) p)) vz
def uC(d:Option Pos)(v:AV)(fr:Fr)(k:Fr->Option R):Option R:=match d with
 |some p=>uB p v fr k
 |none=>k fr
def zN(fr:Fr):List dL->(List AV->Option R)->Option R
 |[],k=>k []
 |.t p::xs,k=>sV p fr λv=>zN fr xs λvs=>k (v::vs)
 |.c v::xs,k=>zN fr xs λvs=>k (v::vs)
def getLT:List Pos->Fr->(List AV->Option R)->Option R
 |[],_,k=>k []
 |p::ps,fr,k=>sV p fr λv=>getLT ps fr λvs=>k (v::vs)
def Bd:List Pos->List AV->Fr->(Fr->Option R)->Option R
 |[],vs,fr,k=>pZ vs (k fr)
 |p::ps,vs,fr,k=>js vs λv vs=>uB p v fr λfr=>Bd ps vs fr k
def Ld(p:Pos)(k:Pos->Option R):Option R:=(λ_=>k p.succ) vz
def QW:Pos->List AV->Fr->(Fr->Option R)->Option R
 |_,[],fr,k=>k fr
 |p,v::vs,fr,k=>uB p v fr λfr=>Ld p λp=>QW p vs fr k
def Tu:Un->List (KK R)->KK R
 |.z,k::_=>k
 |.s n,_::ks=>Tu n ks
 |_,[]=>λ_ _=>none
def yR:List Bool->T AB->List RC->T AB
 |  b ::bs,h,r::rs=>match r with
    | .new id au=>match b with
      |true=>(yR bs h rs).put (some au) id
      |false=>yR bs h rs
    |.aC _ _=>h
    |.pure=>yR bs h rs
 |_,h,_=>h
def yS(k:av)(xs:List AV)(v:AV):List (Pos×AB)->List Bool->List RC->Bool
 |  up,b::bs,r::rs=>match r with
    | .new id au=>match b with
      |true=>yS k xs v ((id,au)::up) bs rs
      |false=>yS k xs v up bs rs
    | .aC base _=>match b with
      |true=>true
      |false=>kB k xs v (qy up (yR bs base rs))&&yS k xs v up bs rs
    |.pure=>yS k xs v up bs rs
 |_,_,_=>true
def Mo(fr:Fr)(st:St):List wT->(List AV->Option R)->Option R
 |[],k=>k []
 |.tmp p::rs,k=>sV p fr λv=>Mo fr st rs λvs=>k (v::vs)
 |.cell p n::rs,k=>sV p fr λq=>Tc n q st λv=>Mo fr st rs λvs=>k (v::vs)
def Pm(as:List (KK R))(f:KK R)(k:List (KK R)->Option R):Option R:=(λ_=>k (as++[f])) vz
def pkR(vs:List AV)(st:St):Option (AV×St):=some (fL vs,st)
end
section
variable(c:ai)(F:Nat)(Ls:Un->List Q2->Nat->Q2)(ag:Q2)(ko:List Q2)
def evX(fr:Fr)(x:dL)(k:AV->Option (AV×St)):Option (AV×St):=match x with
 |.t p=>sV p fr k
 |.c v=>k v
def ev:Tx->List (KK (AV×St))->List (KK (AV×St))->Fr->St->List RC->T AB->Option (AV×St)
 |.bad,_,_,_,_,_,_=>none
 |.op k xs d t,ks,as,fr,st,rs,b=>zN fr xs λvs=>ak c k vs st λv st=>uC d v fr λfr=>ev t ks as fr st rs b
 |.gop g w k xs d t,ks,as,fr,st,rs,b=>zN fr xs λvs=>sV g fr λg=>Qv c g w k vs st λv st=>uC d v fr λfr=>ev t ks as fr st rs b
 |.dr t,ks,as,fr,st,_,_=>ev t ks as fr st [] st.heap
 |.pr k xs d t,ks,as,fr,st,rs,b=>zN fr xs λvs=>ey k vs λv=>uC d v fr λfr=>ev t ks as fr st (.pure::rs) b
 | .IE g w k xs d t,ks,as,fr,st,rs,b=>zN fr xs λvs=>sV g fr λg=>IE g w k vs λv=>uC d v fr λfr=>ev t ks as fr st (.pure::rs) b
 |.rd bs k xs d t,ks,as,fr,st,rs,b=>zN fr xs λvs=>jV k vs (yR bs b rs) (λv=>yS k vs v [] bs rs) λv=>uC d v fr λfr=>ev t ks as fr st (.pure::rs) b
 | .IF g w bs k xs d t,ks,as,fr,st,rs,b=>zN fr xs λvs=>sV g fr λg=>IF g w k vs (yR bs b rs) (λv=>yS k vs v [] bs rs) λv=>uC d v fr λfr=>ev t ks as fr st (.pure::rs) b
 |.nw k xs d t,ks,as,fr,st,rs,b=>zN fr xs λvs=>F0 k vs st λv au=>uC d v fr λfr=>ev t ks as fr (af st au) (.new st.next au::rs) b
 |.gnw g w k xs d t,ks,as,fr,st,rs,b=>zN fr xs λvs=>sV g fr λg=>IG g w (F0 k vs st λv au=>uC d v fr λfr=>ev t ks as fr (af st au) (.new st.next au::rs) b) (uC d .undef fr λfr=>ev t ks as fr st (.pure::rs) b)
 |.ef k xs d t,ks,as,fr,st,rs,b=>zN fr xs λvs=>ak c k vs st λv st'=>uC d v fr λfr=>ev t ks as fr st' (.aC b st'.heap::rs) st'.heap
 |.gef g w k xs d t,ks,as,fr,st,rs,b=>zN fr xs λvs=>sV g fr λg=>IG g w (ak c k vs st λv st'=>uC d v fr λfr=>ev t ks as fr st' (.aC b st'.heap::rs) st'.heap) (uC d .undef fr λfr=>ev t ks as fr st (.pure::rs) b)
 | .NU x t u,ks,as,fr,st,rs,b=>evX fr x λv=>NU v (ev t ks as fr st rs b) (ev u ks as fr st rs b)
 |.jn l t u,ks,as,fr,st,rs,b=>fY (λk=>ev t (k::ks) as fr st rs b) (λvs st=>Bd l vs .e λfr=>ev u ks as fr st [] .e)
 |.jmp i l,ks,_,fr,st,_,_=>getLT l fr λvs=>Tu i ks vs st
 |.arg l t r,ks,as,fr,st,rs,b=>Pm as (λos st=>Bd l os .e λfr=>ev t ks [] fr st [] .e) λas=>ev r ks as fr st rs b
 |.lp j ins,_,as,fr,st,_,_=>getLT ins fr λvs=>Ls j as F vs st
 |.agn ins,_,_,fr,st,_,_=>getLT ins fr λvs=>ag vs st
 |.out i l,_,_,fr,st,_,_=>getLT l fr λvs=>Tu i ko vs st
 |.res rs,_,_,fr,st,_,_=>Mo fr st rs λvs=>pkR vs st
def j8(p:List Pos×Tx)(vs:List AV)(st:St):Option (AV×St):=Bd p.1 vs .e λfr=>ev c F Ls ag ko p.2 [] [] fr st [] .e
end
def cg{R:Type}:Un->List (KK R)->Nat->KK R:=λ_ _ _ _ _=>none
def lW{R:Type}:KK R:=λ_ _=>none
def b6(c:ai)(F:Nat)(Ls:Un->List Q2->Nat->Q2)(t:Tx)(args:List AV)(st:St):O2:=QW .h args .e λfr=>ev c F Ls lW [] t [] [] fr st [] .e
def mC(Ls:Un->List Q2->Nat->Q2)(A:b7)(s:Sh):Env (AV×St):=λj K=>Ls (un j) ((WS (eV A s j).2).map λo=>K o.1)
def sl:Sh:= .leaf
def sq(a b:Sh):Sh:= .seq none a b
def sj(l:List Nat)(a b:Sh):Sh:= .seq (some (l.map key)) a b
def sc(a b:Sh):Sh:= .cond a b
def sb(a:Sh):Sh:= .block a
def sp(j:Nat)(ins:List Nat)(outs:List (Nat×List Nat))(a:Sh):Sh:= .loop j (ins.map key) (outs.map λo=>(o.1,o.2.map key)) a
section
variable{R:Type}(l r:Fr)(v u:AV)(x:Option AV)(p:Pos)(fr:Fr)(k:AV->Option R)(K:Fr->Option R)(kp:Pos->Option R)
theorem QX:sV .h (.n l (some v) r) k=k v:=rfl
theorem QY:sV (.o p) (.n l x r) k=sV p l k:=rfl
theorem QZ:sV (.i p) (.n l x r) k=sV p r k:=rfl
theorem Mp:uB .h v .e K=K (.n .e (some v) .e):=rfl
theorem Mr:uB .h v (.n l x r) K=K (.n l (some v) r):=rfl
theorem Ms:uB (.o p) v .e K=uB p v .e λt=>K (.n t none .e):=rfl
theorem Mt:uB (.o p) v (.n l x r) K=uB p v l λt=>K (.n t x r):=rfl
theorem Mu:uB (.i p) v .e K=uB p v .e λt=>K (.n .e none t):=rfl
theorem Mw:uB (.i p) v (.n l x r) K=uB p v r λt=>K (.n l x t):=rfl
theorem Q0:uC none v fr K=K fr:=rfl
theorem Q1:uC (some p) v fr K=uB p v fr K:=rfl
theorem Mx:Ld .h kp=kp (.o .h):=rfl
theorem My:Ld (.o p) kp=kp (.i p):=rfl
theorem Mz:Ld (.i p) kp=Ld p λq=>kp (.o q):=rfl
theorem MA(f:KK R)(k:List (KK R)->Option R):Pm [] f k=k [f]:=rfl
theorem MB(a:KK R)(as:List (KK R))(f:KK R)(k:List (KK R)->Option R):Pm (a::as) f k=Pm as f λl=>k (a::l):=rfl
theorem UQ(st:St):pkR [] st=some (.tuple [],st):=rfl
theorem UR(st:St):pkR [v] st=some (v,st):=rfl
theorem US(vs:List AV)(st:St):pkR (v::u::vs) st=some (.tuple (v::u::vs),st):=rfl
theorem HX(c:ai)(F:Nat)(Ls:Un->List Q2->Nat->Q2)(ag:Q2)(ko:List Q2)(l:List Pos)(t:Tx)(vs:List AV)(st:St):j8 c F Ls ag ko (l,t) vs st=Bd l vs .e λfr=>ev c F Ls ag ko t [] [] fr st [] .e:=rfl
end
def qR{α:Type}:Option α->Bool
 |none=>true
 |some _=>false
theorem ab0{α:Type}{o:Option α}(h:qR o=true):o=none:=by cases o with|none=>rfl|some _=>cases h
theorem ab1{α:Type}[Inhabited α]{o:Option α}(h:qR o=false):o=some (o.getD default):=by cases o with|none=>cases h|some _=>rfl
def pN(G:T b7)(f:Nat):b7:=(G.get (key f)).getD default
theorem Xc{O:dR}{G:T b7}{F:Nat}{L:Env (AV×St)}{f:FuncId}{s:Sh}{args:List AV}{st:St}{r:AV×St}(hk:(qR (O f)&& !qR (G.get (key f)))=true)
  (hL:∀x∈dP (pN G f).code s,uw (run O G) F L x.1 x.2) {k:O2} (hd:xP (run O G) F L (pN G f) s args st=k) (h:k=some r):run O G f args st=some (tidy st r):=by
 simp only[Za8,Zh2]at hk;exact Zh (ab0 hk.1) (ab1 hk.2) hL (hd.trans h)
theorem Tv{O:dR}{G:T b7}{F:Nat}{f:FuncId}{args:List AV}{st:St}{r:AV×St}(s:Sh)(hk:(qR (O f)&& !qR (G.get (key f))&&(dP (pN G f).code s).isEmpty)=true)
  {k:O2} (hd:xP (run O G) F (Ph []) (pN G f) s args st=k) (h:k=some r):run O G f args st=some (tidy st r):=by
 rw[Za8,List.isEmpty_iff]at hk;exact Xc hk.1 (by rw[hk.2];intro x hx;cases hx) hd h
theorem MC{O:dR}{G:T b7}{F:Nat}{f:FuncId}{args:List AV}{st:St}{r:AV×St}(Ls:Un->List Q2->Nat->Q2)(s:Sh)(n:Nat)(hk:(qR (O f)&& !qR (G.get (key f))&&Nat.beq (dP (pN G f).code s).length n)=true)
  (hL:∀i,i<n->uw (run O G) F (mC Ls (pN G f) s) (eV (pN G f) s i).1 (eV (pN G f) s i).2) {k:O2} (hd:xP (run O G) F (mC Ls (pN G f) s) (pN G f) s args st=k) (h:k=some r):run O G f args st=some (tidy st r):=by
 rw[Za8]at hk;exact Xc hk.1 (Zi n hk.2 hL) hd h
theorem Tw {O:dR} {G:T b7}  {F:Nat}{f:FuncId}{args:List AV}{st:St}{r:AV×St}(Ls:Un->List Q2->Nat->Q2)(s:Sh)(hk:(qR (O f)&& !qR (G.get (key f))&&Nat.beq (dP (pN G f).code s).length 1)=true)
  (hs:(Mg (eV (pN G f) s 0).2&&Nat.beq (WQ (eV (pN G f) s 0).2) 0)=true) (h0:∀K' vs st,mC Ls (pN G f) s 0 K' 0 vs st=none)
  (h1:∀K' n vs st,mC Ls (pN G f) s 0 K' (n+1) vs st=Cs (den (run O G) F (mC Ls (pN G f) s) (eV (pN G f) s 0).1 (lpB (eV (pN G f) s 0).2)) (lpI (eV (pN G f) s 0).2) (WS (eV (pN G f) s 0).2) K' (mC Ls (pN G f) s 0 K' n) vs st)
  {k:O2} (hd:xP (run O G) F (mC Ls (pN G f) s) (pN G f) s args st=k) (h:k=some r):run O G f args st=some (tidy st r):=
 MC Ls s 1 hk (fun i hi=>by obtain rfl:i=0:=by omega
                            exact mB 0 hs h0 h1) hd h
end
section
open Go
theorem qb{R:Type}{Q:Option R->Prop}(P:(List AV->St->Option R)->Prop){A:(List AV->St->Option R)->Option R}{T:List AV->St->Option R}(hT:P T)(hA:∀j,P j->Q (A j)):Q (fY A T):=hA T hT
theorem Tz{m:Nat}(h1:1<=m)(h2:m<=18):m=1\/m=2\/m=3\/m=4\/m=5\/m=6\/m=7\/m=8\/m=9\/m=10\/m=11\/m=12\/m=13\/m=14\/m=15\/m=16\/m=17\/m=18:=by omega
end
section
def kP(tk:List Bool)(fr:Nat):Nat->Nat->Option Nat
 |0,_=>none
 |m+1,k=>if tk.getD ((fr+k) % tk.length) true=false then some ((fr+k) % tk.length)else kP tk fr m (k+1)
def kQ(tk:List Bool)(fr:Nat):List Bool×Int:=match kP tk fr tk.length 0 with
 |some s=>(tk.set s true,(s:Int))
 |none=>(tk,-1)
theorem xR{tk:List Bool}{fr s:Nat}:∀{m k:Nat},kP tk fr m k=some s->tk[s]? =some false
 |0,_,h=>by cases h
 |m +1,k,h=>by
  unfold kP at h;split at h
  . rename_i e;cases h;cases e2:tk[(fr+k) % tk.length]? with
    |none=>rw[Zb4,e2]at e;simp at e
    |some b=>rw[Zb4,e2]at e;simp at e;rw[e]
  .exact xR h
theorem EU{tk:List Bool}{fr:Nat}:∀{m k:Nat},kP tk fr m k=none->∀j,k<=j->j<k+m->tk.getD ((fr+j) % tk.length) true=true
 |0,_,_,j,h1,h2=>by omega
 |m +1,k,h,j,h1,h2=>by
  unfold kP at h;split at h
  .cases h
  . rename_i e;by_cases e2:j=k
    .subst e2;simpa using e
    .exact EU h j (by omega) (by omega)
def Le(tk:List Bool):Nat:=(tk.filter λb=> !b).length
theorem N9:∀{tk:List Bool},0<Le tk->∃s:Nat,tk[s]? =some false
 |[],h=>by simp[Le]at h
 |false::tk,_=>⟨0,rfl⟩
 |true::tk,h=>by
  obtain⟨s,hs⟩:=N9 (tk:=tk) (by simpa [Le]using h);exact⟨s+1,by simpa using hs⟩
theorem sW(tk:List Bool)(fr:Nat):((kQ tk fr).2= -1/\(kQ tk fr).1=tk/\Le tk=0)\/∃s:Nat,kQ tk fr=(tk.set s true,(s:Int))/\tk[s]? =some false:=by
 unfold kQ;cases e:kP tk fr tk.length 0 with
 |some s=>exact .inr ⟨s,rfl,xR e⟩
 |none=>
  refine .inl ⟨rfl,rfl,?_⟩;rcases Zn3 (Le tk)with h|h
  .exact h
  . exfalso;obtain⟨s,hs⟩:=N9 h;have hl:s<tk.length:=(Za0.1 hs).1;have key:=EU e ((s+tk.length - fr % tk.length) % tk.length) (Zk2 _) (by rw[Zc3];exact Zh8 _ (by omega));have hm:fr % tk.length<tk.length:=Zh8 _ (by omega);have:(fr+(s+tk.length - fr % tk.length) % tk.length) % tk.length=s:=by
        rw[Nat.add_mod,Nat.mod_mod];rcases Zh5 (s+tk.length - fr % tk.length) tk.length with h1|h1
        .rw[Zj3 h1];rw[show fr % tk.length+(s+tk.length - fr % tk.length)=s+tk.length by omega,Nat.add_mod_right,Zj3 hl]
        .rw[Zn2 h1,Zj3 (by omega:s+tk.length - fr % tk.length - tk.length<tk.length)];rw[show fr % tk.length+(s+tk.length - fr % tk.length - tk.length)=s by omega,Zj3 hl]
    rw[this,Zb4,hs]at key;simp at key
inductive Ch where
 |no
 |Gh (s:Nat)
 |fr (f:Nat)
def eZ(tk:List Bool):List Ch->List Int
 |[]=>[]
 |.no::l=> -1::eZ tk l
 | .Gh s::l=>(s:Int)::eZ tk l
 |.fr f::l=>(kQ tk f).2::eZ (kQ tk f).1 l
theorem DW:∀(l:List Ch)(tk:List Bool),(eZ tk l).length=l.length
 |[],_=>rfl
 |.no::l,tk=>by simp[eZ,DW l]
 | .Gh s::l,tk=>by simp[eZ,DW l]
 |.fr f::l,tk=>by simp[eZ,DW l]
theorem Xd(tk:List Bool)(f:Nat):(kQ tk f).1.length=tk.length:=by rcases sW tk f with⟨_,h,_⟩|⟨s,h,_⟩<;>rw[h]<;>simp
def Sat(tk:List Bool)(l:List Ch):Prop:=(∀s,Ch.Gh s∈l->tk[s]? =some true)/\∀(i j s:Nat),l[i]? =some (.Gh s)->l[j]? =some (.Gh s)->i=j
theorem Sat.tail{tk:List Bool}{c:Ch}{l:List Ch}(h:Sat tk (c::l)):Sat tk l:=
 ⟨λs hs=>h.1 s (Za6 _ hs),λi j s h1 h2=>by have:=h.2 (i+1) (j+1) s (by simpa using h1) (by simpa using h2);omega⟩
theorem Sat.place{tk:List Bool}{l:List Ch}(h:Sat tk l)(f:Nat):Sat (kQ tk f).1 l:=by
 refine⟨λs hs=> ?_,h.2⟩;have:=h.1 s hs;rcases sW tk f with⟨_,e,_⟩|⟨s',e,h'⟩<;>rw[e]
 .exact this
 . by_cases e2:s'=s
   .subst e2;rw[h']at this;cases this
   .rw[Zk8 e2];exact this
theorem tM:∀(l:List Ch)(tk:List Bool),Sat tk l->∀(i:Nat)(v:Int),(eZ tk l)[i]? =some v->v= -1\/∃s:Nat,v=(s:Int)/\(tk[s]? =some false\/(tk[s]? =some true/\l[i]? =some (.Gh s)))
 |[],_,_,i,v,h=>by simp[eZ]at h
 |c::l,tk,hs,0,v,h=>by
  cases c with
  |no=>simp[eZ]at h;exact .inl h.symm
  |Gh s=>simp[eZ]at h;exact .inr ⟨s,h.symm,.inr ⟨hs.1 s (Zc6),rfl⟩⟩
  |fr f=>
   simp[eZ]at h;rcases sW tk f with⟨e,_,_⟩|⟨s,e,h'⟩
   .    exact .inl (by rw[<-h,e])
   .    exact .inr ⟨s,by rw[<-h,e],.inl h'⟩
 |c::l    ,tk,hs,i+1,v,h=>by
  cases c with
  |no=>simpa using tM l tk hs.tail i v (by simpa [eZ]using h)
  |Gh s=>simpa using tM l tk hs.tail i v (by simpa [eZ]using h)
  |fr f=>
   have h:(eZ (kQ tk f).1 l)[i]? =some v:=(by simpa [eZ]using h);rcases tM l _ (hs.tail.place f) i v h with e|⟨s,e,h'⟩
   .    exact .inl e
   .    refine .inr ⟨s,e,?_⟩;rcases sW tk f with⟨_,e2,_⟩|⟨s',e2,h2⟩<;>rw[e2]at h'
        .simpa using h'
        . by_cases e3:s'=s
          .subst e3;exact .inl h2
          .rw[Zk8 e3]at h';simpa using h'
theorem yT:∀(l:List Ch)(tk:List Bool),Sat tk l->∀(i j:Nat)(v:Int),i<j->(eZ tk l)[i]? =some v->(eZ tk l)[j]? =some v->v= -1
 |[],_,_,i,j,v,_,h,_=>by simp[eZ]at h
 |c::l    ,tk,hs,0,j+1,v,_,h1,h2=>by
  cases c with
  |no=>simp[eZ]at h1;exact h1.symm
  |Gh s=>
   simp[eZ]at h1;rcases tM l tk hs.tail j v (by simpa [eZ]using h2)with e|⟨s',e,h'|h'⟩
   .    exact e
   .    have:=hs.1 s (Zc6);obtain rfl:s'=s:=(by omega);rw[this]at h';cases h'
   .    obtain rfl:s'=s:=(by omega);have:=hs.2 0 (j+1) s' rfl (by simpa using h'.2);omega
  |fr f=>
   simp[eZ]at h1;have h2:(eZ (kQ tk f).1 l)[j]? =some v:=(by simpa [eZ]using h2);rcases sW tk f with⟨e,_,_⟩|⟨s,e,h'⟩
   .    rw[<-h1,e]
   .    rcases tM l _ (hs.tail.place f) j v h2 with e2|⟨s',e2,h3|h3⟩
        .exact e2
        .rw[e]at h1 h3;obtain rfl:s'=s:=(by simp at h1;omega);have hl:=(Za0.1 h').1;simp[List.getElem?_set_self hl]at h3
        .rw[e]at h1;obtain rfl:s'=s:=(by simp at h1;omega);have:=hs.tail.1 s' (Zb5 h3.2);rw[h']at this;cases this
 |c::l,tk,hs,i+1,j+1,v,Q3,h1,h2=>by
  cases c with
  |no=>exact yT l tk hs.tail i j v (by omega) (by simpa [eZ]using h1) (by simpa [eZ]using h2)
  |Gh s=>exact yT l tk hs.tail i j v (by omega) (by simpa [eZ]using h1) (by simpa [eZ]using h2)
  |fr f=>exact yT l _ (hs.tail.place f) i j v (by omega) (by simpa [eZ]using h1) (by simpa [eZ]using h2)
def looks:List Ch->Nat
 |[]=>0
 |.fr _::l=>looks l+1
 |_::l=>looks l
end
section
open Go
section
variable{R:Type}{c:ai}
end
theorem Zz{R:Type}(K:AV->Option R){b:Pos}{off len es es':Nat}{cap:Option Nat}{k:IntKind}{i:Nat}(h:i<len):ey (.idxA es none) [.slice b off len cap es',.int k (i:Int)] K=K (.ptr b (off+i*es)):=
 cV K (λH n=>by
  simp only[av.run,lA,gO];have:Nat.blt i len=true:=by rw[Zn7];exact h
  rw[this])
structure Rd(s:St)(es:Nat)(L:AV)(i:Nat)(b:Pos)(o:Nat)(r:List AV):Prop where
 st:∀{R:Type}(c:ai)(K:AV->St->Option R)(k:IntKind)(s1:St),ak c (.idxA es none) [L,.int k (i:Int)] s1 K=K (.ptr b o) s1
 pr:∀{R:Type}(K:AV->Option R)(k:IntKind),ey (.idxA es none) [L,.int k (i:Int)] K=K (.ptr b o)
 at':∀(j:Nat)(u:AV),r[j]? =some u->((cellsOf (s.heap.get b)).bind λcs=>cs[o+j]?)=some u
 all:((cellsOf (s.heap.get b)).bind λcs=>cut cs o es)=some r
theorem QS.rd{s:St}{es:Nat}{v:AV}{rows:List (List AV)}(h:QS es s v rows)(hr:∀r∈rows,r.length=es){i:Nat}{r:List AV}(hi:rows[i]? =some r):∃b o,Rd s es v i b o r:=by
 obtain⟨jt,rfl⟩:=Za0.1 hi;have hlen:=hr _ (Zb9 jt);rcases h with⟨rfl,h⟩|⟨b,off,cap,cs,rfl,g1,g2,g3,g4⟩|⟨b,off,rfl,h⟩
 .rw[h]at jt;simp at jt
 rotate_left
 .rw[h]at jt;simp at jt
 have hmul:(i+1)*es<=rows.length*es:=Zf5 _ jt;rw[Zh0]at hmul;have at0:∀(j:Nat)(u:AV),rows[i][j]? =some u->cs[off+i*es+j]? =some u:=λj u hj=>by have W4:j<es:=(by rw[<-hlen];exact(Za0.1 hj).1);have:=Go.Ai.wm hr i j rows[i] u (H4 jt) hj;rw[<-g3,Zb8,Za7 (by omega),Zc4]at this;rw[<-this];congr 1;omega
 refine⟨b,off+i*es,λc K k s1=>wj c K s1 jt,λK k=>Zz K jt,λj u hj=>by rw[g1];exact at0 j u hj,?_⟩;rw[g1];show cut cs (off+i*es) es=some rows[i];unfold cut;rw[eW,H5 (by omega)];refine congrArg some ?_;apply Zh1;intro j;by_cases hj:j<es
 .rw[Zb8,Za7 hj,Zc4];exact(at0 j (rows[i]'jt)[j] (H4 (by omega))).trans (H4 (by omega)).symm
 .rw[Zb7 (by simp;omega),Zb7 (by omega)]
theorem Rd.one{s:St}{L x:AV}{i:Nat}{b:Pos}{o:Nat}(h:Rd s 1 L i b o [x]):((cellsOf (s.heap.get b)).bind λcs=>cs[o]?)=some x:=h.at' 0 x rfl
theorem QS.Oa{s:St}{v:AV}{l:List AV}(h:QS 1 s v (l.map Zv)){i:Nat}{x:AV}(hx:l[i]? =some x):∃b o,Rd s 1 v i b o [x]:=
 h.rd (Zw l) (by rw[Zc0,hx];rfl)
theorem QS.aA{es:Nat}{s s':St}{v:AV}{rows:List (List AV)}(h:QS es s v rows)(g:Grew s s'):QS es s' v rows:=h.mono λb x _ hx=>g.get hx
section
variable{c:ai}{R:Type}
theorem aaQ{x:Int}(h1:0<=x)(h2:x<=18446744073709551615):ay .u64 x=x:=by
 unfold ay Nl Nm;simp only;split
 . split
   .rfl
   .contradiction
 .contradiction
end
theorem T.JF{α:Type}{x:α}:∀(p:Pos)(t:T α),t.get p=some x->T.put (some x) p t=t
 |p,.e,h=>by rw[T.cZ]at h;cases h
 |.h,.n l v r,h=>by have h:v=some x:=h;subst h;rfl
 | .o p,.n l v r,h=>by
   have h:l.get p=some x:=h;simp only[T.put];rw[T.JF p l h]
 | .i p,.n l v r,h=>by
   have h:r.get p=some x:=h;simp only[T.put];rw[T.JF p r h]
theorem ab2{s:St}{p:Pos}{b:AB}(h:s.heap.get p=some b):cm s p b=s:=by
 unfold cm;rw[T.JF p s.heap h]
end
end Go.Ai
