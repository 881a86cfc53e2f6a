/- Functions of the program as plain functions over the evaluator's values, and data that a caller lays as such values. -/
import Derived.Test.YthiaklapeamjlaaGreatDoorCEvalD
import Derived.KernelRfl
import Derived.ChangeArms
import Derived.WalkKit
import Derived.OpenShut
import Derived.ProofKit
import Derived.Below
import Derived.Carry
import Derived.WideShapes
import Derived.ChangeSame
import Derived.ChangeMaps5
import Derived.ShutString
set_option linter.all false
set_option linter.unusedSectionVars false
set_option linter.deprecated false
namespace Go.Ai
section
open Go Go.RowKit
def RU (c c':ak):Prop:= ∀f args st r,c f args st=some r->c' f args st=some r
theorem RU.refl (c:ak):RU c c:=fun _ _ _ _ h=>h
section
variable {c c' : ak}
theorem Lc (h:RU c c') {k:aC} {xs:List AV} {st:St} {r:AV×St} (e:bP c k xs st=some r):bP c' k xs st=some r:=by
 unfold bP at e ⊢
 cases hr:k.run (fun b=>st.heap.get b) st.next xs with
 |none=>simp[hr] at e
 |some x=>cases x with
  |val v=>simpa [hr] using e
  |aL v d s n=>simpa [hr] using e
  |call f args=>simp only[hr] at e ⊢; exact h _ _ _ _ e
theorem Qx (h:RU c c'): ∀(os:List bD) (fr:Fr) (st:St) (r:Fr×St),jt c os fr st=some r->jt c' os fr st=some r
 |[],_,_,_,e=>e
 |o::os,fr,st,r,e=>by
  unfold jt at e ⊢
  cases hw:bM fr o.guard with
  |none=>simp[hw] at e
  |some b=>cases b with
   |false=>simp only[hw] at e ⊢; exact Qx h _ _ _ _ e
   |    true=>
        simp only[hw] at e ⊢
        cases hx:ey fr o.xs with
        |none=>simp[hx] at e
        |some xs=>
         simp only[hx] at e ⊢
         cases hs:bP c o.k xs st with
         |none=>simp[hs] at e
         |some p=>simp only[hs] at e;simp only[Lc h hs];exact Qx h _ _ _ _ e
theorem Tc (h:RU c c'): ∀(os:List (Nat×bD)) (recs:List Rec) (base:T AB) (fr:Fr) (st:St) (r:Fr×St),cW c os recs base fr st=some r->cW c' os recs base fr st=some r
 |[],_,_,_,_,_,e=>e
 |(j,   o)::os,recs,base,fr,st,r,e=>by
  have ih:=Tc h os
  unfold cW at e ⊢
  cases hw:bM fr o.guard with
  |none=>simp[hw] at e
  | some b=>cases b with
    |false=>simp only[hw] at e ⊢; exact ih _ _ _ _ _ e
    |   true=>
        simp only[hw] at e ⊢
        cases hx:ey fr o.xs with
        |none=>simp[hx] at e
        |some xs=>
         simp only[hx] at e ⊢
         cases hc:o.cls with
         |  aL=>
            simp only[hc] at e ⊢
            cases hs:bP c o.k xs st with
            |none=>simp[hs] at e
            |some p=>simp only[hs] at e;simp only[Lc h hs];exact ih _ _ _ _ _ e
         |  new=>
            simp only[hc] at e ⊢
            split at e<;>first|(cases e;done)|exact ih _ _ _ _ _ e
         |  pure=>
            simp only[hc] at e ⊢
            split at e<;>(try split at e)<;>(try split at e)<;>first|(cases e;done)|(simp only[*];exact ih _ _ _ _ _ e)|exact ih _ _ _ _ _ e
         |  read=>
            simp only[hc] at e ⊢
            split at e<;>(try split at e)<;>(try split at e)<;>first|(cases e;done)|(simp only[*];exact ih _ _ _ _ _ e)|exact ih _ _ _ _ _ e
theorem Qy (h:RU c c'): ∀(n m:Nat),n<=m-> ∀(a:AC) (fr:Fr) (st:St) (r:lQ×Fr×St),exec c n a fr st=some r->exec c' m a fr st=some r
 |0,_,_,_,_,_,_,e=>by simp[exec] at e
 |n+1,0,hm,_,_,_,_,_=>by omega
 |n+    1,m+1,hm,a,fr,st,r,e=>by
  have ih:=Qy h n m (by omega)
  cases a<;>simp only[exec,bg] at e ⊢
  case skip=>exact e
  case exit=>exact e
  case ret=>exact e
  case region ops=>
   cases ho:jt c ops fr st with
   |none=>simp[ho] at e
   |some p=>simp only[ho] at e;simp only[Qx h _ _ _ _ ho];exact e
  case draw ops=>
   cases ho:cW c ops [] st.heap fr st with
   |none=>simp[ho] at e
   |some p=>simp only[ho] at e;simp only[Tc h _ _ _ _ _ _ ho];exact e
  case seq a b=>
   cases ha:exec c n a fr st with
   |none=>simp[ha] at e
   |    some p=>
        obtain ⟨ex,fE,bk⟩:=p
        simp only[ha] at e;simp only[ih _ _ _ _ ha]
        cases ex<;>first|exact e|exact ih _ _ _ _ e
  case cond x a b=>
   split at e
   .    exact ih _ _ _ _ e
   .    exact ih _ _ _ _ e
   .    cases e
  case block id a=>
   cases ha:exec c n a fr st with
   |none=>simp[ha] at e
   |    some p=>
        obtain ⟨ex,fE,bk⟩:=p
        simp only[ha] at e;simp only[ih _ _ _ _ ha]
        cases ex<;>exact e
  case loop a=>
   cases ha:exec c n a fr st with
   |none=>simp[ha] at e
   |    some p=>
        obtain ⟨ex,fE,bk⟩:=p
        simp only[ha] at e;simp only[ih _ _ _ _ ha]
        cases ex<;>first|exact e|exact ih _ _ _ _ e
end
def Plain (v:AV):Prop:= ∀(ρ ρ':Pos->Loc) (n n':Nat) (C:Cells) (x:Value),av ρ n C v x->av ρ' n' C v x
theorem Plain.bool (b:Bool):Plain (.bool b):=fun _ _ _ _ _ _ h=>by cases h;exact .bool b
theorem Plain.int (k:IntKind) (i:Int):Plain (.int k i):=fun _ _ _ _ _ _ h=>by cases h;exact .int k i
theorem Plain.str (s:List Nat):Plain (.str s):=fun _ _ _ _ _ _ h=>by cases h with|str _ bs h=>exact .str s bs h
theorem Plain.dP:Plain .dP:=fun _ _ _ _ _ _ h=>by cases h;exact .dP
theorem Plain.ah:Plain .ah:=fun _ _ _ _ _ _ h=>by cases h;exact .ah
theorem Plain.js:Plain .js:=fun _ _ _ _ _ _ h=>by cases h;exact .js
theorem Plain.func (f:FuncId) {a b:List AV} (ha: ∀v∈a,Plain v) (hb: ∀v∈b,Plain v):Plain (.func f a b):=fun _ _ _ _ _ _ h=>by
 cases h with
 |func _ _ _ a' b' hx hy h1 h2=>exact .func f a b a' b' hx hy (fun i v x hv hx=>ha v (List.mem_of_getElem? hv) _ _ _ _ _ _ (h1 i v x hv hx)) (fun i v x hv hx=>hb v (List.mem_of_getElem? hv) _ _ _ _ _ _ (h2 i v x hv hx))
theorem Plain.tuple {l:List AV} (hl: ∀v∈l,Plain v):Plain (.tuple l):=fun _ _ _ _ _ _ h=>by
 cases h with
 |tuple _ cs hx h1=>exact .tuple l cs hx fun i v x hv hx=>hl v (List.mem_of_getElem? hv) _ _ _ _ _ _ (h1 i v x hv hx)
theorem Plain.agg {l:List AV} (hl: ∀v∈l,Plain v):Plain (.agg l):=fun _ _ _ _ _ _ h=>by
 cases h with
 |agg _ cs hx h1=>exact .agg l cs hx fun i v x hv hx=>hl v (List.mem_of_getElem? hv) _ _ _ _ _ _ (h1 i v x hv hx)
theorem Plain.fl {xs:List (List AV)} {es:Nat} (hl: ∀cs∈xs,∀v∈cs,Plain v):Plain (.fl xs es):=fun _ _ _ _ _ _ h=>by
 cases h with
 |fl _ _ aN a cell h1 h2 h3 h4 h5=>exact .fl xs es aN a cell h1 h2 h3 h4 fun i j cs v hi hj=>hl cs (List.mem_of_getElem? hi) v (List.mem_of_getElem? hj) _ _ _ _ _ _ (h5 i j cs v hi hj)
def aM (st st':St):Prop:= ∀b x,st.heap.get b=some x->st'.heap.get b=some x
theorem aM.refl (st:St):aM st st:=fun _ _ h=>h
theorem aM.trans {a b c:St} (h:aM a b) (k:aM b c):aM a c:=fun _ _ e=>k _ _ (h _ _ e)
theorem av.down {ρ ρ':Pos->Loc} {n n':Nat} {C:Cells} {v:AV} {x:Value} (h:av ρ' n' C v x): ∀{y:Value},av ρ n C v y->(∀b:Pos,b.toNat<n->ρ' b=ρ b)->av ρ n C v x:=by
 induction h with
 |bool b=>exact fun h _=> .bool b
 |int k i=>exact fun h _=> .int k i
 |str s bs h=>exact fun _ _=> .str s bs h
 |dP=>exact fun _ _=> .dP
 |ptr b off h=>
  intro y h aS
  cases h with
  |ptr _ _ h'=>rw[aS b h'];exact .ptr b off h'
 |fp xs i j es aE base cell hl hc hv ih=>
  intro y h aS
  cases h with
  |fp _ _ _ es' Cw adM akM hl' wq Jk=>exact .fp xs i j es aE base cell hl hc fun i j cs v hi hj=>ih i j cs v hi hj (Jk i j cs v hi hj) aS
 |ah=>exact fun _ _=> .ah
 |slice  b off len cap es aN a hl hc ha hk=>
  intro y h aS
  cases h with
  |slice _ _ _ _ _ adH a' hl' wq ha' kM=>
   refine .slice b off len cap es aN a hl hc (fun h0=> ?_) kM
   obtain ⟨h1,h2,h3⟩:=ha h0
   have hb:b.toNat<n:=by
        cases cap with
        |none=>exact kM rfl
        |some c=>
         have e1:=hc c rfl
         have e2:=wq c rfl
         exact (ha' (by rw[<-e2,e1];exact h0)).1
   rw[aS b hb] at h2 h3;exact ⟨hb,h2,h3⟩
 |fl xs es aN a cell hl hs ei hc hv ih=>
  intro y h aS
  cases h with
  |fl _ _ adH a' akM hl' mF hes' wq Jk=>exact .fl xs es aN a cell hl hs ei hc fun i j cs v hi hj=>ih i j cs v hi hj (Jk i j cs v hi hj) aS
 |mA=>exact fun _ _=> .mA
 |map b h=>
  intro y h aS
  cases h with
  |map _ h'=>rw[aS b h'];exact .map b h'
 |func f x y x' y' hx hy h1 h2 ih1 ih2=>
  intro z h aS
  cases h with
  |func _ _ _ a' b' kx ky k1 k2=>
   refine .func f x y x' y' hx hy (fun i v x hv um=> ?_) (fun i v x hv um=> ?_)
   .    have hi:i<a'.size:=by rw[<-kx];exact (List.getElem?_eq_some_iff.1 hv).1
        exact ih1 i v x hv um (k1 i v _ hv (Array.getElem?_eq_getElem hi)) aS
   .    have hi:i<b'.size:=by rw[<-ky];exact (List.getElem?_eq_some_iff.1 hv).1
        exact ih2 i v x hv um (k2 i v _ hv (Array.getElem?_eq_getElem hi)) aS
 |js=>exact fun _ _=> .js
 |xG=>exact fun _ _=> .xG
 |iface t v x _ ih=>
  intro y h aS
  cases h with
  |iface _ _ x' h'=>exact .iface t v x (ih h' aS)
 |agg l cs hx h1 ih=>
  intro y h aS
  cases h with
  |agg _ je kx k1=>
   refine .agg l cs hx fun i v x hv um=> ?_
   have hi:i<je.size:=by rw[<-kx];exact (List.getElem?_eq_some_iff.1 hv).1
   exact ih i v x hv um (k1 i v _ hv (Array.getElem?_eq_getElem hi)) aS
 |tuple l cs hx h1 ih=>
  intro y h aS
  cases h with
  |tuple _ je kx k1=>
   refine .tuple l cs hx fun i v x hv um=> ?_
   have hi:i<je.size:=by rw[<-kx];exact (List.getElem?_eq_some_iff.1 hv).1
   exact ih i v x hv um (k1 i v _ hv (Array.getElem?_eq_getElem hi)) aS
end
noncomputable section
open Go Go.RowKit
def tidy (st:St) (r:AV×St):AV×St:=open Classical in if Plain r.1/\aM st r.2 then (r.1,st) else r
theorem ae3 {ρ:Pos->Loc} {C:Cells} {st:St} {w w':World} {r:AV×St} {x:Value} (hW:bA ρ C st w) (h:jY ρ C st w r.1 r.2 x w'):
   jY ρ C st w (tidy st r).1 (tidy st r).2 x w':=by
 unfold tidy
 split
 . rename_i hp
   obtain ⟨ρ',hv,aS,hn,dX,hE⟩:=h
   refine ⟨ρ,hp.1 _ _ _ _ _ _ hv,fun _ _=>rfl,Nat.le_refl _,⟨fun b y hb=> ?_,hW.inj,fun a u ha=>⟨(dX.cZ a u ha).1,(hW.cZ a u ha).2⟩,dX.whole⟩,⟨hE.os,hE.tape,hE.output,hE.size,hE.block,fun b y hb=> .inl ⟨b,y,hb,rfl⟩⟩⟩
   obtain ⟨g1,g2,g3⟩:=hW.live b y hb
   obtain ⟨_,_,k3⟩:=dX.live b y (hp.2 b y hb)
   refine ⟨g1,Nat.lt_of_lt_of_le g2 hE.size,?_⟩
   rw[aS b g1] at k3
   cases y with
   |cells cs fz=>
    obtain ⟨c,e,fr,q1,q2,q3,q4,q5⟩:=k3
    obtain ⟨c0,e0,bY,p1,p2,p3,p4,p5⟩:=g3
    refine ⟨c,e,fr,q1,q2,q3,⟨q4.1,fun i v x hv hx=> ?_⟩,q5⟩
    obtain ⟨y0,hy0,GN⟩:=p4.get hv
    exact (q4.2 i v x hv hx).down GN aS
   |map es clock=>
    obtain ⟨es',q1,q2,q3⟩:=k3
    obtain ⟨es0,p1,p2,p3⟩:=g3
    refine ⟨es',q1,q2,fun i e e' he mB=> ?_⟩
    obtain ⟨a1,a2,a3⟩:=q3 i e e' he mB
    have hi:i<es0.size:=by rw[<-p2];exact (List.getElem?_eq_some_iff.1 he).1
    obtain ⟨b1,b2,_⟩:=p3 i e _ he (Array.getElem?_eq_getElem hi)
    exact ⟨a1.down b1 aS,a2.down b2 aS,a3⟩
   |jM s pos=>exact k3
   |typed t cs=>
    obtain ⟨c,fr,q1,q2,q3,q4,q5⟩:=k3
    obtain ⟨c0,bY,p1,p2,p3,p4,p5⟩:=g3
    refine ⟨c,fr,q1,q2,q3,⟨q4.1,fun i v x hv hx=> ?_⟩,q5⟩
    obtain ⟨y0,hy0,GN⟩:=p4.get hv
    exact (q4.2 i v x hv hx).down GN aS
 . exact h
theorem ae4 {st:St} {r:AV×St} (h:st.next.toNat<=r.2.next.toNat):st.next.toNat<=(tidy st r).2.next.toNat:=by
 unfold tidy;split
 . exact Nat.le_refl _
 . exact h
def tr (call:ak) (m:Nat) (F:cL) (args:List AV) (st:St):Option (AV×St):=
 match Nat.beq args.length F.nparams with
 |  true=>match exec call m F.code (params 0 args .e) st with
    |some (.normal,fr,st')=>match fC (fun b=>st'.heap.get b) fr F.results with
     |some vs=>some (xg vs,st')
     |none=>none
    |some (.ret,fr,st')=>match fC (fun b=>st'.heap.get b) fr F.results with
     |some vs=>some (xg vs,st')
     |none=>none
    |_=>none
 |false=>none
def tu (O:dQ) (G:T cL) (m:Nat):Nat->ak
 |0=>fun _ _ _=>none
 |  d+1=>fun f args st=>match O f with
    |some s=>s args st
    |none=>match G.get (key f) with
     |some F=>(tr (tu O G m d) m F args st).map (tidy st)
     |none=>none
section
variable {P : Program} {tt : TT} {C : Cells}
theorem adN (hT:cr P tt) {G:T cL} (hG:T8 P tt G) {call:ak} (gw:jS P C call) (zh:Oa P tt C call) (m:Nat) {f:FuncId} {F:cL} (hF:G.get (key f)=some F)
   {ρ:Pos->Loc} {st:St} {w:World} {args:List AV} {v:AV} {st':St} {bQ:List Value} (h:tr call m F args st=some (v,st')) (hW:bA ρ C st w) (xq:aA ρ st.next.toNat C args bQ):
   Reaches P (jY ρ C st w v st') ((callFunc f bQ.toArray).run P w):=by
 unfold tr at h
 split at h<;>first|(cases h;done)|skip
 rename_i hlen
 have hlen:=Nat.eq_of_beq_eq_true hlen
 obtain ⟨fn,kY,qJ,EP⟩:=hG _ _ hF
 rw[iO,Nat.add_sub_cancel] at kY
 unfold YQ at EP
 split at EP<;>first|(cases EP;done)|skip
 rename_i c hb
 split at EP<;>first|(cases EP;done)|skip
 rename_i ac rs hac hrs hle
 simp only[Option.some.injEq] at EP;subst EP
 simp only at h hlen
 have hle:=Nat.le_of_ble_eq_true hle
 have bU:(callFunc f bQ.toArray).run P w= .ok (.enter f bQ.toArray) w:=by
   have ZC: ¬fn.name= "runtime.NumGoroutine" :=by simpa using qJ
   simp[callFunc,kY,ZC,hb]
 rw[bU]
 simp only[Reaches]
 refine calls_of_wp kY hb ?_
 have eI:bQ.length<=fn.ntmps:=by rw[<-xq.1,hlen];exact hle
 have hS:KN fn.ntmps ρ C (params 0 args .e) st { tmps:=bQ.toArray++Array.replicate (fn.ntmps - bQ.toArray.size) undef,defers:=[] } w:=by
   refine ⟨hW,?_,?_,rfl⟩
   . refine KP args bQ 0 .e xq (fun j x hx=> ?_) (fun p v hp=>by rw[T.cX] at hp;cases hp)
     have hj:j<bQ.length:=(List.getElem?_eq_some_iff.1 hx).1
     rw[Nat.zero_add,Array.getElem?_append_left (by simpa using hj)]
     simpa using hx
   . simp;omega
 split at h<;>first|(cases h;done)|skip
 . rename_i fE bk h1
   split at h<;>first|(cases h;done)|skip
   rename_i vs qu
   simp only[Option.some.injEq,Prod.mk.injEq] at h
   obtain ⟨rfl,rfl⟩:=h
   refine (zi hT gw zh m).1 c ac _ fE st bk .normal ρ _ w _ hac h1 hS fun a' w' hp=> ?_
   obtain ⟨ig,uj,k1,k2,k3⟩:=hp
   obtain ⟨y,Rx,Ry⟩:=xp hT uj.W uj.F hrs qu
   exact ⟨uj.defers,y,Rx,ig,Ry,k1,k2,uj.W,k3⟩
 . rename_i fE bk h1
   split at h<;>first|(cases h;done)|skip
   rename_i vs qu
   simp only[Option.some.injEq,Prod.mk.injEq] at h
   obtain ⟨rfl,rfl⟩:=h
   refine (zi hT gw zh m).1 c ac _ fE st bk .ret ρ _ w _ hac h1 hS fun a' w' hp=> ?_
   obtain ⟨ig,uj,k1,k2,k3⟩:=hp
   obtain ⟨y,Rx,Ry⟩:=xp hT uj.W uj.F hrs qu
   exact ⟨uj.defers,y,Rx,ig,Ry,k1,k2,uj.W,k3⟩
theorem ae5 {call:ak} (hm:kR call) {m:Nat} {F:cL} {args:List AV} {st:St} {v:AV} {st':St} (h:tr call m F args st=some (v,st')):st.next.toNat<=st'.next.toNat:=by
 unfold tr at h
 split at h<;>first|(cases h;done)|skip
 split at h<;>first|(cases h;done)|skip
 all_goals
  rename_i h1
  split at h<;>first|(cases h;done)|skip
  simp only[Option.some.injEq,Prod.mk.injEq] at h
  obtain ⟨rfl,rfl⟩:=h
  exact GP hm _ _ _ _ _ _ _ h1
theorem Uo {O:dQ} {G:T cL} (hO:kg O) (m:Nat): ∀d,kR (tu O G m d)
 |0=>fun f args st v st' h=>by simp[tu] at h
 |d +1=>fun f args st v st' h=>by
  unfold tu at h
  split at h
  . rename_i s hs;exact hO _ _ hs _ _ _ _ h
  . split at h<;>first|(cases h;done)|skip
    simp only[Option.map_eq_some_iff] at h
    obtain ⟨r,hr,he⟩:=h
    have:=ae5 (Uo hO m d) (v:=r.1) (st':=r.2) hr
    have:=ae4 this
    rw[he] at this;exact this
theorem RV (hm:P.follows .mixedOrders=true) (hT:cr P tt) {O:dQ} {G:T cL} (hO:qI P C O) (RT:kg O) (hG:T8 P tt G) (m:Nat): ∀d,jS P C (tu O G m d)
 |0=>fun ρ st w f args v st' bQ h=>by simp[tu] at h
 |d +1=>by
  intro ρ st w f args v st' bQ h hW xq
  have ih:=RV hm hT hO RT hG m d
  unfold tu at h
  split at h
  . rename_i s hs
    exact hO f s hs ρ st w args v st' bQ h hW xq
  . split at h<;>first|(cases h;done)|skip
    rename_i F hF
    simp only[Option.map_eq_some_iff] at h
    obtain ⟨r,hr,he⟩:=h
    refine Reaches.mono (fun x w' hp=> ?_) (adN hT hG ih (Uf hm hT ih (Uo RT m d)) m hF (v:=r.1) (st':=r.2) hr hW xq)
    have:=ae3 hW hp
    rw[he] at this;exact this
end
theorem acC {c c':ak} (h:RU c c') {n m:Nat} (hn:n<=m) {F:cL} {args:List AV} {st:St} {r:AV×St} (e:tr c n F args st=some r):tr c' m F args st=some r:=by
 unfold tr at e ⊢
 split at e<;>first|(cases e;done)|skip
 split at e<;>first|(cases e;done)|skip
 all_goals
  rename_i h1
  simp only[Qy h n m hn _ _ _ _ h1]
  exact e
theorem Td (O:dQ) (G:T cL) {n m:Nat} (hn:n<=m): ∀d d',d<=d'->RU (tu O G n d) (tu O G m d')
 |0,_,_=>fun _ _ _ _ e=>by simp[tu] at e
 |_+1,0,h=>by omega
 |d +1,d'+1,h=>fun f args st r e=>by
  have ih:=Td O G hn d d' (by omega)
  unfold tu at e ⊢
  split at e
  . exact e
  . split at e<;>first|(cases e;done)|skip
    simp only[Option.map_eq_some_iff] at e ⊢
    obtain ⟨q,hq,he⟩:=e
    exact ⟨q,acC ih hn hq,he⟩
def cn (O:dQ) (G:T cL) (n:Nat):ak:=tu O G n n
theorem Ld (O:dQ) (G:T cL) {n m:Nat} (h:n<=m):RU (cn O G n) (cn O G m):=Td O G h n m h
def run (O:dQ) (G:T cL):ak:=fun f args st=>open Classical in
 if h: ∃(r:AV×St) (n:Nat),cn O G n f args st=some r then some h.choose else none
variable {O : dQ} {G : T cL}
theorem ae6 {f:FuncId} {args:List AV} {st:St} {r:AV×St} {n:Nat} (h:cn O G n f args st=some r):run O G f args st=some r:=by
 unfold run
 have hx: ∃(r:AV×St) (n:Nat),cn O G n f args st=some r:=⟨r,n,h⟩
 rw[dif_pos hx]
 obtain ⟨m,hm⟩:=hx.choose_spec
 have h1:=Ld O G (Nat.le_max_left n m) f args st _ h
 have h2:=Ld O G (Nat.le_max_right n m) f args st _ hm
 rw[h1] at h2
 exact h2.symm
theorem ZU {f:FuncId} {args:List AV} {st:St} {r:AV×St} (h:run O G f args st=some r): ∃n,cn O G n f args st=some r:=by
 unfold run at h
 split at h
 . rename_i hx
   simp only[Option.some.injEq] at h
   rw[<-h];exact hx.choose_spec
 . cases h
theorem Up {k:aC} {xs:List AV} {st:St} {r:AV×St} (e:bP (run O G) k xs st=some r): ∃n,bP (cn O G n) k xs st=some r:=by
 unfold bP at e
 cases hr:k.run (fun b=>st.heap.get b) st.next xs with
 |none=>simp[hr] at e
 |some x=>cases x with
  |val v=>exact ⟨0,by simpa [bP,hr] using e⟩
  |aL v d s n=>exact ⟨0,by simpa [bP,hr] using e⟩
  |call f args=>
   simp only[hr] at e
   obtain ⟨n,hn⟩:=ZU e
   exact ⟨n,by simpa [bP,hr] using hn⟩
theorem Oj: ∀(os:List bD) (fr:Fr) (st:St) (r:Fr×St),jt (run O G) os fr st=some r-> ∃n,jt (cn O G n) os fr st=some r
 |[],_,_,_,e=>⟨0,e⟩
 |o::os,fr,st,r,e=>by
  unfold jt at e
  cases hw:bM fr o.guard with
  |none=>simp[hw] at e
  |some b=>cases b with
   |    false=>
        simp only[hw] at e
        obtain ⟨n,hn⟩:=Oj os _ _ _ e
        exact ⟨n,by unfold jt;simp only[hw];exact hn⟩
   |    true=>
        simp only[hw] at e
        cases hx:ey fr o.xs with
        |none=>simp[hx] at e
        |some xs=>
         simp only[hx] at e
         cases hs:bP (run O G) o.k xs st with
         |none=>simp[hs] at e
         |some p=>
          simp only[hs] at e
          obtain ⟨n,hn⟩:=Oj os _ _ _ e
          obtain ⟨m,hm⟩:=Up hs
          refine ⟨max n m,?_⟩
          unfold jt
          simp only[hw,hx,Lc (Ld O G (Nat.le_max_right n m)) hm]
          exact Qx (Ld O G (Nat.le_max_left n m)) _ _ _ _ hn
theorem Uq: ∀(os:List (Nat×bD)) (recs:List Rec) (base:T AB) (fr:Fr) (st:St) (r:Fr×St),cW (run O G) os recs base fr st=some r-> ∃n,cW (cn O G n) os recs base fr st=some r
 |[],_,_,_,_,_,e=>⟨0,e⟩
 |(j,   o)::os,recs,base,fr,st,r,e=>by
  have ih:=Uq os
  unfold cW at e
  cases hw:bM fr o.guard with
  |none=>simp[hw] at e
  | some b=>cases b with
    |   false=>
        simp only[hw] at e
        obtain ⟨n,hn⟩:=ih _ _ _ _ _ e
        exact ⟨n,by unfold cW;simp only[hw];exact hn⟩
    |   true=>
        simp only[hw] at e
        cases hx:ey fr o.xs with
        |none=>simp[hx] at e
        |some xs=>
         simp only[hx] at e
         cases hc:o.cls with
         |aL=>
          simp only[hc] at e
          cases hs:bP (run O G) o.k xs st with
          |none=>simp[hs] at e
          | some p=>
            simp only[hs] at e
            obtain ⟨n,hn⟩:=ih _ _ _ _ _ e
            obtain ⟨m,hm⟩:=Up hs
            refine ⟨max n m,?_⟩
            unfold cW
            simp only[hw,hx,hc,Lc (Ld O G (Nat.le_max_right n m)) hm]
            exact Tc (Ld O G (Nat.le_max_left n m)) _ _ _ _ _ _ hn
         |new=>
          simp only[hc] at e
          split at e<;>first|(cases e;done)|skip
          obtain ⟨n,hn⟩:=ih _ _ _ _ _ e
          refine ⟨n,?_⟩
          unfold cW
          simp only[*]
         |pure=>
          simp only[hc] at e
          split at e<;>(try split at e)<;>(try split at e)<;>first|(cases e;done)|skip
          all_goals
            obtain ⟨n,hn⟩:=ih _ _ _ _ _ e
            refine ⟨n,?_⟩
            unfold cW
            simp only[*]
         |read=>
          simp only[hc] at e
          split at e<;>(try split at e)<;>(try split at e)<;>first|(cases e;done)|skip
          all_goals
            obtain ⟨n,hn⟩:=ih _ _ _ _ _ e
            refine ⟨n,?_⟩
            unfold cW
            simp only[*]
theorem Xk: ∀(n:Nat) (a:AC) (fr:Fr) (st:St) (r:lQ×Fr×St),exec (run O G) n a fr st=some r-> ∃m,exec (cn O G m) n a fr st=some r
 |0,_,_,_,_,e=>by simp[exec] at e
 |n+    1,a,fr,st,r,e=>by
  have ih:=Xk n
  have up: ∀{m m':Nat} {a:AC} {fr:Fr} {st:St} {r:lQ×Fr×St},m<=m'->exec (cn O G m) n a fr st=some r->exec (cn O G m') n a fr st=some r:=
   fun h e=>Qy (Ld O G h) _ _ (Nat.le_refl _) _ _ _ _ e
  cases a<;>simp only[exec,bg] at e
  case skip=>exact ⟨0,e⟩
  case exit=>exact ⟨0,e⟩
  case ret=>exact ⟨0,e⟩
  case region ops=>
   cases ho:jt (run O G) ops fr st with
   |none=>simp[ho] at e
   |    some p=>
        obtain ⟨m,hm⟩:=Oj _ _ _ _ ho
        exact ⟨m,by simp only[exec,bg,hm];simpa only[ho] using e⟩
  case draw ops=>
   cases ho:cW (run O G) ops [] st.heap fr st with
   |none=>simp[ho] at e
   |    some p=>
        obtain ⟨m,hm⟩:=Uq _ _ _ _ _ _ ho
        exact ⟨m,by simp only[exec,bg,hm];simpa only[ho] using e⟩
  case seq a b=>
   cases ha:exec (run O G) n a fr st with
   |none=>simp[ha] at e
   |    some p=>
        obtain ⟨ex,fE,bk⟩:=p
        simp only[ha] at e
        obtain ⟨m,hm⟩:=ih _ _ _ _ ha
        cases ex with
        |normal=>
         obtain ⟨m',hm'⟩:=ih _ _ _ _ e
         exact ⟨max m m',by simp only[exec,bg,up (Nat.le_max_left m m') hm];exact up (Nat.le_max_right m m') hm'⟩
        |exit i=>exact ⟨m,by simp only[exec,bg,hm];exact e⟩
        |ret=>exact ⟨m,by simp only[exec,bg,hm];exact e⟩
  case cond x a b=>
   split at e
   .    rename_i hx
        obtain ⟨m,hm⟩:=ih _ _ _ _ e
        exact ⟨m,by simp only[exec,bg,hx];exact hm⟩
   .    rename_i hx
        obtain ⟨m,hm⟩:=ih _ _ _ _ e
        exact ⟨m,by simp only[exec,bg,hx];exact hm⟩
   .    cases e
  case block id a=>
   cases ha:exec (run O G) n a fr st with
   |none=>simp[ha] at e
   |    some p=>
        obtain ⟨ex,fE,bk⟩:=p
        simp only[ha] at e
        obtain ⟨m,hm⟩:=ih _ _ _ _ ha
        exact ⟨m,by simp only[exec,bg,hm];exact e⟩
  case loop a=>
   cases ha:exec (run O G) n a fr st with
   |none=>simp[ha] at e
   |    some p=>
        obtain ⟨ex,fE,bk⟩:=p
        simp only[ha] at e
        obtain ⟨m,hm⟩:=ih _ _ _ _ ha
        cases ex with
        |normal=>
         obtain ⟨m',hm'⟩:=ih _ _ _ _ e
         exact ⟨max m m',by simp only[exec,bg,up (Nat.le_max_left m m') hm];exact up (Nat.le_max_right m m') hm'⟩
        |exit i=>exact ⟨m,by simp only[exec,bg,hm];exact e⟩
        |ret=>exact ⟨m,by simp only[exec,bg,hm];exact e⟩
theorem agT {f:FuncId} {F:cL} {args:List AV} {st:St} {r:AV×St} {n:Nat} (ho:O f=none) (hF:G.get (key f)=some F) (h:tr (run O G) n F args st=some r):
   run O G f args st=some (tidy st r):=by
 unfold tr at h
 split at h<;>first|(cases h;done)|skip
 rename_i hlen
 have fin: ∀{ex fr st'},exec (run O G) n F.code (params 0 args .e) st=some (ex,fr,st')->(∀m k,exec (cn O G m) k F.code (params 0 args .e) st=some (ex,fr,st')->tr (cn O G m) k F args st=some r)->
    run O G f args st=some (tidy st r):=fun h1 h2=>by
   obtain ⟨m,hm⟩:=Xk _ _ _ _ _ h1
   refine ae6 (n:=max n m+1) ?_
   unfold cn tu
   simp only[ho,hF]
   have:=h2 m n hm
   have h3:=acC (Td O G (n:=m) (m:=max n m+1) (by have:=Nat.le_max_right n m;omega) m (max n m) (Nat.le_max_right n m)) (m:=max n m+1) (by have:=Nat.le_max_left n m;omega) this
   rw[h3];rfl
 split at h<;>first|(cases h;done)|skip
 . rename_i h1
   exact fin h1 fun m k hk=>by unfold tr;simp only[hlen,hk];exact h
 . rename_i h1
   exact fin h1 fun m k hk=>by unfold tr;simp only[hlen,hk];exact h
theorem Ur {f:FuncId} {s:List AV->St->Option (AV×St)} (ho:O f=some s) {args:List AV} {st:St} {r:AV×St} (h:s args st=some r):run O G f args st=some r:=
 ae6 (n:=1) (by unfold cn tu;simp only[ho];exact h)
theorem Xl {P:Program} {tt:TT} {C:Cells} (hm:P.follows .mixedOrders=true) (hT:cr P tt) (hO:qI P C O) (RT:kg O) (hG:T8 P tt G):jS P C (run O G):=by
 intro ρ st w f args v st' bQ h hW xq
 obtain ⟨n,hn⟩:=ZU h
 exact RV hm hT hO RT hG n n ρ st w f args v st' bQ hn hW xq
end
noncomputable section
open Go
inductive Sh where
 |leaf
 |seq (jn:Option (List Pos)) (a b:Sh)
 |cond (a b:Sh)
 |block (a:Sh)
 |loop (j:Nat) (ins:List Pos) (outs:List (Nat×List Pos)) (a:Sh)
variable {R : Type}
abbrev LpK (R:Type):=Nat->List AV->St->Option R
abbrev Env (R:Type):=Nat->LpK R->Nat->List AV->St->Option R
def cQ (l:List AV) (k:AV->List AV->Option R):Option R:=match l with
 |v::vs=>k v vs
 |[]=>none
def eT (l:List AV) (k:Option R):Option R:=match l with
 |[]=>k
 |_::_=>none
def aj (c:ak) (k:aC) (xs:List AV) (st:St) (K:AV->St->Option R):Option R:=match bP c k xs st with
 |some (v,st')=>K v st'
 |none=>none
def bB (c:ak) (g:AV) (want:Bool) (k:aC) (xs:List AV) (st:St) (K:AV->St->Option R):Option R:=match g with
 |  .bool b=>match b==want with
    |true=>aj c k xs st K
    |false=>K .undef st
 | .tuple _=>K .undef st
 |_=>none
def fM (k:aC) (xs:List AV) (K:AV->Option R):Option R:=match k.run (fun _=>none) .h xs with
 |some (.val v)=>K v
 |_=>none
def RW (g:AV) (want:Bool) (k:aC) (xs:List AV) (K:AV->Option R):Option R:=match g with
 |  .bool b=>match b==want with
    |true=>fM k xs K
    |false=>K .undef
 | .tuple _=>K .undef
 |_=>none
def jT (k:aC) (xs:List AV) (h:T AB) (ok:AV->Bool) (K:AV->Option R):Option R:=match k.run (fun _=>none) .h xs with
 |some (.val v)=>K v
 |  _=>match k.run (fun b=>h.get b) .h xs with
    |some (.val v)=>match ok v with
     |true=>K v
     |false=>none
    |_=>none
def RX (g:AV) (want:Bool) (k:aC) (xs:List AV) (h:T AB) (ok:AV->Bool) (K:AV->Option R):Option R:=match g with
 |  .bool b=>match b==want with
    |true=>jT k xs h ok K
    |false=>K .undef
 | .tuple _=>K .undef
 |_=>none
def Ut (k:aC) (xs:List AV) (st:St) (K:AV->AB->Option R):Option R:=match k.run (fun _=>none) st.next xs with
 |some (.aL v none none (some aE))=>K v aE
 |_=>none
def RY (g:AV) (want:Bool) (A B:Option R):Option R:=match g with
 |  .bool b=>match b==want with
    |true=>A
    |false=>B
 | .tuple _=>B
 |_=>none
def Mu (v:AV) (A B:Option R):Option R:=match v with
 | .bool true=>A
 | .bool false=>B
 |_=>none
def ZV (f:(List AV->St->Option R)->Option R) (k:List AV->St->Option R):Option R:=f k
def Te (c:ak):List bD->Fr->St->(Fr->St->Option R)->Option R
 |[],fr,st,K=>K fr st
 |  o::os,fr,st,K=>match ey fr o.xs with
    |some xs=>match o.guard with
     |none=>aj c o.k xs st fun v st=>Te c os (dc fr o.dst v) st K
     |  some (p,want)=>match fr.get p with
        |some g=>bB c g want o.k xs st fun v st=>Te c os (dc fr o.dst v) st K
        |none=>none
    |none=>none
def nh (c:ak ):List (Nat×bD)->List Rec->T AB->Fr->St->(Fr->St->Option R)->Option R
 |[],_,_,fr,st,K=>K fr st
 |  (j, o):: os,recs,base,fr,st,K=>match ey fr o.xs with
    | some xs=>match o.cls with
      | .pure=>match o.guard with
        |none=>fM o.k xs fun v=>nh c os ({ idx:=j,o:=o,v:=v,c:= .pure,nx:=st.next }::recs) base (dc fr o.dst v) st K
        |some (p,want)=>match fr.get p with
         |some g=>RW g want o.k xs fun v=>nh c os ({ idx:=j,o:=o,v:=v,c:= .pure,nx:=st.next }::recs) base (dc fr o.dst v) st K
         |none=>none
      | .read=>match o.guard with
        |none=>jT o.k xs (snap o.bE base recs) (fun v=>jW o.bE o.k xs v [] recs) fun v=>nh c os ({ idx:=j,o:=o,v:=v,c:= .pure,nx:=st.next }::recs) base (dc fr o.dst v) st K
        |some (p,want)=>match fr.get p with
         |some g=>RX g want o.k xs (snap o.bE base recs) (fun v=>jW o.bE o.k xs v [] recs) fun v=>nh c os ({ idx:=j,o:=o,v:=v,c:= .pure,nx:=st.next }::recs) base (dc fr o.dst v) st K
         |none=>none
      | .new=>match o.guard with
        |none=>Ut o.k xs st fun v aE=>nh c os ({ idx:=j,o:=o,v:=v,c:= .new st.next aE,nx:=st.next.succ }::recs) base (dc fr o.dst v) { heap:=st.heap.put (some aE) st.next,next:=st.next.succ } K
        |some (p,want)=>match fr.get p with
         |some g=>RY g want (Ut o.k xs st fun v aE=>nh c os ({ idx:=j,o:=o,v:=v,c:= .new st.next aE,nx:=st.next.succ }::recs) base (dc fr o.dst v) { heap:=st.heap.put (some aE) st.next,next:=st.next.succ } K)
             (nh c os ({ idx:=j,o:=o,v:= .undef,c:= .pure,nx:=st.next }::recs) base (dc fr o.dst .undef) st K)
         |none=>none
      | .aL=>match o.guard with
        |none=>aj c o.k xs st fun v st'=>nh c os ({ idx:=j,o:=o,v:=v,c:= .aL base st'.heap,nx:=st'.next }::recs) st'.heap (dc fr o.dst v) st' K
        |some (p,want)=>match fr.get p with
         |some g=>RY g want (aj c o.k xs st fun v st'=>nh c os ({ idx:=j,o:=o,v:=v,c:= .aL base st'.heap,nx:=st'.next }::recs) st'.heap (dc fr o.dst v) st' K)
             (nh c os ({ idx:=j,o:=o,v:= .undef,c:= .pure,nx:=st.next }::recs) base (dc fr o.dst .undef) st K)
         |none=>none
    |none=>none
def Ol:List Pos->Fr->(List AV->Option R)->Option R
 |[],_,k=>k []
 |  p::ps,fr,k=>match fr.get p with
    |some v=>Ol ps fr fun vs=>k (v::vs)
    |none=>none
def Om:List Pos->List AV->Fr->(Fr->Option R)->Option R
 |[],vs,fr,k=>eT vs (k fr)
 |p::ps,vs,fr,k=>cQ vs fun v vs=>Om ps vs (fr.put (some v) p) k
def Qz:List (Nat×List Pos)->Nat->List Pos
 |[],_=>[]
 |  (i,l)::r,e=>match Nat.beq i e with
    |true=>l
    |false=>Qz r e
def exOf:Nat->lQ
 |0=> .normal
 |1=> .ret
 |n+2=> .exit n
def On (D:Fr->St->(lQ->Fr->St->Option R)->Option R) (ins:List Pos) (outs:List (Nat×List Pos)) (K':LpK R) (again:List AV->St->Option R) (vs:List AV) (st:St):Option R:=
 Om ins vs .e fun fr=>D fr st fun ex fr st=>match ex with
    | .normal=>Ol ins fr fun vs=>again vs st
    | .exit i=>Ol (Qz outs (i+2)) fr fun os=>K' (i+2) os st
    | .ret=>Ol (Qz outs 1) fr fun os=>K' 1 os st
def knk (outs:List (Nat×List Pos)) (K:lQ->Fr->St->Option R):LpK R:=fun e os st=>Om (Qz outs e) os .e fun fr=>K (exOf e) fr st
def den (c:ak) (F:Nat) (L:Env R):AC->Sh->Fr->St->(lQ->Fr->St->Option R)->Option R
 | .skip,_,fr,st,K=>K .normal fr st
 | .region ops,_,fr,st,K=>Te c ops fr st (K .normal)
 | .draw ops,_,fr,st,K=>nh c ops [] st.heap fr st (K .normal)
 |  .seq a b,s,fr,st,K=>match s with
    | .seq none s t=>den c F L a s fr st fun ex fr st=>match ex with
      | .normal=>den c F L b t fr st K
      | .exit i=>K (.exit i) fr st
      | .ret=>K .ret fr st
    | .seq (some l) s t=>ZV (fun K'=>den c F L a s fr st fun ex fr st=>match ex with
      | .normal=>Ol l fr fun vs=>K' vs st
      | .exit i=>K (.exit i) fr st
      | .ret=>K .ret fr st) (fun vs st=>Om l vs .e fun fr=>den c F L b t fr st K)
    |_=>none
 |  .cond x a b,s,fr,st,K=>match s with
    | .cond s t=>match BO fr x with
      |some v=>Mu v (den c F L a s fr st K) (den c F L b t fr st K)
      |none=>none
    |_=>none
 |  .block id a,s,fr,st,K=>match s with
    | .block s=>den c F L a s fr st fun ex fr st=>match ex with
      | .normal=>K .normal fr st
      | .exit i=>match Nat.beq i id with
        |true=>K .normal fr st
        |false=>K (.exit i) fr st
      | .ret=>K .ret fr st
    |_=>none
 |  .loop _,s,fr,st,K=>match s with
    | .loop j ins outs _=>Ol ins fr fun vs=>L j (knk outs K) F vs st
    |_=>none
 | .exit id,_,fr,st,K=>K (.exit id) fr st
 | .ret,_,fr,st,K=>K .ret fr st
def BJ (c:ak) (F:Nat) (L:Env R) (a:AC):Sh->Prop
 | .loop j ins outs s=> ∀K',(∀vs st,L j K' 0 vs st=none)/\ ∀n vs st,L j K' (n+1) vs st=On (den c F L a s) ins outs K' (L j K' n) vs st
 |_=>False
def vR (c:ak) (F:Nat) (L:Env R):AC->Sh->Prop
 |  .seq a b,s=>match s with
    | .seq _ s t=>vR c F L a s/\vR c F L b t
    |_=>True
 |  .cond _ a b,s=>match s with
    | .cond s t=>vR c F L a s/\vR c F L b t
    |_=>True
 |  .block _ a,s=>match s with
    | .block s=>vR c F L a s
    |_=>True
 |  .loop a,s=>match s with
    | .loop j ins outs s=>BJ c F L a (.loop j ins outs s)/\vR c F L a s
    |_=>True
 |_,_=>True
def eW:AC->Sh->List (AC×Sh)
 |  .seq a b,s=>match s with
    | .seq _ s t=>eW a s++eW b t
    |_=>[]
 |  .cond _ a b,s=>match s with
    | .cond s t=>eW a s++eW b t
    |_=>[]
 |  .block _ a,s=>match s with
    | .block s=>eW a s
    |_=>[]
 |  .loop a,s=>match s with
    | .loop j ins outs s=>(a,.loop j ins outs s)::eW a s
    |_=>[]
 |_,_=>[]
theorem Bi {c:ak} {F:Nat} {L:Env R}: ∀(a:AC) (s:Sh),(∀x∈eW a s,BJ c F L x.1 x.2)->vR c F L a s
 | .skip,_,_=>trivial
 | .region _,_,_=>trivial
 | .draw _,_,_=>trivial
 | .exit _,_,_=>trivial
 | .ret,_,_=>trivial
 | .seq a b,s,h=>by
   cases s<;>simp only[vR]<;>simp only[eW,List.mem_append] at h
   exact ⟨Bi a _ fun x hx=>h x (.inl hx),Bi b _ fun x hx=>h x (.inr hx)⟩
 | .cond x a b,s,h=>by
   cases s<;>simp only[vR]<;>simp only[eW,List.mem_append] at h
   exact ⟨Bi a _ fun x hx=>h x (.inl hx),Bi b _ fun x hx=>h x (.inr hx)⟩
 | .block id a,s,h=>by
   cases s<;>simp only[vR]<;>simp only[eW] at h
   exact Bi a _ h
 | .loop a,s,h=>by
   cases s<;>simp only[vR]<;>simp only[eW,List.mem_cons] at h
   exact ⟨h _ (.inl rfl),Bi a _ fun x hx=>h x (.inr hx)⟩
def Sub (a b:Fr):Prop:= ∀p v,a.get p=some v->b.get p=some v
theorem Sub.refl (a:Fr):Sub a a:=fun _ _ h=>h
theorem Sub.put {a b:Fr} (h:Sub a b) (p:Pos) (v:AV):Sub (a.put (some v) p) (b.put (some v) p):=fun q u hq=>by
 by_cases e:p=q
 . subst e;rw[T.fq] at hq ⊢; exact hq
 . rw[T.bK _ e] at hq ⊢; exact h _ _ hq
theorem Sub.dst {a b:Fr} (h:Sub a b) (d:Option Pos) (v:AV):Sub (dc a d v) (dc b d v):=by
 cases d with
 |none=>exact h
 |some p=>exact h.put p v
theorem Sub.ev {a b:Fr} (h:Sub a b) {x:fB} {v:AV} (e:BO a x=some v):BO b x=some v:=by
 cases x with
 |t p=>exact h _ _ e
 |c v=>exact e
theorem Sub.evs {a b:Fr} (h:Sub a b): ∀{xs:List fB} {vs:List AV},ey a xs=some vs->ey b xs=some vs
 |[],_,e=>e
 |x::xs,vs,e=>by
  unfold ey at e ⊢
  cases hx:BO a x with
  |none=>simp[hx] at e
  |some v=>
   simp only[hx] at e
   cases hs:ey a xs with
   |none=>simp[hs] at e
   |some us=>simp only[hs] at e;simp only[h.ev hx,h.evs hs];exact e
theorem Le {c:ak}: ∀(os:List bD) {fr eE:Fr} {st:St} {K:Fr->St->Option R} {r:R},Sub fr eE->Te c os fr st K=some r->
  ∃bn cU st',jt c os eE st=some (cU,st')/\Sub bn cU/\K bn st'=some r
 |[],fr,eE,st,K,r,hs,h=>⟨fr,eE,st,rfl,hs,h⟩
 |o::os,fr,eE,st,K,r,hs,h=>by
  unfold Te at h
  cases hx:ey fr o.xs with
  |none=>simp[hx] at h
  |some xs=>
   simp only[hx] at h
   have hstp: ∀{st},aj c o.k xs st (fun v st=>Te c os (dc fr o.dst v) st K)=some r->bM eE o.guard=some true-> ∃bn cU st',jt c (o::os) eE st=some (cU,st')/\Sub bn cU/\K bn st'=some r:=fun {st} h hw=>by
        unfold aj at h
        cases lf:bP c o.k xs st with
        |none=>simp[lf] at h
        |some p=>
         simp only[lf] at h
         obtain ⟨bn,cU,st',h1,h2⟩:=Le os (hs.dst o.dst p.1) h
         exact ⟨bn,cU,st',by unfold jt;simp only[hw,hs.evs hx,lf];exact h1,h2⟩
   have Oo: ∀{st},Te c os (dc fr o.dst .undef) st K=some r->bM eE o.guard=some false-> ∃bn cU st',jt c (o::os) eE st=some (cU,st')/\Sub bn cU/\K bn st'=some r:=fun {st} h hw=>by
        obtain ⟨bn,cU,st',h1,h2⟩:=Le os (hs.dst o.dst .undef) h
        exact ⟨bn,cU,st',by unfold jt;simp only[hw];exact h1,h2⟩
   cases hg:o.guard with
   |none=>simp only[hg] at h;exact hstp h (by rw[hg];rfl)
   |    some pw=>
        obtain ⟨p,want⟩:=pw
        simp only[hg] at h
        cases hp:fr.get p with
        |none=>simp[hp] at h
        |some g=>
         simp only[hp] at h
         have zm:=hs _ _ hp
         unfold bB at h
         split at h
         .  rename_i b
            split at h
            . rename_i hb;exact hstp h (by rw[hg];simp[bM,zm,hb])
            . rename_i hb;exact Oo h (by rw[hg];simp[bM,zm,hb])
         .  exact Oo h (by rw[hg];simp[bM,zm])
         .  cases h
theorem RZ {c : ak}: ∀(os:List (Nat×bD)) (recs:List Rec) (base:T AB) {fr eE:Fr} {st:St} {K:Fr->St->Option R} {r:R},Sub fr eE->nh c os recs base fr st K=some r->
  ∃bn cU st',cW c os recs base eE st=some (cU,st')/\Sub bn cU/\K bn st'=some r
 |[],_,_,fr,eE,st,K,r,hs,h=>⟨fr,eE,st,rfl,hs,h⟩
 |(j,   o)::  os, recs,base,fr,eE,st,K,r,hs,h=>by
  have ih:=fun recs base {fr eE:Fr} {st:St} {K:Fr->St->Option R} {r:R}=>RZ (c:=c) os recs base (fr:=fr) (eE:=eE) (st:=st) (K:=K) (r:=r)
  unfold nh at h
  cases hx:ey fr o.xs with
  |none=>simp[hx] at h
  | some xs   =>
    simp only[hx] at h
    have ZK:=hs.evs hx
    have Oo: ∀{st},nh c os ({ idx:=j,o:=o,v:= .undef,c:= .pure,nx:=st.next }::recs) base (dc fr o.dst .undef) st K=some r->bM eE o.guard=some false-> ∃bn cU st',cW c ((j,o)::os) recs base eE st=some (cU,st')/\Sub bn cU/\K bn st'=some r:=fun {st} h hw=>by
        obtain ⟨bn,cU,st',h1,h2⟩:=ih _ _ (hs.dst o.dst .undef) h
        exact ⟨bn,cU,st',by unfold cW;simp only[hw];exact h1,h2⟩
    cases hc:o.cls with
    |   pure=>
        simp only[hc] at h
        have Oq:fM o.k xs (fun v=>nh c os ({ idx:=j,o:=o,v:=v,c:= .pure,nx:=st.next }::recs) base (dc fr o.dst v) st K)=some r->bM eE o.guard=some true-> ∃bn cU st',cW c ((j,o)::os) recs base eE st=some (cU,st')/\Sub bn cU/\K bn st'=some r:=fun h hw=>by
         unfold fM at h
         split at h
         .  rename_i v hv
            obtain ⟨bn,cU,st',h1,h2⟩:=ih _ _ (hs.dst o.dst v) h
            exact ⟨bn,cU,st',by unfold cW;simp only[hw,ZK,hc,hv];exact h1,h2⟩
         .  cases h
        cases hg:o.guard with
        |none=>simp only[hg] at h;exact Oq h (by rw[hg];rfl)
        |some pw=>
         obtain ⟨p,want⟩:=pw
         simp only[hg] at h
         cases hp:fr.get p with
         |none=>simp[hp] at h
         |  some g=>
            simp only[hp] at h
            have zm:=hs _ _ hp
            unfold RW at h
            split at h
            . split at h
              . rename_i hb;exact Oq h (by rw[hg];simp[bM,zm,hb])
              . rename_i hb;exact Oo h (by rw[hg];simp[bM,zm,hb])
            . exact Oo h (by rw[hg];simp[bM,zm])
            . cases h
    |   read=>
        simp only[hc] at h
        have Oq : jT o.k xs (snap o.bE base recs) (fun v=>jW o.bE o.k xs v [] recs) (fun v=>nh c os ({ idx:=j,o:=o,v:=v,c:= .pure,nx:=st.next }::recs) base (dc fr o.dst v) st K)=some r->bM eE o.guard=some true-> ∃bn cU st',cW c ((j,o)::os) recs base eE st=some (cU,st')/\Sub bn cU/\K bn st'=some r:=fun h hw=>by
         unfold jT at h
         split at h
         .  rename_i v hv
            obtain ⟨bn,cU,st',h1,h2⟩:=ih _ _ (hs.dst o.dst v) h
            exact ⟨bn,cU,st',by unfold cW;simp only[hw,ZK,hc,hv];exact h1,h2⟩
         .  rename_i mb
            split at h
            . rename_i v hv
              split at h
              . rename_i bu
                obtain ⟨bn,cU,st',h1,h2⟩:=ih _ _ (hs.dst o.dst v) h
                refine ⟨bn,cU,st',?_,h2⟩
                unfold cW
                simp only[hw,ZK,hc]
                cases hr:o.k.run (fun _=>none) .h xs with
                |none=>simp only[hv,bu];exact h1
                | some x=>cases x with
                  |val u=>exact absurd hr (mb u)
                  |aL v d e n=>simp only[hv,bu];exact h1
                  |call f xs=>simp only[hv,bu];exact h1
              . cases h
            . cases h
        cases hg:o.guard with
        |none=>simp only[hg] at h;exact Oq h (by rw[hg];rfl)
        |some pw=>
         obtain ⟨p,want⟩:=pw
         simp only[hg] at h
         cases hp:fr.get p with
         |none=>simp[hp] at h
         |  some g=>
            simp only[hp] at h
            have zm:=hs _ _ hp
            unfold RX at h
            split at h
            . split at h
              . rename_i hb;exact Oq h (by rw[hg];simp[bM,zm,hb])
              . rename_i hb;exact Oo h (by rw[hg];simp[bM,zm,hb])
            . exact Oo h (by rw[hg];simp[bM,zm])
            . cases h
    |   new =>
        simp only[hc] at h
        have Oq:Ut o.k xs st (fun v aE=>nh c os ({ idx:=j,o:=o,v:=v,c:= .new st.next aE,nx:=st.next.succ }::recs) base (dc fr o.dst v) { heap:=st.heap.put (some aE) st.next,next:=st.next.succ } K)=some r->bM eE o.guard=some true-> ∃bn cU st',cW c ((j,o)::os) recs base eE st=some (cU,st')/\Sub bn cU/\K bn st'=some r:=fun h hw=>by
         unfold Ut at h
         split at h
         .  rename_i v aE hv
            obtain ⟨bn,cU,st',h1,h2⟩:=ih _ _ (hs.dst o.dst v) h
            exact ⟨bn,cU,st',by unfold cW;simp only[hw,ZK,hc,hv];exact h1,h2⟩
         .  cases h
        cases hg:o.guard with
        |none=>simp only[hg] at h;exact Oq h (by rw[hg];rfl)
        |some pw=>
         obtain ⟨p,want⟩:=pw
         simp only[hg] at h
         cases hp:fr.get p with
         |none=>simp[hp] at h
         |  some g=>
            simp only[hp] at h
            have zm:=hs _ _ hp
            unfold RY at h
            split at h
            . split at h
              . rename_i hb;exact Oq h (by rw[hg];simp[bM,zm,hb])
              . rename_i hb;exact Oo h (by rw[hg];simp[bM,zm,hb])
            . exact Oo h (by rw[hg];simp[bM,zm])
            . cases h
    |   aL=>
        simp only[hc] at h
        have Oq:aj c o.k xs st (fun v st'=>nh c os ({ idx:=j,o:=o,v:=v,c:= .aL base st'.heap,nx:=st'.next }::recs) st'.heap (dc fr o.dst v) st' K)=some r->bM eE o.guard=some true-> ∃bn cU st',cW c ((j,o)::os) recs base eE st=some (cU,st')/\Sub bn cU/\K bn st'=some r:=fun h hw=>by
         unfold aj at h
         cases lf:bP c o.k xs st with
         |none=>simp[lf] at h
         |  some p=>
            simp only[lf] at h
            obtain ⟨bn,cU,st',h1,h2⟩:=ih _ _ (hs.dst o.dst p.1) h
            exact ⟨bn,cU,st',by unfold cW;simp only[hw,ZK,hc,lf];exact h1,h2⟩
        cases hg:o.guard with
        |none=>simp only[hg] at h;exact Oq h (by rw[hg];rfl)
        |some pw=>
         obtain ⟨p,want⟩:=pw
         simp only[hg] at h
         cases hp:fr.get p with
         |none=>simp[hp] at h
         |  some g=>
            simp only[hp] at h
            have zm:=hs _ _ hp
            unfold RY at h
            split at h
            . split at h
              . rename_i hb;exact Oq h (by rw[hg];simp[bM,zm,hb])
              . rename_i hb;exact Oo h (by rw[hg];simp[bM,zm,hb])
            . exact Oo h (by rw[hg];simp[bM,zm])
            . cases h
def Has:List Pos->List AV->Fr->Prop
 |[],[],_=>True
 |p::ps,v::vs,fr=>fr.get p=some v/\Has ps vs fr
 |_,_,_=>False
theorem Has.sub {a b:Fr} (hs:Sub a b): ∀{ps:List Pos} {vs:List AV},Has ps vs a->Has ps vs b
 |[],[],_=>trivial
 |[],_::_,h=>h
 |_::_,[],h=>h
 |_::_,_::_,h=>⟨hs _ _ h.1,Has.sub hs h.2⟩
theorem ym: ∀{ps:List Pos} {fr:Fr} {k:List AV->Option R} {r:R},Ol ps fr k=some r-> ∃vs,Has ps vs fr/\k vs=some r
 |[],_,_,_,h=>⟨[],trivial,h⟩
 |p::ps,fr,k,r,h=>by
  unfold Ol at h
  cases hp:fr.get p with
  |none=>simp[hp] at h
  |some v=>
   simp only[hp] at h
   obtain ⟨vs,h1,h2⟩:=ym h
   exact ⟨v::vs,⟨hp,h1⟩,h2⟩
theorem BV: ∀{ps:List Pos} {vs:List AV} {fr eE:Fr} {k:Fr->Option R} {r:R},Om ps vs fr k=some r->Has ps vs eE->Sub fr eE-> ∃bn,Sub bn eE/\k bn=some r
 |[],vs,fr,eE,k,r,h,_,hs=>by
  unfold Om eT at h
  split at h
  . exact ⟨fr,hs,h⟩
  . cases h
 |p::ps,[],fr,eE,k,r,h,hh,hs=>by simp[Om,cQ] at h
 |p::ps,v::vs,fr,eE,k,r,h,hh,hs=>by
  unfold Om cQ at h
  refine BV h hh.2 fun q u hq=> ?_
  by_cases e:p=q
  . subst e;rw[T.fq] at hq;cases hq;exact hh.1
  . rw[T.bK _ e] at hq;exact hs _ _ hq
theorem Es {c:ak} {n m:Nat} (h:n<=m) {a:AC} {fr:Fr} {st:St} {r:lQ×Fr×St} (e:exec c n a fr st=some r):exec c m a fr st=some r:=Qy (RU.refl c) n m h _ _ _ _ e
theorem og {c:ak} {F:Nat} {L:Env R}: ∀(a:AC) (s:Sh),vR c F L a s-> ∀{fr eE:Fr} {st:St} {K:lQ->Fr->St->Option R} {r:R},Sub fr eE->den c F L a s fr st K=some r->
   ∃n ex bn cU st',exec c n a eE st=some (ex,cU,st')/\Sub bn cU/\K ex bn st'=some r
 | .skip,s,_,fr,eE,st,K,r,hs,h=>⟨1,.normal,fr,eE,st,rfl,hs,by simpa [den] using h⟩
 | .exit id,s,_,fr,eE,st,K,r,hs,h=>⟨1,.exit id,fr,eE,st,rfl,hs,by simpa [den] using h⟩
 | .ret,s,_,fr,eE,st,K,r,hs,h=>⟨1,.ret,fr,eE,st,rfl,hs,by simpa [den] using h⟩
 | .region ops,s,_,fr,eE,st,K,r,hs,h=>by
   simp only[den] at h
   obtain ⟨bn,cU,st',h1,h2,h3⟩:=Le ops hs h
   exact ⟨1,.normal,bn,cU,st',by simp only[exec,bg,h1],h2,h3⟩
 | .draw ops,s,_,fr,eE,st,K,r,hs,h=>by
   simp only[den] at h
   obtain ⟨bn,cU,st',h1,h2,h3⟩:=RZ ops _ _ hs h
   exact ⟨1,.normal,bn,cU,st',by simp only[exec,bg,h1],h2,h3⟩
 | .seq a b,s,bu,fr,eE,st,K,r,hs,h=>by
   cases s<;>simp only[den] at h<;>first|(cases h;done)|skip
   rename_i jn s t
   simp only[vR] at bu
   cases jn with
   |none=>
    simp only at h
    obtain ⟨n,ex,fE,sI,bk,h1,h2,h3⟩:=og a s bu.1 hs h
    cases ex with
    |   normal=>
        obtain ⟨m,ex,Mr,ZW,yh,k1,k2,k3⟩:=og b t bu.2 h2 h3
        exact ⟨max n m+1,ex,Mr,ZW,yh,by simp only[exec,bg,Es (Nat.le_max_left n m) h1];exact Es (Nat.le_max_right n m) k1,k2,k3⟩
    |exit i=>exact ⟨n+1,.exit i,fE,sI,bk,by simp only[exec,bg,h1],h2,h3⟩
    |ret=>exact ⟨n+1,.ret,fE,sI,bk,by simp only[exec,bg,h1],h2,h3⟩
   |some l=>
    simp only[ZV] at h
    obtain ⟨n,ex,fE,sI,bk,h1,h2,h3⟩:=og a s bu.1 hs h
    cases ex with
    |   normal=>
        obtain ⟨vs,g1,g2⟩:=ym h3
        obtain ⟨bn,g3,g4⟩:=BV g2 (Has.sub h2 g1) (fun p v hp=>by rw[T.cX] at hp;cases hp)
        obtain ⟨m,ex,Mr,ZW,yh,k1,k2,k3⟩:=og b t bu.2 g3 g4
        exact ⟨max n m+1,ex,Mr,ZW,yh,by simp only[exec,bg,Es (Nat.le_max_left n m) h1];exact Es (Nat.le_max_right n m) k1,k2,k3⟩
    |exit i=>exact ⟨n+1,.exit i,fE,sI,bk,by simp only[exec,bg,h1],h2,h3⟩
    |ret=>exact ⟨n+1,.ret,fE,sI,bk,by simp only[exec,bg,h1],h2,h3⟩
 | .cond x a b,s,bu,fr,eE,st,K,r,hs,h=>by
   cases s<;>simp only[den] at h<;>first|(cases h;done)|skip
   simp only[vR] at bu
   cases hx:BO fr x with
   |none=>simp[hx] at h
   |some v=>
    simp only[hx] at h
    unfold Mu at h
    split at h
    .   obtain ⟨n,ex,fE,sI,bk,h1,h2,h3⟩:=og a _ bu.1 hs h
        exact ⟨n+1,ex,fE,sI,bk,by simp only[exec,bg,hs.ev hx];exact h1,h2,h3⟩
    .   obtain ⟨n,ex,fE,sI,bk,h1,h2,h3⟩:=og b _ bu.2 hs h
        exact ⟨n+1,ex,fE,sI,bk,by simp only[exec,bg,hs.ev hx];exact h1,h2,h3⟩
    .   cases h
 | .block id a,s,bu,fr,eE,st,K,r,hs,h=>by
   cases s<;>simp only[den] at h<;>first|(cases h;done)|skip
   simp only[vR] at bu
   obtain ⟨n,ex,fE,sI,bk,h1,h2,h3⟩:=og a _ bu hs h
   cases ex with
   |normal=>exact ⟨n+1,.normal,fE,sI,bk,by simp only[exec,bg,h1],h2,h3⟩
   |ret=>exact ⟨n+1,.ret,fE,sI,bk,by simp only[exec,bg,h1],h2,h3⟩
   |exit i=>
    simp only at h3
    cases hb:Nat.beq i id with
    |true=>simp only[hb] at h3;exact ⟨n+1,.normal,fE,sI,bk,by simp only[exec,bg,h1,hb],h2,h3⟩
    |false=>simp only[hb] at h3;exact ⟨n+1,.exit i,fE,sI,bk,by simp only[exec,bg,h1,hb],h2,h3⟩
 | .loop a,s,bu,fr,eE,st,K,r,hs,h=>by
   cases s<;>simp only[den] at h<;>first|(cases h;done)|skip
   rename_i j ins outs s
   simp only[vR,BJ] at bu
   obtain ⟨akN,bu⟩:=bu
   obtain ⟨vs,g1,g2⟩:=ym h
   obtain ⟨hz,hsu⟩:=akN (knk outs K)
   have main: ∀(n:Nat) (vs:List AV) (st:St) (eE:Fr),Has ins vs eE->L j (knk outs K) n vs st=some r->
        ∃m ex bn cU st',exec c m (.loop a) eE st=some (ex,cU,st')/\Sub bn cU/\K ex bn st'=some r:=by
    intro n
    induction n with
    |zero=>intro vs st eE _ h;rw[hz] at h;cases h
    |   succ n ihn=>
        intro vs st eE hh h
        rw[hsu] at h
        unfold On at h
        obtain ⟨bY,q1,q2⟩:=BV h hh (fun p v hp=>by rw[T.cX] at hp;cases hp)
        obtain ⟨m,ex,fE,sI,bk,h1,h2,h3⟩:=og a s bu q1 q2
        cases ex with
        |normal=>
         obtain ⟨us,p1,p2⟩:=ym h3
         obtain ⟨m',ex,Mr,ZW,yh,k1,k2,k3⟩:=ihn us bk sI (Has.sub h2 p1) p2
         exact ⟨max m m'+1,ex,Mr,ZW,yh,by simp only[exec,bg,Es (Nat.le_max_left m m') h1];exact Es (Nat.le_max_right m m') k1,k2,k3⟩
        |exit i=>
         obtain ⟨os,p1,p2⟩:=ym h3
         obtain ⟨Mr,p3,p4⟩:=BV p2 (Has.sub h2 p1) (fun p v hp=>by rw[T.cX] at hp;cases hp)
         exact ⟨m+1,.exit i,Mr,sI,bk,by simp only[exec,bg,h1],p3,p4⟩
        |ret=>
         obtain ⟨os,p1,p2⟩:=ym h3
         obtain ⟨Mr,p3,p4⟩:=BV p2 (Has.sub h2 p1) (fun p v hp=>by rw[T.cX] at hp;cases hp)
         exact ⟨m+1,.ret,Mr,sI,bk,by simp only[exec,bg,h1],p3,p4⟩
   exact main F vs st eE (Has.sub hs g1) g2
def Tf:(H:Pos->Option AB)->Fr->List NU->(List AV->Option R)->Option R
 |_,_,[],k=>k []
 |  H,fr,.tmp p::rs,k=>match fr.get p with
    |some v=>Tf H fr rs fun vs=>k (v::vs)
    |none=>none
 |  H,fr,.cell p n::rs,k=>match fr.get p with
    |some q=>match (aC.load n).run H .h [q] with
     |some (.val v)=>Tf H fr rs fun vs=>k (v::vs)
     |_=>none
    |none=>none
def ldr (n:Option Nat) (q:AV) (st:St) (K:AV->Option R):Option R:=match (aC.load n).run (fun b=>st.heap.get b) .h [q] with
 |some (.val v)=>K v
 |_=>none
theorem GY {H:Pos->Option AB} {fr eE:Fr} (hs:Sub fr eE): ∀{rs:List NU} {k:List AV->Option R} {r:R},Tf H fr rs k=some r-> ∃vs,fC H eE rs=some vs/\k vs=some r
 |[],k,r,h=>⟨[],rfl,h⟩
 | .tmp p::rs,k,r,h=>by
   unfold Tf at h
   cases hp:fr.get p with
   |none=>simp[hp] at h
   |some v=>
    simp only[hp] at h
    obtain ⟨vs,h1,h2⟩:=GY hs h
    exact ⟨v::vs,by unfold fC;simp only[hs _ _ hp,h1],h2⟩
 | .cell p n::rs,k,r,h=>by
   unfold Tf at h
   cases hp:fr.get p with
   |none=>simp[hp] at h
   |some q=>
    simp only[hp] at h
    split at h
    .   rename_i v hv
        obtain ⟨vs,h1,h2⟩:=GY hs h
        exact ⟨v::vs,by unfold fC;simp only[hs _ _ hp,hv,h1],h2⟩
    .   cases h
def Ii (c:ak) (F:Nat) (L:Env (AV×St)) (A:cL) (s:Sh) (args:List AV) (st:St):Option (AV×St):=
 match Nat.beq args.length A.nparams with
 |  true=>den c F L A.code s (params 0 args .e) st fun ex fr st=>match ex with
    | .normal=>Tf (fun b=>st.heap.get b) fr A.results fun vs=>some (xg vs,st)
    | .ret=>Tf (fun b=>st.heap.get b) fr A.results fun vs=>some (xg vs,st)
    | .exit _=>none
 |false=>none
theorem agU {O:dQ} {G:T cL} {F:Nat} {L:Env (AV×St)} {f:FuncId} {A:cL} {s:Sh} {args:List AV} {st:St} {r:AV×St} (ho:O f=none) (hF:G.get (key f)=some A)
  (hL: ∀x∈eW A.code s,BJ (run O G) F L x.1 x.2) (h:Ii (run O G) F L A s args st=some r):run O G f args st=some (tidy st r):=by
 unfold Ii at h
 split at h<;>first|(cases h;done)|skip
 rename_i hlen
 obtain ⟨n,ex,bn,cU,st',h1,h2,h3⟩:=og A.code s (Bi _ _ hL) (Sub.refl _) h
 refine agT (n:=n) ho hF ?_
 unfold tr
 simp only[hlen,h1]
 cases ex with
 |normal=>
  obtain ⟨vs,k1,k2⟩:=GY h2 h3
  simp only[k1];exact k2
 |ret=>
  obtain ⟨vs,k1,k2⟩:=GY h2 h3
  simp only[k1];exact k2
 |exit i=>cases h3
end
noncomputable section
open Go
def ai (st:St) (b:AB):St:={ heap:=st.heap.put (some b) st.next,next:=st.next.succ }
def YX {R:Type}:List (Nat×(LpK R->Nat->List AV->St->Option R))->Env R
 |[]=>fun _ _ _ _ _=>none
 |  (i,g)::l=>fun j K n=>match Nat.beq i j with
    |true=>g K n
    |false=>YX l j K n
def iI (A:cL) (s:Sh) (i:Nat):AC×Sh:=(eW A.code s).getD i (.skip,.leaf)
theorem agV {R:Type} {c:ak} {F:Nat} {L:Env R} {A:cL} {s:Sh} (n:Nat) (hn:Nat.beq (eW A.code s).length n=true) (h: ∀i,i<n->BJ c F L (iI A s i).1 (iI A s i).2):
  ∀x∈eW A.code s,BJ c F L x.1 x.2:=by
 intro x hx
 obtain ⟨i,hi,he⟩:=List.mem_iff_getElem.1 hx
 have hn:=Nat.eq_of_beq_eq_true hn
 have:=h i (by omega)
 unfold iI at this
 rw[List.getD_eq_getElem?_getD,List.getElem?_eq_getElem hi] at this
 simp only[Option.getD_some,he] at this
 exact this
def ZX:Sh->Bool
 | .loop _ _ _ _=>true
 |_=>false
def lpJ:Sh->Nat
 | .loop j _ _ _=>j
 |_=>0
def lpI:Sh->List Pos
 | .loop _ i _ _=>i
 |_=>[]
def lpO:Sh->List (Nat×List Pos)
 | .loop _ _ o _=>o
 |_=>[]
def lpB:Sh->Sh
 | .loop _ _ _ s=>s
 |_=> .leaf
theorem eX {R:Type} {c:ak} {F:Nat} {L:Env R} {A:cL} {sh:Sh} {i:Nat} (j:Nat) (hs:(ZX (iI A sh i).2&&Nat.beq (lpJ (iI A sh i).2) j)=true) (h0: ∀K' vs st,L j K' 0 vs st=none)
  (h1: ∀K' n vs st,L j K' (n+1) vs st=On (den c F L (iI A sh i).1 (lpB (iI A sh i).2)) (lpI (iI A sh i).2) (lpO (iI A sh i).2) K' (L j K' n) vs st):BJ c F L (iI A sh i).1 (iI A sh i).2:=by
 generalize (iI A sh i).1=a at*
 generalize (iI A sh i).2=t at*
 cases t with
 |loop j' ins outs s=>
  simp only[ZX,lpJ,Bool.true_and] at hs
  obtain rfl:=Nat.eq_of_beq_eq_true hs
  exact fun K'=>⟨h0 K',h1 K'⟩
 |_=>simp[ZX] at hs
end
end Go.Ai
section
set_option linter.all false
namespace Go.Ai
open Go
theorem cw (k:IntKind):Ey k k=true:=by cases k<;>rfl
theorem gL (a b:Int):BC a b=decide (a=b):=by rw[mE];rfl
theorem eF (a b:List Nat):gK a b=decide (a=b):=by
 rw[Bool.eq_iff_iff,lS];simp
theorem wrap64 {x:Int} (h1: -9223372036854775808<=x) (h2:x<=9223372036854775807):ay .i64 x=x:=by
 unfold ay AH hiI
 simp only
 split
 . split
   . rfl
   . contradiction
 . contradiction
theorem jw (k:IntKind) (n:Nat):vO (.int k (n:Int))=some n:=id rfl
theorem cM (a b:Nat):Nat.ble a b=decide (a<=b):=by
 apply Bool.eq_iff_iff.2;simp
theorem D0 (a b:Nat):Nat.blt a b=decide (a<b):=by
 apply Bool.eq_iff_iff.2;simp[Nat.blt,Nat.ble_eq];omega
theorem cN (a b:Nat):Nat.beq a b=decide (a=b):=by
 apply Bool.eq_iff_iff.2;simp
def xN {R:Type} (o:Option AV) (k:AV->Option R):Option R:=match o with
 |some v=>k v
 |none=>none
def Cx {R:Type} (o:Option (List AV)) (k:List AV->Option R):Option R:=match o with
 |some v=>k v
 |none=>none
def Tg {R:Type} (o:Option (AV×St)) (k:AV->St->Option R):Option R:=match o with
 |some (v,st)=>k v st
 |none=>none
section
variable {R : Type} (c : ak) (K : AV -> St -> Option R) (K1 : AV -> Option R) (A B : Option R)
@[simp] theorem fo (v:AV) (k:AV->Option R):xN (some v) k=k v:=id rfl
@[simp] theorem qA (v:List AV) (k:List AV->Option R):Cx (some v) k=k v:=id rfl
@[simp] theorem iU (v:AV) (st:St) (k:AV->St->Option R):Tg (some (v,st)) k=k v st:=id rfl
@[simp] theorem kj:Mu (.bool true) A B=A:=id rfl
@[simp] theorem jO:Mu (.bool false) A B=B:=id rfl
@[simp] theorem ez (v:AV) (vs:List AV) (k:AV->List AV->Option R):cQ (v::vs) k=k v vs:=id rfl
@[simp] theorem fy (k:Option R):eT [] k=k:=id rfl
theorem cm (f:(List AV->St->Option R)->Option R) (k:List AV->St->Option R):ZV f k=f k:=id rfl
@[simp] theorem alU (b:Bool) (k:aC) (xs:List AV) (st:St):bB c (.bool b) b k xs st K=aj c k xs st K:=by cases b<;>exact id rfl
@[simp] theorem gst_tf (k:aC) (xs:List AV) (st:St):bB c (.bool true) false k xs st K=K .undef st:=id rfl
@[simp] theorem gst_ft (k:aC) (xs:List AV) (st:St):bB c (.bool false) true k xs st K=K .undef st:=id rfl
@[simp] theorem gst_un (b:Bool) (k:aC) (xs:List AV) (st:St):bB c .undef b k xs st K=K .undef st:=id rfl
@[simp] theorem alV (b:Bool) (k:aC) (xs:List AV):RW (.bool b) b k xs K1=fM k xs K1:=by cases b<;>exact id rfl
@[simp] theorem gpr_tf (k:aC) (xs:List AV):RW (.bool true) false k xs K1=K1 .undef:=id rfl
@[simp] theorem gpr_ft (k:aC) (xs:List AV):RW (.bool false) true k xs K1=K1 .undef:=id rfl
@[simp] theorem gpr_un (b:Bool) (k:aC) (xs:List AV):RW .undef b k xs K1=K1 .undef:=id rfl
@[simp] theorem alW (b:Bool) (k:aC) (xs:List AV) (h:T AB) (ok:AV->Bool):RX (.bool b) b k xs h ok K1=jT k xs h ok K1:=by cases b<;>exact id rfl
@[simp] theorem grd_tf (k:aC) (xs:List AV) (h:T AB) (ok:AV->Bool):RX (.bool true) false k xs h ok K1=K1 .undef:=id rfl
@[simp] theorem grd_ft (k:aC) (xs:List AV) (h:T AB) (ok:AV->Bool):RX (.bool false) true k xs h ok K1=K1 .undef:=id rfl
@[simp] theorem grd_un (b:Bool) (k:aC) (xs:List AV) (h:T AB) (ok:AV->Bool):RX .undef b k xs h ok K1=K1 .undef:=id rfl
@[simp] theorem alX (b:Bool):RY (.bool b) b A B=A:=by cases b<;>exact id rfl
@[simp] theorem wnt_tf:RY (.bool true) false A B=B:=id rfl
@[simp] theorem wnt_ft:RY (.bool false) true A B=B:=id rfl
@[simp] theorem wnt_un (b:Bool):RY .undef b A B=B:=id rfl
theorem EU {k:aC} {xs:List AV} {o:Option AV} (h: ∀H n,k.run H n xs=o.map .val) (st:St):aj c k xs st K=xN o fun v=>K v st:=by
 unfold aj bP;rw[h];cases o<;>rfl
theorem Uu {k:aC} {xs:List AV} {o:Option AV} (h: ∀H n,k.run H n xs=o.map .val):fM k xs K1=xN o K1:=by
 unfold fM;rw[h];cases o<;>rfl
theorem aI {k:aC} {xs:List AV} {v:AV} (h: ∀H n,k.run H n xs=some (.val v)) (st:St):aj c k xs st K=K v st:=by
 unfold aj bP;rw[h]
theorem cP {k:aC} {xs:List AV} {v:AV} (h: ∀H n,k.run H n xs=some (.val v)):fM k xs K1=K1 v:=by
 unfold fM;rw[h]
theorem kB (f:FuncId) (l:List AV) (st:St):aj c (.callF f) l st K=Tg (c f l st) K:=by
 unfold aj bP;show (match c f l st with|some (v,st')=>K v st'|none=>none)=_
 cases c f l st<;>rfl
theorem qC (f:FuncId) (l u v:List AV) (st:St):aj c .callV (.func f u v::l) st K=Tg (c f (u++(l++v)) st) K:=by
 unfold aj bP;show (match c f (u++(l++v)) st with|some (v,st')=>K v st'|none=>none)=_
 cases c f (u++(l++v)) st<;>rfl
attribute [simp] kB qC
end
def cellsOf:Option AB->Option (List AV)
 |some (.cells cs _)=>some cs
 |some (.typed _ cs)=>some cs
 |_=>none
@[simp] theorem ajL (t:TypeId) (cs:List AV):cellsOf (some (.typed t cs))=some cs:=id rfl
@[simp] theorem bR (cs:List AV) (f:Nat):cellsOf (some (.cells cs f))=some cs:=id rfl
def ro (es:Nat) (z:Bool) (rs:List (List AV)):AV:=match z,rs with
 |true,[]=> .ah
 |_,rs=> .fl rs es
theorem VL {es:Nat} {z:Bool} {rs:List (List AV)} (h:rs≠[]):ro es z rs= .fl rs es:=by
 unfold ro;split
 . exact absurd rfl h
 . rfl
theorem run_move (H:Pos->Option AB) (n:Pos) (x:AV):aC.run H n .move [x]=some (.val x):=rfl
@[simp] theorem aY {R:Type} (c:ak) (K:AV->St->Option R) (st:St) (x:AV):aj c .move [x] st K=K x st:=aI c K (fun H n=>run_move H n x) st
@[simp] theorem EV {R:Type} (K:AV->Option R) (x:AV):fM .move [x] K=K x:=cP K (fun H n=>run_move H n x)
theorem Uv (H:Pos->Option AB) (n:Pos) (x y:AV):aC.run H n .pick [.bool true,x,y]=some (.val x):=rfl
@[simp] theorem akO {R:Type} (c:ak) (K:AV->St->Option R) (st:St) (x y:AV):aj c .pick [.bool true,x,y] st K=K x st:=aI c K (fun H n=>Uv H n x y) st
@[simp] theorem akP {R:Type} (K:AV->Option R) (x y:AV):fM .pick [.bool true,x,y] K=K x:=cP K (fun H n=>Uv H n x y)
theorem Uw (H:Pos->Option AB) (n:Pos) (x y:AV):aC.run H n .pick [.bool false,x,y]=some (.val y):=rfl
@[simp] theorem akQ {R:Type} (c:ak) (K:AV->St->Option R) (st:St) (x y:AV):aj c .pick [.bool false,x,y] st K=K y st:=aI c K (fun H n=>Uw H n x y) st
@[simp] theorem akR {R:Type} (K:AV->Option R) (x y:AV):fM .pick [.bool false,x,y] K=K y:=cP K (fun H n=>Uw H n x y)
theorem acD (H:Pos->Option AB) (n:Pos) (p:Bool):aC.run H n (.un .not) [.bool p]=some (.val (.bool (!p))):=rfl
@[simp] theorem QC {R:Type} (c:ak) (K:AV->St->Option R) (st:St) (p:Bool):aj c (.un .not) [.bool p] st K=K (.bool (!p)) st:=aI c K (fun H n=>acD H n p) st
@[simp] theorem alY {R:Type} (K:AV->Option R) (p:Bool):fM (.un .not) [.bool p] K=K (.bool (!p)):=cP K (fun H n=>acD H n p)
theorem acE (H:Pos->Option AB) (n:Pos) (q:eH) (k:IntKind) (a b:Int):aC.run H n (.bin .lss q) [.int k a,.int k b]=some (.val (.bool (decide (a<b)))):=by simp[aC.run,gP,nB,cw,gL,dR,gX,eF]
@[simp] theorem nQ {R:Type} (c:ak) (K:AV->St->Option R) (st:St) (q:eH) (k:IntKind) (a b:Int):aj c (.bin .lss q) [.int k a,.int k b] st K=K (.bool (decide (a<b))) st:=aI c K (fun H n=>acE H n q k a b) st
@[simp] theorem acF {R:Type} (K:AV->Option R) (q:eH) (k:IntKind) (a b:Int):fM (.bin .lss q) [.int k a,.int k b] K=K (.bool (decide (a<b))):=cP K (fun H n=>acE H n q k a b)
theorem acG (H:Pos->Option AB) (n:Pos) (q:eH) (k:IntKind) (a b:Int):aC.run H n (.bin .leq q) [.int k a,.int k b]=some (.val (.bool (decide (a<=b)))):=by simp[aC.run,gP,nB,cw,gL,dR,gX,eF]
@[simp] theorem alZ {R:Type} (c:ak) (K:AV->St->Option R) (st:St) (q:eH) (k:IntKind) (a b:Int):aj c (.bin .leq q) [.int k a,.int k b] st K=K (.bool (decide (a<=b))) st:=aI c K (fun H n=>acG H n q k a b) st
@[simp] theorem al0 {R:Type} (K:AV->Option R) (q:eH) (k:IntKind) (a b:Int):fM (.bin .leq q) [.int k a,.int k b] K=K (.bool (decide (a<=b))):=cP K (fun H n=>acG H n q k a b)
theorem acH (H:Pos->Option AB) (n:Pos) (q:eH) (k:IntKind) (a b:Int):aC.run H n (.bin .gtr q) [.int k a,.int k b]=some (.val (.bool (decide (b<a)))):=by simp[aC.run,gP,nB,cw,gL,dR,gX,eF]
@[simp] theorem aiE {R:Type} (c:ak) (K:AV->St->Option R) (st:St) (q:eH) (k:IntKind) (a b:Int):aj c (.bin .gtr q) [.int k a,.int k b] st K=K (.bool (decide (b<a))) st:=aI c K (fun H n=>acH H n q k a b) st
@[simp] theorem al3 {R:Type} (K:AV->Option R) (q:eH) (k:IntKind) (a b:Int):fM (.bin .gtr q) [.int k a,.int k b] K=K (.bool (decide (b<a))):=cP K (fun H n=>acH H n q k a b)
theorem acI (H:Pos->Option AB) (n:Pos) (q:eH) (k:IntKind) (a b:Int):aC.run H n (.bin .geq q) [.int k a,.int k b]=some (.val (.bool (decide (b<=a)))):=by simp[aC.run,gP,nB,cw,gL,dR,gX,eF]
@[simp] theorem al4 {R:Type} (c:ak) (K:AV->St->Option R) (st:St) (q:eH) (k:IntKind) (a b:Int):aj c (.bin .geq q) [.int k a,.int k b] st K=K (.bool (decide (b<=a))) st:=aI c K (fun H n=>acI H n q k a b) st
@[simp] theorem al5 {R:Type} (K:AV->Option R) (q:eH) (k:IntKind) (a b:Int):fM (.bin .geq q) [.int k a,.int k b] K=K (.bool (decide (b<=a))):=cP K (fun H n=>acI H n q k a b)
theorem acJ (H:Pos->Option AB) (n:Pos) (q:eH) (k:IntKind) (a b:Int):aC.run H n (.bin .eql q) [.int k a,.int k b]=some (.val (.bool (decide (a=b)))):=by simp[aC.run,gP,nB,cw,gL,dR,gX,eF]
@[simp] theorem aiF {R:Type} (c:ak) (K:AV->St->Option R) (st:St) (q:eH) (k:IntKind) (a b:Int):aj c (.bin .eql q) [.int k a,.int k b] st K=K (.bool (decide (a=b))) st:=aI c K (fun H n=>acJ H n q k a b) st
@[simp] theorem al6 {R:Type} (K:AV->Option R) (q:eH) (k:IntKind) (a b:Int):fM (.bin .eql q) [.int k a,.int k b] K=K (.bool (decide (a=b))):=cP K (fun H n=>acJ H n q k a b)
theorem acK (H:Pos->Option AB) (n:Pos) (q:eH) (k:IntKind) (a b:Int):aC.run H n (.bin .neq q) [.int k a,.int k b]=some (.val (.bool (!decide (a=b)))):=by simp[aC.run,gP,nB,cw,gL,dR,gX,eF]
@[simp] theorem acL {R:Type} (c:ak) (K:AV->St->Option R) (st:St) (q:eH) (k:IntKind) (a b:Int):aj c (.bin .neq q) [.int k a,.int k b] st K=K (.bool (!decide (a=b))) st:=aI c K (fun H n=>acK H n q k a b) st
@[simp] theorem al7 {R:Type} (K:AV->Option R) (q:eH) (k:IntKind) (a b:Int):fM (.bin .neq q) [.int k a,.int k b] K=K (.bool (!decide (a=b))):=cP K (fun H n=>acK H n q k a b)
theorem acM (H:Pos->Option AB) (n:Pos) (q:eH) (k:IntKind) (a b:Int):aC.run H n (.bin .add q) [.int k a,.int k b]=some (.val (.int k (ay k (a+b)))):=by simp[aC.run,gP,nB,cw,gL,dR,gX,eF]
@[simp] theorem sx {R:Type} (c:ak) (K:AV->St->Option R) (st:St) (q:eH) (k:IntKind) (a b:Int):aj c (.bin .add q) [.int k a,.int k b] st K=K (.int k (ay k (a+b))) st:=aI c K (fun H n=>acM H n q k a b) st
@[simp] theorem al8 {R:Type} (K:AV->Option R) (q:eH) (k:IntKind) (a b:Int):fM (.bin .add q) [.int k a,.int k b] K=K (.int k (ay k (a+b))):=cP K (fun H n=>acM H n q k a b)
theorem acN (H:Pos->Option AB) (n:Pos) (q:eH) (k:IntKind) (a b:Int):aC.run H n (.bin .sub q) [.int k a,.int k b]=some (.val (.int k (ay k (a - b)))):=by simp[aC.run,gP,nB,cw,gL,dR,gX,eF]
@[simp] theorem al9 {R:Type} (c:ak) (K:AV->St->Option R) (st:St) (q:eH) (k:IntKind) (a b:Int):aj c (.bin .sub q) [.int k a,.int k b] st K=K (.int k (ay k (a - b))) st:=aI c K (fun H n=>acN H n q k a b) st
@[simp] theorem ama {R:Type} (K:AV->Option R) (q:eH) (k:IntKind) (a b:Int):fM (.bin .sub q) [.int k a,.int k b] K=K (.int k (ay k (a - b))):=cP K (fun H n=>acN H n q k a b)
theorem aiG (H:Pos->Option AB) (n:Pos) (q:eH) (k:IntKind) (a b:Int):aC.run H n (.bin .mul q) [.int k a,.int k b]=some (.val (.int k (ay k (a*b)))):=by simp[aC.run,gP,nB,cw,gL,dR,gX,eF]
@[simp] theorem amb {R:Type} (c:ak) (K:AV->St->Option R) (st:St) (q:eH) (k:IntKind) (a b:Int):aj c (.bin .mul q) [.int k a,.int k b] st K=K (.int k (ay k (a*b))) st:=aI c K (fun H n=>aiG H n q k a b) st
theorem ZY (H:Pos->Option AB) (n:Pos) (q:eH) (s t:List Nat):aC.run H n (.bin .eql q) [.str s,.str t]=some (.val (.bool (decide (s=t)))):=by simp[aC.run,gP,nB,cw,gL,dR,gX,eF]
@[simp] theorem alz {R:Type} (c:ak) (K:AV->St->Option R) (st:St) (q:eH) (s t:List Nat):aj c (.bin .eql q) [.str s,.str t] st K=K (.bool (decide (s=t))) st:=aI c K (fun H n=>ZY H n q s t) st
@[simp] theorem alA {R:Type} (K:AV->Option R) (q:eH) (s t:List Nat):fM (.bin .eql q) [.str s,.str t] K=K (.bool (decide (s=t))):=cP K (fun H n=>ZY H n q s t)
theorem ZZ (H:Pos->Option AB) (n:Pos) (q:eH) (s t:List Nat):aC.run H n (.bin .neq q) [.str s,.str t]=some (.val (.bool (!decide (s=t)))):=by simp[aC.run,gP,nB,cw,gL,dR,gX,eF]
@[simp] theorem alB {R:Type} (c:ak) (K:AV->St->Option R) (st:St) (q:eH) (s t:List Nat):aj c (.bin .neq q) [.str s,.str t] st K=K (.bool (!decide (s=t))) st:=aI c K (fun H n=>ZZ H n q s t) st
@[simp] theorem alC {R:Type} (K:AV->Option R) (q:eH) (s t:List Nat):fM (.bin .neq q) [.str s,.str t] K=K (.bool (!decide (s=t))):=cP K (fun H n=>ZZ H n q s t)
theorem Z0 (H:Pos->Option AB) (n:Pos) (q:eH) (s t:List Nat):aC.run H n (.bin .lss q) [.str s,.str t]=some (.val (.bool (aD s t))):=by simp[aC.run,gP,nB,cw,gL,dR,gX,eF]
@[simp] theorem alD {R:Type} (c:ak) (K:AV->St->Option R) (st:St) (q:eH) (s t:List Nat):aj c (.bin .lss q) [.str s,.str t] st K=K (.bool (aD s t)) st:=aI c K (fun H n=>Z0 H n q s t) st
@[simp] theorem alE {R:Type} (K:AV->Option R) (q:eH) (s t:List Nat):fM (.bin .lss q) [.str s,.str t] K=K (.bool (aD s t)):=cP K (fun H n=>Z0 H n q s t)
theorem agW (H:Pos->Option AB) (n:Pos) (q:eH) (s t:List Nat):aC.run H n (.bin .leq q) [.str s,.str t]=some (.val (.bool (aD s t||decide (s=t)))):=by simp[aC.run,gP,nB,cw,gL,dR,gX,eF]
@[simp] theorem alF {R:Type} (K:AV->Option R) (q:eH) (s t:List Nat):fM (.bin .leq q) [.str s,.str t] K=K (.bool (aD s t||decide (s=t))):=cP K (fun H n=>agW H n q s t)
theorem Z3 (H:Pos->Option AB) (n:Pos) (q:eH) (s t:List Nat):aC.run H n (.bin .geq q) [.str s,.str t]=some (.val (.bool (!aD s t))):=by simp[aC.run,gP,nB,cw,gL,dR,gX,eF]
@[simp] theorem alG {R:Type} (c:ak) (K:AV->St->Option R) (st:St) (q:eH) (s t:List Nat):aj c (.bin .geq q) [.str s,.str t] st K=K (.bool (!aD s t)) st:=aI c K (fun H n=>Z3 H n q s t) st
@[simp] theorem alH {R:Type} (K:AV->Option R) (q:eH) (s t:List Nat):fM (.bin .geq q) [.str s,.str t] K=K (.bool (!aD s t)):=cP K (fun H n=>Z3 H n q s t)
theorem Z4 (H:Pos->Option AB) (n:Pos) (p r:Bool):aC.run H n (.bin .eql .bool) [.bool p,.bool r]=some (.val (.bool (p==r))):=rfl
@[simp] theorem alI {R:Type} (c:ak) (K:AV->St->Option R) (st:St) (p r:Bool):aj c (.bin .eql .bool) [.bool p,.bool r] st K=K (.bool (p==r)) st:=aI c K (fun H n=>Z4 H n p r) st
@[simp] theorem alJ {R:Type} (K:AV->Option R) (p r:Bool):fM (.bin .eql .bool) [.bool p,.bool r] K=K (.bool (p==r)):=cP K (fun H n=>Z4 H n p r)
theorem agX (H:Pos->Option AB) (n:Pos) (s:List Nat):aC.run H n (.lenB .s) [.str s]=some (.val (.int .i64 (s.length:Int))):=rfl
@[simp] theorem alK {R:Type} (c:ak) (K:AV->St->Option R) (st:St) (s:List Nat):aj c (.lenB .s) [.str s] st K=K (.int .i64 (s.length:Int)) st:=aI c K (fun H n=>agX H n s) st
theorem Z5 (H:Pos->Option AB) (n:Pos) (es:Nat) (z:Bool) (rs:List (List AV)):aC.run H n (.lenB .l) [ro es z rs]=some (.val (.int .i64 (rs.length:Int))):=by unfold ro;split<;>rfl
@[simp] theorem bV {R:Type} (c:ak) (K:AV->St->Option R) (st:St) (es:Nat) (z:Bool) (rs:List (List AV)):aj c (.lenB .l) [ro es z rs] st K=K (.int .i64 (rs.length:Int)) st:=aI c K (fun H n=>Z5 H n es z rs) st
@[simp] theorem agY {R:Type} (K:AV->Option R) (es:Nat) (z:Bool) (rs:List (List AV)):fM (.lenB .l) [ro es z rs] K=K (.int .i64 (rs.length:Int)):=cP K (fun H n=>Z5 H n es z rs)
theorem agZ (H:Pos->Option AB) (n:Pos) (k k2:IntKind) (a:Int):aC.run H n (.conv (.int k)) [.int k2 a]=some (.val (.int k (ay k a))):=rfl
@[simp] theorem Z6 {R:Type} (c:ak) (K:AV->St->Option R) (st:St) (k k2:IntKind) (a:Int):aj c (.conv (.int k)) [.int k2 a] st K=K (.int k (ay k a)) st:=aI c K (fun H n=>agZ H n k k2 a) st
theorem ag0 (H:Pos->Option AB) (n:Pos) (k:IntKind) (s:List Nat) (i:Nat):aC.run H n .idxS [.str s,.int k (i:Int)]=((s[i]?.map fun c=> .int .u8 (c:Int)):Option AV).map .val:=by simp only[aC.run,Qo,jw,kZ];cases s[i]? <;>rfl
@[simp] theorem alL {R:Type} (c:ak) (K:AV->St->Option R) (st:St) (k:IntKind) (s:List Nat) (i:Nat):aj c .idxS [.str s,.int k (i:Int)] st K=xN (s[i]?.map fun c=> .int .u8 (c:Int)) fun v=>K v st:=EU c K (fun H n=>ag0 H n k s i) st
theorem Ot (H:Pos->Option AB) (n:Pos) (off:Nat) (p:Pos) (o:Nat):aC.run H n (.fieldA off) [.ptr p o]=some (.val (.ptr p (o+off))):=rfl
@[simp] theorem eY {R:Type} (c:ak) (K:AV->St->Option R) (st:St) (off:Nat) (p:Pos) (o:Nat):aj c (.fieldA off) [.ptr p o] st K=K (.ptr p (o+off)) st:=aI c K (fun H n=>Ot H n off p o) st
@[simp] theorem EW {R:Type} (K:AV->Option R) (off:Nat) (p:Pos) (o:Nat):fM (.fieldA off) [.ptr p o] K=K (.ptr p (o+off)):=cP K (fun H n=>Ot H n off p o)
theorem Ou (H:Pos->Option AB) (n:Pos) (off:Nat) (xs:List (List AV)) (i j:Nat):aC.run H n (.fieldA off) [.fp xs i j]=some (.val (.fp xs i (j+off))):=rfl
@[simp] theorem ajT {R:Type} (c:ak) (K:AV->St->Option R) (st:St) (off:Nat) (xs:List (List AV)) (i j:Nat):aj c (.fieldA off) [.fp xs i j] st K=K (.fp xs i (j+off)) st:=aI c K (fun H n=>Ou H n off xs i j) st
@[simp] theorem ajU {R:Type} (K:AV->Option R) (off:Nat) (xs:List (List AV)) (i j:Nat):fM (.fieldA off) [.fp xs i j] K=K (.fp xs i (j+off)):=cP K (fun H n=>Ou H n off xs i j)
theorem R4 (H:Pos->Option AB) (n:Pos) (i:Nat) (l:List AV):aC.run H n (.extract i) [.tuple l]=(l[i]? :Option AV).map .val:=by simp only[aC.run,DT,kZ];cases l[i]? <;>rfl
@[simp] theorem kq {R:Type} (c:ak) (K:AV->St->Option R) (st:St) (i:Nat) (l:List AV):aj c (.extract i) [.tuple l] st K=xN l[i]? fun v=>K v st:=EU c K (fun H n=>R4 H n i l) st
@[simp] theorem akw {R:Type} (K:AV->Option R) (i:Nat) (l:List AV):fM (.extract i) [.tuple l] K=xN l[i]? K:=Uu K (fun H n=>R4 H n i l)
theorem Jt (H:Pos->Option AB) (n:Pos) (p:Pos) (o:Nat):aC.run H n .nilCheck [.ptr p o]=some (.val (.ptr p o)):=rfl
@[simp] theorem mo {R:Type} (c:ak) (K:AV->St->Option R) (st:St) (p:Pos) (o:Nat):aj c .nilCheck [.ptr p o] st K=K (.ptr p o) st:=aI c K (fun H n=>Jt H n p o) st
@[simp] theorem Bj {R:Type} (K:AV->Option R) (p:Pos) (o:Nat):fM .nilCheck [.ptr p o] K=K (.ptr p o):=cP K (fun H n=>Jt H n p o)
theorem Z7 (H:Pos->Option AB) (n:Pos) (es:Nat) (z:Bool) (rs:List (List AV)) (k:IntKind) (i:Nat):aC.run H n (.idxA es none) [ro es z rs,.int k (i:Int)]=((if i<rs.length then some (.fp rs i 0) else none):Option AV).map .val:=by
 by_cases h:i<rs.length
 . rw[VL (by intro e;subst e;simp at h)]
   simp[aC.run,pG,jw,D0,cN,h]
 . unfold ro;split
   . rfl
   . simp[aC.run,pG,jw,D0,cN,h]
@[simp] theorem ag1 {R:Type} (c:ak) (K:AV->St->Option R) (st:St) (es:Nat) (z:Bool) (rs:List (List AV)) (k:IntKind) (i:Nat):aj c (.idxA es none) [ro es z rs,.int k (i:Int)] st K=xN (if i<rs.length then some (.fp rs i 0) else none) fun v=>K v st:=EU c K (fun H n=>Z7 H n es z rs k i) st
@[simp] theorem alM {R:Type} (K:AV->Option R) (es:Nat) (z:Bool) (rs:List (List AV)) (k:IntKind) (i:Nat):fM (.idxA es none) [ro es z rs,.int k (i:Int)] K=xN (if i<rs.length then some (.fp rs i 0) else none) K:=Uu K (fun H n=>Z7 H n es z rs k i)
theorem Xm (H:Pos->Option AB) (n:Pos) (es:Nat) (z:Bool) (rs:List (List AV)) (k:IntKind) (i:Nat):aC.run H n (.sliceL es false true false) [ro es z rs,.int k (i:Int)]=((if i<=rs.length then some (ro es (z&&rs.isEmpty) (rs.take i)) else none):Option AV).map .val:=by
 by_cases h:i<=rs.length
 . rw[  if_pos h];unfold ro
   split
   . simp at h;subst h;rfl
   . rename_i hn
     have:(z&&rs.isEmpty)=false:=by
        cases z<;>cases rs<;>simp at hn ⊢
     simp only[this]
     simp[aC.run,gY,bounds,jw,cM,cN,h]
 . rw[if_neg h];unfold ro;split
   . simp only[aC.run,gY,bounds,jw]
     have: ¬i=0:=by simp at h;omega
     simp[cN,this]
   . simp[aC.run,gY,bounds,jw,cM,cN,h]
@[simp] theorem alw {R:Type} (c:ak) (K:AV->St->Option R) (st:St) (es:Nat) (z:Bool) (rs:List (List AV)) (k:IntKind) (i:Nat):aj c (.sliceL es false true false) [ro es z rs,.int k (i:Int)] st K=xN (if i<=rs.length then some (ro es (z&&rs.isEmpty) (rs.take i)) else none) fun v=>K v st:=EU c K (fun H n=>Xm H n es z rs k i) st
@[simp] theorem alx {R:Type} (K:AV->Option R) (es:Nat) (z:Bool) (rs:List (List AV)) (k:IntKind) (i:Nat):fM (.sliceL es false true false) [ro es z rs,.int k (i:Int)] K=xN (if i<=rs.length then some (ro es (z&&rs.isEmpty) (rs.take i)) else none) K:=Uu K (fun H n=>Xm H n es z rs k i)
section
variable {R : Type} (c : ak) (K : AV -> St -> Option R) (K1 : AV -> Option R)
theorem Lf (H:Pos->Option AB) (n:Pos) (xs:List (List AV)) (i j:Nat):aC.run H n (.load none) [.fp xs i j]=(xs[i]?.bind fun cs=>cs[j]?).map .val:=by
 simp only[aC.run,u6,kZ]
 cases xs[i]? with
 |none=>rfl
 |some cs=>simp only[Option.bind_some];cases cs[j]? <;>rfl
theorem Ij (H:Pos->Option AB) (n:Pos) (m:Nat) (xs:List (List AV)) (i j:Nat):aC.run H n (.load (some m)) [.fp xs i j]=((xs[i]?.bind fun cs=>cut cs j m).map .agg).map .val:=by
 simp only[aC.run,u6,kZ]
 cases xs[i]? with
 |none=>rfl
 |some cs=>simp only[Option.bind_some];cases cut cs j m<;>rfl
theorem oh (H:Pos->Option AB) (n:Pos) (p:Pos) (o:Nat):aC.run H n (.load none) [.ptr p o]=((cellsOf (H p)).bind fun cs=>cs[o]?).map .val:=by
 simp only[aC.run,u6,kZ]
 cases H p with
 |none=>rfl
 |some x=>   cases x<;>simp only[cellsOf,Option.bind_some,Option.bind_none]<;>try rfl
             all_goals first|(rename_i cs _;cases cs[o]? <;>rfl)|(rename_i _ cs;cases cs[o]? <;>rfl)
theorem sy (H:Pos->Option AB) (n:Pos) (m:Nat) (p:Pos) (o:Nat):aC.run H n (.load (some m)) [.ptr p o]=(((cellsOf (H p)).bind fun cs=>cut cs o m).map .agg).map .val:=by
 simp only[aC.run,u6]
 cases H p with
 |none=>rfl
 |some x=>   cases x<;>simp only[cellsOf,Option.bind_some,Option.bind_none]<;>try rfl
             all_goals first|(rename_i cs _;cases cut cs o m<;>rfl)|(rename_i _ cs;cases cut cs o m<;>rfl)
@[simp] theorem akS (st:St) (xs:List (List AV)) (i j:Nat):aj c (.load none) [.fp xs i j] st K=xN (xs[i]?.bind fun cs=>cs[j]?) fun v=>K v st:=EU c K (fun H n=>Lf H n xs i j) st
@[simp] theorem abP (st:St) (m:Nat) (xs:List (List AV)) (i j:Nat):aj c (.load (some m)) [.fp xs i j] st K=Cx (xs[i]?.bind fun cs=>cut cs j m) fun l=>K (.agg l) st:=by
  rw[EU c K (fun H n=>Ij H n m xs i j) st];cases (xs[i]?.bind fun cs=>cut cs j m)<;>rfl
@[simp] theorem gM (st:St) (p:Pos) (o:Nat):aj c (.load none) [.ptr p o] st K=xN ((cellsOf (st.heap.get p)).bind fun cs=>cs[o]?) fun v=>K v st:=by
  unfold aj bP;rw[oh];cases ((cellsOf (st.heap.get p)).bind fun cs=>cs[o]?)<;>rfl
@[simp] theorem R5 (st:St) (m:Nat) (p:Pos) (o:Nat):aj c (.load (some m)) [.ptr p o] st K=Cx ((cellsOf (st.heap.get p)).bind fun cs=>cut cs o m) fun l=>K (.agg l) st:=by
  unfold aj bP;rw[sy];cases ((cellsOf (st.heap.get p)).bind fun cs=>cut cs o m)<;>rfl
@[simp] theorem akT (h:T AB) (xs:List (List AV)) (i j:Nat):jT (.load none) [.fp xs i j] h (fun _=>true) K1=xN (xs[i]?.bind fun cs=>cs[j]?) K1:=by
  unfold jT;rw[Lf,Lf]
  cases hx:(xs[i]?.bind fun cs=>cs[j]?)<;>rfl
@[simp] theorem akx (h:T AB) (m:Nat) (xs:List (List AV)) (i j:Nat):jT (.load (some m)) [.fp xs i j] h (fun _=>true) K1=Cx (xs[i]?.bind fun cs=>cut cs j m) fun l=>K1 (.agg l):=by
  unfold jT;rw[Ij,Ij]
  cases hx:(xs[i]?.bind fun cs=>cut cs j m)<;>rfl
@[simp] theorem aky (st:St) (f:FuncId) (xs:List AV):aj c (.mkFunc f 0) xs st K=K (.func f [] xs) st:=aI c K (fun H n=>by simp[aC.run,BN,cM]) st
@[simp] theorem abQ (f:FuncId) (xs:List AV):fM (.mkFunc f 0) xs K1=K1 (.func f [] xs):=cP K1 (fun H n=>by simp[aC.run,BN,cM])
@[simp] theorem Ux (h:T AB) (p:Pos) (o:Nat):jT (.load none) [.ptr p o] h (fun _=>true) K1=xN ((cellsOf (h.get p)).bind fun cs=>cs[o]?) K1:=by
  unfold jT;rw[oh,oh]
  show (match ((cellsOf (h.get p)).bind fun cs=>cs[o]?).map cq.val with|some (.val v)=>_|_=>_)=_
  cases ((cellsOf (h.get p)).bind fun cs=>cs[o]?)<;>rfl
@[simp] theorem R6 (h:T AB) (m:Nat) (p:Pos) (o:Nat):jT (.load (some m)) [.ptr p o] h (fun _=>true) K1=Cx ((cellsOf (h.get p)).bind fun cs=>cut cs o m) fun l=>K1 (.agg l):=by
  unfold jT;rw[sy,sy]
  show (match (((cellsOf (h.get p)).bind fun cs=>cut cs o m).map AV.agg).map cq.val with|some (.val v)=>_|_=>_)=_
  cases ((cellsOf (h.get p)).bind fun cs=>cut cs o m)<;>rfl
theorem run_build (H:Pos->Option AB) (n:Pos) (z:List AV) (ps:List (Nat×Nat)) (xs:List AV):aC.run H n (.build z ps) xs=((bJ z ps xs).map .agg).map .val:=by
 simp only[aC.run,Kr];cases bJ z ps xs<;>rfl
@[simp] theorem BW (st:St) (z:List AV) (ps:List (Nat×Nat)) (xs:List AV):aj c (.build z ps) xs st K=Cx (bJ z ps xs) fun l=>K (.agg l) st:=by
  rw[EU c K (fun H n=>run_build H n z ps xs) st];cases bJ z ps xs<;>rfl
@[simp] theorem aly (z:List AV) (ps:List (Nat×Nat)) (xs:List AV):fM (.build z ps) xs K1=Cx (bJ z ps xs) fun l=>K1 (.agg l):=by
  rw[Uu K1 (fun H n=>run_build H n z ps xs)];cases bJ z ps xs<;>rfl
theorem cD {α:Type} {l:List α} {m:Nat} (h:l.length=m):cut l 0 m=some l:=by
 unfold cut
 rw[cM,decide_eq_true (by omega)]
 simp only[List.drop_zero]
 rw[List.take_of_length_le (by omega)]
end
end Go.Ai
namespace Go.Ai
open Go
def Wf (st:St):Prop:= ∀p x,st.heap.get p=some x->p.toNat<st.next.toNat
theorem bG (st:St) (b:AB):(ai st b).next=st.next.succ:=id rfl
@[simp] theorem aQ {st:St} {b:AB} (h:Wf st):Wf (ai st b):=fun p x hp=>by
  rw[bG,Pos.ax]
  by_cases e:st.next=p
  . subst e;omega
  . have:=h p x (by rwa [ai,T.bK _ e] at hp)
    omega
@[simp] theorem aH (st:St) (b:AB):(ai st b).heap.get st.next=some b:=T.fq _ _ _
theorem sC {st:St} {b:AB} {p:Pos} (h:p.toNat<st.next.toNat):(ai st b).heap.get p=st.heap.get p:=by
 rw[ai,T.bK _ (by intro e;subst e;omega)]
@[simp] theorem EX {st:St} {a b:AB}:(ai (ai st a) b).heap.get st.next=some a:=by
  rw[sC (by rw[bG,Pos.ax];omega),aH]
theorem aU {st:St} {b:AB} (h:Wf st):aM st (ai st b):=fun p x hp=>by
 rw[sC (h p x hp)];exact hp
theorem au {st st':St} {v:AV} (hv:Plain v) (hk:aM st st'):tidy st (v,st')=(v,st):=by
 unfold tidy;rw[if_pos ⟨hv,hk⟩]
section
variable {R : Type} (c : ak) (K : AV -> St -> Option R)
@[simp] theorem nR (x:AV) (st:St):aj c .box [x] st K=K (.ptr st.next 0) (ai st (.cells x.cells 0)):=id rfl
@[simp] theorem qD (l:List AV) (st:St):aj c (.alloc l) [] st K=K (.ptr st.next 0) (ai st (.cells l 0)):=id rfl
end
theorem T.Bk {α:Type} (x y:Option α): ∀(p:Pos) (t:T α),T.put x p (T.put y p t)=T.put x p t
 | .h,.e=>rfl
 | .h,.n _ _ _=>rfl
 | .o p,.e=>by simp only[T.put];rw[T.Bk x y p]
 | .o p,.n _ _ _=>by simp only[T.put];rw[T.Bk x y p]
 | .i p,.e=>by simp only[T.put];rw[T.Bk x y p]
 | .i p,.n _ _ _=>by simp only[T.put];rw[T.Bk x y p]
def bt (st:St) (p:Pos) (b:AB):St:={ heap:=st.heap.put (some b) p,next:=st.next }
@[simp] theorem cg (st:St) (p:Pos) (b:AB):(bt st p b).next=st.next:=id rfl
@[simp] theorem dM (st:St) (p:Pos) (b:AB):(bt st p b).heap.get p=some b:=T.fq _ _ _
theorem aF {st:St} {p q:Pos} {b:AB} (h:p≠q):(bt st p b).heap.get q=st.heap.get q:=T.bK _ h _
@[simp] theorem acO (st:St) (a b:AB):bt (ai st a) st.next b=ai st b:=by
  unfold bt ai;simp only[T.Bk]
@[simp] theorem acP (st:St) (p:Pos) (a b:AB):bt (bt st p a) p b=bt st p b:=by
  unfold bt;simp only[T.Bk]
theorem Pos.QD (p:Pos):p≠p.succ:=fun e=>by have:=congrArg Pos.toNat e;rw[Pos.ax] at this;omega
theorem cu {R:Type} (c:ak) (K:AV->St->Option R) (st:St) (m:Nat) (p:Pos) (o:Nat) (v:AV) (cs:List AV) (h:st.heap.get p=some (.cells cs 0)) (h1:v.cells.length=m) (h2:o+m<=cs.length) (h3:aK v.cells=true):
  aj c (.store m) [.ptr p o,v] st K=K .undef (bt st p (.cells (aG cs o v.cells) 0)):=by
 have:aC.run (fun b=>st.heap.get b) st.next (.store m) [.ptr p o,v]=some (.aL .undef none (some (p,.cells (aG cs o v.cells) 0)) none):=by
  simp[aC.run,Ez,h,h1,h2,h3,cN,cM]
 unfold aj bP;rw[this];rfl
@[simp] theorem dy {R:Type} (c:ak) (K:AV->St->Option R) (st:St) (m:Nat) (v:AV) (cs:List AV) (h1:v.cells.length=m) (h2:m=cs.length) (h3:aK v.cells=true):
   aj c (.store m) [.ptr st.next 0,v] (ai st (.cells cs 0)) K=K .undef (ai st (.cells v.cells 0)):=by
  rw[cu c K _ m st.next 0 v cs (aH _ _) h1 (by omega) h3,acO]
  have:aG cs 0 v.cells=v.cells:=by unfold aG;rw[h1,h2];simp
  rw[this]
theorem akU {R:Type} (n:Option Nat) (p:Pos) (o:Nat) (st:St) (K:AV->Option R):ldr n (.ptr p o) st K=match n with
  |none=>xN ((cellsOf (st.heap.get p)).bind fun cs=>cs[o]?) K
  |some m=>Cx ((cellsOf (st.heap.get p)).bind fun cs=>cut cs o m) fun l=>K (.agg l):=by
 unfold ldr
 cases n with
 |none=>rw[oh];simp only;cases ((cellsOf (st.heap.get p)).bind fun cs=>cs[o]?)<;>rfl
 |some m=>rw[sy];simp only;cases ((cellsOf (st.heap.get p)).bind fun cs=>cut cs o m)<;>rfl
@[simp] theorem alN {R:Type} (m:Nat) (p:Pos) (o:Nat) (st:St) (K:AV->Option R):ldr (some m) (.ptr p o) st K=Cx ((cellsOf (st.heap.get p)).bind fun cs=>cut cs o m) fun l=>K (.agg l):=akU (some m) p o st K
@[simp] theorem ae7 (es:Nat) (z:Bool) (rs:List (List AV)):(ro es z rs).one=true:=by unfold ro;split<;>rfl
@[simp] theorem Z8 (es:Nat) (z:Bool) (rs:List (List AV)):(ro es z rs).cells=[ro es z rs]:=by unfold ro;split<;>rfl
theorem Plain.ro {es:Nat} {z:Bool} {rs:List (List AV)} (h: ∀cs∈rs,∀v∈cs,Plain v):Plain (ro es z rs):=by
 unfold Go.Ai.ro;split
 . exact Plain.ah
 . exact Plain.fl h
structure Grew (s s':St):Prop where
 wf:Wf s'
 keeps:aM s s'
 next:s.next.toNat<=s'.next.toNat
theorem Grew.refl {s:St} (h:Wf s):Grew s s:=⟨h,aM.refl s,Nat.le_refl _⟩
theorem Grew.trans {a b c:St} (h:Grew a b) (k:Grew b c):Grew a c:=⟨k.wf,h.keeps.trans k.keeps,Nat.le_trans h.next k.next⟩
theorem Grew.ai {s:St} (h:Wf s) (b:AB):Grew s (ai s b):=⟨aQ h,aU h,by rw[bG,Pos.ax];omega⟩
theorem Grew.get {s s':St} (h:Grew s s') {p:Pos} {x:AB} (hp:s.heap.get p=some x):s'.heap.get p=some x:=h.keeps p x hp
end Go.Ai
end
namespace Go.Ai
section
set_option linter.all false
open Go
theorem ij {st:St} {p:Pos} {b:AB} (h:Wf st) (hp:p.toNat<st.next.toNat):Wf (bt st p b):=fun q x hq=>by
 rw[cg]
 by_cases e:p=q
 . subst e;exact hp
 . rw[aF e] at hq;exact h q x hq
def dst (st:St) (p:Pos) (b:AB):St:={ heap:=(st.heap.put none p).put (some b) st.next,next:=st.next.succ }
theorem ag2 (st:St) (p:Pos) (b:AB):(dst st p b).next=st.next.succ:=id rfl
theorem VM (st:St) (p:Pos) (b:AB):(dst st p b).heap.get st.next=some b:=T.fq _ _ _
theorem Uy {st:St} {p q:Pos} {b:AB} (h:p≠q) (h2:q.toNat<st.next.toNat):(dst st p b).heap.get q=st.heap.get q:=by
 rw[dst,T.bK _ (by intro e;subst e;omega),T.bK _ h]
theorem ae8 {st:St} {p:Pos} {b:AB} (h:Wf st):Wf (dst st p b):=fun q x hq=>by
 rw[ag2,Pos.ax]
 by_cases e:st.next=q
 . subst e;omega
 . rw[dst,T.bK _ e] at hq
   by_cases e2:p=q
   . subst e2;rw[T.fq] at hq;cases hq
   . rw[T.bK _ e2] at hq;have:=h q x hq;omega
theorem acQ {s s':St} {v:AV} {b:Pos} {x:AB} (h:s.heap.get b=some x) (h2:s'.heap.get b≠some x):tidy s (v,s')=(v,s'):=by
 unfold tidy;rw[if_neg]
 exact fun e=>h2 (e.2 b x h)
section
variable {R : Type} (c : ak) (K : AV -> St -> Option R) (K1 : AV -> Option R)
theorem Uz (H:Pos->Option AB) (n:Pos) (es len:Nat) (z:List AV) (ps:List Nat) (xs:List AV):aC.run H n (.buildSlice es len z ps) xs=(bJ (bC z len) (ps.map fun i=>(i*es,es)) xs).map fun cs=> .aL (.slice n 0 len (some len) es) none none (some (.cells cs 0)):=by
 simp only[aC.run,rO];cases bJ (bC z len) (ps.map fun i=>(i*es,es)) xs<;>rfl
@[simp] theorem cB (st:St) (es len:Nat) (z:List AV) (ps:List Nat) (xs:List AV):aj c (.buildSlice es len z ps) xs st K=Cx (bJ (bC z len) (ps.map fun i=>(i*es,es)) xs) fun cs=>K (.slice st.next 0 len (some len) es) (ai st (.cells cs 0)):=by
  unfold aj bP;rw[Uz];cases bJ (bC z len) (ps.map fun i=>(i*es,es)) xs<;>rfl
@[simp] theorem adO (st:St) (es len:Nat) (z:List AV) (ps:List Nat) (xs:List AV) (K2:AV->AB->Option R):Ut (.buildSlice es len z ps) xs st K2=Cx (bJ (bC z len) (ps.map fun i=>(i*es,es)) xs) fun cs=>K2 (.slice st.next 0 len (some len) es) (.cells cs 0):=by
  unfold Ut;rw[Uz];cases bJ (bC z len) (ps.map fun i=>(i*es,es)) xs<;>rfl
@[simp] theorem Ov (st:St):aj c .mkMap [] st K=K (.map st.next) (ai st (.map [] 0)):=id rfl
theorem Z9 {st:St} {es bytes m:Nat} {x:AV} {new:List AV} (hm:dF x=some m) (h0:m≠0) (hb:(2*(0+m)+768)*bytes<=281474976710656) (hs:0+m<=9223372036854775807) (hx:cA es m (fun b=>st.heap.get b) x=some new):
  aj c (.append es bytes) [.ah,x] st K=K (.slice st.next 0 m none es) (ai st (.cells new 0)):=by
 have:aC.run (fun b=>st.heap.get b) st.next (.append es bytes) [.ah,x]=some (.aL (.slice st.next 0 m none es) none none (some (.cells new 0))):=by
  simp only[aC.run,fK]
  rw[show dF .ah=some 0 from rfl,hm]
  simp only[cM,cN,decide_eq_true hb,decide_eq_true hs,decide_eq_false h0,hx]
 unfold aj bP;rw[this];rfl
theorem aiH {st:St} {es bytes m n:Nat} {p:Pos} {x:AV} {cs c9 new:List AV} (hm:dF x=some m) (h0:m≠0) (hb:(2*(n+m)+768)*bytes<=281474976710656) (hs:n+m<=9223372036854775807) (hp:st.heap.get p=some (.cells cs 0))
  (ho:cA es n (fun b=>st.heap.get b) (.slice p 0 n none es)=some c9) (hx:cA es m (fun b=>st.heap.get b) x=some new) (h1:aK new=true):
  aj c (.append es bytes) [.slice p 0 n none es,x] st K=K (.slice st.next 0 (n+m) none es) (dst st p (.cells (c9++new) 0)):=by
 have:aC.run (fun b=>st.heap.get b) st.next (.append es bytes) [.slice p 0 n none es,x]=some (.aL (.slice st.next 0 (n+m) none es) (some p) none (some (.cells (c9++new) 0))):=by
  simp only[aC.run,fK]
  rw[show dF (.slice p 0 n none es)=some n from rfl,hm]
  simp only[cM,cN,decide_eq_true hb,decide_eq_true hs,decide_eq_false h0,hx,hp,ho,h1]
  simp
 unfold aj bP;rw[this];rfl
theorem ae9 {st:St} {es bytes m:Nat} {p:Pos} {x:AV} {new:List AV} (hm:dF x=some m) (h0:m≠0) (hb:(2*(0+m)+768)*bytes<=281474976710656) (hs:0+m<=9223372036854775807) (hx:cA es m (fun b=>st.heap.get b) x=some new):
  aj c (.append es bytes) [.slice p 0 0 (some 0) es,x] st K=K (.slice st.next 0 m none es) (ai st (.cells new 0)):=by
 have:aC.run (fun b=>st.heap.get b) st.next (.append es bytes) [.slice p 0 0 (some 0) es,x]=some (.aL (.slice st.next 0 m none es) none none (some (.cells new 0))):=by
  have h2: ¬(0+m<=0):=by omega
  have ho:cA es 0 (fun b=>st.heap.get b) (.slice p 0 0 (some 0) es)=some []:=by simp[cA]
  simp only[aC.run,fK]
  rw[show dF (.slice p 0 0 (some 0) es)=some 0 from rfl,hm]
  simp only[cM,cN,decide_eq_true hb,decide_eq_true hs,decide_eq_false h0,decide_eq_false h2,hx,ho]
  simp only[Nat.zero_add,List.nil_append]
 unfold aj bP;rw[this];rfl
theorem aaa {st:St} {es bytes:Nat} {p:Pos} {off n:Nat} {cp:Option Nat} {x:AV} (hm:dF x=some 0) (hb:(2*(n+0)+768)*bytes<=281474976710656) (hs:n+0<=9223372036854775807):
  aj c (.append es bytes) [.slice p off n cp es,x] st K=K (.slice p off n cp es) st:=by
 have:aC.run (fun b=>st.heap.get b) st.next (.append es bytes) [.slice p off n cp es,x]=some (.val (.slice p off n cp es)):=by
  simp only[aC.run,fK]
  rw[show dF (.slice p off n cp es)=some n from rfl,hm]
  simp only[cM,cN,decide_eq_true hb,decide_eq_true hs]
 unfold aj bP;rw[this]
theorem Xn (H:Pos->Option AB) (n:Pos) (z:AV) (m:Pos) (es:List (AV×AV×Nat)) (cl:Nat) (k:AV) (h:H m=some (.map es cl)) (r:Option (Nat×AV)) (hf:fH .s k es 0=some r):
  aC.run H n (.lookup .s z true) [.map m,k]=some (.val (match r with|some (_,v)=> .tuple [v,.bool true]|none=> .tuple [z,.bool false])):=by
 simp only[aC.run,l8,h,hf]
 cases r with
 |none=>rfl
 |some p=>rfl
theorem yo (z:AV) {st:St} {m:Pos} {es:List (AV×AV×Nat)} {cl:Nat} {k:AV} {r:Option (Nat×AV)} (h:st.heap.get m=some (.map es cl)) (hf:fH .s k es 0=some r):
  aj c (.lookup .s z true) [.map m,k] st K=K (match r with|some (_,v)=> .tuple [v,.bool true]|none=> .tuple [z,.bool false]) st:=by
 unfold aj bP;rw[Xn _ _ z m es cl k h r hf]
theorem Xo (z:AV) {h:T AB} {m:Pos} {es:List (AV×AV×Nat)} {cl:Nat} {k:AV} {r:Option (Nat×AV)} (hh:h.get m=some (.map es cl)) (hf:fH .s k es 0=some r):
  jT (.lookup .s z true) [.map m,k] h (fun _=>true) K1=K1 (match r with|some (_,v)=> .tuple [v,.bool true]|none=> .tuple [z,.bool false]):=by
 unfold jT
 have e:aC.run (fun _=>none) .h (.lookup .s z true) [.map m,k]=none:=rfl
 rw[e]
 simp only
 rw[Xn _ _ z m es cl k hh r hf]
theorem abR {st:St} {m:Pos} {es:List (AV×AV×Nat)} {cl:Nat} {k:List Nat} {v:AV} (h:st.heap.get m=some (.map es cl)) (hf:fH .s (.str k) es 0=some none):
  aj c (.mapSet .s) [.map m,.str k,v] st K=K .undef (bt st m (.map (es++[(.str k,v,cl)]) (cl+1))):=by
 have:aC.run (fun b=>st.heap.get b) st.next (.mapSet .s) [.map m,.str k,v]=some (.aL .undef none (some (m,.map (es++[(.str k,v,cl)]) (cl+1))) none):=by
  simp[aC.run,tV,h,hf,Za]
 unfold aj bP;rw[this];rfl
theorem aiI {p:Pos} {o:Nat} {h h2:T AB} {v:AV} (hv:((cellsOf (h.get p)).bind fun cs=>cs[o]?)=some v) (Jg:((cellsOf (h2.get p)).bind fun cs=>cs[o]?)=some v) (hb:eC v v=true):
  jT (.load none) [.ptr p o] h (fun v=>kL (.load none) [.ptr p o] v (jN [] h2)&&true) K1=K1 v:=by
 unfold jT
 have e:aC.run (fun _=>none) .h (.load none) [.ptr p o]=none:=rfl
 rw[e]
 simp only
 rw[oh,hv]
 simp only[Option.map_some]
 have:kL (.load none) [.ptr p o] v (jN [] h2)=true:=by
  unfold kL
  show (match aC.run (fun b=>h2.get b) .h (.load none) [.ptr p o] with|some (.val u)=>eC u v|_=>false)=true
  rw[oh,Jg];exact hb
 rw[this];rfl
end
theorem kT {R:Type} (K1:AV->Option R) {p:Pos} {o:Nat} {h h2:T AB} {v:AV} (hv:((cellsOf (h.get p)).bind fun cs=>cs[o]?)=some v) (Jg:((cellsOf (h2.get p)).bind fun cs=>cs[o]?)=some v) (hb:eC v v=true):
  jT (.load none) [.ptr p o] h (fun v=>kL (.load none) [.ptr p o] v (jN [] h2)) K1=K1 v:=by
 have:=aiI K1 hv Jg hb
 simp only[Bool.and_true] at this;exact this
theorem GZ (p:Pos) (o n es:Nat):eC (.slice p o n none es) (.slice p o n none es)=true:=by
 simp[eC,kK,fJ,Pos.beq_eq.2 rfl]
theorem Lg:eC .ah .ah=true:=rfl
end
section
inductive cC:Nat->AV->Prop
 |flat {d:Nat} {v:AV} (h:fJ v v=true):cC d v
 |fl {d:Nat} {a:List (List AV)} {n:Nat} (h: ∀r∈a,∀v∈r,cC d v):cC (d+1) (.fl a n)
theorem UA {f:AV->AV->Bool}: ∀{a:List AV},(∀v∈a,f v v=true)->Gz f a a=true
 |[],_=>rfl
 |a::x,h=>by
  simp only[Gz,h a (by simp),UA (fun v hv=>h v (List.mem_cons_of_mem _ hv)),Bool.and_self]
theorem Ox {f:AV->AV->Bool}: ∀{a:List (List AV)},(∀r∈a,∀v∈r,f v v=true)->yf f a a=true
 |[],_=>rfl
 |a::x,h=>by
  simp only[yf,UA (h a (by simp)),Ox (fun v hv=>h v (List.mem_cons_of_mem _ hv)),Bool.and_self]
theorem Lh: ∀{d:Nat} {v:AV},cC d v->GC d v v=true
 |d,v,.flat h=>by
  unfold GC;split
  . simp[fJ] at h
  . exact h
 |d+1,.fl a n,.fl h=>by
  unfold GC
  simp[Ox (fun r hr v hv=>Lh (h r hr v hv))]
theorem cC.ro {d es:Nat} {z:Bool} {rs:List (List AV)} (h: ∀r∈rs,∀v∈r,cC d v):cC (d+1) (ro es z rs):=by
 unfold Go.Ai.ro;split
 . exact .flat rfl
 . exact .fl h
theorem qE {v:AV} (h:cC 3 v):eC v v=true:=by
 have h3:=Lh h
 cases h with
 |flat h=>
  cases v<;>simp[fJ] at h<;>first|simp[eC,kK,fJ,h]|skip
  all_goals simp_all [eC,kK,fJ]
 |fl h=>exact h3
theorem adP {v:AV} (h:cC 3 v):kK v v=true:=by
 have h3:=Lh h
 cases h with
 |flat h=>
  cases v<;>simp[fJ] at h<;>first|simp[kK,fJ,h]|skip
  all_goals simp_all [kK,fJ]
 |fl h=>exact h3
theorem Mw {l:List AV} (h: ∀v∈l,cC 3 v):eC (.agg l) (.agg l)=true:=by
 show oG l l=true
 induction l with
 |nil=>rfl
 |cons v l ih=>simp only[oG,adP (h v (by simp)),ih (fun u hu=>h u (List.mem_cons_of_mem _ hu)),Bool.and_self]
theorem aab {R:Type} (K1:AV->Option R) {m:Nat} {p:Pos} {o:Nat} {h h2:T AB} {l:List AV} (hv:((cellsOf (h.get p)).bind fun cs=>cut cs o m)=some l) (Jg:((cellsOf (h2.get p)).bind fun cs=>cut cs o m)=some l) (hb:eC (.agg l) (.agg l)=true):
  jT (.load (some m)) [.ptr p o] h (fun v=>kL (.load (some m)) [.ptr p o] v (jN [] h2)) K1=K1 (.agg l):=by
 unfold jT
 have e:aC.run (fun _=>none) .h (.load (some m)) [.ptr p o]=none:=rfl
 rw[e]
 simp only
 rw[sy,hv]
 simp only[Option.map_some]
 have:kL (.load (some m)) [.ptr p o] (.agg l) (jN [] h2)=true:=by
  unfold kL
  show (match aC.run (fun b=>h2.get b) .h (.load (some m)) [.ptr p o] with|some (.val u)=>eC u (.agg l)|_=>false)=true
  rw[sy,Jg];exact hb
 rw[this]
theorem cC.int {d:Nat} (k:IntKind) (n:Int):cC d (.int k n):= .flat (by simp[fJ,mE,cw])
theorem cC.str {d:Nat} (s:List Nat):cC d (.str s):= .flat (by simp[fJ,lS])
theorem cC.bool {d:Nat} (s:Bool):cC d (.bool s):= .flat (by simp[fJ])
end
section
open Go
section
variable {H : Type} (enc : TypeId × Value -> H) (P : Program) (w : World) (base : Nat) (spare : Nat -> Bool) (held : Bool)
def xx (t:TypeId) (Q:List AV->Prop):Prop:=
 ∀  (fuel:Nat) (cs:List Value) (x:DataW H×List MemPlace),DataW.trod enc P w base spare held fuel t cs=some x->
    ∃as,Q as/\ ∀ρ n,aA ρ n (fun ad=>w.cell? ad) as cs
variable {enc P w base spare held}
theorem xx.mono {t:TypeId} {Q Q':List AV->Prop} (h:xx enc P w base spare held t Q) (k: ∀as,Q as->Q' as):xx enc P w base spare held t Q':=
 fun fuel cs x hx=>by obtain ⟨as,h1,h2⟩:=h fuel cs x hx;exact ⟨as,k _ h1,h2⟩
theorem G8 {t:TypeId} {k:IntKind} (ht:P.underlying t=some (.int k)):xx enc P w base spare held t fun as=> ∃i,as=[.int k i]/\(Lit.int k i).wf=true:=
 fun fuel cs x hx=>by
  obtain ⟨n,rfl,h⟩:=DataW.trod_int ht hx
  exact ⟨_,⟨n,rfl,h.2⟩,fun ρ m=>aA.cons (.int k n) aA.nil⟩
theorem adQ {t:TypeId} (ht:P.underlying t=some .bool):xx enc P w base spare held t fun as=> ∃b,as=[.bool b]:=
 fun fuel cs x hx=>by
  obtain ⟨b,rfl,h⟩:=DataW.trod_bool ht hx
  exact ⟨_,⟨b,rfl⟩,fun ρ m=>aA.cons (.bool b) aA.nil⟩
theorem afa {t:TypeId} (ht:P.underlying t=some .string):xx enc P w base spare held t fun as=> ∃s,as=[.str s]/\s.length<=maxLen/\ ∀x∈s,x<256:=
 fun fuel cs x hx=>by
  obtain ⟨s,rfl,h⟩:=DataW.trod_string ht hx
  refine ⟨_,⟨s.data.toList.map UInt8.toNat,rfl,?_,?_⟩,fun ρ m=>aA.cons (.str _ s rfl) aA.nil⟩
  . simp;exact h.2
  . intro x hx;simp only[List.mem_map] at hx;obtain ⟨y,_,rfl⟩:=hx;exact y.toNat_lt
def Oy:List (List AV->Prop)->List (List AV)->Prop
 |[],[]=>True
 |Q::Qs,p::ps=>Q p/\Oy Qs ps
 |_,_=>False
def zn (P:Program) (Xp:Nat):Nat->List Field->Bool
 |o,[]=>o==Xp
 |o,f::fs=>f.offset==o&&zn P Xp (o+P.cellsOf f.type) fs
def aac (enc:TypeId×Value->H) (P:Program) (w:World) (base:Nat) (spare:Nat->Bool) (held:Bool):List TypeId->List (List AV->Prop)->Prop
 |[],[]=>True
 |f::fs,Q::Qs=>xx enc P w base spare held f Q/\aac enc P w base spare held fs Qs
 |_,_=>False
theorem Oz {Xp n:Nat}: ∀(fs:List Field) (Qs:List (List AV->Prop)) (o:Nat) (cs:List Value),zn P Xp o fs=true->aac enc P w base spare held (fs.map (·.type)) Qs->cs.length=Xp->
  (∀f∈fs,∃y,DataW.trod enc P w base spare held n f.type ((cs.drop f.offset).take (P.cellsOf f.type))=some y)->
  ∃parts,Oy Qs parts/\ ∀ρ m,aA ρ m (fun ad=>w.cell? ad) parts.flatten (cs.drop o)
 |[],[],o,cs,hc,_,hl,_=>by
  simp only[zn,beq_iff_eq] at hc
  refine ⟨[],trivial,fun ρ m=> ?_⟩
  rw[List.drop_eq_nil_of_le (by omega)];exact aA.nil
 |f::fs,Q::Qs,o,cs,hc,hO,hl,hf=>by
  simp only[zn,Bool.and_eq_true,beq_iff_eq] at hc
  obtain ⟨y,hy⟩:=hf f (by simp)
  obtain ⟨as,hq,hv⟩:=hO.1 n _ y hy
  obtain ⟨parts,hp,Jg⟩:=Oz fs Qs _ cs hc.2 hO.2 hl (fun g hg=>hf g (List.mem_cons_of_mem _ hg))
  refine ⟨as::parts,⟨hq,hp⟩,fun ρ m=> ?_⟩
  have e:cs.drop o=(cs.drop f.offset).take (P.cellsOf f.type)++cs.drop (o+P.cellsOf f.type):=by
   rw[hc.1, <-List.drop_drop,List.take_append_drop]
  rw[e,List.flatten_cons]
  exact (hv ρ m).append (Jg ρ m)
def fieldsOf (P:Program) (t:TypeId):List Field:=match P.underlying t with
 |some (.struct fs)=>fs.toList
 |_=>[]
def Li (P:Program) (t:TypeId):Bool:=match P.underlying t with
 |some (.struct _)=>true
 |_=>false
theorem OA {t:TypeId} (ts:List TypeId) {Qs:List (List AV->Prop)} (hs:Li P t=true) (qy:(fieldsOf P t).map (·.type)=ts) (hc:zn P (P.cellsOf t) 0 (fieldsOf P t)=true) (hO:aac enc P w base spare held ts Qs):
  xx enc P w base spare held t fun as=> ∃parts,as=parts.flatten/\Oy Qs parts:=
 fun fuel cs x hx=>by
  obtain ⟨fs,ht⟩: ∃fs,P.underlying t=some (.struct fs):=by
     unfold Li at hs
     cases h:P.underlying t with
     |none=>rw[h] at hs;cases hs
     |some d=>rw[h] at hs;cases d<;>first|exact ⟨_,rfl⟩|cases hs
  have ef:fieldsOf P t=fs.toList:=by unfold fieldsOf;rw[ht]
  rw[ef] at qy hc
  subst qy
  obtain ⟨xs,n,_,_,hl,hxl,hf⟩:=DataW.trod_struct ht hx
  obtain ⟨parts,hp,hv⟩:=Oz fs.toList Qs 0 cs hc hO hl (fun f wm=>by
     obtain ⟨i,hi⟩:=List.getElem?_of_mem wm
     have kJ:fs[i]? =some f:=by rw[<-Array.getElem?_toList];exact hi
     have aP:i<fs.size:=(Array.getElem?_eq_some_iff.1 kJ).1
     exact ⟨xs[i],by rw[hf i f kJ,List.getElem?_eq_getElem (by omega)]⟩)
  exact ⟨_,⟨parts,rfl,hp⟩,fun ρ m=>hv ρ m⟩
end
end
section
open Go
def Quiet (w w':World):Prop:=w'.os=w.os/\w'.tape=w.tape/\w'.output=w.output/\w.heap.size<=w'.heap.size/\ ∀k,k<w.heap.size->w'.heap[k]? =w.heap[k]?
def QE:List AV->St->Option (AV×St)
 |[],st=>some (.bool true,st)
 |_,_=>none
theorem Xq {P:Program} {C:Cells} {f:FuncId} {fn:Func} {c:Code} (hf:P.funcs[f]? =some fn) (qJ: ¬fn.name= "runtime.NumGoroutine") (hb:fn.body=some c)
  (h: ∀w:World,(∀ad u,C ad=some u->w.cell? ad=some u)->Calls P f #[] w fun e w'=>e= .returned (.bool true)/\Quiet w w'):xM P C f QE where
 mono args st v st' hs:=by
  unfold QE at hs
  split at hs<;>first|(cases hs;done)|skip
  simp only[Option.some.injEq,Prod.mk.injEq] at hs
  rw[<-hs.2];exact Nat.le_refl _
 runs ρ st w args v st' bQ hs hW hv:=by
  unfold QE at hs
  split at hs<;>first|(cases hs;done)|skip
  simp only[Option.some.injEq,Prod.mk.injEq] at hs
  obtain ⟨rfl,rfl⟩:=hs
  obtain rfl:=hv.su
  have bU:(callFunc f ([]:List Value).toArray).run P w= .ok (.enter f #[]) w:=by simp[callFunc,hf,qJ,hb]
  rw[bU]
  refine Calls.mono (h w fun ad u ha=>(hW.cZ ad u ha).1) fun e w' he=> ?_
  obtain ⟨rfl,h1,h2,h3,h4,h5⟩:=he
  exact ⟨ρ,.bool true,fun _ _=>rfl,Nat.le_refl _,hW.grow h4 h5,⟨h1,h2,h3,h4,fun k hk _=>h5 k hk,fun b x hb=> .inl ⟨b,x,hb,rfl⟩⟩⟩
theorem ag3 {P:Program} {C:Cells} {call:ak} {f:FuncId} {fn:Func} {c:Code} {args:List AV} {bQ:List Value} {b:Bool} {n0:Pos} {bk:St} {w:World}
  (bu:jS P C call) (hC: ∀ad v,C ad=some v->w.cell? ad=some v) (ZJ: ∀a v,C a=some v-> ∀o,C ⟨a.block,o,none⟩=none->w.cell? ⟨a.block,o,none⟩=none) (hf:P.funcs[f]? =some fn) (qJ: ¬fn.name= "runtime.NumGoroutine") (hb:fn.body=some c)
  (ha:aA (fun _=>⟨0,0,0⟩) n0.toNat C args bQ) (h:call f args { heap:= .e,next:=n0 }=some (.bool b,bk)):
  Calls P f bQ.toArray w fun e w'=>e= .returned (.bool b)/\Quiet w w':=by
 have hr:=bu (fun _=>⟨0,0,0⟩) { heap:= .e,next:=n0 } w f args (.bool b) bk bQ h (BS hC ZJ) ha
 have bU:(callFunc f bQ.toArray).run P w= .ok (.enter f bQ.toArray) w:=by simp[callFunc,hf,qJ,hb]
 rw[bU] at hr
 refine Calls.mono hr fun e w' he=> ?_
 cases e with
 |returned x=>
  obtain ⟨ρ',h1,_,_,_,hE⟩:=he
  have:=h1.iH;subst this
  exact ⟨rfl,hE.os,hE.tape,hE.output,hE.size,fun k hk=>hE.block k hk fun b x hb=>by rw[T.cX] at hb;cases hb⟩
 |panicked c=>exact he.elim
 |outgrown=>exact he.elim
end
section
open Go Go.ChangeShapes Go.WideShapes Go.ChangeAt Go.RowKit
theorem Quiet.below {w w':World} (h:Quiet w w'):Below w.heap.size w w':=⟨h.1,h.2.1,h.2.2.1,h.2.2.2.1,h.2.2.2.2⟩
section
variable {H : Type} {enc : TypeId × Value -> H} {P : Program}
theorem Mx {W W':World} (hl:laidOutB P=true) (hb:Below W.heap.size W W'): ∀{ts:List TypeId} {vs:List Value} {ds:List (DataW H)} {p:List MemPlace},
  DataW.TrodAll enc P W 0 (fun _=>true) true ts vs ds p->(∀t∈ts,P.readableRec t=true/\t<P.types.size)->(∀x∈p,x.block<W.heap.size)->
  DataW.TrodAll enc P W' 0 (fun b=>decide (b<W.heap.size)) true ts vs ds p
 |[],_,_,_,h,_,_=>by
  obtain ⟨rfl,rfl,rfl⟩:=trodAll_nil h
  exact trodAll_mk0
 |t::ts,_,_,_,h,hr,hx=>by
  obtain ⟨v,vs1,d,ds1,a,b,rfl,rfl,rfl,h1,h2⟩:=trodAll_cons h
  exact trodAll_cons_mk (Below.trod hl (hr t (by simp)).1 (hr t (by simp)).2 h1 hb (fun x GG=>hx x (List.mem_append_left _ GG)))
   (Mx hl hb h2 (fun t ht=>hr t (List.mem_cons_of_mem _ ht)) (fun x GG=>hx x (List.mem_append_right _ GG)))
theorem afb {f:Func} {s:ChangeSpec} {W W':World} {args:Array Value} {ds gs:List (DataW H)} {before:List MemPlace} {tb:TypeId} (hl:laidOutB P=true)
   (hW:DataW.Whole enc P f.params.toList s.vars false W args.toList ds gs before) (hv:s.vars=[]) (kY:s.fn H (ds++gs)={ results:=[.lit (.bool true)],args:=ds })
   (hr: ∀t∈f.params.toList,P.readableRec t=true/\t<P.types.size) (hB:Below W.heap.size W W') (Th:f.resultTypes= #[tb]) (htb:P.underlying tb=some .bool):
   s.post enc P f false true false false W args (.bool true) W':=by
 have aP:=hW.lt
 have dX:=hW
 obtain ⟨p,q,hA,hV,rfl,hfz,hnd⟩:=hW
 have hq:q=[]:=by
   rw[hv] at hV
   cases gs with
   |nil=>exact hV
   |cons g gs=>exact hV.elim
 subst hq
 refine ⟨ds,gs,p++[],[],p,[],dX,?_,?_,?_,hB.frame _,fun h=>by cases h⟩
 . rw[kY,Th]
   exact trodAll_cons_mk (shut_bool htb _) trodAll_mk0
 . rw[kY]
   exact Mx hl hB hA hr (fun x hx=>aP x (List.mem_append_left _ hx))
 . rw[kY,hv];rfl
end
end
section
open Go Go.ChangeShapes Go.WideShapes Go.ChangeAt Go.RowKit
section
variable {H : Type} {enc : TypeId × Value -> H} {P : Program} {w : World} {base : Nat} {spare : Nat -> Bool} {held : Bool}
theorem aA.one {ρ:Pos->Loc} {n:Nat} {C:Cells} {a:AV} {a':Value} (h1:av ρ n C a a'):aA ρ n C [a] [a']:=aA.cons h1 aA.nil
end
end
section
open Go
theorem av.akV {ρ:Pos->Loc} {n:Nat} {C C':Cells} {v:AV} {x:Value} (hC: ∀ad u,C ad=some u->C' ad=some u) (h:av ρ n C v x):av ρ n C' v x:=by
 induction h with
 |bool b=>exact .bool b
 |int k i=>exact .int k i
 |str s bs h=>exact .str s bs h
 |dP=>exact .dP
 |ptr b off h=>exact .ptr b off h
 |fp xs i j es aE base cell hl hc _ ih=>exact .fp xs i j es aE base cell hl (fun i j cs v h1 h2=>hC _ _ (hc i j cs v h1 h2)) ih
 |ah=>exact .ah
 |slice b off len cap es aN a hl hc ha hk=>exact .slice b off len cap es aN a hl hc ha hk
 |fl xs es aN a cell hl hs ei hc _ ih=>exact .fl xs es aN a cell hl hs ei (fun i j cs v h1 h2=>hC _ _ (hc i j cs v h1 h2)) ih
 |mA=>exact .mA
 |map b h=>exact .map b h
 |func f x y x' y' hx hy _ _ ih1 ih2=>exact .func f x y x' y' hx hy ih1 ih2
 |js=>exact .js
 |xG=>exact .xG
 |iface t v x _ ih=>exact .iface t v x ih
 |agg l cs hl _ ih=>exact .agg l cs hl ih
 |tuple l cs hl _ ih=>exact .tuple l cs hl ih
def jx (ρ:Pos->Loc) (n:Nat) (C:Cells) (w:World) (v u:AV):Prop:= ∀x,av ρ n C v x->av ρ n (fun ad=>w.cell? ad) u x
section
variable {ρ : Pos -> Loc} {C : Cells} {st : St} {w : World}
theorem jx.self {n:Nat} (hC: ∀ad u,C ad=some u->w.cell? ad=some u) (v:AV):jx ρ n C w v v:=fun _ h=>h.akV hC
theorem jx.agg {n:Nat} {l l':List AV} (hl:l.length=l'.length) (h: ∀(i:Nat) (v u:AV),l[i]? =some v->l'[i]? =some u->jx ρ n C w v u):jx ρ n C w (.agg l) (.agg l'):=fun x hx=>by
 cases hx with
 |agg _ cs h1 h2=>
  refine .agg l' cs (by omega) fun i u x hu hx=> ?_
  have hi:i<l.length:=by rw[hl];exact (List.getElem?_eq_some_iff.1 hu).1
  exact h i l[i] u (List.getElem?_eq_getElem hi) hu _ (h2 i _ x (List.getElem?_eq_getElem hi) hx)
theorem jx.slice (hW:bA ρ C st w) {b:Pos} {off len es fz:Nat} {cap:Option Nat} {cs:List AV} (hb:st.heap.get b=some (.cells cs fz)) (hlen:off+len*es<=cs.length) {F:List (List AV)} (hF:F.length=len)
  (ei: ∀(i:Nat) (r:List AV),F[i]? =some r->r.length=es)
  (hr: ∀(i j:Nat) (r:List AV) (u v:AV),F[i]? =some r->r[j]? =some u->cs[off+i*es+j]? =some v->jx ρ st.next.toNat C w v u):
  jx ρ st.next.toNat C w (.slice b off len cap es) (.fl F es):=fun x hx=>by
 cases hx with
 |slice  _ _ _ _ _ aN a hl hc ha hk=>
  have get: ∀(i j:Nat) (r:List AV) (u:AV),F[i]? =some r->r[j]? =some u->i<len/\j<es/\off+i*es+j<cs.length/\0<aN:=fun i j r u h1 h2=>by
   have g1:i<len:=by rw[<-hF];exact (List.getElem?_eq_some_iff.1 h1).1
   have g2:j<es:=by rw[<-ei i r h1];exact (List.getElem?_eq_some_iff.1 h2).1
   have g3:(i+1)*es<=len*es:=Nat.mul_le_mul_right _ g1
   rw[Nat.succ_mul] at g3
   exact ⟨g1,g2,by omega,by omega⟩
  have cell: ∀(i j:Nat) (r:List AV) (u:AV),F[i]? =some r->r[j]? =some u-> ∃v y,cs[off+i*es+j]? =some v/\w.cell? ⟨a.block,a.off+i*es+j,none⟩=some y/\av ρ st.next.toNat C v y:=fun i j r u h1 h2=>by
   obtain ⟨g1,g2,g3,g4⟩:=get i j r u h1 h2
   obtain ⟨_,rfl,_⟩:=ha (by omega)
   have hv:=List.getElem?_eq_getElem g3
   obtain ⟨y,q1,q2⟩:=hW.cell hb hv
   exact ⟨_,y,hv,by rw[show (ρ b).base+off+i*es+j=(ρ b).base+(off+i*es+j) by omega];exact q1,q2⟩
  have key:av ρ st.next.toNat (fun ad=>w.cell? ad) (.fl F es) (.slice (some a) F.length aN):=by
   refine .fl F es aN a (fun i j=>(w.cell? ⟨a.block,a.off+i*es+j,none⟩).getD .nilFunc) (by omega) (fun h0=> ?_) ei (fun i j r u h1 h2=> ?_) (fun i j r u h1 h2=> ?_)
   .    cases akW:len with
        |zero=>exfalso;apply h0;rw[akW] at hF;exact List.length_eq_zero_iff.1 hF
        |succ m=>
         obtain ⟨_,rfl,_⟩:=ha (by omega)
         rfl
   .    obtain ⟨v,y,_,q2,_⟩:=cell i j r u h1 h2
        show w.cell? _=_
        rw[q2];rfl
   .    obtain ⟨v,y,q1,q2,q3⟩:=cell i j r u h1 h2
        rw[q2]
        exact hr i j r u v h1 h2 q1 y q3
  rw[hF] at key
  exact key
end
end
section
open Go
def cV (st:St):Nat->AV->AV
 |0,v=>v
 |  d+  1,.slice b off len cap es=>match decide (len=0) with
    |true=> .fl [] es
    |false=>match st.heap.get b with
     |  some (.cells cs _)=>match decide (off+len*es<=cs.length) with
        |true=> .fl ((List.range len).map fun i=>((cs.drop (off+i*es)).take es).map (cV st d)) es
        |false=> .slice b off len cap es
     |_=> .slice b off len cap es
 |  d+1,.ptr b off=>match st.heap.get b with
    |some (.cells cs _)=> .fp [cs.map (cV st d)] 0 off
    |_=> .ptr b off
 |d+1,.agg l=> .agg (l.map (cV st d))
 |d+1,.func f x y=> .func f (x.map (cV st d)) (y.map (cV st d))
 |_,v=>v
theorem Xr (st:St) (d:Nat) (b:Pos) (off len:Nat) (cap:Option Nat) (es:Nat):cV st (d+1) (.slice b off len cap es)=match decide (len=0) with
 |true=> .fl [] es
 |false=>match st.heap.get b with
  |     some (.cells cs _)=>match decide (off+len*es<=cs.length) with
        |true=> .fl ((List.range len).map fun i=>((cs.drop (off+i*es)).take es).map (cV st d)) es
        |false=> .slice b off len cap es
  |_=> .slice b off len cap es:=rfl
theorem acR (st:St) (d:Nat) (b:Pos) (off:Nat):cV st (d+1) (.ptr b off)=match st.heap.get b with
 |some (.cells cs _)=> .fp [cs.map (cV st d)] 0 off
 |_=> .ptr b off:=rfl
theorem QF (st:St) (d:Nat) (l:List AV):cV st (d+1) (.agg l)= .agg (l.map (cV st d)):=rfl
theorem ag4 (st:St) (d:Nat) (f:FuncId) (x y:List AV):cV st (d+1) (.func f x y)= .func f (x.map (cV st d)) (y.map (cV st d)):=rfl
section
variable {ρ : Pos -> Loc} {C : Cells} {st : St} {w : World}
theorem jx.ptr (hW:bA ρ C st w) {b:Pos} {off fz:Nat} {cs F:List AV} (hb:st.heap.get b=some (.cells cs fz)) (hF:F.length=cs.length)
  (hr: ∀(j:Nat) (u v:AV),F[j]? =some u->cs[j]? =some v->jx ρ st.next.toNat C w v u):jx ρ st.next.toNat C w (.ptr b off) (.fp [F] 0 off):=fun x hx=>by
 cases hx with
 |ptr   _ _ h=>
  have row: ∀(i j:Nat) (r:List AV) (u:AV),[F][i]? =some r->r[j]? =some u->i=0/\ ∃v y,cs[j]? =some v/\w.cell? ⟨(ρ b).aE,(ρ b).base+j,none⟩=some y/\av ρ st.next.toNat C v y/\F[j]? =some u:=fun i j r u h1 h2=>by
   have hi:i=0:=by have:=(List.getElem?_eq_some_iff.1 h1).1;simp at this;exact this
   subst hi
   simp at h1;subst h1
   have hj:j<cs.length:=by rw[<-hF];exact (List.getElem?_eq_some_iff.1 h2).1
   obtain ⟨y,q1,q2⟩:=hW.cell hb (List.getElem?_eq_getElem hj)
   exact ⟨rfl,_,y,List.getElem?_eq_getElem hj,q1,q2,h2⟩
  have key:av ρ st.next.toNat (fun ad=>w.cell? ad) (.fp [F] 0 off) (.pointer (some ⟨(ρ b).aE,(ρ b).base+0*cs.length+off,none⟩)):=by
   refine .fp [F] 0 off cs.length (ρ b).aE (ρ b).base (fun _ j=>(w.cell? ⟨(ρ b).aE,(ρ b).base+j,none⟩).getD .nilFunc) (fun i r h1=> ?_) (fun i j r u h1 h2=> ?_) (fun i j r u h1 h2=> ?_)
   .    have hi:i=0:=by have:=(List.getElem?_eq_some_iff.1 h1).1;simp at this;exact this
        subst hi;simp at h1;subst h1;exact hF
   .    obtain ⟨rfl,v,y,_,q2,_⟩:=row i j r u h1 h2
        show w.cell? _=_
        rw[show (ρ b).base+0*cs.length+j=(ρ b).base+j by omega,q2];rfl
   .    obtain ⟨rfl,v,y,q1,q2,q3,q4⟩:=row i j r u h1 h2
        rw[q2]
        exact hr j u v q4 q1 y q3
  rw[show (ρ b).base+0*cs.length+off=(ρ b).base+off by omega] at key
  exact key
theorem jx.cV (hW:bA ρ C st w): ∀(d:Nat) (v:AV),jx ρ st.next.toNat C w v (cV st d v)
 |0,v=>jx.self (fun ad u h=>(hW.cZ ad u h).1) v
 |d+    1,v=>   by
  have self:=jx.self (ρ:=ρ) (n:=st.next.toNat) (fun ad u h=>(hW.cZ ad u h).1) v
  cases v with
  |slice    b off len cap es=>
   rw[Xr]
   split
   .    rename_i h0
        obtain rfl:=of_decide_eq_true h0
        intro x hx
        cases hx with
        | slice _ _ _ _ _ aN a hl hc ha hk=>
          exact .fl [] es aN a (fun _ _=> .nilFunc) (Nat.zero_le _) (fun h=>absurd rfl h) (fun i c h=>by simp at h) (fun i j c v h=>by simp at h) (fun i j c v h=>by simp at h)
   split
   .    rename_i cs fz hb
        split
        . rename_i hle
          have hle:=of_decide_eq_true hle
          refine jx.slice hW hb hle (by simp) (fun i r hi=> ?_) (fun i j r u v hi hj hv=> ?_)
          . rw[List.getElem?_map] at hi
            by_cases h:i<len
            . rw[List.getElem?_range h] at hi
              simp only[Option.map_some,Option.some.injEq] at hi
              subst hi
              have g3:(i+1)*es<=len*es:=Nat.mul_le_mul_right _ h
              rw[Nat.succ_mul] at g3
              simp;omega
            . rw[List.getElem?_eq_none (by simpa using h)] at hi;cases hi
          . rw[ List.getElem?_map] at hi
            by_cases h:i<len
            . rw[List.getElem?_range h] at hi
              simp only[Option.map_some,Option.some.injEq] at hi
              subst hi
              rw[List.getElem?_map,List.getElem?_take] at hj
              split at hj
              . rw[List.getElem?_drop,hv] at hj
                simp only[Option.map_some,Option.some.injEq] at hj
                subst hj
                exact jx.cV hW d v
              . cases hj
            . rw[List.getElem?_eq_none (by simpa using h)] at hi;cases hi
        . exact self
   .    exact self
  |ptr b off=>
   rw[acR]
   split
   .    rename_i cs fz hb
        refine jx.ptr hW hb (by simp) (fun j u v hu hv=> ?_)
        rw[List.getElem?_map,hv] at hu
        simp only[Option.map_some,Option.some.injEq] at hu
        subst hu
        exact jx.cV hW d v
   .    exact self
  |agg l=>
   rw[QF]
   refine jx.agg (by simp) (fun i v u h1 h2=> ?_)
   rw[List.getElem?_map,h1] at h2
   simp only[Option.map_some,Option.some.injEq] at h2
   subst h2
   exact jx.cV hW d v
  |func f x y=>
   rw[ag4]
   intro v' hv
   cases hv with
   |    func _ _ _ x' y' hx hy h1 h2=>
        have one: ∀(l:List AV) (xs:Array Value),(∀(i:Nat) (v:AV) (v':Value),l[i]? =some v->xs[i]? =some v'->av ρ st.next.toNat C v v')-> ∀(i:Nat) (v:AV) (v':Value),(l.map (Go.Ai.cV st d))[i]? =some v->xs[i]? =some v'->av ρ st.next.toNat (fun ad=>w.cell? ad) v v':=fun l xs h i u v' hu hx=>by
          rw[List.getElem?_map] at hu
          cases hg:l[i]? with
          |none=>rw[hg] at hu;cases hu
          | some v0=>
            rw[hg] at hu
            simp only[Option.map_some,Option.some.injEq] at hu
            subst hu
            exact jx.cV hW d v0 _ (h i v0 v' hg hx)
        exact .func f _ _ x' y' (by simpa using hx) (by simpa using hy) (one x x' h1) (one y y' h2)
  |_=>exact self
theorem aA.cV (hW:bA ρ C st w) (d:Nat) {l:List AV} {xs:List Value} (h:aA ρ st.next.toNat C l xs):aA ρ st.next.toNat (fun ad=>w.cell? ad) (l.map (Go.Ai.cV st d)) xs:=
 ⟨by rw[<-h.1];simp,fun i u x hu hx=>by
  rw[List.getElem?_map] at hu
  cases hv:l[i]? with
  |none=>rw[hv] at hu;cases hu
  |  some v=>
     rw[hv] at hu
     simp only[Option.map_some,Option.some.injEq] at hu
     subst hu
     exact jx.cV hW d v _ (h.2 i v x hv hx)⟩
end
def bL (v:AV):Prop:= ∀(ρ:Pos->Loc) (n:Nat) (C C':Cells) (x:Value),av ρ n C v x->av ρ n C' v x
theorem bL.bool (b:Bool):bL (.bool b):=fun _ _ _ _ _ h=>by cases h;exact .bool b
theorem bL.int (k:IntKind) (i:Int):bL (.int k i):=fun _ _ _ _ _ h=>by cases h;exact .int k i
theorem bL.str (s:List Nat):bL (.str s):=fun _ _ _ _ _ h=>by cases h with|str _ bs h=>exact .str s bs h
theorem bL.dP:bL .dP:=fun _ _ _ _ _ h=>by cases h;exact .dP
theorem bL.ah:bL .ah:=fun _ _ _ _ _ h=>by cases h;exact .ah
theorem bL.ptr (b:Pos) (o:Nat):bL (.ptr b o):=fun _ _ _ _ _ h=>by cases h with|ptr _ _ h=>exact .ptr b o h
theorem bL.map (b:Pos):bL (.map b):=fun _ _ _ _ _ h=>by cases h with|map _ h=>exact .map b h
theorem bL.slice (b:Pos) (o l:Nat) (c:Option Nat) (es:Nat):bL (.slice b o l c es):=fun _ _ _ _ _ h=>by
 cases h with|slice _ _ _ _ _ aN a h1 h2 h3 h4=>exact .slice b o l c es aN a h1 h2 h3 h4
theorem bL.tuple {l:List AV} (hl: ∀v∈l,bL v):bL (.tuple l):=fun _ _ _ _ _ h=>by
 cases h with|tuple _ cs hx h1=>exact .tuple l cs hx fun i v x hv hx=>hl v (List.mem_of_getElem? hv) _ _ _ _ _ (h1 i v x hv hx)
theorem bL.agg {l:List AV} (hl: ∀v∈l,bL v):bL (.agg l):=fun _ _ _ _ _ h=>by
 cases h with|agg _ cs hx h1=>exact .agg l cs hx fun i v x hv hx=>hl v (List.mem_of_getElem? hv) _ _ _ _ _ (h1 i v x hv hx)
def Lj:AB->Prop
 | .cells cs _=> ∀v∈cs,bL v
 | .map es _=> ∀e∈es,bL e.1/\bL e.2.1
 | .jM _ _=>True
 | .typed _ cs=> ∀v∈cs,bL v
theorem Lj.rel {x:AB} (h:Lj x) {ρ:Pos->Loc} {n:Nat} {C C':Cells} {L:Loc} {w:World} (k:lR ρ n C L w x):lR ρ n C' L w x:=by
 cases x with
 |cells cs fz=>
  obtain ⟨c,e,fr,h1,h2,h3,h4,h5⟩:=k
  exact ⟨c,e,fr,h1,h2,h3,⟨h4.1,fun i v x hv hx=>h v (List.mem_of_getElem? hv) _ _ _ _ _ (h4.2 i v x hv hx)⟩,h5⟩
 |map es clock=>
  obtain ⟨es',h1,h2,h3⟩:=k
  exact ⟨es',h1,h2,fun i e e' he mB=>let ⟨a,b,c⟩:=h3 i e e' he mB;⟨(h e (List.mem_of_getElem? he)).1 _ _ _ _ _ a,(h e (List.mem_of_getElem? he)).2 _ _ _ _ _ b,c⟩⟩
 |jM s pos=>exact k
 |typed t cs=>
  obtain ⟨c,fr,h1,h2,h3,h4,h5⟩:=k
  exact ⟨c,fr,h1,h2,h3,⟨h4.1,fun i v x hv hx=>h v (List.mem_of_getElem? hv) _ _ _ _ _ (h4.2 i v x hv hx)⟩,h5⟩
def T.both {α:Type}:T α->T α->T α
 |t,.e=>t
 | .e,t=>t
 | .n l v r,.n l' v' r'=> .n (T.both l l') (v.or v') (T.both r r')
theorem T.afc {α:Type} (t:T α):T.both t .e=t:=by cases t<;>rfl
theorem T.Bl {α:Type}: ∀(p:Pos) (t t':T α),(T.both t t').get p=(t.get p).or (t'.get p)
 |p,t,.e=>by rw[T.afc,T.cX];simp
 |p,.e,.n l v r=>by rw[T.cX];rfl
 | .h,.n l v r,.n l' v' r'=>rfl
 | .o p,.n l v r,.n l' v' r'=>T.Bl p l l'
 | .i p,.n l v r,.n l' v' r'=>T.Bl p r r'
def T.keep {α:Type} (P:α->Bool):T α->T α
 | .e=> .e
 | .n l v r=> .n (T.keep P l) (v.filter P) (T.keep P r)
theorem T.Ll {α:Type} (P:α->Bool): ∀(p:Pos) (t:T α),(T.keep P t).get p=(t.get p).filter P
 |p,.e=>by rw[T.keep,T.cX];rfl
 | .h,.n l v r=>rfl
 | .o p,.n l v r=>T.Ll P p l
 | .i p,.n l v r=>T.Ll P p r
open Classical in
noncomputable def zo (t:T AB):T AB:=T.keep (fun x=>decide (Lj x)) t
theorem Xs {t:T AB} {p:Pos} {x:AB} (h:(zo t).get p=some x):t.get p=some x/\Lj x:=by
 unfold zo at h
 rw[T.Ll] at h
 cases hg:t.get p with
 |none=>rw[hg] at h;cases h
 |some y=>
  rw[hg] at h
  simp only[Option.filter] at h
  split at h
  . rename_i hb;cases h;exact ⟨rfl,@of_decide_eq_true _ (Classical.propDecidable _) hb⟩
  . cases h
theorem afd {t:T AB} {p:Pos} {x:AB} (h:t.get p=some x) (hb:Lj x):(zo t).get p=some x:=by
 unfold zo
 rw[T.Ll,h]
 simp[Option.filter,hb]
theorem aiJ:zo .e= .e:=rfl
def Shut (n0:Pos) (r:AV×St):Prop:=bL r.1/\n0.toNat<=r.2.next.toNat
open Classical in
noncomputable def Lm (call:ak) (f:FuncId) (d:Nat):List AV->St->Option (AV×St):=fun args st=>
 match call f (args.map (cV st d)) { heap:= .e,next:=st.next } with
 |some (v,bk)=>if Shut st.next (v,bk) then some (v,{ heap:=T.both st.heap (zo bk.heap),next:=bk.next }) else none
 |none=>none
theorem acS {call:ak} {f:FuncId} {d:Nat} {args:List AV} {st:St} {v:AV} {bk:St} (h:call f (args.map (cV st d)) { heap:= .e,next:=st.next }=some (v,bk)) (hs:Shut st.next (v,bk)):
  Lm call f d args st=some (v,{ heap:=T.both st.heap (zo bk.heap),next:=bk.next }):=by
 unfold Lm;rw[h];simp only;rw[if_pos hs]
theorem ag5 {call:ak} {f:FuncId} {d:Nat} {args:List AV} {st:St} {v:AV} (h:call f (args.map (cV st d)) { heap:= .e,next:=st.next }=some (v,{ heap:= .e,next:=st.next })) (hs:bL v):
  Lm call f d args st=some (v,st):=by
 rw[acS h ⟨hs,Nat.le_refl _⟩]
 simp only[aiJ,T.afc]
theorem xO {P :Program} {C:Cells} {f:FuncId} {call:ak} {d:Nat} (gw: ∀C':Cells,(∀ad u,C ad=some u->C' ad=some u)->jS P C' call):xM P C f (Lm call f d) where
 mono args st v st' h:=by
  unfold Lm at h
  split at h
  . split at h
    .   rename_i hs
        simp only[Option.some.injEq,Prod.mk.injEq] at h
        rw[<-h.2];exact hs.2
    .   cases h
  . cases h
 runs ρ st  w args v st' bQ h hW hv:=by
  unfold Lm at h
  split at h
  . rename_i v1 bk hc
    split at h
    .   rename_i hs
        simp only[Option.some.injEq,Prod.mk.injEq] at h
        obtain ⟨rfl,rfl⟩:=h
        obtain ⟨s1,s3⟩:=hs
        have hr:=gw (fun ad=>w.cell? ad) (fun ad u ha=>(hW.cZ ad u ha).1) ρ { heap:= .e,next:=st.next } w f _ v1 bk bQ hc (BS (fun ad u ha=>ha) fun a u _ o ho=>ho) (aA.cV hW d hv)
        refine Reaches.mono (fun x w' he=> ?_) hr
        . obtain ⟨ρ',h1,h2,h3,h4,hE⟩:=he
          have un: ∀k,k<w.heap.size->w'.heap[k]? =w.heap[k]? :=fun k hk=>hE.block k hk fun b x hb=>by rw[T.cX] at hb;cases hb
          have new: ∀b x,bk.heap.get b=some x->w.heap.size<=(ρ' b).aE:=fun b x hx=>by
            rcases hE.vP b x hx with ⟨b',x',eS,_⟩|hh
            . rw[T.cX] at eS;cases eS
            . exact hh
          have both: ∀b x,(T.both st.heap (zo bk.heap)).get b=some x->(st.heap.get b=some x/\ρ' b=ρ b)\/(bk.heap.get b=some x/\Lj x):=fun b x hx=>by
            rw[T.Bl] at hx
            cases hg:st.heap.get b with
            |none=>rw[hg] at hx;exact .inr (Xs (by simpa using hx))
            |some y=>rw[hg] at hx;simp at hx;subst hx;exact .inl ⟨rfl,h2 b (hW.live b y hg).1⟩
          refine ⟨ρ',s1 _ _ _ _ _ h1,h2,s3,⟨fun b x hx=> ?_,fun b b' x x' hx um tQ=> ?_,fun a u ha=> ?_,fun a u ha o ho=> ?_⟩,⟨hE.os,hE.tape,hE.output,hE.size,fun k hk _=>un k hk,fun b x hx=> ?_⟩⟩
          . rcases both b x hx with ⟨hg,aS⟩|⟨hg,YY⟩
            . obtain ⟨l1,l2,l3⟩:=hW.live b x hg
              refine ⟨Nat.lt_of_lt_of_le l1 s3,by rw[aS];exact Nat.lt_of_lt_of_le l2 hE.size,?_⟩
              rw[aS]
              exact (l3.of_heap (un _ l2)).mono h2 s3
            . obtain ⟨l1,l2,l3⟩:=h4.live b x hg
              exact ⟨l1,l2,YY.rel l3⟩
          . rcases both b x hx with ⟨hg,aS⟩|⟨hg,YY⟩
            . rcases both b' x' um with ⟨ze,Bf⟩|⟨ze,_⟩
              . rw[aS,Bf] at tQ;exact hW.inj b b' x x' hg ze tQ
              . have q1:=(hW.live b x hg).2.1;have q2:=new b' x' ze;rw[aS] at tQ;omega
            . rcases both b' x' um with ⟨ze,Bf⟩|⟨ze,_⟩
              . have q1:=(hW.live b' x' ze).2.1;have q2:=new b x hg;rw[Bf] at tQ;omega
              . exact h4.inj b b' x x' hg ze tQ
          . obtain ⟨c1,c2⟩:=hW.cZ a u ha
            have aP:a.block<w.heap.size:=World.block_lt_of_cell? _ _ c1
            refine ⟨(h4.cZ a u c1).1,fun b x hx=> ?_⟩
            rcases both b x hx with ⟨hg,aS⟩|⟨hg,YY⟩
            . rw[aS];exact c2 b x hg
            . have:=new b x hg;omega
          . have aP:a.block<w.heap.size:=World.block_lt_of_cell? _ _ (hW.cZ a u ha).1
            rw[World.cell?_of_block (w:=w) (a:=⟨a.block,o,none⟩) (un _ aP)]
            exact hW.whole a u ha o ho
          . rcases both b x hx with ⟨hg,aS⟩|⟨hg,YY⟩
            . exact .inl ⟨b,x,hg,by rw[aS]⟩
            . exact .inr (new b x hg)
    .   cases h
  . cases h
end
section
open Go
theorem aiK (H:Pos->Option AB) (n:Pos) (k k':IntKind) (a b:Int):aC.run H n .minB [.int k a,.int k' b]=some (.val (.int k (min a b))):=by
 show some (cq.val (.int k (match BD b a with|true=>b|false=>a)))=_
 rw[dR]
 by_cases h:b<a
 . rw[decide_eq_true h];simp only;rw[Int.min_eq_right (by omega)]
 . rw[decide_eq_false h];simp only;rw[Int.min_eq_left (by omega)]
theorem aiL (H:Pos->Option AB) (n:Pos) (k k':IntKind) (a b:Int):aC.run H n .maxB [.int k a,.int k' b]=some (.val (.int k (max a b))):=by
 show some (cq.val (.int k (match BD a b with|true=>b|false=>a)))=_
 rw[dR]
 by_cases h:a<b
 . rw[decide_eq_true h];simp only;rw[Int.max_eq_right (by omega)]
 . rw[decide_eq_false h];simp only;rw[Int.max_eq_left (by omega)]
theorem aiM (H:Pos->Option AB) (n:Pos) (q:eH) (k:IntKind) (a b:Int) (hb:b≠0):aC.run H n (.bin .quo q) [.int k a,.int k b]=some (.val (.int k (ay k (a.tdiv b)))):=by
 simp[aC.run,gP,nB,cw,gL,hb]
theorem aiN (H:Pos->Option AB) (n:Pos) (q:eH) (k:IntKind) (a b:Int) (hb:b≠0):aC.run H n (.bin .rem q) [.int k a,.int k b]=some (.val (.int k (a.tmod b))):=by
 simp[aC.run,gP,nB,cw,gL,hb]
section
variable {R : Type} (c : ak) (K : AV -> St -> Option R) (st : St)
@[simp] theorem amc (k k':IntKind) (a b:Int):aj c .minB [.int k a,.int k' b] st K=K (.int k (min a b)) st:=aI c K (fun H n=>aiK H n k k' a b) st
@[simp] theorem amd (k k':IntKind) (a b:Int):aj c .maxB [.int k a,.int k' b] st K=K (.int k (max a b)) st:=aI c K (fun H n=>aiL H n k k' a b) st
theorem aiO (q:eH) (k:IntKind) (a b:Int) (hb:b≠0):aj c (.bin .quo q) [.int k a,.int k b] st K=K (.int k (ay k (a.tdiv b))) st:=aI c K (fun H n=>aiM H n q k a b hb) st
theorem acT (q:eH) (k:IntKind) (a b:Int) (hb:b≠0):aj c (.bin .rem q) [.int k a,.int k b] st K=K (.int k (a.tmod b)) st:=aI c K (fun H n=>aiN H n q k a b hb) st
@[simp] theorem alO (q:eH) (k:IntKind) (a:Int):aj c (.bin .quo q) [.int k a,.int k 2] st K=K (.int k (ay k (a.tdiv 2))) st:=aiO c K st q k a 2 (by decide)
@[simp] theorem alP (q:eH) (k:IntKind) (a:Int):aj c (.bin .rem q) [.int k a,.int k 2] st K=K (.int k (a.tmod 2)) st:=acT c K st q k a 2 (by decide)
end
end
section
open Go
def bf:AV->Option Pos
 | .slice b _ n cap _=>if cap=some 0/\n=0 then none else some b
 |_=>none
theorem om {b b':Pos} {off n es:Nat} {cap:Option Nat} (h:bf (.slice b off n cap es)=some b'):b=b':=by
 simp only[bf] at h
 split at h
 . cases h
 . exact Option.some.inj h
theorem uo (b:Pos) (off n es:Nat):bf (.slice b off n none es)=some b:=by simp[bf]
theorem iV (b:Pos) (off es:Nat):bf (.slice b off 0 (some 0) es)=none:=by simp[bf]
def QS (es:Nat) (s:St) (v:AV) (rows:List (List AV)):Prop:=
 (v= .ah/\rows=[])\/(∃b off cap cs,v= .slice b off rows.length cap es/\s.heap.get b=some (.cells cs 0)/\off+rows.length*es<=cs.length/\(cs.drop off).take (rows.length*es)=rows.flatten/\(cap=none\/cap=some rows.length))\/
    (∃b off,v= .slice b off 0 (some 0) es/\rows=[])
theorem QS.nil {es:Nat} {s:St}:QS es s .ah []:= .inl ⟨rfl,rfl⟩
theorem QS.mono {es:Nat} {s s':St} {v:AV} {rows:List (List AV)} (h:QS es s v rows) (hk: ∀b x,bf v=some b->s.heap.get b=some x->s'.heap.get b=some x):QS es s' v rows:=by
 rcases h with ⟨rfl,rfl⟩|⟨b,off,cap,cs,rfl,h1,h2,h3,h4⟩|⟨b,off,rfl,rfl⟩
 . exact .inl ⟨rfl,rfl⟩
 . by_cases h0:cap=some 0/\rows.length=0
   . obtain ⟨rfl,h0⟩:=h0
     refine .inr (.inr ⟨b,off,by rw[h0],List.eq_nil_of_length_eq_zero h0⟩)
   . exact .inr (.inl ⟨b,off,cap,cs,rfl,hk b _ (by simp only[bf];rw[if_neg h0]) h1,h2,h3,h4⟩)
 . exact .inr (.inr ⟨b,off,rfl,rfl⟩)
theorem QS.len {es:Nat} {s:St} {v:AV} {rows:List (List AV)} (h:QS es s v rows):dF v=some rows.length:=by
 rcases h with ⟨rfl,rfl⟩|⟨b,off,cap,cs,rfl,_⟩|⟨b,off,rfl,rfl⟩<;>rfl
theorem QS.lt {es:Nat} {s:St} {v:AV} {rows:List (List AV)} (h:QS es s v rows) (hw:Wf s) {b:Pos} (hb:bf v=some b):b.toNat<s.next.toNat:=by
 rcases h with ⟨rfl,rfl⟩|⟨b',off,cap,cs,rfl,h1,_⟩|⟨b',off,rfl,rfl⟩
 . cases hb
 . obtain rfl:=om hb;exact hw _ _ h1
 . rw[iV] at hb;cases hb
theorem QS.first {es:Nat} {s:St} {v:AV} {rows:List (List AV)} (h:QS es s v rows) (hr: ∀r∈rows,r.length=es):cA es rows.length (fun b=>s.heap.get b) v=some rows.flatten:=by
 rcases h with ⟨rfl,rfl⟩|⟨b,off,cap,cs,rfl,h1,h2,h3,h4⟩|⟨b,off,rfl,rfl⟩
 . rfl
 rotate_left
 . simp[cA,cN]
 . by_cases h0:rows.length*es=0
   . simp only[cA,cN,decide_eq_true h0]
     have:rows.flatten=[]:=by rw[<-h3,h0];simp
     rw[this]
   . simp only[cA,cN,decide_eq_false h0,h1]
     unfold cut
     rw[cM,decide_eq_true h2]
     simp only
     rw[h3]
theorem QS.app {R:Type} {c:ak} {es bytes:Nat} {s:St} {v:AV} {rows:List (List AV)} (hw:Wf s) (h:QS es s v rows) (hr: ∀r∈rows,r.length=es) {q:Pos} {row:List AV} (hq:s.heap.get q=some (.cells row 0)) (eJ:row.length=es) (h1:aK row=true)
   (ei:es≠0) (hb:(2*(rows.length+1)+768)*bytes<=281474976710656) (hn:rows.length<=4000000):
   ∃ s5,(∀(K:AV->St->Option R),aj c (.append es bytes) [v,.slice q 0 1 (some 1) es] s K=K (.slice s.next 0 (rows.length+1) none es) s5)/\QS es s5 (.slice s.next 0 (rows.length+1) none es) (rows++[row])/\
     Wf s5/\s5.next=s.next.succ/\(∀p,bf v≠some p->p.toNat<s.next.toNat->s5.heap.get p=s.heap.get p)/\s5.heap.get s.next=some (.cells (rows.flatten++row) 0):=by
 have hx:cA es 1 (fun b=>s.heap.get b) (.slice q 0 1 (some 1) es)=some row:=by
   simp only[cA,cN,Nat.one_mul,decide_eq_false ei,hq]
   exact cD eJ
 have ho:=h.first hr
 have hlen:rows.flatten.length=rows.length*es:=by
   clear h ho hn hb
   induction rows with
   |nil=>simp
   | cons r rows ih=>
     have:=ih (fun x hx=>hr x (List.mem_cons_of_mem _ hx))
     have h2:=hr r (by simp)
     simp only[List.flatten_cons,List.length_append,List.length_cons,Nat.succ_mul];omega
 have new: ∀(s5:St),s5.heap.get s.next=some (.cells (rows.flatten++row) 0)->QS es s5 (.slice s.next 0 (rows.length+1) none es) (rows++[row]):=fun s5 hs=>by
   refine .inr (.inl ⟨s.next,0,none,rows.flatten++row,by simp,hs,?_,?_,.inl rfl⟩)
   . simp only[List.length_append,List.length_cons,List.length_nil,Nat.zero_add,Nat.add_mul,Nat.one_mul,hlen,eJ];omega
   . simp only[List.drop_zero,List.flatten_append,List.flatten_cons,List.flatten_nil,List.append_nil]
     refine List.take_of_length_le ?_
     simp only[List.length_append,List.length_cons,List.length_nil,Nat.zero_add,Nat.add_mul,Nat.one_mul,hlen,eJ];omega
 have dD:(2*(rows.length+1)+768)*bytes<=281474976710656:=hb
 have CU:rows.length+1<=9223372036854775807:=by omega
 rcases h with ⟨rfl,rfl⟩|⟨b,off,cap,cs,rfl,g1,g2,g3,g4⟩|⟨b,off,rfl,rfl⟩
 rotate_right
 . have run:aC.run (fun b=>s.heap.get b) s.next (.append es bytes) [.slice b off 0 (some 0) es,.slice q 0 1 (some 1) es]=some (.aL (.slice s.next 0 (0+1) none es) none none (some (.cells ([]++row) 0))):=by
     have h2: ¬(0+1<=0):=by omega
     have ho2:cA es 0 (fun b=>s.heap.get b) (.slice b off 0 (some 0) es)=some []:=by simp[cA,cN]
     simp only[aC.run,fK]
     rw[show dF (.slice b off 0 (some 0) es)=some 0 from rfl,show dF (.slice q 0 1 (some 1) es)=some 1 from rfl]
     have Ja:(2*(0+1)+768)*bytes<=281474976710656:=by simpa using hb
     simp only[cM,cN,decide_eq_true Ja,decide_eq_false h2,hx,ho2]
     simp
   refine ⟨ai s (.cells row 0),fun K=> ?_,?_,aQ hw,rfl,fun p _ hp=>sC hp,by simpa using aH s (.cells row 0)⟩
   . unfold aj bP;simp only[List.length_nil] at run ⊢; rw[run];rfl
   . simpa using new (ai s (.cells row 0)) (by simpa using aH s (.cells row 0))
 . refine ⟨ai s (.cells row 0),fun K=>Z9 c K (m:=1) rfl (by omega) (by simpa using hb) (by omega) hx,?_,aQ hw,rfl,fun p _ hp=>sC hp,by simpa using aH s (.cells row 0)⟩
   simpa using new (ai s (.cells row 0)) (by simpa using aH s (.cells row 0))
 . rcases g4 with rfl|rfl
   . have run:aC.run (fun b=>s.heap.get b) s.next (.append es bytes) [.slice b off rows.length none es,.slice q 0 1 (some 1) es]=some (.aL (.slice s.next 0 (rows.length+1) none es) (some b) none (some (.cells (rows.flatten++row) (0 - off)))):=by
        simp only[aC.run,fK]
        rw[show dF (.slice b off rows.length none es)=some rows.length from rfl,show dF (.slice q 0 1 (some 1) es)=some 1 from rfl]
        simp only[cM,cN,decide_eq_true dD,decide_eq_true CU,hx,g1,ho,h1]
        simp
     refine ⟨dst s b (.cells (rows.flatten++row) 0),fun K=> ?_,new _ (VM _ _ _),ae8 hw,rfl,fun p hp hl=>Uy (fun e=>hp (by rw[e,uo])) hl,VM _ _ _⟩
     unfold aj bP;rw[run];simp only[Nat.zero_sub];rfl
   . have h2: ¬(rows.length+1<=rows.length):=by omega
     have run:aC.run (fun b=>s.heap.get b) s.next (.append es bytes) [.slice b off rows.length (some rows.length) es,.slice q 0 1 (some 1) es]=some (.aL (.slice s.next 0 (rows.length+1) none es) none none (some (.cells (rows.flatten++row) 0))):=by
        simp only[aC.run,fK]
        rw[show dF (.slice b off rows.length (some rows.length) es)=some rows.length from rfl,show dF (.slice q 0 1 (some 1) es)=some 1 from rfl]
        simp only[cM,cN,decide_eq_true dD,decide_eq_true CU,decide_eq_false h2,hx,ho]
     refine ⟨ai s (.cells (rows.flatten++row) 0),fun K=> ?_,new _ (aH _ _),aQ hw,rfl,fun p _ hp=>sC hp,aH _ _⟩
     unfold aj bP;rw[run];rfl
theorem Ju {R:Type} {c:ak} {es:Nat} {z:List AV} {x:AV} (hz:z.length=es) (hx:x.cells.length=es) (s:St) (K:AV->St->Option R):
  aj c (.buildSlice es 1 z [0]) [x] s K=K (.slice s.next 0 1 (some 1) es) (ai s (.cells x.cells 0)):=by
 have:bJ (bC z 1) ([0].map fun i=>(i*es,es)) [x]=some x.cells:=by
  simp only[List.map_cons,List.map_nil,Nat.zero_mul,bC,List.append_nil,bJ,cN,cM,hx,decide_true,Nat.zero_add,hz,Nat.le_refl]
  simp only[aG,List.take_zero,List.nil_append,Nat.zero_add]
  rw[List.drop_of_length_le (by omega),List.append_nil]
 rw[cB,this];rfl
structure Mk (es:Nat) (s0 s:St) (v:AV) (rows:List (List AV)):Prop where
 jf:Wf s0
 aB:Grew s0 s
 own:QS es s v rows
 new: ∀b,bf v=some b->s0.next.toNat<=b.toNat
 row: ∀r∈rows,r.length=es
 cap: ∀b off n cp e,v= .slice b off n cp e->cp=none\/(n=0/\cp=some 0)
 tight: ∀b,bf v=some b->s.heap.get b=some (.cells rows.flatten 0)
theorem Mk.start {es:Nat} {s0 s:St} (h0:Wf s0) (hg:Grew s0 s):Mk es s0 s .ah []:=⟨h0,hg,QS.nil,fun b h=>(by cases h),fun r h=>(by cases h),fun b off n cp e h=>(by cases h),fun b h=>(by cases h)⟩
theorem Mk.grow {es:Nat} {s0 s s':St} {v:AV} {rows:List (List AV)} (h:Mk es s0 s v rows) (hg:Grew s s'):Mk es s0 s' v rows:=
 ⟨h.jf,h.aB.trans hg,h.own.mono fun b x _ hx=>hg.get hx,h.new,h.row,h.cap,fun b hb=>hg.get (h.tight b hb)⟩
theorem Mk.push {R:Type} {c:ak} {es bytes:Nat} {s0 s:St} {v:AV} {rows:List (List AV)} (h:Mk es s0 s v rows) {z:List AV} {x:AV} (hz:z.length=es) (hx:x.cells.length=es) (h1:aK x.cells=true) (ei:es≠0)
   (hb:(2*(rows.length+1)+768)*bytes<=281474976710656) (hn:rows.length<=4000000):
   ∃ s5 v',(∀(K:AV->St->Option R),aj c (.buildSlice es 1 z [0]) [x] s (fun y t=>aj c (.append es bytes) [v,y] t K)=K v' s5)/\Mk es s0 s5 v' (rows++[x.cells])/\
     (∀p b,bf v≠some p->s.heap.get p=some b->s5.heap.get p=some b)/\ ∀b,bf v'=some b->s.next.toNat<=b.toNat:=by
 have hw:=h.aB.wf
 have aX:Wf (ai s (.cells x.cells 0)):=aQ hw
 have g1:=Grew.ai hw (.cells x.cells 0)
 obtain ⟨s5,a1,a2,a3,a4,a5,a6⟩:=QS.app (R:=R) (c:=c) (bytes:=bytes) aX (h.own.mono fun b x _ hx=>g1.get hx) h.row (aH s (.cells x.cells 0)) hx h1 ei hb hn
 have keep: ∀p b,bf v≠some p->s.heap.get p=some b->s5.heap.get p=some b:=fun p b hp hg=>by
   have aP:=hw _ _ hg
   rw[a5 p hp (by rw[bG,Pos.ax];omega)]
   exact g1.get hg
 refine ⟨s5,_,fun K=> ?_,⟨h.jf,⟨a3,fun p b hg=> ?_,?_⟩,a2,fun b hb=> ?_,fun r hr=> ?_,fun b off n cp e he=> ?_,fun b hb=> ?_⟩,keep,fun b hb=> ?_⟩
 . rw[Ju hz hx,a1]
 . have yp:=h.aB.get hg
   refine keep p b (fun e=> ?_) yp
   have:=h.new p e
   have:=h.jf p b hg
   omega
 . have:=h.aB.next;rw[a4,bG,Pos.ax,Pos.ax];omega
 . rw[uo] at hb;cases hb;have:=h.aB.next;rw[bG,Pos.ax];omega
 . rcases List.mem_append.1 hr with hr|hr
   . exact h.row r hr
   . simp at hr;subst hr;exact hx
 . cases he;exact .inl rfl
 . rw[uo] at hb;cases hb;rw[a6];simp
 . rw[uo] at hb;cases hb;rw[bG,Pos.ax];omega
theorem oo {b:Pos} {off n es:Nat} (h:Plain (.slice b off n none es)):False:=by
 have h1:av (fun _=>⟨0,0,off+n*es⟩) (b.toNat+1) (fun _=>none) (.slice b off n none es) (.slice (some ⟨0,0+off,none⟩) n n):=
  .slice b off n none es n _ (Nat.le_refl _) (fun c hc=>by cases hc) (fun _=>⟨by omega,rfl,by simp⟩) (fun _=>by omega)
 have h2:=h _ (fun _=>⟨0,0,0⟩) _ 0 _ _ h1
 cases h2 with
 |slice _ _ _ _ _ _ _ _ _ _ hk=>exact absurd (hk rfl) (by omega)
theorem Mk.tidy {es:Nat} {s s':St} {v:AV} {rows:List (List AV)} (h:Mk es s s' v rows): ∃dK,Go.Ai.tidy s (v,s')=(v,dK)/\Mk es s dK v rows:=by
 unfold Go.Ai.tidy
 by_cases hp:Plain (v,s').1/\aM s (v,s').2
 . rw[if_pos hp]
   refine ⟨s,rfl,?_⟩
   rcases h.own with ⟨rfl,rfl⟩|⟨b,off,cap,cs,rfl,_⟩|⟨b,off,rfl,rfl⟩
   . exact Mk.start h.jf (Grew.refl h.jf)
   . rcases h.cap _ _ _ _ _ rfl with rfl|⟨h0,rfl⟩
     . exact (oo hp.1).elim
     . exact ⟨h.jf,Grew.refl h.jf,.inr (.inr ⟨b,off,by rw[h0],List.eq_nil_of_length_eq_zero h0⟩),fun b hb=>(by rw[h0,iV] at hb;cases hb),h.row,h.cap,fun b hb=>(by rw[h0,iV] at hb;cases hb)⟩
   . exact ⟨h.jf,Grew.refl h.jf,.inr (.inr ⟨b,off,rfl,rfl⟩),fun b hb=>(by rw[iV] at hb;cases hb),h.row,h.cap,fun b hb=>(by rw[iV] at hb;cases hb)⟩
 . rw[if_neg hp];exact ⟨s',rfl,h⟩
end
section
open Go
theorem QS.cV {es d:Nat} {s:St} {v:AV} {rows:List (List AV)} (h:QS es s v rows) (hr: ∀r∈rows,r.length=es):
   ∃z,Go.Ai.cV s (d+1) v=ro es z (rows.map fun r=>r.map (Go.Ai.cV s d)):=by
 rcases h with ⟨rfl,rfl⟩|⟨b,off,cap,cs,rfl,h1,h2,h3,h4⟩|⟨b,off,rfl,rfl⟩
 . exact ⟨true,rfl⟩
 rotate_left
 . exact ⟨false,rfl⟩
 . refine ⟨false,?_⟩
   by_cases h0:rows.length=0
   . obtain rfl:=List.eq_nil_of_length_eq_zero h0
     rfl
   rw[Xr,decide_eq_false h0]
   simp only
   rw[h1]
   simp only[decide_eq_true h2]
   show AV.fl _ _=AV.fl _ _
   congr 1
   refine List.ext_getElem (by simp) fun i p1 p2=> ?_
   simp only[List.length_map,List.length_range] at p1
   simp only[List.getElem_map,List.getElem_range]
   congr 1
   have key: ∀(rows:List (List AV)) (i:Nat) (hi:i<rows.length),(∀r∈rows,r.length=es)->((rows.flatten).drop (i*es)).take es=rows[i]:=by
     intro rows
     induction rows with
     |nil=>intro i hi;simp at hi
     |  cons r rows ih=>
        intro i hi hr
        have hl:=hr r (by simp)
        cases i with
        |zero=>simp[<-hl]
        |succ i=>
         have:=ih i (by simpa using hi) (fun x hx=>hr x (List.mem_cons_of_mem _ hx))
         rw[List.flatten_cons,Nat.succ_mul,Nat.add_comm, <-hl,List.drop_append]
         simp only[List.getElem_cons_succ]
         rw[<-this,hl]
         simp[List.drop_eq_nil_of_le (show r.length<=es+i*es by omega)]
   rw[<-key rows i p1 hr, <-h3]
   rw[List.drop_take,List.take_take,List.drop_drop]
   congr 1
   have:(i+1)*es<=rows.length*es:=Nat.mul_le_mul_right _ p1
   rw[Nat.succ_mul] at this
   omega
end
section
open Go
section
variable {R : Type} (c : ak) (K : AV -> St -> Option R) (st : St)
theorem mH {b:Pos} {off len es es':Nat} {cap:Option Nat} {k:IntKind} {i:Nat} (h:i<len):aj c (.idxA es none) [.slice b off len cap es',.int k (i:Int)] st K=K (.ptr b (off+i*es)) st:=
 aI c K (fun H n=>by
  simp only[aC.run,pG,jw]
  have:Nat.blt i len=true:=by rw[Nat.blt_eq];exact h
  rw[this]) st
theorem Bm (b:Pos) (off len es:Nat) (cap:Option Nat):aj c (.lenB .l) [.slice b off len cap es] st K=K (.int .i64 (len:Int)) st:=aI c K (fun H n=>rfl) st
theorem afe {b:Pos} {off len es:Nat} {cap:Option Nat} (h:1<=len) (hc: ∀x,cap=some x->len<=x):
  aj c (.sliceL es true false false) [.slice b off len cap es,.int .i64 1] st K=K (.slice b (off+1*es) (len - 1) (cap.map (· - 1)) es) st:=
 aI c K (fun H n=>by
  have hb:bounds true false false [.int .i64 1]=some (some 1,none,none):=rfl
  simp only[aC.run,gY,hb,cN,cM,decide_true,Option.getD_some,Option.getD_none,decide_eq_true h]
  cases cap with
  |none=>simp
  |some x=>simp[hc x rfl]) st
theorem aiP {es bytes:Nat} {z:List AV} {k k':IntKind} {n:Nat} (h1:bytes*n<=281474976710656) (h2:n<=9223372036854775807):
  aj c (.mkSlice es bytes z) [.int k (n:Int),.int k' (n:Int)] st K=K (.slice st.next 0 n (some n) es) (ai st (.cells (bC z n) 0)):=by
 have:aC.run (fun b=>st.heap.get b) st.next (.mkSlice es bytes z) [.int k (n:Int),.int k' (n:Int)]=some (.aL (.slice st.next 0 n (some n) es) none none (some (.cells (bC z n) 0))):=by
  simp only[aC.run,y7,jw,cM,decide_eq_true h1,decide_eq_true h2,Nat.le_refl,decide_true]
 unfold aj bP;rw[this];rfl
end
theorem Ln {α:Type} (x:α): ∀n:Nat,bC [x] n=List.replicate n x
 |0=>rfl
 |n+1=>by simp[bC,Ln x n,List.replicate_succ]
theorem Bn {rows:List (List AV)} {es:Nat} (hr: ∀r∈rows,r.length=es): ∀(i j:Nat) (r:List AV) (u:AV),rows[i]? =some r->r[j]? =some u->rows.flatten[i*es+j]? =some u:=by
 induction rows with
 |nil=>intro i j r u h;simp at h
 |cons r0 rows ih=>
  intro i j r u h1 h2
  have hl:=hr r0 (by simp)
  cases i with
  |zero=>
   simp at h1;subst h1
   have:=(List.getElem?_eq_some_iff.1 h2).1
   rw[List.flatten_cons,Nat.zero_mul,Nat.zero_add,List.getElem?_append_left this];exact h2
  |succ i=>
   rw[List.flatten_cons,List.getElem?_append_right (by rw[Nat.succ_mul];omega)]
   rw[show (i+1)*es+j - r0.length=i*es+j by rw[Nat.succ_mul];omega]
   exact ih (fun x hx=>hr x (List.mem_cons_of_mem _ hx)) i j r u (by simpa using h1) h2
theorem QS.at {R:Type} {c:ak} {es:Nat} {s:St} {v:AV} {rows:List (List AV)} (h:QS es s v rows) (hr: ∀r∈rows,r.length=es) (ei:es≠0) {i:Nat} (hi:i<rows.length):
   ∃b o cs,(∀(K:AV->St->Option R) (k:IntKind) (s1:St),aj c (.idxA es none) [v,.int k (i:Int)] s1 K=K (.ptr b o) s1)/\bf v=some b/\s.heap.get b=some (.cells cs 0)/\ ∀j u,rows[i][j]? =some u->cs[o+j]? =some u:=by
 rcases h with ⟨rfl,rfl⟩|⟨b,off,cap,cs,rfl,g1,g2,g3,g4⟩|⟨b,off,rfl,rfl⟩
 . simp at hi
 rotate_left
 . simp at hi
 . refine ⟨b,off+i*es,cs,fun K k s1=>mH c K s1 hi,by simp only[bf];rw[if_neg (by omega)],g1,fun j u hj=> ?_⟩
   have hri:=hr rows[i] (List.getElem_mem hi)
   have hj2:j<es:=by rw[<-hri];exact (List.getElem?_eq_some_iff.1 hj).1
   have:=Bn hr i j rows[i] u (List.getElem?_eq_getElem hi) hj
   rw[<-g3,List.getElem?_take] at this
   split at this
   . rw[List.getElem?_drop] at this;rw[<-this];congr 1;omega
   . cases this
theorem QS.tail {R:Type} {c:ak} {es:Nat} {s:St} {v:AV} {r:List AV} {rows:List (List AV)} (h:QS es s v (r::rows)) (hr:r.length=es):
   ∃v',(∀(K:AV->St->Option R) (s1:St),aj c (.sliceL es true false false) [v,.int .i64 1] s1 K=K v' s1)/\QS es s v' rows/\ ∀b,bf v'=some b->bf v=some b:=by
 rcases h with ⟨rfl,h⟩|⟨b,off,cap,cs,rfl,g1,g2,g3,g4⟩|⟨b,off,rfl,h⟩
 . cases h
 rotate_left
 . cases h
 . refine ⟨.slice b (off+1*es) rows.length (cap.map (· - 1)) es,fun K s1=> ?_,.inr (.inl ⟨b,off+1*es,cap.map (· - 1),cs,rfl,g1,?_,?_,?_⟩),fun b' hb=>by
     obtain rfl:=om hb
     simp only[bf,List.length_cons];rw[if_neg (by omega)]⟩
   . rw[afe c K s1 (by simp) (fun x hx=>by rcases g4 with rfl|rfl<;>cases hx;exact Nat.le_refl _)];simp
   . simp only[List.length_cons,Nat.succ_mul] at g2;omega
   . have:((cs.drop off).take ((r::rows).length*es)).drop es=rows.flatten:=by rw[g3,List.flatten_cons, <-hr];simp
     rw[<-this,List.drop_take,List.drop_drop]
     congr 1
     . simp only[List.length_cons,Nat.succ_mul];omega
     . congr 1;omega
   . rcases g4 with rfl|rfl
     . exact .inl rfl
     . right;simp
theorem QS.push {R:Type} {c:ak} {es bytes:Nat} {s:St} {v:AV} {rows:List (List AV)} (hw:Wf s) (h:QS es s v rows) (hr: ∀r∈rows,r.length=es) {z:List AV} {x:AV} (hz:z.length=es) (hx:x.cells.length=es) (h1:aK x.cells=true) (ei:es≠0)
   (hb:(2*(rows.length+1)+768)*bytes<=281474976710656) (hn:rows.length<=4000000):
   ∃s5 v',(∀(K:AV->St->Option R),aj c (.buildSlice es 1 z [0]) [x] s (fun y t=>aj c (.append es bytes) [v,y] t K)=K v' s5)/\QS es s5 v' (rows++[x.cells])/\Wf s5/\s.next.toNat<=s5.next.toNat/\
    (∀p b,bf v≠some p->s.heap.get p=some b->s5.heap.get p=some b)/\ ∀b,bf v'=some b->s.next.toNat<=b.toNat:=by
 have aX:Wf (ai s (.cells x.cells 0)):=aQ hw
 have g1:=Grew.ai hw (.cells x.cells 0)
 obtain ⟨s5,a1,a2,a3,a4,a5,_⟩:=QS.app (R:=R) (c:=c) (bytes:=bytes) aX (h.mono fun b x _ hx=>g1.get hx) hr (aH s (.cells x.cells 0)) hx h1 ei hb hn
 refine ⟨s5,_,fun K=>by rw[Ju hz hx,a1],a2,a3,by rw[a4,bG,Pos.ax,Pos.ax];omega,fun p b hp hg=> ?_,fun b hb=> ?_⟩
 . have aP:=hw _ _ hg
   rw[a5 p hp (by rw[bG,Pos.ax];omega)]
   exact g1.get hg
 . rw[uo] at hb;cases hb;rw[bG,Pos.ax];omega
theorem QS.lenB {R:Type} {c:ak} {es:Nat} {s:St} {v:AV} {rows:List (List AV)} (h:QS es s v rows) (K:AV->St->Option R) (s1:St):aj c (.lenB .l) [v] s1 K=K (.int .i64 (rows.length:Int)) s1:=by
 rcases h with ⟨rfl,rfl⟩|⟨b,off,cap,cs,rfl,_⟩|⟨b,off,rfl,rfl⟩
 . exact aI c K (fun H n=>rfl) s1
 . exact Bm c K s1 _ _ _ _ _
 . exact Bm c K s1 _ _ _ _ _
end
section
open Go
def ct (v:AV):Prop:= ∃N0 K0:Nat,∀N K:Nat,N0<=N->K0<=K-> ∃x,av (fun _=>⟨0,0,K⟩) N (fun _=>none) v x
theorem ct.int (k:IntKind) (i:Int):ct (.int k i):=⟨0,0,fun _ _ _ _=>⟨_,.int k i⟩⟩
theorem ct.bool (b:Bool):ct (.bool b):=⟨0,0,fun _ _ _ _=>⟨_,.bool b⟩⟩
theorem ct.ah:ct .ah:=⟨0,0,fun _ _ _ _=>⟨_,.ah⟩⟩
theorem ct.str {s:List Nat} (h: ∀x∈s,x<256):ct (.str s):=⟨0,0,fun _ _ _ _=>⟨.string ⟨(s.map UInt8.ofNat).toArray⟩,.str s _ (by
 show (s.map UInt8.ofNat).toArray.toList.map UInt8.toNat=s
 simp only[List.map_map]
 conv=>rhs;rw[<-List.map_id s]
 refine List.map_congr_left fun c hc=> ?_
 have:=h c hc
 simp[UInt8.toNat_ofNat]
 omega)⟩⟩
theorem ct.slice (b:Pos) (off n es:Nat):ct (.slice b off n none es):=⟨b.toNat+1,off+n*es,fun N K hN hK=>⟨.slice (some ⟨0,0+off,none⟩) n n,
 .slice b off n none es n _ (Nat.le_refl _) (fun c hc=>by cases hc) (fun _=>⟨by omega,rfl,by simpa using hK⟩) (fun _=>by omega)⟩⟩
theorem ct.zero (b:Pos) (off es:Nat):ct (.slice b off 0 (some 0) es):=⟨0,0,fun N K _ _=>⟨.slice (some ⟨0,0,none⟩) 0 0,
 .slice b off 0 (some 0) es 0 _ (Nat.le_refl _) (fun c hc=>by cases hc;rfl) (fun h=>absurd rfl h) (fun h=>by cases h)⟩⟩
theorem inst_list: ∀{l:List AV},(∀v∈l,ct v)-> ∃N0 K0:Nat,∀N K:Nat,N0<=N->K0<=K-> ∃xs,aA (fun _=>⟨0,0,K⟩) N (fun _=>none) l xs
 |[],_=>⟨0,0,fun _ _ _ _=>⟨[],aA.nil⟩⟩
 |v::l,h=>by
  obtain ⟨N1,K1,h1⟩:=h v (by simp)
  obtain ⟨N2,K2,h2⟩:=inst_list (fun u hu=>h u (List.mem_cons_of_mem _ hu))
  refine ⟨max N1 N2,max K1 K2,fun N K hN hK=> ?_⟩
  obtain ⟨x,hx⟩:=h1 N K (by omega) (by omega)
  obtain ⟨xs,gZ⟩:=h2 N K (by omega) (by omega)
  exact ⟨x::xs,aA.cons hx gZ⟩
theorem cE {l:List AV} (hi: ∀v∈l,ct v) {b:Pos} {off n es:Nat} (hm:AV.slice b off n none es∈l): ¬Plain (.agg l):=fun h=>by
 obtain ⟨N0,K0,h1⟩:=inst_list hi
 obtain ⟨xs,hx⟩:=h1 N0 K0 (Nat.le_refl _) (Nat.le_refl _)
 have h2:av (fun _=>⟨0,0,K0⟩) N0 (fun _=>none) (.agg l) (.agg xs.toArray):= .agg l _ (by rw[hx.1];simp) fun i v x hv um=>hx.2 i v x hv (by simpa using um)
 have h3:=h _ (fun _=>⟨0,0,0⟩) _ 0 _ _ h2
 obtain ⟨i,aP,hi⟩:=List.mem_iff_getElem.1 hm
 cases h3 with
 |agg _ _ hl hc=>
  have ag6:i<xs.toArray.size:=by rw[<-hl];exact aP
  obtain ⟨y,hy⟩: ∃y,xs.toArray[i]? =some y:=⟨_,Array.getElem?_eq_getElem ag6⟩
  have:=hc i _ y (by rw[List.getElem?_eq_getElem aP,hi]) hy
  cases this with
  |slice _ _ _ _ _ _ _ _ _ _ hk=>exact absurd (hk rfl) (by omega)
theorem Mk.inst {es:Nat} {s s':St} {v:AV} {rows:List (List AV)} (h:Mk es s s' v rows):ct v:=by
 rcases h.own with ⟨rfl,rfl⟩|⟨b,off,cap,cs,rfl,_⟩|⟨b,off,rfl,rfl⟩
 . exact ct.ah
 . rcases h.cap _ _ _ _ _ rfl with rfl|⟨h0,rfl⟩
   . exact ct.slice _ _ _ _
   . rw[h0];exact ct.zero _ _ _
 . exact ct.zero _ _ _
theorem Mk.loose {es:Nat} {s s':St} {v:AV} {rows:List (List AV)} (h:Mk es s s' v rows):(∃b off n,v= .slice b off n none es)\/((∀t,Wf t->Mk es t t v rows)/\rows=[]):=by
 rcases h.own with ⟨rfl,rfl⟩|⟨b,off,cap,cs,rfl,_⟩|⟨b,off,rfl,rfl⟩
 . exact .inr ⟨fun t ht=>Mk.start ht (Grew.refl ht),rfl⟩
 . rcases h.cap _ _ _ _ _ rfl with rfl|⟨h0,rfl⟩
   . exact .inl ⟨_,_,_,rfl⟩
   . exact .inr ⟨fun t ht=>⟨ht,Grew.refl ht,.inr (.inr ⟨b,off,by rw[h0],List.eq_nil_of_length_eq_zero h0⟩),fun b hb=>(by rw[h0,iV] at hb;cases hb),h.row,h.cap,fun b hb=>(by rw[h0,iV] at hb;cases hb)⟩,List.eq_nil_of_length_eq_zero h0⟩
 . exact .inr ⟨fun t ht=>⟨ht,Grew.refl ht,.inr (.inr ⟨b,off,rfl,rfl⟩),fun b hb=>(by rw[iV] at hb;cases hb),h.row,h.cap,fun b hb=>(by rw[iV] at hb;cases hb)⟩,rfl⟩
theorem Mk.Ti {es:Nat} {s s':St} {v:AV} {rows:List (List AV)} (h:Mk es s s' v rows) {l:List AV} (hm:v∈l) (hi: ∀u∈l,ct u): ∃dK,Go.Ai.tidy s (.agg l,s')=(.agg l,dK)/\(dK=s'\/dK=s)/\Mk es s dK v rows:=by
 unfold Go.Ai.tidy
 by_cases hp:Plain (AV.agg l,s').1/\aM s (AV.agg l,s').2
 . rw[if_pos hp]
   refine ⟨s,rfl,.inr rfl,?_⟩
   rcases h.loose with ⟨b,off,n,rfl⟩|⟨hl,_⟩
   . exact absurd hp.1 (cE hi hm)
   . exact hl s h.jf
 . rw[if_neg hp];exact ⟨s',rfl,.inl rfl,h⟩
theorem Mk.cells {es:Nat} {s s':St} {v:AV} {rows:List (List AV)} (h:Mk es s s' v rows):v.cells=[v]/\aK [v]=true:=by
 rcases h.own with ⟨rfl,rfl⟩|⟨b,off,cap,cs,rfl,_⟩|⟨b,off,rfl,rfl⟩<;>exact ⟨rfl,rfl⟩
theorem Mk.store {es:Nat} {s s':St} {v:AV} {rows:List (List AV)} (h:Mk es s s' v rows) {p:Pos} {b:AB} (hp:s.next.toNat<=p.toNat) (Jo:p.toNat<s'.next.toNat) (bX:bf v≠some p):Mk es s (bt s' p b) v rows:=
 ⟨h.jf,⟨ij h.aB.wf Jo,fun q x hq=>by have:=h.jf _ _ hq;rw[aF (fun e=>by rw[e] at hp;omega)];exact h.aB.get hq,by rw[cg];exact h.aB.next⟩,
  h.own.mono fun q x hq hx=>by rw[aF (fun e=>bX (by rw[hq,e]))];exact hx,h.new,h.row,h.cap,fun b hb=>by rw[aF (fun e=>bX (by rw[hb,e]))];exact h.tight b hb⟩
theorem Mk.back {es:Nat} {s0 s s':St} {v:AV} {rows:List (List AV)} (h:Mk es s s' v rows) (h0:Wf s0) (hg:Grew s0 s):Mk es s0 s' v rows:=
 ⟨h0,hg.trans h.aB,h.own,fun b hb=>Nat.le_trans hg.next (h.new b hb),h.row,h.cap,h.tight⟩
end
section
open Go
theorem Lo {α:Type} (l:List α) (i:Nat) (h:i<l.length) (u:α):aG l i [u]=l.set i u:=by
 unfold aG
 rw[List.set_eq_take_append_cons_drop,if_pos h]
 simp
theorem Ik {es:Nat}: ∀(rows:List (List AV)),(∀r∈rows,r.length=es)-> ∀(i j:Nat) (hi:i<rows.length),j<es-> ∀u,rows.flatten.set (i*es+j) u=(rows.set i (rows[i].set j u)).flatten
 |[],_,i,j,hi,_,_=>by simp at hi
 |r::rows,hr,i,j,hi,hj,u=>by
  have hl:=hr r (by simp)
  cases i with
  |zero=>
   simp only[Nat.zero_mul,Nat.zero_add,List.flatten_cons,List.set_cons_zero,List.getElem_cons_zero]
   rw[List.set_append_left _ _ (by omega)]
  |succ i=>
   simp only[List.flatten_cons,List.set_cons_succ,List.getElem_cons_succ]
   rw[List.set_append_right _ _ (by rw[Nat.succ_mul];omega)]
   rw[show (i+1)*es+j - r.length=i*es+j by rw[Nat.succ_mul];omega]
   rw[Ik rows (fun x hx=>hr x (List.mem_cons_of_mem _ hx)) i j (by simpa using hi) hj u]
theorem QS.set {R:Type} {c:ak} {es:Nat} {s:St} {v:AV} {rows:List (List AV)} (h:QS es s v rows) (hr: ∀r∈rows,r.length=es) (ei:es≠0) {i:Nat} (hi:i<rows.length):
   ∃ b o cs,(∀(K:AV->St->Option R) (k:IntKind) (s1:St),aj c (.idxA es none) [v,.int k (i:Int)] s1 K=K (.ptr b o) s1)/\(∀(K:AV->Option R) (k:IntKind),fM (.idxA es none) [v,.int k (i:Int)] K=K (.ptr b o))/\bf v=some b/\s.heap.get b=some (.cells cs 0)/\o+es<=cs.length/\(∀j u,rows[i][j]? =some u->cs[o+j]? =some u)/\
     (∀j u (s':St),j<es->s'.heap.get b=some (.cells (aG cs (o+j) [u]) 0)->QS es s' v (rows.set i (rows[i].set j u)))/\
     ∀j u,j<es->cs=rows.flatten->aG cs (o+j) [u]=(rows.set i (rows[i].set j u)).flatten:=by
 rcases h with ⟨rfl,rfl⟩|⟨b,off,cap,cs,rfl,g1,g2,g3,g4⟩|⟨b,off,rfl,rfl⟩
 . simp at hi
 rotate_left
 . simp at hi
 have hri:=hr rows[i] (List.getElem_mem hi)
 have hm:(i+1)*es<=rows.length*es:=Nat.mul_le_mul_right _ hi
 rw[Nat.succ_mul] at hm
 have hx: ∀(k:IntKind) (H:Pos->Option AB) (n:Pos),aC.run H n (.idxA es none) [.slice b off rows.length cap es,.int k (i:Int)]=some (.val (.ptr b (off+i*es))):=fun k H n=>by
   simp only[aC.run,pG,jw]
   have:Nat.blt i rows.length=true:=by rw[Nat.blt_eq];exact hi
   rw[this]
 refine ⟨b,off+i*es,cs,fun K k s1=>mH c K s1 hi,fun K k=>cP K (hx k),by simp only[bf];rw[if_neg (by omega)],g1,by omega,fun j u hj=> ?_,fun j u s' hj hs=> ?_,fun j u hj he=> ?_⟩
 . have hj2:j<es:=by rw[<-hri];exact (List.getElem?_eq_some_iff.1 hj).1
   have:=Bn hr i j rows[i] u (List.getElem?_eq_getElem hi) hj
   rw[<-g3,List.getElem?_take] at this
   split at this
   . rw[List.getElem?_drop] at this;rw[<-this];congr 1;omega
   . cases this
 . rw[Lo _ _ (by omega)] at hs
   refine .inr (.inl ⟨b,off,cap,_,by simp,hs,by simpa using g2,?_,by simpa using g4⟩)
   rw[List.length_set, <-Ik rows hr i j hi hj u, <-g3,List.drop_set,if_neg (by omega),List.take_set]
   congr 1
   omega
 . have hlen:rows.flatten.length=rows.length*es:=by
     clear g2 g3 g4 hi hri hm hx g1 he
     induction rows with
     |nil=>simp
     |  cons r rows ih=>
        have:=ih (fun x hx=>hr x (List.mem_cons_of_mem _ hx))
        have h2:=hr r (by simp)
        simp only[List.flatten_cons,List.length_append,List.length_cons,Nat.succ_mul];omega
   have h0:off=0:=by rw[he,hlen] at g2;omega
   subst h0
   rw[Lo _ _ (by omega),he, <-Ik rows hr i j hi hj u]
   congr 1
   omega
end
section
open Go
def Src (es:Nat) (s:St) (v:AV) (rows:List (List AV)):Prop:=v= .fl rows es\/QS es s v rows
theorem Src.len {es:Nat} {s:St} {v:AV} {rows:List (List AV)} (h:Src es s v rows):dF v=some rows.length:=by
 rcases h with rfl|h
 . rfl
 . exact h.len
theorem Src.mono {es:Nat} {s s':St} {v:AV} {rows:List (List AV)} (h:Src es s v rows) (hk: ∀b x,bf v=some b->s.heap.get b=some x->s'.heap.get b=some x):Src es s' v rows:=h.imp id fun h=>h.mono hk
theorem Src.aB {es:Nat} {s s':St} {v:AV} {rows:List (List AV)} (h:Src es s v rows) (hg:Grew s s'):Src es s' v rows:=h.mono fun _ _ _ hx=>hg.get hx
theorem Src.first {es:Nat} {s:St} {v:AV} {rows:List (List AV)} (h:Src es s v rows) (hr: ∀r∈rows,r.length=es):cA es rows.length (fun b=>s.heap.get b) v=some rows.flatten:=by
 rcases h with rfl|h
 . simp only[cA,cN,cM,decide_true,Nat.le_refl,List.take_length]
 . exact h.first hr
theorem Src.nil {es:Nat} {s:St} {v:AV} {rows:List (List AV)} (h:Src es s v rows):(v= .ah/\rows=[])\/ ∀{R:Type} (c:ak) (K:AV->St->Option R) (t:St),aj c (.bin .eql .slice) [v,.ah] t K=K (.bool false) t:=by
 rcases h with rfl|⟨rfl,rfl⟩|⟨b,off,cap,cs,rfl,_⟩|⟨b,off,rfl,rfl⟩
 . exact .inr fun c K t=>aI c K (fun H n=>rfl) t
 . exact .inl ⟨rfl,rfl⟩
 . exact .inr fun c K t=>aI c K (fun H n=>rfl) t
 . exact .inr fun c K t=>aI c K (fun H n=>rfl) t
theorem Src.ro {es:Nat} {s:St} (z:Bool) (rows:List (List AV)):Src es s (ro es z rows) rows:=by
 unfold Go.Ai.ro;split
 . exact .inr (.inl ⟨rfl,rfl⟩)
 . exact .inl rfl
theorem Xt {es:Nat}: ∀{rows:List (List AV)},(∀r∈rows,r.length=es)->rows.flatten.length=rows.length*es
 |[],_=>by simp
 |r::rows,hr=>by
  have ih:=Xt (fun x hx=>hr x (List.mem_cons_of_mem _ hx))
  have h2:=hr r (by simp)
  simp only[List.flatten_cons,List.length_append,List.length_cons,Nat.succ_mul];omega
theorem Xu {es bytes:Nat} {z:List AV} {src:AV} {rows:List (List AV)} (hr: ∀r∈rows,r.length=es) (_hes:es≠0) (hb:(2*rows.length+768)*bytes<=281474976710656) (hn:rows.length<=4000000) {c:ak} {R:Type} (s:St) (hw:Wf s) (h:Src es s src rows):
   ∃v s',(∀(K:AV->St->Option R),aj c (.buildSlice es 0 z []) [] s (fun y t=>aj c (.append es bytes) [y,src] t K)=K v s')/\Mk es s s' v rows:=by
 have bs: ∀(K:AV->St->Option R),aj c (.buildSlice es 0 z []) [] s K=K (.slice s.next 0 0 (some 0) es) (ai s (.cells [] 0)):=fun K=>by rw[cB];rfl
 have aX:Wf (ai s (.cells [] 0)):=aQ hw
 have g1:=Grew.ai hw (.cells [] 0)
 have hl:=h.len
 by_cases h0:rows.length=0
 . obtain rfl:=List.eq_nil_of_length_eq_zero h0
   refine ⟨.slice s.next 0 0 (some 0) es,ai s (.cells [] 0),fun K=> ?_,hw,g1,.inr (.inr ⟨_,_,rfl,rfl⟩),fun b hb=>(by rw[iV] at hb;cases hb),hr,fun b off n cp e he=>(by cases he;exact .inr ⟨rfl,rfl⟩),fun b hb=>(by rw[iV] at hb;cases hb)⟩
   rw[bs,aaa c K hl (by simpa using hb) (by simp)]
 . have hx:cA es rows.length (fun b=>(ai s (.cells [] 0)).heap.get b) src=some rows.flatten:=(h.aB g1).first hr
   have hlen:=Xt hr
   refine ⟨.slice (ai s (.cells [] 0)).next 0 rows.length none es,ai (ai s (.cells [] 0)) (.cells rows.flatten 0),fun K=> ?_,hw,g1.trans (Grew.ai aX _),.inr (.inl ⟨_,0,none,rows.flatten,rfl,aH _ _,by omega,?_,.inl rfl⟩),fun b hb=> ?_,hr,fun b off n cp e he=>(by cases he;exact .inl rfl),fun b hb=>(by rw[uo] at hb;cases hb;exact aH _ _)⟩
   . rw[bs,ae9 c K (m:=rows.length) hl h0 (by simpa using hb) (by omega) hx]
   . simp only[List.drop_zero];exact List.take_of_length_le (by omega)
   . rw[uo] at hb;cases hb;rw[bG,Pos.ax];omega
theorem aff {v:AV} (h:aK [v]=true):v.one=true:=by
 simp only[aK] at h
 split at h
 . assumption
 . cases h
theorem My {b:Pos} {o:Nat} {k1 k2:IntKind} {i1 i2:Int}: ¬Plain (.tuple [.ptr b o,.int k1 i1,.int k2 i2]):=fun h=>by
 obtain ⟨x0,e0⟩: ∃x,av (fun _=>⟨0,0,0⟩) (b.toNat+1) (fun _=>none) (.ptr b o) x:=⟨_,.ptr b o (by omega)⟩
 obtain ⟨x1,e1⟩: ∃x,av (fun _=>⟨0,0,0⟩) (b.toNat+1) (fun _=>none) (.int k1 i1) x:=⟨_,.int k1 i1⟩
 obtain ⟨x2,e2⟩: ∃x,av (fun _=>⟨0,0,0⟩) (b.toNat+1) (fun _=>none) (.int k2 i2) x:=⟨_,.int k2 i2⟩
 have:=h (fun _=>⟨0,0,0⟩) (fun _=>⟨0,0,0⟩) (b.toNat+1) 0 (fun _=>none) _ (.tuple _ #[x0,x1,x2] rfl (fun i v v' hv hx=>by
  match i with
  |0=>simp at hv hx;subst hv hx;exact e0
  |1=>simp at hv hx;subst hv hx;exact e1
  |2=>simp at hv hx;subst hv hx;exact e2
  |i+3=>simp at hv))
 cases this with
 |tuple _ _ _ h=>
  have:=h 0 _ x0 rfl rfl
  cases this with
  |ptr _ _ h=>omega
theorem ag7 {l:List AV} {t:Bool} (h:Plain (.tuple [.agg l,.bool t])):Plain (.agg l):=fun ρ ρ' n n' C x hx=>by
 obtain ⟨y,hy⟩: ∃y,av ρ n C (.bool t) y:=⟨_,.bool t⟩
 have:=h ρ ρ' n n' C _ (.tuple _ #[x,y] rfl (fun i v v' hv um=>by
  match i with
  |0=>simp at hv um;subst hv um;exact hx
  |1=>simp at hv um;subst hv um;exact hy
  |i+2=>simp at hv))
 cases this with
 |tuple _ _ _ h=>exact h 0 _ x rfl rfl
theorem Mk.acU {es:Nat} {s s':St} {v:AV} {rows:List (List AV)} (h:Mk es s s' v rows) {l:List AV} (hm:v∈l) (hi: ∀u∈l,ct u) (t:Bool): ∃dK,Go.Ai.tidy s (.tuple [.agg l,.bool t],s')=(.tuple [.agg l,.bool t],dK)/\Mk es s dK v rows:=by
 unfold Go.Ai.tidy
 by_cases hp:Plain (AV.tuple [.agg l,.bool t],s').1/\aM s (AV.tuple [.agg l,.bool t],s').2
 . rw[if_pos hp]
   refine ⟨s,rfl,?_⟩
   rcases h.loose with ⟨b,off,n,rfl⟩|⟨hl,_⟩
   . exact absurd (ag7 hp.1) (cE hi hm)
   . exact hl s h.jf
 . rw[if_neg hp];exact ⟨s',rfl,h⟩
end
section
open Go
theorem QS.cells {es:Nat} {s:St} {v:AV} {rows:List (List AV)} (h:QS es s v rows):v.cells=[v]/\v.one=true:=by
 rcases h with ⟨rfl,rfl⟩|⟨b,off,cap,cs,rfl,_⟩|⟨b,off,rfl,rfl⟩<;>exact ⟨rfl,rfl⟩
abbrev aad (v:AV):List AV:=[v]
theorem ag8 (l:List AV): ∀r∈l.map aad,r.length=1:=fun r hr=>by simp only[List.mem_map] at hr;obtain ⟨m,_,rfl⟩:=hr;rfl
structure Ow (s0 s:St) (jb:Pos) (Ls:List AV) (R:List (List AV)) (I:List (AV×List (List AV))):Prop where
 jf:Wf s0
 lt:jb.toNat<s0.next.toNat
 wf:Wf s
 next:s0.next.toNat<=s.next.toNat
 keep: ∀q x,q≠jb->s0.heap.get q=some x->s.heap.get q=some x
 own: ∀(i:Nat) (L:AV) (r:List AV),Ls[i]? =some L->R[i]? =some r->QS 1 s L (r.map aad)
 len:Ls.length=R.length
 new: ∀L∈Ls,∀b,bf L=some b->s0.next.toNat<=b.toNat
 apart: ∀(i j:Nat) (L M:AV),i≠j->Ls[i]? =some L->Ls[j]? =some M-> ∀b,bf L=some b->bf M≠some b
 iq: ∀e∈I,QS 1 s e.1 e.2/\ ∀b,bf e.1=some b->b≠jb/\ ∀L∈Ls,bf L≠some b
section
variable {s0 s s' : St} {jb : Pos} {Ls : List AV} {R : List (List AV)} {I : List (AV × List (List AV))}
theorem Ow.aB (h:Ow s0 s jb Ls R I) (g:Grew s s'):Ow s0 s' jb Ls R I:=
 ⟨h.jf,h.lt,g.wf,Nat.le_trans h.next g.next,fun q x hq hx=>g.get (h.keep q x hq hx),fun i L r h1 h2=>(h.own i L r h1 h2).mono fun b x _ hx=>g.get hx,h.len,h.new,h.apart,
  fun e he=>⟨(h.iq e he).1.mono fun b x _ hx=>g.get hx,(h.iq e he).2⟩⟩
theorem Ow.Xv (h:Ow s0 s jb Ls R I) {L:AV} (hL:L∈Ls) {b:Pos} (hb:bf L=some b):b.toNat<s.next.toNat:=by
 obtain ⟨i,hi,rfl⟩:=List.mem_iff_getElem.1 hL
 have hr:i<R.length:=by rw[<-h.len];exact hi
 exact (h.own i _ _ (List.getElem?_eq_getElem hi) (List.getElem?_eq_getElem hr)).lt h.wf hb
theorem Ow.more (h:Ow s0 s jb Ls R I) {w:AV} {rows:List (List AV)} (M:Mk 1 s s' w rows):Ow s0 s' jb Ls R ((w,rows)::I):=by
 have h2:=h.aB M.aB
 refine { h2 with iq:=fun e he=> ?_ }
 rcases List.mem_cons.1 he with rfl|he
 . refine ⟨M.own,fun b hb=>⟨fun e=> ?_,fun L hL e=> ?_⟩⟩
   . have:=M.new b hb;have:=h.next;have:=h.lt;rw[e] at *; omega
   . have:=M.new b hb;have:=h.Xv hL e;omega
 . exact h2.iq e he
theorem Ow.store (h:Ow s0 s jb Ls R I) (b:AB):Ow s0 (bt s jb b) jb Ls R I:=by
 have aP:jb.toNat<s.next.toNat:=Nat.lt_of_lt_of_le h.lt h.next
 have nL: ∀L∈Ls,∀b,bf L=some b->jb≠b:=fun L hL b hb e=>by have:=h.new L hL b hb;have:=h.lt;rw[e] at *; omega
 refine ⟨h.jf,h.lt,ij h.wf aP,by rw[cg];exact h.next,fun q x hq hx=>by rw[aF (fun e=>hq e.symm)];exact h.keep q x hq hx,fun i L r h1 h2=> ?_,h.len,h.new,h.apart,fun e he=>⟨?_,(h.iq e he).2⟩⟩
 . refine (h.own i L r h1 h2).mono fun b x hb hx=> ?_
   rw[aF (nL L (List.mem_of_getElem? h1) b hb)];exact hx
 . refine (h.iq e he).1.mono fun b x hb hx=> ?_
   rw[aF (fun e2=>((h.iq e he).2 b hb).1 e2.symm)];exact hx
theorem Ow.push (h:Ow s0 s jb Ls R I) {c:ak} {Q:Type} {bytes i:Nat} {L:AV} {r:List AV} (hL:Ls[i]? =some L) (hR:R[i]? =some r) {z:List AV} {x:AV} (hz:z.length=1) (hx:x.cells=[x]) (h1:x.one=true)
   (hb:(2*(r.length+1)+768)*bytes<=281474976710656) (hn:r.length<=4000000):
   ∃s5 v',(∀(K:AV->St->Option Q),aj c (.buildSlice 1 1 z [0]) [x] s (fun y t=>aj c (.append 1 bytes) [L,y] t K)=K v' s5)/\Ow s0 s5 jb (Ls.set i v') (R.set i (r++[x])) I/\(∀x,s.heap.get jb=some x->s5.heap.get jb=some x)/\(∀p y,bf L≠some p->s.heap.get p=some y->s5.heap.get p=some y)/\v'.cells=[v']/\v'.one=true/\s.next.toNat<=s5.next.toNat/\ ∀b,bf v'=some b->s.next.toNat<=b.toNat:=by
 have q:=h.own i L r hL hR
 have kC:i<Ls.length:=(List.getElem?_eq_some_iff.1 hL).1
 have hmL:L∈Ls:=List.mem_of_getElem? hL
 obtain ⟨s5,v',a1,a2,a3,a4,a5,a6⟩:=QS.push (R:=Q) (c:=c) (bytes:=bytes) h.wf q (ag8 r) hz (x:=x) (by rw[hx];rfl) (by rw[hx];simp[aK,h1]) (by decide) (by simpa using hb) (by simpa using hn)
 have hjlt:jb.toNat<s.next.toNat:=Nat.lt_of_lt_of_le h.lt h.next
 have nj:bf L≠some jb:=fun e=>by have:=h.new L hmL jb e;have:=h.lt;omega
 refine ⟨s5,v',a1,⟨h.jf,h.lt,a3,Nat.le_trans h.next a4,fun q x hq hx=> ?_,fun j M u h2 h3=> ?_,by simpa using h.len,fun M hM b hb=> ?_,fun j k M N hjk h2 h3 b hb dD=> ?_,fun e he=>⟨?_,fun b hb=>⟨((h.iq e he).2 b hb).1,fun M hM dD=> ?_⟩⟩⟩,?_,a5,a2.cells.1,a2.cells.2,a4,a6⟩
 . refine a5 q x (fun e=> ?_) (h.keep q x hq hx)
   have:=h.new L hmL q e
   have:=h.jf _ _ hx
   omega
 . by_cases e:i=j
   . subst e
     rw[List.getElem?_set_self kC] at h2
     have hir:i<R.length:=by rw[<-h.len];exact kC
     rw[List.getElem?_set_self hir] at h3
     cases h2;cases h3
     simpa [hx] using a2
   . rw[List.getElem?_set_ne e] at h2 h3
     exact (h.own j M u h2 h3).mono fun b x hb hx=>a5 b x (fun e2=>h.apart i j L M e hL h2 b e2 hb) hx
 . rcases List.mem_or_eq_of_mem_set hM with hM|rfl
   . exact h.new M hM b hb
   . exact Nat.le_trans h.next (a6 b hb)
 . by_cases e:i=j
   . subst e
     rw[List.getElem?_set_self kC] at h2
     cases h2
     rw[List.getElem?_set_ne hjk] at h3
     have:=a6 b hb
     have:=h.Xv (List.mem_of_getElem? h3) dD
     omega
   . rw[List.getElem?_set_ne e] at h2
     by_cases e2:i=k
     .  subst e2
        rw[List.getElem?_set_self kC] at h3
        cases h3
        have:=a6 b dD
        have:=h.Xv (List.mem_of_getElem? h2) hb
        omega
     .  rw[List.getElem?_set_ne e2] at h3
        exact h.apart j k M N hjk h2 h3 b hb dD
 . exact (h.iq e he).1.mono fun b x hb hx=>a5 b x (fun e2=>((h.iq e he).2 b hb).2 L hmL e2) hx
 . rcases List.mem_or_eq_of_mem_set hM with hM|rfl
   . exact ((h.iq e he).2 b hb).2 M hM dD
   . have:=a6 b dD
     have:=(h.iq e he).1.lt h.wf hb
     omega
 . exact fun x hx=>a5 jb x nj hx
end
end
section
open Go
section
variable {s0 s s' : St} {jb : Pos} {Ls : List AV} {R : List (List AV)} {I : List (AV × List (List AV))}
theorem Ow.none (hw:Wf s) (hj:jb.toNat<s.next.toNat) (n:Nat):Ow s s jb (List.replicate n .ah) (List.replicate n []) []:=by
 have hn: ∀(i:Nat) (L:AV),(List.replicate n AV.ah)[i]? =some L->L= .ah:=fun i L h=>by
   rw[List.getElem?_replicate] at h;split at h
   . cases h;rfl
   . cases h
 refine ⟨hw,hj,hw,Nat.le_refl _,fun _ _ _ h=>h,fun i L r h1 h2=> ?_,by simp,fun L hL b hb=> ?_,fun i j L M _ h1 _ b hb=> ?_,fun e he=>by cases he⟩
 . obtain rfl:=hn i L h1
   rw[List.getElem?_replicate] at h2;split at h2
   . cases h2;exact QS.nil
   . cases h2
 . rw[List.mem_replicate] at hL;obtain ⟨_,rfl⟩:=hL;cases hb
 . obtain rfl:=hn i L h1;cases hb
theorem Ow.snoc (h:Ow s0 s jb Ls R I):Ow s0 s jb (Ls++[.ah]) (R++[[]]) I:=by
 have sp: ∀(i:Nat) (L:AV),(Ls++[.ah])[i]? =some L->Ls[i]? =some L\/(i=Ls.length/\L= .ah):=fun i L h1=>by
   by_cases hi:i<Ls.length
   . rw[List.getElem?_append_left hi] at h1;exact .inl h1
   . rw[List.getElem?_append_right (by omega)] at h1
     by_cases h0:i - Ls.length=0
     . rw[h0] at h1;simp at h1;exact .inr ⟨by omega,h1.symm⟩
     . rw[List.getElem?_eq_none (by simp;omega)] at h1;cases h1
 have mem: ∀L∈Ls++[AV.ah],∀b,bf L=some b->L∈Ls:=fun L hL b hb=>by
   rcases List.mem_append.1 hL with hL|hL
   . exact hL
   . simp at hL;subst hL;cases hb
 refine ⟨h.jf,h.lt,h.wf,h.next,h.keep,fun i L r h1 h2=> ?_,by simp[h.len],fun L hL b hb=>h.new L (mem L hL b hb) b hb,fun i j L M hij h1 h2 b hb dD=> ?_,fun e he=>⟨(h.iq e he).1,fun b hb=>⟨((h.iq e he).2 b hb).1,fun L hL dD=>((h.iq e he).2 b hb).2 L (mem L hL b dD) dD⟩⟩⟩
 . rcases sp i L h1 with h1|⟨rfl,rfl⟩
   . have hi:i<R.length:=by rw[<-h.len];exact (List.getElem?_eq_some_iff.1 h1).1
     rw[List.getElem?_append_left hi] at h2
     exact h.own i L r h1 h2
   . rw[List.getElem?_append_right (by rw[h.len];exact Nat.le_refl _),h.len] at h2
     simp at h2;subst h2;exact QS.nil
 . rcases sp i L h1 with h1|⟨rfl,rfl⟩
   . rcases sp j M h2 with h2|⟨rfl,rfl⟩
     . exact h.apart i j L M hij h1 h2 b hb dD
     . cases dD
   . cases hb
theorem Ow.take {L:AV} {r:List AV} (h:Ow s0 s jb (Ls++[L]) (R++[r]) I):Ow s0 s jb Ls R ((L,r.map aad)::I):=by
 have hl:Ls.length=R.length:=by have:=h.len;simpa using this
 have up: ∀(i:Nat) (M:AV),Ls[i]? =some M->(Ls++[L])[i]? =some M:=fun i M h1=>by rw[List.getElem?_append_left (List.getElem?_eq_some_iff.1 h1).1];exact h1
 have upR: ∀(i:Nat) (M:List AV),R[i]? =some M->(R++[r])[i]? =some M:=fun i M h1=>by rw[List.getElem?_append_left (List.getElem?_eq_some_iff.1 h1).1];exact h1
 have hL:(Ls++[L])[Ls.length]? =some L:=by simp
 have hR:(R++[r])[Ls.length]? =some r:=by rw[hl];simp
 refine ⟨h.jf,h.lt,h.wf,h.next,h.keep,fun i M u h1 h2=>h.own i M u (up i M h1) (upR i u h2),hl,fun M hM b hb=>h.new M (List.mem_append_left _ hM) b hb,fun i j M N hij h1 h2 b hb dD=>h.apart i j M N hij (up i M h1) (up j N h2) b hb dD,fun e he=> ?_⟩
 rcases List.mem_cons.1 he with rfl|he
 . refine ⟨h.own _ _ _ hL hR,fun b hb=>⟨fun e=> ?_,fun M hM dD=> ?_⟩⟩
   . have:=h.new L (by simp) b hb;have:=h.lt;rw[e] at *; omega
   . obtain ⟨i,hi,rfl⟩:=List.mem_iff_getElem.1 hM
     exact h.apart i Ls.length _ L (by omega) (up i _ (List.getElem?_eq_getElem hi)) hL b dD hb
 . exact ⟨(h.iq e he).1,fun b hb=>⟨((h.iq e he).2 b hb).1,fun M hM=>((h.iq e he).2 b hb).2 M (List.mem_append_left _ hM)⟩⟩
end
theorem VN {R:Type} {c:ak} (K:AV->St->Option R) {s:St} {p:Pos} {o:Nat} {cs:List AV} {v:AV} (h:s.heap.get p=some (.cells cs 0)) (ho:o<cs.length) (h1:v.cells=[v]) (h2:v.one=true):
  aj c (.store 1) [.ptr p o,v] s K=K .undef (bt s p (.cells (cs.set o v) 0)):=by
 rw[cu c K s 1 p o v cs h (by rw[h1];rfl) (by omega) (by rw[h1];simp[aK,h2]),h1,Lo _ _ ho]
end
section
open Go
theorem QS.beq {es:Nat} {s:St} {v:AV} {rows:List (List AV)} (h:QS es s v rows):eC v v=true:=by
 rcases h with ⟨rfl,_⟩|⟨b,off,cap,cs,rfl,_⟩|⟨b,off,rfl,_⟩
 . rfl
 . cases cap<;>simp[eC,kK,fJ,Pos.beq_eq.2 rfl]
 . simp[eC,kK,fJ,Pos.beq_eq.2 rfl]
theorem Bo {R:Type} {z:List AV} {x:AV} (hz:z.length=1) (hx:x.cells=[x]) (s:St) (K:AV->AB->Option R):
  Ut (.buildSlice 1 1 z [0]) [x] s K=K (.slice s.next 0 1 (some 1) 1) (.cells [x] 0):=by
 have:bJ (bC z 1) ([0].map fun i=>(i*1,1)) [x]=some [x]:=by
  simp only[List.map_cons,List.map_nil,Nat.zero_mul,bC,List.append_nil,bJ,cN,cM,hx,decide_true,Nat.zero_add,hz,Nat.le_refl,List.length_cons,List.length_nil]
  simp only[aG,List.take_zero,List.nil_append,Nat.zero_add,List.length_cons,List.length_nil]
  rw[List.drop_of_length_le (by omega),List.append_nil]
 rw[adO,this];rfl
theorem Lp {R:Type} {c:ak} {z:List AV} {x:AV} (hz:z.length=1) (hx:x.cells=[x]) (s:St) (K:AV->St->Option R):
  aj c (.buildSlice 1 1 z [0]) [x] s K=K (.slice s.next 0 1 (some 1) 1) (ai s (.cells [x] 0)):=by
 rw[Ju hz (by rw[hx];rfl),hx]
section
variable {s0 s s' : St} {jb : Pos} {Ls : List AV} {R : List (List AV)} {I : List (AV × List (List AV))}
theorem Ow.UB (h:Ow s0 s jb Ls R I) {c:ak} {Q:Type} (bytes:Nat) {i:Nat} {L:AV} {r:List AV} (hL:Ls[i]? =some L) (hR:R[i]? =some r) {x:AV} (hx:x.cells=[x]) (h1:x.one=true)
  (hb:(2*(r.length+1)+768)*bytes<=281474976710656) (hn:r.length<=4000000):
  ∃s5 v',(∀(K:AV->St->Option Q),aj c (.append 1 bytes) [L,.slice s.next 0 1 (some 1) 1] (ai s (.cells [x] 0)) K=K v' s5)/\Ow s0 s5 jb (Ls.set i v') (R.set i (r++[x])) I/\(∀x,s.heap.get jb=some x->s5.heap.get jb=some x)/\(∀p y,bf L≠some p->s.heap.get p=some y->s5.heap.get p=some y)/\v'.cells=[v']/\v'.one=true/\s.next.toNat<=s5.next.toNat/\ ∀b,bf v'=some b->s.next.toNat<=b.toNat:=by
 obtain ⟨s5,v',a1,a2⟩:=h.push (c:=c) (Q:=Q) (bytes:=bytes) hL hR (z:=[.int .i64 0]) rfl hx h1 hb hn
 refine ⟨s5,v',fun K=> ?_,a2⟩
 rw[<-a1 K,Lp rfl hx]
theorem Ow.mem_set {v':AV} {i:Nat} {p:Pos} (hL: ∀L∈Ls,bf L≠some p) (hv:bf v'≠some p): ∀L∈Ls.set i v',bf L≠some p:=fun L h=>by
 rcases List.mem_or_eq_of_mem_set h with h|rfl
 . exact hL L h
 . exact hv
theorem Ow.put (h:Ow s0 s jb Ls R I) {H:List AV} (xo:s.heap.get jb=some (.cells (H++Ls) 0)) {c:ak} {Q:Type} (bytes:Nat) {i:Nat} {L:AV} {r:List AV} (hL:Ls[i]? =some L) (hR:R[i]? =some r) {x:AV} (hx:x.cells=[x]) (h1:x.one=true)
   (hb:(2*(r.length+1)+768)*bytes<=281474976710656) (hn:r.length<=4000000) {o:Nat} (ho:o=H.length+i):
   ∃s5 s6 v',(∀(K:AV->St->Option Q),aj c (.append 1 bytes) [L,.slice s.next 0 1 (some 1) 1] (ai s (.cells [x] 0)) K=K v' s5)/\(∀(K:AV->St->Option Q),aj c (.store 1) [.ptr jb o,v'] s5 K=K .undef s6)/\Ow s0 s6 jb (Ls.set i v') (R.set i (r++[x])) I/\s6.heap.get jb=some (.cells (H++Ls.set i v') 0)/\
    (∀p y,p≠jb->(∀L∈Ls,bf L≠some p)->s.heap.get p=some y->s6.heap.get p=some y/\ ∀L∈Ls.set i v',bf L≠some p):=by
 obtain ⟨s5,v',a1,a2,a3,a4,a5,a6,a7,a8⟩:=h.UB (c:=c) (Q:=Q) bytes hL hR hx h1 hb hn
 have kC:i<Ls.length:=(List.getElem?_eq_some_iff.1 hL).1
 have hj:=a3 _ xo
 have es:(H++Ls).set o v'=H++Ls.set i v':=by
   subst ho
   rw[List.set_append_right _ _ (by omega)];congr 2;omega
 refine ⟨s5,bt s5 jb (.cells (H++Ls.set i v') 0),v',a1,fun K=> ?_,a2.store _,dM _ _ _,fun p y hp hpL hy=>⟨?_,Ow.mem_set hpL fun e=> ?_⟩⟩
 . rw[VN K hj (by rw[List.length_append];omega) a5 a6,es]
 . rw[aF (fun e=>hp e.symm)]
   exact a4 p y (hpL L (List.mem_of_getElem? hL)) hy
 . have:=a8 p e
   have:=h.wf _ _ hy
   omega
end
end
section
open Go
def OB:List (Int×Int)->Nat->List (AV×AV×Nat)
 |[],_=>[]
 |(k,d)::E,i=>(.int .i64 k,.int .i64 d,i)::OB E (i+1)
def im (E:List (Int×Int)):AB:= .map (OB E 0) E.length
def oq:List (Int×Int)->Int->Option Int
 |[],_=>none
 |(k,d)::E,x=>if x=k then some d else oq E x
theorem aae: ∀(E:List (Int×Int)) (i:Nat) (k d:Int),OB (E++[(k,d)]) i=OB E i++[(.int .i64 k,.int .i64 d,i+E.length)]
 |[],i,k,d=>rfl
 |(a,b)::E,i,k,d=>by
  show _::OB (E++[(k,d)]) (i+1)=_::(OB E (i+1)++_)
  rw[aae E (i+1) k d]
  simp only[List.length_cons]
  rw[show i+1+E.length=i+(E.length+1) by omega]
theorem Et (x:Int): ∀(E:List (Int×Int)) (i j:Nat),(oq E x=none->fH .i (.int .i64 x) (OB E i) j=some none)/\ ∀d,oq E x=some d-> ∃n,fH .i (.int .i64 x) (OB E i) j=some (some (n,.int .i64 d))
 |[],i,j=>⟨fun _=>rfl,fun d h=>by cases h⟩
 |(k,e)::E,i,j=>by
  have ih:=Et x E (i+1) (j+1)
  have step:fH .i (.int .i64 x) (OB ((k,e)::E) i) j=if x=k then some (some (j,.int .i64 e)) else fH .i (.int .i64 x) (OB E (i+1)) (j+1):=by
    show (match tU .i (.int .i64 x) (.int .i64 k) with|some true=>some (some (j,AV.int .i64 e))|some false=>fH .i (.int .i64 x) (OB E (i+1)) (j+1)|none=>none)=_
    simp only[tU,cw,gL]
    by_cases h:x=k
    . rw[if_pos h,decide_eq_true h]
    . rw[if_neg h,decide_eq_false h]
  rw[step]
  unfold oq
  by_cases h:x=k
  . rw[if_pos h,if_pos h]
    exact ⟨fun h=>(by cases h),fun d hd=>⟨j,by cases hd;rfl⟩⟩
  . rw[if_neg h,if_neg h];exact ih
section
variable {R : Type} (c : ak) (K : AV -> St -> Option R) {st : St} {m : Pos} {E : List (Int × Int)}
theorem ag9 (h:st.heap.get m=some (im E)) (x:Int):aj c (.lookup .i (.int .i64 0) true) [.map m,.int .i64 x] st K=K (.tuple [.int .i64 ((oq E x).getD 0),.bool (oq E x).isSome]) st:=by
 have:aC.run (fun b=>st.heap.get b) st.next (.lookup .i (.int .i64 0) true) [.map m,.int .i64 x]=some (.val (.tuple [.int .i64 ((oq E x).getD 0),.bool (oq E x).isSome])):=by
  unfold im at h
  cases hl:oq E x with
  |none=>simp only[aC.run,l8,h,(Et x E 0 0).1 hl];rfl
  |some d=>obtain ⟨n,e⟩:=(Et x E 0 0).2 d hl;simp only[aC.run,l8,h,e];rfl
 unfold aj bP;rw[this]
theorem ajV (h:st.heap.get m=some (im E)) (x:Int):aj c (.lookup .i (.int .i64 0) false) [.map m,.int .i64 x] st K=K (.int .i64 ((oq E x).getD 0)) st:=by
 have:aC.run (fun b=>st.heap.get b) st.next (.lookup .i (.int .i64 0) false) [.map m,.int .i64 x]=some (.val (.int .i64 ((oq E x).getD 0))):=by
  unfold im at h
  cases hl:oq E x with
  |none=>simp only[aC.run,l8,h,(Et x E 0 0).1 hl];rfl
  |some d=>obtain ⟨n,e⟩:=(Et x E 0 0).2 d hl;simp only[aC.run,l8,h,e];rfl
 unfold aj bP;rw[this]
theorem aaf (h:st.heap.get m=some (im E)) {x:Int} (hx:oq E x=none) (d:Int):aj c (.mapSet .i) [.map m,.int .i64 x,.int .i64 d] st K=K .undef (bt st m (im (E++[(x,d)]))):=by
 have:aC.run (fun b=>st.heap.get b) st.next (.mapSet .i) [.map m,.int .i64 x,.int .i64 d]=some (.aL .undef none (some (m,im (E++[(x,d)]))) none):=by
  unfold im at h
  simp only[aC.run,tV,h,Za,(Et x E 0 0).1 hx]
  unfold im
  rw[aae]
  simp
 unfold aj bP;rw[this];rfl
end
end
section
open Go
theorem afg (i:Nat):bounds true false false [.int .i64 (i:Int)]=some (some i,none,none):=rfl
theorem afh (i:Nat):bounds false true false [.int .i64 (i:Int)]=some (none,some i,none):=rfl
theorem Xw {es:Nat}: ∀(rows:List (List AV)),(∀r∈rows,r.length=es)-> ∀i,rows.flatten.drop (i*es)=(rows.drop i).flatten
 |[],_,i=>by simp
 |r::rows,hr,0=>by simp
 |r::rows,hr,i+1=>by
  have hl:=hr r (by simp)
  rw[List.flatten_cons,List.drop_succ_cons,Nat.succ_mul,Nat.add_comm, <-List.drop_drop, <-hl,List.drop_left,hl]
  exact Xw rows (fun x hx=>hr x (List.mem_cons_of_mem _ hx)) i
theorem QS.low {es:Nat} {s:St} {v:AV} {rows:List (List AV)} (h:QS es s v rows) (hr: ∀r∈rows,r.length=es) {i:Nat} (hi:i<=rows.length):
   ∃v',(∀{R:Type} (c:ak) (K:AV->St->Option R) (s1:St),aj c (.sliceL es true false false) [v,.int .i64 (i:Int)] s1 K=K v' s1)/\QS es s v' (rows.drop i)/\ ∀b,bf v'=some b->bf v=some b:=by
 rcases h with ⟨rfl,rfl⟩|⟨b,off,cap,cs,rfl,g1,g2,g3,g4⟩|⟨b,off,rfl,rfl⟩
 . obtain rfl:i=0:=by simpa using hi
   exact ⟨.ah,fun c K s1=>aI c K (fun H n=>rfl) s1,.inl ⟨rfl,rfl⟩,fun b hb=>hb⟩
 . refine ⟨.slice b (off+i*es) (rows.length - i) (cap.map (· - i)) es,fun c K s1=>aI c K (fun H n=> ?_) s1,?_,fun b' hb=> ?_⟩
   . simp only[aC.run,gY,afg,cN,cM,decide_true,Option.getD_some,Option.getD_none,decide_eq_true hi]
     rcases g4 with rfl|rfl<;>simp
   . have hm:i*es+(rows.length - i)*es=rows.length*es:=by rw[<-Nat.add_mul];congr 1;omega
     refine .inr (.inl ⟨b,off+i*es,cap.map (· - i),cs,by rw[List.length_drop],g1,?_,?_,?_⟩)
     .  rw[List.length_drop];omega
     .  rw[<-Xw rows hr i, <-g3,List.drop_take,List.drop_drop,List.length_drop]
        congr 1;omega
     .  rcases g4 with rfl|rfl
        . exact .inl rfl
        . right;simp
   . obtain rfl:=om hb
     simp only[bf] at hb ⊢
     by_cases h0:cap=some 0/\rows.length=0
     .  obtain ⟨rfl,h0⟩:=h0
        rw[if_pos (by simp;omega)] at hb;cases hb
     .  rw[if_neg h0]
 . obtain rfl:i=0:=by simpa using hi
   refine ⟨.slice b (off+0*es) 0 (some 0) es,fun c K s1=>aI c K (fun H n=> ?_) s1,.inr (.inr ⟨_,_,rfl,rfl⟩),fun b' hb=> ?_⟩
   . simp only[aC.run,gY,afg,cN,cM,decide_true,Option.getD_some,Option.getD_none,Nat.le_refl,Nat.sub_self]
   . rw[iV] at hb;cases hb
theorem QS.high {es:Nat} {s:St} {v:AV} {rows:List (List AV)} (h:QS es s v rows) {i:Nat} (hi:i<=rows.length):
   ∃v',(∀{R:Type} (c:ak) (K:AV->St->Option R) (s1:St),aj c (.sliceL es false true false) [v,.int .i64 (i:Int)] s1 K=K v' s1)/\ ∀{R:Type} (c:ak) (K:AV->St->Option R) (s1:St),aj c (.lenB .l) [v'] s1 K=K (.int .i64 (i:Int)) s1:=by
 rcases h with ⟨rfl,rfl⟩|⟨b,off,cap,cs,rfl,g1,g2,g3,g4⟩|⟨b,off,rfl,rfl⟩
 . obtain rfl:i=0:=by simpa using hi
   exact ⟨.ah,fun c K s1=>aI c K (fun H n=>rfl) s1,fun c K s1=>aI c K (fun H n=>rfl) s1⟩
 . refine ⟨.slice b (off+0*es) (i - 0) cap es,fun c K s1=>aI c K (fun H n=> ?_) s1,fun c K s1=>aI c K (fun H n=>rfl) s1⟩
   simp only[aC.run,gY,afh,cN,cM,decide_true,Option.getD_some,Option.getD_none,Nat.zero_le]
   rcases g4 with rfl|rfl<;>simp[hi]
 . obtain rfl:i=0:=by simpa using hi
   refine ⟨.slice b (off+0*es) 0 (some 0) es,fun c K s1=>aI c K (fun H n=> ?_) s1,fun c K s1=>aI c K (fun H n=>rfl) s1⟩
   simp only[aC.run,gY,afh,cN,cM,decide_true,Option.getD_some,Option.getD_none,Nat.le_refl,Nat.sub_self]
theorem QS.clear {es:Nat} {z:List AV} {s:St} {v:AV} {rows:List (List AV)} (h:QS es s v rows) (hw:Wf s) (hz:z.length=es) (h1: ∀n,aK (bC z n)=true):
   ∃s',(∀{R:Type} (c:ak) (K:AV->St->Option R),aj c (.clearS es z) [v] s K=K .undef s')/\Wf s'/\s'.next=s.next/\ ∀p x,bf v≠some p->s.heap.get p=some x->s'.heap.get p=some x:=by
 rcases h with ⟨rfl,rfl⟩|⟨b,off,cap,cs,rfl,g1,g2,g3,g4⟩|⟨b,off,rfl,rfl⟩
 . exact ⟨s,fun c K=>aI c K (fun H n=>rfl) s,hw,rfl,fun _ _ _ h=>h⟩
 . by_cases h0:rows.length=0
   . refine ⟨s,fun c K=>aI c K (fun H n=> ?_) s,hw,rfl,fun _ _ _ h=>h⟩
     simp only[aC.run,oc,cN,h0,decide_true]
   . refine ⟨bt s b (.cells (aG cs off (bC z rows.length)) 0),fun c K=> ?_,ij hw (hw _ _ g1),cg _ _ _,fun p x hp hx=> ?_⟩
     .  have:aC.run (fun b=>s.heap.get b) s.next (.clearS es z) [.slice b off rows.length cap es]=some (.aL .undef none (some (b,.cells (aG cs off (bC z rows.length)) 0)) none):=by
         simp only[aC.run,oc,cN,decide_eq_false h0,g1,cM,decide_eq_true g2,Nat.zero_le,decide_true,h1]
        unfold aj bP;rw[this];rfl
     .  rw[aF (fun e=>hp (by simp only[bf];rw[if_neg (by omega),e]))];exact hx
 . refine ⟨s,fun c K=>aI c K (fun H n=> ?_) s,hw,rfl,fun _ _ _ h=>h⟩
   simp[aC.run,oc,cN]
end
section
open Go
theorem QS.bare {es:Nat} {s:St} {v:AV} {rows:List (List AV)} (h:QS es s v rows):bL v:=by
 rcases h with ⟨rfl,_⟩|⟨b,off,cap,cs,rfl,_⟩|⟨b,off,rfl,_⟩
 . exact bL.ah
 . exact bL.slice _ _ _ _ _
 . exact bL.slice _ _ _ _ _
def emptyAt (s:St):St:={ heap:= .e,next:=s.next }
theorem ot (s:St):Wf (emptyAt s):=fun p x h=>by
 have h:(T.e:T AB).get p=some x:=h
 rw[T.cX] at h;cases h
noncomputable def eN (s s1:St):St:={ heap:=T.both s.heap (zo s1.heap),next:=s1.next }
theorem adR {s s1:St} {b:Pos} {x:AB} (h:s.heap.get b=some x):(eN s s1).heap.get b=some x:=by
 show (T.both _ _).get b=_
 rw[T.Bl,h];rfl
theorem UC {s s1:St} (hw:Wf s) {b:Pos} {x:AB} (hb:s.next.toNat<=b.toNat) (h:s1.heap.get b=some x) (hx:Lj x):(eN s s1).heap.get b=some x:=by
 show (T.both _ _).get b=_
 have:s.heap.get b=none:=by
  cases e:s.heap.get b with
  |none=>rfl
  |some y=>have:=hw _ _ e;omega
 rw[T.Bl,this,afd h hx];rfl
theorem R7 {s s1:St} (hw:Wf s) (h1:Wf s1) (hn:s.next.toNat<=s1.next.toNat):Grew s (eN s s1):=
 ⟨fun p x h=>by
  have h:(T.both s.heap (zo s1.heap)).get p=some x:=h
  show p.toNat<s1.next.toNat
  rw[T.Bl] at h
  cases e:s.heap.get p with
  |some y=>have:=hw _ _ e;omega
  |none=>
   rw[e] at h
   have h:(zo s1.heap).get p=some x:=by simpa using h
   exact h1 _ _ (Xs h).1,fun p x h=>adR h,hn⟩
theorem Mk.eN {es:Nat} {s s1:St} {v:AV} {rows:List (List AV)} (hw:Wf s) (h:Mk es (emptyAt s) s1 v rows) (hb: ∀r∈rows,∀x∈r,bL x):Mk es s (Go.Ai.eN s s1) v rows:=by
 have key: ∀b x,bf v=some b->s1.heap.get b=some x->(Go.Ai.eN s s1).heap.get b=some x:=fun b x eS hx=>by
  have t:=h.tight b eS
  have um:x= .cells rows.flatten 0:=by rw[t] at hx;exact (Option.some.inj hx).symm
  subst um
  exact UC hw (h.new b eS) t (fun v hv=>by obtain ⟨r,hr,hv⟩:=List.mem_flatten.1 hv;exact hb r hr v hv)
 exact ⟨hw,R7 hw h.aB.wf h.aB.next,h.own.mono key,h.new,h.row,h.cap,fun b eS=>key b _ eS (h.tight b eS)⟩
theorem OC {call:ak} {f:FuncId} {d:Nat} {args:List AV} {s:St} {v:AV} {s1:St} (h:call f (args.map (cV s d)) (emptyAt s)=some (v,s1)) (hb:bL v) (hn:s.next.toNat<=s1.next.toNat):
 Lm call f d args s=some (v,eN s s1):=acS h ⟨hb,hn⟩
theorem zq {call:ak} {f:FuncId} {d:Nat} {args:List AV} {s:St} {v:AV} (h:call f (args.map (cV s d)) (emptyAt s)=some (v,emptyAt s)) (hb:bL v):Lm call f d args s=some (v,s):=ag5 h hb
end
noncomputable section
open Go
variable {R : Type} {c : ak}
end
section
open Go
section
variable {H : Type} (Ok : DataW H -> Prop) (enc : TypeId × Value -> H) (P : Program) (w : World) (base : Nat) (spare : Nat -> Bool) (held : Bool)
def cF (t:TypeId) (Q:List AV->Prop):Prop:=
 ∀  (fuel:Nat) (cs:List Value) (x:DataW H×List MemPlace),DataW.trod enc P w base spare held fuel t cs=some x->Ok x.1->
    ∃as,Q as/\ ∀ρ n,aA ρ n (fun ad=>w.cell? ad) as cs
def VO:List TypeId->List (List AV->Prop)->Prop
 |[],[]=>True
 |f::fs,Q::Qs=>cF Ok enc P w base spare held f Q/\VO fs Qs
 |_,_=>False
variable {Ok enc P w base spare held}
theorem cF.of {t:TypeId} {Q:List AV->Prop} (h:xx enc P w base spare held t Q):cF Ok enc P w base spare held t Q:=fun fuel cs x hx _=>h fuel cs x hx
theorem cF.mono {t:TypeId} {Q Q':List AV->Prop} (h:cF Ok enc P w base spare held t Q) (k: ∀as,Q as->Q' as):cF Ok enc P w base spare held t Q':=
 fun fuel cs x hx hk=>by obtain ⟨as,h1,h2⟩:=h fuel cs x hx hk;exact ⟨as,k _ h1,h2⟩
theorem pM {N:Nat} {t e:TypeId} {es:Nat} {Q:List AV->Prop} (ht:P.underlying t=some (.slice e)) (hc:P.cellsOf e=es) (ei:0<es) (hQ: ∀as,Q as->as.length=es) (bu: ∀e s,Ok (.slice e s)->e.length<=N/\ ∀d∈e,Ok d) (h:cF Ok enc P w base spare held e Q):
  cF Ok enc P w base spare held t fun as=> ∃z rs,as=[ro es z rs]/\(∀r∈rs,Q r)/\rs.length<=N:=
 fun fuel cs x hx hk=>by
  rcases DataW.trod_slice ht hx with ⟨rfl,_⟩|⟨a,len,cap,elems,rest,n,_,rfl,rfl,hb,hl,hm,hlen,hel,_,_⟩
  .  exact ⟨_,⟨true,[],rfl,by simp,by simp⟩,fun ρ m=>aA.cons .ah aA.nil⟩
  .  obtain ⟨hN,hE⟩:=bu _ _ hk
     simp only[List.length_map] at hN
     have each: ∀i,∃r row,i<len->(Q r/\w.cells? base (a.add (i*es)) es=some row/\ ∀ρ m,aA ρ m (fun ad=>w.cell? ad) r row):=by
        intro i
        by_cases hi:i<len
        . have h1:=hel i hi
          rw[List.getElem?_eq_getElem (by omega),hc] at h1
          cases h2:w.cells? base (a.add (i*es)) es with
          |none=>rw[h2] at h1;cases h1
          | some row=>
            rw[h2] at h1
            obtain ⟨r,hr,hv⟩:=h n row _ h1 (hE _ (List.mem_map_of_mem (List.getElem_mem _)))
            exact ⟨r,row,fun _=>⟨hr,rfl,hv⟩⟩
        . exact ⟨[],[],fun h=>absurd h hi⟩
     obtain ⟨r,each⟩:=Classical.axiomOfChoice each
     obtain ⟨row,hr⟩:=Classical.axiomOfChoice each
     have aih:0<len->a.spot=none:=fun h0=>by
        obtain ⟨_,h1,_⟩:=hr 0 h0
        have:=(World.cells?_some h1).2.2 0 ei
        have hl:=(World.cells?_some h1).2.1
        rw[List.getElem?_eq_getElem (by omega)] at this
        simp only[Nat.zero_mul,Addr.add,if_true] at this
        unfold World.cell? at this
        split at this
        . split at this
          . cases this
          . rename_i h;simpa using h
        . cases this
     have akX:((List.range len).map r).length=len:=by simp
     have get: ∀(i:Nat) (c:List AV),((List.range len).map r)[i]? =some c->i<len/\c=r i:=fun i c hi=>by
        rw[List.getElem?_map] at hi
        by_cases h:i<len
        . rw[List.getElem?_range h] at hi;simp at hi;exact ⟨h,hi.symm⟩
        . rw[List.getElem?_eq_none (by simpa using h)] at hi;cases hi
     refine ⟨_,⟨false,(List.range len).map r,rfl,?_,by simp;omega⟩,fun ρ m=>aA.cons ?_ aA.nil⟩
     .  intro q hq
        simp only[List.mem_map,List.mem_range] at hq
        obtain ⟨i,hi,rfl⟩:=hq
        exact (hr i hi).1
     .  have key:av ρ m (fun ad=>w.cell? ad) (.fl ((List.range len).map r) es) (.slice (some a) ((List.range len).map r).length cap):=by
          refine .fl _ es cap a (fun i j=>((row i)[j]?).getD .nilFunc) (by omega) (fun h0=>aih ?_) (fun i c hi=> ?_) (fun i j c v hi hj=> ?_) (fun i j c v hi hj=> ?_)
          . apply Classical.byContradiction;intro h;apply h0
            have:len=0:=by omega
            subst this;rfl
          . obtain ⟨h1,rfl⟩:=get i c hi
            exact hQ _ (hr i h1).1
          . obtain ⟨h1,rfl⟩:=get i c hi
            obtain ⟨q1,q2,q3⟩:=hr i h1
            have hj2:j<es:=by rw[<-hQ _ q1];exact (List.getElem?_eq_some_iff.1 hj).1
            have q4:=(World.cells?_some q2).2.2 j hj2
            have q5:=(World.cells?_some q2).2.1
            have hs:=aih (by omega)
            have e1:(a.add (i*es)).add j=⟨a.block,a.off+i*es+j,none⟩:=by
             obtain ⟨aE,off,spot⟩:=a
             simp only at hs;subst hs
             unfold Addr.add
             by_cases e1:i*es=0<;>by_cases e2:j=0<;>simp[e1,e2]
            rw[e1] at q4
            show w.cell? _=_
            rw[q4,List.getElem?_eq_getElem (by omega)];rfl
          . obtain ⟨h1,rfl⟩:=get i c hi
            obtain ⟨q1,q2,q3⟩:=hr i h1
            have hj2:j<es:=by rw[<-hQ _ q1];exact (List.getElem?_eq_some_iff.1 hj).1
            have q5:=(World.cells?_some q2).2.1
            refine (q3 ρ m).2 j v _ hj ?_
            rw[List.getElem?_eq_getElem (by omega)];rfl
        rw[akX] at key
        exact key
theorem Mz {Xp n:Nat}: ∀(fs:List Field) (Qs:List (List AV->Prop)) (o:Nat) (cs:List Value),zn P Xp o fs=true->VO Ok enc P w base spare held (fs.map (·.type)) Qs->cs.length=Xp->
  (∀f∈fs,∃y,DataW.trod enc P w base spare held n f.type ((cs.drop f.offset).take (P.cellsOf f.type))=some y/\Ok y.1)->
  ∃parts,Oy Qs parts/\ ∀ρ m,aA ρ m (fun ad=>w.cell? ad) parts.flatten (cs.drop o)
 |[],[],o,cs,hc,_,hl,_=>by
  simp only[zn,beq_iff_eq] at hc
  refine ⟨[],trivial,fun ρ m=> ?_⟩
  rw[List.drop_eq_nil_of_le (by omega)];exact aA.nil
 |f::fs,Q::Qs,o,cs,hc,hO,hl,hf=>by
  simp only[zn,Bool.and_eq_true,beq_iff_eq] at hc
  obtain ⟨y,hy,hyk⟩:=hf f (by simp)
  obtain ⟨as,hq,hv⟩:=hO.1 n _ y hy hyk
  obtain ⟨parts,hp,Jg⟩:=Mz fs Qs _ cs hc.2 hO.2 hl (fun g hg=>hf g (List.mem_cons_of_mem _ hg))
  refine ⟨as::parts,⟨hq,hp⟩,fun ρ m=> ?_⟩
  have e:cs.drop o=(cs.drop f.offset).take (P.cellsOf f.type)++cs.drop (o+P.cellsOf f.type):=by
   rw[hc.1, <-List.drop_drop,List.take_append_drop]
  rw[e,List.flatten_cons]
  exact (hv ρ m).append (Jg ρ m)
theorem Cy {t:TypeId} (ts:List TypeId) {Qs:List (List AV->Prop)} (hs:Li P t=true) (qy:(fieldsOf P t).map (·.type)=ts) (hc:zn P (P.cellsOf t) 0 (fieldsOf P t)=true) (bu: ∀ps,Ok (.agg ps)-> ∀d∈ps,Ok d) (hO:VO Ok enc P w base spare held ts Qs):
  cF Ok enc P w base spare held t fun as=> ∃parts,as=parts.flatten/\Oy Qs parts:=
 fun fuel cs x hx hk=>by
  obtain ⟨fs,ht⟩: ∃fs,P.underlying t=some (.struct fs):=by
     unfold Li at hs
     cases h:P.underlying t with
     |none=>rw[h] at hs;cases hs
     |some d=>rw[h] at hs;cases d<;>first|exact ⟨_,rfl⟩|cases hs
  have ef:fieldsOf P t=fs.toList:=by unfold fieldsOf;rw[ht]
  rw[ef] at qy hc
  subst qy
  obtain ⟨xs,n,_,rfl,hl,hxl,hf⟩:=DataW.trod_struct ht hx
  have hE:=bu _ hk
  obtain ⟨parts,hp,hv⟩:=Mz fs.toList Qs 0 cs hc hO hl (fun f wm=>by
     obtain ⟨i,hi⟩:=List.getElem?_of_mem wm
     have kJ:fs[i]? =some f:=by rw[<-Array.getElem?_toList];exact hi
     have aP:i<fs.size:=(Array.getElem?_eq_some_iff.1 kJ).1
     exact ⟨xs[i],by rw[hf i f kJ,List.getElem?_eq_getElem (by omega)],hE _ (List.mem_map_of_mem (List.getElem_mem _))⟩)
  exact ⟨_,⟨parts,rfl,hp⟩,fun ρ m=>hv ρ m⟩
end
end
section
open Go Go.WideShapes
section
variable {H : Type} (enc : TypeId × Value -> H) (P : Program) (w : World) (base : Nat) (spare : Nat -> Bool) (held : Bool)
variable {enc P w base spare held}
end
end
section
open Go
theorem Mk.He {es:Nat} {s0 s s':St} {v:AV} {rows:List (List AV)} (h:Mk es s0 s v rows) (hg:Grew s0 s') (hk: ∀b x,bf v=some b->s.heap.get b=some x->s'.heap.get b=some x):Mk es s0 s' v rows:=
 ⟨h.jf,hg,h.own.mono hk,h.new,h.row,h.cap,fun b hb=>hk b _ hb (h.tight b hb)⟩
theorem Mk.ja {es:Nat} {s0 s1 s s':St} {v:AV} {rows:List (List AV)} (h:Mk es s1 s v rows) (h0:Wf s0) (Jv:Grew s0 s1) (hg:Grew s0 s') (hk: ∀q b,s1.next.toNat<=q.toNat->s.heap.get q=some b->s'.heap.get q=some b):Mk es s0 s' v rows:=
 ⟨h0,hg,h.own.mono (fun b x hb hx=>hk b x (h.new b hb) hx),fun b hb=>Nat.le_trans Jv.next (h.new b hb),h.row,h.cap,fun b hb=>hk b _ (h.new b hb) (h.tight b hb)⟩
end
section
open Go Go.ChangeShapes Go.WideShapes Go.ChangeAt Go.RowKit
section
variable {H : Type} {enc : TypeId × Value -> H} {P : Program} {w : World} {base : Nat} {spare : Nat -> Bool} {held : Bool}
theorem Tj {Ok:DataW H->Prop} {t:TypeId} {fs:Array Field} {Q:List AV->Prop} {r:Go.Reach} {b0:Nat} {v:Value} {d:DataW H} {p:List MemPlace} (ho:cF Ok enc P w base spare held t Q) (ht:P.underlying t=some (.struct fs))
  (hval:Value.okWide P w r b0 t v) (hd:DataW.Trod enc P w base spare held t v d p) (hk:Ok d): ∃as,Q as/\ ∀ρ n,av ρ n (fun ad=>w.cell? ad) (.agg as) v:=by
 obtain ⟨cs,rfl,_⟩:=okWide_struct ht hval
 obtain ⟨fuel,hf⟩:=hd
 obtain ⟨as,h1,h2⟩:=ho _ _ _ hf hk
 refine ⟨as,h1,fun ρ n=> ?_⟩
 have h3:=h2 ρ n
 refine .agg as cs (by rw[h3.1];simp[Value.cells]) fun i x x' hx um=>h3.2 i x x' hx ?_
 simpa [Value.cells] using um
end
end
noncomputable section
open Go
inductive Un where
 |z
 |s (n:Un)
def un:Nat->Un
 |0=> .z
 |n+1=> .s (un n)
inductive Tx where
 |bad
 |op (k:aC) (xs:List fB) (d:Option Pos) (t:Tx)
 |gop (g:Pos) (w:Bool) (k:aC) (xs:List fB) (d:Option Pos) (t:Tx)
 |dr (t:Tx)
 |pr (k:aC) (xs:List fB) (d:Option Pos) (t:Tx)
 |RW (g:Pos) (w:Bool) (k:aC) (xs:List fB) (d:Option Pos) (t:Tx)
 |rd (b:List Bool) (k:aC) (xs:List fB) (d:Option Pos) (t:Tx)
 |RX (g:Pos) (w:Bool) (b:List Bool) (k:aC) (xs:List fB) (d:Option Pos) (t:Tx)
 |nw (k:aC) (xs:List fB) (d:Option Pos) (t:Tx)
 |gnw (g:Pos) (w:Bool) (k:aC) (xs:List fB) (d:Option Pos) (t:Tx)
 |ef (k:aC) (xs:List fB) (d:Option Pos) (t:Tx)
 |gef (g:Pos) (w:Bool) (k:aC) (xs:List fB) (d:Option Pos) (t:Tx)
 |Mu (x:fB) (a b:Tx)
 |jn (l:List Pos) (a b:Tx)
 |jmp (i:Un) (l:List Pos)
 |arg (l:List Pos) (t:Tx) (r:Tx)
 |lp (j:Un) (ins:List Pos)
 |agn (ins:List Pos)
 |out (i:Un) (l:List Pos)
 |res (rs:List NU)
def txO:List bD->Tx->Tx
 |[],t=>t
 |  o::os,t=>match o.guard with
    |none=> .op o.k o.xs o.dst (txO os t)
    |some (p,w)=> .gop p w o.k o.xs o.dst (txO os t)
def bitsOf (bE:Nat):List Nat->List Bool
 |[]=>[]
 |i::is=>bE.testBit i::bitsOf bE is
def UD:List (Nat×bD)->List Nat->Tx->Tx
 |[],_,t=>t
 |  (j,o)::os,is,t=>match o.cls,o.guard with
    | .pure,none=> .pr o.k o.xs o.dst (UD os (j::is) t)
    | .pure,some (p,w)=> .RW p w o.k o.xs o.dst (UD os (j::is) t)
    | .read,none=> .rd (bitsOf o.bE is) o.k o.xs o.dst (UD os (j::is) t)
    | .read,some (p,w)=> .RX p w (bitsOf o.bE is) o.k o.xs o.dst (UD os (j::is) t)
    | .new,none=> .nw o.k o.xs o.dst (UD os (j::is) t)
    | .new,some (p,w)=> .gnw p w o.k o.xs o.dst (UD os (j::is) t)
    | .aL,none=> .ef o.k o.xs o.dst (UD os (j::is) t)
    | .aL,some (p,w)=> .gef p w o.k o.xs o.dst (UD os (j::is) t)
def txA (K:lQ->Tx):List (Nat×List Pos)->Tx->Tx
 |[],t=>t
 |(e,l)::r,t=> .arg l (K (exOf e)) (txA K r t)
def tx:AC->Sh->Nat->(lQ->Nat->Tx)->Tx
 | .skip,_,d,K=>K .normal d
 | .region ops,_,d,K=>txO ops (K .normal d)
 | .draw ops,_,d,K=> .dr (UD ops [] (K .normal d))
 |  .seq a b,s,d,K=>match s with
    | .seq none s t=>tx a s d fun ex d=>match ex with
      | .normal=>tx b t d K
      | .exit i=>K (.exit i) d
      | .ret=>K .ret d
    | .seq (some l) s t=> .jn l (tx a s (d+1) fun ex d'=>match ex with
      | .normal=> .jmp (un (d' - d - 1)) l
      | .exit i=>K (.exit i) d'
      | .ret=>K .ret d') (tx b t d K)
    |_=> .bad
 |  .cond x a b,s,d,K=>match s with
    | .cond s t=> .Mu x (tx a s d K) (tx b t d K)
    |_=> .bad
 |  .block id a,s,d,K=>match s with
    | .block s=>tx a s d fun ex d=>match ex with
      | .normal=>K .normal d
      | .exit i=>match Nat.beq i id with
        |true=>K .normal d
        |false=>K (.exit i) d
      | .ret=>K .ret d
    |_=> .bad
 |  .loop _,s,d,K=>match s with
    | .loop j ins outs _=>txA (fun ex=>K ex d) outs (.lp (un j) ins)
    |_=> .bad
 | .exit id,_,d,K=>K (.exit id) d
 | .ret,_,d,K=>K .ret d
def idxOf:List (Nat×List Pos)->Nat->Nat
 |[],_=>0
 |  (i,_)::r,e=>match Nat.beq i e with
    |true=>0
    |false=>idxOf r e+1
def txF (A:cL) (s:Sh):Tx:=tx A.code s 0 fun ex _=>match ex with
 | .normal=> .res A.results
 | .ret=> .res A.results
 | .exit _=> .bad
def txL (x:AC×Sh):List Pos×Tx:=match x.2 with
 |  .loop _ ins outs s=>(ins,tx x.1 s 0 fun ex _=>match ex with
    | .normal=> .agn ins
    | .exit i=> .out (un (idxOf outs (i+2))) (Qz outs (i+2))
    | .ret=> .out (un (idxOf outs 1)) (Qz outs 1))
 |_=>([],.bad)
section
variable {R : Type}
abbrev KK (R:Type):=List AV->St->Option R
abbrev O2:=Option (AV×St)
abbrev Q2:=KK (AV×St)
def AI:Unit:=(fun _=>()) (@den AV)
def xP (p:Pos) (fr:Fr) (k:AV->Option R):Option R:=match fr.get p with
 |some v=>k v
 |none=>(fun _=>none) AI
def zu (p:Pos) (v:AV) (fr:Fr) (k:Fr->Option R):Option R:=(fun _=>k (fr.put (some v) p)) AI
def zw (d:Option Pos) (v:AV) (fr:Fr) (k:Fr->Option R):Option R:=match d with
 |some p=>zu p v fr k
 |none=>k fr
def EY (fr:Fr):List fB->(List AV->Option R)->Option R
 |[],k=>k []
 | .t p::xs,k=>xP p fr fun v=>EY fr xs fun vs=>k (v::vs)
 | .c v::xs,k=>EY fr xs fun vs=>k (v::vs)
def getLT:List Pos->Fr->(List AV->Option R)->Option R
 |[],_,k=>k []
 |p::ps,fr,k=>xP p fr fun v=>getLT ps fr fun vs=>k (v::vs)
def Hf:List Pos->List AV->Fr->(Fr->Option R)->Option R
 |[],vs,fr,k=>eT vs (k fr)
 |p::ps,vs,fr,k=>cQ vs fun v vs=>zu p v fr fun fr=>Hf ps vs fr k
def UE (p:Pos) (k:Pos->Option R):Option R:=(fun _=>k p.succ) AI
def aag:Pos->List AV->Fr->(Fr->Option R)->Option R
 |_,[],fr,k=>k fr
 |p,v::vs,fr,k=>zu p v fr fun fr=>UE p fun p=>aag p vs fr k
def kat:Un->List (KK R)->KK R
 | .z,k::_=>k
 | .s n,_::ks=>kat n ks
 |_,[]=>fun _ _=>none
def D4:List Bool->T AB->List RC->T AB
 |  b ::bs,h,r::rs=>match r with
    | .new id aE=>match b with
      |true=>(D4 bs h rs).put (some aE) id
      |false=>D4 bs h rs
    | .aL _ _=>h
    | .pure=>D4 bs h rs
 |_,h,_=>h
def D5 (k:aC) (xs:List AV) (v:AV):List (Pos×AB)->List Bool->List RC->Bool
 |  up,b::bs,r::rs=>match r with
    | .new id aE=>match b with
      |true=>D5 k xs v ((id,aE)::up) bs rs
      |false=>D5 k xs v up bs rs
    | .aL base _=>match b with
      |true=>true
      |false=>kL k xs v (jN up (D4 bs base rs))&&D5 k xs v up bs rs
    | .pure=>D5 k xs v up bs rs
 |_,_,_=>true
def VP (fr:Fr) (st:St):List NU->(List AV->Option R)->Option R
 |[],k=>k []
 | .tmp p::rs,k=>xP p fr fun v=>VP fr st rs fun vs=>k (v::vs)
 | .cell p n::rs,k=>xP p fr fun q=>ldr n q st fun v=>VP fr st rs fun vs=>k (v::vs)
def YZ (as:List (KK R)) (f:KK R) (k:List (KK R)->Option R):Option R:=(fun _=>k (as++[f])) AI
def pkR (vs:List AV) (st:St):Option (AV×St):=some (xg vs,st)
end
section
variable (c : ak) (F : Nat) (Ls : Un -> List Q2 -> Nat -> Q2) (ag : Q2) (ko : List Q2)
def evX (fr:Fr) (x:fB) (k:AV->Option (AV×St)):Option (AV×St):=match x with
 | .t p=>xP p fr k
 | .c v=>k v
def ev:Tx->List (KK (AV×St))->List (KK (AV×St))->Fr->St->List RC->T AB->Option (AV×St)
 | .bad,_,_,_,_,_,_=>none
 | .op k xs d t,ks,as,fr,st,rs,b=>EY fr xs fun vs=>aj c k vs st fun v st=>zw d v fr fun fr=>ev t ks as fr st rs b
 | .gop g w k xs d t,ks,as,fr,st,rs,b=>EY fr xs fun vs=>xP g fr fun g=>bB c g w k vs st fun v st=>zw d v fr fun fr=>ev t ks as fr st rs b
 | .dr t,ks,as,fr,st,_,_=>ev t ks as fr st [] st.heap
 | .pr k xs d t,ks,as,fr,st,rs,b=>EY fr xs fun vs=>fM k vs fun v=>zw d v fr fun fr=>ev t ks as fr st (.pure::rs) b
 | .RW g w k xs d t,ks,as,fr,st,rs,b=>EY fr xs fun vs=>xP g fr fun g=>RW g w k vs fun v=>zw d v fr fun fr=>ev t ks as fr st (.pure::rs) b
 | .rd bs k xs d t,ks,as,fr,st,rs,b=>EY fr xs fun vs=>jT k vs (D4 bs b rs) (fun v=>D5 k vs v [] bs rs) fun v=>zw d v fr fun fr=>ev t ks as fr st (.pure::rs) b
 | .RX g w bs k xs d t,ks,as,fr,st,rs,b=>EY fr xs fun vs=>xP g fr fun g=>RX g w k vs (D4 bs b rs) (fun v=>D5 k vs v [] bs rs) fun v=>zw d v fr fun fr=>ev t ks as fr st (.pure::rs) b
 | .nw k xs d t,ks,as,fr,st,rs,b=>EY fr xs fun vs=>Ut k vs st fun v aE=>zw d v fr fun fr=>ev t ks as fr (ai st aE) (.new st.next aE::rs) b
 | .gnw g w k xs d t,ks,as,fr,st,rs,b=>EY fr xs fun vs=>xP g fr fun g=>RY g w (Ut k vs st fun v aE=>zw d v fr fun fr=>ev t ks as fr (ai st aE) (.new st.next aE::rs) b) (zw d .undef fr fun fr=>ev t ks as fr st (.pure::rs) b)
 | .ef k xs d t,ks,as,fr,st,rs,b=>EY fr xs fun vs=>aj c k vs st fun v st'=>zw d v fr fun fr=>ev t ks as fr st' (.aL b st'.heap::rs) st'.heap
 | .gef g w k xs d t,ks,as,fr,st,rs,b=>EY fr xs fun vs=>xP g fr fun g=>RY g w (aj c k vs st fun v st'=>zw d v fr fun fr=>ev t ks as fr st' (.aL b st'.heap::rs) st'.heap) (zw d .undef fr fun fr=>ev t ks as fr st (.pure::rs) b)
 | .Mu x t u,ks,as,fr,st,rs,b=>evX fr x fun v=>Mu v (ev t ks as fr st rs b) (ev u ks as fr st rs b)
 | .jn l t u,ks,as,fr,st,rs,b=>ZV (fun k=>ev t (k::ks) as fr st rs b) (fun vs st=>Hf l vs .e fun fr=>ev u ks as fr st [] .e)
 | .jmp i l,ks,_,fr,st,_,_=>getLT l fr fun vs=>kat i ks vs st
 | .arg l t r,ks,as,fr,st,rs,b=>YZ as (fun os st=>Hf l os .e fun fr=>ev t ks [] fr st [] .e) fun as=>ev r ks as fr st rs b
 | .lp j ins,_,as,fr,st,_,_=>getLT ins fr fun vs=>Ls j as F vs st
 | .agn ins,_,_,fr,st,_,_=>getLT ins fr fun vs=>ag vs st
 | .out i l,_,_,fr,st,_,_=>getLT l fr fun vs=>kat i ko vs st
 | .res rs,_,_,fr,st,_,_=>VP fr st rs fun vs=>pkR vs st
def eo (p:List Pos×Tx) (vs:List AV) (st:St):Option (AV×St):=Hf p.1 vs .e fun fr=>ev c F Ls ag ko p.2 [] [] fr st [] .e
end
def aV {R:Type}:Un->List (KK R)->Nat->KK R:=fun _ _ _ _ _=>none
def eZ {R:Type}:KK R:=fun _ _=>none
def aW (c:ak) (F:Nat) (Ls:Un->List Q2->Nat->Q2) (t:Tx) (args:List AV) (st:St):O2:=aag .h args .e fun fr=>ev c F Ls eZ [] t [] [] fr st [] .e
def zx (Ls:Un->List Q2->Nat->Q2) (A:cL) (s:Sh):Env (AV×St):=fun j K=>Ls (un j) ((lpO (iI A s j).2).map fun o=>K o.1)
def sl:Sh:= .leaf
def sq (a b:Sh):Sh:= .seq none a b
def sj (l:List Nat) (a b:Sh):Sh:= .seq (some (l.map key)) a b
def sc (a b:Sh):Sh:= .cond a b
def sb (a:Sh):Sh:= .block a
def sp (j:Nat) (ins:List Nat) (outs:List (Nat×List Nat)) (a:Sh):Sh:= .loop j (ins.map key) (outs.map fun o=>(o.1,o.2.map key)) a
section
variable {R : Type} (l r : Fr) (v u : AV) (x : Option AV) (p : Pos) (fr : Fr) (k : AV -> Option R) (K : Fr -> Option R) (kp : Pos -> Option R)
theorem aah:xP .h (.n l (some v) r) k=k v:=rfl
theorem aai:xP (.o p) (.n l x r) k=xP p l k:=rfl
theorem aaj:xP (.i p) (.n l x r) k=xP p r k:=rfl
theorem VQ:zu .h v .e K=K (.n .e (some v) .e):=rfl
theorem VR:zu .h v (.n l x r) K=K (.n l (some v) r):=rfl
theorem VS:zu (.o p) v .e K=zu p v .e fun t=>K (.n t none .e):=rfl
theorem VT:zu (.o p) v (.n l x r) K=zu p v l fun t=>K (.n t x r):=rfl
theorem VU:zu (.i p) v .e K=zu p v .e fun t=>K (.n .e none t):=rfl
theorem VV:zu (.i p) v (.n l x r) K=zu p v r fun t=>K (.n l x t):=rfl
theorem aak:zw none v fr K=K fr:=rfl
theorem aal:zw (some p) v fr K=zu p v fr K:=rfl
theorem VW:UE .h kp=kp (.o .h):=rfl
theorem VX:UE (.o p) kp=kp (.i p):=rfl
theorem VY:UE (.i p) kp=UE p fun q=>kp (.o q):=rfl
theorem VZ (f:KK R) (k:List (KK R)->Option R):YZ [] f k=k [f]:=rfl
theorem V8 (a:KK R) (as:List (KK R)) (f:KK R) (k:List (KK R)->Option R):YZ (a::as) f k=YZ as f fun l=>k (a::l):=rfl
theorem adS (st:St):pkR [] st=some (.tuple [],st):=rfl
theorem adT (st:St):pkR [v] st=some (v,st):=rfl
theorem adU (vs:List AV) (st:St):pkR (v::u::vs) st=some (.tuple (v::u::vs),st):=rfl
theorem QG (c:ak) (F:Nat) (Ls:Un->List Q2->Nat->Q2) (ag:Q2) (ko:List Q2) (l:List Pos) (t:Tx) (vs:List AV) (st:St):eo c F Ls ag ko (l,t) vs st=Hf l vs .e fun fr=>ev c F Ls ag ko t [] [] fr st [] .e:=rfl
end
def AN {α:Type}:Option α->Bool
 |none=>true
 |some _=>false
theorem ajW {α:Type} {o:Option α} (h:AN o=true):o=none:=by cases o with|none=>rfl|some _=>cases h
theorem ajX {α:Type} [Inhabited α] {o:Option α} (h:AN o=false):o=some (o.getD default):=by cases o with|none=>cases h|some _=>rfl
def tA (G:T cL) (f:Nat):cL:=(G.get (key f)).getD default
theorem afi {O:dQ} {G:T cL} {F:Nat} {L:Env (AV×St)} {f:FuncId} {s:Sh} {args:List AV} {st:St} {r:AV×St} (hk:(AN (O f)&& !AN (G.get (key f)))=true)
  (hL: ∀x∈eW (tA G f).code s,BJ (run O G) F L x.1 x.2) {k:O2} (hd:Ii (run O G) F L (tA G f) s args st=k) (h:k=some r):run O G f args st=some (tidy st r):=by
 simp only[Bool.and_eq_true,Bool.not_eq_true'] at hk
 exact agU (ajW hk.1) (ajX hk.2) hL (hd.trans h)
theorem acV {O:dQ} {G:T cL} {F:Nat} {f:FuncId} {args:List AV} {st:St} {r:AV×St} (s:Sh) (hk:(AN (O f)&& !AN (G.get (key f))&&(eW (tA G f).code s).isEmpty)=true)
  {k:O2} (hd:Ii (run O G) F (YX []) (tA G f) s args st=k) (h:k=some r):run O G f args st=some (tidy st r):=by
 rw[Bool.and_eq_true,List.isEmpty_iff] at hk
 exact afi hk.1 (by rw[hk.2];intro x hx;cases hx) hd h
theorem acW {O:dQ} {G:T cL} {F:Nat} {f:FuncId} {args:List AV} {st:St} {r:AV×St} (Ls:Un->List Q2->Nat->Q2) (s:Sh) (n:Nat) (hk:(AN (O f)&& !AN (G.get (key f))&&Nat.beq (eW (tA G f).code s).length n)=true)
  (hL: ∀i,i<n->BJ (run O G) F (zx Ls (tA G f) s) (iI (tA G f) s i).1 (iI (tA G f) s i).2) {k:O2} (hd:Ii (run O G) F (zx Ls (tA G f) s) (tA G f) s args st=k) (h:k=some r):run O G f args st=some (tidy st r):=by
 rw[Bool.and_eq_true] at hk
 exact afi hk.1 (agV n hk.2 hL) hd h
theorem aiQ {O:dQ} {G:T cL}  {F:Nat} {f:FuncId} {args:List AV} {st:St} {r:AV×St} (Ls:Un->List Q2->Nat->Q2) (s:Sh) (hk:(AN (O f)&& !AN (G.get (key f))&&Nat.beq (eW (tA G f).code s).length 1)=true)
  (hs:(ZX (iI (tA G f) s 0).2&&Nat.beq (lpJ (iI (tA G f) s 0).2) 0)=true) (h0: ∀K' vs st,zx Ls (tA G f) s 0 K' 0 vs st=none)
  (h1: ∀K' n vs st,zx Ls (tA G f) s 0 K' (n+1) vs st=On (den (run O G) F (zx Ls (tA G f) s) (iI (tA G f) s 0).1 (lpB (iI (tA G f) s 0).2)) (lpI (iI (tA G f) s 0).2) (lpO (iI (tA G f) s 0).2) K' (zx Ls (tA G f) s 0 K' n) vs st)
  {k:O2} (hd:Ii (run O G) F (zx Ls (tA G f) s) (tA G f) s args st=k) (h:k=some r):run O G f args st=some (tidy st r):=
 acW Ls s 1 hk (fun i hi=>by obtain rfl:i=0:=by omega
                             exact eX 0 hs h0 h1) hd h
end
end Go.Ai
