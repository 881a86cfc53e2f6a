/- Functions of the program as plain functions over the evaluator's values, and data that a caller lays as such values. -/
import Derived.Test.YtehbdakjkjkekaaGreatDoorEvalD
import Derived.KernelRfl
import Derived.ChangeArms
import Derived.WalkKit
import Derived.OpenShut
import Derived.ProofKit
import Derived.Below
import Derived.Carry
import Derived.WideShapes
import Derived.ChangeSame
import Derived.ChangeMaps5
import Derived.ShutString
set_option linter.all false
set_option linter.unusedSectionVars false
set_option linter.deprecated false
section
namespace Go.Ai
open Go Go.RowKit
def ym (c c':ak):Prop:= ∀f args st r,c f args st=some r->c' f args st=some r
theorem ym.refl (c:ak):ym c c:=fun _ _ _ _ h=>h
theorem ym.trans {a b c:ak} (h:ym a b) (k:ym b c):ym a c:=fun _ _ _ _ e=>k _ _ _ _ (h _ _ _ _ e)
section
variable {c c' : ak}
theorem BQ (h:ym c c') {k:aB} {xs:List AV} {st:St} {r:AV×St} (e:bS c k xs st=some r):bS c' k xs st=some r:=by
 unfold bS at e ⊢
 cases hr:k.run (fun b=>st.heap.get b) st.next xs with
 |none=>simp[hr] at e
 |some x=>cases x with
  |val v=>simpa [hr] using e
  |aE v d s n=>simpa [hr] using e
  |call f args=>simp only[hr] at e ⊢; exact h _ _ _ _ e
theorem ET (h:ym c c'): ∀(os:List bE) (fr:Fr) (st:St) (r:Fr×St),iw c os fr st=some r->iw c' os fr st=some r
 |[],_,_,_,e=>e
 |o::os,fr,st,r,e=>by
  unfold iw at e ⊢
  cases hw:bI fr o.guard with
  |none=>simp[hw] at e
  |some b=>cases b with
   |false=>simp only[hw] at e ⊢; exact ET h _ _ _ _ e
   |    true=>
        simp only[hw] at e ⊢
        cases hx:dK fr o.xs with
        |none=>simp[hx] at e
        |some xs=>
         simp only[hx] at e ⊢
         cases hs:bS c o.k xs st with
         |none=>simp[hs] at e
         |some p=>simp only[hs] at e;simp only[BQ h hs];exact ET h _ _ _ _ e
theorem Gf (h:ym c c'): ∀(os:List (Nat×bE)) (recs:List Rec) (base:T AB) (fr:Fr) (st:St) (r:Fr×St),cH c os recs base fr st=some r->cH c' os recs base fr st=some r
 |[],_,_,_,_,_,e=>e
 |(j,   o)::os,recs,base,fr,st,r,e=>by
  have ih:=Gf h os
  unfold cH at e ⊢
  cases hw:bI fr o.guard with
  |none=>simp[hw] at e
  | some b=>cases b with
    |false=>simp only[hw] at e ⊢; exact ih _ _ _ _ _ e
    |   true=>
        simp only[hw] at e ⊢
        cases hx:dK fr o.xs with
        |none=>simp[hx] at e
        |some xs=>
         simp only[hx] at e ⊢
         cases hc:o.cls with
         |  aE=>
            simp only[hc] at e ⊢
            cases hs:bS c o.k xs st with
            |none=>simp[hs] at e
            |some p=>simp only[hs] at e;simp only[BQ h hs];exact ih _ _ _ _ _ e
         |  new=>
            simp only[hc] at e ⊢
            split at e<;>first|(cases e;done)|exact ih _ _ _ _ _ e
         |  pure=>
            simp only[hc] at e ⊢
            split at e<;>(try split at e)<;>(try split at e)<;>first|(cases e;done)|(simp only[*];exact ih _ _ _ _ _ e)|exact ih _ _ _ _ _ e
         |  read=>
            simp only[hc] at e ⊢
            split at e<;>(try split at e)<;>(try split at e)<;>first|(cases e;done)|(simp only[*];exact ih _ _ _ _ _ e)|exact ih _ _ _ _ _ e
theorem EU (h:ym c c'): ∀(n m:Nat),n<=m-> ∀(a:AC) (fr:Fr) (st:St) (r:lQ×Fr×St),exec c n a fr st=some r->exec c' m a fr st=some r
 |0,_,_,_,_,_,_,e=>by simp[exec] at e
 |n+1,0,hm,_,_,_,_,_=>by omega
 |n+    1,m+1,hm,a,fr,st,r,e=>by
  have ih:=EU h n m (by omega)
  cases a<;>simp only[exec,aQ] at e ⊢
  case skip=>exact e
  case exit=>exact e
  case ret=>exact e
  case region ops=>
   cases ho:iw c ops fr st with
   |none=>simp[ho] at e
   |some p=>simp only[ho] at e;simp only[ET h _ _ _ _ ho];exact e
  case draw ops=>
   cases ho:cH c ops [] st.heap fr st with
   |none=>simp[ho] at e
   |some p=>simp only[ho] at e;simp only[Gf h _ _ _ _ _ _ ho];exact e
  case seq a b=>
   cases ha:exec c n a fr st with
   |none=>simp[ha] at e
   |    some p=>
        obtain ⟨ex,fe,bu⟩:=p
        simp only[ha] at e;simp only[ih _ _ _ _ ha]
        cases ex<;>first|exact e|exact ih _ _ _ _ e
  case cond x a b=>
   split at e
   .    exact ih _ _ _ _ e
   .    exact ih _ _ _ _ e
   .    cases e
  case block id a=>
   cases ha:exec c n a fr st with
   |none=>simp[ha] at e
   |    some p=>
        obtain ⟨ex,fe,bu⟩:=p
        simp only[ha] at e;simp only[ih _ _ _ _ ha]
        cases ex<;>exact e
  case loop a=>
   cases ha:exec c n a fr st with
   |none=>simp[ha] at e
   |    some p=>
        obtain ⟨ex,fe,bu⟩:=p
        simp only[ha] at e;simp only[ih _ _ _ _ ha]
        cases ex<;>first|exact e|exact ih _ _ _ _ e
end
def Plain (v:AV):Prop:= ∀(ρ ρ':Pos->Loc) (n n':Nat) (C:Cells) (x:Value),ax ρ n C v x->ax ρ' n' C v x
theorem Plain.bool (b:Bool):Plain (.bool b):=fun _ _ _ _ _ _ h=>by cases h;exact .bool b
theorem Plain.int (k:IntKind) (i:Int):Plain (.int k i):=fun _ _ _ _ _ _ h=>by cases h;exact .int k i
theorem Plain.str (s:List Nat):Plain (.str s):=fun _ _ _ _ _ _ h=>by cases h with|str _ bs h=>exact .str s bs h
theorem Plain.bF:Plain .bF:=fun _ _ _ _ _ _ h=>by cases h;exact .bF
theorem Plain.ai:Plain .ai:=fun _ _ _ _ _ _ h=>by cases h;exact .ai
theorem Plain.gh:Plain .gh:=fun _ _ _ _ _ _ h=>by cases h;exact .gh
theorem Plain.av:Plain .av:=fun _ _ _ _ _ _ h=>by cases h;exact .av
theorem Plain.func (f:FuncId) {a b:List AV} (ha: ∀v∈a,Plain v) (hb: ∀v∈b,Plain v):Plain (.func f a b):=fun _ _ _ _ _ _ h=>by
 cases h with
 |func _ _ _ a' b' hx hy h1 h2=>exact .func f a b a' b' hx hy (fun i v x hv hx=>ha v (List.mem_of_getElem? hv) _ _ _ _ _ _ (h1 i v x hv hx)) (fun i v x hv hx=>hb v (List.mem_of_getElem? hv) _ _ _ _ _ _ (h2 i v x hv hx))
theorem Plain.tuple {l:List AV} (hl: ∀v∈l,Plain v):Plain (.tuple l):=fun _ _ _ _ _ _ h=>by
 cases h with
 |tuple _ cs hx h1=>exact .tuple l cs hx fun i v x hv hx=>hl v (List.mem_of_getElem? hv) _ _ _ _ _ _ (h1 i v x hv hx)
theorem Plain.agg {l:List AV} (hl: ∀v∈l,Plain v):Plain (.agg l):=fun _ _ _ _ _ _ h=>by
 cases h with
 |agg _ cs hx h1=>exact .agg l cs hx fun i v x hv hx=>hl v (List.mem_of_getElem? hv) _ _ _ _ _ _ (h1 i v x hv hx)
theorem Plain.fl {xs:List (List AV)} {es:Nat} (hl: ∀cs∈xs,∀v∈cs,Plain v):Plain (.fl xs es):=fun _ _ _ _ _ _ h=>by
 cases h with
 |fl _ _ aH a cell h1 h2 h3 h4 h5=>exact .fl xs es aH a cell h1 h2 h3 h4 fun i j cs v hi hj=>hl cs (List.mem_of_getElem? hi) v (List.mem_of_getElem? hj) _ _ _ _ _ _ (h5 i j cs v hi hj)
def dz (st st':St):Prop:= ∀b x,st.heap.get b=some x->st'.heap.get b=some x
theorem dz.refl (st:St):dz st st:=fun _ _ h=>h
theorem dz.trans {a b c:St} (h:dz a b) (k:dz b c):dz a c:=fun _ _ e=>k _ _ (h _ _ e)
theorem ax.down {ρ ρ':Pos->Loc} {n n':Nat} {C:Cells} {v:AV} {x:Value} (h:ax ρ' n' C v x): ∀{y:Value},ax ρ n C v y->(∀b:Pos,b.toNat<n->ρ' b=ρ b)->ax ρ n C v x:=by
 induction h with
 |bool b=>exact fun h _=> .bool b
 |int k i=>exact fun h _=> .int k i
 |str s bs h=>exact fun _ _=> .str s bs h
 |bF=>exact fun _ _=> .bF
 |ptr b off h=>
  intro y h aL
  cases h with
  |ptr _ _ h'=>rw[aL b h'];exact .ptr b off h'
 |fp xs i j es aA base cell hl hc hv ih=>
  intro y h aL
  cases h with
  |fp _ _ _ es' uY Qv afF OO p7 zL=>exact .fp xs i j es aA base cell hl hc fun i j cs v hi hj=>ih i j cs v hi hj (zL i j cs v hi hj) aL
 |ai=>exact fun _ _=> .ai
 |slice  b off len cap es aH a hl hc ha hk=>
  intro y h aL
  cases h with
  |slice _ _ _ _ _ Qp a' OO p7 ha' nH=>
   refine .slice b off len cap es aH a hl hc (fun h0=> ?_) nH
   obtain ⟨h1,h2,h3⟩:=ha h0
   have hb:b.toNat<n:=by
        cases cap with
        |none=>exact nH rfl
        |some c=>
         have e1:=hc c rfl
         have e2:=p7 c rfl
         exact (ha' (by rw[<-e2,e1];exact h0)).1
   rw[aL b hb] at h2 h3;exact ⟨hb,h2,h3⟩
 |fl xs es aH a cell hl hs fE hc hv ih=>
  intro y h aL
  cases h with
  |fl _ _ Qp a' afF OO jA hes' p7 zL=>exact .fl xs es aH a cell hl hs fE hc fun i j cs v hi hj=>ih i j cs v hi hj (zL i j cs v hi hj) aL
 |gh=>exact fun _ _=> .gh
 |map b h=>
  intro y h aL
  cases h with
  |map _ h'=>rw[aL b h'];exact .map b h'
 |func f x y x' y' hx hy h1 h2 RI RJ=>
  intro z h aL
  cases h with
  |func _ _ _ a' b' kx ky k1 k2=>
   refine .func f x y x' y' hx hy (fun i v x hv qb=> ?_) (fun i v x hv qb=> ?_)
   .    have hi:i<a'.size:=by rw[<-kx];exact (List.getElem?_eq_some_iff.1 hv).1
        exact RI i v x hv qb (k1 i v _ hv (Array.getElem?_eq_getElem hi)) aL
   .    have hi:i<b'.size:=by rw[<-ky];exact (List.getElem?_eq_some_iff.1 hv).1
        exact RJ i v x hv qb (k2 i v _ hv (Array.getElem?_eq_getElem hi)) aL
 |av=>exact fun _ _=> .av
 |lp=>exact fun _ _=> .lp
 |iface t v x _ ih=>
  intro y h aL
  cases h with
  |iface _ _ x' h'=>exact .iface t v x (ih h' aL)
 |agg l cs hx h1 ih=>
  intro y h aL
  cases h with
  |agg _ mT kx k1=>
   refine .agg l cs hx fun i v x hv qb=> ?_
   have hi:i<mT.size:=by rw[<-kx];exact (List.getElem?_eq_some_iff.1 hv).1
   exact ih i v x hv qb (k1 i v _ hv (Array.getElem?_eq_getElem hi)) aL
 |tuple l cs hx h1 ih=>
  intro y h aL
  cases h with
  |tuple _ mT kx k1=>
   refine .tuple l cs hx fun i v x hv qb=> ?_
   have hi:i<mT.size:=by rw[<-kx];exact (List.getElem?_eq_some_iff.1 hv).1
   exact ih i v x hv qb (k1 i v _ hv (Array.getElem?_eq_getElem hi)) aL
end Go.Ai
end
section
noncomputable section
namespace Go.Ai
open Go Go.RowKit
def tidy (st:St) (r:AV×St):AV×St:=open Classical in if Plain r.1/\dz st r.2 then (r.1,st) else r
theorem SA {ρ:Pos->Loc} {C:Cells} {st:St} {w w':World} {r:AV×St} {x:Value} (hW:bn ρ C st w) (h:iX ρ C st w r.1 r.2 x w'):
   iX ρ C st w (tidy st r).1 (tidy st r).2 x w':=by
 unfold tidy
 split
 . rename_i hp
   obtain ⟨ρ',hv,aL,hn,di,hE⟩:=h
   refine ⟨ρ,hp.1 _ _ _ _ _ _ hv,fun _ _=>rfl,Nat.le_refl _,⟨fun b y hb=> ?_,hW.inj,fun a u ha=>⟨(di.cj a u ha).1,(hW.cj a u ha).2⟩,di.whole⟩,⟨hE.os,hE.tape,hE.output,hE.size,hE.block,fun b y hb=> .inl ⟨b,y,hb,rfl⟩⟩⟩
   obtain ⟨g1,g2,g3⟩:=hW.live b y hb
   obtain ⟨_,_,k3⟩:=di.live b y (hp.2 b y hb)
   refine ⟨g1,Nat.lt_of_lt_of_le g2 hE.size,?_⟩
   rw[aL b g1] at k3
   cases y with
   |cells cs fz=>
    obtain ⟨c,e,fr,q1,q2,q3,q4,q5⟩:=k3
    obtain ⟨c0,e0,bN,p1,p2,p3,p4,p5⟩:=g3
    refine ⟨c,e,fr,q1,q2,q3,⟨q4.1,fun i v x hv hx=> ?_⟩,q5⟩
    obtain ⟨y0,hy0,u7⟩:=p4.get hv
    exact (q4.2 i v x hv hx).down u7 aL
   |map es clock=>
    obtain ⟨es',q1,q2,q3⟩:=k3
    obtain ⟨es0,p1,p2,p3⟩:=g3
    refine ⟨es',q1,q2,fun i e e' he kJ=> ?_⟩
    obtain ⟨a1,a2,a3⟩:=q3 i e e' he kJ
    have hi:i<es0.size:=by rw[<-p2];exact (List.getElem?_eq_some_iff.1 he).1
    obtain ⟨b1,b2,_⟩:=p3 i e _ he (Array.getElem?_eq_getElem hi)
    exact ⟨a1.down b1 aL,a2.down b2 aL,a3⟩
   |iK s pos=>exact k3
   |typed t cs=>
    obtain ⟨c,fr,q1,q2,q3,q4,q5⟩:=k3
    obtain ⟨c0,bN,p1,p2,p3,p4,p5⟩:=g3
    refine ⟨c,fr,q1,q2,q3,⟨q4.1,fun i v x hv hx=> ?_⟩,q5⟩
    obtain ⟨y0,hy0,u7⟩:=p4.get hv
    exact (q4.2 i v x hv hx).down u7 aL
 . exact h
theorem SB {st:St} {r:AV×St} (h:st.next.toNat<=r.2.next.toNat):st.next.toNat<=(tidy st r).2.next.toNat:=by
 unfold tidy;split
 . exact Nat.le_refl _
 . exact h
def oL (call:ak) (m:Nat) (F:aN) (args:List AV) (st:St):Option (AV×St):=
 match Nat.beq args.length F.nparams with
 |  true=>match exec call m F.code (params 0 args .e) st with
    |some (.normal,fr,st')=>match eV (fun b=>st'.heap.get b) fr F.results with
     |some vs=>some (rD vs,st')
     |none=>none
    |some (.ret,fr,st')=>match eV (fun b=>st'.heap.get b) fr F.results with
     |some vs=>some (rD vs,st')
     |none=>none
    |_=>none
 |false=>none
def oM (O:eE) (G:T aN) (m:Nat):Nat->ak
 |0=>fun _ _ _=>none
 |  d+1=>fun f args st=>match O f with
    |some s=>s args st
    |none=>match G.get (key f) with
     |some F=>(oL (oM O G m d) m F args st).map (tidy st)
     |none=>none
section
variable {P : Program} {tt : TT} {C : Cells}
theorem Qw (hT:bZ P tt) {G:T aN} (hG:Hz P tt G) {call:ak} (fN:jE P C call) (rR:Dw P tt C call) (m:Nat) {f:FuncId} {F:aN} (hF:G.get (key f)=some F)
   {ρ:Pos->Loc} {st:St} {w:World} {args:List AV} {v:AV} {st':St} {bl:List Value} (h:oL call m F args st=some (v,st')) (hW:bn ρ C st w) (qi:aq ρ st.next.toNat C args bl):
   Reaches P (iX ρ C st w v st') ((callFunc f bl.toArray).run P w):=by
 unfold oL at h
 split at h<;>first|(cases h;done)|skip
 rename_i hlen
 have hlen:=Nat.eq_of_beq_eq_true hlen
 obtain ⟨fn,gM,lT,wG⟩:=hG _ _ hF
 rw[gX,Nat.add_sub_cancel] at gM
 unfold aj at wG
 split at wG<;>first|(cases wG;done)|skip
 rename_i c hb
 split at wG<;>first|(cases wG;done)|skip
 rename_i ac rs Sm OZ hle
 simp only[Option.some.injEq] at wG;subst wG
 simp only at h hlen
 have hle:=Nat.le_of_ble_eq_true hle
 have bH:(callFunc f bl.toArray).run P w= .ok (.enter f bl.toArray) w:=by
   have L5: ¬fn.name= "runtime.NumGoroutine" :=by simpa using lT
   simp[callFunc,gM,L5,hb]
 rw[bH]
 simp only[Reaches]
 refine calls_of_wp gM hb ?_
 have dM:bl.length<=fn.ntmps:=by rw[<-qi.1,hlen];exact hle
 have hS:BA fn.ntmps ρ C (params 0 args .e) st { tmps:=bl.toArray++Array.replicate (fn.ntmps - bl.toArray.size) undef,defers:=[] } w:=by
   refine ⟨hW,?_,?_,rfl⟩
   . refine BC args bl 0 .e qi (fun j x hx=> ?_) (fun p v hp=>by rw[T.cG] at hp;cases hp)
     have hj:j<bl.length:=(List.getElem?_eq_some_iff.1 hx).1
     rw[Nat.zero_add,Array.getElem?_append_left (by simpa using hj)]
     simpa using hx
   . simp;omega
 split at h<;>first|(cases h;done)|skip
 . rename_i fe bu h1
   split at h<;>first|(cases h;done)|skip
   rename_i vs lS
   simp only[Option.some.injEq,Prod.mk.injEq] at h
   obtain ⟨rfl,rfl⟩:=h
   refine (rS hT fN rR m).1 c ac _ fe st bu .normal ρ _ w _ Sm h1 hS fun a' w' hp=> ?_
   obtain ⟨gF,oY,k1,k2,k3⟩:=hp
   obtain ⟨y,Fk,Fl⟩:=qq hT oY.W oY.F OZ lS
   exact ⟨oY.defers,y,Fk,gF,Fl,k1,k2,oY.W,k3⟩
 . rename_i fe bu h1
   split at h<;>first|(cases h;done)|skip
   rename_i vs lS
   simp only[Option.some.injEq,Prod.mk.injEq] at h
   obtain ⟨rfl,rfl⟩:=h
   refine (rS hT fN rR m).1 c ac _ fe st bu .ret ρ _ w _ Sm h1 hS fun a' w' hp=> ?_
   obtain ⟨gF,oY,k1,k2,k3⟩:=hp
   obtain ⟨y,Fk,Fl⟩:=qq hT oY.W oY.F OZ lS
   exact ⟨oY.defers,y,Fk,gF,Fl,k1,k2,oY.W,k3⟩
theorem SC {call:ak} (hm:jS call) {m:Nat} {F:aN} {args:List AV} {st:St} {v:AV} {st':St} (h:oL call m F args st=some (v,st')):st.next.toNat<=st'.next.toNat:=by
 unfold oL at h
 split at h<;>first|(cases h;done)|skip
 split at h<;>first|(cases h;done)|skip
 all_goals
  rename_i h1
  split at h<;>first|(cases h;done)|skip
  simp only[Option.some.injEq,Prod.mk.injEq] at h
  obtain ⟨rfl,rfl⟩:=h
  exact yd hm _ _ _ _ _ _ _ h1
theorem Ih {O:eE} {G:T aN} (hO:ji O) (m:Nat): ∀d,jS (oM O G m d)
 |0=>fun f args st v st' h=>by simp[oM] at h
 |d +1=>fun f args st v st' h=>by
  unfold oM at h
  split at h
  . rename_i s hs;exact hO _ _ hs _ _ _ _ h
  . split at h<;>first|(cases h;done)|skip
    simp only[Option.map_eq_some_iff] at h
    obtain ⟨r,hr,he⟩:=h
    have:=SC (Ih hO m d) (v:=r.1) (st':=r.2) hr
    have:=SB this
    rw[he] at this;exact this
theorem FE (hm:P.follows .mixedOrders=true) (hT:bZ P tt) {O:eE} {G:T aN} (hO:nS P C O) (FD:ji O) (hG:Hz P tt G) (m:Nat): ∀d,jE P C (oM O G m d)
 |0=>fun ρ st w f args v st' bl h=>by simp[oM] at h
 |d +1=>by
  intro ρ st w f args v st' bl h hW qi
  have ih:=FE hm hT hO FD hG m d
  unfold oM at h
  split at h
  . rename_i s hs
    exact hO f s hs ρ st w args v st' bl h hW qi
  . split at h<;>first|(cases h;done)|skip
    rename_i F hF
    simp only[Option.map_eq_some_iff] at h
    obtain ⟨r,hr,he⟩:=h
    refine Reaches.mono (fun x w' hp=> ?_) (Qw hT hG ih (H7 hm hT ih (Ih FD m d)) m hF (v:=r.1) (st':=r.2) hr hW qi)
    have:=SA hW hp
    rw[he] at this;exact this
end
theorem O9 {c c':ak} (h:ym c c') {n m:Nat} (hn:n<=m) {F:aN} {args:List AV} {st:St} {r:AV×St} (e:oL c n F args st=some r):oL c' m F args st=some r:=by
 unfold oL at e ⊢
 split at e<;>first|(cases e;done)|skip
 split at e<;>first|(cases e;done)|skip
 all_goals
  rename_i h1
  simp only[EU h n m hn _ _ _ _ h1]
  exact e
theorem Gg (O:eE) (G:T aN) {n m:Nat} (hn:n<=m): ∀d d',d<=d'->ym (oM O G n d) (oM O G m d')
 |0,_,_=>fun _ _ _ _ e=>by simp[oM] at e
 |_+1,0,h=>by omega
 |d +1,d'+1,h=>fun f args st r e=>by
  have ih:=Gg O G hn d d' (by omega)
  unfold oM at e ⊢
  split at e
  . exact e
  . split at e<;>first|(cases e;done)|skip
    simp only[Option.map_eq_some_iff] at e ⊢
    obtain ⟨q,hq,he⟩:=e
    exact ⟨q,O9 ih hn hq,he⟩
def cn (O:eE) (G:T aN) (n:Nat):ak:=oM O G n n
theorem BR (O:eE) (G:T aN) {n m:Nat} (h:n<=m):ym (cn O G n) (cn O G m):=Gg O G h n m h
def run (O:eE) (G:T aN):ak:=fun f args st=>open Classical in
 if h: ∃(r:AV×St) (n:Nat),cn O G n f args st=some r then some h.choose else none
variable {O : eE} {G : T aN}
theorem SD {f:FuncId} {args:List AV} {st:St} {r:AV×St} {n:Nat} (h:cn O G n f args st=some r):run O G f args st=some r:=by
 unfold run
 have hx: ∃(r:AV×St) (n:Nat),cn O G n f args st=some r:=⟨r,n,h⟩
 rw[dif_pos hx]
 obtain ⟨m,hm⟩:=hx.choose_spec
 have h1:=BR O G (Nat.le_max_left n m) f args st _ h
 have h2:=BR O G (Nat.le_max_right n m) f args st _ hm
 rw[h1] at h2
 exact h2.symm
theorem Mp {f:FuncId} {args:List AV} {st:St} {r:AV×St} (h:run O G f args st=some r): ∃n,cn O G n f args st=some r:=by
 unfold run at h
 split at h
 . rename_i hx
   simp only[Option.some.injEq] at h
   rw[<-h];exact hx.choose_spec
 . cases h
theorem Ii {k:aB} {xs:List AV} {st:St} {r:AV×St} (e:bS (run O G) k xs st=some r): ∃n,bS (cn O G n) k xs st=some r:=by
 unfold bS at e
 cases hr:k.run (fun b=>st.heap.get b) st.next xs with
 |none=>simp[hr] at e
 |some x=>cases x with
  |val v=>exact ⟨0,by simpa [bS,hr] using e⟩
  |aE v d s n=>exact ⟨0,by simpa [bS,hr] using e⟩
  |call f args=>
   simp only[hr] at e
   obtain ⟨n,hn⟩:=Mp e
   exact ⟨n,by simpa [bS,hr] using hn⟩
theorem DE: ∀(os:List bE) (fr:Fr) (st:St) (r:Fr×St),iw (run O G) os fr st=some r-> ∃n,iw (cn O G n) os fr st=some r
 |[],_,_,_,e=>⟨0,e⟩
 |o::os,fr,st,r,e=>by
  unfold iw at e
  cases hw:bI fr o.guard with
  |none=>simp[hw] at e
  |some b=>cases b with
   |    false=>
        simp only[hw] at e
        obtain ⟨n,hn⟩:=DE os _ _ _ e
        exact ⟨n,by unfold iw;simp only[hw];exact hn⟩
   |    true=>
        simp only[hw] at e
        cases hx:dK fr o.xs with
        |none=>simp[hx] at e
        |some xs=>
         simp only[hx] at e
         cases hs:bS (run O G) o.k xs st with
         |none=>simp[hs] at e
         |some p=>
          simp only[hs] at e
          obtain ⟨n,hn⟩:=DE os _ _ _ e
          obtain ⟨m,hm⟩:=Ii hs
          refine ⟨max n m,?_⟩
          unfold iw
          simp only[hw,hx,BQ (BR O G (Nat.le_max_right n m)) hm]
          exact ET (BR O G (Nat.le_max_left n m)) _ _ _ _ hn
theorem Ij: ∀(os:List (Nat×bE)) (recs:List Rec) (base:T AB) (fr:Fr) (st:St) (r:Fr×St),cH (run O G) os recs base fr st=some r-> ∃n,cH (cn O G n) os recs base fr st=some r
 |[],_,_,_,_,_,e=>⟨0,e⟩
 |(j,   o)::os,recs,base,fr,st,r,e=>by
  have ih:=Ij os
  unfold cH at e
  cases hw:bI fr o.guard with
  |none=>simp[hw] at e
  | some b=>cases b with
    |   false=>
        simp only[hw] at e
        obtain ⟨n,hn⟩:=ih _ _ _ _ _ e
        exact ⟨n,by unfold cH;simp only[hw];exact hn⟩
    |   true=>
        simp only[hw] at e
        cases hx:dK fr o.xs with
        |none=>simp[hx] at e
        |some xs=>
         simp only[hx] at e
         cases hc:o.cls with
         |aE=>
          simp only[hc] at e
          cases hs:bS (run O G) o.k xs st with
          |none=>simp[hs] at e
          | some p=>
            simp only[hs] at e
            obtain ⟨n,hn⟩:=ih _ _ _ _ _ e
            obtain ⟨m,hm⟩:=Ii hs
            refine ⟨max n m,?_⟩
            unfold cH
            simp only[hw,hx,hc,BQ (BR O G (Nat.le_max_right n m)) hm]
            exact Gf (BR O G (Nat.le_max_left n m)) _ _ _ _ _ _ hn
         |new=>
          simp only[hc] at e
          split at e<;>first|(cases e;done)|skip
          obtain ⟨n,hn⟩:=ih _ _ _ _ _ e
          refine ⟨n,?_⟩
          unfold cH
          simp only[*]
         |pure=>
          simp only[hc] at e
          split at e<;>(try split at e)<;>(try split at e)<;>first|(cases e;done)|skip
          all_goals
            obtain ⟨n,hn⟩:=ih _ _ _ _ _ e
            refine ⟨n,?_⟩
            unfold cH
            simp only[*]
         |read=>
          simp only[hc] at e
          split at e<;>(try split at e)<;>(try split at e)<;>first|(cases e;done)|skip
          all_goals
            obtain ⟨n,hn⟩:=ih _ _ _ _ _ e
            refine ⟨n,?_⟩
            unfold cH
            simp only[*]
theorem Kf: ∀(n:Nat) (a:AC) (fr:Fr) (st:St) (r:lQ×Fr×St),exec (run O G) n a fr st=some r-> ∃m,exec (cn O G m) n a fr st=some r
 |0,_,_,_,_,e=>by simp[exec] at e
 |n+    1,a,fr,st,r,e=>by
  have ih:=Kf n
  have up: ∀{m m':Nat} {a:AC} {fr:Fr} {st:St} {r:lQ×Fr×St},m<=m'->exec (cn O G m) n a fr st=some r->exec (cn O G m') n a fr st=some r:=
   fun h e=>EU (BR O G h) _ _ (Nat.le_refl _) _ _ _ _ e
  cases a<;>simp only[exec,aQ] at e
  case skip=>exact ⟨0,e⟩
  case exit=>exact ⟨0,e⟩
  case ret=>exact ⟨0,e⟩
  case region ops=>
   cases ho:iw (run O G) ops fr st with
   |none=>simp[ho] at e
   |    some p=>
        obtain ⟨m,hm⟩:=DE _ _ _ _ ho
        exact ⟨m,by simp only[exec,aQ,hm];simpa only[ho] using e⟩
  case draw ops=>
   cases ho:cH (run O G) ops [] st.heap fr st with
   |none=>simp[ho] at e
   |    some p=>
        obtain ⟨m,hm⟩:=Ij _ _ _ _ _ _ ho
        exact ⟨m,by simp only[exec,aQ,hm];simpa only[ho] using e⟩
  case seq a b=>
   cases ha:exec (run O G) n a fr st with
   |none=>simp[ha] at e
   |    some p=>
        obtain ⟨ex,fe,bu⟩:=p
        simp only[ha] at e
        obtain ⟨m,hm⟩:=ih _ _ _ _ ha
        cases ex with
        |normal=>
         obtain ⟨m',RN⟩:=ih _ _ _ _ e
         exact ⟨max m m',by simp only[exec,aQ,up (Nat.le_max_left m m') hm];exact up (Nat.le_max_right m m') RN⟩
        |exit i=>exact ⟨m,by simp only[exec,aQ,hm];exact e⟩
        |ret=>exact ⟨m,by simp only[exec,aQ,hm];exact e⟩
  case cond x a b=>
   split at e
   .    rename_i hx
        obtain ⟨m,hm⟩:=ih _ _ _ _ e
        exact ⟨m,by simp only[exec,aQ,hx];exact hm⟩
   .    rename_i hx
        obtain ⟨m,hm⟩:=ih _ _ _ _ e
        exact ⟨m,by simp only[exec,aQ,hx];exact hm⟩
   .    cases e
  case block id a=>
   cases ha:exec (run O G) n a fr st with
   |none=>simp[ha] at e
   |    some p=>
        obtain ⟨ex,fe,bu⟩:=p
        simp only[ha] at e
        obtain ⟨m,hm⟩:=ih _ _ _ _ ha
        exact ⟨m,by simp only[exec,aQ,hm];exact e⟩
  case loop a=>
   cases ha:exec (run O G) n a fr st with
   |none=>simp[ha] at e
   |    some p=>
        obtain ⟨ex,fe,bu⟩:=p
        simp only[ha] at e
        obtain ⟨m,hm⟩:=ih _ _ _ _ ha
        cases ex with
        |normal=>
         obtain ⟨m',RN⟩:=ih _ _ _ _ e
         exact ⟨max m m',by simp only[exec,aQ,up (Nat.le_max_left m m') hm];exact up (Nat.le_max_right m m') RN⟩
        |exit i=>exact ⟨m,by simp only[exec,aQ,hm];exact e⟩
        |ret=>exact ⟨m,by simp only[exec,aQ,hm];exact e⟩
theorem Vl {f:FuncId} {F:aN} {args:List AV} {st:St} {r:AV×St} {n:Nat} (ho:O f=none) (hF:G.get (key f)=some F) (h:oL (run O G) n F args st=some r):
   run O G f args st=some (tidy st r):=by
 unfold oL at h
 split at h<;>first|(cases h;done)|skip
 rename_i hlen
 have fin: ∀{ex fr st'},exec (run O G) n F.code (params 0 args .e) st=some (ex,fr,st')->(∀m k,exec (cn O G m) k F.code (params 0 args .e) st=some (ex,fr,st')->oL (cn O G m) k F args st=some r)->
    run O G f args st=some (tidy st r):=fun h1 h2=>by
   obtain ⟨m,hm⟩:=Kf _ _ _ _ _ h1
   refine SD (n:=max n m+1) ?_
   unfold cn oM
   simp only[ho,hF]
   have:=h2 m n hm
   have h3:=O9 (Gg O G (n:=m) (m:=max n m+1) (by have:=Nat.le_max_right n m;omega) m (max n m) (Nat.le_max_right n m)) (m:=max n m+1) (by have:=Nat.le_max_left n m;omega) this
   rw[h3];rfl
 split at h<;>first|(cases h;done)|skip
 . rename_i h1
   exact fin h1 fun m k hk=>by unfold oL;simp only[hlen,hk];exact h
 . rename_i h1
   exact fin h1 fun m k hk=>by unfold oL;simp only[hlen,hk];exact h
theorem rW {f:FuncId} {s:List AV->St->Option (AV×St)} (ho:O f=some s) {args:List AV} {st:St} {r:AV×St} (h:s args st=some r):run O G f args st=some r:=
 SD (n:=1) (by unfold cn oM;simp only[ho];exact h)
theorem JI {P:Program} {tt:TT} {C:Cells} (hm:P.follows .mixedOrders=true) (hT:bZ P tt) (hO:nS P C O) (FD:ji O) (hG:Hz P tt G):jE P C (run O G):=by
 intro ρ st w f args v st' bl h hW qi
 obtain ⟨n,hn⟩:=Mp h
 exact FE hm hT hO FD hG n n ρ st w f args v st' bl hn hW qi
end Go.Ai
end
section
noncomputable section
namespace Go.Ai
open Go
inductive Sh where
 |leaf
 |seq (jn:Option (List Pos)) (a b:Sh)
 |cond (a b:Sh)
 |block (a:Sh)
 |loop (j:Nat) (ins:List Pos) (outs:List (Nat×List Pos)) (a:Sh)
variable {R : Type}
abbrev XX (R:Type):=Nat->List AV->St->Option R
abbrev Env (R:Type):=Nat->XX R->Nat->List AV->St->Option R
def au (l:List AV) (k:AV->List AV->Option R):Option R:=match l with
 |v::vs=>k v vs
 |[]=>none
def bW (l:List AV) (k:Option R):Option R:=match l with
 |[]=>k
 |_::_=>none
def ag (c:ak) (k:aB) (xs:List AV) (st:St) (K:AV->St->Option R):Option R:=match bS c k xs st with
 |some (v,st')=>K v st'
 |none=>none
def cS (c:ak) (g:AV) (want:Bool) (k:aB) (xs:List AV) (st:St) (K:AV->St->Option R):Option R:=match g with
 |  .bool b=>match b==want with
    |true=>ag c k xs st K
    |false=>K .undef st
 | .tuple _=>K .undef st
 |_=>none
def aJ (k:aB) (xs:List AV) (K:AV->Option R):Option R:=match k.run (fun _=>none) .h xs with
 |some (.val v)=>K v
 |_=>none
def SE (g:AV) (want:Bool) (k:aB) (xs:List AV) (K:AV->Option R):Option R:=match g with
 |  .bool b=>match b==want with
    |true=>aJ k xs K
    |false=>K .undef
 | .tuple _=>K .undef
 |_=>none
def ei (k:aB) (xs:List AV) (h:T AB) (ok:AV->Bool) (K:AV->Option R):Option R:=match k.run (fun _=>none) .h xs with
 |some (.val v)=>K v
 |  _=>match k.run (fun b=>h.get b) .h xs with
    |some (.val v)=>match ok v with
     |true=>K v
     |false=>none
    |_=>none
def SG (g:AV) (want:Bool) (k:aB) (xs:List AV) (h:T AB) (ok:AV->Bool) (K:AV->Option R):Option R:=match g with
 |  .bool b=>match b==want with
    |true=>ei k xs h ok K
    |false=>K .undef
 | .tuple _=>K .undef
 |_=>none
def CQ (k:aB) (xs:List AV) (st:St) (K:AV->AB->Option R):Option R:=match k.run (fun _=>none) st.next xs with
 |some (.aE v none none (some aA))=>K v aA
 |_=>none
def Mq (g:AV) (want:Bool) (A B:Option R):Option R:=match g with
 |  .bool b=>match b==want with
    |true=>A
    |false=>B
 | .tuple _=>B
 |_=>none
def b9 (v:AV) (A B:Option R):Option R:=match v with
 | .bool true=>A
 | .bool false=>B
 |_=>none
def cI (f:(List AV->St->Option R)->Option R) (k:List AV->St->Option R):Option R:=f k
def Gh (c:ak):List bE->Fr->St->(Fr->St->Option R)->Option R
 |[],fr,st,K=>K fr st
 |  o::os,fr,st,K=>match dK fr o.xs with
    |some xs=>match o.guard with
     |none=>ag c o.k xs st fun v st=>Gh c os (cJ fr o.dst v) st K
     |  some (p,want)=>match fr.get p with
        |some g=>cS c g want o.k xs st fun v st=>Gh c os (cJ fr o.dst v) st K
        |none=>none
    |none=>none
def kV (c:ak ):List (Nat×bE)->List Rec->T AB->Fr->St->(Fr->St->Option R)->Option R
 |[],_,_,fr,st,K=>K fr st
 |  (j, o):: os,recs,base,fr,st,K=>match dK fr o.xs with
    | some xs=>match o.cls with
      | .pure=>match o.guard with
        |none=>aJ o.k xs fun v=>kV c os ({ idx:=j,o:=o,v:=v,c:= .pure,nx:=st.next }::recs) base (cJ fr o.dst v) st K
        |some (p,want)=>match fr.get p with
         |some g=>SE g want o.k xs fun v=>kV c os ({ idx:=j,o:=o,v:=v,c:= .pure,nx:=st.next }::recs) base (cJ fr o.dst v) st K
         |none=>none
      | .read=>match o.guard with
        |none=>ei o.k xs (snap o.bG base recs) (fun v=>iV o.bG o.k xs v [] recs) fun v=>kV c os ({ idx:=j,o:=o,v:=v,c:= .pure,nx:=st.next }::recs) base (cJ fr o.dst v) st K
        |some (p,want)=>match fr.get p with
         |some g=>SG g want o.k xs (snap o.bG base recs) (fun v=>iV o.bG o.k xs v [] recs) fun v=>kV c os ({ idx:=j,o:=o,v:=v,c:= .pure,nx:=st.next }::recs) base (cJ fr o.dst v) st K
         |none=>none
      | .new=>match o.guard with
        |none=>CQ o.k xs st fun v aA=>kV c os ({ idx:=j,o:=o,v:=v,c:= .new st.next aA,nx:=st.next.succ }::recs) base (cJ fr o.dst v) { heap:=st.heap.put (some aA) st.next,next:=st.next.succ } K
        |some (p,want)=>match fr.get p with
         |some g=>Mq g want (CQ o.k xs st fun v aA=>kV c os ({ idx:=j,o:=o,v:=v,c:= .new st.next aA,nx:=st.next.succ }::recs) base (cJ fr o.dst v) { heap:=st.heap.put (some aA) st.next,next:=st.next.succ } K)
             (kV c os ({ idx:=j,o:=o,v:= .undef,c:= .pure,nx:=st.next }::recs) base (cJ fr o.dst .undef) st K)
         |none=>none
      | .aE=>match o.guard with
        |none=>ag c o.k xs st fun v st'=>kV c os ({ idx:=j,o:=o,v:=v,c:= .aE base st'.heap,nx:=st'.next }::recs) st'.heap (cJ fr o.dst v) st' K
        |some (p,want)=>match fr.get p with
         |some g=>Mq g want (ag c o.k xs st fun v st'=>kV c os ({ idx:=j,o:=o,v:=v,c:= .aE base st'.heap,nx:=st'.next }::recs) st'.heap (cJ fr o.dst v) st' K)
             (kV c os ({ idx:=j,o:=o,v:= .undef,c:= .pure,nx:=st.next }::recs) base (cJ fr o.dst .undef) st K)
         |none=>none
    |none=>none
def DF:List Pos->Fr->(List AV->Option R)->Option R
 |[],_,k=>k []
 |  p::ps,fr,k=>match fr.get p with
    |some v=>DF ps fr fun vs=>k (v::vs)
    |none=>none
def DG:List Pos->List AV->Fr->(Fr->Option R)->Option R
 |[],vs,fr,k=>bW vs (k fr)
 |p::ps,vs,fr,k=>au vs fun v vs=>DG ps vs (fr.put (some v) p) k
def Lg:List (Nat×List Pos)->Nat->List Pos
 |[],_=>[]
 |  (i,l)::r,e=>match Nat.beq i e with
    |true=>l
    |false=>Lg r e
def exOf:Nat->lQ
 |0=> .normal
 |1=> .ret
 |n+2=> .exit n
def Mr (D:Fr->St->(lQ->Fr->St->Option R)->Option R) (ins:List Pos) (outs:List (Nat×List Pos)) (K':XX R) (again:List AV->St->Option R) (vs:List AV) (st:St):Option R:=
 DG ins vs .e fun fr=>D fr st fun ex fr st=>match ex with
    | .normal=>DF ins fr fun vs=>again vs st
    | .exit i=>DF (Lg outs (i+2)) fr fun os=>K' (i+2) os st
    | .ret=>DF (Lg outs 1) fr fun os=>K' 1 os st
def knk (outs:List (Nat×List Pos)) (K:lQ->Fr->St->Option R):XX R:=fun e os st=>DG (Lg outs e) os .e fun fr=>K (exOf e) fr st
def den (c:ak) (F:Nat) (L:Env R):AC->Sh->Fr->St->(lQ->Fr->St->Option R)->Option R
 | .skip,_,fr,st,K=>K .normal fr st
 | .region ops,_,fr,st,K=>Gh c ops fr st (K .normal)
 | .draw ops,_,fr,st,K=>kV c ops [] st.heap fr st (K .normal)
 |  .seq a b,s,fr,st,K=>match s with
    | .seq none s t=>den c F L a s fr st fun ex fr st=>match ex with
      | .normal=>den c F L b t fr st K
      | .exit i=>K (.exit i) fr st
      | .ret=>K .ret fr st
    | .seq (some l) s t=>cI (fun K'=>den c F L a s fr st fun ex fr st=>match ex with
      | .normal=>DF l fr fun vs=>K' vs st
      | .exit i=>K (.exit i) fr st
      | .ret=>K .ret fr st) (fun vs st=>DG l vs .e fun fr=>den c F L b t fr st K)
    |_=>none
 |  .cond x a b,s,fr,st,K=>match s with
    | .cond s t=>match um fr x with
      |some v=>b9 v (den c F L a s fr st K) (den c F L b t fr st K)
      |none=>none
    |_=>none
 |  .block id a,s,fr,st,K=>match s with
    | .block s=>den c F L a s fr st fun ex fr st=>match ex with
      | .normal=>K .normal fr st
      | .exit i=>match Nat.beq i id with
        |true=>K .normal fr st
        |false=>K (.exit i) fr st
      | .ret=>K .ret fr st
    |_=>none
 |  .loop _,s,fr,st,K=>match s with
    | .loop j ins outs _=>DF ins fr fun vs=>L j (knk outs K) F vs st
    |_=>none
 | .exit id,_,fr,st,K=>K (.exit id) fr st
 | .ret,_,fr,st,K=>K .ret fr st
def dP (c:ak) (F:Nat) (L:Env R) (a:AC):Sh->Prop
 | .loop j ins outs s=> ∀K',(∀vs st,L j K' 0 vs st=none)/\ ∀n vs st,L j K' (n+1) vs st=Mr (den c F L a s) ins outs K' (L j K' n) vs st
 |_=>False
def pU (c:ak) (F:Nat) (L:Env R):AC->Sh->Prop
 |  .seq a b,s=>match s with
    | .seq _ s t=>pU c F L a s/\pU c F L b t
    |_=>True
 |  .cond _ a b,s=>match s with
    | .cond s t=>pU c F L a s/\pU c F L b t
    |_=>True
 |  .block _ a,s=>match s with
    | .block s=>pU c F L a s
    |_=>True
 |  .loop a,s=>match s with
    | .loop j ins outs s=>dP c F L a (.loop j ins outs s)/\pU c F L a s
    |_=>True
 |_,_=>True
def cK:AC->Sh->List (AC×Sh)
 |  .seq a b,s=>match s with
    | .seq _ s t=>cK a s++cK b t
    |_=>[]
 |  .cond _ a b,s=>match s with
    | .cond s t=>cK a s++cK b t
    |_=>[]
 |  .block _ a,s=>match s with
    | .block s=>cK a s
    |_=>[]
 |  .loop a,s=>match s with
    | .loop j ins outs s=>(a,.loop j ins outs s)::cK a s
    |_=>[]
 |_,_=>[]
theorem tJ {c:ak} {F:Nat} {L:Env R}: ∀(a:AC) (s:Sh),(∀x∈cK a s,dP c F L x.1 x.2)->pU c F L a s
 | .skip,_,_=>trivial
 | .region _,_,_=>trivial
 | .draw _,_,_=>trivial
 | .exit _,_,_=>trivial
 | .ret,_,_=>trivial
 | .seq a b,s,h=>by
   cases s<;>simp only[pU]<;>simp only[cK,List.mem_append] at h
   exact ⟨tJ a _ fun x hx=>h x (.inl hx),tJ b _ fun x hx=>h x (.inr hx)⟩
 | .cond x a b,s,h=>by
   cases s<;>simp only[pU]<;>simp only[cK,List.mem_append] at h
   exact ⟨tJ a _ fun x hx=>h x (.inl hx),tJ b _ fun x hx=>h x (.inr hx)⟩
 | .block id a,s,h=>by
   cases s<;>simp only[pU]<;>simp only[cK] at h
   exact tJ a _ h
 | .loop a,s,h=>by
   cases s<;>simp only[pU]<;>simp only[cK,List.mem_cons] at h
   exact ⟨h _ (.inl rfl),tJ a _ fun x hx=>h x (.inr hx)⟩
def Sub (a b:Fr):Prop:= ∀p v,a.get p=some v->b.get p=some v
theorem Sub.refl (a:Fr):Sub a a:=fun _ _ h=>h
theorem Sub.put {a b:Fr} (h:Sub a b) (p:Pos) (v:AV):Sub (a.put (some v) p) (b.put (some v) p):=fun q u hq=>by
 by_cases e:p=q
 . subst e;rw[T.dZ] at hq ⊢; exact hq
 . rw[T.bq _ e] at hq ⊢; exact h _ _ hq
theorem Sub.dst {a b:Fr} (h:Sub a b) (d:Option Pos) (v:AV):Sub (cJ a d v) (cJ b d v):=by
 cases d with
 |none=>exact h
 |some p=>exact h.put p v
theorem Sub.ev {a b:Fr} (h:Sub a b) {x:jy} {v:AV} (e:um a x=some v):um b x=some v:=by
 cases x with
 |t p=>exact h _ _ e
 |c v=>exact e
theorem Sub.evs {a b:Fr} (h:Sub a b): ∀{xs:List jy} {vs:List AV},dK a xs=some vs->dK b xs=some vs
 |[],_,e=>e
 |x::xs,vs,e=>by
  unfold dK at e ⊢
  cases hx:um a x with
  |none=>simp[hx] at e
  |some v=>
   simp only[hx] at e
   cases hs:dK a xs with
   |none=>simp[hs] at e
   |some us=>simp only[hs] at e;simp only[h.ev hx,h.evs hs];exact e
theorem BS {c:ak}: ∀(os:List bE) {fr dQ:Fr} {st:St} {K:Fr->St->Option R} {r:R},Sub fr dQ->Gh c os fr st K=some r->
  ∃aU cF st',iw c os dQ st=some (cF,st')/\Sub aU cF/\K aU st'=some r
 |[],fr,dQ,st,K,r,hs,h=>⟨fr,dQ,st,rfl,hs,h⟩
 |o::os,fr,dQ,st,K,r,hs,h=>by
  unfold Gh at h
  cases hx:dK fr o.xs with
  |none=>simp[hx] at h
  |some xs=>
   simp only[hx] at h
   have hstp: ∀{st},ag c o.k xs st (fun v st=>Gh c os (cJ fr o.dst v) st K)=some r->bI dQ o.guard=some true-> ∃aU cF st',iw c (o::os) dQ st=some (cF,st')/\Sub aU cF/\K aU st'=some r:=fun {st} h hw=>by
        unfold ag at h
        cases iR:bS c o.k xs st with
        |none=>simp[iR] at h
        |some p=>
         simp only[iR] at h
         obtain ⟨aU,cF,st',h1,h2⟩:=BS os (hs.dst o.dst p.1) h
         exact ⟨aU,cF,st',by unfold iw;simp only[hw,hs.evs hx,iR];exact h1,h2⟩
   have zS: ∀{st},Gh c os (cJ fr o.dst .undef) st K=some r->bI dQ o.guard=some false-> ∃aU cF st',iw c (o::os) dQ st=some (cF,st')/\Sub aU cF/\K aU st'=some r:=fun {st} h hw=>by
        obtain ⟨aU,cF,st',h1,h2⟩:=BS os (hs.dst o.dst .undef) h
        exact ⟨aU,cF,st',by unfold iw;simp only[hw];exact h1,h2⟩
   cases hg:o.guard with
   |none=>simp only[hg] at h;exact hstp h (by rw[hg];rfl)
   |    some pw=>
        obtain ⟨p,want⟩:=pw
        simp only[hg] at h
        cases hp:fr.get p with
        |none=>simp[hp] at h
        |some g=>
         simp only[hp] at h
         have rX:=hs _ _ hp
         unfold cS at h
         split at h
         .  rename_i b
            split at h
            . rename_i hb;exact hstp h (by rw[hg];simp[bI,rX,hb])
            . rename_i hb;exact zS h (by rw[hg];simp[bI,rX,hb])
         .  exact zS h (by rw[hg];simp[bI,rX])
         .  cases h
theorem FF {c : ak}: ∀(os:List (Nat×bE)) (recs:List Rec) (base:T AB) {fr dQ:Fr} {st:St} {K:Fr->St->Option R} {r:R},Sub fr dQ->kV c os recs base fr st K=some r->
  ∃aU cF st',cH c os recs base dQ st=some (cF,st')/\Sub aU cF/\K aU st'=some r
 |[],_,_,fr,dQ,st,K,r,hs,h=>⟨fr,dQ,st,rfl,hs,h⟩
 |(j,   o)::  os, recs,base,fr,dQ,st,K,r,hs,h=>by
  have ih:=fun recs base {fr dQ:Fr} {st:St} {K:Fr->St->Option R} {r:R}=>FF (c:=c) os recs base (fr:=fr) (dQ:=dQ) (st:=st) (K:=K) (r:=r)
  unfold kV at h
  cases hx:dK fr o.xs with
  |none=>simp[hx] at h
  | some xs   =>
    simp only[hx] at h
    have Mf:=hs.evs hx
    have zS: ∀{st},kV c os ({ idx:=j,o:=o,v:= .undef,c:= .pure,nx:=st.next }::recs) base (cJ fr o.dst .undef) st K=some r->bI dQ o.guard=some false-> ∃aU cF st',cH c ((j,o)::os) recs base dQ st=some (cF,st')/\Sub aU cF/\K aU st'=some r:=fun {st} h hw=>by
        obtain ⟨aU,cF,st',h1,h2⟩:=ih _ _ (hs.dst o.dst .undef) h
        exact ⟨aU,cF,st',by unfold cH;simp only[hw];exact h1,h2⟩
    cases hc:o.cls with
    |   pure=>
        simp only[hc] at h
        have DH:aJ o.k xs (fun v=>kV c os ({ idx:=j,o:=o,v:=v,c:= .pure,nx:=st.next }::recs) base (cJ fr o.dst v) st K)=some r->bI dQ o.guard=some true-> ∃aU cF st',cH c ((j,o)::os) recs base dQ st=some (cF,st')/\Sub aU cF/\K aU st'=some r:=fun h hw=>by
         unfold aJ at h
         split at h
         .  rename_i v hv
            obtain ⟨aU,cF,st',h1,h2⟩:=ih _ _ (hs.dst o.dst v) h
            exact ⟨aU,cF,st',by unfold cH;simp only[hw,Mf,hc,hv];exact h1,h2⟩
         .  cases h
        cases hg:o.guard with
        |none=>simp only[hg] at h;exact DH h (by rw[hg];rfl)
        |some pw=>
         obtain ⟨p,want⟩:=pw
         simp only[hg] at h
         cases hp:fr.get p with
         |none=>simp[hp] at h
         |  some g=>
            simp only[hp] at h
            have rX:=hs _ _ hp
            unfold SE at h
            split at h
            . split at h
              . rename_i hb;exact DH h (by rw[hg];simp[bI,rX,hb])
              . rename_i hb;exact zS h (by rw[hg];simp[bI,rX,hb])
            . exact zS h (by rw[hg];simp[bI,rX])
            . cases h
    |   read=>
        simp only[hc] at h
        have DH : ei o.k xs (snap o.bG base recs) (fun v=>iV o.bG o.k xs v [] recs) (fun v=>kV c os ({ idx:=j,o:=o,v:=v,c:= .pure,nx:=st.next }::recs) base (cJ fr o.dst v) st K)=some r->bI dQ o.guard=some true-> ∃aU cF st',cH c ((j,o)::os) recs base dQ st=some (cF,st')/\Sub aU cF/\K aU st'=some r:=fun h hw=>by
         unfold ei at h
         split at h
         .  rename_i v hv
            obtain ⟨aU,cF,st',h1,h2⟩:=ih _ _ (hs.dst o.dst v) h
            exact ⟨aU,cF,st',by unfold cH;simp only[hw,Mf,hc,hv];exact h1,h2⟩
         .  rename_i jz
            split at h
            . rename_i v hv
              split at h
              . rename_i eD
                obtain ⟨aU,cF,st',h1,h2⟩:=ih _ _ (hs.dst o.dst v) h
                refine ⟨aU,cF,st',?_,h2⟩
                unfold cH
                simp only[hw,Mf,hc]
                cases hr:o.k.run (fun _=>none) .h xs with
                |none=>simp only[hv,eD];exact h1
                | some x=>cases x with
                  |val u=>exact absurd hr (jz u)
                  |aE v d e n=>simp only[hv,eD];exact h1
                  |call f xs=>simp only[hv,eD];exact h1
              . cases h
            . cases h
        cases hg:o.guard with
        |none=>simp only[hg] at h;exact DH h (by rw[hg];rfl)
        |some pw=>
         obtain ⟨p,want⟩:=pw
         simp only[hg] at h
         cases hp:fr.get p with
         |none=>simp[hp] at h
         |  some g=>
            simp only[hp] at h
            have rX:=hs _ _ hp
            unfold SG at h
            split at h
            . split at h
              . rename_i hb;exact DH h (by rw[hg];simp[bI,rX,hb])
              . rename_i hb;exact zS h (by rw[hg];simp[bI,rX,hb])
            . exact zS h (by rw[hg];simp[bI,rX])
            . cases h
    |   new =>
        simp only[hc] at h
        have DH:CQ o.k xs st (fun v aA=>kV c os ({ idx:=j,o:=o,v:=v,c:= .new st.next aA,nx:=st.next.succ }::recs) base (cJ fr o.dst v) { heap:=st.heap.put (some aA) st.next,next:=st.next.succ } K)=some r->bI dQ o.guard=some true-> ∃aU cF st',cH c ((j,o)::os) recs base dQ st=some (cF,st')/\Sub aU cF/\K aU st'=some r:=fun h hw=>by
         unfold CQ at h
         split at h
         .  rename_i v aA hv
            obtain ⟨aU,cF,st',h1,h2⟩:=ih _ _ (hs.dst o.dst v) h
            exact ⟨aU,cF,st',by unfold cH;simp only[hw,Mf,hc,hv];exact h1,h2⟩
         .  cases h
        cases hg:o.guard with
        |none=>simp only[hg] at h;exact DH h (by rw[hg];rfl)
        |some pw=>
         obtain ⟨p,want⟩:=pw
         simp only[hg] at h
         cases hp:fr.get p with
         |none=>simp[hp] at h
         |  some g=>
            simp only[hp] at h
            have rX:=hs _ _ hp
            unfold Mq at h
            split at h
            . split at h
              . rename_i hb;exact DH h (by rw[hg];simp[bI,rX,hb])
              . rename_i hb;exact zS h (by rw[hg];simp[bI,rX,hb])
            . exact zS h (by rw[hg];simp[bI,rX])
            . cases h
    |   aE=>
        simp only[hc] at h
        have DH:ag c o.k xs st (fun v st'=>kV c os ({ idx:=j,o:=o,v:=v,c:= .aE base st'.heap,nx:=st'.next }::recs) st'.heap (cJ fr o.dst v) st' K)=some r->bI dQ o.guard=some true-> ∃aU cF st',cH c ((j,o)::os) recs base dQ st=some (cF,st')/\Sub aU cF/\K aU st'=some r:=fun h hw=>by
         unfold ag at h
         cases iR:bS c o.k xs st with
         |none=>simp[iR] at h
         |  some p=>
            simp only[iR] at h
            obtain ⟨aU,cF,st',h1,h2⟩:=ih _ _ (hs.dst o.dst p.1) h
            exact ⟨aU,cF,st',by unfold cH;simp only[hw,Mf,hc,iR];exact h1,h2⟩
        cases hg:o.guard with
        |none=>simp only[hg] at h;exact DH h (by rw[hg];rfl)
        |some pw=>
         obtain ⟨p,want⟩:=pw
         simp only[hg] at h
         cases hp:fr.get p with
         |none=>simp[hp] at h
         |  some g=>
            simp only[hp] at h
            have rX:=hs _ _ hp
            unfold Mq at h
            split at h
            . split at h
              . rename_i hb;exact DH h (by rw[hg];simp[bI,rX,hb])
              . rename_i hb;exact zS h (by rw[hg];simp[bI,rX,hb])
            . exact zS h (by rw[hg];simp[bI,rX])
            . cases h
def Has:List Pos->List AV->Fr->Prop
 |[],[],_=>True
 |p::ps,v::vs,fr=>fr.get p=some v/\Has ps vs fr
 |_,_,_=>False
theorem Has.sub {a b:Fr} (hs:Sub a b): ∀{ps:List Pos} {vs:List AV},Has ps vs a->Has ps vs b
 |[],[],_=>trivial
 |[],_::_,h=>h
 |_::_,[],h=>h
 |_::_,_::_,h=>⟨hs _ _ h.1,Has.sub hs h.2⟩
theorem qY: ∀{ps:List Pos} {fr:Fr} {k:List AV->Option R} {r:R},DF ps fr k=some r-> ∃vs,Has ps vs fr/\k vs=some r
 |[],_,_,_,h=>⟨[],trivial,h⟩
 |p::ps,fr,k,r,h=>by
  unfold DF at h
  cases hp:fr.get p with
  |none=>simp[hp] at h
  |some v=>
   simp only[hp] at h
   obtain ⟨vs,h1,h2⟩:=qY h
   exact ⟨v::vs,⟨hp,h1⟩,h2⟩
theorem uy: ∀{ps:List Pos} {vs:List AV} {fr dQ:Fr} {k:Fr->Option R} {r:R},DG ps vs fr k=some r->Has ps vs dQ->Sub fr dQ-> ∃aU,Sub aU dQ/\k aU=some r
 |[],vs,fr,dQ,k,r,h,_,hs=>by
  unfold DG bW at h
  split at h
  . exact ⟨fr,hs,h⟩
  . cases h
 |p::ps,[],fr,dQ,k,r,h,hh,hs=>by simp[DG,au] at h
 |p::ps,v::vs,fr,dQ,k,r,h,hh,hs=>by
  unfold DG au at h
  refine uy h hh.2 fun q u hq=> ?_
  by_cases e:p=q
  . subst e;rw[T.dZ] at hq;cases hq;exact hh.1
  . rw[T.bq _ e] at hq;exact hs _ _ hq
theorem vU {c:ak} {n m:Nat} (h:n<=m) {a:AC} {fr:Fr} {st:St} {r:lQ×Fr×St} (e:exec c n a fr st=some r):exec c m a fr st=some r:=EU (ym.refl c) n m h _ _ _ _ e
theorem lU {c:ak} {F:Nat} {L:Env R}: ∀(a:AC) (s:Sh),pU c F L a s-> ∀{fr dQ:Fr} {st:St} {K:lQ->Fr->St->Option R} {r:R},Sub fr dQ->den c F L a s fr st K=some r->
   ∃n ex aU cF st',exec c n a dQ st=some (ex,cF,st')/\Sub aU cF/\K ex aU st'=some r
 | .skip,s,_,fr,dQ,st,K,r,hs,h=>⟨1,.normal,fr,dQ,st,rfl,hs,by simpa [den] using h⟩
 | .exit id,s,_,fr,dQ,st,K,r,hs,h=>⟨1,.exit id,fr,dQ,st,rfl,hs,by simpa [den] using h⟩
 | .ret,s,_,fr,dQ,st,K,r,hs,h=>⟨1,.ret,fr,dQ,st,rfl,hs,by simpa [den] using h⟩
 | .region ops,s,_,fr,dQ,st,K,r,hs,h=>by
   simp only[den] at h
   obtain ⟨aU,cF,st',h1,h2,h3⟩:=BS ops hs h
   exact ⟨1,.normal,aU,cF,st',by simp only[exec,aQ,h1],h2,h3⟩
 | .draw ops,s,_,fr,dQ,st,K,r,hs,h=>by
   simp only[den] at h
   obtain ⟨aU,cF,st',h1,h2,h3⟩:=FF ops _ _ hs h
   exact ⟨1,.normal,aU,cF,st',by simp only[exec,aQ,h1],h2,h3⟩
 | .seq a b,s,eD,fr,dQ,st,K,r,hs,h=>by
   cases s<;>simp only[den] at h<;>first|(cases h;done)|skip
   rename_i jn s t
   simp only[pU] at eD
   cases jn with
   |none=>
    simp only at h
    obtain ⟨n,ex,fe,oH,bu,h1,h2,h3⟩:=lU a s eD.1 hs h
    cases ex with
    |   normal=>
        obtain ⟨m,ex,CN,Ms,u6,k1,k2,k3⟩:=lU b t eD.2 h2 h3
        exact ⟨max n m+1,ex,CN,Ms,u6,by simp only[exec,aQ,vU (Nat.le_max_left n m) h1];exact vU (Nat.le_max_right n m) k1,k2,k3⟩
    |exit i=>exact ⟨n+1,.exit i,fe,oH,bu,by simp only[exec,aQ,h1],h2,h3⟩
    |ret=>exact ⟨n+1,.ret,fe,oH,bu,by simp only[exec,aQ,h1],h2,h3⟩
   |some l=>
    simp only[cI] at h
    obtain ⟨n,ex,fe,oH,bu,h1,h2,h3⟩:=lU a s eD.1 hs h
    cases ex with
    |   normal=>
        obtain ⟨vs,g1,g2⟩:=qY h3
        obtain ⟨aU,g3,g4⟩:=uy g2 (Has.sub h2 g1) (fun p v hp=>by rw[T.cG] at hp;cases hp)
        obtain ⟨m,ex,CN,Ms,u6,k1,k2,k3⟩:=lU b t eD.2 g3 g4
        exact ⟨max n m+1,ex,CN,Ms,u6,by simp only[exec,aQ,vU (Nat.le_max_left n m) h1];exact vU (Nat.le_max_right n m) k1,k2,k3⟩
    |exit i=>exact ⟨n+1,.exit i,fe,oH,bu,by simp only[exec,aQ,h1],h2,h3⟩
    |ret=>exact ⟨n+1,.ret,fe,oH,bu,by simp only[exec,aQ,h1],h2,h3⟩
 | .cond x a b,s,eD,fr,dQ,st,K,r,hs,h=>by
   cases s<;>simp only[den] at h<;>first|(cases h;done)|skip
   simp only[pU] at eD
   cases hx:um fr x with
   |none=>simp[hx] at h
   |some v=>
    simp only[hx] at h
    unfold b9 at h
    split at h
    .   obtain ⟨n,ex,fe,oH,bu,h1,h2,h3⟩:=lU a _ eD.1 hs h
        exact ⟨n+1,ex,fe,oH,bu,by simp only[exec,aQ,hs.ev hx];exact h1,h2,h3⟩
    .   obtain ⟨n,ex,fe,oH,bu,h1,h2,h3⟩:=lU b _ eD.2 hs h
        exact ⟨n+1,ex,fe,oH,bu,by simp only[exec,aQ,hs.ev hx];exact h1,h2,h3⟩
    .   cases h
 | .block id a,s,eD,fr,dQ,st,K,r,hs,h=>by
   cases s<;>simp only[den] at h<;>first|(cases h;done)|skip
   simp only[pU] at eD
   obtain ⟨n,ex,fe,oH,bu,h1,h2,h3⟩:=lU a _ eD hs h
   cases ex with
   |normal=>exact ⟨n+1,.normal,fe,oH,bu,by simp only[exec,aQ,h1],h2,h3⟩
   |ret=>exact ⟨n+1,.ret,fe,oH,bu,by simp only[exec,aQ,h1],h2,h3⟩
   |exit i=>
    simp only at h3
    cases hb:Nat.beq i id with
    |true=>simp only[hb] at h3;exact ⟨n+1,.normal,fe,oH,bu,by simp only[exec,aQ,h1,hb],h2,h3⟩
    |false=>simp only[hb] at h3;exact ⟨n+1,.exit i,fe,oH,bu,by simp only[exec,aQ,h1,hb],h2,h3⟩
 | .loop a,s,eD,fr,dQ,st,K,r,hs,h=>by
   cases s<;>simp only[den] at h<;>first|(cases h;done)|skip
   rename_i j ins outs s
   simp only[pU,dP] at eD
   obtain ⟨afG,eD⟩:=eD
   obtain ⟨vs,g1,g2⟩:=qY h
   obtain ⟨hz,hsu⟩:=afG (knk outs K)
   have main: ∀(n:Nat) (vs:List AV) (st:St) (dQ:Fr),Has ins vs dQ->L j (knk outs K) n vs st=some r->
        ∃m ex aU cF st',exec c m (.loop a) dQ st=some (ex,cF,st')/\Sub aU cF/\K ex aU st'=some r:=by
    intro n
    induction n with
    |zero=>intro vs st dQ _ h;rw[hz] at h;cases h
    |   succ n ihn=>
        intro vs st dQ hh h
        rw[hsu] at h
        unfold Mr at h
        obtain ⟨bN,q1,q2⟩:=uy h hh (fun p v hp=>by rw[T.cG] at hp;cases hp)
        obtain ⟨m,ex,fe,oH,bu,h1,h2,h3⟩:=lU a s eD q1 q2
        cases ex with
        |normal=>
         obtain ⟨us,p1,p2⟩:=qY h3
         obtain ⟨m',ex,CN,Ms,u6,k1,k2,k3⟩:=ihn us bu oH (Has.sub h2 p1) p2
         exact ⟨max m m'+1,ex,CN,Ms,u6,by simp only[exec,aQ,vU (Nat.le_max_left m m') h1];exact vU (Nat.le_max_right m m') k1,k2,k3⟩
        |exit i=>
         obtain ⟨os,p1,p2⟩:=qY h3
         obtain ⟨CN,p3,p4⟩:=uy p2 (Has.sub h2 p1) (fun p v hp=>by rw[T.cG] at hp;cases hp)
         exact ⟨m+1,.exit i,CN,oH,bu,by simp only[exec,aQ,h1],p3,p4⟩
        |ret=>
         obtain ⟨os,p1,p2⟩:=qY h3
         obtain ⟨CN,p3,p4⟩:=uy p2 (Has.sub h2 p1) (fun p v hp=>by rw[T.cG] at hp;cases hp)
         exact ⟨m+1,.ret,CN,oH,bu,by simp only[exec,aQ,h1],p3,p4⟩
   exact main F vs st dQ (Has.sub hs g1) g2
def Gi:(H:Pos->Option AB)->Fr->List G9->(List AV->Option R)->Option R
 |_,_,[],k=>k []
 |  H,fr,.tmp p::rs,k=>match fr.get p with
    |some v=>Gi H fr rs fun vs=>k (v::vs)
    |none=>none
 |  H,fr,.cell p n::rs,k=>match fr.get p with
    |some q=>match (aB.load n).run H .h [q] with
     |some (.val v)=>Gi H fr rs fun vs=>k (v::vs)
     |_=>none
    |none=>none
def yo (n:Option Nat) (q:AV) (st:St) (K:AV->Option R):Option R:=match (aB.load n).run (fun b=>st.heap.get b) .h [q] with
 |some (.val v)=>K v
 |_=>none
theorem yp {H:Pos->Option AB} {fr dQ:Fr} (hs:Sub fr dQ): ∀{rs:List G9} {k:List AV->Option R} {r:R},Gi H fr rs k=some r-> ∃vs,eV H dQ rs=some vs/\k vs=some r
 |[],k,r,h=>⟨[],rfl,h⟩
 | .tmp p::rs,k,r,h=>by
   unfold Gi at h
   cases hp:fr.get p with
   |none=>simp[hp] at h
   |some v=>
    simp only[hp] at h
    obtain ⟨vs,h1,h2⟩:=yp hs h
    exact ⟨v::vs,by unfold eV;simp only[hs _ _ hp,h1],h2⟩
 | .cell p n::rs,k,r,h=>by
   unfold Gi at h
   cases hp:fr.get p with
   |none=>simp[hp] at h
   |some q=>
    simp only[hp] at h
    split at h
    .   rename_i v hv
        obtain ⟨vs,h1,h2⟩:=yp hs h
        exact ⟨v::vs,by unfold eV;simp only[hs _ _ hp,hv,h1],h2⟩
    .   cases h
def qJ (c:ak) (F:Nat) (L:Env (AV×St)) (A:aN) (s:Sh) (args:List AV) (st:St):Option (AV×St):=
 match Nat.beq args.length A.nparams with
 |  true=>den c F L A.code s (params 0 args .e) st fun ex fr st=>match ex with
    | .normal=>Gi (fun b=>st.heap.get b) fr A.results fun vs=>some (rD vs,st)
    | .ret=>Gi (fun b=>st.heap.get b) fr A.results fun vs=>some (rD vs,st)
    | .exit _=>none
 |false=>none
theorem Mt {O:eE} {G:T aN} {F:Nat} {L:Env (AV×St)} {f:FuncId} {A:aN} {s:Sh} {args:List AV} {st:St} {r:AV×St} (ho:O f=none) (hF:G.get (key f)=some A)
  (hL: ∀x∈cK A.code s,dP (run O G) F L x.1 x.2) (h:qJ (run O G) F L A s args st=some r):run O G f args st=some (tidy st r):=by
 unfold qJ at h
 split at h<;>first|(cases h;done)|skip
 rename_i hlen
 obtain ⟨n,ex,aU,cF,st',h1,h2,h3⟩:=lU A.code s (tJ _ _ hL) (Sub.refl _) h
 refine Vl (n:=n) ho hF ?_
 unfold oL
 simp only[hlen,h1]
 cases ex with
 |normal=>
  obtain ⟨vs,k1,k2⟩:=yp h2 h3
  simp only[k1];exact k2
 |ret=>
  obtain ⟨vs,k1,k2⟩:=yp h2 h3
  simp only[k1];exact k2
 |exit i=>cases h3
end Go.Ai
end
section
noncomputable section
namespace Go.Ai
open Go
def ay (st:St) (b:AB):St:={ heap:=st.heap.put (some b) st.next,next:=st.next.succ }
def n9 {R:Type}:List (Nat×(XX R->Nat->List AV->St->Option R))->Env R
 |[]=>fun _ _ _ _ _=>none
 |  (i,g)::l=>fun j K n=>match Nat.beq i j with
    |true=>g K n
    |false=>n9 l j K n
def fQ (A:aN) (s:Sh) (i:Nat):AC×Sh:=(cK A.code s).getD i (.skip,.leaf)
theorem iF {R:Type} {c:ak} {F:Nat} {L:Env R} {a:AC} {sh:Sh} {j:Nat} {ins:List Pos} {outs:List (Nat×List Pos)} {s:Sh} (hs:sh= .loop j ins outs s) (h0: ∀K' vs st,L j K' 0 vs st=none)
  (h1: ∀K' n vs st,L j K' (n+1) vs st=Mr (den c F L a s) ins outs K' (L j K' n) vs st):dP c F L a sh:=by
 subst hs;exact fun K'=>⟨h0 K',h1 K'⟩
theorem mD {R:Type} {c:ak} {F:Nat} {L:Env R} {A:aN} {s:Sh} (n:Nat) (hn:Nat.beq (cK A.code s).length n=true) (h: ∀i,i<n->dP c F L (fQ A s i).1 (fQ A s i).2):
  ∀x∈cK A.code s,dP c F L x.1 x.2:=by
 intro x hx
 obtain ⟨i,hi,he⟩:=List.mem_iff_getElem.1 hx
 have hn:=Nat.eq_of_beq_eq_true hn
 have:=h i (by omega)
 unfold fQ at this
 rw[List.getD_eq_getElem?_getD,List.getElem?_eq_getElem hi] at this
 simp only[Option.getD_some,he] at this
 exact this
end Go.Ai
end
section
set_option linter.all false
namespace Go.Ai
open Go
theorem dJ (k:IntKind):wh k k=true:=by cases k<;>rfl
theorem mW (a b:Int):qm a b=decide (a=b):=by rw[gR];rfl
theorem lY (a b:List Nat):fT a b=decide (a=b):=by
 rw[Bool.eq_iff_iff,fU];simp
theorem wrap64 {x:Int} (h1: -9223372036854775808<=x) (h2:x<=9223372036854775807):aW .i64 x=x:=by
 unfold aW sI OI
 simp only
 split
 . split
   . rfl
   . contradiction
 . contradiction
theorem ua {x:Int} (h1:0<=x) (h2:x<=255):aW .u8 x=x:=by
 unfold aW sI OI
 simp only
 split
 . split
   . rfl
   . contradiction
 . contradiction
theorem mE (k:IntKind) (n:Nat):pR (.int k (n:Int))=some n:=id rfl
theorem iq (a b:Nat):Nat.ble a b=decide (a<=b):=by
 apply Bool.eq_iff_iff.2;simp
theorem XY (a b:Nat):Nat.blt a b=decide (a<b):=by
 apply Bool.eq_iff_iff.2;simp[Nat.blt,Nat.ble_eq];omega
theorem ir (a b:Nat):Nat.beq a b=decide (a=b):=by
 apply Bool.eq_iff_iff.2;simp
def qK {R:Type} (o:Option AV) (k:AV->Option R):Option R:=match o with
 |some v=>k v
 |none=>none
def yY {R:Type} (o:Option (List AV)) (k:List AV->Option R):Option R:=match o with
 |some v=>k v
 |none=>none
def optC {R:Type} (o:Option (AV×St)) (k:AV->St->Option R):Option R:=match o with
 |some (v,st)=>k v st
 |none=>none
section
variable {R : Type} (c : ak) (K : AV -> St -> Option R) (K1 : AV -> Option R) (A B : Option R)
@[simp] theorem agt (v:AV) (k:AV->Option R):qK (some v) k=k v:=id rfl
@[simp] theorem agu (v:List AV) (k:List AV->Option R):yY (some v) k=k v:=id rfl
@[simp] theorem DI (v:AV) (st:St) (k:AV->St->Option R):optC (some (v,st)) k=k v st:=id rfl
@[simp] theorem pH:b9 (.bool true) A B=A:=id rfl
@[simp] theorem qu:b9 (.bool false) A B=B:=id rfl
@[simp] theorem aM (v:AV) (vs:List AV) (k:AV->List AV->Option R):au (v::vs) k=k v vs:=id rfl
@[simp] theorem mX (k:Option R):bW [] k=k:=id rfl
theorem DJ (f:(List AV->St->Option R)->Option R) (k:List AV->St->Option R):cI f k=f k:=id rfl
@[simp] theorem qZ (b:Bool) (k:aB) (xs:List AV) (st:St):cS c (.bool b) b k xs st K=ag c k xs st K:=by cases b<;>exact id rfl
@[simp] theorem SH (k:aB) (xs:List AV) (st:St):cS c (.bool true) false k xs st K=K .undef st:=id rfl
@[simp] theorem gst_ft (k:aB) (xs:List AV) (st:St):cS c (.bool false) true k xs st K=K .undef st:=id rfl
@[simp] theorem gst_un (b:Bool) (k:aB) (xs:List AV) (st:St):cS c .undef b k xs st K=K .undef st:=id rfl
@[simp] theorem gpr_tf (k:aB) (xs:List AV):SE (.bool true) false k xs K1=K1 .undef:=id rfl
@[simp] theorem gpr_ft (k:aB) (xs:List AV):SE (.bool false) true k xs K1=K1 .undef:=id rfl
@[simp] theorem gpr_un (b:Bool) (k:aB) (xs:List AV):SE .undef b k xs K1=K1 .undef:=id rfl
@[simp] theorem grd_tf (k:aB) (xs:List AV) (h:T AB) (ok:AV->Bool):SG (.bool true) false k xs h ok K1=K1 .undef:=id rfl
@[simp] theorem grd_ft (k:aB) (xs:List AV) (h:T AB) (ok:AV->Bool):SG (.bool false) true k xs h ok K1=K1 .undef:=id rfl
@[simp] theorem grd_un (b:Bool) (k:aB) (xs:List AV) (h:T AB) (ok:AV->Bool):SG .undef b k xs h ok K1=K1 .undef:=id rfl
@[simp] theorem wnt_tf:Mq (.bool true) false A B=B:=id rfl
@[simp] theorem wnt_ft:Mq (.bool false) true A B=B:=id rfl
@[simp] theorem wnt_un (b:Bool):Mq .undef b A B=B:=id rfl
theorem zT {k:aB} {xs:List AV} {o:Option AV} (h: ∀H n,k.run H n xs=o.map .val) (st:St):ag c k xs st K=qK o fun v=>K v st:=by
 unfold ag bS;rw[h];cases o<;>rfl
theorem Ik {k:aB} {xs:List AV} {o:Option AV} (h: ∀H n,k.run H n xs=o.map .val):aJ k xs K1=qK o K1:=by
 unfold aJ;rw[h];cases o<;>rfl
theorem bQ {k:aB} {xs:List AV} {v:AV} (h: ∀H n,k.run H n xs=some (.val v)) (st:St):ag c k xs st K=K v st:=by
 unfold ag bS;rw[h]
theorem iY {k:aB} {xs:List AV} {v:AV} (h: ∀H n,k.run H n xs=some (.val v)):aJ k xs K1=K1 v:=by
 unfold aJ;rw[h]
theorem yq (f:FuncId) (l:List AV) (st:St):ag c (.callF f) l st K=optC (c f l st) K:=by
 unfold ag bS;show (match c f l st with|some (v,st')=>K v st'|none=>none)=_
 cases c f l st<;>rfl
attribute [simp] yq
end
def cellsOf:Option AB->Option (List AV)
 |some (.cells cs _)=>some cs
 |some (.typed _ cs)=>some cs
 |_=>none
@[simp] theorem ac5 (t:TypeId) (cs:List AV):cellsOf (some (.typed t cs))=some cs:=id rfl
@[simp] theorem ac6 (cs:List AV) (f:Nat):cellsOf (some (.cells cs f))=some cs:=id rfl
def ro (es:Nat) (z:Bool) (rs:List (List AV)):AV:=match z,rs with
 |true,[]=> .ai
 |_,rs=> .fl rs es
theorem YZ {es:Nat} {z:Bool} {rs:List (List AV)} (h:rs≠[]):ro es z rs= .fl rs es:=by
 unfold ro;split
 . exact absurd rfl h
 . rfl
theorem run_move (H:Pos->Option AB) (n:Pos) (x:AV):aB.run H n .move [x]=some (.val x):=rfl
@[simp] theorem aT {R:Type} (c:ak) (K:AV->St->Option R) (st:St) (x:AV):ag c .move [x] st K=K x st:=bQ c K (fun H n=>run_move H n x) st
@[simp] theorem eF {R:Type} (K:AV->Option R) (x:AV):aJ .move [x] K=K x:=iY K (fun H n=>run_move H n x)
theorem Qx (H:Pos->Option AB) (n:Pos) (x y:AV):aB.run H n .pick [.bool true,x,y]=some (.val x):=rfl
@[simp] theorem Qy {R:Type} (c:ak) (K:AV->St->Option R) (st:St) (x y:AV):ag c .pick [.bool true,x,y] st K=K x st:=bQ c K (fun H n=>Qx H n x y) st
theorem Qz (H:Pos->Option AB) (n:Pos) (x y:AV):aB.run H n .pick [.bool false,x,y]=some (.val y):=rfl
@[simp] theorem QA {R:Type} (c:ak) (K:AV->St->Option R) (st:St) (x y:AV):ag c .pick [.bool false,x,y] st K=K y st:=bQ c K (fun H n=>Qz H n x y) st
theorem Y0 (H:Pos->Option AB) (n:Pos) (p:Bool):aB.run H n (.un .not) [.bool p]=some (.val (.bool (!p))):=rfl
@[simp] theorem agE {R:Type} (c:ak) (K:AV->St->Option R) (st:St) (p:Bool):ag c (.un .not) [.bool p] st K=K (.bool (!p)) st:=bQ c K (fun H n=>Y0 H n p) st
theorem Y3 (H:Pos->Option AB) (n:Pos) (q:iI) (k:IntKind) (a b:Int):aB.run H n (.bin .lss q) [.int k a,.int k b]=some (.val (.bool (decide (a<b)))):=by simp[aB.run,gD,mz,dJ,mW,fP,kN,lY]
@[simp] theorem Y4 {R:Type} (c:ak) (K:AV->St->Option R) (st:St) (q:iI) (k:IntKind) (a b:Int):ag c (.bin .lss q) [.int k a,.int k b] st K=K (.bool (decide (a<b))) st:=bQ c K (fun H n=>Y3 H n q k a b) st
theorem Y5 (H:Pos->Option AB) (n:Pos) (q:iI) (k:IntKind) (a b:Int):aB.run H n (.bin .gtr q) [.int k a,.int k b]=some (.val (.bool (decide (b<a)))):=by simp[aB.run,gD,mz,dJ,mW,fP,kN,lY]
@[simp] theorem Y6 {R:Type} (c:ak) (K:AV->St->Option R) (st:St) (q:iI) (k:IntKind) (a b:Int):ag c (.bin .gtr q) [.int k a,.int k b] st K=K (.bool (decide (b<a))) st:=bQ c K (fun H n=>Y5 H n q k a b) st
theorem Y7 (H:Pos->Option AB) (n:Pos) (q:iI) (k:IntKind) (a b:Int):aB.run H n (.bin .eql q) [.int k a,.int k b]=some (.val (.bool (decide (a=b)))):=by simp[aB.run,gD,mz,dJ,mW,fP,kN,lY]
@[simp] theorem fu {R:Type} (c:ak) (K:AV->St->Option R) (st:St) (q:iI) (k:IntKind) (a b:Int):ag c (.bin .eql q) [.int k a,.int k b] st K=K (.bool (decide (a=b))) st:=bQ c K (fun H n=>Y7 H n q k a b) st
theorem Y8 (H:Pos->Option AB) (n:Pos) (q:iI) (k:IntKind) (a b:Int):aB.run H n (.bin .neq q) [.int k a,.int k b]=some (.val (.bool (!decide (a=b)))):=by simp[aB.run,gD,mz,dJ,mW,fP,kN,lY]
@[simp] theorem agF {R:Type} (c:ak) (K:AV->St->Option R) (st:St) (q:iI) (k:IntKind) (a b:Int):ag c (.bin .neq q) [.int k a,.int k b] st K=K (.bool (!decide (a=b))) st:=bQ c K (fun H n=>Y8 H n q k a b) st
theorem Pa (H:Pos->Option AB) (n:Pos) (q:iI) (k:IntKind) (a b:Int):aB.run H n (.bin .add q) [.int k a,.int k b]=some (.val (.int k (aW k (a+b)))):=by simp[aB.run,gD,mz,dJ,mW,fP,kN,lY]
@[simp] theorem Pb {R:Type} (c:ak) (K:AV->St->Option R) (st:St) (q:iI) (k:IntKind) (a b:Int):ag c (.bin .add q) [.int k a,.int k b] st K=K (.int k (aW k (a+b))) st:=bQ c K (fun H n=>Pa H n q k a b) st
@[simp] theorem agG {R:Type} (K:AV->Option R) (q:iI) (k:IntKind) (a b:Int):aJ (.bin .add q) [.int k a,.int k b] K=K (.int k (aW k (a+b))):=iY K (fun H n=>Pa H n q k a b)
theorem Y9 (H:Pos->Option AB) (n:Pos) (q:iI) (k:IntKind) (a b:Int):aB.run H n (.bin .sub q) [.int k a,.int k b]=some (.val (.int k (aW k (a - b)))):=by simp[aB.run,gD,mz,dJ,mW,fP,kN,lY]
@[simp] theorem agH {R:Type} (c:ak) (K:AV->St->Option R) (st:St) (q:iI) (k:IntKind) (a b:Int):ag c (.bin .sub q) [.int k a,.int k b] st K=K (.int k (aW k (a - b))) st:=bQ c K (fun H n=>Y9 H n q k a b) st
theorem Za (H:Pos->Option AB) (n:Pos) (q:iI) (k:IntKind) (a b:Int):aB.run H n (.bin .mul q) [.int k a,.int k b]=some (.val (.int k (aW k (a*b)))):=by simp[aB.run,gD,mz,dJ,mW,fP,kN,lY]
@[simp] theorem agI {R:Type} (c:ak) (K:AV->St->Option R) (st:St) (q:iI) (k:IntKind) (a b:Int):ag c (.bin .mul q) [.int k a,.int k b] st K=K (.int k (aW k (a*b))) st:=bQ c K (fun H n=>Za H n q k a b) st
theorem Mu (H:Pos->Option AB) (n:Pos) (q:iI) (s t:List Nat):aB.run H n (.bin .eql q) [.str s,.str t]=some (.val (.bool (decide (s=t)))):=by simp[aB.run,gD,mz,dJ,mW,fP,kN,lY]
@[simp] theorem agx {R:Type} (c:ak) (K:AV->St->Option R) (st:St) (q:iI) (s t:List Nat):ag c (.bin .eql q) [.str s,.str t] st K=K (.bool (decide (s=t))) st:=bQ c K (fun H n=>Mu H n q s t) st
@[simp] theorem agy {R:Type} (K:AV->Option R) (q:iI) (s t:List Nat):aJ (.bin .eql q) [.str s,.str t] K=K (.bool (decide (s=t))):=iY K (fun H n=>Mu H n q s t)
theorem Vm (H:Pos->Option AB) (n:Pos) (q:iI) (s t:List Nat):aB.run H n (.bin .neq q) [.str s,.str t]=some (.val (.bool (!decide (s=t)))):=by simp[aB.run,gD,mz,dJ,mW,fP,kN,lY]
@[simp] theorem Vn {R:Type} (K:AV->Option R) (q:iI) (s t:List Nat):aJ (.bin .neq q) [.str s,.str t] K=K (.bool (!decide (s=t))):=iY K (fun H n=>Vm H n q s t)
theorem Vo (H:Pos->Option AB) (n:Pos) (s:List Nat):aB.run H n (.lenB .s) [.str s]=some (.val (.int .i64 (s.length:Int))):=rfl
@[simp] theorem agz {R:Type} (c:ak) (K:AV->St->Option R) (st:St) (s:List Nat):ag c (.lenB .s) [.str s] st K=K (.int .i64 (s.length:Int)) st:=bQ c K (fun H n=>Vo H n s) st
theorem Mw (H:Pos->Option AB) (n:Pos) (es:Nat) (z:Bool) (rs:List (List AV)):aB.run H n (.lenB .l) [ro es z rs]=some (.val (.int .i64 (rs.length:Int))):=by unfold ro;split<;>rfl
@[simp] theorem BT {R:Type} (c:ak) (K:AV->St->Option R) (st:St) (es:Nat) (z:Bool) (rs:List (List AV)):ag c (.lenB .l) [ro es z rs] st K=K (.int .i64 (rs.length:Int)) st:=bQ c K (fun H n=>Mw H n es z rs) st
@[simp] theorem Vp {R:Type} (K:AV->Option R) (es:Nat) (z:Bool) (rs:List (List AV)):aJ (.lenB .l) [ro es z rs] K=K (.int .i64 (rs.length:Int)):=iY K (fun H n=>Mw H n es z rs)
theorem Mx (H:Pos->Option AB) (n:Pos) (k k2:IntKind) (a:Int):aB.run H n (.conv (.int k)) [.int k2 a]=some (.val (.int k (aW k a))):=rfl
@[simp] theorem Vq {R:Type} (c:ak) (K:AV->St->Option R) (st:St) (k k2:IntKind) (a:Int):ag c (.conv (.int k)) [.int k2 a] st K=K (.int k (aW k a)) st:=bQ c K (fun H n=>Mx H n k k2 a) st
@[simp] theorem agA {R:Type} (K:AV->Option R) (k k2:IntKind) (a:Int):aJ (.conv (.int k)) [.int k2 a] K=K (.int k (aW k a)):=iY K (fun H n=>Mx H n k k2 a)
theorem Vr (H:Pos->Option AB) (n:Pos) (k:IntKind) (s:List Nat) (i:Nat):aB.run H n .idxS [.str s,.int k (i:Int)]=((s[i]?.map fun c=> .int .u8 (c:Int)):Option AV).map .val:=by simp only[aB.run,EG,mE,jZ];cases s[i]? <;>rfl
@[simp] theorem agB {R:Type} (c:ak) (K:AV->St->Option R) (st:St) (k:IntKind) (s:List Nat) (i:Nat):ag c .idxS [.str s,.int k (i:Int)] st K=qK (s[i]?.map fun c=> .int .u8 (c:Int)) fun v=>K v st:=zT c K (fun H n=>Vr H n k s i) st
theorem DK (H:Pos->Option AB) (n:Pos) (off:Nat) (p:Pos) (o:Nat):aB.run H n (.fieldA off) [.ptr p o]=some (.val (.ptr p (o+off))):=rfl
@[simp] theorem gG {R:Type} (c:ak) (K:AV->St->Option R) (st:St) (off:Nat) (p:Pos) (o:Nat):ag c (.fieldA off) [.ptr p o] st K=K (.ptr p (o+off)) st:=bQ c K (fun H n=>DK H n off p o) st
@[simp] theorem aY {R:Type} (K:AV->Option R) (off:Nat) (p:Pos) (o:Nat):aJ (.fieldA off) [.ptr p o] K=K (.ptr p (o+off)):=iY K (fun H n=>DK H n off p o)
theorem FG (H:Pos->Option AB) (n:Pos) (i:Nat) (l:List AV):aB.run H n (.extract i) [.tuple l]=(l[i]? :Option AV).map .val:=by simp only[aB.run,vF,jZ];cases l[i]? <;>rfl
@[simp] theorem afp {R:Type} (c:ak) (K:AV->St->Option R) (st:St) (i:Nat) (l:List AV):ag c (.extract i) [.tuple l] st K=qK l[i]? fun v=>K v st:=zT c K (fun H n=>FG H n i l) st
@[simp] theorem afq {R:Type} (K:AV->Option R) (i:Nat) (l:List AV):aJ (.extract i) [.tuple l] K=qK l[i]? K:=Ik K (fun H n=>FG H n i l)
theorem zU (H:Pos->Option AB) (n:Pos) (p:Pos) (o:Nat):aB.run H n .nilCheck [.ptr p o]=some (.val (.ptr p o)):=rfl
@[simp] theorem Zb {R:Type} (c:ak) (K:AV->St->Option R) (st:St) (p:Pos) (o:Nat):ag c .nilCheck [.ptr p o] st K=K (.ptr p o) st:=bQ c K (fun H n=>zU H n p o) st
@[simp] theorem Zc {R:Type} (K:AV->Option R) (p:Pos) (o:Nat):aJ .nilCheck [.ptr p o] K=K (.ptr p o):=iY K (fun H n=>zU H n p o)
theorem My (H:Pos->Option AB) (n:Pos) (es:Nat) (z:Bool) (rs:List (List AV)) (k:IntKind) (i:Nat):aB.run H n (.idxA es none) [ro es z rs,.int k (i:Int)]=((if i<rs.length then some (.fp rs i 0) else none):Option AV).map .val:=by
 by_cases h:i<rs.length
 . rw[YZ (by intro e;subst e;simp at h)]
   simp[aB.run,pz,mE,XY,ir,h]
 . unfold ro;split
   . rfl
   . simp[aB.run,pz,mE,XY,ir,h]
@[simp] theorem Mz {R:Type} (c:ak) (K:AV->St->Option R) (st:St) (es:Nat) (z:Bool) (rs:List (List AV)) (k:IntKind) (i:Nat):ag c (.idxA es none) [ro es z rs,.int k (i:Int)] st K=qK (if i<rs.length then some (.fp rs i 0) else none) fun v=>K v st:=zT c K (fun H n=>My H n es z rs k i) st
@[simp] theorem Vt {R:Type} (K:AV->Option R) (es:Nat) (z:Bool) (rs:List (List AV)) (k:IntKind) (i:Nat):aJ (.idxA es none) [ro es z rs,.int k (i:Int)] K=qK (if i<rs.length then some (.fp rs i 0) else none) K:=Ik K (fun H n=>My H n es z rs k i)
theorem SI (H:Pos->Option AB) (n:Pos) (es:Nat) (z:Bool) (rs:List (List AV)) (k:IntKind) (i:Nat):aB.run H n (.sliceL es false true false) [ro es z rs,.int k (i:Int)]=((if i<=rs.length then some (ro es (z&&rs.isEmpty) (rs.take i)) else none):Option AV).map .val:=by
 by_cases h:i<=rs.length
 . rw[  if_pos h];unfold ro
   split
   . simp at h;subst h;rfl
   . rename_i hn
     have:(z&&rs.isEmpty)=false:=by
        cases z<;>cases rs<;>simp at hn ⊢
     simp only[this]
     simp[aB.run,oP,bounds,mE,iq,ir,h]
 . rw[if_neg h];unfold ro;split
   . simp only[aB.run,oP,bounds,mE]
     have: ¬i=0:=by simp at h;omega
     simp[ir,this]
   . simp[aB.run,oP,bounds,mE,iq,ir,h]
@[simp] theorem SJ {R:Type} (K:AV->Option R) (es:Nat) (z:Bool) (rs:List (List AV)) (k:IntKind) (i:Nat):aJ (.sliceL es false true false) [ro es z rs,.int k (i:Int)] K=qK (if i<=rs.length then some (ro es (z&&rs.isEmpty) (rs.take i)) else none) K:=Ik K (fun H n=>SI H n es z rs k i)
section
variable {R : Type} (c : ak) (K : AV -> St -> Option R) (K1 : AV -> Option R)
theorem rY (H:Pos->Option AB) (n:Pos) (xs:List (List AV)) (i j:Nat):aB.run H n (.load none) [.fp xs i j]=(xs[i]?.bind fun cs=>cs[j]?).map .val:=by
 simp only[aB.run,pq,jZ]
 cases xs[i]? with
 |none=>rfl
 |some cs=>simp only[Option.bind_some];cases cs[j]? <;>rfl
theorem Oj (H:Pos->Option AB) (n:Pos) (m:Nat) (xs:List (List AV)) (i j:Nat):aB.run H n (.load (some m)) [.fp xs i j]=((xs[i]?.bind fun cs=>cut cs j m).map .agg).map .val:=by
 simp only[aB.run,pq,jZ]
 cases xs[i]? with
 |none=>rfl
 |some cs=>simp only[Option.bind_some];cases cut cs j m<;>rfl
theorem pI (H:Pos->Option AB) (n:Pos) (p:Pos) (o:Nat):aB.run H n (.load none) [.ptr p o]=((cellsOf (H p)).bind fun cs=>cs[o]?).map .val:=by
 simp only[aB.run,pq,jZ]
 cases H p with
 |none=>rfl
 |some x=>   cases x<;>simp only[cellsOf,Option.bind_some,Option.bind_none]<;>try rfl
             all_goals first|(rename_i cs _;cases cs[o]? <;>rfl)|(rename_i _ cs;cases cs[o]? <;>rfl)
theorem ud (H:Pos->Option AB) (n:Pos) (m:Nat) (p:Pos) (o:Nat):aB.run H n (.load (some m)) [.ptr p o]=(((cellsOf (H p)).bind fun cs=>cut cs o m).map .agg).map .val:=by
 simp only[aB.run,pq]
 cases H p with
 |none=>rfl
 |some x=>   cases x<;>simp only[cellsOf,Option.bind_some,Option.bind_none]<;>try rfl
             all_goals first|(rename_i cs _;cases cut cs o m<;>rfl)|(rename_i _ cs;cases cut cs o m<;>rfl)
@[simp] theorem afH (st:St) (xs:List (List AV)) (i j:Nat):ag c (.load none) [.fp xs i j] st K=qK (xs[i]?.bind fun cs=>cs[j]?) fun v=>K v st:=zT c K (fun H n=>rY H n xs i j) st
@[simp] theorem afr (st:St) (m:Nat) (xs:List (List AV)) (i j:Nat):ag c (.load (some m)) [.fp xs i j] st K=yY (xs[i]?.bind fun cs=>cut cs j m) fun l=>K (.agg l) st:=by
  rw[zT c K (fun H n=>Oj H n m xs i j) st];cases (xs[i]?.bind fun cs=>cut cs j m)<;>rfl
@[simp] theorem BU (st:St) (p:Pos) (o:Nat):ag c (.load none) [.ptr p o] st K=qK ((cellsOf (st.heap.get p)).bind fun cs=>cs[o]?) fun v=>K v st:=by
  unfold ag bS;rw[pI];cases ((cellsOf (st.heap.get p)).bind fun cs=>cs[o]?)<;>rfl
@[simp] theorem FH (st:St) (m:Nat) (p:Pos) (o:Nat):ag c (.load (some m)) [.ptr p o] st K=yY ((cellsOf (st.heap.get p)).bind fun cs=>cut cs o m) fun l=>K (.agg l) st:=by
  unfold ag bS;rw[ud];cases ((cellsOf (st.heap.get p)).bind fun cs=>cut cs o m)<;>rfl
@[simp] theorem afI (h:T AB) (xs:List (List AV)) (i j:Nat):ei (.load none) [.fp xs i j] h (fun _=>true) K1=qK (xs[i]?.bind fun cs=>cs[j]?) K1:=by
  unfold ei;rw[rY,rY]
  cases hx:(xs[i]?.bind fun cs=>cs[j]?)<;>rfl
@[simp] theorem oa (h:T AB) (p:Pos) (o:Nat):ei (.load none) [.ptr p o] h (fun _=>true) K1=qK ((cellsOf (h.get p)).bind fun cs=>cs[o]?) K1:=by
  unfold ei;rw[pI,pI]
  show (match ((cellsOf (h.get p)).bind fun cs=>cs[o]?).map b6.val with|some (.val v)=>_|_=>_)=_
  cases ((cellsOf (h.get p)).bind fun cs=>cs[o]?)<;>rfl
@[simp] theorem Ol (h:T AB) (m:Nat) (p:Pos) (o:Nat):ei (.load (some m)) [.ptr p o] h (fun _=>true) K1=yY ((cellsOf (h.get p)).bind fun cs=>cut cs o m) fun l=>K1 (.agg l):=by
  unfold ei;rw[ud,ud]
  show (match (((cellsOf (h.get p)).bind fun cs=>cut cs o m).map AV.agg).map b6.val with|some (.val v)=>_|_=>_)=_
  cases ((cellsOf (h.get p)).bind fun cs=>cut cs o m)<;>rfl
theorem run_build (H:Pos->Option AB) (n:Pos) (z:List AV) (ps:List (Nat×Nat)) (xs:List AV):aB.run H n (.build z ps) xs=((fk z ps xs).map .agg).map .val:=by
 simp only[aB.run,Bi];cases fk z ps xs<;>rfl
@[simp] theorem ic (st:St) (z:List AV) (ps:List (Nat×Nat)) (xs:List AV):ag c (.build z ps) xs st K=yY (fk z ps xs) fun l=>K (.agg l) st:=by
  rw[zT c K (fun H n=>run_build H n z ps xs) st];cases fk z ps xs<;>rfl
@[simp] theorem uz (z:List AV) (ps:List (Nat×Nat)) (xs:List AV):aJ (.build z ps) xs K1=yY (fk z ps xs) fun l=>K1 (.agg l):=by
  rw[Ik K1 (fun H n=>run_build H n z ps xs)];cases fk z ps xs<;>rfl
theorem ig {α:Type} {l:List α} {m:Nat} (h:l.length=m):cut l 0 m=some l:=by
 unfold cut
 rw[iq,decide_eq_true (by omega)]
 simp only[List.drop_zero]
 rw[List.take_of_length_le (by omega)]
end
end Go.Ai
namespace Go.Ai
open Go
def Wf (st:St):Prop:= ∀p x,st.heap.get p=some x->p.toNat<st.next.toNat
theorem dx (st:St) (b:AB):(ay st b).next=st.next.succ:=id rfl
@[simp] theorem fX {st:St} {b:AB} (h:Wf st):Wf (ay st b):=fun p x hp=>by
  rw[dx,Pos.az]
  by_cases e:st.next=p
  . subst e;omega
  . have:=h p x (by rwa [ay,T.bq _ e] at hp)
    omega
@[simp] theorem bh (st:St) (b:AB):(ay st b).heap.get st.next=some b:=T.dZ _ _ _
theorem kD {st:St} {b:AB} {p:Pos} (h:p.toNat<st.next.toNat):(ay st b).heap.get p=st.heap.get p:=by
 rw[ay,T.bq _ (by intro e;subst e;omega)]
@[simp] theorem wM {st:St} {a b:AB}:(ay (ay st a) b).heap.get st.next=some a:=by
  rw[kD (by rw[dx,Pos.az];omega),bh]
theorem DM {st:St} {b:AB} (h:Wf st):dz st (ay st b):=fun p x hp=>by
 rw[kD (h p x hp)];exact hp
theorem mY {st st':St} {v:AV} (hv:Plain v) (hk:dz st st'):tidy st (v,st')=(v,st):=by
 unfold tidy;rw[if_pos ⟨hv,hk⟩]
section
variable {R : Type} (c : ak) (K : AV -> St -> Option R)
@[simp] theorem Jl (x:AV) (st:St):ag c .box [x] st K=K (.ptr st.next 0) (ay st (.cells x.cells 0)):=id rfl
@[simp] theorem iJ (l:List AV) (st:St):ag c (.alloc l) [] st K=K (.ptr st.next 0) (ay st (.cells l 0)):=id rfl
end
theorem T.tK {α:Type} (x y:Option α): ∀(p:Pos) (t:T α),T.put x p (T.put y p t)=T.put x p t
 | .h,.e=>rfl
 | .h,.n _ _ _=>rfl
 | .o p,.e=>by simp only[T.put];rw[T.tK x y p]
 | .o p,.n _ _ _=>by simp only[T.put];rw[T.tK x y p]
 | .i p,.e=>by simp only[T.put];rw[T.tK x y p]
 | .i p,.n _ _ _=>by simp only[T.put];rw[T.tK x y p]
def ew (st:St) (p:Pos) (b:AB):St:={ heap:=st.heap.put (some b) p,next:=st.next }
@[simp] theorem tL (st:St) (p:Pos) (b:AB):(ew st p b).next=st.next:=id rfl
@[simp] theorem eO (st:St) (p:Pos) (b:AB):(ew st p b).heap.get p=some b:=T.dZ _ _ _
theorem bV {st:St} {p q:Pos} {b:AB} (h:p≠q):(ew st p b).heap.get q=st.heap.get q:=T.bq _ h _
@[simp] theorem EV (st:St) (a b:AB):ew (ay st a) st.next b=ay st b:=by
  unfold ew ay;simp only[T.tK]
@[simp] theorem Zd (st:St) (p:Pos) (a b:AB):ew (ew st p a) p b=ew st p b:=by
  unfold ew;simp only[T.tK]
theorem Pos.Pc (p:Pos):p≠p.succ:=fun e=>by have:=congrArg Pos.toNat e;rw[Pos.az] at this;omega
@[simp] theorem MA {st:St} {a b d:AB}:(ay (ay (ay st a) b) d).heap.get st.next=some a:=by
  rw[kD (by simp only[dx,Pos.az];omega),wM]
theorem eM {R:Type} (c:ak) (K:AV->St->Option R) (st:St) (m:Nat) (p:Pos) (o:Nat) (v:AV) (cs:List AV) (h:st.heap.get p=some (.cells cs 0)) (h1:v.cells.length=m) (h2:o+m<=cs.length) (h3:aX v.cells=true):
  ag c (.store m) [.ptr p o,v] st K=K .undef (ew st p (.cells (aO cs o v.cells) 0)):=by
 have:aB.run (fun b=>st.heap.get b) st.next (.store m) [.ptr p o,v]=some (.aE .undef none (some (p,.cells (aO cs o v.cells) 0)) none):=by
  simp[aB.run,tj,h,h1,h2,h3,ir,iq]
 unfold ag bS;rw[this];rfl
@[simp] theorem bY {R:Type} (c:ak) (K:AV->St->Option R) (st:St) (m:Nat) (v:AV) (cs:List AV) (h1:v.cells.length=m) (h2:m=cs.length) (h3:aX v.cells=true):
   ag c (.store m) [.ptr st.next 0,v] (ay st (.cells cs 0)) K=K .undef (ay st (.cells v.cells 0)):=by
  rw[eM c K _ m st.next 0 v cs (bh _ _) h1 (by omega) h3,EV]
  have:aO cs 0 v.cells=v.cells:=by unfold aO;rw[h1,h2];simp
  rw[this]
theorem afJ {R:Type} (n:Option Nat) (p:Pos) (o:Nat) (st:St) (K:AV->Option R):yo n (.ptr p o) st K=match n with
  |none=>qK ((cellsOf (st.heap.get p)).bind fun cs=>cs[o]?) K
  |some m=>yY ((cellsOf (st.heap.get p)).bind fun cs=>cut cs o m) fun l=>K (.agg l):=by
 unfold yo
 cases n with
 |none=>rw[pI];simp only;cases ((cellsOf (st.heap.get p)).bind fun cs=>cs[o]?)<;>rfl
 |some m=>rw[ud];simp only;cases ((cellsOf (st.heap.get p)).bind fun cs=>cut cs o m)<;>rfl
@[simp] theorem MB {R:Type} (m:Nat) (p:Pos) (o:Nat) (st:St) (K:AV->Option R):yo (some m) (.ptr p o) st K=yY ((cellsOf (st.heap.get p)).bind fun cs=>cut cs o m) fun l=>K (.agg l):=afJ (some m) p o st K
@[simp] theorem SK (es:Nat) (z:Bool) (rs:List (List AV)):(ro es z rs).one=true:=by unfold ro;split<;>rfl
theorem Plain.ro {es:Nat} {z:Bool} {rs:List (List AV)} (h: ∀cs∈rs,∀v∈cs,Plain v):Plain (ro es z rs):=by
 unfold Go.Ai.ro;split
 . exact Plain.ai
 . exact Plain.fl h
structure Grew (s s':St):Prop where
 wf:Wf s'
 keeps:dz s s'
 next:s.next.toNat<=s'.next.toNat
theorem Grew.refl {s:St} (h:Wf s):Grew s s:=⟨h,dz.refl s,Nat.le_refl _⟩
theorem Grew.trans {a b c:St} (h:Grew a b) (k:Grew b c):Grew a c:=⟨k.wf,h.keeps.trans k.keeps,Nat.le_trans h.next k.next⟩
theorem Grew.ay {s:St} (h:Wf s) (b:AB):Grew s (ay s b):=⟨fX h,DM h,by rw[dx,Pos.az];omega⟩
theorem Grew.get {s s':St} (h:Grew s s') {p:Pos} {x:AB} (hp:s.heap.get p=some x):s'.heap.get p=some x:=h.keeps p x hp
end Go.Ai
end
section
set_option linter.all false
namespace Go.Ai
open Go
theorem Il {st:St} {p:Pos} {b:AB} (h:Wf st) (hp:p.toNat<st.next.toNat):Wf (ew st p b):=fun q x hq=>by
 rw[tL]
 by_cases e:p=q
 . subst e;exact hp
 . rw[bV e] at hq;exact h q x hq
def dst (st:St) (p:Pos) (b:AB):St:={ heap:=(st.heap.put none p).put (some b) st.next,next:=st.next.succ }
theorem Vu (st:St) (p:Pos) (b:AB):(dst st p b).next=st.next.succ:=id rfl
theorem Pd (st:St) (p:Pos) (b:AB):(dst st p b).heap.get st.next=some b:=T.dZ _ _ _
theorem QB {st:St} {p q:Pos} {b:AB} (h:p≠q) (h2:q.toNat<st.next.toNat):(dst st p b).heap.get q=st.heap.get q:=by
 rw[dst,T.bq _ (by intro e;subst e;omega),T.bq _ h]
theorem adn {st:St} {p:Pos} {b:AB} (h:Wf st):Wf (dst st p b):=fun q x hq=>by
 rw[Vu,Pos.az]
 by_cases e:st.next=q
 . subst e;omega
 . rw[dst,T.bq _ e] at hq
   by_cases e2:p=q
   . subst e2;rw[T.dZ] at hq;cases hq
   . rw[T.bq _ e2] at hq;have:=h q x hq;omega
section
variable {R : Type} (c : ak) (K : AV -> St -> Option R) (K1 : AV -> Option R)
theorem Im (H:Pos->Option AB) (n:Pos) (es len:Nat) (z:List AV) (ps:List Nat) (xs:List AV):aB.run H n (.buildSlice es len z ps) xs=(fk (cV z len) (ps.map fun i=>(i*es,es)) xs).map fun cs=> .aE (.slice n 0 len (some len) es) none none (some (.cells cs 0)):=by
 simp only[aB.run,oq];cases fk (cV z len) (ps.map fun i=>(i*es,es)) xs<;>rfl
@[simp] theorem aR (st:St) (es len:Nat) (z:List AV) (ps:List Nat) (xs:List AV):ag c (.buildSlice es len z ps) xs st K=yY (fk (cV z len) (ps.map fun i=>(i*es,es)) xs) fun cs=>K (.slice st.next 0 len (some len) es) (ay st (.cells cs 0)):=by
  unfold ag bS;rw[Im];cases fk (cV z len) (ps.map fun i=>(i*es,es)) xs<;>rfl
@[simp] theorem rZ (st:St) (es len:Nat) (z:List AV) (ps:List Nat) (xs:List AV) (K2:AV->AB->Option R):CQ (.buildSlice es len z ps) xs st K2=yY (fk (cV z len) (ps.map fun i=>(i*es,es)) xs) fun cs=>K2 (.slice st.next 0 len (some len) es) (.cells cs 0):=by
  unfold CQ;rw[Im];cases fk (cV z len) (ps.map fun i=>(i*es,es)) xs<;>rfl
@[simp] theorem SL (st:St):ag c .mkMap [] st K=K (.map st.next) (ay st (.map [] 0)):=id rfl
theorem Vv {st:St} {es bytes m:Nat} {x:AV} {new:List AV} (hm:fH x=some m) (h0:m≠0) (hb:(2*(0+m)+768)*bytes<=281474976710656) (hs:0+m<=9223372036854775807) (hx:ec es m (fun b=>st.heap.get b) x=some new):
  ag c (.append es bytes) [.ai,x] st K=K (.slice st.next 0 m none es) (ay st (.cells new 0)):=by
 have:aB.run (fun b=>st.heap.get b) st.next (.append es bytes) [.ai,x]=some (.aE (.slice st.next 0 m none es) none none (some (.cells new 0))):=by
  simp only[aB.run,gW]
  rw[show fH .ai=some 0 from rfl,hm]
  simp only[iq,ir,decide_eq_true hb,decide_eq_true hs,decide_eq_false h0,hx]
 unfold ag bS;rw[this];rfl
theorem tM {p:Pos} {o:Nat} {h h2:T AB} {v:AV} (hv:((cellsOf (h.get p)).bind fun cs=>cs[o]?)=some v) (Dq:((cellsOf (h2.get p)).bind fun cs=>cs[o]?)=some v) (hb:ki v v=true):
  ei (.load none) [.ptr p o] h (fun v=>fL (.load none) [.ptr p o] v (fo [] h2)&&true) K1=K1 v:=by
 unfold ei
 have e:aB.run (fun _=>none) .h (.load none) [.ptr p o]=none:=rfl
 rw[e]
 simp only
 rw[pI,hv]
 simp only[Option.map_some]
 have:fL (.load none) [.ptr p o] v (fo [] h2)=true:=by
  unfold fL
  show (match aB.run (fun b=>h2.get b) .h (.load none) [.ptr p o] with|some (.val u)=>ki u v|_=>false)=true
  rw[pI,Dq];exact hb
 rw[this];rfl
end
theorem MC {R:Type} (K1:AV->Option R) {p:Pos} {o:Nat} {h h2:T AB} {v:AV} (hv:((cellsOf (h.get p)).bind fun cs=>cs[o]?)=some v) (Dq:((cellsOf (h2.get p)).bind fun cs=>cs[o]?)=some v) (hb:ki v v=true):
  ei (.load none) [.ptr p o] h (fun v=>fL (.load none) [.ptr p o] v (fo [] h2)) K1=K1 v:=by
 have:=tM K1 hv Dq hb
 simp only[Bool.and_true] at this;exact this
end Go.Ai
end
section
namespace Go.Ai
inductive qv:Nat->AV->Prop
 |flat {d:Nat} {v:AV} (h:kH v v=true):qv d v
 |fl {d:Nat} {a:List (List AV)} {n:Nat} (h: ∀r∈a,∀v∈r,qv d v):qv (d+1) (.fl a n)
theorem qv.ro {d es:Nat} {z:Bool} {rs:List (List AV)} (h: ∀r∈rs,∀v∈r,qv d v):qv (d+1) (ro es z rs):=by
 unfold Go.Ai.ro;split
 . exact .flat rfl
 . exact .fl h
theorem qv.int {d:Nat} (k:IntKind) (n:Int):qv d (.int k n):= .flat (by simp[kH,gR,dJ])
theorem qv.str {d:Nat} (s:List Nat):qv d (.str s):= .flat (by simp[kH,fU])
theorem qv.bool {d:Nat} (s:Bool):qv d (.bool s):= .flat (by simp[kH])
end Go.Ai
end
section
namespace Go.Ai
open Go
section
variable {H : Type} (enc : TypeId × Value -> H) (P : Program) (w : World) (base : Nat) (spare : Nat -> Bool) (held : Bool)
def jL (t:TypeId) (Q:List AV->Prop):Prop:=
 ∀  (fuel:Nat) (cs:List Value) (x:DataW H×List MemPlace),DataW.trod enc P w base spare held fuel t cs=some x->
    ∃as,Q as/\ ∀ρ n,aq ρ n (fun ad=>w.cell? ad) as cs
variable {enc P w base spare held}
theorem jL.mono {t:TypeId} {Q Q':List AV->Prop} (h:jL enc P w base spare held t Q) (k: ∀as,Q as->Q' as):jL enc P w base spare held t Q':=
 fun fuel cs x hx=>by obtain ⟨as,h1,h2⟩:=h fuel cs x hx;exact ⟨as,k _ h1,h2⟩
theorem SM {t:TypeId} {k:IntKind} (ht:P.underlying t=some (.int k)):jL enc P w base spare held t fun as=> ∃i,as=[.int k i]/\(Lit.int k i).wf=true:=
 fun fuel cs x hx=>by
  obtain ⟨n,rfl,h⟩:=DataW.trod_int ht hx
  exact ⟨_,⟨n,rfl,h.2⟩,fun ρ m=>aq.cons (.int k n) aq.nil⟩
theorem agv {t:TypeId} (ht:P.underlying t=some .string):jL enc P w base spare held t fun as=> ∃s,as=[.str s]/\s.length<=maxLen/\ ∀x∈s,x<256:=
 fun fuel cs x hx=>by
  obtain ⟨s,rfl,h⟩:=DataW.trod_string ht hx
  refine ⟨_,⟨s.data.toList.map UInt8.toNat,rfl,?_,?_⟩,fun ρ m=>aq.cons (.str _ s rfl) aq.nil⟩
  . simp;exact h.2
  . intro x hx;simp only[List.mem_map] at hx;obtain ⟨y,_,rfl⟩:=hx;exact y.toNat_lt
theorem Om {t e:TypeId} {es:Nat} {Q:List AV->Prop} (ht:P.underlying t=some (.slice e)) (hc:P.cellsOf e=es) (fE:0<es) (hQ: ∀as,Q as->as.length=es) (h:jL enc P w base spare held e Q):
  jL enc P w base spare held t fun as=> ∃z rs,as=[ro es z rs]/\(∀r∈rs,Q r)/\rs.length<=maxLen:=
 fun fuel cs  x hx=>by
  rcases DataW.trod_slice ht hx with ⟨rfl,_⟩|⟨a,len,cap,elems,rest,n,_,rfl,_,hb,hl,hm,hlen,hel,_,_⟩
  .  exact ⟨_,⟨true,[],rfl,by simp,by simp⟩,fun ρ m=>aq.cons .ai aq.nil⟩
  .  have each: ∀i,∃r row,i<len->(Q r/\w.cells? base (a.add (i*es)) es=some row/\ ∀ρ m,aq ρ m (fun ad=>w.cell? ad) r row):=by
        intro i
        by_cases hi:i<len
        . have h1:=hel i hi
          rw[List.getElem?_eq_getElem (by omega),hc] at h1
          cases h2:w.cells? base (a.add (i*es)) es with
          |none=>rw[h2] at h1;cases h1
          | some row=>
            rw[h2] at h1
            obtain ⟨r,hr,hv⟩:=h n row _ h1
            exact ⟨r,row,fun _=>⟨hr,rfl,hv⟩⟩
        . exact ⟨[],[],fun h=>absurd h hi⟩
     obtain ⟨r,each⟩:=Classical.axiomOfChoice each
     obtain ⟨row,hr⟩:=Classical.axiomOfChoice each
     have XZ:0<len->a.spot=none:=fun h0=>by
        obtain ⟨_,h1,_⟩:=hr 0 h0
        have:=(World.cells?_some h1).2.2 0 fE
        have hl:=(World.cells?_some h1).2.1
        rw[List.getElem?_eq_getElem (by omega)] at this
        simp only[Nat.zero_mul,Addr.add,if_true] at this
        unfold World.cell? at this
        split at this
        . split at this
          . cases this
          . rename_i h;simpa using h
        . cases this
     have afK:((List.range len).map r).length=len:=by simp
     have get: ∀(i:Nat) (c:List AV),((List.range len).map r)[i]? =some c->i<len/\c=r i:=fun i c hi=>by
        rw[List.getElem?_map] at hi
        by_cases h:i<len
        . rw[List.getElem?_range h] at hi;simp at hi;exact ⟨h,hi.symm⟩
        . rw[List.getElem?_eq_none (by simpa using h)] at hi;cases hi
     refine ⟨_,⟨false,(List.range len).map r,rfl,?_,by simp;omega⟩,fun ρ m=>aq.cons ?_ aq.nil⟩
     .  intro q hq
        simp only[List.mem_map,List.mem_range] at hq
        obtain ⟨i,hi,rfl⟩:=hq
        exact (hr i hi).1
     .  have key:ax ρ m (fun ad=>w.cell? ad) (.fl ((List.range len).map r) es) (.slice (some a) ((List.range len).map r).length cap):=by
          refine .fl _ es cap a (fun i j=>((row i)[j]?).getD .nilFunc) (by omega) (fun h0=>XZ ?_) (fun i c hi=> ?_) (fun i j c v hi hj=> ?_) (fun i j c v hi hj=> ?_)
          . apply Classical.byContradiction;intro h;apply h0
            have:len=0:=by omega
            subst this;rfl
          . obtain ⟨h1,rfl⟩:=get i c hi
            exact hQ _ (hr i h1).1
          . obtain ⟨h1,rfl⟩:=get i c hi
            obtain ⟨q1,q2,q3⟩:=hr i h1
            have sN:j<es:=by rw[<-hQ _ q1];exact (List.getElem?_eq_some_iff.1 hj).1
            have q4:=(World.cells?_some q2).2.2 j sN
            have q5:=(World.cells?_some q2).2.1
            have hs:=XZ (by omega)
            have e1:(a.add (i*es)).add j=⟨a.block,a.off+i*es+j,none⟩:=by
              obtain ⟨aA,off,spot⟩:=a
              simp only at hs;subst hs
              unfold Addr.add
              by_cases e1:i*es=0<;>by_cases e2:j=0<;>simp[e1,e2]
            rw[e1] at q4
            show w.cell? _=_
            rw[q4,List.getElem?_eq_getElem (by omega)];rfl
          . obtain ⟨h1,rfl⟩:=get i c hi
            obtain ⟨q1,q2,q3⟩:=hr i h1
            have sN:j<es:=by rw[<-hQ _ q1];exact (List.getElem?_eq_some_iff.1 hj).1
            have q5:=(World.cells?_some q2).2.1
            refine (q3 ρ m).2 j v _ hj ?_
            rw[List.getElem?_eq_getElem (by omega)];rfl
        rw[afK] at key
        exact key
def Jm:List (List AV->Prop)->List (List AV)->Prop
 |[],[]=>True
 |Q::Qs,p::ps=>Q p/\Jm Qs ps
 |_,_=>False
def DN (P:Program) (SN:Nat):Nat->List Field->Bool
 |o,[]=>o==SN
 |o,f::fs=>f.offset==o&&DN P SN (o+P.cellsOf f.type) fs
def MD (enc:TypeId×Value->H) (P:Program) (w:World) (base:Nat) (spare:Nat->Bool) (held:Bool):List TypeId->List (List AV->Prop)->Prop
 |[],[]=>True
 |f::fs,Q::Qs=>jL enc P w base spare held f Q/\MD enc P w base spare held fs Qs
 |_,_=>False
theorem DO {SN n:Nat}: ∀(fs:List Field) (Qs:List (List AV->Prop)) (o:Nat) (cs:List Value),DN P SN o fs=true->MD enc P w base spare held (fs.map (·.type)) Qs->cs.length=SN->
  (∀f∈fs,∃y,DataW.trod enc P w base spare held n f.type ((cs.drop f.offset).take (P.cellsOf f.type))=some y)->
  ∃parts,Jm Qs parts/\ ∀ρ m,aq ρ m (fun ad=>w.cell? ad) parts.flatten (cs.drop o)
 |[],[],o,cs,hc,_,hl,_=>by
  simp only[DN,beq_iff_eq] at hc
  refine ⟨[],trivial,fun ρ m=> ?_⟩
  rw[List.drop_eq_nil_of_le (by omega)];exact aq.nil
 |f::fs,Q::Qs,o,cs,hc,hO,hl,hf=>by
  simp only[DN,Bool.and_eq_true,beq_iff_eq] at hc
  obtain ⟨y,hy⟩:=hf f (by simp)
  obtain ⟨as,hq,hv⟩:=hO.1 n _ y hy
  obtain ⟨parts,hp,Dq⟩:=DO fs Qs _ cs hc.2 hO.2 hl (fun g hg=>hf g (List.mem_cons_of_mem _ hg))
  refine ⟨as::parts,⟨hq,hp⟩,fun ρ m=> ?_⟩
  have e:cs.drop o=(cs.drop f.offset).take (P.cellsOf f.type)++cs.drop (o+P.cellsOf f.type):=by
   rw[hc.1, <-List.drop_drop,List.take_append_drop]
  rw[e,List.flatten_cons]
  exact (hv ρ m).append (Dq ρ m)
def fieldsOf (P:Program) (t:TypeId):List Field:=match P.underlying t with
 |some (.struct fs)=>fs.toList
 |_=>[]
def ME (P:Program) (t:TypeId):Bool:=match P.underlying t with
 |some (.struct _)=>true
 |_=>false
theorem MF {t:TypeId} (ts:List TypeId) {Qs:List (List AV->Prop)} (hs:ME P t=true) (uu:(fieldsOf P t).map (·.type)=ts) (hc:DN P (P.cellsOf t) 0 (fieldsOf P t)=true) (hO:MD enc P w base spare held ts Qs):
  jL enc P w base spare held t fun as=> ∃parts,as=parts.flatten/\Jm Qs parts:=
 fun fuel cs x hx=>by
  obtain ⟨fs,ht⟩: ∃fs,P.underlying t=some (.struct fs):=by
     unfold ME at hs
     cases h:P.underlying t with
     |none=>rw[h] at hs;cases hs
     |some d=>rw[h] at hs;cases d<;>first|exact ⟨_,rfl⟩|cases hs
  have ef:fieldsOf P t=fs.toList:=by unfold fieldsOf;rw[ht]
  rw[ef] at uu hc
  subst uu
  obtain ⟨xs,n,_,_,hl,hxl,hf⟩:=DataW.trod_struct ht hx
  obtain ⟨parts,hp,hv⟩:=DO fs.toList Qs 0 cs hc hO hl (fun f gV=>by
     obtain ⟨i,hi⟩:=List.getElem?_of_mem gV
     have lJ:fs[i]? =some f:=by rw[<-Array.getElem?_toList];exact hi
     have aZ:i<fs.size:=(Array.getElem?_eq_some_iff.1 lJ).1
     exact ⟨xs[i],by rw[hf i f lJ,List.getElem?_eq_getElem (by omega)]⟩)
  exact ⟨_,⟨parts,rfl,hp⟩,fun ρ m=>hv ρ m⟩
end
end Go.Ai
end
section
namespace Go.Ai
open Go
def Quiet (w w':World):Prop:=w'.os=w.os/\w'.tape=w.tape/\w'.output=w.output/\w.heap.size<=w'.heap.size/\ ∀k,k<w.heap.size->w'.heap[k]? =w.heap[k]?
def EW:List AV->St->Option (AV×St)
 |[],st=>some (.bool true,st)
 |_,_=>none
theorem JH {P:Program} {C:Cells} {f:FuncId} {fn:Func} {c:Code} (hf:P.funcs[f]? =some fn) (lT: ¬fn.name= "runtime.NumGoroutine") (hb:fn.body=some c)
  (h: ∀w:World,(∀ad u,C ad=some u->w.cell? ad=some u)->Calls P f #[] w fun e w'=>e= .returned (.bool true)/\Quiet w w'):mC P C f EW where
 mono args st v st' hs:=by
  unfold EW at hs
  split at hs<;>first|(cases hs;done)|skip
  simp only[Option.some.injEq,Prod.mk.injEq] at hs
  rw[<-hs.2];exact Nat.le_refl _
 runs ρ st w args v st' bl hs hW hv:=by
  unfold EW at hs
  split at hs<;>first|(cases hs;done)|skip
  simp only[Option.some.injEq,Prod.mk.injEq] at hs
  obtain ⟨rfl,rfl⟩:=hs
  obtain rfl:=hv.iE
  have bH:(callFunc f ([]:List Value).toArray).run P w= .ok (.enter f #[]) w:=by simp[callFunc,hf,lT,hb]
  rw[bH]
  refine Calls.mono (h w fun ad u ha=>(hW.cj ad u ha).1) fun e w' he=> ?_
  obtain ⟨rfl,h1,h2,h3,h4,h5⟩:=he
  exact ⟨ρ,.bool true,fun _ _=>rfl,Nat.le_refl _,hW.grow h4 h5,⟨h1,h2,h3,h4,fun k hk _=>h5 k hk,fun b x hb=> .inl ⟨b,x,hb,rfl⟩⟩⟩
theorem UM {P:Program} {C:Cells} {call:ak} {f:FuncId} {fn:Func} {c:Code} {args:List AV} {bl:List Value} {b:Bool} {n0:Pos} {bu:St} {w:World}
  (eD:jE P C call) (hC: ∀ad v,C ad=some v->w.cell? ad=some v) (Me: ∀a v,C a=some v-> ∀o,C ⟨a.block,o,none⟩=none->w.cell? ⟨a.block,o,none⟩=none) (hf:P.funcs[f]? =some fn) (lT: ¬fn.name= "runtime.NumGoroutine") (hb:fn.body=some c)
  (ha:aq (fun _=>⟨0,0,0⟩) n0.toNat C args bl) (h:call f args { heap:= .e,next:=n0 }=some (.bool b,bu)):
  Calls P f bl.toArray w fun e w'=>e= .returned (.bool b)/\Quiet w w':=by
 have hr:=eD (fun _=>⟨0,0,0⟩) { heap:= .e,next:=n0 } w f args (.bool b) bu bl h (uw hC Me) ha
 have bH:(callFunc f bl.toArray).run P w= .ok (.enter f bl.toArray) w:=by simp[callFunc,hf,lT,hb]
 rw[bH] at hr
 refine Calls.mono hr fun e w' he=> ?_
 cases e with
 |returned x=>
  obtain ⟨ρ',h1,_,_,_,hE⟩:=he
  have:=h1.gQ;subst this
  exact ⟨rfl,hE.os,hE.tape,hE.output,hE.size,fun k hk=>hE.block k hk fun b x hb=>by rw[T.cG] at hb;cases hb⟩
 |panicked c=>exact he.elim
 |outgrown=>exact he.elim
end Go.Ai
end
section
namespace Go.Ai
open Go Go.ChangeShapes Go.WideShapes Go.ChangeAt Go.RowKit
theorem Quiet.below {w w':World} (h:Quiet w w'):Below w.heap.size w w':=⟨h.1,h.2.1,h.2.2.1,h.2.2.2.1,h.2.2.2.2⟩
section
variable {H : Type} {enc : TypeId × Value -> H} {P : Program}
theorem CR {W W':World} (hl:laidOutB P=true) (hb:Below W.heap.size W W'): ∀{ts:List TypeId} {vs:List Value} {ds:List (DataW H)} {p:List MemPlace},
  DataW.TrodAll enc P W 0 (fun _=>true) true ts vs ds p->(∀t∈ts,P.readableRec t=true/\t<P.types.size)->(∀x∈p,x.block<W.heap.size)->
  DataW.TrodAll enc P W' 0 (fun b=>decide (b<W.heap.size)) true ts vs ds p
 |[],_,_,_,h,_,_=>by
  obtain ⟨rfl,rfl,rfl⟩:=trodAll_nil h
  exact trodAll_mk0
 |t::ts,_,_,_,h,hr,hx=>by
  obtain ⟨v,Xw,d,ds1,a,b,rfl,rfl,rfl,h1,h2⟩:=trodAll_cons h
  exact trodAll_cons_mk (Below.trod hl (hr t (by simp)).1 (hr t (by simp)).2 h1 hb (fun x OP=>hx x (List.mem_append_left _ OP)))
   (CR hl hb h2 (fun t ht=>hr t (List.mem_cons_of_mem _ ht)) (fun x OP=>hx x (List.mem_append_right _ OP)))
theorem RG {f:Func} {s:ChangeSpec} {W W':World} {args:Array Value} {ds gs:List (DataW H)} {before:List MemPlace} {tb:TypeId} (hl:laidOutB P=true)
   (hW:DataW.Whole enc P f.params.toList s.vars false W args.toList ds gs before) (hv:s.vars=[]) (gM:s.fn H (ds++gs)={ results:=[.lit (.bool true)],args:=ds })
   (hr: ∀t∈f.params.toList,P.readableRec t=true/\t<P.types.size) (hB:Below W.heap.size W W') (r4:f.resultTypes= #[tb]) (htb:P.underlying tb=some .bool):
   s.post enc P f false true false false W args (.bool true) W':=by
 have aZ:=hW.lt
 have di:=hW
 obtain ⟨p,q,hA,hV,rfl,RF,Xv⟩:=hW
 have hq:q=[]:=by
   rw[hv] at hV
   cases gs with
   |nil=>exact hV
   |cons g gs=>exact hV.elim
 subst hq
 refine ⟨ds,gs,p++[],[],p,[],di,?_,?_,?_,hB.frame _,fun h=>by cases h⟩
 . rw[gM,r4]
   exact trodAll_cons_mk (shut_bool htb _) trodAll_mk0
 . rw[gM]
   exact CR hl hB hA hr (fun x hx=>aZ x (List.mem_append_left _ hx))
 . rw[gM,hv];rfl
end
end Go.Ai
end
section
namespace Go.Ai
open Go Go.ChangeShapes Go.WideShapes Go.ChangeAt Go.RowKit
section
variable {H : Type} {enc : TypeId × Value -> H} {P : Program} {w : World} {base : Nat} {spare : Nat -> Bool} {held : Bool}
theorem G4 {t:TypeId} {fs:Array Field} {Q:List AV->Prop} {r:Go.Reach} {b0:Nat} {v:Value} {d:DataW H} {p:List MemPlace} (ho:jL enc P w base spare held t Q) (ht:P.underlying t=some (.struct fs))
  (hval:Value.okWide P w r b0 t v) (hd:DataW.Trod enc P w base spare held t v d p): ∃as,Q as/\ ∀ρ n,ax ρ n (fun ad=>w.cell? ad) (.agg as) v:=by
 obtain ⟨cs,rfl,_⟩:=okWide_struct ht hval
 obtain ⟨fuel,hf⟩:=hd
 obtain ⟨as,h1,h2⟩:=ho _ _ _ hf
 refine ⟨as,h1,fun ρ n=> ?_⟩
 have h3:=h2 ρ n
 refine .agg as cs (by rw[h3.1];simp[Value.cells]) fun i x x' hx qb=>h3.2 i x x' hx ?_
 simpa [Value.cells] using qb
theorem aq.two {ρ:Pos->Loc} {n:Nat} {C:Cells} {a b:AV} {a' b':Value} (h1:ax ρ n C a a') (h2:ax ρ n C b b'):aq ρ n C [a,b] [a',b']:=aq.cons h1 (aq.cons h2 aq.nil)
theorem aq.one {ρ:Pos->Loc} {n:Nat} {C:Cells} {a:AV} {a':Value} (h1:ax ρ n C a a'):aq ρ n C [a] [a']:=aq.cons h1 aq.nil
end
end Go.Ai
end
section
namespace Go.Ai
open Go
theorem ax.afL {ρ:Pos->Loc} {n:Nat} {C C':Cells} {v:AV} {x:Value} (hC: ∀ad u,C ad=some u->C' ad=some u) (h:ax ρ n C v x):ax ρ n C' v x:=by
 induction h with
 |bool b=>exact .bool b
 |int k i=>exact .int k i
 |str s bs h=>exact .str s bs h
 |bF=>exact .bF
 |ptr b off h=>exact .ptr b off h
 |fp xs i j es aA base cell hl hc _ ih=>exact .fp xs i j es aA base cell hl (fun i j cs v h1 h2=>hC _ _ (hc i j cs v h1 h2)) ih
 |ai=>exact .ai
 |slice b off len cap es aH a hl hc ha hk=>exact .slice b off len cap es aH a hl hc ha hk
 |fl xs es aH a cell hl hs fE hc _ ih=>exact .fl xs es aH a cell hl hs fE (fun i j cs v h1 h2=>hC _ _ (hc i j cs v h1 h2)) ih
 |gh=>exact .gh
 |map b h=>exact .map b h
 |func f x y x' y' hx hy _ _ RI RJ=>exact .func f x y x' y' hx hy RI RJ
 |av=>exact .av
 |lp=>exact .lp
 |iface t v x _ ih=>exact .iface t v x ih
 |agg l cs hl _ ih=>exact .agg l cs hl ih
 |tuple l cs hl _ ih=>exact .tuple l cs hl ih
def iA (ρ:Pos->Loc) (n:Nat) (C:Cells) (w:World) (v u:AV):Prop:= ∀x,ax ρ n C v x->ax ρ n (fun ad=>w.cell? ad) u x
section
variable {ρ : Pos -> Loc} {C : Cells} {st : St} {w : World}
theorem iA.self {n:Nat} (hC: ∀ad u,C ad=some u->w.cell? ad=some u) (v:AV):iA ρ n C w v v:=fun _ h=>h.afL hC
theorem iA.agg {n:Nat} {l l':List AV} (hl:l.length=l'.length) (h: ∀(i:Nat) (v u:AV),l[i]? =some v->l'[i]? =some u->iA ρ n C w v u):iA ρ n C w (.agg l) (.agg l'):=fun x hx=>by
 cases hx with
 |agg _ cs h1 h2=>
  refine .agg l' cs (by omega) fun i u x hu hx=> ?_
  have hi:i<l.length:=by rw[hl];exact (List.getElem?_eq_some_iff.1 hu).1
  exact h i l[i] u (List.getElem?_eq_getElem hi) hu _ (h2 i _ x (List.getElem?_eq_getElem hi) hx)
theorem iA.slice (hW:bn ρ C st w) {b:Pos} {off len es fz:Nat} {cap:Option Nat} {cs:List AV} (hb:st.heap.get b=some (.cells cs fz)) (hlen:off+len*es<=cs.length) {F:List (List AV)} (hF:F.length=len)
  (fE: ∀(i:Nat) (r:List AV),F[i]? =some r->r.length=es)
  (hr: ∀(i j:Nat) (r:List AV) (u v:AV),F[i]? =some r->r[j]? =some u->cs[off+i*es+j]? =some v->iA ρ st.next.toNat C w v u):
  iA ρ st.next.toNat C w (.slice b off len cap es) (.fl F es):=fun x hx=>by
 cases hx with
 |slice  _ _ _ _ _ aH a hl hc ha hk=>
  have get: ∀(i j:Nat) (r:List AV) (u:AV),F[i]? =some r->r[j]? =some u->i<len/\j<es/\off+i*es+j<cs.length/\0<aH:=fun i j r u h1 h2=>by
   have g1:i<len:=by rw[<-hF];exact (List.getElem?_eq_some_iff.1 h1).1
   have g2:j<es:=by rw[<-fE i r h1];exact (List.getElem?_eq_some_iff.1 h2).1
   have g3:(i+1)*es<=len*es:=Nat.mul_le_mul_right _ g1
   rw[Nat.succ_mul] at g3
   exact ⟨g1,g2,by omega,by omega⟩
  have cell: ∀(i j:Nat) (r:List AV) (u:AV),F[i]? =some r->r[j]? =some u-> ∃v y,cs[off+i*es+j]? =some v/\w.cell? ⟨a.block,a.off+i*es+j,none⟩=some y/\ax ρ st.next.toNat C v y:=fun i j r u h1 h2=>by
   obtain ⟨g1,g2,g3,g4⟩:=get i j r u h1 h2
   obtain ⟨_,rfl,_⟩:=ha (by omega)
   have hv:=List.getElem?_eq_getElem g3
   obtain ⟨y,q1,q2⟩:=hW.cell hb hv
   exact ⟨_,y,hv,by rw[show (ρ b).base+off+i*es+j=(ρ b).base+(off+i*es+j) by omega];exact q1,q2⟩
  have key:ax ρ st.next.toNat (fun ad=>w.cell? ad) (.fl F es) (.slice (some a) F.length aH):=by
   refine .fl F es aH a (fun i j=>(w.cell? ⟨a.block,a.off+i*es+j,none⟩).getD .nilFunc) (by omega) (fun h0=> ?_) fE (fun i j r u h1 h2=> ?_) (fun i j r u h1 h2=> ?_)
   .    cases afM:len with
        |zero=>exfalso;apply h0;rw[afM] at hF;exact List.length_eq_zero_iff.1 hF
        |succ m=>
         obtain ⟨_,rfl,_⟩:=ha (by omega)
         rfl
   .    obtain ⟨v,y,_,q2,_⟩:=cell i j r u h1 h2
        show w.cell? _=_
        rw[q2];rfl
   .    obtain ⟨v,y,q1,q2,q3⟩:=cell i j r u h1 h2
        rw[q2]
        exact hr i j r u v h1 h2 q1 y q3
  rw[hF] at key
  exact key
end
end Go.Ai
end
section
namespace Go.Ai
open Go
def jM (st:St):Nat->AV->AV
 |0,v=>v
 |  d+  1,.slice b off len cap es=>match decide (len=0) with
    |true=> .fl [] es
    |false=>match st.heap.get b with
     |  some (.cells cs _)=>match decide (off+len*es<=cs.length) with
        |true=> .fl ((List.range len).map fun i=>((cs.drop (off+i*es)).take es).map (jM st d)) es
        |false=> .slice b off len cap es
     |_=> .slice b off len cap es
 |  d+1,.ptr b off=>match st.heap.get b with
    |some (.cells cs _)=> .fp [cs.map (jM st d)] 0 off
    |_=> .ptr b off
 |d+1,.agg l=> .agg (l.map (jM st d))
 |d+1,.func f x y=> .func f (x.map (jM st d)) (y.map (jM st d))
 |_,v=>v
theorem Kg (st:St) (d:Nat) (b:Pos) (off len:Nat) (cap:Option Nat) (es:Nat):jM st (d+1) (.slice b off len cap es)=match decide (len=0) with
 |true=> .fl [] es
 |false=>match st.heap.get b with
  |     some (.cells cs _)=>match decide (off+len*es<=cs.length) with
        |true=> .fl ((List.range len).map fun i=>((cs.drop (off+i*es)).take es).map (jM st d)) es
        |false=> .slice b off len cap es
  |_=> .slice b off len cap es:=rfl
theorem Ze (st:St) (d:Nat) (b:Pos) (off:Nat):jM st (d+1) (.ptr b off)=match st.heap.get b with
 |some (.cells cs _)=> .fp [cs.map (jM st d)] 0 off
 |_=> .ptr b off:=rfl
theorem Zf (st:St) (d:Nat) (l:List AV):jM st (d+1) (.agg l)= .agg (l.map (jM st d)):=rfl
theorem Vw (st:St) (d:Nat) (f:FuncId) (x y:List AV):jM st (d+1) (.func f x y)= .func f (x.map (jM st d)) (y.map (jM st d)):=rfl
section
variable {ρ : Pos -> Loc} {C : Cells} {st : St} {w : World}
theorem iA.ptr (hW:bn ρ C st w) {b:Pos} {off fz:Nat} {cs F:List AV} (hb:st.heap.get b=some (.cells cs fz)) (hF:F.length=cs.length)
  (hr: ∀(j:Nat) (u v:AV),F[j]? =some u->cs[j]? =some v->iA ρ st.next.toNat C w v u):iA ρ st.next.toNat C w (.ptr b off) (.fp [F] 0 off):=fun x hx=>by
 cases hx with
 |ptr   _ _ h=>
  have row: ∀(i j:Nat) (r:List AV) (u:AV),[F][i]? =some r->r[j]? =some u->i=0/\ ∃v y,cs[j]? =some v/\w.cell? ⟨(ρ b).aA,(ρ b).base+j,none⟩=some y/\ax ρ st.next.toNat C v y/\F[j]? =some u:=fun i j r u h1 h2=>by
   have hi:i=0:=by have:=(List.getElem?_eq_some_iff.1 h1).1;simp at this;exact this
   subst hi
   simp at h1;subst h1
   have hj:j<cs.length:=by rw[<-hF];exact (List.getElem?_eq_some_iff.1 h2).1
   obtain ⟨y,q1,q2⟩:=hW.cell hb (List.getElem?_eq_getElem hj)
   exact ⟨rfl,_,y,List.getElem?_eq_getElem hj,q1,q2,h2⟩
  have key:ax ρ st.next.toNat (fun ad=>w.cell? ad) (.fp [F] 0 off) (.pointer (some ⟨(ρ b).aA,(ρ b).base+0*cs.length+off,none⟩)):=by
   refine .fp [F] 0 off cs.length (ρ b).aA (ρ b).base (fun _ j=>(w.cell? ⟨(ρ b).aA,(ρ b).base+j,none⟩).getD .nilFunc) (fun i r h1=> ?_) (fun i j r u h1 h2=> ?_) (fun i j r u h1 h2=> ?_)
   .    have hi:i=0:=by have:=(List.getElem?_eq_some_iff.1 h1).1;simp at this;exact this
        subst hi;simp at h1;subst h1;exact hF
   .    obtain ⟨rfl,v,y,_,q2,_⟩:=row i j r u h1 h2
        show w.cell? _=_
        rw[show (ρ b).base+0*cs.length+j=(ρ b).base+j by omega,q2];rfl
   .    obtain ⟨rfl,v,y,q1,q2,q3,q4⟩:=row i j r u h1 h2
        rw[q2]
        exact hr j u v q4 q1 y q3
  rw[show (ρ b).base+0*cs.length+off=(ρ b).base+off by omega] at key
  exact key
theorem iA.jM (hW:bn ρ C st w): ∀(d:Nat) (v:AV),iA ρ st.next.toNat C w v (jM st d v)
 |0,v=>iA.self (fun ad u h=>(hW.cj ad u h).1) v
 |d+    1,v=>   by
  have self:=iA.self (ρ:=ρ) (n:=st.next.toNat) (fun ad u h=>(hW.cj ad u h).1) v
  cases v with
  |slice    b off len cap es=>
   rw[Kg]
   split
   .    rename_i h0
        obtain rfl:=of_decide_eq_true h0
        intro x hx
        cases hx with
        | slice _ _ _ _ _ aH a hl hc ha hk=>
          exact .fl [] es aH a (fun _ _=> .nilFunc) (Nat.zero_le _) (fun h=>absurd rfl h) (fun i c h=>by simp at h) (fun i j c v h=>by simp at h) (fun i j c v h=>by simp at h)
   split
   .    rename_i cs fz hb
        split
        . rename_i hle
          have hle:=of_decide_eq_true hle
          refine iA.slice hW hb hle (by simp) (fun i r hi=> ?_) (fun i j r u v hi hj hv=> ?_)
          . rw[List.getElem?_map] at hi
            by_cases h:i<len
            . rw[List.getElem?_range h] at hi
              simp only[Option.map_some,Option.some.injEq] at hi
              subst hi
              have g3:(i+1)*es<=len*es:=Nat.mul_le_mul_right _ h
              rw[Nat.succ_mul] at g3
              simp;omega
            . rw[List.getElem?_eq_none (by simpa using h)] at hi;cases hi
          . rw[ List.getElem?_map] at hi
            by_cases h:i<len
            . rw[List.getElem?_range h] at hi
              simp only[Option.map_some,Option.some.injEq] at hi
              subst hi
              rw[List.getElem?_map,List.getElem?_take] at hj
              split at hj
              . rw[List.getElem?_drop,hv] at hj
                simp only[Option.map_some,Option.some.injEq] at hj
                subst hj
                exact iA.jM hW d v
              . cases hj
            . rw[List.getElem?_eq_none (by simpa using h)] at hi;cases hi
        . exact self
   .    exact self
  |ptr b off=>
   rw[Ze]
   split
   .    rename_i cs fz hb
        refine iA.ptr hW hb (by simp) (fun j u v hu hv=> ?_)
        rw[List.getElem?_map,hv] at hu
        simp only[Option.map_some,Option.some.injEq] at hu
        subst hu
        exact iA.jM hW d v
   .    exact self
  |agg l=>
   rw[Zf]
   refine iA.agg (by simp) (fun i v u h1 h2=> ?_)
   rw[List.getElem?_map,h1] at h2
   simp only[Option.map_some,Option.some.injEq] at h2
   subst h2
   exact iA.jM hW d v
  |func f x y=>
   rw[Vw]
   intro v' hv
   cases hv with
   |    func _ _ _ x' y' hx hy h1 h2=>
        have one: ∀(l:List AV) (xs:Array Value),(∀(i:Nat) (v:AV) (v':Value),l[i]? =some v->xs[i]? =some v'->ax ρ st.next.toNat C v v')-> ∀(i:Nat) (v:AV) (v':Value),(l.map (Go.Ai.jM st d))[i]? =some v->xs[i]? =some v'->ax ρ st.next.toNat (fun ad=>w.cell? ad) v v':=fun l xs h i u v' hu hx=>by
          rw[List.getElem?_map] at hu
          cases hg:l[i]? with
          |none=>rw[hg] at hu;cases hu
          | some v0=>
            rw[hg] at hu
            simp only[Option.map_some,Option.some.injEq] at hu
            subst hu
            exact iA.jM hW d v0 _ (h i v0 v' hg hx)
        exact .func f _ _ x' y' (by simpa using hx) (by simpa using hy) (one x x' h1) (one y y' h2)
  |_=>exact self
theorem aq.jM (hW:bn ρ C st w) (d:Nat) {l:List AV} {xs:List Value} (h:aq ρ st.next.toNat C l xs):aq ρ st.next.toNat (fun ad=>w.cell? ad) (l.map (Go.Ai.jM st d)) xs:=
 ⟨by rw[<-h.1];simp,fun i u x hu hx=>by
  rw[List.getElem?_map] at hu
  cases hv:l[i]? with
  |none=>rw[hv] at hu;cases hu
  |  some v=>
     rw[hv] at hu
     simp only[Option.map_some,Option.some.injEq] at hu
     subst hu
     exact iA.jM hW d v _ (h.2 i v x hv hx)⟩
end
def eo (v:AV):Prop:= ∀(ρ:Pos->Loc) (n:Nat) (C C':Cells) (x:Value),ax ρ n C v x->ax ρ n C' v x
theorem eo.bool (b:Bool):eo (.bool b):=fun _ _ _ _ _ h=>by cases h;exact .bool b
theorem eo.int (k:IntKind) (i:Int):eo (.int k i):=fun _ _ _ _ _ h=>by cases h;exact .int k i
theorem eo.str (s:List Nat):eo (.str s):=fun _ _ _ _ _ h=>by cases h with|str _ bs h=>exact .str s bs h
theorem eo.bF:eo .bF:=fun _ _ _ _ _ h=>by cases h;exact .bF
theorem eo.ai:eo .ai:=fun _ _ _ _ _ h=>by cases h;exact .ai
theorem eo.gh:eo .gh:=fun _ _ _ _ _ h=>by cases h;exact .gh
theorem eo.av:eo .av:=fun _ _ _ _ _ h=>by cases h;exact .av
theorem eo.ptr (b:Pos) (o:Nat):eo (.ptr b o):=fun _ _ _ _ _ h=>by cases h with|ptr _ _ h=>exact .ptr b o h
theorem eo.map (b:Pos):eo (.map b):=fun _ _ _ _ _ h=>by cases h with|map _ h=>exact .map b h
theorem eo.slice (b:Pos) (o l:Nat) (c:Option Nat) (es:Nat):eo (.slice b o l c es):=fun _ _ _ _ _ h=>by
 cases h with|slice _ _ _ _ _ aH a h1 h2 h3 h4=>exact .slice b o l c es aH a h1 h2 h3 h4
theorem eo.tuple {l:List AV} (hl: ∀v∈l,eo v):eo (.tuple l):=fun _ _ _ _ _ h=>by
 cases h with|tuple _ cs hx h1=>exact .tuple l cs hx fun i v x hv hx=>hl v (List.mem_of_getElem? hv) _ _ _ _ _ (h1 i v x hv hx)
theorem eo.agg {l:List AV} (hl: ∀v∈l,eo v):eo (.agg l):=fun _ _ _ _ _ h=>by
 cases h with|agg _ cs hx h1=>exact .agg l cs hx fun i v x hv hx=>hl v (List.mem_of_getElem? hv) _ _ _ _ _ (h1 i v x hv hx)
theorem eo.func (f:FuncId) {a b:List AV} (ha: ∀v∈a,eo v) (hb: ∀v∈b,eo v):eo (.func f a b):=fun _ _ _ _ _ h=>by
 cases h with
 |func _ _ _ a' b' hx hy h1 h2=>exact .func f a b a' b' hx hy (fun i v x hv hx=>ha v (List.mem_of_getElem? hv) _ _ _ _ _ (h1 i v x hv hx)) (fun i v x hv hx=>hb v (List.mem_of_getElem? hv) _ _ _ _ _ (h2 i v x hv hx))
def Io:AB->Prop
 | .cells cs _=> ∀v∈cs,eo v
 | .map es _=> ∀e∈es,eo e.1/\eo e.2.1
 | .iK _ _=>True
 | .typed _ cs=> ∀v∈cs,eo v
theorem Io.rel {x:AB} (h:Io x) {ρ:Pos->Loc} {n:Nat} {C C':Cells} {L:Loc} {w:World} (k:kj ρ n C L w x):kj ρ n C' L w x:=by
 cases x with
 |cells cs fz=>
  obtain ⟨c,e,fr,h1,h2,h3,h4,h5⟩:=k
  exact ⟨c,e,fr,h1,h2,h3,⟨h4.1,fun i v x hv hx=>h v (List.mem_of_getElem? hv) _ _ _ _ _ (h4.2 i v x hv hx)⟩,h5⟩
 |map es clock=>
  obtain ⟨es',h1,h2,h3⟩:=k
  exact ⟨es',h1,h2,fun i e e' he kJ=>let ⟨a,b,c⟩:=h3 i e e' he kJ;⟨(h e (List.mem_of_getElem? he)).1 _ _ _ _ _ a,(h e (List.mem_of_getElem? he)).2 _ _ _ _ _ b,c⟩⟩
 |iK s pos=>exact k
 |typed t cs=>
  obtain ⟨c,fr,h1,h2,h3,h4,h5⟩:=k
  exact ⟨c,fr,h1,h2,h3,⟨h4.1,fun i v x hv hx=>h v (List.mem_of_getElem? hv) _ _ _ _ _ (h4.2 i v x hv hx)⟩,h5⟩
def T.both {α:Type}:T α->T α->T α
 |t,.e=>t
 | .e,t=>t
 | .n l v r,.n l' v' r'=> .n (T.both l l') (v.or v') (T.both r r')
theorem T.SP {α:Type} (t:T α):T.both t .e=t:=by cases t<;>rfl
theorem T.Gj {α:Type}: ∀(p:Pos) (t t':T α),(T.both t t').get p=(t.get p).or (t'.get p)
 |p,t,.e=>by rw[T.SP,T.cG];simp
 |p,.e,.n l v r=>by rw[T.cG];rfl
 | .h,.n l v r,.n l' v' r'=>rfl
 | .o p,.n l v r,.n l' v' r'=>T.Gj p l l'
 | .i p,.n l v r,.n l' v' r'=>T.Gj p r r'
def T.keep {α:Type} (P:α->Bool):T α->T α
 | .e=> .e
 | .n l v r=> .n (T.keep P l) (v.filter P) (T.keep P r)
theorem T.Gk {α:Type} (P:α->Bool): ∀(p:Pos) (t:T α),(T.keep P t).get p=(t.get p).filter P
 |p,.e=>by rw[T.keep,T.cG];rfl
 | .h,.n l v r=>rfl
 | .o p,.n l v r=>T.Gk P p l
 | .i p,.n l v r=>T.Gk P p r
open Classical in
noncomputable def EX (t:T AB):T AB:=T.keep (fun x=>decide (Io x)) t
theorem SQ {t:T AB} {p:Pos} {x:AB} (h:(EX t).get p=some x):t.get p=some x/\Io x:=by
 unfold EX at h
 rw[T.Gk] at h
 cases hg:t.get p with
 |none=>rw[hg] at h;cases h
 |some y=>
  rw[hg] at h
  simp only[Option.filter] at h
  split at h
  . rename_i hb;cases h;exact ⟨rfl,@of_decide_eq_true _ (Classical.propDecidable _) hb⟩
  . cases h
theorem Zg:EX .e= .e:=rfl
def Shut (n0:Pos) (r:AV×St):Prop:=eo r.1/\n0.toNat<=r.2.next.toNat
open Classical in
noncomputable def DP (call:ak) (f:FuncId) (d:Nat):List AV->St->Option (AV×St):=fun args st=>
 match call f (args.map (jM st d)) { heap:= .e,next:=st.next } with
 |some (v,bu)=>if Shut st.next (v,bu) then some (v,{ heap:=T.both st.heap (EX bu.heap),next:=bu.next }) else none
 |none=>none
theorem Zh {call:ak} {f:FuncId} {d:Nat} {args:List AV} {st:St} {v:AV} {bu:St} (h:call f (args.map (jM st d)) { heap:= .e,next:=st.next }=some (v,bu)) (hs:Shut st.next (v,bu)):
  DP call f d args st=some (v,{ heap:=T.both st.heap (EX bu.heap),next:=bu.next }):=by
 unfold DP;rw[h];simp only;rw[if_pos hs]
theorem Vx {call:ak} {f:FuncId} {d:Nat} {args:List AV} {st:St} {v:AV} (h:call f (args.map (jM st d)) { heap:= .e,next:=st.next }=some (v,{ heap:= .e,next:=st.next })) (hs:eo v):
  DP call f d args st=some (v,st):=by
 rw[Zh h ⟨hs,Nat.le_refl _⟩]
 simp only[Zg,T.SP]
end Go.Ai
end
section
namespace Go.Ai
open Go
theorem Pe (H:Pos->Option AB) (n:Pos) (k k':IntKind) (a b:Int):aB.run H n .minB [.int k a,.int k' b]=some (.val (.int k (min a b))):=by
 show some (b6.val (.int k (match tT b a with|true=>b|false=>a)))=_
 rw[fP]
 by_cases h:b<a
 . rw[decide_eq_true h];simp only;rw[Int.min_eq_right (by omega)]
 . rw[decide_eq_false h];simp only;rw[Int.min_eq_left (by omega)]
theorem Zi (H:Pos->Option AB) (n:Pos) (q:iI) (k:IntKind) (a b:Int) (hb:b≠0):aB.run H n (.bin .quo q) [.int k a,.int k b]=some (.val (.int k (aW k (a.tdiv b)))):=by
 simp[aB.run,gD,mz,dJ,mW,hb]
theorem Zj (H:Pos->Option AB) (n:Pos) (q:iI) (k:IntKind) (a b:Int) (hb:b≠0):aB.run H n (.bin .rem q) [.int k a,.int k b]=some (.val (.int k (a.tmod b))):=by
 simp[aB.run,gD,mz,dJ,mW,hb]
section
variable {R : Type} (c : ak) (K : AV -> St -> Option R) (st : St)
@[simp] theorem Pg (k k':IntKind) (a b:Int):ag c .minB [.int k a,.int k' b] st K=K (.int k (min a b)) st:=bQ c K (fun H n=>Pe H n k k' a b) st
theorem Zk (q:iI) (k:IntKind) (a b:Int) (hb:b≠0):ag c (.bin .quo q) [.int k a,.int k b] st K=K (.int k (aW k (a.tdiv b))) st:=bQ c K (fun H n=>Zi H n q k a b hb) st
theorem Zl (q:iI) (k:IntKind) (a b:Int) (hb:b≠0):ag c (.bin .rem q) [.int k a,.int k b] st K=K (.int k (a.tmod b)) st:=bQ c K (fun H n=>Zj H n q k a b hb) st
@[simp] theorem iZ (q:iI) (k:IntKind) (a:Int):ag c (.bin .quo q) [.int k a,.int k 2] st K=K (.int k (aW k (a.tdiv 2))) st:=Zk c K st q k a 2 (by decide)
@[simp] theorem cX (q:iI) (k:IntKind) (a:Int):ag c (.bin .rem q) [.int k a,.int k 2] st K=K (.int k (a.tmod 2)) st:=Zl c K st q k a 2 (by decide)
end
end Go.Ai
end
section
namespace Go.Ai
open Go
def aF:AV->Option Pos
 | .slice b _ n cap _=>if cap=some 0/\n=0 then none else some b
 |_=>none
theorem DQ {b b':Pos} {off n es:Nat} {cap:Option Nat} (h:aF (.slice b off n cap es)=some b'):b=b':=by
 simp only[aF] at h
 split at h
 . cases h
 . exact Option.some.inj h
theorem o3 (b:Pos) (off n es:Nat):aF (.slice b off n none es)=some b:=by simp[aF]
theorem kF (b:Pos) (off es:Nat):aF (.slice b off 0 (some 0) es)=none:=by simp[aF]
def QS (es:Nat) (s:St) (v:AV) (rows:List (List AV)):Prop:=
 (v= .ai/\rows=[])\/(∃b off cap cs,v= .slice b off rows.length cap es/\s.heap.get b=some (.cells cs 0)/\off+rows.length*es<=cs.length/\(cs.drop off).take (rows.length*es)=rows.flatten/\(cap=none\/cap=some rows.length))\/
    (∃b off,v= .slice b off 0 (some 0) es/\rows=[])
theorem QS.nil {es:Nat} {s:St}:QS es s .ai []:= .inl ⟨rfl,rfl⟩
theorem QS.mono {es:Nat} {s s':St} {v:AV} {rows:List (List AV)} (h:QS es s v rows) (hk: ∀b x,aF v=some b->s.heap.get b=some x->s'.heap.get b=some x):QS es s' v rows:=by
 rcases h with ⟨rfl,rfl⟩|⟨b,off,cap,cs,rfl,h1,h2,h3,h4⟩|⟨b,off,rfl,rfl⟩
 . exact .inl ⟨rfl,rfl⟩
 . by_cases h0:cap=some 0/\rows.length=0
   . obtain ⟨rfl,h0⟩:=h0
     refine .inr (.inr ⟨b,off,by rw[h0],List.eq_nil_of_length_eq_zero h0⟩)
   . exact .inr (.inl ⟨b,off,cap,cs,rfl,hk b _ (by simp only[aF];rw[if_neg h0]) h1,h2,h3,h4⟩)
 . exact .inr (.inr ⟨b,off,rfl,rfl⟩)
theorem QS.len {es:Nat} {s:St} {v:AV} {rows:List (List AV)} (h:QS es s v rows):fH v=some rows.length:=by
 rcases h with ⟨rfl,rfl⟩|⟨b,off,cap,cs,rfl,_⟩|⟨b,off,rfl,rfl⟩<;>rfl
theorem QS.lt {es:Nat} {s:St} {v:AV} {rows:List (List AV)} (h:QS es s v rows) (hw:Wf s) {b:Pos} (hb:aF v=some b):b.toNat<s.next.toNat:=by
 rcases h with ⟨rfl,rfl⟩|⟨b',off,cap,cs,rfl,h1,_⟩|⟨b',off,rfl,rfl⟩
 . cases hb
 . obtain rfl:=DQ hb;exact hw _ _ h1
 . rw[kF] at hb;cases hb
theorem QS.first {es:Nat} {s:St} {v:AV} {rows:List (List AV)} (h:QS es s v rows) (hr: ∀r∈rows,r.length=es):ec es rows.length (fun b=>s.heap.get b) v=some rows.flatten:=by
 rcases h with ⟨rfl,rfl⟩|⟨b,off,cap,cs,rfl,h1,h2,h3,h4⟩|⟨b,off,rfl,rfl⟩
 . rfl
 rotate_left
 . simp[ec,ir]
 . by_cases h0:rows.length*es=0
   . simp only[ec,ir,decide_eq_true h0]
     have:rows.flatten=[]:=by rw[<-h3,h0];simp
     rw[this]
   . simp only[ec,ir,decide_eq_false h0,h1]
     unfold cut
     rw[iq,decide_eq_true h2]
     simp only
     rw[h3]
theorem QS.app {R:Type} {c:ak} {es bytes:Nat} {s:St} {v:AV} {rows:List (List AV)} (hw:Wf s) (h:QS es s v rows) (hr: ∀r∈rows,r.length=es) {q:Pos} {row:List AV} (hq:s.heap.get q=some (.cells row 0)) (eX:row.length=es) (h1:aX row=true)
   (fE:es≠0) (hb:(2*(rows.length+1)+768)*bytes<=281474976710656) (hn:rows.length<=4000000):
   ∃ s5,(∀(K:AV->St->Option R),ag c (.append es bytes) [v,.slice q 0 1 (some 1) es] s K=K (.slice s.next 0 (rows.length+1) none es) s5)/\QS es s5 (.slice s.next 0 (rows.length+1) none es) (rows++[row])/\
     Wf s5/\s5.next=s.next.succ/\(∀p,aF v≠some p->p.toNat<s.next.toNat->s5.heap.get p=s.heap.get p)/\s5.heap.get s.next=some (.cells (rows.flatten++row) 0):=by
 have hx:ec es 1 (fun b=>s.heap.get b) (.slice q 0 1 (some 1) es)=some row:=by
   simp only[ec,ir,Nat.one_mul,decide_eq_false fE,hq]
   exact ig eX
 have ho:=h.first hr
 have hlen:rows.flatten.length=rows.length*es:=by
   clear h ho hn hb
   induction rows with
   |nil=>simp
   | cons r rows ih=>
     have:=ih (fun x hx=>hr x (List.mem_cons_of_mem _ hx))
     have h2:=hr r (by simp)
     simp only[List.flatten_cons,List.length_append,List.length_cons,Nat.succ_mul];omega
 have new: ∀(s5:St),s5.heap.get s.next=some (.cells (rows.flatten++row) 0)->QS es s5 (.slice s.next 0 (rows.length+1) none es) (rows++[row]):=fun s5 hs=>by
   refine .inr (.inl ⟨s.next,0,none,rows.flatten++row,by simp,hs,?_,?_,.inl rfl⟩)
   . simp only[List.length_append,List.length_cons,List.length_nil,Nat.zero_add,Nat.add_mul,Nat.one_mul,hlen,eX];omega
   . simp only[List.drop_zero,List.flatten_append,List.flatten_cons,List.flatten_nil,List.append_nil]
     refine List.take_of_length_le ?_
     simp only[List.length_append,List.length_cons,List.length_nil,Nat.zero_add,Nat.add_mul,Nat.one_mul,hlen,eX];omega
 have bC:(2*(rows.length+1)+768)*bytes<=281474976710656:=hb
 have Kh:rows.length+1<=9223372036854775807:=by omega
 rcases h with ⟨rfl,rfl⟩|⟨b,off,cap,cs,rfl,g1,g2,g3,g4⟩|⟨b,off,rfl,rfl⟩
 rotate_right
 . have run:aB.run (fun b=>s.heap.get b) s.next (.append es bytes) [.slice b off 0 (some 0) es,.slice q 0 1 (some 1) es]=some (.aE (.slice s.next 0 (0+1) none es) none none (some (.cells ([]++row) 0))):=by
     have h2: ¬(0+1<=0):=by omega
     have ho2:ec es 0 (fun b=>s.heap.get b) (.slice b off 0 (some 0) es)=some []:=by simp[ec,ir]
     simp only[aB.run,gW]
     rw[show fH (.slice b off 0 (some 0) es)=some 0 from rfl,show fH (.slice q 0 1 (some 1) es)=some 1 from rfl]
     have kI:(2*(0+1)+768)*bytes<=281474976710656:=by simpa using hb
     simp only[iq,ir,decide_eq_true kI,decide_eq_false h2,hx,ho2]
     simp
   refine ⟨ay s (.cells row 0),fun K=> ?_,?_,fX hw,rfl,fun p _ hp=>kD hp,by simpa using bh s (.cells row 0)⟩
   . unfold ag bS;simp only[List.length_nil] at run ⊢; rw[run];rfl
   . simpa using new (ay s (.cells row 0)) (by simpa using bh s (.cells row 0))
 . refine ⟨ay s (.cells row 0),fun K=>Vv c K (m:=1) rfl (by omega) (by simpa using hb) (by omega) hx,?_,fX hw,rfl,fun p _ hp=>kD hp,by simpa using bh s (.cells row 0)⟩
   simpa using new (ay s (.cells row 0)) (by simpa using bh s (.cells row 0))
 . rcases g4 with rfl|rfl
   . have run:aB.run (fun b=>s.heap.get b) s.next (.append es bytes) [.slice b off rows.length none es,.slice q 0 1 (some 1) es]=some (.aE (.slice s.next 0 (rows.length+1) none es) (some b) none (some (.cells (rows.flatten++row) (0 - off)))):=by
        simp only[aB.run,gW]
        rw[show fH (.slice b off rows.length none es)=some rows.length from rfl,show fH (.slice q 0 1 (some 1) es)=some 1 from rfl]
        simp only[iq,ir,decide_eq_true bC,decide_eq_true Kh,hx,g1,ho,h1]
        simp
     refine ⟨dst s b (.cells (rows.flatten++row) 0),fun K=> ?_,new _ (Pd _ _ _),adn hw,rfl,fun p hp hl=>QB (fun e=>hp (by rw[e,o3])) hl,Pd _ _ _⟩
     unfold ag bS;rw[run];simp only[Nat.zero_sub];rfl
   . have h2: ¬(rows.length+1<=rows.length):=by omega
     have run:aB.run (fun b=>s.heap.get b) s.next (.append es bytes) [.slice b off rows.length (some rows.length) es,.slice q 0 1 (some 1) es]=some (.aE (.slice s.next 0 (rows.length+1) none es) none none (some (.cells (rows.flatten++row) 0))):=by
        simp only[aB.run,gW]
        rw[show fH (.slice b off rows.length (some rows.length) es)=some rows.length from rfl,show fH (.slice q 0 1 (some 1) es)=some 1 from rfl]
        simp only[iq,ir,decide_eq_true bC,decide_eq_true Kh,decide_eq_false h2,hx,ho]
     refine ⟨ay s (.cells (rows.flatten++row) 0),fun K=> ?_,new _ (bh _ _),fX hw,rfl,fun p _ hp=>kD hp,bh _ _⟩
     unfold ag bS;rw[run];rfl
theorem EY {R:Type} {c:ak} {es:Nat} {z:List AV} {x:AV} (hz:z.length=es) (hx:x.cells.length=es) (s:St) (K:AV->St->Option R):
  ag c (.buildSlice es 1 z [0]) [x] s K=K (.slice s.next 0 1 (some 1) es) (ay s (.cells x.cells 0)):=by
 have:fk (cV z 1) ([0].map fun i=>(i*es,es)) [x]=some x.cells:=by
  simp only[List.map_cons,List.map_nil,Nat.zero_mul,cV,List.append_nil,fk,ir,iq,hx,decide_true,Nat.zero_add,hz,Nat.le_refl]
  simp only[aO,List.take_zero,List.nil_append,Nat.zero_add]
  rw[List.drop_of_length_le (by omega),List.append_nil]
 rw[aR,this];rfl
structure Mk (es:Nat) (s0 s:St) (v:AV) (rows:List (List AV)):Prop where
 lZ:Wf s0
 aS:Grew s0 s
 own:QS es s v rows
 new: ∀b,aF v=some b->s0.next.toNat<=b.toNat
 row: ∀r∈rows,r.length=es
 cap: ∀b off n cp e,v= .slice b off n cp e->cp=none\/(n=0/\cp=some 0)
 tight: ∀b,aF v=some b->s.heap.get b=some (.cells rows.flatten 0)
theorem Mk.start {es:Nat} {s0 s:St} (h0:Wf s0) (hg:Grew s0 s):Mk es s0 s .ai []:=⟨h0,hg,QS.nil,fun b h=>(by cases h),fun r h=>(by cases h),fun b off n cp e h=>(by cases h),fun b h=>(by cases h)⟩
theorem Mk.grow {es:Nat} {s0 s s':St} {v:AV} {rows:List (List AV)} (h:Mk es s0 s v rows) (hg:Grew s s'):Mk es s0 s' v rows:=
 ⟨h.lZ,h.aS.trans hg,h.own.mono fun b x _ hx=>hg.get hx,h.new,h.row,h.cap,fun b hb=>hg.get (h.tight b hb)⟩
theorem Mk.push {R:Type} {c:ak} {es bytes:Nat} {s0 s:St} {v:AV} {rows:List (List AV)} (h:Mk es s0 s v rows) {z:List AV} {x:AV} (hz:z.length=es) (hx:x.cells.length=es) (h1:aX x.cells=true) (fE:es≠0)
   (hb:(2*(rows.length+1)+768)*bytes<=281474976710656) (hn:rows.length<=4000000):
   ∃ s5 v',(∀(K:AV->St->Option R),ag c (.buildSlice es 1 z [0]) [x] s (fun y t=>ag c (.append es bytes) [v,y] t K)=K v' s5)/\Mk es s0 s5 v' (rows++[x.cells])/\
     (∀p b,aF v≠some p->s.heap.get p=some b->s5.heap.get p=some b)/\ ∀b,aF v'=some b->s.next.toNat<=b.toNat:=by
 have hw:=h.aS.wf
 have fK:Wf (ay s (.cells x.cells 0)):=fX hw
 have g1:=Grew.ay hw (.cells x.cells 0)
 obtain ⟨s5,a1,a2,a3,a4,a5,a6⟩:=QS.app (R:=R) (c:=c) (bytes:=bytes) fK (h.own.mono fun b x _ hx=>g1.get hx) h.row (bh s (.cells x.cells 0)) hx h1 fE hb hn
 have keep: ∀p b,aF v≠some p->s.heap.get p=some b->s5.heap.get p=some b:=fun p b hp hg=>by
   have aZ:=hw _ _ hg
   rw[a5 p hp (by rw[dx,Pos.az];omega)]
   exact g1.get hg
 refine ⟨s5,_,fun K=> ?_,⟨h.lZ,⟨a3,fun p b hg=> ?_,?_⟩,a2,fun b hb=> ?_,fun r hr=> ?_,fun b off n cp e he=> ?_,fun b hb=> ?_⟩,keep,fun b hb=> ?_⟩
 . rw[EY hz hx,a1]
 . have uA:=h.aS.get hg
   refine keep p b (fun e=> ?_) uA
   have:=h.new p e
   have:=h.lZ p b hg
   omega
 . have:=h.aS.next;rw[a4,dx,Pos.az,Pos.az];omega
 . rw[o3] at hb;cases hb;have:=h.aS.next;rw[dx,Pos.az];omega
 . rcases List.mem_append.1 hr with hr|hr
   . exact h.row r hr
   . simp at hr;subst hr;exact hx
 . cases he;exact .inl rfl
 . rw[o3] at hb;cases hb;rw[a6];simp
 . rw[o3] at hb;cases hb;rw[dx,Pos.az];omega
theorem r5 {b:Pos} {off n es:Nat} (h:Plain (.slice b off n none es)):False:=by
 have h1:ax (fun _=>⟨0,0,off+n*es⟩) (b.toNat+1) (fun _=>none) (.slice b off n none es) (.slice (some ⟨0,0+off,none⟩) n n):=
  .slice b off n none es n _ (Nat.le_refl _) (fun c hc=>by cases hc) (fun _=>⟨by omega,rfl,by simp⟩) (fun _=>by omega)
 have h2:=h _ (fun _=>⟨0,0,0⟩) _ 0 _ _ h1
 cases h2 with
 |slice _ _ _ _ _ _ _ _ _ _ hk=>exact absurd (hk rfl) (by omega)
theorem Mk.tidy {es:Nat} {s s':St} {v:AV} {rows:List (List AV)} (h:Mk es s s' v rows): ∃ij,Go.Ai.tidy s (v,s')=(v,ij)/\Mk es s ij v rows:=by
 unfold Go.Ai.tidy
 by_cases hp:Plain (v,s').1/\dz s (v,s').2
 . rw[if_pos hp]
   refine ⟨s,rfl,?_⟩
   rcases h.own with ⟨rfl,rfl⟩|⟨b,off,cap,cs,rfl,_⟩|⟨b,off,rfl,rfl⟩
   . exact Mk.start h.lZ (Grew.refl h.lZ)
   . rcases h.cap _ _ _ _ _ rfl with rfl|⟨h0,rfl⟩
     . exact (r5 hp.1).elim
     . exact ⟨h.lZ,Grew.refl h.lZ,.inr (.inr ⟨b,off,by rw[h0],List.eq_nil_of_length_eq_zero h0⟩),fun b hb=>(by rw[h0,kF] at hb;cases hb),h.row,h.cap,fun b hb=>(by rw[h0,kF] at hb;cases hb)⟩
   . exact ⟨h.lZ,Grew.refl h.lZ,.inr (.inr ⟨b,off,rfl,rfl⟩),fun b hb=>(by rw[kF] at hb;cases hb),h.row,h.cap,fun b hb=>(by rw[kF] at hb;cases hb)⟩
 . rw[if_neg hp];exact ⟨s',rfl,h⟩
end Go.Ai
end
section
namespace Go.Ai
open Go
theorem QS.jM {es d:Nat} {s:St} {v:AV} {rows:List (List AV)} (h:QS es s v rows) (hr: ∀r∈rows,r.length=es):
   ∃z,Go.Ai.jM s (d+1) v=ro es z (rows.map fun r=>r.map (Go.Ai.jM s d)):=by
 rcases h with ⟨rfl,rfl⟩|⟨b,off,cap,cs,rfl,h1,h2,h3,h4⟩|⟨b,off,rfl,rfl⟩
 . exact ⟨true,rfl⟩
 rotate_left
 . exact ⟨false,rfl⟩
 . refine ⟨false,?_⟩
   by_cases h0:rows.length=0
   . obtain rfl:=List.eq_nil_of_length_eq_zero h0
     rfl
   rw[Kg,decide_eq_false h0]
   simp only
   rw[h1]
   simp only[decide_eq_true h2]
   show AV.fl _ _=AV.fl _ _
   congr 1
   refine List.ext_getElem (by simp) fun i p1 p2=> ?_
   simp only[List.length_map,List.length_range] at p1
   simp only[List.getElem_map,List.getElem_range]
   congr 1
   have key: ∀(rows:List (List AV)) (i:Nat) (hi:i<rows.length),(∀r∈rows,r.length=es)->((rows.flatten).drop (i*es)).take es=rows[i]:=by
     intro rows
     induction rows with
     |nil=>intro i hi;simp at hi
     |  cons r rows ih=>
        intro i hi hr
        have hl:=hr r (by simp)
        cases i with
        |zero=>simp[<-hl]
        |succ i=>
         have:=ih i (by simpa using hi) (fun x hx=>hr x (List.mem_cons_of_mem _ hx))
         rw[List.flatten_cons,Nat.succ_mul,Nat.add_comm, <-hl,List.drop_append]
         simp only[List.getElem_cons_succ]
         rw[<-this,hl]
         simp[List.drop_eq_nil_of_le (show r.length<=es+i*es by omega)]
   rw[<-key rows i p1 hr, <-h3]
   rw[List.drop_take,List.take_take,List.drop_drop]
   congr 1
   have:(i+1)*es<=rows.length*es:=Nat.mul_le_mul_right _ p1
   rw[Nat.succ_mul] at this
   omega
end Go.Ai
end
section
namespace Go.Ai
open Go
section
variable {R : Type} (c : ak) (K : AV -> St -> Option R) (st : St)
theorem tO {b:Pos} {off len es es':Nat} {cap:Option Nat} {k:IntKind} {i:Nat} (h:i<len):ag c (.idxA es none) [.slice b off len cap es',.int k (i:Int)] st K=K (.ptr b (off+i*es)) st:=
 bQ c K (fun H n=>by
  simp only[aB.run,pz,mE]
  have:Nat.blt i len=true:=by rw[Nat.blt_eq];exact h
  rw[this]) st
theorem Gl (b:Pos) (off len es:Nat) (cap:Option Nat):ag c (.lenB .l) [.slice b off len cap es] st K=K (.int .i64 (len:Int)) st:=bQ c K (fun H n=>rfl) st
theorem SS {b:Pos} {off len es:Nat} {cap:Option Nat} (h:1<=len) (hc: ∀x,cap=some x->len<=x):
  ag c (.sliceL es true false false) [.slice b off len cap es,.int .i64 1] st K=K (.slice b (off+1*es) (len - 1) (cap.map (· - 1)) es) st:=
 bQ c K (fun H n=>by
  have hb:bounds true false false [.int .i64 1]=some (some 1,none,none):=rfl
  simp only[aB.run,oP,hb,ir,iq,decide_true,Option.getD_some,Option.getD_none,decide_eq_true h]
  cases cap with
  |none=>simp
  |some x=>simp[hc x rfl]) st
end
theorem BV {rows:List (List AV)} {es:Nat} (hr: ∀r∈rows,r.length=es): ∀(i j:Nat) (r:List AV) (u:AV),rows[i]? =some r->r[j]? =some u->rows.flatten[i*es+j]? =some u:=by
 induction rows with
 |nil=>intro i j r u h;simp at h
 |cons r0 rows ih=>
  intro i j r u h1 h2
  have hl:=hr r0 (by simp)
  cases i with
  |zero=>
   simp at h1;subst h1
   have:=(List.getElem?_eq_some_iff.1 h2).1
   rw[List.flatten_cons,Nat.zero_mul,Nat.zero_add,List.getElem?_append_left this];exact h2
  |succ i=>
   rw[List.flatten_cons,List.getElem?_append_right (by rw[Nat.succ_mul];omega)]
   rw[show (i+1)*es+j - r0.length=i*es+j by rw[Nat.succ_mul];omega]
   exact ih (fun x hx=>hr x (List.mem_cons_of_mem _ hx)) i j r u (by simpa using h1) h2
theorem QS.at {R:Type} {c:ak} {es:Nat} {s:St} {v:AV} {rows:List (List AV)} (h:QS es s v rows) (hr: ∀r∈rows,r.length=es) (fE:es≠0) {i:Nat} (hi:i<rows.length):
   ∃b o cs,(∀(K:AV->St->Option R) (k:IntKind) (s1:St),ag c (.idxA es none) [v,.int k (i:Int)] s1 K=K (.ptr b o) s1)/\aF v=some b/\s.heap.get b=some (.cells cs 0)/\ ∀j u,rows[i][j]? =some u->cs[o+j]? =some u:=by
 rcases h with ⟨rfl,rfl⟩|⟨b,off,cap,cs,rfl,g1,g2,g3,g4⟩|⟨b,off,rfl,rfl⟩
 . simp at hi
 rotate_left
 . simp at hi
 . refine ⟨b,off+i*es,cs,fun K k s1=>tO c K s1 hi,by simp only[aF];rw[if_neg (by omega)],g1,fun j u hj=> ?_⟩
   have X0:=hr rows[i] (List.getElem_mem hi)
   have sN:j<es:=by rw[<-X0];exact (List.getElem?_eq_some_iff.1 hj).1
   have:=BV hr i j rows[i] u (List.getElem?_eq_getElem hi) hj
   rw[<-g3,List.getElem?_take] at this
   split at this
   . rw[List.getElem?_drop] at this;rw[<-this];congr 1;omega
   . cases this
theorem QS.tail {R:Type} {c:ak} {es:Nat} {s:St} {v:AV} {r:List AV} {rows:List (List AV)} (h:QS es s v (r::rows)) (hr:r.length=es):
   ∃v',(∀(K:AV->St->Option R) (s1:St),ag c (.sliceL es true false false) [v,.int .i64 1] s1 K=K v' s1)/\QS es s v' rows/\ ∀b,aF v'=some b->aF v=some b:=by
 rcases h with ⟨rfl,h⟩|⟨b,off,cap,cs,rfl,g1,g2,g3,g4⟩|⟨b,off,rfl,h⟩
 . cases h
 rotate_left
 . cases h
 . refine ⟨.slice b (off+1*es) rows.length (cap.map (· - 1)) es,fun K s1=> ?_,.inr (.inl ⟨b,off+1*es,cap.map (· - 1),cs,rfl,g1,?_,?_,?_⟩),fun b' hb=>by
     obtain rfl:=DQ hb
     simp only[aF,List.length_cons];rw[if_neg (by omega)]⟩
   . rw[SS c K s1 (by simp) (fun x hx=>by rcases g4 with rfl|rfl<;>cases hx;exact Nat.le_refl _)];simp
   . simp only[List.length_cons,Nat.succ_mul] at g2;omega
   . have:((cs.drop off).take ((r::rows).length*es)).drop es=rows.flatten:=by rw[g3,List.flatten_cons, <-hr];simp
     rw[<-this,List.drop_take,List.drop_drop]
     congr 1
     . simp only[List.length_cons,Nat.succ_mul];omega
     . congr 1;omega
   . rcases g4 with rfl|rfl
     . exact .inl rfl
     . right;simp
theorem QS.push {R:Type} {c:ak} {es bytes:Nat} {s:St} {v:AV} {rows:List (List AV)} (hw:Wf s) (h:QS es s v rows) (hr: ∀r∈rows,r.length=es) {z:List AV} {x:AV} (hz:z.length=es) (hx:x.cells.length=es) (h1:aX x.cells=true) (fE:es≠0)
   (hb:(2*(rows.length+1)+768)*bytes<=281474976710656) (hn:rows.length<=4000000):
   ∃s5 v',(∀(K:AV->St->Option R),ag c (.buildSlice es 1 z [0]) [x] s (fun y t=>ag c (.append es bytes) [v,y] t K)=K v' s5)/\QS es s5 v' (rows++[x.cells])/\Wf s5/\s.next.toNat<=s5.next.toNat/\
    (∀p b,aF v≠some p->s.heap.get p=some b->s5.heap.get p=some b)/\ ∀b,aF v'=some b->s.next.toNat<=b.toNat:=by
 have fK:Wf (ay s (.cells x.cells 0)):=fX hw
 have g1:=Grew.ay hw (.cells x.cells 0)
 obtain ⟨s5,a1,a2,a3,a4,a5,_⟩:=QS.app (R:=R) (c:=c) (bytes:=bytes) fK (h.mono fun b x _ hx=>g1.get hx) hr (bh s (.cells x.cells 0)) hx h1 fE hb hn
 refine ⟨s5,_,fun K=>by rw[EY hz hx,a1],a2,a3,by rw[a4,dx,Pos.az,Pos.az];omega,fun p b hp hg=> ?_,fun b hb=> ?_⟩
 . have aZ:=hw _ _ hg
   rw[a5 p hp (by rw[dx,Pos.az];omega)]
   exact g1.get hg
 . rw[o3] at hb;cases hb;rw[dx,Pos.az];omega
theorem QS.lenB {R:Type} {c:ak} {es:Nat} {s:St} {v:AV} {rows:List (List AV)} (h:QS es s v rows) (K:AV->St->Option R) (s1:St):ag c (.lenB .l) [v] s1 K=K (.int .i64 (rows.length:Int)) s1:=by
 rcases h with ⟨rfl,rfl⟩|⟨b,off,cap,cs,rfl,_⟩|⟨b,off,rfl,rfl⟩
 . exact bQ c K (fun H n=>rfl) s1
 . exact Gl c K s1 _ _ _ _ _
 . exact Gl c K s1 _ _ _ _ _
end Go.Ai
end
section
namespace Go.Ai
open Go
def ku (v:AV):Prop:= ∃N0 K0:Nat,∀N K:Nat,N0<=N->K0<=K-> ∃x,ax (fun _=>⟨0,0,K⟩) N (fun _=>none) v x
theorem ku.int (k:IntKind) (i:Int):ku (.int k i):=⟨0,0,fun _ _ _ _=>⟨_,.int k i⟩⟩
theorem ku.bool (b:Bool):ku (.bool b):=⟨0,0,fun _ _ _ _=>⟨_,.bool b⟩⟩
theorem ku.ai:ku .ai:=⟨0,0,fun _ _ _ _=>⟨_,.ai⟩⟩
theorem ku.str {s:List Nat} (h: ∀x∈s,x<256):ku (.str s):=⟨0,0,fun _ _ _ _=>⟨.string ⟨(s.map UInt8.ofNat).toArray⟩,.str s _ (by
 show (s.map UInt8.ofNat).toArray.toList.map UInt8.toNat=s
 simp only[List.map_map]
 conv=>rhs;rw[<-List.map_id s]
 refine List.map_congr_left fun c hc=> ?_
 have:=h c hc
 simp[UInt8.toNat_ofNat]
 omega)⟩⟩
theorem ku.slice (b:Pos) (off n es:Nat):ku (.slice b off n none es):=⟨b.toNat+1,off+n*es,fun N K hN hK=>⟨.slice (some ⟨0,0+off,none⟩) n n,
 .slice b off n none es n _ (Nat.le_refl _) (fun c hc=>by cases hc) (fun _=>⟨by omega,rfl,by simpa using hK⟩) (fun _=>by omega)⟩⟩
theorem ku.zero (b:Pos) (off es:Nat):ku (.slice b off 0 (some 0) es):=⟨0,0,fun N K _ _=>⟨.slice (some ⟨0,0,none⟩) 0 0,
 .slice b off 0 (some 0) es 0 _ (Nat.le_refl _) (fun c hc=>by cases hc;rfl) (fun h=>absurd rfl h) (fun h=>by cases h)⟩⟩
theorem inst_list: ∀{l:List AV},(∀v∈l,ku v)-> ∃N0 K0:Nat,∀N K:Nat,N0<=N->K0<=K-> ∃xs,aq (fun _=>⟨0,0,K⟩) N (fun _=>none) l xs
 |[],_=>⟨0,0,fun _ _ _ _=>⟨[],aq.nil⟩⟩
 |v::l,h=>by
  obtain ⟨N1,K1,h1⟩:=h v (by simp)
  obtain ⟨N2,K2,h2⟩:=inst_list (fun u hu=>h u (List.mem_cons_of_mem _ hu))
  refine ⟨max N1 N2,max K1 K2,fun N K hN hK=> ?_⟩
  obtain ⟨x,hx⟩:=h1 N K (by omega) (by omega)
  obtain ⟨xs,gv⟩:=h2 N K (by omega) (by omega)
  exact ⟨x::xs,aq.cons hx gv⟩
theorem CS {l:List AV} (hi: ∀v∈l,ku v) {b:Pos} {off n es:Nat} (hm:AV.slice b off n none es∈l): ¬Plain (.agg l):=fun h=>by
 obtain ⟨N0,K0,h1⟩:=inst_list hi
 obtain ⟨xs,hx⟩:=h1 N0 K0 (Nat.le_refl _) (Nat.le_refl _)
 have h2:ax (fun _=>⟨0,0,K0⟩) N0 (fun _=>none) (.agg l) (.agg xs.toArray):= .agg l _ (by rw[hx.1];simp) fun i v x hv qb=>hx.2 i v x hv (by simpa using qb)
 have h3:=h _ (fun _=>⟨0,0,0⟩) _ 0 _ _ h2
 obtain ⟨i,aZ,hi⟩:=List.mem_iff_getElem.1 hm
 cases h3 with
 |agg _ _ hl hc=>
  have hlt2:i<xs.toArray.size:=by rw[<-hl];exact aZ
  obtain ⟨y,hy⟩: ∃y,xs.toArray[i]? =some y:=⟨_,Array.getElem?_eq_getElem hlt2⟩
  have:=hc i _ y (by rw[List.getElem?_eq_getElem aZ,hi]) hy
  cases this with
  |slice _ _ _ _ _ _ _ _ _ _ hk=>exact absurd (hk rfl) (by omega)
theorem Mk.inst {es:Nat} {s s':St} {v:AV} {rows:List (List AV)} (h:Mk es s s' v rows):ku v:=by
 rcases h.own with ⟨rfl,rfl⟩|⟨b,off,cap,cs,rfl,_⟩|⟨b,off,rfl,rfl⟩
 . exact ku.ai
 . rcases h.cap _ _ _ _ _ rfl with rfl|⟨h0,rfl⟩
   . exact ku.slice _ _ _ _
   . rw[h0];exact ku.zero _ _ _
 . exact ku.zero _ _ _
theorem Mk.loose {es:Nat} {s s':St} {v:AV} {rows:List (List AV)} (h:Mk es s s' v rows):(∃b off n,v= .slice b off n none es)\/((∀t,Wf t->Mk es t t v rows)/\rows=[]):=by
 rcases h.own with ⟨rfl,rfl⟩|⟨b,off,cap,cs,rfl,_⟩|⟨b,off,rfl,rfl⟩
 . exact .inr ⟨fun t ht=>Mk.start ht (Grew.refl ht),rfl⟩
 . rcases h.cap _ _ _ _ _ rfl with rfl|⟨h0,rfl⟩
   . exact .inl ⟨_,_,_,rfl⟩
   . exact .inr ⟨fun t ht=>⟨ht,Grew.refl ht,.inr (.inr ⟨b,off,by rw[h0],List.eq_nil_of_length_eq_zero h0⟩),fun b hb=>(by rw[h0,kF] at hb;cases hb),h.row,h.cap,fun b hb=>(by rw[h0,kF] at hb;cases hb)⟩,List.eq_nil_of_length_eq_zero h0⟩
 . exact .inr ⟨fun t ht=>⟨ht,Grew.refl ht,.inr (.inr ⟨b,off,rfl,rfl⟩),fun b hb=>(by rw[kF] at hb;cases hb),h.row,h.cap,fun b hb=>(by rw[kF] at hb;cases hb)⟩,rfl⟩
theorem Mk.Gm {es:Nat} {s s':St} {v:AV} {rows:List (List AV)} (h:Mk es s s' v rows) {l:List AV} (hm:v∈l) (hi: ∀u∈l,ku u): ∃ij,Go.Ai.tidy s (.agg l,s')=(.agg l,ij)/\(ij=s'\/ij=s)/\Mk es s ij v rows:=by
 unfold Go.Ai.tidy
 by_cases hp:Plain (AV.agg l,s').1/\dz s (AV.agg l,s').2
 . rw[if_pos hp]
   refine ⟨s,rfl,.inr rfl,?_⟩
   rcases h.loose with ⟨b,off,n,rfl⟩|⟨hl,_⟩
   . exact absurd hp.1 (CS hi hm)
   . exact hl s h.lZ
 . rw[if_neg hp];exact ⟨s',rfl,.inl rfl,h⟩
theorem Mk.cells {es:Nat} {s s':St} {v:AV} {rows:List (List AV)} (h:Mk es s s' v rows):v.cells=[v]/\aX [v]=true:=by
 rcases h.own with ⟨rfl,rfl⟩|⟨b,off,cap,cs,rfl,_⟩|⟨b,off,rfl,rfl⟩<;>exact ⟨rfl,rfl⟩
theorem Mk.store {es:Nat} {s s':St} {v:AV} {rows:List (List AV)} (h:Mk es s s' v rows) {p:Pos} {b:AB} (hp:s.next.toNat<=p.toNat) (Fo:p.toNat<s'.next.toNat) (bO:aF v≠some p):Mk es s (ew s' p b) v rows:=
 ⟨h.lZ,⟨Il h.aS.wf Fo,fun q x hq=>by have:=h.lZ _ _ hq;rw[bV (fun e=>by rw[e] at hp;omega)];exact h.aS.get hq,by rw[tL];exact h.aS.next⟩,
  h.own.mono fun q x hq hx=>by rw[bV (fun e=>bO (by rw[hq,e]))];exact hx,h.new,h.row,h.cap,fun b hb=>by rw[bV (fun e=>bO (by rw[hb,e]))];exact h.tight b hb⟩
theorem Mk.back {es:Nat} {s0 s s':St} {v:AV} {rows:List (List AV)} (h:Mk es s s' v rows) (h0:Wf s0) (hg:Grew s0 s):Mk es s0 s' v rows:=
 ⟨h0,hg.trans h.aS,h.own,fun b hb=>Nat.le_trans hg.next (h.new b hb),h.row,h.cap,h.tight⟩
end Go.Ai
end
section
namespace Go.Ai
open Go
theorem pJ {α:Type} (l:List α) (i:Nat) (h:i<l.length) (u:α):aO l i [u]=l.set i u:=by
 unfold aO
 rw[List.set_eq_take_append_cons_drop,if_pos h]
 simp
theorem yZ {es:Nat}: ∀(rows:List (List AV)),(∀r∈rows,r.length=es)-> ∀(i j:Nat) (hi:i<rows.length),j<es-> ∀u,rows.flatten.set (i*es+j) u=(rows.set i (rows[i].set j u)).flatten
 |[],_,i,j,hi,_,_=>by simp at hi
 |r::rows,hr,i,j,hi,hj,u=>by
  have hl:=hr r (by simp)
  cases i with
  |zero=>
   simp only[Nat.zero_mul,Nat.zero_add,List.flatten_cons,List.set_cons_zero,List.getElem_cons_zero]
   rw[List.set_append_left _ _ (by omega)]
  |succ i=>
   simp only[List.flatten_cons,List.set_cons_succ,List.getElem_cons_succ]
   rw[List.set_append_right _ _ (by rw[Nat.succ_mul];omega)]
   rw[show (i+1)*es+j - r.length=i*es+j by rw[Nat.succ_mul];omega]
   rw[yZ rows (fun x hx=>hr x (List.mem_cons_of_mem _ hx)) i j (by simpa using hi) hj u]
theorem QS.set {R:Type} {c:ak} {es:Nat} {s:St} {v:AV} {rows:List (List AV)} (h:QS es s v rows) (hr: ∀r∈rows,r.length=es) (fE:es≠0) {i:Nat} (hi:i<rows.length):
   ∃ b o cs,(∀(K:AV->St->Option R) (k:IntKind) (s1:St),ag c (.idxA es none) [v,.int k (i:Int)] s1 K=K (.ptr b o) s1)/\(∀(K:AV->Option R) (k:IntKind),aJ (.idxA es none) [v,.int k (i:Int)] K=K (.ptr b o))/\aF v=some b/\s.heap.get b=some (.cells cs 0)/\o+es<=cs.length/\(∀j u,rows[i][j]? =some u->cs[o+j]? =some u)/\
     (∀j u (s':St),j<es->s'.heap.get b=some (.cells (aO cs (o+j) [u]) 0)->QS es s' v (rows.set i (rows[i].set j u)))/\
     ∀j u,j<es->cs=rows.flatten->aO cs (o+j) [u]=(rows.set i (rows[i].set j u)).flatten:=by
 rcases h with ⟨rfl,rfl⟩|⟨b,off,cap,cs,rfl,g1,g2,g3,g4⟩|⟨b,off,rfl,rfl⟩
 . simp at hi
 rotate_left
 . simp at hi
 have X0:=hr rows[i] (List.getElem_mem hi)
 have hm:(i+1)*es<=rows.length*es:=Nat.mul_le_mul_right _ hi
 rw[Nat.succ_mul] at hm
 have hx: ∀(k:IntKind) (H:Pos->Option AB) (n:Pos),aB.run H n (.idxA es none) [.slice b off rows.length cap es,.int k (i:Int)]=some (.val (.ptr b (off+i*es))):=fun k H n=>by
   simp only[aB.run,pz,mE]
   have:Nat.blt i rows.length=true:=by rw[Nat.blt_eq];exact hi
   rw[this]
 refine ⟨b,off+i*es,cs,fun K k s1=>tO c K s1 hi,fun K k=>iY K (hx k),by simp only[aF];rw[if_neg (by omega)],g1,by omega,fun j u hj=> ?_,fun j u s' hj hs=> ?_,fun j u hj he=> ?_⟩
 . have sN:j<es:=by rw[<-X0];exact (List.getElem?_eq_some_iff.1 hj).1
   have:=BV hr i j rows[i] u (List.getElem?_eq_getElem hi) hj
   rw[<-g3,List.getElem?_take] at this
   split at this
   . rw[List.getElem?_drop] at this;rw[<-this];congr 1;omega
   . cases this
 . rw[pJ _ _ (by omega)] at hs
   refine .inr (.inl ⟨b,off,cap,_,by simp,hs,by simpa using g2,?_,by simpa using g4⟩)
   rw[List.length_set, <-yZ rows hr i j hi hj u, <-g3,List.drop_set,if_neg (by omega),List.take_set]
   congr 1
   omega
 . have hlen:rows.flatten.length=rows.length*es:=by
     clear g2 g3 g4 hi X0 hm hx g1 he
     induction rows with
     |nil=>simp
     |  cons r rows ih=>
        have:=ih (fun x hx=>hr x (List.mem_cons_of_mem _ hx))
        have h2:=hr r (by simp)
        simp only[List.flatten_cons,List.length_append,List.length_cons,Nat.succ_mul];omega
   have h0:off=0:=by rw[he,hlen] at g2;omega
   subst h0
   rw[pJ _ _ (by omega),he, <-yZ rows hr i j hi hj u]
   congr 1
   omega
end Go.Ai
end
section
namespace Go.Ai
open Go
def Src (es:Nat) (s:St) (v:AV) (rows:List (List AV)):Prop:=v= .fl rows es\/QS es s v rows
theorem Src.len {es:Nat} {s:St} {v:AV} {rows:List (List AV)} (h:Src es s v rows):fH v=some rows.length:=by
 rcases h with rfl|h
 . rfl
 . exact h.len
theorem Src.mono {es:Nat} {s s':St} {v:AV} {rows:List (List AV)} (h:Src es s v rows) (hk: ∀b x,aF v=some b->s.heap.get b=some x->s'.heap.get b=some x):Src es s' v rows:=h.imp id fun h=>h.mono hk
theorem Src.aS {es:Nat} {s s':St} {v:AV} {rows:List (List AV)} (h:Src es s v rows) (hg:Grew s s'):Src es s' v rows:=h.mono fun _ _ _ hx=>hg.get hx
theorem Src.first {es:Nat} {s:St} {v:AV} {rows:List (List AV)} (h:Src es s v rows) (hr: ∀r∈rows,r.length=es):ec es rows.length (fun b=>s.heap.get b) v=some rows.flatten:=by
 rcases h with rfl|h
 . simp only[ec,ir,iq,decide_true,Nat.le_refl,List.take_length]
 . exact h.first hr
theorem Src.nil {es:Nat} {s:St} {v:AV} {rows:List (List AV)} (h:Src es s v rows):(v= .ai/\rows=[])\/ ∀{R:Type} (c:ak) (K:AV->St->Option R) (t:St),ag c (.bin .eql .slice) [v,.ai] t K=K (.bool false) t:=by
 rcases h with rfl|⟨rfl,rfl⟩|⟨b,off,cap,cs,rfl,_⟩|⟨b,off,rfl,rfl⟩
 . exact .inr fun c K t=>bQ c K (fun H n=>rfl) t
 . exact .inl ⟨rfl,rfl⟩
 . exact .inr fun c K t=>bQ c K (fun H n=>rfl) t
 . exact .inr fun c K t=>bQ c K (fun H n=>rfl) t
theorem Src.ro {es:Nat} {s:St} (z:Bool) (rows:List (List AV)):Src es s (ro es z rows) rows:=by
 unfold Go.Ai.ro;split
 . exact .inr (.inl ⟨rfl,rfl⟩)
 . exact .inl rfl
theorem Ki {es:Nat}: ∀{rows:List (List AV)},(∀r∈rows,r.length=es)->rows.flatten.length=rows.length*es
 |[],_=>by simp
 |r::rows,hr=>by
  have ih:=Ki (fun x hx=>hr x (List.mem_cons_of_mem _ hx))
  have h2:=hr r (by simp)
  simp only[List.flatten_cons,List.length_append,List.length_cons,Nat.succ_mul];omega
theorem r6 {v:AV} (h:aX [v]=true):v.one=true:=by
 simp only[aX] at h
 split at h
 . assumption
 . cases h
end Go.Ai
end
section
namespace Go.Ai
open Go
theorem QS.cells {es:Nat} {s:St} {v:AV} {rows:List (List AV)} (h:QS es s v rows):v.cells=[v]/\v.one=true:=by
 rcases h with ⟨rfl,rfl⟩|⟨b,off,cap,cs,rfl,_⟩|⟨b,off,rfl,rfl⟩<;>exact ⟨rfl,rfl⟩
abbrev Vy (v:AV):List AV:=[v]
theorem Vz (l:List AV): ∀r∈l.map Vy,r.length=1:=fun r hr=>by simp only[List.mem_map] at hr;obtain ⟨m,_,rfl⟩:=hr;rfl
structure Ow (s0 s:St) (jb:Pos) (Ls:List AV) (R:List (List AV)) (I:List (AV×List (List AV))):Prop where
 lZ:Wf s0
 lt:jb.toNat<s0.next.toNat
 wf:Wf s
 next:s0.next.toNat<=s.next.toNat
 keep: ∀q x,q≠jb->s0.heap.get q=some x->s.heap.get q=some x
 own: ∀(i:Nat) (L:AV) (r:List AV),Ls[i]? =some L->R[i]? =some r->QS 1 s L (r.map Vy)
 len:Ls.length=R.length
 new: ∀L∈Ls,∀b,aF L=some b->s0.next.toNat<=b.toNat
 apart: ∀(i j:Nat) (L M:AV),i≠j->Ls[i]? =some L->Ls[j]? =some M-> ∀b,aF L=some b->aF M≠some b
 j5: ∀e∈I,QS 1 s e.1 e.2/\ ∀b,aF e.1=some b->b≠jb/\ ∀L∈Ls,aF L≠some b
section
variable {s0 s s' : St} {jb : Pos} {Ls : List AV} {R : List (List AV)} {I : List (AV × List (List AV))}
theorem Ow.aS (h:Ow s0 s jb Ls R I) (g:Grew s s'):Ow s0 s' jb Ls R I:=
 ⟨h.lZ,h.lt,g.wf,Nat.le_trans h.next g.next,fun q x hq hx=>g.get (h.keep q x hq hx),fun i L r h1 h2=>(h.own i L r h1 h2).mono fun b x _ hx=>g.get hx,h.len,h.new,h.apart,
  fun e he=>⟨(h.j5 e he).1.mono fun b x _ hx=>g.get hx,(h.j5 e he).2⟩⟩
theorem Ow.ltL (h:Ow s0 s jb Ls R I) {L:AV} (hL:L∈Ls) {b:Pos} (hb:aF L=some b):b.toNat<s.next.toNat:=by
 obtain ⟨i,hi,rfl⟩:=List.mem_iff_getElem.1 hL
 have hr:i<R.length:=by rw[<-h.len];exact hi
 exact (h.own i _ _ (List.getElem?_eq_getElem hi) (List.getElem?_eq_getElem hr)).lt h.wf hb
theorem Ow.more (h:Ow s0 s jb Ls R I) {w:AV} {rows:List (List AV)} (M:Mk 1 s s' w rows):Ow s0 s' jb Ls R ((w,rows)::I):=by
 have h2:=h.aS M.aS
 refine { h2 with j5:=fun e he=> ?_ }
 rcases List.mem_cons.1 he with rfl|he
 . refine ⟨M.own,fun b hb=>⟨fun e=> ?_,fun L hL e=> ?_⟩⟩
   . have:=M.new b hb;have:=h.next;have:=h.lt;rw[e] at *; omega
   . have:=M.new b hb;have:=h.ltL hL e;omega
 . exact h2.j5 e he
theorem Ow.store (h:Ow s0 s jb Ls R I) (b:AB):Ow s0 (ew s jb b) jb Ls R I:=by
 have aZ:jb.toNat<s.next.toNat:=Nat.lt_of_lt_of_le h.lt h.next
 have nL: ∀L∈Ls,∀b,aF L=some b->jb≠b:=fun L hL b hb e=>by have:=h.new L hL b hb;have:=h.lt;rw[e] at *; omega
 refine ⟨h.lZ,h.lt,Il h.wf aZ,by rw[tL];exact h.next,fun q x hq hx=>by rw[bV (fun e=>hq e.symm)];exact h.keep q x hq hx,fun i L r h1 h2=> ?_,h.len,h.new,h.apart,fun e he=>⟨?_,(h.j5 e he).2⟩⟩
 . refine (h.own i L r h1 h2).mono fun b x hb hx=> ?_
   rw[bV (nL L (List.mem_of_getElem? h1) b hb)];exact hx
 . refine (h.j5 e he).1.mono fun b x hb hx=> ?_
   rw[bV (fun e2=>((h.j5 e he).2 b hb).1 e2.symm)];exact hx
theorem Ow.push (h:Ow s0 s jb Ls R I) {c:ak} {Q:Type} {bytes i:Nat} {L:AV} {r:List AV} (hL:Ls[i]? =some L) (hR:R[i]? =some r) {z:List AV} {x:AV} (hz:z.length=1) (hx:x.cells=[x]) (h1:x.one=true)
   (hb:(2*(r.length+1)+768)*bytes<=281474976710656) (hn:r.length<=4000000):
   ∃s5 v',(∀(K:AV->St->Option Q),ag c (.buildSlice 1 1 z [0]) [x] s (fun y t=>ag c (.append 1 bytes) [L,y] t K)=K v' s5)/\Ow s0 s5 jb (Ls.set i v') (R.set i (r++[x])) I/\(∀x,s.heap.get jb=some x->s5.heap.get jb=some x)/\(∀p y,aF L≠some p->s.heap.get p=some y->s5.heap.get p=some y)/\v'.cells=[v']/\v'.one=true/\s.next.toNat<=s5.next.toNat/\ ∀b,aF v'=some b->s.next.toNat<=b.toNat:=by
 have q:=h.own i L r hL hR
 have u9:i<Ls.length:=(List.getElem?_eq_some_iff.1 hL).1
 have hmL:L∈Ls:=List.mem_of_getElem? hL
 obtain ⟨s5,v',a1,a2,a3,a4,a5,a6⟩:=QS.push (R:=Q) (c:=c) (bytes:=bytes) h.wf q (Vz r) hz (x:=x) (by rw[hx];rfl) (by rw[hx];simp[aX,h1]) (by decide) (by simpa using hb) (by simpa using hn)
 have hjlt:jb.toNat<s.next.toNat:=Nat.lt_of_lt_of_le h.lt h.next
 have nj:aF L≠some jb:=fun e=>by have:=h.new L hmL jb e;have:=h.lt;omega
 refine ⟨s5,v',a1,⟨h.lZ,h.lt,a3,Nat.le_trans h.next a4,fun q x hq hx=> ?_,fun j M u h2 h3=> ?_,by simpa using h.len,fun M hM b hb=> ?_,fun j k M N hjk h2 h3 b hb bC=> ?_,fun e he=>⟨?_,fun b hb=>⟨((h.j5 e he).2 b hb).1,fun M hM bC=> ?_⟩⟩⟩,?_,a5,a2.cells.1,a2.cells.2,a4,a6⟩
 . refine a5 q x (fun e=> ?_) (h.keep q x hq hx)
   have:=h.new L hmL q e
   have:=h.lZ _ _ hx
   omega
 . by_cases e:i=j
   . subst e
     rw[List.getElem?_set_self u9] at h2
     have hir:i<R.length:=by rw[<-h.len];exact u9
     rw[List.getElem?_set_self hir] at h3
     cases h2;cases h3
     simpa [hx] using a2
   . rw[List.getElem?_set_ne e] at h2 h3
     exact (h.own j M u h2 h3).mono fun b x hb hx=>a5 b x (fun e2=>h.apart i j L M e hL h2 b e2 hb) hx
 . rcases List.mem_or_eq_of_mem_set hM with hM|rfl
   . exact h.new M hM b hb
   . exact Nat.le_trans h.next (a6 b hb)
 . by_cases e:i=j
   . subst e
     rw[List.getElem?_set_self u9] at h2
     cases h2
     rw[List.getElem?_set_ne hjk] at h3
     have:=a6 b hb
     have:=h.ltL (List.mem_of_getElem? h3) bC
     omega
   . rw[List.getElem?_set_ne e] at h2
     by_cases e2:i=k
     .  subst e2
        rw[List.getElem?_set_self u9] at h3
        cases h3
        have:=a6 b bC
        have:=h.ltL (List.mem_of_getElem? h2) hb
        omega
     .  rw[List.getElem?_set_ne e2] at h3
        exact h.apart j k M N hjk h2 h3 b hb bC
 . exact (h.j5 e he).1.mono fun b x hb hx=>a5 b x (fun e2=>((h.j5 e he).2 b hb).2 L hmL e2) hx
 . rcases List.mem_or_eq_of_mem_set hM with hM|rfl
   . exact ((h.j5 e he).2 b hb).2 M hM bC
   . have:=a6 b bC
     have:=(h.j5 e he).1.lt h.wf hb
     omega
 . exact fun x hx=>a5 jb x nj hx
end
end Go.Ai
end
section
namespace Go.Ai
open Go
section
variable {s0 s s' : St} {jb : Pos} {Ls : List AV} {R : List (List AV)} {I : List (AV × List (List AV))}
theorem Ow.none (hw:Wf s) (hj:jb.toNat<s.next.toNat) (n:Nat):Ow s s jb (List.replicate n .ai) (List.replicate n []) []:=by
 have hn: ∀(i:Nat) (L:AV),(List.replicate n AV.ai)[i]? =some L->L= .ai:=fun i L h=>by
   rw[List.getElem?_replicate] at h;split at h
   . cases h;rfl
   . cases h
 refine ⟨hw,hj,hw,Nat.le_refl _,fun _ _ _ h=>h,fun i L r h1 h2=> ?_,by simp,fun L hL b hb=> ?_,fun i j L M _ h1 _ b hb=> ?_,fun e he=>by cases he⟩
 . obtain rfl:=hn i L h1
   rw[List.getElem?_replicate] at h2;split at h2
   . cases h2;exact QS.nil
   . cases h2
 . rw[List.mem_replicate] at hL;obtain ⟨_,rfl⟩:=hL;cases hb
 . obtain rfl:=hn i L h1;cases hb
theorem Ow.take {L:AV} {r:List AV} (h:Ow s0 s jb (Ls++[L]) (R++[r]) I):Ow s0 s jb Ls R ((L,r.map Vy)::I):=by
 have hl:Ls.length=R.length:=by have:=h.len;simpa using this
 have up: ∀(i:Nat) (M:AV),Ls[i]? =some M->(Ls++[L])[i]? =some M:=fun i M h1=>by rw[List.getElem?_append_left (List.getElem?_eq_some_iff.1 h1).1];exact h1
 have upR: ∀(i:Nat) (M:List AV),R[i]? =some M->(R++[r])[i]? =some M:=fun i M h1=>by rw[List.getElem?_append_left (List.getElem?_eq_some_iff.1 h1).1];exact h1
 have hL:(Ls++[L])[Ls.length]? =some L:=by simp
 have hR:(R++[r])[Ls.length]? =some r:=by rw[hl];simp
 refine ⟨h.lZ,h.lt,h.wf,h.next,h.keep,fun i M u h1 h2=>h.own i M u (up i M h1) (upR i u h2),hl,fun M hM b hb=>h.new M (List.mem_append_left _ hM) b hb,fun i j M N hij h1 h2 b hb bC=>h.apart i j M N hij (up i M h1) (up j N h2) b hb bC,fun e he=> ?_⟩
 rcases List.mem_cons.1 he with rfl|he
 . refine ⟨h.own _ _ _ hL hR,fun b hb=>⟨fun e=> ?_,fun M hM bC=> ?_⟩⟩
   . have:=h.new L (by simp) b hb;have:=h.lt;rw[e] at *; omega
   . obtain ⟨i,hi,rfl⟩:=List.mem_iff_getElem.1 hM
     exact h.apart i Ls.length _ L (by omega) (up i _ (List.getElem?_eq_getElem hi)) hL b bC hb
 . exact ⟨(h.j5 e he).1,fun b hb=>⟨((h.j5 e he).2 b hb).1,fun M hM=>((h.j5 e he).2 b hb).2 M (List.mem_append_left _ hM)⟩⟩
end
theorem Zm {R:Type} {c:ak} (K:AV->St->Option R) {s:St} {p:Pos} {o:Nat} {cs:List AV} {v:AV} (h:s.heap.get p=some (.cells cs 0)) (ho:o<cs.length) (h1:v.cells=[v]) (h2:v.one=true):
  ag c (.store 1) [.ptr p o,v] s K=K .undef (ew s p (.cells (cs.set o v) 0)):=by
 rw[eM c K s 1 p o v cs h (by rw[h1];rfl) (by omega) (by rw[h1];simp[aX,h2]),h1,pJ _ _ ho]
end Go.Ai
end
section
namespace Go.Ai
open Go
theorem QS.beq {es:Nat} {s:St} {v:AV} {rows:List (List AV)} (h:QS es s v rows):ki v v=true:=by
 rcases h with ⟨rfl,_⟩|⟨b,off,cap,cs,rfl,_⟩|⟨b,off,rfl,_⟩
 . rfl
 . cases cap<;>simp[ki,qU,kH,Pos.beq_eq.2 rfl]
 . simp[ki,qU,kH,Pos.beq_eq.2 rfl]
theorem VA {R:Type} {c:ak} {z:List AV} {x:AV} (hz:z.length=1) (hx:x.cells=[x]) (s:St) (K:AV->St->Option R):
  ag c (.buildSlice 1 1 z [0]) [x] s K=K (.slice s.next 0 1 (some 1) 1) (ay s (.cells [x] 0)):=by
 rw[EY hz (by rw[hx];rfl),hx]
section
variable {s0 s s' : St} {jb : Pos} {Ls : List AV} {R : List (List AV)} {I : List (AV × List (List AV))}
theorem Ow.afN (h:Ow s0 s jb Ls R I) {c:ak} {Q:Type} (bytes:Nat) {i:Nat} {L:AV} {r:List AV} (hL:Ls[i]? =some L) (hR:R[i]? =some r) {x:AV} (hx:x.cells=[x]) (h1:x.one=true)
  (hb:(2*(r.length+1)+768)*bytes<=281474976710656) (hn:r.length<=4000000):
  ∃s5 v',(∀(K:AV->St->Option Q),ag c (.append 1 bytes) [L,.slice s.next 0 1 (some 1) 1] (ay s (.cells [x] 0)) K=K v' s5)/\Ow s0 s5 jb (Ls.set i v') (R.set i (r++[x])) I/\(∀x,s.heap.get jb=some x->s5.heap.get jb=some x)/\(∀p y,aF L≠some p->s.heap.get p=some y->s5.heap.get p=some y)/\v'.cells=[v']/\v'.one=true/\s.next.toNat<=s5.next.toNat/\ ∀b,aF v'=some b->s.next.toNat<=b.toNat:=by
 obtain ⟨s5,v',a1,a2⟩:=h.push (c:=c) (Q:=Q) (bytes:=bytes) hL hR (z:=[.int .i64 0]) rfl hx h1 hb hn
 refine ⟨s5,v',fun K=> ?_,a2⟩
 rw[<-a1 K,VA rfl hx]
theorem Ow.mem_set {v':AV} {i:Nat} {p:Pos} (hL: ∀L∈Ls,aF L≠some p) (hv:aF v'≠some p): ∀L∈Ls.set i v',aF L≠some p:=fun L h=>by
 rcases List.mem_or_eq_of_mem_set h with h|rfl
 . exact hL L h
 . exact hv
theorem Ow.put (h:Ow s0 s jb Ls R I) {H:List AV} (tV:s.heap.get jb=some (.cells (H++Ls) 0)) {c:ak} {Q:Type} (bytes:Nat) {i:Nat} {L:AV} {r:List AV} (hL:Ls[i]? =some L) (hR:R[i]? =some r) {x:AV} (hx:x.cells=[x]) (h1:x.one=true)
   (hb:(2*(r.length+1)+768)*bytes<=281474976710656) (hn:r.length<=4000000) {o:Nat} (ho:o=H.length+i):
   ∃s5 s6 v',(∀(K:AV->St->Option Q),ag c (.append 1 bytes) [L,.slice s.next 0 1 (some 1) 1] (ay s (.cells [x] 0)) K=K v' s5)/\(∀(K:AV->St->Option Q),ag c (.store 1) [.ptr jb o,v'] s5 K=K .undef s6)/\Ow s0 s6 jb (Ls.set i v') (R.set i (r++[x])) I/\s6.heap.get jb=some (.cells (H++Ls.set i v') 0)/\
    (∀p y,p≠jb->(∀L∈Ls,aF L≠some p)->s.heap.get p=some y->s6.heap.get p=some y/\ ∀L∈Ls.set i v',aF L≠some p):=by
 obtain ⟨s5,v',a1,a2,a3,a4,a5,a6,a7,a8⟩:=h.afN (c:=c) (Q:=Q) bytes hL hR hx h1 hb hn
 have u9:i<Ls.length:=(List.getElem?_eq_some_iff.1 hL).1
 have hj:=a3 _ tV
 have es:(H++Ls).set o v'=H++Ls.set i v':=by
   subst ho
   rw[List.set_append_right _ _ (by omega)];congr 2;omega
 refine ⟨s5,ew s5 jb (.cells (H++Ls.set i v') 0),v',a1,fun K=> ?_,a2.store _,eO _ _ _,fun p y hp hpL hy=>⟨?_,Ow.mem_set hpL fun e=> ?_⟩⟩
 . rw[Zm K hj (by rw[List.length_append];omega) a5 a6,es]
 . rw[bV (fun e=>hp e.symm)]
   exact a4 p y (hpL L (List.mem_of_getElem? hL)) hy
 . have:=a8 p e
   have:=h.wf _ _ hy
   omega
end
end Go.Ai
end
section
namespace Go.Ai
open Go
theorem QS.bare {es:Nat} {s:St} {v:AV} {rows:List (List AV)} (h:QS es s v rows):eo v:=by
 rcases h with ⟨rfl,_⟩|⟨b,off,cap,cs,rfl,_⟩|⟨b,off,rfl,_⟩
 . exact eo.ai
 . exact eo.slice _ _ _ _ _
 . exact eo.slice _ _ _ _ _
def emptyAt (s:St):St:={ heap:= .e,next:=s.next }
theorem QC (s:St):Wf (emptyAt s):=fun p x h=>by
 have h:(T.e:T AB).get p=some x:=h
 rw[T.cG] at h;cases h
theorem QD {call:ak} {f:FuncId} {d:Nat} {args:List AV} {s:St} {v:AV} (h:call f (args.map (jM s d)) (emptyAt s)=some (v,emptyAt s)) (hb:eo v):DP call f d args s=some (v,s):=Vx h hb
end Go.Ai
end
section
noncomputable section
namespace Go.Ai
open Go
variable {R : Type} {c : ak}
theorem QE (t:TypeId) (z:List AV) (st:St) (K:AV->St->Option R):ag c (.allocT t z) [] st K=K (.ptr st.next 0) (ay st (.typed t z)):=rfl
theorem Ip {st:St} {m:Nat} {p:Pos} {o:Nat} {v:AV} {t:TypeId} {cs:List AV} (h:st.heap.get p=some (.typed t cs)) (h1:v.cells.length=m) (h2:o+m<=cs.length) (h3:aX v.cells=true) (K:AV->St->Option R):
  ag c (.store m) [.ptr p o,v] st K=K .undef (ew st p (.typed t (aO cs o v.cells))):=by
 have:aB.run (fun b=>st.heap.get b) st.next (.store m) [.ptr p o,v]=some (.aE .undef none (some (p,.typed t (aO cs o v.cells))) none):=by
  simp only[aB.run,tj,h,ir,iq,decide_eq_true h1,decide_eq_true h2,h3]
 unfold ag bS;rw[this];rfl
theorem Zn {st:St} {p:Pos} {o:Nat} {t:TypeId} {cs:List AV} (h:st.heap.get p=some (.typed t cs)) (ho:o<cs.length) (K:AV->St->Option R):ag c .toU [.ptr p o] st K=K (.ptr p o) st:=by
 have:aB.run (fun b=>st.heap.get b) st.next .toU [.ptr p o]=some (.val (.ptr p o)):=by
  have:Nat.blt o cs.length=true:=by simpa using ho
  simp only[aB.run,Dl,h,this]
 unfold ag bS;rw[this]
theorem SU {st:St} {p:Pos} {t:TypeId} {n:Nat} {cs:List AV} (h:st.heap.get p=some (.typed t cs)) (hn:n<=cs.length) (K:AV->St->Option R):ag c (.fromU t n) [.ptr p 0] st K=K (.ptr p 0) st:=by
 have:aB.run (fun b=>st.heap.get b) st.next (.fromU t n) [.ptr p 0]=some (.val (.ptr p 0)):=by
  simp only[aB.run,wj,h,ir,iq,decide_eq_true hn,decide_true]
 unfold ag bS;rw[this]
abbrev q8 (s:List Nat):List AV:=s.map fun c=> .int .u8 (.ofNat c)
theorem Ph (s:List Nat):(q8 s).length=s.length:=by simp
theorem SV {st:St} {e bytes:TypeId} {u:List Nat} (h1:(2*(0+u.length)+768)*bytes<=281474976710656) (h2:0+u.length<=9223372036854775807) (h0:u.length≠0) (K:AV->St->Option R):
  ag c (.appendT e bytes) [.ai,.str u] st K=K (.slice st.next 0 (0+u.length) none 1) (ay st (.typed e (q8 u))):=by
 have:aB.run (fun b=>st.heap.get b) st.next (.appendT e bytes) [.ai,.str u]=some (.aE (.slice st.next 0 (0+u.length) none 1) none none (some (.typed e (q8 u)))):=by
  simp only[aB.run,lO,iq,ir,decide_eq_true h1,decide_eq_true h2,decide_eq_false h0]
 unfold ag bS;rw[this];rfl
theorem VB {st:St} {e bytes:TypeId} {b:Pos} {cm u:List Nat} (h:st.heap.get b=some (.typed e (q8 cm))) (h1:(2*(cm.length+u.length)+768)*bytes<=281474976710656) (h2:cm.length+u.length<=9223372036854775807) (h0:u.length≠0) (K:AV->St->Option R):
  ag c (.appendT e bytes) [.slice b 0 cm.length none 1,.str u] st K=K (.slice st.next 0 (cm.length+u.length) none 1) (st.aE (some b) none (some (.typed e (q8 (cm++u))))):=by
 have hcut:cut (q8 cm) 0 cm.length=some (q8 cm):=ig (Ph cm)
 have:aB.run (fun b=>st.heap.get b) st.next (.appendT e bytes) [.slice b 0 cm.length none 1,.str u]=some (.aE (.slice st.next 0 (cm.length+u.length) none 1) (some b) none (some (.typed e (q8 (cm++u))))):=by
  simp only[aB.run,lO,iq,ir,decide_eq_true h1,decide_eq_true h2,decide_eq_false h0,h,decide_true,hcut]
  simp[q8]
 unfold ag bS;rw[this]
theorem FJ: ∀{s:List Nat},(∀x∈s,x<256)->bytesOf (q8 s)=some s
 |[],_=>rfl
 |x::s,h=>by
  have h1:Nat.blt x 256=true:=by simpa using h x (by simp)
  have h2:=FJ (s:=s) fun y hy=>h y (List.mem_cons_of_mem _ hy)
  simp only[q8,List.map_cons,bytesOf,h1] at h2 ⊢
  rw[h2]
theorem KW {b:Pos} {off n es:Nat} {cp:Option Nat} (h:n≠0) (K:AV->Option R):aJ .sliceData [.slice b off n cp es] K=K (.ptr b off):=by
 have:aB.run (fun _=>none) .h .sliceData [.slice b off n cp es]=some (.val (.ptr b off)):=by
  simp only[aB.run,mR,ir,decide_eq_false h]
 unfold aJ;rw[this]
theorem Jn (K:AV->Option R):aJ .sliceData [.ai] K=K .bF:=rfl
theorem KY {st:St} {e:TypeId} {b:Pos} {s:List Nat} (h:st.heap.get b=some (.typed e (q8 s))) (h0:s.length≠0) (hm:s.length<=9223372036854775807) (hs: ∀x∈s,x<256) (K:AV->St->Option R):
  ag c (.unsafeStr e) [.ptr b 0,.int .i64 (s.length:Int)] st K=K (.str s) (st.aE (some b) none none):=by
 have hcut:cut (q8 s) 0 s.length=some (q8 s):=ig (Ph s)
 have:aB.run (fun b=>st.heap.get b) st.next (.unsafeStr e) [.ptr b 0,.int .i64 (s.length:Int)]=some (.aE (.str s) (some b) none none):=by
  show jx (fun b=>st.heap.get b) st.next e [.ptr b 0,.int .i64 (.ofNat s.length)]=_
  simp only[jx,ir,iq,decide_eq_false h0,h,decide_true,hcut,decide_eq_true hm,FJ hs]
 unfold ag bS;rw[this]
theorem Jo (e:TypeId) (st:St) (K:AV->St->Option R):ag c (.unsafeStr e) [.bF,.int .i64 0] st K=K (.str []) st:=rfl
structure Wk (s:St) (v:AV) (s':St) (v':AV):Prop where
 wf:Wf s'
 next:s.next.toNat<=s'.next.toNat
 keep: ∀p b,aF v≠some p->s.heap.get p=some b->s'.heap.get p=some b
 new: ∀p,aF v'=some p->aF v=some p\/s.next.toNat<=p.toNat
theorem Wk.refl {s:St} {v:AV} (h:Wf s):Wk s v s v:=⟨h,Nat.le_refl _,fun _ _ _ h=>h,fun _ h=> .inl h⟩
theorem Wk.trans {s s1 s2:St} {v v1 v2:AV} (hw:Wf s) (h:Wk s v s1 v1) (k:Wk s1 v1 s2 v2):Wk s v s2 v2:=
 ⟨k.wf,Nat.le_trans h.next k.next,fun p b hp hb=>k.keep p b (fun e=>by
  rcases h.new p e with h1|h1
  . exact hp h1
  . have:=hw p b hb;omega) (h.keep p b hp hb),fun p hp=>by
  rcases k.new p hp with h1|h1
  . exact h.new p h1
  . exact .inr (Nat.le_trans h.next h1)⟩
theorem Wk.aS {s s1:St} {v:AV} (h:Grew s s1):Wk s v s1 v:=⟨h.wf,h.next,fun _ _ _ hb=>h.get hb,fun _ hp=> .inl hp⟩
theorem Wk.keeps {s s':St} {v:AV} (h:Wk s .ai s' v):dz s s':=fun b x hb=>h.keep b x (by simp[aF]) hb
theorem QS.Lh {bytes:Nat} {s:St} {v:AV} {rows:List (List AV)} (hw:Wf s) (h:QS 1 s v rows) (hr: ∀r∈rows,r.length=1) {z:List AV} {x:AV} (hz:z.length=1) (hx:x.cells.length=1) (h1:aX x.cells=true)
  (hb:(2*(rows.length+1)+768)*bytes<=281474976710656) (hn:rows.length<=4000000):
  ∃s5 v',(∀(K:AV->St->Option R),ag c (.buildSlice 1 1 z [0]) [x] s (fun y t=>ag c (.append 1 bytes) [v,y] t K)=K v' s5)/\QS 1 s5 v' (rows++[x.cells])/\Wk s v s5 v':=by
 obtain ⟨s5,v',a1,a2,a3,a4,a5,a6⟩:=h.push (R:=R) (c:=c) (bytes:=bytes) hw hr hz hx h1 (by decide) hb hn
 exact ⟨s5,v',a1,a2,a3,a4,a5,fun p hp=> .inr (a6 p hp)⟩
end Go.Ai
end
section
namespace Go.Ai
open Go
section
variable {H : Type} (Ok : DataW H -> Prop) (enc : TypeId × Value -> H) (P : Program) (w : World) (base : Nat) (spare : Nat -> Bool) (held : Bool)
def DR (t:TypeId) (Q:List AV->Prop):Prop:=
 ∀  (fuel:Nat) (cs:List Value) (x:DataW H×List MemPlace),DataW.trod enc P w base spare held fuel t cs=some x->Ok x.1->
    ∃as,Q as/\ ∀ρ n,aq ρ n (fun ad=>w.cell? ad) as cs
variable {Ok enc P w base spare held}
theorem DR.of {t:TypeId} {Q:List AV->Prop} (h:jL enc P w base spare held t Q):DR Ok enc P w base spare held t Q:=fun fuel cs x hx _=>h fuel cs x hx
theorem DR.mono {t:TypeId} {Q Q':List AV->Prop} (h:DR Ok enc P w base spare held t Q) (k: ∀as,Q as->Q' as):DR Ok enc P w base spare held t Q':=
 fun fuel cs x hx hk=>by obtain ⟨as,h1,h2⟩:=h fuel cs x hx hk;exact ⟨as,k _ h1,h2⟩
end
end Go.Ai
end
section
namespace Go.Ai
open Go Go.WideShapes
section
variable {H : Type} (enc : TypeId × Value -> H) (P : Program) (w : World) (base : Nat) (spare : Nat -> Bool) (held : Bool)
def SW (t:TypeId) (Q:DataW H->List AV->Prop):Prop:=
 ∀  (fuel:Nat) (cs:List Value) (x:DataW H×List MemPlace),DataW.trod enc P w base spare held fuel t cs=some x->
    ∃as,Q x.1 as/\ ∀ρ n,aq ρ n (fun ad=>w.cell? ad) as cs
variable {enc P w base spare held}
theorem SW.of {t:TypeId} {Q:List AV->Prop} (h:jL enc P w base spare held t Q):SW enc P w base spare held t fun _=>Q:=fun fuel cs x hx=>h fuel cs x hx
end
end Go.Ai
end
section
namespace Go.Ai
open Go
section
variable {c : ak} {R : Type}
theorem MG {H:Pos->Option AB} {n:Pos} {k:IntKind} {a b:Int} (h1:0<=a) (h2:0<b):aB.run H n (.bin .rem .num) [.int k a,.int k b]=some (.val (.int k (a % b))):=by
 have e0:qm b 0=false:=by rw[gR,beq_eq_false_iff_ne];omega
 have e1:a.tmod b=a % b:=Int.tmod_eq_emod_of_nonneg h1
 simp only[aB.run,gD,mz,dJ,e0,e1]
theorem MH {H:Pos->Option AB} {n:Pos} {a b:Int} (h1:0<=a) (h3:a<=9223372036854775807) (h2:0<b):aB.run H n (.bin .quo .num) [.int .i64 a,.int .i64 b]=some (.val (.int .i64 (a / b))):=by
 have e0:qm b 0=false:=by rw[gR,beq_eq_false_iff_ne];omega
 have e1:a.tdiv b=a / b:=Int.tdiv_eq_ediv_of_nonneg h1
 have e3:0<=a / b:=Int.ediv_nonneg h1 (by omega)
 have e4:a / b<=a:=Int.ediv_le_self b h1
 have e2:aW .i64 (a / b)=a / b:=wrap64 (by omega) (by omega)
 simp only[aB.run,gD,mz,dJ,e0,e1,e2]
theorem VC {H:Pos->Option AB} {n:Pos} {a:Int} {i:Nat} (h:i<=64):aB.run H n (.bin .shr .num) [.int .i64 a,.int .i64 (i:Int)]=some (.val (.int .i64 (a / 2 ^ i))):=by
 have e0:tT (i:Int) 0=false:=by rw[fP,decide_eq_false (by omega)]
 have e1:min (i:Int).toNat (IntKind.bits .i64)=i:=by
  have:IntKind.bits .i64=64:=rfl
  rw[this];omega
 simp only[aB.run,gD,mz,e0,e1]
 rw[Int.fdiv_eq_ediv_of_nonneg _ (Int.le_of_lt (Int.pow_pos (by decide)))]
theorem bL {k:IntKind} {a b:Int} (h1:0<=a) (h2:0<b) (s:St) (K:AV->St->Option R):ag c (.bin .rem .num) [.int k a,.int k b] s K=K (.int k (a % b)) s:=bQ c K (fun H n=>MG h1 h2) s
theorem BW {k:IntKind} {a b:Int} (h1:0<=a) (h2:0<b) (K:AV->Option R):aJ (.bin .rem .num) [.int k a,.int k b] K=K (.int k (a % b)):=iY K (fun H n=>MG h1 h2)
theorem eZ {a b:Int} (h1:0<=a) (h3:a<=9223372036854775807) (h2:0<b) (s:St) (K:AV->St->Option R):ag c (.bin .quo .num) [.int .i64 a,.int .i64 b] s K=K (.int .i64 (a / b)) s:=bQ c K (fun H n=>MH h1 h3 h2) s
theorem MI {a b:Int} (h1:0<=a) (h3:a<=9223372036854775807) (h2:0<b) (K:AV->Option R):aJ (.bin .quo .num) [.int .i64 a,.int .i64 b] K=K (.int .i64 (a / b)):=iY K (fun H n=>MH h1 h3 h2)
theorem MJ {a:Int} {i:Nat} (h:i<=64) (s:St) (K:AV->St->Option R):ag c (.bin .shr .num) [.int .i64 a,.int .i64 (i:Int)] s K=K (.int .i64 (a / 2 ^ i)) s:=bQ c K (fun H n=>VC h) s
theorem q9 (i:Int) (s:St) (K:AV->St->Option R):ag c (.conv (.int .u8)) [.int .i64 i] s K=K (.int .u8 (aW .u8 i)) s:=bQ c K (fun H n=>rfl) s
theorem l6 (i:Int) (k:IntKind) (s:St) (K:AV->St->Option R):ag c (.conv (.int .i64)) [.int k i] s K=K (.int .i64 (aW .i64 i)) s:=bQ c K (fun H n=>rfl) s
theorem MK {x y:Int} (a b:Nat) (hx:x=(a:Int)) (hy:y=(b:Int)) (ha:a<256) (hb:b<256) (s:St) (K:AV->St->Option R):
  ag c (.buildSlice 1 2 [.int .u8 0] [0,1]) [.int .u8 x,.int .u8 y] s (fun v t=>ag c (.conv .ofBytes) [v] t K)=K (.str [a,b]) (ay s (.cells [.int .u8 x,.int .u8 y] 0)):=by
 subst hx;subst hy
 rw[show ag c (.buildSlice 1 2 [.int .u8 0] [0,1]) [.int .u8 (a:Int),.int .u8 (b:Int)] s (fun v t=>ag c (.conv .ofBytes) [v] t K)=ag c (.conv .ofBytes) [.slice s.next 0 2 (some 2) 1] (ay s (.cells [.int .u8 (a:Int),.int .u8 (b:Int)] 0)) K from rfl]
 have:aB.run (fun p=>(ay s (.cells [.int .u8 (a:Int),.int .u8 (b:Int)] 0)).heap.get p) (ay s (.cells [.int .u8 (a:Int),.int .u8 (b:Int)] 0)).next (.conv .ofBytes) [.slice s.next 0 2 (some 2) 1]=some (.val (.str [a,b])):=by
  have ha':Nat.blt a 256=true:=by simpa using ha
  have dX:Nat.blt b 256=true:=by simpa using hb
  simp only[aB.run,qQ,bh]
  show (match bytesOf [.int .u8 (.ofNat a),.int .u8 (.ofNat b)] with|some s=>some (b6.val (.str s))|none=>none)=_
  simp only[bytesOf,ha',dX]
 unfold ag bS;rw[this]
end
end Go.Ai
end
section
namespace Go.Ai
open Go
theorem Mk.VD {s s':St} {l:List AV} (hi: ∀u∈l,ku u) (hw:Wf s) (hg:Grew s s'):
   ∃ij,Go.Ai.tidy s (.agg l,s')=(.agg l,ij)/\Grew s ij/\(∀(es:Nat) (v:AV) (rows:List (List AV)),v∈l->Mk es s s' v rows->Mk es s ij v rows/\(ij=s'\/rows=[])):=by
 unfold Go.Ai.tidy
 by_cases hp:Plain (AV.agg l,s').1/\dz s (AV.agg l,s').2
 . rw[if_pos hp]
   refine ⟨s,rfl,Grew.refl hw,fun es v rows hm h=> ?_⟩
   rcases h.loose with ⟨b,off,n,rfl⟩|⟨hl,h0⟩
   . exact absurd hp.1 (CS hi hm)
   . exact ⟨hl s h.lZ,.inr h0⟩
 . rw[if_neg hp];exact ⟨s',rfl,hg,fun es v rows _ h=>⟨h,.inl rfl⟩⟩
theorem VE {u:AV} {t:Bool} (h:Plain (.tuple [u,.bool t])):Plain u:=fun ρ ρ' n n' C x hx=>by
 obtain ⟨y,hy⟩: ∃y,ax ρ n C (.bool t) y:=⟨_,.bool t⟩
 have:=h ρ ρ' n n' C _ (.tuple _ #[x,y] rfl (fun i v v' hv qb=>by
  match i with
  |0=>simp at hv qb;subst hv qb;exact hx
  |1=>simp at hv qb;subst hv qb;exact hy
  |i+2=>simp at hv))
 cases this with
 |tuple _ _ _ h=>exact h 0 _ x rfl rfl
theorem Mk.Zo {es:Nat} {s s':St} {v:AV} {rows:List (List AV)} (h:Mk es s s' v rows) (t:Bool): ∃ij,Go.Ai.tidy s (.tuple [v,.bool t],s')=(.tuple [v,.bool t],ij)/\Mk es s ij v rows:=by
 unfold Go.Ai.tidy
 by_cases hp:Plain (AV.tuple [v,.bool t],s').1/\dz s (AV.tuple [v,.bool t],s').2
 . rw[if_pos hp]
   refine ⟨s,rfl,?_⟩
   rcases h.loose with ⟨b,off,n,rfl⟩|⟨hl,_⟩
   . exact (r5 (VE hp.1)).elim
   . exact hl s h.lZ
 . rw[if_neg hp];exact ⟨s',rfl,h⟩
end Go.Ai
end
section
namespace Go.Ai
open Go Go.WideShapes
theorem RE {P :Program} {C:Cells} {f:FuncId} {call:ak} {d:Nat} (fN: ∀C':Cells,(∀ad u,C ad=some u->C' ad=some u)->(∀a v,C a=some v-> ∀o,C ⟨a.block,o,none⟩=none->C' ⟨a.block,o,none⟩=none)->jE P C' call):mC P C f (DP call f d) where
 mono args st v st' h:=by
  unfold DP at h
  split at h
  . split at h
    .   rename_i hs
        simp only[Option.some.injEq,Prod.mk.injEq] at h
        rw[<-h.2];exact hs.2
    .   cases h
  . cases h
 runs ρ st  w args v st' bl h hW hv:=by
  unfold DP at h
  split at h
  . rename_i v1 bu hc
    split at h
    .   rename_i hs
        simp only[Option.some.injEq,Prod.mk.injEq] at h
        obtain ⟨rfl,rfl⟩:=h
        obtain ⟨s1,s3⟩:=hs
        have hr:=fN (fun ad=>w.cell? ad) (fun ad u ha=>(hW.cj ad u ha).1) (fun a v ha o ho=>hW.whole a v ha o ho) ρ { heap:= .e,next:=st.next } w f _ v1 bu bl hc (uw (fun ad u ha=>ha) fun a u _ o ho=>ho) (aq.jM hW d hv)
        refine Reaches.mono (fun x w' he=> ?_) hr
        . obtain ⟨ρ',h1,h2,h3,h4,hE⟩:=he
          have un: ∀k,k<w.heap.size->w'.heap[k]? =w.heap[k]? :=fun k hk=>hE.block k hk fun b x hb=>by rw[T.cG] at hb;cases hb
          have new: ∀b x,bu.heap.get b=some x->w.heap.size<=(ρ' b).aA:=fun b x hx=>by
            rcases hE.pS b x hx with ⟨b',x',dX,_⟩|hh
            . rw[T.cG] at dX;cases dX
            . exact hh
          have both: ∀b x,(T.both st.heap (EX bu.heap)).get b=some x->(st.heap.get b=some x/\ρ' b=ρ b)\/(bu.heap.get b=some x/\Io x):=fun b x hx=>by
            rw[T.Gj] at hx
            cases hg:st.heap.get b with
            |none=>rw[hg] at hx;exact .inr (SQ (by simpa using hx))
            |some y=>rw[hg] at hx;simp at hx;subst hx;exact .inl ⟨rfl,h2 b (hW.live b y hg).1⟩
          refine ⟨ρ',s1 _ _ _ _ _ h1,h2,s3,⟨fun b x hx=> ?_,fun b b' x x' hx qb iH=> ?_,fun a u ha=> ?_,fun a u ha o ho=> ?_⟩,⟨hE.os,hE.tape,hE.output,hE.size,fun k hk _=>un k hk,fun b x hx=> ?_⟩⟩
          . rcases both b x hx with ⟨hg,aL⟩|⟨hg,Li⟩
            . obtain ⟨l1,l2,l3⟩:=hW.live b x hg
              refine ⟨Nat.lt_of_lt_of_le l1 s3,by rw[aL];exact Nat.lt_of_lt_of_le l2 hE.size,?_⟩
              rw[aL]
              exact (l3.of_heap (un _ l2)).mono h2 s3
            . obtain ⟨l1,l2,l3⟩:=h4.live b x hg
              exact ⟨l1,l2,Li.rel l3⟩
          . rcases both b x hx with ⟨hg,aL⟩|⟨hg,Li⟩
            . rcases both b' x' qb with ⟨rL,tI⟩|⟨rL,_⟩
              . rw[aL,tI] at iH;exact hW.inj b b' x x' hg rL iH
              . have q1:=(hW.live b x hg).2.1;have q2:=new b' x' rL;rw[aL] at iH;omega
            . rcases both b' x' qb with ⟨rL,tI⟩|⟨rL,_⟩
              . have q1:=(hW.live b' x' rL).2.1;have q2:=new b x hg;rw[tI] at iH;omega
              . exact h4.inj b b' x x' hg rL iH
          . obtain ⟨c1,c2⟩:=hW.cj a u ha
            have aZ:a.block<w.heap.size:=World.block_lt_of_cell? _ _ c1
            refine ⟨(h4.cj a u c1).1,fun b x hx=> ?_⟩
            rcases both b x hx with ⟨hg,aL⟩|⟨hg,Li⟩
            . rw[aL];exact c2 b x hg
            . have:=new b x hg;omega
          . have aZ:a.block<w.heap.size:=World.block_lt_of_cell? _ _ (hW.cj a u ha).1
            rw[World.cell?_of_block (w:=w) (a:=⟨a.block,o,none⟩) (un _ aZ)]
            exact hW.whole a u ha o ho
          . rcases both b x hx with ⟨hg,aL⟩|⟨hg,Li⟩
            . exact .inl ⟨b,x,hg,by rw[aL]⟩
            . exact .inr (new b x hg)
    .   cases h
  . cases h
theorem yu {Q:List AV->Prop} {Qs:List (List AV->Prop)} {ps:List (List AV)} (h:Jm (Q::Qs) ps): ∃p qs,ps=p::qs/\Q p/\Jm Qs qs:=by
 cases ps with
 |nil=>exact h.elim
 |cons p qs=>exact ⟨p,qs,rfl,h⟩
theorem VF {ps:List (List AV)} (h:Jm [] ps):ps=[]:=by
 cases ps with
 |nil=>rfl
 |cons p qs=>exact h.elim
section
variable {H : Type} {enc : TypeId × Value -> H} {P : Program} {w : World} {base : Nat} {spare : Nat -> Bool} {held : Bool}
theorem zx {t e:TypeId} {Q:List AV->Prop} {r:Go.Reach} {b0:Nat} {v:Value} {d:DataW H} {p:List MemPlace} (ho:jL enc P w base spare held t Q) (ht:P.underlying t=some (.slice e))
  (hval:Value.okWide P w r b0 t v) (hd:DataW.Trod enc P w base spare held t v d p): ∃as,Q as/\ ∀ρ n,aq ρ n (fun ad=>w.cell? ad) as [v]:=by
 obtain ⟨a,len,cap,rfl⟩:=okWide_slice ht hval
 obtain ⟨fuel,hf⟩:=hd
 exact ho _ _ _ hf
end
end Go.Ai
end
