/- Functions of the program as plain functions over the evaluator's values, and data that a caller lays as such values. -/
import Derived.Test.YtehbdakjkjkekaaGreatDoorSEvalD
import Derived.KernelRfl
import Derived.ChangeArms
import Derived.WalkKit
import Derived.OpenShut
import Derived.ProofKit
import Derived.Below
import Derived.Carry
import Derived.WideShapes
import Derived.ChangeSame
import Derived.ChangeMaps5
import Derived.ShutString
set_option linter.all false
set_option linter.unusedSectionVars false
set_option linter.deprecated false
section
namespace Go.Ai
open Go Go.RowKit
def J6 (c c':ai):Prop:= ∀f args st r,c f args st=some r->c' f args st=some r
theorem J6.refl (c:ai):J6 c c:=fun _ _ _ _ h=>h
section
variable {c c' : ai}
theorem FE (h:J6 c c') {k:aE} {xs:List AV} {st:St} {r:AV×St} (e:cU c k xs st=some r):cU c' k xs st=some r:=by
 unfold cU at e ⊢
 cases hr:k.run (fun b=>st.heap.get b) st.next xs with
 |none=>simp[hr] at e
 |some x=>cases x with
  |val v=>simpa [hr] using e
  |aI v d s n=>simpa [hr] using e
  |call f args=>simp only[hr] at e ⊢; exact h _ _ _ _ e
theorem Jj (h:J6 c c'): ∀(os:List cq) (fr:Fr) (st:St) (r:Fr×St),kA c os fr st=some r->kA c' os fr st=some r
 |[],_,_,_,e=>e
 |o::os,fr,st,r,e=>by
  unfold kA at e ⊢
  cases hw:cC fr o.guard with
  |none=>simp[hw] at e
  |some b=>cases b with
   |false=>simp only[hw] at e ⊢; exact Jj h _ _ _ _ e
   |    true=>
        simp only[hw] at e ⊢
        cases hx:eY fr o.xs with
        |none=>simp[hx] at e
        |some xs=>
         simp only[hx] at e ⊢
         cases hs:cU c o.k xs st with
         |none=>simp[hs] at e
         |some p=>simp only[hs] at e;simp only[FE h hs];exact Jj h _ _ _ _ e
theorem KF (h:J6 c c'): ∀(os:List (Nat×cq)) (recs:List Rec) (base:T AB) (fr:Fr) (st:St) (r:Fr×St),dU c os recs base fr st=some r->dU c' os recs base fr st=some r
 |[],_,_,_,_,_,e=>e
 |(j,   o)::os,recs,base,fr,st,r,e=>by
  have ih:=KF h os
  unfold dU at e ⊢
  cases hw:cC fr o.guard with
  |none=>simp[hw] at e
  | some b=>cases b with
    |false=>simp only[hw] at e ⊢; exact ih _ _ _ _ _ e
    |   true=>
        simp only[hw] at e ⊢
        cases hx:eY fr o.xs with
        |none=>simp[hx] at e
        |some xs=>
         simp only[hx] at e ⊢
         cases hc:o.cls with
         |  aI=>
            simp only[hc] at e ⊢
            cases hs:cU c o.k xs st with
            |none=>simp[hs] at e
            |some p=>simp only[hs] at e;simp only[FE h hs];exact ih _ _ _ _ _ e
         |  new=>
            simp only[hc] at e ⊢
            split at e<;>first|(cases e;done)|exact ih _ _ _ _ _ e
         |  pure=>
            simp only[hc] at e ⊢
            split at e<;>(try split at e)<;>(try split at e)<;>first|(cases e;done)|(simp only[*];exact ih _ _ _ _ _ e)|exact ih _ _ _ _ _ e
         |  read=>
            simp only[hc] at e ⊢
            split at e<;>(try split at e)<;>(try split at e)<;>first|(cases e;done)|(simp only[*];exact ih _ _ _ _ _ e)|exact ih _ _ _ _ _ e
theorem Jk (h:J6 c c'): ∀(n m:Nat),n<=m-> ∀(a:AC) (fr:Fr) (st:St) (r:o7×Fr×St),exec c n a fr st=some r->exec c' m a fr st=some r
 |0,_,_,_,_,_,_,e=>by simp[exec] at e
 |n+1,0,hm,_,_,_,_,_=>by omega
 |n+    1,m+1,hm,a,fr,st,r,e=>by
  have ih:=Jk h n m (by omega)
  cases a<;>simp only[exec,bf] at e ⊢
  case skip=>exact e
  case exit=>exact e
  case ret=>exact e
  case region ops=>
   cases ho:kA c ops fr st with
   |none=>simp[ho] at e
   |some p=>simp only[ho] at e;simp only[Jj h _ _ _ _ ho];exact e
  case draw ops=>
   cases ho:dU c ops [] st.heap fr st with
   |none=>simp[ho] at e
   |some p=>simp only[ho] at e;simp only[KF h _ _ _ _ _ _ ho];exact e
  case seq a b=>
   cases ha:exec c n a fr st with
   |none=>simp[ha] at e
   |    some p=>
        obtain ⟨ex,gH,cm⟩:=p
        simp only[ha] at e;simp only[ih _ _ _ _ ha]
        cases ex<;>first|exact e|exact ih _ _ _ _ e
  case cond x a b=>
   split at e
   .    exact ih _ _ _ _ e
   .    exact ih _ _ _ _ e
   .    cases e
  case block id a=>
   cases ha:exec c n a fr st with
   |none=>simp[ha] at e
   |    some p=>
        obtain ⟨ex,gH,cm⟩:=p
        simp only[ha] at e;simp only[ih _ _ _ _ ha]
        cases ex<;>exact e
  case loop a=>
   cases ha:exec c n a fr st with
   |none=>simp[ha] at e
   |    some p=>
        obtain ⟨ex,gH,cm⟩:=p
        simp only[ha] at e;simp only[ih _ _ _ _ ha]
        cases ex<;>first|exact e|exact ih _ _ _ _ e
end
def Plain (v:AV):Prop:= ∀(ρ ρ':Pos->Loc) (n n':Nat) (C:Cells) (x:Value),aA ρ n C v x->aA ρ' n' C v x
theorem Plain.bool (b:Bool):Plain (.bool b):=fun _ _ _ _ _ _ h=>by cases h;exact .bool b
theorem Plain.int (k:IntKind) (i:Int):Plain (.int k i):=fun _ _ _ _ _ _ h=>by cases h;exact .int k i
theorem Plain.str (s:List Nat):Plain (.str s):=fun _ _ _ _ _ _ h=>by cases h with|str _ bs h=>exact .str s bs h
theorem Plain.bq:Plain .bq:=fun _ _ _ _ _ _ h=>by cases h;exact .bq
theorem Plain.aj:Plain .aj:=fun _ _ _ _ _ _ h=>by cases h;exact .aj
theorem Plain.gA:Plain .gA:=fun _ _ _ _ _ _ h=>by cases h;exact .gA
theorem Plain.ax:Plain .ax:=fun _ _ _ _ _ _ h=>by cases h;exact .ax
theorem Plain.func (f:FuncId) {a b:List AV} (ha: ∀v∈a,Plain v) (hb: ∀v∈b,Plain v):Plain (.func f a b):=fun _ _ _ _ _ _ h=>by
 cases h with
 |func _ _ _ a' b' hx hy h1 h2=>exact .func f a b a' b' hx hy (fun i v x hv hx=>ha v (List.mem_of_getElem? hv) _ _ _ _ _ _ (h1 i v x hv hx)) (fun i v x hv hx=>hb v (List.mem_of_getElem? hv) _ _ _ _ _ _ (h2 i v x hv hx))
theorem Plain.tuple {l:List AV} (hl: ∀v∈l,Plain v):Plain (.tuple l):=fun _ _ _ _ _ _ h=>by
 cases h with
 |tuple _ cs hx h1=>exact .tuple l cs hx fun i v x hv hx=>hl v (List.mem_of_getElem? hv) _ _ _ _ _ _ (h1 i v x hv hx)
theorem Plain.agg {l:List AV} (hl: ∀v∈l,Plain v):Plain (.agg l):=fun _ _ _ _ _ _ h=>by
 cases h with
 |agg _ cs hx h1=>exact .agg l cs hx fun i v x hv hx=>hl v (List.mem_of_getElem? hv) _ _ _ _ _ _ (h1 i v x hv hx)
theorem Plain.fl {xs:List (List AV)} {es:Nat} (hl: ∀cs∈xs,∀v∈cs,Plain v):Plain (.fl xs es):=fun _ _ _ _ _ _ h=>by
 cases h with
 |fl _ _ aL a cell h1 h2 h3 h4 h5=>exact .fl xs es aL a cell h1 h2 h3 h4 fun i j cs v hi hj=>hl cs (List.mem_of_getElem? hi) v (List.mem_of_getElem? hj) _ _ _ _ _ _ (h5 i j cs v hi hj)
def cB (st st':St):Prop:= ∀b x,st.heap.get b=some x->st'.heap.get b=some x
theorem cB.refl (st:St):cB st st:=fun _ _ h=>h
theorem cB.trans {a b c:St} (h:cB a b) (k:cB b c):cB a c:=fun _ _ e=>k _ _ (h _ _ e)
theorem aA.down {ρ ρ':Pos->Loc} {n n':Nat} {C:Cells} {v:AV} {x:Value} (h:aA ρ' n' C v x): ∀{y:Value},aA ρ n C v y->(∀b:Pos,b.toNat<n->ρ' b=ρ b)->aA ρ n C v x:=by
 induction h with
 |bool b=>exact fun h _=> .bool b
 |int k i=>exact fun h _=> .int k i
 |str s bs h=>exact fun _ _=> .str s bs h
 |bq=>exact fun _ _=> .bq
 |ptr b off h=>
  intro y h aU
  cases h with
  |ptr _ _ h'=>rw[aU b h'];exact .ptr b off h'
 |fp xs i j es aF base cell hl hc hv ih=>
  intro y h aU
  cases h with
  |fp _ _ _ es' zW VH aid hl' tD Ej=>exact .fp xs i j es aF base cell hl hc fun i j cs v hi hj=>ih i j cs v hi hj (Ej i j cs v hi hj) aU
 |aj=>exact fun _ _=> .aj
 |slice  b off len cap es aL a hl hc ha hk=>
  intro y h aU
  cases h with
  |slice _ _ _ _ _ VC a' hl' tD ha' qI=>
   refine .slice b off len cap es aL a hl hc (fun h0=> ?_) qI
   obtain ⟨h1,h2,h3⟩:=ha h0
   have hb:b.toNat<n:=by
        cases cap with
        |none=>exact qI rfl
        |some c=>
         have e1:=hc c rfl
         have e2:=tD c rfl
         exact (ha' (by rw[<-e2,e1];exact h0)).1
   rw[aU b hb] at h2 h3;exact ⟨hb,h2,h3⟩
 |fl xs es aL a cell hl hs gq hc hv ih=>
  intro y h aU
  cases h with
  |fl _ _ VC a' aid hl' nr hes' tD Ej=>exact .fl xs es aL a cell hl hs gq hc fun i j cs v hi hj=>ih i j cs v hi hj (Ej i j cs v hi hj) aU
 |gA=>exact fun _ _=> .gA
 |map b h=>
  intro y h aU
  cases h with
  |map _ h'=>rw[aU b h'];exact .map b h'
 |func f x y x' y' hx hy h1 h2 WD WE=>
  intro z h aU
  cases h with
  |func _ _ _ a' b' kx ky k1 k2=>
   refine .func f x y x' y' hx hy (fun i v x hv C6=> ?_) (fun i v x hv C6=> ?_)
   .    have hi:i<a'.size:=by rw[<-kx];exact (List.getElem?_eq_some_iff.1 hv).1
        exact WD i v x hv C6 (k1 i v _ hv (Array.getElem?_eq_getElem hi)) aU
   .    have hi:i<b'.size:=by rw[<-ky];exact (List.getElem?_eq_some_iff.1 hv).1
        exact WE i v x hv C6 (k2 i v _ hv (Array.getElem?_eq_getElem hi)) aU
 |ax=>exact fun _ _=> .ax
 |oN=>exact fun _ _=> .oN
 |iface t v x _ ih=>
  intro y h aU
  cases h with
  |iface _ _ x' h'=>exact .iface t v x (ih h' aU)
 |agg l cs hx h1 ih=>
  intro y h aU
  cases h with
  |agg _ ql kx k1=>
   refine .agg l cs hx fun i v x hv C6=> ?_
   have hi:i<ql.size:=by rw[<-kx];exact (List.getElem?_eq_some_iff.1 hv).1
   exact ih i v x hv C6 (k1 i v _ hv (Array.getElem?_eq_getElem hi)) aU
 |tuple l cs hx h1 ih=>
  intro y h aU
  cases h with
  |tuple _ ql kx k1=>
   refine .tuple l cs hx fun i v x hv C6=> ?_
   have hi:i<ql.size:=by rw[<-kx];exact (List.getElem?_eq_some_iff.1 hv).1
   exact ih i v x hv C6 (k1 i v _ hv (Array.getElem?_eq_getElem hi)) aU
end Go.Ai
end
section
noncomputable section
namespace Go.Ai
open Go Go.RowKit
def tidy (st:St) (r:AV×St):AV×St:=open Classical in if Plain r.1/\cB st r.2 then (r.1,st) else r
theorem Xu {ρ:Pos->Loc} {C:Cells} {st:St} {w w':World} {r:AV×St} {x:Value} (hW:bM ρ C st w) (h:lM ρ C st w r.1 r.2 x w'):
   lM ρ C st w (tidy st r).1 (tidy st r).2 x w':=by
 unfold tidy
 split
 . rename_i hp
   obtain ⟨ρ',hv,aU,hn,eF,hE⟩:=h
   refine ⟨ρ,hp.1 _ _ _ _ _ _ hv,fun _ _=>rfl,Nat.le_refl _,⟨fun b y hb=> ?_,hW.inj,fun a u ha=>⟨(eF.dc a u ha).1,(hW.dc a u ha).2⟩,eF.whole⟩,⟨hE.os,hE.tape,hE.output,hE.size,hE.block,fun b y hb=> .inl ⟨b,y,hb,rfl⟩⟩⟩
   obtain ⟨g1,g2,g3⟩:=hW.live b y hb
   obtain ⟨_,_,k3⟩:=eF.live b y (hp.2 b y hb)
   refine ⟨g1,Nat.lt_of_lt_of_le g2 hE.size,?_⟩
   rw[aU b g1] at k3
   cases y with
   |cells cs fz=>
    obtain ⟨c,e,fr,q1,q2,q3,q4,q5⟩:=k3
    obtain ⟨c0,e0,cN,p1,p2,p3,p4,p5⟩:=g3
    refine ⟨c,e,fr,q1,q2,q3,⟨q4.1,fun i v x hv hx=> ?_⟩,q5⟩
    obtain ⟨y0,hy0,wj⟩:=p4.get hv
    exact (q4.2 i v x hv hx).down wj aU
   |map es clock=>
    obtain ⟨es',q1,q2,q3⟩:=k3
    obtain ⟨es0,p1,p2,p3⟩:=g3
    refine ⟨es',q1,q2,fun i e e' he n9=> ?_⟩
    obtain ⟨a1,a2,a3⟩:=q3 i e e' he n9
    have hi:i<es0.size:=by rw[<-p2];exact (List.getElem?_eq_some_iff.1 he).1
    obtain ⟨b1,b2,_⟩:=p3 i e _ he (Array.getElem?_eq_getElem hi)
    exact ⟨a1.down b1 aU,a2.down b2 aU,a3⟩
   |kY s pos=>exact k3
   |typed t cs=>
    obtain ⟨c,fr,q1,q2,q3,q4,q5⟩:=k3
    obtain ⟨c0,cN,p1,p2,p3,p4,p5⟩:=g3
    refine ⟨c,fr,q1,q2,q3,⟨q4.1,fun i v x hv hx=> ?_⟩,q5⟩
    obtain ⟨y0,hy0,wj⟩:=p4.get hv
    exact (q4.2 i v x hv hx).down wj aU
 . exact h
theorem Xv {st:St} {r:AV×St} (h:st.next.toNat<=r.2.next.toNat):st.next.toNat<=(tidy st r).2.next.toNat:=by
 unfold tidy;split
 . exact Nat.le_refl _
 . exact h
def sO (call:ai) (m:Nat) (F:aM) (args:List AV) (st:St):Option (AV×St):=
 match Nat.beq args.length F.nparams with
 |  true=>match exec call m F.code (params 0 args .e) st with
    |some (.normal,fr,st')=>match gB (fun b=>st'.heap.get b) fr F.results with
     |some vs=>some (wH vs,st')
     |none=>none
    |some (.ret,fr,st')=>match gB (fun b=>st'.heap.get b) fr F.results with
     |some vs=>some (wH vs,st')
     |none=>none
    |_=>none
 |false=>none
def sQ (O:eW) (G:T aM) (m:Nat):Nat->ai
 |0=>fun _ _ _=>none
 |  d+1=>fun f args st=>match O f with
    |some s=>s args st
    |none=>match G.get (key f) with
     |some F=>(sO (sQ O G m d) m F args st).map (tidy st)
     |none=>none
section
variable {P : Program} {tt : TT} {C : Cells}
theorem VI (hT:dh P tt) {G:T aM} (hG:LU P tt G) {call:ai} (fZ:j0 P C call) (wT:Ie P tt C call) (m:Nat) {f:FuncId} {F:aM} (hF:G.get (key f)=some F)
   {ρ:Pos->Loc} {st:St} {w:World} {args:List AV} {v:AV} {st':St} {bu:List Value} (h:sO call m F args st=some (v,st')) (hW:bM ρ C st w) (vw:az ρ st.next.toNat C args bu):
   Reaches P (lM ρ C st w v st') ((callFunc f bu.toArray).run P w):=by
 unfold sO at h
 split at h<;>first|(cases h;done)|skip
 rename_i hlen
 have hlen:=Nat.eq_of_beq_eq_true hlen
 obtain ⟨fn,jM,o9,Bt⟩:=hG _ _ hF
 rw[jY,Nat.add_sub_cancel] at jM
 unfold aq at Bt
 split at Bt<;>first|(cases Bt;done)|skip
 rename_i c hb
 split at Bt<;>first|(cases Bt;done)|skip
 rename_i ac rs Xh Ig hle
 simp only[Option.some.injEq] at Bt;subst Bt
 simp only at h hlen
 have hle:=Nat.le_of_ble_eq_true hle
 have cA:(callFunc f bu.toArray).run P w= .ok (.enter f bu.toArray) w:=by
   have Qt: ¬fn.name= "runtime.NumGoroutine" :=by simpa using o9
   simp[callFunc,jM,Qt,hb]
 rw[cA]
 simp only[Reaches]
 refine calls_of_wp jM hb ?_
 have fh:bu.length<=fn.ntmps:=by rw[<-vw.1,hlen];exact hle
 have hS:Fo fn.ntmps ρ C (params 0 args .e) st { tmps:=bu.toArray++Array.replicate (fn.ntmps - bu.toArray.size) undef,defers:=[] } w:=by
   refine ⟨hW,?_,?_,rfl⟩
   . refine Fq args bu 0 .e vw (fun j x hx=> ?_) (fun p v hp=>by rw[T.eE] at hp;cases hp)
     have hj:j<bu.length:=(List.getElem?_eq_some_iff.1 hx).1
     rw[Nat.zero_add,Array.getElem?_append_left (by simpa using hj)]
     simpa using hx
   . simp;omega
 split at h<;>first|(cases h;done)|skip
 . rename_i gH cm h1
   split at h<;>first|(cases h;done)|skip
   rename_i vs o8
   simp only[Option.some.injEq,Prod.mk.injEq] at h
   obtain ⟨rfl,rfl⟩:=h
   refine (wU hT fZ wT m).1 c ac _ gH st cm .normal ρ _ w _ Xh h1 hS fun a' w' hp=> ?_
   obtain ⟨jC,tG,k1,k2,k3⟩:=hp
   obtain ⟨y,JL,JM⟩:=vu hT tG.W tG.F Ig o8
   exact ⟨tG.defers,y,JL,jC,JM,k1,k2,tG.W,k3⟩
 . rename_i gH cm h1
   split at h<;>first|(cases h;done)|skip
   rename_i vs o8
   simp only[Option.some.injEq,Prod.mk.injEq] at h
   obtain ⟨rfl,rfl⟩:=h
   refine (wU hT fZ wT m).1 c ac _ gH st cm .ret ρ _ w _ Xh h1 hS fun a' w' hp=> ?_
   obtain ⟨jC,tG,k1,k2,k3⟩:=hp
   obtain ⟨y,JL,JM⟩:=vu hT tG.W tG.F Ig o8
   exact ⟨tG.defers,y,JL,jC,JM,k1,k2,tG.W,k3⟩
theorem Xw {call:ai} (hm:mR call) {m:Nat} {F:aM} {args:List AV} {st:St} {v:AV} {st':St} (h:sO call m F args st=some (v,st')):st.next.toNat<=st'.next.toNat:=by
 unfold sO at h
 split at h<;>first|(cases h;done)|skip
 split at h<;>first|(cases h;done)|skip
 all_goals
  rename_i h1
  split at h<;>first|(cases h;done)|skip
  simp only[Option.some.injEq,Prod.mk.injEq] at h
  obtain ⟨rfl,rfl⟩:=h
  exact CY hm _ _ _ _ _ _ _ h1
theorem Mg {O:eW} {G:T aM} (hO:lY O) (m:Nat): ∀d,mR (sQ O G m d)
 |0=>fun f args st v st' h=>by simp[sQ] at h
 |d +1=>fun f args st v st' h=>by
  unfold sQ at h
  split at h
  . rename_i s hs;exact hO _ _ hs _ _ _ _ h
  . split at h<;>first|(cases h;done)|skip
    simp only[Option.map_eq_some_iff] at h
    obtain ⟨r,hr,he⟩:=h
    have:=Xw (Mg hO m d) (v:=r.1) (st':=r.2) hr
    have:=Xv this
    rw[he] at this;exact this
theorem J7 (hm:P.follows .mixedOrders=true) (hT:dh P tt) {O:eW} {G:T aM} (hO:qZ P C O) (J5:lY O) (hG:LU P tt G) (m:Nat): ∀d,j0 P C (sQ O G m d)
 |0=>fun ρ st w f args v st' bu h=>by simp[sQ] at h
 |d +1=>by
  intro ρ st w f args v st' bu h hW vw
  have ih:=J7 hm hT hO J5 hG m d
  unfold sQ at h
  split at h
  . rename_i s hs
    exact hO f s hs ρ st w args v st' bu h hW vw
  . split at h<;>first|(cases h;done)|skip
    rename_i F hF
    simp only[Option.map_eq_some_iff] at h
    obtain ⟨r,hr,he⟩:=h
    refine Reaches.mono (fun x w' hp=> ?_) (VI hT hG ih (L8 hm hT ih (Mg J5 m d)) m hF (v:=r.1) (st':=r.2) hr hW vw)
    have:=Xu hW hp
    rw[he] at this;exact this
end
theorem Uv {c c':ai} (h:J6 c c') {n m:Nat} (hn:n<=m) {F:aM} {args:List AV} {st:St} {r:AV×St} (e:sO c n F args st=some r):sO c' m F args st=some r:=by
 unfold sO at e ⊢
 split at e<;>first|(cases e;done)|skip
 split at e<;>first|(cases e;done)|skip
 all_goals
  rename_i h1
  simp only[Jk h n m hn _ _ _ _ h1]
  exact e
theorem KG (O:eW) (G:T aM) {n m:Nat} (hn:n<=m): ∀d d',d<=d'->J6 (sQ O G n d) (sQ O G m d')
 |0,_,_=>fun _ _ _ _ e=>by simp[sQ] at e
 |_+1,0,h=>by omega
 |d +1,d'+1,h=>fun f args st r e=>by
  have ih:=KG O G hn d d' (by omega)
  unfold sQ at e ⊢
  split at e
  . exact e
  . split at e<;>first|(cases e;done)|skip
    simp only[Option.map_eq_some_iff] at e ⊢
    obtain ⟨q,hq,he⟩:=e
    exact ⟨q,Uv ih hn hq,he⟩
def cn (O:eW) (G:T aM) (n:Nat):ai:=sQ O G n n
theorem FF (O:eW) (G:T aM) {n m:Nat} (h:n<=m):J6 (cn O G n) (cn O G m):=KG O G h n m h
def run (O:eW) (G:T aM):ai:=fun f args st=>open Classical in
 if h: ∃(r:AV×St) (n:Nat),cn O G n f args st=some r then some h.choose else none
variable {O : eW} {G : T aM}
theorem Xx {f:FuncId} {args:List AV} {st:St} {r:AV×St} {n:Nat} (h:cn O G n f args st=some r):run O G f args st=some r:=by
 unfold run
 have hx: ∃(r:AV×St) (n:Nat),cn O G n f args st=some r:=⟨r,n,h⟩
 rw[dif_pos hx]
 obtain ⟨m,hm⟩:=hx.choose_spec
 have h1:=FF O G (Nat.le_max_left n m) f args st _ h
 have h2:=FF O G (Nat.le_max_right n m) f args st _ hm
 rw[h1] at h2
 exact h2.symm
theorem QM {f:FuncId} {args:List AV} {st:St} {r:AV×St} (h:run O G f args st=some r): ∃n,cn O G n f args st=some r:=by
 unfold run at h
 split at h
 . rename_i hx
   simp only[Option.some.injEq] at h
   rw[<-h];exact hx.choose_spec
 . cases h
theorem Mh {k:aE} {xs:List AV} {st:St} {r:AV×St} (e:cU (run O G) k xs st=some r): ∃n,cU (cn O G n) k xs st=some r:=by
 unfold cU at e
 cases hr:k.run (fun b=>st.heap.get b) st.next xs with
 |none=>simp[hr] at e
 |some x=>cases x with
  |val v=>exact ⟨0,by simpa [cU,hr] using e⟩
  |aI v d s n=>exact ⟨0,by simpa [cU,hr] using e⟩
  |call f args=>
   simp only[hr] at e
   obtain ⟨n,hn⟩:=QM e
   exact ⟨n,by simpa [cU,hr] using hn⟩
theorem Ip: ∀(os:List cq) (fr:Fr) (st:St) (r:Fr×St),kA (run O G) os fr st=some r-> ∃n,kA (cn O G n) os fr st=some r
 |[],_,_,_,e=>⟨0,e⟩
 |o::os,fr,st,r,e=>by
  unfold kA at e
  cases hw:cC fr o.guard with
  |none=>simp[hw] at e
  |some b=>cases b with
   |    false=>
        simp only[hw] at e
        obtain ⟨n,hn⟩:=Ip os _ _ _ e
        exact ⟨n,by unfold kA;simp only[hw];exact hn⟩
   |    true=>
        simp only[hw] at e
        cases hx:eY fr o.xs with
        |none=>simp[hx] at e
        |some xs=>
         simp only[hx] at e
         cases hs:cU (run O G) o.k xs st with
         |none=>simp[hs] at e
         |some p=>
          simp only[hs] at e
          obtain ⟨n,hn⟩:=Ip os _ _ _ e
          obtain ⟨m,hm⟩:=Mh hs
          refine ⟨max n m,?_⟩
          unfold kA
          simp only[hw,hx,FE (FF O G (Nat.le_max_right n m)) hm]
          exact Jj (FF O G (Nat.le_max_left n m)) _ _ _ _ hn
theorem Mi: ∀(os:List (Nat×cq)) (recs:List Rec) (base:T AB) (fr:Fr) (st:St) (r:Fr×St),dU (run O G) os recs base fr st=some r-> ∃n,dU (cn O G n) os recs base fr st=some r
 |[],_,_,_,_,_,e=>⟨0,e⟩
 |(j,   o)::os,recs,base,fr,st,r,e=>by
  have ih:=Mi os
  unfold dU at e
  cases hw:cC fr o.guard with
  |none=>simp[hw] at e
  | some b=>cases b with
    |   false=>
        simp only[hw] at e
        obtain ⟨n,hn⟩:=ih _ _ _ _ _ e
        exact ⟨n,by unfold dU;simp only[hw];exact hn⟩
    |   true=>
        simp only[hw] at e
        cases hx:eY fr o.xs with
        |none=>simp[hx] at e
        |some xs=>
         simp only[hx] at e
         cases hc:o.cls with
         |aI=>
          simp only[hc] at e
          cases hs:cU (run O G) o.k xs st with
          |none=>simp[hs] at e
          | some p=>
            simp only[hs] at e
            obtain ⟨n,hn⟩:=ih _ _ _ _ _ e
            obtain ⟨m,hm⟩:=Mh hs
            refine ⟨max n m,?_⟩
            unfold dU
            simp only[hw,hx,hc,FE (FF O G (Nat.le_max_right n m)) hm]
            exact KF (FF O G (Nat.le_max_left n m)) _ _ _ _ _ _ hn
         |new=>
          simp only[hc] at e
          split at e<;>first|(cases e;done)|skip
          obtain ⟨n,hn⟩:=ih _ _ _ _ _ e
          refine ⟨n,?_⟩
          unfold dU
          simp only[*]
         |pure=>
          simp only[hc] at e
          split at e<;>(try split at e)<;>(try split at e)<;>first|(cases e;done)|skip
          all_goals
            obtain ⟨n,hn⟩:=ih _ _ _ _ _ e
            refine ⟨n,?_⟩
            unfold dU
            simp only[*]
         |read=>
          simp only[hc] at e
          split at e<;>(try split at e)<;>(try split at e)<;>first|(cases e;done)|skip
          all_goals
            obtain ⟨n,hn⟩:=ih _ _ _ _ _ e
            refine ⟨n,?_⟩
            unfold dU
            simp only[*]
theorem Ox: ∀(n:Nat) (a:AC) (fr:Fr) (st:St) (r:o7×Fr×St),exec (run O G) n a fr st=some r-> ∃m,exec (cn O G m) n a fr st=some r
 |0,_,_,_,_,e=>by simp[exec] at e
 |n+    1,a,fr,st,r,e=>by
  have ih:=Ox n
  have up: ∀{m m':Nat} {a:AC} {fr:Fr} {st:St} {r:o7×Fr×St},m<=m'->exec (cn O G m) n a fr st=some r->exec (cn O G m') n a fr st=some r:=
   fun h e=>Jk (FF O G h) _ _ (Nat.le_refl _) _ _ _ _ e
  cases a<;>simp only[exec,bf] at e
  case skip=>exact ⟨0,e⟩
  case exit=>exact ⟨0,e⟩
  case ret=>exact ⟨0,e⟩
  case region ops=>
   cases ho:kA (run O G) ops fr st with
   |none=>simp[ho] at e
   |    some p=>
        obtain ⟨m,hm⟩:=Ip _ _ _ _ ho
        exact ⟨m,by simp only[exec,bf,hm];simpa only[ho] using e⟩
  case draw ops=>
   cases ho:dU (run O G) ops [] st.heap fr st with
   |none=>simp[ho] at e
   |    some p=>
        obtain ⟨m,hm⟩:=Mi _ _ _ _ _ _ ho
        exact ⟨m,by simp only[exec,bf,hm];simpa only[ho] using e⟩
  case seq a b=>
   cases ha:exec (run O G) n a fr st with
   |none=>simp[ha] at e
   |    some p=>
        obtain ⟨ex,gH,cm⟩:=p
        simp only[ha] at e
        obtain ⟨m,hm⟩:=ih _ _ _ _ ha
        cases ex with
        |normal=>
         obtain ⟨m',WL⟩:=ih _ _ _ _ e
         exact ⟨max m m',by simp only[exec,bf,up (Nat.le_max_left m m') hm];exact up (Nat.le_max_right m m') WL⟩
        |exit i=>exact ⟨m,by simp only[exec,bf,hm];exact e⟩
        |ret=>exact ⟨m,by simp only[exec,bf,hm];exact e⟩
  case cond x a b=>
   split at e
   .    rename_i hx
        obtain ⟨m,hm⟩:=ih _ _ _ _ e
        exact ⟨m,by simp only[exec,bf,hx];exact hm⟩
   .    rename_i hx
        obtain ⟨m,hm⟩:=ih _ _ _ _ e
        exact ⟨m,by simp only[exec,bf,hx];exact hm⟩
   .    cases e
  case block id a=>
   cases ha:exec (run O G) n a fr st with
   |none=>simp[ha] at e
   |    some p=>
        obtain ⟨ex,gH,cm⟩:=p
        simp only[ha] at e
        obtain ⟨m,hm⟩:=ih _ _ _ _ ha
        exact ⟨m,by simp only[exec,bf,hm];exact e⟩
  case loop a=>
   cases ha:exec (run O G) n a fr st with
   |none=>simp[ha] at e
   |    some p=>
        obtain ⟨ex,gH,cm⟩:=p
        simp only[ha] at e
        obtain ⟨m,hm⟩:=ih _ _ _ _ ha
        cases ex with
        |normal=>
         obtain ⟨m',WL⟩:=ih _ _ _ _ e
         exact ⟨max m m',by simp only[exec,bf,up (Nat.le_max_left m m') hm];exact up (Nat.le_max_right m m') WL⟩
        |exit i=>exact ⟨m,by simp only[exec,bf,hm];exact e⟩
        |ret=>exact ⟨m,by simp only[exec,bf,hm];exact e⟩
theorem ZR {f:FuncId} {F:aM} {args:List AV} {st:St} {r:AV×St} {n:Nat} (ho:O f=none) (hF:G.get (key f)=some F) (h:sO (run O G) n F args st=some r):
   run O G f args st=some (tidy st r):=by
 unfold sO at h
 split at h<;>first|(cases h;done)|skip
 rename_i hlen
 have fin: ∀{ex fr st'},exec (run O G) n F.code (params 0 args .e) st=some (ex,fr,st')->(∀m k,exec (cn O G m) k F.code (params 0 args .e) st=some (ex,fr,st')->sO (cn O G m) k F args st=some r)->
    run O G f args st=some (tidy st r):=fun h1 h2=>by
   obtain ⟨m,hm⟩:=Ox _ _ _ _ _ h1
   refine Xx (n:=max n m+1) ?_
   unfold cn sQ
   simp only[ho,hF]
   have:=h2 m n hm
   have h3:=Uv (KG O G (n:=m) (m:=max n m+1) (by have:=Nat.le_max_right n m;omega) m (max n m) (Nat.le_max_right n m)) (m:=max n m+1) (by have:=Nat.le_max_left n m;omega) this
   rw[h3];rfl
 split at h<;>first|(cases h;done)|skip
 . rename_i h1
   exact fin h1 fun m k hk=>by unfold sO;simp only[hlen,hk];exact h
 . rename_i h1
   exact fin h1 fun m k hk=>by unfold sO;simp only[hlen,hk];exact h
theorem q9 {f:FuncId} {s:List AV->St->Option (AV×St)} (ho:O f=some s) {args:List AV} {st:St} {r:AV×St} (h:s args st=some r):run O G f args st=some r:=
 Xx (n:=1) (by unfold cn sQ;simp only[ho];exact h)
theorem Oy {P:Program} {tt:TT} {C:Cells} (hm:P.follows .mixedOrders=true) (hT:dh P tt) (hO:qZ P C O) (J5:lY O) (hG:LU P tt G):j0 P C (run O G):=by
 intro ρ st w f args v st' bu h hW vw
 obtain ⟨n,hn⟩:=QM h
 exact J7 hm hT hO J5 hG n n ρ st w f args v st' bu hn hW vw
end Go.Ai
end
section
noncomputable section
namespace Go.Ai
open Go
inductive Sh where
 |leaf
 |seq (jn:Option (List Pos)) (a b:Sh)
 |cond (a b:Sh)
 |block (a:Sh)
 |loop (j:Nat) (ins:List Pos) (outs:List (Nat×List Pos)) (a:Sh)
variable {R : Type}
abbrev LpK (R:Type):=Nat->List AV->St->Option R
abbrev Env (R:Type):=Nat->LpK R->Nat->List AV->St->Option R
def ay (l:List AV) (k:AV->List AV->Option R):Option R:=match l with
 |v::vs=>k v vs
 |[]=>none
def bw (l:List AV) (k:Option R):Option R:=match l with
 |[]=>k
 |_::_=>none
def af (c:ai) (k:aE) (xs:List AV) (st:St) (K:AV->St->Option R):Option R:=match cU c k xs st with
 |some (v,st')=>K v st'
 |none=>none
def ak (c:ai) (g:AV) (want:Bool) (k:aE) (xs:List AV) (st:St) (K:AV->St->Option R):Option R:=match g with
 |  .bool b=>match b==want with
    |true=>af c k xs st K
    |false=>K .undef st
 | .tuple _=>K .undef st
 |_=>none
def bg (k:aE) (xs:List AV) (K:AV->Option R):Option R:=match k.run (fun _=>none) .h xs with
 |some (.val v)=>K v
 |_=>none
def jd (g:AV) (want:Bool) (k:aE) (xs:List AV) (K:AV->Option R):Option R:=match g with
 |  .bool b=>match b==want with
    |true=>bg k xs K
    |false=>K .undef
 | .tuple _=>K .undef
 |_=>none
def fE (k:aE) (xs:List AV) (h:T AB) (ok:AV->Bool) (K:AV->Option R):Option R:=match k.run (fun _=>none) .h xs with
 |some (.val v)=>K v
 |  _=>match k.run (fun b=>h.get b) .h xs with
    |some (.val v)=>match ok v with
     |true=>K v
     |false=>none
    |_=>none
def xS (g:AV) (want:Bool) (k:aE) (xs:List AV) (h:T AB) (ok:AV->Bool) (K:AV->Option R):Option R:=match g with
 |  .bool b=>match b==want with
    |true=>fE k xs h ok K
    |false=>K .undef
 | .tuple _=>K .undef
 |_=>none
def By (k:aE) (xs:List AV) (st:St) (K:AV->AB->Option R):Option R:=match k.run (fun _=>none) st.next xs with
 |some (.aI v none none (some aF))=>K v aF
 |_=>none
def sR (g:AV) (want:Bool) (A B:Option R):Option R:=match g with
 |  .bool b=>match b==want with
    |true=>A
    |false=>B
 | .tuple _=>B
 |_=>none
def aJ (v:AV) (A B:Option R):Option R:=match v with
 | .bool true=>A
 | .bool false=>B
 |_=>none
def lS (f:(List AV->St->Option R)->Option R) (k:List AV->St->Option R):Option R:=f k
def KH (c:ai):List cq->Fr->St->(Fr->St->Option R)->Option R
 |[],fr,st,K=>K fr st
 |  o::os,fr,st,K=>match eY fr o.xs with
    |some xs=>match o.guard with
     |none=>af c o.k xs st fun v st=>KH c os (dZ fr o.dst v) st K
     |  some (p,want)=>match fr.get p with
        |some g=>ak c g want o.k xs st fun v st=>KH c os (dZ fr o.dst v) st K
        |none=>none
    |none=>none
def oD (c:ai ):List (Nat×cq)->List Rec->T AB->Fr->St->(Fr->St->Option R)->Option R
 |[],_,_,fr,st,K=>K fr st
 |  (j, o):: os,recs,base,fr,st,K=>match eY fr o.xs with
    | some xs=>match o.cls with
      | .pure=>match o.guard with
        |none=>bg o.k xs fun v=>oD c os ({ idx:=j,o:=o,v:=v,c:= .pure,nx:=st.next }::recs) base (dZ fr o.dst v) st K
        |some (p,want)=>match fr.get p with
         |some g=>jd g want o.k xs fun v=>oD c os ({ idx:=j,o:=o,v:=v,c:= .pure,nx:=st.next }::recs) base (dZ fr o.dst v) st K
         |none=>none
      | .read=>match o.guard with
        |none=>fE o.k xs (snap o.cv base recs) (fun v=>lH o.cv o.k xs v [] recs) fun v=>oD c os ({ idx:=j,o:=o,v:=v,c:= .pure,nx:=st.next }::recs) base (dZ fr o.dst v) st K
        |some (p,want)=>match fr.get p with
         |some g=>xS g want o.k xs (snap o.cv base recs) (fun v=>lH o.cv o.k xs v [] recs) fun v=>oD c os ({ idx:=j,o:=o,v:=v,c:= .pure,nx:=st.next }::recs) base (dZ fr o.dst v) st K
         |none=>none
      | .new=>match o.guard with
        |none=>By o.k xs st fun v aF=>oD c os ({ idx:=j,o:=o,v:=v,c:= .new st.next aF,nx:=st.next.succ }::recs) base (dZ fr o.dst v) { heap:=st.heap.put (some aF) st.next,next:=st.next.succ } K
        |some (p,want)=>match fr.get p with
         |some g=>sR g want (By o.k xs st fun v aF=>oD c os ({ idx:=j,o:=o,v:=v,c:= .new st.next aF,nx:=st.next.succ }::recs) base (dZ fr o.dst v) { heap:=st.heap.put (some aF) st.next,next:=st.next.succ } K)
             (oD c os ({ idx:=j,o:=o,v:= .undef,c:= .pure,nx:=st.next }::recs) base (dZ fr o.dst .undef) st K)
         |none=>none
      | .aI=>match o.guard with
        |none=>af c o.k xs st fun v st'=>oD c os ({ idx:=j,o:=o,v:=v,c:= .aI base st'.heap,nx:=st'.next }::recs) st'.heap (dZ fr o.dst v) st' K
        |some (p,want)=>match fr.get p with
         |some g=>sR g want (af c o.k xs st fun v st'=>oD c os ({ idx:=j,o:=o,v:=v,c:= .aI base st'.heap,nx:=st'.next }::recs) st'.heap (dZ fr o.dst v) st' K)
             (oD c os ({ idx:=j,o:=o,v:= .undef,c:= .pure,nx:=st.next }::recs) base (dZ fr o.dst .undef) st K)
         |none=>none
    |none=>none
def Iq:List Pos->Fr->(List AV->Option R)->Option R
 |[],_,k=>k []
 |  p::ps,fr,k=>match fr.get p with
    |some v=>Iq ps fr fun vs=>k (v::vs)
    |none=>none
def Ir:List Pos->List AV->Fr->(Fr->Option R)->Option R
 |[],vs,fr,k=>bw vs (k fr)
 |p::ps,vs,fr,k=>ay vs fun v vs=>Ir ps vs (fr.put (some v) p) k
def PJ:List (Nat×List Pos)->Nat->List Pos
 |[],_=>[]
 |  (i,l)::r,e=>match Nat.beq i e with
    |true=>l
    |false=>PJ r e
def exOf:Nat->o7
 |0=> .normal
 |1=> .ret
 |n+2=> .exit n
def QN (D:Fr->St->(o7->Fr->St->Option R)->Option R) (ins:List Pos) (outs:List (Nat×List Pos)) (K':LpK R) (again:List AV->St->Option R) (vs:List AV) (st:St):Option R:=
 Ir ins vs .e fun fr=>D fr st fun ex fr st=>match ex with
    | .normal=>Iq ins fr fun vs=>again vs st
    | .exit i=>Iq (PJ outs (i+2)) fr fun os=>K' (i+2) os st
    | .ret=>Iq (PJ outs 1) fr fun os=>K' 1 os st
def knk (outs:List (Nat×List Pos)) (K:o7->Fr->St->Option R):LpK R:=fun e os st=>Ir (PJ outs e) os .e fun fr=>K (exOf e) fr st
def den (c:ai) (F:Nat) (L:Env R):AC->Sh->Fr->St->(o7->Fr->St->Option R)->Option R
 | .skip,_,fr,st,K=>K .normal fr st
 | .region ops,_,fr,st,K=>KH c ops fr st (K .normal)
 | .draw ops,_,fr,st,K=>oD c ops [] st.heap fr st (K .normal)
 |  .seq a b,s,fr,st,K=>match s with
    | .seq none s t=>den c F L a s fr st fun ex fr st=>match ex with
      | .normal=>den c F L b t fr st K
      | .exit i=>K (.exit i) fr st
      | .ret=>K .ret fr st
    | .seq (some l) s t=>lS (fun K'=>den c F L a s fr st fun ex fr st=>match ex with
      | .normal=>Iq l fr fun vs=>K' vs st
      | .exit i=>K (.exit i) fr st
      | .ret=>K .ret fr st) (fun vs st=>Ir l vs .e fun fr=>den c F L b t fr st K)
    |_=>none
 |  .cond x a b,s,fr,st,K=>match s with
    | .cond s t=>match zj fr x with
      |some v=>aJ v (den c F L a s fr st K) (den c F L b t fr st K)
      |none=>none
    |_=>none
 |  .block id a,s,fr,st,K=>match s with
    | .block s=>den c F L a s fr st fun ex fr st=>match ex with
      | .normal=>K .normal fr st
      | .exit i=>match Nat.beq i id with
        |true=>K .normal fr st
        |false=>K (.exit i) fr st
      | .ret=>K .ret fr st
    |_=>none
 |  .loop _,s,fr,st,K=>match s with
    | .loop j ins outs _=>Iq ins fr fun vs=>L j (knk outs K) F vs st
    |_=>none
 | .exit id,_,fr,st,K=>K (.exit id) fr st
 | .ret,_,fr,st,K=>K .ret fr st
def bV (c:ai) (F:Nat) (L:Env R) (a:AC):Sh->Prop
 | .loop j ins outs s=> ∀K',(∀vs st,L j K' 0 vs st=none)/\ ∀n vs st,L j K' (n+1) vs st=QN (den c F L a s) ins outs K' (L j K' n) vs st
 |_=>False
def uP (c:ai) (F:Nat) (L:Env R):AC->Sh->Prop
 |  .seq a b,s=>match s with
    | .seq _ s t=>uP c F L a s/\uP c F L b t
    |_=>True
 |  .cond _ a b,s=>match s with
    | .cond s t=>uP c F L a s/\uP c F L b t
    |_=>True
 |  .block _ a,s=>match s with
    | .block s=>uP c F L a s
    |_=>True
 |  .loop a,s=>match s with
    | .loop j ins outs s=>bV c F L a (.loop j ins outs s)/\uP c F L a s
    |_=>True
 |_,_=>True
def cu:AC->Sh->List (AC×Sh)
 |  .seq a b,s=>match s with
    | .seq _ s t=>cu a s++cu b t
    |_=>[]
 |  .cond _ a b,s=>match s with
    | .cond s t=>cu a s++cu b t
    |_=>[]
 |  .block _ a,s=>match s with
    | .block s=>cu a s
    |_=>[]
 |  .loop a,s=>match s with
    | .loop j ins outs s=>(a,.loop j ins outs s)::cu a s
    |_=>[]
 |_,_=>[]
theorem yp {c:ai} {F:Nat} {L:Env R}: ∀(a:AC) (s:Sh),(∀x∈cu a s,bV c F L x.1 x.2)->uP c F L a s
 | .skip,_,_=>trivial
 | .region _,_,_=>trivial
 | .draw _,_,_=>trivial
 | .exit _,_,_=>trivial
 | .ret,_,_=>trivial
 | .seq a b,s,h=>by
   cases s<;>simp only[uP]<;>simp only[cu,List.mem_append] at h
   exact ⟨yp a _ fun x hx=>h x (.inl hx),yp b _ fun x hx=>h x (.inr hx)⟩
 | .cond x a b,s,h=>by
   cases s<;>simp only[uP]<;>simp only[cu,List.mem_append] at h
   exact ⟨yp a _ fun x hx=>h x (.inl hx),yp b _ fun x hx=>h x (.inr hx)⟩
 | .block id a,s,h=>by
   cases s<;>simp only[uP]<;>simp only[cu] at h
   exact yp a _ h
 | .loop a,s,h=>by
   cases s<;>simp only[uP]<;>simp only[cu,List.mem_cons] at h
   exact ⟨h _ (.inl rfl),yp a _ fun x hx=>h x (.inr hx)⟩
def Sub (a b:Fr):Prop:= ∀p v,a.get p=some v->b.get p=some v
theorem Sub.refl (a:Fr):Sub a a:=fun _ _ h=>h
theorem Sub.put {a b:Fr} (h:Sub a b) (p:Pos) (v:AV):Sub (a.put (some v) p) (b.put (some v) p):=fun q u hq=>by
 by_cases e:p=q
 . subst e;rw[T.fj] at hq ⊢; exact hq
 . rw[T.bN _ e] at hq ⊢; exact h _ _ hq
theorem Sub.dst {a b:Fr} (h:Sub a b) (d:Option Pos) (v:AV):Sub (dZ a d v) (dZ b d v):=by
 cases d with
 |none=>exact h
 |some p=>exact h.put p v
theorem Sub.ev {a b:Fr} (h:Sub a b) {x:mj} {v:AV} (e:zj a x=some v):zj b x=some v:=by
 cases x with
 |t p=>exact h _ _ e
 |c v=>exact e
theorem Sub.evs {a b:Fr} (h:Sub a b): ∀{xs:List mj} {vs:List AV},eY a xs=some vs->eY b xs=some vs
 |[],_,e=>e
 |x::xs,vs,e=>by
  unfold eY at e ⊢
  cases hx:zj a x with
  |none=>simp[hx] at e
  |some v=>
   simp only[hx] at e
   cases hs:eY a xs with
   |none=>simp[hs] at e
   |some us=>simp only[hs] at e;simp only[h.ev hx,h.evs hs];exact e
theorem FG {c:ai}: ∀(os:List cq) {fr fo:Fr} {st:St} {K:Fr->St->Option R} {r:R},Sub fr fo->KH c os fr st K=some r->
  ∃bA dS st',kA c os fo st=some (dS,st')/\Sub bA dS/\K bA st'=some r
 |[],fr,fo,st,K,r,hs,h=>⟨fr,fo,st,rfl,hs,h⟩
 |o::os,fr,fo,st,K,r,hs,h=>by
  unfold KH at h
  cases hx:eY fr o.xs with
  |none=>simp[hx] at h
  |some xs=>
   simp only[hx] at h
   have hstp: ∀{st},af c o.k xs st (fun v st=>KH c os (dZ fr o.dst v) st K)=some r->cC fo o.guard=some true-> ∃bA dS st',kA c (o::os) fo st=some (dS,st')/\Sub bA dS/\K bA st'=some r:=fun {st} h hw=>by
        unfold af at h
        cases mI:cU c o.k xs st with
        |none=>simp[mI] at h
        |some p=>
         simp only[mI] at h
         obtain ⟨bA,dS,st',h1,h2⟩:=FG os (hs.dst o.dst p.1) h
         exact ⟨bA,dS,st',by unfold kA;simp only[hw,hs.evs hx,mI];exact h1,h2⟩
   have Es: ∀{st},KH c os (dZ fr o.dst .undef) st K=some r->cC fo o.guard=some false-> ∃bA dS st',kA c (o::os) fo st=some (dS,st')/\Sub bA dS/\K bA st'=some r:=fun {st} h hw=>by
        obtain ⟨bA,dS,st',h1,h2⟩:=FG os (hs.dst o.dst .undef) h
        exact ⟨bA,dS,st',by unfold kA;simp only[hw];exact h1,h2⟩
   cases hg:o.guard with
   |none=>simp only[hg] at h;exact hstp h (by rw[hg];rfl)
   |    some pw=>
        obtain ⟨p,want⟩:=pw
        simp only[hg] at h
        cases hp:fr.get p with
        |none=>simp[hp] at h
        |some g=>
         simp only[hp] at h
         have wY:=hs _ _ hp
         unfold ak at h
         split at h
         .  rename_i b
            split at h
            . rename_i hb;exact hstp h (by rw[hg];simp[cC,wY,hb])
            . rename_i hb;exact Es h (by rw[hg];simp[cC,wY,hb])
         .  exact Es h (by rw[hg];simp[cC,wY])
         .  cases h
theorem J8 {c : ai}: ∀(os:List (Nat×cq)) (recs:List Rec) (base:T AB) {fr fo:Fr} {st:St} {K:Fr->St->Option R} {r:R},Sub fr fo->oD c os recs base fr st K=some r->
  ∃bA dS st',dU c os recs base fo st=some (dS,st')/\Sub bA dS/\K bA st'=some r
 |[],_,_,fr,fo,st,K,r,hs,h=>⟨fr,fo,st,rfl,hs,h⟩
 |(j,   o)::  os, recs,base,fr,fo,st,K,r,hs,h=>by
  have ih:=fun recs base {fr fo:Fr} {st:St} {K:Fr->St->Option R} {r:R}=>J8 (c:=c) os recs base (fr:=fr) (fo:=fo) (st:=st) (K:=K) (r:=r)
  unfold oD at h
  cases hx:eY fr o.xs with
  |none=>simp[hx] at h
  | some xs   =>
    simp only[hx] at h
    have QD:=hs.evs hx
    have Es: ∀{st},oD c os ({ idx:=j,o:=o,v:= .undef,c:= .pure,nx:=st.next }::recs) base (dZ fr o.dst .undef) st K=some r->cC fo o.guard=some false-> ∃bA dS st',dU c ((j,o)::os) recs base fo st=some (dS,st')/\Sub bA dS/\K bA st'=some r:=fun {st} h hw=>by
        obtain ⟨bA,dS,st',h1,h2⟩:=ih _ _ (hs.dst o.dst .undef) h
        exact ⟨bA,dS,st',by unfold dU;simp only[hw];exact h1,h2⟩
    cases hc:o.cls with
    |   pure=>
        simp only[hc] at h
        have It:bg o.k xs (fun v=>oD c os ({ idx:=j,o:=o,v:=v,c:= .pure,nx:=st.next }::recs) base (dZ fr o.dst v) st K)=some r->cC fo o.guard=some true-> ∃bA dS st',dU c ((j,o)::os) recs base fo st=some (dS,st')/\Sub bA dS/\K bA st'=some r:=fun h hw=>by
         unfold bg at h
         split at h
         .  rename_i v hv
            obtain ⟨bA,dS,st',h1,h2⟩:=ih _ _ (hs.dst o.dst v) h
            exact ⟨bA,dS,st',by unfold dU;simp only[hw,QD,hc,hv];exact h1,h2⟩
         .  cases h
        cases hg:o.guard with
        |none=>simp only[hg] at h;exact It h (by rw[hg];rfl)
        |some pw=>
         obtain ⟨p,want⟩:=pw
         simp only[hg] at h
         cases hp:fr.get p with
         |none=>simp[hp] at h
         |  some g=>
            simp only[hp] at h
            have wY:=hs _ _ hp
            unfold jd at h
            split at h
            . split at h
              . rename_i hb;exact It h (by rw[hg];simp[cC,wY,hb])
              . rename_i hb;exact Es h (by rw[hg];simp[cC,wY,hb])
            . exact Es h (by rw[hg];simp[cC,wY])
            . cases h
    |   read=>
        simp only[hc] at h
        have It : fE o.k xs (snap o.cv base recs) (fun v=>lH o.cv o.k xs v [] recs) (fun v=>oD c os ({ idx:=j,o:=o,v:=v,c:= .pure,nx:=st.next }::recs) base (dZ fr o.dst v) st K)=some r->cC fo o.guard=some true-> ∃bA dS st',dU c ((j,o)::os) recs base fo st=some (dS,st')/\Sub bA dS/\K bA st'=some r:=fun h hw=>by
         unfold fE at h
         split at h
         .  rename_i v hv
            obtain ⟨bA,dS,st',h1,h2⟩:=ih _ _ (hs.dst o.dst v) h
            exact ⟨bA,dS,st',by unfold dU;simp only[hw,QD,hc,hv];exact h1,h2⟩
         .  rename_i nR
            split at h
            . rename_i v hv
              split at h
              . rename_i dr
                obtain ⟨bA,dS,st',h1,h2⟩:=ih _ _ (hs.dst o.dst v) h
                refine ⟨bA,dS,st',?_,h2⟩
                unfold dU
                simp only[hw,QD,hc]
                cases hr:o.k.run (fun _=>none) .h xs with
                |none=>simp only[hv,dr];exact h1
                | some x=>cases x with
                  |val u=>exact absurd hr (nR u)
                  |aI v d e n=>simp only[hv,dr];exact h1
                  |call f xs=>simp only[hv,dr];exact h1
              . cases h
            . cases h
        cases hg:o.guard with
        |none=>simp only[hg] at h;exact It h (by rw[hg];rfl)
        |some pw=>
         obtain ⟨p,want⟩:=pw
         simp only[hg] at h
         cases hp:fr.get p with
         |none=>simp[hp] at h
         |  some g=>
            simp only[hp] at h
            have wY:=hs _ _ hp
            unfold xS at h
            split at h
            . split at h
              . rename_i hb;exact It h (by rw[hg];simp[cC,wY,hb])
              . rename_i hb;exact Es h (by rw[hg];simp[cC,wY,hb])
            . exact Es h (by rw[hg];simp[cC,wY])
            . cases h
    |   new =>
        simp only[hc] at h
        have It:By o.k xs st (fun v aF=>oD c os ({ idx:=j,o:=o,v:=v,c:= .new st.next aF,nx:=st.next.succ }::recs) base (dZ fr o.dst v) { heap:=st.heap.put (some aF) st.next,next:=st.next.succ } K)=some r->cC fo o.guard=some true-> ∃bA dS st',dU c ((j,o)::os) recs base fo st=some (dS,st')/\Sub bA dS/\K bA st'=some r:=fun h hw=>by
         unfold By at h
         split at h
         .  rename_i v aF hv
            obtain ⟨bA,dS,st',h1,h2⟩:=ih _ _ (hs.dst o.dst v) h
            exact ⟨bA,dS,st',by unfold dU;simp only[hw,QD,hc,hv];exact h1,h2⟩
         .  cases h
        cases hg:o.guard with
        |none=>simp only[hg] at h;exact It h (by rw[hg];rfl)
        |some pw=>
         obtain ⟨p,want⟩:=pw
         simp only[hg] at h
         cases hp:fr.get p with
         |none=>simp[hp] at h
         |  some g=>
            simp only[hp] at h
            have wY:=hs _ _ hp
            unfold sR at h
            split at h
            . split at h
              . rename_i hb;exact It h (by rw[hg];simp[cC,wY,hb])
              . rename_i hb;exact Es h (by rw[hg];simp[cC,wY,hb])
            . exact Es h (by rw[hg];simp[cC,wY])
            . cases h
    |   aI=>
        simp only[hc] at h
        have It:af c o.k xs st (fun v st'=>oD c os ({ idx:=j,o:=o,v:=v,c:= .aI base st'.heap,nx:=st'.next }::recs) st'.heap (dZ fr o.dst v) st' K)=some r->cC fo o.guard=some true-> ∃bA dS st',dU c ((j,o)::os) recs base fo st=some (dS,st')/\Sub bA dS/\K bA st'=some r:=fun h hw=>by
         unfold af at h
         cases mI:cU c o.k xs st with
         |none=>simp[mI] at h
         |  some p=>
            simp only[mI] at h
            obtain ⟨bA,dS,st',h1,h2⟩:=ih _ _ (hs.dst o.dst p.1) h
            exact ⟨bA,dS,st',by unfold dU;simp only[hw,QD,hc,mI];exact h1,h2⟩
        cases hg:o.guard with
        |none=>simp only[hg] at h;exact It h (by rw[hg];rfl)
        |some pw=>
         obtain ⟨p,want⟩:=pw
         simp only[hg] at h
         cases hp:fr.get p with
         |none=>simp[hp] at h
         |  some g=>
            simp only[hp] at h
            have wY:=hs _ _ hp
            unfold sR at h
            split at h
            . split at h
              . rename_i hb;exact It h (by rw[hg];simp[cC,wY,hb])
              . rename_i hb;exact Es h (by rw[hg];simp[cC,wY,hb])
            . exact Es h (by rw[hg];simp[cC,wY])
            . cases h
def Has:List Pos->List AV->Fr->Prop
 |[],[],_=>True
 |p::ps,v::vs,fr=>fr.get p=some v/\Has ps vs fr
 |_,_,_=>False
theorem Has.sub {a b:Fr} (hs:Sub a b): ∀{ps:List Pos} {vs:List AV},Has ps vs a->Has ps vs b
 |[],[],_=>trivial
 |[],_::_,h=>h
 |_::_,[],h=>h
 |_::_,_::_,h=>⟨hs _ _ h.1,Has.sub hs h.2⟩
theorem wm: ∀{ps:List Pos} {fr:Fr} {k:List AV->Option R} {r:R},Iq ps fr k=some r-> ∃vs,Has ps vs fr/\k vs=some r
 |[],_,_,_,h=>⟨[],trivial,h⟩
 |p::ps,fr,k,r,h=>by
  unfold Iq at h
  cases hp:fr.get p with
  |none=>simp[hp] at h
  |some v=>
   simp only[hp] at h
   obtain ⟨vs,h1,h2⟩:=wm h
   exact ⟨v::vs,⟨hp,h1⟩,h2⟩
theorem zu: ∀{ps:List Pos} {vs:List AV} {fr fo:Fr} {k:Fr->Option R} {r:R},Ir ps vs fr k=some r->Has ps vs fo->Sub fr fo-> ∃bA,Sub bA fo/\k bA=some r
 |[],vs,fr,fo,k,r,h,_,hs=>by
  unfold Ir bw at h
  split at h
  . exact ⟨fr,hs,h⟩
  . cases h
 |p::ps,[],fr,fo,k,r,h,hh,hs=>by simp[Ir,ay] at h
 |p::ps,v::vs,fr,fo,k,r,h,hh,hs=>by
  unfold Ir ay at h
  refine zu h hh.2 fun q u hq=> ?_
  by_cases e:p=q
  . subst e;rw[T.fj] at hq;cases hq;exact hh.1
  . rw[T.bN _ e] at hq;exact hs _ _ hq
theorem AY {c:ai} {n m:Nat} (h:n<=m) {a:AC} {fr:Fr} {st:St} {r:o7×Fr×St} (e:exec c n a fr st=some r):exec c m a fr st=some r:=Jk (J6.refl c) n m h _ _ _ _ e
theorem pg {c:ai} {F:Nat} {L:Env R}: ∀(a:AC) (s:Sh),uP c F L a s-> ∀{fr fo:Fr} {st:St} {K:o7->Fr->St->Option R} {r:R},Sub fr fo->den c F L a s fr st K=some r->
   ∃n ex bA dS st',exec c n a fo st=some (ex,dS,st')/\Sub bA dS/\K ex bA st'=some r
 | .skip,s,_,fr,fo,st,K,r,hs,h=>⟨1,.normal,fr,fo,st,rfl,hs,by simpa [den] using h⟩
 | .exit id,s,_,fr,fo,st,K,r,hs,h=>⟨1,.exit id,fr,fo,st,rfl,hs,by simpa [den] using h⟩
 | .ret,s,_,fr,fo,st,K,r,hs,h=>⟨1,.ret,fr,fo,st,rfl,hs,by simpa [den] using h⟩
 | .region ops,s,_,fr,fo,st,K,r,hs,h=>by
   simp only[den] at h
   obtain ⟨bA,dS,st',h1,h2,h3⟩:=FG ops hs h
   exact ⟨1,.normal,bA,dS,st',by simp only[exec,bf,h1],h2,h3⟩
 | .draw ops,s,_,fr,fo,st,K,r,hs,h=>by
   simp only[den] at h
   obtain ⟨bA,dS,st',h1,h2,h3⟩:=J8 ops _ _ hs h
   exact ⟨1,.normal,bA,dS,st',by simp only[exec,bf,h1],h2,h3⟩
 | .seq a b,s,dr,fr,fo,st,K,r,hs,h=>by
   cases s<;>simp only[den] at h<;>first|(cases h;done)|skip
   rename_i jn s t
   simp only[uP] at dr
   cases jn with
   |none=>
    simp only at h
    obtain ⟨n,ex,gH,sA,cm,h1,h2,h3⟩:=pg a s dr.1 hs h
    cases ex with
    |   normal=>
        obtain ⟨m,ex,G3,QO,HP,k1,k2,k3⟩:=pg b t dr.2 h2 h3
        exact ⟨max n m+1,ex,G3,QO,HP,by simp only[exec,bf,AY (Nat.le_max_left n m) h1];exact AY (Nat.le_max_right n m) k1,k2,k3⟩
    |exit i=>exact ⟨n+1,.exit i,gH,sA,cm,by simp only[exec,bf,h1],h2,h3⟩
    |ret=>exact ⟨n+1,.ret,gH,sA,cm,by simp only[exec,bf,h1],h2,h3⟩
   |some l=>
    simp only[lS] at h
    obtain ⟨n,ex,gH,sA,cm,h1,h2,h3⟩:=pg a s dr.1 hs h
    cases ex with
    |   normal=>
        obtain ⟨vs,g1,g2⟩:=wm h3
        obtain ⟨bA,g3,g4⟩:=zu g2 (Has.sub h2 g1) (fun p v hp=>by rw[T.eE] at hp;cases hp)
        obtain ⟨m,ex,G3,QO,HP,k1,k2,k3⟩:=pg b t dr.2 g3 g4
        exact ⟨max n m+1,ex,G3,QO,HP,by simp only[exec,bf,AY (Nat.le_max_left n m) h1];exact AY (Nat.le_max_right n m) k1,k2,k3⟩
    |exit i=>exact ⟨n+1,.exit i,gH,sA,cm,by simp only[exec,bf,h1],h2,h3⟩
    |ret=>exact ⟨n+1,.ret,gH,sA,cm,by simp only[exec,bf,h1],h2,h3⟩
 | .cond x a b,s,dr,fr,fo,st,K,r,hs,h=>by
   cases s<;>simp only[den] at h<;>first|(cases h;done)|skip
   simp only[uP] at dr
   cases hx:zj fr x with
   |none=>simp[hx] at h
   |some v=>
    simp only[hx] at h
    unfold aJ at h
    split at h
    .   obtain ⟨n,ex,gH,sA,cm,h1,h2,h3⟩:=pg a _ dr.1 hs h
        exact ⟨n+1,ex,gH,sA,cm,by simp only[exec,bf,hs.ev hx];exact h1,h2,h3⟩
    .   obtain ⟨n,ex,gH,sA,cm,h1,h2,h3⟩:=pg b _ dr.2 hs h
        exact ⟨n+1,ex,gH,sA,cm,by simp only[exec,bf,hs.ev hx];exact h1,h2,h3⟩
    .   cases h
 | .block id a,s,dr,fr,fo,st,K,r,hs,h=>by
   cases s<;>simp only[den] at h<;>first|(cases h;done)|skip
   simp only[uP] at dr
   obtain ⟨n,ex,gH,sA,cm,h1,h2,h3⟩:=pg a _ dr hs h
   cases ex with
   |normal=>exact ⟨n+1,.normal,gH,sA,cm,by simp only[exec,bf,h1],h2,h3⟩
   |ret=>exact ⟨n+1,.ret,gH,sA,cm,by simp only[exec,bf,h1],h2,h3⟩
   |exit i=>
    simp only at h3
    cases hb:Nat.beq i id with
    |true=>simp only[hb] at h3;exact ⟨n+1,.normal,gH,sA,cm,by simp only[exec,bf,h1,hb],h2,h3⟩
    |false=>simp only[hb] at h3;exact ⟨n+1,.exit i,gH,sA,cm,by simp only[exec,bf,h1,hb],h2,h3⟩
 | .loop a,s,dr,fr,fo,st,K,r,hs,h=>by
   cases s<;>simp only[den] at h<;>first|(cases h;done)|skip
   rename_i j ins outs s
   simp only[uP,bV] at dr
   obtain ⟨aie,dr⟩:=dr
   obtain ⟨vs,g1,g2⟩:=wm h
   obtain ⟨hz,hsu⟩:=aie (knk outs K)
   have main: ∀(n:Nat) (vs:List AV) (st:St) (fo:Fr),Has ins vs fo->L j (knk outs K) n vs st=some r->
        ∃m ex bA dS st',exec c m (.loop a) fo st=some (ex,dS,st')/\Sub bA dS/\K ex bA st'=some r:=by
    intro n
    induction n with
    |zero=>intro vs st fo _ h;rw[hz] at h;cases h
    |   succ n ihn=>
        intro vs st fo hh h
        rw[hsu] at h
        unfold QN at h
        obtain ⟨cN,q1,q2⟩:=zu h hh (fun p v hp=>by rw[T.eE] at hp;cases hp)
        obtain ⟨m,ex,gH,sA,cm,h1,h2,h3⟩:=pg a s dr q1 q2
        cases ex with
        |normal=>
         obtain ⟨us,p1,p2⟩:=wm h3
         obtain ⟨m',ex,G3,QO,HP,k1,k2,k3⟩:=ihn us cm sA (Has.sub h2 p1) p2
         exact ⟨max m m'+1,ex,G3,QO,HP,by simp only[exec,bf,AY (Nat.le_max_left m m') h1];exact AY (Nat.le_max_right m m') k1,k2,k3⟩
        |exit i=>
         obtain ⟨os,p1,p2⟩:=wm h3
         obtain ⟨G3,p3,p4⟩:=zu p2 (Has.sub h2 p1) (fun p v hp=>by rw[T.eE] at hp;cases hp)
         exact ⟨m+1,.exit i,G3,sA,cm,by simp only[exec,bf,h1],p3,p4⟩
        |ret=>
         obtain ⟨os,p1,p2⟩:=wm h3
         obtain ⟨G3,p3,p4⟩:=zu p2 (Has.sub h2 p1) (fun p v hp=>by rw[T.eE] at hp;cases hp)
         exact ⟨m+1,.ret,G3,sA,cm,by simp only[exec,bf,h1],p3,p4⟩
   exact main F vs st fo (Has.sub hs g1) g2
def KI:(H:Pos->Option AB)->Fr->List Ly->(List AV->Option R)->Option R
 |_,_,[],k=>k []
 |  H,fr,.tmp p::rs,k=>match fr.get p with
    |some v=>KI H fr rs fun vs=>k (v::vs)
    |none=>none
 |  H,fr,.cell p n::rs,k=>match fr.get p with
    |some q=>match (aE.load n).run H .h [q] with
     |some (.val v)=>KI H fr rs fun vs=>k (v::vs)
     |_=>none
    |none=>none
def Mj (n:Option Nat) (q:AV) (st:St) (K:AV->Option R):Option R:=match (aE.load n).run (fun b=>st.heap.get b) .h [q] with
 |some (.val v)=>K v
 |_=>none
theorem C7 {H:Pos->Option AB} {fr fo:Fr} (hs:Sub fr fo): ∀{rs:List Ly} {k:List AV->Option R} {r:R},KI H fr rs k=some r-> ∃vs,gB H fo rs=some vs/\k vs=some r
 |[],k,r,h=>⟨[],rfl,h⟩
 | .tmp p::rs,k,r,h=>by
   unfold KI at h
   cases hp:fr.get p with
   |none=>simp[hp] at h
   |some v=>
    simp only[hp] at h
    obtain ⟨vs,h1,h2⟩:=C7 hs h
    exact ⟨v::vs,by unfold gB;simp only[hs _ _ hp,h1],h2⟩
 | .cell p n::rs,k,r,h=>by
   unfold KI at h
   cases hp:fr.get p with
   |none=>simp[hp] at h
   |some q=>
    simp only[hp] at h
    split at h
    .   rename_i v hv
        obtain ⟨vs,h1,h2⟩:=C7 hs h
        exact ⟨v::vs,by unfold gB;simp only[hs _ _ hp,hv,h1],h2⟩
    .   cases h
def lN (c:ai) (F:Nat) (L:Env (AV×St)) (A:aM) (s:Sh) (args:List AV) (st:St):Option (AV×St):=
 match Nat.beq args.length A.nparams with
 |  true=>den c F L A.code s (params 0 args .e) st fun ex fr st=>match ex with
    | .normal=>KI (fun b=>st.heap.get b) fr A.results fun vs=>some (wH vs,st)
    | .ret=>KI (fun b=>st.heap.get b) fr A.results fun vs=>some (wH vs,st)
    | .exit _=>none
 |false=>none
theorem QT {O:eW} {G:T aM} {F:Nat} {L:Env (AV×St)} {f:FuncId} {A:aM} {s:Sh} {args:List AV} {st:St} {r:AV×St} (ho:O f=none) (hF:G.get (key f)=some A)
  (hL: ∀x∈cu A.code s,bV (run O G) F L x.1 x.2) (h:lN (run O G) F L A s args st=some r):run O G f args st=some (tidy st r):=by
 unfold lN at h
 split at h<;>first|(cases h;done)|skip
 rename_i hlen
 obtain ⟨n,ex,bA,dS,st',h1,h2,h3⟩:=pg A.code s (yp _ _ hL) (Sub.refl _) h
 refine ZR (n:=n) ho hF ?_
 unfold sO
 simp only[hlen,h1]
 cases ex with
 |normal=>
  obtain ⟨vs,k1,k2⟩:=C7 h2 h3
  simp only[k1];exact k2
 |ret=>
  obtain ⟨vs,k1,k2⟩:=C7 h2 h3
  simp only[k1];exact k2
 |exit i=>cases h3
end Go.Ai
end
section
noncomputable section
namespace Go.Ai
open Go
def au (st:St) (b:AB):St:={ heap:=st.heap.put (some b) st.next,next:=st.next.succ }
def iF {R:Type}:List (Nat×(LpK R->Nat->List AV->St->Option R))->Env R
 |[]=>fun _ _ _ _ _=>none
 |  (i,g)::l=>fun j K n=>match Nat.beq i j with
    |true=>g K n
    |false=>iF l j K n
def cY (A:aM) (s:Sh) (i:Nat):AC×Sh:=(cu A.code s).getD i (.skip,.leaf)
theorem dP {R:Type} {c:ai} {F:Nat} {L:Env R} {a:AC} {sh:Sh} {j:Nat} {ins:List Pos} {outs:List (Nat×List Pos)} {s:Sh} (hs:sh= .loop j ins outs s) (h0: ∀K' vs st,L j K' 0 vs st=none)
  (h1: ∀K' n vs st,L j K' (n+1) vs st=QN (den c F L a s) ins outs K' (L j K' n) vs st):bV c F L a sh:=by
 subst hs;exact fun K'=>⟨h0 K',h1 K'⟩
theorem eH {R:Type} {c:ai} {F:Nat} {L:Env R} {A:aM} {s:Sh} (n:Nat) (hn:Nat.beq (cu A.code s).length n=true) (h: ∀i,i<n->bV c F L (cY A s i).1 (cY A s i).2):
  ∀x∈cu A.code s,bV c F L x.1 x.2:=by
 intro x hx
 obtain ⟨i,hi,he⟩:=List.mem_iff_getElem.1 hx
 have hn:=Nat.eq_of_beq_eq_true hn
 have:=h i (by omega)
 unfold cY at this
 rw[List.getD_eq_getElem?_getD,List.getElem?_eq_getElem hi] at this
 simp only[Option.getD_some,he] at this
 exact this
end Go.Ai
end
section
set_option linter.all false
namespace Go.Ai
open Go
theorem dK (k:IntKind):Bd k k=true:=by cases k<;>rfl
theorem qp (a b:Int):qW a b=decide (a=b):=by rw[jr];rfl
theorem mq (a b:List Nat):iC a b=decide (a=b):=by
 rw[Bool.eq_iff_iff,kD];simp
theorem wrap64 {x:Int} (h1: -9223372036854775808<=x) (h2:x<=9223372036854775807):aY .i64 x=x:=by
 unfold aY xO T9
 simp only
 split
 . split
   . rfl
   . contradiction
 . contradiction
theorem VJ {x:Int} (h1:0<=x) (h2:x<=255):aY .u8 x=x:=by
 unfold aY xO T9
 simp only
 split
 . split
   . rfl
   . contradiction
 . contradiction
theorem pO (k:IntKind) (n:Nat):uN (.int k (n:Int))=some n:=id rfl
theorem gb (a b:Nat):Nat.ble a b=decide (a<=b):=by
 apply Bool.eq_iff_iff.2;simp
theorem VK (a b:Nat):Nat.blt a b=decide (a<b):=by
 apply Bool.eq_iff_iff.2;simp[Nat.blt,Nat.ble_eq];omega
theorem jK (a b:Nat):Nat.beq a b=decide (a=b):=by
 apply Bool.eq_iff_iff.2;simp
def yq {R:Type} (o:Option AV) (k:AV->Option R):Option R:=match o with
 |some v=>k v
 |none=>none
def FH {R:Type} (o:Option (List AV)) (k:List AV->Option R):Option R:=match o with
 |some v=>k v
 |none=>none
def ZS {R:Type} (o:Option (AV×St)) (k:AV->St->Option R):Option R:=match o with
 |some (v,st)=>k v st
 |none=>none
section
variable {R : Type} (c : ai) (K : AV -> St -> Option R) (K1 : AV -> Option R) (A B : Option R)
@[simp] theorem aja (v:AV) (k:AV->Option R):yq (some v) k=k v:=id rfl
@[simp] theorem ajb (v:List AV) (k:List AV->Option R):FH (some v) k=k v:=id rfl
@[simp] theorem kT (v:AV) (st:St) (k:AV->St->Option R):ZS (some (v,st)) k=k v st:=id rfl
@[simp] theorem pn:aJ (.bool true) A B=A:=id rfl
@[simp] theorem kG:aJ (.bool false) A B=B:=id rfl
@[simp] theorem aT (v:AV) (vs:List AV) (k:AV->List AV->Option R):ay (v::vs) k=k v vs:=id rfl
@[simp] theorem fP (k:Option R):bw [] k=k:=id rfl
theorem iJ (f:(List AV->St->Option R)->Option R) (k:List AV->St->Option R):lS f k=f k:=id rfl
@[simp] theorem ajr (b:Bool) (k:aE) (xs:List AV) (st:St):ak c (.bool b) b k xs st K=af c k xs st K:=by cases b<;>exact id rfl
@[simp] theorem gst_tf (k:aE) (xs:List AV) (st:St):ak c (.bool true) false k xs st K=K .undef st:=id rfl
@[simp] theorem gst_ft (k:aE) (xs:List AV) (st:St):ak c (.bool false) true k xs st K=K .undef st:=id rfl
@[simp] theorem gst_un (b:Bool) (k:aE) (xs:List AV) (st:St):ak c .undef b k xs st K=K .undef st:=id rfl
@[simp] theorem abA (b:Bool) (k:aE) (xs:List AV):jd (.bool b) b k xs K1=bg k xs K1:=by cases b<;>exact id rfl
@[simp] theorem gpr_tf (k:aE) (xs:List AV):jd (.bool true) false k xs K1=K1 .undef:=id rfl
@[simp] theorem gpr_ft (k:aE) (xs:List AV):jd (.bool false) true k xs K1=K1 .undef:=id rfl
@[simp] theorem gpr_un (b:Bool) (k:aE) (xs:List AV):jd .undef b k xs K1=K1 .undef:=id rfl
@[simp] theorem Uw (b:Bool) (k:aE) (xs:List AV) (h:T AB) (ok:AV->Bool):xS (.bool b) b k xs h ok K1=fE k xs h ok K1:=by cases b<;>exact id rfl
@[simp] theorem grd_tf (k:aE) (xs:List AV) (h:T AB) (ok:AV->Bool):xS (.bool true) false k xs h ok K1=K1 .undef:=id rfl
@[simp] theorem grd_ft (k:aE) (xs:List AV) (h:T AB) (ok:AV->Bool):xS (.bool false) true k xs h ok K1=K1 .undef:=id rfl
@[simp] theorem grd_un (b:Bool) (k:aE) (xs:List AV) (h:T AB) (ok:AV->Bool):xS .undef b k xs h ok K1=K1 .undef:=id rfl
@[simp] theorem Jl (b:Bool):sR (.bool b) b A B=A:=by cases b<;>exact id rfl
@[simp] theorem wnt_tf:sR (.bool true) false A B=B:=id rfl
@[simp] theorem wnt_ft:sR (.bool false) true A B=B:=id rfl
@[simp] theorem wnt_un (b:Bool):sR .undef b A B=B:=id rfl
theorem Bz {k:aE} {xs:List AV} {o:Option AV} (h: ∀H n,k.run H n xs=o.map .val) (st:St):af c k xs st K=yq o fun v=>K v st:=by
 unfold af cU;rw[h];cases o<;>rfl
theorem afP {k:aE} {xs:List AV} {o:Option AV} (h: ∀H n,k.run H n xs=o.map .val):bg k xs K1=yq o K1:=by
 unfold bg;rw[h];cases o<;>rfl
theorem dm {k:aE} {xs:List AV} {v:AV} (h: ∀H n,k.run H n xs=some (.val v)) (st:St):af c k xs st K=K v st:=by
 unfold af cU;rw[h]
theorem kR {k:aE} {xs:List AV} {v:AV} (h: ∀H n,k.run H n xs=some (.val v)):bg k xs K1=K1 v:=by
 unfold bg;rw[h]
theorem j7 (f:FuncId) (l:List AV) (st:St):af c (.callF f) l st K=ZS (c f l st) K:=by
 unfold af cU;show (match c f l st with|some (v,st')=>K v st'|none=>none)=_
 cases c f l st<;>rfl
theorem Xy (f:FuncId) (l u v:List AV) (st:St):af c .callV (.func f u v::l) st K=ZS (c f (u++(l++v)) st) K:=by
 unfold af cU;show (match c f (u++(l++v)) st with|some (v,st')=>K v st'|none=>none)=_
 cases c f (u++(l++v)) st<;>rfl
attribute [simp] j7 Xy
end
def cellsOf:Option AB->Option (List AV)
 |some (.cells cs _)=>some cs
 |some (.typed _ cs)=>some cs
 |_=>none
@[simp] theorem afA (t:TypeId) (cs:List AV):cellsOf (some (.typed t cs))=some cs:=id rfl
@[simp] theorem afB (cs:List AV) (f:Nat):cellsOf (some (.cells cs f))=some cs:=id rfl
def ro (es:Nat) (z:Bool) (rs:List (List AV)):AV:=match z,rs with
 |true,[]=> .aj
 |_,rs=> .fl rs es
theorem Ux {es:Nat} {z:Bool} {rs:List (List AV)} (h:rs≠[]):ro es z rs= .fl rs es:=by
 unfold ro;split
 . exact absurd rfl h
 . rfl
theorem run_move (H:Pos->Option AB) (n:Pos) (x:AV):aE.run H n .move [x]=some (.val x):=rfl
@[simp] theorem aP {R:Type} (c:ai) (K:AV->St->Option R) (st:St) (x:AV):af c .move [x] st K=K x st:=dm c K (fun H n=>run_move H n x) st
@[simp] theorem ZT {R:Type} (K:AV->Option R) (x:AV):bg .move [x] K=K x:=kR K (fun H n=>run_move H n x)
theorem Ml (H:Pos->Option AB) (n:Pos) (x y:AV):aE.run H n .pick [.bool true,x,y]=some (.val x):=rfl
@[simp] theorem aif {R:Type} (c:ai) (K:AV->St->Option R) (st:St) (x y:AV):af c .pick [.bool true,x,y] st K=K x st:=dm c K (fun H n=>Ml H n x y) st
@[simp] theorem aih {R:Type} (K:AV->Option R) (x y:AV):bg .pick [.bool true,x,y] K=K x:=kR K (fun H n=>Ml H n x y)
theorem Mm (H:Pos->Option AB) (n:Pos) (x y:AV):aE.run H n .pick [.bool false,x,y]=some (.val y):=rfl
@[simp] theorem aii {R:Type} (c:ai) (K:AV->St->Option R) (st:St) (x y:AV):af c .pick [.bool false,x,y] st K=K y st:=dm c K (fun H n=>Mm H n x y) st
@[simp] theorem VL {R:Type} (K:AV->Option R) (x y:AV):bg .pick [.bool false,x,y] K=K y:=kR K (fun H n=>Mm H n x y)
theorem Uy (H:Pos->Option AB) (n:Pos) (p:Bool):aE.run H n (.un .not) [.bool p]=some (.val (.bool (!p))):=rfl
@[simp] theorem ajs {R:Type} (c:ai) (K:AV->St->Option R) (st:St) (p:Bool):af c (.un .not) [.bool p] st K=K (.bool (!p)) st:=dm c K (fun H n=>Uy H n p) st
@[simp] theorem ajt {R:Type} (K:AV->Option R) (p:Bool):bg (.un .not) [.bool p] K=K (.bool (!p)):=kR K (fun H n=>Uy H n p)
theorem abB (H:Pos->Option AB) (n:Pos) (q:jW) (k:IntKind) (a b:Int):aE.run H n (.bin .lss q) [.int k a,.int k b]=some (.val (.bool (decide (a<b)))):=by simp[aE.run,iH,n8,dK,qp,iI,lK,mq]
@[simp] theorem sr {R:Type} (c:ai) (K:AV->St->Option R) (st:St) (q:jW) (k:IntKind) (a b:Int):af c (.bin .lss q) [.int k a,.int k b] st K=K (.bool (decide (a<b))) st:=dm c K (fun H n=>abB H n q k a b) st
theorem Uz (H:Pos->Option AB) (n:Pos) (q:jW) (k:IntKind) (a b:Int):aE.run H n (.bin .leq q) [.int k a,.int k b]=some (.val (.bool (decide (a<=b)))):=by simp[aE.run,iH,n8,dK,qp,iI,lK,mq]
@[simp] theorem aju {R:Type} (c:ai) (K:AV->St->Option R) (st:St) (q:jW) (k:IntKind) (a b:Int):af c (.bin .leq q) [.int k a,.int k b] st K=K (.bool (decide (a<=b))) st:=dm c K (fun H n=>Uz H n q k a b) st
@[simp] theorem ajv {R:Type} (K:AV->Option R) (q:jW) (k:IntKind) (a b:Int):bg (.bin .leq q) [.int k a,.int k b] K=K (.bool (decide (a<=b))):=kR K (fun H n=>Uz H n q k a b)
theorem UA (H:Pos->Option AB) (n:Pos) (q:jW) (k:IntKind) (a b:Int):aE.run H n (.bin .gtr q) [.int k a,.int k b]=some (.val (.bool (decide (b<a)))):=by simp[aE.run,iH,n8,dK,qp,iI,lK,mq]
@[simp] theorem ajw {R:Type} (c:ai) (K:AV->St->Option R) (st:St) (q:jW) (k:IntKind) (a b:Int):af c (.bin .gtr q) [.int k a,.int k b] st K=K (.bool (decide (b<a))) st:=dm c K (fun H n=>UA H n q k a b) st
@[simp] theorem ajx {R:Type} (K:AV->Option R) (q:jW) (k:IntKind) (a b:Int):bg (.bin .gtr q) [.int k a,.int k b] K=K (.bool (decide (b<a))):=kR K (fun H n=>UA H n q k a b)
theorem abC (H:Pos->Option AB) (n:Pos) (q:jW) (k:IntKind) (a b:Int):aE.run H n (.bin .geq q) [.int k a,.int k b]=some (.val (.bool (decide (b<=a)))):=by simp[aE.run,iH,n8,dK,qp,iI,lK,mq]
@[simp] theorem ajy {R:Type} (c:ai) (K:AV->St->Option R) (st:St) (q:jW) (k:IntKind) (a b:Int):af c (.bin .geq q) [.int k a,.int k b] st K=K (.bool (decide (b<=a))) st:=dm c K (fun H n=>abC H n q k a b) st
theorem abD (H:Pos->Option AB) (n:Pos) (q:jW) (k:IntKind) (a b:Int):aE.run H n (.bin .eql q) [.int k a,.int k b]=some (.val (.bool (decide (a=b)))):=by simp[aE.run,iH,n8,dK,qp,iI,lK,mq]
@[simp] theorem Jm {R:Type} (c:ai) (K:AV->St->Option R) (st:St) (q:jW) (k:IntKind) (a b:Int):af c (.bin .eql q) [.int k a,.int k b] st K=K (.bool (decide (a=b))) st:=dm c K (fun H n=>abD H n q k a b) st
theorem UB (H:Pos->Option AB) (n:Pos) (q:jW) (k:IntKind) (a b:Int):aE.run H n (.bin .neq q) [.int k a,.int k b]=some (.val (.bool (!decide (a=b)))):=by simp[aE.run,iH,n8,dK,qp,iI,lK,mq]
@[simp] theorem abE {R:Type} (c:ai) (K:AV->St->Option R) (st:St) (q:jW) (k:IntKind) (a b:Int):af c (.bin .neq q) [.int k a,.int k b] st K=K (.bool (!decide (a=b))) st:=dm c K (fun H n=>UB H n q k a b) st
@[simp] theorem UC {R:Type} (K:AV->Option R) (q:jW) (k:IntKind) (a b:Int):bg (.bin .neq q) [.int k a,.int k b] K=K (.bool (!decide (a=b))):=kR K (fun H n=>UB H n q k a b)
theorem UD (H:Pos->Option AB) (n:Pos) (q:jW) (k:IntKind) (a b:Int):aE.run H n (.bin .add q) [.int k a,.int k b]=some (.val (.int k (aY k (a+b)))):=by simp[aE.run,iH,n8,dK,qp,iI,lK,mq]
@[simp] theorem Jn {R:Type} (c:ai) (K:AV->St->Option R) (st:St) (q:jW) (k:IntKind) (a b:Int):af c (.bin .add q) [.int k a,.int k b] st K=K (.int k (aY k (a+b))) st:=dm c K (fun H n=>UD H n q k a b) st
@[simp] theorem ajz {R:Type} (K:AV->Option R) (q:jW) (k:IntKind) (a b:Int):bg (.bin .add q) [.int k a,.int k b] K=K (.int k (aY k (a+b))):=kR K (fun H n=>UD H n q k a b)
theorem UE (H:Pos->Option AB) (n:Pos) (q:jW) (k:IntKind) (a b:Int):aE.run H n (.bin .sub q) [.int k a,.int k b]=some (.val (.int k (aY k (a - b)))):=by simp[aE.run,iH,n8,dK,qp,iI,lK,mq]
@[simp] theorem ajA {R:Type} (c:ai) (K:AV->St->Option R) (st:St) (q:jW) (k:IntKind) (a b:Int):af c (.bin .sub q) [.int k a,.int k b] st K=K (.int k (aY k (a - b))) st:=dm c K (fun H n=>UE H n q k a b) st
@[simp] theorem ajB {R:Type} (K:AV->Option R) (q:jW) (k:IntKind) (a b:Int):bg (.bin .sub q) [.int k a,.int k b] K=K (.int k (aY k (a - b))):=kR K (fun H n=>UE H n q k a b)
theorem abF (H:Pos->Option AB) (n:Pos) (q:jW) (k:IntKind) (a b:Int):aE.run H n (.bin .mul q) [.int k a,.int k b]=some (.val (.int k (aY k (a*b)))):=by simp[aE.run,iH,n8,dK,qp,iI,lK,mq]
@[simp] theorem ajC {R:Type} (c:ai) (K:AV->St->Option R) (st:St) (q:jW) (k:IntKind) (a b:Int):af c (.bin .mul q) [.int k a,.int k b] st K=K (.int k (aY k (a*b))) st:=dm c K (fun H n=>abF H n q k a b) st
theorem QU (H:Pos->Option AB) (n:Pos) (q:jW) (s t:List Nat):aE.run H n (.bin .eql q) [.str s,.str t]=some (.val (.bool (decide (s=t)))):=by simp[aE.run,iH,n8,dK,qp,iI,lK,mq]
@[simp] theorem aje {R:Type} (c:ai) (K:AV->St->Option R) (st:St) (q:jW) (s t:List Nat):af c (.bin .eql q) [.str s,.str t] st K=K (.bool (decide (s=t))) st:=dm c K (fun H n=>QU H n q s t) st
@[simp] theorem ajf {R:Type} (K:AV->Option R) (q:jW) (s t:List Nat):bg (.bin .eql q) [.str s,.str t] K=K (.bool (decide (s=t))):=kR K (fun H n=>QU H n q s t)
theorem QV (H:Pos->Option AB) (n:Pos) (q:jW) (s t:List Nat):aE.run H n (.bin .neq q) [.str s,.str t]=some (.val (.bool (!decide (s=t)))):=by simp[aE.run,iH,n8,dK,qp,iI,lK,mq]
@[simp] theorem ajg {R:Type} (c:ai) (K:AV->St->Option R) (st:St) (q:jW) (s t:List Nat):af c (.bin .neq q) [.str s,.str t] st K=K (.bool (!decide (s=t))) st:=dm c K (fun H n=>QV H n q s t) st
@[simp] theorem ZU {R:Type} (K:AV->Option R) (q:jW) (s t:List Nat):bg (.bin .neq q) [.str s,.str t] K=K (.bool (!decide (s=t))):=kR K (fun H n=>QV H n q s t)
theorem ZV (H:Pos->Option AB) (n:Pos) (s:List Nat):aE.run H n (.lenB .s) [.str s]=some (.val (.int .i64 (s.length:Int))):=rfl
@[simp] theorem ajh {R:Type} (c:ai) (K:AV->St->Option R) (st:St) (s:List Nat):af c (.lenB .s) [.str s] st K=K (.int .i64 (s.length:Int)) st:=dm c K (fun H n=>ZV H n s) st
theorem QW (H:Pos->Option AB) (n:Pos) (es:Nat) (z:Bool) (rs:List (List AV)):aE.run H n (.lenB .l) [ro es z rs]=some (.val (.int .i64 (rs.length:Int))):=by unfold ro;split<;>rfl
@[simp] theorem tL {R:Type} (c:ai) (K:AV->St->Option R) (st:St) (es:Nat) (z:Bool) (rs:List (List AV)):af c (.lenB .l) [ro es z rs] st K=K (.int .i64 (rs.length:Int)) st:=dm c K (fun H n=>QW H n es z rs) st
@[simp] theorem ZW {R:Type} (K:AV->Option R) (es:Nat) (z:Bool) (rs:List (List AV)):bg (.lenB .l) [ro es z rs] K=K (.int .i64 (rs.length:Int)):=kR K (fun H n=>QW H n es z rs)
theorem ZX (H:Pos->Option AB) (n:Pos) (k k2:IntKind) (a:Int):aE.run H n (.conv (.int k)) [.int k2 a]=some (.val (.int k (aY k a))):=rfl
@[simp] theorem ZY {R:Type} (c:ai) (K:AV->St->Option R) (st:St) (k k2:IntKind) (a:Int):af c (.conv (.int k)) [.int k2 a] st K=K (.int k (aY k a)) st:=dm c K (fun H n=>ZX H n k k2 a) st
theorem ZZ (H:Pos->Option AB) (n:Pos) (k:IntKind) (s:List Nat) (i:Nat):aE.run H n .idxS [.str s,.int k (i:Int)]=((s[i]?.map fun c=> .int .u8 (c:Int)):Option AV).map .val:=by simp only[aE.run,I9,pO,nj];cases s[i]? <;>rfl
@[simp] theorem aji {R:Type} (c:ai) (K:AV->St->Option R) (st:St) (k:IntKind) (s:List Nat) (i:Nat):af c .idxS [.str s,.int k (i:Int)] st K=yq (s[i]?.map fun c=> .int .u8 (c:Int)) fun v=>K v st:=Bz c K (fun H n=>ZZ H n k s i) st
theorem Iu (H:Pos->Option AB) (n:Pos) (off:Nat) (p:Pos) (o:Nat):aE.run H n (.fieldA off) [.ptr p o]=some (.val (.ptr p (o+off))):=rfl
@[simp] theorem tM {R:Type} (c:ai) (K:AV->St->Option R) (st:St) (off:Nat) (p:Pos) (o:Nat):af c (.fieldA off) [.ptr p o] st K=K (.ptr p (o+off)) st:=dm c K (fun H n=>Iu H n off p o) st
@[simp] theorem afQ {R:Type} (K:AV->Option R) (off:Nat) (p:Pos) (o:Nat):bg (.fieldA off) [.ptr p o] K=K (.ptr p (o+off)):=kR K (fun H n=>Iu H n off p o)
theorem Iv (H:Pos->Option AB) (n:Pos) (off:Nat) (xs:List (List AV)) (i j:Nat):aE.run H n (.fieldA off) [.fp xs i j]=some (.val (.fp xs i (j+off))):=rfl
@[simp] theorem afR {R:Type} (c:ai) (K:AV->St->Option R) (st:St) (off:Nat) (xs:List (List AV)) (i j:Nat):af c (.fieldA off) [.fp xs i j] st K=K (.fp xs i (j+off)) st:=dm c K (fun H n=>Iv H n off xs i j) st
@[simp] theorem afS {R:Type} (K:AV->Option R) (off:Nat) (xs:List (List AV)) (i j:Nat):bg (.fieldA off) [.fp xs i j] K=K (.fp xs i (j+off)):=kR K (fun H n=>Iv H n off xs i j)
theorem Tx (H:Pos->Option AB) (n:Pos) (i:Nat) (l:List AV):aE.run H n (.extract i) [.tuple l]=(l[i]? :Option AV).map .val:=by simp only[aE.run,Av,nj];cases l[i]? <;>rfl
@[simp] theorem ahY {R:Type} (c:ai) (K:AV->St->Option R) (st:St) (i:Nat) (l:List AV):af c (.extract i) [.tuple l] st K=yq l[i]? fun v=>K v st:=Bz c K (fun H n=>Tx H n i l) st
theorem Et (H:Pos->Option AB) (n:Pos) (p:Pos) (o:Nat):aE.run H n .nilCheck [.ptr p o]=some (.val (.ptr p o)):=rfl
@[simp] theorem abG {R:Type} (c:ai) (K:AV->St->Option R) (st:St) (p:Pos) (o:Nat):af c .nilCheck [.ptr p o] st K=K (.ptr p o) st:=dm c K (fun H n=>Et H n p o) st
@[simp] theorem abH {R:Type} (K:AV->Option R) (p:Pos) (o:Nat):bg .nilCheck [.ptr p o] K=K (.ptr p o):=kR K (fun H n=>Et H n p o)
theorem QX (H:Pos->Option AB) (n:Pos) (es:Nat) (z:Bool) (rs:List (List AV)) (k:IntKind) (i:Nat):aE.run H n (.idxA es none) [ro es z rs,.int k (i:Int)]=((if i<rs.length then some (.fp rs i 0) else none):Option AV).map .val:=by
 by_cases h:i<rs.length
 . rw[Ux (by intro e;subst e;simp at h)]
   simp[aE.run,uw,pO,VK,jK,h]
 . unfold ro;split
   . rfl
   . simp[aE.run,uw,pO,VK,jK,h]
@[simp] theorem ajj {R:Type} (c:ai) (K:AV->St->Option R) (st:St) (es:Nat) (z:Bool) (rs:List (List AV)) (k:IntKind) (i:Nat):af c (.idxA es none) [ro es z rs,.int k (i:Int)] st K=yq (if i<rs.length then some (.fp rs i 0) else none) fun v=>K v st:=Bz c K (fun H n=>QX H n es z rs k i) st
@[simp] theorem ajk {R:Type} (K:AV->Option R) (es:Nat) (z:Bool) (rs:List (List AV)) (k:IntKind) (i:Nat):bg (.idxA es none) [ro es z rs,.int k (i:Int)] K=yq (if i<rs.length then some (.fp rs i 0) else none) K:=afP K (fun H n=>QX H n es z rs k i)
theorem Xz (H:Pos->Option AB) (n:Pos) (es:Nat) (z:Bool) (rs:List (List AV)) (k:IntKind) (i:Nat):aE.run H n (.sliceL es false true false) [ro es z rs,.int k (i:Int)]=((if i<=rs.length then some (ro es (z&&rs.isEmpty) (rs.take i)) else none):Option AV).map .val:=by
 by_cases h:i<=rs.length
 . rw[  if_pos h];unfold ro
   split
   . simp at h;subst h;rfl
   . rename_i hn
     have:(z&&rs.isEmpty)=false:=by
        cases z<;>cases rs<;>simp at hn ⊢
     simp only[this]
     simp[aE.run,tq,bounds,pO,gb,jK,h]
 . rw[if_neg h];unfold ro;split
   . simp only[aE.run,tq,bounds,pO]
     have: ¬i=0:=by simp at h;omega
     simp[jK,this]
   . simp[aE.run,tq,bounds,pO,gb,jK,h]
@[simp] theorem ajc {R:Type} (c:ai) (K:AV->St->Option R) (st:St) (es:Nat) (z:Bool) (rs:List (List AV)) (k:IntKind) (i:Nat):af c (.sliceL es false true false) [ro es z rs,.int k (i:Int)] st K=yq (if i<=rs.length then some (ro es (z&&rs.isEmpty) (rs.take i)) else none) fun v=>K v st:=Bz c K (fun H n=>Xz H n es z rs k i) st
section
variable {R : Type} (c : ai) (K : AV -> St -> Option R) (K1 : AV -> Option R)
theorem FJ (H:Pos->Option AB) (n:Pos) (xs:List (List AV)) (i j:Nat):aE.run H n (.load none) [.fp xs i j]=(xs[i]?.bind fun cs=>cs[j]?).map .val:=by
 simp only[aE.run,uu,nj]
 cases xs[i]? with
 |none=>rfl
 |some cs=>simp only[Option.bind_some];cases cs[j]? <;>rfl
theorem Tz (H:Pos->Option AB) (n:Pos) (m:Nat) (xs:List (List AV)) (i j:Nat):aE.run H n (.load (some m)) [.fp xs i j]=((xs[i]?.bind fun cs=>cut cs j m).map .agg).map .val:=by
 simp only[aE.run,uu,nj]
 cases xs[i]? with
 |none=>rfl
 |some cs=>simp only[Option.bind_some];cases cut cs j m<;>rfl
theorem uC (H:Pos->Option AB) (n:Pos) (p:Pos) (o:Nat):aE.run H n (.load none) [.ptr p o]=((cellsOf (H p)).bind fun cs=>cs[o]?).map .val:=by
 simp only[aE.run,uu,nj]
 cases H p with
 |none=>rfl
 |some x=>   cases x<;>simp only[cellsOf,Option.bind_some,Option.bind_none]<;>try rfl
             all_goals first|(rename_i cs _;cases cs[o]? <;>rfl)|(rename_i _ cs;cases cs[o]? <;>rfl)
theorem su (H:Pos->Option AB) (n:Pos) (m:Nat) (p:Pos) (o:Nat):aE.run H n (.load (some m)) [.ptr p o]=(((cellsOf (H p)).bind fun cs=>cut cs o m).map .agg).map .val:=by
 simp only[aE.run,uu]
 cases H p with
 |none=>rfl
 |some x=>   cases x<;>simp only[cellsOf,Option.bind_some,Option.bind_none]<;>try rfl
             all_goals first|(rename_i cs _;cases cut cs o m<;>rfl)|(rename_i _ cs;cases cut cs o m<;>rfl)
@[simp] theorem aij (st:St) (xs:List (List AV)) (i j:Nat):af c (.load none) [.fp xs i j] st K=yq (xs[i]?.bind fun cs=>cs[j]?) fun v=>K v st:=Bz c K (fun H n=>FJ H n xs i j) st
@[simp] theorem ahZ (st:St) (m:Nat) (xs:List (List AV)) (i j:Nat):af c (.load (some m)) [.fp xs i j] st K=FH (xs[i]?.bind fun cs=>cut cs j m) fun l=>K (.agg l) st:=by
  rw[Bz c K (fun H n=>Tz H n m xs i j) st];cases (xs[i]?.bind fun cs=>cut cs j m)<;>rfl
@[simp] theorem Mn (st:St) (p:Pos) (o:Nat):af c (.load none) [.ptr p o] st K=yq ((cellsOf (st.heap.get p)).bind fun cs=>cs[o]?) fun v=>K v st:=by
  unfold af cU;rw[uC];cases ((cellsOf (st.heap.get p)).bind fun cs=>cs[o]?)<;>rfl
@[simp] theorem TA (st:St) (m:Nat) (p:Pos) (o:Nat):af c (.load (some m)) [.ptr p o] st K=FH ((cellsOf (st.heap.get p)).bind fun cs=>cut cs o m) fun l=>K (.agg l) st:=by
  unfold af cU;rw[su];cases ((cellsOf (st.heap.get p)).bind fun cs=>cut cs o m)<;>rfl
@[simp] theorem aik (h:T AB) (xs:List (List AV)) (i j:Nat):fE (.load none) [.fp xs i j] h (fun _=>true) K1=yq (xs[i]?.bind fun cs=>cs[j]?) K1:=by
  unfold fE;rw[FJ,FJ]
  cases hx:(xs[i]?.bind fun cs=>cs[j]?)<;>rfl
@[simp] theorem ah0 (st:St) (f:FuncId) (xs:List AV):af c (.mkFunc f 0) xs st K=K (.func f [] xs) st:=dm c K (fun H n=>by simp[aE.run,CJ,gb]) st
@[simp] theorem ail (h:T AB) (p:Pos) (o:Nat):fE (.load none) [.ptr p o] h (fun _=>true) K1=yq ((cellsOf (h.get p)).bind fun cs=>cs[o]?) K1:=by
  unfold fE;rw[uC,uC]
  show (match ((cellsOf (h.get p)).bind fun cs=>cs[o]?).map di.val with|some (.val v)=>_|_=>_)=_
  cases ((cellsOf (h.get p)).bind fun cs=>cs[o]?)<;>rfl
@[simp] theorem yZ (h:T AB) (m:Nat) (p:Pos) (o:Nat):fE (.load (some m)) [.ptr p o] h (fun _=>true) K1=FH ((cellsOf (h.get p)).bind fun cs=>cut cs o m) fun l=>K1 (.agg l):=by
  unfold fE;rw[su,su]
  show (match (((cellsOf (h.get p)).bind fun cs=>cut cs o m).map AV.agg).map di.val with|some (.val v)=>_|_=>_)=_
  cases ((cellsOf (h.get p)).bind fun cs=>cut cs o m)<;>rfl
theorem run_build (H:Pos->Option AB) (n:Pos) (z:List AV) (ps:List (Nat×Nat)) (xs:List AV):aE.run H n (.build z ps) xs=((dY z ps xs).map .agg).map .val:=by
 simp only[aE.run,E1];cases dY z ps xs<;>rfl
@[simp] theorem Iw (st:St) (z:List AV) (ps:List (Nat×Nat)) (xs:List AV):af c (.build z ps) xs st K=FH (dY z ps xs) fun l=>K (.agg l) st:=by
  rw[Bz c K (fun H n=>run_build H n z ps xs) st];cases dY z ps xs<;>rfl
theorem fB {α:Type} {l:List α} {m:Nat} (h:l.length=m):cut l 0 m=some l:=by
 unfold cut
 rw[gb,decide_eq_true (by omega)]
 simp only[List.drop_zero]
 rw[List.take_of_length_le (by omega)]
end
end Go.Ai
namespace Go.Ai
open Go
def Wf (st:St):Prop:= ∀p x,st.heap.get p=some x->p.toNat<st.next.toNat
theorem jQ (st:St) (b:AB):(au st b).next=st.next.succ:=id rfl
@[simp] theorem eB {st:St} {b:AB} (h:Wf st):Wf (au st b):=fun p x hp=>by
  rw[jQ,Pos.aG]
  by_cases e:st.next=p
  . subst e;omega
  . have:=h p x (by rwa [au,T.bN _ e] at hp)
    omega
@[simp] theorem aR (st:St) (b:AB):(au st b).heap.get st.next=some b:=T.fj _ _ _
theorem nS {st:St} {b:AB} {p:Pos} (h:p.toNat<st.next.toNat):(au st b).heap.get p=st.heap.get p:=by
 rw[au,T.bN _ (by intro e;subst e;omega)]
@[simp] theorem BA {st:St} {a b:AB}:(au (au st a) b).heap.get st.next=some a:=by
  rw[nS (by rw[jQ,Pos.aG];omega),aR]
theorem iK {st:St} {b:AB} (h:Wf st):cB st (au st b):=fun p x hp=>by
 rw[nS (h p x hp)];exact hp
theorem aX {st st':St} {v:AV} (hv:Plain v) (hk:cB st st'):tidy st (v,st')=(v,st):=by
 unfold tidy;rw[if_pos ⟨hv,hk⟩]
section
variable {R : Type} (c : ai) (K : AV -> St -> Option R)
@[simp] theorem Nn (x:AV) (st:St):af c .box [x] st K=K (.ptr st.next 0) (au st (.cells x.cells 0)):=id rfl
@[simp] theorem C8 (l:List AV) (st:St):af c (.alloc l) [] st K=K (.ptr st.next 0) (au st (.cells l 0)):=id rfl
end
theorem T.BB {α:Type} (x y:Option α): ∀(p:Pos) (t:T α),T.put x p (T.put y p t)=T.put x p t
 | .h,.e=>rfl
 | .h,.n _ _ _=>rfl
 | .o p,.e=>by simp only[T.put];rw[T.BB x y p]
 | .o p,.n _ _ _=>by simp only[T.put];rw[T.BB x y p]
 | .i p,.e=>by simp only[T.put];rw[T.BB x y p]
 | .i p,.n _ _ _=>by simp only[T.put];rw[T.BB x y p]
theorem T.put_comm {α:Type} (x y:Option α): ∀(p q:Pos) (t:T α),p≠q->T.put x p (T.put y q t)=T.put y q (T.put x p t)
 | .h,.h,_,h=>absurd rfl h
 | .h,.o q,.e,_=>rfl
 | .h,.o q,.n _ _ _,_=>rfl
 | .h,.i q,.e,_=>rfl
 | .h,.i q,.n _ _ _,_=>rfl
 | .o p,.h,.e,_=>rfl
 | .o p,.h,.n _ _ _,_=>rfl
 | .i p,.h,.e,_=>rfl
 | .i p,.h,.n _ _ _,_=>rfl
 | .o p,.i q,.e,_=>rfl
 | .o p,.i q,.n _ _ _,_=>rfl
 | .i p,.o q,.e,_=>rfl
 | .i p,.o q,.n _ _ _,_=>rfl
 | .o p,.o q,.e,h=>by simp only[T.put];rw[T.put_comm x y p q _ (fun e=>h (by rw[e]))]
 | .o p,.o q,.n _ _ _,h=>by simp only[T.put];rw[T.put_comm x y p q _ (fun e=>h (by rw[e]))]
 | .i p,.i q,.e,h=>by simp only[T.put];rw[T.put_comm x y p q _ (fun e=>h (by rw[e]))]
 | .i p,.i q,.n _ _ _,h=>by simp only[T.put];rw[T.put_comm x y p q _ (fun e=>h (by rw[e]))]
def rP (st:St) (p:Pos) (b:AB):St:={ heap:=st.heap.put (some b) p,next:=st.next }
@[simp] theorem FK (st:St) (p:Pos) (b:AB):(rP st p b).next=st.next:=id rfl
@[simp] theorem Jo (st:St) (p:Pos) (b:AB):(rP st p b).heap.get p=some b:=T.fj _ _ _
theorem rf {st:St} {p q:Pos} {b:AB} (h:p≠q):(rP st p b).heap.get q=st.heap.get q:=T.bN _ h _
@[simp] theorem Eu (st:St) (a b:AB):rP (au st a) st.next b=au st b:=by
  unfold rP au;simp only[T.BB]
theorem VM {st:St} {p:Pos} {a b:AB} (h:p≠st.next):rP (au st a) p b=au (rP st p b) a:=by
 unfold rP au;simp only[T.put_comm _ _ _ _ _ h]
theorem Pos.abI (p:Pos):p≠p.succ:=fun e=>by have:=congrArg Pos.toNat e;rw[Pos.aG] at this;omega
@[simp] theorem QY (st:St) (a b d:AB):rP (au (au st a) b) st.next d=au (au st d) b:=by
  rw[VM (by rw[jQ];exact Pos.abI _),Eu]
@[simp] theorem QZ {st:St} {a b d:AB}:(au (au (au st a) b) d).heap.get st.next=some a:=by
  rw[nS (by simp only[jQ,Pos.aG];omega),BA]
theorem wo {R:Type} (c:ai) (K:AV->St->Option R) (st:St) (m:Nat) (p:Pos) (o:Nat) (v:AV) (cs:List AV) (h:st.heap.get p=some (.cells cs 0)) (h1:v.cells.length=m) (h2:o+m<=cs.length) (h3:cS v.cells=true):
  af c (.store m) [.ptr p o,v] st K=K .undef (rP st p (.cells (aV cs o v.cells) 0)):=by
 have:aE.run (fun b=>st.heap.get b) st.next (.store m) [.ptr p o,v]=some (.aI .undef none (some (p,.cells (aV cs o v.cells) 0)) none):=by
  simp[aE.run,ya,h,h1,h2,h3,jK,gb]
 unfold af cU;rw[this];rfl
@[simp] theorem bW {R:Type} (c:ai) (K:AV->St->Option R) (st:St) (m:Nat) (v:AV) (cs:List AV) (h1:v.cells.length=m) (h2:m=cs.length) (h3:cS v.cells=true):
   af c (.store m) [.ptr st.next 0,v] (au st (.cells cs 0)) K=K .undef (au st (.cells v.cells 0)):=by
  rw[wo c K _ m st.next 0 v cs (aR _ _) h1 (by omega) h3,Eu]
  have:aV cs 0 v.cells=v.cells:=by unfold aV;rw[h1,h2];simp
  rw[this]
theorem aim {R:Type} (n:Option Nat) (p:Pos) (o:Nat) (st:St) (K:AV->Option R):Mj n (.ptr p o) st K=match n with
  |none=>yq ((cellsOf (st.heap.get p)).bind fun cs=>cs[o]?) K
  |some m=>FH ((cellsOf (st.heap.get p)).bind fun cs=>cut cs o m) fun l=>K (.agg l):=by
 unfold Mj
 cases n with
 |none=>rw[uC];simp only;cases ((cellsOf (st.heap.get p)).bind fun cs=>cs[o]?)<;>rfl
 |some m=>rw[su];simp only;cases ((cellsOf (st.heap.get p)).bind fun cs=>cut cs o m)<;>rfl
@[simp] theorem Z0 {R:Type} (m:Nat) (p:Pos) (o:Nat) (st:St) (K:AV->Option R):Mj (some m) (.ptr p o) st K=FH ((cellsOf (st.heap.get p)).bind fun cs=>cut cs o m) fun l=>K (.agg l):=aim (some m) p o st K
@[simp] theorem afT (es:Nat) (z:Bool) (rs:List (List AV)):(ro es z rs).one=true:=by unfold ro;split<;>rfl
@[simp] theorem Q0 (es:Nat) (z:Bool) (rs:List (List AV)):(ro es z rs).cells=[ro es z rs]:=by unfold ro;split<;>rfl
theorem Plain.ro {es:Nat} {z:Bool} {rs:List (List AV)} (h: ∀cs∈rs,∀v∈cs,Plain v):Plain (ro es z rs):=by
 unfold Go.Ai.ro;split
 . exact Plain.aj
 . exact Plain.fl h
structure Grew (s s':St):Prop where
 wf:Wf s'
 keeps:cB s s'
 next:s.next.toNat<=s'.next.toNat
theorem Grew.refl {s:St} (h:Wf s):Grew s s:=⟨h,cB.refl s,Nat.le_refl _⟩
theorem Grew.trans {a b c:St} (h:Grew a b) (k:Grew b c):Grew a c:=⟨k.wf,h.keeps.trans k.keeps,Nat.le_trans h.next k.next⟩
theorem Grew.au {s:St} (h:Wf s) (b:AB):Grew s (au s b):=⟨eB h,iK h,by rw[jQ,Pos.aG];omega⟩
theorem Grew.get {s s':St} (h:Grew s s') {p:Pos} {x:AB} (hp:s.heap.get p=some x):s'.heap.get p=some x:=h.keeps p x hp
end Go.Ai
end
section
set_option linter.all false
namespace Go.Ai
open Go
theorem afU {st:St} {p:Pos} {b:AB} (h:Wf st) (hp:p.toNat<st.next.toNat):Wf (rP st p b):=fun q x hq=>by
 rw[FK]
 by_cases e:p=q
 . subst e;exact hp
 . rw[rf e] at hq;exact h q x hq
def dst (st:St) (p:Pos) (b:AB):St:={ heap:=(st.heap.put none p).put (some b) st.next,next:=st.next.succ }
theorem Z3 (st:St) (p:Pos) (b:AB):(dst st p b).next=st.next.succ:=id rfl
theorem UF (st:St) (p:Pos) (b:AB):(dst st p b).heap.get st.next=some b:=T.fj _ _ _
theorem VN {st:St} {p q:Pos} {b:AB} (h:p≠q) (h2:q.toNat<st.next.toNat):(dst st p b).heap.get q=st.heap.get q:=by
 rw[dst,T.bN _ (by intro e;subst e;omega),T.bN _ h]
theorem afV {st:St} {p:Pos} {b:AB} (h:Wf st):Wf (dst st p b):=fun q x hq=>by
 rw[Z3,Pos.aG]
 by_cases e:st.next=q
 . subst e;omega
 . rw[dst,T.bN _ e] at hq
   by_cases e2:p=q
   . subst e2;rw[T.fj] at hq;cases hq
   . rw[T.bN _ e2] at hq;have:=h q x hq;omega
section
variable {R : Type} (c : ai) (K : AV -> St -> Option R) (K1 : AV -> Option R)
theorem Mo (H:Pos->Option AB) (n:Pos) (es len:Nat) (z:List AV) (ps:List Nat) (xs:List AV):aE.run H n (.buildSlice es len z ps) xs=(dY (dG z len) (ps.map fun i=>(i*es,es)) xs).map fun cs=> .aI (.slice n 0 len (some len) es) none none (some (.cells cs 0)):=by
 simp only[aE.run,rJ];cases dY (dG z len) (ps.map fun i=>(i*es,es)) xs<;>rfl
@[simp] theorem iZ (st:St) (es len:Nat) (z:List AV) (ps:List Nat) (xs:List AV):af c (.buildSlice es len z ps) xs st K=FH (dY (dG z len) (ps.map fun i=>(i*es,es)) xs) fun cs=>K (.slice st.next 0 len (some len) es) (au st (.cells cs 0)):=by
  unfold af cU;rw[Mo];cases dY (dG z len) (ps.map fun i=>(i*es,es)) xs<;>rfl
@[simp] theorem Mp (st:St) (es len:Nat) (z:List AV) (ps:List Nat) (xs:List AV) (K2:AV->AB->Option R):By (.buildSlice es len z ps) xs st K2=FH (dY (dG z len) (ps.map fun i=>(i*es,es)) xs) fun cs=>K2 (.slice st.next 0 len (some len) es) (.cells cs 0):=by
  unfold By;rw[Mo];cases dY (dG z len) (ps.map fun i=>(i*es,es)) xs<;>rfl
@[simp] theorem XA (st:St):af c .mkMap [] st K=K (.map st.next) (au st (.map [] 0)):=id rfl
theorem Z4 {st:St} {es bytes m:Nat} {x:AV} {new:List AV} (hm:iX x=some m) (h0:m≠0) (hb:(2*(0+m)+768)*bytes<=281474976710656) (hs:0+m<=9223372036854775807) (hx:gp es m (fun b=>st.heap.get b) x=some new):
  af c (.append es bytes) [.aj,x] st K=K (.slice st.next 0 m none es) (au st (.cells new 0)):=by
 have:aE.run (fun b=>st.heap.get b) st.next (.append es bytes) [.aj,x]=some (.aI (.slice st.next 0 m none es) none none (some (.cells new 0))):=by
  simp only[aE.run,jX]
  rw[show iX .aj=some 0 from rfl,hm]
  simp only[gb,jK,decide_eq_true hb,decide_eq_true hs,decide_eq_false h0,hx]
 unfold af cU;rw[this];rfl
theorem abJ {p:Pos} {o:Nat} {h h2:T AB} {v:AV} (hv:((cellsOf (h.get p)).bind fun cs=>cs[o]?)=some v) (LC:((cellsOf (h2.get p)).bind fun cs=>cs[o]?)=some v) (hb:fN v v=true):
  fE (.load none) [.ptr p o] h (fun v=>dH (.load none) [.ptr p o] v (eo [] h2)&&true) K1=K1 v:=by
 unfold fE
 have e:aE.run (fun _=>none) .h (.load none) [.ptr p o]=none:=rfl
 rw[e]
 simp only
 rw[uC,hv]
 simp only[Option.map_some]
 have:dH (.load none) [.ptr p o] v (eo [] h2)=true:=by
  unfold dH
  show (match aE.run (fun b=>h2.get b) .h (.load none) [.ptr p o] with|some (.val u)=>fN u v|_=>false)=true
  rw[uC,LC];exact hb
 rw[this];rfl
end
theorem FL {R:Type} (K1:AV->Option R) {p:Pos} {o:Nat} {h h2:T AB} {v:AV} (hv:((cellsOf (h.get p)).bind fun cs=>cs[o]?)=some v) (LC:((cellsOf (h2.get p)).bind fun cs=>cs[o]?)=some v) (hb:fN v v=true):
  fE (.load none) [.ptr p o] h (fun v=>dH (.load none) [.ptr p o] v (eo [] h2)) K1=K1 v:=by
 have:=abJ K1 hv LC hb
 simp only[Bool.and_true] at this;exact this
end Go.Ai
end
section
namespace Go.Ai
inductive dz:Nat->AV->Prop
 |flat {d:Nat} {v:AV} (h:iY v v=true):dz d v
 |fl {d:Nat} {a:List (List AV)} {n:Nat} (h: ∀r∈a,∀v∈r,dz d v):dz (d+1) (.fl a n)
theorem Mq {f:AV->AV->Bool}: ∀{a:List AV},(∀v∈a,f v v=true)->CN f a a=true
 |[],_=>rfl
 |a::x,h=>by
  simp only[CN,h a (by simp),Mq (fun v hv=>h v (List.mem_cons_of_mem _ hv)),Bool.and_self]
theorem Iy {f:AV->AV->Bool}: ∀{a:List (List AV)},(∀r∈a,∀v∈r,f v v=true)->wg f a a=true
 |[],_=>rfl
 |a::x,h=>by
  simp only[wg,Mq (h a (by simp)),Iy (fun v hv=>h v (List.mem_cons_of_mem _ hv)),Bool.and_self]
theorem FM: ∀{d:Nat} {v:AV},dz d v->CO d v v=true
 |d,v,.flat h=>by
  unfold CO;split
  . simp[iY] at h
  . exact h
 |d+1,.fl a n,.fl h=>by
  unfold CO
  simp[Iy (fun r hr v hv=>FM (h r hr v hv))]
theorem dz.ro {d es:Nat} {z:Bool} {rs:List (List AV)} (h: ∀r∈rs,∀v∈r,dz d v):dz (d+1) (ro es z rs):=by
 unfold Go.Ai.ro;split
 . exact .flat rfl
 . exact .fl h
theorem C9 {v:AV} (h:dz 3 v):fN v v=true:=by
 have h3:=FM h
 cases h with
 |flat h=>
  cases v<;>simp[iY] at h<;>first|simp[fN,oU,iY,h]|skip
  all_goals simp_all [fN,oU,iY]
 |fl h=>exact h3
theorem VO {v:AV} (h:dz 3 v):oU v v=true:=by
 have h3:=FM h
 cases h with
 |flat h=>
  cases v<;>simp[iY] at h<;>first|simp[oU,iY,h]|skip
  all_goals simp_all [oU,iY]
 |fl h=>exact h3
theorem G6 {l:List AV} (h: ∀v∈l,dz 3 v):fN (.agg l) (.agg l)=true:=by
 show kB l l=true
 induction l with
 |nil=>rfl
 |cons v l ih=>simp only[kB,VO (h v (by simp)),ih (fun u hu=>h u (List.mem_cons_of_mem _ hu)),Bool.and_self]
theorem vQ {R:Type} (K1:AV->Option R) {m:Nat} {p:Pos} {o:Nat} {h h2:T AB} {l:List AV} (hv:((cellsOf (h.get p)).bind fun cs=>cut cs o m)=some l) (LC:((cellsOf (h2.get p)).bind fun cs=>cut cs o m)=some l) (hb:fN (.agg l) (.agg l)=true):
  fE (.load (some m)) [.ptr p o] h (fun v=>dH (.load (some m)) [.ptr p o] v (eo [] h2)) K1=K1 (.agg l):=by
 unfold fE
 have e:aE.run (fun _=>none) .h (.load (some m)) [.ptr p o]=none:=rfl
 rw[e]
 simp only
 rw[su,hv]
 simp only[Option.map_some]
 have:dH (.load (some m)) [.ptr p o] (.agg l) (eo [] h2)=true:=by
  unfold dH
  show (match aE.run (fun b=>h2.get b) .h (.load (some m)) [.ptr p o] with|some (.val u)=>fN u (.agg l)|_=>false)=true
  rw[su,LC];exact hb
 rw[this]
theorem dz.int {d:Nat} (k:IntKind) (n:Int):dz d (.int k n):= .flat (by simp[iY,jr,dK])
theorem dz.str {d:Nat} (s:List Nat):dz d (.str s):= .flat (by simp[iY,kD])
theorem dz.bool {d:Nat} (s:Bool):dz d (.bool s):= .flat (by simp[iY])
end Go.Ai
end
section
namespace Go.Ai
open Go
section
variable {H : Type} (enc : TypeId × Value -> H) (P : Program) (w : World) (base : Nat) (spare : Nat -> Bool) (held : Bool)
variable {enc P w base spare held}
def fieldsOf (P:Program) (t:TypeId):List Field:=match P.underlying t with
 |some (.struct fs)=>fs.toList
 |_=>[]
end
end Go.Ai
end
section
namespace Go.Ai
open Go
def Quiet (w w':World):Prop:=w'.os=w.os/\w'.tape=w.tape/\w'.output=w.output/\w.heap.size<=w'.heap.size/\ ∀k,k<w.heap.size->w'.heap[k]? =w.heap[k]?
def Jp:List AV->St->Option (AV×St)
 |[],st=>some (.bool true,st)
 |_,_=>none
theorem Oz {P:Program} {C:Cells} {f:FuncId} {fn:Func} {c:Code} (hf:P.funcs[f]? =some fn) (o9: ¬fn.name= "runtime.NumGoroutine") (hb:fn.body=some c)
  (h: ∀w:World,(∀ad u,C ad=some u->w.cell? ad=some u)->Calls P f #[] w fun e w'=>e= .returned (.bool true)/\Quiet w w'):mS P C f Jp where
 mono args st v st' hs:=by
  unfold Jp at hs
  split at hs<;>first|(cases hs;done)|skip
  simp only[Option.some.injEq,Prod.mk.injEq] at hs
  rw[<-hs.2];exact Nat.le_refl _
 runs ρ st w args v st' bu hs hW hv:=by
  unfold Jp at hs
  split at hs<;>first|(cases hs;done)|skip
  simp only[Option.some.injEq,Prod.mk.injEq] at hs
  obtain ⟨rfl,rfl⟩:=hs
  obtain rfl:=hv.kQ
  have cA:(callFunc f ([]:List Value).toArray).run P w= .ok (.enter f #[]) w:=by simp[callFunc,hf,o9,hb]
  rw[cA]
  refine Calls.mono (h w fun ad u ha=>(hW.dc ad u ha).1) fun e w' he=> ?_
  obtain ⟨rfl,h1,h2,h3,h4,h5⟩:=he
  exact ⟨ρ,.bool true,fun _ _=>rfl,Nat.le_refl _,hW.grow h4 h5,⟨h1,h2,h3,h4,fun k hk _=>h5 k hk,fun b x hb=> .inl ⟨b,x,hb,rfl⟩⟩⟩
theorem Z5 {P:Program} {C:Cells} {call:ai} {f:FuncId} {fn:Func} {c:Code} {args:List AV} {bu:List Value} {b:Bool} {n0:Pos} {cm:St} {w:World}
  (dr:j0 P C call) (hC: ∀ad v,C ad=some v->w.cell? ad=some v) (QC: ∀a v,C a=some v-> ∀o,C ⟨a.block,o,none⟩=none->w.cell? ⟨a.block,o,none⟩=none) (hf:P.funcs[f]? =some fn) (o9: ¬fn.name= "runtime.NumGoroutine") (hb:fn.body=some c)
  (ha:az (fun _=>⟨0,0,0⟩) n0.toNat C args bu) (h:call f args { heap:= .e,next:=n0 }=some (.bool b,cm)):
  Calls P f bu.toArray w fun e w'=>e= .returned (.bool b)/\Quiet w w':=by
 have hr:=dr (fun _=>⟨0,0,0⟩) { heap:= .e,next:=n0 } w f args (.bool b) cm bu h (tJ hC QC) ha
 have cA:(callFunc f bu.toArray).run P w= .ok (.enter f bu.toArray) w:=by simp[callFunc,hf,o9,hb]
 rw[cA] at hr
 refine Calls.mono hr fun e w' he=> ?_
 cases e with
 |returned x=>
  obtain ⟨ρ',h1,_,_,_,hE⟩:=he
  have:=h1.jP;subst this
  exact ⟨rfl,hE.os,hE.tape,hE.output,hE.size,fun k hk=>hE.block k hk fun b x hb=>by rw[T.eE] at hb;cases hb⟩
 |panicked c=>exact he.elim
 |outgrown=>exact he.elim
end Go.Ai
end
section
namespace Go.Ai
open Go Go.ChangeShapes Go.WideShapes Go.ChangeAt Go.RowKit
theorem Quiet.below {w w':World} (h:Quiet w w'):Below w.heap.size w w':=⟨h.1,h.2.1,h.2.2.1,h.2.2.2.1,h.2.2.2.2⟩
section
variable {H : Type} {enc : TypeId × Value -> H} {P : Program}
theorem G7 {W W':World} (hl:laidOutB P=true) (hb:Below W.heap.size W W'): ∀{ts:List TypeId} {vs:List Value} {ds:List (DataW H)} {p:List MemPlace},
  DataW.TrodAll enc P W 0 (fun _=>true) true ts vs ds p->(∀t∈ts,P.readableRec t=true/\t<P.types.size)->(∀x∈p,x.block<W.heap.size)->
  DataW.TrodAll enc P W' 0 (fun b=>decide (b<W.heap.size)) true ts vs ds p
 |[],_,_,_,h,_,_=>by
  obtain ⟨rfl,rfl,rfl⟩:=trodAll_nil h
  exact trodAll_mk0
 |t::ts,_,_,_,h,hr,hx=>by
  obtain ⟨v,vs1,d,ds1,a,b,rfl,rfl,rfl,h1,h2⟩:=trodAll_cons h
  exact trodAll_cons_mk (Below.trod hl (hr t (by simp)).1 (hr t (by simp)).2 h1 hb (fun x Ud=>hx x (List.mem_append_left _ Ud)))
   (G7 hl hb h2 (fun t ht=>hr t (List.mem_cons_of_mem _ ht)) (fun x Ud=>hx x (List.mem_append_right _ Ud)))
theorem XB {f:Func} {s:ChangeSpec} {W W':World} {args:Array Value} {ds gs:List (DataW H)} {before:List MemPlace} {tb:TypeId} (hl:laidOutB P=true)
   (hW:DataW.Whole enc P f.params.toList s.vars false W args.toList ds gs before) (hv:s.vars=[]) (jM:s.fn H (ds++gs)={ results:=[.lit (.bool true)],args:=ds })
   (hr: ∀t∈f.params.toList,P.readableRec t=true/\t<P.types.size) (hB:Below W.heap.size W W') (wZ:f.resultTypes= #[tb]) (htb:P.underlying tb=some .bool):
   s.post enc P f false true false false W args (.bool true) W':=by
 have bI:=hW.lt
 have eF:=hW
 obtain ⟨p,q,hA,hV,rfl,WJ,hnd⟩:=hW
 have hq:q=[]:=by
   rw[hv] at hV
   cases gs with
   |nil=>exact hV
   |cons g gs=>exact hV.elim
 subst hq
 refine ⟨ds,gs,p++[],[],p,[],eF,?_,?_,?_,hB.frame _,fun h=>by cases h⟩
 . rw[jM,wZ]
   exact trodAll_cons_mk (shut_bool htb _) trodAll_mk0
 . rw[jM]
   exact G7 hl hB hA hr (fun x hx=>bI x (List.mem_append_left _ hx))
 . rw[jM,hv];rfl
end
end Go.Ai
end
section
namespace Go.Ai
open Go Go.ChangeShapes Go.WideShapes Go.ChangeAt Go.RowKit
section
variable {H : Type} {enc : TypeId × Value -> H} {P : Program} {w : World} {base : Nat} {spare : Nat -> Bool} {held : Bool}
end
end Go.Ai
end
section
namespace Go.Ai
open Go
theorem aA.ain {ρ:Pos->Loc} {n:Nat} {C C':Cells} {v:AV} {x:Value} (hC: ∀ad u,C ad=some u->C' ad=some u) (h:aA ρ n C v x):aA ρ n C' v x:=by
 induction h with
 |bool b=>exact .bool b
 |int k i=>exact .int k i
 |str s bs h=>exact .str s bs h
 |bq=>exact .bq
 |ptr b off h=>exact .ptr b off h
 |fp xs i j es aF base cell hl hc _ ih=>exact .fp xs i j es aF base cell hl (fun i j cs v h1 h2=>hC _ _ (hc i j cs v h1 h2)) ih
 |aj=>exact .aj
 |slice b off len cap es aL a hl hc ha hk=>exact .slice b off len cap es aL a hl hc ha hk
 |fl xs es aL a cell hl hs gq hc _ ih=>exact .fl xs es aL a cell hl hs gq (fun i j cs v h1 h2=>hC _ _ (hc i j cs v h1 h2)) ih
 |gA=>exact .gA
 |map b h=>exact .map b h
 |func f x y x' y' hx hy _ _ WD WE=>exact .func f x y x' y' hx hy WD WE
 |ax=>exact .ax
 |oN=>exact .oN
 |iface t v x _ ih=>exact .iface t v x ih
 |agg l cs hl _ ih=>exact .agg l cs hl ih
 |tuple l cs hl _ ih=>exact .tuple l cs hl ih
def kH (ρ:Pos->Loc) (n:Nat) (C:Cells) (w:World) (v u:AV):Prop:= ∀x,aA ρ n C v x->aA ρ n (fun ad=>w.cell? ad) u x
section
variable {ρ : Pos -> Loc} {C : Cells} {st : St} {w : World}
theorem kH.self {n:Nat} (hC: ∀ad u,C ad=some u->w.cell? ad=some u) (v:AV):kH ρ n C w v v:=fun _ h=>h.ain hC
theorem kH.agg {n:Nat} {l l':List AV} (hl:l.length=l'.length) (h: ∀(i:Nat) (v u:AV),l[i]? =some v->l'[i]? =some u->kH ρ n C w v u):kH ρ n C w (.agg l) (.agg l'):=fun x hx=>by
 cases hx with
 |agg _ cs h1 h2=>
  refine .agg l' cs (by omega) fun i u x hu hx=> ?_
  have hi:i<l.length:=by rw[hl];exact (List.getElem?_eq_some_iff.1 hu).1
  exact h i l[i] u (List.getElem?_eq_getElem hi) hu _ (h2 i _ x (List.getElem?_eq_getElem hi) hx)
theorem kH.slice (hW:bM ρ C st w) {b:Pos} {off len es fz:Nat} {cap:Option Nat} {cs:List AV} (hb:st.heap.get b=some (.cells cs fz)) (hlen:off+len*es<=cs.length) {F:List (List AV)} (hF:F.length=len)
  (gq: ∀(i:Nat) (r:List AV),F[i]? =some r->r.length=es)
  (hr: ∀(i j:Nat) (r:List AV) (u v:AV),F[i]? =some r->r[j]? =some u->cs[off+i*es+j]? =some v->kH ρ st.next.toNat C w v u):
  kH ρ st.next.toNat C w (.slice b off len cap es) (.fl F es):=fun x hx=>by
 cases hx with
 |slice  _ _ _ _ _ aL a hl hc ha hk=>
  have get: ∀(i j:Nat) (r:List AV) (u:AV),F[i]? =some r->r[j]? =some u->i<len/\j<es/\off+i*es+j<cs.length/\0<aL:=fun i j r u h1 h2=>by
   have g1:i<len:=by rw[<-hF];exact (List.getElem?_eq_some_iff.1 h1).1
   have g2:j<es:=by rw[<-gq i r h1];exact (List.getElem?_eq_some_iff.1 h2).1
   have g3:(i+1)*es<=len*es:=Nat.mul_le_mul_right _ g1
   rw[Nat.succ_mul] at g3
   exact ⟨g1,g2,by omega,by omega⟩
  have cell: ∀(i j:Nat) (r:List AV) (u:AV),F[i]? =some r->r[j]? =some u-> ∃v y,cs[off+i*es+j]? =some v/\w.cell? ⟨a.block,a.off+i*es+j,none⟩=some y/\aA ρ st.next.toNat C v y:=fun i j r u h1 h2=>by
   obtain ⟨g1,g2,g3,g4⟩:=get i j r u h1 h2
   obtain ⟨_,rfl,_⟩:=ha (by omega)
   have hv:=List.getElem?_eq_getElem g3
   obtain ⟨y,q1,q2⟩:=hW.cell hb hv
   exact ⟨_,y,hv,by rw[show (ρ b).base+off+i*es+j=(ρ b).base+(off+i*es+j) by omega];exact q1,q2⟩
  have key:aA ρ st.next.toNat (fun ad=>w.cell? ad) (.fl F es) (.slice (some a) F.length aL):=by
   refine .fl F es aL a (fun i j=>(w.cell? ⟨a.block,a.off+i*es+j,none⟩).getD .nilFunc) (by omega) (fun h0=> ?_) gq (fun i j r u h1 h2=> ?_) (fun i j r u h1 h2=> ?_)
   .    cases aio:len with
        |zero=>exfalso;apply h0;rw[aio] at hF;exact List.length_eq_zero_iff.1 hF
        |succ m=>
         obtain ⟨_,rfl,_⟩:=ha (by omega)
         rfl
   .    obtain ⟨v,y,_,q2,_⟩:=cell i j r u h1 h2
        show w.cell? _=_
        rw[q2];rfl
   .    obtain ⟨v,y,q1,q2,q3⟩:=cell i j r u h1 h2
        rw[q2]
        exact hr i j r u v h1 h2 q1 y q3
  rw[hF] at key
  exact key
end
end Go.Ai
end
section
namespace Go.Ai
open Go
def eC (st:St):Nat->AV->AV
 |0,v=>v
 |  d+  1,.slice b off len cap es=>match decide (len=0) with
    |true=> .fl [] es
    |false=>match st.heap.get b with
     |  some (.cells cs _)=>match decide (off+len*es<=cs.length) with
        |true=> .fl ((List.range len).map fun i=>((cs.drop (off+i*es)).take es).map (eC st d)) es
        |false=> .slice b off len cap es
     |_=> .slice b off len cap es
 |  d+1,.ptr b off=>match st.heap.get b with
    |some (.cells cs _)=> .fp [cs.map (eC st d)] 0 off
    |_=> .ptr b off
 |d+1,.agg l=> .agg (l.map (eC st d))
 |d+1,.func f x y=> .func f (x.map (eC st d)) (y.map (eC st d))
 |_,v=>v
theorem nT (st:St) (d:Nat) (b:Pos) (off len:Nat) (cap:Option Nat) (es:Nat):eC st (d+1) (.slice b off len cap es)=match decide (len=0) with
 |true=> .fl [] es
 |false=>match st.heap.get b with
  |     some (.cells cs _)=>match decide (off+len*es<=cs.length) with
        |true=> .fl ((List.range len).map fun i=>((cs.drop (off+i*es)).take es).map (eC st d)) es
        |false=> .slice b off len cap es
  |_=> .slice b off len cap es:=rfl
theorem UG (st:St) (d:Nat) (b:Pos) (off:Nat):eC st (d+1) (.ptr b off)=match st.heap.get b with
 |some (.cells cs _)=> .fp [cs.map (eC st d)] 0 off
 |_=> .ptr b off:=rfl
theorem UH (st:St) (d:Nat) (l:List AV):eC st (d+1) (.agg l)= .agg (l.map (eC st d)):=rfl
theorem Z6 (st:St) (d:Nat) (f:FuncId) (x y:List AV):eC st (d+1) (.func f x y)= .func f (x.map (eC st d)) (y.map (eC st d)):=rfl
section
variable {ρ : Pos -> Loc} {C : Cells} {st : St} {w : World}
theorem kH.ptr (hW:bM ρ C st w) {b:Pos} {off fz:Nat} {cs F:List AV} (hb:st.heap.get b=some (.cells cs fz)) (hF:F.length=cs.length)
  (hr: ∀(j:Nat) (u v:AV),F[j]? =some u->cs[j]? =some v->kH ρ st.next.toNat C w v u):kH ρ st.next.toNat C w (.ptr b off) (.fp [F] 0 off):=fun x hx=>by
 cases hx with
 |ptr   _ _ h=>
  have row: ∀(i j:Nat) (r:List AV) (u:AV),[F][i]? =some r->r[j]? =some u->i=0/\ ∃v y,cs[j]? =some v/\w.cell? ⟨(ρ b).aF,(ρ b).base+j,none⟩=some y/\aA ρ st.next.toNat C v y/\F[j]? =some u:=fun i j r u h1 h2=>by
   have hi:i=0:=by have:=(List.getElem?_eq_some_iff.1 h1).1;simp at this;exact this
   subst hi
   simp at h1;subst h1
   have hj:j<cs.length:=by rw[<-hF];exact (List.getElem?_eq_some_iff.1 h2).1
   obtain ⟨y,q1,q2⟩:=hW.cell hb (List.getElem?_eq_getElem hj)
   exact ⟨rfl,_,y,List.getElem?_eq_getElem hj,q1,q2,h2⟩
  have key:aA ρ st.next.toNat (fun ad=>w.cell? ad) (.fp [F] 0 off) (.pointer (some ⟨(ρ b).aF,(ρ b).base+0*cs.length+off,none⟩)):=by
   refine .fp [F] 0 off cs.length (ρ b).aF (ρ b).base (fun _ j=>(w.cell? ⟨(ρ b).aF,(ρ b).base+j,none⟩).getD .nilFunc) (fun i r h1=> ?_) (fun i j r u h1 h2=> ?_) (fun i j r u h1 h2=> ?_)
   .    have hi:i=0:=by have:=(List.getElem?_eq_some_iff.1 h1).1;simp at this;exact this
        subst hi;simp at h1;subst h1;exact hF
   .    obtain ⟨rfl,v,y,_,q2,_⟩:=row i j r u h1 h2
        show w.cell? _=_
        rw[show (ρ b).base+0*cs.length+j=(ρ b).base+j by omega,q2];rfl
   .    obtain ⟨rfl,v,y,q1,q2,q3,q4⟩:=row i j r u h1 h2
        rw[q2]
        exact hr j u v q4 q1 y q3
  rw[show (ρ b).base+0*cs.length+off=(ρ b).base+off by omega] at key
  exact key
theorem kH.eC (hW:bM ρ C st w): ∀(d:Nat) (v:AV),kH ρ st.next.toNat C w v (eC st d v)
 |0,v=>kH.self (fun ad u h=>(hW.dc ad u h).1) v
 |d+    1,v=>   by
  have self:=kH.self (ρ:=ρ) (n:=st.next.toNat) (fun ad u h=>(hW.dc ad u h).1) v
  cases v with
  |slice    b off len cap es=>
   rw[nT]
   split
   .    rename_i h0
        obtain rfl:=of_decide_eq_true h0
        intro x hx
        cases hx with
        | slice _ _ _ _ _ aL a hl hc ha hk=>
          exact .fl [] es aL a (fun _ _=> .nilFunc) (Nat.zero_le _) (fun h=>absurd rfl h) (fun i c h=>by simp at h) (fun i j c v h=>by simp at h) (fun i j c v h=>by simp at h)
   split
   .    rename_i cs fz hb
        split
        . rename_i hle
          have hle:=of_decide_eq_true hle
          refine kH.slice hW hb hle (by simp) (fun i r hi=> ?_) (fun i j r u v hi hj hv=> ?_)
          . rw[List.getElem?_map] at hi
            by_cases h:i<len
            . rw[List.getElem?_range h] at hi
              simp only[Option.map_some,Option.some.injEq] at hi
              subst hi
              have g3:(i+1)*es<=len*es:=Nat.mul_le_mul_right _ h
              rw[Nat.succ_mul] at g3
              simp;omega
            . rw[List.getElem?_eq_none (by simpa using h)] at hi;cases hi
          . rw[ List.getElem?_map] at hi
            by_cases h:i<len
            . rw[List.getElem?_range h] at hi
              simp only[Option.map_some,Option.some.injEq] at hi
              subst hi
              rw[List.getElem?_map,List.getElem?_take] at hj
              split at hj
              . rw[List.getElem?_drop,hv] at hj
                simp only[Option.map_some,Option.some.injEq] at hj
                subst hj
                exact kH.eC hW d v
              . cases hj
            . rw[List.getElem?_eq_none (by simpa using h)] at hi;cases hi
        . exact self
   .    exact self
  |ptr b off=>
   rw[UG]
   split
   .    rename_i cs fz hb
        refine kH.ptr hW hb (by simp) (fun j u v hu hv=> ?_)
        rw[List.getElem?_map,hv] at hu
        simp only[Option.map_some,Option.some.injEq] at hu
        subst hu
        exact kH.eC hW d v
   .    exact self
  |agg l=>
   rw[UH]
   refine kH.agg (by simp) (fun i v u h1 h2=> ?_)
   rw[List.getElem?_map,h1] at h2
   simp only[Option.map_some,Option.some.injEq] at h2
   subst h2
   exact kH.eC hW d v
  |func f x y=>
   rw[Z6]
   intro v' hv
   cases hv with
   |    func _ _ _ x' y' hx hy h1 h2=>
        have one: ∀(l:List AV) (xs:Array Value),(∀(i:Nat) (v:AV) (v':Value),l[i]? =some v->xs[i]? =some v'->aA ρ st.next.toNat C v v')-> ∀(i:Nat) (v:AV) (v':Value),(l.map (Go.Ai.eC st d))[i]? =some v->xs[i]? =some v'->aA ρ st.next.toNat (fun ad=>w.cell? ad) v v':=fun l xs h i u v' hu hx=>by
          rw[List.getElem?_map] at hu
          cases hg:l[i]? with
          |none=>rw[hg] at hu;cases hu
          | some v0=>
            rw[hg] at hu
            simp only[Option.map_some,Option.some.injEq] at hu
            subst hu
            exact kH.eC hW d v0 _ (h i v0 v' hg hx)
        exact .func f _ _ x' y' (by simpa using hx) (by simpa using hy) (one x x' h1) (one y y' h2)
  |_=>exact self
theorem az.eC (hW:bM ρ C st w) (d:Nat) {l:List AV} {xs:List Value} (h:az ρ st.next.toNat C l xs):az ρ st.next.toNat (fun ad=>w.cell? ad) (l.map (Go.Ai.eC st d)) xs:=
 ⟨by rw[<-h.1];simp,fun i u x hu hx=>by
  rw[List.getElem?_map] at hu
  cases hv:l[i]? with
  |none=>rw[hv] at hu;cases hu
  |  some v=>
     rw[hv] at hu
     simp only[Option.map_some,Option.some.injEq] at hu
     subst hu
     exact kH.eC hW d v _ (h.2 i v x hv hx)⟩
end
def eZ (v:AV):Prop:= ∀(ρ:Pos->Loc) (n:Nat) (C C':Cells) (x:Value),aA ρ n C v x->aA ρ n C' v x
theorem eZ.bool (b:Bool):eZ (.bool b):=fun _ _ _ _ _ h=>by cases h;exact .bool b
theorem eZ.int (k:IntKind) (i:Int):eZ (.int k i):=fun _ _ _ _ _ h=>by cases h;exact .int k i
theorem eZ.str (s:List Nat):eZ (.str s):=fun _ _ _ _ _ h=>by cases h with|str _ bs h=>exact .str s bs h
theorem eZ.aj:eZ .aj:=fun _ _ _ _ _ h=>by cases h;exact .aj
theorem eZ.tuple {l:List AV} (hl: ∀v∈l,eZ v):eZ (.tuple l):=fun _ _ _ _ _ h=>by
 cases h with|tuple _ cs hx h1=>exact .tuple l cs hx fun i v x hv hx=>hl v (List.mem_of_getElem? hv) _ _ _ _ _ (h1 i v x hv hx)
theorem eZ.agg {l:List AV} (hl: ∀v∈l,eZ v):eZ (.agg l):=fun _ _ _ _ _ h=>by
 cases h with|agg _ cs hx h1=>exact .agg l cs hx fun i v x hv hx=>hl v (List.mem_of_getElem? hv) _ _ _ _ _ (h1 i v x hv hx)
def Mr:AB->Prop
 | .cells cs _=> ∀v∈cs,eZ v
 | .map es _=> ∀e∈es,eZ e.1/\eZ e.2.1
 | .kY _ _=>True
 | .typed _ cs=> ∀v∈cs,eZ v
theorem Mr.rel {x:AB} (h:Mr x) {ρ:Pos->Loc} {n:Nat} {C C':Cells} {L:Loc} {w:World} (k:nG ρ n C L w x):nG ρ n C' L w x:=by
 cases x with
 |cells cs fz=>
  obtain ⟨c,e,fr,h1,h2,h3,h4,h5⟩:=k
  exact ⟨c,e,fr,h1,h2,h3,⟨h4.1,fun i v x hv hx=>h v (List.mem_of_getElem? hv) _ _ _ _ _ (h4.2 i v x hv hx)⟩,h5⟩
 |map es clock=>
  obtain ⟨es',h1,h2,h3⟩:=k
  exact ⟨es',h1,h2,fun i e e' he n9=>let ⟨a,b,c⟩:=h3 i e e' he n9;⟨(h e (List.mem_of_getElem? he)).1 _ _ _ _ _ a,(h e (List.mem_of_getElem? he)).2 _ _ _ _ _ b,c⟩⟩
 |kY s pos=>exact k
 |typed t cs=>
  obtain ⟨c,fr,h1,h2,h3,h4,h5⟩:=k
  exact ⟨c,fr,h1,h2,h3,⟨h4.1,fun i v x hv hx=>h v (List.mem_of_getElem? hv) _ _ _ _ _ (h4.2 i v x hv hx)⟩,h5⟩
def T.both {α:Type}:T α->T α->T α
 |t,.e=>t
 | .e,t=>t
 | .n l v r,.n l' v' r'=> .n (T.both l l') (v.or v') (T.both r r')
theorem T.XC {α:Type} (t:T α):T.both t .e=t:=by cases t<;>rfl
theorem T.KJ {α:Type}: ∀(p:Pos) (t t':T α),(T.both t t').get p=(t.get p).or (t'.get p)
 |p,t,.e=>by rw[T.XC,T.eE];simp
 |p,.e,.n l v r=>by rw[T.eE];rfl
 | .h,.n l v r,.n l' v' r'=>rfl
 | .o p,.n l v r,.n l' v' r'=>T.KJ p l l'
 | .i p,.n l v r,.n l' v' r'=>T.KJ p r r'
def T.keep {α:Type} (P:α->Bool):T α->T α
 | .e=> .e
 | .n l v r=> .n (T.keep P l) (v.filter P) (T.keep P r)
theorem T.KK {α:Type} (P:α->Bool): ∀(p:Pos) (t:T α),(T.keep P t).get p=(t.get p).filter P
 |p,.e=>by rw[T.keep,T.eE];rfl
 | .h,.n l v r=>rfl
 | .o p,.n l v r=>T.KK P p l
 | .i p,.n l v r=>T.KK P p r
open Classical in
noncomputable def Jq (t:T AB):T AB:=T.keep (fun x=>decide (Mr x)) t
theorem XD {t:T AB} {p:Pos} {x:AB} (h:(Jq t).get p=some x):t.get p=some x/\Mr x:=by
 unfold Jq at h
 rw[T.KK] at h
 cases hg:t.get p with
 |none=>rw[hg] at h;cases h
 |some y=>
  rw[hg] at h
  simp only[Option.filter] at h
  split at h
  . rename_i hb;cases h;exact ⟨rfl,@of_decide_eq_true _ (Classical.propDecidable _) hb⟩
  . cases h
theorem abK:Jq .e= .e:=rfl
def Shut (n0:Pos) (r:AV×St):Prop:=eZ r.1/\n0.toNat<=r.2.next.toNat
open Classical in
noncomputable def Iz (call:ai) (f:FuncId) (d:Nat):List AV->St->Option (AV×St):=fun args st=>
 match call f (args.map (eC st d)) { heap:= .e,next:=st.next } with
 |some (v,cm)=>if Shut st.next (v,cm) then some (v,{ heap:=T.both st.heap (Jq cm.heap),next:=cm.next }) else none
 |none=>none
theorem abL {call:ai} {f:FuncId} {d:Nat} {args:List AV} {st:St} {v:AV} {cm:St} (h:call f (args.map (eC st d)) { heap:= .e,next:=st.next }=some (v,cm)) (hs:Shut st.next (v,cm)):
  Iz call f d args st=some (v,{ heap:=T.both st.heap (Jq cm.heap),next:=cm.next }):=by
 unfold Iz;rw[h];simp only;rw[if_pos hs]
theorem Z7 {call:ai} {f:FuncId} {d:Nat} {args:List AV} {st:St} {v:AV} (h:call f (args.map (eC st d)) { heap:= .e,next:=st.next }=some (v,{ heap:= .e,next:=st.next })) (hs:eZ v):
  Iz call f d args st=some (v,st):=by
 rw[abL h ⟨hs,Nat.le_refl _⟩]
 simp only[abK,T.XC]
end Go.Ai
end
section
namespace Go.Ai
open Go
section
variable {R : Type} (c : ai) (K : AV -> St -> Option R) (st : St)
end
end Go.Ai
end
section
namespace Go.Ai
open Go
def jR:AV->Option Pos
 | .slice b _ n cap _=>if cap=some 0/\n=0 then none else some b
 |_=>none
theorem XE {b b':Pos} {off n es:Nat} {cap:Option Nat} (h:jR (.slice b off n cap es)=some b'):b=b':=by
 simp only[jR] at h
 split at h
 . cases h
 . exact Option.some.inj h
theorem zw (b:Pos) (off n es:Nat):jR (.slice b off n none es)=some b:=by simp[jR]
theorem zx (b:Pos) (off es:Nat):jR (.slice b off 0 (some 0) es)=none:=by simp[jR]
def QS (es:Nat) (s:St) (v:AV) (rows:List (List AV)):Prop:=
 (v= .aj/\rows=[])\/(∃b off cap cs,v= .slice b off rows.length cap es/\s.heap.get b=some (.cells cs 0)/\off+rows.length*es<=cs.length/\(cs.drop off).take (rows.length*es)=rows.flatten/\(cap=none\/cap=some rows.length))\/
    (∃b off,v= .slice b off 0 (some 0) es/\rows=[])
theorem QS.nil {es:Nat} {s:St}:QS es s .aj []:= .inl ⟨rfl,rfl⟩
theorem QS.mono {es:Nat} {s s':St} {v:AV} {rows:List (List AV)} (h:QS es s v rows) (hk: ∀b x,jR v=some b->s.heap.get b=some x->s'.heap.get b=some x):QS es s' v rows:=by
 rcases h with ⟨rfl,rfl⟩|⟨b,off,cap,cs,rfl,h1,h2,h3,h4⟩|⟨b,off,rfl,rfl⟩
 . exact .inl ⟨rfl,rfl⟩
 . by_cases h0:cap=some 0/\rows.length=0
   . obtain ⟨rfl,h0⟩:=h0
     refine .inr (.inr ⟨b,off,by rw[h0],List.eq_nil_of_length_eq_zero h0⟩)
   . exact .inr (.inl ⟨b,off,cap,cs,rfl,hk b _ (by simp only[jR];rw[if_neg h0]) h1,h2,h3,h4⟩)
 . exact .inr (.inr ⟨b,off,rfl,rfl⟩)
theorem QS.lt {es:Nat} {s:St} {v:AV} {rows:List (List AV)} (h:QS es s v rows) (hw:Wf s) {b:Pos} (hb:jR v=some b):b.toNat<s.next.toNat:=by
 rcases h with ⟨rfl,rfl⟩|⟨b',off,cap,cs,rfl,h1,_⟩|⟨b',off,rfl,rfl⟩
 . cases hb
 . obtain rfl:=XE hb;exact hw _ _ h1
 . rw[zx] at hb;cases hb
theorem QS.first {es:Nat} {s:St} {v:AV} {rows:List (List AV)} (h:QS es s v rows) (hr: ∀r∈rows,r.length=es):gp es rows.length (fun b=>s.heap.get b) v=some rows.flatten:=by
 rcases h with ⟨rfl,rfl⟩|⟨b,off,cap,cs,rfl,h1,h2,h3,h4⟩|⟨b,off,rfl,rfl⟩
 . rfl
 rotate_left
 . simp[gp,jK]
 . by_cases h0:rows.length*es=0
   . simp only[gp,jK,decide_eq_true h0]
     have:rows.flatten=[]:=by rw[<-h3,h0];simp
     rw[this]
   . simp only[gp,jK,decide_eq_false h0,h1]
     unfold cut
     rw[gb,decide_eq_true h2]
     simp only
     rw[h3]
theorem QS.app {R:Type} {c:ai} {es bytes:Nat} {s:St} {v:AV} {rows:List (List AV)} (hw:Wf s) (h:QS es s v rows) (hr: ∀r∈rows,r.length=es) {q:Pos} {row:List AV} (hq:s.heap.get q=some (.cells row 0)) (fO:row.length=es) (h1:cS row=true)
   (gq:es≠0) (hb:(2*(rows.length+1)+768)*bytes<=281474976710656) (hn:rows.length<=4000000):
   ∃ s5,(∀(K:AV->St->Option R),af c (.append es bytes) [v,.slice q 0 1 (some 1) es] s K=K (.slice s.next 0 (rows.length+1) none es) s5)/\QS es s5 (.slice s.next 0 (rows.length+1) none es) (rows++[row])/\
     Wf s5/\s5.next=s.next.succ/\(∀p,jR v≠some p->p.toNat<s.next.toNat->s5.heap.get p=s.heap.get p)/\s5.heap.get s.next=some (.cells (rows.flatten++row) 0):=by
 have hx:gp es 1 (fun b=>s.heap.get b) (.slice q 0 1 (some 1) es)=some row:=by
   simp only[gp,jK,Nat.one_mul,decide_eq_false gq,hq]
   exact fB fO
 have ho:=h.first hr
 have hlen:rows.flatten.length=rows.length*es:=by
   clear h ho hn hb
   induction rows with
   |nil=>simp
   | cons r rows ih=>
     have:=ih (fun x hx=>hr x (List.mem_cons_of_mem _ hx))
     have h2:=hr r (by simp)
     simp only[List.flatten_cons,List.length_append,List.length_cons,Nat.succ_mul];omega
 have new: ∀(s5:St),s5.heap.get s.next=some (.cells (rows.flatten++row) 0)->QS es s5 (.slice s.next 0 (rows.length+1) none es) (rows++[row]):=fun s5 hs=>by
   refine .inr (.inl ⟨s.next,0,none,rows.flatten++row,by simp,hs,?_,?_,.inl rfl⟩)
   . simp only[List.length_append,List.length_cons,List.length_nil,Nat.zero_add,Nat.add_mul,Nat.one_mul,hlen,fO];omega
   . simp only[List.drop_zero,List.flatten_append,List.flatten_cons,List.flatten_nil,List.append_nil]
     refine List.take_of_length_le ?_
     simp only[List.length_append,List.length_cons,List.length_nil,Nat.zero_add,Nat.add_mul,Nat.one_mul,hlen,fO];omega
 have cE:(2*(rows.length+1)+768)*bytes<=281474976710656:=hb
 have hs2:rows.length+1<=9223372036854775807:=by omega
 rcases h with ⟨rfl,rfl⟩|⟨b,off,cap,cs,rfl,g1,g2,g3,g4⟩|⟨b,off,rfl,rfl⟩
 rotate_right
 . have run:aE.run (fun b=>s.heap.get b) s.next (.append es bytes) [.slice b off 0 (some 0) es,.slice q 0 1 (some 1) es]=some (.aI (.slice s.next 0 (0+1) none es) none none (some (.cells ([]++row) 0))):=by
     have h2: ¬(0+1<=0):=by omega
     have ho2:gp es 0 (fun b=>s.heap.get b) (.slice b off 0 (some 0) es)=some []:=by simp[gp,jK]
     simp only[aE.run,jX]
     rw[show iX (.slice b off 0 (some 0) es)=some 0 from rfl,show iX (.slice q 0 1 (some 1) es)=some 1 from rfl]
     have n6:(2*(0+1)+768)*bytes<=281474976710656:=by simpa using hb
     simp only[gb,jK,decide_eq_true n6,decide_eq_false h2,hx,ho2]
     simp
   refine ⟨au s (.cells row 0),fun K=> ?_,?_,eB hw,rfl,fun p _ hp=>nS hp,by simpa using aR s (.cells row 0)⟩
   . unfold af cU;simp only[List.length_nil] at run ⊢; rw[run];rfl
   . simpa using new (au s (.cells row 0)) (by simpa using aR s (.cells row 0))
 . refine ⟨au s (.cells row 0),fun K=>Z4 c K (m:=1) rfl (by omega) (by simpa using hb) (by omega) hx,?_,eB hw,rfl,fun p _ hp=>nS hp,by simpa using aR s (.cells row 0)⟩
   simpa using new (au s (.cells row 0)) (by simpa using aR s (.cells row 0))
 . rcases g4 with rfl|rfl
   . have run:aE.run (fun b=>s.heap.get b) s.next (.append es bytes) [.slice b off rows.length none es,.slice q 0 1 (some 1) es]=some (.aI (.slice s.next 0 (rows.length+1) none es) (some b) none (some (.cells (rows.flatten++row) (0 - off)))):=by
        simp only[aE.run,jX]
        rw[show iX (.slice b off rows.length none es)=some rows.length from rfl,show iX (.slice q 0 1 (some 1) es)=some 1 from rfl]
        simp only[gb,jK,decide_eq_true cE,decide_eq_true hs2,hx,g1,ho,h1]
        simp
     refine ⟨dst s b (.cells (rows.flatten++row) 0),fun K=> ?_,new _ (UF _ _ _),afV hw,rfl,fun p hp hl=>VN (fun e=>hp (by rw[e,zw])) hl,UF _ _ _⟩
     unfold af cU;rw[run];simp only[Nat.zero_sub];rfl
   . have h2: ¬(rows.length+1<=rows.length):=by omega
     have run:aE.run (fun b=>s.heap.get b) s.next (.append es bytes) [.slice b off rows.length (some rows.length) es,.slice q 0 1 (some 1) es]=some (.aI (.slice s.next 0 (rows.length+1) none es) none none (some (.cells (rows.flatten++row) 0))):=by
        simp only[aE.run,jX]
        rw[show iX (.slice b off rows.length (some rows.length) es)=some rows.length from rfl,show iX (.slice q 0 1 (some 1) es)=some 1 from rfl]
        simp only[gb,jK,decide_eq_true cE,decide_eq_true hs2,decide_eq_false h2,hx,ho]
     refine ⟨au s (.cells (rows.flatten++row) 0),fun K=> ?_,new _ (aR _ _),eB hw,rfl,fun p _ hp=>nS hp,aR _ _⟩
     unfold af cU;rw[run];rfl
theorem UI {R:Type} {c:ai} {es:Nat} {z:List AV} {x:AV} (hz:z.length=es) (hx:x.cells.length=es) (s:St) (K:AV->St->Option R):
  af c (.buildSlice es 1 z [0]) [x] s K=K (.slice s.next 0 1 (some 1) es) (au s (.cells x.cells 0)):=by
 have:dY (dG z 1) ([0].map fun i=>(i*es,es)) [x]=some x.cells:=by
  simp only[List.map_cons,List.map_nil,Nat.zero_mul,dG,List.append_nil,dY,jK,gb,hx,decide_true,Nat.zero_add,hz,Nat.le_refl]
  simp only[aV,List.take_zero,List.nil_append,Nat.zero_add]
  rw[List.drop_of_length_le (by omega),List.append_nil]
 rw[iZ,this];rfl
structure Mk (es:Nat) (s0 s:St) (v:AV) (rows:List (List AV)):Prop where
 OA:Wf s0
 vR:Grew s0 s
 own:QS es s v rows
 new: ∀b,jR v=some b->s0.next.toNat<=b.toNat
 row: ∀r∈rows,r.length=es
 cap: ∀b off n cp e,v= .slice b off n cp e->cp=none\/(n=0/\cp=some 0)
 tight: ∀b,jR v=some b->s.heap.get b=some (.cells rows.flatten 0)
theorem Mk.start {es:Nat} {s0 s:St} (h0:Wf s0) (hg:Grew s0 s):Mk es s0 s .aj []:=⟨h0,hg,QS.nil,fun b h=>(by cases h),fun r h=>(by cases h),fun b off n cp e h=>(by cases h),fun b h=>(by cases h)⟩
theorem Mk.push {R:Type} {c:ai} {es bytes:Nat} {s0 s:St} {v:AV} {rows:List (List AV)} (h:Mk es s0 s v rows) {z:List AV} {x:AV} (hz:z.length=es) (hx:x.cells.length=es) (h1:cS x.cells=true) (gq:es≠0)
   (hb:(2*(rows.length+1)+768)*bytes<=281474976710656) (hn:rows.length<=4000000):
   ∃ s5 v',(∀(K:AV->St->Option R),af c (.buildSlice es 1 z [0]) [x] s (fun y t=>af c (.append es bytes) [v,y] t K)=K v' s5)/\Mk es s0 s5 v' (rows++[x.cells])/\
     (∀p b,jR v≠some p->s.heap.get p=some b->s5.heap.get p=some b)/\ ∀b,jR v'=some b->s.next.toNat<=b.toNat:=by
 have hw:=h.vR.wf
 have cH:Wf (au s (.cells x.cells 0)):=eB hw
 have g1:=Grew.au hw (.cells x.cells 0)
 obtain ⟨s5,a1,a2,a3,a4,a5,a6⟩:=QS.app (R:=R) (c:=c) (bytes:=bytes) cH (h.own.mono fun b x _ hx=>g1.get hx) h.row (aR s (.cells x.cells 0)) hx h1 gq hb hn
 have keep: ∀p b,jR v≠some p->s.heap.get p=some b->s5.heap.get p=some b:=fun p b hp hg=>by
   have bI:=hw _ _ hg
   rw[a5 p hp (by rw[jQ,Pos.aG];omega)]
   exact g1.get hg
 refine ⟨s5,_,fun K=> ?_,⟨h.OA,⟨a3,fun p b hg=> ?_,?_⟩,a2,fun b hb=> ?_,fun r hr=> ?_,fun b off n cp e he=> ?_,fun b hb=> ?_⟩,keep,fun b hb=> ?_⟩
 . rw[UI hz hx,a1]
 . have lq:=h.vR.get hg
   refine keep p b (fun e=> ?_) lq
   have:=h.new p e
   have:=h.OA p b hg
   omega
 . have:=h.vR.next;rw[a4,jQ,Pos.aG,Pos.aG];omega
 . rw[zw] at hb;cases hb;have:=h.vR.next;rw[jQ,Pos.aG];omega
 . rcases List.mem_append.1 hr with hr|hr
   . exact h.row r hr
   . simp at hr;subst hr;exact hx
 . cases he;exact .inl rfl
 . rw[zw] at hb;cases hb;rw[a6];simp
 . rw[zw] at hb;cases hb;rw[jQ,Pos.aG];omega
theorem Db {b:Pos} {off n es:Nat} (h:Plain (.slice b off n none es)):False:=by
 have h1:aA (fun _=>⟨0,0,off+n*es⟩) (b.toNat+1) (fun _=>none) (.slice b off n none es) (.slice (some ⟨0,0+off,none⟩) n n):=
  .slice b off n none es n _ (Nat.le_refl _) (fun c hc=>by cases hc) (fun _=>⟨by omega,rfl,by simp⟩) (fun _=>by omega)
 have h2:=h _ (fun _=>⟨0,0,0⟩) _ 0 _ _ h1
 cases h2 with
 |slice _ _ _ _ _ _ _ _ _ _ hk=>exact absurd (hk rfl) (by omega)
theorem Mk.tidy {es:Nat} {s s':St} {v:AV} {rows:List (List AV)} (h:Mk es s s' v rows): ∃UJ,Go.Ai.tidy s (v,s')=(v,UJ)/\Mk es s UJ v rows:=by
 unfold Go.Ai.tidy
 by_cases hp:Plain (v,s').1/\cB s (v,s').2
 . rw[if_pos hp]
   refine ⟨s,rfl,?_⟩
   rcases h.own with ⟨rfl,rfl⟩|⟨b,off,cap,cs,rfl,_⟩|⟨b,off,rfl,rfl⟩
   . exact Mk.start h.OA (Grew.refl h.OA)
   . rcases h.cap _ _ _ _ _ rfl with rfl|⟨h0,rfl⟩
     . exact (Db hp.1).elim
     . exact ⟨h.OA,Grew.refl h.OA,.inr (.inr ⟨b,off,by rw[h0],List.eq_nil_of_length_eq_zero h0⟩),fun b hb=>(by rw[h0,zx] at hb;cases hb),h.row,h.cap,fun b hb=>(by rw[h0,zx] at hb;cases hb)⟩
   . exact ⟨h.OA,Grew.refl h.OA,.inr (.inr ⟨b,off,rfl,rfl⟩),fun b hb=>(by rw[zx] at hb;cases hb),h.row,h.cap,fun b hb=>(by rw[zx] at hb;cases hb)⟩
 . rw[if_neg hp];exact ⟨s',rfl,h⟩
end Go.Ai
end
section
namespace Go.Ai
open Go
theorem QS.eC {es d:Nat} {s:St} {v:AV} {rows:List (List AV)} (h:QS es s v rows) (hr: ∀r∈rows,r.length=es):
   ∃z,Go.Ai.eC s (d+1) v=ro es z (rows.map fun r=>r.map (Go.Ai.eC s d)):=by
 rcases h with ⟨rfl,rfl⟩|⟨b,off,cap,cs,rfl,h1,h2,h3,h4⟩|⟨b,off,rfl,rfl⟩
 . exact ⟨true,rfl⟩
 rotate_left
 . exact ⟨false,rfl⟩
 . refine ⟨false,?_⟩
   by_cases h0:rows.length=0
   . obtain rfl:=List.eq_nil_of_length_eq_zero h0
     rfl
   rw[nT,decide_eq_false h0]
   simp only
   rw[h1]
   simp only[decide_eq_true h2]
   show AV.fl _ _=AV.fl _ _
   congr 1
   refine List.ext_getElem (by simp) fun i p1 p2=> ?_
   simp only[List.length_map,List.length_range] at p1
   simp only[List.getElem_map,List.getElem_range]
   congr 1
   have key: ∀(rows:List (List AV)) (i:Nat) (hi:i<rows.length),(∀r∈rows,r.length=es)->((rows.flatten).drop (i*es)).take es=rows[i]:=by
     intro rows
     induction rows with
     |nil=>intro i hi;simp at hi
     |  cons r rows ih=>
        intro i hi hr
        have hl:=hr r (by simp)
        cases i with
        |zero=>simp[<-hl]
        |succ i=>
         have:=ih i (by simpa using hi) (fun x hx=>hr x (List.mem_cons_of_mem _ hx))
         rw[List.flatten_cons,Nat.succ_mul,Nat.add_comm, <-hl,List.drop_append]
         simp only[List.getElem_cons_succ]
         rw[<-this,hl]
         simp[List.drop_eq_nil_of_le (show r.length<=es+i*es by omega)]
   rw[<-key rows i p1 hr, <-h3]
   rw[List.drop_take,List.take_take,List.drop_drop]
   congr 1
   have:(i+1)*es<=rows.length*es:=Nat.mul_le_mul_right _ p1
   rw[Nat.succ_mul] at this
   omega
end Go.Ai
end
section
namespace Go.Ai
open Go
section
variable {R : Type} (c : ai) (K : AV -> St -> Option R) (st : St)
theorem BC {b:Pos} {off len es es':Nat} {cap:Option Nat} {k:IntKind} {i:Nat} (h:i<len):af c (.idxA es none) [.slice b off len cap es',.int k (i:Int)] st K=K (.ptr b (off+i*es)) st:=
 dm c K (fun H n=>by
  simp only[aE.run,uw,pO]
  have:Nat.blt i len=true:=by rw[Nat.blt_eq];exact h
  rw[this]) st
theorem BD (b:Pos) (off len es:Nat) (cap:Option Nat):af c (.lenB .l) [.slice b off len cap es] st K=K (.int .i64 (len:Int)) st:=dm c K (fun H n=>rfl) st
end
theorem Q2 {rows:List (List AV)} {es:Nat} (hr: ∀r∈rows,r.length=es): ∀(i j:Nat) (r:List AV) (u:AV),rows[i]? =some r->r[j]? =some u->rows.flatten[i*es+j]? =some u:=by
 induction rows with
 |nil=>intro i j r u h;simp at h
 |cons r0 rows ih=>
  intro i j r u h1 h2
  have hl:=hr r0 (by simp)
  cases i with
  |zero=>
   simp at h1;subst h1
   have:=(List.getElem?_eq_some_iff.1 h2).1
   rw[List.flatten_cons,Nat.zero_mul,Nat.zero_add,List.getElem?_append_left this];exact h2
  |succ i=>
   rw[List.flatten_cons,List.getElem?_append_right (by rw[Nat.succ_mul];omega)]
   rw[show (i+1)*es+j - r0.length=i*es+j by rw[Nat.succ_mul];omega]
   exact ih (fun x hx=>hr x (List.mem_cons_of_mem _ hx)) i j r u (by simpa using h1) h2
theorem QS.push {R:Type} {c:ai} {es bytes:Nat} {s:St} {v:AV} {rows:List (List AV)} (hw:Wf s) (h:QS es s v rows) (hr: ∀r∈rows,r.length=es) {z:List AV} {x:AV} (hz:z.length=es) (hx:x.cells.length=es) (h1:cS x.cells=true) (gq:es≠0)
   (hb:(2*(rows.length+1)+768)*bytes<=281474976710656) (hn:rows.length<=4000000):
   ∃s5 v',(∀(K:AV->St->Option R),af c (.buildSlice es 1 z [0]) [x] s (fun y t=>af c (.append es bytes) [v,y] t K)=K v' s5)/\QS es s5 v' (rows++[x.cells])/\Wf s5/\s.next.toNat<=s5.next.toNat/\
    (∀p b,jR v≠some p->s.heap.get p=some b->s5.heap.get p=some b)/\ ∀b,jR v'=some b->s.next.toNat<=b.toNat:=by
 have cH:Wf (au s (.cells x.cells 0)):=eB hw
 have g1:=Grew.au hw (.cells x.cells 0)
 obtain ⟨s5,a1,a2,a3,a4,a5,_⟩:=QS.app (R:=R) (c:=c) (bytes:=bytes) cH (h.mono fun b x _ hx=>g1.get hx) hr (aR s (.cells x.cells 0)) hx h1 gq hb hn
 refine ⟨s5,_,fun K=>by rw[UI hz hx,a1],a2,a3,by rw[a4,jQ,Pos.aG,Pos.aG];omega,fun p b hp hg=> ?_,fun b hb=> ?_⟩
 . have bI:=hw _ _ hg
   rw[a5 p hp (by rw[jQ,Pos.aG];omega)]
   exact g1.get hg
 . rw[zw] at hb;cases hb;rw[jQ,Pos.aG];omega
theorem QS.lenB {R:Type} {c:ai} {es:Nat} {s:St} {v:AV} {rows:List (List AV)} (h:QS es s v rows) (K:AV->St->Option R) (s1:St):af c (.lenB .l) [v] s1 K=K (.int .i64 (rows.length:Int)) s1:=by
 rcases h with ⟨rfl,rfl⟩|⟨b,off,cap,cs,rfl,_⟩|⟨b,off,rfl,rfl⟩
 . exact dm c K (fun H n=>rfl) s1
 . exact BD c K s1 _ _ _ _ _
 . exact BD c K s1 _ _ _ _ _
end Go.Ai
end
section
namespace Go.Ai
open Go
def oQ (v:AV):Prop:= ∃N0 K0:Nat,∀N K:Nat,N0<=N->K0<=K-> ∃x,aA (fun _=>⟨0,0,K⟩) N (fun _=>none) v x
theorem oQ.aj:oQ .aj:=⟨0,0,fun _ _ _ _=>⟨_,.aj⟩⟩
theorem oQ.slice (b:Pos) (off n es:Nat):oQ (.slice b off n none es):=⟨b.toNat+1,off+n*es,fun N K hN hK=>⟨.slice (some ⟨0,0+off,none⟩) n n,
 .slice b off n none es n _ (Nat.le_refl _) (fun c hc=>by cases hc) (fun _=>⟨by omega,rfl,by simpa using hK⟩) (fun _=>by omega)⟩⟩
theorem oQ.zero (b:Pos) (off es:Nat):oQ (.slice b off 0 (some 0) es):=⟨0,0,fun N K _ _=>⟨.slice (some ⟨0,0,none⟩) 0 0,
 .slice b off 0 (some 0) es 0 _ (Nat.le_refl _) (fun c hc=>by cases hc;rfl) (fun h=>absurd rfl h) (fun h=>by cases h)⟩⟩
theorem inst_list: ∀{l:List AV},(∀v∈l,oQ v)-> ∃N0 K0:Nat,∀N K:Nat,N0<=N->K0<=K-> ∃xs,az (fun _=>⟨0,0,K⟩) N (fun _=>none) l xs
 |[],_=>⟨0,0,fun _ _ _ _=>⟨[],az.nil⟩⟩
 |v::l,h=>by
  obtain ⟨N1,K1,h1⟩:=h v (by simp)
  obtain ⟨N2,K2,h2⟩:=inst_list (fun u hu=>h u (List.mem_cons_of_mem _ hu))
  refine ⟨max N1 N2,max K1 K2,fun N K hN hK=> ?_⟩
  obtain ⟨x,hx⟩:=h1 N K (by omega) (by omega)
  obtain ⟨xs,jx⟩:=h2 N K (by omega) (by omega)
  exact ⟨x::xs,az.cons hx jx⟩
theorem Mk.inst {es:Nat} {s s':St} {v:AV} {rows:List (List AV)} (h:Mk es s s' v rows):oQ v:=by
 rcases h.own with ⟨rfl,rfl⟩|⟨b,off,cap,cs,rfl,_⟩|⟨b,off,rfl,rfl⟩
 . exact oQ.aj
 . rcases h.cap _ _ _ _ _ rfl with rfl|⟨h0,rfl⟩
   . exact oQ.slice _ _ _ _
   . rw[h0];exact oQ.zero _ _ _
 . exact oQ.zero _ _ _
theorem Mk.cells {es:Nat} {s s':St} {v:AV} {rows:List (List AV)} (h:Mk es s s' v rows):v.cells=[v]/\cS [v]=true:=by
 rcases h.own with ⟨rfl,rfl⟩|⟨b,off,cap,cs,rfl,_⟩|⟨b,off,rfl,rfl⟩<;>exact ⟨rfl,rfl⟩
end Go.Ai
end
section
namespace Go.Ai
open Go
theorem VP {α:Type} (l:List α) (i:Nat) (h:i<l.length) (u:α):aV l i [u]=l.set i u:=by
 unfold aV
 rw[List.set_eq_take_append_cons_drop,if_pos h]
 simp
end Go.Ai
end
section
namespace Go.Ai
open Go
theorem XF {v:AV} (h:cS [v]=true):v.one=true:=by
 simp only[cS] at h
 split at h
 . assumption
 . cases h
end Go.Ai
end
section
namespace Go.Ai
open Go
section
variable {s0 s s' : St} {jb : Pos} {Ls : List AV} {R : List (List AV)} {I : List (AV × List (List AV))}
end
end Go.Ai
end
section
namespace Go.Ai
open Go
section
variable {s0 s s' : St} {jb : Pos} {Ls : List AV} {R : List (List AV)} {I : List (AV × List (List AV))}
end
end Go.Ai
end
section
namespace Go.Ai
open Go
theorem abM {R:Type} {z:List AV} {x:AV} (hz:z.length=1) (hx:x.cells=[x]) (s:St) (K:AV->AB->Option R):
  By (.buildSlice 1 1 z [0]) [x] s K=K (.slice s.next 0 1 (some 1) 1) (.cells [x] 0):=by
 have:dY (dG z 1) ([0].map fun i=>(i*1,1)) [x]=some [x]:=by
  simp only[List.map_cons,List.map_nil,Nat.zero_mul,dG,List.append_nil,dY,jK,gb,hx,decide_true,Nat.zero_add,hz,Nat.le_refl,List.length_cons,List.length_nil]
  simp only[aV,List.take_zero,List.nil_append,Nat.zero_add,List.length_cons,List.length_nil]
  rw[List.drop_of_length_le (by omega),List.append_nil]
 rw[Mp,this];rfl
section
variable {s0 s s' : St} {jb : Pos} {Ls : List AV} {R : List (List AV)} {I : List (AV × List (List AV))}
end
end Go.Ai
end
section
namespace Go.Ai
open Go
def emptyAt (s:St):St:={ heap:= .e,next:=s.next }
theorem w4 (s:St):Wf (emptyAt s):=fun p x h=>by
 have h:(T.e:T AB).get p=some x:=h
 rw[T.eE] at h;cases h
theorem w6 {call:ai} {f:FuncId} {d:Nat} {args:List AV} {s:St} {v:AV} (h:call f (args.map (eC s d)) (emptyAt s)=some (v,emptyAt s)) (hb:eZ v):Iz call f d args s=some (v,s):=Z7 h hb
end Go.Ai
end
section
noncomputable section
namespace Go.Ai
open Go
variable {R : Type} {c : ai}
theorem VQ (t:TypeId) (z:List AV) (st:St) (K:AV->St->Option R):af c (.allocT t z) [] st K=K (.ptr st.next 0) (au st (.typed t z)):=rfl
theorem Ms {st:St} {m:Nat} {p:Pos} {o:Nat} {v:AV} {t:TypeId} {cs:List AV} (h:st.heap.get p=some (.typed t cs)) (h1:v.cells.length=m) (h2:o+m<=cs.length) (h3:cS v.cells=true) (K:AV->St->Option R):
  af c (.store m) [.ptr p o,v] st K=K .undef (rP st p (.typed t (aV cs o v.cells))):=by
 have:aE.run (fun b=>st.heap.get b) st.next (.store m) [.ptr p o,v]=some (.aI .undef none (some (p,.typed t (aV cs o v.cells))) none):=by
  simp only[aE.run,ya,h,jK,gb,decide_eq_true h1,decide_eq_true h2,h3]
 unfold af cU;rw[this];rfl
theorem abN {st:St} {p:Pos} {o:Nat} {t:TypeId} {cs:List AV} (h:st.heap.get p=some (.typed t cs)) (ho:o<cs.length) (K:AV->St->Option R):af c .toU [.ptr p o] st K=K (.ptr p o) st:=by
 have:aE.run (fun b=>st.heap.get b) st.next .toU [.ptr p o]=some (.val (.ptr p o)):=by
  have:Nat.blt o cs.length=true:=by simpa using ho
  simp only[aE.run,HG,h,this]
 unfold af cU;rw[this]
theorem XG {st:St} {p:Pos} {t:TypeId} {n:Nat} {cs:List AV} (h:st.heap.get p=some (.typed t cs)) (hn:n<=cs.length) (K:AV->St->Option R):af c (.fromU t n) [.ptr p 0] st K=K (.ptr p 0) st:=by
 have:aE.run (fun b=>st.heap.get b) st.next (.fromU t n) [.ptr p 0]=some (.val (.ptr p 0)):=by
  simp only[aE.run,Be,h,jK,gb,decide_eq_true hn,decide_true]
 unfold af cU;rw[this]
abbrev wq (s:List Nat):List AV:=s.map fun c=> .int .u8 (.ofNat c)
theorem UK (s:List Nat):(wq s).length=s.length:=by simp
theorem XH {st:St} {e bytes:TypeId} {u:List Nat} (h1:(2*(0+u.length)+768)*bytes<=281474976710656) (h2:0+u.length<=9223372036854775807) (h0:u.length≠0) (K:AV->St->Option R):
  af c (.appendT e bytes) [.aj,.str u] st K=K (.slice st.next 0 (0+u.length) none 1) (au st (.typed e (wq u))):=by
 have:aE.run (fun b=>st.heap.get b) st.next (.appendT e bytes) [.aj,.str u]=some (.aI (.slice st.next 0 (0+u.length) none 1) none none (some (.typed e (wq u)))):=by
  simp only[aE.run,o6,gb,jK,decide_eq_true h1,decide_eq_true h2,decide_eq_false h0]
 unfold af cU;rw[this];rfl
theorem Z8 {st:St} {e bytes:TypeId} {b:Pos} {dJ u:List Nat} (h:st.heap.get b=some (.typed e (wq dJ))) (h1:(2*(dJ.length+u.length)+768)*bytes<=281474976710656) (h2:dJ.length+u.length<=9223372036854775807) (h0:u.length≠0) (K:AV->St->Option R):
  af c (.appendT e bytes) [.slice b 0 dJ.length none 1,.str u] st K=K (.slice st.next 0 (dJ.length+u.length) none 1) (st.aI (some b) none (some (.typed e (wq (dJ++u))))):=by
 have hcut:cut (wq dJ) 0 dJ.length=some (wq dJ):=fB (UK dJ)
 have:aE.run (fun b=>st.heap.get b) st.next (.appendT e bytes) [.slice b 0 dJ.length none 1,.str u]=some (.aI (.slice st.next 0 (dJ.length+u.length) none 1) (some b) none (some (.typed e (wq (dJ++u))))):=by
  simp only[aE.run,o6,gb,jK,decide_eq_true h1,decide_eq_true h2,decide_eq_false h0,h,decide_true,hcut]
  simp[wq]
 unfold af cU;rw[this]
theorem J9: ∀{s:List Nat},(∀x∈s,x<256)->bytesOf (wq s)=some s
 |[],_=>rfl
 |x::s,h=>by
  have h1:Nat.blt x 256=true:=by simpa using h x (by simp)
  have h2:=J9 (s:=s) fun y hy=>h y (List.mem_cons_of_mem _ hy)
  simp only[wq,List.map_cons,bytesOf,h1] at h2 ⊢
  rw[h2]
theorem O9 {b:Pos} {off n es:Nat} {cp:Option Nat} (h:n≠0) (K:AV->Option R):bg .sliceData [.slice b off n cp es] K=K (.ptr b off):=by
 have:aE.run (fun _=>none) .h .sliceData [.slice b off n cp es]=some (.val (.ptr b off)):=by
  simp only[aE.run,qi,jK,decide_eq_false h]
 unfold bg;rw[this]
theorem Np (K:AV->Option R):bg .sliceData [.aj] K=K .bq:=rfl
theorem Pa {st:St} {e:TypeId} {b:Pos} {s:List Nat} (h:st.heap.get b=some (.typed e (wq s))) (h0:s.length≠0) (hm:s.length<=9223372036854775807) (hs: ∀x∈s,x<256) (K:AV->St->Option R):
  af c (.unsafeStr e) [.ptr b 0,.int .i64 (s.length:Int)] st K=K (.str s) (st.aI (some b) none none):=by
 have hcut:cut (wq s) 0 s.length=some (wq s):=fB (UK s)
 have:aE.run (fun b=>st.heap.get b) st.next (.unsafeStr e) [.ptr b 0,.int .i64 (s.length:Int)]=some (.aI (.str s) (some b) none none):=by
  show mh (fun b=>st.heap.get b) st.next e [.ptr b 0,.int .i64 (.ofNat s.length)]=_
  simp only[mh,jK,gb,decide_eq_false h0,h,decide_true,hcut,decide_eq_true hm,J9 hs]
 unfold af cU;rw[this]
theorem Nq (e:TypeId) (st:St) (K:AV->St->Option R):af c (.unsafeStr e) [.bq,.int .i64 0] st K=K (.str []) st:=rfl
structure Wk (s:St) (v:AV) (s':St) (v':AV):Prop where
 wf:Wf s'
 next:s.next.toNat<=s'.next.toNat
 keep: ∀p b,jR v≠some p->s.heap.get p=some b->s'.heap.get p=some b
 new: ∀p,jR v'=some p->jR v=some p\/s.next.toNat<=p.toNat
theorem Wk.trans {s s1 s2:St} {v v1 v2:AV} (hw:Wf s) (h:Wk s v s1 v1) (k:Wk s1 v1 s2 v2):Wk s v s2 v2:=
 ⟨k.wf,Nat.le_trans h.next k.next,fun p b hp hb=>k.keep p b (fun e=>by
  rcases h.new p e with h1|h1
  . exact hp h1
  . have:=hw p b hb;omega) (h.keep p b hp hb),fun p hp=>by
  rcases k.new p hp with h1|h1
  . exact h.new p h1
  . exact .inr (Nat.le_trans h.next h1)⟩
theorem Wk.vR {s s1:St} {v:AV} (h:Grew s s1):Wk s v s1 v:=⟨h.wf,h.next,fun _ _ _ hb=>h.get hb,fun _ hp=> .inl hp⟩
theorem Wk.keeps {s s':St} {v:AV} (h:Wk s .aj s' v):cB s s':=fun b x hb=>h.keep b x (by simp[jR]) hb
theorem QS.PL {bytes:Nat} {s:St} {v:AV} {rows:List (List AV)} (hw:Wf s) (h:QS 1 s v rows) (hr: ∀r∈rows,r.length=1) {z:List AV} {x:AV} (hz:z.length=1) (hx:x.cells.length=1) (h1:cS x.cells=true)
  (hb:(2*(rows.length+1)+768)*bytes<=281474976710656) (hn:rows.length<=4000000):
  ∃s5 v',(∀(K:AV->St->Option R),af c (.buildSlice 1 1 z [0]) [x] s (fun y t=>af c (.append 1 bytes) [v,y] t K)=K v' s5)/\QS 1 s5 v' (rows++[x.cells])/\Wk s v s5 v':=by
 obtain ⟨s5,v',a1,a2,a3,a4,a5,a6⟩:=h.push (R:=R) (c:=c) (bytes:=bytes) hw hr hz hx h1 (by decide) hb hn
 exact ⟨s5,v',a1,a2,a3,a4,a5,fun p hp=> .inr (a6 p hp)⟩
end Go.Ai
end
section
namespace Go.Ai
open Go
section
variable {H : Type} (Ok : DataW H -> Prop) (enc : TypeId × Value -> H) (P : Program) (w : World) (base : Nat) (spare : Nat -> Bool) (held : Bool)
variable {Ok enc P w base spare held}
end
end Go.Ai
end
section
namespace Go.Ai
open Go Go.WideShapes
section
variable {H : Type} (enc : TypeId × Value -> H) (P : Program) (w : World) (base : Nat) (spare : Nat -> Bool) (held : Bool)
variable {enc P w base spare held}
end
end Go.Ai
end
section
namespace Go.Ai
open Go
section
variable {c : ai} {R : Type}
theorem Z9 {H:Pos->Option AB} {n:Pos} {k:IntKind} {a b:Int} (h1:0<=a) (h2:0<b):aE.run H n (.bin .rem .num) [.int k a,.int k b]=some (.val (.int k (a % b))):=by
 have e0:qW b 0=false:=by rw[jr,beq_eq_false_iff_ne];omega
 have e1:a.tmod b=a % b:=Int.tmod_eq_emod_of_nonneg h1
 simp only[aE.run,iH,n8,dK,e0,e1]
theorem aaa {H:Pos->Option AB} {n:Pos} {a b:Int} (h1:0<=a) (h3:a<=9223372036854775807) (h2:0<b):aE.run H n (.bin .quo .num) [.int .i64 a,.int .i64 b]=some (.val (.int .i64 (a / b))):=by
 have e0:qW b 0=false:=by rw[jr,beq_eq_false_iff_ne];omega
 have e1:a.tdiv b=a / b:=Int.tdiv_eq_ediv_of_nonneg h1
 have e3:0<=a / b:=Int.ediv_nonneg h1 (by omega)
 have e4:a / b<=a:=Int.ediv_le_self b h1
 have e2:aY .i64 (a / b)=a / b:=wrap64 (by omega) (by omega)
 simp only[aE.run,iH,n8,dK,e0,e1,e2]
theorem FN {k:IntKind} {a b:Int} (h1:0<=a) (h2:0<b) (s:St) (K:AV->St->Option R):af c (.bin .rem .num) [.int k a,.int k b] s K=K (.int k (a % b)) s:=dm c K (fun H n=>Z9 h1 h2) s
theorem FO {a b:Int} (h1:0<=a) (h3:a<=9223372036854775807) (h2:0<b) (s:St) (K:AV->St->Option R):af c (.bin .quo .num) [.int .i64 a,.int .i64 b] s K=K (.int .i64 (a / b)) s:=dm c K (fun H n=>aaa h1 h3 h2) s
end
end Go.Ai
end
section
namespace Go.Ai
open Go
end Go.Ai
end
section
namespace Go.Ai
open Go Go.WideShapes
theorem zy {P :Program} {C:Cells} {f:FuncId} {call:ai} {d:Nat} (fZ: ∀C':Cells,(∀ad u,C ad=some u->C' ad=some u)->(∀a v,C a=some v-> ∀o,C ⟨a.block,o,none⟩=none->C' ⟨a.block,o,none⟩=none)->j0 P C' call):mS P C f (Iz call f d) where
 mono args st v st' h:=by
  unfold Iz at h
  split at h
  . split at h
    .   rename_i hs
        simp only[Option.some.injEq,Prod.mk.injEq] at h
        rw[<-h.2];exact hs.2
    .   cases h
  . cases h
 runs ρ st  w args v st' bu h hW hv:=by
  unfold Iz at h
  split at h
  . rename_i v1 cm hc
    split at h
    .   rename_i hs
        simp only[Option.some.injEq,Prod.mk.injEq] at h
        obtain ⟨rfl,rfl⟩:=h
        obtain ⟨s1,s3⟩:=hs
        have hr:=fZ (fun ad=>w.cell? ad) (fun ad u ha=>(hW.dc ad u ha).1) (fun a v ha o ho=>hW.whole a v ha o ho) ρ { heap:= .e,next:=st.next } w f _ v1 cm bu hc (tJ (fun ad u ha=>ha) fun a u _ o ho=>ho) (az.eC hW d hv)
        refine Reaches.mono (fun x w' he=> ?_) hr
        . obtain ⟨ρ',h1,h2,h3,h4,hE⟩:=he
          have un: ∀k,k<w.heap.size->w'.heap[k]? =w.heap[k]? :=fun k hk=>hE.block k hk fun b x hb=>by rw[T.eE] at hb;cases hb
          have new: ∀b x,cm.heap.get b=some x->w.heap.size<=(ρ' b).aF:=fun b x hx=>by
            rcases hE.uO b x hx with ⟨b',x',gV,_⟩|hh
            . rw[T.eE] at gV;cases gV
            . exact hh
          have both: ∀b x,(T.both st.heap (Jq cm.heap)).get b=some x->(st.heap.get b=some x/\ρ' b=ρ b)\/(cm.heap.get b=some x/\Mr x):=fun b x hx=>by
            rw[T.KJ] at hx
            cases hg:st.heap.get b with
            |none=>rw[hg] at hx;exact .inr (XD (by simpa using hx))
            |some y=>rw[hg] at hx;simp at hx;subst hx;exact .inl ⟨rfl,h2 b (hW.live b y hg).1⟩
          refine ⟨ρ',s1 _ _ _ _ _ h1,h2,s3,⟨fun b x hx=> ?_,fun b b' x x' hx C6 kS=> ?_,fun a u ha=> ?_,fun a u ha o ho=> ?_⟩,⟨hE.os,hE.tape,hE.output,hE.size,fun k hk _=>un k hk,fun b x hx=> ?_⟩⟩
          . rcases both b x hx with ⟨hg,aU⟩|⟨hg,PM⟩
            . obtain ⟨l1,l2,l3⟩:=hW.live b x hg
              refine ⟨Nat.lt_of_lt_of_le l1 s3,by rw[aU];exact Nat.lt_of_lt_of_le l2 hE.size,?_⟩
              rw[aU]
              exact (l3.of_heap (un _ l2)).mono h2 s3
            . obtain ⟨l1,l2,l3⟩:=h4.live b x hg
              exact ⟨l1,l2,PM.rel l3⟩
          . rcases both b x hx with ⟨hg,aU⟩|⟨hg,PM⟩
            . rcases both b' x' C6 with ⟨wP,ym⟩|⟨wP,_⟩
              . rw[aU,ym] at kS;exact hW.inj b b' x x' hg wP kS
              . have q1:=(hW.live b x hg).2.1;have q2:=new b' x' wP;rw[aU] at kS;omega
            . rcases both b' x' C6 with ⟨wP,ym⟩|⟨wP,_⟩
              . have q1:=(hW.live b' x' wP).2.1;have q2:=new b x hg;rw[ym] at kS;omega
              . exact h4.inj b b' x x' hg wP kS
          . obtain ⟨c1,c2⟩:=hW.dc a u ha
            have bI:a.block<w.heap.size:=World.block_lt_of_cell? _ _ c1
            refine ⟨(h4.dc a u c1).1,fun b x hx=> ?_⟩
            rcases both b x hx with ⟨hg,aU⟩|⟨hg,PM⟩
            . rw[aU];exact c2 b x hg
            . have:=new b x hg;omega
          . have bI:a.block<w.heap.size:=World.block_lt_of_cell? _ _ (hW.dc a u ha).1
            rw[World.cell?_of_block (w:=w) (a:=⟨a.block,o,none⟩) (un _ bI)]
            exact hW.whole a u ha o ho
          . rcases both b x hx with ⟨hg,aU⟩|⟨hg,PM⟩
            . exact .inl ⟨b,x,hg,by rw[aU]⟩
            . exact .inr (new b x hg)
    .   cases h
  . cases h
section
variable {H : Type} {enc : TypeId × Value -> H} {P : Program} {w : World} {base : Nat} {spare : Nat -> Bool} {held : Bool}
end
end Go.Ai
end
section
namespace Go.Ai
open Go
theorem oQ.Mt (b:Pos) (off n es:Nat):oQ (.slice b off n (some n) es):=⟨b.toNat+1,off+n*es,fun N K hN hK=>⟨.slice (some ⟨0,0+off,none⟩) n n,
 .slice b off n (some n) es n _ (Nat.le_refl _) (fun c hc=>by cases hc;rfl) (fun _=>⟨by omega,rfl,by simpa using hK⟩) (fun h=>by cases h)⟩⟩
theorem Nr {l:List AV} (hi: ∀v∈l,oQ v) {b:Pos} {off n es:Nat} (hn:n≠0) (hm:AV.slice b off n (some n) es∈l): ¬Plain (.agg l):=fun h=>by
 obtain ⟨N0,K0,h1⟩:=inst_list hi
 obtain ⟨xs,hx⟩:=h1 N0 K0 (Nat.le_refl _) (Nat.le_refl _)
 have h2:aA (fun _=>⟨0,0,K0⟩) N0 (fun _=>none) (.agg l) (.agg xs.toArray):= .agg l _ (by rw[hx.1];simp) fun i v x hv C6=>hx.2 i v x hv (by simpa using C6)
 have h3:=h _ (fun _=>⟨0,0,0⟩) _ 0 _ _ h2
 obtain ⟨i,bI,hi⟩:=List.mem_iff_getElem.1 hm
 cases h3 with
 |agg _ _ hl hc=>
  have hlt2:i<xs.toArray.size:=by rw[<-hl];exact bI
  obtain ⟨y,hy⟩: ∃y,xs.toArray[i]? =some y:=⟨_,Array.getElem?_eq_getElem hlt2⟩
  have:=hc i _ y (by rw[List.getElem?_eq_getElem bI,hi]) hy
  cases this with
  |slice _ _ _ _ _ aL _ _ tD ha _=>
   have e:=tD n rfl
   subst e
   exact absurd (ha hn).1 (by omega)
end Go.Ai
end
section
namespace Go.Ai
open Go
def DK (A:List AV) (r:AV):List AV->St->Option (AV×St):=fun args st=>match u0 args A with
 |true=>some (r,st)
 |false=>none
theorem XI {P:Program} {C:Cells} {O:eW} {G:T aM} {m d f:Nat} {A:List AV} {r:AV} (fZ:j0 P C (nF O G m d)) (ha: ∀a∈A,Plain a) (hr:Plain r)
   (h:vt (R:=Bool) false O G m d f A { heap:= .e,next:= .h } (fun v _=>fN v r)=true):mS P C f (DK A r):=by
 rw[yo false O G m d] at h
 unfold sy at h
 split at h<;>first|(cases h;done)|skip
 rename_i x hx
 obtain ⟨v,cm⟩:=x
 have h1:=tH h
 subst h1
 have Ow: ∀args st v' st',DK A v args st=some (v',st')->args=A/\v'=v/\st'=st:=by
   intro args st v' st' hs
   unfold DK at hs
   split at hs<;>first|(cases hs;done)|skip
   rename_i hc
   simp only[Option.some.injEq,Prod.mk.injEq] at hs
   exact ⟨zq hc,hs.1.symm,hs.2.symm⟩
 refine ⟨fun args st v' st' hs=> ?_,fun ρ st w args v' st' bu hs hW hv=> ?_⟩
 . obtain ⟨_,_,rfl⟩:=Ow _ _ _ _ hs
   exact Nat.le_refl _
 . obtain ⟨rfl,rfl,rfl⟩:=Ow _ _ _ _ hs
   have wj:az ρ (Pos.h).toNat C args bu:=⟨hv.1,fun i u y hu hy=>ha u (List.mem_of_getElem? hu) _ _ _ _ _ _ (hv.2 i u y hu hy)⟩
   refine Reaches.mono (fun x w' hp=> ?_) (fZ ρ { heap:= .e,next:= .h } w f args _ cm bu hx (tJ (fun ad u hu=>(hW.dc ad u hu).1) hW.whole) wj)
   obtain ⟨ρ',k1,k2,k3,k4,hE⟩:=hp
   have un: ∀k,k<w.heap.size->w'.heap[k]? =w.heap[k]? :=fun k hk=>hE.block k hk fun b x hb=>by rw[T.eE] at hb;cases hb
   refine ⟨ρ,hr _ _ _ _ _ _ k1,fun _ _=>rfl,Nat.le_refl _,⟨fun b x hb=> ?_,hW.inj,fun a u hu=>⟨(k4.dc a u hu).1,(hW.dc a u hu).2⟩,k4.whole⟩,⟨hE.os,hE.tape,hE.output,hE.size,fun k hk _=>un k hk,fun b x hb=> .inl ⟨b,x,hb,rfl⟩⟩⟩
   obtain ⟨l1,l2,l3⟩:=hW.live b x hb
   exact ⟨l1,Nat.lt_of_lt_of_le l2 hE.size,l3.of_heap (un _ l2)⟩
end Go.Ai
end
section
namespace Go.Ai
open Go
theorem Plain.fp {xs:List (List AV)} {i j:Nat} (hl: ∀cs∈xs,∀v∈cs,Plain v):Plain (.fp xs i j):=fun _ _ _ _ _ _ h=>by
 cases h with
 |fp _ _ _ es aF base cell h1 h2 h3=>exact .fp xs i j es aF base cell h1 h2 fun a b cs v ha hb=>hl cs (List.mem_of_getElem? ha) v (List.mem_of_getElem? hb) _ _ _ _ _ _ (h3 a b cs v ha hb)
noncomputable def pP (d:Nat) (As:List (List AV)) (r:AV):List AV->St->Option (AV×St):=fun args st=>open Classical in if args.map (eC st d)∈As then some (r,st) else none
theorem yu {d:Nat} {As:List (List AV)} {r:AV} {args:List AV} {st:St} (A:List AV) (hA:A∈As) (h:args.map (eC st d)=A):pP d As r args st=some (r,st):=by
 unfold pP
 rw[h,if_pos hA]
theorem XJ {P:Program} {C:Cells} {O:eW} {G:T aM} {m n f d:Nat} {As:List (List AV)} {r:AV} (fZ: ∀C:Cells,j0 P C (nF O G m n)) (ha: ∀A∈As,∀a∈A,Plain a) (hr:Plain r) (hb:eZ r)
   (h:(As.all fun A=>vt (R:=Bool) false O G m n f A { heap:= .e,next:= .h } (fun v _=>fN v r))=true):mS P C f (pP d As r):=by
 have Ow: ∀args st v' st',pP d As r args st=some (v',st')->v'=r/\st'=st/\(args.map (eC st d))∈As:=by
   intro args st v' st' hs
   unfold pP at hs
   split at hs<;>first|(cases hs;done)|skip
   rename_i hc
   simp only[Option.some.injEq,Prod.mk.injEq] at hs
   exact ⟨hs.1.symm,hs.2.symm,hc⟩
 refine ⟨fun args st v' st' hs=> ?_,fun ρ st w args v' st' bu hs hW hv=> ?_⟩
 . obtain ⟨_,rfl,_⟩:=Ow _ _ _ _ hs
   exact Nat.le_refl _
 . obtain ⟨rfl,rfl,hA⟩:=Ow _ _ _ _ hs
   have hk:=List.all_eq_true.1 h _ hA
   rw[yo false O G m n] at hk
   unfold sy at hk
   split at hk<;>first|(cases hk;done)|skip
   rename_i x hx
   obtain ⟨v,cm⟩:=x
   have h1:=tH hk
   subst h1
   have LB:=az.eC hW d hv
   have wj:az ρ (Pos.h).toNat (fun ad=>w.cell? ad) (args.map (eC st' d)) bu:=⟨LB.1,fun i u y hu hy=>ha _ hA u (List.mem_of_getElem? hu) _ _ _ _ _ _ (LB.2 i u y hu hy)⟩
   refine Reaches.mono (fun x w' hp=> ?_) (fZ (fun ad=>w.cell? ad) ρ { heap:= .e,next:= .h } w f _ _ cm bu hx (tJ (fun ad u hu=>hu) fun a u _ o ho=>ho) wj)
   obtain ⟨ρ',k1,k2,k3,k4,hE⟩:=hp
   have un: ∀k,k<w.heap.size->w'.heap[k]? =w.heap[k]? :=fun k hk=>hE.block k hk fun b x hb=>by rw[T.eE] at hb;cases hb
   refine ⟨ρ,hb _ _ _ _ _ (hr _ _ _ _ _ _ k1),fun _ _=>rfl,Nat.le_refl _,⟨fun b x hb=> ?_,hW.inj,fun a u hu=> ?_,fun a u hu o ho=> ?_⟩,⟨hE.os,hE.tape,hE.output,hE.size,fun k hk _=>un k hk,fun b x hb=> .inl ⟨b,x,hb,rfl⟩⟩⟩
   . obtain ⟨l1,l2,l3⟩:=hW.live b x hb
     exact ⟨l1,Nat.lt_of_lt_of_le l2 hE.size,l3.of_heap (un _ l2)⟩
   . obtain ⟨c1,c2⟩:=hW.dc a u hu
     exact ⟨(k4.dc a u c1).1,c2⟩
   . have bI:a.block<w.heap.size:=World.block_lt_of_cell? _ _ (hW.dc a u hu).1
     rw[World.cell?_of_block (w:=w) (a:=⟨a.block,o,none⟩) (un _ bI)]
     exact hW.whole a u hu o ho
end Go.Ai
end
