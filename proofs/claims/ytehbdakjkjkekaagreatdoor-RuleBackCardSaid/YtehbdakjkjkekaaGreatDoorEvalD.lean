/- The evaluator's calls answer as the model's calls do, on every tape. -/
import Derived.Test.YtehbdakjkjkekaaGreatDoorEvalC
import Derived.Orders
import Derived.Test.YtehbdakjkjkekaaGreatDoorEvalA
import Derived.Laws.Externs
import Derived.Lib.Bytealg
import Derived.KernelRfl
set_option linter.all false
set_option linter.unusedSectionVars false
set_option linter.deprecated false
section
namespace Go.Ai
open Go Go.RowKit
theorem vI {a b:AV} (h:kH a b=true):a=b:=by
 unfold kH at h
 split at h<;>(try simp only[Bool.and_eq_true,Bool.false_eq_true] at h)<;>try rfl
 . rw[beq_iff_eq.1 h]
 . rename_i k i k' i'
   have h2:=h.2;rw[gR] at h2
   rw[qV h.1,beq_iff_eq.1 h2]
 . rw[fU.1 h]
 . rw[Pos.beq_eq.1 h.1,Nat.eq_of_beq_eq_true h.2]
 . obtain ⟨⟨⟨h1,h2⟩,h3⟩,h4⟩:=h
   rw[Pos.beq_eq.1 h1,Nat.eq_of_beq_eq_true h2,Nat.eq_of_beq_eq_true h3,Nat.eq_of_beq_eq_true h4]
 . obtain ⟨⟨⟨⟨h1,h2⟩,h3⟩,h4⟩,h5⟩:=h
   rw[Pos.beq_eq.1 h1,Nat.eq_of_beq_eq_true h2,Nat.eq_of_beq_eq_true h3,Nat.eq_of_beq_eq_true h4,Nat.eq_of_beq_eq_true h5]
 . rw[Pos.beq_eq.1 h]
theorem yV: ∀{a b:List AV},qD a b=true->a=b
 |[],[],_=>rfl
 |[],_::_,h=>by simp[qD] at h
 |_::_,[],h=>by simp[qD] at h
 |a::x,b::y,h=>by
  simp only[qD,Bool.and_eq_true] at h
  rw[vI h.1,yV h.2]
theorem L6 {f:AV->AV->Bool} (hf: ∀{a b},f a b=true->a=b): ∀{a b:List AV},EH f a b=true->a=b
 |[],[],_=>rfl
 |[],_::_,h=>by simp[EH] at h
 |_::_,[],h=>by simp[EH] at h
 |a::x,b::y,h=>by
  simp only[EH,Bool.and_eq_true] at h
  rw[hf h.1,L6 hf h.2]
theorem HE {f:AV->AV->Bool} (hf: ∀{a b},f a b=true->a=b): ∀{a b:List (List AV)},vO f a b=true->a=b
 |[],[],_=>rfl
 |[],_::_,h=>by simp[vO] at h
 |_::_,[],h=>by simp[vO] at h
 |a::x,b::y,h=>by
  simp only[vO,Bool.and_eq_true] at h
  rw[L6 hf h.1,HE hf h.2]
theorem L7: ∀{d:Nat} {a b:AV},He d a b=true->a=b
 |0,_,_,h=>by unfold He at h;exact vI h
 |d +1,a,b,h=>by
  unfold He at h
  split at h
  . rename_i heq;cases heq
    simp only[Bool.and_eq_true] at h
    rw[HE (fun h=>L7 h) h.1,Nat.eq_of_beq_eq_true h.2]
  . exact vI h
theorem HF {a b:AV} (h:qU a b=true):a=b:=by
 unfold qU at h
 split at h
 . simp only[Bool.and_eq_true] at h
   rw[Nat.eq_of_beq_eq_true h.1.1,yV h.1.2,yV h.2]
 . exact L7 h
 . exact vI h
theorem tY: ∀{a b:List AV},oQ a b=true->a=b
 |[],[],_=>rfl
 |[],_::_,h=>by simp[oQ] at h
 |_::_,[],h=>by simp[oQ] at h
 |a::x,b::y,h=>by
  simp only[oQ,Bool.and_eq_true] at h
  rw[HF h.1,tY h.2]
theorem tH {a b:AV} (h:ki a b=true):a=b:=by
 unfold ki at h
 split at h
 . rw[tY h]
 . rw[tY h]
 . exact HF h
theorem U9 {k: aB} {H H':Pos->Option AB} {n n':Pos} {xs:List AV} {v:AV} (h:k.run H n xs=some (.val v)) (hm: ∀b x,H b=some x->H' b=some x):
  k.run H' n' xs=some (.val v):=by
 cases k<;>simp only[aB.run] at h ⊢ <;>try exact h
 case alloc z=>unfold Bh at h;split at h<;>cases h
 case box=>unfold G8 at h;split at h<;>cases h
 case buildSlice es len z p=>unfold oq at h;dsimp only at h;split at h<;>cases h
 case mkMap=>unfold Bk at h;cases h
 case mkSlice es b z=>
  unfold vE at h
  repeat' split at h
  all_goals cases h
 case rangeS=>
  unfold xU at h
  repeat' split at h
  all_goals cases h
 case store m=>
  unfold tj at h
  repeat' split at h
  all_goals cases h
 case mapSet pk=>
  unfold uk at h
  repeat' split at h
  all_goals cases h
 case load m=>
  unfold pq at h ⊢
  split at h<;>first|(cases h;done)|skip
  split at h<;>first|(cases h;done)|skip
  . split at h<;>first|(cases h;done)|skip
    .   rename_i cs fz hb
        simp only[hm _ _ hb]
        exact h
    .   rename_i t0 cs hb
        simp only[hm _ _ hb]
        exact h
  . exact h
 case conv c=>
  unfold qQ at h ⊢
  split at h<;>first|(cases h;done)|skip
  split at h<;>first|(cases h;done)|exact h|skip
  rename_i b off m _ _
  cases hb:Nat.beq m 0 with
  |true=>simp only[hb] at h ⊢; exact h
  | false=>
    simp only[hb] at h ⊢
    cases hH:H b with
    |none=>simp[hH] at h
    |some x=>simp only[hH] at h;simp only[hm _ _ hH];exact h
 case lookup pk z ok=>
  unfold uj at h ⊢
  split at h<;>first|(cases h;done)|skip
  rename_i m k'
  cases m<;>try exact h
  rename_i b
  cases hb:H b with
  |none=>simp[hb] at h
  | some x=>
    simp only[hb] at h
    simp only[hm _ _ hb]
    exact h
 case lenB lk=>
  unfold zA at h ⊢
  split at h<;>first|(cases h;done)|skip
  split at h<;>first|(cases h;done)|exact h|skip
  split at h<;>first|(cases h;done)|skip
  rename_i es c hb
  simp only[hm _ _ hb]
  exact h
 case nextS=>
  unfold Bl at h ⊢
  split at h<;>first|(cases h;done)|skip
  split at h<;>first|(cases h;done)|skip
  split at h<;>first|(cases h;done)|skip
  rename_i s pos hb
  simp only[hm _ _ hb]
  split at h
  . rename_i aZ
    split at h<;>cases h
  . rename_i aZ
    exact h
 case allocT t z=>
  unfold xV at h
  split at h<;>cases h
 case appendT e bytes=>
  unfold lO at h ⊢
  split at h<;>first|(cases h;done)|skip
  split at h<;>first|(cases h;done)|skip
  split at h<;>first|(cases h;done)|skip
  . split at h<;>first|(cases h;done)|skip
    split at h<;>first|(cases h;done)|exact h
  . split at h<;>first|(cases h;done)|skip
    split at h
    .   exact h
    .   repeat' split at h
        all_goals cases h
 case toU=>
  unfold Dl at h ⊢
  split at h<;>first|(cases h;done)|skip
  split at h<;>first|(cases h;done)|exact h|skip
  split at h<;>first|(cases h;done)|skip
  rename_i t0 cs hb
  simp only[hm _ _ hb]
  exact h
 case fromU u m=>
  unfold wj at h ⊢
  split at h<;>first|(cases h;done)|skip
  split at h<;>first|(cases h;done)|exact h|skip
  split at h<;>first|(cases h;done)|skip
  rename_i t0 cs hb
  simp only[hm _ _ hb]
  exact h
 case unsafeStr e=>
  unfold jx at h ⊢
  split at h<;>first|(cases h;done)|skip
  split at h<;>first|(cases h;done)|skip
  split at h
  . exact h
  . repeat' split at h
    all_goals cases h
 case clearS es z=>
  unfold qR at h ⊢
  split at h<;>first|(cases h;done)|skip
  split at h<;>first|(cases h;done)|exact h|skip
  rename_i b off m _ _
  cases hb:Nat.beq m 0 with
  |true=>simp only[hb] at h ⊢; exact h
  | false=>
    simp only[hb] at h
    repeat' split at h
    all_goals cases h
 case copyB es=>
  unfold tq at h ⊢
  split at h<;>first|(cases h;done)|skip
  rename_i d x
  cases hd:fH d with
  |none=>simp[hd] at h
  | some m1=>
    cases hx:fH x with
    |none=>simp[hd,hx] at h
    |   some m2=>
        simp only[hd,hx] at h ⊢
        cases hb:Nat.beq (min m2 m1) 0 with
        |true=>simp only[hb] at h ⊢; exact h
        |false=>
         simp only[hb] at h
         split at h<;>first|(cases h;done)|skip
         split at h<;>first|(cases h;done)|skip
         split at h<;>cases h
 case append es bytes=>
  unfold gW at h ⊢
  split at h<;>first|(cases h;done)|skip
  rename_i s x
  cases hd:fH s with
  |none=>simp[hd] at h
  | some m1  =>
    cases hx:fH x with
    |none=>simp[hd,hx] at h
    |   some m2=>
        simp only[hd,hx] at h ⊢
        cases h1:Nat.ble ((2*(m1+m2)+768)*bytes) 281474976710656 with
        |false=>simp[h1] at h
        |true=>
         cases h2:Nat.ble (m1+m2) 9223372036854775807 with
         |false=>simp[h1,h2] at h
         |  true=>
            simp only[h1,h2] at h ⊢
            cases hb:Nat.beq m2 0 with
            |true=>
             simp only[hb] at h ⊢
             split at h<;>first|(cases h;done)|exact h|skip
             all_goals (simp_all;done)
            |false=>
             simp only[hb] at h
             repeat' split at h
             all_goals first
               |(rename_i e;cases e;done)
               |(rename_i e _;cases e;done)
               |(cases h;done)
               |simp_all
inductive qI (n:Pos):AV->AB->Prop where
 |ptr (cs:List AV):qI n (.ptr n 0) (.cells cs 0)
 |iK (s:List Nat):qI n (.ptr n 0) (.iK s 0)
 |slice (len es:Nat) (cap:Option Nat) (cs:List AV) (h:len=0->cap=none\/cap=some 0->cs=[]):qI n (.slice n 0 len cap es) (.cells cs 0)
 |map:qI n (.map n) (.map [] 0)
 |ptrT (t:TypeId) (cs:List AV):qI n (.ptr n 0) (.typed t cs)
 |Sn (len:Nat) (t:TypeId) (cs:List AV) (h:len≠0):qI n (.slice n 0 len none 1) (.typed t cs)
theorem JV: ∀{ps:List (Nat×Nat)} {xs cs:List AV},fk [] ps xs=some cs->cs=[]
 |[],[],cs,h=>by simp[fk] at h;exact h.symm ▸rfl
 |[],_::_,cs,h=>by simp[fk] at h
 |_::_,[],cs,h=>by simp[fk] at h
 |(off,size)::ps,v::vs,cs,h=>by
  unfold fk at h
  split at h<;>first|(cases h;done)|skip
  rename_i h1 h2
  have h1:=Nat.eq_of_beq_eq_true h1
  have h2:=Nat.le_of_ble_eq_true h2
  have h3:v.cells=[]:=by
   apply List.eq_nil_of_length_eq_zero
   simp at h2;omega
  rw[h3] at h
  have h4:aO ([]:List AV) off []=[]:=by simp[aO]
  rw[h4] at h
  exact JV h
theorem YU {k: aB} {n:Pos} {xs:List AV} {v:AV} {aA:AB} (h:k.run (fun _=>none) n xs=some (.aE v none none (some aA))):qI n v aA:=by
 cases k<;>simp only[aB.run] at h
 case alloc z=>unfold Bh at h;split at h<;>cases h;exact .ptr _
 case allocT t z=>unfold xV at h;split at h<;>cases h;exact .ptrT _ _
 case appendT e bytes=>
  unfold lO at h
  split at h<;>first|(cases h;done)|skip
  split at h<;>first|(cases h;done)|skip
  split at h<;>first|(cases h;done)|skip
  . split at h<;>first|(cases h;done)|skip
    split at h<;>cases h
    rename_i hb
    exact .Sn _ _ _ (by have:=Nat.ne_of_beq_eq_false hb;omega)
  . split at h<;>first|(cases h;done)|skip
    repeat' split at h
    all_goals cases h
 case toU=>  unfold Dl at h;repeat' split at h
             all_goals cases h
 case fromU=>  unfold wj at h;repeat' split at h
               all_goals cases h
 case sliceData=>  unfold mR at h;repeat' split at h
                   all_goals cases h
 case unsafeStr=>  unfold jx at h;repeat' split at h
                   all_goals cases h
 case box=>unfold G8 at h;split at h<;>cases h;exact .ptr _
 case buildSlice es len z p=>
  unfold oq at h
  dsimp only at h
  split at h<;>cases h
  rename_i cs hc
  refine .slice _ _ _ _ fun h0 _=> ?_
  subst h0
  exact JV hc
 case mkMap=>unfold Bk at h;cases h;exact .map
 case mkSlice es b z=>
  unfold vE at h
  repeat' split at h
  all_goals cases h
  refine .slice _ _ _ _ fun _ h1=> ?_
  rcases h1 with h1|h1
  . cases h1
  . simp only[Option.some.injEq] at h1;subst h1;rfl
 case rangeS=>
  unfold xU at h
  repeat' split at h
  all_goals cases h
  exact .iK _
 case conv c=>
  unfold qQ at h
  repeat' split at h
  all_goals cases h
  rename_i s
  refine .slice _ _ _ _ fun h0 _=> ?_
  rw[List.eq_nil_of_length_eq_zero h0];rfl
 case append es bytes=>
  unfold gW at h
  repeat' split at h
  all_goals cases h
  all_goals refine .slice _ _ _ _ fun h0 _=> ?_
  all_goals (exfalso;rename_i hb _ _;simp_all)
 case move=>unfold EF at h;split at h<;>cases h
 case pick=>  unfold I9 at h;repeat' split at h
              all_goals cases h
 case build=>unfold Bi at h;dsimp only at h;split at h<;>cases h
 case load=>  unfold pq at h;repeat' split at h
              all_goals cases h
 case store=>  unfold tj at h;repeat' split at h
               all_goals cases h
 case nilCheck=>  unfold yR at h;repeat' split at h
                  all_goals cases h
 case bin=>  unfold gD at h;repeat' split at h
             all_goals cases h
 case un=>unfold PV at h;repeat' split at h
          all_goals cases h
 case mkIface=>  unfold Bj at h;repeat' split at h
                 all_goals cases h
 case mkFunc=>unfold Dj at h;dsimp only at h;cases h
 case lookup=>
  unfold uj at h
  split at h<;>first|(cases h;done)|skip
  dsimp only at h
  split at h<;>cases h
 case mapSet=>  unfold uk at h;repeat' split at h
                all_goals cases h
 case sliceS=>
  unfold xT at h
  split at h<;>first|(cases h;done)|skip
  split at h<;>first|(cases h;done)|skip
  dsimp only at h
  split at h<;>cases h
 case sliceL=>  unfold oP at h;repeat' split at h
                all_goals cases h
 case fieldA=>  unfold Dk at h;repeat' split at h
                all_goals cases h
 case idxA=>  unfold pz at h;repeat' split at h
              all_goals cases h
 case field=>  unfold F1 at h;repeat' split at h
               all_goals cases h
 case idxS=>  unfold EG at h;repeat' split at h
              all_goals cases h
 case extract=>  unfold vF at h;repeat' split at h
                 all_goals cases h
 case callF=>unfold F2 at h;dsimp only at h;cases h
 case callV=>  unfold F3 at h;repeat' split at h
               all_goals cases h
 case lenB=>  unfold zA at h;repeat' split at h
              all_goals cases h
 case copyB=>
  unfold tq at h
  split at h<;>first|(cases h;done)|skip
  split at h<;>first|(cases h;done)|skip
  dsimp only at h
  repeat' split at h
  all_goals cases h
 case minB=>  unfold zB at h;repeat' split at h
              all_goals cases h
 case maxB=>  unfold zC at h;repeat' split at h
              all_goals cases h
 case clearS=>  unfold qR at h;repeat' split at h
                all_goals cases h
 case nextS=>  unfold Bl at h;repeat' split at h
               all_goals cases h
 case capB=>cases h
 case bad=>cases h
end Go.Ai
end
section
namespace Go.Ai
def jS (call:ak):Prop:= ∀f args st v st',call f args st=some (v,st')->st.next.toNat<=st'.next.toNat
section
variable {call : ak}
theorem BD (hm:jS call) {k:aB} {xs:List AV} {st st':St} {v:AV} (h:bS call k xs st=some (v,st')):st.next.toNat<=st'.next.toNat:=by
 unfold bS at h
 split at h
 . simp only[Option.some.injEq,Prod.mk.injEq] at h;rw[h.2];exact Nat.le_refl _
 . simp only[Option.some.injEq,Prod.mk.injEq] at h;rw[<-h.2];exact St.tG _ _ _ _
 . exact hm _ _ _ _ _ h
 . cases h
theorem Dx (hm:jS call): ∀(os:List bE) (fr aU:Fr) (st st':St),iw call os fr st=some (aU,st')->st.next.toNat<=st'.next.toNat
 |[],fr,aU,st,st',h=>by simp only[iw,Option.some.injEq,Prod.mk.injEq] at h;rw[h.2];exact Nat.le_refl _
 |o ::os,fr,aU,st,st',h=>by
  unfold iw at h
  split at h
  . split at h<;>first|(cases h;done)|skip
    split at h<;>first|(cases h;done)|skip
    rename_i hs
    exact Nat.le_trans (BD hm hs) (Dx hm os _ _ _ _ h)
  . exact Dx hm os _ _ _ _ h
  . cases h
theorem pG (hm:jS call): ∀(os:List (Nat×bE)) (recs:List Rec) (base:T AB) (fr aU:Fr) (st st':St),cH call os recs base fr st=some (aU,st')->st.next.toNat<=st'.next.toNat
 |[],recs,base,fr,aU,st,st',h=>by simp only[cH,Option.some.injEq,Prod.mk.injEq] at h;rw[h.2];exact Nat.le_refl _
 |(j,   o)::os,recs,base,fr,aU,st,st',h=>by
  have hs:st.next.toNat<=st.next.succ.toNat:=by rw[Pos.az];omega
  unfold cH at h
  split at h
  . exact pG hm os _ _ _ _ _ _ h
  . split at h<;>first|(cases h;done)|skip
    split at h
    .   split at h<;>first|(cases h;done)|skip
        exact Nat.le_trans hs (pG hm os _ _ _ _ _ _ h)
    .   split at h<;>first|(cases h;done)|skip
        rename_i hs
        exact Nat.le_trans (BD hm hs) (pG hm os _ _ _ _ _ _ h)
    .   split at h
        . exact pG hm os _ _ _ _ _ _ h
        . split at h<;>first|(cases h;done)|skip
          split at h<;>first|(cases h;done)|skip
          exact pG hm os _ _ _ _ _ _ h
  . cases h
theorem yd (hm:jS call): ∀(m:Nat) (c:AC) (fr aU:Fr) (st st':St) (ex:lQ),exec call m c fr st=some (ex,aU,st')->st.next.toNat<=st'.next.toNat
 |0,c,fr,aU,st,st',ex,h=>by simp[exec] at h
 |m +   1,c,fr,aU,st,st',ex,h=>by
  have ih:=yd hm m
  simp only[exec] at h
  unfold aQ at h
  split at h
  . simp only[Option.some.injEq,Prod.mk.injEq] at h;rw[h.2.2];exact Nat.le_refl _
  . split at h<;>first|(cases h;done)|skip
    rename_i hs
    simp only[Option.some.injEq,Prod.mk.injEq] at h
    rw[<-h.2.2];exact Dx hm _ _ _ _ _ hs
  . split at h<;>first|(cases h;done)|skip
    rename_i hs
    simp only[Option.some.injEq,Prod.mk.injEq] at h
    rw[<-h.2.2];exact pG hm _ _ _ _ _ _ _ hs
  . split at h
    .   rename_i hs
        exact Nat.le_trans (ih _ _ _ _ _ _ hs) (ih _ _ _ _ _ _ h)
    .   exact ih _ _ _ _ _ _ h
  . split at h<;>first|(cases h;done)|exact ih _ _ _ _ _ _ h
  . split at h
    .   rename_i hs
        split at h<;>(simp only[Option.some.injEq,Prod.mk.injEq] at h;rw[<-h.2.2];exact ih _ _ _ _ _ _ hs)
    .   exact ih _ _ _ _ _ _ h
  . split at h
    .   rename_i hs
        exact Nat.le_trans (ih _ _ _ _ _ _ hs) (ih _ _ _ _ _ _ h)
    .   exact ih _ _ _ _ _ _ h
  . simp only[Option.some.injEq,Prod.mk.injEq] at h;rw[h.2.2];exact Nat.le_refl _
  . simp only[Option.some.injEq,Prod.mk.injEq] at h;rw[h.2.2];exact Nat.le_refl _
def ji (O:eE):Prop:= ∀f s,O f=some s-> ∀args st v st',s args st=some (v,st')->st.next.toNat<=st'.next.toNat
theorem vJ {O:eE} {G:T aN} (hO:ji O) (m:Nat): ∀d,jS (lR O G m d)
 |0=>fun f args st v st' h=>by simp[lR] at h
 |d +   1=>fun f args st v st' h=>by
  have ih:=vJ (G:=G) hO m d
  unfold lR at h
  split at h
  . rename_i s hs;exact hO f s hs args st v st' h
  . split at h<;>first|(cases h;done)|skip
    split at h<;>first|(cases h;done)|skip
    split at h<;>first|(cases h;done)|skip
    .   rename_i hs
        split at h<;>first|(cases h;done)|skip
        simp only[Option.some.injEq,Prod.mk.injEq] at h
        rw[<-h.2];exact yd ih _ _ _ _ _ _ _ hs
    .   rename_i hs
        split at h<;>first|(cases h;done)|skip
        simp only[Option.some.injEq,Prod.mk.injEq] at h
        rw[<-h.2];exact yd ih _ _ _ _ _ _ _ hs
end
end Go.Ai
end
section
namespace Go.Ai
def kO (bN:Fr):List Rec->Fr
 |[]=>bN
 |r::R=>cJ (kO bN R) r.o.dst r.v
def cQ (n0:Pos):List Rec->Pos
 |[]=>n0
 |r::_=>r.nx
def RC.kq:RC->Bool
 | .aE _ _=>true
 |_=>false
def gZ (h0:T AB):List Rec->T AB
 |[]=>h0
 |  r::R=>match r.c with
    | .aE _ h=>h
    |_=>gZ h0 R
def ia (h0:T AB):List Rec->T AB
 |[]=>h0
 |  r::R=>match r.c with
    | .aE _ h=>h
    | .new id aA=>(ia h0 R).put (some aA) id
    | .pure=>ia h0 R
def ye:List Rec->Prop
 |[]=>True
 |r::_=>r.c.kq=true
def L8 (h0:T AB) (R:List Rec) (o:bE) (xs:List AV) (v:AV):Prop:=
 ∀  A B,R=A++B->ye B->(∀r∈A,r.c.kq=true->o.bG.testBit r.idx=false)->
    ∃h:T AB,(∀b x,h.get b=some x->(gZ h0 B).get b=some x\/ ∃r∈A,r.c= .new b x/\o.bG.testBit r.idx=true)/\o.k.run (fun b=>h.get b) .h xs=some (.val v)
inductive mU (call:ak) (bN:Fr) (h0:T AB) (n0:Pos):Rec->List Rec->Prop where
 |skip (i:Nat) (o:bE) (R:List Rec) (hw:bI (kO bN R) o.guard=some false):
  mU call bN h0 n0 { idx:=i,o:=o,v:= .undef,c:= .pure,nx:=cQ n0 R } R
 |pure (i:Nat) (o:bE) (v:AV) (xs:List AV) (R:List Rec) (hw:bI (kO bN R) o.guard=some true) (hx:dK (kO bN R) o.xs=some xs) (hr:L8 h0 R o xs v):
  mU call bN h0 n0 { idx:=i,o:=o,v:=v,c:= .pure,nx:=cQ n0 R } R
 |new (i:Nat) (o:bE) (v:AV) (aA:AB) (xs:List AV) (R:List Rec) (hw:bI (kO bN R) o.guard=some true) (hx:dK (kO bN R) o.xs=some xs)
  (hr:o.k.run (fun _=>none) (cQ n0 R) xs=some (.aE v none none (some aA))):
  mU call bN h0 n0 { idx:=i,o:=o,v:=v,c:= .new (cQ n0 R) aA,nx:=(cQ n0 R).succ } R
 |aE (i:Nat) (o:bE) (v:AV) (st':St) (xs:List AV) (R:List Rec) (hc:o.cls= .aE) (hw:bI (kO bN R) o.guard=some true) (hx:dK (kO bN R) o.xs=some xs)
  (hr:bS call o.k xs { heap:=ia h0 R,next:=cQ n0 R }=some (v,st')):
  mU call bN h0 n0 { idx:=i,o:=o,v:=v,c:= .aE (gZ h0 R) st'.heap,nx:=st'.next } R
def Good (call:ak) (bN:Fr) (h0:T AB) (n0:Pos):List Rec->Prop
 |[]=>True
 |r::R=>mU call bN h0 n0 r R/\Good call bN h0 n0 R
section
variable {call : ak} {bN : Fr} {h0 : T AB} {n0 : Pos}
theorem Good.tail: ∀{A B:List Rec},Good call bN h0 n0 (A++B)->Good call bN h0 n0 B
 |[],_,h=>h
 |_::_,_,h=>Good.tail h.2
theorem Good.at {A B:List Rec} {r:Rec} (h:Good call bN h0 n0 (A++r::B)):mU call bN h0 n0 r B:=(Good.tail h).1
theorem BE: ∀{A B:List Rec},(∀r∈A,r.c.kq=false)->gZ h0 (A++B)=gZ h0 B
 |[],_,_=>rfl
 |r::A,B,h=>by
  have h1:=h r (List.mem_cons_self ..)
  have ih:=BE (A:=A) (B:=B) fun r hr=>h r (List.mem_cons_of_mem _ hr)
  simp only[List.cons_append,gZ]
  split
  . rename_i hc;rw[hc] at h1;cases h1
  . exact ih
theorem Gc {bG:Nat}: ∀{A B:List Rec} {h:T AB} {b:Pos} {x:AB},(∀r∈A,r.c.kq=false)->ye B->(snap bG h (A++B)).get b=some x->
  h.get b=some x\/ ∃r∈A,r.c= .new b x/\bG.testBit r.idx=true
 |[],B,h,b,x,_,hB,hs=>by
  cases B with
  |nil=>exact .inl hs
  | cons r B=>
    simp only[ye] at hB
    simp only[List.nil_append,snap] at hs
    cases hc:r.c<;>rw[hc] at hB<;>first|(cases hB;done)|skip
    rw[hc] at hs
    exact .inl hs
 |r ::A   ,B,h,b,x,hA,hB,hs=>by
  have ih:= @Gc bG A B h b x (fun r hr=>hA r (List.mem_cons_of_mem _ hr)) hB
  have up:(h.get b=some x\/ ∃r∈A,r.c= .new b x/\bG.testBit r.idx=true)->h.get b=some x\/ ∃r'∈r::A,r'.c= .new b x/\bG.testBit r'.idx=true:=fun h1=>
    h1.imp id fun ⟨r',h2,h3⟩=>⟨r',List.mem_cons_of_mem _ h2,h3⟩
  simp only[List.cons_append,snap] at hs
  cases hc:r.c with
  |pure=>rw[hc] at hs;exact up (ih hs)
  |aE b1 h1=>have:=hA r (List.mem_cons_self ..);rw[hc] at this;cases this
  | new   id aA=>
    rw[hc] at hs
    cases ht:bG.testBit r.idx with
    |false=>simp only[ht] at hs;exact up (ih hs)
    |   true=>
        simp only[ht] at hs
        by_cases hid:id=b
        . subst hid
          rw[T.dZ] at hs
          simp only[Option.some.injEq] at hs;subst hs
          exact .inr ⟨r,List.mem_cons_self ..,hc,ht⟩
        . rw[T.bq _ hid] at hs
          exact up (ih hs)
theorem JW: ∀{up:List (Pos×AB)} {h:T AB} {b:Pos} {x:AB},(fo up h).get b=some x->h.get b=some x\/(b,x)∈up
 |[],_,_,_,h=> .inl h
 |(id,aA)::up,h,b,x,hs=>by
  unfold fo at hs
  by_cases hid:id=b
  . subst hid
    rw[T.dZ] at hs
    simp only[Option.some.injEq] at hs;subst hs
    exact .inr (List.mem_cons_self ..)
  . rw[T.bq _ hid] at hs
    exact (JW hs).imp (fun h=>h) fun h=>List.mem_cons_of_mem _ h
theorem BF: ∀(A:List Rec),(∀r∈A,r.c.kq=false)\/ ∃r∈A,r.c.kq=true
 |[]=> .inl fun r h=>by cases h
 |r::A=>by
  cases hr:r.c.kq with
  |true=>exact .inr ⟨r,List.mem_cons_self ..,hr⟩
  |false=>
   rcases BF A with h|⟨r',h1,h2⟩
   . exact .inl fun r' jB=>by
      rcases List.mem_cons.1 jB with rfl|h'
      . exact hr
      . exact h r' h'
   . exact .inr ⟨r',List.mem_cons_of_mem _ h1,h2⟩
theorem CO {bG:Nat} {k:aB} {xs:List AV} {v:AV}: ∀(A B:List Rec) (up:List (Pos×AB)),iV bG k xs v up (A++B)=true->Good call bN h0 n0 (A++B)->ye B->
  (∀r∈A,r.c.kq=true->bG.testBit r.idx=false)->(∃r∈A,r.c.kq=true)->
  ∃h:T AB,(∀b x,h.get b=some x->(gZ h0 B).get b=some x\/(∃r∈A,r.c= .new b x/\bG.testBit r.idx=true)\/(b,x)∈up)/\k.run (fun b=>h.get b) .h xs=some (.val v)
 |[],B,up,_,_,_,_,he=>by obtain ⟨r,hr,_⟩:=he;cases hr
 |r::A    , B,up,yf,hG,hB,hn,he=>by
  have O0: ∀r∈A,r.c.kq=true->bG.testBit r.idx=false:=fun r' jB=>hn r' (List.mem_cons_of_mem _ jB)
  have ih:=fun up (h2:iV bG k xs v up (A++B)=true) h3=>CO A B up h2 hG.2 hB O0 h3
  simp only[List.cons_append,iV] at yf
  cases hc:r.c with
  |pure=>
   rw[hc] at yf
   have kJ: ∃r∈A,r.c.kq=true:=by
        obtain ⟨r',h1,h2⟩:=he
        rcases List.mem_cons.1 h1 with rfl|h1
        . rw[hc] at h2;cases h2
        . exact ⟨r',h1,h2⟩
   obtain ⟨h,h1,h2⟩:=ih up yf kJ
   exact ⟨h,fun b x hb=>(h1 b x hb).imp (fun h=>h) (Or.imp (fun ⟨r',h3,h4⟩=>⟨r',List.mem_cons_of_mem _ h3,h4⟩) fun h=>h),h2⟩
  |new    id aA=>
   rw[hc] at yf
   have kJ: ∃r∈A,r.c.kq=true:=by
        obtain ⟨r',h1,h2⟩:=he
        rcases List.mem_cons.1 h1 with rfl|h1
        . rw[hc] at h2;cases h2
        . exact ⟨r',h1,h2⟩
   cases ht:bG.testBit r.idx with
   |    false=>
        simp only[ht] at yf
        obtain ⟨h,h1,h2⟩:=ih up yf kJ
        exact ⟨h,fun b x hb=>(h1 b x hb).imp (fun h=>h) (Or.imp (fun ⟨r',h3,h4⟩=>⟨r',List.mem_cons_of_mem _ h3,h4⟩) fun h=>h),h2⟩
   |    true=>
        simp only[ht] at yf
        obtain ⟨h,h1,h2⟩:=ih _ yf kJ
        refine ⟨h,fun b x hb=> ?_,h2⟩
        rcases h1 b x hb with h3|⟨r',h3,h4⟩|h3
        . exact .inl h3
        . exact .inr (.inl ⟨r',List.mem_cons_of_mem _ h3,h4⟩)
        . rcases List.mem_cons.1 h3 with h3|h3
          . simp only[Prod.mk.injEq] at h3
            obtain ⟨rfl,rfl⟩:=h3
            exact .inr (.inl ⟨r,List.mem_cons_self ..,hc,ht⟩)
          . exact .inr (.inr h3)
  |aE base h=>
   rw[hc] at yf
   have ht:=hn r (List.mem_cons_self ..) (by rw[hc];rfl)
   simp only[ht,Bool.and_eq_true] at yf
   rcases BF A with hA|hA
   .    have Le:base=gZ h0 B:=by
          have hs:=hG.1
          cases hs<;>simp only at hc<;>first|(cases hc;done)|skip
          simp only[RC.aE.injEq] at hc
          rw[<-hc.1];exact BE hA
        have XN:=yf.1
        unfold fL at XN
        split at XN<;>first|(cases XN;done)|skip
        rename_i u hu
        rw[tH XN] at hu
        refine ⟨_,fun b x hb=> ?_,hu⟩
        rcases JW hb with hb|hb
        . rcases Gc hA hB hb with h3|⟨r',h3,h4⟩
          . rw[<-Le];exact .inl h3
          . exact .inr (.inl ⟨r',List.mem_cons_of_mem _ h3,h4⟩)
        . exact .inr (.inr hb)
   .    obtain ⟨h,h1,h2⟩:=ih up yf.2 hA
        exact ⟨h,fun b x hb=>(h1 b x hb).imp (fun h=>h) (Or.imp (fun ⟨r',h3,h4⟩=>⟨r',List.mem_cons_of_mem _ h3,h4⟩) fun h=>h),h2⟩
theorem HG: ∀(L:List (Nat×bE)) (R:List Rec) (fr aU:Fr) (st st':St),cH call L R (gZ h0 R) fr st=some (aU,st')->Good call bN h0 n0 R->
  fr=kO bN R->st.heap=ia h0 R->st.next=cQ n0 R->
  ∃R',Good call bN h0 n0 (R'++R)/\(R'.map fun r=>(r.idx,r.o))=L.reverse/\aU=kO bN (R'++R)/\st'.heap=ia h0 (R'++R)/\st'.next=cQ n0 (R'++R)
 |[],R,fr,aU,st,st',h,hG,h1,h2,h3=>by
  simp only[cH,Option.some.injEq,Prod.mk.injEq] at h
  obtain ⟨rfl,rfl⟩:=h
  exact ⟨[],hG,rfl,h1,h2,h3⟩
 |(j,   o)::  L,R,fr,aU,st,st',h,hG,h1,h2,h3=>by
  have fin: ∀(r:Rec) (bu:St) (fe:Fr),r.idx=j->r.o=o->mU call bN h0 n0 r R->fe=kO bN (r::R)->bu.heap=ia h0 (r::R)->bu.next=r.nx->
        cH call L (r::R) (gZ h0 (r::R)) fe bu=some (aU,st')->
        ∃R',Good call bN h0 n0 (R'++R)/\(R'.map fun r=>(r.idx,r.o))=((j,o)::L).reverse/\aU=kO bN (R'++R)/\st'.heap=ia h0 (R'++R)/\st'.next=cQ n0 (R'++R):=by
    intro r bu fe hj ho hs k1 k2 k3 hd
    obtain ⟨R',g1,g2,g3,g4,g5⟩:=HG L (r::R) fe aU bu st' hd ⟨hs,hG⟩ k1 k2 k3
    have e:R'++r::R=(R'++[r])++R:=by simp
    rw[e] at g1 g3 g4 g5
    exact ⟨R'++[r],g1,by simp[g2,hj,ho],g3,g4,g5⟩
  unfold cH at h
  subst h1
  split at h
  . rename_i hw
    exact fin _ _ _ rfl rfl (h3 ▸mU.skip j o R hw) rfl h2 rfl h
  . rename_i hw
    split at h<;>first|(cases h;done)|skip
    rename_i xs hx
    split at h
    .   split at h<;>first|(cases h;done)|skip
        rename_i v aA hr
        rw[h3] at hr
        have hs:=mU.new (call:=call) (bN:=bN) (h0:=h0) (n0:=n0) j o v aA xs R hw hx hr
        rw[<-h3] at hs
        refine fin _ _ _ rfl rfl hs rfl ?_ rfl h
        simp only[ia,h2]
    .   rename_i Va
        split at h<;>first|(cases h;done)|skip
        rename_i v bu hr
        have iR:st={ heap:=ia h0 R,next:=cQ n0 R }:=by cases st;simp_all
        rw[iR] at hr
        exact fin _ bu _ rfl rfl (mU.aE j o v bu xs R Va hw hx hr) rfl rfl rfl h
    .   split at h
        . rename_i v hr
          have JX:L8 h0 R o xs v:=by
           intro A B _ _ _
           refine ⟨.e,fun b x hb=> ?_,?_⟩
           .  rw[T.cG] at hb;cases hb
           .  have e:(fun b=>T.get b (T.e:T AB))=fun _=>none:=by funext b;exact T.cG b
              rw[e];exact hr
          exact fin _ _ _ rfl rfl (h3 ▸mU.pure j o v xs R hw hx JX) rfl h2 rfl h
        . split at h<;>first|(cases h;done)|skip
          rename_i v hr
          split at h<;>first|(cases h;done)|skip
          rename_i yf
          have JX:L8 h0 R o xs v:=by
           intro A B hAB hB hn
           subst hAB
           rcases BF A with hA|hA
           .  refine ⟨_,fun b x hb=> ?_,hr⟩
              have:=Gc hA hB hb
              rw[BE hA] at this
              exact this
           .  obtain ⟨h,k1,k2⟩:=CO A B [] yf hG hB hn hA
              exact ⟨h,fun b x hb=>(k1 b x hb).imp id fun h=>h.resolve_right (by simp),k2⟩
          exact fin _ _ _ rfl rfl (h3 ▸mU.pure j o v xs R hw hx JX) rfl h2 rfl h
  . cases h
end
end Go.Ai
end
section
namespace Go.Ai
open Go
structure Late (m:Nat) (pre:List Nat) (L:List (Nat×bE)):Prop where
 all: ∀i,i<m->i∈pre\/i∈L.map (·.1)
 lt: ∀x∈L,x.1<m
 one: ∀A i o B,L=A++(i,o)::B->i∉pre/\i∉A.map (·.1)
 bG: ∀A i o B,L=A++(i,o)::B-> ∀b,o.bG.testBit b=true->b∈pre\/b∈A.map (·.1)
 aE: ∀A i o B,L=A++(i,o)::B->o.cls= .aE-> ∀b,(b∈pre\/b∈A.map (·.1))->o.bG.testBit b=true
 apart: ∀A i o B,L=A++(i,o)::B-> ∀x∈B,x.2.bG.testBit i=true\/Dm o x.2=true
theorem FB {m:Nat}: ∀(L:List (Nat×bE)) (seen:Nat) (pre:List Nat),zF m seen L=true->(∀b,seen.testBit b=true↔b∈pre)->Late m pre L
 |[],seen,pre,h,hs=>by
  simp only[zF] at h
  have:=Nat.eq_of_beq_eq_true h
  refine ⟨fun i hi=> .inl ((hs i).1 ?_),fun x hx=>(by cases hx),fun A i o B h=> ?_,fun A i o B h=> ?_,fun A i o B h=> ?_,fun A i o B h=> ?_⟩
  . rw[this,Nat.testBit_two_pow_sub_one];simpa using hi
  all_goals (cases A<;>cases h)
 |(i,   o)::L,seen,pre,h,hs=>by
  simp only[zF,Bool.and_eq_true] at h
  obtain ⟨⟨⟨⟨⟨h1,h2⟩,h3⟩,h4⟩,h5⟩,h6⟩:=h
  have h1:i<m:=Nat.le_of_ble_eq_true h1
  have h2:i∉pre:=fun hp=>by rw[(hs i).2 hp] at h2;cases h2
  have h3:=Nat.eq_of_beq_eq_true h3
  have hb: ∀b,o.bG.testBit b=true->b∈pre:=fun b hb=>by
    rw[<-h3,Nat.testBit_and,Bool.and_eq_true] at hb
    exact (hs b).1 hb.2
  have he:o.cls= .aE-> ∀b,b∈pre->o.bG.testBit b=true:=fun hc b hp=>by
    rw[hc] at h4
    rw[Nat.eq_of_beq_eq_true h4];exact (hs b).2 hp
  have ih:=FB L (seen ||| 2 ^ i) (pre++[i]) h6 (fun b=>by
    rw[Nat.testBit_or,Nat.testBit_two_pow,Bool.or_eq_true,hs b,List.mem_append]
    simp[eq_comm])
  rw[List.all_eq_true] at h5
  have ES: ∀{A:List (Nat×bE)} {j:Nat} {p:bE} {B:List (Nat×bE)},(i,o)::L=A++(j,p)::B->(A=[]/\i=j/\o=p/\L=B)\/ ∃A',A=(i,o)::A'/\L=A'++(j,p)::B:=by
    intro A j p B hA
    cases A with
    |nil=>simp at hA;exact .inl ⟨rfl,hA.1.1,hA.1.2,hA.2⟩
    |cons x A=>simp at hA;exact .inr ⟨A,by rw[hA.1],hA.2⟩
  refine ⟨fun j hj=> ?_,fun x hx=> ?_,fun A j p B hA=> ?_,fun A j p B hA=> ?_,fun A j p B hA=> ?_,fun A j p B hA=> ?_⟩
  . rcases ih.all j hj with h|h
    .   rcases List.mem_append.1 h with h|h
        . exact .inl h
        . simp at h;exact .inr (by simp[h])
    .   exact .inr (by simp only[List.map_cons,List.mem_cons];exact .inr h)
  . rcases List.mem_cons.1 hx with rfl|hx
    .   exact h1
    .   exact ih.lt x hx
  . rcases ES hA with ⟨rfl,rfl,rfl,rfl⟩|⟨A',rfl,CP⟩
    .   exact ⟨h2,by simp⟩
    .   obtain ⟨k1,k2⟩:=ih.one A' j p B CP
        simp only[List.mem_append,List.mem_singleton,not_or] at k1
        exact ⟨k1.1,by simp only[List.map_cons,List.mem_cons,not_or];exact ⟨k1.2,k2⟩⟩
  . rcases ES hA with ⟨rfl,rfl,rfl,rfl⟩|⟨A',rfl,CP⟩
    .   exact fun b iQ=> .inl (hb b iQ)
    .   intro b iQ
        rcases ih.bG A' j p B CP b iQ with h|h
        . rcases List.mem_append.1 h with h|h
          . exact .inl h
          . simp at h;exact .inr (by simp[h])
        . exact .inr (by simp only[List.map_cons,List.mem_cons];exact .inr h)
  . rcases ES hA with ⟨rfl,rfl,rfl,rfl⟩|⟨A',rfl,CP⟩
    .   intro hc b iQ
        rcases iQ with h|h
        . exact he hc b h
        . simp at h
    .   intro hc b iQ
        refine ih.aE A' j p B CP hc b ?_
        rcases iQ with h|h
        . exact .inl (List.mem_append.2 (.inl h))
        . simp only[List.map_cons,List.mem_cons] at h
          rcases h with rfl|h
          . exact .inl (by simp)
          . exact .inr h
  . rcases ES hA with ⟨rfl,rfl,rfl,rfl⟩|⟨A',rfl,CP⟩
    .   intro x hx
        have:=h5 x hx
        rwa [Bool.or_eq_true] at this
    .   exact ih.apart A' j p B CP
inductive Reach (ops:Array Oper):Nat->Nat->Prop where
 |edge (i:Nat) (o:Oper) (e:Edge) (ho:ops[i]? =some o) (he:e∈o.after) (hb:Region.binds .any e=true):Reach ops i e.on
 |trans (i:Nat) (o:Oper) (e:Edge) (b:Nat) (ho:ops[i]? =some o) (he:e∈o.after) (hb:Region.binds .any e=true) (h:Reach ops e.on b):Reach ops i b
def Qi (ops:Array Oper) (i m:Nat):Prop:=
 (∀o,ops[i]? =some o-> ∀e∈o.after,Region.binds .any e=true->m.testBit e.on=true)/\ ∀b,m.testBit b=true->Reach ops i b
theorem Jh (acc:List Nat): ∀(l:List Edge) (s b:Nat),(l.foldl (fun s e=>match Region.binds .any e with
   |true=>s ||| 2 ^ e.on ||| (nth acc e.on).getD 0
   |false=>s) s).testBit b=true↔s.testBit b=true\/ ∃e∈l,Region.binds .any e=true/\(e.on=b\/((nth acc e.on).getD 0).testBit b=true)
 |[],s,b=>by simp
 |e::l,s,b=>by
  rw[List.foldl_cons,Jh acc l]
  cases he:Region.binds .any e with
  |false=>simp[he]
  |true=>
   simp only[Nat.testBit_or,Bool.or_eq_true,Nat.testBit_two_pow,decide_eq_true_eq,List.mem_cons,exists_eq_or_imp,he,true_and]
   constructor
   .    rintro (((h|h)|h)|h)
        . exact .inl h
        . exact .inr (.inl (.inl h))
        . exact .inr (.inl (.inr h))
        . exact .inr (.inr h)
   .    rintro (h|(h|h)|h)
        . exact .inl (.inl (.inl h))
        . exact .inl (.inl (.inr h))
        . exact .inl (.inr h)
        . exact .inr h
theorem O2 {ops:Array Oper}: ∀(os:List Oper) (acc:List Nat),os=ops.toList.drop acc.length->acc.length<=ops.size->(∀i,i<acc.length->Qi ops i (acc.getD i 0))->
  ∀i,i<ops.size->Qi ops i ((Lt os acc).getD i 0)
 |[],acc,O3,hl,Qj,i,hi=>by
  have h1:(ops.toList.drop acc.length).length=0:=by rw[<-O3];rfl
  have:ops.size<=acc.length:=by simp at h1;omega
  exact Qj i (by omega)
 |o ::os,acc,O3,hl,Qj,i,hi=>by
  simp only[Lt]
  have ho:ops[acc.length]? =some o:=by
    have:(ops.toList.drop acc.length)[0]? =some o:=by rw[<-O3];rfl
    simpa using this
  have aZ:acc.length<ops.size:=(Array.getElem?_eq_some_iff.1 ho).1
  refine O2 os _ ?_ (by simp;omega) (fun j hj=> ?_) i hi
  . rw[List.length_append,List.length_singleton, <-List.drop_drop, <-O3];rfl
  . rcases Nat.lt_or_ge j acc.length with h|h
    .   rw[List.getD_eq_getElem?_getD,List.getElem?_append_left h, <-List.getD_eq_getElem?_getD];exact Qj j h
    .   have Dr:j=acc.length:=by simp at hj;omega
        subst Dr
        rw[List.getD_eq_getElem?_getD,List.getElem?_append_right (Nat.le_refl _)]
        simp only[Nat.sub_self,List.getElem?_cons_zero,Option.getD_some]
        refine ⟨fun o' yc e he hb=> ?_,fun b hb=> ?_⟩
        . rw[ho] at yc;simp only[Option.some.injEq] at yc;subst yc
          exact (Jh acc _ 0 e.on).2 (.inr ⟨e,by simpa using he,hb,.inl rfl⟩)
        . have hb:=(Jh acc _ 0 b).1 hb
          rcases hb with hb|⟨e,he,iQ,hb⟩
          . simp at hb
          . have kJ:e∈o.after:=by simpa using he
            rcases hb with rfl|hb
            . exact .edge _ o e ho kJ iQ
            . refine .trans _ o e b ho kJ iQ ?_
              rw[jZ] at hb
              rcases Nat.lt_or_ge e.on acc.length with h|h
              . exact (Qj _ h).2 b (by rw[List.getD_eq_getElem?_getD];exact hb)
              . rw[List.getElem?_eq_none h] at hb;simp at hb
theorem O4: ∀(l:List bE) (k:Nat) (x:Nat×bE),x∈wm k l-> ∃i,x.1=k+i/\l[i]? =some x.2
 |[],k,x,h=>by cases h
 |o ::l,k,x,h=>by
  simp only[wm,List.mem_cons] at h
  rcases h with rfl|h
  . exact ⟨0,rfl,rfl⟩
  . obtain ⟨i,h1,h2⟩:=O4 l (k+1) x h
    exact ⟨i+1,by omega,by simpa using h2⟩
theorem Dy: ∀(l held:List (Nat×bE)) (x:Nat×bE),x∈qp l held->x∈l\/x∈held
 |[],held,x,h=> .inr h
 |(i,   o)::l,held,x,h=>by
  unfold qp at h
  split at h
  . rcases List.mem_append.1 h with h|h
    .   exact .inr (List.mem_filter.1 h).1
    .   rcases List.mem_cons.1 h with h|h
        . exact .inl (by rw[h];exact List.mem_cons_self ..)
        . rcases Dy l _ x h with h|h
          . exact .inl (List.mem_cons_of_mem _ h)
          . exact .inr (List.mem_filter.1 h).1
  . rcases Dy l _ x h with h|h
    .   exact .inl (List.mem_cons_of_mem _ h)
    .   rcases List.mem_append.1 h with h|h
        . exact .inr h
        . simp at h;exact .inl (by rw[h];exact List.mem_cons_self ..)
theorem YV {l:List bE} {x:Nat×bE} (h:x∈qp (wm 0 l) []):l[x.1]? =some x.2:=by
 rcases Dy _ _ _ h with h|h
 . obtain ⟨i,h1,h2⟩:=O4 l 0 x h
   rw[h1,Nat.zero_add];exact h2
 . cases h
end Go.Ai
end
section
namespace Go.Ai
open Go
theorem BG {p:Pos}: ∀{l:List Pos},zE p l=true↔p∈l
 |[]=>by simp[zE]
 |q::l=>by simp[zE,BG (l:=l),Pos.beq_eq]
theorem yW {a b:bE} (h:Dm a b=true):
   (∀d,a.dst=some d->d∉b.looks/\b.dst≠some d)/\(∀d,b.dst=some d->d∉a.looks):=by
 unfold Dm at h
 rw[Bool.and_eq_true] at h
 obtain ⟨h1,h2⟩:=h
 constructor
 . intro d hd
   rw[hd] at h1
   simp only[Bool.and_eq_true,Bool.not_eq_true'] at h1
   refine ⟨fun hm=> ?_,fun hb=> ?_⟩
   . rw[BG.2 hm] at h1;exact absurd h1.1 (by simp)
   . rw[hb] at h1
     have:Pos.beq d d=true:=Pos.beq_eq.2 rfl
     simp[this] at h1
 . intro d hd hm
   rw[hd] at h2
   simp only[Bool.not_eq_true'] at h2
   rw[BG.2 hm] at h2;cases h2
section
variable (P : Program) (tt : TT) (C : Cells) (nt : Nat) (ops : Array Oper) (call : ak) (bN : Fr) (h0 : T AB) (n0 : Pos) (R : List Rec)
structure rT:Prop where
 L9:Good call bN h0 n0 R
 mono:jS call
 one: ∀A r B,R=A++r::B-> ∀r'∈B,r'.idx≠r.idx
 bG: ∀A r B,R=A++r::B-> ∀b,r.o.bG.testBit b=true-> ∃r'∈B,r'.idx=b
 aE: ∀A r B,R=A++r::B->r.o.cls= .aE-> ∀r'∈B,r.o.bG.testBit r'.idx=true
 apart: ∀A r B,R=A++r::B-> ∀r'∈A,r'.o.bG.testBit r.idx=true\/Dm r.o r'.o=true
 rel: ∀r∈R,∃o,ops[r.idx]? =some o/\pF tt nt ops o r.o/\Qi ops r.idx r.o.bG
 all: ∀i,i<ops.size-> ∃r∈R,r.idx=i
def Kept (D:Nat->Prop) (b:Pos):Prop:= ∀A r B,R=A++r::B-> ¬D r.idx->b.toNat<(cQ n0 B).toNat\/r.nx.toNat<=b.toNat
def T1 (D:Nat->Prop) (ρ:Pos->Loc) (tmps:Array Value):Prop:=
 ∀M s T p,R=M++s::T->D s.idx->s.o.dst=some p->(∀s'∈M,D s'.idx->s'.o.dst≠some p)-> ∃x,tmps[p.toNat - 1]? =some x/\ax ρ s.nx.toNat C s.v x
def T0 (D:Nat->Prop) (ρ:Pos->Loc) (tmps:Array Value):Prop:=
 ∀p v,bN.get p=some v->(∀s∈R,D s.idx->s.o.dst≠some p)-> ∃x,tmps[p.toNat - 1]? =some x/\ax ρ n0.toNat C v x
structure JY (D:Nat->Prop) (A B:List Rec) (a:Act):Prop where
 split:R=A++B
 bound:ye B
 XO: ∀r∈B,D r.idx
 Ma: ∀r∈A,D r.idx->r.c.kq=false
 closed: ∀i o e,D i->ops[i]? =some o->e∈o.after->Region.binds .any e=true->D e.on
 size:a.tmps.size=nt
 defers:a.defers=[]
structure Inv0 (nK:Pos->Loc) (w0:World) (D:Nat->Prop) (A B:List Rec) (ρ:Pos->Loc) (a:Act) (w:World):Prop where
 W:bn ρ C { heap:=gZ h0 B,next:=cQ n0 B } w
 N: ∀r∈A,D r.idx-> ∀id aA,r.c= .new id aA->kj ρ r.nx.toNat C (ρ id) w aA/\(ρ id).aA<w.heap.size/\w0.heap.size<=(ρ id).aA/\
  (∀b x,(gZ h0 B).get b=some x->(ρ b).aA≠(ρ id).aA)/\(∀ad v,C ad=some v->(ρ id).aA≠ad.block)
 N2: ∀r∈A,D r.idx-> ∀id aA,r.c= .new id aA-> ∀r'∈A,D r'.idx-> ∀oK uY,r'.c= .new oK uY->id≠oK->(ρ id).aA≠(ρ oK).aA
 t1:T1 C R D ρ a.tmps
 t0:T0 C bN n0 R D ρ a.tmps
 E:jY nK { heap:=h0,next:=n0 } w0 ρ { heap:=gZ h0 B,next:=cQ n0 B } w
 agree: ∀b:Pos,b.toNat<n0.toNat->ρ b=nK b
def Inv (nK:Pos->Loc) (w0:World) (D:Nat->Prop) (A B:List Rec) (ρ:Pos->Loc) (a:Act) (w:World):Prop:=
 JY nt ops R D A B a/\ ∀ρ',(∀b,Kept n0 R D b->ρ' b=ρ b)->Inv0 C bN h0 n0 R nK w0 D A B ρ' a w
end
section
variable {P : Program} {tt : TT} {C : Cells} {nt : Nat} {ops : Array Oper} {call : ak} {bN : Fr} {h0 : T AB} {n0 : Pos} {R : List Rec}
theorem wH (h: ∀A r B,R=A++r::B-> ∀r'∈B,r'.idx≠r.idx) {X X' Y Y':List Rec} {r r':Rec} (h1:R=X++r::Y) (h2:R=X'++r'::Y') (hi:r.idx=r'.idx):
   X=X'/\r=r'/\Y=Y':=by
 have h3:X++r::Y=X'++r'::Y':=h1.symm.trans h2
 rcases List.append_eq_append_iff.1 h3 with ⟨Z,hX,hZ⟩|⟨Z,hX,hZ⟩
 . cases Z with
   |nil=>simp at hZ hX;exact ⟨hX.symm,hZ.1,hZ.2⟩
   |cons z Z=>
    simp at hZ
    exact absurd hi.symm (h X r Y h1 r' (by rw[hZ.2];simp))
 . cases Z with
   |nil=>simp at hZ hX;exact ⟨hX,hZ.1.symm,hZ.2.symm⟩
   |cons z Z=>
    simp at hZ
    exact absurd hi (h X' r' Y' h2 r (by rw[hZ.2];simp))
theorem jK {r:Rec} (h:r∈R): ∃A B,R=A++r::B:=List.append_of_mem h
theorem O5 (hm:jS call) {r:Rec} {B:List Rec} (h:mU call bN h0 n0 r B):(cQ n0 B).toNat<=r.nx.toNat:=by
 cases h with
 |skip=>exact Nat.le_refl _
 |pure=>exact Nat.le_refl _
 |new=>simp only[Pos.az];omega
 |aE i o v st' xs _ hc hw hx hr=>exact BD hm hr
theorem Ji (hm:jS call): ∀{A B:List Rec},Good call bN h0 n0 (A++B)->(cQ n0 B).toNat<=(cQ n0 (A++B)).toNat
 |[],_,_=>Nat.le_refl _
 |r::A,B,h=>Nat.le_trans (Ji hm (A:=A) h.2) (O5 hm h.1)
namespace rT
variable (G : rT tt nt ops call bN h0 n0 R)
include G
theorem later {X Y:List Rec} {r r':Rec} (h:R=X++r::Y) (hr:r'∈X):r'.idx≠r.idx:=by
 obtain ⟨A,B,rfl⟩:=jK hr
 have h':R=A++r'::(B++r::Y):=by rw[h];simp
 exact fun e=>G.one _ _ _ h' r (by simp) e.symm
theorem XP {X Y:List Rec} {r:Rec} (h:R=X++r::Y):(cQ n0 Y).toNat<=r.nx.toNat:=O5 G.mono (Good.at (h ▸G.L9))
theorem uv {X Y Z:List Rec} (h:R=X++(Y++Z)):(cQ n0 Z).toNat<=(cQ n0 (Y++Z)).toNat:=Ji G.mono (Good.tail (h ▸G.L9))
theorem Qk {X Y:List Rec} (h:R=X++Y):n0.toNat<=(cQ n0 Y).toNat:=by
 have:=Ji (n0:=n0) G.mono (A:=Y) (B:=[]) (by rw[List.append_nil];exact Good.tail (h ▸G.L9))
 rw[List.append_nil] at this;exact this
theorem HJ {D:Nat->Prop} (hc: ∀i o e,D i->ops[i]? =some o->e∈o.after->Region.binds .any e=true->D e.on) {i b:Nat} (h:Reach ops i b)
  (hi: ∀o e,ops[i]? =some o->e∈o.after->Region.binds .any e=true->D e.on):D b:=by
 induction h with
 |edge i o e ho he hb=>exact hi o e ho he hb
 |trans i o e b ho he hb _ ih=>exact ih fun o' e' yc kJ dX=>hc _ o' e' (hi o e ho he hb) yc kJ dX
theorem XQ {D:Nat->Prop} {A B:List Rec} {a:Act} (hp:JY nt ops R D A B a) {s:Rec} (hs:s∈R) (hD:D s.idx) {b:Nat} (hb:s.o.bG.testBit b=true):D b:=by
 obtain ⟨o,ho,_,hB⟩:=G.rel s hs
 exact G.HJ hp.closed (hB.2 b hb) fun o' e yc he iQ=>hp.closed _ o' e hD yc he iQ
end rT
theorem Dz: ∀(Y:List Rec) (p:Pos) (v:AV),(kO bN Y).get p=some v->
  (∃M s T,Y=M++s::T/\s.o.dst=some p/\s.v=v/\ ∀s'∈M,s'.o.dst≠some p)\/(bN.get p=some v/\ ∀s∈Y,s.o.dst≠some p)
 |[],p,v,h=> .inr ⟨h,fun s hs=>by cases hs⟩
 |r ::Y   ,p,v,h=>by
  simp only[kO] at h
  by_cases hr:r.o.dst=some p
  . rw[hr] at h
    simp only[cJ,T.dZ,Option.some.injEq] at h
    exact .inl ⟨[],r,Y,rfl,hr,h,fun s hs=>by cases hs⟩
  . have h':(kO bN Y).get p=some v:=by
        cases hd:r.o.dst with
        |none=>rw[hd] at h;exact h
        | some d=>
          rw[hd] at h
          simp only[cJ] at h
          rwa [T.bq _ fun e=>hr (by rw[hd,e])] at h
    rcases Dz Y p v h' with ⟨M,s,T,rfl,h2,h3,h4⟩|⟨h2,h3⟩
    .   refine .inl ⟨r::M,s,T,rfl,h2,h3,fun s' jA=> ?_⟩
        rcases List.mem_cons.1 jA with rfl|jA
        . exact hr
        . exact h4 s' jA
    .   refine .inr ⟨h2,fun s hs=> ?_⟩
        rcases List.mem_cons.1 hs with rfl|hs
        . exact hr
        . exact h3 s hs
theorem look (G:rT tt nt ops call bN h0 n0 R) {D:Nat->Prop} {A B:List Rec} {a:Act} (hp:JY nt ops R D A B a) {ρ:Pos->Loc} (h1:T1 C R D ρ a.tmps) (h2:T0 C bN n0 R D ρ a.tmps)
   {X Y:List Rec} {r:Rec} (hR:R=X++r::Y) (hD: ¬D r.idx) (Jj: ∀b,r.o.bG.testBit b=true->D b) {p:Pos} {v:AV} (hl:p∈r.o.looks) (hv:(kO bN Y).get p=some v):
   ∃x,a.tmps[p.toNat - 1]? =some x/\ax ρ (cQ n0 Y).toNat C v x:=by
 have hX: ∀s∈X,D s.idx->s.o.dst≠some p:=by
   intro s hs fh hd
   rcases G.apart X r Y hR s hs with h|h
   . exact hD (G.XQ hp (by rw[hR];simp[hs]) fh h)
   . exact (yW h).2 p hd hl
 rcases Dz Y p v hv with ⟨M,s,T,rfl,h3,rfl,h4⟩|⟨h3,h4⟩
 . have XR:R=(X++r::M)++s::T:=by rw[hR];simp
   have fh:D s.idx:=by
     rcases G.apart _ s T XR r (by simp) with h|h
     .  exact Jj _ h
     .  exact absurd hl ((yW h).1 p h3).1
   obtain ⟨x,hx,HP⟩:=h1 (X++r::M) s T p XR fh h3 (fun s' jA wJ=>by
     rcases List.mem_append.1 jA with h|h
     .  exact hX s' h wJ
     .  rcases List.mem_cons.1 h with rfl|h
        . exact absurd wJ hD
        . exact h4 s' h)
   refine ⟨x,hx,HP.mono (fun _ _=>rfl) ?_⟩
   have:=G.uv (X:=X++[r]) (Y:=M) (Z:=s::T) (by rw[hR];simp)
   exact this
 . obtain ⟨x,hx,HP⟩:=h2 p v h3 (fun s hs fh=>by
     rw[hR] at hs
     rcases List.mem_append.1 hs with h|h
     .  exact hX s h fh
     .  rcases List.mem_cons.1 h with rfl|h
        . exact absurd fh hD
        . exact h4 s h)
   exact ⟨x,hx,HP.mono (fun _ _=>rfl) (G.Qk (X:=X++[r]) (by rw[hR];simp))⟩
theorem JZ {a:Act} {d:Option Tmp} {x:Value} {p:Pos} (h:d.map key≠some p):(a.put d x).tmps[p.toNat - 1]? =a.tmps[p.toNat - 1]? :=by
 cases d with
 |none=>rfl
 |some e=>
  simp only[Act.put]
  rw[Array.getElem?_setIfInBounds_ne]
  intro he
  apply h
  simp only[Option.map_some,Option.some.injEq]
  apply Pos.toNat_inj
  rw[gX]
  have:=p.toNat_pos
  omega
theorem Vb {a:Act} {d:Option Tmp} {x:Value} {p:Pos} (h:d.map key=some p) (hs:a.tmps.size=nt) (hd: ∀e,d=some e->e<nt):(a.put d x).tmps[p.toNat - 1]? =some x:=by
 cases d with
 |none=>cases h
 |some e=>
  simp only[Option.map_some,Option.some.injEq] at h;subst h
  simp only[Act.put]
  rw[gX,Nat.add_sub_cancel,Array.getElem?_setIfInBounds]
  simp[hs,hd e rfl]
theorem Ql (G:rT tt nt ops call bN h0 n0 R) {D:Nat->Prop} {A B:List Rec} {a:Act} (hp:JY nt ops R D A B a) {ρ:Pos->Loc} (h1:T1 C R D ρ a.tmps) (h2:T0 C bN n0 R D ρ a.tmps)
   {X Y:List Rec} {r:Rec} (hR:R=X++r::Y) (hD: ¬D r.idx) {o:Oper} (hrel:pF tt nt ops o r.o) {x:Value} (hv:ax ρ r.nx.toNat C r.v x):
   T1 C R (fun i=>D i\/i=r.idx) ρ (a.put o.dst x).tmps/\T0 C bN n0 R (fun i=>D i\/i=r.idx) ρ (a.put o.dst x).tmps:=by
 constructor
 . intro  M s T p hM fh hd jz
   by_cases hi:s.idx=r.idx
   . obtain ⟨_,rfl,_⟩:=wH G.one hM hR hi
     rw[hrel.dst] at hd
     exact ⟨x,Vb hd hp.size hrel.lt,hv⟩
   . have fh:=fh.resolve_right hi
     by_cases XS:r.o.dst=some p
     .  exfalso
        have hs:s∈R:=by rw[hM];simp
        rw[hR] at hs
        rcases List.mem_append.1 hs with h|h
        . rcases G.apart X r Y hR s h with k|k
          . exact hD (G.XQ hp (by rw[hR];simp[h]) fh k)
          . exact ((yW k).1 p XS).2 hd
        . rcases List.mem_cons.1 h with rfl|h
          . exact hi rfl
          . obtain ⟨Y1,Y2,rfl⟩:=jK h
            have XR:R=(X++r::Y1)++s::Y2:=by rw[hR];simp
            obtain ⟨Mb,_,_⟩:=wH G.one hM XR rfl
            exact jz r (by rw[Mb];simp) (.inr rfl) XS
     .  rw[hrel.dst] at XS
        obtain ⟨y,hy,wz⟩:=h1 M s T p hM fh hd fun s' jA wJ=>jz s' jA (.inl wJ)
        exact ⟨y,by rw[JZ XS];exact hy,wz⟩
 . intro p v hf jz
   have hr:r.o.dst≠some p:=jz r (by rw[hR];simp) (.inr rfl)
   rw[hrel.dst] at hr
   obtain ⟨y,hy,wz⟩:=h2 p v hf fun s hs fh=>jz s hs (.inl fh)
   exact ⟨y,by rw[JZ hr];exact hy,wz⟩
end
end Go.Ai
end
section
namespace Go.Ai
open Go
section
variable {P : Program} {tt : TT} {C : Cells} {nt : Nat} {ops : Array Oper} {call : ak} {bN : Fr} {h0 : T AB} {n0 : Pos} {R : List Rec}
theorem bn.congr {ρ ρ':Pos->Loc} {st:St} {w:World} (h:bn ρ C st w) (aL: ∀b:Pos,b.toNat<st.next.toNat->ρ' b=ρ b):bn ρ' C st w where
 live b x hb:=by
  obtain ⟨h1,h2,h3⟩:=h.live b x hb
  rw[aL b h1];exact ⟨h1,h2,h3.mono aL (Nat.le_refl _)⟩
 inj b b' x x' hb dX he:=by
  rw[aL b (h.live b x hb).1,aL b' (h.live b' x' dX).1] at he
  exact h.inj b b' x x' hb dX he
 cj a v ha:=⟨(h.cj a v ha).1,fun b x hb=>by rw[aL b (h.live b x hb).1];exact (h.cj a v ha).2 b x hb⟩
 whole:=h.whole
theorem jY.congr {ρ gF ρ':Pos->Loc} {st st':St} {w w':World} (h:jY ρ st w gF st' w') (aL: ∀b x,st'.heap.get b=some x->ρ' b=gF b):jY ρ st w ρ' st' w' where
 os:=h.os
 tape:=h.tape
 output:=h.output
 size:=h.size
 block:=h.block
 pS b x hb:=by rw[aL b x hb];exact h.pS b x hb
namespace rT
variable (G : rT tt nt ops call bN h0 n0 R)
include G
theorem same {r r':Rec} (h:r∈R) (h':r'∈R) (hi:r.idx=r'.idx):r=r':=by
 obtain ⟨A,B,hA⟩:=jK h
 obtain ⟨A',B',CP⟩:=jK h'
 exact (wH G.one hA CP hi).2.1
theorem cmp {X Y X' Y':List Rec} {r r':Rec} (h1:R=X++r::Y) (h2:R=X'++r'::Y') (hi:r'.idx≠r.idx):
   (∃Z,Y'=Z++r::Y)\/(∃Z,Y=Z++r'::Y'):=by
 have h3:X++r::Y=X'++r'::Y':=h1.symm.trans h2
 rcases List.append_eq_append_iff.1 h3 with ⟨Z,hX,hZ⟩|⟨Z,hX,hZ⟩
 . cases Z with
   |nil=>simp at hZ;exact absurd (by rw[hZ.1]) hi
   |cons z Z=>simp at hZ;exact .inr ⟨Z,hZ.2⟩
 . cases Z with
   |nil=>simp at hZ;exact absurd (by rw[hZ.1]) hi
   |cons z Z=>simp at hZ;exact .inl ⟨Z,hZ.2⟩
theorem BH {X Y X' Z:List Rec} {r r':Rec} (h1:R=X++r::Y) (h2:R=X'++r'::(Z++r::Y)):r.nx.toNat<=(cQ n0 (Z++r::Y)).toNat:=by
 have:=G.uv (X:=X'++[r']) (Y:=Z) (Z:=r::Y) (by rw[h2];simp)
 exact this
theorem vK {X Y' Z:List Rec} {r r':Rec} (h1:R=X++r::(Z++r'::Y')):r'.nx.toNat<=(cQ n0 (Z++r'::Y')).toNat:=by
 have:=G.uv (X:=X++[r]) (Y:=Z) (Z:=r'::Y') (by rw[h1];simp)
 exact this
theorem DA {X Y:List Rec} {r:Rec} (h:R=X++r::Y) {id:Pos} {aA:AB} (hc:r.c= .new id aA):id=cQ n0 Y/\r.nx=id.succ:=by
 have hs:=Good.at (h ▸G.L9)
 cases hs<;>simp only at hc<;>first|(cases hc;done)|skip
 simp only[RC.new.injEq] at hc
 obtain ⟨rfl,_⟩:=hc
 exact ⟨rfl,rfl⟩
end rT
theorem Kept.up {D D':Nat->Prop} (h: ∀i,D i->D' i) {b:Pos} (hk:Kept n0 R D b):Kept n0 R D' b:=fun A r B hR hD=>hk A r B hR fun hd=>hD (h _ hd)
theorem JY.next (G:rT tt nt ops call bN h0 n0 R) {D:Nat->Prop} {A B:List Rec} {a:Act} (hp:JY nt ops R D A B a) {X Y:List Rec} {r:Rec} (hR:R=X++r::Y)
  (mV: ∀o e,ops[r.idx]? =some o->e∈o.after->Region.binds .any e=true->D e.on) (hc:r.c.kq=false) (d:Option Tmp) (x:Value):
  JY nt ops R (fun i=>D i\/i=r.idx) A B (a.put d x) where
 split:=hp.split
 bound:=hp.bound
 XO s hs:= .inl (hp.XO s hs)
 Ma s hs hD:=by
  rcases hD with hD|hD
  . exact hp.Ma s hs hD
  . rw[G.same (by rw[hp.split];simp[hs]) (by rw[hR];simp) hD];exact hc
 closed i o e hD ho he hb:=by
  rcases hD with hD|rfl
  . exact .inl (hp.closed i o e hD ho he hb)
  . exact .inl (mV o e ho he hb)
 size:=by rw[Act.Bz];exact hp.size
 defers:=by rw[Act.tX];exact hp.defers
theorem J0 (G:rT tt nt ops call bN h0 n0 R) {nK:Pos->Loc} {w0:World} {D:Nat->Prop} {A B:List Rec} {ρ:Pos->Loc} {a:Act} {w:World}
  (hI:Inv C nt ops bN h0 n0 R nK w0 D A B ρ a w) {X Y:List Rec} {r:Rec} (hR:R=X++r::Y) (hD: ¬D r.idx)
  (mV: ∀o e,ops[r.idx]? =some o->e∈o.after->Region.binds .any e=true->D e.on) {o:Oper} (hrel:pF tt nt ops o r.o) (hc:r.c= .pure) {x:Value}
  (hv: ∀ρ',(∀b,Kept n0 R D b->ρ' b=ρ b)->ax ρ' r.nx.toNat C r.v x):
  Inv C nt ops bN h0 n0 R nK w0 (fun i=>D i\/i=r.idx) A B ρ (a.put o.dst x) w:=by
 obtain ⟨hp,hI⟩:=hI
 refine ⟨hp.next G hR mV (by rw[hc];rfl) _ _,fun ρ' tI=> ?_⟩
 have hf: ∀b,Kept n0 R D b->ρ' b=ρ b:=fun b hb=>tI b (hb.up fun _ h=> .inl h)
 have h:=hI ρ' hf
 have hnr: ∀s∈A,(D s.idx\/s.idx=r.idx)-> ∀id aA,s.c= .new id aA->D s.idx:=fun s hs fh id aA gN=>by
  rcases fh with fh|fh
  . exact fh
  . rw[G.same (by rw[hp.split];simp[hs]) (by rw[hR];simp) fh,hc] at gN;cases gN
 obtain ⟨k1,k2⟩:=Ql G hp h.t1 h.t0 hR hD hrel (hv ρ' hf)
 exact ⟨h.W,fun s hs fh id aA gN=>h.N s hs (hnr s hs fh id aA gN) id aA gN,
  fun s hs fh id aA gN s' jA wJ oK uY n7=>h.N2 s hs (hnr s hs fh id aA gN) id aA gN s' jA (hnr s' jA wJ oK uY n7) oK uY n7,k1,k2,h.E,h.agree⟩
theorem bn.grow {ρ:Pos->Loc} {st:St} {w w':World} (h:bn ρ C st w) (hs:w.heap.size<=w'.heap.size) (hb: ∀k,k<w.heap.size->w'.heap[k]? =w.heap[k]?):bn ρ C st w' where
 live b x hx:=let ⟨h1,h2,h3⟩:=h.live b x hx;⟨h1,Nat.lt_of_lt_of_le h2 hs,h3.of_heap (hb _ h2)⟩
 inj:=h.inj
 cj a v ha:=by
  obtain ⟨h1,h2⟩:=h.cj a v ha
  exact ⟨by rw[World.cell?_of_block (w:=w) (hb _ (World.block_lt_of_cell? _ _ h1))];exact h1,h2⟩
 whole a v ha o ho:=by
  have jv:a.block<w.heap.size:=World.block_lt_of_cell? _ _ (h.cj a v ha).1
  rw[World.cell?_of_block (w:=w) (a:=⟨a.block,o,none⟩) (hb _ jv)];exact h.whole a v ha o ho
theorem Vc (G:rT tt nt ops call bN h0 n0 R) {nK:Pos->Loc} {w0:World} {D:Nat->Prop} {A B:List Rec} {ρ:Pos->Loc} {a:Act} {w w':World}
   (hI:Inv C nt ops bN h0 n0 R nK w0 D A B ρ a w) {X Y:List Rec} {r:Rec} (hR:R=X++r::Y) (hD: ¬D r.idx)
   (mV: ∀o e,ops[r.idx]? =some o->e∈o.after->Region.binds .any e=true->D e.on) {o:Oper} (hrel:pF tt nt ops o r.o) {id:Pos} {aA:AB} (hc:r.c= .new id aA) {x:Value} {L:Loc}
   (hL:w.heap.size<=L.aA) (hL':L.aA<w'.heap.size) (O3:w'.os=w.os) (afC:w'.tape=w.tape) (hout:w'.output=w.output) (Vd: ∀k,k<w.heap.size->w'.heap[k]? =w.heap[k]?)
   (hv: ∀ρ',(∀b,Kept n0 R D b->ρ' b=ρ b)->ρ' id=L->ax ρ' r.nx.toNat C r.v x/\kj ρ' r.nx.toNat C L w' aA):
   Inv C nt ops bN h0 n0 R nK w0 (fun i=>D i\/i=r.idx) A B (fun b=>if b=id then L else ρ b) (a.put o.dst x) w':=by
 obtain ⟨hp,hI⟩:=hI
 have hrA:r∈A:=by
   have:r∈R:=by rw[hR];simp
   rw[hp.split] at this
   exact (List.mem_append.1 this).resolve_right fun h=>hD (hp.XO r h)
 obtain ⟨hid,HX⟩:=G.DA hR hc
 have dM:w.heap.size<=w'.heap.size:=by omega
 refine ⟨hp.next G hR mV (by rw[hc];rfl) _ _,fun ρ' tI=> ?_⟩
 have hkid:Kept n0 R (fun i=>D i\/i=r.idx) id:=by
   intro A' r' B' CP So
   have bO:r'.idx≠r.idx:=fun e=>So (.inr e)
   rcases G.cmp hR CP bO with ⟨Z,rfl⟩|⟨Z,rfl⟩
   . left
     have:=G.BH hR CP
     rw[HX,Pos.az] at this
     omega
   . right
     have:=G.vK hR
     rw[hid];exact this
 have hidL:ρ' id=L:=by rw[tI id hkid];simp
 have hf: ∀b,Kept n0 R D b->ρ' b=ρ b:=fun b hb=>by
   have bO:b≠id:=by
     rintro rfl
     rcases hb X r Y hR hD with h|h
     .  rw[hid] at h;omega
     .  rw[HX,Pos.az] at h;omega
   rw[tI b (hb.up fun _ h=> .inl h)];exact if_neg bO
 have h:=hI ρ' hf
 obtain ⟨OL,Dq⟩:=hv ρ' hf hidL
 obtain ⟨k1,k2⟩:=Ql G hp h.t1 h.t0 hR hD hrel OL
 have Lf: ∀s∈A,(D s.idx\/s.idx=r.idx)->D s.idx\/s=r:=fun s hs fh=>fh.imp (fun h=>h) fun fh=>G.same (by rw[hp.split];simp[hs]) (by rw[hR];simp) fh
 refine ⟨h.W.grow dM Vd,fun s hs fh oK uY gN=> ?_,fun s hs fh oK uY gN s' jA wJ id'' XT n7 bO=> ?_,k1,k2,?_,h.agree⟩
 . rcases Lf s hs fh with fh|rfl
   . obtain ⟨g1,g2,g3,g4,g5⟩:=h.N s hs fh oK uY gN
     exact ⟨g1.of_heap (Vd _ g2),by omega,g3,g4,g5⟩
   . rw[hc] at gN
     simp only[RC.new.injEq] at gN
     obtain ⟨rfl,rfl⟩:=gN
     rw[hidL]
     refine ⟨Dq,hL',Nat.le_trans h.E.size hL,fun b x hb e=> ?_,fun ad v ha e=> ?_⟩
     .  have:=(h.W.live b x hb).2.1;omega
     .  have:=World.block_lt_of_cell? _ _ (h.W.cj ad v ha).1;omega
 . rcases Lf s hs fh with hDk|rfl
   . rcases Lf s' jA wJ with Ve|rfl
     .  exact h.N2 s hs hDk oK uY gN s' jA Ve id'' XT n7 bO
     .  rw[hc] at n7
        simp only[RC.new.injEq] at n7
        obtain ⟨rfl,rfl⟩:=n7
        have:=(h.N s hs hDk oK uY gN).2.1
        rw[hidL];omega
   . rw[hc] at gN
     simp only[RC.new.injEq] at gN
     obtain ⟨rfl,rfl⟩:=gN
     rcases Lf s' jA wJ with Ve|rfl
     .  have:=(h.N s' jA Ve id'' XT n7).2.1
        rw[hidL];omega
     .  rw[hc] at n7
        simp only[RC.new.injEq] at n7
        exact absurd n7.1 bO
 . exact ⟨O3.trans h.E.os,afC.trans h.E.tape,hout.trans h.E.output,Nat.le_trans h.E.size dM,fun k hk hn=>by rw[Vd k (Nat.lt_of_lt_of_le hk h.E.size)];exact h.E.block k hk hn,h.E.pS⟩
theorem Qm (G:rT tt nt ops call bN h0 n0 R) {nK:Pos->Loc} {w0:World} {D:Nat->Prop} {A B:List Rec} {ρ:Pos->Loc} {a:Act} {w:World}
  (h:Inv0 C bN h0 n0 R nK w0 D A B ρ a w) (adl:R=A++B) {hp:T AB} {N:Pos} (hN:(cQ n0 B).toNat<=N.toNat)
  (oZ: ∀b x,hp.get b=some x->(gZ h0 B).get b=some x\/ ∃s∈A,D s.idx/\s.c= .new b x/\s.nx.toNat<=N.toNat):bn ρ C { heap:=hp,next:=N } w where
 live b x hb:=by
  rcases oZ b x hb with h1|⟨s,hs,hD,hc,hn⟩
  .  obtain ⟨g1,g2,g3⟩:=h.W.live b x h1
     exact ⟨Nat.lt_of_lt_of_le g1 hN,g2,g3.mono (fun _ _=>rfl) hN⟩
  .  obtain ⟨g1,g2,_⟩:=h.N s hs hD b x hc
     obtain ⟨M,T,hM⟩:=jK (r:=s) (R:=R) (by rw[adl];simp[hs])
     obtain ⟨_,e⟩:=G.DA hM hc
     rw[e] at hn
     refine ⟨?_,g2,g1.mono (fun _ _=>rfl) (by rw[e];exact hn)⟩
     rw[Pos.az] at hn
     exact hn
 inj b  b' x x' hb dX he:=by
  rcases oZ b x hb with h1|⟨s,hs,hD,hc,hn⟩
  .  rcases oZ b' x' dX with OM|⟨s',jA,So,p7,O0⟩
     .  exact h.W.inj b b' x x' h1 OM he
     .  exact absurd he ((h.N s' jA So b' x' p7).2.2.2.1 b x h1)
  .  rcases oZ b' x' dX with OM|⟨s',jA,So,p7,O0⟩
     .  exact absurd he.symm ((h.N s hs hD b x hc).2.2.2.1 b' x' OM)
     .  by_cases e:b=b'
        . exact e
        . exact absurd he (h.N2 s hs hD b x hc s' jA So b' x' p7 e)
 cj ad v ha:=⟨(h.W.cj ad v ha).1,fun b x hb=>by
  rcases oZ b x hb with h1|⟨s,hs,hD,hc,hn⟩
  .  exact (h.W.cj ad v ha).2 b x h1
  .  exact (h.N s hs hD b x hc).2.2.2.2 ad v ha⟩
 whole:=h.W.whole
theorem rU: ∀{Z B:List Rec} {b:Pos} {x:AB},(∀r∈Z,r.c.kq=false)->ye B->(ia h0 (Z++B)).get b=some x->
  (gZ h0 B).get b=some x\/ ∃s∈Z,s.c= .new b x
 |[],B,b,x,_,hB,h=>by
  cases B with
  |nil=>exact .inl h
  | cons r B=>
    simp only[ye] at hB
    cases hc:r.c<;>rw[hc] at hB<;>first|(cases hB;done)|skip
    simp only[List.nil_append,ia,hc] at h
    simp only[gZ,hc]
    exact .inl h
 |r ::Z,B,b,x,hZ,hB,h=>by
  have ih:= @rU Z B b x (fun s hs=>hZ s (List.mem_cons_of_mem _ hs)) hB
  have hr:=hZ r (List.mem_cons_self ..)
  simp only[List.cons_append,ia] at h
  cases hc:r.c with
  |pure=>rw[hc] at h;exact (ih h).imp (fun h=>h) fun ⟨s,h1,h2⟩=>⟨s,List.mem_cons_of_mem _ h1,h2⟩
  |aE _ _=>rw[hc] at hr;cases hr
  | new id aA=>
    rw[hc] at h
    by_cases e:id=b
    .   subst e
        rw[T.dZ] at h
        simp only[Option.some.injEq] at h;subst h
        exact .inr ⟨r,List.mem_cons_self ..,hc⟩
    .   rw[T.bq _ e] at h
        exact (ih h).imp (fun h=>h) fun ⟨s,h1,h2⟩=>⟨s,List.mem_cons_of_mem _ h1,h2⟩
end
end Go.Ai
end
section
namespace Go.Ai
open Go
section
variable {P : Program} {tt : TT} {C : Cells} {nt : Nat} {ops : Array Oper} {call : ak} {bN : Fr} {h0 : T AB} {n0 : Pos} {R : List Rec}
theorem around (G:rT tt nt ops call bN h0 n0 R) {D:Nat->Prop} {A B:List Rec} {a:Act} (hp:JY nt ops R D A B a) {X Y:List Rec} {r:Rec} (hR:R=X++r::Y) (hD: ¬D r.idx):
  ∃Z,A=X++r::Z/\Y=Z++B:=by
 have hrA:r∈A:=by
  have:r∈R:=by rw[hR];simp
  rw[hp.split] at this
  exact (List.mem_append.1 this).resolve_right fun h=>hD (hp.XO r h)
 obtain ⟨X',Z,hA⟩:=jK hrA
 have h2:R=X'++r::(Z++B):=by rw[hp.split,hA];simp
 obtain ⟨rfl,_,rfl⟩:=wH G.one hR h2 rfl
 exact ⟨Z,hA,rfl⟩
theorem Vf (G:rT tt nt ops call bN h0 n0 R) {nK:Pos->Loc} {w0:World} {D:Nat->Prop} {A B:List Rec} {ρ:Pos->Loc} {a:Act} {w w':World}
   (hI:Inv C nt ops bN h0 n0 R nK w0 D A B ρ a w) {X Y:List Rec} {r:Rec} (hR:R=X++r::Y) (hD: ¬D r.idx)
   (mV: ∀o e,ops[r.idx]? =some o->e∈o.after->Region.binds .any e=true->D e.on) {o:Oper} (hrel:pF tt nt ops o r.o)
   (hY: ∀s∈Y,D s.idx) {st':St} {b0:T AB} (hc:r.c= .aE b0 st'.heap) (HX:r.nx=st'.next) {x:Value}
   (Qn:iX ρ C { heap:=ia h0 Y,next:=cQ n0 Y } w r.v st' x w'):
   ∃uo,Inv C nt ops bN h0 n0 R nK w0 (fun i=>D i\/i=r.idx) X (r::Y) uo (a.put o.dst x) w':=by
 obtain ⟨hp,hI⟩:=hI
 obtain ⟨gF,hv,hρ1,hle,Sk,XU⟩:=Qn
 simp only at hρ1 hle
 obtain ⟨Z,hA,rfl⟩:=around G hp hR hD
 have hZ: ∀s∈Z,s.c.kq=false:=fun s hs=>hp.Ma s (by rw[hA];simp[hs]) (hY s (by simp[hs]))
 have O6: ∀s∈X,s∈A:=fun s hs=>by rw[hA];simp[hs]
 have XV: ∀s∈X,(D s.idx\/s.idx=r.idx)->D s.idx:=fun s hs h=>h.resolve_right (G.later hR hs)
 have Mc:(cQ n0 B).toNat<=(cQ n0 (Z++B)).toNat:=G.uv (X:=X++[r]) (by rw[hR];simp)
 let uo:Pos->Loc:=fun b=>if (cQ n0 (Z++B)).toNat<=b.toNat/\b.toNat<r.nx.toNat then gF b else ρ b
 have Md: ∀b:Pos,b.toNat<(cQ n0 (Z++B)).toNat->Kept n0 R D b:=by
   intro b hb M s T hM fh
   left
   by_cases hi:s.idx=r.idx
   . obtain ⟨_,_,rfl⟩:=wH G.one hM hR hi;exact hb
   . rcases G.cmp hR hM hi with ⟨W,rfl⟩|⟨W,hW⟩
     .  have:=G.BH hR hM
        have:=G.XP hR
        omega
     .  exact absurd (hY s (by rw[hW];simp)) fh
 refine ⟨uo,⟨by rw[hR],by simp[ye,hc,RC.kq],?_,?_,?_,by rw[Act.Bz];exact hp.size,by rw[Act.tX];exact hp.defers⟩,fun ρ' tI=> ?_⟩
 . intro s hs
   rcases List.mem_cons.1 hs with rfl|hs
   . exact .inr rfl
   . exact .inl (hY s hs)
 . intro s hs fh
   exact hp.Ma s (O6 s hs) (XV s hs fh)
 . intro i o' e hDi ho he hb
   rcases hDi with hDi|rfl
   . exact .inl (hp.closed i o' e hDi ho he hb)
   . exact .inl (mV o' e ho he hb)
 have afD: ∀b:Pos,b.toNat<r.nx.toNat->Kept n0 R (fun i=>D i\/i=r.idx) b:=by
   intro b hb M s T hM fh
   left
   have hi:s.idx≠r.idx:=fun e=>fh (.inr e)
   rcases G.cmp hR hM hi with ⟨W,rfl⟩|⟨W,hW⟩
   . exact Nat.lt_of_lt_of_le hb (G.BH hR hM)
   . exact absurd (.inl (hY s (by rw[hW];simp))) fh
 have hf: ∀b,Kept n0 R D b->ρ' b=ρ b:=fun b hb=>by
   rw[tI b (hb.up fun _ h=> .inl h)]
   refine if_neg ?_
   rintro ⟨g1,g2⟩
   rcases hb X r _ hR hD with h|h<;>omega
 have h:=hI ρ' hf
 have J5: ∀b:Pos,b.toNat<r.nx.toNat->ρ' b=gF b:=by
   intro b hb
   rcases Nat.lt_or_ge b.toNat (cQ n0 (Z++B)).toNat with g|g
   . rw[hf b (Md b g),hρ1 b g]
   . rw[tI b (afD b hb)];exact if_pos ⟨g,hb⟩
 have zL:ax ρ' r.nx.toNat C r.v x:=by
   rw[HX] at J5 ⊢
   exact hv.mono J5 (Nat.le_refl _)
 have di:bn ρ' C { heap:=st'.heap,next:=r.nx } w':=by
   rw[HX] at J5 ⊢
   exact Sk.congr J5
 have hold: ∀s∈X,D s.idx-> ∀id aA,s.c= .new id aA-> ∀b y,(ia h0 (Z++B)).get b=some y->(ρ b).aA≠(ρ' id).aA:=by
   intro s hs fh id aA gN b y hb
   obtain ⟨g1,g2,g3,g4,g5⟩:=h.N s (O6 s hs) fh id aA gN
   obtain ⟨M,T,hM⟩:=jK (r:=s) (R:=R) (by rw[hR];simp[hs])
   rcases rU hZ hp.bound hb with hb|⟨s',jA,n7⟩
   . rw[<-hf b (Md b (Nat.lt_of_lt_of_le (h.W.live b y hb).1 Mc))]
     exact g4 b y hb
   . obtain ⟨Z1,Z2,rfl⟩:=jK jA
     have Mb:R=(X++r::Z1)++s'::(Z2++B):=by rw[hR];simp
     obtain ⟨e1,e2⟩:=G.DA Mb n7
     obtain ⟨e3,e4⟩:=G.DA hM gN
     have XW:b.toNat<(cQ n0 ((Z1++s'::Z2)++B)).toNat:=by
        have:=G.vK (X:=X) (r:=r) (Z:=Z1) (r':=s') (Y':=Z2++B) (by rw[hR];simp)
        rw[e2,Pos.az] at this
        simp only[List.append_assoc,List.cons_append]
        omega
     have hsr:s.idx≠r.idx:=G.later hR hs
     have hid:r.nx.toNat<=id.toNat:=by
        rcases G.cmp hR hM hsr with ⟨W,rfl⟩|⟨W,hW⟩
        . rw[e3];exact G.BH hR hM
        . obtain ⟨A1,A2,hX⟩:=jK hs
          have hM2:R=A1++s::(A2++r::((Z1++s'::Z2)++B)):=by rw[hR,hX];simp
          have qX:s∈(Z1++s'::Z2)++B:=by rw[hW];simp
          exact absurd rfl (G.one A1 s _ hM2 s (List.mem_append.2 (.inr (List.mem_cons_of_mem _ qX))))
     have bO:b≠id:=by
        rintro rfl
        have:=G.XP hR
        omega
     rw[<-hf b (Md b XW)]
     exact h.N2 s' (by rw[hA];simp) (hY s' (by simp)) b y n7 s (O6 s hs) fh id aA gN bO
 have hEa:jY nK { heap:=h0,next:=n0 } w0 ρ { heap:=ia h0 (Z++B),next:=cQ n0 (Z++B) } w:=by
   refine ⟨h.E.os,h.E.tape,h.E.output,h.E.size,h.E.block,fun b y hb=> ?_⟩
   rcases rU hZ hp.bound hb with hb|⟨s',jA,n7⟩
   . rw[<-hf b (Md b (Nat.lt_of_lt_of_le (h.W.live b y hb).1 Mc))]
     exact h.E.pS b y hb
   . obtain ⟨Z1,Z2,rfl⟩:=jK jA
     have Mb:R=(X++r::Z1)++s'::(Z2++B):=by rw[hR];simp
     obtain ⟨e1,e2⟩:=G.DA Mb n7
     have XW:b.toNat<(cQ n0 ((Z1++s'::Z2)++B)).toNat:=by
        have:=G.vK (X:=X) (r:=r) (Z:=Z1) (r':=s') (Y':=Z2++B) (by rw[hR];simp)
        rw[e2,Pos.az] at this
        simp only[List.append_assoc,List.cons_append]
        omega
     rw[<-hf b (Md b XW)]
     exact .inr (h.N s' (by rw[hA];simp) (hY s' (by simp)) b y n7).2.2.1
 obtain ⟨k1,k2⟩:=Ql G hp h.t1 h.t0 hR hD hrel zL
 refine ⟨?_,fun s hs fh id aA gN=> ?_,fun s hs fh id aA gN s' jA wJ oK uY n7 bO=> ?_,k1,k2,?_,h.agree⟩
 . simp only[gZ,hc,cQ];exact di
 . have fh:=XV s hs fh
   obtain ⟨g1,g2,g3,g4,g5⟩:=h.N s (O6 s hs) fh id aA gN
   refine ⟨g1.of_heap (XU.block _ g2 (hold s hs fh id aA gN)),Nat.lt_of_lt_of_le g2 XU.size,g3,fun b y hb=> ?_,g5⟩
   simp only[gZ,hc] at hb
   rw[J5 b (by rw[HX];exact (Sk.live b y hb).1)]
   rcases XU.pS b y hb with ⟨b',y',dX,e⟩|e
   . rw[<-e];exact hold s hs fh id aA gN b' y' dX
   . omega
 . exact h.N2 s (O6 s hs) (XV s hs fh) id aA gN s' (O6 s' jA) (XV s' jA wJ) oK uY n7 bO
 . have:=(hEa.trans XU).congr (ρ':=ρ') fun b y hb=>J5 b (by rw[HX];exact (Sk.live b y hb).1)
   simp only[gZ,hc,cQ]
   exact ⟨this.os,this.tape,this.output,this.size,this.block,this.pS⟩
end
end Go.Ai
end
section
namespace Go.Ai
open Go
section
variable {P : Program} {tt : TT} {C : Cells} {nt : Nat} {ops : Array Oper} {call : ak} {bN : Fr} {h0 : T AB} {n0 : Pos} {R : List Rec}
theorem uw {ρ:Pos->Loc} {n:Pos} {w:World} (hC: ∀ad v,C ad=some v->w.cell? ad=some v) (Me: ∀a v,C a=some v-> ∀o,C ⟨a.block,o,none⟩=none->w.cell? ⟨a.block,o,none⟩=none):bn ρ C { heap:= .e,next:=n } w where
 live b x hb:=by rw[T.cG] at hb;cases hb
 inj b b' x x' hb:=by rw[T.cG] at hb;cases hb
 cj a v ha:=⟨hC a v ha,fun b x hb=>by rw[T.cG] at hb;cases hb⟩
 whole:=Me
theorem Yields.eq {N:Next} {x y:Value} (h:Yields N x) (k:Yields N y):x=y:=by
 rcases h with rfl|⟨rfl,rfl⟩<;>rcases k with k|⟨k,rfl⟩
 . simp only[Next.value.injEq] at k;exact k
 . cases k
 . cases k
 . rfl
theorem kj.Vg {ρ ρ':Pos->Loc} {n n':Nat} {L:Loc} {w:World} {s:List Nat} {p:Nat} (h:kj ρ n C L w (.iK s p)):kj ρ' n' C L w (.iK s p):=h
theorem Sq (hT:bZ P tt) {o:Oper} {k:aB} {xs:List jy} {cls:OK} (hc:fA tt o.op=some (k,xs,cls)) {n:Pos} {vs:List AV} {v:AV} {aA:AB}
  (hr:k.run (fun _=>none) n vs=some (.aE v none none (some aA))) {fr:Fr} (hx:dK fr xs=some vs) {a:Act} {w:World} {O7:(Pos->Loc)->Prop} {ρ:Pos->Loc} (aL:O7 ρ)
  (hF: ∀ρ',O7 ρ'->kK ρ' n.toNat C fr a.tmps) (hC: ∀ad v,C ad=some v->w.cell? ad=some v) (Me: ∀a v,C a=some v-> ∀o,C ⟨a.block,o,none⟩=none->w.cell? ⟨a.block,o,none⟩=none):
  ∃ N x w' L,(execOp a.eval o).run P w= .ok N w'/\Yields N x/\w.heap.size<=L.aA/\L.aA<w'.heap.size/\w'.os=w.os/\w'.tape=w.tape/\w'.output=w.output/\
    (∀k,k<w.heap.size->w'.heap[k]? =w.heap[k]?)/\ ∀ρ',O7 ρ'->ρ' n=L->ax ρ' n.succ.toNat C v x/\kj ρ' n.succ.toNat C L w' aA:=by
 have bH:k.run (fun b=>T.get b (T.e:T AB)) n vs=some (.aE v none none (some aA)):=by
  have e:(fun b=>T.get b (T.e:T AB))=fun _=>none:=by funext b;exact T.cG b
  rw[e];exact hr
 have H:=fun ρ' (hf:O7 ρ')=>EO hT o.op ρ' C { heap:= .e,next:=n } w k xs cls fr a o vs _ rfl hc (uw hC Me) (hF ρ' hf) hx bH
 have key: ∀ρ',O7 ρ'-> ∃N x w' gF,(execOp a.eval o).run P w= .ok N w'/\Yields N x/\(∀b:Pos,b.toNat<n.toNat->gF b=ρ' b)/\ax gF n.succ.toNat C v x/\
    kj gF n.succ.toNat C (gF n) w' aA/\w.heap.size<=(gF n).aA/\(gF n).aA<w'.heap.size/\w'.os=w.os/\w'.tape=w.tape/\w'.output=w.output/\
    (∀k,k<w.heap.size->w'.heap[k]? =w.heap[k]?):=by
  intro ρ' hf
  obtain ⟨N,x,w',gF,he,hy,h1,h2,h3,h4⟩:=H ρ' hf
  have hg:(St.aE { heap:= .e,next:=n } none none (some aA)).heap.get n=some aA:=T.dZ _ _ _
  obtain ⟨g1,g2,g3⟩:=h2.live n aA hg
  refine ⟨N,x,w',gF,he,hy,h1,h3,g3,?_,g2,h4.os,h4.tape,h4.output,fun k hk=>h4.block k hk fun b x hb=> ?_⟩
  . rcases h4.pS n aA hg with ⟨b',x',dX,_⟩|h
    .   rw[T.cG] at dX;cases dX
    .   exact h
  . rw[T.cG] at hb;cases hb
 obtain ⟨N,x,w',gF,he,hy,h1,h2,h3,h4,h5,h6,h7,h8,h9⟩:=key ρ aL
 refine ⟨N,x,w',gF n,he,hy,h4,h5,h6,h7,h8,h9,fun ρ' hf hL=> ?_⟩
 obtain ⟨N',x',w'',uo,kJ,Sr,k1,k2,k3,_⟩:=key ρ' hf
 rw[he] at kJ
 simp only[Result.ok.injEq] at kJ
 obtain ⟨rfl,rfl⟩:=kJ
 have Mf:=hy.eq Sr;subst Mf
 have Qo:n.toNat<n.succ.toNat:=by rw[Pos.az];omega
 have agree:(uo n).aA=(gF n).aA->(uo n).base=(gF n).base->((∃cs fz,aA= .cells cs fz)\/ ∃t cs,aA= .typed t cs)->ax ρ' n.succ.toNat C v x/\kj ρ' n.succ.toNat C (gF n) w' aA:=by
  intro e1 e2 qE
  have e3:(uo n).size=(gF n).size:=by
    rcases qE with ⟨cs,fz,rfl⟩|⟨t,cs,rfl⟩
    .   obtain ⟨c,e,fr,g1,g2,_⟩:=h3
        obtain ⟨c',e',aU,wK,Ss,_⟩:=k3
        rw[e1,g1] at wK
        simp only[Option.some.injEq,Obj.cells.injEq] at wK
        rw[<-g2, <-Ss,wK.1]
    .   obtain ⟨c,fr,g1,g2,_⟩:=h3
        obtain ⟨c',aU,wK,Ss,_⟩:=k3
        rw[e1,g1] at wK
        simp only[Option.some.injEq,Obj.cells.injEq] at wK
        rw[<-g2, <-Ss,wK.1]
  have e4:uo n=gF n:=by
    cases hh:uo n;cases hh':gF n
    rw[hh,hh'] at e1 e2 e3
    simp only at e1 e2 e3
    rw[e1,e2,e3]
  have lu: ∀b:Pos,b.toNat<n.succ.toNat->ρ' b=uo b:=by
    intro b hb
    rcases Nat.lt_or_ge b.toNat n.toNat with g|g
    .   exact (k1 b g).symm
    .   have:b=n:=Pos.toNat_inj (by rw[Pos.az] at hb;omega)
        subst this;rw[hL,e4]
  refine ⟨k2.mono lu (Nat.le_refl _),?_⟩
  rw[<-e4]
  exact k3.mono lu (Nat.le_refl _)
 cases YU hr with
 |ptr cs=>
  obtain ⟨_,g1⟩:=h2.eN
  obtain ⟨_,g2⟩:=k2.eN
  rw[g1] at g2
  simp only[Value.pointer.injEq,Option.some.injEq,Addr.mk.injEq,Nat.add_zero,and_true] at g2
  exact agree g2.1.symm g2.2.symm (.inl ⟨cs,0,rfl⟩)
 |ptrT t cs=>
  obtain ⟨_,g1⟩:=h2.eN
  obtain ⟨_,g2⟩:=k2.eN
  rw[g1] at g2
  simp only[Value.pointer.injEq,Option.some.injEq,Addr.mk.injEq,Nat.add_zero,and_true] at g2
  exact agree g2.1.symm g2.2.symm (.inr ⟨t,cs,rfl⟩)
 |Sn len t cs hl=>
  obtain ⟨ad,aH,g1,g2,g3,g4⟩:=h2.cE
  obtain ⟨ad',Qp,wK,Ss,g3',g4'⟩:=k2.cE
  rw[g1] at wK
  simp only[Value.slice.injEq,Option.some.injEq,true_and] at wK
  obtain ⟨rfl,rfl⟩:=wK
  obtain ⟨_,a1,_⟩:=g4 (by omega)
  obtain ⟨_,a2,_⟩:=g4' (by omega)
  rw[a1] at a2
  simp only[Addr.mk.injEq,Nat.add_zero,and_true] at a2
  exact agree a2.1.symm a2.2.symm (.inr ⟨t,cs,rfl⟩)
 |iK s=>
  obtain ⟨_,g1⟩:=h2.eN
  refine ⟨?_,h3.Vg⟩
  rw[g1, <-hL]
  exact .ptr n 0 Qo
 |slice len es cap cs gN=>
  obtain ⟨ad,aH,g1,g2,g3,g4⟩:=h2.cE
  obtain ⟨ad',Qp,wK,Ss,g3',g4'⟩:=k2.cE
  rw[g1] at wK
  simp only[Value.slice.injEq,Option.some.injEq,true_and] at wK
  obtain ⟨rfl,rfl⟩:=wK
  by_cases h0:aH=0
  . subst h0
    have om:len=0:=by omega
    have hcs0:cs=[]:=gN om (by
        cases cap with
        |none=>exact .inl rfl
        |some c=>exact .inr (by rw[g3 c rfl]))
    subst hcs0
    refine ⟨?_,?_⟩
    .   rw[g1];exact .slice n 0 len cap es 0 ad g2 g3 (fun h=>absurd rfl h) (fun _=>Qo)
    .   obtain ⟨c,e,fr,q1,q2,q3,q4,q5⟩:=h3
        exact ⟨c,e,fr,q1,q2,q3,aq.nil,q5⟩
  . obtain ⟨_,a1,_⟩:=g4 h0
    obtain ⟨_,a2,_⟩:=g4' h0
    rw[a1] at a2
    simp only[Addr.mk.injEq,Nat.add_zero,and_true] at a2
    exact agree a2.1.symm a2.2.symm (.inl ⟨cs,0,rfl⟩)
 |map=>
  obtain ⟨_,g1⟩:=h2.tD
  refine ⟨?_,?_⟩
  . rw[g1, <-hL];exact .map n Qo
  . obtain ⟨es',q1,q2,q3⟩:=h3
    exact ⟨es',q1,q2,fun i e e' he=>by simp at he⟩
end
end Go.Ai
end
section
namespace Go.Ai
open Go
section
variable {P : Program} {tt : TT} {C : Cells} {nt : Nat} {ops : Array Oper} {call : ak} {bN : Fr} {h0 : T AB} {n0 : Pos} {R : List Rec}
def qa (fr:Fr):List Pos->Fr
 |[]=> .e
 |p::l=>(qa fr l).put (fr.get p) p
theorem J6 {fr:Fr} {p:Pos}: ∀{l:List Pos},p∈l->(qa fr l).get p=fr.get p
 |[],h=>by cases h
 |q ::l,h=>by
  simp only[qa]
  by_cases e:q=p
  . subst e;exact T.dZ _ _ _
  . rw[T.bq _ e]
    exact J6 ((List.mem_cons.1 h).resolve_left fun h=>e h.symm)
theorem FC {fr:Fr} {p:Pos} {v:AV}: ∀{l:List Pos},(qa fr l).get p=some v->p∈l/\fr.get p=some v
 |[],h=>by simp only[qa] at h;rw[T.cG] at h;cases h
 |q ::l,h=>by
  simp only[qa] at h
  by_cases e:q=p
  . subst e;rw[T.dZ] at h;exact ⟨by simp,h⟩
  . rw[T.bq _ e] at h
    obtain ⟨h1,h2⟩:=FC h
    exact ⟨by simp[h1],h2⟩
theorem J7 {fr:Fr} {l:List Pos}: ∀{xs:List jy},(∀p,jy.t p∈xs->p∈l)->dK (qa fr l) xs=dK fr xs
 |[],_=>rfl
 |x::xs,h=>by
  have h1:um (qa fr l) x=um fr x:=by
   cases x with
   |t p=>exact J6 (h p (by simp))
   |c v=>rfl
  simp only[dK,h1,J7 fun p hp=>h p (List.mem_cons_of_mem _ hp)]
theorem Su {o:bE} {p:Pos} (h:jy.t p∈o.xs):p∈o.looks:=by
 unfold bE.looks
 exact List.mem_append_right _ (List.mem_filterMap.2 ⟨_,h,rfl⟩)
theorem Og {o:bE} {p:Pos} {q:Bool} (h:o.guard=some (p,q)):p∈o.looks:=by
 unfold bE.looks
 rw[h];simp
theorem Yields.upon {o:Oper} {a:Act} {K:Act->World->Prop} {Q:Exit->Act->World->Prop} {N:Next} {x:Value} {w:World} (h:Yields N x) (hk:K (a.put o.dst x) w):o.upon P a K Q (.ok N w):=by
 rcases h with rfl|⟨rfl,rfl⟩<;>exact hk
theorem Vh (hT:bZ P tt) (fN:jE P C call) (G:rT tt nt ops call bN h0 n0 R) {Q:Exit->Act->World->Prop} {nK:Pos->Loc} {w0:World} {D:Nat->Prop} {A B:List Rec} {ρ:Pos->Loc} {a:Act} {w:World}
  (hI:Inv C nt ops bN h0 n0 R nK w0 D A B ρ a w) {i:Nat} (hi:i<ops.size) (hD: ¬D i)
  (mV: ∀o e,ops[i]? =some o->e∈o.after->Region.binds .any e=true->D e.on):
  wpOp P ops Q i (fun a' w'=> ∃A' B' ρ',Inv C nt ops bN h0 n0 R nK w0 (fun j=>D j\/j=i) A' B' ρ' a' w') a w:=by
 obtain ⟨r,hr,rfl⟩:=G.all i hi
 obtain ⟨X,Y,hR⟩:=jK hr
 obtain ⟨o,ho,hrel,hB⟩:=G.rel r hr
 have hp:=hI.1
 have Jj: ∀b,r.o.bG.testBit b=true->D b:=fun b hb=>G.HJ hp.closed (hB.2 b hb) mV
 obtain ⟨Z,hA,J8⟩:=around G hp hR hD
 have H6: ∀ρ',(∀b,Kept n0 R D b->ρ' b=ρ b)-> ∀p v,p∈r.o.looks->(kO bN Y).get p=some v-> ∃x,a.tmps[p.toNat - 1]? =some x/\ax ρ' (cQ n0 Y).toNat C v x:=
  fun ρ' hf p v hl hv=>look G hp (hI.2 ρ' hf).t1 (hI.2 ρ' hf).t0 hR hD Jj hl hv
 have hFR: ∀ρ',(∀b,Kept n0 R D b->ρ' b=ρ b)->kK ρ' (cQ n0 Y).toNat C (qa (kO bN Y) r.o.looks) a.tmps:=fun ρ' hf p v hv=>
  let ⟨h1,h2⟩:=FC hv;H6 ρ' hf p v h1 h2
 have BI: ∀b,Kept n0 R D b->ρ b=ρ b:=fun _ _=>rfl
 have hw: ∀b,bI (kO bN Y) r.o.guard=some b->Region.wanted o (yielded ops a.tmps)=b:=fun b hb=>
  wD hrel.guard (fun p v hv ⟨q,hq⟩=>H6 ρ BI p v (Og hq) hv) hb
 have hnZ: ∀s∈Z,s.nx.toNat<=(cQ n0 Y).toNat:=fun s hs=>by
  obtain ⟨Z1,Z2,rfl⟩:=jK hs
  have:=G.vK (X:=X) (r:=r) (Z:=Z1) (r':=s) (Y':=Z2++B) (by rw[hR,J8];simp)
  rw[J8];simp only[List.append_assoc,List.cons_append];exact this
 have Mc:(cQ n0 B).toNat<=(cQ n0 Y).toNat:=by rw[J8];exact G.uv (X:=X++[r]) (by rw[hR,J8];simp)
 have hs:=Good.at (hR ▸G.L9)
 have hex: ∀xs,dK (kO bN Y) r.o.xs=some xs->dK (qa (kO bN Y) r.o.looks) r.o.xs=some xs:=fun xs hx=>by
  rw[J7 fun p hp=>Su hp];exact hx
 unfold wpOp
 simp only[ho]
 generalize hrr:r=r0 at*
 cases hs with
 |skip i' o' _ hw'=>
  rw[if_neg (by rw[hw _ hw'];simp)]
  exact ⟨A,B,ρ,J0 G hI hR hD mV hrel rfl fun ρ' _=> .JT⟩
 |pure i' o' v xs _ hw' hx JX=>
  rw[if_pos (hw _ hw')]
  refine .inl ?_
  rw[J8] at JX
  obtain ⟨h,oZ,bH⟩:=JX Z B rfl hp.bound fun s hs he=>by
    cases hb:o'.bG.testBit s.idx with
    |false=>rfl
    |   true=>
        have h1:=hp.Ma s (by rw[hA];simp[hs]) (Jj _ hb)
        rw[h1] at he;cases he
  rcases hrel.op with hc|⟨hk,_⟩
  . have H: ∀ρ',(∀b,Kept n0 R D b->ρ' b=ρ b)-> ∃N x,(execOp a.eval o).run P w= .ok N w/\Yields N x/\ax ρ' (cQ n0 Y).toNat C v x:=by
        intro ρ' hf
        have hW:=Qm G (hI.2 ρ' hf) hp.split (hp:=h) Mc fun b y hb=>(oZ b y hb).imp (fun h=>h) fun ⟨s,h1,h2,h3⟩=>
          ⟨s,by rw[hA];simp[h1],Jj _ h3,h2,hnZ s h1⟩
        exact EO hT o.op ρ' C _ w _ _ _ _ a o _ _ rfl hc hW (hFR ρ' hf) (hex xs hx) (U9 bH fun _ _ h=>h)
    obtain ⟨N,x,he,hy,hv⟩:=H ρ BI
    unfold Oper.wp
    rw[he]
    refine hy.upon ⟨A,B,ρ,J0 G hI hR hD mV hrel rfl fun ρ' hf=> ?_⟩
    obtain ⟨N',x',kJ,Sr,zL⟩:=H ρ' hf
    rw[he] at kJ
    simp only[Result.ok.injEq,and_true] at kJ
    subst kJ
    rw[hy.eq Sr];exact zL
  . rw[hk] at bH;cases bH
 |new   i' o' v aA xs _ hw' hx bH=>
  rw[if_pos (hw _ hw')]
  refine .inl ?_
  rcases hrel.op with hc|⟨hk,_⟩
  . obtain ⟨N,x,w',L,he,hy,h1,h2,h3,h4,h5,h6,h7⟩:=Sq hT hc bH (hex xs hx) (O7:=fun ρ'=> ∀b,Kept n0 R D b->ρ' b=ρ b) BI hFR
        (fun ad v ha=>((hI.2 ρ BI).W.cj ad v ha).1) (hI.2 ρ BI).W.whole
    unfold Oper.wp
    rw[he]
    exact hy.upon ⟨A,B,_,Vc G hI hR hD mV hrel rfl h1 h2 h3 h4 h5 h6 h7⟩
  . rw[hk] at bH;cases bH
 |aE i' o' v st' xs _ Va hw' hx iR=>
  rw[if_pos (hw _ hw')]
  refine .inl ?_
  rcases hrel.op with hc|⟨hk,_⟩
  . have hY: ∀s∈Y,D s.idx:=fun s hs=>Jj _ (G.aE X _ Y hR Va s hs)
    have hZ: ∀s∈Z,s.c.kq=false:=fun s hs=>hp.Ma s (by rw[hA];simp[hs]) (hY s (by rw[J8];simp[hs]))
    have hW:bn ρ C { heap:=ia h0 Y,next:=cQ n0 Y } w:=Qm G (hI.2 ρ BI) hp.split Mc fun b y hb=>by
        rw[J8] at hb
        rcases rU hZ hp.bound hb with hb|⟨s,h1,h2⟩
        . exact .inl hb
        . exact .inr ⟨s,by rw[hA];simp[h1],hY s (by rw[J8];simp[h1]),h2,hnZ s h1⟩
    have hre:=Fz hT fN hc hW (hFR ρ BI) (hex xs hx) iR
    refine hre.upon fun x w' Qn=> ?_
    obtain ⟨uo,h⟩:=Vf G hI hR hD mV hrel hY rfl rfl Qn
    exact ⟨_,_,uo,h⟩
  . exact (Reaches.bad hk iR).elim
end
end Go.Ai
end
section
namespace Go.Ai
open Go
section
variable {P : Program} {tt : TT} {C : Cells} {nt : Nat} {ops : Array Oper} {call : ak} {bN : Fr} {h0 : T AB} {n0 : Pos} {R : List Rec}
theorem J9 (G:rT tt nt ops call bN h0 n0 R) {nK:Pos->Loc} {w0:World} {D:Nat->Prop} {A B:List Rec} {ρ:Pos->Loc} {a:Act} {w:World}
   (hI:Inv C nt ops bN h0 n0 R nK w0 D A B ρ a w) (lu: ∀r∈R,D r.idx):ko nt nK C { heap:=h0,next:=n0 } w0 (kO bN R) { heap:=ia h0 R,next:=cQ n0 R } a w:=by
 obtain ⟨hp,hI⟩:=hI
 have h:=hI ρ fun _ _=>rfl
 have hZ: ∀s∈A,s.c.kq=false:=fun s hs=>hp.Ma s hs (lu s (by rw[hp.split];simp[hs]))
 have hnA: ∀s∈A,s.nx.toNat<=(cQ n0 R).toNat:=fun s hs=>by
   obtain ⟨Z1,Z2,hA⟩:=jK hs
   have:=G.uv (X:=[]) (Y:=Z1) (Z:=s::(Z2++B)) (by rw[hp.split,hA];simp)
   have e:R=Z1++s::(Z2++B):=by rw[hp.split,hA];simp
   rw[<-e] at this;exact this
 have Mc:(cQ n0 B).toNat<=(cQ n0 R).toNat:=by
   have:=G.uv (X:=[]) (Y:=A) (Z:=B) (by rw[hp.split];simp)
   rwa [<-hp.split] at this
 have Fy:n0.toNat<=(cQ n0 R).toNat:=G.Qk (X:=[]) rfl
 have oZ: ∀b x,(ia h0 R).get b=some x->(gZ h0 B).get b=some x\/ ∃s∈A,D s.idx/\s.c= .new b x/\s.nx.toNat<=(cQ n0 R).toNat:=fun b x hb=>by
   rw[hp.split] at hb
   rcases rU hZ hp.bound hb with hb|⟨s,h1,h2⟩
   . exact .inl hb
   . exact .inr ⟨s,h1,lu s (by rw[hp.split];simp[h1]),h2,hnA s h1⟩
 refine ⟨ρ,⟨Qm G h hp.split Mc oZ,?_,hp.size,hp.defers⟩,h.agree,Fy,?_⟩
 . intro p v hv
   rcases Dz R p v hv with ⟨M,s,T,hM,h2,rfl,h3⟩|⟨h1,h2⟩
   . obtain ⟨x,hx,HP⟩:=h.t1 M s T p hM (lu s (by rw[hM];simp)) h2 fun s' jA _=>h3 s' jA
     refine ⟨x,hx,HP.mono (fun _ _=>rfl) ?_⟩
     have:=G.uv (X:=[]) (Y:=M) (Z:=s::T) (by rw[hM];simp)
     rw[<-hM] at this;exact this
   . obtain ⟨x,hx,HP⟩:=h.t0 p v h1 fun s hs _=>h2 s hs
     exact ⟨x,hx,HP.mono (fun _ _=>rfl) Fy⟩
 . refine ⟨h.E.os,h.E.tape,h.E.output,h.E.size,h.E.block,fun b x hb=> ?_⟩
   rcases oZ b x hb with hb|⟨s,h1,h2,h3,_⟩
   . exact h.E.pS b x hb
   . exact .inr (h.N s h1 h2 b x h3).2.2.1
def DL (listed:Array Bool) (j:Nat):Prop:=listed.getD j false=true
theorem Sv {listed:Array Bool} {i:Nat} (hi:i<listed.size):(fun j=>DL listed j\/j=i)=DL (listed.setIfInBounds i true):=by
 funext j
 apply propext
 unfold DL
 by_cases h:j=i
 . subst h;simp[hi]
 . rw[getD_set_ne false (Ne.symm h)];simp[h]
theorem Mg {listed:Array Bool} {j:Nat} (h:listed.getD j true=false): ¬DL listed j:=by
 unfold DL
 intro h'
 rcases Nat.lt_or_ge j listed.size with hj|hj
 . simp[hj] at h h';rw[h] at h';cases h'
 . simp[Array.getElem?_eq_none hj] at h'
theorem YW {listed:Array Bool} {j:Nat} (hj:j<listed.size) (h: ¬DL listed j):listed.getD j true=false:=by
 unfold DL at h
 simp[hj] at h ⊢; exact h
theorem DB (G:rT tt nt ops call bN h0 n0 R) {listed:Array Bool} (hs:listed.size=ops.size) (hr:Region.ready .any ops listed=[]): ∀(Y X:List Rec),R=X++Y-> ∀r∈Y,DL listed r.idx
 |[],_,_,r,jB=>by cases jB
 |r ::Y  ,X,hR,r',jB=>by
  have ih:=DB G hs hr Y (X++[r]) (by rw[hR];simp)
  rcases List.mem_cons.1 jB with rfl|jB
  . obtain ⟨o,ho,_,hB⟩:=G.rel r' (by rw[hR];simp)
    have aZ:r'.idx<ops.size:=(Array.getElem?_eq_some_iff.1 ho).1
    by_cases h:DL listed r'.idx
    .   exact h
    .   exfalso
        have:r'.idx∈Region.ready .any ops listed:=mem_ready.2 ⟨YW (by omega) h,o,ho,fun e he hb=>by
         obtain ⟨s,h1,h2⟩:=G.bG X r' Y hR _ (hB.1 o ho e he hb)
         have:=ih s h1
         rw[h2] at this;exact this⟩
        rw[hr] at this;cases this
  . exact ih r' jB
theorem Ka (hT:bZ P tt) (fN:jE P C call) (G:rT tt nt ops call bN h0 n0 R) {Q:Exit->Act->World->Prop} {nK:Pos->Loc} {w0:World}
  (hQ: ∀a' w',ko nt nK C { heap:=h0,next:=n0 } w0 (kO bN R) { heap:=ia h0 R,next:=cQ n0 R } a' w'->Q .normal a' w'):
  ∀ (fuel:Nat) (listed:Array Bool) (U:List Nat) (A B:List Rec) (ρ:Pos->Loc) (a:Act) (w:World),listed.size=ops.size->U.length<=fuel->U.Nodup->(∀j,j<ops.size-> ¬DL listed j->j∈U)->
    Inv C nt ops bN h0 n0 R nK w0 (DL listed) A B ρ a w->wpAny P .any ops Q fuel listed a w
 |0,listed,U,A,B,ρ,a,w,hs,hU,_,hm,hI=>by
  have hU0:U=[]:=List.eq_nil_of_length_eq_zero (by omega)
  subst hU0
  have hr:Region.ready .any ops listed=[]:=by
    cases h:Region.ready .any ops listed with
    |nil=>rfl
    |   cons i l=>
        have hi:i∈Region.ready .any ops listed:=by rw[h];simp
        obtain ⟨h1,o,ho,_⟩:=mem_ready.1 hi
        have:=hm i (Array.getElem?_eq_some_iff.1 ho).1 (Mg h1)
        cases this
  exact ⟨hr,hQ a w (J9 G hI (DB G hs hr R [] rfl))⟩
 |fuel+1,listed,U,A,B,ρ,a,w,hs,hU,Xv,hm,hI=>by
  refine ⟨fun hr=>hQ a w (J9 G hI (DB G hs hr R [] rfl)),fun i hi=> ?_⟩
  obtain ⟨h1,o,ho,h2⟩:=mem_ready.1 hi
  have aZ:i<ops.size:=(Array.getElem?_eq_some_iff.1 ho).1
  have iR:=Vh (Q:=Q) hT fN G hI aZ (Mg h1) fun o' e yc he hb=>by
    rw[ho] at yc;simp only[Option.some.injEq] at yc;subst yc
    exact h2 e he hb
  refine wpOp_mono (fun a' w' hh=> ?_) iR
  obtain ⟨A',B',ρ',Kb⟩:=hh
  rw[Sv (by omega)] at Kb
  have hiU:i∈U:=hm i aZ (Mg h1)
  refine Ka hT fN G hQ fuel _ (U.erase i) A' B' ρ' a' w' (by simp[hs]) ?_ (Xv.erase i) (fun j hj hD=> ?_) Kb
  . rw[List.length_erase_of_mem hiU];omega
  . rw[<-Sv (by omega)] at hD
    have bO:j≠i:=fun e=>hD (.inr e)
    exact (List.mem_erase_of_ne bO).2 (hm j hj fun h=>hD (.inl h))
theorem H7 (hm:P.follows .mixedOrders=true) (hT:bZ P tt) (fN:jE P C call) (Qq:jS call):Dw P tt C call:=by
 intro nt id ops l Q fr aU st st' ρ a w hl eD h hS hQ
 obtain ⟨R,hG,hmap,Hh,afE,HX⟩:=HG (call:=call) (bN:=fr) (h0:=st.heap) (n0:=st.next) _ [] fr aU st st' h trivial rfl rfl rfl
 simp only[List.append_nil] at hG Hh afE HX
 have hst':st'={ heap:=ia st.heap R,next:=cQ st.next R }:=by cases st';simp_all
 have hlen:l.length=ops.size:=by rw[(tW hl).1,Array.length_toList]
 have H8:=FB _ 0 [] eD fun b=>by simp
 have hL:qp (wm 0 l) []=(R.map fun r=>(r.idx,r.o)).reverse:=by rw[hmap,List.reverse_reverse]
 have dec: ∀{A B:List Rec} {r:Rec},R=A++r::B->qp (wm 0 l) []=(B.map fun r=>(r.idx,r.o)).reverse++(r.idx,r.o)::(A.map fun r=>(r.idx,r.o)).reverse:=fun e=>by
   rw[hL,e];simp
 have Qr: ∀{B:List Rec} {i:Nat},i∈((B.map fun r=>(r.idx,r.o)).reverse).map (·.1)↔ ∃r∈B,r.idx=i:=fun {B i}=>by simp
 have G:rT tt nt ops call fr st.heap st.next R:=by
   refine ⟨hG,Qq,fun A r B e r' jB hi=> ?_,fun A r B e b hb=> ?_,fun A r B e hc r' jB=> ?_,fun A r B e r' jB=> ?_,fun r hr=> ?_,fun i hi=> ?_⟩
   . exact (H8.one _ _ _ _ (dec e)).2 (Qr.2 ⟨r',jB,hi⟩)
   . rcases H8.bG _ _ _ _ (dec e) b hb with h|h
     . cases h
     . exact Qr.1 h
   . exact H8.aE _ _ _ _ (dec e) hc _ (.inr (Qr.2 ⟨r',jB,rfl⟩))
   . exact H8.apart _ _ _ _ (dec e) (r'.idx,r'.o) (by simp;exact ⟨r',jB,rfl,rfl⟩)
   . obtain ⟨A,B,e⟩:=jK hr
     have hx:(r.idx,r.o)∈qp (wm 0 l) []:=by rw[dec e];simp
     have h1:=YV hx
     obtain ⟨o,h2,h3,h4⟩:=LY hl _ _ h1
     refine ⟨o,h2,h3,?_⟩
     rw[h4]
     exact O2 ops.toList [] rfl (Nat.zero_le _) (fun i hi=>by simp at hi) _ (Array.getElem?_eq_some_iff.1 h2).1
   . rcases H8.all i (by rw[hlen];exact hi) with h|h
     . cases h
     . rw[hL] at h;exact Qr.1 h
 refine wp_region_any hm ?_
 rw[hst',Hh] at hQ
 have hkn: ∀b:Pos,b.toNat<st.next.toNat-> ∀D,Kept st.next R D b:=fun b hb D A r B e _=> .inl (Nat.lt_of_lt_of_le hb (G.Qk (X:=A++[r]) (by rw[e];simp)))
 refine Ka (Q:=Q) (nK:=ρ) (w0:=w) hT fN G hQ ops.size _ (List.range ops.size) R [] ρ a _ (by simp) (by simp) List.nodup_range (fun j hj _=>List.mem_range.2 hj) ?_
 have jz: ∀j,¬DL (Array.replicate ops.size false) j:=fun j h=>by
   unfold DL at h
   rcases Nat.lt_or_ge j ops.size with hj|hj
   . simp[hj] at h
   . simp[Nat.not_lt.2 hj] at h
 refine ⟨⟨by simp,trivial,(fun r hr=>by cases hr),fun r _ hD=>absurd hD (jz _),fun i _ _ hD=>absurd hD (jz _),hS.size,hS.defers⟩,fun ρ' tI=> ?_⟩
 have mK: ∀b:Pos,b.toNat<st.next.toNat->ρ' b=ρ b:=fun b hb=>tI b (hkn b hb _)
 have hW:bn ρ' C st { w with drawn:=w.drawn+1 }:=(hS.W.congr mK).grow (Nat.le_refl _) fun _ _=>rfl
 refine ⟨hW,fun r _ hD=>absurd hD (jz _),fun r _ hD=>absurd hD (jz _),fun M s T p _ hD=>absurd hD (jz _),fun p v hv _=> ?_,⟨rfl,rfl,rfl,Nat.le_refl _,fun _ _ _=>rfl,fun b x hb=> .inl ⟨b,x,hb,?_⟩⟩,mK⟩
 . obtain ⟨x,hx,HP⟩:=hS.F p v hv
   exact ⟨x,hx,HP.mono mK (Nat.le_refl _)⟩
 . rw[mK b (hS.W.live b x hb).1]
theorem vL (hm:P.follows .mixedOrders=true) (hT:bZ P tt) {O:eE} {G:T aN} (hO:nS P C O) (FD:ji O) (hG:Hz P tt G) (m d:Nat):jE P C (lR O G m d):=
 FA hT hO hG m (fun d fN=>H7 hm hT fN (vJ FD m d)) d
end
end Go.Ai
end
section
namespace Go.Ai
section
variable {R : Type}
theorem vR {α:Type}: ∀(p:Pos) (t:T α),wo p t=t.get p
 | .h,.e=>rfl
 | .h,.n _ _ _=>rfl
 | .o _,.e=>rfl
 | .o p,.n l _ _=>vR p l
 | .i _,.e=>rfl
 | .i p,.n _ _ r=>vR p r
theorem lA {α:Type} (x:Option α): ∀(p:Pos) (t:T α) (k:T α->R),tu x p t k=k (t.put x p)
 | .h,.e,_=>rfl
 | .h,.n _ _ _,_=>rfl
 | .o p,.e,k=>lA x p .e _
 | .o p,.n l _ _,k=>lA x p l _
 | .i p,.e,k=>lA x p .e _
 | .i p,.n _ _ r,k=>lA x p r _
theorem tZ (n:Nat) (k:Nat->R):mB n k=k n:=by cases n<;>rfl
theorem Oh (n:Int) (k:Int->R):F4 n k=k n:=by cases n<;>simp only[F4,tZ]
theorem Mh (b:Bool) (k:Bool->R):JK b k=k b:=by cases b<;>rfl
theorem yg {α:Type}: ∀(l:List α) (k:List α->R),rJ l k=k l
 |[],_=>rfl
 |a::l,k=>yg l fun t=>k (a::t)
theorem yX: ∀(p:Pos) (k:Pos->R),Bp p k=k p
 | .h,_=>rfl
 | .o p,k=>yX p fun q=>k (.o q)
 | .i p,k=>yX p fun q=>k (.i q)
theorem Sw (o:Option Nat) (k:Option Nat->R):Lu o k=k o:=by
 cases o with
 |none=>rfl
 |some n=>simp only[Lu,tZ]
theorem Kc (v:AV) (k:AV->R):Dn v k=k v:=by
 cases v<;>simp only[Dn,Mh,Oh,yg,yX,tZ,Sw]
theorem BJ: ∀(l:List AV) (k:List AV->R),EI l k=k l
 |[],_=>rfl
 |a::l,k=>by
  show Dn a (fun a=>EI l fun t=>k (a::t))=_
  rw[Kc,BJ l]
theorem yh (v:AV) (k:AV->R):ot v k=k v:=by
 unfold ot
 split
 . exact BJ _ _
 . exact Kc _ _
theorem BK (x:AB) (k:AB->R):vP x k=k x:=by
 cases x<;>simp only[vP,yg,tZ]
theorem Gd: ∀(p:Pos) (k:Pos->R),Lb p k=k p.succ
 | .h,_=>rfl
 | .o _,_=>rfl
 | .i p,k=>Gd p fun q=>k (.o q)
variable (z : R)
def pT {α:Type} (r:Option α) (k:α->R):R:=match r with
 |some x=>k x
 |none=>z
theorem Sx (fr:Fr) (x:jy) (k:AV->R):RL z fr x k=pT z (um fr x) k:=by
 cases x with
 |t p=>simp only[RL,vR,um,pT];cases T.get p fr<;>rfl
 |c v=>rfl
theorem Jk (fr:Fr): ∀(xs:List jy) (k:List AV->R),Jb z fr xs k=pT z (dK fr xs) k
 |[],k=>rfl
 |x::xs,k=>by
  show RL z fr x (fun v=>Jb z fr xs fun vs=>k (v::vs))=_
  rw[Sx]
  simp only[Jk fr xs]
  simp only[dK]
  cases um fr x with
  |none=>rfl
  |some v=>simp only[pT];cases dK fr xs<;>rfl
theorem H9 (fr:Fr) (g:Option (Pos×Bool)) (yes no:R):vQ z fr g yes no=match bI fr g with
  |some true=>yes
  |some false=>no
  |none=>z:=by
 unfold vQ bI
 cases g with
 |none=>rfl
 |some g=>
  obtain ⟨p,want⟩:=g
  simp only[vR]
  cases T.get p fr with
  |none=>rfl
  |some v=>
   cases v<;>try rfl
   rename_i b
   cases b<;>cases want<;>rfl
theorem Ia (fr:Fr) (d:Option Pos) (v:AV) (k:Fr->R):iW fr d v k=k (cJ fr d v):=by
 cases d with
 |none=>rfl
 |some p=>exact lA _ _ _ _
theorem YX (st:St) (del:Option Pos) (set:Option (Pos×AB)) (new:Option AB) (k:St->R):UQ st del set new k=k (st.aE del set new):=by
 have hdel: ∀(h:T AB) (k:T AB->R),delK del h k=k (uV del h):=fun h k=>by
  cases del with
  |none=>rfl
  |some b=>exact lA _ _ _ _
 have tF: ∀(h:T AB) (k:T AB->R),UP set h k=k (wk set h):=fun h k=>by
  cases set with
  |none=>rfl
  |some b=>simp only[UP,BK,lA];rfl
 unfold UQ
 rw[hdel,tF]
 cases new with
 |none=>rfl
 |some x=>simp only[BK,lA,Gd];rfl
def CK (jr:vG R) (call:ak):Prop:= ∀f args st k,jr f args st k=pT z (call f args st) fun x=>k x.1 x.2
variable {jr : vG R} {call : ak}
theorem BL (h:T AB):(fun b=>wo b h)=fun b=>h.get b:=funext fun b=>vR b h
theorem Mi (hc:CK z jr call) (op:aB) (xs:List AV) (st:St) (k:AV->St->R):EJ z jr op xs st k=pT z (bS call op xs st) fun x=>k x.1 x.2:=by
 unfold EJ bS
 rw[BL]
 cases op.run (fun b=>st.heap.get b) st.next xs with
 |none=>rfl
 |some r=>
  cases r with
  |val v=>simp only[yh];rfl
  |aE v d s n=>simp only[yh,YX];rfl
  |call f args=>simp only[yg];exact hc f args st k
theorem O8 (hc:CK z jr call): ∀(ops:List bE) (fr:Fr) (st:St) (k:Fr->St->R),PX z jr ops fr st k=pT z (iw call ops fr st) fun x=>k x.1 x.2
 |[],fr,st,k=>rfl
 |o::os,fr,st,k=>by
  show vQ z fr o.guard (Jb z fr o.xs fun xs=>EJ z jr o.k xs st fun v st=>iW fr o.dst v fun fr=>PX z jr os fr st k) (iW fr o.dst .undef fun fr=>PX z jr os fr st k)=_
  rw[H9,Jk]
  simp only[Mi z hc,Ia,O8 hc os]
  simp only[iw]
  cases bI fr o.guard with
  |none=>rfl
  |some b=>
   cases b with
   |false=>rfl
   |    true=>
        simp only[]
        cases dK fr o.xs with
        |none=>rfl
        |some xs=>
         simp only[pT]
         cases bS call o.k xs st with
         |none=>rfl
         |some x=>rfl
theorem wL (bG:Nat) (h:T AB): ∀(recs:List Rec) (k:T AB->R),Bq bG h recs k=k (snap bG h recs)
 |[],k=>rfl
 |r::rs,k=>by
  show (match r.c with
   |    .new id aA=>match bG.testBit r.idx with
        |true=>Bq bG h rs fun h'=>tu (some aA) id h' k
        |false=>Bq bG h rs k
   | .aE _ _=>k h
   | .pure=>Bq bG h rs k)=_
  unfold snap
  cases r.c with
  |pure=>exact wL bG h rs k
  |aE _ _=>rfl
  |new id aA=>
   simp only[]
   cases bG.testBit r.idx with
   |true=>simp only[wL bG h rs,lA]
   |false=>exact wL bG h rs k
theorem Ke (h:T AB): ∀(l:List (Pos×AB)) (k:T AB->R),Lv h l k=k (fo l h)
 |[],k=>rfl
 |(id,aA)::l,k=>by
  show Lv h l (fun h'=>tu (some aA) id h' k)=_
  rw[Ke h l,lA];rfl
theorem rV (bG:Nat) (op:aB) (xs:List AV) (v:AV): ∀(recs:List Rec) (up:List (Pos×AB)),nF bG op xs v up recs=iV bG op xs v up recs
 |[],up=>rfl
 |r::rs,up=>by
  unfold nF iV
  cases r.c with
  |pure=>exact rV bG op xs v rs up
  |new id aA=>simp only[rV bG op xs v rs]<;>(cases bG.testBit r.idx<;>rfl)
  |aE base _=>
   simp only[rV bG op xs v rs,wL,Ke]
   unfold Lw fL
   simp only[BL]<;>(cases bG.testBit r.idx<;>rfl)
theorem Mj (hc:CK z jr call): ∀(ops:List (Nat×bE)) (recs:List Rec) (base:T AB) (fr:Fr) (st:St) (k:Fr->St->R),
  Br z jr ops recs base fr st k=pT z (cH call ops recs base fr st) fun x=>k x.1 x.2
 |[],recs,base,fr,st,k=>rfl
 |(j,   o)::  os,recs,base,fr,st,k=>by
  show vQ   z fr o.guard
    (Jb   z fr o.xs fun xs=>match o.cls with
        | .new=>match o.k.run (fun _=>none) st.next xs with
          |some (.aE v none none (some aA))=>ot v fun v=>vP aA fun aA=>iW fr o.dst v fun fr=>Lb st.next fun n=>tu (some aA) st.next st.heap fun h=>
              Br z jr os ({ idx:=j,o:=o,v:=v,c:= .new st.next aA,nx:=n }::recs) base fr { heap:=h,next:=n } k
          |_=>z
        | .aE=>EJ z jr o.k xs st fun v st'=>iW fr o.dst v fun fr=>Br z jr os ({ idx:=j,o:=o,v:=v,c:= .aE base st'.heap,nx:=st'.next }::recs) st'.heap fr st' k
        | _ =>match o.k.run (fun _=>none) .h xs with
          |some (.val v)=>ot v fun v=>iW fr o.dst v fun fr=>Br z jr os ({ idx:=j,o:=o,v:=v,c:= .pure,nx:=st.next }::recs) base fr st k
          | _ =>Bq o.bG base recs fun h=>match o.k.run (fun b=>wo b h) .h xs with
            | some (.val v)=>ot v fun v=>match nF o.bG o.k xs v [] recs with
              |true=>iW fr o.dst v fun fr=>Br z jr os ({ idx:=j,o:=o,v:=v,c:= .pure,nx:=st.next }::recs) base fr st k
              |false=>z
            |_=>z)
    (iW fr o.dst .undef fun fr=>Br z jr os ({ idx:=j,o:=o,v:= .undef,c:= .pure,nx:=st.next }::recs) base fr st k)=_
  rw[H9,Jk]
  simp only[Mi z hc,Ia,yh,BK,Gd,lA,wL,rV,BL,Mj hc os]
  simp only[cH]
  cases bI fr o.guard with
  |none=>rfl
  | some b=>
    cases b with
    |false=>rfl
    |   true=>
        simp only[]
        cases dK fr o.xs with
        |none=>rfl
        | some xs=>
          simp only[pT]
          cases o.cls with
          | new=>
            simp only[]
            split<;>simp_all
          | aE=>
            simp only[]
            cases bS call o.k xs st with
            |none=>rfl
            |some x=>rfl
          | pure=>
            simp only[]
            split
            . simp_all
            . split<;>simp_all
              split<;>simp_all
          | read=>
            simp only[]
            split
            . simp_all
            . split<;>simp_all
              split<;>simp_all
def Ml (r:Option (lQ×Fr×St)) (kn:Fr->St->R) (kx:Nat->Fr->St->R) (kr:Fr->St->R):R:=match r with
 |some (.normal,fr,st)=>kn fr st
 |some (.exit id,fr,st)=>kx id fr st
 |some (.ret,fr,st)=>kr fr st
 |none=>z
theorem Mm (hc:CK z jr call): ∀(m:Nat) (c:AC) (fr:Fr) (st:St) (kn:Fr->St->R) (kx:Nat->Fr->St->R) (kr:Fr->St->R),
  Ld z jr m c fr st kn kx kr=Ml z (exec call m c fr st) kn kx kr
 |0,c,fr,st,kn,kx,kr=>rfl
 |m+    1,c,fr,st,kn,kx,kr=>by
  have ih:=Mm hc m
  show nG z jr (Ld z jr m) c fr st kn kx kr=Ml z (aQ call (exec call m) c fr st) kn kx kr
  cases c with
  |skip=>rfl
  |region ops=>
   simp only[nG,aQ,O8 z hc]
   cases iw call ops fr st with
   |none=>rfl
   |some x=>rfl
  |draw ops=>
   simp only[nG,aQ,Mj z hc]
   cases cH call ops [] st.heap fr st with
   |none=>rfl
   |some x=>rfl
  |seq a b=>
   simp only[nG,aQ,ih]
   cases exec call m a fr st with
   |none=>rfl
   |    some x=>
        obtain ⟨e,fe,bu⟩:=x
        cases e<;>rfl
  |cond x a b=>
   simp only[nG,aQ,Sx]
   cases um fr x with
   |none=>rfl
   |    some v=>
        simp only[pT]
        cases v<;>try rfl
        rename_i t
        cases t<;>simp only[ih]
  |block id a=>
   simp only[nG,aQ,ih]
   cases exec call m a fr st with
   |none=>rfl
   |    some x=>
        obtain ⟨e,fe,bu⟩:=x
        cases e<;>try rfl
        rename_i oK
        simp only[Ml]
        cases Nat.beq oK id<;>rfl
  |loop a=>
   simp only[nG,aQ,ih]
   cases exec call m a fr st with
   |none=>rfl
   |    some x=>
        obtain ⟨e,fe,bu⟩:=x
        cases e<;>rfl
  |exit id=>rfl
  |ret=>rfl
theorem Ib: ∀(vs:List AV) (i:Nat) (fr:Fr) (k:Fr->R),EK vs i fr k=k (params i vs fr)
 |[],i,fr,k=>rfl
 |v::vs,i,fr,k=>by
  show tu (some v) (key i) fr (fun fr=>EK vs (i+1) fr k)=_
  rw[lA,Ib vs];rfl
theorem Oi (st:St) (fr:Fr) (rs:List G9) (k:AV->R):tv z st fr rs k=pT z (eV (fun b=>st.heap.get b) fr rs) fun vs=>k (rD vs):=by
 unfold tv
 rw[BL]
 cases eV (fun b=>st.heap.get b) fr rs with
 |none=>rfl
 |some vs=>
  simp only[BJ,pT]
  cases vs with
  |nil=>rfl
  |cons v vs=>cases vs<;>rfl
theorem BM (O:eE) (G:T aN) (m:Nat): ∀d,CK z (EL z O G m d) (lR O G m d)
 |0=>fun f args st k=>rfl
 |d+    1=>fun f args st k=>by
  have ih:=BM O G m d
  show ( match O f with
   |    some s=>match s args st with
        |some (v,st')=>ot v fun v=>k v st'
        |none=>z
   |    none=>match wo (key f) G with
        |some F=>match Nat.beq args.length F.nparams with
         |true=>EK args 0 .e fun fr=>Ld z (EL z O G m d) m F.code fr st
             (fun fr st=>tv z st fr F.results fun v=>k v st)
             (fun _ _ _=>z)
             (fun fr st=>tv z st fr F.results fun v=>k v st)
         |false=>z
        |none=>z)=_
  simp only[lR,yh,vR,Ib,Mm z ih,Oi]
  cases O f with
  |some s=>
   simp only[]
   cases s args st with
   |none=>rfl
   |some x=>rfl
  |none=>
   simp only[]
   cases G.get (key f) with
   |none=>rfl
   |    some F=>
        simp only[]
        cases Nat.beq args.length F.nparams with
        |false=>rfl
        |true=>
         simp only[]
         cases exec (lR O G m d) m F.code (params 0 args .e) st with
         |none=>rfl
         |  some x=>
            obtain ⟨e,fe,bu⟩:=x
            cases e with
            |normal=>
             simp only[Ml]
             cases eV (fun b=>bu.heap.get b) fe F.results<;>rfl
            |exit id=>rfl
            |ret=>
             simp only[Ml]
             cases eV (fun b=>bu.heap.get b) fe F.results<;>rfl
end
end Go.Ai
end
section
namespace Go.Ai
open Go
def Qt (P:Program) (t:Nat) (ti:TI):Bool:=
 match P.underlying t,P.info? t with
 |  some d,some i=>bw ti.k d&&Nat.beq i.size ti.size&&Nat.beq i.bytes ti.bytes&&
    (match ti.zero with
     |none=>true
     | some z=>match i.zero with
       |some v=>(match nE v.cells.toList with
           |some z'=>oQ z' z
           |none=>false)&&Nat.beq z.length ti.size&&(match ti.k.isAgg,v with
           |true,.agg _=>true
           |true,_=>false
           |false,.agg _=>false
           |false,_=>true)
       |none=>false)&&(match ti.k with
     | .ptr e=>(P.info? e).isSome
     |_=>true)&&(!ti.uW||(!P.stoodInHeld t&& !P.eqGuardType P.depth t))
 |_,_=>false
theorem Vi {P:Program} {t:Nat} {ti:TI} (h:Qt P t ti=true):PY P t ti:=by
 unfold Qt at h
 split at h<;>first|(cases h;done)|skip
 rename_i d i hd hi
 simp only[Bool.and_eq_true,Bool.or_eq_true,Bool.not_eq_true'] at h
 obtain ⟨⟨⟨⟨⟨h1,h2⟩,h3⟩,h4⟩,h6⟩,h5⟩:=h
 refine ⟨⟨d,hd,h1⟩,⟨i,hi,Nat.eq_of_beq_eq_true h2,Nat.eq_of_beq_eq_true h3,fun z hz=> ?_⟩,fun e he=> ?_,fun he=> ?_⟩
 . rw[hz] at h4
   simp only at h4
   split at h4<;>first|(cases h4;done)|skip
   rename_i v hv
   simp only[Bool.and_eq_true] at h4
   obtain ⟨⟨g1,g2⟩,g3⟩:=h4
   split at g1<;>first|(cases g1;done)|skip
   rename_i z' sK
   rw[tY g1] at sK
   refine ⟨v,hv,sK,Nat.eq_of_beq_eq_true g2,fun ha=> ?_,fun ha=> ?_⟩
   . rw[ha] at g3;cases v<;>first|exact ⟨_,rfl⟩|cases g3
   . rw[ha] at g3;cases v<;>first|rfl|cases g3
 . rw[he] at h6
   exact Option.isSome_iff_exists.1 h6
 . rcases h5 with h5|h5
   . rw[he] at h5;cases h5
   . exact h5
def vS (P:Program):(Pos->Pos)->T TI->Bool
 |_,.e=>true
 |  f,.n l v r=>(match v with
    |some ti=>Qt P ((f .h).toNat - 1) ti
    |none=>true)&&vS P (fun p=>f (.o p)) l&&vS P (fun p=>f (.i p)) r
theorem BN {P:Program}: ∀{t:T TI} {f:Pos->Pos},vS P f t=true-> ∀p ti,t.get p=some ti->PY P ((f p).toNat - 1) ti
 | .e,f,_,p,ti,h=>by rw[T.cG] at h;cases h
 | .n l v r,f,hc,p,ti,h=>by
   simp only[vS,Bool.and_eq_true] at hc
   cases p with
   |h=>simp only[T.get] at h;rw[h] at hc;exact Vi hc.1.1
   |o p=>exact BN hc.1.2 p ti h
   |i p=>exact BN hc.2 p ti h
theorem YY {P:Program} {tt:TT} (h:vS P (fun p=>p) tt=true):bZ P tt:=fun p ti hp=>BN h p ti hp
def ah (P:Program) (tt:TT) (f:Pos->Pos) (t:T aN):Prop:=
 ∀p F,t.get p=some F-> ∃fn,P.funcs[(f p).toNat - 1]? =some fn/\(fn.name== "runtime.NumGoroutine")=false/\aj tt fn=some F
def vM (P:Program) (tt:TT) (i:Nat) (v:Option aN):Prop:=
 ∀F,v=some F-> ∃fn,P.funcs[i]? =some fn/\(fn.name== "runtime.NumGoroutine")=false/\aj tt fn=some F
theorem ah.e {P:Program} {tt:TT} {f:Pos->Pos}:ah P tt f .e:=fun p F h=>by rw[T.cG] at h;cases h
theorem ah.n {P:Program} {tt:TT} {f:Pos->Pos} {l r:T aN} {v:Option aN} (hl:ah P tt (fun p=>f (.o p)) l) (hv:vM P tt ((f .h).toNat - 1) v) (hr:ah P tt (fun p=>f (.i p)) r):
  ah P tt f (.n l v r):=fun p F h=>by
 cases p with
 |h=>exact hv F h
 |o p=>exact hl p F h
 |i p=>exact hr p F h
theorem vM.none {P:Program} {tt:TT} {i:Nat}:vM P tt i none:=fun F h=>by cases h
theorem vM.of {P:Program} {tt:TT} {i:Nat} {fn:Func} (h:P.funcs[i]? =some fn) (hn:(fn.name== "runtime.NumGoroutine")=false):vM P tt i (aj tt fn):=
 fun F hF=>⟨fn,h,hn,hF⟩
theorem adm {P:Program} {tt:TT} {G:T aN} (h:ah P tt (fun p=>p) G):Hz P tt G:=fun p F hp=>h p F hp
end Go.Ai
end
section
namespace Go.Ai
open Go
structure mC (P:Program) (C:Cells) (f:FuncId) (s:List AV->St->Option (AV×St)):Prop where
 mono: ∀args st v st',s args st=some (v,st')->st.next.toNat<=st'.next.toNat
 runs: ∀(ρ:Pos->Loc) (st:St) (w:World) (args:List AV) (v:AV) (st':St) (bl:List Value),s args st=some (v,st')->
  bn ρ C st w->aq ρ st.next.toNat C args bl->Reaches P (iX ρ C st w v st') ((callFunc f bl.toArray).run P w)
def qt:List (Nat×(List AV->St->Option (AV×St)))->eE
 |[]=>fun _=>none
 |  (g,s)::l=>fun f=>match Nat.beq f g with
    |true=>some s
    |false=>qt l f
theorem th {P:Program} {C:Cells}: ∀{l:List (Nat×(List AV->St->Option (AV×St)))},(∀x∈l,mC P C x.1 x.2)->nS P C (qt l)/\ji (qt l)
 |[],_=>⟨fun f s h=>by simp[qt] at h,fun f s h=>by simp[qt] at h⟩
 |(g,   s0)::l,hl=>by
  obtain ⟨h1,h2⟩:=th fun x hx=>hl x (List.mem_cons_of_mem _ hx)
  have h0:=hl _ (List.mem_cons_self ..)
  refine ⟨fun f s h=> ?_,fun f s h=> ?_⟩
  . simp only[qt] at h
    split at h
    .   rename_i he
        simp only[Option.some.injEq] at h;subst h
        have:=Nat.eq_of_beq_eq_true he;subst this
        exact h0.runs
    .   exact h1 f s h
  . simp only[qt] at h
    split at h
    .   simp only[Option.some.injEq] at h;subst h
        exact h0.mono
    .   exact h2 f s h
def uZ:List AV->St->Option (AV×St)
 |  [.str a,.str b],st=>some (.int .i64 (match dY a b with
    |true=> .negSucc 0
    |false=>match dY b a with
     |true=> .ofNat 1
     |false=> .ofNat 0),st)
 |_,_=>none
theorem DC: ∀(x y:List UInt8),Lib.compareBytes x y=match dY (x.map UInt8.toNat) (y.map UInt8.toNat) with
  |true=> .negSucc 0
  | false=>match dY (y.map UInt8.toNat) (x.map UInt8.toNat) with
    |true=> .ofNat 1
    |false=> .ofNat 0
 |[],[]=>rfl
 |[],_::_=>rfl
 |_::_,[]=>rfl
 |a ::x  ,b::y=>by
  rw[oF,oF]
  have ih:=DC x y
  rw[oF,oF] at ih
  simp only[Lib.compareBytes,Op.bytesLess]
  by_cases h:a<b
  . simp[h]
  . by_cases h':b<a
    .   have bO:(a==b)=false:=by
         rw[beq_eq_false_iff_ne]
         exact fun e=>by subst e;exact h h'
        simp[h,h',bO]
    .   have he:a=b:=by
         apply UInt8.toNat_inj.1
         rw[UInt8.lt_iff_toNat_lt] at h h'
         omega
        subst he
        simp only[h,if_false,ih]
        simp
theorem Vj {P:Program} {C:Cells} {f:FuncId} {fn:Func} (hf:P.funcs[f]? =some fn) (lT:(fn.name== "runtime.NumGoroutine")=false) (hb:fn.body.isNone=true)
  (hx:Extern.findNext fn=none) (he:Extern.find fn=some Extern.BytealgCompare.compare):mC P C f uZ where
 mono args st v st' h:=by
  unfold uZ at h
  split at h<;>cases h
  exact Nat.le_refl _
 runs ρ st w args v st' bl h hW hv:=by
  unfold uZ at h
  split at h<;>cases h
  rename_i a b
  obtain ⟨x,xs,rfl,h1,h2⟩:=hv.cons_inv
  obtain ⟨y,ys,rfl,h3,h4⟩:=h2.cons_inv
  have:=h4.iE;subst this
  obtain ⟨s,rfl,hs⟩:=h1.cv
  obtain ⟨t,rfl,ht⟩:=h3.cv
  have bH:(callFunc f [Value.string s,Value.string t].toArray).run P w= .ok (.value (.int .i64 (Lib.compareBytes s.data.toList t.data.toList))) w:=by
   rw[run_callFunc_extern hf lT hb hx he]
   show ((Extern.BytealgCompare.compare #[.string s,.string t]).run P w).andThen _=_
   rw[Lib.run_compareString]
   rfl
  rw[bH]
  refine ⟨ρ,?_,fun _ _=>rfl,Nat.le_refl _,hW,jY.refl _ _ _⟩
  rw[DC,hs,ht]
  exact .int _ _
end Go.Ai
end
section
namespace Go.Ai
open Go
theorem bn.sub {ρ:Pos->Loc} {C:Cells} {st:St} {w:World} (h:bn ρ C st w) {h2:T AB} (hs: ∀b x,h2.get b=some x->st.heap.get b=some x):bn ρ C { heap:=h2,next:=st.next } w where
 live b x hb:=h.live b x (hs b x hb)
 inj b b' x x' hb dX he:=h.inj b b' x x' (hs b x hb) (hs b' x' dX) he
 cj a v ha:=⟨(h.cj a v ha).1,fun b x hb=>(h.cj a v ha).2 b x (hs b x hb)⟩
 whole:=h.whole
theorem iX.frame {ρ:Pos->Loc} {C:Cells} {st st':St} {w w':World} {v:AV} {x:Value} {h0 h2:T AB} (hW:bn ρ C st w) (oZ: ∀b y,h0.get b=some y->st.heap.get b=some y)
   (h:iX ρ C { heap:=h0,next:=st.next } w v st' x w')
   (Sy: ∀b y,h2.get b=some y->st'.heap.get b=some y\/(st.heap.get b=some y/\h0.get b=none)):
   iX ρ C st w v { heap:=h2,next:=st'.next } x w':=by
 obtain ⟨ρ',hv,aL,hn,di,hE⟩:=h
 have hold: ∀b y,st.heap.get b=some y->h0.get b=none-> ∀b' y',h0.get b'=some y'->(ρ b').aA≠(ρ b).aA:=fun b y hb rK b' y' dX e=>by
   have:=hW.inj b' b y' y (oZ b' y' dX) hb e
   subst this;rw[rK] at dX;cases dX
 have Sz: ∀b y b' y',st'.heap.get b=some y->st.heap.get b'=some y'->h0.get b'=none->(ρ' b).aA≠(ρ' b').aA:=fun b y b' y' hb dX rK e=>by
   rw[aL b' (hW.live b' y' dX).1] at e
   rcases hE.pS b y hb with ⟨b2,y2,g1,g2⟩|g1
   . exact hold b' y' dX rK b2 y2 g1 (g2.trans e)
   . have:=(hW.live b' y' dX).2.1;omega
 refine ⟨ρ',hv,aL,hn,⟨fun b y hb=> ?_,fun b b' y y' hb dX he=> ?_,fun a u ha=>⟨(di.cj a u ha).1,fun b y hb=> ?_⟩,di.whole⟩,⟨hE.os,hE.tape,hE.output,hE.size,fun k hk jz=> ?_,fun b y hb=> ?_⟩⟩
 . rcases Sy b y hb with hb|⟨hb,rK⟩
   . exact di.live b y hb
   . obtain ⟨g1,g2,g3⟩:=hW.live b y hb
     refine ⟨Nat.lt_of_lt_of_le g1 hn,?_,?_⟩
     .  rw[aL b g1];exact Nat.lt_of_lt_of_le g2 hE.size
     .  rw[aL b g1]
        exact (g3.mono aL hn).of_heap (hE.block _ g2 fun b' y' dX=>hold b y hb rK b' y' dX)
 . rcases Sy b y hb with hb|⟨hb,rK⟩<;>rcases Sy b' y' dX with dX|⟨dX,hb0'⟩
   . exact di.inj b b' y y' hb dX he
   . exact absurd he (Sz b y b' y' hb dX hb0')
   . exact absurd he.symm (Sz b' y' b y dX hb rK)
   . rw[aL b (hW.live b y hb).1,aL b' (hW.live b' y' dX).1] at he
     exact hW.inj b b' y y' hb dX he
 . rcases Sy b y hb with hb|⟨hb,rK⟩
   . exact (di.cj a u ha).2 b y hb
   . rw[aL b (hW.live b y hb).1];exact (hW.cj a u ha).2 b y hb
 . exact hE.block k hk fun b y hb=>jz b y (oZ b y hb)
 . rcases Sy b y hb with hb|⟨hb,rK⟩
   . rcases hE.pS b y hb with ⟨b',y',g1,g2⟩|g1
     .  exact .inl ⟨b',y',oZ b' y' g1,g2⟩
     .  exact .inr g1
   . exact .inl ⟨b,y,hb,by rw[aL b (hW.live b y hb).1]⟩
def ux:List AV->List AV->Bool
 |[],[]=>true
 |a::x,b::y=>ki a b&&ux x y
 |_,_=>false
theorem yj: ∀{a b:List AV},ux a b=true->a=b
 |[],[],_=>rfl
 |[],_::_,h=>by simp[ux] at h
 |_::_,[],h=>by simp[ux] at h
 |a::x,b::y,h=>by
  simp only[ux,Bool.and_eq_true] at h
  rw[tH h.1,yj h.2]
def BO:List (AV×AV×Nat)->List (AV×AV×Nat)->Bool
 |[],[]=>true
 |(a,b,n)::x,(a',b',n')::y=>ki a a'&&ki b b'&&Nat.beq n n'&&BO x y
 |_,_=>false
theorem Ge: ∀{a b:List (AV×AV×Nat)},BO a b=true->a=b
 |[],[],_=>rfl
 |[],_::_,h=>by simp[BO] at h
 |_::_,[],h=>by simp[BO] at h
 |(a,b,n)::x,(a',b',n')::y,h=>by
  simp only[BO,Bool.and_eq_true] at h
  obtain ⟨⟨⟨h1,h2⟩,h3⟩,h4⟩:=h
  rw[tH h1,tH h2,Nat.eq_of_beq_eq_true h3,Ge h4]
def Qu:AB->AB->Bool
 | .cells cs fz,.cells mT fz'=>ux cs mT&&Nat.beq fz fz'
 | .map es c,.map es' c'=>BO es es'&&Nat.beq c c'
 | .iK s p,.iK s' p'=>fT s s'&&Nat.beq p p'
 | .typed t cs,.typed t' mT=>ux cs mT&&Nat.beq t t'
 |_,_=>false
theorem Vk {a b:AB} (h:Qu a b=true):a=b:=by
 unfold Qu at h
 split at h<;>(try simp only[Bool.and_eq_true] at h)
 . rw[yj h.1,Nat.eq_of_beq_eq_true h.2]
 . rw[Ge h.1,Nat.eq_of_beq_eq_true h.2]
 . rw[fU.1 h.1,Nat.eq_of_beq_eq_true h.2]
 . rw[yj h.1,Nat.eq_of_beq_eq_true h.2]
 . cases h
def hasAll (h:T AB):List (Pos×AB)->Bool
 |[]=>true
 |  (b,x)::l=>(match h.get b with
    |some y=>Qu y x
    |none=>false)&&hasAll h l
theorem DD {h:T AB}: ∀{l:List (Pos×AB)},hasAll h l=true-> ∀b x,(b,x)∈l->h.get b=some x
 |[],_,b,x,hm=>by cases hm
 |(b0,x0)::l,hh,b,x,hm=>by
  simp only[hasAll,Bool.and_eq_true] at hh
  rcases List.mem_cons.1 hm with hm|hm
  . cases hm
    have h1:=hh.1
    split at h1<;>first|(cases h1;done)|skip
    rename_i y hy
    rw[hy,Vk h1]
  . exact DD hh.2 b x hm
theorem yl: ∀{l:List (Pos×AB)} {h:T AB} {b:Pos} {x:AB},(fo l h).get b=some x->(b,x)∈l\/(h.get b=some x/\ ∀y∈l,y.1≠b)
 |[],h,b,x,hb=> .inr ⟨hb,fun y hy=>by cases hy⟩
 |(b0,x0)::l,h,b,x,hb=>by
  unfold fo at hb
  by_cases e:b0=b
  . subst e
    rw[T.dZ] at hb
    simp only[Option.some.injEq] at hb;subst hb
    exact .inl (List.mem_cons_self ..)
  . rw[T.bq _ e] at hb
    rcases yl hb with h1|⟨h1,h2⟩
    .   exact .inl (List.mem_cons_of_mem _ h1)
    .   refine .inr ⟨h1,fun y hy=> ?_⟩
        rcases List.mem_cons.1 hy with rfl|hy
        . exact e
        . exact h2 y hy
structure Lit where
 args:List AV
 n0:Pos
 L0:List (Pos×AB)
 v:AV
 n1:Pos
 L1:List (Pos×AB)
def Ic (l m:List (Pos×AB)):Bool:=l.all fun x=>m.any fun y=>Pos.beq x.1 y.1
def BP (t:Lit):List AV->St->Option (AV×St):=fun args st=>
 match ux args t.args&&Pos.beq st.next t.n0&&hasAll st.heap t.L0 with
 |true=>some (t.v,{ heap:=fo t.L1 st.heap,next:=t.n1 })
 |false=>none
noncomputable def Ie (t:Lit) (O:eE) (G:T aN) (m d f:Nat):Bool:=
 EL (R:=Bool) false O G m d f t.args { heap:=fo t.L0 .e,next:=t.n0 } fun v st=>ki v t.v&&Pos.beq st.next t.n1&&hasAll st.heap t.L1
theorem Mn {P:Program} {C:Cells} {t:Lit} {O:eE} {G:T aN} {m d f:Nat} (fN:jE P C (lR O G m d)) (Qq:jS (lR O G m d))
   (hk:Ic t.L0 t.L1=true) (h:Ie t O G m d f=true):mC P C f (BP t):=by
 unfold Ie at h
 rw[BM false O G m d] at h
 unfold pT at h
 split at h<;>first|(cases h;done)|skip
 rename_i x hx
 obtain ⟨v,bu⟩:=x
 simp only[Bool.and_eq_true] at h
 obtain ⟨⟨h1,h2⟩,h3⟩:=h
 have h1:=tH h1
 have h2:=Pos.beq_eq.1 h2
 subst h1
 have unf: ∀args st v' st',BP t args st=some (v',st')->args=t.args/\st.next=t.n0/\hasAll st.heap t.L0=true/\v'=t.v/\st'={ heap:=fo t.L1 st.heap,next:=t.n1 }:=by
   intro args st v' st' hs
   unfold BP at hs
   split at hs<;>first|(cases hs;done)|skip
   rename_i hc
   simp only[Bool.and_eq_true] at hc
   simp only[Option.some.injEq,Prod.mk.injEq] at hs
   exact ⟨yj hc.1.1,Pos.beq_eq.1 hc.1.2,hc.2,hs.1.symm,hs.2.symm⟩
 refine ⟨fun args st v' st' hs=> ?_,fun ρ st w args v' st' bl hs hW hv=> ?_⟩
 . obtain ⟨rfl,g2,g3,rfl,rfl⟩:=unf _ _ _ _ hs
   have:=Qq _ _ _ _ _ hx
   rw[g2, <-h2];exact this
 . obtain ⟨ rfl,g2,g3,rfl,rfl⟩:=unf _ _ _ _ hs
   have oZ: ∀b y,(fo t.L0 T.e).get b=some y->st.heap.get b=some y:=fun b y hb=>by
    rcases yl hb with hb|⟨hb,_⟩
    .   exact DD g3 b y hb
    .   rw[T.cG] at hb;cases hb
   have qb:lR O G m d f t.args { heap:=fo t.L0 .e,next:=st.next }=some (t.v,bu):=by rw[g2];exact hx
   refine Reaches.mono (fun x w' hp=> ?_) (fN ρ _ w f t.args t.v bu bl qb (hW.sub oZ) hv)
   have:=   hp.frame hW oZ (h2:=fo t.L1 st.heap) fun b y hb=>by
    rcases yl hb with hb|⟨hb,jz⟩
    .   exact .inl (DD h3 b y hb)
    .   refine .inr ⟨hb,?_⟩
        cases hg:(fo t.L0 T.e).get b with
        |none=>rfl
        |some u=>
         exfalso
         rcases yl hg with hg|⟨hg,_⟩
         .  unfold Ic at hk
            rw[List.all_eq_true] at hk
            have:=hk _ hg
            rw[List.any_eq_true] at this
            obtain ⟨y',Sr,he⟩:=this
            exact jz y' Sr (Pos.beq_eq.1 he).symm
         .  rw[T.cG] at hg;cases hg
   rw[h2] at this
   exact this
end Go.Ai
end
section
namespace Go.Ai
open Go
def Ig (s t:List AV->St->Option (AV×St)):List AV->St->Option (AV×St):=fun args st=>match s args st with
 |some r=>some r
 |none=>t args st
theorem Mo {P:Program} {C:Cells} {f:FuncId} {s t:List AV->St->Option (AV×St)} (hs:mC P C f s) (ht:mC P C f t):mC P C f (Ig s t) where
 mono args st v st' h:=by
  unfold Ig at h
  split at h
  . rename_i r hr
    simp only[Option.some.injEq] at h;subst h
    exact hs.mono _ _ _ _ hr
  . exact ht.mono _ _ _ _ h
 runs ρ st w args v st' bl h hW hv:=by
  unfold Ig at h
  split at h
  . rename_i r hr
    simp only[Option.some.injEq] at h;subst h
    exact hs.runs ρ st w args v st' bl hr hW hv
  . exact ht.runs ρ st w args v st' bl h hW hv
end Go.Ai
end
