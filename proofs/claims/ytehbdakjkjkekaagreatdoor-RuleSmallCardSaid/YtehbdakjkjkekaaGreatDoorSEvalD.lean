/- The evaluator's calls answer as the model's calls do, on every tape. -/
import Derived.Test.YtehbdakjkjkekaaGreatDoorSEvalC
import Derived.Orders
import Derived.Test.YtehbdakjkjkekaaGreatDoorSEvalA
import Derived.Laws.Externs
import Derived.Lib.Bytealg
import Derived.KernelRfl
set_option linter.all false
set_option linter.unusedSectionVars false
set_option linter.deprecated false
section
namespace Go.Ai
open Go Go.RowKit
theorem Az {a b:AV} (h:iY a b=true):a=b:=by
 unfold iY at h
 split at h<;>(try simp only[Bool.and_eq_true,Bool.false_eq_true] at h)<;>try rfl
 . rw[beq_iff_eq.1 h]
 . rename_i k i k' i'
   have h2:=h.2;rw[jr] at h2
   rw[wh h.1,beq_iff_eq.1 h2]
 . rw[kD.1 h]
 . rw[Pos.beq_eq.1 h.1,Nat.eq_of_beq_eq_true h.2]
 . obtain ⟨⟨⟨h1,h2⟩,h3⟩,h4⟩:=h
   rw[Pos.beq_eq.1 h1,Nat.eq_of_beq_eq_true h2,Nat.eq_of_beq_eq_true h3,Nat.eq_of_beq_eq_true h4]
 . obtain ⟨⟨⟨⟨h1,h2⟩,h3⟩,h4⟩,h5⟩:=h
   rw[Pos.beq_eq.1 h1,Nat.eq_of_beq_eq_true h2,Nat.eq_of_beq_eq_true h3,Nat.eq_of_beq_eq_true h4,Nat.eq_of_beq_eq_true h5]
 . rw[Pos.beq_eq.1 h]
theorem DH: ∀{a b:List AV},vJ a b=true->a=b
 |[],[],_=>rfl
 |[],_::_,h=>by simp[vJ] at h
 |_::_,[],h=>by simp[vJ] at h
 |a::x,b::y,h=>by
  simp only[vJ,Bool.and_eq_true] at h
  rw[Az h.1,DH h.2]
theorem Qu {f:AV->AV->Bool} (hf: ∀{a b},f a b=true->a=b): ∀{a b:List AV},CN f a b=true->a=b
 |[],[],_=>rfl
 |[],_::_,h=>by simp[CN] at h
 |_::_,[],h=>by simp[CN] at h
 |a::x,b::y,h=>by
  simp only[CN,Bool.and_eq_true] at h
  rw[hf h.1,Qu hf h.2]
theorem LV {f:AV->AV->Bool} (hf: ∀{a b},f a b=true->a=b): ∀{a b:List (List AV)},wg f a b=true->a=b
 |[],[],_=>rfl
 |[],_::_,h=>by simp[wg] at h
 |_::_,[],h=>by simp[wg] at h
 |a::x,b::y,h=>by
  simp only[wg,Bool.and_eq_true] at h
  rw[Qu hf h.1,LV hf h.2]
theorem Qv: ∀{d:Nat} {a b:AV},CO d a b=true->a=b
 |0,_,_,h=>by unfold CO at h;exact Az h
 |d +1,a,b,h=>by
  unfold CO at h
  split at h
  . rename_i heq;cases heq
    simp only[Bool.and_eq_true] at h
    rw[LV (fun h=>Qv h) h.1,Nat.eq_of_beq_eq_true h.2]
  . exact Az h
theorem LW {a b:AV} (h:oU a b=true):a=b:=by
 unfold oU at h
 split at h
 . simp only[Bool.and_eq_true] at h
   rw[Nat.eq_of_beq_eq_true h.1.1,DH h.1.2,DH h.2]
 . exact Qv h
 . exact Az h
theorem yW: ∀{a b:List AV},kB a b=true->a=b
 |[],[],_=>rfl
 |[],_::_,h=>by simp[kB] at h
 |_::_,[],h=>by simp[kB] at h
 |a::x,b::y,h=>by
  simp only[kB,Bool.and_eq_true] at h
  rw[LW h.1,yW h.2]
theorem tH {a b:AV} (h:fN a b=true):a=b:=by
 unfold fN at h
 split at h
 . rw[yW h]
 . rw[yW h]
 . exact LW h
theorem ZF {k: aE} {H H':Pos->Option AB} {n n':Pos} {xs:List AV} {v:AV} (h:k.run H n xs=some (.val v)) (hm: ∀b x,H b=some x->H' b=some x):
  k.run H' n' xs=some (.val v):=by
 cases k<;>simp only[aE.run] at h ⊢ <;>try exact h
 case alloc z=>unfold E0 at h;split at h<;>cases h
 case box=>unfold Lx at h;split at h<;>cases h
 case buildSlice es len z p=>unfold rJ at h;dsimp only at h;split at h<;>cases h
 case mkMap=>unfold E3 at h;cases h
 case mkSlice es b z=>
  unfold Au at h
  repeat' split at h
  all_goals cases h
 case rangeS=>
  unfold CL at h
  repeat' split at h
  all_goals cases h
 case store m=>
  unfold ya at h
  repeat' split at h
  all_goals cases h
 case mapSet pk=>
  unfold zi at h
  repeat' split at h
  all_goals cases h
 case load m=>
  unfold uu at h ⊢
  split at h<;>first|(cases h;done)|skip
  split at h<;>first|(cases h;done)|skip
  . split at h<;>first|(cases h;done)|skip
    .   rename_i cs fz hb
        simp only[hm _ _ hb]
        exact h
    .   rename_i t0 cs hb
        simp only[hm _ _ hb]
        exact h
  . exact h
 case conv c=>
  unfold uv at h ⊢
  split at h<;>first|(cases h;done)|skip
  split at h<;>first|(cases h;done)|exact h|skip
  rename_i b off m _ _
  cases hb:Nat.beq m 0 with
  |true=>simp only[hb] at h ⊢; exact h
  | false=>
    simp only[hb] at h ⊢
    cases hH:H b with
    |none=>simp[hH] at h
    |some x=>simp only[hH] at h;simp only[hm _ _ hH];exact h
 case lookup pk z ok=>
  unfold vZ at h ⊢
  split at h<;>first|(cases h;done)|skip
  rename_i m k'
  cases m<;>try exact h
  rename_i b
  cases hb:H b with
  |none=>simp[hb] at h
  | some x=>
    simp only[hb] at h
    simp only[hm _ _ hb]
    exact h
 case lenB lk=>
  unfold D9 at h ⊢
  split at h<;>first|(cases h;done)|skip
  split at h<;>first|(cases h;done)|exact h|skip
  split at h<;>first|(cases h;done)|skip
  rename_i es c hb
  simp only[hm _ _ hb]
  exact h
 case nextS=>
  unfold E4 at h ⊢
  split at h<;>first|(cases h;done)|skip
  split at h<;>first|(cases h;done)|skip
  split at h<;>first|(cases h;done)|skip
  rename_i s pos hb
  simp only[hm _ _ hb]
  split at h
  . rename_i bI
    split at h<;>cases h
  . rename_i bI
    exact h
 case allocT t z=>
  unfold CM at h
  split at h<;>cases h
 case appendT e bytes=>
  unfold o6 at h ⊢
  split at h<;>first|(cases h;done)|skip
  split at h<;>first|(cases h;done)|skip
  split at h<;>first|(cases h;done)|skip
  . split at h<;>first|(cases h;done)|skip
    split at h<;>first|(cases h;done)|exact h
  . split at h<;>first|(cases h;done)|skip
    split at h
    .   exact h
    .   repeat' split at h
        all_goals cases h
 case toU=>
  unfold HG at h ⊢
  split at h<;>first|(cases h;done)|skip
  split at h<;>first|(cases h;done)|exact h|skip
  split at h<;>first|(cases h;done)|skip
  rename_i t0 cs hb
  simp only[hm _ _ hb]
  exact h
 case fromU u m=>
  unfold Be at h ⊢
  split at h<;>first|(cases h;done)|skip
  split at h<;>first|(cases h;done)|exact h|skip
  split at h<;>first|(cases h;done)|skip
  rename_i t0 cs hb
  simp only[hm _ _ hb]
  exact h
 case unsafeStr e=>
  unfold mh at h ⊢
  split at h<;>first|(cases h;done)|skip
  split at h<;>first|(cases h;done)|skip
  split at h
  . exact h
  . repeat' split at h
    all_goals cases h
 case clearS es z=>
  unfold we at h ⊢
  split at h<;>first|(cases h;done)|skip
  split at h<;>first|(cases h;done)|exact h|skip
  rename_i b off m _ _
  cases hb:Nat.beq m 0 with
  |true=>simp only[hb] at h ⊢; exact h
  | false=>
    simp only[hb] at h
    repeat' split at h
    all_goals cases h
 case copyB es=>
  unfold yb at h ⊢
  split at h<;>first|(cases h;done)|skip
  rename_i d x
  cases hd:iX d with
  |none=>simp[hd] at h
  | some m1=>
    cases hx:iX x with
    |none=>simp[hd,hx] at h
    |   some m2=>
        simp only[hd,hx] at h ⊢
        cases hb:Nat.beq (min m2 m1) 0 with
        |true=>simp only[hb] at h ⊢; exact h
        |false=>
         simp only[hb] at h
         split at h<;>first|(cases h;done)|skip
         split at h<;>first|(cases h;done)|skip
         split at h<;>cases h
 case append es bytes=>
  unfold jX at h ⊢
  split at h<;>first|(cases h;done)|skip
  rename_i s x
  cases hd:iX s with
  |none=>simp[hd] at h
  | some m1  =>
    cases hx:iX x with
    |none=>simp[hd,hx] at h
    |   some m2=>
        simp only[hd,hx] at h ⊢
        cases h1:Nat.ble ((2*(m1+m2)+768)*bytes) 281474976710656 with
        |false=>simp[h1] at h
        |true=>
         cases h2:Nat.ble (m1+m2) 9223372036854775807 with
         |false=>simp[h1,h2] at h
         |  true=>
            simp only[h1,h2] at h ⊢
            cases hb:Nat.beq m2 0 with
            |true=>
             simp only[hb] at h ⊢
             split at h<;>first|(cases h;done)|exact h|skip
             all_goals (simp_all;done)
            |false=>
             simp only[hb] at h
             repeat' split at h
             all_goals first
               |(rename_i e;cases e;done)
               |(rename_i e _;cases e;done)
               |(cases h;done)
               |simp_all
inductive vO (n:Pos):AV->AB->Prop where
 |ptr (cs:List AV):vO n (.ptr n 0) (.cells cs 0)
 |kY (s:List Nat):vO n (.ptr n 0) (.kY s 0)
 |slice (len es:Nat) (cap:Option Nat) (cs:List AV) (h:len=0->cap=none\/cap=some 0->cs=[]):vO n (.slice n 0 len cap es) (.cells cs 0)
 |map:vO n (.map n) (.map [] 0)
 |ptrT (t:TypeId) (cs:List AV):vO n (.ptr n 0) (.typed t cs)
 |Xi (len:Nat) (t:TypeId) (cs:List AV) (h:len≠0):vO n (.slice n 0 len none 1) (.typed t cs)
theorem Oe: ∀{ps:List (Nat×Nat)} {xs cs:List AV},dY [] ps xs=some cs->cs=[]
 |[],[],cs,h=>by simp[dY] at h;exact h.symm ▸rfl
 |[],_::_,cs,h=>by simp[dY] at h
 |_::_,[],cs,h=>by simp[dY] at h
 |(off,size)::ps,v::vs,cs,h=>by
  unfold dY at h
  split at h<;>first|(cases h;done)|skip
  rename_i h1 h2
  have h1:=Nat.eq_of_beq_eq_true h1
  have h2:=Nat.le_of_ble_eq_true h2
  have h3:v.cells=[]:=by
   apply List.eq_nil_of_length_eq_zero
   simp at h2;omega
  rw[h3] at h
  have h4:aV ([]:List AV) off []=[]:=by simp[aV]
  rw[h4] at h
  exact Oe h
theorem abv {k : aE} {n:Pos} {xs:List AV} {v:AV} {aF:AB} (h:k.run (fun _=>none) n xs=some (.aI v none none (some aF))):vO n v aF:=by
 cases k<;>simp only[aE.run] at h
 case alloc z=>unfold E0 at h;split at h<;>cases h;exact .ptr _
 case allocT t z=>unfold CM at h;split at h<;>cases h;exact .ptrT _ _
 case appendT e bytes=>
  unfold o6 at h
  split at h<;>first|(cases h;done)|skip
  split at h<;>first|(cases h;done)|skip
  split at h<;>first|(cases h;done)|skip
  . split at h<;>first|(cases h;done)|skip
    split at h<;>cases h
    rename_i hb
    exact .Xi _ _ _ (by have:=Nat.ne_of_beq_eq_false hb;omega)
  . split at h<;>first|(cases h;done)|skip
    repeat' split at h
    all_goals cases h
 case toU=>   unfold HG at h;repeat' split at h
              all_goals cases h
 case fromU=>   unfold Be at h;repeat' split at h
                all_goals cases h
 case sliceData=>   unfold qi at h;repeat' split at h
                    all_goals cases h
 case unsafeStr=>   unfold mh at h;repeat' split at h
                    all_goals cases h
 case box=>unfold Lx at h;split at h<;>cases h;exact .ptr _
 case buildSlice es len z p=>
  unfold rJ at h
  dsimp only at h
  split at h<;>cases h
  rename_i cs hc
  refine .slice _ _ _ _ fun h0 _=> ?_
  subst h0
  exact Oe hc
 case mkMap=>unfold E3 at h;cases h;exact .map
 case mkSlice es b z=>
  unfold Au at h
  repeat' split at h
  all_goals cases h
  refine .slice _ _ _ _ fun _ h1=> ?_
  rcases h1 with h1|h1
  . cases h1
  . simp only[Option.some.injEq] at h1;subst h1;rfl
 case rangeS=>
  unfold CL at h
  repeat' split at h
  all_goals cases h
  exact .kY _
 case conv c=>
  unfold uv at h
  repeat' split at h
  all_goals cases h
  rename_i s
  refine .slice _ _ _ _ fun h0 _=> ?_
  rw[List.eq_nil_of_length_eq_zero h0];rfl
 case append es bytes=>
  unfold jX at h
  repeat' split at h
  all_goals cases h
  all_goals refine .slice _ _ _ _ fun h0 _=> ?_
  all_goals (exfalso;rename_i hb _ _;simp_all)
 case move=>unfold I8 at h;split at h<;>cases h
 case pick=>   unfold M9 at h;repeat' split at h
               all_goals cases h
 case build=>unfold E1 at h;dsimp only at h;split at h<;>cases h
 case load=>   unfold uu at h;repeat' split at h
               all_goals cases h
 case store=>   unfold ya at h;repeat' split at h
                all_goals cases h
 case nilCheck=>   unfold DD at h;repeat' split at h
                   all_goals cases h
 case bin=>   unfold iH at h;repeat' split at h
              all_goals cases h
 case un=>   unfold Vc at h;repeat' split at h
             all_goals cases h
 case mkIface=>   unfold E2 at h;repeat' split at h
                  all_goals cases h
 case mkFunc=>unfold CJ at h;dsimp only at h;cases h
 case lookup=>
  unfold vZ at h
  split at h<;>first|(cases h;done)|skip
  dsimp only at h
  split at h<;>cases h
 case mapSet=>   unfold zi at h;repeat' split at h
                 all_goals cases h
 case sliceS=>
  unfold HE at h
  split at h<;>first|(cases h;done)|skip
  split at h<;>first|(cases h;done)|skip
  dsimp only at h
  split at h<;>cases h
 case sliceL=>   unfold tq at h;repeat' split at h
                 all_goals cases h
 case fieldA=>   unfold HF at h;repeat' split at h
                 all_goals cases h
 case idxA=>   unfold uw at h;repeat' split at h
               all_goals cases h
 case field=>   unfold Kr at h;repeat' split at h
                all_goals cases h
 case idxS=>   unfold I9 at h;repeat' split at h
               all_goals cases h
 case extract=>   unfold Av at h;repeat' split at h
                  all_goals cases h
 case callF=>unfold Ks at h;dsimp only at h;cases h
 case callV=>   unfold Kt at h;repeat' split at h
                all_goals cases h
 case lenB=>   unfold D9 at h;repeat' split at h
               all_goals cases h
 case copyB=>
  unfold yb at h
  split at h<;>first|(cases h;done)|skip
  split at h<;>first|(cases h;done)|skip
  dsimp only at h
  repeat' split at h
  all_goals cases h
 case minB=>   unfold Ea at h;repeat' split at h
               all_goals cases h
 case maxB=>   unfold Eb at h;repeat' split at h
               all_goals cases h
 case clearS=>   unfold we at h;repeat' split at h
                 all_goals cases h
 case nextS=>   unfold E4 at h;repeat' split at h
                all_goals cases h
 case capB=>cases h
 case bad=>cases h
end Go.Ai
end
section
namespace Go.Ai
def mR (call:ai):Prop:= ∀f args st v st',call f args st=some (v,st')->st.next.toNat<=st'.next.toNat
section
variable {call : ai}
theorem Fs (hm:mR call) {k:aE} {xs:List AV} {st st':St} {v:AV} (h:cU call k xs st=some (v,st')):st.next.toNat<=st'.next.toNat:=by
 unfold cU at h
 split at h
 . simp only[Option.some.injEq,Prod.mk.injEq] at h;rw[h.2];exact Nat.le_refl _
 . simp only[Option.some.injEq,Prod.mk.injEq] at h;rw[<-h.2];exact St.yl _ _ _ _
 . exact hm _ _ _ _ _ h
 . cases h
theorem Ih (hm:mR call): ∀(os:List cq) (fr bA:Fr) (st st':St),kA call os fr st=some (bA,st')->st.next.toNat<=st'.next.toNat
 |[],fr,bA,st,st',h=>by simp only[kA,Option.some.injEq,Prod.mk.injEq] at h;rw[h.2];exact Nat.le_refl _
 |o ::os,fr,bA,st,st',h=>by
  unfold kA at h
  split at h
  . split at h<;>first|(cases h;done)|skip
    split at h<;>first|(cases h;done)|skip
    rename_i hs
    exact Nat.le_trans (Fs hm hs) (Ih hm os _ _ _ _ h)
  . exact Ih hm os _ _ _ _ h
  . cases h
theorem uz (hm:mR call): ∀(os:List (Nat×cq)) (recs:List Rec) (base:T AB) (fr bA:Fr) (st st':St),dU call os recs base fr st=some (bA,st')->st.next.toNat<=st'.next.toNat
 |[],recs,base,fr,bA,st,st',h=>by simp only[dU,Option.some.injEq,Prod.mk.injEq] at h;rw[h.2];exact Nat.le_refl _
 |(j,   o)::os,recs,base,fr,bA,st,st',h=>by
  have hs:st.next.toNat<=st.next.succ.toNat:=by rw[Pos.aG];omega
  unfold dU at h
  split at h
  . exact uz hm os _ _ _ _ _ _ h
  . split at h<;>first|(cases h;done)|skip
    split at h
    .   split at h<;>first|(cases h;done)|skip
        exact Nat.le_trans hs (uz hm os _ _ _ _ _ _ h)
    .   split at h<;>first|(cases h;done)|skip
        rename_i hs
        exact Nat.le_trans (Fs hm hs) (uz hm os _ _ _ _ _ _ h)
    .   split at h
        . exact uz hm os _ _ _ _ _ _ h
        . split at h<;>first|(cases h;done)|skip
          split at h<;>first|(cases h;done)|skip
          exact uz hm os _ _ _ _ _ _ h
  . cases h
theorem CY (hm:mR call): ∀(m:Nat) (c:AC) (fr bA:Fr) (st st':St) (ex:o7),exec call m c fr st=some (ex,bA,st')->st.next.toNat<=st'.next.toNat
 |0,c,fr,bA,st,st',ex,h=>by simp[exec] at h
 |m +   1,c,fr,bA,st,st',ex,h=>by
  have ih:=CY hm m
  simp only[exec] at h
  unfold bf at h
  split at h
  . simp only[Option.some.injEq,Prod.mk.injEq] at h;rw[h.2.2];exact Nat.le_refl _
  . split at h<;>first|(cases h;done)|skip
    rename_i hs
    simp only[Option.some.injEq,Prod.mk.injEq] at h
    rw[<-h.2.2];exact Ih hm _ _ _ _ _ hs
  . split at h<;>first|(cases h;done)|skip
    rename_i hs
    simp only[Option.some.injEq,Prod.mk.injEq] at h
    rw[<-h.2.2];exact uz hm _ _ _ _ _ _ _ hs
  . split at h
    .   rename_i hs
        exact Nat.le_trans (ih _ _ _ _ _ _ hs) (ih _ _ _ _ _ _ h)
    .   exact ih _ _ _ _ _ _ h
  . split at h<;>first|(cases h;done)|exact ih _ _ _ _ _ _ h
  . split at h
    .   rename_i hs
        split at h<;>(simp only[Option.some.injEq,Prod.mk.injEq] at h;rw[<-h.2.2];exact ih _ _ _ _ _ _ hs)
    .   exact ih _ _ _ _ _ _ h
  . split at h
    .   rename_i hs
        exact Nat.le_trans (ih _ _ _ _ _ _ hs) (ih _ _ _ _ _ _ h)
    .   exact ih _ _ _ _ _ _ h
  . simp only[Option.some.injEq,Prod.mk.injEq] at h;rw[h.2.2];exact Nat.le_refl _
  . simp only[Option.some.injEq,Prod.mk.injEq] at h;rw[h.2.2];exact Nat.le_refl _
def lY (O:eW):Prop:= ∀f s,O f=some s-> ∀args st v st',s args st=some (v,st')->st.next.toNat<=st'.next.toNat
theorem AA {O:eW} {G:T aM} (hO:lY O) (m:Nat): ∀d,mR (nF O G m d)
 |0=>fun f args st v st' h=>by simp[nF] at h
 |d +   1=>fun f args st v st' h=>by
  have ih:=AA (G:=G) hO m d
  unfold nF at h
  split at h
  . rename_i s hs;exact hO f s hs args st v st' h
  . split at h<;>first|(cases h;done)|skip
    split at h<;>first|(cases h;done)|skip
    split at h<;>first|(cases h;done)|skip
    .   rename_i hs
        split at h<;>first|(cases h;done)|skip
        simp only[Option.some.injEq,Prod.mk.injEq] at h
        rw[<-h.2];exact CY ih _ _ _ _ _ _ _ hs
    .   rename_i hs
        split at h<;>first|(cases h;done)|skip
        simp only[Option.some.injEq,Prod.mk.injEq] at h
        rw[<-h.2];exact CY ih _ _ _ _ _ _ _ hs
end
end Go.Ai
end
section
namespace Go.Ai
def oc (cN:Fr):List Rec->Fr
 |[]=>cN
 |r::R=>dZ (oc cN R) r.o.dst r.v
def ek (n0:Pos):List Rec->Pos
 |[]=>n0
 |r::_=>r.nx
def RC.nI:RC->Bool
 | .aI _ _=>true
 |_=>false
def j5 (h0:T AB):List Rec->T AB
 |[]=>h0
 |  r::R=>match r.c with
    | .aI _ h=>h
    |_=>j5 h0 R
def j6 (h0:T AB):List Rec->T AB
 |[]=>h0
 |  r::R=>match r.c with
    | .aI _ h=>h
    | .new id aF=>(j6 h0 R).put (some aF) id
    | .pure=>j6 h0 R
def CZ:List Rec->Prop
 |[]=>True
 |r::_=>r.c.nI=true
def Qw (h0:T AB) (R:List Rec) (o:cq) (xs:List AV) (v:AV):Prop:=
 ∀  A B,R=A++B->CZ B->(∀r∈A,r.c.nI=true->o.cv.testBit r.idx=false)->
    ∃h:T AB,(∀b x,h.get b=some x->(j5 h0 B).get b=some x\/ ∃r∈A,r.c= .new b x/\o.cv.testBit r.idx=true)/\o.k.run (fun b=>h.get b) .h xs=some (.val v)
inductive qm (call:ai) (cN:Fr) (h0:T AB) (n0:Pos):Rec->List Rec->Prop where
 |skip (i:Nat) (o:cq) (R:List Rec) (hw:cC (oc cN R) o.guard=some false):
  qm call cN h0 n0 { idx:=i,o:=o,v:= .undef,c:= .pure,nx:=ek n0 R } R
 |pure (i:Nat) (o:cq) (v:AV) (xs:List AV) (R:List Rec) (hw:cC (oc cN R) o.guard=some true) (hx:eY (oc cN R) o.xs=some xs) (hr:Qw h0 R o xs v):
  qm call cN h0 n0 { idx:=i,o:=o,v:=v,c:= .pure,nx:=ek n0 R } R
 |new (i:Nat) (o:cq) (v:AV) (aF:AB) (xs:List AV) (R:List Rec) (hw:cC (oc cN R) o.guard=some true) (hx:eY (oc cN R) o.xs=some xs)
  (hr:o.k.run (fun _=>none) (ek n0 R) xs=some (.aI v none none (some aF))):
  qm call cN h0 n0 { idx:=i,o:=o,v:=v,c:= .new (ek n0 R) aF,nx:=(ek n0 R).succ } R
 |aI (i:Nat) (o:cq) (v:AV) (st':St) (xs:List AV) (R:List Rec) (hc:o.cls= .aI) (hw:cC (oc cN R) o.guard=some true) (hx:eY (oc cN R) o.xs=some xs)
  (hr:cU call o.k xs { heap:=j6 h0 R,next:=ek n0 R }=some (v,st')):
  qm call cN h0 n0 { idx:=i,o:=o,v:=v,c:= .aI (j5 h0 R) st'.heap,nx:=st'.next } R
def Good (call:ai) (cN:Fr) (h0:T AB) (n0:Pos):List Rec->Prop
 |[]=>True
 |r::R=>qm call cN h0 n0 r R/\Good call cN h0 n0 R
section
variable {call : ai} {cN : Fr} {h0 : T AB} {n0 : Pos}
theorem Good.tail: ∀{A B:List Rec},Good call cN h0 n0 (A++B)->Good call cN h0 n0 B
 |[],_,h=>h
 |_::_,_,h=>Good.tail h.2
theorem Good.at {A B:List Rec} {r:Rec} (h:Good call cN h0 n0 (A++r::B)):qm call cN h0 n0 r B:=(Good.tail h).1
theorem Ft: ∀{A B:List Rec},(∀r∈A,r.c.nI=false)->j5 h0 (A++B)=j5 h0 B
 |[],_,_=>rfl
 |r::A,B,h=>by
  have h1:=h r (List.mem_cons_self ..)
  have ih:=Ft (A:=A) (B:=B) fun r hr=>h r (List.mem_cons_of_mem _ hr)
  simp only[List.cons_append,j5]
  split
  . rename_i hc;rw[hc] at h1;cases h1
  . exact ih
theorem KC {cv:Nat}: ∀{A B:List Rec} {h:T AB} {b:Pos} {x:AB},(∀r∈A,r.c.nI=false)->CZ B->(snap cv h (A++B)).get b=some x->
  h.get b=some x\/ ∃r∈A,r.c= .new b x/\cv.testBit r.idx=true
 |[],B,h,b,x,_,hB,hs=>by
  cases B with
  |nil=>exact .inl hs
  | cons r B=>
    simp only[CZ] at hB
    simp only[List.nil_append,snap] at hs
    cases hc:r.c<;>rw[hc] at hB<;>first|(cases hB;done)|skip
    rw[hc] at hs
    exact .inl hs
 |r ::A   ,B,h,b,x,hA,hB,hs=>by
  have ih:= @KC cv A B h b x (fun r hr=>hA r (List.mem_cons_of_mem _ hr)) hB
  have up:(h.get b=some x\/ ∃r∈A,r.c= .new b x/\cv.testBit r.idx=true)->h.get b=some x\/ ∃r'∈r::A,r'.c= .new b x/\cv.testBit r'.idx=true:=fun h1=>
    h1.imp id fun ⟨r',h2,h3⟩=>⟨r',List.mem_cons_of_mem _ h2,h3⟩
  simp only[List.cons_append,snap] at hs
  cases hc:r.c with
  |pure=>rw[hc] at hs;exact up (ih hs)
  |aI b1 h1=>have:=hA r (List.mem_cons_self ..);rw[hc] at this;cases this
  | new   id aF=>
    rw[hc] at hs
    cases ht:cv.testBit r.idx with
    |false=>simp only[ht] at hs;exact up (ih hs)
    |   true=>
        simp only[ht] at hs
        by_cases hid:id=b
        . subst hid
          rw[T.fj] at hs
          simp only[Option.some.injEq] at hs;subst hs
          exact .inr ⟨r,List.mem_cons_self ..,hc,ht⟩
        . rw[T.bN _ hid] at hs
          exact up (ih hs)
theorem Of: ∀{up:List (Pos×AB)} {h:T AB} {b:Pos} {x:AB},(eo up h).get b=some x->h.get b=some x\/(b,x)∈up
 |[],_,_,_,h=> .inl h
 |(id,aF)::up,h,b,x,hs=>by
  unfold eo at hs
  by_cases hid:id=b
  . subst hid
    rw[T.fj] at hs
    simp only[Option.some.injEq] at hs;subst hs
    exact .inr (List.mem_cons_self ..)
  . rw[T.bN _ hid] at hs
    exact (Of hs).imp (fun h=>h) fun h=>List.mem_cons_of_mem _ h
theorem Fu: ∀(A:List Rec),(∀r∈A,r.c.nI=false)\/ ∃r∈A,r.c.nI=true
 |[]=> .inl fun r h=>by cases h
 |r::A=>by
  cases hr:r.c.nI with
  |true=>exact .inr ⟨r,List.mem_cons_self ..,hr⟩
  |false=>
   rcases Fu A with h|⟨r',h1,h2⟩
   . exact .inl fun r' mo=>by
      rcases List.mem_cons.1 mo with rfl|h'
      . exact hr
      . exact h r' h'
   . exact .inr ⟨r',List.mem_cons_of_mem _ h1,h2⟩
theorem G4 {cv:Nat} {k:aE} {xs:List AV} {v:AV}: ∀(A B:List Rec) (up:List (Pos×AB)),lH cv k xs v up (A++B)=true->Good call cN h0 n0 (A++B)->CZ B->
  (∀r∈A,r.c.nI=true->cv.testBit r.idx=false)->(∃r∈A,r.c.nI=true)->
  ∃h:T AB,(∀b x,h.get b=some x->(j5 h0 B).get b=some x\/(∃r∈A,r.c= .new b x/\cv.testBit r.idx=true)\/(b,x)∈up)/\k.run (fun b=>h.get b) .h xs=some (.val v)
 |[],B,up,_,_,_,_,he=>by obtain ⟨r,hr,_⟩:=he;cases hr
 |r::A    , B,up,C0,hG,hB,hn,he=>by
  have hn': ∀r∈A,r.c.nI=true->cv.testBit r.idx=false:=fun r' mo=>hn r' (List.mem_cons_of_mem _ mo)
  have ih:=fun up (h2:lH cv k xs v up (A++B)=true) h3=>G4 A B up h2 hG.2 hB hn' h3
  simp only[List.cons_append,lH] at C0
  cases hc:r.c with
  |pure=>
   rw[hc] at C0
   have n9: ∃r∈A,r.c.nI=true:=by
        obtain ⟨r',h1,h2⟩:=he
        rcases List.mem_cons.1 h1 with rfl|h1
        . rw[hc] at h2;cases h2
        . exact ⟨r',h1,h2⟩
   obtain ⟨h,h1,h2⟩:=ih up C0 n9
   exact ⟨h,fun b x hb=>(h1 b x hb).imp (fun h=>h) (Or.imp (fun ⟨r',h3,h4⟩=>⟨r',List.mem_cons_of_mem _ h3,h4⟩) fun h=>h),h2⟩
  |new    id aF=>
   rw[hc] at C0
   have n9: ∃r∈A,r.c.nI=true:=by
        obtain ⟨r',h1,h2⟩:=he
        rcases List.mem_cons.1 h1 with rfl|h1
        . rw[hc] at h2;cases h2
        . exact ⟨r',h1,h2⟩
   cases ht:cv.testBit r.idx with
   |    false=>
        simp only[ht] at C0
        obtain ⟨h,h1,h2⟩:=ih up C0 n9
        exact ⟨h,fun b x hb=>(h1 b x hb).imp (fun h=>h) (Or.imp (fun ⟨r',h3,h4⟩=>⟨r',List.mem_cons_of_mem _ h3,h4⟩) fun h=>h),h2⟩
   |    true=>
        simp only[ht] at C0
        obtain ⟨h,h1,h2⟩:=ih _ C0 n9
        refine ⟨h,fun b x hb=> ?_,h2⟩
        rcases h1 b x hb with h3|⟨r',h3,h4⟩|h3
        . exact .inl h3
        . exact .inr (.inl ⟨r',List.mem_cons_of_mem _ h3,h4⟩)
        . rcases List.mem_cons.1 h3 with h3|h3
          . simp only[Prod.mk.injEq] at h3
            obtain ⟨rfl,rfl⟩:=h3
            exact .inr (.inl ⟨r,List.mem_cons_self ..,hc,ht⟩)
          . exact .inr (.inr h3)
  |aI base h=>
   rw[hc] at C0
   have ht:=hn r (List.mem_cons_self ..) (by rw[hc];rfl)
   simp only[ht,Bool.and_eq_true] at C0
   rcases Fu A with hA|hA
   .    have PG:base=j5 h0 B:=by
          have hs:=hG.1
          cases hs<;>simp only at hc<;>first|(cases hc;done)|skip
          simp only[RC.aI.injEq] at hc
          rw[<-hc.1];exact Ft hA
        have hra:=C0.1
        unfold dH at hra
        split at hra<;>first|(cases hra;done)|skip
        rename_i u hu
        rw[tH hra] at hu
        refine ⟨_,fun b x hb=> ?_,hu⟩
        rcases Of hb with hb|hb
        . rcases KC hA hB hb with h3|⟨r',h3,h4⟩
          . rw[<-PG];exact .inl h3
          . exact .inr (.inl ⟨r',List.mem_cons_of_mem _ h3,h4⟩)
        . exact .inr (.inr hb)
   .    obtain ⟨h,h1,h2⟩:=ih up C0.2 hA
        exact ⟨h,fun b x hb=>(h1 b x hb).imp (fun h=>h) (Or.imp (fun ⟨r',h3,h4⟩=>⟨r',List.mem_cons_of_mem _ h3,h4⟩) fun h=>h),h2⟩
theorem LX: ∀(L:List (Nat×cq)) (R:List Rec) (fr bA:Fr) (st st':St),dU call L R (j5 h0 R) fr st=some (bA,st')->Good call cN h0 n0 R->
  fr=oc cN R->st.heap=j6 h0 R->st.next=ek n0 R->
  ∃R',Good call cN h0 n0 (R'++R)/\(R'.map fun r=>(r.idx,r.o))=L.reverse/\bA=oc cN (R'++R)/\st'.heap=j6 h0 (R'++R)/\st'.next=ek n0 (R'++R)
 |[],R,fr,bA,st,st',h,hG,h1,h2,h3=>by
  simp only[dU,Option.some.injEq,Prod.mk.injEq] at h
  obtain ⟨rfl,rfl⟩:=h
  exact ⟨[],hG,rfl,h1,h2,h3⟩
 |(j,   o)::  L,R,fr,bA,st,st',h,hG,h1,h2,h3=>by
  have fin: ∀(r:Rec) (cm:St) (gH:Fr),r.idx=j->r.o=o->qm call cN h0 n0 r R->gH=oc cN (r::R)->cm.heap=j6 h0 (r::R)->cm.next=r.nx->
        dU call L (r::R) (j5 h0 (r::R)) gH cm=some (bA,st')->
        ∃R',Good call cN h0 n0 (R'++R)/\(R'.map fun r=>(r.idx,r.o))=((j,o)::L).reverse/\bA=oc cN (R'++R)/\st'.heap=j6 h0 (R'++R)/\st'.next=ek n0 (R'++R):=by
    intro r cm gH hj ho hs k1 k2 k3 hd
    obtain ⟨R',g1,g2,g3,g4,g5⟩:=LX L (r::R) gH bA cm st' hd ⟨hs,hG⟩ k1 k2 k3
    have e:R'++r::R=(R'++[r])++R:=by simp
    rw[e] at g1 g3 g4 g5
    exact ⟨R'++[r],g1,by simp[g2,hj,ho],g3,g4,g5⟩
  unfold dU at h
  subst h1
  split at h
  . rename_i hw
    exact fin _ _ _ rfl rfl (h3 ▸qm.skip j o R hw) rfl h2 rfl h
  . rename_i hw
    split at h<;>first|(cases h;done)|skip
    rename_i xs hx
    split at h
    .   split at h<;>first|(cases h;done)|skip
        rename_i v aF hr
        rw[h3] at hr
        have hs:=qm.new (call:=call) (cN:=cN) (h0:=h0) (n0:=n0) j o v aF xs R hw hx hr
        rw[<-h3] at hs
        refine fin _ _ _ rfl rfl hs rfl ?_ rfl h
        simp only[j6,h2]
    .   rename_i ZG
        split at h<;>first|(cases h;done)|skip
        rename_i v cm hr
        have mI:st={ heap:=j6 h0 R,next:=ek n0 R }:=by cases st;simp_all
        rw[mI] at hr
        exact fin _ cm _ rfl rfl (qm.aI j o v cm xs R ZG hw hx hr) rfl rfl rfl h
    .   split at h
        . rename_i v hr
          have Og:Qw h0 R o xs v:=by
           intro A B _ _ _
           refine ⟨.e,fun b x hb=> ?_,?_⟩
           .  rw[T.eE] at hb;cases hb
           .  have e:(fun b=>T.get b (T.e:T AB))=fun _=>none:=by funext b;exact T.eE b
              rw[e];exact hr
          exact fin _ _ _ rfl rfl (h3 ▸qm.pure j o v xs R hw hx Og) rfl h2 rfl h
        . split at h<;>first|(cases h;done)|skip
          rename_i v hr
          split at h<;>first|(cases h;done)|skip
          rename_i C0
          have Og:Qw h0 R o xs v:=by
           intro A B hAB hB hn
           subst hAB
           rcases Fu A with hA|hA
           .  refine ⟨_,fun b x hb=> ?_,hr⟩
              have:=KC hA hB hb
              rw[Ft hA] at this
              exact this
           .  obtain ⟨h,k1,k2⟩:=G4 A B [] C0 hG hB hn hA
              exact ⟨h,fun b x hb=>(k1 b x hb).imp id fun h=>h.resolve_right (by simp),k2⟩
          exact fin _ _ _ rfl rfl (h3 ▸qm.pure j o v xs R hw hx Og) rfl h2 rfl h
  . cases h
end
end Go.Ai
end
section
namespace Go.Ai
open Go
structure Late (m:Nat) (pre:List Nat) (L:List (Nat×cq)):Prop where
 all: ∀i,i<m->i∈pre\/i∈L.map (·.1)
 lt: ∀x∈L,x.1<m
 one: ∀A i o B,L=A++(i,o)::B->i∉pre/\i∉A.map (·.1)
 cv: ∀A i o B,L=A++(i,o)::B-> ∀b,o.cv.testBit b=true->b∈pre\/b∈A.map (·.1)
 aI: ∀A i o B,L=A++(i,o)::B->o.cls= .aI-> ∀b,(b∈pre\/b∈A.map (·.1))->o.cv.testBit b=true
 apart: ∀A i o B,L=A++(i,o)::B-> ∀x∈B,x.2.cv.testBit i=true\/HJ o x.2=true
theorem JZ {m:Nat}: ∀(L:List (Nat×cq)) (seen:Nat) (pre:List Nat),Ee m seen L=true->(∀b,seen.testBit b=true↔b∈pre)->Late m pre L
 |[],seen,pre,h,hs=>by
  simp only[Ee] at h
  have:=Nat.eq_of_beq_eq_true h
  refine ⟨fun i hi=> .inl ((hs i).1 ?_),fun x hx=>(by cases hx),fun A i o B h=> ?_,fun A i o B h=> ?_,fun A i o B h=> ?_,fun A i o B h=> ?_⟩
  . rw[this,Nat.testBit_two_pow_sub_one];simpa using hi
  all_goals (cases A<;>cases h)
 |(i,   o)::L,seen,pre,h,hs=>by
  simp only[Ee,Bool.and_eq_true] at h
  obtain ⟨⟨⟨⟨⟨h1,h2⟩,h3⟩,h4⟩,h5⟩,h6⟩:=h
  have h1:i<m:=Nat.le_of_ble_eq_true h1
  have h2:i∉pre:=fun hp=>by rw[(hs i).2 hp] at h2;cases h2
  have h3:=Nat.eq_of_beq_eq_true h3
  have hb: ∀b,o.cv.testBit b=true->b∈pre:=fun b hb=>by
    rw[<-h3,Nat.testBit_and,Bool.and_eq_true] at hb
    exact (hs b).1 hb.2
  have he:o.cls= .aI-> ∀b,b∈pre->o.cv.testBit b=true:=fun hc b hp=>by
    rw[hc] at h4
    rw[Nat.eq_of_beq_eq_true h4];exact (hs b).2 hp
  have ih:=JZ L (seen ||| 2 ^ i) (pre++[i]) h6 (fun b=>by
    rw[Nat.testBit_or,Nat.testBit_two_pow,Bool.or_eq_true,hs b,List.mem_append]
    simp[eq_comm])
  rw[List.all_eq_true] at h5
  have Ji: ∀{A:List (Nat×cq)} {j:Nat} {p:cq} {B:List (Nat×cq)},(i,o)::L=A++(j,p)::B->(A=[]/\i=j/\o=p/\L=B)\/ ∃A',A=(i,o)::A'/\L=A'++(j,p)::B:=by
    intro A j p B hA
    cases A with
    |nil=>simp at hA;exact .inl ⟨rfl,hA.1.1,hA.1.2,hA.2⟩
    |cons x A=>simp at hA;exact .inr ⟨A,by rw[hA.1],hA.2⟩
  refine ⟨fun j hj=> ?_,fun x hx=> ?_,fun A j p B hA=> ?_,fun A j p B hA=> ?_,fun A j p B hA=> ?_,fun A j p B hA=> ?_⟩
  . rcases ih.all j hj with h|h
    .   rcases List.mem_append.1 h with h|h
        . exact .inl h
        . simp at h;exact .inr (by simp[h])
    .   exact .inr (by simp only[List.map_cons,List.mem_cons];exact .inr h)
  . rcases List.mem_cons.1 hx with rfl|hx
    .   exact h1
    .   exact ih.lt x hx
  . rcases Ji hA with ⟨rfl,rfl,rfl,rfl⟩|⟨A',rfl,G5⟩
    .   exact ⟨h2,by simp⟩
    .   obtain ⟨k1,k2⟩:=ih.one A' j p B G5
        simp only[List.mem_append,List.mem_singleton,not_or] at k1
        exact ⟨k1.1,by simp only[List.map_cons,List.mem_cons,not_or];exact ⟨k1.2,k2⟩⟩
  . rcases Ji hA with ⟨rfl,rfl,rfl,rfl⟩|⟨A',rfl,G5⟩
    .   exact fun b lp=> .inl (hb b lp)
    .   intro b lp
        rcases ih.cv A' j p B G5 b lp with h|h
        . rcases List.mem_append.1 h with h|h
          . exact .inl h
          . simp at h;exact .inr (by simp[h])
        . exact .inr (by simp only[List.map_cons,List.mem_cons];exact .inr h)
  . rcases Ji hA with ⟨rfl,rfl,rfl,rfl⟩|⟨A',rfl,G5⟩
    .   intro hc b lp
        rcases lp with h|h
        . exact he hc b h
        . simp at h
    .   intro hc b lp
        refine ih.aI A' j p B G5 hc b ?_
        rcases lp with h|h
        . exact .inl (List.mem_append.2 (.inl h))
        . simp only[List.map_cons,List.mem_cons] at h
          rcases h with rfl|h
          . exact .inl (by simp)
          . exact .inr h
  . rcases Ji hA with ⟨rfl,rfl,rfl,rfl⟩|⟨A',rfl,G5⟩
    .   intro x hx
        have:=h5 x hx
        rwa [Bool.or_eq_true] at this
    .   exact ih.apart A' j p B G5
inductive Reach (ops:Array Oper):Nat->Nat->Prop where
 |edge (i:Nat) (o:Oper) (e:Edge) (ho:ops[i]? =some o) (he:e∈o.after) (hb:Region.binds .any e=true):Reach ops i e.on
 |trans (i:Nat) (o:Oper) (e:Edge) (b:Nat) (ho:ops[i]? =some o) (he:e∈o.after) (hb:Region.binds .any e=true) (h:Reach ops e.on b):Reach ops i b
def Vw (ops:Array Oper) (i m:Nat):Prop:=
 (∀o,ops[i]? =some o-> ∀e∈o.after,Region.binds .any e=true->m.testBit e.on=true)/\ ∀b,m.testBit b=true->Reach ops i b
theorem Ni (acc:List Nat): ∀(l:List Edge) (s b:Nat),(l.foldl (fun s e=>match Region.binds .any e with
   |true=>s ||| 2 ^ e.on ||| (nth acc e.on).getD 0
   |false=>s) s).testBit b=true↔s.testBit b=true\/ ∃e∈l,Region.binds .any e=true/\(e.on=b\/((nth acc e.on).getD 0).testBit b=true)
 |[],s,b=>by simp
 |e::l,s,b=>by
  rw[List.foldl_cons,Ni acc l]
  cases he:Region.binds .any e with
  |false=>simp[he]
  |true=>
   simp only[Nat.testBit_or,Bool.or_eq_true,Nat.testBit_two_pow,decide_eq_true_eq,List.mem_cons,exists_eq_or_imp,he,true_and]
   constructor
   .    rintro (((h|h)|h)|h)
        . exact .inl h
        . exact .inr (.inl (.inl h))
        . exact .inr (.inl (.inr h))
        . exact .inr (.inr h)
   .    rintro (h|(h|h)|h)
        . exact .inl (.inl (.inl h))
        . exact .inl (.inl (.inr h))
        . exact .inl (.inr h)
        . exact .inr h
theorem Uo {ops:Array Oper}: ∀(os:List Oper) (acc:List Nat),os=ops.toList.drop acc.length->acc.length<=ops.size->(∀i,i<acc.length->Vw ops i (acc.getD i 0))->
  ∀i,i<ops.size->Vw ops i ((PV os acc).getD i 0)
 |[],acc,Up,hl,Qx,i,hi=>by
  have h1:(ops.toList.drop acc.length).length=0:=by rw[<-Up];rfl
  have:ops.size<=acc.length:=by simp at h1;omega
  exact Qx i (by omega)
 |o ::os,acc,Up,hl,Qx,i,hi=>by
  simp only[PV]
  have ho:ops[acc.length]? =some o:=by
    have:(ops.toList.drop acc.length)[0]? =some o:=by rw[<-Up];rfl
    simpa using this
  have bI:acc.length<ops.size:=(Array.getElem?_eq_some_iff.1 ho).1
  refine Uo os _ ?_ (by simp;omega) (fun j hj=> ?_) i hi
  . rw[List.length_append,List.length_singleton, <-List.drop_drop, <-Up];rfl
  . rcases Nat.lt_or_ge j acc.length with h|h
    .   rw[List.getD_eq_getElem?_getD,List.getElem?_append_left h, <-List.getD_eq_getElem?_getD];exact Qx j h
    .   have Bk:j=acc.length:=by simp at hj;omega
        subst Bk
        rw[List.getD_eq_getElem?_getD,List.getElem?_append_right (Nat.le_refl _)]
        simp only[Nat.sub_self,List.getElem?_cons_zero,Option.getD_some]
        refine ⟨fun o' CX e he hb=> ?_,fun b hb=> ?_⟩
        . rw[ho] at CX;simp only[Option.some.injEq] at CX;subst CX
          exact (Ni acc _ 0 e.on).2 (.inr ⟨e,by simpa using he,hb,.inl rfl⟩)
        . have hb:=(Ni acc _ 0 b).1 hb
          rcases hb with hb|⟨e,he,lp,hb⟩
          . simp at hb
          . have n9:e∈o.after:=by simpa using he
            rcases hb with rfl|hb
            . exact .edge _ o e ho n9 lp
            . refine .trans _ o e b ho n9 lp ?_
              rw[nj] at hb
              rcases Nat.lt_or_ge e.on acc.length with h|h
              . exact (Qx _ h).2 b (by rw[List.getD_eq_getElem?_getD];exact hb)
              . rw[List.getElem?_eq_none h] at hb;simp at hb
theorem Uq: ∀(l:List cq) (k:Nat) (x:Nat×cq),x∈Bg k l-> ∃i,x.1=k+i/\l[i]? =some x.2
 |[],k,x,h=>by cases h
 |o ::l,k,x,h=>by
  simp only[Bg,List.mem_cons] at h
  rcases h with rfl|h
  . exact ⟨0,rfl,rfl⟩
  . obtain ⟨i,h1,h2⟩:=Uq l (k+1) x h
    exact ⟨i+1,by omega,by simpa using h2⟩
theorem Ii: ∀(l held:List (Nat×cq)) (x:Nat×cq),x∈vr l held->x∈l\/x∈held
 |[],held,x,h=> .inr h
 |(i,   o)::l,held,x,h=>by
  unfold vr at h
  split at h
  . rcases List.mem_append.1 h with h|h
    .   exact .inr (List.mem_filter.1 h).1
    .   rcases List.mem_cons.1 h with h|h
        . exact .inl (by rw[h];exact List.mem_cons_self ..)
        . rcases Ii l _ x h with h|h
          . exact .inl (List.mem_cons_of_mem _ h)
          . exact .inr (List.mem_filter.1 h).1
  . rcases Ii l _ x h with h|h
    .   exact .inl (List.mem_cons_of_mem _ h)
    .   rcases List.mem_append.1 h with h|h
        . exact .inr h
        . simp at h;exact .inl (by rw[h];exact List.mem_cons_self ..)
theorem abw {l:List cq} {x:Nat×cq} (h:x∈vr (Bg 0 l) []):l[x.1]? =some x.2:=by
 rcases Ii _ _ _ h with h|h
 . obtain ⟨i,h1,h2⟩:=Uq l 0 x h
   rw[h1,Nat.zero_add];exact h2
 . cases h
end Go.Ai
end
section
namespace Go.Ai
open Go
theorem Fv {p:Pos}: ∀{l:List Pos},Ed p l=true↔p∈l
 |[]=>by simp[Ed]
 |q::l=>by simp[Ed,Fv (l:=l),Pos.beq_eq]
theorem DI {a b:cq} (h:HJ a b=true):
   (∀d,a.dst=some d->d∉b.looks/\b.dst≠some d)/\(∀d,b.dst=some d->d∉a.looks):=by
 unfold HJ at h
 rw[Bool.and_eq_true] at h
 obtain ⟨h1,h2⟩:=h
 constructor
 . intro d hd
   rw[hd] at h1
   simp only[Bool.and_eq_true,Bool.not_eq_true'] at h1
   refine ⟨fun hm=> ?_,fun hb=> ?_⟩
   . rw[Fv.2 hm] at h1;exact absurd h1.1 (by simp)
   . rw[hb] at h1
     have:Pos.beq d d=true:=Pos.beq_eq.2 rfl
     simp[this] at h1
 . intro d hd hm
   rw[hd] at h2
   simp only[Bool.not_eq_true'] at h2
   rw[Fv.2 hm] at h2;cases h2
section
variable (P : Program) (tt : TT) (C : Cells) (nt : Nat) (ops : Array Oper) (call : ai) (cN : Fr) (h0 : T AB) (n0 : Pos) (R : List Rec)
structure wV:Prop where
 Qy:Good call cN h0 n0 R
 mono:mR call
 one: ∀A r B,R=A++r::B-> ∀r'∈B,r'.idx≠r.idx
 cv: ∀A r B,R=A++r::B-> ∀b,r.o.cv.testBit b=true-> ∃r'∈B,r'.idx=b
 aI: ∀A r B,R=A++r::B->r.o.cls= .aI-> ∀r'∈B,r.o.cv.testBit r'.idx=true
 apart: ∀A r B,R=A++r::B-> ∀r'∈A,r'.o.cv.testBit r.idx=true\/HJ r.o r'.o=true
 rel: ∀r∈R,∃o,ops[r.idx]? =some o/\uy tt nt ops o r.o/\Vw ops r.idx r.o.cv
 all: ∀i,i<ops.size-> ∃r∈R,r.idx=i
def Kept (D:Nat->Prop) (b:Pos):Prop:= ∀A r B,R=A++r::B-> ¬D r.idx->b.toNat<(ek n0 B).toNat\/r.nx.toNat<=b.toNat
def T1 (D:Nat->Prop) (ρ:Pos->Loc) (tmps:Array Value):Prop:=
 ∀M s T p,R=M++s::T->D s.idx->s.o.dst=some p->(∀s'∈M,D s'.idx->s'.o.dst≠some p)-> ∃x,tmps[p.toNat - 1]? =some x/\aA ρ s.nx.toNat C s.v x
def T0 (D:Nat->Prop) (ρ:Pos->Loc) (tmps:Array Value):Prop:=
 ∀p v,cN.get p=some v->(∀s∈R,D s.idx->s.o.dst≠some p)-> ∃x,tmps[p.toNat - 1]? =some x/\aA ρ n0.toNat C v x
structure Oh (D:Nat->Prop) (A B:List Rec) (a:Act):Prop where
 split:R=A++B
 bound:CZ B
 inB: ∀r∈B,D r.idx
 Qz: ∀r∈A,D r.idx->r.c.nI=false
 closed: ∀i o e,D i->ops[i]? =some o->e∈o.after->Region.binds .any e=true->D e.on
 size:a.tmps.size=nt
 defers:a.defers=[]
structure Inv0 (qL:Pos->Loc) (w0:World) (D:Nat->Prop) (A B:List Rec) (ρ:Pos->Loc) (a:Act) (w:World):Prop where
 W:bM ρ C { heap:=j5 h0 B,next:=ek n0 B } w
 N: ∀r∈A,D r.idx-> ∀id aF,r.c= .new id aF->nG ρ r.nx.toNat C (ρ id) w aF/\(ρ id).aF<w.heap.size/\w0.heap.size<=(ρ id).aF/\
  (∀b x,(j5 h0 B).get b=some x->(ρ b).aF≠(ρ id).aF)/\(∀ad v,C ad=some v->(ρ id).aF≠ad.block)
 N2: ∀r∈A,D r.idx-> ∀id aF,r.c= .new id aF-> ∀r'∈A,D r'.idx-> ∀sN zW,r'.c= .new sN zW->id≠sN->(ρ id).aF≠(ρ sN).aF
 t1:T1 C R D ρ a.tmps
 t0:T0 C cN n0 R D ρ a.tmps
 E:ni qL { heap:=h0,next:=n0 } w0 ρ { heap:=j5 h0 B,next:=ek n0 B } w
 agree: ∀b:Pos,b.toNat<n0.toNat->ρ b=qL b
def Inv (qL:Pos->Loc) (w0:World) (D:Nat->Prop) (A B:List Rec) (ρ:Pos->Loc) (a:Act) (w:World):Prop:=
 Oh nt ops R D A B a/\ ∀ρ',(∀b,Kept n0 R D b->ρ' b=ρ b)->Inv0 C cN h0 n0 R qL w0 D A B ρ' a w
end
section
variable {P : Program} {tt : TT} {C : Cells} {nt : Nat} {ops : Array Oper} {call : ai} {cN : Fr} {h0 : T AB} {n0 : Pos} {R : List Rec}
theorem Bu (h: ∀A r B,R=A++r::B-> ∀r'∈B,r'.idx≠r.idx) {X X' Y Y':List Rec} {r r':Rec} (h1:R=X++r::Y) (h2:R=X'++r'::Y') (hi:r.idx=r'.idx):
   X=X'/\r=r'/\Y=Y':=by
 have h3:X++r::Y=X'++r'::Y':=h1.symm.trans h2
 rcases List.append_eq_append_iff.1 h3 with ⟨Z,hX,hZ⟩|⟨Z,hX,hZ⟩
 . cases Z with
   |nil=>simp at hZ hX;exact ⟨hX.symm,hZ.1,hZ.2⟩
   |cons z Z=>
    simp at hZ
    exact absurd hi.symm (h X r Y h1 r' (by rw[hZ.2];simp))
 . cases Z with
   |nil=>simp at hZ hX;exact ⟨hX,hZ.1.symm,hZ.2.symm⟩
   |cons z Z=>
    simp at hZ
    exact absurd hi (h X' r' Y' h2 r (by rw[hZ.2];simp))
theorem mJ {r:Rec} (h:r∈R): ∃A B,R=A++r::B:=List.append_of_mem h
theorem Ur (hm:mR call) {r:Rec} {B:List Rec} (h:qm call cN h0 n0 r B):(ek n0 B).toNat<=r.nx.toNat:=by
 cases h with
 |skip=>exact Nat.le_refl _
 |pure=>exact Nat.le_refl _
 |new=>simp only[Pos.aG];omega
 |aI i o v st' xs _ hc hw hx hr=>exact Fs hm hr
theorem Nj (hm:mR call): ∀{A B:List Rec},Good call cN h0 n0 (A++B)->(ek n0 B).toNat<=(ek n0 (A++B)).toNat
 |[],_,_=>Nat.le_refl _
 |r::A,B,h=>Nat.le_trans (Nj hm (A:=A) h.2) (Ur hm h.1)
namespace wV
variable (G : wV tt nt ops call cN h0 n0 R)
include G
theorem later {X Y:List Rec} {r r':Rec} (h:R=X++r::Y) (hr:r'∈X):r'.idx≠r.idx:=by
 obtain ⟨A,B,rfl⟩:=mJ hr
 have h':R=A++r'::(B++r::Y):=by rw[h];simp
 exact fun e=>G.one _ _ _ h' r (by simp) e.symm
theorem aa5 {X Y:List Rec} {r:Rec} (h:R=X++r::Y):(ek n0 Y).toNat<=r.nx.toNat:=Ur G.mono (Good.at (h ▸G.Qy))
theorem zo {X Y Z:List Rec} (h:R=X++(Y++Z)):(ek n0 Z).toNat<=(ek n0 (Y++Z)).toNat:=Nj G.mono (Good.tail (h ▸G.Qy))
theorem Vx {X Y:List Rec} (h:R=X++Y):n0.toNat<=(ek n0 Y).toNat:=by
 have:=Nj (n0:=n0) G.mono (A:=Y) (B:=[]) (by rw[List.append_nil];exact Good.tail (h ▸G.Qy))
 rw[List.append_nil] at this;exact this
theorem LY {D:Nat->Prop} (hc: ∀i o e,D i->ops[i]? =some o->e∈o.after->Region.binds .any e=true->D e.on) {i b:Nat} (h:Reach ops i b)
  (hi: ∀o e,ops[i]? =some o->e∈o.after->Region.binds .any e=true->D e.on):D b:=by
 induction h with
 |edge i o e ho he hb=>exact hi o e ho he hb
 |trans i o e b ho he hb _ ih=>exact ih fun o' e' CX n9 gV=>hc _ o' e' (hi o e ho he hb) CX n9 gV
theorem aa6 {D:Nat->Prop} {A B:List Rec} {a:Act} (hp:Oh nt ops R D A B a) {s:Rec} (hs:s∈R) (hD:D s.idx) {b:Nat} (hb:s.o.cv.testBit b=true):D b:=by
 obtain ⟨o,ho,_,hB⟩:=G.rel s hs
 exact G.LY hp.closed (hB.2 b hb) fun o' e CX he lp=>hp.closed _ o' e hD CX he lp
end wV
theorem Ij: ∀(Y:List Rec) (p:Pos) (v:AV),(oc cN Y).get p=some v->
  (∃M s T,Y=M++s::T/\s.o.dst=some p/\s.v=v/\ ∀s'∈M,s'.o.dst≠some p)\/(cN.get p=some v/\ ∀s∈Y,s.o.dst≠some p)
 |[],p,v,h=> .inr ⟨h,fun s hs=>by cases hs⟩
 |r ::Y   ,p,v,h=>by
  simp only[oc] at h
  by_cases hr:r.o.dst=some p
  . rw[hr] at h
    simp only[dZ,T.fj,Option.some.injEq] at h
    exact .inl ⟨[],r,Y,rfl,hr,h,fun s hs=>by cases hs⟩
  . have h':(oc cN Y).get p=some v:=by
        cases hd:r.o.dst with
        |none=>rw[hd] at h;exact h
        | some d=>
          rw[hd] at h
          simp only[dZ] at h
          rwa [T.bN _ fun e=>hr (by rw[hd,e])] at h
    rcases Ij Y p v h' with ⟨M,s,T,rfl,h2,h3,h4⟩|⟨h2,h3⟩
    .   refine .inl ⟨r::M,s,T,rfl,h2,h3,fun s' nr=> ?_⟩
        rcases List.mem_cons.1 nr with rfl|nr
        . exact hr
        . exact h4 s' nr
    .   refine .inr ⟨h2,fun s hs=> ?_⟩
        rcases List.mem_cons.1 hs with rfl|hs
        . exact hr
        . exact h3 s hs
theorem look (G:wV tt nt ops call cN h0 n0 R) {D:Nat->Prop} {A B:List Rec} {a:Act} (hp:Oh nt ops R D A B a) {ρ:Pos->Loc} (h1:T1 C R D ρ a.tmps) (h2:T0 C cN n0 R D ρ a.tmps)
   {X Y:List Rec} {r:Rec} (hR:R=X++r::Y) (hD: ¬D r.idx) (Nk: ∀b,r.o.cv.testBit b=true->D b) {p:Pos} {v:AV} (hl:p∈r.o.looks) (hv:(oc cN Y).get p=some v):
   ∃x,a.tmps[p.toNat - 1]? =some x/\aA ρ (ek n0 Y).toNat C v x:=by
 have hX: ∀s∈X,D s.idx->s.o.dst≠some p:=by
   intro s hs gJ hd
   rcases G.apart X r Y hR s hs with h|h
   . exact hD (G.aa6 hp (by rw[hR];simp[hs]) gJ h)
   . exact (DI h).2 p hd hl
 rcases Ij Y p v hv with ⟨M,s,T,rfl,h3,rfl,h4⟩|⟨h3,h4⟩
 . have hR':R=(X++r::M)++s::T:=by rw[hR];simp
   have gJ:D s.idx:=by
     rcases G.apart _ s T hR' r (by simp) with h|h
     .  exact Nk _ h
     .  exact absurd hl ((DI h).1 p h3).1
   obtain ⟨x,hx,LZ⟩:=h1 (X++r::M) s T p hR' gJ h3 (fun s' nr Bv=>by
     rcases List.mem_append.1 nr with h|h
     .  exact hX s' h Bv
     .  rcases List.mem_cons.1 h with rfl|h
        . exact absurd Bv hD
        . exact h4 s' h)
   refine ⟨x,hx,LZ.mono (fun _ _=>rfl) ?_⟩
   have:=G.zo (X:=X++[r]) (Y:=M) (Z:=s::T) (by rw[hR];simp)
   exact this
 . obtain ⟨x,hx,LZ⟩:=h2 p v h3 (fun s hs gJ=>by
     rw[hR] at hs
     rcases List.mem_append.1 hs with h|h
     .  exact hX s h gJ
     .  rcases List.mem_cons.1 h with rfl|h
        . exact absurd gJ hD
        . exact h4 s h)
   exact ⟨x,hx,LZ.mono (fun _ _=>rfl) (G.Vx (X:=X++[r]) (by rw[hR];simp))⟩
theorem Oi {a:Act} {d:Option Tmp} {x:Value} {p:Pos} (h:d.map key≠some p):(a.put d x).tmps[p.toNat - 1]? =a.tmps[p.toNat - 1]? :=by
 cases d with
 |none=>rfl
 |some e=>
  simp only[Act.put]
  rw[Array.getElem?_setIfInBounds_ne]
  intro he
  apply h
  simp only[Option.map_some,Option.some.injEq]
  apply Pos.toNat_inj
  rw[jY]
  have:=p.toNat_pos
  omega
theorem ZH {a:Act} {d:Option Tmp} {x:Value} {p:Pos} (h:d.map key=some p) (hs:a.tmps.size=nt) (hd: ∀e,d=some e->e<nt):(a.put d x).tmps[p.toNat - 1]? =some x:=by
 cases d with
 |none=>cases h
 |some e=>
  simp only[Option.map_some,Option.some.injEq] at h;subst h
  simp only[Act.put]
  rw[jY,Nat.add_sub_cancel,Array.getElem?_setIfInBounds]
  simp[hs,hd e rfl]
theorem Vy (G:wV tt nt ops call cN h0 n0 R) {D:Nat->Prop} {A B:List Rec} {a:Act} (hp:Oh nt ops R D A B a) {ρ:Pos->Loc} (h1:T1 C R D ρ a.tmps) (h2:T0 C cN n0 R D ρ a.tmps)
   {X Y:List Rec} {r:Rec} (hR:R=X++r::Y) (hD: ¬D r.idx) {o:Oper} (hrel:uy tt nt ops o r.o) {x:Value} (hv:aA ρ r.nx.toNat C r.v x):
   T1 C R (fun i=>D i\/i=r.idx) ρ (a.put o.dst x).tmps/\T0 C cN n0 R (fun i=>D i\/i=r.idx) ρ (a.put o.dst x).tmps:=by
 constructor
 . intro  M s T p hM gJ hd nR
   by_cases hi:s.idx=r.idx
   . obtain ⟨_,rfl,_⟩:=Bu G.one hM hR hi
     rw[hrel.dst] at hd
     exact ⟨x,ZH hd hp.size hrel.lt,hv⟩
   . have gJ:=gJ.resolve_right hi
     by_cases hrp:r.o.dst=some p
     .  exfalso
        have hs:s∈R:=by rw[hM];simp
        rw[hR] at hs
        rcases List.mem_append.1 hs with h|h
        . rcases G.apart X r Y hR s h with k|k
          . exact hD (G.aa6 hp (by rw[hR];simp[h]) gJ k)
          . exact ((DI k).1 p hrp).2 hd
        . rcases List.mem_cons.1 h with rfl|h
          . exact hi rfl
          . obtain ⟨Y1,Y2,rfl⟩:=mJ h
            have hR':R=(X++r::Y1)++s::Y2:=by rw[hR];simp
            obtain ⟨Xj,_,_⟩:=Bu G.one hM hR' rfl
            exact nR r (by rw[Xj];simp) (.inr rfl) hrp
     .  rw[hrel.dst] at hrp
        obtain ⟨y,hy,Bl⟩:=h1 M s T p hM gJ hd fun s' nr Bv=>nR s' nr (.inl Bv)
        exact ⟨y,by rw[Oi hrp];exact hy,Bl⟩
 . intro p v hf nR
   have hr:r.o.dst≠some p:=nR r (by rw[hR];simp) (.inr rfl)
   rw[hrel.dst] at hr
   obtain ⟨y,hy,Bl⟩:=h2 p v hf fun s hs gJ=>nR s hs (.inl gJ)
   exact ⟨y,by rw[Oi hr];exact hy,Bl⟩
end
end Go.Ai
end
section
namespace Go.Ai
open Go
section
variable {P : Program} {tt : TT} {C : Cells} {nt : Nat} {ops : Array Oper} {call : ai} {cN : Fr} {h0 : T AB} {n0 : Pos} {R : List Rec}
theorem bM.congr {ρ ρ':Pos->Loc} {st:St} {w:World} (h:bM ρ C st w) (aU: ∀b:Pos,b.toNat<st.next.toNat->ρ' b=ρ b):bM ρ' C st w where
 live b x hb:=by
  obtain ⟨h1,h2,h3⟩:=h.live b x hb
  rw[aU b h1];exact ⟨h1,h2,h3.mono aU (Nat.le_refl _)⟩
 inj b b' x x' hb gV he:=by
  rw[aU b (h.live b x hb).1,aU b' (h.live b' x' gV).1] at he
  exact h.inj b b' x x' hb gV he
 dc a v ha:=⟨(h.dc a v ha).1,fun b x hb=>by rw[aU b (h.live b x hb).1];exact (h.dc a v ha).2 b x hb⟩
 whole:=h.whole
theorem ni.congr {ρ jC ρ':Pos->Loc} {st st':St} {w w':World} (h:ni ρ st w jC st' w') (aU: ∀b x,st'.heap.get b=some x->ρ' b=jC b):ni ρ st w ρ' st' w' where
 os:=h.os
 tape:=h.tape
 output:=h.output
 size:=h.size
 block:=h.block
 uO b x hb:=by rw[aU b x hb];exact h.uO b x hb
namespace wV
variable (G : wV tt nt ops call cN h0 n0 R)
include G
theorem same {r r':Rec} (h:r∈R) (h':r'∈R) (hi:r.idx=r'.idx):r=r':=by
 obtain ⟨A,B,hA⟩:=mJ h
 obtain ⟨A',B',G5⟩:=mJ h'
 exact (Bu G.one hA G5 hi).2.1
theorem cmp {X Y X' Y':List Rec} {r r':Rec} (h1:R=X++r::Y) (h2:R=X'++r'::Y') (hi:r'.idx≠r.idx):
   (∃Z,Y'=Z++r::Y)\/(∃Z,Y=Z++r'::Y'):=by
 have h3:X++r::Y=X'++r'::Y':=h1.symm.trans h2
 rcases List.append_eq_append_iff.1 h3 with ⟨Z,hX,hZ⟩|⟨Z,hX,hZ⟩
 . cases Z with
   |nil=>simp at hZ;exact absurd (by rw[hZ.1]) hi
   |cons z Z=>simp at hZ;exact .inr ⟨Z,hZ.2⟩
 . cases Z with
   |nil=>simp at hZ;exact absurd (by rw[hZ.1]) hi
   |cons z Z=>simp at hZ;exact .inl ⟨Z,hZ.2⟩
theorem Fw {X Y X' Z:List Rec} {r r':Rec} (h1:R=X++r::Y) (h2:R=X'++r'::(Z++r::Y)):r.nx.toNat<=(ek n0 (Z++r::Y)).toNat:=by
 have:=G.zo (X:=X'++[r']) (Y:=Z) (Z:=r::Y) (by rw[h2];simp)
 exact this
theorem AD {X Y' Z:List Rec} {r r':Rec} (h1:R=X++r::(Z++r'::Y')):r'.nx.toNat<=(ek n0 (Z++r'::Y')).toNat:=by
 have:=G.zo (X:=X++[r]) (Y:=Z) (Z:=r'::Y') (by rw[h1];simp)
 exact this
theorem Ik {X Y:List Rec} {r:Rec} (h:R=X++r::Y) {id:Pos} {aF:AB} (hc:r.c= .new id aF):id=ek n0 Y/\r.nx=id.succ:=by
 have hs:=Good.at (h ▸G.Qy)
 cases hs<;>simp only at hc<;>first|(cases hc;done)|skip
 simp only[RC.new.injEq] at hc
 obtain ⟨rfl,_⟩:=hc
 exact ⟨rfl,rfl⟩
end wV
theorem Kept.up {D D':Nat->Prop} (h: ∀i,D i->D' i) {b:Pos} (hk:Kept n0 R D b):Kept n0 R D' b:=fun A r B hR hD=>hk A r B hR fun hd=>hD (h _ hd)
theorem Oh.next (G:wV tt nt ops call cN h0 n0 R) {D:Nat->Prop} {A B:List Rec} {a:Act} (hp:Oh nt ops R D A B a) {X Y:List Rec} {r:Rec} (hR:R=X++r::Y)
  (qo: ∀o e,ops[r.idx]? =some o->e∈o.after->Region.binds .any e=true->D e.on) (hc:r.c.nI=false) (d:Option Tmp) (x:Value):
  Oh nt ops R (fun i=>D i\/i=r.idx) A B (a.put d x) where
 split:=hp.split
 bound:=hp.bound
 inB s hs:= .inl (hp.inB s hs)
 Qz s hs hD:=by
  rcases hD with hD|hD
  . exact hp.Qz s hs hD
  . rw[G.same (by rw[hp.split];simp[hs]) (by rw[hR];simp) hD];exact hc
 closed i o e hD ho he hb:=by
  rcases hD with hD|rfl
  . exact .inl (hp.closed i o e hD ho he hb)
  . exact .inl (qo o e ho he hb)
 size:=by rw[Act.Fm];exact hp.size
 defers:=by rw[Act.yV];exact hp.defers
theorem Oj (G:wV tt nt ops call cN h0 n0 R) {qL:Pos->Loc} {w0:World} {D:Nat->Prop} {A B:List Rec} {ρ:Pos->Loc} {a:Act} {w:World}
  (hI:Inv C nt ops cN h0 n0 R qL w0 D A B ρ a w) {X Y:List Rec} {r:Rec} (hR:R=X++r::Y) (hD: ¬D r.idx)
  (qo: ∀o e,ops[r.idx]? =some o->e∈o.after->Region.binds .any e=true->D e.on) {o:Oper} (hrel:uy tt nt ops o r.o) (hc:r.c= .pure) {x:Value}
  (hv: ∀ρ',(∀b,Kept n0 R D b->ρ' b=ρ b)->aA ρ' r.nx.toNat C r.v x):
  Inv C nt ops cN h0 n0 R qL w0 (fun i=>D i\/i=r.idx) A B ρ (a.put o.dst x) w:=by
 obtain ⟨hp,hI⟩:=hI
 refine ⟨hp.next G hR qo (by rw[hc];rfl) _ _,fun ρ' ym=> ?_⟩
 have hf: ∀b,Kept n0 R D b->ρ' b=ρ b:=fun b hb=>ym b (hb.up fun _ h=> .inl h)
 have h:=hI ρ' hf
 have hnr: ∀s∈A,(D s.idx\/s.idx=r.idx)-> ∀id aF,s.c= .new id aF->D s.idx:=fun s hs gJ id aF iD=>by
  rcases gJ with gJ|gJ
  . exact gJ
  . rw[G.same (by rw[hp.split];simp[hs]) (by rw[hR];simp) gJ,hc] at iD;cases iD
 obtain ⟨k1,k2⟩:=Vy G hp h.t1 h.t0 hR hD hrel (hv ρ' hf)
 exact ⟨h.W,fun s hs gJ id aF iD=>h.N s hs (hnr s hs gJ id aF iD) id aF iD,
  fun s hs gJ id aF iD s' nr Bv sN zW q8=>h.N2 s hs (hnr s hs gJ id aF iD) id aF iD s' nr (hnr s' nr Bv sN zW q8) sN zW q8,k1,k2,h.E,h.agree⟩
theorem bM.grow {ρ:Pos->Loc} {st:St} {w w':World} (h:bM ρ C st w) (hs:w.heap.size<=w'.heap.size) (hb: ∀k,k<w.heap.size->w'.heap[k]? =w.heap[k]?):bM ρ C st w' where
 live b x hx:=let ⟨h1,h2,h3⟩:=h.live b x hx;⟨h1,Nat.lt_of_lt_of_le h2 hs,h3.of_heap (hb _ h2)⟩
 inj:=h.inj
 dc a v ha:=by
  obtain ⟨h1,h2⟩:=h.dc a v ha
  exact ⟨by rw[World.cell?_of_block (w:=w) (hb _ (World.block_lt_of_cell? _ _ h1))];exact h1,h2⟩
 whole a v ha o ho:=by
  have mb:a.block<w.heap.size:=World.block_lt_of_cell? _ _ (h.dc a v ha).1
  rw[World.cell?_of_block (w:=w) (a:=⟨a.block,o,none⟩) (hb _ mb)];exact h.whole a v ha o ho
theorem ZI (G:wV tt nt ops call cN h0 n0 R) {qL:Pos->Loc} {w0:World} {D:Nat->Prop} {A B:List Rec} {ρ:Pos->Loc} {a:Act} {w w':World}
   (hI:Inv C nt ops cN h0 n0 R qL w0 D A B ρ a w) {X Y:List Rec} {r:Rec} (hR:R=X++r::Y) (hD: ¬D r.idx)
   (qo: ∀o e,ops[r.idx]? =some o->e∈o.after->Region.binds .any e=true->D e.on) {o:Oper} (hrel:uy tt nt ops o r.o) {id:Pos} {aF:AB} (hc:r.c= .new id aF) {x:Value} {L:Loc}
   (hL:w.heap.size<=L.aF) (hL':L.aF<w'.heap.size) (Up:w'.os=w.os) (aia:w'.tape=w.tape) (hout:w'.output=w.output) (ZJ: ∀k,k<w.heap.size->w'.heap[k]? =w.heap[k]?)
   (hv: ∀ρ',(∀b,Kept n0 R D b->ρ' b=ρ b)->ρ' id=L->aA ρ' r.nx.toNat C r.v x/\nG ρ' r.nx.toNat C L w' aF):
   Inv C nt ops cN h0 n0 R qL w0 (fun i=>D i\/i=r.idx) A B (fun b=>if b=id then L else ρ b) (a.put o.dst x) w':=by
 obtain ⟨hp,hI⟩:=hI
 have hrA:r∈A:=by
   have:r∈R:=by rw[hR];simp
   rw[hp.split] at this
   exact (List.mem_append.1 this).resolve_right fun h=>hD (hp.inB r h)
 obtain ⟨hid,L6⟩:=G.Ik hR hc
 have fh:w.heap.size<=w'.heap.size:=by omega
 refine ⟨hp.next G hR qo (by rw[hc];rfl) _ _,fun ρ' ym=> ?_⟩
 have hkid:Kept n0 R (fun i=>D i\/i=r.idx) id:=by
   intro A' r' B' G5 Xk
   have en:r'.idx≠r.idx:=fun e=>Xk (.inr e)
   rcases G.cmp hR G5 en with ⟨Z,rfl⟩|⟨Z,rfl⟩
   . left
     have:=G.Fw hR G5
     rw[L6,Pos.aG] at this
     omega
   . right
     have:=G.AD hR
     rw[hid];exact this
 have hidL:ρ' id=L:=by rw[ym id hkid];simp
 have hf: ∀b,Kept n0 R D b->ρ' b=ρ b:=fun b hb=>by
   have en:b≠id:=by
     rintro rfl
     rcases hb X r Y hR hD with h|h
     .  rw[hid] at h;omega
     .  rw[L6,Pos.aG] at h;omega
   rw[ym b (hb.up fun _ h=> .inl h)];exact if_neg en
 have h:=hI ρ' hf
 obtain ⟨LB,LC⟩:=hv ρ' hf hidL
 obtain ⟨k1,k2⟩:=Vy G hp h.t1 h.t0 hR hD hrel LB
 have PI: ∀s∈A,(D s.idx\/s.idx=r.idx)->D s.idx\/s=r:=fun s hs gJ=>gJ.imp (fun h=>h) fun gJ=>G.same (by rw[hp.split];simp[hs]) (by rw[hR];simp) gJ
 refine ⟨h.W.grow fh ZJ,fun s hs gJ sN zW iD=> ?_,fun s hs gJ sN zW iD s' nr Bv id'' aa7 q8 en=> ?_,k1,k2,?_,h.agree⟩
 . rcases PI s hs gJ with gJ|rfl
   . obtain ⟨g1,g2,g3,g4,g5⟩:=h.N s hs gJ sN zW iD
     exact ⟨g1.of_heap (ZJ _ g2),by omega,g3,g4,g5⟩
   . rw[hc] at iD
     simp only[RC.new.injEq] at iD
     obtain ⟨rfl,rfl⟩:=iD
     rw[hidL]
     refine ⟨LC,hL',Nat.le_trans h.E.size hL,fun b x hb e=> ?_,fun ad v ha e=> ?_⟩
     .  have:=(h.W.live b x hb).2.1;omega
     .  have:=World.block_lt_of_cell? _ _ (h.W.dc ad v ha).1;omega
 . rcases PI s hs gJ with hDk|rfl
   . rcases PI s' nr Bv with ZK|rfl
     .  exact h.N2 s hs hDk sN zW iD s' nr ZK id'' aa7 q8 en
     .  rw[hc] at q8
        simp only[RC.new.injEq] at q8
        obtain ⟨rfl,rfl⟩:=q8
        have:=(h.N s hs hDk sN zW iD).2.1
        rw[hidL];omega
   . rw[hc] at iD
     simp only[RC.new.injEq] at iD
     obtain ⟨rfl,rfl⟩:=iD
     rcases PI s' nr Bv with ZK|rfl
     .  have:=(h.N s' nr ZK id'' aa7 q8).2.1
        rw[hidL];omega
     .  rw[hc] at q8
        simp only[RC.new.injEq] at q8
        exact absurd q8.1 en
 . exact ⟨Up.trans h.E.os,aia.trans h.E.tape,hout.trans h.E.output,Nat.le_trans h.E.size fh,fun k hk hn=>by rw[ZJ k (Nat.lt_of_lt_of_le hk h.E.size)];exact h.E.block k hk hn,h.E.uO⟩
theorem Vz (G:wV tt nt ops call cN h0 n0 R) {qL:Pos->Loc} {w0:World} {D:Nat->Prop} {A B:List Rec} {ρ:Pos->Loc} {a:Act} {w:World}
  (h:Inv0 C cN h0 n0 R qL w0 D A B ρ a w) (afN:R=A++B) {hp:T AB} {N:Pos} (hN:(ek n0 B).toNat<=N.toNat)
  (tI: ∀b x,hp.get b=some x->(j5 h0 B).get b=some x\/ ∃s∈A,D s.idx/\s.c= .new b x/\s.nx.toNat<=N.toNat):bM ρ C { heap:=hp,next:=N } w where
 live b x hb:=by
  rcases tI b x hb with h1|⟨s,hs,hD,hc,hn⟩
  .  obtain ⟨g1,g2,g3⟩:=h.W.live b x h1
     exact ⟨Nat.lt_of_lt_of_le g1 hN,g2,g3.mono (fun _ _=>rfl) hN⟩
  .  obtain ⟨g1,g2,_⟩:=h.N s hs hD b x hc
     obtain ⟨M,T,hM⟩:=mJ (r:=s) (R:=R) (by rw[afN];simp[hs])
     obtain ⟨_,e⟩:=G.Ik hM hc
     rw[e] at hn
     refine ⟨?_,g2,g1.mono (fun _ _=>rfl) (by rw[e];exact hn)⟩
     rw[Pos.aG] at hn
     exact hn
 inj b  b' x x' hb gV he:=by
  rcases tI b x hb with h1|⟨s,hs,hD,hc,hn⟩
  .  rcases tI b' x' gV with Uc|⟨s',nr,Xk,tD,hn'⟩
     .  exact h.W.inj b b' x x' h1 Uc he
     .  exact absurd he ((h.N s' nr Xk b' x' tD).2.2.2.1 b x h1)
  .  rcases tI b' x' gV with Uc|⟨s',nr,Xk,tD,hn'⟩
     .  exact absurd he.symm ((h.N s hs hD b x hc).2.2.2.1 b' x' Uc)
     .  by_cases e:b=b'
        . exact e
        . exact absurd he (h.N2 s hs hD b x hc s' nr Xk b' x' tD e)
 dc ad v ha:=⟨(h.W.dc ad v ha).1,fun b x hb=>by
  rcases tI b x hb with h1|⟨s,hs,hD,hc,hn⟩
  .  exact (h.W.dc ad v ha).2 b x h1
  .  exact (h.N s hs hD b x hc).2.2.2.2 ad v ha⟩
 whole:=h.W.whole
theorem wW: ∀{Z B:List Rec} {b:Pos} {x:AB},(∀r∈Z,r.c.nI=false)->CZ B->(j6 h0 (Z++B)).get b=some x->
  (j5 h0 B).get b=some x\/ ∃s∈Z,s.c= .new b x
 |[],B,b,x,_,hB,h=>by
  cases B with
  |nil=>exact .inl h
  | cons r B=>
    simp only[CZ] at hB
    cases hc:r.c<;>rw[hc] at hB<;>first|(cases hB;done)|skip
    simp only[List.nil_append,j6,hc] at h
    simp only[j5,hc]
    exact .inl h
 |r ::Z,B,b,x,hZ,hB,h=>by
  have ih:= @wW Z B b x (fun s hs=>hZ s (List.mem_cons_of_mem _ hs)) hB
  have hr:=hZ r (List.mem_cons_self ..)
  simp only[List.cons_append,j6] at h
  cases hc:r.c with
  |pure=>rw[hc] at h;exact (ih h).imp (fun h=>h) fun ⟨s,h1,h2⟩=>⟨s,List.mem_cons_of_mem _ h1,h2⟩
  |aI _ _=>rw[hc] at hr;cases hr
  | new id aF=>
    rw[hc] at h
    by_cases e:id=b
    .   subst e
        rw[T.fj] at h
        simp only[Option.some.injEq] at h;subst h
        exact .inr ⟨r,List.mem_cons_self ..,hc⟩
    .   rw[T.bN _ e] at h
        exact (ih h).imp (fun h=>h) fun ⟨s,h1,h2⟩=>⟨s,List.mem_cons_of_mem _ h1,h2⟩
end
end Go.Ai
end
section
namespace Go.Ai
open Go
section
variable {P : Program} {tt : TT} {C : Cells} {nt : Nat} {ops : Array Oper} {call : ai} {cN : Fr} {h0 : T AB} {n0 : Pos} {R : List Rec}
theorem around (G:wV tt nt ops call cN h0 n0 R) {D:Nat->Prop} {A B:List Rec} {a:Act} (hp:Oh nt ops R D A B a) {X Y:List Rec} {r:Rec} (hR:R=X++r::Y) (hD: ¬D r.idx):
  ∃Z,A=X++r::Z/\Y=Z++B:=by
 have hrA:r∈A:=by
  have:r∈R:=by rw[hR];simp
  rw[hp.split] at this
  exact (List.mem_append.1 this).resolve_right fun h=>hD (hp.inB r h)
 obtain ⟨X',Z,hA⟩:=mJ hrA
 have h2:R=X'++r::(Z++B):=by rw[hp.split,hA];simp
 obtain ⟨rfl,_,rfl⟩:=Bu G.one hR h2 rfl
 exact ⟨Z,hA,rfl⟩
theorem ZL (G:wV tt nt ops call cN h0 n0 R) {qL:Pos->Loc} {w0:World} {D:Nat->Prop} {A B:List Rec} {ρ:Pos->Loc} {a:Act} {w w':World}
   (hI:Inv C nt ops cN h0 n0 R qL w0 D A B ρ a w) {X Y:List Rec} {r:Rec} (hR:R=X++r::Y) (hD: ¬D r.idx)
   (qo: ∀o e,ops[r.idx]? =some o->e∈o.after->Region.binds .any e=true->D e.on) {o:Oper} (hrel:uy tt nt ops o r.o)
   (hY: ∀s∈Y,D s.idx) {st':St} {b0:T AB} (hc:r.c= .aI b0 st'.heap) (L6:r.nx=st'.next) {x:Value}
   (VA:lM ρ C { heap:=j6 h0 Y,next:=ek n0 Y } w r.v st' x w'):
   ∃zk,Inv C nt ops cN h0 n0 R qL w0 (fun i=>D i\/i=r.idx) X (r::Y) zk (a.put o.dst x) w':=by
 obtain ⟨hp,hI⟩:=hI
 obtain ⟨jC,hv,hρ1,hle,Xf,hE1⟩:=VA
 simp only at hρ1 hle
 obtain ⟨Z,hA,rfl⟩:=around G hp hR hD
 have hZ: ∀s∈Z,s.c.nI=false:=fun s hs=>hp.Qz s (by rw[hA];simp[hs]) (hY s (by simp[hs]))
 have Us: ∀s∈X,s∈A:=fun s hs=>by rw[hA];simp[hs]
 have hXD: ∀s∈X,(D s.idx\/s.idx=r.idx)->D s.idx:=fun s hs h=>h.resolve_right (G.later hR hs)
 have QA:(ek n0 B).toNat<=(ek n0 (Z++B)).toNat:=G.zo (X:=X++[r]) (by rw[hR];simp)
 let zk:Pos->Loc:=fun b=>if (ek n0 (Z++B)).toNat<=b.toNat/\b.toNat<r.nx.toNat then jC b else ρ b
 have QB: ∀b:Pos,b.toNat<(ek n0 (Z++B)).toNat->Kept n0 R D b:=by
   intro b hb M s T hM gJ
   left
   by_cases hi:s.idx=r.idx
   . obtain ⟨_,_,rfl⟩:=Bu G.one hM hR hi;exact hb
   . rcases G.cmp hR hM hi with ⟨W,rfl⟩|⟨W,hW⟩
     .  have:=G.Fw hR hM
        have:=G.aa5 hR
        omega
     .  exact absurd (hY s (by rw[hW];simp)) gJ
 refine ⟨zk,⟨by rw[hR],by simp[CZ,hc,RC.nI],?_,?_,?_,by rw[Act.Fm];exact hp.size,by rw[Act.yV];exact hp.defers⟩,fun ρ' ym=> ?_⟩
 . intro s hs
   rcases List.mem_cons.1 hs with rfl|hs
   . exact .inr rfl
   . exact .inl (hY s hs)
 . intro s hs gJ
   exact hp.Qz s (Us s hs) (hXD s hs gJ)
 . intro i o' e hDi ho he hb
   rcases hDi with hDi|rfl
   . exact .inl (hp.closed i o' e hDi ho he hb)
   . exact .inl (qo o' e ho he hb)
 have aib: ∀b:Pos,b.toNat<r.nx.toNat->Kept n0 R (fun i=>D i\/i=r.idx) b:=by
   intro b hb M s T hM gJ
   left
   have hi:s.idx≠r.idx:=fun e=>gJ (.inr e)
   rcases G.cmp hR hM hi with ⟨W,rfl⟩|⟨W,hW⟩
   . exact Nat.lt_of_lt_of_le hb (G.Fw hR hM)
   . exact absurd (.inl (hY s (by rw[hW];simp))) gJ
 have hf: ∀b,Kept n0 R D b->ρ' b=ρ b:=fun b hb=>by
   rw[ym b (hb.up fun _ h=> .inl h)]
   refine if_neg ?_
   rintro ⟨g1,g2⟩
   rcases hb X r _ hR hD with h|h<;>omega
 have h:=hI ρ' hf
 have L7: ∀b:Pos,b.toNat<r.nx.toNat->ρ' b=jC b:=by
   intro b hb
   rcases Nat.lt_or_ge b.toNat (ek n0 (Z++B)).toNat with g|g
   . rw[hf b (QB b g),hρ1 b g]
   . rw[ym b (aib b hb)];exact if_pos ⟨g,hb⟩
 have Ej:aA ρ' r.nx.toNat C r.v x:=by
   rw[L6] at L7 ⊢
   exact hv.mono L7 (Nat.le_refl _)
 have eF:bM ρ' C { heap:=st'.heap,next:=r.nx } w':=by
   rw[L6] at L7 ⊢
   exact Xf.congr L7
 have hold: ∀s∈X,D s.idx-> ∀id aF,s.c= .new id aF-> ∀b y,(j6 h0 (Z++B)).get b=some y->(ρ b).aF≠(ρ' id).aF:=by
   intro s hs gJ id aF iD b y hb
   obtain ⟨g1,g2,g3,g4,g5⟩:=h.N s (Us s hs) gJ id aF iD
   obtain ⟨M,T,hM⟩:=mJ (r:=s) (R:=R) (by rw[hR];simp[hs])
   rcases wW hZ hp.bound hb with hb|⟨s',nr,q8⟩
   . rw[<-hf b (QB b (Nat.lt_of_lt_of_le (h.W.live b y hb).1 QA))]
     exact g4 b y hb
   . obtain ⟨Z1,Z2,rfl⟩:=mJ nr
     have Xj:R=(X++r::Z1)++s'::(Z2++B):=by rw[hR];simp
     obtain ⟨e1,e2⟩:=G.Ik Xj q8
     obtain ⟨e3,e4⟩:=G.Ik hM iD
     have hbn:b.toNat<(ek n0 ((Z1++s'::Z2)++B)).toNat:=by
        have:=G.AD (X:=X) (r:=r) (Z:=Z1) (r':=s') (Y':=Z2++B) (by rw[hR];simp)
        rw[e2,Pos.aG] at this
        simp only[List.append_assoc,List.cons_append]
        omega
     have hsr:s.idx≠r.idx:=G.later hR hs
     have hid:r.nx.toNat<=id.toNat:=by
        rcases G.cmp hR hM hsr with ⟨W,rfl⟩|⟨W,hW⟩
        . rw[e3];exact G.Fw hR hM
        . obtain ⟨A1,A2,hX⟩:=mJ hs
          have hM2:R=A1++s::(A2++r::((Z1++s'::Z2)++B)):=by rw[hR,hX];simp
          have tF:s∈(Z1++s'::Z2)++B:=by rw[hW];simp
          exact absurd rfl (G.one A1 s _ hM2 s (List.mem_append.2 (.inr (List.mem_cons_of_mem _ tF))))
     have en:b≠id:=by
        rintro rfl
        have:=G.aa5 hR
        omega
     rw[<-hf b (QB b hbn)]
     exact h.N2 s' (by rw[hA];simp) (hY s' (by simp)) b y q8 s (Us s hs) gJ id aF iD en
 have hEa:ni qL { heap:=h0,next:=n0 } w0 ρ { heap:=j6 h0 (Z++B),next:=ek n0 (Z++B) } w:=by
   refine ⟨h.E.os,h.E.tape,h.E.output,h.E.size,h.E.block,fun b y hb=> ?_⟩
   rcases wW hZ hp.bound hb with hb|⟨s',nr,q8⟩
   . rw[<-hf b (QB b (Nat.lt_of_lt_of_le (h.W.live b y hb).1 QA))]
     exact h.E.uO b y hb
   . obtain ⟨Z1,Z2,rfl⟩:=mJ nr
     have Xj:R=(X++r::Z1)++s'::(Z2++B):=by rw[hR];simp
     obtain ⟨e1,e2⟩:=G.Ik Xj q8
     have hbn:b.toNat<(ek n0 ((Z1++s'::Z2)++B)).toNat:=by
        have:=G.AD (X:=X) (r:=r) (Z:=Z1) (r':=s') (Y':=Z2++B) (by rw[hR];simp)
        rw[e2,Pos.aG] at this
        simp only[List.append_assoc,List.cons_append]
        omega
     rw[<-hf b (QB b hbn)]
     exact .inr (h.N s' (by rw[hA];simp) (hY s' (by simp)) b y q8).2.2.1
 obtain ⟨k1,k2⟩:=Vy G hp h.t1 h.t0 hR hD hrel Ej
 refine ⟨?_,fun s hs gJ id aF iD=> ?_,fun s hs gJ id aF iD s' nr Bv sN zW q8 en=> ?_,k1,k2,?_,h.agree⟩
 . simp only[j5,hc,ek];exact eF
 . have gJ:=hXD s hs gJ
   obtain ⟨g1,g2,g3,g4,g5⟩:=h.N s (Us s hs) gJ id aF iD
   refine ⟨g1.of_heap (hE1.block _ g2 (hold s hs gJ id aF iD)),Nat.lt_of_lt_of_le g2 hE1.size,g3,fun b y hb=> ?_,g5⟩
   simp only[j5,hc] at hb
   rw[L7 b (by rw[L6];exact (Xf.live b y hb).1)]
   rcases hE1.uO b y hb with ⟨b',y',gV,e⟩|e
   . rw[<-e];exact hold s hs gJ id aF iD b' y' gV
   . omega
 . exact h.N2 s (Us s hs) (hXD s hs gJ) id aF iD s' (Us s' nr) (hXD s' nr Bv) sN zW q8 en
 . have:=(hEa.trans hE1).congr (ρ':=ρ') fun b y hb=>L7 b (by rw[L6];exact (Xf.live b y hb).1)
   simp only[j5,hc,ek]
   exact ⟨this.os,this.tape,this.output,this.size,this.block,this.uO⟩
end
end Go.Ai
end
section
namespace Go.Ai
open Go
section
variable {P : Program} {tt : TT} {C : Cells} {nt : Nat} {ops : Array Oper} {call : ai} {cN : Fr} {h0 : T AB} {n0 : Pos} {R : List Rec}
theorem tJ {ρ:Pos->Loc} {n:Pos} {w:World} (hC: ∀ad v,C ad=some v->w.cell? ad=some v) (QC: ∀a v,C a=some v-> ∀o,C ⟨a.block,o,none⟩=none->w.cell? ⟨a.block,o,none⟩=none):bM ρ C { heap:= .e,next:=n } w where
 live b x hb:=by rw[T.eE] at hb;cases hb
 inj b b' x x' hb:=by rw[T.eE] at hb;cases hb
 dc a v ha:=⟨hC a v ha,fun b x hb=>by rw[T.eE] at hb;cases hb⟩
 whole:=QC
theorem Yields.eq {N:Next} {x y:Value} (h:Yields N x) (k:Yields N y):x=y:=by
 rcases h with rfl|⟨rfl,rfl⟩<;>rcases k with k|⟨k,rfl⟩
 . simp only[Next.value.injEq] at k;exact k
 . cases k
 . cases k
 . rfl
theorem nG.ZM {ρ ρ':Pos->Loc} {n n':Nat} {L:Loc} {w:World} {s:List Nat} {p:Nat} (h:nG ρ n C L w (.kY s p)):nG ρ' n' C L w (.kY s p):=h
theorem Xl (hT:dh P tt) {o:Oper} {k:aE} {xs:List mj} {cls:Ub} (hc:gU tt o.op=some (k,xs,cls)) {n:Pos} {vs:List AV} {v:AV} {aF:AB}
  (hr:k.run (fun _=>none) n vs=some (.aI v none none (some aF))) {fr:Fr} (hx:eY fr xs=some vs) {a:Act} {w:World} {Ut:(Pos->Loc)->Prop} {ρ:Pos->Loc} (aU:Ut ρ)
  (hF: ∀ρ',Ut ρ'->oa ρ' n.toNat C fr a.tmps) (hC: ∀ad v,C ad=some v->w.cell? ad=some v) (QC: ∀a v,C a=some v-> ∀o,C ⟨a.block,o,none⟩=none->w.cell? ⟨a.block,o,none⟩=none):
  ∃ N x w' L,(execOp a.eval o).run P w= .ok N w'/\Yields N x/\w.heap.size<=L.aF/\L.aF<w'.heap.size/\w'.os=w.os/\w'.tape=w.tape/\w'.output=w.output/\
    (∀k,k<w.heap.size->w'.heap[k]? =w.heap[k]?)/\ ∀ρ',Ut ρ'->ρ' n=L->aA ρ' n.succ.toNat C v x/\nG ρ' n.succ.toNat C L w' aF:=by
 have cA:k.run (fun b=>T.get b (T.e:T AB)) n vs=some (.aI v none none (some aF)):=by
  have e:(fun b=>T.get b (T.e:T AB))=fun _=>none:=by funext b;exact T.eE b
  rw[e];exact hr
 have H:=fun ρ' (hf:Ut ρ')=>Jf hT o.op ρ' C { heap:= .e,next:=n } w k xs cls fr a o vs _ rfl hc (tJ hC QC) (hF ρ' hf) hx cA
 have key: ∀ρ',Ut ρ'-> ∃N x w' jC,(execOp a.eval o).run P w= .ok N w'/\Yields N x/\(∀b:Pos,b.toNat<n.toNat->jC b=ρ' b)/\aA jC n.succ.toNat C v x/\
    nG jC n.succ.toNat C (jC n) w' aF/\w.heap.size<=(jC n).aF/\(jC n).aF<w'.heap.size/\w'.os=w.os/\w'.tape=w.tape/\w'.output=w.output/\
    (∀k,k<w.heap.size->w'.heap[k]? =w.heap[k]?):=by
  intro ρ' hf
  obtain ⟨N,x,w',jC,he,hy,h1,h2,h3,h4⟩:=H ρ' hf
  have hg:(St.aI { heap:= .e,next:=n } none none (some aF)).heap.get n=some aF:=T.fj _ _ _
  obtain ⟨g1,g2,g3⟩:=h2.live n aF hg
  refine ⟨N,x,w',jC,he,hy,h1,h3,g3,?_,g2,h4.os,h4.tape,h4.output,fun k hk=>h4.block k hk fun b x hb=> ?_⟩
  . rcases h4.uO n aF hg with ⟨b',x',gV,_⟩|h
    .   rw[T.eE] at gV;cases gV
    .   exact h
  . rw[T.eE] at hb;cases hb
 obtain ⟨N,x,w',jC,he,hy,h1,h2,h3,h4,h5,h6,h7,h8,h9⟩:=key ρ aU
 refine ⟨N,x,w',jC n,he,hy,h4,h5,h6,h7,h8,h9,fun ρ' hf hL=> ?_⟩
 obtain ⟨N',x',w'',zk,n9,Xm,k1,k2,k3,_⟩:=key ρ' hf
 rw[he] at n9
 simp only[Result.ok.injEq] at n9
 obtain ⟨rfl,rfl⟩:=n9
 have QD:=hy.eq Xm;subst QD
 have VB:n.toNat<n.succ.toNat:=by rw[Pos.aG];omega
 have agree:(zk n).aF=(jC n).aF->(zk n).base=(jC n).base->((∃cs fz,aF= .cells cs fz)\/ ∃t cs,aF= .typed t cs)->aA ρ' n.succ.toNat C v x/\nG ρ' n.succ.toNat C (jC n) w' aF:=by
  intro e1 e2 vK
  have e3:(zk n).size=(jC n).size:=by
    rcases vK with ⟨cs,fz,rfl⟩|⟨t,cs,rfl⟩
    .   obtain ⟨c,e,fr,g1,g2,_⟩:=h3
        obtain ⟨c',e',bA,Bw,Xn,_⟩:=k3
        rw[e1,g1] at Bw
        simp only[Option.some.injEq,Obj.cells.injEq] at Bw
        rw[<-g2, <-Xn,Bw.1]
    .   obtain ⟨c,fr,g1,g2,_⟩:=h3
        obtain ⟨c',bA,Bw,Xn,_⟩:=k3
        rw[e1,g1] at Bw
        simp only[Option.some.injEq,Obj.cells.injEq] at Bw
        rw[<-g2, <-Xn,Bw.1]
  have e4:zk n=jC n:=by
    cases hh:zk n;cases hh':jC n
    rw[hh,hh'] at e1 e2 e3
    simp only at e1 e2 e3
    rw[e1,e2,e3]
  have oP: ∀b:Pos,b.toNat<n.succ.toNat->ρ' b=zk b:=by
    intro b hb
    rcases Nat.lt_or_ge b.toNat n.toNat with g|g
    .   exact (k1 b g).symm
    .   have:b=n:=Pos.toNat_inj (by rw[Pos.aG] at hb;omega)
        subst this;rw[hL,e4]
  refine ⟨k2.mono oP (Nat.le_refl _),?_⟩
  rw[<-e4]
  exact k3.mono oP (Nat.le_refl _)
 cases abv hr with
 |ptr cs=>
  obtain ⟨_,g1⟩:=h2.gv
  obtain ⟨_,g2⟩:=k2.gv
  rw[g1] at g2
  simp only[Value.pointer.injEq,Option.some.injEq,Addr.mk.injEq,Nat.add_zero,and_true] at g2
  exact agree g2.1.symm g2.2.symm (.inl ⟨cs,0,rfl⟩)
 |ptrT t cs=>
  obtain ⟨_,g1⟩:=h2.gv
  obtain ⟨_,g2⟩:=k2.gv
  rw[g1] at g2
  simp only[Value.pointer.injEq,Option.some.injEq,Addr.mk.injEq,Nat.add_zero,and_true] at g2
  exact agree g2.1.symm g2.2.symm (.inr ⟨t,cs,rfl⟩)
 |Xi len t cs hl=>
  obtain ⟨ad,aL,g1,g2,g3,g4⟩:=h2.dR
  obtain ⟨ad',VC,Bw,Xn,g3',g4'⟩:=k2.dR
  rw[g1] at Bw
  simp only[Value.slice.injEq,Option.some.injEq,true_and] at Bw
  obtain ⟨rfl,rfl⟩:=Bw
  obtain ⟨_,a1,_⟩:=g4 (by omega)
  obtain ⟨_,a2,_⟩:=g4' (by omega)
  rw[a1] at a2
  simp only[Addr.mk.injEq,Nat.add_zero,and_true] at a2
  exact agree a2.1.symm a2.2.symm (.inr ⟨t,cs,rfl⟩)
 |kY s=>
  obtain ⟨_,g1⟩:=h2.gv
  refine ⟨?_,h3.ZM⟩
  rw[g1, <-hL]
  exact .ptr n 0 VB
 |slice len es cap cs iD=>
  obtain ⟨ad,aL,g1,g2,g3,g4⟩:=h2.dR
  obtain ⟨ad',VC,Bw,Xn,g3',g4'⟩:=k2.dR
  rw[g1] at Bw
  simp only[Value.slice.injEq,Option.some.injEq,true_and] at Bw
  obtain ⟨rfl,rfl⟩:=Bw
  by_cases h0:aL=0
  . subst h0
    have rH:len=0:=by omega
    have hcs0:cs=[]:=iD rH (by
        cases cap with
        |none=>exact .inl rfl
        |some c=>exact .inr (by rw[g3 c rfl]))
    subst hcs0
    refine ⟨?_,?_⟩
    .   rw[g1];exact .slice n 0 len cap es 0 ad g2 g3 (fun h=>absurd rfl h) (fun _=>VB)
    .   obtain ⟨c,e,fr,q1,q2,q3,q4,q5⟩:=h3
        exact ⟨c,e,fr,q1,q2,q3,az.nil,q5⟩
  . obtain ⟨_,a1,_⟩:=g4 h0
    obtain ⟨_,a2,_⟩:=g4' h0
    rw[a1] at a2
    simp only[Addr.mk.injEq,Nat.add_zero,and_true] at a2
    exact agree a2.1.symm a2.2.symm (.inl ⟨cs,0,rfl⟩)
 |map=>
  obtain ⟨_,g1⟩:=h2.yg
  refine ⟨?_,?_⟩
  . rw[g1, <-hL];exact .map n VB
  . obtain ⟨es',q1,q2,q3⟩:=h3
    exact ⟨es',q1,q2,fun i e e' he=>by simp at he⟩
end
end Go.Ai
end
section
namespace Go.Ai
open Go
section
variable {P : Program} {tt : TT} {C : Cells} {nt : Nat} {ops : Array Oper} {call : ai} {cN : Fr} {h0 : T AB} {n0 : Pos} {R : List Rec}
def uZ (fr:Fr):List Pos->Fr
 |[]=> .e
 |p::l=>(uZ fr l).put (fr.get p) p
theorem Ol {fr:Fr} {p:Pos}: ∀{l:List Pos},p∈l->(uZ fr l).get p=fr.get p
 |[],h=>by cases h
 |q ::l,h=>by
  simp only[uZ]
  by_cases e:q=p
  . subst e;exact T.fj _ _ _
  . rw[T.bN _ e]
    exact Ol ((List.mem_cons.1 h).resolve_left fun h=>e h.symm)
theorem J0 {fr:Fr} {p:Pos} {v:AV}: ∀{l:List Pos},(uZ fr l).get p=some v->p∈l/\fr.get p=some v
 |[],h=>by simp only[uZ] at h;rw[T.eE] at h;cases h
 |q ::l,h=>by
  simp only[uZ] at h
  by_cases e:q=p
  . subst e;rw[T.fj] at h;exact ⟨by simp,h⟩
  . rw[T.bN _ e] at h
    obtain ⟨h1,h2⟩:=J0 h
    exact ⟨by simp[h1],h2⟩
theorem Om {fr:Fr} {l:List Pos}: ∀{xs:List mj},(∀p,mj.t p∈xs->p∈l)->eY (uZ fr l) xs=eY fr xs
 |[],_=>rfl
 |x::xs,h=>by
  have h1:zj (uZ fr l) x=zj fr x:=by
   cases x with
   |t p=>exact Ol (h p (by simp))
   |c v=>rfl
  simp only[eY,h1,Om fun p hp=>h p (List.mem_cons_of_mem _ hp)]
theorem Xo {o:cq} {p:Pos} (h:mj.t p∈o.xs):p∈o.looks:=by
 unfold cq.looks
 exact List.mem_append_right _ (List.mem_filterMap.2 ⟨_,h,rfl⟩)
theorem Tu {o:cq} {p:Pos} {q:Bool} (h:o.guard=some (p,q)):p∈o.looks:=by
 unfold cq.looks
 rw[h];simp
theorem Yields.upon {o:Oper} {a:Act} {K:Act->World->Prop} {Q:Exit->Act->World->Prop} {N:Next} {x:Value} {w:World} (h:Yields N x) (hk:K (a.put o.dst x) w):o.upon P a K Q (.ok N w):=by
 rcases h with rfl|⟨rfl,rfl⟩<;>exact hk
theorem ZN (hT:dh P tt) (fZ:j0 P C call) (G:wV tt nt ops call cN h0 n0 R) {Q:Exit->Act->World->Prop} {qL:Pos->Loc} {w0:World} {D:Nat->Prop} {A B:List Rec} {ρ:Pos->Loc} {a:Act} {w:World}
  (hI:Inv C nt ops cN h0 n0 R qL w0 D A B ρ a w) {i:Nat} (hi:i<ops.size) (hD: ¬D i)
  (qo: ∀o e,ops[i]? =some o->e∈o.after->Region.binds .any e=true->D e.on):
  wpOp P ops Q i (fun a' w'=> ∃A' B' ρ',Inv C nt ops cN h0 n0 R qL w0 (fun j=>D j\/j=i) A' B' ρ' a' w') a w:=by
 obtain ⟨r,hr,rfl⟩:=G.all i hi
 obtain ⟨X,Y,hR⟩:=mJ hr
 obtain ⟨o,ho,hrel,hB⟩:=G.rel r hr
 have hp:=hI.1
 have Nk: ∀b,r.o.cv.testBit b=true->D b:=fun b hb=>G.LY hp.closed (hB.2 b hb) qo
 obtain ⟨Z,hA,On⟩:=around G hp hR hD
 have yX: ∀ρ',(∀b,Kept n0 R D b->ρ' b=ρ b)-> ∀p v,p∈r.o.looks->(oc cN Y).get p=some v-> ∃x,a.tmps[p.toNat - 1]? =some x/\aA ρ' (ek n0 Y).toNat C v x:=
  fun ρ' hf p v hl hv=>look G hp (hI.2 ρ' hf).t1 (hI.2 ρ' hf).t0 hR hD Nk hl hv
 have hFR: ∀ρ',(∀b,Kept n0 R D b->ρ' b=ρ b)->oa ρ' (ek n0 Y).toNat C (uZ (oc cN Y) r.o.looks) a.tmps:=fun ρ' hf p v hv=>
  let ⟨h1,h2⟩:=J0 hv;yX ρ' hf p v h1 h2
 have Fx: ∀b,Kept n0 R D b->ρ b=ρ b:=fun _ _=>rfl
 have hw: ∀b,cC (oc cN Y) r.o.guard=some b->Region.wanted o (yielded ops a.tmps)=b:=fun b hb=>
  Bq hrel.guard (fun p v hv ⟨q,hq⟩=>yX ρ Fx p v (Tu hq) hv) hb
 have hnZ: ∀s∈Z,s.nx.toNat<=(ek n0 Y).toNat:=fun s hs=>by
  obtain ⟨Z1,Z2,rfl⟩:=mJ hs
  have:=G.AD (X:=X) (r:=r) (Z:=Z1) (r':=s) (Y':=Z2++B) (by rw[hR,On];simp)
  rw[On];simp only[List.append_assoc,List.cons_append];exact this
 have QA:(ek n0 B).toNat<=(ek n0 Y).toNat:=by rw[On];exact G.zo (X:=X++[r]) (by rw[hR,On];simp)
 have hs:=Good.at (hR ▸G.Qy)
 have hex: ∀xs,eY (oc cN Y) r.o.xs=some xs->eY (uZ (oc cN Y) r.o.looks) r.o.xs=some xs:=fun xs hx=>by
  rw[Om fun p hp=>Xo hp];exact hx
 unfold wpOp
 simp only[ho]
 generalize hrr:r=r0 at*
 cases hs with
 |skip i' o' _ hw'=>
  rw[if_neg (by rw[hw _ hw'];simp)]
  exact ⟨A,B,ρ,Oj G hI hR hD qo hrel rfl fun ρ' _=> .Oc⟩
 |pure i' o' v xs _ hw' hx Og=>
  rw[if_pos (hw _ hw')]
  refine .inl ?_
  rw[On] at Og
  obtain ⟨h,tI,cA⟩:=Og Z B rfl hp.bound fun s hs he=>by
    cases hb:o'.cv.testBit s.idx with
    |false=>rfl
    |   true=>
        have h1:=hp.Qz s (by rw[hA];simp[hs]) (Nk _ hb)
        rw[h1] at he;cases he
  rcases hrel.op with hc|⟨hk,_⟩
  . have H: ∀ρ',(∀b,Kept n0 R D b->ρ' b=ρ b)-> ∃N x,(execOp a.eval o).run P w= .ok N w/\Yields N x/\aA ρ' (ek n0 Y).toNat C v x:=by
        intro ρ' hf
        have hW:=Vz G (hI.2 ρ' hf) hp.split (hp:=h) QA fun b y hb=>(tI b y hb).imp (fun h=>h) fun ⟨s,h1,h2,h3⟩=>
          ⟨s,by rw[hA];simp[h1],Nk _ h3,h2,hnZ s h1⟩
        exact Jf hT o.op ρ' C _ w _ _ _ _ a o _ _ rfl hc hW (hFR ρ' hf) (hex xs hx) (ZF cA fun _ _ h=>h)
    obtain ⟨N,x,he,hy,hv⟩:=H ρ Fx
    unfold Oper.wp
    rw[he]
    refine hy.upon ⟨A,B,ρ,Oj G hI hR hD qo hrel rfl fun ρ' hf=> ?_⟩
    obtain ⟨N',x',n9,Xm,Ej⟩:=H ρ' hf
    rw[he] at n9
    simp only[Result.ok.injEq,and_true] at n9
    subst n9
    rw[hy.eq Xm];exact Ej
  . rw[hk] at cA;cases cA
 |new   i' o' v aF xs _ hw' hx cA=>
  rw[if_pos (hw _ hw')]
  refine .inl ?_
  rcases hrel.op with hc|⟨hk,_⟩
  . obtain ⟨N,x,w',L,he,hy,h1,h2,h3,h4,h5,h6,h7⟩:=Xl hT hc cA (hex xs hx) (Ut:=fun ρ'=> ∀b,Kept n0 R D b->ρ' b=ρ b) Fx hFR
        (fun ad v ha=>((hI.2 ρ Fx).W.dc ad v ha).1) (hI.2 ρ Fx).W.whole
    unfold Oper.wp
    rw[he]
    exact hy.upon ⟨A,B,_,ZI G hI hR hD qo hrel rfl h1 h2 h3 h4 h5 h6 h7⟩
  . rw[hk] at cA;cases cA
 |aI i' o' v st' xs _ ZG hw' hx mI=>
  rw[if_pos (hw _ hw')]
  refine .inl ?_
  rcases hrel.op with hc|⟨hk,_⟩
  . have hY: ∀s∈Y,D s.idx:=fun s hs=>Nk _ (G.aI X _ Y hR ZG s hs)
    have hZ: ∀s∈Z,s.c.nI=false:=fun s hs=>hp.Qz s (by rw[hA];simp[hs]) (hY s (by rw[On];simp[hs]))
    have hW:bM ρ C { heap:=j6 h0 Y,next:=ek n0 Y } w:=Vz G (hI.2 ρ Fx) hp.split QA fun b y hb=>by
        rw[On] at hb
        rcases wW hZ hp.bound hb with hb|⟨s,h1,h2⟩
        . exact .inl hb
        . exact .inr ⟨s,by rw[hA];simp[h1],hY s (by rw[On];simp[h1]),h2,hnZ s h1⟩
    have hre:=JX hT fZ hc hW (hFR ρ Fx) (hex xs hx) mI
    refine hre.upon fun x w' VA=> ?_
    obtain ⟨zk,h⟩:=ZL G hI hR hD qo hrel hY rfl rfl VA
    exact ⟨_,_,zk,h⟩
  . exact (Reaches.bad hk mI).elim
end
end Go.Ai
end
section
namespace Go.Ai
open Go
section
variable {P : Program} {tt : TT} {C : Cells} {nt : Nat} {ops : Array Oper} {call : ai} {cN : Fr} {h0 : T AB} {n0 : Pos} {R : List Rec}
theorem Oo (G:wV tt nt ops call cN h0 n0 R) {qL:Pos->Loc} {w0:World} {D:Nat->Prop} {A B:List Rec} {ρ:Pos->Loc} {a:Act} {w:World}
   (hI:Inv C nt ops cN h0 n0 R qL w0 D A B ρ a w) (oP: ∀r∈R,D r.idx):nH nt qL C { heap:=h0,next:=n0 } w0 (oc cN R) { heap:=j6 h0 R,next:=ek n0 R } a w:=by
 obtain ⟨hp,hI⟩:=hI
 have h:=hI ρ fun _ _=>rfl
 have hZ: ∀s∈A,s.c.nI=false:=fun s hs=>hp.Qz s hs (oP s (by rw[hp.split];simp[hs]))
 have hnA: ∀s∈A,s.nx.toNat<=(ek n0 R).toNat:=fun s hs=>by
   obtain ⟨Z1,Z2,hA⟩:=mJ hs
   have:=G.zo (X:=[]) (Y:=Z1) (Z:=s::(Z2++B)) (by rw[hp.split,hA];simp)
   have e:R=Z1++s::(Z2++B):=by rw[hp.split,hA];simp
   rw[<-e] at this;exact this
 have QA:(ek n0 B).toNat<=(ek n0 R).toNat:=by
   have:=G.zo (X:=[]) (Y:=A) (Z:=B) (by rw[hp.split];simp)
   rwa [<-hp.split] at this
 have JW:n0.toNat<=(ek n0 R).toNat:=G.Vx (X:=[]) rfl
 have tI: ∀b x,(j6 h0 R).get b=some x->(j5 h0 B).get b=some x\/ ∃s∈A,D s.idx/\s.c= .new b x/\s.nx.toNat<=(ek n0 R).toNat:=fun b x hb=>by
   rw[hp.split] at hb
   rcases wW hZ hp.bound hb with hb|⟨s,h1,h2⟩
   . exact .inl hb
   . exact .inr ⟨s,h1,oP s (by rw[hp.split];simp[h1]),h2,hnA s h1⟩
 refine ⟨ρ,⟨Vz G h hp.split QA tI,?_,hp.size,hp.defers⟩,h.agree,JW,?_⟩
 . intro p v hv
   rcases Ij R p v hv with ⟨M,s,T,hM,h2,rfl,h3⟩|⟨h1,h2⟩
   . obtain ⟨x,hx,LZ⟩:=h.t1 M s T p hM (oP s (by rw[hM];simp)) h2 fun s' nr _=>h3 s' nr
     refine ⟨x,hx,LZ.mono (fun _ _=>rfl) ?_⟩
     have:=G.zo (X:=[]) (Y:=M) (Z:=s::T) (by rw[hM];simp)
     rw[<-hM] at this;exact this
   . obtain ⟨x,hx,LZ⟩:=h.t0 p v h1 fun s hs _=>h2 s hs
     exact ⟨x,hx,LZ.mono (fun _ _=>rfl) JW⟩
 . refine ⟨h.E.os,h.E.tape,h.E.output,h.E.size,h.E.block,fun b x hb=> ?_⟩
   rcases tI b x hb with hb|⟨s,h1,h2,h3,_⟩
   . exact h.E.uO b x hb
   . exact .inr (h.N s h1 h2 b x h3).2.2.1
def DL (listed:Array Bool) (j:Nat):Prop:=listed.getD j false=true
theorem Xp {listed:Array Bool} {i:Nat} (hi:i<listed.size):(fun j=>DL listed j\/j=i)=DL (listed.setIfInBounds i true):=by
 funext j
 apply propext
 unfold DL
 by_cases h:j=i
 . subst h;simp[hi]
 . rw[getD_set_ne false (Ne.symm h)];simp[h]
theorem QE {listed:Array Bool} {j:Nat} (h:listed.getD j true=false): ¬DL listed j:=by
 unfold DL
 intro h'
 rcases Nat.lt_or_ge j listed.size with hj|hj
 . simp[hj] at h h';rw[h] at h';cases h'
 . simp[Array.getElem?_eq_none hj] at h'
theorem abx {listed:Array Bool} {j:Nat} (hj:j<listed.size) (h: ¬DL listed j):listed.getD j true=false:=by
 unfold DL at h
 simp[hj] at h ⊢; exact h
theorem Il (G:wV tt nt ops call cN h0 n0 R) {listed:Array Bool} (hs:listed.size=ops.size) (hr:Region.ready .any ops listed=[]): ∀(Y X:List Rec),R=X++Y-> ∀r∈Y,DL listed r.idx
 |[],_,_,r,mo=>by cases mo
 |r ::Y  ,X,hR,r',mo=>by
  have ih:=Il G hs hr Y (X++[r]) (by rw[hR];simp)
  rcases List.mem_cons.1 mo with rfl|mo
  . obtain ⟨o,ho,_,hB⟩:=G.rel r' (by rw[hR];simp)
    have bI:r'.idx<ops.size:=(Array.getElem?_eq_some_iff.1 ho).1
    by_cases h:DL listed r'.idx
    .   exact h
    .   exfalso
        have:r'.idx∈Region.ready .any ops listed:=mem_ready.2 ⟨abx (by omega) h,o,ho,fun e he hb=>by
         obtain ⟨s,h1,h2⟩:=G.cv X r' Y hR _ (hB.1 o ho e he hb)
         have:=ih s h1
         rw[h2] at this;exact this⟩
        rw[hr] at this;cases this
  . exact ih r' mo
theorem Oq (hT:dh P tt) (fZ:j0 P C call) (G:wV tt nt ops call cN h0 n0 R) {Q:Exit->Act->World->Prop} {qL:Pos->Loc} {w0:World}
  (hQ: ∀a' w',nH nt qL C { heap:=h0,next:=n0 } w0 (oc cN R) { heap:=j6 h0 R,next:=ek n0 R } a' w'->Q .normal a' w'):
  ∀ (fuel:Nat) (listed:Array Bool) (U:List Nat) (A B:List Rec) (ρ:Pos->Loc) (a:Act) (w:World),listed.size=ops.size->U.length<=fuel->U.Nodup->(∀j,j<ops.size-> ¬DL listed j->j∈U)->
    Inv C nt ops cN h0 n0 R qL w0 (DL listed) A B ρ a w->wpAny P .any ops Q fuel listed a w
 |0,listed,U,A,B,ρ,a,w,hs,hU,_,hm,hI=>by
  have hU0:U=[]:=List.eq_nil_of_length_eq_zero (by omega)
  subst hU0
  have hr:Region.ready .any ops listed=[]:=by
    cases h:Region.ready .any ops listed with
    |nil=>rfl
    |   cons i l=>
        have hi:i∈Region.ready .any ops listed:=by rw[h];simp
        obtain ⟨h1,o,ho,_⟩:=mem_ready.1 hi
        have:=hm i (Array.getElem?_eq_some_iff.1 ho).1 (QE h1)
        cases this
  exact ⟨hr,hQ a w (Oo G hI (Il G hs hr R [] rfl))⟩
 |fuel+1,listed,U,A,B,ρ,a,w,hs,hU,hnd,hm,hI=>by
  refine ⟨fun hr=>hQ a w (Oo G hI (Il G hs hr R [] rfl)),fun i hi=> ?_⟩
  obtain ⟨h1,o,ho,h2⟩:=mem_ready.1 hi
  have bI:i<ops.size:=(Array.getElem?_eq_some_iff.1 ho).1
  have mI:=ZN (Q:=Q) hT fZ G hI bI (QE h1) fun o' e CX he hb=>by
    rw[ho] at CX;simp only[Option.some.injEq] at CX;subst CX
    exact h2 e he hb
  refine wpOp_mono (fun a' w' hh=> ?_) mI
  obtain ⟨A',B',ρ',Ot⟩:=hh
  rw[Xp (by omega)] at Ot
  have hiU:i∈U:=hm i bI (QE h1)
  refine Oq hT fZ G hQ fuel _ (U.erase i) A' B' ρ' a' w' (by simp[hs]) ?_ (hnd.erase i) (fun j hj hD=> ?_) Ot
  . rw[List.length_erase_of_mem hiU];omega
  . rw[<-Xp (by omega)] at hD
    have en:j≠i:=fun e=>hD (.inr e)
    exact (List.mem_erase_of_ne en).2 (hm j hj fun h=>hD (.inl h))
theorem L8 (hm:P.follows .mixedOrders=true) (hT:dh P tt) (fZ:j0 P C call) (VD:mR call):Ie P tt C call:=by
 intro nt id ops l Q fr bA st st' ρ a w hl dr h hS hQ
 obtain ⟨R,hG,hmap,LD,aic,L6⟩:=LX (call:=call) (cN:=fr) (h0:=st.heap) (n0:=st.next) _ [] fr bA st st' h trivial rfl rfl rfl
 simp only[List.append_nil] at hG LD aic L6
 have hst':st'={ heap:=j6 st.heap R,next:=ek st.next R }:=by cases st';simp_all
 have hlen:l.length=ops.size:=by rw[(yU hl).1,Array.length_toList]
 have L9:=JZ _ 0 [] dr fun b=>by simp
 have hL:vr (Bg 0 l) []=(R.map fun r=>(r.idx,r.o)).reverse:=by rw[hmap,List.reverse_reverse]
 have dec: ∀{A B:List Rec} {r:Rec},R=A++r::B->vr (Bg 0 l) []=(B.map fun r=>(r.idx,r.o)).reverse++(r.idx,r.o)::(A.map fun r=>(r.idx,r.o)).reverse:=fun e=>by
   rw[hL,e];simp
 have VE: ∀{B:List Rec} {i:Nat},i∈((B.map fun r=>(r.idx,r.o)).reverse).map (·.1)↔ ∃r∈B,r.idx=i:=fun {B i}=>by simp
 have G:wV tt nt ops call fr st.heap st.next R:=by
   refine ⟨hG,VD,fun A r B e r' mo hi=> ?_,fun A r B e b hb=> ?_,fun A r B e hc r' mo=> ?_,fun A r B e r' mo=> ?_,fun r hr=> ?_,fun i hi=> ?_⟩
   . exact (L9.one _ _ _ _ (dec e)).2 (VE.2 ⟨r',mo,hi⟩)
   . rcases L9.cv _ _ _ _ (dec e) b hb with h|h
     . cases h
     . exact VE.1 h
   . exact L9.aI _ _ _ _ (dec e) hc _ (.inr (VE.2 ⟨r',mo,rfl⟩))
   . exact L9.apart _ _ _ _ (dec e) (r'.idx,r'.o) (by simp;exact ⟨r',mo,rfl,rfl⟩)
   . obtain ⟨A,B,e⟩:=mJ hr
     have hx:(r.idx,r.o)∈vr (Bg 0 l) []:=by rw[dec e];simp
     have h1:=abw hx
     obtain ⟨o,h2,h3,h4⟩:=Qr hl _ _ h1
     refine ⟨o,h2,h3,?_⟩
     rw[h4]
     exact Uo ops.toList [] rfl (Nat.zero_le _) (fun i hi=>by simp at hi) _ (Array.getElem?_eq_some_iff.1 h2).1
   . rcases L9.all i (by rw[hlen];exact hi) with h|h
     . cases h
     . rw[hL] at h;exact VE.1 h
 refine wp_region_any hm ?_
 rw[hst',LD] at hQ
 have hkn: ∀b:Pos,b.toNat<st.next.toNat-> ∀D,Kept st.next R D b:=fun b hb D A r B e _=> .inl (Nat.lt_of_lt_of_le hb (G.Vx (X:=A++[r]) (by rw[e];simp)))
 refine Oq (Q:=Q) (qL:=ρ) (w0:=w) hT fZ G hQ ops.size _ (List.range ops.size) R [] ρ a _ (by simp) (by simp) List.nodup_range (fun j hj _=>List.mem_range.2 hj) ?_
 have nR: ∀j,¬DL (Array.replicate ops.size false) j:=fun j h=>by
   unfold DL at h
   rcases Nat.lt_or_ge j ops.size with hj|hj
   . simp[hj] at h
   . simp[Nat.not_lt.2 hj] at h
 refine ⟨⟨by simp,trivial,(fun r hr=>by cases hr),fun r _ hD=>absurd hD (nR _),fun i _ _ hD=>absurd hD (nR _),hS.size,hS.defers⟩,fun ρ' ym=> ?_⟩
 have pY: ∀b:Pos,b.toNat<st.next.toNat->ρ' b=ρ b:=fun b hb=>ym b (hkn b hb _)
 have hW:bM ρ' C st { w with drawn:=w.drawn+1 }:=(hS.W.congr pY).grow (Nat.le_refl _) fun _ _=>rfl
 refine ⟨hW,fun r _ hD=>absurd hD (nR _),fun r _ hD=>absurd hD (nR _),fun M s T p _ hD=>absurd hD (nR _),fun p v hv _=> ?_,⟨rfl,rfl,rfl,Nat.le_refl _,fun _ _ _=>rfl,fun b x hb=> .inl ⟨b,x,hb,?_⟩⟩,pY⟩
 . obtain ⟨x,hx,LZ⟩:=hS.F p v hv
   exact ⟨x,hx,LZ.mono pY (Nat.le_refl _)⟩
 . rw[pY b (hS.W.live b x hb).1]
theorem uA (hm:P.follows .mixedOrders=true) (hT:dh P tt) {O:eW} {G:T aM} (hO:qZ P C O) (J5:lY O) (hG:LU P tt G) (m d:Nat):j0 P C (nF O G m d):=
 JY hT hO hG m (fun d fZ=>L8 hm hT fZ (AA J5 m d)) d
end
end Go.Ai
end
section
namespace Go.Ai
section
variable {R : Type}
theorem AW {α:Type}: ∀(p:Pos) (t:T α),Bh p t=t.get p
 | .h,.e=>rfl
 | .h,.n _ _ _=>rfl
 | .o _,.e=>rfl
 | .o p,.n l _ _=>AW p l
 | .i _,.e=>rfl
 | .i p,.n _ _ r=>AW p r
theorem oV {α:Type} (x:Option α): ∀(p:Pos) (t:T α) (k:T α->R),yd x p t k=k (t.put x p)
 | .h,.e,_=>rfl
 | .h,.n _ _ _,_=>rfl
 | .o p,.e,k=>oV x p .e _
 | .o p,.n l _ _,k=>oV x p l _
 | .i p,.e,k=>oV x p .e _
 | .i p,.n _ _ r,k=>oV x p r _
theorem yY (n:Nat) (k:Nat->R):pN n k=k n:=by cases n<;>rfl
theorem Tv (n:Int) (k:Int->R):Ku n k=k n:=by cases n<;>simp only[Ku,yY]
theorem QF (b:Bool) (k:Bool->R):NZ b k=k b:=by cases b<;>rfl
theorem C3 {α:Type}: ∀(l:List α) (k:List α->R),wN l k=k l
 |[],_=>rfl
 |a::l,k=>C3 l fun t=>k (a::t)
theorem DJ: ∀(p:Pos) (k:Pos->R),Fb p k=k p
 | .h,_=>rfl
 | .o p,k=>DJ p fun q=>k (.o q)
 | .i p,k=>DJ p fun q=>k (.i q)
theorem Xq (o:Option Nat) (k:Option Nat->R):PW o k=k o:=by
 cases o with
 |none=>rfl
 |some n=>simp only[PW,yY]
theorem Ou (v:AV) (k:AV->R):HX v k=k v:=by
 cases v<;>simp only[HX,QF,Tv,C3,DJ,yY,Xq]
theorem Fy: ∀(l:List AV) (k:List AV->R),Ja l k=k l
 |[],_=>rfl
 |a::l,k=>by
  show HX a (fun a=>Ja l fun t=>k (a::t))=_
  rw[Ou,Fy l]
theorem C4 (v:AV) (k:AV->R):rK v k=k v:=by
 unfold rK
 split
 . exact Fy _ _
 . exact Ou _ _
theorem Fz (x:AB) (k:AB->R):AT x k=k x:=by
 cases x<;>simp only[AT,C3,yY]
theorem KD: ∀(p:Pos) (k:Pos->R),PC p k=k p.succ
 | .h,_=>rfl
 | .o _,_=>rfl
 | .i p,k=>KD p fun q=>k (.o q)
variable (z : R)
def sy {α:Type} (r:Option α) (k:α->R):R:=match r with
 |some x=>k x
 |none=>z
theorem Xr (fr:Fr) (x:mj) (k:AV->R):WG z fr x k=sy z (zj fr x) k:=by
 cases x with
 |t p=>simp only[WG,AW,zj,sy];cases T.get p fr<;>rfl
 |c v=>rfl
theorem Nl (fr:Fr): ∀(xs:List mj) (k:List AV->R),Nb z fr xs k=sy z (eY fr xs) k
 |[],k=>rfl
 |x::xs,k=>by
  show WG z fr x (fun v=>Nb z fr xs fun vs=>k (v::vs))=_
  rw[Xr]
  simp only[Nl fr xs]
  simp only[eY]
  cases zj fr x with
  |none=>rfl
  |some v=>simp only[sy];cases eY fr xs<;>rfl
theorem Ma (fr:Fr) (g:Option (Pos×Bool)) (yes no:R):AU z fr g yes no=match cC fr g with
  |some true=>yes
  |some false=>no
  |none=>z:=by
 unfold AU cC
 cases g with
 |none=>rfl
 |some g=>
  obtain ⟨p,want⟩:=g
  simp only[AW]
  cases T.get p fr with
  |none=>rfl
  |some v=>
   cases v<;>try rfl
   rename_i b
   cases b<;>cases want<;>rfl
theorem Mb (fr:Fr) (d:Option Pos) (v:AV) (k:Fr->R):lJ fr d v k=k (dZ fr d v):=by
 cases d with
 |none=>rfl
 |some p=>exact oV _ _ _ _
theorem aby (st:St) (del:Option Pos) (set:Option (Pos×AB)) (new:Option AB) (k:St->R):Zn st del set new k=k (st.aI del set new):=by
 have hdel: ∀(h:T AB) (k:T AB->R),delK del h k=k (zT del h):=fun h k=>by
  cases del with
  |none=>rfl
  |some b=>exact oV _ _ _ _
 have yj: ∀(h:T AB) (k:T AB->R),Zm set h k=k (Bf set h):=fun h k=>by
  cases set with
  |none=>rfl
  |some b=>simp only[Zm,Fz,oV];rfl
 unfold Zn
 rw[hdel,yj]
 cases new with
 |none=>rfl
 |some x=>simp only[Fz,oV,KD];rfl
def CK (lZ:Aw R) (call:ai):Prop:= ∀f args st k,lZ f args st k=sy z (call f args st) fun x=>k x.1 x.2
variable {lZ : Aw R} {call : ai}
theorem FA (h:T AB):(fun b=>Bh b h)=fun b=>h.get b:=funext fun b=>AW b h
theorem QG (hc:CK z lZ call) (op:aE) (xs:List AV) (st:St) (k:AV->St->R):Jb z lZ op xs st k=sy z (cU call op xs st) fun x=>k x.1 x.2:=by
 unfold Jb cU
 rw[FA]
 cases op.run (fun b=>st.heap.get b) st.next xs with
 |none=>rfl
 |some r=>
  cases r with
  |val v=>simp only[C4];rfl
  |aI v d s n=>simp only[C4,aby];rfl
  |call f args=>simp only[C3];exact hc f args st k
theorem Uu (hc:CK z lZ call): ∀(ops:List cq) (fr:Fr) (st:St) (k:Fr->St->R),Ve z lZ ops fr st k=sy z (kA call ops fr st) fun x=>k x.1 x.2
 |[],fr,st,k=>rfl
 |o::os,fr,st,k=>by
  show AU z fr o.guard (Nb z fr o.xs fun xs=>Jb z lZ o.k xs st fun v st=>lJ fr o.dst v fun fr=>Ve z lZ os fr st k) (lJ fr o.dst .undef fun fr=>Ve z lZ os fr st k)=_
  rw[Ma,Nl]
  simp only[QG z hc,Mb,Uu hc os]
  simp only[kA]
  cases cC fr o.guard with
  |none=>rfl
  |some b=>
   cases b with
   |false=>rfl
   |    true=>
        simp only[]
        cases eY fr o.xs with
        |none=>rfl
        |some xs=>
         simp only[sy]
         cases cU call o.k xs st with
         |none=>rfl
         |some x=>rfl
theorem Bx (cv:Nat) (h:T AB): ∀(recs:List Rec) (k:T AB->R),Fc cv h recs k=k (snap cv h recs)
 |[],k=>rfl
 |r::rs,k=>by
  show (match r.c with
   |    .new id aF=>match cv.testBit r.idx with
        |true=>Fc cv h rs fun h'=>yd (some aF) id h' k
        |false=>Fc cv h rs k
   | .aI _ _=>k h
   | .pure=>Fc cv h rs k)=_
  unfold snap
  cases r.c with
  |pure=>exact Bx cv h rs k
  |aI _ _=>rfl
  |new id aF=>
   simp only[]
   cases cv.testBit r.idx with
   |true=>simp only[Bx cv h rs,oV]
   |false=>exact Bx cv h rs k
theorem Ov (h:T AB): ∀(l:List (Pos×AB)) (k:T AB->R),PX h l k=k (eo l h)
 |[],k=>rfl
 |(id,aF)::l,k=>by
  show PX h l (fun h'=>yd (some aF) id h' k)=_
  rw[Ov h l,oV];rfl
theorem wX (cv:Nat) (op:aE) (xs:List AV) (v:AV): ∀(recs:List Rec) (up:List (Pos×AB)),qG cv op xs v up recs=lH cv op xs v up recs
 |[],up=>rfl
 |r::rs,up=>by
  unfold qG lH
  cases r.c with
  |pure=>exact wX cv op xs v rs up
  |new id aF=>simp only[wX cv op xs v rs]<;>(cases cv.testBit r.idx<;>rfl)
  |aI base _=>
   simp only[wX cv op xs v rs,Bx,Ov]
   unfold PY dH
   simp only[FA]<;>(cases cv.testBit r.idx<;>rfl)
theorem QH (hc:CK z lZ call): ∀(ops:List (Nat×cq)) (recs:List Rec) (base:T AB) (fr:Fr) (st:St) (k:Fr->St->R),
  Fe z lZ ops recs base fr st k=sy z (dU call ops recs base fr st) fun x=>k x.1 x.2
 |[],recs,base,fr,st,k=>rfl
 |(j,   o)::  os,recs,base,fr,st,k=>by
  show AU   z fr o.guard
    (Nb   z fr o.xs fun xs=>match o.cls with
        | .new=>match o.k.run (fun _=>none) st.next xs with
          |some (.aI v none none (some aF))=>rK v fun v=>AT aF fun aF=>lJ fr o.dst v fun fr=>PC st.next fun n=>yd (some aF) st.next st.heap fun h=>
              Fe z lZ os ({ idx:=j,o:=o,v:=v,c:= .new st.next aF,nx:=n }::recs) base fr { heap:=h,next:=n } k
          |_=>z
        | .aI=>Jb z lZ o.k xs st fun v st'=>lJ fr o.dst v fun fr=>Fe z lZ os ({ idx:=j,o:=o,v:=v,c:= .aI base st'.heap,nx:=st'.next }::recs) st'.heap fr st' k
        | _ =>match o.k.run (fun _=>none) .h xs with
          |some (.val v)=>rK v fun v=>lJ fr o.dst v fun fr=>Fe z lZ os ({ idx:=j,o:=o,v:=v,c:= .pure,nx:=st.next }::recs) base fr st k
          | _ =>Fc o.cv base recs fun h=>match o.k.run (fun b=>Bh b h) .h xs with
            | some (.val v)=>rK v fun v=>match qG o.cv o.k xs v [] recs with
              |true=>lJ fr o.dst v fun fr=>Fe z lZ os ({ idx:=j,o:=o,v:=v,c:= .pure,nx:=st.next }::recs) base fr st k
              |false=>z
            |_=>z)
    (lJ fr o.dst .undef fun fr=>Fe z lZ os ({ idx:=j,o:=o,v:= .undef,c:= .pure,nx:=st.next }::recs) base fr st k)=_
  rw[Ma,Nl]
  simp only[QG z hc,Mb,C4,Fz,KD,oV,Bx,wX,FA,QH hc os]
  simp only[dU]
  cases cC fr o.guard with
  |none=>rfl
  | some b=>
    cases b with
    |false=>rfl
    |   true=>
        simp only[]
        cases eY fr o.xs with
        |none=>rfl
        | some xs=>
          simp only[sy]
          cases o.cls with
          | new=>
            simp only[]
            split<;>simp_all
          | aI=>
            simp only[]
            cases cU call o.k xs st with
            |none=>rfl
            |some x=>rfl
          | pure=>
            simp only[]
            split
            . simp_all
            . split<;>simp_all
              split<;>simp_all
          | read=>
            simp only[]
            split
            . simp_all
            . split<;>simp_all
              split<;>simp_all
def QI (r:Option (o7×Fr×St)) (kn:Fr->St->R) (kx:Nat->Fr->St->R) (kr:Fr->St->R):R:=match r with
 |some (.normal,fr,st)=>kn fr st
 |some (.exit id,fr,st)=>kx id fr st
 |some (.ret,fr,st)=>kr fr st
 |none=>z
theorem QJ (hc:CK z lZ call): ∀(m:Nat) (c:AC) (fr:Fr) (st:St) (kn:Fr->St->R) (kx:Nat->Fr->St->R) (kr:Fr->St->R),
  PE z lZ m c fr st kn kx kr=QI z (exec call m c fr st) kn kx kr
 |0,c,fr,st,kn,kx,kr=>rfl
 |m+    1,c,fr,st,kn,kx,kr=>by
  have ih:=QJ hc m
  show qH z lZ (PE z lZ m) c fr st kn kx kr=QI z (bf call (exec call m) c fr st) kn kx kr
  cases c with
  |skip=>rfl
  |region ops=>
   simp only[qH,bf,Uu z hc]
   cases kA call ops fr st with
   |none=>rfl
   |some x=>rfl
  |draw ops=>
   simp only[qH,bf,QH z hc]
   cases dU call ops [] st.heap fr st with
   |none=>rfl
   |some x=>rfl
  |seq a b=>
   simp only[qH,bf,ih]
   cases exec call m a fr st with
   |none=>rfl
   |    some x=>
        obtain ⟨e,gH,cm⟩:=x
        cases e<;>rfl
  |cond x a b=>
   simp only[qH,bf,Xr]
   cases zj fr x with
   |none=>rfl
   |    some v=>
        simp only[sy]
        cases v<;>try rfl
        rename_i t
        cases t<;>simp only[ih]
  |block id a=>
   simp only[qH,bf,ih]
   cases exec call m a fr st with
   |none=>rfl
   |    some x=>
        obtain ⟨e,gH,cm⟩:=x
        cases e<;>try rfl
        rename_i sN
        simp only[QI]
        cases Nat.beq sN id<;>rfl
  |loop a=>
   simp only[qH,bf,ih]
   cases exec call m a fr st with
   |none=>rfl
   |    some x=>
        obtain ⟨e,gH,cm⟩:=x
        cases e<;>rfl
  |exit id=>rfl
  |ret=>rfl
theorem Mc: ∀(vs:List AV) (i:Nat) (fr:Fr) (k:Fr->R),Jc vs i fr k=k (params i vs fr)
 |[],i,fr,k=>rfl
 |v::vs,i,fr,k=>by
  show yd (some v) (key i) fr (fun fr=>Jc vs (i+1) fr k)=_
  rw[oV,Mc vs];rfl
theorem Tw (st:St) (fr:Fr) (rs:List Ly) (k:AV->R):ye z st fr rs k=sy z (gB (fun b=>st.heap.get b) fr rs) fun vs=>k (wH vs):=by
 unfold ye
 rw[FA]
 cases gB (fun b=>st.heap.get b) fr rs with
 |none=>rfl
 |some vs=>
  simp only[Fy,sy]
  cases vs with
  |nil=>rfl
  |cons v vs=>cases vs<;>rfl
theorem yo (O:eW) (G:T aM) (m:Nat): ∀d,CK z (vt z O G m d) (nF O G m d)
 |0=>fun f args st k=>rfl
 |d+    1=>fun f args st k=>by
  have ih:=yo O G m d
  show ( match O f with
   |    some s=>match s args st with
        |some (v,st')=>rK v fun v=>k v st'
        |none=>z
   |    none=>match Bh (key f) G with
        |some F=>match Nat.beq args.length F.nparams with
         |true=>Jc args 0 .e fun fr=>PE z (vt z O G m d) m F.code fr st
             (fun fr st=>ye z st fr F.results fun v=>k v st)
             (fun _ _ _=>z)
             (fun fr st=>ye z st fr F.results fun v=>k v st)
         |false=>z
        |none=>z)=_
  simp only[nF,C4,AW,Mc,QJ z ih,Tw]
  cases O f with
  |some s=>
   simp only[]
   cases s args st with
   |none=>rfl
   |some x=>rfl
  |none=>
   simp only[]
   cases G.get (key f) with
   |none=>rfl
   |    some F=>
        simp only[]
        cases Nat.beq args.length F.nparams with
        |false=>rfl
        |true=>
         simp only[]
         cases exec (nF O G m d) m F.code (params 0 args .e) st with
         |none=>rfl
         |  some x=>
            obtain ⟨e,gH,cm⟩:=x
            cases e with
            |normal=>
             simp only[QI]
             cases gB (fun b=>cm.heap.get b) gH F.results<;>rfl
            |exit id=>rfl
            |ret=>
             simp only[QI]
             cases gB (fun b=>cm.heap.get b) gH F.results<;>rfl
end
end Go.Ai
end
section
namespace Go.Ai
open Go
def VF (P:Program) (t:Nat) (ti:TI):Bool:=
 match P.underlying t,P.info? t with
 |  some d,some i=>bU ti.k d&&Nat.beq i.size ti.size&&Nat.beq i.bytes ti.bytes&&
    (match ti.zero with
     |none=>true
     | some z=>match i.zero with
       |some v=>(match qF v.cells.toList with
           |some z'=>kB z' z
           |none=>false)&&Nat.beq z.length ti.size&&(match ti.k.isAgg,v with
           |true,.agg _=>true
           |true,_=>false
           |false,.agg _=>false
           |false,_=>true)
       |none=>false)&&(match ti.k with
     | .ptr e=>(P.info? e).isSome
     |_=>true)&&(!ti.zU||(!P.stoodInHeld t&& !P.eqGuardType P.depth t))
 |_,_=>false
theorem ZO {P:Program} {t:Nat} {ti:TI} (h:VF P t ti=true):Vf P t ti:=by
 unfold VF at h
 split at h<;>first|(cases h;done)|skip
 rename_i d i hd hi
 simp only[Bool.and_eq_true,Bool.or_eq_true,Bool.not_eq_true'] at h
 obtain ⟨⟨⟨⟨⟨h1,h2⟩,h3⟩,h4⟩,h6⟩,h5⟩:=h
 refine ⟨⟨d,hd,h1⟩,⟨i,hi,Nat.eq_of_beq_eq_true h2,Nat.eq_of_beq_eq_true h3,fun z hz=> ?_⟩,fun e he=> ?_,fun he=> ?_⟩
 . rw[hz] at h4
   simp only at h4
   split at h4<;>first|(cases h4;done)|skip
   rename_i v hv
   simp only[Bool.and_eq_true] at h4
   obtain ⟨⟨g1,g2⟩,g3⟩:=h4
   split at g1<;>first|(cases g1;done)|skip
   rename_i z' xQ
   rw[yW g1] at xQ
   refine ⟨v,hv,xQ,Nat.eq_of_beq_eq_true g2,fun ha=> ?_,fun ha=> ?_⟩
   . rw[ha] at g3;cases v<;>first|exact ⟨_,rfl⟩|cases g3
   . rw[ha] at g3;cases v<;>first|rfl|cases g3
 . rw[he] at h6
   exact Option.isSome_iff_exists.1 h6
 . rcases h5 with h5|h5
   . rw[he] at h5;cases h5
   . exact h5
def AX (P:Program):(Pos->Pos)->T TI->Bool
 |_,.e=>true
 |  f,.n l v r=>(match v with
    |some ti=>VF P ((f .h).toNat - 1) ti
    |none=>true)&&AX P (fun p=>f (.o p)) l&&AX P (fun p=>f (.i p)) r
theorem FB {P:Program}: ∀{t:T TI} {f:Pos->Pos},AX P f t=true-> ∀p ti,t.get p=some ti->Vf P ((f p).toNat - 1) ti
 | .e,f,_,p,ti,h=>by rw[T.eE] at h;cases h
 | .n l v r,f,hc,p,ti,h=>by
   simp only[AX,Bool.and_eq_true] at hc
   cases p with
   |h=>simp only[T.get] at h;rw[h] at hc;exact ZO hc.1.1
   |o p=>exact FB hc.1.2 p ti h
   |i p=>exact FB hc.2 p ti h
theorem abz {P:Program} {tt:TT} (h:AX P (fun p=>p) tt=true):dh P tt:=fun p ti hp=>FB h p ti hp
def ah (P:Program) (tt:TT) (f:Pos->Pos) (t:T aM):Prop:=
 ∀p F,t.get p=some F-> ∃fn,P.funcs[(f p).toNat - 1]? =some fn/\(fn.name== "runtime.NumGoroutine")=false/\aq tt fn=some F
def AE (P:Program) (tt:TT) (i:Nat) (v:Option aM):Prop:=
 ∀F,v=some F-> ∃fn,P.funcs[i]? =some fn/\(fn.name== "runtime.NumGoroutine")=false/\aq tt fn=some F
theorem ah.e {P:Program} {tt:TT} {f:Pos->Pos}:ah P tt f .e:=fun p F h=>by rw[T.eE] at h;cases h
theorem ah.n {P:Program} {tt:TT} {f:Pos->Pos} {l r:T aM} {v:Option aM} (hl:ah P tt (fun p=>f (.o p)) l) (hv:AE P tt ((f .h).toNat - 1) v) (hr:ah P tt (fun p=>f (.i p)) r):
  ah P tt f (.n l v r):=fun p F h=>by
 cases p with
 |h=>exact hv F h
 |o p=>exact hl p F h
 |i p=>exact hr p F h
theorem AE.none {P:Program} {tt:TT} {i:Nat}:AE P tt i none:=fun F h=>by cases h
theorem AE.of {P:Program} {tt:TT} {i:Nat} {fn:Func} (h:P.funcs[i]? =some fn) (hn:(fn.name== "runtime.NumGoroutine")=false):AE P tt i (aq tt fn):=
 fun F hF=>⟨fn,h,hn,hF⟩
theorem afO {P:Program} {tt:TT} {G:T aM} (h:ah P tt (fun p=>p) G):LU P tt G:=fun p F hp=>h p F hp
end Go.Ai
end
section
namespace Go.Ai
open Go
structure mS (P:Program) (C:Cells) (f:FuncId) (s:List AV->St->Option (AV×St)):Prop where
 mono: ∀args st v st',s args st=some (v,st')->st.next.toNat<=st'.next.toNat
 runs: ∀(ρ:Pos->Loc) (st:St) (w:World) (args:List AV) (v:AV) (st':St) (bu:List Value),s args st=some (v,st')->
  bM ρ C st w->az ρ st.next.toNat C args bu->Reaches P (lM ρ C st w v st') ((callFunc f bu.toArray).run P w)
def uB:List (Nat×(List AV->St->Option (AV×St)))->eW
 |[]=>fun _=>none
 |  (g,s)::l=>fun f=>match Nat.beq f g with
    |true=>some s
    |false=>uB l f
theorem tK {P:Program} {C:Cells}: ∀{l:List (Nat×(List AV->St->Option (AV×St)))},(∀x∈l,mS P C x.1 x.2)->qZ P C (uB l)/\lY (uB l)
 |[],_=>⟨fun f s h=>by simp[uB] at h,fun f s h=>by simp[uB] at h⟩
 |(g,   s0)::l,hl=>by
  obtain ⟨h1,h2⟩:=tK fun x hx=>hl x (List.mem_cons_of_mem _ hx)
  have h0:=hl _ (List.mem_cons_self ..)
  refine ⟨fun f s h=> ?_,fun f s h=> ?_⟩
  . simp only[uB] at h
    split at h
    .   rename_i he
        simp only[Option.some.injEq] at h;subst h
        have:=Nat.eq_of_beq_eq_true he;subst this
        exact h0.runs
    .   exact h1 f s h
  . simp only[uB] at h
    split at h
    .   simp only[Option.some.injEq] at h;subst h
        exact h0.mono
    .   exact h2 f s h
def vP:List AV->St->Option (AV×St)
 |  [.str a,.str b],st=>some (.int .i64 (match ey a b with
    |true=> .negSucc 0
    |false=>match ey b a with
     |true=> .ofNat 1
     |false=> .ofNat 0),st)
 |_,_=>none
theorem Im: ∀(x y:List UInt8),Lib.compareBytes x y=match ey (x.map UInt8.toNat) (y.map UInt8.toNat) with
  |true=> .negSucc 0
  | false=>match ey (y.map UInt8.toNat) (x.map UInt8.toNat) with
    |true=> .ofNat 1
    |false=> .ofNat 0
 |[],[]=>rfl
 |[],_::_=>rfl
 |_::_,[]=>rfl
 |a ::x  ,b::y=>by
  rw[sj,sj]
  have ih:=Im x y
  rw[sj,sj] at ih
  simp only[Lib.compareBytes,Op.bytesLess]
  by_cases h:a<b
  . simp[h]
  . by_cases h':b<a
    .   have en:(a==b)=false:=by
         rw[beq_eq_false_iff_ne]
         exact fun e=>by subst e;exact h h'
        simp[h,h',en]
    .   have he:a=b:=by
         apply UInt8.toNat_inj.1
         rw[UInt8.lt_iff_toNat_lt] at h h'
         omega
        subst he
        simp only[h,if_false,ih]
        simp
theorem ZP {P:Program} {C:Cells} {f:FuncId} {fn:Func} (hf:P.funcs[f]? =some fn) (o9:(fn.name== "runtime.NumGoroutine")=false) (hb:fn.body.isNone=true)
  (hx:Extern.findNext fn=none) (he:Extern.find fn=some Extern.BytealgCompare.compare):mS P C f vP where
 mono args st v st' h:=by
  unfold vP at h
  split at h<;>cases h
  exact Nat.le_refl _
 runs ρ st w args v st' bu h hW hv:=by
  unfold vP at h
  split at h<;>cases h
  rename_i a b
  obtain ⟨x,xs,rfl,h1,h2⟩:=hv.cons_inv
  obtain ⟨y,ys,rfl,h3,h4⟩:=h2.cons_inv
  have:=h4.kQ;subst this
  obtain ⟨s,rfl,hs⟩:=h1.dN
  obtain ⟨t,rfl,ht⟩:=h3.dN
  have cA:(callFunc f [Value.string s,Value.string t].toArray).run P w= .ok (.value (.int .i64 (Lib.compareBytes s.data.toList t.data.toList))) w:=by
   rw[run_callFunc_extern hf o9 hb hx he]
   show ((Extern.BytealgCompare.compare #[.string s,.string t]).run P w).andThen _=_
   rw[Lib.run_compareString]
   rfl
  rw[cA]
  refine ⟨ρ,?_,fun _ _=>rfl,Nat.le_refl _,hW,ni.refl _ _ _⟩
  rw[Im,hs,ht]
  exact .int _ _
end Go.Ai
end
section
namespace Go.Ai
open Go
theorem bM.sub {ρ:Pos->Loc} {C:Cells} {st:St} {w:World} (h:bM ρ C st w) {h2:T AB} (hs: ∀b x,h2.get b=some x->st.heap.get b=some x):bM ρ C { heap:=h2,next:=st.next } w where
 live b x hb:=h.live b x (hs b x hb)
 inj b b' x x' hb gV he:=h.inj b b' x x' (hs b x hb) (hs b' x' gV) he
 dc a v ha:=⟨(h.dc a v ha).1,fun b x hb=>(h.dc a v ha).2 b x (hs b x hb)⟩
 whole:=h.whole
theorem lM.frame {ρ:Pos->Loc} {C:Cells} {st st':St} {w w':World} {v:AV} {x:Value} {h0 h2:T AB} (hW:bM ρ C st w) (tI: ∀b y,h0.get b=some y->st.heap.get b=some y)
   (h:lM ρ C { heap:=h0,next:=st.next } w v st' x w')
   (Xs: ∀b y,h2.get b=some y->st'.heap.get b=some y\/(st.heap.get b=some y/\h0.get b=none)):
   lM ρ C st w v { heap:=h2,next:=st'.next } x w':=by
 obtain ⟨ρ',hv,aU,hn,eF,hE⟩:=h
 have hold: ∀b y,st.heap.get b=some y->h0.get b=none-> ∀b' y',h0.get b'=some y'->(ρ b').aF≠(ρ b).aF:=fun b y hb wO b' y' gV e=>by
   have:=hW.inj b' b y' y (tI b' y' gV) hb e
   subst this;rw[wO] at gV;cases gV
 have Xt: ∀b y b' y',st'.heap.get b=some y->st.heap.get b'=some y'->h0.get b'=none->(ρ' b).aF≠(ρ' b').aF:=fun b y b' y' hb gV wO e=>by
   rw[aU b' (hW.live b' y' gV).1] at e
   rcases hE.uO b y hb with ⟨b2,y2,g1,g2⟩|g1
   . exact hold b' y' gV wO b2 y2 g1 (g2.trans e)
   . have:=(hW.live b' y' gV).2.1;omega
 refine ⟨ρ',hv,aU,hn,⟨fun b y hb=> ?_,fun b b' y y' hb gV he=> ?_,fun a u ha=>⟨(eF.dc a u ha).1,fun b y hb=> ?_⟩,eF.whole⟩,⟨hE.os,hE.tape,hE.output,hE.size,fun k hk nR=> ?_,fun b y hb=> ?_⟩⟩
 . rcases Xs b y hb with hb|⟨hb,wO⟩
   . exact eF.live b y hb
   . obtain ⟨g1,g2,g3⟩:=hW.live b y hb
     refine ⟨Nat.lt_of_lt_of_le g1 hn,?_,?_⟩
     .  rw[aU b g1];exact Nat.lt_of_lt_of_le g2 hE.size
     .  rw[aU b g1]
        exact (g3.mono aU hn).of_heap (hE.block _ g2 fun b' y' gV=>hold b y hb wO b' y' gV)
 . rcases Xs b y hb with hb|⟨hb,wO⟩<;>rcases Xs b' y' gV with gV|⟨gV,hb0'⟩
   . exact eF.inj b b' y y' hb gV he
   . exact absurd he (Xt b y b' y' hb gV hb0')
   . exact absurd he.symm (Xt b' y' b y gV hb wO)
   . rw[aU b (hW.live b y hb).1,aU b' (hW.live b' y' gV).1] at he
     exact hW.inj b b' y y' hb gV he
 . rcases Xs b y hb with hb|⟨hb,wO⟩
   . exact (eF.dc a u ha).2 b y hb
   . rw[aU b (hW.live b y hb).1];exact (hW.dc a u ha).2 b y hb
 . exact hE.block k hk fun b y hb=>nR b y (tI b y hb)
 . rcases Xs b y hb with hb|⟨hb,wO⟩
   . rcases hE.uO b y hb with ⟨b',y',g1,g2⟩|g1
     .  exact .inl ⟨b',y',tI b' y' g1,g2⟩
     .  exact .inr g1
   . exact .inl ⟨b,y,hb,by rw[aU b (hW.live b y hb).1]⟩
def u0:List AV->List AV->Bool
 |[],[]=>true
 |a::x,b::y=>fN a b&&u0 x y
 |_,_=>false
theorem zq: ∀{a b:List AV},u0 a b=true->a=b
 |[],[],_=>rfl
 |[],_::_,h=>by simp[u0] at h
 |_::_,[],h=>by simp[u0] at h
 |a::x,b::y,h=>by
  simp only[u0,Bool.and_eq_true] at h
  rw[tH h.1,zq h.2]
def FC:List (AV×AV×Nat)->List (AV×AV×Nat)->Bool
 |[],[]=>true
 |(a,b,n)::x,(a',b',n')::y=>fN a a'&&fN b b'&&Nat.beq n n'&&FC x y
 |_,_=>false
theorem KE: ∀{a b:List (AV×AV×Nat)},FC a b=true->a=b
 |[],[],_=>rfl
 |[],_::_,h=>by simp[FC] at h
 |_::_,[],h=>by simp[FC] at h
 |(a,b,n)::x,(a',b',n')::y,h=>by
  simp only[FC,Bool.and_eq_true] at h
  obtain ⟨⟨⟨h1,h2⟩,h3⟩,h4⟩:=h
  rw[tH h1,tH h2,Nat.eq_of_beq_eq_true h3,KE h4]
def VG:AB->AB->Bool
 | .cells cs fz,.cells ql fz'=>u0 cs ql&&Nat.beq fz fz'
 | .map es c,.map es' c'=>FC es es'&&Nat.beq c c'
 | .kY s p,.kY s' p'=>iC s s'&&Nat.beq p p'
 | .typed t cs,.typed t' ql=>u0 cs ql&&Nat.beq t t'
 |_,_=>false
theorem ZQ {a b:AB} (h:VG a b=true):a=b:=by
 unfold VG at h
 split at h<;>(try simp only[Bool.and_eq_true] at h)
 . rw[zq h.1,Nat.eq_of_beq_eq_true h.2]
 . rw[KE h.1,Nat.eq_of_beq_eq_true h.2]
 . rw[kD.1 h.1,Nat.eq_of_beq_eq_true h.2]
 . rw[zq h.1,Nat.eq_of_beq_eq_true h.2]
 . cases h
def hasAll (h:T AB):List (Pos×AB)->Bool
 |[]=>true
 |  (b,x)::l=>(match h.get b with
    |some y=>VG y x
    |none=>false)&&hasAll h l
theorem Io {h:T AB}: ∀{l:List (Pos×AB)},hasAll h l=true-> ∀b x,(b,x)∈l->h.get b=some x
 |[],_,b,x,hm=>by cases hm
 |(b0,x0)::l,hh,b,x,hm=>by
  simp only[hasAll,Bool.and_eq_true] at hh
  rcases List.mem_cons.1 hm with hm|hm
  . cases hm
    have h1:=hh.1
    split at h1<;>first|(cases h1;done)|skip
    rename_i y hy
    rw[hy,ZQ h1]
  . exact Io hh.2 b x hm
theorem C5: ∀{l:List (Pos×AB)} {h:T AB} {b:Pos} {x:AB},(eo l h).get b=some x->(b,x)∈l\/(h.get b=some x/\ ∀y∈l,y.1≠b)
 |[],h,b,x,hb=> .inr ⟨hb,fun y hy=>by cases hy⟩
 |(b0,x0)::l,h,b,x,hb=>by
  unfold eo at hb
  by_cases e:b0=b
  . subst e
    rw[T.fj] at hb
    simp only[Option.some.injEq] at hb;subst hb
    exact .inl (List.mem_cons_self ..)
  . rw[T.bN _ e] at hb
    rcases C5 hb with h1|⟨h1,h2⟩
    .   exact .inl (List.mem_cons_of_mem _ h1)
    .   refine .inr ⟨h1,fun y hy=> ?_⟩
        rcases List.mem_cons.1 hy with rfl|hy
        . exact e
        . exact h2 y hy
structure Lit where
 args:List AV
 n0:Pos
 L0:List (Pos×AB)
 v:AV
 n1:Pos
 L1:List (Pos×AB)
def Md (l m:List (Pos×AB)):Bool:=l.all fun x=>m.any fun y=>Pos.beq x.1 y.1
def FD (t:Lit):List AV->St->Option (AV×St):=fun args st=>
 match u0 args t.args&&Pos.beq st.next t.n0&&hasAll st.heap t.L0 with
 |true=>some (t.v,{ heap:=eo t.L1 st.heap,next:=t.n1 })
 |false=>none
noncomputable def Me (t:Lit) (O:eW) (G:T aM) (m d f:Nat):Bool:=
 vt (R:=Bool) false O G m d f t.args { heap:=eo t.L0 .e,next:=t.n0 } fun v st=>fN v t.v&&Pos.beq st.next t.n1&&hasAll st.heap t.L1
theorem QK {P:Program} {C:Cells} {t:Lit} {O:eW} {G:T aM} {m d f:Nat} (fZ:j0 P C (nF O G m d)) (VD:mR (nF O G m d))
   (hk:Md t.L0 t.L1=true) (h:Me t O G m d f=true):mS P C f (FD t):=by
 unfold Me at h
 rw[yo false O G m d] at h
 unfold sy at h
 split at h<;>first|(cases h;done)|skip
 rename_i x hx
 obtain ⟨v,cm⟩:=x
 simp only[Bool.and_eq_true] at h
 obtain ⟨⟨h1,h2⟩,h3⟩:=h
 have h1:=tH h1
 have h2:=Pos.beq_eq.1 h2
 subst h1
 have Ow: ∀args st v' st',FD t args st=some (v',st')->args=t.args/\st.next=t.n0/\hasAll st.heap t.L0=true/\v'=t.v/\st'={ heap:=eo t.L1 st.heap,next:=t.n1 }:=by
   intro args st v' st' hs
   unfold FD at hs
   split at hs<;>first|(cases hs;done)|skip
   rename_i hc
   simp only[Bool.and_eq_true] at hc
   simp only[Option.some.injEq,Prod.mk.injEq] at hs
   exact ⟨zq hc.1.1,Pos.beq_eq.1 hc.1.2,hc.2,hs.1.symm,hs.2.symm⟩
 refine ⟨fun args st v' st' hs=> ?_,fun ρ st w args v' st' bu hs hW hv=> ?_⟩
 . obtain ⟨rfl,g2,g3,rfl,rfl⟩:=Ow _ _ _ _ hs
   have:=VD _ _ _ _ _ hx
   rw[g2, <-h2];exact this
 . obtain ⟨ rfl,g2,g3,rfl,rfl⟩:=Ow _ _ _ _ hs
   have tI: ∀b y,(eo t.L0 T.e).get b=some y->st.heap.get b=some y:=fun b y hb=>by
    rcases C5 hb with hb|⟨hb,_⟩
    .   exact Io g3 b y hb
    .   rw[T.eE] at hb;cases hb
   have C6:nF O G m d f t.args { heap:=eo t.L0 .e,next:=st.next }=some (t.v,cm):=by rw[g2];exact hx
   refine Reaches.mono (fun x w' hp=> ?_) (fZ ρ _ w f t.args t.v cm bu C6 (hW.sub tI) hv)
   have:=   hp.frame hW tI (h2:=eo t.L1 st.heap) fun b y hb=>by
    rcases C5 hb with hb|⟨hb,nR⟩
    .   exact .inl (Io h3 b y hb)
    .   refine .inr ⟨hb,?_⟩
        cases hg:(eo t.L0 T.e).get b with
        |none=>rfl
        |some u=>
         exfalso
         rcases C5 hg with hg|⟨hg,_⟩
         .  unfold Md at hk
            rw[List.all_eq_true] at hk
            have:=hk _ hg
            rw[List.any_eq_true] at this
            obtain ⟨y',Xm,he⟩:=this
            exact nR y' Xm (Pos.beq_eq.1 he).symm
         .  rw[T.eE] at hg;cases hg
   rw[h2] at this
   exact this
end Go.Ai
end
section
namespace Go.Ai
open Go
def Mf (s t:List AV->St->Option (AV×St)):List AV->St->Option (AV×St):=fun args st=>match s args st with
 |some r=>some r
 |none=>t args st
theorem QL {P:Program} {C:Cells} {f:FuncId} {s t:List AV->St->Option (AV×St)} (hs:mS P C f s) (ht:mS P C f t):mS P C f (Mf s t) where
 mono args st v st' h:=by
  unfold Mf at h
  split at h
  . rename_i r hr
    simp only[Option.some.injEq] at h;subst h
    exact hs.mono _ _ _ _ hr
  . exact ht.mono _ _ _ _ h
 runs ρ st w args v st' bu h hW hv:=by
  unfold Mf at h
  split at h
  . rename_i r hr
    simp only[Option.some.injEq] at h;subst h
    exact hs.runs ρ st w args v st' bu hr hW hv
  . exact ht.runs ρ st w args v st' bu h hW hv
end Go.Ai
end
