/- The evaluator's calls answer as the model's calls do, on every tape. -/
import Derived.Test.YthiaklapeamjlaaGreatDoorCEvalC
import Derived.Orders
import Derived.Test.YthiaklapeamjlaaGreatDoorCEvalA
import Derived.Laws.Externs
import Derived.Lib.Bytealg
import Derived.KernelRfl
set_option linter.all false
set_option linter.unusedSectionVars false
set_option linter.deprecated false
namespace Go.Ai
section
open Go Go.RowKit
theorem DW {a b:AV} (h:fJ a b=true):a=b:=by
 unfold fJ at h
 split at h<;>(try simp only[Bool.and_eq_true,Bool.false_eq_true] at h)<;>try rfl
 . rw[beq_iff_eq.1 h]
 . rename_i k i k' i'
   have h2:=h.2;rw[mE] at h2
   rw[yj h.1,beq_iff_eq.1 h2]
 . rw[lS.1 h]
 . rw[Pos.beq_eq.1 h.1,Nat.eq_of_beq_eq_true h.2]
 . obtain ⟨⟨⟨h1,h2⟩,h3⟩,h4⟩:=h
   rw[Pos.beq_eq.1 h1,Nat.eq_of_beq_eq_true h2,Nat.eq_of_beq_eq_true h3,Nat.eq_of_beq_eq_true h4]
 . obtain ⟨⟨⟨⟨h1,h2⟩,h3⟩,h4⟩,h5⟩:=h
   rw[Pos.beq_eq.1 h1,Nat.eq_of_beq_eq_true h2,Nat.eq_of_beq_eq_true h3,Nat.eq_of_beq_eq_true h4,Nat.eq_of_beq_eq_true h5]
 . rw[Pos.beq_eq.1 h]
theorem Ie: ∀{a b:List AV},xH a b=true->a=b
 |[],[],_=>rfl
 |[],_::_,h=>by simp[xH] at h
 |_::_,[],h=>by simp[xH] at h
 |a::x,b::y,h=>by
  simp only[xH,Bool.and_eq_true] at h
  rw[DW h.1,Ie h.2]
theorem ZD {f:AV->AV->Bool} (hf: ∀{a b},f a b=true->a=b): ∀{a b:List AV},Gz f a b=true->a=b
 |[],[],_=>rfl
 |[],_::_,h=>by simp[Gz] at h
 |_::_,[],h=>by simp[Gz] at h
 |a::x,b::y,h=>by
  simp only[Gz,Bool.and_eq_true] at h
  rw[hf h.1,ZD hf h.2]
theorem T9 {f:AV->AV->Bool} (hf: ∀{a b},f a b=true->a=b): ∀{a b:List (List AV)},yf f a b=true->a=b
 |[],[],_=>rfl
 |[],_::_,h=>by simp[yf] at h
 |_::_,[],h=>by simp[yf] at h
 |a::x,b::y,h=>by
  simp only[yf,Bool.and_eq_true] at h
  rw[ZD hf h.1,T9 hf h.2]
theorem ZE: ∀{d:Nat} {a b:AV},GC d a b=true->a=b
 |0,_,_,h=>by unfold GC at h;exact DW h
 |d +1,a,b,h=>by
  unfold GC at h
  split at h
  . rename_i heq;cases heq
    simp only[Bool.and_eq_true] at h
    rw[T9 (fun h=>ZE h) h.1,Nat.eq_of_beq_eq_true h.2]
  . exact DW h
theorem Ua {a b:AV} (h:kK a b=true):a=b:=by
 unfold kK at h
 split at h
 . simp only[Bool.and_eq_true] at h
   rw[Nat.eq_of_beq_eq_true h.1.1,Ie h.1.2,Ie h.2]
 . exact ZE h
 . exact DW h
theorem BH: ∀{a b:List AV},oG a b=true->a=b
 |[],[],_=>rfl
 |[],_::_,h=>by simp[oG] at h
 |_::_,[],h=>by simp[oG] at h
 |a::x,b::y,h=>by
  simp only[oG,Bool.and_eq_true] at h
  rw[Ua h.1,BH h.2]
theorem Be {a b:AV} (h:eC a b=true):a=b:=by
 unfold eC at h
 split at h
 . rw[BH h]
 . rw[BH h]
 . exact Ua h
theorem agH {k:aC} {H H':Pos->Option AB} {n n':Pos} {xs:List AV} {v:AV} (h:k.run H n xs=some (.val v)) (hm: ∀b x,H b=some x->H' b=some x):
  k.run H' n' xs=some (.val v):=by
 cases k<;>simp only[aC.run] at h ⊢ <;>try exact h
 case alloc z=>unfold Kq at h;split at h<;>cases h
 case box=>unfold TH at h;split at h<;>cases h
 case buildSlice es len z p=>unfold rO at h;dsimp only at h;split at h<;>cases h
 case mkMap=>unfold Kt at h;cases h
 case mkSlice es b z=>
  unfold y7 at h
  repeat' split at h
  all_goals cases h
 case rangeS=>
  unfold Gx at h
  repeat' split at h
  all_goals cases h
 case store m=>
  unfold Ez at h
  repeat' split at h
  all_goals cases h
 case mapSet pk=>
  unfold tV at h
  repeat' split at h
  all_goals cases h
 case load m=>
  unfold u6 at h ⊢
  split at h<;>first|(cases h;done)|skip
  split at h<;>first|(cases h;done)|skip
  . split at h<;>first|(cases h;done)|skip
    .   rename_i cs fz hb
        simp only[hm _ _ hb]
        exact h
    .   rename_i t0 cs hb
        simp only[hm _ _ hb]
        exact h
  . exact h
 case conv c=>
  unfold A3 at h ⊢
  split at h<;>first|(cases h;done)|skip
  split at h<;>first|(cases h;done)|exact h|skip
  rename_i b off m _ _
  cases hb:Nat.beq m 0 with
  |true=>simp only[hb] at h ⊢; exact h
  | false=>
    simp only[hb] at h ⊢
    cases hH:H b with
    |none=>simp[hH] at h
    |some x=>simp only[hH] at h;simp only[hm _ _ hH];exact h
 case lookup pk z ok=>
  unfold l8 at h ⊢
  split at h<;>first|(cases h;done)|skip
  rename_i m k'
  cases m<;>try exact h
  rename_i b
  cases hb:H b with
  |none=>simp[hb] at h
  | some x=>
    simp only[hb] at h
    simp only[hm _ _ hb]
    exact h
 case lenB lk=>
  unfold Jb at h ⊢
  split at h<;>first|(cases h;done)|skip
  split at h<;>first|(cases h;done)|exact h|skip
  split at h<;>first|(cases h;done)|skip
  rename_i es c hb
  simp only[hm _ _ hb]
  exact h
 case nextS=>
  unfold Ku at h ⊢
  split at h<;>first|(cases h;done)|skip
  split at h<;>first|(cases h;done)|skip
  split at h<;>first|(cases h;done)|skip
  rename_i s pos hb
  simp only[hm _ _ hb]
  split at h
  . rename_i aP
    split at h<;>cases h
  . rename_i aP
    exact h
 case allocT t z=>
  unfold Gy at h
  split at h<;>cases h
 case appendT e bytes=>
  unfold u7 at h ⊢
  split at h<;>first|(cases h;done)|skip
  split at h<;>first|(cases h;done)|skip
  split at h<;>first|(cases h;done)|skip
  . split at h<;>first|(cases h;done)|skip
    split at h<;>first|(cases h;done)|exact h
  . split at h<;>first|(cases h;done)|skip
    split at h
    .   exact h
    .   repeat' split at h
        all_goals cases h
 case toU=>
  unfold TJ at h ⊢
  split at h<;>first|(cases h;done)|skip
  split at h<;>first|(cases h;done)|exact h|skip
  split at h<;>first|(cases h;done)|skip
  rename_i t0 cs hb
  simp only[hm _ _ hb]
  exact h
 case fromU u m=>
  unfold Kv at h ⊢
  split at h<;>first|(cases h;done)|skip
  split at h<;>first|(cases h;done)|exact h|skip
  split at h<;>first|(cases h;done)|skip
  rename_i t0 cs hb
  simp only[hm _ _ hb]
  exact h
 case unsafeStr e=>
  unfold pH at h ⊢
  split at h<;>first|(cases h;done)|skip
  split at h<;>first|(cases h;done)|skip
  split at h
  . exact h
  . repeat' split at h
    all_goals cases h
 case clearS es z=>
  unfold oc at h ⊢
  split at h<;>first|(cases h;done)|skip
  split at h<;>first|(cases h;done)|exact h|skip
  rename_i b off m _ _
  cases hb:Nat.beq m 0 with
  |true=>simp only[hb] at h ⊢; exact h
  | false=>
    simp only[hb] at h
    repeat' split at h
    all_goals cases h
 case copyB es=>
  unfold A4 at h ⊢
  split at h<;>first|(cases h;done)|skip
  rename_i d x
  cases hd:dF d with
  |none=>simp[hd] at h
  | some m1=>
    cases hx:dF x with
    |none=>simp[hd,hx] at h
    |   some m2=>
        simp only[hd,hx] at h ⊢
        cases hb:Nat.beq (min m2 m1) 0 with
        |true=>simp only[hb] at h ⊢; exact h
        |false=>
         simp only[hb] at h
         split at h<;>first|(cases h;done)|skip
         split at h<;>first|(cases h;done)|skip
         split at h<;>cases h
 case append es bytes=>
  unfold fK at h ⊢
  split at h<;>first|(cases h;done)|skip
  rename_i s x
  cases hd:dF s with
  |none=>simp[hd] at h
  | some m1  =>
    cases hx:dF x with
    |none=>simp[hd,hx] at h
    |   some m2=>
        simp only[hd,hx] at h ⊢
        cases h1:Nat.ble ((2*(m1+m2)+768)*bytes) 281474976710656 with
        |false=>simp[h1] at h
        |true=>
         cases h2:Nat.ble (m1+m2) 9223372036854775807 with
         |false=>simp[h1,h2] at h
         |  true=>
            simp only[h1,h2] at h ⊢
            cases hb:Nat.beq m2 0 with
            |true=>
             simp only[hb] at h ⊢
             split at h<;>first|(cases h;done)|exact h|skip
             all_goals (simp_all;done)
            |false=>
             simp only[hb] at h
             repeat' split at h
             all_goals first
               |(rename_i e;cases e;done)
               |(rename_i e _;cases e;done)
               |(cases h;done)
               |simp_all
inductive xL (n:Pos):AV->AB->Prop where
 |ptr (cs:List AV):xL n (.ptr n 0) (.cells cs 0)
 |jM (s:List Nat):xL n (.ptr n 0) (.jM s 0)
 |slice (len es:Nat) (cap:Option Nat) (cs:List AV) (h:len=0->cap=none\/cap=some 0->cs=[]):xL n (.slice n 0 len cap es) (.cells cs 0)
 |map:xL n (.map n) (.map [] 0)
 |ptrT (t:TypeId) (cs:List AV):xL n (.ptr n 0) (.typed t cs)
 |aeW (len:Nat) (t:TypeId) (cs:List AV) (h:len≠0):xL n (.slice n 0 len none 1) (.typed t cs)
theorem W7: ∀{ps:List (Nat×Nat)} {xs cs:List AV},bJ [] ps xs=some cs->cs=[]
 |[],[],cs,h=>by simp[bJ] at h;exact h.symm ▸rfl
 |[],_::_,cs,h=>by simp[bJ] at h
 |_::_,[],cs,h=>by simp[bJ] at h
 |(off,size)::ps,v::vs,cs,h=>by
  unfold bJ at h
  split at h<;>first|(cases h;done)|skip
  rename_i h1 h2
  have h1:=Nat.eq_of_beq_eq_true h1
  have h2:=Nat.le_of_ble_eq_true h2
  have h3:v.cells=[]:=by
   apply List.eq_nil_of_length_eq_zero
   simp at h2;omega
  rw[h3] at h
  have h4:aG ([]:List AV) off []=[]:=by simp[aG]
  rw[h4] at h
  exact W7 h
theorem aiy {k : aC} {n:Pos} {xs:List AV} {v:AV} {aE:AB} (h:k.run (fun _=>none) n xs=some (.aL v none none (some aE))):xL n v aE:=by
 cases k<;>simp only[aC.run] at h
 case alloc z=>unfold Kq at h;split at h<;>cases h;exact .ptr _
 case allocT t z=>unfold Gy at h;split at h<;>cases h;exact .ptrT _ _
 case appendT e bytes=>
  unfold u7 at h
  split at h<;>first|(cases h;done)|skip
  split at h<;>first|(cases h;done)|skip
  split at h<;>first|(cases h;done)|skip
  . split at h<;>first|(cases h;done)|skip
    split at h<;>cases h
    rename_i hb
    exact .aeW _ _ _ (by have:=Nat.ne_of_beq_eq_false hb;omega)
  . split at h<;>first|(cases h;done)|skip
    repeat' split at h
    all_goals cases h
 case toU=>   unfold TJ at h;repeat' split at h
              all_goals cases h
 case fromU=>   unfold Kv at h;repeat' split at h
                all_goals cases h
 case sliceData=>   unfold tW at h;repeat' split at h
                    all_goals cases h
 case unsafeStr=>   unfold pH at h;repeat' split at h
                    all_goals cases h
 case box=>unfold TH at h;split at h<;>cases h;exact .ptr _
 case buildSlice es len z p=>
  unfold rO at h
  dsimp only at h
  split at h<;>cases h
  rename_i cs hc
  refine .slice _ _ _ _ fun h0 _=> ?_
  subst h0
  exact W7 hc
 case mkMap=>unfold Kt at h;cases h;exact .map
 case mkSlice es b z=>
  unfold y7 at h
  repeat' split at h
  all_goals cases h
  refine .slice _ _ _ _ fun _ h1=> ?_
  rcases h1 with h1|h1
  . cases h1
  . simp only[Option.some.injEq] at h1;subst h1;rfl
 case rangeS=>
  unfold Gx at h
  repeat' split at h
  all_goals cases h
  exact .jM _
 case conv c=>
  unfold A3 at h
  repeat' split at h
  all_goals cases h
  rename_i s
  refine .slice _ _ _ _ fun h0 _=> ?_
  rw[List.eq_nil_of_length_eq_zero h0];rfl
 case append es bytes=>
  unfold fK at h
  repeat' split at h
  all_goals cases h
  all_goals refine .slice _ _ _ _ fun h0 _=> ?_
  all_goals (exfalso;rename_i hb _ _;simp_all)
 case move=>unfold Qn at h;split at h<;>cases h
 case pick=>   unfold Vx at h;repeat' split at h
               all_goals cases h
 case build=>unfold Kr at h;dsimp only at h;split at h<;>cases h
 case load=>   unfold u6 at h;repeat' split at h
               all_goals cases h
 case store=>   unfold Ez at h;repeat' split at h
                all_goals cases h
 case nilCheck=>   unfold H8 at h;repeat' split at h
                   all_goals cases h
 case bin=>   unfold gP at h;repeat' split at h
              all_goals cases h
 case un=>   unfold adf at h;repeat' split at h
             all_goals cases h
 case mkIface=>   unfold Ks at h;repeat' split at h
                  all_goals cases h
 case mkFunc=>unfold BN at h;dsimp only at h;cases h
 case lookup=>
  unfold l8 at h
  split at h<;>first|(cases h;done)|skip
  dsimp only at h
  split at h<;>cases h
 case mapSet=>   unfold tV at h;repeat' split at h
                 all_goals cases h
 case sliceS=>
  unfold NS at h
  split at h<;>first|(cases h;done)|skip
  split at h<;>first|(cases h;done)|skip
  dsimp only at h
  split at h<;>cases h
 case sliceL=>   unfold gY at h;repeat' split at h
                 all_goals cases h
 case fieldA=>   unfold NT at h;repeat' split at h
                 all_goals cases h
 case idxA=>   unfold pG at h;repeat' split at h
               all_goals cases h
 case field=>   unfold SQ at h;repeat' split at h
                all_goals cases h
 case idxS=>   unfold Qo at h;repeat' split at h
               all_goals cases h
 case extract=>   unfold DT at h;repeat' split at h
                  all_goals cases h
 case callF=>unfold SR at h;dsimp only at h;cases h
 case callV=>   unfold SS at h;repeat' split at h
                all_goals cases h
 case lenB=>   unfold Jb at h;repeat' split at h
               all_goals cases h
 case copyB=>
  unfold A4 at h
  split at h<;>first|(cases h;done)|skip
  split at h<;>first|(cases h;done)|skip
  dsimp only at h
  repeat' split at h
  all_goals cases h
 case minB=>   unfold El at h;repeat' split at h
               all_goals cases h
 case maxB=>   unfold Em at h;repeat' split at h
               all_goals cases h
 case clearS=>   unfold oc at h;repeat' split at h
                 all_goals cases h
 case nextS=>   unfold Ku at h;repeat' split at h
                all_goals cases h
 case capB=>cases h
 case bad=>cases h
end
section
def kR (call:ak):Prop:= ∀f args st v st',call f args st=some (v,st')->st.next.toNat<=st'.next.toNat
section
variable {call : ak}
theorem KQ (hm:kR call) {k:aC} {xs:List AV} {st st':St} {v:AV} (h:bP call k xs st=some (v,st')):st.next.toNat<=st'.next.toNat:=by
 unfold bP at h
 split at h
 . simp only[Option.some.injEq,Prod.mk.injEq] at h;rw[h.2];exact Nat.le_refl _
 . simp only[Option.some.injEq,Prod.mk.injEq] at h;rw[<-h.2];exact St.KL _ _ _ _
 . exact hm _ _ _ _ _ h
 . cases h
theorem Ob (hm:kR call): ∀(os:List bD) (fr bn:Fr) (st st':St),jt call os fr st=some (bn,st')->st.next.toNat<=st'.next.toNat
 |[],fr,bn,st,st',h=>by simp only[jt,Option.some.injEq,Prod.mk.injEq] at h;rw[h.2];exact Nat.le_refl _
 |o ::os,fr,bn,st,st',h=>by
  unfold jt at h
  split at h
  . split at h<;>first|(cases h;done)|skip
    split at h<;>first|(cases h;done)|skip
    rename_i hs
    exact Nat.le_trans (KQ hm hs) (Ob hm os _ _ _ _ h)
  . exact Ob hm os _ _ _ _ h
  . cases h
theorem vk (hm:kR call): ∀(os:List (Nat×bD)) (recs:List Rec) (base:T AB) (fr bn:Fr) (st st':St),cW call os recs base fr st=some (bn,st')->st.next.toNat<=st'.next.toNat
 |[],recs,base,fr,bn,st,st',h=>by simp only[cW,Option.some.injEq,Prod.mk.injEq] at h;rw[h.2];exact Nat.le_refl _
 |(j,   o)::os,recs,base,fr,bn,st,st',h=>by
  have hs:st.next.toNat<=st.next.succ.toNat:=by rw[Pos.ax];omega
  unfold cW at h
  split at h
  . exact vk hm os _ _ _ _ _ _ h
  . split at h<;>first|(cases h;done)|skip
    split at h
    .   split at h<;>first|(cases h;done)|skip
        exact Nat.le_trans hs (vk hm os _ _ _ _ _ _ h)
    .   split at h<;>first|(cases h;done)|skip
        rename_i hs
        exact Nat.le_trans (KQ hm hs) (vk hm os _ _ _ _ _ _ h)
    .   split at h
        . exact vk hm os _ _ _ _ _ _ h
        . split at h<;>first|(cases h;done)|skip
          split at h<;>first|(cases h;done)|skip
          exact vk hm os _ _ _ _ _ _ h
  . cases h
theorem GP (hm:kR call): ∀(m:Nat) (c:AC) (fr bn:Fr) (st st':St) (ex:lQ),exec call m c fr st=some (ex,bn,st')->st.next.toNat<=st'.next.toNat
 |0,c,fr,bn,st,st',ex,h=>by simp[exec] at h
 |m +   1,c,fr,bn,st,st',ex,h=>by
  have ih:=GP hm m
  simp only[exec] at h
  unfold bg at h
  split at h
  . simp only[Option.some.injEq,Prod.mk.injEq] at h;rw[h.2.2];exact Nat.le_refl _
  . split at h<;>first|(cases h;done)|skip
    rename_i hs
    simp only[Option.some.injEq,Prod.mk.injEq] at h
    rw[<-h.2.2];exact Ob hm _ _ _ _ _ hs
  . split at h<;>first|(cases h;done)|skip
    rename_i hs
    simp only[Option.some.injEq,Prod.mk.injEq] at h
    rw[<-h.2.2];exact vk hm _ _ _ _ _ _ _ hs
  . split at h
    .   rename_i hs
        exact Nat.le_trans (ih _ _ _ _ _ _ hs) (ih _ _ _ _ _ _ h)
    .   exact ih _ _ _ _ _ _ h
  . split at h<;>first|(cases h;done)|exact ih _ _ _ _ _ _ h
  . split at h
    .   rename_i hs
        split at h<;>(simp only[Option.some.injEq,Prod.mk.injEq] at h;rw[<-h.2.2];exact ih _ _ _ _ _ _ hs)
    .   exact ih _ _ _ _ _ _ h
  . split at h
    .   rename_i hs
        exact Nat.le_trans (ih _ _ _ _ _ _ hs) (ih _ _ _ _ _ _ h)
    .   exact ih _ _ _ _ _ _ h
  . simp only[Option.some.injEq,Prod.mk.injEq] at h;rw[h.2.2];exact Nat.le_refl _
  . simp only[Option.some.injEq,Prod.mk.injEq] at h;rw[h.2.2];exact Nat.le_refl _
def kg (O:dQ):Prop:= ∀f s,O f=some s-> ∀args st v st',s args st=some (v,st')->st.next.toNat<=st'.next.toNat
theorem DX {O:dQ} {G:T cL} (hO:kg O) (m:Nat): ∀d,kR (od O G m d)
 |0=>fun f args st v st' h=>by simp[od] at h
 |d +   1=>fun f args st v st' h=>by
  have ih:=DX (G:=G) hO m d
  unfold od at h
  split at h
  . rename_i s hs;exact hO f s hs args st v st' h
  . split at h<;>first|(cases h;done)|skip
    split at h<;>first|(cases h;done)|skip
    split at h<;>first|(cases h;done)|skip
    .   rename_i hs
        split at h<;>first|(cases h;done)|skip
        simp only[Option.some.injEq,Prod.mk.injEq] at h
        rw[<-h.2];exact GP ih _ _ _ _ _ _ _ hs
    .   rename_i hs
        split at h<;>first|(cases h;done)|skip
        simp only[Option.some.injEq,Prod.mk.injEq] at h
        rw[<-h.2];exact GP ih _ _ _ _ _ _ _ hs
end
end
section
def mG (bY:Fr):List Rec->Fr
 |[]=>bY
 |r::R=>dc (mG bY R) r.o.dst r.v
def dx (n0:Pos):List Rec->Pos
 |[]=>n0
 |r::_=>r.nx
def RC.lV:RC->Bool
 | .aL _ _=>true
 |_=>false
def iR (h0:T AB):List Rec->T AB
 |[]=>h0
 |  r::R=>match r.c with
    | .aL _ h=>h
    |_=>iR h0 R
def iT (h0:T AB):List Rec->T AB
 |[]=>h0
 |  r::R=>match r.c with
    | .aL _ h=>h
    | .new id aE=>(iT h0 R).put (some aE) id
    | .pure=>iT h0 R
def GQ:List Rec->Prop
 |[]=>True
 |r::_=>r.c.lV=true
def ZF (h0:T AB) (R:List Rec) (o:bD) (xs:List AV) (v:AV):Prop:=
 ∀  A B,R=A++B->GQ B->(∀r∈A,r.c.lV=true->o.bE.testBit r.idx=false)->
    ∃h:T AB,(∀b x,h.get b=some x->(iR h0 B).get b=some x\/ ∃r∈A,r.c= .new b x/\o.bE.testBit r.idx=true)/\o.k.run (fun b=>h.get b) .h xs=some (.val v)
inductive pK (call:ak) (bY:Fr) (h0:T AB) (n0:Pos):Rec->List Rec->Prop where
 |skip (i:Nat) (o:bD) (R:List Rec) (hw:bM (mG bY R) o.guard=some false):
  pK call bY h0 n0 { idx:=i,o:=o,v:= .undef,c:= .pure,nx:=dx n0 R } R
 |pure (i:Nat) (o:bD) (v:AV) (xs:List AV) (R:List Rec) (hw:bM (mG bY R) o.guard=some true) (hx:ey (mG bY R) o.xs=some xs) (hr:ZF h0 R o xs v):
  pK call bY h0 n0 { idx:=i,o:=o,v:=v,c:= .pure,nx:=dx n0 R } R
 |new (i:Nat) (o:bD) (v:AV) (aE:AB) (xs:List AV) (R:List Rec) (hw:bM (mG bY R) o.guard=some true) (hx:ey (mG bY R) o.xs=some xs)
  (hr:o.k.run (fun _=>none) (dx n0 R) xs=some (.aL v none none (some aE))):
  pK call bY h0 n0 { idx:=i,o:=o,v:=v,c:= .new (dx n0 R) aE,nx:=(dx n0 R).succ } R
 |aL (i:Nat) (o:bD) (v:AV) (st':St) (xs:List AV) (R:List Rec) (hc:o.cls= .aL) (hw:bM (mG bY R) o.guard=some true) (hx:ey (mG bY R) o.xs=some xs)
  (hr:bP call o.k xs { heap:=iT h0 R,next:=dx n0 R }=some (v,st')):
  pK call bY h0 n0 { idx:=i,o:=o,v:=v,c:= .aL (iR h0 R) st'.heap,nx:=st'.next } R
def Good (call:ak) (bY:Fr) (h0:T AB) (n0:Pos):List Rec->Prop
 |[]=>True
 |r::R=>pK call bY h0 n0 r R/\Good call bY h0 n0 R
section
variable {call : ak} {bY : Fr} {h0 : T AB} {n0 : Pos}
theorem Good.tail: ∀{A B:List Rec},Good call bY h0 n0 (A++B)->Good call bY h0 n0 B
 |[],_,h=>h
 |_::_,_,h=>Good.tail h.2
theorem Good.at {A B:List Rec} {r:Rec} (h:Good call bY h0 n0 (A++r::B)):pK call bY h0 n0 r B:=(Good.tail h).1
theorem KR: ∀{A B:List Rec},(∀r∈A,r.c.lV=false)->iR h0 (A++B)=iR h0 B
 |[],_,_=>rfl
 |r::A,B,h=>by
  have h1:=h r (List.mem_cons_self ..)
  have ih:=KR (A:=A) (B:=B) fun r hr=>h r (List.mem_cons_of_mem _ hr)
  simp only[List.cons_append,iR]
  split
  . rename_i hc;rw[hc] at h1;cases h1
  . exact ih
theorem S8 {bE:Nat}: ∀{A B:List Rec} {h:T AB} {b:Pos} {x:AB},(∀r∈A,r.c.lV=false)->GQ B->(snap bE h (A++B)).get b=some x->
  h.get b=some x\/ ∃r∈A,r.c= .new b x/\bE.testBit r.idx=true
 |[],B,h,b,x,_,hB,hs=>by
  cases B with
  |nil=>exact .inl hs
  | cons r B=>
    simp only[GQ] at hB
    simp only[List.nil_append,snap] at hs
    cases hc:r.c<;>rw[hc] at hB<;>first|(cases hB;done)|skip
    rw[hc] at hs
    exact .inl hs
 |r ::A   ,B,h,b,x,hA,hB,hs=>by
  have ih:= @S8 bE A B h b x (fun r hr=>hA r (List.mem_cons_of_mem _ hr)) hB
  have up:(h.get b=some x\/ ∃r∈A,r.c= .new b x/\bE.testBit r.idx=true)->h.get b=some x\/ ∃r'∈r::A,r'.c= .new b x/\bE.testBit r'.idx=true:=fun h1=>
    h1.imp id fun ⟨r',h2,h3⟩=>⟨r',List.mem_cons_of_mem _ h2,h3⟩
  simp only[List.cons_append,snap] at hs
  cases hc:r.c with
  |pure=>rw[hc] at hs;exact up (ih hs)
  |aL b1 h1=>have:=hA r (List.mem_cons_self ..);rw[hc] at this;cases this
  | new   id aE=>
    rw[hc] at hs
    cases ht:bE.testBit r.idx with
    |false=>simp only[ht] at hs;exact up (ih hs)
    |   true=>
        simp only[ht] at hs
        by_cases hid:id=b
        . subst hid
          rw[T.fq] at hs
          simp only[Option.some.injEq] at hs;subst hs
          exact .inr ⟨r,List.mem_cons_self ..,hc,ht⟩
        . rw[T.bK _ hid] at hs
          exact up (ih hs)
theorem W8: ∀{up:List (Pos×AB)} {h:T AB} {b:Pos} {x:AB},(jN up h).get b=some x->h.get b=some x\/(b,x)∈up
 |[],_,_,_,h=> .inl h
 |(id,aE)::up,h,b,x,hs=>by
  unfold jN at hs
  by_cases hid:id=b
  . subst hid
    rw[T.fq] at hs
    simp only[Option.some.injEq] at hs;subst hs
    exact .inr (List.mem_cons_self ..)
  . rw[T.bK _ hid] at hs
    exact (W8 hs).imp (fun h=>h) fun h=>List.mem_cons_of_mem _ h
theorem KS: ∀(A:List Rec),(∀r∈A,r.c.lV=false)\/ ∃r∈A,r.c.lV=true
 |[]=> .inl fun r h=>by cases h
 |r::A=>by
  cases hr:r.c.lV with
  |true=>exact .inr ⟨r,List.mem_cons_self ..,hr⟩
  |false=>
   rcases KS A with h|⟨r',h1,h2⟩
   . exact .inl fun r' kA=>by
      rcases List.mem_cons.1 kA with rfl|h'
      . exact hr
      . exact h r' h'
   . exact .inr ⟨r',List.mem_cons_of_mem _ h1,h2⟩
theorem Ms {bE:Nat} {k:aC} {xs:List AV} {v:AV}: ∀(A B:List Rec) (up:List (Pos×AB)),jW bE k xs v up (A++B)=true->Good call bY h0 n0 (A++B)->GQ B->
  (∀r∈A,r.c.lV=true->bE.testBit r.idx=false)->(∃r∈A,r.c.lV=true)->
  ∃h:T AB,(∀b x,h.get b=some x->(iR h0 B).get b=some x\/(∃r∈A,r.c= .new b x/\bE.testBit r.idx=true)\/(b,x)∈up)/\k.run (fun b=>h.get b) .h xs=some (.val v)
 |[],B,up,_,_,_,_,he=>by obtain ⟨r,hr,_⟩:=he;cases hr
 |r::A    , B,up,GR,hG,hB,hn,he=>by
  have W9: ∀r∈A,r.c.lV=true->bE.testBit r.idx=false:=fun r' kA=>hn r' (List.mem_cons_of_mem _ kA)
  have ih:=fun up (h2:jW bE k xs v up (A++B)=true) h3=>Ms A B up h2 hG.2 hB W9 h3
  simp only[List.cons_append,jW] at GR
  cases hc:r.c with
  |pure=>
   rw[hc] at GR
   have mB: ∃r∈A,r.c.lV=true:=by
        obtain ⟨r',h1,h2⟩:=he
        rcases List.mem_cons.1 h1 with rfl|h1
        . rw[hc] at h2;cases h2
        . exact ⟨r',h1,h2⟩
   obtain ⟨h,h1,h2⟩:=ih up GR mB
   exact ⟨h,fun b x hb=>(h1 b x hb).imp (fun h=>h) (Or.imp (fun ⟨r',h3,h4⟩=>⟨r',List.mem_cons_of_mem _ h3,h4⟩) fun h=>h),h2⟩
  |new    id aE=>
   rw[hc] at GR
   have mB: ∃r∈A,r.c.lV=true:=by
        obtain ⟨r',h1,h2⟩:=he
        rcases List.mem_cons.1 h1 with rfl|h1
        . rw[hc] at h2;cases h2
        . exact ⟨r',h1,h2⟩
   cases ht:bE.testBit r.idx with
   |    false=>
        simp only[ht] at GR
        obtain ⟨h,h1,h2⟩:=ih up GR mB
        exact ⟨h,fun b x hb=>(h1 b x hb).imp (fun h=>h) (Or.imp (fun ⟨r',h3,h4⟩=>⟨r',List.mem_cons_of_mem _ h3,h4⟩) fun h=>h),h2⟩
   |    true=>
        simp only[ht] at GR
        obtain ⟨h,h1,h2⟩:=ih _ GR mB
        refine ⟨h,fun b x hb=> ?_,h2⟩
        rcases h1 b x hb with h3|⟨r',h3,h4⟩|h3
        . exact .inl h3
        . exact .inr (.inl ⟨r',List.mem_cons_of_mem _ h3,h4⟩)
        . rcases List.mem_cons.1 h3 with h3|h3
          . simp only[Prod.mk.injEq] at h3
            obtain ⟨rfl,rfl⟩:=h3
            exact .inr (.inl ⟨r,List.mem_cons_self ..,hc,ht⟩)
          . exact .inr (.inr h3)
  |aL base h=>
   rw[hc] at GR
   have ht:=hn r (List.mem_cons_self ..) (by rw[hc];rfl)
   simp only[ht,Bool.and_eq_true] at GR
   rcases KS A with hA|hA
   .    have YU:base=iR h0 B:=by
          have hs:=hG.1
          cases hs<;>simp only at hc<;>first|(cases hc;done)|skip
          simp only[RC.aL.injEq] at hc
          rw[<-hc.1];exact KR hA
        have hra:=GR.1
        unfold kL at hra
        split at hra<;>first|(cases hra;done)|skip
        rename_i u hu
        rw[Be hra] at hu
        refine ⟨_,fun b x hb=> ?_,hu⟩
        rcases W8 hb with hb|hb
        . rcases S8 hA hB hb with h3|⟨r',h3,h4⟩
          . rw[<-YU];exact .inl h3
          . exact .inr (.inl ⟨r',List.mem_cons_of_mem _ h3,h4⟩)
        . exact .inr (.inr hb)
   .    obtain ⟨h,h1,h2⟩:=ih up GR.2 hA
        exact ⟨h,fun b x hb=>(h1 b x hb).imp (fun h=>h) (Or.imp (fun ⟨r',h3,h4⟩=>⟨r',List.mem_cons_of_mem _ h3,h4⟩) fun h=>h),h2⟩
theorem Ub: ∀(L:List (Nat×bD)) (R:List Rec) (fr bn:Fr) (st st':St),cW call L R (iR h0 R) fr st=some (bn,st')->Good call bY h0 n0 R->
  fr=mG bY R->st.heap=iT h0 R->st.next=dx n0 R->
  ∃R',Good call bY h0 n0 (R'++R)/\(R'.map fun r=>(r.idx,r.o))=L.reverse/\bn=mG bY (R'++R)/\st'.heap=iT h0 (R'++R)/\st'.next=dx n0 (R'++R)
 |[],R,fr,bn,st,st',h,hG,h1,h2,h3=>by
  simp only[cW,Option.some.injEq,Prod.mk.injEq] at h
  obtain ⟨rfl,rfl⟩:=h
  exact ⟨[],hG,rfl,h1,h2,h3⟩
 |(j,   o)::  L,R,fr,bn,st,st',h,hG,h1,h2,h3=>by
  have fin: ∀(r:Rec) (bk:St) (fE:Fr),r.idx=j->r.o=o->pK call bY h0 n0 r R->fE=mG bY (r::R)->bk.heap=iT h0 (r::R)->bk.next=r.nx->
        cW call L (r::R) (iR h0 (r::R)) fE bk=some (bn,st')->
        ∃R',Good call bY h0 n0 (R'++R)/\(R'.map fun r=>(r.idx,r.o))=((j,o)::L).reverse/\bn=mG bY (R'++R)/\st'.heap=iT h0 (R'++R)/\st'.next=dx n0 (R'++R):=by
    intro r bk fE hj ho hs k1 k2 k3 hd
    obtain ⟨R',g1,g2,g3,g4,g5⟩:=Ub L (r::R) fE bn bk st' hd ⟨hs,hG⟩ k1 k2 k3
    have e:R'++r::R=(R'++[r])++R:=by simp
    rw[e] at g1 g3 g4 g5
    exact ⟨R'++[r],g1,by simp[g2,hj,ho],g3,g4,g5⟩
  unfold cW at h
  subst h1
  split at h
  . rename_i hw
    exact fin _ _ _ rfl rfl (h3 ▸pK.skip j o R hw) rfl h2 rfl h
  . rename_i hw
    split at h<;>first|(cases h;done)|skip
    rename_i xs hx
    split at h
    .   split at h<;>first|(cases h;done)|skip
        rename_i v aE hr
        rw[h3] at hr
        have hs:=pK.new (call:=call) (bY:=bY) (h0:=h0) (n0:=n0) j o v aE xs R hw hx hr
        rw[<-h3] at hs
        refine fin _ _ _ rfl rfl hs rfl ?_ rfl h
        simp only[iT,h2]
    .   rename_i agI
        split at h<;>first|(cases h;done)|skip
        rename_i v bk hr
        have lf:st={ heap:=iT h0 R,next:=dx n0 R }:=by cases st;simp_all
        rw[lf] at hr
        exact fin _ bk _ rfl rfl (pK.aL j o v bk xs R agI hw hx hr) rfl rfl rfl h
    .   split at h
        . rename_i v hr
          have RO:ZF h0 R o xs v:=by
           intro A B _ _ _
           refine ⟨.e,fun b x hb=> ?_,?_⟩
           .  rw[T.cX] at hb;cases hb
           .  have e:(fun b=>T.get b (T.e:T AB))=fun _=>none:=by funext b;exact T.cX b
              rw[e];exact hr
          exact fin _ _ _ rfl rfl (h3 ▸pK.pure j o v xs R hw hx RO) rfl h2 rfl h
        . split at h<;>first|(cases h;done)|skip
          rename_i v hr
          split at h<;>first|(cases h;done)|skip
          rename_i GR
          have RO:ZF h0 R o xs v:=by
           intro A B hAB hB hn
           subst hAB
           rcases KS A with hA|hA
           .  refine ⟨_,fun b x hb=> ?_,hr⟩
              have:=S8 hA hB hb
              rw[KR hA] at this
              exact this
           .  obtain ⟨h,k1,k2⟩:=Ms A B [] GR hG hB hn hA
              exact ⟨h,fun b x hb=>(k1 b x hb).imp id fun h=>h.resolve_right (by simp),k2⟩
          exact fin _ _ _ rfl rfl (h3 ▸pK.pure j o v xs R hw hx RO) rfl h2 rfl h
  . cases h
end
end
section
open Go
structure Late (m:Nat) (pre:List Nat) (L:List (Nat×bD)):Prop where
 all: ∀i,i<m->i∈pre\/i∈L.map (·.1)
 lt: ∀x∈L,x.1<m
 one: ∀A i o B,L=A++(i,o)::B->i∉pre/\i∉A.map (·.1)
 bE: ∀A i o B,L=A++(i,o)::B-> ∀b,o.bE.testBit b=true->b∈pre\/b∈A.map (·.1)
 aL: ∀A i o B,L=A++(i,o)::B->o.cls= .aL-> ∀b,(b∈pre\/b∈A.map (·.1))->o.bE.testBit b=true
 apart: ∀A i o B,L=A++(i,o)::B-> ∀x∈B,x.2.bE.testBit i=true\/NV o x.2=true
theorem RP {m:Nat}: ∀(L:List (Nat×bD)) (seen:Nat) (pre:List Nat),Je m seen L=true->(∀b,seen.testBit b=true↔b∈pre)->Late m pre L
 |[],seen,pre,h,hs=>by
  simp only[Je] at h
  have:=Nat.eq_of_beq_eq_true h
  refine ⟨fun i hi=> .inl ((hs i).1 ?_),fun x hx=>(by cases hx),fun A i o B h=> ?_,fun A i o B h=> ?_,fun A i o B h=> ?_,fun A i o B h=> ?_⟩
  . rw[this,Nat.testBit_two_pow_sub_one];simpa using hi
  all_goals (cases A<;>cases h)
 |(i,   o)::L,seen,pre,h,hs=>by
  simp only[Je,Bool.and_eq_true] at h
  obtain ⟨⟨⟨⟨⟨h1,h2⟩,h3⟩,h4⟩,h5⟩,h6⟩:=h
  have h1:i<m:=Nat.le_of_ble_eq_true h1
  have h2:i∉pre:=fun hp=>by rw[(hs i).2 hp] at h2;cases h2
  have h3:=Nat.eq_of_beq_eq_true h3
  have hb: ∀b,o.bE.testBit b=true->b∈pre:=fun b hb=>by
    rw[<-h3,Nat.testBit_and,Bool.and_eq_true] at hb
    exact (hs b).1 hb.2
  have he:o.cls= .aL-> ∀b,b∈pre->o.bE.testBit b=true:=fun hc b hp=>by
    rw[hc] at h4
    rw[Nat.eq_of_beq_eq_true h4];exact (hs b).2 hp
  have ih:=RP L (seen ||| 2 ^ i) (pre++[i]) h6 (fun b=>by
    rw[Nat.testBit_or,Nat.testBit_two_pow,Bool.or_eq_true,hs b,List.mem_append]
    simp[eq_comm])
  rw[List.all_eq_true] at h5
  have YV: ∀{A:List (Nat×bD)} {j:Nat} {p:bD} {B:List (Nat×bD)},(i,o)::L=A++(j,p)::B->(A=[]/\i=j/\o=p/\L=B)\/ ∃A',A=(i,o)::A'/\L=A'++(j,p)::B:=by
    intro A j p B hA
    cases A with
    |nil=>simp at hA;exact .inl ⟨rfl,hA.1.1,hA.1.2,hA.2⟩
    |cons x A=>simp at hA;exact .inr ⟨A,by rw[hA.1],hA.2⟩
  refine ⟨fun j hj=> ?_,fun x hx=> ?_,fun A j p B hA=> ?_,fun A j p B hA=> ?_,fun A j p B hA=> ?_,fun A j p B hA=> ?_⟩
  . rcases ih.all j hj with h|h
    .   rcases List.mem_append.1 h with h|h
        . exact .inl h
        . simp at h;exact .inr (by simp[h])
    .   exact .inr (by simp only[List.map_cons,List.mem_cons];exact .inr h)
  . rcases List.mem_cons.1 hx with rfl|hx
    .   exact h1
    .   exact ih.lt x hx
  . rcases YV hA with ⟨rfl,rfl,rfl,rfl⟩|⟨A',rfl,Mt⟩
    .   exact ⟨h2,by simp⟩
    .   obtain ⟨k1,k2⟩:=ih.one A' j p B Mt
        simp only[List.mem_append,List.mem_singleton,not_or] at k1
        exact ⟨k1.1,by simp only[List.map_cons,List.mem_cons,not_or];exact ⟨k1.2,k2⟩⟩
  . rcases YV hA with ⟨rfl,rfl,rfl,rfl⟩|⟨A',rfl,Mt⟩
    .   exact fun b jR=> .inl (hb b jR)
    .   intro b jR
        rcases ih.bE A' j p B Mt b jR with h|h
        . rcases List.mem_append.1 h with h|h
          . exact .inl h
          . simp at h;exact .inr (by simp[h])
        . exact .inr (by simp only[List.map_cons,List.mem_cons];exact .inr h)
  . rcases YV hA with ⟨rfl,rfl,rfl,rfl⟩|⟨A',rfl,Mt⟩
    .   intro hc b jR
        rcases jR with h|h
        . exact he hc b h
        . simp at h
    .   intro hc b jR
        refine ih.aL A' j p B Mt hc b ?_
        rcases jR with h|h
        . exact .inl (List.mem_append.2 (.inl h))
        . simp only[List.map_cons,List.mem_cons] at h
          rcases h with rfl|h
          . exact .inl (by simp)
          . exact .inr h
  . rcases YV hA with ⟨rfl,rfl,rfl,rfl⟩|⟨A',rfl,Mt⟩
    .   intro x hx
        have:=h5 x hx
        rwa [Bool.or_eq_true] at this
    .   exact ih.apart A' j p B Mt
inductive Reach (ops:Array Oper):Nat->Nat->Prop where
 |edge (i:Nat) (o:Oper) (e:Edge) (ho:ops[i]? =some o) (he:e∈o.after) (hb:Region.binds .any e=true):Reach ops i e.on
 |trans (i:Nat) (o:Oper) (e:Edge) (b:Nat) (ho:ops[i]? =some o) (he:e∈o.after) (hb:Region.binds .any e=true) (h:Reach ops e.on b):Reach ops i b
def adz (ops:Array Oper) (i m:Nat):Prop:=
 (∀o,ops[i]? =some o-> ∀e∈o.after,Region.binds .any e=true->m.testBit e.on=true)/\ ∀b,m.testBit b=true->Reach ops i b
theorem VH (acc:List Nat): ∀(l:List Edge) (s b:Nat),(l.foldl (fun s e=>match Region.binds .any e with
   |true=>s ||| 2 ^ e.on ||| (nth acc e.on).getD 0
   |false=>s) s).testBit b=true↔s.testBit b=true\/ ∃e∈l,Region.binds .any e=true/\(e.on=b\/((nth acc e.on).getD 0).testBit b=true)
 |[],s,b=>by simp
 |e::l,s,b=>by
  rw[List.foldl_cons,VH acc l]
  cases he:Region.binds .any e with
  |false=>simp[he]
  |true=>
   simp only[Nat.testBit_or,Bool.or_eq_true,Nat.testBit_two_pow,decide_eq_true_eq,List.mem_cons,exists_eq_or_imp,he,true_and]
   constructor
   .    rintro (((h|h)|h)|h)
        . exact .inl h
        . exact .inr (.inl (.inl h))
        . exact .inr (.inl (.inr h))
        . exact .inr (.inr h)
   .    rintro (h|(h|h)|h)
        . exact .inl (.inl (.inl h))
        . exact .inl (.inl (.inr h))
        . exact .inl (.inr h)
        . exact .inr h
theorem acy {ops:Array Oper}: ∀(os:List Oper) (acc:List Nat),os=ops.toList.drop acc.length->acc.length<=ops.size->(∀i,i<acc.length->adz ops i (acc.getD i 0))->
  ∀i,i<ops.size->adz ops i ((Zb os acc).getD i 0)
 |[],acc,hos,hl,adA,i,hi=>by
  have h1:(ops.toList.drop acc.length).length=0:=by rw[<-hos];rfl
  have:ops.size<=acc.length:=by simp at h1;omega
  exact adA i (by omega)
 |o ::os,acc,hos,hl,adA,i,hi=>by
  simp only[Zb]
  have ho:ops[acc.length]? =some o:=by
    have:(ops.toList.drop acc.length)[0]? =some o:=by rw[<-hos];rfl
    simpa using this
  have aP:acc.length<ops.size:=(Array.getElem?_eq_some_iff.1 ho).1
  refine acy os _ ?_ (by simp;omega) (fun j hj=> ?_) i hi
  . rw[List.length_append,List.length_singleton, <-List.drop_drop, <-hos];rfl
  . rcases Nat.lt_or_ge j acc.length with h|h
    .   rw[List.getD_eq_getElem?_getD,List.getElem?_append_left h, <-List.getD_eq_getElem?_getD];exact adA j h
    .   have CS:j=acc.length:=by simp at hj;omega
        subst CS
        rw[List.getD_eq_getElem?_getD,List.getElem?_append_right (Nat.le_refl _)]
        simp only[Nat.sub_self,List.getElem?_cons_zero,Option.getD_some]
        refine ⟨fun o' GO e he hb=> ?_,fun b hb=> ?_⟩
        . rw[ho] at GO;simp only[Option.some.injEq] at GO;subst GO
          exact (VH acc _ 0 e.on).2 (.inr ⟨e,by simpa using he,hb,.inl rfl⟩)
        . have hb:=(VH acc _ 0 b).1 hb
          rcases hb with hb|⟨e,he,jR,hb⟩
          . simp at hb
          . have mB:e∈o.after:=by simpa using he
            rcases hb with rfl|hb
            . exact .edge _ o e ho mB jR
            . refine .trans _ o e b ho mB jR ?_
              rw[kZ] at hb
              rcases Nat.lt_or_ge e.on acc.length with h|h
              . exact (adA _ h).2 b (by rw[List.getD_eq_getElem?_getD];exact hb)
              . rw[List.getElem?_eq_none h] at hb;simp at hb
theorem acz: ∀(l:List bD) (k:Nat) (x:Nat×bD),x∈EB k l-> ∃i,x.1=k+i/\l[i]? =some x.2
 |[],k,x,h=>by cases h
 |o ::l,k,x,h=>by
  simp only[EB,List.mem_cons] at h
  rcases h with rfl|h
  . exact ⟨0,rfl,rfl⟩
  . obtain ⟨i,h1,h2⟩:=acz l (k+1) x h
    exact ⟨i+1,by omega,by simpa using h2⟩
theorem Oc: ∀(l held:List (Nat×bD)) (x:Nat×bD),x∈xk l held->x∈l\/x∈held
 |[],held,x,h=> .inr h
 |(i,   o)::l,held,x,h=>by
  unfold xk at h
  split at h
  . rcases List.mem_append.1 h with h|h
    .   exact .inr (List.mem_filter.1 h).1
    .   rcases List.mem_cons.1 h with h|h
        . exact .inl (by rw[h];exact List.mem_cons_self ..)
        . rcases Oc l _ x h with h|h
          . exact .inl (List.mem_cons_of_mem _ h)
          . exact .inr (List.mem_filter.1 h).1
  . rcases Oc l _ x h with h|h
    .   exact .inl (List.mem_cons_of_mem _ h)
    .   rcases List.mem_append.1 h with h|h
        . exact .inr h
        . simp at h;exact .inl (by rw[h];exact List.mem_cons_self ..)
theorem aiz {l:List bD} {x:Nat×bD} (h:x∈xk (EB 0 l) []):l[x.1]? =some x.2:=by
 rcases Oc _ _ _ h with h|h
 . obtain ⟨i,h1,h2⟩:=acz l 0 x h
   rw[h1,Nat.zero_add];exact h2
 . cases h
end
section
open Go
theorem KT {p:Pos}: ∀{l:List Pos},Jd p l=true↔p∈l
 |[]=>by simp[Jd]
 |q::l=>by simp[Jd,KT (l:=l),Pos.beq_eq]
theorem Ig {a b:bD} (h:NV a b=true):
   (∀d,a.dst=some d->d∉b.looks/\b.dst≠some d)/\(∀d,b.dst=some d->d∉a.looks):=by
 unfold NV at h
 rw[Bool.and_eq_true] at h
 obtain ⟨h1,h2⟩:=h
 constructor
 . intro d hd
   rw[hd] at h1
   simp only[Bool.and_eq_true,Bool.not_eq_true'] at h1
   refine ⟨fun hm=> ?_,fun hb=> ?_⟩
   . rw[KT.2 hm] at h1;exact absurd h1.1 (by simp)
   . rw[hb] at h1
     have:Pos.beq d d=true:=Pos.beq_eq.2 rfl
     simp[this] at h1
 . intro d hd hm
   rw[hd] at h2
   simp only[Bool.not_eq_true'] at h2
   rw[KT.2 hm] at h2;cases h2
section
variable (P : Program) (tt : TT) (C : Cells) (nt : Nat) (ops : Array Oper) (call : ak) (bY : Fr) (h0 : T AB) (n0 : Pos) (R : List Rec)
structure zj:Prop where
 S9:Good call bY h0 n0 R
 mono:kR call
 one: ∀A r B,R=A++r::B-> ∀r'∈B,r'.idx≠r.idx
 bE: ∀A r B,R=A++r::B-> ∀b,r.o.bE.testBit b=true-> ∃r'∈B,r'.idx=b
 aL: ∀A r B,R=A++r::B->r.o.cls= .aL-> ∀r'∈B,r.o.bE.testBit r'.idx=true
 apart: ∀A r B,R=A++r::B-> ∀r'∈A,r'.o.bE.testBit r.idx=true\/NV r.o r'.o=true
 rel: ∀r∈R,∃o,ops[r.idx]? =some o/\vh tt nt ops o r.o/\adz ops r.idx r.o.bE
 all: ∀i,i<ops.size-> ∃r∈R,r.idx=i
def Kept (D:Nat->Prop) (b:Pos):Prop:= ∀A r B,R=A++r::B-> ¬D r.idx->b.toNat<(dx n0 B).toNat\/r.nx.toNat<=b.toNat
def T1 (D:Nat->Prop) (ρ:Pos->Loc) (tmps:Array Value):Prop:=
 ∀M s T p,R=M++s::T->D s.idx->s.o.dst=some p->(∀s'∈M,D s'.idx->s'.o.dst≠some p)-> ∃x,tmps[p.toNat - 1]? =some x/\av ρ s.nx.toNat C s.v x
def T0 (D:Nat->Prop) (ρ:Pos->Loc) (tmps:Array Value):Prop:=
 ∀p v,bY.get p=some v->(∀s∈R,D s.idx->s.o.dst≠some p)-> ∃x,tmps[p.toNat - 1]? =some x/\av ρ n0.toNat C v x
structure Xa (D:Nat->Prop) (A B:List Rec) (a:Act):Prop where
 split:R=A++B
 bound:GQ B
 inB: ∀r∈B,D r.idx
 ZG: ∀r∈A,D r.idx->r.c.lV=false
 closed: ∀i o e,D i->ops[i]? =some o->e∈o.after->Region.binds .any e=true->D e.on
 size:a.tmps.size=nt
 defers:a.defers=[]
structure Inv0 (qz:Pos->Loc) (w0:World) (D:Nat->Prop) (A B:List Rec) (ρ:Pos->Loc) (a:Act) (w:World):Prop where
 W:bA ρ C { heap:=iR h0 B,next:=dx n0 B } w
 N: ∀r∈A,D r.idx-> ∀id aE,r.c= .new id aE->lR ρ r.nx.toNat C (ρ id) w aE/\(ρ id).aE<w.heap.size/\w0.heap.size<=(ρ id).aE/\
  (∀b x,(iR h0 B).get b=some x->(ρ b).aE≠(ρ id).aE)/\(∀ad v,C ad=some v->(ρ id).aE≠ad.block)
 N2: ∀r∈A,D r.idx-> ∀id aE,r.c= .new id aE-> ∀r'∈A,D r'.idx-> ∀tj Cw,r'.c= .new tj Cw->id≠tj->(ρ id).aE≠(ρ tj).aE
 t1:T1 C R D ρ a.tmps
 t0:T0 C bY n0 R D ρ a.tmps
 E:ni qz { heap:=h0,next:=n0 } w0 ρ { heap:=iR h0 B,next:=dx n0 B } w
 agree: ∀b:Pos,b.toNat<n0.toNat->ρ b=qz b
def Inv (qz:Pos->Loc) (w0:World) (D:Nat->Prop) (A B:List Rec) (ρ:Pos->Loc) (a:Act) (w:World):Prop:=
 Xa nt ops R D A B a/\ ∀ρ',(∀b,Kept n0 R D b->ρ' b=ρ b)->Inv0 C bY h0 n0 R qz w0 D A B ρ' a w
end
section
variable {P : Program} {tt : TT} {C : Cells} {nt : Nat} {ops : Array Oper} {call : ak} {bY : Fr} {h0 : T AB} {n0 : Pos} {R : List Rec}
theorem ER (h: ∀A r B,R=A++r::B-> ∀r'∈B,r'.idx≠r.idx) {X X' Y Y':List Rec} {r r':Rec} (h1:R=X++r::Y) (h2:R=X'++r'::Y') (hi:r.idx=r'.idx):
   X=X'/\r=r'/\Y=Y':=by
 have h3:X++r::Y=X'++r'::Y':=h1.symm.trans h2
 rcases List.append_eq_append_iff.1 h3 with ⟨Z,hX,hZ⟩|⟨Z,hX,hZ⟩
 . cases Z with
   |nil=>simp at hZ hX;exact ⟨hX.symm,hZ.1,hZ.2⟩
   |cons z Z=>
    simp at hZ
    exact absurd hi.symm (h X r Y h1 r' (by rw[hZ.2];simp))
 . cases Z with
   |nil=>simp at hZ hX;exact ⟨hX,hZ.1.symm,hZ.2.symm⟩
   |cons z Z=>
    simp at hZ
    exact absurd hi (h X' r' Y' h2 r (by rw[hZ.2];simp))
theorem kO {r:Rec} (h:r∈R): ∃A B,R=A++r::B:=List.append_of_mem h
theorem acA (hm:kR call) {r:Rec} {B:List Rec} (h:pK call bY h0 n0 r B):(dx n0 B).toNat<=r.nx.toNat:=by
 cases h with
 |skip=>exact Nat.le_refl _
 |pure=>exact Nat.le_refl _
 |new=>simp only[Pos.ax];omega
 |aL i o v st' xs _ hc hw hx hr=>exact KQ hm hr
theorem VI (hm:kR call): ∀{A B:List Rec},Good call bY h0 n0 (A++B)->(dx n0 B).toNat<=(dx n0 (A++B)).toNat
 |[],_,_=>Nat.le_refl _
 |r::A,B,h=>Nat.le_trans (VI hm (A:=A) h.2) (acA hm h.1)
namespace zj
variable (G : zj tt nt ops call bY h0 n0 R)
include G
theorem later {X Y:List Rec} {r r':Rec} (h:R=X++r::Y) (hr:r'∈X):r'.idx≠r.idx:=by
 obtain ⟨A,B,rfl⟩:=kO hr
 have h':R=A++r'::(B++r::Y):=by rw[h];simp
 exact fun e=>G.one _ _ _ h' r (by simp) e.symm
theorem aic {X Y:List Rec} {r:Rec} (h:R=X++r::Y):(dx n0 Y).toNat<=r.nx.toNat:=acA G.mono (Good.at (h ▸G.S9))
theorem BR {X Y Z:List Rec} (h:R=X++(Y++Z)):(dx n0 Z).toNat<=(dx n0 (Y++Z)).toNat:=VI G.mono (Good.tail (h ▸G.S9))
theorem adB {X Y:List Rec} (h:R=X++Y):n0.toNat<=(dx n0 Y).toNat:=by
 have:=VI (n0:=n0) G.mono (A:=Y) (B:=[]) (by rw[List.append_nil];exact Good.tail (h ▸G.S9))
 rw[List.append_nil] at this;exact this
theorem Uc {D:Nat->Prop} (hc: ∀i o e,D i->ops[i]? =some o->e∈o.after->Region.binds .any e=true->D e.on) {i b:Nat} (h:Reach ops i b)
  (hi: ∀o e,ops[i]? =some o->e∈o.after->Region.binds .any e=true->D e.on):D b:=by
 induction h with
 |edge i o e ho he hb=>exact hi o e ho he hb
 |trans i o e b ho he hb _ ih=>exact ih fun o' e' GO mB eS=>hc _ o' e' (hi o e ho he hb) GO mB eS
theorem aid {D:Nat->Prop} {A B:List Rec} {a:Act} (hp:Xa nt ops R D A B a) {s:Rec} (hs:s∈R) (hD:D s.idx) {b:Nat} (hb:s.o.bE.testBit b=true):D b:=by
 obtain ⟨o,ho,_,hB⟩:=G.rel s hs
 exact G.Uc hp.closed (hB.2 b hb) fun o' e GO he jR=>hp.closed _ o' e hD GO he jR
end zj
theorem Od: ∀(Y:List Rec) (p:Pos) (v:AV),(mG bY Y).get p=some v->
  (∃M s T,Y=M++s::T/\s.o.dst=some p/\s.v=v/\ ∀s'∈M,s'.o.dst≠some p)\/(bY.get p=some v/\ ∀s∈Y,s.o.dst≠some p)
 |[],p,v,h=> .inr ⟨h,fun s hs=>by cases hs⟩
 |r ::Y   ,p,v,h=>by
  simp only[mG] at h
  by_cases hr:r.o.dst=some p
  . rw[hr] at h
    simp only[dc,T.fq,Option.some.injEq] at h
    exact .inl ⟨[],r,Y,rfl,hr,h,fun s hs=>by cases hs⟩
  . have h':(mG bY Y).get p=some v:=by
        cases hd:r.o.dst with
        |none=>rw[hd] at h;exact h
        | some d=>
          rw[hd] at h
          simp only[dc] at h
          rwa [T.bK _ fun e=>hr (by rw[hd,e])] at h
    rcases Od Y p v h' with ⟨M,s,T,rfl,h2,h3,h4⟩|⟨h2,h3⟩
    .   refine .inl ⟨r::M,s,T,rfl,h2,h3,fun s' mF=> ?_⟩
        rcases List.mem_cons.1 mF with rfl|mF
        . exact hr
        . exact h4 s' mF
    .   refine .inr ⟨h2,fun s hs=> ?_⟩
        rcases List.mem_cons.1 hs with rfl|hs
        . exact hr
        . exact h3 s hs
theorem look (G:zj tt nt ops call bY h0 n0 R) {D:Nat->Prop} {A B:List Rec} {a:Act} (hp:Xa nt ops R D A B a) {ρ:Pos->Loc} (h1:T1 C R D ρ a.tmps) (h2:T0 C bY n0 R D ρ a.tmps)
   {X Y:List Rec} {r:Rec} (hR:R=X++r::Y) (hD: ¬D r.idx) (VJ: ∀b,r.o.bE.testBit b=true->D b) {p:Pos} {v:AV} (hl:p∈r.o.looks) (hv:(mG bY Y).get p=some v):
   ∃x,a.tmps[p.toNat - 1]? =some x/\av ρ (dx n0 Y).toNat C v x:=by
 have hX: ∀s∈X,D s.idx->s.o.dst≠some p:=by
   intro s hs fF hd
   rcases G.apart X r Y hR s hs with h|h
   . exact hD (G.aid hp (by rw[hR];simp[hs]) fF h)
   . exact (Ig h).2 p hd hl
 rcases Od Y p v hv with ⟨M,s,T,rfl,h3,rfl,h4⟩|⟨h3,h4⟩
 . have hR':R=(X++r::M)++s::T:=by rw[hR];simp
   have fF:D s.idx:=by
     rcases G.apart _ s T hR' r (by simp) with h|h
     .  exact VJ _ h
     .  exact absurd hl ((Ig h).1 p h3).1
   obtain ⟨x,hx,Ud⟩:=h1 (X++r::M) s T p hR' fF h3 (fun s' mF ES=>by
     rcases List.mem_append.1 mF with h|h
     .  exact hX s' h ES
     .  rcases List.mem_cons.1 h with rfl|h
        . exact absurd ES hD
        . exact h4 s' h)
   refine ⟨x,hx,Ud.mono (fun _ _=>rfl) ?_⟩
   have:=G.BR (X:=X++[r]) (Y:=M) (Z:=s::T) (by rw[hR];simp)
   exact this
 . obtain ⟨x,hx,Ud⟩:=h2 p v h3 (fun s hs fF=>by
     rw[hR] at hs
     rcases List.mem_append.1 hs with h|h
     .  exact hX s h fF
     .  rcases List.mem_cons.1 h with rfl|h
        . exact absurd fF hD
        . exact h4 s h)
   exact ⟨x,hx,Ud.mono (fun _ _=>rfl) (G.adB (X:=X++[r]) (by rw[hR];simp))⟩
theorem Xb {a:Act} {d:Option Tmp} {x:Value} {p:Pos} (h:d.map key≠some p):(a.put d x).tmps[p.toNat - 1]? =a.tmps[p.toNat - 1]? :=by
 cases d with
 |none=>rfl
 |some e=>
  simp only[Act.put]
  rw[Array.getElem?_setIfInBounds_ne]
  intro he
  apply h
  simp only[Option.map_some,Option.some.injEq]
  apply Pos.toNat_inj
  rw[iO]
  have:=p.toNat_pos
  omega
theorem agJ {a:Act} {d:Option Tmp} {x:Value} {p:Pos} (h:d.map key=some p) (hs:a.tmps.size=nt) (hd: ∀e,d=some e->e<nt):(a.put d x).tmps[p.toNat - 1]? =some x:=by
 cases d with
 |none=>cases h
 |some e=>
  simp only[Option.map_some,Option.some.injEq] at h;subst h
  simp only[Act.put]
  rw[iO,Nat.add_sub_cancel,Array.getElem?_setIfInBounds]
  simp[hs,hd e rfl]
theorem adC (G:zj tt nt ops call bY h0 n0 R) {D:Nat->Prop} {A B:List Rec} {a:Act} (hp:Xa nt ops R D A B a) {ρ:Pos->Loc} (h1:T1 C R D ρ a.tmps) (h2:T0 C bY n0 R D ρ a.tmps)
   {X Y:List Rec} {r:Rec} (hR:R=X++r::Y) (hD: ¬D r.idx) {o:Oper} (hrel:vh tt nt ops o r.o) {x:Value} (hv:av ρ r.nx.toNat C r.v x):
   T1 C R (fun i=>D i\/i=r.idx) ρ (a.put o.dst x).tmps/\T0 C bY n0 R (fun i=>D i\/i=r.idx) ρ (a.put o.dst x).tmps:=by
 constructor
 . intro  M s T p hM fF hd mb
   by_cases hi:s.idx=r.idx
   . obtain ⟨_,rfl,_⟩:=ER G.one hM hR hi
     rw[hrel.dst] at hd
     exact ⟨x,agJ hd hp.size hrel.lt,hv⟩
   . have fF:=fF.resolve_right hi
     by_cases Oe:r.o.dst=some p
     .  exfalso
        have hs:s∈R:=by rw[hM];simp
        rw[hR] at hs
        rcases List.mem_append.1 hs with h|h
        . rcases G.apart X r Y hR s h with k|k
          . exact hD (G.aid hp (by rw[hR];simp[h]) fF k)
          . exact ((Ig k).1 p Oe).2 hd
        . rcases List.mem_cons.1 h with rfl|h
          . exact hi rfl
          . obtain ⟨Y1,Y2,rfl⟩:=kO h
            have hR':R=(X++r::Y1)++s::Y2:=by rw[hR];simp
            obtain ⟨hM',_,_⟩:=ER G.one hM hR' rfl
            exact mb r (by rw[hM'];simp) (.inr rfl) Oe
     .  rw[hrel.dst] at Oe
        obtain ⟨y,hy,EH⟩:=h1 M s T p hM fF hd fun s' mF ES=>mb s' mF (.inl ES)
        exact ⟨y,by rw[Xb Oe];exact hy,EH⟩
 . intro p v hf mb
   have hr:r.o.dst≠some p:=mb r (by rw[hR];simp) (.inr rfl)
   rw[hrel.dst] at hr
   obtain ⟨y,hy,EH⟩:=h2 p v hf fun s hs fF=>mb s hs (.inl fF)
   exact ⟨y,by rw[Xb hr];exact hy,EH⟩
end
end
section
open Go
section
variable {P : Program} {tt : TT} {C : Cells} {nt : Nat} {ops : Array Oper} {call : ak} {bY : Fr} {h0 : T AB} {n0 : Pos} {R : List Rec}
theorem bA.congr {ρ ρ':Pos->Loc} {st:St} {w:World} (h:bA ρ C st w) (aS: ∀b:Pos,b.toNat<st.next.toNat->ρ' b=ρ b):bA ρ' C st w where
 live b x hb:=by
  obtain ⟨h1,h2,h3⟩:=h.live b x hb
  rw[aS b h1];exact ⟨h1,h2,h3.mono aS (Nat.le_refl _)⟩
 inj b b' x x' hb eS he:=by
  rw[aS b (h.live b x hb).1,aS b' (h.live b' x' eS).1] at he
  exact h.inj b b' x x' hb eS he
 cZ a v ha:=⟨(h.cZ a v ha).1,fun b x hb=>by rw[aS b (h.live b x hb).1];exact (h.cZ a v ha).2 b x hb⟩
 whole:=h.whole
theorem ni.congr {ρ ig ρ':Pos->Loc} {st st':St} {w w':World} (h:ni ρ st w ig st' w') (aS: ∀b x,st'.heap.get b=some x->ρ' b=ig b):ni ρ st w ρ' st' w' where
 os:=h.os
 tape:=h.tape
 output:=h.output
 size:=h.size
 block:=h.block
 vP b x hb:=by rw[aS b x hb];exact h.vP b x hb
namespace zj
variable (G : zj tt nt ops call bY h0 n0 R)
include G
theorem same {r r':Rec} (h:r∈R) (h':r'∈R) (hi:r.idx=r'.idx):r=r':=by
 obtain ⟨A,B,hA⟩:=kO h
 obtain ⟨A',B',Mt⟩:=kO h'
 exact (ER G.one hA Mt hi).2.1
theorem cmp {X Y X' Y':List Rec} {r r':Rec} (h1:R=X++r::Y) (h2:R=X'++r'::Y') (hi:r'.idx≠r.idx):
   (∃Z,Y'=Z++r::Y)\/(∃Z,Y=Z++r'::Y'):=by
 have h3:X++r::Y=X'++r'::Y':=h1.symm.trans h2
 rcases List.append_eq_append_iff.1 h3 with ⟨Z,hX,hZ⟩|⟨Z,hX,hZ⟩
 . cases Z with
   |nil=>simp at hZ;exact absurd (by rw[hZ.1]) hi
   |cons z Z=>simp at hZ;exact .inr ⟨Z,hZ.2⟩
 . cases Z with
   |nil=>simp at hZ;exact absurd (by rw[hZ.1]) hi
   |cons z Z=>simp at hZ;exact .inl ⟨Z,hZ.2⟩
theorem KU {X Y X' Z:List Rec} {r r':Rec} (h1:R=X++r::Y) (h2:R=X'++r'::(Z++r::Y)):r.nx.toNat<=(dx n0 (Z++r::Y)).toNat:=by
 have:=G.BR (X:=X'++[r']) (Y:=Z) (Z:=r::Y) (by rw[h2];simp)
 exact this
theorem DY {X Y' Z:List Rec} {r r':Rec} (h1:R=X++r::(Z++r'::Y')):r'.nx.toNat<=(dx n0 (Z++r'::Y')).toNat:=by
 have:=G.BR (X:=X++[r]) (Y:=Z) (Z:=r'::Y') (by rw[h1];simp)
 exact this
theorem Of {X Y:List Rec} {r:Rec} (h:R=X++r::Y) {id:Pos} {aE:AB} (hc:r.c= .new id aE):id=dx n0 Y/\r.nx=id.succ:=by
 have hs:=Good.at (h ▸G.S9)
 cases hs<;>simp only at hc<;>first|(cases hc;done)|skip
 simp only[RC.new.injEq] at hc
 obtain ⟨rfl,_⟩:=hc
 exact ⟨rfl,rfl⟩
end zj
theorem Kept.up {D D':Nat->Prop} (h: ∀i,D i->D' i) {b:Pos} (hk:Kept n0 R D b):Kept n0 R D' b:=fun A r B hR hD=>hk A r B hR fun hd=>hD (h _ hd)
theorem Xa.next (G:zj tt nt ops call bY h0 n0 R) {D:Nat->Prop} {A B:List Rec} {a:Act} (hp:Xa nt ops R D A B a) {X Y:List Rec} {r:Rec} (hR:R=X++r::Y)
  (pL: ∀o e,ops[r.idx]? =some o->e∈o.after->Region.binds .any e=true->D e.on) (hc:r.c.lV=false) (d:Option Tmp) (x:Value):
  Xa nt ops R (fun i=>D i\/i=r.idx) A B (a.put d x) where
 split:=hp.split
 bound:=hp.bound
 inB s hs:= .inl (hp.inB s hs)
 ZG s hs hD:=by
  rcases hD with hD|hD
  . exact hp.ZG s hs hD
  . rw[G.same (by rw[hp.split];simp[hs]) (by rw[hR];simp) hD];exact hc
 closed i o e hD ho he hb:=by
  rcases hD with hD|rfl
  . exact .inl (hp.closed i o e hD ho he hb)
  . exact .inl (pL o e ho he hb)
 size:=by rw[Act.KM];exact hp.size
 defers:=by rw[Act.BG];exact hp.defers
theorem Xc (G:zj tt nt ops call bY h0 n0 R) {qz:Pos->Loc} {w0:World} {D:Nat->Prop} {A B:List Rec} {ρ:Pos->Loc} {a:Act} {w:World}
  (hI:Inv C nt ops bY h0 n0 R qz w0 D A B ρ a w) {X Y:List Rec} {r:Rec} (hR:R=X++r::Y) (hD: ¬D r.idx)
  (pL: ∀o e,ops[r.idx]? =some o->e∈o.after->Region.binds .any e=true->D e.on) {o:Oper} (hrel:vh tt nt ops o r.o) (hc:r.c= .pure) {x:Value}
  (hv: ∀ρ',(∀b,Kept n0 R D b->ρ' b=ρ b)->av ρ' r.nx.toNat C r.v x):
  Inv C nt ops bY h0 n0 R qz w0 (fun i=>D i\/i=r.idx) A B ρ (a.put o.dst x) w:=by
 obtain ⟨hp,hI⟩:=hI
 refine ⟨hp.next G hR pL (by rw[hc];rfl) _ _,fun ρ' Bf=> ?_⟩
 have hf: ∀b,Kept n0 R D b->ρ' b=ρ b:=fun b hb=>Bf b (hb.up fun _ h=> .inl h)
 have h:=hI ρ' hf
 have hnr: ∀s∈A,(D s.idx\/s.idx=r.idx)-> ∀id aE,s.c= .new id aE->D s.idx:=fun s hs fF id aE fh=>by
  rcases fF with fF|fF
  . exact fF
  . rw[G.same (by rw[hp.split];simp[hs]) (by rw[hR];simp) fF,hc] at fh;cases fh
 obtain ⟨k1,k2⟩:=adC G hp h.t1 h.t0 hR hD hrel (hv ρ' hf)
 exact ⟨h.W,fun s hs fF id aE fh=>h.N s hs (hnr s hs fF id aE fh) id aE fh,
  fun s hs fF id aE fh s' mF ES tj Cw qK=>h.N2 s hs (hnr s hs fF id aE fh) id aE fh s' mF (hnr s' mF ES tj Cw qK) tj Cw qK,k1,k2,h.E,h.agree⟩
theorem bA.grow {ρ:Pos->Loc} {st:St} {w w':World} (h:bA ρ C st w) (hs:w.heap.size<=w'.heap.size) (hb: ∀k,k<w.heap.size->w'.heap[k]? =w.heap[k]?):bA ρ C st w' where
 live b x hx:=let ⟨h1,h2,h3⟩:=h.live b x hx;⟨h1,Nat.lt_of_lt_of_le h2 hs,h3.of_heap (hb _ h2)⟩
 inj:=h.inj
 cZ a v ha:=by
  obtain ⟨h1,h2⟩:=h.cZ a v ha
  exact ⟨by rw[World.cell?_of_block (w:=w) (hb _ (World.block_lt_of_cell? _ _ h1))];exact h1,h2⟩
 whole a v ha o ho:=by
  have jF:a.block<w.heap.size:=World.block_lt_of_cell? _ _ (h.cZ a v ha).1
  rw[World.cell?_of_block (w:=w) (a:=⟨a.block,o,none⟩) (hb _ jF)];exact h.whole a v ha o ho
theorem agK (G:zj tt nt ops call bY h0 n0 R) {qz:Pos->Loc} {w0:World} {D:Nat->Prop} {A B:List Rec} {ρ:Pos->Loc} {a:Act} {w w':World}
   (hI:Inv C nt ops bY h0 n0 R qz w0 D A B ρ a w) {X Y:List Rec} {r:Rec} (hR:R=X++r::Y) (hD: ¬D r.idx)
   (pL: ∀o e,ops[r.idx]? =some o->e∈o.after->Region.binds .any e=true->D e.on) {o:Oper} (hrel:vh tt nt ops o r.o) {id:Pos} {aE:AB} (hc:r.c= .new id aE) {x:Value} {L:Loc}
   (hL:w.heap.size<=L.aE) (hL':L.aE<w'.heap.size) (hos:w'.os=w.os) (akJ:w'.tape=w.tape) (hout:w'.output=w.output) (agL: ∀k,k<w.heap.size->w'.heap[k]? =w.heap[k]?)
   (hv: ∀ρ',(∀b,Kept n0 R D b->ρ' b=ρ b)->ρ' id=L->av ρ' r.nx.toNat C r.v x/\lR ρ' r.nx.toNat C L w' aE):
   Inv C nt ops bY h0 n0 R qz w0 (fun i=>D i\/i=r.idx) A B (fun b=>if b=id then L else ρ b) (a.put o.dst x) w':=by
 obtain ⟨hp,hI⟩:=hI
 have hrA:r∈A:=by
   have:r∈R:=by rw[hR];simp
   rw[hp.split] at this
   exact (List.mem_append.1 this).resolve_right fun h=>hD (hp.inB r h)
 obtain ⟨hid,RQ⟩:=G.Of hR hc
 have eI:w.heap.size<=w'.heap.size:=by omega
 refine ⟨hp.next G hR pL (by rw[hc];rfl) _ _,fun ρ' Bf=> ?_⟩
 have hkid:Kept n0 R (fun i=>D i\/i=r.idx) id:=by
   intro A' r' B' Mt hD'
   have bX:r'.idx≠r.idx:=fun e=>hD' (.inr e)
   rcases G.cmp hR Mt bX with ⟨Z,rfl⟩|⟨Z,rfl⟩
   . left
     have:=G.KU hR Mt
     rw[RQ,Pos.ax] at this
     omega
   . right
     have:=G.DY hR
     rw[hid];exact this
 have adD:ρ' id=L:=by rw[Bf id hkid];simp
 have hf: ∀b,Kept n0 R D b->ρ' b=ρ b:=fun b hb=>by
   have bX:b≠id:=by
     rintro rfl
     rcases hb X r Y hR hD with h|h
     .  rw[hid] at h;omega
     .  rw[RQ,Pos.ax] at h;omega
   rw[Bf b (hb.up fun _ h=> .inl h)];exact if_neg bX
 have h:=hI ρ' hf
 obtain ⟨hv1,Jg⟩:=hv ρ' hf adD
 obtain ⟨k1,k2⟩:=adC G hp h.t1 h.t0 hR hD hrel hv1
 have YW: ∀s∈A,(D s.idx\/s.idx=r.idx)->D s.idx\/s=r:=fun s hs fF=>fF.imp (fun h=>h) fun fF=>G.same (by rw[hp.split];simp[hs]) (by rw[hR];simp) fF
 refine ⟨h.W.grow eI agL,fun s hs fF tj Cw fh=> ?_,fun s hs fF tj Cw fh s' mF ES id'' aie qK bX=> ?_,k1,k2,?_,h.agree⟩
 . rcases YW s hs fF with fF|rfl
   . obtain ⟨g1,g2,g3,g4,g5⟩:=h.N s hs fF tj Cw fh
     exact ⟨g1.of_heap (agL _ g2),by omega,g3,g4,g5⟩
   . rw[hc] at fh
     simp only[RC.new.injEq] at fh
     obtain ⟨rfl,rfl⟩:=fh
     rw[adD]
     refine ⟨Jg,hL',Nat.le_trans h.E.size hL,fun b x hb e=> ?_,fun ad v ha e=> ?_⟩
     .  have:=(h.W.live b x hb).2.1;omega
     .  have:=World.block_lt_of_cell? _ _ (h.W.cZ ad v ha).1;omega
 . rcases YW s hs fF with hDk|rfl
   . rcases YW s' mF ES with agM|rfl
     .  exact h.N2 s hs hDk tj Cw fh s' mF agM id'' aie qK bX
     .  rw[hc] at qK
        simp only[RC.new.injEq] at qK
        obtain ⟨rfl,rfl⟩:=qK
        have:=(h.N s hs hDk tj Cw fh).2.1
        rw[adD];omega
   . rw[hc] at fh
     simp only[RC.new.injEq] at fh
     obtain ⟨rfl,rfl⟩:=fh
     rcases YW s' mF ES with agM|rfl
     .  have:=(h.N s' mF agM id'' aie qK).2.1
        rw[adD];omega
     .  rw[hc] at qK
        simp only[RC.new.injEq] at qK
        exact absurd qK.1 bX
 . exact ⟨hos.trans h.E.os,akJ.trans h.E.tape,hout.trans h.E.output,Nat.le_trans h.E.size eI,fun k hk hn=>by rw[agL k (Nat.lt_of_lt_of_le hk h.E.size)];exact h.E.block k hk hn,h.E.vP⟩
theorem adE (G:zj tt nt ops call bY h0 n0 R) {qz:Pos->Loc} {w0:World} {D:Nat->Prop} {A B:List Rec} {ρ:Pos->Loc} {a:Act} {w:World}
  (h:Inv0 C bY h0 n0 R qz w0 D A B ρ a w) (ajS:R=A++B) {hp:T AB} {N:Pos} (hN:(dx n0 B).toNat<=N.toNat)
  (uk: ∀b x,hp.get b=some x->(iR h0 B).get b=some x\/ ∃s∈A,D s.idx/\s.c= .new b x/\s.nx.toNat<=N.toNat):bA ρ C { heap:=hp,next:=N } w where
 live b x hb:=by
  rcases uk b x hb with h1|⟨s,hs,hD,hc,hn⟩
  .  obtain ⟨g1,g2,g3⟩:=h.W.live b x h1
     exact ⟨Nat.lt_of_lt_of_le g1 hN,g2,g3.mono (fun _ _=>rfl) hN⟩
  .  obtain ⟨g1,g2,_⟩:=h.N s hs hD b x hc
     obtain ⟨M,T,hM⟩:=kO (r:=s) (R:=R) (by rw[ajS];simp[hs])
     obtain ⟨_,e⟩:=G.Of hM hc
     rw[e] at hn
     refine ⟨?_,g2,g1.mono (fun _ _=>rfl) (by rw[e];exact hn)⟩
     rw[Pos.ax] at hn
     exact hn
 inj b  b' x x' hb eS he:=by
  rcases uk b x hb with h1|⟨s,hs,hD,hc,hn⟩
  .  rcases uk b' x' eS with h1'|⟨s',mF,hD',wq,W9⟩
     .  exact h.W.inj b b' x x' h1 h1' he
     .  exact absurd he ((h.N s' mF hD' b' x' wq).2.2.2.1 b x h1)
  .  rcases uk b' x' eS with h1'|⟨s',mF,hD',wq,W9⟩
     .  exact absurd he.symm ((h.N s hs hD b x hc).2.2.2.1 b' x' h1')
     .  by_cases e:b=b'
        . exact e
        . exact absurd he (h.N2 s hs hD b x hc s' mF hD' b' x' wq e)
 cZ ad v ha:=⟨(h.W.cZ ad v ha).1,fun b x hb=>by
  rcases uk b x hb with h1|⟨s,hs,hD,hc,hn⟩
  .  exact (h.W.cZ ad v ha).2 b x h1
  .  exact (h.N s hs hD b x hc).2.2.2.2 ad v ha⟩
 whole:=h.W.whole
theorem zk: ∀{Z B:List Rec} {b:Pos} {x:AB},(∀r∈Z,r.c.lV=false)->GQ B->(iT h0 (Z++B)).get b=some x->
  (iR h0 B).get b=some x\/ ∃s∈Z,s.c= .new b x
 |[],B,b,x,_,hB,h=>by
  cases B with
  |nil=>exact .inl h
  | cons r B=>
    simp only[GQ] at hB
    cases hc:r.c<;>rw[hc] at hB<;>first|(cases hB;done)|skip
    simp only[List.nil_append,iT,hc] at h
    simp only[iR,hc]
    exact .inl h
 |r ::Z,B,b,x,hZ,hB,h=>by
  have ih:= @zk Z B b x (fun s hs=>hZ s (List.mem_cons_of_mem _ hs)) hB
  have hr:=hZ r (List.mem_cons_self ..)
  simp only[List.cons_append,iT] at h
  cases hc:r.c with
  |pure=>rw[hc] at h;exact (ih h).imp (fun h=>h) fun ⟨s,h1,h2⟩=>⟨s,List.mem_cons_of_mem _ h1,h2⟩
  |aL _ _=>rw[hc] at hr;cases hr
  | new id aE=>
    rw[hc] at h
    by_cases e:id=b
    .   subst e
        rw[T.fq] at h
        simp only[Option.some.injEq] at h;subst h
        exact .inr ⟨r,List.mem_cons_self ..,hc⟩
    .   rw[T.bK _ e] at h
        exact (ih h).imp (fun h=>h) fun ⟨s,h1,h2⟩=>⟨s,List.mem_cons_of_mem _ h1,h2⟩
end
end
section
open Go
section
variable {P : Program} {tt : TT} {C : Cells} {nt : Nat} {ops : Array Oper} {call : ak} {bY : Fr} {h0 : T AB} {n0 : Pos} {R : List Rec}
theorem around (G:zj tt nt ops call bY h0 n0 R) {D:Nat->Prop} {A B:List Rec} {a:Act} (hp:Xa nt ops R D A B a) {X Y:List Rec} {r:Rec} (hR:R=X++r::Y) (hD: ¬D r.idx):
  ∃Z,A=X++r::Z/\Y=Z++B:=by
 have hrA:r∈A:=by
  have:r∈R:=by rw[hR];simp
  rw[hp.split] at this
  exact (List.mem_append.1 this).resolve_right fun h=>hD (hp.inB r h)
 obtain ⟨X',Z,hA⟩:=kO hrA
 have h2:R=X'++r::(Z++B):=by rw[hp.split,hA];simp
 obtain ⟨rfl,_,rfl⟩:=ER G.one hR h2 rfl
 exact ⟨Z,hA,rfl⟩
theorem agN (G:zj tt nt ops call bY h0 n0 R) {qz:Pos->Loc} {w0:World} {D:Nat->Prop} {A B:List Rec} {ρ:Pos->Loc} {a:Act} {w w':World}
   (hI:Inv C nt ops bY h0 n0 R qz w0 D A B ρ a w) {X Y:List Rec} {r:Rec} (hR:R=X++r::Y) (hD: ¬D r.idx)
   (pL: ∀o e,ops[r.idx]? =some o->e∈o.after->Region.binds .any e=true->D e.on) {o:Oper} (hrel:vh tt nt ops o r.o)
   (hY: ∀s∈Y,D s.idx) {st':St} {b0:T AB} (hc:r.c= .aL b0 st'.heap) (RQ:r.nx=st'.next) {x:Value}
   (adF:jY ρ C { heap:=iT h0 Y,next:=dx n0 Y } w r.v st' x w'):
   ∃BP,Inv C nt ops bY h0 n0 R qz w0 (fun i=>D i\/i=r.idx) X (r::Y) BP (a.put o.dst x) w':=by
 obtain ⟨hp,hI⟩:=hI
 obtain ⟨ig,hv,hρ1,hle,hW1,hE1⟩:=adF
 simp only at hρ1 hle
 obtain ⟨Z,hA,rfl⟩:=around G hp hR hD
 have hZ: ∀s∈Z,s.c.lV=false:=fun s hs=>hp.ZG s (by rw[hA];simp[hs]) (hY s (by simp[hs]))
 have hXA: ∀s∈X,s∈A:=fun s hs=>by rw[hA];simp[hs]
 have hXD: ∀s∈X,(D s.idx\/s.idx=r.idx)->D s.idx:=fun s hs h=>h.resolve_right (G.later hR hs)
 have ZH:(dx n0 B).toNat<=(dx n0 (Z++B)).toNat:=G.BR (X:=X++[r]) (by rw[hR];simp)
 let BP:Pos->Loc:=fun b=>if (dx n0 (Z++B)).toNat<=b.toNat/\b.toNat<r.nx.toNat then ig b else ρ b
 have ZI: ∀b:Pos,b.toNat<(dx n0 (Z++B)).toNat->Kept n0 R D b:=by
   intro b hb M s T hM fF
   left
   by_cases hi:s.idx=r.idx
   . obtain ⟨_,_,rfl⟩:=ER G.one hM hR hi;exact hb
   . rcases G.cmp hR hM hi with ⟨W,rfl⟩|⟨W,hW⟩
     .  have:=G.KU hR hM
        have:=G.aic hR
        omega
     .  exact absurd (hY s (by rw[hW];simp)) fF
 refine ⟨BP,⟨by rw[hR],by simp[GQ,hc,RC.lV],?_,?_,?_,by rw[Act.KM];exact hp.size,by rw[Act.BG];exact hp.defers⟩,fun ρ' Bf=> ?_⟩
 . intro s hs
   rcases List.mem_cons.1 hs with rfl|hs
   . exact .inr rfl
   . exact .inl (hY s hs)
 . intro s hs fF
   exact hp.ZG s (hXA s hs) (hXD s hs fF)
 . intro i o' e hDi ho he hb
   rcases hDi with hDi|rfl
   . exact .inl (hp.closed i o' e hDi ho he hb)
   . exact .inl (pL o' e ho he hb)
 have akK: ∀b:Pos,b.toNat<r.nx.toNat->Kept n0 R (fun i=>D i\/i=r.idx) b:=by
   intro b hb M s T hM fF
   left
   have hi:s.idx≠r.idx:=fun e=>fF (.inr e)
   rcases G.cmp hR hM hi with ⟨W,rfl⟩|⟨W,hW⟩
   . exact Nat.lt_of_lt_of_le hb (G.KU hR hM)
   . exact absurd (.inl (hY s (by rw[hW];simp))) fF
 have hf: ∀b,Kept n0 R D b->ρ' b=ρ b:=fun b hb=>by
   rw[Bf b (hb.up fun _ h=> .inl h)]
   refine if_neg ?_
   rintro ⟨g1,g2⟩
   rcases hb X r _ hR hD with h|h<;>omega
 have h:=hI ρ' hf
 have Ue: ∀b:Pos,b.toNat<r.nx.toNat->ρ' b=ig b:=by
   intro b hb
   rcases Nat.lt_or_ge b.toNat (dx n0 (Z++B)).toNat with g|g
   . rw[hf b (ZI b g),hρ1 b g]
   . rw[Bf b (akK b hb)];exact if_pos ⟨g,hb⟩
 have Jk:av ρ' r.nx.toNat C r.v x:=by
   rw[RQ] at Ue ⊢
   exact hv.mono Ue (Nat.le_refl _)
 have dX:bA ρ' C { heap:=st'.heap,next:=r.nx } w':=by
   rw[RQ] at Ue ⊢
   exact hW1.congr Ue
 have hold: ∀s∈X,D s.idx-> ∀id aE,s.c= .new id aE-> ∀b y,(iT h0 (Z++B)).get b=some y->(ρ b).aE≠(ρ' id).aE:=by
   intro s hs fF id aE fh b y hb
   obtain ⟨g1,g2,g3,g4,g5⟩:=h.N s (hXA s hs) fF id aE fh
   obtain ⟨M,T,hM⟩:=kO (r:=s) (R:=R) (by rw[hR];simp[hs])
   rcases zk hZ hp.bound hb with hb|⟨s',mF,qK⟩
   . rw[<-hf b (ZI b (Nat.lt_of_lt_of_le (h.W.live b y hb).1 ZH))]
     exact g4 b y hb
   . obtain ⟨Z1,Z2,rfl⟩:=kO mF
     have hM':R=(X++r::Z1)++s'::(Z2++B):=by rw[hR];simp
     obtain ⟨e1,e2⟩:=G.Of hM' qK
     obtain ⟨e3,e4⟩:=G.Of hM fh
     have hbn:b.toNat<(dx n0 ((Z1++s'::Z2)++B)).toNat:=by
        have:=G.DY (X:=X) (r:=r) (Z:=Z1) (r':=s') (Y':=Z2++B) (by rw[hR];simp)
        rw[e2,Pos.ax] at this
        simp only[List.append_assoc,List.cons_append]
        omega
     have hsr:s.idx≠r.idx:=G.later hR hs
     have hid:r.nx.toNat<=id.toNat:=by
        rcases G.cmp hR hM hsr with ⟨W,rfl⟩|⟨W,hW⟩
        . rw[e3];exact G.KU hR hM
        . obtain ⟨A1,A2,hX⟩:=kO hs
          have hM2:R=A1++s::(A2++r::((Z1++s'::Z2)++B)):=by rw[hR,hX];simp
          have qx:s∈(Z1++s'::Z2)++B:=by rw[hW];simp
          exact absurd rfl (G.one A1 s _ hM2 s (List.mem_append.2 (.inr (List.mem_cons_of_mem _ qx))))
     have bX:b≠id:=by
        rintro rfl
        have:=G.aic hR
        omega
     rw[<-hf b (ZI b hbn)]
     exact h.N2 s' (by rw[hA];simp) (hY s' (by simp)) b y qK s (hXA s hs) fF id aE fh bX
 have hEa:ni qz { heap:=h0,next:=n0 } w0 ρ { heap:=iT h0 (Z++B),next:=dx n0 (Z++B) } w:=by
   refine ⟨h.E.os,h.E.tape,h.E.output,h.E.size,h.E.block,fun b y hb=> ?_⟩
   rcases zk hZ hp.bound hb with hb|⟨s',mF,qK⟩
   . rw[<-hf b (ZI b (Nat.lt_of_lt_of_le (h.W.live b y hb).1 ZH))]
     exact h.E.vP b y hb
   . obtain ⟨Z1,Z2,rfl⟩:=kO mF
     have hM':R=(X++r::Z1)++s'::(Z2++B):=by rw[hR];simp
     obtain ⟨e1,e2⟩:=G.Of hM' qK
     have hbn:b.toNat<(dx n0 ((Z1++s'::Z2)++B)).toNat:=by
        have:=G.DY (X:=X) (r:=r) (Z:=Z1) (r':=s') (Y':=Z2++B) (by rw[hR];simp)
        rw[e2,Pos.ax] at this
        simp only[List.append_assoc,List.cons_append]
        omega
     rw[<-hf b (ZI b hbn)]
     exact .inr (h.N s' (by rw[hA];simp) (hY s' (by simp)) b y qK).2.2.1
 obtain ⟨k1,k2⟩:=adC G hp h.t1 h.t0 hR hD hrel Jk
 refine ⟨?_,fun s hs fF id aE fh=> ?_,fun s hs fF id aE fh s' mF ES tj Cw qK bX=> ?_,k1,k2,?_,h.agree⟩
 . simp only[iR,hc,dx];exact dX
 . have fF:=hXD s hs fF
   obtain ⟨g1,g2,g3,g4,g5⟩:=h.N s (hXA s hs) fF id aE fh
   refine ⟨g1.of_heap (hE1.block _ g2 (hold s hs fF id aE fh)),Nat.lt_of_lt_of_le g2 hE1.size,g3,fun b y hb=> ?_,g5⟩
   simp only[iR,hc] at hb
   rw[Ue b (by rw[RQ];exact (hW1.live b y hb).1)]
   rcases hE1.vP b y hb with ⟨b',y',eS,e⟩|e
   . rw[<-e];exact hold s hs fF id aE fh b' y' eS
   . omega
 . exact h.N2 s (hXA s hs) (hXD s hs fF) id aE fh s' (hXA s' mF) (hXD s' mF ES) tj Cw qK bX
 . have:=(hEa.trans hE1).congr (ρ':=ρ') fun b y hb=>Ue b (by rw[RQ];exact (hW1.live b y hb).1)
   simp only[iR,hc,dx]
   exact ⟨this.os,this.tape,this.output,this.size,this.block,this.vP⟩
end
end
section
open Go
section
variable {P : Program} {tt : TT} {C : Cells} {nt : Nat} {ops : Array Oper} {call : ak} {bY : Fr} {h0 : T AB} {n0 : Pos} {R : List Rec}
theorem BS {ρ:Pos->Loc} {n:Pos} {w:World} (hC: ∀ad v,C ad=some v->w.cell? ad=some v) (ZJ: ∀a v,C a=some v-> ∀o,C ⟨a.block,o,none⟩=none->w.cell? ⟨a.block,o,none⟩=none):bA ρ C { heap:= .e,next:=n } w where
 live b x hb:=by rw[T.cX] at hb;cases hb
 inj b b' x x' hb:=by rw[T.cX] at hb;cases hb
 cZ a v ha:=⟨hC a v ha,fun b x hb=>by rw[T.cX] at hb;cases hb⟩
 whole:=ZJ
theorem Yields.eq {N:Next} {x y:Value} (h:Yields N x) (k:Yields N y):x=y:=by
 rcases h with rfl|⟨rfl,rfl⟩<;>rcases k with k|⟨k,rfl⟩
 . simp only[Next.value.injEq] at k;exact k
 . cases k
 . cases k
 . rfl
theorem lR.agO {ρ ρ':Pos->Loc} {n n':Nat} {L:Loc} {w:World} {s:List Nat} {p:Nat} (h:lR ρ n C L w (.jM s p)):lR ρ' n' C L w (.jM s p):=h
theorem aeX (hT:cr P tt) {o:Oper} {k:aC} {xs:List fB} {cls:Cls} (hc:fL tt o.op=some (k,xs,cls)) {n:Pos} {vs:List AV} {v:AV} {aE:AB}
  (hr:k.run (fun _=>none) n vs=some (.aL v none none (some aE))) {fr:Fr} (hx:ey fr xs=some vs) {a:Act} {w:World} {Fam:(Pos->Loc)->Prop} {ρ:Pos->Loc} (aS:Fam ρ)
  (hF: ∀ρ',Fam ρ'->mC ρ' n.toNat C fr a.tmps) (hC: ∀ad v,C ad=some v->w.cell? ad=some v) (ZJ: ∀a v,C a=some v-> ∀o,C ⟨a.block,o,none⟩=none->w.cell? ⟨a.block,o,none⟩=none):
  ∃ N x w' L,(execOp a.eval o).run P w= .ok N w'/\Yields N x/\w.heap.size<=L.aE/\L.aE<w'.heap.size/\w'.os=w.os/\w'.tape=w.tape/\w'.output=w.output/\
    (∀k,k<w.heap.size->w'.heap[k]? =w.heap[k]?)/\ ∀ρ',Fam ρ'->ρ' n=L->av ρ' n.succ.toNat C v x/\lR ρ' n.succ.toNat C L w' aE:=by
 have bU:k.run (fun b=>T.get b (T.e:T AB)) n vs=some (.aL v none none (some aE)):=by
  have e:(fun b=>T.get b (T.e:T AB))=fun _=>none:=by funext b;exact T.cX b
  rw[e];exact hr
 have H:=fun ρ' (hf:Fam ρ')=>Qu hT o.op ρ' C { heap:= .e,next:=n } w k xs cls fr a o vs _ rfl hc (BS hC ZJ) (hF ρ' hf) hx bU
 have key: ∀ρ',Fam ρ'-> ∃N x w' ig,(execOp a.eval o).run P w= .ok N w'/\Yields N x/\(∀b:Pos,b.toNat<n.toNat->ig b=ρ' b)/\av ig n.succ.toNat C v x/\
    lR ig n.succ.toNat C (ig n) w' aE/\w.heap.size<=(ig n).aE/\(ig n).aE<w'.heap.size/\w'.os=w.os/\w'.tape=w.tape/\w'.output=w.output/\
    (∀k,k<w.heap.size->w'.heap[k]? =w.heap[k]?):=by
  intro ρ' hf
  obtain ⟨N,x,w',ig,he,hy,h1,h2,h3,h4⟩:=H ρ' hf
  have hg:(St.aL { heap:= .e,next:=n } none none (some aE)).heap.get n=some aE:=T.fq _ _ _
  obtain ⟨g1,g2,g3⟩:=h2.live n aE hg
  refine ⟨N,x,w',ig,he,hy,h1,h3,g3,?_,g2,h4.os,h4.tape,h4.output,fun k hk=>h4.block k hk fun b x hb=> ?_⟩
  . rcases h4.vP n aE hg with ⟨b',x',eS,_⟩|h
    .   rw[T.cX] at eS;cases eS
    .   exact h
  . rw[T.cX] at hb;cases hb
 obtain ⟨N,x,w',ig,he,hy,h1,h2,h3,h4,h5,h6,h7,h8,h9⟩:=key ρ aS
 refine ⟨N,x,w',ig n,he,hy,h4,h5,h6,h7,h8,h9,fun ρ' hf hL=> ?_⟩
 obtain ⟨N',x',w'',BP,mB,hy',k1,k2,k3,_⟩:=key ρ' hf
 rw[he] at mB
 simp only[Result.ok.injEq] at mB
 obtain ⟨rfl,rfl⟩:=mB
 have ZK:=hy.eq hy';subst ZK
 have adG:n.toNat<n.succ.toNat:=by rw[Pos.ax];omega
 have agree:(BP n).aE=(ig n).aE->(BP n).base=(ig n).base->((∃cs fz,aE= .cells cs fz)\/ ∃t cs,aE= .typed t cs)->av ρ' n.succ.toNat C v x/\lR ρ' n.succ.toNat C (ig n) w' aE:=by
  intro e1 e2 A9
  have e3:(BP n).size=(ig n).size:=by
    rcases A9 with ⟨cs,fz,rfl⟩|⟨t,cs,rfl⟩
    .   obtain ⟨c,e,fr,g1,g2,_⟩:=h3
        obtain ⟨c',e',bn,BT,ZL,_⟩:=k3
        rw[e1,g1] at BT
        simp only[Option.some.injEq,Obj.cells.injEq] at BT
        rw[<-g2, <-ZL,BT.1]
    .   obtain ⟨c,fr,g1,g2,_⟩:=h3
        obtain ⟨c',bn,BT,ZL,_⟩:=k3
        rw[e1,g1] at BT
        simp only[Option.some.injEq,Obj.cells.injEq] at BT
        rw[<-g2, <-ZL,BT.1]
  have e4:BP n=ig n:=by
    cases hh:BP n;cases hh':ig n
    rw[hh,hh'] at e1 e2 e3
    simp only at e1 e2 e3
    rw[e1,e2,e3]
  have nC: ∀b:Pos,b.toNat<n.succ.toNat->ρ' b=BP b:=by
    intro b hb
    rcases Nat.lt_or_ge b.toNat n.toNat with g|g
    .   exact (k1 b g).symm
    .   have:b=n:=Pos.toNat_inj (by rw[Pos.ax] at hb;omega)
        subst this;rw[hL,e4]
  refine ⟨k2.mono nC (Nat.le_refl _),?_⟩
  rw[<-e4]
  exact k3.mono nC (Nat.le_refl _)
 cases aiy hr with
 |ptr cs=>
  obtain ⟨_,g1⟩:=h2.fu
  obtain ⟨_,g2⟩:=k2.fu
  rw[g1] at g2
  simp only[Value.pointer.injEq,Option.some.injEq,Addr.mk.injEq,Nat.add_zero,and_true] at g2
  exact agree g2.1.symm g2.2.symm (.inl ⟨cs,0,rfl⟩)
 |ptrT t cs=>
  obtain ⟨_,g1⟩:=h2.fu
  obtain ⟨_,g2⟩:=k2.fu
  rw[g1] at g2
  simp only[Value.pointer.injEq,Option.some.injEq,Addr.mk.injEq,Nat.add_zero,and_true] at g2
  exact agree g2.1.symm g2.2.symm (.inr ⟨t,cs,rfl⟩)
 |aeW len t cs hl=>
  obtain ⟨ad,aN,g1,g2,g3,g4⟩:=h2.dA
  obtain ⟨ad',adH,BT,ZL,g3',g4'⟩:=k2.dA
  rw[g1] at BT
  simp only[Value.slice.injEq,Option.some.injEq,true_and] at BT
  obtain ⟨rfl,rfl⟩:=BT
  obtain ⟨_,a1,_⟩:=g4 (by omega)
  obtain ⟨_,a2,_⟩:=g4' (by omega)
  rw[a1] at a2
  simp only[Addr.mk.injEq,Nat.add_zero,and_true] at a2
  exact agree a2.1.symm a2.2.symm (.inr ⟨t,cs,rfl⟩)
 |jM s=>
  obtain ⟨_,g1⟩:=h2.fu
  refine ⟨?_,h3.agO⟩
  rw[g1, <-hL]
  exact .ptr n 0 adG
 |slice len es cap cs fh=>
  obtain ⟨ad,aN,g1,g2,g3,g4⟩:=h2.dA
  obtain ⟨ad',adH,BT,ZL,g3',g4'⟩:=k2.dA
  rw[g1] at BT
  simp only[Value.slice.injEq,Option.some.injEq,true_and] at BT
  obtain ⟨rfl,rfl⟩:=BT
  by_cases h0:aN=0
  . subst h0
    have NO:len=0:=by omega
    have hcs0:cs=[]:=fh NO (by
        cases cap with
        |none=>exact .inl rfl
        |some c=>exact .inr (by rw[g3 c rfl]))
    subst hcs0
    refine ⟨?_,?_⟩
    .   rw[g1];exact .slice n 0 len cap es 0 ad g2 g3 (fun h=>absurd rfl h) (fun _=>adG)
    .   obtain ⟨c,e,fr,q1,q2,q3,q4,q5⟩:=h3
        exact ⟨c,e,fr,q1,q2,q3,aA.nil,q5⟩
  . obtain ⟨_,a1,_⟩:=g4 h0
    obtain ⟨_,a2,_⟩:=g4' h0
    rw[a1] at a2
    simp only[Addr.mk.injEq,Nat.add_zero,and_true] at a2
    exact agree a2.1.symm a2.2.symm (.inl ⟨cs,0,rfl⟩)
 |map=>
  obtain ⟨_,g1⟩:=h2.Bb
  refine ⟨?_,?_⟩
  . rw[g1, <-hL];exact .map n adG
  . obtain ⟨es',q1,q2,q3⟩:=h3
    exact ⟨es',q1,q2,fun i e e' he=>by simp at he⟩
end
end
section
open Go
section
variable {P : Program} {tt : TT} {C : Cells} {nt : Nat} {ops : Array Oper} {call : ak} {bY : Fr} {h0 : T AB} {n0 : Pos} {R : List Rec}
def wz (fr:Fr):List Pos->Fr
 |[]=> .e
 |p::l=>(wz fr l).put (fr.get p) p
theorem Xd {fr:Fr} {p:Pos}: ∀{l:List Pos},p∈l->(wz fr l).get p=fr.get p
 |[],h=>by cases h
 |q ::l,h=>by
  simp only[wz]
  by_cases e:q=p
  . subst e;exact T.fq _ _ _
  . rw[T.bK _ e]
    exact Xd ((List.mem_cons.1 h).resolve_left fun h=>e h.symm)
theorem RS {fr:Fr} {p:Pos} {v:AV}: ∀{l:List Pos},(wz fr l).get p=some v->p∈l/\fr.get p=some v
 |[],h=>by simp only[wz] at h;rw[T.cX] at h;cases h
 |q ::l,h=>by
  simp only[wz] at h
  by_cases e:q=p
  . subst e;rw[T.fq] at h;exact ⟨by simp,h⟩
  . rw[T.bK _ e] at h
    obtain ⟨h1,h2⟩:=RS h
    exact ⟨by simp[h1],h2⟩
theorem Xe {fr:Fr} {l:List Pos}: ∀{xs:List fB},(∀p,fB.t p∈xs->p∈l)->ey (wz fr l) xs=ey fr xs
 |[],_=>rfl
 |x::xs,h=>by
  have h1:BO (wz fr l) x=BO fr x:=by
   cases x with
   |t p=>exact Xd (h p (by simp))
   |c v=>rfl
  simp only[ey,h1,Xe fun p hp=>h p (List.mem_cons_of_mem _ hp)]
theorem aeY {o:bD} {p:Pos} (h:fB.t p∈o.xs):p∈o.looks:=by
 unfold bD.looks
 exact List.mem_append_right _ (List.mem_filterMap.2 ⟨_,h,rfl⟩)
theorem abM {o:bD} {p:Pos} {q:Bool} (h:o.guard=some (p,q)):p∈o.looks:=by
 unfold bD.looks
 rw[h];simp
theorem Yields.upon {o:Oper} {a:Act} {K:Act->World->Prop} {Q:Exit->Act->World->Prop} {N:Next} {x:Value} {w:World} (h:Yields N x) (hk:K (a.put o.dst x) w):o.upon P a K Q (.ok N w):=by
 rcases h with rfl|⟨rfl,rfl⟩<;>exact hk
theorem agP (hT:cr P tt) (gw:jS P C call) (G:zj tt nt ops call bY h0 n0 R) {Q:Exit->Act->World->Prop} {qz:Pos->Loc} {w0:World} {D:Nat->Prop} {A B:List Rec} {ρ:Pos->Loc} {a:Act} {w:World}
  (hI:Inv C nt ops bY h0 n0 R qz w0 D A B ρ a w) {i:Nat} (hi:i<ops.size) (hD: ¬D i)
  (pL: ∀o e,ops[i]? =some o->e∈o.after->Region.binds .any e=true->D e.on):
  wpOp P ops Q i (fun a' w'=> ∃A' B' ρ',Inv C nt ops bY h0 n0 R qz w0 (fun j=>D j\/j=i) A' B' ρ' a' w') a w:=by
 obtain ⟨r,hr,rfl⟩:=G.all i hi
 obtain ⟨X,Y,hR⟩:=kO hr
 obtain ⟨o,ho,hrel,hB⟩:=G.rel r hr
 have hp:=hI.1
 have VJ: ∀b,r.o.bE.testBit b=true->D b:=fun b hb=>G.Uc hp.closed (hB.2 b hb) pL
 obtain ⟨Z,hA,Xf⟩:=around G hp hR hD
 have KV: ∀ρ',(∀b,Kept n0 R D b->ρ' b=ρ b)-> ∀p v,p∈r.o.looks->(mG bY Y).get p=some v-> ∃x,a.tmps[p.toNat - 1]? =some x/\av ρ' (dx n0 Y).toNat C v x:=
  fun ρ' hf p v hl hv=>look G hp (hI.2 ρ' hf).t1 (hI.2 ρ' hf).t0 hR hD VJ hl hv
 have hFR: ∀ρ',(∀b,Kept n0 R D b->ρ' b=ρ b)->mC ρ' (dx n0 Y).toNat C (wz (mG bY Y) r.o.looks) a.tmps:=fun ρ' hf p v hv=>
  let ⟨h1,h2⟩:=RS hv;KV ρ' hf p v h1 h2
 have KW: ∀b,Kept n0 R D b->ρ b=ρ b:=fun _ _=>rfl
 have hw: ∀b,bM (mG bY Y) r.o.guard=some b->Region.wanted o (yielded ops a.tmps)=b:=fun b hb=>
  EM hrel.guard (fun p v hv ⟨q,hq⟩=>KV ρ KW p v (abM hq) hv) hb
 have hnZ: ∀s∈Z,s.nx.toNat<=(dx n0 Y).toNat:=fun s hs=>by
  obtain ⟨Z1,Z2,rfl⟩:=kO hs
  have:=G.DY (X:=X) (r:=r) (Z:=Z1) (r':=s) (Y':=Z2++B) (by rw[hR,Xf];simp)
  rw[Xf];simp only[List.append_assoc,List.cons_append];exact this
 have ZH:(dx n0 B).toNat<=(dx n0 Y).toNat:=by rw[Xf];exact G.BR (X:=X++[r]) (by rw[hR,Xf];simp)
 have hs:=Good.at (hR ▸G.S9)
 have hex: ∀xs,ey (mG bY Y) r.o.xs=some xs->ey (wz (mG bY Y) r.o.looks) r.o.xs=some xs:=fun xs hx=>by
  rw[Xe fun p hp=>aeY hp];exact hx
 unfold wpOp
 simp only[ho]
 generalize hrr:r=r0 at*
 cases hs with
 |skip i' o' _ hw'=>
  rw[if_neg (by rw[hw _ hw'];simp)]
  exact ⟨A,B,ρ,Xc G hI hR hD pL hrel rfl fun ρ' _=> .W5⟩
 |pure i' o' v xs _ hw' hx RO=>
  rw[if_pos (hw _ hw')]
  refine .inl ?_
  rw[Xf] at RO
  obtain ⟨h,uk,bU⟩:=RO Z B rfl hp.bound fun s hs he=>by
    cases hb:o'.bE.testBit s.idx with
    |false=>rfl
    |   true=>
        have h1:=hp.ZG s (by rw[hA];simp[hs]) (VJ _ hb)
        rw[h1] at he;cases he
  rcases hrel.op with hc|⟨hk,_⟩
  . have H: ∀ρ',(∀b,Kept n0 R D b->ρ' b=ρ b)-> ∃N x,(execOp a.eval o).run P w= .ok N w/\Yields N x/\av ρ' (dx n0 Y).toNat C v x:=by
        intro ρ' hf
        have hW:=adE G (hI.2 ρ' hf) hp.split (hp:=h) ZH fun b y hb=>(uk b y hb).imp (fun h=>h) fun ⟨s,h1,h2,h3⟩=>
          ⟨s,by rw[hA];simp[h1],VJ _ h3,h2,hnZ s h1⟩
        exact Qu hT o.op ρ' C _ w _ _ _ _ a o _ _ rfl hc hW (hFR ρ' hf) (hex xs hx) (agH bU fun _ _ h=>h)
    obtain ⟨N,x,he,hy,hv⟩:=H ρ KW
    unfold Oper.wp
    rw[he]
    refine hy.upon ⟨A,B,ρ,Xc G hI hR hD pL hrel rfl fun ρ' hf=> ?_⟩
    obtain ⟨N',x',mB,hy',Jk⟩:=H ρ' hf
    rw[he] at mB
    simp only[Result.ok.injEq,and_true] at mB
    subst mB
    rw[hy.eq hy'];exact Jk
  . rw[hk] at bU;cases bU
 |new   i' o' v aE xs _ hw' hx bU=>
  rw[if_pos (hw _ hw')]
  refine .inl ?_
  rcases hrel.op with hc|⟨hk,_⟩
  . obtain ⟨N,x,w',L,he,hy,h1,h2,h3,h4,h5,h6,h7⟩:=aeX hT hc bU (hex xs hx) (Fam:=fun ρ'=> ∀b,Kept n0 R D b->ρ' b=ρ b) KW hFR
        (fun ad v ha=>((hI.2 ρ KW).W.cZ ad v ha).1) (hI.2 ρ KW).W.whole
    unfold Oper.wp
    rw[he]
    exact hy.upon ⟨A,B,_,agK G hI hR hD pL hrel rfl h1 h2 h3 h4 h5 h6 h7⟩
  . rw[hk] at bU;cases bU
 |aL i' o' v st' xs _ agI hw' hx lf=>
  rw[if_pos (hw _ hw')]
  refine .inl ?_
  rcases hrel.op with hc|⟨hk,_⟩
  . have hY: ∀s∈Y,D s.idx:=fun s hs=>VJ _ (G.aL X _ Y hR agI s hs)
    have hZ: ∀s∈Z,s.c.lV=false:=fun s hs=>hp.ZG s (by rw[hA];simp[hs]) (hY s (by rw[Xf];simp[hs]))
    have hW:bA ρ C { heap:=iT h0 Y,next:=dx n0 Y } w:=adE G (hI.2 ρ KW) hp.split ZH fun b y hb=>by
        rw[Xf] at hb
        rcases zk hZ hp.bound hb with hb|⟨s,h1,h2⟩
        . exact .inl hb
        . exact .inr ⟨s,by rw[hA];simp[h1],hY s (by rw[Xf];simp[h1]),h2,hnZ s h1⟩
    have hre:=RM hT gw hc hW (hFR ρ KW) (hex xs hx) lf
    refine hre.upon fun x w' adF=> ?_
    obtain ⟨BP,h⟩:=agN G hI hR hD pL hrel hY rfl rfl adF
    exact ⟨_,_,BP,h⟩
  . exact (Reaches.bad hk lf).elim
end
end
section
open Go
section
variable {P : Program} {tt : TT} {C : Cells} {nt : Nat} {ops : Array Oper} {call : ak} {bY : Fr} {h0 : T AB} {n0 : Pos} {R : List Rec}
theorem Xg (G:zj tt nt ops call bY h0 n0 R) {qz:Pos->Loc} {w0:World} {D:Nat->Prop} {A B:List Rec} {ρ:Pos->Loc} {a:Act} {w:World}
   (hI:Inv C nt ops bY h0 n0 R qz w0 D A B ρ a w) (nC: ∀r∈R,D r.idx):lU nt qz C { heap:=h0,next:=n0 } w0 (mG bY R) { heap:=iT h0 R,next:=dx n0 R } a w:=by
 obtain ⟨hp,hI⟩:=hI
 have h:=hI ρ fun _ _=>rfl
 have hZ: ∀s∈A,s.c.lV=false:=fun s hs=>hp.ZG s hs (nC s (by rw[hp.split];simp[hs]))
 have hnA: ∀s∈A,s.nx.toNat<=(dx n0 R).toNat:=fun s hs=>by
   obtain ⟨Z1,Z2,hA⟩:=kO hs
   have:=G.BR (X:=[]) (Y:=Z1) (Z:=s::(Z2++B)) (by rw[hp.split,hA];simp)
   have e:R=Z1++s::(Z2++B):=by rw[hp.split,hA];simp
   rw[<-e] at this;exact this
 have ZH:(dx n0 B).toNat<=(dx n0 R).toNat:=by
   have:=G.BR (X:=[]) (Y:=A) (Z:=B) (by rw[hp.split];simp)
   rwa [<-hp.split] at this
 have EL:n0.toNat<=(dx n0 R).toNat:=G.adB (X:=[]) rfl
 have uk: ∀b x,(iT h0 R).get b=some x->(iR h0 B).get b=some x\/ ∃s∈A,D s.idx/\s.c= .new b x/\s.nx.toNat<=(dx n0 R).toNat:=fun b x hb=>by
   rw[hp.split] at hb
   rcases zk hZ hp.bound hb with hb|⟨s,h1,h2⟩
   . exact .inl hb
   . exact .inr ⟨s,h1,nC s (by rw[hp.split];simp[h1]),h2,hnA s h1⟩
 refine ⟨ρ,⟨adE G h hp.split ZH uk,?_,hp.size,hp.defers⟩,h.agree,EL,?_⟩
 . intro p v hv
   rcases Od R p v hv with ⟨M,s,T,hM,h2,rfl,h3⟩|⟨h1,h2⟩
   . obtain ⟨x,hx,Ud⟩:=h.t1 M s T p hM (nC s (by rw[hM];simp)) h2 fun s' mF _=>h3 s' mF
     refine ⟨x,hx,Ud.mono (fun _ _=>rfl) ?_⟩
     have:=G.BR (X:=[]) (Y:=M) (Z:=s::T) (by rw[hM];simp)
     rw[<-hM] at this;exact this
   . obtain ⟨x,hx,Ud⟩:=h.t0 p v h1 fun s hs _=>h2 s hs
     exact ⟨x,hx,Ud.mono (fun _ _=>rfl) EL⟩
 . refine ⟨h.E.os,h.E.tape,h.E.output,h.E.size,h.E.block,fun b x hb=> ?_⟩
   rcases uk b x hb with hb|⟨s,h1,h2,h3,_⟩
   . exact h.E.vP b x hb
   . exact .inr (h.N s h1 h2 b x h3).2.2.1
def DL (listed:Array Bool) (j:Nat):Prop:=listed.getD j false=true
theorem aeZ {listed:Array Bool} {i:Nat} (hi:i<listed.size):(fun j=>DL listed j\/j=i)=DL (listed.setIfInBounds i true):=by
 funext j
 apply propext
 unfold DL
 by_cases h:j=i
 . subst h;simp[hi]
 . rw[getD_set_ne false (Ne.symm h)];simp[h]
theorem ZM {listed:Array Bool} {j:Nat} (h:listed.getD j true=false): ¬DL listed j:=by
 unfold DL
 intro h'
 rcases Nat.lt_or_ge j listed.size with hj|hj
 . simp[hj] at h h';rw[h] at h';cases h'
 . simp[Array.getElem?_eq_none hj] at h'
theorem aiA {listed:Array Bool} {j:Nat} (hj:j<listed.size) (h: ¬DL listed j):listed.getD j true=false:=by
 unfold DL at h
 simp[hj] at h ⊢; exact h
theorem Og (G:zj tt nt ops call bY h0 n0 R) {listed:Array Bool} (hs:listed.size=ops.size) (hr:Region.ready .any ops listed=[]): ∀(Y X:List Rec),R=X++Y-> ∀r∈Y,DL listed r.idx
 |[],_,_,r,kA=>by cases kA
 |r ::Y  ,X,hR,r',kA=>by
  have ih:=Og G hs hr Y (X++[r]) (by rw[hR];simp)
  rcases List.mem_cons.1 kA with rfl|kA
  . obtain ⟨o,ho,_,hB⟩:=G.rel r' (by rw[hR];simp)
    have aP:r'.idx<ops.size:=(Array.getElem?_eq_some_iff.1 ho).1
    by_cases h:DL listed r'.idx
    .   exact h
    .   exfalso
        have:r'.idx∈Region.ready .any ops listed:=mem_ready.2 ⟨aiA (by omega) h,o,ho,fun e he hb=>by
         obtain ⟨s,h1,h2⟩:=G.bE X r' Y hR _ (hB.1 o ho e he hb)
         have:=ih s h1
         rw[h2] at this;exact this⟩
        rw[hr] at this;cases this
  . exact ih r' kA
theorem Xh (hT:cr P tt) (gw:jS P C call) (G:zj tt nt ops call bY h0 n0 R) {Q:Exit->Act->World->Prop} {qz:Pos->Loc} {w0:World}
  (hQ: ∀a' w',lU nt qz C { heap:=h0,next:=n0 } w0 (mG bY R) { heap:=iT h0 R,next:=dx n0 R } a' w'->Q .normal a' w'):
  ∀ (fuel:Nat) (listed:Array Bool) (U:List Nat) (A B:List Rec) (ρ:Pos->Loc) (a:Act) (w:World),listed.size=ops.size->U.length<=fuel->U.Nodup->(∀j,j<ops.size-> ¬DL listed j->j∈U)->
    Inv C nt ops bY h0 n0 R qz w0 (DL listed) A B ρ a w->wpAny P .any ops Q fuel listed a w
 |0,listed,U,A,B,ρ,a,w,hs,hU,_,hm,hI=>by
  have hU0:U=[]:=List.eq_nil_of_length_eq_zero (by omega)
  subst hU0
  have hr:Region.ready .any ops listed=[]:=by
    cases h:Region.ready .any ops listed with
    |nil=>rfl
    |   cons i l=>
        have hi:i∈Region.ready .any ops listed:=by rw[h];simp
        obtain ⟨h1,o,ho,_⟩:=mem_ready.1 hi
        have:=hm i (Array.getElem?_eq_some_iff.1 ho).1 (ZM h1)
        cases this
  exact ⟨hr,hQ a w (Xg G hI (Og G hs hr R [] rfl))⟩
 |fuel+1,listed,U,A,B,ρ,a,w,hs,hU,hnd,hm,hI=>by
  refine ⟨fun hr=>hQ a w (Xg G hI (Og G hs hr R [] rfl)),fun i hi=> ?_⟩
  obtain ⟨h1,o,ho,h2⟩:=mem_ready.1 hi
  have aP:i<ops.size:=(Array.getElem?_eq_some_iff.1 ho).1
  have lf:=agP (Q:=Q) hT gw G hI aP (ZM h1) fun o' e GO he hb=>by
    rw[ho] at GO;simp only[Option.some.injEq] at GO;subst GO
    exact h2 e he hb
  refine wpOp_mono (fun a' w' hh=> ?_) lf
  obtain ⟨A',B',ρ',hI'⟩:=hh
  rw[aeZ (by omega)] at hI'
  have hiU:i∈U:=hm i aP (ZM h1)
  refine Xh hT gw G hQ fuel _ (U.erase i) A' B' ρ' a' w' (by simp[hs]) ?_ (hnd.erase i) (fun j hj hD=> ?_) hI'
  . rw[List.length_erase_of_mem hiU];omega
  . rw[<-aeZ (by omega)] at hD
    have bX:j≠i:=fun e=>hD (.inr e)
    exact (List.mem_erase_of_ne bX).2 (hm j hj fun h=>hD (.inl h))
theorem Uf (hm:P.follows .mixedOrders=true) (hT:cr P tt) (gw:jS P C call) (adI:kR call):Oa P tt C call:=by
 intro nt id ops l Q fr bn st st' ρ a w hl bu h hS hQ
 obtain ⟨R,hG,hmap,GF,akL,RQ⟩:=Ub (call:=call) (bY:=fr) (h0:=st.heap) (n0:=st.next) _ [] fr bn st st' h trivial rfl rfl rfl
 simp only[List.append_nil] at hG GF akL RQ
 have hst':st'={ heap:=iT st.heap R,next:=dx st.next R }:=by cases st';simp_all
 have hlen:l.length=ops.size:=by rw[(BF hl).1,Array.length_toList]
 have Ug:=RP _ 0 [] bu fun b=>by simp
 have hL:xk (EB 0 l) []=(R.map fun r=>(r.idx,r.o)).reverse:=by rw[hmap,List.reverse_reverse]
 have dec: ∀{A B:List Rec} {r:Rec},R=A++r::B->xk (EB 0 l) []=(B.map fun r=>(r.idx,r.o)).reverse++(r.idx,r.o)::(A.map fun r=>(r.idx,r.o)).reverse:=fun e=>by
   rw[hL,e];simp
 have adJ: ∀{B:List Rec} {i:Nat},i∈((B.map fun r=>(r.idx,r.o)).reverse).map (·.1)↔ ∃r∈B,r.idx=i:=fun {B i}=>by simp
 have G:zj tt nt ops call fr st.heap st.next R:=by
   refine ⟨hG,adI,fun A r B e r' kA hi=> ?_,fun A r B e b hb=> ?_,fun A r B e hc r' kA=> ?_,fun A r B e r' kA=> ?_,fun r hr=> ?_,fun i hi=> ?_⟩
   . exact (Ug.one _ _ _ _ (dec e)).2 (adJ.2 ⟨r',kA,hi⟩)
   . rcases Ug.bE _ _ _ _ (dec e) b hb with h|h
     . cases h
     . exact adJ.1 h
   . exact Ug.aL _ _ _ _ (dec e) hc _ (.inr (adJ.2 ⟨r',kA,rfl⟩))
   . exact Ug.apart _ _ _ _ (dec e) (r'.idx,r'.o) (by simp;exact ⟨r',kA,rfl,rfl⟩)
   . obtain ⟨A,B,e⟩:=kO hr
     have hx:(r.idx,r.o)∈xk (EB 0 l) []:=by rw[dec e];simp
     have h1:=aiz hx
     obtain ⟨o,h2,h3,h4⟩:=ZA hl _ _ h1
     refine ⟨o,h2,h3,?_⟩
     rw[h4]
     exact acy ops.toList [] rfl (Nat.zero_le _) (fun i hi=>by simp at hi) _ (Array.getElem?_eq_some_iff.1 h2).1
   . rcases Ug.all i (by rw[hlen];exact hi) with h|h
     . cases h
     . rw[hL] at h;exact adJ.1 h
 refine wp_region_any hm ?_
 rw[hst',GF] at hQ
 have hkn: ∀b:Pos,b.toNat<st.next.toNat-> ∀D,Kept st.next R D b:=fun b hb D A r B e _=> .inl (Nat.lt_of_lt_of_le hb (G.adB (X:=A++[r]) (by rw[e];simp)))
 refine Xh (Q:=Q) (qz:=ρ) (w0:=w) hT gw G hQ ops.size _ (List.range ops.size) R [] ρ a _ (by simp) (by simp) List.nodup_range (fun j hj _=>List.mem_range.2 hj) ?_
 have mb: ∀j,¬DL (Array.replicate ops.size false) j:=fun j h=>by
   unfold DL at h
   rcases Nat.lt_or_ge j ops.size with hj|hj
   . simp[hj] at h
   . simp[Nat.not_lt.2 hj] at h
 refine ⟨⟨by simp,trivial,(fun r hr=>by cases hr),fun r _ hD=>absurd hD (mb _),fun i _ _ hD=>absurd hD (mb _),hS.size,hS.defers⟩,fun ρ' Bf=> ?_⟩
 have o8: ∀b:Pos,b.toNat<st.next.toNat->ρ' b=ρ b:=fun b hb=>Bf b (hkn b hb _)
 have hW:bA ρ' C st { w with drawn:=w.drawn+1 }:=(hS.W.congr o8).grow (Nat.le_refl _) fun _ _=>rfl
 refine ⟨hW,fun r _ hD=>absurd hD (mb _),fun r _ hD=>absurd hD (mb _),fun M s T p _ hD=>absurd hD (mb _),fun p v hv _=> ?_,⟨rfl,rfl,rfl,Nat.le_refl _,fun _ _ _=>rfl,fun b x hb=> .inl ⟨b,x,hb,?_⟩⟩,o8⟩
 . obtain ⟨x,hx,Ud⟩:=hS.F p v hv
   exact ⟨x,hx,Ud.mono o8 (Nat.le_refl _)⟩
 . rw[o8 b (hS.W.live b x hb).1]
theorem DZ (hm:P.follows .mixedOrders=true) (hT:cr P tt) {O:dQ} {G:T cL} (hO:qI P C O) (RT:kg O) (hG:T8 P tt G) (m d:Nat):jS P C (od O G m d):=
 RN hT hO hG m (fun d gw=>Uf hm hT gw (DX RT m d)) d
end
end
section
section
variable {R : Type}
theorem Ep {α:Type}: ∀(p:Pos) (t:T α),ED p t=t.get p
 | .h,.e=>rfl
 | .h,.n _ _ _=>rfl
 | .o _,.e=>rfl
 | .o p,.n l _ _=>Ep p l
 | .i _,.e=>rfl
 | .i p,.n _ _ r=>Ep p r
theorem nP {α:Type} (x:Option α): ∀(p:Pos) (t:T α) (k:T α->R),A7 x p t k=k (t.put x p)
 | .h,.e,_=>rfl
 | .h,.n _ _ _,_=>rfl
 | .o p,.e,k=>nP x p .e _
 | .o p,.n l _ _,k=>nP x p l _
 | .i p,.e,k=>nP x p .e _
 | .i p,.n _ _ r,k=>nP x p r _
theorem BI (n:Nat) (k:Nat->R):oH n k=k n:=by cases n<;>rfl
theorem abN (n:Int) (k:Int->R):SU n k=k n:=by cases n<;>simp only[SU,BI]
theorem ZN (b:Bool) (k:Bool->R):WS b k=k b:=by cases b<;>rfl
theorem GU {α:Type}: ∀(l:List α) (k:List α->R),zc l k=k l
 |[],_=>rfl
 |a::l,k=>GU l fun t=>k (a::t)
theorem Ih: ∀(p:Pos) (k:Pos->R),KA p k=k p
 | .h,_=>rfl
 | .o p,k=>Ih p fun q=>k (.o q)
 | .i p,k=>Ih p fun q=>k (.i q)
theorem ae0 (o:Option Nat) (k:Option Nat->R):Zc o k=k o:=by
 cases o with
 |none=>rfl
 |some n=>simp only[Zc,BI]
theorem Xi (v:AV) (k:AV->R):NW v k=k v:=by
 cases v<;>simp only[NW,ZN,abN,GU,Ih,BI,ae0]
theorem KX: ∀(l:List AV) (k:List AV->R),Qp l k=k l
 |[],_=>rfl
 |a::l,k=>by
  show NW a (fun a=>Qp l fun t=>k (a::t))=_
  rw[Xi,KX l]
theorem GV (v:AV) (k:AV->R):rP v k=k v:=by
 unfold rP
 split
 . exact KX _ _
 . exact Xi _ _
theorem KY (x:AB) (k:AB->R):En x k=k x:=by
 cases x<;>simp only[En,GU,BI]
theorem Ta: ∀(p:Pos) (k:Pos->R),YR p k=k p.succ
 | .h,_=>rfl
 | .o _,_=>rfl
 | .i p,k=>Ta p fun q=>k (.o q)
variable (z : R)
def vQ {α:Type} (r:Option α) (k:α->R):R:=match r with
 |some x=>k x
 |none=>z
theorem ae1 (fr:Fr) (x:fB) (k:AV->R):evK z fr x k=vQ z (BO fr x) k:=by
 cases x with
 |t p=>simp only[evK,Ep,BO,vQ];cases T.get p fr<;>rfl
 |c v=>rfl
theorem VK (fr:Fr): ∀(xs:List fB) (k:List AV->R),Vz z fr xs k=vQ z (ey fr xs) k
 |[],k=>rfl
 |x::xs,k=>by
  show evK z fr x (fun v=>Vz z fr xs fun vs=>k (v::vs))=_
  rw[ae1]
  simp only[VK fr xs]
  simp only[ey]
  cases BO fr x with
  |none=>rfl
  |some v=>simp only[vQ];cases ey fr xs<;>rfl
theorem Uh (fr:Fr) (g:Option (Pos×Bool)) (yes no:R):Eo z fr g yes no=match bM fr g with
  |some true=>yes
  |some false=>no
  |none=>z:=by
 unfold Eo bM
 cases g with
 |none=>rfl
 |some g=>
  obtain ⟨p,want⟩:=g
  simp only[Ep]
  cases T.get p fr with
  |none=>rfl
  |some v=>
   cases v<;>try rfl
   rename_i b
   cases b<;>cases want<;>rfl
theorem Ui (fr:Fr) (d:Option Pos) (v:AV) (k:Fr->R):jX fr d v k=k (dc fr d v):=by
 cases d with
 |none=>rfl
 |some p=>exact nP _ _ _ _
theorem aiB (st:St) (del:Option Pos) (set:Option (Pos×AB)) (new:Option AB) (k:St->R):agp st del set new k=k (st.aL del set new):=by
 have hdel: ∀(h:T AB) (k:T AB->R),delK del h k=k (Cu del h):=fun h k=>by
  cases del with
  |none=>rfl
  |some b=>exact nP _ _ _ _
 have Bc: ∀(h:T AB) (k:T AB->R),ago set h k=k (EA set h):=fun h k=>by
  cases set with
  |none=>rfl
  |some b=>simp only[ago,KY,nP];rfl
 unfold agp
 rw[hdel,Bc]
 cases new with
 |none=>rfl
 |some x=>simp only[KY,nP,Ta];rfl
def CK (ki:DU R) (call:ak):Prop:= ∀f args st k,ki f args st k=vQ z (call f args st) fun x=>k x.1 x.2
variable {ki : DU R} {call : ak}
theorem KZ (h:T AB):(fun b=>ED b h)=fun b=>h.get b:=funext fun b=>Ep b h
theorem ZO (hc:CK z ki call) (op:aC) (xs:List AV) (st:St) (k:AV->St->R):Qq z ki op xs st k=vQ z (bP call op xs st) fun x=>k x.1 x.2:=by
 unfold Qq bP
 rw[KZ]
 cases op.run (fun b=>st.heap.get b) st.next xs with
 |none=>rfl
 |some r=>
  cases r with
  |val v=>simp only[GV];rfl
  |aL v d s n=>simp only[GV,aiB];rfl
  |call f args=>simp only[GU];exact hc f args st k
theorem acB (hc:CK z ki call): ∀(ops:List bD) (fr:Fr) (st:St) (k:Fr->St->R),adh z ki ops fr st k=vQ z (jt call ops fr st) fun x=>k x.1 x.2
 |[],fr,st,k=>rfl
 |o::os,fr,st,k=>by
  show Eo z fr o.guard (Vz z fr o.xs fun xs=>Qq z ki o.k xs st fun v st=>jX fr o.dst v fun fr=>adh z ki os fr st k) (jX fr o.dst .undef fun fr=>adh z ki os fr st k)=_
  rw[Uh,VK]
  simp only[ZO z hc,Ui,acB hc os]
  simp only[jt]
  cases bM fr o.guard with
  |none=>rfl
  |some b=>
   cases b with
   |false=>rfl
   |    true=>
        simp only[]
        cases ey fr o.xs with
        |none=>rfl
        |some xs=>
         simp only[vQ]
         cases bP call o.k xs st with
         |none=>rfl
         |some x=>rfl
theorem ET (bE:Nat) (h:T AB): ∀(recs:List Rec) (k:T AB->R),KB bE h recs k=k (snap bE h recs)
 |[],k=>rfl
 |r::rs,k=>by
  show (match r.c with
   |    .new id aE=>match bE.testBit r.idx with
        |true=>KB bE h rs fun h'=>A7 (some aE) id h' k
        |false=>KB bE h rs k
   | .aL _ _=>k h
   | .pure=>KB bE h rs k)=_
  unfold snap
  cases r.c with
  |pure=>exact ET bE h rs k
  |aL _ _=>rfl
  |new id aE=>
   simp only[]
   cases bE.testBit r.idx with
   |true=>simp only[ET bE h rs,nP]
   |false=>exact ET bE h rs k
theorem Xj (h:T AB): ∀(l:List (Pos×AB)) (k:T AB->R),Zd h l k=k (jN l h)
 |[],k=>rfl
 |(id,aE)::l,k=>by
  show Zd h l (fun h'=>A7 (some aE) id h' k)=_
  rw[Xj h l,nP];rfl
theorem zl (bE:Nat) (op:aC) (xs:List AV) (v:AV): ∀(recs:List Rec) (up:List (Pos×AB)),qq bE op xs v up recs=jW bE op xs v up recs
 |[],up=>rfl
 |r::rs,up=>by
  unfold qq jW
  cases r.c with
  |pure=>exact zl bE op xs v rs up
  |new id aE=>simp only[zl bE op xs v rs]<;>(cases bE.testBit r.idx<;>rfl)
  |aL base _=>
   simp only[zl bE op xs v rs,ET,Xj]
   unfold Ze kL
   simp only[KZ]<;>(cases bE.testBit r.idx<;>rfl)
theorem ZP (hc:CK z ki call): ∀(ops:List (Nat×bD)) (recs:List Rec) (base:T AB) (fr:Fr) (st:St) (k:Fr->St->R),
  KC z ki ops recs base fr st k=vQ z (cW call ops recs base fr st) fun x=>k x.1 x.2
 |[],recs,base,fr,st,k=>rfl
 |(j,   o)::  os,recs,base,fr,st,k=>by
  show Eo   z fr o.guard
    (Vz   z fr o.xs fun xs=>match o.cls with
        | .new=>match o.k.run (fun _=>none) st.next xs with
          |some (.aL v none none (some aE))=>rP v fun v=>En aE fun aE=>jX fr o.dst v fun fr=>YR st.next fun n=>A7 (some aE) st.next st.heap fun h=>
              KC z ki os ({ idx:=j,o:=o,v:=v,c:= .new st.next aE,nx:=n }::recs) base fr { heap:=h,next:=n } k
          |_=>z
        | .aL=>Qq z ki o.k xs st fun v st'=>jX fr o.dst v fun fr=>KC z ki os ({ idx:=j,o:=o,v:=v,c:= .aL base st'.heap,nx:=st'.next }::recs) st'.heap fr st' k
        | _ =>match o.k.run (fun _=>none) .h xs with
          |some (.val v)=>rP v fun v=>jX fr o.dst v fun fr=>KC z ki os ({ idx:=j,o:=o,v:=v,c:= .pure,nx:=st.next }::recs) base fr st k
          | _ =>KB o.bE base recs fun h=>match o.k.run (fun b=>ED b h) .h xs with
            | some (.val v)=>rP v fun v=>match qq o.bE o.k xs v [] recs with
              |true=>jX fr o.dst v fun fr=>KC z ki os ({ idx:=j,o:=o,v:=v,c:= .pure,nx:=st.next }::recs) base fr st k
              |false=>z
            |_=>z)
    (jX fr o.dst .undef fun fr=>KC z ki os ({ idx:=j,o:=o,v:= .undef,c:= .pure,nx:=st.next }::recs) base fr st k)=_
  rw[Uh,VK]
  simp only[ZO z hc,Ui,GV,KY,Ta,nP,ET,zl,KZ,ZP hc os]
  simp only[cW]
  cases bM fr o.guard with
  |none=>rfl
  | some b=>
    cases b with
    |false=>rfl
    |   true=>
        simp only[]
        cases ey fr o.xs with
        |none=>rfl
        | some xs=>
          simp only[vQ]
          cases o.cls with
          | new=>
            simp only[]
            split<;>simp_all
          | aL=>
            simp only[]
            cases bP call o.k xs st with
            |none=>rfl
            |some x=>rfl
          | pure=>
            simp only[]
            split
            . simp_all
            . split<;>simp_all
              split<;>simp_all
          | read=>
            simp only[]
            split
            . simp_all
            . split<;>simp_all
              split<;>simp_all
def ZQ (r:Option (lQ×Fr×St)) (kn:Fr->St->R) (kx:Nat->Fr->St->R) (kr:Fr->St->R):R:=match r with
 |some (.normal,fr,st)=>kn fr st
 |some (.exit id,fr,st)=>kx id fr st
 |some (.ret,fr,st)=>kr fr st
 |none=>z
theorem ZR (hc:CK z ki call): ∀(m:Nat) (c:AC) (fr:Fr) (st:St) (kn:Fr->St->R) (kx:Nat->Fr->St->R) (kr:Fr->St->R),
  YT z ki m c fr st kn kx kr=ZQ z (exec call m c fr st) kn kx kr
 |0,c,fr,st,kn,kx,kr=>rfl
 |m+    1,c,fr,st,kn,kx,kr=>by
  have ih:=ZR hc m
  show qt z ki (YT z ki m) c fr st kn kx kr=ZQ z (bg call (exec call m) c fr st) kn kx kr
  cases c with
  |skip=>rfl
  |region ops=>
   simp only[qt,bg,acB z hc]
   cases jt call ops fr st with
   |none=>rfl
   |some x=>rfl
  |draw ops=>
   simp only[qt,bg,ZP z hc]
   cases cW call ops [] st.heap fr st with
   |none=>rfl
   |some x=>rfl
  |seq a b=>
   simp only[qt,bg,ih]
   cases exec call m a fr st with
   |none=>rfl
   |    some x=>
        obtain ⟨e,fE,bk⟩:=x
        cases e<;>rfl
  |cond x a b=>
   simp only[qt,bg,ae1]
   cases BO fr x with
   |none=>rfl
   |    some v=>
        simp only[vQ]
        cases v<;>try rfl
        rename_i t
        cases t<;>simp only[ih]
  |block id a=>
   simp only[qt,bg,ih]
   cases exec call m a fr st with
   |none=>rfl
   |    some x=>
        obtain ⟨e,fE,bk⟩:=x
        cases e<;>try rfl
        rename_i tj
        simp only[ZQ]
        cases Nat.beq tj id<;>rfl
  |loop a=>
   simp only[qt,bg,ih]
   cases exec call m a fr st with
   |none=>rfl
   |    some x=>
        obtain ⟨e,fE,bk⟩:=x
        cases e<;>rfl
  |exit id=>rfl
  |ret=>rfl
theorem Uj: ∀(vs:List AV) (i:Nat) (fr:Fr) (k:Fr->R),Qr vs i fr k=k (params i vs fr)
 |[],i,fr,k=>rfl
 |v::vs,i,fr,k=>by
  show A7 (some v) (key i) fr (fun fr=>Qr vs (i+1) fr k)=_
  rw[nP,Uj vs];rfl
theorem abO (st:St) (fr:Fr) (rs:List NU) (k:AV->R):A8 z st fr rs k=vQ z (fC (fun b=>st.heap.get b) fr rs) fun vs=>k (xg vs):=by
 unfold A8
 rw[KZ]
 cases fC (fun b=>st.heap.get b) fr rs with
 |none=>rfl
 |some vs=>
  simp only[KX,vQ]
  cases vs with
  |nil=>rfl
  |cons v vs=>cases vs<;>rfl
theorem K7 (O:dQ) (G:T cL) (m:Nat): ∀d,CK z (Qt z O G m d) (od O G m d)
 |0=>fun f args st k=>rfl
 |d+    1=>fun f args st k=>by
  have ih:=K7 O G m d
  show ( match O f with
   |    some s=>match s args st with
        |some (v,st')=>rP v fun v=>k v st'
        |none=>z
   |    none=>match ED (key f) G with
        |some F=>match Nat.beq args.length F.nparams with
         |true=>Qr args 0 .e fun fr=>YT z (Qt z O G m d) m F.code fr st
             (fun fr st=>A8 z st fr F.results fun v=>k v st)
             (fun _ _ _=>z)
             (fun fr st=>A8 z st fr F.results fun v=>k v st)
         |false=>z
        |none=>z)=_
  simp only[od,GV,Ep,Uj,ZR z ih,abO]
  cases O f with
  |some s=>
   simp only[]
   cases s args st with
   |none=>rfl
   |some x=>rfl
  |none=>
   simp only[]
   cases G.get (key f) with
   |none=>rfl
   |    some F=>
        simp only[]
        cases Nat.beq args.length F.nparams with
        |false=>rfl
        |true=>
         simp only[]
         cases exec (od O G m d) m F.code (params 0 args .e) st with
         |none=>rfl
         |  some x=>
            obtain ⟨e,fE,bk⟩:=x
            cases e with
            |normal=>
             simp only[ZQ]
             cases fC (fun b=>bk.heap.get b) fE F.results<;>rfl
            |exit id=>rfl
            |ret=>
             simp only[ZQ]
             cases fC (fun b=>bk.heap.get b) fE F.results<;>rfl
end
end
section
open Go
def adK (P :Program) (t:Nat) (ti:TI):Bool:=
 match P.underlying t,P.info? t with
 |  some d,some i=>bF ti.k d&&Nat.beq i.size ti.size&&Nat.beq i.bytes ti.bytes&&
    (match ti.zero with
     |none=>true
     |some z=>match i.zero with
      |some v=>(match oe v.cells.toList with
           |some z'=>oG z' z
           |none=>false)&&Nat.beq z.length ti.size&&(match ti.k.isAgg,v with
           |true,.agg _=>true
           |true,_=>false
           |false,.agg _=>false
           |false,_=>true)
      |none=>false)&&(match ti.k with
     | .ptr e=>(P.info? e).isSome
     |_=>true)&&(!ti.xj||(!P.stoodInHeld t&& !P.eqGuardType P.depth t))
 |_,_=>false
theorem agQ {P:Program} {t:Nat} {ti:TI} (h:adK P t ti=true):adi P t ti:=by
 unfold adK at h
 split at h<;>first|(cases h;done)|skip
 rename_i d i hd hi
 simp only[Bool.and_eq_true,Bool.or_eq_true,Bool.not_eq_true'] at h
 obtain ⟨⟨⟨⟨⟨h1,h2⟩,h3⟩,h4⟩,h6⟩,h5⟩:=h
 refine ⟨⟨d,hd,h1⟩,⟨i,hi,Nat.eq_of_beq_eq_true h2,Nat.eq_of_beq_eq_true h3,fun z hz=> ?_⟩,fun e he=> ?_,fun he=> ?_⟩
 . rw[hz] at h4
   simp only at h4
   split at h4<;>first|(cases h4;done)|skip
   rename_i v hv
   simp only[Bool.and_eq_true] at h4
   obtain ⟨⟨g1,g2⟩,g3⟩:=h4
   split at g1<;>first|(cases g1;done)|skip
   rename_i z' AL
   rw[BH g1] at AL
   refine ⟨v,hv,AL,Nat.eq_of_beq_eq_true g2,fun ha=> ?_,fun ha=> ?_⟩
   . rw[ha] at g3;cases v<;>first|exact ⟨_,rfl⟩|cases g3
   . rw[ha] at g3;cases v<;>first|rfl|cases g3
 . rw[he] at h6
   exact Option.isSome_iff_exists.1 h6
 . rcases h5 with h5|h5
   . rw[he] at h5;cases h5
   . exact h5
def Er (P:Program):(Pos->Pos)->T TI->Bool
 |_,.e=>true
 |  f,.n l v r=>(match v with
    |some ti=>adK P ((f .h).toNat - 1) ti
    |none=>true)&&Er P (fun p=>f (.o p)) l&&Er P (fun p=>f (.i p)) r
theorem K8 {P:Program}: ∀{t:T TI} {f:Pos->Pos},Er P f t=true-> ∀p ti,t.get p=some ti->adi P ((f p).toNat - 1) ti
 | .e,f,_,p,ti,h=>by rw[T.cX] at h;cases h
 | .n l v r,f,hc,p,ti,h=>by
   simp only[Er,Bool.and_eq_true] at hc
   cases p with
   |h=>simp only[T.get] at h;rw[h] at hc;exact agQ hc.1.1
   |o p=>exact K8 hc.1.2 p ti h
   |i p=>exact K8 hc.2 p ti h
theorem aiC {P:Program} {tt:TT} (h:Er P (fun p=>p) tt=true):cr P tt:=fun p ti hp=>K8 h p ti hp
end
noncomputable section
open Go
def Js {α:Type} (g:Nat->Option α):Nat->Nat->Nat->T α
 |0,_,_=> .e
 |d+1,a,m=> .n (Js g d a (2*m)) (g (a+m - 1)) (Js g d (a+m) (2*m))
theorem K9 {α:Type} {g:Nat->Option α}: ∀{d a m:Nat} {p:Pos} {x:α},(Js g d a m).get p=some x->g (a+m*p.toNat - 1)=some x
 |0,_,_,p,x,h=>by rw[Js,T.cX] at h;cases h
 |d+1,a,m,.h,x,h=>by rw[Pos.toNat,Nat.mul_one];exact h
 |d+1,a,m,.o p,x,h=>by
  have:=K9 (d:=d) (a:=a) (m:=2*m) (p:=p) (x:=x) h
  rw[Pos.toNat]
  have e:a+m*(2*p.toNat) - 1=a+2*m*p.toNat - 1:=by rw[<-Nat.mul_assoc,Nat.mul_comm m 2]
  rw[e];exact this
 |d+1,a,m,.i p,x,h=>by
  have:=K9 (d:=d) (a:=a+m) (m:=2*m) (p:=p) (x:=x) h
  rw[Pos.toNat]
  have e:a+m*(2*p.toNat+1) - 1=a+m+2*m*p.toNat - 1:=by
   rw[Nat.mul_add,Nat.mul_one, <-Nat.mul_assoc,Nat.mul_comm m 2];omega
  rw[e];exact this
def aif (P:Program) (tt:TT) (i:Nat):Option cL:=match P.funcs[i]? with
 |some fn=>YQ tt fn
 |none=>none
def ggOf (P:Program) (tt:TT):T cL:=Js (aif P tt) 10 0 1
theorem aiD {P:Program} {tt:TT} (h:(P.funcs.toList.all fun fn=> !(fn.name== "runtime.NumGoroutine"))=true):T8 P tt (ggOf P tt):=fun p F hp=>by
 have:=K9 hp
 rw[Nat.zero_add,Nat.one_mul,aif] at this
 split at this<;>first|(cases this;done)|skip
 rename_i fn kY
 refine ⟨fn,kY,?_,this⟩
 have:=List.all_eq_true.1 h fn (by obtain ⟨hi,e⟩:=Array.getElem?_eq_some_iff.1 kY;exact Array.mem_toList_iff.2 (e ▸Array.getElem_mem hi))
 simpa using this
def tkOf (P:Program) (t:Nat):TK:=match P.underlying t with
 |some .bool=> .bool
 |some (.int k)=> .int k
 |some .string=> .string
 |some (.pointer e)=> .ptr e
 |some (.slice e)=> .slice e
 |some (.array n e)=> .array n e
 |some (.map k e)=> .map k e
 |some (.struct fs)=> .struct (fs.toList.map fun f=>(f.offset,f.type,f.name != "_"))
 |some (.func _ _ _)=> .func
 |some (.interface _)=> .iface
 |some .unsafePointer=> .upt
 |_=> .other
def zeroOf:Option Value->Option (List AV)
 |  some v=>match Nat.ble v.cells.size 64 with
    |true=>oe v.cells.toList
    |false=>none
 |none=>none
def memN (n:Nat):List Nat->Bool
 |[]=>false
 |  m::l=>match Nat.beq m n with
    |true=>true
    |false=>memN n l
def tiOf (P:Program) (eqs:List Nat) (t:Nat):Option TI:=match P.info? t with
 |none=>none
 |some i=>some { k:=tkOf P t,size:=i.size,bytes:=i.bytes,zero:=zeroOf i.zero,xj:=memN t eqs }
def ttOf (P:Program) (eqs:List Nat):T TI:=Js (tiOf P eqs) 10 0 1
def kI (n:Nat):AV:= .int .i64 (.ofNat n)
def kU (n:Nat):AV:= .int .u8 (.ofNat n)
def kN (p n e:Nat):AV:= .slice (key p) 0 n none e
def kS (p n c e:Nat):AV:= .slice (key p) 0 n (some c) e
end
section
open Go
structure xM (P:Program) (C:Cells) (f:FuncId) (s:List AV->St->Option (AV×St)):Prop where
 mono: ∀args st v st',s args st=some (v,st')->st.next.toNat<=st'.next.toNat
 runs: ∀(ρ:Pos->Loc) (st:St) (w:World) (args:List AV) (v:AV) (st':St) (bQ:List Value),s args st=some (v,st')->
  bA ρ C st w->aA ρ st.next.toNat C args bQ->Reaches P (jY ρ C st w v st') ((callFunc f bQ.toArray).run P w)
def xw:List (Nat×(List AV->St->Option (AV×St)))->dQ
 |[]=>fun _=>none
 |  (g,s)::l=>fun f=>match Nat.beq f g with
    |true=>some s
    |false=>xw l f
theorem Bg {P:Program} {C:Cells}: ∀{l:List (Nat×(List AV->St->Option (AV×St)))},(∀x∈l,xM P C x.1 x.2)->qI P C (xw l)/\kg (xw l)
 |[],_=>⟨fun f s h=>by simp[xw] at h,fun f s h=>by simp[xw] at h⟩
 |(g,   s0)::l,hl=>by
  obtain ⟨h1,h2⟩:=Bg fun x hx=>hl x (List.mem_cons_of_mem _ hx)
  have h0:=hl _ (List.mem_cons_self ..)
  refine ⟨fun f s h=> ?_,fun f s h=> ?_⟩
  . simp only[xw] at h
    split at h
    .   rename_i he
        simp only[Option.some.injEq] at h;subst h
        have:=Nat.eq_of_beq_eq_true he;subst this
        exact h0.runs
    .   exact h1 f s h
  . simp only[xw] at h
    split at h
    .   simp only[Option.some.injEq] at h;subst h
        exact h0.mono
    .   exact h2 f s h
def Bh:List AV->St->Option (AV×St)
 |  [.str a,.str b],st=>some (.int .i64 (match aD a b with
    |true=> .negSucc 0
    |false=>match aD b a with
     |true=> .ofNat 1
     |false=> .ofNat 0),st)
 |_,_=>none
theorem Oh: ∀(x y:List UInt8),Lib.compareBytes x y=match aD (x.map UInt8.toNat) (y.map UInt8.toNat) with
  |true=> .negSucc 0
  | false=>match aD (y.map UInt8.toNat) (x.map UInt8.toNat) with
    |true=> .ofNat 1
    |false=> .ofNat 0
 |[],[]=>rfl
 |[],_::_=>rfl
 |_::_,[]=>rfl
 |a ::x  ,b::y=>by
  rw[sw,sw]
  have ih:=Oh x y
  rw[sw,sw] at ih
  simp only[Lib.compareBytes,Op.bytesLess]
  by_cases h:a<b
  . simp[h]
  . by_cases h':b<a
    .   have bX:(a==b)=false:=by
         rw[beq_eq_false_iff_ne]
         exact fun e=>by subst e;exact h h'
        simp[h,h',bX]
    .   have he:a=b:=by
         apply UInt8.toNat_inj.1
         rw[UInt8.lt_iff_toNat_lt] at h h'
         omega
        subst he
        simp only[h,if_false,ih]
        simp
theorem agR {P:Program} {C:Cells} {f:FuncId} {fn:Func} (hf:P.funcs[f]? =some fn) (qJ:(fn.name== "runtime.NumGoroutine")=false) (hb:fn.body.isNone=true)
  (hx:Extern.findNext fn=none) (he:Extern.find fn=some Extern.BytealgCompare.compare):xM P C f Bh where
 mono args st v st' h:=by
  unfold Bh at h
  split at h<;>cases h
  exact Nat.le_refl _
 runs ρ st w args v st' bQ h hW hv:=by
  unfold Bh at h
  split at h<;>cases h
  rename_i a b
  obtain ⟨x,xs,rfl,h1,h2⟩:=hv.cons_inv
  obtain ⟨y,ys,rfl,h3,h4⟩:=h2.cons_inv
  have:=h4.su;subst this
  obtain ⟨s,rfl,hs⟩:=h1.dW
  obtain ⟨t,rfl,ht⟩:=h3.dW
  have bU:(callFunc f [Value.string s,Value.string t].toArray).run P w= .ok (.value (.int .i64 (Lib.compareBytes s.data.toList t.data.toList))) w:=by
   rw[run_callFunc_extern hf qJ hb hx he]
   show ((Extern.BytealgCompare.compare #[.string s,.string t]).run P w).andThen _=_
   rw[Lib.run_compareString]
   rfl
  rw[bU]
  refine ⟨ρ,?_,fun _ _=>rfl,Nat.le_refl _,hW,ni.refl _ _ _⟩
  rw[Oh,hs,ht]
  exact .int _ _
end
section
open Go
theorem bA.sub {ρ:Pos->Loc} {C:Cells} {st:St} {w:World} (h:bA ρ C st w) {h2:T AB} (hs: ∀b x,h2.get b=some x->st.heap.get b=some x):bA ρ C { heap:=h2,next:=st.next } w where
 live b x hb:=h.live b x (hs b x hb)
 inj b b' x x' hb eS he:=h.inj b b' x x' (hs b x hb) (hs b' x' eS) he
 cZ a v ha:=⟨(h.cZ a v ha).1,fun b x hb=>(h.cZ a v ha).2 b x (hs b x hb)⟩
 whole:=h.whole
theorem jY.frame {ρ:Pos->Loc} {C:Cells} {st st':St} {w w':World} {v:AV} {x:Value} {h0 h2:T AB} (hW:bA ρ C st w) (uk: ∀b y,h0.get b=some y->st.heap.get b=some y)
   (h:jY ρ C { heap:=h0,next:=st.next } w v st' x w')
   (h2s: ∀b y,h2.get b=some y->st'.heap.get b=some y\/(st.heap.get b=some y/\h0.get b=none)):
   jY ρ C st w v { heap:=h2,next:=st'.next } x w':=by
 obtain ⟨ρ',hv,aS,hn,dX,hE⟩:=h
 have hold: ∀b y,st.heap.get b=some y->h0.get b=none-> ∀b' y',h0.get b'=some y'->(ρ b').aE≠(ρ b).aE:=fun b y hb rR b' y' eS e=>by
   have:=hW.inj b' b y' y (uk b' y' eS) hb e
   subst this;rw[rR] at eS;cases eS
 have ae2: ∀b y b' y',st'.heap.get b=some y->st.heap.get b'=some y'->h0.get b'=none->(ρ' b).aE≠(ρ' b').aE:=fun b y b' y' hb eS rR e=>by
   rw[aS b' (hW.live b' y' eS).1] at e
   rcases hE.vP b y hb with ⟨b2,y2,g1,g2⟩|g1
   . exact hold b' y' eS rR b2 y2 g1 (g2.trans e)
   . have:=(hW.live b' y' eS).2.1;omega
 refine ⟨ρ',hv,aS,hn,⟨fun b y hb=> ?_,fun b b' y y' hb eS he=> ?_,fun a u ha=>⟨(dX.cZ a u ha).1,fun b y hb=> ?_⟩,dX.whole⟩,⟨hE.os,hE.tape,hE.output,hE.size,fun k hk mb=> ?_,fun b y hb=> ?_⟩⟩
 . rcases h2s b y hb with hb|⟨hb,rR⟩
   . exact dX.live b y hb
   . obtain ⟨g1,g2,g3⟩:=hW.live b y hb
     refine ⟨Nat.lt_of_lt_of_le g1 hn,?_,?_⟩
     .  rw[aS b g1];exact Nat.lt_of_lt_of_le g2 hE.size
     .  rw[aS b g1]
        exact (g3.mono aS hn).of_heap (hE.block _ g2 fun b' y' eS=>hold b y hb rR b' y' eS)
 . rcases h2s b y hb with hb|⟨hb,rR⟩<;>rcases h2s b' y' eS with eS|⟨eS,hb0'⟩
   . exact dX.inj b b' y y' hb eS he
   . exact absurd he (ae2 b y b' y' hb eS hb0')
   . exact absurd he.symm (ae2 b' y' b y eS hb rR)
   . rw[aS b (hW.live b y hb).1,aS b' (hW.live b' y' eS).1] at he
     exact hW.inj b b' y y' hb eS he
 . rcases h2s b y hb with hb|⟨hb,rR⟩
   . exact (dX.cZ a u ha).2 b y hb
   . rw[aS b (hW.live b y hb).1];exact (hW.cZ a u ha).2 b y hb
 . exact hE.block k hk fun b y hb=>mb b y (uk b y hb)
 . rcases h2s b y hb with hb|⟨hb,rR⟩
   . rcases hE.vP b y hb with ⟨b',y',g1,g2⟩|g1
     .  exact .inl ⟨b',y',uk b' y' g1,g2⟩
     .  exact .inr g1
   . exact .inl ⟨b,y,hb,by rw[aS b (hW.live b y hb).1]⟩
def BU:List AV->List AV->Bool
 |[],[]=>true
 |a::x,b::y=>eC a b&&BU x y
 |_,_=>false
theorem GW: ∀{a b:List AV},BU a b=true->a=b
 |[],[],_=>rfl
 |[],_::_,h=>by simp[BU] at h
 |_::_,[],h=>by simp[BU] at h
 |a::x,b::y,h=>by
  simp only[BU,Bool.and_eq_true] at h
  rw[Be h.1,GW h.2]
def La:List (AV×AV×Nat)->List (AV×AV×Nat)->Bool
 |[],[]=>true
 |(a,b,n)::x,(a',b',n')::y=>eC a a'&&eC b b'&&Nat.beq n n'&&La x y
 |_,_=>false
theorem Tb: ∀{a b:List (AV×AV×Nat)},La a b=true->a=b
 |[],[],_=>rfl
 |[],_::_,h=>by simp[La] at h
 |_::_,[],h=>by simp[La] at h
 |(a,b,n)::x,(a',b',n')::y,h=>by
  simp only[La,Bool.and_eq_true] at h
  obtain ⟨⟨⟨h1,h2⟩,h3⟩,h4⟩:=h
  rw[Be h1,Be h2,Nat.eq_of_beq_eq_true h3,Tb h4]
def adL:AB->AB->Bool
 | .cells cs fz,.cells je fz'=>BU cs je&&Nat.beq fz fz'
 | .map es c,.map es' c'=>La es es'&&Nat.beq c c'
 | .jM s p,.jM s' p'=>gK s s'&&Nat.beq p p'
 | .typed t cs,.typed t' je=>BU cs je&&Nat.beq t t'
 |_,_=>false
theorem agS {a b:AB} (h:adL a b=true):a=b:=by
 unfold adL at h
 split at h<;>(try simp only[Bool.and_eq_true] at h)
 . rw[GW h.1,Nat.eq_of_beq_eq_true h.2]
 . rw[Tb h.1,Nat.eq_of_beq_eq_true h.2]
 . rw[lS.1 h.1,Nat.eq_of_beq_eq_true h.2]
 . rw[GW h.1,Nat.eq_of_beq_eq_true h.2]
 . cases h
def hasAll (h:T AB):List (Pos×AB)->Bool
 |[]=>true
 |  (b,x)::l=>(match h.get b with
    |some y=>adL y x
    |none=>false)&&hasAll h l
theorem Oi {h:T AB}: ∀{l:List (Pos×AB)},hasAll h l=true-> ∀b x,(b,x)∈l->h.get b=some x
 |[],_,b,x,hm=>by cases hm
 |(b0,x0)::l,hh,b,x,hm=>by
  simp only[hasAll,Bool.and_eq_true] at hh
  rcases List.mem_cons.1 hm with hm|hm
  . cases hm
    have h1:=hh.1
    split at h1<;>first|(cases h1;done)|skip
    rename_i y hy
    rw[hy,agS h1]
  . exact Oi hh.2 b x hm
theorem GX: ∀{l:List (Pos×AB)} {h:T AB} {b:Pos} {x:AB},(jN l h).get b=some x->(b,x)∈l\/(h.get b=some x/\ ∀y∈l,y.1≠b)
 |[],h,b,x,hb=> .inr ⟨hb,fun y hy=>by cases hy⟩
 |(b0,x0)::l,h,b,x,hb=>by
  unfold jN at hb
  by_cases e:b0=b
  . subst e
    rw[T.fq] at hb
    simp only[Option.some.injEq] at hb;subst hb
    exact .inl (List.mem_cons_self ..)
  . rw[T.bK _ e] at hb
    rcases GX hb with h1|⟨h1,h2⟩
    .   exact .inl (List.mem_cons_of_mem _ h1)
    .   refine .inr ⟨h1,fun y hy=> ?_⟩
        rcases List.mem_cons.1 hy with rfl|hy
        . exact e
        . exact h2 y hy
structure Lit where
 args:List AV
 n0:Pos
 L0:List (Pos×AB)
 v:AV
 n1:Pos
 L1:List (Pos×AB)
def Uk (l m:List (Pos×AB)):Bool:=l.all fun x=>m.any fun y=>Pos.beq x.1 y.1
def Lb (t:Lit):List AV->St->Option (AV×St):=fun args st=>
 match BU args t.args&&Pos.beq st.next t.n0&&hasAll st.heap t.L0 with
 |true=>some (t.v,{ heap:=jN t.L1 st.heap,next:=t.n1 })
 |false=>none
noncomputable def Ul (t:Lit) (O:dQ) (G:T cL) (m d f:Nat):Bool:=
 Qt (R:=Bool) false O G m d f t.args { heap:=jN t.L0 .e,next:=t.n0 } fun v st=>eC v t.v&&Pos.beq st.next t.n1&&hasAll st.heap t.L1
theorem ZS {P:Program} {C:Cells} {t:Lit} {O:dQ} {G:T cL} {m d f:Nat} (gw:jS P C (od O G m d)) (adI:kR (od O G m d))
   (hk:Uk t.L0 t.L1=true) (h:Ul t O G m d f=true):xM P C f (Lb t):=by
 unfold Ul at h
 rw[K7 false O G m d] at h
 unfold vQ at h
 split at h<;>first|(cases h;done)|skip
 rename_i x hx
 obtain ⟨v,bk⟩:=x
 simp only[Bool.and_eq_true] at h
 obtain ⟨⟨h1,h2⟩,h3⟩:=h
 have h1:=Be h1
 have h2:=Pos.beq_eq.1 h2
 subst h1
 have unf: ∀args st v' st',Lb t args st=some (v',st')->args=t.args/\st.next=t.n0/\hasAll st.heap t.L0=true/\v'=t.v/\st'={ heap:=jN t.L1 st.heap,next:=t.n1 }:=by
   intro args st v' st' hs
   unfold Lb at hs
   split at hs<;>first|(cases hs;done)|skip
   rename_i hc
   simp only[Bool.and_eq_true] at hc
   simp only[Option.some.injEq,Prod.mk.injEq] at hs
   exact ⟨GW hc.1.1,Pos.beq_eq.1 hc.1.2,hc.2,hs.1.symm,hs.2.symm⟩
 refine ⟨fun args st v' st' hs=> ?_,fun ρ st w args v' st' bQ hs hW hv=> ?_⟩
 . obtain ⟨rfl,g2,g3,rfl,rfl⟩:=unf _ _ _ _ hs
   have:=adI _ _ _ _ _ hx
   rw[g2, <-h2];exact this
 . obtain ⟨ rfl,g2,g3,rfl,rfl⟩:=unf _ _ _ _ hs
   have uk: ∀b y,(jN t.L0 T.e).get b=some y->st.heap.get b=some y:=fun b y hb=>by
    rcases GX hb with hb|⟨hb,_⟩
    .   exact Oi g3 b y hb
    .   rw[T.cX] at hb;cases hb
   have um:od O G m d f t.args { heap:=jN t.L0 .e,next:=st.next }=some (t.v,bk):=by rw[g2];exact hx
   refine Reaches.mono (fun x w' hp=> ?_) (gw ρ _ w f t.args t.v bk bQ um (hW.sub uk) hv)
   have:=   hp.frame hW uk (h2:=jN t.L1 st.heap) fun b y hb=>by
    rcases GX hb with hb|⟨hb,mb⟩
    .   exact .inl (Oi h3 b y hb)
    .   refine .inr ⟨hb,?_⟩
        cases hg:(jN t.L0 T.e).get b with
        |none=>rfl
        |some u=>
         exfalso
         rcases GX hg with hg|⟨hg,_⟩
         .  unfold Uk at hk
            rw[List.all_eq_true] at hk
            have:=hk _ hg
            rw[List.any_eq_true] at this
            obtain ⟨y',hy',he⟩:=this
            exact mb y' hy' (Pos.beq_eq.1 he).symm
         .  rw[T.cX] at hg;cases hg
   rw[h2] at this
   exact this
end
section
open Go
def Um (s t:List AV->St->Option (AV×St)):List AV->St->Option (AV×St):=fun args st=>match s args st with
 |some r=>some r
 |none=>t args st
theorem ZT {P:Program} {C:Cells} {f:FuncId} {s t:List AV->St->Option (AV×St)} (hs:xM P C f s) (ht:xM P C f t):xM P C f (Um s t) where
 mono args st v st' h:=by
  unfold Um at h
  split at h
  . rename_i r hr
    simp only[Option.some.injEq] at h;subst h
    exact hs.mono _ _ _ _ hr
  . exact ht.mono _ _ _ _ h
 runs ρ st w args v st' bQ h hW hv:=by
  unfold Um at h
  split at h
  . rename_i r hr
    simp only[Option.some.injEq] at h;subst h
    exact hs.runs ρ st w args v st' bQ hr hW hv
  . exact ht.runs ρ st w args v st' bQ h hW hv
end
end Go.Ai
