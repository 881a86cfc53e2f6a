/- Its calls answer as the model does. -/
import Derived.Test.YtlkadmkojjceiaaGreatDoorWEvalC
import Derived.Lib.Bytealg
set_option linter.all false
namespace Go.Ai
section
open Go Go.RowKit
theorem AS{a b:AV}(h:gq a b=true):a=b:=by
 unfold gq at h;split at h<;>(try simp only[Za8,Zf0]at h)<;>try rfl
 .rw[beq_iff_eq.1 h]
 .rename_i k i k' i';have h2:=h.2;rw[kj]at h2;rw[u0 h.1,beq_iff_eq.1 h2]
 .rw[kD.1 h]
 .rw[Pos.beq_eq.1 h.1,Za2 h.2]
 .obtain⟨⟨⟨h1,h2⟩,h3⟩,h4⟩:=h;rw[Pos.beq_eq.1 h1,Za2 h2,Za2 h3,Za2 h4]
 .obtain⟨⟨⟨⟨h1,h2⟩,h3⟩,h4⟩,h5⟩:=h;rw[Pos.beq_eq.1 h1,Za2 h2,Za2 h3,Za2 h4,Za2 h5]
 .rw[Pos.beq_eq.1 h]
theorem DD:∀{a b:List AV},uH a b=true->a=b
 |[],[],_=>rfl
 |[],_::_,h=>by simp[uH]at h
 |_::_,[],h=>by simp[uH]at h
 |a::x,b::y,h=>by
  simp only[uH,Za8]at h;rw[AS h.1,DD h.2]
theorem S9{f:AV->AV->Bool}(hf:∀{a b},f a b=true->a=b):∀{a b:List AV},CP f a b=true->a=b
 |[],[],_=>rfl
 |[],_::_,h=>by simp[CP]at h
 |_::_,[],h=>by simp[CP]at h
 |a::x,b::y,h=>by
  simp only[CP,Za8]at h;rw[hf h.1,S9 hf h.2]
theorem Nx{f:AV->AV->Bool}(hf:∀{a b},f a b=true->a=b):∀{a b:List (List AV)},uZ f a b=true->a=b
 |[],[],_=>rfl
 |[],_::_,h=>by simp[uZ]at h
 |_::_,[],h=>by simp[uZ]at h
 |a::x,b::y,h=>by
  simp only[uZ,Za8]at h;rw[S9 hf h.1,Nx hf h.2]
theorem Ta:∀{d:Nat}{a b:AV},CQ d a b=true->a=b
 |0,_,_,h=>by unfold CQ at h;exact AS h
 |d +1,a,b,h=>by
  unfold CQ at h;split at h
  .rename_i heq;cases heq;simp only[Za8]at h;rw[Nx (λh=>Ta h) h.1,Za2 h.2]
  .exact AS h
theorem Ny{a b:AV}(h:kO a b=true):a=b:=by
 unfold kO at h;split at h
 .simp only[Za8]at h;rw[Za2 h.1.1,DD h.1.2,DD h.2]
 .exact Ta h
 .exact AS h
theorem yW:∀{a b:List AV},q7 a b=true->a=b
 |[],[],_=>rfl
 |[],_::_,h=>by simp[q7]at h
 |_::_,[],h=>by simp[q7]at h
 |a::x,b::y,h=>by
  simp only[q7,Za8]at h;rw[Ny h.1,yW h.2]
theorem pg{a b:AV}(h:e9 a b=true):a=b:=by
 unfold e9 at h;split at h
 .rw[yW h]
 .rw[yW h]
 .exact Ny h
theorem abq {k:ay}{H H':Pos->Option AB}{n n':Pos}{xs:List AV}{v:AV}(h:k.run H n xs=some (.val v))(hm:∀b x,H b=some x->H' b=some x):
  k.run H' n' xs=some (.val v):=by
 cases k<;>simp only[ay.run]at h ⊢ <;>try exact h
 case alloc z=>unfold Fs at h;split at h<;>cases h
 case box=>unfold MY at h;split at h<;>cases h
 case buildSlice es len z p=>unfold pW at h;dsimp only at h;split at h<;>cases h
 case mkMap=>unfold Fv at h;cases h
 case mkSlice es b z=>
  unfold vO at h
  repeat' split at h
  all_goals cases h
 case rangeS=>
  unfold CN at h
  repeat' split at h
  all_goals cases h
 case store m=>
  unfold Bi at h
  repeat' split at h
  all_goals cases h
 case mapSet pk=>
  unfold uX at h
  repeat' split at h
  all_goals cases h
 case load m=>
  unfold sg at h ⊢;split at h<;>first|(cases h;done)|skip
  split at h<;>first|(cases h;done)|skip
  . split at h<;>first|(cases h;done)|skip
    .   rename_i cs fz hb;simp only[hm _ _ hb];exact h
    .   rename_i t0 cs hb;simp only[hm _ _ hb];exact h
  .exact h
 case conv c=>
  unfold uV at h ⊢;split at h<;>first|(cases h;done)|skip
  split at h<;>first|(cases h;done)|exact h|skip
  rename_i b off m _ _;cases hb:Nat.beq m 0 with
  |true=>simp only[hb]at h ⊢; exact h
  | false=>
    simp only[hb]at h ⊢;cases hH:H b with
    |none=>simp[hH]at h
    |some x=>simp only[hH]at h;simp only[hm _ _ hH];exact h
 case lookup pk z ok=>
  unfold uW at h ⊢;split at h<;>first|(cases h;done)|skip
  rename_i m k';cases m<;>try exact h
  rename_i b;cases hb:H b with
  |none=>simp[hb]at h
  | some x=>
    simp only[hb]at h;simp only[hm _ _ hb];exact h
 case lenB lk=>
  unfold Ee at h ⊢;split at h<;>first|(cases h;done)|skip
  split at h<;>first|(cases h;done)|exact h|skip
  split at h<;>first|(cases h;done)|skip
  rename_i es c hb;simp only[hm _ _ hb];exact h
 case nextS=>
  unfold Fw at h ⊢;split at h<;>first|(cases h;done)|skip
  split at h<;>first|(cases h;done)|skip
  split at h<;>first|(cases h;done)|skip
  rename_i s pos hb;simp only[hm _ _ hb];split at h
  .rename_i aN;split at h<;>cases h
  .rename_i aN;exact h
 case allocT t z=>
  unfold CO at h;split at h<;>cases h
 case appendT e bytes=>
  unfold sk at h ⊢;split at h<;>first|(cases h;done)|skip
  split at h<;>first|(cases h;done)|skip
  split at h<;>first|(cases h;done)|skip
  . (split at h<;>first|(cases h;done)|skip);split at h<;>first|(cases h;done)|exact h
  . (split at h<;>first|(cases h;done)|skip);split at h
    .   exact h
    .   repeat' split at h
        all_goals cases h
 case toU=>
  unfold MZ at h ⊢;split at h<;>first|(cases h;done)|skip
  split at h<;>first|(cases h;done)|exact h|skip
  split at h<;>first|(cases h;done)|skip
  rename_i t0 cs hb;simp only[hm _ _ hb];exact h
 case fromU u m=>
  unfold Fx at h ⊢;split at h<;>first|(cases h;done)|skip
  split at h<;>first|(cases h;done)|exact h|skip
  split at h<;>first|(cases h;done)|skip
  rename_i t0 cs hb;simp only[hm _ _ hb];exact h
 case unsafeStr e=>
  unfold nY at h ⊢;split at h<;>first|(cases h;done)|skip
  split at h<;>first|(cases h;done)|skip
  split at h
  .exact h
  . repeat' split at h
    all_goals cases h
 case clearS es z=>
  unfold uY at h ⊢;split at h<;>first|(cases h;done)|skip
  split at h<;>first|(cases h;done)|exact h|skip
  rename_i b off m _ _;cases hb:Nat.beq m 0 with
  |true=>simp only[hb]at h ⊢; exact h
  | false=>
    simp only[hb]at h
    repeat' split at h
    all_goals cases h
 case copyB es=>
  unfold yp at h ⊢;split at h<;>first|(cases h;done)|skip
  rename_i d x;cases hd:cZ d with
  |none=>simp[hd]at h
  | some m1=>
    cases hx:cZ x with
    |none=>simp[hd,hx]at h
    |   some m2=>
        simp only[hd,hx]at h ⊢;cases hb:Nat.beq (min m2 m1) 0 with
        |true=>simp only[hb]at h ⊢; exact h
        |false=>
         simp only[hb]at h;(split at h<;>first|(cases h;done)|skip);(split at h<;>first|(cases h;done)|skip);split at h<;>cases h
 case append es bytes=>
  unfold fN at h ⊢;split at h<;>first|(cases h;done)|skip
  rename_i s x;cases hd:cZ s with
  |none=>simp[hd]at h
  | some m1  =>
    cases hx:cZ x with
    |none=>simp[hd,hx]at h
    |   some m2=>
        simp only[hd,hx]at h ⊢;cases h1:Nat.ble ((2*(m1+m2)+768)*bytes) 281474976710656 with
        |false=>simp[h1]at h
        |true=>
         cases h2:Nat.ble (m1+m2) 9223372036854775807 with
         |false=>simp[h1,h2]at h
         |  true=>
            simp only[h1,h2]at h ⊢;cases hb:Nat.beq m2 0 with
            |true=>
             simp only[hb]at h ⊢;split at h<;>first|(cases h;done)|exact h|skip
             all_goals (simp_all;done)
            |false=>
             simp only[hb]at h
             repeat' split at h
             all_goals first
               |(rename_i e;cases e;done)
               |(rename_i e _;cases e;done)
               |(cases h;done)
               |simp_all
inductive uL(n:Pos):AV->AB->Prop where
 |ptr (cs:List AV):uL n (.ptr n 0) (.cells cs 0)
 |jq (s:List Nat):uL n (.ptr n 0) (.jq s 0)
 |slice (len es:Nat) (cap:Option Nat) (cs:List AV) (h:len=0->cap=none\/cap=some 0->cs=[]):uL n (.slice n 0 len cap es) (.cells cs 0)
 |map:uL n (.map n) (.map [] 0)
 |ptrT (t:TypeId) (cs:List AV):uL n (.ptr n 0) (.typed t cs)
 |ZI (len:Nat) (t:TypeId) (cs:List AV) (h:len≠0):uL n (.slice n 0 len none 1) (.typed t cs)
theorem QD:∀{ps:List (Nat×Nat)}{xs cs:List AV},bY [] ps xs=some cs->cs=[]
 |[],[],cs,h=>by simp[bY]at h;exact h.symm ▸rfl
 |[],_::_,cs,h=>by simp[bY]at h
 |_::_,[],cs,h=>by simp[bY]at h
 |(off,size)::ps,v::vs,cs,h=>by
  unfold bY at h;split at h<;>first|(cases h;done)|skip
  rename_i h1 h2;have h1:=Za2 h1;have h2:=Za4 h2;have h3:v.cells=[]:=by apply Zb1;simp at h2;omega
  rw[h3]at h;have h4:aH ([]:List AV) off []=[]:=by simp[aH]
  rw[h4]at h;exact QD h
theorem adu {k : ay}{n:Pos}{xs:List AV}{v:AV}{av:AB}(h:k.run (λ_=>none) n xs=some (.aE v none none (some av))):uL n v av:=by
 cases k<;>simp only[ay.run]at h
 case alloc z=>unfold Fs at h;split at h<;>cases h;exact .ptr _
 case allocT t z=>unfold CO at h;split at h<;>cases h;exact .ptrT _ _
 case appendT e bytes=>
  unfold sk at h;split at h<;>first|(cases h;done)|skip
  split at h<;>first|(cases h;done)|skip
  split at h<;>first|(cases h;done)|skip
  . (split at h<;>first|(cases h;done)|skip);split at h<;>cases h;rename_i hb;exact .ZI _ _ _ (by have:=Zb7 hb;omega)
  . split at h<;>first|(cases h;done)|skip
    repeat' split at h
    all_goals cases h
 case toU=>   unfold MZ at h;repeat' split at h
              all_goals cases h
 case fromU=>   unfold Fx at h;repeat' split at h
                all_goals cases h
 case sliceData=>   unfold qZ at h;repeat' split at h
                    all_goals cases h
 case unsafeStr=>   unfold nY at h;repeat' split at h
                    all_goals cases h
 case box=>unfold MY at h;split at h<;>cases h;exact .ptr _
 case buildSlice es len z p=>
  unfold pW at h;dsimp only at h;split at h<;>cases h;rename_i cs hc;refine .slice _ _ _ _ λh0 _=> ?_
  subst h0;exact QD hc
 case mkMap=>unfold Fv at h;cases h;exact .map
 case mkSlice es b z=>
  unfold vO at h
  repeat' split at h
  all_goals cases h
  refine .slice _ _ _ _ λ_ h1=> ?_
  rcases h1 with h1|h1
  .cases h1
  .simp only[H0]at h1;subst h1;rfl
 case rangeS=>
  unfold CN at h
  repeat' split at h
  all_goals cases h
  exact .jq _
 case conv c=>
  unfold uV at h
  repeat' split at h
  all_goals cases h
  rename_i s;refine .slice _ _ _ _ λh0 _=> ?_
  rw[Zb1 h0];rfl
 case append es bytes=>
  unfold fN at h
  repeat' split at h
  all_goals cases h
  all_goals refine .slice _ _ _ _ λh0 _=> ?_
  all_goals (exfalso;rename_i hb _ _;simp_all)
 case move=>unfold J1 at h;split at h<;>cases h
 case pick=>   unfold OU at h;repeat' split at h
               all_goals cases h
 case build=>unfold Ft at h;dsimp only at h;split at h<;>cases h
 case load=>   unfold sg at h;repeat' split at h
               all_goals cases h
 case store=>   unfold Bi at h;repeat' split at h
                all_goals cases h
 case nilCheck=>   unfold Dv at h;repeat' split at h
                   all_goals cases h
 case bin=>   unfold gF at h;repeat' split at h
              all_goals cases h
 case un=>   unfold Xm at h;repeat' split at h
             all_goals cases h
 case mkIface=>   unfold Fu at h;repeat' split at h
                  all_goals cases h
 case mkFunc=>unfold CM at h;dsimp only at h;cases h
 case lookup=>
  unfold uW at h;split at h<;>first|(cases h;done)|skip
  dsimp only at h;split at h<;>cases h
 case mapSet=>   unfold uX at h;repeat' split at h
                 all_goals cases h
 case sliceS=>
  unfold Ik at h;split at h<;>first|(cases h;done)|skip
  split at h<;>first|(cases h;done)|skip
  dsimp only at h;split at h<;>cases h
 case sliceL=>   unfold oI at h;repeat' split at h
                 all_goals cases h
 case fieldA=>   unfold Il at h;repeat' split at h
                 all_goals cases h
 case idxA=>   unfold mK at h;repeat' split at h
               all_goals cases h
 case field=>   unfold LM at h;repeat' split at h
                all_goals cases h
 case idxS=>   unfold J2 at h;repeat' split at h
               all_goals cases h
 case extract=>   unfold AP at h;repeat' split at h
                  all_goals cases h
 case callF=>unfold LN at h;dsimp only at h;cases h
 case callV=>   unfold LO at h;repeat' split at h
                all_goals cases h
 case lenB=>   unfold Ee at h;repeat' split at h
               all_goals cases h
 case copyB=>
  unfold yp at h;split at h<;>first|(cases h;done)|skip
  split at h<;>first|(cases h;done)|skip
  dsimp only at h
  repeat' split at h
  all_goals cases h
 case minB=>   unfold A8 at h;repeat' split at h
               all_goals cases h
 case maxB=>   unfold A9 at h;repeat' split at h
               all_goals cases h
 case clearS=>   unfold uY at h;repeat' split at h
                 all_goals cases h
 case nextS=>   unfold Fw at h;repeat' split at h
                all_goals cases h
 case capB=>cases h
 case bad=>cases h
end
section
def l7(call:ai):Prop:=∀f args st v st',call f args st=some (v,st')->st.next.toNat<=st'.next.toNat
section
variable{call:ai}
theorem FM(hm:l7 call){k:ay}{xs:List AV}{st st':St}{v:AV}(h:bF call k xs st=some (v,st')):st.next.toNat<=st'.next.toNat:=by
 unfold bF at h;split at h
 .simp only[H0,Zb3]at h;rw[h.2];exact Za5 _
 .simp only[H0,Zb3]at h;rw[<-h.2];exact St.SY _ _ _ _
 .exact hm _ _ _ _ _ h
 .cases h
theorem Iy(hm:l7 call):∀(os:List bk)(fr aY:Fr)(st st':St),iW call os fr st=some (aY,st')->st.next.toNat<=st'.next.toNat
 |[],fr,aY,st,st',h=>by simp only[iW,H0,Zb3]at h;rw[h.2];exact Za5 _
 |o ::os,fr,aY,st,st',h=>by
  unfold iW at h;split at h
  . (split at h<;>first|(cases h;done)|skip);(split at h<;>first|(cases h;done)|skip);rename_i hs;exact Zc8 (FM hm hs) (Iy hm os _ _ _ _ h)
  .exact Iy hm os _ _ _ _ h
  .cases h
theorem sy(hm:l7 call):∀(os:List (Nat×bk))(recs:List Rec)(base:T AB)(fr aY:Fr)(st st':St),cL call os recs base fr st=some (aY,st')->st.next.toNat<=st'.next.toNat
 |[],recs,base,fr,aY,st,st',h=>by simp only[cL,H0,Zb3]at h;rw[h.2];exact Za5 _
 |(j,   o)::os,recs,base,fr,aY,st,st',h=>by
  have hs:st.next.toNat<=st.next.succ.toNat:=by rw[Pos.aB];omega
  unfold cL at h;split at h
  .exact sy hm os _ _ _ _ _ _ h
  . (split at h<;>first|(cases h;done)|skip);split at h
    .   (split at h<;>first|(cases h;done)|skip);exact Zc8 hs (sy hm os _ _ _ _ _ _ h)
    .   (split at h<;>first|(cases h;done)|skip);rename_i hs;exact Zc8 (FM hm hs) (sy hm os _ _ _ _ _ _ h)
    .   split at h
        .exact sy hm os _ _ _ _ _ _ h
        . (split at h<;>first|(cases h;done)|skip);(split at h<;>first|(cases h;done)|skip);exact sy hm os _ _ _ _ _ _ h
  .cases h
theorem CY(hm:l7 call):∀(m:Nat)(c:AC)(fr aY:Fr)(st st':St)(ex:js),exec call m c fr st=some (ex,aY,st')->st.next.toNat<=st'.next.toNat
 |0,c,fr,aY,st,st',ex,h=>by simp[exec]at h
 |m +   1,c,fr,aY,st,st',ex,h=>by
  have ih:=CY hm m;simp only[exec]at h;unfold aZ at h;split at h
  .simp only[H0,Zb3]at h;rw[h.2.2];exact Za5 _
  . (split at h<;>first|(cases h;done)|skip);rename_i hs;simp only[H0,Zb3]at h;rw[<-h.2.2];exact Iy hm _ _ _ _ _ hs
  . (split at h<;>first|(cases h;done)|skip);rename_i hs;simp only[H0,Zb3]at h;rw[<-h.2.2];exact sy hm _ _ _ _ _ _ _ hs
  . split at h
    .   rename_i hs;exact Zc8 (ih _ _ _ _ _ _ hs) (ih _ _ _ _ _ _ h)
    .   exact ih _ _ _ _ _ _ h
  .split at h<;>first|(cases h;done)|exact ih _ _ _ _ _ _ h
  . split at h
    .   rename_i hs;split at h<;>(simp only[H0,Zb3]at h;rw[<-h.2.2];exact ih _ _ _ _ _ _ hs)
    .   exact ih _ _ _ _ _ _ h
  . split at h
    .   rename_i hs;exact Zc8 (ih _ _ _ _ _ _ hs) (ih _ _ _ _ _ _ h)
    .   exact ih _ _ _ _ _ _ h
  .simp only[H0,Zb3]at h;rw[h.2.2];exact Za5 _
  .simp only[H0,Zb3]at h;rw[h.2.2];exact Za5 _
def kC(O:dZ):Prop:=∀f s,O f=some s->∀args st v st',s args st=some (v,st')->st.next.toNat<=st'.next.toNat
theorem FN{O:dZ}{G:T cE}(hO:kC O)(m:Nat):∀d,l7 (oX O G m d)
 |0=>λf args st v st' h=>by simp[oX]at h
 |d +   1=>λf args st v st' h=>by
  have ih:=FN (G:=G) hO m d;unfold oX at h;split at h
  .rename_i s hs;exact hO f s hs args st v st' h
  . (split at h<;>first|(cases h;done)|skip);(split at h<;>first|(cases h;done)|skip);split at h<;>first|(cases h;done)|skip
    .   rename_i hs;(split at h<;>first|(cases h;done)|skip);simp only[H0,Zb3]at h;rw[<-h.2];exact CY ih _ _ _ _ _ _ _ hs
    .   rename_i hs;(split at h<;>first|(cases h;done)|skip);simp only[H0,Zb3]at h;rw[<-h.2];exact CY ih _ _ _ _ _ _ _ hs
end
def l9(bP:Fr):List Rec->Fr
 |[]=>bP
 |r::R=>cM (l9 bP R) r.o.dst r.v
def cS(n0:Pos):List Rec->Pos
 |[]=>n0
 |r::_=>r.nx
def RC.k9:RC->Bool
 |.aE _ _=>true
 |_=>false
def iH(h0:T AB):List Rec->T AB
 |[]=>h0
 |  r::R=>match r.c with
    |.aE _ h=>h
    |_=>iH h0 R
def iI(h0:T AB):List Rec->T AB
 |[]=>h0
 |  r::R=>match r.c with
    |.aE _ h=>h
    |.new id av=>(iI h0 R).put (some av) id
    |.pure=>iI h0 R
def CZ:List Rec->Prop
 |[]=>True
 |r::_=>r.c.k9=true
def Tb(h0:T AB)(R:List Rec)(o:bk)(xs:List AV)(v:AV):Prop:=
 ∀  A B,R=A++B->CZ B->(∀r∈A,r.c.k9=true->o.bC.testBit r.idx=false)->
    ∃h:T AB,(∀b x,h.get b=some x->(iH h0 B).get b=some x\/∃r∈A,r.c= .new b x/\o.bC.testBit r.idx=true)/\o.k.run (λb=>h.get b) .h xs=some (.val v)
inductive n7(call:ai)(bP:Fr)(h0:T AB)(n0:Pos):Rec->List Rec->Prop where
 |skip (i:Nat) (o:bk) (R:List Rec) (hw:bI (l9 bP R) o.guard=some false):
  n7 call bP h0 n0 { idx:=i,o:=o,v:= .undef,c:= .pure,nx:=cS n0 R } R
 |pure (i:Nat) (o:bk) (v:AV) (xs:List AV) (R:List Rec) (hw:bI (l9 bP R) o.guard=some true) (hx:dV (l9 bP R) o.xs=some xs) (hr:Tb h0 R o xs v):
  n7 call bP h0 n0 { idx:=i,o:=o,v:=v,c:= .pure,nx:=cS n0 R } R
 |new (i:Nat) (o:bk) (v:AV) (av:AB) (xs:List AV) (R:List Rec) (hw:bI (l9 bP R) o.guard=some true) (hx:dV (l9 bP R) o.xs=some xs)
  (hr:o.k.run (λ_=>none) (cS n0 R) xs=some (.aE v none none (some av))):
  n7 call bP h0 n0 { idx:=i,o:=o,v:=v,c:= .new (cS n0 R) av,nx:=(cS n0 R).succ } R
 |aE (i:Nat) (o:bk) (v:AV) (st':St) (xs:List AV) (R:List Rec) (hc:o.cls= .aE) (hw:bI (l9 bP R) o.guard=some true) (hx:dV (l9 bP R) o.xs=some xs)
  (hr:bF call o.k xs { heap:=iI h0 R,next:=cS n0 R }=some (v,st')):
  n7 call bP h0 n0 { idx:=i,o:=o,v:=v,c:= .aE (iH h0 R) st'.heap,nx:=st'.next } R
def Good(call:ai)(bP:Fr)(h0:T AB)(n0:Pos):List Rec->Prop
 |[]=>True
 |r::R=>n7 call bP h0 n0 r R/\Good call bP h0 n0 R
section
variable{call:ai}{bP:Fr}{h0:T AB}{n0:Pos}
theorem Good.tail:∀{A B:List Rec},Good call bP h0 n0 (A++B)->Good call bP h0 n0 B
 |[],_,h=>h
 |_::_,_,h=>Good.tail h.2
theorem Good.at{A B:List Rec}{r:Rec}(h:Good call bP h0 n0 (A++r::B)):n7 call bP h0 n0 r B:=(Good.tail h).1
theorem FO:∀{A B:List Rec},(∀r∈A,r.c.k9=false)->iH h0 (A++B)=iH h0 B
 |[],_,_=>rfl
 |r::A,B,h=>by
  have h1:=h r (Zc3 ..);have ih:=FO (A:=A) (B:=B) λr hr=>h r (Za7 _ hr)
  simp only[Ze8,iH];split
  .rename_i hc;rw[hc]at h1;cases h1
  .exact ih
theorem L4{bC:Nat}:∀{A B:List Rec}{h:T AB}{b:Pos}{x:AB},(∀r∈A,r.c.k9=false)->CZ B->(snap bC h (A++B)).get b=some x->
  h.get b=some x\/∃r∈A,r.c= .new b x/\bC.testBit r.idx=true
 |[],B,h,b,x,_,hB,hs=>by
  cases B with
  |nil=>exact .inl hs
  | cons r B=>
    simp only[CZ]at hB;simp only[Zg9,snap]at hs;(cases hc:r.c<;>rw[hc]at hB<;>first|(cases hB;done)|skip);rw[hc]at hs;exact .inl hs
 |r ::A   ,B,h,b,x,hA,hB,hs=>by
  have ih:=@L4 bC A B h b x (λr hr=>hA r (Za7 _ hr)) hB;have up:(h.get b=some x\/∃r∈A,r.c= .new b x/\bC.testBit r.idx=true)->h.get b=some x\/∃r'∈r::A,r'.c= .new b x/\bC.testBit r'.idx=true:=λh1=>
    h1.imp id λ⟨r',h2,h3⟩=>⟨r',Za7 _ h2,h3⟩
  simp only[Ze8,snap]at hs;cases hc:r.c with
  |pure=>rw[hc]at hs;exact up (ih hs)
  |aE b1 h1=>have:=hA r (Zc3 ..);rw[hc]at this;cases this
  | new   id av=>
    rw[hc]at hs;cases ht:bC.testBit r.idx with
    |false=>simp only[ht]at hs;exact up (ih hs)
    |   true=>
        simp only[ht]at hs;by_cases Nz:id=b
        .subst Nz;rw[T.eF]at hs;simp only[H0]at hs;subst hs;exact .inr ⟨r,Zc3 ..,hc,ht⟩
        .rw[T.bw _ Nz]at hs;exact up (ih hs)
theorem QE:∀{up:List (Pos×AB)}{h:T AB}{b:Pos}{x:AB},(yV up h).get b=some x->h.get b=some x\/(b,x)∈up
 |[],_,_,_,h=>.inl h
 |(id,av)::up,h,b,x,hs=>by
  unfold yV at hs;by_cases Nz:id=b
  .subst Nz;rw[T.eF]at hs;simp only[H0]at hs;subst hs;exact .inr (Zc3 ..)
  .rw[T.bw _ Nz]at hs;exact(QE hs).imp (λh=>h) λh=>Za7 _ h
theorem FP:∀(A:List Rec),(∀r∈A,r.c.k9=false)\/∃r∈A,r.c.k9=true
 |[]=>.inl λr h=>by cases h
 |r::A=>by
  cases hr:r.c.k9 with
  |true=>exact .inr ⟨r,Zc3 ..,hr⟩
  |false=>
   rcases FP A with h|⟨r',h1,h2⟩
   . exact .inl λr' pZ=>by
      rcases Zb0.1 pZ with rfl|h'
      .exact hr
      .exact h r' h'
   .exact .inr ⟨r',Za7 _ h1,h2⟩
theorem Ht{bC:Nat}{k:ay}{xs:List AV}{v:AV}:∀(A B:List Rec)(up:List (Pos×AB)),kg bC k xs v up (A++B)=true->Good call bP h0 n0 (A++B)->CZ B->
  (∀r∈A,r.c.k9=true->bC.testBit r.idx=false)->(∃r∈A,r.c.k9=true)->
  ∃h:T AB,(∀b x,h.get b=some x->(iH h0 B).get b=some x\/(∃r∈A,r.c= .new b x/\bC.testBit r.idx=true)\/(b,x)∈up)/\k.run (λb=>h.get b) .h xs=some (.val v)
 |[],B,up,_,_,_,_,he=>by obtain⟨r,hr,_⟩:=he;cases hr
 |r::A    , B,up,C2,hG,hB,hn,he=>by
  have NA:∀r∈A,r.c.k9=true->bC.testBit r.idx=false:=λr' pZ=>hn r' (Za7 _ pZ)
  have ih:=λup (h2:kg bC k xs v up (A++B)=true) h3=>Ht A B up h2 hG.2 hB NA h3
  simp only[Ze8,kg]at C2;cases hc:r.c with
  |pure=>
   rw[hc]at C2;have ku:∃r∈A,r.c.k9=true:=by
        obtain⟨r',h1,h2⟩:=he;rcases Zb0.1 h1 with rfl|h1
        .rw[hc]at h2;cases h2
        .exact⟨r',h1,h2⟩
   obtain⟨h,h1,h2⟩:=ih up C2 ku;exact⟨h,λb x hb=>(h1 b x hb).imp (λh=>h) (Or.imp (λ⟨r',h3,h4⟩=>⟨r',Za7 _ h3,h4⟩) λh=>h),h2⟩
  |new    id av=>
   rw[hc]at C2;have ku:∃r∈A,r.c.k9=true:=by
        obtain⟨r',h1,h2⟩:=he;rcases Zb0.1 h1 with rfl|h1
        .rw[hc]at h2;cases h2
        .exact⟨r',h1,h2⟩
   cases ht:bC.testBit r.idx with
   |    false=>
        simp only[ht]at C2;obtain⟨h,h1,h2⟩:=ih up C2 ku;exact⟨h,λb x hb=>(h1 b x hb).imp (λh=>h) (Or.imp (λ⟨r',h3,h4⟩=>⟨r',Za7 _ h3,h4⟩) λh=>h),h2⟩
   |    true=>
        simp only[ht]at C2;obtain⟨h,h1,h2⟩:=ih _ C2 ku;refine⟨h,λb x hb=> ?_,h2⟩;rcases h1 b x hb with h3|⟨r',h3,h4⟩|h3
        .exact .inl h3
        .exact .inr (.inl ⟨r',Za7 _ h3,h4⟩)
        . rcases Zb0.1 h3 with h3|h3
          .simp only[Zb3]at h3;obtain⟨rfl,rfl⟩:=h3;exact .inr (.inl ⟨r,Zc3 ..,hc,ht⟩)
          .exact .inr (.inr h3)
  |aE base h=>
   rw[hc]at C2;have ht:=hn r (Zc3 ..) (by rw[hc];rfl);simp only[ht,Za8]at C2;rcases FP A with hA|hA
   .    have R7:base=iH h0 B:=(by have hs:=hG.1;(cases hs<;>simp only at hc<;>first|(cases hc;done)|skip);simp only[RC.aE.injEq]at hc;rw[<-hc.1];exact FO hA);have hra:=C2.1;unfold su at hra;(split at hra<;>first|(cases hra;done)|skip);rename_i u hu;rw[pg hra]at hu;refine⟨_,λb x hb=> ?_,hu⟩;rcases QE hb with hb|hb
        . rcases L4 hA hB hb with h3|⟨r',h3,h4⟩
          .rw[<-R7];exact .inl h3
          .exact .inr (.inl ⟨r',Za7 _ h3,h4⟩)
        .exact .inr (.inr hb)
   .    obtain⟨h,h1,h2⟩:=ih up C2.2 hA;exact⟨h,λb x hb=>(h1 b x hb).imp (λh=>h) (Or.imp (λ⟨r',h3,h4⟩=>⟨r',Za7 _ h3,h4⟩) λh=>h),h2⟩
theorem NB:∀(L:List (Nat×bk))(R:List Rec)(fr aY:Fr)(st st':St),cL call L R (iH h0 R) fr st=some (aY,st')->Good call bP h0 n0 R->
  fr=l9 bP R->st.heap=iI h0 R->st.next=cS n0 R->
  ∃R',Good call bP h0 n0 (R'++R)/\(R'.map λr=>(r.idx,r.o))=L.reverse/\aY=l9 bP (R'++R)/\st'.heap=iI h0 (R'++R)/\st'.next=cS n0 (R'++R)
 |[],R,fr,aY,st,st',h,hG,h1,h2,h3=>by
  simp only[cL,H0,Zb3]at h;obtain⟨rfl,rfl⟩:=h;exact⟨[],hG,rfl,h1,h2,h3⟩
 |(j,   o)::  L,R,fr,aY,st,st',h,hG,h1,h2,h3=>by
  have fin:∀(r:Rec)(aM:St)(bO:Fr),r.idx=j->r.o=o->n7 call bP h0 n0 r R->bO=l9 bP (r::R)->aM.heap=iI h0 (r::R)->aM.next=r.nx->
        cL call L (r::R) (iH h0 (r::R)) bO aM=some (aY,st')->
        ∃R',Good call bP h0 n0 (R'++R)/\(R'.map λr=>(r.idx,r.o))=((j,o)::L).reverse/\aY=l9 bP (R'++R)/\st'.heap=iI h0 (R'++R)/\st'.next=cS n0 (R'++R):=by
    intro r aM bO hj ho hs k1 k2 k3 hd;obtain⟨R',g1,g2,g3,g4,g5⟩:=NB L (r::R) bO aY aM st' hd ⟨hs,hG⟩ k1 k2 k3;have e:R'++r::R=(R'++[r])++R:=(by simp);rw[e]at g1 g3 g4 g5;exact⟨R'++[r],g1,by simp[g2,hj,ho],g3,g4,g5⟩
  unfold cL at h;subst h1;split at h
  .rename_i hw;exact fin _ _ _ rfl rfl (h3 ▸n7.skip j o R hw) rfl h2 rfl h
  . rename_i hw;(split at h<;>first|(cases h;done)|skip);rename_i xs hx;split at h
    .   (split at h<;>first|(cases h;done)|skip);rename_i v av hr;rw[h3]at hr;have hs:=n7.new (call:=call) (bP:=bP) (h0:=h0) (n0:=n0) j o v av xs R hw hx hr;rw[<-h3]at hs;refine fin _ _ _ rfl rfl hs rfl ?_ rfl h;simp only[iI,h2]
    .   rename_i abr;(split at h<;>first|(cases h;done)|skip);rename_i v aM hr;have iY:st={ heap:=iI h0 R,next:=cS n0 R }:=(by cases st;simp_all);rw[iY]at hr;exact fin _ aM _ rfl rfl (n7.aE j o v aM xs R abr hw hx hr) rfl rfl rfl h
    .   split at h
        . rename_i v hr;have QF:Tb h0 R o xs v:=by
           intro A B _ _ _;refine⟨.e,λb x hb=> ?_,?_⟩
           .  rw[T.dm]at hb;cases hb
           .  have e:(λb=>T.get b (T.e:T AB))=λ_=>none:=(by funext b;exact T.dm b);rw[e];exact hr
          exact fin _ _ _ rfl rfl (h3 ▸n7.pure j o v xs R hw hx QF) rfl h2 rfl h
        . (split at h<;>first|(cases h;done)|skip);rename_i v hr;(split at h<;>first|(cases h;done)|skip);rename_i C2;have QF:Tb h0 R o xs v:=by
           intro A B hAB hB hn;subst hAB;rcases FP A with hA|hA
           .  refine⟨_,λb x hb=> ?_,hr⟩;have:=L4 hA hB hb;rw[FO hA]at this;exact this
           .  obtain⟨h,k1,k2⟩:=Ht A B [] C2 hG hB hn hA;exact⟨h,λb x hb=>(k1 b x hb).imp id λh=>h.resolve_right (by simp),k2⟩
          exact fin _ _ _ rfl rfl (h3 ▸n7.pure j o v xs R hw hx QF) rfl h2 rfl h
  .cases h
end
end
section
open Go
structure Late(m:Nat)(pre:List Nat)(L:List (Nat×bk)):Prop where
 all:∀i,i<m->i∈pre\/i∈L.map (·.1)
 lt:∀x∈L,x.1<m
 one:∀A i o B,L=A++(i,o)::B->i∉pre/\i∉A.map (·.1)
 bC:∀A i o B,L=A++(i,o)::B->∀b,o.bC.testBit b=true->b∈pre\/b∈A.map (·.1)
 aE:∀A i o B,L=A++(i,o)::B->o.cls= .aE->∀b,(b∈pre\/b∈A.map (·.1))->o.bC.testBit b=true
 apart:∀A i o B,L=A++(i,o)::B->∀x∈B,x.2.bC.testBit i=true\/Im o x.2=true
theorem K7{m:Nat}:∀(L:List (Nat×bk))(seen:Nat)(pre:List Nat),Eh m seen L=true->(∀b,seen.testBit b=true↔b∈pre)->Late m pre L
 |[],seen,pre,h,hs=>by
  simp only[Eh]at h;have:=Za2 h;refine⟨λi hi=>.inl ((hs i).1 ?_),λx hx=>(by cases hx),λA i o B h=> ?_,λA i o B h=> ?_,λA i o B h=> ?_,λA i o B h=> ?_⟩
  .rw[this,Nat.testBit_two_pow_sub_one];simpa using hi
  all_goals (cases A<;>cases h)
 |(i,   o)::L,seen,pre,h,hs=>by
  simp only[Eh,Za8]at h;obtain⟨⟨⟨⟨⟨h1,h2⟩,h3⟩,h4⟩,h5⟩,h6⟩:=h;have h1:i<m:=Za4 h1;have h2:i∉pre:=λhp=>by rw[(hs i).2 hp]at h2;cases h2
  have h3:=Za2 h3;have hb:∀b,o.bC.testBit b=true->b∈pre:=λb hb=>by rw[<-h3,Nat.testBit_and,Za8]at hb;exact(hs b).1 hb.2
  have he:o.cls= .aE->∀b,b∈pre->o.bC.testBit b=true:=λhc b hp=>by rw[hc]at h4;rw[Za2 h4];exact(hs b).2 hp
  have ih:=K7 L (seen ||| 2 ^ i) (pre++[i]) h6 (λb=>by
    rw[Nat.testBit_or,Nat.testBit_two_pow,Zh0,hs b,Zd6];simp[eq_comm])
  rw[Zd1]at h5;have R9:∀{A:List (Nat×bk)}{j:Nat}{p:bk}{B:List (Nat×bk)},(i,o)::L=A++(j,p)::B->(A=[]/\i=j/\o=p/\L=B)\/∃A',A=(i,o)::A'/\L=A'++(j,p)::B:=by
    intro A j p B hA;cases A with
    |nil=>simp at hA;exact .inl ⟨rfl,hA.1.1,hA.1.2,hA.2⟩
    |cons x A=>simp at hA;exact .inr ⟨A,by rw[hA.1],hA.2⟩
  refine⟨λj hj=> ?_,λx hx=> ?_,λA j p B hA=> ?_,λA j p B hA=> ?_,λA j p B hA=> ?_,λA j p B hA=> ?_⟩
  . rcases ih.all j hj with h|h
    .   rcases Zd6.1 h with h|h
        .exact .inl h
        .simp at h;exact .inr (by simp[h])
    .   exact .inr (by simp only[Zd5,Zb0];exact .inr h)
  . rcases Zb0.1 hx with rfl|hx
    .   exact h1
    .   exact ih.lt x hx
  . rcases R9 hA with⟨rfl,rfl,rfl,rfl⟩|⟨A',rfl,Hu⟩
    .   exact⟨h2,by simp⟩
    .   obtain⟨k1,k2⟩:=ih.one A' j p B Hu;simp only[Zd6,Zd3,not_or]at k1;exact⟨k1.1,by simp only[Zd5,Zb0,not_or];exact⟨k1.2,k2⟩⟩
  . rcases R9 hA with⟨rfl,rfl,rfl,rfl⟩|⟨A',rfl,Hu⟩
    .   exact λb j5=>.inl (hb b j5)
    .   intro b j5;rcases ih.bC A' j p B Hu b j5 with h|h
        . rcases Zd6.1 h with h|h
          .exact .inl h
          .simp at h;exact .inr (by simp[h])
        .exact .inr (by simp only[Zd5,Zb0];exact .inr h)
  . rcases R9 hA with⟨rfl,rfl,rfl,rfl⟩|⟨A',rfl,Hu⟩
    .   intro hc b j5;rcases j5 with h|h
        .exact he hc b h
        .simp at h
    .   intro hc b j5;refine ih.aE A' j p B Hu hc b ?_;rcases j5 with h|h
        .exact .inl (Zd6.2 (.inl h))
        . simp only[Zd5,Zb0]at h;rcases h with rfl|h
          .exact .inl (by simp)
          .exact .inr h
  . rcases R9 hA with⟨rfl,rfl,rfl,rfl⟩|⟨A',rfl,Hu⟩
    .   intro x hx;have:=h5 x hx
        rwa [Zh0]at this
    .   exact ih.apart A' j p B Hu
inductive Reach(ops:Array Oper):Nat->Nat->Prop where
 |edge (i:Nat) (o:Oper) (e:Edge) (ho:ops[i]? =some o) (he:e∈o.after) (hb:Region.binds .any e=true):Reach ops i e.on
 |trans (i:Nat) (o:Oper) (e:Edge) (b:Nat) (ho:ops[i]? =some o) (he:e∈o.after) (hb:Region.binds .any e=true) (h:Reach ops e.on b):Reach ops i b
def XH(ops:Array Oper)(i m:Nat):Prop:=
 (∀o,ops[i]? =some o->∀e∈o.after,Region.binds .any e=true->m.testBit e.on=true)/\∀b,m.testBit b=true->Reach ops i b
theorem O8(acc:List Nat):∀(l:List Edge)(s b:Nat),(l.foldl (λs e=>match Region.binds .any e with
   |true=>s ||| 2 ^ e.on ||| (nth acc e.on).getD 0
   |false=>s) s).testBit b=true↔s.testBit b=true\/∃e∈l,Region.binds .any e=true/\(e.on=b\/((nth acc e.on).getD 0).testBit b=true)
 |[],s,b=>by simp
 |e::l,s,b=>by
  rw[Zp8,O8 acc l];cases he:Region.binds .any e with
  |false=>simp[he]
  |true=>
   simp only[Nat.testBit_or,Zh0,Nat.testBit_two_pow,Zd7,Zb0,exists_eq_or_imp,he,true_and];constructor
   .    rintro(((h|h)|h)|h)
        .exact .inl h
        .exact .inr (.inl (.inl h))
        .exact .inr (.inl (.inr h))
        .exact .inr (.inr h)
   .    rintro(h|(h|h)|h)
        .exact .inl (.inl (.inl h))
        .exact .inl (.inl (.inr h))
        .exact .inl (.inr h)
        .exact .inr h
theorem V9 {ops:Array Oper}:∀(os:List Oper)(acc:List Nat),os=ops.toList.drop acc.length->acc.length<=ops.size->(∀i,i<acc.length->XH ops i (acc.getD i 0))->
  ∀i,i<ops.size->XH ops i ((Sy os acc).getD i 0)
 |[],acc,Wa,hl,XI,i,hi=>by
  have h1:(ops.toList.drop acc.length).length=0:=by rw[<-Wa];rfl
  have:ops.size<=acc.length:=by simp at h1;omega
  exact XI i (by omega)
 |o ::os,acc,Wa,hl,XI,i,hi=>by
  simp only[Sy];have ho:ops[acc.length]? =some o:=by have:(ops.toList.drop acc.length)[0]? =some o:=(by rw[<-Wa];rfl);simpa using this
  have aN:acc.length<ops.size:=(Zd0.1 ho).1;refine V9 os _ ?_ (by simp;omega) (λj hj=> ?_) i hi
  .rw[Zd2,List.length_singleton, <-Zo7, <-Wa];rfl
  . rcases Zh8 j acc.length with h|h
    .   rw[Zb5,Zc1 h, <-Zb5];exact XI j h
    .   have zj:j=acc.length:=(by simp at hj;omega);subst zj;rw[Zb5,Zc2 (Za5 _)];simp only[Zo0,Zb2,Zj5];refine⟨λo' CX e he hb=> ?_,λb hb=> ?_⟩
        .rw[ho]at CX;simp only[H0]at CX;subst CX;exact(O8 acc _ 0 e.on).2 (.inr ⟨e,by simpa using he,hb,.inl rfl⟩)
        . have hb:=(O8 acc _ 0 b).1 hb;rcases hb with hb|⟨e,he,j5,hb⟩
          .simp at hb
          . have ku:e∈o.after:=(by simpa using he);rcases hb with rfl|hb
            .exact .edge _ o e ho ku j5
            . refine .trans _ o e b ho ku j5 ?_;rw[kV]at hb;rcases Zh8 e.on acc.length with h|h
              .exact(XI _ h).2 b (by rw[Zb5];exact hb)
              .rw[Zb4 h]at hb;simp at hb
theorem Wb:∀(l:List bk)(k:Nat)(x:Nat×bk),x∈Bj k l->∃i,x.1=k+i/\l[i]? =some x.2
 |[],k,x,h=>by cases h
 |o ::l,k,x,h=>by
  simp only[Bj,Zb0]at h;rcases h with rfl|h
  .exact⟨0,rfl,rfl⟩
  .obtain⟨i,h1,h2⟩:=Wb l (k+1) x h;exact⟨i+1,by omega,by simpa using h2⟩
theorem Iz:∀(l held:List (Nat×bk))(x:Nat×bk),x∈uD l held->x∈l\/x∈held
 |[],held,x,h=>.inr h
 |(i,   o)::l,held,x,h=>by
  unfold uD at h;split at h
  . rcases Zd6.1 h with h|h
    .   exact .inr (Zl6.1 h).1
    .   rcases Zb0.1 h with h|h
        .exact .inl (by rw[h];exact Zc3 ..)
        . rcases Iz l _ x h with h|h
          .exact .inl (Za7 _ h)
          .exact .inr (Zl6.1 h).1
  . rcases Iz l _ x h with h|h
    .   exact .inl (Za7 _ h)
    .   rcases Zd6.1 h with h|h
        .exact .inr h
        .simp at h;exact .inl (by rw[h];exact Zc3 ..)
theorem adv{l:List bk}{x:Nat×bk}(h:x∈uD (Bj 0 l) []):l[x.1]? =some x.2:=by
 rcases Iz _ _ _ h with h|h
 .obtain⟨i,h1,h2⟩:=Wb l 0 x h;rw[h1,Zc4];exact h2
 .cases h
theorem FQ{p:Pos}:∀{l:List Pos},Eg p l=true↔p∈l
 |[]=>by simp[Eg]
 |q::l=>by simp[Eg,FQ (l:=l),Pos.beq_eq]
theorem DE{a b:bk}(h:Im a b=true):
   (∀d,a.dst=some d->d∉b.looks/\b.dst≠some d)/\(∀d,b.dst=some d->d∉a.looks):=by
 unfold Im at h;rw[Za8]at h;obtain⟨h1,h2⟩:=h;constructor
 . intro d hd;rw[hd]at h1;simp only[Za8,Zh4]at h1;refine⟨λhm=> ?_,λhb=> ?_⟩
   .rw[FQ.2 hm]at h1;exact absurd h1.1 (by simp)
   .rw[hb]at h1;have:Pos.beq d d=true:=Pos.beq_eq.2 rfl;simp[this]at h1
 .intro d hd hm;rw[hd]at h2;simp only[Zh4]at h2;rw[FQ.2 hm]at h2;cases h2
section
variable(P:Program)(tt:TT)(C:Cells)(nt:Nat)(ops:Array Oper)(call:ai)(bP:Fr)(h0:T AB)(n0:Pos)(R:List Rec)
structure vZ:Prop where
 L5:Good call bP h0 n0 R
 mono:l7 call
 one:∀A r B,R=A++r::B->∀r'∈B,r'.idx≠r.idx
 bC:∀A r B,R=A++r::B->∀b,r.o.bC.testBit b=true->∃r'∈B,r'.idx=b
 aE:∀A r B,R=A++r::B->r.o.cls= .aE->∀r'∈B,r.o.bC.testBit r'.idx=true
 apart:∀A r B,R=A++r::B->∀r'∈A,r'.o.bC.testBit r.idx=true\/Im r.o r'.o=true
 rel:∀r∈R,∃o,ops[r.idx]? =some o/\sx tt nt ops o r.o/\XH ops r.idx r.o.bC
 all:∀i,i<ops.size->∃r∈R,r.idx=i
def Kept(D:Nat->Prop)(b:Pos):Prop:=∀A r B,R=A++r::B->¬D r.idx->b.toNat<(cS n0 B).toNat\/r.nx.toNat<=b.toNat
def T1(D:Nat->Prop)(ρ:Pos->Loc)(tmps:Array Value):Prop:=
 ∀M s T p,R=M++s::T->D s.idx->s.o.dst=some p->(∀s'∈M,D s'.idx->s'.o.dst≠some p)->∃x,tmps[p.toNat - 1]? =some x/\aj ρ s.nx.toNat C s.v x
def T0(D:Nat->Prop)(ρ:Pos->Loc)(tmps:Array Value):Prop:=
 ∀p v,bP.get p=some v->(∀s∈R,D s.idx->s.o.dst≠some p)->∃x,tmps[p.toNat - 1]? =some x/\aj ρ n0.toNat C v x
structure QG(D:Nat->Prop)(A B:List Rec)(a:Act):Prop where
 split:R=A++B
 bound:CZ B
 inB:∀r∈B,D r.idx
 Tc:∀r∈A,D r.idx->r.c.k9=false
 closed:∀i o e,D i->ops[i]? =some o->e∈o.after->Region.binds .any e=true->D e.on
 size:a.tmps.size=nt
 defers:a.defers=[]
structure Inv0(j6:Pos->Loc)(w0:World)(D:Nat->Prop)(A B:List Rec)(ρ:Pos->Loc)(a:Act)(w:World):Prop where
 W:aX ρ C { heap:=iH h0 B,next:=cS n0 B } w
 N:∀r∈A,D r.idx->∀id av,r.c= .new id av->lU ρ r.nx.toNat C (ρ id) w av/\(ρ id).av<w.heap.size/\w0.heap.size<=(ρ id).av/\
  (∀b x,(iH h0 B).get b=some x->(ρ b).av≠(ρ id).av)/\(∀ad v,C ad=some v->(ρ id).av≠ad.block)
 N2:∀r∈A,D r.idx->∀id av,r.c= .new id av->∀r'∈A,D r'.idx->∀qG zT,r'.c= .new qG zT->id≠qG->(ρ id).av≠(ρ qG).av
 t1:T1 C R D ρ a.tmps
 t0:T0 C bP n0 R D ρ a.tmps
 E:jN j6 { heap:=h0,next:=n0 } w0 ρ { heap:=iH h0 B,next:=cS n0 B } w
 AT:∀b:Pos,b.toNat<n0.toNat->ρ b=j6 b
def Inv(j6:Pos->Loc)(w0:World)(D:Nat->Prop)(A B:List Rec)(ρ:Pos->Loc)(a:Act)(w:World):Prop:=
 QG nt ops R D A B a/\∀ρ',(∀b,Kept n0 R D b->ρ' b=ρ b)->Inv0 C bP h0 n0 R j6 w0 D A B ρ' a w
end
section
variable{P:Program}{tt:TT}{C:Cells}{nt:Nat}{ops:Array Oper}{call:ai}{bP:Fr}{h0:T AB}{n0:Pos}{R:List Rec}
theorem BB(h:∀A r B,R=A++r::B->∀r'∈B,r'.idx≠r.idx){X X' Y Y':List Rec}{r r':Rec}(h1:R=X++r::Y)(h2:R=X'++r'::Y')(hi:r.idx=r'.idx):
   X=X'/\r=r'/\Y=Y':=by
 have h3:X++r::Y=X'++r'::Y':=h1.symm.trans h2;rcases List.append_eq_append_iff.1 h3 with⟨Z,hX,hZ⟩|⟨Z,hX,hZ⟩
 . cases Z with
   |nil=>simp at hZ hX;exact⟨hX.symm,hZ.1,hZ.2⟩
   |cons z Z=>
    simp at hZ;exact absurd hi.symm (h X r Y h1 r' (by rw[hZ.2];simp))
 . cases Z with
   |nil=>simp at hZ hX;exact⟨hX,hZ.1.symm,hZ.2.symm⟩
   |cons z Z=>
    simp at hZ;exact absurd hi (h X' r' Y' h2 r (by rw[hZ.2];simp))
theorem kP{r:Rec}(h:r∈R):∃A B,R=A++r::B:=List.append_of_mem h
theorem Wc(hm:l7 call){r:Rec}{B:List Rec}(h:n7 call bP h0 n0 r B):(cS n0 B).toNat<=r.nx.toNat:=by
 cases h with
 |skip=>exact Za5 _
 |pure=>exact Za5 _
 |new=>simp only[Pos.aB];omega
 |aE i o v st' xs _ hc hw hx hr=>exact FM hm hr
theorem O9(hm:l7 call):∀{A B:List Rec},Good call bP h0 n0 (A++B)->(cS n0 B).toNat<=(cS n0 (A++B)).toNat
 |[],_,_=>Za5 _
 |r::A,B,h=>Zc8 (O9 hm (A:=A) h.2) (Wc hm h.1)
namespace vZ
variable(G:vZ tt nt ops call bP h0 n0 R)
include G
theorem later{X Y:List Rec}{r r':Rec}(h:R=X++r::Y)(hr:r'∈X):r'.idx≠r.idx:=by
 obtain⟨A,B,rfl⟩:=kP hr;have h':R=A++r'::(B++r::Y):=by rw[h];simp
 exact λe=>G.one _ _ _ h' r (by simp) e.symm
theorem ac3{X Y:List Rec}{r:Rec}(h:R=X++r::Y):(cS n0 Y).toNat<=r.nx.toNat:=Wc G.mono (Good.at (h ▸G.L5))
theorem zm{X Y Z:List Rec}(h:R=X++(Y++Z)):(cS n0 Z).toNat<=(cS n0 (Y++Z)).toNat:=O9 G.mono (Good.tail (h ▸G.L5))
theorem XJ{X Y:List Rec}(h:R=X++Y):n0.toNat<=(cS n0 Y).toNat:=by have:=O9 (n0:=n0) G.mono (A:=Y) (B:=[]) (by rw[Zf3];exact Good.tail (h ▸G.L5));rw[Zf3]at this;exact this
theorem NC{D:Nat->Prop}(hc:∀i o e,D i->ops[i]? =some o->e∈o.after->Region.binds .any e=true->D e.on){i b:Nat}(h:Reach ops i b)
  (hi:∀o e,ops[i]? =some o->e∈o.after->Region.binds .any e=true->D e.on):D b:=by
 induction h with
 |edge i o e ho he hb=>exact hi o e ho he hb
 |trans i o e b ho he hb _ ih=>exact ih λo' e' CX ku iX=>hc _ o' e' (hi o e ho he hb) CX ku iX
theorem ac4{D:Nat->Prop}{A B:List Rec}{a:Act}(hp:QG nt ops R D A B a){s:Rec}(hs:s∈R)(hD:D s.idx){b:Nat}(hb:s.o.bC.testBit b=true):D b:=by obtain⟨o,ho,_,hB⟩:=G.rel s hs;exact G.NC hp.closed (hB.2 b hb) λo' e CX he j5=>hp.closed _ o' e hD CX he j5
end vZ
theorem IA:∀(Y:List Rec)(p:Pos)(v:AV),(l9 bP Y).get p=some v->
  (∃M s T,Y=M++s::T/\s.o.dst=some p/\s.v=v/\∀s'∈M,s'.o.dst≠some p)\/(bP.get p=some v/\∀s∈Y,s.o.dst≠some p)
 |[],p,v,h=>.inr ⟨h,λs hs=>by cases hs⟩
 |r ::Y   ,p,v,h=>by
  simp only[l9]at h;by_cases hr:r.o.dst=some p
  .rw[hr]at h;simp only[cM,T.eF,H0]at h;exact .inl ⟨[],r,Y,rfl,hr,h,λs hs=>by cases hs⟩
  . have h':(l9 bP Y).get p=some v:=by
        cases hd:r.o.dst with
        |none=>rw[hd]at h;exact h
        | some d=>
          rw[hd]at h;simp only[cM]at h
          rwa [T.bw _ λe=>hr (by rw[hd,e])]at h
    rcases IA Y p v h' with⟨M,s,T,rfl,h2,h3,h4⟩|⟨h2,h3⟩
    .   refine .inl ⟨r::M,s,T,rfl,h2,h3,λs' lZ=> ?_⟩;rcases Zb0.1 lZ with rfl|lZ
        .exact hr
        .exact h4 s' lZ
    .   refine .inr ⟨h2,λs hs=> ?_⟩;rcases Zb0.1 hs with rfl|hs
        .exact hr
        .exact h3 s hs
theorem look(G:vZ tt nt ops call bP h0 n0 R){D:Nat->Prop}{A B:List Rec}{a:Act}(hp:QG nt ops R D A B a){ρ:Pos->Loc}(h1:T1 C R D ρ a.tmps)(h2:T0 C bP n0 R D ρ a.tmps)
   {X Y:List Rec} {r:Rec} (hR:R=X++r::Y) (hD:¬D r.idx) (Pa:∀b,r.o.bC.testBit b=true->D b) {p:Pos} {v:AV} (hl:p∈r.o.looks) (hv:(l9 bP Y).get p=some v):
   ∃x,a.tmps[p.toNat - 1]? =some x/\aj ρ (cS n0 Y).toNat C v x:=by
 have hX:∀s∈X,D s.idx->s.o.dst≠some p:=by
   intro s hs fI hd;rcases G.apart X r Y hR s hs with h|h
   .exact hD (G.ac4 hp (by rw[hR];simp[hs]) fI h)
   .exact(DE h).2 p hd hl
 rcases IA Y p v hv with⟨M,s,T,rfl,h3,rfl,h4⟩|⟨h3,h4⟩
 . have hR':R=(X++r::M)++s::T:=(by rw[hR];simp);have fI:D s.idx:=by
     rcases G.apart _ s T hR' r (by simp)with h|h
     .  exact Pa _ h
     .  exact absurd hl ((DE h).1 p h3).1
   obtain⟨x,hx,IB⟩:=h1 (X++r::M) s T p hR' fI h3 (λs' lZ BC=>by
     rcases Zd6.1 lZ with h|h
     .  exact hX s' h BC
     .  rcases Zb0.1 h with rfl|h
        .exact absurd BC hD
        .exact h4 s' h)
   refine⟨x,hx,IB.mono (λ_ _=>rfl) ?_⟩;have:=G.zm (X:=X++[r]) (Y:=M) (Z:=s::T) (by rw[hR];simp);exact this
 . obtain⟨x,hx,IB⟩:=h2 p v h3 (λs hs fI=>by
     rw[hR]at hs;rcases Zd6.1 hs with h|h
     .  exact hX s h fI
     .  rcases Zb0.1 h with rfl|h
        .exact absurd fI hD
        .exact h4 s h)
   exact⟨x,hx,IB.mono (λ_ _=>rfl) (G.XJ (X:=X++[r]) (by rw[hR];simp))⟩
theorem C3{a:Act}{d:Option Tmp}{x:Value}{p:Pos}(h:d.map key≠some p):(a.put d x).tmps[p.toNat - 1]? =a.tmps[p.toNat - 1]? :=by
 cases d with
 |none=>rfl
 |some e=>
  simp only[Act.put];rw[Ze1];intro he;apply h;simp only[Ze7,H0];apply Pos.toNat_inj;rw[eO];have:=p.toNat_pos;omega
theorem abt{a:Act}{d:Option Tmp}{x:Value}{p:Pos}(h:d.map key=some p)(hs:a.tmps.size=nt)(hd:∀e,d=some e->e<nt):(a.put d x).tmps[p.toNat - 1]? =some x:=by
 cases d with
 |none=>cases h
 |some e=>
  simp only[Ze7,H0]at h;subst h;simp only[Act.put];rw[eO,Ze9,Zk3];simp[hs,hd e rfl]
theorem XK(G:vZ tt nt ops call bP h0 n0 R){D:Nat->Prop}{A B:List Rec}{a:Act}(hp:QG nt ops R D A B a){ρ:Pos->Loc}(h1:T1 C R D ρ a.tmps)(h2:T0 C bP n0 R D ρ a.tmps)
   {X Y:List Rec} {r:Rec} (hR:R=X++r::Y) (hD:¬D r.idx) {o:Oper} (hrel:sx tt nt ops o r.o) {x:Value} (hv:aj ρ r.nx.toNat C r.v x):
   T1 C R (λi=>D i\/i=r.idx) ρ (a.put o.dst x).tmps/\T0 C bP n0 R (λi=>D i\/i=r.idx) ρ (a.put o.dst x).tmps:=by
 constructor
 . intro  M s T p hM fI hd j4;by_cases hi:s.idx=r.idx
   .obtain⟨_,rfl,_⟩:=BB G.one hM hR hi;rw[hrel.dst]at hd;exact⟨x,abt hd hp.size hrel.lt,hv⟩
   . have fI:=fI.resolve_right hi;by_cases IC:r.o.dst=some p
     .  exfalso;have hs:s∈R:=(by rw[hM];simp);rw[hR]at hs;rcases Zd6.1 hs with h|h
        . rcases G.apart X r Y hR s h with k|k
          .exact hD (G.ac4 hp (by rw[hR];simp[h]) fI k)
          .exact((DE k).1 p IC).2 hd
        . rcases Zb0.1 h with rfl|h
          .exact hi rfl
          .obtain⟨Y1,Y2,rfl⟩:=kP h;have hR':R=(X++r::Y1)++s::Y2:=(by rw[hR];simp);obtain⟨ZJ,_,_⟩:=BB G.one hM hR' rfl;exact j4 r (by rw[ZJ];simp) (.inr rfl) IC
     .  (rw[hrel.dst]at IC;obtain⟨y,hy,Bq⟩:=h1 M s T p hM fI hd λs' lZ BC=>j4 s' lZ (.inl BC));exact⟨y,by rw[C3 IC];exact hy,Bq⟩
 . (intro p v hf j4;have hr:r.o.dst≠some p:=j4 r (by rw[hR];simp) (.inr rfl);rw[hrel.dst]at hr;obtain⟨y,hy,Bq⟩:=h2 p v hf λs hs fI=>j4 s hs (.inl fI));exact⟨y,by rw[C3 hr];exact hy,Bq⟩
end
section
variable{P:Program}{tt:TT}{C:Cells}{nt:Nat}{ops:Array Oper}{call:ai}{bP:Fr}{h0:T AB}{n0:Pos}{R:List Rec}
theorem aX.congr{ρ ρ':Pos->Loc}{st:St}{w:World}(h:aX ρ C st w)(aT:∀b:Pos,b.toNat<st.next.toNat->ρ' b=ρ b):aX ρ' C st w where
 live b x hb:=by
  obtain⟨h1,h2,h3⟩:=h.live b x hb;rw[aT b h1];exact⟨h1,h2,h3.mono aT (Za5 _)⟩
 inj b b' x x' hb iX he:=by rw[aT b (h.live b x hb).1,aT b' (h.live b' x' iX).1]at he;exact h.inj b b' x x' hb iX he
 dx a v ha:=⟨(h.dx a v ha).1,λb x hb=>by rw[aT b (h.live b x hb).1];exact(h.dx a v ha).2 b x hb⟩
 whole:=h.whole
theorem jN.congr{ρ dJ ρ':Pos->Loc}{st st':St}{w w':World}(h:jN ρ st w dJ st' w')(aT:∀b x,st'.heap.get b=some x->ρ' b=dJ b):jN ρ st w ρ' st' w' where
 os:=h.os
 tape:=h.tape
 output:=h.output
 size:=h.size
 block:=h.block
 nr b x hb:=by rw[aT b x hb];exact h.nr b x hb
namespace vZ
variable(G:vZ tt nt ops call bP h0 n0 R)
include G
theorem same{r r':Rec}(h:r∈R)(h':r'∈R)(hi:r.idx=r'.idx):r=r':=by obtain⟨A,B,hA⟩:=kP h;obtain⟨A',B',Hu⟩:=kP h';exact(BB G.one hA Hu hi).2.1
theorem cmp{X Y X' Y':List Rec}{r r':Rec}(h1:R=X++r::Y)(h2:R=X'++r'::Y')(hi:r'.idx≠r.idx):
   (∃Z,Y'=Z++r::Y)\/(∃Z,Y=Z++r'::Y'):=by
 have h3:X++r::Y=X'++r'::Y':=h1.symm.trans h2;rcases List.append_eq_append_iff.1 h3 with⟨Z,hX,hZ⟩|⟨Z,hX,hZ⟩
 . cases Z with
   |nil=>simp at hZ;exact absurd (by rw[hZ.1]) hi
   |cons z Z=>simp at hZ;exact .inr ⟨Z,hZ.2⟩
 . cases Z with
   |nil=>simp at hZ;exact absurd (by rw[hZ.1]) hi
   |cons z Z=>simp at hZ;exact .inl ⟨Z,hZ.2⟩
theorem FR{X Y X' Z:List Rec}{r r':Rec}(h1:R=X++r::Y)(h2:R=X'++r'::(Z++r::Y)):r.nx.toNat<=(cS n0 (Z++r::Y)).toNat:=by have:=G.zm (X:=X'++[r']) (Y:=Z) (Z:=r::Y) (by rw[h2];simp);exact this
theorem AU{X Y' Z:List Rec}{r r':Rec}(h1:R=X++r::(Z++r'::Y')):r'.nx.toNat<=(cS n0 (Z++r'::Y')).toNat:=by have:=G.zm (X:=X++[r]) (Y:=Z) (Z:=r'::Y') (by rw[h1];simp);exact this
theorem ID{X Y:List Rec}{r:Rec}(h:R=X++r::Y){id:Pos}{av:AB}(hc:r.c= .new id av):id=cS n0 Y/\r.nx=id.succ:=by
 have hs:=Good.at (h ▸G.L5);cases hs<;>simp only at hc<;>first|(cases hc;done)|skip
 simp only[RC.new.injEq]at hc;obtain⟨rfl,_⟩:=hc;exact⟨rfl,rfl⟩
end vZ
theorem Kept.up{D D':Nat->Prop}(h:∀i,D i->D' i){b:Pos}(hk:Kept n0 R D b):Kept n0 R D' b:=λA r B hR hD=>hk A r B hR λhd=>hD (h _ hd)
theorem QG.next(G:vZ tt nt ops call bP h0 n0 R){D:Nat->Prop}{A B:List Rec}{a:Act}(hp:QG nt ops R D A B a){X Y:List Rec}{r:Rec}(hR:R=X++r::Y)
  (n9:∀o e,ops[r.idx]? =some o->e∈o.after->Region.binds .any e=true->D e.on) (hc:r.c.k9=false) (d:Option Tmp) (x:Value):
  QG nt ops R (λi=>D i\/i=r.idx) A B (a.put d x) where
 split:=hp.split
 bound:=hp.bound
 inB s hs:= .inl (hp.inB s hs)
 Tc s hs hD:=by
  rcases hD with hD|hD
  .exact hp.Tc s hs hD
  .rw[G.same (by rw[hp.split];simp[hs]) (by rw[hR];simp) hD];exact hc
 closed i o e hD ho he hb:=by
  rcases hD with hD|rfl
  .exact .inl (hp.closed i o e hD ho he hb)
  .exact .inl (n9 o e ho he hb)
 size:=by rw[Act.g9];exact hp.size
 defers:=by rw[Act.jf];exact hp.defers
theorem QH(G:vZ tt nt ops call bP h0 n0 R){j6:Pos->Loc}{w0:World}{D:Nat->Prop}{A B:List Rec}{ρ:Pos->Loc}{a:Act}{w:World}
  (hI:Inv C nt ops bP h0 n0 R j6 w0 D A B ρ a w) {X Y:List Rec} {r:Rec} (hR:R=X++r::Y) (hD:¬D r.idx)
  (n9:∀o e,ops[r.idx]? =some o->e∈o.after->Region.binds .any e=true->D e.on) {o:Oper} (hrel:sx tt nt ops o r.o) (hc:r.c= .pure) {x:Value}
  (hv:∀ρ',(∀b,Kept n0 R D b->ρ' b=ρ b)->aj ρ' r.nx.toNat C r.v x):
  Inv C nt ops bP h0 n0 R j6 w0 (λi=>D i\/i=r.idx) A B ρ (a.put o.dst x) w:=by
 obtain⟨hp,hI⟩:=hI;refine⟨hp.next G hR n9 (by rw[hc];rfl) _ _,λρ' yA=> ?_⟩;have hf:∀b,Kept n0 R D b->ρ' b=ρ b:=λb hb=>yA b (hb.up λ_ h=>.inl h)
 have h:=hI ρ' hf;have hnr:∀s∈A,(D s.idx\/s.idx=r.idx)->∀id av,s.c= .new id av->D s.idx:=λs hs fI id av fH=>by
  rcases fI with fI|fI
  .exact fI
  .rw[G.same (by rw[hp.split];simp[hs]) (by rw[hR];simp) fI,hc]at fH;cases fH
 obtain⟨k1,k2⟩:=XK G hp h.t1 h.t0 hR hD hrel (hv ρ' hf);exact⟨h.W,λs hs fI id av fH=>h.N s hs (hnr s hs fI id av fH) id av fH,
  λs hs fI id av fH s' lZ BC qG zT pn=>h.N2 s hs (hnr s hs fI id av fH) id av fH s' lZ (hnr s' lZ BC qG zT pn) qG zT pn,k1,k2,h.E,h.AT⟩
theorem aX.grow{ρ:Pos->Loc}{st:St}{w w':World}(h:aX ρ C st w)(hs:w.heap.size<=w'.heap.size)(hb:∀k,k<w.heap.size->w'.heap[k]? =w.heap[k]?):aX ρ C st w' where
 live b x hx:=let⟨h1,h2,h3⟩:=h.live b x hx;⟨h1,Zc7 h2 hs,h3.of_heap (hb _ h2)⟩
 inj:=h.inj
 dx a v ha:=by
  obtain⟨h1,h2⟩:=h.dx a v ha;exact⟨by rw[World.cell?_of_block (w:=w) (hb _ (World.block_lt_of_cell? _ _ h1))];exact h1,h2⟩
 whole a v ha o ho:=by have mU:a.block<w.heap.size:=World.block_lt_of_cell? _ _ (h.dx a v ha).1;rw[World.cell?_of_block (w:=w) (a:=⟨a.block,o,none⟩) (hb _ mU)];exact h.whole a v ha o ho
theorem abu(G:vZ tt nt ops call bP h0 n0 R){j6:Pos->Loc}{w0:World}{D:Nat->Prop}{A B:List Rec}{ρ:Pos->Loc}{a:Act}{w w':World}
   (hI:Inv C nt ops bP h0 n0 R j6 w0 D A B ρ a w) {X Y:List Rec} {r:Rec} (hR:R=X++r::Y) (hD:¬D r.idx)
   (n9:∀o e,ops[r.idx]? =some o->e∈o.after->Region.binds .any e=true->D e.on) {o:Oper} (hrel:sx tt nt ops o r.o) {id:Pos} {av:AB} (hc:r.c= .new id av) {x:Value} {L:Loc}
   (hL:w.heap.size<=L.av) (hL':L.av<w'.heap.size) (Wa:w'.os=w.os) (ae8:w'.tape=w.tape) (Pb:w'.output=w.output) (abv:∀k,k<w.heap.size->w'.heap[k]? =w.heap[k]?)
   (hv:∀ρ',(∀b,Kept n0 R D b->ρ' b=ρ b)->ρ' id=L->aj ρ' r.nx.toNat C r.v x/\lU ρ' r.nx.toNat C L w' av):
   Inv C nt ops bP h0 n0 R j6 w0 (λi=>D i\/i=r.idx) A B (λb=>if b=id then L else ρ b) (a.put o.dst x) w':=by
 obtain⟨hp,hI⟩:=hI;have hrA:r∈A:=by
   have:r∈R:=(by rw[hR];simp);rw[hp.split]at this;exact(Zd6.1 this).resolve_right λh=>hD (hp.inB r h)
 obtain⟨Nz,IE⟩:=G.ID hR hc;have eW:w.heap.size<=w'.heap.size:=by omega
 refine⟨hp.next G hR n9 (by rw[hc];rfl) _ _,λρ' yA=> ?_⟩;have hkid:Kept n0 R (λi=>D i\/i=r.idx) id:=by
   (intro A' r' B' Hu ZK;have aV:r'.idx≠r.idx:=λe=>ZK (.inr e));rcases G.cmp hR Hu aV with⟨Z,rfl⟩|⟨Z,rfl⟩
   .left;have:=G.FR hR Hu;rw[IE,Pos.aB]at this;omega
   .right;have:=G.AU hR;rw[Nz];exact this
 have XL:ρ' id=L:=by rw[yA id hkid];simp
 have hf:∀b,Kept n0 R D b->ρ' b=ρ b:=λb hb=>by
   have aV:b≠id:=by
     rintro rfl;rcases hb X r Y hR hD with h|h
     .  rw[Nz]at h;omega
     .  rw[IE,Pos.aB]at h;omega
   rw[yA b (hb.up λ_ h=>.inl h)];exact Za3 aV
 have h:=hI ρ' hf;obtain⟨KP,Iq⟩:=hv ρ' hf XL;obtain⟨k1,k2⟩:=XK G hp h.t1 h.t0 hR hD hrel KP;have Sa:∀s∈A,(D s.idx\/s.idx=r.idx)->D s.idx\/s=r:=λs hs fI=>fI.imp (λh=>h) λfI=>G.same (by rw[hp.split];simp[hs]) (by rw[hR];simp) fI
 refine⟨h.W.grow eW abv,λs hs fI qG zT fH=> ?_,λs hs fI qG zT fH s' lZ BC id'' ac5 pn aV=> ?_,k1,k2,?_,h.AT⟩
 . rcases Sa s hs fI with fI|rfl
   .obtain⟨g1,g2,g3,g4,g5⟩:=h.N s hs fI qG zT fH;exact⟨g1.of_heap (abv _ g2),by omega,g3,g4,g5⟩
   . rw[hc]at fH;simp only[RC.new.injEq]at fH;obtain⟨rfl,rfl⟩:=fH;rw[XL];refine⟨Iq,hL',Zc8 h.E.size hL,λb x hb e=> ?_,λad v ha e=> ?_⟩
     .  have:=(h.W.live b x hb).2.1;omega
     .  have:=World.block_lt_of_cell? _ _ (h.W.dx ad v ha).1;omega
 . rcases Sa s hs fI with hDk|rfl
   . rcases Sa s' lZ BC with abw|rfl
     .  exact h.N2 s hs hDk qG zT fH s' lZ abw id'' ac5 pn aV
     .  rw[hc]at pn;simp only[RC.new.injEq]at pn;obtain⟨rfl,rfl⟩:=pn;have:=(h.N s hs hDk qG zT fH).2.1;rw[XL];omega
   . rw[hc]at fH;simp only[RC.new.injEq]at fH;obtain⟨rfl,rfl⟩:=fH;rcases Sa s' lZ BC with abw|rfl
     .  have:=(h.N s' lZ abw id'' ac5 pn).2.1;rw[XL];omega
     .  rw[hc]at pn;simp only[RC.new.injEq]at pn;exact absurd pn.1 aV
 .exact⟨Wa.trans h.E.os,ae8.trans h.E.tape,Pb.trans h.E.output,Zc8 h.E.size eW,λk hk hn=>by rw[abv k (Zc7 hk h.E.size)];exact h.E.block k hk hn,h.E.nr⟩
theorem XM(G:vZ tt nt ops call bP h0 n0 R){j6:Pos->Loc}{w0:World}{D:Nat->Prop}{A B:List Rec}{ρ:Pos->Loc}{a:Act}{w:World}
  (h:Inv0 C bP h0 n0 R j6 w0 D A B ρ a w) (aek:R=A++B) {hp:T AB} {N:Pos} (hN:(cS n0 B).toNat<=N.toNat)
  (DF:∀b x,hp.get b=some x->(iH h0 B).get b=some x\/∃s∈A,D s.idx/\s.c= .new b x/\s.nx.toNat<=N.toNat):aX ρ C { heap:=hp,next:=N } w where
 live b x hb:=by
  rcases DF b x hb with h1|⟨s,hs,hD,hc,hn⟩
  .  obtain⟨g1,g2,g3⟩:=h.W.live b x h1;exact⟨Zc7 g1 hN,g2,g3.mono (λ_ _=>rfl) hN⟩
  .  obtain⟨g1,g2,_⟩:=h.N s hs hD b x hc;obtain⟨M,T,hM⟩:=kP (r:=s) (R:=R) (by rw[aek];simp[hs]);obtain⟨_,e⟩:=G.ID hM hc;rw[e]at hn;refine⟨?_,g2,g1.mono (λ_ _=>rfl) (by rw[e];exact hn)⟩;rw[Pos.aB]at hn;exact hn
 inj b  b' x x' hb iX he:=by
  rcases DF b x hb with h1|⟨s,hs,hD,hc,hn⟩
  .  rcases DF b' x' iX with VT|⟨s',lZ,ZK,tV,NA⟩
     .  exact h.W.inj b b' x x' h1 VT he
     .  exact absurd he ((h.N s' lZ ZK b' x' tV).2.2.2.1 b x h1)
  .  rcases DF b' x' iX with VT|⟨s',lZ,ZK,tV,NA⟩
     .  exact absurd he.symm ((h.N s hs hD b x hc).2.2.2.1 b' x' VT)
     .  by_cases e:b=b'
        .exact e
        .exact absurd he (h.N2 s hs hD b x hc s' lZ ZK b' x' tV e)
 dx ad v ha:=⟨(h.W.dx ad v ha).1,λb x hb=>by
  rcases DF b x hb with h1|⟨s,hs,hD,hc,hn⟩
  .  exact(h.W.dx ad v ha).2 b x h1
  .  exact(h.N s hs hD b x hc).2.2.2.2 ad v ha⟩
 whole:=h.W.whole
theorem v7:∀{Z B:List Rec}{b:Pos}{x:AB},(∀r∈Z,r.c.k9=false)->CZ B->(iI h0 (Z++B)).get b=some x->
  (iH h0 B).get b=some x\/∃s∈Z,s.c= .new b x
 |[],B,b,x,_,hB,h=>by
  cases B with
  |nil=>exact .inl h
  | cons r B=>
    simp only[CZ]at hB;(cases hc:r.c<;>rw[hc]at hB<;>first|(cases hB;done)|skip);simp only[Zg9,iI,hc]at h;simp only[iH,hc];exact .inl h
 |r ::Z,B,b,x,hZ,hB,h=>by
  have ih:=@v7 Z B b x (λs hs=>hZ s (Za7 _ hs)) hB;have hr:=hZ r (Zc3 ..);simp only[Ze8,iI]at h;cases hc:r.c with
  |pure=>rw[hc]at h;exact(ih h).imp (λh=>h) λ⟨s,h1,h2⟩=>⟨s,Za7 _ h1,h2⟩
  |aE _ _=>rw[hc]at hr;cases hr
  | new id av=>
    rw[hc]at h;by_cases e:id=b
    .   subst e;rw[T.eF]at h;simp only[H0]at h;subst h;exact .inr ⟨r,Zc3 ..,hc⟩
    .   rw[T.bw _ e]at h;exact(ih h).imp (λh=>h) λ⟨s,h1,h2⟩=>⟨s,Za7 _ h1,h2⟩
end
section
variable{P:Program}{tt:TT}{C:Cells}{nt:Nat}{ops:Array Oper}{call:ai}{bP:Fr}{h0:T AB}{n0:Pos}{R:List Rec}
theorem around(G:vZ tt nt ops call bP h0 n0 R){D:Nat->Prop}{A B:List Rec}{a:Act}(hp:QG nt ops R D A B a){X Y:List Rec}{r:Rec}(hR:R=X++r::Y)(hD:¬D r.idx):
  ∃Z,A=X++r::Z/\Y=Z++B:=by
 have hrA:r∈A:=by
  have:r∈R:=by rw[hR];simp
  rw[hp.split]at this;exact(Zd6.1 this).resolve_right λh=>hD (hp.inB r h)
 obtain⟨X',Z,hA⟩:=kP hrA;have h2:R=X'++r::(Z++B):=by rw[hp.split,hA];simp
 obtain⟨rfl,_,rfl⟩:=BB G.one hR h2 rfl;exact⟨Z,hA,rfl⟩
theorem abx(G:vZ tt nt ops call bP h0 n0 R){j6:Pos->Loc}{w0:World}{D:Nat->Prop}{A B:List Rec}{ρ:Pos->Loc}{a:Act}{w w':World}
   (hI:Inv C nt ops bP h0 n0 R j6 w0 D A B ρ a w) {X Y:List Rec} {r:Rec} (hR:R=X++r::Y) (hD:¬D r.idx)
   (n9:∀o e,ops[r.idx]? =some o->e∈o.after->Region.binds .any e=true->D e.on) {o:Oper} (hrel:sx tt nt ops o r.o)
   (hY:∀s∈Y,D s.idx) {st':St} {b0:T AB} (hc:r.c= .aE b0 st'.heap) (IE:r.nx=st'.next) {x:Value}
   (XN:l6 ρ C { heap:=iI h0 Y,next:=cS n0 Y } w r.v st' x w'):
   ∃lV,Inv C nt ops bP h0 n0 R j6 w0 (λi=>D i\/i=r.idx) X (r::Y) lV (a.put o.dst x) w':=by
 obtain⟨hp,hI⟩:=hI;obtain⟨dJ,hv,hρ1,hle,S6,hE1⟩:=XN;simp only at hρ1 hle;obtain⟨Z,hA,rfl⟩:=around G hp hR hD;have hZ:∀s∈Z,s.c.k9=false:=λs hs=>hp.Tc s (by rw[hA];simp[hs]) (hY s (by simp[hs]))
 have Wd:∀s∈X,s∈A:=λs hs=>by rw[hA];simp[hs]
 have hXD:∀s∈X,(D s.idx\/s.idx=r.idx)->D s.idx:=λs hs h=>h.resolve_right (G.later hR hs)
 have Td:(cS n0 B).toNat<=(cS n0 (Z++B)).toNat:=G.zm (X:=X++[r]) (by rw[hR];simp)
 let lV:Pos->Loc:=λb=>if(cS n0 (Z++B)).toNat<=b.toNat/\b.toNat<r.nx.toNat then dJ b else ρ b
 have Te:∀b:Pos,b.toNat<(cS n0 (Z++B)).toNat->Kept n0 R D b:=by
   intro b hb M s T hM fI;left;by_cases hi:s.idx=r.idx
   .obtain⟨_,_,rfl⟩:=BB G.one hM hR hi;exact hb
   . rcases G.cmp hR hM hi with⟨W,rfl⟩|⟨W,hW⟩
     .  have:=G.FR hR hM;have:=G.ac3 hR;omega
     .  exact absurd (hY s (by rw[hW];simp)) fI
 refine⟨lV,⟨by rw[hR],by simp[CZ,hc,RC.k9],?_,?_,?_,by rw[Act.g9];exact hp.size,by rw[Act.jf];exact hp.defers⟩,λρ' yA=> ?_⟩
 . intro s hs;rcases Zb0.1 hs with rfl|hs
   .exact .inr rfl
   .exact .inl (hY s hs)
 .intro s hs fI;exact hp.Tc s (Wd s hs) (hXD s hs fI)
 . intro i o' e hDi ho he hb;rcases hDi with hDi|rfl
   .exact .inl (hp.closed i o' e hDi ho he hb)
   .exact .inl (n9 o' e ho he hb)
 have ae9:∀b:Pos,b.toNat<r.nx.toNat->Kept n0 R (λi=>D i\/i=r.idx) b:=by
   (intro b hb M s T hM fI;left;have hi:s.idx≠r.idx:=λe=>fI (.inr e));rcases G.cmp hR hM hi with⟨W,rfl⟩|⟨W,hW⟩
   .exact Zc7 hb (G.FR hR hM)
   .exact absurd (.inl (hY s (by rw[hW];simp))) fI
 have hf:∀b,Kept n0 R D b->ρ' b=ρ b:=λb hb=>by rw[yA b (hb.up λ_ h=>.inl h)];refine Za3 ?_;rintro⟨g1,g2⟩;rcases hb X r _ hR hD with h|h<;>omega
 have h:=hI ρ' hf;have Tf:∀b:Pos,b.toNat<r.nx.toNat->ρ' b=dJ b:=by
   intro b hb;rcases Zh8 b.toNat (cS n0 (Z++B)).toNat with g|g
   .rw[hf b (Te b g),hρ1 b g]
   .rw[yA b (ae9 b hb)];exact Za6 ⟨g,hb⟩
 have xT:aj ρ' r.nx.toNat C r.v x:=by
   rw[IE]at Tf ⊢;exact hv.mono Tf (Za5 _)
 have ew:aX ρ' C { heap:=st'.heap,next:=r.nx } w':=by rw[IE]at Tf ⊢;exact S6.congr Tf
 have hold:∀s∈X,D s.idx->∀id av,s.c= .new id av->∀b y,(iI h0 (Z++B)).get b=some y->(ρ b).av≠(ρ' id).av:=by
   intro s hs fI id av fH b y hb;obtain⟨g1,g2,g3,g4,g5⟩:=h.N s (Wd s hs) fI id av fH;obtain⟨M,T,hM⟩:=kP (r:=s) (R:=R) (by rw[hR];simp[hs]);rcases v7 hZ hp.bound hb with hb|⟨s',lZ,pn⟩
   .rw[<-hf b (Te b (Zc7 (h.W.live b y hb).1 Td))];exact g4 b y hb
   . obtain⟨Z1,Z2,rfl⟩:=kP lZ;have ZJ:R=(X++r::Z1)++s'::(Z2++B):=(by rw[hR];simp);obtain⟨e1,e2⟩:=G.ID ZJ pn;obtain⟨e3,e4⟩:=G.ID hM fH;have hbn:b.toNat<(cS n0 ((Z1++s'::Z2)++B)).toNat:=(by have:=G.AU (X:=X) (r:=r) (Z:=Z1) (r':=s') (Y':=Z2++B) (by rw[hR];simp);rw[e2,Pos.aB]at this;simp only[Zi6,Ze8];omega);have hsr:s.idx≠r.idx:=G.later hR hs;have Nz:r.nx.toNat<=id.toNat:=by
        rcases G.cmp hR hM hsr with⟨W,rfl⟩|⟨W,hW⟩
        .rw[e3];exact G.FR hR hM
        .obtain⟨A1,A2,hX⟩:=kP hs;have hM2:R=A1++s::(A2++r::((Z1++s'::Z2)++B)):=(by rw[hR,hX];simp);have qI:s∈(Z1++s'::Z2)++B:=(by rw[hW];simp);exact absurd rfl (G.one A1 s _ hM2 s (Zd6.2 (.inr (Za7 _ qI))))
     have aV:b≠id:=(by rintro rfl;have:=G.ac3 hR;omega);rw[<-hf b (Te b hbn)];exact h.N2 s' (by rw[hA];simp) (hY s' (by simp)) b y pn s (Wd s hs) fI id av fH aV
 have hEa:jN j6 { heap:=h0,next:=n0 } w0 ρ { heap:=iI h0 (Z++B),next:=cS n0 (Z++B) } w:=by
   refine⟨h.E.os,h.E.tape,h.E.output,h.E.size,h.E.block,λb y hb=> ?_⟩;rcases v7 hZ hp.bound hb with hb|⟨s',lZ,pn⟩
   .rw[<-hf b (Te b (Zc7 (h.W.live b y hb).1 Td))];exact h.E.nr b y hb
   .obtain⟨Z1,Z2,rfl⟩:=kP lZ;have ZJ:R=(X++r::Z1)++s'::(Z2++B):=(by rw[hR];simp);obtain⟨e1,e2⟩:=G.ID ZJ pn;have hbn:b.toNat<(cS n0 ((Z1++s'::Z2)++B)).toNat:=(by have:=G.AU (X:=X) (r:=r) (Z:=Z1) (r':=s') (Y':=Z2++B) (by rw[hR];simp);rw[e2,Pos.aB]at this;simp only[Zi6,Ze8];omega);rw[<-hf b (Te b hbn)];exact .inr (h.N s' (by rw[hA];simp) (hY s' (by simp)) b y pn).2.2.1
 obtain⟨k1,k2⟩:=XK G hp h.t1 h.t0 hR hD hrel xT;refine⟨?_,λs hs fI id av fH=> ?_,λs hs fI id av fH s' lZ BC qG zT pn aV=> ?_,k1,k2,?_,h.AT⟩
 .simp only[iH,hc,cS];exact ew
 . have fI:=hXD s hs fI;obtain⟨g1,g2,g3,g4,g5⟩:=h.N s (Wd s hs) fI id av fH;refine⟨g1.of_heap (hE1.block _ g2 (hold s hs fI id av fH)),Zc7 g2 hE1.size,g3,λb y hb=> ?_,g5⟩;simp only[iH,hc]at hb;rw[Tf b (by rw[IE];exact(S6.live b y hb).1)];rcases hE1.nr b y hb with⟨b',y',iX,e⟩|e
   .rw[<-e];exact hold s hs fI id av fH b' y' iX
   .omega
 .exact h.N2 s (Wd s hs) (hXD s hs fI) id av fH s' (Wd s' lZ) (hXD s' lZ BC) qG zT pn aV
 . have:=(hEa.trans hE1).congr (ρ':=ρ') λb y hb=>Tf b (by rw[IE];exact(S6.live b y hb).1)
   simp only[iH,hc,cS];exact⟨this.os,this.tape,this.output,this.size,this.block,this.nr⟩
end
section
variable{P:Program}{tt:TT}{C:Cells}{nt:Nat}{ops:Array Oper}{call:ai}{bP:Fr}{h0:T AB}{n0:Pos}{R:List Rec}
theorem zn{ρ:Pos->Loc}{n:Pos}{w:World}(hC:∀ad v,C ad=some v->w.cell? ad=some v)(ZL:∀a v,C a=some v->∀o,C ⟨a.block,o,none⟩=none->w.cell? ⟨a.block,o,none⟩=none):aX ρ C { heap:= .e,next:=n } w where
 live b x hb:=by rw[T.dm]at hb;cases hb
 inj b b' x x' hb:=by rw[T.dm]at hb;cases hb
 dx a v ha:=⟨hC a v ha,λb x hb=>by rw[T.dm]at hb;cases hb⟩
 whole:=ZL
theorem Yields.eq{N:Next}{x y:Value}(h:Yields N x)(k:Yields N y):x=y:=by
 rcases h with rfl|⟨rfl,rfl⟩<;>rcases k with k|⟨k,rfl⟩
 .simp only[Next.value.injEq]at k;exact k
 .cases k
 .cases k
 .rfl
theorem lU.aby{ρ ρ':Pos->Loc}{n n':Nat}{L:Loc}{w:World}{s:List Nat}{p:Nat}(h:lU ρ n C L w (.jq s p)):lU ρ' n' C L w (.jq s p):=h
theorem ZM(hT:bM P tt){o:Oper}{k:ay}{xs:List dU}{cls:VS}(hc:fO tt o.op=some (k,xs,cls)){n:Pos}{vs:List AV}{v:AV}{av:AB}
  (hr:k.run (λ_=>none) n vs=some (.aE v none none (some av))) {fr:Fr} (hx:dV fr xs=some vs) {a:Act} {w:World} {We:(Pos->Loc)->Prop} {ρ:Pos->Loc} (aT:We ρ)
  (hF:∀ρ',We ρ'->fh ρ' n.toNat C fr a.tmps) (hC:∀ad v,C ad=some v->w.cell? ad=some v) (ZL:∀a v,C a=some v->∀o,C ⟨a.block,o,none⟩=none->w.cell? ⟨a.block,o,none⟩=none):
  ∃ N x w' L,(execOp a.eval o).run P w= .ok N w'/\Yields N x/\w.heap.size<=L.av/\L.av<w'.heap.size/\w'.os=w.os/\w'.tape=w.tape/\w'.output=w.output/\
    (∀k,k<w.heap.size->w'.heap[k]? =w.heap[k]?)/\∀ρ',We ρ'->ρ' n=L->aj ρ' n.succ.toNat C v x/\lU ρ' n.succ.toNat C L w' av:=by
 have bN:k.run (λb=>T.get b (T.e:T AB)) n vs=some (.aE v none none (some av)):=by
  have e:(λb=>T.get b (T.e:T AB))=λ_=>none:=by funext b;exact T.dm b
  rw[e];exact hr
 have H:=λρ' (hf:We ρ')=>J5 hT o.op ρ' C { heap:= .e,next:=n } w k xs cls fr a o vs _ rfl hc (zn hC ZL) (hF ρ' hf) hx bN
 have key:∀ρ',We ρ'->∃N x w' dJ,(execOp a.eval o).run P w= .ok N w'/\Yields N x/\(∀b:Pos,b.toNat<n.toNat->dJ b=ρ' b)/\aj dJ n.succ.toNat C v x/\
    lU dJ n.succ.toNat C (dJ n) w' av/\w.heap.size<=(dJ n).av/\(dJ n).av<w'.heap.size/\w'.os=w.os/\w'.tape=w.tape/\w'.output=w.output/\
    (∀k,k<w.heap.size->w'.heap[k]? =w.heap[k]?):=by
  intro ρ' hf;obtain⟨N,x,w',dJ,he,hy,h1,h2,h3,h4⟩:=H ρ' hf;have hg:(St.aE { heap:= .e,next:=n } none none (some av)).heap.get n=some av:=T.eF _ _ _;obtain⟨g1,g2,g3⟩:=h2.live n av hg;refine⟨N,x,w',dJ,he,hy,h1,h3,g3,?_,g2,h4.os,h4.tape,h4.output,λk hk=>h4.block k hk λb x hb=> ?_⟩
  . rcases h4.nr n av hg with⟨b',x',iX,_⟩|h
    .   rw[T.dm]at iX;cases iX
    .   exact h
  .rw[T.dm]at hb;cases hb
 obtain⟨N,x,w',dJ,he,hy,h1,h2,h3,h4,h5,h6,h7,h8,h9⟩:=key ρ aT;refine⟨N,x,w',dJ n,he,hy,h4,h5,h6,h7,h8,h9,λρ' hf hL=> ?_⟩;obtain⟨N',x',w'',lV,ku,QI,k1,k2,k3,_⟩:=key ρ' hf;rw[he]at ku;simp only[Result.ok.injEq]at ku;obtain⟨rfl,rfl⟩:=ku;have Tg:=hy.eq QI;subst Tg;have XP:n.toNat<n.succ.toNat:=by rw[Pos.aB];omega
 have AT:(lV n).av=(dJ n).av->(lV n).base=(dJ n).base->((∃cs fz,av= .cells cs fz)\/∃t cs,av= .typed t cs)->aj ρ' n.succ.toNat C v x/\lU ρ' n.succ.toNat C (dJ n) w' av:=by
  intro e1 e2 tC;have e3:(lV n).size=(dJ n).size:=by
    rcases tC with⟨cs,fz,rfl⟩|⟨t,cs,rfl⟩
    .   obtain⟨c,e,fr,g1,g2,_⟩:=h3;obtain⟨c',e',aY,BD,ZN,_⟩:=k3;rw[e1,g1]at BD;simp only[H0,Obj.cells.injEq]at BD;rw[<-g2, <-ZN,BD.1]
    .   obtain⟨c,fr,g1,g2,_⟩:=h3;obtain⟨c',aY,BD,ZN,_⟩:=k3;rw[e1,g1]at BD;simp only[H0,Obj.cells.injEq]at BD;rw[<-g2, <-ZN,BD.1]
  have e4:lV n=dJ n:=by
    cases hh:lV n;cases hh':dJ n;rw[hh,hh']at e1 e2 e3;simp only at e1 e2 e3;rw[e1,e2,e3]
  have cG:∀b:Pos,b.toNat<n.succ.toNat->ρ' b=lV b:=by
    intro b hb;rcases Zh8 b.toNat n.toNat with g|g
    .   exact(k1 b g).symm
    .   have:b=n:=Pos.toNat_inj (by rw[Pos.aB]at hb;omega);subst this;rw[hL,e4]
  refine⟨k2.mono cG (Za5 _),?_⟩;rw[<-e4];exact k3.mono cG (Za5 _)
 cases adu hr with
 |ptr cs=>
  obtain⟨_,g1⟩:=h2.eG;obtain⟨_,g2⟩:=k2.eG;rw[g1]at g2;simp only[Value.pointer.injEq,H0,Addr.mk.injEq,Zg6,Zk4]at g2;exact AT g2.1.symm g2.2.symm (.inl ⟨cs,0,rfl⟩)
 |ptrT t cs=>
  obtain⟨_,g1⟩:=h2.eG;obtain⟨_,g2⟩:=k2.eG;rw[g1]at g2;simp only[Value.pointer.injEq,H0,Addr.mk.injEq,Zg6,Zk4]at g2;exact AT g2.1.symm g2.2.symm (.inr ⟨t,cs,rfl⟩)
 |ZI len t cs hl=>
  obtain⟨ad,aJ,g1,g2,g3,g4⟩:=h2.cW;obtain⟨ad',XQ,BD,ZN,g3',g4'⟩:=k2.cW;rw[g1]at BD;simp only[Value.slice.injEq,H0,true_and]at BD;obtain⟨rfl,rfl⟩:=BD;obtain⟨_,a1,_⟩:=g4 (by omega);obtain⟨_,a2,_⟩:=g4' (by omega);rw[a1]at a2;simp only[Addr.mk.injEq,Zg6,Zk4]at a2;exact AT a2.1.symm a2.2.symm (.inr ⟨t,cs,rfl⟩)
 |jq s=>
  obtain⟨_,g1⟩:=h2.eG;refine⟨?_,h3.aby⟩;rw[g1, <-hL];exact .ptr n 0 XP
 |slice len es cap cs fH=>
  obtain⟨ad,aJ,g1,g2,g3,g4⟩:=h2.cW;obtain⟨ad',XQ,BD,ZN,g3',g4'⟩:=k2.cW;rw[g1]at BD;simp only[Value.slice.injEq,H0,true_and]at BD;obtain⟨rfl,rfl⟩:=BD;by_cases h0:aJ=0
  . subst h0;have Zz:len=0:=(by omega);have hcs0:cs=[]:=fH Zz (by
        cases cap with
        |none=>exact .inl rfl
        |some c=>exact .inr (by rw[g3 c rfl]))
    subst hcs0;refine⟨?_,?_⟩
    .   rw[g1];exact .slice n 0 len cap es 0 ad g2 g3 (λh=>absurd rfl h) (λ_=>XP)
    .   obtain⟨c,e,fr,q1,q2,q3,q4,q5⟩:=h3;exact⟨c,e,fr,q1,q2,q3,au.nil,q5⟩
  .obtain⟨_,a1,_⟩:=g4 h0;obtain⟨_,a2,_⟩:=g4' h0;rw[a1]at a2;simp only[Addr.mk.injEq,Zg6,Zk4]at a2;exact AT a2.1.symm a2.2.symm (.inl ⟨cs,0,rfl⟩)
 |map=>
  obtain⟨_,g1⟩:=h2.u5;refine⟨?_,?_⟩
  .rw[g1, <-hL];exact .map n XP
  .obtain⟨es',q1,q2,q3⟩:=h3;exact⟨es',q1,q2,λi e e' he=>by simp at he⟩
end
section
variable{P:Program}{tt:TT}{C:Cells}{nt:Nat}{ops:Array Oper}{call:ai}{bP:Fr}{h0:T AB}{n0:Pos}{R:List Rec}
def tW(fr:Fr):List Pos->Fr
 |[]=>.e
 |p::l=>(tW fr l).put (fr.get p) p
theorem QJ{fr:Fr}{p:Pos}:∀{l:List Pos},p∈l->(tW fr l).get p=fr.get p
 |[],h=>by cases h
 |q ::l,h=>by
  simp only[tW];by_cases e:q=p
  .subst e;exact T.eF _ _ _
  .rw[T.bw _ e];exact QJ ((Zb0.1 h).resolve_left λh=>e h.symm)
theorem K8{fr:Fr}{p:Pos}{v:AV}:∀{l:List Pos},(tW fr l).get p=some v->p∈l/\fr.get p=some v
 |[],h=>by simp only[tW]at h;rw[T.dm]at h;cases h
 |q ::l,h=>by
  simp only[tW]at h;by_cases e:q=p
  .subst e;rw[T.eF]at h;exact⟨by simp,h⟩
  .rw[T.bw _ e]at h;obtain⟨h1,h2⟩:=K8 h;exact⟨by simp[h1],h2⟩
theorem QK{fr:Fr}{l:List Pos}:∀{xs:List dU},(∀p,dU.t p∈xs->p∈l)->dV (tW fr l) xs=dV fr xs
 |[],_=>rfl
 |x::xs,h=>by
  have h1:zi (tW fr l) x=zi fr x:=by
   cases x with
   |t p=>exact QJ (h p (by simp))
   |c v=>rfl
  simp only[dV,h1,QK λp hp=>h p (Za7 _ hp)]
theorem ZO{o:bk}{p:Pos}(h:dU.t p∈o.xs):p∈o.looks:=by
 unfold bk.looks;exact Zi3 _ (Zm0.2 ⟨_,h,rfl⟩)
theorem Vu{o:bk}{p:Pos}{q:Bool}(h:o.guard=some (p,q)):p∈o.looks:=by unfold bk.looks;rw[h];simp
theorem Yields.upon{K:Value->World->Prop}{N:Next}{x:Value}{w:World}(h:Yields N x)(hk:K x w):Reaches P K (.ok N w):=by rcases h with rfl|⟨rfl,rfl⟩<;>exact hk
theorem abz(hT:bM P tt)(bH:eV P C call)(G:vZ tt nt ops call bP h0 n0 R){j6:Pos->Loc}{w0:World}{D:Nat->Prop}{A B:List Rec}{ρ:Pos->Loc}{a:Act}{w:World}
  (hI:Inv C nt ops bP h0 n0 R j6 w0 D A B ρ a w) {i:Nat} (hi:i<ops.size) (hD:¬D i)
  (n9:∀o e,ops[i]? =some o->e∈o.after->Region.binds .any e=true->D e.on):
  Bu P ops i (λa' w'=>∃A' B' ρ',Inv C nt ops bP h0 n0 R j6 w0 (λj=>D j\/j=i) A' B' ρ' a' w') a w:=by
 obtain⟨r,hr,rfl⟩:=G.all i hi;obtain⟨X,Y,hR⟩:=kP hr;obtain⟨o,ho,hrel,hB⟩:=G.rel r hr;have hp:=hI.1;have Pa:∀b,r.o.bC.testBit b=true->D b:=λb hb=>G.NC hp.closed (hB.2 b hb) n9
 obtain⟨Z,hA,QL⟩:=around G hp hR hD;have FT:∀ρ',(∀b,Kept n0 R D b->ρ' b=ρ b)->∀p v,p∈r.o.looks->(l9 bP Y).get p=some v->∃x,a.tmps[p.toNat - 1]? =some x/\aj ρ' (cS n0 Y).toNat C v x:=
  λρ' hf p v hl hv=>look G hp (hI.2 ρ' hf).t1 (hI.2 ρ' hf).t0 hR hD Pa hl hv
 have hFR:∀ρ',(∀b,Kept n0 R D b->ρ' b=ρ b)->fh ρ' (cS n0 Y).toNat C (tW (l9 bP Y) r.o.looks) a.tmps:=λρ' hf p v hv=>
  let⟨h1,h2⟩:=K8 hv;FT ρ' hf p v h1 h2
 have FU:∀b,Kept n0 R D b->ρ b=ρ b:=λ_ _=>rfl
 have hw:∀b,bI (l9 bP Y) r.o.guard=some b->Region.wanted o (yielded ops a.tmps)=b:=λb hb=>
  Bw hrel.guard (λp v hv ⟨q,hq⟩=>FT ρ FU p v (Vu hq) hv) hb
 have hnZ:∀s∈Z,s.nx.toNat<=(cS n0 Y).toNat:=λs hs=>by obtain⟨Z1,Z2,rfl⟩:=kP hs;have:=G.AU (X:=X) (r:=r) (Z:=Z1) (r':=s) (Y':=Z2++B) (by rw[hR,QL];simp);rw[QL];simp only[Zi6,Ze8];exact this
 have Td:(cS n0 B).toNat<=(cS n0 Y).toNat:=by rw[QL];exact G.zm (X:=X++[r]) (by rw[hR,QL];simp)
 have hs:=Good.at (hR ▸G.L5);have hex:∀xs,dV (l9 bP Y) r.o.xs=some xs->dV (tW (l9 bP Y) r.o.looks) r.o.xs=some xs:=λxs hx=>by rw[QK λp hp=>ZO hp];exact hx
 unfold Bu;simp only[ho];generalize hrr:r=r0 at*
 cases hs with
 |skip i' o' _ hw'=>
  rw[Za3 (by rw[hw _ hw'];simp)];exact⟨A,B,ρ,QH G hI hR hD n9 hrel rfl λρ' _=> .QB⟩
 |pure i' o' v xs _ hw' hx QF=>
  rw[Za6 (hw _ hw')];rw[QL]at QF;obtain⟨h,DF,bN⟩:=QF Z B rfl hp.bound λs hs he=>by
    cases hb:o'.bC.testBit s.idx with
    |false=>rfl
    |   true=>
        have h1:=hp.Tc s (by rw[hA];simp[hs]) (Pa _ hb);rw[h1]at he;cases he
  rcases hrel.op with hc|⟨hk,_⟩
  . have H:∀ρ',(∀b,Kept n0 R D b->ρ' b=ρ b)->∃N x,(execOp a.eval o).run P w= .ok N w/\Yields N x/\aj ρ' (cS n0 Y).toNat C v x:=by
        intro ρ' hf;have hW:=XM G (hI.2 ρ' hf) hp.split (hp:=h) Td λb y hb=>(DF b y hb).imp (λh=>h) λ⟨s,h1,h2,h3⟩=>
          ⟨s,by rw[hA];simp[h1],Pa _ h3,h2,hnZ s h1⟩
        exact J5 hT o.op ρ' C _ w _ _ _ _ a o _ _ rfl hc hW (hFR ρ' hf) (hex xs hx) (abq bN λ_ _ h=>h)
    obtain⟨N,x,he,hy,hv⟩:=H ρ FU;unfold O6;rw[he];refine hy.upon ⟨A,B,ρ,QH G hI hR hD n9 hrel rfl λρ' hf=> ?_⟩;obtain⟨N',x',ku,QI,xT⟩:=H ρ' hf;rw[he]at ku;simp only[Result.ok.injEq,Zk4]at ku;subst ku;rw[hy.eq QI];exact xT
  .rw[hk]at bN;cases bN
 |new   i' o' v av xs _ hw' hx bN=>
  rw[Za6 (hw _ hw')];rcases hrel.op with hc|⟨hk,_⟩
  . obtain⟨N,x,w',L,he,hy,h1,h2,h3,h4,h5,h6,h7⟩:=ZM hT hc bN (hex xs hx) (We:=λρ'=>∀b,Kept n0 R D b->ρ' b=ρ b) FU hFR
        (λad v ha=>((hI.2 ρ FU).W.dx ad v ha).1) (hI.2 ρ FU).W.whole
    unfold O6;rw[he];exact hy.upon ⟨A,B,_,abu G hI hR hD n9 hrel rfl h1 h2 h3 h4 h5 h6 h7⟩
  .rw[hk]at bN;cases bN
 |aE i' o' v st' xs _ abr hw' hx iY=>
  rw[Za6 (hw _ hw')];rcases hrel.op with hc|⟨hk,_⟩
  . have hY:∀s∈Y,D s.idx:=λs hs=>Pa _ (G.aE X _ Y hR abr s hs)
    have hZ:∀s∈Z,s.c.k9=false:=λs hs=>hp.Tc s (by rw[hA];simp[hs]) (hY s (by rw[QL];simp[hs]))
    have hW:aX ρ C { heap:=iI h0 Y,next:=cS n0 Y } w:=XM G (hI.2 ρ FU) hp.split Td λb y hb=>by
        rw[QL]at hb;rcases v7 hZ hp.bound hb with hb|⟨s,h1,h2⟩
        .exact .inl hb
        .exact .inr ⟨s,by rw[hA];simp[h1],hY s (by rw[QL];simp[h1]),h2,hnZ s h1⟩
    have hre:=K4 hT bH hc hW (hFR ρ FU) (hex xs hx) iY;(refine hre.mono λx w' XN=> ?_);obtain⟨lV,h⟩:=abx G hI hR hD n9 hrel hY rfl rfl XN;exact⟨_,_,lV,h⟩
  .exact(Reaches.bad hk iY).elim
end
section
variable{P:Program}{tt:TT}{C:Cells}{nt:Nat}{ops:Array Oper}{call:ai}{bP:Fr}{h0:T AB}{n0:Pos}{R:List Rec}
theorem QM(G:vZ tt nt ops call bP h0 n0 R){j6:Pos->Loc}{w0:World}{D:Nat->Prop}{A B:List Rec}{ρ:Pos->Loc}{a:Act}{w:World}
   (hI:Inv C nt ops bP h0 n0 R j6 w0 D A B ρ a w) (cG:∀r∈R,D r.idx):fB nt j6 C { heap:=h0,next:=n0 } w0 (l9 bP R) { heap:=iI h0 R,next:=cS n0 R } a w:=by
 obtain⟨hp,hI⟩:=hI;have h:=hI ρ λ_ _=>rfl
 have hZ:∀s∈A,s.c.k9=false:=λs hs=>hp.Tc s hs (cG s (by rw[hp.split];simp[hs]))
 have hnA:∀s∈A,s.nx.toNat<=(cS n0 R).toNat:=λs hs=>by obtain⟨Z1,Z2,hA⟩:=kP hs;have:=G.zm (X:=[]) (Y:=Z1) (Z:=s::(Z2++B)) (by rw[hp.split,hA];simp);have e:R=Z1++s::(Z2++B):=(by rw[hp.split,hA];simp);rw[<-e]at this;exact this
 have Td:(cS n0 B).toNat<=(cS n0 R).toNat:=by
   have:=G.zm (X:=[]) (Y:=A) (Z:=B) (by rw[hp.split];simp)
   rwa [<-hp.split]at this
 have K3:n0.toNat<=(cS n0 R).toNat:=G.XJ (X:=[]) rfl;have DF:∀b x,(iI h0 R).get b=some x->(iH h0 B).get b=some x\/∃s∈A,D s.idx/\s.c= .new b x/\s.nx.toNat<=(cS n0 R).toNat:=λb x hb=>by
   rw[hp.split]at hb;rcases v7 hZ hp.bound hb with hb|⟨s,h1,h2⟩
   .exact .inl hb
   .exact .inr ⟨s,h1,cG s (by rw[hp.split];simp[h1]),h2,hnA s h1⟩
 refine⟨ρ,⟨XM G h hp.split Td DF,?_,hp.size,hp.defers⟩,h.AT,K3,?_⟩
 . intro p v hv;rcases IA R p v hv with⟨M,s,T,hM,h2,rfl,h3⟩|⟨h1,h2⟩
   . obtain⟨x,hx,IB⟩:=h.t1 M s T p hM (cG s (by rw[hM];simp)) h2 λs' lZ _=>h3 s' lZ
     refine⟨x,hx,IB.mono (λ_ _=>rfl) ?_⟩;have:=G.zm (X:=[]) (Y:=M) (Z:=s::T) (by rw[hM];simp);rw[<-hM]at this;exact this
   . obtain⟨x,hx,IB⟩:=h.t0 p v h1 λs hs _=>h2 s hs
     exact⟨x,hx,IB.mono (λ_ _=>rfl) K3⟩
 . refine⟨h.E.os,h.E.tape,h.E.output,h.E.size,h.E.block,λb x hb=> ?_⟩;rcases DF b x hb with hb|⟨s,h1,h2,h3,_⟩
   .exact h.E.nr b x hb
   .exact .inr (h.N s h1 h2 b x h3).2.2.1
def DL(listed:Array Bool)(j:Nat):Prop:=listed.getD j false=true
theorem ZP{listed:Array Bool}{i:Nat}(hi:i<listed.size):(λj=>DL listed j\/j=i)=DL (listed.setIfInBounds i true):=by
 funext j;apply propext;unfold DL;by_cases h:j=i
 .subst h;simp[hi]
 .rw[getD_set_ne false (Ne.symm h)];simp[h]
theorem Th{listed:Array Bool}{j:Nat}(h:listed.getD j true=false):¬DL listed j:=by
 unfold DL;intro h';rcases Zh8 j listed.size with hj|hj
 .simp[hj]at h h';rw[h]at h';cases h'
 .simp[Array.getElem?_eq_none hj]at h'
theorem adw{listed:Array Bool}{j:Nat}(hj:j<listed.size)(h:¬DL listed j):listed.getD j true=false:=by unfold DL at h;simp[hj]at h ⊢; exact h
theorem IF(G:vZ tt nt ops call bP h0 n0 R){listed:Array Bool}(hs:listed.size=ops.size)(hr:Region.ready .any ops listed=[]):∀(Y X:List Rec),R=X++Y->∀r∈Y,DL listed r.idx
 |[],_,_,r,pZ=>by cases pZ
 |r ::Y  ,X,hR,r',pZ=>by
  have ih:=IF G hs hr Y (X++[r]) (by rw[hR];simp);rcases Zb0.1 pZ with rfl|pZ
  . obtain⟨o,ho,_,hB⟩:=G.rel r' (by rw[hR];simp);have aN:r'.idx<ops.size:=(Zd0.1 ho).1;by_cases h:DL listed r'.idx
    .   exact h
    .   exfalso;have:r'.idx∈Region.ready .any ops listed:=mem_ready.2 ⟨adw (by omega) h,o,ho,λe he hb=>by obtain⟨s,h1,h2⟩:=G.bC X r' Y hR _ (hB.1 o ho e he hb);have:=ih s h1;rw[h2]at this;exact this⟩;rw[hr]at this;cases this
  .exact ih r' pZ
theorem QN(hT:bM P tt)(bH:eV P C call)(G:vZ tt nt ops call bP h0 n0 R){Q:Exit->Act->World->Prop}{j6:Pos->Loc}{w0:World}
  (hQ:∀a' w',fB nt j6 C { heap:=h0,next:=n0 } w0 (l9 bP R) { heap:=iI h0 R,next:=cS n0 R } a' w'->Q .normal a' w'):
  ∀ (fuel:Nat)(listed:Array Bool)(U:List Nat)(A B:List Rec)(ρ:Pos->Loc)(a:Act)(w:World),listed.size=ops.size->U.length<=fuel->U.Nodup->(∀j,j<ops.size->¬DL listed j->j∈U)->
    Inv C nt ops bP h0 n0 R j6 w0 (DL listed) A B ρ a w->R8 P ops (Q .normal) fuel listed a w
 |0,listed,U,A,B,ρ,a,w,hs,hU,_,hm,hI=>by
  have hU0:U=[]:=Zb1 (by omega);subst hU0;have hr:Region.ready .any ops listed=[]:=by
    cases h:Region.ready .any ops listed with
    |nil=>rfl
    |   cons i l=>
        have hi:i∈Region.ready .any ops listed:=(by rw[h];simp);obtain⟨h1,o,ho,_⟩:=mem_ready.1 hi;have:=hm i (Zd0.1 ho).1 (Th h1);cases this
  exact⟨hr,hQ a w (QM G hI (IF G hs hr R [] rfl))⟩
 |fuel+1,listed,U,A,B,ρ,a,w,hs,hU,CJ,hm,hI=>by
  refine⟨λhr=>hQ a w (QM G hI (IF G hs hr R [] rfl)),λi hi=> ?_⟩;obtain⟨h1,o,ho,h2⟩:=mem_ready.1 hi;have aN:i<ops.size:=(Zd0.1 ho).1;have iY:=abz hT bH G hI aN (Th h1) λo' e CX he hb=>by rw[ho]at CX;simp only[H0]at CX;subst CX;exact h2 e he hb
  refine Qy (λa' w' hh=> ?_) iY;obtain⟨A',B',ρ',hI'⟩:=hh;rw[ZP (by omega)]at hI';have hiU:i∈U:=hm i aN (Th h1);refine QN hT bH G hQ fuel _ (U.erase i) A' B' ρ' a' w' (by simp[hs]) ?_ (CJ.erase i) (λj hj hD=> ?_) hI'
  .rw[List.length_erase_of_mem hiU];omega
  . (rw[<-ZP (by omega)]at hD;have aV:j≠i:=λe=>hD (.inr e));exact(List.mem_erase_of_ne aV).2 (hm j hj λh=>hD (.inl h))
theorem FV(hm:P.follows .mixedOrders=true)(hT:bM P tt)(bH:eV P C call)(afa:l7 call):p9 P tt C call:=by
 intro nt id ops l Q fr aY st st' ρ a w hl e8 h hS hQ;obtain⟨R,hG,hmap,KQ,afb,IE⟩:=NB (call:=call) (bP:=fr) (h0:=st.heap) (n0:=st.next) _ [] fr aY st st' h trivial rfl rfl rfl;simp only[Zf3]at hG KQ afb IE;have hst':st'={ heap:=iI st.heap R,next:=cS st.next R }:=by cases st';simp_all
 have hlen:l.length=ops.size:=by rw[(ny hl).1,Zf4]
 have ND:=K7 _ 0 [] e8 λb=>by simp
 have hL:uD (Bj 0 l) []=(R.map λr=>(r.idx,r.o)).reverse:=by rw[hmap,List.reverse_reverse]
 have dec:∀{A B:List Rec}{r:Rec},R=A++r::B->uD (Bj 0 l) []=(B.map λr=>(r.idx,r.o)).reverse++(r.idx,r.o)::(A.map λr=>(r.idx,r.o)).reverse:=λe=>by rw[hL,e];simp
 have L6:∀{B:List Rec}{i:Nat},i∈((B.map λr=>(r.idx,r.o)).reverse).map (·.1)↔ ∃r∈B,r.idx=i:=λ{B i}=>by simp
 have G:vZ tt nt ops call fr st.heap st.next R:=by
   refine⟨hG,afa,λA r B e r' pZ hi=> ?_,λA r B e b hb=> ?_,λA r B e hc r' pZ=> ?_,λA r B e r' pZ=> ?_,λr hr=> ?_,λi hi=> ?_⟩
   .exact(ND.one _ _ _ _ (dec e)).2 (L6.2 ⟨r',pZ,hi⟩)
   . rcases ND.bC _ _ _ _ (dec e) b hb with h|h
     .cases h
     .exact L6.1 h
   .exact ND.aE _ _ _ _ (dec e) hc _ (.inr (L6.2 ⟨r',pZ,rfl⟩))
   .exact ND.apart _ _ _ _ (dec e) (r'.idx,r'.o) (by simp;exact⟨r',pZ,rfl,rfl⟩)
   .obtain⟨A,B,e⟩:=kP hr;have hx:(r.idx,r.o)∈uD (Bj 0 l) []:=(by rw[dec e];simp);have h1:=adv hx;obtain⟨o,h2,h3,h4⟩:=yy hl _ _ h1;refine⟨o,h2,h3,?_⟩;rw[h4];exact V9 ops.toList [] rfl (Zh3 _) (λi hi=>by simp at hi) _ (Zd0.1 h2).1
   . rcases ND.all i (by rw[hlen];exact hi)with h|h
     .cases h
     .rw[hL]at h;exact L6.1 h
 refine⟨hm,?_⟩;rw[hst',KQ]at hQ;have hkn:∀b:Pos,b.toNat<st.next.toNat->∀D,Kept st.next R D b:=λb hb D A r B e _=>.inl (Zc7 hb (G.XJ (X:=A++[r]) (by rw[e];simp)))
 refine QN (Q:=Q) (j6:=ρ) (w0:=w) hT bH G hQ ops.size _ (List.range ops.size) R [] ρ a _ (by simp) (by simp) List.nodup_range (λj hj _=>Zj7.2 hj) ?_;have j4:∀j,¬DL (Array.replicate ops.size false) j:=λj h=>by
   unfold DL at h;rcases Zh8 j ops.size with hj|hj
   .simp[hj]at h
   .simp[Nat.not_lt.2 hj]at h
 refine⟨⟨by simp,trivial,(λr hr=>by cases hr),λr _ hD=>absurd hD (j4 _),λi _ _ hD=>absurd hD (j4 _),hS.size,hS.defers⟩,λρ' yA=> ?_⟩;have nR:∀b:Pos,b.toNat<st.next.toNat->ρ' b=ρ b:=λb hb=>yA b (hkn b hb _)
 have hW:aX ρ' C st { w with drawn:=w.drawn+1 }:=(hS.W.congr nR).grow (Za5 _) λ_ _=>rfl
 refine⟨hW,λr _ hD=>absurd hD (j4 _),λr _ hD=>absurd hD (j4 _),λM s T p _ hD=>absurd hD (j4 _),λp v hv _=> ?_,⟨rfl,rfl,rfl,Za5 _,λ_ _ _=>rfl,λb x hb=>.inl ⟨b,x,hb,?_⟩⟩,nR⟩
 .obtain⟨x,hx,IB⟩:=hS.F p v hv;exact⟨x,hx,IB.mono nR (Za5 _)⟩
 .rw[nR b (hS.W.live b x hb).1]
theorem Fp(hm:P.follows .mixedOrders=true)(hT:bM P tt){O:dZ}{G:T cE}(hO:oV P C O)(IG:kC O)(hG:MU P tt G)(m d:Nat):eV P C (oX O G m d):=
 K5 hT hO hG m (λd bH=>FV hm hT bH (FN IG m d)) d
end
end
section
section
variable{R:Type}
theorem sF{α:Type}:∀(p:Pos)(t:T α),lW p t=t.get p
 |.h,.e=>rfl
 |.h,.n _ _ _=>rfl
 |.o _,.e=>rfl
 |.o p,.n l _ _=>sF p l
 |.i _,.e=>rfl
 |.i p,.n _ _ r=>sF p r
theorem ir{α:Type}(x:Option α):∀(p:Pos)(t:T α)(k:T α->R),nu x p t k=k (t.put x p)
 |.h,.e,_=>rfl
 |.h,.n _ _ _,_=>rfl
 |.o p,.e,k=>ir x p .e _
 |.o p,.n l _ _,k=>ir x p l _
 |.i p,.e,k=>ir x p .e _
 |.i p,.n _ _ r,k=>ir x p r _
theorem yX(n:Nat)(k:Nat->R):nv n k=k n:=by cases n<;>rfl
theorem Vv(n:Int)(k:Int->R):LP n k=k n:=by cases n<;>simp only[LP,yX]
theorem Ti(b:Bool)(k:Bool->R):Qn b k=k b:=by cases b<;>rfl
theorem C4{α:Type}:∀(l:List α)(k:List α->R),vS l k=k l
 |[],_=>rfl
 |a::l,k=>C4 l λt=>k (a::t)
theorem DG:∀(p:Pos)(k:Pos->R),FB p k=k p
 |.h,_=>rfl
 |.o p,k=>DG p λq=>k (.o q)
 |.i p,k=>DG p λq=>k (.i q)
theorem ZQ(o:Option Nat)(k:Option Nat->R):Sz o k=k o:=by
 cases o with
 |none=>rfl
 |some n=>simp only[Sz,yX]
theorem QO(v:AV)(k:AV->R):Io v k=k v:=by
 cases v<;>simp only[Io,Ti,Vv,C4,DG,yX,ZQ]
theorem FW:∀(l:List AV)(k:List AV->R),J3 l k=k l
 |[],_=>rfl
 |a::l,k=>by
  show Io a (λa=>J3 l λt=>k (a::t))=_;rw[QO,FW l]
theorem C5(v:AV)(k:AV->R):pX v k=k v:=by
 unfold pX;split
 .exact FW _ _
 .exact QO _ _
theorem FX(x:AB)(k:AB->R):Bb x k=k x:=by
 cases x<;>simp only[Bb,C4,yX]
theorem FY:∀(p:Pos)(k:Pos->R),Nb p k=k p.succ
 |.h,_=>rfl
 |.o _,_=>rfl
 |.i p,k=>FY p λq=>k (.o q)
variable(z:R)
def nD{α:Type}(r:Option α)(k:α->R):R:=match r with
 |some x=>k x
 |none=>z
theorem II(fr:Fr)(x:dU)(k:AV->R):Qo z fr x k=nD z (zi fr x) k:=by
 cases x with
 |t p=>simp only[Qo,sF,zi,nD];cases T.get p fr<;>rfl
 |c v=>rfl
theorem J7(fr:Fr):∀(xs:List dU)(k:List AV->R),LQ z fr xs k=nD z (dV fr xs) k
 |[],k=>rfl
 |x::xs,k=>by
  show Qo z fr x (λv=>LQ z fr xs λvs=>k (v::vs))=_;rw[II];simp only[J7 fr xs];simp only[dV];cases zi fr x with
  |none=>rfl
  |some v=>simp only[nD];cases dV fr xs<;>rfl
theorem NF(fr:Fr)(g:Option (Pos×Bool))(yes no:R):Bc z fr g yes no=match bI fr g with
  |some true=>yes
  |some false=>no
  |none=>z:=by
 unfold Bc bI;cases g with
 |none=>rfl
 |some g=>
  obtain⟨p,want⟩:=g;simp only[sF];cases T.get p fr with
  |none=>rfl
  |some v=>
   (cases v<;>try rfl);rename_i b;cases b<;>cases want<;>rfl
theorem NG(fr:Fr)(d:Option Pos)(v:AV)(k:Fr->R):ki fr d v k=k (cM fr d v):=by
 cases d with
 |none=>rfl
 |some p=>exact ir _ _ _ _
theorem adx(st:St)(del:Option Pos)(set:Option (Pos×AB))(new:Option AB)(k:St->R):aa5 st del set new k=k (st.aE del set new):=by
 have hdel:∀(h:T AB)(k:T AB->R),delK del h k=k (Dw del h):=λh k=>by
  cases del with
  |none=>rfl
  |some b=>exact ir _ _ _ _
 have FH:∀(h:T AB)(k:T AB->R),OW set h k=k (Fy set h):=λh k=>by
  cases set with
  |none=>rfl
  |some b=>simp only[OW,FX,ir];rfl
 unfold aa5;rw[hdel,FH];cases new with
 |none=>rfl
 |some x=>simp only[FX,ir,FY];rfl
def CK(bf:iA R)(call:ai):Prop:=∀f args st k,bf f args st k=nD z (call f args st) λx=>k x.1 x.2
variable{bf:iA R}{call:ai}
theorem FZ(h:T AB):(λb=>lW b h)=λb=>h.get b:=funext λb=>sF b h
theorem Tj(hc:CK z bf call)(op:ay)(xs:List AV)(st:St)(k:AV->St->R):J4 z bf op xs st k=nD z (bF call op xs st) λx=>k x.1 x.2:=by
 unfold J4 bF;rw[FZ];cases op.run (λb=>st.heap.get b) st.next xs with
 |none=>rfl
 |some r=>
  cases r with
  |val v=>simp only[C5];rfl
  |aE v d s n=>simp only[C5,adx];rfl
  |call f args=>simp only[C4];exact hc f args st k
theorem J8(hc:CK z bf call):∀(ops:List bk)(fr:Fr)(st:St)(k:Fr->St->R),OX z bf ops fr st k=nD z (iW call ops fr st) λx=>k x.1 x.2
 |[],fr,st,k=>rfl
 |o::os,fr,st,k=>by
  show Bc z fr o.guard (LQ z fr o.xs λxs=>J4 z bf o.k xs st λv st=>ki fr o.dst v λfr=>OX z bf os fr st k) (ki fr o.dst .undef λfr=>OX z bf os fr st k)=_;rw[NF,J7];simp only[Tj z hc,NG,J8 hc os];simp only[iW];cases bI fr o.guard with
  |none=>rfl
  |some b=>
   cases b with
   |false=>rfl
   |    true=>
        simp only[];cases dV fr o.xs with
        |none=>rfl
        |some xs=>
         simp only[nD];cases bF call o.k xs st with
         |none=>rfl
         |some x=>rfl
theorem BE(bC:Nat)(h:T AB):∀(recs:List Rec)(k:T AB->R),FC bC h recs k=k (snap bC h recs)
 |[],k=>rfl
 |r::rs,k=>by
  show (match r.c with
   |    .new id av=>match bC.testBit r.idx with
        |true=>FC bC h rs λh'=>nu (some av) id h' k
        |false=>FC bC h rs k
   |.aE _ _=>k h
   |.pure=>FC bC h rs k)=_
  unfold snap;cases r.c with
  |pure=>exact BE bC h rs k
  |aE _ _=>rfl
  |new id av=>
   simp only[];cases bC.testBit r.idx with
   |true=>simp only[BE bC h rs,ir]
   |false=>exact BE bC h rs k
theorem QT(h:T AB):∀(l:List (Pos×AB))(k:T AB->R),SA h l k=k (yV l h)
 |[],k=>rfl
 |(id,av)::l,k=>by show SA h l (λh'=>nu (some av) id h' k)=_;rw[QT h l,ir];rfl
theorem v8(bC:Nat)(op:ay)(xs:List AV)(v:AV):∀(recs:List Rec)(up:List (Pos×AB)),oJ bC op xs v up recs=kg bC op xs v up recs
 |[],up=>rfl
 |r::rs,up=>by
  unfold oJ kg;cases r.c with
  |pure=>exact v8 bC op xs v rs up
  |new id av=>simp only[v8 bC op xs v rs]<;>(cases bC.testBit r.idx<;>rfl)
  |aE base _=>
   simp only[v8 bC op xs v rs,BE,QT];unfold SB su;simp only[FZ]<;>(cases bC.testBit r.idx<;>rfl)
theorem Tk (hc:CK z bf call):∀(ops:List (Nat×bk))(recs:List Rec)(base:T AB)(fr:Fr)(st:St)(k:Fr->St->R),
  FD z bf ops recs base fr st k=nD z (cL call ops recs base fr st) λx=>k x.1 x.2
 |[],recs,base,fr,st,k=>rfl
 |(j,   o)::  os,recs,base,fr,st,k=>by
  show Bc   z fr o.guard
    (LQ   z fr o.xs λxs=>match o.cls with
        | .new=>match o.k.run (λ_=>none) st.next xs with
          |some (.aE v none none (some av))=>pX v λv=>Bb av λav=>ki fr o.dst v λfr=>Nb st.next λn=>nu (some av) st.next st.heap λh=>
              FD z bf os ({ idx:=j,o:=o,v:=v,c:= .new st.next av,nx:=n }::recs) base fr { heap:=h,next:=n } k
          |_=>z
        |.aE=>J4 z bf o.k xs st λv st'=>ki fr o.dst v λfr=>FD z bf os ({ idx:=j,o:=o,v:=v,c:= .aE base st'.heap,nx:=st'.next }::recs) st'.heap fr st' k
        | _ =>match o.k.run (λ_=>none) .h xs with
          |some (.val v)=>pX v λv=>ki fr o.dst v λfr=>FD z bf os ({ idx:=j,o:=o,v:=v,c:= .pure,nx:=st.next }::recs) base fr st k
          | _ =>FC o.bC base recs λh=>match o.k.run (λb=>lW b h) .h xs with
            | some (.val v)=>pX v λv=>match oJ o.bC o.k xs v [] recs with
              |true=>ki fr o.dst v λfr=>FD z bf os ({ idx:=j,o:=o,v:=v,c:= .pure,nx:=st.next }::recs) base fr st k
              |false=>z
            |_=>z)
    (ki fr o.dst .undef λfr=>FD z bf os ({ idx:=j,o:=o,v:= .undef,c:= .pure,nx:=st.next }::recs) base fr st k)=_
  rw[NF,J7];simp only[Tj z hc,NG,C5,FX,FY,ir,BE,v8,FZ,Tk hc os];simp only[cL];cases bI fr o.guard with
  |none=>rfl
  | some b=>
    cases b with
    |false=>rfl
    |   true=>
        simp only[];cases dV fr o.xs with
        |none=>rfl
        | some xs=>
          simp only[nD];cases o.cls with
          | new=>
            simp only[];split<;>simp_all
          | aE=>
            simp only[];cases bF call o.k xs st with
            |none=>rfl
            |some x=>rfl
          | pure=>
            simp only[];split
            .simp_all
            .split<;>simp_all;split<;>simp_all
          | read=>
            simp only[];split
            .simp_all
            .split<;>simp_all;split<;>simp_all
def Tl(r:Option (js×Fr×St))(kn:Fr->St->R)(kx:Nat->Fr->St->R)(kr:Fr->St->R):R:=match r with
 |some (.normal,fr,st)=>kn fr st
 |some (.exit id,fr,st)=>kx id fr st
 |some (.ret,fr,st)=>kr fr st
 |none=>z
theorem L7(hc:CK z bf call):∀(m:Nat)(c:AC)(fr:Fr)(st:St)(kn:Fr->St->R)(kx:Nat->Fr->St->R)(kr:Fr->St->R),
  Nc z bf m c fr st kn kx kr=Tl z (exec call m c fr st) kn kx kr
 |0,c,fr,st,kn,kx,kr=>rfl
 |m+    1,c,fr,st,kn,kx,kr=>by
  have ih:=L7 hc m;show oK z bf (Nc z bf m) c fr st kn kx kr=Tl z (aZ call (exec call m) c fr st) kn kx kr;cases c with
  |skip=>rfl
  |region ops=>
   simp only[oK,aZ,J8 z hc];cases iW call ops fr st with
   |none=>rfl
   |some x=>rfl
  |draw ops=>
   simp only[oK,aZ,Tk z hc];cases cL call ops [] st.heap fr st with
   |none=>rfl
   |some x=>rfl
  |seq a b=>
   simp only[oK,aZ,ih];cases exec call m a fr st with
   |none=>rfl
   |    some x=>
        obtain⟨e,bO,aM⟩:=x;cases e<;>rfl
  |cond x a b=>
   simp only[oK,aZ,II];cases zi fr x with
   |none=>rfl
   |    some v=>
        simp only[nD];(cases v<;>try rfl);rename_i t;cases t<;>simp only[ih]
  |block id a=>
   simp only[oK,aZ,ih];cases exec call m a fr st with
   |none=>rfl
   |    some x=>
        obtain⟨e,bO,aM⟩:=x;(cases e<;>try rfl);rename_i qG;simp only[Tl];cases Nat.beq qG id<;>rfl
  |loop a=>
   simp only[oK,aZ,ih];cases exec call m a fr st with
   |none=>rfl
   |    some x=>
        obtain⟨e,bO,aM⟩:=x;cases e<;>rfl
  |exit id=>rfl
  |ret=>rfl
theorem AW:∀(vs:List AV)(i:Nat)(fr:Fr)(k:Fr->R),yu vs i fr k=k (params i vs fr)
 |[],i,fr,k=>rfl
 |v::vs,i,fr,k=>by show nu (some v) (key i) fr (λfr=>yu vs (i+1) fr k)=_;rw[ir,AW vs];rfl
theorem Vw(st:St)(fr:Fr)(rs:List zh)(k:AV->R):yw z st fr rs k=nD z (cw (λb=>st.heap.get b) fr rs) λvs=>k (gD vs):=by
 unfold yw;rw[FZ];cases cw (λb=>st.heap.get b) fr rs with
 |none=>rfl
 |some vs=>
  simp only[FW,nD];cases vs with
  |nil=>rfl
  |cons v vs=>cases vs<;>rfl
theorem F0 (O:dZ)(G:T cE)(m:Nat):∀d,CK z (CL z O G m d) (oX O G m d)
 |0=>λf args st k=>rfl
 |d+    1=>fun f args st k=>by
  have ih:=F0 O G m d;show( match O f with
   |    some s=>match s args st with
        |some (v,st')=>pX v λv=>k v st'
        |none=>z
   |    none=>match lW (key f) G with
        |some F=>match Nat.beq args.length F.nparams with
         |true=>yu args 0 .e λfr=>Nc z (CL z O G m d) m F.code fr st
             (λfr st=>yw z st fr F.results λv=>k v st)
             (λ_ _ _=>z)
             (λfr st=>yw z st fr F.results λv=>k v st)
         |false=>z
        |none=>z)=_
  simp only[oX,C5,sF,AW,L7 z ih,Vw];cases O f with
  |some s=>
   simp only[];cases s args st with
   |none=>rfl
   |some x=>rfl
  |none=>
   simp only[];cases G.get (key f)with
   |none=>rfl
   |    some F=>
        simp only[];cases Nat.beq args.length F.nparams with
        |false=>rfl
        |true=>
         simp only[];cases exec (oX O G m d) m F.code (params 0 args .e) st with
         |none=>rfl
         |  some x=>
            obtain⟨e,bO,aM⟩:=x;cases e with
            |normal=>
             simp only[Tl];cases cw (λb=>aM.heap.get b) bO F.results<;>rfl
            |exit id=>rfl
            |ret=>
             simp only[Tl];cases cw (λb=>aM.heap.get b) bO F.results<;>rfl
end
end
section
open Go
def XT (P:Program)(t:Nat)(ti:TI):Bool:=
 match P.underlying t,P.info? t with
 |  some d,some i=>bD ti.k d&&Nat.beq i.size ti.size&&Nat.beq i.bytes ti.bytes&&
    (match ti.zero with
     |none=>true
     | some z=>match i.zero with
       |some v=>(match mS v.cells.toList with
           |some z'=>q7 z' z
           |none=>false)&&Nat.beq z.length ti.size&&(match ti.k.isAgg,v with
           |true,.agg _=>true
           |true,_=>false
           |false,.agg _=>false
           |false,_=>true)
       |none=>false)&&(match ti.k with
     |.ptr e=>(P.info? e).isSome
     |_=>true)&&(!ti.uC||(!P.stoodInHeld t&& !P.eqGuardType P.depth t))
 |_,_=>false
theorem abA{P:Program}{t:Nat}{ti:TI}(h:XT P t ti=true):Xo P t ti:=by
 unfold XT at h;split at h<;>first|(cases h;done)|skip
 rename_i d i hd hi;simp only[Za8,Zh0,Zh4]at h;obtain⟨⟨⟨⟨⟨h1,h2⟩,h3⟩,h4⟩,h6⟩,h5⟩:=h;refine⟨⟨d,hd,h1⟩,⟨i,hi,Za2 h2,Za2 h3,λz hz=> ?_⟩,λe he=> ?_,λhe=> ?_⟩
 . rw[hz]at h4;simp only at h4;(split at h4<;>first|(cases h4;done)|skip);rename_i v hv;simp only[Za8]at h4;obtain⟨⟨g1,g2⟩,g3⟩:=h4;(split at g1<;>first|(cases g1;done)|skip);rename_i z' xW;rw[yW g1]at xW;refine⟨v,hv,xW,Za2 g2,λha=> ?_,λha=> ?_⟩
   .rw[ha]at g3;cases v<;>first|exact⟨_,rfl⟩|cases g3
   .rw[ha]at g3;cases v<;>first|rfl|cases g3
 .rw[he]at h6;exact Option.isSome_iff_exists.1 h6
 . rcases h5 with h5|h5
   .rw[he]at h5;cases h5
   .exact h5
def A7(P:Program):(Pos->Pos)->T TI->Bool
 |_,.e=>true
 |  f,.n l v r=>(match v with
    |some ti=>XT P ((f .h).toNat - 1) ti
    |none=>true)&&A7 P (λp=>f (.o p)) l&&A7 P (λp=>f (.i p)) r
theorem F6{P:Program}:∀{t:T TI}{f:Pos->Pos},A7 P f t=true->∀p ti,t.get p=some ti->Xo P ((f p).toNat - 1) ti
 |.e,f,_,p,ti,h=>by rw[T.dm]at h;cases h
 | .n l v r,f,hc,p,ti,h=>by
   simp only[A7,Za8]at hc;cases p with
   |h=>simp only[T.get]at h;rw[h]at hc;exact abA hc.1.1
   |o p=>exact F6 hc.1.2 p ti h
   |i p=>exact F6 hc.2 p ti h
theorem adk{P:Program}{tt:TT}(h:A7 P (λp=>p) tt=true):bM P tt:=λp ti hp=>F6 h p ti hp
end
noncomputable section
open Go
def Ex{α:Type}(g:Nat->Option α):Nat->Nat->Nat->T α
 |0,_,_=>.e
 |d+1,a,m=>.n (Ex g d a (2*m)) (g (a+m - 1)) (Ex g d (a+m) (2*m))
theorem F7{α:Type}{g:Nat->Option α}:∀{d a m:Nat}{p:Pos}{x:α},(Ex g d a m).get p=some x->g (a+m*p.toNat - 1)=some x
 |0,_,_,p,x,h=>by rw[Ex,T.dm]at h;cases h
 |d+1,a,m,.h,x,h=>by rw[Pos.toNat,Zj3];exact h
 |d+1,a,m,.o p,x,h=>by
  have:=F7 (d:=d) (a:=a) (m:=2*m) (p:=p) (x:=x) h;rw[Pos.toNat];have e:a+m*(2*p.toNat) - 1=a+2*m*p.toNat - 1:=by rw[<-Nat.mul_assoc,Nat.mul_comm m 2]
  rw[e];exact this
 |d+1,a,m,.i p,x,h=>by
  have:=F7 (d:=d) (a:=a+m) (m:=2*m) (p:=p) (x:=x) h;rw[Pos.toNat];have e:a+m*(2*p.toNat+1) - 1=a+m+2*m*p.toNat - 1:=by rw[Nat.mul_add,Zj3, <-Nat.mul_assoc,Nat.mul_comm m 2];omega
  rw[e];exact this
def ac6(P:Program)(tt:TT)(i:Nat):Option cE:=match P.funcs[i]? with
 |some fn=>R5 tt fn
 |none=>none
def ggOf(P:Program)(tt:TT):T cE:=Ex (ac6 P tt) 10 0 1
theorem adl{P:Program}{tt:TT}(h:(P.funcs.toList.all λfn=> !(fn.name== "runtime.NumGoroutine"))=true):MU P tt (ggOf P tt):=λp F hp=>by
 have:=F7 hp;rw[Zc4,Zn5,ac6]at this;split at this<;>first|(cases this;done)|skip
 rename_i fn Ah;refine⟨fn,Ah,?_,this⟩;have:=Zd1.1 h fn (by obtain⟨hi,e⟩:=Zd0.1 Ah;exact Zk6.2 (e ▸Array.getElem_mem hi));simpa using this
def tkOf(P:Program)(t:Nat):TK:=match P.underlying t with
 |some .bool=>.bool
 |some (.int k)=>.int k
 |some .string=>.string
 |some (.pointer e)=>.ptr e
 |some (.slice e)=>.slice e
 |some (.array n e)=>.array n e
 |some (.map k e)=>.map k e
 |some (.struct fs)=>.struct (fs.toList.map λf=>(f.offset,f.type,f.name != "_"))
 |some (.func _ _ _)=>.func
 |some (.interface _)=>.iface
 |some .unsafePointer=> .Za
 |_=>.other
def zeroOf:Option Value->Option (List AV)
 |  some v=>match Nat.ble v.cells.size 64 with
    |true=>mS v.cells.toList
    |false=>none
 |none=>none
def memN(n:Nat):List Nat->Bool
 |[]=>false
 |  m::l=>match Nat.beq m n with
    |true=>true
    |false=>memN n l
def tiOf(P:Program)(eqs:List Nat)(t:Nat):Option TI:=match P.info? t with
 |none=>none
 |some i=>some { k:=tkOf P t,size:=i.size,bytes:=i.bytes,zero:=zeroOf i.zero,uC:=memN t eqs }
def ttOf(P:Program)(eqs:List Nat):T TI:=Ex (tiOf P eqs) 10 0 1
def kS(p n c e:Nat):AV:= .slice (key p) 0 n (some c) e
end
section
open Go
structure mE(P:Program)(C:Cells)(f:FuncId)(s:List AV->St->Option (AV×St)):Prop where
 mono:∀args st v st',s args st=some (v,st')->st.next.toNat<=st'.next.toNat
 runs:∀(ρ:Pos->Loc)(st:St)(w:World)(args:List AV)(v:AV)(st':St)(bE:List Value),s args st=some (v,st')->
  aX ρ C st w->au ρ st.next.toNat C args bE->Reaches P (l6 ρ C st w v st') ((callFunc f bE.toArray).run P w)
def vN:List (Nat×(List AV->St->Option (AV×St)))->dZ
 |[]=>λ_=>none
 |  (g,s)::l=>λf=>match Nat.beq f g with
    |true=>some s
    |false=>vN l f
theorem uF{P:Program}{C:Cells}:∀{l:List (Nat×(List AV->St->Option (AV×St)))},(∀x∈l,mE P C x.1 x.2)->oV P C (vN l)/\kC (vN l)
 |[],_=>⟨λf s h=>by simp[vN]at h,λf s h=>by simp[vN]at h⟩
 |(g,   s0)::l,hl=>by
  obtain⟨h1,h2⟩:=uF λx hx=>hl x (Za7 _ hx)
  have h0:=hl _ (Zc3 ..);refine⟨λf s h=> ?_,λf s h=> ?_⟩
  . simp only[vN]at h;split at h
    .   rename_i he;simp only[H0]at h;subst h;have:=Za2 he;subst this;exact h0.runs
    .   exact h1 f s h
  . simp only[vN]at h;split at h
    .   simp only[H0]at h;subst h;exact h0.mono
    .   exact h2 f s h
def Ih:List AV->St->Option (AV×St)
 |  [.str a,.str b],st=>some (.int .i64 (match az a b with
    |true=>.negSucc 0
    |false=>match az b a with
     |true=>.ofNat 1
     |false=>.ofNat 0),st)
 |_,_=>none
theorem IJ:∀(x y:List UInt8),Lib.compareBytes x y=match az (x.map UInt8.toNat) (y.map UInt8.toNat)with
  |true=>.negSucc 0
  | false=>match az (y.map UInt8.toNat) (x.map UInt8.toNat)with
    |true=>.ofNat 1
    |false=>.ofNat 0
 |[],[]=>rfl
 |[],_::_=>rfl
 |_::_,[]=>rfl
 |a ::x  ,b::y=>by
  rw[qm,qm];have ih:=IJ x y;rw[qm,qm]at ih;simp only[Lib.compareBytes,Op.bytesLess];by_cases h:a<b
  .simp[h]
  . by_cases h':b<a
    .   have aV:(a==b)=false:=(by rw[Zn9];exact λe=>by subst e;exact h h');simp[h,h',aV]
    .   have he:a=b:=(by apply Zp7.1;rw[Zm6]at h h';omega);subst he;simp only[h,Zf7,ih];simp
theorem aa2{P:Program}{C:Cells}{f:FuncId}{fn:Func}(hf:P.funcs[f]? =some fn)(ji:(fn.name== "runtime.NumGoroutine")=false)(hb:fn.body.isNone=true)
  (hx:Extern.findNext fn=none) (he:Extern.find fn=some Extern.BytealgCompare.compare):mE P C f Ih where
 mono args st v st' h:=by unfold Ih at h;split at h<;>cases h;exact Za5 _
 runs ρ st w args v st' bE h hW hv:=by
  unfold Ih at h;split at h<;>cases h;rename_i a b;obtain⟨x,xs,rfl,h1,h2⟩:=hv.cons_inv;obtain⟨y,ys,rfl,h3,h4⟩:=h2.cons_inv;have:=h4.mL;subst this;obtain⟨s,rfl,hs⟩:=h1.dX;obtain⟨t,rfl,ht⟩:=h3.dX;have bN:(callFunc f [Value.string s,Value.string t].toArray).run P w= .ok (.value (.int .i64 (Lib.compareBytes s.data.toList t.data.toList))) w:=by rw[run_callFunc_extern hf ji hb hx he];show((Extern.BytealgCompare.compare #[.string s,.string t]).run P w).andThen _=_;rw[Lib.run_compareString];rfl
  rw[bN];refine⟨ρ,?_,λ_ _=>rfl,Za5 _,hW,jN.refl _ _ _⟩;rw[IJ,hs,ht];exact .int _ _
def zo:List AV->List AV->Bool
 |[],[]=>true
 |a::x,b::y=>e9 a b&&zo x y
 |_,_=>false
theorem C6:∀{a b:List AV},zo a b=true->a=b
 |[],[],_=>rfl
 |[],_::_,h=>by simp[zo]at h
 |_::_,[],h=>by simp[zo]at h
 |a::x,b::y,h=>by
  simp only[zo,Za8]at h;rw[pg h.1,C6 h.2]
def J9:List (AV×AV×Nat)->List (AV×AV×Nat)->Bool
 |[],[]=>true
 |(a,b,n)::x,(a',b',n')::y=>e9 a a'&&e9 b b'&&Nat.beq n n'&&J9 x y
 |_,_=>false
theorem Tm:∀{a b:List (AV×AV×Nat)},J9 a b=true->a=b
 |[],[],_=>rfl
 |[],_::_,h=>by simp[J9]at h
 |_::_,[],h=>by simp[J9]at h
 |(a,b,n)::x,(a',b',n')::y,h=>by
  simp only[J9,Za8]at h;obtain⟨⟨⟨h1,h2⟩,h3⟩,h4⟩:=h;rw[pg h1,pg h2,Za2 h3,Tm h4]
def C7:AB->AB->Bool
 |.cells cs fz,.cells lH fz'=>zo cs lH&&Nat.beq fz fz'
 |.map es c,.map es' c'=>J9 es es'&&Nat.beq c c'
 |.jq s p,.jq s' p'=>iF s s'&&Nat.beq p p'
 |.typed t cs,.typed t' lH=>zo cs lH&&Nat.beq t t'
 |_,_=>false
theorem L8{a b:AB}(h:C7 a b=true):a=b:=by
 unfold C7 at h;split at h<;>(try simp only[Za8]at h)
 .rw[C6 h.1,Za2 h.2]
 .rw[Tm h.1,Za2 h.2]
 .rw[kD.1 h.1,Za2 h.2]
 .rw[C6 h.1,Za2 h.2]
 .cases h
structure Lit where
 args:List AV
 n0:Pos
 L0:List (Pos×AB)
 v:AV
 n1:Pos
 L1:List (Pos×AB)
end
end Go.Ai
