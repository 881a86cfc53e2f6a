/- Its calls answer as the model does. -/
import Derived.Test.YtlkadmkojjceiaaGreatDoorKEvalC
import Derived.Lib.Bytealg
set_option linter.all false
namespace Go.Ai
section
open Go Go.RowKit
theorem zo{a b:AV}(h:jq a b=true):a=b:=by
 unfold jq at h;split at h<;>(try simp only[Za2,Zd3]at h)<;>try rfl
 .rw[beq_iff_eq.1 h]
 .rename_i k i k' i';have h2:=h.2;rw[jU]at h2;rw[ue h.1,beq_iff_eq.1 h2]
 .rw[kS.1 h]
 .rw[Pos.beq_eq.1 h.1,H2 h.2]
 .obtain⟨⟨⟨h1,h2⟩,h3⟩,h4⟩:=h;rw[Pos.beq_eq.1 h1,H2 h2,H2 h3,H2 h4]
 .obtain⟨⟨⟨⟨h1,h2⟩,h3⟩,h4⟩,h5⟩:=h;rw[Pos.beq_eq.1 h1,H2 h2,H2 h3,H2 h4,H2 h5]
 .rw[Pos.beq_eq.1 h]
theorem Cy:∀{a b:List AV},tG a b=true->a=b
 |[],[],_=>rfl
 |[],_::_,h=>by simp[tG]at h
 |_::_,[],h=>by simp[tG]at h
 |a::x,b::y,h=>by
  simp only[tG,Za2]at h;rw[zo h.1,Cy h.2]
theorem QV{f:AV->AV->Bool}(hf:∀{a b},f a b=true->a=b):∀{a b:List AV},BE f a b=true->a=b
 |[],[],_=>rfl
 |[],_::_,h=>by simp[BE]at h
 |_::_,[],h=>by simp[BE]at h
 |a::x,b::y,h=>by
  simp only[BE,Za2]at h;rw[hf h.1,QV hf h.2]
theorem LN{f:AV->AV->Bool}(hf:∀{a b},f a b=true->a=b):∀{a b:List (List AV)},ud f a b=true->a=b
 |[],[],_=>rfl
 |[],_::_,h=>by simp[ud]at h
 |_::_,[],h=>by simp[ud]at h
 |a::x,b::y,h=>by
  simp only[ud,Za2]at h;rw[QV hf h.1,LN hf h.2]
theorem QW:∀{d:Nat}{a b:AV},BF d a b=true->a=b
 |0,_,_,h=>by unfold BF at h;exact zo h
 |d +1,a,b,h=>by
  unfold BF at h;split at h
  .rename_i heq;cases heq;simp only[Za2]at h;rw[LN (λh=>QW h) h.1,H2 h.2]
  .exact zo h
theorem LO{a b:AV}(h:w6 a b=true):a=b:=by
 unfold w6 at h;split at h
 .simp only[Za2]at h;rw[H2 h.1.1,Cy h.1.2,Cy h.2]
 .exact QW h
 .exact zo h
theorem xE:∀{a b:List AV},p9 a b=true->a=b
 |[],[],_=>rfl
 |[],_::_,h=>by simp[p9]at h
 |_::_,[],h=>by simp[p9]at h
 |a::x,b::y,h=>by
  simp only[p9,Za2]at h;rw[LO h.1,xE h.2]
theorem nJ{a b:AV}(h:fj a b=true):a=b:=by
 unfold fj at h;split at h
 .rw[xE h]
 .rw[xE h]
 .exact LO h
theorem Yr {k: au}{H H':Pos->Option AB}{n n':Pos}{xs:List AV}{v:AV}(h:k.run H n xs=some (.val v))(hm:∀b x,H b=some x->H' b=some x):
  k.run H' n' xs=some (.val v):=by
 cases k<;>simp only[au.run]at h ⊢ <;>try exact h
 case alloc z=>unfold Ez at h;split at h<;>cases h
 case box=>unfold Lj at h;split at h<;>cases h
 case buildSlice es len z p=>unfold ow at h;dsimp only at h;split at h<;>cases h
 case mkMap=>unfold EC at h;cases h
 case mkSlice es b z=>
  unfold u0 at h
  repeat' split at h
  all_goals cases h
 case rangeS=>
  unfold BC at h
  repeat' split at h
  all_goals cases h
 case store m=>
  unfold zQ at h
  repeat' split at h
  all_goals cases h
 case mapSet pk=>
  unfold tZ at h
  repeat' split at h
  all_goals cases h
 case load m=>
  unfold qU at h ⊢;split at h<;>first|(cases h;done)|skip
  split at h<;>first|(cases h;done)|skip
  . split at h<;>first|(cases h;done)|skip
    .   rename_i cs fz hb;simp only[hm _ _ hb];exact h
    .   rename_i t0 cs hb;simp only[hm _ _ hb];exact h
  .exact h
 case conv c=>
  unfold wZ at h ⊢;split at h<;>first|(cases h;done)|skip
  split at h<;>first|(cases h;done)|exact h|skip
  rename_i b off m _ _;cases hb:Nat.beq m 0 with
  |true=>simp only[hb]at h ⊢; exact h
  | false=>
    simp only[hb]at h ⊢;cases hH:H b with
    |none=>simp[hH]at h
    |some x=>simp only[hH]at h;simp only[hm _ _ hH];exact h
 case lookup pk z ok=>
  unfold tY at h ⊢;split at h<;>first|(cases h;done)|skip
  rename_i m k';cases m<;>try exact h
  rename_i b;cases hb:H b with
  |none=>simp[hb]at h
  | some x=>
    simp only[hb]at h;simp only[hm _ _ hb];exact h
 case lenB lk=>
  unfold Dg at h ⊢;split at h<;>first|(cases h;done)|skip
  split at h<;>first|(cases h;done)|exact h|skip
  split at h<;>first|(cases h;done)|skip
  rename_i es c hb;simp only[hm _ _ hb];exact h
 case nextS=>
  unfold ED at h ⊢;split at h<;>first|(cases h;done)|skip
  split at h<;>first|(cases h;done)|skip
  split at h<;>first|(cases h;done)|skip
  rename_i s pos hb;simp only[hm _ _ hb];split at h
  .rename_i aW;split at h<;>cases h
  .rename_i aW;exact h
 case allocT t z=>
  unfold BD at h;split at h<;>cases h
 case appendT e bytes=>
  unfold qV at h ⊢;split at h<;>first|(cases h;done)|skip
  split at h<;>first|(cases h;done)|skip
  split at h<;>first|(cases h;done)|skip
  . (split at h<;>first|(cases h;done)|skip);split at h<;>first|(cases h;done)|exact h
  . (split at h<;>first|(cases h;done)|skip);split at h
    .   exact h
    .   repeat' split at h
        all_goals cases h
 case toU=>
  unfold Ll at h ⊢;split at h<;>first|(cases h;done)|skip
  split at h<;>first|(cases h;done)|exact h|skip
  split at h<;>first|(cases h;done)|skip
  rename_i t0 cs hb;simp only[hm _ _ hb];exact h
 case fromU u m=>
  unfold EE at h ⊢;split at h<;>first|(cases h;done)|skip
  split at h<;>first|(cases h;done)|exact h|skip
  split at h<;>first|(cases h;done)|skip
  rename_i t0 cs hb;simp only[hm _ _ hb];exact h
 case unsafeStr e=>
  unfold mh at h ⊢;split at h<;>first|(cases h;done)|skip
  split at h<;>first|(cases h;done)|skip
  split at h
  .exact h
  . repeat' split at h
    all_goals cases h
 case clearS es z=>
  unfold ua at h ⊢;split at h<;>first|(cases h;done)|skip
  split at h<;>first|(cases h;done)|exact h|skip
  rename_i b off m _ _;cases hb:Nat.beq m 0 with
  |true=>simp only[hb]at h ⊢; exact h
  | false=>
    simp only[hb]at h
    repeat' split at h
    all_goals cases h
 case copyB es=>
  unfold w5 at h ⊢;split at h<;>first|(cases h;done)|skip
  rename_i d x;cases hd:cI d with
  |none=>simp[hd]at h
  | some m1=>
    cases hx:cI x with
    |none=>simp[hd,hx]at h
    |   some m2=>
        simp only[hd,hx]at h ⊢;cases hb:Nat.beq (min m2 m1) 0 with
        |true=>simp only[hb]at h ⊢; exact h
        |false=>
         simp only[hb]at h;(split at h<;>first|(cases h;done)|skip);(split at h<;>first|(cases h;done)|skip);split at h<;>cases h
 case append es bytes=>
  unfold eI at h ⊢;split at h<;>first|(cases h;done)|skip
  rename_i s x;cases hd:cI s with
  |none=>simp[hd]at h
  | some m1  =>
    cases hx:cI x with
    |none=>simp[hd,hx]at h
    |   some m2=>
        simp only[hd,hx]at h ⊢;cases h1:Nat.ble ((2*(m1+m2)+768)*bytes) 281474976710656 with
        |false=>simp[h1]at h
        |true=>
         cases h2:Nat.ble (m1+m2) 9223372036854775807 with
         |false=>simp[h1,h2]at h
         |  true=>
            simp only[h1,h2]at h ⊢;cases hb:Nat.beq m2 0 with
            |true=>
             simp only[hb]at h ⊢;split at h<;>first|(cases h;done)|exact h|skip
             all_goals (simp_all;done)
            |false=>
             simp only[hb]at h
             repeat' split at h
             all_goals first
               |(rename_i e;cases e;done)
               |(rename_i e _;cases e;done)
               |(cases h;done)
               |simp_all
inductive tK(n:Pos):AV->AB->Prop where
 |ptr (cs:List AV):tK n (.ptr n 0) (.cells cs 0)
 |gW (s:List Nat):tK n (.ptr n 0) (.gW s 0)
 |slice (len es:Nat) (cap:Option Nat) (cs:List AV) (h:len=0->cap=none\/cap=some 0->cs=[]):tK n (.slice n 0 len cap es) (.cells cs 0)
 |map:tK n (.map n) (.map [] 0)
 |ptrT (t:TypeId) (cs:List AV):tK n (.ptr n 0) (.typed t cs)
 |WG (len:Nat) (t:TypeId) (cs:List AV) (h:len≠0):tK n (.slice n 0 len none 1) (.typed t cs)
theorem Oo:∀{ps:List (Nat×Nat)}{xs cs:List AV},bP [] ps xs=some cs->cs=[]
 |[],[],cs,h=>by simp[bP]at h;exact h.symm ▸rfl
 |[],_::_,cs,h=>by simp[bP]at h
 |_::_,[],cs,h=>by simp[bP]at h
 |(off,size)::ps,v::vs,cs,h=>by
  unfold bP at h;split at h<;>first|(cases h;done)|skip
  rename_i h1 h2;have h1:=H2 h1;have h2:=H4 h2;have h3:v.cells=[]:=by apply Za6;simp at h2;omega
  rw[h3]at h;have h4:aI ([]:List AV) off []=[]:=by simp[aI]
  rw[h4]at h;exact Oo h
theorem aaw {k : au}{n:Pos}{xs:List AV}{v:AV}{aq:AB}(h:k.run (λ_=>none) n xs=some (.aC v none none (some aq))):tK n v aq:=by
 cases k<;>simp only[au.run]at h
 case alloc z=>unfold Ez at h;split at h<;>cases h;exact .ptr _
 case allocT t z=>unfold BD at h;split at h<;>cases h;exact .ptrT _ _
 case appendT e bytes=>
  unfold qV at h;split at h<;>first|(cases h;done)|skip
  split at h<;>first|(cases h;done)|skip
  split at h<;>first|(cases h;done)|skip
  . (split at h<;>first|(cases h;done)|skip);split at h<;>cases h;rename_i hb;exact .WG _ _ _ (by have:=Za9 hb;omega)
  . split at h<;>first|(cases h;done)|skip
    repeat' split at h
    all_goals cases h
 case toU=>   unfold Ll at h;repeat' split at h
              all_goals cases h
 case fromU=>   unfold EE at h;repeat' split at h
                all_goals cases h
 case sliceData=>   unfold p8 at h;repeat' split at h
                    all_goals cases h
 case unsafeStr=>   unfold mh at h;repeat' split at h
                    all_goals cases h
 case box=>unfold Lj at h;split at h<;>cases h;exact .ptr _
 case buildSlice es len z p=>
  unfold ow at h;dsimp only at h;split at h<;>cases h;rename_i cs hc;refine .slice _ _ _ _ λh0 _=> ?_
  subst h0;exact Oo hc
 case mkMap=>unfold EC at h;cases h;exact .map
 case mkSlice es b z=>
  unfold u0 at h
  repeat' split at h
  all_goals cases h
  refine .slice _ _ _ _ λ_ h1=> ?_
  rcases h1 with h1|h1
  .cases h1
  .simp only[H0]at h1;subst h1;rfl
 case rangeS=>
  unfold BC at h
  repeat' split at h
  all_goals cases h
  exact .gW _
 case conv c=>
  unfold wZ at h
  repeat' split at h
  all_goals cases h
  rename_i s;refine .slice _ _ _ _ λh0 _=> ?_
  rw[Za6 h0];rfl
 case append es bytes=>
  unfold eI at h
  repeat' split at h
  all_goals cases h
  all_goals refine .slice _ _ _ _ λh0 _=> ?_
  all_goals (exfalso;rename_i hb _ _;simp_all)
 case move=>unfold I7 at h;split at h<;>cases h
 case pick=>   unfold MU at h;repeat' split at h
               all_goals cases h
 case build=>unfold EA at h;dsimp only at h;split at h<;>cases h
 case load=>   unfold qU at h;repeat' split at h
               all_goals cases h
 case store=>   unfold zQ at h;repeat' split at h
                all_goals cases h
 case nilCheck=>   unfold Cp at h;repeat' split at h
                   all_goals cases h
 case bin=>   unfold gx at h;repeat' split at h
              all_goals cases h
 case un=>   unfold UM at h;repeat' split at h
             all_goals cases h
 case mkIface=>   unfold EB at h;repeat' split at h
                  all_goals cases h
 case mkFunc=>unfold BB at h;dsimp only at h;cases h
 case lookup=>
  unfold tY at h;split at h<;>first|(cases h;done)|skip
  dsimp only at h;split at h<;>cases h
 case mapSet=>   unfold tZ at h;repeat' split at h
                 all_goals cases h
 case sliceS=>
  unfold He at h;split at h<;>first|(cases h;done)|skip
  split at h<;>first|(cases h;done)|skip
  dsimp only at h;split at h<;>cases h
 case sliceL=>   unfold ni at h;repeat' split at h
                 all_goals cases h
 case fieldA=>   unfold Hf at h;repeat' split at h
                 all_goals cases h
 case idxA=>   unfold mg at h;repeat' split at h
               all_goals cases h
 case field=>   unfold Kn at h;repeat' split at h
                all_goals cases h
 case idxS=>   unfold I8 at h;repeat' split at h
               all_goals cases h
 case extract=>   unfold zm at h;repeat' split at h
                  all_goals cases h
 case callF=>unfold Ko at h;dsimp only at h;cases h
 case callV=>   unfold Kp at h;repeat' split at h
                all_goals cases h
 case lenB=>   unfold Dg at h;repeat' split at h
               all_goals cases h
 case copyB=>
  unfold w5 at h;split at h<;>first|(cases h;done)|skip
  split at h<;>first|(cases h;done)|skip
  dsimp only at h
  repeat' split at h
  all_goals cases h
 case minB=>   unfold zH at h;repeat' split at h
               all_goals cases h
 case maxB=>   unfold zI at h;repeat' split at h
               all_goals cases h
 case clearS=>   unfold ua at h;repeat' split at h
                 all_goals cases h
 case nextS=>   unfold ED at h;repeat' split at h
                all_goals cases h
 case capB=>cases h
 case bad=>cases h
end
section
def jX(call:ah):Prop:=∀f args st v st',call f args st=some (v,st')->st.next.toNat<=st'.next.toNat
section
variable{call:ah}
theorem EV(hm:jX call){k:au}{xs:List AV}{st st':St}{v:AV}(h:bQ call k xs st=some (v,st')):st.next.toNat<=st'.next.toNat:=by
 unfold bQ at h;split at h
 .simp only[H0,Za8]at h;rw[h.2];exact H5 _
 .simp only[H0,Za8]at h;rw[<-h.2];exact St.QM _ _ _ _
 .exact hm _ _ _ _ _ h
 .cases h
theorem Hu(hm:jX call):∀(os:List aU)(fr aN:Fr)(st st':St),gM call os fr st=some (aN,st')->st.next.toNat<=st'.next.toNat
 |[],fr,aN,st,st',h=>by simp only[gM,H0,Za8]at h;rw[h.2];exact H5 _
 |o ::os,fr,aN,st,st',h=>by
  unfold gM at h;split at h
  . (split at h<;>first|(cases h;done)|skip);(split at h<;>first|(cases h;done)|skip);rename_i hs;exact Zc1 (EV hm hs) (Hu hm os _ _ _ _ h)
  .exact Hu hm os _ _ _ _ h
  .cases h
theorem qZ(hm:jX call):∀(os:List (Nat×aU))(recs:List Rec)(base:T AB)(fr aN:Fr)(st st':St),cr call os recs base fr st=some (aN,st')->st.next.toNat<=st'.next.toNat
 |[],recs,base,fr,aN,st,st',h=>by simp only[cr,H0,Za8]at h;rw[h.2];exact H5 _
 |(j,   o)::os,recs,base,fr,aN,st,st',h=>by
  have hs:st.next.toNat<=st.next.succ.toNat:=by rw[Pos.ay];omega
  unfold cr at h;split at h
  .exact qZ hm os _ _ _ _ _ _ h
  . (split at h<;>first|(cases h;done)|skip);split at h
    .   (split at h<;>first|(cases h;done)|skip);exact Zc1 hs (qZ hm os _ _ _ _ _ _ h)
    .   (split at h<;>first|(cases h;done)|skip);rename_i hs;exact Zc1 (EV hm hs) (qZ hm os _ _ _ _ _ _ h)
    .   split at h
        .exact qZ hm os _ _ _ _ _ _ h
        . (split at h<;>first|(cases h;done)|skip);(split at h<;>first|(cases h;done)|skip);exact qZ hm os _ _ _ _ _ _ h
  .cases h
theorem BN(hm:jX call):∀(m:Nat)(c:AC)(fr aN:Fr)(st st':St)(ex:gY),exec call m c fr st=some (ex,aN,st')->st.next.toNat<=st'.next.toNat
 |0,c,fr,aN,st,st',ex,h=>by simp[exec]at h
 |m +   1,c,fr,aN,st,st',ex,h=>by
  have ih:=BN hm m;simp only[exec]at h;unfold aO at h;split at h
  .simp only[H0,Za8]at h;rw[h.2.2];exact H5 _
  . (split at h<;>first|(cases h;done)|skip);rename_i hs;simp only[H0,Za8]at h;rw[<-h.2.2];exact Hu hm _ _ _ _ _ hs
  . (split at h<;>first|(cases h;done)|skip);rename_i hs;simp only[H0,Za8]at h;rw[<-h.2.2];exact qZ hm _ _ _ _ _ _ _ hs
  . split at h
    .   rename_i hs;exact Zc1 (ih _ _ _ _ _ _ hs) (ih _ _ _ _ _ _ h)
    .   exact ih _ _ _ _ _ _ h
  .split at h<;>first|(cases h;done)|exact ih _ _ _ _ _ _ h
  . split at h
    .   rename_i hs;split at h<;>(simp only[H0,Za8]at h;rw[<-h.2.2];exact ih _ _ _ _ _ _ hs)
    .   exact ih _ _ _ _ _ _ h
  . split at h
    .   rename_i hs;exact Zc1 (ih _ _ _ _ _ _ hs) (ih _ _ _ _ _ _ h)
    .   exact ih _ _ _ _ _ _ h
  .simp only[H0,Za8]at h;rw[h.2.2];exact H5 _
  .simp only[H0,Za8]at h;rw[h.2.2];exact H5 _
def iX(O:dw):Prop:=∀f s,O f=some s->∀args st v st',s args st=some (v,st')->st.next.toNat<=st'.next.toNat
theorem EW{O:dw}{G:T b9}(hO:iX O)(m:Nat):∀d,jX (nC O G m d)
 |0=>λf args st v st' h=>by simp[nC]at h
 |d +   1=>λf args st v st' h=>by
  have ih:=EW (G:=G) hO m d;unfold nC at h;split at h
  .rename_i s hs;exact hO f s hs args st v st' h
  . (split at h<;>first|(cases h;done)|skip);(split at h<;>first|(cases h;done)|skip);split at h<;>first|(cases h;done)|skip
    .   rename_i hs;(split at h<;>first|(cases h;done)|skip);simp only[H0,Za8]at h;rw[<-h.2];exact BN ih _ _ _ _ _ _ _ hs
    .   rename_i hs;(split at h<;>first|(cases h;done)|skip);simp only[H0,Za8]at h;rw[<-h.2];exact BN ih _ _ _ _ _ _ _ hs
end
def jY(bG:Fr):List Rec->Fr
 |[]=>bG
 |r::R=>cA (jY bG R) r.o.dst r.v
def cE(n0:Pos):List Rec->Pos
 |[]=>n0
 |r::_=>r.nx
def RC.jB:RC->Bool
 |.aC _ _=>true
 |_=>false
def gC(h0:T AB):List Rec->T AB
 |[]=>h0
 |  r::R=>match r.c with
    |.aC _ h=>h
    |_=>gC h0 R
def gF(h0:T AB):List Rec->T AB
 |[]=>h0
 |  r::R=>match r.c with
    |.aC _ h=>h
    |.new id aq=>(gF h0 R).put (some aq) id
    |.pure=>gF h0 R
def BO:List Rec->Prop
 |[]=>True
 |r::_=>r.c.jB=true
def QX(h0:T AB)(R:List Rec)(o:aU)(xs:List AV)(v:AV):Prop:=
 ∀  A B,R=A++B->BO B->(∀r∈A,r.c.jB=true->o.bl.testBit r.idx=false)->
    ∃h:T AB,(∀b x,h.get b=some x->(gC h0 B).get b=some x\/∃r∈A,r.c= .new b x/\o.bl.testBit r.idx=true)/\o.k.run (λb=>h.get b) .h xs=some (.val v)
inductive mz(call:ah)(bG:Fr)(h0:T AB)(n0:Pos):Rec->List Rec->Prop where
 |skip (i:Nat) (o:aU) (R:List Rec) (hw:bA (jY bG R) o.guard=some false):
  mz call bG h0 n0 { idx:=i,o:=o,v:= .undef,c:= .pure,nx:=cE n0 R } R
 |pure (i:Nat) (o:aU) (v:AV) (xs:List AV) (R:List Rec) (hw:bA (jY bG R) o.guard=some true) (hx:di (jY bG R) o.xs=some xs) (hr:QX h0 R o xs v):
  mz call bG h0 n0 { idx:=i,o:=o,v:=v,c:= .pure,nx:=cE n0 R } R
 |new (i:Nat) (o:aU) (v:AV) (aq:AB) (xs:List AV) (R:List Rec) (hw:bA (jY bG R) o.guard=some true) (hx:di (jY bG R) o.xs=some xs)
  (hr:o.k.run (λ_=>none) (cE n0 R) xs=some (.aC v none none (some aq))):
  mz call bG h0 n0 { idx:=i,o:=o,v:=v,c:= .new (cE n0 R) aq,nx:=(cE n0 R).succ } R
 |aC (i:Nat) (o:aU) (v:AV) (st':St) (xs:List AV) (R:List Rec) (hc:o.cls= .aC) (hw:bA (jY bG R) o.guard=some true) (hx:di (jY bG R) o.xs=some xs)
  (hr:bQ call o.k xs { heap:=gF h0 R,next:=cE n0 R }=some (v,st')):
  mz call bG h0 n0 { idx:=i,o:=o,v:=v,c:= .aC (gC h0 R) st'.heap,nx:=st'.next } R
def Good(call:ah)(bG:Fr)(h0:T AB)(n0:Pos):List Rec->Prop
 |[]=>True
 |r::R=>mz call bG h0 n0 r R/\Good call bG h0 n0 R
section
variable{call:ah}{bG:Fr}{h0:T AB}{n0:Pos}
theorem Good.tail:∀{A B:List Rec},Good call bG h0 n0 (A++B)->Good call bG h0 n0 B
 |[],_,h=>h
 |_::_,_,h=>Good.tail h.2
theorem Good.at{A B:List Rec}{r:Rec}(h:Good call bG h0 n0 (A++r::B)):mz call bG h0 n0 r B:=(Good.tail h).1
theorem EX:∀{A B:List Rec},(∀r∈A,r.c.jB=false)->gC h0 (A++B)=gC h0 B
 |[],_,_=>rfl
 |r::A,B,h=>by
  have h1:=h r (Zb9 ..);have ih:=EX (A:=A) (B:=B) λr hr=>h r (Za1 _ hr)
  simp only[Ze7,gC];split
  .rename_i hc;rw[hc]at h1;cases h1
  .exact ih
theorem KA{bl:Nat}:∀{A B:List Rec}{h:T AB}{b:Pos}{x:AB},(∀r∈A,r.c.jB=false)->BO B->(snap bl h (A++B)).get b=some x->
  h.get b=some x\/∃r∈A,r.c= .new b x/\bl.testBit r.idx=true
 |[],B,h,b,x,_,hB,hs=>by
  cases B with
  |nil=>exact .inl hs
  | cons r B=>
    simp only[BO]at hB;simp only[Zg5,snap]at hs;(cases hc:r.c<;>rw[hc]at hB<;>first|(cases hB;done)|skip);rw[hc]at hs;exact .inl hs
 |r ::A   ,B,h,b,x,hA,hB,hs=>by
  have ih:=@KA bl A B h b x (λr hr=>hA r (Za1 _ hr)) hB;have up:(h.get b=some x\/∃r∈A,r.c= .new b x/\bl.testBit r.idx=true)->h.get b=some x\/∃r'∈r::A,r'.c= .new b x/\bl.testBit r'.idx=true:=λh1=>
    h1.imp id λ⟨r',h2,h3⟩=>⟨r',Za1 _ h2,h3⟩
  simp only[Ze7,snap]at hs;cases hc:r.c with
  |pure=>rw[hc]at hs;exact up (ih hs)
  |aC b1 h1=>have:=hA r (Zb9 ..);rw[hc]at this;cases this
  | new   id aq=>
    rw[hc]at hs;cases ht:bl.testBit r.idx with
    |false=>simp only[ht]at hs;exact up (ih hs)
    |   true=>
        simp only[ht]at hs;by_cases LP:id=b
        .subst LP;rw[T.dJ]at hs;simp only[H0]at hs;subst hs;exact .inr ⟨r,Zb9 ..,hc,ht⟩
        .rw[T.bk _ LP]at hs;exact up (ih hs)
theorem Oq:∀{up:List (Pos×AB)}{h:T AB}{b:Pos}{x:AB},(u5 up h).get b=some x->h.get b=some x\/(b,x)∈up
 |[],_,_,_,h=>.inl h
 |(id,aq)::up,h,b,x,hs=>by
  unfold u5 at hs;by_cases LP:id=b
  .subst LP;rw[T.dJ]at hs;simp only[H0]at hs;subst hs;exact .inr (Zb9 ..)
  .rw[T.bk _ LP]at hs;exact(Oq hs).imp (λh=>h) λh=>Za1 _ h
theorem EY:∀(A:List Rec),(∀r∈A,r.c.jB=false)\/∃r∈A,r.c.jB=true
 |[]=>.inl λr h=>by cases h
 |r::A=>by
  cases hr:r.c.jB with
  |true=>exact .inr ⟨r,Zb9 ..,hr⟩
  |false=>
   rcases EY A with h|⟨r',h1,h2⟩
   . exact .inl λr' oC=>by
      rcases Za0.1 oC with rfl|h'
      .exact hr
      .exact h r' h'
   .exact .inr ⟨r',Za1 _ h1,h2⟩
theorem Gs{bl:Nat}{k:au}{xs:List AV}{v:AV}:∀(A B:List Rec)(up:List (Pos×AB)),iP bl k xs v up (A++B)=true->Good call bG h0 n0 (A++B)->BO B->
  (∀r∈A,r.c.jB=true->bl.testBit r.idx=false)->(∃r∈A,r.c.jB=true)->
  ∃h:T AB,(∀b x,h.get b=some x->(gC h0 B).get b=some x\/(∃r∈A,r.c= .new b x/\bl.testBit r.idx=true)\/(b,x)∈up)/\k.run (λb=>h.get b) .h xs=some (.val v)
 |[],B,up,_,_,_,_,he=>by obtain⟨r,hr,_⟩:=he;cases hr
 |r::A    , B,up,BP,hG,hB,hn,he=>by
  have QY:∀r∈A,r.c.jB=true->bl.testBit r.idx=false:=λr' oC=>hn r' (Za1 _ oC)
  have ih:=λup (h2:iP bl k xs v up (A++B)=true) h3=>Gs A B up h2 hG.2 hB QY h3
  simp only[Ze7,iP]at BP;cases hc:r.c with
  |pure=>
   rw[hc]at BP;have iT:∃r∈A,r.c.jB=true:=by
        obtain⟨r',h1,h2⟩:=he;rcases Za0.1 h1 with rfl|h1
        .rw[hc]at h2;cases h2
        .exact⟨r',h1,h2⟩
   obtain⟨h,h1,h2⟩:=ih up BP iT;exact⟨h,λb x hb=>(h1 b x hb).imp (λh=>h) (Or.imp (λ⟨r',h3,h4⟩=>⟨r',Za1 _ h3,h4⟩) λh=>h),h2⟩
  |new    id aq=>
   rw[hc]at BP;have iT:∃r∈A,r.c.jB=true:=by
        obtain⟨r',h1,h2⟩:=he;rcases Za0.1 h1 with rfl|h1
        .rw[hc]at h2;cases h2
        .exact⟨r',h1,h2⟩
   cases ht:bl.testBit r.idx with
   |    false=>
        simp only[ht]at BP;obtain⟨h,h1,h2⟩:=ih up BP iT;exact⟨h,λb x hb=>(h1 b x hb).imp (λh=>h) (Or.imp (λ⟨r',h3,h4⟩=>⟨r',Za1 _ h3,h4⟩) λh=>h),h2⟩
   |    true=>
        simp only[ht]at BP;obtain⟨h,h1,h2⟩:=ih _ BP iT;refine⟨h,λb x hb=> ?_,h2⟩;rcases h1 b x hb with h3|⟨r',h3,h4⟩|h3
        .exact .inl h3
        .exact .inr (.inl ⟨r',Za1 _ h3,h4⟩)
        . rcases Za0.1 h3 with h3|h3
          .simp only[Za8]at h3;obtain⟨rfl,rfl⟩:=h3;exact .inr (.inl ⟨r,Zb9 ..,hc,ht⟩)
          .exact .inr (.inr h3)
  |aC base h=>
   rw[hc]at BP;have ht:=hn r (Zb9 ..) (by rw[hc];rfl);simp only[ht,Za2]at BP;rcases EY A with hA|hA
   .    have P3:base=gC h0 B:=(by have hs:=hG.1;(cases hs<;>simp only at hc<;>first|(cases hc;done)|skip);simp only[RC.aC.injEq]at hc;rw[<-hc.1];exact EX hA);have Z6:=BP.1;unfold mj at Z6;(split at Z6<;>first|(cases Z6;done)|skip);rename_i u hu;rw[nJ Z6]at hu;refine⟨_,λb x hb=> ?_,hu⟩;rcases Oq hb with hb|hb
        . rcases KA hA hB hb with h3|⟨r',h3,h4⟩
          .rw[<-P3];exact .inl h3
          .exact .inr (.inl ⟨r',Za1 _ h3,h4⟩)
        .exact .inr (.inr hb)
   .    obtain⟨h,h1,h2⟩:=ih up BP.2 hA;exact⟨h,λb x hb=>(h1 b x hb).imp (λh=>h) (Or.imp (λ⟨r',h3,h4⟩=>⟨r',Za1 _ h3,h4⟩) λh=>h),h2⟩
theorem LQ:∀(L:List (Nat×aU))(R:List Rec)(fr aN:Fr)(st st':St),cr call L R (gC h0 R) fr st=some (aN,st')->Good call bG h0 n0 R->
  fr=jY bG R->st.heap=gF h0 R->st.next=cE n0 R->
  ∃R',Good call bG h0 n0 (R'++R)/\(R'.map λr=>(r.idx,r.o))=L.reverse/\aN=jY bG (R'++R)/\st'.heap=gF h0 (R'++R)/\st'.next=cE n0 (R'++R)
 |[],R,fr,aN,st,st',h,hG,h1,h2,h3=>by
  simp only[cr,H0,Za8]at h;obtain⟨rfl,rfl⟩:=h;exact⟨[],hG,rfl,h1,h2,h3⟩
 |(j,   o)::  L,R,fr,aN,st,st',h,hG,h1,h2,h3=>by
  have fin:∀(r:Rec)(aJ:St)(bF:Fr),r.idx=j->r.o=o->mz call bG h0 n0 r R->bF=jY bG (r::R)->aJ.heap=gF h0 (r::R)->aJ.next=r.nx->
        cr call L (r::R) (gC h0 (r::R)) bF aJ=some (aN,st')->
        ∃R',Good call bG h0 n0 (R'++R)/\(R'.map λr=>(r.idx,r.o))=((j,o)::L).reverse/\aN=jY bG (R'++R)/\st'.heap=gF h0 (R'++R)/\st'.next=cE n0 (R'++R):=by
    intro r aJ bF hj ho hs k1 k2 k3 hd;obtain⟨R',g1,g2,g3,g4,g5⟩:=LQ L (r::R) bF aN aJ st' hd ⟨hs,hG⟩ k1 k2 k3;have e:R'++r::R=(R'++[r])++R:=(by simp);rw[e]at g1 g3 g4 g5;exact⟨R'++[r],g1,by simp[g2,hj,ho],g3,g4,g5⟩
  unfold cr at h;subst h1;split at h
  .rename_i hw;exact fin _ _ _ rfl rfl (h3 ▸mz.skip j o R hw) rfl h2 rfl h
  . rename_i hw;(split at h<;>first|(cases h;done)|skip);rename_i xs hx;split at h
    .   (split at h<;>first|(cases h;done)|skip);rename_i v aq hr;rw[h3]at hr;have hs:=mz.new (call:=call) (bG:=bG) (h0:=h0) (n0:=n0) j o v aq xs R hw hx hr;rw[<-h3]at hs;refine fin _ _ _ rfl rfl hs rfl ?_ rfl h;simp only[gF,h2]
    .   rename_i Ys;(split at h<;>first|(cases h;done)|skip);rename_i v aJ hr;have nu:st={ heap:=gF h0 R,next:=cE n0 R }:=(by cases st;simp_all);rw[nu]at hr;exact fin _ aJ _ rfl rfl (mz.aC j o v aJ xs R Ys hw hx hr) rfl rfl rfl h
    .   split at h
        . rename_i v hr;have Ot:QX h0 R o xs v:=by
           intro A B _ _ _;refine⟨.e,λb x hb=> ?_,?_⟩
           .  rw[T.cR]at hb;cases hb
           .  have e:(λb=>T.get b (T.e:T AB))=λ_=>none:=(by funext b;exact T.cR b);rw[e];exact hr
          exact fin _ _ _ rfl rfl (h3 ▸mz.pure j o v xs R hw hx Ot) rfl h2 rfl h
        . (split at h<;>first|(cases h;done)|skip);rename_i v hr;(split at h<;>first|(cases h;done)|skip);rename_i BP;have Ot:QX h0 R o xs v:=by
           intro A B hAB hB hn;subst hAB;rcases EY A with hA|hA
           .  refine⟨_,λb x hb=> ?_,hr⟩;have:=KA hA hB hb;rw[EX hA]at this;exact this
           .  obtain⟨h,k1,k2⟩:=Gs A B [] BP hG hB hn hA;exact⟨h,λb x hb=>(k1 b x hb).imp id λh=>h.resolve_right (by simp),k2⟩
          exact fin _ _ _ rfl rfl (h3 ▸mz.pure j o v xs R hw hx Ot) rfl h2 rfl h
  .cases h
end
end
section
open Go
structure Late(m:Nat)(pre:List Nat)(L:List (Nat×aU)):Prop where
 all:∀i,i<m->i∈pre\/i∈L.map (·.1)
 lt:∀x∈L,x.1<m
 one:∀A i o B,L=A++(i,o)::B->i∉pre/\i∉A.map (·.1)
 bl:∀A i o B,L=A++(i,o)::B->∀b,o.bl.testBit b=true->b∈pre\/b∈A.map (·.1)
 aC:∀A i o B,L=A++(i,o)::B->o.cls= .aC->∀b,(b∈pre\/b∈A.map (·.1))->o.bl.testBit b=true
 apart:∀A i o B,L=A++(i,o)::B->∀x∈B,x.2.bl.testBit i=true\/Hg o x.2=true
theorem JP{m:Nat}:∀(L:List (Nat×aU))(seen:Nat)(pre:List Nat),Dj m seen L=true->(∀b,seen.testBit b=true↔b∈pre)->Late m pre L
 |[],seen,pre,h,hs=>by
  simp only[Dj]at h;have:=H2 h;refine⟨λi hi=>.inl ((hs i).1 ?_),λx hx=>(by cases hx),λA i o B h=> ?_,λA i o B h=> ?_,λA i o B h=> ?_,λA i o B h=> ?_⟩
  .rw[this,Nat.testBit_two_pow_sub_one];simpa using hi
  all_goals (cases A<;>cases h)
 |(i,   o)::L,seen,pre,h,hs=>by
  simp only[Dj,Za2]at h;obtain⟨⟨⟨⟨⟨h1,h2⟩,h3⟩,h4⟩,h5⟩,h6⟩:=h;have h1:i<m:=H4 h1;have h2:i∉pre:=λhp=>by rw[(hs i).2 hp]at h2;cases h2
  have h3:=H2 h3;have hb:∀b,o.bl.testBit b=true->b∈pre:=λb hb=>by rw[<-h3,Nat.testBit_and,Za2]at hb;exact(hs b).1 hb.2
  have he:o.cls= .aC->∀b,b∈pre->o.bl.testBit b=true:=λhc b hp=>by rw[hc]at h4;rw[H2 h4];exact(hs b).2 hp
  have ih:=JP L (seen ||| 2 ^ i) (pre++[i]) h6 (λb=>by
    rw[Nat.testBit_or,Nat.testBit_two_pow,Zg0,hs b,Zd2];simp[eq_comm])
  rw[Zd4]at h5;have P5:∀{A:List (Nat×aU)}{j:Nat}{p:aU}{B:List (Nat×aU)},(i,o)::L=A++(j,p)::B->(A=[]/\i=j/\o=p/\L=B)\/∃A',A=(i,o)::A'/\L=A'++(j,p)::B:=by
    intro A j p B hA;cases A with
    |nil=>simp at hA;exact .inl ⟨rfl,hA.1.1,hA.1.2,hA.2⟩
    |cons x A=>simp at hA;exact .inr ⟨A,by rw[hA.1],hA.2⟩
  refine⟨λj hj=> ?_,λx hx=> ?_,λA j p B hA=> ?_,λA j p B hA=> ?_,λA j p B hA=> ?_,λA j p B hA=> ?_⟩
  . rcases ih.all j hj with h|h
    .   rcases Zd2.1 h with h|h
        .exact .inl h
        .simp at h;exact .inr (by simp[h])
    .   exact .inr (by simp only[Zb4,Za0];exact .inr h)
  . rcases Za0.1 hx with rfl|hx
    .   exact h1
    .   exact ih.lt x hx
  . rcases P5 hA with⟨rfl,rfl,rfl,rfl⟩|⟨A',rfl,Gt⟩
    .   exact⟨h2,by simp⟩
    .   obtain⟨k1,k2⟩:=ih.one A' j p B Gt;simp only[Zd2,Zc0,not_or]at k1;exact⟨k1.1,by simp only[Zb4,Za0,not_or];exact⟨k1.2,k2⟩⟩
  . rcases P5 hA with⟨rfl,rfl,rfl,rfl⟩|⟨A',rfl,Gt⟩
    .   exact λb iJ=>.inl (hb b iJ)
    .   intro b iJ;rcases ih.bl A' j p B Gt b iJ with h|h
        . rcases Zd2.1 h with h|h
          .exact .inl h
          .simp at h;exact .inr (by simp[h])
        .exact .inr (by simp only[Zb4,Za0];exact .inr h)
  . rcases P5 hA with⟨rfl,rfl,rfl,rfl⟩|⟨A',rfl,Gt⟩
    .   intro hc b iJ;rcases iJ with h|h
        .exact he hc b h
        .simp at h
    .   intro hc b iJ;refine ih.aC A' j p B Gt hc b ?_;rcases iJ with h|h
        .exact .inl (Zd2.2 (.inl h))
        . simp only[Zb4,Za0]at h;rcases h with rfl|h
          .exact .inl (by simp)
          .exact .inr h
  . rcases P5 hA with⟨rfl,rfl,rfl,rfl⟩|⟨A',rfl,Gt⟩
    .   intro x hx;have:=h5 x hx
        rwa [Zg0]at this
    .   exact ih.apart A' j p B Gt
inductive Reach(ops:Array Oper):Nat->Nat->Prop where
 |edge (i:Nat) (o:Oper) (e:Edge) (ho:ops[i]? =some o) (he:e∈o.after) (hb:Region.binds .any e=true):Reach ops i e.on
 |trans (i:Nat) (o:Oper) (e:Edge) (b:Nat) (ho:ops[i]? =some o) (he:e∈o.after) (hb:Region.binds .any e=true) (h:Reach ops e.on b):Reach ops i b
def U7(ops:Array Oper)(i m:Nat):Prop:=
 (∀o,ops[i]? =some o->∀e∈o.after,Region.binds .any e=true->m.testBit e.on=true)/\∀b,m.testBit b=true->Reach ops i b
theorem Nb(acc:List Nat):∀(l:List Edge)(s b:Nat),(l.foldl (λs e=>match Region.binds .any e with
   |true=>s ||| 2 ^ e.on ||| (nth acc e.on).getD 0
   |false=>s) s).testBit b=true↔s.testBit b=true\/∃e∈l,Region.binds .any e=true/\(e.on=b\/((nth acc e.on).getD 0).testBit b=true)
 |[],s,b=>by simp
 |e::l,s,b=>by
  rw[Zo0,Nb acc l];cases he:Region.binds .any e with
  |false=>simp[he]
  |true=>
   simp only[Nat.testBit_or,Zg0,Nat.testBit_two_pow,Zc2,Za0,exists_eq_or_imp,he,true_and];constructor
   .    rintro(((h|h)|h)|h)
        .exact .inl h
        .exact .inr (.inl (.inl h))
        .exact .inr (.inl (.inr h))
        .exact .inr (.inr h)
   .    rintro(h|(h|h)|h)
        .exact .inl (.inl (.inl h))
        .exact .inl (.inl (.inr h))
        .exact .inl (.inr h)
        .exact .inr h
theorem TN {ops:Array Oper}:∀(os:List Oper)(acc:List Nat),os=ops.toList.drop acc.length->acc.length<=ops.size->(∀i,i<acc.length->U7 ops i (acc.getD i 0))->
  ∀i,i<ops.size->U7 ops i ((Qp os acc).getD i 0)
 |[],acc,TO,hl,U8,i,hi=>by
  have h1:(ops.toList.drop acc.length).length=0:=by rw[<-TO];rfl
  have:ops.size<=acc.length:=by simp at h1;omega
  exact U8 i (by omega)
 |o ::os,acc,TO,hl,U8,i,hi=>by
  simp only[Qp];have ho:ops[acc.length]? =some o:=by have:(ops.toList.drop acc.length)[0]? =some o:=(by rw[<-TO];rfl);simpa using this
  have aW:acc.length<ops.size:=(Zb6.1 ho).1;refine TN os _ ?_ (by simp;omega) (λj hj=> ?_) i hi
  .rw[Ze2,List.length_singleton, <-Zl2, <-TO];rfl
  . rcases Zh5 j acc.length with h|h
    .   rw[Zd7,Zc3 h, <-Zd7];exact U8 j h
    .   have yS:j=acc.length:=(by simp at hj;omega);subst yS;rw[Zd7,Zc5 (H5 _)];simp only[Zm8,Ze3,Zj0];refine⟨λo' BM e he hb=> ?_,λb hb=> ?_⟩
        .rw[ho]at BM;simp only[H0]at BM;subst BM;exact(Nb acc _ 0 e.on).2 (.inr ⟨e,by simpa using he,hb,.inl rfl⟩)
        . have hb:=(Nb acc _ 0 b).1 hb;rcases hb with hb|⟨e,he,iJ,hb⟩
          .simp at hb
          . have iT:e∈o.after:=(by simpa using he);rcases hb with rfl|hb
            .exact .edge _ o e ho iT iJ
            . refine .trans _ o e b ho iT iJ ?_;rw[jx]at hb;rcases Zh5 e.on acc.length with h|h
              .exact(U8 _ h).2 b (by rw[Zd7];exact hb)
              .rw[Zb1 h]at hb;simp at hb
theorem TP:∀(l:List aU)(k:Nat)(x:Nat×aU),x∈zR k l->∃i,x.1=k+i/\l[i]? =some x.2
 |[],k,x,h=>by cases h
 |o ::l,k,x,h=>by
  simp only[zR,Za0]at h;rcases h with rfl|h
  .exact⟨0,rfl,rfl⟩
  .obtain⟨i,h1,h2⟩:=TP l (k+1) x h;exact⟨i+1,by omega,by simpa using h2⟩
theorem Hv:∀(l held:List (Nat×aU))(x:Nat×aU),x∈tu l held->x∈l\/x∈held
 |[],held,x,h=>.inr h
 |(i,   o)::l,held,x,h=>by
  unfold tu at h;split at h
  . rcases Zd2.1 h with h|h
    .   exact .inr (Zo1.1 h).1
    .   rcases Za0.1 h with h|h
        .exact .inl (by rw[h];exact Zb9 ..)
        . rcases Hv l _ x h with h|h
          .exact .inl (Za1 _ h)
          .exact .inr (Zo1.1 h).1
  . rcases Hv l _ x h with h|h
    .   exact .inl (Za1 _ h)
    .   rcases Zd2.1 h with h|h
        .exact .inr h
        .simp at h;exact .inl (by rw[h];exact Zb9 ..)
theorem aax{l:List aU}{x:Nat×aU}(h:x∈tu (zR 0 l) []):l[x.1]? =some x.2:=by
 rcases Hv _ _ _ h with h|h
 .obtain⟨i,h1,h2⟩:=TP l 0 x h;rw[h1,Zc8];exact h2
 .cases h
theorem EZ{p:Pos}:∀{l:List Pos},Di p l=true↔p∈l
 |[]=>by simp[Di]
 |q::l=>by simp[Di,EZ (l:=l),Pos.beq_eq]
theorem Cz{a b:aU}(h:Hg a b=true):
   (∀d,a.dst=some d->d∉b.looks/\b.dst≠some d)/\(∀d,b.dst=some d->d∉a.looks):=by
 unfold Hg at h;rw[Za2]at h;obtain⟨h1,h2⟩:=h;constructor
 . intro d hd;rw[hd]at h1;simp only[Za2,Zg3]at h1;refine⟨λhm=> ?_,λhb=> ?_⟩
   .rw[EZ.2 hm]at h1;exact absurd h1.1 (by simp)
   .rw[hb]at h1;have:Pos.beq d d=true:=Pos.beq_eq.2 rfl;simp[this]at h1
 .intro d hd hm;rw[hd]at h2;simp only[Zg3]at h2;rw[EZ.2 hm]at h2;cases h2
section
variable(P:Program)(tt:TT)(C:Cells)(nt:Nat)(ops:Array Oper)(call:ah)(bG:Fr)(h0:T AB)(n0:Pos)(R:List Rec)
structure vq:Prop where
 KB:Good call bG h0 n0 R
 mono:jX call
 one:∀A r B,R=A++r::B->∀r'∈B,r'.idx≠r.idx
 bl:∀A r B,R=A++r::B->∀b,r.o.bl.testBit b=true->∃r'∈B,r'.idx=b
 aC:∀A r B,R=A++r::B->r.o.cls= .aC->∀r'∈B,r.o.bl.testBit r'.idx=true
 apart:∀A r B,R=A++r::B->∀r'∈A,r'.o.bl.testBit r.idx=true\/Hg r.o r'.o=true
 rel:∀r∈R,∃o,ops[r.idx]? =some o/\qY tt nt ops o r.o/\U7 ops r.idx r.o.bl
 all:∀i,i<ops.size->∃r∈R,r.idx=i
def Kept(D:Nat->Prop)(b:Pos):Prop:=∀A r B,R=A++r::B->¬D r.idx->b.toNat<(cE n0 B).toNat\/r.nx.toNat<=b.toNat
def T1(D:Nat->Prop)(ρ:Pos->Loc)(tmps:Array Value):Prop:=
 ∀M s T p,R=M++s::T->D s.idx->s.o.dst=some p->(∀s'∈M,D s'.idx->s'.o.dst≠some p)->∃x,tmps[p.toNat - 1]? =some x/\aj ρ s.nx.toNat C s.v x
def T0(D:Nat->Prop)(ρ:Pos->Loc)(tmps:Array Value):Prop:=
 ∀p v,bG.get p=some v->(∀s∈R,D s.idx->s.o.dst≠some p)->∃x,tmps[p.toNat - 1]? =some x/\aj ρ n0.toNat C v x
structure Ou(D:Nat->Prop)(A B:List Rec)(a:Act):Prop where
 split:R=A++B
 bound:BO B
 Z7:∀r∈B,D r.idx
 QZ:∀r∈A,D r.idx->r.c.jB=false
 closed:∀i o e,D i->ops[i]? =some o->e∈o.after->Region.binds .any e=true->D e.on
 size:a.tmps.size=nt
 defers:a.defers=[]
structure Inv0(iK:Pos->Loc)(w0:World)(D:Nat->Prop)(A B:List Rec)(ρ:Pos->Loc)(a:Act)(w:World):Prop where
 W:aM ρ C { heap:=gC h0 B,next:=cE n0 B } w
 N:∀r∈A,D r.idx->∀id aq,r.c= .new id aq->jQ ρ r.nx.toNat C (ρ id) w aq/\(ρ id).aq<w.heap.size/\w0.heap.size<=(ρ id).aq/\
  (∀b x,(gC h0 B).get b=some x->(ρ b).aq≠(ρ id).aq)/\(∀ad v,C ad=some v->(ρ id).aq≠ad.block)
 N2:∀r∈A,D r.idx->∀id aq,r.c= .new id aq->∀r'∈A,D r'.idx->∀pJ yy,r'.c= .new pJ yy->id≠pJ->(ρ id).aq≠(ρ pJ).aq
 t1:T1 C R D ρ a.tmps
 t0:T0 C bG n0 R D ρ a.tmps
 E:iy iK { heap:=h0,next:=n0 } w0 ρ { heap:=gC h0 B,next:=cE n0 B } w
 zp:∀b:Pos,b.toNat<n0.toNat->ρ b=iK b
def Inv(iK:Pos->Loc)(w0:World)(D:Nat->Prop)(A B:List Rec)(ρ:Pos->Loc)(a:Act)(w:World):Prop:=
 Ou nt ops R D A B a/\∀ρ',(∀b,Kept n0 R D b->ρ' b=ρ b)->Inv0 C bG h0 n0 R iK w0 D A B ρ' a w
end
section
variable{P:Program}{tt:TT}{C:Cells}{nt:Nat}{ops:Array Oper}{call:ah}{bG:Fr}{h0:T AB}{n0:Pos}{R:List Rec}
theorem Ag(h:∀A r B,R=A++r::B->∀r'∈B,r'.idx≠r.idx){X X' Y Y':List Rec}{r r':Rec}(h1:R=X++r::Y)(h2:R=X'++r'::Y')(hi:r.idx=r'.idx):
   X=X'/\r=r'/\Y=Y':=by
 have h3:X++r::Y=X'++r'::Y':=h1.symm.trans h2;rcases List.append_eq_append_iff.1 h3 with⟨Z,hX,hZ⟩|⟨Z,hX,hZ⟩
 . cases Z with
   |nil=>simp at hZ hX;exact⟨hX.symm,hZ.1,hZ.2⟩
   |cons z Z=>
    simp at hZ;exact absurd hi.symm (h X r Y h1 r' (by rw[hZ.2];simp))
 . cases Z with
   |nil=>simp at hZ hX;exact⟨hX,hZ.1.symm,hZ.2.symm⟩
   |cons z Z=>
    simp at hZ;exact absurd hi (h X' r' Y' h2 r (by rw[hZ.2];simp))
theorem js{r:Rec}(h:r∈R):∃A B,R=A++r::B:=List.append_of_mem h
theorem TQ(hm:jX call){r:Rec}{B:List Rec}(h:mz call bG h0 n0 r B):(cE n0 B).toNat<=r.nx.toNat:=by
 cases h with
 |skip=>exact H5 _
 |pure=>exact H5 _
 |new=>simp only[Pos.ay];omega
 |aC i o v st' xs _ hc hw hx hr=>exact EV hm hr
theorem Nc(hm:jX call):∀{A B:List Rec},Good call bG h0 n0 (A++B)->(cE n0 B).toNat<=(cE n0 (A++B)).toNat
 |[],_,_=>H5 _
 |r::A,B,h=>Zc1 (Nc hm (A:=A) h.2) (TQ hm h.1)
namespace vq
variable(G:vq tt nt ops call bG h0 n0 R)
include G
theorem later{X Y:List Rec}{r r':Rec}(h:R=X++r::Y)(hr:r'∈X):r'.idx≠r.idx:=by
 obtain⟨A,B,rfl⟩:=js hr;have h':R=A++r'::(B++r::Y):=by rw[h];simp
 exact λe=>G.one _ _ _ h' r (by simp) e.symm
theorem Z8{X Y:List Rec}{r:Rec}(h:R=X++r::Y):(cE n0 Y).toNat<=r.nx.toNat:=TQ G.mono (Good.at (h ▸G.KB))
theorem xQ{X Y Z:List Rec}(h:R=X++(Y++Z)):(cE n0 Z).toNat<=(cE n0 (Y++Z)).toNat:=Nc G.mono (Good.tail (h ▸G.KB))
theorem U9{X Y:List Rec}(h:R=X++Y):n0.toNat<=(cE n0 Y).toNat:=by have:=Nc (n0:=n0) G.mono (A:=Y) (B:=[]) (by rw[Zf4];exact Good.tail (h ▸G.KB));rw[Zf4]at this;exact this
theorem LR{D:Nat->Prop}(hc:∀i o e,D i->ops[i]? =some o->e∈o.after->Region.binds .any e=true->D e.on){i b:Nat}(h:Reach ops i b)
  (hi:∀o e,ops[i]? =some o->e∈o.after->Region.binds .any e=true->D e.on):D b:=by
 induction h with
 |edge i o e ho he hb=>exact hi o e ho he hb
 |trans i o e b ho he hb _ ih=>exact ih λo' e' BM iT gZ=>hc _ o' e' (hi o e ho he hb) BM iT gZ
theorem Z9{D:Nat->Prop}{A B:List Rec}{a:Act}(hp:Ou nt ops R D A B a){s:Rec}(hs:s∈R)(hD:D s.idx){b:Nat}(hb:s.o.bl.testBit b=true):D b:=by obtain⟨o,ho,_,hB⟩:=G.rel s hs;exact G.LR hp.closed (hB.2 b hb) λo' e BM he iJ=>hp.closed _ o' e hD BM he iJ
end vq
theorem Hw:∀(Y:List Rec)(p:Pos)(v:AV),(jY bG Y).get p=some v->
  (∃M s T,Y=M++s::T/\s.o.dst=some p/\s.v=v/\∀s'∈M,s'.o.dst≠some p)\/(bG.get p=some v/\∀s∈Y,s.o.dst≠some p)
 |[],p,v,h=>.inr ⟨h,λs hs=>by cases hs⟩
 |r ::Y   ,p,v,h=>by
  simp only[jY]at h;by_cases hr:r.o.dst=some p
  .rw[hr]at h;simp only[cA,T.dJ,H0]at h;exact .inl ⟨[],r,Y,rfl,hr,h,λs hs=>by cases hs⟩
  . have h':(jY bG Y).get p=some v:=by
        cases hd:r.o.dst with
        |none=>rw[hd]at h;exact h
        | some d=>
          rw[hd]at h;simp only[cA]at h
          rwa [T.bk _ λe=>hr (by rw[hd,e])]at h
    rcases Hw Y p v h' with⟨M,s,T,rfl,h2,h3,h4⟩|⟨h2,h3⟩
    .   refine .inl ⟨r::M,s,T,rfl,h2,h3,λs' jV=> ?_⟩;rcases Za0.1 jV with rfl|jV
        .exact hr
        .exact h4 s' jV
    .   refine .inr ⟨h2,λs hs=> ?_⟩;rcases Za0.1 hs with rfl|hs
        .exact hr
        .exact h3 s hs
theorem look(G:vq tt nt ops call bG h0 n0 R){D:Nat->Prop}{A B:List Rec}{a:Act}(hp:Ou nt ops R D A B a){ρ:Pos->Loc}(h1:T1 C R D ρ a.tmps)(h2:T0 C bG n0 R D ρ a.tmps)
   {X Y:List Rec} {r:Rec} (hR:R=X++r::Y) (hD:¬D r.idx) (Nd:∀b,r.o.bl.testBit b=true->D b) {p:Pos} {v:AV} (hl:p∈r.o.looks) (hv:(jY bG Y).get p=some v):
   ∃x,a.tmps[p.toNat - 1]? =some x/\aj ρ (cE n0 Y).toNat C v x:=by
 have hX:∀s∈X,D s.idx->s.o.dst≠some p:=by
   intro s hs eC hd;rcases G.apart X r Y hR s hs with h|h
   .exact hD (G.Z9 hp (by rw[hR];simp[hs]) eC h)
   .exact(Cz h).2 p hd hl
 rcases Hw Y p v hv with⟨M,s,T,rfl,h3,rfl,h4⟩|⟨h3,h4⟩
 . have hR':R=(X++r::M)++s::T:=(by rw[hR];simp);have eC:D s.idx:=by
     rcases G.apart _ s T hR' r (by simp)with h|h
     .  exact Nd _ h
     .  exact absurd hl ((Cz h).1 p h3).1
   obtain⟨x,hx,Hx⟩:=h1 (X++r::M) s T p hR' eC h3 (λs' jV Ah=>by
     rcases Zd2.1 jV with h|h
     .  exact hX s' h Ah
     .  rcases Za0.1 h with rfl|h
        .exact absurd Ah hD
        .exact h4 s' h)
   refine⟨x,hx,Hx.mono (λ_ _=>rfl) ?_⟩;have:=G.xQ (X:=X++[r]) (Y:=M) (Z:=s::T) (by rw[hR];simp);exact this
 . obtain⟨x,hx,Hx⟩:=h2 p v h3 (λs hs eC=>by
     rw[hR]at hs;rcases Zd2.1 hs with h|h
     .  exact hX s h eC
     .  rcases Za0.1 h with rfl|h
        .exact absurd eC hD
        .exact h4 s h)
   exact⟨x,hx,Hx.mono (λ_ _=>rfl) (G.U9 (X:=X++[r]) (by rw[hR];simp))⟩
theorem BQ{a:Act}{d:Option Tmp}{x:Value}{p:Pos}(h:d.map key≠some p):(a.put d x).tmps[p.toNat - 1]? =a.tmps[p.toNat - 1]? :=by
 cases d with
 |none=>rfl
 |some e=>
  simp only[Act.put];rw[Zd0];intro he;apply h;simp only[Zd6,H0];apply Pos.toNat_inj;rw[dM];have:=p.toNat_pos;omega
theorem Yt{a:Act}{d:Option Tmp}{x:Value}{p:Pos}(h:d.map key=some p)(hs:a.tmps.size=nt)(hd:∀e,d=some e->e<nt):(a.put d x).tmps[p.toNat - 1]? =some x:=by
 cases d with
 |none=>cases h
 |some e=>
  simp only[Zd6,H0]at h;subst h;simp only[Act.put];rw[dM,Zd9,Zj5];simp[hs,hd e rfl]
theorem Va(G:vq tt nt ops call bG h0 n0 R){D:Nat->Prop}{A B:List Rec}{a:Act}(hp:Ou nt ops R D A B a){ρ:Pos->Loc}(h1:T1 C R D ρ a.tmps)(h2:T0 C bG n0 R D ρ a.tmps)
   {X Y:List Rec} {r:Rec} (hR:R=X++r::Y) (hD:¬D r.idx) {o:Oper} (hrel:qY tt nt ops o r.o) {x:Value} (hv:aj ρ r.nx.toNat C r.v x):
   T1 C R (λi=>D i\/i=r.idx) ρ (a.put o.dst x).tmps/\T0 C bG n0 R (λi=>D i\/i=r.idx) ρ (a.put o.dst x).tmps:=by
 constructor
 . intro  M s T p hM eC hd lW;by_cases hi:s.idx=r.idx
   .obtain⟨_,rfl,_⟩:=Ag G.one hM hR hi;rw[hrel.dst]at hd;exact⟨x,Yt hd hp.size hrel.lt,hv⟩
   . have eC:=eC.resolve_right hi;by_cases Hy:r.o.dst=some p
     .  exfalso;have hs:s∈R:=(by rw[hM];simp);rw[hR]at hs;rcases Zd2.1 hs with h|h
        . rcases G.apart X r Y hR s h with k|k
          .exact hD (G.Z9 hp (by rw[hR];simp[h]) eC k)
          .exact((Cz k).1 p Hy).2 hd
        . rcases Za0.1 h with rfl|h
          .exact hi rfl
          .obtain⟨Y1,Y2,rfl⟩:=js h;have hR':R=(X++r::Y1)++s::Y2:=(by rw[hR];simp);obtain⟨WH,_,_⟩:=Ag G.one hM hR' rfl;exact lW r (by rw[WH];simp) (.inr rfl) Hy
     .  (rw[hrel.dst]at Hy;obtain⟨y,hy,zY⟩:=h1 M s T p hM eC hd λs' jV Ah=>lW s' jV (.inl Ah));exact⟨y,by rw[BQ Hy];exact hy,zY⟩
 . (intro p v hf lW;have hr:r.o.dst≠some p:=lW r (by rw[hR];simp) (.inr rfl);rw[hrel.dst]at hr;obtain⟨y,hy,zY⟩:=h2 p v hf λs hs eC=>lW s hs (.inl eC));exact⟨y,by rw[BQ hr];exact hy,zY⟩
end
section
variable{P:Program}{tt:TT}{C:Cells}{nt:Nat}{ops:Array Oper}{call:ah}{bG:Fr}{h0:T AB}{n0:Pos}{R:List Rec}
theorem aM.congr{ρ ρ':Pos->Loc}{st:St}{w:World}(h:aM ρ C st w)(aL:∀b:Pos,b.toNat<st.next.toNat->ρ' b=ρ b):aM ρ' C st w where
 live b x hb:=by
  obtain⟨h1,h2,h3⟩:=h.live b x hb;rw[aL b h1];exact⟨h1,h2,h3.mono aL (H5 _)⟩
 inj b b' x x' hb gZ he:=by rw[aL b (h.live b x hb).1,aL b' (h.live b' x' gZ).1]at he;exact h.inj b b' x x' hb gZ he
 cL a v ha:=⟨(h.cL a v ha).1,λb x hb=>by rw[aL b (h.live b x hb).1];exact(h.cL a v ha).2 b x hb⟩
 whole:=h.whole
theorem iy.congr{ρ cV ρ':Pos->Loc}{st st':St}{w w':World}(h:iy ρ st w cV st' w')(aL:∀b x,st'.heap.get b=some x->ρ' b=cV b):iy ρ st w ρ' st' w' where
 os:=h.os
 tape:=h.tape
 output:=h.output
 size:=h.size
 block:=h.block
 kZ b x hb:=by rw[aL b x hb];exact h.kZ b x hb
namespace vq
variable(G:vq tt nt ops call bG h0 n0 R)
include G
theorem same{r r':Rec}(h:r∈R)(h':r'∈R)(hi:r.idx=r'.idx):r=r':=by obtain⟨A,B,hA⟩:=js h;obtain⟨A',B',Gt⟩:=js h';exact(Ag G.one hA Gt hi).2.1
theorem cmp{X Y X' Y':List Rec}{r r':Rec}(h1:R=X++r::Y)(h2:R=X'++r'::Y')(hi:r'.idx≠r.idx):
   (∃Z,Y'=Z++r::Y)\/(∃Z,Y=Z++r'::Y'):=by
 have h3:X++r::Y=X'++r'::Y':=h1.symm.trans h2;rcases List.append_eq_append_iff.1 h3 with⟨Z,hX,hZ⟩|⟨Z,hX,hZ⟩
 . cases Z with
   |nil=>simp at hZ;exact absurd (by rw[hZ.1]) hi
   |cons z Z=>simp at hZ;exact .inr ⟨Z,hZ.2⟩
 . cases Z with
   |nil=>simp at hZ;exact absurd (by rw[hZ.1]) hi
   |cons z Z=>simp at hZ;exact .inl ⟨Z,hZ.2⟩
theorem E0{X Y X' Z:List Rec}{r r':Rec}(h1:R=X++r::Y)(h2:R=X'++r'::(Z++r::Y)):r.nx.toNat<=(cE n0 (Z++r::Y)).toNat:=by have:=G.xQ (X:=X'++[r']) (Y:=Z) (Z:=r::Y) (by rw[h2];simp);exact this
theorem zq{X Y' Z:List Rec}{r r':Rec}(h1:R=X++r::(Z++r'::Y')):r'.nx.toNat<=(cE n0 (Z++r'::Y')).toNat:=by have:=G.xQ (X:=X++[r]) (Y:=Z) (Z:=r'::Y') (by rw[h1];simp);exact this
theorem Hz{X Y:List Rec}{r:Rec}(h:R=X++r::Y){id:Pos}{aq:AB}(hc:r.c= .new id aq):id=cE n0 Y/\r.nx=id.succ:=by
 have hs:=Good.at (h ▸G.KB);cases hs<;>simp only at hc<;>first|(cases hc;done)|skip
 simp only[RC.new.injEq]at hc;obtain⟨rfl,_⟩:=hc;exact⟨rfl,rfl⟩
end vq
theorem Kept.up{D D':Nat->Prop}(h:∀i,D i->D' i){b:Pos}(hk:Kept n0 R D b):Kept n0 R D' b:=λA r B hR hD=>hk A r B hR λhd=>hD (h _ hd)
theorem Ou.next(G:vq tt nt ops call bG h0 n0 R){D:Nat->Prop}{A B:List Rec}{a:Act}(hp:Ou nt ops R D A B a){X Y:List Rec}{r:Rec}(hR:R=X++r::Y)
  (mA:∀o e,ops[r.idx]? =some o->e∈o.after->Region.binds .any e=true->D e.on) (hc:r.c.jB=false) (d:Option Tmp) (x:Value):
  Ou nt ops R (λi=>D i\/i=r.idx) A B (a.put d x) where
 split:=hp.split
 bound:=hp.bound
 Z7 s hs:= .inl (hp.Z7 s hs)
 QZ s hs hD:=by
  rcases hD with hD|hD
  .exact hp.QZ s hs hD
  .rw[G.same (by rw[hp.split];simp[hs]) (by rw[hR];simp) hD];exact hc
 closed i o e hD ho he hb:=by
  rcases hD with hD|rfl
  .exact .inl (hp.closed i o e hD ho he hb)
  .exact .inl (mA o e ho he hb)
 size:=by rw[Act.fP];exact hp.size
 defers:=by rw[Act.gU];exact hp.defers
theorem Ov(G:vq tt nt ops call bG h0 n0 R){iK:Pos->Loc}{w0:World}{D:Nat->Prop}{A B:List Rec}{ρ:Pos->Loc}{a:Act}{w:World}
  (hI:Inv C nt ops bG h0 n0 R iK w0 D A B ρ a w) {X Y:List Rec} {r:Rec} (hR:R=X++r::Y) (hD:¬D r.idx)
  (mA:∀o e,ops[r.idx]? =some o->e∈o.after->Region.binds .any e=true->D e.on) {o:Oper} (hrel:qY tt nt ops o r.o) (hc:r.c= .pure) {x:Value}
  (hv:∀ρ',(∀b,Kept n0 R D b->ρ' b=ρ b)->aj ρ' r.nx.toNat C r.v x):
  Inv C nt ops bG h0 n0 R iK w0 (λi=>D i\/i=r.idx) A B ρ (a.put o.dst x) w:=by
 obtain⟨hp,hI⟩:=hI;refine⟨hp.next G hR mA (by rw[hc];rfl) _ _,λρ' xg=> ?_⟩;have hf:∀b,Kept n0 R D b->ρ' b=ρ b:=λb hb=>xg b (hb.up λ_ h=>.inl h)
 have h:=hI ρ' hf;have hnr:∀s∈A,(D s.idx\/s.idx=r.idx)->∀id aq,s.c= .new id aq->D s.idx:=λs hs eC id aq eR=>by
  rcases eC with eC|eC
  .exact eC
  .rw[G.same (by rw[hp.split];simp[hs]) (by rw[hR];simp) eC,hc]at eR;cases eR
 obtain⟨k1,k2⟩:=Va G hp h.t1 h.t0 hR hD hrel (hv ρ' hf);exact⟨h.W,λs hs eC id aq eR=>h.N s hs (hnr s hs eC id aq eR) id aq eR,
  λs hs eC id aq eR s' jV Ah pJ yy nK=>h.N2 s hs (hnr s hs eC id aq eR) id aq eR s' jV (hnr s' jV Ah pJ yy nK) pJ yy nK,k1,k2,h.E,h.zp⟩
theorem aM.grow{ρ:Pos->Loc}{st:St}{w w':World}(h:aM ρ C st w)(hs:w.heap.size<=w'.heap.size)(hb:∀k,k<w.heap.size->w'.heap[k]? =w.heap[k]?):aM ρ C st w' where
 live b x hx:=let⟨h1,h2,h3⟩:=h.live b x hx;⟨h1,Zb5 h2 hs,h3.of_heap (hb _ h2)⟩
 inj:=h.inj
 cL a v ha:=by
  obtain⟨h1,h2⟩:=h.cL a v ha;exact⟨by rw[World.cell?_of_block (w:=w) (hb _ (World.block_lt_of_cell? _ _ h1))];exact h1,h2⟩
 whole a v ha o ho:=by have jr:a.block<w.heap.size:=World.block_lt_of_cell? _ _ (h.cL a v ha).1;rw[World.cell?_of_block (w:=w) (a:=⟨a.block,o,none⟩) (hb _ jr)];exact h.whole a v ha o ho
theorem Yu(G:vq tt nt ops call bG h0 n0 R){iK:Pos->Loc}{w0:World}{D:Nat->Prop}{A B:List Rec}{ρ:Pos->Loc}{a:Act}{w w':World}
   (hI:Inv C nt ops bG h0 n0 R iK w0 D A B ρ a w) {X Y:List Rec} {r:Rec} (hR:R=X++r::Y) (hD:¬D r.idx)
   (mA:∀o e,ops[r.idx]? =some o->e∈o.after->Region.binds .any e=true->D e.on) {o:Oper} (hrel:qY tt nt ops o r.o) {id:Pos} {aq:AB} (hc:r.c= .new id aq) {x:Value} {L:Loc}
   (hL:w.heap.size<=L.aq) (hL':L.aq<w'.heap.size) (TO:w'.os=w.os) (ab3:w'.tape=w.tape) (Nf:w'.output=w.output) (Yv:∀k,k<w.heap.size->w'.heap[k]? =w.heap[k]?)
   (hv:∀ρ',(∀b,Kept n0 R D b->ρ' b=ρ b)->ρ' id=L->aj ρ' r.nx.toNat C r.v x/\jQ ρ' r.nx.toNat C L w' aq):
   Inv C nt ops bG h0 n0 R iK w0 (λi=>D i\/i=r.idx) A B (λb=>if b=id then L else ρ b) (a.put o.dst x) w':=by
 obtain⟨hp,hI⟩:=hI;have hrA:r∈A:=by
   have:r∈R:=(by rw[hR];simp);rw[hp.split]at this;exact(Zd2.1 this).resolve_right λh=>hD (hp.Z7 r h)
 obtain⟨LP,HA⟩:=G.Hz hR hc;have dV:w.heap.size<=w'.heap.size:=by omega
 refine⟨hp.next G hR mA (by rw[hc];rfl) _ _,λρ' xg=> ?_⟩;have hkid:Kept n0 R (λi=>D i\/i=r.idx) id:=by
   (intro A' r' B' Gt WI;have cW:r'.idx≠r.idx:=λe=>WI (.inr e));rcases G.cmp hR Gt cW with⟨Z,rfl⟩|⟨Z,rfl⟩
   .left;have:=G.E0 hR Gt;rw[HA,Pos.ay]at this;omega
   .right;have:=G.zq hR;rw[LP];exact this
 have Vb:ρ' id=L:=by rw[xg id hkid];simp
 have hf:∀b,Kept n0 R D b->ρ' b=ρ b:=λb hb=>by
   have cW:b≠id:=by
     rintro rfl;rcases hb X r Y hR hD with h|h
     .  rw[LP]at h;omega
     .  rw[HA,Pos.ay]at h;omega
   rw[xg b (hb.up λ_ h=>.inl h)];exact Za4 cW
 have h:=hI ρ' hf;obtain⟨JD,Hj⟩:=hv ρ' hf Vb;obtain⟨k1,k2⟩:=Va G hp h.t1 h.t0 hR hD hrel JD;have P6:∀s∈A,(D s.idx\/s.idx=r.idx)->D s.idx\/s=r:=λs hs eC=>eC.imp (λh=>h) λeC=>G.same (by rw[hp.split];simp[hs]) (by rw[hR];simp) eC
 refine⟨h.W.grow dV Yv,λs hs eC pJ yy eR=> ?_,λs hs eC pJ yy eR s' jV Ah id'' aaa nK cW=> ?_,k1,k2,?_,h.zp⟩
 . rcases P6 s hs eC with eC|rfl
   .obtain⟨g1,g2,g3,g4,g5⟩:=h.N s hs eC pJ yy eR;exact⟨g1.of_heap (Yv _ g2),by omega,g3,g4,g5⟩
   . rw[hc]at eR;simp only[RC.new.injEq]at eR;obtain⟨rfl,rfl⟩:=eR;rw[Vb];refine⟨Hj,hL',Zc1 h.E.size hL,λb x hb e=> ?_,λad v ha e=> ?_⟩
     .  have:=(h.W.live b x hb).2.1;omega
     .  have:=World.block_lt_of_cell? _ _ (h.W.cL ad v ha).1;omega
 . rcases P6 s hs eC with hDk|rfl
   . rcases P6 s' jV Ah with Yw|rfl
     .  exact h.N2 s hs hDk pJ yy eR s' jV Yw id'' aaa nK cW
     .  rw[hc]at nK;simp only[RC.new.injEq]at nK;obtain⟨rfl,rfl⟩:=nK;have:=(h.N s hs hDk pJ yy eR).2.1;rw[Vb];omega
   . rw[hc]at eR;simp only[RC.new.injEq]at eR;obtain⟨rfl,rfl⟩:=eR;rcases P6 s' jV Ah with Yw|rfl
     .  have:=(h.N s' jV Yw id'' aaa nK).2.1;rw[Vb];omega
     .  rw[hc]at nK;simp only[RC.new.injEq]at nK;exact absurd nK.1 cW
 .exact⟨TO.trans h.E.os,ab3.trans h.E.tape,Nf.trans h.E.output,Zc1 h.E.size dV,λk hk hn=>by rw[Yv k (Zb5 hk h.E.size)];exact h.E.block k hk hn,h.E.kZ⟩
theorem Vc(G:vq tt nt ops call bG h0 n0 R){iK:Pos->Loc}{w0:World}{D:Nat->Prop}{A B:List Rec}{ρ:Pos->Loc}{a:Act}{w:World}
  (h:Inv0 C bG h0 n0 R iK w0 D A B ρ a w) (abm:R=A++B) {hp:T AB} {N:Pos} (hN:(cE n0 B).toNat<=N.toNat)
  (CA:∀b x,hp.get b=some x->(gC h0 B).get b=some x\/∃s∈A,D s.idx/\s.c= .new b x/\s.nx.toNat<=N.toNat):aM ρ C { heap:=hp,next:=N } w where
 live b x hb:=by
  rcases CA b x hb with h1|⟨s,hs,hD,hc,hn⟩
  .  obtain⟨g1,g2,g3⟩:=h.W.live b x h1;exact⟨Zb5 g1 hN,g2,g3.mono (λ_ _=>rfl) hN⟩
  .  obtain⟨g1,g2,_⟩:=h.N s hs hD b x hc;obtain⟨M,T,hM⟩:=js (r:=s) (R:=R) (by rw[abm];simp[hs]);obtain⟨_,e⟩:=G.Hz hM hc;rw[e]at hn;refine⟨?_,g2,g1.mono (λ_ _=>rfl) (by rw[e];exact hn)⟩;rw[Pos.ay]at hn;exact hn
 inj b  b' x x' hb gZ he:=by
  rcases CA b x hb with h1|⟨s,hs,hD,hc,hn⟩
  .  rcases CA b' x' gZ with TC|⟨s',jV,WI,sv,QY⟩
     .  exact h.W.inj b b' x x' h1 TC he
     .  exact absurd he ((h.N s' jV WI b' x' sv).2.2.2.1 b x h1)
  .  rcases CA b' x' gZ with TC|⟨s',jV,WI,sv,QY⟩
     .  exact absurd he.symm ((h.N s hs hD b x hc).2.2.2.1 b' x' TC)
     .  by_cases e:b=b'
        .exact e
        .exact absurd he (h.N2 s hs hD b x hc s' jV WI b' x' sv e)
 cL ad v ha:=⟨(h.W.cL ad v ha).1,λb x hb=>by
  rcases CA b x hb with h1|⟨s,hs,hD,hc,hn⟩
  .  exact(h.W.cL ad v ha).2 b x h1
  .  exact(h.N s hs hD b x hc).2.2.2.2 ad v ha⟩
 whole:=h.W.whole
theorem vr:∀{Z B:List Rec}{b:Pos}{x:AB},(∀r∈Z,r.c.jB=false)->BO B->(gF h0 (Z++B)).get b=some x->
  (gC h0 B).get b=some x\/∃s∈Z,s.c= .new b x
 |[],B,b,x,_,hB,h=>by
  cases B with
  |nil=>exact .inl h
  | cons r B=>
    simp only[BO]at hB;(cases hc:r.c<;>rw[hc]at hB<;>first|(cases hB;done)|skip);simp only[Zg5,gF,hc]at h;simp only[gC,hc];exact .inl h
 |r ::Z,B,b,x,hZ,hB,h=>by
  have ih:=@vr Z B b x (λs hs=>hZ s (Za1 _ hs)) hB;have hr:=hZ r (Zb9 ..);simp only[Ze7,gF]at h;cases hc:r.c with
  |pure=>rw[hc]at h;exact(ih h).imp (λh=>h) λ⟨s,h1,h2⟩=>⟨s,Za1 _ h1,h2⟩
  |aC _ _=>rw[hc]at hr;cases hr
  | new id aq=>
    rw[hc]at h;by_cases e:id=b
    .   subst e;rw[T.dJ]at h;simp only[H0]at h;subst h;exact .inr ⟨r,Zb9 ..,hc⟩
    .   rw[T.bk _ e]at h;exact(ih h).imp (λh=>h) λ⟨s,h1,h2⟩=>⟨s,Za1 _ h1,h2⟩
end
section
variable{P:Program}{tt:TT}{C:Cells}{nt:Nat}{ops:Array Oper}{call:ah}{bG:Fr}{h0:T AB}{n0:Pos}{R:List Rec}
theorem around(G:vq tt nt ops call bG h0 n0 R){D:Nat->Prop}{A B:List Rec}{a:Act}(hp:Ou nt ops R D A B a){X Y:List Rec}{r:Rec}(hR:R=X++r::Y)(hD:¬D r.idx):
  ∃Z,A=X++r::Z/\Y=Z++B:=by
 have hrA:r∈A:=by
  have:r∈R:=by rw[hR];simp
  rw[hp.split]at this;exact(Zd2.1 this).resolve_right λh=>hD (hp.Z7 r h)
 obtain⟨X',Z,hA⟩:=js hrA;have h2:R=X'++r::(Z++B):=by rw[hp.split,hA];simp
 obtain⟨rfl,_,rfl⟩:=Ag G.one hR h2 rfl;exact⟨Z,hA,rfl⟩
theorem Yx(G:vq tt nt ops call bG h0 n0 R){iK:Pos->Loc}{w0:World}{D:Nat->Prop}{A B:List Rec}{ρ:Pos->Loc}{a:Act}{w w':World}
   (hI:Inv C nt ops bG h0 n0 R iK w0 D A B ρ a w) {X Y:List Rec} {r:Rec} (hR:R=X++r::Y) (hD:¬D r.idx)
   (mA:∀o e,ops[r.idx]? =some o->e∈o.after->Region.binds .any e=true->D e.on) {o:Oper} (hrel:qY tt nt ops o r.o)
   (hY:∀s∈Y,D s.idx) {st':St} {b0:T AB} (hc:r.c= .aC b0 st'.heap) (HA:r.nx=st'.next) {x:Value}
   (Vd:jW ρ C { heap:=gF h0 Y,next:=cE n0 Y } w r.v st' x w'):
   ∃jR,Inv C nt ops bG h0 n0 R iK w0 (λi=>D i\/i=r.idx) X (r::Y) jR (a.put o.dst x) w':=by
 obtain⟨hp,hI⟩:=hI;obtain⟨cV,hv,hρ1,hle,QO,hE1⟩:=Vd;simp only at hρ1 hle;obtain⟨Z,hA,rfl⟩:=around G hp hR hD;have hZ:∀s∈Z,s.c.jB=false:=λs hs=>hp.QZ s (by rw[hA];simp[hs]) (hY s (by simp[hs]))
 have TR:∀s∈X,s∈A:=λs hs=>by rw[hA];simp[hs]
 have hXD:∀s∈X,(D s.idx\/s.idx=r.idx)->D s.idx:=λs hs h=>h.resolve_right (G.later hR hs)
 have Q0:(cE n0 B).toNat<=(cE n0 (Z++B)).toNat:=G.xQ (X:=X++[r]) (by rw[hR];simp)
 let jR:Pos->Loc:=λb=>if(cE n0 (Z++B)).toNat<=b.toNat/\b.toNat<r.nx.toNat then cV b else ρ b
 have Q1:∀b:Pos,b.toNat<(cE n0 (Z++B)).toNat->Kept n0 R D b:=by
   intro b hb M s T hM eC;left;by_cases hi:s.idx=r.idx
   .obtain⟨_,_,rfl⟩:=Ag G.one hM hR hi;exact hb
   . rcases G.cmp hR hM hi with⟨W,rfl⟩|⟨W,hW⟩
     .  have:=G.E0 hR hM;have:=G.Z8 hR;omega
     .  exact absurd (hY s (by rw[hW];simp)) eC
 refine⟨jR,⟨by rw[hR],by simp[BO,hc,RC.jB],?_,?_,?_,by rw[Act.fP];exact hp.size,by rw[Act.gU];exact hp.defers⟩,λρ' xg=> ?_⟩
 . intro s hs;rcases Za0.1 hs with rfl|hs
   .exact .inr rfl
   .exact .inl (hY s hs)
 .intro s hs eC;exact hp.QZ s (TR s hs) (hXD s hs eC)
 . intro i o' e hDi ho he hb;rcases hDi with hDi|rfl
   .exact .inl (hp.closed i o' e hDi ho he hb)
   .exact .inl (mA o' e ho he hb)
 have ab4:∀b:Pos,b.toNat<r.nx.toNat->Kept n0 R (λi=>D i\/i=r.idx) b:=by
   (intro b hb M s T hM eC;left;have hi:s.idx≠r.idx:=λe=>eC (.inr e));rcases G.cmp hR hM hi with⟨W,rfl⟩|⟨W,hW⟩
   .exact Zb5 hb (G.E0 hR hM)
   .exact absurd (.inl (hY s (by rw[hW];simp))) eC
 have hf:∀b,Kept n0 R D b->ρ' b=ρ b:=λb hb=>by rw[xg b (hb.up λ_ h=>.inl h)];refine Za4 ?_;rintro⟨g1,g2⟩;rcases hb X r _ hR hD with h|h<;>omega
 have h:=hI ρ' hf;have Ow:∀b:Pos,b.toNat<r.nx.toNat->ρ' b=cV b:=by
   intro b hb;rcases Zh5 b.toNat (cE n0 (Z++B)).toNat with g|g
   .rw[hf b (Q1 b g),hρ1 b g]
   .rw[xg b (ab4 b hb)];exact Za7 ⟨g,hb⟩
 have zZ:aj ρ' r.nx.toNat C r.v x:=by
   rw[HA]at Ow ⊢;exact hv.mono Ow (H5 _)
 have dG:aM ρ' C { heap:=st'.heap,next:=r.nx } w':=by rw[HA]at Ow ⊢;exact QO.congr Ow
 have hold:∀s∈X,D s.idx->∀id aq,s.c= .new id aq->∀b y,(gF h0 (Z++B)).get b=some y->(ρ b).aq≠(ρ' id).aq:=by
   intro s hs eC id aq eR b y hb;obtain⟨g1,g2,g3,g4,g5⟩:=h.N s (TR s hs) eC id aq eR;obtain⟨M,T,hM⟩:=js (r:=s) (R:=R) (by rw[hR];simp[hs]);rcases vr hZ hp.bound hb with hb|⟨s',jV,nK⟩
   .rw[<-hf b (Q1 b (Zb5 (h.W.live b y hb).1 Q0))];exact g4 b y hb
   . obtain⟨Z1,Z2,rfl⟩:=js jV;have WH:R=(X++r::Z1)++s'::(Z2++B):=(by rw[hR];simp);obtain⟨e1,e2⟩:=G.Hz WH nK;obtain⟨e3,e4⟩:=G.Hz hM eR;have hbn:b.toNat<(cE n0 ((Z1++s'::Z2)++B)).toNat:=(by have:=G.zq (X:=X) (r:=r) (Z:=Z1) (r':=s') (Y':=Z2++B) (by rw[hR];simp);rw[e2,Pos.ay]at this;simp only[Zh9,Ze7];omega);have hsr:s.idx≠r.idx:=G.later hR hs;have LP:r.nx.toNat<=id.toNat:=by
        rcases G.cmp hR hM hsr with⟨W,rfl⟩|⟨W,hW⟩
        .rw[e3];exact G.E0 hR hM
        .obtain⟨A1,A2,hX⟩:=js hs;have hM2:R=A1++s::(A2++r::((Z1++s'::Z2)++B)):=(by rw[hR,hX];simp);have pL:s∈(Z1++s'::Z2)++B:=(by rw[hW];simp);exact absurd rfl (G.one A1 s _ hM2 s (Zd2.2 (.inr (Za1 _ pL))))
     have cW:b≠id:=(by rintro rfl;have:=G.Z8 hR;omega);rw[<-hf b (Q1 b hbn)];exact h.N2 s' (by rw[hA];simp) (hY s' (by simp)) b y nK s (TR s hs) eC id aq eR cW
 have hEa:iy iK { heap:=h0,next:=n0 } w0 ρ { heap:=gF h0 (Z++B),next:=cE n0 (Z++B) } w:=by
   refine⟨h.E.os,h.E.tape,h.E.output,h.E.size,h.E.block,λb y hb=> ?_⟩;rcases vr hZ hp.bound hb with hb|⟨s',jV,nK⟩
   .rw[<-hf b (Q1 b (Zb5 (h.W.live b y hb).1 Q0))];exact h.E.kZ b y hb
   .obtain⟨Z1,Z2,rfl⟩:=js jV;have WH:R=(X++r::Z1)++s'::(Z2++B):=(by rw[hR];simp);obtain⟨e1,e2⟩:=G.Hz WH nK;have hbn:b.toNat<(cE n0 ((Z1++s'::Z2)++B)).toNat:=(by have:=G.zq (X:=X) (r:=r) (Z:=Z1) (r':=s') (Y':=Z2++B) (by rw[hR];simp);rw[e2,Pos.ay]at this;simp only[Zh9,Ze7];omega);rw[<-hf b (Q1 b hbn)];exact .inr (h.N s' (by rw[hA];simp) (hY s' (by simp)) b y nK).2.2.1
 obtain⟨k1,k2⟩:=Va G hp h.t1 h.t0 hR hD hrel zZ;refine⟨?_,λs hs eC id aq eR=> ?_,λs hs eC id aq eR s' jV Ah pJ yy nK cW=> ?_,k1,k2,?_,h.zp⟩
 .simp only[gC,hc,cE];exact dG
 . have eC:=hXD s hs eC;obtain⟨g1,g2,g3,g4,g5⟩:=h.N s (TR s hs) eC id aq eR;refine⟨g1.of_heap (hE1.block _ g2 (hold s hs eC id aq eR)),Zb5 g2 hE1.size,g3,λb y hb=> ?_,g5⟩;simp only[gC,hc]at hb;rw[Ow b (by rw[HA];exact(QO.live b y hb).1)];rcases hE1.kZ b y hb with⟨b',y',gZ,e⟩|e
   .rw[<-e];exact hold s hs eC id aq eR b' y' gZ
   .omega
 .exact h.N2 s (TR s hs) (hXD s hs eC) id aq eR s' (TR s' jV) (hXD s' jV Ah) pJ yy nK cW
 . have:=(hEa.trans hE1).congr (ρ':=ρ') λb y hb=>Ow b (by rw[HA];exact(QO.live b y hb).1)
   simp only[gC,hc,cE];exact⟨this.os,this.tape,this.output,this.size,this.block,this.kZ⟩
end
section
variable{P:Program}{tt:TT}{C:Cells}{nt:Nat}{ops:Array Oper}{call:ah}{bG:Fr}{h0:T AB}{n0:Pos}{R:List Rec}
theorem xR{ρ:Pos->Loc}{n:Pos}{w:World}(hC:∀ad v,C ad=some v->w.cell? ad=some v)(WJ:∀a v,C a=some v->∀o,C ⟨a.block,o,none⟩=none->w.cell? ⟨a.block,o,none⟩=none):aM ρ C { heap:= .e,next:=n } w where
 live b x hb:=by rw[T.cR]at hb;cases hb
 inj b b' x x' hb:=by rw[T.cR]at hb;cases hb
 cL a v ha:=⟨hC a v ha,λb x hb=>by rw[T.cR]at hb;cases hb⟩
 whole:=WJ
theorem Yields.eq{N:Next}{x y:Value}(h:Yields N x)(k:Yields N y):x=y:=by
 rcases h with rfl|⟨rfl,rfl⟩<;>rcases k with k|⟨k,rfl⟩
 .simp only[Next.value.injEq]at k;exact k
 .cases k
 .cases k
 .rfl
theorem jQ.Yy{ρ ρ':Pos->Loc}{n n':Nat}{L:Loc}{w:World}{s:List Nat}{p:Nat}(h:jQ ρ n C L w (.gW s p)):jQ ρ' n' C L w (.gW s p):=h
theorem WL(hT:bE P tt){o:Oper}{k:au}{xs:List dh}{cls:TA}(hc:eJ tt o.op=some (k,xs,cls)){n:Pos}{vs:List AV}{v:AV}{aq:AB}
  (hr:k.run (λ_=>none) n vs=some (.aC v none none (some aq))) {fr:Fr} (hx:di fr xs=some vs) {a:Act} {w:World} {TU:(Pos->Loc)->Prop} {ρ:Pos->Loc} (aL:TU ρ)
  (hF:∀ρ',TU ρ'->eg ρ' n.toNat C fr a.tmps) (hC:∀ad v,C ad=some v->w.cell? ad=some v) (WJ:∀a v,C a=some v->∀o,C ⟨a.block,o,none⟩=none->w.cell? ⟨a.block,o,none⟩=none):
  ∃ N x w' L,(execOp a.eval o).run P w= .ok N w'/\Yields N x/\w.heap.size<=L.aq/\L.aq<w'.heap.size/\w'.os=w.os/\w'.tape=w.tape/\w'.output=w.output/\
    (∀k,k<w.heap.size->w'.heap[k]? =w.heap[k]?)/\∀ρ',TU ρ'->ρ' n=L->aj ρ' n.succ.toNat C v x/\jQ ρ' n.succ.toNat C L w' aq:=by
 have bL:k.run (λb=>T.get b (T.e:T AB)) n vs=some (.aC v none none (some aq)):=by
  have e:(λb=>T.get b (T.e:T AB))=λ_=>none:=by funext b;exact T.cR b
  rw[e];exact hr
 have H:=λρ' (hf:TU ρ')=>Jb hT o.op ρ' C { heap:= .e,next:=n } w k xs cls fr a o vs _ rfl hc (xR hC WJ) (hF ρ' hf) hx bL
 have key:∀ρ',TU ρ'->∃N x w' cV,(execOp a.eval o).run P w= .ok N w'/\Yields N x/\(∀b:Pos,b.toNat<n.toNat->cV b=ρ' b)/\aj cV n.succ.toNat C v x/\
    jQ cV n.succ.toNat C (cV n) w' aq/\w.heap.size<=(cV n).aq/\(cV n).aq<w'.heap.size/\w'.os=w.os/\w'.tape=w.tape/\w'.output=w.output/\
    (∀k,k<w.heap.size->w'.heap[k]? =w.heap[k]?):=by
  intro ρ' hf;obtain⟨N,x,w',cV,he,hy,h1,h2,h3,h4⟩:=H ρ' hf;have hg:(St.aC { heap:= .e,next:=n } none none (some aq)).heap.get n=some aq:=T.dJ _ _ _;obtain⟨g1,g2,g3⟩:=h2.live n aq hg;refine⟨N,x,w',cV,he,hy,h1,h3,g3,?_,g2,h4.os,h4.tape,h4.output,λk hk=>h4.block k hk λb x hb=> ?_⟩
  . rcases h4.kZ n aq hg with⟨b',x',gZ,_⟩|h
    .   rw[T.cR]at gZ;cases gZ
    .   exact h
  .rw[T.cR]at hb;cases hb
 obtain⟨N,x,w',cV,he,hy,h1,h2,h3,h4,h5,h6,h7,h8,h9⟩:=key ρ aL;refine⟨N,x,w',cV n,he,hy,h4,h5,h6,h7,h8,h9,λρ' hf hL=> ?_⟩;obtain⟨N',x',Z4,jR,iT,Ox,k1,k2,k3,_⟩:=key ρ' hf;rw[he]at iT;simp only[Result.ok.injEq]at iT;obtain⟨rfl,rfl⟩:=iT;have Q3:=hy.eq Ox;subst Q3;have Ve:n.toNat<n.succ.toNat:=by rw[Pos.ay];omega
 have zp:(jR n).aq=(cV n).aq->(jR n).base=(cV n).base->((∃cs fz,aq= .cells cs fz)\/∃t cs,aq= .typed t cs)->aj ρ' n.succ.toNat C v x/\jQ ρ' n.succ.toNat C (cV n) w' aq:=by
  intro e1 e2 rU;have e3:(jR n).size=(cV n).size:=by
    rcases rU with⟨cs,fz,rfl⟩|⟨t,cs,rfl⟩
    .   obtain⟨c,e,fr,g1,g2,_⟩:=h3;obtain⟨c',e',aN,Aj,WM,_⟩:=k3;rw[e1,g1]at Aj;simp only[H0,Obj.cells.injEq]at Aj;rw[<-g2, <-WM,Aj.1]
    .   obtain⟨c,fr,g1,g2,_⟩:=h3;obtain⟨c',aN,Aj,WM,_⟩:=k3;rw[e1,g1]at Aj;simp only[H0,Obj.cells.injEq]at Aj;rw[<-g2, <-WM,Aj.1]
  have e4:jR n=cV n:=by
    cases hh:jR n;cases hh':cV n;rw[hh,hh']at e1 e2 e3;simp only at e1 e2 e3;rw[e1,e2,e3]
  have fq:∀b:Pos,b.toNat<n.succ.toNat->ρ' b=jR b:=by
    intro b hb;rcases Zh5 b.toNat n.toNat with g|g
    .   exact(k1 b g).symm
    .   have:b=n:=Pos.toNat_inj (by rw[Pos.ay]at hb;omega);subst this;rw[hL,e4]
  refine⟨k2.mono fq (H5 _),?_⟩;rw[<-e4];exact k3.mono fq (H5 _)
 cases aaw hr with
 |ptr cs=>
  obtain⟨_,g1⟩:=h2.dU;obtain⟨_,g2⟩:=k2.dU;rw[g1]at g2;simp only[Value.pointer.injEq,H0,Addr.mk.injEq,Zh6,Zn5]at g2;exact zp g2.1.symm g2.2.symm (.inl ⟨cs,0,rfl⟩)
 |ptrT t cs=>
  obtain⟨_,g1⟩:=h2.dU;obtain⟨_,g2⟩:=k2.dU;rw[g1]at g2;simp only[Value.pointer.injEq,H0,Addr.mk.injEq,Zh6,Zn5]at g2;exact zp g2.1.symm g2.2.symm (.inr ⟨t,cs,rfl⟩)
 |WG len t cs hl=>
  obtain⟨ad,aF,g1,g2,g3,g4⟩:=h2.cG;obtain⟨ad',Vf,Aj,WM,g3',g4'⟩:=k2.cG;rw[g1]at Aj;simp only[Value.slice.injEq,H0,true_and]at Aj;obtain⟨rfl,rfl⟩:=Aj;obtain⟨_,a1,_⟩:=g4 (by omega);obtain⟨_,a2,_⟩:=g4' (by omega);rw[a1]at a2;simp only[Addr.mk.injEq,Zh6,Zn5]at a2;exact zp a2.1.symm a2.2.symm (.inr ⟨t,cs,rfl⟩)
 |gW s=>
  obtain⟨_,g1⟩:=h2.dU;refine⟨?_,h3.Yy⟩;rw[g1, <-hL];exact .ptr n 0 Ve
 |slice len es cap cs eR=>
  obtain⟨ad,aF,g1,g2,g3,g4⟩:=h2.cG;obtain⟨ad',Vf,Aj,WM,g3',g4'⟩:=k2.cG;rw[g1]at Aj;simp only[Value.slice.injEq,H0,true_and]at Aj;obtain⟨rfl,rfl⟩:=Aj;by_cases h0:aF=0
  . subst h0;have Ww:len=0:=(by omega);have hcs0:cs=[]:=eR Ww (by
        cases cap with
        |none=>exact .inl rfl
        |some c=>exact .inr (by rw[g3 c rfl]))
    subst hcs0;refine⟨?_,?_⟩
    .   rw[g1];exact .slice n 0 len cap es 0 ad g2 g3 (λh=>absurd rfl h) (λ_=>Ve)
    .   obtain⟨c,e,fr,q1,q2,q3,q4,q5⟩:=h3;exact⟨c,e,fr,q1,q2,q3,ak.nil,q5⟩
  .obtain⟨_,a1,_⟩:=g4 h0;obtain⟨_,a2,_⟩:=g4' h0;rw[a1]at a2;simp only[Addr.mk.injEq,Zh6,Zn5]at a2;exact zp a2.1.symm a2.2.symm (.inl ⟨cs,0,rfl⟩)
 |map=>
  obtain⟨_,g1⟩:=h2.uf;refine⟨?_,?_⟩
  .rw[g1, <-hL];exact .map n Ve
  .obtain⟨es',q1,q2,q3⟩:=h3;exact⟨es',q1,q2,λi e e' he=>by simp at he⟩
end
section
variable{P:Program}{tt:TT}{C:Cells}{nt:Nat}{ops:Array Oper}{call:ah}{bG:Fr}{h0:T AB}{n0:Pos}{R:List Rec}
def sA(fr:Fr):List Pos->Fr
 |[]=>.e
 |p::l=>(sA fr l).put (fr.get p) p
theorem Oy{fr:Fr}{p:Pos}:∀{l:List Pos},p∈l->(sA fr l).get p=fr.get p
 |[],h=>by cases h
 |q ::l,h=>by
  simp only[sA];by_cases e:q=p
  .subst e;exact T.dJ _ _ _
  .rw[T.bk _ e];exact Oy ((Za0.1 h).resolve_left λh=>e h.symm)
theorem JQ{fr:Fr}{p:Pos}{v:AV}:∀{l:List Pos},(sA fr l).get p=some v->p∈l/\fr.get p=some v
 |[],h=>by simp only[sA]at h;rw[T.cR]at h;cases h
 |q ::l,h=>by
  simp only[sA]at h;by_cases e:q=p
  .subst e;rw[T.dJ]at h;exact⟨by simp,h⟩
  .rw[T.bk _ e]at h;obtain⟨h1,h2⟩:=JQ h;exact⟨by simp[h1],h2⟩
theorem Oz{fr:Fr}{l:List Pos}:∀{xs:List dh},(∀p,dh.t p∈xs->p∈l)->di (sA fr l) xs=di fr xs
 |[],_=>rfl
 |x::xs,h=>by
  have h1:xM (sA fr l) x=xM fr x:=by
   cases x with
   |t p=>exact Oy (h p (by simp))
   |c v=>rfl
  simp only[di,h1,Oz λp hp=>h p (Za1 _ hp)]
theorem WN{o:aU}{p:Pos}(h:dh.t p∈o.xs):p∈o.looks:=by
 unfold aU.looks;exact Zh4 _ (Zk6.2 ⟨_,h,rfl⟩)
theorem S9{o:aU}{p:Pos}{q:Bool}(h:o.guard=some (p,q)):p∈o.looks:=by unfold aU.looks;rw[h];simp
theorem Yields.upon{K:Value->World->Prop}{N:Next}{x:Value}{w:World}(h:Yields N x)(hk:K x w):Reaches P K (.ok N w):=by rcases h with rfl|⟨rfl,rfl⟩<;>exact hk
theorem Yz(hT:bE P tt)(bw:dS P C call)(G:vq tt nt ops call bG h0 n0 R){iK:Pos->Loc}{w0:World}{D:Nat->Prop}{A B:List Rec}{ρ:Pos->Loc}{a:Act}{w:World}
  (hI:Inv C nt ops bG h0 n0 R iK w0 D A B ρ a w) {i:Nat} (hi:i<ops.size) (hD:¬D i)
  (mA:∀o e,ops[i]? =some o->e∈o.after->Region.binds .any e=true->D e.on):
  z9 P ops i (λa' w'=>∃A' B' ρ',Inv C nt ops bG h0 n0 R iK w0 (λj=>D j\/j=i) A' B' ρ' a' w') a w:=by
 obtain⟨r,hr,rfl⟩:=G.all i hi;obtain⟨X,Y,hR⟩:=js hr;obtain⟨o,ho,hrel,hB⟩:=G.rel r hr;have hp:=hI.1;have Nd:∀b,r.o.bl.testBit b=true->D b:=λb hb=>G.LR hp.closed (hB.2 b hb) mA
 obtain⟨Z,hA,OA⟩:=around G hp hR hD;have E5:∀ρ',(∀b,Kept n0 R D b->ρ' b=ρ b)->∀p v,p∈r.o.looks->(jY bG Y).get p=some v->∃x,a.tmps[p.toNat - 1]? =some x/\aj ρ' (cE n0 Y).toNat C v x:=
  λρ' hf p v hl hv=>look G hp (hI.2 ρ' hf).t1 (hI.2 ρ' hf).t0 hR hD Nd hl hv
 have hFR:∀ρ',(∀b,Kept n0 R D b->ρ' b=ρ b)->eg ρ' (cE n0 Y).toNat C (sA (jY bG Y) r.o.looks) a.tmps:=λρ' hf p v hv=>
  let⟨h1,h2⟩:=JQ hv;E5 ρ' hf p v h1 h2
 have E6:∀b,Kept n0 R D b->ρ b=ρ b:=λ_ _=>rfl
 have hw:∀b,bA (jY bG Y) r.o.guard=some b->Region.wanted o (yielded ops a.tmps)=b:=λb hb=>
  Ab hrel.guard (λp v hv ⟨q,hq⟩=>E5 ρ E6 p v (S9 hq) hv) hb
 have hnZ:∀s∈Z,s.nx.toNat<=(cE n0 Y).toNat:=λs hs=>by obtain⟨Z1,Z2,rfl⟩:=js hs;have:=G.zq (X:=X) (r:=r) (Z:=Z1) (r':=s) (Y':=Z2++B) (by rw[hR,OA];simp);rw[OA];simp only[Zh9,Ze7];exact this
 have Q0:(cE n0 B).toNat<=(cE n0 Y).toNat:=by rw[OA];exact G.xQ (X:=X++[r]) (by rw[hR,OA];simp)
 have hs:=Good.at (hR ▸G.KB);have hex:∀xs,di (jY bG Y) r.o.xs=some xs->di (sA (jY bG Y) r.o.looks) r.o.xs=some xs:=λxs hx=>by rw[Oz λp hp=>WN hp];exact hx
 unfold z9;simp only[ho];generalize hrr:r=r0 at*
 cases hs with
 |skip i' o' _ hw'=>
  rw[Za4 (by rw[hw _ hw'];simp)];exact⟨A,B,ρ,Ov G hI hR hD mA hrel rfl λρ' _=> .Om⟩
 |pure i' o' v xs _ hw' hx Ot=>
  rw[Za7 (hw _ hw')];rw[OA]at Ot;obtain⟨h,CA,bL⟩:=Ot Z B rfl hp.bound λs hs he=>by
    cases hb:o'.bl.testBit s.idx with
    |false=>rfl
    |   true=>
        have h1:=hp.QZ s (by rw[hA];simp[hs]) (Nd _ hb);rw[h1]at he;cases he
  rcases hrel.op with hc|⟨hk,_⟩
  . have H:∀ρ',(∀b,Kept n0 R D b->ρ' b=ρ b)->∃N x,(execOp a.eval o).run P w= .ok N w/\Yields N x/\aj ρ' (cE n0 Y).toNat C v x:=by
        intro ρ' hf;have hW:=Vc G (hI.2 ρ' hf) hp.split (hp:=h) Q0 λb y hb=>(CA b y hb).imp (λh=>h) λ⟨s,h1,h2,h3⟩=>
          ⟨s,by rw[hA];simp[h1],Nd _ h3,h2,hnZ s h1⟩
        exact Jb hT o.op ρ' C _ w _ _ _ _ a o _ _ rfl hc hW (hFR ρ' hf) (hex xs hx) (Yr bL λ_ _ h=>h)
    obtain⟨N,x,he,hy,hv⟩:=H ρ E6;unfold M9;rw[he];refine hy.upon ⟨A,B,ρ,Ov G hI hR hD mA hrel rfl λρ' hf=> ?_⟩;obtain⟨N',x',iT,Ox,zZ⟩:=H ρ' hf;rw[he]at iT;simp only[Result.ok.injEq,Zn5]at iT;subst iT;rw[hy.eq Ox];exact zZ
  .rw[hk]at bL;cases bL
 |new   i' o' v aq xs _ hw' hx bL=>
  rw[Za7 (hw _ hw')];rcases hrel.op with hc|⟨hk,_⟩
  . obtain⟨N,x,w',L,he,hy,h1,h2,h3,h4,h5,h6,h7⟩:=WL hT hc bL (hex xs hx) (TU:=λρ'=>∀b,Kept n0 R D b->ρ' b=ρ b) E6 hFR
        (λad v ha=>((hI.2 ρ E6).W.cL ad v ha).1) (hI.2 ρ E6).W.whole
    unfold M9;rw[he];exact hy.upon ⟨A,B,_,Yu G hI hR hD mA hrel rfl h1 h2 h3 h4 h5 h6 h7⟩
  .rw[hk]at bL;cases bL
 |aC i' o' v st' xs _ Ys hw' hx nu=>
  rw[Za7 (hw _ hw')];rcases hrel.op with hc|⟨hk,_⟩
  . have hY:∀s∈Y,D s.idx:=λs hs=>Nd _ (G.aC X _ Y hR Ys s hs)
    have hZ:∀s∈Z,s.c.jB=false:=λs hs=>hp.QZ s (by rw[hA];simp[hs]) (hY s (by rw[OA];simp[hs]))
    have hW:aM ρ C { heap:=gF h0 Y,next:=cE n0 Y } w:=Vc G (hI.2 ρ E6) hp.split Q0 λb y hb=>by
        rw[OA]at hb;rcases vr hZ hp.bound hb with hb|⟨s,h1,h2⟩
        .exact .inl hb
        .exact .inr ⟨s,by rw[hA];simp[h1],hY s (by rw[OA];simp[h1]),h2,hnZ s h1⟩
    have hre:=JN hT bw hc hW (hFR ρ E6) (hex xs hx) nu;(refine hre.mono λx w' Vd=> ?_);obtain⟨jR,h⟩:=Yx G hI hR hD mA hrel hY rfl rfl Vd;exact⟨_,_,jR,h⟩
  .exact(Reaches.bad hk nu).elim
end
section
variable{P:Program}{tt:TT}{C:Cells}{nt:Nat}{ops:Array Oper}{call:ah}{bG:Fr}{h0:T AB}{n0:Pos}{R:List Rec}
theorem OB(G:vq tt nt ops call bG h0 n0 R){iK:Pos->Loc}{w0:World}{D:Nat->Prop}{A B:List Rec}{ρ:Pos->Loc}{a:Act}{w:World}
   (hI:Inv C nt ops bG h0 n0 R iK w0 D A B ρ a w) (fq:∀r∈R,D r.idx):ew nt iK C { heap:=h0,next:=n0 } w0 (jY bG R) { heap:=gF h0 R,next:=cE n0 R } a w:=by
 obtain⟨hp,hI⟩:=hI;have h:=hI ρ λ_ _=>rfl
 have hZ:∀s∈A,s.c.jB=false:=λs hs=>hp.QZ s hs (fq s (by rw[hp.split];simp[hs]))
 have hnA:∀s∈A,s.nx.toNat<=(cE n0 R).toNat:=λs hs=>by obtain⟨Z1,Z2,hA⟩:=js hs;have:=G.xQ (X:=[]) (Y:=Z1) (Z:=s::(Z2++B)) (by rw[hp.split,hA];simp);have e:R=Z1++s::(Z2++B):=(by rw[hp.split,hA];simp);rw[<-e]at this;exact this
 have Q0:(cE n0 B).toNat<=(cE n0 R).toNat:=by
   have:=G.xQ (X:=[]) (Y:=A) (Z:=B) (by rw[hp.split];simp)
   rwa [<-hp.split]at this
 have JM:n0.toNat<=(cE n0 R).toNat:=G.U9 (X:=[]) rfl;have CA:∀b x,(gF h0 R).get b=some x->(gC h0 B).get b=some x\/∃s∈A,D s.idx/\s.c= .new b x/\s.nx.toNat<=(cE n0 R).toNat:=λb x hb=>by
   rw[hp.split]at hb;rcases vr hZ hp.bound hb with hb|⟨s,h1,h2⟩
   .exact .inl hb
   .exact .inr ⟨s,h1,fq s (by rw[hp.split];simp[h1]),h2,hnA s h1⟩
 refine⟨ρ,⟨Vc G h hp.split Q0 CA,?_,hp.size,hp.defers⟩,h.zp,JM,?_⟩
 . intro p v hv;rcases Hw R p v hv with⟨M,s,T,hM,h2,rfl,h3⟩|⟨h1,h2⟩
   . obtain⟨x,hx,Hx⟩:=h.t1 M s T p hM (fq s (by rw[hM];simp)) h2 λs' jV _=>h3 s' jV
     refine⟨x,hx,Hx.mono (λ_ _=>rfl) ?_⟩;have:=G.xQ (X:=[]) (Y:=M) (Z:=s::T) (by rw[hM];simp);rw[<-hM]at this;exact this
   . obtain⟨x,hx,Hx⟩:=h.t0 p v h1 λs hs _=>h2 s hs
     exact⟨x,hx,Hx.mono (λ_ _=>rfl) JM⟩
 . refine⟨h.E.os,h.E.tape,h.E.output,h.E.size,h.E.block,λb x hb=> ?_⟩;rcases CA b x hb with hb|⟨s,h1,h2,h3,_⟩
   .exact h.E.kZ b x hb
   .exact .inr (h.N s h1 h2 b x h3).2.2.1
def DL(listed:Array Bool)(j:Nat):Prop:=listed.getD j false=true
theorem WO{listed:Array Bool}{i:Nat}(hi:i<listed.size):(λj=>DL listed j\/j=i)=DL (listed.setIfInBounds i true):=by
 funext j;apply propext;unfold DL;by_cases h:j=i
 .subst h;simp[hi]
 .rw[getD_set_ne false (Ne.symm h)];simp[h]
theorem Q4{listed:Array Bool}{j:Nat}(h:listed.getD j true=false):¬DL listed j:=by
 unfold DL;intro h';rcases Zh5 j listed.size with hj|hj
 .simp[hj]at h h';rw[h]at h';cases h'
 .simp[Array.getElem?_eq_none hj]at h'
theorem aay{listed:Array Bool}{j:Nat}(hj:j<listed.size)(h:¬DL listed j):listed.getD j true=false:=by unfold DL at h;simp[hj]at h ⊢; exact h
theorem HB(G:vq tt nt ops call bG h0 n0 R){listed:Array Bool}(hs:listed.size=ops.size)(hr:Region.ready .any ops listed=[]):∀(Y X:List Rec),R=X++Y->∀r∈Y,DL listed r.idx
 |[],_,_,r,oC=>by cases oC
 |r ::Y  ,X,hR,r',oC=>by
  have ih:=HB G hs hr Y (X++[r]) (by rw[hR];simp);rcases Za0.1 oC with rfl|oC
  . obtain⟨o,ho,_,hB⟩:=G.rel r' (by rw[hR];simp);have aW:r'.idx<ops.size:=(Zb6.1 ho).1;by_cases h:DL listed r'.idx
    .   exact h
    .   exfalso;have:r'.idx∈Region.ready .any ops listed:=mem_ready.2 ⟨aay (by omega) h,o,ho,λe he hb=>by obtain⟨s,h1,h2⟩:=G.bl X r' Y hR _ (hB.1 o ho e he hb);have:=ih s h1;rw[h2]at this;exact this⟩;rw[hr]at this;cases this
  .exact ih r' oC
theorem OC(hT:bE P tt)(bw:dS P C call)(G:vq tt nt ops call bG h0 n0 R){Q:Exit->Act->World->Prop}{iK:Pos->Loc}{w0:World}
  (hQ:∀a' w',ew nt iK C { heap:=h0,next:=n0 } w0 (jY bG R) { heap:=gF h0 R,next:=cE n0 R } a' w'->Q .normal a' w'):
  ∀ (fuel:Nat)(listed:Array Bool)(U:List Nat)(A B:List Rec)(ρ:Pos->Loc)(a:Act)(w:World),listed.size=ops.size->U.length<=fuel->U.Nodup->(∀j,j<ops.size->¬DL listed j->j∈U)->
    Inv C nt ops bG h0 n0 R iK w0 (DL listed) A B ρ a w->P4 P ops (Q .normal) fuel listed a w
 |0,listed,U,A,B,ρ,a,w,hs,hU,_,hm,hI=>by
  have hU0:U=[]:=Za6 (by omega);subst hU0;have hr:Region.ready .any ops listed=[]:=by
    cases h:Region.ready .any ops listed with
    |nil=>rfl
    |   cons i l=>
        have hi:i∈Region.ready .any ops listed:=(by rw[h];simp);obtain⟨h1,o,ho,_⟩:=mem_ready.1 hi;have:=hm i (Zb6.1 ho).1 (Q4 h1);cases this
  exact⟨hr,hQ a w (OB G hI (HB G hs hr R [] rfl))⟩
 |fuel+1,listed,U,A,B,ρ,a,w,hs,hU,Gj,hm,hI=>by
  refine⟨λhr=>hQ a w (OB G hI (HB G hs hr R [] rfl)),λi hi=> ?_⟩;obtain⟨h1,o,ho,h2⟩:=mem_ready.1 hi;have aW:i<ops.size:=(Zb6.1 ho).1;have nu:=Yz hT bw G hI aW (Q4 h1) λo' e BM he hb=>by rw[ho]at BM;simp only[H0]at BM;subst BM;exact h2 e he hb
  refine Oi (λa' w' hh=> ?_) nu;obtain⟨A',B',ρ',hI'⟩:=hh;rw[WO (by omega)]at hI';have hiU:i∈U:=hm i aW (Q4 h1);refine OC hT bw G hQ fuel _ (U.erase i) A' B' ρ' a' w' (by simp[hs]) ?_ (Gj.erase i) (λj hj hD=> ?_) hI'
  .rw[List.length_erase_of_mem hiU];omega
  . (rw[<-WO (by omega)]at hD;have cW:j≠i:=λe=>hD (.inr e));exact(List.mem_erase_of_ne cW).2 (hm j hj λh=>hD (.inl h))
theorem E7(hm:P.follows .mixedOrders=true)(hT:bE P tt)(bw:dS P C call)(ab5:jX call):oD P tt C call:=by
 intro nt id ops l Q fr aN st st' ρ a w hl cJ h hS hQ;obtain⟨R,hG,hmap,TB,ab6,HA⟩:=LQ (call:=call) (bG:=fr) (h0:=st.heap) (n0:=st.next) _ [] fr aN st st' h trivial rfl rfl rfl;simp only[Zf4]at hG TB ab6 HA;have hst':st'={ heap:=gF st.heap R,next:=cE st.next R }:=by cases st';simp_all
 have hlen:l.length=ops.size:=by rw[(lf hl).1,Ze4]
 have LU:=JP _ 0 [] cJ λb=>by simp
 have hL:tu (zR 0 l) []=(R.map λr=>(r.idx,r.o)).reverse:=by rw[hmap,List.reverse_reverse]
 have dec:∀{A B:List Rec}{r:Rec},R=A++r::B->tu (zR 0 l) []=(B.map λr=>(r.idx,r.o)).reverse++(r.idx,r.o)::(A.map λr=>(r.idx,r.o)).reverse:=λe=>by rw[hL,e];simp
 have KC:∀{B:List Rec}{i:Nat},i∈((B.map λr=>(r.idx,r.o)).reverse).map (·.1)↔ ∃r∈B,r.idx=i:=λ{B i}=>by simp
 have G:vq tt nt ops call fr st.heap st.next R:=by
   refine⟨hG,ab5,λA r B e r' oC hi=> ?_,λA r B e b hb=> ?_,λA r B e hc r' oC=> ?_,λA r B e r' oC=> ?_,λr hr=> ?_,λi hi=> ?_⟩
   .exact(LU.one _ _ _ _ (dec e)).2 (KC.2 ⟨r',oC,hi⟩)
   . rcases LU.bl _ _ _ _ (dec e) b hb with h|h
     .cases h
     .exact KC.1 h
   .exact LU.aC _ _ _ _ (dec e) hc _ (.inr (KC.2 ⟨r',oC,rfl⟩))
   .exact LU.apart _ _ _ _ (dec e) (r'.idx,r'.o) (by simp;exact⟨r',oC,rfl,rfl⟩)
   .obtain⟨A,B,e⟩:=js hr;have hx:(r.idx,r.o)∈tu (zR 0 l) []:=(by rw[dec e];simp);have h1:=aax hx;obtain⟨o,h2,h3,h4⟩:=xe hl _ _ h1;refine⟨o,h2,h3,?_⟩;rw[h4];exact TN ops.toList [] rfl (Zk7 _) (λi hi=>by simp at hi) _ (Zb6.1 h2).1
   . rcases LU.all i (by rw[hlen];exact hi)with h|h
     .cases h
     .rw[hL]at h;exact KC.1 h
 refine⟨hm,?_⟩;rw[hst',TB]at hQ;have hkn:∀b:Pos,b.toNat<st.next.toNat->∀D,Kept st.next R D b:=λb hb D A r B e _=>.inl (Zb5 hb (G.U9 (X:=A++[r]) (by rw[e];simp)))
 refine OC (Q:=Q) (iK:=ρ) (w0:=w) hT bw G hQ ops.size _ (List.range ops.size) R [] ρ a _ (by simp) (by simp) List.nodup_range (λj hj _=>List.mem_range.2 hj) ?_;have lW:∀j,¬DL (Array.replicate ops.size false) j:=λj h=>by
   unfold DL at h;rcases Zh5 j ops.size with hj|hj
   .simp[hj]at h
   .simp[Nat.not_lt.2 hj]at h
 refine⟨⟨by simp,trivial,(λr hr=>by cases hr),λr _ hD=>absurd hD (lW _),λi _ _ hD=>absurd hD (lW _),hS.size,hS.defers⟩,λρ' xg=> ?_⟩;have lV:∀b:Pos,b.toNat<st.next.toNat->ρ' b=ρ b:=λb hb=>xg b (hkn b hb _)
 have hW:aM ρ' C st { w with drawn:=w.drawn+1 }:=(hS.W.congr lV).grow (H5 _) λ_ _=>rfl
 refine⟨hW,λr _ hD=>absurd hD (lW _),λr _ hD=>absurd hD (lW _),λM s T p _ hD=>absurd hD (lW _),λp v hv _=> ?_,⟨rfl,rfl,rfl,H5 _,λ_ _ _=>rfl,λb x hb=>.inl ⟨b,x,hb,?_⟩⟩,lV⟩
 .obtain⟨x,hx,Hx⟩:=hS.F p v hv;exact⟨x,hx,Hx.mono lV (H5 _)⟩
 .rw[lV b (hS.W.live b x hb).1]
theorem Ew(hm:P.follows .mixedOrders=true)(hT:bE P tt){O:dw}{G:T b9}(hO:nA P C O)(HC:iX O)(hG:Lf P tt G)(m d:Nat):dS P C (nC O G m d):=
 JO hT hO hG m (λd bw=>E7 hm hT bw (EW HC m d)) d
end
end
section
section
variable{R:Type}
theorem q7{α:Type}:∀(p:Pos)(t:T α),jS p t=t.get p
 |.h,.e=>rfl
 |.h,.n _ _ _=>rfl
 |.o _,.e=>rfl
 |.o p,.n l _ _=>q7 p l
 |.i _,.e=>rfl
 |.i p,.n _ _ r=>q7 p r
theorem fT{α:Type}(x:Option α):∀(p:Pos)(t:T α)(k:T α->R),k8 x p t k=k (t.put x p)
 |.h,.e,_=>rfl
 |.h,.n _ _ _,_=>rfl
 |.o p,.e,k=>fT x p .e _
 |.o p,.n l _ _,k=>fT x p l _
 |.i p,.e,k=>fT x p .e _
 |.i p,.n _ _ r,k=>fT x p r _
theorem xF(n:Nat)(k:Nat->R):k9 n k=k n:=by cases n<;>rfl
theorem Ta(n:Int)(k:Int->R):Kq n k=k n:=by cases n<;>simp only[Kq,xF]
theorem Q5(b:Bool)(k:Bool->R):N9 b k=k b:=by cases b<;>rfl
theorem BR{α:Type}:∀(l:List α)(k:List α->R),ve l k=k l
 |[],_=>rfl
 |a::l,k=>BR l λt=>k (a::t)
theorem CB:∀(p:Pos)(k:Pos->R),EI p k=k p
 |.h,_=>rfl
 |.o p,k=>CB p λq=>k (.o q)
 |.i p,k=>CB p λq=>k (.i q)
theorem WQ(o:Option Nat)(k:Option Nat->R):Qq o k=k o:=by
 cases o with
 |none=>rfl
 |some n=>simp only[Qq,xF]
theorem OD(v:AV)(k:AV->R):Hh v k=k v:=by
 cases v<;>simp only[Hh,Q5,Ta,BR,CB,xF,WQ]
theorem E8:∀(l:List AV)(k:List AV->R),I9 l k=k l
 |[],_=>rfl
 |a::l,k=>by
  show Hh a (λa=>I9 l λt=>k (a::t))=_;rw[OD,E8 l]
theorem BS(v:AV)(k:AV->R):oA v k=k v:=by
 unfold oA;split
 .exact E8 _ _
 .exact OD _ _
theorem E9(x:AB)(k:AB->R):zK x k=k x:=by
 cases x<;>simp only[zK,BR,xF]
theorem Fa:∀(p:Pos)(k:Pos->R),Ln p k=k p.succ
 |.h,_=>rfl
 |.o _,_=>rfl
 |.i p,k=>Fa p λq=>k (.o q)
variable(z:R)
def lq{α:Type}(r:Option α)(k:α->R):R:=match r with
 |some x=>k x
 |none=>z
theorem HD(fr:Fr)(x:dh)(k:AV->R):Oa z fr x k=lq z (xM fr x) k:=by
 cases x with
 |t p=>simp only[Oa,q7,xM,lq];cases T.get p fr<;>rfl
 |c v=>rfl
theorem Jd(fr:Fr):∀(xs:List dh)(k:List AV->R),Kr z fr xs k=lq z (di fr xs) k
 |[],k=>rfl
 |x::xs,k=>by
  show Oa z fr x (λv=>Kr z fr xs λvs=>k (v::vs))=_;rw[HD];simp only[Jd fr xs];simp only[di];cases xM fr x with
  |none=>rfl
  |some v=>simp only[lq];cases di fr xs<;>rfl
theorem LV(fr:Fr)(g:Option (Pos×Bool))(yes no:R):zL z fr g yes no=match bA fr g with
  |some true=>yes
  |some false=>no
  |none=>z:=by
 unfold zL bA;cases g with
 |none=>rfl
 |some g=>
  obtain⟨p,want⟩:=g;simp only[q7];cases T.get p fr with
  |none=>rfl
  |some v=>
   (cases v<;>try rfl);rename_i b;cases b<;>cases want<;>rfl
theorem LW(fr:Fr)(d:Option Pos)(v:AV)(k:Fr->R):iQ fr d v k=k (cA fr d v):=by
 cases d with
 |none=>rfl
 |some p=>exact fT _ _ _ _
theorem aaz(st:St)(del:Option Pos)(set:Option (Pos×AB))(new:Option AB)(k:St->R):X7 st del set new k=k (st.aC del set new):=by
 have hdel:∀(h:T AB)(k:T AB->R),delK del h k=k (Cq del h):=λh k=>by
  cases del with
  |none=>rfl
  |some b=>exact fT _ _ _ _
 have EP:∀(h:T AB)(k:T AB->R),X6 set h k=k (EF set h):=λh k=>by
  cases set with
  |none=>rfl
  |some b=>simp only[X6,E9,fT];rfl
 unfold X7;rw[hdel,EP];cases new with
 |none=>rfl
 |some x=>simp only[E9,fT,Fa];rfl
def CK(aP:gp R)(call:ah):Prop:=∀f args st k,aP f args st k=lq z (call f args st) λx=>k x.1 x.2
variable{aP:gp R}{call:ah}
theorem Fb(h:T AB):(λb=>jS b h)=λb=>h.get b:=funext λb=>q7 b h
theorem Q6(hc:CK z aP call)(op:au)(xs:List AV)(st:St)(k:AV->St->R):Ja z aP op xs st k=lq z (bQ call op xs st) λx=>k x.1 x.2:=by
 unfold Ja bQ;rw[Fb];cases op.run (λb=>st.heap.get b) st.next xs with
 |none=>rfl
 |some r=>
  cases r with
  |val v=>simp only[BS];rfl
  |aC v d s n=>simp only[BS,aaz];rfl
  |call f args=>simp only[BR];exact hc f args st k
theorem Je(hc:CK z aP call):∀(ops:List aU)(fr:Fr)(st:St)(k:Fr->St->R),MW z aP ops fr st k=lq z (gM call ops fr st) λx=>k x.1 x.2
 |[],fr,st,k=>rfl
 |o::os,fr,st,k=>by
  show zL z fr o.guard (Kr z fr o.xs λxs=>Ja z aP o.k xs st λv st=>iQ fr o.dst v λfr=>MW z aP os fr st k) (iQ fr o.dst .undef λfr=>MW z aP os fr st k)=_;rw[LV,Jd];simp only[Q6 z hc,LW,Je hc os];simp only[gM];cases bA fr o.guard with
  |none=>rfl
  |some b=>
   cases b with
   |false=>rfl
   |    true=>
        simp only[];cases di fr o.xs with
        |none=>rfl
        |some xs=>
         simp only[lq];cases bQ call o.k xs st with
         |none=>rfl
         |some x=>rfl
theorem Ak(bl:Nat)(h:T AB):∀(recs:List Rec)(k:T AB->R),EJ bl h recs k=k (snap bl h recs)
 |[],k=>rfl
 |r::rs,k=>by
  show (match r.c with
   |    .new id aq=>match bl.testBit r.idx with
        |true=>EJ bl h rs λh'=>k8 (some aq) id h' k
        |false=>EJ bl h rs k
   |.aC _ _=>k h
   |.pure=>EJ bl h rs k)=_
  unfold snap;cases r.c with
  |pure=>exact Ak bl h rs k
  |aC _ _=>rfl
  |new id aq=>
   simp only[];cases bl.testBit r.idx with
   |true=>simp only[Ak bl h rs,fT]
   |false=>exact Ak bl h rs k
theorem OE(h:T AB):∀(l:List (Pos×AB))(k:T AB->R),Qr h l k=k (u5 l h)
 |[],k=>rfl
 |(id,aq)::l,k=>by show Qr h l (λh'=>k8 (some aq) id h' k)=_;rw[OE h l,fT];rfl
theorem vt(bl:Nat)(op:au)(xs:List AV)(v:AV):∀(recs:List Rec)(up:List (Pos×AB)),nj bl op xs v up recs=iP bl op xs v up recs
 |[],up=>rfl
 |r::rs,up=>by
  unfold nj iP;cases r.c with
  |pure=>exact vt bl op xs v rs up
  |new id aq=>simp only[vt bl op xs v rs]<;>(cases bl.testBit r.idx<;>rfl)
  |aC base _=>
   simp only[vt bl op xs v rs,Ak,OE];unfold Qt mj;simp only[Fb]<;>(cases bl.testBit r.idx<;>rfl)
theorem Q7 (hc:CK z aP call):∀(ops:List (Nat×aU))(recs:List Rec)(base:T AB)(fr:Fr)(st:St)(k:Fr->St->R),
  EK z aP ops recs base fr st k=lq z (cr call ops recs base fr st) λx=>k x.1 x.2
 |[],recs,base,fr,st,k=>rfl
 |(j,   o)::  os,recs,base,fr,st,k=>by
  show zL   z fr o.guard
    (Kr   z fr o.xs λxs=>match o.cls with
        | .new=>match o.k.run (λ_=>none) st.next xs with
          |some (.aC v none none (some aq))=>oA v λv=>zK aq λaq=>iQ fr o.dst v λfr=>Ln st.next λn=>k8 (some aq) st.next st.heap λh=>
              EK z aP os ({ idx:=j,o:=o,v:=v,c:= .new st.next aq,nx:=n }::recs) base fr { heap:=h,next:=n } k
          |_=>z
        |.aC=>Ja z aP o.k xs st λv st'=>iQ fr o.dst v λfr=>EK z aP os ({ idx:=j,o:=o,v:=v,c:= .aC base st'.heap,nx:=st'.next }::recs) st'.heap fr st' k
        | _ =>match o.k.run (λ_=>none) .h xs with
          |some (.val v)=>oA v λv=>iQ fr o.dst v λfr=>EK z aP os ({ idx:=j,o:=o,v:=v,c:= .pure,nx:=st.next }::recs) base fr st k
          | _ =>EJ o.bl base recs λh=>match o.k.run (λb=>jS b h) .h xs with
            | some (.val v)=>oA v λv=>match nj o.bl o.k xs v [] recs with
              |true=>iQ fr o.dst v λfr=>EK z aP os ({ idx:=j,o:=o,v:=v,c:= .pure,nx:=st.next }::recs) base fr st k
              |false=>z
            |_=>z)
    (iQ fr o.dst .undef λfr=>EK z aP os ({ idx:=j,o:=o,v:= .undef,c:= .pure,nx:=st.next }::recs) base fr st k)=_
  rw[LV,Jd];simp only[Q6 z hc,LW,BS,E9,Fa,fT,Ak,vt,Fb,Q7 hc os];simp only[cr];cases bA fr o.guard with
  |none=>rfl
  | some b=>
    cases b with
    |false=>rfl
    |   true=>
        simp only[];cases di fr o.xs with
        |none=>rfl
        | some xs=>
          simp only[lq];cases o.cls with
          | new=>
            simp only[];split<;>simp_all
          | aC=>
            simp only[];cases bQ call o.k xs st with
            |none=>rfl
            |some x=>rfl
          | pure=>
            simp only[];split
            .simp_all
            .split<;>simp_all;split<;>simp_all
          | read=>
            simp only[];split
            .simp_all
            .split<;>simp_all;split<;>simp_all
def Q8(r:Option (gY×Fr×St))(kn:Fr->St->R)(kx:Nat->Fr->St->R)(kr:Fr->St->R):R:=match r with
 |some (.normal,fr,st)=>kn fr st
 |some (.exit id,fr,st)=>kx id fr st
 |some (.ret,fr,st)=>kr fr st
 |none=>z
theorem KD(hc:CK z aP call):∀(m:Nat)(c:AC)(fr:Fr)(st:St)(kn:Fr->St->R)(kx:Nat->Fr->St->R)(kr:Fr->St->R),
  Lo z aP m c fr st kn kx kr=Q8 z (exec call m c fr st) kn kx kr
 |0,c,fr,st,kn,kx,kr=>rfl
 |m+    1,c,fr,st,kn,kx,kr=>by
  have ih:=KD hc m;show nk z aP (Lo z aP m) c fr st kn kx kr=Q8 z (aO call (exec call m) c fr st) kn kx kr;cases c with
  |skip=>rfl
  |region ops=>
   simp only[nk,aO,Je z hc];cases gM call ops fr st with
   |none=>rfl
   |some x=>rfl
  |draw ops=>
   simp only[nk,aO,Q7 z hc];cases cr call ops [] st.heap fr st with
   |none=>rfl
   |some x=>rfl
  |seq a b=>
   simp only[nk,aO,ih];cases exec call m a fr st with
   |none=>rfl
   |    some x=>
        obtain⟨e,bF,aJ⟩:=x;cases e<;>rfl
  |cond x a b=>
   simp only[nk,aO,HD];cases xM fr x with
   |none=>rfl
   |    some v=>
        simp only[lq];(cases v<;>try rfl);rename_i t;cases t<;>simp only[ih]
  |block id a=>
   simp only[nk,aO,ih];cases exec call m a fr st with
   |none=>rfl
   |    some x=>
        obtain⟨e,bF,aJ⟩:=x;(cases e<;>try rfl);rename_i pJ;simp only[Q8];cases Nat.beq pJ id<;>rfl
  |loop a=>
   simp only[nk,aO,ih];cases exec call m a fr st with
   |none=>rfl
   |    some x=>
        obtain⟨e,bF,aJ⟩:=x;cases e<;>rfl
  |exit id=>rfl
  |ret=>rfl
theorem zu:∀(vs:List AV)(i:Nat)(fr:Fr)(k:Fr->R),w7 vs i fr k=k (params i vs fr)
 |[],i,fr,k=>rfl
 |v::vs,i,fr,k=>by show k8 (some v) (key i) fr (λfr=>w7 vs (i+1) fr k)=_;rw[fT,zu vs];rfl
theorem Tb(st:St)(fr:Fr)(rs:List xL)(k:AV->R):w8 z st fr rs k=lq z (bY (λb=>st.heap.get b) fr rs) λvs=>k (fk vs):=by
 unfold w8;rw[Fb];cases bY (λb=>st.heap.get b) fr rs with
 |none=>rfl
 |some vs=>
  simp only[E8,lq];cases vs with
  |nil=>rfl
  |cons v vs=>cases vs<;>rfl
theorem Fe (O:dw)(G:T b9)(m:Nat):∀d,CK z (Bz z O G m d) (nC O G m d)
 |0=>λf args st k=>rfl
 |d+    1=>fun f args st k=>by
  have ih:=Fe O G m d;show( match O f with
   |    some s=>match s args st with
        |some (v,st')=>oA v λv=>k v st'
        |none=>z
   |    none=>match jS (key f) G with
        |some F=>match Nat.beq args.length F.nparams with
         |true=>w7 args 0 .e λfr=>Lo z (Bz z O G m d) m F.code fr st
             (λfr st=>w8 z st fr F.results λv=>k v st)
             (λ_ _ _=>z)
             (λfr st=>w8 z st fr F.results λv=>k v st)
         |false=>z
        |none=>z)=_
  simp only[nC,BS,q7,zu,KD z ih,Tb];cases O f with
  |some s=>
   simp only[];cases s args st with
   |none=>rfl
   |some x=>rfl
  |none=>
   simp only[];cases G.get (key f)with
   |none=>rfl
   |    some F=>
        simp only[];cases Nat.beq args.length F.nparams with
        |false=>rfl
        |true=>
         simp only[];cases exec (nC O G m d) m F.code (params 0 args .e) st with
         |none=>rfl
         |  some x=>
            obtain⟨e,bF,aJ⟩:=x;cases e with
            |normal=>
             simp only[Q8];cases bY (λb=>aJ.heap.get b) bF F.results<;>rfl
            |exit id=>rfl
            |ret=>
             simp only[Q8];cases bY (λb=>aJ.heap.get b) bF F.results<;>rfl
end
end
section
open Go
def Vg (P:Program)(t:Nat)(ti:TI):Bool:=
 match P.underlying t,P.info? t with
 |  some d,some i=>bn ti.k d&&Nat.beq i.size ti.size&&Nat.beq i.bytes ti.bytes&&
    (match ti.zero with
     |none=>true
     | some z=>match i.zero with
       |some v=>(match kQ v.cells.toList with
           |some z'=>p9 z' z
           |none=>false)&&Nat.beq z.length ti.size&&(match ti.k.isAgg,v with
           |true,.agg _=>true
           |true,_=>false
           |false,.agg _=>false
           |false,_=>true)
       |none=>false)&&(match ti.k with
     |.ptr e=>(P.info? e).isSome
     |_=>true)&&(!ti.tr||(!P.stoodInHeld t&& !P.eqGuardType P.depth t))
 |_,_=>false
theorem YA{P:Program}{t:Nat}{ti:TI}(h:Vg P t ti=true):UO P t ti:=by
 unfold Vg at h;split at h<;>first|(cases h;done)|skip
 rename_i d i hd hi;simp only[Za2,Zg0,Zg3]at h;obtain⟨⟨⟨⟨⟨h1,h2⟩,h3⟩,h4⟩,h6⟩,h5⟩:=h;refine⟨⟨d,hd,h1⟩,⟨i,hi,H2 h2,H2 h3,λz hz=> ?_⟩,λe he=> ?_,λhe=> ?_⟩
 . rw[hz]at h4;simp only at h4;(split at h4<;>first|(cases h4;done)|skip);rename_i v hv;simp only[Za2]at h4;obtain⟨⟨g1,g2⟩,g3⟩:=h4;(split at g1<;>first|(cases g1;done)|skip);rename_i z' wQ;rw[xE g1]at wQ;refine⟨v,hv,wQ,H2 g2,λha=> ?_,λha=> ?_⟩
   .rw[ha]at g3;cases v<;>first|exact⟨_,rfl⟩|cases g3
   .rw[ha]at g3;cases v<;>first|rfl|cases g3
 .rw[he]at h6;exact Option.isSome_iff_exists.1 h6
 . rcases h5 with h5|h5
   .rw[he]at h5;cases h5
   .exact h5
def zG(P:Program):(Pos->Pos)->T TI->Bool
 |_,.e=>true
 |  f,.n l v r=>(match v with
    |some ti=>Vg P ((f .h).toNat - 1) ti
    |none=>true)&&zG P (λp=>f (.o p)) l&&zG P (λp=>f (.i p)) r
theorem Ff{P:Program}:∀{t:T TI}{f:Pos->Pos},zG P f t=true->∀p ti,t.get p=some ti->UO P ((f p).toNat - 1) ti
 |.e,f,_,p,ti,h=>by rw[T.cR]at h;cases h
 | .n l v r,f,hc,p,ti,h=>by
   simp only[zG,Za2]at hc;cases p with
   |h=>simp only[T.get]at h;rw[h]at hc;exact YA hc.1.1
   |o p=>exact Ff hc.1.2 p ti h
   |i p=>exact Ff hc.2 p ti h
theorem aam{P:Program}{tt:TT}(h:zG P (λp=>p) tt=true):bE P tt:=λp ti hp=>Ff h p ti hp
end
noncomputable section
open Go
def Dz{α:Type}(g:Nat->Option α):Nat->Nat->Nat->T α
 |0,_,_=>.e
 |d+1,a,m=>.n (Dz g d a (2*m)) (g (a+m - 1)) (Dz g d (a+m) (2*m))
theorem Fg{α:Type}{g:Nat->Option α}:∀{d a m:Nat}{p:Pos}{x:α},(Dz g d a m).get p=some x->g (a+m*p.toNat - 1)=some x
 |0,_,_,p,x,h=>by rw[Dz,T.cR]at h;cases h
 |d+1,a,m,.h,x,h=>by rw[Pos.toNat,Zj9];exact h
 |d+1,a,m,.o p,x,h=>by
  have:=Fg (d:=d) (a:=a) (m:=2*m) (p:=p) (x:=x) h;rw[Pos.toNat];have e:a+m*(2*p.toNat) - 1=a+2*m*p.toNat - 1:=by rw[<-Nat.mul_assoc,Nat.mul_comm m 2]
  rw[e];exact this
 |d+1,a,m,.i p,x,h=>by
  have:=Fg (d:=d) (a:=a+m) (m:=2*m) (p:=p) (x:=x) h;rw[Pos.toNat];have e:a+m*(2*p.toNat+1) - 1=a+m+2*m*p.toNat - 1:=by rw[Nat.mul_add,Zj9, <-Nat.mul_assoc,Nat.mul_comm m 2];omega
  rw[e];exact this
def aab(P:Program)(tt:TT)(i:Nat):Option b9:=match P.funcs[i]? with
 |some fn=>P1 tt fn
 |none=>none
def ggOf(P:Program)(tt:TT):T b9:=Dz (aab P tt) 10 0 1
theorem aan{P:Program}{tt:TT}(h:(P.funcs.toList.all λfn=> !(fn.name== "runtime.NumGoroutine"))=true):Lf P tt (ggOf P tt):=λp F hp=>by
 have:=Fg hp;rw[Zc8,Zm5,aab]at this;split at this<;>first|(cases this;done)|skip
 rename_i fn yR;refine⟨fn,yR,?_,this⟩;have:=Zd4.1 h fn (by obtain⟨hi,e⟩:=Zb6.1 yR;exact Zk0.2 (e ▸Array.getElem_mem hi));simpa using this
def tkOf(P:Program)(t:Nat):TK:=match P.underlying t with
 |some .bool=>.bool
 |some (.int k)=>.int k
 |some .string=>.string
 |some (.pointer e)=>.ptr e
 |some (.slice e)=>.slice e
 |some (.array n e)=>.array n e
 |some (.map k e)=>.map k e
 |some (.struct fs)=>.struct (fs.toList.map λf=>(f.offset,f.type,f.name != "_"))
 |some (.func _ _ _)=>.func
 |some (.interface _)=>.iface
 |some .unsafePointer=> .V7
 |_=>.other
def zeroOf:Option Value->Option (List AV)
 |  some v=>match Nat.ble v.cells.size 64 with
    |true=>kQ v.cells.toList
    |false=>none
 |none=>none
def memN(n:Nat):List Nat->Bool
 |[]=>false
 |  m::l=>match Nat.beq m n with
    |true=>true
    |false=>memN n l
def tiOf(P:Program)(eqs:List Nat)(t:Nat):Option TI:=match P.info? t with
 |none=>none
 |some i=>some { k:=tkOf P t,size:=i.size,bytes:=i.bytes,zero:=zeroOf i.zero,tr:=memN t eqs }
def ttOf(P:Program)(eqs:List Nat):T TI:=Dz (tiOf P eqs) 10 0 1
end
section
open Go
structure kf(P:Program)(C:Cells)(f:FuncId)(s:List AV->St->Option (AV×St)):Prop where
 mono:∀args st v st',s args st=some (v,st')->st.next.toNat<=st'.next.toNat
 runs:∀(ρ:Pos->Loc)(st:St)(w:World)(args:List AV)(v:AV)(st':St)(br:List Value),s args st=some (v,st')->
  aM ρ C st w->ak ρ st.next.toNat C args br->Reaches P (jW ρ C st w v st') ((callFunc f br.toArray).run P w)
def uZ:List (Nat×(List AV->St->Option (AV×St)))->dw
 |[]=>λ_=>none
 |  (g,s)::l=>λf=>match Nat.beq f g with
    |true=>some s
    |false=>uZ l f
theorem tD{P:Program}{C:Cells}:∀{l:List (Nat×(List AV->St->Option (AV×St)))},(∀x∈l,kf P C x.1 x.2)->nA P C (uZ l)/\iX (uZ l)
 |[],_=>⟨λf s h=>by simp[uZ]at h,λf s h=>by simp[uZ]at h⟩
 |(g,   s0)::l,hl=>by
  obtain⟨h1,h2⟩:=tD λx hx=>hl x (Za1 _ hx)
  have h0:=hl _ (Zb9 ..);refine⟨λf s h=> ?_,λf s h=> ?_⟩
  . simp only[uZ]at h;split at h
    .   rename_i he;simp only[H0]at h;subst h;have:=H2 he;subst this;exact h0.runs
    .   exact h1 f s h
  . simp only[uZ]at h;split at h
    .   simp only[H0]at h;subst h;exact h0.mono
    .   exact h2 f s h
def G6:List AV->St->Option (AV×St)
 |  [.str a,.str b],st=>some (.int .i64 (match av a b with
    |true=>.negSucc 0
    |false=>match av b a with
     |true=>.ofNat 1
     |false=>.ofNat 0),st)
 |_,_=>none
theorem HE:∀(x y:List UInt8),Lib.compareBytes x y=match av (x.map UInt8.toNat) (y.map UInt8.toNat)with
  |true=>.negSucc 0
  | false=>match av (y.map UInt8.toNat) (x.map UInt8.toNat)with
    |true=>.ofNat 1
    |false=>.ofNat 0
 |[],[]=>rfl
 |[],_::_=>rfl
 |_::_,[]=>rfl
 |a ::x  ,b::y=>by
  rw[oR,oR];have ih:=HE x y;rw[oR,oR]at ih;simp only[Lib.compareBytes,Op.bytesLess];by_cases h:a<b
  .simp[h]
  . by_cases h':b<a
    .   have cW:(a==b)=false:=(by rw[beq_eq_false_iff_ne];exact λe=>by subst e;exact h h');simp[h,h',cW]
    .   have he:a=b:=(by apply Zn9.1;rw[Zl6]at h h';omega);subst he;simp only[h,Zd5,ih];simp
theorem X3{P:Program}{C:Cells}{f:FuncId}{fn:Func}(hf:P.funcs[f]? =some fn)(gj:(fn.name== "runtime.NumGoroutine")=false)(hb:fn.body.isNone=true)
  (hx:Extern.findNext fn=none) (he:Extern.find fn=some Extern.BytealgCompare.compare):kf P C f G6 where
 mono args st v st' h:=by unfold G6 at h;split at h<;>cases h;exact H5 _
 runs ρ st w args v st' br h hW hv:=by
  unfold G6 at h;split at h<;>cases h;rename_i a b;obtain⟨x,xs,rfl,h1,h2⟩:=hv.cons_inv;obtain⟨y,ys,rfl,h3,h4⟩:=h2.cons_inv;have:=h4.kK;subst this;obtain⟨s,rfl,hs⟩:=h1.dm;obtain⟨t,rfl,ht⟩:=h3.dm;have bL:(callFunc f [Value.string s,Value.string t].toArray).run P w= .ok (.value (.int .i64 (Lib.compareBytes s.data.toList t.data.toList))) w:=by rw[run_callFunc_extern hf gj hb hx he];show((Extern.BytealgCompare.compare #[.string s,.string t]).run P w).andThen _=_;rw[Lib.run_compareString];rfl
  rw[bL];refine⟨ρ,?_,λ_ _=>rfl,H5 _,hW,iy.refl _ _ _⟩;rw[HE,hs,ht];exact .int _ _
def xS:List AV->List AV->Bool
 |[],[]=>true
 |a::x,b::y=>fj a b&&xS x y
 |_,_=>false
theorem BT:∀{a b:List AV},xS a b=true->a=b
 |[],[],_=>rfl
 |[],_::_,h=>by simp[xS]at h
 |_::_,[],h=>by simp[xS]at h
 |a::x,b::y,h=>by
  simp only[xS,Za2]at h;rw[nJ h.1,BT h.2]
def Jf:List (AV×AV×Nat)->List (AV×AV×Nat)->Bool
 |[],[]=>true
 |(a,b,n)::x,(a',b',n')::y=>fj a a'&&fj b b'&&Nat.beq n n'&&Jf x y
 |_,_=>false
theorem Q9:∀{a b:List (AV×AV×Nat)},Jf a b=true->a=b
 |[],[],_=>rfl
 |[],_::_,h=>by simp[Jf]at h
 |_::_,[],h=>by simp[Jf]at h
 |(a,b,n)::x,(a',b',n')::y,h=>by
  simp only[Jf,Za2]at h;obtain⟨⟨⟨h1,h2⟩,h3⟩,h4⟩:=h;rw[nJ h1,nJ h2,H2 h3,Q9 h4]
def BU:AB->AB->Bool
 |.cells cs fz,.cells jK fz'=>xS cs jK&&Nat.beq fz fz'
 |.map es c,.map es' c'=>Jf es es'&&Nat.beq c c'
 |.gW s p,.gW s' p'=>gw s s'&&Nat.beq p p'
 |.typed t cs,.typed t' jK=>xS cs jK&&Nat.beq t t'
 |_,_=>false
theorem KE{a b:AB}(h:BU a b=true):a=b:=by
 unfold BU at h;split at h<;>(try simp only[Za2]at h)
 .rw[BT h.1,H2 h.2]
 .rw[Q9 h.1,H2 h.2]
 .rw[kS.1 h.1,H2 h.2]
 .rw[BT h.1,H2 h.2]
 .cases h
structure Lit where
 args:List AV
 n0:Pos
 L0:List (Pos×AB)
 v:AV
 n1:Pos
 L1:List (Pos×AB)
end
end Go.Ai
