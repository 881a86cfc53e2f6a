/- Its calls answer as the model does. -/
import Derived.Test.YtoeleelojgimfaaGreatDoorPEvalC
import Derived.Lib.Bytealg
set_option linter.all false
namespace Go.Ai
section
open Go Go.RowKit
theorem yM{a b:AV}(h:fI a b=true):a=b:=by
 unfold fI at h;split at h<;>(try simp only[Za8,Zg3]at h)<;>try rfl
 .rw[beq_iff_eq.1 h]
 .rename_i k i k' i';have h2:=h.2;rw[jB]at h2;rw[tE h.1,beq_iff_eq.1 h2]
 .rw[jI.1 h]
 .rw[Pos.beq_eq.1 h.1,Za1 h.2]
 .obtain⟨⟨⟨h1,h2⟩,h3⟩,h4⟩:=h;rw[Pos.beq_eq.1 h1,Za1 h2,Za1 h3,Za1 h4]
 .obtain⟨⟨⟨⟨h1,h2⟩,h3⟩,h4⟩,h5⟩:=h;rw[Pos.beq_eq.1 h1,Za1 h2,Za1 h3,Za1 h4,Za1 h5]
 .rw[Pos.beq_eq.1 h]
theorem BF:∀{a b:List AV},sO a b=true->a=b
 |[],[],_=>rfl
 |[],_::_,h=>by simp[sO]at h
 |_::_,[],h=>by simp[sO]at h
 |a::x,b::y,h=>by
  simp only[sO,Za8]at h;rw[yM h.1,BF h.2]
theorem Qe{f:AV->AV->Bool}(hf:∀{a b},f a b=true->a=b):∀{a b:List AV},AQ f a b=true->a=b
 |[],[],_=>rfl
 |[],_::_,h=>by simp[AQ]at h
 |_::_,[],h=>by simp[AQ]at h
 |a::x,b::y,h=>by
  simp only[AQ,Za8]at h;rw[hf h.1,Qe hf h.2]
theorem KH{f:AV->AV->Bool}(hf:∀{a b},f a b=true->a=b):∀{a b:List (List AV)},tD f a b=true->a=b
 |[],[],_=>rfl
 |[],_::_,h=>by simp[tD]at h
 |_::_,[],h=>by simp[tD]at h
 |a::x,b::y,h=>by
  simp only[tD,Za8]at h;rw[Qe hf h.1,KH hf h.2]
theorem Qf:∀{d:Nat}{a b:AV},AR d a b=true->a=b
 |0,_,_,h=>by unfold AR at h;exact yM h
 |d +1,a,b,h=>by
  unfold AR at h;split at h
  .rename_i heq;cases heq;simp only[Za8]at h;rw[KH (λh=>Qf h) h.1,Za1 h.2]
  .exact yM h
theorem KI{a b:AV}(h:jT a b=true):a=b:=by
 unfold jT at h;split at h
 .simp only[Za8]at h;rw[Za1 h.1.1,BF h.1.2,BF h.2]
 .exact Qf h
 .exact yM h
theorem wO:∀{a b:List AV},nL a b=true->a=b
 |[],[],_=>rfl
 |[],_::_,h=>by simp[nL]at h
 |_::_,[],h=>by simp[nL]at h
 |a::x,b::y,h=>by
  simp only[nL,Za8]at h;rw[KI h.1,wO h.2]
theorem nX{a b:AV}(h:dJ a b=true):a=b:=by
 unfold dJ at h;split at h
 .rw[wO h]
 .rw[wO h]
 .exact KI h
theorem Y6 {k: av}{H H':Pos->Option AB}{n n':Pos}{xs:List AV}{v:AV}(h:k.run H n xs=some (.val v))(hm:∀b x,H b=some x->H' b=some x):
  k.run H' n' xs=some (.val v):=by
 cases k<;>simp only[av.run]at h ⊢ <;>try exact h
 case alloc z=>unfold Dc at h;split at h<;>cases h
 case box=>unfold Kf at h;split at h<;>cases h
 case buildSlice es len z p=>unfold oD at h;dsimp only at h;split at h<;>cases h
 case mkMap=>unfold Df at h;cases h
 case mkSlice es b z=>
  unfold uf at h
  repeat' split at h
  all_goals cases h
 case rangeS=>
  unfold AO at h
  repeat' split at h
  all_goals cases h
 case store m=>
  unfold zi at h
  repeat' split at h
  all_goals cases h
 case mapSet pk=>
  unfold tu at h
  repeat' split at h
  all_goals cases h
 case load m=>
  unfold qw at h ⊢;split at h<;>first|(cases h;done)|skip
  split at h<;>first|(cases h;done)|skip
  . split at h<;>first|(cases h;done)|skip
    .   rename_i cs fz hb;simp only[hm _ _ hb];exact h
    .   rename_i t0 cs hb;simp only[hm _ _ hb];exact h
  .exact h
 case conv c=>
  unfold tq at h ⊢;split at h<;>first|(cases h;done)|skip
  split at h<;>first|(cases h;done)|exact h|skip
  rename_i b off m _ _;cases hb:Nat.beq m 0 with
  |true=>simp only[hb]at h ⊢; exact h
  | false=>
    simp only[hb]at h ⊢;cases hH:H b with
    |none=>simp[hH]at h
    |some x=>simp only[hH]at h;simp only[hm _ _ hH];exact h
 case lookup pk z ok=>
  unfold tr at h ⊢;split at h<;>first|(cases h;done)|skip
  rename_i m k';cases m<;>try exact h
  rename_i b;cases hb:H b with
  |none=>simp[hb]at h
  | some x=>
    simp only[hb]at h;simp only[hm _ _ hb];exact h
 case lenB lk=>
  unfold B9 at h ⊢;split at h<;>first|(cases h;done)|skip
  split at h<;>first|(cases h;done)|exact h|skip
  split at h<;>first|(cases h;done)|skip
  rename_i es c hb;simp only[hm _ _ hb];exact h
 case nextS=>
  unfold Dg at h ⊢;split at h<;>first|(cases h;done)|skip
  split at h<;>first|(cases h;done)|skip
  split at h<;>first|(cases h;done)|skip
  rename_i s pos hb;simp only[hm _ _ hb];split at h
  .rename_i aV;split at h<;>cases h
  .rename_i aV;exact h
 case allocT t z=>
  unfold AP at h;split at h<;>cases h
 case appendT e bytes=>
  unfold qx at h ⊢;split at h<;>first|(cases h;done)|skip
  split at h<;>first|(cases h;done)|skip
  split at h<;>first|(cases h;done)|skip
  . (split at h<;>first|(cases h;done)|skip);split at h<;>first|(cases h;done)|exact h
  . (split at h<;>first|(cases h;done)|skip);split at h
    .   exact h
    .   repeat' split at h
        all_goals cases h
 case toU=>
  unfold Kg at h ⊢;split at h<;>first|(cases h;done)|skip
  split at h<;>first|(cases h;done)|exact h|skip
  split at h<;>first|(cases h;done)|skip
  rename_i t0 cs hb;simp only[hm _ _ hb];exact h
 case fromU u m=>
  unfold Dh at h ⊢;split at h<;>first|(cases h;done)|skip
  split at h<;>first|(cases h;done)|exact h|skip
  split at h<;>first|(cases h;done)|skip
  rename_i t0 cs hb;simp only[hm _ _ hb];exact h
 case unsafeStr e=>
  unfold mS at h ⊢;split at h<;>first|(cases h;done)|skip
  split at h<;>first|(cases h;done)|skip
  split at h
  .exact h
  . repeat' split at h
    all_goals cases h
 case clearS es z=>
  unfold tC at h ⊢;split at h<;>first|(cases h;done)|skip
  split at h<;>first|(cases h;done)|exact h|skip
  rename_i b off m _ _;cases hb:Nat.beq m 0 with
  |true=>simp only[hb]at h ⊢; exact h
  | false=>
    simp only[hb]at h
    repeat' split at h
    all_goals cases h
 case copyB es=>
  unfold vR at h ⊢;split at h<;>first|(cases h;done)|skip
  rename_i d x;cases hd:cQ d with
  |none=>simp[hd]at h
  | some m1=>
    cases hx:cQ x with
    |none=>simp[hd,hx]at h
    |   some m2=>
        simp only[hd,hx]at h ⊢;cases hb:Nat.beq (min m2 m1) 0 with
        |true=>simp only[hb]at h ⊢; exact h
        |false=>
         simp only[hb]at h;(split at h<;>first|(cases h;done)|skip);(split at h<;>first|(cases h;done)|skip);split at h<;>cases h
 case append es bytes=>
  unfold fk at h ⊢;split at h<;>first|(cases h;done)|skip
  rename_i s x;cases hd:cQ s with
  |none=>simp[hd]at h
  | some m1  =>
    cases hx:cQ x with
    |none=>simp[hd,hx]at h
    |   some m2=>
        simp only[hd,hx]at h ⊢;cases h1:Nat.ble ((2*(m1+m2)+768)*bytes) 281474976710656 with
        |false=>simp[h1]at h
        |true=>
         cases h2:Nat.ble (m1+m2) 9223372036854775807 with
         |false=>simp[h1,h2]at h
         |  true=>
            simp only[h1,h2]at h ⊢;cases hb:Nat.beq m2 0 with
            |true=>
             simp only[hb]at h ⊢;split at h<;>first|(cases h;done)|exact h|skip
             all_goals (simp_all;done)
            |false=>
             simp only[hb]at h
             repeat' split at h
             all_goals first
               |(rename_i e;cases e;done)
               |(rename_i e _;cases e;done)
               |(cases h;done)
               |simp_all
inductive sU(n:Pos):AV->AB->Prop where
 |ptr (cs:List AV):sU n (.ptr n 0) (.cells cs 0)
 |iD (s:List Nat):sU n (.ptr n 0) (.iD s 0)
 |slice (len es:Nat) (cap:Option Nat) (cs:List AV) (h:len=0->cap=none\/cap=some 0->cs=[]):sU n (.slice n 0 len cap es) (.cells cs 0)
 |map:sU n (.map n) (.map [] 0)
 |ptrT (t:TypeId) (cs:List AV):sU n (.ptr n 0) (.typed t cs)
 |Wv (len:Nat) (t:TypeId) (cs:List AV) (h:len≠0):sU n (.slice n 0 len none 1) (.typed t cs)
theorem NF:∀{ps:List (Nat×Nat)}{xs cs:List AV},bW [] ps xs=some cs->cs=[]
 |[],[],cs,h=>by simp[bW]at h;exact h.symm ▸rfl
 |[],_::_,cs,h=>by simp[bW]at h
 |_::_,[],cs,h=>by simp[bW]at h
 |(off,size)::ps,v::vs,cs,h=>by
  unfold bW at h;split at h<;>first|(cases h;done)|skip
  rename_i h1 h2;have h1:=Za1 h1;have h2:=Za3 h2;have h3:v.cells=[]:=by apply Zb0;simp at h2;omega
  rw[h3]at h;have h4:aG ([]:List AV) off []=[]:=by simp[aG]
  rw[h4]at h;exact NF h
theorem aa8 {k : av}{n:Pos}{xs:List AV}{v:AV}{au:AB}(h:k.run (λ_=>none) n xs=some (.aC v none none (some au))):sU n v au:=by
 cases k<;>simp only[av.run]at h
 case alloc z=>unfold Dc at h;split at h<;>cases h;exact .ptr _
 case allocT t z=>unfold AP at h;split at h<;>cases h;exact .ptrT _ _
 case appendT e bytes=>
  unfold qx at h;split at h<;>first|(cases h;done)|skip
  split at h<;>first|(cases h;done)|skip
  split at h<;>first|(cases h;done)|skip
  . (split at h<;>first|(cases h;done)|skip);split at h<;>cases h;rename_i hb;exact .Wv _ _ _ (by have:=Zb6 hb;omega)
  . split at h<;>first|(cases h;done)|skip
    repeat' split at h
    all_goals cases h
 case toU=>   unfold Kg at h;repeat' split at h
              all_goals cases h
 case fromU=>   unfold Dh at h;repeat' split at h
                all_goals cases h
 case sliceData=>   unfold pS at h;repeat' split at h
                    all_goals cases h
 case unsafeStr=>   unfold mS at h;repeat' split at h
                    all_goals cases h
 case box=>unfold Kf at h;split at h<;>cases h;exact .ptr _
 case buildSlice es len z p=>
  unfold oD at h;dsimp only at h;split at h<;>cases h;rename_i cs hc;refine .slice _ _ _ _ λh0 _=> ?_
  subst h0;exact NF hc
 case mkMap=>unfold Df at h;cases h;exact .map
 case mkSlice es b z=>
  unfold uf at h
  repeat' split at h
  all_goals cases h
  refine .slice _ _ _ _ λ_ h1=> ?_
  rcases h1 with h1|h1
  .cases h1
  .simp only[H0]at h1;subst h1;rfl
 case rangeS=>
  unfold AO at h
  repeat' split at h
  all_goals cases h
  exact .iD _
 case conv c=>
  unfold tq at h
  repeat' split at h
  all_goals cases h
  rename_i s;refine .slice _ _ _ _ λh0 _=> ?_
  rw[Zb0 h0];rfl
 case append es bytes=>
  unfold fk at h
  repeat' split at h
  all_goals cases h
  all_goals refine .slice _ _ _ _ λh0 _=> ?_
  all_goals (exfalso;rename_i hb _ _;simp_all)
 case move=>unfold HI at h;split at h<;>cases h
 case pick=>   unfold LX at h;repeat' split at h
               all_goals cases h
 case build=>unfold Dd at h;dsimp only at h;split at h<;>cases h
 case load=>   unfold qw at h;repeat' split at h
               all_goals cases h
 case store=>   unfold zi at h;repeat' split at h
                all_goals cases h
 case nilCheck=>   unfold Bx at h;repeat' split at h
                   all_goals cases h
 case bin=>   unfold fX at h;repeat' split at h
              all_goals cases h
 case un=>   unfold Uh at h;repeat' split at h
             all_goals cases h
 case mkIface=>   unfold De at h;repeat' split at h
                  all_goals cases h
 case mkFunc=>unfold AN at h;dsimp only at h;cases h
 case lookup=>
  unfold tr at h;split at h<;>first|(cases h;done)|skip
  dsimp only at h;split at h<;>cases h
 case mapSet=>   unfold tu at h;repeat' split at h
                 all_goals cases h
 case sliceS=>
  unfold FC at h;split at h<;>first|(cases h;done)|skip
  split at h<;>first|(cases h;done)|skip
  dsimp only at h;split at h<;>cases h
 case sliceL=>   unfold ny at h;repeat' split at h
                 all_goals cases h
 case fieldA=>   unfold FD at h;repeat' split at h
                 all_goals cases h
 case idxA=>   unfold lA at h;repeat' split at h
               all_goals cases h
 case field=>   unfold Je at h;repeat' split at h
                all_goals cases h
 case idxS=>   unfold HJ at h;repeat' split at h
               all_goals cases h
 case extract=>   unfold yJ at h;repeat' split at h
                  all_goals cases h
 case callF=>unfold Jf at h;dsimp only at h;cases h
 case callV=>   unfold Jg at h;repeat' split at h
                all_goals cases h
 case lenB=>   unfold B9 at h;repeat' split at h
               all_goals cases h
 case copyB=>
  unfold vR at h;split at h<;>first|(cases h;done)|skip
  split at h<;>first|(cases h;done)|skip
  dsimp only at h
  repeat' split at h
  all_goals cases h
 case minB=>   unfold yY at h;repeat' split at h
               all_goals cases h
 case maxB=>   unfold yZ at h;repeat' split at h
               all_goals cases h
 case clearS=>   unfold tC at h;repeat' split at h
                 all_goals cases h
 case nextS=>   unfold Dg at h;repeat' split at h
                all_goals cases h
 case capB=>cases h
 case bad=>cases h
end
section
def kN(call:ai):Prop:=∀f args st v st',call f args st=some (v,st')->st.next.toNat<=st'.next.toNat
section
variable{call:ai}
theorem Dy(hm:kN call){k:av}{xs:List AV}{st st':St}{v:AV}(h:bS call k xs st=some (v,st')):st.next.toNat<=st'.next.toNat:=by
 unfold bS at h;split at h
 .simp only[H0,Zb2]at h;rw[h.2];exact Za4 _
 .simp only[H0,Zb2]at h;rw[<-h.2];exact St.P9 _ _ _ _
 .exact hm _ _ _ _ _ h
 .cases h
theorem FN(hm:kN call):∀(os:List bh)(fr aW:Fr)(st st':St),iq call os fr st=some (aW,st')->st.next.toNat<=st'.next.toNat
 |[],fr,aW,st,st',h=>by simp only[iq,H0,Zb2]at h;rw[h.2];exact Za4 _
 |o ::os,fr,aW,st,st',h=>by
  unfold iq at h;split at h
  . (split at h<;>first|(cases h;done)|skip);(split at h<;>first|(cases h;done)|skip);rename_i hs;exact Zc7 (Dy hm hs) (FN hm os _ _ _ _ h)
  .exact FN hm os _ _ _ _ h
  .cases h
theorem qE(hm:kN call):∀(os:List (Nat×bh))(recs:List Rec)(base:T AB)(fr aW:Fr)(st st':St),cF call os recs base fr st=some (aW,st')->st.next.toNat<=st'.next.toNat
 |[],recs,base,fr,aW,st,st',h=>by simp only[cF,H0,Zb2]at h;rw[h.2];exact Za4 _
 |(j,   o)::os,recs,base,fr,aW,st,st',h=>by
  have hs:st.next.toNat<=st.next.succ.toNat:=by rw[Pos.ax];omega
  unfold cF at h;split at h
  .exact qE hm os _ _ _ _ _ _ h
  . (split at h<;>first|(cases h;done)|skip);split at h
    .   (split at h<;>first|(cases h;done)|skip);exact Zc7 hs (qE hm os _ _ _ _ _ _ h)
    .   (split at h<;>first|(cases h;done)|skip);rename_i hs;exact Zc7 (Dy hm hs) (qE hm os _ _ _ _ _ _ h)
    .   split at h
        .exact qE hm os _ _ _ _ _ _ h
        . (split at h<;>first|(cases h;done)|skip);(split at h<;>first|(cases h;done)|skip);exact qE hm os _ _ _ _ _ _ h
  .cases h
theorem A3(hm:kN call):∀(m:Nat)(c:AC)(fr aW:Fr)(st st':St)(ex:iF),exec call m c fr st=some (ex,aW,st')->st.next.toNat<=st'.next.toNat
 |0,c,fr,aW,st,st',ex,h=>by simp[exec]at h
 |m +   1,c,fr,aW,st,st',ex,h=>by
  have ih:=A3 hm m;simp only[exec]at h;unfold aX at h;split at h
  .simp only[H0,Zb2]at h;rw[h.2.2];exact Za4 _
  . (split at h<;>first|(cases h;done)|skip);rename_i hs;simp only[H0,Zb2]at h;rw[<-h.2.2];exact FN hm _ _ _ _ _ hs
  . (split at h<;>first|(cases h;done)|skip);rename_i hs;simp only[H0,Zb2]at h;rw[<-h.2.2];exact qE hm _ _ _ _ _ _ _ hs
  . split at h
    .   rename_i hs;exact Zc7 (ih _ _ _ _ _ _ hs) (ih _ _ _ _ _ _ h)
    .   exact ih _ _ _ _ _ _ h
  .split at h<;>first|(cases h;done)|exact ih _ _ _ _ _ _ h
  . split at h
    .   rename_i hs;split at h<;>(simp only[H0,Zb2]at h;rw[<-h.2.2];exact ih _ _ _ _ _ _ hs)
    .   exact ih _ _ _ _ _ _ h
  . split at h
    .   rename_i hs;exact Zc7 (ih _ _ _ _ _ _ hs) (ih _ _ _ _ _ _ h)
    .   exact ih _ _ _ _ _ _ h
  .simp only[H0,Zb2]at h;rw[h.2.2];exact Za4 _
  .simp only[H0,Zb2]at h;rw[h.2.2];exact Za4 _
def jK(O:dR):Prop:=∀f s,O f=some s->∀args st v st',s args st=some (v,st')->st.next.toNat<=st'.next.toNat
theorem Dz{O:dR}{G:T b7}(hO:jK O)(m:Nat):∀d,kN (nM O G m d)
 |0=>λf args st v st' h=>by simp[nM]at h
 |d +   1=>λf args st v st' h=>by
  have ih:=Dz (G:=G) hO m d;unfold nM at h;split at h
  .rename_i s hs;exact hO f s hs args st v st' h
  . (split at h<;>first|(cases h;done)|skip);(split at h<;>first|(cases h;done)|skip);split at h<;>first|(cases h;done)|skip
    .   rename_i hs;(split at h<;>first|(cases h;done)|skip);simp only[H0,Zb2]at h;rw[<-h.2];exact A3 ih _ _ _ _ _ _ _ hs
    .   rename_i hs;(split at h<;>first|(cases h;done)|skip);simp only[H0,Zb2]at h;rw[<-h.2];exact A3 ih _ _ _ _ _ _ _ hs
end
def kO(bJ:Fr):List Rec->Fr
 |[]=>bJ
 |r::R=>cG (kO bJ R) r.o.dst r.v
def cK(n0:Pos):List Rec->Pos
 |[]=>n0
 |r::_=>r.nx
def RC.ke:RC->Bool
 |.aC _ _=>true
 |_=>false
def gV(h0:T AB):List Rec->T AB
 |[]=>h0
 |  r::R=>match r.c with
    |.aC _ h=>h
    |_=>gV h0 R
def gW(h0:T AB):List Rec->T AB
 |[]=>h0
 |  r::R=>match r.c with
    |.aC _ h=>h
    |.new id au=>(gW h0 R).put (some au) id
    |.pure=>gW h0 R
def A4:List Rec->Prop
 |[]=>True
 |r::_=>r.c.ke=true
def Qg(h0:T AB)(R:List Rec)(o:bh)(xs:List AV)(v:AV):Prop:=
 ∀  A B,R=A++B->A4 B->(∀r∈A,r.c.ke=true->o.bt.testBit r.idx=false)->
    ∃h:T AB,(∀b x,h.get b=some x->(gV h0 B).get b=some x\/∃r∈A,r.c= .new b x/\o.bt.testBit r.idx=true)/\o.k.run (λb=>h.get b) .h xs=some (.val v)
inductive mU(call:ai)(bJ:Fr)(h0:T AB)(n0:Pos):Rec->List Rec->Prop where
 |skip (i:Nat) (o:bh) (R:List Rec) (hw:bF (kO bJ R) o.guard=some false):
  mU call bJ h0 n0 { idx:=i,o:=o,v:= .undef,c:= .pure,nx:=cK n0 R } R
 |pure (i:Nat) (o:bh) (v:AV) (xs:List AV) (R:List Rec) (hw:bF (kO bJ R) o.guard=some true) (hx:dM (kO bJ R) o.xs=some xs) (hr:Qg h0 R o xs v):
  mU call bJ h0 n0 { idx:=i,o:=o,v:=v,c:= .pure,nx:=cK n0 R } R
 |new (i:Nat) (o:bh) (v:AV) (au:AB) (xs:List AV) (R:List Rec) (hw:bF (kO bJ R) o.guard=some true) (hx:dM (kO bJ R) o.xs=some xs)
  (hr:o.k.run (λ_=>none) (cK n0 R) xs=some (.aC v none none (some au))):
  mU call bJ h0 n0 { idx:=i,o:=o,v:=v,c:= .new (cK n0 R) au,nx:=(cK n0 R).succ } R
 |aC (i:Nat) (o:bh) (v:AV) (st':St) (xs:List AV) (R:List Rec) (hc:o.cls= .aC) (hw:bF (kO bJ R) o.guard=some true) (hx:dM (kO bJ R) o.xs=some xs)
  (hr:bS call o.k xs { heap:=gW h0 R,next:=cK n0 R }=some (v,st')):
  mU call bJ h0 n0 { idx:=i,o:=o,v:=v,c:= .aC (gV h0 R) st'.heap,nx:=st'.next } R
def Good(call:ai)(bJ:Fr)(h0:T AB)(n0:Pos):List Rec->Prop
 |[]=>True
 |r::R=>mU call bJ h0 n0 r R/\Good call bJ h0 n0 R
section
variable{call:ai}{bJ:Fr}{h0:T AB}{n0:Pos}
theorem Good.tail:∀{A B:List Rec},Good call bJ h0 n0 (A++B)->Good call bJ h0 n0 B
 |[],_,h=>h
 |_::_,_,h=>Good.tail h.2
theorem Good.at{A B:List Rec}{r:Rec}(h:Good call bJ h0 n0 (A++r::B)):mU call bJ h0 n0 r B:=(Good.tail h).1
theorem DA:∀{A B:List Rec},(∀r∈A,r.c.ke=false)->gV h0 (A++B)=gV h0 B
 |[],_,_=>rfl
 |r::A,B,h=>by
  have h1:=h r (Zc6 ..);have ih:=DA (A:=A) (B:=B) λr hr=>h r (Za6 _ hr)
  simp only[Zf1,gV];split
  .rename_i hc;rw[hc]at h1;cases h1
  .exact ih
theorem Jr{bt:Nat}:∀{A B:List Rec}{h:T AB}{b:Pos}{x:AB},(∀r∈A,r.c.ke=false)->A4 B->(snap bt h (A++B)).get b=some x->
  h.get b=some x\/∃r∈A,r.c= .new b x/\bt.testBit r.idx=true
 |[],B,h,b,x,_,hB,hs=>by
  cases B with
  |nil=>exact .inl hs
  | cons r B=>
    simp only[A4]at hB;simp only[Zf9,snap]at hs;(cases hc:r.c<;>rw[hc]at hB<;>first|(cases hB;done)|skip);rw[hc]at hs;exact .inl hs
 |r ::A   ,B,h,b,x,hA,hB,hs=>by
  have ih:=@Jr bt A B h b x (λr hr=>hA r (Za6 _ hr)) hB;have up:(h.get b=some x\/∃r∈A,r.c= .new b x/\bt.testBit r.idx=true)->h.get b=some x\/∃r'∈r::A,r'.c= .new b x/\bt.testBit r'.idx=true:=λh1=>
    h1.imp id λ⟨r',h2,h3⟩=>⟨r',Za6 _ h2,h3⟩
  simp only[Zf1,snap]at hs;cases hc:r.c with
  |pure=>rw[hc]at hs;exact up (ih hs)
  |aC b1 h1=>have:=hA r (Zc6 ..);rw[hc]at this;cases this
  | new   id au=>
    rw[hc]at hs;cases ht:bt.testBit r.idx with
    |false=>simp only[ht]at hs;exact up (ih hs)
    |   true=>
        simp only[ht]at hs;by_cases KJ:id=b
        .subst KJ;rw[T.ee]at hs;simp only[H0]at hs;subst hs;exact .inr ⟨r,Zc6 ..,hc,ht⟩
        .rw[T.bn _ KJ]at hs;exact up (ih hs)
theorem NG:∀{up:List (Pos×AB)}{h:T AB}{b:Pos}{x:AB},(qy up h).get b=some x->h.get b=some x\/(b,x)∈up
 |[],_,_,_,h=>.inl h
 |(id,au)::up,h,b,x,hs=>by
  unfold qy at hs;by_cases KJ:id=b
  .subst KJ;rw[T.ee]at hs;simp only[H0]at hs;subst hs;exact .inr (Zc6 ..)
  .rw[T.bn _ KJ]at hs;exact(NG hs).imp (λh=>h) λh=>Za6 _ h
theorem DB:∀(A:List Rec),(∀r∈A,r.c.ke=false)\/∃r∈A,r.c.ke=true
 |[]=>.inl λr h=>by cases h
 |r::A=>by
  cases hr:r.c.ke with
  |true=>exact .inr ⟨r,Zc6 ..,hr⟩
  |false=>
   rcases DB A with h|⟨r',h1,h2⟩
   . exact .inl λr' oG=>by
      rcases Za9.1 oG with rfl|h'
      .exact hr
      .exact h r' h'
   .exact .inr ⟨r',Za6 _ h1,h2⟩
theorem EO{bt:Nat}{k:av}{xs:List AV}{v:AV}:∀(A B:List Rec)(up:List (Pos×AB)),jz bt k xs v up (A++B)=true->Good call bJ h0 n0 (A++B)->A4 B->
  (∀r∈A,r.c.ke=true->bt.testBit r.idx=false)->(∃r∈A,r.c.ke=true)->
  ∃h:T AB,(∀b x,h.get b=some x->(gV h0 B).get b=some x\/(∃r∈A,r.c= .new b x/\bt.testBit r.idx=true)\/(b,x)∈up)/\k.run (λb=>h.get b) .h xs=some (.val v)
 |[],B,up,_,_,_,_,he=>by obtain⟨r,hr,_⟩:=he;cases hr
 |r::A    , B,up,A5,hG,hB,hn,he=>by
  have Qh:∀r∈A,r.c.ke=true->bt.testBit r.idx=false:=λr' oG=>hn r' (Za6 _ oG)
  have ih:=λup (h2:jz bt k xs v up (A++B)=true) h3=>EO A B up h2 hG.2 hB Qh h3
  simp only[Zf1,jz]at A5;cases hc:r.c with
  |pure=>
   rw[hc]at A5;have jE:∃r∈A,r.c.ke=true:=by
        obtain⟨r',h1,h2⟩:=he;rcases Za9.1 h1 with rfl|h1
        .rw[hc]at h2;cases h2
        .exact⟨r',h1,h2⟩
   obtain⟨h,h1,h2⟩:=ih up A5 jE;exact⟨h,λb x hb=>(h1 b x hb).imp (λh=>h) (Or.imp (λ⟨r',h3,h4⟩=>⟨r',Za6 _ h3,h4⟩) λh=>h),h2⟩
  |new    id au=>
   rw[hc]at A5;have jE:∃r∈A,r.c.ke=true:=by
        obtain⟨r',h1,h2⟩:=he;rcases Za9.1 h1 with rfl|h1
        .rw[hc]at h2;cases h2
        .exact⟨r',h1,h2⟩
   cases ht:bt.testBit r.idx with
   |    false=>
        simp only[ht]at A5;obtain⟨h,h1,h2⟩:=ih up A5 jE;exact⟨h,λb x hb=>(h1 b x hb).imp (λh=>h) (Or.imp (λ⟨r',h3,h4⟩=>⟨r',Za6 _ h3,h4⟩) λh=>h),h2⟩
   |    true=>
        simp only[ht]at A5;obtain⟨h,h1,h2⟩:=ih _ A5 jE;refine⟨h,λb x hb=> ?_,h2⟩;rcases h1 b x hb with h3|⟨r',h3,h4⟩|h3
        .exact .inl h3
        .exact .inr (.inl ⟨r',Za6 _ h3,h4⟩)
        . rcases Za9.1 h3 with h3|h3
          .simp only[Zb2]at h3;obtain⟨rfl,rfl⟩:=h3;exact .inr (.inl ⟨r,Zc6 ..,hc,ht⟩)
          .exact .inr (.inr h3)
  |aC base h=>
   rw[hc]at A5;have ht:=hn r (Zc6 ..) (by rw[hc];rfl);simp only[ht,Za8]at A5;rcases DB A with hA|hA
   .    have Pc:base=gV h0 B:=(by have hs:=hG.1;(cases hs<;>simp only at hc<;>first|(cases hc;done)|skip);simp only[RC.aC.injEq]at hc;rw[<-hc.1];exact DA hA);have hra:=A5.1;unfold kB at hra;(split at hra<;>first|(cases hra;done)|skip);rename_i u hu;rw[nX hra]at hu;refine⟨_,λb x hb=> ?_,hu⟩;rcases NG hb with hb|hb
        . rcases Jr hA hB hb with h3|⟨r',h3,h4⟩
          .rw[<-Pc];exact .inl h3
          .exact .inr (.inl ⟨r',Za6 _ h3,h4⟩)
        .exact .inr (.inr hb)
   .    obtain⟨h,h1,h2⟩:=ih up A5.2 hA;exact⟨h,λb x hb=>(h1 b x hb).imp (λh=>h) (Or.imp (λ⟨r',h3,h4⟩=>⟨r',Za6 _ h3,h4⟩) λh=>h),h2⟩
theorem KL:∀(L:List (Nat×bh))(R:List Rec)(fr aW:Fr)(st st':St),cF call L R (gV h0 R) fr st=some (aW,st')->Good call bJ h0 n0 R->
  fr=kO bJ R->st.heap=gW h0 R->st.next=cK n0 R->
  ∃R',Good call bJ h0 n0 (R'++R)/\(R'.map λr=>(r.idx,r.o))=L.reverse/\aW=kO bJ (R'++R)/\st'.heap=gW h0 (R'++R)/\st'.next=cK n0 (R'++R)
 |[],R,fr,aW,st,st',h,hG,h1,h2,h3=>by
  simp only[cF,H0,Zb2]at h;obtain⟨rfl,rfl⟩:=h;exact⟨[],hG,rfl,h1,h2,h3⟩
 |(j,   o)::  L,R,fr,aW,st,st',h,hG,h1,h2,h3=>by
  have fin:∀(r:Rec)(aK:St)(bI:Fr),r.idx=j->r.o=o->mU call bJ h0 n0 r R->bI=kO bJ (r::R)->aK.heap=gW h0 (r::R)->aK.next=r.nx->
        cF call L (r::R) (gV h0 (r::R)) bI aK=some (aW,st')->
        ∃R',Good call bJ h0 n0 (R'++R)/\(R'.map λr=>(r.idx,r.o))=((j,o)::L).reverse/\aW=kO bJ (R'++R)/\st'.heap=gW h0 (R'++R)/\st'.next=cK n0 (R'++R):=by
    intro r aK bI hj ho hs k1 k2 k3 hd;obtain⟨R',g1,g2,g3,g4,g5⟩:=KL L (r::R) bI aW aK st' hd ⟨hs,hG⟩ k1 k2 k3;have e:R'++r::R=(R'++[r])++R:=(by simp);rw[e]at g1 g3 g4 g5;exact⟨R'++[r],g1,by simp[g2,hj,ho],g3,g4,g5⟩
  unfold cF at h;subst h1;split at h
  .rename_i hw;exact fin _ _ _ rfl rfl (h3 ▸mU.skip j o R hw) rfl h2 rfl h
  . rename_i hw;(split at h<;>first|(cases h;done)|skip);rename_i xs hx;split at h
    .   (split at h<;>first|(cases h;done)|skip);rename_i v au hr;rw[h3]at hr;have hs:=mU.new (call:=call) (bJ:=bJ) (h0:=h0) (n0:=n0) j o v au xs R hw hx hr;rw[<-h3]at hs;refine fin _ _ _ rfl rfl hs rfl ?_ rfl h;simp only[gW,h2]
    .   rename_i Y7;(split at h<;>first|(cases h;done)|skip);rename_i v aK hr;have iU:st={ heap:=gW h0 R,next:=cK n0 R }:=(by cases st;simp_all);rw[iU]at hr;exact fin _ aK _ rfl rfl (mU.aC j o v aK xs R Y7 hw hx hr) rfl rfl rfl h
    .   split at h
        . rename_i v hr;have NH:Qg h0 R o xs v:=by
           intro A B _ _ _;refine⟨.e,λb x hb=> ?_,?_⟩
           .  rw[T.cZ]at hb;cases hb
           .  have e:(λb=>T.get b (T.e:T AB))=λ_=>none:=(by funext b;exact T.cZ b);rw[e];exact hr
          exact fin _ _ _ rfl rfl (h3 ▸mU.pure j o v xs R hw hx NH) rfl h2 rfl h
        . (split at h<;>first|(cases h;done)|skip);rename_i v hr;(split at h<;>first|(cases h;done)|skip);rename_i A5;have NH:Qg h0 R o xs v:=by
           intro A B hAB hB hn;subst hAB;rcases DB A with hA|hA
           .  refine⟨_,λb x hb=> ?_,hr⟩;have:=Jr hA hB hb;rw[DA hA]at this;exact this
           .  obtain⟨h,k1,k2⟩:=EO A B [] A5 hG hB hn hA;exact⟨h,λb x hb=>(k1 b x hb).imp id λh=>h.resolve_right (by simp),k2⟩
          exact fin _ _ _ rfl rfl (h3 ▸mU.pure j o v xs R hw hx NH) rfl h2 rfl h
  .cases h
end
end
section
open Go
structure Late(m:Nat)(pre:List Nat)(L:List (Nat×bh)):Prop where
 all:∀i,i<m->i∈pre\/i∈L.map (·.1)
 lt:∀x∈L,x.1<m
 one:∀A i o B,L=A++(i,o)::B->i∉pre/\i∉A.map (·.1)
 bt:∀A i o B,L=A++(i,o)::B->∀b,o.bt.testBit b=true->b∈pre\/b∈A.map (·.1)
 aC:∀A i o B,L=A++(i,o)::B->o.cls= .aC->∀b,(b∈pre\/b∈A.map (·.1))->o.bt.testBit b=true
 apart:∀A i o B,L=A++(i,o)::B->∀x∈B,x.2.bt.testBit i=true\/FE o x.2=true
theorem IA{m:Nat}:∀(L:List (Nat×bh))(seen:Nat)(pre:List Nat),Cc m seen L=true->(∀b,seen.testBit b=true↔b∈pre)->Late m pre L
 |[],seen,pre,h,hs=>by
  simp only[Cc]at h;have:=Za1 h;refine⟨λi hi=>.inl ((hs i).1 ?_),λx hx=>(by cases hx),λA i o B h=> ?_,λA i o B h=> ?_,λA i o B h=> ?_,λA i o B h=> ?_⟩
  .rw[this,Nat.testBit_two_pow_sub_one];simpa using hi
  all_goals (cases A<;>cases h)
 |(i,   o)::L,seen,pre,h,hs=>by
  simp only[Cc,Za8]at h;obtain⟨⟨⟨⟨⟨h1,h2⟩,h3⟩,h4⟩,h5⟩,h6⟩:=h;have h1:i<m:=Za3 h1;have h2:i∉pre:=λhp=>by rw[(hs i).2 hp]at h2;cases h2
  have h3:=Za1 h3;have hb:∀b,o.bt.testBit b=true->b∈pre:=λb hb=>by rw[<-h3,Nat.testBit_and,Za8]at hb;exact(hs b).1 hb.2
  have he:o.cls= .aC->∀b,b∈pre->o.bt.testBit b=true:=λhc b hp=>by rw[hc]at h4;rw[Za1 h4];exact(hs b).2 hp
  have ih:=IA L (seen ||| 2 ^ i) (pre++[i]) h6 (λb=>by
    rw[Nat.testBit_or,Nat.testBit_two_pow,Zh9,hs b,Zd7];simp[eq_comm])
  rw[Zc9]at h5;have Pe:∀{A:List (Nat×bh)}{j:Nat}{p:bh}{B:List (Nat×bh)},(i,o)::L=A++(j,p)::B->(A=[]/\i=j/\o=p/\L=B)\/∃A',A=(i,o)::A'/\L=A'++(j,p)::B:=by
    intro A j p B hA;cases A with
    |nil=>simp at hA;exact .inl ⟨rfl,hA.1.1,hA.1.2,hA.2⟩
    |cons x A=>simp at hA;exact .inr ⟨A,by rw[hA.1],hA.2⟩
  refine⟨λj hj=> ?_,λx hx=> ?_,λA j p B hA=> ?_,λA j p B hA=> ?_,λA j p B hA=> ?_,λA j p B hA=> ?_⟩
  . rcases ih.all j hj with h|h
    .   rcases Zd7.1 h with h|h
        .exact .inl h
        .simp at h;exact .inr (by simp[h])
    .   exact .inr (by simp only[Zd4,Za9];exact .inr h)
  . rcases Za9.1 hx with rfl|hx
    .   exact h1
    .   exact ih.lt x hx
  . rcases Pe hA with⟨rfl,rfl,rfl,rfl⟩|⟨A',rfl,EP⟩
    .   exact⟨h2,by simp⟩
    .   obtain⟨k1,k2⟩:=ih.one A' j p B EP;simp only[Zd7,Zd2,not_or]at k1;exact⟨k1.1,by simp only[Zd4,Za9,not_or];exact⟨k1.2,k2⟩⟩
  . rcases Pe hA with⟨rfl,rfl,rfl,rfl⟩|⟨A',rfl,EP⟩
    .   exact λb jq=>.inl (hb b jq)
    .   intro b jq;rcases ih.bt A' j p B EP b jq with h|h
        . rcases Zd7.1 h with h|h
          .exact .inl h
          .simp at h;exact .inr (by simp[h])
        .exact .inr (by simp only[Zd4,Za9];exact .inr h)
  . rcases Pe hA with⟨rfl,rfl,rfl,rfl⟩|⟨A',rfl,EP⟩
    .   intro hc b jq;rcases jq with h|h
        .exact he hc b h
        .simp at h
    .   intro hc b jq;refine ih.aC A' j p B EP hc b ?_;rcases jq with h|h
        .exact .inl (Zd7.2 (.inl h))
        . simp only[Zd4,Za9]at h;rcases h with rfl|h
          .exact .inl (by simp)
          .exact .inr h
  . rcases Pe hA with⟨rfl,rfl,rfl,rfl⟩|⟨A',rfl,EP⟩
    .   intro x hx;have:=h5 x hx
        rwa [Zh9]at this
    .   exact ih.apart A' j p B EP
inductive Reach(ops:Array Oper):Nat->Nat->Prop where
 |edge (i:Nat) (o:Oper) (e:Edge) (ho:ops[i]? =some o) (he:e∈o.after) (hb:Region.binds .any e=true):Reach ops i e.on
 |trans (i:Nat) (o:Oper) (e:Edge) (b:Nat) (ho:ops[i]? =some o) (he:e∈o.after) (hb:Region.binds .any e=true) (h:Reach ops e.on b):Reach ops i b
def UD(ops:Array Oper)(i m:Nat):Prop:=
 (∀o,ops[i]? =some o->∀e∈o.after,Region.binds .any e=true->m.testBit e.on=true)/\∀b,m.testBit b=true->Reach ops i b
theorem Mc(acc:List Nat):∀(l:List Edge)(s b:Nat),(l.foldl (λs e=>match Region.binds .any e with
   |true=>s ||| 2 ^ e.on ||| (nth acc e.on).getD 0
   |false=>s) s).testBit b=true↔s.testBit b=true\/∃e∈l,Region.binds .any e=true/\(e.on=b\/((nth acc e.on).getD 0).testBit b=true)
 |[],s,b=>by simp
 |e::l,s,b=>by
  rw[Zo7,Mc acc l];cases he:Region.binds .any e with
  |false=>simp[he]
  |true=>
   simp only[Nat.testBit_or,Zh9,Nat.testBit_two_pow,Ze1,Za9,exists_eq_or_imp,he,true_and];constructor
   .    rintro(((h|h)|h)|h)
        .exact .inl h
        .exact .inr (.inl (.inl h))
        .exact .inr (.inl (.inr h))
        .exact .inr (.inr h)
   .    rintro(h|(h|h)|h)
        .exact .inl (.inl (.inl h))
        .exact .inl (.inl (.inr h))
        .exact .inl (.inr h)
        .exact .inr h
theorem S5 {ops:Array Oper}:∀(os:List Oper)(acc:List Nat),os=ops.toList.drop acc.length->acc.length<=ops.size->(∀i,i<acc.length->UD ops i (acc.getD i 0))->
  ∀i,i<ops.size->UD ops i ((PC os acc).getD i 0)
 |[],acc,S6,hl,UE,i,hi=>by
  have h1:(ops.toList.drop acc.length).length=0:=by rw[<-S6];rfl
  have:ops.size<=acc.length:=by simp at h1;omega
  exact UE i (by omega)
 |o ::os,acc,S6,hl,UE,i,hi=>by
  simp only[PC];have ho:ops[acc.length]? =some o:=by have:(ops.toList.drop acc.length)[0]? =some o:=(by rw[<-S6];rfl);simpa using this
  have aV:acc.length<ops.size:=(Zc8.1 ho).1;refine S5 os _ ?_ (by simp;omega) (λj hj=> ?_) i hi
  .rw[Ze0,List.length_singleton, <-Zn6, <-S6];rfl
  . rcases Zh5 j acc.length with h|h
    .   rw[Zb4,Zc1 h, <-Zb4];exact UE j h
    .   have wW:j=acc.length:=(by simp at hj;omega);subst wW;rw[Zb4,Zc2 (Za4 _)];simp only[Zn0,Zb1,Zj2];refine⟨λo' A0 e he hb=> ?_,λb hb=> ?_⟩
        .rw[ho]at A0;simp only[H0]at A0;subst A0;exact(Mc acc _ 0 e.on).2 (.inr ⟨e,by simpa using he,hb,.inl rfl⟩)
        . have hb:=(Mc acc _ 0 b).1 hb;rcases hb with hb|⟨e,he,jq,hb⟩
          .simp at hb
          . have jE:e∈o.after:=(by simpa using he);rcases hb with rfl|hb
            .exact .edge _ o e ho jE jq
            . refine .trans _ o e b ho jE jq ?_;rw[j4]at hb;rcases Zh5 e.on acc.length with h|h
              .exact(UE _ h).2 b (by rw[Zb4];exact hb)
              .rw[Zb7 h]at hb;simp at hb
theorem S7:∀(l:List bh)(k:Nat)(x:Nat×bh),x∈zj k l->∃i,x.1=k+i/\l[i]? =some x.2
 |[],k,x,h=>by cases h
 |o ::l,k,x,h=>by
  simp only[zj,Za9]at h;rcases h with rfl|h
  .exact⟨0,rfl,rfl⟩
  .obtain⟨i,h1,h2⟩:=S7 l (k+1) x h;exact⟨i+1,by omega,by simpa using h2⟩
theorem FO:∀(l held:List (Nat×bh))(x:Nat×bh),x∈sF l held->x∈l\/x∈held
 |[],held,x,h=>.inr h
 |(i,   o)::l,held,x,h=>by
  unfold sF at h;split at h
  . rcases Zd7.1 h with h|h
    .   exact .inr (Zo8.1 h).1
    .   rcases Za9.1 h with h|h
        .exact .inl (by rw[h];exact Zc6 ..)
        . rcases FO l _ x h with h|h
          .exact .inl (Za6 _ h)
          .exact .inr (Zo8.1 h).1
  . rcases FO l _ x h with h|h
    .   exact .inl (Za6 _ h)
    .   rcases Zd7.1 h with h|h
        .exact .inr h
        .simp at h;exact .inl (by rw[h];exact Zc6 ..)
theorem aa9{l:List bh}{x:Nat×bh}(h:x∈sF (zj 0 l) []):l[x.1]? =some x.2:=by
 rcases FO _ _ _ h with h|h
 .obtain⟨i,h1,h2⟩:=S7 l 0 x h;rw[h1,Zc3];exact h2
 .cases h
theorem DC{p:Pos}:∀{l:List Pos},Cb p l=true↔p∈l
 |[]=>by simp[Cb]
 |q::l=>by simp[Cb,DC (l:=l),Pos.beq_eq]
theorem BG{a b:bh}(h:FE a b=true):
   (∀d,a.dst=some d->d∉b.looks/\b.dst≠some d)/\(∀d,b.dst=some d->d∉a.looks):=by
 unfold FE at h;rw[Za8]at h;obtain⟨h1,h2⟩:=h;constructor
 . intro d hd;rw[hd]at h1;simp only[Za8,Zh2]at h1;refine⟨λhm=> ?_,λhb=> ?_⟩
   .rw[DC.2 hm]at h1;exact absurd h1.1 (by simp)
   .rw[hb]at h1;have:Pos.beq d d=true:=Pos.beq_eq.2 rfl;simp[this]at h1
 .intro d hd hm;rw[hd]at h2;simp only[Zh2]at h2;rw[DC.2 hm]at h2;cases h2
section
variable(P:Program)(tt:TT)(C:Cells)(nt:Nat)(ops:Array Oper)(call:ai)(bJ:Fr)(h0:T AB)(n0:Pos)(R:List Rec)
structure ur:Prop where
 Js:Good call bJ h0 n0 R
 mono:kN call
 one:∀A r B,R=A++r::B->∀r'∈B,r'.idx≠r.idx
 bt:∀A r B,R=A++r::B->∀b,r.o.bt.testBit b=true->∃r'∈B,r'.idx=b
 aC:∀A r B,R=A++r::B->r.o.cls= .aC->∀r'∈B,r.o.bt.testBit r'.idx=true
 apart:∀A r B,R=A++r::B->∀r'∈A,r'.o.bt.testBit r.idx=true\/FE r.o r'.o=true
 rel:∀r∈R,∃o,ops[r.idx]? =some o/\qD tt nt ops o r.o/\UD ops r.idx r.o.bt
 all:∀i,i<ops.size->∃r∈R,r.idx=i
def Kept(D:Nat->Prop)(b:Pos):Prop:=∀A r B,R=A++r::B->¬D r.idx->b.toNat<(cK n0 B).toNat\/r.nx.toNat<=b.toNat
def T1(D:Nat->Prop)(ρ:Pos->Loc)(tmps:Array Value):Prop:=
 ∀M s T p,R=M++s::T->D s.idx->s.o.dst=some p->(∀s'∈M,D s'.idx->s'.o.dst≠some p)->∃x,tmps[p.toNat - 1]? =some x/\aj ρ s.nx.toNat C s.v x
def T0(D:Nat->Prop)(ρ:Pos->Loc)(tmps:Array Value):Prop:=
 ∀p v,bJ.get p=some v->(∀s∈R,D s.idx->s.o.dst≠some p)->∃x,tmps[p.toNat - 1]? =some x/\aj ρ n0.toNat C v x
structure NI(D:Nat->Prop)(A B:List Rec)(a:Act):Prop where
 split:R=A++B
 bound:A4 B
 inB:∀r∈B,D r.idx
 Qi:∀r∈A,D r.idx->r.c.ke=false
 closed:∀i o e,D i->ops[i]? =some o->e∈o.after->Region.binds .any e=true->D e.on
 size:a.tmps.size=nt
 defers:a.defers=[]
structure Inv0(jr:Pos->Loc)(w0:World)(D:Nat->Prop)(A B:List Rec)(ρ:Pos->Loc)(a:Act)(w:World):Prop where
 W:aU ρ C { heap:=gV h0 B,next:=cK n0 B } w
 N:∀r∈A,D r.idx->∀id au,r.c= .new id au->kG ρ r.nx.toNat C (ρ id) w au/\(ρ id).au<w.heap.size/\w0.heap.size<=(ρ id).au/\
  (∀b x,(gV h0 B).get b=some x->(ρ b).au≠(ρ id).au)/\(∀ad v,C ad=some v->(ρ id).au≠ad.block)
 N2:∀r∈A,D r.idx->∀id au,r.c= .new id au->∀r'∈A,D r'.idx->∀pG xO,r'.c= .new pG xO->id≠pG->(ρ id).au≠(ρ pG).au
 t1:T1 C R D ρ a.tmps
 t0:T0 C bJ n0 R D ρ a.tmps
 E:iT jr { heap:=h0,next:=n0 } w0 ρ { heap:=gV h0 B,next:=cK n0 B } w
 yN:∀b:Pos,b.toNat<n0.toNat->ρ b=jr b
def Inv(jr:Pos->Loc)(w0:World)(D:Nat->Prop)(A B:List Rec)(ρ:Pos->Loc)(a:Act)(w:World):Prop:=
 NI nt ops R D A B a/\∀ρ',(∀b,Kept n0 R D b->ρ' b=ρ b)->Inv0 C bJ h0 n0 R jr w0 D A B ρ' a w
end
section
variable{P:Program}{tt:TT}{C:Cells}{nt:Nat}{ops:Array Oper}{call:ai}{bJ:Fr}{h0:T AB}{n0:Pos}{R:List Rec}
theorem zF(h:∀A r B,R=A++r::B->∀r'∈B,r'.idx≠r.idx){X X' Y Y':List Rec}{r r':Rec}(h1:R=X++r::Y)(h2:R=X'++r'::Y')(hi:r.idx=r'.idx):
   X=X'/\r=r'/\Y=Y':=by
 have h3:X++r::Y=X'++r'::Y':=h1.symm.trans h2;rcases List.append_eq_append_iff.1 h3 with⟨Z,hX,hZ⟩|⟨Z,hX,hZ⟩
 . cases Z with
   |nil=>simp at hZ hX;exact⟨hX.symm,hZ.1,hZ.2⟩
   |cons z Z=>
    simp at hZ;exact absurd hi.symm (h X r Y h1 r' (by rw[hZ.2];simp))
 . cases Z with
   |nil=>simp at hZ hX;exact⟨hX,hZ.1.symm,hZ.2.symm⟩
   |cons z Z=>
    simp at hZ;exact absurd hi (h X' r' Y' h2 r (by rw[hZ.2];simp))
theorem jU{r:Rec}(h:r∈R):∃A B,R=A++r::B:=List.append_of_mem h
theorem S8(hm:kN call){r:Rec}{B:List Rec}(h:mU call bJ h0 n0 r B):(cK n0 B).toNat<=r.nx.toNat:=by
 cases h with
 |skip=>exact Za4 _
 |pure=>exact Za4 _
 |new=>simp only[Pos.ax];omega
 |aC i o v st' xs _ hc hw hx hr=>exact Dy hm hr
theorem Md(hm:kN call):∀{A B:List Rec},Good call bJ h0 n0 (A++B)->(cK n0 B).toNat<=(cK n0 (A++B)).toNat
 |[],_,_=>Za4 _
 |r::A,B,h=>Zc7 (Md hm (A:=A) h.2) (S8 hm h.1)
namespace ur
variable(G:ur tt nt ops call bJ h0 n0 R)
include G
theorem later{X Y:List Rec}{r r':Rec}(h:R=X++r::Y)(hr:r'∈X):r'.idx≠r.idx:=by
 obtain⟨A,B,rfl⟩:=jU hr;have h':R=A++r'::(B++r::Y):=by rw[h];simp
 exact λe=>G.one _ _ _ h' r (by simp) e.symm
theorem aaL{X Y:List Rec}{r:Rec}(h:R=X++r::Y):(cK n0 Y).toNat<=r.nx.toNat:=S8 G.mono (Good.at (h ▸G.Js))
theorem w6{X Y Z:List Rec}(h:R=X++(Y++Z)):(cK n0 Z).toNat<=(cK n0 (Y++Z)).toNat:=Md G.mono (Good.tail (h ▸G.Js))
theorem UF{X Y:List Rec}(h:R=X++Y):n0.toNat<=(cK n0 Y).toNat:=by have:=Md (n0:=n0) G.mono (A:=Y) (B:=[]) (by rw[Ze8];exact Good.tail (h ▸G.Js));rw[Ze8]at this;exact this
theorem KM{D:Nat->Prop}(hc:∀i o e,D i->ops[i]? =some o->e∈o.after->Region.binds .any e=true->D e.on){i b:Nat}(h:Reach ops i b)
  (hi:∀o e,ops[i]? =some o->e∈o.after->Region.binds .any e=true->D e.on):D b:=by
 induction h with
 |edge i o e ho he hb=>exact hi o e ho he hb
 |trans i o e b ho he hb _ ih=>exact ih λo' e' A0 jE gQ=>hc _ o' e' (hi o e ho he hb) A0 jE gQ
theorem aaM{D:Nat->Prop}{A B:List Rec}{a:Act}(hp:NI nt ops R D A B a){s:Rec}(hs:s∈R)(hD:D s.idx){b:Nat}(hb:s.o.bt.testBit b=true):D b:=by obtain⟨o,ho,_,hB⟩:=G.rel s hs;exact G.KM hp.closed (hB.2 b hb) λo' e A0 he jq=>hp.closed _ o' e hD A0 he jq
end ur
theorem FP:∀(Y:List Rec)(p:Pos)(v:AV),(kO bJ Y).get p=some v->
  (∃M s T,Y=M++s::T/\s.o.dst=some p/\s.v=v/\∀s'∈M,s'.o.dst≠some p)\/(bJ.get p=some v/\∀s∈Y,s.o.dst≠some p)
 |[],p,v,h=>.inr ⟨h,λs hs=>by cases hs⟩
 |r ::Y   ,p,v,h=>by
  simp only[kO]at h;by_cases hr:r.o.dst=some p
  .rw[hr]at h;simp only[cG,T.ee,H0]at h;exact .inl ⟨[],r,Y,rfl,hr,h,λs hs=>by cases hs⟩
  . have h':(kO bJ Y).get p=some v:=by
        cases hd:r.o.dst with
        |none=>rw[hd]at h;exact h
        | some d=>
          rw[hd]at h;simp only[cG]at h
          rwa [T.bn _ λe=>hr (by rw[hd,e])]at h
    rcases FP Y p v h' with⟨M,s,T,rfl,h2,h3,h4⟩|⟨h2,h3⟩
    .   refine .inl ⟨r::M,s,T,rfl,h2,h3,λs' kK=> ?_⟩;rcases Za9.1 kK with rfl|kK
        .exact hr
        .exact h4 s' kK
    .   refine .inr ⟨h2,λs hs=> ?_⟩;rcases Za9.1 hs with rfl|hs
        .exact hr
        .exact h3 s hs
theorem look(G:ur tt nt ops call bJ h0 n0 R){D:Nat->Prop}{A B:List Rec}{a:Act}(hp:NI nt ops R D A B a){ρ:Pos->Loc}(h1:T1 C R D ρ a.tmps)(h2:T0 C bJ n0 R D ρ a.tmps)
   {X Y:List Rec} {r:Rec} (hR:R=X++r::Y) (hD:¬D r.idx) (Me:∀b,r.o.bt.testBit b=true->D b) {p:Pos} {v:AV} (hl:p∈r.o.looks) (hv:(kO bJ Y).get p=some v):
   ∃x,a.tmps[p.toNat - 1]? =some x/\aj ρ (cK n0 Y).toNat C v x:=by
 have hX:∀s∈X,D s.idx->s.o.dst≠some p:=by
   intro s hs fc hd;rcases G.apart X r Y hR s hs with h|h
   .exact hD (G.aaM hp (by rw[hR];simp[hs]) fc h)
   .exact(BG h).2 p hd hl
 rcases FP Y p v hv with⟨M,s,T,rfl,h3,rfl,h4⟩|⟨h3,h4⟩
 . have hR':R=(X++r::M)++s::T:=(by rw[hR];simp);have fc:D s.idx:=by
     rcases G.apart _ s T hR' r (by simp)with h|h
     .  exact Me _ h
     .  exact absurd hl ((BG h).1 p h3).1
   obtain⟨x,hx,FQ⟩:=h1 (X++r::M) s T p hR' fc h3 (λs' kK zH=>by
     rcases Zd7.1 kK with h|h
     .  exact hX s' h zH
     .  rcases Za9.1 h with rfl|h
        .exact absurd zH hD
        .exact h4 s' h)
   refine⟨x,hx,FQ.mono (λ_ _=>rfl) ?_⟩;have:=G.w6 (X:=X++[r]) (Y:=M) (Z:=s::T) (by rw[hR];simp);exact this
 . obtain⟨x,hx,FQ⟩:=h2 p v h3 (λs hs fc=>by
     rw[hR]at hs;rcases Zd7.1 hs with h|h
     .  exact hX s h fc
     .  rcases Za9.1 h with rfl|h
        .exact absurd fc hD
        .exact h4 s h)
   exact⟨x,hx,FQ.mono (λ_ _=>rfl) (G.UF (X:=X++[r]) (by rw[hR];simp))⟩
theorem A6{a:Act}{d:Option Tmp}{x:Value}{p:Pos}(h:d.map key≠some p):(a.put d x).tmps[p.toNat - 1]? =a.tmps[p.toNat - 1]? :=by
 cases d with
 |none=>rfl
 |some e=>
  simp only[Act.put];rw[Zd6];intro he;apply h;simp only[Ze2,H0];apply Pos.toNat_inj;rw[ej];have:=p.toNat_pos;omega
theorem Y8{a:Act}{d:Option Tmp}{x:Value}{p:Pos}(h:d.map key=some p)(hs:a.tmps.size=nt)(hd:∀e,d=some e->e<nt):(a.put d x).tmps[p.toNat - 1]? =some x:=by
 cases d with
 |none=>cases h
 |some e=>
  simp only[Ze2,H0]at h;subst h;simp only[Act.put];rw[ej,Ze9,Zj8];simp[hs,hd e rfl]
theorem UG(G:ur tt nt ops call bJ h0 n0 R){D:Nat->Prop}{A B:List Rec}{a:Act}(hp:NI nt ops R D A B a){ρ:Pos->Loc}(h1:T1 C R D ρ a.tmps)(h2:T0 C bJ n0 R D ρ a.tmps)
   {X Y:List Rec} {r:Rec} (hR:R=X++r::Y) (hD:¬D r.idx) {o:Oper} (hrel:qD tt nt ops o r.o) {x:Value} (hv:aj ρ r.nx.toNat C r.v x):
   T1 C R (λi=>D i\/i=r.idx) ρ (a.put o.dst x).tmps/\T0 C bJ n0 R (λi=>D i\/i=r.idx) ρ (a.put o.dst x).tmps:=by
 constructor
 . intro  M s T p hM fc hd j6;by_cases hi:s.idx=r.idx
   .obtain⟨_,rfl,_⟩:=zF G.one hM hR hi;rw[hrel.dst]at hd;exact⟨x,Y8 hd hp.size hrel.lt,hv⟩
   . have fc:=fc.resolve_right hi;by_cases FR:r.o.dst=some p
     .  exfalso;have hs:s∈R:=(by rw[hM];simp);rw[hR]at hs;rcases Zd7.1 hs with h|h
        . rcases G.apart X r Y hR s h with k|k
          .exact hD (G.aaM hp (by rw[hR];simp[h]) fc k)
          .exact((BG k).1 p FR).2 hd
        . rcases Za9.1 h with rfl|h
          .exact hi rfl
          .obtain⟨Y1,Y2,rfl⟩:=jU h;have hR':R=(X++r::Y1)++s::Y2:=(by rw[hR];simp);obtain⟨Ww,_,_⟩:=zF G.one hM hR' rfl;exact j6 r (by rw[Ww];simp) (.inr rfl) FR
     .  (rw[hrel.dst]at FR;obtain⟨y,hy,zp⟩:=h1 M s T p hM fc hd λs' kK zH=>j6 s' kK (.inl zH));exact⟨y,by rw[A6 FR];exact hy,zp⟩
 . (intro p v hf j6;have hr:r.o.dst≠some p:=j6 r (by rw[hR];simp) (.inr rfl);rw[hrel.dst]at hr;obtain⟨y,hy,zp⟩:=h2 p v hf λs hs fc=>j6 s hs (.inl fc));exact⟨y,by rw[A6 hr];exact hy,zp⟩
end
section
variable{P:Program}{tt:TT}{C:Cells}{nt:Nat}{ops:Array Oper}{call:ai}{bJ:Fr}{h0:T AB}{n0:Pos}{R:List Rec}
theorem aU.congr{ρ ρ':Pos->Loc}{st:St}{w:World}(h:aU ρ C st w)(aQ:∀b:Pos,b.toNat<st.next.toNat->ρ' b=ρ b):aU ρ' C st w where
 live b x hb:=by
  obtain⟨h1,h2,h3⟩:=h.live b x hb;rw[aQ b h1];exact⟨h1,h2,h3.mono aQ (Za4 _)⟩
 inj b b' x x' hb gQ he:=by rw[aQ b (h.live b x hb).1,aQ b' (h.live b' x' gQ).1]at he;exact h.inj b b' x x' hb gQ he
 cY a v ha:=⟨(h.cY a v ha).1,λb x hb=>by rw[aQ b (h.live b x hb).1];exact(h.cY a v ha).2 b x hb⟩
 whole:=h.whole
theorem iT.congr{ρ dx ρ':Pos->Loc}{st st':St}{w w':World}(h:iT ρ st w dx st' w')(aQ:∀b x,st'.heap.get b=some x->ρ' b=dx b):iT ρ st w ρ' st' w' where
 os:=h.os
 tape:=h.tape
 output:=h.output
 size:=h.size
 block:=h.block
 mj b x hb:=by rw[aQ b x hb];exact h.mj b x hb
namespace ur
variable(G:ur tt nt ops call bJ h0 n0 R)
include G
theorem same{r r':Rec}(h:r∈R)(h':r'∈R)(hi:r.idx=r'.idx):r=r':=by obtain⟨A,B,hA⟩:=jU h;obtain⟨A',B',EP⟩:=jU h';exact(zF G.one hA EP hi).2.1
theorem cmp{X Y X' Y':List Rec}{r r':Rec}(h1:R=X++r::Y)(h2:R=X'++r'::Y')(hi:r'.idx≠r.idx):
   (∃Z,Y'=Z++r::Y)\/(∃Z,Y=Z++r'::Y'):=by
 have h3:X++r::Y=X'++r'::Y':=h1.symm.trans h2;rcases List.append_eq_append_iff.1 h3 with⟨Z,hX,hZ⟩|⟨Z,hX,hZ⟩
 . cases Z with
   |nil=>simp at hZ;exact absurd (by rw[hZ.1]) hi
   |cons z Z=>simp at hZ;exact .inr ⟨Z,hZ.2⟩
 . cases Z with
   |nil=>simp at hZ;exact absurd (by rw[hZ.1]) hi
   |cons z Z=>simp at hZ;exact .inl ⟨Z,hZ.2⟩
theorem DD{X Y X' Z:List Rec}{r r':Rec}(h1:R=X++r::Y)(h2:R=X'++r'::(Z++r::Y)):r.nx.toNat<=(cK n0 (Z++r::Y)).toNat:=by have:=G.w6 (X:=X'++[r']) (Y:=Z) (Z:=r::Y) (by rw[h2];simp);exact this
theorem yO{X Y' Z:List Rec}{r r':Rec}(h1:R=X++r::(Z++r'::Y')):r'.nx.toNat<=(cK n0 (Z++r'::Y')).toNat:=by have:=G.w6 (X:=X++[r]) (Y:=Z) (Z:=r'::Y') (by rw[h1];simp);exact this
theorem FT{X Y:List Rec}{r:Rec}(h:R=X++r::Y){id:Pos}{au:AB}(hc:r.c= .new id au):id=cK n0 Y/\r.nx=id.succ:=by
 have hs:=Good.at (h ▸G.Js);cases hs<;>simp only at hc<;>first|(cases hc;done)|skip
 simp only[RC.new.injEq]at hc;obtain⟨rfl,_⟩:=hc;exact⟨rfl,rfl⟩
end ur
theorem Kept.up{D D':Nat->Prop}(h:∀i,D i->D' i){b:Pos}(hk:Kept n0 R D b):Kept n0 R D' b:=λA r B hR hD=>hk A r B hR λhd=>hD (h _ hd)
theorem NI.next(G:ur tt nt ops call bJ h0 n0 R){D:Nat->Prop}{A B:List Rec}{a:Act}(hp:NI nt ops R D A B a){X Y:List Rec}{r:Rec}(hR:R=X++r::Y)
  (mV:∀o e,ops[r.idx]? =some o->e∈o.after->Region.binds .any e=true->D e.on) (hc:r.c.ke=false) (d:Option Tmp) (x:Value):
  NI nt ops R (λi=>D i\/i=r.idx) A B (a.put d x) where
 split:=hp.split
 bound:=hp.bound
 inB s hs:= .inl (hp.inB s hs)
 Qi s hs hD:=by
  rcases hD with hD|hD
  .exact hp.Qi s hs hD
  .rw[G.same (by rw[hp.split];simp[hs]) (by rw[hR];simp) hD];exact hc
 closed i o e hD ho he hb:=by
  rcases hD with hD|rfl
  .exact .inl (hp.closed i o e hD ho he hb)
  .exact .inl (mV o e ho he hb)
 size:=by rw[Act.gw];exact hp.size
 defers:=by rw[Act.iz];exact hp.defers
theorem NJ(G:ur tt nt ops call bJ h0 n0 R){jr:Pos->Loc}{w0:World}{D:Nat->Prop}{A B:List Rec}{ρ:Pos->Loc}{a:Act}{w:World}
  (hI:Inv C nt ops bJ h0 n0 R jr w0 D A B ρ a w) {X Y:List Rec} {r:Rec} (hR:R=X++r::Y) (hD:¬D r.idx)
  (mV:∀o e,ops[r.idx]? =some o->e∈o.after->Region.binds .any e=true->D e.on) {o:Oper} (hrel:qD tt nt ops o r.o) (hc:r.c= .pure) {x:Value}
  (hv:∀ρ',(∀b,Kept n0 R D b->ρ' b=ρ b)->aj ρ' r.nx.toNat C r.v x):
  Inv C nt ops bJ h0 n0 R jr w0 (λi=>D i\/i=r.idx) A B ρ (a.put o.dst x) w:=by
 obtain⟨hp,hI⟩:=hI;refine⟨hp.next G hR mV (by rw[hc];rfl) _ _,λρ' vZ=> ?_⟩;have hf:∀b,Kept n0 R D b->ρ' b=ρ b:=λb hb=>vZ b (hb.up λ_ h=>.inl h)
 have h:=hI ρ' hf;have hnr:∀s∈A,(D s.idx\/s.idx=r.idx)->∀id au,s.c= .new id au->D s.idx:=λs hs fc id au e9=>by
  rcases fc with fc|fc
  .exact fc
  .rw[G.same (by rw[hp.split];simp[hs]) (by rw[hR];simp) fc,hc]at e9;cases e9
 obtain⟨k1,k2⟩:=UG G hp h.t1 h.t0 hR hD hrel (hv ρ' hf);exact⟨h.W,λs hs fc id au e9=>h.N s hs (hnr s hs fc id au e9) id au e9,
  λs hs fc id au e9 s' kK zH pG xO nY=>h.N2 s hs (hnr s hs fc id au e9) id au e9 s' kK (hnr s' kK zH pG xO nY) pG xO nY,k1,k2,h.E,h.yN⟩
theorem aU.grow{ρ:Pos->Loc}{st:St}{w w':World}(h:aU ρ C st w)(hs:w.heap.size<=w'.heap.size)(hb:∀k,k<w.heap.size->w'.heap[k]? =w.heap[k]?):aU ρ C st w' where
 live b x hx:=let⟨h1,h2,h3⟩:=h.live b x hx;⟨h1,Zc5 h2 hs,h3.of_heap (hb _ h2)⟩
 inj:=h.inj
 cY a v ha:=by
  obtain⟨h1,h2⟩:=h.cY a v ha;exact⟨by rw[World.cell?_of_block (w:=w) (hb _ (World.block_lt_of_cell? _ _ h1))];exact h1,h2⟩
 whole a v ha o ho:=by have nF:a.block<w.heap.size:=World.block_lt_of_cell? _ _ (h.cY a v ha).1;rw[World.cell?_of_block (w:=w) (a:=⟨a.block,o,none⟩) (hb _ nF)];exact h.whole a v ha o ho
theorem Y9(G:ur tt nt ops call bJ h0 n0 R){jr:Pos->Loc}{w0:World}{D:Nat->Prop}{A B:List Rec}{ρ:Pos->Loc}{a:Act}{w w':World}
   (hI:Inv C nt ops bJ h0 n0 R jr w0 D A B ρ a w) {X Y:List Rec} {r:Rec} (hR:R=X++r::Y) (hD:¬D r.idx)
   (mV:∀o e,ops[r.idx]? =some o->e∈o.after->Region.binds .any e=true->D e.on) {o:Oper} (hrel:qD tt nt ops o r.o) {id:Pos} {au:AB} (hc:r.c= .new id au) {x:Value} {L:Loc}
   (hL:w.heap.size<=L.au) (hL':L.au<w'.heap.size) (S6:w'.os=w.os) (acL:w'.tape=w.tape) (Mf:w'.output=w.output) (Za:∀k,k<w.heap.size->w'.heap[k]? =w.heap[k]?)
   (hv:∀ρ',(∀b,Kept n0 R D b->ρ' b=ρ b)->ρ' id=L->aj ρ' r.nx.toNat C r.v x/\kG ρ' r.nx.toNat C L w' au):
   Inv C nt ops bJ h0 n0 R jr w0 (λi=>D i\/i=r.idx) A B (λb=>if b=id then L else ρ b) (a.put o.dst x) w':=by
 obtain⟨hp,hI⟩:=hI;have hrA:r∈A:=by
   have:r∈R:=(by rw[hR];simp);rw[hp.split]at this;exact(Zd7.1 this).resolve_right λh=>hD (hp.inB r h)
 obtain⟨KJ,FU⟩:=G.FT hR hc;have eu:w.heap.size<=w'.heap.size:=by omega
 refine⟨hp.next G hR mV (by rw[hc];rfl) _ _,λρ' vZ=> ?_⟩;have hkid:Kept n0 R (λi=>D i\/i=r.idx) id:=by
   (intro A' r' B' EP Wx;have cj:r'.idx≠r.idx:=λe=>Wx (.inr e));rcases G.cmp hR EP cj with⟨Z,rfl⟩|⟨Z,rfl⟩
   .left;have:=G.DD hR EP;rw[FU,Pos.ax]at this;omega
   .right;have:=G.yO hR;rw[KJ];exact this
 have UH:ρ' id=L:=by rw[vZ id hkid];simp
 have hf:∀b,Kept n0 R D b->ρ' b=ρ b:=λb hb=>by
   have cj:b≠id:=by
     rintro rfl;rcases hb X r Y hR hD with h|h
     .  rw[KJ]at h;omega
     .  rw[FU,Pos.ax]at h;omega
   rw[vZ b (hb.up λ_ h=>.inl h)];exact Za5 cj
 have h:=hI ρ' hf;obtain⟨Im,Ce⟩:=hv ρ' hf UH;obtain⟨k1,k2⟩:=UG G hp h.t1 h.t0 hR hD hrel Im;have Pg:∀s∈A,(D s.idx\/s.idx=r.idx)->D s.idx\/s=r:=λs hs fc=>fc.imp (λh=>h) λfc=>G.same (by rw[hp.split];simp[hs]) (by rw[hR];simp) fc
 refine⟨h.W.grow eu Za,λs hs fc pG xO e9=> ?_,λs hs fc pG xO e9 s' kK zH id'' aaN nY cj=> ?_,k1,k2,?_,h.yN⟩
 . rcases Pg s hs fc with fc|rfl
   .obtain⟨g1,g2,g3,g4,g5⟩:=h.N s hs fc pG xO e9;exact⟨g1.of_heap (Za _ g2),by omega,g3,g4,g5⟩
   . rw[hc]at e9;simp only[RC.new.injEq]at e9;obtain⟨rfl,rfl⟩:=e9;rw[UH];refine⟨Ce,hL',Zc7 h.E.size hL,λb x hb e=> ?_,λad v ha e=> ?_⟩
     .  have:=(h.W.live b x hb).2.1;omega
     .  have:=World.block_lt_of_cell? _ _ (h.W.cY ad v ha).1;omega
 . rcases Pg s hs fc with hDk|rfl
   . rcases Pg s' kK zH with Zb|rfl
     .  exact h.N2 s hs hDk pG xO e9 s' kK Zb id'' aaN nY cj
     .  rw[hc]at nY;simp only[RC.new.injEq]at nY;obtain⟨rfl,rfl⟩:=nY;have:=(h.N s hs hDk pG xO e9).2.1;rw[UH];omega
   . rw[hc]at e9;simp only[RC.new.injEq]at e9;obtain⟨rfl,rfl⟩:=e9;rcases Pg s' kK zH with Zb|rfl
     .  have:=(h.N s' kK Zb id'' aaN nY).2.1;rw[UH];omega
     .  rw[hc]at nY;simp only[RC.new.injEq]at nY;exact absurd nY.1 cj
 .exact⟨S6.trans h.E.os,acL.trans h.E.tape,Mf.trans h.E.output,Zc7 h.E.size eu,λk hk hn=>by rw[Za k (Zc5 hk h.E.size)];exact h.E.block k hk hn,h.E.mj⟩
theorem UI(G:ur tt nt ops call bJ h0 n0 R){jr:Pos->Loc}{w0:World}{D:Nat->Prop}{A B:List Rec}{ρ:Pos->Loc}{a:Act}{w:World}
  (h:Inv0 C bJ h0 n0 R jr w0 D A B ρ a w) (abZ:R=A++B) {hp:T AB} {N:Pos} (hN:(cK n0 B).toNat<=N.toNat)
  (BH:∀b x,hp.get b=some x->(gV h0 B).get b=some x\/∃s∈A,D s.idx/\s.c= .new b x/\s.nx.toNat<=N.toNat):aU ρ C { heap:=hp,next:=N } w where
 live b x hb:=by
  rcases BH b x hb with h1|⟨s,hs,hD,hc,hn⟩
  .  obtain⟨g1,g2,g3⟩:=h.W.live b x h1;exact⟨Zc5 g1 hN,g2,g3.mono (λ_ _=>rfl) hN⟩
  .  obtain⟨g1,g2,_⟩:=h.N s hs hD b x hc;obtain⟨M,T,hM⟩:=jU (r:=s) (R:=R) (by rw[abZ];simp[hs]);obtain⟨_,e⟩:=G.FT hM hc;rw[e]at hn;refine⟨?_,g2,g1.mono (λ_ _=>rfl) (by rw[e];exact hn)⟩;rw[Pos.ax]at hn;exact hn
 inj b  b' x x' hb gQ he:=by
  rcases BH b x hb with h1|⟨s,hs,hD,hc,hn⟩
  .  rcases BH b' x' gQ with SM|⟨s',kK,Wx,rG,Qh⟩
     .  exact h.W.inj b b' x x' h1 SM he
     .  exact absurd he ((h.N s' kK Wx b' x' rG).2.2.2.1 b x h1)
  .  rcases BH b' x' gQ with SM|⟨s',kK,Wx,rG,Qh⟩
     .  exact absurd he.symm ((h.N s hs hD b x hc).2.2.2.1 b' x' SM)
     .  by_cases e:b=b'
        .exact e
        .exact absurd he (h.N2 s hs hD b x hc s' kK Wx b' x' rG e)
 cY ad v ha:=⟨(h.W.cY ad v ha).1,λb x hb=>by
  rcases BH b x hb with h1|⟨s,hs,hD,hc,hn⟩
  .  exact(h.W.cY ad v ha).2 b x h1
  .  exact(h.N s hs hD b x hc).2.2.2.2 ad v ha⟩
 whole:=h.W.whole
theorem uu:∀{Z B:List Rec}{b:Pos}{x:AB},(∀r∈Z,r.c.ke=false)->A4 B->(gW h0 (Z++B)).get b=some x->
  (gV h0 B).get b=some x\/∃s∈Z,s.c= .new b x
 |[],B,b,x,_,hB,h=>by
  cases B with
  |nil=>exact .inl h
  | cons r B=>
    simp only[A4]at hB;(cases hc:r.c<;>rw[hc]at hB<;>first|(cases hB;done)|skip);simp only[Zf9,gW,hc]at h;simp only[gV,hc];exact .inl h
 |r ::Z,B,b,x,hZ,hB,h=>by
  have ih:=@uu Z B b x (λs hs=>hZ s (Za6 _ hs)) hB;have hr:=hZ r (Zc6 ..);simp only[Zf1,gW]at h;cases hc:r.c with
  |pure=>rw[hc]at h;exact(ih h).imp (λh=>h) λ⟨s,h1,h2⟩=>⟨s,Za6 _ h1,h2⟩
  |aC _ _=>rw[hc]at hr;cases hr
  | new id au=>
    rw[hc]at h;by_cases e:id=b
    .   subst e;rw[T.ee]at h;simp only[H0]at h;subst h;exact .inr ⟨r,Zc6 ..,hc⟩
    .   rw[T.bn _ e]at h;exact(ih h).imp (λh=>h) λ⟨s,h1,h2⟩=>⟨s,Za6 _ h1,h2⟩
end
section
variable{P:Program}{tt:TT}{C:Cells}{nt:Nat}{ops:Array Oper}{call:ai}{bJ:Fr}{h0:T AB}{n0:Pos}{R:List Rec}
theorem around(G:ur tt nt ops call bJ h0 n0 R){D:Nat->Prop}{A B:List Rec}{a:Act}(hp:NI nt ops R D A B a){X Y:List Rec}{r:Rec}(hR:R=X++r::Y)(hD:¬D r.idx):
  ∃Z,A=X++r::Z/\Y=Z++B:=by
 have hrA:r∈A:=by
  have:r∈R:=by rw[hR];simp
  rw[hp.split]at this;exact(Zd7.1 this).resolve_right λh=>hD (hp.inB r h)
 obtain⟨X',Z,hA⟩:=jU hrA;have h2:R=X'++r::(Z++B):=by rw[hp.split,hA];simp
 obtain⟨rfl,_,rfl⟩:=zF G.one hR h2 rfl;exact⟨Z,hA,rfl⟩
theorem Zc(G:ur tt nt ops call bJ h0 n0 R){jr:Pos->Loc}{w0:World}{D:Nat->Prop}{A B:List Rec}{ρ:Pos->Loc}{a:Act}{w w':World}
   (hI:Inv C nt ops bJ h0 n0 R jr w0 D A B ρ a w) {X Y:List Rec} {r:Rec} (hR:R=X++r::Y) (hD:¬D r.idx)
   (mV:∀o e,ops[r.idx]? =some o->e∈o.after->Region.binds .any e=true->D e.on) {o:Oper} (hrel:qD tt nt ops o r.o)
   (hY:∀s∈Y,D s.idx) {st':St} {b0:T AB} (hc:r.c= .aC b0 st'.heap) (FU:r.nx=st'.next) {x:Value}
   (UJ:kL ρ C { heap:=gW h0 Y,next:=cK n0 Y } w r.v st' x w'):
   ∃kH,Inv C nt ops bJ h0 n0 R jr w0 (λi=>D i\/i=r.idx) X (r::Y) kH (a.put o.dst x) w':=by
 obtain⟨hp,hI⟩:=hI;obtain⟨dx,hv,hρ1,hle,Qb,hE1⟩:=UJ;simp only at hρ1 hle;obtain⟨Z,hA,rfl⟩:=around G hp hR hD;have hZ:∀s∈Z,s.c.ke=false:=λs hs=>hp.Qi s (by rw[hA];simp[hs]) (hY s (by simp[hs]))
 have S9:∀s∈X,s∈A:=λs hs=>by rw[hA];simp[hs]
 have hXD:∀s∈X,(D s.idx\/s.idx=r.idx)->D s.idx:=λs hs h=>h.resolve_right (G.later hR hs)
 have Qj:(cK n0 B).toNat<=(cK n0 (Z++B)).toNat:=G.w6 (X:=X++[r]) (by rw[hR];simp)
 let kH:Pos->Loc:=λb=>if(cK n0 (Z++B)).toNat<=b.toNat/\b.toNat<r.nx.toNat then dx b else ρ b
 have Qk:∀b:Pos,b.toNat<(cK n0 (Z++B)).toNat->Kept n0 R D b:=by
   intro b hb M s T hM fc;left;by_cases hi:s.idx=r.idx
   .obtain⟨_,_,rfl⟩:=zF G.one hM hR hi;exact hb
   . rcases G.cmp hR hM hi with⟨W,rfl⟩|⟨W,hW⟩
     .  have:=G.DD hR hM;have:=G.aaL hR;omega
     .  exact absurd (hY s (by rw[hW];simp)) fc
 refine⟨kH,⟨by rw[hR],by simp[A4,hc,RC.ke],?_,?_,?_,by rw[Act.gw];exact hp.size,by rw[Act.iz];exact hp.defers⟩,λρ' vZ=> ?_⟩
 . intro s hs;rcases Za9.1 hs with rfl|hs
   .exact .inr rfl
   .exact .inl (hY s hs)
 .intro s hs fc;exact hp.Qi s (S9 s hs) (hXD s hs fc)
 . intro i o' e hDi ho he hb;rcases hDi with hDi|rfl
   .exact .inl (hp.closed i o' e hDi ho he hb)
   .exact .inl (mV o' e ho he hb)
 have acM:∀b:Pos,b.toNat<r.nx.toNat->Kept n0 R (λi=>D i\/i=r.idx) b:=by
   (intro b hb M s T hM fc;left;have hi:s.idx≠r.idx:=λe=>fc (.inr e));rcases G.cmp hR hM hi with⟨W,rfl⟩|⟨W,hW⟩
   .exact Zc5 hb (G.DD hR hM)
   .exact absurd (.inl (hY s (by rw[hW];simp))) fc
 have hf:∀b,Kept n0 R D b->ρ' b=ρ b:=λb hb=>by rw[vZ b (hb.up λ_ h=>.inl h)];refine Za5 ?_;rintro⟨g1,g2⟩;rcases hb X r _ hR hD with h|h<;>omega
 have h:=hI ρ' hf;have Ql:∀b:Pos,b.toNat<r.nx.toNat->ρ' b=dx b:=by
   intro b hb;rcases Zh5 b.toNat (cK n0 (Z++B)).toNat with g|g
   .rw[hf b (Qk b g),hρ1 b g]
   .rw[vZ b (acM b hb)];exact Za7 ⟨g,hb⟩
 have vw:aj ρ' r.nx.toNat C r.v x:=by
   rw[FU]at Ql ⊢;exact hv.mono Ql (Za4 _)
 have dY:aU ρ' C { heap:=st'.heap,next:=r.nx } w':=by rw[FU]at Ql ⊢;exact Qb.congr Ql
 have hold:∀s∈X,D s.idx->∀id au,s.c= .new id au->∀b y,(gW h0 (Z++B)).get b=some y->(ρ b).au≠(ρ' id).au:=by
   intro s hs fc id au e9 b y hb;obtain⟨g1,g2,g3,g4,g5⟩:=h.N s (S9 s hs) fc id au e9;obtain⟨M,T,hM⟩:=jU (r:=s) (R:=R) (by rw[hR];simp[hs]);rcases uu hZ hp.bound hb with hb|⟨s',kK,nY⟩
   .rw[<-hf b (Qk b (Zc5 (h.W.live b y hb).1 Qj))];exact g4 b y hb
   . obtain⟨Z1,Z2,rfl⟩:=jU kK;have Ww:R=(X++r::Z1)++s'::(Z2++B):=(by rw[hR];simp);obtain⟨e1,e2⟩:=G.FT Ww nY;obtain⟨e3,e4⟩:=G.FT hM e9;have hbn:b.toNat<(cK n0 ((Z1++s'::Z2)++B)).toNat:=(by have:=G.yO (X:=X) (r:=r) (Z:=Z1) (r':=s') (Y':=Z2++B) (by rw[hR];simp);rw[e2,Pos.ax]at this;simp only[Zi3,Zf1];omega);have hsr:s.idx≠r.idx:=G.later hR hs;have KJ:r.nx.toNat<=id.toNat:=by
        rcases G.cmp hR hM hsr with⟨W,rfl⟩|⟨W,hW⟩
        .rw[e3];exact G.DD hR hM
        .obtain⟨A1,A2,hX⟩:=jU hs;have hM2:R=A1++s::(A2++r::((Z1++s'::Z2)++B)):=(by rw[hR,hX];simp);have pI:s∈(Z1++s'::Z2)++B:=(by rw[hW];simp);exact absurd rfl (G.one A1 s _ hM2 s (Zd7.2 (.inr (Za6 _ pI))))
     have cj:b≠id:=(by rintro rfl;have:=G.aaL hR;omega);rw[<-hf b (Qk b hbn)];exact h.N2 s' (by rw[hA];simp) (hY s' (by simp)) b y nY s (S9 s hs) fc id au e9 cj
 have hEa:iT jr { heap:=h0,next:=n0 } w0 ρ { heap:=gW h0 (Z++B),next:=cK n0 (Z++B) } w:=by
   refine⟨h.E.os,h.E.tape,h.E.output,h.E.size,h.E.block,λb y hb=> ?_⟩;rcases uu hZ hp.bound hb with hb|⟨s',kK,nY⟩
   .rw[<-hf b (Qk b (Zc5 (h.W.live b y hb).1 Qj))];exact h.E.mj b y hb
   .obtain⟨Z1,Z2,rfl⟩:=jU kK;have Ww:R=(X++r::Z1)++s'::(Z2++B):=(by rw[hR];simp);obtain⟨e1,e2⟩:=G.FT Ww nY;have hbn:b.toNat<(cK n0 ((Z1++s'::Z2)++B)).toNat:=(by have:=G.yO (X:=X) (r:=r) (Z:=Z1) (r':=s') (Y':=Z2++B) (by rw[hR];simp);rw[e2,Pos.ax]at this;simp only[Zi3,Zf1];omega);rw[<-hf b (Qk b hbn)];exact .inr (h.N s' (by rw[hA];simp) (hY s' (by simp)) b y nY).2.2.1
 obtain⟨k1,k2⟩:=UG G hp h.t1 h.t0 hR hD hrel vw;refine⟨?_,λs hs fc id au e9=> ?_,λs hs fc id au e9 s' kK zH pG xO nY cj=> ?_,k1,k2,?_,h.yN⟩
 .simp only[gV,hc,cK];exact dY
 . have fc:=hXD s hs fc;obtain⟨g1,g2,g3,g4,g5⟩:=h.N s (S9 s hs) fc id au e9;refine⟨g1.of_heap (hE1.block _ g2 (hold s hs fc id au e9)),Zc5 g2 hE1.size,g3,λb y hb=> ?_,g5⟩;simp only[gV,hc]at hb;rw[Ql b (by rw[FU];exact(Qb.live b y hb).1)];rcases hE1.mj b y hb with⟨b',y',gQ,e⟩|e
   .rw[<-e];exact hold s hs fc id au e9 b' y' gQ
   .omega
 .exact h.N2 s (S9 s hs) (hXD s hs fc) id au e9 s' (S9 s' kK) (hXD s' kK zH) pG xO nY cj
 . have:=(hEa.trans hE1).congr (ρ':=ρ') λb y hb=>Ql b (by rw[FU];exact(Qb.live b y hb).1)
   simp only[gV,hc,cK];exact⟨this.os,this.tape,this.output,this.size,this.block,this.mj⟩
end
section
variable{P:Program}{tt:TT}{C:Cells}{nt:Nat}{ops:Array Oper}{call:ai}{bJ:Fr}{h0:T AB}{n0:Pos}{R:List Rec}
theorem w7{ρ:Pos->Loc}{n:Pos}{w:World}(hC:∀ad v,C ad=some v->w.cell? ad=some v)(Wy:∀a v,C a=some v->∀o,C ⟨a.block,o,none⟩=none->w.cell? ⟨a.block,o,none⟩=none):aU ρ C { heap:= .e,next:=n } w where
 live b x hb:=by rw[T.cZ]at hb;cases hb
 inj b b' x x' hb:=by rw[T.cZ]at hb;cases hb
 cY a v ha:=⟨hC a v ha,λb x hb=>by rw[T.cZ]at hb;cases hb⟩
 whole:=Wy
theorem Yields.eq{N:Next}{x y:Value}(h:Yields N x)(k:Yields N y):x=y:=by
 rcases h with rfl|⟨rfl,rfl⟩<;>rcases k with k|⟨k,rfl⟩
 .simp only[Next.value.injEq]at k;exact k
 .cases k
 .cases k
 .rfl
theorem kG.Zd{ρ ρ':Pos->Loc}{n n':Nat}{L:Loc}{w:World}{s:List Nat}{p:Nat}(h:kG ρ n C L w (.iD s p)):kG ρ' n' C L w (.iD s p):=h
theorem Wz(hT:bH P tt){o:Oper}{k:av}{xs:List dL}{cls:SL}(hc:fo tt o.op=some (k,xs,cls)){n:Pos}{vs:List AV}{v:AV}{au:AB}
  (hr:k.run (λ_=>none) n vs=some (.aC v none none (some au))) {fr:Fr} (hx:dM fr xs=some vs) {a:Act} {w:World} {Ta:(Pos->Loc)->Prop} {ρ:Pos->Loc} (aQ:Ta ρ)
  (hF:∀ρ',Ta ρ'->eJ ρ' n.toNat C fr a.tmps) (hC:∀ad v,C ad=some v->w.cell? ad=some v) (Wy:∀a v,C a=some v->∀o,C ⟨a.block,o,none⟩=none->w.cell? ⟨a.block,o,none⟩=none):
  ∃ N x w' L,(execOp a.eval o).run P w= .ok N w'/\Yields N x/\w.heap.size<=L.au/\L.au<w'.heap.size/\w'.os=w.os/\w'.tape=w.tape/\w'.output=w.output/\
    (∀k,k<w.heap.size->w'.heap[k]? =w.heap[k]?)/\∀ρ',Ta ρ'->ρ' n=L->aj ρ' n.succ.toNat C v x/\kG ρ' n.succ.toNat C L w' au:=by
 have bP:k.run (λb=>T.get b (T.e:T AB)) n vs=some (.aC v none none (some au)):=by
  have e:(λb=>T.get b (T.e:T AB))=λ_=>none:=by funext b;exact T.cZ b
  rw[e];exact hr
 have H:=λρ' (hf:Ta ρ')=>HM hT o.op ρ' C { heap:= .e,next:=n } w k xs cls fr a o vs _ rfl hc (w7 hC Wy) (hF ρ' hf) hx bP
 have key:∀ρ',Ta ρ'->∃N x w' dx,(execOp a.eval o).run P w= .ok N w'/\Yields N x/\(∀b:Pos,b.toNat<n.toNat->dx b=ρ' b)/\aj dx n.succ.toNat C v x/\
    kG dx n.succ.toNat C (dx n) w' au/\w.heap.size<=(dx n).au/\(dx n).au<w'.heap.size/\w'.os=w.os/\w'.tape=w.tape/\w'.output=w.output/\
    (∀k,k<w.heap.size->w'.heap[k]? =w.heap[k]?):=by
  intro ρ' hf;obtain⟨N,x,w',dx,he,hy,h1,h2,h3,h4⟩:=H ρ' hf;have hg:(St.aC { heap:= .e,next:=n } none none (some au)).heap.get n=some au:=T.ee _ _ _;obtain⟨g1,g2,g3⟩:=h2.live n au hg;refine⟨N,x,w',dx,he,hy,h1,h3,g3,?_,g2,h4.os,h4.tape,h4.output,λk hk=>h4.block k hk λb x hb=> ?_⟩
  . rcases h4.mj n au hg with⟨b',x',gQ,_⟩|h
    .   rw[T.cZ]at gQ;cases gQ
    .   exact h
  .rw[T.cZ]at hb;cases hb
 obtain⟨N,x,w',dx,he,hy,h1,h2,h3,h4,h5,h6,h7,h8,h9⟩:=key ρ aQ;refine⟨N,x,w',dx n,he,hy,h4,h5,h6,h7,h8,h9,λρ' hf hL=> ?_⟩;obtain⟨N',x',w'',kH,jE,NK,k1,k2,k3,_⟩:=key ρ' hf;rw[he]at jE;simp only[Result.ok.injEq]at jE;obtain⟨rfl,rfl⟩:=jE;have Qm:=hy.eq NK;subst Qm;have UK:n.toNat<n.succ.toNat:=by rw[Pos.ax];omega
 have yN:(kH n).au=(dx n).au->(kH n).base=(dx n).base->((∃cs fz,au= .cells cs fz)\/∃t cs,au= .typed t cs)->aj ρ' n.succ.toNat C v x/\kG ρ' n.succ.toNat C (dx n) w' au:=by
  intro e1 e2 q9;have e3:(kH n).size=(dx n).size:=by
    rcases q9 with⟨cs,fz,rfl⟩|⟨t,cs,rfl⟩
    .   obtain⟨c,e,fr,g1,g2,_⟩:=h3;obtain⟨c',e',aW,zI,WA,_⟩:=k3;rw[e1,g1]at zI;simp only[H0,Obj.cells.injEq]at zI;rw[<-g2, <-WA,zI.1]
    .   obtain⟨c,fr,g1,g2,_⟩:=h3;obtain⟨c',aW,zI,WA,_⟩:=k3;rw[e1,g1]at zI;simp only[H0,Obj.cells.injEq]at zI;rw[<-g2, <-WA,zI.1]
  have e4:kH n=dx n:=by
    cases hh:kH n;cases KN:dx n;rw[hh,KN]at e1 e2 e3;simp only at e1 e2 e3;rw[e1,e2,e3]
  have fN:∀b:Pos,b.toNat<n.succ.toNat->ρ' b=kH b:=by
    intro b hb;rcases Zh5 b.toNat n.toNat with g|g
    .   exact(k1 b g).symm
    .   have:b=n:=Pos.toNat_inj (by rw[Pos.ax]at hb;omega);subst this;rw[hL,e4]
  refine⟨k2.mono fN (Za4 _),?_⟩;rw[<-e4];exact k3.mono fN (Za4 _)
 cases aa8 hr with
 |ptr cs=>
  obtain⟨_,g1⟩:=h2.ei;obtain⟨_,g2⟩:=k2.ei;rw[g1]at g2;simp only[Value.pointer.injEq,H0,Addr.mk.injEq,Zg7,Zk6]at g2;exact yN g2.1.symm g2.2.symm (.inl ⟨cs,0,rfl⟩)
 |ptrT t cs=>
  obtain⟨_,g1⟩:=h2.ei;obtain⟨_,g2⟩:=k2.ei;rw[g1]at g2;simp only[Value.pointer.injEq,H0,Addr.mk.injEq,Zg7,Zk6]at g2;exact yN g2.1.symm g2.2.symm (.inr ⟨t,cs,rfl⟩)
 |Wv len t cs hl=>
  obtain⟨ad,aF,g1,g2,g3,g4⟩:=h2.cN;obtain⟨ad',UL,zI,WA,g3',g4'⟩:=k2.cN;rw[g1]at zI;simp only[Value.slice.injEq,H0,true_and]at zI;obtain⟨rfl,rfl⟩:=zI;obtain⟨_,a1,_⟩:=g4 (by omega);obtain⟨_,a2,_⟩:=g4' (by omega);rw[a1]at a2;simp only[Addr.mk.injEq,Zg7,Zk6]at a2;exact yN a2.1.symm a2.2.symm (.inr ⟨t,cs,rfl⟩)
 |iD s=>
  obtain⟨_,g1⟩:=h2.ei;refine⟨?_,h3.Zd⟩;rw[g1, <-hL];exact .ptr n 0 UK
 |slice len es cap cs e9=>
  obtain⟨ad,aF,g1,g2,g3,g4⟩:=h2.cN;obtain⟨ad',UL,zI,WA,g3',g4'⟩:=k2.cN;rw[g1]at zI;simp only[Value.slice.injEq,H0,true_and]at zI;obtain⟨rfl,rfl⟩:=zI;by_cases h0:aF=0
  . subst h0;have Wm:len=0:=(by omega);have hcs0:cs=[]:=e9 Wm (by
        cases cap with
        |none=>exact .inl rfl
        |some c=>exact .inr (by rw[g3 c rfl]))
    subst hcs0;refine⟨?_,?_⟩
    .   rw[g1];exact .slice n 0 len cap es 0 ad g2 g3 (λh=>absurd rfl h) (λ_=>UK)
    .   obtain⟨c,e,fr,q1,q2,q3,q4,q5⟩:=h3;exact⟨c,e,fr,q1,q2,q3,aq.nil,q5⟩
  .obtain⟨_,a1,_⟩:=g4 h0;obtain⟨_,a2,_⟩:=g4' h0;rw[a1]at a2;simp only[Addr.mk.injEq,Zg7,Zk6]at a2;exact yN a2.1.symm a2.2.symm (.inl ⟨cs,0,rfl⟩)
 |map=>
  obtain⟨_,g1⟩:=h2.tF;refine⟨?_,?_⟩
  .rw[g1, <-hL];exact .map n UK
  .obtain⟨es',q1,q2,q3⟩:=h3;exact⟨es',q1,q2,λi e e' he=>by simp at he⟩
end
section
variable{P:Program}{tt:TT}{C:Cells}{nt:Nat}{ops:Array Oper}{call:ai}{bJ:Fr}{h0:T AB}{n0:Pos}{R:List Rec}
def rI(fr:Fr):List Pos->Fr
 |[]=>.e
 |p::l=>(rI fr l).put (fr.get p) p
theorem NL{fr:Fr}{p:Pos}:∀{l:List Pos},p∈l->(rI fr l).get p=fr.get p
 |[],h=>by cases h
 |q ::l,h=>by
  simp only[rI];by_cases e:q=p
  .subst e;exact T.ee _ _ _
  .rw[T.bn _ e];exact NL ((Za9.1 h).resolve_left λh=>e h.symm)
theorem IB{fr:Fr}{p:Pos}{v:AV}:∀{l:List Pos},(rI fr l).get p=some v->p∈l/\fr.get p=some v
 |[],h=>by simp only[rI]at h;rw[T.cZ]at h;cases h
 |q ::l,h=>by
  simp only[rI]at h;by_cases e:q=p
  .subst e;rw[T.ee]at h;exact⟨by simp,h⟩
  .rw[T.bn _ e]at h;obtain⟨h1,h2⟩:=IB h;exact⟨by simp[h1],h2⟩
theorem NM{fr:Fr}{l:List Pos}:∀{xs:List dL},(∀p,dL.t p∈xs->p∈l)->dM (rI fr l) xs=dM fr xs
 |[],_=>rfl
 |x::xs,h=>by
  have h1:wU (rI fr l) x=wU fr x:=by
   cases x with
   |t p=>exact NL (h p (by simp))
   |c v=>rfl
  simp only[dM,h1,NM λp hp=>h p (Za6 _ hp)]
theorem WE{o:bh}{p:Pos}(h:dL.t p∈o.xs):p∈o.looks:=by
 unfold bh.looks;exact Zi1 _ (Zl5.2 ⟨_,h,rfl⟩)
theorem Sn{o:bh}{p:Pos}{q:Bool}(h:o.guard=some (p,q)):p∈o.looks:=by unfold bh.looks;rw[h];simp
theorem Yields.upon{K:Value->World->Prop}{N:Next}{x:Value}{w:World}(h:Yields N x)(hk:K x w):Reaches P K (.ok N w):=by rcases h with rfl|⟨rfl,rfl⟩<;>exact hk
theorem Ze(hT:bH P tt)(bE:ew P C call)(G:ur tt nt ops call bJ h0 n0 R){jr:Pos->Loc}{w0:World}{D:Nat->Prop}{A B:List Rec}{ρ:Pos->Loc}{a:Act}{w:World}
  (hI:Inv C nt ops bJ h0 n0 R jr w0 D A B ρ a w) {i:Nat} (hi:i<ops.size) (hD:¬D i)
  (mV:∀o e,ops[i]? =some o->e∈o.after->Region.binds .any e=true->D e.on):
  zx P ops i (λa' w'=>∃A' B' ρ',Inv C nt ops bJ h0 n0 R jr w0 (λj=>D j\/j=i) A' B' ρ' a' w') a w:=by
 obtain⟨r,hr,rfl⟩:=G.all i hi;obtain⟨X,Y,hR⟩:=jU hr;obtain⟨o,ho,hrel,hB⟩:=G.rel r hr;have hp:=hI.1;have Me:∀b,r.o.bt.testBit b=true->D b:=λb hb=>G.KM hp.closed (hB.2 b hb) mV
 obtain⟨Z,hA,NN⟩:=around G hp hR hD;have DE:∀ρ',(∀b,Kept n0 R D b->ρ' b=ρ b)->∀p v,p∈r.o.looks->(kO bJ Y).get p=some v->∃x,a.tmps[p.toNat - 1]? =some x/\aj ρ' (cK n0 Y).toNat C v x:=
  λρ' hf p v hl hv=>look G hp (hI.2 ρ' hf).t1 (hI.2 ρ' hf).t0 hR hD Me hl hv
 have hFR:∀ρ',(∀b,Kept n0 R D b->ρ' b=ρ b)->eJ ρ' (cK n0 Y).toNat C (rI (kO bJ Y) r.o.looks) a.tmps:=λρ' hf p v hv=>
  let⟨h1,h2⟩:=IB hv;DE ρ' hf p v h1 h2
 have DF:∀b,Kept n0 R D b->ρ b=ρ b:=λ_ _=>rfl
 have hw:∀b,bF (kO bJ Y) r.o.guard=some b->Region.wanted o (yielded ops a.tmps)=b:=λb hb=>
  zA hrel.guard (λp v hv ⟨q,hq⟩=>DE ρ DF p v (Sn hq) hv) hb
 have hnZ:∀s∈Z,s.nx.toNat<=(cK n0 Y).toNat:=λs hs=>by obtain⟨Z1,Z2,rfl⟩:=jU hs;have:=G.yO (X:=X) (r:=r) (Z:=Z1) (r':=s) (Y':=Z2++B) (by rw[hR,NN];simp);rw[NN];simp only[Zi3,Zf1];exact this
 have Qj:(cK n0 B).toNat<=(cK n0 Y).toNat:=by rw[NN];exact G.w6 (X:=X++[r]) (by rw[hR,NN];simp)
 have hs:=Good.at (hR ▸G.Js);have hex:∀xs,dM (kO bJ Y) r.o.xs=some xs->dM (rI (kO bJ Y) r.o.looks) r.o.xs=some xs:=λxs hx=>by rw[NM λp hp=>WE hp];exact hx
 unfold zx;simp only[ho];generalize hrr:r=r0 at*
 cases hs with
 |skip i' o' _ hw'=>
  rw[Za5 (by rw[hw _ hw'];simp)];exact⟨A,B,ρ,NJ G hI hR hD mV hrel rfl λρ' _=> .NC⟩
 |pure i' o' v xs _ hw' hx NH=>
  rw[Za7 (hw _ hw')];rw[NN]at NH;obtain⟨h,BH,bP⟩:=NH Z B rfl hp.bound λs hs he=>by
    cases hb:o'.bt.testBit s.idx with
    |false=>rfl
    |   true=>
        have h1:=hp.Qi s (by rw[hA];simp[hs]) (Me _ hb);rw[h1]at he;cases he
  rcases hrel.op with hc|⟨hk,_⟩
  . have H:∀ρ',(∀b,Kept n0 R D b->ρ' b=ρ b)->∃N x,(execOp a.eval o).run P w= .ok N w/\Yields N x/\aj ρ' (cK n0 Y).toNat C v x:=by
        intro ρ' hf;have hW:=UI G (hI.2 ρ' hf) hp.split (hp:=h) Qj λb y hb=>(BH b y hb).imp (λh=>h) λ⟨s,h1,h2,h3⟩=>
          ⟨s,by rw[hA];simp[h1],Me _ h3,h2,hnZ s h1⟩
        exact HM hT o.op ρ' C _ w _ _ _ _ a o _ _ rfl hc hW (hFR ρ' hf) (hex xs hx) (Y6 bP λ_ _ h=>h)
    obtain⟨N,x,he,hy,hv⟩:=H ρ DF;unfold Ma;rw[he];refine hy.upon ⟨A,B,ρ,NJ G hI hR hD mV hrel rfl λρ' hf=> ?_⟩;obtain⟨N',x',jE,NK,vw⟩:=H ρ' hf;rw[he]at jE;simp only[Result.ok.injEq,Zk6]at jE;subst jE;rw[hy.eq NK];exact vw
  .rw[hk]at bP;cases bP
 |new   i' o' v au xs _ hw' hx bP=>
  rw[Za7 (hw _ hw')];rcases hrel.op with hc|⟨hk,_⟩
  . obtain⟨N,x,w',L,he,hy,h1,h2,h3,h4,h5,h6,h7⟩:=Wz hT hc bP (hex xs hx) (Ta:=λρ'=>∀b,Kept n0 R D b->ρ' b=ρ b) DF hFR
        (λad v ha=>((hI.2 ρ DF).W.cY ad v ha).1) (hI.2 ρ DF).W.whole
    unfold Ma;rw[he];exact hy.upon ⟨A,B,_,Y9 G hI hR hD mV hrel rfl h1 h2 h3 h4 h5 h6 h7⟩
  .rw[hk]at bP;cases bP
 |aC i' o' v st' xs _ Y7 hw' hx iU=>
  rw[Za7 (hw _ hw')];rcases hrel.op with hc|⟨hk,_⟩
  . have hY:∀s∈Y,D s.idx:=λs hs=>Me _ (G.aC X _ Y hR Y7 s hs)
    have hZ:∀s∈Z,s.c.ke=false:=λs hs=>hp.Qi s (by rw[hA];simp[hs]) (hY s (by rw[NN];simp[hs]))
    have hW:aU ρ C { heap:=gW h0 Y,next:=cK n0 Y } w:=UI G (hI.2 ρ DF) hp.split Qj λb y hb=>by
        rw[NN]at hb;rcases uu hZ hp.bound hb with hb|⟨s,h1,h2⟩
        .exact .inl hb
        .exact .inr ⟨s,by rw[hA];simp[h1],hY s (by rw[NN];simp[h1]),h2,hnZ s h1⟩
    have hre:=Iy hT bE hc hW (hFR ρ DF) (hex xs hx) iU;(refine hre.mono λx w' UJ=> ?_);obtain⟨kH,h⟩:=Zc G hI hR hD mV hrel hY rfl rfl UJ;exact⟨_,_,kH,h⟩
  .exact(Reaches.bad hk iU).elim
end
section
variable{P:Program}{tt:TT}{C:Cells}{nt:Nat}{ops:Array Oper}{call:ai}{bJ:Fr}{h0:T AB}{n0:Pos}{R:List Rec}
theorem NO(G:ur tt nt ops call bJ h0 n0 R){jr:Pos->Loc}{w0:World}{D:Nat->Prop}{A B:List Rec}{ρ:Pos->Loc}{a:Act}{w:World}
   (hI:Inv C nt ops bJ h0 n0 R jr w0 D A B ρ a w) (fN:∀r∈R,D r.idx):eR nt jr C { heap:=h0,next:=n0 } w0 (kO bJ R) { heap:=gW h0 R,next:=cK n0 R } a w:=by
 obtain⟨hp,hI⟩:=hI;have h:=hI ρ λ_ _=>rfl
 have hZ:∀s∈A,s.c.ke=false:=λs hs=>hp.Qi s hs (fN s (by rw[hp.split];simp[hs]))
 have hnA:∀s∈A,s.nx.toNat<=(cK n0 R).toNat:=λs hs=>by obtain⟨Z1,Z2,hA⟩:=jU hs;have:=G.w6 (X:=[]) (Y:=Z1) (Z:=s::(Z2++B)) (by rw[hp.split,hA];simp);have e:R=Z1++s::(Z2++B):=(by rw[hp.split,hA];simp);rw[<-e]at this;exact this
 have Qj:(cK n0 B).toNat<=(cK n0 R).toNat:=by
   have:=G.w6 (X:=[]) (Y:=A) (Z:=B) (by rw[hp.split];simp)
   rwa [<-hp.split]at this
 have Ix:n0.toNat<=(cK n0 R).toNat:=G.UF (X:=[]) rfl;have BH:∀b x,(gW h0 R).get b=some x->(gV h0 B).get b=some x\/∃s∈A,D s.idx/\s.c= .new b x/\s.nx.toNat<=(cK n0 R).toNat:=λb x hb=>by
   rw[hp.split]at hb;rcases uu hZ hp.bound hb with hb|⟨s,h1,h2⟩
   .exact .inl hb
   .exact .inr ⟨s,h1,fN s (by rw[hp.split];simp[h1]),h2,hnA s h1⟩
 refine⟨ρ,⟨UI G h hp.split Qj BH,?_,hp.size,hp.defers⟩,h.yN,Ix,?_⟩
 . intro p v hv;rcases FP R p v hv with⟨M,s,T,hM,h2,rfl,h3⟩|⟨h1,h2⟩
   . obtain⟨x,hx,FQ⟩:=h.t1 M s T p hM (fN s (by rw[hM];simp)) h2 λs' kK _=>h3 s' kK
     refine⟨x,hx,FQ.mono (λ_ _=>rfl) ?_⟩;have:=G.w6 (X:=[]) (Y:=M) (Z:=s::T) (by rw[hM];simp);rw[<-hM]at this;exact this
   . obtain⟨x,hx,FQ⟩:=h.t0 p v h1 λs hs _=>h2 s hs
     exact⟨x,hx,FQ.mono (λ_ _=>rfl) Ix⟩
 . refine⟨h.E.os,h.E.tape,h.E.output,h.E.size,h.E.block,λb x hb=> ?_⟩;rcases BH b x hb with hb|⟨s,h1,h2,h3,_⟩
   .exact h.E.mj b x hb
   .exact .inr (h.N s h1 h2 b x h3).2.2.1
def DL(listed:Array Bool)(j:Nat):Prop:=listed.getD j false=true
theorem WG{listed:Array Bool}{i:Nat}(hi:i<listed.size):(λj=>DL listed j\/j=i)=DL (listed.setIfInBounds i true):=by
 funext j;apply propext;unfold DL;by_cases h:j=i
 .subst h;simp[hi]
 .rw[getD_set_ne false (Ne.symm h)];simp[h]
theorem Qn{listed:Array Bool}{j:Nat}(h:listed.getD j true=false):¬DL listed j:=by
 unfold DL;intro h';rcases Zh5 j listed.size with hj|hj
 .simp[hj]at h h';rw[h]at h';cases h'
 .simp[Array.getElem?_eq_none hj]at h'
theorem aba{listed:Array Bool}{j:Nat}(hj:j<listed.size)(h:¬DL listed j):listed.getD j true=false:=by unfold DL at h;simp[hj]at h ⊢; exact h
theorem FV(G:ur tt nt ops call bJ h0 n0 R){listed:Array Bool}(hs:listed.size=ops.size)(hr:Region.ready .any ops listed=[]):∀(Y X:List Rec),R=X++Y->∀r∈Y,DL listed r.idx
 |[],_,_,r,oG=>by cases oG
 |r ::Y  ,X,hR,r',oG=>by
  have ih:=FV G hs hr Y (X++[r]) (by rw[hR];simp);rcases Za9.1 oG with rfl|oG
  . obtain⟨o,ho,_,hB⟩:=G.rel r' (by rw[hR];simp);have aV:r'.idx<ops.size:=(Zc8.1 ho).1;by_cases h:DL listed r'.idx
    .   exact h
    .   exfalso;have:r'.idx∈Region.ready .any ops listed:=mem_ready.2 ⟨aba (by omega) h,o,ho,λe he hb=>by obtain⟨s,h1,h2⟩:=G.bt X r' Y hR _ (hB.1 o ho e he hb);have:=ih s h1;rw[h2]at this;exact this⟩;rw[hr]at this;cases this
  .exact ih r' oG
theorem NP(hT:bH P tt)(bE:ew P C call)(G:ur tt nt ops call bJ h0 n0 R){Q:Exit->Act->World->Prop}{jr:Pos->Loc}{w0:World}
  (hQ:∀a' w',eR nt jr C { heap:=h0,next:=n0 } w0 (kO bJ R) { heap:=gW h0 R,next:=cK n0 R } a' w'->Q .normal a' w'):
  ∀ (fuel:Nat)(listed:Array Bool)(U:List Nat)(A B:List Rec)(ρ:Pos->Loc)(a:Act)(w:World),listed.size=ops.size->U.length<=fuel->U.Nodup->(∀j,j<ops.size->¬DL listed j->j∈U)->
    Inv C nt ops bJ h0 n0 R jr w0 (DL listed) A B ρ a w->Pd P ops (Q .normal) fuel listed a w
 |0,listed,U,A,B,ρ,a,w,hs,hU,_,hm,hI=>by
  have hU0:U=[]:=Zb0 (by omega);subst hU0;have hr:Region.ready .any ops listed=[]:=by
    cases h:Region.ready .any ops listed with
    |nil=>rfl
    |   cons i l=>
        have hi:i∈Region.ready .any ops listed:=(by rw[h];simp);obtain⟨h1,o,ho,_⟩:=mem_ready.1 hi;have:=hm i (Zc8.1 ho).1 (Qn h1);cases this
  exact⟨hr,hQ a w (NO G hI (FV G hs hr R [] rfl))⟩
 |fuel+1,listed,U,A,B,ρ,a,w,hs,hU,ER,hm,hI=>by
  refine⟨λhr=>hQ a w (NO G hI (FV G hs hr R [] rfl)),λi hi=> ?_⟩;obtain⟨h1,o,ho,h2⟩:=mem_ready.1 hi;have aV:i<ops.size:=(Zc8.1 ho).1;have iU:=Ze hT bE G hI aV (Qn h1) λo' e A0 he hb=>by rw[ho]at A0;simp only[H0]at A0;subst A0;exact h2 e he hb
  refine Nz (λa' w' hh=> ?_) iU;obtain⟨A',B',ρ',hI'⟩:=hh;rw[WG (by omega)]at hI';have hiU:i∈U:=hm i aV (Qn h1);refine NP hT bE G hQ fuel _ (U.erase i) A' B' ρ' a' w' (by simp[hs]) ?_ (ER.erase i) (λj hj hD=> ?_) hI'
  .rw[List.length_erase_of_mem hiU];omega
  . (rw[<-WG (by omega)]at hD;have cj:j≠i:=λe=>hD (.inr e));exact(List.mem_erase_of_ne cj).2 (hm j hj λh=>hD (.inl h))
theorem DG(hm:P.follows .mixedOrders=true)(hT:bH P tt)(bE:ew P C call)(acN:kN call):oH P tt C call:=by
 intro nt id ops l Q fr aW st st' ρ a w hl eI h hS hQ;obtain⟨R,hG,hmap,Io,acO,FU⟩:=KL (call:=call) (bJ:=fr) (h0:=st.heap) (n0:=st.next) _ [] fr aW st st' h trivial rfl rfl rfl;simp only[Ze8]at hG Io acO FU;have hst':st'={ heap:=gW st.heap R,next:=cK st.next R }:=by cases st';simp_all
 have hlen:l.length=ops.size:=by rw[(mz hl).1,Zf0]
 have KO:=IA _ 0 [] eI λb=>by simp
 have hL:sF (zj 0 l) []=(R.map λr=>(r.idx,r.o)).reverse:=by rw[hmap,List.reverse_reverse]
 have dec:∀{A B:List Rec}{r:Rec},R=A++r::B->sF (zj 0 l) []=(B.map λr=>(r.idx,r.o)).reverse++(r.idx,r.o)::(A.map λr=>(r.idx,r.o)).reverse:=λe=>by rw[hL,e];simp
 have Jt:∀{B:List Rec}{i:Nat},i∈((B.map λr=>(r.idx,r.o)).reverse).map (·.1)↔ ∃r∈B,r.idx=i:=λ{B i}=>by simp
 have G:ur tt nt ops call fr st.heap st.next R:=by
   refine⟨hG,acN,λA r B e r' oG hi=> ?_,λA r B e b hb=> ?_,λA r B e hc r' oG=> ?_,λA r B e r' oG=> ?_,λr hr=> ?_,λi hi=> ?_⟩
   .exact(KO.one _ _ _ _ (dec e)).2 (Jt.2 ⟨r',oG,hi⟩)
   . rcases KO.bt _ _ _ _ (dec e) b hb with h|h
     .cases h
     .exact Jt.1 h
   .exact KO.aC _ _ _ _ (dec e) hc _ (.inr (Jt.2 ⟨r',oG,rfl⟩))
   .exact KO.apart _ _ _ _ (dec e) (r'.idx,r'.o) (by simp;exact⟨r',oG,rfl,rfl⟩)
   .obtain⟨A,B,e⟩:=jU hr;have hx:(r.idx,r.o)∈sF (zj 0 l) []:=(by rw[dec e];simp);have h1:=aa9 hx;obtain⟨o,h2,h3,h4⟩:=vY hl _ _ h1;refine⟨o,h2,h3,?_⟩;rw[h4];exact S5 ops.toList [] rfl (Zk2 _) (λi hi=>by simp at hi) _ (Zc8.1 h2).1
   . rcases KO.all i (by rw[hlen];exact hi)with h|h
     .cases h
     .rw[hL]at h;exact Jt.1 h
 refine⟨hm,?_⟩;rw[hst',Io]at hQ;have hkn:∀b:Pos,b.toNat<st.next.toNat->∀D,Kept st.next R D b:=λb hb D A r B e _=>.inl (Zc5 hb (G.UF (X:=A++[r]) (by rw[e];simp)))
 refine NP (Q:=Q) (jr:=ρ) (w0:=w) hT bE G hQ ops.size _ (List.range ops.size) R [] ρ a _ (by simp) (by simp) List.nodup_range (λj hj _=>Zk5.2 hj) ?_;have j6:∀j,¬DL (Array.replicate ops.size false) j:=λj h=>by
   unfold DL at h;rcases Zh5 j ops.size with hj|hj
   .simp[hj]at h
   .simp[Nat.not_lt.2 hj]at h
 refine⟨⟨by simp,trivial,(λr hr=>by cases hr),λr _ hD=>absurd hD (j6 _),λi _ _ hD=>absurd hD (j6 _),hS.size,hS.defers⟩,λρ' vZ=> ?_⟩;have mO:∀b:Pos,b.toNat<st.next.toNat->ρ' b=ρ b:=λb hb=>vZ b (hkn b hb _)
 have hW:aU ρ' C st { w with drawn:=w.drawn+1 }:=(hS.W.congr mO).grow (Za4 _) λ_ _=>rfl
 refine⟨hW,λr _ hD=>absurd hD (j6 _),λr _ hD=>absurd hD (j6 _),λM s T p _ hD=>absurd hD (j6 _),λp v hv _=> ?_,⟨rfl,rfl,rfl,Za4 _,λ_ _ _=>rfl,λb x hb=>.inl ⟨b,x,hb,?_⟩⟩,mO⟩
 .obtain⟨x,hx,FQ⟩:=hS.F p v hv;exact⟨x,hx,FQ.mono mO (Za4 _)⟩
 .rw[mO b (hS.W.live b x hb).1]
theorem Da(hm:P.follows .mixedOrders=true)(hT:bH P tt){O:dR}{G:T b7}(hO:nU P C O)(FW:jK O)(hG:Ka P tt G)(m d:Nat):ew P C (nM O G m d):=
 Iz hT hO hG m (λd bE=>DG hm hT bE (Dz FW m d)) d
end
end
section
section
variable{R:Type}
theorem qF{α:Type}:∀(p:Pos)(t:T α),kI p t=t.get p
 |.h,.e=>rfl
 |.h,.n _ _ _=>rfl
 |.o _,.e=>rfl
 |.o p,.n l _ _=>qF p l
 |.i _,.e=>rfl
 |.i p,.n _ _ r=>qF p r
theorem gF{α:Type}(x:Option α):∀(p:Pos)(t:T α)(k:T α->R),mo x p t k=k (t.put x p)
 |.h,.e,_=>rfl
 |.h,.n _ _ _,_=>rfl
 |.o p,.e,k=>gF x p .e _
 |.o p,.n l _ _,k=>gF x p l _
 |.i p,.e,k=>gF x p .e _
 |.i p,.n _ _ r,k=>gF x p r _
theorem wP(n:Nat)(k:Nat->R):mq n k=k n:=by cases n<;>rfl
theorem So(n:Int)(k:Int->R):Jh n k=k n:=by cases n<;>simp only[Jh,wP]
theorem Qo(b:Bool)(k:Bool->R):Np b k=k b:=by cases b<;>rfl
theorem A7{α:Type}:∀(l:List α)(k:List α->R),uk l k=k l
 |[],_=>rfl
 |a::l,k=>A7 l λt=>k (a::t)
theorem BI:∀(p:Pos)(k:Pos->R),Dl p k=k p
 |.h,_=>rfl
 |.o p,k=>BI p λq=>k (.o q)
 |.i p,k=>BI p λq=>k (.i q)
theorem WH(o:Option Nat)(k:Option Nat->R):PD o k=k o:=by
 cases o with
 |none=>rfl
 |some n=>simp only[PD,wP]
theorem NQ(v:AV)(k:AV->R):FF v k=k v:=by
 cases v<;>simp only[FF,Qo,So,A7,BI,wP,WH]
theorem DH:∀(l:List AV)(k:List AV->R),HK l k=k l
 |[],_=>rfl
 |a::l,k=>by
  show FF a (λa=>HK l λt=>k (a::t))=_;rw[NQ,DH l]
theorem A8(v:AV)(k:AV->R):oE v k=k v:=by
 unfold oE;split
 .exact DH _ _
 .exact NQ _ _
theorem DI(x:AB)(k:AB->R):y6 x k=k x:=by
 cases x<;>simp only[y6,A7,wP]
theorem DJ:∀(p:Pos)(k:Pos->R),Ki p k=k p.succ
 |.h,_=>rfl
 |.o _,_=>rfl
 |.i p,k=>DJ p λq=>k (.o q)
variable(z:R)
def mA{α:Type}(r:Option α)(k:α->R):R:=match r with
 |some x=>k x
 |none=>z
theorem FX(fr:Fr)(x:dL)(k:AV->R):Nq z fr x k=mA z (wU fr x) k:=by
 cases x with
 |t p=>simp only[Nq,qF,wU,mA];cases T.get p fr<;>rfl
 |c v=>rfl
theorem HO(fr:Fr):∀(xs:List dL)(k:List AV->R),Ji z fr xs k=mA z (dM fr xs) k
 |[],k=>rfl
 |x::xs,k=>by
  show Nq z fr x (λv=>Ji z fr xs λvs=>k (v::vs))=_;rw[FX];simp only[HO fr xs];simp only[dM];cases wU fr x with
  |none=>rfl
  |some v=>simp only[mA];cases dM fr xs<;>rfl
theorem KP(fr:Fr)(g:Option (Pos×Bool))(yes no:R):y9 z fr g yes no=match bF fr g with
  |some true=>yes
  |some false=>no
  |none=>z:=by
 unfold y9 bF;cases g with
 |none=>rfl
 |some g=>
  obtain⟨p,want⟩:=g;simp only[qF];cases T.get p fr with
  |none=>rfl
  |some v=>
   (cases v<;>try rfl);rename_i b;cases b<;>cases want<;>rfl
theorem KQ(fr:Fr)(d:Option Pos)(v:AV)(k:Fr->R):jA fr d v k=k (cG fr d v):=by
 cases d with
 |none=>rfl
 |some p=>exact gF _ _ _ _
theorem abb(st:St)(del:Option Pos)(set:Option (Pos×AB))(new:Option AB)(k:St->R):YI st del set new k=k (st.aC del set new):=by
 have hdel:∀(h:T AB)(k:T AB->R),delK del h k=k (By del h):=λh k=>by
  cases del with
  |none=>rfl
  |some b=>exact gF _ _ _ _
 have Dt:∀(h:T AB)(k:T AB->R),YH set h k=k (Di set h):=λh k=>by
  cases set with
  |none=>rfl
  |some b=>simp only[YH,DI,gF];rfl
 unfold YI;rw[hdel,Dt];cases new with
 |none=>rfl
 |some x=>simp only[DI,gF,DJ];rfl
def CK(aY:gJ R)(call:ai):Prop:=∀f args st k,aY f args st k=mA z (call f args st) λx=>k x.1 x.2
variable{aY:gJ R}{call:ai}
theorem DK(h:T AB):(λb=>kI b h)=λb=>h.get b:=funext λb=>qF b h
theorem Qp(hc:CK z aY call)(op:av)(xs:List AV)(st:St)(k:AV->St->R):HL z aY op xs st k=mA z (bS call op xs st) λx=>k x.1 x.2:=by
 unfold HL bS;rw[DK];cases op.run (λb=>st.heap.get b) st.next xs with
 |none=>rfl
 |some r=>
  cases r with
  |val v=>simp only[A8];rfl
  |aC v d s n=>simp only[A8,abb];rfl
  |call f args=>simp only[A7];exact hc f args st k
theorem HP(hc:CK z aY call):∀(ops:List bh)(fr:Fr)(st:St)(k:Fr->St->R),LZ z aY ops fr st k=mA z (iq call ops fr st) λx=>k x.1 x.2
 |[],fr,st,k=>rfl
 |o::os,fr,st,k=>by
  show y9 z fr o.guard (Ji z fr o.xs λxs=>HL z aY o.k xs st λv st=>jA fr o.dst v λfr=>LZ z aY os fr st k) (jA fr o.dst .undef λfr=>LZ z aY os fr st k)=_;rw[KP,HO];simp only[Qp z hc,KQ,HP hc os];simp only[iq];cases bF fr o.guard with
  |none=>rfl
  |some b=>
   cases b with
   |false=>rfl
   |    true=>
        simp only[];cases dM fr o.xs with
        |none=>rfl
        |some xs=>
         simp only[mA];cases bS call o.k xs st with
         |none=>rfl
         |some x=>rfl
theorem zJ(bt:Nat)(h:T AB):∀(recs:List Rec)(k:T AB->R),Dm bt h recs k=k (snap bt h recs)
 |[],k=>rfl
 |r::rs,k=>by
  show (match r.c with
   |    .new id au=>match bt.testBit r.idx with
        |true=>Dm bt h rs λh'=>mo (some au) id h' k
        |false=>Dm bt h rs k
   |.aC _ _=>k h
   |.pure=>Dm bt h rs k)=_
  unfold snap;cases r.c with
  |pure=>exact zJ bt h rs k
  |aC _ _=>rfl
  |new id au=>
   simp only[];cases bt.testBit r.idx with
   |true=>simp only[zJ bt h rs,gF]
   |false=>exact zJ bt h rs k
theorem NR(h:T AB):∀(l:List (Pos×AB))(k:T AB->R),PE h l k=k (qy l h)
 |[],k=>rfl
 |(id,au)::l,k=>by show PE h l (λh'=>mo (some au) id h' k)=_;rw[NR h l,gF];rfl
theorem uv(bt:Nat)(op:av)(xs:List AV)(v:AV):∀(recs:List Rec)(up:List (Pos×AB)),nD bt op xs v up recs=jz bt op xs v up recs
 |[],up=>rfl
 |r::rs,up=>by
  unfold nD jz;cases r.c with
  |pure=>exact uv bt op xs v rs up
  |new id au=>simp only[uv bt op xs v rs]<;>(cases bt.testBit r.idx<;>rfl)
  |aC base _=>
   simp only[uv bt op xs v rs,zJ,NR];unfold PG kB;simp only[DK]<;>(cases bt.testBit r.idx<;>rfl)
theorem Qq (hc:CK z aY call):∀(ops:List (Nat×bh))(recs:List Rec)(base:T AB)(fr:Fr)(st:St)(k:Fr->St->R),
  Dn z aY ops recs base fr st k=mA z (cF call ops recs base fr st) λx=>k x.1 x.2
 |[],recs,base,fr,st,k=>rfl
 |(j,   o)::  os,recs,base,fr,st,k=>by
  show y9   z fr o.guard
    (Ji   z fr o.xs λxs=>match o.cls with
        | .new=>match o.k.run (λ_=>none) st.next xs with
          |some (.aC v none none (some au))=>oE v λv=>y6 au λau=>jA fr o.dst v λfr=>Ki st.next λn=>mo (some au) st.next st.heap λh=>
              Dn z aY os ({ idx:=j,o:=o,v:=v,c:= .new st.next au,nx:=n }::recs) base fr { heap:=h,next:=n } k
          |_=>z
        |.aC=>HL z aY o.k xs st λv st'=>jA fr o.dst v λfr=>Dn z aY os ({ idx:=j,o:=o,v:=v,c:= .aC base st'.heap,nx:=st'.next }::recs) st'.heap fr st' k
        | _ =>match o.k.run (λ_=>none) .h xs with
          |some (.val v)=>oE v λv=>jA fr o.dst v λfr=>Dn z aY os ({ idx:=j,o:=o,v:=v,c:= .pure,nx:=st.next }::recs) base fr st k
          | _ =>Dm o.bt base recs λh=>match o.k.run (λb=>kI b h) .h xs with
            | some (.val v)=>oE v λv=>match nD o.bt o.k xs v [] recs with
              |true=>jA fr o.dst v λfr=>Dn z aY os ({ idx:=j,o:=o,v:=v,c:= .pure,nx:=st.next }::recs) base fr st k
              |false=>z
            |_=>z)
    (jA fr o.dst .undef λfr=>Dn z aY os ({ idx:=j,o:=o,v:= .undef,c:= .pure,nx:=st.next }::recs) base fr st k)=_
  rw[KP,HO];simp only[Qp z hc,KQ,A8,DI,DJ,gF,zJ,uv,DK,Qq hc os];simp only[cF];cases bF fr o.guard with
  |none=>rfl
  | some b=>
    cases b with
    |false=>rfl
    |   true=>
        simp only[];cases dM fr o.xs with
        |none=>rfl
        | some xs=>
          simp only[mA];cases o.cls with
          | new=>
            simp only[];split<;>simp_all
          | aC=>
            simp only[];cases bS call o.k xs st with
            |none=>rfl
            |some x=>rfl
          | pure=>
            simp only[];split
            .simp_all
            .split<;>simp_all;split<;>simp_all
          | read=>
            simp only[];split
            .simp_all
            .split<;>simp_all;split<;>simp_all
def Qr(r:Option (iF×Fr×St))(kn:Fr->St->R)(kx:Nat->Fr->St->R)(kr:Fr->St->R):R:=match r with
 |some (.normal,fr,st)=>kn fr st
 |some (.exit id,fr,st)=>kx id fr st
 |some (.ret,fr,st)=>kr fr st
 |none=>z
theorem Ju(hc:CK z aY call):∀(m:Nat)(c:AC)(fr:Fr)(st:St)(kn:Fr->St->R)(kx:Nat->Fr->St->R)(kr:Fr->St->R),
  Kj z aY m c fr st kn kx kr=Qr z (exec call m c fr st) kn kx kr
 |0,c,fr,st,kn,kx,kr=>rfl
 |m+    1,c,fr,st,kn,kx,kr=>by
  have ih:=Ju hc m;show nE z aY (Kj z aY m) c fr st kn kx kr=Qr z (aX call (exec call m) c fr st) kn kx kr;cases c with
  |skip=>rfl
  |region ops=>
   simp only[nE,aX,HP z hc];cases iq call ops fr st with
   |none=>rfl
   |some x=>rfl
  |draw ops=>
   simp only[nE,aX,Qq z hc];cases cF call ops [] st.heap fr st with
   |none=>rfl
   |some x=>rfl
  |seq a b=>
   simp only[nE,aX,ih];cases exec call m a fr st with
   |none=>rfl
   |    some x=>
        obtain⟨e,bI,aK⟩:=x;cases e<;>rfl
  |cond x a b=>
   simp only[nE,aX,FX];cases wU fr x with
   |none=>rfl
   |    some v=>
        simp only[mA];(cases v<;>try rfl);rename_i t;cases t<;>simp only[ih]
  |block id a=>
   simp only[nE,aX,ih];cases exec call m a fr st with
   |none=>rfl
   |    some x=>
        obtain⟨e,bI,aK⟩:=x;(cases e<;>try rfl);rename_i pG;simp only[Qr];cases Nat.beq pG id<;>rfl
  |loop a=>
   simp only[nE,aX,ih];cases exec call m a fr st with
   |none=>rfl
   |    some x=>
        obtain⟨e,bI,aK⟩:=x;cases e<;>rfl
  |exit id=>rfl
  |ret=>rfl
theorem yP:∀(vs:List AV)(i:Nat)(fr:Fr)(k:Fr->R),vU vs i fr k=k (params i vs fr)
 |[],i,fr,k=>rfl
 |v::vs,i,fr,k=>by show mo (some v) (key i) fr (λfr=>vU vs (i+1) fr k)=_;rw[gF,yP vs];rfl
theorem Sp(st:St)(fr:Fr)(rs:List wT)(k:AV->R):vW z st fr rs k=mA z (bY (λb=>st.heap.get b) fr rs) λvs=>k (fL vs):=by
 unfold vW;rw[DK];cases bY (λb=>st.heap.get b) fr rs with
 |none=>rfl
 |some vs=>
  simp only[DH,mA];cases vs with
  |nil=>rfl
  |cons v vs=>cases vs<;>rfl
theorem DM (O:dR)(G:T b7)(m:Nat):∀d,CK z (AM z O G m d) (nM O G m d)
 |0=>λf args st k=>rfl
 |d+    1=>fun f args st k=>by
  have ih:=DM O G m d;show( match O f with
   |    some s=>match s args st with
        |some (v,st')=>oE v λv=>k v st'
        |none=>z
   |    none=>match kI (key f) G with
        |some F=>match Nat.beq args.length F.nparams with
         |true=>vU args 0 .e λfr=>Kj z (AM z O G m d) m F.code fr st
             (λfr st=>vW z st fr F.results λv=>k v st)
             (λ_ _ _=>z)
             (λfr st=>vW z st fr F.results λv=>k v st)
         |false=>z
        |none=>z)=_
  simp only[nM,A8,qF,yP,Ju z ih,Sp];cases O f with
  |some s=>
   simp only[];cases s args st with
   |none=>rfl
   |some x=>rfl
  |none=>
   simp only[];cases G.get (key f)with
   |none=>rfl
   |    some F=>
        simp only[];cases Nat.beq args.length F.nparams with
        |false=>rfl
        |true=>
         simp only[];cases exec (nM O G m d) m F.code (params 0 args .e) st with
         |none=>rfl
         |  some x=>
            obtain⟨e,bI,aK⟩:=x;cases e with
            |normal=>
             simp only[Qr];cases bY (λb=>aK.heap.get b) bI F.results<;>rfl
            |exit id=>rfl
            |ret=>
             simp only[Qr];cases bY (λb=>aK.heap.get b) bI F.results<;>rfl
end
end
section
open Go
def UM (P:Program)(t:Nat)(ti:TI):Bool:=
 match P.underlying t,P.info? t with
 |  some d,some i=>bu ti.k d&&Nat.beq i.size ti.size&&Nat.beq i.bytes ti.bytes&&
    (match ti.zero with
     |none=>true
     | some z=>match i.zero with
       |some v=>(match lM v.cells.toList with
           |some z'=>nL z' z
           |none=>false)&&Nat.beq z.length ti.size&&(match ti.k.isAgg,v with
           |true,.agg _=>true
           |true,_=>false
           |false,.agg _=>false
           |false,_=>true)
       |none=>false)&&(match ti.k with
     |.ptr e=>(P.info? e).isSome
     |_=>true)&&(!ti.sy||(!P.stoodInHeld t&& !P.eqGuardType P.depth t))
 |_,_=>false
theorem Zf{P:Program}{t:Nat}{ti:TI}(h:UM P t ti=true):Uj P t ti:=by
 unfold UM at h;split at h<;>first|(cases h;done)|skip
 rename_i d i hd hi;simp only[Za8,Zh9,Zh2]at h;obtain⟨⟨⟨⟨⟨h1,h2⟩,h3⟩,h4⟩,h6⟩,h5⟩:=h;refine⟨⟨d,hd,h1⟩,⟨i,hi,Za1 h2,Za1 h3,λz hz=> ?_⟩,λe he=> ?_,λhe=> ?_⟩
 . rw[hz]at h4;simp only at h4;(split at h4<;>first|(cases h4;done)|skip);rename_i v hv;simp only[Za8]at h4;obtain⟨⟨g1,g2⟩,g3⟩:=h4;(split at g1<;>first|(cases g1;done)|skip);rename_i z' vD;rw[wO g1]at vD;refine⟨v,hv,vD,Za1 g2,λha=> ?_,λha=> ?_⟩
   .rw[ha]at g3;cases v<;>first|exact⟨_,rfl⟩|cases g3
   .rw[ha]at g3;cases v<;>first|rfl|cases g3
 .rw[he]at h6;exact Option.isSome_iff_exists.1 h6
 . rcases h5 with h5|h5
   .rw[he]at h5;cases h5
   .exact h5
def yX(P:Program):(Pos->Pos)->T TI->Bool
 |_,.e=>true
 |  f,.n l v r=>(match v with
    |some ti=>UM P ((f .h).toNat - 1) ti
    |none=>true)&&yX P (λp=>f (.o p)) l&&yX P (λp=>f (.i p)) r
theorem DN{P:Program}:∀{t:T TI}{f:Pos->Pos},yX P f t=true->∀p ti,t.get p=some ti->Uj P ((f p).toNat - 1) ti
 |.e,f,_,p,ti,h=>by rw[T.cZ]at h;cases h
 | .n l v r,f,hc,p,ti,h=>by
   simp only[yX,Za8]at hc;cases p with
   |h=>simp only[T.get]at h;rw[h]at hc;exact Zf hc.1.1
   |o p=>exact DN hc.1.2 p ti h
   |i p=>exact DN hc.2 p ti h
theorem aaY{P:Program}{tt:TT}(h:yX P (λp=>p) tt=true):bH P tt:=λp ti hp=>DN h p ti hp
end
noncomputable section
open Go
def Cr{α:Type}(g:Nat->Option α):Nat->Nat->Nat->T α
 |0,_,_=>.e
 |d+1,a,m=>.n (Cr g d a (2*m)) (g (a+m - 1)) (Cr g d (a+m) (2*m))
theorem DO{α:Type}{g:Nat->Option α}:∀{d a m:Nat}{p:Pos}{x:α},(Cr g d a m).get p=some x->g (a+m*p.toNat - 1)=some x
 |0,_,_,p,x,h=>by rw[Cr,T.cZ]at h;cases h
 |d+1,a,m,.h,x,h=>by rw[Pos.toNat,Zj5];exact h
 |d+1,a,m,.o p,x,h=>by
  have:=DO (d:=d) (a:=a) (m:=2*m) (p:=p) (x:=x) h;rw[Pos.toNat];have e:a+m*(2*p.toNat) - 1=a+2*m*p.toNat - 1:=by rw[<-Nat.mul_assoc,Nat.mul_comm m 2]
  rw[e];exact this
 |d+1,a,m,.i p,x,h=>by
  have:=DO (d:=d) (a:=a+m) (m:=2*m) (p:=p) (x:=x) h;rw[Pos.toNat];have e:a+m*(2*p.toNat+1) - 1=a+m+2*m*p.toNat - 1:=by rw[Nat.mul_add,Zj5, <-Nat.mul_assoc,Nat.mul_comm m 2];omega
  rw[e];exact this
def aaO(P:Program)(tt:TT)(i:Nat):Option b7:=match P.funcs[i]? with
 |some fn=>Pa tt fn
 |none=>none
def ggOf(P:Program)(tt:TT):T b7:=Cr (aaO P tt) 10 0 1
theorem aaZ{P:Program}{tt:TT}(h:(P.funcs.toList.all λfn=> !(fn.name== "runtime.NumGoroutine"))=true):Ka P tt (ggOf P tt):=λp F hp=>by
 have:=DO hp;rw[Zc3,Zm8,aaO]at this;split at this<;>first|(cases this;done)|skip
 rename_i fn yh;refine⟨fn,yh,?_,this⟩;have:=Zc9.1 h fn (by obtain⟨hi,e⟩:=Zc8.1 yh;exact Zk3.2 (e ▸Array.getElem_mem hi));simpa using this
def tkOf(P:Program)(t:Nat):TK:=match P.underlying t with
 |some .bool=>.bool
 |some (.int k)=>.int k
 |some .string=>.string
 |some (.pointer e)=>.ptr e
 |some (.slice e)=>.slice e
 |some (.array n e)=>.array n e
 |some (.map k e)=>.map k e
 |some (.struct fs)=>.struct (fs.toList.map λf=>(f.offset,f.type,f.name != "_"))
 |some (.func _ _ _)=>.func
 |some (.interface _)=>.iface
 |some .unsafePointer=> .VP
 |_=>.other
def zeroOf:Option Value->Option (List AV)
 |  some v=>match Nat.ble v.cells.size 64 with
    |true=>lM v.cells.toList
    |false=>none
 |none=>none
def memN(n:Nat):List Nat->Bool
 |[]=>false
 |  m::l=>match Nat.beq m n with
    |true=>true
    |false=>memN n l
def tiOf(P:Program)(eqs:List Nat)(t:Nat):Option TI:=match P.info? t with
 |none=>none
 |some i=>some { k:=tkOf P t,size:=i.size,bytes:=i.bytes,zero:=zeroOf i.zero,sy:=memN t eqs }
def ttOf(P:Program)(eqs:List Nat):T TI:=Cr (tiOf P eqs) 10 0 1
def kS(p n c e:Nat):AV:= .slice (key p) 0 n (some c) e
end
section
open Go
structure kZ(P:Program)(C:Cells)(f:FuncId)(s:List AV->St->Option (AV×St)):Prop where
 mono:∀args st v st',s args st=some (v,st')->st.next.toNat<=st'.next.toNat
 runs:∀(ρ:Pos->Loc)(st:St)(w:World)(args:List AV)(v:AV)(st':St)(bw:List Value),s args st=some (v,st')->
  aU ρ C st w->aq ρ st.next.toNat C args bw->Reaches P (kL ρ C st w v st') ((callFunc f bw.toArray).run P w)
def ud:List (Nat×(List AV->St->Option (AV×St)))->dR
 |[]=>λ_=>none
 |  (g,s)::l=>λf=>match Nat.beq f g with
    |true=>some s
    |false=>ud l f
theorem sM{P:Program}{C:Cells}:∀{l:List (Nat×(List AV->St->Option (AV×St)))},(∀x∈l,kZ P C x.1 x.2)->nU P C (ud l)/\jK (ud l)
 |[],_=>⟨λf s h=>by simp[ud]at h,λf s h=>by simp[ud]at h⟩
 |(g,   s0)::l,hl=>by
  obtain⟨h1,h2⟩:=sM λx hx=>hl x (Za6 _ hx)
  have h0:=hl _ (Zc6 ..);refine⟨λf s h=> ?_,λf s h=> ?_⟩
  . simp only[ud]at h;split at h
    .   rename_i he;simp only[H0]at h;subst h;have:=Za1 he;subst this;exact h0.runs
    .   exact h1 f s h
  . simp only[ud]at h;split at h
    .   simp only[H0]at h;subst h;exact h0.mono
    .   exact h2 f s h
def Fz:List AV->St->Option (AV×St)
 |  [.str a,.str b],st=>some (.int .i64 (match aB a b with
    |true=>.negSucc 0
    |false=>match aB b a with
     |true=>.ofNat 1
     |false=>.ofNat 0),st)
 |_,_=>none
theorem FY:∀(x y:List UInt8),Lib.compareBytes x y=match aB (x.map UInt8.toNat) (y.map UInt8.toNat)with
  |true=>.negSucc 0
  | false=>match aB (y.map UInt8.toNat) (x.map UInt8.toNat)with
    |true=>.ofNat 1
    |false=>.ofNat 0
 |[],[]=>rfl
 |[],_::_=>rfl
 |_::_,[]=>rfl
 |a ::x  ,b::y=>by
  rw[oQ,oQ];have ih:=FY x y;rw[oQ,oQ]at ih;simp only[Lib.compareBytes,Op.bytesLess];by_cases h:a<b
  .simp[h]
  . by_cases h':b<a
    .   have cj:(a==b)=false:=(by rw[Zm9];exact λe=>by subst e;exact h h');simp[h,h',cj]
    .   have he:a=b:=(by apply Zo6.1;rw[Zm1]at h h';omega);subst he;simp only[h,Zh4,ih];simp
theorem YE{P:Program}{C:Cells}{f:FuncId}{fn:Func}(hf:P.funcs[f]? =some fn)(iB:(fn.name== "runtime.NumGoroutine")=false)(hb:fn.body.isNone=true)
  (hx:Extern.findNext fn=none) (he:Extern.find fn=some Extern.BytealgCompare.compare):kZ P C f Fz where
 mono args st v st' h:=by unfold Fz at h;split at h<;>cases h;exact Za4 _
 runs ρ st w args v st' bw h hW hv:=by
  unfold Fz at h;split at h<;>cases h;rename_i a b;obtain⟨x,xs,rfl,h1,h2⟩:=hv.cons_inv;obtain⟨y,ys,rfl,h3,h4⟩:=h2.cons_inv;have:=h4.lC;subst this;obtain⟨s,rfl,hs⟩:=h1.dO;obtain⟨t,rfl,ht⟩:=h3.dO;have bP:(callFunc f [Value.string s,Value.string t].toArray).run P w= .ok (.value (.int .i64 (Lib.compareBytes s.data.toList t.data.toList))) w:=by rw[run_callFunc_extern hf iB hb hx he];show((Extern.BytealgCompare.compare #[.string s,.string t]).run P w).andThen _=_;rw[Lib.run_compareString];rfl
  rw[bP];refine⟨ρ,?_,λ_ _=>rfl,Za4 _,hW,iT.refl _ _ _⟩;rw[FY,hs,ht];exact .int _ _
def w9:List AV->List AV->Bool
 |[],[]=>true
 |a::x,b::y=>dJ a b&&w9 x y
 |_,_=>false
theorem A9:∀{a b:List AV},w9 a b=true->a=b
 |[],[],_=>rfl
 |[],_::_,h=>by simp[w9]at h
 |_::_,[],h=>by simp[w9]at h
 |a::x,b::y,h=>by
  simp only[w9,Za8]at h;rw[nX h.1,A9 h.2]
def HQ:List (AV×AV×Nat)->List (AV×AV×Nat)->Bool
 |[],[]=>true
 |(a,b,n)::x,(a',b',n')::y=>dJ a a'&&dJ b b'&&Nat.beq n n'&&HQ x y
 |_,_=>false
theorem Qt:∀{a b:List (AV×AV×Nat)},HQ a b=true->a=b
 |[],[],_=>rfl
 |[],_::_,h=>by simp[HQ]at h
 |_::_,[],h=>by simp[HQ]at h
 |(a,b,n)::x,(a',b',n')::y,h=>by
  simp only[HQ,Za8]at h;obtain⟨⟨⟨h1,h2⟩,h3⟩,h4⟩:=h;rw[nX h1,nX h2,Za1 h3,Qt h4]
def Ba:AB->AB->Bool
 |.cells cs fz,.cells kz fz'=>w9 cs kz&&Nat.beq fz fz'
 |.map es c,.map es' c'=>HQ es es'&&Nat.beq c c'
 |.iD s p,.iD s' p'=>gP s s'&&Nat.beq p p'
 |.typed t cs,.typed t' kz=>w9 cs kz&&Nat.beq t t'
 |_,_=>false
theorem Jv{a b:AB}(h:Ba a b=true):a=b:=by
 unfold Ba at h;split at h<;>(try simp only[Za8]at h)
 .rw[A9 h.1,Za1 h.2]
 .rw[Qt h.1,Za1 h.2]
 .rw[jI.1 h.1,Za1 h.2]
 .rw[A9 h.1,Za1 h.2]
 .cases h
structure Lit where
 args:List AV
 n0:Pos
 L0:List (Pos×AB)
 v:AV
 n1:Pos
 L1:List (Pos×AB)
end
end Go.Ai
